/- Part of the proof: an evaluator of the model's code, rules for walks on it, walks. Without conditions. -/
import Derived.Test.YtpomgjnfncgkgaaGreatDoorEb
import Derived.Test.YtpomgjnfncgkgaaGreatDoorEd
import Derived.Test.YtpomgjnfncgkgaaGreatDoorEc
import Derived.Test.YtpomgjnfncgkgaaGreatDoorProg
import Derived.KernelRfl
set_option linter.unusedSectionVars false
set_option linter.unusedVariables false
set_option linter.unusedSimpArgs false
noncomputable section
namespace Go.Ev
variable [Env]
open Go.Proofs
set_option maxRecDepth 4000
set_option maxHeartbeats 8000000
theorem F3 {G:Cx} (b:Plain G) {K:KP} (e:db) {U:D} {L:Own} (aq:J U K L):bk Tryz.prog G 110 [.agg<|ints e.ints] U fun v U'=>v= .bool (dD e)/\J U' K L:=by
 refine PS b Tryz.func110 Z<|Pt 2 Z<|kp aq Z (cz Z Z) (fun U b1 aq=>?_);refine OX aq 8 [0,0] Z Z<|ky Z (an Z) (fun a=>?_) (fun a=>?_)
 ·refine Px 8 Z ?_;exact aA Z Z ⟨cB (by unfold dD;simp only[a,ct,cf]),aq.pop⟩
 refine PF aq 8 [0,0] Z Z ?_;exact aA Z Z ⟨cB (by unfold dD;simp only[a,ct,cf]),aq.pop⟩
theorem kj {G:Cx} (b:Plain G) {K:KP} (e:db) {U:D} {L:Own} (aq:J U K L):bk Tryz.prog G 68 [.agg<|ints e.ints] U fun v U'=>v= .bool (bq e)/\J U' K L:=by
 refine PS b Tryz.func68 Z<|Pt 2 Z<|kp aq Z (cz Z Z) (fun U b1 aq=>?_);refine OX aq 8 [0,0] Z Z<|ky Z (an Z) (fun a=>?_) (fun a=>?_)
 ·refine Px 8 Z ?_;exact aA Z Z ⟨cB (by unfold bq;simp only[a,ct,cf]),aq.pop⟩
 refine PF aq 8 [0,0] Z Z ?_;exact aA Z Z ⟨cB (by unfold bq;simp only[a,ct,cf]),aq.pop⟩
theorem AF {G:Cx} (P:Plain G) {K:KP} {g:XG} {a b c d:V} (h:eN K g a b c d) (th ix:Int) {U:D} {L:Own} (aq:J U K L):bk Tryz.prog G 71 [.agg [a,b,c,d],.agg [.int .i64 th,.int .i64 ix]] U fun v U'=>v= .tuple [.agg<|ints (AP<|fh g ⟨th,ix⟩).ints,.bool (fh g ⟨th,ix⟩).isSome]/\J U' K L:=by
 have h':=h;obtain⟨M,r,hf,ho⟩:=h';refine PS P Tryz.func71 Z<|Pt 2 Z<|kp aq Z (cz Z Z) (fun U b1 aq=>?_);refine kp aq Z (cz Z Z) (fun U b2 aq=>?_);refine kp aq Z (QE (cs:=[T,T,T,T,T])) (fun U b3 aq=>?_);refine Ou aq 9 [0,1] Z Z<|ky Z (an Z) (fun F=>?_) (fun F=>?_)
 ·refine OO 17 Z (O Z (Qy (places:=[(0,1),(1,1),(2,1),(3,1),(4,1)]) (zero:=[T,T,T,T,T]) (cs:=[_,_,_,_,_]) Z) Z<|bO aq Z (QH Z Z Z aq.g0 (m:=5) Z Z (cells':=[_,_,_,_,_]) Z) Z (fun U aq=>?_));refine OQ 5 Z ?_;exact br Z Z aq.g0 (m:=5) Y Z Z ⟨by rw[tL F];rfl,aq.pop.pop.pop⟩
 refine P3 aq 4 [0,1,1,2] Z Z<|O Z (QD r Z Z Z (e:=57) Z) Z<|PZ 2 Z<|ky Z (an Z) (fun i=>?_) (fun i=>?_)
 ·refine OO 9 Z (O Z (Qy (places:=[(0,1),(1,1),(2,1),(3,1),(4,1)]) (zero:=[T,T,T,T,T]) (cs:=[_,_,_,_,_]) Z) Z<|bO aq Z (QH Z Z Z aq.g0 (m:=5) Z Z (cells':=[_,_,_,_,_]) Z) Z (fun U aq=>?_));refine OQ 5 Z ?_;exact br Z Z aq.g0 (m:=5) Y Z Z ⟨by rw[BD i];rfl,aq.pop.pop.pop⟩
 refine PC aq 6 [1,1] Z Z<|aE Z (fun o=>?_) (fun o=>?_)
 ·refine Pt 2 Z (O Z (Qy (places:=[(0,1),(1,1),(2,1),(3,1),(4,1)]) (zero:=[T,T,T,T,T]) (cs:=[_,_,_,_,_]) Z) Z<|bO aq Z (QH Z Z Z aq.g0 (m:=5) Z Z (cells':=[_,_,_,_,_]) Z) Z (fun U aq=>?_));refine OQ 5 Z ?_;exact br Z Z aq.g0 (m:=5) Y Z Z ⟨by rw[qI o];rfl,aq.pop.pop.pop⟩
 obtain⟨tn,rfl⟩:=iQ F;obtain⟨ixn,rfl⟩:=iQ o;refine Ot aq 8 [0,1] Z Z<|Pv 2 Z<|aE Z (fun j=>?_) (fun j=>?_)
 ·obtain rfl:tn=0:=by rw[dF] at j;simpa using j
  refine OU aq 7 [1,1,0,2] Z Z<|O Z (QD M Z Z Z (e:=2) Z) Z<|Pv 3 Z<|aE Z (fun p=>?_) (fun p=>?_)
  ·refine Pt 2 Z (O Z (Qy (places:=[(0,1),(1,1),(2,1),(3,1),(4,1)]) (zero:=[T,T,T,T,T]) (cs:=[_,_,_,_,_]) Z) Z<|bO aq Z (QH Z Z Z aq.g0 (m:=5) Z Z (cells':=[_,_,_,_,_]) Z) Z (fun U aq=>?_));refine Px 4 Z<|aw<|aw (?_);exact br Z Z aq.g0 (m:=5) Y Z Z ⟨by rw[show fh g _=none from by show(g.init[ixn]?).map _=_;rw[gN_<|nZ p];rfl];rfl,aq.pop.pop.pop⟩
  refine OJ 3 Z<|aS (l:=zp [0,1,2,3,4,5,6,7,8,9,10]) Y Y<|P4 aq 6 [1,1,0,2,1,1] Z Z ?_;obtain⟨ax,k⟩:=cm (n8 p);refine Qv (e:=2) (m:=1) M k Z Z Z Z Z (fun aI aa s ab t=>?_);obtain rfl:=t;refine al Z Z (QF aq s Z Z) Z (al Z Z (Qy (places:=[(0,1),(1,1),(2,1),(3,1),(4,1)]) (zero:=[T,T,T,T,T]) (cs:=[_,_,_,_,_]) Z) Z<|kb aq Z Z (QH Z Z Z aq.g0 (m:=5) Z Z (cells':=[_,_,_,_,_]) Z) Z (fun U aq=>?_));refine⟨aV,?_⟩;refine OT 5 Z ?_;exact br Z Z aq.g0 (m:=5) Y Z Z ⟨by rw[show fh g _=some _ from by show(g.init[ixn]?).map _=_;rw[k];rfl];rfl,aq.pop.pop.pop⟩
 obtain⟨tm,rfl⟩:=FR j;refine OJ 3 Z<|ak<|aS (l:=zp [0,1,2,3,4,5,6,7,8,9,10]) Y Y<|P4 aq 7 [1,1,1,2,0,1] Z Z ?_;obtain⟨aY,f⟩:=cm (show tm<g.threads.length from by have:=mK i;omega);refine Qv (e:=57) (m:=1) r f Z Z Z Z (cI<|ej (by have:=mK i;have:=r.bG;omega)) (fun a0 ac u ag w=>?_);have hr49':=w;obtain⟨a1,rfl,x⟩:=hr49';refine al Z Z (QF aq u Z Z) Z<|al Z Z (QD x Z Z Z (e:=56) Z) Z<|Py 3 Z<|aE Z (fun q=>?_) (fun q=>?_)
 ·refine Pt 2 Z (O Z (Qy (places:=[(0,1),(1,1),(2,1),(3,1),(4,1)]) (zero:=[T,T,T,T,T]) (cs:=[_,_,_,_,_]) Z) Z<|bO aq Z (QH Z Z Z aq.g0 (m:=5) Z Z (cells':=[_,_,_,_,_]) Z) Z (fun U aq=>?_));refine OQ 5 Z ?_;exact br Z Z aq.g0 (m:=5) Y Z Z ⟨by rw[show fh g _=none from by show(g.threads[tm]?).bind _=_;rw[f];exact gN_<|nZ q];rfl,aq.pop.pop.pop⟩
 refine OJ 3 Z<|aS (l:=zp [0,1,2,3,4,5,6,7,8,9,10,11,12]) Y Y<|P4 aq 5 [1,2,0,1] Z Z<|Qv (e:=57) (m:=1) r f Z Z Z Z (cI<|ej (by have:=mK i;have:=r.bG;omega)) (fun a2 am y ao z=>?_);have hr59':=z;obtain⟨a3,rfl,A⟩:=hr59';refine al Z Z (QF aq y Z Z) Z<|P4 aq 2 [1,1] Z Z ?_;obtain⟨a4,n⟩:=cm (n8 q);refine Qv (e:=56) (m:=5) A n Z Z Z Z Z (fun a5 ap C ar E=>?_);obtain rfl:=E;refine al Z Z (QG aq C Z Z) Z<|kb aq Z Z (QH Z Z Z aq.g0 (m:=5) Z Z (cells':=[_,_,_,_,_]) Z) Z (fun U aq=>?_);refine⟨aV,?_⟩;refine Pz 4 Z ?_;exact br Z Z aq.g0 (m:=5) Y Z Z ⟨by rw[show fh g _=some _ from by show(g.threads[tm]?).bind _=_;rw[f];exact n];rfl,aq.pop.pop.pop⟩
theorem AG {G:Cx} (l:Plain G) {K:KP} (e:db) (n:Int) {U:D} {L:Own} (aq:J U K L):bk Tryz.prog G 74 [.agg<|ints e.ints,.int .i64 n] U fun v U'=>v= .bool (bW e n)/\J U' K L:=by
 refine PS l Tryz.func74 Z<|Pt 2 Z<|kp aq Z (cz Z Z) (fun U b1 aq=>?_);refine Ou aq 9 [0,0] Z Z<|ky Z (an Z) (fun j=>?_) (fun j=>?_)
 ·refine OQ 24 Z ?_;exact aA Z Z ⟨cB (by unfold bW aX;simp only[j,ct,cf]),aq.pop⟩
 refine P3 aq 4 [0,0] Z Z<|ky Z (an Z) (fun a=>?_) (fun a=>?_)
 ·refine OQ 19 Z ?_;exact aA Z Z ⟨cB (by unfold bW aX;simp only[j,a,ct,cf]),aq.pop⟩
 refine P3 aq 4 [2,0] Z Z<|ky Z (an Z) (fun c=>?_) (fun c=>?_)
 ·refine OQ 14 Z ?_;exact aA Z Z ⟨cB (by unfold bW aX;simp only[j,a,c,ct,cf]),aq.pop⟩
 refine PC aq 6 [2,0] Z Z<|aE Z (fun d=>?_) (fun d=>?_)
 ·refine Pu 7 Z ?_;exact aA Z Z ⟨cB (by unfold bW aX;simp only[j,a,c,d,ct,cf]),aq.pop⟩
 refine Ol 5 Z<|O Z (QC Z aq.g0 (n:=5) (vs:=[_,_,_,_,_]) Z) Z<|bf Z (Qz Z Z Z) (fun _=>Z) (F3 l _ aq) (fun U aq=>?_);refine O Z (cV Z) Z<|ky Z (an Z) (fun g=>?_) (fun g=>?_)
 ·refine P3 aq 4 [3,0] Z Z<|ky Z (an Z) (fun k=>?_) (fun k=>?_)
  ·refine OQ 19 Z ?_;exact aA Z Z ⟨cB (by unfold bW aX;simp only[j,a,c,d,g,k,ct,cf]),aq.pop⟩
  refine O Z (QC Z aq.g0 (n:=5) (vs:=[_,_,_,_,_]) Z) Z<|bf Z (Qz Z Z Z) (fun _=>Z) (kj l _ aq) (fun U aq=>?_);refine O Z (cV Z) Z<|ky Z (an Z) (fun f=>?_) (fun f=>?_)
  ·refine PC aq 7 [4,0] Z Z<|aE Z (fun i=>?_) (fun i=>?_)
   ·refine Pu 7 Z ?_;exact aA Z Z ⟨cB (by unfold bW aX;simp only[j,a,c,d,g,k,f,i,ct,cf]),aq.pop⟩
   refine Ot aq 8 [0,0] Z Z<|Pv 2 Z<|aE Z (fun b=>?_) (fun b=>?_)
   ·refine PB aq 10 [1,0] Z Z ?_;exact aA Z Z ⟨cB (by unfold bW aX;simp only[j,a,c,d,g,k,f,i,b,ct,cf]),aq.pop⟩
   refine OV aq 7 [1,0] Z Z<|ky Z (an Z) (fun h=>?_) (fun h=>?_)
   ·refine PF aq 9 [1,0] Z Z ?_;exact aA Z Z ⟨cB (by unfold bW aX;simp only[j,a,c,d,g,k,f,i,b,h,ct,cf]),aq.pop⟩
   refine Px 9 Z ?_;exact aA Z Z ⟨cB (by unfold bW aX;simp only[j,a,c,d,g,k,f,i,b,h,ct,cf]),aq.pop⟩
  refine Pv 8 Z<|Ot aq 8 [0,0] Z Z<|Pv 2 Z<|aE Z (fun b=>?_) (fun b=>?_)
  ·refine PB aq 10 [1,0] Z Z ?_;exact aA Z Z ⟨cB (by unfold bW aX;simp only[j,a,c,d,g,k,f,b,ct,cf]),aq.pop⟩
  refine OV aq 7 [1,0] Z Z<|ky Z (an Z) (fun h=>?_) (fun h=>?_)
  ·refine PF aq 9 [1,0] Z Z ?_;exact aA Z Z ⟨cB (by unfold bW aX;simp only[j,a,c,d,g,k,f,b,h,ct,cf]),aq.pop⟩
  refine Px 9 Z ?_;exact aA Z Z ⟨cB (by unfold bW aX;simp only[j,a,c,d,g,k,f,b,h,ct,cf]),aq.pop⟩
 refine PZ 5 Z<|O Z (QC Z aq.g0 (n:=5) (vs:=[_,_,_,_,_]) Z) Z<|bf Z (Qz Z Z Z) (fun _=>Z) (kj l _ aq) (fun U aq=>?_);refine O Z (cV Z) Z<|ky Z (an Z) (fun f=>?_) (fun f=>?_)
 ·refine PC aq 7 [4,0] Z Z<|aE Z (fun i=>?_) (fun i=>?_)
  ·refine Pu 7 Z ?_;exact aA Z Z ⟨cB (by unfold bW aX;simp only[j,a,c,d,g,f,i,ct,cf]),aq.pop⟩
  refine Ot aq 8 [0,0] Z Z<|Pv 2 Z<|aE Z (fun b=>?_) (fun b=>?_)
  ·refine PB aq 10 [1,0] Z Z ?_;exact aA Z Z ⟨cB (by unfold bW aX;simp only[j,a,c,d,g,f,i,b,ct,cf]),aq.pop⟩
  refine OV aq 7 [1,0] Z Z<|ky Z (an Z) (fun h=>?_) (fun h=>?_)
  ·refine PF aq 9 [1,0] Z Z ?_;exact aA Z Z ⟨cB (by unfold bW aX;simp only[j,a,c,d,g,f,i,b,h,ct,cf]),aq.pop⟩
  refine Px 9 Z ?_;exact aA Z Z ⟨cB (by unfold bW aX;simp only[j,a,c,d,g,f,i,b,h,ct,cf]),aq.pop⟩
 refine Pv 8 Z<|Ot aq 8 [0,0] Z Z<|Pv 2 Z<|aE Z (fun b=>?_) (fun b=>?_)
 ·refine PB aq 10 [1,0] Z Z ?_;exact aA Z Z ⟨cB (by unfold bW aX;simp only[j,a,c,d,g,f,b,ct,cf]),aq.pop⟩
 refine OV aq 7 [1,0] Z Z<|ky Z (an Z) (fun h=>?_) (fun h=>?_)
 ·refine PF aq 9 [1,0] Z Z ?_;exact aA Z Z ⟨cB (by unfold bW aX;simp only[j,a,c,d,g,f,b,h,ct,cf]),aq.pop⟩
 refine Px 9 Z ?_;exact aA Z Z ⟨cB (by unfold bW aX;simp only[j,a,c,d,g,f,b,h,ct,cf]),aq.pop⟩
theorem CT {G:Cx} (l:Plain G) {K:KP} {g:XG} {a b c d:V} (h:eN K g a b c d) (th ix fth fix_:Int) {U:D} {L:Own} (aq:J U K L):bk Tryz.prog G 75 [.agg [a,b,c,d],.agg [.int .i64 th,.int .i64 ix],.agg [.int .i64 fth,.int .i64 fix_]] U fun v U'=>v= .bool (dJ g ⟨th,ix⟩ ⟨fth,fix_⟩)/\J U' K L:=by
 have h':=h;obtain⟨hi,ht,hf,ho⟩:=h';refine PS l Tryz.func75 Z<|Pt 2 Z<|kp aq Z (cz Z Z) (fun U b1 aq=>?_);refine kp aq Z (cz Z Z) (fun U b2 aq=>?_);refine kp aq Z (cz Z Z) (fun U b3 aq=>?_);refine OO 5 Z<|O Z (QC Z (aq.get 2 Z) (n:=4) (vs:=[_,_,_,_]) Z) Z<|O Z (QC Z aq.g1 (n:=2) (vs:=[_,_]) Z) Z<|bf Z (Qz Z Z Z) (fun _=>Z) (AF l h _ _ aq) (fun U aq=>?_);refine PZ 3 Z<|kp aq Z (QE (cs:=[T,T,T,T,T])) (fun U b4 aq=>?_);refine bO aq Z (QH Z Z Z aq.g0 (m:=5) Z Z (cells':=[_,_,_,_,_]) Z) Z (fun U aq=>?_);refine On 6 Z<|O Z (QC Z aq.g0 (n:=5) (vs:=[_,_,_,_,_]) Z) Z<|bf Z (Qz Z Z Z) (fun _=>Z) (F3 l _ aq) (fun U aq=>?_);refine O Z (cV Z) Z<|Pv 2 Z<|aE Z (fun e=>?_) (fun e=>?_)
 ·refine Pt 2 Z (O Z (QC Z aq.g1 (n:=2) (vs:=[_,_]) Z) Z (O Z (Qy (places:=[(0,1),(1,1)]) (zero:=[T,T]) (cs:=[_,_]) Z) Z<|O Z (J2 (n:=2) (ca:=[_,_]) (cb:=[_,_]) Y Z Z Z Z) Z<|OQ 5 Z ?_));exact aA Z Z ⟨cB (by unfold dJ;simp only[e,ct,cf]),aq.pop.pop.pop.pop⟩
 refine OK 4 Z<|O Z (QC Z (aq.get 3 Z) (n:=4) (vs:=[_,_,_,_]) Z) Z<|O Z (QC Z aq.g1 (n:=2) (vs:=[_,_]) Z) Z<|bf Z (Qz Z Z Z) (fun _=>Z) (AF l h _ _ aq) (fun U aq=>?_);refine PZ 3 Z<|kp aq Z (QE (cs:=[T,T,T,T,T])) (fun U b5 aq=>?_);refine bO aq Z (QH Z Z Z aq.g0 (m:=5) Z Z (cells':=[_,_,_,_,_]) Z) Z (fun U aq=>?_);refine OO 6 Z<|ky Z (an Z) (fun f=>?_) (fun f=>?_)
 ·refine O Z (QC Z (aq.get 2 Z) (n:=2) (vs:=[_,_]) Z) Z<|O Z (QC Z (aq.get 3 Z) (n:=2) (vs:=[_,_]) Z) Z<|O Z (zw (n:=2) (ca:=[_,_]) (cb:=[_,_]) Y Z Z Z Z) Z<|vQ 1 Z<|ky Z (an Z) (fun i=>?_) (fun i=>?_)
  ·refine O Z (QC Z aq.g0 (n:=5) (vs:=[_,_,_,_,_]) Z) Z<|bf Z (Qz Z Z Z) (fun _=>Z) (kj l _ aq) (fun U aq=>?_);refine vQ 1 Z<|ky Z (an Z) (fun j=>?_) (fun j=>?_)
   ·refine P3 aq 6 [1,0,1,1] Z Z<|ky Z (an Z) (fun k=>?_) (fun k=>?_)
    ·refine PF aq 10 [4,0,3,1] Z Z ?_;exact aA Z Z ⟨cB (by unfold dJ;simp only[e,f,i,j,k,ct,cf]),aq.pop.pop.pop.pop.pop⟩
    refine Px 10 Z ?_;exact aA Z Z ⟨cB (by unfold dJ;simp only[e,f,i,j,k,ct,cf]),aq.pop.pop.pop.pop.pop⟩
   refine Px 17 Z ?_;exact aA Z Z ⟨cB (by unfold dJ;simp only[e,f,i,j,ct,cf]),aq.pop.pop.pop.pop.pop⟩
  refine Px 21 Z ?_;exact aA Z Z ⟨cB (by unfold dJ;simp only[e,f,i,ct,cf]),aq.pop.pop.pop.pop.pop⟩
 refine Px 26 Z ?_;exact aA Z Z ⟨cB (by unfold dJ;simp only[e,f,ct,cf]),aq.pop.pop.pop.pop.pop⟩
theorem vx:C4 Tryz.prog 165 67 3 2:=⟨by kernel_rfl,by kernel_rfl,by kernel_rfl,by kernel_rfl,fun k c=>by
 match k,c with
 | [a,b],_=>
  show mI Tryz.prog 67 (.agg<|ints [a,b])=true
  kernel_rfl⟩
theorem Kr {ls:List (List dw)} {b m a:LM} {i c:Nat} {l:List dw} {x:dw} (d:nw ls 0 b=nw (ls.drop i) i a) (e:ls[i]?=some l) (f:lQ i l a=lQ i (l.drop c) m) (g:l[c]?=some x) (h:(gg m x.ints).isSome=false):nw ls 0 b=none:=by
 rw[d,cR e];show(lQ i l a).bind _=none;rw[f,cR g];show(bif (gg m x.ints).isSome then _ else none).bind _=none;rw[h];rfl
theorem Ks {ls:List (List dw)} {b m a:LM} {i c:Nat} {l:List dw} {x:dw} (d:nw ls 0 b=nw (ls.drop i) i a) (e:ls[i]?=some l) (f:lQ i l a=lQ i (l.drop c) m) (g:l[c]?=some x) (h:(gg m x.ints).isSome=true) (h':I ((gg m x.ints).getD 0) (.ofNat i)=false):nw ls 0 b=none:=by
 rw[d,cR e];show(lQ i l a).bind _=none;rw[f,cR g];show(bif (gg m x.ints).isSome then(bif I ((gg m x.ints).getD 0) (.ofNat i) then _ else none) else none).bind _=none;rw[h,h'];rfl
theorem AH {G:Cx} (hG:Plain G) {K:KP} {g:XG} {a b c d:V} (h:eN K g a b c d) {U:D} {L:Own} (aq:J U K L):bk Tryz.prog G 76 [.agg [a,b,c,d]] U fun v U'=>v= .bool (eB g)/\J U' K L:=by
 have h':=h;obtain⟨hi,ht,hf,ho⟩:=h';refine PS hG Tryz.func76 Z<|Pt 2 Z<|kp aq Z (cz Z Z) (fun U b1 aq=>?_);refine OO 5 Z<|Od aq Z Hz (fun _=>Z) (fun U b2 aq=>?_);refine Ou aq 8 [1,1] Z Z (O Z (QD ht Z Z Z (e:=57) Z) Z (OM 4 Z (bp (rg 4 4++rg 18 23) (fun j t U=>∃(i:Nat) (es:List fC) (ck:Nat) (m:LM),j+i=g.threads.length/\ft 2 es m/\pD g.threads 0 []=pD (g.threads.drop i) i m/\t.get 18=some (.int .i64 (.ofNat i))/\J U K ((b2,.map es ck)::(b1,.row [a,b,c,d] 26 false)::L)) (g.threads.length) ⟨0,[],0,[],Z,.nil,Z,Z,aq⟩ ?_)));clear aq;intro j3 t U ar E;obtain⟨i,es,ck,m,b6,hm,F,am,aq⟩:=E;obtain⟨oo,rfl⟩:=ar.q1 am Z;refine Ps 6 Z<|aE Z (fun M=>?_) (fun M=>?_)
 ·refine NP 7 Z ?_;obtain⟨s,C,a9⟩:=cL M;refine Qu (e:=57) (m:=1) ht C Z Z Z Z (fun b7 bb ao be ap=>?_);have hr21':=ap;obtain⟨b8,rfl,o⟩:=hr21';refine O Z (QF aq ao Z Z) Z<|OO 7 Z<|O Z (QD o Z Z Z (e:=56) Z) Z<|vQ 1 Z ?_;generalize P:m=Q at hm F;clear P;refine OM 3 Z (bp ([6,7]++rg 25 15) (fun j t U=>∃(f:Nat) (es:List fC) (ck:Nat) (m:LM),j+f=s.length/\ft 2 es m/\rm i s 0 Q=rm i (s.drop f) f m/\t.get 25=some (.int .i64 (.ofNat f))/\J U K ((b2,.map es ck)::(b1,.row [a,b,c,d] 26 false)::L)) (s.length) ⟨0,es,ck,Q,Z,hm,Z,Z,aq⟩ ?_);clear aq;intro j6 t U ar E;obtain⟨f,es,ck,m,b9,hm,R,ax,aq⟩:=E;obtain⟨oo,rfl⟩:=ar.q1 ax Z;refine Ps 6 Z<|aE Z (fun W=>?_) (fun W=>?_)
  ·refine NP 7 Z ?_;obtain⟨X,u,bi⟩:=cL W;refine Qu (e:=56) (m:=5) o u Z Z Z Z (fun ca bl aI bm aY=>?_);obtain rfl:=aY;refine O Z (QG aq aI Z Z) Z<|kp aq Z (QE (cs:=[T,T,T,T,T])) (fun U b3 aq=>?_);refine vQ 1 Z<|bO aq Z (QH Z Z Z aq.g0 (m:=5) Z Z (cells':=[_,_,_,_,_]) Z) Z (fun U aq=>?_);refine OO 4 Z<|O Z (QC Z aq.g0 (n:=5) (vs:=[_,_,_,_,_]) Z) Z<|bf Z (Qz Z Z Z) (fun _=>Z) (kj hG _ aq) (fun U aq=>?_);refine Pv 2 Z<|aE Z (fun aa=>?_) (fun aa=>?_)
   ·refine ai Z (PZ 4 Z (O Z (Qy (places:=[(0,1),(1,1)]) (zero:=[T,T]) (cs:=[_,_]) Z) Z<|P3 aq 2 [1,0] Z Z<|G8 vx hm aq (k:=[_,_]) Z Z Z Z Z Z Z (fun U es ck aq hm=>?_)));replace hm:=(show ft 2 es (p8 m [Int.ofNat (i+1),Int.ofNat f] X.loc) from by rw[<-bg (i:=i) (by have:=ht.bG;omega)];exact hm);refine af<|aJ<|PW 4 Z ?_;have aq:=aq.pop;refine aO ⟨j6-1,by omega,oF,f+1,es,ck,_,by omega,hm,by rw[R,cR u];show rm i _ (f+1) (wL i m f X)=_;unfold wL;rw[aa];rfl,cI<|bg (by have:=o.bG;omega),aq⟩
   refine aG<|aJ<|PW 4 Z ?_;have aq:=aq.pop;refine aO ⟨j6-1,by omega,oF,f+1,es,ck,_,by omega,hm,by rw[R,cR u];show rm i _ (f+1) (wL i m f X)=_;unfold wL;rw[aa];rfl,cI<|bg (by have:=o.bG;omega),aq⟩
  refine OL 3 Z<|aT<|aJ<|PW 4 Z<|aO ⟨j3-1,by omega,oF,i+1,es,ck,m,by omega,hm,by rw[F,cR C];show pD _ (i+1) (rm i s 0 Q)=_;rw[R,fO<|bC W];rfl,cI<|bg (by have:=ht.bG;omega),aq⟩
 refine OL 3 Z<|aT<|OU aq 5 [3,1] Z Z<|O Z (QD ho Z Z Z (e:=74) Z) Z<|vQ 1 Z ?_;have y:pD g.threads 0 []=m:=by rw[F,fO<|bC M];rfl
 generalize a6:m=m1 at hm y;clear a6;refine OM 3 Z (bp ([2,8,9,11,12,13]++rg 44 28) (fun j t U=>∃(i:Nat) (es:List fC) (ck:Nat) (m:LM),j+i=g.order.length/\ft 2 es m/\nw g.order 0 m1=nw (g.order.drop i) i m/\t.get 44=some (.int .i64 (.ofNat i))/\J U K ((b2,.map es ck)::(b1,.row [a,b,c,d] 26 false)::L)) (g.order.length) ⟨0,es,ck,m1,Z,hm,Z,Z,aq⟩ ?_);clear aq;intro a7 t U ar E;obtain⟨i,es,ck,m,bo,hm,l,a0,aq⟩:=E;obtain⟨oo,rfl⟩:=ar.q1 a0 Z;refine Ps 6 Z<|aE Z (fun ab=>?_) (fun ab=>?_)
 ·refine NP 7 Z ?_;obtain⟨w,p,bs⟩:=cL ab;refine Qu (e:=74) (m:=1) ho p Z Z Z Z (fun cb bt a1 bv a2=>?_);have hr47':=a2;obtain⟨cc,rfl,x⟩:=hr47';refine O Z (QF aq a1 Z Z) Z<|OO 7 Z<|O Z (QD x Z Z Z (e:=67) Z) Z<|vQ 1 Z ?_;generalize P:m=Q at hm l;clear P;refine OM 3 Z (bp ([2,11,12,13]++rg 51 20) (fun j t U=>∃(f:Nat) (es:List fC) (ck:Nat) (m:LM),j+f=w.length/\ft 2 es m/\lQ i w Q=lQ i (w.drop f) m/\t.get 51=some (.int .i64 (.ofNat f))/\J U K ((b2,.map es ck)::(b1,.row [a,b,c,d] 26 false)::L)) (w.length) ⟨0,es,ck,Q,Z,hm,Z,Z,aq⟩ ?_);clear aq;intro a8 t U ar E;obtain⟨f,es,ck,m,bw,hm,q,a3,aq⟩:=E;obtain⟨oo,rfl⟩:=ar.q1 a3 Z;refine Ps 6 Z<|aE Z (fun ac=>?_) (fun ac=>?_)
  ·refine NP 6 Z ?_;obtain⟨z,r,b0⟩:=cL ac;refine Qu (e:=67) (m:=2) x r Z Z Z Z (fun ce b4 a4 b5 a5=>?_);obtain rfl:=a5;refine O Z (QG aq a4 Z Z) Z<|kp aq Z (QE (cs:=[T,T])) (fun U b3 aq=>?_);refine bO aq Z (QH Z Z Z aq.g0 (m:=2) Z Z (cells':=[_,_]) Z) Z (fun U aq=>?_);refine On 6 Z<|O Z (QC Z aq.g0 (n:=2) (vs:=[_,_]) Z) Z<|O Z (J4 vx hm aq.g1 (k:=[_,_]) Z Z Z) Z<|OO 10 Z<|O Z (cV Z) Z<|ky Z (an Z) (fun A=>?_) (fun A=>?_)
   ·refine Px 13 Z<|aw<|aF<|aw<|bz<|aF<|aF<|aw<|bz<|aF<|aw (?_);exact aA Z Z ⟨cB (by unfold eB;rw[show nw g.order 0 (pD g.threads 0 [])=none from by rw[y];exact Kr l p q r<|kA A]),aq.pop.pop.pop⟩
   refine Pv 6 Z<|aE Z (fun ag=>?_) (fun ag=>?_)
   ·refine PX 6 Z<|aw<|aF<|aw<|bz<|aF<|aF<|aw<|bz<|aF<|aw (?_);exact aA Z Z ⟨cB (by unfold eB;rw[show nw g.order 0 (pD g.threads 0 [])=none from by rw[y];exact Ks l p q r (eV A)<|bT ag]),aq.pop.pop.pop⟩
   refine aG<|ad<|ai Z<|vQ 1 Z<|O Z (QC Z aq.g0 (n:=2) (vs:=[_,_]) Z) Z<|G7 vx hm aq (k:=[_,_]) Z Z Z Z Z Z Z Z Z (fun U es aq hm=>?_);refine af<|aJ<|PW 4 Z ?_;have aq:=aq.pop;refine aO ⟨a8-1,by omega,oF,f+1,es,ck,_,by omega,hm,by rw[q,cR r];show(bif (gg m z.ints).isSome then _ else none)=_;rw[show(gg m z.ints).isSome=true from eV A];show(bif I ((gg m z.ints).getD 0) (Int.ofNat i) then _ else none)=_;rw[show I ((gg m z.ints).getD 0) (Int.ofNat i)=true from bj ag];rfl,cI<|bg (by have:=x.bG;omega),aq⟩
  refine OL 3 Z<|aT<|aJ<|PW 4 Z<|aO ⟨a7-1,by omega,oF,i+1,es,ck,m,by omega,hm,by rw[l,cR p];show(lQ i w Q).bind _=_;rw[q,fO<|bC ac];rfl,cI<|bg (by have:=ho.bG;omega),aq⟩
 refine OL 3 Z<|aT<|Pt 3 Z<|O Z (J3 vx hm aq.g0 Z Z Z Z) Z<|Px 5 Z ?_;exact aA Z Z ⟨cB (by unfold eB;rw[show nw g.order 0 (pD g.threads 0 [])=some m from by rw[y];exact by rw[l,fO<|bC ab];rfl]),aq.pop.pop⟩
theorem EJ {G:Cx} (a:Plain G) {K:KP} {l:List db} {v:V} (h:bR K 5 iU l v) {U:D} {L:Own} (aq:J U K L):bk Tryz.prog G 109 [v] U fun v U'=>v= .bool (bU 14 (.ofNat l.length))/\J U' K L:=by
 refine PS a Tryz.func109 Z<|Pt 8 Z<|O Z (QD h Z Z Z (e:=56) Z) Z<|Px 5 Z ?_;exact aA Z Z ⟨Z,aq⟩
theorem Az {G:Cx} (o:Plain G) {K:KP} {l:List (List db)} {v:V} {p:List db->Bool} (h:bR K 1 (RL K 5 iU) l v) {U:D} {L:Own} (aq:J U K L)
  (c:∀x u U L,J U K L->RL K 5 iU x [u]->bk Tryz.prog G 109 [u] U fun v U'=>v= .bool (p x)/\J U' K L):bk Tryz.prog G 161 [v,.func 109 [] []] U fun v U'=>v= .int .i64 (tS p l 0)/\J U' K L:=by
 refine PS o Tryz.func161 Z<|OI 9 Z<|O Z (QD h Z Z Z (e:=57) Z) Z<|OM 4 Z ?_;obtain⟨LL1,aq,hLL1⟩:=aq.named;refine bp ([4,5]++rg 8 11) (fun j t U=>∃(i:Nat),j+i=l.length/\tS p l 0=tS p (l.drop i) i/\t.get 8=some (.int .i64 (.ofNat i))/\J U K LL1) (l.length) ⟨0,Z,Z,Z,aq⟩ ?_;clear aq;intro q t U ar r;obtain⟨i,hj,he,k,aq⟩:=r;subst hLL1;obtain⟨oo,rfl⟩:=ar.q1 k Z;refine Ps 6 Z<|aE Z (fun n=>?_) (fun n=>?_)
 ·refine NP 15 Z ?_;obtain⟨d,a,aa⟩:=cL n;refine Qu (e:=57) (m:=1) h a Z Z Z Z (fun am ab g ac b=>?_);have hr14':=b;obtain⟨ao,rfl,ag⟩:=hr14';refine O Z (QF aq g Z Z) Z<|bf Z (Qz Z Z Z) (fun _=>Z) (c d _ _ _ aq b) (fun U aq=>?_);refine Pv 2 Z<|aE Z (fun f=>?_) (fun f=>?_)
  ·refine PX 7 Z<|aF<|aw<|bz<|aF<|aw (?_);exact aA Z Z ⟨cJ (by symm;rw[he,cR a];show(bif p d then _ else _)=_;rw[f];rfl),aq⟩
  refine aG<|aJ<|PW 4 Z<|aO ⟨q-1,by omega,oF,i+1,by omega,by rw[he,cR a];show(bif p d then _ else _)=_;rw[f];rfl,cI<|bg (by have:=h.bG;omega),aq⟩
 refine OL 3 Z<|aT<|PX 6 Z ?_;exact aA Z Z ⟨cJ (by symm;rw[he,fO<|bC n];rfl),aq⟩
theorem vk {G:Cx} (a:Plain G) {K:KP} {l:List (List db)} {v:V} (h:bR K 1 (RL K 5 iU) l v) {U:D} {L:Own} (aq:J U K L):bk Tryz.prog G 108 [v,.func 109 [] []] U fun v U'=>v= .bool (l.any fun x=>bU 14 (.ofNat x.length))/\J U' K L:=by
 refine PS a Tryz.func108 Z (Pt 9 Z (bf Z (Qz Z Z Z) (fun _=>Z) (Az a h aq (p:=fun x=>bU 14 (.ofNat x.length)) fun x u U L aq b=>by obtain⟨w,hw,c⟩:=b;cases hw;exact EJ a c aq) (fun U aq=>?_)));refine Px 5 Z ?_;exact aA Z Z ⟨cB<|wK _ _,aq⟩
theorem Hv {G:Cx} (j:Plain G) {K:KP} {g:XG} {a b c d:V} (h:eN K g a b c d) {U:D} {L:Own} (aq:J U K L):bk Tryz.prog G 73 [.agg [a,b,c,d]] U fun v U'=>v= .bool (eK g)/\J U' K L:=by
 have h':=h;obtain⟨l,k,hf,ho⟩:=h';refine PS j Tryz.func73 Z<|Pt 2 Z<|kp aq Z (cz Z Z) (fun U b1 aq=>?_);refine OX aq 7 [1,0] Z Z<|O Z (QD k Z Z Z (e:=57) Z) Z<|vQ 1 Z<|ky Z (an Z) (fun i=>?_) (fun i=>?_)
 ·refine Px 14 Z ?_;exact aA Z Z ⟨cB (by unfold eK;simp only[i,ct,cf]),aq.pop⟩
 refine P3 aq 2 [0,0] Z Z<|O Z (QD l Z Z Z (e:=2) Z) Z<|PZ 2 Z<|ky Z (an Z) (fun f=>?_) (fun f=>?_)
 ·refine Px 8 Z ?_;exact aA Z Z ⟨cB (by unfold eK;simp only[i,f,ct,cf]),aq.pop⟩
 refine P3 aq 2 [1,0] Z Z<|bf Z (Qz Z Z Z) (fun _=>Z) (vk j k aq) (fun U aq=>?_);refine Px 5 Z ?_;exact aA Z Z ⟨cB (by unfold eK;simp only[i,f,ct,cf]),aq.pop⟩
theorem vz {G:Cx} (hG:Plain G) {K:KP} {g:XG} {a b c d:V} (h:eN K g a b c d) {U:D} {L:Own} (aq:J U K L):bk Tryz.prog G 45 [.agg [a,b,c,d]] U fun v U'=>v= .int .i64 (cd g)/\J U' K L:=by
 have h':=h;obtain⟨hi,ht,hf,ho⟩:=h';refine PS hG Tryz.func45 Z<|Pt 2 Z<|kp aq Z (cz Z Z) (fun U b1 aq=>?_);refine On 6 Z<|O Z (QC Z aq.g0 (n:=4) (vs:=[_,_,_,_]) Z) Z<|bf Z (Qz Z Z Z) (fun _=>Z) (Hv hG h aq) (fun U aq=>?_);refine Pv 2 Z<|aE Z (fun F=>?_) (fun F=>?_)
 ·refine Pu 7 Z ?_;exact aA Z Z ⟨cJ (by symm;unfold cd;rw[F];rfl),aq.pop⟩
 refine Ot aq 7 [2,0] Z Z<|O Z (QD hf Z Z Z (e:=74) Z) Z<|P3 aq 2 [1,0] Z Z<|O Z (QD ht Z Z Z (e:=57) Z) Z<|vQ 1 Z<|ky Z (an Z) (fun p=>?_) (fun p=>?_)
 ·refine OQ 18 Z ?_;exact aA Z Z ⟨cJ (by symm;unfold cd;rw[F,bT p];rfl),aq.pop⟩
 refine P3 aq 2 [3,0] Z Z<|O Z (QD ho Z Z Z (e:=74) Z) Z<|P3 aq 2 [0,0] Z Z<|O Z (QD hi Z Z Z (e:=2) Z) Z<|Pv 4 Z<|aE Z (fun s=>?_) (fun s=>?_)
 ·refine Pu 7 Z ?_;exact aA Z Z ⟨cJ (by symm;unfold cd;rw[F,bj p,bT s];rfl),aq.pop⟩
 refine Ot aq 7 [1,0] Z Z<|O Z (QD ht Z Z Z (e:=57) Z) Z<|OM 4 Z ?_;obtain⟨LL1,aq,hLL1⟩:=aq.named;refine bp (rg 2 5++rg 28 46) (fun j t U=>∃(i:Nat),j+i=g.threads.length/\lu g g.threads g.from_ 0=lu g (g.threads.drop i) (g.from_.drop i) i/\t.get 28=some (.int .i64 (.ofNat i))/\J U K LL1) (g.threads.length) ⟨0,Z,Z,Z,aq⟩ ?_;clear aq;intro j6 t U ar hI;obtain⟨i,bt,C,aa,aq⟩:=hI;subst hLL1;obtain⟨oo,rfl⟩:=ar.q1 aa Z;refine Ps 6 Z<|aE Z (fun M=>?_) (fun M=>?_)
 ·refine NP 7 Z ?_;obtain⟨f,q,ab⟩:=cL M;refine Qu (e:=57) (m:=1) ht q Z Z Z Z (fun bv a6 ac a7 ag=>?_);have hr31':=ag;obtain⟨bw,rfl,y⟩:=hr31';refine O Z (QF aq ac Z Z) Z<|Ou aq 10 [2,0] Z Z ?_;obtain⟨k,o⟩:=cm (show i<g.from_.length from by rw[dB<|bj p];exact ab);refine Qu (e:=74) (m:=1) hf o Z Z Z Z (fun b0 a8 am a9 ao=>?_);have hr36':=ao;obtain⟨b3,rfl,ap⟩:=hr36';refine O Z (QF aq am Z Z) Z<|O Z (QD ap Z Z Z (e:=67) Z) Z<|vQ 1 Z<|O Z (QD y Z Z Z (e:=56) Z) Z<|Pv 3 Z<|aE Z (fun u=>?_) (fun u=>?_)
  ·refine PX 6 Z<|aw<|aF<|aw<|bz<|aF<|aw (?_);exact aA Z Z ⟨cJ (by symm;unfold cd;rw[F,bj p,bj s,show lu g g.threads g.from_ 0=false from by rw[C,cR q,cR o];show(bif I _ _ then _ else false)=false;rw[bT u];rfl];rfl),aq.pop⟩
  refine OK 5 Z<|O Z (QD y Z Z Z (e:=56) Z) Z<|OM 4 Z ?_;obtain⟨LL2,aq,hLL2⟩:=aq.named;refine bp ([2,5,6]++rg 44 29) (fun j t U=>∃(w:Nat),j+w=f.length/\qo g i f k 0=qo g i (f.drop w) (k.drop w) w/\t.get 44=some (.int .i64 (.ofNat w))/\J U K LL2) (f.length) ⟨0,Z,Z,Z,aq⟩ ?_;clear aq;intro a5 t U ar hI;obtain⟨w,bb,z,ax,aq⟩:=hI;subst hLL2;obtain⟨oo,rfl⟩:=ar.q1 ax Z;refine Ps 6 Z<|aE Z (fun R=>?_) (fun R=>?_)
  ·refine NP 7 Z ?_;obtain⟨E,A,Q⟩:=cL R;refine Qu (e:=56) (m:=5) y A Z Z Z Z (fun b4 be aI bi aY=>?_);obtain rfl:=aY;refine O Z (QG aq aI Z Z) Z<|kp aq Z (QE (cs:=[T,T,T,T,T])) (fun U b2 aq=>?_);refine vQ 1 Z<|bO aq Z (QH Z Z Z aq.g0 (m:=5) Z Z (cells':=[_,_,_,_,_]) Z) Z (fun U aq=>?_);refine ON 3 Z<|aS (l:=zp [0,1,2,3,4,5,6,7,8,9,10,11,12,13,14,15,16,17,18,19,20,21,22]) Y Y<|al Z Z (QC Z aq.g0 (n:=5) (vs:=[_,_,_,_,_]) Z) Z<|P4 aq 2 [0,1] Z Z<|al Z Z (QD hi Z Z Z (e:=2) Z) Z<|cA Z Z (Qz Z Z Z) (fun _=>Z) (AG hG _ _ aq) (fun U aq=>?_);refine⟨aV,?_⟩;refine al Z Z (cV Z) Z<|dZ Z Z (an Z) (fun _=>Z) (fun P=>?_) (fun P=>?_)
   ·refine Pz 25 Z<|aF<|aw<|bz<|aF<|aF<|aw<|bz<|aF<|aw (?_);exact aA Z Z ⟨cJ (by symm;unfold cd;rw[F,bj p,bj s,show lu g g.threads g.from_ 0=false from by rw[C,cR q,cR o];show(bif I _ _ then(bif qo g i f k 0 then _ else false) else false)=false;rw[bj u,show qo g i f k 0=false from by rw[z];obtain⟨x,r⟩:=cm (show w<k.length from by rw[dB<|bj u];exact Q);rw[cR A,cR r];show(bif yf g i w E x then _ else false)=false;rw[show yf g i w E x=false from by unfold yf;rw[kA P];rfl];rfl];rfl];rfl),aq.pop.pop⟩
   refine al Z Z (QC Z aq.g1 (n:=4) (vs:=[_,_,_,_]) Z) Z (P1 3 Z (al Z Z (Qy (places:=[(0,1),(1,1)]) (zero:=[T,T]) (cs:=[_,_]) Z) Z<|P4 aq 3 [2,1] Z Z<|Qv (e:=74) (m:=1) hf o Z Z Z Z Z (fun b5 bl a0 bm a1=>?_)));have hr64':=a1;obtain⟨b6,rfl,a2⟩:=hr64';refine al Z Z (QF aq a0 Z Z) Z<|wQ 1 Z ?_;obtain⟨x,r⟩:=cm (show w<k.length from by rw[dB<|bj u];exact Q);refine Qv (e:=67) (m:=2) a2 r Z Z Z Z Z (fun b7 bo a3 bs a4=>?_);obtain rfl:=a4;refine al Z Z (QG aq a3 Z Z) Z<|cA Z Z (Qz Z Z Z) (fun _=>Z) (CT hG h _ _ _ _ aq) (fun U aq=>?_);refine⟨aV,?_⟩;refine al Z Z (cV Z) Z<|Py 3 Z<|aE Z (fun W=>?_) (fun W=>?_)
   ·refine PX 6 Z<|aF<|aw<|bz<|aF<|aF<|aw<|bz<|aF<|aw (?_);exact aA Z Z ⟨cJ (by symm;unfold cd;rw[F,bj p,bj s,show lu g g.threads g.from_ 0=false from by rw[C,cR q,cR o];show(bif I _ _ then(bif qo g i f k 0 then _ else false) else false)=false;rw[bj u,show qo g i f k 0=false from by rw[z];rw[cR A,cR r];show(bif yf g i w E x then _ else false)=false;rw[show yf g i w E x=false from by unfold yf;rw[eV P,<-bg (i:=i) (by have:=ht.bG;omega)];exact kA W];rfl];rfl];rfl),aq.pop.pop⟩
   refine aG<|aJ<|PW 4 Z ?_;have aq:=aq.pop;refine aO ⟨a5-1,by omega,oF,w+1,by omega,by rw[z,cR A,cR r];show(bif yf g i w E x then _ else false)=_;rw[show yf g i w E x=true from by unfold yf;rw[eV P,<-bg (i:=i) (by have:=ht.bG;omega)];exact eV W];rfl,cI<|bg (by have:=y.bG;omega),aq⟩
  refine OL 3 Z<|aT<|aJ<|PW 4 Z<|aO ⟨j6-1,by omega,oF,i+1,by omega,by rw[C,cR q,cR o];show(bif I _ _ then(bif qo g i f k 0 then _ else false) else false)=_;rw[bj u,show qo g i f k 0=true from by rw[z,fO<|bC R];rfl];rfl,cI<|bg (by have:=ht.bG;omega),aq⟩
 refine OL 3 Z<|aT<|OI 3 Z<|O Z (QC Z aq.g0 (n:=4) (vs:=[_,_,_,_]) Z) Z<|bf Z (Qz Z Z Z) (fun _=>Z) (AH hG h aq) (fun U aq=>?_);refine O Z (cV Z) Z<|Pv 2 Z<|aE Z (fun X=>?_) (fun X=>?_)
 ·refine Pu 7 Z ?_;exact aA Z Z ⟨cJ (by symm;unfold cd;rw[F,bj p,bj s,show lu g g.threads g.from_ 0=true from by rw[C,fO<|bC M];rfl,kA X];rfl),aq.pop⟩
 refine Pu 8 Z ?_;exact aA Z Z ⟨cJ (by symm;unfold cd;rw[F,bj p,bj s,show lu g g.threads g.from_ 0=true from by rw[C,fO<|bC M];rfl,eV X];rfl),aq.pop⟩
theorem RL.mono {α:Type} {K K':KP} (a:KP.le K K') {m:Nat} {R:α->List V->Prop} {l:List α} {vs:List V} (h:RL K m R l vs):RL K' m R l vs:=let ⟨v,b,c⟩:=h;⟨v,b,c.mono a fun _ _ h=>h⟩
theorem eN.mono {K K':KP} (e:KP.le K K') {g:XG} {a b c d:V} (h:eN K g a b c d):eN K' g a b c d:=
 ⟨h.init.mono e fun _ _ h=>h,h.threads.mono e fun _ _ h=>h.mono e,h.from_.mono e fun _ _ h=>h.mono e,h.order.mono e fun _ _ h=>h.mono e⟩
theorem zk {G:Cx} (g:Plain G) {K:KP} {l:List Int} {v:V} (h:bR K 1 dy l v) (i:l.length<=1048576) {U:D} {L:Own} (aq:J U K L):bk Tryz.prog G 49 [v] U fun u U'=>∃M,cQ 1 2 dy l u M/\J U' K (M++L):=by
 have h0:=h;rcases h0 with ⟨rfl,rfl⟩ | ⟨b,off,c,cells,e,ro,rfl,_⟩
 ·refine PS g Tryz.func49 Z<|PX 20 Z ?_;exact aA Z Z ⟨[],.inl ⟨Z,Z,Z⟩,aq⟩
 refine PS g Tryz.func49 Z<|Pt 17 Z<|gT aq Z (bY (e:=2) (m:=1) (z:=[T]) (cs:=[]) Y Y Y Y (by rfl)) (fun _=>Z) (fun U b1 aq=>?_);refine vQ 1 Z<|n9 (R:=dy) (m:=1) (e:=2) aq h dy.leaf i (by simp) (by decide) (.inl Z) Z Z Z Z Z Y Y Y Z Z (fun _=>Z) (fun U j n news k aq a d f=>?_);refine Px 4 Z ?_;exact aA Z Z ⟨[(j,.row ([]++news) k false)],.inr ⟨j,n,news,k,by rw[nA_],Z,a,d,by simpa using f,i⟩,aq⟩
theorem JM {G:Cx} (g:Plain G) {K:KP} {l:List db} {v:V} (h:bR K 5 iU l v) (i:l.length<=1048576) {U:D} {L:Own} (aq:J U K L):bk Tryz.prog G 158 [v] U fun u U'=>∃M,cQ 5 56 iU l u M/\J U' K (M++L):=by
 have h0:=h;rcases h0 with ⟨rfl,rfl⟩ | ⟨b,off,c,cells,e,ro,rfl,_⟩
 ·refine PS g Tryz.func158 Z<|PX 20 Z ?_;exact aA Z Z ⟨[],.inl ⟨Z,Z,Z⟩,aq⟩
 refine PS g Tryz.func158 Z<|Pt 17 Z<|gT aq Z (bY (e:=56) (m:=5) (z:=[T,T,T,T,T]) (cs:=[]) Y Y Y Y (by rfl)) (fun _=>Z) (fun U b1 aq=>?_);refine vQ 1 Z<|n9 (R:=iU) (m:=5) (e:=56) aq h iU.leaf i (by simp) (by decide) (.inl Z) Z Z Z Z Z Y Y Y Z Z (fun _=>Z) (fun U j n news k aq a d f=>?_);refine Px 4 Z ?_;exact aA Z Z ⟨[(j,.row ([]++news) k false)],.inr ⟨j,n,news,k,by rw[nA_],Z,a,d,by simpa using f,i⟩,aq⟩
theorem JN {G:Cx} (g:Plain G) {K:KP} {l:List dw} {v:V} (h:bR K 2 iV l v) (i:l.length<=1048576) {U:D} {L:Own} (aq:J U K L):bk Tryz.prog G 159 [v] U fun u U'=>∃M,cQ 2 67 iV l u M/\J U' K (M++L):=by
 have h0:=h;rcases h0 with ⟨rfl,rfl⟩ | ⟨b,off,c,cells,e,ro,rfl,_⟩
 ·refine PS g Tryz.func159 Z<|PX 20 Z ?_;exact aA Z Z ⟨[],.inl ⟨Z,Z,Z⟩,aq⟩
 refine PS g Tryz.func159 Z<|Pt 17 Z<|gT aq Z (bY (e:=67) (m:=2) (z:=[T,T]) (cs:=[]) Y Y Y Y (by rfl)) (fun _=>Z) (fun U b1 aq=>?_);refine vQ 1 Z<|n9 (R:=iV) (m:=2) (e:=67) aq h iV.leaf i (by simp) (by decide) (.inl Z) Z Z Z Z Z Y Y Y Z Z (fun _=>Z) (fun U j n news k aq a d f=>?_);refine Px 4 Z ?_;exact aA Z Z ⟨[(j,.row ([]++news) k false)],.inr ⟨j,n,news,k,by rw[nA_],Z,a,d,by simpa using f,i⟩,aq⟩
theorem Ht {G:Cx} (x:Plain G) {K:KP} {ls:List (List db)} {v:V} (h:bR K 1 (RL K 5 iU) ls v) (hn:ls.length<=1000) (p:∀l∈ls,l.length<=1048576) {U:D} {L:Own} (aq:J U K L):
  bk Tryz.prog G 104 [v] U fun u U'=>∃bo us M,u= .slice bo 0 ls.length (.known ls.length)/\fH 5 56 iU ls us M/\J U' K (M++(bo,.row us 57 false)::L):=by
 refine PS x Tryz.func104 Z<|Pt 8 Z<|O Z (QD h Z Z Z (e:=57) Z) Z<|gT aq Z (k9 (n:=ls.length) (e:=57) (w:=24) (z:=[.ax]) Z Y Y Y Z Z B B) (fun _=>Z) (fun U bo aq=>?_);rw[ph] at aq;refine On 7 Z (O Z (QD h Z Z Z (e:=57) Z) Z (OM 4 Z (bp ([4,5]++rg 11 11) (fun j t U=>∃(i:Nat) (us:List V) (M:Own),j+i=ls.length/\fH 5 56 iU (ls.take i) us M/\t.get 11=some (.int .i64 (.ofNat i))/\J U K (M++(bo,.row (us++List.replicate (ls.length-i) V.ax) 57 false)::L)) (ls.length) ⟨0,[],[],Z,.nil,Z,aq⟩ ?_)));clear aq;intro y t U ar A;obtain⟨i,us,M,ac,q,d,aq⟩:=A;obtain⟨oo,rfl⟩:=ar.q1 d Z;refine Ps 6 Z<|aE Z (fun b=>?_) (fun b=>?_)
 ·refine NP 7 Z ?_;obtain⟨ag,a,c⟩:=cL b;refine Qu (e:=57) (m:=1) h a Z Z Z Z (fun am aa f ab g=>?_);have hr14':=g;obtain⟨ao,rfl,k⟩:=hr14';refine O Z (QF aq f Z Z) Z<|Pw 8 Z<|cH Z (Qz Z Z Z) (fun _=>Z) (JM x k (p _<|gB_ a) aq) ?_;rintro o U ⟨r,hM19,aq⟩;refine O Z (eo (e:=57) (m:=1) Z Y Z Z c) Z ?_;rw[<-lQ_] at aq;have s:us.length=i:=by rw[q.length,lT_];omega
  refine iO Z (gR Z Z hM19.leaf.1 aq.Iy (m:=1) Y Z (by rw[lA_,List.length_replicate];omega)<|ah hM19.leaf.2 Z) Z ?_;rw[FL s c];replace aq:=aq.En (.row (us++[o]++List.replicate (ls.length-(i+1)) V.ax) 57 false);refine af<|aJ<|PW 4 Z<|aO ⟨y-1,by omega,oF,i+1,us++[o],r++M,by omega,by rw[List.take_add_one,a];exact .snoc q hM19,cI<|bg (by have:=h.bG;omega),aq⟩
 refine OL 3 Z<|aT<|PX 7 Z ?_;exact aA Z Z ⟨bo,us,M,Z,by rwa[tL_<|bC b] at q,by rwa[show ls.length-i=0 from by have:=bC b;omega,List.replicate_zero,List.append_nil] at aq⟩
theorem zl {G:Cx} (x:Plain G) {K:KP} {ls:List (List dw)} {v:V} (h:bR K 1 (RL K 2 iV) ls v) (hn:ls.length<=1000) (p:∀l∈ls,l.length<=1048576) {U:D} {L:Own} (aq:J U K L):
  bk Tryz.prog G 105 [v] U fun u U'=>∃bo us M,u= .slice bo 0 ls.length (.known ls.length)/\fH 2 67 iV ls us M/\J U' K (M++(bo,.row us 74 false)::L):=by
 refine PS x Tryz.func105 Z<|Pt 8 Z<|O Z (QD h Z Z Z (e:=74) Z) Z<|gT aq Z (k9 (n:=ls.length) (e:=74) (w:=24) (z:=[.ax]) Z Y Y Y Z Z B B) (fun _=>Z) (fun U bo aq=>?_);rw[ph] at aq;refine On 7 Z (O Z (QD h Z Z Z (e:=74) Z) Z (OM 4 Z (bp ([4,5]++rg 11 11) (fun j t U=>∃(i:Nat) (us:List V) (M:Own),j+i=ls.length/\fH 2 67 iV (ls.take i) us M/\t.get 11=some (.int .i64 (.ofNat i))/\J U K (M++(bo,.row (us++List.replicate (ls.length-i) V.ax) 74 false)::L)) (ls.length) ⟨0,[],[],Z,.nil,Z,aq⟩ ?_)));clear aq;intro y t U ar A;obtain⟨i,us,M,ac,q,d,aq⟩:=A;obtain⟨oo,rfl⟩:=ar.q1 d Z;refine Ps 6 Z<|aE Z (fun b=>?_) (fun b=>?_)
 ·refine NP 7 Z ?_;obtain⟨ag,a,c⟩:=cL b;refine Qu (e:=74) (m:=1) h a Z Z Z Z (fun am aa f ab g=>?_);have hr14':=g;obtain⟨ao,rfl,k⟩:=hr14';refine O Z (QF aq f Z Z) Z<|Pw 8 Z<|cH Z (Qz Z Z Z) (fun _=>Z) (JN x k (p _<|gB_ a) aq) ?_;rintro o U ⟨r,hM19,aq⟩;refine O Z (eo (e:=74) (m:=1) Z Y Z Z c) Z ?_;rw[<-lQ_] at aq;have s:us.length=i:=by rw[q.length,lT_];omega
  refine iO Z (gR Z Z hM19.leaf.1 aq.Iy (m:=1) Y Z (by rw[lA_,List.length_replicate];omega)<|ah hM19.leaf.2 Z) Z ?_;rw[FL s c];replace aq:=aq.En (.row (us++[o]++List.replicate (ls.length-(i+1)) V.ax) 74 false);refine af<|aJ<|PW 4 Z<|aO ⟨y-1,by omega,oF,i+1,us++[o],r++M,by omega,by rw[List.take_add_one,a];exact .snoc q hM19,cI<|bg (by have:=h.bG;omega),aq⟩
 refine OL 3 Z<|aT<|PX 7 Z ?_;exact aA Z Z ⟨bo,us,M,Z,by rwa[tL_<|bC b] at q,by rwa[show ls.length-i=0 from by have:=bC b;omega,List.replicate_zero,List.append_nil] at aq⟩
def Mj (g:XG):Prop:=g.init.length<=1000/\g.threads.length<=1000/\(∀l∈g.threads,l.length<=1048576)/\g.from_.length<=1000/\(∀l∈g.from_,l.length<=1048576)/\g.order.length<=1000/\(∀l∈g.order,l.length<=1048576)
structure O5 (g:XG) (u1:V) (M1:Own) (b2:Nat) (us2:List V) (M2:Own) (b3:Nat) (us3:List V) (M3:Own) (b4:Nat) (us4:List V) (M4:Own):Prop where
 init:cQ 1 2 dy g.init u1 M1
 threads:fH 5 56 iU g.threads us2 M2
 from_:fH 2 67 iV g.from_ us3 M3
 order:fH 2 67 iV g.order us4 M4
abbrev Pr (M1:Own) (b2:Nat) (us2:List V) (M2:Own) (b3:Nat) (us3:List V) (M3:Own) (b4:Nat) (us4:List V) (M4:Own) (L:Own):Own:=
 M4++(b4,.row us4 74 false)::(M3++(b3,.row us3 74 false)::(M2++(b2,.row us2 57 false)::(M1++L)))
abbrev PM (g:XG) (u1:V) (b2 b3 b4:Nat):List V:=[u1,.slice b2 0 g.threads.length (.known g.threads.length),.slice b3 0 g.from_.length (.known g.from_.length),.slice b4 0 g.order.length (.known g.order.length)]
theorem xO {G:Cx} (f:Plain G) {K:KP} {g:XG} {a b c d:V} (h:eN K g a b c d) (e:Mj g) {U:D} {L:Own} (aq:J U K L):
  bk Tryz.prog G 69 [.agg [a,b,c,d]] U fun v U'=>∃s M1 n i t o j u p k w,v= .agg (PM g s n o p)/\O5 g s M1 n i t o j u p k w/\J U' K (Pr M1 n i t o j u p k w L):=by
 have h':=h;obtain⟨y,x,r,q⟩:=h';refine PS f Tryz.func69 Z<|Pt 2 Z<|kp aq Z (cz Z Z) (fun U b1 aq=>?_);refine kp aq Z (QE (cs:=[.ax,.ax,.ax,.ax])) (fun U n aq=>?_);refine ON 3 Z (aS (l:=[(0,[]),(1,[]),(3,[]),(4,[]),(6,[]),(7,[]),(9,[]),(10,[]),(2,[4,7,10]),(5,[7,10]),(8,[10]),(11,[]),(12,[]),(13,[])]) Y Y<|P4 aq 8 [0,1,1,1,2,1,3,1] Z Z<|jg Z Z (Qz Z Z Z) (fun _=>Z) (zk f y (by have:=e.1;omega) aq) ?_);rintro u5 U ⟨M5,hM5,aq⟩;refine⟨(bB (bN Z Z Z Z Z (QB Z aq.aQ.pop.g0 Z) x.dX)<|bB (bN Z Z Z Z Z (QB Z aq.aQ.pop.g0 Z) r.dX)<|bB (bN Z Z Z Z Z (QB Z aq.aQ.pop.g0 Z) q.dX) aV),?_⟩;refine jg Z Z (Qz Z Z Z) (fun _=>Z) (Ht f x e.2.1 e.2.2.1 aq) ?_;rintro _ U ⟨o,ac,M8,rfl,hO8,aq⟩;refine⟨(bB (bN Z Z Z Z Z (QB Z aq.aQ.pop.aQ.pop.g0 Z) r.dX)<|bB (bN Z Z Z Z Z (QB Z aq.aQ.pop.aQ.pop.g0 Z) q.dX) aV),?_⟩;refine jg Z Z (Qz Z Z Z) (fun _=>Z) (zl f r e.2.2.2.1 e.2.2.2.2.1 aq) ?_;rintro _ U ⟨p,aa,ag,rfl,hO11,aq⟩;refine⟨(bB (bN Z Z Z Z Z (QB Z aq.aQ.pop.aQ.pop.aQ.pop.g0 Z) q.dX) aV),?_⟩;refine jg Z Z (Qz Z Z Z) (fun _=>Z) (zl f q e.2.2.2.2.2.1 e.2.2.2.2.2.2 aq) ?_;rintro _ U ⟨b5,ab,am,rfl,hO14,aq⟩;refine⟨aV,?_⟩;refine al Z Z (bF (places:=[(0,1),(1,1),(2,1),(3,1)]) (zero:=[.ax,.ax,.ax,.ax]) (cs:=[_,_,_,_]) Y Y Y (bD Z Z hM5.leaf.1 Z<|bD Z Z Z Z<|bD Z Z Z Z<|bD Z Z Z Z bJ) Y) Z<|gD aq (.cM (.there (.cM (.there (.cM (.there (.cM .here))))))) Z Z (QH Z Z Z aq.aQ.pop.aQ.pop.aQ.pop.aQ.g0 (m:=4) Z (ah hM5.leaf.2 Z) (cells':=[_,_,_,_]) Z) Z (fun U aq=>?_);refine⟨aV,?_⟩;refine Pz 3 Z ?_;exact eL Z Z aq.aQ.pop.aQ.pop.aQ.pop.aQ.g0 (m:=4) Y Z ⟨_,_,_,_,_,_,_,_,_,_,_,Z,⟨hM5,hO8,hO11,hO14⟩,aq.sub<|dH (.cons_cons _<|dH (.cons_cons _<|dH (.cons_cons _<|dH (.cons _ (.cons _ (.refl _))))))⟩
theorem tt {G:Cx} (A:Plain G) {K:KP} {g:XG} {a b c d:V} (h:eN K g a b c d) (o:∀l∈g.order,l.length<=1000000) (loc:Int) {U:D} {L:Own} (aq:J U K L):
  bk Tryz.prog G 42 [.agg [a,b,c,d],.int .i64 loc] U fun v U'=>∃M,cQ 2 67 iV (cu g loc) v M/\J U' K (M++L):=by
 have h':=h;obtain⟨E,ht,hf,F⟩:=h';refine PS A Tryz.func42 Z<|Pt 2 Z<|kp aq Z (cz Z Z) (fun U b1 aq=>?_);refine On 6 Z<|O Z (QC Z aq.g0 (n:=4) (vs:=[_,_,_,_]) Z) Z<|bf Z (Qz Z Z Z) (fun _=>Z) (vz A h aq) (fun U aq=>?_);refine vQ 1 Z<|ky Z (an Z) (fun p=>?_) (fun p=>?_)
 ·refine OQ 20 Z ?_;exact aA Z Z ⟨[],.inl ⟨po<|bT p,Z,Z⟩,aq.pop⟩
 refine PZ 3 Z<|ky Z (an Z) (fun j=>?_) (fun j=>?_)
 ·refine OQ 16 Z ?_;exact aA Z Z ⟨[],.inl ⟨qA j,Z,Z⟩,aq.pop⟩
 refine P3 aq 3 [0,0] Z Z<|O Z (QD E Z Z Z (e:=2) Z) Z<|Pv 4 Z<|aE Z (fun k=>?_) (fun k=>?_)
 ·obtain⟨ln,rfl⟩:=iQ j;refine Pu 7 Z ?_;exact aA Z Z ⟨[],.inl ⟨qz (by rw[(cK<|sH<|bj p).2.2.2.2.1];exact nZ k),Z,Z⟩,aq.pop⟩
 obtain⟨ln,rfl⟩:=iQ j;refine OK 5 Z (O Z (Qy (places:=[(0,1),(1,1)]) (zero:=[T,T]) (cs:=[_,_]) Z) Z<|gT aq Z (bY (e:=67) (m:=2) (z:=[T,T]) (cs:=[_,_]) Y Y Y Y<|bD Z Z Z Z bJ) (fun _=>Z) (fun U b2 aq=>?_));refine P3 aq 3 [3,1] Z Z ?_;obtain⟨t,f⟩:=cm (show ln<g.order.length from by rw[(cK<|sH<|bj p).2.2.2.2.1];exact n8 k);refine Qu (e:=74) (m:=1) F f Z Z Z Z (fun ac aa q ab r=>?_);have hr25':=r;obtain⟨ag,rfl,s⟩:=hr25';refine O Z (QF aq q Z Z) Z (n9 (R:=iV) (m:=2) (e:=67) (len1:=1) aq s iV.leaf (by have:=o _ (gB_ f);omega) Z (by decide) (.inl Z) Z Z Z Z Z Y Y Y Z Z (fun _=>Z) (fun U P c9 news Q aq u w y=>?_));refine Px 4 Z ?_;exact aA Z Z ⟨[(P,cG.row ([V.int .i64 0,V.int .i64 (.ofNat ln)]++news) Q false)],by rw[ez (bj p) f];exact qf (l1:=[⟨0,.ofNat ln⟩]) (fM:=[V.int .i64 0,V.int .i64 (.ofNat ln)]) Z (fun i x C=>by cases i with | zero=>(cases C;rfl) | succ i=>(simp at C)) u w Z y (by show 1+t.length<=1048576;have:=o _ (gB_ f);omega),aq.sub (.cons_cons _ (.cons _ (.refl _)))⟩
theorem CU {G:Cx} (b:Plain G) {K:KP} (e:db) {U:D} {L:Own} (aq:J U K L):bk Tryz.prog G 117 [.agg<|ints e.ints] U fun v U'=>v= .bool (dD e)/\J U' K L:=by
 refine PS b Tryz.func117 Z<|Pt 2 Z<|kp aq Z (cz Z Z) (fun U b1 aq=>?_);refine OX aq 8 [0,0] Z Z<|ky Z (an Z) (fun a=>?_) (fun a=>?_)
 ·refine Px 8 Z ?_;exact aA Z Z ⟨cB (by unfold dD;simp only[a,ct,cf]),aq.pop⟩
 refine PF aq 8 [0,0] Z Z ?_;exact aA Z Z ⟨cB (by unfold dD;simp only[a,ct,cf]),aq.pop⟩
theorem ml {G:Cx} (b:Plain G) {K:KP} (e:db) {U:D} {L:Own} (aq:J U K L):bk Tryz.prog G 96 [.agg<|ints e.ints] U fun v U'=>v= .bool (bq e)/\J U' K L:=by
 refine PS b Tryz.func96 Z<|Pt 2 Z<|kp aq Z (cz Z Z) (fun U b1 aq=>?_);refine OX aq 8 [0,0] Z Z<|ky Z (an Z) (fun a=>?_) (fun a=>?_)
 ·refine Px 8 Z ?_;exact aA Z Z ⟨cB (by unfold bq;simp only[a,ct,cf]),aq.pop⟩
 refine PF aq 8 [0,0] Z Z ?_;exact aA Z Z ⟨cB (by unfold bq;simp only[a,ct,cf]),aq.pop⟩
theorem tv {G:Cx} (Q:Plain G) {K:KP} {g:XG} {a b c d:V} (h:eN K g a b c d) (th ix:Int) {U:D} {L:Own} (aq:J U K L):bk Tryz.prog G 97 [.agg [a,b,c,d],.agg [.int .i64 th,.int .i64 ix]] U fun v U'=>v= .tuple [.agg<|ints (AP<|fh g ⟨th,ix⟩).ints,.bool (fh g ⟨th,ix⟩).isSome]/\J U' K L:=by
 have h':=h;obtain⟨P,t,hf,ho⟩:=h';refine PS Q Tryz.func97 Z<|Pt 2 Z<|kp aq Z (cz Z Z) (fun U b1 aq=>?_);refine kp aq Z (cz Z Z) (fun U b2 aq=>?_);refine kp aq Z (QE (cs:=[T,T,T,T,T])) (fun U b3 aq=>?_);refine OW aq 11 [0,1] Z Z<|aE Z (fun s=>?_) (fun s=>?_)
 ·refine OU aq 6 [1,1] Z Z<|ky Z (an Z) (fun j=>?_) (fun j=>?_)
  ·refine OO 12 Z (O Z (Qy (places:=[(0,1),(1,1),(2,1),(3,1),(4,1)]) (zero:=[T,T,T,T,T]) (cs:=[_,_,_,_,_]) Z) Z<|bO aq Z (QH Z Z Z aq.g0 (m:=5) Z Z (cells':=[_,_,_,_,_]) Z) Z (fun U aq=>?_));refine Px 4 Z<|aw<|aw (?_);exact br Z Z aq.g0 (m:=5) Y Z Z ⟨by rw[qI j];rfl,aq.pop.pop.pop⟩
  refine P3 aq 4 [1,1,0,2] Z Z<|O Z (QD P Z Z Z (e:=2) Z) Z<|Pv 4 Z<|aE Z (fun o=>?_) (fun o=>?_)
  ·obtain⟨ixn,rfl⟩:=iQ j;obtain rfl:th=0:=by rw[dF] at s;simpa using s
   refine Pt 2 Z (O Z (Qy (places:=[(0,1),(1,1),(2,1),(3,1),(4,1)]) (zero:=[T,T,T,T,T]) (cs:=[_,_,_,_,_]) Z) Z<|bO aq Z (QH Z Z Z aq.g0 (m:=5) Z Z (cells':=[_,_,_,_,_]) Z) Z (fun U aq=>?_));refine Px 4 Z<|aw<|aw (?_);exact br Z Z aq.g0 (m:=5) Y Z Z ⟨by rw[show fh g _=none from by show(g.init[ixn]?).map _=_;rw[gN_<|nZ o];rfl];rfl,aq.pop.pop.pop⟩
  obtain⟨ixn,rfl⟩:=iQ j;obtain rfl:th=0:=by rw[dF] at s;simpa using s
  refine OJ 3 Z<|aS (l:=zp [0,1,2,3,4,5,6,7,8,9,10]) Y Y<|P4 aq 6 [1,1,0,2,1,1] Z Z ?_;obtain⟨ax,k⟩:=cm (n8 o);refine Qv (e:=2) (m:=1) P k Z Z Z Z Z (fun aI aa u ab w=>?_);obtain rfl:=w;refine al Z Z (QF aq u Z Z) Z (al Z Z (Qy (places:=[(0,1),(1,1),(2,1),(3,1),(4,1)]) (zero:=[T,T,T,T,T]) (cs:=[_,_,_,_,_]) Z) Z<|kb aq Z Z (QH Z Z Z aq.g0 (m:=5) Z Z (cells':=[_,_,_,_,_]) Z) Z (fun U aq=>?_));refine⟨aV,?_⟩;refine OT 5 Z ?_;exact br Z Z aq.g0 (m:=5) Y Z Z ⟨by rw[show fh g _=some _ from by show(g.init[ixn]?).map _=_;rw[k];rfl];rfl,aq.pop.pop.pop⟩
 refine OJ 3 Z<|ak<|aS (l:=zp [0,1,2,3,4,5,6,7,8,9,10,11,12,13,14,15,16,17,18,19,20,21,22,23,24,25,26,27,28]) Y Y<|P4 aq 3 [0,1] Z Z<|dZ Z Z (an Z) (fun _=>Z) (fun p=>?_) (fun p=>?_)
 ·refine OS 29 Z (ai Z (O Z (Qy (places:=[(0,1),(1,1),(2,1),(3,1),(4,1)]) (zero:=[T,T,T,T,T]) (cs:=[_,_,_,_,_]) Z) Z<|bO aq Z (QH Z Z Z aq.g0 (m:=5) Z Z (cells':=[_,_,_,_,_]) Z) Z (fun U aq=>?_)));refine OQ 5 Z ?_;exact br Z Z aq.g0 (m:=5) Y Z Z ⟨by rw[tL p];rfl,aq.pop.pop.pop⟩
 refine P4 aq 4 [0,1,1,2] Z Z<|al Z Z (QD t Z Z Z (e:=57) Z) Z<|P1 2 Z<|dZ Z Z (an Z) (fun _=>Z) (fun i=>?_) (fun i=>?_)
 ·refine OS 21 Z (ai Z (O Z (Qy (places:=[(0,1),(1,1),(2,1),(3,1),(4,1)]) (zero:=[T,T,T,T,T]) (cs:=[_,_,_,_,_]) Z) Z<|bO aq Z (QH Z Z Z aq.g0 (m:=5) Z Z (cells':=[_,_,_,_,_]) Z) Z (fun U aq=>?_)));refine OQ 5 Z ?_;exact br Z Z aq.g0 (m:=5) Y Z Z ⟨by rw[BD i];rfl,aq.pop.pop.pop⟩
 refine P4 aq 4 [1,1] Z Z<|dZ Z Z (an Z) (fun _=>Z) (fun q=>?_) (fun q=>?_)
 ·refine OS 16 Z (ai Z (O Z (Qy (places:=[(0,1),(1,1),(2,1),(3,1),(4,1)]) (zero:=[T,T,T,T,T]) (cs:=[_,_,_,_,_]) Z) Z<|bO aq Z (QH Z Z Z aq.g0 (m:=5) Z Z (cells':=[_,_,_,_,_]) Z) Z (fun U aq=>?_)));refine OQ 5 Z ?_;exact br Z Z aq.g0 (m:=5) Y Z Z ⟨by rw[qI q];rfl,aq.pop.pop.pop⟩
 refine P4 aq 7 [1,1,1,2,0,1] Z Z ?_;obtain⟨tn,rfl⟩:=iQ p;obtain⟨tm,rfl⟩:=FR s;obtain⟨ixn,rfl⟩:=iQ q;obtain⟨aY,f⟩:=cm (show tm<g.threads.length from by have:=mK i;omega);refine Qv (e:=57) (m:=1) t f Z Z Z Z (cI<|ej (by have:=mK i;have:=t.bG;omega)) (fun a0 ac x ag y=>?_);have hr54':=y;obtain⟨a1,rfl,z⟩:=hr54';refine al Z Z (QF aq x Z Z) Z<|al Z Z (QD z Z Z Z (e:=56) Z) Z<|Py 4 Z<|aE Z (fun r=>?_) (fun r=>?_)
 ·refine Pt 2 Z (O Z (Qy (places:=[(0,1),(1,1),(2,1),(3,1),(4,1)]) (zero:=[T,T,T,T,T]) (cs:=[_,_,_,_,_]) Z) Z<|bO aq Z (QH Z Z Z aq.g0 (m:=5) Z Z (cells':=[_,_,_,_,_]) Z) Z (fun U aq=>?_));refine OQ 5 Z ?_;exact br Z Z aq.g0 (m:=5) Y Z Z ⟨by rw[show fh g _=none from by show(g.threads[tm]?).bind _=_;rw[f];exact gN_<|nZ r];rfl,aq.pop.pop.pop⟩
 refine OJ 3 Z<|aS (l:=zp [0,1,2,3,4,5,6,7,8,9,10,11,12]) Y Y<|P4 aq 5 [1,2,0,1] Z Z<|Qv (e:=57) (m:=1) t f Z Z Z Z (cI<|ej (by have:=mK i;have:=t.bG;omega)) (fun a2 am A ao C=>?_);have hr65':=C;obtain⟨a3,rfl,E⟩:=hr65';refine al Z Z (QF aq A Z Z) Z<|P4 aq 2 [1,1] Z Z ?_;obtain⟨a4,n⟩:=cm (n8 r);refine Qv (e:=56) (m:=5) E n Z Z Z Z Z (fun a5 ap F ar M=>?_);obtain rfl:=M;refine al Z Z (QG aq F Z Z) Z<|kb aq Z Z (QH Z Z Z aq.g0 (m:=5) Z Z (cells':=[_,_,_,_,_]) Z) Z (fun U aq=>?_);refine⟨aV,?_⟩;refine Pz 4 Z ?_;exact br Z Z aq.g0 (m:=5) Y Z Z ⟨by rw[show fh g _=some _ from by show(g.threads[tm]?).bind _=_;rw[f];exact n];rfl,aq.pop.pop.pop⟩
theorem AB {G:Cx} (hG:Plain G) {K:KP} {g:XG} {a b c d:V} (h:eN K g a b c d) (mo:Int) {U:D} {L:Own} (aq:J U K L):bk Tryz.prog G 10 [.agg [a,b,c,d],.int .i64 mo] U fun v U'=>∃q,v= .bool q/\J U' K L:=by
 have h':=h;obtain⟨hi,ht,hf,z⟩:=h';refine PS hG Tryz.func10 Z<|Pt 2 Z<|kp aq Z (cz Z Z) (fun U b1 aq=>?_);refine OX aq 9 [0,0] Z Z<|O Z (QD hi Z Z Z (e:=2) Z) Z<|O Z (qB Z Z Z Z) Z<|P3 aq 4 [1,0] Z Z<|O Z (QD ht Z Z Z (e:=57) Z) Z<|O Z (qB Z Z Z Z) Z<|P3 aq 5 [2,0] Z Z<|O Z (QD hf Z Z Z (e:=74) Z) Z<|O Z (qB Z Z Z Z) Z<|P3 aq 5 [3,0] Z Z<|O Z (QD z Z Z Z (e:=74) Z) Z<|O Z (qB Z Z Z Z) Z<|Om 11 Z ?_;obtain⟨LL1,aq,hLL1⟩:=aq.named;refine bp ([5,6]++rg 36 23) (fun j t U=>∃(i:Nat) (m:Int),j+i=g.threads.length/\t.get 5=some (.int .i64 m)/\t.get 6=some (.int .i64 (.ofNat i))/\J U K LL1) (g.threads.length) ⟨0,_,Z,Z,Z,aq⟩ ?_;clear aq;intro j3 t U ar A;obtain⟨i,m,a9,o,a0,aq⟩:=A;subst hLL1;obtain⟨oo,rfl⟩:=ar.q2 o a0 Z;refine OU aq 6 [1,0] Z Z<|O Z (QD ht Z Z Z (e:=57) Z) Z<|vQ 1 Z<|ky Z (an Z) (fun ac=>?_) (fun ac=>?_)
 ·refine Pv 6 Z<|aE Z (fun a1=>?_) (fun a1=>?_)
  ·refine Oq aq 11 [1,0] Z Z ?_;obtain⟨bb,ag,a6⟩:=cL ac;refine Qu (e:=57) (m:=1) ht ag Z Z Z Z (fun be a7 am a8 ao=>?_);have hr54':=ao;obtain⟨bi,rfl,ap⟩:=hr54';refine O Z (QF aq am Z Z) Z<|O Z (QD ap Z Z Z (e:=56) Z) Z<|O Z (qB Z Z Z Z) Z<|PY 3 Z<|aJ<|PW 5 Z<|aO ⟨j3-1,by omega,oF,i+1,_,by omega,Z,cI<|bg (by have:=ht.bG;omega),aq⟩
  refine OL 3 Z<|aT<|OH 7 Z ?_;obtain⟨LL2,aq,hLL2⟩:=aq.named;refine bp ([5,7]++rg 59 24) (fun j t U=>∃(i:Nat) (m:Int),j+i=g.from_.length/\t.get 5=some (.int .i64 m)/\t.get 7=some (.int .i64 (.ofNat i))/\J U K LL2) (g.from_.length) ⟨0,_,Z,Z,Z,aq⟩ ?_;clear aq;intro j7 t U ar A;obtain⟨i,m,a2,o,aa,aq⟩:=A;subst hLL2;obtain⟨oo,rfl⟩:=ar.q2 o aa Z;refine OU aq 6 [2,0] Z Z<|O Z (QD hf Z Z Z (e:=74) Z) Z<|vQ 1 Z<|ky Z (an Z) (fun C=>?_) (fun C=>?_)
  ·refine Pv 7 Z<|aE Z (fun ab=>?_) (fun ab=>?_)
   ·refine Oq aq 11 [2,0] Z Z ?_;obtain⟨a3,E,ax⟩:=cL C;refine Qu (e:=74) (m:=1) hf E Z Z Z Z (fun a4 aI F aY M=>?_);have hr78':=M;obtain⟨a5,rfl,P⟩:=hr78';refine O Z (QF aq F Z Z) Z<|O Z (QD P Z Z Z (e:=67) Z) Z<|O Z (qB Z Z Z Z) Z<|PY 3 Z<|aJ<|PW 5 Z<|aO ⟨j7-1,by omega,oF,i+1,_,by omega,Z,cI<|bg (by have:=hf.bG;omega),aq⟩
   refine OL 3 Z<|aT<|OH 7 Z ?_;obtain⟨LL3,aq,hLL3⟩:=aq.named;refine bp ([5,8]++rg 83 24) (fun j t U=>∃(i:Nat) (m:Int),j+i=g.order.length/\t.get 5=some (.int .i64 m)/\t.get 8=some (.int .i64 (.ofNat i))/\J U K LL3) (g.order.length) ⟨0,_,Z,Z,Z,aq⟩ ?_;clear aq;intro r t U ar A;obtain⟨i,m,Q,o,s,aq⟩:=A;subst hLL3;obtain⟨oo,rfl⟩:=ar.q2 o s Z;refine OU aq 6 [3,0] Z Z<|O Z (QD z Z Z Z (e:=74) Z) Z<|vQ 1 Z<|ky Z (an Z) (fun p=>?_) (fun p=>?_)
   ·refine Pv 7 Z<|aE Z (fun u=>?_) (fun u=>?_)
    ·refine Oq aq 11 [3,0] Z Z ?_;obtain⟨R,f,w⟩:=cL p;refine Qu (e:=74) (m:=1) z f Z Z Z Z (fun W x k y l=>?_);have hr102':=l;obtain⟨X,rfl,n⟩:=hr102';refine O Z (QF aq k Z Z) Z<|O Z (QD n Z Z Z (e:=67) Z) Z<|O Z (qB Z Z Z Z) Z<|PY 3 Z<|aJ<|PW 5 Z<|aO ⟨r-1,by omega,oF,i+1,_,by omega,Z,cI<|bg (by have:=z.bG;omega),aq⟩
    refine OL 3 Z<|aT<|PX 10 Z ?_;exact aA Z Z ⟨_,Z,aq.pop⟩
   refine OR 10 Z<|bc<|aT<|PX 10 Z ?_;exact aA Z Z ⟨_,Z,aq.pop⟩
  refine OR 10 Z<|bc<|aT<|OH 7 Z ?_;obtain⟨LL4,aq,hLL4⟩:=aq.named;refine bp ([5,8]++rg 83 24) (fun j t U=>∃(i:Nat) (m:Int),j+i=g.order.length/\t.get 5=some (.int .i64 m)/\t.get 8=some (.int .i64 (.ofNat i))/\J U K LL4) (g.order.length) ⟨0,_,Z,Z,Z,aq⟩ ?_;clear aq;intro r t U ar A;obtain⟨i,m,Q,o,s,aq⟩:=A;subst hLL4;obtain⟨oo,rfl⟩:=ar.q2 o s Z;refine OU aq 6 [3,0] Z Z<|O Z (QD z Z Z Z (e:=74) Z) Z<|vQ 1 Z<|ky Z (an Z) (fun p=>?_) (fun p=>?_)
  ·refine Pv 7 Z<|aE Z (fun u=>?_) (fun u=>?_)
   ·refine Oq aq 11 [3,0] Z Z ?_;obtain⟨R,f,w⟩:=cL p;refine Qu (e:=74) (m:=1) z f Z Z Z Z (fun W x k y l=>?_);have hr102':=l;obtain⟨X,rfl,n⟩:=hr102';refine O Z (QF aq k Z Z) Z<|O Z (QD n Z Z Z (e:=67) Z) Z<|O Z (qB Z Z Z Z) Z<|PY 3 Z<|aJ<|PW 5 Z<|aO ⟨r-1,by omega,oF,i+1,_,by omega,Z,cI<|bg (by have:=z.bG;omega),aq⟩
   refine OL 3 Z<|aT<|PX 10 Z ?_;exact aA Z Z ⟨_,Z,aq.pop⟩
  refine OR 10 Z<|bc<|aT<|PX 10 Z ?_;exact aA Z Z ⟨_,Z,aq.pop⟩
 refine OR 9 Z<|bc<|aT<|OH 7 Z ?_;obtain⟨LL5,aq,hLL5⟩:=aq.named;refine bp ([5,7]++rg 59 24) (fun j t U=>∃(i:Nat) (m:Int),j+i=g.from_.length/\t.get 5=some (.int .i64 m)/\t.get 7=some (.int .i64 (.ofNat i))/\J U K LL5) (g.from_.length) ⟨0,_,Z,Z,Z,aq⟩ ?_;clear aq;intro j7 t U ar A;obtain⟨i,m,a2,o,aa,aq⟩:=A;subst hLL5;obtain⟨oo,rfl⟩:=ar.q2 o aa Z;refine OU aq 6 [2,0] Z Z<|O Z (QD hf Z Z Z (e:=74) Z) Z<|vQ 1 Z<|ky Z (an Z) (fun C=>?_) (fun C=>?_)
 ·refine Pv 7 Z<|aE Z (fun ab=>?_) (fun ab=>?_)
  ·refine Oq aq 11 [2,0] Z Z ?_;obtain⟨a3,E,ax⟩:=cL C;refine Qu (e:=74) (m:=1) hf E Z Z Z Z (fun a4 aI F aY M=>?_);have hr78':=M;obtain⟨a5,rfl,P⟩:=hr78';refine O Z (QF aq F Z Z) Z<|O Z (QD P Z Z Z (e:=67) Z) Z<|O Z (qB Z Z Z Z) Z<|PY 3 Z<|aJ<|PW 5 Z<|aO ⟨j7-1,by omega,oF,i+1,_,by omega,Z,cI<|bg (by have:=hf.bG;omega),aq⟩
  refine OL 3 Z<|aT<|OH 7 Z ?_;obtain⟨LL6,aq,hLL6⟩:=aq.named;refine bp ([5,8]++rg 83 24) (fun j t U=>∃(i:Nat) (m:Int),j+i=g.order.length/\t.get 5=some (.int .i64 m)/\t.get 8=some (.int .i64 (.ofNat i))/\J U K LL6) (g.order.length) ⟨0,_,Z,Z,Z,aq⟩ ?_;clear aq;intro r t U ar A;obtain⟨i,m,Q,o,s,aq⟩:=A;subst hLL6;obtain⟨oo,rfl⟩:=ar.q2 o s Z;refine OU aq 6 [3,0] Z Z<|O Z (QD z Z Z Z (e:=74) Z) Z<|vQ 1 Z<|ky Z (an Z) (fun p=>?_) (fun p=>?_)
  ·refine Pv 7 Z<|aE Z (fun u=>?_) (fun u=>?_)
   ·refine Oq aq 11 [3,0] Z Z ?_;obtain⟨R,f,w⟩:=cL p;refine Qu (e:=74) (m:=1) z f Z Z Z Z (fun W x k y l=>?_);have hr102':=l;obtain⟨X,rfl,n⟩:=hr102';refine O Z (QF aq k Z Z) Z<|O Z (QD n Z Z Z (e:=67) Z) Z<|O Z (qB Z Z Z Z) Z<|PY 3 Z<|aJ<|PW 5 Z<|aO ⟨r-1,by omega,oF,i+1,_,by omega,Z,cI<|bg (by have:=z.bG;omega),aq⟩
   refine OL 3 Z<|aT<|PX 10 Z ?_;exact aA Z Z ⟨_,Z,aq.pop⟩
  refine OR 10 Z<|bc<|aT<|PX 10 Z ?_;exact aA Z Z ⟨_,Z,aq.pop⟩
 refine OR 10 Z<|bc<|aT<|OH 7 Z ?_;obtain⟨LL7,aq,hLL7⟩:=aq.named;refine bp ([5,8]++rg 83 24) (fun j t U=>∃(i:Nat) (m:Int),j+i=g.order.length/\t.get 5=some (.int .i64 m)/\t.get 8=some (.int .i64 (.ofNat i))/\J U K LL7) (g.order.length) ⟨0,_,Z,Z,Z,aq⟩ ?_;clear aq;intro r t U ar A;obtain⟨i,m,Q,o,s,aq⟩:=A;subst hLL7;obtain⟨oo,rfl⟩:=ar.q2 o s Z;refine OU aq 6 [3,0] Z Z<|O Z (QD z Z Z Z (e:=74) Z) Z<|vQ 1 Z<|ky Z (an Z) (fun p=>?_) (fun p=>?_)
 ·refine Pv 7 Z<|aE Z (fun u=>?_) (fun u=>?_)
  ·refine Oq aq 11 [3,0] Z Z ?_;obtain⟨R,f,w⟩:=cL p;refine Qu (e:=74) (m:=1) z f Z Z Z Z (fun W x k y l=>?_);have hr102':=l;obtain⟨X,rfl,n⟩:=hr102';refine O Z (QF aq k Z Z) Z<|O Z (QD n Z Z Z (e:=67) Z) Z<|O Z (qB Z Z Z Z) Z<|PY 3 Z<|aJ<|PW 5 Z<|aO ⟨r-1,by omega,oF,i+1,_,by omega,Z,cI<|bg (by have:=z.bG;omega),aq⟩
  refine OL 3 Z<|aT<|PX 10 Z ?_;exact aA Z Z ⟨_,Z,aq.pop⟩
 refine OR 10 Z<|bc<|aT<|PX 10 Z ?_;exact aA Z Z ⟨_,Z,aq.pop⟩
theorem KW {x y:dw}:dk [x.ia,x.index] [y.ia,y.index]=dk x y:=dw.same
theorem F1 {G:Cx} (s:Plain G) {K:KP} {g:XG} {a b c d:V} (h:eN K g a b c d) (e:db) {U:D} {L:Own} (aq:J U K L):bk Tryz.prog G 82 [.agg [a,b,c,d],.agg<|ints e.ints] U fun v U'=>v= .bool (bW e (.ofNat g.init.length))/\J U' K L:=by
 have h':=h;obtain⟨t,ht,hf,ho⟩:=h';refine PS s Tryz.func82 Z<|Pt 2 Z<|kp aq Z (cz Z Z) (fun U b1 aq=>?_);refine kp aq Z (cz Z Z) (fun U b2 aq=>?_);refine Ou aq 9 [0,0] Z Z<|ky Z (an Z) (fun q=>?_) (fun q=>?_)
 ·refine OQ 44 Z ?_;exact aA Z Z ⟨cB (by unfold bW aX;simp only[q,ct,cf]),aq.pop.pop⟩
 refine P3 aq 4 [0,0] Z Z<|ky Z (an Z) (fun f=>?_) (fun f=>?_)
 ·refine OQ 39 Z ?_;exact aA Z Z ⟨cB (by unfold bW aX;simp only[q,f,ct,cf]),aq.pop.pop⟩
 refine P3 aq 4 [2,0] Z Z<|ky Z (an Z) (fun j=>?_) (fun j=>?_)
 ·refine OQ 34 Z ?_;exact aA Z Z ⟨cB (by unfold bW aX;simp only[q,f,j,ct,cf]),aq.pop.pop⟩
 refine P3 aq 4 [2,0] Z Z<|ky Z (an Z) (fun k=>?_) (fun k=>?_)
 ·refine OQ 29 Z ?_;exact aA Z Z ⟨cB (by unfold bW aX;simp only[q,f,j,k,ct,cf]),aq.pop.pop⟩
 refine O Z (QC Z aq.g0 (n:=5) (vs:=[_,_,_,_,_]) Z) Z<|bf Z (Qz Z Z Z) (fun _=>Z) (CU s _ aq) (fun U aq=>?_);refine O Z (cV Z) Z<|ky Z (an Z) (fun m=>?_) (fun m=>?_)
 ·refine P3 aq 5 [3,0] Z Z<|ky Z (an Z) (fun r=>?_) (fun r=>?_)
  ·refine OQ 19 Z ?_;exact aA Z Z ⟨cB (by unfold bW aX;simp only[q,f,j,k,m,r,ct,cf]),aq.pop.pop⟩
  refine O Z (QC Z aq.g0 (n:=5) (vs:=[_,_,_,_,_]) Z) Z<|bf Z (Qz Z Z Z) (fun _=>Z) (ml s _ aq) (fun U aq=>?_);refine O Z (cV Z) Z<|ky Z (an Z) (fun l=>?_) (fun l=>?_)
  ·refine PC aq 7 [4,0] Z Z<|aE Z (fun p=>?_) (fun p=>?_)
   ·refine Pu 7 Z ?_;exact aA Z Z ⟨cB (by unfold bW aX;simp only[q,f,j,k,m,r,l,p,ct,cf]),aq.pop.pop⟩
   refine Ot aq 8 [0,0] Z Z<|Pv 2 Z<|aE Z (fun i=>?_) (fun i=>?_)
   ·refine PB aq 10 [1,0] Z Z ?_;exact aA Z Z ⟨cB (by unfold bW aX;simp only[q,f,j,k,m,r,l,p,i,ct,cf]),aq.pop.pop⟩
   refine OV aq 7 [1,0] Z Z<|ky Z (an Z) (fun o=>?_) (fun o=>?_)
   ·refine P3 aq 4 [1,0,0,1] Z Z<|O Z (QD t Z Z Z (e:=2) Z) Z<|Px 6 Z ?_;exact aA Z Z ⟨cB (by unfold bW aX;simp only[q,f,j,k,m,r,l,p,i,o,ct,cf]),aq.pop.pop⟩
   refine Px 11 Z ?_;exact aA Z Z ⟨cB (by unfold bW aX;simp only[q,f,j,k,m,r,l,p,i,o,ct,cf]),aq.pop.pop⟩
  refine Pv 8 Z<|Ot aq 8 [0,0] Z Z<|Pv 2 Z<|aE Z (fun i=>?_) (fun i=>?_)
  ·refine PB aq 10 [1,0] Z Z ?_;exact aA Z Z ⟨cB (by unfold bW aX;simp only[q,f,j,k,m,r,l,i,ct,cf]),aq.pop.pop⟩
  refine OV aq 7 [1,0] Z Z<|ky Z (an Z) (fun o=>?_) (fun o=>?_)
  ·refine P3 aq 4 [1,0,0,1] Z Z<|O Z (QD t Z Z Z (e:=2) Z) Z<|Px 6 Z ?_;exact aA Z Z ⟨cB (by unfold bW aX;simp only[q,f,j,k,m,r,l,i,o,ct,cf]),aq.pop.pop⟩
  refine Px 11 Z ?_;exact aA Z Z ⟨cB (by unfold bW aX;simp only[q,f,j,k,m,r,l,i,o,ct,cf]),aq.pop.pop⟩
 refine PZ 6 Z<|O Z (QC Z aq.g0 (n:=5) (vs:=[_,_,_,_,_]) Z) Z<|bf Z (Qz Z Z Z) (fun _=>Z) (ml s _ aq) (fun U aq=>?_);refine O Z (cV Z) Z<|ky Z (an Z) (fun l=>?_) (fun l=>?_)
 ·refine PC aq 7 [4,0] Z Z<|aE Z (fun p=>?_) (fun p=>?_)
  ·refine Pu 7 Z ?_;exact aA Z Z ⟨cB (by unfold bW aX;simp only[q,f,j,k,m,l,p,ct,cf]),aq.pop.pop⟩
  refine Ot aq 8 [0,0] Z Z<|Pv 2 Z<|aE Z (fun i=>?_) (fun i=>?_)
  ·refine PB aq 10 [1,0] Z Z ?_;exact aA Z Z ⟨cB (by unfold bW aX;simp only[q,f,j,k,m,l,p,i,ct,cf]),aq.pop.pop⟩
  refine OV aq 7 [1,0] Z Z<|ky Z (an Z) (fun o=>?_) (fun o=>?_)
  ·refine P3 aq 4 [1,0,0,1] Z Z<|O Z (QD t Z Z Z (e:=2) Z) Z<|Px 6 Z ?_;exact aA Z Z ⟨cB (by unfold bW aX;simp only[q,f,j,k,m,l,p,i,o,ct,cf]),aq.pop.pop⟩
  refine Px 11 Z ?_;exact aA Z Z ⟨cB (by unfold bW aX;simp only[q,f,j,k,m,l,p,i,o,ct,cf]),aq.pop.pop⟩
 refine Pv 8 Z<|Ot aq 8 [0,0] Z Z<|Pv 2 Z<|aE Z (fun i=>?_) (fun i=>?_)
 ·refine PB aq 10 [1,0] Z Z ?_;exact aA Z Z ⟨cB (by unfold bW aX;simp only[q,f,j,k,m,l,i,ct,cf]),aq.pop.pop⟩
 refine OV aq 7 [1,0] Z Z<|ky Z (an Z) (fun o=>?_) (fun o=>?_)
 ·refine P3 aq 4 [1,0,0,1] Z Z<|O Z (QD t Z Z Z (e:=2) Z) Z<|Px 6 Z ?_;exact aA Z Z ⟨cB (by unfold bW aX;simp only[q,f,j,k,m,l,i,o,ct,cf]),aq.pop.pop⟩
 refine Px 11 Z ?_;exact aA Z Z ⟨cB (by unfold bW aX;simp only[q,f,j,k,m,l,i,o,ct,cf]),aq.pop.pop⟩
theorem Hu {G:Cx} (l:Plain G) {K:KP} {g:XG} {a b c d:V} (h:eN K g a b c d) (th ix o p:Int) {U:D} {L:Own} (aq:J U K L):bk Tryz.prog G 83 [.agg [a,b,c,d],.agg [.int .i64 th,.int .i64 ix],.agg [.int .i64 o,.int .i64 p]] U fun v U'=>v= .bool (dJ g ⟨th,ix⟩ ⟨o,p⟩)/\J U' K L:=by
 have h':=h;obtain⟨hi,ht,hf,ho⟩:=h';refine PS l Tryz.func83 Z<|Pt 2 Z<|kp aq Z (cz Z Z) (fun U b1 aq=>?_);refine kp aq Z (cz Z Z) (fun U b2 aq=>?_);refine kp aq Z (cz Z Z) (fun U b3 aq=>?_);refine OO 5 Z<|O Z (QC Z (aq.get 2 Z) (n:=4) (vs:=[_,_,_,_]) Z) Z<|O Z (QC Z aq.g1 (n:=2) (vs:=[_,_]) Z) Z<|bf Z (Qz Z Z Z) (fun _=>Z) (tv l h _ _ aq) (fun U aq=>?_);refine PZ 3 Z<|kp aq Z (QE (cs:=[T,T,T,T,T])) (fun U b4 aq=>?_);refine bO aq Z (QH Z Z Z aq.g0 (m:=5) Z Z (cells':=[_,_,_,_,_]) Z) Z (fun U aq=>?_);refine On 6 Z<|O Z (QC Z aq.g0 (n:=5) (vs:=[_,_,_,_,_]) Z) Z<|bf Z (Qz Z Z Z) (fun _=>Z) (CU l _ aq) (fun U aq=>?_);refine O Z (cV Z) Z<|Pv 2 Z<|aE Z (fun e=>?_) (fun e=>?_)
 ·refine Pt 2 Z (O Z (QC Z aq.g1 (n:=2) (vs:=[_,_]) Z) Z (O Z (Qy (places:=[(0,1),(1,1)]) (zero:=[T,T]) (cs:=[_,_]) Z) Z<|O Z (J2 (n:=2) (ca:=[_,_]) (cb:=[_,_]) Y Z Z Z Z) Z<|OQ 5 Z ?_));exact aA Z Z ⟨cB (by unfold dJ;simp only[e,ct,cf]),aq.pop.pop.pop.pop⟩
 refine OK 4 Z<|O Z (QC Z (aq.get 3 Z) (n:=4) (vs:=[_,_,_,_]) Z) Z<|O Z (QC Z aq.g1 (n:=2) (vs:=[_,_]) Z) Z<|bf Z (Qz Z Z Z) (fun _=>Z) (tv l h _ _ aq) (fun U aq=>?_);refine PZ 3 Z<|kp aq Z (QE (cs:=[T,T,T,T,T])) (fun U b5 aq=>?_);refine bO aq Z (QH Z Z Z aq.g0 (m:=5) Z Z (cells':=[_,_,_,_,_]) Z) Z (fun U aq=>?_);refine OO 6 Z<|ky Z (an Z) (fun f=>?_) (fun f=>?_)
 ·refine O Z (QC Z (aq.get 2 Z) (n:=2) (vs:=[_,_]) Z) Z<|O Z (QC Z (aq.get 3 Z) (n:=2) (vs:=[_,_]) Z) Z<|O Z (zw (n:=2) (ca:=[_,_]) (cb:=[_,_]) Y Z Z Z Z) Z<|vQ 1 Z<|ky Z (an Z) (fun i=>?_) (fun i=>?_)
  ·refine O Z (QC Z aq.g0 (n:=5) (vs:=[_,_,_,_,_]) Z) Z<|bf Z (Qz Z Z Z) (fun _=>Z) (ml l _ aq) (fun U aq=>?_);refine vQ 1 Z<|ky Z (an Z) (fun j=>?_) (fun j=>?_)
   ·refine P3 aq 6 [1,0,1,1] Z Z<|ky Z (an Z) (fun k=>?_) (fun k=>?_)
    ·refine PF aq 10 [4,0,3,1] Z Z ?_;exact aA Z Z ⟨cB (by unfold dJ;simp only[e,f,i,j,k,ct,cf]),aq.pop.pop.pop.pop.pop⟩
    refine Px 10 Z ?_;exact aA Z Z ⟨cB (by unfold dJ;simp only[e,f,i,j,k,ct,cf]),aq.pop.pop.pop.pop.pop⟩
   refine Px 17 Z ?_;exact aA Z Z ⟨cB (by unfold dJ;simp only[e,f,i,j,ct,cf]),aq.pop.pop.pop.pop.pop⟩
  refine Px 21 Z ?_;exact aA Z Z ⟨cB (by unfold dJ;simp only[e,f,i,ct,cf]),aq.pop.pop.pop.pop.pop⟩
 refine Px 26 Z ?_;exact aA Z Z ⟨cB (by unfold dJ;simp only[e,f,ct,cf]),aq.pop.pop.pop.pop.pop⟩
theorem EH {G:Cx} (hG:Plain G) {K:KP} {g:XG} {a b c d:V} (h:eN K g a b c d) {ln:Nat} {r:List dw} (a1:g.order[ln]?=some r) (hT:g.threads.length<=4) (hR:∀l∈g.threads,l.length<=14) {U:D} {L:Own} (aq:J U K L):bk Tryz.prog G 84 [.agg [a,b,c,d],.int .i64 (.ofNat ln)] U fun v U'=>∃q,v= .bool q/\(q=true↔EP g ln r)/\J U' K L:=by
 have h':=h;obtain⟨hi,ht,hf,A⟩:=h';refine PS hG Tryz.func84 Z<|Pt 2 Z<|kp aq Z (cz Z Z) (fun U b1 aq=>?_);refine Om 15 Z ?_;obtain⟨LL1,aq,hLL1⟩:=aq.named;refine bp ([5,6,7]++rg 13 41) (fun j t U=>∃(i1:Nat),j+i1=g.threads.length/\t.get 5=some (.int .i64 (.ofNat<|jf (.ofNat ln)<|g.threads.take i1))/\t.get 6=some (.int .i64 (.ofNat i1))/\J U K LL1) (g.threads.length) ⟨0,Z,Z,Z,aq⟩ ?_;clear aq;intro j3 t U ar hI;obtain⟨i1,d4,aa,b8,aq⟩:=hI;subst hLL1;obtain⟨oo,rfl⟩:=ar.q2 aa b8 Z;refine OU aq 6 [1,0] Z Z<|O Z (QD ht Z Z Z (e:=57) Z) Z<|Pv 3 Z<|aE Z (fun ab=>?_) (fun ab=>?_)
 ·refine NP 6 Z ?_;obtain⟨xa,E,hi_xa⟩:=cL ab;refine OM 4 Z ?_;obtain⟨LL2,aq,hLL2⟩:=aq.named;refine bp ([5,7]++rg 20 34) (fun j t U=>∃(X:Nat),j+X=xa.length/\t.get 5=some (.int .i64 (.ofNat (jf (.ofNat ln) (g.threads.take i1)+gj (.ofNat ln) (xa.take X))))/\t.get 7=some (.int .i64 (.ofNat X))/\J U K LL2) (xa.length) ⟨0,Z,Z,Z,aq⟩ ?_;clear aq;intro j6 t U ar hI;obtain⟨X,d5,aa,b9,aq⟩:=hI;subst hLL2;obtain⟨oo,rfl⟩:=ar.q2 aa b9 Z;refine OU aq 7 [1,0] Z Z<|Qu (e:=57) (m:=1) ht E Z Z Z Z (fun d6 cp a2 cv a3=>?_);have hr24':=a3;obtain⟨d7,rfl,z⟩:=hr24';refine O Z (QF aq a2 Z Z) Z<|O Z (QD z Z Z Z (e:=56) Z) Z<|Pv 3 Z<|aE Z (fun ac=>?_) (fun ac=>?_)
  ·refine NQ aq 9 [1,0] Z Z<|Qu (e:=57) (m:=1) ht E Z Z Z Z (fun d8 cx a4 cM a5=>?_);have hr33':=a5;obtain⟨d9,rfl,a6⟩:=hr33';refine O Z (QF aq a4 Z Z) Z<|vQ 1 Z ?_;obtain⟨eb,s,c0⟩:=cL ac;refine Qu (e:=56) (m:=5) a6 s Z Z Z Z (fun ee c1 a7 c2 a8=>?_);obtain rfl:=a8;refine O Z (QG aq a7 Z Z) Z<|bf Z (Qz Z Z Z) (fun _=>Z) (ml hG _ aq) (fun U aq=>?_);refine ky Z (an Z) (fun ag=>?_) (fun ag=>?_)
   ·refine P3 aq 3 [1,0] Z Z<|Qu (e:=57) (m:=1) ht E Z Z Z Z (fun eg c3 a9 c4 bb=>?_);have hr43':=bb;obtain⟨el,rfl,be⟩:=hr43';refine O Z (QF aq a9 Z Z) Z<|vQ 1 Z<|Qu (e:=56) (m:=5) be s Z Z Z Z (fun em c5 bi c7 bl=>?_);obtain rfl:=bl;refine cq bi Z Z Z (k:=1) Y (lb Z) (fun _=>Z) (fun en bm=>?_);refine O Z (QF aq bm Z Z) Z<|Pv 5 Z<|aE Z (fun am=>?_) (fun am=>?_)
    ·refine PW 5 Z (aJ (PW 5 Z (aO ⟨j6-1,by omega,oF,X+1,by omega,(cI ((bg (by have h1:=zK (loc:=.ofNat ln) (i:=i1) hT hR;have h2:=tJ (loc:=.ofNat ln) (l:=xa.take X);have h3:=hR _ (gB_ E);rw[lT_] at h2;omega)).trans (by rw[Kt s ag am];rfl))),cI<|bg (by have:=z.bG;omega),aq⟩)))
    refine aG<|aJ<|PW 5 Z<|aO ⟨j6-1,by omega,oF,X+1,by omega,(by rw[HP (loc:=.ofNat ln) s (.inr am)];exact Z),cI<|bg (by have:=z.bG;omega),aq⟩
   refine OP 17 Z<|PW 5 Z<|aO ⟨j6-1,by omega,oF,X+1,by omega,(by rw[HP (loc:=.ofNat ln) s (.inl ag)];exact Z),cI<|bg (by have:=z.bG;omega),aq⟩
  rw[tL_<|bC ac];refine OL 3 Z<|aT<|aJ<|PW 5 Z<|aO ⟨j3-1,by omega,oF,i1+1,by omega,(by rw[uC E];exact Z),cI<|bg (by have:=ht.bG;omega),aq⟩
 rw[tL_<|bC ab];refine OL 3 Z<|aT<|PA aq 5 [3,0] Z Z<|Qu (e:=74) (m:=1) A a1 Z Z Z Z (fun er c8 bo c9 bs=>?_);have hr57':=bs;obtain⟨es,rfl,p⟩:=hr57';refine O Z (QF aq bo Z Z) Z<|Om 10 Z ?_;obtain⟨LL3,aq,hLL3⟩:=aq.named;refine bp ([4]++rg 9 4++rg 59 50) (fun j t U=>∃(i:Nat),j+i=r.length/\(∀(k:Nat) (x:dw),k<i->r[k]?=some x->x9 g (.ofNat ln) x=true/\∀(k2:Nat) (y:dw),k2<k->r[k2]?=some y->y≠x)/\t.get 9=some (.int .i64 (.ofNat i))/\J U K LL3) (r.length) ⟨0,Z,fun k x hk=>absurd hk (nZ_ _),Z,aq⟩ ?_;clear aq;intro cc t U ar hI;obtain⟨i,dd,F,ce,aq⟩:=hI;subst hLL3;obtain⟨oo,rfl⟩:=ar.q1 ce Z;refine OI 5 Z<|O Z (QD p Z Z Z (e:=67) Z) Z<|Pv 3 Z<|aE Z (fun R=>?_) (fun R=>?_)
 ·refine NO 5 Z (aS (l:=[(0,[]),(1,[]),(2,[]),(3,[]),(4,[]),(9,[]),(5,[9]),(6,[]),(7,[]),(8,[]),(10,[]),(11,[])]) Y Y<|al Z Z (QC Z aq.g0 (n:=4) (vs:=[_,_,_,_]) Z) Z<|P1 2 Z ?_);obtain⟨f,o,dl⟩:=cL R;refine Qv (e:=67) (m:=2) p o Z Z Z Z Z (fun et dm bt dr bv=>?_);obtain rfl:=bv;refine al Z Z (QG aq bt Z Z) Z<|pB aq Z Z (QE (cs:=[T,T,T,T,T])) (fun _=>Z) (fun U b2 aq=>?_);refine cA Z Z (Qz Z Z Z) (fun _=>Z) (tv hG h _ _ aq) (fun U aq=>?_);refine⟨(bB (iq Z Z Z Z Z (cs:=[T,T,T,T,T]) (e:=56) Y aq.g0 Y) aV),?_⟩;refine P1 3 Z<|kb aq Z Z (QH Z Z Z aq.g0 (m:=5) Z Z (cells':=[_,_,_,_,_]) Z) Z (fun U aq=>?_);refine⟨aV,?_⟩;refine OS 4 Z<|Pt 3 Z<|O Z (cV Z) Z<|ky Z (an Z) (fun C=>?_) (fun C=>?_)
  ·refine Px 27 Z<|aw<|aF<|aw<|bz<|aF<|aw (?_);exact aA Z Z ⟨_,Z,⟨(fun M=>by cases M),fun A=>absurd (A.NM f<|gB_ o) (by unfold x9;rw[show(fh g f).isSome=false from kA C];exact Bool.false_ne_true)⟩,aq.pop.pop⟩
  refine PZ 2 Z<|Qu (e:=67) (m:=2) p o Z Z Z Z (fun ev ds bw dx b0=>?_);obtain rfl:=b0;refine cq bw Z Z Z (k:=0) Y (lb Z) (fun _=>Z) (fun ex b3=>?_);refine O Z (QF aq b3 Z Z) Z<|PZ 2 Z<|ky Z (an Z) (fun P=>?_) (fun P=>?_)
  ·refine Px 19 Z<|aw<|aF<|aw<|bz<|aF<|aw (?_);exact aA Z Z ⟨_,Z,⟨(fun M=>by cases M),fun A=>absurd (A.NM f<|gB_ o) (by unfold x9;rw[show(fh g f).isSome=true from eV C,show I f.ia 0=true from P];exact Bool.false_ne_true)⟩,aq.pop.pop⟩
  refine O Z (QC Z aq.g0 (n:=5) (vs:=[_,_,_,_,_]) Z) Z<|bf Z (Qz Z Z Z) (fun _=>Z) (ml hG _ aq) (fun U aq=>?_);refine O Z (cV Z) Z<|vQ 1 Z<|ky Z (an Z) (fun W=>?_) (fun W=>?_)
  ·refine Px 14 Z<|aw<|aF<|aw<|bz<|aF<|aw (?_);exact aA Z Z ⟨_,Z,⟨(fun M=>by cases M),fun A=>absurd (A.NM f<|gB_ o) (by unfold x9;rw[show(fh g f).isSome=true from eV C,show I f.ia 0=false from P,show bq (AP<|fh g f)=false from kA W];exact Bool.false_ne_true)⟩,aq.pop.pop⟩
  refine PC aq 7 [1,0] Z Z<|aE Z (fun ao=>?_) (fun ao=>?_)
  ·refine PX 6 Z<|aw<|aF<|aw<|bz<|aF<|aw (?_);exact aA Z Z ⟨_,Z,⟨(fun M=>by cases M),fun A=>absurd (A.NM f<|gB_ o) (by unfold x9;rw[show(fh g f).isSome=true from eV C,show I f.ia 0=false from P,show bq (AP<|fh g f)=true from eV W,show I (AP<|fh g f).loc (.ofNat ln)=false from bT ao];exact Bool.false_ne_true)⟩,aq.pop.pop⟩
  have b4:x9 g (.ofNat ln) f=true:=by unfold x9;rw[show(fh g f).isSome=true from eV C,show I f.ia 0=false from P,show bq (AP<|fh g f)=true from eV W];exact bj ao
  refine OK 5 Z<|OM 3 Z ?_;obtain⟨LL4,aq,hLL4⟩:=aq.named;refine bp ([4,12]++rg 95 14) (fun j t U=>∃(i3:Nat),j+i3=i/\(∀(k2:Nat) (y:dw),k2<i3->r[k2]?=some y->y≠f)/\t.get 12=some (.int .i64 (.ofNat i3))/\J U K LL4) (i) ⟨0,Z,fun k2 y hk=>absurd hk (nZ_ _),Z,aq⟩ ?_;clear aq;intro cg t U ar hI;obtain⟨i3,d0,b5,b6,aq⟩:=hI;subst hLL4;obtain⟨oo,rfl⟩:=ar.q1 b6 Z;refine Ps 8 Z<|aE Z (fun u=>?_) (fun u=>?_)
  ·refine NO 5 Z<|aS (l:=zp [0,1,2,3,4,5,6,7,8]) Y Y<|P1 2 Z ?_;obtain⟨d1,w⟩:=cm (show i3<r.length from by have:=bu u;omega);refine Qv (e:=67) (m:=2) p w Z Z Z Z Z (fun d2 ch ap ci ax=>?_);obtain rfl:=ax;refine al Z Z (QG aq ap Z Z) Z<|P1 2 Z<|Qv (e:=67) (m:=2) p o Z Z Z Z Z (fun d3 ck aI cl aY=>?_);obtain rfl:=aY;refine al Z Z (QG aq aI Z Z) Z<|al Z Z (J2 (n:=2) (ca:=[_,_]) (cb:=[_,_]) Y Z Z Z Z) Z<|Py 2 Z<|aE Z (fun Q=>?_) (fun Q=>?_)
   ·refine PX 6 Z<|aF<|aw<|bz<|aF<|aF<|aw<|bz<|aF<|aw (?_);exact aA Z Z ⟨_,Z,⟨(fun M=>by cases M),fun A=>absurd (dc.1<|KW.symm.trans Q) (I6 A.nodup (bu u) w o)⟩,aq.pop.pop⟩
   refine aG (aJ (PW 5 Z (aO ⟨cg-1,by have:=bu u;omega,oF,i3+1,by have:=bu u;omega,fun k2 y hk hy=>(by by_cases a0:k2=i3;(subst a0;rw[w] at hy;cases hy;exact fun he=>absurd Q (by rw[he,dc.2 Z];decide));exact b5 k2 y B hy),cI<|bg (by have:=p.bG;have:=bu u;omega),aq⟩)))
  refine OL 3 Z<|aT<|aJ<|PW 5 Z ?_;have aq:=aq.pop;refine aO ⟨cc-1,by omega,oF,i+1,by omega,fun k x hk hx=>(by by_cases a0:k=i;(subst a0;rw[o] at hx;cases hx;exact⟨b4,fun k2 y eC hy=>b5 k2 y (by have:=bC u;omega) hy⟩);exact F k x B hx),cI<|bg (by have:=p.bG;omega),aq⟩
 refine OL 3 Z<|aT<|Pt 3 Z<|O Z (QD p Z Z Z (e:=67) Z) Z<|Px 6 Z ?_;exact aA Z Z ⟨_,Z,⟨fun M=>⟨fun id cn=>(by obtain⟨k,hk⟩:=gO_ cn;exact(F k id (by have:=(gA.1 hk).1;have:=bC R;omega) hk).1),I7 fun k m x y co hx hy=>(F m y (by have:=(gA.1 hy).1;have:=bC R;omega) hy).2 k x co hx,(by have b7:I (.ofNat r.length) (.ofNat<|jf (.ofNat ln) g.threads)=true:=M;rw[fv] at b7;exact of_decide_eq_true b7)⟩,fun A=>(by show I (.ofNat r.length) (.ofNat<|jf (.ofNat ln) g.threads)=true;rw[fv,A.C0];exact decide_eq_true Z)⟩,aq.pop⟩
theorem ox {G:Cx} (hG:Plain G) {K:KP} {g:XG} {a b c d:V} (h:eN K g a b c d) {U:D} {L:Own} (aq:J U K L):bk Tryz.prog G 47 [.agg [a,b,c,d]] U fun v U'=>v= .int .i64 (cd g)/\J U' K L:=by
 have h':=h;obtain⟨hi,C,hf,ho⟩:=h';refine PS hG Tryz.func47 Z<|Pt 2 Z<|kp aq Z (cz Z Z) (fun U b1 aq=>?_);refine Ou aq 8 [1,0] Z Z<|O Z (QD C Z Z Z (e:=57) Z) Z<|vQ 1 Z<|ky Z (an Z) (fun ap=>?_) (fun ap=>?_)
 ·refine OQ 15 Z ?_;exact aA Z Z ⟨cJ (by rw[pN<|CJ ap]),aq.pop⟩
 refine P3 aq 2 [0,0] Z Z<|O Z (QD hi Z Z Z (e:=2) Z) Z<|Pv 4 Z<|aE Z (fun ax=>?_) (fun ax=>?_)
 ·refine Pu 7 Z ?_;exact aA Z Z ⟨cJ (by rw[pN<|CL ax]),aq.pop⟩
 refine Ok 9 Z ?_;obtain⟨LL1,aq,hLL1⟩:=aq.named;refine bp ([2,3]++rg 19 14) (fun j t U=>∃(i:Nat),j+i=g.threads.length/\(∀(k:Nat) (l:List db),k<i->g.threads[k]?=some l->bU 14 (.ofNat l.length)=false)/\t.get 3=some (.int .i64 (.ofNat i))/\J U K LL1) (g.threads.length) ⟨0,Z,fun k x A=>absurd A (nZ_ _),Z,aq⟩ ?_;clear aq;intro j4 t U ar hI;obtain⟨i,e4,E,c0,aq⟩:=hI;subst hLL1;obtain⟨oo,rfl⟩:=ar.q1 c0 Z;refine OU aq 6 [1,0] Z Z<|O Z (QD C Z Z Z (e:=57) Z) Z<|Pv 3 Z<|aE Z (fun aI=>?_) (fun aI=>?_)
 ·refine NQ aq 9 [1,0] Z Z ?_;obtain⟨e5,ab,d4⟩:=cL aI;refine Qu (e:=57) (m:=1) C ab Z Z Z Z (fun e6 d5 b3 d6 b4=>?_);have hr29':=b4;obtain⟨e7,rfl,b5⟩:=hr29';refine O Z (QF aq b3 Z Z) Z<|O Z (QD b5 Z Z Z (e:=56) Z) Z<|Pv 3 Z<|aE Z (fun a9=>?_) (fun a9=>?_)
  ·refine PX 6 Z<|aF<|aw<|bz<|aF<|aw (?_);exact aA Z Z ⟨cJ (by rw[pN<|CK ab a9]),aq.pop⟩
  refine aG (aJ (PW 5 Z (aO ⟨j4-1,by omega,oF,i+1,by omega,fun k l A hl=>(by by_cases F:k=i;(subst F;rw[ab] at hl;cases hl;exact a9);exact E k l B hl),cI<|bg (by have:=C.bG;omega),aq⟩)))
 have hTL:=ED (i:=i) ap ax (bC aI) E;have hT:g.threads.length<=4:=bC (a:=4) (by exact ap);have hR:∀l∈g.threads,l.length<=14:=fun l hl=>by obtain⟨k,A⟩:=gO_ hl;exact bC (a:=14) (E k l (by have:=(gA.1 A).1;have:=bC aI;omega) A)
 refine OL 3 Z<|aT<|OU aq 5 [2,0] Z Z<|O Z (QD hf Z Z Z (e:=74) Z) Z<|P3 aq 2 [1,0] Z Z<|O Z (QD C Z Z Z (e:=57) Z) Z<|vQ 1 Z<|ky Z (an Z) (fun X=>?_) (fun X=>?_)
 ·refine OQ 18 Z ?_;exact aA Z Z ⟨cJ (by rw[mf hTL fun w=>absurd X (by rw[w.from_,fP];decide)]),aq.pop⟩
 refine P3 aq 2 [3,0] Z Z<|O Z (QD ho Z Z Z (e:=74) Z) Z<|P3 aq 2 [0,0] Z Z<|O Z (QD hi Z Z Z (e:=2) Z) Z<|Pv 4 Z<|aE Z (fun aa=>?_) (fun aa=>?_)
 ·refine Pu 7 Z ?_;exact aA Z Z ⟨cJ (by rw[mf hTL fun w=>absurd aa (by rw[w.order,fP];decide)]),aq.pop⟩
 refine Ok 9 Z ?_;obtain⟨LL2,aq,hLL2⟩:=aq.named;refine bp ([2,4,5]++rg 49 41) (fun j t U=>∃(i:Nat),j+i=g.threads.length/\(∀(k:Nat) (x:List db) (y:List dw),k<i->g.threads[k]?=some x->g.from_[k]?=some y->y.length=x.length/\∀(m:Nat) (e:db),x[m]?=some e->bW e (.ofNat g.init.length)=true)/\t.get 4=some (.int .i64 (.ofNat i))/\J U K LL2) (g.threads.length) ⟨0,Z,fun k x y A=>absurd A (nZ_ _),Z,aq⟩ ?_;clear aq;intro c1 t U ar hI;obtain⟨i,d7,a3,c2,aq⟩:=hI;subst hLL2;obtain⟨oo,rfl⟩:=ar.q1 c2 Z;refine OU aq 6 [1,0] Z Z<|O Z (QD C Z Z Z (e:=57) Z) Z<|Pv 3 Z<|aE Z (fun aY=>?_) (fun aY=>?_)
 ·refine NO 5 Z<|ak<|aS (l:=zp [0,1,2,3,4,5,6,7,8,9,10,11,12]) Y Y<|P4 aq 3 [2,0] Z Z ?_;obtain⟨c3,Q⟩:=cm (show i<g.from_.length from by have:=dB (bj X);have:=bu aY;omega);refine Qv (e:=74) (m:=1) hf Q Z Z Z Z Z (fun e8 d8 b6 d9 b7=>?_);have hr59':=b7;obtain⟨e9,rfl,b8⟩:=hr59';refine al Z Z (QF aq b6 Z Z) Z<|al Z Z (QD b8 Z Z Z (e:=67) Z) Z<|P4 aq 3 [1,0] Z Z ?_;obtain⟨bb,p,eb⟩:=cL aY;refine Qv (e:=57) (m:=1) C p Z Z Z Z Z (fun fa ee b9 eg ca=>?_);have hr65':=ca;obtain⟨fd,rfl,a4⟩:=hr65';refine al Z Z (QF aq b9 Z Z) Z<|al Z Z (QD a4 Z Z Z (e:=56) Z) Z<|Py 3 Z<|aE Z (fun be=>?_) (fun be=>?_)
  ·refine PX 6 Z<|aw<|aF<|aw<|bz<|aF<|aw (?_);exact aA Z Z ⟨cJ (by rw[mf hTL fun w=>absurd be (by rw[(w.rows i _ _ p Q).1,fP];decide)]),aq.pop⟩
  refine OK 5 Z<|OM 3 Z ?_;obtain⟨LL3,aq,hLL3⟩:=aq.named;refine bp ([2,5]++rg 69 21) (fun j t U=>∃(i2:Nat),j+i2=bb.length/\(∀(m:Nat) (e:db),m<i2->bb[m]?=some e->bW e (.ofNat g.init.length)=true)/\t.get 5=some (.int .i64 (.ofNat i2))/\J U K LL3) (bb.length) ⟨0,Z,fun k x A=>absurd A (nZ_ _),Z,aq⟩ ?_;clear aq;intro c4 t U ar hI;obtain⟨i2,el,cb,c5,aq⟩:=hI;subst hLL3;obtain⟨oo,rfl⟩:=ar.q1 c5 Z;refine OU aq 7 [1,0] Z Z<|Qu (e:=57) (m:=1) C p Z Z Z Z (fun fi em cc en ce=>?_);have hr73':=ce;obtain⟨fk,rfl,cg⟩:=hr73';refine O Z (QF aq cc Z Z) Z<|O Z (QD cg Z Z Z (e:=56) Z) Z<|Pv 3 Z<|aE Z (fun bi=>?_) (fun bi=>?_)
  ·refine NO 5 Z<|aS (l:=zp [0,1,2,3,4,5,6,7,8,9,10]) Y Y<|al Z Z (QC Z aq.g0 (n:=4) (vs:=[_,_,_,_]) Z) Z<|P4 aq 3 [1,0] Z Z<|Qv (e:=57) (m:=1) C p Z Z Z Z Z (fun fr er ch es ci=>?_);have hr83':=ci;obtain⟨fs,rfl,ck⟩:=hr83';refine al Z Z (QF aq ch Z Z) Z<|wQ 1 Z ?_;obtain⟨fu,ac,cl⟩:=cL bi;refine Qv (e:=56) (m:=5) ck ac Z Z Z Z Z (fun f0 et cn ev co=>?_);obtain rfl:=co;refine al Z Z (QG aq cn Z Z) Z<|cA Z Z (Qz Z Z Z) (fun _=>Z) (F1 hG h _ aq) (fun U aq=>?_);refine⟨aV,?_⟩;refine al Z Z (cV Z) Z<|Py 2 Z<|aE Z (fun a0=>?_) (fun a0=>?_)
   ·refine PX 6 Z<|aF<|aw<|bz<|aF<|aF<|aw<|bz<|aF<|aw (?_);exact aA Z Z ⟨cJ (by rw[mf hTL fun w=>by obtain⟨r1,r2⟩:=w.rows i _ _ p Q;obtain⟨y,hy⟩:=cm (show i2<c3.length from by rw[r1];exact cl);have:=(Jd<|r2 i2 _ _ ac hy).1;rw[this] at a0;cases a0]),aq.pop⟩
   refine aG (aJ (PW 5 Z (aO ⟨c4-1,by omega,oF,i2+1,by omega,fun m e hm he=>(by by_cases bl:m=i2;(subst bl;rw[ac] at he;cases he;exact eV a0);exact cb m e B he),cI<|bg (by have:=a4.bG;omega),aq⟩)))
  refine OL 3 Z (aT (aJ (PW 5 Z (aO ⟨c1-1,by omega,oF,i+1,by omega,fun k x y A z R=>(by by_cases F:k=i;(subst F;rw[p] at z;rw[Q] at R;cases z;cases R;exact⟨dB<|bj be,fun m e hm=>cb m e (by have:=(gA.1 hm).1;have:=bC bi;omega) hm⟩);exact a3 k x y B z R),cI<|bg (by have:=C.bG;omega),aq⟩))))
 have hrows:=a3;have hi11:=bC aY;have hlen:∀(k:Nat) (x:List db) (y:List dw),g.threads[k]?=some x->g.from_[k]?=some y->y.length=x.length/\∀(m:Nat) (e:db),x[m]?=some e->bW e (.ofNat g.init.length)=true:=fun k x y z R=>hrows k x y (by have:=(gA.1 z).1;omega) z R
 have a5:∀(t:Nat) (l:List db) (m:Nat) (e:db),g.threads[t]?=some l->l[m]?=some e->bq e=true->∃ln:Nat,e.loc= .ofNat ln/\ln<g.order.length:=fun t l m e z R h3=>by
  obtain⟨y,hy⟩:=cm (show t<g.from_.length from by have:=dB (bj X);have:=(gA.1 z).1;omega);obtain⟨ln,k1,k2⟩:=Cr ((hlen t l y z hy).2 m e R) h3;exact⟨ln,k1,by have:=dB (bj aa);omega⟩
 refine OL 3 Z<|aT<|OH 7 Z ?_;obtain⟨LL4,aq,hLL4⟩:=aq.named;refine bp ([2,6,7]++rg 90 32) (fun j t U=>∃(i4:Nat),j+i4=g.threads.length/\(∀(k:Nat) (x:List db) (y:List dw),k<i4->g.threads[k]?=some x->g.from_[k]?=some y->∀(m:Nat) (f:dw),m<x.length->y[m]?=some f->dJ g ⟨.ofNat (k+1),.ofNat m⟩ f=true)/\t.get 6=some (.int .i64 (.ofNat i4))/\J U K LL4) (g.threads.length) ⟨0,Z,fun k x y A=>absurd A (nZ_ _),Z,aq⟩ ?_;clear aq;intro c7 t U ar hI;obtain⟨i4,ex,a6,c8,aq⟩:=hI;subst hLL4;obtain⟨oo,rfl⟩:=ar.q1 c8 Z;refine OU aq 6 [1,0] Z Z<|O Z (QD C Z Z Z (e:=57) Z) Z<|Pv 3 Z<|aE Z (fun bm=>?_) (fun bm=>?_)
 ·refine NP 6 Z ?_;obtain⟨xb,a1,hi_xb⟩:=cL bm;refine OM 4 Z ?_;obtain⟨LL5,aq,hLL5⟩:=aq.named;refine bp ([2,7]++rg 97 25) (fun j t U=>∃(i5:Nat),j+i5=xb.length/\(∀(y:List dw) (m:Nat) (f:dw),m<i5->g.from_[i4]?=some y->y[m]?=some f->dJ g ⟨.ofNat (i4+1),.ofNat m⟩ f=true)/\t.get 7=some (.int .i64 (.ofNat i5))/\J U K LL5) (xb.length) ⟨0,Z,fun y m f hm=>absurd hm (nZ_ _),Z,aq⟩ ?_;clear aq;intro c9 t U ar hI;obtain⟨i5,eC,cp,dd,aq⟩:=hI;subst hLL5;obtain⟨oo,rfl⟩:=ar.q1 dd Z;refine OU aq 7 [1,0] Z Z<|Qu (e:=57) (m:=1) C a1 Z Z Z Z (fun eS dl bo dm bs=>?_);have hr101':=bs;obtain⟨eT,rfl,ag⟩:=hr101';refine O Z (QF aq bo Z Z) Z<|O Z (QD ag Z Z Z (e:=56) Z) Z<|Pv 3 Z<|aE Z (fun o=>?_) (fun o=>?_)
  ·refine NO 5 Z (aS (l:=zp [0,1,2,3,4,5,6,7,8,9,10,11,12,13,14]) Y Y (al Z Z (QC Z aq.g0 (n:=4) (vs:=[_,_,_,_]) Z) Z (P1 3 Z (al Z Z (Qy (places:=[(0,1),(1,1)]) (zero:=[T,T]) (cs:=[_,_]) Z) Z<|P4 aq 3 [2,0] Z Z ?_))));obtain⟨cv,u⟩:=cm (show i4<g.from_.length from by have:=dB (bj X);omega);obtain⟨xc,dr⟩:=cm (bu o);refine Qv (e:=74) (m:=1) hf u Z Z Z Z Z (fun e0 ds bt dx bv=>?_);have hr115':=bv;obtain⟨e1,rfl,bw⟩:=hr115';refine al Z Z (QF aq bt Z Z) Z<|wQ 1 Z ?_;obtain⟨a7,M⟩:=cm (show i5<cv.length from by rw[(hlen i4 _ _ a1 u).1];exact bu o);refine Qv (e:=67) (m:=2) bw M Z Z Z Z Z (fun e2 d0 b0 d1 b2=>?_);obtain rfl:=b2;refine al Z Z (QG aq b0 Z Z) Z<|cA Z Z (Qz Z Z Z) (fun _=>Z) (Hu hG h _ _ _ _ aq) (fun U aq=>?_);refine⟨aV,?_⟩;refine al Z Z (cV Z) Z<|Py 2 Z<|aE Z (fun am=>?_) (fun am=>?_)
   ·refine PX 6 Z<|aF<|aw<|bz<|aF<|aF<|aw<|bz<|aF<|aw (?_);exact aA Z Z ⟨cJ (by rw[mf hTL fun w=>by obtain⟨r1,r2⟩:=w.rows i4 _ _ a1 u;have:=(Jd<|r2 i5 _ _ dr M).2;have e:dJ g ⟨wr .i64<|Int.add (.ofNat i4) (.ofNat 1),.ofNat i5⟩ ⟨a7.ia,a7.index⟩=true:=(by rw[bg (by have:=C.bG;omega)];exact this);exact absurd ((kA am).symm.trans e) (by decide)]),aq.pop⟩
   refine aG<|aJ<|PW 5 Z ?_;refine aO ⟨c9-1,by have:=bu o;omega,oF,i5+1,by have:=bu o;omega,fun y m f hm hy hf=>(by by_cases bl:m=i5;(subst bl;rw[u] at hy;cases hy;rw[M] at hf;cases hf;have hq:=eV am;rw[<-bg (i:=i4) (by have:=C.bG;omega)];exact hq);exact cp y m f B hy hf),cI<|bg (by have:=ag.bG;have:=bu o;omega),aq⟩
  refine OL 3 Z (aT (aJ (PW 5 Z (aO ⟨c7-1,by omega,oF,i4+1,by omega,fun k x y A z R m f hm hf=>(by by_cases F:k=i4;(subst F;rw[a1] at z;cases z;exact cp y m f (by have:=bC o;omega) R hf);exact a6 k x y B z R m f hm hf),cI<|bg (by have:=C.bG;omega),aq⟩))))
 have hsrcs:=a6;have hi21:=bC bm;refine OL 3 Z<|aT<|OH 7 Z ?_;obtain⟨LL6,aq,hLL6⟩:=aq.named;refine bp ([2,8]++rg 122 11) (fun j t U=>∃(i8:Nat),j+i8=g.init.length/\(∀(k:Nat) (r:List dw),k<i8->g.order[k]?=some r->EP g k r)/\t.get 8=some (.int .i64 (.ofNat i8))/\J U K LL6) (g.init.length) ⟨0,Z,fun k x A=>absurd A (nZ_ _),Z,aq⟩ ?_;clear aq;intro d2 t U ar hI;obtain⟨i8,e3,a8,d3,aq⟩:=hI;subst hLL6;obtain⟨oo,rfl⟩:=ar.q1 d3 Z;refine OU aq 6 [0,0] Z Z<|O Z (QD hi Z Z Z (e:=2) Z) Z<|Pv 3 Z<|aE Z (fun s=>?_) (fun s=>?_)
 ·refine NP 6 Z<|O Z (QC Z aq.g0 (n:=4) (vs:=[_,_,_,_]) Z) Z<|vQ 1 Z ?_;obtain⟨cx,P⟩:=cm (show i8<g.order.length from by have:=dB (bj aa);have:=bu s;omega);refine cH Z (Qz Z Z Z) (fun _=>Z) (EH hG h P hT hR aq) ?_;rintro _ U ⟨cM,rfl,ao,aq⟩;refine O Z (cV Z) Z<|Pv 2 Z<|aE Z (fun W=>?_) (fun W=>?_)
  ·refine PX 6 Z<|aF<|aw<|bz<|aF<|aw (?_);exact aA Z Z ⟨cJ (by rw[mf hTL fun w=>by have hq:cM=true:=ao.2 ((uS a5).2 w.perm i8 cx P);rw[hq] at W;cases W]),aq.pop⟩
  refine aG (aJ (PW 5 Z (aO ⟨d2-1,by have:=bu s;omega,oF,i8+1,by have:=bu s;omega,fun k r A w=>(by by_cases F:k=i8;(subst F;rw[P] at w;cases w;exact ao.1<|eV W);exact a8 k r B w),cI<|bg (by have:=hi.bG;have:=bu s;omega),aq⟩)))
 have a2:yu g:=⟨hT,bC (a:=6) (by exact ax),fun k l hl=>hR l (gB_ hl),dB<|bj X,dB<|bj aa,fun k l f z R=>⟨(hlen k l f z R).1,fun m e q h3 h4=>Nd ((hlen k l f z R).2 m e h3) (hsrcs k l f (by have:=(gA.1 z).1;omega) z R m q (gA.1 h3).1 h4)⟩,(uS a5).1 fun k r w=>a8 k r (by have:=(gA.1 w).1;have:=dB (bj aa);have:=bC s;omega) w⟩;refine OL 3 Z<|aT<|PX 6 Z ?_;exact aA Z Z ⟨cJ (by rw[im.2 a2]),aq.pop⟩
theorem JQ {G:Cx} {K:KP} {l:List dw} {x:dw} {i n b vb e:Nat} (hn:l.length=n) (a:i<n) (hle:n<=1000000) {U:D} {L:Own} (aq:J U K ((b,.row (de l) e false)::(vb,.row (ints x.ints) 67 false)::L)):
  vd Tryz.prog G 70 [.slice b 0 n (.known n),.int .i64 (.ofNat i),.slice vb 0 1 (.known 1)] U fun v U'=>∃c,v= .slice c 0 (n+1) (.upto 2)/\J U' K ((c,.row (de (l.take i++x::l.drop i)) 67 false)::(b,.row (de l) e false)::(vb,.row (ints x.ints) 67 false)::L):=by
 refine BF (f:=70) Tryz.func70 Z (t:=((N.leaf.put (some (.slice b 0 n (.known n))) 0).put (some (.int .i64 (.ofNat i))) 1).put (some (.slice vb 0 1 (.known 1))) 2) (by rfl)<|Pt 9 Z<|O Z (xT (e:=67) (sz:=2) Y Y Z (lC Z<|Nat.le_of_lt a) a) Z<|OO 5 Z<|O Z (rQ Z Z Z (e:=67) Y Z) Z<|On 7 Z<|O Z (az (v:=.bool false) Z Z Z) Z<|Oo 8 Z<|O Z (rQ Z Z Z (e:=67) Y Z) Z<|On 8 Z<|O Z (az (v:=.bool false) Z Z (by show some (V.bool<|I (.ofNat i) (.ofNat n))=_;rw[fv];simp;omega)) Z (Pv 3 Z<|Ol 9 Z<|O Z (Mh Z Z Z (e:=67) Y Z Z) Z ?_);refine O Z (az (v:=.bool true) Z Z (by show some (V.bool<|bU (.ofNat n)<|wr .i64<|Int.add (.ofNat n) (.ofNat 1))=_;rw[bg B,lX];simp)) Z (OO 7 Z<|O Z (xT (e:=67) (sz:=2) Y Y Z (oH Z<|Nat.le_of_lt a) B) Z<|PZ 5 Z ?_);refine Ja aq Z (Hy (e:=67) (sz:=2) (w:=16) (zs:=[T,T]) (b:=b) (n:=n+1-i) (len:=i) (cp:=n) (m:=n+1) (k2:=.i64) Z Z Z Z Y Y Y Y Y Z (cI ((congrArg (fun z=>wr .i64 (Int.sub z (.ofNat i)))<|bg B).trans<|kY B B)) aq.g0 B B B B (by decide) (by decide) Z (by rw[ed];omega) B) (fun _=>Z) (fun U d aq=>?_);obtain⟨Zv,g,aa⟩:∃Zv,fp [T,T] (n+1-i)=Zv/\Zv.length=(n+1-i)*2:=⟨_,Z,by rw[nO];rfl⟩;rw[uy,g] at aq;have ab:(de<|l.take i).length=i*2:=by rw[ed,lT_];omega
 have ac:(de<|l.drop i).length=(n-i)*2:=by rw[ed,lD_];omega
 refine OO 7 Z (O Z (xU (e:=67) (sz:=2) Y Y Z<|lC Z B) Z (vQ 1 Z (O Z (AM (e:=67) (sz:=2) (C0:=1) (n:=1) (news:=ints x.ints) (cells':=de (l.take i)++(ints x.ints++Zv.drop 2)) Z Z Z Y Y Z Z (vy (len:=1) (aq.get 2 Z) (show 0+1*2<=(ints x.ints).length from nR_ 2)) (by show Nat.min 1 (n+1-i)=1;exact Nat.min_eq_left B) (by decide) aq.g0 (show cD (ints x.ints)=true from lN _) (by decide) (by show 0+i*2+2<=_;rw[lA_];omega)<|ug (X:=ints x.ints) B (by show 2<=_;omega)) Z ?_)));replace aq:=aq.pf (.row (de (l.take i)++(ints x.ints++Zv.drop 2)) 67 false);refine ON 3 Z<|aS (l:=zp [0,1,2,3,4,5,6,7,8]) Y Y<|P1 4 Z<|al Z Z (xU (e:=67) (sz:=2) Y Y Z<|lC (cI<|bg B) B) Z<|P1 2 Z<|al Z Z (xT (e:=67) (sz:=2) Y Y Z (lC Z<|Nat.le_of_lt a) a) Z ?_;refine eM Z Z (AM (e:=67) (sz:=2) (C0:=n-i) (n:=n-i) (news:=de<|l.drop i) (cells':=de (l.take i++x::l.drop i)) Z Z Z Y Y Z Z (by rw[vy (len:=n-i) aq.g1 (by rw[ed];omega),nA_,pM,tL_ B]) (by show Nat.min (n-i) (n+1-(i+1))=n-i;exact Nat.min_eq_left B) B aq.g0 (by rw[tL_ B];exact ux _) (by decide) (by rw[tL_ B,lA_,lA_,lD_];show _<=_+(2+_);omega) (by rw[tL_ B,Fh (by show _=_+2;omega) (by rw[lD_];omega),r5,gq])) Z ⟨aV,?_⟩;replace aq:=aq.pf (.row (de (l.take i++x::l.drop i)) 67 false);refine OT 10 Z ?_;exact aA Z Z ⟨d,Z,aq⟩
theorem Nx {G:Cx} (k:G.ov 106=true) {K:KP} {l:List dw} {x:dw} {i n b vb:Nat} (hn:l.length=n) (o:i<n) (hle:n<=1000000) (m:b≠vb) {U:D} {L:Own} (aq:J U K ((b,.row (de l++[V.any,V.any]) 67 false)::(vb,.row (ints x.ints) 67 false)::L)):
  vd Tryz.prog G 70 [.slice b 0 n (.least (n+1) 2),.int .i64 (.ofNat i),.slice vb 0 1 (.known 1)] U fun v U'=>v= .slice b 0 (n+1) (.least (n+1) 2)/\J U' K ((b,.row (de (l.take i++x::l.drop i)) 67 false)::(vb,.row (ints x.ints) 67 false)::L):=by
 have aa:(de<|l.take i).length=i*2:=by rw[ed,lT_];omega
 have c:(de<|l.drop i).length=(n-i)*2:=by rw[ed,lD_];omega
 obtain⟨d,h,g,hC1,hC2⟩:∃d h:List V,d++h=de (l.drop i)++[V.any,V.any]/\d.length=2/\h.length=(de<|l.drop i).length:=
  ⟨(de (l.drop i)++[V.any,V.any]).take 2,(de (l.drop i)++[V.any,V.any]).drop 2,List.take_append_drop _ _,by rw[lT_,lA_];show min 2 (_+2)=2;omega,by rw[lD_,lA_];show _+2-2=_;omega⟩
 have j:de l++[V.any,V.any]=de (l.take i)++(d++h):=by rw[g,<-lQ_,<-r5,List.take_append_drop]
 rw[j] at aq;refine BF (f:=70) Tryz.func70 Z (t:=((N.leaf.put (some (.slice b 0 n (.least (n+1) 2))) 0).put (some (.int .i64 (.ofNat i))) 1).put (some (.slice vb 0 1 (.known 1))) 2) (by rfl)<|Pt 9 Z<|O Z (oy (e:=67) (sz:=2) Y Y Z (lC Z<|Nat.le_of_lt o) B B) Z<|OO 5 Z<|O Z (rQ Z Z Z (e:=67) Y Z) Z<|On 7 Z<|O Z (az (v:=.bool false) Z Z Z) Z<|Oo 8 Z<|O Z (rQ Z Z Z (e:=67) Y Z) Z<|On 8 Z<|O Z (az (v:=.bool false) Z Z (by show some (V.bool<|I (.ofNat i) (.ofNat n))=_;rw[fv];simp;omega)) Z (Pv 3 Z<|Ol 9 Z<|O Z (Mh Z Z Z (e:=67) Y Z Z) Z ?_);refine O Z (az (v:=.bool false) Z Z (by rw[bg B];show(bif Nat.ble (n+1) (n+1) then some (V.bool false) else none)=_;rw[show Nat.ble (n+1) (n+1)=true from by rw[nE_];exact nR_ _];rfl)) Z (Oo 11 Z<|O Z (oy (e:=67) (sz:=2) Y Y Z (oH (cI<|bg B) B) B B) Z<|On 11 Z<|O Z (oy (e:=67) (sz:=2) (len:=n+1) (a:=n+1) Y Y Z (lC (cI<|bg B) B) B B) Z<|O Z (EL Z Z Y k Y Z Z Z aq.g1 aq.g0 (Ne.symm m) Z Z (by rw[lA_,lA_];omega)) Z<|O Z (cV Z) Z<|ON 4 Z<|aS (l:=zp [0,1,2,3,4,5,6,7,8]) Y Y<|P1 4 Z<|al Z Z (oy (e:=67) (sz:=2) (len:=n+1) (a:=n+1) Y Y Z (lC (cI<|bg B) B) B B) Z<|P1 2 Z<|al Z Z (oy (e:=67) (sz:=2) (len:=n+1) (a:=n+1) Y Y Z (lC Z B) B B) Z ?_);refine eM Z Z (AM (e:=67) (sz:=2) (C0:=n-i) (n:=n+1-i) (news:=d++h) (cells':=de (l.take i)++(d++de (l.drop i))) Z Z Z Y Y Z Z (by rw[vy (len:=n+1-i) aq.g0 (by rw[lA_,lA_];omega),show 0+0*2+i*2=(de<|l.take i).length from by omega,List.drop_left,tL_ (by rw[lA_];omega)]) (by show Nat.min (n+1-i) (n+1-(i+1))=n-i;rw[show n+1-(i+1)=n-i by omega];exact Nat.min_eq_right B) B aq.g0 (by rw[g,<-c,List.take_left];exact ux _) (by decide) (by rw[g,<-c,List.take_left,lA_,<-g,lA_];omega) (by rw[g,<-c,List.take_left,<-g];exact Fh B hC2)) Z ⟨aV,?_⟩;replace aq:=aq.pf (.row (de (l.take i)++(d++de (l.drop i))) 67 false)
 refine OS 3 Z (ai Z (PZ 2 Z (O Z (oy (e:=67) (sz:=2) (len:=n+1) (a:=n+1) Y Y Z (lC Z B) B B) Z (vQ 1 Z (O Z (AM (e:=67) (sz:=2) (C0:=1) (n:=1) (news:=ints x.ints) (cells':=de (l.take i++x::l.drop i)) Z Z Z Y Y Z Z (vy (len:=1) aq.g1 (show 0+1*2<=(ints x.ints).length from nR_ 2)) (by show Nat.min 1 (n+1-i)=1;exact Nat.min_eq_left B) (by decide) aq.g0 (show cD (ints x.ints)=true from lN _) (by decide) (by show 0+0*2+i*2+2<=_;rw[lA_,lA_];omega) (by rw[r5,gq];exact KZ (X:=ints x.ints) B hC1.symm)) Z ?_)))));replace aq:=aq.pf (.row (de (l.take i++x::l.drop i)) 67 false);refine OQ 10 Z ?_;exact aA Z Z ⟨Z,aq⟩
theorem wH {K:KP} {x:dw} {vb e:Nat} (a:K vb (.row (ints x.ints) e false)):bR K 2 iV [x] (.slice vb 0 1 (.known 1)):=
 .inr ⟨vb,0,_,_,e,false,Z,.inr ⟨_,Z,nR_ _⟩,a,nR_ 2,(by simp),fun i y h=>by cases i with | zero=>(cases h;rfl) | succ i=>(simp at h)⟩
theorem Ny {G:Cx} {K:KP} {x:dw} {vb:Nat} (a:K vb (.row (ints x.ints) 67 false)) {U:D} {L:Own} (aq:J U K L):vd Tryz.prog G 70 [.ax,.int .i64 (.ofNat 0),.slice vb 0 1 (.known 1)] U fun v U'=>∃M,cQ 2 67 iV [x] v M/\J U' K (M++L):=by
 have hx:=wH a;refine BF (f:=70) Tryz.func70 Z (t:=((N.leaf.put (some (.ax)) 0).put (some (.int .i64 (.ofNat 0))) 1).put (some (.slice vb 0 1 (.known 1))) 2) (by rfl)<|Pt 9 Z<|O Z (J8 (e:=67) (sz:=2) Y Y Z Z) Z<|OO 5 Z<|O Z (rQ Z Z Z (e:=67) Y Z) Z<|On 7 Z<|O Z (az (v:=.bool false) Z Z Z) Z<|Oo 8 Z ?_;refine O Z (bn (v:=.int .i64 (.ofNat 0)) Z Z) Z ?_;refine On 8 Z<|O Z (az (v:=.bool true) Z Z Z) Z<|OO 7 Z<|G3 (R:=iV) (m:=2) (e:=67) aq hx iV.leaf (by simp) (by simp) Z Z Z Z Z Y Y Y Z Z (fun _=>Z) (fun U d news aq b c=>?_);refine OQ 5 Z ?_;exact aA Z Z ⟨[(d,.row news 67 false)],.inr ⟨d,.upto 2,news,67,Z,Z,b,c,.inr ⟨Z,Z⟩,(by simp)⟩,aq⟩
theorem LC {G:Cx} {K:KP} {x:dw} {vb:Nat} (a:K vb (.row (ints x.ints) 67 false)) {l:List dw} {n b e:Nat} {cells:List V} (k:l.length=n) (hle:n<=1000000) (c:cells.length=l.length*2) (d:∀(i:Nat) (y:dw),l[i]?=some y->iV y ((cells.drop (i*2)).take 2)) {U:D} {L:Own} (aq:J U K ((b,.row cells e false)::L)):vd Tryz.prog G 70 [.slice b 0 n (.known n),.int .i64 (.ofNat n),.slice vb 0 1 (.known 1)] U fun v U'=>∃M,cQ 2 67 iV (l++[x]) v M/\J U' K (M++L):=by
 have hx:=wH a;refine BF (f:=70) Tryz.func70 Z (t:=((N.leaf.put (some (.slice b 0 n (.known n))) 0).put (some (.int .i64 (.ofNat n))) 1).put (some (.slice vb 0 1 (.known 1))) 2) (by rfl)<|Pt 9 Z<|O Z (J7 (e:=67) (sz:=2) Y Y Z Z) Z<|OO 5 Z<|O Z (rQ Z Z Z (e:=67) Y Z) Z<|On 7 Z<|O Z (az (v:=.bool false) Z Z Z) Z<|Oo 8 Z<|O Z (rQ Z Z Z (e:=67) Y Z) Z<|On 8 Z<|O Z (az (v:=.bool true) Z Z (by show some (V.bool<|I (.ofNat n) (.ofNat n))=_;rw[fv];simp)) Z (OO 7 Z<|n9 (R:=iV) (m:=2) (e:=67) aq hx iV.leaf (by simp) B B (.inl Z) Z Z Z Z Z Y Y Y Z Z (fun _=>Z) (fun U o c9 news p aq g h j=>?_));refine OQ 5 Z ?_;exact aA Z Z ⟨[(o,.row (cells++news) p false)],qf c d g h (by rw[k]) j (by show n+1<=1048576;omega),aq⟩
theorem LF {G:Cx} {K:KP} {x:dw} {vb:Nat} (a:K vb (.row (ints x.ints) 67 false)) {l:List dw} {n b:Nat} {cells:List V} (k:l.length=n) (hle:n<=1000000) (c:cells.length=l.length*2) (d:∀(i:Nat) (y:dw),l[i]?=some y->iV y ((cells.drop (i*2)).take 2)) {U:D} {L:Own} (aq:J U K ((b,.row cells 67 false)::L)):vd Tryz.prog G 70 [.slice b 0 n (.upto 2),.int .i64 (.ofNat n),.slice vb 0 1 (.known 1)] U fun v U'=>∃M,cQ 2 67 iV (l++[x]) v M/\J U' K (M++L):=by
 have hx:=wH a;refine BF (f:=70) Tryz.func70 Z (t:=((N.leaf.put (some (.slice b 0 n (.upto 2))) 0).put (some (.int .i64 (.ofNat n))) 1).put (some (.slice vb 0 1 (.known 1))) 2) (by rfl)<|Pt 9 Z<|O Z (xU (e:=67) (sz:=2) Y Y Z<|lC Z<|nR_ _) Z<|OO 5 Z<|O Z (rQ Z Z Z (e:=67) Y Z) Z<|On 7 Z<|O Z (az (v:=.bool false) Z Z Z) Z<|Oo 8 Z<|O Z (rQ Z Z Z (e:=67) Y Z) Z<|On 8 Z<|O Z (az (v:=.bool true) Z Z (by show some (V.bool<|I (.ofNat n) (.ofNat n))=_;rw[fv];simp)) Z (OO 7 Z<|n9 (R:=iV) (m:=2) (e:=67) aq hx iV.leaf (by simp) B B (.inr ⟨Z,Z⟩) Z Z Z Z Z Y Y Y Z Z (fun _=>Z) (fun U o c9 news p aq g h j=>?_));refine OQ 5 Z ?_;exact aA Z Z ⟨[(o,.row (cells++news) p false)],qf c d g h (by rw[k]) j (by show n+1<=1048576;omega),aq⟩
theorem vd.mono {P:Program} {G:Cx} {f:Nat} {args:List V} {U:D} {R R':V->D->Prop} (h:vd P G f args U R) (a:∀v U',R v U'->R' v U'):vd P G f args U R':=
 let ⟨K,v,U',b,c⟩:=h;⟨K,v,U',b,a _ _ c⟩
theorem vu {l:List dw} {x:dw} {i:Nat} (hi:i<=l.length):(l.take i++x::l.drop i).length=l.length+1:=by
 rw[lA_,lT_,List.length_cons,lD_];omega
theorem w6 {l:List dw} {b n e:Nat} {c:pH} (a:n=l.length) (d:c= .known n∨(c= .upto 2/\e=67)) (hle:n<=1048576):cQ 2 67 iV l (.slice b 0 n c) [(b,.row (de l) e false)]:=by
 subst a;exact .inr ⟨b,c,_,e,Z,Z,ed l,fun i y h=>Gg h,d,hle⟩
theorem yR {P:Program} {G:Cx} {ih:lf} {f:Nat} {U:D} {b n:Nat} {c:pH} {w:V}:pX P G ih f [.slice b 0 n c,.int .i64 (.ofNat n),w] U=lj P G ih f [.slice b 0 n c,.int .i64 (.ofNat n),w] U:=by
 unfold pX;rw[show atEnd [.slice b 0 n c,.int .i64 (.ofNat n),w]=true from Nat.beq_refl n];rfl
theorem BO {P:Program} {G:Cx} {ih:lf} {f:Nat} {U:D} {b n i m:Nat} {w:V} (hi:i<n):pX P G ih f [.slice b 0 n (.known m),.int .i64 (.ofNat i),w] U=lj P G ih f [.slice b 0 n (.known m),.int .i64 (.ofNat i),w] U:=by
 unfold pX
 rw[show atEnd [.slice b 0 n (.known m),.int .i64 (.ofNat i),w]=false from by
  show Nat.beq i n=false;cases a:Nat.beq i n with
  | false=>rfl
  | true=>exact absurd (nB a) B]
 rfl
theorem JR {G:Cx} (m:Plain G) (f:G.fk 70=true) (q:G.ov 106=true) {K:KP} {l:List dw} {x:dw} {i vb:Nat} {u:V} {M:Own} (a:K vb (.row (ints x.ints) 67 false)) (z:cQ 2 67 iV l u M) (n:i<=l.length) (hle:l.length<=1000000) {U:D} {L:Own} (aq:J U K (M++L)):
  bk Tryz.prog G 70 [u,.int .i64 (.ofNat i),.slice vb 0 1 (.known 1)] U fun v U'=>∃M',cQ 2 67 iV (l.take i++x::l.drop i) v M'/\J U' K (M'++L):=by
 rcases z with ⟨rfl,rfl,rfl⟩ | ⟨b,c,cells,e,rfl,rfl,r,s,w,h6⟩
 ·obtain rfl:i=0:=by simpa using n
  exact sK m f (fun ih=>Z)<|Ny a aq
 by_cases t:i=l.length
 ·subst t;rw[List.take_length,List.drop_length];rcases w with rfl | ⟨rfl,rfl⟩
  ·exact sK m f (fun ih=>yR)<|LC a Z hle r s aq
  exact sK m f (fun ih=>yR)<|LF a Z hle r s aq
 have g:i<l.length:=by omega
 obtain rfl:=yC l cells r s;have j:b≠vb:=(aq.kept _ _ a).2.2 _ (mS_ ..);have hgv:=(aq.kept _ _ a);rcases w with rfl | ⟨rfl,rfl⟩
 ·refine sK m f (fun ih=>BO g) ((JQ (K:=K.sub vb) Z g hle ((aq.Ns a).perm<|List.Perm.swap ..)).mono fun v U' h=>?_);obtain⟨y,rfl,k⟩:=h;exact⟨_,w6 (vu n).symm (.inr ⟨Z,Z⟩) B,J.Nl aq a ((k.sub (.cons_cons _ (.cons _ (.refl _)))).perm<|List.Perm.swap ..)⟩
 have htwo:= @J.two _ U b vb (.row (de l) 67 false) (.row (ints x.ints) 67 false) (.row (de l) 67 false) (.row (ints x.ints) 67 false) (aq.own _<|mS_ ..).1 hgv.1 j;have o:((l.take i++x::l.drop i).flatMap dw.ints).length=(l.length+1)*2:=by rw[<-uM,<-na,ed,vu n]
 have d:∀(cs:List V),cs=de (l.take i++x::l.drop i)->(l.length+1)*2<=cs.length/\cs.take ((l.length+1)*2)=ints ((l.take i++x::l.drop i).flatMap dw.ints):=fun cs h=>by
  subst h;have:=ed (l.take i++x::l.drop i);rw[vu n] at this;exact⟨by omega,by rw[tL_ B,na]⟩
 refine Il (e:=67) (ve:=67) (cells:=de l) (vc:=x.ints) (rs:=(l.take i++x::l.drop i).flatMap dw.ints) (n1:=l.length+1) m f B g j aq.g0 hgv.2.1 (by rw[ed];exact nR_ _) B o ?_ ?_ ?_
 ·refine(JQ (K:=fun _ _=>False) Z g hle htwo).mono fun v U' h=>?_
  obtain⟨y,rfl,k⟩:=h;exact⟨y,_,Z,(List.pairwise_cons.1 k.ne).1 (vb,.row (ints x.ints) 67 false) (by simp),k.get 0 Z,k.get 2 Z,(d _ Z).1,(d _ Z).2⟩
 ·have p:(de l).take (l.length*2)++List.replicate 2 V.any=de l++[V.any,V.any]:=by rw[tL_ (by rw[ed];exact nR_ _)];rfl
  rw[p];have htwo2:= @J.two _ U b vb (.row (de l++[V.any,V.any]) 67 false) (.row (ints x.ints) 67 false) (.row (de l++[V.any,V.any]) 67 false) (.row (ints x.ints) 67 false) (aq.own _<|mS_ ..).1 hgv.1 j;refine(Nx q (K:=fun _ _=>False) Z g hle j htwo2).mono fun v U' h=>?_
  obtain⟨rfl,k⟩:=h;exact⟨b,_,_,Z,nR_ _,j,k.get 0 Z,k.get 1 Z,(d _ Z).1,(d _ Z).2⟩
 refine⟨[(U.next,.row (ints ((l.take i++x::l.drop i).flatMap dw.ints)) 67 false)],?_,aq.xq _⟩;rw[<-na];exact w6 (vu n).symm (.inr ⟨Z,Z⟩) B
end Go.Ev
namespace Go.Ev
variable [Env]
theorem pZ {K:KP} {q i T1 T2 T3:Nat} {g:XG} {j:V} {M1 k l m:Own} {n o p d f h:Nat} {a b c:List V} (r:cQ 1 2 dy g.init j M1) (s:fH 5 q iU g.threads a k) (t:fH 2 i iV g.from_ b l) (u:fH 2 i iV g.order c m)
  (v:∀e∈M1,K e.1 e.2) (k2:∀e∈k,K e.1 e.2) (w:∀e∈l,K e.1 e.2) (x:∀e∈m,K e.1 e.2) (q2:K n (.row a T1 false)) (q3:K o (.row b T2 false)) (q4:K p (.row c T3 false))
  (y:d=g.threads.length) (z:f=g.from_.length) (A:h=g.order.length) (l2:g.threads.length<=1048576) (C:g.from_.length<=1048576) (E:g.order.length<=1048576):eN K g j (.slice n 0 d (.known d)) (.slice o 0 f (.known f)) (.slice p 0 h (.known h)):=
 ⟨r.kq v,s.kq k2 q2 y l2,t.kq w q3 z C,u.kq x q4 A E⟩
end Go.Ev
namespace Go.Ev
variable [Env]
open Go.Proofs
set_option maxRecDepth 4000
set_option maxHeartbeats 8000000
theorem zQ {g:XG} (h:cd g=0):Mj g:=by
 obtain⟨b1,b2,b,c,b5,d,b7⟩:=cK h;exact⟨by omega,by omega,fun l a=>by have:=b l a;omega,by omega,fun l a=>by have:=mS d c b l a;omega,by omega,fun l a=>by have:=j0 h l a;omega⟩
def EM (K:KP) (L:Own) (g:XG) (th:Int) (e:db) (fr:dw) (pl:Int) (v:V) (U':D):Prop:=
 (∃er,gf g th e fr pl=(none,er)/\v= .tuple [.agg [.ax,.ax,.ax,.ax],.int .i64 er]/\J U' K L)∨
 (∃g' a' b' c' d' M,gf g th e fr pl=(some g',0)/\v= .tuple [.agg [a',b',c',d'],T]/\eN (K.ic M) g' a' b' c' d'/\J U' K (M++L))
theorem vY {G:Cx} (f:Plain G) {K:KP} {L MM:Own} {U:D} {g:XG} {a b c d:V} (aq:J U K (MM++L)) (h:eN (K.ic MM) g a b c d):bk Tryz.prog G 45 [.agg [a,b,c,d]] U fun v U'=>v= .int .i64 (cd g)/\J U' K (MM++L):=
 (vz f h aq.keeps).mono fun _ _ e=>⟨e.1,J.tk aq e.2⟩
theorem HJ {K:KP} {L MM:Own} {U:D} {g g':XG} {th pl:Int} {e:db} {fr:dw} {a b c d:V} (f:gf g th e fr pl=(some g',0)) (aq:J U K (MM++L)) (h:eN (K.ic MM) g' a b c d):EM K L g th e fr pl (.tuple [.agg [a,b,c,d],T]) U:=.inr ⟨g',a,b,c,d,MM,f,Z,h,aq⟩
theorem mh {α:Type} {K:KP} {R:α->List V->Prop} {x:α} {m vb e:Nat} {cs:List V} (b:R x cs) (hm:cs.length=m) (a:K vb (.row cs e false)):bR K m R [x] (.slice vb 0 1 (.known 1)):=by
 subst hm;refine .inr ⟨vb,0,_,_,e,false,Z,.inr ⟨_,Z,nR_ _⟩,a,?_,(by simp),fun i y h=>?_⟩
 ·rw[List.length_singleton];omega
 cases i with
 | zero=>simp only[List.getElem?_cons_zero,oJ_] at h;subst h;rw[Nat.zero_mul,nA_,List.drop_zero,List.take_length];exact b
 | succ i=>simp at h
theorem zj {G:Cx} (Q:Plain G) (a8:G.fk 70=true) (a9:G.ov 106=true) {K:KP} {g:XG} {a b c d:V} (h:eN K g a b c d) (th pl:Int) (e:db) (fr:dw) {U:D} {L:Own} (aq:J U K L):bk Tryz.prog G 38 [.agg [a,b,c,d],.int .i64 th,.agg [.int .i64 e.kind,.int .i64 e.loc,.int .i64 e.order,.int .i64 e.read,.int .i64 e.write],.agg [.int .i64 fr.ia,.int .i64 fr.index],.int .i64 pl] U (EM K L g th e fr pl):=by
 have h':=h;obtain⟨hi,ht,hf,ho⟩:=h';refine PS Q Tryz.func38 Z<|Pt 2 Z<|kp aq Z (cz Z Z) (fun U b1 aq=>?_);refine kp aq Z (cz Z Z) (fun U b2 aq=>?_);refine kp aq Z (cz Z Z) (fun U b3 aq=>?_);refine kp aq Z (QE (cs:=[.ax,.ax,.ax,.ax])) (fun U b4 aq=>?_);refine On 6 Z<|O Z (QC Z (aq.get 3 Z) (n:=4) (vs:=[_,_,_,_]) Z) Z<|bf Z (Qz Z Z Z) (fun _=>Z) (vz Q h aq) (fun U aq=>?_);refine Pv 3 Z<|aE Z (fun j=>?_) (fun j=>?_)
 ·refine Pt 2 Z (O Z (Qy (places:=[(0,1),(1,1),(2,1),(3,1)]) (zero:=[.ax,.ax,.ax,.ax]) (cs:=[_,_,_,_]) Z) Z<|bO aq Z (QH Z Z Z aq.g0 (m:=4) Z Z (cells':=[_,_,_,_]) Z) Z (fun U aq=>?_));refine OQ 5 Z ?_;exact br Z Z aq.g0 (m:=4) Y Z Z (.inl ⟨_,AX<|bT j,Z,aq.pop.pop.pop.pop⟩)
 refine Ol 7 Z<|ky Z (an Z) (fun ar=>?_) (fun ar=>?_)
 ·refine OO 11 Z (O Z (Qy (places:=[(0,1),(1,1),(2,1),(3,1)]) (zero:=[.ax,.ax,.ax,.ax]) (cs:=[_,_,_,_]) Z) Z<|bO aq Z (QH Z Z Z aq.g0 (m:=4) Z Z (cells':=[_,_,_,_]) Z) Z (fun U aq=>?_));refine OQ 5 Z ?_;exact br Z Z aq.g0 (m:=4) Y Z Z (.inl ⟨_,AY (bj j) ar,Z,aq.pop.pop.pop.pop⟩)
 refine P3 aq 3 [1,3] Z Z<|O Z (QD ht Z Z Z (e:=57) Z) Z<|Pv 4 Z<|aE Z (fun a0=>?_) (fun a0=>?_)
 ·refine Pt 2 Z (O Z (Qy (places:=[(0,1),(1,1),(2,1),(3,1)]) (zero:=[.ax,.ax,.ax,.ax]) (cs:=[_,_,_,_]) Z) Z<|bO aq Z (QH Z Z Z aq.g0 (m:=4) Z Z (cells':=[_,_,_,_]) Z) Z (fun U aq=>?_));refine OQ 5 Z ?_;exact br Z Z aq.g0 (m:=4) Y Z Z (.inl ⟨_,AW (bj j) ar a0,Z,aq.pop.pop.pop.pop⟩)
 obtain⟨tm,rfl⟩:=qj ar;have a2:tm<g.threads.length:=by have:=mK a0;omega
 obtain⟨o,k⟩:=cm a2;obtain⟨xf,p⟩:=cm (show tm<g.from_.length from by rw[(cK<|sH<|bj j).2.2.2.1];exact a2);refine OV aq 9 [1,3] Z Z<|Qu (e:=57) (m:=1) ht k Z Z Z (cI<|ej (by have:=ht.bG;omega)) (fun bw bt a3 bv a4=>?_);have hr33':=a4;obtain⟨b0,rfl,a5⟩:=hr33';refine O Z (QF aq a3 Z Z) Z (O Z (QD a5 Z Z Z (e:=56) Z) Z (O Z (Qy (places:=[(0,1),(1,1)]) (zero:=[T,T]) (cs:=[_,_]) Z) Z<|kp aq Z (QE (cs:=[T,T])) (fun U b5 aq=>?_)));refine bO aq Z (QH Z Z Z aq.g0 (m:=2) Z Z (cells':=[_,_]) Z) Z (fun U aq=>?_);refine OW aq 10 [1,0] Z Z<|aE Z (fun u=>?_) (fun u=>?_)
 ·refine Pt 2 Z (O Z (Qy (places:=[(0,1),(1,1),(2,1),(3,1)]) (zero:=[.ax,.ax,.ax,.ax]) (cs:=[_,_,_,_]) Z) Z<|eh aq Z (QH Z Z Z aq.g1 (m:=4) Z Z (cells':=[_,_,_,_]) Z) Z (fun U aq=>?_));refine OQ 5 Z ?_;exact br Z Z aq.g1 (m:=4) Y Z Z (.inl ⟨_,by rw[kO (bj j) k p,show bU (.ofNat o.length) 14=false from bT u];rfl,Z,aq.pop.pop.pop.pop.pop⟩)
 refine Ol 5 Z<|O Z (QC Z (aq.get 3 Z) (n:=5) (vs:=[_,_,_,_,_]) Z) Z<|bf Z (Qz Z Z Z) (fun _=>Z) (kj Q _ aq) (fun U aq=>?_);refine ky Z (an Z) (fun q=>?_) (fun q=>?_)
 ·refine PZ 2 Z<|ky Z (an Z) (fun W=>?_) (fun W=>?_)
  ·refine OO 23 Z (O Z (Qy (places:=[(0,1),(1,1),(2,1),(3,1)]) (zero:=[.ax,.ax,.ax,.ax]) (cs:=[_,_,_,_]) Z) Z<|eh aq Z (QH Z Z Z aq.g1 (m:=4) Z Z (cells':=[_,_,_,_]) Z) Z (fun U aq=>?_));refine OQ 5 Z ?_;exact br Z Z aq.g1 (m:=4) Y Z Z (.inl ⟨_,by rw[kO (bj j) k p,show bU (.ofNat o.length) 14=true from bj u];show(bif cT g e pl then _ else _)=_;rw[show cT g e pl=true from by unfold cT;rw[q];show(bif bU pl 1 then true else _)=true;rw[W];rfl];rfl,Z,aq.pop.pop.pop.pop.pop⟩)
  refine vQ 1 Z (O Z (QC Z (aq.get 4 Z) (n:=4) (vs:=[_,_,_,_]) Z) Z (P3 aq 2 [1,3] Z Z (cH Z (Qz Z Z Z) (fun _=>Z) (tt Q h (fun l hl=>by have:=j0 (sH<|bj j) l hl;omega) _ aq) ?_)));rintro ca U ⟨cb,hM51,aq⟩;replace aq:=aq.aQ;refine O Z (xS hM51 Z Z Z (e:=67) Y Z) Z<|PZ 3 Z<|ky Z (an Z) (fun ab=>?_) (fun ab=>?_)
  ·refine OO 13 Z (O Z (Qy (places:=[(0,1),(1,1),(2,1),(3,1)]) (zero:=[.ax,.ax,.ax,.ax]) (cs:=[_,_,_,_]) Z) Z<|eh aq Z (QH Z Z Z aq.g1 (m:=4) Z Z (cells':=[_,_,_,_]) Z) Z (fun U aq=>?_));refine OQ 5 Z ?_;exact br Z Z aq.g1 (m:=4) Y Z Z (.inl ⟨_,by rw[kO (bj j) k p,show bU (.ofNat o.length) 14=true from bj u];show(bif cT g e pl then _ else _)=_;rw[show cT g e pl=true from by unfold cT;rw[q];show(bif bU pl 1 then true else _)=true;rw[W];exact ab];rfl,Z,aq.pop.pop.pop.pop.pop⟩)
  refine O Z (QC Z (aq.get 3 Z) (n:=5) (vs:=[_,_,_,_,_]) Z) Z<|bf Z (Qz Z Z Z) (fun _=>Z) (kj Q _ aq) (fun U aq=>?_);refine O Z (cV Z) Z<|ky Z (an Z) (fun ac=>?_) (fun ac=>?_)
  ·exact absurd q (by rw[kA ac];decide)
  refine Oo 11 Z<|O Z (QC Z (aq.get 4 Z) (n:=4) (vs:=[_,_,_,_]) Z) Z<|cH Z (Qz Z Z Z) (fun _=>Z) (xO Q h (zQ<|sH<|bj j) aq) ?_;rintro _ U ⟨u1,M1,b6,bb,M2,b7,be,M3,b8,bi,M4,rfl,C,aq⟩;have hOt:=C.threads;have hOf:=C.from_;have hOo:=C.order;refine kp aq Z (QE (cs:=[.ax,.ax,.ax,.ax])) (fun U b9 aq=>?_);refine bO aq Z (QH Z Z Z aq.g0 (m:=4) Z (ah C.init.leaf.2 Z) (cells':=[_,_,_,_]) Z) Z (fun U aq=>?_);refine ON 3 Z (aS (l:=[(0,[]),(1,[]),(2,[]),(3,[]),(4,[]),(5,[]),(6,[]),(7,[]),(8,[]),(9,[]),(10,[]),(11,[]),(12,[1]),(13,[]),(14,[])]) Y Y<|P4 aq 8 [1,0,1,0] Z Z ?_);obtain⟨utt,Mtt,At,Bt,w,ag,am,E⟩:=hOt.at k;subst am;refine al Z Z (eo (e:=57) (m:=1) Z Y Z (cI<|ej (by have:=ht.bG;omega)) (show tm<g.threads.length from(gA.1 k).1)) Z (al Z Z (ay Z aq.pop.aQ.pop.aQ.pop.aQ.g0 Y (by rw[eF,show 0+tm*1=tm from by omega];exact w)) Z<|al Z Z (QC Z aq.pop.aQ.pop.aQ.pop.aQ.pop.aQ.pop.pop.pop.g0 (n:=5) (vs:=[_,_,_,_,_]) Z) Z<|j1 aq Z Z (bY (e:=56) (m:=5) (z:=[T,T,T,T,T]) (cs:=[_,_,_,_,_]) Y Y Y Y<|bD Z Z Z Z bJ) (fun _=>Z) (fun U bl aq=>?_));have hpl:=(aq.pull (X:=Mtt) (.there (.there (.cM (.there (.cM (.there ep.nh))))))).perm List.perm_middle;obtain⟨U,ut2t,Mt2t,r,hOt2t,aq⟩:=fJ (P:=Tryz.prog) (ts:= #[57,57]) (t:=57) (e:=56) ag hpl (mh (R:=iU) (x:=e) (m:=5) Z Z (.inr ⟨Z,Z⟩)) iU.leaf (by simp) (by simp) (by have:=(cK<|sH<|bj j).2.2.1 _ (gB_ k);omega) Z Y Y Y;refine eM Z Z (dM Z Z Z Z Y r) Z ?_;replace aq:=aq.push (.there (.cM (.there (.cM (.there ep.nh)))));refine⟨(bB (bN Z Z Z Z Z (QB Z aq.g0 Z)<|qF _ _ _ _) aV),?_⟩;refine al Z Z (eo (e:=57) (m:=1) Z Y Z (cI<|ej (by have:=ht.bG;omega)) (show tm<g.threads.length from(gA.1 k).1)) Z ?_;have hltt:=(gA.1 w).1;refine gD aq (.there (.cM (.there (.cM (.there (.cM .here)))))) Z Z (gR Z Z hOt2t.leaf.1 aq.pop.aQ.pop.aQ.pop.aQ.g0 (m:=1) Y Z B<|ah hOt2t.leaf.2 Z) Z (fun U aq=>?_);refine⟨aV,?_⟩;rw[fW hltt] at aq;have hO2t:=E _ _ _ hOt2t;refine OS 3 Z (aS (l:=[(0,[]),(1,[]),(2,[]),(3,[]),(4,[]),(5,[]),(6,[]),(7,[]),(8,[]),(9,[]),(10,[]),(11,[]),(12,[1]),(13,[]),(14,[])]) Y Y<|P4 aq 8 [2,0,2,0] Z Z ?_);obtain⟨utf,Mtf,Af,Bf,A,ao,ap,F⟩:=hOf.at p;subst ap
  refine al Z Z (eo (e:=74) (m:=1) Z Y Z (cI<|ej (by have:=ht.bG;omega)) (show tm<g.from_.length from(gA.1 p).1)) Z (al Z Z (ay Z aq.pop.aQ.pop.aQ.g0 Y (by rw[eF,show 0+tm*1=tm from by omega];exact A)) Z<|al Z Z (QC Z aq.pop.aQ.pop.aQ.pop.aQ.pop.aQ.pop.pop.g0 (n:=2) (vs:=[_,_]) Z) Z<|j1 aq Z Z (bY (e:=67) (m:=2) (z:=[T,T]) (cs:=[_,_]) Y Y Y Y<|bD Z Z Z Z bJ) (fun _=>Z) (fun U bm aq=>?_));have hpl:=(aq.pull (X:=Mtf) (.there (.there (.cM (.there ep.nh))))).perm List.perm_middle;obtain⟨U,ut2f,Mt2f,r,hOt2f,aq⟩:=fJ (P:=Tryz.prog) (ts:= #[74,74]) (t:=74) (e:=67) ao hpl (mh (R:=iV) (x:=fr) (m:=2) Z Z (.inr ⟨Z,Z⟩)) iV.leaf (by simp) (by simp) (by have:=mS (cK<|sH<|bj j).2.2.2.2.2.1 (cK<|sH<|bj j).2.2.2.1 (cK<|sH<|bj j).2.2.1 _ (gB_ p);omega) Z Y Y Y;refine eM Z Z (dM Z Z Z Z Y r) Z ?_;replace aq:=aq.push (.there (.cM (.there ep.nh)));refine⟨(bB (bN Z Z Z Z Z (QB Z aq.g0 Z)<|qF _ _ _ _) aV),?_⟩;refine al Z Z (eo (e:=74) (m:=1) Z Y Z (cI<|ej (by have:=ht.bG;omega)) (show tm<g.from_.length from(gA.1 p).1)) Z ?_;have hltf:=(gA.1 A).1;refine gD aq (.there (.cM (.there (.cM .here)))) Z Z (gR Z Z hOt2f.leaf.1 aq.pop.aQ.pop.aQ.g0 (m:=1) Y Z B<|ah hOt2f.leaf.2 Z) Z (fun U aq=>?_);refine⟨aV,?_⟩;rw[fW hltf] at aq;have hO2f:=F _ _ _ hOt2f;refine OS 3 Z<|Pt 2 Z<|O Z (QC Z aq.pop.aQ.pop.aQ.pop.aQ.pop.aQ.pop.pop.pop.g0 (n:=5) (vs:=[_,_,_,_,_]) Z) Z<|bf Z (Qz Z Z Z) (fun _=>Z) (kj Q _ aq) (fun U aq=>?_);refine Pv 2 Z<|aE Z (fun v=>?_) (fun v=>?_)
  ·refine aS (l:=[(0,[]),(1,[]),(2,[]),(3,[]),(4,[]),(5,[]),(6,[]),(7,[]),(8,[]),(9,[]),(10,[]),(11,[]),(12,[]),(13,[]),(14,[1,3]),(15,[]),(16,[])]) Y Y<|P4 aq 3 [3,0,1] Z Z<|al Z Z (QB Z aq.pop.aQ.pop.aQ.pop.aQ.pop.aQ.pop.pop.pop.g0 Z) Z<|P4 aq 3 [3,0,1] Z Z<|al Z Z (QB Z aq.pop.aQ.pop.aQ.pop.aQ.pop.aQ.pop.pop.pop.g0 Z) Z ?_;obtain⟨pm,rfl⟩:=qj W;have bo:pm+1<=(cu g e.loc).length:=bC ab;obtain⟨ln,xo,M,aa,cc⟩:=xP (show 1<=(cu g e.loc).length from by omega);have bs:pm<=xo.length:=by omega
   have hxo56:=j0 (sH<|bj j) _ (gB_ aa);obtain⟨uto,Mto,Ao,Bo,aY,a6,a7,a1⟩:=hOo.at aa;subst a7;refine al Z Z (eo (e:=74) (m:=1) Z Y Z (cI M) (show ln<g.order.length from(gA.1 aa).1)) Z<|al Z Z (ay Z aq.pop.aQ.g0 Y (by rw[eF,show 0+ln*1=ln from by omega];exact aY)) Z<|P1 2 Z<|al Z Z (QC Z aq.pop.aQ.pop.aQ.pop.aQ.pop.aQ.g0 (n:=2) (vs:=[_,_]) Z) Z<|j1 aq Z Z (bY (e:=67) (m:=2) (z:=[T,T]) (cs:=[_,_]) Y Y Y Y<|bD Z Z Z Z bJ) (fun _=>Z) (fun U ce aq=>?_);have hpl:=((aq.pull (X:=Mto) (.there (.there ep.nh))).perm List.perm_middle).iu;refine jg Z Z (Qz Z Z Z) (fun _=>Z) (by rw[ej B];exact JR Q a8 a9 (x:=⟨.ofNat (tm+1),.ofNat o.length⟩) (i:=pm) (.inr ⟨Z,Z⟩) a6 bs B hpl) ?_;rintro ut2o U ⟨Mt2o,hOt2o,aq⟩;replace aq:=(aq.weaken<|KP.se _ _ _).push (.there ep.nh);refine⟨(bB (bN Z Z Z Z Z (QB Z aq.g0 Z)<|qF _ _ _ _)<|bB (bN Z Z Z Z Z (QB Z aq.pop.aQ.pop.aQ.pop.aQ.pop.aQ.pop.pop.pop.g0 Z)<|jk _ _) aV),?_⟩;refine al Z Z (eo (e:=74) (m:=1) Z Y Z (cI M) (show ln<g.order.length from(gA.1 aa).1)) Z ?_;have hlto:=(gA.1 aY).1;refine gD aq (.there (.cM .here)) Z Z (gR Z Z hOt2o.leaf.1 aq.pop.aQ.g0 (m:=1) Y Z B<|ah hOt2o.leaf.2 Z) Z (fun U aq=>?_);refine⟨aV,?_⟩;rw[fW hlto] at aq;have hO2o:=a1 _ _ _ hOt2o;refine OS 3 Z<|Pt 2 Z<|O Z (QC Z aq.g0 (n:=4) (vs:=[_,_,_,_]) Z) Z ?_;have hfew:=zQ (sH<|bj j);replace aq:=aq.app (.there (.cM (.there (.cM (.there (.cM (.there (.cM (.there (.there (.there (.there (.there .base)))))))))))));refine bf Z (Qz Z Z Z) (fun _=>Z) (vY Q aq (pZ (T1:=57) (T2:=74) (T3:=74) (g:=(⟨g.init,g.threads.set tm (o++[e]),g.from_.set tm (xf++[fr]),g.order.set ln (xo.take pm++⟨.ofNat (tm+1),.ofNat o.length⟩::xo.drop pm)⟩:XG)) C.init hO2t hO2f hO2o (fun y f=>.inr (by simp[f])) (fun y f=>.inr (by rcases List.mem_append.1 f with f | f;(simp[f]);rcases List.mem_append.1 f with f | f<;>simp[f])) (fun y f=>.inr (by rcases List.mem_append.1 f with f | f;(simp[f]);rcases List.mem_append.1 f with f | f<;>simp[f])) (fun y f=>.inr (by rcases List.mem_append.1 f with f | f;(simp[f]);rcases List.mem_append.1 f with f | f<;>simp[f])) (.inr (by simp)) (.inr (by simp)) (.inr (by simp)) (by simp) (by simp) (by simp) (by have h1:=hfew.2.1;have h2:=hfew.2.2.2.1;have h3:=hfew.2.2.2.2.2.1;simp;omega) (by have h1:=hfew.2.1;have h2:=hfew.2.2.2.1;have h3:=hfew.2.2.2.2.2.1;simp;omega) (by have h1:=hfew.2.1;have h2:=hfew.2.2.2.1;have h3:=hfew.2.2.2.2.2.1;simp;omega))) (fun U aq=>?_);replace aq:=aq.CN (.there (.cM (.there (.cM (.there (.cM (.there (.cM (.there (.there (.there (.there (.there .base)))))))))))));refine Pv 3 Z<|aE Z (fun s=>?_) (fun s=>?_)
   ·refine Pt 2 Z (O Z (Qy (places:=[(0,1),(1,1),(2,1),(3,1)]) (zero:=[.ax,.ax,.ax,.ax]) (cs:=[_,_,_,_]) Z) Z<|cC aq (.there (.cM (.there (.cM (.there (.cM (.there (.cM (.there .here))))))))) Z (QH Z Z Z aq.pop.aQ.pop.aQ.pop.aQ.pop.aQ.pop.g0 (m:=4) Z Z (cells':=[_,_,_,_]) Z) Z (fun U aq=>?_));refine OQ 5 Z ?_;exact br Z Z aq.pop.aQ.pop.aQ.pop.aQ.pop.aQ.pop.g0 (m:=4) Y Z Z (.inl ⟨_,by rw[kO (bj j) k p,show bU (.ofNat o.length) 14=true from bj u];show(bif cT g e (.ofNat (pm+1)) then _ else _)=_;rw[show cT g e (.ofNat (pm+1))=false from by unfold cT;rw[q];show(bif bU (.ofNat (pm+1)) 1 then true else _)=false;rw[W];exact ab];show(bif I (cd<|eE g tm e fr (.ofNat (pm+1)) o xf) 0 then _ else _)=_;rw[sP (pm:=pm) (fr:=fr) (row:=o) (frow:=xf) (tm:=tm) v M aa,bT s];rfl,Z,aq.pop.aQ.pop.aQ.pop.aQ.pop.aQ.pop.pop.pop.pop.pop⟩)
   refine OK 4 Z<|O Z (QC Z aq.g0 (n:=4) (vs:=[_,_,_,_]) Z) Z<|cC aq (.there (.cM (.there (.cM (.there (.cM (.there (.cM (.there .here))))))))) Z (QH Z Z Z aq.pop.aQ.pop.aQ.pop.aQ.pop.aQ.pop.g0 (m:=4) Z (ah C.init.leaf.2 Z) (cells':=[_,_,_,_]) Z) Z (fun U aq=>?_);refine Px 4 Z ?_;exact br Z Z aq.pop.aQ.pop.aQ.pop.aQ.pop.aQ.pop.g0 (m:=4) Y Z Z (HJ (by rw[kO (bj j) k p,show bU (.ofNat o.length) 14=true from bj u];show(bif cT g e (.ofNat (pm+1)) then _ else _)=_;rw[show cT g e (.ofNat (pm+1))=false from by unfold cT;rw[q];show(bif bU (.ofNat (pm+1)) 1 then true else _)=false;rw[W];exact ab];show(bif I (cd<|eE g tm e fr (.ofNat (pm+1)) o xf) 0 then _ else _)=_;rw[sP (pm:=pm) (fr:=fr) (row:=o) (frow:=xf) (tm:=tm) v M aa,bj s];rfl) (aq.app (.there (.cM (.there (.cM (.there (.cM (.there (.cM (.there (.there (.there (.there (.there .base)))))))))))))) (pZ (T1:=57) (T2:=74) (T3:=74) (g:=(⟨g.init,g.threads.set tm (o++[e]),g.from_.set tm (xf++[fr]),g.order.set ln (xo.take pm++⟨.ofNat (tm+1),.ofNat o.length⟩::xo.drop pm)⟩:XG)) C.init hO2t hO2f hO2o (fun y f=>.inr (by simp[f])) (fun y f=>.inr (by rcases List.mem_append.1 f with f | f;(simp[f]);rcases List.mem_append.1 f with f | f<;>simp[f])) (fun y f=>.inr (by rcases List.mem_append.1 f with f | f;(simp[f]);rcases List.mem_append.1 f with f | f<;>simp[f])) (fun y f=>.inr (by rcases List.mem_append.1 f with f | f;(simp[f]);rcases List.mem_append.1 f with f | f<;>simp[f])) (.inr (by simp)) (.inr (by simp)) (.inr (by simp)) (by simp) (by simp) (by simp) (by have h1:=hfew.2.1;have h2:=hfew.2.2.2.1;have h3:=hfew.2.2.2.2.2.1;simp;omega) (by have h1:=hfew.2.1;have h2:=hfew.2.2.2.1;have h3:=hfew.2.2.2.2.2.1;simp;omega) (by have h1:=hfew.2.1;have h2:=hfew.2.2.2.1;have h3:=hfew.2.2.2.2.2.1;simp;omega)))
  exact absurd q (by rw[v];decide)
 refine PZ 13 Z<|O Z (QC Z (aq.get 3 Z) (n:=5) (vs:=[_,_,_,_,_]) Z) Z<|bf Z (Qz Z Z Z) (fun _=>Z) (kj Q _ aq) (fun U aq=>?_);refine O Z (cV Z) Z<|ky Z (an Z) (fun ac=>?_) (fun ac=>?_)
 ·refine Pv 6 Z<|aE Z (fun aI=>?_) (fun aI=>?_)
  ·refine Pt 2 Z (O Z (Qy (places:=[(0,1),(1,1),(2,1),(3,1)]) (zero:=[.ax,.ax,.ax,.ax]) (cs:=[_,_,_,_]) Z) Z<|eh aq Z (QH Z Z Z aq.g1 (m:=4) Z Z (cells':=[_,_,_,_]) Z) Z (fun U aq=>?_));refine OQ 5 Z ?_;exact br Z Z aq.g1 (m:=4) Y Z Z (.inl ⟨_,by rw[kO (bj j) k p,show bU (.ofNat o.length) 14=true from bj u];show(bif cT g e pl then _ else _)=_;rw[show cT g e pl=true from by unfold cT;rw[q];show(!I pl 0)=true;rw[bT aI];rfl];rfl,Z,aq.pop.pop.pop.pop.pop⟩)
  refine OK 4 Z<|O Z (QC Z (aq.get 4 Z) (n:=4) (vs:=[_,_,_,_]) Z) Z<|cH Z (Qz Z Z Z) (fun _=>Z) (xO Q h (zQ<|sH<|bj j) aq) ?_;rintro _ U ⟨u1,M1,b6,bb,M2,b7,be,M3,b8,bi,M4,rfl,C,aq⟩;have hOt:=C.threads;have hOf:=C.from_;have hOo:=C.order;refine kp aq Z (QE (cs:=[.ax,.ax,.ax,.ax])) (fun U b9 aq=>?_);refine bO aq Z (QH Z Z Z aq.g0 (m:=4) Z (ah C.init.leaf.2 Z) (cells':=[_,_,_,_]) Z) Z (fun U aq=>?_);refine ON 3 Z (aS (l:=[(0,[]),(1,[]),(2,[]),(3,[]),(4,[]),(5,[]),(6,[]),(7,[]),(8,[]),(9,[]),(10,[]),(11,[]),(12,[1]),(13,[]),(14,[])]) Y Y<|P4 aq 8 [1,0,1,0] Z Z ?_);obtain⟨utt,Mtt,At,Bt,w,ag,am,E⟩:=hOt.at k;subst am;refine al Z Z (eo (e:=57) (m:=1) Z Y Z (cI<|ej (by have:=ht.bG;omega)) (show tm<g.threads.length from(gA.1 k).1)) Z (al Z Z (ay Z aq.pop.aQ.pop.aQ.pop.aQ.g0 Y (by rw[eF,show 0+tm*1=tm from by omega];exact w)) Z<|al Z Z (QC Z aq.pop.aQ.pop.aQ.pop.aQ.pop.aQ.pop.pop.pop.g0 (n:=5) (vs:=[_,_,_,_,_]) Z) Z<|j1 aq Z Z (bY (e:=56) (m:=5) (z:=[T,T,T,T,T]) (cs:=[_,_,_,_,_]) Y Y Y Y<|bD Z Z Z Z bJ) (fun _=>Z) (fun U bl aq=>?_));have hpl:=(aq.pull (X:=Mtt) (.there (.there (.cM (.there (.cM (.there ep.nh))))))).perm List.perm_middle;obtain⟨U,ut2t,Mt2t,r,hOt2t,aq⟩:=fJ (P:=Tryz.prog) (ts:= #[57,57]) (t:=57) (e:=56) ag hpl (mh (R:=iU) (x:=e) (m:=5) Z Z (.inr ⟨Z,Z⟩)) iU.leaf (by simp) (by simp) (by have:=(cK<|sH<|bj j).2.2.1 _ (gB_ k);omega) Z Y Y Y;refine eM Z Z (dM Z Z Z Z Y r) Z ?_;replace aq:=aq.push (.there (.cM (.there (.cM (.there ep.nh)))));refine⟨(bB (bN Z Z Z Z Z (QB Z aq.g0 Z)<|qF _ _ _ _) aV),?_⟩;refine al Z Z (eo (e:=57) (m:=1) Z Y Z (cI<|ej (by have:=ht.bG;omega)) (show tm<g.threads.length from(gA.1 k).1)) Z ?_;have hltt:=(gA.1 w).1;refine gD aq (.there (.cM (.there (.cM (.there (.cM .here)))))) Z Z (gR Z Z hOt2t.leaf.1 aq.pop.aQ.pop.aQ.pop.aQ.g0 (m:=1) Y Z B<|ah hOt2t.leaf.2 Z) Z (fun U aq=>?_);refine⟨aV,?_⟩;rw[fW hltt] at aq;have hO2t:=E _ _ _ hOt2t;refine OS 3 Z (aS (l:=[(0,[]),(1,[]),(2,[]),(3,[]),(4,[]),(5,[]),(6,[]),(7,[]),(8,[]),(9,[]),(10,[]),(11,[]),(12,[1]),(13,[]),(14,[])]) Y Y<|P4 aq 8 [2,0,2,0] Z Z ?_);obtain⟨utf,Mtf,Af,Bf,A,ao,ap,F⟩:=hOf.at p;subst ap
  refine al Z Z (eo (e:=74) (m:=1) Z Y Z (cI<|ej (by have:=ht.bG;omega)) (show tm<g.from_.length from(gA.1 p).1)) Z (al Z Z (ay Z aq.pop.aQ.pop.aQ.g0 Y (by rw[eF,show 0+tm*1=tm from by omega];exact A)) Z<|al Z Z (QC Z aq.pop.aQ.pop.aQ.pop.aQ.pop.aQ.pop.pop.g0 (n:=2) (vs:=[_,_]) Z) Z<|j1 aq Z Z (bY (e:=67) (m:=2) (z:=[T,T]) (cs:=[_,_]) Y Y Y Y<|bD Z Z Z Z bJ) (fun _=>Z) (fun U bm aq=>?_));have hpl:=(aq.pull (X:=Mtf) (.there (.there (.cM (.there ep.nh))))).perm List.perm_middle;obtain⟨U,ut2f,Mt2f,r,hOt2f,aq⟩:=fJ (P:=Tryz.prog) (ts:= #[74,74]) (t:=74) (e:=67) ao hpl (mh (R:=iV) (x:=fr) (m:=2) Z Z (.inr ⟨Z,Z⟩)) iV.leaf (by simp) (by simp) (by have:=mS (cK<|sH<|bj j).2.2.2.2.2.1 (cK<|sH<|bj j).2.2.2.1 (cK<|sH<|bj j).2.2.1 _ (gB_ p);omega) Z Y Y Y;refine eM Z Z (dM Z Z Z Z Y r) Z ?_;replace aq:=aq.push (.there (.cM (.there ep.nh)));refine⟨(bB (bN Z Z Z Z Z (QB Z aq.g0 Z)<|qF _ _ _ _) aV),?_⟩;refine al Z Z (eo (e:=74) (m:=1) Z Y Z (cI<|ej (by have:=ht.bG;omega)) (show tm<g.from_.length from(gA.1 p).1)) Z ?_;have hltf:=(gA.1 A).1;refine gD aq (.there (.cM (.there (.cM .here)))) Z Z (gR Z Z hOt2f.leaf.1 aq.pop.aQ.pop.aQ.g0 (m:=1) Y Z B<|ah hOt2f.leaf.2 Z) Z (fun U aq=>?_);refine⟨aV,?_⟩;rw[fW hltf] at aq;have hO2f:=F _ _ _ hOt2f;refine OS 3 Z<|Pt 2 Z<|O Z (QC Z aq.pop.aQ.pop.aQ.pop.aQ.pop.aQ.pop.pop.pop.g0 (n:=5) (vs:=[_,_,_,_,_]) Z) Z<|bf Z (Qz Z Z Z) (fun _=>Z) (kj Q _ aq) (fun U aq=>?_);refine Pv 2 Z<|aE Z (fun v=>?_) (fun v=>?_)
  ·exact absurd q (by rw[v];decide)
  refine Ol 5 Z<|O Z (QC Z aq.g0 (n:=4) (vs:=[_,_,_,_]) Z) Z ?_;have hfew:=zQ (sH<|bj j);replace aq:=aq.app (.there (.cM (.there (.cM (.there (.cM (.there (.cM (.there (.there (.there (.there (.there .base)))))))))))));refine bf Z (Qz Z Z Z) (fun _=>Z) (vY Q aq (pZ (T1:=57) (T2:=74) (T3:=74) (g:=(⟨g.init,g.threads.set tm (o++[e]),g.from_.set tm (xf++[fr]),g.order⟩:XG)) C.init hO2t hO2f hOo (fun y f=>.inr (by simp[f])) (fun y f=>.inr (by rcases List.mem_append.1 f with f | f;(simp[f]);rcases List.mem_append.1 f with f | f<;>simp[f])) (fun y f=>.inr (by rcases List.mem_append.1 f with f | f;(simp[f]);rcases List.mem_append.1 f with f | f<;>simp[f])) (fun y f=>.inr (by simp[f])) (.inr (by simp)) (.inr (by simp)) (.inr (by simp)) (by simp) (by simp) (by simp) (by have h1:=hfew.2.1;have h2:=hfew.2.2.2.1;have h3:=hfew.2.2.2.2.2.1;simp;omega) (by have h1:=hfew.2.1;have h2:=hfew.2.2.2.1;have h3:=hfew.2.2.2.2.2.1;simp;omega) (by have h1:=hfew.2.1;have h2:=hfew.2.2.2.1;have h3:=hfew.2.2.2.2.2.1;simp;omega))) (fun U aq=>?_);replace aq:=aq.CN (.there (.cM (.there (.cM (.there (.cM (.there (.cM (.there (.there (.there (.there (.there .base)))))))))))));refine Pv 3 Z<|aE Z (fun s=>?_) (fun s=>?_)
  ·refine Pt 2 Z (O Z (Qy (places:=[(0,1),(1,1),(2,1),(3,1)]) (zero:=[.ax,.ax,.ax,.ax]) (cs:=[_,_,_,_]) Z) Z<|cC aq (.there (.cM (.there (.cM (.there (.cM (.there (.cM (.there .here))))))))) Z (QH Z Z Z aq.pop.aQ.pop.aQ.pop.aQ.pop.aQ.pop.g0 (m:=4) Z Z (cells':=[_,_,_,_]) Z) Z (fun U aq=>?_));refine OQ 5 Z ?_;exact br Z Z aq.pop.aQ.pop.aQ.pop.aQ.pop.aQ.pop.g0 (m:=4) Y Z Z (.inl ⟨_,by rw[kO (bj j) k p,show bU (.ofNat o.length) 14=true from bj u];show(bif cT g e pl then _ else _)=_;rw[show cT g e pl=false from by unfold cT;rw[q];show(!I pl 0)=false;rw[bj aI];rfl];show(bif I (cd<|eE g tm e fr pl o xf) 0 then _ else _)=_;rw[vt (pl:=pl) (fr:=fr) (row:=o) (frow:=xf) (tm:=tm) v,bT s];rfl,Z,aq.pop.aQ.pop.aQ.pop.aQ.pop.aQ.pop.pop.pop.pop.pop⟩)
  refine OK 4 Z<|O Z (QC Z aq.g0 (n:=4) (vs:=[_,_,_,_]) Z) Z<|cC aq (.there (.cM (.there (.cM (.there (.cM (.there (.cM (.there .here))))))))) Z (QH Z Z Z aq.pop.aQ.pop.aQ.pop.aQ.pop.aQ.pop.g0 (m:=4) Z (ah C.init.leaf.2 Z) (cells':=[_,_,_,_]) Z) Z (fun U aq=>?_);refine Px 4 Z ?_;exact br Z Z aq.pop.aQ.pop.aQ.pop.aQ.pop.aQ.pop.g0 (m:=4) Y Z Z (HJ (by rw[kO (bj j) k p,show bU (.ofNat o.length) 14=true from bj u];show(bif cT g e pl then _ else _)=_;rw[show cT g e pl=false from by unfold cT;rw[q];show(!I pl 0)=false;rw[bj aI];rfl];show(bif I (cd<|eE g tm e fr pl o xf) 0 then _ else _)=_;rw[vt (pl:=pl) (fr:=fr) (row:=o) (frow:=xf) (tm:=tm) v,bj s];rfl) (aq.app (.there (.cM (.there (.cM (.there (.cM (.there (.cM (.there (.there (.there (.there (.there .base)))))))))))))) (pZ (T1:=57) (T2:=74) (T3:=74) (g:=(⟨g.init,g.threads.set tm (o++[e]),g.from_.set tm (xf++[fr]),g.order⟩:XG)) C.init hO2t hO2f hOo (fun y f=>.inr (by simp[f])) (fun y f=>.inr (by rcases List.mem_append.1 f with f | f;(simp[f]);rcases List.mem_append.1 f with f | f<;>simp[f])) (fun y f=>.inr (by rcases List.mem_append.1 f with f | f;(simp[f]);rcases List.mem_append.1 f with f | f<;>simp[f])) (fun y f=>.inr (by simp[f])) (.inr (by simp)) (.inr (by simp)) (.inr (by simp)) (by simp) (by simp) (by simp) (by have h1:=hfew.2.1;have h2:=hfew.2.2.2.1;have h3:=hfew.2.2.2.2.2.1;simp;omega) (by have h1:=hfew.2.1;have h2:=hfew.2.2.2.1;have h3:=hfew.2.2.2.2.2.1;simp;omega) (by have h1:=hfew.2.1;have h2:=hfew.2.2.2.1;have h3:=hfew.2.2.2.2.2.1;simp;omega)))
 exact absurd q (by rw[eV ac];decide)
theorem nQ {g:XG} {th pl:Int} {e:db} {fr:dw} {er:Int} (h:gf g th e fr pl=(none,er)):I er 0=false:=by
 have key:er=2∨er=9∨er=3:=by
  unfold gf at h;cases a:I (cd g) 0 with
  | false=>rw[a] at h;cases h;exact .inl Z
  | true=>
   rw[a] at h;cases b:bU th 1 with
   | true=>rw[b] at h;cases h;exact .inr (.inl Z)
   | false=>
    rw[b] at h;cases c:bU (.ofNat g.threads.length) th with
    | true=>rw[c] at h;cases h;exact .inr (.inl Z)
    | false=>
     rw[c] at h;simp only[Bool.not_true,cf] at h;split at h
     ·rename_i row frow _ _;cases d:bU (.ofNat row.length) 14 with
      | false=>rw[d] at h;cases h;exact .inr (.inr Z)
      | true=>
       rw[d] at h;simp only[Bool.not_true,cf] at h;generalize (bif bq e then(bif bU pl 1 then true else bU (.ofNat (cu g e.loc).length) pl) else !I pl 0)=q at h;cases q with
       | true=>cases h;exact .inl Z
       | false=>
        simp only[cf] at h;generalize I (cd _) 0=q2 at h;cases q2 with
        | true=>cases h
        | false=>cases h;exact .inl Z
     cases h;exact .inr (.inl Z)
 rcases key with rfl | rfl | rfl<;>rfl
theorem LI {G:Cx} (C:Plain G) {K:KP} {k:Nat} {c:XC} (i:eX k c) {od:List Nat} (E:fT c=some od) (g:fg (dj c) c.ins.length od) {cv:V} (M:bR K 6 (iI K k) c.ins cv) {U:D} {L:Own} (aq:J U K L):
  bk Tryz.prog G 113 [.agg [.int .i64 c.aY,cv]] U fun v U'=>∃tb rb ev Me,v= .ptr tb 0/\cQ 5 56 iU (jT k c).events ev Me/\J U' K ((tb,.row (HE c cv (jT k c) rb ev) 131 false)::(rb,.row ((jT k c).aY.map gZ) 2 false)::(Me++L)):=by
 have m:c.aY= .ofNat c.aY.toNat:=by have:=i.za;show c.aY=((c.aY.toNat:Nat):Int);omega
 have aa:c.aY.toNat<=16:=by have:=i.xr;omega
 have hol:=qU i E;have y:jo c=od.length:=by unfold jo;rw[E];rfl
 have hlen:=i.len;have hB0:jT k c=vj k c od.length (hU c):=by unfold jT;rw[y];rfl
 refine PS C Tryz.func113 Z<|Pt 2 Z<|kp aq Z (cz Z Z) (fun U F aq=>?_);refine ON 4 Z<|aS (l:=zp [0,1,2,3,4,5,6]) Y Y<|al Z Z (QC Z aq.g0 (n:=2) (vs:=[_,_]) Z) Z<|P4 aq 2 [0,0] Z Z<|j1 aq Z Z (k9 (e:=2) (w:=8) (z:=[gZ 0]) Y Y Y Y (show _=some (V.int .i64 (.ofNat c.aY.toNat)) from cI m) (show _=some (V.int .i64 (.ofNat c.aY.toNat)) from cI m) B B) (fun _=>Z) (fun U h aq=>?_);rw[iT (f:=gZ)] at aq;refine al Z Z (Qy (places:=[(0,2),(2,1),(3,1),(4,1),(5,1),(6,1),(7,1)]) (zero:=[T,.ax,T,.ax,.ax,T,T,.bool false]) (cs:=[_,_,_,_,_,_,_,_]) Z) Z<|pB aq Z Z (cz Z Z) (fun _=>Z) (fun U u aq=>?_);refine wQ 1 Z ?_;replace aq:J U K ((u,.row (HE c cv (hU c) h .ax) 131 false)::(h,.row ((hU c).aY.map gZ) 2 false)::([]++(F,.row [.int .i64 c.aY,cv] 33 false)::L)):=by show J U K ((u,.row [_,_,_,.slice h 0 (List.replicate c.aY.toNat (0:Int)).length (.known (List.replicate c.aY.toNat (0:Int)).length),_,_,_,_] 131 false)::_);rw[List.length_replicate];exact aq
 refine OS 3 Z (aN (bp [10,11] (fun j t U=>∃(s:TS) (ev:V) (Me:Own),vm c od s/\s.events.length+j<=od.length/\(∃q,od[q]?=some s.at_/\q<j)/\vj k c od.length (hU c)=vj k c j s/\cQ 5 56 iU s.events ev Me/\J U K ((u,.row (HE c cv s h ev) 131 false)::(h,.row (s.aY.map gZ) 2 false)::(Me++(F,.row [.int .i64 c.aY,cv] 33 false)::L))) (od.length) ⟨hU c,.ax,[],xE g,by show 0+_<=_;omega,(gO_ g.zero).imp fun q x=>⟨x,(gA.1 x).1⟩,Z,.inl ⟨Z,Z,Z⟩,aq⟩ ?_));clear aq;intro P t U ar Q;obtain⟨s,ev,Me,a,hB,o,he,R,aq⟩:=Q;obtain⟨oo,rfl⟩:=ar.q0 Z;refine OI 4 Z ?_;obtain⟨q,x,ab⟩:=o;refine cH Z (Qz Z Z Z) (fun _=>Z) (JV C i M ⟨a.lt g,a.aY,by omega⟩ B R aq) ?_;rintro _ U ⟨p,Me2,rfl,hO2,aq⟩;refine Pv 2 Z<|aE Z (fun b=>?_) (fun b=>?_)
 ·refine aG<|PW 3 Z ?_;obtain⟨xs,A⟩:=cm (a.lt g);obtain⟨q2,o,r⟩:=oe g A x b;have hel:=(q7 (k:=k) (c:=c) (s:=s)).2;refine aO ⟨P-1,by omega,oP Z<|oP Z<|oP Z<|oP Z<|oR _ _,_,p,Me2,a.step g,by omega,⟨q2,r,by omega⟩,he.trans<|sO B b,hO2,aq⟩
 have d:jT k c=(cj k c s).1:=by rw[hB0,he];exact wE B b
 refine OL 3 Z<|aT<|PX 7 Z ?_;exact aA Z Z ⟨u,h,p,Me2,Z,by rw[d];exact hO2,by rw[d];exact aq.sub (.cons_cons _ (.cons_cons _<|dH (.cons _ (.refl _))))⟩
theorem JT {G:Cx} (hG:Plain G) {K:KP} {k:Nat} {c:XC} (u:eX k c) {od:List Nat} (ho:fT c=some od) (y:fg (dj c) c.ins.length od) {cv:V} (hi:bR K 6 (iI K k) c.ins cv) {a:TS} (d:vm c od a) (o:lJ c a) (hs:a.asks=true) (a4:a.events.length<=880000) (a5:a.asked<=1000000) (vv:Int) {C g:Nat} {F:V} {Me0:Own} (hO:cQ 5 56 iU a.events F Me0) {U:D} {L:Own}
  (aq:J U K ((C,.row (HE c cv a g F) 131 false)::(g,.row (a.aY.map gZ) 2 false)::(Me0++L))):
  bk Tryz.prog G 114 [.ptr C 0,.int .i64 vv] U fun v U'=>∃ev' Me',cQ 5 56 iU (dY k c a vv).events ev' Me'/\J U' K ((C,.row (HE c cv (dY k c a vv) g ev') 131 false)::(g,.row ((dY k c a vv).aY.map gZ) 2 false)::(Me'++L)):=by
 have hol:=qU u ho;have ag:jo c=od.length:=by unfold jo;rw[ho];rfl
 have hlen:=u.len;have hat:=d.lt y;obtain⟨x,Q,am⟩:=o hs;have hrx:=u.right x (gB_ Q);have ao:c.aY<=a.aY.length:=by have:=d.aY;have:=u.za;omega
 have R:a.aY.length<=1000:=by have:=d.aY;have:=u.xr;omega
 have w:∃kn:Nat,x.kind= .ofNat kn/\(kn=2∨kn=4∨kn=5∨kn=6):=by
  rcases am with e | e | e | e
  ·exact⟨2,e,by omega⟩
  ·exact⟨4,e,by omega⟩
  ·exact⟨5,e,by omega⟩
  exact⟨6,e,by omega⟩
 obtain⟨kn,w,a6⟩:=w;obtain⟨rg,W,a0⟩:=Ah hrx w B;obtain⟨A,hA⟩:∃A,A=xZ k x a.aY:=⟨_,Z⟩;obtain⟨E,hE⟩:∃E,E=bL A vv:=⟨_,Z⟩;have ap:lh k c a=A:=by unfold lh;rw[Q,hA]
 have hS1:eA k c a vv= {a with events:=a.events++[E],aY:=a.aY.set rg vv,asked:=a.asked+1,at_:=a.at_+1,asks:=false}:=by
  unfold eA FH;rw[Q];dsimp only;rw[ap,<-hE,show x.pc.toNat=rg from by rw[W];rfl]
 have hB0:dY k c a vv=vj k c od.length (eA k c a vv):=by unfold dY;rw[ag]
 have hin1:=pJ u y d o hs vv;refine PS hG Tryz.func114 Z<|Pt 3 Z ?_;have hq:=aq.keeps (M:=[_,_]);refine bf Z (Qz Z Z Z) (fun _=>Z) (kE (M:=[_,_]) aq<|Mb hG (oJ (KP.bX _ _) hi) ao Q hrx (fK (xs:=a.aY) (KP.gF 1 Z) R) (KP.gF 0 Z) hq) (fun U aq=>?_);clear hq;rw[<-hA];refine vQ 1 Z<|bf Z (Qz Z Z Z) (fun _=>Z) (CO hG A vv aq) (fun U aq=>?_);rw[<-hE];refine PZ 3 Z<|kp aq Z (QE (cs:=[T,T,T,T,T])) (fun U b3 aq=>?_);refine bO aq Z (QH Z Z Z aq.g0 (m:=5) Z Z (cells':=[_,_,_,_,_]) Z) Z (fun U aq=>?_);refine ON 4 Z<|aS (l:=zp [0,1,2,3,4,5,6,7,8,9,10]) Y Y<|P1 2 Z<|al Z Z (eW Z) Z<|P4 aq 2 [4,1] Z Z<|al Z Z (QC Z aq.g0 (n:=5) (vs:=[_,_,_,_,_]) Z) Z<|j1 aq Z Z (bY (e:=56) (m:=5) (z:=[T,T,T,T,T]) (cs:=[_,_,_,_,_]) Y Y Y Y<|bD Z Z Z Z bJ) (fun _=>Z) (fun U b4 aq=>?_);replace aq:=aq.DL (A:=[_,_,_]);obtain⟨U,b,Me2,X,hO2,aq⟩:=fJ (P:=Tryz.prog) (ts:= #[57,57]) (t:=57) (e:=56) hO aq (yS (x:=E) (.inr ⟨Z,Z⟩)) iU.leaf (by simp) (by simp) B Z Y Y Y;replace aq:=aq.front (A:=Me2) (M:=[_,_,_]);refine eM Z Z (dM Z Z Z Z Y X) Z ?_;refine⟨aV,?_⟩;refine al Z Z (eW Z) Z<|al Z Z (QA 4 Z) Z<|z9 aq Z Z (aL Z Z hO2.leaf.1 aq.g1 (m:=1) Y Z (lb Z) (ah hO2.leaf.2 aC) (cells':=[_,_,_,_,_,_,_,_]) Z) Z (fun U aq=>?_);refine⟨aV,?_⟩;refine OS 3 Z<|aS (l:=zp [0,1,2,3,4,5,6,7,8,9,10,11,12,13,14,15,16,17,18]) Y Y ?_;replace aq:=aq.pop;refine wQ 1 Z<|al Z Z (eW Z) Z<|P4 aq 3 [3,0] Z Z<|al Z Z (eW Z) Z<|P4 aq 4 [0,1,0] Z Z<|al Z Z (eW Z) Z<|P4 aq 2 [2,0] Z Z<|Qv (e:=79) (m:=6) hi Q Z Z Z Z Z (fun a7 a1 aa a2 p=>?_);have hr36raw:=p;have hr36':=p;obtain⟨a8,rfl,a3⟩:=hr36';refine ka aa Z Z Z Z (k:=1) Y (lb Z) (fun _=>Z) (fun a9 ab=>?_);refine al Z Z (QF aq ab Z Z) Z (wQ 1 Z (al Z Z (eo (e:=2) (m:=1) Y Y Z (show _=some (V.int .i64 (.ofNat rg)) from cI W) B) Z (gD aq (.there .here) Z Z (aL Z Z Z aq.g1 (m:=1) Y Z (by rw[lM_];omega) Z (cells':=((a.aY).set rg vv).map (gZ))<|fb (f:=gZ) (v:=vv) B (by first | omega | rfl)) Z (fun U aq=>?_))));refine⟨aV,?_⟩;refine OS 3 Z<|ai Z<|vQ 1 Z<|O Z (eW Z) Z<|P3 aq 2 [5,0] Z Z<|O Z (az Z Z (show _=some (V.int .i64 (.ofNat (a.asked+1))) from cI (bg B))) Z<|O Z (eW Z) Z<|O Z (QA 5 Z) Z<|bO aq Z (QH Z Z Z aq.g0 (m:=1) Z Z (cells':=[_,_,_,_,_,_,_,_]) Z) Z (fun U aq=>?_)
 refine OO 5 Z<|O Z (eW Z) Z<|P3 aq 2 [2,0] Z Z<|O Z (az Z Z (show _=some (V.int .i64 (.ofNat (a.at_+1))) from cI (bg B))) Z<|O Z (eW Z) Z<|O Z (QA 2 Z) Z<|bO aq Z (QH Z Z Z aq.g0 (m:=1) Z Z (cells':=[_,_,_,_,_,_,_,_]) Z) Z (fun U aq=>?_);refine OO 5 Z<|O Z (eW Z) Z<|O Z (QA 7 Z) Z<|bO aq Z (QH Z Z Z aq.g0 (m:=1) Z Z (cells':=[_,_,_,_,_,_,_,_]) Z) Z (fun U aq=>?_);replace aq:J U K ((C,.row (HE c cv (eA k c a vv) g b) 131 false)::(g,.row ((eA k c a vv).aY.map gZ) 2 false)::(Me2++L)):=by rw[hS1];show J U K ((C,.row [_,_,_,.slice g 0 (a.aY.set rg vv).length (.known (a.aY.set rg vv).length),_,_,_,_] 131 false)::_);rw[List.length_set];exact aq
 refine OM 3 Z (bp [58,59] (fun j t U=>∃(s:TS) (ev:V) (Me:Own),vm c od s/\s.events.length+j<=a.events.length+1+od.length/\(∃q,od[q]?=some s.at_/\q<j)/\vj k c od.length (eA k c a vv)=vj k c j s/\cQ 5 56 iU s.events ev Me/\J U K ((C,.row (HE c cv s g ev) 131 false)::(g,.row (s.aY.map gZ) 2 false)::(Me++L))) (od.length) ⟨eA k c a vv,b,Me2,hin1,by rw[hS1];show(a.events++[E]).length+_<=_;rw[lA_];show a.events.length+1+_<=_;omega,(gO_ hin1.at_).imp fun q hq=>⟨hq,(gA.1 hq).1⟩,Z,by rw[hS1];exact hO2,aq⟩ ?_);clear aq;intro j6 t U ar hI;obtain⟨s,ev,Me,h,hB,ax,he,hO,aq⟩:=hI;obtain⟨oo,rfl⟩:=ar.q0 Z;refine OI 4 Z ?_;obtain⟨q,hq,bb⟩:=ax;refine cH Z (Qz Z Z Z) (fun _=>Z) (JV hG u hi ⟨h.lt y,h.aY,by omega⟩ B hO aq) ?_;rintro _ U ⟨b,Me2,rfl,hO2,aq⟩;refine Pv 2 Z<|aE Z (fun i=>?_) (fun i=>?_)
 ·refine aG<|PW 3 Z ?_;obtain⟨xs,aI⟩:=cm (h.lt y);obtain⟨q2,be,ac⟩:=oe y aI hq i;have hel:=(q7 (k:=k) (c:=c) (s:=s)).2;refine aO ⟨j6-1,by omega,oP Z<|oP Z<|oP Z<|oP Z<|oR _ _,_,b,Me2,h.step y,by omega,⟨q2,ac,by omega⟩,he.trans<|sO B i,hO2,aq⟩
 have r:dY k c a vv=(cj k c s).1:=by rw[hB0,he];exact wE B i
 refine OL 3 Z<|aT ?_;exact BC Z ⟨b,Me2,by rw[r];exact hO2,by rw[r];exact aq⟩
theorem OB {G:Cx} (y:Plain G) {K:KP} {k:Nat} {c:XC} (h:eX k c) {od:List Nat} (l:fT c=some od) (w:fg (dj c) c.ins.length od) {cv:V} (P:bR K 6 (iI K k) c.ins cv) {A:List Int} {va:V} (z:bR K 1 dy A va) (ag:A.length<=50) {U:D} {L:Own} (aq:J U K L):
  bk Tryz.prog G 78 [.agg [.int .i64 c.aY,cv],va] U fun v U'=>∃tb rb ev Me,v= .ptr tb 0/\cQ 5 56 iU (gx k c A).events ev Me/\J U' K ((tb,.row (HE c cv (gx k c A) rb ev) 131 false)::(rb,.row ((gx k c A).aY.map gZ) 2 false)::(Me++L))/\vm c od (gx k c A):=by
 have hol:=qU h l;have hb:=F9 (k:=k) l w;refine PS y Tryz.func78 Z<|Pt 2 Z<|kp aq Z (cz Z Z) (fun U Q aq=>?_);refine OO 5 Z<|O Z (QC Z aq.g0 (n:=2) (vs:=[_,_]) Z) Z<|cH Z (Qz Z Z Z) (fun _=>Z) (LI y h l w P aq) ?_;rintro _ U ⟨C,x,E,Me0,rfl,hO0,aq⟩;refine On 7 Z (O Z (QD z Z Z Z (e:=2) Z) Z (OM 4 Z (bp ([7]++rg 12 13) (fun j t U=>∃(i:Nat) (s:TS) (ev:V) (Me:Own),j+i=A.length/\vm c od s/\lJ c s/\s.events.length<=(i+1)*16002/\s.asked<=i/\jR k c A (jT k c)=jR k c (A.drop i) s/\cQ 5 56 iU s.events ev Me/\t.get 12=some (.int .i64 (.ofNat i))/\J U K ((C,.row (HE c cv s x ev) 131 false)::(x,.row (s.aY.map gZ) 2 false)::(Me++(Q,.row [.int .i64 c.aY,cv] 33 false)::L))) (A.length) ⟨0,jT k c,E,Me0,Z,hb.1,vO h,by omega,by have:=(n7 k c (jo c)<|hU c).2;exact Nat.le_of_eq this,Z,hO0,Z,aq⟩ ?_)));clear aq;intro R t U ar W;obtain⟨i,s,ev,Me,am,d,o,ao,ap,he,F,p,aq⟩:=W;obtain⟨oo,rfl⟩:=ar.q1 p Z;refine Ps 6 Z<|aE Z (fun f=>?_) (fun f=>?_)
 ·refine NP 6 Z ?_;obtain⟨q,b,aa⟩:=cL f;refine Qu (e:=2) (m:=1) z b Z Z Z Z (fun ax ab r ac u=>?_);obtain rfl:=u;refine O Z (QF aq r Z Z) Z<|On 7 Z<|O Z (eW Z) Z<|P3 aq 2 [7,0] Z Z<|ky Z (cV Z) (fun g=>?_) (fun g=>?_)
  ·refine OR 5 Z<|sD Z<|aZ<|bc<|aT<|PX 7 Z ?_;have a:gx k c A=s:=by unfold gx;rw[he];exact Lq b<|kA g
   exact aA Z Z ⟨C,x,ev,Me,Z,by rw[a];exact F,by rw[a];exact aq.sub (.cons_cons _ (.cons_cons _<|dH (.cons _ (.refl _)))),by rw[a];exact d⟩
  have h20x:=g;refine Pv 3 Z (aG (ad (ai Z (PZ 2 Z (cH Z (Qz Z Z Z) (fun _=>Z) (JT y h l w P d o (eV h20x) (by have:=bu f;have:(i+1)*16002<=50*16002:=nM_ _ B;omega) B q F aq) ?_)))));rintro _ U ⟨M,Me2,hO2,aq⟩;refine af<|aJ<|PW 4 Z ?_;obtain⟨X,k2,k3⟩:=Dc h l w d o (eV h20x) q;refine aO ⟨R-1,by omega,oF,i+1,_,M,Me2,by omega,X,uv h _ _,by rw[Nat.add_mul];omega,by rw[k3];omega,he.trans<|Jx b<|eV h20x,hO2,cI<|bg (by have:=z.bG;omega),aq⟩
 refine OL 3 Z<|aT<|PX 7 Z ?_;have a:gx k c A=s:=by unfold gx;rw[he];exact Jv<|bC f
 exact aA Z Z ⟨C,x,ev,Me,Z,by rw[a];exact F,by rw[a];exact aq.sub (.cons_cons _ (.cons_cons _<|dH (.cons _ (.refl _)))),by rw[a];exact d⟩
theorem JS {G:Cx} (q:Plain G) {K:KP} (E:rh G K) {k:Nat} {c:XC} {cv:V} (z:bR K 6 (iI K k) c.ins cv) {l:List db} {lv:V} (Q:bR K 5 iU l lv) (ac:l.length<=40) {U:D} {L:Own} (aq:J U K L):
  bk Tryz.prog G 46 [.agg [.int .i64 c.aY,cv],lv] U fun v U'=>v= .tuple [.agg<|yY (bI k c l).1,.int .i64 (bI k c l).2]/\J U' K L:=by
 refine PS q Tryz.func46 Z<|Pt 2 Z<|kp aq Z (cz Z Z) (fun U b1 aq=>?_);refine kp aq Z (QE (cs:=[T,T,T,T,T,T,T,T,T,T,T])) (fun U b2 aq=>?_);refine On 6 Z<|O Z (QC Z aq.g1 (n:=2) (vs:=[_,_]) Z) Z<|bf Z (Qz Z Z Z) (fun _=>Z) (LJ q E z aq) (fun U aq=>?_);refine Pv 9 Z<|aE Z (fun i=>?_) (fun i=>?_)
 ·refine Pt 2 Z (O Z (Qy (places:=[(0,5),(5,5),(10,1)]) (zero:=[T,T,T,T,T,T,T,T,T,T,T]) (cs:=[_,_,_,_,_,_,_,_,_,_,_]) Z) Z<|vQ 1 Z<|bO aq Z (QH Z Z Z aq.g0 (m:=11) Z Z (cells':=[_,_,_,_,_,_,_,_,_,_,_]) Z) Z (fun U aq=>?_));refine OQ 5 Z ?_;exact br Z Z aq.g0 (m:=11) Y Z Z ⟨by rw[show bI k c l=(tV,fE k c) from by unfold bI;rw[show aX (I (fE k c) 0)=true from i];rfl];rfl,aq.pop.pop⟩
 refine OJ 3 Z (aS (l:=[(0,[]),(1,[]),(2,[0]),(3,[]),(4,[])]) Y Y<|al Z Z (QC Z aq.g1 (n:=2) (vs:=[_,_]) Z) Z<|wQ 1 Z ?_);have r:jn k c=true:=by rw[<-jD];exact bj i
 obtain⟨A,od,X,R⟩:=qL r;refine jg Z Z (Qz Z Z Z) (fun _=>Z) (Hr q Q B aq) ?_;rintro ag U ⟨j,hM16,aq⟩;refine⟨(bB (bN Z Z Z Z Z (QC Z aq.aQ.pop.g0 (n:=2) (vs:=[_,_]) Z)<|gH<|bS (fL _ _)<|bS z.fD fx) aV),?_⟩;have hq:=aq.keeps;have hr:=OB q A X R (oJ (KP.bX K j) z) (hM16.kq (K:=K.ic j) fun y F=>.inr F) (by have:=mj l;omega) hq;refine jg Z Z (Qz Z Z Z) (fun _=>Z) hr ?_;clear hq hr;rintro _ U ⟨tb,rb,ev,Me,rfl,W,aq,d⟩;replace aq:=aq.weaken (KP.bX K j);obtain⟨s,t⟩:∃s,s=gx k c (dg l):=⟨_,Z⟩;rw[<-t] at W aq d;obtain⟨K1,hle,a,aq⟩:=J.fy (M:=(tb,.row (HE c cv s rb ev) 131 false)::(rb,.row (s.aY.map gZ) 2 false)::Me) aq;have ht:=a _ (.head _);have hrr:=a _ (.tail _ (.head _));have hev:=W.kq (K:=K1) fun y F=>a _ (.tail _ (.tail _ F));clear a;dsimp only at ht hrr
 have u:s.aY.length<=1000:=by have:=d.aY;have:=A.xr;omega
 have hregs:=fK (xs:=s.aY) hrr u;have hl1:=Q.mono hle fun _ _ h=>h
 have C:bI k c l=iD k c s l:=by unfold bI;rw[jD,r,t];rfl
 refine⟨aV,?_⟩;refine OS 4 Z<|aN<|Pt 4 Z<|bf Z (Qz Z Z Z) (fun _=>Z) (NC q hev ht hl1 aq) (fun U aq=>?_);refine ky Z (cV Z) (fun b=>?_) (fun b=>?_)
 ·refine OO 6 Z (O Z (Qy (places:=[(0,5),(5,5),(10,1)]) (zero:=[T,T,T,T,T,T,T,T,T,T,T]) (cs:=[_,_,_,_,_,_,_,_,_,_,_]) Z) Z<|bO aq Z (QH Z Z Z aq.g0 (m:=11) Z Z (cells':=[_,_,_,_,_,_,_,_,_,_,_]) Z) Z (fun U aq=>?_));refine Px 4 Z<|aF<|aw (?_);exact br Z Z aq.g0 (m:=11) Y Z Z ⟨by rw[C,show iD k c s l=(tV,2) from by unfold iD;rw[kA b];rfl];rfl,(aq.pop.pop).weaken hle⟩
 refine OO 7 Z<|O Z (eW Z) Z<|O Z (QA 4 Z) Z<|O Z (QB Z (aq.fq ht) Z) Z<|O Z (QD hev Z Z Z (e:=56) Z) Z<|vQ 1 Z<|O Z (QD hl1 Z Z Z (e:=56) Z) Z<|ky Z (az Z Z Z) (fun f=>?_) (fun f=>?_)
 ·refine OO 7 Z<|O Z (eW Z) Z<|O Z (QA 4 Z) Z<|O Z (QB Z (aq.fq ht) Z) Z<|vQ 1 Z<|O Z (QD hl1 Z Z Z (e:=56) Z) Z ?_;obtain⟨P,g⟩:=cm (bu f);refine Qu (e:=56) (m:=5) hev g Z Z Z Z (fun am aa w ab x=>?_);obtain rfl:=x;refine O Z (QG aq w Z Z) Z (O Z (Qy (places:=[(0,5),(5,5),(10,1)]) (zero:=[T,T,T,T,T,T,T,T,T,T,T]) (cs:=[_,_,_,_,_,_,_,_,_,_,_]) Z) Z<|bO aq Z (QH Z Z Z aq.g0 (m:=11) Z Z (cells':=[_,_,_,_,_,_,_,_,_,_,_]) Z) Z (fun U aq=>?_));refine Px 4 Z<|aF<|aw (?_);exact br Z Z aq.g0 (m:=11) Y Z Z ⟨by rw[C,show iD k c s l=(⟨P,gw,0⟩,0) from by unfold iD;rw[eV b,g];rfl];rfl,(aq.pop.pop).weaken hle⟩
 refine OO 7 Z<|O Z (eW Z) Z<|O Z (QA 7 Z) Z<|ky Z (QB Z (aq.fq ht) Z) (fun o=>?_) (fun o=>?_)
 ·refine OO 7 Z ?_;obtain⟨xs,p⟩:=cm (d.lt R);have hrx:=A.right xs (gB_ p);refine bf Z (Qz Z Z Z) (fun _=>Z) (Mb q (oJ hle z) (by have:=d.aY;have:=A.za;omega) p hrx hregs ht aq) (fun U aq=>?_);refine O Z (Qy (places:=[(0,5),(5,5),(10,1)]) (zero:=[T,T,T,T,T,T,T,T,T,T,T]) (cs:=[_,_,_,_,_,_,_,_,_,_,_]) Z) Z<|bO aq Z (QH Z Z Z aq.g0 (m:=11) Z Z (cells':=[_,_,_,_,_,_,_,_,_,_,_]) Z) Z (fun U aq=>?_);refine Px 4 Z<|aF<|aw (?_);exact br Z Z aq.g0 (m:=11) Y Z Z ⟨by rw[C,show iD k c s l=(⟨lr,xZ k xs s.aY,0⟩,0) from by unfold iD;rw[eV b,gN_<|bC f,o];show((⟨lr,lh k c s,0⟩:ji),(0:Int))=_;unfold lh;rw[p]];rfl,(aq.pop.pop).weaken hle⟩
 refine OP 6 Z (Pt 3 Z (O Z (eW Z) Z (O Z (QA 6 Z) Z (O Z (QB Z (aq.fq ht) Z) Z (O Z (Qy (places:=[(0,5),(5,5),(10,1)]) (zero:=[T,T,T,T,T,T,T,T,T,T,T]) (cs:=[_,_,_,_,_,_,_,_,_,_,_]) Z) Z<|bO aq Z (QH Z Z Z aq.g0 (m:=11) Z Z (cells':=[_,_,_,_,_,_,_,_,_,_,_]) Z) Z (fun U aq=>?_))))));refine Px 4 Z ?_;exact br Z Z aq.g0 (m:=11) Y Z Z ⟨by rw[C,show iD k c s l=(⟨lr,gw,s.fin⟩,0) from by unfold iD;rw[eV b,gN_<|bC f,o];rfl];rfl,(aq.pop.pop).weaken hle⟩
structure P7 (k:Nat) (init:List Int) (l:List XC):Prop where
 len:l.length<=4
 init:init.length<=6
 pos:0<l.length
 flat:∀c∈l,jn k c=true
def DH (k:Nat) (p:XC×List db):Int:=(bI k p.1 p.2).1.fin
theorem tQ {k:Nat}:∀{l:List XC} {g:List (List db)},l.length=g.length->(∀(i:Nat) (c:XC) (r:List db),l[i]?=some c->g[i]?=some r->I (bI k c r).2 0=true)->pV k l g=some ((l.zip g).map<|DH k)
 | [],[],_,_=>rfl
 | [],_::_,h,_=>by simp at h
 | _::_,[],h,_=>by simp at h
 | c::l,r::g,h,a=>by
  have h0:=a 0 c r Z Z;have:=tQ (k:=k) (l:=l) (g:=g) (by simpa using h) fun i c r b d=>a (i+1) c r (by simpa using b) (by simpa using d)
  show(bif I (bI k c r).2 0 then(pV k l g).map fun e=>(bI k c r).1.fin::e else none)=_;rw[h0,this];rfl
theorem tR {k:Nat}:∀{l:List XC} {g:List (List db)} {i:Nat} {c:XC} {r:List db},l[i]?=some c->g[i]?=some r->I (bI k c r).2 0=false->pV k l g=none
 | c'::l,r'::g,0,c,r,a,b,h=>by
  simp only[List.getElem?_cons_zero,oJ_] at a b;subst a;subst b;show(bif I (bI k c' r').2 0 then _ else none)=none;rw[h];rfl
 | c'::l,r'::g,i+1,c,r,a,b,h=>by
  have:=tR (k:=k) (l:=l) (g:=g) (i:=i) (by simpa using a) (by simpa using b) h;show(bif I (bI k c' r').2 0 then(pV k l g).map _ else none)=none;rw[this];cases I (bI k c' r').2 0<;>rfl
 | [],_,_,_,_,a,_,_=>by simp at a
 | _::_,[],_,_,_,_,b,_=>by simp at b
theorem J9 {α β:Type} {l:List α} {g:List β} {i:Nat} {x:α} {y:β} (a:l[i]?=some x) (b:g[i]?=some y):(l.zip g)[i]?=some (x,y):=by rw[List.getElem?_zip_eq_some];exact⟨a,b⟩
theorem Nv {G:Cx} (hG:Plain G) {K:KP} (a0:rh G K) {k:Nat} {l:List XC} {lv:V} (hl:bR K 2 (mY K k) l lv) {g:XG} {a b c d:V} (hg:eN K g a b c d) {U:D} {L:Own} (aq:J U K L):
  bk Tryz.prog G 12 [lv,.agg [a,b,c,d]] U fun v U'=>∃u M,v= .tuple [u,.bool (fl k l g).isSome]/\cQ 1 3 dy ((fl k l g).getD []) u M/\J U' K (M++L):=by
 refine PS hG Tryz.func12 Z<|Pt 2 Z<|kp aq Z (cz Z Z) (fun U b1 aq=>?_);refine On 7 Z<|O Z (QC Z aq.g0 (n:=4) (vs:=[_,_,_,_]) Z) Z<|bf Z (Qz Z Z Z) (fun _=>Z) (vz hG hg aq) (fun U aq=>?_);refine vQ 1 Z<|ky Z (an Z) (fun q=>?_) (fun q=>?_)
 ·refine OQ 18 Z ?_;have r:fl k l g=none:=by unfold fl;rw[show aX (I (cd g) 0)=true from q];rfl
  exact bV Z Z Z ⟨.ax,[],by rw[r];rfl,by rw[r];exact .inl ⟨Z,Z,Z⟩,aq.pop⟩
 refine vQ 1 Z<|O Z (QD hl Z Z Z (e:=33) Z) Z<|P3 aq 2 [1,0] Z Z<|O Z (QD hg.threads Z Z Z (e:=57) Z) Z<|Pv 4 Z<|aE Z (fun s=>?_) (fun s=>?_)
 ·refine Pu 8 Z ?_;have r:fl k l g=none:=by unfold fl;rw[show aX (I (cd g) 0)=false from q,show aX (I (.ofNat l.length) (.ofNat g.threads.length))=true from s];rfl
  exact bV Z Z Z ⟨.ax,[],by rw[r];rfl,by rw[r];exact .inl ⟨Z,Z,Z⟩,aq.pop⟩
 refine OK 5 Z<|O Z (QD hl Z Z Z (e:=33) Z) Z ?_;have a1:cd g=0:=eqv (bj q);obtain⟨b1_,_,b3_,_⟩:=cK a1;have R:l.length=g.threads.length:=dB (bj s);obtain⟨F,hF⟩:∃F,F=DH k:=⟨_,Z⟩;have y:(l.zip g.threads).length=l.length:=by rw[List.length_zip,R];omega
 refine gT aq Z (k9 (e:=3) (w:=8) (z:=[gZ 0]) Y Y Y Y Z Z B B) (fun _=>Z) (fun U b2 aq=>?_);rw[iT (f:=gZ)] at aq;rw[show List.replicate l.length 0=nf F (l.zip g.threads) 0 from by rw[wq,y]] at aq;refine On 7 Z (O Z (QD hl Z Z Z (e:=33) Z) Z (OM 4 Z (bp ([4,5]++rg 7 4++rg 27 23) (fun j t U=>∃(i:Nat),j+i=l.length/\(∀(A:Nat) (W:XC) (X:List db),A<i->l[A]?=some W->g.threads[A]?=some X->I (bI k W X).2 0=true)/\t.get 27=some (.int .i64 (.ofNat i))/\J U K ((b2,.row ((nf F (l.zip g.threads) i).map gZ) 3 false)::(b1,.row [a,b,c,d] 26 false)::L)) (l.length) ⟨0,Z,fun A W X h=>absurd h (nZ_ _),Z,aq⟩ ?_)));clear aq;intro j5 t U ar hI;obtain⟨i,a6,ac,ag,aq⟩:=hI;obtain⟨oo,rfl⟩:=ar.q1 ag Z;refine Pt 2 Z<|ky Z (az Z Z Z) (fun C=>?_) (fun C=>?_)
 ·refine Om 8 Z<|Pt 3 Z ?_;obtain⟨aa,p,x⟩:=cL C;refine Qu (e:=33) (m:=2) hl p Z Z Z Z (fun a7 a2 am a3 ao=>?_);have hr30':=ao;obtain⟨a8,rfl,Q⟩:=hr30';refine O Z (QG aq am Z Z) Z<|kp aq Z (QE (cs:=[T,.ax])) (fun U b3 aq=>?_);refine vQ 1 Z<|bO aq Z (QH Z Z Z aq.g0 (m:=2) Z (ah Z<|ah Q.leaf.2 aC) (cells':=[_,_]) Z) Z (fun U aq=>?_);refine ON 3 Z (aS (l:=[(0,[]),(1,[]),(2,[]),(3,[]),(4,[]),(5,[]),(10,[]),(6,[10]),(7,[]),(8,[]),(9,[]),(11,[]),(12,[])]) Y Y<|al Z Z (QC Z aq.g0 (n:=2) (vs:=[_,_]) Z) Z<|P4 aq 3 [1,2] Z Z ?_);obtain⟨P,o⟩:=cm (show i<g.threads.length from by rw[<-R];exact x);refine Qv (e:=57) (m:=1) hg.threads o Z Z Z Z Z (fun a9 a4 ap a5 aI=>?_);have hr37':=aI;obtain⟨bb,rfl,aY⟩:=hr37';refine al Z Z (QF aq ap Z Z) Z<|pB aq Z Z (QE (cs:=[T,T,T,T,T,T,T,T,T,T,T])) (fun _=>Z) (fun U b4 aq=>?_);refine cA Z Z (Qz Z Z Z) (fun _=>Z) (JS hG a0 Q aY (by have:=b3_ P (gB_ o);omega) aq) (fun U aq=>?_);refine⟨(bB (iq Z Z Z Z Z (cs:=[T,T,T,T,T,T,T,T,T,T,T]) (e:=87) Y aq.g0 Y) aV),?_⟩;refine P1 3 Z<|kb aq Z Z (QH Z Z Z aq.g0 (m:=11) Z Z (cells':=[_,_,_,_,_,_,_,_,_,_,_]) Z) Z (fun U aq=>?_);refine⟨aV,?_⟩;refine OS 10 Z<|aE Z (fun ab=>?_) (fun ab=>?_)
  ·refine PX 7 Z<|aw<|aF<|aw<|bz<|aF<|aw (?_);have r:fl k l g=none:=by unfold fl;rw[show aX (I (cd g) 0)=false from q,show aX (I (.ofNat l.length) (.ofNat g.threads.length))=false from s];exact tR p o<|bT ab
   exact bV Z Z Z ⟨.ax,[],by rw[r];rfl,by rw[r];exact .inl ⟨Z,Z,Z⟩,aq.pop.pop.pop.pop⟩
  refine aG<|P2 aq 5 [10,0] Z Z<|O Z (eo (e:=3) (m:=1) Y Y Z Z x) Z ?_;refine cC aq (.there (.there .here)) Z (aL Z Z (show _=some [gZ<|F (aa,P)] from by rw[hF];rfl) (aq.get 2 Z) (m:=1) Y Z (by rw[lM_];rw[qK B,y];omega) Z (cells':=((nf F (l.zip g.threads) i).set i<|F (aa,P)).map (gZ)) (fb (f:=gZ) (v:=(F (aa,P))) (by rw[qK B,y];exact x) (by first | omega | rfl))) Z (fun U aq=>?_);rw[yO<|J9 p o] at aq;refine af<|aJ<|PW 4 Z ?_;have aq:=aq.pop;have aq:=aq.pop;refine aO ⟨j5-1,by omega,oF,i+1,by omega,fun A W X be h1 h2=>(by by_cases e:A=i;(subst e;rw[p] at h1;rw[o] at h2;cases h1;cases h2;exact bj ab);exact ac A W X B h1 h2),cI<|bg (by have:=hl.bG;omega),aq⟩
 refine ON 4 Z<|OL 3 Z<|aT<|PX 8 Z ?_;have r:fl k l g=some ((l.zip g.threads).map<|DH k):=by unfold fl;rw[show aX (I (cd g) 0)=false from q,show aX (I (.ofNat l.length) (.ofNat g.threads.length))=false from s];exact tQ R fun A W X h1 h2=>ac A W X (by have:=(gA.1 h1).1;have:=bC C;omega) h1 h2
 rw[yN (by have:=bC C;omega)] at aq;exact bV Z Z Z ⟨_,[(b2,_)],by rw[r];rfl,by rw[r,<-hF];have:=gO (b:=b2) (e:=3) (E:=3) (xs:=(l.zip g.threads).map F) (by rw[lM_];omega);rw[lM_,y] at this;exact this,aq.sub (.cons_cons _ (.cons _ (.refl _)))⟩
theorem NA {G:Cx} (o:Plain G) {K:KP} {g:XG} {a b c d:V} (q:eN K g a b c d) (p:∀l∈g.order,l.length<=1000000) (loc:Int) {U:D} {L:Own} (aq:J U K L):
  bk Tryz.prog G 43 [.agg [a,b,c,d],.int .i64 loc] U fun v U'=>v= .int .i64 (jq g loc)/\J U' K L:=by
 refine PS o Tryz.func43 Z<|Pt 2 Z<|kp aq Z (cz Z Z) (fun U b1 aq=>?_);refine OO 5 Z<|O Z (QC Z aq.g0 (n:=4) (vs:=[_,_,_,_]) Z) Z<|vQ 1 Z<|cH Z (Qz Z Z Z) (fun _=>Z) (tt o q p _ aq) ?_;rintro ac U ⟨ag,hM10,aq⟩;obtain⟨r,hle,i,aq⟩:=aq.fy;have hw:=hM10.kq (K:=r) fun y s=>i _ s;have hg1:=q.mono hle;have hb9:=aq.get 0 Z
 refine On 7 Z<|O Z (QD hw Z Z Z (e:=67) Z) Z<|Pv 3 Z<|aE Z (fun f=>?_) (fun f=>?_)
 ·refine Pu 7 Z ?_;exact aA Z Z ⟨cJ (by unfold jq;rw[List.getLast?_eq_none_iff.2<|eN_<|iJ_<|eqv (b:=.ofNat 0) f]),(aq.pop).weaken hle⟩
 refine OJ 3 Z (aS (l:=[(0,[]),(1,[]),(2,[]),(3,[]),(4,[]),(5,[]),(6,[]),(11,[]),(7,[11]),(8,[]),(9,[]),(10,[]),(12,[]),(13,[])]) Y Y<|al Z Z (QC Z aq.g0 (n:=4) (vs:=[_,_,_,_]) Z) Z<|P1 2 Z<|al Z Z (QD hw Z Z Z (e:=67) Z) Z<|wQ 1 Z ?_);have am:0<(cu g loc).length:=by rcases Nat.eq_zero_or_pos (cu g loc).length with e | e;(rw[e] at f;cases f);exact e
 obtain⟨ao,h⟩:=cm (show(cu g loc).length-1<(cu g loc).length from by omega);refine Qv (e:=67) (m:=2) hw h Z Z Z Z (cI<|kY (b:=1) B hw.bG) (fun ap aa j ab k=>?_);obtain rfl:=k;refine al Z Z (QG aq j Z Z) Z<|pB aq Z Z (QE (cs:=[T,T,T,T,T])) (fun _=>Z) (fun U b2 aq=>?_);refine cA Z Z (Qz Z Z Z) (fun _=>Z) (AF o hg1 _ _ aq) (fun U aq=>?_);refine⟨(bB (iq Z Z Z Z Z (cs:=[T,T,T,T,T]) (e:=56) Y aq.g0 Y) aV),?_⟩;refine P1 3 Z<|kb aq Z Z (QH Z Z Z aq.g0 (m:=5) Z Z (cells':=[_,_,_,_,_]) Z) Z (fun U aq=>?_);refine⟨aV,?_⟩;refine OS 4 Z<|PB aq 7 [4,0] Z Z ?_;exact aA Z Z ⟨cJ (by unfold jq;rw[List.getLast?_eq_getElem?,h]),(aq.pop.pop).weaken hle⟩
def AR (k:Nat) (l:List XC):Prop:=∀c∈l,mn k c/\um k c
theorem HU {G:Cx} (hG:Plain G) {K:KP} {k:Nat} {l:List XC} {lv:V} (hl:bR K 2 (mY K k) l lv) (hF:AR k l) {g:XG} {a b c d:V} (hg:eN K g a b c d) {U:D} {L:Own} (aq:J U K L):
  bk Tryz.prog G 13 [lv,.agg [a,b,c,d]] U fun v U'=>∃u M,v= .tuple [u,.bool (fl k l g).isSome]/\cQ 1 3 dy ((fl k l g).getD []) u M/\J U' K (M++L):=by
 refine PS hG Tryz.func13 Z<|Pt 2 Z<|kp aq Z (cz Z Z) (fun U b1 aq=>?_);refine On 7 Z<|O Z (QC Z aq.g0 (n:=4) (vs:=[_,_,_,_]) Z) Z<|bf Z (Qz Z Z Z) (fun _=>Z) (ox hG hg aq) (fun U aq=>?_);refine vQ 1 Z<|ky Z (an Z) (fun q=>?_) (fun q=>?_)
 ·refine OQ 18 Z ?_;have r:fl k l g=none:=by unfold fl;rw[show aX (I (cd g) 0)=true from q];rfl
  exact bV Z Z Z ⟨.ax,[],by rw[r];rfl,by rw[r];exact .inl ⟨Z,Z,Z⟩,aq.pop⟩
 refine vQ 1 Z<|O Z (QD hl Z Z Z (e:=33) Z) Z<|P3 aq 2 [1,0] Z Z<|O Z (QD hg.threads Z Z Z (e:=57) Z) Z<|Pv 4 Z<|aE Z (fun s=>?_) (fun s=>?_)
 ·refine Pu 8 Z ?_;have r:fl k l g=none:=by unfold fl;rw[show aX (I (cd g) 0)=false from q,show aX (I (.ofNat l.length) (.ofNat g.threads.length))=true from s];rfl
  exact bV Z Z Z ⟨.ax,[],by rw[r];rfl,by rw[r];exact .inl ⟨Z,Z,Z⟩,aq.pop⟩
 refine OK 4 Z ?_;have ao:cd g=0:=eqv (bj q);obtain⟨b1_,_,b3_,_⟩:=cK ao;have x:l.length=g.threads.length:=dB (bj s);have a7:(l.zip g.threads).length=l.length:=by rw[List.length_zip,x];omega
 refine Om 10 Z (bp (rg 4 6++rg 21 26) (fun j t U=>∃(i:Nat) (u:V) (M:Own),j+i=l.length/\(∀(w:Nat) (y:XC) (A:List db),w<i->l[w]?=some y->g.threads[w]?=some A->I (bI k y A).2 0=true)/\cQ 1 3 dy (((l.zip g.threads).take i).map<|DH k) u M/\t.get 6=some (u)/\t.get 7=some (.int .i64 (.ofNat i))/\J U K (M++((b1,.row [a,b,c,d] 26 false)::L))) (l.length) ⟨0,.ax,[],Z,(fun w y A h=>absurd h (nZ_ _)),cQ.nil,Z,Z,aq⟩ ?_);clear aq;intro j5 t U ar hI;obtain⟨i,u,M,a8,F,hO,ap,aI,aq⟩:=hI;obtain⟨oo,rfl⟩:=ar.q2 ap aI Z;refine OI 5 Z<|O Z (QD hl Z Z Z (e:=33) Z) Z<|Pv 3 Z<|aE Z (fun p=>?_) (fun p=>?_)
 ·refine NO 5 Z (aS (l:=[(0,[]),(1,[]),(2,[]),(3,[]),(4,[]),(5,[]),(6,[]),(7,[]),(8,[]),(13,[]),(9,[13]),(10,[]),(11,[]),(12,[]),(14,[]),(15,[])]) Y Y<|P1 2 Z ?_);obtain⟨P,f⟩:=cm (bu p);refine Qv (e:=33) (m:=2) hl f Z Z Z Z Z (fun a9 a3 Q a4 W=>?_);have hr30':=W;obtain⟨bb,rfl,aa⟩:=hr30';refine al Z Z (QG aq Q Z Z) Z<|al Z Z (QA 1 Z) Z<|al Z Z (QB Z aq.aQ.g0 Z) Z<|wQ 1 Z ?_;obtain⟨ab,o⟩:=cm (show i<g.threads.length from by rw[<-x];exact bu p);refine Qv (e:=57) (m:=1) hg.threads o Z Z Z Z Z (fun be a5 ac a6 ag=>?_);have hr35':=ag;obtain⟨bi,rfl,am⟩:=hr35';refine al Z Z (QF aq ac Z Z) Z<|pB aq Z Z (QE (cs:=[T,T,T,T,T,T,T,T,T,T,T])) (fun _=>Z) (fun U b2 aq=>?_);obtain⟨aY,a0⟩:=hF P (gB_ f);refine cA Z Z (Qz Z Z Z) (fun _=>Z) (HW hG aa aY a0 am (by have:=b3_ ab (gB_ o);omega) aq) (fun U aq=>?_);refine⟨(bB (iq Z Z Z Z Z (cs:=[T,T,T,T,T,T,T,T,T,T,T]) (e:=87) Y aq.g0 Y) aV),?_⟩;refine P1 3 Z<|kb aq Z Z (QH Z Z Z aq.g0 (m:=11) Z Z (cells':=[_,_,_,_,_,_,_,_,_,_,_]) Z) Z (fun U aq=>?_);refine⟨aV,?_⟩;refine OS 10 Z<|aE Z (fun C=>?_) (fun C=>?_)
  ·refine PX 7 Z<|aw<|aF<|aw<|bz<|aF<|aw (?_);have r:fl k l g=none:=by unfold fl;rw[show aX (I (cd g) 0)=false from q,show aX (I (.ofNat l.length) (.ofNat g.threads.length))=false from s];exact tR f o<|bT C
   exact bV Z Z Z ⟨.ax,[],by rw[r];rfl,by rw[r];exact .inl ⟨Z,Z,Z⟩,aq.pop.aQ.pop⟩
  refine aG<|P2 aq 4 [10,0] Z Z<|gT aq Z (bY (e:=3) (m:=1) (z:=[T]) (cs:=[_]) Y Y Y Y<|bD Z Z Z Z bJ) (fun _=>Z) (fun U b3 aq=>?_);replace aq:=aq.pull (.there (.there .here));replace aq:=aq.pull (.cM<|ep.here (X:=[_]));refine sk (R:=dy) (m:=1) (e:=3) hO aq (eU (m:=1) Z (show dy (DH k (P,ab)) _ from Z)) dy.leaf (by rw[lM_,lT_];show _+1<=_;omega) Z Z Z Z Z Z Z (fun _=>Z) (fun U a1 a2 hO46 aq=>?_);refine PY 2 Z<|aJ<|ad<|ai Z ?_;replace aq:=aq.sub (dH (.cons _ (.cons_cons _ (.refl _))));refine PY 4 Z (aO ⟨j5-1,(by have:=bu p;omega),oF,i+1,a1,a2,(by have:=bu p;omega),(fun w y A bl E h2=>(by by_cases e:w=i;(subst e;rw[f] at E;rw[o] at h2;cases E;cases h2;exact bj C);exact F w y A B E h2)),(by rw[mi<|J9 f o];exact hO46),Z,cI<|bg (by have:=hl.bG;omega),aq⟩)
 refine OL 3 Z<|aT<|PX 8 Z ?_;have r:fl k l g=some ((l.zip g.threads).map<|DH k):=by unfold fl;rw[show aX (I (cd g) 0)=false from q,show aX (I (.ofNat l.length) (.ofNat g.threads.length))=false from s];exact tQ x fun w y A E h2=>F w y A (by have:=(gA.1 E).1;have:=bC p;omega) E h2
 exact bV Z Z Z ⟨u,M,by rw[r];rfl,by rw[r];show cQ 1 3 dy ((l.zip g.threads).map<|DH k) _ _;rw[tL_ (by have:=bC p;omega)] at hO;exact hO,aq.sub<|dH (.cons _ (.refl _))⟩
def Qt:XG:=⟨[],[],[],[]⟩
theorem Ff {K:KP}:eN K Qt .ax .ax .ax .ax:=⟨.inl ⟨Z,Z⟩,.inl ⟨Z,Z⟩,.inl ⟨Z,Z⟩,.inl ⟨Z,Z⟩⟩
theorem ND {G:Cx} (p:Plain G) {K:KP}:∀(k:Nat) (x:XE) (vs:List V),ey K k x vs->∀(left:Int) (U:D) (L:Own),J U K L->bk Tryz.prog G 72 [.agg vs,.int .i64 left] U fun v U'=>v= .int .i64 (px k x left)/\J U' K L:=by
 intro k;induction k with
 | zero=>intro x vs h;cases x;exact h.elim
 | succ k ih=>
 intro x vs h left U L aq;obtain⟨op,num,name,kids⟩:=x;obtain⟨v,rfl,l⟩:=h;refine PS p Tryz.func72 Z<|Pt 2 Z<|kp aq Z (cz Z Z) (fun U b1 aq=>?_);refine OX aq 9 [2,0] Z Z<|O Z (ij Z Z Z Y Z) Z<|Om 12 Z ?_;obtain⟨LL1,aq,hLL1⟩:=aq.named;refine bp ([1,5]++rg 13 18) (fun j t U=>∃(i:Nat) (m:Int),j+i=kids.length/\lq (px k) kids (uH name left)=lq (px k) (kids.drop i) m/\t.get 1=some (.int .i64 m)/\t.get 5=some (.int .i64 (.ofNat i))/\J U K LL1) (kids.length) ⟨0,_,Z,Z,Z,Z,aq⟩ ?_;clear aq;intro q t U ar r;obtain⟨i,m,hj,f,n,o,aq⟩:=r;subst hLL1;obtain⟨oo,rfl⟩:=ar.q2 n o Z;refine OU aq 6 [3,0] Z Z<|O Z (QD l Z Z Z (e:=82) Z) Z<|vQ 1 Z<|ky Z (an Z) (fun c=>?_) (fun c=>?_)
 ·refine Pv 5 Z<|aE Z (fun d=>?_) (fun d=>?_)
  ·refine Oq aq 8 [3,0] Z Z ?_;obtain⟨am,a,aa⟩:=cL c;refine Qu (e:=82) (m:=4) l a Z Z Z Z (fun ao ab g ac b=>?_);obtain⟨ap,ax,aI,aY,rfl,ag⟩:=b.shape;refine O Z (QG aq g Z Z) Z<|vQ 1 Z<|bf Z (Qz Z Z Z) (fun _=>Z) (ih _ _ b _ _ _ aq) (fun U aq=>?_);refine PY 2 Z<|aJ<|PW 5 Z<|aO ⟨q-1,by omega,oF,i+1,_,by omega,f.trans<|DO a<|bT d,Z,cI<|bg (by have:=l.bG;omega),aq⟩
  refine OL 3 Z<|aT<|PX 7 Z ?_;exact aA Z Z ⟨cJ (by rw[GI<|bj d] at f;rw[<-f];rfl),aq.pop⟩
 refine OR 8 Z<|bc<|aT<|PX 7 Z ?_;exact aA Z Z ⟨cJ (by rw[GJ<|bC c] at f;rw[<-f];rfl),aq.pop⟩
theorem LG {G:Cx} (a:Plain G) {K:KP} {k:Nat} {x:XE} {vs:List V} {U:D} {L:Own} (aq:J U K L) (h:ey K k x vs) (most:Int):bk Tryz.prog G 44 [.agg vs,.int .i64 most] U fun v U'=>v= .bool (wS k x most)/\J U' K L:=by
 obtain⟨o0,n0,s0,v0,rfl,hk⟩:=h.shape;refine PS a Tryz.func44 Z<|Pt 2 Z<|kp aq Z (cz Z Z) (fun U b1 aq=>?_);refine OO 5 Z<|O Z (QC Z aq.g0 (n:=4) (vs:=[_,_,_,_]) Z) Z<|vQ 1 Z<|bf Z (Qz Z Z Z) (fun _=>Z) (ND a _ _ _ h _ _ _ aq) (fun U aq=>?_);refine Px 5 Z ?_;exact aA Z Z ⟨Z,aq.pop⟩
theorem CP {G:Cx} (hG:Plain G) {K:KP} {k:Nat} {x:XC} {vs:List V} {U:D} {L:Own} (aq:J U K L) (h:mY K k x vs) (most:Int):bk Tryz.prog G 11 [.agg vs,.int .i64 most] U fun v U'=>v= .bool (p5 k most x)/\J U' K L:=by
 have h':=h;obtain⟨v0,rfl,q⟩:=h';refine PS hG Tryz.func11 Z<|Pt 2 Z<|kp aq Z (cz Z Z) (fun U b1 aq=>?_);refine Ou aq 8 [1,0] Z Z<|O Z (QD q Z Z Z (e:=79) Z) Z<|Pv 4 Z<|aE Z (fun b=>?_) (fun b=>?_)
 ·refine Pu 7 Z ?_;exact aA Z Z ⟨cB (by unfold p5;rw[b];rfl),aq.pop⟩
 refine Ok 9 Z ?_;obtain⟨LL1,aq,hLL1⟩:=aq.named;refine bp ([4,5,6]++rg 12 37) (fun j t U=>∃(i:Nat),j+i=x.ins.length/\(x.ins.take i).all (sf k)=true/\t.get 5=some (.int .i64 (.ofNat i))/\J U K LL1) (x.ins.length) ⟨0,Z,Z,Z,aq⟩ ?_;clear aq;intro j4 t U ar W;obtain⟨i,hj,ha,X,aq⟩:=W;subst hLL1;obtain⟨oo,rfl⟩:=ar.q1 X Z;refine OU aq 6 [1,0] Z Z<|O Z (QD q Z Z Z (e:=79) Z) Z<|Pv 3 Z<|aE Z (fun l=>?_) (fun l=>?_)
 ·refine NO 5 Z<|PA aq 5 [1,0] Z Z ?_;obtain⟨n,a,ab⟩:=cL l;refine Qu (e:=79) (m:=6) q a Z Z Z Z (fun a2 ac r ag s=>?_);have hr22':=s;obtain⟨a3,rfl,f⟩:=hr22';refine cq r Z Z Z (k:=5) Y (lb Z) (fun _=>Z) (fun a4 u=>?_);refine O Z (QF aq u Z Z) Z<|O Z (QD f Z Z Z (e:=82) Z) Z<|Pv 3 Z<|aE Z (fun d=>?_) (fun d=>?_)
  ·refine PX 6 Z<|aw<|aF<|aw<|bz<|aF<|aw (?_);exact aA Z Z ⟨cB (by unfold p5;rw[b,gG a (by unfold sf;rw[d];rfl)];rfl),aq.pop⟩
  refine OK 5 Z<|OM 3 Z ?_;obtain⟨LL2,aq,hLL2⟩:=aq.named;refine bp ([4,6]++rg 27 22) (fun j t U=>∃(w:Nat),j+w=n.exprs.length/\(n.exprs.take w).all (fun e=>wS k e 60)=true/\t.get 6=some (.int .i64 (.ofNat w))/\J U K LL2) (n.exprs.length) ⟨0,Z,Z,Z,aq⟩ ?_;clear aq;intro j9 t U ar W;obtain⟨w,a5,y,aa,aq⟩:=W;subst hLL2;obtain⟨oo,rfl⟩:=ar.q1 aa Z;refine OU aq 7 [1,0] Z Z<|Qu (e:=79) (m:=6) q a Z Z Z Z (fun a6 am z ao A=>?_);have hr31':=A;obtain⟨a7,rfl,C⟩:=hr31';refine cq z Z Z Z (k:=5) Y (lb Z) (fun _=>Z) (fun a8 E=>?_);refine O Z (QF aq E Z Z) Z<|O Z (QD C Z Z Z (e:=82) Z) Z<|Pv 3 Z<|aE Z (fun o=>?_) (fun o=>?_)
  ·refine NQ aq 9 [1,0] Z Z<|Qu (e:=79) (m:=6) q a Z Z Z Z (fun a9 ap F ax M=>?_);have hr41':=M;obtain⟨bb,rfl,P⟩:=hr41';refine cq F Z Z Z (k:=5) Y (lb Z) (fun _=>Z) (fun be Q=>?_);refine O Z (QF aq Q Z Z) Z<|vQ 1 Z ?_;obtain⟨bi,c,aI⟩:=cL o;refine Qu (e:=82) (m:=4) P c Z Z Z Z (fun bl aY R a0 g=>?_);obtain⟨bm,bo,bs,bt,rfl,a1⟩:=g.shape;refine O Z (QG aq R Z Z) Z<|bf Z (Qz Z Z Z) (fun _=>Z) (LG hG aq g _) (fun U aq=>?_);refine O Z (cV Z) Z<|Pv 2 Z<|aE Z (fun p=>?_) (fun p=>?_)
   ·refine PX 6 Z<|aF<|aw<|bz<|aF<|aF<|aw<|bz<|aF<|aw (?_);exact aA Z Z ⟨cB (by unfold p5;rw[b,gG a (by unfold sf;rw[d,gG c (by simpa using p)];rfl)];rfl),aq.pop⟩
   refine aG<|aJ<|PW 5 Z<|aO ⟨j9-1,by omega,oF,w+1,by omega,eR y c (by simpa using p),cI<|bg (by have:=f.bG;omega),aq⟩
  refine OL 3 Z<|aT<|aJ<|PW 5 Z<|aO ⟨j4-1,by omega,oF,i+1,by omega,eR ha a (by unfold sf;rw[d,dR y<|bC o];rfl),cI<|bg (by have:=q.bG;omega),aq⟩
 refine OL 3 Z<|aT<|PX 6 Z ?_;exact aA Z Z ⟨cB (by unfold p5;rw[b,dR ha<|bC l];rfl),aq.pop⟩
theorem AA {G:Cx} (p:Plain G) {K:KP} {k:Nat} {l:List XC} {v:V} {U:D} {L:Own} (aq:J U K L) (h:bR K 2 (mY K k) l v) (most:Int):bk Tryz.prog G 19 [v,.int .i64 most] U fun v U'=>v= .bool (qR k most l)/\J U' K L:=by
 refine PS p Tryz.func19 Z<|OH 12 Z ?_;obtain⟨LL1,aq,hLL1⟩:=aq.named;refine bp (rg 4 19) (fun j t U=>∃(i:Nat),j+i=l.length/\(l.take i).all (p5 k most)=true/\t.get 5=some (.int .i64 (.ofNat i))/\J U K LL1) (l.length) ⟨0,Z,Z,Z,aq⟩ ?_;clear aq;intro q t U ar r;obtain⟨i,hj,n,o,aq⟩:=r;subst hLL1;obtain⟨oo,rfl⟩:=ar.q1 o Z;refine OI 5 Z<|O Z (QD h Z Z Z (e:=33) Z) Z<|vQ 1 Z<|ky Z (an Z) (fun c=>?_) (fun c=>?_)
 ·refine Pv 5 Z<|aE Z (fun d=>?_) (fun d=>?_)
  ·refine NP 8 Z ?_;obtain⟨am,a,aa⟩:=cL c;refine Qu (e:=33) (m:=2) h a Z Z Z Z (fun ao ab g ac b=>?_);have hr18':=b;obtain⟨ap,rfl,ag⟩:=hr18';refine O Z (QG aq g Z Z) Z<|vQ 1 Z<|bf Z (Qz Z Z Z) (fun _=>Z) (CP p aq b _) (fun U aq=>?_);refine O Z (cV Z) Z<|Pv 2 Z<|aE Z (fun f=>?_) (fun f=>?_)
   ·refine PX 6 Z<|aF<|aw<|bz<|aF<|aw (?_);exact aA Z Z ⟨cB (by unfold qR;rw[Kj a (bu d) (by simpa using f)];rfl),aq⟩
   refine aG<|aJ<|PW 5 Z<|aO ⟨q-1,by omega,oF,i+1,by omega,eR n a (by simpa using f),cI<|bg (by have:=h.bG;omega),aq⟩
  refine OL 3 Z<|aT<|Pt 3 Z<|O Z (QD h Z Z Z (e:=33) Z) Z<|Px 5 Z ?_;exact aA Z Z ⟨cB (by unfold qR;rw[Bb n<|bC d];rfl),aq⟩
 refine OR 8 Z<|bc<|aT<|Pt 3 Z<|O Z (QD h Z Z Z (e:=33) Z) Z<|Px 5 Z ?_;exact aA Z Z ⟨cB (by unfold qR;rw[dR (i:=i) (by rw[List.take_take];exact Bb n<|Nat.min_le_left _ _) (by rw[lT_];have:=bC c;omega)];rfl),aq⟩
section
variable {H_:Type} {U:D}
theorem Fe (k:∀(b:Nat) (o:cG),U.m.get b=some o->b<U.next):∀(fuel:Nat) (d:DataW H_) (vs:List V),Fit Tryz.prog fuel 82 d->dz Tryz.prog U fuel 82 d vs->ey (sw U) fuel (Ax fuel d) vs
  | 0,_,_,f,_=>f.elim
  | 1,d,vs,f,g=>by
    obtain⟨_,h⟩:=gn (m:=4) Tryz.underlying82 Y Y f g;exact(h 0 _ Z).1.elim
  | fuel+2,d,vs,f,g=>by
    obtain⟨l,h⟩:=gn (m:=4) Tryz.underlying82 Y Y f g
    obtain⟨a,b,c,e,rfl⟩:∃a b c e,vs= [a,b,c,e]:=by
      match vs,l with
      | [a,b,c,e],_=>exact⟨a,b,c,e,Z⟩
    obtain⟨n,p⟩:Fit Tryz.prog _ 3 (cF d 0)/\dz Tryz.prog U _ 3 (cF d 0) (([a,b,c,e].drop 0).take<|Tryz.prog.cellsOf 3):=h 0 _ Z;obtain⟨q,r⟩:Fit Tryz.prog _ 2 (cF d 1)/\dz Tryz.prog U _ 2 (cF d 1) (([a,b,c,e].drop 1).take<|Tryz.prog.cellsOf 2):=h 1 _ Z;obtain⟨s,t⟩:Fit Tryz.prog _ 9 (cF d 2)/\dz Tryz.prog U _ 9 (cF d 2) (([a,b,c,e].drop 2).take<|Tryz.prog.cellsOf 9):=h 2 _ Z;obtain⟨u,y⟩:Fit Tryz.prog _ 77 (cF d 3)/\dz Tryz.prog U _ 77 (cF d 3) (([a,b,c,e].drop 3).take<|Tryz.prog.cellsOf 77):=h 3 _ Z;have z:Tryz.prog.cellsOf 3=1:=by kernel_rfl
    have A:Tryz.prog.cellsOf 2=1:=by kernel_rfl
    have C:Tryz.prog.cellsOf 9=1:=by kernel_rfl
    have i:Tryz.prog.cellsOf 77=1:=by kernel_rfl
    have e0:=(iP Tryz.underlying3 n p).1;have e1:=(iP Tryz.underlying2 q r).1;have e2:=Nq Tryz.underlying9 s t;obtain⟨v,j,E⟩:=fV (m:=4) (Ax fuel) (ey (sw U) fuel) Tryz.underlying77 Y (by decide) k u y fun x vs f g=>Fe k fuel x vs f g
    rw[z] at e0;rw[A] at e1;rw[C] at e2;rw[i] at j;simp only[List.drop_zero,List.take_succ_cons,List.take_zero,List.drop_succ_cons,List.cons.injEq,and_true] at e0 e1 e2 j;subst e0;subst e1;subst e2;subst j;show∃w,_= [_,_,_,w]/\bR (sw U) 4 (ey (sw U) (fuel+1)) ((eO<|cF d 3).map<|Ax fuel) w;exact⟨_,Z,E.yX fun x vs h=>ey.up h⟩
theorem KT (n:∀(b:Nat) (o:cG),U.m.get b=some o->b<U.next) (fuel:Nat) (d:DataW H_) (vs:List V) (j:Fit Tryz.prog (fuel+2) 79 d) (k:dz Tryz.prog U (fuel+2) 79 d vs):iI (sw U) fuel (JL fuel d) vs:=by
  obtain⟨p,h⟩:=gn (m:=6) Tryz.underlying79 Y Y j k
  obtain⟨a,b,c,e,g,i,rfl⟩:∃a b c e g i,vs= [a,b,c,e,g,i]:=by
    match vs,p with
    | [a,b,c,e,g,i],_=>exact⟨a,b,c,e,g,i,Z⟩
  obtain⟨q,r⟩:Fit Tryz.prog _ 3 (cF d 0)/\dz Tryz.prog U _ 3 (cF d 0) (([a,b,c,e,g,i].drop 0).take<|Tryz.prog.cellsOf 3):=h 0 _ Z;obtain⟨s,t⟩:Fit Tryz.prog _ 3 (cF d 1)/\dz Tryz.prog U _ 3 (cF d 1) (([a,b,c,e,g,i].drop 1).take<|Tryz.prog.cellsOf 3):=h 1 _ Z;obtain⟨u,y⟩:Fit Tryz.prog _ 3 (cF d 2)/\dz Tryz.prog U _ 3 (cF d 2) (([a,b,c,e,g,i].drop 2).take<|Tryz.prog.cellsOf 3):=h 2 _ Z;obtain⟨z,A⟩:Fit Tryz.prog _ 3 (cF d 3)/\dz Tryz.prog U _ 3 (cF d 3) (([a,b,c,e,g,i].drop 3).take<|Tryz.prog.cellsOf 3):=h 3 _ Z;obtain⟨C,E⟩:Fit Tryz.prog _ 3 (cF d 4)/\dz Tryz.prog U _ 3 (cF d 4) (([a,b,c,e,g,i].drop 4).take<|Tryz.prog.cellsOf 3):=h 4 _ Z;obtain⟨F,G⟩:Fit Tryz.prog _ 77 (cF d 5)/\dz Tryz.prog U _ 77 (cF d 5) (([a,b,c,e,g,i].drop 5).take<|Tryz.prog.cellsOf 77):=h 5 _ Z;have K:Tryz.prog.cellsOf 3=1:=by kernel_rfl
  have f:Tryz.prog.cellsOf 77=1:=by kernel_rfl
  have e0:=(iP Tryz.underlying3 q r).1;have e1:=(iP Tryz.underlying3 s t).1;have e2:=(iP Tryz.underlying3 u y).1;have e3:=(iP Tryz.underlying3 z A).1;have e4:=(iP Tryz.underlying3 C E).1;obtain⟨v,l,L⟩:=fV (m:=4) (Ax fuel) (ey (sw U) fuel) Tryz.underlying77 Y (by decide) n F G fun x vs j k=>Fe n fuel x vs j k
  rw[K] at e0 e1 e2 e3 e4;rw[f] at l;simp only[List.drop_zero,List.take_succ_cons,List.take_zero,List.drop_succ_cons,List.cons.injEq,and_true] at e0 e1 e2 e3 e4 l;subst e0;subst e1;subst e2;subst e3;subst e4;subst l;exact⟨_,Z,L⟩
theorem KS (i:∀(b:Nat) (o:cG),U.m.get b=some o->b<U.next) (fuel:Nat) (d:DataW H_) (vs:List V) (c:Fit Tryz.prog (fuel+4) 33 d) (e:dz Tryz.prog U (fuel+4) 33 d vs):mY (sw U) fuel (CH fuel d) vs:=by
  obtain⟨j,h⟩:=gn (m:=2) Tryz.underlying33 Y Y c e
  obtain⟨a,b,rfl⟩:∃a b,vs= [a,b]:=by
    match vs,j with
    | [a,b],_=>exact⟨a,b,Z⟩
  obtain⟨k,l⟩:Fit Tryz.prog _ 3 (cF d 0)/\dz Tryz.prog U _ 3 (cF d 0) (([a,b].drop 0).take<|Tryz.prog.cellsOf 3):=h 0 _ Z;obtain⟨n,p⟩:Fit Tryz.prog _ 31 (cF d 1)/\dz Tryz.prog U _ 31 (cF d 1) (([a,b].drop 1).take<|Tryz.prog.cellsOf 31):=h 1 _ Z;have q:Tryz.prog.cellsOf 3=1:=by kernel_rfl
  have f:Tryz.prog.cellsOf 31=1:=by kernel_rfl
  have e0:=(iP Tryz.underlying3 k l).1;obtain⟨v,g,r⟩:=fV (m:=6) (JL fuel) (iI (sw U) fuel) Tryz.underlying31 Y (by decide) i n p fun x vs c e=>KT i fuel x vs c e
  rw[q] at e0;rw[f] at g;simp only[List.drop_zero,List.take_succ_cons,List.take_zero,List.drop_succ_cons,List.cons.injEq,and_true] at e0 g;subst e0;subst g;exact⟨_,Z,r⟩
theorem IB (e:∀(b:Nat) (o:cG),U.m.get b=some o->b<U.next) (fuel:Nat) (d:DataW H_) (vs:List V) (a:Fit Tryz.prog (fuel+5) 27 d) (c:dz Tryz.prog U (fuel+5) 27 d vs):∃v,vs= [v]/\bR (sw U) 2 (mY (sw U) fuel) ((eO d).map<|CH fuel) v:=
  fV (m:=2) (CH fuel) (mY (sw U) fuel) Tryz.underlying27 Y (by decide) e a c fun x vs a c=>KS e fuel x vs a c
def xL (d:DataW H_):dw:=⟨m3<|cF d 0,m3<|cF d 1⟩
def CI (d:DataW H_):db:=⟨m3<|cF d 0,m3<|cF d 1,m3<|cF d 2,m3<|cF d 3,m3<|cF d 4⟩
def Nr (d:DataW H_):XG:=⟨(eO<|cF d 0).map m3,(eO<|cF d 1).map fun r=>(eO r).map CI,(eO<|cF d 2).map fun r=>(eO r).map xL,(eO<|cF d 3).map fun r=>(eO r).map xL⟩
theorem Nk {fuel:Nat} {d:DataW H_} {vs:List V} (c:Fit Tryz.prog (fuel+2) 67 d) (e:dz Tryz.prog U (fuel+2) 67 d vs):iV (xL d) vs:=by
  obtain⟨f,h⟩:=gn (m:=2) Tryz.underlying67 Y Y c e
  obtain⟨a,b,rfl⟩:∃a b,vs= [a,b]:=by
    match vs,f with
    | [a,b],_=>exact⟨a,b,Z⟩
  obtain⟨g,i⟩:Fit Tryz.prog _ 3 (cF d 0)/\dz Tryz.prog U _ 3 (cF d 0) (([a,b].drop 0).take<|Tryz.prog.cellsOf 3):=h 0 _ Z;obtain⟨j,k⟩:Fit Tryz.prog _ 3 (cF d 1)/\dz Tryz.prog U _ 3 (cF d 1) (([a,b].drop 1).take<|Tryz.prog.cellsOf 3):=h 1 _ Z;have l:Tryz.prog.cellsOf 3=1:=by kernel_rfl
  have e0:=(iP Tryz.underlying3 g i).1;have e1:=(iP Tryz.underlying3 j k).1;rw[l] at e0 e1;simp only[List.drop_zero,List.take_succ_cons,List.take_zero,List.drop_succ_cons,List.cons.injEq,and_true] at e0 e1;subst e0;subst e1;rfl
theorem Nj {fuel:Nat} {d:DataW H_} {vs:List V} (f:Fit Tryz.prog (fuel+2) 56 d) (i:dz Tryz.prog U (fuel+2) 56 d vs):iU (CI d) vs:=by
  obtain⟨j,h⟩:=gn (m:=5) Tryz.underlying56 Y Y f i
  obtain⟨a,b,c,e,g,rfl⟩:∃a b c e g,vs= [a,b,c,e,g]:=by
    match vs,j with
    | [a,b,c,e,g],_=>exact⟨a,b,c,e,g,Z⟩
  obtain⟨k,l⟩:Fit Tryz.prog _ 3 (cF d 0)/\dz Tryz.prog U _ 3 (cF d 0) (([a,b,c,e,g].drop 0).take<|Tryz.prog.cellsOf 3):=h 0 _ Z;obtain⟨n,o⟩:Fit Tryz.prog _ 3 (cF d 1)/\dz Tryz.prog U _ 3 (cF d 1) (([a,b,c,e,g].drop 1).take<|Tryz.prog.cellsOf 3):=h 1 _ Z;obtain⟨p,q⟩:Fit Tryz.prog _ 3 (cF d 2)/\dz Tryz.prog U _ 3 (cF d 2) (([a,b,c,e,g].drop 2).take<|Tryz.prog.cellsOf 3):=h 2 _ Z;obtain⟨r,s⟩:Fit Tryz.prog _ 2 (cF d 3)/\dz Tryz.prog U _ 2 (cF d 3) (([a,b,c,e,g].drop 3).take<|Tryz.prog.cellsOf 2):=h 3 _ Z;obtain⟨t,u⟩:Fit Tryz.prog _ 2 (cF d 4)/\dz Tryz.prog U _ 2 (cF d 4) (([a,b,c,e,g].drop 4).take<|Tryz.prog.cellsOf 2):=h 4 _ Z;have v:Tryz.prog.cellsOf 3=1:=by kernel_rfl
  have x:Tryz.prog.cellsOf 2=1:=by kernel_rfl
  have e0:=(iP Tryz.underlying3 k l).1;have e1:=(iP Tryz.underlying3 n o).1;have e2:=(iP Tryz.underlying3 p q).1;have e3:=(iP Tryz.underlying2 r s).1;have e4:=(iP Tryz.underlying2 t u).1;rw[v] at e0 e1 e2;rw[x] at e3 e4;simp only[List.drop_zero,List.take_succ_cons,List.take_zero,List.drop_succ_cons,List.cons.injEq,and_true] at e0 e1 e2 e3 e4;subst e0;subst e1;subst e2;subst e3;subst e4;rfl
theorem GH (i:∀(b:Nat) (o:cG),U.m.get b=some o->b<U.next) {fuel:Nat} {d:DataW H_} {vs:List V} (f:Fit Tryz.prog (fuel+5) 26 d) (g:dz Tryz.prog U (fuel+5) 26 d vs):∃a b c e,vs= [a,b,c,e]/\eN (sw U) (Nr d) a b c e:=by
  obtain⟨t,h⟩:=gn (m:=4) Tryz.underlying26 Y Y f g
  obtain⟨a,b,c,e,rfl⟩:∃a b c e,vs= [a,b,c,e]:=by
    match vs,t with
    | [a,b,c,e],_=>exact⟨a,b,c,e,Z⟩
  obtain⟨u,v⟩:Fit Tryz.prog _ 22 (cF d 0)/\dz Tryz.prog U _ 22 (cF d 0) (([a,b,c,e].drop 0).take<|Tryz.prog.cellsOf 22):=h 0 _ Z;obtain⟨y,z⟩:Fit Tryz.prog _ 23 (cF d 1)/\dz Tryz.prog U _ 23 (cF d 1) (([a,b,c,e].drop 1).take<|Tryz.prog.cellsOf 23):=h 1 _ Z;obtain⟨A,C⟩:Fit Tryz.prog _ 24 (cF d 2)/\dz Tryz.prog U _ 24 (cF d 2) (([a,b,c,e].drop 2).take<|Tryz.prog.cellsOf 24):=h 2 _ Z;obtain⟨E,F⟩:Fit Tryz.prog _ 24 (cF d 3)/\dz Tryz.prog U _ 24 (cF d 3) (([a,b,c,e].drop 3).take<|Tryz.prog.cellsOf 24):=h 3 _ Z;have j:Tryz.prog.cellsOf 22=1:=by kernel_rfl
  have k:Tryz.prog.cellsOf 23=1:=by kernel_rfl
  have l:Tryz.prog.cellsOf 24=1:=by kernel_rfl
  have G:Tryz.prog.cellsOf 2=1:=by kernel_rfl
  obtain⟨v0,n,K⟩:=fV (m:=1) m3 dy Tryz.underlying22 G (by decide) i u v fun x vs f g=>(iP Tryz.underlying2 f g).1
  have rowE:∀(x:DataW H_) (vs:List V),Fit Tryz.prog (fuel+3) 57 x->dz Tryz.prog U (fuel+3) 57 x vs->RL (sw U) 5 iU ((eO x).map CI) vs:=fun x vs f g=>
    fV (m:=5) CI iU Tryz.underlying57 Y (by decide) i f g fun x vs f g=>Nj f g
  have rowI:∀(x:DataW H_) (vs:List V),Fit Tryz.prog (fuel+3) 74 x->dz Tryz.prog U (fuel+3) 74 x vs->RL (sw U) 2 iV ((eO x).map xL) vs:=fun x vs f g=>
    fV (m:=2) xL iV Tryz.underlying74 Y (by decide) i f g fun x vs f g=>Nk f g
  obtain⟨v1,p,L⟩:=fV (m:=1) (fun r=>(eO r).map CI) (RL (sw U) 5 iU) Tryz.underlying23 Y (by decide) i y z rowE;obtain⟨v2,q,M⟩:=fV (m:=1) (fun r=>(eO r).map xL) (RL (sw U) 2 iV) Tryz.underlying24 Y (by decide) i A C rowI;obtain⟨v3,s,P⟩:=fV (m:=1) (fun r=>(eO r).map xL) (RL (sw U) 2 iV) Tryz.underlying24 Y (by decide) i E F rowI;rw[j] at n;rw[k] at p;rw[l] at q s;simp only[List.drop_zero,List.take_succ_cons,List.take_zero,List.drop_succ_cons,List.cons.injEq,and_true] at n p q s;subst n;subst p;subst q;subst s;exact⟨_,_,_,_,Z,K,L,M,P⟩
theorem jc.up:∀{k:Nat} {x:XE},jc k x->jc (k+1) x
  | 0,_,h=>h.elim
  | _+1,.mk _ _ _ _,⟨a,b⟩=>⟨a,fun y c=>jc.up (b y c)⟩
theorem qO {α:Type} {K:KP} {m:Nat} {R:α->List V->Prop} {l:List α} {v:V} (h:bR K m R l v):∀x∈l,∃vs,R x vs:=fun x a=>by
  obtain⟨i,b⟩:=gO_ a;obtain⟨_,_,_,vs,_,_,_,_,c⟩:=h.at b;exact⟨vs,c⟩
theorem BI (f:∀(b:Nat) (o:cG),U.m.get b=some o->b<U.next):∀(fuel:Nat) (d:DataW H_) (vs:List V),Fit Tryz.prog fuel 82 d->dz Tryz.prog U fuel 82 d vs->jc fuel (Ax fuel d)
  | 0,_,_,a,_=>a.elim
  | 1,d,vs,a,c=>by
    obtain⟨_,h⟩:=gn (m:=4) Tryz.underlying82 Y Y a c;exact(h 0 _ Z).1.elim
  | fuel+2,d,vs,a,c=>by
    obtain⟨hl,h⟩:=gn (m:=4) Tryz.underlying82 Y Y a c;obtain⟨g,d2⟩:Fit Tryz.prog _ 9 (cF d 2)/\_:=h 2 _ Z;obtain⟨i,j⟩:Fit Tryz.prog _ 77 (cF d 3)/\dz Tryz.prog U _ 77 (cF d 3) _:=h 3 _ Z;obtain⟨v,e3,k⟩:=fV (m:=4) (Ax fuel) (fun x _=>jc fuel x) Tryz.underlying77 Y (by decide) f i j fun x vs a c=>BI f fuel x vs a c
    exact⟨Lu Tryz.underlying9 g,fun y l=>by obtain⟨_,e⟩:=qO k y l;exact e.up⟩
theorem It (f:∀(b:Nat) (o:cG),U.m.get b=some o->b<U.next) (fuel:Nat) (d:DataW H_) (vs:List V) (a:Fit Tryz.prog (fuel+2) 79 d) (c:dz Tryz.prog U (fuel+2) 79 d vs):∀e∈(JL fuel d).exprs,jc fuel e:=by
  obtain⟨hl,h⟩:=gn (m:=6) Tryz.underlying79 Y Y a c;obtain⟨g,i⟩:Fit Tryz.prog _ 77 (cF d 5)/\dz Tryz.prog U _ 77 (cF d 5) _:=h 5 _ Z;obtain⟨v,e5,j⟩:=fV (m:=4) (Ax fuel) (fun x _=>jc fuel x) Tryz.underlying77 Y (by decide) f g i fun x vs a c=>BI f fuel x vs a c
  exact fun e he=>by obtain⟨_,h⟩:=qO j e he;exact h
theorem Is (f:∀(b:Nat) (o:cG),U.m.get b=some o->b<U.next) (fuel:Nat) (d:DataW H_) (vs:List V) (a:Fit Tryz.prog (fuel+4) 33 d) (c:dz Tryz.prog U (fuel+4) 33 d vs):mn fuel (CH fuel d):=by
  obtain⟨hl,h⟩:=gn (m:=2) Tryz.underlying33 Y Y a c;obtain⟨g,i⟩:Fit Tryz.prog _ 31 (cF d 1)/\dz Tryz.prog U _ 31 (cF d 1) _:=h 1 _ Z;obtain⟨v,e1,j⟩:=fV (m:=6) (JL fuel) (fun x _=>∀e∈x.exprs,jc fuel e) Tryz.underlying31 Y (by decide) f g i fun x vs a c=>It f fuel x vs a c
  exact fun x k=>by obtain⟨_,h⟩:=qO j x k;exact h
theorem Gx (f:∀(b:Nat) (o:cG),U.m.get b=some o->b<U.next) (fuel:Nat) (d:DataW H_) (vs:List V) (a:Fit Tryz.prog (fuel+5) 27 d) (e:dz Tryz.prog U (fuel+5) 27 d vs):∀c∈(eO d).map (CH fuel),mn fuel c:=by
  obtain⟨v,e1,g⟩:=fV (m:=2) (CH fuel) (fun x _=>mn fuel x) Tryz.underlying27 Y (by decide) f a e fun x vs a e=>Is f fuel x vs a e
  exact fun c i=>by obtain⟨_,h⟩:=qO g c i;exact h
end
section
variable {H_:Type} {enc:TypeId×Value->H_} {w:World}
theorem trod_int {fuel:Nat} {t:TypeId} {cs:List Value} {x:DataW H_×List MemPlace} (hu:Tryz.prog.underlying t=some (.int .i64)) (h:DataW.trod enc Tryz.prog w 0 (fun _=>true) true fuel t cs=some x):∃n,cs= [.int .i64 n]:=by
  cases fuel with
  | zero=>simp[DataW.trod] at h
  | succ fuel=>
    unfold DataW.trod at h;rw[hu] at h;dsimp only at h;split at h<;>first | (rename_i he;cases he;done) | skip
    all_goals first
      | (rename_i k1 k2 n he
         cases he;split at h
         · rename_i b
           obtain⟨a,_⟩:=b;subst a;exact⟨n,Z⟩
         · cases h)
      | cases h
def NT (w:World) (v:Value):Prop:=v= .slice none 0 0∨∃(a:Addr) (len cap:Nat) (c:Array Value) (e:TypeId) (fr:Nat×Nat),v= .slice (some a) len cap/\w.heap[a.block]?=some (.cells c e fr)
theorem I0 {base:Nat} {t e:TypeId} {v:Value} (hu:Tryz.prog.underlying t=some (.slice e)) (b:Cell.okWide Tryz.prog w .any base t v):NT w v:=by
  unfold Cell.okWide at b;rw[hu] at b;dsimp only at b;unfold Cell.ok at b;rw[hu] at b;cases v with
  | slice a len cap=>
    cases a with
    | none=>
      try dsimp only at b
      split at b<;>first | (rename_i he;cases he;done) | skip
      all_goals first
        | (rename_i he;cases he;exact .inl Z)
        | (rename_i h1 f;cases f;done)
        | exact b.elim
    | some a=>
      obtain⟨_,_,_,aa,row,cells,d,_⟩:=b;unfold World.shape? at d;split at d
      · rename_i c e fr g
        exact .inr ⟨a,len,cap,c,e,fr,Z,g⟩
      · cases d
  | _=>exact b.elim
theorem trodAll_cons {P:Program} {ts:List TypeId} {t:TypeId} {vs:List Value} {ds:List (DataW H_)} {ps:List MemPlace} {sp:Nat->Bool} (h:DataW.TrodAll enc P w 0 sp true (t::ts) vs ds ps):
    ∃v vs' d ds',vs=v::vs'/\ds=d::ds'/\(∃n p,DataW.trod enc P w 0 sp true n t v.cells.toList=some (d,p))/\∃q,DataW.TrodAll enc P w 0 sp true ts vs' ds' q:=by
  match vs,ds,h with
  | v::vs',d::ds',⟨p,q,⟨n,a⟩,b,_⟩=>exact⟨v,vs',d,ds',Z,Z,⟨n,p,a⟩,q,b⟩
theorem trodAll_nil {P:Program} {vs:List Value} {ds:List (DataW H_)} {ps:List MemPlace} {sp:Nat->Bool} (h:DataW.TrodAll enc P w 0 sp true [] vs ds ps):vs= []/\ds= []:=by
  match vs,ds,h with
  | [],[],_=>exact⟨Z,Z⟩
end
theorem Jh {α:Type} {m E b e:Nat} {R:α->List V->Prop} {x:α} {vs:List V} (hm:vs.length=m) (a:R x vs):cQ m E R [x] (.slice b 0 1 (.known 1)) [(b,.row vs e false)]:=
 .inr ⟨b,.known 1,vs,e,Z,Z,by rw[hm];simp,fun i y h=>by
  cases i with
  | zero=>cases h;rw[Nat.zero_mul,List.drop_zero,tL_ B];exact a
  | succ i=>simp at h,.inl Z,by show 1<=1048576;decide⟩
theorem nR {G:Cx} (r:Plain G) {K:KP} {g:XG} {a b c d:V} (p:eN K g a b c d) (loc:Int) {U:D} {L:Own} (aq:J U K L):
  bk Tryz.prog G 57 [.agg [a,b,c,d],.int .i64 loc] U fun v U'=>∃M,cQ 2 67 iV (cu g loc) v M/\J U' K (M++L):=by
 refine PS r Tryz.func57 Z<|Pt 2 Z<|kp aq Z (cz Z Z) (fun U b1 aq=>?_);refine On 6 Z<|O Z (QC Z aq.g0 (n:=4) (vs:=[_,_,_,_]) Z) Z<|bf Z (Qz Z Z Z) (fun _=>Z) (ox r p aq) (fun U aq=>?_);refine vQ 1 Z<|ky Z (an Z) (fun j=>?_) (fun j=>?_)
 ·refine OQ 20 Z ?_;exact aA Z Z ⟨[],.inl ⟨po<|bT j,Z,Z⟩,aq.pop⟩
 refine PZ 3 Z<|ky Z (an Z) (fun h=>?_) (fun h=>?_)
 ·refine OQ 16 Z ?_;exact aA Z Z ⟨[],.inl ⟨qA h,Z,Z⟩,aq.pop⟩
 refine P3 aq 3 [0,0] Z Z<|O Z (QD p.init Z Z Z (e:=2) Z) Z<|Pv 4 Z<|aE Z (fun i=>?_) (fun i=>?_)
 ·obtain⟨ln,rfl⟩:=iQ h;refine Pu 7 Z ?_;exact aA Z Z ⟨[],.inl ⟨qz (by rw[(cK<|sH<|bj j).2.2.2.2.1];exact nZ i),Z,Z⟩,aq.pop⟩
 obtain⟨ln,rfl⟩:=iQ h;refine OK 5 Z (O Z (Qy (places:=[(0,1),(1,1)]) (zero:=[T,T]) (cs:=[_,_]) Z) Z<|gT aq Z (bY (e:=67) (m:=2) (z:=[T,T]) (cs:=[_,_]) Y Y Y Y<|bD Z Z Z Z bJ) (fun _=>Z) (fun U s aq=>?_));replace aq:J U _ ([(s,.row _ 67 false)]++_):=aq;refine O Z (QA 3 Z) Z<|O Z (QB Z aq.aQ.g0 Z) Z<|vQ 1 Z ?_;obtain⟨ac,f⟩:=cm (show ln<g.order.length from by rw[(cK<|sH<|bj j).2.2.2.2.1];exact n8 i);refine Qu (e:=74) (m:=1) p.order f Z Z Z Z (fun ag aa k ab l=>?_);have hr25':=l;obtain⟨am,rfl,o⟩:=hr25';refine O Z (QF aq k Z Z) Z (tW (R:=iV) (m:=2) (e:=67) (Jh (m:=2) (R:=iV) (x:=⟨0,.ofNat ln⟩) Z Z) aq o iV.leaf (by have:=j0 (sH<|bj j) _ (gB_ f);show 1+_<=_;omega) Z Z Z Z Z Z Z (fun _=>Z) (fun U ao q hO27 aq=>?_));refine Px 4 Z ?_;exact aA Z Z ⟨q,by rw[ez (bj j) f];exact hO27,aq.sub<|dH (.cons _ (.refl _))⟩
theorem MC {G:Cx} (o:Plain G) {K:KP} {g:XG} {a b c d:V} (p:eN K g a b c d) (loc:Int) {U:D} {L:Own} (aq:J U K L):
  bk Tryz.prog G 60 [.agg [a,b,c,d],.int .i64 loc] U fun v U'=>v= .int .i64 (jq g loc)/\J U' K L:=by
 refine PS o Tryz.func60 Z<|Pt 2 Z<|kp aq Z (cz Z Z) (fun U b1 aq=>?_);refine OO 5 Z<|O Z (QC Z aq.g0 (n:=4) (vs:=[_,_,_,_]) Z) Z<|vQ 1 Z<|cH Z (Qz Z Z Z) (fun _=>Z) (nR o p _ aq) ?_;rintro ac U ⟨ag,hM10,aq⟩;obtain⟨q,hle,i,aq⟩:=aq.fy;have hw:=hM10.kq (K:=q) fun y r=>i _ r;have hg1:=p.mono hle;have hb9:=aq.get 0 Z
 refine On 7 Z<|O Z (QD hw Z Z Z (e:=67) Z) Z<|Pv 3 Z<|aE Z (fun f=>?_) (fun f=>?_)
 ·refine Pu 7 Z ?_;exact aA Z Z ⟨cJ (by unfold jq;rw[List.getLast?_eq_none_iff.2<|eN_<|iJ_<|eqv (b:=.ofNat 0) f]),(aq.pop).weaken hle⟩
 refine OJ 3 Z (aS (l:=[(0,[]),(1,[]),(2,[]),(3,[]),(4,[]),(5,[]),(6,[]),(11,[]),(7,[11]),(8,[]),(9,[]),(10,[]),(12,[]),(13,[])]) Y Y<|al Z Z (QC Z aq.g0 (n:=4) (vs:=[_,_,_,_]) Z) Z<|P1 2 Z<|al Z Z (QD hw Z Z Z (e:=67) Z) Z<|wQ 1 Z ?_);have am:0<(cu g loc).length:=by rcases Nat.eq_zero_or_pos (cu g loc).length with e | e;(rw[e] at f;cases f);exact e
 obtain⟨ao,h⟩:=cm (show(cu g loc).length-1<(cu g loc).length from by omega);refine Qv (e:=67) (m:=2) hw h Z Z Z Z (cI<|kY (b:=1) B hw.bG) (fun ap aa j ab k=>?_);obtain rfl:=k;refine al Z Z (QG aq j Z Z) Z<|pB aq Z Z (QE (cs:=[T,T,T,T,T])) (fun _=>Z) (fun U b2 aq=>?_);refine cA Z Z (Qz Z Z Z) (fun _=>Z) (tv o hg1 _ _ aq) (fun U aq=>?_);refine⟨(bB (iq Z Z Z Z Z (cs:=[T,T,T,T,T]) (e:=56) Y aq.g0 Y) aV),?_⟩;refine P1 3 Z<|kb aq Z Z (QH Z Z Z aq.g0 (m:=5) Z Z (cells':=[_,_,_,_,_]) Z) Z (fun U aq=>?_);refine⟨aV,?_⟩;refine OS 4 Z<|PB aq 7 [4,0] Z Z ?_;exact aA Z Z ⟨cJ (by unfold jq;rw[List.getLast?_eq_getElem?,h]),(aq.pop.pop).weaken hle⟩
theorem xC {α:Type} {o:Option α} {d:α} (h:(!o.isSome)=false):o=some (o.getD d):=by
 cases o with
 | none=>cases h
 | some x=>rfl
theorem I8 {α:Type} {o:Option α} (h:(!o.isSome)=true):o=none:=by
 cases o with
 | none=>rfl
 | some x=>cases h
theorem MZ {k:Nat} {l:List XC} {m:List Int} {g:XG} (h:fl k l g=none):yc k l m g=false:=by unfold yc jm;rw[h];rfl
theorem wO {k:Nat} {l:List XC} {m:List Int} {g:XG} {e:List Int} (h:fl k l g=some e):yc k l m g=bif aX (I (.ofNat m.length) (.ofNat g.init.length)) then false else lL g m 0:=by
 unfold yc jm;rw[h];dsimp only;cases aX (I (.ofNat m.length) (.ofNat g.init.length)) with
 | true=>rfl
 | false=>cases lL g m 0<;>rfl
theorem Ku {G:Cx} (y:Plain G) {K:KP} {k:Nat} {l:List XC} {lv:V} (E:bR K 2 (mY K k) l lv) (F:AR k l) {m:List Int} {mv:V} (f:bR K 1 dy m mv) {g:XG} {a b c d:V} (z:eN K g a b c d) {U:D} {L:Own} (aq:J U K L):
  bk Tryz.prog G 24 [lv,.agg [mv,a,b,c,d]] U fun v U'=>v= .bool (yc k l m g)/\J U' K L:=by
 refine PS y Tryz.func24 Z<|Pt 2 Z<|kp aq Z (cz Z Z) (fun U M aq=>?_);refine OX aq 7 [1] Z Z<|O Z (QC Z aq.g0 (n:=4) (vs:=[_,_,_,_]) Z) Z<|cH Z (Qz Z Z Z) (fun _=>Z) (HU y E F z aq) ?_;rintro _ U ⟨ag,A,rfl,hO12,aq⟩;refine On 11 Z<|O Z (cV Z) Z<|ky Z (an Z) (fun h=>?_) (fun h=>?_)
 ·refine OQ 19 Z ?_;exact aA Z Z ⟨cB (by rw[MZ<|I8 h]),aq.aQ.pop⟩
 refine O Z (QA 0 Z) Z<|O Z (QB Z aq.aQ.g0 Z) Z<|O Z (QD f Z Z Z (e:=2) Z) Z<|P3 aq 2 [1,0] Z Z<|O Z (QB Z aq.aQ.g0 Z) Z<|O Z (QD z.init Z Z Z (e:=2) Z) Z<|Pv 4 Z<|aE Z (fun q=>?_) (fun q=>?_)
 ·refine Pu 7 Z ?_;have hsg:=xC (d:=[]) h;exact aA Z Z ⟨cB (by rw[wO hsg,show aX (I (.ofNat m.length) (.ofNat g.init.length))=true from q];rfl),aq.aQ.pop⟩
 refine Ok 9 Z (bp ([4,7]++rg 27 17) (fun j t U=>∃(i:Nat),j+i=m.length/\lL g m 0=lL g (m.drop i) i/\t.get 7=some (.int .i64 (.ofNat i))/\J U K (A++(M,.row [mv,a,b,c,d] 44 false)::L)) (m.length) ⟨0,Z,Z,Z,aq⟩ ?_);clear aq;intro P t U ar Q;obtain⟨i,am,s,C,aq⟩:=Q;obtain⟨oo,rfl⟩:=ar.q1 C Z;refine OU aq 5 [0] Z Z<|O Z (QB Z aq.aQ.g0 Z) Z<|O Z (QD f Z Z Z (e:=2) Z) Z<|Pv 3 Z<|aE Z (fun o=>?_) (fun o=>?_)
 ·refine NO 5 Z (aS (l:=[(0,[]),(1,[]),(2,[]),(3,[]),(4,[]),(5,[]),(6,[]),(7,[]),(8,[1,4]),(9,[])]) Y Y<|al Z Z (QA 0 Z) Z<|al Z Z (QB Z aq.aQ.g0 Z) Z<|wQ 1 Z ?_);obtain⟨w,p,aa⟩:=cL o;refine Qv (e:=2) (m:=1) f p Z Z Z Z Z (fun ao ab r ac x=>?_);obtain rfl:=x;refine al Z Z (QF aq r Z Z) Z<|al Z Z (QA 1 Z) Z<|al Z Z (QC Z aq.aQ.g0 (n:=4) (vs:=[_,_,_,_]) Z) Z<|wQ 1 Z<|cA Z Z (Qz Z Z Z) (fun _=>Z) (MC y z _ aq) (fun U aq=>?_);refine⟨(bB (bN Z Z Z Z Z (QB Z aq.aQ.g0 Z) f.dX)<|bB (bN Z Z Z Z Z (QF aq r Z Z)<|jk _ _) aV),?_⟩;refine Py 3 Z<|aE Z (fun u=>?_) (fun u=>?_)
  ·refine PX 6 Z<|aF<|aw<|bz<|aF<|aw (?_);have hsg:=xC (d:=[]) h;exact aA Z Z ⟨cB (by rw[wO hsg,show aX (I (.ofNat m.length) (.ofNat g.init.length))=false from q,cf,s,cR p];unfold lL;rw[show aX (I w<|jq g (.ofNat i))=true from u];rfl),aq.aQ.pop⟩
  refine aG<|aJ<|PW 5 Z<|aO ⟨P-1,(by have:=bu o;omega),oF,i+1,(by have:=bu o;omega),(by rw[s,cR p];show(bif _ then _ else _)=_;rw[show aX (I w<|jq g (.ofNat i))=false from u];rfl),cI<|bg (by have:=f.bG;omega),aq⟩
 refine OL 3 Z<|aT<|PX 6 Z ?_;have hsg:=xC (d:=[]) h;exact aA Z Z ⟨cB (by rw[wO hsg,show aX (I (.ofNat m.length) (.ofNat g.init.length))=false from q,cf,s,List.drop_eq_nil_iff.2<|bC o];rfl),aq.aQ.pop⟩
def sN (k:Nat) (l:List XC) (m:List Int) (g:XG):Bool:=bif yc k l m g then((fl k l g).getD []).all (fun e=>aX (I e 0)) else false
theorem HV {G:Cx} (u:Plain G) {K:KP} {k:Nat} {l:List XC} {lv:V} (z:bR K 2 (mY K k) l lv) (A:AR k l) {m:List Int} {mv:V} (w:bR K 1 dy m mv) {g:XG} {a b c d:V} (C:eN K g a b c d) {U:D} {L:Own} (aq:J U K L):
  bk Tryz.prog G 26 [lv,.agg [mv,a,b,c,d]] U fun v U'=>v= .bool (sN k l m g)/\J U' K L:=by
 refine PS u Tryz.func26 Z<|Pt 2 Z<|kp aq Z (cz Z Z) (fun U F aq=>?_);refine On 7 Z<|O Z (QC Z aq.g0 (n:=5) (vs:=[_,_,_,_,_]) Z) Z<|bf Z (Qz Z Z Z) (fun _=>Z) (Ku u z A w C aq) (fun U aq=>?_);refine O Z (cV Z) Z<|Pv 2 Z<|aE Z (fun o=>?_) (fun o=>?_)
 ·refine Pu 7 Z ?_;exact aA Z Z ⟨cB (by unfold sN;rw[show yc k l m g=false from kA o];rfl),aq.pop⟩
 refine OV aq 6 [1] Z Z<|O Z (QC Z aq.g0 (n:=4) (vs:=[_,_,_,_]) Z) Z<|cH Z (Qz Z Z Z) (fun _=>Z) (HU u z A C aq) ?_;rintro _ U ⟨ag,x,rfl,hO16,aq⟩;replace aq:=aq.keeps;have hE:=hO16.iu (K:=K);refine Om 14 Z (bp ([4,7]++rg 19 11) (fun j t U=>∃(i:Nat),j+i=((fl k l g).getD []).length/\(((fl k l g).getD []).take i).all (fun e=>aX (I e 0))=true/\t.get 7=some (.int .i64 (.ofNat i))/\J U (K.ic x) ((F,.row [mv,a,b,c,d] 44 false)::L)) (((fl k l g).getD []).length) ⟨0,Z,Z,Z,aq⟩ ?_);clear aq;intro M t U ar P;obtain⟨i,am,E,y,aq⟩:=P;obtain⟨oo,rfl⟩:=ar.q1 y Z;refine OI 5 Z<|O Z (QD hE Z Z Z (e:=3) Z) Z<|Pv 3 Z<|aE Z (fun f=>?_) (fun f=>?_)
 ·refine NP 8 Z ?_;obtain⟨q,h,aa⟩:=cL f;refine Qu (e:=3) (m:=1) hE h Z Z Z Z (fun ao ab r ac s=>?_);obtain rfl:=s;refine O Z (QF aq r Z Z) Z<|Pv 3 Z<|aE Z (fun p=>?_) (fun p=>?_)
  ·refine PX 6 Z<|aF<|aw<|bz<|aF<|aw (?_);exact aA Z Z ⟨cB (by unfold sN;rw[show yc k l m g=true from eV o];rw[gG h (by show aX (I q 0)=false;rw[p];rfl)];rfl),(aq.pop).weaken<|KP.bX _ _⟩
  refine aG<|aJ<|PW 5 Z<|aO ⟨M-1,(by have:=bu f;omega),oF,i+1,(by have:=bu f;omega),eR E h (by show aX (I q 0)=true;rw[p];rfl),cI<|bg (by have:=hE.bG;omega),aq⟩
 refine OL 3 Z<|aT<|PX 6 Z ?_;exact aA Z Z ⟨cB (by unfold sN;rw[show yc k l m g=true from eV o];rw[dR E<|bC f];rfl),(aq.pop).weaken<|KP.bX _ _⟩
def RU (u:V) (vs:List V):Prop:=vs= [u]/\cS u=some [u]/\iB u=true
theorem RU.leaf:∀x vs,RU x vs->cD vs=true:=fun u _ h=>by
 obtain⟨rfl,_,a⟩:=h;exact ah a aC
def NS (g:XG):Prop:=g.init.length<=1000/\g.threads.length<=1000/\(∀l∈g.threads,l.length<=1000)/\g.from_.length<=1000/\(∀l∈g.from_,l.length<=1000)/\g.order.length<=1000/\(∀l∈g.order,l.length<=1000)
theorem KK {g:XG} (h:cd g=0):NS g:=by
 obtain⟨h1,h2,b,c,h5,d,_⟩:=cK h;exact⟨by omega,by omega,fun l a=>by have:=b l a;omega,by omega,fun l a=>by have:=mS d c b l a;omega,by omega,fun l a=>by have:=j0 h l a;omega⟩
structure AU (g:XG) (u0:V) (M0:Own) (u1:V) (us1:List V) (O1 I1:Own) (u2:V) (us2:List V) (O2 I2:Own) (u3:V) (us3:List V) (O3 I3:Own):Prop where
 init:cQ 1 2 dy g.init u0 M0
 threads:fH 5 56 iU g.threads us1 I1
 from_:fH 2 67 iV g.from_ us2 I2
 order:fH 2 67 iV g.order us3 I3
 o1:cQ 1 57 RU us1 u1 O1
 o2:cQ 1 74 RU us2 u2 O2
 o3:cQ 1 74 RU us3 u3 O3
abbrev Pq (M0 O1 I1 O2 I2 O3 I3 L:Own):Own:=O3++(I3++(O2++(I2++(O1++(I1++(M0++L))))))
theorem MA {G:Cx} (hG:Plain G) {K:KP} {g:XG} {a b c d:V} (x:eN K g a b c d) (a3:NS g) {U:D} {L:Own} (aq:J U K L):
  bk Tryz.prog G 95 [.agg [a,b,c,d]] U fun v U'=>∃u0 M0 A f C o u2 h O2 y u3 k O3 E,v= .agg [u0,A,u2,u3]/\AU g u0 M0 A f C o u2 h O2 y u3 k O3 E/\J U' K (Pq M0 C o O2 y O3 E L):=by
 obtain⟨ce,cg,a4,ch,a5,ci,a6⟩:=a3;refine PS hG Tryz.func95 Z<|Pt 2 Z<|kp aq Z (cz Z Z) (fun U b1 aq=>?_);refine kp aq Z (QE (cs:=[.ax,.ax,.ax,.ax])) (fun U b2 aq=>?_);refine OO 4 Z<|gT aq Z (bY (e:=2) (m:=1) (z:=[T]) (cs:=[]) Y Y Y Y bJ) (fun _=>Z) (fun U b3 aq=>?_);replace aq:J U _ ([(b3,.row [] 2 false)]++_):=aq;refine O Z (QA 0 Z) Z<|O Z (QB Z aq.aQ.pop.g0 Z) Z<|tW (R:=dy) (m:=1) (e:=2) cQ.empty aq x.init dy.leaf (by show 0+_<=_;omega) Z Z Z Z Z Z Z (fun _=>Z) (fun U F M hO10 aq=>?_);refine O Z (bF (places:=[(0,1),(1,1),(2,1),(3,1)]) (zero:=[.ax,.ax,.ax,.ax]) (cs:=[_,_,_,_]) Y Y Y (bD Z Z hO10.leaf.1 Z bJ) Y) Z<|kp aq Z (QE (cs:=[.ax,.ax,.ax,.ax])) (fun U b4 aq=>?_);refine bO aq Z (QH Z Z Z aq.g0 (m:=4) Z (ah hO10.leaf.2 Z) (cells':=[_,_,_,_]) Z) Z (fun U aq=>?_);refine Om 9 Z (bp ([4]++rg 12 19) (fun j t U=>∃(i:Nat) (A:V) (f:List V) (C o:Own),j+i=g.threads.length/\fH 5 56 iU (g.threads.take i) f o/\cQ 1 57 RU f A C/\t.get 4=some (.int .i64 (.ofNat i))/\J U K (C++(o++((b4,.row [F,A,.ax,.ax] 26 false)::(M++((b2,.row [.ax,.ax,.ax,.ax] 26 false)::(b1,.row [a,b,c,d] 26 false)::L)))))) (g.threads.length) ⟨0,.ax,[],[],[],Z,.nil,cQ.nil,Z,aq⟩ ?_);clear aq;intro j3 t U ar hI;obtain⟨i,A,f,C,o,ck,hI1,hO1,a7,aq⟩:=hI;obtain⟨oo,rfl⟩:=ar.q1 a7 Z;refine OU aq 5 [1] Z Z<|O Z (QB Z aq.aQ.aQ.pop.aQ.pop.g0 Z) Z<|O Z (QD x.threads Z Z Z (e:=57) Z) Z<|Pv 3 Z<|aE Z (fun p=>?_) (fun p=>?_)
 ·refine Ok 4 Z (aS (l:=[(0,[]),(1,[]),(2,[]),(3,[]),(4,[]),(5,[]),(6,[]),(7,[]),(8,[1]),(9,[]),(10,[]),(11,[]),(12,[])]) Y Y<|al Z Z (QA 1 Z) Z<|al Z Z (QB Z aq.aQ.aQ.g0 Z) Z<|j1 aq Z Z (bY (e:=56) (m:=5) (z:=[T,T,T,T,T]) (cs:=[]) Y Y Y Y bJ) (fun _=>Z) (fun U b5 aq=>?_));replace aq:J U _ ([(b5,.row [] 56 false)]++_):=aq;refine al Z Z (QA 1 Z) Z<|al Z Z (QB Z aq.aQ.aQ.aQ.pop.aQ.pop.g0 Z) Z<|wQ 1 Z ?_;obtain⟨cl,q,bt⟩:=cL p;refine Qv (e:=57) (m:=1) x.threads q Z Z Z Z Z (fun cn bv aa bw ab=>?_);have hr25':=ab;obtain⟨co,rfl,ac⟩:=hr25';refine al Z Z (QF aq aa Z Z) Z (kL (R:=iU) (m:=5) (e:=56) cQ.empty aq ac iU.leaf (by have:=a4 _ (gB_ q);show 0+_<=_;omega) Z Z Z Z Z Z Z Z (fun _=>Z) (fun U P ag hO27 aq=>?_));refine⟨(bB (bN Z Z Z Z Z (QB Z aq.aQ.aQ.aQ.g0 Z) (hO1.iu (K:=fun _ _=>False)).dX) aV),?_⟩;refine j1 aq Z Z (bY (e:=57) (m:=1) (z:=[.ax]) (cs:=[P]) Y Y Y Y<|bD Z Z hO27.leaf.1 Z bJ) (fun _=>Z) (fun U b6 aq=>?_);replace aq:=aq.pull (.there (.cM .here));replace aq:=aq.pull (.cM<|ep.here (X:=[_]));refine mN (R:=RU) (m:=1) (e:=57) hO1 aq (eU (m:=1) Z (show RU P [P] from⟨Z,hO27.leaf⟩)) RU.leaf (by have h1:=hI1.length;rw[lT_] at h1;show _+1<=_;omega) Z Z Z Z Z Z Z Z (fun _=>Z) (fun U a8 a9 hO29 aq=>?_);refine⟨aV,?_⟩;refine al Z Z (QA 1 Z) Z<|gD aq (.cM (.cM (.cM .here))) Z Z (aL Z Z hO29.leaf.1 aq.aQ.aQ.aQ.g0 (m:=1) Y Z (lb Z) (ah hO29.leaf.2 aC) (cells':=[_,_,_,_]) Z) Z (fun U aq=>?_);refine⟨aV,?_⟩;refine ba<|aJ<|ad<|ai Z ?_;rw[<-lQ_ ag o] at aq;refine PY 4 Z<|aO ⟨j3-1,(by have:=bu p;omega),oF,i+1,a8,f++[P],a9,ag++o,(by have:=bu p;omega),(by rw[List.take_add_one,q];exact .snoc hI1 hO27),hO29,cI<|bg (by have:=x.threads.bG;omega),aq⟩
 refine OL 3 Z (aT (OH 7 Z (bp ([5]++rg 31 19) (fun j t U=>∃(i:Nat) (u2:V) (h:List V) (O2 y:Own),j+i=g.from_.length/\fH 2 67 iV (g.from_.take i) h y/\cQ 1 74 RU h u2 O2/\t.get 5=some (.int .i64 (.ofNat i))/\J U K (O2++(y++(C++(o++((b4,.row [F,A,u2,.ax] 26 false)::(M++((b2,.row [.ax,.ax,.ax,.ax] 26 false)::(b1,.row [a,b,c,d] 26 false)::L)))))))) (g.from_.length) ⟨0,.ax,[],[],[],Z,.nil,cQ.nil,Z,aq⟩ ?_)));clear aq;intro j7 t U ar hI;obtain⟨i,u2,h,O2,y,cp,hI2,hO2,bb,aq⟩:=hI;obtain⟨oo,rfl⟩:=ar.q1 bb Z;refine OU aq 5 [2] Z Z<|O Z (QB Z aq.aQ.aQ.aQ.aQ.pop.aQ.pop.g0 Z) Z<|O Z (QD x.from_ Z Z Z (e:=74) Z) Z<|Pv 3 Z<|aE Z (fun r=>?_) (fun r=>?_)
 ·refine Ok 4 Z (aS (l:=[(0,[]),(1,[]),(2,[]),(3,[]),(4,[]),(5,[]),(6,[]),(7,[]),(8,[1]),(9,[]),(10,[]),(11,[]),(12,[])]) Y Y<|al Z Z (QA 2 Z) Z<|al Z Z (QB Z aq.aQ.aQ.aQ.aQ.g0 Z) Z<|j1 aq Z Z (bY (e:=67) (m:=2) (z:=[T,T]) (cs:=[]) Y Y Y Y bJ) (fun _=>Z) (fun U b5 aq=>?_));replace aq:J U _ ([(b5,.row [] 67 false)]++_):=aq;refine al Z Z (QA 2 Z) Z<|al Z Z (QB Z aq.aQ.aQ.aQ.aQ.aQ.pop.aQ.pop.g0 Z) Z<|wQ 1 Z ?_;obtain⟨cv,s,b0⟩:=cL r;refine Qv (e:=74) (m:=1) x.from_ s Z Z Z Z Z (fun cx b7 am b8 ao=>?_);have hr44':=ao;obtain⟨c0,rfl,ap⟩:=hr44';refine al Z Z (QF aq am Z Z) Z (kL (R:=iV) (m:=2) (e:=67) cQ.empty aq ap iV.leaf (by have:=a5 _ (gB_ s);show 0+_<=_;omega) Z Z Z Z Z Z Z Z (fun _=>Z) (fun U Q aI hO46 aq=>?_));refine⟨(bB (bN Z Z Z Z Z (QB Z aq.aQ.aQ.aQ.aQ.aQ.g0 Z) (hO2.iu (K:=fun _ _=>False)).dX) aV),?_⟩;refine j1 aq Z Z (bY (e:=74) (m:=1) (z:=[.ax]) (cs:=[Q]) Y Y Y Y<|bD Z Z hO46.leaf.1 Z bJ) (fun _=>Z) (fun U b6 aq=>?_);replace aq:=aq.pull (.there (.cM .here));replace aq:=aq.pull (.cM<|ep.here (X:=[_]));refine mN (R:=RU) (m:=1) (e:=74) hO2 aq (eU (m:=1) Z (show RU Q [Q] from⟨Z,hO46.leaf⟩)) RU.leaf (by have h1:=hI2.length;rw[lT_] at h1;show _+1<=_;omega) Z Z Z Z Z Z Z Z (fun _=>Z) (fun U be bi hO48 aq=>?_);refine⟨aV,?_⟩;refine al Z Z (QA 2 Z) Z<|gD aq (.cM (.cM (.cM (.cM (.cM .here))))) Z Z (aL Z Z hO48.leaf.1 aq.aQ.aQ.aQ.aQ.aQ.g0 (m:=1) Y Z (lb Z) (ah hO48.leaf.2 aC) (cells':=[_,_,_,_]) Z) Z (fun U aq=>?_);refine⟨aV,?_⟩;refine ba<|aJ<|ad<|ai Z ?_;rw[<-lQ_ aI y] at aq;refine PY 4 Z<|aO ⟨j7-1,(by have:=bu r;omega),oF,i+1,be,h++[Q],bi,aI++y,(by have:=bu r;omega),(by rw[List.take_add_one,s];exact .snoc hI2 hO46),hO48,cI<|bg (by have:=x.from_.bG;omega),aq⟩
 refine OL 3 Z (aT (OH 7 Z (bp ([6]++rg 50 19) (fun j t U=>∃(i:Nat) (u3:V) (k:List V) (O3 E:Own),j+i=g.order.length/\fH 2 67 iV (g.order.take i) k E/\cQ 1 74 RU k u3 O3/\t.get 6=some (.int .i64 (.ofNat i))/\J U K (O3++(E++(O2++(y++(C++(o++((b4,.row [F,A,u2,u3] 26 false)::(M++((b2,.row [.ax,.ax,.ax,.ax] 26 false)::(b1,.row [a,b,c,d] 26 false)::L)))))))))) (g.order.length) ⟨0,.ax,[],[],[],Z,.nil,cQ.nil,Z,aq⟩ ?_)));clear aq;intro bl t U ar hI;obtain⟨i,u3,k,O3,E,b9,hI3,hO3,bm,aq⟩:=hI;obtain⟨oo,rfl⟩:=ar.q1 bm Z;refine OU aq 5 [3] Z Z<|O Z (QB Z aq.aQ.aQ.aQ.aQ.aQ.aQ.pop.aQ.pop.g0 Z) Z<|O Z (QD x.order Z Z Z (e:=74) Z) Z<|Pv 3 Z<|aE Z (fun u=>?_) (fun u=>?_)
 ·refine Ok 4 Z (aS (l:=[(0,[]),(1,[]),(2,[]),(3,[]),(4,[]),(5,[]),(6,[]),(7,[]),(8,[1]),(9,[]),(10,[]),(11,[]),(12,[])]) Y Y<|al Z Z (QA 3 Z) Z<|al Z Z (QB Z aq.aQ.aQ.aQ.aQ.aQ.aQ.g0 Z) Z<|j1 aq Z Z (bY (e:=67) (m:=2) (z:=[T,T]) (cs:=[]) Y Y Y Y bJ) (fun _=>Z) (fun U b5 aq=>?_));replace aq:J U _ ([(b5,.row [] 67 false)]++_):=aq;refine al Z Z (QA 3 Z) Z<|al Z Z (QB Z aq.aQ.aQ.aQ.aQ.aQ.aQ.aQ.pop.aQ.pop.g0 Z) Z<|wQ 1 Z ?_;obtain⟨c1,w,ca⟩:=cL u;refine Qv (e:=74) (m:=1) x.order w Z Z Z Z Z (fun c2 cb aY cc a0=>?_);have hr63':=a0;obtain⟨c3,rfl,a1⟩:=hr63';refine al Z Z (QF aq aY Z Z) Z (kL (R:=iV) (m:=2) (e:=67) cQ.empty aq a1 iV.leaf (by have:=a6 _ (gB_ w);show 0+_<=_;omega) Z Z Z Z Z Z Z Z (fun _=>Z) (fun U W a2 hO65 aq=>?_));refine⟨(bB (bN Z Z Z Z Z (QB Z aq.aQ.aQ.aQ.aQ.aQ.aQ.aQ.g0 Z) (hO3.iu (K:=fun _ _=>False)).dX) aV),?_⟩;refine j1 aq Z Z (bY (e:=74) (m:=1) (z:=[.ax]) (cs:=[W]) Y Y Y Y<|bD Z Z hO65.leaf.1 Z bJ) (fun _=>Z) (fun U b6 aq=>?_);replace aq:=aq.pull (.there (.cM .here));replace aq:=aq.pull (.cM<|ep.here (X:=[_]));refine mN (R:=RU) (m:=1) (e:=74) hO3 aq (eU (m:=1) Z (show RU W [W] from⟨Z,hO65.leaf⟩)) RU.leaf (by have h1:=hI3.length;rw[lT_] at h1;show _+1<=_;omega) Z Z Z Z Z Z Z Z (fun _=>Z) (fun U bo bs hO67 aq=>?_);refine⟨aV,?_⟩;refine al Z Z (QA 3 Z) Z<|gD aq (.cM (.cM (.cM (.cM (.cM (.cM (.cM .here))))))) Z Z (aL Z Z hO67.leaf.1 aq.aQ.aQ.aQ.aQ.aQ.aQ.aQ.g0 (m:=1) Y Z (lb Z) (ah hO67.leaf.2 aC) (cells':=[_,_,_,_]) Z) Z (fun U aq=>?_);refine⟨aV,?_⟩;refine ba<|aJ<|ad<|ai Z ?_;rw[<-lQ_ a2 E] at aq;refine PY 4 Z<|aO ⟨bl-1,(by have:=bu u;omega),oF,i+1,bo,k++[W],bs,a2++E,(by have:=bu u;omega),(by rw[List.take_add_one,w];exact .snoc hI3 hO65),hO67,cI<|bg (by have:=x.order.bG;omega),aq⟩
 refine OL 3 Z<|aT<|Pt 2 Z<|O Z (QC Z aq.aQ.aQ.aQ.aQ.aQ.aQ.g0 (n:=4) (vs:=[_,_,_,_]) Z) Z<|cC aq (.cM (.cM (.cM (.cM (.cM (.cM (.there (.cM .here)))))))) Z (QH Z Z Z aq.aQ.aQ.aQ.aQ.aQ.aQ.pop.aQ.g0 (m:=4) Z (ah hO10.leaf.2<|ah hO1.leaf.2<|ah hO2.leaf.2<|ah hO3.leaf.2 aC) (cells':=[_,_,_,_]) Z) Z (fun U aq=>?_);refine Px 3 Z ?_;rw[tL_<|bC p] at hI1;rw[tL_<|bC r] at hI2;rw[tL_<|bC u] at hI3;exact eL Z Z aq.aQ.aQ.aQ.aQ.aQ.aQ.pop.aQ.g0 (m:=4) Y Z ⟨F,M,A,f,C,o,u2,h,O2,y,u3,k,O3,E,Z,⟨hO10,hI1,hI2,hI3,hO1,hO2,hO3⟩,aq.sub<|dH<|dH<|dH<|dH<|dH<|dH (.cons _<|dH (.cons _ (.cons _ (.refl _))))⟩
end Go.Ev
namespace Go.Ev
variable [Env]
theorem B8 {g:XG}:∀{m:List Int} {i:Nat},lL g m i=true->∀j v,m[j]?=some v->v=jq g (.ofNat (i+j))
 | [],_,_,j,v,a=>by simp at a
 | w::r,i,h,j,v,a=>by
  unfold lL at h;cases b:I w (jq g (.ofNat i)) with
  | false=>rw[b] at h;cases h
  | true=>
   rw[b] at h;cases j with
   | zero=>cases a;exact eqv b
   | succ j=>have:=B8 (i:=i+1) h j v (by simpa using a);rwa[show i+1+j=i+(j+1) by omega] at this
theorem yP {k:Nat}:∀{l:List XC} {g:List (List db)} {e:List Int},pV k l g=some e->∀(t:Nat) (c:XC) (row:List db),l[t]?=some c->g[t]?=some row->nP k c row
 | [],_,_,_,t,c,row,a,_=>by simp at a
 | _::_,[],_,h,_,_,_,_,_=>by cases h
 | x::l,r::g,e,h,t,c,row,a,d=>by
  unfold pV at h;cases b:I (bI k x r).2 0 with
  | false=>rw[b] at h;cases h
  | true=>
   rw[b] at h;cases t with
   | zero=>cases a;cases d;exact kI.1<|eqv b
   | succ t=>
    cases hf:pV k l g with
    | none=>rw[hf] at h;cases h
    | some e'=>exact yP hf t c row (by simpa using a) (by simpa using d)
theorem Fk {k:Nat} {l:List XC} {m:List Int} {g:XG} (h:yc k l m g=true):tC k l ⟨m,g⟩:=by
 unfold yc jm at h;cases hf:fl k l g with
 | none=>rw[hf] at h;cases h
 | some e=>
  rw[hf] at h;dsimp only at h;cases b:I (.ofNat m.length) (.ofNat g.init.length) with
  | false=>rw[b] at h;cases h
  | true=>
   rw[b] at h;cases j:lL g m 0 with
   | false=>rw[j] at h;cases h
   | true=>
    have hm:m.length=g.init.length:=iJ_ (eqv b);unfold fl at hf;cases d:I (cd g) 0 with
    | false=>rw[d] at hf;cases hf
    | true=>
     rw[d] at hf;cases f:I (.ofNat l.length) (.ofNat g.threads.length) with
     | false=>rw[f] at hf;cases hf
     | true=>
      rw[f] at hf;refine⟨eqv d,(iJ_<|eqv f).symm,hm,fun i n=>?_,fun t c row o k2=>yP hf t c row o k2⟩;have a:i<m.length:=by rw[hm];exact n
      have:=B8 j i m[i] (gC a);rw[nA_] at this;show m[i]?=_;rw[gC a,this]
theorem EV {k:Nat} {c:XC} {l:List db} (h:(bI k c l).2=0) (b:I (bI k c l).1.ask.kind 0=false):0<=(bI k c l).1.ask.loc:=by
 obtain⟨hf,d⟩:=kI.1 h;have hc:=(qL hf).1;revert b;unfold bI;rw[jD,hf];simp only[aX,cond_true,cond_false];unfold iD;rw[d];simp only[aX,cond_true,cond_false];cases he:(gx k c<|dg l).events[l.length]? with
 | some e=>intro b;cases b
 | none=>
  cases f:(gx k c<|dg l).asks with
  | false=>intro b;cases b
  | true=>
   intro _;have hkd:=qE (k:=k) (pd hc<|dg l).1 f;revert hkd;show _->0<=(lh k c<|gx k c<|dg l).loc;unfold lh;cases hx:c.ins[(gx k c<|dg l).at_]? with
   | none=>intro hkd;exact Int.le_refl 0
   | some x=>
    intro hkd;obtain⟨n,sh,i,n1,aa,a,j⟩:=iY (hc.right x (gB_ hx));have hl:=(hJ j).loc;have hkd:x.kind=2∨x.kind=4∨x.kind=5∨x.kind=6:=hkd;rw[i] at hkd
    have m:sh.loc=true:=by
     rcases hkd with e | e | e | e
     ·obtain rfl:n=2:=iJ_ e;cases a;rfl
     ·obtain rfl:n=4:=iJ_ e;cases a;rfl
     ·obtain rfl:n=5:=iJ_ e;cases a;rfl
     obtain rfl:n=6:=iJ_ e;cases a;rfl
    rw[m] at hl;exact(lA hl).1
def vg (n:ji):Bool:=aX (I n.ask.kind 0)
def eD (n:ji) (m:List Int):db:=bif vg n then bL n.ask ((m[n.ask.loc.toNat]?).getD 0) else n.event
def L2 (n:ji) (g:XG):dw:=bif vg n then((cu g n.ask.loc).getLast?).getD ⟨0,0⟩ else⟨0,0⟩
def Ab (g:XG) (e:db):Int:=bif bq e then .ofNat (cu g e.loc).length else 0
def oX (m:List Int) (e:db) (pl:Int):List Int:=bif bU 0 pl then m.set e.loc.toNat e.write else m
def HA (m:List Int) (e:db) (fr:dw) (pl:Int) (th:Int) (g:XG):Option XM×Int:=
 match gf g th e fr pl with
 | (some g',x)=>(some ⟨oX m e pl,g'⟩,x)
 | (none,x)=>(none,x)
theorem Hh {g:XG} (hchk:cd g=0) {e:db} (h:bW e (.ofNat g.init.length)=true) (hw:bq e=true):∃(ln:Nat) (r:List dw),e.loc= .ofNat ln/\g.order[ln]?=some r/\(cu g e.loc).length=r.length+1:=by
 unfold bW at h
 have a:I e.kind 4=false:=by
  cases a:I e.kind 4 with
  | false=>rfl
  | true=>unfold bq at hw;rw[eqv a] at hw;cases hw
 rw[a] at h
 have key:(bif aX (bU e.loc 0) then bU e.loc (.ofNat g.init.length) else false)=true:=by
  revert h;cases bU e.kind 1<;>cases bU 4 e.kind<;>cases bU e.order 1<;>cases bU 6 e.order<;>cases (bif (!dD e) then aX (I e.read 0) else false)<;>cases (bif (!bq e) then aX (I e.write 0) else false)<;>intro h<;>first | exact h | cases h
 cases b:bU e.loc 0 with
 | true=>rw[b] at key;cases key
 | false=>
  rw[b] at key;obtain⟨ln,d⟩:=iQ b;rw[d] at key;have f:ln<g.init.length:=bu key;obtain⟨r,i⟩:=g8 hchk f;exact⟨ln,r,d,i,by rw[d,ez (by rw[hchk];rfl) i];rfl⟩
section
variable {g:XG} {tm:Nat} {row:List db} {frow:List dw} (hchk:cd g=0) (hx:g.threads[tm]?=some row) (hf:g.from_[tm]?=some frow) (hlen:bU (.ofNat row.length) 14=true) {e:db} {fr:dw} {pl:Int}
include hchk hx hf hlen
theorem C8:gf g (.ofNat (tm+1)) e fr pl=bif cT g e pl then(none,2) else bif I (cd<|eE g tm e fr pl row frow) 0 then(some<|eE g tm e fr pl row frow,0) else(none,2):=by
 rw[kO (by rw[hchk];rfl) hx hf,hlen];rfl
theorem oA (h:cT g e pl=true):gf g (.ofNat (tm+1)) e fr pl=(none,2):=by rw[C8 hchk hx hf hlen,h];rfl
theorem tD (h:I (cd<|eE g tm e fr pl row frow) 0=false):gf g (.ofNat (tm+1)) e fr pl=(none,2):=by
 rw[C8 hchk hx hf hlen,h];cases cT g e pl<;>rfl
theorem AZ (a:cT g e pl=false) (h:I (cd<|eE g tm e fr pl row frow) 0=true):gf g (.ofNat (tm+1)) e fr pl=(some<|eE g tm e fr pl row frow,0):=by
 rw[C8 hchk hx hf hlen,a,h];rfl
theorem tE (h:bW e (.ofNat g.init.length)=false):gf g (.ofNat (tm+1)) e fr pl=(none,2):=by
 cases a:I (cd<|eE g tm e fr pl row frow) 0 with
 | false=>exact tD hchk hx hf hlen a
 | true=>
  have hR:=im.1 (eqv a);have hR0:=im.1 hchk;have b:(eE g tm e fr pl row frow).threads[tm]?=some (row++[e]):=by rw[mg];exact List.getElem?_set_self (gA.1 hx).1
  have d:(eE g tm e fr pl row frow).from_[tm]?=some (frow++[fr]):=by rw[mg];exact List.getElem?_set_self (gA.1 hf).1
  have hfl:=(hR0.rows tm row frow hx hf).1;have hk:=(hR.rows tm _ _ b d).2 row.length e fr (by simp) (by rw[<-hfl];simp);unfold yf at hk;have f:(eE g tm e fr pl row frow).init.length=g.init.length:=by rw[mg]
  rw[f,h] at hk;cases hk
end
section
variable {k:Nat} {l:List XC} {r:XM} {t:Nat} {c:XC} {row:List db} (hinv:tC k l r) (hc:l[t]?=some c) (hrow:r.g.threads[t]?=some row)
include hinv hc hrow
theorem q8:(bI k c row).2=0:=kI.2 (hinv.fits t c row hc hrow)
theorem ui {e:Int} (h:jP k c row r.g=e) (a:I e 0=false):eG k l r t=(none,e):=by
 unfold eG;rw[hc,hrow];dsimp only;rw[h,a];rfl
theorem JF (a:I (bI k c row).1.fin 0=false):eG k l r t=(none,10):=by
 refine ui hinv hc hrow ?_ Z;unfold jP;rw[q8 hinv hc hrow,a];rfl
theorem JG (a:I (bI k c row).1.fin 0=true) (hlen:bU (.ofNat row.length) 14=false):eG k l r t=(none,3):=by
 refine ui hinv hc hrow ?_ Z;unfold jP;rw[q8 hinv hc hrow,a,hlen];rfl
theorem JH (d:I (bI k c row).1.fin 0=true) (hlen:bU (.ofNat row.length) 14=true) (f:vg (bI k c row).1=true) (b:bU (bI k c row).1.ask.loc (.ofNat r.mem.length)=false):eG k l r t=(none,2):=by
 refine ui hinv hc hrow ?_ Z;unfold jP;rw[q8 hinv hc hrow,d,hlen];show(bif ef (bI k c row).1 r.g then(2:Int) else 0)=2
 have i:ef (bI k c row).1 r.g=true:=by
  have h:aX (I (bI k c row).1.ask.kind 0)=true:=f;rcases qa (q8 hinv hc hrow) with ⟨e,he,_,_⟩ | ⟨a,j,_,_⟩ | ⟨n,m⟩
  ·rw[he] at h;cases h
  ·unfold ef nF;rw[h];rw[hinv.mem] at b;rw[show I (bI k c row).1.event.kind 4=false from by rw[j];rfl];simp only[aX,cond_true,cond_false];rw[b];cases bU (bI k c row).1.ask.loc 0<;>rfl
  rw[m] at h;cases h
 rw[i];rfl
theorem Gq {p:xX} (hlen:bU (.ofNat row.length) 14=true) (h:bW p.vq (.ofNat r.g.init.length)=false):we p (.ofNat (t+1)) r.g=(none,2):=by
 obtain⟨f,hf⟩:=cm (show t<r.g.from_.length from by rw[(im.1 hinv.Gi).from_];exact(gA.1 hrow).1);unfold we;rw[tE hinv.Gi hrow hf hlen h]
theorem Gp {m:List Int} {e:db} {fr:dw} {pl:Int} (hlen:bU (.ofNat row.length) 14=true) (h:bW e (.ofNat r.g.init.length)=false):HA m e fr pl (.ofNat (t+1)) r.g=(none,2):=by
 obtain⟨f,hf⟩:=cm (show t<r.g.from_.length from by rw[(im.1 hinv.Gi).from_];exact(gA.1 hrow).1);unfold HA;rw[tE hinv.Gi hrow hf hlen h]
end
theorem Hw {e:db} {n:Int} (a:I e.kind 4=false) (h:(bif bU e.loc 0 then true else aX (bU e.loc n))=true):bW e n=false:=by
 unfold bW;rw[a];cases bU e.kind 1<;>cases bU 4 e.kind<;>cases bU e.order 1<;>cases bU 6 e.order<;>cases (bif (!dD e) then aX (I e.read 0) else false)<;>cases (bif (!bq e) then aX (I e.write 0) else false)<;>try rfl
 cases b:bU e.loc 0 with
 | true=>rfl
 | false=>rw[b] at h;cases d:bU e.loc n with
  | true=>rw[d] at h;cases h
  | false=>rfl
theorem xQ {e:db} {n:Int} (a:dD e=false) (hw:bq e=false) (d:I e.kind 4=false):bW e n=false:=by
 cases b:bU e.kind 1 with
 | true=>unfold bW;rw[b];rfl
 | false=>
  cases f:bU 4 e.kind with
  | true=>unfold bW;rw[b,f];rfl
  | false=>
   exfalso;have a1:=B1.1 b;have a2:=B1.1 f;have n1:e.kind≠1:=fun q=>by unfold dD at a;rw[q] at a;cases a
   have n2:e.kind≠2:=fun q=>by unfold bq at hw;rw[q] at hw;cases hw
   have n3:e.kind≠3:=fun q=>by unfold bq at hw;rw[q] at hw;cases hw
   have n4:e.kind≠4:=fun q=>by rw[q] at d;cases d
   omega
theorem H9 {p:xX} {m:List Int} {e:db} {fr:dw} {pl th:Int} {g:XG} (h:p=⟨e,fr,pl,oX m e pl⟩):we p th g=HA m e fr pl th g:=by subst h;rfl
theorem Fw {m:List Int} {e:db} {n:Nat} (h:0<n):oX m e (.ofNat n)=m.set e.loc.toNat e.write:=by
 obtain⟨q,rfl⟩:∃q,n=q+1:=⟨n-1,by omega⟩;rfl
theorem CE {k:Nat} {l:List XC} {r:XM} {t:Nat} {c:XC} {row:List db} (hinv:tC k l r) (hc:l[t]?=some c) (hrow:r.g.threads[t]?=some row) (q:I (bI k c row).1.fin 0=true) (hlen:bU (.ofNat row.length) 14=true)
  (s:vg (bI k c row).1=true->bU (bI k c row).1.ask.loc (.ofNat r.mem.length)=true):
  eG k l r t=HA r.mem (eD (bI k c row).1 r.mem) (L2 (bI k c row).1 r.g) (Ab r.g<|eD (bI k c row).1 r.mem) (.ofNat (t+1)) r.g:=by
 have hnx:=q8 hinv hc hrow
 have u:jP k c row r.g=bif ef (bI k c row).1 r.g then 2 else 0:=by
  unfold jP;rw[hnx,q,hlen];rfl
 have aq:eG k l r t=bif ef (bI k c row).1 r.g then(none,2) else we (fz (bI k c row).1 r.mem r.g) (.ofNat (t+1)) r.g:=by
  unfold eG;rw[hc,hrow];dsimp only;rw[u];cases ef (bI k c row).1 r.g<;>rfl
 rw[aq];have hwr:= @Gp _ k l r t c row hinv hc hrow;have hwm:= @Gq _ k l r t c row hinv hc hrow;rcases qa hnx with ⟨e,he,_,w⟩ | ⟨a,z,F,_⟩ | ⟨n,L⟩
 ·rw[he];have x:eD (⟨e,gw,0⟩:ji) r.mem=e:=rfl;have A:L2 (⟨e,gw,0⟩:ji) r.g=⟨0,0⟩:=rfl;dsimp only;rw[x,A];cases d:I e.kind 4 with
  | true=>
   have f:ef ⟨e,gw,0⟩ r.g=false:=by unfold ef;dsimp only;rw[d];rfl
   have hw:bq e=false:=by unfold bq;rw[eqv d];rfl
   have j:Ab r.g e=0:=by unfold Ab;rw[hw];rfl
   rw[f,j,nj d];exact H9 Z
  | false=>
   cases f:ef ⟨e,gw,0⟩ r.g with
   | true=>
    refine(hwr hlen<|Hw d ?_).symm;unfold ef at f;dsimp only at f;rw[d] at f;exact f
   | false=>
    cases hw:bq e with
    | false=>
     rw[hwr hlen<|xQ w hw d];refine hwm hlen ?_
     have:(fz ⟨e,gw,0⟩ r.mem r.g).vq=e:=by
      unfold fz;dsimp only;rw[d];simp only[show I gw.kind 0=true from Z,show aX true=false from Z,cond_false];cases aX (I e.kind 1)<;>rfl
     rw[this];exact xQ w hw d
    | true=>
     obtain⟨ln,m,h⟩:=me f d;have m:e.loc= .ofNat ln:=m;obtain⟨o,C⟩:=g8 hinv.Gi h;have j:Ab r.g e= .ofNat (cu r.g e.loc).length:=by unfold Ab;rw[hw];rfl
     have p:I e.kind 1=false:=by
      cases p:I e.kind 1 with
      | false=>rfl
      | true=>unfold dD at w;rw[p] at w;cases w
     refine H9 ?_;rw[j,Fw (by rw[m,ez (by rw[hinv.Gi];rfl) C];exact Nat.succ_pos _)];unfold fz;dsimp only;rw[d];simp only[show I gw.kind 0=true from Z,show aX true=false from Z,cond_false];rw[p];rfl
 ·have i:I a.kind 0=false:=by rcases F with e | e | e | e<;>rw[e]<;>rfl
  have b:vg (⟨lr,a,0⟩:ji)=true:=by unfold vg;dsimp only;rw[i];rfl
  have h0:=EV hnx (by rw[z];exact i);have hL:=s (by rw[z];exact b);rw[z] at h0 hL⊢;dsimp only at h0 hL⊢;obtain⟨ln,m⟩:=iQ (B1.2 h0);have h:ln<r.g.init.length:=by rw[m,hinv.mem] at hL;exact bu hL
  obtain⟨o,C⟩:=g8 hinv.Gi h;have y:nF (⟨lr,a,0⟩:ji)=a.loc:=by unfold nF;dsimp only;rw[i];rfl
  have f:ef ⟨lr,a,0⟩ r.g=false:=by
   unfold ef;rw[y,m,show I (⟨lr,a,0⟩:ji).event.kind 4=false from Z,show bU (.ofNat ln) 0=false from B1.2 (show(0:Int)<=((ln:Nat):Int) from Int.natCast_nonneg _),show bU (.ofNat ln) (.ofNat r.g.init.length)=true from by rw[lX];exact decide_eq_true h];rfl
  rw[f];have x:eD (⟨lr,a,0⟩:ji) r.mem=bL a ((r.mem[a.loc.toNat]?).getD 0):=by unfold eD;rw[b];rfl
  have A:L2 (⟨lr,a,0⟩:ji) r.g=((cu r.g a.loc).getLast?).getD ⟨0,0⟩:=by unfold L2;rw[b];rfl
  rw[x,A];generalize M:(r.mem[a.loc.toNat]?).getD 0=v;obtain⟨G,E⟩:=uu (v:=v) F;refine H9 ?_;unfold fz;rw[y];dsimp only;rw[i,M];simp only[show I lr.kind 4=false from Z,show aX false=true from Z,cond_true,cond_false];cases p:I (bL a v).kind 1 with
  | true=>
   have hw:bq (bL a v)=false:=by unfold bq;rw[eqv p];rfl
   have j:Ab r.g (bL a v)=0:=by unfold Ab;rw[hw];rfl
   rw[j];rfl
  | false=>
   have hw:bq (bL a v)=true:=by
    unfold dD at E;rw[p] at E;unfold bq;rw[show I (bL a v).kind 3=true from E];cases I (bL a v).kind 2<;>rfl
   have j:Ab r.g (bL a v)= .ofNat (cu r.g a.loc).length:=by unfold Ab;rw[hw,G];rfl
   rw[j,Fw (by rw[m,ez (by rw[hinv.Gi];rfl) C];exact Nat.succ_pos _),G];rfl
 rw[L];have x:eD (⟨lr,gw,n⟩:ji) r.mem=lr:=rfl;dsimp only;rw[x];have K:bW lr (.ofNat r.g.init.length)=false:=rfl;rw[hwr hlen K];cases ef ⟨lr,gw,n⟩ r.g with
 | true=>rfl
 | false=>
  refine hwm hlen ?_;have:(fz ⟨lr,gw,n⟩ r.mem r.g).vq=lr:=rfl;rw[this];exact K
theorem F6 {g a:XG} {th pl x:Int} {e:db} {fr:dw} (h:gf g th e fr pl=(some a,x)):x=0:=by
 unfold gf at h;cases b: !I (cd g) 0 with
 | true=>rw[b] at h;cases h
 | false=>
 cases d:bU th 1 with
 | true=>rw[b,d] at h;cases h
 | false=>
 cases f:bU (.ofNat g.threads.length) th with
 | true=>rw[b,d,f] at h;cases h
 | false=>
 rw[b,d,f] at h;simp only[cond_false] at h;split at h
 ·rename_i row frow _ _;cases i: !bU (.ofNat row.length) 14 with
  | true=>rw[i] at h;cases h
  | false=>
  rw[i] at h;cases j:(bif bq e then(bif bU pl 1 then true else bU (.ofNat (cu g e.loc).length) pl) else !I pl 0) with
  | true=>rw[j] at h;cases h
  | false=>
  rw[j] at h;simp only[cond_false] at h;cases m:I (cd<|BQ g (th.toNat-1) e fr (pl.toNat-1) row frow ((g.order[e.loc.toNat]?).getD []) e.loc.toNat) 0 with
  | true=>rw[m] at h;cases h;rfl
  | false=>rw[m] at h;cases h
 cases h
theorem CC {k:Nat} {l:List XC} {r:XM} {t:Nat} {e:Int} (h:e=(eG k l r t).2) (d:I e 0=false):eG k l r t=(none,e):=by
 rcases a:eG k l r t with ⟨o,x⟩
 rw[a] at h;have h:e=x:=h;subst h;cases o with
 | none=>rfl
 | some r'=>
  exfalso;unfold eG at a;split at a
  ·rename_i c row _ _;cases b:aX (I (jP k c row r.g) 0) with
   | true=>rw[b] at a;cases a
   | false=>
    rw[b] at a;simp only[cond_false] at a;unfold we at a;split at a
    ·rename_i g' x f;have:=F6 f;subst this;cases a;cases d
    cases a
  cases a
def mX (k:Nat) (l:List XC) (r:XM) (p:Int):Option XM×Int:=bif aX (yc k l r.mem r.g) then(none,2) else bif bU p 1 then(none,2) else bif bU (.ofNat l.length) p then(none,2) else eG k l r (p.toNat-1)
theorem xG {k:Nat} {l:List XC} {r:XM} {p:Int} (a:yc k l r.mem r.g=true) (b:bU p 1=false) (d:bU (.ofNat l.length) p=false):mX k l r p=eG k l r (p.toNat-1):=by unfold mX;rw[a,b,d];rfl
end Go.Ev
namespace Go.Ev
variable [Env]
open Go.Proofs
set_option maxRecDepth 4000
set_option maxHeartbeats 8000000
section
variable {m E E2:Nat} {K:KP} {us:List V} {u:V} {O_:Own}
theorem Am (h:cQ 1 E RU us u O_) (a:us≠[]):∃b c e,u= .slice b 0 us.length c/\O_= [(b,.row us e false)]/\(c= .known us.length∨(c= .upto 1/\e=E))/\us.length<=1048576:=by
 rcases h with ⟨rfl,_,_⟩ | ⟨b,c,cells,e,rfl,rfl,h3,d,f,g⟩
 ·exact absurd Z a
 refine⟨b,c,e,Z,?_,f,g⟩
 have:cells=us:=by
  refine List.ext_getElem B fun i j k=>?_
  have h:=(d i us[i]<|gC k).1;rw[Nat.mul_one,List.drop_eq_getElem_cons j] at h;exact(List.cons.inj h).1
 rw[this]
theorem lF {b e n:Nat} {c:pH} (a:us.length=n) (d:c= .known n∨(c= .upto 1/\e=E)) (f:n<=1048576) (g:∀u∈us,cS u=some [u]/\iB u=true):cQ 1 E RU us (.slice b 0 n c) [(b,.row us e false)]:=by
 subst a
 exact .inr ⟨b,c,us,e,Z,Z,(Nat.mul_one _).symm,fun i x h=>by
  obtain⟨j,k⟩:=gA.1 h;refine⟨?_,g x<|gB_ h⟩;rw[Nat.mul_one,List.drop_eq_getElem_cons j,k];rfl,d,f⟩
variable {α:Type} {R:α->List V->Prop} {ls:List (List α)} {I_:Own}
theorem fH.pA (h:fH m E R ls us I_):∀u∈us,cS u=some [u]/\iB u=true:=by
 induction h with
 | nil=>intro u h;cases h
 | snoc _ a ih=>
  intro u h;rcases List.mem_append.1 h with h | h
  ·exact ih u h
  rw[List.mem_singleton.1 h];exact a.leaf
theorem Ju (h:fH m E R ls us I_) (g:cQ 1 E2 RU us u O_) (j:∀e∈I_,K e.1 e.2) (k2:∀e∈O_,K e.1 e.2):bR K 1 (RL K m R) ls u:=by
 rcases h':us with _ | ⟨x,r⟩
 ·have hl:=h.length;rcases g with ⟨_,rfl,_⟩ | ⟨b,c,cells,e,rfl,rfl,h3,h4,a,k⟩
  ·rw[h'] at hl;exact .inl ⟨eN_ hl.symm,Z⟩
  have l:ls= []:=by rw[h'] at hl;exact eN_ hl.symm
  subst l;refine .inr ⟨b,0,c,cells,e,false,by rw[h'];rfl,?_,k2 _ (.head _),by simp,by simp,fun i x d=>by simp at d⟩;rw[h'] at a;rcases a with rfl | ⟨rfl,_⟩
  ·exact .inr ⟨_,Z,nR_ _⟩
  exact .inl Z
 obtain⟨b,c,e,rfl,rfl,a,k⟩:=Am g (by rw[h'];exact fun e=>by cases e);have hl:=h.length;refine .inr ⟨b,0,c,us,e,false,by rw[hl],?_,k2 _ (.head _),by omega,by omega,fun i x d=>?_⟩
 ·rcases a with rfl | ⟨rfl,_⟩
  ·rw[hl];exact .inr ⟨_,Z,nR_ _⟩
  exact .inl Z
 obtain⟨u,q1,q2⟩:=h.each j i x d;refine⟨u,?_,q2⟩;obtain⟨f,rfl⟩:=gA.1 q1;rw[show 0+i*1=i from by omega,List.drop_eq_getElem_cons f];rfl
theorem AU.IC {g:XG} {d:V} {f:Own} {i:V} {a:List V} {j k:Own} {l:V} {b:List V} {n o:Own} {u3:V} {c:List V} {p q:Own} (h:AU g d f i a j k l b n o u3 c p q)
  (r:∀e∈f,K e.1 e.2) (s:∀e∈k,K e.1 e.2) (k2:∀e∈j,K e.1 e.2) (t:∀e∈o,K e.1 e.2) (v:∀e∈n,K e.1 e.2) (w:∀e∈q,K e.1 e.2) (x:∀e∈p,K e.1 e.2):eN K g d i l u3:=
 ⟨h.init.kq r,Ju h.threads h.o1 s k2,Ju h.from_ h.o2 t v,Ju h.order h.o3 w x⟩
end
theorem LZ {G:Cx} (hG:Plain G) {K:KP} {g:XG} {a b c d:V} (hg:eN K g a b c d) (h:cd g=0) {tm:Nat} {j:List db} (i:g.threads[tm]?=some j) (hlen:bU (.ofNat j.length) 14=true) (e:db) (fr:dw) (pl:Int) {U:D} {L:Own} (aq:J U K L):
  bk Tryz.prog G 58 [.agg [a,b,c,d],.int .i64 (.ofNat (tm+1)),.agg [.int .i64 e.kind,.int .i64 e.loc,.int .i64 e.order,.int .i64 e.read,.int .i64 e.write],.agg [.int .i64 fr.ia,.int .i64 fr.index],.int .i64 pl] U fun v U'=>
   (gf g (.ofNat (tm+1)) e fr pl=(none,2)/\v= .tuple [.agg [.ax,.ax,.ax,.ax],.int .i64 2]/\J U' K L)∨
   (∃g' a' b' c' d' M,gf g (.ofNat (tm+1)) e fr pl=(some g',0)/\v= .tuple [.agg [a',b',c',d'],T]/\eN (K.ic M) g' a' b' c' d'/\J U' K (M++L)):=by
 have cv:tm<g.threads.length:=(gA.1 i).1;obtain⟨d9,eb,a9,bb,ee,cx,eg⟩:=cK h;obtain⟨xf,r⟩:=cm (show tm<g.from_.length from by rw[bb];exact cv);refine PS hG Tryz.func58 Z<|Pt 2 Z<|kp aq Z (cz Z Z) (fun U b1 aq=>?_);refine kp aq Z (cz Z Z) (fun U b2 aq=>?_);refine kp aq Z (cz Z Z) (fun U b3 aq=>?_);refine kp aq Z (QE (cs:=[.ax,.ax,.ax,.ax])) (fun U b4 aq=>?_);refine On 6 Z<|O Z (QC Z (aq.get 3 Z) (n:=4) (vs:=[_,_,_,_]) Z) Z<|bf Z (Qz Z Z Z) (fun _=>Z) (by have q:=ox hG hg aq;rw[h] at q;exact q) (fun U aq=>?_);refine Pv 4 Z<|Ol 7 Z<|ky Z (an Z) (fun be=>?_) (fun be=>?_)
 ·exact absurd be (by rw[show bU (.ofNat (tm+1)) 1=false from B1.2 (show(1:Int)<=((tm+1:Nat):Int) by omega)];decide)
 refine P3 aq 3 [1,3] Z Z<|O Z (QD hg.threads Z Z Z (e:=57) Z) Z<|Pv 4 Z<|aE Z (fun bi=>?_) (fun bi=>?_)
 ·exact absurd (bu bi) B
 refine Ot aq 9 [1,3] Z Z<|Qu (e:=57) (m:=1) hg.threads i Z Z Z (cI<|ej B) (fun el c8 bl c9 bm=>?_);have hr33':=bm;obtain⟨em,rfl,bo⟩:=hr33';refine O Z (QF aq bl Z Z) Z<|O Z (QD bo Z Z Z (e:=56) Z) Z<|Pv 3 Z<|aE Z (fun bs=>?_) (fun bs=>?_)
 ·exact False.elim (by have h1:j.length=14:=iJ_ (eqv (b:=.ofNat 14) bs);have h2:j.length<14:=bu (b:=14) hlen;omega)
 refine OK 4 Z<|O Z (QC Z (aq.get 3 Z) (n:=4) (vs:=[_,_,_,_]) Z) Z<|cH Z (Qz Z Z Z) (fun _=>Z) (MA hG hg (KK h) aq) ?_;rintro _ U ⟨u0,M0,u1,ar,O1,I1,u2,aI,O2,I2,u3,c0,O3,I3,rfl,o,aq⟩;have hn1:=o.threads.length;have hn2:=o.from_.length;have hO1:=o.o1;have hO2:=o.o2;obtain⟨b5,c1,e1,rfl,rfl,Q,W⟩:=Am hO1 (fun e=>by rw[e] at hn1;simp at hn1;omega);obtain⟨b6,c2,e2,rfl,rfl,aa,ab⟩:=Am hO2 (fun e=>by rw[e] at hn2;simp at hn2;omega);replace aq:J U _ (O3++(I3++((b6,.row aI e2 false)::(I2++((b5,.row ar e1 false)::(I1++(M0++_))))))):=aq;refine kp aq Z (QE (cs:=[.ax,.ax,.ax,.ax])) (fun U b7 aq=>?_);refine bO aq Z (QH Z Z Z aq.g0 (m:=4) Z (ah o.init.leaf.2<|ah Z<|ah Z<|ah o.o3.leaf.2 aC) (cells':=[_,_,_,_]) Z) Z (fun U aq=>?_);refine OX aq 6 [1] Z Z<|O Z (QB Z aq.pop.aQ.aQ.pop.aQ.pop.aQ.aQ.pop.pop.pop.g0 Z) Z<|PZ 2 Z<|Qu (e:=57) (m:=1) hg.threads i Z Z Z (cI<|ej B) (fun en dd bt dl bv=>?_);have hr45':=bv;obtain⟨er,rfl,bw⟩:=hr45';refine O Z (QF aq bt Z Z) Z (O Z (QD bw Z Z Z (e:=56) Z) Z (O Z (Qy (places:=[(0,1),(1,1)]) (zero:=[T,T]) (cs:=[_,_]) Z) Z<|kp aq Z (QE (cs:=[T,T])) (fun U b8 aq=>?_)));refine bO aq Z (QH Z Z Z aq.g0 (m:=2) Z Z (cells':=[_,_]) Z) Z (fun U aq=>?_);refine ON 3 Z (aS (l:=[(0,[]),(1,[]),(2,[]),(3,[]),(4,[]),(5,[]),(6,[]),(7,[]),(8,[]),(9,[]),(10,[]),(11,[]),(12,[1]),(13,[]),(14,[])]) Y Y<|P4 aq 8 [1,1,1,1] Z Z ?_);obtain⟨utt,Mtt,At,Bt,C,b0,ca,aY⟩:=o.threads.at i;subst ca;refine al Z Z (eo (e:=57) (m:=1) Z Y Z (cI<|ej B) (show tm<ar.length from(gA.1 C).1)) Z<|al Z Z (ay Z aq.pop.pop.aQ.aQ.pop.aQ.g0 Y (by rw[eF,show 0+tm*1=tm from by omega];exact C)) Z<|al Z Z (QC Z aq.pop.pop.aQ.aQ.pop.aQ.pop.aQ.aQ.pop.pop.g0 (n:=5) (vs:=[_,_,_,_,_]) Z) Z<|j1 aq Z Z (bY (e:=56) (m:=5) (z:=[T,T,T,T,T]) (cs:=[_,_,_,_,_]) Y Y Y Y<|bD Z Z Z Z bJ) (fun _=>Z) (fun U b9 aq=>?_);have hpl:=(aq.pull (X:=Mtt) (.there (.there (.there (.cM (.cM (.there (.cM (.there ep.nh))))))))).perm List.perm_middle;obtain⟨U,ut2t,Mt2t,ac,hOt2t,aq⟩:=fJ (P:=Tryz.prog) (ts:= #[57,57]) (t:=57) (e:=56) b0 hpl (mh (R:=iU) (x:=e) (m:=5) Z Z (.inr ⟨Z,Z⟩)) iU.leaf (by simp) (by simp) (by have:=a9 _ (gB_ i);omega) Z Y Y Y;refine eM Z Z (dM Z Z Z Z Y ac) Z ?_;replace aq:=aq.push (.there (.there (.cM (.cM (.there (.cM (.there ep.nh)))))));refine⟨(bB (bN Z Z Z Z Z (QB Z aq.g1 Z) (hO1.iu (K:=fun _ _=>False)).dX) aV),?_⟩;refine al Z Z (eo (e:=57) (m:=1) Z Y Z (cI<|ej B) (show tm<ar.length from(gA.1 C).1)) Z ?_;have hltt:=(gA.1 C).1
 refine gD aq (.there (.there (.cM (.cM (.there (.cM .here)))))) Z Z (gR Z Z hOt2t.leaf.1 aq.pop.pop.aQ.aQ.pop.aQ.g0 (m:=1) Y Z B<|ah hOt2t.leaf.2 Z) Z (fun U aq=>?_);refine⟨aV,?_⟩;rw[fW hltt] at aq;have hO2t:=aY _ _ _ hOt2t;refine OS 3 Z (aS (l:=[(0,[]),(1,[]),(2,[]),(3,[]),(4,[]),(5,[]),(6,[]),(7,[]),(8,[]),(9,[]),(10,[]),(11,[]),(12,[1]),(13,[]),(14,[])]) Y Y<|P4 aq 8 [2,1,2,1] Z Z ?_);obtain⟨utf,Mtf,Af,Bf,F,cb,cc,a0⟩:=o.from_.at r;subst cc;refine al Z Z (eo (e:=74) (m:=1) Z Y Z (cI<|ej B) (show tm<aI.length from(gA.1 F).1)) Z<|al Z Z (ay Z aq.pop.pop.aQ.aQ.g0 Y (by rw[eF,show 0+tm*1=tm from by omega];exact F)) Z<|al Z Z (QC Z aq.pop.pop.aQ.aQ.pop.aQ.pop.aQ.aQ.pop.g0 (n:=2) (vs:=[_,_]) Z) Z<|j1 aq Z Z (bY (e:=67) (m:=2) (z:=[T,T]) (cs:=[_,_]) Y Y Y Y<|bD Z Z Z Z bJ) (fun _=>Z) (fun U es aq=>?_);have hpl:=(aq.pull (X:=Mtf) (.there (.there (.there (.cM (.cM (.there ep.nh))))))).perm List.perm_middle;obtain⟨U,ut2f,Mt2f,ac,hOt2f,aq⟩:=fJ (P:=Tryz.prog) (ts:= #[74,74]) (t:=74) (e:=67) cb hpl (mh (R:=iV) (x:=fr) (m:=2) Z Z (.inr ⟨Z,Z⟩)) iV.leaf (by simp) (by simp) (by have:=mS cx bb a9 _ (gB_ r);omega) Z Y Y Y;refine eM Z Z (dM Z Z Z Z Y ac) Z ?_;replace aq:=aq.push (.there (.there (.cM (.cM (.there ep.nh)))));refine⟨(bB (bN Z Z Z Z Z (QB Z aq.g1 Z) (hO2.iu (K:=fun _ _=>False)).dX) aV),?_⟩;refine al Z Z (eo (e:=74) (m:=1) Z Y Z (cI<|ej B) (show tm<aI.length from(gA.1 F).1)) Z ?_;have hltf:=(gA.1 F).1;refine gD aq (.there (.there (.cM (.cM .here)))) Z Z (gR Z Z hOt2f.leaf.1 aq.pop.pop.aQ.aQ.g0 (m:=1) Y Z B<|ah hOt2f.leaf.2 Z) Z (fun U aq=>?_);refine⟨aV,?_⟩;rw[fW hltf] at aq;have hO2f:=a0 _ _ _ hOt2f;refine OS 3 Z<|Pt 2 Z<|O Z (QC Z aq.g1 (n:=4) (vs:=[_,_,_,_]) Z) Z<|O Z (QC Z aq.pop.pop.aQ.aQ.pop.aQ.pop.aQ.aQ.pop.pop.g0 (n:=5) (vs:=[_,_,_,_,_]) Z) Z ?_;replace aq:=aq.app (.there (.there (.cM (.cM (.there (.cM (.there (.cM (.cM (.there (.there (.there (.there .base)))))))))))))
 refine bf Z (Qz Z Z Z) (fun _=>Z) ((F1 hG (AU.IC (g:=(⟨g.init,g.threads.set tm (j++[e]),g.from_.set tm (xf++[fr]),g.order⟩:XG)) ⟨o.init,hO2t,hO2f,o.order,lF (b:=b5) List.length_set Q W hO2t.pA,lF (b:=b6) List.length_set aa ab hO2f.pA,o.o3⟩ (fun y f=>.inr (by simp[f])) (fun y f=>.inr (by rcases List.mem_append.1 f with f | f;(simp[f]);rcases List.mem_append.1 f with f | f<;>simp[f])) (fun y f=>.inr (by rw[List.mem_singleton.1 f];simp)) (fun y f=>.inr (by rcases List.mem_append.1 f with f | f;(simp[f]);rcases List.mem_append.1 f with f | f<;>simp[f])) (fun y f=>.inr (by rw[List.mem_singleton.1 f];simp)) (fun y f=>.inr (by simp[f])) (fun y f=>.inr (by simp[f]))) e aq.keeps).mono fun _ _ hh=>⟨hh.1,J.tk aq hh.2⟩) (fun U aq=>?_);replace aq:=aq.CN (.there (.there (.cM (.cM (.there (.cM (.there (.cM (.cM (.there (.there (.there (.there .base)))))))))))));refine O Z (cV Z) Z<|Pv 2 Z<|aE Z (fun a1=>?_) (fun a1=>?_)
 ·refine Pt 2 Z (O Z (Qy (places:=[(0,1),(1,1),(2,1),(3,1)]) (zero:=[.ax,.ax,.ax,.ax]) (cs:=[_,_,_,_]) Z) Z<|cC aq (.there (.there (.cM (.cM (.there (.cM (.there (.cM (.cM .here))))))))) Z (QH Z Z Z aq.pop.pop.aQ.aQ.pop.aQ.pop.aQ.aQ.g0 (m:=4) Z Z (cells':=[_,_,_,_]) Z) Z (fun U aq=>?_));refine OQ 5 Z ?_;exact br Z Z aq.pop.pop.aQ.aQ.pop.aQ.pop.aQ.aQ.g0 (m:=4) Y Z Z (.inl ⟨tE h i r hlen<|kA a1,Z,aq.pop.pop.aQ.aQ.pop.aQ.pop.aQ.aQ.pop.pop.pop.pop⟩)
 have a2:bW e (.ofNat g.init.length)=true:=eV a1;refine Ol 5 Z<|O Z (QC Z aq.pop.pop.aQ.aQ.pop.aQ.pop.aQ.aQ.pop.pop.g0 (n:=5) (vs:=[_,_,_,_,_]) Z) Z<|bf Z (Qz Z Z Z) (fun _=>Z) (ml hG e aq) (fun U aq=>?_);refine Pv 2 Z<|aE Z (fun s=>?_) (fun s=>?_)
 ·refine OI 3 Z ?_;have a3:bq e=true:=s;obtain⟨ln,xo,w,A,ce⟩:=Hh h a2 a3;have hxo56:=j0 h _ (gB_ A);refine PZ 2 Z<|ky Z (an Z) (fun ag=>?_) (fun ag=>?_)
  ·refine OO 16 Z (O Z (Qy (places:=[(0,1),(1,1),(2,1),(3,1)]) (zero:=[.ax,.ax,.ax,.ax]) (cs:=[_,_,_,_]) Z) Z<|cC aq (.there (.there (.cM (.cM (.there (.cM (.there (.cM (.cM .here))))))))) Z (QH Z Z Z aq.pop.pop.aQ.aQ.pop.aQ.pop.aQ.aQ.g0 (m:=4) Z Z (cells':=[_,_,_,_]) Z) Z (fun U aq=>?_));refine Px 4 Z<|aw<|aw (?_);exact br Z Z aq.pop.pop.aQ.aQ.pop.aQ.pop.aQ.aQ.g0 (m:=4) Y Z Z (.inl ⟨oA h i r hlen (by unfold cT;rw[show bq e=true from s,ct];rw[show bU pl 1=true from ag];rfl),Z,aq.pop.pop.aQ.aQ.pop.aQ.pop.aQ.aQ.pop.pop.pop.pop⟩)
  obtain⟨pm,rfl⟩:=qj ag;refine P3 aq 2 [3] Z Z<|O Z (QB Z aq.pop.pop.aQ.aQ.pop.aQ.pop.aQ.aQ.pop.pop.pop.g0 Z) Z<|O Z (QA 1 Z) Z<|O Z (QB Z aq.pop.pop.aQ.aQ.pop.aQ.pop.aQ.aQ.pop.pop.g0 Z) Z<|Qu (e:=74) (m:=1) hg.order A Z Z Z (cI w) (fun et dm cg dr ch=>?_);have hr92':=ch;obtain⟨ev,rfl,ci⟩:=hr92';refine O Z (QF aq cg Z Z) Z<|O Z (QD ci Z Z Z (e:=67) Z) Z<|O Z (az Z Z (show _=some (V.int .i64 (.ofNat (xo.length+1))) from cI (bg B))) Z<|Pv 4 Z<|aE Z (fun ap=>?_) (fun ap=>?_)
  ·refine Pt 2 Z (O Z (Qy (places:=[(0,1),(1,1),(2,1),(3,1)]) (zero:=[.ax,.ax,.ax,.ax]) (cs:=[_,_,_,_]) Z) Z<|cC aq (.there (.there (.cM (.cM (.there (.cM (.there (.cM (.cM .here))))))))) Z (QH Z Z Z aq.pop.pop.aQ.aQ.pop.aQ.pop.aQ.aQ.g0 (m:=4) Z Z (cells':=[_,_,_,_]) Z) Z (fun U aq=>?_));refine Px 4 Z<|aw<|aw (?_);exact br Z Z aq.pop.pop.aQ.aQ.pop.aQ.pop.aQ.aQ.g0 (m:=4) Y Z Z (.inl ⟨oA h i r hlen (by unfold cT;rw[show bq e=true from s,ct];rw[show bU (.ofNat (pm+1)) 1=false from ag,cf,ce];exact ap),Z,aq.pop.pop.aQ.aQ.pop.aQ.pop.aQ.aQ.pop.pop.pop.pop⟩)
  refine OK 4 Z ?_;have ck:pm<=xo.length:=by have:=bC ap;omega
  refine O Z (QA 3 Z) Z<|O Z (QB Z aq.pop.pop.aQ.aQ.pop.aQ.pop.aQ.aQ.pop.pop.pop.g0 Z) Z<|O Z (QA 1 Z) Z<|O Z (QB Z aq.pop.pop.aQ.aQ.pop.aQ.pop.aQ.aQ.pop.pop.g0 Z) Z<|Qu (e:=74) (m:=1) hg.order A Z Z Z (cI w) (fun ds c4 a4 c5 a5=>?_);have hr103':=a5;obtain⟨dx,rfl,am⟩:=hr103';refine O Z (QF aq a4 Z Z) Z (Pv 3 Z (aS (l:=[(0,[]),(1,[]),(2,[]),(3,[]),(4,[]),(5,[]),(6,[]),(7,[]),(8,[]),(10,[]),(11,[]),(13,[]),(14,[]),(15,[]),(16,[]),(9,[1,3,10,11]),(12,[1,3]),(17,[1,3]),(18,[]),(19,[])]) Y Y<|P4 aq 3 [3,1,1] Z Z<|al Z Z (QB Z aq.pop.pop.aQ.aQ.pop.aQ.pop.aQ.aQ.pop.pop.g0 Z) Z<|j1 aq Z Z (bY (e:=67) (m:=2) (z:=[T,T]) (cs:=[]) Y Y Y Y bJ) (fun _=>Z) (fun U c7 aq=>?_)));replace aq:J U _ ([(c7,.row [] 67 false)]++_):=aq;refine P1 3 Z<|tZ (e:=67) (m:=2) (k:=pm) am ck Z Z Z Y Y Z (cI<|ej B) (fun _=>Z) (fun d0 a6=>?_);refine al Z Z (QC Z aq.aQ.g0 (n:=2) (vs:=[_,_]) Z) Z<|j1 aq Z Z (bY (e:=67) (m:=2) (z:=[T,T]) (cs:=[_,_]) Y Y Y Y<|bD Z Z Z Z bJ) (fun _=>Z) (fun U ex aq=>?_);refine P1 3 Z<|qh (e:=67) (m:=2) (k:=pm) am ck Z Z Z Y Y Z (cI<|ej B) (fun _=>Z) (fun d1 a7=>?_);replace aq:=aq.pull (.there .here);refine kL (R:=iV) (m:=2) (e:=67) cQ.empty aq a6 iV.leaf (by rw[lT_];show 0+_<=_;omega) Z Z Z Z Z Z Z Z (fun _=>Z) (fun U d2 d3 hO114 aq=>?_);refine⟨(bB (bN Z Z Z Z Z (QB Z aq.aQ.pop.pop.g0 Z) (o.o3.iu (K:=fun _ _=>False)).dX)<|bB (bN Z Z Z Z Z (QB Z aq.aQ.pop.pop.pop.aQ.aQ.pop.aQ.pop.aQ.aQ.pop.pop.g0 Z)<|jk _ _)<|bB (bN Z Z Z Z Z (QC Z aq.aQ.pop.g0 (n:=2) (vs:=[_,_]) Z)<|gH<|bS (fL _ _)<|bS (fL _ _) fx)<|bB (xH Z Z Z Z Z (oC (e:=67) (m:=2) (z:=[T,T]) (cs:=[_,_]) Y Y Y Y<|bD Z Z Z Z bJ) aq.aQ.g0<|bS (fL _ _)<|bS (fL _ _) fx) aV),?_⟩;replace aq:=aq.pull (.cM<|ep.here (X:=[_]));refine mN (R:=iV) (m:=2) (e:=67) hO114 aq (eU (m:=2) Z (show iV ⟨.ofNat (tm+1),.ofNat j.length⟩ _ from Z)) iV.leaf (by simp only[List.nil_append,lT_,List.length_cons,List.length_nil];omega) Z Z Z Z Z Z Z Z (fun _=>Z) (fun U d4 d5 hO117 aq=>?_);refine⟨(bB (bN Z Z Z Z Z (QB Z aq.aQ.pop.g0 Z) (o.o3.iu (K:=fun _ _=>False)).dX)<|bB (bN Z Z Z Z Z (QB Z aq.aQ.pop.pop.aQ.aQ.pop.aQ.pop.aQ.aQ.pop.pop.g0 Z)<|jk _ _) aV),?_⟩;refine kL (R:=iV) (m:=2) (e:=67) hO117 aq a7 iV.leaf (by simp only[List.nil_append,lA_,lT_,lD_,List.length_singleton,List.length_cons,List.length_nil];omega) Z Z Z Z Z Z Z Z (fun _=>Z) (fun U d6 d7 hO122 aq=>?_)
  refine⟨(bB (bN Z Z Z Z Z (QB Z aq.aQ.pop.g0 Z) (o.o3.iu (K:=fun _ _=>False)).dX)<|bB (bN Z Z Z Z Z (QB Z aq.aQ.pop.pop.aQ.aQ.pop.aQ.pop.aQ.aQ.pop.pop.g0 Z)<|jk _ _) aV),?_⟩;have hn3:=o.order.length;have hO3:=o.o3;obtain⟨b3_,c3,e3,rfl,rfl,cl,cn⟩:=Am hO3 (fun e=>by rw[e] at hn3;have:=(gA.1 A).1;simp at hn3;omega);rw[List.singleton_append] at aq;obtain⟨uto,Mto,Ao,Bo,co,d8,cp,a8⟩:=o.order.at A;subst cp;have hlto:=(gA.1 co).1;refine al Z Z (eo (e:=74) (m:=1) Z Y Z (cI w) (show ln<c0.length from hlto)) Z<|gD aq (.cM (.there (.there .here))) Z Z (gR Z Z hO122.leaf.1 aq.aQ.pop.pop.g0 (m:=1) Y Z B<|ah hO122.leaf.2 Z) Z (fun U aq=>?_);refine⟨aV,?_⟩;rw[fW hlto] at aq;have hO2o:=a8 _ _ _ (show cQ 2 67 iV (xo.take pm++⟨.ofNat (tm+1),.ofNat j.length⟩::xo.drop pm) _ _ from by have q:=hO122;rwa[lQ_] at q);refine OS 3 Z<|Pt 2 Z<|O Z (QC Z aq.aQ.pop.g0 (n:=4) (vs:=[_,_,_,_]) Z) Z ?_;replace aq:=aq.app (.cM (.there (.there (.there (.cM (.there (.cM (.there (.cM (.cM (.there (.there (.there (.there .base))))))))))))));refine bf Z (Qz Z Z Z) (fun _=>Z) ((ox hG (g:=eE g tm e fr (.ofNat (pm+1)) j xf) (by rw[sP (pm:=pm) (fr:=fr) (row:=j) (frow:=xf) (tm:=tm) a3 w A];exact(AU.IC (g:=(⟨g.init,g.threads.set tm (j++[e]),g.from_.set tm (xf++[fr]),g.order.set ln (xo.take pm++⟨.ofNat (tm+1),.ofNat j.length⟩::xo.drop pm)⟩:XG)) ⟨o.init,hO2t,hO2f,hO2o,lF (b:=b5) List.length_set Q W hO2t.pA,lF (b:=b6) List.length_set aa ab hO2f.pA,lF (b:=b3_) List.length_set cl cn hO2o.pA⟩ (fun y f=>.inr (by simp[f])) (fun y f=>.inr (by rcases List.mem_append.1 f with f | f;(simp[f]);rcases List.mem_append.1 f with f | f<;>simp[f])) (fun y f=>.inr (by rw[List.mem_singleton.1 f];simp)) (fun y f=>.inr (by rcases List.mem_append.1 f with f | f;(simp[f]);rcases List.mem_append.1 f with f | f<;>simp[f])) (fun y f=>.inr (by rw[List.mem_singleton.1 f];simp)) (fun y f=>.inr (by rcases List.mem_append.1 f with f | f;(simp[f]);rcases List.mem_append.1 f with f | f<;>simp[f])) (fun y f=>.inr (by rw[List.mem_singleton.1 f];simp)))) aq.keeps).mono fun _ _ hh=>⟨hh.1,J.tk aq hh.2⟩) (fun U aq=>?_);replace aq:=aq.CN (.cM (.there (.there (.there (.cM (.there (.cM (.there (.cM (.cM (.there (.there (.there (.there .base))))))))))))));refine Pv 3 Z<|aE Z (fun p=>?_) (fun p=>?_)
  ·refine Pt 2 Z (O Z (Qy (places:=[(0,1),(1,1),(2,1),(3,1)]) (zero:=[.ax,.ax,.ax,.ax]) (cs:=[_,_,_,_]) Z) Z<|cC aq (.cM (.there (.there (.there (.cM (.there (.cM (.there (.cM (.cM .here)))))))))) Z (QH Z Z Z aq.aQ.pop.pop.pop.aQ.pop.aQ.pop.aQ.aQ.g0 (m:=4) Z Z (cells':=[_,_,_,_]) Z) Z (fun U aq=>?_));refine OQ 5 Z ?_;exact br Z Z aq.aQ.pop.pop.pop.aQ.pop.aQ.pop.aQ.aQ.g0 (m:=4) Y Z Z (.inl ⟨tD h i r hlen<|bT p,Z,aq.aQ.pop.pop.pop.aQ.pop.aQ.pop.aQ.aQ.pop.pop.pop.pop⟩)
  refine OK 4 Z<|O Z (QC Z aq.aQ.pop.g0 (n:=4) (vs:=[_,_,_,_]) Z) Z<|cC aq (.cM (.there (.there (.there (.cM (.there (.cM (.there (.cM (.cM .here)))))))))) Z (QH Z Z Z aq.aQ.pop.pop.pop.aQ.pop.aQ.pop.aQ.aQ.g0 (m:=4) Z (ah o.init.leaf.2<|ah Z<|ah Z<|ah o.o3.leaf.2 aC) (cells':=[_,_,_,_]) Z) Z (fun U aq=>?_);refine Px 4 Z ?_;exact br Z Z aq.aQ.pop.pop.pop.aQ.pop.aQ.pop.aQ.aQ.g0 (m:=4) Y Z Z (.inr ⟨_,_,_,_,_,_,AZ h i r hlen (by unfold cT;rw[show bq e=true from s,ct];rw[show bU (.ofNat (pm+1)) 1=false from ag,cf,ce];exact ap)<|bj p,Z,(by rw[sP (pm:=pm) (fr:=fr) (row:=j) (frow:=xf) (tm:=tm) a3 w A];exact(AU.IC (g:=(⟨g.init,g.threads.set tm (j++[e]),g.from_.set tm (xf++[fr]),g.order.set ln (xo.take pm++⟨.ofNat (tm+1),.ofNat j.length⟩::xo.drop pm)⟩:XG)) ⟨o.init,hO2t,hO2f,hO2o,lF (b:=b5) List.length_set Q W hO2t.pA,lF (b:=b6) List.length_set aa ab hO2f.pA,lF (b:=b3_) List.length_set cl cn hO2o.pA⟩ (fun y f=>.inr (by simp[f])) (fun y f=>.inr (by rcases List.mem_append.1 f with f | f;(simp[f]);rcases List.mem_append.1 f with f | f<;>simp[f])) (fun y f=>.inr (by rw[List.mem_singleton.1 f];simp)) (fun y f=>.inr (by rcases List.mem_append.1 f with f | f;(simp[f]);rcases List.mem_append.1 f with f | f<;>simp[f])) (fun y f=>.inr (by rw[List.mem_singleton.1 f];simp)) (fun y f=>.inr (by rcases List.mem_append.1 f with f | f;(simp[f]);rcases List.mem_append.1 f with f | f<;>simp[f])) (fun y f=>.inr (by rw[List.mem_singleton.1 f];simp)))),aq.app (.cM (.there (.there (.there (.cM (.there (.cM (.there (.cM (.cM (.there (.there (.there (.there .base))))))))))))))⟩)
 refine Pt 4 Z<|Pv 2 Z<|aE Z (fun ao=>?_) (fun ao=>?_)
 ·refine Pt 2 Z (O Z (Qy (places:=[(0,1),(1,1),(2,1),(3,1)]) (zero:=[.ax,.ax,.ax,.ax]) (cs:=[_,_,_,_]) Z) Z<|cC aq (.there (.there (.cM (.cM (.there (.cM (.there (.cM (.cM .here))))))))) Z (QH Z Z Z aq.pop.pop.aQ.aQ.pop.aQ.pop.aQ.aQ.g0 (m:=4) Z Z (cells':=[_,_,_,_]) Z) Z (fun U aq=>?_));refine OQ 5 Z ?_;exact br Z Z aq.pop.pop.aQ.aQ.pop.aQ.pop.aQ.aQ.g0 (m:=4) Y Z Z (.inl ⟨oA h i r hlen (by unfold cT;rw[show bq e=false from s,cf,show I pl 0=false from bT ao];rfl),Z,aq.pop.pop.aQ.aQ.pop.aQ.pop.aQ.aQ.pop.pop.pop.pop⟩)
 refine Ol 5 Z<|O Z (QC Z aq.g1 (n:=4) (vs:=[_,_,_,_]) Z) Z ?_;replace aq:=aq.app (.there (.there (.cM (.cM (.there (.cM (.there (.cM (.cM (.there (.there (.there (.there .base)))))))))))));refine bf Z (Qz Z Z Z) (fun _=>Z) ((ox hG (g:=eE g tm e fr pl j xf) (by rw[vt (pl:=pl) (fr:=fr) (row:=j) (frow:=xf) (tm:=tm) s];exact(AU.IC (g:=(⟨g.init,g.threads.set tm (j++[e]),g.from_.set tm (xf++[fr]),g.order⟩:XG)) ⟨o.init,hO2t,hO2f,o.order,lF (b:=b5) List.length_set Q W hO2t.pA,lF (b:=b6) List.length_set aa ab hO2f.pA,o.o3⟩ (fun y f=>.inr (by simp[f])) (fun y f=>.inr (by rcases List.mem_append.1 f with f | f;(simp[f]);rcases List.mem_append.1 f with f | f<;>simp[f])) (fun y f=>.inr (by rw[List.mem_singleton.1 f];simp)) (fun y f=>.inr (by rcases List.mem_append.1 f with f | f;(simp[f]);rcases List.mem_append.1 f with f | f<;>simp[f])) (fun y f=>.inr (by rw[List.mem_singleton.1 f];simp)) (fun y f=>.inr (by simp[f])) (fun y f=>.inr (by simp[f])))) aq.keeps).mono fun _ _ hh=>⟨hh.1,J.tk aq hh.2⟩) (fun U aq=>?_);replace aq:=aq.CN (.there (.there (.cM (.cM (.there (.cM (.there (.cM (.cM (.there (.there (.there (.there .base)))))))))))));refine Pv 3 Z<|aE Z (fun p=>?_) (fun p=>?_)
 ·refine Pt 2 Z (O Z (Qy (places:=[(0,1),(1,1),(2,1),(3,1)]) (zero:=[.ax,.ax,.ax,.ax]) (cs:=[_,_,_,_]) Z) Z<|cC aq (.there (.there (.cM (.cM (.there (.cM (.there (.cM (.cM .here))))))))) Z (QH Z Z Z aq.pop.pop.aQ.aQ.pop.aQ.pop.aQ.aQ.g0 (m:=4) Z Z (cells':=[_,_,_,_]) Z) Z (fun U aq=>?_));refine OQ 5 Z ?_;exact br Z Z aq.pop.pop.aQ.aQ.pop.aQ.pop.aQ.aQ.g0 (m:=4) Y Z Z (.inl ⟨tD h i r hlen<|bT p,Z,aq.pop.pop.aQ.aQ.pop.aQ.pop.aQ.aQ.pop.pop.pop.pop⟩)
 refine OK 4 Z<|O Z (QC Z aq.g1 (n:=4) (vs:=[_,_,_,_]) Z) Z<|cC aq (.there (.there (.cM (.cM (.there (.cM (.there (.cM (.cM .here))))))))) Z (QH Z Z Z aq.pop.pop.aQ.aQ.pop.aQ.pop.aQ.aQ.g0 (m:=4) Z (ah o.init.leaf.2<|ah Z<|ah Z<|ah o.o3.leaf.2 aC) (cells':=[_,_,_,_]) Z) Z (fun U aq=>?_);refine Px 4 Z ?_;exact br Z Z aq.pop.pop.aQ.aQ.pop.aQ.pop.aQ.aQ.g0 (m:=4) Y Z Z (.inr ⟨_,_,_,_,_,_,AZ h i r hlen (by unfold cT;rw[show bq e=false from s,cf,show I pl 0=true from bj ao];rfl)<|bj p,Z,(by rw[vt (pl:=pl) (fr:=fr) (row:=j) (frow:=xf) (tm:=tm) s];exact(AU.IC (g:=(⟨g.init,g.threads.set tm (j++[e]),g.from_.set tm (xf++[fr]),g.order⟩:XG)) ⟨o.init,hO2t,hO2f,o.order,lF (b:=b5) List.length_set Q W hO2t.pA,lF (b:=b6) List.length_set aa ab hO2f.pA,o.o3⟩ (fun y f=>.inr (by simp[f])) (fun y f=>.inr (by rcases List.mem_append.1 f with f | f;(simp[f]);rcases List.mem_append.1 f with f | f<;>simp[f])) (fun y f=>.inr (by rw[List.mem_singleton.1 f];simp)) (fun y f=>.inr (by rcases List.mem_append.1 f with f | f;(simp[f]);rcases List.mem_append.1 f with f | f<;>simp[f])) (fun y f=>.inr (by rw[List.mem_singleton.1 f];simp)) (fun y f=>.inr (by simp[f])) (fun y f=>.inr (by simp[f])))),aq.app (.there (.there (.cM (.cM (.there (.cM (.there (.cM (.cM (.there (.there (.there (.there .base)))))))))))))⟩)
theorem Dr {G:Cx} (c:Plain G) {K:KP} (a:rj) (vv:Int) {U:D} {L:Own} (aq:J U K L):bk Tryz.prog G 56 [.agg [.int .i64 a.kind,.int .i64 a.loc,.int .i64 a.order,.int .i64 a.a,.int .i64 a.b],.int .i64 vv] U fun v U'=>v= .tuple [.agg<|ints (bL a vv).ints,.int .i64<|gY a]/\J U' K L:=by
 refine PS c Tryz.func56 Z<|Pt 2 Z<|kp aq Z (cz Z Z) (fun U b1 aq=>?_);refine kp aq Z (QE (cs:=[T,T,T,T,T])) (fun U b2 aq=>?_);refine OO 5 Z<|O Z (QC Z aq.g1 (n:=5) (vs:=[_,_,_,_,_]) Z) Z<|vQ 1 Z<|bf Z (Qz Z Z Z) (fun _=>Z) (Bu c a vv aq) (fun U aq=>?_);refine PZ 2 Z<|bO aq Z (QH Z Z Z aq.g0 (m:=5) Z Z (cells':=[_,_,_,_,_]) Z) Z (fun U aq=>?_);refine Px 4 Z ?_;exact br Z Z aq.g0 (m:=5) Y Z Z ⟨Z,aq.pop.pop⟩
theorem Fj {l:List Int} {u:V} {M:Own} (h:cQ 1 2 dy l u M) (a:l≠[]):∃b c e,u= .slice b 0 l.length c/\M= [(b,.row (ints l) e false)]/\(c= .known l.length∨(c= .upto 1/\e=2))/\l.length<=1048576:=by
 rcases h with ⟨rfl,_,_⟩ | ⟨b,c,cells,e,rfl,rfl,h3,f,g,j⟩
 ·exact absurd Z a
 refine⟨b,c,e,Z,?_,g,j⟩
 have:cells=ints l:=by
  unfold ints;refine List.ext_getElem (by rw[lM_];omega) fun i k d=>?_
  rw[lM_] at d;have h:=f i l[i] (gC d);have h:(cells.drop (i*1)).take 1= [.int .i64 l[i]]:=h;rw[Nat.mul_one,List.drop_eq_getElem_cons k] at h;rw[List.getElem_map];exact(List.cons.inj h).1
 rw[this]
theorem Fi {l:List Int} {b e n:Nat} {c:pH} (d:l.length=n) (f:c= .known n∨(c= .upto 1/\e=2)) (g:n<=1048576):cQ 1 2 dy l (.slice b 0 n c) [(b,.row (ints l) e false)]:=by
 subst d
 exact .inr ⟨b,c,ints l,e,Z,Z,by unfold ints;rw[lM_,Nat.mul_one],fun i x h=>by
  obtain⟨j,k⟩:=gA.1 h;show((ints l).drop (i*1)).take 1= [.int .i64 x];unfold ints;have a:i<(l.map<|V.int .i64).length:=by rw[lM_];exact j
  rw[Nat.mul_one,List.drop_eq_getElem_cons a,List.getElem_map,k];rfl,f,g⟩
theorem ints_set (l:List Int) (i:Nat) (v:Int):(ints l).set i (.int .i64 v)=ints (l.set i v):=by unfold ints;rw[List.map_set]
theorem HY {G:Cx} (hG:Plain G) {K:KP} {k:Nat} {l:List XC} {lv:V} (hl:bR K 2 (mY K k) l lv) (hF:AR k l) {r:XM} {mv:V} (ao:bR K 1 dy r.mem mv) {a b c d:V} (hg:eN K r.g a b c d) (p:Int) {U:D} {L:Own} (aq:J U K L):
  bk Tryz.prog G 21 [lv,.agg [mv,a,b,c,d],.int .i64 p] U fun v U'=>(∃e,v= .tuple [.agg [.ax,.ax,.ax,.ax,.ax],.int .i64 e]/\I e 0=false/\mX k l r p=(none,e)/\J U' K L)∨
   ∃K1 r' m' a' b' c' d',v= .tuple [.agg [m',a',b',c',d'],T]/\mX k l r p=(some r',0)/\KP.le K K1/\bR K1 1 dy r'.mem m'/\eN K1 r'.g a' b' c' d'/\J U' K1 L:=by
 refine PS hG Tryz.func21 Z<|Pt 2 Z<|kp aq Z (cz Z Z) (fun U b1 aq=>?_);refine kp aq Z (QE (cs:=[.ax,.ax,.ax,.ax,.ax])) (fun U b2 aq=>?_);refine On 7 Z<|O Z (QC Z aq.g1 (n:=5) (vs:=[_,_,_,_,_]) Z) Z<|bf Z (Qz Z Z Z) (fun _=>Z) (Ku hG hl hF ao hg aq) (fun U aq=>?_);refine O Z (cV Z) Z<|ky Z (an Z) (fun ap=>?_) (fun ap=>?_)
 ·refine OO 14 Z (O Z (Qy (places:=[(0,1),(1,4)]) (zero:=[.ax,.ax,.ax,.ax,.ax]) (cs:=[_,_,_,_,_]) Z) Z<|bO aq Z (QH Z Z Z aq.g0 (m:=5) Z Z (cells':=[_,_,_,_,_]) Z) Z (fun U aq=>?_));refine OQ 5 Z ?_;exact br Z Z aq.g0 (m:=5) Y Z Z (.inl ⟨2,Z,Z,by unfold mX;rw[kA ap];rfl,aq.pop.pop⟩)
 refine PZ 3 Z<|ky Z (an Z) (fun aI=>?_) (fun aI=>?_)
 ·refine OO 10 Z (O Z (Qy (places:=[(0,1),(1,4)]) (zero:=[.ax,.ax,.ax,.ax,.ax]) (cs:=[_,_,_,_,_]) Z) Z<|bO aq Z (QH Z Z Z aq.g0 (m:=5) Z Z (cells':=[_,_,_,_,_]) Z) Z (fun U aq=>?_));refine OQ 5 Z ?_;exact br Z Z aq.g0 (m:=5) Y Z Z (.inl ⟨2,Z,Z,by unfold mX;rw[eV ap,aI];rfl,aq.pop.pop⟩)
 refine PZ 2 Z<|O Z (QD hl Z Z Z (e:=33) Z) Z<|Pv 4 Z<|aE Z (fun a9=>?_) (fun a9=>?_)
 ·refine Pt 2 Z (O Z (Qy (places:=[(0,1),(1,4)]) (zero:=[.ax,.ax,.ax,.ax,.ax]) (cs:=[_,_,_,_,_]) Z) Z<|bO aq Z (QH Z Z Z aq.g0 (m:=5) Z Z (cells':=[_,_,_,_,_]) Z) Z (fun U aq=>?_));refine OQ 5 Z ?_;exact br Z Z aq.g0 (m:=5) Y Z Z (.inl ⟨2,Z,Z,by unfold mX;rw[eV ap,aI,a9];rfl,aq.pop.pop⟩)
 refine OJ 3 Z (aS (l:=[(0,[]),(1,[]),(2,[]),(3,[]),(4,[]),(5,[]),(6,[]),(7,[]),(8,[]),(9,[]),(10,[]),(11,[]),(16,[]),(12,[16]),(13,[]),(14,[]),(15,[]),(17,[]),(18,[])]) Y Y ?_);have be:yc k l r.mem r.g=true:=eV ap;have hinv:tC k l r:=Fk be;have hck:=hinv.Gi;obtain⟨c0,d0,c1,d1,bs,d3,d4⟩:=cK hck;obtain⟨tp,rfl⟩:=qj aI;have bt:tp<l.length:=by have:=bC a9;omega
 have d5:l.length<=4:=by rw[<-hinv.len];exact c0
 obtain⟨xc,Q⟩:=cm bt;obtain⟨row,i⟩:=cm (show tp<r.g.threads.length from by rw[hinv.len];exact bt);obtain⟨c3,c4⟩:=hF xc (gB_ Q);have hrl:=c1 row (gB_ i);have hR:=xG be aI a9;have hR:mX k l r (.ofNat (tp+1))=eG k l r tp:=hR;refine P1 3 Z<|Qv (e:=33) (m:=2) hl Q Z Z Z Z (cI<|ej B) (fun d6 c5 bv c7 bw=>?_);have hr36':=bw;obtain⟨d7,rfl,b0⟩:=hr36';refine al Z Z (QG aq bv Z Z) Z<|P4 aq 5 [1,1,1] Z Z<|Qv (e:=57) (m:=1) hg.threads i Z Z Z Z (cI<|ej B) (fun d8 c8 ca c9 cb=>?_);have hr43':=cb;obtain⟨d9,rfl,cc⟩:=hr43';refine al Z Z (QF aq ca Z Z) Z<|pB aq Z Z (QE (cs:=[T,T,T,T,T,T,T,T,T,T,T])) (fun _=>Z) (fun U b3 aq=>?_);refine cA Z Z (Qz Z Z Z) (fun _=>Z) (HW hG b0 c3 c4 cc B aq) (fun U aq=>?_);refine⟨(bB (iq Z Z Z Z Z (cs:=[T,T,T,T,T,T,T,T,T,T,T]) (e:=87) Y aq.g0 Y) aV),?_⟩;refine P1 3 Z<|kb aq Z Z (QH Z Z Z aq.g0 (m:=11) Z Z (cells':=[_,_,_,_,_,_,_,_,_,_,_]) Z) Z (fun U aq=>?_);refine⟨aV,?_⟩;refine OS 4 Z<|PA aq 5 [10,0] Z Z<|Pv 2 Z<|aE Z (fun am=>?_) (fun am=>?_)
 ·refine Pt 2 Z (O Z (Qy (places:=[(0,1),(1,4)]) (zero:=[.ax,.ax,.ax,.ax,.ax]) (cs:=[_,_,_,_,_]) Z) Z<|eh aq Z (QH Z Z Z aq.g1 (m:=5) Z Z (cells':=[_,_,_,_,_]) Z) Z (fun U aq=>?_));refine OQ 5 Z ?_;exact br Z Z aq.g1 (m:=5) Y Z Z (.inl ⟨10,Z,Z,by rw[hR];exact JF hinv Q i<|bT am,aq.pop.pop.pop⟩)
 refine Ot aq 10 [1,1,2] Z Z<|Qu (e:=57) (m:=1) hg.threads i Z Z Z (cI<|ej B) (fun eb dd ce dl cg=>?_);have hr57':=cg;obtain⟨ee,rfl,ch⟩:=hr57';refine O Z (QF aq ce Z Z) Z<|O Z (QD ch Z Z Z (e:=56) Z) Z<|Pv 3 Z<|aE Z (fun aY=>?_) (fun aY=>?_)
 ·refine Pt 2 Z (O Z (Qy (places:=[(0,1),(1,4)]) (zero:=[.ax,.ax,.ax,.ax,.ax]) (cs:=[_,_,_,_,_]) Z) Z<|eh aq Z (QH Z Z Z aq.g1 (m:=5) Z Z (cells':=[_,_,_,_,_]) Z) Z (fun U aq=>?_));refine OQ 5 Z ?_;exact br Z Z aq.g1 (m:=5) Y Z Z (.inl ⟨3,Z,Z,by rw[hR];exact JG hinv Q i (bj am)<|bT aY,aq.pop.pop.pop⟩)
 refine OV aq 5 [0] Z Z<|O Z (QC Z aq.g0 (n:=5) (vs:=[_,_,_,_,_]) Z) Z<|kp aq Z (QE (cs:=[T,T,T,T,T])) (fun U b4 aq=>?_);refine bO aq Z (QH Z Z Z aq.g0 (m:=5) Z Z (cells':=[_,_,_,_,_]) Z) Z (fun U aq=>?_);refine OO 4 Z<|kp aq Z (QE (cs:=[T,T])) (fun U b5 aq=>?_);refine OW aq 11 [5,0,2] Z Z<|aE Z (fun W=>?_) (fun W=>?_)
 ·refine OU aq 8 [5,1,2,0,4] Z Z<|O Z (QD ao Z Z Z (e:=2) Z) Z<|Pv 3 Z<|aE Z (fun bl=>?_) (fun bl=>?_)
  ·refine Pt 2 Z (O Z (Qy (places:=[(0,1),(1,4)]) (zero:=[.ax,.ax,.ax,.ax,.ax]) (cs:=[_,_,_,_,_]) Z) Z<|jz aq Z (QH Z Z Z (aq.get 3 Z) (m:=5) Z Z (cells':=[_,_,_,_,_]) Z) Z (fun U aq=>?_));refine Px 4 Z<|aw<|aw (?_);exact br Z Z (aq.get 3 Z) (m:=5) Y Z Z (.inl ⟨2,Z,Z,by rw[hR];exact JH hinv Q i (bj am) (bj aY) W<|bT bl,aq.pop.pop.pop.pop.pop⟩)
  refine OJ 3 Z<|aS (l:=zp [0,1,2,3,4,5,6,7,8,9,10,11,12,13]) Y Y<|al Z Z (QA 5 Z) Z<|al Z Z (QC Z (aq.get 2 Z) (n:=5) (vs:=[_,_,_,_,_]) Z) Z<|P4 aq 5 [0,4,5,1,2] Z Z ?_;have hlt74:=bj bl;obtain⟨ln,bb⟩:=iQ (B1.2<|EV (q8 hinv Q i)<|bT W);obtain⟨x84,a0⟩:=cm (show ln<r.mem.length from by rw[bb] at hlt74;exact bu hlt74);refine Qv (e:=2) (m:=1) ao a0 Z Z Z Z (cI bb) (fun eg dm ci dr ck=>?_);obtain rfl:=ck;refine al Z Z (QF aq ci Z Z) Z<|cA Z Z (Qz Z Z Z) (fun _=>Z) (Dr hG (bI k xc row).1.ask x84 aq) (fun U aq=>?_);refine⟨aV,?_⟩;refine P1 3 Z<|z9 aq Z Z (QH Z Z Z aq.g1 (m:=5) Z Z (cells':=[_,_,_,_,_]) Z) Z (fun U aq=>?_);refine⟨aV,?_⟩;refine OS 3 Z<|P2 aq 2 [1] Z Z<|O Z (QC Z (aq.get 4 Z) (n:=4) (vs:=[_,_,_,_]) Z) Z<|P3 aq 3 [5,1,2] Z Z<|cH Z (Qz Z Z Z) (fun _=>Z) (nR hG hg _ aq) ?_;rintro el U ⟨em,hM94,aq⟩;obtain⟨K1,X,cl,aq⟩:=aq.fy;have hw:=hM94.kq (K:=K1) fun y hy=>cl _ hy;have hg1:=hg.mono X;have hmv1:=ao.mono X (fun _ _ h=>h)
  refine Pw 6 Z<|O Z (QD hw Z Z Z (e:=67) Z) Z<|vQ 1 Z ?_;have en:0<(cu r.g (bI k xc row).1.ask.loc).length:=by obtain⟨o,ho⟩:=g8 hck (show ln<r.g.init.length from by rw[<-hinv.mem];exact(gA.1 a0).1);rw[bb,ez (by rw[hck];rfl) ho];exact Nat.succ_pos _
  obtain⟨x99,bi⟩:=cm (show(cu r.g (bI k xc row).1.ask.loc).length-1<(cu r.g (bI k xc row).1.ask.loc).length from by omega);refine Qu (e:=67) (m:=2) hw bi Z Z Z (cI<|kY (b:=1) B hw.bG) (fun er ds cn dx co=>?_);obtain rfl:=co;refine O Z (QG aq cn Z Z) Z<|bO aq Z (QH Z Z Z aq.g0 (m:=2) Z Z (cells':=[_,_]) Z) Z (fun U aq=>?_);refine OO 4 Z ?_;replace aq:=aq.sub (.cons_cons _ (.cons_cons _ (.cons _ (.cons_cons _ (.cons_cons _ (.refl _))))));refine Pv 3 Z ?_;refine jv ([13]++rg 101 14) (fun t U=>∃(pl:Int),pl=Ab r.g (bL (bI k xc row).1.ask x84)/\t.get 13=some (.int .i64 pl)/\J U K1 ((b5,.row [.int .i64 x99.ia,.int .i64 x99.index] 67 false)::(b4,.row [.int .i64 (bL (bI k xc row).1.ask x84).kind,.int .i64 (bL (bI k xc row).1.ask x84).loc,.int .i64 (bL (bI k xc row).1.ask x84).order,.int .i64 (bL (bI k xc row).1.ask x84).read,.int .i64 (bL (bI k xc row).1.ask x84).write] 56 false)::(b2,.row [.ax,.ax,.ax,.ax,.ax] 44 false)::(b1,.row [mv,a,b,c,d] 44 false)::L)) ?_ ?_
  ·refine PA aq 5 [0,1] Z Z<|ky Z (an Z) (fun C=>?_) (fun C=>?_)
   ·refine PE aq 9 [1] Z Z<|O Z (QC Z (aq.get 3 Z) (n:=4) (vs:=[_,_,_,_]) Z) Z<|P3 aq 2 [1,1] Z Z<|cH Z (Qz Z Z Z) (fun _=>Z) (nR hG hg1 _ aq) ?_;rintro a1 U ⟨a3,hM113,aq⟩;refine O Z (xS hM113 Z Z Z (e:=67) Y Z) Z<|PY 2 Z ?_;replace aq:=aq.sub (.trans (.cons_cons _ (.cons_cons _ (.cons_cons _ (.cons_cons _ (.refl _)))))<|List.sublist_append_right _ _);exact⟨Z,oF,_,(by unfold Ab;rw[show bq (bL (bI k xc row).1.ask x84)=true from by unfold bq;rw[show I (bL (bI k xc row).1.ask x84).kind 2=true from C];rfl];rfl),Z,aq⟩
   refine PC aq 6 [0,1] Z Z<|aE Z (fun F=>?_) (fun F=>?_)
   ·refine P2 aq 2 [1] Z Z<|O Z (QC Z (aq.get 3 Z) (n:=4) (vs:=[_,_,_,_]) Z) Z<|P3 aq 2 [1,1] Z Z<|cH Z (Qz Z Z Z) (fun _=>Z) (nR hG hg1 _ aq) ?_;rintro a1 U ⟨a3,hM113,aq⟩;refine O Z (xS hM113 Z Z Z (e:=67) Y Z) Z<|PY 2 Z ?_;replace aq:=aq.sub (.trans (.cons_cons _ (.cons_cons _ (.cons_cons _ (.cons_cons _ (.refl _)))))<|List.sublist_append_right _ _);exact⟨Z,oF,_,(by unfold Ab;rw[show bq (bL (bI k xc row).1.ask x84)=true from by unfold bq;rw[show I (bL (bI k xc row).1.ask x84).kind 2=false from C];exact F];rfl),Z,aq⟩
   refine aG ?_;exact⟨Z,oF,_,(by unfold Ab;rw[show bq (bL (bI k xc row).1.ask x84)=false from by unfold bq;rw[show I (bL (bI k xc row).1.ask x84).kind 2=false from C];exact F];rfl),Z,aq⟩
  clear aq;intro t U ar hI;obtain⟨pl,P,a4,aq⟩:=hI;obtain⟨oo,rfl⟩:=ar.q1 a4 Z;refine PA aq 3 [1] Z Z<|O Z (QC Z (aq.get 3 Z) (n:=4) (vs:=[_,_,_,_]) Z) Z<|vQ 1 Z<|O Z (QC Z aq.g1 (n:=5) (vs:=[_,_,_,_,_]) Z) Z<|O Z (QC Z aq.g0 (n:=2) (vs:=[_,_]) Z) Z<|vQ 1 Z ?_;have hlen:bU (.ofNat row.length) 14=true:=bj aY;have hstep:=CE hinv Q i (bj am) hlen (fun _=>hlt74);have h1:eD (bI k xc row).1 r.mem=bL (bI k xc row).1.ask x84:=by unfold eD;rw[show vg (bI k xc row).1=true from W,bb,show(Int.ofNat ln).toNat=ln from Z,a0];rfl
  have h2:L2 (bI k xc row).1 r.g=x99:=by unfold L2;rw[show vg (bI k xc row).1=true from W,List.getLast?_eq_getElem?,bi];rfl
  have x:eG k l r tp=HA r.mem (bL (bI k xc row).1.ask x84) x99 pl (.ofNat (tp+1)) r.g:=by rw[hstep,h1,h2,P]
  refine cH Z (Qz Z Z Z) (fun _=>Z) (LZ hG hg1 hck i hlen (bL (bI k xc row).1.ask x84) x99 pl aq) ?_;rintro _ U (⟨j,rfl,aq⟩ | ⟨g2,a2,b2_,c2,d2,M2,j,rfl,f,aq⟩)
  ·refine PZ 3 Z<|kp aq Z (QE (cs:=[.ax,.ax,.ax,.ax])) (fun U b6 aq=>?_);refine bO aq Z (QH Z Z Z aq.g0 (m:=4) Z Z (cells':=[_,_,_,_]) Z) Z (fun U aq=>?_);refine ON 10 Z<|aE Z (fun q=>?_) (fun q=>?_)
   ·refine Pt 2 Z (O Z (Qy (places:=[(0,1),(1,4)]) (zero:=[.ax,.ax,.ax,.ax,.ax]) (cs:=[_,_,_,_,_]) Z) Z<|jz aq Z (QH Z Z Z (aq.get 3 Z) (m:=5) Z Z (cells':=[_,_,_,_,_]) Z) Z (fun U aq=>?_));refine OQ 5 Z ?_;exact br Z Z (aq.get 3 Z) (m:=5) Y Z Z (.inl ⟨2,Z,Z,by rw[hR,x];unfold HA;rw[j],(aq.pop.pop.pop.pop.pop).weaken X⟩)
   exact absurd q (by decide)
  obtain⟨K2,s,aa,aq⟩:=aq.fy;replace f:eN K2 g2 a2 b2_ c2 d2:=f.mono fun b o h=>h.elim (s b o) (aa (b,o))
  have hmv2:=hmv1.mono s (fun _ _ h=>h);have hgo:=hg1.mono s;refine PZ 3 Z<|kp aq Z (QE (cs:=[.ax,.ax,.ax,.ax])) (fun U b6 aq=>?_);refine bO aq Z (QH Z Z Z aq.g0 (m:=4) Z (ah f.init.leaf.2<|ah f.threads.leaf.2<|ah f.from_.leaf.2<|ah f.order.leaf.2 aC) (cells':=[_,_,_,_]) Z) Z (fun U aq=>?_);refine ON 10 Z<|aE Z (fun q=>?_) (fun q=>?_)
  ·exact absurd q (by decide)
  refine OJ 3 Z (aS (l:=[(0,[]),(1,[]),(2,[]),(4,[]),(6,[]),(3,[4,6]),(5,[]),(7,[])]) Y Y<|j1 aq Z Z (bY (e:=2) (m:=1) (z:=[T]) (cs:=[]) Y Y Y Y bJ) (fun _=>Z) (fun U b7 aq=>?_));replace aq:J U _ ([(b7,.row [] 2 false)]++_):=aq;refine al Z Z (QA 0 Z) Z<|al Z Z (QB Z aq.aQ.pop.pop.pop.pop.g0 Z) Z<|al Z Z (QC Z aq.aQ.g0 (n:=4) (vs:=[_,_,_,_]) Z) Z<|pB aq Z Z (QE (cs:=[.ax,.ax,.ax,.ax,.ax])) (fun _=>Z) (fun U b8 aq=>?_);replace aq:=aq.pull (.there .here);refine kL (R:=dy) (m:=1) (e:=2) cQ.empty aq hmv2 dy.leaf (by have:=hinv.mem;show 0+_<=_;omega) Z Z Z Z Z Z Z Z (fun _=>Z) (fun U cp cv hO131 aq=>?_);refine⟨(bB (bN Z Z Z Z Z (QC Z aq.aQ.pop.g0 (n:=4) (vs:=[_,_,_,_]) Z)<|gH<|bS f.init.fD<|bS f.threads.fD<|bS f.from_.fD<|bS f.order.fD fx)<|bB (iq Z Z Z Z Z (cs:=[.ax,.ax,.ax,.ax,.ax]) (e:=44) Y aq.aQ.g0 Y) aV),?_⟩;refine al Z Z (bF (places:=[(0,1),(1,4)]) (zero:=[.ax,.ax,.ax,.ax,.ax]) (cs:=[_,_,_,_,_]) Y Y Y (bD Z Z hO131.leaf.1 Z<|bD Z Z Z Z bJ) Y) Z<|gD aq (.cM .here) Z Z (QH Z Z Z aq.aQ.g0 (m:=5) Z (ah hO131.leaf.2<|ah f.init.leaf.2<|ah f.threads.leaf.2<|ah f.from_.leaf.2<|ah f.order.leaf.2 aC) (cells':=[_,_,_,_,_]) Z) Z (fun U aq=>?_);refine⟨aV,?_⟩;refine OS 9 Z<|aE Z (fun u=>?_) (fun u=>?_)
  ·refine P2 aq 2 [0] Z Z<|O Z (QB Z aq.aQ.g0 Z) Z<|O Z (QA 1 Z) Z<|O Z (QB Z aq.aQ.pop.pop.pop.g0 Z) Z<|O Z (QA 4 Z) Z<|O Z (QB Z aq.aQ.pop.pop.pop.g0 Z) Z ?_;have bm:bq (bL (bI k xc row).1.ask x84)=true:=by rcases hq:bq (bL (bI k xc row).1.ask x84) with _ | _;(unfold Ab at P;rw[hq] at P;rw[P] at u;cases u);rfl
   obtain⟨_,_,_,_,_,_,_,_,a5,_,_⟩:=jS j;obtain⟨lw,rw_,a6,bo,_⟩:=lP a5 bm;have E:lw<r.mem.length:=by rw[hinv.mem,<-bs];exact(gA.1 bo).1
   rw[List.nil_append] at hO131;obtain⟨b9,cx,a7,rfl,rfl,ab,ac⟩:=Fj hO131 (fun e=>by rw[e] at E;exact absurd E<|nZ_ _);rw[List.singleton_append] at aq;have a8:lw<(ints r.mem).length:=by unfold ints;rw[lM_];exact E
   refine O Z (eo (e:=2) (m:=1) Z Y Z (cI a6) E) Z<|cC aq .here Z (gR Z Z Z aq.g0 (m:=1) Y Z B<|ah Z Z) Z (fun U aq=>?_);rw[fW a8,ints_set] at aq;refine OO 4 Z<|O Z (QC Z aq.g1 (n:=5) (vs:=[_,_,_,_,_]) Z) Z<|cC aq (.there (.there (.there (.there (.there .here))))) Z (QH Z Z Z (aq.get 5 Z) (m:=5) Z (ah hO131.leaf.2<|ah f.init.leaf.2<|ah f.threads.leaf.2<|ah f.from_.leaf.2<|ah f.order.leaf.2 aC) (cells':=[_,_,_,_,_]) Z) Z (fun U aq=>?_);refine Px 4 Z ?_;have hO9:=Fi (l:=r.mem.set lw (bL (bI k xc row).1.ask x84).write) (b:=b9) (e:=a7) List.length_set ab ac;have ag:oX r.mem (bL (bI k xc row).1.ask x84) pl=r.mem.set lw (bL (bI k xc row).1.ask x84).write:=by unfold oX;rw[show bU 0 pl=true from u,a6];rfl
   obtain⟨K3,w,A,aq⟩:=J.fy (M:=[_]) aq;have q9:=hO9.kq (K:=K3) fun y hy=>A _ hy
   exact br Z Z (aq.get 4 Z) (m:=5) Y Z Z (.inr ⟨K3,⟨oX r.mem (bL (bI k xc row).1.ask x84) pl,g2⟩,_,_,_,_,_,Z,by rw[hR,x];unfold HA;rw[j],KP.le_trans (KP.le_trans X s) w,by rw[show(⟨oX r.mem (bL (bI k xc row).1.ask x84) pl,g2⟩:XM).mem=_ from ag];exact q9,f.mono w,aq.pop.pop.pop.pop.pop.pop⟩)
  refine OK 4 Z<|O Z (QC Z aq.aQ.g0 (n:=5) (vs:=[_,_,_,_,_]) Z) Z<|cC aq (.cM (.there (.there (.there (.there .here))))) Z (QH Z Z Z aq.aQ.pop.pop.pop.pop.g0 (m:=5) Z (ah hO131.leaf.2<|ah f.init.leaf.2<|ah f.threads.leaf.2<|ah f.from_.leaf.2<|ah f.order.leaf.2 aC) (cells':=[_,_,_,_,_]) Z) Z (fun U aq=>?_);refine Px 4 Z ?_;rw[List.nil_append] at hO131;have hO9:=hO131;have ag:oX r.mem (bL (bI k xc row).1.ask x84) pl=r.mem:=by unfold oX;rw[show bU 0 pl=false from u];rfl
  obtain⟨K3,w,A,aq⟩:=J.fy aq;have q9:=hO9.kq (K:=K3) fun y hy=>A _ hy
  exact br Z Z (aq.get 4 Z) (m:=5) Y Z Z (.inr ⟨K3,⟨oX r.mem (bL (bI k xc row).1.ask x84) pl,g2⟩,_,_,_,_,_,Z,by rw[hR,x];unfold HA;rw[j],KP.le_trans (KP.le_trans X s) w,by rw[show(⟨oX r.mem (bL (bI k xc row).1.ask x84) pl,g2⟩:XM).mem=_ from ag];exact q9,f.mono w,aq.pop.pop.pop.pop.pop.pop⟩)
 refine OK 4 Z ?_;replace aq:=aq.sub (.cons_cons _ (.cons_cons _ (.cons _ (.cons_cons _ (.cons_cons _ (.refl _))))));refine Pv 3 Z ?_;refine jv ([13]++rg 101 14) (fun t U=>∃(pl:Int),pl=Ab r.g ((bI k xc row).1.event)/\t.get 13=some (.int .i64 pl)/\J U K ((b5,.row [T,T] 67 false)::(b4,.row [.int .i64 ((bI k xc row).1.event).kind,.int .i64 ((bI k xc row).1.event).loc,.int .i64 ((bI k xc row).1.event).order,.int .i64 ((bI k xc row).1.event).read,.int .i64 ((bI k xc row).1.event).write] 56 false)::(b2,.row [.ax,.ax,.ax,.ax,.ax] 44 false)::(b1,.row [mv,a,b,c,d] 44 false)::L)) ?_ ?_
 ·refine PA aq 5 [0,1] Z Z<|ky Z (an Z) (fun C=>?_) (fun C=>?_)
  ·refine PE aq 9 [1] Z Z<|O Z (QC Z (aq.get 3 Z) (n:=4) (vs:=[_,_,_,_]) Z) Z<|P3 aq 2 [1,1] Z Z<|cH Z (Qz Z Z Z) (fun _=>Z) (nR hG hg _ aq) ?_;rintro a1 U ⟨a3,hM113,aq⟩;refine O Z (xS hM113 Z Z Z (e:=67) Y Z) Z<|PY 2 Z ?_;replace aq:=aq.sub (.trans (.cons_cons _ (.cons_cons _ (.cons_cons _ (.cons_cons _ (.refl _)))))<|List.sublist_append_right _ _);exact⟨Z,oF,_,(by unfold Ab;rw[show bq ((bI k xc row).1.event)=true from by unfold bq;rw[show I ((bI k xc row).1.event).kind 2=true from C];rfl];rfl),Z,aq⟩
  refine PC aq 6 [0,1] Z Z<|aE Z (fun F=>?_) (fun F=>?_)
  ·refine P2 aq 2 [1] Z Z<|O Z (QC Z (aq.get 3 Z) (n:=4) (vs:=[_,_,_,_]) Z) Z<|P3 aq 2 [1,1] Z Z<|cH Z (Qz Z Z Z) (fun _=>Z) (nR hG hg _ aq) ?_;rintro a1 U ⟨a3,hM113,aq⟩;refine O Z (xS hM113 Z Z Z (e:=67) Y Z) Z<|PY 2 Z ?_;replace aq:=aq.sub (.trans (.cons_cons _ (.cons_cons _ (.cons_cons _ (.cons_cons _ (.refl _)))))<|List.sublist_append_right _ _);exact⟨Z,oF,_,(by unfold Ab;rw[show bq ((bI k xc row).1.event)=true from by unfold bq;rw[show I ((bI k xc row).1.event).kind 2=false from C];exact F];rfl),Z,aq⟩
  refine aG ?_;exact⟨Z,oF,_,(by unfold Ab;rw[show bq ((bI k xc row).1.event)=false from by unfold bq;rw[show I ((bI k xc row).1.event).kind 2=false from C];exact F];rfl),Z,aq⟩
 clear aq;intro t U ar hI;obtain⟨pl,P,a4,aq⟩:=hI;obtain⟨oo,rfl⟩:=ar.q1 a4 Z;refine PA aq 3 [1] Z Z<|O Z (QC Z (aq.get 3 Z) (n:=4) (vs:=[_,_,_,_]) Z) Z<|vQ 1 Z<|O Z (QC Z aq.g1 (n:=5) (vs:=[_,_,_,_,_]) Z) Z<|O Z (QC Z aq.g0 (n:=2) (vs:=[_,_]) Z) Z<|vQ 1 Z ?_;have hlen:bU (.ofNat row.length) 14=true:=bj aY;have hstep:=CE hinv Q i (bj am) hlen (fun hh=>absurd (show vg (bI k xc row).1=true from hh) (by rw[show vg (bI k xc row).1=false from W];decide));have h1:eD (bI k xc row).1 r.mem=(bI k xc row).1.event:=by unfold eD;rw[show vg (bI k xc row).1=false from W];rfl
 have h2:L2 (bI k xc row).1 r.g=⟨0,0⟩:=by unfold L2;rw[show vg (bI k xc row).1=false from W];rfl
 have x:eG k l r tp=HA r.mem ((bI k xc row).1.event) ⟨0,0⟩ pl (.ofNat (tp+1)) r.g:=by rw[hstep,h1,h2,P]
 refine cH Z (Qz Z Z Z) (fun _=>Z) (LZ hG hg hck i hlen ((bI k xc row).1.event) ⟨0,0⟩ pl aq) ?_;rintro _ U (⟨j,rfl,aq⟩ | ⟨g2,a2,b2_,c2,d2,M2,j,rfl,f,aq⟩)
 ·refine PZ 3 Z<|kp aq Z (QE (cs:=[.ax,.ax,.ax,.ax])) (fun U b6 aq=>?_);refine bO aq Z (QH Z Z Z aq.g0 (m:=4) Z Z (cells':=[_,_,_,_]) Z) Z (fun U aq=>?_);refine ON 10 Z<|aE Z (fun q=>?_) (fun q=>?_)
  ·refine Pt 2 Z (O Z (Qy (places:=[(0,1),(1,4)]) (zero:=[.ax,.ax,.ax,.ax,.ax]) (cs:=[_,_,_,_,_]) Z) Z<|jz aq Z (QH Z Z Z (aq.get 3 Z) (m:=5) Z Z (cells':=[_,_,_,_,_]) Z) Z (fun U aq=>?_));refine OQ 5 Z ?_;exact br Z Z (aq.get 3 Z) (m:=5) Y Z Z (.inl ⟨2,Z,Z,by rw[hR,x];unfold HA;rw[j],aq.pop.pop.pop.pop.pop⟩)
  exact absurd q (by decide)
 obtain⟨K2,s,aa,aq⟩:=aq.fy;replace f:eN K2 g2 a2 b2_ c2 d2:=f.mono fun b o h=>h.elim (s b o) (aa (b,o))
 have hmv2:=ao.mono s (fun _ _ h=>h);have hgo:=hg.mono s;refine PZ 3 Z<|kp aq Z (QE (cs:=[.ax,.ax,.ax,.ax])) (fun U b6 aq=>?_);refine bO aq Z (QH Z Z Z aq.g0 (m:=4) Z (ah f.init.leaf.2<|ah f.threads.leaf.2<|ah f.from_.leaf.2<|ah f.order.leaf.2 aC) (cells':=[_,_,_,_]) Z) Z (fun U aq=>?_);refine ON 10 Z<|aE Z (fun q=>?_) (fun q=>?_)
 ·exact absurd q (by decide)
 refine OJ 3 Z (aS (l:=[(0,[]),(1,[]),(2,[]),(4,[]),(6,[]),(3,[4,6]),(5,[]),(7,[])]) Y Y<|j1 aq Z Z (bY (e:=2) (m:=1) (z:=[T]) (cs:=[]) Y Y Y Y bJ) (fun _=>Z) (fun U b7 aq=>?_));replace aq:J U _ ([(b7,.row [] 2 false)]++_):=aq;refine al Z Z (QA 0 Z) Z<|al Z Z (QB Z aq.aQ.pop.pop.pop.pop.g0 Z) Z<|al Z Z (QC Z aq.aQ.g0 (n:=4) (vs:=[_,_,_,_]) Z) Z<|pB aq Z Z (QE (cs:=[.ax,.ax,.ax,.ax,.ax])) (fun _=>Z) (fun U b8 aq=>?_);replace aq:=aq.pull (.there .here);refine kL (R:=dy) (m:=1) (e:=2) cQ.empty aq hmv2 dy.leaf (by have:=hinv.mem;show 0+_<=_;omega) Z Z Z Z Z Z Z Z (fun _=>Z) (fun U cp cv hO131 aq=>?_);refine⟨(bB (bN Z Z Z Z Z (QC Z aq.aQ.pop.g0 (n:=4) (vs:=[_,_,_,_]) Z)<|gH<|bS f.init.fD<|bS f.threads.fD<|bS f.from_.fD<|bS f.order.fD fx)<|bB (iq Z Z Z Z Z (cs:=[.ax,.ax,.ax,.ax,.ax]) (e:=44) Y aq.aQ.g0 Y) aV),?_⟩;refine al Z Z (bF (places:=[(0,1),(1,4)]) (zero:=[.ax,.ax,.ax,.ax,.ax]) (cs:=[_,_,_,_,_]) Y Y Y (bD Z Z hO131.leaf.1 Z<|bD Z Z Z Z bJ) Y) Z<|gD aq (.cM .here) Z Z (QH Z Z Z aq.aQ.g0 (m:=5) Z (ah hO131.leaf.2<|ah f.init.leaf.2<|ah f.threads.leaf.2<|ah f.from_.leaf.2<|ah f.order.leaf.2 aC) (cells':=[_,_,_,_,_]) Z) Z (fun U aq=>?_);refine⟨aV,?_⟩;refine OS 9 Z<|aE Z (fun u=>?_) (fun u=>?_)
 ·refine P2 aq 2 [0] Z Z<|O Z (QB Z aq.aQ.g0 Z) Z<|O Z (QA 1 Z) Z<|O Z (QB Z aq.aQ.pop.pop.pop.g0 Z) Z<|O Z (QA 4 Z) Z<|O Z (QB Z aq.aQ.pop.pop.pop.g0 Z) Z ?_;have bm:bq ((bI k xc row).1.event)=true:=by rcases hq:bq ((bI k xc row).1.event) with _ | _;(unfold Ab at P;rw[hq] at P;rw[P] at u;cases u);rfl
  obtain⟨_,_,_,_,_,_,_,_,a5,_,_⟩:=jS j;obtain⟨lw,rw_,a6,bo,_⟩:=lP a5 bm;have E:lw<r.mem.length:=by rw[hinv.mem,<-bs];exact(gA.1 bo).1
  rw[List.nil_append] at hO131;obtain⟨b9,cx,a7,rfl,rfl,ab,ac⟩:=Fj hO131 (fun e=>by rw[e] at E;exact absurd E<|nZ_ _);rw[List.singleton_append] at aq;have a8:lw<(ints r.mem).length:=by unfold ints;rw[lM_];exact E
  refine O Z (eo (e:=2) (m:=1) Z Y Z (cI a6) E) Z<|cC aq .here Z (gR Z Z Z aq.g0 (m:=1) Y Z B<|ah Z Z) Z (fun U aq=>?_);rw[fW a8,ints_set] at aq;refine OO 4 Z<|O Z (QC Z aq.g1 (n:=5) (vs:=[_,_,_,_,_]) Z) Z<|cC aq (.there (.there (.there (.there (.there .here))))) Z (QH Z Z Z (aq.get 5 Z) (m:=5) Z (ah hO131.leaf.2<|ah f.init.leaf.2<|ah f.threads.leaf.2<|ah f.from_.leaf.2<|ah f.order.leaf.2 aC) (cells':=[_,_,_,_,_]) Z) Z (fun U aq=>?_);refine Px 4 Z ?_;have hO9:=Fi (l:=r.mem.set lw ((bI k xc row).1.event).write) (b:=b9) (e:=a7) List.length_set ab ac;have ag:oX r.mem ((bI k xc row).1.event) pl=r.mem.set lw ((bI k xc row).1.event).write:=by unfold oX;rw[show bU 0 pl=true from u,a6];rfl
  obtain⟨K3,w,A,aq⟩:=J.fy (M:=[_]) aq;have q9:=hO9.kq (K:=K3) fun y hy=>A _ hy
  exact br Z Z (aq.get 4 Z) (m:=5) Y Z Z (.inr ⟨K3,⟨oX r.mem ((bI k xc row).1.event) pl,g2⟩,_,_,_,_,_,Z,by rw[hR,x];unfold HA;rw[j],KP.le_trans s w,by rw[show(⟨oX r.mem ((bI k xc row).1.event) pl,g2⟩:XM).mem=_ from ag];exact q9,f.mono w,aq.pop.pop.pop.pop.pop.pop⟩)
 refine OK 4 Z<|O Z (QC Z aq.aQ.g0 (n:=5) (vs:=[_,_,_,_,_]) Z) Z<|cC aq (.cM (.there (.there (.there (.there .here))))) Z (QH Z Z Z aq.aQ.pop.pop.pop.pop.g0 (m:=5) Z (ah hO131.leaf.2<|ah f.init.leaf.2<|ah f.threads.leaf.2<|ah f.from_.leaf.2<|ah f.order.leaf.2 aC) (cells':=[_,_,_,_,_]) Z) Z (fun U aq=>?_);refine Px 4 Z ?_;rw[List.nil_append] at hO131;have hO9:=hO131;have ag:oX r.mem ((bI k xc row).1.event) pl=r.mem:=by unfold oX;rw[show bU 0 pl=false from u];rfl
 obtain⟨K3,w,A,aq⟩:=J.fy aq;have q9:=hO9.kq (K:=K3) fun y hy=>A _ hy
 exact br Z Z (aq.get 4 Z) (m:=5) Y Z Z (.inr ⟨K3,⟨oX r.mem ((bI k xc row).1.event) pl,g2⟩,_,_,_,_,_,Z,by rw[hR,x];unfold HA;rw[j],KP.le_trans s w,by rw[show(⟨oX r.mem ((bI k xc row).1.event) pl,g2⟩:XM).mem=_ from ag];exact q9,f.mono w,aq.pop.pop.pop.pop.pop.pop⟩)
theorem LK {G:Cx} (hG:Plain G) (ag:G.fk 70=true) (am:G.ov 106=true) {K:KP} (a4:rh G K) {k:Nat} {l:List XC} {lv:V} (hl:bR K 2 (mY K k) l lv) {r:XM} (hinv:tC k l r) {a b c d:V} (hg:eN K r.g a b c d) {x0 x1 x2 x3 x4 x5:Int} (hm:vf r.mem x0 x1 x2 x3 x4 x5) {t:Nat} (ht:t<l.length) {U:D} {L:Own} (aq:J U K L):
  bk Tryz.prog G 54 [.agg [.int .i64 x0,.int .i64 x1,.int .i64 x2,.int .i64 x3,.int .i64 x4,.int .i64 x5,a,b,c,d],lv,.int .i64 (.ofNat (t+1))] U fun v U'=>(∃e,v= .tuple [.agg NI,.int .i64 e]/\e=(eG k l r t).2/\I e 0=false/\J U' K L)∨
   ∃K1 r' y0 y1 y2 y3 y4 y5 a' b' c' d',KP.le K K1/\eG k l r t=(some r',0)/\v= .tuple [.agg [.int .i64 y0,.int .i64 y1,.int .i64 y2,.int .i64 y3,.int .i64 y4,.int .i64 y5,a',b',c',d'],T]/\eN K1 r'.g a' b' c' d'/\vf r'.mem y0 y1 y2 y3 y4 y5/\J U' K1 L:=by
 obtain⟨xc,x⟩:=cm ht;obtain⟨row,o⟩:=cm (show t<r.g.threads.length from by rw[hinv.len];exact ht);have hck:=hinv.Gi;obtain⟨b1_,b2_,b3_,_⟩:=cK hck;have hrl:=b3_ row (gB_ o);have hord:=j0 hck;have hnx:=kI.2 (hinv.fits t xc row x o);have hll:=hl.bG;obtain⟨N_,hN⟩:∃N_,N_=(bI k xc row).1:=⟨_,Z⟩;have hml:=hinv.mem;have j:KP.le K K:=KP.le_refl K;have hgl0:=a4;refine PS hG Tryz.func54 Z<|Pt 2 Z<|kp aq Z (cz Z Z) (fun U b1 aq=>?_);refine kp aq Z (QE (cs:=[T,T,T,T,T,T,.ax,.ax,.ax,.ax])) (fun U b2 aq=>?_);refine OX aq 10 [6,1,1] Z Z<|Qu (e:=57) (m:=1) hg.threads o Z Z Z (cI<|ej (t:=t) (by have:=hl.bG;omega)) (fun b0 bo a5 bs a6=>?_);have hr21':=a6;obtain⟨b6,rfl,ar⟩:=hr21';refine O Z (QF aq a5 Z Z) Z<|OO 8 Z<|Qu (e:=33) (m:=2) hl x Z Z Z (cI<|ej (t:=t) (by have:=hl.bG;omega)) (fun b7 bt a7 bv a8=>?_);have hr27':=a8;obtain⟨b8,rfl,a9⟩:=hr27';refine O Z (QG aq a7 Z Z) Z<|vQ 1 Z<|bf Z (Qz Z Z Z) (fun _=>Z) (JS hG a4 a9 ar B aq) (fun U aq=>?_);rw[hnx,<-hN];refine PZ 3 Z<|kp aq Z (QE (cs:=[T,T,T,T,T,T,T,T,T,T,T])) (fun U b3 aq=>?_);refine bO aq Z (QH Z Z Z aq.g0 (m:=11) Z Z (cells':=[_,_,_,_,_,_,_,_,_,_,_]) Z) Z (fun U aq=>?_);refine Om 5 Z<|Pt 3 Z<|ky Z (az Z Z Z) (fun bb=>?_) (fun bb=>?_)
 ·exact absurd bb (by decide)
 refine OX aq 8 [10,0] Z Z<|ky Z (az Z Z Z) (fun F=>?_) (fun F=>?_)
 ·refine OO 6 Z (O Z (Qy (places:=[(0,6),(6,4)]) (zero:=[T,T,T,T,T,T,.ax,.ax,.ax,.ax]) (cs:=[_,_,_,_,_,_,_,_,_,_]) Z) Z<|eh aq Z (QH Z Z Z aq.g1 (m:=10) Z Z (cells':=[_,_,_,_,_,_,_,_,_,_]) Z) Z (fun U aq=>?_));refine Px 4 Z<|aF<|aw (?_);exact br Z Z aq.g1 (m:=10) Y Z Z (.inl ⟨10,Z,by rw[kM x o (e:=10) (by unfold jP;rw[hnx,<-hN];rw[show aX (I N_.fin 0)=true from F];rfl) Z],Z,aq.pop.pop.pop⟩)
 refine OO 7 Z<|O Z (QD ar Z Z Z (e:=56) Z) Z<|ky Z (az Z Z Z) (fun Q=>?_) (fun Q=>?_)
 ·refine OO 6 Z (O Z (Qy (places:=[(0,6),(6,4)]) (zero:=[T,T,T,T,T,T,.ax,.ax,.ax,.ax]) (cs:=[_,_,_,_,_,_,_,_,_,_]) Z) Z<|eh aq Z (QH Z Z Z aq.g1 (m:=10) Z Z (cells':=[_,_,_,_,_,_,_,_,_,_]) Z) Z (fun U aq=>?_));refine Px 4 Z<|aF<|aw (?_);exact br Z Z aq.g1 (m:=10) Y Z Z (.inl ⟨3,Z,by rw[kM x o (e:=3) (by unfold jP;rw[hnx,<-hN];rw[show aX (I N_.fin 0)=false from F,show aX (bU (.ofNat row.length) 14)=true from Q];rfl) Z],Z,aq.pop.pop.pop⟩)
 refine OP 6 Z<|OU aq 15 [0,1,0,5,0,0] Z Z<|Pv 2 Z<|aE Z (fun ao=>?_) (fun ao=>?_)
 ·have s:nF N_=N_.ask.loc:=by unfold nF;rw[show aX (I N_.ask.kind 0)=true from ao];rfl
  refine Ot aq 14 [5,1,0,0,0,0] Z Z<|ky Z (an Z) (fun u=>?_) (fun u=>?_)
  ·refine PZ 2 Z<|ky Z (an Z) (fun W=>?_) (fun W=>?_)
   ·refine OO 13 Z (O Z (Qy (places:=[(0,6),(6,4)]) (zero:=[T,T,T,T,T,T,.ax,.ax,.ax,.ax]) (cs:=[_,_,_,_,_,_,_,_,_,_]) Z) Z<|eh aq Z (QH Z Z Z aq.g1 (m:=10) Z Z (cells':=[_,_,_,_,_,_,_,_,_,_]) Z) Z (fun U aq=>?_));refine OQ 5 Z ?_;exact br Z Z aq.g1 (m:=10) Y Z Z (.inl ⟨2,Z,by rw[kM x o (e:=2) (by unfold jP;rw[hnx,<-hN];rw[show aX (I N_.fin 0)=false from F,show aX (bU (.ofNat row.length) 14)=false from Q,show ef N_ r.g=true from by unfold ef;rw[show aX (I N_.event.kind 4)=true from u,s,W];rfl];rfl) Z],Z,aq.pop.pop.pop⟩)
   refine P3 aq 4 [6,0,2] Z Z<|O Z (QD hg.init Z Z Z (e:=2) Z) Z<|Pv 5 Z<|aE Z (fun ab=>?_) (fun ab=>?_)
   ·refine Pt 2 Z (O Z (Qy (places:=[(0,6),(6,4)]) (zero:=[T,T,T,T,T,T,.ax,.ax,.ax,.ax]) (cs:=[_,_,_,_,_,_,_,_,_,_]) Z) Z<|eh aq Z (QH Z Z Z aq.g1 (m:=10) Z Z (cells':=[_,_,_,_,_,_,_,_,_,_]) Z) Z (fun U aq=>?_));refine OQ 5 Z ?_;exact br Z Z aq.g1 (m:=10) Y Z Z (.inl ⟨2,Z,by rw[kM x o (e:=2) (by unfold jP;rw[hnx,<-hN];rw[show aX (I N_.fin 0)=false from F,show aX (bU (.ofNat row.length) 14)=false from Q,show ef N_ r.g=true from by unfold ef;rw[show aX (I N_.event.kind 4)=true from u,s,W];exact ab];rfl) Z],Z,aq.pop.pop.pop⟩)
   refine OK 4 Z ?_;have z:ef N_ r.g=false:=by unfold ef;rw[show aX (I N_.event.kind 4)=true from u,s,W];exact ab
   have h62x:I N_.event.kind 4=false:=bT u;have A:jP k xc row r.g=0:=by unfold jP;rw[hnx,<-hN,show aX (I N_.fin 0)=false from F,show aX (bU (.ofNat row.length) 14)=false from Q,z];rfl
   refine O Z (QA 0 Z) Z (O Z (QC Z aq.g0 (n:=5) (vs:=[_,_,_,_,_]) Z) Z (O Z (Qy (places:=[(0,1),(1,1)]) (zero:=[T,T]) (cs:=[_,_]) Z) Z<|kp aq Z (QE (cs:=[T,T,T,T,T])) (fun U b4 aq=>?_)));refine kp aq Z (QE (cs:=[T,T])) (fun U b5 aq=>?_);refine eh aq Z (QH Z Z Z aq.g1 (m:=5) Z Z (cells':=[_,_,_,_,_]) Z) Z (fun U aq=>?_);refine bO aq Z (QH Z Z Z aq.g0 (m:=2) Z Z (cells':=[_,_]) Z) Z (fun U aq=>?_);refine OW aq 12 [0,0,2] Z Z<|aE Z (fun w=>?_) (fun w=>?_)
   ·refine PA aq 3 [6] Z Z<|O Z (QC Z (aq.get 4 Z) (n:=4) (vs:=[_,_,_,_]) Z) Z<|vQ 1 Z ?_;obtain⟨ln,R,ap⟩:=me (n:=N_) (g:=r.g) z h62x;refine cH Z (aR Z Z (show _=some [V.agg [a,b,c,d],V.int .i64 (.ofNat ln)] from by rw[<-R,<-s];rfl) Y) (fun _=>Z) (tt hG hg (fun l hl=>by have:=hord l hl;omega) (.ofNat ln) aq) ?_;rintro be U ⟨bi,hM85,aq⟩;obtain⟨K1,j,aa,aq⟩:=aq.fy;have hw:=hM85.kq (K:=K1) fun y hy=>aa _ hy;clear aa;replace hg:=hg.mono j
    refine OW aq 12 [5,0,2] Z Z<|aE Z (fun X=>?_) (fun X=>?_)
    ·refine ak<|aS (l:=zp [0,1,2,3,4,5,6,7,8,9,10]) Y Y<|al Z Z (QA 5 Z) Z<|al Z Z (QC Z (aq.get 2 Z) (n:=5) (vs:=[_,_,_,_,_]) Z) Z<|P4 aq 2 [0] Z Z ?_;obtain⟨C,aI,hy96n⟩:=hm.at_ (a:=a) (b:=b) (c:=c) (d:=d) (show ln<r.mem.length from by rw[hml];exact ap);refine al Z Z (tA (n:=6) (e:=2) (m:=1) Y Y Z (show _=some (V.int .i64 (.ofNat ln)) from by rw[<-R,<-s];rfl) B) Z (al Z Z (ay Z (aq.get 4 Z) Y hy96n) Z<|cA Z Z (Qz Z Z Z) (fun _=>Z) (CO hG N_.ask C aq) (fun U aq=>?_));refine⟨aV,?_⟩;refine P1 3 Z<|z9 aq Z Z (QH Z Z Z aq.g1 (m:=5) Z Z (cells':=[_,_,_,_,_]) Z) Z (fun U aq=>?_);refine⟨aV,?_⟩;refine Py 2 Z<|ai Z<|PZ 2 Z<|O Z (QD hw Z Z Z (e:=67) Z) Z<|vQ 1 Z ?_;have b9:0<(cu r.g (.ofNat ln)).length:=by obtain⟨q,hq⟩:=g8 hck ap;rw[ez (by rw[hck];rfl) hq];exact Nat.succ_pos _
     obtain⟨E,ac⟩:=cm (show(cu r.g (.ofNat ln)).length-1<(cu r.g (.ofNat ln)).length from by omega);refine Qu (e:=67) (m:=2) hw ac Z Z Z (cI<|kY (b:=1) B hw.bG) (fun bw bl aY bm a0=>?_);obtain rfl:=a0;refine O Z (QG aq aY Z Z) Z<|bO aq Z (QH Z Z Z aq.g0 (m:=2) Z Z (cells':=[_,_]) Z) Z (fun U aq=>?_);refine PC aq 9 [0,1] Z Z<|aE Z (fun M=>?_) (fun M=>?_)
     ·refine Pt 3 Z<|O Z (QD hw Z Z Z (e:=67) Z) Z<|PE aq 8 [4,1,0] Z Z<|O Z (tA (n:=6) (e:=2) (m:=1) Y Y Z (show _=some (V.int .i64 (.ofNat ln)) from by rw[<-R,<-s];rfl) B) Z ?_;obtain⟨z0,z1,z2,z3,z4,z5,a1,a3⟩:=hm.set (a:=a) (b:=b) (c:=c) (d:=d) (show ln<r.mem.length from by rw[hml];exact ap) (bL N_.ask C).write;refine cC aq (.there (.there (.there (.there .here)))) Z (aL Z Z Z (aq.get 4 Z) (m:=1) Y Z (by show 0+ln*1+1<=10;omega) Z (cells':=c6 z0 z1 z2 z3 z4 z5 a b c d) a1) Z (fun U aq=>?_);refine OX aq 5 [6] Z Z<|O Z (QC Z (aq.get 4 Z) (n:=4) (vs:=[_,_,_,_]) Z) Z<|vQ 1 Z<|O Z (QC Z aq.g1 (n:=5) (vs:=[_,_,_,_,_]) Z) Z<|O Z (QC Z aq.g0 (n:=2) (vs:=[_,_]) Z) Z<|vQ 1 Z ?_;have hgl1:=hgl0;have p:fz (bI k xc row).1 r.mem r.g=⟨bL N_.ask C,E,.ofNat (cu r.g (.ofNat ln)).length,r.mem.set ln (bL N_.ask C).write⟩:=by rw[<-hN];unfold fz;rw[R];dsimp only;rw[bT w,show aX (I N_.ask.kind 0)=true from X];simp only[ct,cf];rw[show(Int.ofNat ln).toNat=ln from Z,aI,List.getLast?_eq_getElem?,ac];simp only[Option.getD_some];rw[show aX (I (bL N_.ask C).kind 1)=true from M];rfl
      have hdo:=oq x o A p;refine cH Z (Qz Z Z Z) (fun _=>Z) (zj hG ag am hg _ _ (bL N_.ask C) E aq) ?_;rintro _ U (⟨er,h,rfl,aq⟩ | ⟨g2,a2,b2,c2,d2,M2,h,rfl,i,aq⟩)
      ·have P:eG k l r t=(none,er):=by rw[hdo];unfold we;rw[show gf r.g (.ofNat (t+1)) (bL N_.ask C) E (.ofNat (cu r.g (.ofNat ln)).length)=(none,er) from h]
       have her:=nQ h;refine P3 aq 4 [6] Z Z<|cC aq (.there (.there (.there (.there .here)))) Z (QH Z Z Z (aq.get 4 Z) (m:=4) Z Z (cells':=[_,_,_,_,_,_,_,_,_,_]) Z) Z (fun U aq=>?_);refine ON 10 Z<|aE Z (fun f=>?_) (fun f=>?_)
       ·refine Pt 2 Z (O Z (Qy (places:=[(0,6),(6,4)]) (zero:=[T,T,T,T,T,T,.ax,.ax,.ax,.ax]) (cs:=[_,_,_,_,_,_,_,_,_,_]) Z) Z<|vQ 1 Z<|jz aq Z (QH Z Z Z (aq.get 3 Z) (m:=10) Z Z (cells':=[_,_,_,_,_,_,_,_,_,_]) Z) Z (fun U aq=>?_));refine OQ 5 Z ?_;exact br Z Z (aq.get 3 Z) (m:=10) Y Z Z (.inl ⟨er,Z,by rw[P],her,(aq.pop.pop.pop.pop.pop).weaken j⟩)
       exact absurd f (by rw[her];decide)
      have P:eG k l r t=(some ⟨r.mem.set ln (bL N_.ask C).write,g2⟩,0):=by rw[hdo];unfold we;rw[show gf r.g (.ofNat (t+1)) (bL N_.ask C) E (.ofNat (cu r.g (.ofNat ln)).length)=(some g2,0) from h]
      replace aq:=aq.keeps;refine P3 aq 4 [6] Z Z<|cC aq (.there (.there (.there (.there .here)))) Z (QH Z Z Z (aq.get 4 Z) (m:=4) Z (ah i.init.leaf.2<|ah i.threads.leaf.2<|ah i.from_.leaf.2<|ah i.order.leaf.2 aC) (cells':=[_,_,_,_,_,_,_,_,_,_]) Z) Z (fun U aq=>?_);refine ON 10 Z<|aE Z (fun f=>?_) (fun f=>?_)
      ·exact absurd f (by decide)
      refine OK 4 Z<|O Z (QC Z (aq.get 4 Z) (n:=10) (vs:=[_,_,_,_,_,_,_,_,_,_]) Z) Z<|jz aq Z (QH Z Z Z (aq.get 3 Z) (m:=10) Z (ah Z<|ah Z<|ah Z<|ah Z<|ah Z<|ah Z<|ah i.init.leaf.2<|ah i.threads.leaf.2<|ah i.from_.leaf.2<|ah i.order.leaf.2 aC) (cells':=[_,_,_,_,_,_,_,_,_,_]) Z) Z (fun U aq=>?_);refine Px 4 Z ?_;exact br Z Z (aq.get 3 Z) (m:=10) Y Z Z (.inr ⟨_,_,_,_,_,_,_,_,_,_,_,_,KP.le_trans j<|KP.bX _ _,P,Z,i,a3,aq.pop.pop.pop.pop.pop⟩)
     refine OV aq 5 [6] Z Z<|O Z (QC Z (aq.get 4 Z) (n:=4) (vs:=[_,_,_,_]) Z) Z<|vQ 1 Z<|O Z (QC Z aq.g1 (n:=5) (vs:=[_,_,_,_,_]) Z) Z<|O Z (QC Z aq.g0 (n:=2) (vs:=[_,_]) Z) Z<|vQ 1 Z ?_;have hgl1:=hgl0;have p:fz (bI k xc row).1 r.mem r.g=⟨bL N_.ask C,E,0,r.mem⟩:=by rw[<-hN];unfold fz;rw[R];dsimp only;rw[bT w,show aX (I N_.ask.kind 0)=true from X];simp only[ct,cf];rw[show(Int.ofNat ln).toNat=ln from Z,aI,List.getLast?_eq_getElem?,ac];simp only[Option.getD_some];rw[show aX (I (bL N_.ask C).kind 1)=false from M];rfl
     have hdo:=oq x o A p;refine cH Z (Qz Z Z Z) (fun _=>Z) (zj hG ag am hg _ _ (bL N_.ask C) E aq) ?_;rintro _ U (⟨er,h,rfl,aq⟩ | ⟨g2,a2,b2,c2,d2,M2,h,rfl,i,aq⟩)
     ·have P:eG k l r t=(none,er):=by rw[hdo];unfold we;rw[show gf r.g (.ofNat (t+1)) (bL N_.ask C) E (0)=(none,er) from h]
      have her:=nQ h;refine P3 aq 4 [6] Z Z<|cC aq (.there (.there (.there (.there .here)))) Z (QH Z Z Z (aq.get 4 Z) (m:=4) Z Z (cells':=[_,_,_,_,_,_,_,_,_,_]) Z) Z (fun U aq=>?_);refine ON 10 Z<|aE Z (fun f=>?_) (fun f=>?_)
      ·refine Pt 2 Z (O Z (Qy (places:=[(0,6),(6,4)]) (zero:=[T,T,T,T,T,T,.ax,.ax,.ax,.ax]) (cs:=[_,_,_,_,_,_,_,_,_,_]) Z) Z<|vQ 1 Z<|jz aq Z (QH Z Z Z (aq.get 3 Z) (m:=10) Z Z (cells':=[_,_,_,_,_,_,_,_,_,_]) Z) Z (fun U aq=>?_));refine OQ 5 Z ?_;exact br Z Z (aq.get 3 Z) (m:=10) Y Z Z (.inl ⟨er,Z,by rw[P],her,(aq.pop.pop.pop.pop.pop).weaken j⟩)
      exact absurd f (by rw[her];decide)
     have P:eG k l r t=(some ⟨r.mem,g2⟩,0):=by rw[hdo];unfold we;rw[show gf r.g (.ofNat (t+1)) (bL N_.ask C) E (0)=(some g2,0) from h]
     replace aq:=aq.keeps;refine P3 aq 4 [6] Z Z<|cC aq (.there (.there (.there (.there .here)))) Z (QH Z Z Z (aq.get 4 Z) (m:=4) Z (ah i.init.leaf.2<|ah i.threads.leaf.2<|ah i.from_.leaf.2<|ah i.order.leaf.2 aC) (cells':=[_,_,_,_,_,_,_,_,_,_]) Z) Z (fun U aq=>?_);refine ON 10 Z<|aE Z (fun f=>?_) (fun f=>?_)
     ·exact absurd f (by decide)
     refine OK 4 Z<|O Z (QC Z (aq.get 4 Z) (n:=10) (vs:=[_,_,_,_,_,_,_,_,_,_]) Z) Z<|jz aq Z (QH Z Z Z (aq.get 3 Z) (m:=10) Z (ah Z<|ah Z<|ah Z<|ah Z<|ah Z<|ah Z<|ah i.init.leaf.2<|ah i.threads.leaf.2<|ah i.from_.leaf.2<|ah i.order.leaf.2 aC) (cells':=[_,_,_,_,_,_,_,_,_,_]) Z) Z (fun U aq=>?_);refine Px 4 Z ?_;exact br Z Z (aq.get 3 Z) (m:=10) Y Z Z (.inr ⟨_,_,_,_,_,_,_,_,_,_,_,_,KP.le_trans j<|KP.bX _ _,P,Z,i,hm,aq.pop.pop.pop.pop.pop⟩)
    exact absurd (X.symm.trans ao) (by decide)
   exact absurd (w.symm.trans u) (by decide)
  refine Oo 18 Z ?_;have z:ef N_ r.g=false:=by unfold ef;rw[show aX (I N_.event.kind 4)=false from u];rfl
  have A:jP k xc row r.g=0:=by unfold jP;rw[hnx,<-hN,show aX (I N_.fin 0)=false from F,show aX (bU (.ofNat row.length) 14)=false from Q,z];rfl
  refine O Z (QA 0 Z) Z (O Z (QC Z aq.g0 (n:=5) (vs:=[_,_,_,_,_]) Z) Z (O Z (Qy (places:=[(0,1),(1,1)]) (zero:=[T,T]) (cs:=[_,_]) Z) Z<|kp aq Z (QE (cs:=[T,T,T,T,T])) (fun U b4 aq=>?_)));refine kp aq Z (QE (cs:=[T,T])) (fun U b5 aq=>?_);refine eh aq Z (QH Z Z Z aq.g1 (m:=5) Z Z (cells':=[_,_,_,_,_]) Z) Z (fun U aq=>?_);refine bO aq Z (QH Z Z Z aq.g0 (m:=2) Z Z (cells':=[_,_]) Z) Z (fun U aq=>?_);refine OW aq 12 [0,0,2] Z Z<|aE Z (fun w=>?_) (fun w=>?_)
  ·exact absurd (w.symm.trans u) (by decide)
  refine OV aq 5 [6] Z Z<|O Z (QC Z (aq.get 4 Z) (n:=4) (vs:=[_,_,_,_]) Z) Z<|vQ 1 Z<|O Z (QC Z aq.g1 (n:=5) (vs:=[_,_,_,_,_]) Z) Z<|O Z (QC Z aq.g0 (n:=2) (vs:=[_,_]) Z) Z<|vQ 1 Z ?_;have hgl1:=hgl0;have p:fz (bI k xc row).1 r.mem r.g=⟨N_.event,⟨0,0⟩,0,r.mem⟩:=by rw[<-hN];exact nj<|bj w
  have hdo:=oq x o A p;refine cH Z (Qz Z Z Z) (fun _=>Z) (zj hG ag am hg _ _ (N_.event) ⟨0,0⟩ aq) ?_;rintro _ U (⟨er,h,rfl,aq⟩ | ⟨g2,a2,b2,c2,d2,M2,h,rfl,i,aq⟩)
  ·have P:eG k l r t=(none,er):=by rw[hdo];unfold we;rw[show gf r.g (.ofNat (t+1)) (N_.event) ⟨0,0⟩ (0)=(none,er) from h]
   have her:=nQ h;refine P3 aq 4 [6] Z Z<|cC aq (.there (.there (.there (.there .here)))) Z (QH Z Z Z (aq.get 4 Z) (m:=4) Z Z (cells':=[_,_,_,_,_,_,_,_,_,_]) Z) Z (fun U aq=>?_);refine ON 10 Z<|aE Z (fun f=>?_) (fun f=>?_)
   ·refine Pt 2 Z (O Z (Qy (places:=[(0,6),(6,4)]) (zero:=[T,T,T,T,T,T,.ax,.ax,.ax,.ax]) (cs:=[_,_,_,_,_,_,_,_,_,_]) Z) Z<|vQ 1 Z<|jz aq Z (QH Z Z Z (aq.get 3 Z) (m:=10) Z Z (cells':=[_,_,_,_,_,_,_,_,_,_]) Z) Z (fun U aq=>?_));refine OQ 5 Z ?_;exact br Z Z (aq.get 3 Z) (m:=10) Y Z Z (.inl ⟨er,Z,by rw[P],her,(aq.pop.pop.pop.pop.pop).weaken j⟩)
   exact absurd f (by rw[her];decide)
  have P:eG k l r t=(some ⟨r.mem,g2⟩,0):=by rw[hdo];unfold we;rw[show gf r.g (.ofNat (t+1)) (N_.event) ⟨0,0⟩ (0)=(some g2,0) from h]
  replace aq:=aq.keeps;refine P3 aq 4 [6] Z Z<|cC aq (.there (.there (.there (.there .here)))) Z (QH Z Z Z (aq.get 4 Z) (m:=4) Z (ah i.init.leaf.2<|ah i.threads.leaf.2<|ah i.from_.leaf.2<|ah i.order.leaf.2 aC) (cells':=[_,_,_,_,_,_,_,_,_,_]) Z) Z (fun U aq=>?_);refine ON 10 Z<|aE Z (fun f=>?_) (fun f=>?_)
  ·exact absurd f (by decide)
  refine OK 4 Z<|O Z (QC Z (aq.get 4 Z) (n:=10) (vs:=[_,_,_,_,_,_,_,_,_,_]) Z) Z<|jz aq Z (QH Z Z Z (aq.get 3 Z) (m:=10) Z (ah Z<|ah Z<|ah Z<|ah Z<|ah Z<|ah Z<|ah i.init.leaf.2<|ah i.threads.leaf.2<|ah i.from_.leaf.2<|ah i.order.leaf.2 aC) (cells':=[_,_,_,_,_,_,_,_,_,_]) Z) Z (fun U aq=>?_);refine Px 4 Z ?_;exact br Z Z (aq.get 3 Z) (m:=10) Y Z Z (.inr ⟨_,_,_,_,_,_,_,_,_,_,_,_,KP.le_trans j<|KP.bX _ _,P,Z,i,hm,aq.pop.pop.pop.pop.pop⟩)
 have s:nF N_=N_.event.loc:=by unfold nF;rw[show aX (I N_.ask.kind 0)=false from ao];rfl
 refine Ot aq 9 [0,0,0] Z Z<|ky Z (an Z) (fun u=>?_) (fun u=>?_)
 ·refine PZ 2 Z<|ky Z (an Z) (fun W=>?_) (fun W=>?_)
  ·refine OO 13 Z (O Z (Qy (places:=[(0,6),(6,4)]) (zero:=[T,T,T,T,T,T,.ax,.ax,.ax,.ax]) (cs:=[_,_,_,_,_,_,_,_,_,_]) Z) Z<|eh aq Z (QH Z Z Z aq.g1 (m:=10) Z Z (cells':=[_,_,_,_,_,_,_,_,_,_]) Z) Z (fun U aq=>?_));refine OQ 5 Z ?_;exact br Z Z aq.g1 (m:=10) Y Z Z (.inl ⟨2,Z,by rw[kM x o (e:=2) (by unfold jP;rw[hnx,<-hN];rw[show aX (I N_.fin 0)=false from F,show aX (bU (.ofNat row.length) 14)=false from Q,show ef N_ r.g=true from by unfold ef;rw[show aX (I N_.event.kind 4)=true from u,s,W];rfl];rfl) Z],Z,aq.pop.pop.pop⟩)
  refine P3 aq 4 [6,0,2] Z Z<|O Z (QD hg.init Z Z Z (e:=2) Z) Z<|Pv 5 Z<|aE Z (fun ab=>?_) (fun ab=>?_)
  ·refine Pt 2 Z (O Z (Qy (places:=[(0,6),(6,4)]) (zero:=[T,T,T,T,T,T,.ax,.ax,.ax,.ax]) (cs:=[_,_,_,_,_,_,_,_,_,_]) Z) Z<|eh aq Z (QH Z Z Z aq.g1 (m:=10) Z Z (cells':=[_,_,_,_,_,_,_,_,_,_]) Z) Z (fun U aq=>?_));refine OQ 5 Z ?_;exact br Z Z aq.g1 (m:=10) Y Z Z (.inl ⟨2,Z,by rw[kM x o (e:=2) (by unfold jP;rw[hnx,<-hN];rw[show aX (I N_.fin 0)=false from F,show aX (bU (.ofNat row.length) 14)=false from Q,show ef N_ r.g=true from by unfold ef;rw[show aX (I N_.event.kind 4)=true from u,s,W];exact ab];rfl) Z],Z,aq.pop.pop.pop⟩)
  refine OK 4 Z ?_;have z:ef N_ r.g=false:=by unfold ef;rw[show aX (I N_.event.kind 4)=true from u,s,W];exact ab
  have h62x:I N_.event.kind 4=false:=bT u;have A:jP k xc row r.g=0:=by unfold jP;rw[hnx,<-hN,show aX (I N_.fin 0)=false from F,show aX (bU (.ofNat row.length) 14)=false from Q,z];rfl
  refine O Z (QA 0 Z) Z (O Z (QC Z aq.g0 (n:=5) (vs:=[_,_,_,_,_]) Z) Z (O Z (Qy (places:=[(0,1),(1,1)]) (zero:=[T,T]) (cs:=[_,_]) Z) Z<|kp aq Z (QE (cs:=[T,T,T,T,T])) (fun U b4 aq=>?_)));refine kp aq Z (QE (cs:=[T,T])) (fun U b5 aq=>?_);refine eh aq Z (QH Z Z Z aq.g1 (m:=5) Z Z (cells':=[_,_,_,_,_]) Z) Z (fun U aq=>?_);refine bO aq Z (QH Z Z Z aq.g0 (m:=2) Z Z (cells':=[_,_]) Z) Z (fun U aq=>?_);refine OW aq 12 [0,0,2] Z Z<|aE Z (fun w=>?_) (fun w=>?_)
  ·refine PA aq 3 [6] Z Z<|O Z (QC Z (aq.get 4 Z) (n:=4) (vs:=[_,_,_,_]) Z) Z<|vQ 1 Z ?_;obtain⟨ln,R,ap⟩:=me (n:=N_) (g:=r.g) z h62x;refine cH Z (aR Z Z (show _=some [V.agg [a,b,c,d],V.int .i64 (.ofNat ln)] from by rw[<-R,<-s];rfl) Y) (fun _=>Z) (tt hG hg (fun l hl=>by have:=hord l hl;omega) (.ofNat ln) aq) ?_;rintro be U ⟨bi,hM85,aq⟩;obtain⟨K1,j,aa,aq⟩:=aq.fy;have hw:=hM85.kq (K:=K1) fun y hy=>aa _ hy;clear aa;replace hg:=hg.mono j
   refine OW aq 12 [5,0,2] Z Z<|aE Z (fun X=>?_) (fun X=>?_)
   ·exact absurd (X.symm.trans ao) (by decide)
   refine OV aq 7 [0,1] Z Z<|Pv 2 Z<|aE Z (fun M=>?_) (fun M=>?_)
   ·refine Pt 3 Z<|O Z (QD hw Z Z Z (e:=67) Z) Z<|PE aq 8 [4,1,0] Z Z<|O Z (tA (n:=6) (e:=2) (m:=1) Y Y Z (show _=some (V.int .i64 (.ofNat ln)) from by rw[<-R,<-s];rfl) B) Z ?_;obtain⟨z0,z1,z2,z3,z4,z5,a1,a3⟩:=hm.set (a:=a) (b:=b) (c:=c) (d:=d) (show ln<r.mem.length from by rw[hml];exact ap) (N_.event).write;refine cC aq (.there (.there (.there (.there .here)))) Z (aL Z Z Z (aq.get 4 Z) (m:=1) Y Z (by show 0+ln*1+1<=10;omega) Z (cells':=c6 z0 z1 z2 z3 z4 z5 a b c d) a1) Z (fun U aq=>?_);refine OX aq 5 [6] Z Z<|O Z (QC Z (aq.get 4 Z) (n:=4) (vs:=[_,_,_,_]) Z) Z<|vQ 1 Z<|O Z (QC Z aq.g1 (n:=5) (vs:=[_,_,_,_,_]) Z) Z<|O Z (QC Z aq.g0 (n:=2) (vs:=[_,_]) Z) Z<|vQ 1 Z ?_;have hgl1:=hgl0;have p:fz (bI k xc row).1 r.mem r.g=⟨N_.event,⟨0,0⟩,.ofNat (cu r.g (.ofNat ln)).length,r.mem.set ln (N_.event).write⟩:=by rw[<-hN];unfold fz;rw[R];dsimp only;rw[bT w,show aX (I N_.ask.kind 0)=false from X];simp only[ct,cf];rw[show aX (I (N_.event).kind 1)=true from M];rfl
    have hdo:=oq x o A p;refine cH Z (Qz Z Z Z) (fun _=>Z) (zj hG ag am hg _ _ (N_.event) ⟨0,0⟩ aq) ?_;rintro _ U (⟨er,h,rfl,aq⟩ | ⟨g2,a2,b2,c2,d2,M2,h,rfl,i,aq⟩)
    ·have P:eG k l r t=(none,er):=by rw[hdo];unfold we;rw[show gf r.g (.ofNat (t+1)) (N_.event) ⟨0,0⟩ (.ofNat (cu r.g (.ofNat ln)).length)=(none,er) from h]
     have her:=nQ h;refine P3 aq 4 [6] Z Z<|cC aq (.there (.there (.there (.there .here)))) Z (QH Z Z Z (aq.get 4 Z) (m:=4) Z Z (cells':=[_,_,_,_,_,_,_,_,_,_]) Z) Z (fun U aq=>?_);refine ON 10 Z<|aE Z (fun f=>?_) (fun f=>?_)
     ·refine Pt 2 Z (O Z (Qy (places:=[(0,6),(6,4)]) (zero:=[T,T,T,T,T,T,.ax,.ax,.ax,.ax]) (cs:=[_,_,_,_,_,_,_,_,_,_]) Z) Z<|vQ 1 Z<|jz aq Z (QH Z Z Z (aq.get 3 Z) (m:=10) Z Z (cells':=[_,_,_,_,_,_,_,_,_,_]) Z) Z (fun U aq=>?_));refine OQ 5 Z ?_;exact br Z Z (aq.get 3 Z) (m:=10) Y Z Z (.inl ⟨er,Z,by rw[P],her,(aq.pop.pop.pop.pop.pop).weaken j⟩)
     exact absurd f (by rw[her];decide)
    have P:eG k l r t=(some ⟨r.mem.set ln (N_.event).write,g2⟩,0):=by rw[hdo];unfold we;rw[show gf r.g (.ofNat (t+1)) (N_.event) ⟨0,0⟩ (.ofNat (cu r.g (.ofNat ln)).length)=(some g2,0) from h]
    replace aq:=aq.keeps;refine P3 aq 4 [6] Z Z<|cC aq (.there (.there (.there (.there .here)))) Z (QH Z Z Z (aq.get 4 Z) (m:=4) Z (ah i.init.leaf.2<|ah i.threads.leaf.2<|ah i.from_.leaf.2<|ah i.order.leaf.2 aC) (cells':=[_,_,_,_,_,_,_,_,_,_]) Z) Z (fun U aq=>?_);refine ON 10 Z<|aE Z (fun f=>?_) (fun f=>?_)
    ·exact absurd f (by decide)
    refine OK 4 Z<|O Z (QC Z (aq.get 4 Z) (n:=10) (vs:=[_,_,_,_,_,_,_,_,_,_]) Z) Z<|jz aq Z (QH Z Z Z (aq.get 3 Z) (m:=10) Z (ah Z<|ah Z<|ah Z<|ah Z<|ah Z<|ah Z<|ah i.init.leaf.2<|ah i.threads.leaf.2<|ah i.from_.leaf.2<|ah i.order.leaf.2 aC) (cells':=[_,_,_,_,_,_,_,_,_,_]) Z) Z (fun U aq=>?_);refine Px 4 Z ?_;exact br Z Z (aq.get 3 Z) (m:=10) Y Z Z (.inr ⟨_,_,_,_,_,_,_,_,_,_,_,_,KP.le_trans j<|KP.bX _ _,P,Z,i,a3,aq.pop.pop.pop.pop.pop⟩)
   refine OV aq 5 [6] Z Z<|O Z (QC Z (aq.get 4 Z) (n:=4) (vs:=[_,_,_,_]) Z) Z<|vQ 1 Z<|O Z (QC Z aq.g1 (n:=5) (vs:=[_,_,_,_,_]) Z) Z<|O Z (QC Z aq.g0 (n:=2) (vs:=[_,_]) Z) Z<|vQ 1 Z ?_;have hgl1:=hgl0;have p:fz (bI k xc row).1 r.mem r.g=⟨N_.event,⟨0,0⟩,0,r.mem⟩:=by rw[<-hN];unfold fz;rw[R];dsimp only;rw[bT w,show aX (I N_.ask.kind 0)=false from X];simp only[ct,cf];rw[show aX (I (N_.event).kind 1)=false from M];rfl
   have hdo:=oq x o A p;refine cH Z (Qz Z Z Z) (fun _=>Z) (zj hG ag am hg _ _ (N_.event) ⟨0,0⟩ aq) ?_;rintro _ U (⟨er,h,rfl,aq⟩ | ⟨g2,a2,b2,c2,d2,M2,h,rfl,i,aq⟩)
   ·have P:eG k l r t=(none,er):=by rw[hdo];unfold we;rw[show gf r.g (.ofNat (t+1)) (N_.event) ⟨0,0⟩ (0)=(none,er) from h]
    have her:=nQ h;refine P3 aq 4 [6] Z Z<|cC aq (.there (.there (.there (.there .here)))) Z (QH Z Z Z (aq.get 4 Z) (m:=4) Z Z (cells':=[_,_,_,_,_,_,_,_,_,_]) Z) Z (fun U aq=>?_);refine ON 10 Z<|aE Z (fun f=>?_) (fun f=>?_)
    ·refine Pt 2 Z (O Z (Qy (places:=[(0,6),(6,4)]) (zero:=[T,T,T,T,T,T,.ax,.ax,.ax,.ax]) (cs:=[_,_,_,_,_,_,_,_,_,_]) Z) Z<|vQ 1 Z<|jz aq Z (QH Z Z Z (aq.get 3 Z) (m:=10) Z Z (cells':=[_,_,_,_,_,_,_,_,_,_]) Z) Z (fun U aq=>?_));refine OQ 5 Z ?_;exact br Z Z (aq.get 3 Z) (m:=10) Y Z Z (.inl ⟨er,Z,by rw[P],her,(aq.pop.pop.pop.pop.pop).weaken j⟩)
    exact absurd f (by rw[her];decide)
   have P:eG k l r t=(some ⟨r.mem,g2⟩,0):=by rw[hdo];unfold we;rw[show gf r.g (.ofNat (t+1)) (N_.event) ⟨0,0⟩ (0)=(some g2,0) from h]
   replace aq:=aq.keeps;refine P3 aq 4 [6] Z Z<|cC aq (.there (.there (.there (.there .here)))) Z (QH Z Z Z (aq.get 4 Z) (m:=4) Z (ah i.init.leaf.2<|ah i.threads.leaf.2<|ah i.from_.leaf.2<|ah i.order.leaf.2 aC) (cells':=[_,_,_,_,_,_,_,_,_,_]) Z) Z (fun U aq=>?_);refine ON 10 Z<|aE Z (fun f=>?_) (fun f=>?_)
   ·exact absurd f (by decide)
   refine OK 4 Z<|O Z (QC Z (aq.get 4 Z) (n:=10) (vs:=[_,_,_,_,_,_,_,_,_,_]) Z) Z<|jz aq Z (QH Z Z Z (aq.get 3 Z) (m:=10) Z (ah Z<|ah Z<|ah Z<|ah Z<|ah Z<|ah Z<|ah i.init.leaf.2<|ah i.threads.leaf.2<|ah i.from_.leaf.2<|ah i.order.leaf.2 aC) (cells':=[_,_,_,_,_,_,_,_,_,_]) Z) Z (fun U aq=>?_);refine Px 4 Z ?_;exact br Z Z (aq.get 3 Z) (m:=10) Y Z Z (.inr ⟨_,_,_,_,_,_,_,_,_,_,_,_,KP.le_trans j<|KP.bX _ _,P,Z,i,hm,aq.pop.pop.pop.pop.pop⟩)
  exact absurd (w.symm.trans u) (by decide)
 refine Oo 18 Z ?_;have z:ef N_ r.g=false:=by unfold ef;rw[show aX (I N_.event.kind 4)=false from u];rfl
 have A:jP k xc row r.g=0:=by unfold jP;rw[hnx,<-hN,show aX (I N_.fin 0)=false from F,show aX (bU (.ofNat row.length) 14)=false from Q,z];rfl
 refine O Z (QA 0 Z) Z (O Z (QC Z aq.g0 (n:=5) (vs:=[_,_,_,_,_]) Z) Z (O Z (Qy (places:=[(0,1),(1,1)]) (zero:=[T,T]) (cs:=[_,_]) Z) Z<|kp aq Z (QE (cs:=[T,T,T,T,T])) (fun U b4 aq=>?_)));refine kp aq Z (QE (cs:=[T,T])) (fun U b5 aq=>?_);refine eh aq Z (QH Z Z Z aq.g1 (m:=5) Z Z (cells':=[_,_,_,_,_]) Z) Z (fun U aq=>?_);refine bO aq Z (QH Z Z Z aq.g0 (m:=2) Z Z (cells':=[_,_]) Z) Z (fun U aq=>?_);refine OW aq 12 [0,0,2] Z Z<|aE Z (fun w=>?_) (fun w=>?_)
 ·exact absurd (w.symm.trans u) (by decide)
 refine OV aq 5 [6] Z Z<|O Z (QC Z (aq.get 4 Z) (n:=4) (vs:=[_,_,_,_]) Z) Z<|vQ 1 Z<|O Z (QC Z aq.g1 (n:=5) (vs:=[_,_,_,_,_]) Z) Z<|O Z (QC Z aq.g0 (n:=2) (vs:=[_,_]) Z) Z<|vQ 1 Z ?_;have hgl1:=hgl0;have p:fz (bI k xc row).1 r.mem r.g=⟨N_.event,⟨0,0⟩,0,r.mem⟩:=by rw[<-hN];exact nj<|bj w
 have hdo:=oq x o A p;refine cH Z (Qz Z Z Z) (fun _=>Z) (zj hG ag am hg _ _ (N_.event) ⟨0,0⟩ aq) ?_;rintro _ U (⟨er,h,rfl,aq⟩ | ⟨g2,a2,b2,c2,d2,M2,h,rfl,i,aq⟩)
 ·have P:eG k l r t=(none,er):=by rw[hdo];unfold we;rw[show gf r.g (.ofNat (t+1)) (N_.event) ⟨0,0⟩ (0)=(none,er) from h]
  have her:=nQ h;refine P3 aq 4 [6] Z Z<|cC aq (.there (.there (.there (.there .here)))) Z (QH Z Z Z (aq.get 4 Z) (m:=4) Z Z (cells':=[_,_,_,_,_,_,_,_,_,_]) Z) Z (fun U aq=>?_);refine ON 10 Z<|aE Z (fun f=>?_) (fun f=>?_)
  ·refine Pt 2 Z (O Z (Qy (places:=[(0,6),(6,4)]) (zero:=[T,T,T,T,T,T,.ax,.ax,.ax,.ax]) (cs:=[_,_,_,_,_,_,_,_,_,_]) Z) Z<|vQ 1 Z<|jz aq Z (QH Z Z Z (aq.get 3 Z) (m:=10) Z Z (cells':=[_,_,_,_,_,_,_,_,_,_]) Z) Z (fun U aq=>?_));refine OQ 5 Z ?_;exact br Z Z (aq.get 3 Z) (m:=10) Y Z Z (.inl ⟨er,Z,by rw[P],her,(aq.pop.pop.pop.pop.pop).weaken j⟩)
  exact absurd f (by rw[her];decide)
 have P:eG k l r t=(some ⟨r.mem,g2⟩,0):=by rw[hdo];unfold we;rw[show gf r.g (.ofNat (t+1)) (N_.event) ⟨0,0⟩ (0)=(some g2,0) from h]
 replace aq:=aq.keeps;refine P3 aq 4 [6] Z Z<|cC aq (.there (.there (.there (.there .here)))) Z (QH Z Z Z (aq.get 4 Z) (m:=4) Z (ah i.init.leaf.2<|ah i.threads.leaf.2<|ah i.from_.leaf.2<|ah i.order.leaf.2 aC) (cells':=[_,_,_,_,_,_,_,_,_,_]) Z) Z (fun U aq=>?_);refine ON 10 Z<|aE Z (fun f=>?_) (fun f=>?_)
 ·exact absurd f (by decide)
 refine OK 4 Z<|O Z (QC Z (aq.get 4 Z) (n:=10) (vs:=[_,_,_,_,_,_,_,_,_,_]) Z) Z<|jz aq Z (QH Z Z Z (aq.get 3 Z) (m:=10) Z (ah Z<|ah Z<|ah Z<|ah Z<|ah Z<|ah Z<|ah i.init.leaf.2<|ah i.threads.leaf.2<|ah i.from_.leaf.2<|ah i.order.leaf.2 aC) (cells':=[_,_,_,_,_,_,_,_,_,_]) Z) Z (fun U aq=>?_);refine Px 4 Z ?_;exact br Z Z (aq.get 3 Z) (m:=10) Y Z Z (.inr ⟨_,_,_,_,_,_,_,_,_,_,_,_,KP.le_trans j<|KP.bX _ _,P,Z,i,hm,aq.pop.pop.pop.pop.pop⟩)
end Go.Ev
end
