/- Part of the proof: an evaluator of the model's code, rules for walks on it, walks. Without conditions. -/
import Derived.Test.YtpomgjnfncgkgaaGreatDoorEb
import Derived.Test.YtpomgjnfncgkgaaGreatDoorEc
import Derived.ReadAgain
import Derived.ProofKit
import Derived.Test.YtpomgjnfncgkgaaGreatDoorProg
import Derived.KernelRfl
set_option linter.unusedSectionVars false
set_option linter.unusedVariables false
set_option linter.unusedSimpArgs false
noncomputable section
namespace Go.Ev
variable [Env]
open Go.Proofs
set_option maxRecDepth 4000
set_option maxHeartbeats 8000000
theorem HY {op:Int} {s:List Nat} (h:s.length<=9223372036854775807):(jt op s).length<=9223372036854775807:=by
 unfold jt;cases D op 2 with
 | false=>exact h
 | true=>
  show(match iT s with | some _=>114::s | none=>[48]).length<=_;cases u:iT s with
  | none=>show 1<=_;omega
  | some n=>
   obtain⟨_,h4,_⟩:=yj u;show s.length+1<=_;omega
theorem uY:∀{k:Nat} {x:XE},ja k x->ja k (gb k x)
 | 0,_,h=>h.elim
 | k+1,.mk op num name kids,h=>⟨HY h.1,fun y hy=>by
  obtain⟨x,hx,rfl⟩:=List.mem_map.1 hy;exact uY<|h.2 x hx⟩
theorem F3 {α:Type} {p:α->Bool} {l l':List α} (hm:∀s,s∈l'↔s∈l):l'.all p=l.all p:=by
 rw[Bool.eq_iff_iff,aE_,aE_];exact⟨fun h x hx=>h x ((hm x).2 hx),fun h x hx=>h x ((hm x).1 hx)⟩
theorem Jg {G:Cx} (hG:Plain G) {K:H} {k:Nat} {c:XC} {cv:V} (hc:bJ K 6 (gp K k) c.ins cv) {x:XI} {vs:List V} (hI:gp K k x vs) (hF:∀e∈x.exprs,ja k e) (hS:∀e∈x.exprs,db k e<=100000) {U:I} {L:Own} (aq:J U K L):bm Tryz.prog G 170 [.agg [.int .i64 c.bc,cv],.agg vs] U fun v U'=>v= .bool (gT c.bc (.ofNat c.ins.length) k x)/\J U' K L:=by
 obtain⟨w,rfl,hk⟩:=hI;refine QX hG Tryz.func170 Z<|QA 2 Z<|kp aq Z (cA Z Z) (fun U b1 aq=>?_);refine kp aq Z (cA Z Z) (fun U b2 aq=>?_);refine QC 3 Z ?_;obtain⟨LC1,aq,hLC1⟩:=aq.named;refine jA ([5]++rg 10 8) (fun t U=>∃(q:Bool),q=tF x.kind/\t.get 5=some (.bool q)/\J U K LC1) ?_ ?_
 ·subst hLC1;refine Q6 aq 3 [0,0] Z Z<|bj Z (RC Z Z Z) (fun _=>Z) (lI hG _ aq) (fun U aq=>?_);refine ky Z (an Z) (fun bo=>?_) (fun bo=>?_)
  ·refine Q2 6 Z ?_;exact⟨Z,oF,_,(by unfold tF;simp only[bo,ct,cf]<;>rfl),Z,aq⟩
  refine Q7 aq 5 [0,0] Z Z<|af ?_;exact⟨Z,oF,_,(by unfold tF;simp only[bo,ct,cf]<;>rfl),Z,aq⟩
 clear aq;intro t U ar hI;obtain⟨q,hq,b7,aq⟩:=hI;subst hLC1;obtain⟨oo,rfl⟩:=ar.q1 b7 Z;subst hq;obtain⟨LC2,aq,hLC2⟩:=aq.named;refine jA ([6]++rg 18 8) (fun t U=>∃(q:Bool),q=MS x.kind/\t.get 6=some (.bool q)/\J U K LC2) ?_ ?_
 ·subst hLC2;refine Q6 aq 4 [0,0] Z Z<|ky Z (an Z) (fun bs=>?_) (fun bs=>?_)
  ·refine Q2 6 Z ?_;exact⟨Z,oF,_,(by unfold MS;simp only[bs,ct,cf]<;>rfl),Z,aq⟩
  refine Q7 aq 5 [0,0] Z Z<|af ?_;exact⟨Z,oF,_,(by unfold MS;simp only[bs,ct,cf]<;>rfl),Z,aq⟩
 clear aq;intro t U ar hI;obtain⟨q,hq,b8,aq⟩:=hI;subst hLC2;obtain⟨oo,rfl⟩:=ar.q1 b8 Z;subst hq;refine ak ?_;obtain⟨LC3,aq,hLC3⟩:=aq.named;refine jA (rg 26 28) (fun t U=>∃(q:Bool),q=pV x/\t.get 53=some (.bool q)/\J U K LC3) ?_ ?_
 ·subst hLC3;refine aS (l:=[(0,[]),(1,[]),(3,[]),(4,[]),(5,[]),(2,[4]),(6,[]),(7,[]),(8,[]),(9,[]),(10,[]),(11,[]),(12,[]),(13,[]),(14,[]),(15,[]),(16,[]),(17,[]),(18,[]),(19,[]),(20,[]),(21,[]),(22,[]),(23,[]),(24,[]),(25,[]),(26,[]),(27,[])]) Y Y<|Q8 aq 4 [0,0,5,0] Z Z<|al Z Z (RG hk Z Z Z (e:=82) Z) Z<|cy Z Z (RC Z Z Z) (fun _=>Z) (LR hG _ aq) (fun U aq=>?_);refine⟨(bx (bO Z Z Z Z Z (RE Z aq.g0 Z) hk.dZ) aT),?_⟩;refine wQ 1 Z<|dC Z Z (an Z) (fun _=>Z) (fun aa=>?_) (fun aa=>?_)
  ·refine Q4 21 Z ?_;exact⟨Z,oF,_,(by unfold pV BW bd;simp only[aa,ct,cf]<;>rfl),Z,aq⟩
  refine Q8 aq 4 [3,0] Z Z<|dC Z Z (an Z) (fun _=>Z) (fun am=>?_) (fun am=>?_)
  ·refine Q8 aq 6 [3,0] Z Z<|dC Z Z (an Z) (fun _=>Z) (fun W=>?_) (fun W=>?_)
   ·refine Q4 9 Z ?_;exact⟨Z,oF,_,(by unfold pV BW bd;simp only[aa,am,W,ct,cf]<;>rfl),Z,aq⟩
   refine wQ 1 Z<|al Z Z (cT Z) Z<|dC Z Z (an Z) (fun _=>Z) (fun ao=>?_) (fun ao=>?_)
   ·refine Q8 aq 5 [3,0] Z Z<|aY ?_;exact⟨Z,oF,_,(by unfold pV BW bd;simp only[aa,am,W,show(bif tF x.kind then false else true)=true from ao,ct,cf]<;>rfl),Z,aq⟩
   refine Q4 6 Z ?_;exact⟨Z,oF,_,(by unfold pV BW bd;simp only[aa,am,W,show(bif tF x.kind then false else true)=false from ao,ct,cf]<;>rfl),Z,aq⟩
  refine Q5 6 Z<|dC Z Z (an Z) (fun _=>Z) (fun W=>?_) (fun W=>?_)
  ·refine Q4 9 Z ?_;exact⟨Z,oF,_,(by unfold pV BW bd;simp only[aa,am,show(bif tF x.kind then true else false)=true from W,ct,cf]<;>rfl),Z,aq⟩
  refine wQ 1 Z<|al Z Z (cT Z) Z<|dC Z Z (an Z) (fun _=>Z) (fun ao=>?_) (fun ao=>?_)
  ·refine Q8 aq 5 [3,0] Z Z<|aY ?_;exact⟨Z,oF,_,(by unfold pV BW bd;simp only[aa,am,show(bif tF x.kind then true else false)=false from W,show(bif tF x.kind then false else true)=true from ao,ct,cf]<;>rfl),Z,aq⟩
  refine Q4 6 Z ?_;exact⟨Z,oF,_,(by unfold pV BW bd;simp only[aa,am,show(bif tF x.kind then true else false)=false from W,show(bif tF x.kind then false else true)=false from ao,ct,cf]<;>rfl),Z,aq⟩
 clear aq;intro t U ar hI;obtain⟨q,hq,b4,aq⟩:=hI;subst hLC3;obtain⟨oo,rfl⟩:=ar.q1 b4 Z;subst hq;refine aD Z (fun ap=>?_) (fun ap=>?_)
 ·refine QB 7 Z ?_;exact aB Z Z ⟨cB (by unfold gT;rw[ap];rfl),aq.pop.pop⟩
 refine PW 3 Z ?_;obtain⟨LC5,aq,hLC5⟩:=aq.named;refine jA (rg 54 52) (fun t U=>∃(q:Bool),q=nt c.bc x/\t.get 105=some (.bool q)/\J U K LC5) ?_ ?_
 ·subst hLC5;refine Q6 aq 3 [0,0] Z Z<|bj Z (RC Z Z Z) (fun _=>Z) (EG hG _ aq) (fun U aq=>?_);refine ky Z (an Z) (fun A=>?_) (fun A=>?_)
  ·refine Q7 aq 3 [1,0] Z Z<|ky Z (an Z) (fun aK=>?_) (fun aK=>?_)
   ·refine Q2 45 Z ?_;exact⟨Z,oF,_,(by unfold nt bd;simp only[A,aK,ct,cf]<;>rfl),Z,aq⟩
   refine Q7 aq 7 [1,0,0,1] Z Z<|ky Z (an Z) (fun a5=>?_) (fun a5=>?_)
   ·refine Q2 37 Z ?_;exact⟨Z,oF,_,(by unfold nt bd;simp only[A,aK,a5,ct,cf]<;>rfl),Z,aq⟩
   refine Q7 aq 2 [0,0] Z Z<|bj Z (RC Z Z Z) (fun _=>Z) (EG hG _ aq) (fun U aq=>?_);refine O Z (cT Z) Z<|ky Z (an Z) (fun C=>?_) (fun C=>?_)
   ·exact absurd C (by rw[A];decide)
   refine Q7 aq 8 [0,0] Z Z<|bj Z (RC Z Z Z) (fun _=>Z) (lI hG _ aq) (fun U aq=>?_);refine ky Z (an Z) (fun z=>?_) (fun z=>?_)
   ·refine Q7 aq 3 [2,0] Z Z<|ky Z (an Z) (fun X=>?_) (fun X=>?_)
    ·refine Q2 18 Z ?_;exact⟨Z,oF,_,(by unfold nt bd;simp only[A,aK,a5,show(bif lM x.kind then false else true)=false from C,z,X,ct,cf]<;>rfl),Z,aq⟩
    refine Q7 aq 6 [2,0] Z Z<|ky Z (an Z) (fun a0=>?_) (fun a0=>?_)
    ·refine Q2 11 Z ?_;exact⟨Z,oF,_,(by unfold nt bd;simp only[A,aK,a5,show(bif lM x.kind then false else true)=false from C,z,X,a0,ct,cf]<;>rfl),Z,aq⟩
    refine Q7 aq 2 [0,0] Z Z<|bj Z (RC Z Z Z) (fun _=>Z) (lI hG _ aq) (fun U aq=>?_);refine O Z (cT Z) Z<|ky Z (an Z) (fun u=>?_) (fun u=>?_)
    ·exact absurd u (by rw[z];decide)
    refine Q2 6 Z ?_;exact⟨Z,oF,_,(by unfold nt bd;simp only[A,aK,a5,show(bif lM x.kind then false else true)=false from C,z,X,a0,show(bif rU x.kind then false else true)=false from u,ct,cf]<;>rfl),Z,aq⟩
   refine Q7 aq 13 [0,0] Z Z<|bj Z (RC Z Z Z) (fun _=>Z) (lI hG _ aq) (fun U aq=>?_);refine O Z (cT Z) Z<|ky Z (an Z) (fun u=>?_) (fun u=>?_)
   ·refine Q7 aq 5 [2,0] Z Z<|af ?_;exact⟨Z,oF,_,(by unfold nt bd;simp only[A,aK,a5,show(bif lM x.kind then false else true)=false from C,z,show(bif rU x.kind then false else true)=true from u,ct,cf]<;>rfl),Z,aq⟩
   exact absurd u (by rw[z];decide)
  refine Q7 aq 14 [0,0] Z Z<|bj Z (RC Z Z Z) (fun _=>Z) (EG hG _ aq) (fun U aq=>?_);refine O Z (cT Z) Z<|ky Z (an Z) (fun C=>?_) (fun C=>?_)
  ·refine Q7 aq 5 [1,0] Z Z<|ky Z (an Z) (fun a6=>?_) (fun a6=>?_)
   ·refine Q2 26 Z ?_;exact⟨Z,oF,_,(by unfold nt bd;simp only[A,show(bif lM x.kind then false else true)=true from C,a6,ct,cf]<;>rfl),Z,aq⟩
   refine Q7 aq 2 [0,0] Z Z<|bj Z (RC Z Z Z) (fun _=>Z) (lI hG _ aq) (fun U aq=>?_);refine ky Z (an Z) (fun z=>?_) (fun z=>?_)
   ·refine Q7 aq 3 [2,0] Z Z<|ky Z (an Z) (fun X=>?_) (fun X=>?_)
    ·refine Q2 18 Z ?_;exact⟨Z,oF,_,(by unfold nt bd;simp only[A,show(bif lM x.kind then false else true)=true from C,a6,z,X,ct,cf]<;>rfl),Z,aq⟩
    refine Q7 aq 6 [2,0] Z Z<|ky Z (an Z) (fun a0=>?_) (fun a0=>?_)
    ·refine Q2 11 Z ?_;exact⟨Z,oF,_,(by unfold nt bd;simp only[A,show(bif lM x.kind then false else true)=true from C,a6,z,X,a0,ct,cf]<;>rfl),Z,aq⟩
    refine Q7 aq 2 [0,0] Z Z<|bj Z (RC Z Z Z) (fun _=>Z) (lI hG _ aq) (fun U aq=>?_);refine O Z (cT Z) Z<|ky Z (an Z) (fun u=>?_) (fun u=>?_)
    ·exact absurd u (by rw[z];decide)
    refine Q2 6 Z ?_;exact⟨Z,oF,_,(by unfold nt bd;simp only[A,show(bif lM x.kind then false else true)=true from C,a6,z,X,a0,show(bif rU x.kind then false else true)=false from u,ct,cf]<;>rfl),Z,aq⟩
   refine Q7 aq 13 [0,0] Z Z<|bj Z (RC Z Z Z) (fun _=>Z) (lI hG _ aq) (fun U aq=>?_);refine O Z (cT Z) Z<|ky Z (an Z) (fun u=>?_) (fun u=>?_)
   ·refine Q7 aq 5 [2,0] Z Z<|af ?_;exact⟨Z,oF,_,(by unfold nt bd;simp only[A,show(bif lM x.kind then false else true)=true from C,a6,z,show(bif rU x.kind then false else true)=true from u,ct,cf]<;>rfl),Z,aq⟩
   exact absurd u (by rw[z];decide)
  exact absurd C (by rw[A];decide)
 clear aq;intro t U ar hI;obtain⟨q,hq,bt,aq⟩:=hI;subst hLC5;obtain⟨oo,rfl⟩:=ar.q1 bt Z;subst hq;refine aD Z (fun R=>?_) (fun R=>?_)
 ·refine QB 7 Z ?_;exact aB Z Z ⟨cB (by unfold gT;rw[ap,R];rfl),aq.pop.pop⟩
 refine PW 3 Z ?_;obtain⟨LC7,aq,hLC7⟩:=aq.named;refine jA (rg 106 23) (fun t U=>∃(q:Bool),q=wL (.ofNat c.ins.length) x/\t.get 128=some (.bool q)/\J U K LC7) ?_ ?_
 ·subst hLC7;refine ai Z<|vQ 1 Z<|ky Z (an Z) (fun M=>?_) (fun M=>?_)
  ·refine Q7 aq 3 [4,0] Z Z<|ky Z (an Z) (fun a2=>?_) (fun a2=>?_)
   ·refine Q2 18 Z ?_;exact⟨Z,oF,_,(by unfold wL bd;simp only[M,a2,ct,cf]<;>rfl),Z,aq⟩
   refine Q7 aq 4 [4,0,1,1] Z Z<|O Z (RG hc Z Z Z (e:=79) Z) Z<|Q3 3 Z<|ky Z (an Z) (fun a7=>?_) (fun a7=>?_)
   ·refine Q2 9 Z ?_;exact⟨Z,oF,_,(by unfold wL bd;simp only[M,a2,a7,ct,cf]<;>rfl),Z,aq⟩
   refine vQ 1 Z<|O Z (cT Z) Z<|ky Z (an Z) (fun Q=>?_) (fun Q=>?_)
   ·exact absurd Q (by rw[M];decide)
   refine Q2 6 Z ?_;exact⟨Z,oF,_,(by unfold wL bd;simp only[M,a2,a7,show(bif MS x.kind then false else true)=false from Q,ct,cf]<;>rfl),Z,aq⟩
  refine Q3 14 Z<|O Z (cT Z) Z<|ky Z (an Z) (fun Q=>?_) (fun Q=>?_)
  ·refine Q7 aq 5 [4,0] Z Z<|af ?_;exact⟨Z,oF,_,(by unfold wL bd;simp only[M,show(bif MS x.kind then false else true)=true from Q,ct,cf]<;>rfl),Z,aq⟩
  exact absurd Q (by rw[M];decide)
 clear aq;intro t U ar hI;obtain⟨q,hq,bv,aq⟩:=hI;subst hLC7;obtain⟨oo,rfl⟩:=ar.q1 bv Z;subst hq;refine aD Z (fun ab=>?_) (fun ab=>?_)
 ·refine QB 7 Z ?_;exact aB Z Z ⟨cB (by unfold gT;rw[ap,R,ab];rfl),aq.pop.pop⟩
 refine Pt 9 Z ?_;obtain⟨LL1,aq,hLL1⟩:=aq.named;refine bp ([4,7,8,9]++rg 129 35) (fun j t U=>∃(i:Nat),j+i=x.exprs.length/\(x.exprs.take i).all (m8 c.bc k)=true/\t.get 7=some (.int .i64 (.ofNat i))/\J U K LL1) (x.exprs.length) ⟨0,Z,Z,Z,aq⟩ ?_;clear aq;intro b9 t U ar hI;obtain⟨i,hj,ha,ca,aq⟩:=hI;subst hLL1;obtain⟨oo,rfl⟩:=ar.q1 ca Z;refine P7 aq 6 [5,0] Z Z<|O Z (RG hk Z Z Z (e:=82) Z) Z<|QC 3 Z<|aD Z (fun ac=>?_) (fun ac=>?_)
 ·refine OR 5 Z<|QH aq 5 [5,0] Z Z ?_;obtain⟨c1,F,cb⟩:=cE ac;refine Rx (e:=82) (m:=4) hk F Z Z Z Z (fun c2 cc bw ce a8=>?_);obtain⟨c3,c4,c5,c7,rfl,ch⟩:=a8.shape;refine O Z (RJ aq bw Z Z) Z ?_;have hmem:=gB_ F;refine cd Z (RC Z Z Z) (fun _=>Z) (LO hG _ _ _ _ a8 (hF _ hmem) (Nat.le_trans (hS _ hmem) B) _ _ aq) ?_;rintro _ U ⟨c8,ci,rfl,E,hE141,aq⟩;refine bj Z (RC Z Z Z) (fun _=>Z) (vr hG hE141 (uY<|hF _ hmem) (by rw[qV];exact Nat.le_trans (hS _ hmem) B) aq) (fun U aq=>?_);refine QC 3 Z<|aD Z (fun a3=>?_) (fun a3=>?_)
  ·refine Q1 6 Z<|av<|aE<|av<|bq<|aE<|av (?_);exact aB Z Z ⟨cB (by unfold gT;rw[ap,R,ab];show _=x.exprs.all (m8 c.bc k);rw[gQ F (by unfold m8;rw[bN a3];rfl)]),(aq.weaken E).pop.pop⟩
  refine PX 4 Z ?_;have hk2:=hk.mono E (fun _ _ h=>eE.mono E h);refine Q7 aq 3 [5,0] Z Z<|Rx (e:=82) (m:=4) hk2 F Z Z Z Z (fun c9 ck bz cl a9=>?_);obtain⟨dd,dl,dm,dr,rfl,cn⟩:=a9.shape;refine O Z (RJ aq bz Z Z) Z<|cd Z (RC Z Z Z) (fun _=>Z) (LU hG a9 (hS _ hmem) aq) ?_;rintro ds U ⟨b5,bb,a4,be,bi,aq⟩;refine PZ 9 Z ?_;obtain⟨LL2,aq,hLL2⟩:=aq.named;refine bp ([4,9]++rg 150 14) (fun j t U=>∃(i2:Nat),j+i2=bb.length/\(bb.take i2).all (fun s=>bR (j0 s) c.bc)=true/\t.get 9=some (.int .i64 (.ofNat i2))/\J U b5 LL2) (bb.length) ⟨0,Z,Z,Z,aq⟩ ?_;clear aq;intro co t U ar hI;obtain⟨i2,d1,b6,cp,aq⟩:=hI;subst hLL2;obtain⟨oo,rfl⟩:=ar.q1 cp Z;refine PV 5 Z<|O Z (RG be Z Z Z (e:=9) Z) Z<|QC 3 Z<|aD Z (fun ae=>?_) (fun ae=>?_)
  ·refine OR 5 Z (aS (l:=[(0,[]),(1,[]),(2,[]),(3,[]),(5,[]),(6,[]),(4,[6]),(7,[])]) Y Y<|Q5 2 Z ?_);obtain⟨dx,a1,cs⟩:=cE ae;refine Ry (e:=9) (m:=1) be a1 Z Z Z Z Z (fun d0 cx b0 c0 b3=>?_);obtain rfl:=b3;refine al Z Z (RI aq b0 Z Z) Z<|Q8 aq 2 [0,1] Z Z<|cy Z Z (RC Z Z Z) (fun _=>Z) (Ja hG _ aq) (fun U aq=>?_);refine⟨(bx (bO Z Z Z Z Z (RE Z aq.g1 Z)<|jm _ _) aT),?_⟩;refine QF 3 Z<|aD Z (fun bl=>?_) (fun bl=>?_)
   ·refine Q1 6 Z<|aE<|av<|bq<|aE<|aE<|av<|bq<|aE<|av (?_);exact aB Z Z ⟨cB (by unfold gT;rw[ap,R,ab];show _=x.exprs.all (m8 c.bc k);rw[gQ F (by unfold m8;rw[bn a3,<-F3 bi];exact gQ a1<|bN bl)]),((aq.weaken a4).weaken E).pop.pop⟩
   refine aG<|aI<|Q0 5 Z<|aM ⟨co-1,(by have:=bk ae;omega),oF,i2+1,(by have:=bk ae;omega),fc b6 a1<|bn bl,cI<|bg (by have:=be.bG;omega),aq⟩
  refine PY 3 Z<|aU<|aI<|Q0 5 Z ?_;replace aq:=(aq.weaken a4).weaken E;refine aM ⟨b9-1,(by have:=bk ac;omega),oF,i+1,(by have:=bk ac;omega),fc ha F (by unfold m8;rw[bn a3,<-F3 bi,dT b6<|br ae];rfl),cI<|bg (by have:=hk.bG;omega),aq⟩
 refine PY 3 Z<|aU<|Q1 6 Z ?_;exact aB Z Z ⟨cB (by unfold gT;rw[ap,R,ab];show _=x.exprs.all (m8 c.bc k);rw[dT ha<|br ac]),aq.pop.pop⟩
theorem LZ {n:Nat} (h:D (.ofNat n) 0=false):n≠0:=by rintro rfl;cases h
theorem Lb {n:Nat} (h:0<n) (h2:n<=9223372036854775807):wr .i64 (Int.sub (.ofNat n) 1)= .ofNat (n-1):=by
 have:Int.sub (.ofNat n) 1= .ofNat (n-1):=by show(n:Int)-1=((n-1:Nat):Int);omega
 rw[this];exact yM B
theorem Ga {k:Nat} {e:XE}:D (pg k e) 3=g9 k e:=by
 unfold pg;cases g9 k e with
 | true=>rfl
 | false=>cases ed k e<;>rfl
def r4 (k:Nat) (c:XC):Prop:=∀x∈c.ins,∀e∈x.exprs,db k e<=100000
theorem wW {G:Cx} (hG:Plain G) {K:H} {k:Nat} {c:XC} {cv:V} (hc:bJ K 6 (gp K k) c.ins cv) (hF:lC k c) (hS:r4 k c) {U:I} {L:Own} (aq:J U K L):bm Tryz.prog G 118 [.agg [.int .i64 c.bc,cv]] U fun v U'=>v= .int .i64 (gR k c)/\J U' K L:=by
 refine QX hG Tryz.func118 Z<|QA 2 Z<|kp aq Z (cA Z Z) (fun U b1 aq=>?_);refine Pz aq 9 [0,0] Z Z<|ky Z (an Z) (fun u=>?_) (fun u=>?_)
 ·refine P3 15 Z ?_;exact aB Z Z ⟨cJ (by unfold gR;rw[show bR 16 c.bc=true from u];rfl),aq.pop⟩
 refine Q7 aq 2 [1,0] Z Z<|O Z (RG hc Z Z Z (e:=79) Z) Z<|QC 4 Z<|aD Z (fun A=>?_) (fun A=>?_)
 ·refine QB 7 Z ?_;exact aB Z Z ⟨cJ (by unfold gR;rw[show bR 16 c.bc=false from u,show bR 4000 (.ofNat c.ins.length)=true from A];rfl),aq.pop⟩
 refine Pt 9 Z ?_;obtain⟨LL1,aq,hLL1⟩:=aq.named;refine bp ([2,3,4]++rg 16 29) (fun j t U=>∃(i:Nat),j+i=c.ins.length/\(c.ins.take i).any (fun x=>x.exprs.any (g9 k))=false/\t.get 3=some (.int .i64 (.ofNat i))/\J U K LL1) (c.ins.length) ⟨0,Z,Z,Z,aq⟩ ?_;clear aq;intro j4 t U ar hI;obtain⟨i,hj,ha,bv,aq⟩:=hI;subst hLL1;obtain⟨oo,rfl⟩:=ar.q1 bv Z;refine P7 aq 6 [1,0] Z Z<|O Z (RG hc Z Z Z (e:=79) Z) Z<|QC 3 Z<|aD Z (fun z=>?_) (fun z=>?_)
 ·refine OS 6 Z ?_;obtain⟨aK,C,b2⟩:=cE z;have hm27:=gB_ C;refine PZ 4 Z ?_;obtain⟨LL2,aq,hLL2⟩:=aq.named;refine bp ([2,4]++rg 23 22) (fun j t U=>∃(i2:Nat),j+i2=aK.exprs.length/\(aK.exprs.take i2).any (g9 k)=false/\t.get 4=some (.int .i64 (.ofNat i2))/\J U K LL2) (aK.exprs.length) ⟨0,Z,Z,Z,aq⟩ ?_;clear aq;intro j7 t U ar hI;obtain⟨i2,cn,a3,bw,aq⟩:=hI;subst hLL2;obtain⟨oo,rfl⟩:=ar.q1 bw Z;refine P7 aq 7 [1,0] Z Z<|Rx (e:=79) (m:=6) hc C Z Z Z Z (fun co b3 a4 b4 a5=>?_);have hr27':=a5;obtain⟨cp,rfl,am⟩:=hr27';refine bZ a4 Z Z Z (k:=5) Y (lb Z) (fun _=>Z) (fun cs a6=>?_);refine O Z (RI aq a6 Z Z) Z<|O Z (RG am Z Z Z (e:=82) Z) Z<|QC 3 Z<|aD Z (fun aa=>?_) (fun aa=>?_)
  ·refine OU aq 9 [1,0] Z Z<|Rx (e:=79) (m:=6) hc C Z Z Z Z (fun cx b5 a7 b6 a8=>?_);have hr37':=a8;obtain⟨c0,rfl,a9⟩:=hr37';refine bZ a7 Z Z Z (k:=5) Y (lb Z) (fun _=>Z) (fun c1 bb=>?_);refine O Z (RI aq bb Z Z) Z<|vQ 1 Z ?_;obtain⟨c2,E,b7⟩:=cE aa;refine Rx (e:=82) (m:=4) a9 E Z Z Z Z (fun c3 b8 be b9 ao=>?_);obtain⟨c4,c5,c7,c8,rfl,ca⟩:=ao.shape;refine O Z (RJ aq be Z Z) Z<|bj Z (RC Z Z Z) (fun _=>Z) (vr hG ao (hF _ hm27 _<|gB_ E) (Nat.le_trans (hS _ hm27 _<|gB_ E) B) aq) (fun U aq=>?_);refine QC 3 Z<|aD Z (fun a0=>?_) (fun a0=>?_)
   ·refine Q1 6 Z<|aE<|av<|bq<|aE<|aE<|av<|bq<|aE<|av (?_);exact aB Z Z ⟨cJ (by unfold gR;rw[show bR 16 c.bc=false from u,show bR 4000 (.ofNat c.ins.length)=false from A];rw[lP C<|lP E (by rw[<-Ga];exact a0)];rfl),aq.pop⟩
   refine aG<|aI<|Q0 5 Z<|aM ⟨j7-1,(by have:=bk aa;omega),oF,i2+1,(by have:=bk aa;omega),jl a3 E (by rw[<-Ga];exact a0),cI<|bg (by have:=am.bG;omega),aq⟩
  refine PY 3 Z<|aU<|aI<|Q0 5 Z<|aM ⟨j4-1,(by have:=bk z;omega),oF,i+1,(by have:=bk z;omega),jl ha C<|fP a3<|br aa,cI<|bg (by have:=hc.bG;omega),aq⟩
 refine PY 3 Z<|aU<|P7 aq 6 [0,0] Z Z<|ky Z (an Z) (fun F=>?_) (fun F=>?_)
 ·refine P3 15 Z ?_;exact aB Z Z ⟨cJ (by unfold gR;rw[show bR 16 c.bc=false from u,show bR 4000 (.ofNat c.ins.length)=false from A];rw[show c.ins.any (fun x=>x.exprs.any (g9 k))=false from fP ha (br z)];rw[show bR c.bc 0=true from F];rfl),aq.pop⟩
 refine Q7 aq 2 [1,0] Z Z<|O Z (RG hc Z Z Z (e:=79) Z) Z<|QC 4 Z<|aD Z (fun M=>?_) (fun M=>?_)
 ·refine QB 7 Z ?_;exact aB Z Z ⟨cJ (by unfold gR;rw[show bR 16 c.bc=false from u,show bR 4000 (.ofNat c.ins.length)=false from A];rw[show c.ins.any (fun x=>x.exprs.any (g9 k))=false from fP ha (br z)];rw[show bR c.bc 0=false from F,show D (.ofNat c.ins.length) 0=true from M];rfl),aq.pop⟩
 refine Pt 9 Z ?_;obtain⟨LL3,aq,hLL3⟩:=aq.named;refine bp ([2,5]++rg 54 15) (fun j t U=>∃(i:Nat),j+i=c.ins.length/\(c.ins.take i).all (gT c.bc (.ofNat c.ins.length) k)=true/\t.get 5=some (.int .i64 (.ofNat i))/\J U K LL3) (c.ins.length) ⟨0,Z,Z,Z,aq⟩ ?_;clear aq;intro bz t U ar hI;obtain⟨i,c9,Q,b0,aq⟩:=hI;subst hLL3;obtain⟨oo,rfl⟩:=ar.q1 b0 Z;refine P7 aq 6 [1,0] Z Z<|O Z (RG hc Z Z Z (e:=79) Z) Z<|QC 3 Z<|aD Z (fun R=>?_) (fun R=>?_)
 ·refine OR 5 Z<|aS (l:=zp [0,1,2,3,4,5,6,7]) Y Y<|al Z Z (RF Z aq.g0 (n:=2) (vs:=[_,_]) Z) Z<|Q8 aq 3 [1,0] Z Z ?_;obtain⟨dd,W,cb⟩:=cE R;refine Ry (e:=79) (m:=6) hc W Z Z Z Z Z (fun dl cc bi ce ap=>?_);have hr65raw:=ap;have hr65':=ap;obtain⟨dm,rfl,ch⟩:=hr65';refine al Z Z (RJ aq bi Z Z) Z<|cy Z Z (RC Z Z Z) (fun _=>Z) (Jg hG hc hr65raw (hF _<|gB_ W) (hS _<|gB_ W) aq) (fun U aq=>?_);refine⟨aT,?_⟩;refine al Z Z (cT Z) Z<|QF 2 Z<|aD Z (fun a1=>?_) (fun a1=>?_)
  ·refine Q1 6 Z<|aE<|av<|bq<|aE<|av (?_);exact aB Z Z ⟨cJ (by unfold gR;rw[show bR 16 c.bc=false from u,show bR 4000 (.ofNat c.ins.length)=false from A];rw[show c.ins.any (fun x=>x.exprs.any (g9 k))=false from fP ha (br z)];rw[show bR c.bc 0=false from F,show D (.ofNat c.ins.length) 0=false from M];rw[gQ W<|bN a1];rfl),aq.pop⟩
  refine aG<|aI<|Q0 5 Z<|aM ⟨bz-1,(by have:=bk R;omega),oF,i+1,(by have:=bk R;omega),fc Q W<|bn a1,cI<|bg (by have:=hc.bG;omega),aq⟩
 refine PY 3 Z<|aU<|QA 2 Z ?_;have bl:0<c.ins.length:=by have:=LZ M;omega
 obtain⟨ac,X⟩:=cq (show c.ins.length-1<c.ins.length by omega);refine Q7 aq 4 [1,0,1,0] Z Z<|O Z (RG hc Z Z Z (e:=79) Z) Z<|vQ 1 Z<|Rx (e:=79) (m:=6) hc X Z Z Z (show _=some (V.int .i64 (.ofNat (c.ins.length-1))) from cI (Lb bl (by have:=hc.bG;omega))) (fun dr ci bo ck bs=>?_);have hr75':=bs;obtain⟨ds,rfl,cl⟩:=hr75';refine bZ bo Z Z Z (k:=0) Y (lb Z) (fun _=>Z) (fun dx bt=>?_);refine O Z (RI aq bt Z Z) Z<|Pw 8 Z<|ky Z (an Z) (fun ab=>?_) (fun ab=>?_)
 ·refine Q3 3 Z<|ky Z (an Z) (fun ae=>?_) (fun ae=>?_)
  ·refine QC 5 Z<|aD Z (fun a2=>?_) (fun a2=>?_)
   ·refine QB 7 Z ?_;exact aB Z Z ⟨cJ (by unfold gR;rw[show bR 16 c.bc=false from u,show bR 4000 (.ofNat c.ins.length)=false from A];rw[show c.ins.any (fun x=>x.exprs.any (g9 k))=false from fP ha (br z)];rw[show bR c.bc 0=false from F,show D (.ofNat c.ins.length) 0=false from M];rw[dT Q<|br R,X];show _=bif gL ac then _ else _;unfold gL;simp only[bN ab,bN ae,bN a2,ct,cf]<;>rfl),aq.pop⟩
   refine QB 8 Z ?_;exact aB Z Z ⟨cJ (by unfold gR;rw[show bR 16 c.bc=false from u,show bR 4000 (.ofNat c.ins.length)=false from A];rw[show c.ins.any (fun x=>x.exprs.any (g9 k))=false from fP ha (br z)];rw[show bR c.bc 0=false from F,show D (.ofNat c.ins.length) 0=false from M];rw[dT Q<|br R,X];show _=bif gL ac then _ else _;unfold gL;simp only[bN ab,bN ae,bn a2,ct,cf]<;>rfl),aq.pop⟩
  refine P3 14 Z ?_;exact aB Z Z ⟨cJ (by unfold gR;rw[show bR 16 c.bc=false from u,show bR 4000 (.ofNat c.ins.length)=false from A];rw[show c.ins.any (fun x=>x.exprs.any (g9 k))=false from fP ha (br z)];rw[show bR c.bc 0=false from F,show D (.ofNat c.ins.length) 0=false from M];rw[dT Q<|br R,X];show _=bif gL ac then _ else _;unfold gL;simp only[bN ab,bn ae,ct,cf]<;>rfl),aq.pop⟩
 refine P3 18 Z ?_;exact aB Z Z ⟨cJ (by unfold gR;rw[show bR 16 c.bc=false from u,show bR 4000 (.ofNat c.ins.length)=false from A];rw[show c.ins.any (fun x=>x.exprs.any (g9 k))=false from fP ha (br z)];rw[show bR c.bc 0=false from F,show D (.ofNat c.ins.length) 0=false from M];rw[dT Q<|br R,X];show _=bif gL ac then _ else _;unfold gL;simp only[bn ab,ct,cf]<;>rfl),aq.pop⟩
end Go.Ev
namespace Go.Ev
variable [Env]
def jQ (x:XI) (a:Nat):List Int:=
 bif D x.kind 12 then [] else bif D x.kind 13 then [] else bif D x.kind 10 then [x.to] else
 bif D x.kind 11 then(bif bR x.to (.ofNat (a+1)) then [x.to,.ofNat (a+1)] else bif bR (.ofNat (a+1)) x.to then [.ofNat (a+1),x.to] else [.ofNat (a+1)]) else [.ofNat (a+1)]
def dW (c:XC) (i:Nat):List Nat:=match c.ins[i]? with | some x=>(jQ x i).map Int.toNat | none=>[]
theorem zV {x:XI} {a:Nat} {t:Int}:t∈jQ x a↔t∈fw x a:=by
 unfold jQ fw;cases u:D x.kind 12 with
 | true=>rw[eqv u];simp[show D 12 10=false from Z,show D 12 11=false from Z,show D 12 12=true from Z]
 | false=>
 cases z:D x.kind 13 with
 | true=>rw[eqv z];simp[show D 13 10=false from Z,show D 13 11=false from Z,show D 13 12=false from Z,show D 13 13=true from Z]
 | false=>
 cases aa:D x.kind 10 with
 | true=>simp
 | false=>
 cases ab:D x.kind 11 with
 | false=>simp
 | true=>
  simp only[cond_true,cond_false];cases hl:bR x.to (.ofNat (a+1)) with
  | true=>grind
  | false=>
   grind [fo]
theorem pG {c:XC} {i t:Nat}:t∈dW c i↔t∈cV c i:=by
 unfold dW cV;cases c.ins[i]? with
 | none=>exact Iff.rfl
 | some x=>simp only[List.mem_map,zV]
theorem Dd:∀(n:Nat) (l:List Nat),l.Nodup->(∀x∈l,x<n)->l.length<=n
 | 0,l,_,h=>by cases l with | nil=>exact nR_ _ | cons a l=>exact absurd (h a<|mS_ ..) (nZ_ _)
 | n+1,l,u,h=>by
  have:=Dd n (l.erase n) (u.erase n) (fun x hx=>by
   grind)
  grind
def kV (f:Nat->Nat) (l:List Nat) (m:Nat):Nat:=l.foldl (fun m t=>max m (f t)) m
theorem rE {f:Nat->Nat} {B_:Nat}:∀{l:List Nat} {m:Nat},m<=B_->(∀t∈l,f t<=B_)->kV f l m<=B_
 | [],_,hm,_=>hm
 | a::l,m,hm,h=>rE (l:=l) (Nat.max_le.2 ⟨hm,h a<|mS_ ..⟩) (fun t u=>h t (mC_ _ u))
theorem C0 {f:Nat->Nat}:∀{l:List Nat} {m:Nat},m<=kV f l m
 | [],_=>nR_ _
 | a::l,m=>Nat.le_trans (Nat.le_max_left _ _) (C0 (l:=l))
theorem pB {f:Nat->Nat}:∀{l:List Nat} {m t:Nat},t∈l->f t<=kV f l m
 | a::l,m,t,h=>by
  rcases mQ_.1 h with rfl | h
  ·exact Nat.le_trans (Nat.le_max_right _ _)<|C0 (l:=l)
  exact pB (l:=l) h
theorem pE {f g:Nat->Nat} {l l':List Nat} (h:∀t,t∈l↔t∈l') (hf:∀t∈l,f t=g t):kV f l 0=kV g l' 0:=by
 refine Nat.le_antisymm (rE (Nat.zero_le _) fun t u=>?_)<|rE (Nat.zero_le _) fun t u=>?_
 ·rw[hf t u];exact pB ((h t).1 u)
 rw[<-hf t ((h t).2 u)];exact pB ((h t).2 u)
theorem H3 {f g:Nat->Nat} {l:List Nat} (hf:∀t∈l,f t<=g t):kV f l 0<=kV g l 0:=rE (Nat.zero_le _) fun t u=>Nat.le_trans (hf t u) (pB u)
theorem zU {f:Nat->Nat}:∀{l:List Nat} {m:Nat},kV f l m=m∨∃t∈l,kV f l m=f t
 | [],_=>.inl Z
 | a::l,m=>by
  rcases zU (f:=f) (l:=l) (m:=max m<|f a) with h | ⟨t,u,h⟩
  ·show kV f l (max m<|f a)=m∨_;rcases Nat.le_total m (f a) with h1 | h1
   ·exact .inr ⟨a,mS_ ..,by show kV f l (max m<|f a)=_;rw[Nat.max_eq_right h1] at h⊢;exact h⟩
   exact .inl (by rw[Nat.max_eq_left h1] at h⊢;exact h)
  exact .inr ⟨t,mC_ _ u,h⟩
inductive Reach (nx:Nat->List Nat):Nat->Prop
 | zero:Reach nx 0
 | step {i t:Nat}:Reach nx i->t∈nx i->Reach nx t
theorem Reach.nc {nx:Nat->List Nat} {n:Nat} {out:List Nat} (u:eN nx n out) {i:Nat} (h:Reach nx i):i∈out:=by
 induction h with
 | zero=>exact u.zero
 | step _ z ih=>
  obtain⟨q,hq⟩:=gO_ ih;obtain⟨q',_,h'⟩:=u.ze q _ hq _ z
  grind
def Gt (w:Nat->Nat) (nx:Nat->List Nat):Nat->Nat->Nat
 | 0,_=>0
 | k+1,i=>kV (Gt w nx k) (nx i) 0+w i
theorem tz {w:Nat->Nat} {nx:Nat->List Nat} {n:Nat} {out:List Nat} (u:eN nx n out):∀(q i:Nat),out[q]?=some i->∀k,q<k->Gt w nx k i=Gt w nx (q+1) i:=by
 intro q;induction q using Nat.strongRecOn with
 | _ q ih=>
  intro i hi k hk;obtain⟨k,rfl⟩:∃m,k=m+1:=⟨k-1,by omega⟩;show kV _ _ _+_=kV _ _ _+_;rw[pE (fun t=>Iff.rfl) (fun t z=>?_)];obtain⟨q',h1,h2⟩:=u.ze q i hi t z
  grind
def ue (w:Nat->Nat) (nx:Nat->List Nat) (f:Nat->Nat):Prop:=∀i,Reach nx i->f i=kV f (nx i) 0+w i
theorem EX {w:Nat->Nat} {nx:Nat->List Nat} {n:Nat} {out:List Nat} (u:eN nx n out):ue w nx (Gt w nx out.length):=by
 intro i hi;obtain⟨q,hq⟩:=gO_ (hi.nc u);have hl:=(gA.1 hq).1;rw[tz u q i hq _ hl,<-tz u q i hq (out.length+1) B];rfl
theorem L7 {w:Nat->Nat} {nx:Nat->List Nat} {n:Nat} {out:List Nat} {f g:Nat->Nat} (z:eN nx n out) (hf:ue w nx f) (C:ue w nx g):∀i,Reach nx i->f i=g i:=by
 have:∀(q i:Nat),out[q]?=some i->Reach nx i->f i=g i:=by
  intro q;induction q using Nat.strongRecOn with
  | _ q ih=>
   intro i hi u;rw[hf i u,C i u,pE (fun t=>Iff.rfl) (fun t A=>?_)];obtain⟨q',h1,E⟩:=z.ze q i hi t A;exact ih q' h1 t E (.step u A)
 intro i hi;obtain⟨q,hq⟩:=gO_ (hi.nc z);exact this q i hq hi
theorem JF {v w:Nat->Nat} {nx:Nat->List Nat} {n:Nat} {out:List Nat} {f g:Nat->Nat} (z:eN nx n out) (hw:∀i,v i<=w i) (hf:ue v nx f) (C:ue w nx g):∀i,Reach nx i->f i<=g i:=by
 have:∀(q i:Nat),out[q]?=some i->Reach nx i->f i<=g i:=by
  intro q;induction q using Nat.strongRecOn with
  | _ q ih=>
   intro i hi u;rw[hf i u,C i u];refine Nat.add_le_add (H3 fun t A=>?_)<|hw i;obtain⟨q',h1,E⟩:=z.ze q i hi t A;exact ih q' h1 t E (.step u A)
 intro i hi;obtain⟨q,hq⟩:=gO_ (hi.nc z);exact this q i hq hi
theorem HL {nx:Nat->List Nat} {h:Nat->Nat} (u:ue (fun _=>1) nx h):∀(v i:Nat),Reach nx i->h i=v->∃l:List Nat,l.length=v/\l.Nodup/\∀x∈l,Reach nx x/\1<=h x/\h x<=v:=by
 intro v;induction v with
 | zero=>simp_all
 | succ v ih=>
  intro i hi hv;rcases zU (f:=h) (l:=nx i) (m:=0) with hm | ⟨t,z,hm⟩
  ·have:=u i hi;rw[hm] at this;dsimp only at this;obtain rfl:v=0:=by omega
   exact⟨[i],Z,by simp,fun x hx=>by simp_all⟩
  have:=u i hi;rw[hm] at this;dsimp only at this;obtain⟨l,h1,A,h3⟩:=ih t (.step hi z) B;refine⟨i::l,by simp[h1],List.nodup_cons.2 ⟨fun hx=>?_,A⟩,fun x hx=>?_⟩
  ·grind
  grind
theorem N3 {nx:Nat->List Nat} {n:Nat} {out:List Nat} {h:Nat->Nat} (u:eN nx n out) (z:ue (fun _=>1) nx h):∀i,Reach nx i->h i<=n:=by
 intro i hi;obtain⟨l,h1,A,C⟩:=HL z _ i hi Z;rw[<-h1];exact Dd n l A fun x hx=>u.lt x ((C x hx).1.nc u)
def mA (b:List Nat) (t:Nat):Nat:=(b[t]?).getD 0
def fz (nx:Nat->List Nat) (w:Nat->Nat) (b:List Nat) (i:Nat):Nat:=kV (mA b) (nx i) 0+w i
def iM (nx:Nat->List Nat) (w:Nat->Nat) (r:Nat->Bool) (n:Nat):Nat->List Nat×Bool->Option (List Nat×Bool)
 | 0,s=>some s
 | i+1,s=>bif bd (r i) then iM nx w r n i s else bif Nat.blt n (fz nx w s.1 i) then none else bif Nat.beq (fz nx w s.1 i) (mA s.1 i) then iM nx w r n i s else iM nx w r n i (s.1.set i<|fz nx w s.1 i,false)
def iK (nx:Nat->List Nat) (w:Nat->Nat) (r:Nat->Bool) (n:Nat):Nat->List Nat->Nat×Bool
 | 0,_=>(0,false)
 | f+1,b=>match iM nx w r n n (b,true) with
  | none=>(0,false)
  | some (b',true)=>(mA b' 0,true)
  | some (b',false)=>iK nx w r n f b'
section
variable {nx:Nat->List Nat} {w:Nat->Nat} {r:Nat->Bool} {n:Nat}
theorem F6 {b:List Nat} {i v t:Nat} (hi:i<b.length):mA (b.set i v) t=if t=i then v else mA b t:=by
 unfold mA
 grind
theorem rH:∀{i:Nat} {s s':List Nat×Bool},iM nx w r n i s=some s'->s'.1.length=s.1.length
 | 0,s,s',h=>by cases h;rfl
 | i+1,s,s',h=>by
  unfold iM at h;cases h1:bd (r i) with
  | true=>rw[h1] at h;exact rH h
  | false=>
  cases u:Nat.blt n (fz nx w s.1 i) with
  | true=>rw[h1,u] at h;cases h
  | false=>
  cases z:Nat.beq (fz nx w s.1 i) (mA s.1 i) with
  | true=>rw[h1,u,z] at h;exact rH h
  | false=>rw[h1,u,z] at h;have:=rH (i:=i) h;rw[this];exact List.length_set
theorem pI:∀{i:Nat} {s:List Nat×Bool} {b':List Nat},iM nx w r n i s=some (b',true)->s.2=true/\b'=s.1/\∀j,j<i->r j=true->mA s.1 j=fz nx w s.1 j
 | 0,s,b',h=>by cases h;exact⟨Z,Z,fun j hj=>absurd hj (nZ_ _)⟩
 | i+1,s,b',h=>by
  unfold iM at h;cases h1:bd (r i) with
  | true=>
   rw[h1] at h;obtain⟨a,b,c⟩:=pI (i:=i) h;refine⟨a,b,fun j hj u=>?_⟩
   by_cases e:j=i
   ·subst e;rw[bN h1] at u;cases u
   exact c j B u
  | false=>
  cases z:Nat.blt n (fz nx w s.1 i) with
  | true=>rw[h1,z] at h;cases h
  | false=>
  cases A:Nat.beq (fz nx w s.1 i) (mA s.1 i) with
  | true=>
   rw[h1,z,A] at h;obtain⟨a,b,c⟩:=pI (i:=i) h;refine⟨a,b,fun j hj u=>?_⟩
   by_cases e:j=i
   ·subst e;exact(nB A).symm
   exact c j B u
  | false=>rw[h1,z,A] at h;exact absurd (pI (i:=i) h).1 Bool.false_ne_true
theorem sQ:∀{f:Nat} {b:List Nat},(iK nx w r n f b).2=true->∃b',b'.length=b.length/\(iK nx w r n f b).1=mA b' 0/\∀j,j<n->r j=true->mA b' j=fz nx w b' j
 | 0,b,h=>by cases h
 | f+1,b,h=>by
  unfold iK at h⊢;cases hp:iM nx w r n n (b,true) with
  | none=>rw[hp] at h;cases h
  | some s=>
   obtain⟨b',q⟩:=s;rw[hp] at h;cases q with
   | true=>
    obtain⟨_,e,h'⟩:=pI hp
    grind
   | false=>
    obtain⟨u,h1,z,A⟩:=sQ (f:=f) (b:=b') h;exact⟨u,by rw[h1,rH hp],z,A⟩
end
section
variable {nx dx:Nat->List Nat} {w:Nat->Nat} {r:Nat->Bool} {n:Nat} {out:List Nat} {F H_:Nat->Nat}
theorem MW (u:∀i t,t∈dx i↔t∈nx i) (z:ue w nx F) {b:List Nat} (hb:∀i,Reach nx i->mA b i<=F i) {i:Nat} (hi:Reach nx i):fz dx w b i<=F i:=by
 rw[z i hi];unfold fz;refine Nat.add_le_add_right (rE (Nat.zero_le _) fun t ht=>?_) _;have ht:=(u i t).1 ht;exact Nat.le_trans (hb t (.step hi ht))<|pB ht
theorem MV (hd:∀i t,t∈dx i↔t∈nx i) (u:ue w nx F) {b:List Nat} {i:Nat} (hi:Reach nx i) (hb:∀t∈nx i,mA b t=F t):fz dx w b i=F i:=by
 rw[u i hi]
 grind [fz,pE]
theorem tH (C:∀i t,t∈dx i↔t∈nx i) (E:∀i,i<n->(r i=true↔Reach nx i)) (G:ue w nx F) (u:∀i,Reach nx i->F i<=n) (Q:∀i t,Reach nx i->t∈nx i->H_ t<H_ i) {m:Nat}:
  ∀{i:Nat} {s:List Nat×Bool},i<=n->s.1.length=n->(∀j,Reach nx j->mA s.1 j<=F j)->(∀j,Reach nx j->H_ j<=m->mA s.1 j=F j)->(∀j,j<n->i<=j->Reach nx j->H_ j<=m+1->mA s.1 j=F j)->
   ∃s',iM dx w r n i s=some s'/\s'.1.length=n/\(∀j,Reach nx j->mA s'.1 j<=F j)/\(∀j,j<n->Reach nx j->H_ j<=m+1->mA s'.1 j=F j)/\((∀j,Reach nx j->H_ j<=m)->s'.2=s.2)
 | 0,s,_,hl,h1,L,W=>⟨s,Z,hl,h1,fun j hj=>W j hj (Nat.zero_le _),fun _=>Z⟩
 | i+1,s,hi,hl,h1,L,W=>by
  unfold iM;cases M:bd (r i) with
  | true=>
   refine tH C E G u Q (i:=i) B hl h1 L fun j hj K A R=>?_
   by_cases e:j=i
   ·subst e;rw[(E j hj).2 A] at M;cases M
   grind
  | false=>
  have z:Reach nx i:=(E i B).1 (by cases h:r i;rw[h] at M;cases M;rfl);have hv:fz dx w s.1 i<=F i:=MW C G h1 z;have hfi:=u i z;rw[show Nat.blt n (fz dx w s.1 i)=false from by rw[Bool.eq_false_iff];intro h;have:=Nat.le_of_ble_eq_true h;omega];have hex:H_ i<=m+1->fz dx w s.1 i=F i:=fun h=>MV C G z fun t X=>L t (.step z X) (by grind)
  cases hb:Nat.beq (fz dx w s.1 i) (mA s.1 i) with
  | true=>
   refine tH C E G u Q (i:=i) B hl h1 L fun j hj K A R=>?_
   grind [nB]
  | false=>
   have aa:∀j,mA (s.1.set i<|fz dx w s.1 i) j=if j=i then fz dx w s.1 i else mA s.1 j:=fun j=>F6 B
   obtain⟨s',k1,k2,k3,k4,k5⟩:=tH C E G u Q (m:=m) (i:=i) (s:=(s.1.set i<|fz dx w s.1 i,false)) B (by simp_all)
    (fun j hj=>by grind)
    (fun j hj hm=>by grind)
    (fun j hj K A hm=>by grind)
   grind [Nat.beq_refl]
theorem C5 (C:∀i t,t∈dx i↔t∈nx i) (E:∀i,i<n->(r i=true↔Reach nx i)) (u:∀i,Reach nx i->i<n) (G:ue w nx F) (z:∀i,Reach nx i->F i<=n) (K:∀i t,Reach nx i->t∈nx i->H_ t<H_ i) (A:∀i,Reach nx i->H_ i<=n):
  ∀{f m:Nat} {b:List Nat},n+1<f+m->1<=f->b.length=n->(∀j,Reach nx j->mA b j<=F j)->(∀j,Reach nx j->H_ j<=m->mA b j=F j)->(iK dx w r n f b).2=true
 | 0,_,_,_,h,_,_,_=>absurd h B
 | f+1,m,b,aa,_,hl,h1,L=>by
  obtain⟨⟨b',q⟩,M,k2,Q,R,k5⟩:=tH (w:=w) (F:=F) C E G z K (m:=m) (i:=n) (s:=(b,true)) (nR_ _) hl h1 L (fun j hj ab=>absurd hj B);unfold iK;rw[M];cases q with
  | true=>rfl
  | false=>
   by_cases hm:n<=m
   ·grind
   exact C5 C E u G z K A (f:=f) (m:=m+1) B B k2 Q fun j hj=>R j (u j hj) hj
end
theorem xO {nx dx:Nat->List Nat} {w:Nat->Nat} {r:Nat->Bool} {n:Nat} {out:List Nat} (z:eN nx n out) (G:∀i t,t∈dx i↔t∈nx i) (K:∀i,i<n->(r i=true↔Reach nx i)) (hw:∀i,w i<=1) {F:Nat->Nat} (C:ue w nx F):
  iK dx w r n (n+2) (List.replicate n 0)=(F 0,true):=by
 have hH:=EX (w:=fun _=>1) z;have u:∀i,Reach nx i->i<n:=fun i hi=>z.lt i (hi.nc z)
 have hHn:=N3 z hH;have hFH:=JF z hw C hH
 have E:∀i t,Reach nx i->t∈nx i->Gt (fun _=>1) nx out.length t<Gt (fun _=>1) nx out.length i:=fun i t hi L=>by
  rw[hH i hi];exact Nat.lt_succ_of_le<|pB L
 have h0:∀j,mA (List.replicate n 0) j=0:=fun j=>by
  grind [mA]
 have hs:=C5 (w:=w) G K u C (fun i hi=>Nat.le_trans (hFH i hi) (hHn i hi)) E hHn (f:=n+2) (m:=0) (b:=List.replicate n 0) B B (by simp) (fun j _=>by simp_all)
  (fun j hj hm=>by grind)
 obtain⟨b',h1,M,Q⟩:=sQ hs
 have A:ue w nx (mA b'):=fun i hi=>by
  rw[Q i (u i hi) ((K i<|u i hi).2 hi)];unfold fz;rw[pE (G i) fun t _=>Z]
 exact Prod.ext (by rw[M];exact L7 z A C 0 .zero) hs
structure FX (nx:Nat->List Nat) (s:DS):Prop where
 open_:∀i:Nat,s.st[i]?=some 1->i∈s.path
 Jr:∀(j a b:Nat),s.path[j]?=some a->s.path[j+1]?=some b->b∈nx a
 reach:∀i∈s.path,Reach nx i
theorem wP {nx:Nat->List Nat} {p:List Nat} {f:Nat->Nat} (he:∀(j a b:Nat),p[j]?=some a->p[j+1]?=some b->b∈nx a) (z:∀i∈p,Reach nx i) (hf:∀i t,Reach nx i->t∈nx i->f t<f i):
  ∀(d j a b:Nat),p[j]?=some a->p[j+d]?=some b->f b<=f a
 | 0,j,a,b,u,hb=>by simp_all
 | d+1,j,a,b,u,hb=>by
  have hl:=(gA.1 hb).1;obtain⟨x,hx⟩:∃x,p[j+1]?=some x:=⟨_,gC B⟩;have h1:=hf a x (z a<|gB_ u) (he j a x u hx);have h2:=wP he z hf d (j+1) x b hx (by grind);omega
theorem EM {nx:Nat->List Nat} {n:Nat} {s:DS} {f:Nat->Nat} (hw:Nj nx n s) (hp:FX nx s) (z:∀i,i<n->∀to∈nx i,to<n) (hf:∀i t,Reach nx i->t∈nx i->f t<f i) {a:Nat} (K:s.path.getLast?=some a):∃s',kK nx s a=some s'/\FX nx s':=by
 obtain⟨P,A⟩:=List.getLast?_eq_some_iff.1 K;have u:a∈s.path:=by rw[A];simp
 have hra:=hp.reach a u;obtain⟨C,aa⟩:=hw.path a u;have ac:s.path[P.length]?=some a:=by rw[A];simp
 unfold kK;dsimp only;cases E:(nx a)[(s.gone[a]?).getD 0]? with
 | none=>
  dsimp only;refine⟨_,Z,⟨fun i hi=>?_,fun j x y hx hy=>?_,fun i hi=>?_⟩⟩
  ·have hi:(s.st.set a 2)[i]?=some 1:=hi;rw[List.getElem?_set] at hi;split at hi
   ·simp_all
   rename_i e;have:=hp.open_ i hi
   grind
  ·have hx:s.path.dropLast[j]?=some x:=hx;have hy:s.path.dropLast[j+1]?=some y:=hy;rw[List.getElem?_dropLast] at hx hy;split at hx
   ·split at hy
    ·exact hp.Jr j x y hx hy
    cases hy
   cases hx
  have hi:i∈s.path.dropLast:=hi;exact hp.reach i ((List.dropLast_sublist _).subset hi)
 | some to=>
  dsimp only;have htm:=gB_ E;have ab:to<n:=z a C to htm
  by_cases G:(s.st[to]?).getD 0=2
  ·rw[if_pos G];exact⟨_,Z,⟨hp.open_,hp.Jr,hp.reach⟩⟩
  rw[if_neg G]
  have h1:¬(s.st[to]?).getD 0=1:=fun h1=>by
   have:s.st[to]?=some 1:=by
    grind
   obtain⟨j,hj⟩:=gO_ (hp.open_ to this);have hjl:=(gA.1 hj).1;rw[A] at hjl;simp only[lA_,List.length_singleton] at hjl;have:=wP hp.Jr hp.reach hf (P.length-j) j to a hj (by grind)
   grind
  rw[if_neg h1];refine⟨_,Z,⟨fun i hi=>?_,fun j x y hx hy=>?_,fun i hi=>?_⟩⟩
  ·have hi:(s.st.set to 1)[i]?=some 1:=hi;show i∈s.path++[to];rw[List.getElem?_set] at hi;split at hi
   ·simp_all
   exact List.mem_append_left _<|hp.open_ i hi
  ·have hx:(s.path++[to])[j]?=some x:=hx;have hy:(s.path++[to])[j+1]?=some y:=hy;have hyl:=(gA.1 hy).1;simp only[lA_,List.length_singleton] at hyl;rw[gL_ B] at hx
   by_cases e:j+1<s.path.length
   ·rw[gL_ e] at hy;exact hp.Jr j x y hx hy
   grind
  have hi:i∈s.path++[to]:=hi;rcases List.mem_append.1 hi with h | h
  ·exact hp.reach i h
  obtain rfl:=List.mem_singleton.1 h;exact .step hra htm
theorem Cv {nx:Nat->List Nat} {n:Nat} {f:Nat->Nat} (u:∀i,i<n->∀to∈nx i,to<n) (hf:∀i t,Reach nx i->t∈nx i->f t<f i):∀{fu:Nat} {s:DS},Nj nx n s->FX nx s->js nx n s<fu->(wZ nx fu s).isSome=true
 | 0,_,_,_,h=>absurd h (nZ_ _)
 | fu+1,s,hw,hp,hl=>by
  unfold wZ;cases z:s.path.getLast? with
  | none=>rfl
  | some a=>
   obtain⟨s',h1,A⟩:=EM hw hp u hf z;have hs:=ou hw u z h1;show((kK nx s a).bind<|wZ nx fu).isSome=true;rw[h1];exact Cv u hf hs.1 A B
theorem Jq {nx:Nat->List Nat} {n:Nat}:FX nx (yZ n) where
 open_ i hi:=by
  grind [yZ]
 Jr j a b ha hb:=by
  have hb: [0][j+1]?=some b:=hb;simp at hb
 reach i hi:=by
  obtain rfl:i=0:=by simpa [yZ] using hi
  exact .zero
theorem CK {k:Nat} {c:XC} (hc:eK k c) {r:Nat->Bool} (A:∀i,i<c.ins.length->(r i=true↔Reach (cV c) i)):
  (iK (dW c) (fun _=>1) r c.ins.length (c.ins.length+2)<|List.replicate c.ins.length 0).2=(eF c).isSome:=by
 have hnx:=rG hc;cases C:eF c with
 | some out=>
  have hR:=pk hnx (uq hc.pos) (show wZ _ _ _=some out from C);rw[xO hR (fun i t=>pG) A (fun _=>nR_ _)<|EX hR];rfl
 | none=>
  show _=false;rw[Bool.eq_false_iff];intro E;obtain⟨b',h1,h2,G⟩:=sQ E
  have u:∀i,Reach (cV c) i->i<c.ins.length:=fun i hi=>by
   induction hi with
   | zero=>exact hc.pos
   | step _ z ih=>exact hnx _ ih _ z
  have hf:∀i t,Reach (cV c) i->t∈cV c i->mA b' t<mA b' i:=fun i t hi z=>by
   rw[G i (u i hi) ((A i<|u i hi).2 hi)];exact Nat.lt_succ_of_le<|pB<|pG.2 z
  have:=Cv (fu:=2*total (cV c) c.ins.length+2) hnx hf (uq hc.pos) Jq (by rw[Gw];omega);rw[show wZ (cV c) (2*total (cV c) c.ins.length+2) (yZ c.ins.length)=none from C] at this;cases this
abbrev gB (b:Bool):V:=.bool b
def ux:List Bool->Nat
 | []=>0
 | b::l=>(if b then 0 else 1)+ux l
theorem CF:∀{l:List Bool} {i:Nat},l[i]?=some false->ux (l.set i true)+1=ux l
 | [],_,h=>by simp at h
 | b::l,0,h=>by
  simp only[List.getElem?_cons_zero,oJ_] at h;subst h;show(0+ux l)+1=1+ux l;omega
 | b::l,i+1,h=>by
  have:=CF (l:=l) (i:=i) (by simpa using h);show(if b then 0 else 1)+ux (l.set i true)+1=(if b then 0 else 1)+ux l;omega
theorem tq:∀(l:List Bool),ux l<=l.length
 | []=>nR_ _
 | b::l=>by
  have:=tq l;show(if b then 0 else 1)+ux l<=l.length+1;split<;>omega
structure Ee (nx:Nat->List Nat) (n:Nat) (o:List Bool) (st:List Nat):Prop where
 len:o.length=n
 reach:∀i:Nat,o[i]?=some true->Reach nx i
 zero:o[0]?=some true
 Iu:∀i∈st,i<n/\o[i]?=some true
 closed:∀i:Nat,o[i]?=some true->i∈st∨∀t∈nx i,o[t]?=some true
structure wC (nx:Nat->List Nat) (n:Nat) (o:List Bool) (st:List Nat) (a m:Nat) (dl:List Nat):Prop where
 len:o.length=n
 reach:∀i:Nat,o[i]?=some true->Reach nx i
 zero:o[0]?=some true
 Iu:∀i∈st,i<n/\o[i]?=some true
 at_:o[a]?=some true
 closed:∀i:Nat,o[i]?=some true->i∈st∨i=a∨∀t∈nx i,o[t]?=some true
 done:∀(q t:Nat),q<m->dl[q]?=some t->o[t]?=some true
section
variable {nx:Nat->List Nat} {n:Nat} {o:List Bool} {st:List Nat} {a m t:Nat} {dl:List Nat}
theorem PB (u:0<n):Ee nx n ((List.replicate n false).set 0 true) [0] where
 len:=by simp
 reach i hi:=by
  rw[List.getElem?_set] at hi;split at hi
  ·rename_i e;subst e;exact .zero
  grind
 zero:=by simp[u]
 Iu i hi:=by
  simp_all
 closed i hi:=by
  grind
theorem Ee.pop (h:Ee nx n o st) (ha:st.getLast?=some a):wC nx n o st.dropLast a 0 dl where
 len:=h.len
 reach:=h.reach
 zero:=h.zero
 Iu i hi:=h.Iu i ((List.dropLast_sublist _).subset hi)
 at_:=(h.Iu a (by grind)).2
 closed i hi:=by
  rcases h.closed i hi with h1 | h1
  ·grind [List.getLast?_eq_some_iff]
  simp_all
 done q t hq:=absurd hq (nZ_ _)
theorem wC.skip (h:wC nx n o st a m dl) (ht:dl[m]?=some t) (ho:o[t]?=some true):wC nx n o st a (m+1) dl where
 len:=h.len
 reach:=h.reach
 zero:=h.zero
 Iu:=h.Iu
 at_:=h.at_
 closed:=h.closed
 done q t' hq h':=by
  by_cases e:q=m
  ·simp_all
  exact h.done q t' B h'
theorem tO {i:Nat} (hi:o[i]?=some true):(o.set t true)[i]?=some true:=by
 grind
theorem wC.mark (h:wC nx n o st a m dl) (z:dl[m]?=some t) (A:t∈nx a) (u:t<n):wC nx n (o.set t true) (st++[t]) a (m+1) dl where
 len:=by rw[List.length_set];exact h.len
 reach i hi:=by
  rw[List.getElem?_set] at hi;split at hi
  ·rename_i e;subst e;exact .step (h.reach a h.at_) A
  exact h.reach i hi
 zero:=tO h.zero
 Iu i hi:=by
  rcases List.mem_append.1 hi with hi | hi
  ·exact⟨(h.Iu i hi).1,tO (h.Iu i hi).2⟩
  obtain rfl:=List.mem_singleton.1 hi;exact⟨u,by rw[List.getElem?_set,if_pos Z,if_pos (by rw[h.len];exact u)]⟩
 at_:=tO h.at_
 closed i hi:=by
  rw[List.getElem?_set] at hi;split at hi
  ·simp_all
  rcases h.closed i hi with h1 | h1 | h1
  ·simp_all
  ·exact .inr (.inl h1)
  grind
 done q t' hq h':=by
  by_cases e:q=m
  ·subst e;rw[z] at h';cases h';rw[List.getElem?_set,if_pos Z,if_pos (by rw[h.len];exact u)]
  exact tO<|h.done q t' B h'
theorem wC.close (h:wC nx n o st a m dl) (hm:dl.length<=m) (u:∀t∈nx a,t∈dl):Ee nx n o st where
 len:=h.len
 reach:=h.reach
 zero:=h.zero
 Iu:=h.Iu
 closed i hi:=by
  rcases h.closed i hi with h1 | h1 | h1
  ·exact .inl h1
  ·subst h1;refine .inr fun t z=>?_
   obtain⟨q,hq⟩:=gO_ (u t z);exact h.done q t (by grind) hq
  exact .inr h1
theorem Ee.final (h:Ee nx n o []) {i:Nat}:o[i]?=some true↔Reach nx i:=by
 refine⟨h.reach i,fun hi=>?_⟩;induction hi with
 | zero=>exact h.zero
 | @step i t _ u ih=>
  rcases h.closed i ih with h1 | h1
  ·simp at h1
  exact h1 t u
end
theorem uE {k:Nat} {c:XC} (hc:eK k c) {a g:Nat} {x:XI} {to:Int} (h:c.ins[a]?=some x) (u:(jQ x a)[g]?=some to):∃t:Nat,to= .ofNat t/\t<c.ins.length/\(dW c a)[g]?=some t/\t∈cV c a:=by
 obtain⟨q,hq⟩:=gO_ (zV.1<|gB_ u);obtain⟨t,rfl,h1,z⟩:=rF hc h hq;refine⟨t,Z,h1,?_,gB_ z⟩
 grind [dW]
theorem sR {c:XC} {a:Nat} {x:XI} (h:c.ins[a]?=some x):(dW c a).length=(jQ x a).length:=by unfold dW;rw[h];simp
end Go.Ev
namespace Go.Ev
variable [Env]
open Go.Proofs
set_option maxRecDepth 4000
set_option maxHeartbeats 8000000
theorem Je {G:Cx} (hG:Plain G) {K:H} {k:Nat} {c:XC} {cv:V} (hi:bJ K 6 (gp K k) c.ins cv) {x:XI} {a:Nat} (hx:c.ins[a]?=some x) (W:a<9223372036854775807) {U:I} {L:Own} (aq:J U K L):
  bm Tryz.prog G 252 [.agg [.int .i64 c.bc,cv],.int .i64 (.ofNat a)] U fun v U'=>∃M,cN 1 3 cz (jQ x a) v M/\J U' K (M++L):=by
 refine QX hG Tryz.func252 Z<|QA 2 Z<|kp aq Z (cA Z Z) (fun U b1 aq=>?_);refine Qa aq 8 [1,0] Z Z<|Rx (e:=79) (m:=6) hi hx Z Z Z Z (fun p9 ac X ae aa=>?_);have hr9':=aa;obtain⟨v9,rfl,ab⟩:=hr9';refine O Z (RJ aq X Z Z) Z<|kp aq Z (RH (cs:=[T,T,T,T,T,.au])) (fun U b2 aq=>?_);refine bF aq Z (RK Z Z Z aq.g0 (m:=6) Z (N Z<|N Z<|N Z<|N Z<|N Z<|N ab.leaf.2 aA) (cells':=[_,_,_,_,_,_]) Z) Z (fun U aq=>?_);refine P9 aq 9 [0,0] Z Z<|aO<|PV 3 Z<|ky Z (az Z Z Z) (fun u=>?_) (fun u=>?_)
 ·refine P3 13 Z<|aE<|av (?_);exact aB Z Z ⟨[],.inl ⟨by unfold jQ;simp only[u,ct,cf],Z,Z⟩,aq.pop.pop⟩
 refine QD 5 Z<|ky Z (az Z Z Z) (fun A=>?_) (fun A=>?_)
 ·refine QE 10 Z<|aE<|av (?_);exact aB Z Z ⟨[],.inl ⟨by unfold jQ;simp only[u,A,ct,cf],Z,Z⟩,aq.pop.pop⟩
 refine P1 6 Z<|ky Z (az Z Z Z) (fun C=>?_) (fun C=>?_)
 ·refine Qa aq 8 [4,0] Z Z<|gD aq Z (bW (e:=3) (m:=1) (z:=[T]) (cs:=[_]) Y Y Y Y<|bA Z Z Z Z bH) (fun _=>Z) (fun U F aq=>?_);refine QE 4 Z<|aE<|av (?_);exact aB Z Z ⟨[(F,_)],by unfold jQ;simp only[u,A,C,ct,cf];exact gV (xs:=[x.to]) (by simp),aq.sub (.cons_cons _ (.cons _ (.cons _ (.refl _))))⟩
 refine P1 6 Z<|ky Z (az Z Z Z) (fun E=>?_) (fun E=>?_)
 ·refine Pz aq 10 [4,0] Z Z<|O Z (az Z Z (show _=some (V.int .i64 (.ofNat (a+1))) from cI (bg W))) Z<|QC 3 Z<|aD Z (fun Q=>?_) (fun Q=>?_)
  ·refine QH aq 5 [4,0] Z Z<|O Z (az Z Z (show _=some (V.int .i64 (.ofNat (a+1))) from cI (bg W))) Z<|gD aq Z (bW (e:=3) (m:=1) (z:=[T]) (cs:=[_,_]) Y Y Y Y<|bA Z Z Z Z<|bA Z Z Z Z bH) (fun _=>Z) (fun U F aq=>?_);refine QE 4 Z<|av<|aE<|av (?_);exact aB Z Z ⟨[(F,_)],by unfold jQ;simp only[u,A,C,E,Q,ct,cf];exact gV (xs:=[x.to,.ofNat (a+1)]) (by simp),aq.sub (.cons_cons _ (.cons _ (.cons _ (.refl _))))⟩
  refine P8 aq 7 [4,0] Z Z<|O Z (az Z Z (show _=some (V.int .i64 (.ofNat (a+1))) from cI (bg W))) Z<|QC 3 Z<|aD Z (fun R=>?_) (fun R=>?_)
  ·refine QA 3 Z<|O Z (az Z Z (show _=some (V.int .i64 (.ofNat (a+1))) from cI (bg W))) Z<|Q7 aq 2 [4,0] Z Z<|gD aq Z (bW (e:=3) (m:=1) (z:=[T]) (cs:=[_,_]) Y Y Y Y<|bA Z Z Z Z<|bA Z Z Z Z bH) (fun _=>Z) (fun U F aq=>?_);refine QE 4 Z<|aE<|av (?_);exact aB Z Z ⟨[(F,_)],by unfold jQ;simp only[u,A,C,E,Q,R,ct,cf];exact gV (xs:=[.ofNat (a+1),x.to]) (by simp),aq.sub (.cons_cons _ (.cons _ (.cons _ (.refl _))))⟩
  refine aG<|aI<|QA 3 Z<|O Z (az Z Z (show _=some (V.int .i64 (.ofNat (a+1))) from cI (bg W))) Z<|gD aq Z (bW (e:=3) (m:=1) (z:=[T]) (cs:=[_]) Y Y Y Y<|bA Z Z Z Z bH) (fun _=>Z) (fun U F aq=>?_);refine QE 4 Z ?_;exact aB Z Z ⟨[(F,_)],by unfold jQ;simp only[u,A,C,E,Q,R,ct,cf];exact gV (xs:=[.ofNat (a+1)]) (by simp),aq.sub (.cons_cons _ (.cons _ (.cons _ (.refl _))))⟩
 refine P2 6 Z<|QA 3 Z<|O Z (az Z Z (show _=some (V.int .i64 (.ofNat (a+1))) from cI (bg W))) Z<|gD aq Z (bW (e:=3) (m:=1) (z:=[T]) (cs:=[_]) Y Y Y Y<|bA Z Z Z Z bH) (fun _=>Z) (fun U F aq=>?_);refine QE 4 Z ?_;exact aB Z Z ⟨[(F,_)],by unfold jQ;simp only[u,A,C,E,ct,cf];exact gV (xs:=[.ofNat (a+1)]) (by simp),aq.sub (.cons_cons _ (.cons _ (.cons _ (.refl _))))⟩
theorem vt {G:Cx} (u:Plain G) {K:H} {k:Nat} {c:XC} {cv:V} (hi:bJ K 6 (gp K k) c.ins cv) {x:XI} {a:Nat} (hx:c.ins[a]?=some x) (z:a<9223372036854775807) {U:I} {L:Own} (aq:J U K L):
  bm Tryz.prog G 214 [.agg [.int .i64 c.bc,cv],.int .i64 (.ofNat a)] U fun v U'=>∃M,cN 1 3 cz (jQ x a) v M/\J U' K (M++L):=by
 refine QX u Tryz.func214 Z<|QA 2 Z<|kp aq Z (cA Z Z) (fun U b1 aq=>?_);refine P1 5 Z<|O Z (RF Z aq.g0 (n:=2) (vs:=[_,_]) Z) Z<|vQ 1 Z<|cd Z (RC Z Z Z) (fun _=>Z) (Je u hi hx z aq) ?_;rintro v7 U ⟨A,hM7,aq⟩;refine QE 4 Z ?_;exact aB Z Z ⟨A,hM7,aq.sub<|dw (.cons _ (.refl _))⟩
theorem zC {G:Cx} (hG:Plain G) {K:H} {k:Nat} {c:XC} {cv:V} (W:eK k c) (bb:cS k c=0) (hF:lC k c) (hS:r4 k c) (hi:bJ K 6 (gp K k) c.ins cv) {U:I} {L:Own} (aq:J U K L):
  bm Tryz.prog G 213 [.agg [.int .i64 c.bc,cv]] U fun v U'=>∃(o:List Bool) (b:Nat),v= .slice b 0 c.ins.length (.known c.ins.length)/\o.length=c.ins.length/\(∀i:Nat,o[i]?=some true↔Reach (cV c) i)/\J U' K ((b,.row (o.map gB) 4 false)::L):=by
 have hlen:=W.len;have hpos:=W.pos;refine QX hG Tryz.func213 Z<|QA 2 Z<|kp aq Z (cA Z Z) (fun U b1 aq=>?_);refine Pw 6 Z<|O Z (RF Z aq.g0 (n:=2) (vs:=[_,_]) Z) Z<|bj Z (RC Z Z Z) (fun _=>Z) (wW hG hi hF hS aq) (fun U aq=>?_);refine QC 3 Z<|aD Z (fun ae=>?_) (fun ae=>?_)
 ·exact absurd ae (by rw[g8 hF,bb];decide)
 refine P8 aq 6 [1,0] Z Z<|O Z (RG hi Z Z Z (e:=79) Z) Z<|gD aq Z (gj (e:=4) (w:=1) (z:=[gB false]) Y Y Y Y Z Z B B) (fun _=>Z) (fun U b2 aq=>?_);rw[gM (f:=gB)] at aq;refine P1 6 Z (O Z (dD (e:=4) (m:=1) Y Y Z Z hpos) Z (cw aq .here Z (aJ Z Z Z aq.g0 (m:=1) Y Z (by rw[lM_];simp;omega) Z (cells':=((List.replicate c.ins.length false).set 0 true).map (gB))<|ef (f:=gB) (v:=true) (by simp;omega) (by first | omega | rfl)) Z (fun U aq=>?_)));refine P1 4 Z<|gD aq Z (bW (e:=3) (m:=1) (z:=[T]) (cs:=[_]) Y Y Y Y<|bA Z Z Z Z bH) (fun _=>Z) (fun U b3 aq=>?_);refine Pv 5 Z (bp (rg 4 4++rg 18 44) (fun j t U=>∃(o:List Bool) (st:List Nat) (u:V) (Mp:Own),Ee (cV c) c.ins.length o st/\2*ux o+st.length<=j/\2*ux o+st.length<=8002/\nk 1 3 cz (st.map .ofNat) u Mp/\t.get 4=some (u)/\J U K (Mp++((b2,.row (o.map gB) 4 false)::(b1,.row [.int .i64 c.bc,cv] 33 false)::L))) ((2*c.ins.length+1)) ⟨_,[0],_,[(b3,.row [gI 0] 3 false)],PB hpos,(by have:=tq ((List.replicate c.ins.length false).set 0 true);simp at this⊢;omega),(by have:=tq ((List.replicate c.ins.length false).set 0 true);simp at this⊢;omega),(gV (xs:=[0]) (by simp)).Pr,Z,aq⟩ ?_);clear aq;intro j6 t U ar hI;obtain⟨o,st,u,Mp,hinv,cc,ce,hP,X,aq⟩:=hI;obtain⟨oo,rfl⟩:=ar.q1 X Z;refine PV 3 Z ?_;have hol:=hinv.len;refine vQ 1 Z<|O Z (sZ hP Z Z Z (e:=3) Y Z) Z<|ky Z (az Z Z Z) (fun aa=>?_) (fun aa=>?_)
 ·refine QC 3 Z<|aG<|ad<|aO<|QA 4 Z<|O Z (sZ hP Z Z Z (e:=3) Y Z) Z<|vQ 1 Z ?_;have am:0<st.length:=by have:=bk (a:=0) aa;rwa[gi] at this
  obtain⟨a,ao⟩:∃a,st.getLast?=some a:=by cases hq:st.getLast? with | none=>(rw[List.getLast?_eq_none_iff.1 hq] at am;exact absurd am<|Nat.lt_irrefl _) | some a=>exact⟨a,rfl⟩
  have hla':=Gv ao;obtain⟨be,ch⟩:=hinv.Iu a (gB_ hla');obtain⟨xa,ab⟩:=cq be;have hfl:=tq o;have hpl:=hP.bG;rw[gi] at hpl;refine Rx (e:=3) (m:=1) (hP.iB (K:=K.gF Mp) fun y hy=>.inr hy) (Fk hla') Z Z Z (cI ((congrArg (fun q=>wr .i64 (Int.sub (.ofNat q) 1))<|gi st).trans<|lz (b:=1) B B)) (fun ci bv ap bw aK=>?_);obtain rfl:=aK;refine O Z (RI (aq.keeps) ap Z Z) Z<|P1 7 Z<|O Z (sZ hP Z Z Z (e:=3) Y Z) Z<|vQ 1 Z ?_;obtain⟨ck,hP2,bi⟩:=hP.Nu (k:=st.length-1) (by rw[gi];omega);rw[Ak] at hP2;refine O Z (bf Z<|bi Y Y Z (show _=some (V.int .i64 (.ofNat (st.length-1))) from cI ((congrArg (fun q=>wr .i64 (Int.sub (.ofNat q) 1))<|gi st).trans<|lz (b:=1) B B))) Z<|P1 5 Z<|O Z (RF Z aq.aR.pop.g0 (n:=2) (vs:=[_,_]) Z) Z<|vQ 1 Z<|cd Z (RC Z Z Z) (fun _=>Z) (Je hG hi ab B aq) ?_;rintro cl U ⟨a0,hM34,aq⟩;replace aq:=aq.keeps;have hS34:=hM34.iB (K:=K.gF a0) fun y hy=>.inr hy
  have a1:wC (cV c) c.ins.length o st.dropLast a 0 (dW c a):=hinv.pop ao;have cn:st.dropLast.length+1=st.length:=by rw[List.length_dropLast];omega
  refine PZ 9 Z (bp ([4,7]++rg 35 27) (fun j t U=>∃(i2:Nat) (E:List Bool) (A:List Nat) (u4:V) (Mq:Own),j+i2=(jQ xa a).length/\wC (cV c) c.ins.length E A a i2 (dW c a)/\2*ux E+A.length+1<=j6/\2*ux E+A.length+1<=8002/\nk 1 3 cz (A.map .ofNat) u4 Mq/\t.get 4=some (u4)/\t.get 7=some (.int .i64 (.ofNat i2))/\J U (K.gF a0) (Mq++((b2,.row (E.map gB) 4 false)::(b1,.row [.int .i64 c.bc,cv] 33 false)::L))) ((jQ xa a).length) ⟨0,o,st.dropLast,_,Mp,Z,a1,B,B,hP2,Z,Z,aq⟩ ?_);clear aq;intro a2 t U ar hI;obtain⟨i2,E,A,u4,Mq,bz,M,co,b0,hP3,X,bl,aq⟩:=hI;obtain⟨oo,rfl⟩:=ar.q2 X bl Z;refine PV 3 Z ?_;have hol2:=M.len;refine Q3 2 Z<|O Z (RG hS34 Z Z Z (e:=3) Z) Z<|QC 3 Z<|aD Z (fun F=>?_) (fun F=>?_)
  ·refine OS 9 Z ?_;obtain⟨cp,C,b5⟩:=cE F;refine Rx (e:=3) (m:=1) hS34 C Z Z Z Z (fun cx b6 a3 b7 a4=>?_);obtain rfl:=a4;obtain⟨to,rfl,Q,R,bo⟩:=uE W ab C;obtain⟨ob,ac⟩:=cq (show to<E.length from by omega);refine O Z (RI aq a3 Z Z) Z<|O Z (dD (e:=4) (m:=1) Y Y Z Z Q) Z<|O Z (ay Z aq.aR.g0 Y<|fR ac (by first | omega | rfl)) Z<|O Z (cT Z) Z<|QC 2 Z<|aD Z (fun h48=>?_) (fun h48=>?_)
   ·refine QA 5 Z<|Rx (e:=3) (m:=1) hS34 C Z Z Z Z (fun c0 b8 a5 b9 a6=>?_);obtain rfl:=a6;refine O Z (RI aq a5 Z Z) Z<|O Z (dD (e:=4) (m:=1) Y Y Z Z Q) Z ?_;have hf2:=CF (show E[to]?=some false from by have h48:=h48;cases ob;exact ac;cases h48);refine cw aq (.cH .here) Z (aJ Z Z Z aq.aR.g0 (m:=1) Y Z (by rw[lM_];rw[hol2];omega) Z (cells':=((E).set to true).map (gB))<|ef (f:=gB) (v:=true) (by rw[hol2];exact Q) (by first | omega | rfl)) Z (fun U aq=>?_);refine QD 6 Z<|Rx (e:=3) (m:=1) hS34 C Z Z Z Z (fun c1 ca a7 cb a8=>?_);obtain rfl:=a8;refine O Z (RI aq a7 Z Z) Z<|gD aq Z (bW (e:=3) (m:=1) (z:=[T]) (cs:=[_]) Y Y Y Y<|bA Z Z Z Z bH) (fun _=>Z) (fun U b4 aq=>?_);obtain⟨U,bs,bt,a9,hP4,aq⟩:=qK (P:=Tryz.prog) (ts:= #[34,34]) (t:=34) (e:=3) (l2:=[Int.ofNat to]) hP3 aq (fm (xs:=[Int.ofNat to]) (.inr ⟨Z,Z⟩) (by simp)) cz.leaf (by simp) (by simp) (by rw[gi];have:=tq E;omega) Z Y Y Y;rw[show A.map Int.ofNat++[Int.ofNat to]=(A++[to]).map Int.ofNat from by rw[List.map_append];rfl] at hP4;refine O Z (dB Z Z Z Z Y a9) Z<|Q2 2 Z<|aI<|Q0 5 Z<|aM ⟨a2-1,(by have:=bk F;omega),oF,i2+1,E.set to true,A++[to],bs,bt,B,M.mark R bo Q,(by rw[lA_];show _+(_+1)+1<=_;omega),(by rw[lA_];show _+(_+1)+1<=_;omega),hP4,Z,cI<|bg (by have:=hS34.bG;omega),aq⟩
   refine aG<|aI<|Q0 5 Z<|aM ⟨a2-1,(by have:=bk F;omega),oF,i2+1,E,A,u4,Mq,B,M.skip R (by have h48:=h48;cases ob;cases h48;exact ac),B,B,hP3,Z,cI<|bg (by have:=hS34.bG;omega),aq⟩
  refine PY 3 Z<|aU<|aI ?_;replace aq:=aq.weaken (H.bY _ _);refine aM ⟨j6-1,B,oF,E,A,u4,Mq,M.close (by rw[sR ab];exact br F) (fun t ht=>pG.2 ht),B,B,hP3,Z,aq⟩
 refine P4 5 Z<|ba<|aU<|Q1 7 Z ?_;exact aB Z Z ⟨o,b2,Z,hol,(fun i=>by have e:st= []:=eN_ (by have:=br (a:=0) aa;rw[gi] at this;omega);subst e;exact hinv.final),aq.aR.Jp⟩
end Go.Ev
namespace Go.Ev
variable [Env]
section
variable {nx:Nat->List Nat} {w:Nat->Nat} {r:Nat->Bool} {n i v j:Nat} {b b':List Nat} {sm:Bool}
theorem Aa (u:r i=false):iM nx w r n (i+1) (b,sm)=iM nx w r n i (b,sm):=by
 show(bif bd (r i) then _ else _)=_;rw[u];rfl
theorem rI (u:r i=true) (hv:fz nx w b i=v) (h:n<v):iM nx w r n (i+1) (b,sm)=none:=by
 show(bif bd (r i) then _ else bif Nat.blt n (fz nx w b i) then _ else _)=_;rw[u,hv,show Nat.blt n v=true from by simp_all];rfl
theorem wu (u:r i=true) (hv:fz nx w b i=v) (h:v<=n) (he:mA b i=v):iM nx w r n (i+1) (b,sm)=iM nx w r n i (b,sm):=by
 show(bif bd (r i) then _ else bif Nat.blt n (fz nx w b i) then _ else bif Nat.beq (fz nx w b i) (mA b i) then _ else _)=_;rw[u,hv,he,Nat.beq_refl,show Nat.blt n v=false from by rw[Bool.eq_false_iff];simp_all];rfl
theorem tI (u:r i=true) (hv:fz nx w b i=v) (h:v<=n) (he:mA b i≠v):iM nx w r n (i+1) (b,sm)=iM nx w r n i (b.set i v,false):=by
 show(bif bd (r i) then _ else bif Nat.blt n (fz nx w b i) then _ else bif Nat.beq (fz nx w b i) (mA b i) then _ else iM nx w r n i (b.set i<|fz nx w b i,false))=_;rw[u,hv,show Nat.blt n v=false from by rw[Bool.eq_false_iff];simp_all,show Nat.beq v (mA b i)=false from by rw[Bool.eq_false_iff];intro e;simp_all];rfl
theorem rD (hj:1<=j) (h:iM nx w r n n (b,true)=none):iK nx w r n j b=(0,false):=by
 obtain⟨j,rfl⟩:∃q,j=q+1:=⟨j-1,by omega⟩;unfold iK;rw[h]
theorem zT (hj:1<=j) (h:iM nx w r n n (b,true)=some (b',true)):iK nx w r n j b=(mA b' 0,true):=by
 obtain⟨j,rfl⟩:∃q,j=q+1:=⟨j-1,by omega⟩;unfold iK;rw[h]
theorem xP (hj:1<=j) (h:iM nx w r n n (b,true)=some (b',false)):iK nx w r n j b=iK nx w r n (j-1) b':=by
 obtain⟨j,rfl⟩:∃q,j=q+1:=⟨j-1,by omega⟩
 grind [iK]
theorem Gz {f:Nat->Nat} {l:List Nat} {q t m:Nat} (h:l[q]?=some t):kV f (l.drop q) m=kV f (l.drop (q+1)) (max m<|f t):=by rw[cO h];rfl
theorem C8 {f:Nat->Nat} {l:List Nat} {q m:Nat} (h:l.length<=q):kV f (l.drop q) m=m:=by rw[ff h];rfl
theorem kb {t y:Nat} (h:b[t]?=some y):mA b t=y:=by unfold mA;rw[h];rfl
theorem gG {t B_:Nat} (h:∀i,mA b i<=B_) (hv:v<=B_):mA (b.set i v) t<=B_:=by
 grind [F6,List.set_eq_of_length_le]
theorem F5 {t:Nat}:mA (List.replicate n 0) t=0:=by
 unfold mA
 grind
end
theorem jD {n:Nat} (h:n<=9223372036854775807):wr .i64 (Int.sub (.ofNat n) 1)=Int.sub (.ofNat n) 1:=BT (n:=(n:Int)-1) B B
theorem Mw {a b:Nat} (h:D (.ofNat a) (.ofNat b)=false):b≠a:=fun e=>by rw[e,ea] at h;cases h
theorem L1 {a b:Nat} (h:D (.ofNat a) (.ofNat b)=true):b=a:=(iJ_<|eqv h).symm
def wK (kind:Int):Nat:=bif (bif bd (bR kind 2) then bd (bR 7 kind) else false) then 1 else 0
def wA (c:XC) (i:Nat):Nat:=match c.ins[i]? with | some x=>wK x.kind | none=>0
theorem NB (n:Int):IntKind.u64.wrap n=n%18446744073709551616:=by simp[IntKind.wrap,IntKind.bits,IntKind.signed]
theorem AD (f:BitVec 64->BitVec 64->BitVec 64) (a b:Int):IntKind.i64.wrap ((f (BitVec.ofInt IntKind.i64.bits a)<|BitVec.ofInt IntKind.i64.bits b).toNat)=IX f a b:=by
 unfold IX
 have e:∀n:Int,BitVec.ofInt 64 (wr .u64 n)=BitVec.ofInt 64 n:=fun n=>by
  grind [Aw,NB,BitVec.eq_of_toInt_eq,BitVec.toInt_ofInt]
 rw[e,e,Aw];show IntKind.i64.wrap ((f (BitVec.ofInt 64 a)<|BitVec.ofInt 64 b).toNat:Int)=_
 grind [IntKind.wrap_i64,NB]
end Go.Ev
namespace Go.Ev
variable [Env]
open Go.Proofs
set_option maxRecDepth 4000
set_option maxHeartbeats 8000000
theorem EE {G:Cx} (hG:Plain G) {K:H} {k:Nat} {c:XC} {cv:V} (W:eK k c) (bv:cS k c=0) (hF:lC k c) (hS:r4 k c) (hi:bJ K 6 (gp K k) c.ins cv) {U:I} {L:Own} (aq:J U K L):
  bm Tryz.prog G 156 [.agg [.int .i64 c.bc,cv],.bool false] U fun v U'=>∃r:Nat->Bool,(∀i,i<c.ins.length->(r i=true↔Reach (cV c) i))/\v= .tuple [.int .i64 (.ofNat (iK (dW c) (fun _=>1) r c.ins.length (c.ins.length+2)<|List.replicate c.ins.length 0).1),.bool (iK (dW c) (fun _=>1) r c.ins.length (c.ins.length+2)<|List.replicate c.ins.length 0).2]/\J U' K L:=by
 have hlen:=W.len;have hpos:=W.pos;refine QX hG Tryz.func156 Z<|QA 2 Z<|kp aq Z (cA Z Z) (fun U b1 aq=>?_);refine P1 6 Z<|O Z (RF Z aq.g0 (n:=2) (vs:=[_,_]) Z) Z<|cd Z (RC Z Z Z) (fun _=>Z) (zC hG W bv hF hS hi aq) ?_;rintro _ U ⟨o,b2,rfl,ce,bw,aq⟩;obtain⟨r,a1⟩:∃r:Nat->Bool,r=fun i=>(o[i]?).getD false:=⟨_,Z⟩
 have hr:∀i,i<c.ins.length->(r i=true↔Reach (cV c) i):=fun i hi=>by
  obtain⟨q,hq⟩:=cq (show i<o.length from by omega);rw[<-bw i,a1];dsimp only;rw[hq];cases q<;>simp
 obtain⟨LD,F⟩:∃LD,LD=iK (dW c) (fun _=>1) r c.ins.length:=⟨_,Z⟩;obtain⟨PD,A⟩:∃PD,PD=iM (dW c) (fun _=>1) r c.ins.length:=⟨_,Z⟩;refine Qa aq 7 [1,1] Z Z<|O Z (RG hi Z Z Z (e:=79) Z) Z<|gD aq Z (gj (e:=3) (w:=8) (z:=[gI 0]) Y Y Y Y Z Z B B) (fun _=>Z) (fun U b3 aq=>?_);rw[gM (f:=gI)] at aq;refine Pv 10 Z (bp ([4,5]++rg 8 7++rg 21 76) (fun j t U=>∃(rd:Nat) (bl:List Nat),j+rd=c.ins.length+2/\LD (c.ins.length+2) (List.replicate c.ins.length 0)=LD j bl/\bl.length=c.ins.length/\(∀i,mA bl i<=c.ins.length)/\t.get 8=some (.int .i64 (.ofNat rd))/\J U K ((b3,.row (bl.map gI) 3 false)::(b2,.row (o.map gB) 4 false)::(b1,.row [.int .i64 c.bc,cv] 33 false)::L)) ((c.ins.length+2)) ⟨0,List.replicate c.ins.length 0,Z,Z,by simp,(fun i=>by rw[F5];omega),Z,aq⟩ ?_);clear aq;intro j4 t U ar hI;obtain⟨rd,bl,ch,X,a2,a3,bz,aq⟩:=hI;obtain⟨oo,rfl⟩:=ar.q1 bz Z;refine P7 aq 6 [1,2] Z Z<|O Z (RG hi Z Z Z (e:=79) Z) Z<|O Z (az Z Z (show _=some (V.int .i64 (.ofNat (c.ins.length+1))) from cI (bg B))) Z<|QC 3 Z<|aD Z (fun C=>?_) (fun C=>?_)
 ·refine OR 10 Z (QH aq 4 [1,2] Z Z (O Z (RG hi Z Z Z (e:=79) Z) Z (PZ 5 Z (bp ([4,5]++rg 9 6++rg 33 60) (fun j t U=>∃(z:Int) (b2l:List Nat) (sm:Bool),z+1=(j:Int)/\j<=c.ins.length/\PD c.ins.length (bl,true)=PD j (b2l,sm)/\b2l.length=c.ins.length/\(∀i,mA b2l i<=c.ins.length)/\t.get 9=some (.bool sm)/\t.get 10=some (.int .i64 z)/\J U K ((b3,.row (b2l.map gI) 3 false)::(b2,.row (o.map gB) 4 false)::(b1,.row [.int .i64 c.bc,cv] 33 false)::L)) (c.ins.length) ⟨Int.sub (.ofNat c.ins.length) 1,bl,true,(show(c.ins.length:Int)-1+1=((c.ins.length:Nat):Int) by omega),nR_ _,Z,a2,a3,Z,(cI<|jD B),aq⟩ ?_))));clear aq;intro j8 t U ar hI;obtain⟨z,b2l,sm,hz,ci,Q,u,E,b0,a4,aq⟩:=hI;obtain⟨oo,rfl⟩:=ar.q2 b0 a4 Z;refine PV 4 Z<|ky Z (az Z Z Z) (fun ao=>?_) (fun ao=>?_)
  ·refine QC 3 Z<|OR 5 Z<|QA 2 Z ?_;obtain⟨i,rfl⟩:=iD (bN ao);obtain rfl:j8=i+1:=by have:((i:Nat):Int)+1=(j8:Int):=hz;omega
   obtain⟨oi,a5⟩:=cq (show i<o.length from by omega);have aa:r i=oi:=by rw[a1];dsimp only;rw[a5];rfl
   refine Q3 2 Z<|O Z (dD (e:=4) (m:=1) Y Y Z Z B) Z<|O Z (ay Z aq.g1 Y<|fR a5 (by first | omega | rfl)) Z<|ky Z (cT Z) (fun h41=>?_) (fun h41=>?_)
   ·refine P4 5 Z<|aU<|Q0 5 Z ?_;refine aM ⟨i,B,oF,Int.sub (.ofNat i) 1,b2l,sm,(show(i:Int)-1+1=((i:Nat):Int) by omega),B,(by rw[Q,A];exact Aa (by rw[aa];have h41:=h41;cases oi;rfl;cases h41)),(by first | exact u | (rw[List.length_set];exact u)),(by first | exact E | exact fun q=>gG E (by have:=br M;omega)),Z,cI<|jD B,aq⟩
   refine Px 12 Z<|O Z (RF Z (aq.get 2 Z) (n:=2) (vs:=[_,_]) Z) Z<|vQ 1 Z ?_;obtain⟨xi,ab⟩:=cq (show i<c.ins.length from by omega);refine cd Z (RC Z Z Z) (fun _=>Z) (vt hG hi ab B aq) ?_;rintro ck U ⟨a6,hM44,aq⟩;replace aq:=aq.keeps;have hS44:=hM44.iB (K:=K.gF a6) fun y hy=>.inr hy
   refine Pv 10 Z (bp ([11,13]++rg 45 15) (fun j t U=>∃(q m:Nat),j+q=(jQ xi i).length/\kV (mA b2l) (dW c i) 0=kV (mA b2l) ((dW c i).drop q) m/\m<=c.ins.length/\t.get 11=some (.int .i64 (.ofNat m))/\t.get 13=some (.int .i64 (.ofNat q))/\J U (K.gF a6) ((b3,.row (b2l.map gI) 3 false)::(b2,.row (o.map gB) 4 false)::(b1,.row [.int .i64 c.bc,cv] 33 false)::L)) ((jQ xi i).length) ⟨0,0,Z,Z,Nat.zero_le _,Z,Z,aq⟩ ?_);clear aq;intro b4 t U ar hI;obtain⟨q,m,b6,ac,cl,a7,a8,aq⟩:=hI;obtain⟨oo,rfl⟩:=ar.q2 a7 a8 Z;refine PV 5 Z<|O Z (RG hS44 Z Z Z (e:=3) Z) Z<|QC 3 Z<|aD Z (fun R=>?_) (fun R=>?_)
   ·refine Pt 4 Z<|ai Z<|Q3 4 Z ?_;obtain⟨cn,ae,b7⟩:=cE R;refine Rx (e:=3) (m:=1) hS44 ae Z Z Z Z (fun co b8 a9 b9 bb=>?_);obtain rfl:=bb;obtain⟨to,rfl,b5,be,cp⟩:=uE W ab ae;obtain⟨y,hy⟩:=cq (show to<b2l.length from by omega);refine O Z (RI aq a9 Z Z) Z<|O Z (dD (e:=3) (m:=1) Y Y Z Z b5) Z<|O Z (ay Z aq.g0 Y<|fR hy (by first | omega | rfl)) Z<|O Z (Hh Z Z Z Z) Z<|Q2 2 Z<|aI<|Q0 5 Z<|aM ⟨b4-1,(by have:=bk R;omega),oF,q+1,max m y,(by have:=bk R;omega),(by rw[ac,Gz be,kb hy]),(by have:=E to;rw[kb hy] at this;omega),cI<|wq _ _,cI<|bg (by have:=hS44.bG;omega),aq⟩
   refine PY 3 Z<|aU<|QA 2 Z ?_;replace aq:=aq.weaken (H.bY _ _);have hmx:=ac.trans (C8 (by rw[sR ab];exact br R));obtain⟨yi,ap⟩:=cq (show i<b2l.length from by omega);refine Q7 aq 3 [1,2] Z Z<|Rx (e:=79) (m:=6) hi ab Z Z Z Z (fun cs ca bi cb bo=>?_);have hr63':=bo;obtain⟨cx,rfl,cc⟩:=hr63';refine bZ bi Z Z Z (k:=0) Y (lb Z) (fun _=>Z) (fun c0 bs=>?_);refine O Z (RI aq bs Z Z) Z<|Pw 7 Z<|O Z (cT Z) Z<|QD 13 Z<|O Z (az Z Z (show _=some (V.int .i64 (.ofNat (m+1))) from cI (bg B))) Z<|Pz aq 9 [1,2] Z Z<|O Z (RG hi Z Z Z (e:=79) Z) Z<|QC 3 Z<|aD Z (fun M=>?_) (fun M=>?_)
   ·refine Q1 7 Z<|av<|aE<|av<|bq<|aE<|av<|aE<|av<|bq<|aE<|av (?_);exact bU Z Z Z ⟨r,hr,by rw[<-F,X,F,rD (by have:=br (bN C);omega) (by rw[<-A,Q,A];exact rI (by rw[aa];have h41:=h41;cases oi;cases h41;rfl) (show fz (dW c) (fun _=>1) b2l i=(m+1) from by unfold fz;rw[hmx])<|bk M)];rfl,aq.pop.pop.pop⟩
   refine PX 7 Z<|O Z (dD (e:=3) (m:=1) Y Y Z Z B) Z<|O Z (ay Z aq.g0 Y<|fR ap (by first | omega | rfl)) Z<|QC 3 Z<|aD Z (fun aK=>?_) (fun aK=>?_)
   ·refine QA 5 Z (O Z (dD (e:=3) (m:=1) Y Y Z Z B) Z (cw aq .here Z (aJ Z Z Z aq.g0 (m:=1) Y Z (by rw[lM_];rw[u];omega) Z (cells':=((b2l).set i (m+1)).map (gI)) (ef (f:=gI) (v:=(m+1)) (by rw[u];omega) (by first | omega | rfl))) Z (fun U aq=>?_)));refine P2 6 Z<|Q0 5 Z ?_;refine aM ⟨i,B,oF,Int.sub (.ofNat i) 1,(b2l.set i (m+1)),false,(show(i:Int)-1+1=((i:Nat):Int) by omega),B,(by rw[Q,A];exact tI (by rw[aa];have h41:=h41;cases oi;cases h41;rfl) (show fz (dW c) (fun _=>1) b2l i=(m+1) from by unfold fz;rw[hmx]) (by have:=br M;omega) (by rw[kb ap];exact Mw<|bN aK)),(by first | exact u | (rw[List.length_set];exact u)),(by first | exact E | exact fun q=>gG E (by have:=br M;omega)),Z,cI<|jD B,aq⟩
   refine aG<|aI<|Q0 5 Z ?_;refine aM ⟨i,B,oF,Int.sub (.ofNat i) 1,b2l,sm,(show(i:Int)-1+1=((i:Nat):Int) by omega),B,(by rw[Q,A];exact wu (by rw[aa];have h41:=h41;cases oi;cases h41;rfl) (show fz (dW c) (fun _=>1) b2l i=(m+1) from by unfold fz;rw[hmx]) (by have:=br M;omega) ((kb ap).trans<|L1<|bn aK)),(by first | exact u | (rw[List.length_set];exact u)),(by first | exact E | exact fun q=>gG E (by have:=br M;omega)),Z,cI<|jD B,aq⟩
  refine P4 5 Z<|ba<|aU<|QA 2 Z ?_
  have am:PD c.ins.length (bl,true)=some (b2l,sm):=by
   have h0:z<0:=Ln.1 (bn ao);have h1:j8=0:=by omega
   rw[Q,h1,A];rfl
  refine QC 3 Z<|aD Z (fun a0=>?_) (fun a0=>?_)
  ·refine QA 3 Z ?_;obtain⟨y0,bt⟩:=cq (show 0<b2l.length from by omega);refine O Z (dD (e:=3) (m:=1) Y Y Z Z hpos) Z<|O Z (ay Z aq.g0 Y<|fR bt (by first | omega | rfl)) Z<|QE 5 Z<|aE<|av<|bq<|aE<|av (?_);exact bU Z Z Z ⟨r,hr,by rw[<-F,X,F,zT (b':=b2l) (by have:=br (bN C);omega) (by rw[<-A,am,show sm=true from a0]),kb bt],aq.pop.pop.pop⟩
  refine aG (aI (Q0 5 Z (aM ⟨j4-1,(by have:=br (bN C);omega),oF,rd+1,b2l,(by have:=br (bN C);omega),(by rw[X,F];exact xP (by have:=br (bN C);omega) (by rw[<-A,am,show sm=false from a0])),u,E,cI (bg (by have:=br (bN C);omega)),aq⟩)))
 refine PY 3 Z<|aU<|Q1 7 Z ?_;exact bU Z Z Z ⟨r,hr,by rw[<-F,X,F,show j4=0 from by have:=bk (bn C);omega];rfl,aq.pop.pop.pop⟩
theorem Nc {G:Cx} (hG:Plain G) {K:H}:∀(k:Nat) (x:XE) (vs:List V) (p:V),il K p vs->vs.length=4->eE K k x vs->∀(deep size:Int) (Q e1:Nat) (U:I) (L:Own),J U K ((Q,.row [.int .i64 size] e1 false)::L)->
  bm Tryz.prog G 164 [p,.int .i64 deep,.ptr Q 0] U fun v U'=>∃s',v= .bool (lT k x deep size).isSome/\J U' K ((Q,.row [.int .i64 s'] e1 false)::L)/\∀s,lT k x deep size=some s->s'=s:=by
 intro k;induction k with
 | zero=>intro x vs p _ _ h;cases x;exact h.elim
 | succ k ih=>
 intro x vs p hp hl h deep size Q e1 U L aq;obtain⟨op,num,name,kids⟩:=x;obtain⟨v,rfl,hk⟩:=h;obtain⟨F,hF⟩:∃F:XE->Int->Option Int,F=fun x m=>lT k x (wr .i64<|Int.add deep 1) m:=⟨_,Z⟩
 have hS:lT (k+1) (.mk op num name kids) deep size=bif (bif bR 2000 (wr .i64<|Int.add size 1) then true else bR 32 deep) then none else iG F kids (wr .i64<|Int.add size 1):=by rw[hF];rfl
 rw[hS];clear hS;refine QX hG Tryz.func164 Z<|QA 8 Z<|O Z (fh Z) Z<|Q7 aq 2 [0] Z Z<|O Z (fh Z) Z<|bF aq Z (RK Z Z Z aq.g0 (m:=1) Z Z (cells':=[_]) Z) Z (fun U aq=>?_);refine Pw 6 Z<|O Z (fh Z) Z<|Q7 aq 2 [0] Z Z<|ky Z (an Z) (fun u=>?_) (fun u=>?_)
 ·refine P3 13 Z ?_;exact aB Z Z ⟨_,by rw[u];rfl,aq,fun s z=>by rw[u] at z;cases z⟩
 refine QC 5 Z<|aD Z (fun A=>?_) (fun A=>?_)
 ·refine QB 7 Z ?_;exact aB Z Z ⟨_,by rw[u,A];rfl,aq,fun s z=>by rw[u,A] at z;cases z⟩
 refine Pu 6 Z<|O Z (dN hp Z) Z<|bZ hp Z Z Z (k:=3) Y (lb Z) (fun _=>Z) (fun aK R=>?_);refine O Z (RI aq R Z Z) Z (O Z (RG hk Z Z Z (e:=82) Z) Z (PZ 4 Z (bp ([6,7]++rg 26 15) (fun j t U=>∃(i:Nat) (m:Int),j+i=kids.length/\iG F kids (wr .i64<|Int.add size 1)=iG F (kids.drop i) m/\t.get 26=some (.int .i64 (.ofNat i))/\J U K ((Q,.row [.int .i64 m] e1 false)::L)) (kids.length) ⟨0,_,Z,Z,Z,aq⟩ ?_)));clear aq;intro j5 t U ar hI;obtain⟨i,m,hj,he,W,aq⟩:=hI;obtain⟨oo,rfl⟩:=ar.q1 W Z;refine Qz 6 Z<|aD Z (fun E=>?_) (fun E=>?_)
 ·refine OS 13 Z<|O Z (dN hp Z) Z<|bZ hp Z Z Z (k:=3) Y (lb Z) (fun _=>Z) (fun a0 X=>?_);refine O Z (RI aq X Z Z) Z<|vQ 1 Z ?_;obtain⟨aa,C,ao⟩:=cE E;refine Rx (e:=82) (m:=4) hk C Z Z Z Z (fun a1 ap ab ac ae=>?_);have hr34raw:=ae;refine Q3 3 Z<|cd Z (RC Z Z Z) (fun _=>Z) (ih aa _ _ ab ac hr34raw _ _ _ _ _ _ aq) ?_;rintro _ U ⟨m2,rfl,aq,am⟩;refine O Z (cT Z) Z<|QC 2 Z<|aD Z (fun M=>?_) (fun M=>?_)
  ·refine Q1 6 Z<|aE<|av<|bq<|aE<|av (?_);exact aB Z Z ⟨_,by rw[u,A];show _=V.bool (iG F kids _).isSome;rw[he,vN C (by rw[hF];exact bN M)];rfl,aq,fun s z=>by rw[u,A] at z;rw[show iG F kids _=none from by rw[he];exact vN C (by rw[hF];exact bN M)] at z;cases z⟩
  refine aG (aI (Q0 4 Z (aM ⟨j5-1,by omega,oF,i+1,m2,by omega,(by obtain⟨s,z⟩:=Option.isSome_iff_exists.1 (bn M);rw[he,Dy C (show F aa m=some s from by rw[hF];exact z),am s z]),cI<|bg (by have:=hk.bG;omega),aq⟩)))
 refine PY 3 Z<|aU<|Q1 6 Z ?_;exact aB Z Z ⟨_,by rw[u,A];show _=V.bool (iG F kids _).isSome;rw[he,yz<|br E];rfl,aq,fun s z=>by rw[u,A] at z;rw[show iG F kids _=some m from by rw[he];exact yz<|br E] at z;cases z;rfl⟩
theorem DT {G:Cx} (hG:Plain G) {K:H} (bc:Int):∀(k:Nat) (x:XE) (vs:List V) (p:V),il K p vs->vs.length=4->eE K k x vs->∀(U:I) (L:Own),J U K L->bm Tryz.prog G 218 [p,.int .i64 bc] U fun v U'=>v= .bool (eo bc k x)/\J U' K L:=by
 intro k;induction k with
 | zero=>intro x vs p _ _ h;cases x;exact h.elim
 | succ k ih=>
 intro x vs p hp hl h U L aq;obtain⟨op,num,name,kids⟩:=x;obtain⟨v,rfl,hk⟩:=h
 have hS:eo bc (k+1) (.mk op num name kids)=bif D op 1 then(bif bd (bR num 0) then(bif gY name [] then D (.ofNat kids.length) 0 else false) else false) else
  bif D op 2 then(bif (iT name).isSome then(bif bR (PA<|iT name) bc then(bif D num 0 then D (.ofNat kids.length) 0 else false) else false) else false) else
  bif (bif (bif D op 3 then true else D op 4) then false else(bif bR op 5 then true else bR 16 op)) then false else
  bif (bif bd (D num 0) then true else bif bd (gY name []) then true else bd (D (.ofNat kids.length)<|ga op)) then false else
  kids.all (eo bc k):=by show(bif D op 1 then _ else bif D op 2 then(match iT name with | some n=>_ | none=>false) else _)=_;cases iT name<;>rfl
 rw[hS];clear hS;have X:gY name (List.map UInt8.toNat (ByteArray.mk #[]).data.toList)=gY name []:=rfl;refine QX hG Tryz.func218 Z<|PU 12 Z<|QA 3 Z<|O Z (dN hp Z) Z<|bZ hp Z Z Z (k:=0) Y (lb Z) (fun _=>Z) (fun ca bv=>?_);refine O Z (RI aq bv Z Z) Z<|QC 4 Z<|aD Z (fun W=>?_) (fun W=>?_)
 ·refine QA 3 Z<|O Z (dN hp Z) Z<|bZ hp Z Z Z (k:=1) Y (lb Z) (fun _=>Z) (fun cb bw=>?_);refine O Z (RI aq bw Z Z) Z<|vQ 1 Z<|ky Z (an Z) (fun a8=>?_) (fun a8=>?_)
  ·refine vQ 1 Z<|O Z (dN hp Z) Z<|bZ hp Z Z Z (k:=2) Y (lb Z) (fun _=>Z) (fun cc bz=>?_);refine O Z (RI aq bz Z Z) Z<|Q3 2 Z<|ky Z (an Z) (fun bs=>?_) (fun bs=>?_)
   ·refine vQ 1 Z<|O Z (dN hp Z) Z<|bZ hp Z Z Z (k:=3) Y (lb Z) (fun _=>Z) (fun ce b0=>?_);refine O Z (RI aq b0 Z Z) Z<|O Z (RG hk Z Z Z (e:=82) Z) Z<|QE 6 Z<|aE<|av (?_);exact aB Z Z ⟨cB (by simp only[bd,ga];(try rw[<-X]);simp only[W,a8,bs,ct,cf]<;>rfl),aq⟩
   refine QE 11 Z<|aE<|av (?_);exact aB Z Z ⟨cB (by simp only[bd,ga];(try rw[<-X]);simp only[W,a8,bs,ct,cf]<;>rfl),aq⟩
  refine QE 18 Z<|aE<|av (?_);exact aB Z Z ⟨cB (by simp only[bd,ga];(try rw[<-X]);simp only[W,a8,ct,cf]<;>rfl),aq⟩
 refine QA 3 Z<|O Z (dN hp Z) Z<|bZ hp Z Z Z (k:=0) Y (lb Z) (fun _=>Z) (fun ch b1=>?_);refine O Z (RI aq b1 Z Z) Z<|QC 4 Z<|aD Z (fun C=>?_) (fun C=>?_)
 ·refine QA 3 Z<|O Z (dN hp Z) Z<|bZ hp Z Z Z (k:=2) Y (lb Z) (fun _=>Z) (fun ci b2=>?_);refine O Z (RI aq b2 Z Z) Z<|bj Z (RC Z Z Z) (fun _=>Z) (FP hG _ aq) (fun U aq=>?_);refine P1 10 Z<|ky Z (an Z) (fun a4=>?_) (fun a4=>?_)
  ·refine Q3 4 Z<|ky Z (an Z) (fun a9=>?_) (fun a9=>?_)
   ·refine vQ 1 Z<|O Z (dN hp Z) Z<|bZ hp Z Z Z (k:=1) Y (lb Z) (fun _=>Z) (fun ck b3=>?_);refine O Z (RI aq b3 Z Z) Z<|Q3 2 Z<|ky Z (an Z) (fun bt=>?_) (fun bt=>?_)
    ·refine vQ 1 Z<|O Z (dN hp Z) Z<|bZ hp Z Z Z (k:=3) Y (lb Z) (fun _=>Z) (fun cl b4=>?_);refine O Z (RI aq b4 Z Z) Z<|O Z (RG hk Z Z Z (e:=82) Z) Z<|QE 6 Z<|aE<|av (?_);exact aB Z Z ⟨cB (by simp only[bd,ga];(try rw[<-X]);simp only[W,C,a4,a9,bt,ct,cf]<;>rfl),aq⟩
    refine QE 11 Z<|aE<|av (?_);exact aB Z Z ⟨cB (by simp only[bd,ga];(try rw[<-X]);simp only[W,C,a4,a9,bt,ct,cf]<;>rfl),aq⟩
   refine QE 18 Z<|aE<|av (?_);exact aB Z Z ⟨cB (by simp only[bd,ga];(try rw[<-X]);simp only[W,C,a4,a9,ct,cf]<;>rfl),aq⟩
  refine QE 23 Z<|aE<|av (?_);exact aB Z Z ⟨cB (by simp only[bd,ga];(try rw[<-X]);simp only[W,C,a4,ct,cf]<;>rfl),aq⟩
 refine QA 3 Z<|O Z (dN hp Z) Z<|bZ hp Z Z Z (k:=0) Y (lb Z) (fun _=>Z) (fun cn b5=>?_);refine O Z (RI aq b5 Z Z) Z<|vQ 1 Z<|ky Z (an Z) (fun F=>?_) (fun F=>?_)
 ·refine P2 14 Z<|PV 4 Z<|O Z (dN hp Z) Z<|bZ hp Z Z Z (k:=1) Y (lb Z) (fun _=>Z) (fun b6 a0=>?_);refine O Z (RI aq a0 Z Z) Z<|vQ 1 Z<|ky Z (an Z) (fun u=>?_) (fun u=>?_)
  ·refine P3 25 Z ?_;exact aB Z Z ⟨cB (by simp only[bd,ga];(try rw[<-X]);simp only[W,C,F,u,ct,cf]<;>rfl),aq⟩
  refine vQ 1 Z<|O Z (dN hp Z) Z<|bZ hp Z Z Z (k:=2) Y (lb Z) (fun _=>Z) (fun bb aa=>?_);refine O Z (RI aq aa Z Z) Z<|Q3 2 Z<|ky Z (an Z) (fun z=>?_) (fun z=>?_)
  ·refine P3 18 Z ?_;exact aB Z Z ⟨cB (by simp only[bd,ga];(try rw[<-X]);simp only[W,C,F,u,z,ct,cf]<;>rfl),aq⟩
  refine vQ 1 Z<|O Z (dN hp Z) Z<|bZ hp Z Z Z (k:=3) Y (lb Z) (fun _=>Z) (fun be ab=>?_);refine O Z (RI aq ab Z Z) Z<|O Z (RG hk Z Z Z (e:=82) Z) Z<|QC 5 Z<|aD Z (fun E=>?_) (fun E=>?_)
  ·refine QB 7 Z ?_;exact aB Z Z ⟨cB (by simp only[bd,ga];(try rw[<-X]);simp only[W,C,F,u,z,E,ct,cf]<;>rfl),aq⟩
  refine Pu 6 Z<|O Z (dN hp Z) Z<|bZ hp Z Z Z (k:=3) Y (lb Z) (fun _=>Z) (fun bi ac=>?_);refine O Z (RI aq ac Z Z) Z<|O Z (RG hk Z Z Z (e:=82) Z) Z<|PZ 4 Z ?_;obtain⟨LL1,aq,hLL1⟩:=aq.named;refine bp ([4,8]++rg 122 13) (fun j t U=>∃(i:Nat),j+i=kids.length/\(kids.take i).all (eo bc k)=true/\t.get 122=some (.int .i64 (.ofNat i))/\J U K LL1) (kids.length) ⟨0,Z,Z,Z,aq⟩ ?_;clear aq;intro a5 t U ar hI;obtain⟨i,hj,ha,ae,aq⟩:=hI;subst hLL1;obtain⟨oo,rfl⟩:=ar.q1 ae Z;refine Qz 6 Z<|aD Z (fun M=>?_) (fun M=>?_)
  ·refine OS 13 Z<|O Z (dN hp Z) Z<|bZ hp Z Z Z (k:=3) Y (lb Z) (fun _=>Z) (fun bl am=>?_);refine O Z (RI aq am Z Z) Z<|vQ 1 Z ?_;obtain⟨a1,A,a6⟩:=cE M;refine Rx (e:=82) (m:=4) hk A Z Z Z Z (fun bo a7 ao ap aK=>?_);have hr130raw:=aK;refine vQ 1 Z<|bj Z (RC Z Z Z) (fun _=>Z) (ih a1 _ _ ao ap hr130raw _ _ aq) (fun U aq=>?_);refine O Z (cT Z) Z<|QC 2 Z<|aD Z (fun Q=>?_) (fun Q=>?_)
   ·refine Q1 6 Z<|aE<|av<|bq<|aE<|av (?_);exact aB Z Z ⟨cB (by rw[gQ A<|bN Q];simp only[bd,ga];(try rw[<-X]);simp only[W,C,F,u,z,E,ct,cf]<;>rfl),aq⟩
   refine aG<|aI<|Q0 4 Z<|aM ⟨a5-1,by omega,oF,i+1,by omega,fc ha A<|bn Q,cI<|bg (by have:=hk.bG;omega),aq⟩
  refine PY 3 Z<|aU<|Q1 6 Z ?_;exact aB Z Z ⟨cB (by rw[dT ha<|br M];simp only[bd,ga];(try rw[<-X]);simp only[W,C,F,u,z,E,ct,cf]<;>rfl),aq⟩
 refine vQ 1 Z<|O Z (dN hp Z) Z<|bZ hp Z Z Z (k:=0) Y (lb Z) (fun _=>Z) (fun co b7=>?_);refine O Z (RI aq b7 Z Z) Z<|QC 5 Z<|aD Z (fun R=>?_) (fun R=>?_)
 ·refine Q0 3 Z<|aI<|PV 4 Z<|O Z (dN hp Z) Z<|bZ hp Z Z Z (k:=1) Y (lb Z) (fun _=>Z) (fun b6 a0=>?_);refine O Z (RI aq a0 Z Z) Z<|vQ 1 Z<|ky Z (an Z) (fun u=>?_) (fun u=>?_)
  ·refine P3 25 Z ?_;exact aB Z Z ⟨cB (by simp only[bd,ga];(try rw[<-X]);simp only[W,C,F,R,u,ct,cf]<;>rfl),aq⟩
  refine vQ 1 Z<|O Z (dN hp Z) Z<|bZ hp Z Z Z (k:=2) Y (lb Z) (fun _=>Z) (fun bb aa=>?_);refine O Z (RI aq aa Z Z) Z<|Q3 2 Z<|ky Z (an Z) (fun z=>?_) (fun z=>?_)
  ·refine P3 18 Z ?_;exact aB Z Z ⟨cB (by simp only[bd,ga];(try rw[<-X]);simp only[W,C,F,R,u,z,ct,cf]<;>rfl),aq⟩
  refine vQ 1 Z<|O Z (dN hp Z) Z<|bZ hp Z Z Z (k:=3) Y (lb Z) (fun _=>Z) (fun be ab=>?_);refine O Z (RI aq ab Z Z) Z<|O Z (RG hk Z Z Z (e:=82) Z) Z<|QC 5 Z<|aD Z (fun E=>?_) (fun E=>?_)
  ·refine QB 7 Z ?_;exact aB Z Z ⟨cB (by simp only[bd,ga];(try rw[<-X]);simp only[W,C,F,R,u,z,E,ct,cf]<;>rfl),aq⟩
  refine Pu 6 Z<|O Z (dN hp Z) Z<|bZ hp Z Z Z (k:=3) Y (lb Z) (fun _=>Z) (fun bi ac=>?_);refine O Z (RI aq ac Z Z) Z<|O Z (RG hk Z Z Z (e:=82) Z) Z<|PZ 4 Z ?_;obtain⟨LL2,aq,hLL2⟩:=aq.named;refine bp ([4,8]++rg 122 13) (fun j t U=>∃(i:Nat),j+i=kids.length/\(kids.take i).all (eo bc k)=true/\t.get 122=some (.int .i64 (.ofNat i))/\J U K LL2) (kids.length) ⟨0,Z,Z,Z,aq⟩ ?_;clear aq;intro a5 t U ar hI;obtain⟨i,hj,ha,ae,aq⟩:=hI;subst hLL2;obtain⟨oo,rfl⟩:=ar.q1 ae Z;refine Qz 6 Z<|aD Z (fun M=>?_) (fun M=>?_)
  ·refine OS 13 Z<|O Z (dN hp Z) Z<|bZ hp Z Z Z (k:=3) Y (lb Z) (fun _=>Z) (fun bl am=>?_);refine O Z (RI aq am Z Z) Z<|vQ 1 Z ?_;obtain⟨a1,A,a6⟩:=cE M;refine Rx (e:=82) (m:=4) hk A Z Z Z Z (fun bo a7 ao ap aK=>?_);have hr130raw:=aK;refine vQ 1 Z<|bj Z (RC Z Z Z) (fun _=>Z) (ih a1 _ _ ao ap hr130raw _ _ aq) (fun U aq=>?_);refine O Z (cT Z) Z<|QC 2 Z<|aD Z (fun Q=>?_) (fun Q=>?_)
   ·refine Q1 6 Z<|aE<|av<|bq<|aE<|av (?_);exact aB Z Z ⟨cB (by rw[gQ A<|bN Q];simp only[bd,ga];(try rw[<-X]);simp only[W,C,F,R,u,z,E,ct,cf]<;>rfl),aq⟩
   refine aG<|aI<|Q0 4 Z<|aM ⟨a5-1,by omega,oF,i+1,by omega,fc ha A<|bn Q,cI<|bg (by have:=hk.bG;omega),aq⟩
  refine PY 3 Z<|aU<|Q1 6 Z ?_;exact aB Z Z ⟨cB (by rw[dT ha<|br M];simp only[bd,ga];(try rw[<-X]);simp only[W,C,F,R,u,z,E,ct,cf]<;>rfl),aq⟩
 refine QA 3 Z<|O Z (dN hp Z) Z<|bZ hp Z Z Z (k:=0) Y (lb Z) (fun _=>Z) (fun cp b8=>?_);refine O Z (RI aq b8 Z Z) Z<|vQ 1 Z<|ky Z (an Z) (fun a2=>?_) (fun a2=>?_)
 ·refine QE 16 Z<|aE<|av (?_);exact aB Z Z ⟨cB (by simp only[bd,ga];(try rw[<-X]);simp only[W,C,F,R,a2,ct,cf]<;>rfl),aq⟩
 refine vQ 1 Z<|O Z (dN hp Z) Z<|bZ hp Z Z Z (k:=0) Y (lb Z) (fun _=>Z) (fun cs b9=>?_);refine O Z (RI aq b9 Z Z) Z<|QC 5 Z<|aD Z (fun a3=>?_) (fun a3=>?_)
 ·refine Q1 6 Z<|aE<|av (?_);exact aB Z Z ⟨cB (by simp only[bd,ga];(try rw[<-X]);simp only[W,C,F,R,a2,a3,ct,cf]<;>rfl),aq⟩
 refine aG<|aI<|PV 4 Z<|O Z (dN hp Z) Z<|bZ hp Z Z Z (k:=1) Y (lb Z) (fun _=>Z) (fun b6 a0=>?_);refine O Z (RI aq a0 Z Z) Z<|vQ 1 Z<|ky Z (an Z) (fun u=>?_) (fun u=>?_)
 ·refine P3 25 Z ?_;exact aB Z Z ⟨cB (by simp only[bd,ga];(try rw[<-X]);simp only[W,C,F,R,a2,a3,u,ct,cf]<;>rfl),aq⟩
 refine vQ 1 Z<|O Z (dN hp Z) Z<|bZ hp Z Z Z (k:=2) Y (lb Z) (fun _=>Z) (fun bb aa=>?_);refine O Z (RI aq aa Z Z) Z<|Q3 2 Z<|ky Z (an Z) (fun z=>?_) (fun z=>?_)
 ·refine P3 18 Z ?_;exact aB Z Z ⟨cB (by simp only[bd,ga];(try rw[<-X]);simp only[W,C,F,R,a2,a3,u,z,ct,cf]<;>rfl),aq⟩
 refine vQ 1 Z<|O Z (dN hp Z) Z<|bZ hp Z Z Z (k:=3) Y (lb Z) (fun _=>Z) (fun be ab=>?_);refine O Z (RI aq ab Z Z) Z<|O Z (RG hk Z Z Z (e:=82) Z) Z<|QC 5 Z<|aD Z (fun E=>?_) (fun E=>?_)
 ·refine QB 7 Z ?_;exact aB Z Z ⟨cB (by simp only[bd,ga];(try rw[<-X]);simp only[W,C,F,R,a2,a3,u,z,E,ct,cf]<;>rfl),aq⟩
 refine Pu 6 Z<|O Z (dN hp Z) Z<|bZ hp Z Z Z (k:=3) Y (lb Z) (fun _=>Z) (fun bi ac=>?_);refine O Z (RI aq ac Z Z) Z<|O Z (RG hk Z Z Z (e:=82) Z) Z<|PZ 4 Z ?_;obtain⟨LL3,aq,hLL3⟩:=aq.named;refine bp ([4,8]++rg 122 13) (fun j t U=>∃(i:Nat),j+i=kids.length/\(kids.take i).all (eo bc k)=true/\t.get 122=some (.int .i64 (.ofNat i))/\J U K LL3) (kids.length) ⟨0,Z,Z,Z,aq⟩ ?_;clear aq;intro a5 t U ar hI;obtain⟨i,hj,ha,ae,aq⟩:=hI;subst hLL3;obtain⟨oo,rfl⟩:=ar.q1 ae Z;refine Qz 6 Z<|aD Z (fun M=>?_) (fun M=>?_)
 ·refine OS 13 Z<|O Z (dN hp Z) Z<|bZ hp Z Z Z (k:=3) Y (lb Z) (fun _=>Z) (fun bl am=>?_);refine O Z (RI aq am Z Z) Z<|vQ 1 Z ?_;obtain⟨a1,A,a6⟩:=cE M;refine Rx (e:=82) (m:=4) hk A Z Z Z Z (fun bo a7 ao ap aK=>?_);have hr130raw:=aK;refine vQ 1 Z<|bj Z (RC Z Z Z) (fun _=>Z) (ih a1 _ _ ao ap hr130raw _ _ aq) (fun U aq=>?_);refine O Z (cT Z) Z<|QC 2 Z<|aD Z (fun Q=>?_) (fun Q=>?_)
  ·refine Q1 6 Z<|aE<|av<|bq<|aE<|av (?_);exact aB Z Z ⟨cB (by rw[gQ A<|bN Q];simp only[bd,ga];(try rw[<-X]);simp only[W,C,F,R,a2,a3,u,z,E,ct,cf]<;>rfl),aq⟩
  refine aG<|aI<|Q0 4 Z<|aM ⟨a5-1,by omega,oF,i+1,by omega,fc ha A<|bn Q,cI<|bg (by have:=hk.bG;omega),aq⟩
 refine PY 3 Z<|aU<|Q1 6 Z ?_;exact aB Z Z ⟨cB (by rw[dT ha<|br M];simp only[bd,ga];(try rw[<-X]);simp only[W,C,F,R,a2,a3,u,z,E,ct,cf]<;>rfl),aq⟩
def Fy (h:lf):List V:=[.bool h.qd,.bool h.loc,.bool h.order,.bool h.to,.int .i64 (.ofNat h.exprs)]
def BA:List V:=jC.flatMap Fy
structure mK (G:Cx) (K:H):Prop where
 gl:Nat.ble 1 G.gl=true
 sh:∃e ro,K (posOf 0) (.row BA e ro)
theorem mK.mono {G:Cx} {K K':H} (h:mK G K) (hk:H.le K K'):mK G K':=⟨h.gl,let ⟨e,ro,u⟩:=h.sh;⟨e,ro,hk _ _ u⟩⟩
theorem nq {b c:Bool} (h:(!b)=c):(bif b then false else true)=c:=by cases b<;>exact h
theorem PE {n:Nat} {h:lf} (u:jC[n]?=some h):List.take 5 (List.drop (0+n*5) BA)=Fy h:=by
 have z:n<14:=(gA.1 u).1
 match n,z with
 | 0,_ | 1,_ | 2,_ | 3,_ | 4,_ | 5,_ | 6,_ | 7,_ | 8,_ | 9,_ | 10,_ | 11,_ | 12,_ | 13,_=>cases u;rfl
theorem PF {x:Int} (h1:bR x 1=false) (u:bR 13 x=false):∃(n:Nat) (h:lf),x= .ofNat n/\n<14/\jC[n]?=some h:=by
 rw[fo,decide_eq_false_iff_not] at h1 u;refine⟨x.toNat,jC[x.toNat]'(by show x.toNat<14;omega),by show x=((x.toNat:Nat):Int);omega,by omega,gC _⟩
theorem Ij {bc nins:Int} {k n:Nat} {x:XI} {h:lf} (h1:bR x.kind 1=false) (u:bR 13 x.kind=false) (z:x.kind= .ofNat n) (A:jC[n]?=some h):fT bc nins k x=gO bc nins k x h:=by
 unfold fT;rw[h1,u,z];show(match jC[n]? with | some h=>_ | none=>false)=_;rw[A]
theorem L9 {G:Cx} {t:PT V} {g:Nat} (h:Nat.ble (Nat.succ g) G.gl=true):bI G t (.global g)=some (.ptr (posOf g) 0):=by
 show(bif Nat.ble (Nat.succ g) G.gl then _ else _)=_;rw[h];rfl
theorem Nb {G:Cx} (X:Plain G) {K:H} (aa:mK G K) {k:Nat} {c:XC} {x:XI} {v:V} {vs:List V} {p:V} (hi:bJ K 6 (gp K k) c.ins v) (hp:il K p vs) (h:gp K k x vs) {U:I} {L:Own} (aq:J U K L):
  bm Tryz.prog G 165 [.agg [.int .i64 c.bc,v],p] U fun v U'=>v= .bool (fT c.bc (.ofNat c.ins.length) k x)/\J U' K L:=by
 obtain⟨w,rfl,hk⟩:=h;refine QX X Tryz.func165 Z<|QA 2 Z<|kp aq Z (cA Z Z) (fun U b1 aq=>?_);refine Pw 7 Z<|O Z (dN hp Z) Z<|bZ hp Z Z Z (k:=0) Y (lb Z) (fun _=>Z) (fun p9 a9=>?_);refine O Z (RI aq a9 Z Z) Z<|vQ 1 Z<|ky Z (an Z) (fun C=>?_) (fun C=>?_)
 ·refine P3 16 Z ?_;exact aB Z Z ⟨cB (by unfold fT;rw[C];rfl),aq.pop⟩
 refine vQ 1 Z<|O Z (dN hp Z) Z<|bZ hp Z Z Z (k:=0) Y (lb Z) (fun _=>Z) (fun bl ab=>?_);refine O Z (RI aq ab Z Z) Z<|QC 4 Z<|aD Z (fun Q=>?_) (fun Q=>?_)
 ·refine QB 7 Z ?_;exact aB Z Z ⟨cB (by unfold fT;rw[C,show bR 13 x.kind=true from Q];rfl),aq.pop⟩
 have h17x:bR 13 x.kind=false:=Q;refine PX 5 Z<|O Z (dN hp Z) Z<|bZ hp Z Z Z (k:=0) Y (lb Z) (fun _=>Z) (fun bo ac=>?_);refine O Z (RI aq ac Z Z) Z ?_;obtain⟨kn,sh,ae,bb,am⟩:=PF C h17x;obtain⟨eg,rog,ao⟩:=aa.sh;have hRX:=Ij (bc:=c.bc) (nins:=.ofNat c.ins.length) (k:=k) C h17x ae am;refine O Z (ud (n:=14) (e:=264) (m:=5) Y Y (L9 aa.gl) (show _=some (V.int .i64 (.ofNat kn)) from cI ae) bb) Z<|O Z (aP Z (aq.fx ao) (n:=5) (vs:=Fy sh) Y (by show 0+kn*5+5<=70;omega)<|PE am) Z (kp aq Z (RH (cs:=[.bool false,.bool false,.bool false,.bool false,T])) (fun U b2 aq=>?_));refine bF aq Z (RK Z Z Z aq.g0 (m:=5) Z Z (cells':=[_,_,_,_,_]) Z) Z (fun U aq=>?_);refine P0 3 Z<|ak<|aS (l:=zp [0,1,2,3,4,5,6,7,8,9,10,11,12,13,14,15,16,17,18,19,20,21,22,23,24,25,26,27,28,29,30,31,32,33,34,35,36,37,38,39,40,41,42]) Y Y<|wQ 1 Z<|al Z Z (dN hp Z) Z<|ku hp Z Z Z Z (k:=1) Y (lb Z) (fun _=>Z) (fun bs ap=>?_);refine al Z Z (RI aq ap Z Z) Z<|Q8 aq 4 [0,1,0,0] Z Z<|cy Z Z (RC Z Z Z) (fun _=>Z) (ua X _ _ _ _ aq) (fun U aq=>?_);refine⟨aT,?_⟩;refine al Z Z (cT Z) Z<|dC Z Z (an Z) (fun _=>Z) (fun u=>?_) (fun u=>?_)
 ·refine P6 42 Z ?_;exact aB Z Z ⟨cB (by rw[hRX];unfold gO;simp only[bd];simp only[nq u,ct,cf]<;>rfl),aq.pop.pop⟩
 refine wQ 1 Z<|al Z Z (dN hp Z) Z<|ku hp Z Z Z Z (k:=2) Y (lb Z) (fun _=>Z) (fun bt aK=>?_);refine al Z Z (RI aq aK Z Z) Z<|Q8 aq 2 [1,0] Z Z<|cy Z Z (RC Z Z Z) (fun _=>Z) (ua X _ _ _ _ aq) (fun U aq=>?_);refine⟨aT,?_⟩;refine al Z Z (cT Z) Z<|wQ 1 Z<|dC Z Z (an Z) (fun _=>Z) (fun z=>?_) (fun z=>?_)
 ·refine P6 32 Z ?_;exact aB Z Z ⟨cB (by rw[hRX];unfold gO;simp only[bd];simp only[nq u,nq z,ct,cf]<;>rfl),aq.pop.pop⟩
 refine wQ 1 Z<|al Z Z (dN hp Z) Z<|ku hp Z Z Z Z (k:=3) Y (lb Z) (fun _=>Z) (fun bv a0=>?_);refine al Z Z (RI aq a0 Z Z) Z<|Q8 aq 2 [2,0] Z Z<|cy Z Z (RC Z Z Z) (fun _=>Z) (ua X _ _ _ _ aq) (fun U aq=>?_);refine⟨aT,?_⟩;refine al Z Z (cT Z) Z<|wQ 1 Z<|dC Z Z (an Z) (fun _=>Z) (fun A=>?_) (fun A=>?_)
 ·refine P6 22 Z ?_;exact aB Z Z ⟨cB (by rw[hRX];unfold gO;simp only[bd];simp only[nq u,nq z,nq A,ct,cf]<;>rfl),aq.pop.pop⟩
 refine wQ 1 Z<|al Z Z (dN hp Z) Z<|ku hp Z Z Z Z (k:=4) Y (lb Z) (fun _=>Z) (fun bw a1=>?_);refine al Z Z (RI aq a1 Z Z) Z<|Q8 aq 2 [1,1] Z Z<|al Z Z (RG hi Z Z Z (e:=79) Z) Z<|Q8 aq 2 [3,0] Z Z<|cy Z Z (RC Z Z Z) (fun _=>Z) (ua X _ _ _ _ aq) (fun U aq=>?_);refine⟨aT,?_⟩;refine al Z Z (cT Z) Z<|QF 3 Z<|aD Z (fun E=>?_) (fun E=>?_)
 ·refine QB 7 Z ?_;exact aB Z Z ⟨cB (by rw[hRX];unfold gO;simp only[bd];simp only[nq u,nq z,nq A,nq E,ct,cf]<;>rfl),aq.pop.pop⟩
 refine PW 3 Z<|ak<|aS (l:=zp [0,1,2,3,4,5,6,7]) Y Y<|wQ 1 Z<|al Z Z (dN hp Z) Z<|ku hp Z Z Z Z (k:=5) Y (lb Z) (fun _=>Z) (fun bz a2=>?_);refine al Z Z (RI aq a2 Z Z) Z<|al Z Z (RG hk Z Z Z (e:=82) Z) Z<|Q8 aq 3 [4,0] Z Z<|QF 2 Z<|aD Z (fun M=>?_) (fun M=>?_)
 ·refine QB 7 Z ?_;exact aB Z Z ⟨cB (by rw[hRX];unfold gO;simp only[bd];simp only[nq u,nq z,nq A,nq E,M,ct,cf]<;>rfl),aq.pop.pop⟩
 refine Pu 6 Z<|O Z (dN hp Z) Z<|bZ hp Z Z Z (k:=5) Y (lb Z) (fun _=>Z) (fun b0 a3=>?_);refine O Z (RI aq a3 Z Z) Z<|O Z (RG hk Z Z Z (e:=82) Z) Z<|PZ 4 Z ?_;obtain⟨LL1,aq,hLL1⟩:=aq.named;refine bp ([4,6]++rg 81 14) (fun j t U=>∃(i:Nat),j+i=x.exprs.length/\(x.exprs.take i).all (eo c.bc k)=true/\t.get 81=some (.int .i64 (.ofNat i))/\J U K LL1) (x.exprs.length) ⟨0,Z,Z,Z,aq⟩ ?_;clear aq;intro j9 t U ar hI;obtain⟨i,hj,ha,a4,aq⟩:=hI;subst hLL1;obtain⟨oo,rfl⟩:=ar.q1 a4 Z;refine Qz 6 Z<|aD Z (fun R=>?_) (fun R=>?_)
 ·refine OR 11 Z<|aS (l:=zp [0,1,2,3,4,5,6,7,8,9]) Y Y<|wQ 1 Z<|al Z Z (dN hp Z) Z<|ku hp Z Z Z Z (k:=5) Y (lb Z) (fun _=>Z) (fun b3 a5=>?_);refine al Z Z (RI aq a5 Z Z) Z<|wQ 1 Z ?_;obtain⟨b4,F,be⟩:=cE R;refine Ry (e:=82) (m:=4) hk F Z Z Z Z Z (fun b5 bi a6 a7 a8=>?_);have hr89rawx:=a8;refine Q8 aq 2 [0,1] Z Z<|cy Z Z (RC Z Z Z) (fun _=>Z) (DT X _ _ _ _ _ a6 a7 hr89rawx _ _ aq) (fun U aq=>?_);refine⟨aT,?_⟩;refine al Z Z (cT Z) Z<|QF 2 Z<|aD Z (fun W=>?_) (fun W=>?_)
  ·refine Q1 6 Z<|aE<|av<|bq<|aE<|av (?_);exact aB Z Z ⟨cB (by rw[hRX];unfold gO;rw[gQ F<|ju W];simp only[bd];simp only[nq u,nq z,nq A,nq E,M,ct,cf]<;>rfl),aq.pop.pop⟩
  refine aG<|aI<|Q0 4 Z<|aM ⟨j9-1,by omega,oF,i+1,by omega,fc ha F<|eU W,cI<|bg (by have:=hk.bG;omega),aq⟩
 refine PY 3 Z<|aU<|Q1 6 Z ?_;exact aB Z Z ⟨cB (by rw[hRX];unfold gO;rw[dT ha<|br R];simp only[bd];simp only[nq u,nq z,nq A,nq E,M,ct,cf]<;>rfl),aq.pop.pop⟩
theorem uX {G:Cx} (hG:Plain G) {K:H} (b3:mK G K) {k:Nat} {c:XC} {v:V} (hi:bJ K 6 (gp K k) c.ins v) {U:I} {L:Own} (aq:J U K L):
  bm Tryz.prog G 112 [.agg [.int .i64 c.bc,v]] U fun v U'=>v= .int .i64 (cS k c)/\J U' K L:=by
 refine QX hG Tryz.func112 Z<|QA 2 Z<|kp aq Z (cA Z Z) (fun U b1 aq=>?_);refine Pz aq 9 [0,0] Z Z<|ky Z (an Z) (fun u=>?_) (fun u=>?_)
 ·refine P3 15 Z ?_;exact aB Z Z ⟨cJ (by symm;unfold cS;rw[u];rfl),aq.pop⟩
 refine Q7 aq 2 [1,0] Z Z<|O Z (RG hi Z Z Z (e:=79) Z) Z<|QC 4 Z<|aD Z (fun a0=>?_) (fun a0=>?_)
 ·refine QB 7 Z ?_;exact aB Z Z ⟨cJ (by symm;unfold cS;rw[u,show bR 4000 (.ofNat c.ins.length)=true from a0];rfl),aq.pop⟩
 have h15x:bR 4000 (.ofNat c.ins.length)=false:=a0;refine Py aq 7 [1,0] Z Z<|O Z (RG hi Z Z Z (e:=79) Z) Z<|PZ 4 Z ?_;obtain⟨LL1,aq,hLL1⟩:=aq.named;refine bp (rg 2 4++rg 19 25) (fun j t U=>∃(i:Nat),j+i=c.ins.length/\(c.ins.take i).all (uQ k)=true/\t.get 19=some (.int .i64 (.ofNat i))/\J U K LL1) (c.ins.length) ⟨0,Z,Z,Z,aq⟩ ?_;clear aq;intro j4 t U ar hI;obtain⟨i,cv,A,a6,aq⟩:=hI;subst hLL1;obtain⟨oo,rfl⟩:=ar.q1 a6 Z;refine Qz 6 Z<|aD Z (fun z=>?_) (fun z=>?_)
 ·refine OU aq 15 [1,0] Z Z ?_;obtain⟨R,M,b5⟩:=cE z;refine Rx (e:=79) (m:=6) hi M Z Z Z Z (fun cx b6 a7 b7 ae=>?_);have hr25rawx:=ae;have hr25':=ae;obtain⟨c0,rfl,am⟩:=hr25';refine bZ a7 Z Z Z (k:=5) Y (lb Z) (fun _=>Z) (fun c1 a8=>?_);refine O Z (RI aq a8 Z Z) Z<|O Z (RG am Z Z Z (e:=82) Z) Z<|PZ 4 Z ?_;obtain⟨LL2,aq,hLL2⟩:=aq.named;refine bp ([2,4,5]++rg 29 14) (fun j t U=>∃(i2:Nat),j+i2=R.exprs.length/\(R.exprs.take i2).all (fun e=>(lT k e 1 0).isSome)=true/\t.get 29=some (.int .i64 (.ofNat i2))/\J U K LL2) (R.exprs.length) ⟨0,Z,Z,Z,aq⟩ ?_;clear aq;intro j7 t U ar hI;obtain⟨i2,c2,a9,bb,aq⟩:=hI;subst hLL2;obtain⟨oo,rfl⟩:=ar.q1 bb Z;refine Qz 6 Z<|aD Z (fun a1=>?_) (fun a1=>?_)
  ·refine OS 12 Z<|kp aq Z (RH (cs:=[T])) (fun U b2 aq=>?_);refine bF aq Z (RK Z Z Z aq.g0 (m:=1) Z Z (cells':=[_]) Z) Z (fun U aq=>?_);refine Qa aq 7 [1,1] Z Z<|Rx (e:=79) (m:=6) hi M Z Z Z Z (fun c3 b8 be b9 ao=>?_);have hr35rawx:=ao;have hr35':=ao;obtain⟨c4,rfl,bi⟩:=hr35';refine bZ be Z Z Z (k:=5) Y (lb Z) (fun _=>Z) (fun c5 bl=>?_);refine O Z (RI aq bl Z Z) Z<|vQ 1 Z ?_;obtain⟨c7,W,ca⟩:=cE a1;refine Rx (e:=82) (m:=4) bi W Z Z Z Z (fun c8 cb bo bs bt=>?_);have hr39rawx:=bt;refine cd Z (RC Z Z Z) (fun _=>Z) (Nc hG _ _ _ _ bo bs hr39rawx _ _ _ _ _ _ aq) ?_;rintro _ U ⟨m2,rfl,aq,c9⟩;refine O Z (cT Z) Z<|QC 2 Z<|aD Z (fun a2=>?_) (fun a2=>?_)
   ·refine Q1 6 Z<|aE<|av<|bq<|aE<|aE<|av<|bq<|aE<|av (?_);exact aB Z Z ⟨cJ (by symm;unfold cS;rw[u,show bR 4000 (.ofNat c.ins.length)=false from h15x,gQ M (show uQ k R=false from gQ W (ju a2))];rfl),aq.pop.pop⟩
   refine aG<|aI<|Q0 4 Z ?_;have aq:=aq.pop;refine aM ⟨j7-1,by omega,oF,i2+1,by omega,fc a9 W<|eU a2,cI<|bg (by have:=am.bG;omega),aq⟩
  refine PY 3 Z<|aU<|aI<|Q0 4 Z<|aM ⟨j4-1,by omega,oF,i+1,by omega,fc A M (show uQ k R=true from dT a9 (br a1)),cI<|bg (by have:=hi.bG;omega),aq⟩
 refine PY 3 Z<|aU<|P7 aq 6 [0,0] Z Z<|ky Z (an Z) (fun C=>?_) (fun C=>?_)
 ·refine P3 15 Z ?_;exact aB Z Z ⟨cJ (by symm;unfold cS;rw[u,show bR 4000 (.ofNat c.ins.length)=false from h15x,dT A<|br z,C];rfl),aq.pop⟩
 refine Q7 aq 2 [1,0] Z Z<|O Z (RG hi Z Z Z (e:=79) Z) Z<|QC 4 Z<|aD Z (fun a3=>?_) (fun a3=>?_)
 ·refine QB 7 Z ?_;exact aB Z Z ⟨cJ (by symm;unfold cS;rw[u,show bR 4000 (.ofNat c.ins.length)=false from h15x,dT A<|br z,C,show D (.ofNat c.ins.length) 0=true from a3];rfl),aq.pop⟩
 have h52x:D (.ofNat c.ins.length) 0=false:=a3;refine Py aq 7 [1,0] Z Z<|O Z (RG hi Z Z Z (e:=79) Z) Z<|PZ 4 Z ?_;obtain⟨LL3,aq,hLL3⟩:=aq.named;refine bp ([2,6]++rg 56 11) (fun j t U=>∃(i:Nat),j+i=c.ins.length/\(c.ins.take i).all (fT c.bc (.ofNat c.ins.length) k)=true/\t.get 56=some (.int .i64 (.ofNat i))/\J U K LL3) (c.ins.length) ⟨0,Z,Z,Z,aq⟩ ?_;clear aq;intro b4 t U ar hI;obtain⟨i,cc,E,bv,aq⟩:=hI;subst hLL3;obtain⟨oo,rfl⟩:=ar.q1 bv Z;refine Qz 6 Z<|aD Z (fun Q=>?_) (fun Q=>?_)
 ·refine OR 11 Z<|aS (l:=zp [0,1,2,3,4,5,6]) Y Y<|al Z Z (RF Z aq.g0 (n:=2) (vs:=[_,_]) Z) Z<|Q8 aq 3 [1,0] Z Z ?_;obtain⟨dd,X,ce⟩:=cE Q;refine Ry (e:=79) (m:=6) hi X Z Z Z Z Z (fun dl ch bw ci ap=>?_);have hr63rawx:=ap;have hr63':=ap;obtain⟨dm,rfl,ck⟩:=hr63';refine cy Z Z (RC Z Z Z) (fun _=>Z) (Nb hG b3 hi bw hr63rawx aq) (fun U aq=>?_);refine⟨aT,?_⟩;refine al Z Z (cT Z) Z<|QF 2 Z<|aD Z (fun a4=>?_) (fun a4=>?_)
  ·refine Q1 6 Z<|aE<|av<|bq<|aE<|av (?_);exact aB Z Z ⟨cJ (by symm;unfold cS;rw[u,show bR 4000 (.ofNat c.ins.length)=false from h15x,dT A<|br z,C,show D (.ofNat c.ins.length) 0=false from h52x,gQ X<|ju a4];rfl),aq.pop⟩
  refine aG<|aI<|Q0 4 Z<|aM ⟨b4-1,by omega,oF,i+1,by omega,fc E X<|eU a4,cI<|bg (by have:=hi.bG;omega),aq⟩
 refine PY 3 Z<|aU<|P7 aq 7 [1,0,1,0] Z Z<|O Z (RG hi Z Z Z (e:=79) Z) Z<|vQ 1 Z ?_;have cl:0<c.ins.length:=by rcases Nat.eq_zero_or_pos c.ins.length with e | e;rw[e] at h52x;cases h52x;exact e
 obtain⟨ab,F⟩:=cq (show c.ins.length-1<c.ins.length from by omega);refine Rx (e:=79) (m:=6) hi F Z Z Z (cI<|lz (b:=1) B hi.bG) (fun dr cn bz co aK=>?_);have hr73rawx:=aK;have hr73':=aK;obtain⟨ds,rfl,cp⟩:=hr73';refine bZ bz Z Z Z (k:=0) Y (lb Z) (fun _=>Z) (fun dx b0=>?_);refine O Z (RI aq b0 Z Z) Z<|PZ 3 Z<|PV 3 Z<|ky Z (az Z Z Z) (fun aa=>?_) (fun aa=>?_)
 ·refine P3 13 Z<|aE<|av (?_);exact aB Z Z ⟨cJ (by symm;unfold cS;rw[u,show bR 4000 (.ofNat c.ins.length)=false from h15x,dT A<|br z,C,show D (.ofNat c.ins.length) 0=false from h52x,dT E<|br Q,F];show(bif gL ab then(0:Int) else 2)=_;unfold gL;rw[aa];rfl),aq.pop⟩
 refine P1 6 Z<|ky Z (az Z Z Z) (fun ac=>?_) (fun ac=>?_)
 ·refine P3 13 Z<|aE<|av (?_);exact aB Z Z ⟨cJ (by symm;unfold cS;rw[u,show bR 4000 (.ofNat c.ins.length)=false from h15x,dT A<|br z,C,show D (.ofNat c.ins.length) 0=false from h52x,dT E<|br Q,F];show(bif gL ab then(0:Int) else 2)=_;unfold gL;rw[aa,ac];rfl),aq.pop⟩
 refine QD 5 Z<|ky Z (az Z Z Z) (fun a5=>?_) (fun a5=>?_)
 ·refine QE 10 Z<|aE<|av (?_);exact aB Z Z ⟨cJ (by symm;unfold cS;rw[u,show bR 4000 (.ofNat c.ins.length)=false from h15x,dT A<|br z,C,show D (.ofNat c.ins.length) 0=false from h52x,dT E<|br Q,F];show(bif gL ab then(0:Int) else 2)=_;unfold gL;rw[aa,ac,a5];rfl),aq.pop⟩
 refine P2 6 Z<|Q1 6 Z ?_;exact aB Z Z ⟨cJ (by symm;unfold cS;rw[u,show bR 4000 (.ofNat c.ins.length)=false from h15x,dT A<|br z,C,show D (.ofNat c.ins.length) 0=false from h52x,dT E<|br Q,F];show(bif gL ab then(0:Int) else 2)=_;unfold gL;rw[aa,ac,a5];rfl),aq.pop⟩
theorem vR {G:Cx} (R:Plain G) {K:H} {k:Nat} {x:XI} {a:Nat} (Q:a<9223372036854775807) {vs:List V} (h:gp K k x vs) {U:I} {L:Own} (aq:J U K L):
  bm Tryz.prog G 216 [.agg vs,.int .i64 (.ofNat a)] U fun v U'=>∃M,cN 1 3 cz (fw x a) v M/\J U' K (M++L):=by
 obtain⟨w,rfl,hk⟩:=h;refine QX R Tryz.func216 Z<|QA 2 Z<|kp aq Z (cA Z Z) (fun U b1 aq=>?_);refine P9 aq 10 [0,0] Z Z<|aO<|QA 2 Z<|ky Z (az Z Z Z) (fun E=>?_) (fun E=>?_)
 ·refine Qa aq 8 [4,0] Z Z<|gD aq Z (bW (e:=3) (m:=1) (z:=[T]) (cs:=[_]) Y Y Y Y<|bA Z Z Z Z bH) (fun _=>Z) (fun U F aq=>?_);refine QE 4 Z<|aE<|av (?_);exact aB Z Z ⟨[(F,_)],by unfold fw;rw[E];exact gV (xs:=[x.to]) (by simp),aq.sub (.cons_cons _ (.cons _ (.refl _)))⟩
 refine P1 6 Z<|ky Z (az Z Z Z) (fun u=>?_) (fun u=>?_)
 ·refine P1 7 Z<|O Z (az Z Z (show _=some (V.int .i64 (.ofNat (a+1))) from cI (bg Q))) Z<|Q7 aq 2 [4,0] Z Z<|gD aq Z (bW (e:=3) (m:=1) (z:=[T]) (cs:=[_,_]) Y Y Y Y<|bA Z Z Z Z<|bA Z Z Z Z bH) (fun _=>Z) (fun U F aq=>?_);refine QE 4 Z<|aE<|av (?_);exact aB Z Z ⟨[(F,_)],by unfold fw;rw[E,u];exact gV (xs:=[.ofNat (a+1),x.to]) (by simp),aq.sub (.cons_cons _ (.cons _ (.refl _)))⟩
 refine Pw 7 Z<|ky Z (az Z Z Z) (fun A=>?_) (fun A=>?_)
 ·refine P3 13 Z<|aE<|av (?_);exact aB Z Z ⟨[],.inl ⟨by unfold fw;rw[E,u,A];rfl,Z,Z⟩,aq.pop⟩
 refine QD 5 Z<|ky Z (az Z Z Z) (fun C=>?_) (fun C=>?_)
 ·refine QE 10 Z<|aE<|av (?_);exact aB Z Z ⟨[],.inl ⟨by unfold fw;rw[E,u,A,C];rfl,Z,Z⟩,aq.pop⟩
 refine P2 6 Z<|QA 3 Z<|O Z (az Z Z (show _=some (V.int .i64 (.ofNat (a+1))) from cI (bg Q))) Z<|gD aq Z (bW (e:=3) (m:=1) (z:=[T]) (cs:=[_]) Y Y Y Y<|bA Z Z Z Z bH) (fun _=>Z) (fun U F aq=>?_);refine QE 4 Z ?_;exact aB Z Z ⟨[(F,_)],by unfold fw;rw[E,u,A,C];exact gV (xs:=[.ofNat (a+1)]) (by simp),aq.sub (.cons_cons _ (.cons _ (.refl _)))⟩
theorem OK {G:Cx} (u:Plain G) {K:H} (x y:Int) {U:I} {L:Own} (aq:J U K L):bm Tryz.prog G 163 [.int .i64 x,.int .i64 y] U fun v U'=>v= .bool false/\J U' K L:=by
 refine QX u Tryz.func163 Z<|Q1 11 Z ?_;exact aB Z Z ⟨Z,aq⟩
theorem DW {G:Cx} (hG:Plain G) {K:H} {k:Nat} {c:XC} (hc:eK k c) {v:V} (hi:bJ K 6 (gp K k) c.ins v) {U:I} {L:Own} (aq:J U K L):
  bm Tryz.prog G 162 [.agg [.int .i64 c.bc,v],.func 163 [] []] U fun v U'=>∃u M,v= .tuple [u,.bool (eF c).isSome]/\nk 1 3 cz (((eF c).getD []).map .ofNat) u M/\J U' K (M++L):=by
 have hN:∀i,i<c.ins.length->∀to∈cV c i,to<c.ins.length:=rG hc;have hlen:=hc.len;have hpos:=hc.pos;have htot:=DL (c:=c);obtain⟨N_,a9⟩:∃N_,N_=2*total (cV c) c.ins.length+2:=⟨_,Z⟩;have hO:eF c=wZ (cV c) N_ (yZ c.ins.length):=by rw[a9];rfl
 refine QX hG Tryz.func162 Z<|QA 2 Z<|kp aq Z (cA Z Z) (fun U b1 aq=>?_);refine Qa aq 8 [1,0] Z Z<|O Z (RG hi Z Z Z (e:=79) Z) Z<|gD aq Z (gj (e:=5) (w:=1) (z:=[gS 0]) Y Y Y Y Z Z B B) (fun _=>Z) (fun U b2 aq=>?_);rw[gM (f:=gS)] at aq;refine Qa aq 7 [1,1] Z Z<|O Z (RG hi Z Z Z (e:=79) Z) Z<|gD aq Z (gj (e:=3) (w:=8) (z:=[gI 0]) Y Y Y Y Z Z B B) (fun _=>Z) (fun U b3 aq=>?_);rw[gM (f:=gI)] at aq;refine P1 11 Z (O Z (dD (e:=5) (m:=1) Y Y Z Z hpos) Z (cw aq (.there .here) Z (aJ Z Z Z aq.g1 (m:=1) Y Z (by rw[lM_];simp;omega) Z (cells':=((List.replicate c.ins.length 0).set 0 1).map (gS))<|ef (f:=gS) (v:=1) (by simp;omega) (by first | omega | rfl)) Z (fun U aq=>?_)));refine Pw 5 Z<|gD aq Z (bW (e:=3) (m:=1) (z:=[T]) (cs:=[_]) Y Y Y Y<|bA Z Z Z Z bH) (fun _=>Z) (fun U b4 aq=>?_);refine PZ 4 Z (bp ([4,5]++rg 8 5++rg 24 71) (fun j t U=>∃(s:DS) (u9 u8:V) (Mp Mo:Own),Nj (cV c) c.ins.length s/\js (cV c) c.ins.length s<=j/\s.out.length+js (cV c) c.ins.length s<=N_/\wZ (cV c) N_ (yZ c.ins.length)=wZ (cV c) (j+1) s/\nk 1 3 cz (s.out.map .ofNat) u8 Mo/\nk 1 3 cz (s.path.map .ofNat) u9 Mp/\t.get 8=some (u8)/\t.get 9=some (u9)/\J U K (Mo++(Mp++((b3,.row (s.gone.map gI) 3 false)::(b2,.row (s.st.map gS) 5 false)::(b1,.row [.int .i64 c.bc,v] 33 false)::L)))) ((N_-1)) ⟨yZ c.ins.length,_,.au,[(b4,.row [gI 0] 3 false)],[],uq hpos,by rw[Gw];omega,by rw[Gw];have:(yZ c.ins.length).out.length=0:=rfl;omega,by rw[show N_-1+1=N_ from by omega],.inl ⟨Z,Z,Z⟩,(gV (xs:=[0]) (by simp)).Pr,Z,Z,aq⟩ ?_);clear aq;intro j6 t U ar hI;obtain⟨s,u9,u8,Mp,Mo,hw,ac,ce,he,hOut,hP,bb,be,aq⟩:=hI;obtain⟨oo,rfl⟩:=ar.q2 bb be Z;refine PV 4 Z<|O Z (sZ hP Z Z Z (e:=3) Y Z) Z<|ky Z (az Z Z Z) (fun ae=>?_) (fun ae=>?_)
 ·refine QC 3 Z<|aG<|ad<|aO<|QA 4 Z<|O Z (sZ hP Z Z Z (e:=3) Y Z) Z<|vQ 1 Z ?_;have a0:0<s.path.length:=by have:=bk (a:=0) ae;rwa[gi] at this
  obtain⟨a,C⟩:∃a,s.path.getLast?=some a:=by cases hq:s.path.getLast? with | none=>(rw[List.getLast?_eq_none_iff.1 hq] at a0;exact absurd a0<|Nat.lt_irrefl _) | some a=>exact⟨a,rfl⟩
  have hla':=Gv C;obtain⟨A,b0⟩:=hw.path a (gB_ hla');obtain⟨g,hg⟩:∃g,s.gone[a]?=some g:=⟨_,gC (by rw[hw.tv];exact A)⟩;obtain⟨a1,E⟩:=cq A;have ch:s.path.length<=js (cV c) c.ins.length s:=by unfold js;omega
  refine Rx (e:=3) (m:=1) (hP.iB (K:=K.gF Mp) fun y hy=>.inr hy) (Fk hla') Z Z Z (cI ((congrArg (fun q=>wr .i64 (Int.sub (.ofNat q) 1))<|gi s.path).trans<|lz (b:=1) B B)) (fun ci b6 a2 b7 a3=>?_);obtain rfl:=a3;refine O Z (RI (aq.aR.keeps) a2 Z Z) Z<|Qa aq 6 [1] Z Z<|O Z (RE Z aq.aR.aR.pop.pop.g0 Z) Z<|vQ 1 Z<|Rx (e:=79) (m:=6) hi E Z Z Z Z (fun ck b8 a4 b9 aa=>?_);have hr36raw:=aa;have hr36':=aa;obtain⟨cl,rfl,ca⟩:=hr36';refine O Z (RJ aq a4 Z Z) Z<|vQ 1 Z<|cd Z (RC Z Z Z) (fun _=>Z) (vR hG B hr36raw aq) ?_;rintro cn U ⟨bi,hM39,aq⟩;replace aq:=aq.keeps;have hS39:=hM39.iB (K:=K.gF bi) fun y hy=>.inr hy
  refine Pw 8 Z<|O Z (dD (e:=3) (m:=1) Y Y Z Z A) Z<|O Z (ay Z aq.aR.aR.g0 Y<|fR hg (by first | omega | rfl)) Z<|vQ 1 Z<|O Z (RG hS39 Z Z Z (e:=3) Z) Z<|QC 3 Z<|aD Z (fun am=>?_) (fun am=>?_)
  ·refine QA 4 Z (O Z (dD (e:=5) (m:=1) Y Y Z Z A) Z (cw aq (.cH (.cH (.there .here))) Z (aJ Z Z Z aq.aR.aR.pop.g0 (m:=1) Y Z (by rw[lM_];rw[hw.Ls];omega) Z (cells':=((s.st).set a 2).map (gS))<|ef (f:=gS) (v:=2) (by rw[hw.Ls];exact A) (by first | omega | rfl)) Z (fun U aq=>?_)));refine P1 6 Z<|gD aq Z (bW (e:=3) (m:=1) (z:=[T]) (cs:=[_]) Y Y Y Y<|bA Z Z Z Z bH) (fun _=>Z) (fun U b5 aq=>?_);obtain⟨U,bl,bo,F,hOut2,aq⟩:=qK (P:=Tryz.prog) (ts:= #[34,34]) (t:=34) (e:=3) (l2:=[Int.ofNat a]) hOut aq (fm (xs:=[Int.ofNat a]) (.inr ⟨Z,Z⟩) (by simp)) cz.leaf (by simp) (by simp) (by rw[gi];omega) Z Y Y Y;rw[show s.out.map Int.ofNat++[Int.ofNat a]=(s.out++[a]).map Int.ofNat from by rw[List.map_append];rfl] at hOut2;refine O Z (dB Z Z Z Z Y F) Z<|P1 7 Z<|O Z (sZ hP Z Z Z (e:=3) Y Z) Z<|vQ 1 Z ?_;obtain⟨bs,hP2,bt⟩:=hP.Nu (k:=s.path.length-1) (by rw[gi];omega);rw[Ak] at hP2;refine O Z (bf Z<|bt Y Y Z (show _=some (V.int .i64 (.ofNat (s.path.length-1))) from cI ((congrArg (fun q=>wr .i64 (Int.sub (.ofNat q) 1))<|gi s.path).trans<|lz (b:=1) B B))) Z<|P4 5 Z<|aU ?_;replace aq:=aq.weaken (H.bY _ _);have hd:=HD hg (J4 E (by have:=iJ_ (eqv am);omega));obtain⟨Q,a5,a6⟩:=ou hw hN C hd;refine aM ⟨j6-1,by have:1<=j6:=(by unfold js at ac;omega);omega,oF,_,bs,bl,Mp,bo,Q,by omega,by omega,by rw[he,show j6+1=(j6-1+1)+1 from by omega];exact w6 C hd,hOut2,hP2,Z,Z,aq⟩
  refine PX 7 Z<|O Z (dD (e:=3) (m:=1) Y Y Z Z A) Z<|O Z (ay Z aq.aR.aR.g0 Y<|fR hg (by first | omega | rfl)) Z ?_;have bv:g<(fw a1 a).length:=by have h1:=hw.gone a g hg;rw[uF E] at h1;have:=EP am;omega
  obtain⟨co,ab⟩:=cq bv;obtain⟨to,rfl,R,ao⟩:=rF hc E ab;obtain⟨sv,hv⟩:∃sv,s.st[to]?=some sv:=⟨_,gC (by rw[hw.Ls];exact R)⟩;refine Rx (e:=3) (m:=1) hS39 ab Z Z Z Z (fun cp cb a7 cc a8=>?_);obtain rfl:=a8;refine O Z (RI aq a7 Z Z) Z<|P1 7 Z<|O Z (dD (e:=3) (m:=1) Y Y Z Z A) Z<|O Z (ay Z aq.aR.aR.g0 Y<|fR hg (by first | omega | rfl)) Z<|vQ 1 Z<|O Z (dD (e:=3) (m:=1) Y Y Z Z A) Z ?_;refine cw aq (.cH (.cH .here)) Z (aJ Z Z (show _=some [gI (g+1)] from congrArg (fun z=>some [V.int .i64 z]) (bg (by have h1:=hw.gone a g hg;rw[uF E] at h1;have:=Db a1 a;omega))) aq.aR.aR.g0 (m:=1) Y Z (by rw[lM_];rw[hw.tv];omega) Z (cells':=((s.gone).set a (g+1)).map (gI)) (ef (f:=gI) (v:=(g+1)) (by rw[hw.tv];exact A) (by first | omega | rfl))) Z (fun U aq=>?_);refine Pw 8 Z<|bj Z (RC Z Z Z) (fun _=>Z) (OK hG _ _ aq) (fun U aq=>?_);refine Q3 3 Z<|O Z (dD (e:=5) (m:=1) Y Y Z Z R) Z<|O Z (ay Z aq.aR.aR.pop.g0 Y<|fR hv (by first | omega | rfl)) Z<|QC 4 Z<|aD Z (fun ap=>?_) (fun ap=>?_)
  ·refine bu<|aX<|aU ?_;replace aq:=aq.weaken (H.bY _ _);have hd:=EL hg ao (by rw[hv];exact congrArg some<|iJ_<|eqv ap);obtain⟨Q,a5,a6⟩:=ou hw hN C hd;refine aM ⟨j6-1,by have:1<=j6:=(by unfold js at ac;omega);omega,oF,_,u9,u8,Mp,Mo,Q,by omega,by omega,by rw[he,show j6+1=(j6-1+1)+1 from by omega];exact w6 C hd,hOut,hP,Z,Z,aq⟩
  refine Pu 7 Z<|O Z (dD (e:=5) (m:=1) Y Y Z Z R) Z<|O Z (ay Z aq.aR.aR.pop.g0 Y<|fR hv (by first | omega | rfl)) Z<|QC 3 Z<|aD Z (fun aK=>?_) (fun aK=>?_)
  ·refine Q1 7 Z<|av<|aE<|bq<|aE<|av (?_);have W:eF c=none:=by rw[hO,he];exact Ji C<|EJ hg ao (by rw[hv];exact congrArg some<|iJ_<|eqv aK)
   replace aq:=aq.weaken (H.bY _ _);exact bU Z Z Z ⟨_,[],by rw[W];rfl,by rw[W];exact .inl ⟨Z,Z,Z⟩,aq.aR.aR.pop.pop.pop⟩
  refine PX 6 Z (O Z (dD (e:=5) (m:=1) Y Y Z Z R) Z (cw aq (.cH (.cH (.there .here))) Z (aJ Z Z Z aq.aR.aR.pop.g0 (m:=1) Y Z (by rw[lM_];rw[hw.Ls];omega) Z (cells':=((s.st).set to 1).map (gS))<|ef (f:=gS) (v:=1) (by rw[hw.Ls];exact R) (by first | omega | rfl)) Z (fun U aq=>?_)));refine QD 5 Z<|gD aq Z (bW (e:=3) (m:=1) (z:=[T]) (cs:=[_]) Y Y Y Y<|bA Z Z Z Z bH) (fun _=>Z) (fun U b5 aq=>?_);replace aq:=aq.EZ;obtain⟨U,bw,bz,F,hP2,aq⟩:=qK (P:=Tryz.prog) (ts:= #[34,34]) (t:=34) (e:=3) (l2:=[Int.ofNat to]) hP aq (fm (xs:=[Int.ofNat to]) (.inr ⟨Z,Z⟩) (by simp)) cz.leaf (by simp) (by simp) (by rw[gi];omega) Z Y Y Y;replace aq:=aq.front;rw[show s.path.map Int.ofNat++[Int.ofNat to]=(s.path++[to]).map Int.ofNat from by rw[List.map_append];rfl] at hP2;refine O Z (dB Z Z Z Z Y F) Z<|Q2 2 Z<|aI ?_;replace aq:=aq.weaken (H.bY _ _);have hd:=EK hg ao hv (EP (b:=2) ap) (EP (b:=1) aK);obtain⟨Q,a5,a6⟩:=ou hw hN C hd;refine aM ⟨j6-1,by have:1<=j6:=(by unfold js at ac;omega);omega,oF,_,bw,u8,bz,Mo,Q,by omega,by omega,by rw[he,show j6+1=(j6-1+1)+1 from by omega];exact w6 C hd,hOut,hP2,Z,Z,aq⟩
 refine P4 5 Z<|ba<|aU<|Q1 8 Z ?_;have X:eF c=some s.out:=by rw[hO,he];exact LX (by have:=br (a:=0) ae;rw[gi] at this;omega)
 exact bU Z Z Z ⟨u8,Mo,by rw[X];rfl,by rw[X];exact hOut,aq.sub<|dw (.trans (.cons _ (.cons _ (.cons _ (.refl _))))<|List.sublist_append_right _ _)⟩
theorem KQ {G:Cx} (z:Plain G) {K:H} (A:mK G K) {k:Nat} {c:XC} {v:V} (hi:bJ K 6 (gp K k) c.ins v) {U:I} {L:Own} (aq:J U K L):
  bm Tryz.prog G 111 [.agg [.int .i64 c.bc,v]] U fun v U'=>v= .bool (gU k c)/\J U' K L:=by
 refine QX z Tryz.func111 Z<|QA 2 Z<|kp aq Z (cA Z Z) (fun U b1 aq=>?_);refine Pw 6 Z<|O Z (RF Z aq.g0 (n:=2) (vs:=[_,_]) Z) Z<|bj Z (RC Z Z Z) (fun _=>Z) (uX z A hi aq) (fun U aq=>?_);refine QC 3 Z<|aD Z (fun u=>?_) (fun u=>?_)
 ·refine QB 7 Z ?_;exact aB Z Z ⟨cB (by unfold gU;rw[show bd (D (cS k c) 0)=true from u];rfl),aq.pop⟩
 have C:cS k c=0:=eqv (bn u);refine PX 4 Z<|O Z (RF Z aq.g0 (n:=2) (vs:=[_,_]) Z) Z<|cd Z (RC Z Z Z) (fun _=>Z) (DW z (ph C) hi aq) ?_;rintro _ U ⟨aa,ab,rfl,hM10,aq⟩;refine QE 14 Z ?_;exact aB Z Z ⟨cB (by unfold gU;rw[show bd (D (cS k c) 0)=false from u];rfl),aq.aR.pop⟩
def wD (x:Int):Int:=bif (bif (bif bR x 2 then false else true) then(bif bR 7 x then false else true) else false) then 1 else 0
theorem OF {G:Cx} (z:Plain G) {K:H} (x:Int) {U:I} {L:Own} (aq:J U K L):bm Tryz.prog G 193 [.int .i64 x] U fun v U'=>v= .int .i64 (wD x)/\J U' K L:=by
 refine QX z Tryz.func193 Z<|PV 10 Z<|ky Z (an Z) (fun h5=>?_) (fun h5=>?_)
 ·refine QC 5 Z<|aD Z (fun u=>?_) (fun u=>?_)
  ·refine QB 7 Z ?_;exact aB Z Z ⟨cJ (by unfold wD;simp only[h5,u,ct,cf]),aq⟩
  refine QB 8 Z ?_;exact aB Z Z ⟨cJ (by unfold wD;simp only[h5,u,ct,cf]),aq⟩
 refine P3 14 Z ?_;exact aB Z Z ⟨cJ (by unfold wD;simp only[h5,ct,cf]),aq⟩
abbrev gZ (n:Int):V:=.int .i64 n
def vZ (fr:List Int):List Int->Int->Int
 | [],m=>m
 | t::r,m=>vZ fr r (bif bR m ((fr[t.toNat]?).getD 0) then(fr[t.toNat]?).getD 0 else m)
def tD (c:XC) (fr:List Int) (a:Nat):List Int:=match c.ins[a]? with | some x=>fr.set a (wr .i64<|Int.add (wD x.kind)<|vZ fr (fw x a) 0) | none=>fr
def kq (c:XC):List Nat->List Int->List Int
 | [],fr=>fr
 | a::r,fr=>kq c r (tD c fr a)
def wF (k:Nat) (c:XC):Int:=
 bif bd (D (cS k c) 0) then-1 else match eF c with | some out=>((kq c out<|List.replicate c.ins.length 0)[0]?).getD 0 | none=>-1
theorem H7 (c:XC) (fr:List Int) (a:Nat):(tD c fr a).length=fr.length:=by unfold tD;cases c.ins[a]?<;>simp
theorem zZ {c:XC}:∀{l:List Nat} {fr:List Int},(kq c l fr).length=fr.length
 | [],_=>rfl
 | a::l,fr=>by show(kq c l<|tD c fr a).length=_;rw[zZ,H7]
theorem JY {c:XC} {l:List Nat} {i a:Nat} {fr:List Int} (h:l[i]?=some a):kq c (l.drop i) fr=kq c (l.drop (i+1)) (tD c fr a):=by rw[cO h];rfl
theorem Mv {fr l:List Int} {i:Nat} {t:Int} {m:Int} (h:l[i]?=some t):vZ fr (l.drop i) m=vZ fr (l.drop (i+1)) (bif bR m ((fr[t.toNat]?).getD 0) then(fr[t.toNat]?).getD 0 else m):=by rw[cO h];rfl
theorem OJ {G:Cx} (hG:Plain G) {K:H} (a8:mK G K) {k:Nat} {c:XC} {v:V} (hi:bJ K 6 (gp K k) c.ins v) {U:I} {L:Own} (aq:J U K L):
  bm Tryz.prog G 192 [.agg [.int .i64 c.bc,v],.func 193 [] []] U fun v U'=>v= .int .i64 (wF k c)/\J U' K L:=by
 refine QX hG Tryz.func192 Z<|QA 2 Z<|kp aq Z (cA Z Z) (fun U b1 aq=>?_);refine Pw 6 Z<|O Z (RF Z aq.g0 (n:=2) (vs:=[_,_]) Z) Z<|bj Z (RC Z Z Z) (fun _=>Z) (uX hG a8 hi aq) (fun U aq=>?_);refine QC 3 Z<|aD Z (fun F=>?_) (fun F=>?_)
 ·refine QB 7 Z ?_;exact aB Z Z ⟨cJ (by unfold wF;rw[show bd (D (cS k c) 0)=true from F];rfl),aq.pop⟩
 have C:cS k c=0:=eqv (bn F);refine PX 4 Z<|O Z (RF Z aq.g0 (n:=2) (vs:=[_,_]) Z) Z<|cd Z (RC Z Z Z) (fun _=>Z) (DW hG (ph C) hi aq) ?_;rintro _ U ⟨a9,M17,rfl,hM17,aq⟩;refine Pw 11 Z<|ky Z (cT Z) (fun aa=>?_) (fun aa=>?_)
 ·refine P3 10 Z ?_;exact aB Z Z ⟨cJ (by unfold wF;rw[show bd (D (cS k c) 0)=false from F];show _=(match eF c with | some out=>_ | none=>_);rw[show eF c=none from by have:=ju aa;cases hq:eF c with | none=>rfl | some q=>(rw[hq] at this;cases this)]),aq.aR.pop⟩
 refine Px 7 Z ?_;obtain⟨out,M⟩:=Option.isSome_iff_exists.1 (eU aa);have hR:=pk (rG<|ph C) (uq (ph C).pos) (show wZ _ _ _=some out from M);have hlen:=(ph C).len;have hpos:=(ph C).pos;rw[M] at hM17;replace hM17:nk 1 3 cz (out.map Int.ofNat) a9 M17:=hM17;refine O Z (RD 1 Z) Z<|O Z (RE Z aq.aR.g0 Z) Z<|O Z (RG hi Z Z Z (e:=79) Z) Z<|gD aq Z (gj (e:=3) (w:=8) (z:=[gZ 0]) Y Y Y Y Z Z B B) (fun _=>Z) (fun U b2 aq=>?_);rw[gM (f:=gZ)] at aq;refine Pw 7 Z (O Z (sZ hM17 Z Z Z (e:=3) Y Z) Z (PZ 4 Z (bp ([9,10,12]++rg 29 37) (fun j t U=>∃(i:Nat) (fr:List Int),j+i=out.length/\fr.length=c.ins.length/\kq c out (List.replicate c.ins.length 0)=kq c (out.drop i) fr/\t.get 29=some (.int .i64 (.ofNat i))/\J U K ((b2,.row (fr.map gZ) 3 false)::(M17++(b1,.row [.int .i64 c.bc,v] 33 false)::L))) (out.length) ⟨0,_,Z,by simp,Z,Z,aq⟩ ?_)));clear aq;intro j8 t U ar hI;obtain⟨i,fr,b7,bb,ae,am,aq⟩:=hI;obtain⟨oo,rfl⟩:=ar.q1 am Z;refine QA 2 Z ?_;skip;refine ky Z (az Z Z Z) (fun E=>?_) (fun E=>?_)
 ·refine OT 10 Z ?_;obtain⟨a,ab⟩:=cq (show i<out.length from by have:=bk E;rwa[gi] at this);have han:=hR.lt a (gB_ ab);obtain⟨u,A⟩:=cq han;refine Rx (e:=3) (m:=1) (hM17.iB (K:=K.gF M17) fun y hy=>.inr hy) (Fk ab) Z Z Z Z (fun b8 bl ao bo ap=>?_);obtain rfl:=ap;refine O Z (RI (aq.pop.keeps) ao Z Z) Z<|Pz aq 12 [1] Z Z<|O Z (RE Z aq.pop.aR.g0 Z) Z<|vQ 1 Z<|Rx (e:=79) (m:=6) hi A Z Z Z Z (fun b9 bs aK bt R=>?_);have hr36raw:=R;have hr36':=R;obtain⟨ca,rfl,bv⟩:=hr36';refine O Z (RJ aq aK Z Z) Z<|vQ 1 Z<|cd Z (RC Z Z Z) (fun _=>Z) (vR hG B hr36raw aq) ?_;rintro cb U ⟨a0,hM39,aq⟩;replace aq:=aq.keeps;have hS39:=hM39.iB (K:=K.gF a0) fun y hy=>.inr hy
  refine O Z (RG hS39 Z Z Z (e:=3) Z) Z<|PZ 4 Z ?_;obtain⟨LL2,aq,hLL2⟩:=aq.named;refine bp ([10,12]++rg 41 11) (fun j t U=>∃(i2:Nat) (m:Int),j+i2=(fw u a).length/\vZ fr (fw u a) 0=vZ fr ((fw u a).drop i2) m/\t.get 10=some (.int .i64 m)/\t.get 41=some (.int .i64 (.ofNat i2))/\J U (K.gF a0) LL2) ((fw u a).length) ⟨0,0,Z,Z,Z,Z,aq⟩ ?_;clear aq;intro be t U ar hI;obtain⟨i2,m,bw,W,a1,a2,aq⟩:=hI;subst hLL2;obtain⟨oo,rfl⟩:=ar.q2 a1 a2 Z;refine QA 2 Z<|ky Z (az Z Z Z) (fun ac=>?_) (fun ac=>?_)
  ·refine OT 10 Z ?_;obtain⟨cc,Q,bz⟩:=cE ac;refine Rx (e:=3) (m:=1) hS39 Q Z Z Z Z (fun ce b0 a3 b3 a4=>?_);obtain rfl:=a4;obtain⟨to,rfl,bi,ch⟩:=rF (ph C) A Q;obtain⟨y,hy⟩:=cq (show to<fr.length from by omega);refine O Z (RI aq a3 Z Z) Z<|QD 7 Z<|O Z (dD (e:=3) (m:=1) Y Y Z Z bi) Z<|O Z (ay Z aq.g0 Y<|fR hy (by first | omega | rfl)) Z<|O Z (Hh Z Z Z Z) Z<|Q2 2 Z<|aI<|Q0 4 Z<|aM ⟨be-1,by omega,oF,i2+1,_,by omega,by rw[W,Mv Q,show(Int.ofNat to).toNat=to from Z,hy];rfl,Z,cI<|bg (by have:=hS39.bG;omega),aq⟩
  refine P0 4 Z<|PY 3 Z<|aU<|ad<|ai Z ?_;replace aq:=aq.weaken (H.bY _ _);refine Q7 aq 4 [1] Z Z<|O Z (RE Z aq.pop.aR.g0 Z) Z<|vQ 1 Z<|Rx (e:=79) (m:=6) hi A Z Z Z Z (fun ci b4 a5 b5 X=>?_);have hr58raw:=X;have hr58':=X;obtain⟨ck,rfl,b6⟩:=hr58';refine bZ a5 Z Z Z (k:=0) Y (lb Z) (fun _=>Z) (fun cl a6=>?_);refine O Z (RI aq a6 Z Z) Z<|bj Z (RC Z Z Z) (fun _=>Z) (OF hG _ aq) (fun U aq=>?_);refine Q3 2 Z (O Z (dD (e:=3) (m:=1) Y Y Z Z han) Z (cw aq .here Z (aJ Z Z Z aq.g0 (m:=1) Y Z (by rw[lM_];omega) Z (cells':=((fr).set a<|wr .i64<|Int.add (wD u.kind) m).map (gZ)) (ef (f:=gZ) (v:=(wr .i64<|Int.add (wD u.kind) m)) B (by first | omega | rfl))) Z (fun U aq=>?_)));refine af<|aI<|Q0 4 Z ?_;refine aM ⟨j8-1,by have:=bk E;rw[gi] at this;omega,oF,i+1,_,by have:=bk E;rw[gi] at this;omega,by rw[List.length_set];exact bb,by rw[ae,JY ab];unfold tD;rw[A];show kq c _ (fr.set a<|wr .i64<|Int.add (wD u.kind)<|vZ fr (fw u a) 0)=_;rw[show vZ fr (fw u a) 0=m from by rw[W,ff<|br ac];rfl],cI<|bg (by have:=bk E;have:=hM17.bG;omega),aq⟩
 refine P0 4 Z<|PY 3 Z<|aU<|QA 3 Z ?_;obtain⟨y0,a7⟩:=cq (show 0<fr.length from by omega);refine O Z (dD (e:=3) (m:=1) Y Y Z Z hpos) Z<|O Z (ay Z aq.g0 Y<|fR a7 (by first | omega | rfl)) Z<|QE 4 Z ?_;exact aB Z Z ⟨cJ (by unfold wF;rw[show bd (D (cS k c) 0)=false from F];show _=(match eF c with | some out=>_ | none=>_);rw[M];show _=((kq c out<|List.replicate c.ins.length 0)[0]?).getD 0;rw[ae,ff (by have:=br E;rwa[gi] at this)];show y0=(fr[0]?).getD 0;rw[a7];rfl),aq.pop.aR.pop⟩
theorem FL {G:Cx} (z:Plain G) {K:H} (u:mK G K) {k:Nat} {c:XC} {v:V} (hi:bJ K 6 (gp K k) c.ins v) {U:I} {L:Own} (aq:J U K L):
  bm Tryz.prog G 140 [.agg [.int .i64 c.bc,v]] U fun v U'=>v= .int .i64 (wF k c)/\J U' K L:=by
 refine QX z Tryz.func140 Z<|QA 2 Z<|kp aq Z (cA Z Z) (fun U b1 aq=>?_);refine P1 5 Z<|O Z (RF Z aq.g0 (n:=2) (vs:=[_,_]) Z) Z<|bj Z (RC Z Z Z) (fun _=>Z) (OJ z u hi aq) (fun U aq=>?_);refine QE 4 Z ?_;exact aB Z Z ⟨Z,aq.pop⟩
theorem mz {G:Cx} (z:Plain G) {K:H} (b:Bool) {U:I} {L:Own} (aq:J U K L):bm Tryz.prog G 259 [.bool b] U fun v U'=>v= .int .i64 (pS b)/\J U' K L:=by
 refine QX z Tryz.func259 Z<|Qz 11 Z<|aD Z (fun u=>?_) (fun u=>?_)
 ·refine QB 7 Z ?_;exact aB Z Z ⟨by rw[u];rfl,aq⟩
 refine QB 8 Z ?_;exact aB Z Z ⟨by rw[u];rfl,aq⟩
theorem NA {G:Cx} (z:Plain G) {K:H} (op a:Int) {U:I} {L:Own} (aq:J U K L):bm Tryz.prog G 225 [.int .i64 op,.int .i64 a] U fun v U'=>v= .int .i64 (qc op a)/\J U' K L:=by
 refine QX z Tryz.func225 Z<|Qz 12 Z<|aD Z (fun u=>?_) (fun u=>?_)
 ·refine QA 3 Z ?_;refine O Z (ew (j:=.i64) (k:=.u64) Y Y Y Z) Z ?_;refine vQ 1 Z ?_;refine O Z (ew (j:=.u64) (k:=.i64) Y Y Y Z) Z ?_;refine P3 5 Z ?_;exact aB Z Z ⟨cJ (by unfold qc;rw[u];rfl),aq⟩
 refine PX 6 Z<|bj Z (RC Z Z Z) (fun _=>Z) (mz z _ aq) (fun U aq=>?_);refine QE 4 Z ?_;exact aB Z Z ⟨cJ (by unfold qc;rw[u];rfl),aq⟩
theorem K8 {G:Cx} (W:Plain G) {K:H} (op a b:Int) {U:I} {L:Own} (aq:J U K L):bm Tryz.prog G 226 [.int .i64 op,.int .i64 a,.int .i64 b] U fun v U'=>v= .int .i64 (iI op a b)/\J U' K L:=by
 refine QX W Tryz.func226 Z<|QA 8 Z ?_;refine O Z (ew (j:=.i64) (k:=.u64) Y Y Y Z) Z ?_;refine vQ 1 Z ?_;refine O Z (ew (j:=.i64) (k:=.u64) Y Y Y Z) Z ?_;refine OT 13 Z<|ky Z (az Z Z Z) (fun u=>?_) (fun u=>?_)
 ·refine P1 8 Z<|ky Z (an Z) (fun aa=>?_) (fun aa=>?_)
  ·refine Q3 3 Z<|bj Z (RC Z Z Z) (fun _=>Z) (mz W _ aq) (fun U aq=>?_);refine QE 4 Z<|aE<|av (?_);exact aB Z Z ⟨cJ (by unfold iI;simp only[u,ct,cf];simp only[bd];simp only[aa,ct,cf]),aq⟩
  refine Q3 3 Z<|bj Z (RC Z Z Z) (fun _=>Z) (mz W _ aq) (fun U aq=>?_);refine QE 4 Z<|aE<|av (?_);exact aB Z Z ⟨cJ (by unfold iI;simp only[u,ct,cf];simp only[bd];simp only[aa,ct,cf]),aq⟩
 refine P1 6 Z<|ky Z (az Z Z Z) (fun z=>?_) (fun z=>?_)
 ·refine P1 8 Z<|ky Z (an Z) (fun ab=>?_) (fun ab=>?_)
  ·refine Q3 3 Z<|bj Z (RC Z Z Z) (fun _=>Z) (mz W _ aq) (fun U aq=>?_);refine QE 4 Z<|aE<|av (?_);exact aB Z Z ⟨cJ (by unfold iI;simp only[u,z,ct,cf];simp only[bd];simp only[ab,ct,cf]),aq⟩
  refine Q3 3 Z<|bj Z (RC Z Z Z) (fun _=>Z) (mz W _ aq) (fun U aq=>?_);refine QE 4 Z<|aE<|av (?_);exact aB Z Z ⟨cJ (by unfold iI;simp only[u,z,ct,cf];simp only[bd];simp only[ab,ct,cf]),aq⟩
 refine P1 6 Z<|ky Z (az Z Z Z) (fun A=>?_) (fun A=>?_)
 ·refine P1 9 Z<|bj Z (RC Z Z Z) (fun _=>Z) (mz W _ aq) (fun U aq=>?_);refine QE 4 Z<|aE<|av (?_);exact aB Z Z ⟨cJ (by unfold iI;simp only[u,z,A,ct,cf]<;>rfl),aq⟩
 refine P1 6 Z<|ky Z (az Z Z Z) (fun C=>?_) (fun C=>?_)
 ·refine P1 9 Z<|bj Z (RC Z Z Z) (fun _=>Z) (mz W _ aq) (fun U aq=>?_);refine QE 4 Z<|aE<|av (?_);exact aB Z Z ⟨cJ (by unfold iI;simp only[u,z,A,C,ct,cf]<;>rfl),aq⟩
 refine P1 6 Z<|ky Z (az Z Z Z) (fun E=>?_) (fun E=>?_)
 ·refine P1 9 Z<|bj Z (RC Z Z Z) (fun _=>Z) (mz W _ aq) (fun U aq=>?_);refine QE 4 Z<|aE<|av (?_);exact aB Z Z ⟨cJ (by unfold iI;simp only[u,z,A,C,E,ct,cf]<;>rfl),aq⟩
 refine P1 6 Z<|ky Z (az Z Z Z) (fun F=>?_) (fun F=>?_)
 ·refine P1 9 Z<|bj Z (RC Z Z Z) (fun _=>Z) (mz W _ aq) (fun U aq=>?_);refine QE 4 Z<|aE<|av (?_);exact aB Z Z ⟨cJ (by unfold iI;simp only[u,z,A,C,E,F,ct,cf]<;>rfl),aq⟩
 refine P1 6 Z<|ky Z (az Z Z Z) (fun M=>?_) (fun M=>?_)
 ·refine P1 9 Z ?_;refine O Z (ew (j:=.u64) (k:=.i64) Y Y Y Z) Z ?_;refine QE 4 Z<|aE<|av (?_);exact aB Z Z ⟨cJ (by unfold iI;simp only[u,z,A,C,E,F,M,ct,cf]<;>rfl),aq⟩
 refine P1 6 Z<|ky Z (az Z Z Z) (fun Q=>?_) (fun Q=>?_)
 ·refine P1 9 Z ?_;refine O Z (ew (j:=.u64) (k:=.i64) Y Y Y Z) Z ?_;refine QE 4 Z<|aE<|av (?_);exact aB Z Z ⟨cJ (by unfold iI;simp only[u,z,A,C,E,F,M,Q,ct,cf]<;>rfl),aq⟩
 refine P1 6 Z<|ky Z (az Z Z Z) (fun R=>?_) (fun R=>?_)
 ·refine P1 9 Z ?_;refine O Z (ew (j:=.u64) (k:=.i64) Y Y Y Z) Z ?_;refine QE 4 Z<|aE<|av (?_);exact aB Z Z ⟨cJ (by unfold iI;simp only[u,z,A,C,E,F,M,Q,R,ct,cf]<;>rfl),aq⟩
 refine P1 6 Z<|ky Z (az Z Z Z) (fun X=>?_) (fun X=>?_)
 ·refine P1 9 Z ?_;refine O Z (ew (j:=.u64) (k:=.i64) Y Y Y Z) Z ?_;refine QE 4 Z<|aE<|av (?_);exact aB Z Z ⟨cJ (by unfold iI;simp only[u,z,A,C,E,F,M,Q,R,X,ct,cf]<;>rfl),aq⟩
 refine P1 6 Z<|ky Z (az Z Z Z) (fun ac=>?_) (fun ac=>?_)
 ·refine P1 9 Z ?_;refine O Z (ew (j:=.u64) (k:=.i64) Y Y Y Z) Z ?_;refine QE 4 Z<|aE<|av (?_);exact aB Z Z ⟨cJ (by unfold iI;simp only[u,z,A,C,E,F,M,Q,R,X,ac,ct,cf]<;>rfl),aq⟩
 refine P2 6 Z<|QA 5 Z ?_;refine O Z (ew (j:=.u64) (k:=.i64) Y Y Y Z) Z ?_;refine QE 4 Z ?_;exact aB Z Z ⟨cJ (by unfold iI;simp only[u,z,A,C,E,F,M,Q,R,X,ac,ct,cf]<;>rfl),aq⟩
theorem QU {G:Cx} (hG:Plain G) {K:H} {l:List Int} {v:V} (hl:bJ K 1 cz l v) (op:Int) {U:I} {L:Own} (aq:J U K L):bm Tryz.prog G 168 [.int .i64 op,v] U fun v U'=>v= .tuple [.int .i64 (jn op l).1,.int .i64 (jn op l).2]/\J U' K L:=by
 refine QX hG Tryz.func168 Z<|PU 8 Z<|QA 4 Z<|ky Z (an Z) (fun h9=>?_) (fun h9=>?_)
 ·refine Q3 5 Z<|O Z (RG hl Z Z Z (e:=2) Z) Z<|QC 5 Z<|aD Z (fun h6=>?_) (fun h6=>?_)
  ·refine QA 4 Z ?_;obtain⟨aK,M⟩:=cq (show 0<l.length from by have:=iJ_ (eqv (b:=.ofNat 1) h6);omega);refine Rx (e:=2) (m:=1) hl M Z Z Z Z (fun a5 a0 aa a1 ab=>?_);obtain rfl:=ab;refine O Z (RI aq aa Z Z) Z<|bj Z (RC Z Z Z) (fun _=>Z) (NA hG _ _ aq) (fun U aq=>?_);refine QE 5 Z<|aE<|av (?_);exact bU Z Z Z ⟨by rw[show jn op l=(qc op aK,0) from by unfold jn;simp only[bd];simp only[h9,h6,ct];rw[M]<;>rfl],aq⟩
  refine QA 4 Z<|ky Z (an Z) (fun u=>?_) (fun u=>?_)
  ·refine Q3 3 Z<|ky Z (an Z) (fun z=>?_) (fun z=>?_)
   ·refine vQ 1 Z<|O Z (RG hl Z Z Z (e:=2) Z) Z<|QC 5 Z<|aD Z (fun A=>?_) (fun A=>?_)
    ·refine ak<|aS (l:=zp [0,1,2,3,4,5,6,7,8,9]) Y Y<|Q5 2 Z ?_;have a2:l.length=2:=iJ_ (eqv (b:=.ofNat 2) A);obtain⟨ac,C⟩:=cq (show 0<l.length from by omega);obtain⟨ae,E⟩:=cq (show 1<l.length from by omega);refine Ry (e:=2) (m:=1) hl C Z Z Z Z Z (fun a3 am Q ao R=>?_);obtain rfl:=R;refine al Z Z (RI aq Q Z Z) Z<|wQ 1 Z<|Ry (e:=2) (m:=1) hl E Z Z Z Z Z (fun a4 ap W ar X=>?_);obtain rfl:=X;refine al Z Z (RI aq W Z Z) Z<|cy Z Z (RC Z Z Z) (fun _=>Z) (K8 hG _ _ _ aq) (fun U aq=>?_);refine⟨aT,?_⟩;refine QG 5 Z<|aE<|av (?_);exact bU Z Z Z ⟨by rw[show jn op l=(iI op ac ae,0) from by unfold jn;simp only[bd];simp only[h9,h6,u,z,A,ct,cf];rw[C,E]<;>rfl],aq⟩
    refine aG<|aI<|Q1 7 Z ?_;exact bU Z Z Z ⟨by rw[show jn op l=(0,2) from by unfold jn;simp only[bd];simp only[h9,h6,u,z,A,ct,cf]]<;>rfl,aq⟩
   refine P2 10 Z<|Q1 7 Z ?_;exact bU Z Z Z ⟨by rw[show jn op l=(0,2) from by unfold jn;simp only[bd];simp only[h9,h6,u,z,ct,cf]]<;>rfl,aq⟩
  refine P2 14 Z<|Q1 7 Z ?_;exact bU Z Z Z ⟨by rw[show jn op l=(0,2) from by unfold jn;simp only[bd];simp only[h9,h6,u,ct,cf]]<;>rfl,aq⟩
 refine Q3 3 Z<|ky Z (an Z) (fun F=>?_) (fun F=>?_)
 ·refine vQ 1 Z<|O Z (RG hl Z Z Z (e:=2) Z) Z<|QC 5 Z<|aD Z (fun h6=>?_) (fun h6=>?_)
  ·refine QA 4 Z ?_;obtain⟨aK,M⟩:=cq (show 0<l.length from by have:=iJ_ (eqv (b:=.ofNat 1) h6);omega);refine Rx (e:=2) (m:=1) hl M Z Z Z Z (fun a5 a0 aa a1 ab=>?_);obtain rfl:=ab;refine O Z (RI aq aa Z Z) Z<|bj Z (RC Z Z Z) (fun _=>Z) (NA hG _ _ aq) (fun U aq=>?_);refine QE 5 Z<|aE<|av (?_);exact bU Z Z Z ⟨by rw[show jn op l=(qc op aK,0) from by unfold jn;simp only[bd];simp only[h9,F,h6,ct];rw[M]<;>rfl],aq⟩
  refine QA 4 Z<|ky Z (an Z) (fun u=>?_) (fun u=>?_)
  ·refine Q3 3 Z<|ky Z (an Z) (fun z=>?_) (fun z=>?_)
   ·refine vQ 1 Z<|O Z (RG hl Z Z Z (e:=2) Z) Z<|QC 5 Z<|aD Z (fun A=>?_) (fun A=>?_)
    ·refine ak<|aS (l:=zp [0,1,2,3,4,5,6,7,8,9]) Y Y<|Q5 2 Z ?_;have a2:l.length=2:=iJ_ (eqv (b:=.ofNat 2) A);obtain⟨ac,C⟩:=cq (show 0<l.length from by omega);obtain⟨ae,E⟩:=cq (show 1<l.length from by omega);refine Ry (e:=2) (m:=1) hl C Z Z Z Z Z (fun a3 am Q ao R=>?_);obtain rfl:=R;refine al Z Z (RI aq Q Z Z) Z<|wQ 1 Z<|Ry (e:=2) (m:=1) hl E Z Z Z Z Z (fun a4 ap W ar X=>?_);obtain rfl:=X;refine al Z Z (RI aq W Z Z) Z<|cy Z Z (RC Z Z Z) (fun _=>Z) (K8 hG _ _ _ aq) (fun U aq=>?_);refine⟨aT,?_⟩;refine QG 5 Z<|aE<|av (?_);exact bU Z Z Z ⟨by rw[show jn op l=(iI op ac ae,0) from by unfold jn;simp only[bd];simp only[h9,F,h6,u,z,A,ct,cf];rw[C,E]<;>rfl],aq⟩
    refine aG<|aI<|Q1 7 Z ?_;exact bU Z Z Z ⟨by rw[show jn op l=(0,2) from by unfold jn;simp only[bd];simp only[h9,F,h6,u,z,A,ct,cf]]<;>rfl,aq⟩
   refine P2 10 Z<|Q1 7 Z ?_;exact bU Z Z Z ⟨by rw[show jn op l=(0,2) from by unfold jn;simp only[bd];simp only[h9,F,h6,u,z,ct,cf]]<;>rfl,aq⟩
  refine P2 14 Z<|Q1 7 Z ?_;exact bU Z Z Z ⟨by rw[show jn op l=(0,2) from by unfold jn;simp only[bd];simp only[h9,F,h6,u,ct,cf]]<;>rfl,aq⟩
 refine P1 12 Z<|ky Z (an Z) (fun u=>?_) (fun u=>?_)
 ·refine Q3 3 Z<|ky Z (an Z) (fun z=>?_) (fun z=>?_)
  ·refine vQ 1 Z<|O Z (RG hl Z Z Z (e:=2) Z) Z<|QC 5 Z<|aD Z (fun A=>?_) (fun A=>?_)
   ·refine ak<|aS (l:=zp [0,1,2,3,4,5,6,7,8,9]) Y Y<|Q5 2 Z ?_;have a2:l.length=2:=iJ_ (eqv (b:=.ofNat 2) A);obtain⟨ac,C⟩:=cq (show 0<l.length from by omega);obtain⟨ae,E⟩:=cq (show 1<l.length from by omega);refine Ry (e:=2) (m:=1) hl C Z Z Z Z Z (fun a3 am Q ao R=>?_);obtain rfl:=R;refine al Z Z (RI aq Q Z Z) Z<|wQ 1 Z<|Ry (e:=2) (m:=1) hl E Z Z Z Z Z (fun a4 ap W ar X=>?_);obtain rfl:=X;refine al Z Z (RI aq W Z Z) Z<|cy Z Z (RC Z Z Z) (fun _=>Z) (K8 hG _ _ _ aq) (fun U aq=>?_);refine⟨aT,?_⟩;refine QG 5 Z<|aE<|av (?_);exact bU Z Z Z ⟨by rw[show jn op l=(iI op ac ae,0) from by unfold jn;simp only[bd];simp only[h9,F,u,z,A,ct,cf];rw[C,E]<;>rfl],aq⟩
   refine aG<|aI<|Q1 7 Z ?_;exact bU Z Z Z ⟨by rw[show jn op l=(0,2) from by unfold jn;simp only[bd];simp only[h9,F,u,z,A,ct,cf]]<;>rfl,aq⟩
  refine P2 10 Z<|Q1 7 Z ?_;exact bU Z Z Z ⟨by rw[show jn op l=(0,2) from by unfold jn;simp only[bd];simp only[h9,F,u,z,ct,cf]]<;>rfl,aq⟩
 refine P2 14 Z<|Q1 7 Z ?_;exact bU Z Z Z ⟨by rw[show jn op l=(0,2) from by unfold jn;simp only[bd];simp only[h9,F,u,ct,cf]]<;>rfl,aq⟩
theorem OG {G:Cx} (hG:Plain G) {K:H} {s:List Nat} {n:Nat} (hs:iT s=some n) {U:I} {L:Own} (aq:J U K L):bm Tryz.prog G 223 [.str s] U fun v U'=>v= .tuple [.int .i64 (.ofNat n),.nilIface]/\J U' K L:=by
 obtain⟨aa,ap,A⟩:=yj hs;have aK:cY s=s.length:=bP s;obtain⟨c0,z⟩:=cq aa;have hd0:=(Jj (i:=0) A z).1;refine QX hG Tryz.func223 Z<|QA 9 Z<|O Z (iv Z Z Z Y Z) Z<|Pw 18 Z<|ky Z (an Z) (fun E=>?_) (fun E=>?_)
 ·refine QC 7 Z<|aD Z (fun F=>?_) (fun F=>?_)
  ·refine PV 10 Z<|O Z (fI Y Z Z z) Z<|vQ 1 Z<|ky Z (an Z) (fun M=>?_) (fun M=>?_)
   ·exact absurd (iJ_<|eqv (b:=.ofNat 45) M) B
   refine vQ 1 Z<|O Z (fI Y Z Z z) Z<|QC 4 Z<|aD Z (fun Q=>?_) (fun Q=>?_)
   ·exact absurd (iJ_<|eqv (b:=.ofNat 43) Q) B
   refine Pu 11 Z<|Kd aq Z (Nf (e:=5) Y Y Y Y Y Z) (fun _=>Z) (fun U b1 aq=>?_);refine O Z (ss Z Z Z (e:=5) Y Z) Z<|PZ 4 Z ?_;obtain⟨LL1,aq,hLL1⟩:=aq.named;refine bp ([2,3,6,8]++rg 49 15) (fun j t U=>∃(i m:Nat),j+i=cY s/\nR (s.drop i) m=some n/\m<10 ^ i/\i<=4/\t.get 6=some (.int .i64 (.ofNat m))/\t.get 49=some (.int .i64 (.ofNat i))/\J U K LL1) (cY s) ⟨0,0,Z,A,Nat.one_pos,Nat.zero_le _,Z,Z,aq⟩ ?_;clear aq;intro ab t U ar hI;obtain⟨i,m,hj,he,hm,ac,ae,R,aq⟩:=hI;subst hLL1;obtain⟨oo,rfl⟩:=ar.q2 ae R Z;refine Qz 6 Z<|aD Z (fun u=>?_) (fun u=>?_)
   ·refine OS 6 Z ?_;obtain⟨am,C⟩:=cq (show i<s.length from by have:=bk u;omega);obtain⟨hd,ao⟩:=Jj he C;refine O Z (dD (e:=5) (m:=1) Y Y Z Z<|bk u) Z<|O Z (ay Z aq.g0 Y<|fR C (by first | omega | rfl)) Z<|P0 17 Z<|aD Z (fun W=>?_) (fun W=>?_)
    ·exact absurd (W.symm.trans<|N0 hd) (by decide)
    refine aG<|ad<|ai Z<|Q3 3 Z ?_;refine O Z (ew (j:=.u8) (k:=.i64) Y Y Y Z) Z ?_;refine Q2 3 Z (aI (Q0 4 Z (aM ⟨ab-1,by have:=bk u;omega,oF,i+1,10*m+(am-48),by have:=bk u;omega,ao,by rw[Nat.pow_succ];omega,by have:=bk u;omega,cI<|Jk hd (by have:=yb i ac;omega),cI<|bg B,aq⟩)))
   refine PY 3 Z<|aU<|PV 4 Z<|O Z (fI Y Z Z z) Z<|QC 3 Z<|aD Z (fun X=>?_) (fun X=>?_)
   ·exact absurd (iJ_<|eqv (b:=.ofNat 45) X) B
   refine QB 10 Z<|av (?_);exact bU Z Z Z ⟨by rw[show m=n from by rw[qn (by have:=br u;omega)] at he;exact Option.some.inj he],aq.pop⟩
  exact absurd (br (b:=19) F) B
 exact absurd (br (a:=0) E) B
theorem Oy {G:Cx} (u:Plain G) {K:H} {s:List Nat} {n:Nat} (z:iT s=some n) {U:I} {L:Own} (aq:J U K L):bm Tryz.prog G 167 [.str s] U fun v U'=>v= .tuple [.int .i64 (.ofNat n),.nilIface]/\J U' K L:=by
 refine QX u Tryz.func167 Z<|QA 9 Z<|bj Z (RC Z Z Z) (fun _=>Z) (OG u z aq) (fun U aq=>?_);refine Pw 11 Z ?_;refine O Z (bf (v:=.bool false) Z Y) Z ?_;refine P3 13 Z ?_;exact bU Z Z Z ⟨Z,aq⟩
theorem vL {bc:Int} {k:Nat} {op num:Int} {name:List Nat} {kids:List XE} (h:eo bc (k+1) (.mk op num name kids)=true) (h1:D op 1=false) (A:D op 2=false):kids.length<=2/\∀x∈kids,eo bc k x=true:=by
 unfold eo at h;rw[h1,A] at h;simp only[cf] at h;generalize aa:(bif (bif D op 3 then true else D op 4) then false else(bif bR op 5 then true else bR 16 op))=C at h;cases C with
 | true=>cases h
 | false=>
  simp only[cf] at h;generalize u:(bif bd (D num 0) then true else bif bd (gY name []) then true else bd (D (.ofNat kids.length)<|ga op))=E at h;cases E with
  | true=>cases h
  | false=>
   simp only[cf] at h;refine⟨?_,aE_.1 h⟩;cases e1:bd (D num 0) with
   | true=>rw[e1] at u;cases u
   | false=>
   cases z:bd (gY name []) with
   | true=>rw[e1,z] at u;cases u
   | false=>
   rw[e1,z] at u;have h3:(kids.length:Int)=ga op:=eqv (bn u);have h4:ga op<=2:=by unfold ga;generalize (bif D op 3 then true else D op 4)=q;cases q<;>decide
   omega
theorem yr {bc:Int} {k:Nat} {op num:Int} {name:List Nat} {kids:List XE} (h:eo bc (k+1) (.mk op num name kids)=true) (h1:D op 1=false) (z:D op 2=true):∃n,iT name=some n/\(n:Int)<bc:=by
 unfold eo at h;rw[h1,z] at h;simp only[cf,ct] at h;cases u:iT name with
 | none=>rw[u] at h;cases h
 | some n=>
  rw[u] at h;dsimp only at h;refine⟨n,Z,?_⟩;cases hl:bR (.ofNat n) bc with
  | false=>rw[hl] at h;cases h
  | true=>rw[fo,decide_eq_true_iff] at hl;exact hl
theorem BM {G:Cx} (hG:Plain G) {K:H} {bc:List Int} {rn:Int} (a6:rn<=bc.length) {regv:V} (X:bJ K 1 cz bc regv) {tb et:Nat} {ro:Bool} {c0 c1 c2 c4 c5 c6 c7:V} (ht:K tb (.row [c0,c1,c2,regv,c4,c5,c6,c7] et ro)):
  ∀(k:Nat) (x:XE) (vs:List V),eE K k x vs->eo rn k x=true->∀(U:I) (L:Own),J U K L->bm Tryz.prog G 116 [.ptr tb 0,.agg vs] U fun v U'=>v= .int .i64 (eQ bc k x)/\J U' K L:=by
 intro k;induction k with
 | zero=>intro x vs h;cases x;exact h.elim
 | succ k ih=>
 intro x vs h hr U L aq;obtain⟨op,num,name,kids⟩:=x;obtain⟨v,rfl,hk⟩:=h;have hS:eQ bc (k+1) (.mk op num name kids)=bif D op 1 then num else bif D op 2 then(bc[(iT name).getD 0]?).getD 0 else Qn op (kids.map<|eQ bc k):=rfl;rw[hS];clear hS;obtain⟨F,hF⟩:∃F:XE->Int,F=eQ bc k:=⟨_,Z⟩;rw[<-hF];refine QX hG Tryz.func116 Z<|QA 2 Z<|kp aq Z (cA Z Z) (fun U b1 aq=>?_);refine P9 aq 10 [0,0] Z Z<|aO<|QA 2 Z<|ky Z (az Z Z Z) (fun A=>?_) (fun A=>?_)
 ·refine QL aq 12 [1,0] Z Z<|aE<|av (?_);exact aB Z Z ⟨cJ (by rw[A];rfl),aq.pop⟩
 refine P1 6 Z<|ky Z (az Z Z Z) (fun C=>?_) (fun C=>?_)
 ·refine Qa aq 8 [2,0] Z Z ?_;obtain⟨rg,aa,a0⟩:=yr hr A C;refine bj Z (RC Z Z Z) (fun _=>Z) (Oy hG aa aq) (fun U aq=>?_);refine P1 10 Z<|O Z (fh Z) Z<|O Z (RD 3 Z) Z<|O Z (RE Z (aq.fx ht) Z) Z<|vQ 1 Z ?_;obtain⟨ap,R⟩:=cq (show rg<bc.length from by omega);refine Rx (e:=2) (m:=1) X R Z Z Z Z (fun a7 a1 ab a2 ac=>?_);obtain rfl:=ac;refine O Z (RI aq ab Z Z) Z<|QE 4 Z<|aE<|av (?_);exact aB Z Z ⟨cJ (by rw[A,C,aa];show ap=(bc[rg]?).getD 0;rw[R];rfl),aq.pop⟩
 refine P2 6 Z<|QH aq 4 [3,0] Z Z<|O Z (RG hk Z Z Z (e:=82) Z) Z ?_;obtain⟨a8,aK⟩:=vL hr A C;refine gD aq Z (gj (e:=2) (w:=8) (z:=[gZ 0]) Y Y Y Y Z Z B B) (fun _=>Z) (fun U b2 aq=>?_);rw[gM (f:=gZ)] at aq;rw[<-xm F kids] at aq;refine Pz aq 8 [3,1] Z Z (O Z (RG hk Z Z Z (e:=82) Z) Z (PZ 4 Z (bp ([8,9]++rg 40 12) (fun j t U=>∃(i:Nat),j+i=kids.length/\t.get 40=some (.int .i64 (.ofNat i))/\J U K ((b2,.row ((nA F kids i).map gZ) 2 false)::(b1,.row [.int .i64 op,.int .i64 num,.str name,v] 82 false)::L)) (kids.length) ⟨0,Z,Z,aq⟩ ?_)));clear aq;intro j9 t U ar hI;obtain⟨i,a9,ae,aq⟩:=hI;obtain⟨oo,rfl⟩:=ar.q1 ae Z;refine QA 2 Z<|ky Z (az Z Z Z) (fun u=>?_) (fun u=>?_)
 ·refine OT 11 Z ?_;obtain⟨E,Q,a3⟩:=cE u;refine Rx (e:=82) (m:=4) hk Q Z Z Z Z (fun bb a4 am a5 W=>?_);have hr43raw:=W;obtain⟨be,bi,bl,bo,rfl,ao⟩:=W.shape;refine O Z (RJ aq am Z Z) Z<|kp aq Z (cg (cs:=[T,T,.str [],.au]) Y Y) (fun U b3 aq=>?_);refine vQ 1 Z<|bF aq Z (RK Z Z Z aq.g0 (m:=4) Z (N Z<|N Z<|N Z<|N ao.leaf.2 aA) (cells':=[_,_,_,_]) Z) Z (fun U aq=>?_);refine QD 6 Z<|O Z (RF Z aq.g0 (n:=4) (vs:=[_,_,_,_]) Z) Z<|bj Z (RC Z Z Z) (fun _=>Z) (ih E _ hr43raw (aK E<|gB_ Q) _ _ aq) (fun U aq=>?_);refine O Z (dD (e:=2) (m:=1) Y Y Z Z<|bk u) Z ?_;refine cw aq (.there .here) Z (aJ Z Z (show _=some [gZ<|F E] from by rw[hF];rfl) aq.g1 (m:=1) Y Z (by rw[lM_];rw[rq (by have:=bk u;omega)];have:=bk u;omega) Z (cells':=((nA F kids i).set i<|F E).map (gZ)) (ef (f:=gZ) (v:=(F E)) (by rw[rq (by have:=bk u;omega)];exact bk u) (by first | omega | rfl))) Z (fun U aq=>?_);rw[zJ Q] at aq;refine af<|aI<|Q0 4 Z ?_;have aq:=aq.pop;refine aM ⟨j9-1,by omega,oF,i+1,by omega,cI<|bg (by have:=hk.bG;omega),aq⟩
 refine P0 4 Z<|PY 3 Z<|aU<|QH aq 5 [0,1] Z Z ?_;rw[zI<|br u] at aq;have hq:=aq.keeps (M:=[_]);refine bj Z (aQ Z Z (show _=some [V.int .i64 op,V.slice b2 0 (kids.map F).length (.known (kids.map F).length)] from by rw[lM_];rfl) Y) (fun _=>Z) (Er<|QU hG (fm (xs:=kids.map F) (H.gP 0 Z) (by rw[lM_];omega)) op hq) (fun U aq=>?_);clear hq;refine QE 14 Z ?_;exact aB Z Z ⟨cJ (by rw[A,C];rfl),aq.pop⟩
theorem Hy {G:Cx} (E:Plain G) {K:H} {k:Nat} {c:XC} {cv:V} (hi:bJ K 6 (gp K k) c.ins cv) (C:lC k c) (M:r4 k c) {U:I} {L:Own} (aq:J U K L):
  bm Tryz.prog G 157 [.agg [.int .i64 c.bc,cv]] U fun v U'=>∃z,v= .int .i64 z/\(bif bR z 0 then false else true)=gU k c/\J U' K L:=by
 refine QX E Tryz.func157 Z<|QA 2 Z<|kp aq Z (cA Z Z) (fun U b1 aq=>?_);refine Pw 6 Z<|O Z (RF Z aq.g0 (n:=2) (vs:=[_,_]) Z) Z<|bj Z (RC Z Z Z) (fun _=>Z) (wW E hi C M aq) (fun U aq=>?_);refine QC 3 Z<|aD Z (fun F=>?_) (fun F=>?_)
 ·refine QB 7 Z ?_;exact aB Z Z ⟨_,Z,by show _=(bif bd (D (cS k c) 0) then false else(eF c).isSome);rw[<-g8 C];rw[bN F];rfl,aq.pop⟩
 refine PX 4 Z<|O Z (RF Z aq.g0 (n:=2) (vs:=[_,_]) Z) Z ?_;have u:cS k c=0:=by rw[<-g8 C];exact eqv<|bn F
 have hok:=ph u;refine cd Z (RC Z Z Z) (fun _=>Z) (EE E hok u C M hi aq) ?_;rintro _ U ⟨r,Q,rfl,aq⟩;refine Pw 11 Z<|O Z (cT Z) Z<|QC 2 Z<|aD Z (fun A=>?_) (fun A=>?_)
 ·refine QB 7 Z ?_;exact aB Z Z ⟨_,Z,by show _=(bif bd (D (cS k c) 0) then false else(eF c).isSome);rw[u,<-CK hok Q];show _=(bif false then false else _);rw[show(iK (dW c) (fun _=>1) r c.ins.length (c.ins.length+2)<|List.replicate c.ins.length 0).2=false from ju A];rfl,aq.pop⟩
 refine QB 9 Z ?_;exact aB Z Z ⟨_,Z,by show _=(bif bd (D (cS k c) 0) then false else(eF c).isSome);rw[u,<-CK hok Q];show _=(bif false then false else _);rw[show(iK (dW c) (fun _=>1) r c.ins.length (c.ins.length+2)<|List.replicate c.ins.length 0).2=true from eU A,show∀q:Nat,bR (.ofNat q) 0=false from fun q=>vY.2 (show(0:Int)<=Int.ofNat q from Int.natCast_nonneg q)],aq.pop⟩
theorem EC {G:Cx} (u:Plain G) {K:H} {k:Nat} {c:XC} {cv:V} (hi:bJ K 6 (gp K k) c.ins cv) (A:lC k c) (C:r4 k c) {U:I} {L:Own} (aq:J U K L):
  bm Tryz.prog G 103 [.agg [.int .i64 c.bc,cv]] U fun v U'=>v= .bool (gU k c)/\J U' K L:=by
 refine QX u Tryz.func103 Z<|QA 2 Z<|kp aq Z (cA Z Z) (fun U b1 aq=>?_);refine P1 5 Z<|O Z (RF Z aq.g0 (n:=2) (vs:=[_,_]) Z) Z<|cd Z (RC Z Z Z) (fun _=>Z) (Hy u hi A C aq) ?_;rintro _ U ⟨z,rfl,E,aq⟩;refine QE 5 Z ?_;exact aB Z Z ⟨cB E,aq.pop⟩
theorem lj {G:Cx} (z:Plain G) {K:H} (b:Bool) {U:I} {L:Own} (aq:J U K L):bm Tryz.prog G 263 [.bool b] U fun v U'=>v= .int .i64 (pS b)/\J U' K L:=by
 refine QX z Tryz.func263 Z<|Qz 11 Z<|aD Z (fun u=>?_) (fun u=>?_)
 ·refine QB 7 Z ?_;exact aB Z Z ⟨by rw[u];rfl,aq⟩
 refine QB 8 Z ?_;exact aB Z Z ⟨by rw[u];rfl,aq⟩
theorem Jh {G:Cx} (W:Plain G) {K:H} (op a b:Int) {U:I} {L:Own} (aq:J U K L):bm Tryz.prog G 264 [.int .i64 op,.int .i64 a,.int .i64 b] U fun v U'=>v= .int .i64 (iI op a b)/\J U' K L:=by
 refine QX W Tryz.func264 Z<|PU 12 Z<|QA 2 Z<|ky Z (az Z Z Z) (fun F=>?_) (fun F=>?_)
 ·refine P1 8 Z<|ky Z (an Z) (fun aa=>?_) (fun aa=>?_)
  ·refine Q3 3 Z<|bj Z (RC Z Z Z) (fun _=>Z) (lj W _ aq) (fun U aq=>?_);refine QE 4 Z<|aE<|av (?_);exact aB Z Z ⟨cJ (by unfold iI;simp only[F,ct,cf];simp only[bd];simp only[aa,ct,cf]),aq⟩
  refine Q3 3 Z<|bj Z (RC Z Z Z) (fun _=>Z) (lj W _ aq) (fun U aq=>?_);refine QE 4 Z<|aE<|av (?_);exact aB Z Z ⟨cJ (by unfold iI;simp only[F,ct,cf];simp only[bd];simp only[aa,ct,cf]),aq⟩
 refine P1 6 Z<|ky Z (az Z Z Z) (fun u=>?_) (fun u=>?_)
 ·refine P1 8 Z<|ky Z (an Z) (fun ab=>?_) (fun ab=>?_)
  ·refine Q3 3 Z<|bj Z (RC Z Z Z) (fun _=>Z) (lj W _ aq) (fun U aq=>?_);refine QE 4 Z<|aE<|av (?_);exact aB Z Z ⟨cJ (by unfold iI;simp only[F,u,ct,cf];simp only[bd];simp only[ab,ct,cf]),aq⟩
  refine Q3 3 Z<|bj Z (RC Z Z Z) (fun _=>Z) (lj W _ aq) (fun U aq=>?_);refine QE 4 Z<|aE<|av (?_);exact aB Z Z ⟨cJ (by unfold iI;simp only[F,u,ct,cf];simp only[bd];simp only[ab,ct,cf]),aq⟩
 refine P1 6 Z<|ky Z (az Z Z Z) (fun z=>?_) (fun z=>?_)
 ·refine P1 9 Z<|bj Z (RC Z Z Z) (fun _=>Z) (lj W _ aq) (fun U aq=>?_);refine QE 4 Z<|aE<|av (?_);exact aB Z Z ⟨cJ (by unfold iI;simp only[F,u,z,ct,cf]<;>rfl),aq⟩
 refine P1 6 Z<|ky Z (az Z Z Z) (fun A=>?_) (fun A=>?_)
 ·refine P1 9 Z<|bj Z (RC Z Z Z) (fun _=>Z) (lj W _ aq) (fun U aq=>?_);refine QE 4 Z<|aE<|av (?_);exact aB Z Z ⟨cJ (by unfold iI;simp only[F,u,z,A,ct,cf]<;>rfl),aq⟩
 refine P1 6 Z<|ky Z (az Z Z Z) (fun C=>?_) (fun C=>?_)
 ·refine P1 9 Z<|bj Z (RC Z Z Z) (fun _=>Z) (lj W _ aq) (fun U aq=>?_);refine QE 4 Z<|aE<|av (?_);exact aB Z Z ⟨cJ (by unfold iI;simp only[F,u,z,A,C,ct,cf]<;>rfl),aq⟩
 refine P1 6 Z<|ky Z (az Z Z Z) (fun E=>?_) (fun E=>?_)
 ·refine P1 9 Z<|bj Z (RC Z Z Z) (fun _=>Z) (lj W _ aq) (fun U aq=>?_);refine QE 4 Z<|aE<|av (?_);exact aB Z Z ⟨cJ (by unfold iI;simp only[F,u,z,A,C,E,ct,cf]<;>rfl),aq⟩
 refine P1 6 Z<|ky Z (az Z Z Z) (fun M=>?_) (fun M=>?_)
 ·refine QE 13 Z<|aE<|av (?_);exact aB Z Z ⟨cJ (by unfold iI;simp only[F,u,z,A,C,E,M,ct,cf];exact AD _ _ _),aq⟩
 refine P1 6 Z<|ky Z (az Z Z Z) (fun Q=>?_) (fun Q=>?_)
 ·refine QE 13 Z<|aE<|av (?_);exact aB Z Z ⟨cJ (by unfold iI;simp only[F,u,z,A,C,E,M,Q,ct,cf];exact AD _ _ _),aq⟩
 refine P1 6 Z<|ky Z (az Z Z Z) (fun R=>?_) (fun R=>?_)
 ·refine QE 13 Z<|aE<|av (?_);exact aB Z Z ⟨cJ (by unfold iI;simp only[F,u,z,A,C,E,M,Q,R,ct,cf];exact AD _ _ _),aq⟩
 refine P1 6 Z<|ky Z (az Z Z Z) (fun X=>?_) (fun X=>?_)
 ·refine P1 7 Z ?_;refine O Z (ew (j:=.i64) (k:=.u64) Y Y Y Z) Z ?_;refine vQ 1 Z ?_;refine O Z (ew (j:=.i64) (k:=.u64) Y Y Y Z) Z ?_;refine vQ 1 Z ?_;refine O Z (ew (j:=.u64) (k:=.i64) Y Y Y Z) Z ?_;refine QE 4 Z<|aE<|av (?_);exact aB Z Z ⟨cJ (by unfold iI;simp only[F,u,z,A,C,E,M,Q,R,X,ct,cf]<;>rfl),aq⟩
 refine P1 6 Z<|ky Z (az Z Z Z) (fun ac=>?_) (fun ac=>?_)
 ·refine P1 7 Z ?_;refine O Z (ew (j:=.i64) (k:=.u64) Y Y Y Z) Z ?_;refine vQ 1 Z ?_;refine O Z (ew (j:=.i64) (k:=.u64) Y Y Y Z) Z ?_;refine vQ 1 Z ?_;refine O Z (ew (j:=.u64) (k:=.i64) Y Y Y Z) Z ?_;refine QE 4 Z<|aE<|av (?_);exact aB Z Z ⟨cJ (by unfold iI;simp only[F,u,z,A,C,E,M,Q,R,X,ac,ct,cf]<;>rfl),aq⟩
 refine P2 6 Z<|QA 3 Z ?_;refine O Z (ew (j:=.i64) (k:=.u64) Y Y Y Z) Z ?_;refine vQ 1 Z ?_;refine O Z (ew (j:=.i64) (k:=.u64) Y Y Y Z) Z ?_;refine vQ 1 Z ?_;refine O Z (ew (j:=.u64) (k:=.i64) Y Y Y Z) Z ?_;refine QE 4 Z ?_;exact aB Z Z ⟨cJ (by unfold iI;simp only[F,u,z,A,C,E,M,Q,R,X,ac,ct,cf]<;>rfl),aq⟩
theorem Ql {G:Cx} (hG:Plain G) {K:H} {l:List Int} {v:V} (hl:bJ K 1 cz l v) (op:Int) {U:I} {L:Own} (aq:J U K L):bm Tryz.prog G 236 [.int .i64 op,v] U fun v U'=>v= .tuple [.int .i64 (jn op l).1,.int .i64 (jn op l).2]/\J U' K L:=by
 refine QX hG Tryz.func236 Z<|PV 11 Z<|ky Z (an Z) (fun R=>?_) (fun R=>?_)
 ·refine Q3 5 Z<|O Z (RG hl Z Z Z (e:=2) Z) Z<|QC 4 Z<|aD Z (fun u=>?_) (fun u=>?_)
  ·refine Qz 7 Z<|aD Z (fun M=>?_) (fun M=>?_)
   ·refine QA 3 Z ?_;obtain⟨am,W⟩:=cq (show 0<l.length from by have:=iJ_ (eqv (b:=.ofNat 1) u);omega);refine Rx (e:=2) (m:=1) hl W Z Z Z Z (fun bl a7 ao a8 ap=>?_);obtain rfl:=ap;refine O Z (RI aq ao Z Z) Z ?_;refine O Z (ew (j:=.i64) (k:=.u64) Y Y Y Z) Z ?_;refine vQ 1 Z ?_;refine O Z (ew (j:=.u64) (k:=.i64) Y Y Y Z) Z ?_;refine QE 5 Z<|av<|av (?_);exact bU Z Z Z ⟨by rw[show jn op l=(qc op am,0) from by unfold jn;simp only[bd];simp only[R,u,M,ct];rw[W]<;>rfl];show _=V.tuple [.int .i64<|qc op am,_];unfold qc;rw[show D op 3=true from M];rfl,aq⟩
   refine PX 5 Z ?_;obtain⟨ar,X⟩:=cq (show 0<l.length from by have:=iJ_ (eqv (b:=.ofNat 1) u);omega);refine Rx (e:=2) (m:=1) hl X Z Z Z Z (fun bo a9 aK bb a0=>?_);obtain rfl:=a0;refine O Z (RI aq aK Z Z) Z<|vQ 1 Z<|bj Z (RC Z Z Z) (fun _=>Z) (lj hG _ aq) (fun U aq=>?_);refine P3 6 Z ?_;exact bU Z Z Z ⟨by rw[show jn op l=(qc op ar,0) from by unfold jn;simp only[bd];simp only[R,u,M,ct];rw[X]<;>rfl];show _=V.tuple [.int .i64<|qc op ar,_];unfold qc;rw[show D op 3=false from M];rfl,aq⟩
  refine Pu 7 Z<|ky Z (an Z) (fun z=>?_) (fun z=>?_)
  ·refine Q3 3 Z<|ky Z (an Z) (fun A=>?_) (fun A=>?_)
   ·refine vQ 1 Z<|O Z (RG hl Z Z Z (e:=2) Z) Z<|QC 4 Z<|aD Z (fun C=>?_) (fun C=>?_)
    ·refine ak<|aS (l:=zp [0,1,2,3,4,5,6,7,8,9]) Y Y<|Q5 2 Z ?_;have bc:l.length=2:=iJ_ (eqv (b:=.ofNat 2) C);obtain⟨a1,E⟩:=cq (show 0<l.length from by omega);obtain⟨a2,F⟩:=cq (show 1<l.length from by omega);refine Ry (e:=2) (m:=1) hl E Z Z Z Z Z (fun be a3 aa a4 ab=>?_);obtain rfl:=ab;refine al Z Z (RI aq aa Z Z) Z<|wQ 1 Z<|Ry (e:=2) (m:=1) hl F Z Z Z Z Z (fun bi a5 ac a6 ae=>?_);obtain rfl:=ae;refine al Z Z (RI aq ac Z Z) Z<|cy Z Z (RC Z Z Z) (fun _=>Z) (Jh hG _ _ _ aq) (fun U aq=>?_);refine⟨aT,?_⟩;refine P6 6 Z ?_;exact bU Z Z Z ⟨by rw[show jn op l=(iI op a1 a2,0) from by unfold jn;simp only[bd];simp only[R,u,z,A,C,ct,cf];rw[E,F]<;>rfl],aq⟩
    refine QB 9 Z ?_;exact bU Z Z Z ⟨by rw[show jn op l=(0,2) from by unfold jn;simp only[bd];simp only[R,u,z,A,C,ct,cf]<;>rfl],aq⟩
   refine P3 16 Z ?_;exact bU Z Z Z ⟨by rw[show jn op l=(0,2) from by unfold jn;simp only[bd];simp only[R,u,z,A,ct,cf]<;>rfl],aq⟩
  refine P3 20 Z ?_;exact bU Z Z Z ⟨by rw[show jn op l=(0,2) from by unfold jn;simp only[bd];simp only[R,u,z,ct,cf]<;>rfl],aq⟩
 refine Q3 3 Z<|ky Z (an Z) (fun Q=>?_) (fun Q=>?_)
 ·refine vQ 1 Z<|O Z (RG hl Z Z Z (e:=2) Z) Z<|QC 4 Z<|aD Z (fun u=>?_) (fun u=>?_)
  ·refine Qz 7 Z<|aD Z (fun M=>?_) (fun M=>?_)
   ·refine QA 3 Z ?_;obtain⟨am,W⟩:=cq (show 0<l.length from by have:=iJ_ (eqv (b:=.ofNat 1) u);omega);refine Rx (e:=2) (m:=1) hl W Z Z Z Z (fun bl a7 ao a8 ap=>?_);obtain rfl:=ap;refine O Z (RI aq ao Z Z) Z ?_;refine O Z (ew (j:=.i64) (k:=.u64) Y Y Y Z) Z ?_;refine vQ 1 Z ?_;refine O Z (ew (j:=.u64) (k:=.i64) Y Y Y Z) Z ?_;refine QE 5 Z<|av<|av (?_);exact bU Z Z Z ⟨by rw[show jn op l=(qc op am,0) from by unfold jn;simp only[bd];simp only[R,Q,u,M,ct];rw[W]<;>rfl];show _=V.tuple [.int .i64<|qc op am,_];unfold qc;rw[show D op 3=true from M];rfl,aq⟩
   refine PX 5 Z ?_;obtain⟨ar,X⟩:=cq (show 0<l.length from by have:=iJ_ (eqv (b:=.ofNat 1) u);omega);refine Rx (e:=2) (m:=1) hl X Z Z Z Z (fun bo a9 aK bb a0=>?_);obtain rfl:=a0;refine O Z (RI aq aK Z Z) Z<|vQ 1 Z<|bj Z (RC Z Z Z) (fun _=>Z) (lj hG _ aq) (fun U aq=>?_);refine P3 6 Z ?_;exact bU Z Z Z ⟨by rw[show jn op l=(qc op ar,0) from by unfold jn;simp only[bd];simp only[R,Q,u,M,ct];rw[X]<;>rfl];show _=V.tuple [.int .i64<|qc op ar,_];unfold qc;rw[show D op 3=false from M];rfl,aq⟩
  refine Pu 7 Z<|ky Z (an Z) (fun z=>?_) (fun z=>?_)
  ·refine Q3 3 Z<|ky Z (an Z) (fun A=>?_) (fun A=>?_)
   ·refine vQ 1 Z<|O Z (RG hl Z Z Z (e:=2) Z) Z<|QC 4 Z<|aD Z (fun C=>?_) (fun C=>?_)
    ·refine ak<|aS (l:=zp [0,1,2,3,4,5,6,7,8,9]) Y Y<|Q5 2 Z ?_;have bc:l.length=2:=iJ_ (eqv (b:=.ofNat 2) C);obtain⟨a1,E⟩:=cq (show 0<l.length from by omega);obtain⟨a2,F⟩:=cq (show 1<l.length from by omega);refine Ry (e:=2) (m:=1) hl E Z Z Z Z Z (fun be a3 aa a4 ab=>?_);obtain rfl:=ab;refine al Z Z (RI aq aa Z Z) Z<|wQ 1 Z<|Ry (e:=2) (m:=1) hl F Z Z Z Z Z (fun bi a5 ac a6 ae=>?_);obtain rfl:=ae;refine al Z Z (RI aq ac Z Z) Z<|cy Z Z (RC Z Z Z) (fun _=>Z) (Jh hG _ _ _ aq) (fun U aq=>?_);refine⟨aT,?_⟩;refine P6 6 Z ?_;exact bU Z Z Z ⟨by rw[show jn op l=(iI op a1 a2,0) from by unfold jn;simp only[bd];simp only[R,Q,u,z,A,C,ct,cf];rw[E,F]<;>rfl],aq⟩
    refine QB 9 Z ?_;exact bU Z Z Z ⟨by rw[show jn op l=(0,2) from by unfold jn;simp only[bd];simp only[R,Q,u,z,A,C,ct,cf]<;>rfl],aq⟩
   refine P3 16 Z ?_;exact bU Z Z Z ⟨by rw[show jn op l=(0,2) from by unfold jn;simp only[bd];simp only[R,Q,u,z,A,ct,cf]<;>rfl],aq⟩
  refine P3 20 Z ?_;exact bU Z Z Z ⟨by rw[show jn op l=(0,2) from by unfold jn;simp only[bd];simp only[R,Q,u,z,ct,cf]<;>rfl],aq⟩
 refine QC 7 Z<|Pu 7 Z<|ky Z (an Z) (fun z=>?_) (fun z=>?_)
 ·refine Q3 3 Z<|ky Z (an Z) (fun A=>?_) (fun A=>?_)
  ·refine vQ 1 Z<|O Z (RG hl Z Z Z (e:=2) Z) Z<|QC 4 Z<|aD Z (fun C=>?_) (fun C=>?_)
   ·refine ak<|aS (l:=zp [0,1,2,3,4,5,6,7,8,9]) Y Y<|Q5 2 Z ?_;have bc:l.length=2:=iJ_ (eqv (b:=.ofNat 2) C);obtain⟨a1,E⟩:=cq (show 0<l.length from by omega);obtain⟨a2,F⟩:=cq (show 1<l.length from by omega);refine Ry (e:=2) (m:=1) hl E Z Z Z Z Z (fun be a3 aa a4 ab=>?_);obtain rfl:=ab;refine al Z Z (RI aq aa Z Z) Z<|wQ 1 Z<|Ry (e:=2) (m:=1) hl F Z Z Z Z Z (fun bi a5 ac a6 ae=>?_);obtain rfl:=ae;refine al Z Z (RI aq ac Z Z) Z<|cy Z Z (RC Z Z Z) (fun _=>Z) (Jh hG _ _ _ aq) (fun U aq=>?_);refine⟨aT,?_⟩;refine P6 6 Z ?_;exact bU Z Z Z ⟨by rw[show jn op l=(iI op a1 a2,0) from by unfold jn;simp only[bd];simp only[R,Q,z,A,C,ct,cf];rw[E,F]<;>rfl],aq⟩
   refine QB 9 Z ?_;exact bU Z Z Z ⟨by rw[show jn op l=(0,2) from by unfold jn;simp only[bd];simp only[R,Q,z,A,C,ct,cf]<;>rfl],aq⟩
  refine P3 16 Z ?_;exact bU Z Z Z ⟨by rw[show jn op l=(0,2) from by unfold jn;simp only[bd];simp only[R,Q,z,A,ct,cf]<;>rfl],aq⟩
 refine P3 20 Z ?_;exact bU Z Z Z ⟨by rw[show jn op l=(0,2) from by unfold jn;simp only[bd];simp only[R,Q,z,ct,cf]<;>rfl],aq⟩
theorem LW {G:Cx} (hG:Plain G) {K:H} {bc:List Int} {rn:Int} (a8:rn<=bc.length) {regv:V} (W:bJ K 1 cz bc regv):∀(k:Nat) (x:XE) (vs:List V),eE K k x vs->eo rn k x=true->∀(U:I) (L:Own),J U K L->bm Tryz.prog G 171 [.agg vs,regv] U fun v U'=>v= .int .i64 (eQ bc k x)/\J U' K L:=by
 intro k;induction k with
 | zero=>intro x vs h;cases x;exact h.elim
 | succ k ih=>
 intro x vs hE hR U L aq;obtain⟨op,num,name,kids⟩:=x;obtain⟨v,rfl,hk⟩:=hE;have hX:eQ bc (k+1) (.mk op num name kids)=bif D op 1 then num else bif D op 2 then(bc[(iT name).getD 0]?).getD 0 else Qn op (kids.map<|eQ bc k):=rfl;refine QX hG Tryz.func171 Z<|QA 2 Z<|kp aq Z (cA Z Z) (fun U b1 aq=>?_);refine P9 aq 11 [0,0] Z Z<|aD Z (fun A=>?_) (fun A=>?_)
 ·refine QI aq 9 [1,0] Z Z ?_;exact aB Z Z ⟨cJ (by rw[hX,A];rfl),aq.pop⟩
 refine Py aq 8 [0,0] Z Z<|QC 2 Z<|aD Z (fun C=>?_) (fun C=>?_)
 ·refine QH aq 5 [2,0] Z Z<|bj Z (RC Z Z Z) (fun _=>Z) (Ja hG _ aq) (fun U aq=>?_);obtain⟨nn,aa,a9⟩:=yr hR A C;obtain⟨y,hy⟩:=cq (show nn<bc.length by omega);have ab:j0 name= .ofNat nn:=by unfold j0;rw[aa]
  refine Rx (e:=2) (m:=1) W hy Z Z Z (show _=some (V.int .i64 (.ofNat nn)) from cI ab) (fun bb a2 ac a3 ae=>?_);obtain rfl:=ae;refine O Z (RI aq ac Z Z) Z<|P3 5 Z ?_;exact aB Z Z ⟨cJ (by rw[hX,A,C,aa];show y=(bc[nn]?).getD 0;rw[hy];rfl),aq.pop⟩
 refine Pu 10 Z ?_;obtain⟨be,ao⟩:=vL hR A C;replace aq:J U K ([]++_):=aq;refine PZ 4 Z (bp ([5,6]++rg 23 17) (fun j t U=>∃(i:Nat) (u:V) (M:Own),j+i=kids.length/\cN 1 2 cz ((kids.take i).map<|eQ bc k) u M/\t.get 5=some (u)/\t.get 6=some (.int .i64 (.ofNat i))/\J U K (M++(b1,.row [.int .i64 op,.int .i64 num,.str name,v] 82 false)::L)) (kids.length) ⟨0,.au,[],Z,cN.nil,Z,Z,aq⟩ ?_);clear aq;intro j7 t U ar hI;obtain⟨i,u,M,hj,hO,ap,aK,aq⟩:=hI;obtain⟨oo,rfl⟩:=ar.q2 ap aK Z;refine P7 aq 5 [3] Z Z<|O Z (RE Z aq.aR.g0 Z) Z<|O Z (RG hk Z Z Z (e:=82) Z) Z<|QC 3 Z<|aD Z (fun E=>?_) (fun E=>?_)
 ·refine Pt 4 Z<|Q6 aq 3 [3] Z Z<|O Z (RE Z aq.aR.g0 Z) Z<|vQ 1 Z ?_;obtain⟨bi,F,a4⟩:=cE E;refine Rx (e:=82) (m:=4) hk F Z Z Z Z (fun bl a5 am a6 Q=>?_);obtain⟨bo,bs,bt,bv,rfl,a7⟩:=Q.shape;refine O Z (RJ aq am Z Z) Z<|vQ 1 Z<|bj Z (RC Z Z Z) (fun _=>Z) (ih _ _ Q (ao _<|gB_ F) _ _ aq) (fun U aq=>?_);refine gD aq Z (bW (e:=2) (m:=1) (z:=[T]) (cs:=[_]) Y Y Y Y<|bA Z Z Z Z bH) (fun _=>Z) (fun U b2 aq=>?_);replace aq:=aq.pull (.there .here);replace aq:=aq.pull (.cH<|ei.here (X:=[_]));refine sT (R:=cz) (m:=1) (e:=2) hO aq (eJ (m:=1) Z Z) cz.leaf (by rw[lM_,lT_];show _+1<=_;omega) Z Z Z Z Z Z Z (fun _=>Z) (fun U a0 a1 hO39 aq=>?_);refine Q2 2 Z<|aI<|Q0 5 Z<|aM ⟨j7-1,(by have:=bk E;omega),oF,i+1,a0,a1,(by have:=bk E;omega),(by rw[mG F];exact hO39),Z,cI<|bg (by have:=hk.bG;omega),aq⟩
 refine PY 3 Z<|aU<|QA 2 Z ?_;replace aq:=aq.keeps;refine Q7 aq 3 [0,0] Z Z<|bj Z (RC Z Z Z) (fun _=>Z) (Ql hG hO.iC _ aq) (fun U aq=>?_);refine QE 14 Z ?_;exact aB Z Z ⟨cJ (by rw[hX,A,C,tL_<|br E];rfl),(aq.weaken<|H.bY _ _).pop⟩
theorem zP {K:H} {x:de} {vb e:Nat} (u:K vb (.row (ints x.ints) e false)):bJ K 5 ji [x] (.slice vb 0 1 (.known 1)):=
 .inr ⟨vb,0,_,_,e,false,Z,.inr ⟨_,Z,nR_ _⟩,u,by show 0+1*5<=5;omega,by show 1<=_;omega,fun i y hi=>by
  cases i with
  | zero=>simp only[List.getElem?_cons_zero,oJ_] at hi;subst hi;rfl
  | succ i=>simp at hi⟩
theorem tY {G:Cx} (hG:Plain G) {K:H} {bc:List Int} {rn:Int} (A:rn<=bc.length) {regv:V} (u:bJ K 1 cz bc regv) {tb et bt e1 bi e2 k:Nat} {ro C E:Bool} {c0 c1 c2 c4 c5 c6 c7 i0 i1 i2 i3 i4 w:V} (ht:K tb (.row [c0,c1,c2,regv,c4,c5,c6,c7] et ro)) (F:K bt (.row [.ptr tb 0] e1 C))
  (M:K bi (.row [i0,i1,i2,i3,i4,w] e2 E)) {es:List XE} {Q:XE} (hw:bJ K 4 (eE K k) es w) (R:es[0]?=some Q) (W:eo rn k Q=true) {U:I} {L:Own} (aq:J U K L):bm Tryz.prog G 219 [.ptr bt 0,.ptr bi 0] U fun v U'=>v= .int .i64 (eQ bc k Q)/\J U' K L:=by
 refine QX hG Tryz.func219 Z<|Qz 6 Z<|aS (l:=zp [0,1,2,3,4,5,6]) Y Y<|al Z Z (RE Z (aq.fx F) Z) Z<|al Z Z (RD 5 Z) Z<|al Z Z (RE Z (aq.fx M) Z) Z<|Ry (e:=82) (m:=4) hw R Z Z Z Z Z (fun p6 aa X ab z=>?_);have hr6raw:=z;obtain⟨o6,n6,s6,v6,rfl,ac⟩:=z.shape;refine al Z Z (RJ aq X Z Z) Z<|cy Z Z (RC Z Z Z) (fun _=>Z) (BM hG A u ht _ _ _ hr6raw W _ _ aq) (fun U aq=>?_);refine⟨aT,?_⟩;refine QG 4 Z ?_;exact aB Z Z ⟨Z,aq⟩
theorem FN {G:Cx} (W:Plain G) {K:H} {u et bt e1:Nat} {z:Bool} {C E X F M Q c6 R:V} (A:K bt (.row [.ptr u 0] e1 z)) (to:Int) {U:I} {L:Own} (aq:J U K ((u,.row [C,E,X,F,M,Q,c6,R] et false)::L)):
  bm Tryz.prog G 220 [.int .i64 to,.ptr bt 0] U fun v U'=>v= .bool true/\J U' K ((u,.row [C,E,.int .i64 to,F,M,Q,c6,R] et false)::L):=by
 refine QX W Tryz.func220 Z<|QA 7 Z<|O Z (RE Z (aq.fx A) Z) Z<|vQ 1 Z<|O Z (fh Z) Z<|O Z (RD 2 Z) Z<|bF aq Z (RK Z Z Z aq.g0 (m:=1) Z Z (cells':=[_,_,_,_,_,_,_,_]) Z) Z (fun U aq=>?_);refine QE 8 Z ?_;exact aB Z Z ⟨Z,aq⟩
theorem BL {G:Cx} (X:Plain G) {K:H} {u et bt e1:Nat} {z:Bool} {C E F M Q R c6 W:V} (A:K bt (.row [.ptr u 0] e1 z)) (to:Int) {U:I} {L:Own} (aq:J U K ((u,.row [C,E,F,M,Q,R,c6,W] et false)::L)):
  bm Tryz.prog G 221 [.int .i64 to,.ptr bt 0] U fun v U'=>v= .bool false/\J U' K ((u,.row [C,E,F,M,Q,R,.int .i64 to,W] et false)::L):=by
 refine QX X Tryz.func221 Z<|QA 7 Z<|O Z (RE Z (aq.fx A) Z) Z<|vQ 1 Z<|O Z (fh Z) Z<|O Z (RD 6 Z) Z<|bF aq Z (RK Z Z Z aq.g0 (m:=1) Z Z (cells':=[_,_,_,_,_,_,_,_]) Z) Z (fun U aq=>?_);refine QE 8 Z ?_;exact aB Z Z ⟨Z,aq⟩
theorem Nz {G:Cx} (X:Plain G) {K:H} {F b2 et bt e1 bon e2:Nat} {Q R:Bool} {c0 c1 c3 c4 c5 c6 c7:V} {o2:cM} (u:K bt (.row [.ptr F 0] e1 Q)) (C:K bon (.row [.func 220 [] [.ptr bt 0]] e2 R)) (e:de) {es:List de} {Me:Own} (hO:cN 5 56 ji es c4 Me) (hlen:es.length<=1000000) {at_:Nat} (aa:at_<1000000) {U:I} {L:Own}
  (aq:J U K ((F,.row [c0,c1,.int .i64 (.ofNat at_),c3,c4,c5,c6,c7] et false)::(b2,o2)::(Me++L))):
  bm Tryz.prog G 222 [.agg [.int .i64 e.kind,.int .i64 e.loc,.int .i64 e.order,.int .i64 e.read,.int .i64 e.write],.ptr bt 0,.ptr bon 0] U fun v U'=>∃ev' Me',v= .bool true/\cN 5 56 ji (es++[e]) ev' Me'/\J U' K ((F,.row [c0,c1,.int .i64 (.ofNat (at_+1)),c3,ev',c5,c6,c7] et false)::(b2,o2)::(Me'++L)):=by
 refine QX X Tryz.func222 Z<|QA 2 Z<|kp aq Z (cA Z Z) (fun U b3 aq=>?_);refine P0 4 Z (aS (l:=[(0,[]),(1,[]),(2,[]),(3,[]),(4,[]),(5,[]),(6,[]),(7,[0]),(8,[]),(9,[]),(10,[])]) Y Y<|al Z Z (RE Z (aq.fx u) Z) Z<|al Z Z (RE Z (aq.fx u) Z) Z<|al Z Z (fh Z) Z<|Q8 aq 2 [4,1] Z Z<|al Z Z (RF Z aq.g0 (n:=5) (vs:=[_,_,_,_,_]) Z) Z<|ie aq Z Z (bW (e:=56) (m:=5) (z:=[T,T,T,T,T]) (cs:=[_,_,_,_,_]) Y Y Y Y<|bA Z Z Z Z bH) (fun _=>Z) (fun U b4 aq=>?_));replace aq:=aq.EZ (A:=[_,_,_]);obtain⟨U,W,Me2,E,hO2,aq⟩:=eY (P:=Tryz.prog) (ts:= #[57,57]) (t:=57) (e:=56) hO aq (zP (x:=e) (.inr ⟨Z,Z⟩)) ji.leaf (by simp) (by simp) B Z Y Y Y;replace aq:=aq.front (A:=Me2) (M:=[_,_,_]);refine eX Z Z (dB Z Z Z Z Y E) Z ?_;refine⟨(bx (bO Z Z Z Z Z (RE Z (aq.fx u) Z)<|Ch _ _) aT),?_⟩;refine al Z Z (fh Z) Z<|al Z Z (RD 4 Z) Z<|Bj aq Z Z (aJ Z Z hO2.leaf.1 aq.g1 (m:=1) Y Z (lb Z) (N hO2.leaf.2 aA) (cells':=[_,_,_,_,_,_,_,_]) Z) Z (fun U aq=>?_);refine⟨aT,?_⟩;refine P5 3 Z<|aS (l:=zp [0,1,2,3,4,5,6,7]) Y Y ?_;replace aq:=aq.pop;refine al Z Z (RE Z (aq.fx C) Z) Z<|al Z Z (RE Z (aq.fx u) Z) Z<|al Z Z (fh Z) Z<|Q8 aq 2 [2,0] Z Z<|al Z Z (az Z Z (show _=some (V.int .i64 (.ofNat (at_+1))) from cI (bg B))) Z<|cy Z Z (RC Z Z Z) (fun _=>Z) (FN X u _ aq) (fun U aq=>?_);refine⟨aT,?_⟩;refine QG 4 Z ?_;exact aB Z Z ⟨W,Me2,Z,hO2,aq⟩
theorem KZ {G:Cx} (R:Plain G) {K:H} {k:Nat} {c:XC} (hc:eK k c) {cv:V} (hi:bJ K 6 (gp K k) c.ins cv) {s:TS} (hs:Rh c s) (bv:s.events.length<=900000) {b1 b2:Nat} {ev:V} {Me:Own} (hO:cN 5 56 ji s.events ev Me) {U:I} {L:Own}
  (aq:J U K ((b1,.row (IM c cv s b2 ev) 131 false)::(b2,.row (s.bc.map gZ) 2 false)::(Me++L))):
  bm Tryz.prog G 166 [.ptr b1 0] U fun v U'=>∃ev' Me',v= .bool (cr k c s).2/\cN 5 56 ji (cr k c s).1.events ev' Me'/\J U' K ((b1,.row (IM c cv (cr k c s).1 b2 ev') 131 false)::(b2,.row ((cr k c s).1.bc.map gZ) 2 false)::(Me'++L)):=by
 have hlen:=hc.len;have hat:=hs.at_;obtain⟨x,hx⟩:=cq hat;have hrx:=hc.right x (gB_ hx);have ap:c.bc<=s.bc.length:=by have:=hs.bc;have:=hc.Ac;omega
 have W:s.bc.length<=1000:=by have:=hs.bc;have:=hc.yq;omega
 have C:cr k c s=dS k x s:=by unfold cr;rw[hx]
 refine QX R Tryz.func166 Z<|QA 2 Z<|kp aq Z (cA Z Z) (fun U b3 aq=>?_);refine P0 4 Z<|aS (l:=zp [0,1,2,3,4,5,6,7,8,9,10,11,12]) Y Y<|al Z Z (RE Z aq.g0 Z) Z<|al Z Z (fh Z) Z<|Q8 aq 4 [0,1,1,0] Z Z<|al Z Z (fh Z) Z<|Q8 aq 2 [2,1] Z Z<|Ry (e:=79) (m:=6) hi hx Z Z Z Z Z (fun b6 bw bo bz a1=>?_);have hr17raw:=a1;have hr17':=a1;obtain⟨b7,rfl,a2⟩:=hr17';refine al Z Z (RJ aq bo Z Z) Z<|nG aq Z Z (RH (cs:=[T,T,T,T,T,.au])) (fun _=>Z) (fun U b4 aq=>?_);refine iE aq Z Z (RK Z Z Z aq.g0 (m:=6) Z (N Z<|N Z<|N Z<|N Z<|N Z<|N a2.leaf.2 aA) (cells':=[_,_,_,_,_,_]) Z) Z (fun U aq=>?_);refine⟨aT,?_⟩;refine P5 9 Z<|ai Z<|vQ 1 Z<|kp aq Z (RH (cs:=[.nilFunc])) (fun U b5 aq=>?_);refine bF aq Z (RK Z Z Z aq.g0 (m:=1) Z Z (cells':=[_]) Z) Z (fun U aq=>?_);refine Pw 17 Z ?_;obtain⟨K1,hle,ab,aq⟩:=aq.eb (M:=[_,_,_]);have hbon:=ab _ (.head _);have hbi:=ab _ (.tail _ (.head _));have hbt:=ab _ (.tail _ (.tail _ (.head _)));clear ab;dsimp only at hbon hbi hbt;have hw1:=kU hle a2;refine O Z (RD 0 Z) Z<|O Z (RE Z (aq.fx hbi) Z) Z<|PZ 3 Z<|QA 2 Z<|ky Z (az Z Z Z) (fun z=>?_) (fun z=>?_)
 ·refine P0 5 Z (aS (l:=[(0,[]),(1,[]),(2,[]),(3,[]),(4,[]),(5,[]),(6,[]),(7,[0,3,5]),(8,[]),(9,[])]) Y Y<|al Z Z (RE Z (aq.fx hbt) Z) Z<|al Z Z (fh Z) Z<|Q8 aq 3 [3,0,1] Z Z<|al Z Z (RE Z (aq.fx hbi) Z) Z<|wQ 1 Z ?_);obtain⟨a3,ar,a4⟩:=mj hrx (eqv (b:=.ofNat 1) z) B;have hq:=aq.keeps (M:=[_,_]);refine cy Z Z (RC Z Z Z) (fun _=>Z) (kS (M:=[_,_]) aq<|tY R (rn:=c.bc) ap (fm (xs:=s.bc) (H.gP 1 Z) W) (H.gP 0 Z) (H.bY _ _ _ _ hbt) (H.bY _ _ _ _ hbi) (kU (H.bY _ _) hw1) ar a4 hq) (fun U aq=>?_);clear hq;have hV34:=(fA (k:=k) (bc:=s.bc) ar).symm;refine⟨(bx (bO Z Z Z Z Z (RE Z (aq.fx hbt) Z)<|Ch _ _)<|bx (bO Z Z Z Z Z (RE Z aq.g0 Z)<|ri _ _ _ _)<|bx (bO Z Z Z Z Z (RE Z (aq.fx hbi) Z)<|jm _ _) aT),?_⟩;obtain⟨rg,bs,b0⟩:=Bp hrx (eqv (b:=.ofNat 1) z) B;refine al Z Z (dD (e:=2) (m:=1) Y Y Z (show _=some (V.int .i64 (.ofNat rg)) from cI bs) B) Z (fC aq (.there .here) Z Z (aJ Z Z Z aq.g1 (m:=1) Y Z (by rw[lM_];omega) Z (cells':=((s.bc).set rg<|eQ s.bc k a3).map (gZ)) (ef (f:=gZ) (v:=(eQ s.bc k a3)) B (by first | omega | rfl))) Z (fun U aq=>?_));refine⟨aT,?_⟩;refine P5 3 Z<|aS (l:=zp [0,1,2,3,4,5,6,7]) Y Y<|al Z Z (RE Z (aq.fx hbon) Z) Z<|al Z Z (RE Z (aq.fx hbt) Z) Z<|al Z Z (fh Z) Z<|Q8 aq 2 [2,0] Z Z<|al Z Z (az Z Z (show _=some (V.int .i64 (.ofNat (s.at_+1))) from cI (bg B))) Z<|cy Z Z (RC Z Z Z) (fun _=>Z) (FN R hbt _ aq) (fun U aq=>?_);refine⟨aT,?_⟩;refine QG 4 Z<|aE<|av (?_);have u:cr k c s=({s with bc:=s.bc.set x.qd.toNat (eQ s.bc k a3),at_:=s.at_+1},true):=by rw[C];unfold dS;simp only[z,fA ar,ct,cf]
  have aq:=aq.weaken hle;refine aB Z Z ⟨ev,Me,by rw[u],by rw[u];exact hO,?_⟩;rw[u];show J _ _ ((b1,.row [_,_,_,.slice b2 0 (s.bc.set x.qd.toNat _).length (.known (s.bc.set x.qd.toNat _).length),_,_,_,_] 131 false)::(b2,.row ((s.bc.set x.qd.toNat _).map gZ) 2 false)::_);rw[List.length_set,bs];exact aq
 refine P1 6 Z<|ky Z (az Z Z Z) (fun A=>?_) (fun A=>?_)
 ·refine P0 5 Z (aS (l:=[(0,[]),(1,[]),(2,[]),(3,[]),(4,[]),(5,[]),(6,[2,4]),(7,[]),(8,[]),(9,[])]) Y Y<|Q8 aq 2 [2] Z Z<|al Z Z (RE Z (aq.fx hbi) Z) Z<|al Z Z (RD 3 Z) Z<|al Z Z (RE Z (aq.fx hbi) Z) Z<|wQ 1 Z ?_);obtain⟨bt,aK,a5⟩:=mj hrx (eqv (b:=.ofNat 3) A) B;have hq:=aq.keeps (M:=[_,_]);refine cy Z Z (RC Z Z Z) (fun _=>Z) (kS (M:=[_,_]) aq<|tY R (rn:=c.bc) ap (fm (xs:=s.bc) (H.gP 1 Z) W) (H.gP 0 Z) (H.bY _ _ _ _ hbt) (H.bY _ _ _ _ hbi) (kU (H.bY _ _) hw1) aK a5 hq) (fun U aq=>?_);clear hq;have hV51:=(fA (k:=k) (bc:=s.bc) aK).symm;refine⟨(bx (bO Z Z Z Z Z (RE Z (aq.fx hbi) Z)<|jm _ _)<|bx (bO Z Z Z Z Z (RE Z (aq.fx hbi) Z)<|jm _ _) aT),?_⟩;refine al Z Z (RB (places:=[(0,1),(1,1),(2,1),(3,1),(4,1)]) (zero:=[T,T,T,T,T]) (cs:=[_,_,_,_,_]) Z) Z<|ic Z Z (RC Z Z Z) (fun _=>Z) (Nz R hbt hbon ⟨2,x.loc,x.order,0,eQ s.bc k bt⟩ hO B B aq) ?_;rintro _ U ⟨a6,Me2,rfl,hO2,aq⟩;refine⟨aT,?_⟩;refine QG 4 Z<|aE<|av (?_);have u:cr k c s=({s with events:=s.events++[⟨2,x.loc,x.order,0,eQ s.bc k bt⟩],at_:=s.at_+1},true):=by rw[C];unfold dS;simp only[z,A,fA aK,ct,cf]
  have aq:=aq.weaken hle;exact aB Z Z ⟨a6,Me2,by rw[u],by rw[u];exact hO2,by rw[u];exact aq⟩
 refine P1 6 Z<|ky Z (az Z Z Z) (fun E=>?_) (fun E=>?_)
 ·refine Qa aq 8 [3] Z Z (O Z (RE Z (aq.fx hbi) Z) Z (O Z (RB (places:=[(0,1),(1,1),(2,1),(3,1),(4,1)]) (zero:=[T,T,T,T,T]) (cs:=[_,_,_,_,_]) Z) Z<|cd Z (RC Z Z Z) (fun _=>Z) (Nz R hbt hbon ⟨4,0,x.order,0,0⟩ hO B B aq) ?_));rintro _ U ⟨a6,Me2,rfl,hO2,aq⟩;refine QE 4 Z<|aE<|av (?_);have u:cr k c s=({s with events:=s.events++[⟨4,0,x.order,0,0⟩],at_:=s.at_+1},true):=by rw[C];unfold dS;simp only[z,A,E,ct,cf]
  have aq:=aq.weaken hle;exact aB Z Z ⟨a6,Me2,by rw[u],by rw[u];exact hO2,by rw[u];exact aq⟩
 refine P1 6 Z<|ky Z (az Z Z Z) (fun F=>?_) (fun F=>?_)
 ·refine Pw 8 Z ?_;obtain⟨b8,ac,a7⟩:=mj hrx (eqv (b:=.ofNat 8) F) B;have hq:=aq.keeps (M:=[_,_]);refine bj Z (RC Z Z Z) (fun _=>Z) (kS (M:=[_,_]) aq<|tY R (rn:=c.bc) ap (fm (xs:=s.bc) (H.gP 1 Z) W) (H.gP 0 Z) (H.bY _ _ _ _ hbt) (H.bY _ _ _ _ hbi) (kU (H.bY _ _) hw1) ac a7 hq) (fun U aq=>?_);clear hq;have hV64:=(fA (k:=k) (bc:=s.bc) ac).symm;refine QC 3 Z<|aD Z (fun a8=>?_) (fun a8=>?_)
  ·refine QA 3 Z<|bj Z (RC Z Z Z) (fun _=>Z) (BL R hbt _ aq) (fun U aq=>?_);refine QE 4 Z<|av<|aE<|av (?_);have u:cr k c s=({s with fin:=2},false):=by rw[C];unfold dS;simp only[z,A,E,F,fA ac,a8,ct,cf]
   have aq:=aq.weaken hle;exact aB Z Z ⟨ev,Me,by rw[u],by rw[u];exact hO,by rw[u];exact aq⟩
  refine PW 3 Z<|aS (l:=zp [0,1,2,3,4,5,6,7]) Y Y<|al Z Z (RE Z (aq.fx hbon) Z) Z<|al Z Z (RE Z (aq.fx hbt) Z) Z<|al Z Z (fh Z) Z<|Q8 aq 2 [2,0] Z Z<|al Z Z (az Z Z (show _=some (V.int .i64 (.ofNat (s.at_+1))) from cI (bg B))) Z<|cy Z Z (RC Z Z Z) (fun _=>Z) (FN R hbt _ aq) (fun U aq=>?_);refine⟨aT,?_⟩;refine QG 4 Z<|aE<|av (?_);have u:cr k c s=({s with at_:=s.at_+1},true):=by rw[C];unfold dS;simp only[z,A,E,F,fA ac,a8,ct,cf]
  have aq:=aq.weaken hle;exact aB Z Z ⟨ev,Me,by rw[u],by rw[u];exact hO,by rw[u];exact aq⟩
 refine P1 6 Z<|ky Z (az Z Z Z) (fun Q=>?_) (fun Q=>?_)
 ·refine Pw 8 Z ?_;obtain⟨b9,ae,a9⟩:=mj hrx (eqv (b:=.ofNat 9) Q) B;have hq:=aq.keeps (M:=[_,_]);refine bj Z (RC Z Z Z) (fun _=>Z) (kS (M:=[_,_]) aq<|tY R (rn:=c.bc) ap (fm (xs:=s.bc) (H.gP 1 Z) W) (H.gP 0 Z) (H.bY _ _ _ _ hbt) (H.bY _ _ _ _ hbi) (kU (H.bY _ _) hw1) ae a9 hq) (fun U aq=>?_);clear hq;have hV78:=(fA (k:=k) (bc:=s.bc) ae).symm;refine QC 3 Z<|aD Z (fun bb=>?_) (fun bb=>?_)
  ·refine QA 3 Z<|bj Z (RC Z Z Z) (fun _=>Z) (BL R hbt _ aq) (fun U aq=>?_);refine QE 4 Z<|av<|aE<|av (?_);have u:cr k c s=({s with fin:=3},false):=by rw[C];unfold dS;simp only[z,A,E,F,Q,fA ae,bb,ct,cf]
   have aq:=aq.weaken hle;exact aB Z Z ⟨ev,Me,by rw[u],by rw[u];exact hO,by rw[u];exact aq⟩
  refine PW 3 Z<|aS (l:=zp [0,1,2,3,4,5,6,7]) Y Y<|al Z Z (RE Z (aq.fx hbon) Z) Z<|al Z Z (RE Z (aq.fx hbt) Z) Z<|al Z Z (fh Z) Z<|Q8 aq 2 [2,0] Z Z<|al Z Z (az Z Z (show _=some (V.int .i64 (.ofNat (s.at_+1))) from cI (bg B))) Z<|cy Z Z (RC Z Z Z) (fun _=>Z) (FN R hbt _ aq) (fun U aq=>?_);refine⟨aT,?_⟩;refine QG 4 Z<|aE<|av (?_);have u:cr k c s=({s with at_:=s.at_+1},true):=by rw[C];unfold dS;simp only[z,A,E,F,Q,fA ae,bb,ct,cf]
  have aq:=aq.weaken hle;exact aB Z Z ⟨ev,Me,by rw[u],by rw[u];exact hO,by rw[u];exact aq⟩
 refine P1 6 Z<|ky Z (az Z Z Z) (fun X=>?_) (fun X=>?_)
 ·refine P1 6 Z<|O Z (RE Z (aq.fx hbon) Z) Z<|O Z (RD 4 Z) Z<|O Z (RE Z (aq.fx hbi) Z) Z<|bj Z (RC Z Z Z) (fun _=>Z) (FN R hbt _ aq) (fun U aq=>?_);refine QE 4 Z<|aE<|av (?_);have u:cr k c s=({s with at_:=x.to.toNat},true):=by rw[C];unfold dS;simp only[z,A,E,F,Q,X,ct,cf]
  have aq:=aq.weaken hle;refine aB Z Z ⟨ev,Me,by rw[u],by rw[u];exact hO,?_⟩;rw[u];obtain⟨rt,be,_⟩:=G3 hrx (eqv (b:=.ofNat 10) X) B;rw[be] at aq⊢;exact aq
 refine P1 6 Z<|ky Z (az Z Z Z) (fun aa=>?_) (fun aa=>?_)
 ·refine Pw 8 Z ?_;obtain⟨ca,am,bi⟩:=mj hrx (eqv (b:=.ofNat 11) aa) B;have hq:=aq.keeps (M:=[_,_]);refine bj Z (RC Z Z Z) (fun _=>Z) (kS (M:=[_,_]) aq<|tY R (rn:=c.bc) ap (fm (xs:=s.bc) (H.gP 1 Z) W) (H.gP 0 Z) (H.bY _ _ _ _ hbt) (H.bY _ _ _ _ hbi) (kU (H.bY _ _) hw1) am bi hq) (fun U aq=>?_);clear hq;have hV98:=(fA (k:=k) (bc:=s.bc) am).symm;refine QC 3 Z<|aD Z (fun bl=>?_) (fun bl=>?_)
  ·refine QA 2 Z<|O Z (RE Z (aq.fx hbon) Z) Z<|O Z (RD 4 Z) Z<|O Z (RE Z (aq.fx hbi) Z) Z<|bj Z (RC Z Z Z) (fun _=>Z) (FN R hbt _ aq) (fun U aq=>?_);refine QE 4 Z<|av<|aE<|av (?_);have u:cr k c s=({s with at_:=x.to.toNat},true):=by rw[C];unfold dS;simp only[z,A,E,F,Q,X,aa,fA am,bl,ct,cf]
   have aq:=aq.weaken hle;refine aB Z Z ⟨ev,Me,by rw[u],by rw[u];exact hO,?_⟩;rw[u];obtain⟨rt,be,_⟩:=G3 hrx (eqv (b:=.ofNat 11) aa) B;rw[be] at aq⊢;exact aq
  refine PW 3 Z<|aS (l:=zp [0,1,2,3,4,5,6,7]) Y Y<|al Z Z (RE Z (aq.fx hbon) Z) Z<|al Z Z (RE Z (aq.fx hbt) Z) Z<|al Z Z (fh Z) Z<|Q8 aq 2 [2,0] Z Z<|al Z Z (az Z Z (show _=some (V.int .i64 (.ofNat (s.at_+1))) from cI (bg B))) Z<|cy Z Z (RC Z Z Z) (fun _=>Z) (FN R hbt _ aq) (fun U aq=>?_);refine⟨aT,?_⟩;refine QG 4 Z<|aE<|av (?_);have u:cr k c s=({s with at_:=s.at_+1},true):=by rw[C];unfold dS;simp only[z,A,E,F,Q,X,aa,fA am,bl,ct,cf]
  have aq:=aq.weaken hle;exact aB Z Z ⟨ev,Me,by rw[u],by rw[u];exact hO,by rw[u];exact aq⟩
 refine P1 6 Z<|ky Z (az Z Z Z) (fun ao=>?_) (fun ao=>?_)
 ·refine P1 7 Z<|bj Z (RC Z Z Z) (fun _=>Z) (BL R hbt _ aq) (fun U aq=>?_);refine QE 4 Z<|aE<|av (?_);have u:cr k c s=({s with fin:=4},false):=by rw[C];unfold dS;simp only[z,A,E,F,Q,X,aa,ao,ct,cf]
  have aq:=aq.weaken hle;exact aB Z Z ⟨ev,Me,by rw[u],by rw[u];exact hO,by rw[u];exact aq⟩
 refine P1 6 Z<|ky Z (az Z Z Z) (fun a0=>?_) (fun a0=>?_)
 ·refine P1 7 Z<|bj Z (RC Z Z Z) (fun _=>Z) (BL R hbt _ aq) (fun U aq=>?_);refine QE 4 Z<|aE<|av (?_);have u:cr k c s=({s with fin:=1},false):=by rw[C];unfold dS;simp only[z,A,E,F,Q,X,aa,ao,a0,ct,cf]
  have aq:=aq.weaken hle;exact aB Z Z ⟨ev,Me,by rw[u],by rw[u];exact hO,by rw[u];exact aq⟩
 refine P2 6 Z<|QA 2 Z<|O Z (RE Z (aq.fx hbt) Z) Z<|O Z (fh Z) Z<|O Z (RD 7 Z) Z<|bF aq Z (RK Z Z Z aq.g0 (m:=1) Z Z (cells':=[_,_,_,_,_,_,_,_]) Z) Z (fun U aq=>?_);refine QE 8 Z ?_;have u:cr k c s=({s with asks:=true},false):=by rw[C];unfold dS;simp only[z,A,E,F,Q,X,aa,ao,a0,ct,cf]
 have aq:=aq.weaken hle;exact aB Z Z ⟨ev,Me,by rw[u],by rw[u];exact hO,by rw[u];exact aq⟩
theorem Ny {G:Cx} (hG:Plain G) {K:H} {k:Nat} {c:XC} {cv:V} (hi:bJ K 6 (gp K k) c.ins cv) {at_:Nat} {bc:List Int} (X:c.bc<=bc.length) {x:XI} (hx:c.ins[at_]?=some x) (ap:fT c.bc (.ofNat c.ins.length) k x=true) {regv:V} (C:bJ K 1 cz bc regv) {tb et:Nat} {ro:Bool} {c0 c4 c5 c6 c7:V} (ht:K tb (.row [c0,cv,.int .i64 (.ofNat at_),regv,c4,c5,c6,c7] et ro))
  {U:I} {L:Own} (aq:J U K L):bm Tryz.prog G 81 [.ptr tb 0] U fun v U'=>v= .agg (ints (yX k x bc).ints)/\J U' K L:=by
 obtain⟨_,sh,_,_,_,_,ar⟩:=iX ap;have hall:=(ig ar).all;refine QX hG Tryz.func81 Z<|QA 2 Z<|kp aq Z (RH (cs:=[T,T,T,T,T])) (fun U b1 aq=>?_);refine P0 3 Z<|aS (l:=zp [0,1,2,3,4,5,6,7,8,9,10,11,12]) Y Y<|wQ 1 Z<|al Z Z (fh Z) Z<|Q8 aq 2 [0,1] Z Z<|al Z Z (RE Z (aq.fx ht) Z) Z<|wQ 1 Z<|al Z Z (fh Z) Z<|al Z Z (RD 2 Z) Z<|al Z Z (RE Z (aq.fx ht) Z) Z<|Ry (e:=79) (m:=6) hi hx Z Z Z Z Z (fun bb a5 ab a6 R=>?_);have hr14raw:=R;have hr14':=R;obtain⟨be,rfl,u⟩:=hr14';refine al Z Z (RJ aq ab Z Z) Z<|nG aq Z Z (RH (cs:=[T,T,T,T,T,.au])) (fun _=>Z) (fun U b2 aq=>?_);refine iE aq Z Z (RK Z Z Z aq.g0 (m:=6) Z (N Z<|N Z<|N Z<|N Z<|N Z<|N u.leaf.2 aA) (cells':=[_,_,_,_,_,_]) Z) Z (fun U aq=>?_);refine⟨aT,?_⟩;refine P5 3 Z (Q6 aq 7 [0,0,2,0,3,0] Z Z (O Z (RB (places:=[(0,1),(1,1),(2,1),(3,1),(4,1)]) (zero:=[T,T,T,T,T]) (cs:=[_,_,_,_,_]) Z) Z<|kp aq Z (RH (cs:=[T,T,T,T,T])) (fun U b3 aq=>?_)));refine bF aq Z (RK Z Z Z aq.g0 (m:=5) Z Z (cells':=[_,_,_,_,_]) Z) Z (fun U aq=>?_);refine Pz aq 7 [5,1] Z Z<|O Z (RG u Z Z Z (e:=82) Z) Z<|QC 3 Z<|aD Z (fun Q=>?_) (fun Q=>?_)
 ·refine Q6 aq 4 [5,1] Z Z ?_;obtain⟨aK,F⟩:=cq (show 0<x.exprs.length from bk (a:=0) Q);refine Rx (e:=82) (m:=4) u F Z Z Z Z (fun bi a7 ac a8 W=>?_);have hr30raw:=W;obtain⟨bl,bo,bs,bt,rfl,a9⟩:=W.shape;refine O Z (RJ aq ac Z Z) Z<|bj Z (RC Z Z Z) (fun _=>Z) (BM hG X C ht _ _ _ hr30raw (hall aK<|gB_ F) _ _ aq) (fun U aq=>?_);refine O Z (RD 3 Z) Z<|bF aq Z (RK Z Z Z aq.g0 (m:=1) Z Z (cells':=[_,_,_,_,_]) Z) Z (fun U aq=>?_);refine Pz aq 7 [5,1] Z Z<|O Z (RG u Z Z Z (e:=82) Z) Z<|QC 3 Z<|aD Z (fun E=>?_) (fun E=>?_)
  ·refine Q6 aq 4 [5,1] Z Z ?_;obtain⟨aa,z⟩:=cq (show 1<x.exprs.length from bk (a:=1) E);refine Rx (e:=82) (m:=4) u z Z Z Z Z (fun a0 ae M am A=>?_);have hr41raw:=A;obtain⟨a1,a2,a3,a4,rfl,ao⟩:=A.shape;refine O Z (RJ aq M Z Z) Z<|bj Z (RC Z Z Z) (fun _=>Z) (BM hG X C ht _ _ _ hr41raw (hall aa<|gB_ z) _ _ aq) (fun U aq=>?_);refine O Z (RD 4 Z) Z<|bF aq Z (RK Z Z Z aq.g0 (m:=1) Z Z (cells':=[_,_,_,_,_]) Z) Z (fun U aq=>?_);refine P1 4 Z<|O Z (RF Z aq.g0 (n:=5) (vs:=[_,_,_,_,_]) Z) Z<|xU aq Z (RK Z Z Z (aq.get 2 Z) (m:=5) Z Z (cells':=[_,_,_,_,_]) Z) Z (fun U aq=>?_);refine QE 3 Z ?_;exact eW Z Z (aq.get 2 Z) (m:=5) Y Z ⟨by show V.agg [.int .i64 x.kind,.int .i64 x.loc,.int .i64 x.order,_,_]=V.agg [.int .i64 x.kind,.int .i64 x.loc,.int .i64 x.order,.int .i64<|fW k bc x 0,.int .i64<|fW k bc x 1];rw[fA F,fA z]<;>rfl,aq.pop.pop.pop⟩
  refine PX 4 Z<|O Z (RF Z aq.g0 (n:=5) (vs:=[_,_,_,_,_]) Z) Z<|xU aq Z (RK Z Z Z (aq.get 2 Z) (m:=5) Z Z (cells':=[_,_,_,_,_]) Z) Z (fun U aq=>?_);refine QE 3 Z ?_;exact eW Z Z (aq.get 2 Z) (m:=5) Y Z ⟨by show V.agg [.int .i64 x.kind,.int .i64 x.loc,.int .i64 x.order,_,_]=V.agg [.int .i64 x.kind,.int .i64 x.loc,.int .i64 x.order,.int .i64<|fW k bc x 0,.int .i64<|fW k bc x 1];rw[fA F,tl<|br (a:=1) E]<;>rfl,aq.pop.pop.pop⟩
 refine Py aq 7 [5,1] Z Z<|O Z (RG u Z Z Z (e:=82) Z) Z<|QC 3 Z<|aD Z (fun E=>?_) (fun E=>?_)
 ·refine Q6 aq 4 [5,1] Z Z ?_;obtain⟨aa,z⟩:=cq (show 1<x.exprs.length from bk (a:=1) E);refine Rx (e:=82) (m:=4) u z Z Z Z Z (fun a0 ae M am A=>?_);have hr41raw:=A;obtain⟨a1,a2,a3,a4,rfl,ao⟩:=A.shape;refine O Z (RJ aq M Z Z) Z<|bj Z (RC Z Z Z) (fun _=>Z) (BM hG X C ht _ _ _ hr41raw (hall aa<|gB_ z) _ _ aq) (fun U aq=>?_);refine O Z (RD 4 Z) Z<|bF aq Z (RK Z Z Z aq.g0 (m:=1) Z Z (cells':=[_,_,_,_,_]) Z) Z (fun U aq=>?_);refine P1 4 Z<|O Z (RF Z aq.g0 (n:=5) (vs:=[_,_,_,_,_]) Z) Z<|xU aq Z (RK Z Z Z (aq.get 2 Z) (m:=5) Z Z (cells':=[_,_,_,_,_]) Z) Z (fun U aq=>?_);refine QE 3 Z ?_;exact eW Z Z (aq.get 2 Z) (m:=5) Y Z ⟨by show V.agg [.int .i64 x.kind,.int .i64 x.loc,.int .i64 x.order,_,_]=V.agg [.int .i64 x.kind,.int .i64 x.loc,.int .i64 x.order,.int .i64<|fW k bc x 0,.int .i64<|fW k bc x 1];rw[tl<|br (a:=0) Q,fA z]<;>rfl,aq.pop.pop.pop⟩
 refine PX 4 Z<|O Z (RF Z aq.g0 (n:=5) (vs:=[_,_,_,_,_]) Z) Z<|xU aq Z (RK Z Z Z (aq.get 2 Z) (m:=5) Z Z (cells':=[_,_,_,_,_]) Z) Z (fun U aq=>?_);refine QE 3 Z ?_;exact eW Z Z (aq.get 2 Z) (m:=5) Y Z ⟨by show V.agg [.int .i64 x.kind,.int .i64 x.loc,.int .i64 x.order,_,_]=V.agg [.int .i64 x.kind,.int .i64 x.loc,.int .i64 x.order,.int .i64<|fW k bc x 0,.int .i64<|fW k bc x 1];rw[tl<|br (a:=0) Q,tl<|br (a:=1) E]<;>rfl,aq.pop.pop.pop⟩
theorem DN {G:Cx} (F:Plain G) {K:H} (a:rT) (vv:Int) {U:I} {L:Own} (aq:J U K L):bm Tryz.prog G 92 [.agg [.int .i64 a.kind,.int .i64 a.loc,.int .i64 a.order,.int .i64 a.a,.int .i64 a.b],.int .i64 vv] U fun v U'=>v= .tuple [.agg<|ints (bT a vv).ints,.int .i64<|ia a]/\J U' K L:=by
 refine QX F Tryz.func92 Z<|QA 2 Z<|kp aq Z (cA Z Z) (fun U b1 aq=>?_);refine kp aq Z (RH (cs:=[T,T,T,T,T])) (fun U b2 aq=>?_);refine Qa aq 10 [1,1,2,1] Z Z (O Z (RB (places:=[(0,1),(1,1),(2,1),(3,1),(4,1)]) (zero:=[T,T,T,T,T]) (cs:=[_,_,_,_,_]) Z) Z<|kp aq Z (RH (cs:=[T,T,T,T,T])) (fun U b3 aq=>?_));refine bF aq Z (RK Z Z Z aq.g0 (m:=5) Z Z (cells':=[_,_,_,_,_]) Z) Z (fun U aq=>?_);refine P9 aq 9 [0,2] Z Z<|aO<|QA 2 Z<|ky Z (az Z Z Z) (fun u=>?_) (fun u=>?_)
 ·refine QK aq 6 [0] Z Z<|bF aq Z (RK Z Z Z aq.g0 (m:=1) Z Z (cells':=[_,_,_,_,_]) Z) Z (fun U aq=>?_);refine af<|aI<|QA 2 Z<|O Z (RF Z aq.g0 (n:=5) (vs:=[_,_,_,_,_]) Z) Z<|dF aq Z (RK Z Z Z aq.g1 (m:=5) Z Z (cells':=[_,_,_,_,_]) Z) Z (fun U aq=>?_);refine QE 4 Z ?_;exact bB Z Z aq.g1 (m:=5) Y Z Z ⟨by unfold bT ia;simp only[u,ct,cf]<;>rfl,aq.pop.pop.pop⟩
 refine P1 6 Z<|ky Z (az Z Z Z) (fun z=>?_) (fun z=>?_)
 ·refine QJ aq 12 [3,2] Z Z<|aD Z (fun C=>?_) (fun C=>?_)
  ·refine Q6 aq 4 [4,2,4] Z Z<|bF aq Z (RK Z Z Z aq.g0 (m:=1) Z Z (cells':=[_,_,_,_,_]) Z) Z (fun U aq=>?_);refine af<|aI<|QA 2 Z<|O Z (RF Z aq.g0 (n:=5) (vs:=[_,_,_,_,_]) Z) Z<|dF aq Z (RK Z Z Z aq.g1 (m:=5) Z Z (cells':=[_,_,_,_,_]) Z) Z (fun U aq=>?_);refine QE 4 Z ?_;exact bB Z Z aq.g1 (m:=5) Y Z Z ⟨by unfold bT ia;simp only[u,z,C,ct,cf]<;>rfl,aq.pop.pop.pop⟩
  refine Q6 aq 2 [0] Z Z<|bF aq Z (RK Z Z Z aq.g0 (m:=1) Z Z (cells':=[_,_,_,_,_]) Z) Z (fun U aq=>?_);refine af<|aI<|QA 2 Z<|O Z (RF Z aq.g0 (n:=5) (vs:=[_,_,_,_,_]) Z) Z<|dF aq Z (RK Z Z Z aq.g1 (m:=5) Z Z (cells':=[_,_,_,_,_]) Z) Z (fun U aq=>?_);refine QE 4 Z ?_;exact bB Z Z aq.g1 (m:=5) Y Z Z ⟨by unfold bT ia;simp only[u,z,C,ct,cf]<;>rfl,aq.pop.pop.pop⟩
 refine P1 6 Z<|ky Z (az Z Z Z) (fun A=>?_) (fun A=>?_)
 ·refine QD 6 Z ?_;refine O Z (ew (j:=.i64) (k:=.u64) Y Y Y Z) Z ?_;refine Q7 aq 2 [3,2] Z Z ?_;refine O Z (ew (j:=.i64) (k:=.u64) Y Y Y Z) Z ?_;refine vQ 1 Z ?_;refine O Z (ew (j:=.u64) (k:=.i64) Y Y Y Z) Z ?_;refine O Z (RD 4 Z) Z<|bF aq Z (RK Z Z Z aq.g0 (m:=1) Z Z (cells':=[_,_,_,_,_]) Z) Z (fun U aq=>?_);refine af<|aI<|QA 2 Z<|O Z (RF Z aq.g0 (n:=5) (vs:=[_,_,_,_,_]) Z) Z<|dF aq Z (RK Z Z Z aq.g1 (m:=5) Z Z (cells':=[_,_,_,_,_]) Z) Z (fun U aq=>?_);refine QE 4 Z ?_;exact bB Z Z aq.g1 (m:=5) Y Z Z ⟨by unfold bT ia;simp only[u,z,A,ct,cf]<;>rfl,aq.pop.pop.pop⟩
 refine P1 6 Z<|ky Z (az Z Z Z) (fun E=>?_) (fun E=>?_)
 ·refine QK aq 8 [3,2,4] Z Z<|bF aq Z (RK Z Z Z aq.g0 (m:=1) Z Z (cells':=[_,_,_,_,_]) Z) Z (fun U aq=>?_);refine af<|aI<|QA 2 Z<|O Z (RF Z aq.g0 (n:=5) (vs:=[_,_,_,_,_]) Z) Z<|dF aq Z (RK Z Z Z aq.g1 (m:=5) Z Z (cells':=[_,_,_,_,_]) Z) Z (fun U aq=>?_);refine QE 4 Z ?_;exact bB Z Z aq.g1 (m:=5) Y Z Z ⟨by unfold bT ia;simp only[u,z,A,E,ct,cf]<;>rfl,aq.pop.pop.pop⟩
 refine P1 6 Z (O Z (RB (places:=[(0,1),(1,1),(2,1),(3,1),(4,1)]) (zero:=[T,T,T,T,T]) (cs:=[_,_,_,_,_]) Z) Z<|dF aq Z (RK Z Z Z aq.g1 (m:=5) Z Z (cells':=[_,_,_,_,_]) Z) Z (fun U aq=>?_));refine QE 4 Z<|aE<|av (?_);exact bB Z Z aq.g1 (m:=5) Y Z Z ⟨by unfold bT ia;simp only[u,z,A,E,ct,cf]<;>rfl,aq.pop.pop.pop⟩
theorem Iv {G:Cx} (hG:Plain G) {K:H} {es:List de} {v:V} (h:bJ K 5 ji es v) (hl:es.length<=100000) {U:I} {L:Own} (aq:J U K L):bm Tryz.prog G 79 [v] U fun v U'=>∃M,cN 1 2 cz (dj es) v M/\J U' K (M++L):=by
 refine QX hG Tryz.func79 Z<|QA 7 Z ?_;obtain⟨LB,aq,aa⟩:=aq.named;refine Pw 7 Z<|O Z (RG h Z Z Z (e:=56) Z) Z<|PZ 4 Z<|bp ([3,5]++rg 8 18) (fun j t U=>∃(i:Nat) (u:V) (M:Own),j+i=es.length/\cN 1 2 cz (dj<|es.take i) u M/\t.get 3=some (u)/\t.get 8=some (.int .i64 (.ofNat i))/\J U K (M++LB)) (es.length) ⟨0,.au,[],Z,.inl ⟨Z,Z,Z⟩,Z,Z,aq⟩ ?_;clear aq;intro j3 t U ar hI;obtain⟨i,u,M,ap,R,ab,ac,aq⟩:=hI;obtain⟨oo,rfl⟩:=ar.q2 ab ac Z;refine Qz 6 Z<|aD Z (fun h9=>?_) (fun h9=>?_)
 ·refine OS 6 Z ?_;obtain⟨A,C,ae⟩:=cE h9;refine Rx (e:=56) (m:=5) h C Z Z Z Z (fun aK am W ao X=>?_);obtain rfl:=X;refine O Z (RJ aq W Z Z) Z<|kp aq Z (RH (cs:=[T,T,T,T,T])) (fun U b1 aq=>?_);refine bF aq Z (RK Z Z Z aq.g0 (m:=5) Z Z (cells':=[_,_,_,_,_]) Z) Z (fun U aq=>?_);refine Qa aq 7 [0,0] Z Z<|ky Z (an Z) (fun F=>?_) (fun F=>?_)
  ·refine QK aq 11 [3,0] Z Z<|gD aq Z (bW (e:=2) (m:=1) (z:=[T]) (cs:=[_]) Y Y Y Y<|bA Z Z Z Z bH) (fun _=>Z) (fun U b2 aq=>?_);replace aq:=aq.Jp;obtain⟨U,u2,M2,E,hO2,aq⟩:=eY (P:=Tryz.prog) (ts:= #[22,22]) (t:=22) (e:=2) (l2:=[A.read]) R aq (fm (xs:=[A.read]) (.inr ⟨Z,Z⟩) (by simp)) cz.leaf (by simp) (by simp) (by have:=mH (es.take i);rw[lT_] at this;omega) Z Y Y Y;refine O Z (dB Z Z Z Z Y E) Z<|Q2 2 Z<|aI<|Q0 4 Z<|aM ⟨j3-1,by omega,oF,i+1,u2,M2,by omega,by rw[jS C,show dR A=true from by unfold dR;rw[F];rfl];exact hO2,Z,cI<|bg (by have:=h.bG;omega),aq⟩
  refine QJ aq 6 [0,0] Z Z<|aD Z (fun Q=>?_) (fun Q=>?_)
  ·refine Q6 aq 4 [3,0] Z Z<|gD aq Z (bW (e:=2) (m:=1) (z:=[T]) (cs:=[_]) Y Y Y Y<|bA Z Z Z Z bH) (fun _=>Z) (fun U b2 aq=>?_);replace aq:=aq.Jp;obtain⟨U,u2,M2,E,hO2,aq⟩:=eY (P:=Tryz.prog) (ts:= #[22,22]) (t:=22) (e:=2) (l2:=[A.read]) R aq (fm (xs:=[A.read]) (.inr ⟨Z,Z⟩) (by simp)) cz.leaf (by simp) (by simp) (by have:=mH (es.take i);rw[lT_] at this;omega) Z Y Y Y;refine O Z (dB Z Z Z Z Y E) Z<|Q2 2 Z<|aI<|Q0 4 Z<|aM ⟨j3-1,by omega,oF,i+1,u2,M2,by omega,by rw[jS C,show dR A=true from by unfold dR;rw[F];exact Q];exact hO2,Z,cI<|bg (by have:=h.bG;omega),aq⟩
  refine aG<|aI<|Q0 4 Z ?_;have aq:=aq.pop;refine aM ⟨j3-1,by omega,oF,i+1,u,M,by omega,by rw[jS C,show dR A=false from by unfold dR;rw[F];exact Q];simpa using R,Z,cI<|bg (by have:=h.bG;omega),aq⟩
 refine PY 3 Z<|aU<|Q1 7 Z ?_;subst aa;exact aB Z Z ⟨M,by rw[tL_<|br h9] at R;exact R,aq⟩
theorem Iw {G:Cx} (hG:Plain G) {K:H} {l1 l2:List de} {v1 v2:V} (h1:bJ K 5 ji l1 v1) (h2:bJ K 5 ji l2 v2) {U:I} {L:Own} (aq:J U K L):bm Tryz.prog G 115 [v1,v2] U fun v U'=>v= .bool (dq l1 l2)/\J U' K L:=by
 refine QX hG Tryz.func115 Z<|PV 9 Z<|O Z (RG h1 Z Z Z (e:=56) Z) Z<|vQ 1 Z<|O Z (RG h2 Z Z Z (e:=56) Z) Z<|QC 3 Z<|aD Z (fun z=>?_) (fun z=>?_)
 ·refine QB 7 Z ?_;exact aB Z Z ⟨by first | rw[fp<|bN z] | rw[fM A C<|de.same.symm.trans<|bN E] | rw[ep (dA<|bn z) (br F) u],aq⟩
 refine Pu 6 Z<|O Z (RG h1 Z Z Z (e:=56) Z) Z<|PZ 4 Z ?_;obtain⟨LL1,aq,hLL1⟩:=aq.named;refine bp ([4,5]++rg 13 13) (fun j t U=>∃(i:Nat),j+i=l1.length/\(∀k,k<i->l1[k]?=l2[k]?)/\t.get 13=some (.int .i64 (.ofNat i))/\J U K LL1) (l1.length) ⟨0,Z,fun k hk=>absurd hk (nZ_ _),Z,aq⟩ ?_;clear aq;intro j4 t U ar hI;obtain⟨i,hj,u,M,aq⟩:=hI;subst hLL1;obtain⟨oo,rfl⟩:=ar.q1 M Z;refine Qz 6 Z<|aD Z (fun F=>?_) (fun F=>?_)
 ·refine OR 11 Z<|aS (l:=zp [0,1,2,3,4,5,6,7,8]) Y Y<|Q5 2 Z ?_;obtain⟨ao,A,Q⟩:=cE F;refine Ry (e:=56) (m:=5) h1 A Z Z Z Z Z (fun ap ab R ac W=>?_);obtain rfl:=W;refine al Z Z (RJ aq R Z Z) Z<|Q5 2 Z ?_;obtain⟨aK,C⟩:=cq (show i<l2.length from by rw[<-dA (bn z)];exact Q);refine Ry (e:=56) (m:=5) h2 C Z Z Z Z Z (fun a0 ae X am aa=>?_);obtain rfl:=aa;refine al Z Z (RJ aq X Z Z) Z<|al Z Z (Ax (n:=5) (ca:=[_,_,_,_,_]) (cb:=[_,_,_,_,_]) Y Z Z Z Z) Z<|QF 2 Z<|aD Z (fun E=>?_) (fun E=>?_)
  ·refine Q1 6 Z<|aE<|av<|bq<|aE<|av (?_);exact aB Z Z ⟨by first | rw[fp<|bN z] | rw[fM A C<|de.same.symm.trans<|bN E] | rw[ep (dA<|bn z) (br F) u],aq⟩
  refine aG<|aI<|Q0 4 Z<|aM ⟨j4-1,by omega,oF,i+1,by omega,jT u A C<|de.same.symm.trans<|bn E,cI<|bg (by have:=h1.bG;omega),aq⟩
 refine PY 3 Z<|aU<|Q1 6 Z ?_;exact aB Z Z ⟨by first | rw[fp<|bN z] | rw[fM A C<|de.same.symm.trans<|bN E] | rw[ep (dA<|bn z) (br F) u],aq⟩
theorem OH {G:Cx} (C:Plain G) {K:H} {s:TS} {evv:V} (z:bJ K 5 ji s.events evv) {tb et:Nat} {ro:Bool} {F M Q R W c6 X:V} (E:K tb (.row [F,M,Q,R,evv,W,c6,X] et ro)) {l:List de} {lv:V} (hl:bJ K 5 ji l lv) {U:I} {L:Own} (aq:J U K L):
  bm Tryz.prog G 80 [.ptr tb 0,lv] U fun v U'=>v= .bool (pX s l)/\J U' K L:=by
 refine QX C Tryz.func80 Z<|QA 8 Z<|O Z (fh Z) Z<|O Z (RD 4 Z) Z<|O Z (RE Z (aq.fx E) Z) Z<|O Z (RG z Z Z Z (e:=56) Z) Z<|vQ 1 Z<|O Z (RG hl Z Z Z (e:=56) Z) Z<|vQ 1 Z<|ky Z (an Z) (fun u=>?_) (fun u=>?_)
 ·refine vQ 1 Z<|O Z (fh Z) Z<|O Z (RD 4 Z) Z<|O Z (RE Z (aq.fx E) Z) Z<|vQ 1 Z<|O Z (RG hl Z Z Z (e:=56) Z) Z<|Ib (e:=56) (m:=5) (k:=l.length) z (br<|bN u) Z Z Y Y Z Z (fun _=>Z) (fun aa A=>?_);refine vQ 1 Z<|bj Z (RC Z Z Z) (fun _=>Z) (Iw C A hl aq) (fun U aq=>?_);refine QE 5 Z ?_;exact aB Z Z ⟨cB (by unfold pX;rw[show bR (.ofNat s.events.length) (.ofNat l.length)=false from bN u]<;>rfl),aq⟩
 refine QE 14 Z ?_;exact aB Z Z ⟨cB (by unfold pX;rw[show bR (.ofNat s.events.length) (.ofNat l.length)=true from bn u]<;>rfl),aq⟩
theorem Na {G:Cx} (z:Plain G) {K:H} (u:mK G K) {k:Nat} {c:XC} {v:V} (hi:bJ K 6 (gp K k) c.ins v) {U:I} {L:Own} (aq:J U K L):
  bm Tryz.prog G 77 [.agg [.int .i64 c.bc,v]] U fun v U'=>v= .int .i64 (fQ k c)/\J U' K L:=by
 refine QX z Tryz.func77 Z<|QA 2 Z<|kp aq Z (cA Z Z) (fun U b1 aq=>?_);refine Pw 6 Z<|O Z (RF Z aq.g0 (n:=2) (vs:=[_,_]) Z) Z<|bj Z (RC Z Z Z) (fun _=>Z) (KQ z u hi aq) (fun U aq=>?_);refine QC 2 Z<|aD Z (fun h5=>?_) (fun h5=>?_)
 ·refine QB 7 Z ?_;exact aB Z Z ⟨cJ (by unfold fQ;rw[h5];rfl),aq.pop⟩
 refine Pu 5 Z<|O Z (RF Z aq.g0 (n:=2) (vs:=[_,_]) Z) Z<|bj Z (RC Z Z Z) (fun _=>Z) (uX z u hi aq) (fun U aq=>?_);refine QC 9 Z<|aD Z (fun A=>?_) (fun A=>?_)
 ·refine QB 8 Z ?_;exact aB Z Z ⟨cJ (by unfold fQ;rw[h5,show bd (D (cS k c) 0)=true from A];rfl),aq.pop⟩
 refine QB 8 Z ?_;exact aB Z Z ⟨cJ (by unfold fQ;rw[h5,show bd (D (cS k c) 0)=false from A];rfl),aq.pop⟩
end Go.Ev
namespace Go.Ev
variable [Env]
def xy (k:Nat) (c:XC) (A:List Int):Nat->TS->TS
 | 0,s=>s
 | f+1,s=>bif (cr k c s).2 then xy k c A f (cr k c s).1 else
  bif (cr k c s).1.asks then(match A[s.asked]? with | some v=>xy k c A f (eH k c (cr k c s).1 v) | none=>(cr k c s).1) else(cr k c s).1
theorem JH {k:Nat} {c:XC} {out:List Nat} (z:eN (cV c) c.ins.length out):∀(q:Nat) (s:TS) (f f':Nat),out[q]?=some s.at_->q<f->q<f'->vX k c f s=vX k c f' s:=by
 intro q;induction q using Nat.strongRecOn with
 | _ q ih=>
  intro s f f' hq h1 h2;cases u:(cr k c s).2 with
  | false=>rw[xA B u,xA B u]
  | true=>
   rw[tu B u,tu B u];obtain⟨x,hx⟩:∃x,c.ins[s.at_]?=some x:=⟨_,gC<|z.lt _<|gB_ hq⟩
   grind [oI]
theorem vO {k:Nat} {c:XC} {s:TS}:(cr k c s).1.asked=s.asked:=(qX k c s).2
theorem Kx {k:Nat} {c:XC} {A:List Int} {s:TS} (h:s.asks=false):kI k c A s=s:=by
 cases A with
 | nil=>rfl
 | cons v r=>unfold kI;rw[h];rfl
theorem Cg {k:Nat} {c:XC} {s:TS} (h:lV c s) (u:s.asks=true) (v:Int):(eH k c s v).at_∈cV c s.at_:=by
 obtain⟨x,hx,hk⟩:=h u;show s.at_+1∈cV c s.at_;unfold cV;rw[hx];show _∈(fw x s.at_).map Int.toNat
 have:fw x s.at_= [.ofNat (s.at_+1)]:=by
  unfold fw;rcases hk with hk | hk | hk | hk<;>rw[hk]<;>rfl
 rw[this];simp
theorem Oa {k:Nat} {c:XC} (hc:eK k c) {out:List Nat} (ho:eF c=some out) (u:eN (cV c) c.ins.length out) (A:List Int):
  ∀(f q:Nat) (s:TS),s.asks=false->out[q]?=some s.at_->q<f->xy k c A f s=kI k c (A.drop s.asked) (vX k c f s):=by
 intro f;induction f with
 | zero=>omega
 | succ f ih=>
  intro q s E hq aa;obtain⟨x,hx⟩:∃x,c.ins[s.at_]?=some x:=⟨_,gC<|u.lt _<|gB_ hq⟩;have hask:=uS (k:=k) hc E;unfold xy;cases z:(cr k c s).2 with
  | true=>
   grind [oI,vO,tu]
  | false=>
   rw[xA B z];show(bif (cr k c s).1.asks then _ else _)=_;cases hk:(cr k c s).1.asks with
   | false=>rw[Kx hk];rfl
   | true=>
    show(match A[s.asked]? with | some v=>_ | none=>_)=_;cases C:A[s.asked]? with
    | none=>rw[ff (List.getElem?_eq_none_iff.1 C)];rfl
    | some v=>
     dsimp only;have aq:(cr k c s).1.at_=s.at_:=sY z;have hn:=Cg (k:=k) hask.1 hk v;rw[aq] at hn;obtain⟨q',h3,h4⟩:=u.ze q _ hq _ hn;have hql:=(gA.1 hq).1;rw[ih q' _ Z h4 B,cO C];show kI k c (A.drop ((cr k c s).1.asked+1)) _=(bif (cr k c s).1.asks then _ else _)
     grind [vO,ez,JH,jP]
theorem Mb {k:Nat} {c:XC} (hc:eK k c) {out:List Nat} (u:eF c=some out) (z:eN (cV c) c.ins.length out) (A:List Int):xy k c A out.length (ij c)=gN k c A:=by
 obtain⟨q,hq⟩:=gO_ z.zero;have hl:=(gA.1 hq).1;rw[Oa hc u z A _ q (ij c) Z hq hl];show kI k c A _=kI k c A (vX k c (jP c) _);unfold jP;rw[u];rfl
theorem Mc {k:Nat} {c:XC} {A:List Int} {j:Nat} {s:TS} (hj:1<=j) (h:(cr k c s).2=true):xy k c A j s=xy k c A (j-1) (cr k c s).1:=by
 obtain⟨j,rfl⟩:∃m,j=m+1:=⟨j-1,by omega⟩;show(bif _ then _ else _)=_;rw[h];rfl
theorem Ma {k:Nat} {c:XC} {A:List Int} {j:Nat} {s:TS} {v:Int} (hj:1<=j) (h:(cr k c s).2=false) (u:(cr k c s).1.asks=true) (hv:A[s.asked]?=some v):xy k c A j s=xy k c A (j-1) (eH k c (cr k c s).1 v):=by
 obtain⟨j,rfl⟩:∃m,j=m+1:=⟨j-1,by omega⟩;show(bif _ then _ else bif _ then _ else _)=_;rw[h,u,hv];rfl
theorem Ob {k:Nat} {c:XC} {A:List Int} {j:Nat} {s:TS} (hj:1<=j) (h:(cr k c s).2=false) (ha:(cr k c s).1.asks=true->A[s.asked]?=none):xy k c A j s=(cr k c s).1:=by
 obtain⟨j,rfl⟩:∃m,j=m+1:=⟨j-1,by omega⟩;show(bif _ then _ else bif _ then _ else _)=_
 grind
end Go.Ev
namespace Go.Ev
variable [Env]
open Go.Proofs
set_option maxRecDepth 4000
set_option maxHeartbeats 8000000
theorem Cs {G:Cx} (F:Plain G) {K:H} (a:rT) (vv:Int) {U:I} {L:Own} (aq:J U K L):bm Tryz.prog G 94 [.agg [.int .i64 a.kind,.int .i64 a.loc,.int .i64 a.order,.int .i64 a.a,.int .i64 a.b],.int .i64 vv] U fun v U'=>v= .tuple [.agg<|ints (bT a vv).ints,.int .i64<|ia a]/\J U' K L:=by
 refine QX F Tryz.func94 Z<|QA 2 Z<|kp aq Z (cA Z Z) (fun U b1 aq=>?_);refine kp aq Z (RH (cs:=[T,T,T,T,T])) (fun U b2 aq=>?_);refine Qa aq 10 [1,1,2,1] Z Z (O Z (RB (places:=[(0,1),(1,1),(2,1),(3,1),(4,1)]) (zero:=[T,T,T,T,T]) (cs:=[_,_,_,_,_]) Z) Z<|kp aq Z (RH (cs:=[T,T,T,T,T])) (fun U b3 aq=>?_));refine bF aq Z (RK Z Z Z aq.g0 (m:=5) Z Z (cells':=[_,_,_,_,_]) Z) Z (fun U aq=>?_);refine P9 aq 9 [0,2] Z Z<|aO<|QA 2 Z<|ky Z (az Z Z Z) (fun u=>?_) (fun u=>?_)
 ·refine QK aq 6 [0] Z Z<|bF aq Z (RK Z Z Z aq.g0 (m:=1) Z Z (cells':=[_,_,_,_,_]) Z) Z (fun U aq=>?_);refine af<|aI<|QA 2 Z<|O Z (RF Z aq.g0 (n:=5) (vs:=[_,_,_,_,_]) Z) Z<|dF aq Z (RK Z Z Z aq.g1 (m:=5) Z Z (cells':=[_,_,_,_,_]) Z) Z (fun U aq=>?_);refine QE 4 Z ?_;exact bB Z Z aq.g1 (m:=5) Y Z Z ⟨by unfold bT ia;simp only[u,ct,cf]<;>rfl,aq.pop.pop.pop⟩
 refine P1 6 Z<|ky Z (az Z Z Z) (fun z=>?_) (fun z=>?_)
 ·refine QJ aq 12 [3,2] Z Z<|aD Z (fun C=>?_) (fun C=>?_)
  ·refine Q6 aq 2 [0] Z Z<|bF aq Z (RK Z Z Z aq.g0 (m:=1) Z Z (cells':=[_,_,_,_,_]) Z) Z (fun U aq=>?_);refine af<|aI<|QA 2 Z<|O Z (RF Z aq.g0 (n:=5) (vs:=[_,_,_,_,_]) Z) Z<|dF aq Z (RK Z Z Z aq.g1 (m:=5) Z Z (cells':=[_,_,_,_,_]) Z) Z (fun U aq=>?_);refine QE 4 Z ?_;exact bB Z Z aq.g1 (m:=5) Y Z Z ⟨by unfold bT ia;simp only[u,z,bN C,ct,cf]<;>rfl,aq.pop.pop.pop⟩
  refine Q6 aq 4 [4,2,4] Z Z<|bF aq Z (RK Z Z Z aq.g0 (m:=1) Z Z (cells':=[_,_,_,_,_]) Z) Z (fun U aq=>?_);refine af<|aI<|QA 2 Z<|O Z (RF Z aq.g0 (n:=5) (vs:=[_,_,_,_,_]) Z) Z<|dF aq Z (RK Z Z Z aq.g1 (m:=5) Z Z (cells':=[_,_,_,_,_]) Z) Z (fun U aq=>?_);refine QE 4 Z ?_;exact bB Z Z aq.g1 (m:=5) Y Z Z ⟨by unfold bT ia;simp only[u,z,bn C,ct,cf]<;>rfl,aq.pop.pop.pop⟩
 refine P1 6 Z<|ky Z (az Z Z Z) (fun A=>?_) (fun A=>?_)
 ·refine QD 6 Z ?_;refine O Z (ew (j:=.i64) (k:=.u64) Y Y Y Z) Z ?_;refine Q7 aq 2 [3,2] Z Z ?_;refine O Z (ew (j:=.i64) (k:=.u64) Y Y Y Z) Z ?_;refine vQ 1 Z ?_;refine O Z (ew (j:=.u64) (k:=.i64) Y Y Y Z) Z ?_;refine O Z (RD 4 Z) Z<|bF aq Z (RK Z Z Z aq.g0 (m:=1) Z Z (cells':=[_,_,_,_,_]) Z) Z (fun U aq=>?_);refine af<|aI<|QA 2 Z<|O Z (RF Z aq.g0 (n:=5) (vs:=[_,_,_,_,_]) Z) Z<|dF aq Z (RK Z Z Z aq.g1 (m:=5) Z Z (cells':=[_,_,_,_,_]) Z) Z (fun U aq=>?_);refine QE 4 Z ?_;exact bB Z Z aq.g1 (m:=5) Y Z Z ⟨by unfold bT ia;simp only[u,z,A,ct,cf]<;>rfl,aq.pop.pop.pop⟩
 refine P1 6 Z<|ky Z (az Z Z Z) (fun E=>?_) (fun E=>?_)
 ·refine QK aq 8 [3,2,4] Z Z<|bF aq Z (RK Z Z Z aq.g0 (m:=1) Z Z (cells':=[_,_,_,_,_]) Z) Z (fun U aq=>?_);refine af<|aI<|QA 2 Z<|O Z (RF Z aq.g0 (n:=5) (vs:=[_,_,_,_,_]) Z) Z<|dF aq Z (RK Z Z Z aq.g1 (m:=5) Z Z (cells':=[_,_,_,_,_]) Z) Z (fun U aq=>?_);refine QE 4 Z ?_;exact bB Z Z aq.g1 (m:=5) Y Z Z ⟨by unfold bT ia;simp only[u,z,A,E,ct,cf]<;>rfl,aq.pop.pop.pop⟩
 refine P1 6 Z (O Z (RB (places:=[(0,1),(1,1),(2,1),(3,1),(4,1)]) (zero:=[T,T,T,T,T]) (cs:=[_,_,_,_,_]) Z) Z<|dF aq Z (RK Z Z Z aq.g1 (m:=5) Z Z (cells':=[_,_,_,_,_]) Z) Z (fun U aq=>?_));refine QE 4 Z<|aE<|av (?_);exact bB Z Z aq.g1 (m:=5) Y Z Z ⟨by unfold bT ia;simp only[u,z,A,E,ct,cf]<;>rfl,aq.pop.pop.pop⟩
theorem Hw {G:Cx} (hG:Plain G) {K:H} {es:List de} {v:V} (h:bJ K 5 ji es v) (hl:es.length<=100000) {U:I} {L:Own} (aq:J U K L):bm Tryz.prog G 86 [v] U fun v U'=>∃M,cN 1 2 cz (dj es) v M/\J U' K (M++L):=by
 refine QX hG Tryz.func86 Z<|PU 17 Z<|bp (rg 3 30) (fun j t U=>∃(i:Nat) (u:V) (M:Own),j+i=es.length/\cN 1 2 cz (dj<|es.take i) u M/\t.get 3=some (u)/\t.get 4=some (.int .i64 (.ofNat i))/\J U K (M++L)) (es.length) ⟨0,.au,[],Z,cN.nil,Z,Z,aq⟩ ?_;clear aq;intro j3 t U ar hI;obtain⟨i,u,M,be,hO,a3,a4,aq⟩:=hI;obtain⟨oo,rfl⟩:=ar.q2 a3 a4 Z;refine PV 5 Z<|O Z (RG h Z Z Z (e:=56) Z) Z<|QC 3 Z<|aD Z (fun Q=>?_) (fun Q=>?_)
 ·refine OS 8 Z ?_;obtain⟨aa,A,a7⟩:=cE Q;refine Rx (e:=56) (m:=5) h A Z Z Z Z (fun bi a8 ae a9 am=>?_);obtain rfl:=am;refine bZ ae Z Z Z (k:=0) Y (lb Z) (fun _=>Z) (fun bl ao=>?_);refine O Z (RI aq ao Z Z) Z<|ky Z (az Z Z Z) (fun W=>?_) (fun W=>?_)
  ·refine QD 15 Z<|Rx (e:=56) (m:=5) h A Z Z Z Z (fun a5 ap C aK E=>?_);obtain rfl:=E;refine bZ C Z Z Z (k:=3) Y (lb Z) (fun _=>Z) (fun a6 F=>?_);refine O Z (RI aq F Z Z) Z<|gD aq Z (bW (e:=2) (m:=1) (z:=[T]) (cs:=[_]) Y Y Y Y<|bA Z Z Z Z bH) (fun _=>Z) (fun U b1 aq=>?_);replace aq:=aq.pull (.there .here);replace aq:=aq.pull (.cH<|ei.here (X:=[_]));refine sT (R:=cz) (m:=1) (e:=2) hO aq (eJ (m:=1) Z Z) cz.leaf (by have:=mH (es.take i);rw[lT_] at this;show _+1<=_;omega) Z Z Z Z Z Z Z (fun _=>Z) (fun U u32 ab hO32 aq=>?_);refine Q2 2 Z<|aI<|Q0 5 Z<|aM ⟨j3-1,(by have:=bk Q;omega),oF,i+1,u32,ab,(by have:=bk Q;omega),(by rw[jS A,show dR aa=true from by unfold dR;rw[W];rfl];exact hO32),Z,cI<|bg (by have:=h.bG;omega),aq⟩
  refine Q3 3 Z<|Rx (e:=56) (m:=5) h A Z Z Z Z (fun bo bb a0 bc a1=>?_);obtain rfl:=a1;refine bZ a0 Z Z Z (k:=0) Y (lb Z) (fun _=>Z) (fun bs a2=>?_);refine O Z (RI aq a2 Z Z) Z<|QC 4 Z<|aD Z (fun ac=>?_) (fun ac=>?_)
  ·refine ai Z<|Q3 3 Z<|Rx (e:=56) (m:=5) h A Z Z Z Z (fun a5 ap C aK E=>?_);obtain rfl:=E;refine bZ C Z Z Z (k:=3) Y (lb Z) (fun _=>Z) (fun a6 F=>?_);refine O Z (RI aq F Z Z) Z<|gD aq Z (bW (e:=2) (m:=1) (z:=[T]) (cs:=[_]) Y Y Y Y<|bA Z Z Z Z bH) (fun _=>Z) (fun U b1 aq=>?_);replace aq:=aq.pull (.there .here);replace aq:=aq.pull (.cH<|ei.here (X:=[_]));refine sT (R:=cz) (m:=1) (e:=2) hO aq (eJ (m:=1) Z Z) cz.leaf (by have:=mH (es.take i);rw[lT_] at this;show _+1<=_;omega) Z Z Z Z Z Z Z (fun _=>Z) (fun U u32 ab hO32 aq=>?_);refine Q2 2 Z<|aI<|Q0 5 Z<|aM ⟨j3-1,(by have:=bk Q;omega),oF,i+1,u32,ab,(by have:=bk Q;omega),(by rw[jS A,show dR aa=true from by unfold dR;rw[W];exact ac];exact hO32),Z,cI<|bg (by have:=h.bG;omega),aq⟩
  refine aG<|aI<|Q0 5 Z<|aM ⟨j3-1,(by have:=bk Q;omega),oF,i+1,u,M,(by have:=bk Q;omega),(by rw[jS A,show dR aa=false from by unfold dR;rw[W];exact ac];simpa using hO),Z,cI<|bg (by have:=h.bG;omega),aq⟩
 refine PY 3 Z<|aU<|Q1 7 Z ?_;exact aB Z Z ⟨M,by rw[tL_<|br Q] at hO;exact hO,aq⟩
def AU (l of_:List de):Bool:=bif bR (.ofNat of_.length) (.ofNat l.length) then false else dq (of_.take l.length) l
theorem LS {G:Cx} (hG:Plain G) {K:H} {l of_:List de} {v1 v2:V} (h1:bJ K 5 ji l v1) (h2:bJ K 5 ji of_ v2) {U:I} {L:Own} (aq:J U K L):bm Tryz.prog G 87 [v1,v2] U fun v U'=>v= .bool (AU l of_)/\J U' K L:=by
 refine QX hG Tryz.func87 Z<|PV 9 Z<|O Z (RG h1 Z Z Z (e:=56) Z) Z<|vQ 1 Z<|O Z (RG h2 Z Z Z (e:=56) Z) Z<|QC 3 Z<|aD Z (fun u=>?_) (fun u=>?_)
 ·refine QB 7 Z ?_;exact aB Z Z ⟨cB (by unfold AU;rw[u];rfl),aq⟩
 refine Pt 9 Z ?_;obtain⟨LL1,aq,hLL1⟩:=aq.named;refine bp ([4,5]++rg 11 15) (fun j t U=>∃(i:Nat),j+i=l.length/\(∀k,k<i->l[k]?=of_[k]?)/\t.get 5=some (.int .i64 (.ofNat i))/\J U K LL1) (l.length) ⟨0,Z,fun k hk=>absurd hk (nZ_ _),Z,aq⟩ ?_;clear aq;intro j4 t U ar hI;obtain⟨i,hj,A,X,aq⟩:=hI;subst hLL1;obtain⟨oo,rfl⟩:=ar.q1 X Z;refine PV 5 Z<|O Z (RG h1 Z Z Z (e:=56) Z) Z<|QC 3 Z<|aD Z (fun z=>?_) (fun z=>?_)
 ·refine OR 5 Z<|aS (l:=zp [0,1,2,3,4,5,6,7,8]) Y Y<|Q5 2 Z ?_;obtain⟨ao,C,aa⟩:=cE z;refine Ry (e:=56) (m:=5) h1 C Z Z Z Z Z (fun ap ab M ac Q=>?_);obtain rfl:=Q;refine al Z Z (RJ aq M Z Z) Z<|Q5 2 Z ?_;obtain⟨aK,E⟩:=cq (show i<of_.length from by have:=br u;omega);refine Ry (e:=56) (m:=5) h2 E Z Z Z Z Z (fun a0 ae R am W=>?_);obtain rfl:=W;refine al Z Z (RJ aq R Z Z) Z<|al Z Z (Ax (n:=5) (ca:=[_,_,_,_,_]) (cb:=[_,_,_,_,_]) Y Z Z Z Z) Z<|QF 2 Z<|aD Z (fun F=>?_) (fun F=>?_)
  ·refine Q1 6 Z<|aE<|av<|bq<|aE<|av (?_);exact aB Z Z ⟨cB (by unfold AU;rw[u];show _=dq (of_.take l.length) l;rw[fM (i:=i) (by rw[List.getElem?_take,if_pos<|bk z];exact E) C (by have:=de.same.symm.trans (bN F);rw[ni] at this⊢;exact fun e=>this e.symm)]),aq⟩
  refine aG<|aI<|Q0 5 Z<|aM ⟨j4-1,(by have:=bk z;omega),oF,i+1,(by have:=bk z;omega),jT A C E<|de.same.symm.trans<|bn F,cI<|bg (by have:=h1.bG;omega),aq⟩
 refine PY 3 Z<|aU<|Q1 6 Z ?_;exact aB Z Z ⟨cB (by unfold AU;rw[u];show _=dq (of_.take l.length) l;rw[ep (i:=i) (by rw[lT_];have:=br u;omega) (by rw[lT_];have:=br z;omega) (fun q hq=>by rw[List.getElem?_take];split;exact(A q hq).symm;exact(gN_ B).symm)]),aq⟩
end Go.Ev
namespace Go.Ev
variable [Env]
def wE (kind:Int):Bool:=bif D kind 2 then true else bif D kind 4 then true else bif D kind 5 then true else D kind 6
theorem Lx {n:Int} (h:wE n=true):n=2∨n=4∨n=5∨n=6:=by
 grind [wE,eqv]
section
variable {k:Nat} {x:XI} {s:TS}
theorem KI (h:x.kind=1):dS k x s=({s with bc:=s.bc.set x.qd.toNat (fW k s.bc x 0),at_:=s.at_+1},true):=by unfold dS;rw[h];rfl
theorem FG (h:x.kind=3):dS k x s=({s with events:=s.events++[⟨2,x.loc,x.order,0,fW k s.bc x 0⟩],at_:=s.at_+1},true):=by unfold dS;rw[h];rfl
theorem FE (h:x.kind=7):dS k x s=({s with events:=s.events++[⟨4,0,x.order,0,0⟩],at_:=s.at_+1},true):=by unfold dS;rw[h];rfl
theorem It (h:x.kind=10):dS k x s=({s with at_:=x.to.toNat},true):=by unfold dS;rw[h];rfl
theorem FF (h:x.kind=8∨x.kind=9) (h0:D (fW k s.bc x 0) 0=false):dS k x s=({s with at_:=s.at_+1},true):=by
 unfold dS;rcases h with h | h<;>rw[h,h0]<;>rfl
theorem step_block (h:x.kind=8) (h0:D (fW k s.bc x 0) 0=true):dS k x s=({s with fin:=2},false):=by unfold dS;rw[h,h0];rfl
theorem Is (h:x.kind=9) (h0:D (fW k s.bc x 0) 0=true):dS k x s=({s with fin:=3},false):=by unfold dS;rw[h,h0];rfl
theorem KD (h:x.kind=11) (h0:D (fW k s.bc x 0) 0=true):dS k x s=({s with at_:=x.to.toNat},true):=by unfold dS;rw[h,h0];rfl
theorem KE (h:x.kind=11) (h0:D (fW k s.bc x 0) 0=false):dS k x s=({s with at_:=s.at_+1},true):=by unfold dS;rw[h,h0];rfl
theorem FD (h:x.kind=12):dS k x s=({s with fin:=4},false):=by unfold dS;rw[h];rfl
theorem step_done (h:x.kind=13):dS k x s=({s with fin:=1},false):=by unfold dS;rw[h];rfl
theorem DC (h:x.kind=2∨x.kind=4∨x.kind=5∨x.kind=6):dS k x s=({s with asks:=true},false):=by
 unfold dS;rcases h with h | h | h | h<;>rw[h]<;>rfl
theorem zG {i:Nat} {bc:List Int}:fW k bc x i=((x.exprs.map<|eQ bc k)[i]?).getD 0:=by unfold fW;simp_all
theorem mi {i:Nat} {bc:List Int} {y:Int} (h:(x.exprs.map<|eQ bc k)[i]?=some y):fW k bc x i=y:=by rw[zG,h];rfl
theorem Gi {i:Nat} {bc:List Int} (h:(x.exprs.map<|eQ bc k).length<=i):fW k bc x i=0:=by rw[zG,gN_ h];rfl
end
theorem gW {k:Nat} {c:XC} {s:TS} {x:XI} (h:c.ins[s.at_]?=some x):cr k c s=dS k x s:=by unfold cr;rw[h]
section
variable {k:Nat} {c:XC} {s S0:TS} {x:XI} {out:List Nat} {A:List Int} {q j:Nat}
theorem pz (z:eN (cV c) c.ins.length out) (hx:c.ins[s.at_]?=some x) (u:wb c out s) (hq:out[q]?=some s.at_) (aa:q<j) (he:xy k c A out.length (ij c)=xy k c A j s) (hs:cr k c s=(S0,true)):
  wb c out S0/\(∃q',out[q']?=some S0.at_/\q'<j-1)/\xy k c A out.length (ij c)=xy k c A (j-1) S0:=by
 have h1:=u.step (k:=k) z
 grind [oI,Mc]
theorem HP (u:eK k c) (C:eN (cV c) c.ins.length out) (z:wb c out s) (E:s.asks=false) (hq:out[q]?=some s.at_) (aa:q<j) (he:xy k c A out.length (ij c)=xy k c A j s) (F:cr k c s=(S0,false)) (G:S0.asks=true) {v:Int} (hv:A[s.asked]?=some v):
  wb c out (eH k c S0 v)/\(∃q',out[q']?=some (eH k c S0 v).at_/\q'<j-1)/\xy k c A out.length (ij c)=xy k c A (j-1) (eH k c S0 v):=by
 have h1:=z.step (k:=k) C;have h2:=(uS (k:=k) u E).1;rw[F] at h1 h2;have aq:S0.at_=s.at_:=by grind [sY]
 have hn:=Cg (k:=k) h2 G v;rw[aq] at hn;obtain⟨q',h3,h4⟩:=C.ze q _ hq _ hn
 grind [qg,Ma]
theorem xB (he:xy k c A out.length (ij c)=xy k c A j s) (hj:1<=j) (u:cr k c s=(S0,false)) (z:S0.asks=true->A[s.asked]?=none):xy k c A out.length (ij c)=S0:=by
 rw[he,Ob hj (by rw[u]) (by rw[u];exact z),u]
end
theorem H.NI {K:H} {M:Own} {b:Nat} {o:cM} (h:(b,o)∈M):K.gF M b o:=.inr h
theorem Mh {K:H} {b e:Nat} {ro:Bool} {l:List Int} {n:Nat} (u:l.length=n) (hk:K b (.row (l.map<|V.int .i64) e ro)) (hl:n<=1000000):bJ K 1 cz l (.slice b 0 n (.known n)):=by
 subst u;refine .inr ⟨b,0,_,_,e,ro,Z,.inr ⟨_,Z,nR_ _⟩,hk,by simp,by omega,fun i x hx=>?_⟩;have:(l.map<|V.int .i64)[0+i*1]?=some (.int .i64 x):=by simp_all
 rw[cO this];rfl
end Go.Ev
namespace Go.Ev
variable [Env]
open Go.Proofs
set_option maxRecDepth 4000
set_option maxHeartbeats 8000000
theorem L4 {bc nins:Int} {k kn:Nat} {x:XI} {sh:lf} (u:gO bc nins k x sh=true) (z:jC[kn]?=some sh):x.exprs.length<=2:=by
 have h1:=(ig u).exprs;have A:∀s∈jC,s.exprs<=2:=by decide
 have:=A sh (gB_ z);omega
def tT (m n:Int) (kind:Int):Bool:=bif D kind m then true else D kind n
theorem BG {m n kind:Int} (h:tT m n kind=true):kind=m∨kind=n:=by
 unfold tT at h;cases h1:D kind m with
 | true=>exact .inl (eqv h1)
 | false=>rw[h1] at h;exact .inr<|eqv h
theorem G8 {m n kind:Int} (h:tT m n kind=false):kind≠m/\kind≠n:=by
 unfold tT at h;cases h1:D kind m with
 | true=>rw[h1] at h;cases h
 | false=>rw[h1] at h;exact⟨AM.1 h1,AM.1 h⟩
theorem Lw {n:Int} (h:wE n=false):n≠2/\n≠4/\n≠5/\n≠6:=by
 unfold wE at h;cases u:D n 2 with
 | true=>rw[u] at h;cases h
 | false=>
 cases h4:D n 4 with
 | true=>rw[u,h4] at h;cases h
 | false=>
 cases h5:D n 5 with
 | true=>rw[u,h4,h5] at h;cases h
 | false=>rw[u,h4,h5] at h;exact⟨AM.1 u,AM.1 h4,AM.1 h5,AM.1 h⟩
theorem Hz {kn:Nat} {n:Int} (G:n= .ofNat kn) (h1:1<=kn) (aa:kn<=13) (K:D n 1=false) (L:wE n=false) (u:D n 3=false) (z:D n 7=false) (A:tT 8 9 n=false) (C:D n 10=false) (E:D n 11=false) (F:tT 12 13 n=false):False:=by
 have a1:=AM.1 K;have a3:=AM.1 u;have a7:=AM.1 z;have a10:=AM.1 C;have a11:=AM.1 E;obtain⟨a8,a9⟩:=G8 A;obtain⟨ab,ac⟩:=G8 F;obtain⟨a2,a4,a5,a6⟩:=Lw L;have h2:n=((kn:Nat):Int):=G;omega
def NG (k:Nat) (c:XC) (R:TS) (K:H) (L:Own) (v:V) (U':I):Prop:=∃(K1:H) (ev:V) (fn:Int) (a:rT) (w7 w8 w9:V),v= .agg [ev,.int .i64 fn,.int .i64 a.kind,.int .i64 a.loc,.int .i64 a.order,.int .i64 a.a,.int .i64 a.b,w7,w8,w9]/\H.le K K1/\bJ K1 5 ji R.events ev/\(R.asks=true->fn=0/\a=lF k c R)/\(R.asks=false->fn=R.fin/\a=gz)/\cW w8=some [w8]/\jb w7=true/\jb w8=true/\jb w9=true/\cW w7=some [w7]/\cW w9=some [w9]/\J U' K1 L
theorem Qm {G:Cx} (hG:Plain G) {K:H} {k:Nat} {c:XC} {cv:V} (hi:bJ K 6 (gp K k) c.ins cv) (ae:eK k c) {od:List Nat} (ho:eF c=some od) (hR:eN (cV c) c.ins.length od) {A:List Int} {va:V} (hA:bJ K 1 cz A va) (g4:A.length<=100000) {U:I} {L:Own} (aq:J U K L):
  bm Tryz.prog G 119 [.agg [.int .i64 c.bc,cv],va] U (NG k c (gN k c A) K L):=by
 have c7:c.bc= .ofNat c.bc.toNat:=by have:=ae.Ac;show c.bc=((c.bc.toNat:Nat):Int);omega
 have fk:c.bc.toNat<=16:=by have:=ae.yq;omega
 have hol:=oG ae ho;have hlen:=ae.len;have hrun:=Mb ae ho hR A;refine QX hG Tryz.func119 Z<|QA 2 Z<|kp aq Z (cA Z Z) (fun U b1 aq=>?_);refine kp aq Z (RH (cs:=[.au,T,T,T,T,T,T,T,.au,T])) (fun U b2 aq=>?_);refine Qa aq 6 [0,1] Z Z<|gD aq Z (gj (e:=2) (w:=8) (z:=[gZ 0]) Y Y Y Y (show _=some (V.int .i64 (.ofNat c.bc.toNat)) from cI c7) (show _=some (V.int .i64 (.ofNat c.bc.toNat)) from cI c7) B B) (fun _=>Z) (fun U b3 aq=>?_);rw[gM (f:=gZ)] at aq;refine O Z (RB (places:=[(0,1),(1,1),(2,5),(7,1),(8,1),(9,1)]) (zero:=[.au,T,T,T,T,T,T,T,.au,T]) (cs:=[_,_,_,_,_,_,_,_,_,_]) Z) Z<|kp aq Z (RH (cs:=[.au,T,T,T,T,T,T,T,.au,T])) (fun U b4 aq=>?_);refine bF aq Z (RK Z Z Z aq.g0 (m:=10) Z Z (cells':=[_,_,_,_,_,_,_,_,_,_]) Z) Z (fun U aq=>?_);refine PZ 3 Z (bp (rg 6 8++rg 18 161) (fun j t U=>∃(s:TS) (ev:V) (Me:Own),wb c od s/\s.asks=false/\s.fin=0/\s.asked<=A.length/\s.events.length+j<=od.length/\(∃q,od[q]?=some s.at_/\q<j)/\xy k c A od.length (ij c)=xy k c A j s/\cN 5 56 ji s.events ev Me/\J U K (Me++((b4,.row [ev,T,T,T,T,T,T,.int .i64 (.ofNat s.at_),.slice b3 0 c.bc.toNat (.known c.bc.toNat),.int .i64 (.ofNat s.asked)] 135 false)::(b3,.row (s.bc.map gZ) 2 false)::(b2,.row [.au,T,T,T,T,T,T,T,.au,T] 135 false)::(b1,.row [.int .i64 c.bc,cv] 33 false)::L))) (od.length) ⟨ij c,.au,[],yD hR,Z,Z,Nat.zero_le _,(show 0+_<=_ by omega),(gO_ hR.zero).imp fun q hq=>⟨hq,(gA.1 hq).1⟩,Z,cN.nil,aq⟩ ?_);clear aq;intro j2 t U ar hI;obtain⟨s,ev,Me,aa,has,Q,aK,g5,en,he,hO,aq⟩:=hI;obtain⟨oo,rfl⟩:=ar.q0 Z;refine aO<|QA 2 Z ?_;obtain⟨q,hq,am⟩:=en;have hatn:=aa.lt hR;obtain⟨x,hx⟩:=cq hatn;have hrx:=ae.right x (gB_ hx);obtain⟨kn,sh,a6,er,c8,es,c9⟩:=iX hrx;have hall:=(ig c9).all;have hql:=(gA.1 hq).1;have hrl:=aa.bc;have et:c.bc<=s.bc.length:=by rw[hrl];have:=ae.Ac;omega
 refine O Z (RD 1 Z) Z<|O Z (RE Z aq.aR.pop.pop.pop.g0 Z) Z<|O Z (RD 7 Z) Z<|O Z (RE Z aq.aR.g0 Z) Z<|Rx (e:=79) (m:=6) hi hx Z Z Z Z (fun g6 fr dd fs b9=>?_);have hr22raw:=b9;have hr22':=b9;obtain⟨a0,rfl,a2⟩:=hr22';refine O Z (RJ aq dd Z Z) Z<|kp aq Z (RH (cs:=[T,T,T,T,T,.au])) (fun U b5 aq=>?_);refine bF aq Z (RK Z Z Z aq.g0 (m:=6) Z (N Z<|N Z<|N Z<|N Z<|N Z<|N a2.leaf.2 aA) (cells':=[_,_,_,_,_,_]) Z) Z (fun U aq=>?_);refine Pv 14 Z (bp ([7,8]++rg 24 18) (fun j t U=>∃(i:Nat) (u:V) (M:Own),j+i=x.exprs.length/\cN 1 2 cz ((x.exprs.take i).map<|eQ s.bc k) u M/\t.get 7=some (u)/\t.get 8=some (.int .i64 (.ofNat i))/\J U K (M++((b5,.row [.int .i64 x.kind,.int .i64 x.qd,.int .i64 x.loc,.int .i64 x.order,.int .i64 x.to,a0] 79 false)::(Me++((b4,.row [ev,T,T,T,T,T,T,.int .i64 (.ofNat s.at_),.slice b3 0 c.bc.toNat (.known c.bc.toNat),.int .i64 (.ofNat s.asked)] 135 false)::(b3,.row (s.bc.map gZ) 2 false)::(b2,.row [.au,T,T,T,T,T,T,T,.au,T] 135 false)::(b1,.row [.int .i64 c.bc,cv] 33 false)::L))))) (x.exprs.length) ⟨0,.au,[],Z,cN.nil,Z,Z,aq⟩ ?_);clear aq;intro j5 t U ar hI;obtain⟨i,u,M,g7,hO7,ex,eC,aq⟩:=hI;obtain⟨oo,rfl⟩:=ar.q2 ex eC Z;refine P7 aq 5 [5] Z Z<|O Z (RE Z aq.aR.g0 Z) Z<|O Z (RG a2 Z Z Z (e:=82) Z) Z<|QC 3 Z<|aD Z (fun a7=>?_) (fun a7=>?_)
 ·refine Pt 4 Z<|aS (l:=zp [0,1,2,3,4,5,6,7,8,9,10,11]) Y Y<|Q8 aq 2 [5] Z Z<|al Z Z (RE Z aq.aR.g0 Z) Z<|wQ 1 Z ?_;obtain⟨ha,a8,f0⟩:=cE a7;refine Ry (e:=82) (m:=4) a2 a8 Z Z Z Z Z (fun hd f1 dl f2 ca=>?_);obtain⟨hg,hh,hn,hs,rfl,f3⟩:=ca.shape;refine al Z Z (RJ aq dl Z Z) Z<|al Z Z (RD 8 Z) Z<|al Z Z (RE Z aq.aR.pop.aR.g0 Z) Z ?_;have ch:ei [(b3,cM.row (s.bc.map gZ) 2 false)] (M++((b5,.row [.int .i64 x.kind,.int .i64 x.qd,.int .i64 x.loc,.int .i64 x.order,.int .i64 x.to,a0] 79 false)::(Me++((b4,.row [ev,T,T,T,T,T,T,.int .i64 (.ofNat s.at_),.slice b3 0 c.bc.toNat (.known c.bc.toNat),.int .i64 (.ofNat s.asked)] 135 false)::(b3,.row (s.bc.map gZ) 2 false)::(b2,.row [.au,T,T,T,T,T,T,T,.au,T] 135 false)::(b1,.row [.int .i64 c.bc,cv] 33 false)::L)))) _:=(.cH (.there (.cH (.there<|ei.here (X:=[_])))));refine cy Z Z (RC Z Z Z) (fun _=>Z) (kS (aq.pull ch)<|LW hG et (Mh hrl (H.NI<|List.mem_singleton.2 Z) B) _ _ _ (eE.mono (H.bY _ _) ca) (hall _<|gB_ a8) _ _ (aq.pull ch).keeps) (fun U aq=>?_);replace aq:=aq.push ch;refine⟨aT,?_⟩;refine ie aq Z Z (bW (e:=2) (m:=1) (z:=[T]) (cs:=[_]) Y Y Y Y<|bA Z Z Z Z bH) (fun _=>Z) (fun U b6 aq=>?_);replace aq:=aq.pull (.there .here);replace aq:=aq.pull (.cH<|ei.here (X:=[_]));refine k9 (R:=cz) (m:=1) (e:=2) hO7 aq (eJ (m:=1) Z Z) cz.leaf (by rw[lM_,lT_];have:=L4 c9 es;show _+1<=_;omega) Z Z Z Z Z Z Z Z (fun _=>Z) (fun U eS eT hO41 aq=>?_);refine⟨aT,?_⟩;refine Q4 2 Z<|aI<|Q0 5 Z<|aM ⟨j5-1,(by have:=bk a7;omega),oF,i+1,eS,eT,(by have:=bk a7;omega),(by rw[mG a8];exact hO41),Z,cI<|bg (by have:=a2.bG;omega),aq⟩
 refine PY 3 Z<|aU<|QA 2 Z ?_;have hl7:=hO7.iC (K:=K);rw[tL_<|br a7] at hl7;replace aq:=aq.keeps;have hA7:=hA.mono (H.bY K M) (fun _ _ h=>h);have ht:(x.exprs.map<|eQ s.bc k).length=x.exprs.length:=lM_ ..;refine O Z (RD 7 Z) Z<|O Z (RE Z aq.pop.aR.g0 Z) Z<|O Z (az Z Z (show _=some (V.int .i64 (.ofNat (s.at_+1))) from cI (bg B))) Z<|P9 aq 10 [0,0] Z Z<|aO<|QA 2 Z<|ky Z (az Z Z Z) (fun a9=>?_) (fun a9=>?_)
 ·refine QC 4 Z<|aS (l:=zp [0,1,2,3,4,5,6,7,8]) Y Y ?_;obtain⟨e0,a1,_⟩:=mj hrx (show x.kind= .ofNat 1 from eqv a9) (by simp);have E:(x.exprs.map<|eQ s.bc k)[0]?=some (eQ s.bc k e0):=by rw[gM_,a1];rfl
  obtain⟨r,ao,hr⟩:=Bp hrx (show x.kind= .ofNat 1 from eqv a9) (by simp);have bb:r<s.bc.length:=by omega
  refine al Z Z (RD 8 Z) Z<|al Z Z (RE Z aq.pop.aR.g0 Z) Z<|Q8 aq 3 [1,0] Z Z<|Ry (e:=2) (m:=1) hl7 E Z Z Z Z Z (fun hu f4 dm f5 dr=>?_);obtain rfl:=dr;refine al Z Z (RI aq dm Z Z) Z (al Z Z (dD (e:=2) (m:=1) Y Y Z (show _=some (V.int .i64 (.ofNat r)) from cI ao) B) Z (fC aq (.there (.cH (.there .here))) Z Z (aJ Z Z Z aq.pop.aR.pop.g0 (m:=1) Y Z (by rw[lM_];omega) Z (cells':=((s.bc).set r<|eQ s.bc k e0).map (gZ)) (ef (f:=gZ) (v:=(eQ s.bc k e0)) bb (by first | omega | rfl))) Z (fun U aq=>?_)));refine⟨aT,?_⟩;refine aY<|aI<|ad<|ai Z ?_;replace aq:=aq.pull (.there .here);replace aq:=aq.sub (dw (.cons _ (.cons_cons _ (.cons_cons _ (.cons_cons _ (.cons_cons _ (.refl _)))))));refine Q7 aq 2 [7] Z Z<|cw aq (.cH .here) Z (RK Z Z Z aq.aR.g0 (m:=1) Z Z (cells':=[_,_,_,_,_,_,_,_,_,_]) Z) Z (fun U aq=>?_);refine af<|aI ?_;replace aq:=aq.weaken (H.bY _ _);obtain⟨g1,g2,g3⟩:=pz hR hx aa hq am he (show cr k c s=(({s with bc:=s.bc.set r (eQ s.bc k e0),at_:=s.at_+1}:TS),true) from by rw[gW hx,KI<|eqv a9,ao,mi E];rfl);refine aM ⟨j2-1,B,oF,({s with bc:=s.bc.set r (eQ s.bc k e0),at_:=s.at_+1}:TS),ev,Me,g1,has,Q,aK,(show s.events.length+_<=_ by omega),g2,g3,hO,aq⟩
 refine QC 4 Z ?_;refine jA (rg 57 5) (fun t U=>∃(q:Bool),q=wE x.kind/\t.get 57=some (.bool q)/\J U (K.gF M) ((b5,.row [.int .i64 x.kind,.int .i64 x.qd,.int .i64 x.loc,.int .i64 x.order,.int .i64 x.to,a0] 79 false)::(Me++((b4,.row [ev,T,T,T,T,T,T,.int .i64 (.ofNat s.at_),.slice b3 0 c.bc.toNat (.known c.bc.toNat),.int .i64 (.ofNat s.asked)] 135 false)::(b3,.row (s.bc.map gZ) 2 false)::(b2,.row [.au,T,T,T,T,T,T,T,.au,T] 135 false)::(b1,.row [.int .i64 c.bc,cv] 33 false)::L)))) ?_ ?_
 ·refine QA 4 Z<|QC 2 Z<|aD Z (fun ab=>?_) (fun ab=>?_)
  ·refine aG ?_;exact⟨Z,oP Z<|oP Z<|oR _ _,_,(by unfold wE;simp only[ab,ct,cf]<;>rfl),Z,aq⟩
  refine QA 2 Z<|ky Z (az Z Z Z) (fun be=>?_) (fun be=>?_)
  ·refine QC 4 Z<|aG ?_;exact⟨Z,oP Z<|oP Z<|oP Z<|oP Z<|oR _ _,_,(by unfold wE;simp only[ab,be,ct,cf]<;>rfl),Z,aq⟩
  refine P1 6 Z<|ky Z (az Z Z Z) (fun bz=>?_) (fun bz=>?_)
  ·refine QC 4 Z<|aG ?_;exact⟨Z,oF,_,(by unfold wE;simp only[ab,be,bz,ct,cf]<;>rfl),Z,aq⟩
  refine QD 5 Z<|ky Z (az Z Z Z) (fun ci=>?_) (fun ci=>?_)
  ·refine Q2 2 Z ?_;exact⟨Z,oF,_,(by unfold wE;simp only[ab,be,bz,ci,ct,cf]<;>rfl),Z,aq⟩
  refine Q2 2 Z ?_;exact⟨Z,oF,_,(by unfold wE;simp only[ab,be,bz,ci,ct,cf]<;>rfl),Z,aq⟩
 clear aq;intro t U ar hI;obtain⟨hw,ds,dx,aq⟩:=hI;obtain⟨oo,rfl⟩:=ar.q1 dx Z;subst ds;refine aD Z (fun ab=>?_) (fun ab=>?_)
 ·refine QA 2 Z ?_;have hk57:=Lx ab;refine Q7 aq 6 [0,0,2,0,3,0] Z Z (O Z (RB (places:=[(0,1),(1,1),(2,1),(3,1),(4,1)]) (zero:=[T,T,T,T,T]) (cs:=[_,_,_,_,_]) Z) Z<|kp aq Z (RH (cs:=[T,T,T,T,T])) (fun U b6 aq=>?_));refine bF aq Z (RK Z Z Z aq.g0 (m:=5) Z Z (cells':=[_,_,_,_,_]) Z) Z (fun U aq=>?_);refine QC 2 Z ?_;refine jA (rg 69 7) (fun t U=>∃(z1:Int),z1=fW k s.bc x 0/\J U (K.gF M) ((b6,.row [.int .i64 x.kind,.int .i64 x.loc,.int .i64 x.order,.int .i64 z1,T] 85 false)::((b5,.row [.int .i64 x.kind,.int .i64 x.qd,.int .i64 x.loc,.int .i64 x.order,.int .i64 x.to,a0] 79 false)::(Me++((b4,.row [ev,T,T,T,T,T,T,.int .i64 (.ofNat s.at_),.slice b3 0 c.bc.toNat (.known c.bc.toNat),.int .i64 (.ofNat s.asked)] 135 false)::(b3,.row (s.bc.map gZ) 2 false)::(b2,.row [.au,T,T,T,T,T,T,T,.au,T] 135 false)::(b1,.row [.int .i64 c.bc,cv] 33 false)::L))))) ?_ ?_
  ·refine QA 3 Z<|O Z (RG hl7 Z Z Z (e:=2) Z) Z<|QC 3 Z<|aD Z (fun ck=>?_) (fun ck=>?_)
   ·refine ai Z<|vQ 1 Z ?_;obtain⟨hz,cb⟩:=cq (show 0<(x.exprs.map<|eQ s.bc k).length from bk (a:=0) ck);refine Rx (e:=2) (m:=1) hl7 cb Z Z Z Z (fun hB f6 d0 f7 d1=>?_);obtain rfl:=d1;refine O Z (RI aq d0 Z Z) Z<|O Z (RD 3 Z) Z<|bF aq Z (RK Z Z Z aq.g0 (m:=1) Z Z (cells':=[_,_,_,_,_]) Z) Z (fun U aq=>?_);refine af ?_;exact⟨Z,oF,_,(mi cb).symm,aq⟩
   refine aG ?_;exact⟨Z,oP Z<|oP Z<|oP Z<|oR _ _,_,(Gi<|br (a:=0) ck).symm,aq⟩
  clear aq;intro t U ar hI;obtain⟨z1,d2,aq⟩:=hI;obtain⟨oo,rfl⟩:=ar.q0 Z;refine jA (rg 76 7) (fun t U=>∃(z2:Int),z2=fW k s.bc x 1/\J U (K.gF M) ((b6,.row [.int .i64 x.kind,.int .i64 x.loc,.int .i64 x.order,.int .i64 z1,.int .i64 z2] 85 false)::((b5,.row [.int .i64 x.kind,.int .i64 x.qd,.int .i64 x.loc,.int .i64 x.order,.int .i64 x.to,a0] 79 false)::(Me++((b4,.row [ev,T,T,T,T,T,T,.int .i64 (.ofNat s.at_),.slice b3 0 c.bc.toNat (.known c.bc.toNat),.int .i64 (.ofNat s.asked)] 135 false)::(b3,.row (s.bc.map gZ) 2 false)::(b2,.row [.au,T,T,T,T,T,T,T,.au,T] 135 false)::(b1,.row [.int .i64 c.bc,cv] 33 false)::L))))) ?_ ?_
  ·refine QA 3 Z<|O Z (RG hl7 Z Z Z (e:=2) Z) Z<|QC 3 Z<|aD Z (fun cl=>?_) (fun cl=>?_)
   ·refine ai Z<|vQ 1 Z ?_;obtain⟨hC,cc⟩:=cq (show 1<(x.exprs.map<|eQ s.bc k).length from bk (a:=1) cl);refine Rx (e:=2) (m:=1) hl7 cc Z Z Z Z (fun hD f8 d3 f9 d4=>?_);obtain rfl:=d4;refine O Z (RI aq d3 Z Z) Z<|O Z (RD 4 Z) Z<|bF aq Z (RK Z Z Z aq.g0 (m:=1) Z Z (cells':=[_,_,_,_,_]) Z) Z (fun U aq=>?_);refine af ?_;exact⟨Z,oF,_,(mi cc).symm,aq⟩
   refine aG ?_;exact⟨Z,oP Z<|oP Z<|oP Z<|oR _ _,_,(Gi<|br (a:=1) cl).symm,aq⟩
  clear aq;intro t U ar hI;obtain⟨z2,d5,aq⟩:=hI;obtain⟨oo,rfl⟩:=ar.q0 Z;refine P7 aq 4 [9] Z Z<|O Z (RE Z aq.pop.pop.aR.g0 Z) Z<|vQ 1 Z<|O Z (RG hA7 Z Z Z (e:=2) Z) Z<|QC 3 Z<|aD Z (fun b0=>?_) (fun b0=>?_)
  ·refine QA 2 Z<|O Z (RF Z aq.g0 (n:=5) (vs:=[_,_,_,_,_]) Z) Z<|O Z (RD 2 Z) Z<|cw aq (.there (.there (.cH .here))) Z (RK Z Z Z aq.pop.pop.aR.g0 (m:=5) Z Z (cells':=[_,_,_,_,_,_,_,_,_,_]) Z) Z (fun U aq=>?_);refine P1 4 Z<|O Z (RF Z aq.pop.pop.aR.g0 (n:=10) (vs:=[_,_,_,_,_,_,_,_,_,_]) Z) Z ?_;refine cw aq (.there (.there (.cH (.there (.there .here))))) Z (RK Z Z Z aq.pop.pop.aR.pop.pop.g0 (m:=10) Z (N hO.leaf.2 Z) (cells':=[_,_,_,_,_,_,_,_,_,_]) Z) Z (fun U aq=>?_);refine QE 3 Z<|av<|aE<|av<|aE<|bq<|aE (?_);subst d2;subst d5;have C:gN k c A=({s with asks:=true}:TS):=hrun.symm.trans (xB he B (show cr k c s=(({s with asks:=true}:TS),false) from by rw[gW hx];exact DC hk57) (fun _=>gN_ (by have:=iJ_ (eqv b0);omega)));have hfinal:=(aq.sub (show List.Sublist (Me++L) _ from(.cons _ (.cons _<|dw (.cons _ (.cons _ (.cons _ (.cons _ (.refl _))))))))).keeps;exact eW Z Z aq.pop.pop.aR.pop.pop.g0 (m:=10) Y Z ⟨_,_,0,(yX k x s.bc),_,_,_,Z,H.le_trans (H.bY _ _)<|H.bY _ _,(by rw[C];exact hO.iC),(by rw[C];exact(fun _=>⟨Z,by show _=lF k c {s with asks:=true};unfold lF;rw[show c.ins[({s with asks:=true}:TS).at_]?=some x from hx]⟩)),(by rw[C];exact(fun h=>by cases h)),Z,Z,Z,Z,Z,Z,hfinal⟩
  refine P8 aq 6 [9] Z Z<|O Z (RE Z aq.pop.pop.aR.g0 Z) Z ?_;have hE:s.asked≠A.length:=fun e=>by rw[e,ea] at b0;cases b0
  obtain⟨ap,ce⟩:=cq (show s.asked<A.length by omega);refine Rx (e:=2) (m:=1) hA7 ce Z Z Z Z (fun hF gc d6 ge d7=>?_);obtain rfl:=d7;refine O Z (RI aq d6 Z Z) Z<|Qa aq 6 [9] Z Z<|O Z (RE Z aq.pop.pop.aR.g0 Z) Z<|O Z (az Z Z (show _=some (V.int .i64 (.ofNat (s.asked+1))) from cI (bg B))) Z<|O Z (RD 9 Z) Z<|cw aq (.there (.there (.cH .here))) Z (RK Z Z Z aq.pop.pop.aR.g0 (m:=1) Z Z (cells':=[_,_,_,_,_,_,_,_,_,_]) Z) Z (fun U aq=>?_);refine P1 4 Z ?_;subst d2;subst d5;refine O Z (RF Z aq.g0 (n:=5) (vs:=[_,_,_,_,_]) Z) Z<|vQ 1 Z<|bj Z (RC Z Z Z) (fun _=>Z) (Cs hG (yX k x s.bc) _ aq) (fun U aq=>?_);refine Q3 3 Z<|kp aq Z (RH (cs:=[T,T,T,T,T])) (fun U b7 aq=>?_);refine bF aq Z (RK Z Z Z aq.g0 (m:=5) Z Z (cells':=[_,_,_,_,_]) Z) Z (fun U aq=>?_);refine Qa aq 6 [0] Z Z<|O Z (RE Z aq.pop.pop.pop.aR.g0 Z) Z<|O Z (RF Z aq.g0 (n:=5) (vs:=[_,_,_,_,_]) Z) Z<|gD aq Z (bW (e:=56) (m:=5) (z:=[T,T,T,T,T]) (cs:=[_,_,_,_,_]) Y Y Y Y<|bA Z Z Z Z bH) (fun _=>Z) (fun U b8 aq=>?_);replace aq:=aq.pull (.there (.there (.there (.there .here))));replace aq:=aq.pull (.cH<|ei.here (X:=[_]));refine sT (R:=ji) (m:=5) (e:=56) hO aq (eJ (m:=5) Z (show ji (bT (yX k x s.bc) ap) _ from Z)) ji.leaf (by show _+1<=_;omega) Z Z Z Z Z Z Z (fun _=>Z) (fun U d8 d9 hO110 aq=>?_);refine O Z (RD 0 Z) Z<|cw aq (.cH (.there (.there (.there .here)))) Z (aJ Z Z hO110.leaf.1 aq.aR.pop.pop.pop.g0 (m:=1) Y Z (lb Z) (N hO110.leaf.2 aA) (cells':=[_,_,_,_,_,_,_,_,_,_]) Z) Z (fun U aq=>?_);refine QD 3 Z ?_;obtain⟨r,ao,hr⟩:=Bp hrx a6 (by rcases hk57 with h | h | h | h<;>(have h2:((kn:Nat):Int)=_:=a6.symm.trans h;omega));have bb:r<s.bc.length:=by omega
  refine O Z (RD 8 Z) Z (O Z (RE Z aq.aR.pop.pop.pop.g0 Z) Z (O Z (RD 1 Z) Z (O Z (RE Z aq.aR.pop.pop.g0 Z) Z (vQ 1 Z (O Z (dD (e:=2) (m:=1) Y Y Z (show _=some (V.int .i64 (.ofNat r)) from cI ao) B) Z (cw aq (.cH (.there (.there (.there (.there .here))))) Z (aJ Z Z Z aq.aR.pop.pop.pop.pop.g0 (m:=1) Y Z (by rw[lM_];omega) Z (cells':=((s.bc).set r ap).map (gZ))<|ef (f:=gZ) (v:=ap) bb (by first | omega | rfl)) Z (fun U aq=>?_)))))));refine af<|aI<|ad<|ai Z ?_;replace aq:=aq.sub (dw (.cons _ (.cons _ (.cons _ (.cons_cons _ (.cons_cons _ (.cons_cons _ (.cons_cons _ (.refl _)))))))));refine Q7 aq 2 [7] Z Z<|cw aq (.cH .here) Z (RK Z Z Z aq.aR.g0 (m:=1) Z Z (cells':=[_,_,_,_,_,_,_,_,_,_]) Z) Z (fun U aq=>?_);refine af<|aI ?_;replace aq:=aq.weaken (H.bY _ _);have e2:cr k c s=({s with asks:=true},false):=by rw[gW hx];exact DC hk57
  obtain⟨g1,g2,g3⟩:=HP ae hR aa has hq am he e2 Z ce;have e3:lF k c {s with asks:=true}=yX k x s.bc:=by unfold lF;rw[show c.ins[({s with asks:=true}:TS).at_]?=some x from hx]
  have e4:GO c {s with asks:=true}=r:=by unfold GO;rw[show c.ins[({s with asks:=true}:TS).at_]?=some x from hx];show x.qd.toNat=r;rw[ao];rfl
  have e5:eH k c {s with asks:=true} ap=({s with events:=s.events++[bT (yX k x s.bc) ap],bc:=s.bc.set r ap,asked:=s.asked+1,at_:=s.at_+1,asks:=false}:TS):=by unfold eH;rw[e3,e4]
  rw[e5] at g1 g2 g3;refine aM ⟨j2-1,B,oF,({s with events:=s.events++[bT (yX k x s.bc) ap],bc:=s.bc.set r ap,asked:=s.asked+1,at_:=s.at_+1,asks:=false}:TS),d8,d9,g1,Z,Q,(show s.asked+1<=A.length by omega),(show(s.events++[_]).length+_<=_ by rw[lA_];show _+1+_<=_;omega),g2,g3,hO110,aq⟩
 refine QA 2 Z<|ky Z (az Z Z Z) (fun a3=>?_) (fun a3=>?_)
 ·refine QC 4 Z<|aS (l:=zp [0,1,2,3,4,5,6,7,8,9,10,11,12,13]) Y Y ?_;obtain⟨e0,a1,_⟩:=mj hrx (show x.kind= .ofNat 3 from eqv a3) (by simp);have E:(x.exprs.map<|eQ s.bc k)[0]?=some (eQ s.bc k e0):=by rw[gM_,a1];rfl
  refine al Z Z (RD 0 Z) Z<|al Z Z (RE Z aq.pop.aR.g0 Z) Z<|Q8 aq 5 [2,0,3,0] Z Z<|Ry (e:=2) (m:=1) hl7 E Z Z Z Z Z (fun gl e6 cn e7 co=>?_);obtain rfl:=co;refine al Z Z (RI aq cn Z Z) Z (al Z Z (RB (places:=[(0,1),(1,1),(2,1),(3,1),(4,1)]) (zero:=[T,T,T,T,T]) (cs:=[_,_,_,_,_]) Z) Z<|ie aq Z Z (bW (e:=56) (m:=5) (z:=[T,T,T,T,T]) (cs:=[_,_,_,_,_]) Y Y Y Y<|bA Z Z Z Z bH) (fun _=>Z) (fun U b6 aq=>?_));replace aq:=aq.pull (.there (.there .here));replace aq:=aq.pull (.cH<|ei.here (X:=[_]));refine k9 (R:=ji) (m:=5) (e:=56) hO aq (eJ (m:=5) Z (show ji ⟨2,x.loc,x.order,0,eQ s.bc k e0⟩ _ from Z)) ji.leaf (by show _+1<=_;omega) Z Z Z Z Z Z Z Z (fun _=>Z) (fun U ee eg hO131 aq=>?_);refine⟨aT,?_⟩;refine al Z Z (RD 0 Z) Z<|fC aq (.cH (.there .here)) Z Z (aJ Z Z hO131.leaf.1 aq.aR.pop.g0 (m:=1) Y Z (lb Z) (N hO131.leaf.2 aA) (cells':=[_,_,_,_,_,_,_,_,_,_]) Z) Z (fun U aq=>?_);refine⟨aT,?_⟩;refine aY<|aI<|ad<|ai Z ?_;replace aq:=aq.sub (dw (.cons _ (.cons_cons _ (.cons_cons _ (.cons_cons _ (.cons_cons _ (.refl _)))))));refine Q7 aq 2 [7] Z Z<|cw aq (.cH .here) Z (RK Z Z Z aq.aR.g0 (m:=1) Z Z (cells':=[_,_,_,_,_,_,_,_,_,_]) Z) Z (fun U aq=>?_);refine af<|aI ?_;replace aq:=aq.weaken (H.bY _ _);obtain⟨g1,g2,g3⟩:=pz hR hx aa hq am he (show cr k c s=(({s with events:=s.events++[⟨2,x.loc,x.order,0,eQ s.bc k e0⟩],at_:=s.at_+1}:TS),true) from by rw[gW hx,FG<|eqv a3,mi E]);refine aM ⟨j2-1,B,oF,({s with events:=s.events++[⟨2,x.loc,x.order,0,eQ s.bc k e0⟩],at_:=s.at_+1}:TS),ee,eg,g1,has,Q,aK,(show(s.events++[_]).length+_<=_ by rw[lA_];show _+1+_<=_;omega),g2,g3,hO131,aq⟩
 refine P1 6 Z<|ky Z (az Z Z Z) (fun bi=>?_) (fun bi=>?_)
 ·refine QK aq 6 [0] Z Z (O Z (RE Z aq.pop.aR.g0 Z) Z (Q7 aq 2 [3,0] Z Z (O Z (RB (places:=[(0,1),(1,1),(2,1),(3,1),(4,1)]) (zero:=[T,T,T,T,T]) (cs:=[_,_,_,_,_]) Z) Z<|gD aq Z (bW (e:=56) (m:=5) (z:=[T,T,T,T,T]) (cs:=[_,_,_,_,_]) Y Y Y Y<|bA Z Z Z Z bH) (fun _=>Z) (fun U b6 aq=>?_))));replace aq:=aq.pull (.there (.there .here));replace aq:=aq.pull (.cH<|ei.here (X:=[_]));refine sT (R:=ji) (m:=5) (e:=56) hO aq (eJ (m:=5) Z (show ji ⟨4,0,x.order,0,0⟩ _ from Z)) ji.leaf (by show _+1<=_;omega) Z Z Z Z Z Z Z (fun _=>Z) (fun U el em hO141 aq=>?_);refine O Z (RD 0 Z) Z<|cw aq (.cH (.there .here)) Z (aJ Z Z hO141.leaf.1 aq.aR.pop.g0 (m:=1) Y Z (lb Z) (N hO141.leaf.2 aA) (cells':=[_,_,_,_,_,_,_,_,_,_]) Z) Z (fun U aq=>?_);refine af<|aI<|ad<|ai Z ?_;replace aq:=aq.sub (dw (.cons _ (.cons_cons _ (.cons_cons _ (.cons_cons _ (.cons_cons _ (.refl _)))))));refine Q7 aq 2 [7] Z Z<|cw aq (.cH .here) Z (RK Z Z Z aq.aR.g0 (m:=1) Z Z (cells':=[_,_,_,_,_,_,_,_,_,_]) Z) Z (fun U aq=>?_);refine af<|aI ?_;replace aq:=aq.weaken (H.bY _ _);obtain⟨g1,g2,g3⟩:=pz hR hx aa hq am he (show cr k c s=(({s with events:=s.events++[⟨4,0,x.order,0,0⟩],at_:=s.at_+1}:TS),true) from by rw[gW hx,FE<|eqv bi]);refine aM ⟨j2-1,B,oF,({s with events:=s.events++[⟨4,0,x.order,0,0⟩],at_:=s.at_+1}:TS),el,em,g1,has,Q,aK,(show(s.events++[_]).length+_<=_ by rw[lA_];show _+1+_<=_;omega),g2,g3,hO141,aq⟩
 refine QC 4 Z ?_;refine jA [143,144,145] (fun t U=>∃(q:Bool),q=tT 8 9 x.kind/\t.get 143=some (.bool q)/\J U (K.gF M) ((b5,.row [.int .i64 x.kind,.int .i64 x.qd,.int .i64 x.loc,.int .i64 x.order,.int .i64 x.to,a0] 79 false)::(Me++((b4,.row [ev,T,T,T,T,T,T,.int .i64 (.ofNat s.at_),.slice b3 0 c.bc.toNat (.known c.bc.toNat),.int .i64 (.ofNat s.asked)] 135 false)::(b3,.row (s.bc.map gZ) 2 false)::(b2,.row [.au,T,T,T,T,T,T,T,.au,T] 135 false)::(b1,.row [.int .i64 c.bc,cv] 33 false)::L)))) ?_ ?_
 ·refine QA 4 Z<|QC 2 Z<|aD Z (fun F=>?_) (fun F=>?_)
  ·refine aG ?_;exact⟨Z,oP Z<|oP Z<|oR _ _,_,(by unfold tT;simp only[F,ct,cf]<;>rfl),Z,aq⟩
  refine ai Z<|ky Z (az Z Z Z) (fun bl=>?_) (fun bl=>?_)
  ·refine Q2 2 Z ?_;exact⟨Z,oP Z<|oP Z<|oP Z<|oP Z<|oR _ _,_,(by unfold tT;simp only[F,bl,ct,cf]<;>rfl),Z,aq⟩
  refine Q2 2 Z ?_;exact⟨Z,oP Z<|oP Z<|oP Z<|oP Z<|oR _ _,_,(by unfold tT;simp only[F,bl,ct,cf]<;>rfl),Z,aq⟩
 clear aq;intro t U ar hI;obtain⟨gr,cp,cx,aq⟩:=hI;obtain⟨oo,rfl⟩:=ar.q1 cx Z;subst cp;refine aD Z (fun F=>?_) (fun F=>?_)
 ·refine QA 2 Z ?_;have hk143:=BG F;obtain⟨e0,a1,_⟩:=mj hrx a6 (by rcases hk143 with h | h<;>(have h2:((kn:Nat):Int)=_:=a6.symm.trans h;omega));have E:(x.exprs.map<|eQ s.bc k)[0]?=some (eQ s.bc k e0):=by rw[gM_,a1];rfl
  refine vQ 1 Z<|Rx (e:=2) (m:=1) hl7 E Z Z Z Z (fun gs e8 c0 e9 c1=>?_);obtain rfl:=c1;refine O Z (RI aq c0 Z Z) Z<|QC 3 Z<|aD Z (fun a4=>?_) (fun a4=>?_)
  ·refine QH aq 3 [1] Z Z<|cw aq (.there (.cH .here)) Z (RK Z Z Z aq.pop.aR.g0 (m:=1) Z Z (cells':=[_,_,_,_,_,_,_,_,_,_]) Z) Z (fun U aq=>?_);refine P9 aq 10 [0,0] Z Z<|aD Z (fun bo=>?_) (fun bo=>?_)
   ·refine Q6 aq 2 [1] Z Z<|cw aq (.there (.cH .here)) Z (RK Z Z Z aq.pop.aR.g0 (m:=1) Z Z (cells':=[_,_,_,_,_,_,_,_,_,_]) Z) Z (fun U aq=>?_);refine P1 4 Z<|O Z (RF Z aq.pop.aR.g0 (n:=10) (vs:=[_,_,_,_,_,_,_,_,_,_]) Z) Z<|cw aq (.there (.cH (.there (.there .here)))) Z (RK Z Z Z aq.pop.aR.pop.pop.g0 (m:=10) Z (N hO.leaf.2 Z) (cells':=[_,_,_,_,_,_,_,_,_,_]) Z) Z (fun U aq=>?_);refine QE 3 Z<|aE<|av<|aE<|bq<|aE (?_);have C:gN k c A=({s with fin:=3}:TS):=hrun.symm.trans (xB he B (show cr k c s=(({s with fin:=3}:TS),false) from by rw[gW hx,Is (eqv bo) (by rw[mi E];exact a4)]) (fun h=>by rw[show({s with fin:=3}:TS).asks=s.asks from Z,has] at h;cases h));have hfinal:=(aq.sub (show List.Sublist (Me++L) _ from(.cons _<|dw (.cons _ (.cons _ (.cons _ (.cons _ (.refl _)))))))).keeps;exact eW Z Z aq.pop.aR.pop.pop.g0 (m:=10) Y Z ⟨_,_,3,gz,_,_,_,Z,H.le_trans (H.bY _ _)<|H.bY _ _,(by rw[C];exact hO.iC),(by rw[C];exact(fun h=>by rw[show({s with fin:=3}:TS).asks=s.asks from Z,has] at h;cases h)),(by rw[C];exact(fun _=>⟨Z,Z⟩)),Z,Z,Z,Z,Z,Z,hfinal⟩
   refine PX 4 Z<|O Z (RF Z aq.pop.aR.g0 (n:=10) (vs:=[_,_,_,_,_,_,_,_,_,_]) Z) Z<|cw aq (.there (.cH (.there (.there .here)))) Z (RK Z Z Z aq.pop.aR.pop.pop.g0 (m:=10) Z (N hO.leaf.2 Z) (cells':=[_,_,_,_,_,_,_,_,_,_]) Z) Z (fun U aq=>?_);refine QE 3 Z<|aE<|av<|aE<|bq<|aE (?_);have C:gN k c A=({s with fin:=2}:TS):=hrun.symm.trans (xB he B (show cr k c s=(({s with fin:=2}:TS),false) from by rw[gW hx,step_block ((BG F).resolve_right<|AM.1 bo) (by rw[mi E];exact a4)]) (fun h=>by rw[show({s with fin:=2}:TS).asks=s.asks from Z,has] at h;cases h));have hfinal:=(aq.sub (show List.Sublist (Me++L) _ from(.cons _<|dw (.cons _ (.cons _ (.cons _ (.cons _ (.refl _)))))))).keeps;exact eW Z Z aq.pop.aR.pop.pop.g0 (m:=10) Y Z ⟨_,_,2,gz,_,_,_,Z,H.le_trans (H.bY _ _)<|H.bY _ _,(by rw[C];exact hO.iC),(by rw[C];exact(fun h=>by rw[show({s with fin:=2}:TS).asks=s.asks from Z,has] at h;cases h)),(by rw[C];exact(fun _=>⟨Z,Z⟩)),Z,Z,Z,Z,Z,Z,hfinal⟩
  refine aG<|aI<|ad<|ai Z ?_;replace aq:=aq.pull (.there .here);replace aq:=aq.sub (dw (.cons _ (.cons_cons _ (.cons_cons _ (.cons_cons _ (.cons_cons _ (.refl _)))))));refine Q7 aq 2 [7] Z Z<|cw aq (.cH .here) Z (RK Z Z Z aq.aR.g0 (m:=1) Z Z (cells':=[_,_,_,_,_,_,_,_,_,_]) Z) Z (fun U aq=>?_);refine af<|aI ?_;replace aq:=aq.weaken (H.bY _ _);obtain⟨g1,g2,g3⟩:=pz hR hx aa hq am he (show cr k c s=(({s with at_:=s.at_+1}:TS),true) from by rw[gW hx,FF hk143 (by rw[mi E];exact a4)]);refine aM ⟨j2-1,B,oF,({s with at_:=s.at_+1}:TS),ev,Me,g1,has,Q,aK,(show s.events.length+_<=_ by omega),g2,g3,hO,aq⟩
 refine QA 2 Z<|ky Z (az Z Z Z) (fun a5=>?_) (fun a5=>?_)
 ·refine QD 5 Z ?_;obtain⟨to,bs,_⟩:=G3 hrx (show x.kind= .ofNat 10 from eqv a5) (by simp);refine Q7 aq 2 [4,0] Z Z<|O Z (aj (show _=some (V.int .i64 (.ofNat to)) from cI bs)) Z<|af<|aI<|ad<|ai Z ?_;replace aq:=aq.pull (.there .here);replace aq:=aq.sub (dw (.cons _ (.cons_cons _ (.cons_cons _ (.cons_cons _ (.cons_cons _ (.refl _)))))));refine Q7 aq 2 [7] Z Z<|cw aq (.cH .here) Z (RK Z Z Z aq.aR.g0 (m:=1) Z Z (cells':=[_,_,_,_,_,_,_,_,_,_]) Z) Z (fun U aq=>?_);refine af<|aI ?_;replace aq:=aq.weaken (H.bY _ _);obtain⟨g1,g2,g3⟩:=pz hR hx aa hq am he (show cr k c s=(({s with at_:=to}:TS),true) from by rw[gW hx,It<|eqv a5,bs];rfl);refine aM ⟨j2-1,B,oF,({s with at_:=to}:TS),ev,Me,g1,has,Q,aK,(show s.events.length+_<=_ by omega),g2,g3,hO,aq⟩
 refine P1 6 Z<|ky Z (az Z Z Z) (fun ac=>?_) (fun ac=>?_)
 ·refine P1 6 Z ?_;obtain⟨e0,a1,_⟩:=mj hrx (show x.kind= .ofNat 11 from eqv ac) (by simp);have E:(x.exprs.map<|eQ s.bc k)[0]?=some (eQ s.bc k e0):=by rw[gM_,a1];rfl
  obtain⟨to,bs,_⟩:=G3 hrx (show x.kind= .ofNat 11 from eqv ac) (by simp);refine vQ 1 Z<|Rx (e:=2) (m:=1) hl7 E Z Z Z Z (fun gt fd c2 fi c3=>?_);obtain rfl:=c3;refine O Z (RI aq c2 Z Z) Z<|QC 3 Z<|aD Z (fun bt=>?_) (fun bt=>?_)
  ·refine Q6 aq 3 [4,0] Z Z<|O Z (aj (show _=some (V.int .i64 (.ofNat to)) from cI bs)) Z<|af<|aI<|ad<|ai Z ?_;replace aq:=aq.pull (.there .here);replace aq:=aq.sub (dw (.cons _ (.cons_cons _ (.cons_cons _ (.cons_cons _ (.cons_cons _ (.refl _)))))));refine Q7 aq 2 [7] Z Z<|cw aq (.cH .here) Z (RK Z Z Z aq.aR.g0 (m:=1) Z Z (cells':=[_,_,_,_,_,_,_,_,_,_]) Z) Z (fun U aq=>?_);refine af<|aI ?_;replace aq:=aq.weaken (H.bY _ _);obtain⟨g1,g2,g3⟩:=pz hR hx aa hq am he (show cr k c s=(({s with at_:=to}:TS),true) from by rw[gW hx,KD (eqv ac) (by rw[mi E];exact bt),bs];rfl);refine aM ⟨j2-1,B,oF,({s with at_:=to}:TS),ev,Me,g1,has,Q,aK,(show s.events.length+_<=_ by omega),g2,g3,hO,aq⟩
  refine aG<|aI<|ad<|ai Z ?_;replace aq:=aq.pull (.there .here);replace aq:=aq.sub (dw (.cons _ (.cons_cons _ (.cons_cons _ (.cons_cons _ (.cons_cons _ (.refl _)))))));refine Q7 aq 2 [7] Z Z<|cw aq (.cH .here) Z (RK Z Z Z aq.aR.g0 (m:=1) Z Z (cells':=[_,_,_,_,_,_,_,_,_,_]) Z) Z (fun U aq=>?_);refine af<|aI ?_;replace aq:=aq.weaken (H.bY _ _);obtain⟨g1,g2,g3⟩:=pz hR hx aa hq am he (show cr k c s=(({s with at_:=s.at_+1}:TS),true) from by rw[gW hx,KE (eqv ac) (by rw[mi E];exact bt)]);refine aM ⟨j2-1,B,oF,({s with at_:=s.at_+1}:TS),ev,Me,g1,has,Q,aK,(show s.events.length+_<=_ by omega),g2,g3,hO,aq⟩
 refine QC 4 Z ?_;refine jA [168,169,170] (fun t U=>∃(q:Bool),q=tT 12 13 x.kind/\t.get 168=some (.bool q)/\J U (K.gF M) ((b5,.row [.int .i64 x.kind,.int .i64 x.qd,.int .i64 x.loc,.int .i64 x.order,.int .i64 x.to,a0] 79 false)::(Me++((b4,.row [ev,T,T,T,T,T,T,.int .i64 (.ofNat s.at_),.slice b3 0 c.bc.toNat (.known c.bc.toNat),.int .i64 (.ofNat s.asked)] 135 false)::(b3,.row (s.bc.map gZ) 2 false)::(b2,.row [.au,T,T,T,T,T,T,T,.au,T] 135 false)::(b1,.row [.int .i64 c.bc,cv] 33 false)::L)))) ?_ ?_
 ·refine QA 4 Z<|QC 2 Z<|aD Z (fun W=>?_) (fun W=>?_)
  ·refine aG ?_;exact⟨Z,oP Z<|oP Z<|oR _ _,_,(by unfold tT;simp only[W,ct,cf]<;>rfl),Z,aq⟩
  refine ai Z<|ky Z (az Z Z Z) (fun bv=>?_) (fun bv=>?_)
  ·refine Q2 2 Z ?_;exact⟨Z,oP Z<|oP Z<|oP Z<|oP Z<|oR _ _,_,(by unfold tT;simp only[W,bv,ct,cf]<;>rfl),Z,aq⟩
  refine Q2 2 Z ?_;exact⟨Z,oP Z<|oP Z<|oP Z<|oP Z<|oR _ _,_,(by unfold tT;simp only[W,bv,ct,cf]<;>rfl),Z,aq⟩
 clear aq;intro t U ar hI;obtain⟨gv,c4,c5,aq⟩:=hI;obtain⟨oo,rfl⟩:=ar.q1 c5 Z;subst c4;refine aD Z (fun W=>?_) (fun W=>?_)
 ·refine QH aq 3 [1] Z Z<|cw aq (.there (.cH .here)) Z (RK Z Z Z aq.pop.aR.g0 (m:=1) Z Z (cells':=[_,_,_,_,_,_,_,_,_,_]) Z) Z (fun U aq=>?_);refine P9 aq 10 [0,0] Z Z<|aD Z (fun bw=>?_) (fun bw=>?_)
  ·refine Q6 aq 2 [1] Z Z<|cw aq (.there (.cH .here)) Z (RK Z Z Z aq.pop.aR.g0 (m:=1) Z Z (cells':=[_,_,_,_,_,_,_,_,_,_]) Z) Z (fun U aq=>?_);refine P1 4 Z<|O Z (RF Z aq.pop.aR.g0 (n:=10) (vs:=[_,_,_,_,_,_,_,_,_,_]) Z) Z<|cw aq (.there (.cH (.there (.there .here)))) Z (RK Z Z Z aq.pop.aR.pop.pop.g0 (m:=10) Z (N hO.leaf.2 Z) (cells':=[_,_,_,_,_,_,_,_,_,_]) Z) Z (fun U aq=>?_);refine QE 3 Z<|aE<|av<|aE<|bq<|aE (?_);have C:gN k c A=({s with fin:=4}:TS):=hrun.symm.trans (xB he B (show cr k c s=(({s with fin:=4}:TS),false) from by rw[gW hx,FD<|eqv bw]) (fun h=>by rw[show({s with fin:=4}:TS).asks=s.asks from Z,has] at h;cases h));have hfinal:=(aq.sub (show List.Sublist (Me++L) _ from(.cons _<|dw (.cons _ (.cons _ (.cons _ (.cons _ (.refl _)))))))).keeps;exact eW Z Z aq.pop.aR.pop.pop.g0 (m:=10) Y Z ⟨_,_,4,gz,_,_,_,Z,H.le_trans (H.bY _ _)<|H.bY _ _,(by rw[C];exact hO.iC),(by rw[C];exact(fun h=>by rw[show({s with fin:=4}:TS).asks=s.asks from Z,has] at h;cases h)),(by rw[C];exact(fun _=>⟨Z,Z⟩)),Z,Z,Z,Z,Z,Z,hfinal⟩
  refine PX 4 Z<|O Z (RF Z aq.pop.aR.g0 (n:=10) (vs:=[_,_,_,_,_,_,_,_,_,_]) Z) Z<|cw aq (.there (.cH (.there (.there .here)))) Z (RK Z Z Z aq.pop.aR.pop.pop.g0 (m:=10) Z (N hO.leaf.2 Z) (cells':=[_,_,_,_,_,_,_,_,_,_]) Z) Z (fun U aq=>?_);refine QE 3 Z<|aE<|av<|aE<|bq<|aE (?_);have C:gN k c A=({s with fin:=1}:TS):=hrun.symm.trans (xB he B (show cr k c s=(({s with fin:=1}:TS),false) from by rw[gW hx,step_done ((BG W).resolve_left<|AM.1 bw)]) (fun h=>by rw[show({s with fin:=1}:TS).asks=s.asks from Z,has] at h;cases h));have hfinal:=(aq.sub (show List.Sublist (Me++L) _ from(.cons _<|dw (.cons _ (.cons _ (.cons _ (.cons _ (.refl _)))))))).keeps;exact eW Z Z aq.pop.aR.pop.pop.g0 (m:=10) Y Z ⟨_,_,1,gz,_,_,_,Z,H.le_trans (H.bY _ _)<|H.bY _ _,(by rw[C];exact hO.iC),(by rw[C];exact(fun h=>by rw[show({s with fin:=1}:TS).asks=s.asks from Z,has] at h;cases h)),(by rw[C];exact(fun _=>⟨Z,Z⟩)),Z,Z,Z,Z,Z,Z,hfinal⟩
 exact(Hz a6 er c8 a9 ab a3 bi F a5 ac W).elim
structure B2 (v:V):Prop where
 leaf:cW v=some [v]/\jb v=true
theorem B2.dZ {v:V} (h:B2 v) (hb:∀a:V,jb a=true->True):True:=trivial
structure OZ (k:Nat) (c:XC) (R:TS) (K1:H) (ev:V) (fn:Int) (a:rT):Prop where
 ev:bJ K1 5 ji R.events ev
 ask:R.asks=true->fn=0/\a=lF k c R
 fin:R.asks=false->fn=R.fin/\a=gz
def Lu (k:Nat) (c:XC) (A:List Int) (K:H) (L:Own) (v:V) (U':I):Prop:=∃(K1:H) (ev:V) (fn:Int) (a:rT) (w7 w8 w9:V),v= .tuple [.agg [ev,.int .i64 fn,.int .i64 a.kind,.int .i64 a.loc,.int .i64 a.order,.int .i64 a.a,.int .i64 a.b,w7,w8,w9],.int .i64<|fQ k c]/\H.le K K1/\(∃le:List de,bJ K1 5 ji le ev)/\(fQ k c=0->OZ k c (gN k c A) K1 ev fn a)/\B2 w7/\B2 w8/\B2 w9/\J U' K1 L
theorem wS {k:Nat} {c:XC} (h:cS k c≠0):fQ k c=cS k c:=by
 have h1:bd (D (cS k c) 0)=true:=by unfold bd;rw[AM.2 h];rfl
 have u:gU k c=false:=by unfold gU;rw[h1];rfl
 unfold fQ;rw[u,h1];rfl
theorem wT {k:Nat} {c:XC} (h:cS k c=0) (hf:gU k c=false):fQ k c=2:=by
 unfold fQ;rw[hf,h];rfl
theorem Eu {k:Nat} {c:XC} (hf:gU k c=true):fQ k c=0:=by
 unfold fQ;rw[hf];rfl
theorem O8 {G:Cx} (W:Plain G) {K:H} {k:Nat} {c:XC} {cv:V} (hi:bJ K 6 (gp K k) c.ins cv) (C:lC k c) (hS:r4 k c) {A:List Int} {va:V} (hA:bJ K 1 cz A va) (X:A.length<=100000) {U:I} {L:Own} (aq:J U K L):
  bm Tryz.prog G 85 [.agg [.int .i64 c.bc,cv],va] U (Lu k c A K L):=by
 refine QX W Tryz.func85 Z<|QA 2 Z<|kp aq Z (cA Z Z) (fun U b1 aq=>?_);refine kp aq Z (RH (cs:=[.au,T,T,T,T,T,T,T,.au,T])) (fun U b2 aq=>?_);refine P1 5 Z<|O Z (RF Z aq.g1 (n:=2) (vs:=[_,_]) Z) Z<|bj Z (RC Z Z Z) (fun _=>Z) (wW W hi C hS aq) (fun U aq=>?_);refine P0 10 Z<|aD Z (fun u=>?_) (fun u=>?_)
 ·refine QA 2 Z (O Z (RB (places:=[(0,1),(1,1),(2,5),(7,1),(8,1),(9,1)]) (zero:=[.au,T,T,T,T,T,T,T,.au,T]) (cs:=[_,_,_,_,_,_,_,_,_,_]) Z) Z<|vQ 1 Z<|bF aq Z (RK Z Z Z aq.g0 (m:=10) Z Z (cells':=[_,_,_,_,_,_,_,_,_,_]) Z) Z (fun U aq=>?_));refine P3 5 Z ?_;exact bB Z Z aq.g0 (m:=10) Y Z Z ⟨K,.au,0,gz,T,.au,T,by rw[show fQ k c=_ from by rw[wS (show cS k c≠0 from by rw[<-g8 C];exact fun e=>by rw[e,ea] at u;cases u),<-g8 C]];rfl,fun _ _ h=>h,⟨[],.inl ⟨Z,Z⟩⟩,(fun h=>absurd h (by rw[wS (show cS k c≠0 from by rw[<-g8 C];exact fun e=>by rw[e,ea] at u;cases u),<-g8 C];exact fun e=>by rw[e,ea] at u;cases u)),⟨Z,Z⟩,⟨Z,Z⟩,⟨Z,Z⟩,aq.pop.pop⟩
 refine Pu 5 Z<|O Z (RF Z aq.g1 (n:=2) (vs:=[_,_]) Z) Z ?_;have F:cS k c=0:=by rw[<-g8 C];exact eqv<|bn u
 refine bj Z (RC Z Z Z) (fun _=>Z) (EC W hi C hS aq) (fun U aq=>?_);refine O Z (cT Z) Z<|QC 2 Z<|aD Z (fun z=>?_) (fun z=>?_)
 ·refine QA 2 Z (O Z (RB (places:=[(0,1),(1,1),(2,5),(7,1),(8,1),(9,1)]) (zero:=[.au,T,T,T,T,T,T,T,.au,T]) (cs:=[_,_,_,_,_,_,_,_,_,_]) Z) Z<|bF aq Z (RK Z Z Z aq.g0 (m:=10) Z Z (cells':=[_,_,_,_,_,_,_,_,_,_]) Z) Z (fun U aq=>?_));refine P3 5 Z ?_;exact bB Z Z aq.g0 (m:=10) Y Z Z ⟨K,.au,0,gz,T,.au,T,by rw[show fQ k c=_ from wT F (bN z)];rfl,fun _ _ h=>h,⟨[],.inl ⟨Z,Z⟩⟩,(fun h=>absurd h (by rw[wT F<|bN z];decide)),⟨Z,Z⟩,⟨Z,Z⟩,⟨Z,Z⟩,aq.pop.pop⟩
 refine PX 4 Z<|O Z (RF Z aq.g1 (n:=2) (vs:=[_,_]) Z) Z<|vQ 1 Z ?_;have M:gU k c=true:=bn z;obtain⟨aa,od,ho,hR⟩:=py M;refine cd Z (RC Z Z Z) (fun _=>Z) (Qm W hi aa ho hR hA X aq) ?_;rintro _ U ⟨K1,ev,fn,a,w7,w8,w9,rfl,hle,E,Q,R,c8,l7,l8,l9,c7,c9,aq⟩;have o7:B2 w7:=⟨c7,l7⟩;have o8:B2 w8:=⟨c8,l8⟩;have o9:B2 w9:=⟨c9,l9⟩;refine bF aq Z (RK Z Z Z aq.g0 (m:=10) Z (N E.leaf.2<|N Z<|N Z<|N Z<|N Z<|N Z<|N Z<|N o7.leaf.2<|N o8.leaf.2<|N o9.leaf.2 aA) (cells':=[_,_,_,_,_,_,_,_,_,_]) Z) Z (fun U aq=>?_);refine QE 4 Z ?_;exact bB Z Z aq.g0 (m:=10) Y Z Z ⟨K1,ev,fn,a,w7,w8,w9,by rw[Eu M],hle,⟨_,E⟩,fun _=>⟨E,Q,R⟩,o7,o8,o9,aq.pop.pop⟩
theorem I9 {G:Cx} (hG:Plain G) {K:H} {k:Nat} {c:XC} {cv:V} (hi:bJ K 6 (gp K k) c.ins cv) (hF:lC k c) (hS:r4 k c) {l:List de} {lv:V} (hl:bJ K 5 ji l lv) (ac:l.length<=100000) {U:I} {L:Own} (aq:J U K L):
  bm Tryz.prog G 48 [.agg [.int .i64 c.bc,cv],lv] U fun v U'=>v= .tuple [.agg<|z6 (bM k c l).1,.int .i64 (bM k c l).2]/\J U' K L:=by
 refine QX hG Tryz.func48 Z<|QA 2 Z<|kp aq Z (cA Z Z) (fun U b1 aq=>?_);refine kp aq Z (RH (cs:=[T,T,T,T,T,T,T,T,T,T,T])) (fun U b2 aq=>?_);refine P0 4 Z (aS (l:=[(0,[]),(1,[]),(7,[]),(2,[0,7]),(3,[7]),(4,[]),(5,[]),(6,[]),(8,[]),(9,[])]) Y Y<|al Z Z (RF Z aq.g1 (n:=2) (vs:=[_,_]) Z) Z<|wQ 1 Z<|nG aq Z Z (RH (cs:=[.au,T,T,T,T,T,T,T,.au,T])) (fun _=>Z) (fun U b3 aq=>?_));refine ic Z Z (RC Z Z Z) (fun _=>Z) (Hw hG hl ac aq) ?_;rintro ar U ⟨M,hM,aq⟩;replace aq:=aq.keeps;have hA:=hM.iC (K:=K);have hi2:=pj (H.bY K M) hi;refine⟨(bx (bO Z Z Z Z Z (RF Z (aq.get 2 Z) (n:=2) (vs:=[_,_]) Z)<|fK<|bK (fX _ _)<|bK hi.eI eP)<|bx (fH Z Z Z Z Z (cs:=[.au,T,T,T,T,T,T,T,.au,T]) (e:=135) Y aq.g0 Y) aT),?_⟩;refine ic Z Z (RC Z Z Z) (fun _=>Z) (O8 hG hi2 hF hS hA (by have:=mH l;omega) aq) ?_;rintro _ U ⟨K1,ev,fn,a,w7,w8,w9,rfl,R,⟨le,ae⟩,W,o7,o8,o9,aq⟩;have hle:=H.le_trans (H.bY K M) R;have hl1:=hl.mono hle fun _ _ h=>h
 refine⟨(bx (fH Z Z Z Z Z (cs:=[.au,T,T,T,T,T,T,T,.au,T]) (e:=135) Y aq.g0 Y) aT),?_⟩;refine Q5 3 Z<|iE aq Z Z (RK Z Z Z aq.g0 (m:=10) Z (N ae.leaf.2<|N Z<|N Z<|N Z<|N Z<|N Z<|N Z<|N o7.leaf.2<|N o8.leaf.2<|N o9.leaf.2 aA) (cells':=[_,_,_,_,_,_,_,_,_,_]) Z) Z (fun U aq=>?_);refine⟨aT,?_⟩;refine P5 10 Z<|aD Z (fun Q=>?_) (fun Q=>?_)
 ·refine QA 2 Z (O Z (RB (places:=[(0,5),(5,5),(10,1)]) (zero:=[T,T,T,T,T,T,T,T,T,T,T]) (cs:=[_,_,_,_,_,_,_,_,_,_,_]) Z) Z<|vQ 1 Z<|dF aq Z (RK Z Z Z aq.g1 (m:=11) Z Z (cells':=[_,_,_,_,_,_,_,_,_,_,_]) Z) Z (fun U aq=>?_));refine P3 5 Z ?_;exact bB Z Z aq.g1 (m:=11) Y Z Z ⟨by rw[show bM k c l=(uG,fQ k c) from by unfold bM;rw[show bd (D (fQ k c) 0)=true from Q];rfl];rfl,(aq.pop.pop.pop).weaken hle⟩
 refine Py aq 8 [0,0] Z Z ?_;have X:fQ k c=0:=eqv (bn Q);obtain⟨u,C,E⟩:=W X;have hN:bM k c l=iL k c (gN k c<|dj l) l:=by unfold bM;rw[X];rfl
 obtain⟨s,hs⟩:∃s,s=gN k c (dj l):=⟨_,Z⟩;rw[<-hs] at u C E hN;refine bj Z (RC Z Z Z) (fun _=>Z) (LS hG hl1 u aq) (fun U aq=>?_);refine O Z (cT Z) Z<|QC 2 Z<|aD Z (fun z=>?_) (fun z=>?_)
 ·refine QA 2 Z (O Z (RB (places:=[(0,5),(5,5),(10,1)]) (zero:=[T,T,T,T,T,T,T,T,T,T,T]) (cs:=[_,_,_,_,_,_,_,_,_,_,_]) Z) Z<|dF aq Z (RK Z Z Z aq.g1 (m:=11) Z Z (cells':=[_,_,_,_,_,_,_,_,_,_,_]) Z) Z (fun U aq=>?_));refine P3 5 Z ?_;exact bB Z Z aq.g1 (m:=11) Y Z Z ⟨by rw[hN,show iL k c s l=(uG,2) from by unfold iL;rw[show pX s l=false from bN z];rfl];rfl,(aq.pop.pop.pop).weaken hle⟩
 refine Py aq 7 [0,0] Z Z<|O Z (RG u Z Z Z (e:=56) Z) Z<|vQ 1 Z<|O Z (RG hl1 Z Z Z (e:=56) Z) Z<|QC 3 Z<|aD Z (fun A=>?_) (fun A=>?_)
 ·refine QH aq 5 [0,0] Z Z<|O Z (RG hl1 Z Z Z (e:=56) Z) Z ?_;obtain⟨am,F⟩:=cq (bk A);refine Rx (e:=56) (m:=5) u F Z Z Z Z (fun aK ao aa ap ab=>?_);obtain rfl:=ab;refine O Z (RJ aq aa Z Z) Z (O Z (RB (places:=[(0,5),(5,5),(10,1)]) (zero:=[T,T,T,T,T,T,T,T,T,T,T]) (cs:=[_,_,_,_,_,_,_,_,_,_,_]) Z) Z<|dF aq Z (RK Z Z Z aq.g1 (m:=11) Z Z (cells':=[_,_,_,_,_,_,_,_,_,_,_]) Z) Z (fun U aq=>?_));refine P3 5 Z ?_;exact bB Z Z aq.g1 (m:=11) Y Z Z ⟨by rw[hN,show iL k c s l=(⟨am,gz,0⟩,0) from by unfold iL;rw[show pX s l=true from bn z,F];rfl];rfl,(aq.pop.pop.pop).weaken hle⟩
 refine P8 aq 5 [2] Z Z (O Z (RF Z aq.g0 (n:=5) (vs:=[_,_,_,_,_]) Z) Z (Q7 aq 2 [1,0] Z Z (O Z (RB (places:=[(0,5),(5,5),(10,1)]) (zero:=[T,T,T,T,T,T,T,T,T,T,T]) (cs:=[_,_,_,_,_,_,_,_,_,_,_]) Z) Z<|dF aq Z (RK Z Z Z aq.g1 (m:=11) Z Z (cells':=[_,_,_,_,_,_,_,_,_,_,_]) Z) Z (fun U aq=>?_))));refine QE 4 Z ?_;cases has:s.asks with
 | true=>(obtain⟨rfl,rfl⟩:=C has;exact bB Z Z aq.g1 (m:=11) Y Z Z ⟨by rw[hN,show iL k c s l=(⟨lK,lF k c s,0⟩,0) from by unfold iL;rw[show pX s l=true from bn z,gN_<|br A,has];rfl];rfl,(aq.pop.pop.pop).weaken hle⟩)
 | false=>(obtain⟨rfl,rfl⟩:=E has;exact bB Z Z aq.g1 (m:=11) Y Z Z ⟨by rw[hN,show iL k c s l=(⟨lK,gz,s.fin⟩,0) from by unfold iL;rw[show pX s l=true from bn z,gN_<|br A,has];rfl];rfl,(aq.pop.pop.pop).weaken hle⟩)
end Go.Ev
namespace Go.Ev
section
variable [Env] {H_:Type}
def Fit (P:Program):Nat->TypeId->DataW H_->Prop
  | 0,_,_=>False
  | fuel+1,t,d=>
    match P.underlying t with
    | some .bool=>∃b,d= .lit (.bool b)
    | some (.int k)=>∃n,d= .lit (.int k n)
    | some .string=>∃s,d= .lit (.string s)/\s.length<=maxLen
    | some (.slice e)=>d= .nil∨∃elems spare,d= .slice elems spare/\∀x∈elems,Fit P fuel e x
    | some (.struct fs)=>∃parts,d= .agg parts/\parts.length=fs.size/\∀(i:Nat) (f:Field) (x:DataW H_),fs[i]?=some f->parts[i]?=some x->Fit P fuel f.type x
    | _=>True
theorem C7 {α β:Type} {f:α->Option β}:∀{l:List α} {ys:List β},l.mapM f=some ys->ys.length=l.length/\∀(i:Nat) (x:α),l[i]?=some x->∃y,ys[i]?=some y/\f x=some y
  | [],ys,h=>by simp_all
  | a::l,ys,h=>by
    simp only[List.mapM_cons,Option.bind_eq_bind,Option.bind_eq_some_iff,Option.pure_def,oJ_] at h;obtain⟨y,h1,r,u,rfl⟩:=h;obtain⟨k1,k2⟩:=C7 u
    grind
variable {enc:TypeId×Value->H_} {P:Program} {w:World}
theorem lJ:∀(fuel:Nat) (t:TypeId) (cs:List Value) (d:DataW H_) (p:List MemPlace),DataW.trod enc P w 0 (fun _=>true) true fuel t cs=some (d,p)->Fit P fuel t d
  | 0,_,_,_,_,h=>by simp[DataW.trod] at h
  | fuel+1,t,cs,d,p,h=>by
    have ih:=lJ fuel;unfold Fit;cases hu:P.underlying t with
    | none=>trivial
    | some u=>
      unfold DataW.trod at h;rw[hu] at h;cases u with
      | bool=>
        split at h<;>first | (rename_i he;cases he;done) | skip
        all_goals first
          | (cases h;exact⟨_,Z⟩)
          | cases h
      | int k=>
        split at h<;>first | (rename_i he;cases he;done) | skip
        all_goals first
          | (rename_i C k2 n he
             cases he;split at h
             · cases h;exact⟨_,Z⟩
             · cases h)
          | cases h
      | string=>
        split at h<;>first | (rename_i he;cases he;done) | skip
        all_goals first
          | (split at h
             · rename_i E;cases h;exact⟨_,Z,by rw[Array.length_toList];exact E⟩
             · cases h)
          | cases h
      | struct fs=>
        dsimp only at h⊢;split at h
        · obtain⟨xs,F,hx⟩:=oM_.1 h
          have z:d= .agg (xs.map (·.1)):=by have:=congrArg Prod.fst hx;simpa using this.symm
          obtain⟨C,k2⟩:=C7 F;refine⟨_,z,by simpa using C,fun i f x hf A=>?_⟩;obtain⟨y,hy,K⟩:=k2 i f (by rw[aT_];exact hf);rw[gM_,hy] at A;cases A;exact ih _ _ _ y.2 K
        · cases h
      | slice e=>
        split at h<;>first | (rename_i he;cases he;done) | skip
        · cases h;exact .inl Z
        · rename_i e' a len cap he
          cases he;dsimp only at h;rw[if_pos Z] at h;split at h
          · obtain⟨elems,L,M⟩:=Option.bind_eq_some_iff.1 h
            obtain⟨rest,_,z⟩:=oM_.1 M;have z:d= .slice (elems.map (·.1)) (rest.map (·.1)):=by have:=congrArg Prod.fst z;simpa using this.symm
            refine .inr ⟨_,_,z,fun x hx=>?_⟩;obtain⟨y,hy,rfl⟩:=List.mem_map.1 hx;obtain⟨i,hi⟩:=gO_ hy;obtain⟨C,k2⟩:=m7 L;obtain⟨j,_,hj⟩:=k2 i y hi;obtain⟨c,_,hc⟩:=Option.bind_eq_some_iff.1 hj;exact ih _ _ _ y.2 hc
          · cases h
        all_goals cases h
      | _=>trivial
end
section
variable [Env] {P:Program} {G:Cx}
def wz (U:I):H:=fun b o=>b<U.next/\U.m.get b=some o
theorem J.of (U:I):J U (wz U) []:=⟨fun b o h=>⟨h.1,h.2,fun e he=>by cases he⟩,fun e he=>(by cases he),List.Pairwise.nil⟩
theorem kJ.Pn {w w':World} {S S':dg} {U U':I} (h:fj S U w S' U' w') (A:lB U):kJ w w':=
  ⟨h.os,h.out,h.tape,h.size,fun r u=>h.frame r u fun⟨b,o,l,h1,z,_⟩=>by rw[A b o h1] at z;cases z⟩
theorem Cp (hm:P.follows .mixedOrders=true) (u:B0 P G) {S:dg} {U:I} {w:World} {f:Nat} {args:List V} {xs:Array Value} {R:V->I->Prop} (hi:Inv S U w) (z:GR S G) (A:lB U) (hx:dt S args xs.toList) (h:bm P G f args U R):
    Calls P f xs w fun e w'=>∃v x U' S',e= .returned x/\kJ w w'/\VR S' v x/\R v U':=by
  obtain⟨K,v,U',h1,C⟩:=h;exact qu (fuel:=K) hm u (h1 K<|nR_ _) hi z hx fun S' w' x _ st hv=>⟨v,x,U',S',Z,kJ.Pn st A,hv,C⟩
theorem lB.leaf:lB U0:=fun b o h=>by
  have:(PT.leaf:PT cM).get b=some o:=h;rw[PT.mS] at this;cases this
theorem dY.fresh {S:dg} {U:I} {w:World} (hi:Inv S U w) {b:Nat} {o:cM} (h:U.m.get b=some o):b<U.next:=by
  rcases Nat.lt_or_ge b U.next with h' | h'
  · exact h'
  · rw[(hi.fresh b h').2] at h;cases h
end
section
variable {H_:Type}
def tC:DataW H_->Int
 | .lit (.int _ n)=>n
 | _=>0
def Of:DataW H_->List Nat
 | .lit (.string s)=>s.map UInt8.toNat
 | _=>[]
def jf:DataW H_->List (DataW H_)
 | .slice l _=>l
 | _=>[]
def ec (d:DataW H_) (i:Nat):DataW H_:=
 match d with
 | .agg ps=>ps.getD i .nil
 | _=>.nil
def BF:Nat->DataW H_->XE
 | 0,_=>.mk 0 0 [] []
 | 1,_=>.mk 0 0 [] []
 | k+2,d=>.mk (tC<|ec d 0) (tC<|ec d 1) (Of<|ec d 2) ((jf<|ec d 3).map<|BF k)
def KL (k:Nat) (d:DataW H_):XI:=⟨tC<|ec d 0,tC<|ec d 1,tC<|ec d 2,tC<|ec d 3,tC<|ec d 4,(jf<|ec d 5).map<|BF k⟩
def DH (k:Nat) (d:DataW H_):XC:=⟨tC<|ec d 0,(jf<|ec d 1).map<|KL k⟩
end
section
variable [Env] {H_:Type} {P:Program} {U:I}
theorem nX {fuel:Nat} {t:TypeId} {d:DataW H_} {vs:List V} {k:IntKind} (hu:P.underlying t=some (.int k)) (hf:Fit P fuel t d) (u:dY P U fuel t d vs):vs= [.int k<|tC d]/\(Lit.int k<|tC d).wf=true:=by
 cases fuel with
 | zero=>exact hf.elim
 | succ fuel=>
  unfold Fit at hf;rw[hu] at hf;obtain⟨n,rfl⟩:=hf;unfold dY at u;rw[hu] at u;obtain⟨_,z,rfl⟩:=u;exact⟨Z,z⟩
theorem Ov {fuel:Nat} {t:TypeId} {d:DataW H_} {vs:List V} (hu:P.underlying t=some .string) (hf:Fit P fuel t d) (u:dY P U fuel t d vs):vs= [.str<|Of d]:=by
 cases fuel with
 | zero=>exact hf.elim
 | succ fuel=>
  unfold Fit at hf;rw[hu] at hf;obtain⟨n,rfl,_⟩:=hf;unfold dY at u;rw[hu] at u;exact u.2
theorem MR {fuel:Nat} {t:TypeId} {d:DataW H_} (hu:P.underlying t=some .string) (hf:Fit P fuel t d):(Of d).length<=9223372036854775807:=by
 cases fuel with
 | zero=>exact hf.elim
 | succ fuel=>
  unfold Fit at hf;rw[hu] at hf;obtain⟨n,rfl,h⟩:=hf;show(n.map UInt8.toNat).length<=_;rw[lM_];exact h
theorem jy {α:Type} {fuel:Nat} {t e:TypeId} {m:Nat} {d:DataW H_} {vs:List V} (F:DataW H_->α) (R:α->List V->Prop) (hu:P.underlying t=some (.slice e)) (hm:P.cellsOf e=m) (h1:1<=m) (A:∀(b:Nat) (o:cM),U.m.get b=some o->b<U.next) (hf:Fit P (fuel+1) t d) (u:dY P U (fuel+1) t d vs)
  (hR:∀x vs,Fit P fuel e x->dY P U fuel e x vs->R (F x) vs):∃v,vs= [v]/\bJ (wz U) m R ((jf d).map F) v:=by
 unfold Fit at hf;rw[hu] at hf;dsimp only at hf;unfold dY at u;rw[hu] at u;rcases hf with rfl | ⟨elems,spare,rfl,aa⟩
 ·dsimp only at u;exact⟨_,u,.inl ⟨Z,Z⟩⟩
 dsimp only at u;rw[hm] at u;obtain⟨b,c,cells,e',rfl,k2,z,C,E,k6⟩:=u h1;refine⟨_,Z,.inr ⟨b,0,c,cells,e',true,by rw[show(jf<|DataW.slice elems spare).map F=elems.map F from Z,lM_],?_,⟨A b _ z,z⟩,?_,?_,fun i x hx=>?_⟩⟩
 ·rw[show(jf<|DataW.slice elems spare).map F=elems.map F from Z,lM_];rcases C with rfl | rfl
  ·exact .inr ⟨_,Z,Nat.le_add_right _ _⟩
  exact .inl Z
 ·rw[show(jf<|DataW.slice elems spare).map F=elems.map F from Z,lM_,E,nA_];exact nR_ _
 ·rw[show(jf<|DataW.slice elems spare).map F=elems.map F from Z,lM_];exact k2
 rw[show(jf<|DataW.slice elems spare).map F=elems.map F from Z,gM_,oM_] at hx
 grind
theorem jY {fuel:Nat} {t:TypeId} {fs:Array Field} {d:DataW H_} {vs:List V} {m:Nat} (hu:P.underlying t=some (.struct fs)) (hc:P.cellsOf t=m) (ht:qY P fs.toList 0=some m) (hf:Fit P (fuel+1) t d) (u:dY P U (fuel+1) t d vs):
  vs.length=m/\∀(i:Nat) (f:Field),fs[i]?=some f->Fit P fuel f.type (ec d i)/\dY P U fuel f.type (ec d i) ((vs.drop f.offset).take<|P.cellsOf f.type):=by
 unfold Fit at hf;rw[hu] at hf;dsimp only at hf;obtain⟨parts,rfl,hn,aa⟩:=hf;unfold dY at u
 grind [ec]
theorem bJ.zW {α:Type} {K:H} {m:Nat} {R R':α->List V->Prop} {l:List α} {v:V} (h:bJ K m R l v) (u:∀x vs,R x vs->R' x vs):bJ K m R' l v:=h.mono (H.le_refl K) u
theorem eE.up {K:H}:∀{k:Nat} {x:XE} {vs:List V},eE K k x vs->eE K (k+1) x vs
 | 0,x,_,h=>by cases x;exact h.elim
 | k+1,.mk op num name kids,vs,h=>by
  obtain⟨v,rfl,hk⟩:=h;exact⟨v,Z,hk.zW fun x vs h=>eE.up h⟩
end
theorem Hp {H_:Type} {enc:TypeId×Value->H_} {P:Program} {w w':World} {sp:Nat->Bool} (u:∀r:Nat,r<w.heap.size->w'.heap[r]?=w.heap[r]?) {fuel:Nat} {t:TypeId} {cs:List Value} {x:DataW H_×List MemPlace}
  (h:DataW.trod enc P w 0 sp true fuel t cs=some x):DataW.trod enc P w' 0 sp true fuel t cs=some x:=by
 refine DataW.trod_carry fuel t cs x h fun p hp=>?_
 have hlt:=DataW.trod_lt fuel t cs x h p hp;cases p with
 | cell b off=>
  show w'.cell? ⟨b,off,none⟩=w.cell? ⟨b,off,none⟩;unfold World.cell?;rw[u b hlt]
 | map b=>exact u b hlt
theorem tf {H_:Type} {enc:TypeId×Value->H_} {P:Program} {w w':World} {sp:Nat->Bool} (u:∀r:Nat,r<w.heap.size->w'.heap[r]?=w.heap[r]?):∀{ts:List TypeId} {vs:List Value} {ds:List (DataW H_)} {ps:List MemPlace},
  DataW.TrodAll enc P w 0 sp true ts vs ds ps->DataW.TrodAll enc P w' 0 sp true ts vs ds ps
 | [],[],[],_,h=>h
 | _::_,_::_,_::_,_,⟨p,q,⟨n,h1⟩,z,e⟩=>⟨p,q,⟨n,Hp u h1⟩,tf u z,e⟩
theorem Dk {H_:Type} {enc:TypeId×Value->H_} {P:Program} (hl:laidOutB P=true) (hm:mapsRowed P=true) (z:((List.range P.types.size).all fun t=>match P.underlying t with | some (.slice e)=>decide (0<P.cellsOf e) | _=>true)=true) {w w':World} (hk:kJ w w') {ts:List TypeId} {vs:List Value} {ds:List (DataW H_)} {ps:List MemPlace}
  (A:(ts.all fun t=>decide (t<P.types.size))=true) (h:DataW.TrodAll enc P w 0 (fun _=>true) true ts vs ds ps) {sp:Nat->Bool} (u:∀p∈ps,sp p.block=true):DataW.TrodAll enc P w' 0 sp true ts vs ds ps:=
 tf hk.same (h.respare (kids_rows hl hm) (slices_full_of P z) (fun t C=>of_decide_eq_true (aE_.1 A t C)) u)
end Go.Ev
namespace Go.Ev
variable [Env]
open Go.Proofs
set_option maxRecDepth 4000
set_option maxHeartbeats 8000000
theorem Hb {G:Cx} (hG:Plain G) {K:H} {l1 l2:List Int} {v1 v2:V} {U:I} {L:Own} (aq:J U K L) (h1:bJ K 1 (cz) l1 v1) (h2:bJ K 1 (cz) l2 v2)
     :bm Tryz.prog G 50 [v1,v2] U fun v U'=>v= .bool (dq l1 l2)/\J U' K L:=by
  refine QX hG Tryz.func50 Z<|PV 9 Z<|O Z (RG h1 Z Z Z (e:=2) Z) Z<|vQ 1 Z<|O Z (RG h2 Z Z Z (e:=2) Z) Z<|QC 3 Z<|aD Z (fun z=>?_) (fun z=>?_)
  · skip
    refine QB 7 Z ?_;exact aB Z Z ⟨by first | rw[fp<|bN z] | (rw[fM A C (by simpa only[tg] using bN E)]) | rw[ep (dA<|bn z) (br F) u],aq⟩
  · skip
    refine Pt 9 Z ?_;obtain⟨LL1,aq,hLL1⟩:=aq.named;refine bp ([4,5]++rg 11 15) (fun j t U=>∃(i:Nat),j+i=l1.length/\(∀k,k<i->l1[k]?=l2[k]?)/\t.get 5=some (.int .i64 (.ofNat i))/\J U K LL1) (l1.length) ⟨0,Z,fun k hk=>absurd hk (nZ_ _),Z,aq⟩ ?_;clear aq;intro j4 t U ar hI;obtain⟨i,hj,u,aa,aq⟩:=hI;subst hLL1;obtain⟨oo,rfl⟩:=ar.q1 aa Z;refine PV 5 Z<|O Z (RG h1 Z Z Z (e:=2) Z) Z<|QC 3 Z<|aD Z (fun F=>?_) (fun F=>?_)
    · skip
      refine OR 5 Z<|aS (l:=zp [0,1,2,3,4,5,6,7,8]) Y Y<|Q5 2 Z ?_;obtain⟨ao,A,M⟩:=cE F;refine Ry (e:=2) (m:=1) h1 A Z Z Z Z Z (fun ap ab Q ac R=>?_);obtain rfl:=R;refine al Z Z (RI aq Q Z Z) Z<|Q5 2 Z ?_;obtain⟨aK,C⟩:=cq (show _<l2.length from by rw[<-dA (bn z)];exact M);refine Ry (e:=2) (m:=1) h2 C Z Z Z Z Z (fun a0 ae W am X=>?_);obtain rfl:=X;refine al Z Z (RI aq W Z Z) Z<|QF 3 Z<|aD Z (fun E=>?_) (fun E=>?_)
      · skip
        refine Q1 6 Z<|aE<|av<|bq<|aE<|av (?_);exact aB Z Z ⟨by first | rw[fp<|bN z] | (rw[fM A C (by simpa only[tg] using bN E)]) | rw[ep (dA<|bn z) (br F) u],aq⟩
      · skip
        refine aG<|aI<|Q0 5 Z<|aM ⟨j4-1,by omega,oF,i+1,by omega,jT u A C (by simpa only[tg] using bn E),cI<|bg (by have:=h1.bG;omega),aq⟩
    · skip
      refine PY 3 Z<|aU<|Q1 6 Z ?_;exact aB Z Z ⟨by first | rw[fp<|bN z] | (rw[fM A C (by simpa only[tg] using bN E)]) | rw[ep (dA<|bn z) (br F) u],aq⟩
theorem KO {G:Cx} (hG:Plain G) {K:H} {l1 l2:List de} {v1 v2:V} {U:I} {L:Own} (aq:J U K L) (h1:bJ K 5 (ji) l1 v1) (h2:bJ K 5 (ji) l2 v2)
     :bm Tryz.prog G 51 [v1,v2] U fun v U'=>v= .bool (dq l1 l2)/\J U' K L:=by
  refine QX hG Tryz.func51 Z<|PV 9 Z<|O Z (RG h1 Z Z Z (e:=56) Z) Z<|vQ 1 Z<|O Z (RG h2 Z Z Z (e:=56) Z) Z<|QC 3 Z<|aD Z (fun z=>?_) (fun z=>?_)
  · skip
    refine QB 7 Z ?_;exact aB Z Z ⟨by first | rw[fp<|bN z] | (rw[fM A C (by exact(de.same (x:=M) (y:=Q)).symm.trans<|bN E)]) | rw[ep (dA<|bn z) (br F) u],aq⟩
  · skip
    refine Pt 9 Z ?_;obtain⟨LL1,aq,hLL1⟩:=aq.named;refine bp ([4,5]++rg 11 15) (fun j t U=>∃(i:Nat),j+i=l1.length/\(∀k,k<i->l1[k]?=l2[k]?)/\t.get 5=some (.int .i64 (.ofNat i))/\J U K LL1) (l1.length) ⟨0,Z,fun k hk=>absurd hk (nZ_ _),Z,aq⟩ ?_;clear aq;intro j4 t U ar hI;obtain⟨i,hj,u,ac,aq⟩:=hI;subst hLL1;obtain⟨oo,rfl⟩:=ar.q1 ac Z;refine PV 5 Z<|O Z (RG h1 Z Z Z (e:=56) Z) Z<|QC 3 Z<|aD Z (fun F=>?_) (fun F=>?_)
    · skip
      refine OR 5 Z<|aS (l:=zp [0,1,2,3,4,5,6,7,8]) Y Y<|Q5 2 Z ?_;obtain⟨M,A,R⟩:=cE F;refine Ry (e:=56) (m:=5) h1 A Z Z Z Z Z (fun aK ae W am X=>?_);obtain rfl:=X;refine al Z Z (RJ aq W Z Z) Z<|Q5 2 Z ?_;obtain⟨Q,C⟩:=cq (show _<l2.length from by rw[<-dA (bn z)];exact R);refine Ry (e:=56) (m:=5) h2 C Z Z Z Z Z (fun a0 ao aa ap ab=>?_);obtain rfl:=ab;refine al Z Z (RJ aq aa Z Z) Z<|al Z Z (Ax (n:=5) (ca:=[_,_,_,_,_]) (cb:=[_,_,_,_,_]) Y Z Z Z Z) Z<|QF 2 Z<|aD Z (fun E=>?_) (fun E=>?_)
      · skip
        refine Q1 6 Z<|aE<|av<|bq<|aE<|av (?_);exact aB Z Z ⟨by first | rw[fp<|bN z] | (rw[fM A C (by exact(de.same (x:=M) (y:=Q)).symm.trans<|bN E)]) | rw[ep (dA<|bn z) (br F) u],aq⟩
      · skip
        refine aG<|aI<|Q0 5 Z<|aM ⟨j4-1,by omega,oF,i+1,by omega,jT u A C (by exact(de.same (x:=M) (y:=Q)).symm.trans<|bn E),cI<|bg (by have:=h1.bG;omega),aq⟩
    · skip
      refine PY 3 Z<|aU<|Q1 6 Z ?_;exact aB Z Z ⟨by first | rw[fp<|bN z] | (rw[fM A C (by exact(de.same (x:=M) (y:=Q)).symm.trans<|bN E)]) | rw[ep (dA<|bn z) (br F) u],aq⟩
theorem Nx {G:Cx} (hG:Plain G) {K:H} {l1 l2:List dy} {v1 v2:V} {U:I} {L:Own} (aq:J U K L) (h1:bJ K 2 (jz) l1 v1) (h2:bJ K 2 (jz) l2 v2)
     :bm Tryz.prog G 41 [v1,v2] U fun v U'=>v= .bool (dq l1 l2)/\J U' K L:=by
  refine QX hG Tryz.func41 Z<|PV 9 Z<|O Z (RG h1 Z Z Z (e:=67) Z) Z<|vQ 1 Z<|O Z (RG h2 Z Z Z (e:=67) Z) Z<|QC 3 Z<|aD Z (fun z=>?_) (fun z=>?_)
  · skip
    refine QB 7 Z ?_;exact aB Z Z ⟨by first | rw[fp<|bN z] | (rw[fM A C (by exact(dy.same (x:=M) (y:=Q)).symm.trans<|bN E)]) | rw[ep (dA<|bn z) (br F) u],aq⟩
  · skip
    refine Pt 9 Z ?_;obtain⟨LL1,aq,hLL1⟩:=aq.named;refine bp ([4,5]++rg 11 15) (fun j t U=>∃(i:Nat),j+i=l1.length/\(∀k,k<i->l1[k]?=l2[k]?)/\t.get 5=some (.int .i64 (.ofNat i))/\J U K LL1) (l1.length) ⟨0,Z,fun k hk=>absurd hk (nZ_ _),Z,aq⟩ ?_;clear aq;intro j4 t U ar hI;obtain⟨i,hj,u,ac,aq⟩:=hI;subst hLL1;obtain⟨oo,rfl⟩:=ar.q1 ac Z;refine PV 5 Z<|O Z (RG h1 Z Z Z (e:=67) Z) Z<|QC 3 Z<|aD Z (fun F=>?_) (fun F=>?_)
    · skip
      refine OR 5 Z<|aS (l:=zp [0,1,2,3,4,5,6,7,8]) Y Y<|Q5 2 Z ?_;obtain⟨M,A,R⟩:=cE F;refine Ry (e:=67) (m:=2) h1 A Z Z Z Z Z (fun aK ae W am X=>?_);obtain rfl:=X;refine al Z Z (RJ aq W Z Z) Z<|Q5 2 Z ?_;obtain⟨Q,C⟩:=cq (show _<l2.length from by rw[<-dA (bn z)];exact R);refine Ry (e:=67) (m:=2) h2 C Z Z Z Z Z (fun a0 ao aa ap ab=>?_);obtain rfl:=ab;refine al Z Z (RJ aq aa Z Z) Z<|al Z Z (Ax (n:=2) (ca:=[_,_]) (cb:=[_,_]) Y Z Z Z Z) Z<|QF 2 Z<|aD Z (fun E=>?_) (fun E=>?_)
      · skip
        refine Q1 6 Z<|aE<|av<|bq<|aE<|av (?_);exact aB Z Z ⟨by first | rw[fp<|bN z] | (rw[fM A C (by exact(dy.same (x:=M) (y:=Q)).symm.trans<|bN E)]) | rw[ep (dA<|bn z) (br F) u],aq⟩
      · skip
        refine aG<|aI<|Q0 5 Z<|aM ⟨j4-1,by omega,oF,i+1,by omega,jT u A C (by exact(dy.same (x:=M) (y:=Q)).symm.trans<|bn E),cI<|bg (by have:=h1.bG;omega),aq⟩
    · skip
      refine PY 3 Z<|aU<|Q1 6 Z ?_;exact aB Z Z ⟨by first | rw[fp<|bN z] | (rw[fM A C (by exact(dy.same (x:=M) (y:=Q)).symm.trans<|bN E)]) | rw[ep (dA<|bn z) (br F) u],aq⟩
theorem MX {G:Cx} (hG:Plain G) {K:H} {g1 z:XG} {a1 b1 c1 d1 a2 b2 c2 d2:V} {U:I} {L:Own} (aq:J U K L) (h1:ej K g1 a1 b1 c1 d1) (h2:ej K z a2 b2 c2 d2):
  bm Tryz.prog G 17 [.agg [a1,b1,c1,d1],.agg [a2,b2,c2,d2]] U fun v U'=>v= .bool (dq g1 z)/\J U' K L:=by
 obtain⟨cc,ab,ac,ae⟩:=h1;obtain⟨ce,a7,a8,a9⟩:=h2;refine QX hG Tryz.func17 Z<|QA 2 Z<|kp aq Z (cA Z Z) (fun U b1 aq=>?_);refine kp aq Z (cA Z Z) (fun U b2 aq=>?_);refine Pz aq 10 [0,1,0,0] Z Z<|bj Z (RC Z Z Z) (fun _=>Z) (Hb hG aq cc ce) (fun U aq=>?_);refine O Z (cT Z) Z<|ky Z (an Z) (fun u=>?_) (fun u=>?_)
 ·refine P3 36 Z ?_;exact aB Z Z ⟨cB (by have A:dq g1.init z.init=false:=(by simpa using u);rw[nI];simp only[A,Bool.and_true,Bool.true_and,Bool.and_false,Bool.false_and]),aq.pop.pop⟩
 refine Q7 aq 2 [1,1] Z Z<|O Z (RG ab Z Z Z (e:=57) Z) Z<|Q7 aq 2 [1,0] Z Z<|O Z (RG a7 Z Z Z (e:=57) Z) Z<|Q3 2 Z<|ky Z (an Z) (fun C=>?_) (fun C=>?_)
 ·refine P3 27 Z ?_;exact aB Z Z ⟨cB (by have A:dq g1.init z.init=true:=(by simpa using u);have e1:=fp (bN C);rw[nI];simp only[A,e1,Bool.and_true,Bool.true_and,Bool.and_false,Bool.false_and]),aq.pop.pop⟩
 refine Q7 aq 2 [2,1] Z Z<|O Z (RG ac Z Z Z (e:=74) Z) Z<|Q7 aq 2 [2,0] Z Z<|O Z (RG a8 Z Z Z (e:=74) Z) Z<|Q3 2 Z<|ky Z (an Z) (fun E=>?_) (fun E=>?_)
 ·refine P3 18 Z ?_;exact aB Z Z ⟨cB (by have A:dq g1.init z.init=true:=(by simpa using u);have e2:=fp (bN E);rw[nI];simp only[A,e2,Bool.and_true,Bool.true_and,Bool.and_false,Bool.false_and]),aq.pop.pop⟩
 refine Q7 aq 2 [3,1] Z Z<|O Z (RG ae Z Z Z (e:=74) Z) Z<|Q7 aq 2 [3,0] Z Z<|O Z (RG a9 Z Z Z (e:=74) Z) Z<|QC 4 Z<|aD Z (fun am=>?_) (fun am=>?_)
 ·refine QB 7 Z ?_;exact aB Z Z ⟨cB (by have A:dq g1.init z.init=true:=(by simpa using u);have e3:=fp (bN am);rw[nI];simp only[A,e3,Bool.and_true,Bool.true_and,Bool.and_false,Bool.false_and]),aq.pop.pop⟩
 refine Pt 9 Z ?_;obtain⟨LL1,aq,hLL1⟩:=aq.named;refine bp ([4,5]++rg 41 19) (fun j t U=>∃(i:Nat),j+i=g1.threads.length/\(∀k,k<i->g1.threads[k]?=z.threads[k]?)/\t.get 5=some (.int .i64 (.ofNat i))/\J U K LL1) (g1.threads.length) ⟨0,Z,fun k hk=>absurd hk (nZ_ _),Z,aq⟩ ?_;clear aq;intro j4 t U ar hI;obtain⟨i,dd,ao,ch,aq⟩:=hI;subst hLL1;obtain⟨oo,rfl⟩:=ar.q1 ch Z;refine P7 aq 6 [1,1] Z Z<|O Z (RG ab Z Z Z (e:=57) Z) Z<|QC 3 Z<|aD Z (fun F=>?_) (fun F=>?_)
 ·refine OR 5 Z<|aS (l:=zp [0,1,2,3,4,5,6,7,8,9,10,11]) Y Y<|Q8 aq 3 [1,1] Z Z ?_;obtain⟨dl,M,bb⟩:=cE F;refine Ry (e:=57) (m:=1) ab M Z Z Z Z Z (fun dm cn bc co be=>?_);have hr51':=be;obtain⟨dr,rfl,bi⟩:=hr51';refine al Z Z (RI aq bc Z Z) Z<|Q8 aq 3 [1,0] Z Z ?_;obtain⟨ds,Q⟩:=cq (show _<z.threads.length from by rw[<-dA (bn C)];exact bb);refine Ry (e:=57) (m:=1) a7 Q Z Z Z Z Z (fun dx cp bl cs bo=>?_);have hr56':=bo;obtain⟨d0,rfl,bs⟩:=hr56';refine al Z Z (RI aq bl Z Z) Z<|cy Z Z (RC Z Z Z) (fun _=>Z) (KO hG aq bi bs) (fun U aq=>?_);refine⟨aT,?_⟩;refine al Z Z (cT Z) Z<|QF 2 Z<|aD Z (fun a0=>?_) (fun a0=>?_)
  ·refine Q1 6 Z<|aE<|av<|bq<|aE<|av (?_);exact aB Z Z ⟨cB (by have A:dq g1.init z.init=true:=(by simpa using u);have e1:=fM M Q (by simpa using a0);rw[nI];simp only[A,e1,Bool.and_true,Bool.true_and,Bool.and_false,Bool.false_and]),aq.pop.pop⟩
  refine aG<|aI<|Q0 5 Z<|aM ⟨j4-1,by omega,oF,i+1,by omega,jT ao M Q (by simpa using a0),cI<|bg (by have:=ab.bG;omega),aq⟩
 refine PY 3 Z<|aU<|PU 7 Z ?_;obtain⟨LL2,aq,hLL2⟩:=aq.named;refine bp ([4,6]++rg 60 19) (fun j t U=>∃(i2:Nat),j+i2=g1.from_.length/\(∀k,k<i2->g1.from_[k]?=z.from_[k]?)/\t.get 6=some (.int .i64 (.ofNat i2))/\J U K LL2) (g1.from_.length) ⟨0,Z,fun k hk=>absurd hk (nZ_ _),Z,aq⟩ ?_;clear aq;intro j9 t U ar hI;obtain⟨i2,d3,a3,ci,aq⟩:=hI;subst hLL2;obtain⟨oo,rfl⟩:=ar.q1 ci Z;refine P7 aq 6 [2,1] Z Z<|O Z (RG ac Z Z Z (e:=74) Z) Z<|QC 3 Z<|aD Z (fun ap=>?_) (fun ap=>?_)
 ·refine OR 5 Z<|aS (l:=zp [0,1,2,3,4,5,6,7,8,9,10,11]) Y Y<|Q8 aq 3 [2,1] Z Z ?_;obtain⟨d4,R,bt⟩:=cE ap;refine Ry (e:=74) (m:=1) ac R Z Z Z Z Z (fun d5 cv bv cx bw=>?_);have hr70':=bw;obtain⟨d6,rfl,bz⟩:=hr70';refine al Z Z (RI aq bv Z Z) Z<|Q8 aq 3 [2,0] Z Z ?_;obtain⟨d7,W⟩:=cq (show _<z.from_.length from by rw[<-dA (bn E)];exact bt);refine Ry (e:=74) (m:=1) a8 W Z Z Z Z Z (fun d8 c0 b0 c3 b3=>?_);have hr75':=b3;obtain⟨d9,rfl,b4⟩:=hr75';refine al Z Z (RI aq b0 Z Z) Z<|cy Z Z (RC Z Z Z) (fun _=>Z) (Nx hG aq bz b4) (fun U aq=>?_);refine⟨aT,?_⟩;refine al Z Z (cT Z) Z<|QF 2 Z<|aD Z (fun a4=>?_) (fun a4=>?_)
  ·refine Q1 6 Z<|aE<|av<|bq<|aE<|av (?_);exact aB Z Z ⟨cB (by have A:dq g1.init z.init=true:=(by simpa using u);have e1:=ep (dA<|bn C) (br F) ao;have e2:=fM R W (by simpa using a4);rw[nI];simp only[A,e1,e2,Bool.and_true,Bool.true_and,Bool.and_false,Bool.false_and]),aq.pop.pop⟩
  refine aG<|aI<|Q0 5 Z<|aM ⟨j9-1,by omega,oF,i2+1,by omega,jT a3 R W (by simpa using a4),cI<|bg (by have:=ac.bG;omega),aq⟩
 refine PY 3 Z<|aU<|PU 7 Z ?_;obtain⟨LL3,aq,hLL3⟩:=aq.named;refine bp ([4,7]++rg 79 19) (fun j t U=>∃(i3:Nat),j+i3=g1.order.length/\(∀k,k<i3->g1.order[k]?=z.order[k]?)/\t.get 7=some (.int .i64 (.ofNat i3))/\J U K LL3) (g1.order.length) ⟨0,Z,fun k hk=>absurd hk (nZ_ _),Z,aq⟩ ?_;clear aq;intro ck t U ar hI;obtain⟨i3,c4,aK,cl,aq⟩:=hI;subst hLL3;obtain⟨oo,rfl⟩:=ar.q1 cl Z;refine P7 aq 6 [3,1] Z Z<|O Z (RG ae Z Z Z (e:=74) Z) Z<|QC 3 Z<|aD Z (fun a5=>?_) (fun a5=>?_)
 ·refine OR 5 Z<|aS (l:=zp [0,1,2,3,4,5,6,7,8,9,10,11]) Y Y<|Q8 aq 3 [3,1] Z Z ?_;obtain⟨ee,X,b5⟩:=cE a5;refine Ry (e:=74) (m:=1) ae X Z Z Z Z Z (fun eg c5 b6 c7 b7=>?_);have hr89':=b7;obtain⟨el,rfl,b8⟩:=hr89';refine al Z Z (RI aq b6 Z Z) Z<|Q8 aq 3 [3,0] Z Z ?_;obtain⟨em,aa⟩:=cq (show _<z.order.length from by rw[<-dA (bn am)];exact b5);refine Ry (e:=74) (m:=1) a9 aa Z Z Z Z Z (fun en c8 b9 c9 ca=>?_);have hr94':=ca;obtain⟨er,rfl,cb⟩:=hr94';refine al Z Z (RI aq b9 Z Z) Z<|cy Z Z (RC Z Z Z) (fun _=>Z) (Nx hG aq b8 cb) (fun U aq=>?_);refine⟨aT,?_⟩;refine al Z Z (cT Z) Z<|QF 2 Z<|aD Z (fun a6=>?_) (fun a6=>?_)
  ·refine Q1 6 Z<|aE<|av<|bq<|aE<|av (?_);exact aB Z Z ⟨cB (by have A:dq g1.init z.init=true:=(by simpa using u);have e1:=ep (dA<|bn C) (br F) ao;have e2:=ep (dA<|bn E) (br ap) a3;have e3:=fM X aa (by simpa using a6);rw[nI];simp only[A,e1,e2,e3,Bool.and_true,Bool.true_and,Bool.and_false,Bool.false_and]),aq.pop.pop⟩
  refine aG<|aI<|Q0 5 Z<|aM ⟨ck-1,by omega,oF,i3+1,by omega,jT aK X aa (by simpa using a6),cI<|bg (by have:=ae.bG;omega),aq⟩
 refine PY 3 Z<|aU<|Q1 6 Z ?_;exact aB Z Z ⟨cB (by have A:dq g1.init z.init=true:=(by simpa using u);have e1:=ep (dA<|bn C) (br F) ao;have e2:=ep (dA<|bn E) (br ap) a3;have e3:=ep (dA<|bn am) (br a5) aK;rw[nI];simp only[A,e1,e2,e3,Bool.and_true,Bool.true_and,Bool.and_false,Bool.false_and]),aq.pop.pop⟩
theorem Hf {G:Cx} (z:Plain G) {K:H} (e:de) {U:I} {L:Own} (aq:J U K L):bm Tryz.prog G 110 [.agg<|ints e.ints] U fun v U'=>v= .bool (dR e)/\J U' K L:=by
 refine QX z Tryz.func110 Z<|QA 2 Z<|kp aq Z (cA Z Z) (fun U b1 aq=>?_);refine Qa aq 8 [0,0] Z Z<|ky Z (an Z) (fun u=>?_) (fun u=>?_)
 ·refine QE 8 Z ?_;exact aB Z Z ⟨cB (by unfold dR;simp only[u,ct,cf]),aq.pop⟩
 refine QL aq 8 [0,0] Z Z ?_;exact aB Z Z ⟨cB (by unfold dR;simp only[u,ct,cf]),aq.pop⟩
theorem kE {G:Cx} (z:Plain G) {K:H} (e:de) {U:I} {L:Own} (aq:J U K L):bm Tryz.prog G 68 [.agg<|ints e.ints] U fun v U'=>v= .bool (bD e)/\J U' K L:=by
 refine QX z Tryz.func68 Z<|QA 2 Z<|kp aq Z (cA Z Z) (fun U b1 aq=>?_);refine Qa aq 8 [0,0] Z Z<|ky Z (an Z) (fun u=>?_) (fun u=>?_)
 ·refine QE 8 Z ?_;exact aB Z Z ⟨cB (by unfold bD;simp only[u,ct,cf]),aq.pop⟩
 refine QL aq 8 [0,0] Z Z ?_;exact aB Z Z ⟨cB (by unfold bD;simp only[u,ct,cf]),aq.pop⟩
theorem BN {G:Cx} (hG:Plain G) {K:H} {g:XG} {a b c d:V} (h:ej K g a b c d) (th ix:Int) {U:I} {L:Own} (aq:J U K L):bm Tryz.prog G 71 [.agg [a,b,c,d],.agg [.int .i64 th,.int .i64 ix]] U fun v U'=>v= .tuple [.agg<|ints (BY<|fE g ⟨th,ix⟩).ints,.bool (fE g ⟨th,ix⟩).isSome]/\J U' K L:=by
 have h':=h;obtain⟨hi,R,hf,ho⟩:=h';refine QX hG Tryz.func71 Z<|QA 2 Z<|kp aq Z (cA Z Z) (fun U b1 aq=>?_);refine kp aq Z (cA Z Z) (fun U b2 aq=>?_);refine kp aq Z (RH (cs:=[T,T,T,T,T])) (fun U b3 aq=>?_);refine Pz aq 9 [0,1] Z Z<|ky Z (an Z) (fun h9=>?_) (fun h9=>?_)
 ·refine P1 17 Z (O Z (RB (places:=[(0,1),(1,1),(2,1),(3,1),(4,1)]) (zero:=[T,T,T,T,T]) (cs:=[_,_,_,_,_]) Z) Z<|bF aq Z (RK Z Z Z aq.g0 (m:=5) Z Z (cells':=[_,_,_,_,_]) Z) Z (fun U aq=>?_));refine P3 5 Z ?_;exact bB Z Z aq.g0 (m:=5) Y Z Z ⟨by rw[uu h9];rfl,aq.pop.pop.pop⟩
 refine Q7 aq 4 [0,1,1,2] Z Z<|O Z (RG R Z Z Z (e:=57) Z) Z<|Q3 2 Z<|ky Z (an Z) (fun z=>?_) (fun z=>?_)
 ·refine P1 9 Z (O Z (RB (places:=[(0,1),(1,1),(2,1),(3,1),(4,1)]) (zero:=[T,T,T,T,T]) (cs:=[_,_,_,_,_]) Z) Z<|bF aq Z (RK Z Z Z aq.g0 (m:=5) Z Z (cells':=[_,_,_,_,_]) Z) Z (fun U aq=>?_));refine P3 5 Z ?_;exact bB Z Z aq.g0 (m:=5) Y Z Z ⟨by rw[CB z];rfl,aq.pop.pop.pop⟩
 refine QJ aq 6 [1,1] Z Z<|aD Z (fun F=>?_) (fun F=>?_)
 ·refine QA 2 Z (O Z (RB (places:=[(0,1),(1,1),(2,1),(3,1),(4,1)]) (zero:=[T,T,T,T,T]) (cs:=[_,_,_,_,_]) Z) Z<|bF aq Z (RK Z Z Z aq.g0 (m:=5) Z Z (cells':=[_,_,_,_,_]) Z) Z (fun U aq=>?_));refine P3 5 Z ?_;exact bB Z Z aq.g0 (m:=5) Y Z Z ⟨by rw[rm F];rfl,aq.pop.pop.pop⟩
 obtain⟨tn,rfl⟩:=iD h9;obtain⟨ixn,rfl⟩:=iD F;refine Py aq 8 [0,1] Z Z<|QC 2 Z<|aD Z (fun A=>?_) (fun A=>?_)
 ·obtain rfl:tn=0:=by rw[dE] at A;simpa using A
  refine P7 aq 7 [1,1,0,2] Z Z<|O Z (RG hi Z Z Z (e:=2) Z) Z<|QC 3 Z<|aD Z (fun M=>?_) (fun M=>?_)
  ·refine QA 2 Z (O Z (RB (places:=[(0,1),(1,1),(2,1),(3,1),(4,1)]) (zero:=[T,T,T,T,T]) (cs:=[_,_,_,_,_]) Z) Z<|bF aq Z (RK Z Z Z aq.g0 (m:=5) Z Z (cells':=[_,_,_,_,_]) Z) Z (fun U aq=>?_));refine QE 4 Z<|av<|av (?_);exact bB Z Z aq.g0 (m:=5) Y Z Z ⟨by rw[show fE g _=none from by show(g.init[ixn]?).map _=_;rw[gN_<|oA M];rfl];rfl,aq.pop.pop.pop⟩
  refine PW 3 Z<|aS (l:=zp [0,1,2,3,4,5,6,7,8,9,10]) Y Y<|Q8 aq 6 [1,1,0,2,1,1] Z Z ?_;obtain⟨a7,C⟩:=cq (oC M);refine Ry (e:=2) (m:=1) hi C Z Z Z Z Z (fun a8 aK W a0 X=>?_);obtain rfl:=X;refine al Z Z (RI aq W Z Z) Z (al Z Z (RB (places:=[(0,1),(1,1),(2,1),(3,1),(4,1)]) (zero:=[T,T,T,T,T]) (cs:=[_,_,_,_,_]) Z) Z<|iE aq Z Z (RK Z Z Z aq.g0 (m:=5) Z Z (cells':=[_,_,_,_,_]) Z) Z (fun U aq=>?_));refine⟨aT,?_⟩;refine P6 5 Z ?_;exact bB Z Z aq.g0 (m:=5) Y Z Z ⟨by rw[show fE g _=some _ from by show(g.init[ixn]?).map _=_;rw[C];rfl];rfl,aq.pop.pop.pop⟩
 obtain⟨tm,rfl⟩:=GZ A;refine PW 3 Z<|ak<|aS (l:=zp [0,1,2,3,4,5,6,7,8,9,10]) Y Y<|Q8 aq 7 [1,1,1,2,0,1] Z Z ?_;obtain⟨a9,u⟩:=cq (show tm<g.threads.length from by have:=mZ z;omega);refine Ry (e:=57) (m:=1) R u Z Z Z Z (cI<|eu (by have:=mZ z;have:=R.bG;omega)) (fun bb a1 aa a2 ab=>?_);have hr49':=ab;obtain⟨bc,rfl,ac⟩:=hr49';refine al Z Z (RI aq aa Z Z) Z<|al Z Z (RG ac Z Z Z (e:=56) Z) Z<|QF 3 Z<|aD Z (fun Q=>?_) (fun Q=>?_)
 ·refine QA 2 Z (O Z (RB (places:=[(0,1),(1,1),(2,1),(3,1),(4,1)]) (zero:=[T,T,T,T,T]) (cs:=[_,_,_,_,_]) Z) Z<|bF aq Z (RK Z Z Z aq.g0 (m:=5) Z Z (cells':=[_,_,_,_,_]) Z) Z (fun U aq=>?_));refine P3 5 Z ?_;exact bB Z Z aq.g0 (m:=5) Y Z Z ⟨by rw[show fE g _=none from by show(g.threads[tm]?).bind _=_;rw[u];exact gN_<|oA Q];rfl,aq.pop.pop.pop⟩
 refine PW 3 Z<|aS (l:=zp [0,1,2,3,4,5,6,7,8,9,10,11,12]) Y Y<|Q8 aq 5 [1,2,0,1] Z Z<|Ry (e:=57) (m:=1) R u Z Z Z Z (cI<|eu (by have:=mZ z;have:=R.bG;omega)) (fun be a3 ae a4 am=>?_);have hr59':=am;obtain⟨bi,rfl,ao⟩:=hr59';refine al Z Z (RI aq ae Z Z) Z<|Q8 aq 2 [1,1] Z Z ?_;obtain⟨bl,E⟩:=cq (oC Q);refine Ry (e:=56) (m:=5) ao E Z Z Z Z Z (fun bo a5 ap a6 ar=>?_);obtain rfl:=ar;refine al Z Z (RJ aq ap Z Z) Z<|iE aq Z Z (RK Z Z Z aq.g0 (m:=5) Z Z (cells':=[_,_,_,_,_]) Z) Z (fun U aq=>?_);refine⟨aT,?_⟩;refine QG 4 Z ?_;exact bB Z Z aq.g0 (m:=5) Y Z Z ⟨by rw[show fE g _=some _ from by show(g.threads[tm]?).bind _=_;rw[u];exact E];rfl,aq.pop.pop.pop⟩
theorem BO {G:Cx} (X:Plain G) {K:H} (e:de) (n:Int) {U:I} {L:Own} (aq:J U K L):bm Tryz.prog G 74 [.agg<|ints e.ints,.int .i64 n] U fun v U'=>v= .bool (cj e n)/\J U' K L:=by
 refine QX X Tryz.func74 Z<|QA 2 Z<|kp aq Z (cA Z Z) (fun U b1 aq=>?_);refine Pz aq 9 [0,0] Z Z<|ky Z (an Z) (fun R=>?_) (fun R=>?_)
 ·refine P3 24 Z ?_;exact aB Z Z ⟨cB (by unfold cj bd;simp only[R,ct,cf]),aq.pop⟩
 refine Q7 aq 4 [0,0] Z Z<|ky Z (an Z) (fun u=>?_) (fun u=>?_)
 ·refine P3 19 Z ?_;exact aB Z Z ⟨cB (by unfold cj bd;simp only[R,u,ct,cf]),aq.pop⟩
 refine Q7 aq 4 [2,0] Z Z<|ky Z (an Z) (fun A=>?_) (fun A=>?_)
 ·refine P3 14 Z ?_;exact aB Z Z ⟨cB (by unfold cj bd;simp only[R,u,A,ct,cf]),aq.pop⟩
 refine QJ aq 6 [2,0] Z Z<|aD Z (fun C=>?_) (fun C=>?_)
 ·refine QB 7 Z ?_;exact aB Z Z ⟨cB (by unfold cj bd;simp only[R,u,A,C,ct,cf]),aq.pop⟩
 refine Pu 5 Z<|O Z (RF Z aq.g0 (n:=5) (vs:=[_,_,_,_,_]) Z) Z<|bj Z (RC Z Z Z) (fun _=>Z) (Hf X _ aq) (fun U aq=>?_);refine O Z (cT Z) Z<|ky Z (an Z) (fun F=>?_) (fun F=>?_)
 ·refine Q7 aq 4 [3,0] Z Z<|ky Z (an Z) (fun W=>?_) (fun W=>?_)
  ·refine P3 19 Z ?_;exact aB Z Z ⟨cB (by unfold cj bd;simp only[R,u,A,C,F,W,ct,cf]),aq.pop⟩
  refine O Z (RF Z aq.g0 (n:=5) (vs:=[_,_,_,_,_]) Z) Z<|bj Z (RC Z Z Z) (fun _=>Z) (kE X _ aq) (fun U aq=>?_);refine O Z (cT Z) Z<|ky Z (an Z) (fun E=>?_) (fun E=>?_)
  ·refine QJ aq 7 [4,0] Z Z<|aD Z (fun Q=>?_) (fun Q=>?_)
   ·refine QB 7 Z ?_;exact aB Z Z ⟨cB (by unfold cj bd;simp only[R,u,A,C,F,W,E,Q,ct,cf]),aq.pop⟩
   refine Py aq 8 [0,0] Z Z<|QC 2 Z<|aD Z (fun z=>?_) (fun z=>?_)
   ·refine QI aq 10 [1,0] Z Z ?_;exact aB Z Z ⟨cB (by unfold cj bd;simp only[R,u,A,C,F,W,E,Q,z,ct,cf]),aq.pop⟩
   refine P8 aq 7 [1,0] Z Z<|ky Z (an Z) (fun M=>?_) (fun M=>?_)
   ·refine QL aq 9 [1,0] Z Z ?_;exact aB Z Z ⟨cB (by unfold cj bd;simp only[R,u,A,C,F,W,E,Q,z,M,ct,cf]),aq.pop⟩
   refine QE 9 Z ?_;exact aB Z Z ⟨cB (by unfold cj bd;simp only[R,u,A,C,F,W,E,Q,z,M,ct,cf]),aq.pop⟩
  refine QC 8 Z<|Py aq 8 [0,0] Z Z<|QC 2 Z<|aD Z (fun z=>?_) (fun z=>?_)
  ·refine QI aq 10 [1,0] Z Z ?_;exact aB Z Z ⟨cB (by unfold cj bd;simp only[R,u,A,C,F,W,E,z,ct,cf]),aq.pop⟩
  refine P8 aq 7 [1,0] Z Z<|ky Z (an Z) (fun M=>?_) (fun M=>?_)
  ·refine QL aq 9 [1,0] Z Z ?_;exact aB Z Z ⟨cB (by unfold cj bd;simp only[R,u,A,C,F,W,E,z,M,ct,cf]),aq.pop⟩
  refine QE 9 Z ?_;exact aB Z Z ⟨cB (by unfold cj bd;simp only[R,u,A,C,F,W,E,z,M,ct,cf]),aq.pop⟩
 refine Q3 5 Z<|O Z (RF Z aq.g0 (n:=5) (vs:=[_,_,_,_,_]) Z) Z<|bj Z (RC Z Z Z) (fun _=>Z) (kE X _ aq) (fun U aq=>?_);refine O Z (cT Z) Z<|ky Z (an Z) (fun E=>?_) (fun E=>?_)
 ·refine QJ aq 7 [4,0] Z Z<|aD Z (fun Q=>?_) (fun Q=>?_)
  ·refine QB 7 Z ?_;exact aB Z Z ⟨cB (by unfold cj bd;simp only[R,u,A,C,F,E,Q,ct,cf]),aq.pop⟩
  refine Py aq 8 [0,0] Z Z<|QC 2 Z<|aD Z (fun z=>?_) (fun z=>?_)
  ·refine QI aq 10 [1,0] Z Z ?_;exact aB Z Z ⟨cB (by unfold cj bd;simp only[R,u,A,C,F,E,Q,z,ct,cf]),aq.pop⟩
  refine P8 aq 7 [1,0] Z Z<|ky Z (an Z) (fun M=>?_) (fun M=>?_)
  ·refine QL aq 9 [1,0] Z Z ?_;exact aB Z Z ⟨cB (by unfold cj bd;simp only[R,u,A,C,F,E,Q,z,M,ct,cf]),aq.pop⟩
  refine QE 9 Z ?_;exact aB Z Z ⟨cB (by unfold cj bd;simp only[R,u,A,C,F,E,Q,z,M,ct,cf]),aq.pop⟩
 refine QC 8 Z<|Py aq 8 [0,0] Z Z<|QC 2 Z<|aD Z (fun z=>?_) (fun z=>?_)
 ·refine QI aq 10 [1,0] Z Z ?_;exact aB Z Z ⟨cB (by unfold cj bd;simp only[R,u,A,C,F,E,z,ct,cf]),aq.pop⟩
 refine P8 aq 7 [1,0] Z Z<|ky Z (an Z) (fun M=>?_) (fun M=>?_)
 ·refine QL aq 9 [1,0] Z Z ?_;exact aB Z Z ⟨cB (by unfold cj bd;simp only[R,u,A,C,F,E,z,M,ct,cf]),aq.pop⟩
 refine QE 9 Z ?_;exact aB Z Z ⟨cB (by unfold cj bd;simp only[R,u,A,C,F,E,z,M,ct,cf]),aq.pop⟩
theorem DU {G:Cx} (F:Plain G) {K:H} {g:XG} {a b c d:V} (h:ej K g a b c d) (th ix fth fix_:Int) {U:I} {L:Own} (aq:J U K L):bm Tryz.prog G 75 [.agg [a,b,c,d],.agg [.int .i64 th,.int .i64 ix],.agg [.int .i64 fth,.int .i64 fix_]] U fun v U'=>v= .bool (dH g ⟨th,ix⟩ ⟨fth,fix_⟩)/\J U' K L:=by
 have h':=h;obtain⟨hi,ht,hf,ho⟩:=h';refine QX F Tryz.func75 Z<|QA 2 Z<|kp aq Z (cA Z Z) (fun U b1 aq=>?_);refine kp aq Z (cA Z Z) (fun U b2 aq=>?_);refine kp aq Z (cA Z Z) (fun U b3 aq=>?_);refine P1 5 Z<|O Z (RF Z (aq.get 2 Z) (n:=4) (vs:=[_,_,_,_]) Z) Z<|O Z (RF Z aq.g1 (n:=2) (vs:=[_,_]) Z) Z<|bj Z (RC Z Z Z) (fun _=>Z) (BN F h _ _ aq) (fun U aq=>?_);refine Q3 3 Z<|kp aq Z (RH (cs:=[T,T,T,T,T])) (fun U b4 aq=>?_);refine bF aq Z (RK Z Z Z aq.g0 (m:=5) Z Z (cells':=[_,_,_,_,_]) Z) Z (fun U aq=>?_);refine Pw 6 Z<|O Z (RF Z aq.g0 (n:=5) (vs:=[_,_,_,_,_]) Z) Z<|bj Z (RC Z Z Z) (fun _=>Z) (Hf F _ aq) (fun U aq=>?_);refine O Z (cT Z) Z<|QC 2 Z<|aD Z (fun u=>?_) (fun u=>?_)
 ·refine QA 2 Z (O Z (RF Z aq.g1 (n:=2) (vs:=[_,_]) Z) Z (O Z (RB (places:=[(0,1),(1,1)]) (zero:=[T,T]) (cs:=[_,_]) Z) Z<|O Z (Le (n:=2) (ca:=[_,_]) (cb:=[_,_]) Y Z Z Z Z) Z<|P3 5 Z ?_));exact aB Z Z ⟨cB (by unfold dH;simp only[u,ct,cf]),aq.pop.pop.pop.pop⟩
 refine PX 4 Z<|O Z (RF Z (aq.get 3 Z) (n:=4) (vs:=[_,_,_,_]) Z) Z<|O Z (RF Z aq.g1 (n:=2) (vs:=[_,_]) Z) Z<|bj Z (RC Z Z Z) (fun _=>Z) (BN F h _ _ aq) (fun U aq=>?_);refine Q3 3 Z<|kp aq Z (RH (cs:=[T,T,T,T,T])) (fun U b5 aq=>?_);refine bF aq Z (RK Z Z Z aq.g0 (m:=5) Z Z (cells':=[_,_,_,_,_]) Z) Z (fun U aq=>?_);refine P1 6 Z<|ky Z (an Z) (fun z=>?_) (fun z=>?_)
 ·refine O Z (RF Z (aq.get 2 Z) (n:=2) (vs:=[_,_]) Z) Z<|O Z (RF Z (aq.get 3 Z) (n:=2) (vs:=[_,_]) Z) Z<|O Z (Ax (n:=2) (ca:=[_,_]) (cb:=[_,_]) Y Z Z Z Z) Z<|vQ 1 Z<|ky Z (an Z) (fun A=>?_) (fun A=>?_)
  ·refine O Z (RF Z aq.g0 (n:=5) (vs:=[_,_,_,_,_]) Z) Z<|bj Z (RC Z Z Z) (fun _=>Z) (kE F _ aq) (fun U aq=>?_);refine vQ 1 Z<|ky Z (an Z) (fun C=>?_) (fun C=>?_)
   ·refine Q7 aq 6 [1,0,1,1] Z Z<|ky Z (an Z) (fun E=>?_) (fun E=>?_)
    ·refine QL aq 10 [4,0,3,1] Z Z ?_;exact aB Z Z ⟨cB (by unfold dH;simp only[u,z,A,C,E,ct,cf]),aq.pop.pop.pop.pop.pop⟩
    refine QE 10 Z ?_;exact aB Z Z ⟨cB (by unfold dH;simp only[u,z,A,C,E,ct,cf]),aq.pop.pop.pop.pop.pop⟩
   refine QE 17 Z ?_;exact aB Z Z ⟨cB (by unfold dH;simp only[u,z,A,C,ct,cf]),aq.pop.pop.pop.pop.pop⟩
  refine QE 21 Z ?_;exact aB Z Z ⟨cB (by unfold dH;simp only[u,z,A,ct,cf]),aq.pop.pop.pop.pop.pop⟩
 refine QE 26 Z ?_;exact aB Z Z ⟨cB (by unfold dH;simp only[u,z,ct,cf]),aq.pop.pop.pop.pop.pop⟩
theorem wo:Ec Tryz.prog 165 67 3 2:=⟨by kernel_rfl,by kernel_rfl,by kernel_rfl,by kernel_rfl,fun k hk=>by
 match k,hk with
 | [a,b],_=>
  show mX Tryz.prog 67 (.agg<|ints [a,b])=true
  kernel_rfl⟩
theorem LI {ls:List (List dy)} {m1 m u:LM} {i z:Nat} {l:List dy} {x:dy} (h1:nQ ls 0 m1=nQ (ls.drop i) i u) (hx:ls[i]?=some l) (A:me i l u=me i (l.drop z) m) (hy:l[z]?=some x) (h:(gm m x.ints).isSome=false):nQ ls 0 m1=none:=by
 rw[h1,cO hx];show(me i l u).bind _=none;rw[A,cO hy];show(bif (gm m x.ints).isSome then _ else none).bind _=none;rw[h];rfl
theorem LJ {ls:List (List dy)} {m1 m u:LM} {i z:Nat} {l:List dy} {x:dy} (h1:nQ ls 0 m1=nQ (ls.drop i) i u) (hx:ls[i]?=some l) (A:me i l u=me i (l.drop z) m) (hy:l[z]?=some x) (h:(gm m x.ints).isSome=true) (h':D ((gm m x.ints).getD 0) (.ofNat i)=false):nQ ls 0 m1=none:=by
 rw[h1,cO hx];show(me i l u).bind _=none;rw[A,cO hy];show(bif (gm m x.ints).isSome then(bif D ((gm m x.ints).getD 0) (.ofNat i) then _ else none) else none).bind _=none;rw[h,h'];rfl
theorem BP {G:Cx} (hG:Plain G) {K:H} {g:XG} {a b c d:V} (h:ej K g a b c d) {U:I} {L:Own} (aq:J U K L):bm Tryz.prog G 76 [.agg [a,b,c,d]] U fun v U'=>v= .bool (eZ g)/\J U' K L:=by
 have h':=h;obtain⟨hi,ht,hf,ho⟩:=h';refine QX hG Tryz.func76 Z<|QA 2 Z<|kp aq Z (cA Z Z) (fun U b1 aq=>?_);refine P1 5 Z<|Pm aq Z IG (fun _=>Z) (fun U b2 aq=>?_);refine Pz aq 8 [1,1] Z Z (O Z (RG ht Z Z Z (e:=57) Z) Z (PZ 4 Z (bp (rg 4 4++rg 18 23) (fun j t U=>∃(i:Nat) (es:List fN) (ck:Nat) (m:LM),j+i=g.threads.length/\fF 2 es m/\qb g.threads 0 []=qb (g.threads.drop i) i m/\t.get 18=some (.int .i64 (.ofNat i))/\J U K ((b2,.map es ck)::(b1,.row [a,b,c,d] 26 false)::L)) (g.threads.length) ⟨0,[],0,[],Z,.nil,Z,Z,aq⟩ ?_)));clear aq;intro j3 t U ar hI;obtain⟨i,es,ck,m,cl,hm,ae,a5,aq⟩:=hI;obtain⟨oo,rfl⟩:=ar.q1 a5 Z;refine Qz 6 Z<|aD Z (fun am=>?_) (fun am=>?_)
 ·refine OS 7 Z ?_;obtain⟨M,ac,bz⟩:=cE am;refine Rx (e:=57) (m:=1) ht ac Z Z Z Z (fun cn b0 a6 b4 a7=>?_);have hr21':=a7;obtain⟨co,rfl,A⟩:=hr21';refine O Z (RI aq a6 Z Z) Z<|P1 7 Z<|O Z (RG A Z Z Z (e:=56) Z) Z<|vQ 1 Z ?_;generalize ao:m=m0 at hm ae;clear ao;refine PZ 3 Z (bp ([6,7]++rg 25 15) (fun j t U=>∃(u:Nat) (es:List fN) (ck:Nat) (m:LM),j+u=M.length/\fF 2 es m/\rW i M 0 m0=rW i (M.drop u) u m/\t.get 25=some (.int .i64 (.ofNat u))/\J U K ((b2,.map es ck)::(b1,.row [a,b,c,d] 26 false)::L)) (M.length) ⟨0,es,ck,m0,Z,hm,Z,Z,aq⟩ ?_);clear aq;intro j6 t U ar hI;obtain⟨u,es,ck,m,cp,hm,ap,a8,aq⟩:=hI;obtain⟨oo,rfl⟩:=ar.q1 a8 Z;refine Qz 6 Z<|aD Z (fun aK=>?_) (fun aK=>?_)
  ·refine OS 7 Z ?_;obtain⟨a0,Q,b5⟩:=cE aK;refine Rx (e:=56) (m:=5) A Q Z Z Z Z (fun cv b6 a9 b7 bb=>?_);obtain rfl:=bb;refine O Z (RJ aq a9 Z Z) Z<|kp aq Z (RH (cs:=[T,T,T,T,T])) (fun U b3 aq=>?_);refine vQ 1 Z<|bF aq Z (RK Z Z Z aq.g0 (m:=5) Z Z (cells':=[_,_,_,_,_]) Z) Z (fun U aq=>?_);refine P1 4 Z<|O Z (RF Z aq.g0 (n:=5) (vs:=[_,_,_,_,_]) Z) Z<|bj Z (RC Z Z Z) (fun _=>Z) (kE hG _ aq) (fun U aq=>?_);refine QC 2 Z<|aD Z (fun a1=>?_) (fun a1=>?_)
   ·refine ai Z (Q3 4 Z (O Z (RB (places:=[(0,1),(1,1)]) (zero:=[T,T]) (cs:=[_,_]) Z) Z<|Q7 aq 2 [1,0] Z Z<|Ia wo hm aq (k:=[_,_]) Z Z Z Z Z Z Z (fun U es ck aq hm=>?_)));replace hm:=(show fF 2 es (qD m [Int.ofNat (i+1),Int.ofNat u] a0.loc) from by rw[<-bg (i:=i) (by have:=ht.bG;omega)];exact hm);refine af<|aI<|Q0 4 Z ?_;have aq:=aq.pop;refine aM ⟨j6-1,by omega,oF,u+1,es,ck,_,by omega,hm,by rw[ap,cO Q];show rW i _ (u+1) (xG i m u a0)=_;unfold xG;rw[a1];rfl,cI<|bg (by have:=A.bG;omega),aq⟩
   refine aG<|aI<|Q0 4 Z ?_;have aq:=aq.pop;refine aM ⟨j6-1,by omega,oF,u+1,es,ck,_,by omega,hm,by rw[ap,cO Q];show rW i _ (u+1) (xG i m u a0)=_;unfold xG;rw[a1];rfl,cI<|bg (by have:=A.bG;omega),aq⟩
  refine PY 3 Z<|aU<|aI<|Q0 4 Z<|aM ⟨j3-1,by omega,oF,i+1,es,ck,m,by omega,hm,by rw[ae,cO ac];show qb _ (i+1) (rW i M 0 m0)=_;rw[ap,ff<|br aK];rfl,cI<|bg (by have:=ht.bG;omega),aq⟩
 refine PY 3 Z<|aU<|P7 aq 5 [3,1] Z Z<|O Z (RG ho Z Z Z (e:=74) Z) Z<|vQ 1 Z ?_;have X:qb g.threads 0 []=m:=by rw[ae,ff<|br am];rfl
 generalize bt:m=m1 at hm X;clear bt;refine PZ 3 Z (bp ([2,8,9,11,12,13]++rg 44 28) (fun j t U=>∃(i:Nat) (es:List fN) (ck:Nat) (m:LM),j+i=g.order.length/\fF 2 es m/\nQ g.order 0 m1=nQ (g.order.drop i) i m/\t.get 44=some (.int .i64 (.ofNat i))/\J U K ((b2,.map es ck)::(b1,.row [a,b,c,d] 26 false)::L)) (g.order.length) ⟨0,es,ck,m1,Z,hm,Z,Z,aq⟩ ?_);clear aq;intro bv t U ar hI;obtain⟨i,es,ck,m,b8,hm,z,bc,aq⟩:=hI;obtain⟨oo,rfl⟩:=ar.q1 bc Z;refine Qz 6 Z<|aD Z (fun a2=>?_) (fun a2=>?_)
 ·refine OS 7 Z ?_;obtain⟨R,C,b9⟩:=cE a2;refine Rx (e:=74) (m:=1) ho C Z Z Z Z (fun cx ca be cb bi=>?_);have hr47':=bi;obtain⟨c0,rfl,W⟩:=hr47';refine O Z (RI aq be Z Z) Z<|P1 7 Z<|O Z (RG W Z Z Z (e:=67) Z) Z<|vQ 1 Z ?_;generalize ao:m=m0 at hm z;clear ao;refine PZ 3 Z (bp ([2,11,12,13]++rg 51 20) (fun j t U=>∃(u:Nat) (es:List fN) (ck:Nat) (m:LM),j+u=R.length/\fF 2 es m/\me i R m0=me i (R.drop u) m/\t.get 51=some (.int .i64 (.ofNat u))/\J U K ((b2,.map es ck)::(b1,.row [a,b,c,d] 26 false)::L)) (R.length) ⟨0,es,ck,m0,Z,hm,Z,Z,aq⟩ ?_);clear aq;intro bw t U ar hI;obtain⟨u,es,ck,m,cc,hm,E,bl,aq⟩:=hI;obtain⟨oo,rfl⟩:=ar.q1 bl Z;refine Qz 6 Z<|aD Z (fun a3=>?_) (fun a3=>?_)
  ·refine OS 6 Z ?_;obtain⟨aa,F,ce⟩:=cE a3;refine Rx (e:=67) (m:=2) W F Z Z Z Z (fun c1 ch bo ci bs=>?_);obtain rfl:=bs;refine O Z (RJ aq bo Z Z) Z<|kp aq Z (RH (cs:=[T,T])) (fun U b3 aq=>?_);refine bF aq Z (RK Z Z Z aq.g0 (m:=2) Z Z (cells':=[_,_]) Z) Z (fun U aq=>?_);refine Pw 6 Z<|O Z (RF Z aq.g0 (n:=2) (vs:=[_,_]) Z) Z<|O Z (Lg wo hm aq.g1 (k:=[_,_]) Z Z Z) Z<|P1 10 Z<|O Z (cT Z) Z<|ky Z (an Z) (fun ab=>?_) (fun ab=>?_)
   ·refine QE 13 Z<|av<|aE<|av<|bq<|aE<|aE<|av<|bq<|aE<|av (?_);exact aB Z Z ⟨cB (by unfold eZ;rw[show nQ g.order 0 (qb g.threads 0 [])=none from by rw[X];exact LI z C E F<|ju ab]),aq.pop.pop.pop⟩
   refine QC 6 Z<|aD Z (fun a4=>?_) (fun a4=>?_)
   ·refine Q1 6 Z<|av<|aE<|av<|bq<|aE<|aE<|av<|bq<|aE<|av (?_);exact aB Z Z ⟨cB (by unfold eZ;rw[show nQ g.order 0 (qb g.threads 0 [])=none from by rw[X];exact LJ z C E F (eU ab)<|bN a4]),aq.pop.pop.pop⟩
   refine aG<|ad<|ai Z<|vQ 1 Z<|O Z (RF Z aq.g0 (n:=2) (vs:=[_,_]) Z) Z<|H9 wo hm aq (k:=[_,_]) Z Z Z Z Z Z Z Z Z (fun U es aq hm=>?_);refine af<|aI<|Q0 4 Z ?_;have aq:=aq.pop;refine aM ⟨bw-1,by omega,oF,u+1,es,ck,_,by omega,hm,by rw[E,cO F];show(bif (gm m aa.ints).isSome then _ else none)=_;rw[show(gm m aa.ints).isSome=true from eU ab];show(bif D ((gm m aa.ints).getD 0) (Int.ofNat i) then _ else none)=_;rw[show D ((gm m aa.ints).getD 0) (Int.ofNat i)=true from bn a4];rfl,cI<|bg (by have:=W.bG;omega),aq⟩
  refine PY 3 Z<|aU<|aI<|Q0 4 Z<|aM ⟨bv-1,by omega,oF,i+1,es,ck,m,by omega,hm,by rw[z,cO C];show(me i R m0).bind _=_;rw[E,ff<|br a3];rfl,cI<|bg (by have:=ho.bG;omega),aq⟩
 refine PY 3 Z<|aU<|QA 3 Z<|O Z (Lf wo hm aq.g0 Z Z Z Z) Z<|QE 5 Z ?_;exact aB Z Z ⟨cB (by unfold eZ;rw[show nQ g.order 0 (qb g.threads 0 [])=some m from by rw[X];exact by rw[z,ff<|br a2];rfl]),aq.pop.pop⟩
end Go.Ev
end
