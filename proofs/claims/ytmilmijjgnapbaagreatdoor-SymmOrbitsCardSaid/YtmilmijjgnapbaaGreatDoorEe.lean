/- Part of the proof: an evaluator of the model's code, rules for walks on it, walks. Without conditions. -/
import Derived.Test.YtmilmijjgnapbaaGreatDoorEb
import Derived.Test.YtmilmijjgnapbaaGreatDoorEd
import Derived.Test.YtmilmijjgnapbaaGreatDoorEc
import Derived.Test.YtmilmijjgnapbaaGreatDoorEa
import Derived.Test.YtmilmijjgnapbaaGreatDoorProg
import Derived.KernelRfl
import Derived.Shelf.SlSortCmp.NoneTotal
import Derived.Test.YtmilmijjgnapbaaGreatDoorRows
set_option linter.unusedSectionVars false
set_option linter.unusedVariables false
set_option linter.unusedSimpArgs false
noncomputable section
namespace Go.Ev
variable [Env]
open Go.Proofs
set_option maxRecDepth 4000
set_option maxHeartbeats 8000000
theorem Kf {x y:cm}:bV [x.bX,x.index] [y.bX,y.index]=bV x y:=cm.same
theorem Le {G:Cx} (T:Plain G) {K:KP} {g:XG} {a b c d:Y} (h:dC K g a b c d) (e:cq) {V:B} {L:Own} (aq:H V K L):aT Tryz.prog G 56 [.agg [a,b,c,d],.agg<|ints e.ints] V fun v V'=>v= .bool (bE e (.ofNat g.init.length))/\H V' K L:=by
 have h':=h;obtain⟨hi,ht,hf,ho⟩:=h';refine Qf T Tryz.func56 Z<|PK 2 Z<|kp aq Z (cL Z Z) (fun V b1 aq=>?_);refine kp aq Z (cL Z Z) (fun V b2 aq=>?_);refine Oh 6 Z<|Qn aq 3 [0,0] Z Z<|ky Z (N Z) (fun Q=>?_) (fun Q=>?_)
 ·refine OZ 44 Z ?_;exact ay Z Z ⟨cB (by unfold bE bW;simp only[Q,ct,cf]),aq.pop.pop⟩
 refine Qn aq 4 [0,0] Z Z<|ky Z (N Z) (fun m=>?_) (fun m=>?_)
 ·refine OZ 39 Z ?_;exact ay Z Z ⟨cB (by unfold bE bW;simp only[Q,m,ct,cf]),aq.pop.pop⟩
 refine Qn aq 4 [2,0] Z Z<|ky Z (N Z) (fun A=>?_) (fun A=>?_)
 ·refine OZ 34 Z ?_;exact ay Z Z ⟨cB (by unfold bE bW;simp only[Q,m,A,ct,cf]),aq.pop.pop⟩
 refine Qn aq 4 [2,0] Z Z<|ky Z (N Z) (fun C=>?_) (fun C=>?_)
 ·refine OZ 29 Z ?_;exact ay Z Z ⟨cB (by unfold bE bW;simp only[Q,m,A,C,ct,cf]),aq.pop.pop⟩
 refine S Z (QY Z aq.g0 (n:=5) (vs:=[_,_,_,_,_]) Z) Z<|bh Z (QV Z Z Z) (fun _=>Z) (Cb T _ aq) (fun V aq=>?_);refine S Z (dX Z) Z<|ky Z (N Z) (fun F=>?_) (fun F=>?_)
 ·refine Qn aq 5 [3,0] Z Z<|ky Z (N Z) (fun R=>?_) (fun R=>?_)
  ·refine OZ 19 Z ?_;exact ay Z Z ⟨cB (by unfold bE bW;simp only[Q,m,A,C,F,R,ct,cf]),aq.pop.pop⟩
  refine S Z (QY Z aq.g0 (n:=5) (vs:=[_,_,_,_,_]) Z) Z<|bh Z (QV Z Z Z) (fun _=>Z) (mn T _ aq) (fun V aq=>?_);refine S Z (dX Z) Z<|ky Z (N Z) (fun E=>?_) (fun E=>?_)
  ·refine Qn aq 5 [4,0] Z Z<|PM 2 Z<|aC Z (fun M=>?_) (fun M=>?_)
   ·refine PL 7 Z ?_;exact ay Z Z ⟨cB (by unfold bE bW;simp only[Q,m,A,C,F,R,E,M,ct,cf]),aq.pop.pop⟩
   refine aG<|Pa aq 6 [0,0] Z Z<|PM 2 Z<|aC Z (fun u=>?_) (fun u=>?_)
   ·refine PK 2 Z<|PR aq 7 [1,0] Z Z<|az (?_);exact ay Z Z ⟨cB (by unfold bE bW;simp only[Q,m,A,C,F,R,E,M,u,ct,cf]),aq.pop.pop⟩
   refine aG<|PK 2 Z<|Qn aq 3 [1,0] Z Z<|ky Z (N Z) (fun I=>?_) (fun I=>?_)
   ·refine Qn aq 4 [1,0,0,1] Z Z<|S Z (QZ hi Z Z Z (e:=2) Z) Z<|PN 6 Z ?_;exact ay Z Z ⟨cB (by unfold bE bW;simp only[Q,m,A,C,F,R,E,M,u,I,ct,cf]),aq.pop.pop⟩
   refine PN 11 Z ?_;exact ay Z Z ⟨cB (by unfold bE bW;simp only[Q,m,A,C,F,R,E,M,u,I,ct,cf]),aq.pop.pop⟩
  refine PM 8 Z<|aG<|Pa aq 6 [0,0] Z Z<|PM 2 Z<|aC Z (fun u=>?_) (fun u=>?_)
  ·refine PK 2 Z<|PR aq 7 [1,0] Z Z<|az (?_);exact ay Z Z ⟨cB (by unfold bE bW;simp only[Q,m,A,C,F,R,E,u,ct,cf]),aq.pop.pop⟩
  refine aG<|PK 2 Z<|Qn aq 3 [1,0] Z Z<|ky Z (N Z) (fun I=>?_) (fun I=>?_)
  ·refine Qn aq 4 [1,0,0,1] Z Z<|S Z (QZ hi Z Z Z (e:=2) Z) Z<|PN 6 Z ?_;exact ay Z Z ⟨cB (by unfold bE bW;simp only[Q,m,A,C,F,R,E,u,I,ct,cf]),aq.pop.pop⟩
  refine PN 11 Z ?_;exact ay Z Z ⟨cB (by unfold bE bW;simp only[Q,m,A,C,F,R,E,u,I,ct,cf]),aq.pop.pop⟩
 refine Ql 6 Z<|S Z (QY Z aq.g0 (n:=5) (vs:=[_,_,_,_,_]) Z) Z<|bh Z (QV Z Z Z) (fun _=>Z) (mn T _ aq) (fun V aq=>?_);refine S Z (dX Z) Z<|ky Z (N Z) (fun E=>?_) (fun E=>?_)
 ·refine Qn aq 5 [4,0] Z Z<|PM 2 Z<|aC Z (fun M=>?_) (fun M=>?_)
  ·refine PL 7 Z ?_;exact ay Z Z ⟨cB (by unfold bE bW;simp only[Q,m,A,C,F,E,M,ct,cf]),aq.pop.pop⟩
  refine aG<|Pa aq 6 [0,0] Z Z<|PM 2 Z<|aC Z (fun u=>?_) (fun u=>?_)
  ·refine PK 2 Z<|PR aq 7 [1,0] Z Z<|az (?_);exact ay Z Z ⟨cB (by unfold bE bW;simp only[Q,m,A,C,F,E,M,u,ct,cf]),aq.pop.pop⟩
  refine aG<|PK 2 Z<|Qn aq 3 [1,0] Z Z<|ky Z (N Z) (fun I=>?_) (fun I=>?_)
  ·refine Qn aq 4 [1,0,0,1] Z Z<|S Z (QZ hi Z Z Z (e:=2) Z) Z<|PN 6 Z ?_;exact ay Z Z ⟨cB (by unfold bE bW;simp only[Q,m,A,C,F,E,M,u,I,ct,cf]),aq.pop.pop⟩
  refine PN 11 Z ?_;exact ay Z Z ⟨cB (by unfold bE bW;simp only[Q,m,A,C,F,E,M,u,I,ct,cf]),aq.pop.pop⟩
 refine PM 8 Z<|aG<|Pa aq 6 [0,0] Z Z<|PM 2 Z<|aC Z (fun u=>?_) (fun u=>?_)
 ·refine PK 2 Z<|PR aq 7 [1,0] Z Z<|az (?_);exact ay Z Z ⟨cB (by unfold bE bW;simp only[Q,m,A,C,F,E,u,ct,cf]),aq.pop.pop⟩
 refine aG<|PK 2 Z<|Qn aq 3 [1,0] Z Z<|ky Z (N Z) (fun I=>?_) (fun I=>?_)
 ·refine Qn aq 4 [1,0,0,1] Z Z<|S Z (QZ hi Z Z Z (e:=2) Z) Z<|PN 6 Z ?_;exact ay Z Z ⟨cB (by unfold bE bW;simp only[Q,m,A,C,F,E,u,I,ct,cf]),aq.pop.pop⟩
 refine PN 11 Z ?_;exact ay Z Z ⟨cB (by unfold bE bW;simp only[Q,m,A,C,F,E,u,I,ct,cf]),aq.pop.pop⟩
theorem GQ {G:Cx} (I:Plain G) {K:KP} {g:XG} {a b c d:Y} (h:dC K g a b c d) (th ix M Q:Int) {V:B} {L:Own} (aq:H V K L):aT Tryz.prog G 57 [.agg [a,b,c,d],.agg [.int .i64 th,.int .i64 ix],.agg [.int .i64 M,.int .i64 Q]] V fun v V'=>v= .bool (cz g ⟨th,ix⟩ ⟨M,Q⟩)/\H V' K L:=by
 have h':=h;obtain⟨hi,ht,hf,ho⟩:=h';refine Qf I Tryz.func57 Z<|PK 2 Z<|kp aq Z (cL Z Z) (fun V b1 aq=>?_);refine kp aq Z (cL Z Z) (fun V b2 aq=>?_);refine kp aq Z (cL Z Z) (fun V b3 aq=>?_);refine OY 5 Z<|S Z (QY Z (aq.get 2 Z) (n:=4) (vs:=[_,_,_,_]) Z) Z<|S Z (QY Z aq.g1 (n:=2) (vs:=[_,_]) Z) Z<|bh Z (QV Z Z Z) (fun _=>Z) (wR I h _ _ aq) (fun V aq=>?_);refine Ql 3 Z<|kp aq Z (Q0 (cs:=[iZ,iZ,iZ,iZ,iZ])) (fun V b4 aq=>?_);refine db aq Z (Q6 Z Z Z aq.g0 (m:=5) Z Z (cells':=[_,_,_,_,_]) Z) Z (fun V aq=>?_);refine Oh 6 Z<|S Z (QY Z aq.g0 (n:=5) (vs:=[_,_,_,_,_]) Z) Z<|bh Z (QV Z Z Z) (fun _=>Z) (Cb I _ aq) (fun V aq=>?_);refine S Z (dX Z) Z<|PM 2 Z<|aC Z (fun u=>?_) (fun u=>?_)
 ·refine PK 2 Z (S Z (QY Z aq.g1 (n:=2) (vs:=[_,_]) Z) Z (S Z (QU (places:=[(0,1),(1,1)]) (zero:=[iZ,iZ]) (cs:=[_,_]) Z) Z<|S Z (Jt (n:=2) (ca:=[_,_]) (cb:=[_,_]) J Z Z Z Z) Z<|OZ 5 Z ?_));exact ay Z Z ⟨cB (by unfold cz;simp only[u,ct,cf]),aq.pop.pop.pop.pop⟩
 refine aG<|PK 2 Z<|S Z (QY Z (aq.get 3 Z) (n:=4) (vs:=[_,_,_,_]) Z) Z<|S Z (QY Z aq.g1 (n:=2) (vs:=[_,_]) Z) Z<|bh Z (QV Z Z Z) (fun _=>Z) (wR I h _ _ aq) (fun V aq=>?_);refine Ql 3 Z<|kp aq Z (Q0 (cs:=[iZ,iZ,iZ,iZ,iZ])) (fun V b5 aq=>?_);refine db aq Z (Q6 Z Z Z aq.g0 (m:=5) Z Z (cells':=[_,_,_,_,_]) Z) Z (fun V aq=>?_);refine OY 6 Z<|ky Z (N Z) (fun A=>?_) (fun A=>?_)
 ·refine S Z (QY Z (aq.get 2 Z) (n:=2) (vs:=[_,_]) Z) Z<|S Z (QY Z (aq.get 3 Z) (n:=2) (vs:=[_,_]) Z) Z<|S Z (Fq (n:=2) (ca:=[_,_]) (cb:=[_,_]) J Z Z Z Z) Z<|vQ 1 Z<|ky Z (N Z) (fun C=>?_) (fun C=>?_)
  ·refine S Z (QY Z aq.g0 (n:=5) (vs:=[_,_,_,_,_]) Z) Z<|bh Z (QV Z Z Z) (fun _=>Z) (mn I _ aq) (fun V aq=>?_);refine vQ 1 Z<|ky Z (N Z) (fun E=>?_) (fun E=>?_)
   ·refine Qn aq 6 [1,0,1,1] Z Z<|ky Z (N Z) (fun F=>?_) (fun F=>?_)
    ·refine PR aq 10 [4,0,3,1] Z Z ?_;exact ay Z Z ⟨cB (by unfold cz;simp only[u,A,C,E,F,ct,cf]),aq.pop.pop.pop.pop.pop⟩
    refine PN 10 Z ?_;exact ay Z Z ⟨cB (by unfold cz;simp only[u,A,C,E,F,ct,cf]),aq.pop.pop.pop.pop.pop⟩
   refine PN 17 Z ?_;exact ay Z Z ⟨cB (by unfold cz;simp only[u,A,C,E,ct,cf]),aq.pop.pop.pop.pop.pop⟩
  refine PN 21 Z ?_;exact ay Z Z ⟨cB (by unfold cz;simp only[u,A,C,ct,cf]),aq.pop.pop.pop.pop.pop⟩
 refine PN 26 Z ?_;exact ay Z Z ⟨cB (by unfold cz;simp only[u,A,ct,cf]),aq.pop.pop.pop.pop.pop⟩
theorem DZ {G:Cx} (hG:Plain G) {K:KP} {g:XG} {a b c d:Y} (h:dC K g a b c d) {ln:Nat} {E:List cm} (a5:g.order[ln]? =some E) (hT:g.threads.length<=4) (hR:∀l∈g.threads,l.length<=14) {V:B} {L:Own} (aq:H V K L):aT Tryz.prog G 58 [.agg [a,b,c,d],.int .i64 (.ofNat ln)] V fun v V'=>∃q,v= .bool q/\(q=true↔D9 g ln E)/\H V' K L:=by
 have h':=h;obtain⟨hi,ht,hf,R⟩:=h';refine Qf hG Tryz.func58 Z<|PK 2 Z<|kp aq Z (cL Z Z) (fun V b1 aq=>?_);refine Oh 12 Z<|OX 3 Z ?_;obtain⟨LL1,aq,hLL1⟩:=aq.named;refine ba ([5,6,7]++rg 13 41) (fun j t V=>∃(i1:Nat),j+i1=g.threads.length/\t.get 5=some (.int .i64 (.ofNat<|gf (.ofNat ln)<|g.threads.take i1))/\t.get 6=some (.int .i64 (.ofNat i1))/\H V K LL1) (g.threads.length) ⟨0,Z,Z,Z,aq⟩ ?_;clear aq;intro j3 t V an hI;obtain⟨i1,d7,am,ch,aq⟩:=hI;subst hLL1;obtain⟨oo,rfl⟩:=an.q2 am ch Z;refine Pa aq 6 [1,0] Z Z<|S Z (QZ ht Z Z Z (e:=64) Z) Z<|PM 3 Z<|aC Z (fun ao=>?_) (fun ao=>?_)
 ·refine NA 6 Z ?_;obtain⟨xa,U,hi_xa⟩:=cO ao;refine OX 4 Z ?_;obtain⟨LL2,aq,hLL2⟩:=aq.named;refine ba ([5,7]++rg 20 34) (fun j t V=>∃(i2:Nat),j+i2=xa.length/\t.get 5=some (.int .i64 (.ofNat (gf (.ofNat ln) (g.threads.take i1)+ff (.ofNat ln) (xa.take i2))))/\t.get 7=some (.int .i64 (.ofNat i2))/\H V K LL2) (xa.length) ⟨0,Z,Z,Z,aq⟩ ?_;clear aq;intro j6 t V an hI;obtain⟨i2,d8,am,ci,aq⟩:=hI;subst hLL2;obtain⟨oo,rfl⟩:=an.q2 am ci Z;refine Pa aq 7 [1,0] Z Z<|QQ (e:=64) (m:=1) ht U Z Z Z Z (fun d9 c2 a9 c3 bb=>?_);have hr24':=bb;obtain⟨ee,rfl,Q⟩:=hr24';refine S Z (Q4 aq a9 Z Z) Z<|S Z (QZ Q Z Z Z (e:=92) Z) Z<|PM 3 Z<|aC Z (fun ap=>?_) (fun ap=>?_)
  ·refine NA 6 Z<|Qn aq 3 [1,0] Z Z<|QQ (e:=64) (m:=1) ht U Z Z Z Z (fun eg c4 bd c5 be=>?_);have hr33':=be;obtain⟨el,rfl,bi⟩:=hr33';refine S Z (Q4 aq bd Z Z) Z<|vQ 1 Z ?_;obtain⟨em,F,c7⟩:=cO ap;refine QQ (e:=92) (m:=5) bi F Z Z Z Z (fun en c8 bk c9 bl=>?_);obtain rfl:=bl;refine S Z (Q5 aq bk Z Z) Z<|bh Z (QV Z Z Z) (fun _=>Z) (mn hG _ aq) (fun V aq=>?_);refine ky Z (N Z) (fun au=>?_) (fun au=>?_)
   ·refine Qn aq 3 [1,0] Z Z<|QQ (e:=64) (m:=1) ht U Z Z Z Z (fun eo dd bm df bo=>?_);have hr43':=bo;obtain⟨er,rfl,bs⟩:=hr43';refine S Z (Q4 aq bm Z Z) Z<|vQ 1 Z<|QQ (e:=92) (m:=5) bs F Z Z Z Z (fun es dk bt dl bv=>?_);obtain rfl:=bv;refine eB bt Z Z Z (k:=1) J (lb Z) (fun _=>Z) (fun et bw=>?_);refine S Z (Q4 aq bw Z Z) Z<|PM 5 Z<|aC Z (fun av=>?_) (fun av=>?_)
    ·refine Qj 5 Z (aH (Qj 5 Z (aL ⟨j6-1,by omega,oF,i2+1,by omega,(cI ((aZ (by have h1:=yX (loc:=.ofNat ln) (i:=i1) hT hR;have h2:=sg (loc:=.ofNat ln) (l:=xa.take i2);have h3:=hR _ (gB_ U);rw[lT_] at h2;omega)).trans (by rw[JZ F au av];rfl))),cI<|aZ (by have:=Q.bM;omega),aq⟩)))
    refine aG<|aH<|Qj 5 Z<|aL ⟨j6-1,by omega,oF,i2+1,by omega,(by rw[Hn (loc:=.ofNat ln) F (.inr av)];exact Z),cI<|aZ (by have:=Q.bM;omega),aq⟩
   refine PM 15 Z<|aG<|aH<|Qj 5 Z<|aL ⟨j6-1,by omega,oF,i2+1,by omega,(by rw[Hn (loc:=.ofNat ln) F (.inl au)];exact Z),cI<|aZ (by have:=Q.bM;omega),aq⟩
  rw[tL_<|bx ap];refine OW 3 Z<|aN<|aH<|Qj 5 Z<|aL ⟨j3-1,by omega,oF,i1+1,by omega,(by rw[tg U];exact Z),cI<|aZ (by have:=ht.bM;omega),aq⟩
 rw[tL_<|bx ao];refine OW 3 Z<|aN<|PK 2 Z<|Qn aq 3 [3,0] Z Z<|QQ (e:=57) (m:=1) R a5 Z Z Z Z (fun ev dm b0 dr b3=>?_);have hr57':=b3;obtain⟨ex,rfl,C⟩:=hr57';refine S Z (Q4 aq b0 Z Z) Z<|Oh 7 Z<|OX 3 Z ?_;obtain⟨LL3,aq,hLL3⟩:=aq.named;refine ba ([4]++rg 9 4++rg 59 50) (fun j t V=>∃(i:Nat),j+i=E.length/\(∀(k:Nat) (x:cm),k<i->E[k]? =some x->w5 g (.ofNat ln) x=true/\∀(W:Nat) (y:cm),W<k->E[W]? =some y->y≠x)/\t.get 9=some (.int .i64 (.ofNat i))/\H V K LL3) (E.length) ⟨0,Z,fun k x hk=>absurd hk (nZ_ _),Z,aq⟩ ?_;clear aq;intro ck t V an hI;obtain⟨i,ds,X,cn,aq⟩:=hI;subst hLL3;obtain⟨oo,rfl⟩:=an.q1 cn Z;refine OV 5 Z<|S Z (QZ C Z Z Z (e:=59) Z) Z<|PM 3 Z<|aC Z (fun ac=>?_) (fun ac=>?_)
 ·refine Nz 5 Z (aX (l:=[(0,[]),(1,[]),(2,[]),(3,[]),(4,[]),(9,[]),(5,[9]),(6,[]),(7,[]),(8,[]),(10,[]),(11,[])]) J J<|al Z Z (QY Z aq.g0 (n:=4) (vs:=[_,_,_,_]) Z) Z<|Qm 2 Z ?_);obtain⟨u,A,dx⟩:=cO ac;refine QR (e:=59) (m:=2) C A Z Z Z Z Z (fun e0 dA b4 d0 b5=>?_);obtain rfl:=b5;refine al Z Z (Q5 aq b4 Z Z) Z<|LP aq Z Z (Q0 (cs:=[iZ,iZ,iZ,iZ,iZ])) (fun _=>Z) (fun V b2 aq=>?_);refine fe Z Z (QV Z Z Z) (fun _=>Z) (wR hG h _ _ aq) (fun V aq=>?_);refine⟨(aV (yf Z Z Z Z Z (cs:=[iZ,iZ,iZ,iZ,iZ]) (e:=92) J aq.g0 J) bq),?_⟩;refine Qm 3 Z<|vW aq Z Z (Q6 Z Z Z aq.g0 (m:=5) Z Z (cells':=[_,_,_,_,_]) Z) Z (fun V aq=>?_);refine⟨bq,?_⟩;refine PQ 3 Z<|OV 4 Z<|S Z (dX Z) Z<|ky Z (N Z) (fun T=>?_) (fun T=>?_)
  ·refine PN 27 Z<|az<|aK<|az<|bp<|aK<|az (?_);exact ay Z Z ⟨_,Z,⟨(fun hh=>by cases hh),fun R=>absurd (R.Nw u<|gB_ A) (by unfold w5;rw[show(dR g u).isSome=false from vO T];exact Bool.false_ne_true)⟩,aq.pop.pop⟩
  refine Ql 2 Z<|QQ (e:=59) (m:=2) C A Z Z Z Z (fun e3 d1 b6 d2 b7=>?_);obtain rfl:=b7;refine eB b6 Z Z Z (k:=0) J (lb Z) (fun _=>Z) (fun e4 b8=>?_);refine S Z (Q4 aq b8 Z Z) Z<|Ql 2 Z<|ky Z (N Z) (fun aa=>?_) (fun aa=>?_)
  ·refine PN 19 Z<|az<|aK<|az<|bp<|aK<|az (?_);exact ay Z Z ⟨_,Z,⟨(fun hh=>by cases hh),fun R=>absurd (R.Nw u<|gB_ A) (by unfold w5;rw[show(dR g u).isSome=true from jN T,show bD u.bX 0=true from aa];exact Bool.false_ne_true)⟩,aq.pop.pop⟩
  refine S Z (QY Z aq.g0 (n:=5) (vs:=[_,_,_,_,_]) Z) Z<|bh Z (QV Z Z Z) (fun _=>Z) (mn hG _ aq) (fun V aq=>?_);refine S Z (dX Z) Z<|vQ 1 Z<|ky Z (N Z) (fun ak=>?_) (fun ak=>?_)
  ·refine PN 14 Z<|az<|aK<|az<|bp<|aK<|az (?_);exact ay Z Z ⟨_,Z,⟨(fun hh=>by cases hh),fun R=>absurd (R.Nw u<|gB_ A) (by unfold w5;rw[show(dR g u).isSome=true from jN T,show bD u.bX 0=false from aa,show br (uU<|dR g u)=false from vO ak];exact Bool.false_ne_true)⟩,aq.pop.pop⟩
  refine Qn aq 5 [1,0] Z Z<|PM 2 Z<|aC Z (fun aE=>?_) (fun aE=>?_)
  ·refine Qk 6 Z<|az<|aK<|az<|bp<|aK<|az (?_);exact ay Z Z ⟨_,Z,⟨(fun hh=>by cases hh),fun R=>absurd (R.Nw u<|gB_ A) (by unfold w5;rw[show(dR g u).isSome=true from jN T,show bD u.bX 0=false from aa,show br (uU<|dR g u)=true from jN ak,show bD (uU<|dR g u).loc (.ofNat ln)=false from cd aE];exact Bool.false_ne_true)⟩,aq.pop.pop⟩
  have b9:w5 g (.ofNat ln) u=true:=by unfold w5;rw[show(dR g u).isSome=true from jN T,show bD u.bX 0=false from aa,show br (uU<|dR g u)=true from jN ak];exact bF aE
  refine aG<|PK 3 Z<|OX 3 Z ?_;obtain⟨LL4,aq,hLL4⟩:=aq.named;refine ba ([4,12]++rg 95 14) (fun j t V=>∃(i3:Nat),j+i3=i/\(∀(W:Nat) (y:cm),W<i3->E[W]? =some y->y≠u)/\t.get 12=some (.int .i64 (.ofNat i3))/\H V K LL4) (i) ⟨0,Z,fun W y hk=>absurd hk (nZ_ _),Z,aq⟩ ?_;clear aq;intro cp t V an hI;obtain⟨i3,d3,hne,cc,aq⟩:=hI;subst hLL4;obtain⟨oo,rfl⟩:=an.q1 cc Z;refine PJ 8 Z<|aC Z (fun I=>?_) (fun I=>?_)
  ·refine Nz 5 Z<|aX (l:=zp [0,1,2,3,4,5,6,7,8]) J J<|Qm 2 Z ?_;obtain⟨d4,M⟩:=cF (show i3<E.length from by have:=aU I;omega);refine QR (e:=59) (m:=2) C M Z Z Z Z Z (fun d5 cr a0 cv a1=>?_);obtain rfl:=a1;refine al Z Z (Q5 aq a0 Z Z) Z<|Qm 2 Z<|QR (e:=59) (m:=2) C A Z Z Z Z Z (fun d6 cw a2 cx a3=>?_);obtain rfl:=a3;refine al Z Z (Q5 aq a2 Z Z) Z<|al Z Z (Jt (n:=2) (ca:=[_,_]) (cb:=[_,_]) J Z Z Z Z) Z<|PQ 2 Z<|aC Z (fun ab=>?_) (fun ab=>?_)
   ·refine Qk 6 Z<|aK<|az<|bp<|aK<|aK<|az<|bp<|aK<|az (?_);exact ay Z Z ⟨_,Z,⟨(fun hh=>by cases hh),fun R=>absurd (bP.1<|Kf.symm.trans ab) (Im R.nodup (aU I) M A)⟩,aq.pop.pop⟩
   refine aG (aH (Qj 5 Z (aL ⟨cp-1,by have:=aU I;omega,oF,i3+1,by have:=aU I;omega,fun W y hk hy=>(by by_cases a4:W=i3;(subst a4;rw[M] at hy;cases hy;exact fun he=>absurd ab (by rw[he,bP.2 Z];decide));exact hne W y oM hy),cI<|aZ (by have:=C.bM;have:=aU I;omega),aq⟩)))
  refine OW 3 Z<|aN<|aH<|Qj 5 Z ?_;have aq:=aq.pop;refine aL ⟨ck-1,by omega,oF,i+1,by omega,fun k x hk hx=>(by by_cases a4:k=i;(subst a4;rw[A] at hx;cases hx;exact⟨b9,fun W y e5 hy=>hne W y (by have:=bx I;omega) hy⟩);exact X k x oM hx),cI<|aZ (by have:=C.bM;omega),aq⟩
 refine OW 3 Z<|aN<|PK 3 Z<|S Z (QZ C Z Z Z (e:=59) Z) Z<|PN 6 Z ?_;exact ay Z Z ⟨_,Z,⟨fun hh=>⟨fun id c0=>(by obtain⟨k,hk⟩:=gO_ c0;exact(X k id (by have:=(gA.1 hk).1;have:=bx ac;omega) hk).1),Io fun k m x y c1 hx hy=>(X m y (by have:=(gA.1 hy).1;have:=bx ac;omega) hy).2 k x c1 hx,(by have ce:bD (.ofNat E.length) (.ofNat<|gf (.ofNat ln) g.threads)=true:=hh;rw[ft] at ce;exact of_decide_eq_true ce)⟩,fun R=>(by show bD (.ofNat E.length) (.ofNat<|gf (.ofNat ln) g.threads)=true;rw[ft,R.Qe];exact decide_eq_true Z)⟩,aq.pop⟩
theorem GO {G:Cx} (hG:Plain G) {K:KP} {g:XG} {a b c d:Y} (h:dC K g a b c d) {V:B} {L:Own} (aq:H V K L):aT Tryz.prog G 27 [.agg [a,b,c,d]] V fun v V'=>v= .int .i64 (cy g)/\H V' K L:=by
 have h':=h;obtain⟨hi,I,hf,ho⟩:=h';refine Qf hG Tryz.func27 Z<|PK 2 Z<|kp aq Z (cL Z Z) (fun V b1 aq=>?_);refine Oh 6 Z<|Qn aq 2 [1,0] Z Z<|S Z (QZ I Z Z Z (e:=64) Z) Z<|vQ 1 Z<|ky Z (N Z) (fun au=>?_) (fun au=>?_)
 ·refine OZ 15 Z ?_;exact ay Z Z ⟨cJ (by rw[nt<|BT au]),aq.pop⟩
 refine Qn aq 2 [0,0] Z Z<|S Z (QZ hi Z Z Z (e:=2) Z) Z<|PM 4 Z<|aC Z (fun av=>?_) (fun av=>?_)
 ·refine PL 7 Z ?_;exact ay Z Z ⟨cJ (by rw[nt<|BV av]),aq.pop⟩
 refine aG<|OU 7 Z ?_;obtain⟨LL1,aq,hLL1⟩:=aq.named;refine ba ([2,3]++rg 19 14) (fun j t V=>∃(i:Nat),j+i=g.threads.length/\(∀(k:Nat) (l:List cq),k<i->g.threads[k]? =some l->da 14 (.ofNat l.length)=false)/\t.get 3=some (.int .i64 (.ofNat i))/\H V K LL1) (g.threads.length) ⟨0,Z,fun k x hk=>absurd hk (nZ_ _),Z,aq⟩ ?_;clear aq;intro j4 t V an hI;obtain⟨i,fd,M,c4,aq⟩:=hI;subst hLL1;obtain⟨oo,rfl⟩:=an.q1 c4 Z;refine Pa aq 6 [1,0] Z Z<|S Z (QZ I Z Z Z (e:=64) Z) Z<|PM 3 Z<|aC Z (fun aE=>?_) (fun aE=>?_)
 ·refine NA 6 Z<|Qn aq 3 [1,0] Z Z ?_;obtain⟨fi,ac,d5⟩:=cO aE;refine QQ (e:=64) (m:=1) I ac Z Z Z Z (fun fk d6 b5 d7 b6=>?_);have hr29':=b6;obtain⟨fq,rfl,b7⟩:=hr29';refine S Z (Q4 aq b5 Z Z) Z<|S Z (QZ b7 Z Z Z (e:=92) Z) Z<|PM 3 Z<|aC Z (fun bi=>?_) (fun bi=>?_)
  ·refine Qk 6 Z<|aK<|az<|bp<|aK<|az (?_);exact ay Z Z ⟨cJ (by rw[nt<|BU ac bi]),aq.pop⟩
  refine aG (aH (Qj 5 Z (aL ⟨j4-1,by omega,oF,i+1,by omega,fun k l hk hl=>(by by_cases Q:k=i;(subst Q;rw[ac] at hl;cases hl;exact bi);exact M k l oM hl),cI<|aZ (by have:=I.bM;omega),aq⟩)))
 have hTL:=DW (i:=i) au av (bx aE) M;have hT:g.threads.length<=4:=bx (a:=4) (by exact au);have hR:∀l∈g.threads,l.length<=14:=fun l hl=>by obtain⟨k,hk⟩:=gO_ hl;exact bx (a:=14) (M k l (by have:=(gA.1 hk).1;have:=bx aE;omega) hk)
 refine OW 3 Z<|aN<|Pa aq 5 [2,0] Z Z<|S Z (QZ hf Z Z Z (e:=57) Z) Z<|Qn aq 2 [1,0] Z Z<|S Z (QZ I Z Z Z (e:=64) Z) Z<|vQ 1 Z<|ky Z (N Z) (fun aa=>?_) (fun aa=>?_)
 ·refine OZ 18 Z ?_;exact ay Z Z ⟨cJ (by rw[j8 hTL fun F=>absurd aa (by rw[F.from_,fj];decide)]),aq.pop⟩
 refine Qn aq 2 [3,0] Z Z<|S Z (QZ ho Z Z Z (e:=57) Z) Z<|Qn aq 2 [0,0] Z Z<|S Z (QZ hi Z Z Z (e:=2) Z) Z<|PM 4 Z<|aC Z (fun ab=>?_) (fun ab=>?_)
 ·refine PL 7 Z ?_;exact ay Z Z ⟨cJ (by rw[j8 hTL fun F=>absurd ab (by rw[F.order,fj];decide)]),aq.pop⟩
 refine aG<|OU 7 Z ?_;obtain⟨LL2,aq,hLL2⟩:=aq.named;refine ba ([2,4,5]++rg 49 41) (fun j t V=>∃(i:Nat),j+i=g.threads.length/\(∀(k:Nat) (x:List cq) (y:List cm),k<i->g.threads[k]? =some x->g.from_[k]? =some y->y.length=x.length/\∀(m:Nat) (e:cq),x[m]? =some e->bE e (.ofNat g.init.length)=true)/\t.get 4=some (.int .i64 (.ofNat i))/\H V K LL2) (g.threads.length) ⟨0,Z,fun k x y hk=>absurd hk (nZ_ _),Z,aq⟩ ?_;clear aq;intro c5 t V an hI;obtain⟨i,d8,a4,c7,aq⟩:=hI;subst hLL2;obtain⟨oo,rfl⟩:=an.q1 c7 Z;refine Pa aq 6 [1,0] Z Z<|S Z (QZ I Z Z Z (e:=64) Z) Z<|PM 3 Z<|aC Z (fun a0=>?_) (fun a0=>?_)
 ·refine Nz 5 Z<|ai<|aX (l:=zp [0,1,2,3,4,5,6,7,8,9,10,11,12]) J J<|Qo aq 3 [2,0] Z Z ?_;obtain⟨c8,U⟩:=cF (show i<g.from_.length from by have:=cQ (bF aa);have:=aU a0;omega);refine QR (e:=57) (m:=1) hf U Z Z Z Z Z (fun fs d9 b8 ee b9=>?_);have hr59':=b9;obtain⟨fv,rfl,ca⟩:=hr59';refine al Z Z (Q4 aq b8 Z Z) Z<|al Z Z (QZ ca Z Z Z (e:=59) Z) Z<|Qo aq 3 [1,0] Z Z ?_;obtain⟨bk,A,eg⟩:=cO a0;refine QR (e:=64) (m:=1) I A Z Z Z Z Z (fun f0 el cb em cc=>?_);have hr65':=cc;obtain⟨f1,rfl,a5⟩:=hr65';refine al Z Z (Q4 aq cb Z Z) Z<|al Z Z (QZ a5 Z Z Z (e:=92) Z) Z<|PQ 3 Z<|aC Z (fun bl=>?_) (fun bl=>?_)
  ·refine Qk 6 Z<|az<|aK<|az<|bp<|aK<|az (?_);exact ay Z Z ⟨cJ (by rw[j8 hTL fun F=>absurd bl (by rw[(F.rows i _ _ A U).1,fj];decide)]),aq.pop⟩
  refine aG<|PK 3 Z<|OX 3 Z ?_;obtain⟨LL3,aq,hLL3⟩:=aq.named;refine ba ([2,5]++rg 69 21) (fun j t V=>∃(i2:Nat),j+i2=bk.length/\(∀(m:Nat) (e:cq),m<i2->bk[m]? =some e->bE e (.ofNat g.init.length)=true)/\t.get 5=some (.int .i64 (.ofNat i2))/\H V K LL3) (bk.length) ⟨0,Z,fun k x hk=>absurd hk (nZ_ _),Z,aq⟩ ?_;clear aq;intro c9 t V an hI;obtain⟨i2,en,ce,dd,aq⟩:=hI;subst hLL3;obtain⟨oo,rfl⟩:=an.q1 dd Z;refine Pa aq 7 [1,0] Z Z<|QQ (e:=64) (m:=1) I A Z Z Z Z (fun f2 eo ch er ci=>?_);have hr73':=ci;obtain⟨f3,rfl,ck⟩:=hr73';refine S Z (Q4 aq ch Z Z) Z<|S Z (QZ ck Z Z Z (e:=92) Z) Z<|PM 3 Z<|aC Z (fun bm=>?_) (fun bm=>?_)
  ·refine Nz 5 Z<|aX (l:=zp [0,1,2,3,4,5,6,7,8,9,10]) J J<|al Z Z (QY Z aq.g0 (n:=4) (vs:=[_,_,_,_]) Z) Z<|Qo aq 3 [1,0] Z Z<|QR (e:=64) (m:=1) I A Z Z Z Z Z (fun f4 es cn et cp=>?_);have hr83':=cp;obtain⟨f5,rfl,cr⟩:=hr83';refine al Z Z (Q4 aq cn Z Z) Z<|wQ 1 Z ?_;obtain⟨f6,ak,cv⟩:=cO bm;refine QR (e:=92) (m:=5) cr ak Z Z Z Z Z (fun f7 ev cw ex cx=>?_);obtain rfl:=cx;refine al Z Z (Q5 aq cw Z Z) Z<|fe Z Z (QV Z Z Z) (fun _=>Z) (Le hG h _ aq) (fun V aq=>?_);refine⟨bq,?_⟩;refine al Z Z (dX Z) Z<|PQ 2 Z<|aC Z (fun a1=>?_) (fun a1=>?_)
   ·refine Qk 6 Z<|aK<|az<|bp<|aK<|aK<|az<|bp<|aK<|az (?_);exact ay Z Z ⟨cJ (by rw[j8 hTL fun F=>by obtain⟨r1,r2⟩:=F.rows i _ _ A U;obtain⟨y,hy⟩:=cF (show i2<c8.length from by rw[r1];exact cv);have:=(It<|r2 i2 _ _ ak hy).1;rw[this] at a1;cases a1]),aq.pop⟩
   refine aG (aH (Qj 5 Z (aL ⟨c9-1,by omega,oF,i2+1,by omega,fun m e hm he=>(by by_cases bo:m=i2;(subst bo;rw[ak] at he;cases he;exact jN a1);exact ce m e oM he),cI<|aZ (by have:=a5.bM;omega),aq⟩)))
  refine OW 3 Z (aN (aH (Qj 5 Z (aL ⟨c5-1,by omega,oF,i+1,by omega,fun k x y hk h1 W=>(by by_cases Q:k=i;(subst Q;rw[A] at h1;rw[U] at W;cases h1;cases W;exact⟨cQ<|bF bl,fun m e hm=>ce m e (by have:=(gA.1 hm).1;have:=bx bm;omega) hm⟩);exact a4 k x y oM h1 W),cI<|aZ (by have:=I.bM;omega),aq⟩))))
 have hrows:=a4;have hi11:=bx a0;have hlen:∀(k:Nat) (x:List cq) (y:List cm),g.threads[k]? =some x->g.from_[k]? =some y->y.length=x.length/\∀(m:Nat) (e:cq),x[m]? =some e->bE e (.ofNat g.init.length)=true:=fun k x y h1 W=>hrows k x y (by have:=(gA.1 h1).1;omega) h1 W
 have a9:∀(t:Nat) (l:List cq) (m:Nat) (e:cq),g.threads[t]? =some l->l[m]? =some e->br e=true->∃ln:Nat,e.loc= .ofNat ln/\ln<g.order.length:=fun t l m e h1 W h3=>by
  obtain⟨y,hy⟩:=cF (show t<g.from_.length from by have:=cQ (bF aa);have:=(gA.1 h1).1;omega);obtain⟨ln,k1,k2⟩:=BD ((hlen t l y h1 hy).2 m e W) h3;exact⟨ln,k1,by have:=cQ (bF ab);omega⟩
 refine OW 3 Z<|aN<|OU 7 Z ?_;obtain⟨LL4,aq,hLL4⟩:=aq.named;refine ba ([2,6,7]++rg 90 32) (fun j t V=>∃(i4:Nat),j+i4=g.threads.length/\(∀(k:Nat) (x:List cq) (y:List cm),k<i4->g.threads[k]? =some x->g.from_[k]? =some y->∀(m:Nat) (f:cm),m<x.length->y[m]? =some f->cz g ⟨.ofNat (k+1),.ofNat m⟩ f=true)/\t.get 6=some (.int .i64 (.ofNat i4))/\H V K LL4) (g.threads.length) ⟨0,Z,fun k x y hk=>absurd hk (nZ_ _),Z,aq⟩ ?_;clear aq;intro df t V an hI;obtain⟨i4,e0,bb,dk,aq⟩:=hI;subst hLL4;obtain⟨oo,rfl⟩:=an.q1 dk Z;refine Pa aq 6 [1,0] Z Z<|S Z (QZ I Z Z Z (e:=64) Z) Z<|PM 3 Z<|aC Z (fun bs=>?_) (fun bs=>?_)
 ·refine NA 6 Z ?_;obtain⟨xb,a2,hi_xb⟩:=cO bs;refine OX 4 Z ?_;obtain⟨LL5,aq,hLL5⟩:=aq.named;refine ba ([2,7]++rg 97 25) (fun j t V=>∃(i5:Nat),j+i5=xb.length/\(∀(y:List cm) (m:Nat) (f:cm),m<i5->g.from_[i4]? =some y->y[m]? =some f->cz g ⟨.ofNat (i4+1),.ofNat m⟩ f=true)/\t.get 7=some (.int .i64 (.ofNat i5))/\H V K LL5) (xb.length) ⟨0,Z,fun y m f hm=>absurd hm (nZ_ _),Z,aq⟩ ?_;clear aq;intro dl t V an hI;obtain⟨i5,e3,c0,dm,aq⟩:=hI;subst hLL5;obtain⟨oo,rfl⟩:=an.q1 dm Z;refine Pa aq 7 [1,0] Z Z<|QQ (e:=64) (m:=1) I a2 Z Z Z Z (fun e4 dr bt ds bv=>?_);have hr101':=bv;obtain⟨e5,rfl,am⟩:=hr101';refine S Z (Q4 aq bt Z Z) Z<|S Z (QZ am Z Z Z (e:=92) Z) Z<|PM 3 Z<|aC Z (fun u=>?_) (fun u=>?_)
  ·refine Nz 5 Z (aX (l:=zp [0,1,2,3,4,5,6,7,8,9,10,11,12,13,14]) J J (al Z Z (QY Z aq.g0 (n:=4) (vs:=[_,_,_,_]) Z) Z (Qm 3 Z (al Z Z (QU (places:=[(0,1),(1,1)]) (zero:=[iZ,iZ]) (cs:=[_,_]) Z) Z<|Qo aq 3 [2,0] Z Z ?_))));obtain⟨c1,E⟩:=cF (show i4<g.from_.length from by have:=cQ (bF aa);omega);obtain⟨xc,dx⟩:=cF (aU u);refine QR (e:=57) (m:=1) hf E Z Z Z Z Z (fun e6 dA bw d0 b0=>?_);have hr115':=b0;obtain⟨e7,rfl,b2⟩:=hr115';refine al Z Z (Q4 aq bw Z Z) Z<|wQ 1 Z ?_;obtain⟨bd,R⟩:=cF (show i5<c1.length from by rw[(hlen i4 _ _ a2 E).1];exact aU u);refine QR (e:=59) (m:=2) b2 R Z Z Z Z Z (fun e8 d1 b3 d2 b4=>?_);obtain rfl:=b4;refine al Z Z (Q5 aq b3 Z Z) Z<|fe Z Z (QV Z Z Z) (fun _=>Z) (GQ hG h _ _ _ _ aq) (fun V aq=>?_);refine⟨bq,?_⟩;refine al Z Z (dX Z) Z<|PQ 2 Z<|aC Z (fun ao=>?_) (fun ao=>?_)
   ·refine Qk 6 Z<|aK<|az<|bp<|aK<|aK<|az<|bp<|aK<|az (?_);exact ay Z Z ⟨cJ (by rw[j8 hTL fun F=>by obtain⟨r1,r2⟩:=F.rows i4 _ _ a2 E;have:=(It<|r2 i5 _ _ dx R).2;have e:cz g ⟨wr .i64<|Int.add (.ofNat i4) (.ofNat 1),.ofNat i5⟩ ⟨bd.bX,bd.index⟩=true:=(by rw[aZ (by have:=I.bM;omega)];exact this);exact absurd ((vO ao).symm.trans e) (by decide)]),aq.pop⟩
   refine aG<|aH<|Qj 5 Z ?_;refine aL ⟨dl-1,by have:=aU u;omega,oF,i5+1,by have:=aU u;omega,fun y m f hm hy hf=>(by by_cases bo:m=i5;(subst bo;rw[E] at hy;cases hy;rw[R] at hf;cases hf;have hq:=jN ao;rw[<-aZ (i:=i4) (by have:=I.bM;omega)];exact hq);exact c0 y m f oM hy hf),cI<|aZ (by have:=am.bM;have:=aU u;omega),aq⟩
  refine OW 3 Z (aN (aH (Qj 5 Z (aL ⟨df-1,by omega,oF,i4+1,by omega,fun k x y hk h1 W m f hm hf=>(by by_cases Q:k=i4;(subst Q;rw[a2] at h1;cases h1;exact c0 y m f (by have:=bx u;omega) W hf);exact bb k x y oM h1 W m f hm hf),cI<|aZ (by have:=I.bM;omega),aq⟩))))
 have hsrcs:=bb;have hi21:=bx bs;refine OW 3 Z<|aN<|OU 7 Z ?_;obtain⟨LL6,aq,hLL6⟩:=aq.named;refine ba ([2,8]++rg 122 11) (fun j t V=>∃(i8:Nat),j+i8=g.init.length/\(∀(k:Nat) (r:List cm),k<i8->g.order[k]? =some r->D9 g k r)/\t.get 8=some (.int .i64 (.ofNat i8))/\H V K LL6) (g.init.length) ⟨0,Z,fun k x hk=>absurd hk (nZ_ _),Z,aq⟩ ?_;clear aq;intro d3 t V an hI;obtain⟨i8,e9,be,d4,aq⟩:=hI;subst hLL6;obtain⟨oo,rfl⟩:=an.q1 d4 Z;refine Pa aq 6 [0,0] Z Z<|S Z (QZ hi Z Z Z (e:=2) Z) Z<|PM 3 Z<|aC Z (fun C=>?_) (fun C=>?_)
 ·refine NA 6 Z<|S Z (QY Z aq.g0 (n:=4) (vs:=[_,_,_,_]) Z) Z<|vQ 1 Z ?_;obtain⟨c2,T⟩:=cF (show i8<g.order.length from by have:=cQ (bF ab);have:=aU C;omega);refine dJ Z (QV Z Z Z) (fun _=>Z) (DZ hG h T hT hR aq) ?_;rintro _ V ⟨c3,rfl,ap,aq⟩;refine S Z (dX Z) Z<|PM 2 Z<|aC Z (fun X=>?_) (fun X=>?_)
  ·refine Qk 6 Z<|aK<|az<|bp<|aK<|az (?_);exact ay Z Z ⟨cJ (by rw[j8 hTL fun F=>by have hq:c3=true:=ap.2 ((tE a9).2 F.perm i8 c2 T);rw[hq] at X;cases X]),aq.pop⟩
  refine aG (aH (Qj 5 Z (aL ⟨d3-1,by have:=aU C;omega,oF,i8+1,by have:=aU C;omega,fun k r hk F=>(by by_cases Q:k=i8;(subst Q;rw[T] at F;cases F;exact ap.1<|jN X);exact be k r oM F),cI<|aZ (by have:=hi.bM;have:=aU C;omega),aq⟩)))
 have a3:dy g:=⟨hT,bx (a:=6) (by exact av),fun k l hl=>hR l (gB_ hl),cQ<|bF aa,cQ<|bF ab,fun k l f h1 W=>⟨(hlen k l f h1 W).1,fun m e q h3 h4=>Iu ((hlen k l f h1 W).2 m e h3) (hsrcs k l f (by have:=(gA.1 h1).1;omega) h1 W m q (gA.1 h3).1 h4)⟩,(tE a9).1 fun k r F=>be k r (by have:=(gA.1 F).1;have:=cQ (bF ab);have:=bx C;omega) F⟩;refine OW 3 Z<|aN<|Qk 6 Z ?_;exact ay Z Z ⟨cJ (by rw[eK.2 a3]),aq.pop⟩
theorem fS {α:Type} {l:List α} {i:Nat} (h:l.length<=i):l.take i=l:=tL_ h
theorem yw {G:Cx} (hG:Plain G) {K:KP} {g:XG} (hR:dy g) {a b c d:Y} (hg:dC K g a b c d) {V:B} {L:Own} (aq:H V K L):
  aT Tryz.prog G 103 [.agg [a,b,c,d]] V fun v V'=>∃M,dP 1 2 dG (lh g) v M/\H V' K (M++L):=by
 have hF:=Ly (eK.2 hR);refine aW hG Tryz.func103 Z (t:=D.leaf.put (some (.agg [a,b,c,d])) 0) (by rfl) ?_;refine ai ?_;refine ah Z ?_;refine bH aq Z (cL Z Z) (fun _=>Z) (fun V b1 aq=>?_);obtain⟨K1,a0,a1,aq⟩:=aq.eA (M:=[_]);have C:K1 b1 (.row [a,b,c,d] 27 false):=a1 _ (.head _);clear a1;have hg1:=hg.mono a0;refine S Z (aj Z) Z ?_;refine af ?_;refine ad ?_;refine ai ?_;refine ah Z ?_;refine S Z (ax Z (k:=1) J) Z ?_;refine S Z (aw Z (aq.fX C) J Z) Z ?_;refine S Z (aO hg1.threads Z Z Z (e:=64) J Z) Z ?_;refine jY aq Z (cM (e:=2) (m:=1) (z:=[.int .i64 0]) (cs:=[_]) J J J J<|bB Z Z Z Z cj) (fun _=>Z) (fun V b2 aq=>?_);have hO0:dP 1 2 dG [Int.ofNat g.threads.length] (.slice b2 0 1 (.known 1)) [(b2,.row [.int .i64 (.ofNat g.threads.length)] 2 false)]:=Gg (xs:=[Int.ofNat g.threads.length]) (by simp);obtain⟨M0,hM0⟩:∃M0:Own,M0= [(b2,.row [.int .i64 (.ofNat g.threads.length)] 2 false)]:=⟨_,Z⟩;rw[<-hM0] at hO0;replace aq:H V K1 (M0++L):=by rw[hM0];exact aq
 refine S Z (aj Z) Z ?_;refine af ?_;refine ad ?_;refine ai ?_;refine ai ?_;refine ah Z ?_;refine S Z (aj Z) Z ?_;refine af ?_;refine ad ?_;refine aJ ?_;refine ba [3,4,16,17,18,19,20,21,22,23,24,25,26,27,28,29,30,31] (fun j t V=>∃(i:Nat) (u:Y) (M1:Own),(j+i=g.threads.length/\dP 1 2 dG ([Int.ofNat g.threads.length]++((g.threads.take i).map fun r=>Int.ofNat r.length)) u M1)/\t.get 3=some (u)/\t.get 4=some (.int .i64 (.ofNat i))/\H V K1 (M1++L)) (g.threads.length) ⟨0,_,_,⟨Z,hO0⟩,Z,Z,aq⟩ ?_;clear aq;intro j3 t V an U;obtain⟨i,u,M1,⟨px,hO1⟩,A,bd,aq⟩:=U;replace an:=an.bR Z Z;obtain⟨W,o4,py,pP,pQ,pT,p0,p7,an⟩:=an;replace an:=an.bR Z Z;obtain⟨p9,qp,qr,qv,qw,qx,qy,q6,an⟩:=an;replace an:=an.eb Z;obtain⟨ra,an⟩:=an;replace an:=an.eb Z;obtain⟨rb,an⟩:=an;obtain rfl:=an.nil;clear an;replace A:W=some _:=A;subst A;replace bd:o4=some _:=bd;subst bd;refine ai ?_;refine ai ?_;refine ah Z ?_;refine S Z (N Z) Z ?_;refine S Z (ax Z (k:=1) J) Z ?_;refine S Z (aw Z (aq.fX C) J Z) Z ?_;refine S Z (aO hg1.threads Z Z Z (e:=64) J Z) Z ?_;refine S Z (aA Z Z Z) Z ?_;refine af ?_;refine ad ?_;refine aC Z (fun aa=>?_) (fun aa=>?_)
 ·refine aG ?_;refine ad ?_;refine ai ?_;refine aJ ?_;refine ah Z ?_;refine S Z (N Z) Z ?_;refine S Z (ax Z (k:=1) J) Z ?_;refine S Z (aw Z (aq.fX C) J Z) Z ?_;refine S Z (N Z) Z ?_;obtain⟨hw,a2,k3⟩:=cO aa;refine bO (e:=64) (m:=1) hg1.threads a2 Z Z J J Z Z (fun _=>Z) (fun rl k4 dl k5 dm=>?_);have hr27':=dm;obtain⟨rr,rfl,dr⟩:=hr27';refine S Z (aM aq dl Z J Z) Z ?_;refine S Z (aO dr Z Z Z (e:=92) J Z) Z ?_;refine jY aq Z (cM (e:=2) (m:=1) (z:=[.int .i64 0]) (cs:=[_]) J J J J<|bB Z Z Z Z cj) (fun _=>Z) (fun V b2 aq=>?_);replace aq:=aq.pull (.there .here);replace aq:=aq.pull (.pJ<|fG.here (X:=[_]));refine iA (R:=dG) (m:=1) (e:=2) hO1 aq (eX (xs:=[Int.ofNat hw.length]) (.inr ⟨Z,Z⟩) (by simp)) dG.leaf (by have:=N5 hF i;simp only[lA_,List.length_cons,List.length_nil];omega) Z Z Z Z Z Z Z (fun _=>Z) (fun V rs rt hO31 aq=>?_);refine S Z (aj Z) Z ?_;refine af ?_;refine aH ?_;refine ad ?_;refine ah Z ?_;refine S Z (N Z) Z ?_;refine S Z (aA Z Z Z) Z ?_;refine S Z (aj Z) Z ?_;refine af ?_;refine aL ⟨j3-1,(by have:=aU aa;omega),(by(iterate 36 refine a8.put Z ?_);exact a8.refl _ _),i+1,_,_,⟨by have:=aU aa;omega,by rw[map_take a2,<-lQ_];exact hO31⟩,Z,congrArg (fun z=>some (Y.int .i64 z))<|aZ (by have:=aU aa;have:=hF.t;omega),aq⟩
 refine bc ?_;refine aP ?_;refine aQ ?_;refine aN ?_;refine ad ?_;refine ai ?_;refine ai ?_;refine ah Z ?_;have hA:g.threads.length<=i:=bx aa;rw[fS hA] at hO1;obtain⟨p1,be⟩:∃x:List Int,x= [Int.ofNat g.threads.length]++g.threads.map fun r=>Int.ofNat r.length:=⟨_,Z⟩
 rw[<-be] at hO1;have k6:p1.length<=5:=by rw[be];have:=hF.t;rw[lA_,lM_];simp;omega
 refine S Z (aj Z) Z ?_;refine af ?_;refine ad ?_;refine aJ ?_;refine ba [3,5,6,7,32,33,34,35,36,37,38,39,40,41,42,43,44,45,46,47,48,49,50,51,52,53,54,55,56,57,58,59,60,61,62,63,64,65,66,67,68,69] (fun j t V=>∃(i2:Nat) (u:Y) (M2:Own),(j+i2=g.threads.length/\dP 1 2 dG (p1++((g.threads.take i2).flatMap fun r=>r.flatMap cq.ints)) u M2)/\t.get 3=some (u)/\t.get 5=some (.int .i64 (.ofNat i2))/\H V K1 (M2++L)) (g.threads.length) ⟨0,_,_,⟨Z,by rw[List.take_zero,List.flatMap_nil,List.append_nil];exact hO1⟩,Z,Z,aq⟩ ?_;clear aq;intro j7 t V an U;obtain⟨i2,u,M2,⟨rx,hO2⟩,A,bi,aq⟩:=U;replace an:=an.bR Z Z;obtain⟨W,o5,o6,o7,r0,r1,r2,r3,an⟩:=an;replace an:=an.bR Z Z;obtain⟨sa,sh,so,hB,hC,hD,hE,hH,an⟩:=an;replace an:=an.bR Z Z;obtain⟨hK,hL,hM,hN,hO,hP,hQ,hS,an⟩:=an;replace an:=an.bR Z Z;obtain⟨hT,hU,hV,hW,hX,hY,h2,h3,an⟩:=an;replace an:=an.bR Z Z;obtain⟨h6,h7,h8,h9,ia,ib,ih,ii,an⟩:=an;replace an:=an.eb Z;obtain⟨il,an⟩:=an;replace an:=an.eb Z;obtain⟨im,an⟩:=an;obtain rfl:=an.nil;clear an;replace A:W=some _:=A;subst A;replace bi:o5=some _:=bi;subst bi;refine ai ?_;refine ai ?_;refine ah Z ?_;refine S Z (N Z) Z ?_;refine S Z (ax Z (k:=1) J) Z ?_;refine S Z (aw Z (aq.fX C) J Z) Z ?_;refine S Z (aO hg1.threads Z Z Z (e:=64) J Z) Z ?_;refine S Z (aA Z Z Z) Z ?_;refine af ?_;refine ad ?_;refine aC Z (fun ab=>?_) (fun ab=>?_)
 ·refine aG ?_;refine ad ?_;refine ai ?_;refine aJ ?_;refine ai ?_;refine ah Z ?_;obtain⟨row,T⟩:=cF (aU ab);have hr14:=hF.r row (gB_ T);refine S Z (aj Z) Z ?_;refine af ?_;refine ad ?_;refine aJ ?_;refine ba [3,6,7,39,40,41,42,43,44,45,46,47,48,49,50,51,52,53,54,55,56,57,58,59,60,61,62,63,64,65,66,67,68,69] (fun j t V=>∃(q:Nat) (u:Y) (M3:Own),(j+q=row.length/\dP 1 2 dG (p1++((g.threads.take i2).flatMap fun r=>r.flatMap cq.ints)++((row.take q).flatMap cq.ints)) u M3)/\t.get 3=some (u)/\t.get 6=some (.int .i64 (.ofNat q))/\H V K1 (M3++L)) (row.length) ⟨0,_,_,⟨Z,by rw[List.take_zero,List.flatMap_nil,List.append_nil];exact hO2⟩,Z,Z,aq⟩ ?_;clear aq;intro io t V an U;obtain⟨q,u,M3,⟨k7,hO3⟩,A,bk,aq⟩:=U;replace an:=an.bR Z Z;obtain⟨W,o6,o7,hB,hC,hD,hE,hH,an⟩:=an;replace an:=an.bR Z Z;obtain⟨hK,hL,hM,hN,hO,hP,hQ,hS,an⟩:=an;replace an:=an.bR Z Z;obtain⟨hT,hU,hV,hW,hX,hY,h2,h3,an⟩:=an;replace an:=an.bR Z Z;obtain⟨h6,h7,h8,h9,ia,ib,ih,ii,an⟩:=an;replace an:=an.eb Z;obtain⟨il,an⟩:=an;replace an:=an.eb Z;obtain⟨im,an⟩:=an;obtain rfl:=an.nil;clear an;replace A:W=some _:=A;subst A;replace bk:o6=some _:=bk;subst bk;refine ai ?_;refine ai ?_;refine ah Z ?_;refine S Z (N Z) Z ?_;refine S Z (ax Z (k:=1) J) Z ?_;refine S Z (aw Z (aq.fX C) J Z) Z ?_;refine S Z (N Z) Z ?_;refine bO (e:=64) (m:=1) hg1.threads T Z Z J J Z Z (fun _=>Z) (fun sp k8 ds la dx=>?_);have hr43':=dx;obtain⟨st,rfl,dA⟩:=hr43';refine S Z (aM aq ds Z J Z) Z ?_;refine S Z (aO dA Z Z Z (e:=92) J Z) Z ?_;refine S Z (aA Z Z Z) Z ?_;refine af ?_;refine ad ?_;refine aC Z (fun ac=>?_) (fun ac=>?_)
  ·refine aG ?_;refine ad ?_;refine ai ?_;refine aJ ?_;refine ai ?_;refine ah Z ?_;refine S Z (ax Z (k:=1) J) Z ?_;refine S Z (aw Z (aq.fX C) J Z) Z ?_;refine S Z (N Z) Z ?_;refine bO (e:=64) (m:=1) hg1.threads T Z Z J J Z Z (fun _=>Z) (fun sz lc d0 ld d1=>?_);have hr52':=d1;obtain⟨sJ,rfl,d2⟩:=hr52';refine S Z (aM aq d0 Z J Z) Z ?_;refine S Z (N Z) Z ?_;obtain⟨au,a3,li⟩:=cO ac;refine bO (e:=92) (m:=5) d2 a3 Z Z J J Z Z (fun _=>Z) (fun s0 lm d3 ln d4=>?_);obtain rfl:=d4;refine S Z (bC aq d3 Z J Z) Z ?_;refine bH aq Z (ea (cs:=[.int .i64 0,.int .i64 0,.int .i64 0,.int .i64 0,.int .i64 0]) J J) (fun _=>Z) (fun V b2 aq=>?_);refine db aq Z (bz Z Z Z (aq.get 0 Z) (m:=5) J Z (Nat.le_of_ble_eq_true Z) (ar Z<|ar Z<|ar Z<|ar Z<|ar Z aS) (cells':=[_,_,_,_,_]) Z) Z (fun V aq=>?_);refine af ?_;refine ad ?_;refine ah Z ?_;refine S Z (N Z) Z ?_;refine S Z (ax Z (k:=0) J) Z ?_;refine S Z (aw Z (aq.get 0 Z) J Z) Z ?_;refine S Z (ax Z (k:=1) J) Z ?_;refine S Z (aw Z (aq.get 0 Z) J Z) Z ?_;refine S Z (ax Z (k:=2) J) Z ?_;refine S Z (aw Z (aq.get 0 Z) J Z) Z ?_;refine S Z (ax Z (k:=3) J) Z ?_;refine S Z (aw Z (aq.get 0 Z) J Z) Z ?_;refine S Z (ax Z (k:=4) J) Z ?_;refine S Z (aw Z (aq.get 0 Z) J Z) Z ?_;refine jY aq Z (cM (e:=2) (m:=1) (z:=[.int .i64 0]) (cs:=[_,_,_,_,_]) J J J J<|bB Z Z Z Z<|bB Z Z Z Z<|bB Z Z Z Z<|bB Z Z Z Z<|bB Z Z Z Z cj) (fun _=>Z) (fun V b3 aq=>?_);replace aq:=aq.pull (.there (.there .here));replace aq:=aq.pull (.pJ<|fG.here (X:=[_]));refine iA (R:=dG) (m:=1) (e:=2) hO3 aq (eX (xs:=[au.kind,au.loc,au.order,au.read,au.write]) (.inr ⟨Z,Z⟩) (by simp)) dG.leaf (by have:=LH hF i2;have:=LI hr14 q;simp only[lA_,List.length_cons,List.length_nil];omega) Z Z Z Z Z Z Z (fun _=>Z) (fun V s1 s2 hO69 aq=>?_);replace aq:=aq.sub (ph (.cons _ (.refl _)));refine S Z (aj Z) Z ?_;refine af ?_;refine aH ?_;refine ad ?_;refine ah Z ?_;refine S Z (N Z) Z ?_;refine S Z (aA Z Z Z) Z ?_;refine S Z (aj Z) Z ?_;refine af ?_;refine aL ⟨io-1,(by have:=aU ac;omega),(by(iterate 68 refine a8.put Z ?_);exact a8.refl _ _),q+1,_,_,⟨by have:=aU ac;omega,by rw[fb a3,<-lQ_];exact hO69⟩,Z,congrArg (fun z=>some (Y.int .i64 z))<|aZ (by have:=aU ac;omega),aq⟩
  refine bc ?_;refine aP ?_;refine aQ ?_;refine aN ?_;refine aH ?_;refine ad ?_;refine ah Z ?_;refine S Z (N Z) Z ?_;refine S Z (aA Z Z Z) Z ?_;refine S Z (aj Z) Z ?_;refine af ?_;refine aL ⟨j7-1,(by have:=aU ab;omega),(by(iterate 93 refine a8.put Z ?_);exact a8.refl _ _),i2+1,_,_,⟨by have:=aU ab;omega,by rw[fb T,<-lQ_];rw[fS<|bx ac] at hO3;exact hO3⟩,Z,congrArg (fun z=>some (Y.int .i64 z))<|aZ (by have:=aU ab;have:=hF.t;omega),aq⟩
 refine bc ?_;refine aP ?_;refine aQ ?_;refine aN ?_;refine ad ?_;refine ai ?_;refine ah Z ?_;have d5:g.threads.length<=i2:=bx ab;rw[fS d5] at hO2;obtain⟨p2,bl⟩:∃x:List Int,x=p1++g.threads.flatMap fun r=>r.flatMap cq.ints:=⟨_,Z⟩
 rw[<-bl] at hO2;have lo:p2.length<=285:=by rw[bl];have:=LH hF i2;rw[fS d5] at this;rw[lA_];omega
 refine S Z (N Z) Z ?_;refine S Z (ax Z (k:=2) J) Z ?_;refine S Z (aw Z (aq.fX C) J Z) Z ?_;refine S Z (aO hg1.from_ Z Z Z (e:=57) J Z) Z ?_;refine jY aq Z (cM (e:=2) (m:=1) (z:=[.int .i64 0]) (cs:=[_]) J J J J<|bB Z Z Z Z cj) (fun _=>Z) (fun V b2 aq=>?_);replace aq:=aq.pull (.there .here);replace aq:=aq.pull (.pJ<|fG.here (X:=[_]));refine iA (R:=dG) (m:=1) (e:=2) hO2 aq (eX (xs:=[Int.ofNat g.from_.length]) (.inr ⟨Z,Z⟩) (by simp)) dG.leaf (by simp;omega) Z Z Z Z Z Z Z (fun _=>Z) (fun V s3 s4 hO75 aq=>?_);refine S Z (aj Z) Z ?_;refine af ?_;refine ad ?_;refine ai ?_;refine ai ?_;refine ah Z ?_;obtain⟨p3,bm⟩:∃x:List Int,x=p2++[Int.ofNat g.from_.length]:=⟨_,Z⟩;rw[<-bm] at hO75;have lp:p3.length<=286:=by rw[bm];simp;omega
 refine S Z (aj Z) Z ?_;refine af ?_;refine ad ?_;refine aJ ?_;refine ba [3,8,9,76,77,78,79,80,81,82,83,84,85,86,87,88,89,90,91,92,93,94,95,96,97,98,99,100,101,102,103,104,105,106,107,108,109,110,111,112,113,114,115,116,117,118,119,120,121,122] (fun j t V=>∃(i3:Nat) (u:Y) (M4:Own),(j+i3=g.from_.length/\dP 1 2 dG (p3++((g.from_.take i3).flatMap jI)) u M4)/\t.get 3=some (u)/\t.get 8=some (.int .i64 (.ofNat i3))/\H V K1 (M4++L)) (g.from_.length) ⟨0,_,_,⟨Z,by rw[List.take_zero,List.flatMap_nil,List.append_nil];exact hO75⟩,Z,Z,aq⟩ ?_;clear aq;intro ip t V an U;obtain⟨i3,u,M4,⟨ls,hO4⟩,A,bo,aq⟩:=U;replace an:=an.bR Z Z;obtain⟨W,o8,o9,td,th,ti,tj,tk,an⟩:=an;replace an:=an.bR Z Z;obtain⟨tm,tn,to,tp,tr,ts,ty,t0,an⟩:=an;replace an:=an.bR Z Z;obtain⟨t1,t2,t3,it,ix,iz,iJ,i0,an⟩:=an;replace an:=an.bR Z Z;obtain⟨i1,i5,i6,d6,d7,d8,d9,ee,an⟩:=an;replace an:=an.bR Z Z;obtain⟨eg,el,em,en,eo,er,es,et,an⟩:=an;replace an:=an.bR Z Z;obtain⟨ev,ex,e0,e3,e4,e5,e6,e7,an⟩:=an;replace an:=an.eb Z;obtain⟨e8,an⟩:=an;replace an:=an.eb Z;obtain⟨e9,an⟩:=an;obtain rfl:=an.nil;clear an;replace A:W=some _:=A;subst A;replace bo:o8=some _:=bo;subst bo;refine ai ?_;refine ai ?_;refine ah Z ?_;refine S Z (N Z) Z ?_;refine S Z (ax Z (k:=2) J) Z ?_;refine S Z (aw Z (aq.fX C) J Z) Z ?_;refine S Z (aO hg1.from_ Z Z Z (e:=57) J Z) Z ?_;refine S Z (aA Z Z Z) Z ?_;refine af ?_;refine ad ?_;refine aC Z (fun ak=>?_) (fun ak=>?_)
 ·refine aG ?_;refine ad ?_;refine ai ?_;refine aJ ?_;refine ai ?_;refine ah Z ?_;obtain⟨fr,am⟩:=cF (aU ak);have hf14:=hF.fr fr (gB_ am);refine S Z (N Z) Z ?_;refine S Z (ax Z (k:=2) J) Z ?_;refine S Z (aw Z (aq.fX C) J Z) Z ?_;refine S Z (N Z) Z ?_;refine bO (e:=57) (m:=1) hg1.from_ am Z Z J J Z Z (fun _=>Z) (fun t4 lv fd lw fi=>?_);have hr87':=fi;obtain⟨t5,rfl,fk⟩:=hr87';refine S Z (aM aq fd Z J Z) Z ?_;refine S Z (aO fk Z Z Z (e:=59) J Z) Z ?_;refine jY aq Z (cM (e:=2) (m:=1) (z:=[.int .i64 0]) (cs:=[_]) J J J J<|bB Z Z Z Z cj) (fun _=>Z) (fun V b3 aq=>?_);replace aq:=aq.pull (.there .here);replace aq:=aq.pull (.pJ<|fG.here (X:=[_]));refine iA (R:=dG) (m:=1) (e:=2) hO4 aq (eX (xs:=[Int.ofNat fr.length]) (.inr ⟨Z,Z⟩) (by simp)) dG.leaf (by have:=oQ hF.f hF.fr i3;simp only[lA_,List.length_cons,List.length_nil];omega) Z Z Z Z Z Z Z (fun _=>Z) (fun V t6 t7 hO91 aq=>?_);refine S Z (aj Z) Z ?_;refine af ?_;refine ad ?_;refine ai ?_;refine ah Z ?_;refine S Z (aj Z) Z ?_;refine af ?_;refine ad ?_;refine aJ ?_;refine ba [3,9,92,93,94,95,96,97,98,99,100,101,102,103,104,105,106,107,108,109,110,111,112,113,114,115,116,117,118,119,120,121,122] (fun j t V=>∃(q3:Nat) (u:Y) (M5:Own),(j+q3=fr.length/\dP 1 2 dG (p3++((g.from_.take i3).flatMap jI)++[Int.ofNat fr.length]++((fr.take q3).flatMap cm.ints)) u M5)/\t.get 3=some (u)/\t.get 9=some (.int .i64 (.ofNat q3))/\H V K1 (M5++L)) (fr.length) ⟨0,_,_,⟨Z,by rw[List.take_zero,List.flatMap_nil,List.append_nil];exact hO91⟩,Z,Z,aq⟩ ?_;clear aq;intro i7 t V an U;obtain⟨q3,u,M5,⟨lx,hO5⟩,A,bs,aq⟩:=U;replace an:=an.bR Z Z;obtain⟨W,o9,it,ix,iz,iJ,i0,i1,an⟩:=an;replace an:=an.bR Z Z;obtain⟨i5,i6,d6,d7,d8,d9,ee,eg,an⟩:=an;replace an:=an.bR Z Z;obtain⟨el,em,en,eo,er,es,et,ev,an⟩:=an;replace an:=an.bR Z Z;obtain⟨ex,e0,e3,e4,e5,e6,e7,e8,an⟩:=an;replace an:=an.eb Z;obtain⟨e9,an⟩:=an;obtain rfl:=an.nil;clear an;replace A:W=some _:=A;subst A;replace bs:o9=some _:=bs;subst bs;refine ai ?_;refine ai ?_;refine ah Z ?_;refine S Z (N Z) Z ?_;refine S Z (ax Z (k:=2) J) Z ?_;refine S Z (aw Z (aq.fX C) J Z) Z ?_;refine S Z (N Z) Z ?_;refine bO (e:=57) (m:=1) hg1.from_ am Z Z J J Z Z (fun _=>Z) (fun t8 ly fq l0 fs=>?_);have hr96':=fs;obtain⟨t9,rfl,fv⟩:=hr96';refine S Z (aM aq fq Z J Z) Z ?_;refine S Z (aO fv Z Z Z (e:=59) J Z) Z ?_;refine S Z (aA Z Z Z) Z ?_;refine af ?_;refine ad ?_;refine aC Z (fun ao=>?_) (fun ao=>?_)
  ·refine aG ?_;refine ad ?_;refine ai ?_;refine aJ ?_;refine aX (l:=[(0,[]),(1,[]),(2,[]),(3,[]),(4,[]),(5,[]),(6,[]),(7,[]),(8,[]),(9,[]),(10,[]),(11,[]),(12,[]),(13,[]),(14,[]),(15,[]),(16,[]),(17,[]),(18,[]),(19,[]),(20,[]),(21,[])]) J J ?_;refine al Z Z (N Z) Z ?_;refine al Z Z (ax Z (k:=2) J) Z ?_;refine al Z Z (aw Z (aq.fX C) J Z) Z ?_;refine al Z Z (N Z) Z ?_;refine cP (e:=57) (m:=1) hg1.from_ am Z Z Z J J Z Z (fun _=>Z) (fun mc i9 bt je bv=>?_);have hr106':=bv;obtain⟨md,rfl,bw⟩:=hr106';refine al Z Z (aM aq bt Z J Z) Z ?_;refine al Z Z (N Z) Z ?_;obtain⟨a4,I,jj⟩:=cO ao;refine cP (e:=59) (m:=2) bw I Z Z Z J J Z Z (fun _=>Z) (fun mo jp b0 jw b6=>?_);obtain rfl:=b6;refine mg b0 Z Z Z Z (k:=0) J (Nat.le_of_ble_eq_true Z) (fun _=>Z) (fun mp b7=>?_);refine al Z Z (aM aq b7 Z J Z) Z ?_;refine al Z Z (ax Z (k:=2) J) Z ?_;refine al Z Z (aw Z (aq.fX C) J Z) Z ?_;refine al Z Z (N Z) Z ?_;refine cP (e:=57) (m:=1) hg1.from_ am Z Z Z J J Z Z (fun _=>Z) (fun ms jS b8 j1 b9=>?_);have hr115':=b9;obtain⟨mt,rfl,ca⟩:=hr115';refine al Z Z (aM aq b8 Z J Z) Z ?_;refine al Z Z (N Z) Z ?_;refine cP (e:=59) (m:=2) ca I Z Z Z J J Z Z (fun _=>Z) (fun mx j2 cb j4 cc=>?_);obtain rfl:=cc;refine mg cb Z Z Z Z (k:=1) J (Nat.le_of_ble_eq_true Z) (fun _=>Z) (fun m0 ce=>?_);refine al Z Z (aM aq ce Z J Z) Z ?_;refine tT aq Z Z (cM (e:=2) (m:=1) (z:=[.int .i64 0]) (cs:=[_,_]) J J J J<|bB Z Z Z Z<|bB Z Z Z Z cj) (fun _=>Z) (fun V b4 aq=>?_);replace aq:=aq.pull (.there .here);replace aq:=aq.pull (.pJ<|fG.here (X:=[_]));refine sL (R:=dG) (m:=1) (e:=2) hO5 aq (eX (xs:=[a4.bX,a4.index]) (.inr ⟨Z,Z⟩) (by simp)) dG.leaf (by have:=oQ hF.f hF.fr i3;have:=zm hf14 q3;simp only[lA_,List.length_cons,List.length_nil];omega) Z Z Z Z Z Z Z Z (fun _=>Z) (fun V m3 m4 hO122 aq=>?_);refine⟨bq,?_⟩;refine al Z Z (aj Z) Z ?_;refine bj ?_;refine aH ?_;refine ad ?_;refine ah Z ?_;refine S Z (N Z) Z ?_;refine S Z (aA Z Z Z) Z ?_;refine S Z (aj Z) Z ?_;refine af ?_;refine aL ⟨i7-1,(by have:=aU ao;omega),(by(iterate 66 refine a8.put Z ?_);exact a8.refl _ _),q3+1,_,_,⟨by have:=aU ao;omega,by rw[fb I,<-lQ_];exact hO122⟩,Z,congrArg (fun z=>some (Y.int .i64 z))<|aZ (by have:=aU ao;omega),aq⟩
  refine bc ?_;refine aP ?_;refine aQ ?_;refine aN ?_;refine aH ?_;refine ad ?_;refine ah Z ?_;refine S Z (N Z) Z ?_;refine S Z (aA Z Z Z) Z ?_;refine S Z (aj Z) Z ?_;refine af ?_;refine aL ⟨ip-1,(by have:=aU ak;omega),(by(iterate 110 refine a8.put Z ?_);exact a8.refl _ _),i3+1,_,_,⟨by have:=aU ak;omega,by rw[fb am,<-lQ_];rw[fS<|bx ao] at hO5;rw[lQ_] at hO5;exact hO5⟩,Z,congrArg (fun z=>some (Y.int .i64 z))<|aZ (by have:=aU ak;have:=hF.f;have:=hF.o;omega),aq⟩
 refine bc ?_;refine aP ?_;refine aQ ?_;refine aN ?_;refine ad ?_;refine ai ?_;refine ah Z ?_;have a5:g.from_.length<=i3:=bx ak;rw[fS a5] at hO4;obtain⟨p4,ch⟩:∃x:List Int,x=p3++g.from_.flatMap jI:=⟨_,Z⟩;rw[<-ch] at hO4;have m5:p4.length<=402:=by rw[ch];have:=oQ hF.f hF.fr i3;rw[fS a5] at this;rw[lA_];omega
 refine S Z (N Z) Z ?_;refine S Z (ax Z (k:=3) J) Z ?_;refine S Z (aw Z (aq.fX C) J Z) Z ?_;refine S Z (aO hg1.order Z Z Z (e:=57) J Z) Z ?_;refine jY aq Z (cM (e:=2) (m:=1) (z:=[.int .i64 0]) (cs:=[_]) J J J J<|bB Z Z Z Z cj) (fun _=>Z) (fun V b3 aq=>?_);replace aq:=aq.pull (.there .here);replace aq:=aq.pull (.pJ<|fG.here (X:=[_]));refine iA (R:=dG) (m:=1) (e:=2) hO4 aq (eX (xs:=[Int.ofNat g.order.length]) (.inr ⟨Z,Z⟩) (by simp)) dG.leaf (by simp;omega) Z Z Z Z Z Z Z (fun _=>Z) (fun V m6 m7 hO128 aq=>?_);refine S Z (aj Z) Z ?_;refine af ?_;refine ad ?_;refine ai ?_;refine ai ?_;refine ah Z ?_;obtain⟨p5,ci⟩:∃x:List Int,x=p4++[Int.ofNat g.order.length]:=⟨_,Z⟩;rw[<-ci] at hO128;have m8:p5.length<=403:=by rw[ci];simp;omega
 refine S Z (aj Z) Z ?_;refine af ?_;refine ad ?_;refine aJ ?_;refine ba [3,10,11,129,130,131,132,133,134,135,136,137,138,139,140,141,142,143,144,145,146,147,148,149,150,151,152,153,154,155,156,157,158,159,160,161,162,163,164,165,166,167,168,169,170,171,172,173,174,175] (fun j t V=>∃(i4:Nat) (u:Y) (M6:Own),(j+i4=g.order.length/\dP 1 2 dG (p5++((g.order.take i4).flatMap jI)) u M6)/\t.get 3=some (u)/\t.get 10=some (.int .i64 (.ofNat i4))/\H V K1 (M6++L)) (g.order.length) ⟨0,_,_,⟨Z,by rw[List.take_zero,List.flatMap_nil,List.append_nil];exact hO128⟩,Z,Z,aq⟩ ?_;clear aq;intro j5 t V an U;obtain⟨i4,u,M6,⟨m9,hO6⟩,A,av,aq⟩:=U;replace an:=an.bR Z Z;obtain⟨W,j6,f0,nd,ne,nl,nm,nn,an⟩:=an;replace an:=an.bR Z Z;obtain⟨no,nx,n0,n1,n2,n3,n4,n5,an⟩:=an;replace an:=an.bR Z Z;obtain⟨n6,n7,n8,f1,f2,f3,f4,f5,an⟩:=an;replace an:=an.bR Z Z;obtain⟨f6,f7,f8,f9,gc,ge,gl,gr,an⟩:=an;replace an:=an.bR Z Z;obtain⟨gs,gt,gv,g2,g3,g4,g5,g6,an⟩:=an;replace an:=an.bR Z Z;obtain⟨g7,g9,ha,hc,hk,hn,ho,hr,an⟩:=an;replace an:=an.eb Z;obtain⟨hs,an⟩:=an;replace an:=an.eb Z;obtain⟨ht,an⟩:=an;obtain rfl:=an.nil;clear an;replace A:W=some _:=A;subst A;replace av:j6=some _:=av;subst av;refine ai ?_;refine ai ?_;refine ah Z ?_;refine S Z (N Z) Z ?_;refine S Z (ax Z (k:=3) J) Z ?_;refine S Z (aw Z (aq.fX C) J Z) Z ?_;refine S Z (aO hg1.order Z Z Z (e:=57) J Z) Z ?_;refine S Z (aA Z Z Z) Z ?_;refine af ?_;refine ad ?_;refine aC Z (fun E=>?_) (fun E=>?_)
 ·refine aG ?_;refine ad ?_;refine ai ?_;refine aJ ?_;refine ai ?_;refine ah Z ?_;obtain⟨od,ap⟩:=cF (aU E);have ho56:=hF.Oc od (gB_ ap);refine S Z (N Z) Z ?_;refine S Z (ax Z (k:=3) J) Z ?_;refine S Z (aw Z (aq.fX C) J Z) Z ?_;refine S Z (N Z) Z ?_;refine bO (e:=57) (m:=1) hg1.order ap Z Z J J Z Z (fun _=>Z) (fun ob j9 ck kc cn=>?_);have hr140':=cn;obtain⟨ol,rfl,cp⟩:=hr140';refine S Z (aM aq ck Z J Z) Z ?_;refine S Z (aO cp Z Z Z (e:=59) J Z) Z ?_;refine jY aq Z (cM (e:=2) (m:=1) (z:=[.int .i64 0]) (cs:=[_]) J J J J<|bB Z Z Z Z cj) (fun _=>Z) (fun V b4 aq=>?_);replace aq:=aq.pull (.there .here);replace aq:=aq.pull (.pJ<|fG.here (X:=[_]));refine iA (R:=dG) (m:=1) (e:=2) hO6 aq (eX (xs:=[Int.ofNat od.length]) (.inr ⟨Z,Z⟩) (by simp)) dG.leaf (by have:=oQ hF.o hF.Oc i4;simp only[lA_,List.length_cons,List.length_nil];omega) Z Z Z Z Z Z Z (fun _=>Z) (fun V on os hO144 aq=>?_);refine S Z (aj Z) Z ?_;refine af ?_;refine ad ?_;refine ai ?_;refine ah Z ?_;refine S Z (aj Z) Z ?_;refine af ?_;refine ad ?_;refine aJ ?_;refine ba [3,11,145,146,147,148,149,150,151,152,153,154,155,156,157,158,159,160,161,162,163,164,165,166,167,168,169,170,171,172,173,174,175] (fun j t V=>∃(q4:Nat) (u:Y) (M7:Own),(j+q4=od.length/\dP 1 2 dG (p5++((g.order.take i4).flatMap jI)++[Int.ofNat od.length]++((od.take q4).flatMap cm.ints)) u M7)/\t.get 3=some (u)/\t.get 11=some (.int .i64 (.ofNat q4))/\H V K1 (M7++L)) (od.length) ⟨0,_,_,⟨Z,by rw[List.take_zero,List.flatMap_nil,List.append_nil];exact hO144⟩,Z,Z,aq⟩ ?_;clear aq;intro kd t V an U;obtain⟨q4,u,M7,⟨ov,hO7⟩,A,aE,aq⟩:=U;replace an:=an.bR Z Z;obtain⟨W,f0,f1,f2,f3,f4,f5,f6,an⟩:=an;replace an:=an.bR Z Z;obtain⟨f7,f8,f9,gc,ge,gl,gr,gs,an⟩:=an;replace an:=an.bR Z Z;obtain⟨gt,gv,g2,g3,g4,g5,g6,g7,an⟩:=an;replace an:=an.bR Z Z;obtain⟨g9,ha,hc,hk,hn,ho,hr,hs,an⟩:=an;replace an:=an.eb Z;obtain⟨ht,an⟩:=an;obtain rfl:=an.nil;clear an;replace A:W=some _:=A;subst A;replace aE:f0=some _:=aE;subst aE;refine ai ?_;refine ai ?_;refine ah Z ?_;refine S Z (N Z) Z ?_;refine S Z (ax Z (k:=3) J) Z ?_;refine S Z (aw Z (aq.fX C) J Z) Z ?_;refine S Z (N Z) Z ?_;refine bO (e:=57) (m:=1) hg1.order ap Z Z J J Z Z (fun _=>Z) (fun o0 kk cr kl cv=>?_);have hr149':=cv;obtain⟨o1,rfl,cw⟩:=hr149';refine S Z (aM aq cr Z J Z) Z ?_;refine S Z (aO cw Z Z Z (e:=59) J Z) Z ?_;refine S Z (aA Z Z Z) Z ?_;refine af ?_;refine ad ?_;refine aC Z (fun F=>?_) (fun F=>?_)
  ·refine aG ?_;refine ad ?_;refine ai ?_;refine aJ ?_;refine aX (l:=[(0,[]),(1,[]),(2,[]),(3,[]),(4,[]),(5,[]),(6,[]),(7,[]),(8,[]),(9,[]),(10,[]),(11,[]),(12,[]),(13,[]),(14,[]),(15,[]),(16,[]),(17,[]),(18,[]),(19,[]),(20,[]),(21,[])]) J J ?_;refine al Z Z (N Z) Z ?_;refine al Z Z (ax Z (k:=3) J) Z ?_;refine al Z Z (aw Z (aq.fX C) J Z) Z ?_;refine al Z Z (N Z) Z ?_;refine cP (e:=57) (m:=1) hg1.order ap Z Z Z J J Z Z (fun _=>Z) (fun o2 kn cx ko c0=>?_);have hr159':=c0;obtain⟨pa,rfl,c1⟩:=hr159';refine al Z Z (aM aq cx Z J Z) Z ?_;refine al Z Z (N Z) Z ?_;obtain⟨a9,Q,ks⟩:=cO F;refine cP (e:=59) (m:=2) c1 Q Z Z Z J J Z Z (fun _=>Z) (fun pc kt c2 kw c3=>?_);obtain rfl:=c3;refine mg c2 Z Z Z Z (k:=0) J (Nat.le_of_ble_eq_true Z) (fun _=>Z) (fun pi c4=>?_);refine al Z Z (aM aq c4 Z J Z) Z ?_;refine al Z Z (ax Z (k:=3) J) Z ?_;refine al Z Z (aw Z (aq.fX C) J Z) Z ?_;refine al Z Z (N Z) Z ?_;refine cP (e:=57) (m:=1) hg1.order ap Z Z Z J J Z Z (fun _=>Z) (fun pl kR c5 k0 c7=>?_);have hr168':=c7;obtain⟨pn,rfl,c8⟩:=hr168';refine al Z Z (aM aq c5 Z J Z) Z ?_;refine al Z Z (N Z) Z ?_;refine cP (e:=59) (m:=2) c8 Q Z Z Z J J Z Z (fun _=>Z) (fun po k1 c9 k2 dd=>?_);obtain rfl:=dd;refine mg c9 Z Z Z Z (k:=1) J (Nat.le_of_ble_eq_true Z) (fun _=>Z) (fun pp df=>?_);refine al Z Z (aM aq df Z J Z) Z ?_;refine tT aq Z Z (cM (e:=2) (m:=1) (z:=[.int .i64 0]) (cs:=[_,_]) J J J J<|bB Z Z Z Z<|bB Z Z Z Z cj) (fun _=>Z) (fun V b5 aq=>?_);replace aq:=aq.pull (.there .here);replace aq:=aq.pull (.pJ<|fG.here (X:=[_]));refine sL (R:=dG) (m:=1) (e:=2) hO7 aq (eX (xs:=[a9.bX,a9.index]) (.inr ⟨Z,Z⟩) (by simp)) dG.leaf (by have:=oQ hF.o hF.Oc i4;have:=zm ho56 q4;simp only[lA_,List.length_cons,List.length_nil];omega) Z Z Z Z Z Z Z Z (fun _=>Z) (fun V pq pr hO175 aq=>?_);refine⟨bq,?_⟩;refine al Z Z (aj Z) Z ?_;refine bj ?_;refine aH ?_;refine ad ?_;refine ah Z ?_;refine S Z (N Z) Z ?_;refine S Z (aA Z Z Z) Z ?_;refine S Z (aj Z) Z ?_;refine af ?_;refine aL ⟨kd-1,(by have:=aU F;omega),(by(iterate 66 refine a8.put Z ?_);exact a8.refl _ _),q4+1,_,_,⟨by have:=aU F;omega,by rw[fb Q,<-lQ_];exact hO175⟩,Z,congrArg (fun z=>some (Y.int .i64 z))<|aZ (by have:=aU F;omega),aq⟩
  refine bc ?_;refine aP ?_;refine aQ ?_;refine aN ?_;refine aH ?_;refine ad ?_;refine ah Z ?_;refine S Z (N Z) Z ?_;refine S Z (aA Z Z Z) Z ?_;refine S Z (aj Z) Z ?_;refine af ?_;refine aL ⟨j5-1,(by have:=aU E;omega),(by(iterate 110 refine a8.put Z ?_);exact a8.refl _ _),i4+1,_,_,⟨by have:=aU E;omega,by rw[fb ap,<-lQ_];rw[fS<|bx F] at hO7;rw[lQ_] at hO7;exact hO7⟩,Z,congrArg (fun z=>some (Y.int .i64 z))<|aZ (by have:=aU E;have:=hF.f;have:=hF.o;omega),aq⟩
 refine bc ?_;refine aP ?_;refine aQ ?_;refine aN ?_;refine ad ?_;refine ai ?_;refine ah Z ?_;have bb:g.order.length<=i4:=bx E;rw[fS bb] at hO6;obtain⟨p6,dk⟩:∃x:List Int,x=p5++g.order.flatMap jI:=⟨_,Z⟩;rw[<-dk] at hO6;have ps:p6.length<=1081:=by rw[dk];have:=oQ hF.o hF.Oc i4;rw[fS bb] at this;rw[lA_];omega
 refine S Z (N Z) Z ?_;refine S Z (ax Z (k:=0) J) Z ?_;refine S Z (aw Z (aq.fX C) J Z) Z ?_;refine S Z (aO hg1.init Z Z Z (e:=2) J Z) Z ?_;refine jY aq Z (cM (e:=2) (m:=1) (z:=[.int .i64 0]) (cs:=[_]) J J J J<|bB Z Z Z Z cj) (fun _=>Z) (fun V b4 aq=>?_);replace aq:=aq.pull (.there .here);replace aq:=aq.pull (.pJ<|fG.here (X:=[_]));refine iA (R:=dG) (m:=1) (e:=2) hO6 aq (eX (xs:=[Int.ofNat g.init.length]) (.inr ⟨Z,Z⟩) (by simp)) dG.leaf (by simp;omega) Z Z Z Z Z Z Z (fun _=>Z) (fun V pt pu hO181 aq=>?_);refine S Z (aj Z) Z ?_;refine af ?_;refine ad ?_;refine ai ?_;refine ah Z ?_;refine S Z (N Z) Z ?_;refine S Z (ax Z (k:=0) J) Z ?_;refine S Z (aw Z (aq.fX C) J Z) Z ?_;refine My (R:=dG) (m:=1) (e:=2) hO181 aq hg1.init dG.leaf (by have:=hF.i;simp;omega) Z Z Z Z Z Z Z (fun _=>Z) (fun V pv hu hO185 aq=>?_);refine S Z (aj Z) Z ?_;refine af ?_;refine ad ?_;refine aD ?_;exact ay Z Z ⟨hu,by have e:=hO185;rw[dk,ci,ch,bm,bl,be] at e;unfold lh;simpa only[lQ_,List.append_nil] using e,aq.weaken a0⟩
theorem zq {A B_:List Int} {i:Nat} {x y:Int} (hx:A[i]? =some x) (hy:B_[i]? =some y):zn (A.drop i) (B_.drop i)=bif bD (eh x y) 0 then zn (A.drop (i+1)) (B_.drop (i+1)) else eh x y:=by
 rw[cD hx,cD hy];rfl
theorem A8 {A B_:List Int} {i:Nat} (h:A.length<=i∨B_.length<=i):zn (A.drop i) (B_.drop i)=0:=by
 rcases h with h | h
 ·rw[List.drop_of_length_le h];rfl
 rw[List.drop_of_length_le h];cases A.drop i<;>rfl
theorem JY {x y:Int} (h:da x y=true):eh x y= -1:=by unfold eh;rw[h];rfl
theorem JX {x y:Int} (h:da y x=true):eh x y=1:=by
 have b:da x y=false:=by rw[eP] at h⊢;simp at h⊢;omega
 unfold eh;rw[h,b];rfl
theorem FD {x y:Int} (h1:da x y=false) (b:da y x=false):eh x y=0:=by unfold eh;rw[h1,b];rfl
theorem Gl {G:Cx} (hG:Plain G) {K:KP} {g1 U:XG} {a1 b1 c1 d1 a2 b2 c2 d2:Y} (h1:dC K g1 a1 b1 c1 d1) (W:dC K U a2 b2 c2 d2) (hR1:dy g1) (hR2:dy U) {V:B} {L:Own} (aq:H V K L):
  aT Tryz.prog G 59 [.agg [a1,b1,c1,d1],.agg [a2,b2,c2,d2]] V fun v V'=>v= .int .i64 (dD g1 U)/\H V' K L:=by
 refine aW hG Tryz.func59 Z (t:=(D.leaf.put (some (.agg [a1,b1,c1,d1])) 0).put (some (.agg [a2,b2,c2,d2])) 1) (by rfl) ?_;refine ai ?_;refine ah Z ?_;refine bH aq Z (cL Z Z) (fun _=>Z) (fun V b1 aq=>?_);refine bH aq Z (cL Z Z) (fun _=>Z) (fun V b2 aq=>?_);refine S Z (aj Z) Z ?_;refine af ?_;refine ad ?_;refine ai ?_;refine aX (l:=[(0,[]),(2,[]),(1,[2]),(3,[]),(4,[]),(5,[])]) J J ?_;refine al Z Z (bA Z (aq.get 1 Z) (n:=4) (vs:=[_,_,_,_]) J (Nat.le_of_ble_eq_true Z) Z) Z ?_;refine al Z Z (bA Z (aq.get 0 Z) (n:=4) (vs:=[_,_,_,_]) J (Nat.le_of_ble_eq_true Z) Z) Z ?_;refine fl Z Z (aR Z Z Z J) (fun _=>Z) (yw hG hR1 h1 aq) ?_;rintro u9 V ⟨M9,hO9,aq⟩;refine⟨(aV (a7 Z Z Z Z Z (bA Z (aq.gw.get 0 Z) (n:=4) (vs:=[_,_,_,_]) J (Nat.le_of_ble_eq_true Z) Z)<|qW<|dM W.init.na<|dM W.threads.na<|dM W.from_.na<|dM W.order.na nq) bq),?_⟩;refine fl Z Z (aR Z Z Z J) (fun _=>Z) (yw hG hR2 W aq) ?_;rintro bi V ⟨au,hO11,aq⟩;refine⟨bq,?_⟩;refine al Z Z (aj Z) Z ?_;refine al Z Z (aj Z) Z ?_;refine bj ?_;refine ad ?_;refine ai ?_;refine ai ?_;refine ah Z ?_;obtain⟨K1,A,b,aq⟩:=aq.eA (M:=au);have hn11:=hO11.lJ (K:=K1) b;clear b;obtain⟨K2,d,b,aq⟩:=aq.eA (M:=M9);have hn9:=hO9.lJ (K:=K2) b;have hn11:=hn11.mono d fun _ _ h=>h;clear b
 refine S Z (aj Z) Z ?_;refine af ?_;refine ad ?_;refine aJ ?_;obtain⟨LL1,aq,hLL1⟩:=aq.named;refine ba [4,7,12,13,14,15,16,17,18,19,20,21,22,23,24,25,26,27,28,29,30,31,32,33,34,35,36,37,38,39,40,41] (fun j t V=>∃(i:Nat),(j+i=(lh g1).length/\zn (lh g1) (lh U)=zn ((lh g1).drop i) ((lh U).drop i))/\t.get 7=some (.int .i64 (.ofNat i))/\H V K2 LL1) ((lh g1).length) ⟨0,⟨Z,Z⟩,Z,aq⟩ ?_;clear aq;intro j3 t V an hI;obtain⟨i,⟨bk,u⟩,F,aq⟩:=hI;subst hLL1;replace an:=an.bR Z Z;obtain⟨o4,o7,bl,bm,bo,bs,bt,bv,an⟩:=an;replace an:=an.bR Z Z;obtain⟨bw,bX,b0,b3,b4,b5,b6,b7,an⟩:=an;replace an:=an.bR Z Z;obtain⟨b8,b9,ca,cb,cc,ce,ch,ci,an⟩:=an;replace an:=an.bR Z Z;obtain⟨ck,cn,cp,cr,cs,cv,cw,cx,an⟩:=an;obtain rfl:=an.nil;clear an;replace F:o7=some _:=F;subst F;refine ai ?_;refine ai ?_;refine ah Z ?_;refine S Z (N Z) Z ?_;refine S Z (N Z) Z ?_;refine S Z (aO hn9 Z Z Z (e:=2) J Z) Z ?_;refine S Z (aA Z Z Z) Z ?_;refine bg Z (N Z) (fun _=>Z) (fun I=>?_) (fun I=>?_)
 ·refine S Z (N Z) Z ?_;refine S Z (N Z) Z ?_;refine S Z (aO hn11 Z Z Z (e:=2) J Z) Z ?_;refine S Z (aA Z Z Z) Z ?_;refine S Z (aI Z Z) Z ?_;refine af ?_;refine ad ?_;refine aC Z (fun Q=>?_) (fun Q=>?_)
  ·refine aG ?_;refine ad ?_;refine ai ?_;refine aJ ?_;refine ai ?_;refine ai ?_;refine aX (l:=[(0,[]),(1,[]),(2,[]),(3,[]),(4,[]),(5,[]),(6,[]),(7,[]),(8,[])]) J J ?_;refine al Z Z (N Z) Z ?_;refine al Z Z (N Z) Z ?_;have av:i<(lh g1).length:=aU I;have aE:i<(lh U).length:=aU Q;obtain⟨c0,C⟩:=cF av;obtain⟨c3,E⟩:=cF aE;refine cP (e:=2) (m:=1) hn9 C Z Z Z J J Z Z (fun _=>Z) (fun c4 a0 X a3 aa=>?_);obtain rfl:=aa;refine al Z Z (aM aq X Z J Z) Z ?_;refine al Z Z (N Z) Z ?_;refine al Z Z (N Z) Z ?_;refine cP (e:=2) (m:=1) hn11 E Z Z Z J J Z Z (fun _=>Z) (fun c5 a4 ab a5 ac=>?_);obtain rfl:=ac;refine al Z Z (aM aq ab Z J Z) Z ?_;refine al Z Z (aA Z Z Z) Z ?_;refine bj ?_;refine ad ?_;refine aC Z (fun R=>?_) (fun R=>?_)
   ·refine ai ?_;refine ah Z ?_;refine S Z (aj Z) Z ?_;refine af ?_;refine ad ?_;refine aD ?_;refine az<|aK<|az<|bp<|aK<|az (?_);exact ay Z Z ⟨by rw[<-zo,u,zq C E,JY R];rfl,(aq.pop.pop).weaken<|KP.le_trans A d⟩
   refine aG ?_;refine ad ?_;refine ai ?_;refine aX (l:=[(0,[]),(1,[]),(2,[]),(3,[]),(4,[]),(5,[]),(6,[]),(7,[]),(8,[])]) J J ?_;refine al Z Z (N Z) Z ?_;refine al Z Z (N Z) Z ?_;have hx35:=C;have hx39:=E;refine cP (e:=2) (m:=1) hn9 hx35 Z Z Z J J Z Z (fun _=>Z) (fun c7 a9 ak bb am=>?_);obtain rfl:=am;refine al Z Z (aM aq ak Z J Z) Z ?_;refine al Z Z (N Z) Z ?_;refine al Z Z (N Z) Z ?_;refine cP (e:=2) (m:=1) hn11 hx39 Z Z Z J J Z Z (fun _=>Z) (fun c8 bd ao be ap=>?_);obtain rfl:=ap;refine al Z Z (aM aq ao Z J Z) Z ?_;refine al Z Z (aA Z Z Z) Z ?_;refine bj ?_;refine ad ?_;refine aC Z (fun T=>?_) (fun T=>?_)
   ·refine ai ?_;refine ah Z ?_;refine S Z (aj Z) Z ?_;refine af ?_;refine ad ?_;refine aD ?_;refine aK<|az<|bp<|aK<|az (?_);exact ay Z Z ⟨by rw[<-zo,u,zq hx35 hx39,JX T];rfl,(aq.pop.pop).weaken<|KP.le_trans A d⟩
   refine aG ?_;refine aH ?_;refine ad ?_;refine ah Z ?_;refine S Z (N Z) Z ?_;refine S Z (aA Z Z Z) Z ?_;refine S Z (aj Z) Z ?_;refine af ?_;refine aL ⟨j3-1,oM,(by(iterate 63 refine a8.put Z ?_);exact a8.refl _ _),i+1,⟨by omega,by rw[u,zq C E,FD R T];rfl⟩,congrArg (fun z=>some (Y.int .i64 z))<|aZ (by have:=hn9.bM;omega),aq⟩
  refine bc ?_;refine aP ?_;refine aQ ?_;refine aN ?_;refine ad ?_;refine ai ?_;refine ah Z ?_;refine S Z (aj Z) Z ?_;refine af ?_;refine ad ?_;refine aD ?_;exact ay Z Z ⟨by rw[<-zo,u,A8 (.inr<|bx Q)],(aq.pop.pop).weaken<|KP.le_trans A d⟩
 refine ae Z Z ?_;refine ae Z Z ?_;refine ae Z Z ?_;refine ae Z Z ?_;refine S Z (aI Z Z) Z ?_;refine af ?_;refine ad ?_;refine bf Z ?_;refine bc ?_;refine aP ?_;refine aQ ?_;refine aN ?_;refine ad ?_;refine ai ?_;refine ah Z ?_;refine S Z (aj Z) Z ?_;refine af ?_;refine ad ?_;refine aD ?_;exact ay Z Z ⟨by rw[<-zo,u,A8 (.inl<|bx I)],(aq.pop.pop).weaken<|KP.le_trans A d⟩
theorem EU {G:Cx} (M:Plain G) {K:KP} {g1 m:XG} {u b A C E d F I:Y} (h1:dC K g1 u b A C) (Q:dC K m E d F I) (hR1:dy g1) (hR2:dy m) {V:B} {L:Own} (aq:H V K L):
  aT Tryz.prog G 28 [.agg [u,b,A,C],.agg [E,d,F,I]] V fun v V'=>v= .bool (bD (dD g1 m) 0)/\H V' K L:=by
 refine aW M Tryz.func28 Z (t:=(D.leaf.put (some (.agg [u,b,A,C])) 0).put (some (.agg [E,d,F,I])) 1) (by rfl) ?_;refine ai ?_;refine ah Z ?_;refine bH aq Z (cL Z Z) (fun _=>Z) (fun V b aq=>?_);refine bH aq Z (cL Z Z) (fun _=>Z) (fun V d aq=>?_);refine S Z (aj Z) Z ?_;refine af ?_;refine ad ?_;refine ai ?_;refine ah Z ?_;refine S Z (bA Z (aq.get 1 Z) (n:=4) (vs:=[_,_,_,_]) J (Nat.le_of_ble_eq_true Z) Z) Z ?_;refine S Z (bA Z (aq.get 0 Z) (n:=4) (vs:=[_,_,_,_]) J (Nat.le_of_ble_eq_true Z) Z) Z ?_;refine bh Z (aR Z Z Z J) (fun _=>Z) (Gl M h1 Q hR1 hR2 aq) (fun V aq=>?_);refine S Z (aA Z Z Z) Z ?_;refine S Z (aj Z) Z ?_;refine af ?_;refine ad ?_;refine aD ?_;exact ay Z Z ⟨Z,aq.pop.pop⟩
theorem Fi {G:Cx} (W:Plain G) {K:KP} {ls:List XG} {v:Y} (h:bI K 4 (RG K) ls v) (T:∀x∈ls,dy x) {g:XG} {a b c d:Y} (X:dC K g a b c d) (hR:dy g) {V:B} {L:Own} (aq:H V K L):
  aT Tryz.prog G 29 [v,.agg [a,b,c,d]] V fun u V'=>(∃q,u= .bool q/\(q=true↔g∈ls))/\H V' K L:=by
 refine aW W Tryz.func29 Z (t:=(D.leaf.put (some (v)) 0).put (some (.agg [a,b,c,d])) 1) (by rfl) ?_;refine ai ?_;refine ah Z ?_;refine bH aq Z (cL Z Z) (fun _=>Z) (fun V b1 aq=>?_);refine S Z (aj Z) Z ?_;refine af ?_;refine ad ?_;refine ai ?_;refine ai ?_;refine ah Z ?_;refine S Z (aj Z) Z ?_;refine af ?_;refine ad ?_;refine aJ ?_;obtain⟨LL1,aq,hLL1⟩:=aq.named;refine ba [4,5,6,7,8,9,10,11,12,13,14,15,16,17] (fun j t V=>∃(i:Nat),(j+i=ls.length/\g∉ls.take i)/\t.get 5=some (.int .i64 (.ofNat i))/\H V K LL1) (ls.length) ⟨0,⟨Z,by rw[List.take_zero];exact List.not_mem_nil⟩,Z,aq⟩ ?_;clear aq;intro j2 t V an hI;obtain⟨i,⟨ak,F⟩,C,aq⟩:=hI;subst hLL1;replace an:=an.bR Z Z;obtain⟨o4,o5,o6,o7,o8,o9,am,ao,an⟩:=an;replace an:=an.r4 Z;obtain⟨ap,au,av,aE,an⟩:=an;replace an:=an.eb Z;obtain⟨a0,an⟩:=an;replace an:=an.eb Z;obtain⟨a1,an⟩:=an;obtain rfl:=an.nil;clear an;replace C:o5=some _:=C;subst C;refine ai ?_;refine ai ?_;refine ah Z ?_;refine S Z (N Z) Z ?_;refine S Z (N Z) Z ?_;refine S Z (aO h Z Z Z (e:=27) J Z) Z ?_;refine S Z (aA Z Z Z) Z ?_;refine af ?_;refine ad ?_;refine aC Z (fun I=>?_) (fun I=>?_)
 ·refine aG ?_;refine ad ?_;refine ai ?_;refine aJ ?_;refine ai ?_;refine aX (l:=[(0,[]),(1,[]),(2,[]),(3,[]),(4,[]),(5,[])]) J J ?_;refine al Z Z (N Z) Z ?_;refine al Z Z (N Z) Z ?_;obtain⟨U,A,aa⟩:=cO I;refine cP (e:=27) (m:=4) h A Z Z Z J J Z Z (fun _=>Z) (fun a2 ab M ac Q=>?_);have hr14':=Q;obtain⟨a3,a4,pQ,a5,rfl,R⟩:=hr14';refine al Z Z (bC aq M Z J Z) Z ?_;refine al Z Z (bA Z (aq.get 0 Z) (n:=4) (vs:=[_,_,_,_]) J (Nat.le_of_ble_eq_true Z) Z) Z ?_;refine fe Z Z (aR Z Z Z J) (fun _=>Z) (EU W R X (T U<|gB_ A) hR aq) (fun V aq=>?_);refine⟨bq,?_⟩;refine bj ?_;refine ad ?_;refine aC Z (fun E=>?_) (fun E=>?_)
  ·refine ai ?_;refine ah Z ?_;refine S Z (aj Z) Z ?_;refine af ?_;refine ad ?_;refine aD ?_;refine aK<|az<|bp<|aK<|az (?_);exact ay Z Z ⟨⟨_,Z,fun _=>by rw[<-qZ (mz E)];exact gB_ A,fun _=>Z⟩,aq.pop⟩
  refine aG ?_;refine aH ?_;refine ad ?_;refine ah Z ?_;refine S Z (N Z) Z ?_;refine S Z (aA Z Z Z) Z ?_;refine S Z (aj Z) Z ?_;refine af ?_;refine aL ⟨j2-1,(by have:=aU I;omega),(by(iterate 27 refine a8.put Z ?_);exact a8.refl _ _),i+1,⟨by have:=aU I;omega,by rw[dh A];intro hm;rcases List.mem_append.1 hm with hm | hm;exact F hm;exact mA E (by rw[<-List.mem_singleton.1 hm];exact oB _)⟩,congrArg (fun z=>some (Y.int .i64 z))<|aZ (by have:=h.bM;omega),aq⟩
 refine bc ?_;refine aP ?_;refine aQ ?_;refine aN ?_;refine ad ?_;refine ai ?_;refine ah Z ?_;refine S Z (aj Z) Z ?_;refine af ?_;refine ad ?_;refine aD ?_;exact ay Z Z ⟨⟨_,Z,fun h=>absurd h (by decide),fun hm=>absurd (by rw[fS<|bx I];exact hm) F⟩,aq.pop⟩
end Go.Ev
namespace Go.Ev
variable [Env]
abbrev SM:=List (List Nat×Int)
inductive ic:List dU->SM->Prop
 | nil:ic [] []
 | cons {e:dU} {k:List Nat} {v:Int} {es:List dU} {m:SM}:e.key= .str k->e.val= .int .i64 v->ic es m->ic (e::es) ((k,v)::m)
def og:SM->List Nat->Nat->Option (Nat×Int)
 | [],_,_=>none
 | (k',v)::m,k,i=>if k=k' then some (i,v) else og m k (i+1)
theorem yb:∀{m:SM} {k:List Nat} {i:Nat},og m k i=none↔∀x∈m,x.1≠k
 | [],k,i=>by simp[og]
 | (k',v)::m,k,i=>by
  unfold og
  by_cases h:k=k'
  ·simp[h]
  rw[if_neg h,yb];simp only[mQ_,forall_eq_or_imp];exact⟨fun hh=>⟨fun e=>h e.symm,hh⟩,fun hh=>hh.2⟩
theorem ic.snoc {es:List dU} {m:SM} (h:ic es m) {e:dU} {k:List Nat} {v:Int} (u:e.key= .str k) (A:e.val= .int .i64 v):ic (es++[e]) (m++[(k,v)]):=by
 induction h with
 | nil=>exact .cons u A .nil
 | cons b c d ih=>exact .cons b c ih
section
variable {P:Program} {G:Cx} {ev:Operand->Option Y} {V:B}
theorem xK {t:TypeId} (hu:P.underlying t=some .string) {k:List Nat} {es:List dU} {m:SM} (h:ic es m):∀i,kX P t (.str k) es i=some ((og m k i).map fun x=>(x.1,.int .i64 x.2)):=by
 induction h with
 | nil=>intro i;rfl
 | @cons e k' v es m b c d ih=>
  intro i
  have hq:kB P t (.str k) e.key=some (decide (k=k')):=by
   unfold kB;rw[hu,b];dsimp only;rw[qC]
  show(match kB P t (.str k) e.key with
   | some true=>some (some (i,e.val))
   | some false=>kX P t (.str k) es (i+1)
   | none=>none)=_
  rw[hq];unfold og
  by_cases hk:k=k'
  ·rw[decide_eq_true hk,if_pos hk];simp[c]
  rw[decide_eq_false hk,if_neg hk];exact ih (i+1)
structure sX (P:Program) (t kt et:TypeId):Prop where
 ty:P.underlying t=some (.map kt et)
 str:P.underlying kt=some .string
 zero:ew P et=some (.int .i64 0)
theorem sX.plain {t kt et:TypeId} (h:sX P t kt et):plainKey P kt=true:=by unfold plainKey;rw[h.str]
theorem sX.shape {t kt et:TypeId} (h:sX P t kt et) (k:List Nat):iv P kt (.str k)=true:=by unfold iv;rw[h.str]
theorem GW {t kt et:TypeId} (d:sX P t kt et) {b:Nat} {es:List dU} {ck:Nat} {m:SM} (hm:ic es m) (hb:V.m.get b=some (.map es ck)) {mo ko:Operand} {k:List Nat} (h1:ev mo=some (.map b)) (u:ev ko=some (.str k)):
  dq P G ev V (.lookup t mo ko true)= .val (.tuple [.int .i64 (((og m k 0).map (·.2)).getD 0),.bool (og m k 0).isSome]) V:=by
 have hf:=xK d.str (k:=k) hm 0;refine ot Z ?_;simp only[eE,d.ty,u,h1,hb,d.plain,d.shape k,Bool.and_self,cond_true,hf,d.zero];cases og m k 0 with
 | none=>rfl
 | some x=>rfl
theorem GX {t kt et:TypeId} (d:sX P t kt et) {b:Nat} {es:List dU} {ck:Nat} {m:SM} (hm:ic es m) (hb:V.m.get b=some (.map es ck)) {mo ko xo:Operand} {k:List Nat} {v:Int} (u:og m k 0=none) (h1:ev mo=some (.map b)) (A:ev ko=some (.str k)) (C:ev xo=some (.int .i64 v)):
  ∃es' ck',dq P G ev V (.mapUpdate t mo ko xo)= .skip (V.setObj b (.map es' ck'))/\ic es' (m++[(k,v)]):=by
 have hf:=xK d.str (k:=k) hm 0
 have key:∃es' ck',jn P V t (.map b) (.str k) (.int .i64 v)=some (V.setObj b (.map es' ck'))/\ic es' (m++[(k,v)]):=by
  unfold jn;rw[d.ty];dsimp only;rw[hb];dsimp only;rw[d.plain,d.shape k];simp only[Bool.and_self,cond_true];rw[hf,u];exact⟨_,_,Z,by rw[dv];exact hm.snoc Z Z⟩
 obtain⟨es',ck',h4,h5⟩:=key;refine⟨es',ck',gz Z ?_,h5⟩;simp only[eO,h1,A,C,h4]
end
section
variable {P:Program} {G:Cx} {n:Nat} {t:D Y} {V:B} {K:KP} {L:Own} {Q:Ex->D Y->B->Prop} {ops:Array Oper} {o:Oper} {l:List Oper}
theorem Dq {ty kt et:TypeId} (u:sX P ty kt et) {b:Nat} {es:List dU} {ck:Nat} {m:SM} (hm:ic es m) (d:H V K ((b,.map es ck)::L)) {mo ko xo:Operand} {k:List Nat} {v:Int} {t':D Y} (A:og m k 0=none) (hw:bu ops t o=some true) (C:o.op= .mapUpdate ty mo ko xo)
  (h1:aY G t mo=some (.map b)) (E:aY G t ko=some (.str k)) (F:aY G t xo=some (.int .i64 v)) (hp:dc t n o.dst unit=some t')
  (h:∀V' es' ck',H V' K ((b,.map es' ck')::L)->ic es' (m++[(k,v)])->bG P G ops n l t' V' Q):bG P G ops n (o::l) t V Q:=by
 obtain⟨es',ck',e1,e2⟩:=GX (G:=G) u hm (d.get 0 Z) A h1 E F;exact mC hw (by rw[C];exact e1) hp<|h _ _ _ (d.wz _) e2
end
theorem C8 {α:Type} {c:α->α->Int} (h:qO c fun _=>True) {l fs:List α} (sz:α->Int) (hn:fs.Nodup) (hm:∀z,z∈fs↔z∈l) {s:List (α×Int)} (h1:s.Perm (fs.map fun x=>(x,sz x))) (C:s.Pairwise fun a b=>decide (c b.1 a.1<0)=false):
  s=(oh c l).map fun x=>(x,sz x):=by
 have E:∀a∈s,a=(a.1,sz a.1):=fun a m=>by
  obtain⟨x,_,rfl⟩:=List.mem_map.1 (h1.mem_iff.1 m);rfl
 have e1:s=(s.map Prod.fst).map fun x=>(x,sz x):=by
  rw[List.map_map]
  conv=>lhs;rw[<-List.map_id s]
  exact List.map_congr_left fun a m=>E a m
 have hp:(s.map Prod.fst).Perm fs:=by
  have:=h1.map Prod.fst;rwa[List.map_map,show(Prod.fst ∘ fun x:α=>(x,sz x))=id from Z,List.map_id] at this
 have u:(s.map Prod.fst).Nodup:=hp.nodup_iff.2 hn;have F:(s.map Prod.fst).Pairwise fun x y=>¬c y x<0:=List.pairwise_map.2 (C.imp fun {a b} A=>of_decide_eq_false A)
 have hi:r5 c (s.map Prod.fst):=by
  refine(List.Pairwise.and u F).imp fun {x y} d=>?_
  have h0:c x y≠0:=fun e=>d.1 ((h.zero x y trivial trivial).1 e)
  have hn:=d.2;refine(h.neg x y trivial trivial).2 ?_;have aa:c y x≠0:=fun e=>d.1 ((h.zero y x trivial trivial).1 e).symm
  omega
 obtain⟨G,I⟩:=kM h (l:=l) fun _ _=>trivial
 rw[e1,k9 h (fun _ _=>trivial) (fun _ _=>trivial) hi G fun z=>by rw[hp.mem_iff,hm,I]]
def AH (l:List XC):List XG->Int
 | []=>0
 | g::gs=>if eC l g=0 then AH l gs else eC l g
def xf (l:List XC) (gs:List XG):Int:=if 4<l.length then 3 else AH l gs
def jc (l:List XC) (gs:List XG):List XG:=if xf l gs=0 then oh dD (gs.map<|dI l) else []
def zC (l:List XC) (gs:List XG):List Int:=(jc l gs).map fun x=>Int.ofNat (fu l x).length
theorem J1 {l:List XC} {gs:List XG} {i:Nat} {g:XG} (h:gs[i]? =some g):AH l (gs.drop i)=if eC l g=0 then AH l (gs.drop (i+1)) else eC l g:=by
 rw[cD h];rfl
theorem EJ {l:List XC} {g:XG} (h4:l.length<=4) (b:dy g) (hl:l.length=g.threads.length):eC l g=0:=by
 unfold eC;rw[if_neg oM,if_neg (fun h=>h.elim (fun h=>h (eK.2 b)) (fun h=>h hl))]
theorem me {l:List XC} {g x:XG} (h:eC l g=0) (b:r8 g) (hx:x∈fu l g):dy x/\x.threads.length=l.length/\r8 x/\eC l x=0/\fu l x=fu l g:=by
 obtain⟨hO,h4⟩:=ry h;rw[ji h] at hx;have hin:=(jk hO).1 hx;have hR:=hin.right hO.right;have hl:l.length=x.threads.length:=by rw[hin.len];exact hO.len
 have hE:=EJ h4 hR hl;refine⟨hR,hl.symm,?_,hE,?_⟩
 ·obtain⟨p,q,_,_,rfl⟩:=hin;exact b.mv p q
 rw[ji hE,ji h];exact mf hO hin
theorem FZ {l:List XC} {g:XG} (h:eC l g=0):dI l g∈fu l g:=gB_ (l9 h)
theorem lf {l:List XC} {g:XG} (h:eC l g=0) (b:r8 g):dy (dI l g)/\(dI l g).threads.length=l.length/\r8 (dI l g)/\eC l (dI l g)=0/\fu l (dI l g)=fu l g:=me h b (FZ h)
def JB (K:KP) (p:XG×Int) (vs:List Y):Prop:=∃a b c d,vs= [a,b,c,d,.int .i64 p.2]/\dC K p.1 a b c d
theorem JB.mono {K K':KP} (hk:KP.le K K') {p:XG×Int} {vs:List Y} (h:JB K p vs):JB K' p vs:=by
 obtain⟨a,b,c,d,h1,m⟩:=h;exact⟨a,b,c,d,h1,m.mono hk⟩
theorem JB.leaf {K:KP} (p:XG×Int) (vs:List Y) (h:JB K p vs):bJ vs=true:=by
 obtain⟨a,b,c,d,rfl,m⟩:=h;exact ar m.init.leaf.2<|ar m.threads.leaf.2<|ar m.from_.leaf.2<|ar m.order.leaf.2<|ar Z aS
def Na (l:List XC) (x:XG):Int:=Int.ofNat (fu l x).length
def sx (l:List XC) (fs:List XG):List (XG×Int):=fs.map fun x=>(x,Na l x)
structure Lq (l:List XC) (gs:List XG) (fs:List XG):Prop where
 nd:fs.Nodup
 mem:∀z,z∈fs↔z∈gs.map (dI l)
 len:fs.length<=gs.length
theorem Lq.mb {l:List XC} {gs fs:List XG} {g:XG} (h:Lq l gs fs) (hm:dI l g∈fs):Lq l (gs++[g]) fs:=⟨h.nd,fun z=>by
 rw[List.map_append,List.mem_append,<-h.mem];exact⟨.inl,fun hz=>hz.elim id fun hz=>by rw[List.mem_singleton.1 hz];exact hm⟩,by rw[lA_];have:=h.len;omega⟩
theorem Lq.new {l:List XC} {gs fs:List XG} {g:XG} (h:Lq l gs fs) (hm:dI l g∉fs):Lq l (gs++[g]) (fs++[dI l g]):=by
 refine⟨List.nodup_append.2 ⟨h.nd,List.nodup_cons.2 ⟨List.not_mem_nil,List.nodup_nil⟩,fun a d b hb e=>hm (by rw[List.mem_singleton.1 hb] at e;rw[<-e];exact d)⟩,fun z=>?_,by rw[lA_,lA_];have:=h.len;simp;omega⟩;rw[List.map_append,List.mem_append,List.mem_append,h.mem];rfl
theorem ED {l:List XC} {gs fs:List XG} (h:Lq l gs fs) (A:∀x∈gs,eC l x=0) (C:∀x∈gs,r8 x) {g:XG} (E:eC l g=0) (b:r8 g) {m:SM} (hm:m.map Prod.fst=fs.map mY):og m (mY<|dI l g) 0=none↔dI l g∉fs:=by
 rw[yb]
 have hp:∀z∈fs,dy z/\z.threads.length=l.length:=fun z hz=>by
  obtain⟨x,hx,rfl⟩:=List.mem_map.1 ((h.mem z).1 hz);have:=lf (A x hx) (C x hx);exact⟨this.1,this.2.1⟩
 have hq:=lf E b;constructor
 ·intro hh hz;have:mY (dI l g)∈m.map Prod.fst:=by rw[hm];exact List.mem_map.2 ⟨_,hz,Z⟩
  obtain⟨x,hx,d⟩:=List.mem_map.1 this;exact hh x hx d
 intro hh x hx e;have:x.1∈fs.map mY:=by rw[<-hm];exact List.mem_map.2 ⟨x,hx,Z⟩
 obtain⟨z,hz,u⟩:=List.mem_map.1 this;have:=GB (hp z hz).1 hq.1 (by rw[(hp z hz).2,hq.2.1]) (by rw[u,e]);exact hh (by rw[<-this];exact hz)
end Go.Ev
namespace Go.Ev
variable [Env]
open Go.Proofs
set_option maxRecDepth 4000
set_option maxHeartbeats 8000000
theorem H0 {m:SM} {k:List Nat} (h:(!(og m k 0).isSome)=true):og m k 0=none:=by
 cases b:og m k 0 with
 | none=>rfl
 | some x=>rw[b] at h;cases h
theorem H2 {m:SM} {k:List Nat} (h:(!(og m k 0).isSome)=false):¬og m k 0=none:=fun e=>by rw[e] at h;cases h
theorem Mm {l:List XC} {fs:List XG} {q:Nat} (h:da (.ofNat q) (.ofNat (sx l fs).length)=true):∃x,fs[q]? =some x:=cF (by have:=aU h;unfold sx at this;rwa[lM_] at this)
theorem J8 {l:List XC} {fs:List XG} {q:Nat} (h:da (.ofNat q) (.ofNat (sx l fs).length)=false):fs.length<=q:=by have:=bx h;unfold sx at this;rwa[lM_] at this
theorem AY {c:XG->XG->Int}:∀(l:List XG) (x:XG),(jx c l x).length<=l.length+1
 | [],x=>nR_ _
 | y::l,x=>by
  have:=AY (c:=c) l x;unfold jx;split
  ·simp;omega
  split<;>simp
theorem yc {c:XG->XG->Int}:∀(l a:List XG),(l.foldl (jx c) a).length<=a.length+l.length
 | [],a=>nR_ _
 | x::l,a=>by
  have h1:=yc (c:=c) l (jx c a x);have h2:=AY (c:=c) a x;show(l.foldl (jx c)<|jx c a x).length<=a.length+(l.length+1);omega
theorem BB (l:List XC) (gs:List XG):(jc l gs).length<=gs.length:=by
 unfold jc;split
 ·have:=yc (c:=dD) (gs.map<|dI l) [];rw[lM_] at this;simpa [oh] using this
 exact Nat.zero_le _
theorem nZ {P:Program} {fn:Func} {i j k:Nat} {t:D Y} {V:B} {u v w:Y} (A:fn.results.toList= [.tmp i,.tmp j,.tmp k]) (h1:t.get i=some u) (C:t.get j=some v) (E:t.get k=some w):dB P fn t V=some (.tuple [u,v,w]):=by
 unfold dB;rw[A]
 have:bY (eJ P t V) [.tmp i,.tmp j,.tmp k]=some [u,v,w]:=by
  have b:eJ P t V (.tmp i)=some u:=h1;have d:eJ P t V (.tmp j)=some v:=C;have m:eJ P t V (.tmp k)=some w:=E;unfold bY;simp only[b,d,m]
 rw[this]
theorem Jn {G:Cx} (I:Plain G) {K:KP} {g1 M:XG} {Q R:Int} {m b u A C d E F:Y} (h1:dC K g1 m b u A) (T:dC K M C d E F) {V:B} {L:Own} (aq:H V K L):
  aT Tryz.prog G 55 [.agg [m,b,u,A,.int .i64 Q],.agg [C,d,E,F,.int .i64 R]] V fun v V'=>v= .int .i64 (dD g1 M)/\H V' K L:=by
 refine aW I Tryz.func55 Z (t:=(D.leaf.put (some (.agg [m,b,u,A,.int .i64 Q])) 0).put (some (.agg [C,d,E,F,.int .i64 R])) 1) (by rfl) ?_;refine ai ?_;refine ah Z ?_;refine bH aq Z (cL Z Z) (fun _=>Z) (fun V b aq=>?_);refine bH aq Z (cL Z Z) (fun _=>Z) (fun V d aq=>?_);refine S Z (aj Z) Z ?_;refine af ?_;refine ad ?_;refine ai ?_;refine ah Z ?_;refine S Z (ax Z (k:=0) J) Z ?_;refine S Z (bA Z (aq.get 1 Z) (n:=4) (vs:=[_,_,_,_]) J (Nat.le_of_ble_eq_true Z) Z) Z ?_;refine S Z (ax Z (k:=0) J) Z ?_;refine S Z (bA Z (aq.get 0 Z) (n:=4) (vs:=[_,_,_,_]) J (Nat.le_of_ble_eq_true Z) Z) Z ?_;refine bh Z (aR Z Z Z J) (fun _=>Z) (pk I h1 T aq) (fun V aq=>?_);refine S Z (aj Z) Z ?_;refine af ?_;refine ad ?_;refine aD ?_;exact ay Z Z ⟨Z,aq.pop.pop⟩
theorem E6:sX Tryz.prog 83 9 3:=⟨by kernel_rfl,by kernel_rfl,by kernel_rfl⟩
theorem Jm {G G0:Cx} (hS:Nt G G0) (b6:G.ov 151=true) (b7:∀a s,G.w9 94 a s=none) {K:KP} {k:Nat} {l:List XC} {lv:Y} (hl:bI K 2 (jF K k) l lv) {gs:List XG} {gv:Y} (be:bI K 4 (RG K) gs gv) (hI:∀g∈gs,r8 g) (hlen:gs.length<=100000) {V:B} {L:Own} (aq:H V K L):
  aT Tryz.prog G 24 [lv,gv] V fun v V'=>∃K' u1 u2,v= .tuple [u1,u2,.int .i64<|xf l gs]/\KP.le K K'/\bI K' 4 (RG K') (jc l gs) u1/\bI K' 1 dG (zC l gs) u2/\H V' K' L:=by
 have hG:=hS.p;refine aW hG Tryz.func24 Z (t:=(D.leaf.put (some (lv)) 0).put (some (gv)) 1) (by rfl) ?_;refine ai ?_;refine ah Z ?_;refine S Z (aj Z) Z ?_;refine S Z (aj Z) Z ?_;refine S Z (aj Z) Z ?_;refine af ?_;refine ad ?_;refine ai ?_;refine ai ?_;refine ah Z ?_;refine S Z (N Z) Z ?_;refine S Z (aO hl Z Z Z (e:=63) J Z) Z ?_;refine S Z (aA Z Z Z) Z ?_;refine af ?_;refine ad ?_;refine aC Z (fun a4=>?_) (fun a4=>?_)
 ·refine ai ?_;refine ah Z ?_;refine S Z (aj Z) Z ?_;refine S Z (aj Z) Z ?_;refine S Z (aj Z) Z ?_;refine af ?_;refine ad ?_;refine aD ?_;refine az (?_);have hE:xf l gs=3:=by unfold xf;rw[if_pos<|aU (a:=4) a4]
  have hF:jc l gs= []:=by unfold jc;rw[hE,if_neg (by decide)]
  exact⟨.inr Z,_,nZ Z Z Z Z,K,.aB,.aB,by rw[hE],KP.le_refl _,.inl ⟨hF,Z⟩,.inl ⟨by unfold zC;rw[hF];rfl,Z⟩,aq⟩
 have c9:l.length<=4:=bx (a:=4) a4;refine aG ?_;refine ad ?_;refine ai ?_;refine ah Z ?_;refine S Z (aj Z) Z ?_;refine af ?_;refine ad ?_;refine ai ?_;refine ah Z ?_;refine LN aq Z yD (fun _=>Z) (fun V bm aq=>?_);refine S Z (aj Z) Z ?_;refine af ?_;refine ad ?_;refine ai ?_;refine ai ?_;refine ah Z ?_;refine S Z (N Z) Z ?_;refine S Z (aO be Z Z Z (e:=27) J Z) Z ?_;refine S Z (N Z) Z ?_;refine af ?_;refine ad ?_;refine aJ ?_;refine ba [4,5,6,7,10,11,12,13,14,15,24,25,26,27,28,29,30,31,32,33,34,35,36,37,38,39,40,41,42,43,44,45,46,47,48,49,50,51,52,53,54,55,56,57,58,59,60,61,62] (fun j t V=>∃(i:Nat) (K3:KP) (u:Y) (m:SM) (fs:List XG) (M:Own) (es:List dU) (ck:Nat),(j+i=gs.length/\KP.le K K3/\Lq l (gs.take i) fs/\(∀x∈gs.take i,eC l x=0)/\AH l gs=AH l (gs.drop i)/\dP 5 87 (JB K3) (sx l fs) u M/\(fs≠[]∨u= .aB)/\ic es m/\m.map Prod.fst=fs.map mY)/\t.get 4=some (.aB)/\t.get 5=some (.aB)/\t.get 7=some (u)/\t.get 24=some (.int .i64 (.ofNat i))/\H V K3 ((bm,.map es ck)::(M++L))) (gs.length) ⟨0,K,.aB,[],[],[],_,_,⟨Z,KP.le_refl _,⟨List.nodup_nil,fun z=>by rw[List.take_zero];exact Iff.rfl,Nat.zero_le _⟩,(fun x hx=>by rw[List.take_zero] at hx;cases hx),Z,.inl ⟨Z,Z,Z⟩,.inr Z,.nil,Z⟩,Z,Z,Z,Z,aq⟩ ?_;clear aq;intro j6 t V an hI;obtain⟨i,K3,u,m,fs,M,es,ck,⟨dd,d,F,ap,I,hM,hne,hm,au⟩,W,aa,a5,ac,aq⟩:=hI;replace an:=an.bR Z Z;obtain⟨o4,o5,o6,o7,df,dk,dl,dm,an⟩:=an;replace an:=an.bR Z Z;obtain⟨dr,ds,b8,dx,dA,d0,d3,d4,an⟩:=an;replace an:=an.bR Z Z;obtain⟨d5,d6,d7,d8,d9,ee,eg,el,an⟩:=an;replace an:=an.bR Z Z;obtain⟨em,en,eo,er,et,ev,ex,e0,an⟩:=an;replace an:=an.bR Z Z;obtain⟨e3,e4,e5,e6,e7,e8,e9,fd,an⟩:=an;replace an:=an.bR Z Z;obtain⟨fi,fk,fq,fv,f0,f1,f2,f3,an⟩:=an;replace an:=an.eb Z;obtain⟨f4,an⟩:=an;obtain rfl:=an.nil;clear an;replace W:o4=some _:=W;subst W;replace aa:o5=some _:=aa;subst aa;replace a5:o7=some _:=a5;subst a5;replace ac:b8=some _:=ac;subst ac;refine ai ?_;refine ah Z ?_;refine S Z (aA Z Z Z) Z ?_;refine af ?_;refine ad ?_;refine ai ?_;refine aC Z (fun E=>?_) (fun E=>?_)
 ·refine aG ?_;refine ad ?_;refine ai ?_;refine aJ ?_;refine ai ?_;refine ah Z ?_;have hgs3:=be.mono d fun _ _ h=>h.mono d;have hl3:=hl.mono d fun _ _ h=>h.mono d
  obtain⟨x26,C,cr⟩:=cO E;refine bO (e:=27) (m:=4) hgs3 C Z Z J J Z Z (fun _=>Z) (fun f5 cv bi cw bk=>?_);have hr26':=bk;obtain⟨f6,f7,f8,f9,rfl,Q⟩:=hr26';refine S Z (bC aq bi Z J Z) Z ?_;refine bH aq Z (ea (cs:=[.aB,.aB,.aB,.aB]) J J) (fun _=>Z) (fun V b1 aq=>?_);refine db aq Z (bz Z Z Z (aq.get 0 Z) (m:=4) J Z (Nat.le_of_ble_eq_true Z) (ar Q.init.leaf.2<|ar Q.threads.leaf.2<|ar Q.from_.leaf.2<|ar Q.order.leaf.2 aS) (cells':=[_,_,_,_]) Z) Z (fun V aq=>?_);refine af ?_;refine ad ?_;refine ai ?_;refine ah Z ?_;refine S Z (N Z) Z ?_;refine S Z (bA Z (aq.get 0 Z) (n:=4) (vs:=[_,_,_,_]) J (Nat.le_of_ble_eq_true Z) Z) Z ?_;have hEat:=J1 (l:=l) C;have hIx:=hI x26 (gB_ C);refine dJ Z (aR Z Z Z J) (fun _=>Z) (ur hS hl3 Q aq) ?_;rintro _ V ⟨K4,gc,rfl,T,ak,aq⟩;refine S Z (N Z) Z ?_;refine S Z (bK Z Z) Z ?_;refine S Z (bK Z Z) Z ?_;refine S Z (aj Z) Z ?_;refine S Z (aj Z) Z ?_;refine af ?_;refine ad ?_;refine ai ?_;refine ai ?_;refine ah Z ?_;replace aq:=aq.sub (.cons _ (.cons_cons _<|ph (.refl _)));refine S Z (N Z) Z ?_;refine S Z (aA Z Z Z) Z ?_;refine af ?_;refine ad ?_;refine aC Z (fun av=>?_) (fun av=>?_)
  ·refine ai ?_;refine ah Z ?_;refine S Z (N Z) Z ?_;refine S Z (aj Z) Z ?_;refine S Z (aj Z) Z ?_;refine S Z (aj Z) Z ?_;refine af ?_;refine ad ?_;refine aD ?_;refine az<|aK<|az<|bp<|aK<|az (?_);have hE:xf l gs=eC l x26:=by unfold xf;rw[if_neg oM,I,hEat,if_neg<|mA<|cd av]
   have hF:jc l gs= []:=by unfold jc;rw[hE,if_neg<|mA<|cd av]
   exact⟨.inr Z,_,nZ Z Z Z Z,K4,.aB,.aB,by rw[hE],KP.le_trans d T,.inl ⟨hF,Z⟩,.inl ⟨by unfold zC;rw[hF];rfl,Z⟩,aq.pop.gw⟩
  have hE0:eC l x26=0:=nC av
  have hEp2:∀x∈gs.take (i+1),eC l x=0:=fun x hx=>by
   rw[dh C] at hx;rcases List.mem_append.1 hx with hx | hx
   ·exact ap x hx
   rw[List.mem_singleton.1 hx];exact hE0
  refine aG ?_;refine ad ?_;refine ai ?_;refine ah Z ?_;refine S Z (N Z) Z ?_;refine bO (e:=27) (m:=4) ak (l9 hE0) Z Z J J Z Z (fun _=>Z) (fun ge cx bl c0 bo=>?_);have hr38':=bo;obtain⟨gl,gr,gt,g2,rfl,bs⟩:=hr38';refine S Z (bC aq bl Z J Z) Z ?_;obtain⟨b9,g3,ca,g4,cb⟩:=lf hE0 hIx;refine bh Z (aR Z Z Z J) (fun _=>Z) (No hG b6 b7 b9 ca bs aq) (fun V aq=>?_);refine S Z (aj Z) Z ?_;refine af ?_;refine ad ?_;refine ai ?_;refine ah Z ?_;refine S Z (N Z) Z ?_;refine S Z (N Z) Z ?_;refine S Z (GW E6 hm (aq.get 0 Z) Z Z) Z ?_;refine S Z (N Z) Z ?_;refine S Z (bK Z Z) Z ?_;refine S Z (bK Z Z) Z ?_;refine S Z (aj Z) Z ?_;refine S Z (aj Z) Z ?_;refine af ?_;refine ad ?_;refine ai ?_;refine ah Z ?_;refine S Z (N Z) Z ?_;refine S Z (dX Z) Z ?_;refine af ?_;refine ad ?_;refine aC Z (fun a9=>?_) (fun a9=>?_)
  ·refine ai ?_;refine ah Z ?_;refine S Z (N Z) Z ?_;refine S Z (N Z) Z ?_;refine S Z (N Z) Z ?_;refine S Z (Nr hM Z Z Z (e:=87) J Z) Z ?_;have hnone:=H0 a9;have hnew:=(ED F ap (fun x hx=>hI x (List.mem_of_mem_take hx)) hE0 hIx au).1 hnone;refine Dq E6 hm aq hnone Z Z Z Z Z Z (fun V g5 g6 aq hm=>?_);refine af ?_;refine ad ?_;refine ah Z ?_;refine S Z (N Z) Z ?_;refine S Z (N Z) Z ?_;refine bO (e:=27) (m:=4) ak (l9 hE0) Z Z J J Z Z (fun _=>Z) (fun g7 c3 bt c4 bv=>?_);have hr55':=bv;obtain⟨g9,ha,hc,hg,rfl,bw⟩:=hr55';refine S Z (bC aq bt Z J Z) Z ?_;refine S Z (N Z) Z ?_;refine S Z (aO ak Z Z Z (e:=27) J Z) Z ?_;refine S Z (dW (places:=[(0,4),(4,1)]) (zero:=[.aB,.aB,.aB,.aB,.int .i64 0]) (cs:=[_,_,_,_,_]) J J J (bB Z Z Z Z<|bB Z Z Z Z cj) J) Z ?_;refine jY aq Z (cM (e:=87) (m:=5) (z:=[.aB,.aB,.aB,.aB,.int .i64 0]) (cs:=[_,_,_,_,_]) J J J J<|bB Z Z Z Z cj) (fun _=>Z) (fun V hk aq=>?_);replace aq:=aq.pull (.there (.there .here));replace aq:=aq.pull (.pJ<|fG.here (X:=[_]));refine iA (R:=JB K4) (m:=5) (e:=87) (hM.mV fun _ _ h=>h.mono T) aq (fL (m:=5) (x:=(dI l x26,Na l<|dI l x26)) Z ⟨_,_,_,_,by unfold Na;rw[cb],bw⟩) JB.leaf (by have:=F.len;rw[lT_] at this;unfold sx;rw[lM_];simp only[List.length_cons,List.length_nil];omega) Z Z Z Z Z Z Z (fun _=>Z) (fun V hn cc hM61 aq=>?_);replace aq:=aq.pull (.pJ<|fG.here (X:=[_]));refine S Z (aj Z) Z ?_;refine af ?_;refine aH ?_;refine ad ?_;refine ah Z ?_;refine S Z (aA (v:=.int .i64 (.ofNat (i+1))) Z Z<|congrArg (fun z=>some (Y.int .i64 z))<|aZ (by have:=aU E;omega)) Z ?_;refine S Z (N Z) Z ?_;refine af ?_;refine aL ⟨j6-1,(by have:=aU E;omega),(by(iterate 94 refine a8.put Z ?_);exact a8.refl _ _),i+1,K4,_,_,fs++[dI l x26],cc,_,_,⟨by have:=aU E;omega,KP.le_trans d T,by rw[dh C];exact F.new hnew,hEp2,by rw[I,hEat,if_pos hE0],by unfold sx at hM61⊢;rw[List.map_append];exact hM61,.inl (by simp),hm,by rw[List.map_append,au,List.map_append];rfl⟩,Z,Z,Z,Z,aq⟩
  have hold:dI l x26∈fs:=Classical.byContradiction fun ce=>H2 a9 ((ED F ap (fun x hx=>hI x (List.mem_of_mem_take hx)) hE0 hIx au).2 ce)
  refine aG ?_;refine aH ?_;refine ad ?_;refine ah Z ?_;refine S Z (aA (v:=.int .i64 (.ofNat (i+1))) Z Z<|congrArg (fun z=>some (Y.int .i64 z))<|aZ (by have:=aU E;omega)) Z ?_;refine S Z (N Z) Z ?_;refine af ?_;refine aL ⟨j6-1,(by have:=aU E;omega),(by(iterate 80 refine a8.put Z ?_);exact a8.refl _ _),i+1,K4,_,m,fs,M,es,ck,⟨by have:=aU E;omega,KP.le_trans d T,by rw[dh C];exact F.mb hold,hEp2,by rw[I,hEat,if_pos hE0],hM.mV fun _ _ h=>h.mono T,hne,hm,au⟩,Z,Z,Z,Z,aq⟩
 refine bc ?_;refine aP ?_;refine aQ ?_;refine aN ?_;refine ad ?_;refine ai ?_;refine ah Z ?_;have aE:gs.length<=i:=bx E;rw[tL_ aE] at F ap;rw[List.drop_of_length_le aE] at I;have bX:xf l gs=0:=by unfold xf;rw[if_neg oM];exact I
 refine S Z (N Z) Z ?_;replace aq:=aq.pull (.there .here);refine dJ Z (aR Z Z Z J) (fun _=>Z) (El (m:=5) (c:=fun a b:XG×Int=>dD a.1 b.1) oM (Je (Jd iT) Prod.fst) hS.k2 Z JB.leaf hM (hne.imp (fun h e=>h (List.map_eq_nil_iff.1 e)) id) aq fun σ2 h2 x y vx vy hx hy=>?_) ?_
 ·obtain⟨a1,b1,c1,d1,rfl,hx⟩:=hx;obtain⟨a2,b2,c2,d2,rfl,hy⟩:=hy;exact(Jn hS.p0 hx.ro hy.ro h2).mono fun _ _ h=>h.1
 rintro _ V ⟨rfl,ch,M2,bb,ci,hM2,aq⟩;have b0:ch=sx l (jc l gs):=by unfold jc sx;rw[if_pos bX];exact C8 iT (Na l) F.nd F.mem bb ci
 subst b0;obtain⟨K5,a0,A,aq⟩:=aq.eA (M:=M2);have hG5:=(hM2.mV (R':=JB K5) fun _ _ h=>h.mono a0).lJ (K:=K5) A;clear A;refine af ?_;refine ad ?_;refine ai ?_;refine ai ?_;refine ah Z ?_;replace aq:=aq.pop;refine S Z (N Z) Z ?_;refine S Z (aO hG5 Z Z Z (e:=87) J Z) Z ?_;refine S Z (N Z) Z ?_;refine af ?_;refine ad ?_;refine aJ ?_;refine ba [4,5,17,67,68,69,70,71,72,73,74,75,76,77,78,79,80,81] (fun j t V=>∃(q:Nat) (u1 u2:Y) (MA MB:Own),(j+q=(sx l<|jc l gs).length/\dP 4 27 (RG K5) ((jc l gs).take q) u1 MA/\dP 1 3 dG (((jc l gs).take q).map<|Na l) u2 MB)/\t.get 4=some (u1)/\t.get 5=some (u2)/\t.get 67=some (.int .i64 (.ofNat q))/\H V K5 (MA++(MB++L))) ((sx l<|jc l gs).length) ⟨0,_,_,[],[],⟨Z,.inl ⟨by rw[List.take_zero],Z,Z⟩,.inl ⟨by rw[List.take_zero];rfl,Z,Z⟩⟩,Z,Z,Z,aq⟩ ?_;clear aq;intro cn t V an hI;obtain⟨q,u1,u2,MA,MB,⟨c5,hA,hB⟩,W,aa,am,aq⟩:=hI;replace an:=an.bR Z Z;obtain⟨o4,o5,ho,cp,hr,hs,ht,hu,an⟩:=an;replace an:=an.bR Z Z;obtain⟨hw,hC,hD,hH,hK,hL,hN,hO,an⟩:=an;replace an:=an.eb Z;obtain⟨hP,an⟩:=an;replace an:=an.eb Z;obtain⟨hQ,an⟩:=an;obtain rfl:=an.nil;clear an;replace W:o4=some _:=W;subst W;replace aa:o5=some _:=aa;subst aa;replace am:cp=some _:=am;subst am;refine ai ?_;refine ah Z ?_;refine S Z (aA Z Z Z) Z ?_;refine af ?_;refine ad ?_;refine ai ?_;refine aC Z (fun ab=>?_) (fun ab=>?_)
 ·refine aG ?_;refine ad ?_;refine ai ?_;refine aJ ?_;refine ai ?_;refine ah Z ?_;have hfi:=Mm ab;obtain⟨xg,bd⟩:=hfi;have b3:(sx l<|jc l gs)[q]? =some (xg,Na l xg):=by unfold sx;rw[gM_,bd];rfl
  refine bO (e:=87) (m:=5) hG5 b3 Z Z J J Z Z (fun _=>Z) (fun hR c7 b4 c8 b5=>?_);have hr69':=b5;obtain⟨hT,hU,hV,hW,rfl,U⟩:=hr69';refine S Z (bC aq b4 Z J Z) Z ?_;refine bH aq Z (ea (cs:=[.aB,.aB,.aB,.aB,.int .i64 0]) J J) (fun _=>Z) (fun V b1 aq=>?_);refine db aq Z (bz Z Z Z (aq.get 0 Z) (m:=5) J Z (Nat.le_of_ble_eq_true Z) (ar U.init.leaf.2<|ar U.threads.leaf.2<|ar U.from_.leaf.2<|ar U.order.leaf.2<|ar Z aS) (cells':=[_,_,_,_,_]) Z) Z (fun V aq=>?_);refine af ?_;refine ad ?_;refine aX (l:=[(0,[]),(1,[]),(2,[]),(3,[]),(5,[]),(6,[]),(7,[]),(8,[]),(4,[7,8]),(9,[]),(10,[]),(11,[])]) J J ?_;refine al Z Z (N Z) Z ?_;refine al Z Z (ax Z (k:=0) J) Z ?_;refine al Z Z (bA Z (aq.get 0 Z) (n:=4) (vs:=[_,_,_,_]) J (Nat.le_of_ble_eq_true Z) Z) Z ?_;refine tT aq Z Z (cM (e:=27) (m:=4) (z:=[.aB,.aB,.aB,.aB]) (cs:=[_,_,_,_]) J J J J<|bB Z Z Z Z cj) (fun _=>Z) (fun V hX aq=>?_);refine al Z Z (N Z) Z ?_;refine al Z Z (ax Z (k:=4) J) Z ?_;refine al Z Z (aw Z (aq.get 1 Z) J Z) Z ?_;refine tT aq Z Z (cM (e:=3) (m:=1) (z:=[.int .i64 0]) (cs:=[_]) J J J J<|bB Z Z Z Z cj) (fun _=>Z) (fun V hY aq=>?_);replace aq:=aq.pull (.there (.there (.there .here)));replace aq:=aq.pull (.pJ (.there<|fG.here (X:=[_])));refine sL (R:=RG K5) (m:=4) (e:=27) hA aq (fL (m:=4) (x:=xg) Z ⟨_,_,_,_,Z,U⟩) RG.leaf (by rw[lT_];have:=BB l gs;simp only[List.length_cons,List.length_nil];omega) Z Z Z Z Z Z Z Z (fun _=>Z) (fun V h3 MA2 hA2 aq=>?_);refine⟨(aV (a7 Z Z Z Z Z (aw Z (aq.gw.pop.get 0 Z) J Z)<|cZ _ _)<|aV (wC Z Z Z Z Z (yK (e:=3) (m:=1) (z:=[.int .i64 0]) (cs:=[_]) J J J J<|bB Z Z Z Z cj) (aq.gw.get 0 Z)<|dM (gj _ _) nq) bq),?_⟩;replace aq:=aq.pull (.pJ (.there (.there .here)));replace aq:=aq.pull (.pJ (.pJ<|fG.here (X:=[_])));refine sL (R:=dG) (m:=1) (e:=3) hB aq (fL (m:=1) (x:=Na l xg) Z Z) dG.leaf (by rw[lM_,lT_];have:=BB l gs;simp only[List.length_cons,List.length_nil];omega) Z Z Z Z Z Z Z Z (fun _=>Z) (fun V h6 MB2 hB2 aq=>?_);refine⟨bq,?_⟩;refine al Z Z (aj Z) Z ?_;refine al Z Z (aj Z) Z ?_;refine bj ?_;refine aH ?_;refine ad ?_;refine ah Z ?_;replace aq:=aq.pull (.pJ .here);replace aq:=aq.sub (ph<|ph (.cons _ (.refl _)));refine S Z (aA (v:=.int .i64 (.ofNat (q+1))) Z Z<|congrArg (fun z=>some (Y.int .i64 z))<|aZ (by have:=aU ab;have:=hG5.bM;omega)) Z ?_;refine S Z (N Z) Z ?_;refine af ?_
  refine aL ⟨cn-1,(by have:=aU ab;omega),(by(iterate 36 refine a8.put Z ?_);exact a8.refl _ _),q+1,_,_,_,_,⟨by have:=aU ab;omega,by rw[dh bd];exact hA2,by rw[dh bd,List.map_append];exact hB2⟩,Z,Z,Z,aq⟩
 refine bc ?_;refine aP ?_;refine aQ ?_;refine aN ?_;refine ad ?_;refine ai ?_;refine ah Z ?_;refine S Z (N Z) Z ?_;refine S Z (N Z) Z ?_;refine S Z (aj Z) Z ?_;refine S Z (aj Z) Z ?_;refine S Z (aj Z) Z ?_;refine af ?_;refine ad ?_;refine aD ?_;rw[tL_<|J8 ab] at hA hB;obtain⟨K6,a3,A,aq⟩:=aq.eA (M:=MA);have hA6:=(hA.mV (R':=RG K6) fun _ _ h=>h.mono a3).lJ (K:=K6) A;clear A;obtain⟨K7,ao,A,aq⟩:=aq.eA (M:=MB);have hB7:=hB.lJ (K:=K7) A;exact⟨.inr Z,_,nZ Z Z Z Z,K7,_,_,by rw[bX],KP.le_trans d<|KP.le_trans a0<|KP.le_trans a3 ao,hA6.mono ao fun _ _ h=>h.mono ao,hB7,aq⟩
end Go.Ev
namespace Go.Ev
variable [Env]
theorem vf {l:List XC} {g x:XG} {k:Nat} (h:eC l g=0) (d:r8 g) (hx:(fu l g)[k]? =some x):(bif bD (eC l x) 0 then bD (dD (dI l x) x) 0 else false)=bD (.ofNat k) 0:=by
 obtain⟨hR,hl,aa,b,hX⟩:=me h d (gB_ hx);rw[b];show bD (dD (dI l x) x) 0=bD (.ofNat k) 0;have hO:=(ry h).1;have hx':=hx;rw[ji h] at hx';have h1:=Gd hO hx';have h2:=l9 b;rw[ji b] at h2;rw[cR,cR]
 by_cases hk:k=0
 ·obtain⟨r,m⟩:=h1.2 hk;rw[m] at h2;have e:x=dI l x:=by simpa using h2
  rw[<-e,oB];subst hk;rfl
 have hne:¬dD (dI l x) x=0:=fun e=>hk (h1.1 (by
  have e:=qZ e;rw[e] at h2;cases hq:jy l (lF l) x with
  | nil=>rw[hq] at h2;simp at h2
  | cons y r=>rw[hq] at h2;simp at h2;exact⟨r,by rw[h2]⟩))
 rw[decide_eq_false hne,decide_eq_false (show¬Int.ofNat k=0 from fun e=>hk (iJ_ e))]
theorem kE {l:List XC} {g:XG} (h4:l.length<=4):(fu l g).length<=256:=by
 unfold fu;split
 ·have h1:=(sM (l:=l) (cls:=lF l) lU h4).2
  have b:(jy l (lF l) g).length<=(iB l<|lF l).length:=by
   unfold jy oh
   have key:∀(l a:List XG),(l.foldl (jx dD) a).length<=a.length+l.length:=by
    intro l;induction l with
    | nil=>intro a;exact nR_ _
    | cons x l ih=>
     intro a;have h1:=ih (jx dD a x)
     have b:∀(a:List XG),(jx dD a x).length<=a.length+1:=by
      intro a;induction a with
      | nil=>exact nR_ _
      | cons y a iha=>unfold jx;split;(simp;omega);split<;>simp
     have h3:=b a;show(l.foldl (jx dD)<|jx dD a x).length<=a.length+(l.length+1);omega
   have:=key ((iB l<|lF l).map fun ps=>Mw ps g) [];rw[lM_] at this;simpa using this
  omega
 exact Nat.zero_le _
structure Wh (base:XG->Prop) (whole:List XG):Prop where
 nd:whole.Nodup
 mem:∀x,x∈whole↔base x
theorem Wh.congr {b b':XG->Prop} {w:List XG} (h:Wh b w) (he:∀x,b x↔b' x):Wh b' w:=⟨h.nd,fun x=>(h.mem x).trans (he x)⟩
theorem Wh.add {b:XG->Prop} {w:List XG} {x:XG} (h:Wh b w) (hx:x∉w):Wh (fun y=>b y∨y=x) (w++[x]):=
 ⟨List.nodup_append.2 ⟨h.nd,List.nodup_cons.2 ⟨List.not_mem_nil,List.nodup_nil⟩,fun a d b hb e=>hx (by rw[List.mem_singleton.1 hb] at e;rw[<-e];exact d)⟩,fun y=>by rw[List.mem_append,h.mem,List.mem_singleton]⟩
theorem Wh.mb {b:XG->Prop} {w:List XG} {x:XG} (h:Wh b w) (hx:x∈w):Wh (fun y=>b y∨y=x) w:=
 h.congr fun y=>⟨.inl,fun hy=>hy.elim id fun e=>by rw[e];exact(h.mem x).1 hx⟩
def mT (l:List XC) (all:List XG) (x:XG):Prop:=∃g∈all,x∈fu l g
theorem tZ {l:List XC} {all:List XG} {i q:Nat} {g x:XG} (hx:(fu l g)[q]? =some x) (y:XG):((mT l (all.take i) y∨y∈(fu l g).take q)∨y=x)↔mT l (all.take i) y∨y∈(fu l g).take (q+1):=by
 rw[dh hx,List.mem_append,List.mem_singleton,or_assoc]
theorem Hb {l:List XC} {all:List XG} {i:Nat} {g:XG} (b:all[i]? =some g) {q:Nat} (hq:(fu l g).length<=q) (y:XG):(mT l (all.take i) y∨y∈(fu l g).take q)↔mT l (all.take (i+1)) y:=by
 rw[tL_ hq,dh b];unfold mT;constructor
 ·rintro (⟨x,hx,hy⟩ | hy)
  ·exact⟨x,List.mem_append_left _ hx,hy⟩
  exact⟨g,List.mem_append_right _<|List.mem_singleton.2 Z,hy⟩
 rintro ⟨x,hx,hy⟩;rcases List.mem_append.1 hx with hx | hx
 ·exact .inl ⟨x,hx,hy⟩
 rw[List.mem_singleton.1 hx] at hy;exact .inr hy
theorem base_start {l:List XC} {all:List XG} {i:Nat} {g:XG} (y:XG):mT l (all.take i) y↔(mT l (all.take i) y∨y∈(fu l g).take 0):=by
 rw[List.take_zero];exact⟨.inl,fun h=>h.elim id fun h=>absurd h List.not_mem_nil⟩
section
variable {l:List XC} {all whole:List XG}
theorem wS (d:∀g∈all,eC l g=0) (m:∀g∈all,r8 g) {x:XG} (hx:mT l all x):dy x/\r8 x/\eC l x=0:=by
 obtain⟨g,b,hx⟩:=hx;have:=me (d g b) (m g b) hx;exact⟨this.1,this.2.2.1,this.2.2.2.1⟩
theorem xJ:∀{gs:List XG},(∀g∈gs,eC l g=0)->AH l gs=0
 | [],_=>rfl
 | g::gs,h=>by
  unfold AH;rw[if_pos<|h g<|mS_ ..,xJ fun x hx=>h x (mC_ _ hx)]
theorem wq (h4:l.length<=4) (h:∀g∈whole,eC l g=0):xf l whole=0:=by
 unfold xf;rw[if_neg oM,xJ h]
theorem DC (h4:l.length<=4) (h:∀g∈whole,eC l g=0) (b:∀g∈whole,r8 g) {f:XG} (hf:f∈jc l whole):(bif bD (eC l f) 0 then bD (dD (dI l f) f) 0 else false)=true:=by
 unfold jc at hf;rw[if_pos<|wq h4 h] at hf;obtain⟨x,hx,rfl⟩:=List.mem_map.1 (((kM iT fun _ _=>trivial).2 f).1 hf);have:=vf (h x hx) (b x hx) (l9<|h x hx);rw[this];rfl
theorem KD (h4:l.length<=4) (m:∀g∈all,eC l g=0) (u:∀g∈all,r8 g) (hw:Wh (mT l all) whole):((jc l whole).map fun x=>(fu l x).length).sum=whole.length:=by
 have b:∀x∈whole,dy x/\r8 x/\eC l x=0:=fun x hx=>wS m u ((hw.mem x).1 hx)
 have hs:=Gr (l:=l) (cls:=lF l) (all:=all) (whole:=whole) (fun g d=>(ry<|m g d).1) hw.nd fun x=>by
  rw[hw.mem];exact⟨fun⟨g,d,hx⟩=>⟨g,d,by rw[<-ji (m g d)];exact hx⟩,fun⟨g,d,hx⟩=>⟨g,d,by rw[ji<|m g d];exact hx⟩⟩
 have e1:whole.map (dI l)=whole.map (fN l<|lF l):=List.map_congr_left fun x hx=>by
  unfold dI;rw[if_pos (b x hx).2.2]
 unfold jc;rw[if_pos<|wq h4 fun x hx=>(b x hx).2.2,e1,<-hs];refine congrArg List.sum<|List.map_congr_left fun f hf=>?_;obtain⟨x,hx,rfl⟩:=List.mem_map.1 (((kM iT fun _ _=>trivial).2 f).1 hf);have hl:=lf (b x hx).2.2 (b x hx).2.1;have e2:dI l x=fN l (lF l) x:=by unfold dI;rw[if_pos (b x hx).2.2]
 rw[<-e2,ji hl.2.2.2.1]
end
end Go.Ev
namespace Go.Ev
variable [Env]
open Go.Proofs
set_option maxRecDepth 4000
set_option maxHeartbeats 8000000
theorem Nj {G:Cx} (I:Plain G) {K:KP}:∀(k:Nat) (x:XE) (vs:List Y),gX K k x vs->∀(left:Int) (V:B) (L:Own),H V K L->aT Tryz.prog G 105 [.agg vs,.int .i64 left] V fun v V'=>v= .int .i64 (AU k x left)/\H V' K L:=by
 intro k;induction k with
 | zero=>intro x vs h;cases x;exact h.elim
 | succ k ih=>
 intro x vs h left V L aq;obtain⟨op,num,name,kids⟩:=x;obtain⟨v,rfl,hk⟩:=h;refine Qf I Tryz.func105 Z<|PK 2 Z<|kp aq Z (cL Z Z) (fun V b1 aq=>?_);refine OY 7 Z<|Qn aq 2 [2,0] Z Z<|S Z (Cj Z Z Z J Z) Z<|Oh 9 Z<|OX 3 Z ?_;obtain⟨LL1,aq,hLL1⟩:=aq.named;refine ba ([1,5]++rg 13 18) (fun j t V=>∃(i:Nat) (m:Int),j+i=kids.length/\tu (AU k) kids (LC name left)=tu (AU k) (kids.drop i) m/\t.get 1=some (.int .i64 m)/\t.get 5=some (.int .i64 (.ofNat i))/\H V K LL1) (kids.length) ⟨0,_,Z,Z,Z,Z,aq⟩ ?_;clear aq;intro M t V an Q;obtain⟨i,m,hj,hh,E,F,aq⟩:=Q;subst hLL1;obtain⟨oo,rfl⟩:=an.q2 E F Z;refine Pa aq 6 [3,0] Z Z<|S Z (QZ hk Z Z Z (e:=100) Z) Z<|vQ 1 Z<|ky Z (N Z) (fun u=>?_) (fun u=>?_)
 ·refine PM 5 Z<|aC Z (fun A=>?_) (fun A=>?_)
  ·refine aG<|OU 2 Z<|ah Z<|Qn aq 3 [3,0] Z Z ?_;obtain⟨am,b,aa⟩:=cO u;refine QQ (e:=100) (m:=4) hk b Z Z Z Z (fun ao ab C ac d=>?_);obtain⟨ap,au,av,aE,rfl,ak⟩:=d.shape;refine S Z (Q5 aq C Z Z) Z<|vQ 1 Z<|bh Z (QV Z Z Z) (fun _=>Z) (ih _ _ d _ _ _ aq) (fun V aq=>?_);refine vQ 1 Z<|af<|aH<|Qj 5 Z<|aL ⟨M-1,by omega,oF,i+1,_,by omega,hh.trans<|Da b<|cd A,Z,cI<|aZ (by have:=hk.bM;omega),aq⟩
  refine OW 3 Z<|aN<|Qk 7 Z ?_;exact ay Z Z ⟨cJ (by rw[FU<|bF A] at hh;rw[<-hh];rfl),aq.pop⟩
 refine O0 8 Z<|aQ<|aN<|Qk 7 Z ?_;exact ay Z Z ⟨cJ (by rw[FV<|bx u] at hh;rw[<-hh];rfl),aq.pop⟩
theorem Lb {G:Cx} (b:Plain G) {K:KP} {k:Nat} {x:XE} {vs:List Y} {V:B} {L:Own} (aq:H V K L) (h:gX K k x vs) (most:Int):aT Tryz.prog G 61 [.agg vs,.int .i64 most] V fun v V'=>v= .bool (Dh k x most)/\H V' K L:=by
 obtain⟨o0,n0,s0,v0,rfl,hk⟩:=h.shape;refine Qf b Tryz.func61 Z<|PK 2 Z<|kp aq Z (cL Z Z) (fun V b1 aq=>?_);refine OY 5 Z<|S Z (QY Z aq.g0 (n:=4) (vs:=[_,_,_,_]) Z) Z<|vQ 1 Z<|bh Z (QV Z Z Z) (fun _=>Z) (Nj b _ _ _ h _ _ _ aq) (fun V aq=>?_);refine PN 5 Z ?_;exact ay Z Z ⟨Z,aq.pop⟩
theorem BY {G:Cx} (hG:Plain G) {K:KP} {k:Nat} {x:XC} {vs:List Y} {V:B} {L:Own} (aq:H V K L) (h:jF K k x vs) (most:Int):aT Tryz.prog G 32 [.agg vs,.int .i64 most] V fun v V'=>v= .bool (qG k most x)/\H V' K L:=by
 have h':=h;obtain⟨v0,rfl,hk⟩:=h';refine Qf hG Tryz.func32 Z<|PK 2 Z<|kp aq Z (cL Z Z) (fun V b1 aq=>?_);refine Oh 6 Z<|Qn aq 2 [1,0] Z Z<|S Z (QZ hk Z Z Z (e:=97) Z) Z<|PM 4 Z<|aC Z (fun d=>?_) (fun d=>?_)
 ·refine PL 7 Z ?_;exact ay Z Z ⟨cB (by unfold qG;rw[d];rfl),aq.pop⟩
 refine aG<|OU 7 Z ?_;obtain⟨LL1,aq,hLL1⟩:=aq.named;refine ba ([4,5,6]++rg 12 37) (fun j t V=>∃(i:Nat),j+i=x.ins.length/\(x.ins.take i).all (vE k)=true/\t.get 5=some (.int .i64 (.ofNat i))/\H V K LL1) (x.ins.length) ⟨0,Z,Z,Z,aq⟩ ?_;clear aq;intro j4 t V an hI;obtain⟨i,hj,ha,aE,aq⟩:=hI;subst hLL1;obtain⟨oo,rfl⟩:=an.q1 aE Z;refine Pa aq 6 [1,0] Z Z<|S Z (QZ hk Z Z Z (e:=97) Z) Z<|PM 3 Z<|aC Z (fun F=>?_) (fun F=>?_)
 ·refine Nz 5 Z<|PK 2 Z<|Qn aq 3 [1,0] Z Z ?_;obtain⟨I,b,a1⟩:=cO F;refine QQ (e:=97) (m:=6) hk b Z Z Z Z (fun bl a2 R a3 T=>?_);have hr22':=T;obtain⟨bm,rfl,C⟩:=hr22';refine eB R Z Z Z (k:=5) J (lb Z) (fun _=>Z) (fun bo U=>?_);refine S Z (Q4 aq U Z Z) Z<|S Z (QZ C Z Z Z (e:=100) Z) Z<|PM 3 Z<|aC Z (fun A=>?_) (fun A=>?_)
  ·refine Qk 6 Z<|az<|aK<|az<|bp<|aK<|az (?_);exact ay Z Z ⟨cB (by unfold qG;rw[d,yI b (by unfold vE;rw[A];rfl)];rfl),aq.pop⟩
  refine aG<|PK 3 Z<|OX 3 Z ?_;obtain⟨LL2,aq,hLL2⟩:=aq.named;refine ba ([4,6]++rg 27 22) (fun j t V=>∃(W:Nat),j+W=I.exprs.length/\(I.exprs.take W).all (fun e=>Dh k e 60)=true/\t.get 6=some (.int .i64 (.ofNat W))/\H V K LL2) (I.exprs.length) ⟨0,Z,Z,Z,aq⟩ ?_;clear aq;intro j9 t V an hI;obtain⟨W,bs,X,a0,aq⟩:=hI;subst hLL2;obtain⟨oo,rfl⟩:=an.q1 a0 Z;refine Pa aq 7 [1,0] Z Z<|QQ (e:=97) (m:=6) hk b Z Z Z Z (fun bt a4 aa a5 ab=>?_);have hr31':=ab;obtain⟨bv,rfl,ac⟩:=hr31';refine eB aa Z Z Z (k:=5) J (lb Z) (fun _=>Z) (fun bw ak=>?_);refine S Z (Q4 aq ak Z Z) Z<|S Z (QZ ac Z Z Z (e:=100) Z) Z<|PM 3 Z<|aC Z (fun M=>?_) (fun M=>?_)
  ·refine NA 6 Z<|Qn aq 3 [1,0] Z Z<|QQ (e:=97) (m:=6) hk b Z Z Z Z (fun bX a9 am bb ao=>?_);have hr41':=ao;obtain⟨b0,rfl,ap⟩:=hr41';refine eB am Z Z Z (k:=5) J (lb Z) (fun _=>Z) (fun b2 au=>?_);refine S Z (Q4 aq au Z Z) Z<|vQ 1 Z ?_;obtain⟨b3,u,bd⟩:=cO M;refine QQ (e:=100) (m:=4) ap u Z Z Z Z (fun b4 be av bi E=>?_);obtain⟨b5,b6,b7,b8,rfl,bk⟩:=E.shape;refine S Z (Q5 aq av Z Z) Z<|bh Z (QV Z Z Z) (fun _=>Z) (Lb hG aq E _) (fun V aq=>?_);refine S Z (dX Z) Z<|PM 2 Z<|aC Z (fun Q=>?_) (fun Q=>?_)
   ·refine Qk 6 Z<|aK<|az<|bp<|aK<|aK<|az<|bp<|aK<|az (?_);exact ay Z Z ⟨cB (by unfold qG;rw[d,yI b (by unfold vE;rw[A,yI u (by simpa using Q)];rfl)];rfl),aq.pop⟩
   refine aG<|aH<|Qj 5 Z<|aL ⟨j9-1,by omega,oF,W+1,by omega,uD X u (by simpa using Q),cI<|aZ (by have:=C.bM;omega),aq⟩
  refine OW 3 Z<|aN<|aH<|Qj 5 Z<|aL ⟨j4-1,by omega,oF,i+1,by omega,uD ha b (by unfold vE;rw[A,yJ X<|bx M];rfl),cI<|aZ (by have:=hk.bM;omega),aq⟩
 refine OW 3 Z<|aN<|Qk 6 Z ?_;exact ay Z Z ⟨cB (by unfold qG;rw[d,yJ ha<|bx F];rfl),aq.pop⟩
theorem zY {G:Cx} (M:Plain G) {K:KP} {k:Nat} {l:List XC} {v:Y} {V:B} {L:Own} (aq:H V K L) (h:bI K 2 (jF K k) l v) (most:Int):aT Tryz.prog G 6 [v,.int .i64 most] V fun v V'=>v= .bool (uh k most l)/\H V' K L:=by
 refine Qf M Tryz.func6 Z<|OU 12 Z ?_;obtain⟨LL1,aq,hLL1⟩:=aq.named;refine ba (rg 4 19) (fun j t V=>∃(i:Nat),j+i=l.length/\(l.take i).all (qG k most)=true/\t.get 5=some (.int .i64 (.ofNat i))/\H V K LL1) (l.length) ⟨0,Z,Z,Z,aq⟩ ?_;clear aq;intro Q t V an R;obtain⟨i,hj,F,I,aq⟩:=R;subst hLL1;obtain⟨oo,rfl⟩:=an.q1 I Z;refine OV 5 Z<|S Z (QZ h Z Z Z (e:=63) Z) Z<|vQ 1 Z<|ky Z (N Z) (fun u=>?_) (fun u=>?_)
 ·refine PM 5 Z<|aC Z (fun A=>?_) (fun A=>?_)
  ·refine NA 8 Z ?_;obtain⟨am,b,aa⟩:=cO u;refine QQ (e:=63) (m:=2) h b Z Z Z Z (fun ao ab E ac d=>?_);have hr18':=d;obtain⟨ap,rfl,ak⟩:=hr18';refine S Z (Q5 aq E Z Z) Z<|vQ 1 Z<|bh Z (QV Z Z Z) (fun _=>Z) (BY M aq d _) (fun V aq=>?_);refine S Z (dX Z) Z<|PM 2 Z<|aC Z (fun C=>?_) (fun C=>?_)
   ·refine Qk 6 Z<|aK<|az<|bp<|aK<|az (?_);exact ay Z Z ⟨cB (by unfold uh;rw[JN b (aU A) (by simpa using C)];rfl),aq⟩
   refine aG<|aH<|Qj 5 Z<|aL ⟨Q-1,by omega,oF,i+1,by omega,uD F b (by simpa using C),cI<|aZ (by have:=h.bM;omega),aq⟩
  refine OW 3 Z<|aN<|PK 3 Z<|S Z (QZ h Z Z Z (e:=63) Z) Z<|PN 5 Z ?_;exact ay Z Z ⟨cB (by unfold uh;rw[Ak F<|bx A];rfl),aq⟩
 refine O0 8 Z<|aQ<|aN<|PK 3 Z<|S Z (QZ h Z Z Z (e:=63) Z) Z<|PN 5 Z ?_;exact ay Z Z ⟨cB (by unfold uh;rw[yJ (i:=i) (by rw[List.take_take];exact Ak F<|Nat.min_le_left _ _) (by rw[lT_];have:=bx u;omega)];rfl),aq⟩
theorem LF {l:List XC} {all:List XG} {i q:Nat} {g x:XG} (d:∀g∈all.take i,eC l g=0) (m:∀g∈all,r8 g) (u:eC l g=0) (b:r8 g) (hx:all[i]? =some g) (h:mT l (all.take i) x∨x∈(fu l g).take q):dy x/\r8 x/\eC l x=0:=by
 rcases h with h | h
 ·exact wS d (fun y hy=>m y (List.mem_of_mem_take hy)) h
 have:=me u b (List.mem_of_mem_take h);exact⟨this.1,this.2.2.1,this.2.2.2.1⟩
theorem HX {os:List XG} {q:Nat} {g x:XG} {b:Bool} (hb:b=true) (h:b=true↔g∈os.take q) (hx:os[q]? =some x):true=true↔g∈os.take (q+1):=⟨fun _=>by rw[dh hx];exact List.mem_append_left _<|h.1 hb,fun _=>Z⟩
theorem HW {os:List XG} {q:Nat} {g x:XG} {b:Bool} (hb:b=false) (h:b=true↔g∈os.take q) (hx:os[q]? =some x):bD (dD x g) 0=true↔g∈os.take (q+1):=by
 rw[dh hx,List.mem_append,List.mem_singleton];constructor
 ·exact fun e=>.inr (qZ<|mz e).symm
 rintro (e | e)
 ·rw[h.2 e] at hb;cases hb
 rw[e,oB];rfl
theorem wo {l:List XC} {gs:List XG}:(zC l gs).length=(jc l gs).length:=by unfold zC;rw[lM_]
theorem KC {l:List XC} {gs:List XG} {q:Nat} {x:Int} {f:XG} (h:(zC l gs)[q]? =some x) (hf:(jc l gs)[q]? =some f):x=Int.ofNat (fu l f).length:=by
 unfold zC at h;rw[gM_,hf] at h;cases h;rfl
def wE (l:List XC) (fs:List XG) (q:Nat):Nat:=((fs.take q).map fun x=>(fu l x).length).sum
theorem yi {l:List XC} {fs:List XG} {q:Nat} {f:XG} (h:fs[q]? =some f):wE l fs (q+1)=wE l fs q+(fu l f).length:=by
 unfold wE;rw[dh h,List.map_append,List.sum_append];simp
theorem Jb {l:List XC} {fs:List XG} {q:Nat} (h:fs.length<=q):wE l fs q=(fs.map fun x=>(fu l x).length).sum:=by
 unfold wE;rw[tL_ h]
theorem KO {l:List XC} {fs:List XG} (q:Nat):wE l fs q<=(fs.map fun x=>(fu l x).length).sum:=by
 unfold wE
 conv=>rhs;rw[<-List.take_append_drop q fs,List.map_append,List.sum_append]
 omega
theorem Jc {l:List XC} {fs:List XG} {q w:Nat} {f:XG} (h:(fs.map fun x=>(fu l x).length).sum=w) (_:fs[q]? =some f):wE l fs (q+1)<=w:=by rw[<-h];exact KO _
theorem z1 {G G0:Cx} (hS:Nt G G0) (gv:G.ov 151=true) (g2:∀a s,G.w9 94 a s=none) (cn:G.Jg 5 []=some (.bool true)) {K:KP} (b0:∀V L,H V K L->sB G.gl V G.laid=true) {k:Nat} {l:List XC} {lv:Y} (hl:bI K 2 (jF K k) l lv) {all:List XG} {av:Y} (bo:bI K 4 (RG K) all av) (hI:∀g∈all,r8 g) {V:B} {L:Own} (aq:H V K L):
  aT Tryz.prog G 4 [lv,av] V fun v V'=>v= .bool true:=by
 have hG:=hS.p;refine aW hG Tryz.func4 Z (t:=(D.leaf.put (some (lv)) 0).put (some (av)) 1) (by rfl) ?_;refine ai ?_;refine ah Z ?_;refine S Z (aj Z) Z ?_;refine af ?_;refine ad ?_;refine ai ?_;refine ai ?_;refine ah Z ?_;refine bh Z (aR Z Z Z J) (fun _=>Z) (HC (v:=.bool true) (hG.h1 _ _ _ Z) cn Z Z (b0 _ _ aq) ⟨Z,aq⟩) (fun V aq=>?_);refine S Z (dX Z) Z ?_;refine af ?_;refine ad ?_;refine bf Z ?_;refine aG ?_;refine ad ?_;refine ai ?_;refine ai ?_;refine ah Z ?_;refine S Z (N Z) Z ?_;refine bh Z (aR Z Z Z J) (fun _=>Z) (zY hG aq hl _) (fun V aq=>?_);refine S Z (dX Z) Z ?_;refine bg Z (N Z) (fun _=>Z) (fun g3=>?_) (fun g3=>?_)
 ·refine ae Z Z ?_;refine ae Z Z ?_;refine ae Z Z ?_;refine S Z (aI Z Z) Z ?_;refine S Z (N Z) Z ?_;refine ae Z Z ?_;refine ae Z Z ?_;refine ae Z Z ?_;refine S Z (aI Z Z) Z ?_;refine af ?_;refine ad ?_;refine bn Z ?_;refine ai ?_;refine ah Z ?_;refine S Z (aj Z) Z ?_;refine af ?_;refine ad ?_;refine aD ?_;refine az (?_);exact ay Z Z Z
 refine S Z (N Z) Z ?_;refine dJ Z (aR Z Z Z J) (fun _=>Z) (BW hG bo 20 _ aq) ?_;rintro _ V ⟨⟨g4,rfl,cp⟩,aq⟩;refine S Z (dX Z) Z ?_;refine S Z (aI Z Z) Z ?_;refine bg Z (N Z) (fun _=>Z) (fun cr=>?_) (fun cr=>?_)
 ·refine ae Z Z ?_;refine ae Z Z ?_;refine ae Z Z ?_;refine S Z (aI Z Z) Z ?_;refine af ?_;refine ad ?_;refine bn Z ?_;refine ai ?_;refine ah Z ?_;refine S Z (aj Z) Z ?_;refine af ?_;refine ad ?_;refine aD ?_;refine az (?_);exact ay Z Z Z
 refine S Z (N Z) Z ?_;refine S Z (aO hl Z Z Z (e:=63) J Z) Z ?_;refine S Z (aA Z Z Z) Z ?_;refine S Z (aI Z Z) Z ?_;refine af ?_;refine ad ?_;refine aC Z (fun cv=>?_) (fun cv=>?_)
 ·refine ai ?_;refine ah Z ?_;refine S Z (aj Z) Z ?_;refine af ?_;refine ad ?_;refine aD ?_;refine az (?_);exact ay Z Z Z
 have Q:l.length<=4:=bx (a:=4) cv;have lx:all.length<=20:=cp (by cases g4 with | true=>rfl | false=>cases cr);refine aG ?_;refine ad ?_;refine ai ?_;refine ah Z ?_;refine S Z (aj Z) Z ?_;refine af ?_;refine ad ?_;refine ai ?_;refine ai ?_;refine ah Z ?_;refine S Z (aj Z) Z ?_;refine af ?_;refine ad ?_;refine aJ ?_;refine ba [4,5,6,7,8,9,10,11,12,33,34,35,36,37,38,39,40,41,42,43,44,45,46,47,48,49,50,51,52,53,54,55,56,57,58,59,60,61,62,63,64,65,66,67,68,69,70,71,72,73,74,75,76,77,78,79,80,81,82,83,84,85,86,87,88,89,90,91,92,93,94,95,96,97,98,99,100,101,102,103,104,105,106,107,108,109,110,111,112,113,114,115,116,117,118,119,120,121,122,123,124,125,126,127,128,129,130] (fun j t V=>∃(i:Nat) (K2:KP) (uw:Y) (whole:List XG) (MW:Own),(j+i=all.length/\KP.le K K2/\(∀g∈all.take i,eC l g=0)/\Wh (mT l<|all.take i) whole/\whole.length<=i*256/\dP 4 27 (RG K2) whole uw MW)/\t.get 5=some (uw)/\t.get 6=some (.int .i64 (.ofNat i))/\H V K2 (MW++L)) (all.length) ⟨0,K,.aB,[],[],⟨Z,KP.le_refl _,(fun g hg=>by rw[List.take_zero] at hg;cases hg),⟨List.nodup_nil,fun x=>⟨fun h=>(by cases h),fun⟨g,hg,_⟩=>by rw[List.take_zero] at hg;cases hg⟩⟩,Nat.zero_le _,.inl ⟨Z,Z,Z⟩⟩,Z,Z,aq⟩ ?_;clear aq;intro j7 t V an hI;obtain⟨i,K2,uw,whole,MW,⟨ly,W,hE,I,i1,hW⟩,ab,b1,aq⟩:=hI;replace an:=an.bR Z Z;obtain⟨o4,o5,o6,o7,o8,o9,cw,g5,an⟩:=an;replace an:=an.bR Z Z;obtain⟨g6,l0,mc,md,mo,mp,ms,mt,an⟩:=an;replace an:=an.bR Z Z;obtain⟨mx,m0,m3,m4,m5,m6,m7,m8,an⟩:=an;replace an:=an.bR Z Z;obtain⟨m9,nd,ne,nl,nm,nn,no,nx,an⟩:=an;replace an:=an.bR Z Z;obtain⟨n0,n1,n2,n3,n4,n5,n6,n7,an⟩:=an;replace an:=an.bR Z Z;obtain⟨n8,g7,g9,ha,hc,hk,hn,ho,an⟩:=an;replace an:=an.bR Z Z;obtain⟨hr,hs,ht,hu,hw,hA,hB,hC,an⟩:=an;replace an:=an.bR Z Z;obtain⟨hD,hF,hH,hK,hL,hM,hN,hO,an⟩:=an;replace an:=an.bR Z Z;obtain⟨hP,hQ,hR,hT,hU,hV,hX,hY,an⟩:=an;replace an:=an.bR Z Z;obtain⟨h2,h3,h6,h7,cx,c0,c1,c2,an⟩:=an;replace an:=an.bR Z Z;obtain⟨c3,c4,c5,c7,c8,c9,dd,df,an⟩:=an;replace an:=an.bR Z Z;obtain⟨dk,dl,dm,dr,ds,dx,dA,d0,an⟩:=an;replace an:=an.bR Z Z;obtain⟨d1,d2,d3,d4,d5,i2,i3,i4,an⟩:=an;replace an:=an.eb Z;obtain⟨i5,an⟩:=an;replace an:=an.eb Z;obtain⟨i6,an⟩:=an;replace an:=an.eb Z;obtain⟨i7,an⟩:=an;obtain rfl:=an.nil;clear an;replace ab:o5=some _:=ab;subst ab;replace b1:o6=some _:=b1;subst b1;refine ai ?_;refine ai ?_;refine ah Z ?_;have hall2:=bo.mono W fun _ _ h=>h.mono W;have hl2:=hl.mono W fun _ _ h=>h.mono W
 refine S Z (N Z) Z ?_;refine S Z (N Z) Z ?_;refine S Z (aO hall2 Z Z Z (e:=27) J Z) Z ?_;refine S Z (aA Z Z Z) Z ?_;refine af ?_;refine ad ?_;refine aC Z (fun X=>?_) (fun X=>?_)
 ·refine aG ?_;refine ad ?_;refine ai ?_;refine aJ ?_;refine ai ?_;refine ai ?_;refine ah Z ?_;refine S Z (N Z) Z ?_;refine S Z (N Z) Z ?_;obtain⟨A,C,i9⟩:=cO X;refine bO (e:=27) (m:=4) hall2 C Z Z J J Z Z (fun _=>Z) (fun ob je d6 jj d7=>?_);have hr41':=d7;obtain⟨od,ol,on,os,rfl,d8⟩:=hr41';refine S Z (bC aq d6 Z J Z) Z ?_;refine bh Z (aR Z Z Z J) (fun _=>Z) (GO hG d8 aq) (fun V aq=>?_);refine S Z (aA Z Z Z) Z ?_;refine bg Z (N Z) (fun _=>Z) (fun d9=>?_) (fun d9=>?_)
  ·refine ae Z Z ?_;refine ae Z Z ?_;refine ae Z Z ?_;refine ae Z Z ?_;refine ae Z Z ?_;refine ae Z Z ?_;refine ae Z Z ?_;refine ae Z Z ?_;refine ae Z Z ?_;refine S Z (aI Z Z) Z ?_;refine af ?_;refine ad ?_;refine bn Z ?_;refine ai ?_;refine ah Z ?_;refine S Z (aj Z) Z ?_;refine af ?_;refine ad ?_;refine aD ?_;refine az<|aK<|az<|bp<|aK<|az (?_);exact ay Z Z Z
  refine S Z (N Z) Z ?_;refine S Z (N Z) Z ?_;refine bO (e:=27) (m:=4) hall2 C Z Z J J Z Z (fun _=>Z) (fun o0 jp ee jw eg=>?_);have hr48':=eg;obtain⟨o1,o2,o3,pa,rfl,el⟩:=hr48';refine eB ee Z Z Z (k:=1) J (Nat.le_of_ble_eq_true Z) (fun _=>Z) (fun pc em=>?_);refine S Z (aM aq em Z J Z) Z ?_;refine S Z (aO el.threads Z Z Z (e:=64) J Z) Z ?_;refine S Z (N Z) Z ?_;refine S Z (aO hl2 Z Z Z (e:=63) J Z) Z ?_;refine S Z (aA Z Z Z) Z ?_;refine S Z (aI Z Z) Z ?_;refine af ?_;refine ad ?_;refine aC Z (fun en=>?_) (fun en=>?_)
  ·refine ai ?_;refine ah Z ?_;refine S Z (aj Z) Z ?_;refine af ?_;refine ad ?_;refine aD ?_;refine az<|aK<|az<|bp<|aK<|az (?_);exact ay Z Z Z
  refine aG ?_;refine ad ?_;refine ai ?_;refine ah Z ?_;refine S Z (N Z) Z ?_;refine S Z (N Z) Z ?_;refine S Z (N Z) Z ?_;refine bO (e:=27) (m:=4) hall2 C Z Z J J Z Z (fun _=>Z) (fun pi jS eo j1 er=>?_);have hr60':=er;obtain⟨pl,pn,po,pp,rfl,es⟩:=hr60';refine S Z (bC aq eo Z J Z) Z ?_;have h8:cy A=0:=nC d9;have hR1:=eK.1 h8;have h9:l.length=A.threads.length:=(iJ_<|nC en).symm;have hE1:eC l A=0:=EJ Q hR1 h9;have hI1:=hI A (gB_ C);refine dJ Z (aR Z Z Z J) (fun _=>Z) (ur hS hl2 es aq) ?_;rintro _ V ⟨K3,pq,rfl,a4,et,aq⟩;refine S Z (N Z) Z ?_;refine S Z (bK Z Z) Z ?_;refine S Z (bK Z Z) Z ?_;refine S Z (aj Z) Z ?_;refine S Z (aj Z) Z ?_;refine af ?_;refine ad ?_;refine ai ?_;refine ah Z ?_;refine S Z (aj Z) Z ?_;refine af ?_;refine ad ?_;refine ai ?_;refine ai ?_;refine ah Z ?_;refine S Z (aj Z) Z ?_;refine af ?_;refine ad ?_;refine aJ ?_;refine ba [4,5,9,10,11,12,65,66,67,68,69,70,71,72,73,74,75,76,77,78,79,80,81,82,83,84,85,86,87,88,89,90,91,92,93,94,95,96,97,98,99,100,101,102,103,104,105,106,107,108,109,110,111,112,113,114,115,116,117,118,119,120,121,122,123,124] (fun j t V=>∃(q:Nat) (K4:KP) (uw:Y) (whole:List XG) (MW:Own) (inb:Bool),(j+q=(fu l A).length/\KP.le K3 K4/\Wh (fun y=>mT l (all.take i) y∨y∈(fu l A).take q) whole/\whole.length<=i*256+q/\dP 4 27 (RG K4) whole uw MW/\(inb=true↔A∈(fu l A).take q))/\t.get 5=some (uw)/\t.get 9=some (.bool inb)/\t.get 10=some (.int .i64 (.ofNat q))/\H V K4 (MW++L)) ((fu l A).length) ⟨0,K3,_,whole,MW,false,⟨Z,KP.le_refl _,I.congr base_start,by omega,hW.mV fun _ _ h=>RG.mono a4 h,⟨fun h=>(by cases h),fun h=>by rw[List.take_zero] at h;cases h⟩⟩,Z,Z,Z,aq⟩ ?_;clear aq;intro bl t V an hI;obtain⟨q,K4,uw,whole,MW,inb,⟨j2,F,I,j3,hW,aa⟩,ab,b2,a5,aq⟩:=hI;replace an:=an.bR Z Z;obtain⟨o4,o5,o9,cw,g5,g6,g7,g9,an⟩:=an;replace an:=an.bR Z Z;obtain⟨ha,hc,hk,hn,ho,hr,hs,ht,an⟩:=an;replace an:=an.bR Z Z;obtain⟨hu,hw,hA,hB,hC,hD,hF,hH,an⟩:=an;replace an:=an.bR Z Z;obtain⟨hK,hL,hM,hN,hO,hP,hQ,hR,an⟩:=an;replace an:=an.bR Z Z;obtain⟨hT,hU,hV,hX,hY,h2,h3,h6,an⟩:=an;replace an:=an.bR Z Z;obtain⟨h7,cx,c0,c1,c2,c3,c4,c5,an⟩:=an;replace an:=an.bR Z Z;obtain⟨c7,c8,c9,dd,df,dk,dl,dm,an⟩:=an;replace an:=an.bR Z Z;obtain⟨dr,ds,dx,dA,d0,d1,d2,d3,an⟩:=an;replace an:=an.eb Z;obtain⟨d4,an⟩:=an;replace an:=an.eb Z;obtain⟨d5,an⟩:=an;obtain rfl:=an.nil;clear an;replace ab:o5=some _:=ab;subst ab;replace b2:o9=some _:=b2;subst b2;replace a5:cw=some _:=a5;subst a5;refine ai ?_;refine ai ?_;refine ah Z ?_
  have hle24:=KP.le_trans a4 F;have hall4:=hall2.mono hle24 fun _ _ h=>h.mono hle24;have hl4:=hl2.mono hle24 fun _ _ h=>h.mono hle24;have hs4:=et.mono F fun _ _ h=>h.mono F
  refine S Z (N Z) Z ?_;refine S Z (N Z) Z ?_;refine S Z (aO hs4 Z Z Z (e:=27) J Z) Z ?_;refine S Z (aA Z Z Z) Z ?_;refine af ?_;refine ad ?_;refine aC Z (fun d=>?_) (fun d=>?_)
  ·refine aG ?_;refine ad ?_;refine ai ?_;refine aJ ?_;refine ai ?_;refine ah Z ?_;refine S Z (N Z) Z ?_;refine S Z (N Z) Z ?_;refine S Z (N Z) Z ?_;obtain⟨bm,b,j4⟩:=cO d;refine bO (e:=27) (m:=4) hs4 b Z Z J J Z Z (fun _=>Z) (fun pr j5 ev j6 ex=>?_);have hr75':=ex;obtain⟨ps,pt,pu,pv,rfl,e0⟩:=hr75';refine S Z (bC aq ev Z J Z) Z ?_;obtain⟨hR75,hT75,hI75,hE75,hX75⟩:=me hE1 hI1 (gB_ b);refine dJ Z (aR Z Z Z J) (fun _=>Z) (ur hS hl4 e0 aq) ?_;rintro _ V ⟨K5,px,rfl,u,a9,aq⟩;rw[hX75] at a9;have hs5:=hs4.mono u fun _ _ h=>h.mono u;have hl5:=hl4.mono u fun _ _ h=>h.mono u;have hall5:=hall4.mono u fun _ _ h=>h.mono u;have hW5:=hW.mV fun _ _ h=>RG.mono u h
   refine S Z (N Z) Z ?_;refine S Z (bK Z Z) Z ?_;refine S Z (bK Z Z) Z ?_;refine S Z (aj Z) Z ?_;refine S Z (aj Z) Z ?_;refine af ?_;refine ad ?_;refine ai ?_;refine aX (l:=[(0,[]),(1,[]),(2,[]),(3,[]),(4,[]),(5,[]),(6,[]),(7,[]),(8,[]),(9,[]),(10,[]),(11,[]),(12,[])]) J J ?_;refine al Z Z (N Z) Z ?_;refine oU Z Z (N Z) (fun _=>Z) (fun bb=>?_) (fun bb=>?_)
   ·refine aF Z Z Z ?_;refine aF Z Z Z ?_;refine aF Z Z Z ?_;refine aF Z Z Z ?_;refine aF Z Z Z ?_;refine aF Z Z Z ?_;refine aF Z Z Z ?_;refine aF Z Z Z ?_;refine aF Z Z Z ?_;refine al Z Z (aI Z Z) Z ?_;refine al Z Z (aj Z) Z ?_;refine bj ?_;refine ad ?_;refine ai ?_;refine ai ?_;refine ah Z ?_;refine S Z (N Z) Z ?_;refine S Z (aA (v:=.bool false) Z Z (by rw[hE75];rfl)) Z ?_;refine S Z (N Z) Z ?_;refine S Z (N Z) Z ?_;refine S Z (N Z) Z ?_;refine dJ Z (aR Z Z Z J) (fun _=>Z) (BX hG hs5 a9 aq) ?_;rintro _ V ⟨⟨b3,rfl,bd⟩,aq⟩;obtain rfl:b3=true:=bd.2 Z;refine S Z (dX Z) Z ?_;refine S Z (aI Z Z) Z ?_;refine S Z (N Z) Z ?_;refine S Z (N Z) Z ?_;refine S Z (N Z) Z ?_;refine S Z (N Z) Z ?_;refine bO (e:=27) (m:=4) hs5 b Z Z J J Z Z (fun _=>Z) (fun e3 b4 ac b5 ak=>?_);have hr104':=ak;obtain⟨e4,e5,e6,e7,rfl,am⟩:=hr104';refine S Z (bC aq ac Z J Z) Z ?_;refine bh Z (aR Z Z Z J) (fun _=>Z) (by have q:=zV hS hl5 am aq;rw[vf hE1 hI1 b] at q;exact q) (fun V aq=>?_);refine S Z (N Z) Z ?_;refine S Z (aA Z Z Z) Z ?_;refine S Z (aA (v:=.bool false) Z Z (by cases hb:bD (.ofNat q) 0<;>rfl)) Z ?_;refine S Z (aI Z Z) Z ?_;refine af ?_;refine ad ?_;refine bf Z ?_;refine aG ?_;refine ad ?_;refine ai ?_;refine ah Z ?_;refine S Z (N Z) Z ?_;refine S Z (N Z) Z ?_;refine S Z (N Z) Z ?_;refine bO (e:=27) (m:=4) hs5 b Z Z J J Z Z (fun _=>Z) (fun e8 b6 ao b7 ap=>?_);have hr114':=ap;obtain⟨e9,fd,fi,fk,rfl,au⟩:=hr114';refine S Z (bC aq ao Z J Z) Z ?_;have b8:∀x∈whole,dy x:=fun x hx=>(LF hE hI hE1 hI1 C ((I.mem x).1 hx)).1
    have hst0:=aq;refine dJ Z (aR Z Z Z J) (fun _=>Z) (Fi hG (hW5.w8.mono (fun _ _ h=>h) fun _ _ h=>RG.mono (KP.dQ _ _) h) b8 (au.mono<|KP.dQ _ _) hR75 aq.keeps) ?_;rintro _ V ⟨⟨be,rfl,T⟩,aq⟩;replace aq:=hst0.wL aq;refine S Z (dX Z) Z ?_;refine af ?_;refine ad ?_;refine aC Z (fun E=>?_) (fun E=>?_)
    ·refine ah Z ?_;refine S Z (N Z) Z ?_;refine S Z (N Z) Z ?_;refine S Z (N Z) Z ?_;refine bO (e:=27) (m:=4) hs5 b Z Z J J Z Z (fun _=>Z) (fun fv b9 aE ca a0=>?_);have hr121':=a0;obtain⟨f0,f1,f2,f3,rfl,a1⟩:=hr121';refine S Z (bC aq aE Z J Z) Z ?_;refine jY aq Z (cM (e:=27) (m:=4) (z:=[.aB,.aB,.aB,.aB]) (cs:=[_,_,_,_]) J J J J<|bB Z Z Z Z cj) (fun _=>Z) (fun V f4 aq=>?_);have cb:bm∉whole:=fun hm=>by rw[T.2 hm] at E;cases E
     refine iA (R:=RG K5) (m:=4) (e:=27) hW5 aq (fL (m:=4) (x:=bm) Z ⟨_,_,_,_,Z,a1⟩) RG.leaf (by simp only[List.length_cons,List.length_nil];have:=aU X;have:=aU d;have:=kE (g:=A) Q;omega) Z Z Z Z Z Z Z (fun _=>Z) (fun V f5 MW2 hW2 aq=>?_);refine S Z (aj Z) Z ?_;refine af ?_;refine aH ?_;refine ad ?_;refine ah Z ?_;refine S Z (N Z) Z ?_;refine S Z (aA (v:=.int .i64 (.ofNat (q+1))) Z Z (congrArg (fun z=>some (Y.int .i64 z)) (aZ (by have:=aU d;have:=kE (l:=l) (g:=A) Q;omega)))) Z ?_;refine S Z (aj Z) Z ?_;refine af ?_;refine aL ⟨bl-1,(by have:=aU d;omega),(by(iterate 131 refine a8.put Z ?_);exact a8.refl _ _),q+1,K5,_,_,_,true,⟨by have:=aU d;omega,KP.le_trans F u,(I.add cb).congr<|tZ b,by rw[lA_];simp only[List.length_cons,List.length_nil];omega,hW2,HX bb aa b⟩,Z,Z,Z,aq⟩
    refine aG ?_;refine aH ?_;refine ad ?_;refine ah Z ?_;refine S Z (N Z) Z ?_;refine S Z (aA (v:=.int .i64 (.ofNat (q+1))) Z Z (congrArg (fun z=>some (Y.int .i64 z)) (aZ (by have:=aU d;have:=kE (l:=l) (g:=A) Q;omega)))) Z ?_;refine S Z (aj Z) Z ?_;refine af ?_;refine aL ⟨bl-1,(by have:=aU d;omega),(by(iterate 123 refine a8.put Z ?_);exact a8.refl _ _),q+1,K5,_,_,_,true,⟨by have:=aU d;omega,KP.le_trans F u,(I.mb<|T.1 (by cases be with | true=>rfl | false=>cases E)).congr<|tZ b,by omega,hW5,HX bb aa b⟩,Z,Z,Z,aq⟩
   refine al Z Z (N Z) Z ?_;refine al Z Z (N Z) Z ?_;refine cP (e:=27) (m:=4) hs5 b Z Z Z J J Z Z (fun _=>Z) (fun py j9 f6 kc f7=>?_);have hr84':=f7;obtain⟨pP,pQ,pT,p0,rfl,f8⟩:=hr84';refine al Z Z (bC aq f6 Z J Z) Z ?_;refine al Z Z (N Z) Z ?_;refine al Z Z (N Z) Z ?_;refine cP (e:=27) (m:=4) hall5 C Z Z Z J J Z Z (fun _=>Z) (fun p1 kd f9 kk gc=>?_);have hr88':=gc;obtain⟨p2,p3,p4,p5,rfl,ge⟩:=hr88';refine al Z Z (bC aq f9 Z J Z) Z ?_;refine fe Z Z (aR Z Z Z J) (fun _=>Z) (EU hG f8 ge hR75 hR1 aq) (fun V aq=>?_);refine⟨bq,?_⟩;refine al Z Z (aI Z Z) Z ?_;refine al Z Z (aj Z) Z ?_;refine bj ?_;refine ad ?_;refine ai ?_;refine ai ?_;refine ah Z ?_;refine S Z (N Z) Z ?_;refine S Z (aA (v:=.bool false) Z Z (by rw[hE75];rfl)) Z ?_;refine S Z (N Z) Z ?_;refine S Z (N Z) Z ?_;refine S Z (N Z) Z ?_;refine dJ Z (aR Z Z Z J) (fun _=>Z) (BX hG hs5 a9 aq) ?_;rintro _ V ⟨⟨b3,rfl,bd⟩,aq⟩;obtain rfl:b3=true:=bd.2 Z;refine S Z (dX Z) Z ?_;refine S Z (aI Z Z) Z ?_;refine S Z (N Z) Z ?_;refine S Z (N Z) Z ?_;refine S Z (N Z) Z ?_;refine S Z (N Z) Z ?_;refine bO (e:=27) (m:=4) hs5 b Z Z J J Z Z (fun _=>Z) (fun e3 b4 ac b5 ak=>?_);have hr104':=ak;obtain⟨e4,e5,e6,e7,rfl,am⟩:=hr104';refine S Z (bC aq ac Z J Z) Z ?_;refine bh Z (aR Z Z Z J) (fun _=>Z) (by have q:=zV hS hl5 am aq;rw[vf hE1 hI1 b] at q;exact q) (fun V aq=>?_);refine S Z (N Z) Z ?_;refine S Z (aA Z Z Z) Z ?_;refine S Z (aA (v:=.bool false) Z Z (by cases hb:bD (.ofNat q) 0<;>rfl)) Z ?_;refine S Z (aI Z Z) Z ?_;refine af ?_;refine ad ?_;refine bf Z ?_;refine aG ?_;refine ad ?_;refine ai ?_;refine ah Z ?_;refine S Z (N Z) Z ?_;refine S Z (N Z) Z ?_;refine S Z (N Z) Z ?_;refine bO (e:=27) (m:=4) hs5 b Z Z J J Z Z (fun _=>Z) (fun e8 b6 ao b7 ap=>?_);have hr114':=ap;obtain⟨e9,fd,fi,fk,rfl,au⟩:=hr114';refine S Z (bC aq ao Z J Z) Z ?_;have b8:∀x∈whole,dy x:=fun x hx=>(LF hE hI hE1 hI1 C ((I.mem x).1 hx)).1
   have hst0:=aq;refine dJ Z (aR Z Z Z J) (fun _=>Z) (Fi hG (hW5.w8.mono (fun _ _ h=>h) fun _ _ h=>RG.mono (KP.dQ _ _) h) b8 (au.mono<|KP.dQ _ _) hR75 aq.keeps) ?_;rintro _ V ⟨⟨be,rfl,T⟩,aq⟩;replace aq:=hst0.wL aq;refine S Z (dX Z) Z ?_;refine af ?_;refine ad ?_;refine aC Z (fun E=>?_) (fun E=>?_)
   ·refine ah Z ?_;refine S Z (N Z) Z ?_;refine S Z (N Z) Z ?_;refine S Z (N Z) Z ?_;refine bO (e:=27) (m:=4) hs5 b Z Z J J Z Z (fun _=>Z) (fun fv b9 aE ca a0=>?_);have hr121':=a0;obtain⟨f0,f1,f2,f3,rfl,a1⟩:=hr121';refine S Z (bC aq aE Z J Z) Z ?_;refine jY aq Z (cM (e:=27) (m:=4) (z:=[.aB,.aB,.aB,.aB]) (cs:=[_,_,_,_]) J J J J<|bB Z Z Z Z cj) (fun _=>Z) (fun V f4 aq=>?_);have cb:bm∉whole:=fun hm=>by rw[T.2 hm] at E;cases E
    refine iA (R:=RG K5) (m:=4) (e:=27) hW5 aq (fL (m:=4) (x:=bm) Z ⟨_,_,_,_,Z,a1⟩) RG.leaf (by simp only[List.length_cons,List.length_nil];have:=aU X;have:=aU d;have:=kE (g:=A) Q;omega) Z Z Z Z Z Z Z (fun _=>Z) (fun V f5 MW2 hW2 aq=>?_);refine S Z (aj Z) Z ?_;refine af ?_;refine aH ?_;refine ad ?_;refine ah Z ?_;refine S Z (N Z) Z ?_;refine S Z (aA (v:=.int .i64 (.ofNat (q+1))) Z Z (congrArg (fun z=>some (Y.int .i64 z)) (aZ (by have:=aU d;have:=kE (l:=l) (g:=A) Q;omega)))) Z ?_;refine S Z (aj Z) Z ?_;refine af ?_;refine aL ⟨bl-1,(by have:=aU d;omega),(by(iterate 131 refine a8.put Z ?_);exact a8.refl _ _),q+1,K5,_,_,_,_,⟨by have:=aU d;omega,KP.le_trans F u,(I.add cb).congr<|tZ b,by rw[lA_];simp only[List.length_cons,List.length_nil];omega,hW2,HW bb aa b⟩,Z,Z,Z,aq⟩
   refine aG ?_;refine aH ?_;refine ad ?_;refine ah Z ?_;refine S Z (N Z) Z ?_;refine S Z (aA (v:=.int .i64 (.ofNat (q+1))) Z Z (congrArg (fun z=>some (Y.int .i64 z)) (aZ (by have:=aU d;have:=kE (l:=l) (g:=A) Q;omega)))) Z ?_;refine S Z (aj Z) Z ?_;refine af ?_;refine aL ⟨bl-1,(by have:=aU d;omega),(by(iterate 123 refine a8.put Z ?_);exact a8.refl _ _),q+1,K5,_,_,_,_,⟨by have:=aU d;omega,KP.le_trans F u,(I.mb<|T.1 (by cases be with | true=>rfl | false=>cases E)).congr<|tZ b,by omega,hW5,HW bb aa b⟩,Z,Z,Z,aq⟩
  refine bc ?_;refine aP ?_;refine aQ ?_;refine aN ?_;refine ad ?_;refine ai ?_;refine ah Z ?_;refine S Z (N Z) Z ?_;refine S Z (aA (v:=.bool false) Z Z (by rw[hE1];rfl)) Z ?_;refine S Z (N Z) Z ?_;refine S Z (N Z) Z ?_;refine S Z (dX Z) Z ?_;refine S Z (aI Z Z) Z ?_;refine af ?_;refine ad ?_;refine aC Z (fun bs=>?_) (fun bs=>?_)
  ·exact absurd (aa.2 (by rw[tL_<|bx d,ji hE1];exact vS (ry hE1).1)) (by cases inb with | true=>cases bs | false=>decide)
  refine aG ?_;refine aH ?_;refine ad ?_;refine ah Z ?_;refine S Z (N Z) Z ?_;refine S Z (aA (v:=.int .i64 (.ofNat (i+1))) Z Z<|congrArg (fun z=>some (Y.int .i64 z))<|aZ (by have:=aU X;omega)) Z ?_;refine S Z (aj Z) Z ?_;refine af ?_;refine aL ⟨j7-1,(by have:=aU X;omega),(by(iterate 220 refine a8.put Z ?_);exact a8.refl _ _),i+1,K4,_,whole,MW,⟨by have:=aU X;omega,KP.le_trans W<|KP.le_trans a4 F,fun g hg=>by rw[dh C] at hg;exact(List.mem_append.1 hg).elim (hE g) fun h=>by rw[List.mem_singleton.1 h];exact hE1,I.congr<|Hb C<|bx d,by have:=kE (g:=A) Q;omega,hW⟩,Z,Z,aq⟩
 refine bc ?_;refine aP ?_;refine aQ ?_;refine aN ?_;refine ad ?_;refine ai ?_;refine ah Z ?_;have ia:all.length<=i:=bx X;rw[tL_ ia] at hE I;have bt:∀x∈whole,dy x/\r8 x/\eC l x=0:=fun x hx=>wS hE hI ((I.mem x).1 hx)
 have gr:∀x∈whole,eC l x=0:=fun x hx=>(bt x hx).2.2;have gs:∀x∈whole,r8 x:=fun x hx=>(bt x hx).2.1;have ib:whole.length<=100000:=by omega
 obtain⟨K6,bv,bw,aq⟩:=aq.eA (M:=MW);have hw6:=(hW.mV (R':=RG K6) fun _ _ h=>h.mono bv).lJ (K:=K6) bw;clear bw;have hle26:=KP.le_trans W bv;have hl6:=hl.mono hle26 fun _ _ h=>h.mono hle26;have hRE:=wq Q gr;have hsum:=KD Q hE hI I
 refine S Z (N Z) Z ?_;refine S Z (N Z) Z ?_;refine dJ Z (aR Z Z Z J) (fun _=>Z) (Jm hS gv g2 hl6 hw6 gs ib aq) ?_;rintro _ V ⟨K7,p6,p7,rfl,bX,hF7,hS7,aq⟩;have hl7:=hl6.mono bX fun _ _ h=>h.mono bX
 refine S Z (N Z) Z ?_;refine S Z (bK Z Z) Z ?_;refine S Z (bK Z Z) Z ?_;refine S Z (bK Z Z) Z ?_;refine S Z (aj Z) Z ?_;refine S Z (aj Z) Z ?_;refine S Z (aj Z) Z ?_;refine af ?_;refine ad ?_;refine ai ?_;refine ah Z ?_;refine S Z (aj Z) Z ?_;refine af ?_;refine ad ?_;refine ai ?_;refine ai ?_;refine ah Z ?_;refine S Z (aj Z) Z ?_;refine af ?_;refine ad ?_;refine aJ ?_;refine ba [4,16,17,138,139,140,141,142,143,144,145,146,147,148,149,150,151,152,153,154,155,156] (fun j t V=>∃(q:Nat),(j+q=(zC l whole).length)/\t.get 16=some (.int .i64 (.ofNat<|wE l (jc l whole) q))/\t.get 17=some (.int .i64 (.ofNat q))/\H V K7 (L)) ((zC l whole).length) ⟨0,Z,Z,Z,aq⟩ ?_;clear aq;intro ih t V an hI;obtain⟨q,kl,bi,bk,aq⟩:=hI;replace an:=an.bR Z Z;obtain⟨o4,ii,il,kn,ko,ks,kt,kw,an⟩:=an;replace an:=an.bR Z Z;obtain⟨kR,k0,k1,k2,k3,k4,k5,k6,an⟩:=an;replace an:=an.r4 Z;obtain⟨k7,k8,la,lc,an⟩:=an;replace an:=an.eb Z;obtain⟨ld,an⟩:=an;replace an:=an.eb Z;obtain⟨li,an⟩:=an;obtain rfl:=an.nil;clear an;replace bi:ii=some _:=bi;subst bi;replace bk:il=some _:=bk;subst bk;refine ai ?_;refine ai ?_;refine ah Z ?_;refine S Z (N Z) Z ?_;refine S Z (N Z) Z ?_;refine S Z (aO hS7 Z Z Z (e:=3) J Z) Z ?_;refine S Z (aA Z Z Z) Z ?_;refine af ?_;refine ad ?_;refine aC Z (fun U=>?_) (fun U=>?_)
 ·refine aG ?_;refine ad ?_;refine ai ?_;refine aJ ?_;refine ai ?_;refine ah Z ?_;refine S Z (N Z) Z ?_;refine S Z (N Z) Z ?_;refine S Z (N Z) Z ?_;obtain⟨gt,a2,im⟩:=cO U;refine bO (e:=3) (m:=1) hS7 a2 Z Z J J Z Z (fun _=>Z) (fun lm io cc ip ce=>?_);obtain rfl:=ce;refine S Z (aM aq cc Z J Z) Z ?_;have hxs:=a2;obtain⟨fq,a3⟩:=cF (show q<(jc l whole).length by have:=aU U;rw[wo] at this;exact this);have it:gt=Int.ofNat (fu l fq).length:=KC a2 a3;have hsq:=Jc (q:=q) (l:=l) (fs:=jc l whole) hsum a3;refine S Z (aA (v:=.int .i64 (.ofNat<|wE l (jc l whole) (q+1))) Z Z<|congrArg (fun z=>some (Y.int .i64 z)) (by rw[it,yi a3];exact Lh (by rw[<-yi a3];omega))) Z ?_;refine S Z (aj Z) Z ?_;refine af ?_;refine ad ?_;refine ai ?_;refine ah Z ?_;refine S Z (N Z) Z ?_;refine S Z (N Z) Z ?_;refine S Z (N Z) Z ?_;refine bO (e:=27) (m:=4) hF7 a3 Z Z J J Z Z (fun _=>Z) (fun ln ix ch iz ci=>?_);have hr153':=ci;obtain⟨lo,lp,ls,lw,rfl,ck⟩:=hr153';refine S Z (bC aq ch Z J Z) Z ?_;refine bh Z (aR Z Z Z J) (fun _=>Z) (by have q:=zV hS hl7 ck aq;rw[DC Q gr gs<|gB_ a3] at q;exact q) (fun V aq=>?_);refine S Z (dX Z) Z ?_;refine af ?_;refine ad ?_;refine bf Z ?_;refine aG ?_;refine aH ?_;refine ad ?_;refine ah Z ?_;refine S Z (N Z) Z ?_;refine S Z (aA (v:=.int .i64 (.ofNat (q+1))) Z Z<|congrArg (fun z=>some (Y.int .i64 z))<|aZ (by have:=aU U;have:=hS7.bM;omega)) Z ?_;refine S Z (aj Z) Z ?_;refine af ?_;refine aL ⟨ih-1,(by have:=aU U;omega),(by(iterate 43 refine a8.put Z ?_);exact a8.refl _ _),q+1,by have:=aU U;omega,Z,Z,aq⟩
 refine bc ?_;refine aP ?_;refine aQ ?_;refine aN ?_;refine ad ?_;refine ai ?_;refine ah Z ?_;refine S Z (N Z) Z ?_;refine S Z (aA (v:=.bool true) Z Z (by rw[hRE];rfl)) Z ?_;refine S Z (N Z) Z ?_;refine S Z (N Z) Z ?_;refine S Z (N Z) Z ?_;refine S Z (aO hw6 Z Z Z (e:=27) J Z) Z ?_;have iJ:(jc l whole).length<=q:=by have:=bx U;rw[wo] at this;exact this
 have i0:wE l (jc l whole) q=whole.length:=by rw[Jb iJ];exact hsum
 refine S Z (aA (v:=.bool true) Z Z (by rw[i0];show some (Y.bool<|bD _ _)=_;rw[fj])) Z ?_;refine S Z (aI Z Z) Z ?_;refine S Z (N Z) Z ?_;refine S Z (N Z) Z ?_;refine S Z (aO hF7 Z Z Z (e:=27) J Z) Z ?_;refine S Z (N Z) Z ?_;refine S Z (aO hS7 Z Z Z (e:=3) J Z) Z ?_;refine S Z (aA (v:=.bool true) Z Z (by rw[wo];show some (Y.bool<|bD _ _)=_;rw[fj])) Z ?_;refine S Z (aI Z Z) Z ?_;refine S Z (aj Z) Z ?_;refine af ?_;refine ad ?_;refine aD ?_;exact ay Z Z Z
end Go.Ev
namespace Go.Ev
variable [Env]
open Go.Proofs
set_option maxRecDepth 100000
set_option maxHeartbeats 8000000
theorem za:Tryz.prog.follows .mixedOrders=true:=by kernel_rfl
def EC (g:Nat):Bool:=Nat.beq g 151
def Ip (_:Nat):Bool:=false
theorem Od:r7 Tryz.prog 151:=.inr ⟨by kernel_rfl,Tryz.f151,Tryz.func151,by kernel_rfl,by kernel_rfl,by kernel_rfl,by kernel_rfl⟩
theorem MD (g:Nat) (h:EC g=true):r7 Tryz.prog g:=by rw[nB h];exact Od
def GL:Cx:=⟨0,EC,Ip,fun _ _=>none,[],[],fun _ _ _=>none,fun _ _ _=>none⟩
theorem PG:wX Tryz.prog GL:=⟨MD,(fun f args v h=>by cases h),(fun e h=>by cases h),(fun f a s v s' h=>by cases h)⟩
theorem Oy (E:Nat->TypeId):oc (AK Tryz.prog GL 4000 5 [] (VG 0 [] E))=true:=by kernel_rfl
theorem Mr:D8 Tryz.prog 0 [] 5 [] (.bool true):=Df (G:=GL) za PG (by rfl) Oy
end Go.Ev
namespace Go.Proofs
open Go.Shelf Go.Ev
def Tryz.DM:Go.Shelf.Ren:=⟨fun | 6=>50 | 15=>91 | 14=>90 | 28=>129 | 29=>130 | 20=>121 | 21=>122 | 22=>123 | 23=>124 | 24=>125 | 25=>126 | 26=>127 | 27=>128 | 46=>146 | 47=>147 | 48=>148 | 49=>149 | 50=>150 | 57=>160 | n=>n,fun | 22=>29 | 24=>27 | 25=>78 | 3=>3 | 39=>124 | 0=>0 | 53=>165 | 55=>167 | 4=>4 | 46=>159 | 45=>158 | 50=>85 | 5=>5 | 9=>9 | 66=>177 | 70=>181 | 76=>191 | 77=>192 | n=>n,fun | n=>n⟩
theorem Tryz.MU:Go.Proofs.SlLaysF0.n6 Tryz.prog Tryz.DM:={
 mixed:=by kernel_rfl
 f6:=⟨Tryz.f50.name,by decide,Tryz.func50.trans<|congrArg some J⟩
 f14:=⟨Tryz.f90.name,by decide,Tryz.func90.trans<|congrArg some J⟩
 f15:=Tryz.func91.trans (congrArg some J)
 f20:=⟨Tryz.f121.name,by decide,Tryz.func121.trans<|congrArg some J⟩
 f21:=⟨Tryz.f122.name,by decide,Tryz.func122.trans<|congrArg some J⟩
 f22:=⟨Tryz.f123.name,by decide,Tryz.func123.trans<|congrArg some J⟩
 f23:=⟨Tryz.f124.name,by decide,Tryz.func124.trans<|congrArg some J⟩
 f24:=⟨Tryz.f125.name,by decide,Tryz.func125.trans<|congrArg some J⟩
 f25:=⟨Tryz.f126.name,by decide,Tryz.func126.trans<|congrArg some J⟩
 f26:=⟨Tryz.f127.name,by decide,Tryz.func127.trans<|congrArg some J⟩
 f27:=⟨Tryz.f128.name,by decide,Tryz.func128.trans<|congrArg some J⟩
 f28:=Tryz.func129.trans (congrArg some J)
 f29:=Tryz.func130.trans (congrArg some J)
 f46:=⟨Tryz.f146.name,by decide,Tryz.func146.trans<|congrArg some J⟩
 f47:=Tryz.func147.trans (congrArg some J)
 f48:=Tryz.func148.trans (congrArg some J)
 f49:=⟨Tryz.f149.name,by decide,Tryz.func149.trans<|congrArg some J⟩
 f50:=⟨Tryz.f150.name,by decide,Tryz.func150.trans<|congrArg some J⟩
 f57:=⟨Tryz.f160.name,by decide,Tryz.func160.trans<|congrArg some J⟩
 t0:=Tryz.underlying0
 a0:=Tryz.isAgg0
 z0:=Tryz.sizeOf0
 v0:=Tryz.zeroValue0
 t3:=Tryz.underlying3
 a3:=Tryz.isAgg3
 z3:=Tryz.sizeOf3
 v3:=Tryz.zeroValue3
 t4:=Tryz.underlying4
 a4:=Tryz.isAgg4
 z4:=Tryz.sizeOf4
 v4:=Tryz.zeroValue4
 t5:=Tryz.underlying5
 a5:=Tryz.isAgg5
 z5:=Tryz.sizeOf5
 v5:=Tryz.zeroValue5
 t9:=Tryz.underlying9
 a9:=Tryz.isAgg9
 z9:=Tryz.sizeOf9
 v9:=Tryz.zeroValue9
 t22:=Tryz.underlying29
 a22:=Tryz.isAgg29
 z22:=Tryz.sizeOf29
 v22:=Tryz.zeroValue29
 t25:=Tryz.underlying78
 a25:=Tryz.isAgg78
 z25:=Tryz.sizeOf78
 v25:=Tryz.zeroValue78
 t39:=Tryz.underlying124
 a39:=Tryz.isAgg124
 z39:=Tryz.sizeOf124
 v39:=Tryz.zeroValue124
 t45:=Tryz.underlying158
 a45:=Tryz.isAgg158
 z45:=Tryz.sizeOf158
 v45:=Tryz.zeroValue158
 t46:=Tryz.underlying159
 a46:=Tryz.isAgg159
 z46:=Tryz.sizeOf159
 v46:=Tryz.zeroValue159
 t50:=Tryz.underlying85
 a50:=Tryz.isAgg85
 z50:=Tryz.sizeOf85
 v50:=Tryz.zeroValue85
 t53:=Tryz.underlying165
 a53:=Tryz.isAgg165
 z53:=Tryz.sizeOf165
 v53:=Tryz.zeroValue165
 t55:=Tryz.underlying167
 a55:=Tryz.isAgg167
 z55:=Tryz.sizeOf167
 v55:=Tryz.zeroValue167
 t66:=Tryz.underlying177
 a66:=Tryz.isAgg177
 z66:=Tryz.sizeOf177
 v66:=Tryz.zeroValue177
 t70:=Tryz.underlying181
 a70:=Tryz.isAgg181
 z70:=Tryz.sizeOf181
 v70:=Tryz.zeroValue181
 t76:=Tryz.underlying191
 a76:=Tryz.isAgg191
 z76:=Tryz.sizeOf191
 v76:=Tryz.zeroValue191
 t77:=Tryz.underlying192
 a77:=Tryz.isAgg192
 z77:=Tryz.sizeOf192
 v77:=Tryz.zeroValue192}
def Tryz.DN:Go.Shelf.Ren:=⟨fun | 6=>54 | 15=>91 | 14=>99 | 28=>129 | 29=>130 | 20=>134 | 21=>135 | 22=>136 | 23=>137 | 24=>138 | 25=>139 | 26=>140 | 27=>141 | 46=>156 | 47=>147 | 48=>148 | 49=>157 | 50=>158 | 57=>165 | n=>n,fun | 22=>82 | 24=>87 | 25=>89 | 3=>3 | 39=>124 | 0=>0 | 53=>165 | 55=>167 | 4=>4 | 46=>159 | 45=>158 | 50=>85 | 5=>5 | 9=>9 | 66=>177 | 70=>181 | 76=>191 | 77=>192 | n=>n,fun | n=>n⟩
theorem Tryz.MV:Go.Proofs.SlLaysF0.n6 Tryz.prog Tryz.DN:={
 mixed:=by kernel_rfl
 f6:=⟨Tryz.f54.name,by decide,Tryz.func54.trans<|congrArg some J⟩
 f14:=⟨Tryz.f99.name,by decide,Tryz.func99.trans<|congrArg some J⟩
 f15:=Tryz.func91.trans (congrArg some J)
 f20:=⟨Tryz.f134.name,by decide,Tryz.func134.trans<|congrArg some J⟩
 f21:=⟨Tryz.f135.name,by decide,Tryz.func135.trans<|congrArg some J⟩
 f22:=⟨Tryz.f136.name,by decide,Tryz.func136.trans<|congrArg some J⟩
 f23:=⟨Tryz.f137.name,by decide,Tryz.func137.trans<|congrArg some J⟩
 f24:=⟨Tryz.f138.name,by decide,Tryz.func138.trans<|congrArg some J⟩
 f25:=⟨Tryz.f139.name,by decide,Tryz.func139.trans<|congrArg some J⟩
 f26:=⟨Tryz.f140.name,by decide,Tryz.func140.trans<|congrArg some J⟩
 f27:=⟨Tryz.f141.name,by decide,Tryz.func141.trans<|congrArg some J⟩
 f28:=Tryz.func129.trans (congrArg some J)
 f29:=Tryz.func130.trans (congrArg some J)
 f46:=⟨Tryz.f156.name,by decide,Tryz.func156.trans<|congrArg some J⟩
 f47:=Tryz.func147.trans (congrArg some J)
 f48:=Tryz.func148.trans (congrArg some J)
 f49:=⟨Tryz.f157.name,by decide,Tryz.func157.trans<|congrArg some J⟩
 f50:=⟨Tryz.f158.name,by decide,Tryz.func158.trans<|congrArg some J⟩
 f57:=⟨Tryz.f165.name,by decide,Tryz.func165.trans<|congrArg some J⟩
 t0:=Tryz.underlying0
 a0:=Tryz.isAgg0
 z0:=Tryz.sizeOf0
 v0:=Tryz.zeroValue0
 t3:=Tryz.underlying3
 a3:=Tryz.isAgg3
 z3:=Tryz.sizeOf3
 v3:=Tryz.zeroValue3
 t4:=Tryz.underlying4
 a4:=Tryz.isAgg4
 z4:=Tryz.sizeOf4
 v4:=Tryz.zeroValue4
 t5:=Tryz.underlying5
 a5:=Tryz.isAgg5
 z5:=Tryz.sizeOf5
 v5:=Tryz.zeroValue5
 t9:=Tryz.underlying9
 a9:=Tryz.isAgg9
 z9:=Tryz.sizeOf9
 v9:=Tryz.zeroValue9
 t22:=Tryz.underlying82
 a22:=Tryz.isAgg82
 z22:=Tryz.sizeOf82
 v22:=Tryz.zeroValue82
 t25:=Tryz.underlying89
 a25:=Tryz.isAgg89
 z25:=Tryz.sizeOf89
 v25:=Tryz.zeroValue89
 t39:=Tryz.underlying124
 a39:=Tryz.isAgg124
 z39:=Tryz.sizeOf124
 v39:=Tryz.zeroValue124
 t45:=Tryz.underlying158
 a45:=Tryz.isAgg158
 z45:=Tryz.sizeOf158
 v45:=Tryz.zeroValue158
 t46:=Tryz.underlying159
 a46:=Tryz.isAgg159
 z46:=Tryz.sizeOf159
 v46:=Tryz.zeroValue159
 t50:=Tryz.underlying85
 a50:=Tryz.isAgg85
 z50:=Tryz.sizeOf85
 v50:=Tryz.zeroValue85
 t53:=Tryz.underlying165
 a53:=Tryz.isAgg165
 z53:=Tryz.sizeOf165
 v53:=Tryz.zeroValue165
 t55:=Tryz.underlying167
 a55:=Tryz.isAgg167
 z55:=Tryz.sizeOf167
 v55:=Tryz.zeroValue167
 t66:=Tryz.underlying177
 a66:=Tryz.isAgg177
 z66:=Tryz.sizeOf177
 v66:=Tryz.zeroValue177
 t70:=Tryz.underlying181
 a70:=Tryz.isAgg181
 z70:=Tryz.sizeOf181
 v70:=Tryz.zeroValue181
 t76:=Tryz.underlying191
 a76:=Tryz.isAgg191
 z76:=Tryz.sizeOf191
 v76:=Tryz.zeroValue191
 t77:=Tryz.underlying192
 a77:=Tryz.isAgg192
 z77:=Tryz.sizeOf192
 v77:=Tryz.zeroValue192}
end Go.Proofs
namespace Go.Ev
variable [Env]
open Go.Proofs
set_option maxRecDepth 100000
set_option maxHeartbeats 8000000
def Gz (f:Nat) (args:List Y):Option Y:=bif Nat.beq f 5 then(match args with | []=>some (.bool true) | _=>none) else none
def NC:Cx:=⟨0,EC,Ip,Gz,[],[],fun _ _ _=>none,fun _ _ _=>none⟩
theorem Fe (f:Nat) (args:List Y) (v:Y) (h:Gz f args=some v):D8 Tryz.prog 0 [] f args v:=by
 unfold Gz at h;cases h5:Nat.beq f 5 with
 | true=>
  rw[h5] at h;simp only[cond_true] at h;cases args with
  | nil=>cases h;rw[nB h5];exact Mr
  | cons _ _=>cases h
 | false=>
  rw[h5] at h;cases h
theorem yr (f:Nat) (a:List Y) (h:F5 f=false):Gz f a=none:=by
 unfold Gz;rw[show Nat.beq f 5=false from h];rfl
theorem LO:wX Tryz.prog NC:=⟨MD,Fe,(fun e h=>by cases h),(fun f a s v s' h=>by cases h)⟩
theorem IG:Plain NC:=⟨fun _ _ _ _=>Z,yr,Z,fun _ _ _=>Z,fun f h=>Z⟩
def H3 (f:Nat) (a:List Y) (s:B):Option (Y×B):=
 bif Nat.beq f 50 then rL Tryz.prog NC 50 4 (fun g=>Nat.beq g 49) f a s else bif Nat.beq f 54 then rL Tryz.prog NC 54 5 (fun g=>Nat.beq g 55) f a s else none
def GC:Cx:=⟨0,EC,Ip,Gz,[],[],fun _ _ _=>none,H3⟩
theorem Pq (g:Nat) (h:Nat.beq g 49=true) (args:Array Value) (w:World):(callFunc g args).run Tryz.prog w= .ok (.enter g args) w:=by
 obtain rfl:=nB h;exact enters_of Tryz.func49 J Z args w
theorem Pr (g:Nat) (h:Nat.beq g 55=true) (args:Array Value) (w:World):(callFunc g args).run Tryz.prog w= .ok (.enter g args) w:=by
 obtain rfl:=nB h;exact enters_of Tryz.func55 J Z args w
theorem PF:wX Tryz.prog GC:=by
 refine⟨MD,Fe,(fun e h=>by cases h),fun f a s v s' h O w xs hi b hx=>?_⟩;have h:H3 f a s=some (v,s'):=h;unfold H3 at h;cases h1:Nat.beq f 50 with
 | true=>
  rw[h1] at h;simp only[cond_true] at h;exact wA za LO Tryz.MU (by decide) Tryz.isAgg27 Tryz.sizeOf27 Pq h O w xs hi b hx
 | false=>
  rw[h1] at h;simp only[cond_false] at h;cases d:Nat.beq f 54 with
  | true=>
   rw[d] at h;simp only[cond_true] at h;exact wA za LO Tryz.MV (by decide) Tryz.isAgg87 Tryz.sizeOf87 Pr h O w xs hi b hx
  | false=>
   rw[d] at h;cases h
theorem Kx:Plain GC:=⟨fun f a s h=>by
 show H3 f a s=none;unfold Gs at h;unfold H3;cases h1:Nat.beq f 50 with
 | true=>rw[nB h1] at h;cases h
 | false=>
  cases b:Nat.beq f 54 with
  | true=>rw[nB b] at h;cases h
  | false=>rfl,yr,Z,fun _ _ _=>Z,fun f h=>Z⟩
theorem OC:Nt GC NC:=⟨Kx,IG,fun a s=>Z,fun a s=>Z⟩
theorem Pw (O:Ren):GR O GC:=fun g h=>absurd h (nZ_ _)
section
variable {H_:Type} {enc:TypeId×Value->H_} {w:World}
theorem H6 (X:Fv w) {F:Nat} {u A:Value} {C E:DataW H_×List MemPlace} (s0:uz w u) (s1:uz w A)
  (t0:DataW.trod enc Tryz.prog w 0 (fun _=>true) true (F+6) 22 [u]=some C) (M:DataW.trod enc Tryz.prog w 0 (fun _=>true) true (F+6) 29 [A]=some E):
  ∃(O:Ren) (V:B) (k:Nat) (l:List XC) (all:List XG) (I K:Y),Inv O V w/\hJ V/\cA O [I] [u]/\cA O [K] [A]/\bI (rY V) 2 (jF (rY V) k) l I/\bI (rY V) 4 (RG<|rY V) all K/\(∀g∈all,r8 g):=by
 by_cases hw:∃(r:Nat) (c:Array Value) (e:TypeId) (fr:Nat×Nat),w.heap[r]? =some (Obj.cells c e fr)
 ·obtain⟨ρ1,Q,R,i1,r1,l1,d0,T⟩:=lay hw (F+6) 22 [u] C.1 C.2 t0 _ _ (NZ w X) hJ.leaf;obtain⟨ρ2,L,aa,i2,r2,l2,d1,U⟩:=lay hw (F+6) 29 [A] E.1 E.2 M _ _ i1 r1;have n1:∀(b:Nat) (o:bU),Q.m.get b=some o->b<Q.next:=fun b o h=>cT.fresh i1 h
  have W:∀(b:Nat) (o:bU),L.m.get b=some o->b<L.next:=fun b o h=>cT.fresh i2 h
  have G:KP.le (rY Q) (rY L):=fun b o h=>⟨W b o<|l2.get b o h.2,l2.get b o h.2⟩
  obtain⟨I,rfl,q0⟩:=HO n1 (F+1) C.1 R (kY _ _ _ _ C.2 t0) d0;have hI:=KG W (kY _ _ _ _ E.2 M) d1;obtain⟨K,rfl,q1⟩:=HP W (kY _ _ _ _ E.2 M) d1;exact⟨ρ2,L,F+1,_,_,I,K,i2,r2,T.mono l2.le,U,q0.mono G fun _ _ h=>h.mono G,q1,hI⟩
 have d:∀v,uz w v->v= .slice none 0 0:=fun v hv=>by
  rcases hv with h | ⟨a,len,cap,c',e,fr,_,hb⟩
  ·exact h
  exact absurd ⟨_,_,_,_,hb⟩ hw
 obtain rfl:=d u s0;obtain rfl:=d A s1;have vn:∀O:Ren,VR O .aB (.slice none 0 0):=fun O=>by simp only[VR]
 exact⟨fun _=>none,V0,0,[],[],.aB,.aB,NZ w X,hJ.leaf,cA.cons (vn _) cA.nil,cA.cons (vn _) cA.nil,.inl ⟨Z,Z⟩,.inl ⟨Z,Z⟩,(fun c h=>by cases h)⟩
end
end Go.Ev
end
