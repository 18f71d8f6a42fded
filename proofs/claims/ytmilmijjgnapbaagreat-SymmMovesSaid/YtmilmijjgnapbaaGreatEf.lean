/- Part of the proof: an evaluator of the model's code, rules for walks on it, walks. Without conditions. -/
import Derived.Test.YtmilmijjgnapbaaGreatEb
import Derived.Test.YtmilmijjgnapbaaGreatEe
import Derived.Test.YtmilmijjgnapbaaGreatEc
import Derived.Test.YtmilmijjgnapbaaGreatEd
import Derived.Test.YtmilmijjgnapbaaGreatProg
import Derived.KernelRfl
set_option linter.unusedSectionVars false
set_option linter.unusedVariables false
set_option linter.unusedSimpArgs false
noncomputable section
namespace Go.Ev
variable [Env]
open Go.Proofs
set_option maxRecDepth 4000
set_option maxHeartbeats 8000000
theorem Rf {G:Cx} (R:Plain G) {K:KP} {g:XG} {va vb vc vd:U} (hg:gY K g va vb vc vd) (m:Int) {V:aE} {L:Own} (ar:D V K L):
  bu Tryz.prog G 31 [.int .i64 m,.agg [va,vb,vc,vd]] V fun v V'=>(∃y0 X y2:Int,v= .tuple [.agg [.int .i64 y0,.int .i64 X,.int .i64 y2],.bool<|uZ m g])/\D V' K L:=by
 refine SQ R Tryz.func31 Z<|Sm 2 Z<|kp ar Z (cC Z Z) (fun V b1 ar=>?_);refine kp ar Z (TG (cs:=[N,N,N])) (fun V b2 ar=>?_);refine RE 6 Z<|cM Z (TB Z Z Z) (fun _=>Z) (GU R m ar) ?_;rintro am V ⟨K1,u,hrl,ar⟩;replace hg:=hg.mono u;refine Q9 7 Z<|Y Z (TF hrl Z Z Z (e:=3) Z) Z<|So 3 Z<|aD Z (fun z=>?_) (fun z=>?_)
 ·refine Sm 2 Z (Y Z (TA (places:=[(0,1),(1,1),(2,1)]) (zero:=[N,N,N]) (cs:=[_,_,_]) Z) Z<|bZ ar Z (TJ Z Z Z ar.g0 (m:=3) Z Z (cells':=[_,_,_]) Z) Z (fun V ar=>?_));refine RG 5 Z ?_;exact cA Z Z ar.g0 (m:=3) O Z Z ⟨⟨_,_,_,by rw[show uZ m g=false from by unfold uZ;rw[show H (.ofNat (gj m).length) 0=true from z]<;>rfl]<;>rfl⟩,(ar.pop.pop).weaken u⟩
 refine RB 4 Z<|Y Z (TE Z ar.g1 (n:=4) (vs:=[_,_,_,_]) Z) Z<|cM Z (TB Z Z Z) (fun _=>Z) (Rc R hg ar) ?_;rintro _ V (⟨S,rfl,ar⟩ | ⟨T,K2,u0,u1,u2,u3,ue,up,ul,us,uh,rfl,w,E,ar⟩)
 ·refine SY 3 Z<|kp ar Z (TG (cs:=[N,.az,N,.az,N,.az,N,.az,N,.az,N,.az,N,.az,N,.az,N,.az])) (fun V b3 ar=>?_);refine bZ ar Z (TJ Z Z Z ar.g0 (m:=18) Z Z (cells':=[_,_,_,_,_,_,_,_,_,_,_,_,_,_,_,_,_,_]) Z) Z (fun V ar=>?_);refine Q9 8 Z<|So 2 Z<|aD Z (fun A=>?_) (fun A=>?_)
  ·refine Sm 2 Z (Y Z (TA (places:=[(0,1),(1,1),(2,1)]) (zero:=[N,N,N]) (cs:=[_,_,_]) Z) Z<|gS ar Z (TJ Z Z Z ar.g1 (m:=3) Z Z (cells':=[_,_,_]) Z) Z (fun V ar=>?_));refine RG 5 Z ?_;exact cA Z Z ar.g1 (m:=3) O Z Z ⟨⟨_,_,_,by rw[show uZ m g=true from by unfold uZ;rw[show H (.ofNat (gj m).length) 0=false from z,S]<;>rfl]<;>rfl⟩,(ar.pop.pop.pop).weaken u⟩
  exact absurd A (by decide)
 replace hg:=hg.mono w;replace hrl:=hrl.mono w (fun _ _ h=>h);refine SY 3 Z<|kp ar Z (TG (cs:=[N,.az,N,.az,N,.az,N,.az,N,.az,N,.az,N,.az,N,.az,N,.az])) (fun V b3 ar=>?_);refine bZ ar Z (TJ Z Z Z ar.g0 (m:=18) Z (aj Z<|aj E.po.leaf.2<|aj Z<|aj E.rf.leaf.2<|aj Z<|aj E.co.leaf.2<|aj Z<|aj E.fr.leaf.2<|aj Z<|aj E.QM.leaf.2<|aj Z<|aj E.PR.leaf.2<|aj Z<|aj E.loc.leaf.2<|aj Z<|aj E.sw.leaf.2<|aj Z<|aj E.hb.leaf.2 aI) (cells':=[_,_,_,_,_,_,_,_,_,_,_,_,_,_,_,_,_,_]) Z) Z (fun V ar=>?_);refine Q9 8 Z<|So 2 Z<|aD Z (fun A=>?_) (fun A=>?_)
 ·exact absurd A (by decide)
 refine Q7 9 Z (bf ([5,9,10,11]++rg 26 18) (fun j t V=>∃(k:Nat),j+k=(gj m).length/\(gj m).any (eI g)=((gj m).drop k).any (eI g)/\t.get 9=some (.int .i64 (.ofNat k))/\D V K2 ((b3,.row (sY (nV g) u0 u1 u2 u3 ue up ul us uh) 116 false)::(b2,.row [N,N,N] 78 false)::(b1,.row [va,vb,vc,vd] 27 false)::L)) ((gj m).length) ⟨0,Z,Z,Z,ar⟩ ?_);clear ar;intro j8 t V an hI;obtain⟨k,ao,he,W,ar⟩:=hI;obtain⟨oo,rfl⟩:=an.q1 W Z;refine Ry 5 Z<|Y Z (TF hrl Z Z Z (e:=3) Z) Z<|So 3 Z<|aD Z (fun B=>?_) (fun B=>?_)
 ·refine Qr 5 Z (aU (l:=[(0,[]),(1,[]),(2,[]),(3,[]),(4,[]),(5,[]),(10,[]),(6,[10]),(7,[]),(8,[]),(9,[]),(11,[]),(12,[])]) O O<|S0 2 Z ?_);obtain⟨F,C,aa⟩:=cK B;refine Tx (e:=3) (m:=1) hrl C Z Z Z Z Z (fun ap ab M ac Q=>?_);obtain rfl:=Q;refine ai Z Z (TH ar M Z Z) Z<|ai Z Z (TE Z (ar.get 2 Z) (n:=4) (vs:=[_,_,_,_]) Z) Z<|ai Z Z (TE Z ar.g0 (n:=18) (vs:=[_,_,_,_,_,_,_,_,_,_,_,_,_,_,_,_,_,_]) Z) Z<|qd ar Z Z (TG (cs:=[N,N,N])) (fun _=>Z) (fun V b4 ar=>?_);refine fB Z Z (TB Z Z Z) (fun _=>Z) (Lq R hg T F E ar) ?_;rintro _ V ⟨⟨X,y2,rfl⟩,ar⟩;refine⟨(bx (iE Z Z Z Z Z (cs:=[N,N,N]) (e:=78) O ar.g0 O) ba),?_⟩;refine S0 3 Z<|iM ar Z Z (TJ Z Z Z ar.g0 (m:=3) Z Z (cells':=[_,_,_]) Z) Z (fun V ar=>?_);refine⟨ba,?_⟩;refine Ss 8 Z<|aD Z (fun I=>?_) (fun I=>?_)
  ·refine Sm 2 Z<|Y Z (TE Z ar.g0 (n:=3) (vs:=[_,_,_]) Z) Z<|sA ar Z (TJ Z Z Z (ar.get 2 Z) (m:=3) Z Z (cells':=[_,_,_]) Z) Z (fun V ar=>?_);refine Sr 4 Z<|aK<|aA<|bD<|aK<|aA (?_);exact cA Z Z (ar.get 2 Z) (m:=3) O Z Z ⟨⟨_,_,_,by rw[show uZ m g=true from by unfold uZ;rw[show H (.ofNat (gj m).length) 0=false from z,ef.2 T];show(gj m).any (eI g)=_;rw[he,cu C,List.any_cons,show eI g F=true from I];rfl]<;>rfl⟩,(ar.pop.pop.pop.pop).weaken<|KP.le_trans u w⟩
  refine aG<|aC<|SV 5 Z ?_;have ar:=ar.pop;have hlp:=bc B;refine aH ⟨j8-1,by have:=bc B;omega,oF,k+1,by omega,by rw[he,cu C,List.any_cons,show eI g F=false from I];rfl,cI<|aW (by have:=hrl.bO;omega),ar⟩
 refine RC 3 Z (aL (Sm 2 Z (Y Z (TA (places:=[(0,1),(1,1),(2,1)]) (zero:=[N,N,N]) (cs:=[_,_,_]) Z) Z<|gS ar Z (TJ Z Z Z ar.g1 (m:=3) Z Z (cells':=[_,_,_]) Z) Z (fun V ar=>?_))));refine Sr 4 Z ?_;exact cA Z Z ar.g1 (m:=3) O Z Z ⟨⟨_,_,_,by rw[show uZ m g=false from by unfold uZ;rw[show H (.ofNat (gj m).length) 0=false from z,ef.2 T];show(gj m).any (eI g)=_;rw[he,eF<|bA B];rfl]<;>rfl⟩,(ar.pop.pop.pop).weaken<|KP.le_trans u w⟩
def w5 (m:Int) (g:XG):Bool:=bif H (.ofNat (gj m).length) 0 then false else bh (uZ m g)
def JE (m:Int):Int:=bif H (.ofNat (gj m).length) 0 then 2 else 0
theorem zR {G:Cx} (w:Plain G) {K:KP} {g:XG} {va vb vc vd:U} (hg:gY K g va vb vc vd) (m:Int) {V:aE} {L:Own} (ar:D V K L):
  bu Tryz.prog G 12 [.int .i64 m,.agg [va,vb,vc,vd]] V fun v V'=>v= .tuple [.bool<|w5 m g,.int .i64<|JE m]/\D V' K L:=by
 refine SQ w Tryz.func12 Z<|Sm 2 Z<|kp ar Z (cC Z Z) (fun V b1 ar=>?_);refine Q9 8 Z<|cM Z (TB Z Z Z) (fun _=>Z) (GU w m ar) ?_;rintro aa V ⟨K1,j,z,ar⟩;replace hg:=hg.mono j;refine Y Z (TF z Z Z Z (e:=3) Z) Z<|So 3 Z<|aD Z (fun u=>?_) (fun u=>?_)
 ·refine Sn 8 Z ?_;exact dA Z Z Z ⟨by unfold w5 JE;rw[show H (.ofNat (gj m).length) 0=true from u]<;>rfl,(ar.pop).weaken j⟩
 refine RB 5 Z<|Y Z (TE Z ar.g0 (n:=4) (vs:=[_,_,_,_]) Z) Z<|cM Z (TB Z Z Z) (fun _=>Z) (Rf w hg m ar) ?_;rintro _ V ⟨⟨y0,y1,y2,rfl⟩,ar⟩;refine SY 3 Z<|kp ar Z (TG (cs:=[N,N,N])) (fun V b2 ar=>?_);refine bZ ar Z (TJ Z Z Z ar.g0 (m:=3) Z Z (cells':=[_,_,_]) Z) Z (fun V ar=>?_);refine RE 6 Z<|Y Z (da Z) Z<|Sr 5 Z ?_;exact dA Z Z Z ⟨by unfold w5 JE;rw[show H (.ofNat (gj m).length) 0=false from u]<;>rfl,(ar.pop.pop).weaken j⟩
theorem Qe {G:Cx} (I:Plain G) {K:KP}:∀(k:Nat) (x:XE) (vs:List U),eH K k x vs->∀(left:Int) (V:aE) (L:Own),D V K L->bu Tryz.prog G 59 [.agg vs,.int .i64 left] V fun v V'=>v= .int .i64 (rM k x left)/\D V' K L:=by
 intro k;induction k with
 | zero=>intro x vs h;cases x;exact h.elim
 | succ k ih=>
 intro x vs h left V L ar;obtain⟨op,num,name,kids⟩:=x;obtain⟨v,rfl,hk⟩:=h;refine SQ I Tryz.func59 Z<|Sm 2 Z<|kp ar Z (cC Z Z) (fun V b1 ar=>?_);refine RM ar 9 [2,0] Z Z<|Y Z (om Z Z Z O Z) Z<|Q8 12 Z ?_;obtain⟨LL1,ar,hLL1⟩:=ar.named;refine bf ([1,5]++rg 13 18) (fun j t V=>∃(i:Nat) (m:Int),j+i=kids.length/\mZ (rM k) kids (Cz name left)=mZ (rM k) (kids.drop i) m/\t.get 1=some (.int .i64 m)/\t.get 5=some (.int .i64 (.ofNat i))/\D V K LL1) (kids.length) ⟨0,_,Z,Z,Z,Z,ar⟩ ?_;clear ar;intro M t V an Q;obtain⟨i,m,hj,B,E,F,ar⟩:=Q;subst hLL1;obtain⟨oo,rfl⟩:=an.q2 E F Z;refine RJ ar 6 [3,0] Z Z<|Y Z (TF hk Z Z Z (e:=91) Z) Z<|vQ 1 Z<|ky Z (aq Z) (fun z=>?_) (fun z=>?_)
 ·refine So 5 Z<|aD Z (fun A=>?_) (fun A=>?_)
  ·refine Ra ar 8 [3,0] Z Z ?_;obtain⟨ao,u,aa⟩:=cK z;refine Tw (e:=91) (m:=4) hk u Z Z Z Z (fun ap ab C ac w=>?_);obtain⟨a0,a1,a2,a3,rfl,am⟩:=w.shape;refine Y Z (TI ar C Z Z) Z<|vQ 1 Z<|bz Z (TB Z Z Z) (fun _=>Z) (ih _ _ w _ _ _ ar) (fun V ar=>?_);refine SX 2 Z<|aC<|SV 5 Z<|aH ⟨M-1,by omega,oF,i+1,_,by omega,B.trans<|EW u<|bW A,Z,cI<|aW (by have:=hk.bO;omega),ar⟩
  refine RC 3 Z<|aL<|SW 7 Z ?_;exact aB Z Z ⟨cJ (by rw[HX<|bK A] at B;rw[<-B];rfl),ar.pop⟩
 refine RH 8 Z<|aS<|aL<|SW 7 Z ?_;exact aB Z Z ⟨cJ (by rw[HY<|bA z] at B;rw[<-B];rfl),ar.pop⟩
theorem Ok {G:Cx} (j:Plain G) {K:KP} {k:Nat} {x:XE} {vs:List U} {V:aE} {L:Own} (ar:D V K L) (h:eH K k x vs) (most:Int):bu Tryz.prog G 37 [.agg vs,.int .i64 most] V fun v V'=>v= .bool (xO k x most)/\D V' K L:=by
 obtain⟨o0,n0,s0,v0,rfl,hk⟩:=h.shape;refine SQ j Tryz.func37 Z<|Sm 2 Z<|kp ar Z (cC Z Z) (fun V b1 ar=>?_);refine RE 5 Z<|Y Z (TE Z ar.g0 (n:=4) (vs:=[_,_,_,_]) Z) Z<|vQ 1 Z<|bz Z (TB Z Z Z) (fun _=>Z) (Qe j _ _ _ h _ _ _ ar) (fun V ar=>?_);refine Sr 5 Z ?_;exact aB Z Z ⟨Z,ar.pop⟩
theorem DH {G:Cx} (hG:Plain G) {K:KP} {k:Nat} {x:XC} {vs:List U} {V:aE} {L:Own} (ar:D V K L) (h:lW K k x vs) (most:Int):bu Tryz.prog G 17 [.agg vs,.int .i64 most] V fun v V'=>v= .bool (pW k most x)/\D V' K L:=by
 have h':=h;obtain⟨v0,rfl,hk⟩:=h';refine SQ hG Tryz.func17 Z<|Sm 2 Z<|kp ar Z (cC Z Z) (fun V b1 ar=>?_);refine Rb ar 8 [1,0] Z Z<|Y Z (TF hk Z Z Z (e:=88) Z) Z<|So 4 Z<|aD Z (fun w=>?_) (fun w=>?_)
 ·refine Sn 7 Z ?_;exact aB Z Z ⟨cB (by unfold pW;rw[w];rfl),ar.pop⟩
 refine Q7 9 Z ?_;obtain⟨LL1,ar,hLL1⟩:=ar.named;refine bf ([4,5,6]++rg 12 37) (fun j t V=>∃(i:Nat),j+i=x.ins.length/\(x.ins.take i).all (sv k)=true/\t.get 5=some (.int .i64 (.ofNat i))/\D V K LL1) (x.ins.length) ⟨0,Z,Z,Z,ar⟩ ?_;clear ar;intro j4 t V an hI;obtain⟨i,hj,ha,a2,ar⟩:=hI;subst hLL1;obtain⟨oo,rfl⟩:=an.q1 a2 Z;refine RJ ar 6 [1,0] Z Z<|Y Z (TF hk Z Z Z (e:=88) Z) Z<|So 3 Z<|aD Z (fun E=>?_) (fun E=>?_)
 ·refine Qr 5 Z<|Sm 2 Z<|S2 ar 3 [1,0] Z Z ?_;obtain⟨F,u,a4⟩:=cK E;refine Tw (e:=88) (m:=6) hk u Z Z Z Z (fun bl a5 Q a6 R=>?_);have hr22':=R;obtain⟨bm,rfl,B⟩:=hr22';refine dy Q Z Z Z (k:=5) O (lb Z) (fun _=>Z) (fun bo S=>?_);refine Y Z (TH ar S Z Z) Z<|Y Z (TF B Z Z Z (e:=91) Z) Z<|So 3 Z<|aD Z (fun A=>?_) (fun A=>?_)
  ·refine SW 6 Z<|aA<|aK<|aA<|bD<|aK<|aA (?_);exact aB Z Z ⟨cB (by unfold pW;rw[w,lg u (by unfold sv;rw[A];rfl)];rfl),ar.pop⟩
  refine RB 5 Z<|RD 3 Z ?_;obtain⟨LL2,ar,hLL2⟩:=ar.named;refine bf ([4,6]++rg 27 22) (fun j t V=>∃(T:Nat),j+T=F.exprs.length/\(F.exprs.take T).all (fun e=>xO k e 60)=true/\t.get 6=some (.int .i64 (.ofNat T))/\D V K LL2) (F.exprs.length) ⟨0,Z,Z,Z,ar⟩ ?_;clear ar;intro j9 t V an hI;obtain⟨T,bp,W,a3,ar⟩:=hI;subst hLL2;obtain⟨oo,rfl⟩:=an.q1 a3 Z;refine RJ ar 7 [1,0] Z Z<|Tw (e:=88) (m:=6) hk u Z Z Z Z (fun bq a7 X a8 aa=>?_);have hr31':=aa;obtain⟨br,rfl,ab⟩:=hr31';refine dy X Z Z Z (k:=5) O (lb Z) (fun _=>Z) (fun bs ac=>?_);refine Y Z (TH ar ac Z Z) Z<|Y Z (TF ab Z Z Z (e:=91) Z) Z<|So 3 Z<|aD Z (fun I=>?_) (fun I=>?_)
  ·refine Qt ar 9 [1,0] Z Z<|Tw (e:=88) (m:=6) hk u Z Z Z Z (fun bt a9 am bb ao=>?_);have hr41':=ao;obtain⟨bv,rfl,ap⟩:=hr41';refine dy am Z Z Z (k:=5) O (lb Z) (fun _=>Z) (fun bw a0=>?_);refine Y Z (TH ar a0 Z Z) Z<|vQ 1 Z ?_;obtain⟨b0,z,bd⟩:=cK I;refine Tw (e:=91) (m:=4) ap z Z Z Z Z (fun b2 be a1 bi C=>?_);obtain⟨b3,b4,b5,b6,rfl,bk⟩:=C.shape;refine Y Z (TI ar a1 Z Z) Z<|bz Z (TB Z Z Z) (fun _=>Z) (Ok hG ar C _) (fun V ar=>?_);refine Y Z (da Z) Z<|So 2 Z<|aD Z (fun M=>?_) (fun M=>?_)
   ·refine SW 6 Z<|aK<|aA<|bD<|aK<|aK<|aA<|bD<|aK<|aA (?_);exact aB Z Z ⟨cB (by unfold pW;rw[w,lg u (by unfold sv;rw[A,lg z (by simpa using M)];rfl)];rfl),ar.pop⟩
   refine aG<|aC<|SV 5 Z<|aH ⟨j9-1,by omega,oF,T+1,by omega,iO W z (by simpa using M),cI<|aW (by have:=B.bO;omega),ar⟩
  refine RC 3 Z<|aL<|aC<|SV 5 Z<|aH ⟨j4-1,by omega,oF,i+1,by omega,iO ha u (by unfold sv;rw[A,iq W<|bA I];rfl),cI<|aW (by have:=hk.bO;omega),ar⟩
 refine RC 3 Z<|aL<|SW 6 Z ?_;exact aB Z Z ⟨cB (by unfold pW;rw[w,iq ha<|bA E];rfl),ar.pop⟩
theorem Bu {G:Cx} (I:Plain G) {K:KP} {k:Nat} {l:List XC} {v:U} {V:aE} {L:Own} (ar:D V K L) (h:bL K 2 (lW K k) l v) (most:Int):bu Tryz.prog G 5 [v,.int .i64 most] V fun v V'=>v= .bool (qP k most l)/\D V' K L:=by
 refine SQ I Tryz.func5 Z<|Rx 12 Z ?_;obtain⟨LL1,ar,hLL1⟩:=ar.named;refine bf (rg 4 19) (fun j t V=>∃(i:Nat),j+i=l.length/\(l.take i).all (pW k most)=true/\t.get 5=some (.int .i64 (.ofNat i))/\D V K LL1) (l.length) ⟨0,Z,Z,Z,ar⟩ ?_;clear ar;intro M t V an Q;obtain⟨i,hj,E,F,ar⟩:=Q;subst hLL1;obtain⟨oo,rfl⟩:=an.q1 F Z;refine Ry 5 Z<|Y Z (TF h Z Z Z (e:=55) Z) Z<|vQ 1 Z<|ky Z (aq Z) (fun z=>?_) (fun z=>?_)
 ·refine So 5 Z<|aD Z (fun A=>?_) (fun A=>?_)
  ·refine Qs 8 Z ?_;obtain⟨ao,u,aa⟩:=cK z;refine Tw (e:=55) (m:=2) h u Z Z Z Z (fun ap ab C ac w=>?_);have hr18':=w;obtain⟨a0,rfl,am⟩:=hr18';refine Y Z (TI ar C Z Z) Z<|vQ 1 Z<|bz Z (TB Z Z Z) (fun _=>Z) (DH I ar w _) (fun V ar=>?_);refine Y Z (da Z) Z<|So 2 Z<|aD Z (fun B=>?_) (fun B=>?_)
   ·refine SW 6 Z<|aK<|aA<|bD<|aK<|aA (?_);exact aB Z Z ⟨cB (by unfold qP;rw[MI u (bc A) (by simpa using B)];rfl),ar⟩
   refine aG<|aC<|SV 5 Z<|aH ⟨M-1,by omega,oF,i+1,by omega,iO E u (by simpa using B),cI<|aW (by have:=h.bO;omega),ar⟩
  refine RC 3 Z<|aL<|Sm 3 Z<|Y Z (TF h Z Z Z (e:=55) Z) Z<|Sr 5 Z ?_;exact aB Z Z ⟨cB (by unfold qP;rw[BN E<|bA A];rfl),ar⟩
 refine RH 8 Z<|aS<|aL<|Sm 3 Z<|Y Z (TF h Z Z Z (e:=55) Z) Z<|Sr 5 Z ?_;exact aB Z Z ⟨cB (by unfold qP;rw[iq (i:=i) (by rw[List.take_take];exact BN E<|Nat.min_le_left _ _) (by rw[lT_];have:=bA z;omega)];rfl),ar⟩
end Go.Ev
namespace Go.Ev
variable [Env]
theorem zq {k:Nat}:∀{l:List XC} {g:List (List db)},l.length=g.length->((rL k l g).isSome=true↔∀(t:Nat) (c:XC) (row:List db),l[t]?=some c->g[t]?=some row->(dQ k c row).2=0)
 | [],[],_=>⟨fun _ t c row h=>by simp at h,fun _=>Z⟩
 | [],_::_,h=>by simp at h
 | _::_,[],h=>by simp at h
 | c::l,r::g,h=>by
  have ih:=zq (k:=k) (l:=l) (g:=g) (by simpa using h);unfold rL;cases h1:H (dQ k c r).2 0 with
  | false=>
   refine⟨(fun h=>by cases h),fun m=>?_⟩;rw[m 0 c r Z Z] at h1;cases h1
  | true=>
   rw[cW] at h1;have h1:=of_decide_eq_true h1;simp only[cond_true,Option.isSome_map,ih];constructor
   ·intro j t c' row a b;cases t with
    | zero=>cases a;cases b;exact h1
    | succ t=>exact j t c' row (by simpa using a) (by simpa using b)
   exact fun j t c' row a b=>j (t+1) c' row (by simpa using a) (by simpa using b)
theorem zm {k:Nat} {l:List XC} {g:XG} (j:dO g) (hl:l.length=g.threads.length):(kV k l g).isSome=true↔∀(t:Nat) (c:XC) (row:List db),l[t]?=some c->g.threads[t]?=some row->(dQ k c row).2=0:=by
 unfold kV;rw[ef.2 j,hl,dL,dL];exact zq hl
theorem ND {k:Nat} {l:List XC} {g:XG} {p q:Nat->Nat} (u:dO g) (h:Pm g.threads.length p q) (hl:l.length=g.threads.length) (w:∀t,t<g.threads.length->l[p t]?=l[t]?):(kV k l<|fA p q g).isSome=(kV k l g).isSome:=by
 rw[Bool.eq_iff_iff,zm (lQ u h) (by rw[iR];exact hl),zm u hl];constructor
 ·intro m t c row a b;have ht:=(gA.1 b).1;exact m (p t) c row (by rw[w t ht];exact a) (by rw[tq h ht];exact b)
 intro m j c row a b;obtain⟨t,ht,rfl,hb⟩:=AM h b;exact m t c row (by rw[<-w t ht];exact a) hb
end Go.Ev
namespace Go.Ev
variable [Env]
open Go.Proofs
set_option maxRecDepth 4000
set_option maxHeartbeats 8000000
theorem HO {k:Nat} {l:List XC} {n:Int} (hf:∀c∈l,lV k c) (ha:qP k n l=true):Oz k l:=by
 unfold qP at ha;rw[bA_] at ha;have u:l.length<=6:=bA (a:=6) (bW ha.2);have ha:=ha.1;rw[tL_ u] at ha;intro c hc;refine⟨hf c hc,fun x hx e he=>?_⟩;have h1:=aE_.1 ha c hc;unfold pW at h1;cases m:b9 n (.ofNat c.ins.length) with
 | true=>rw[m] at h1;cases h1
 | false=>
  rw[m] at h1;have j:sv k x=true:=aE_.1 h1 x hx;unfold sv at j;cases h4:b9 4 (.ofNat x.exprs.length) with
  | true=>rw[h4] at j;cases j
  | false=>
   rw[h4] at j;have:=E3 (hf c hc x hx e he) (aE_.1 j e he);omega
theorem lB {α:Type} {K K':KP} {m:Nat} {R:α->List U->Prop} (hk:KP.le K K') {x:List α} {vs:List U} (h:RL K m R x vs):RL K' m R x vs:=by
 obtain⟨v,h1,j⟩:=h;exact⟨v,h1,j.mono hk fun _ _ h=>h⟩
theorem SU {mm:Nat} (h:bh (b9 2 (.ofNat (mm+1)))=true):mm<2:=by
 have:=bA (a:=2) (b:=mm+1) (bW h);omega
def MO (p:Nat->Nat) (n:Nat):Nat->List Int
 | 0=>List.replicate n 0
 | k+1=>(MO p n k).set (p k) (.ofNat (k+1))
theorem qE {p:Nat->Nat} {n:Nat}:∀{k:Nat},(MO p n k).length=n
 | 0=>List.length_replicate
 | k+1=>by show((MO p n k).set _ _).length=n;rw[List.length_set,qE]
theorem Js {p q:Nat->Nat} {n:Nat} (h:Pm n p q):∀{k:Nat},k<=n->∀v,v<n->q v<k->(MO p n k)[v]?=some (.ofNat (q v+1))
 | 0,_,v,_,hq=>absurd hq (nZ_ _)
 | k+1,hk,v,hv,hq=>by
  show((MO p n k).set (p k) (.ofNat (k+1)))[v]?=_
  by_cases e:p k=v
  ·subst e;rw[List.getElem?_set_self (by rw[qE];exact h.lt k oM),h.qp k oM]
  rw[List.getElem?_set_ne e];refine Js h oM v hv ?_;have:q v≠k:=fun j=>e (by rw[<-j,h.pq v hv])
  omega
theorem NC {g:XG} {p q:Nat->Nat} (j:dO g) (h:Pm g.threads.length p q) (m:Int):w5 m (fA p q g)=w5 m g:=by
 unfold w5;rw[PK j h]
theorem DI {G:Cx} (F:Plain G) (bb:G.LX 4 []=some (.bool true)) {K:KP} (a7:∀V L,D V K L->uD G.gl V G.laid=true) {k:Nat} {l:List XC} {lv:U} (hl:bL K 2 (lW K k) l lv) (a8:∀c∈l,lV k c) {g:XG} {a b c d:U} (hg:gY K g a b c d) {V:aE} {L:Own} (ar:D V K L):
  bu Tryz.prog G 3 [lv,.agg [a,b,c,d]] V fun v V'=>v= .bool true:=by
 refine bn F Tryz.func3 Z (t:=(PT.leaf.put (some (lv)) 0).put (some (.agg [a,b,c,d])) 1) (by rfl) ?_;refine al ?_;refine ah Z ?_;refine bG ar Z (cC Z Z) (fun _=>Z) (fun V b1 ar=>?_);refine Y Z (ak Z) Z ?_;refine af ?_;refine ad ?_;refine al ?_;refine al ?_;refine ah Z ?_;refine bz Z (aV Z Z Z O) (fun _=>Z) (J0 (v:=.bool true) (F.h1 _ _ _) bb Z Z (a7 _ _ ar) ⟨Z,ar⟩) (fun V ar=>?_);refine Y Z (da Z) Z ?_;refine af ?_;refine ad ?_;refine aQ Z ?_;refine aG ?_;refine ad ?_;refine al ?_;refine al ?_;refine ah Z ?_;refine Y Z (aq Z) Z ?_;refine bz Z (aV Z Z Z O) (fun _=>Z) (Bu F ar hl _) (fun V ar=>?_);refine Y Z (da Z) Z ?_;refine aP Z (aq Z) (fun _=>Z) (fun bd=>?_) (fun bd=>?_)
 ·refine ae Z Z ?_;refine ae Z Z ?_;refine ae Z Z ?_;refine Y Z (ay Z Z) Z ?_;refine Y Z (aq Z) Z ?_;refine ae Z Z ?_;refine ae Z Z ?_;refine ae Z Z ?_;refine Y Z (ay Z Z) Z ?_;refine Y Z (aq Z) Z ?_;refine ae Z Z ?_;refine ae Z Z ?_;refine ae Z Z ?_;refine ae Z Z ?_;refine ae Z Z ?_;refine ae Z Z ?_;refine Y Z (ay Z Z) Z ?_;refine af ?_;refine ad ?_;refine aM Z ?_;refine al ?_;refine ah Z ?_;refine Y Z (ak Z) Z ?_;refine af ?_;refine ad ?_;refine aF ?_;refine aA (?_);exact aB Z Z Z
 refine Y Z (aY Z (ar.get 0 Z) (n:=4) (vs:=[_,_,_,_]) O (Nat.le_of_ble_eq_true Z) Z) Z ?_;refine cM Z (aV Z Z Z O) (fun _=>Z) (Bv F hg _ ar) ?_;rintro _ V ⟨hX,rfl,ar⟩;refine Y Z (da Z) Z ?_;refine Y Z (ay Z Z) Z ?_;refine aP Z (aq Z) (fun _=>Z) (fun dr=>?_) (fun dr=>?_)
 ·refine ae Z Z ?_;refine ae Z Z ?_;refine ae Z Z ?_;refine Y Z (ay Z Z) Z ?_;refine Y Z (aq Z) Z ?_;refine ae Z Z ?_;refine ae Z Z ?_;refine ae Z Z ?_;refine ae Z Z ?_;refine ae Z Z ?_;refine ae Z Z ?_;refine Y Z (ay Z Z) Z ?_;refine af ?_;refine ad ?_;refine aM Z ?_;refine al ?_;refine ah Z ?_;refine Y Z (ak Z) Z ?_;refine af ?_;refine ad ?_;refine aF ?_;refine aA (?_);exact aB Z Z Z
 refine Y Z (aY Z (ar.get 0 Z) (n:=4) (vs:=[_,_,_,_]) O (Nat.le_of_ble_eq_true Z) Z) Z ?_;refine bz Z (aV Z Z Z O) (fun _=>Z) (lS F hg ar) (fun V ar=>?_);refine Y Z (ax Z Z Z) Z ?_;refine Y Z (ay Z Z) Z ?_;refine aP Z (aq Z) (fun _=>Z) (fun be=>?_) (fun be=>?_)
 ·refine ae Z Z ?_;refine ae Z Z ?_;refine ae Z Z ?_;refine ae Z Z ?_;refine ae Z Z ?_;refine ae Z Z ?_;refine Y Z (ay Z Z) Z ?_;refine af ?_;refine ad ?_;refine aM Z ?_;refine al ?_;refine ah Z ?_;refine Y Z (ak Z) Z ?_;refine af ?_;refine ad ?_;refine aF ?_;refine aA (?_);exact aB Z Z Z
 refine Y Z (av Z (k:=1) O) Z ?_;refine Y Z (aw Z (ar.get 0 Z) O Z) Z ?_;refine Y Z (aZ hg.threads Z Z Z (e:=56) O Z) Z ?_;refine Y Z (aq Z) Z ?_;refine Y Z (aZ hl Z Z Z (e:=55) O Z) Z ?_;refine Y Z (ax Z Z Z) Z ?_;refine Y Z (ay Z Z) Z ?_;refine af ?_;refine ad ?_;refine aD Z (fun bi=>?_) (fun bi=>?_)
 ·refine al ?_;refine ah Z ?_;refine Y Z (ak Z) Z ?_;refine af ?_;refine ad ?_;refine aF ?_;refine aA (?_);exact aB Z Z Z
 refine aG ?_;refine ad ?_;refine al ?_;refine ah Z ?_;refine Y Z (aq Z) Z ?_;have hF:=HO a8 (kh bd);have ds:cV g=0:=eqv (bK be);have hR:=ef.1 ds;have R:g.threads.length=l.length:=iJ_ (eqv<|bK bi);have bk:l.length<=4:=by rw[<-R];exact hR.threads
 refine cM Z (aV Z Z Z O) (fun _=>Z) (Om F hl bk ar) ?_;rintro _ V ⟨K1,u5,rfl,S,T,ar⟩;have hl1:=hl.mono S fun _ _ h=>h.mono S;have hg1:=hg.mono S
 obtain⟨PS,bl⟩:∃PS,PS=yc l (w0 l):=⟨_,Z⟩;rw[<-bl] at T;have bm:∀x∈PS,rZ (w0 l) l.length x:=by rw[bl];exact(Iy w3 bk).1
 refine Y Z (aq Z) Z ?_;refine Y Z (bU Z Z) Z ?_;refine Y Z (bU Z Z) Z ?_;refine Y Z (ak Z) Z ?_;refine Y Z (ak Z) Z ?_;refine af ?_;refine ad ?_;refine al ?_;refine al ?_;refine ah Z ?_;refine Y Z (aq Z) Z ?_;refine Y Z (ax Z Z Z) Z ?_;refine af ?_;refine ad ?_;refine aD Z (fun bo=>?_) (fun bo=>?_)
 ·exact absurd bo (by decide)
 refine aG ?_;refine ad ?_;refine al ?_;refine ah Z ?_;refine Y Z (aq Z) Z ?_;refine Y Z (aY Z (ar.get 0 Z) (n:=4) (vs:=[_,_,_,_]) O (Nat.le_of_ble_eq_true Z) Z) Z ?_;refine cM Z (aV Z Z Z O) (fun _=>Z) (JH F hl1 hF hg1 ar) ?_;rintro _ V ⟨hY,h2,rfl,_,ar⟩;replace ar:=ar.bR;obtain⟨wf,bp⟩:∃wf,wf=(kV k l g).isSome:=⟨_,Z⟩;rw[<-bp];refine Y Z (aq Z) Z ?_;refine Y Z (bU Z Z) Z ?_;refine Y Z (bU Z Z) Z ?_;refine Y Z (ak Z) Z ?_;refine Y Z (ak Z) Z ?_;refine af ?_;refine ad ?_;refine al ?_;refine al ?_;refine ah Z ?_;refine Y Z (ak Z) Z ?_;refine af ?_;refine ad ?_;refine aJ ?_;refine bf [4,9,10,11,12,13,14,15,16,17,18,19,20,21,22,62,63,64,65,66,67,68,69,70,71,72,73,74,75,76,77,78,79,80,81,82,83,84,85,86,87,88,89,90,91,92,93,94,95,96,97,98,99,100,101,102,103,104,105,106,107,108,109,110,111,112,113,114,115,116,117,118,119,120,121,122,123,124,125,126,127,128,129,130,131,132,133,134,135,136,137,138,139,140,141,142,143,144,145,146,147,148,149,150,151,152,153,154,155,156] (fun j t V=>∃(i:Nat) (K2:KP),(j+i=PS.length/\KP.le K1 K2)/\t.get 9=some (.int .i64 (.ofNat i))/\D V K2 ((b1,.row [a,b,c,d] 27 false)::L)) (PS.length) ⟨0,K1,⟨Z,KP.le_refl _⟩,Z,ar⟩ ?_;clear ar;intro dx t V an hI;obtain⟨i,K2,⟨fi,B⟩,a9,ar⟩:=hI;replace an:=an.bH Z Z;obtain⟨o4,o9,h3,bq,h6,h7,h8,h9,an⟩:=an;replace an:=an.bH Z Z;obtain⟨ia,ib,br,d0,d1,d2,d3,ih,an⟩:=an;replace an:=an.bH Z Z;obtain⟨ii,io,ip,it,iv,ix,iz,iJ,an⟩:=an;replace an:=an.bH Z Z;obtain⟨iZ,i0,i1,d6,d7,d8,d9,ee,an⟩:=an;replace an:=an.bH Z Z;obtain⟨el,em,en,eo,er,es,et,ev,an⟩:=an;replace an:=an.bH Z Z;obtain⟨ex,eC,eS,eT,e0,e2,e3,e4,an⟩:=an;replace an:=an.bH Z Z;obtain⟨i2,i3,i4,i5,i6,fk,fs,fv,an⟩:=an;replace an:=an.bH Z Z;obtain⟨f0,f1,f2,f3,f4,f5,f6,f7,an⟩:=an;replace an:=an.bH Z Z;obtain⟨f8,f9,gc,ge,gr,gs,gt,gv,an⟩:=an;replace an:=an.bH Z Z;obtain⟨g2,g3,g4,g5,g6,g7,ha,hd,an⟩:=an;replace an:=an.bH Z Z;obtain⟨hh,hn,ho,hr,hs,hu,hw,hy,an⟩:=an;replace an:=an.bH Z Z;obtain⟨hz,hA,hB,bs,bt,bv,bw,b0,an⟩:=an;replace an:=an.bH Z Z;obtain⟨b5,b6,b7,b8,ca,cb,cc,ce,an⟩:=an;replace an:=an.jD Z;obtain⟨cg,ch,ci,cj,an⟩:=an;replace an:=an.dz Z;obtain⟨ck,an⟩:=an;replace an:=an.dz Z;obtain⟨cn,an⟩:=an;obtain rfl:=an.nil;clear an;replace a9:o9=some _:=a9;subst a9;refine al ?_;refine al ?_;refine ah Z ?_;have hg2:=hg1.mono B;have hpm2:=T.mono B fun _ _ h=>lB B h;have hl2:=hl1.mono B fun _ _ h=>h.mono B
 refine Y Z (aq Z) Z ?_;refine Y Z (aq Z) Z ?_;refine Y Z (aZ hpm2 Z Z Z (e:=36) O Z) Z ?_;refine Y Z (ax Z Z Z) Z ?_;refine af ?_;refine ad ?_;refine aD Z (fun W=>?_) (fun W=>?_)
 ·refine aG ?_;refine ad ?_;refine al ?_;refine aJ ?_;refine al ?_;refine ah Z ?_;refine Y Z (aq Z) Z ?_;refine Y Z (aq Z) Z ?_;obtain⟨X,E,hC⟩:=cK W;refine bT (e:=36) (m:=1) hpm2 E Z Z O O Z Z (fun _=>Z) (fun i7 hD cp hE cr=>?_);have hr70':=cr;obtain⟨i9,rfl,cv⟩:=hr70';have hpo:=bm X (gB_ E);obtain⟨p,q,aa,cw,e5⟩:=hpo.pm;have hxl:=hpo.len;have I:Pm g.threads.length p q:=by rw[R];exact aa
  have e7:∀t,t<g.threads.length->l[p t]?=l[t]?:=fun t ht=>Jw (aa.lt t oM) oM (e5 t oM)
  refine Y Z (aN ar cp Z O Z) Z ?_;refine Y Z (aZ cv Z Z Z (e:=3) O Z) Z ?_;refine fe ar Z (lM (e:=3) (w:=8) (z:=[gZ 0]) O O O O Z Z oM oM) (fun _=>Z) (fun V b2 ar=>?_);rw[jk (f:=gZ)] at ar;refine Y Z (ak Z) Z ?_;refine af ?_;refine ad ?_;refine al ?_;refine al ?_;refine ah Z ?_;replace ar:D V K2 ((b2,.row ((MO p l.length (0)).map gZ) 3 false)::(b1,.row [a,b,c,d] 27 false)::L):=by rw[hxl] at ar;exact ar
  refine Y Z (ak Z) Z ?_;refine af ?_;refine ad ?_;refine aJ ?_;refine bf [11,74,75,76,77,78,79,80,81,82,83,84,85,86,87,88,89,90,91,92,93,94] (fun j t V=>∃(kk:Nat),j+kk=X.length/\t.get 11=some (.int .i64 (.ofNat kk))/\D V K2 ((b2,.row ((MO p l.length (kk)).map gZ) 3 false)::(b1,.row [a,b,c,d] 27 false)::L)) (X.length) ⟨0,Z,Z,ar⟩ ?_;clear ar;intro e8 t V an hI;obtain⟨kk,hH,ab,ar⟩:=hI;replace an:=an.bH Z Z;obtain⟨bq,d6,d7,d8,d9,ee,el,em,an⟩:=an;replace an:=an.bH Z Z;obtain⟨en,eo,er,es,et,ev,ex,eC,an⟩:=an;replace an:=an.jD Z;obtain⟨eS,eT,e0,e2,an⟩:=an;replace an:=an.dz Z;obtain⟨e3,an⟩:=an;replace an:=an.dz Z;obtain⟨e4,an⟩:=an;obtain rfl:=an.nil;clear an;replace ab:bq=some _:=ab;subst ab;refine al ?_;refine al ?_;refine ah Z ?_;refine Y Z (aq Z) Z ?_;refine Y Z (aq Z) Z ?_;refine Y Z (aq Z) Z ?_;refine bT (e:=36) (m:=1) hpm2 E Z Z O O Z Z (fun _=>Z) (fun je hK cx hL cy=>?_);have hr77':=cy;obtain⟨jj,rfl,c0⟩:=hr77';refine Y Z (aN ar cx Z O Z) Z ?_;refine Y Z (aZ c0 Z Z Z (e:=3) O Z) Z ?_;refine Y Z (ax Z Z Z) Z ?_;refine af ?_;refine ad ?_;refine aD Z (fun ac=>?_) (fun ac=>?_)
  ·refine aG ?_;refine ad ?_;refine al ?_;refine aJ ?_;refine ah Z ?_;have c1:kk<l.length:=by have:=bc ac;omega
   have hpk:=cw kk c1;have hplt:=aa.lt kk c1;refine Y Z (aq Z) Z ?_;refine Y Z (aq Z) Z ?_;refine Y Z (aq Z) Z ?_;refine bT (e:=36) (m:=1) hpm2 E Z Z O O Z Z (fun _=>Z) (fun jp hM c2 hN c3=>?_);have hr86':=c3;obtain⟨jw,rfl,c7⟩:=hr86';refine Y Z (aN ar c2 Z O Z) Z ?_;refine Y Z (aq Z) Z ?_;refine bT (e:=3) (m:=1) c7 hpk Z Z O O Z Z (fun _=>Z) (fun j2 hO c8 hP c9=>?_);obtain rfl:=c9;refine Y Z (aN ar c8 Z O Z) Z ?_;refine Y Z (ax (v:=.int .i64 (.ofNat<|p kk)) Z Z<|congrArg (fun z=>some (U.int .i64 z))<|gW oM) Z ?_;refine Y Z (aq Z) Z ?_;refine Y Z (ax (v:=.int .i64 (.ofNat (kk+1))) Z Z<|congrArg (fun z=>some (U.int .i64 z))<|aW oM) Z ?_;refine Y Z (fS (e:=3) (m:=1) O O Z Z oM) Z ?_;refine dX ar .here Z (aR Z Z Z (ar.get 0 Z) (m:=1) O Z (by rw[lM_];rw[qE];omega) (aj Z aI) (cells':=((MO p l.length kk).set (p kk) (.ofNat (kk+1))).map (gZ)) (eK (f:=gZ) (v:=(.ofNat (kk+1))) (by rw[qE];omega) (by first | omega | rfl))) Z (fun V ar=>?_);refine af ?_;refine aC ?_;refine ad ?_;refine ah Z ?_;refine Y Z (aq Z) Z ?_;refine Y Z (ax Z Z Z) Z ?_;refine Y Z (ak Z) Z ?_;refine af ?_;refine aH ⟨e8-1,(by have:=bc ac;omega),(by(iterate 44 refine aT.put Z ?_);exact aT.refl _ _),kk+1,by have:=bc ac;omega,congrArg (fun z=>some (U.int .i64 z))<|aW oM,ar⟩
  refine bg ?_;refine aO ?_;refine aS ?_;refine aL ?_;refine ad ?_;refine al ?_;refine aU (l:=[(0,[]),(1,[]),(2,[]),(3,[]),(4,[]),(9,[]),(5,[9]),(6,[]),(7,[]),(8,[]),(10,[]),(11,[])]) O O ?_;have e9:kk=l.length:=by have:=bA ac;omega
  rw[e9] at ar;obtain⟨K3,C,ap,ar⟩:=ar.cq (M:=[_]);have hbk:bL K3 1 eu (MO p l.length l.length) (.slice b2 0 X.length (.known X.length)):=xD (ap _ (.head _)) (by rw[qE,hxl]) oM;clear ap;have hg3:=hg2.mono C;have hpm3:=hpm2.mono C fun _ _ h=>lB C h;have hl3:=hl2.mono C fun _ _ h=>h.mono C
  refine ai Z Z (aY Z (ar.get 0 Z) (n:=4) (vs:=[_,_,_,_]) O (Nat.le_of_ble_eq_true Z) Z) Z ?_;refine ai Z Z (aq Z) Z ?_;refine ai Z Z (aq Z) Z ?_;refine bV (e:=36) (m:=1) hpm3 E Z Z Z O O Z Z (fun _=>Z) (fun j3 hQ dd hS df=>?_);have hr99':=df;obtain⟨j4,rfl,dl⟩:=hr99';refine ai Z Z (aN ar dd Z O Z) Z ?_;refine qd ar Z Z (cQ (cs:=[.az,.az,.az,.az]) O O) (fun _=>Z) (fun V b3 ar=>?_);refine fB Z Z (aV Z Z Z O) (fun _=>Z) (Mf F hg3 hR dl I (by rw[hxl,R]) (fun i hi=>cw i oM) ar) ?_;rintro _ V ⟨K4,a4,b4_,c4,d4,rfl,u,hgm,ar⟩;refine⟨(bx (iE Z Z Z Z Z (cs:=[.az,.az,.az,.az]) (e:=27) O (ar.get 0 Z) O) ba),?_⟩;replace hg3:=hg3.mono u;replace hpm3:=hpm3.mono u fun _ _ h=>lB u h;replace hl3:=hl3.mono u fun _ _ h=>h.mono u;replace hbk:=hbk.mono u fun _ _ h=>h;have hRm:=lQ hR I
  refine ai Z Z (aq Z) Z ?_;refine ai Z Z (bU Z Z) Z ?_;refine ai Z Z (bU Z Z) Z ?_;refine iM ar Z Z (aR Z Z Z (ar.get 0 Z) (m:=4) O Z (Nat.le_of_ble_eq_true Z) (aj hgm.init.leaf.2<|aj hgm.threads.leaf.2<|aj hgm.from_.leaf.2<|aj hgm.order.leaf.2 aI) (cells':=[_,_,_,_]) Z) Z (fun V ar=>?_);refine⟨ba,?_⟩;refine ai Z Z (ak Z) Z ?_;refine aX ?_;refine ad ?_;refine al ?_;refine ah Z ?_;refine Y Z (aY Z (ar.get 0 Z) (n:=4) (vs:=[_,_,_,_]) O (Nat.le_of_ble_eq_true Z) Z) Z ?_;refine Y Z (aq Z) Z ?_;refine cM Z (aV Z Z Z O) (fun _=>Z) (Mf F hgm hRm hbk (by rw[iR];exact I.L5) (by rw[qE,iR,R]) (fun i hi=>by rw[iR] at hi;exact Js aa (nR_ _) i oM<|aa.Qq i oM) ar) ?_;rintro _ V ⟨K5,a5,b5_,c5,d5,rfl,A,Q,ar⟩;rw[CS hR I] at Q;replace hg3:=hg3.mono A;replace hpm3:=hpm3.mono A fun _ _ h=>lB A h;replace hl3:=hl3.mono A fun _ _ h=>h.mono A;replace hgm:=hgm.mono A
  refine Y Z (aq Z) Z ?_;refine Y Z (bU Z Z) Z ?_;refine Y Z (bU Z Z) Z ?_;refine bG ar Z (cQ (cs:=[.az,.az,.az,.az]) O O) (fun _=>Z) (fun V b4 ar=>?_);refine bZ ar Z (aR Z Z Z (ar.get 0 Z) (m:=4) O Z (Nat.le_of_ble_eq_true Z) (aj Q.init.leaf.2<|aj Q.threads.leaf.2<|aj Q.from_.leaf.2<|aj Q.order.leaf.2 aI) (cells':=[_,_,_,_]) Z) Z (fun V ar=>?_);refine Y Z (ak Z) Z ?_;refine af ?_;refine ad ?_;refine al ?_;refine ah Z ?_;refine Y Z (aq Z) Z ?_;refine Y Z (aY Z (ar.get 1 Z) (n:=4) (vs:=[_,_,_,_]) O (Nat.le_of_ble_eq_true Z) Z) Z ?_;refine cM Z (aV Z Z Z O) (fun _=>Z) (JH F hl3 hF hgm ar) ?_;rintro _ V ⟨hU,hV,rfl,_,ar⟩;replace ar:=ar.bR;rw[ND hR I R.symm e7,<-bp];refine Y Z (aq Z) Z ?_;refine Y Z (bU Z Z) Z ?_;refine Y Z (bU Z Z) Z ?_;refine Y Z (ak Z) Z ?_;refine Y Z (ak Z) Z ?_;refine af ?_;refine ad ?_;refine al ?_;refine al ?_;refine ah Z ?_;refine Y Z (aq Z) Z ?_;refine Y Z (ax Z Z Z) Z ?_;refine aP Z (aq Z) (fun _=>Z) (fun a0=>?_) (fun a0=>?_)
  ·exact absurd a0 (by decide)
  refine Y Z (aq Z) Z ?_;refine Y Z (ax Z Z Z) Z ?_;refine Y Z (ay Z Z) Z ?_;refine aP Z (aq Z) (fun _=>Z) (fun a1=>?_) (fun a1=>?_)
  ·exact absurd a1 (by decide)
  refine Y Z (aY Z (ar.get 0 Z) (n:=4) (vs:=[_,_,_,_]) O (Nat.le_of_ble_eq_true Z) Z) Z ?_;refine Y Z (aY Z (ar.get 2 Z) (n:=4) (vs:=[_,_,_,_]) O (Nat.le_of_ble_eq_true Z) Z) Z ?_;refine bz Z (aV Z Z Z O) (fun _=>Z) (by have q:=Oj F ar Q hg3;rw[cz.2 Z] at q;exact q) (fun V ar=>?_);refine Y Z (da Z) Z ?_;refine Y Z (ay Z Z) Z ?_;refine Y Z (aq Z) Z ?_;refine Y Z (aY Z (ar.get 1 Z) (n:=4) (vs:=[_,_,_,_]) O (Nat.le_of_ble_eq_true Z) Z) Z ?_;refine bz Z (aV Z Z Z O) (fun _=>Z) (by have q:=lS F hgm ar;rw[ef.2 hRm] at q;exact q) (fun V ar=>?_);refine Y Z (ax Z Z Z) Z ?_;refine Y Z (ay Z Z) Z ?_;refine aP Z (aq Z) (fun _=>Z) (fun a2=>?_) (fun a2=>?_)
  ·exact absurd a2 (by decide)
  refine Y Z (aq Z) Z ?_;refine Y Z (aq Z) Z ?_;refine Y Z (ax Z Z Z) Z ?_;refine Y Z (ay Z Z) Z ?_;refine af ?_;refine ad ?_;refine aD Z (fun a3=>?_) (fun a3=>?_)
  ·exact absurd a3 (by cases wf<;>decide)
  refine aG ?_;refine ad ?_;refine al ?_;refine ah Z ?_;refine Y Z (ak Z) Z ?_;refine af ?_;refine ad ?_;refine aJ ?_;obtain⟨LL3,ar,hLL3⟩:=ar.named;refine bf [4,18,19,20,21,22,138,139,140,141,142,143,144,145,146,147,148,149,150,151,152,153,154,155,156] (fun j t V=>∃(mm:Nat),j+mm=2/\t.get 18=some (.int .i64 (.ofNat (mm+1)))/\D V K5 LL3) (2) ⟨0,Z,Z,ar⟩ ?_;clear ar;intro fd t V an hI;obtain⟨mm,hW,am,ar⟩:=hI;subst hLL3;replace an:=an.bH Z Z;obtain⟨o4,br,d0,d1,d2,d3,bs,bt,an⟩:=an;replace an:=an.bH Z Z;obtain⟨bv,bw,b0,b5,b6,b7,b8,ca,an⟩:=an;replace an:=an.bH Z Z;obtain⟨cb,cc,ce,cg,ch,ci,cj,ck,an⟩:=an;replace an:=an.dz Z;obtain⟨cn,an⟩:=an;obtain rfl:=an.nil;clear an;replace am:br=some _:=am;subst am;refine al ?_;refine al ?_;refine ah Z ?_;refine Y Z (aq Z) Z ?_;refine Y Z (ax Z Z Z) Z ?_;refine af ?_;refine ad ?_;refine aD Z (fun ao=>?_) (fun ao=>?_)
  ·refine aG ?_;refine ad ?_;refine al ?_;refine aJ ?_;refine al ?_;refine ah Z ?_;refine Y Z (aq Z) Z ?_;refine Y Z (aY Z (ar.get 2 Z) (n:=4) (vs:=[_,_,_,_]) O (Nat.le_of_ble_eq_true Z) Z) Z ?_;refine cM Z (aV Z Z Z O) (fun _=>Z) (zR F hg3 (.ofNat (mm+1)) ar) ?_;rintro _ V ⟨rfl,ar⟩;obtain⟨wc,dm⟩:∃wc,wc=w5 (.ofNat (mm+1)) g:=⟨_,Z⟩;rw[<-dm];refine Y Z (aq Z) Z ?_;refine Y Z (bU Z Z) Z ?_;refine Y Z (bU Z Z) Z ?_;refine Y Z (ak Z) Z ?_;refine Y Z (ak Z) Z ?_;refine af ?_;refine ad ?_;refine al ?_;refine ah Z ?_;refine Y Z (aq Z) Z ?_;refine Y Z (aY Z (ar.get 1 Z) (n:=4) (vs:=[_,_,_,_]) O (Nat.le_of_ble_eq_true Z) Z) Z ?_;refine cM Z (aV Z Z Z O) (fun _=>Z) (zR F hgm (.ofNat (mm+1)) ar) ?_;rintro _ V ⟨rfl,ar⟩;rw[NC hR I,<-dm];refine Y Z (aq Z) Z ?_;refine Y Z (bU Z Z) Z ?_;refine Y Z (bU Z Z) Z ?_;refine Y Z (ak Z) Z ?_;refine Y Z (ak Z) Z ?_;refine af ?_;refine ad ?_;refine al ?_;refine ah Z ?_;refine Y Z (aq Z) Z ?_;refine Y Z (aq Z) Z ?_;refine Y Z (ax Z Z Z) Z ?_;refine af ?_;refine ad ?_;refine aD Z (fun a6=>?_) (fun a6=>?_)
   ·exact absurd a6 (by cases wc<;>decide)
   refine aG ?_;refine aC ?_;refine ad ?_;refine ah Z ?_;refine Y Z (aq Z) Z ?_;refine Y Z (ax Z Z Z) Z ?_;refine Y Z (ak Z) Z ?_;refine af ?_;refine aH ⟨fd-1,(by have:=SU ao;omega),(by(iterate 49 refine aT.put Z ?_);exact aT.refl _ _),mm+1,by have:=SU ao;omega,congrArg (fun z=>some (U.int .i64 z))<|aW oM,ar⟩
  refine bg ?_;refine aO ?_;refine aS ?_;refine aL ?_;refine aC ?_;refine ad ?_;refine ah Z ?_;refine Y Z (aq Z) Z ?_;refine Y Z (ax Z Z Z) Z ?_;refine Y Z (ak Z) Z ?_;refine af ?_;have ar:=ar.pop;have ar:=ar.pop;refine aH ⟨dx-1,(by have:=bc W;omega),(by(iterate 231 refine aT.put Z ?_);exact aT.refl _ _),i+1,K5,⟨by have:=bc W;omega,KP.le_trans B<|KP.le_trans C<|KP.le_trans u A⟩,congrArg (fun z=>some (U.int .i64 z))<|aW (by have:=T.bO;have:=bc W;omega),ar⟩
 refine bg ?_;refine aO ?_;refine aS ?_;refine aL ?_;refine ad ?_;refine al ?_;refine ah Z ?_;refine Y Z (ak Z) Z ?_;refine af ?_;refine ad ?_;refine aF ?_;exact aB Z Z Z
section
variable {H_:Type} {V:aE}
theorem Gm (A:∀(b:Nat) (o:cD),V.m.get b=some o->b<V.next):∀(fuel:Nat) (d:DataW H_) (vs:List U),Fit Tryz.prog fuel 91 d->dH Tryz.prog V fuel 91 d vs->eH (we V) fuel (Bo fuel d) vs
 | 0,_,_,hf,_=>hf.elim
 | 1,d,vs,hf,j=>by
  obtain⟨_,h⟩:=gm (m:=4) Tryz.underlying91 O O hf j;exact(h 0 _ Z).1.elim
 | fuel+2,d,vs,hf,j=>by
  obtain⟨hl,h⟩:=gm (m:=4) Tryz.underlying91 O O hf j
  obtain⟨a,b,c,e,rfl⟩:∃a b c e,vs= [a,b,c,e]:=by
   match vs,hl with
   | [a,b,c,e],_=>exact⟨a,b,c,e,Z⟩
  obtain⟨B,C⟩:Fit Tryz.prog _ 3 (cO d 0)/\dH Tryz.prog V _ 3 (cO d 0) (([a,b,c,e].drop 0).take<|Tryz.prog.cellsOf 3):=h 0 _ Z;obtain⟨E,F⟩:Fit Tryz.prog _ 2 (cO d 1)/\dH Tryz.prog V _ 2 (cO d 1) (([a,b,c,e].drop 1).take<|Tryz.prog.cellsOf 2):=h 1 _ Z;obtain⟨G,I⟩:Fit Tryz.prog _ 9 (cO d 2)/\dH Tryz.prog V _ 9 (cO d 2) (([a,b,c,e].drop 2).take<|Tryz.prog.cellsOf 9):=h 2 _ Z;obtain⟨K,L⟩:Fit Tryz.prog _ 86 (cO d 3)/\dH Tryz.prog V _ 86 (cO d 3) (([a,b,c,e].drop 3).take<|Tryz.prog.cellsOf 86):=h 3 _ Z;have M:Tryz.prog.cellsOf 3=1:=by kernel_rfl
  have Q:Tryz.prog.cellsOf 2=1:=by kernel_rfl
  have R:Tryz.prog.cellsOf 9=1:=by kernel_rfl
  have u:Tryz.prog.cellsOf 86=1:=by kernel_rfl
  have e0:=(iK Tryz.underlying3 B C).1;have e1:=(iK Tryz.underlying2 E F).1;have e2:=Qa Tryz.underlying9 G I;obtain⟨v,z,S⟩:=fR (m:=4) (Bo fuel) (eH (we V) fuel) Tryz.underlying86 O (by decide) A K L fun x vs hf j=>Gm A fuel x vs hf j
  rw[M] at e0;rw[Q] at e1;rw[R] at e2;rw[u] at z;simp only[List.drop_zero,List.take_succ_cons,List.take_zero,List.drop_succ_cons,List.cons.injEq,and_true] at e0 e1 e2 z;subst e0;subst e1;subst e2;subst z;show∃w,_= [_,_,_,w]/\bL (we V) 4 (eH (we V) (fuel+1)) ((fz<|cO d 3).map<|Bo fuel) w;exact⟨_,Z,S.zG fun x vs h=>eH.up h⟩
theorem Nt (A:∀(b:Nat) (o:cD),V.m.get b=some o->b<V.next) (fuel:Nat) (d:DataW H_) (vs:List U) (hf:Fit Tryz.prog (fuel+2) 88 d) (u:dH Tryz.prog V (fuel+2) 88 d vs):j0 (we V) fuel (LZ fuel d) vs:=by
 obtain⟨hl,h⟩:=gm (m:=6) Tryz.underlying88 O O hf u
 obtain⟨a,b,c,e,g,i,rfl⟩:∃a b c e g i,vs= [a,b,c,e,g,i]:=by
  match vs,hl with
  | [a,b,c,e,g,i],_=>exact⟨a,b,c,e,g,i,Z⟩
 obtain⟨B,C⟩:Fit Tryz.prog _ 3 (cO d 0)/\dH Tryz.prog V _ 3 (cO d 0) (([a,b,c,e,g,i].drop 0).take<|Tryz.prog.cellsOf 3):=h 0 _ Z;obtain⟨E,F⟩:Fit Tryz.prog _ 3 (cO d 1)/\dH Tryz.prog V _ 3 (cO d 1) (([a,b,c,e,g,i].drop 1).take<|Tryz.prog.cellsOf 3):=h 1 _ Z;obtain⟨G,I⟩:Fit Tryz.prog _ 3 (cO d 2)/\dH Tryz.prog V _ 3 (cO d 2) (([a,b,c,e,g,i].drop 2).take<|Tryz.prog.cellsOf 3):=h 2 _ Z;obtain⟨K,L⟩:Fit Tryz.prog _ 3 (cO d 3)/\dH Tryz.prog V _ 3 (cO d 3) (([a,b,c,e,g,i].drop 3).take<|Tryz.prog.cellsOf 3):=h 3 _ Z;obtain⟨M,Q⟩:Fit Tryz.prog _ 3 (cO d 4)/\dH Tryz.prog V _ 3 (cO d 4) (([a,b,c,e,g,i].drop 4).take<|Tryz.prog.cellsOf 3):=h 4 _ Z;obtain⟨R,S⟩:Fit Tryz.prog _ 86 (cO d 5)/\dH Tryz.prog V _ 86 (cO d 5) (([a,b,c,e,g,i].drop 5).take<|Tryz.prog.cellsOf 86):=h 5 _ Z;have T:Tryz.prog.cellsOf 3=1:=by kernel_rfl
 have j:Tryz.prog.cellsOf 86=1:=by kernel_rfl
 have e0:=(iK Tryz.underlying3 B C).1;have e1:=(iK Tryz.underlying3 E F).1;have e2:=(iK Tryz.underlying3 G I).1;have e3:=(iK Tryz.underlying3 K L).1;have e4:=(iK Tryz.underlying3 M Q).1;obtain⟨v,z,W⟩:=fR (m:=4) (Bo fuel) (eH (we V) fuel) Tryz.underlying86 O (by decide) A R S fun x vs hf u=>Gm A fuel x vs hf u
 rw[T] at e0 e1 e2 e3 e4;rw[j] at z;simp only[List.drop_zero,List.take_succ_cons,List.take_zero,List.drop_succ_cons,List.cons.injEq,and_true] at e0 e1 e2 e3 e4 z;subst e0;subst e1;subst e2;subst e3;subst e4;subst z;exact⟨_,Z,W⟩
theorem Ns (z:∀(b:Nat) (o:cD),V.m.get b=some o->b<V.next) (fuel:Nat) (d:DataW H_) (vs:List U) (hf:Fit Tryz.prog (fuel+4) 55 d) (j:dH Tryz.prog V (fuel+4) 55 d vs):lW (we V) fuel (IY fuel d) vs:=by
 obtain⟨hl,h⟩:=gm (m:=2) Tryz.underlying55 O O hf j
 obtain⟨a,b,rfl⟩:∃a b,vs= [a,b]:=by
  match vs,hl with
  | [a,b],_=>exact⟨a,b,Z⟩
 obtain⟨A,B⟩:Fit Tryz.prog _ 3 (cO d 0)/\dH Tryz.prog V _ 3 (cO d 0) (([a,b].drop 0).take<|Tryz.prog.cellsOf 3):=h 0 _ Z;obtain⟨C,E⟩:Fit Tryz.prog _ 53 (cO d 1)/\dH Tryz.prog V _ 53 (cO d 1) (([a,b].drop 1).take<|Tryz.prog.cellsOf 53):=h 1 _ Z;have F:Tryz.prog.cellsOf 3=1:=by kernel_rfl
 have u:Tryz.prog.cellsOf 53=1:=by kernel_rfl
 have e0:=(iK Tryz.underlying3 A B).1;obtain⟨v,e1,G⟩:=fR (m:=6) (LZ fuel) (j0 (we V) fuel) Tryz.underlying53 O (by decide) z C E fun x vs hf j=>Nt z fuel x vs hf j
 rw[F] at e0;rw[u] at e1;simp only[List.drop_zero,List.take_succ_cons,List.take_zero,List.drop_succ_cons,List.cons.injEq,and_true] at e0 e1;subst e0;subst e1;exact⟨_,Z,G⟩
theorem Kn (u:∀(b:Nat) (o:cD),V.m.get b=some o->b<V.next) (fuel:Nat) (d:DataW H_) (vs:List U) (hf:Fit Tryz.prog (fuel+5) 22 d) (j:dH Tryz.prog V (fuel+5) 22 d vs):∃v,vs= [v]/\bL (we V) 2 (lW (we V) fuel) ((fz d).map<|IY fuel) v:=
 fR (m:=2) (IY fuel) (lW (we V) fuel) Tryz.underlying22 O (by decide) u hf j fun x vs hf j=>Ns u fuel x vs hf j
def yJ (d:DataW H_):cY:=⟨oH<|cO d 0,oH<|cO d 1⟩
def DA (d:DataW H_):db:=⟨oH<|cO d 0,oH<|cO d 1,oH<|cO d 2,oH<|cO d 3,oH<|cO d 4⟩
def SJ (d:DataW H_):XG:=⟨(fz<|cO d 0).map oH,(fz<|cO d 1).map fun r=>(fz r).map DA,(fz<|cO d 2).map fun r=>(fz r).map yJ,(fz<|cO d 3).map fun r=>(fz r).map yJ⟩
theorem PX {fuel:Nat} {d:DataW H_} {vs:List U} (hf:Fit Tryz.prog (fuel+2) 51 d) (j:dH Tryz.prog V (fuel+2) 51 d vs):nH (yJ d) vs:=by
 obtain⟨hl,h⟩:=gm (m:=2) Tryz.underlying51 O O hf j
 obtain⟨a,b,rfl⟩:∃a b,vs= [a,b]:=by
  match vs,hl with
  | [a,b],_=>exact⟨a,b,Z⟩
 obtain⟨u,z⟩:Fit Tryz.prog _ 3 (cO d 0)/\dH Tryz.prog V _ 3 (cO d 0) (([a,b].drop 0).take<|Tryz.prog.cellsOf 3):=h 0 _ Z;obtain⟨A,B⟩:Fit Tryz.prog _ 3 (cO d 1)/\dH Tryz.prog V _ 3 (cO d 1) (([a,b].drop 1).take<|Tryz.prog.cellsOf 3):=h 1 _ Z;have C:Tryz.prog.cellsOf 3=1:=by kernel_rfl
 have e0:=(iK Tryz.underlying3 u z).1;have e1:=(iK Tryz.underlying3 A B).1;rw[C] at e0 e1;simp only[List.drop_zero,List.take_succ_cons,List.take_zero,List.drop_succ_cons,List.cons.injEq,and_true] at e0 e1;subst e0;subst e1;rfl
theorem PW {fuel:Nat} {d:DataW H_} {vs:List U} (hf:Fit Tryz.prog (fuel+2) 59 d) (j:dH Tryz.prog V (fuel+2) 59 d vs):mJ (DA d) vs:=by
 obtain⟨hl,h⟩:=gm (m:=5) Tryz.underlying59 O O hf j
 obtain⟨a,b,c,e,g,rfl⟩:∃a b c e g,vs= [a,b,c,e,g]:=by
  match vs,hl with
  | [a,b,c,e,g],_=>exact⟨a,b,c,e,g,Z⟩
 obtain⟨u,z⟩:Fit Tryz.prog _ 3 (cO d 0)/\dH Tryz.prog V _ 3 (cO d 0) (([a,b,c,e,g].drop 0).take<|Tryz.prog.cellsOf 3):=h 0 _ Z;obtain⟨A,B⟩:Fit Tryz.prog _ 3 (cO d 1)/\dH Tryz.prog V _ 3 (cO d 1) (([a,b,c,e,g].drop 1).take<|Tryz.prog.cellsOf 3):=h 1 _ Z;obtain⟨C,E⟩:Fit Tryz.prog _ 3 (cO d 2)/\dH Tryz.prog V _ 3 (cO d 2) (([a,b,c,e,g].drop 2).take<|Tryz.prog.cellsOf 3):=h 2 _ Z;obtain⟨F,G⟩:Fit Tryz.prog _ 2 (cO d 3)/\dH Tryz.prog V _ 2 (cO d 3) (([a,b,c,e,g].drop 3).take<|Tryz.prog.cellsOf 2):=h 3 _ Z;obtain⟨I,K⟩:Fit Tryz.prog _ 2 (cO d 4)/\dH Tryz.prog V _ 2 (cO d 4) (([a,b,c,e,g].drop 4).take<|Tryz.prog.cellsOf 2):=h 4 _ Z;have L:Tryz.prog.cellsOf 3=1:=by kernel_rfl
 have M:Tryz.prog.cellsOf 2=1:=by kernel_rfl
 have e0:=(iK Tryz.underlying3 u z).1;have e1:=(iK Tryz.underlying3 A B).1;have e2:=(iK Tryz.underlying3 C E).1;have e3:=(iK Tryz.underlying2 F G).1;have e4:=(iK Tryz.underlying2 I K).1;rw[L] at e0 e1 e2;rw[M] at e3 e4;simp only[List.drop_zero,List.take_succ_cons,List.take_zero,List.drop_succ_cons,List.cons.injEq,and_true] at e0 e1 e2 e3 e4;subst e0;subst e1;subst e2;subst e3;subst e4;rfl
theorem HV (u:∀(b:Nat) (o:cD),V.m.get b=some o->b<V.next) {fuel:Nat} {d:DataW H_} {vs:List U} (hf:Fit Tryz.prog (fuel+5) 27 d) (j:dH Tryz.prog V (fuel+5) 27 d vs):∃a b c e,vs= [a,b,c,e]/\gY (we V) (SJ d) a b c e:=by
 obtain⟨hl,h⟩:=gm (m:=4) Tryz.underlying27 O O hf j
 obtain⟨a,b,c,e,rfl⟩:∃a b c e,vs= [a,b,c,e]:=by
  match vs,hl with
  | [a,b,c,e],_=>exact⟨a,b,c,e,Z⟩
 obtain⟨G,I⟩:Fit Tryz.prog _ 23 (cO d 0)/\dH Tryz.prog V _ 23 (cO d 0) (([a,b,c,e].drop 0).take<|Tryz.prog.cellsOf 23):=h 0 _ Z;obtain⟨K,L⟩:Fit Tryz.prog _ 24 (cO d 1)/\dH Tryz.prog V _ 24 (cO d 1) (([a,b,c,e].drop 1).take<|Tryz.prog.cellsOf 24):=h 1 _ Z;obtain⟨M,Q⟩:Fit Tryz.prog _ 25 (cO d 2)/\dH Tryz.prog V _ 25 (cO d 2) (([a,b,c,e].drop 2).take<|Tryz.prog.cellsOf 25):=h 2 _ Z;obtain⟨R,S⟩:Fit Tryz.prog _ 25 (cO d 3)/\dH Tryz.prog V _ 25 (cO d 3) (([a,b,c,e].drop 3).take<|Tryz.prog.cellsOf 25):=h 3 _ Z;have z:Tryz.prog.cellsOf 23=1:=by kernel_rfl
 have A:Tryz.prog.cellsOf 24=1:=by kernel_rfl
 have B:Tryz.prog.cellsOf 25=1:=by kernel_rfl
 have T:Tryz.prog.cellsOf 2=1:=by kernel_rfl
 obtain⟨v0,C,h0⟩:=fR (m:=1) oH eu Tryz.underlying23 T (by decide) u G I fun x vs hf j=>(iK Tryz.underlying2 hf j).1
 have rowE:∀(x:DataW H_) (vs:List U),Fit Tryz.prog (fuel+3) 56 x->dH Tryz.prog V (fuel+3) 56 x vs->RL (we V) 5 mJ ((fz x).map DA) vs:=fun x vs hf j=>
  fR (m:=5) DA mJ Tryz.underlying56 O (by decide) u hf j fun x vs hf j=>PW hf j
 have rowI:∀(x:DataW H_) (vs:List U),Fit Tryz.prog (fuel+3) 49 x->dH Tryz.prog V (fuel+3) 49 x vs->RL (we V) 2 nH ((fz x).map yJ) vs:=fun x vs hf j=>
  fR (m:=2) yJ nH Tryz.underlying49 O (by decide) u hf j fun x vs hf j=>PX hf j
 obtain⟨v1,e1,h1⟩:=fR (m:=1) (fun r=>(fz r).map DA) (RL (we V) 5 mJ) Tryz.underlying24 O (by decide) u K L rowE;obtain⟨v2,E,W⟩:=fR (m:=1) (fun r=>(fz r).map yJ) (RL (we V) 2 nH) Tryz.underlying25 O (by decide) u M Q rowI;obtain⟨v3,F,X⟩:=fR (m:=1) (fun r=>(fz r).map yJ) (RL (we V) 2 nH) Tryz.underlying25 O (by decide) u R S rowI;rw[z] at C;rw[A] at e1;rw[B] at E F;simp only[List.drop_zero,List.take_succ_cons,List.take_zero,List.drop_succ_cons,List.cons.injEq,and_true] at C e1 E F;subst C;subst e1;subst E;subst F;exact⟨_,_,_,_,Z,h0,h1,W,X⟩
theorem iF.up:∀{k:Nat} {x:XE},iF k x->iF (k+1) x
 | 0,_,h=>h.elim
 | _+1,.mk _ _ _ _,⟨h1,j⟩=>⟨h1,fun y m=>iF.up (j y m)⟩
theorem qN {α:Type} {K:KP} {m:Nat} {R:α->List U->Prop} {l:List α} {v:U} (h:bL K m R l v):∀x∈l,∃vs,R x vs:=fun x hx=>by
 obtain⟨i,hi⟩:=gO_ hx;obtain⟨_,_,_,vs,_,_,_,_,j⟩:=h.at hi;exact⟨vs,j⟩
theorem Cp (z:∀(b:Nat) (o:cD),V.m.get b=some o->b<V.next):∀(fuel:Nat) (d:DataW H_) (vs:List U),Fit Tryz.prog fuel 91 d->dH Tryz.prog V fuel 91 d vs->iF fuel (Bo fuel d)
 | 0,_,_,hf,_=>hf.elim
 | 1,d,vs,hf,j=>by
  obtain⟨_,h⟩:=gm (m:=4) Tryz.underlying91 O O hf j;exact(h 0 _ Z).1.elim
 | fuel+2,d,vs,hf,j=>by
  obtain⟨hl,h⟩:=gm (m:=4) Tryz.underlying91 O O hf j;obtain⟨A,d2⟩:Fit Tryz.prog _ 9 (cO d 2)/\_:=h 2 _ Z;obtain⟨B,C⟩:Fit Tryz.prog _ 86 (cO d 3)/\dH Tryz.prog V _ 86 (cO d 3) _:=h 3 _ Z;obtain⟨v,e3,E⟩:=fR (m:=4) (Bo fuel) (fun x _=>iF fuel x) Tryz.underlying86 O (by decide) z B C fun x vs hf j=>Cp z fuel x vs hf j
  exact⟨Oc Tryz.underlying9 A,fun y F=>by obtain⟨_,u⟩:=qN E y F;exact u.up⟩
theorem J9 (u:∀(b:Nat) (o:cD),V.m.get b=some o->b<V.next) (fuel:Nat) (d:DataW H_) (vs:List U) (hf:Fit Tryz.prog (fuel+2) 88 d) (j:dH Tryz.prog V (fuel+2) 88 d vs):∀e∈(LZ fuel d).exprs,iF fuel e:=by
 obtain⟨hl,h⟩:=gm (m:=6) Tryz.underlying88 O O hf j;obtain⟨z,A⟩:Fit Tryz.prog _ 86 (cO d 5)/\dH Tryz.prog V _ 86 (cO d 5) _:=h 5 _ Z;obtain⟨v,e5,B⟩:=fR (m:=4) (Bo fuel) (fun x _=>iF fuel x) Tryz.underlying86 O (by decide) u z A fun x vs hf j=>Cp u fuel x vs hf j
 exact fun e he=>by obtain⟨_,h⟩:=qN B e he;exact h
theorem J8 (u:∀(b:Nat) (o:cD),V.m.get b=some o->b<V.next) (fuel:Nat) (d:DataW H_) (vs:List U) (hf:Fit Tryz.prog (fuel+4) 55 d) (j:dH Tryz.prog V (fuel+4) 55 d vs):lV fuel (IY fuel d):=by
 obtain⟨hl,h⟩:=gm (m:=2) Tryz.underlying55 O O hf j;obtain⟨z,A⟩:Fit Tryz.prog _ 53 (cO d 1)/\dH Tryz.prog V _ 53 (cO d 1) _:=h 1 _ Z;obtain⟨v,e1,B⟩:=fR (m:=6) (LZ fuel) (fun x _=>∀e∈x.exprs,iF fuel e) Tryz.underlying53 O (by decide) u z A fun x vs hf j=>J9 u fuel x vs hf j
 exact fun x hx=>by obtain⟨_,h⟩:=qN B x hx;exact h
theorem HN (u:∀(b:Nat) (o:cD),V.m.get b=some o->b<V.next) (fuel:Nat) (d:DataW H_) (vs:List U) (hf:Fit Tryz.prog (fuel+5) 22 d) (j:dH Tryz.prog V (fuel+5) 22 d vs):∀c∈(fz d).map (IY fuel),lV fuel c:=by
 obtain⟨v,e1,z⟩:=fR (m:=2) (IY fuel) (fun x _=>lV fuel x) Tryz.underlying22 O (by decide) u hf j fun x vs hf j=>J8 u fuel x vs hf j
 exact fun c hc=>by obtain⟨_,h⟩:=qN z c hc;exact h
end
section
variable {H_:Type} {enc:TypeId×Value->H_} {w:World}
def vg (w:World) (v:Value):Prop:=v= .slice none 0 0∨∃(a:Addr) (len cap:Nat) (c:Array Value) (e:TypeId) (fr:Nat×Nat),v= .slice (some a) len cap/\w.heap[a.block]?=some (.cells c e fr)
theorem p5 {base:Nat} {t e:TypeId} {v:Value} (hu:Tryz.prog.underlying t=some (.slice e)) (j:Cell.okWide Tryz.prog w .any base t v):vg w v:=by
 unfold Cell.okWide at j;rw[hu] at j;dsimp only at j;unfold Cell.ok at j;rw[hu] at j;cases v with
 | slice a len cap=>
  cases a with
  | none=>
   try dsimp only at j
   split at j<;>first | (rename_i he;cases he;done) | skip
   all_goals first
    | (rename_i he;cases he;exact .inl Z)
    | (rename_i h1 u;cases u;done)
    | exact j.elim
  | some a=>
   obtain⟨_,_,_,aa,row,cells,m,_⟩:=j;unfold World.shape? at m;split at m
   ·rename_i c e fr z;exact .inr ⟨a,len,cap,c,e,fr,Z,z⟩
   cases m
 | _=>exact j.elim
theorem Cv {base:Nat} {v:Value} (j:Value.okWide Tryz.prog w .any base 27 v):∃c:Array Value,v= .agg c/\c.size=4/\∀v∈c.toList,vg w v:=by
 unfold Value.okWide at j;rw[Tryz.underlying27] at j;obtain⟨c,rfl,z,ts,B,_,m⟩:=j;have z:c.size=4:=z.trans O;have A:Tryz.prog.cellTypes Tryz.prog.depth 27=some [23,24,25,25]:=by kernel_rfl
 rw[A] at B;cases B;refine⟨c,Z,z,fun v hv=>?_⟩;obtain⟨i,hi⟩:=gO_ hv;rw[aT_] at hi;have aa:i<4:=by rw[<-z];exact(aS_.1 hi).1
 obtain⟨u,hu,j⟩:=m i v hi;obtain rfl | rfl | rfl | rfl:i=0∨i=1∨i=2∨i=3:=by omega
 ·obtain rfl:(23:Nat)=u:=by simpa using hu
  exact p5 Tryz.underlying23 j
 ·obtain rfl:(24:Nat)=u:=by simpa using hu
  exact p5 Tryz.underlying24 j
 ·obtain rfl:(25:Nat)=u:=by simpa using hu
  exact p5 Tryz.underlying25 j
 obtain rfl:(25:Nat)=u:=by simpa using hu
 exact p5 Tryz.underlying25 j
theorem trodAll_cons {P:Program} {ts:List TypeId} {t:TypeId} {vs:List Value} {ds:List (DataW H_)} {ps:List MemPlace} {sp:Nat->Bool} (h:DataW.TrodAll enc P w 0 sp true (t::ts) vs ds ps):
  ∃v vs' d ds',vs=v::vs'/\ds=d::ds'/\(∃n p,DataW.trod enc P w 0 sp true n t v.cells.toList=some (d,p))/\∃q,DataW.TrodAll enc P w 0 sp true ts vs' ds' q:=by
 match vs,ds,h with
 | v::vs',d::ds',⟨p,q,⟨n,h1⟩,j,_⟩=>exact⟨v,vs',d,ds',Z,Z,⟨n,p,h1⟩,q,j⟩
theorem trodAll_nil {P:Program} {vs:List Value} {ds:List (DataW H_)} {ps:List MemPlace} {sp:Nat->Bool} (h:DataW.TrodAll enc P w 0 sp true [] vs ds ps):vs= []/\ds= []:=by
 match vs,ds,h with
 | [],[],_=>exact⟨Z,Z⟩
end
end Go.Ev
namespace Go.Ev
variable [Env]
open Go.Proofs
set_option maxRecDepth 100000
set_option maxHeartbeats 8000000
theorem JR:Tryz.prog.follows .mixedOrders=true:=by kernel_rfl
def C1 (_:Nat):Bool:=false
theorem Q5 (g:Nat) (h:C1 g=true):wG Tryz.prog g:=by cases h
def GL:Cx:=⟨0,C1,C1,fun _ _=>none,[],[],fun _ _ _=>none,fun _ _ _=>none⟩
theorem Sj:BG Tryz.prog GL:=⟨Q5,(fun f args v h=>by cases h),(fun e h=>by cases h),(fun f a s v h=>by cases h)⟩
theorem Rl (E:Nat->TypeId):qo (Cn Tryz.prog GL 1000 4 [] (VG 0 [] E))=true:=by kernel_rfl
theorem PB:F2 Tryz.prog 0 [] 4 [] (.bool true):=E0 (G:=GL) JR Sj (by rfl) Rl
def LY (f:Nat) (args:List U):Option U:=bif Nat.beq f 4 then(match args with | []=>some (.bool true) | _=>none) else none
def GC:Cx:=⟨0,C1,C1,LY,[],[],fun _ _ _=>none,fun _ _ _=>none⟩
theorem Si:BG Tryz.prog GC:=by
 refine⟨Q5,fun f args v h=>?_,(fun e h=>by cases h),(fun f a s v h=>by cases h)⟩;have h:LY f args=some v:=h;show F2 Tryz.prog 0 [] f args v;unfold LY at h;cases h4:Nat.beq f 4 with
 | true=>
  rw[h4] at h;simp only[cond_true] at h;cases args with
  | nil=>cases h;rw[nB h4];exact PB
  | cons _ _=>cases h
 | false=>
  rw[h4] at h;cases h
theorem NT:Plain GC:=⟨fun _ _ _=>Z,fun f a h=>by show LY f a=none;unfold LY;rw[show Nat.beq f 4=false from h];rfl,Z,fun _ _ _=>Z,fun f h=>Z⟩
theorem Sb (J:dh):GR J GC:=fun g h=>absurd h (nZ_ _)
section
variable {H_:Type} {enc:TypeId×Value->H_} {w:World}
theorem KD (ho:Hi w) {F:Nat} {G:Value} {u:Array Value} {z M:DataW H_×List MemPlace} (s0:vg w G) (s1:u.size=4/\∀v∈u.toList,vg w v)
  (S:DataW.trod enc Tryz.prog w 0 (fun _=>true) true (F+5) 22 [G]=some z) (t1:DataW.trod enc Tryz.prog w 0 (fun _=>true) true (F+5) 27 u.toList=some M):
  ∃(J:dh) (V:aE) (k:Nat) (l:List XC) (g:XG) (Q a b c d:U),Inv J V w/\kb V/\dw J [Q] [G]/\dw J [a,b,c,d] u.toList/\bL (we V) 2 (lW (we V) k) l Q/\(∀c∈l,lV k c)/\gY (we V) g a b c d:=by
 by_cases hw:∃(r:Nat) (c:Array Value) (e:TypeId) (fr:Nat×Nat),w.heap[r]?=some (Obj.cells c e fr)
 ·obtain⟨ρ1,T,I,i1,r1,l1,d0,W⟩:=lay hw (F+5) 22 [G] z.1 z.2 S _ _ (QR w ho) kb.leaf;obtain⟨ρ2,R,ab,i2,r2,l2,d1,X⟩:=lay hw (F+5) 27 u.toList M.1 M.2 t1 _ _ i1 r1;have n1:∀(b:Nat) (o:cD),T.m.get b=some o->b<T.next:=fun b o h=>dH.fresh i1 h
  have n2:∀(b:Nat) (o:cD),R.m.get b=some o->b<R.next:=fun b o h=>dH.fresh i2 h
  have K:KP.le (we T) (we R):=fun b o h=>⟨n2 b o<|l2.get b o h.2,l2.get b o h.2⟩
  have hf:=HN n1 F z.1 I (mY _ _ _ _ z.2 S) d0;obtain⟨Q,rfl,q0⟩:=Kn n1 F z.1 I (mY _ _ _ _ z.2 S) d0;obtain⟨a,b,c,d,rfl,q1⟩:=HV n2 (mY _ _ _ _ M.2 t1) d1;exact⟨ρ2,R,F,_,_,Q,a,b,c,d,i2,r2,W.mono l2.le,X,q0.mono K fun _ _ h=>h.mono K,hf,q1⟩
 have j:∀v,vg w v->v= .slice none 0 0:=fun v hv=>by
  rcases hv with h | ⟨a,len,cap,c',e,fr,_,hb⟩
  ·exact h
  exact absurd ⟨_,_,_,_,hb⟩ hw
 obtain rfl:=j G s0;obtain⟨h4,L⟩:=s1;have hlen:u.toList.length=4:=by rw[Array.length_toList];exact h4
 obtain⟨A,B,C,E,aa⟩:∃A B C E,u.toList= [A,B,C,E]:=by
  match u.toList,hlen with
  | [A,B,C,E],_=>exact⟨A,B,C,E,Z⟩
 rw[aa] at L⊢;obtain rfl:=j A (L A (by simp));obtain rfl:=j B (L B (by simp));obtain rfl:=j C (L C (by simp));obtain rfl:=j E (L E (by simp));have vn:∀J:dh,VR J .az (.slice none 0 0):=fun J=>by simp only[VR]
 exact⟨fun _=>none,V0,0,[],⟨[],[],[],[]⟩,.az,.az,.az,.az,.az,QR w ho,kb.leaf,dw.cons (vn _) dw.nil,dw.cons (vn _)<|dw.cons (vn _)<|dw.cons (vn _)<|dw.cons (vn _) dw.nil,.inl ⟨Z,Z⟩,(fun c h=>by cases h),.inl ⟨Z,Z⟩,.inl ⟨Z,Z⟩,.inl ⟨Z,Z⟩,.inl ⟨Z,Z⟩⟩
end
end Go.Ev
end
