/- Part of the proof: an evaluator of the model's code, rules for walks on it, walks. Without conditions. -/
import Derived.Test.YtpomgjnfncgkgaaGreatDoorEb
import Derived.Test.YtpomgjnfncgkgaaGreatDoorEc
import Derived.Test.YtpomgjnfncgkgaaGreatDoorProg
import Derived.KernelRfl
set_option linter.unusedSectionVars false
set_option linter.unusedVariables false
set_option linter.unusedSimpArgs false
noncomputable section
namespace Go.Ev
variable [Env]
open Go.Proofs
set_option maxRecDepth 4000
set_option maxHeartbeats 8000000
theorem E7 {G:Cx} (b:Plain G) {K:KP} {l:List bW} {v:V} (h:bF K 5 kJ l v) {O:N} {L:Own} (ar:D O K L):a8 Tryz.prog G 109 [v] O fun v O'=>v= .bool (cq 14 (.ofNat l.length))/\D O' K L:=by
 refine QO b Tryz.func109 Z<|Qg 8 Z<|Y Z (RC h Z Z Z (e:=56) Z) Z<|Qk 5 Z ?_;exact aB Z Z ⟨Z,ar⟩
theorem AP {G:Cx} (F:Plain G) {K:KP} {l:List (List bW)} {v:V} {p:List bW->Bool} (h:bF K 1 (RL K 5 kJ) l v) {O:N} {L:Own} (ar:D O K L)
  (w:∀x u O L,D O K L->RL K 5 kJ x [u]->a8 Tryz.prog G 109 [u] O fun v O'=>v= .bool (p x)/\D O' K L):a8 Tryz.prog G 161 [v,.func 109 [] []] O fun v O'=>v= .int .i64 (fB p l 0)/\D O' K L:=by
 refine QO F Tryz.func161 Z<|Pz 9 Z<|Y Z (RC h Z Z Z (e:=57) Z) Z<|PD 4 Z ?_;obtain⟨LL1,ar,hLL1⟩:=ar.named;refine bh ([4,5]++rg 8 11) (fun j t O=>∃(i:Nat),j+i=l.length/\fB p l 0=fB p (l.drop i) i/\t.get 8=some (.int .i64 (.ofNat i))/\D O K LL1) (l.length) ⟨0,Z,Z,Z,ar⟩ ?_;clear ar;intro M t O aq Q;obtain⟨i,hj,he,C,ar⟩:=Q;subst hLL1;obtain⟨oo,rfl⟩:=aq.q1 C Z;refine Qf 6 Z<|aF Z (fun E=>?_) (fun E=>?_)
 ·refine Oj 15 Z ?_;obtain⟨z,b,aa⟩:=dH E;refine Rr (e:=57) (m:=1) h b Z Z Z Z (fun ao ab B ac d=>?_);have hr14':=d;obtain⟨ap,rfl,am⟩:=hr14';refine Y Z (RE ar B Z Z) Z<|bc Z (Rx Z Z Z) (fun _=>Z) (w z _ _ _ ar d) (fun O ar=>?_);refine Qi 2 Z<|aF Z (fun A=>?_) (fun A=>?_)
  ·refine QT 7 Z<|aJ<|ay<|bD<|aJ<|ay (?_);exact aB Z Z ⟨cJ (by symm;rw[he,bX b];show(bif p z then _ else _)=_;rw[A];rfl),ar⟩
  refine aH<|aG<|QR 4 Z<|aL ⟨M-1,by omega,oF,i+1,by omega,by rw[he,bX b];show(bif p z then _ else _)=_;rw[A];rfl,cI<|aY (by have:=h.bL;omega),ar⟩
 refine PC 3 Z<|aS<|QT 6 Z ?_;exact aB Z Z ⟨cJ (by symm;rw[he,ej<|bz E];rfl),ar⟩
theorem vw {G:Cx} (b:Plain G) {K:KP} {l:List (List bW)} {v:V} (h:bF K 1 (RL K 5 kJ) l v) {O:N} {L:Own} (ar:D O K L):a8 Tryz.prog G 108 [v,.func 109 [] []] O fun v O'=>v= .bool (l.any fun x=>cq 14 (.ofNat x.length))/\D O' K L:=by
 refine QO b Tryz.func108 Z (Qg 9 Z (bc Z (Rx Z Z Z) (fun _=>Z) (AP b h ar (p:=fun x=>cq 14 (.ofNat x.length)) fun x u O L ar d=>by obtain⟨w,hw,hk⟩:=d;cases hw;exact E7 b hk ar) (fun O ar=>?_)));refine Qk 5 Z ?_;exact aB Z Z ⟨cB<|sR _ _,ar⟩
theorem HM {G:Cx} (z:Plain G) {K:KP} {g:XG} {a b c d:V} (h:eW K g a b c d) {O:N} {L:Own} (ar:D O K L):a8 Tryz.prog G 73 [.agg [a,b,c,d]] O fun v O'=>v= .bool (eP g)/\D O' K L:=by
 have h':=h;obtain⟨hi,A,hf,ho⟩:=h';refine QO z Tryz.func73 Z<|Qg 2 Z<|kp ar Z (cG Z Z) (fun O b1 ar=>?_);refine PL ar 7 [1,0] Z Z<|Y Z (RC A Z Z Z (e:=57) Z) Z<|vQ 1 Z<|ky Z (an Z) (fun w=>?_) (fun w=>?_)
 ·refine Qk 14 Z ?_;exact aB Z Z ⟨cB (by unfold eP;simp only[w,ct,cf]),ar.pop⟩
 refine QY ar 2 [0,0] Z Z<|Y Z (RC hi Z Z Z (e:=2) Z) Z<|QV 2 Z<|ky Z (an Z) (fun u=>?_) (fun u=>?_)
 ·refine Qk 8 Z ?_;exact aB Z Z ⟨cB (by unfold eP;simp only[w,u,ct,cf]),ar.pop⟩
 refine QY ar 2 [1,0] Z Z<|bc Z (Rx Z Z Z) (fun _=>Z) (vw z A ar) (fun O ar=>?_);refine Qk 5 Z ?_;exact aB Z Z ⟨cB (by unfold eP;simp only[w,u,ct,cf]),ar.pop⟩
theorem vM {G:Cx} (hG:Plain G) {K:KP} {g:XG} {a b c d:V} (h:eW K g a b c d) {O:N} {L:Own} (ar:D O K L):a8 Tryz.prog G 45 [.agg [a,b,c,d]] O fun v O'=>v= .int .i64 (cd g)/\D O' K L:=by
 have h':=h;obtain⟨hi,ht,hf,ho⟩:=h';refine QO hG Tryz.func45 Z<|Qg 2 Z<|kp ar Z (cG Z Z) (fun O b1 ar=>?_);refine O4 6 Z<|Y Z (RB Z ar.g0 (n:=4) (vs:=[_,_,_,_]) Z) Z<|bc Z (Rx Z Z Z) (fun _=>Z) (HM hG h ar) (fun O ar=>?_);refine Qi 2 Z<|aF Z (fun h8=>?_) (fun h8=>?_)
 ·refine Qh 7 Z ?_;exact aB Z Z ⟨cJ (by symm;unfold cd;rw[h8];rfl),ar.pop⟩
 refine O2 5 Z<|QY ar 2 [2,0] Z Z<|Y Z (RC hf Z Z Z (e:=74) Z) Z<|QY ar 2 [1,0] Z Z<|Y Z (RC ht Z Z Z (e:=57) Z) Z<|vQ 1 Z<|ky Z (an Z) (fun A=>?_) (fun A=>?_)
 ·refine PH 18 Z ?_;exact aB Z Z ⟨cJ (by symm;unfold cd;rw[h8,cC A];rfl),ar.pop⟩
 refine QY ar 2 [3,0] Z Z<|Y Z (RC ho Z Z Z (e:=74) Z) Z<|QY ar 2 [0,0] Z Z<|Y Z (RC hi Z Z Z (e:=2) Z) Z<|Qi 4 Z<|aF Z (fun E=>?_) (fun E=>?_)
 ·refine Qh 7 Z ?_;exact aB Z Z ⟨cJ (by symm;unfold cd;rw[h8,bl A,cC E];rfl),ar.pop⟩
 refine O2 5 Z<|QY ar 2 [1,0] Z Z<|Y Z (RC ht Z Z Z (e:=57) Z) Z<|PD 4 Z ?_;obtain⟨LL1,ar,hLL1⟩:=ar.named;refine bh (rg 2 5++rg 28 46) (fun j t O=>∃(i:Nat),j+i=g.threads.length/\ll g g.threads g.from_ 0=ll g (g.threads.drop i) (g.from_.drop i) i/\t.get 28=some (.int .i64 (.ofNat i))/\D O K LL1) (g.threads.length) ⟨0,Z,Z,Z,ar⟩ ?_;clear ar;intro j6 t O aq hI;obtain⟨i,cb,W,aE,ar⟩:=hI;subst hLL1;obtain⟨oo,rfl⟩:=aq.q1 aE Z;refine Qf 6 Z<|aF Z (fun aa=>?_) (fun aa=>?_)
 ·refine Oj 7 Z ?_;obtain⟨u,B,a0⟩:=dH aa;refine Rr (e:=57) (m:=1) ht B Z Z Z Z (fun cc bv a1 bw a2=>?_);have hr31':=a2;obtain⟨ce,rfl,R⟩:=hr31';refine Y Z (RE ar a1 Z Z) Z<|O6 ar 10 [2,0] Z Z ?_;obtain⟨w,z⟩:=cT (show i<g.from_.length from by rw[dG<|bl A];exact a0);refine Rr (e:=74) (m:=1) hf z Z Z Z Z (fun ch b0 a3 b3 a4=>?_);have hr36':=a4;obtain⟨ci,rfl,a5⟩:=hr36';refine Y Z (RE ar a3 Z Z) Z<|Y Z (RC a5 Z Z Z (e:=67) Z) Z<|vQ 1 Z<|Y Z (RC R Z Z Z (e:=56) Z) Z<|Qi 3 Z<|aF Z (fun F=>?_) (fun F=>?_)
  ·refine QT 6 Z<|ay<|aJ<|ay<|bD<|aJ<|ay (?_);exact aB Z Z ⟨cJ (by symm;unfold cd;rw[h8,bl A,bl E,show ll g g.threads g.from_ 0=false from by rw[W,bX B,bX z];show(bif H _ _ then _ else false)=false;rw[cC F];rfl];rfl),ar.pop⟩
  refine PB 5 Z<|Y Z (RC R Z Z Z (e:=56) Z) Z<|PD 4 Z ?_;obtain⟨LL2,ar,hLL2⟩:=ar.named;refine bh ([2,5,6]++rg 44 29) (fun j t O=>∃(M:Nat),j+M=u.length/\p7 g i u w 0=p7 g i (u.drop M) (w.drop M) M/\t.get 44=some (.int .i64 (.ofNat M))/\D O K LL2) (u.length) ⟨0,Z,Z,Z,ar⟩ ?_;clear ar;intro bt t O aq hI;obtain⟨M,b4,S,ba,ar⟩:=hI;subst hLL2;obtain⟨oo,rfl⟩:=aq.q1 ba Z;refine Qf 6 Z<|aF Z (fun am=>?_) (fun am=>?_)
  ·refine Oj 7 Z ?_;obtain⟨X,T,ac⟩:=dH am;refine Rr (e:=56) (m:=5) R T Z Z Z Z (fun ck b5 bb b6 be=>?_);obtain rfl:=be;refine Y Z (RF ar bb Z Z) Z<|kp ar Z (RD (cs:=[J,J,J,J,J])) (fun O b2 ar=>?_);refine vQ 1 Z<|bE ar Z (RG Z Z Z ar.g0 (m:=5) Z Z (cells':=[_,_,_,_,_]) Z) Z (fun O ar=>?_);refine PE 3 Z<|aQ (l:=zp [0,1,2,3,4,5,6,7,8,9,10,11,12,13,14,15,16,17,18,19,20,21,22]) U U<|aj Z Z (RB Z ar.g0 (n:=5) (vs:=[_,_,_,_,_]) Z) Z<|QZ ar 2 [0,1] Z Z<|aj Z Z (RC hi Z Z Z (e:=2) Z) Z<|dJ Z Z (Rx Z Z Z) (fun _=>Z) (AW hG _ _ ar) (fun O ar=>?_);refine⟨aX,?_⟩;refine aj Z Z (dq Z) Z<|hJ Z Z (an Z) (fun _=>Z) (fun ab=>?_) (fun ab=>?_)
   ·refine Qm 25 Z<|aJ<|ay<|bD<|aJ<|aJ<|ay<|bD<|aJ<|ay (?_);exact aB Z Z ⟨cJ (by symm;unfold cd;rw[h8,bl A,bl E,show ll g g.threads g.from_ 0=false from by rw[W,bX B,bX z];show(bif H _ _ then(bif p7 g i u w 0 then _ else false) else false)=false;rw[bl F,show p7 g i u w 0=false from by rw[S];obtain⟨Q,C⟩:=cT (show M<w.length from by rw[dG<|bl F];exact ac);rw[bX T,bX C];show(bif uQ g i M X Q then _ else false)=false;rw[show uQ g i M X Q=false from by unfold uQ;rw[mn ab];rfl];rfl];rfl];rfl),ar.pop.pop⟩
   refine aj Z Z (RB Z ar.g1 (n:=4) (vs:=[_,_,_,_]) Z) Z (QW 3 Z (aj Z Z (Rw (places:=[(0,1),(1,1)]) (zero:=[J,J]) (cs:=[_,_]) Z) Z<|QZ ar 3 [2,1] Z Z<|Rt (e:=74) (m:=1) hf z Z Z Z Z Z (fun cl b7 bi b8 bo=>?_)));have hr64':=bo;obtain⟨cn,rfl,bq⟩:=hr64';refine aj Z Z (RE ar bi Z Z) Z<|wQ 1 Z ?_;obtain⟨Q,C⟩:=cT (show M<w.length from by rw[dG<|bl F];exact ac);refine Rt (e:=67) (m:=2) bq C Z Z Z Z Z (fun co b9 br ca bs=>?_);obtain rfl:=bs;refine aj Z Z (RF ar br Z Z) Z<|dJ Z Z (Rx Z Z Z) (fun _=>Z) (C7 hG h _ _ _ _ ar) (fun O ar=>?_);refine⟨aX,?_⟩;refine aj Z Z (dq Z) Z<|Ql 3 Z<|aF Z (fun ao=>?_) (fun ao=>?_)
   ·refine QT 6 Z<|aJ<|ay<|bD<|aJ<|aJ<|ay<|bD<|aJ<|ay (?_);exact aB Z Z ⟨cJ (by symm;unfold cd;rw[h8,bl A,bl E,show ll g g.threads g.from_ 0=false from by rw[W,bX B,bX z];show(bif H _ _ then(bif p7 g i u w 0 then _ else false) else false)=false;rw[bl F,show p7 g i u w 0=false from by rw[S];rw[bX T,bX C];show(bif uQ g i M X Q then _ else false)=false;rw[show uQ g i M X Q=false from by unfold uQ;rw[fX ab,<-aY (i:=i) (by have:=ht.bL;omega)];exact mn ao];rfl];rfl];rfl),ar.pop.pop⟩
   refine aH<|aG<|QR 4 Z ?_;have ar:=ar.pop;refine aL ⟨bt-1,by omega,oF,M+1,by omega,by rw[S,bX T,bX C];show(bif uQ g i M X Q then _ else false)=_;rw[show uQ g i M X Q=true from by unfold uQ;rw[fX ab,<-aY (i:=i) (by have:=ht.bL;omega)];exact fX ao];rfl,cI<|aY (by have:=R.bL;omega),ar⟩
  refine PC 3 Z<|aS<|aG<|QR 4 Z<|aL ⟨j6-1,by omega,oF,i+1,by omega,by rw[W,bX B,bX z];show(bif H _ _ then(bif p7 g i u w 0 then _ else false) else false)=_;rw[bl F,show p7 g i u w 0=true from by rw[S,ej<|bz am];rfl];rfl,cI<|aY (by have:=ht.bL;omega),ar⟩
 refine PC 3 Z<|aS<|Pz 3 Z<|Y Z (RB Z ar.g0 (n:=4) (vs:=[_,_,_,_]) Z) Z<|bc Z (Rx Z Z Z) (fun _=>Z) (AX hG h ar) (fun O ar=>?_);refine Y Z (dq Z) Z<|Qi 2 Z<|aF Z (fun ap=>?_) (fun ap=>?_)
 ·refine Qh 7 Z ?_;exact aB Z Z ⟨cJ (by symm;unfold cd;rw[h8,bl A,bl E,show ll g g.threads g.from_ 0=true from by rw[W,ej<|bz aa];rfl,mn ap];rfl),ar.pop⟩
 refine Qh 8 Z ?_;exact aB Z Z ⟨cJ (by symm;unfold cd;rw[h8,bl A,bl E,show ll g g.threads g.from_ 0=true from by rw[W,ej<|bz aa];rfl,fX ap];rfl),ar.pop⟩
theorem RL.mono {α:Type} {K K':KP} (hk:KP.le K K') {m:Nat} {R:α->List V->Prop} {l:List α} {vs:List V} (h:RL K m R l vs):RL K' m R l vs:=let ⟨v,h1,b⟩:=h;⟨v,h1,b.mono hk fun _ _ h=>h⟩
theorem eW.mono {K K':KP} (hk:KP.le K K') {g:XG} {a b c d:V} (h:eW K g a b c d):eW K' g a b c d:=
 ⟨h.init.mono hk fun _ _ h=>h,h.threads.mono hk fun _ _ h=>h.mono hk,h.from_.mono hk fun _ _ h=>h.mono hk,h.order.mono hk fun _ _ h=>h.mono hk⟩
theorem ui {G:Cx} (B:Plain G) {K:KP} {l:List Int} {v:V} (h:bF K 1 ek l v) (C:l.length<=1048576) {O:N} {L:Own} (ar:D O K L):a8 Tryz.prog G 49 [v] O fun u O'=>∃M,dt 1 2 ek l u M/\D O' K (M++L):=by
 have h0:=h;rcases h0 with ⟨rfl,rfl⟩ | ⟨b,off,c,cells,e,ro,rfl,_⟩
 ·refine QO B Tryz.func49 Z<|QT 20 Z ?_;exact aB Z Z ⟨[],.inl ⟨Z,Z,Z⟩,ar⟩
 refine QO B Tryz.func49 Z<|Qg 17 Z<|fY ar Z (cm (e:=2) (m:=1) (z:=[J]) (cs:=[]) U U U U (by rfl)) (fun _=>Z) (fun O b1 ar=>?_);refine vQ 1 Z<|nE (R:=ek) (m:=1) (e:=2) ar h ek.leaf C (by simp) (by decide) (.inl Z) Z Z Z Z Z U U U Z Z (fun _=>Z) (fun O E Q news F ar d w A=>?_);refine Qk 4 Z ?_;exact aB Z Z ⟨[(E,.row ([]++news) F false)],.inr ⟨E,Q,news,F,by rw[nA_],Z,d,w,by simpa using A,C⟩,ar⟩
theorem J9 {G:Cx} (B:Plain G) {K:KP} {l:List bW} {v:V} (h:bF K 5 kJ l v) (C:l.length<=1048576) {O:N} {L:Own} (ar:D O K L):a8 Tryz.prog G 158 [v] O fun u O'=>∃M,dt 5 56 kJ l u M/\D O' K (M++L):=by
 have h0:=h;rcases h0 with ⟨rfl,rfl⟩ | ⟨b,off,c,cells,e,ro,rfl,_⟩
 ·refine QO B Tryz.func158 Z<|QT 20 Z ?_;exact aB Z Z ⟨[],.inl ⟨Z,Z,Z⟩,ar⟩
 refine QO B Tryz.func158 Z<|Qg 17 Z<|fY ar Z (cm (e:=56) (m:=5) (z:=[J,J,J,J,J]) (cs:=[]) U U U U (by rfl)) (fun _=>Z) (fun O b1 ar=>?_);refine vQ 1 Z<|nE (R:=kJ) (m:=5) (e:=56) ar h kJ.leaf C (by simp) (by decide) (.inl Z) Z Z Z Z Z U U U Z Z (fun _=>Z) (fun O E Q news F ar d w A=>?_);refine Qk 4 Z ?_;exact aB Z Z ⟨[(E,.row ([]++news) F false)],.inr ⟨E,Q,news,F,by rw[nA_],Z,d,w,by simpa using A,C⟩,ar⟩
theorem Ke {G:Cx} (B:Plain G) {K:KP} {l:List bT} {v:V} (h:bF K 2 ji l v) (C:l.length<=1048576) {O:N} {L:Own} (ar:D O K L):a8 Tryz.prog G 159 [v] O fun u O'=>∃M,dt 2 67 ji l u M/\D O' K (M++L):=by
 have h0:=h;rcases h0 with ⟨rfl,rfl⟩ | ⟨b,off,c,cells,e,ro,rfl,_⟩
 ·refine QO B Tryz.func159 Z<|QT 20 Z ?_;exact aB Z Z ⟨[],.inl ⟨Z,Z,Z⟩,ar⟩
 refine QO B Tryz.func159 Z<|Qg 17 Z<|fY ar Z (cm (e:=67) (m:=2) (z:=[J,J]) (cs:=[]) U U U U (by rfl)) (fun _=>Z) (fun O b1 ar=>?_);refine vQ 1 Z<|nE (R:=ji) (m:=2) (e:=67) ar h ji.leaf C (by simp) (by decide) (.inl Z) Z Z Z Z Z U U U Z Z (fun _=>Z) (fun O E Q news F ar d w A=>?_);refine Qk 4 Z ?_;exact aB Z Z ⟨[(E,.row ([]++news) F false)],.inr ⟨E,Q,news,F,by rw[nA_],Z,d,w,by simpa using A,C⟩,ar⟩
theorem HI {G:Cx} (X:Plain G) {K:KP} {ls:List (List bW)} {v:V} (h:bF K 1 (RL K 5 kJ) ls v) (hn:ls.length<=1000) (R:∀l∈ls,l.length<=1048576) {O:N} {L:Own} (ar:D O K L):
  a8 Tryz.prog G 104 [v] O fun u O'=>∃bo us M,u= .slice bo 0 ls.length (.known ls.length)/\gN 5 56 kJ ls us M/\D O' K (M++(bo,.row us 57 false)::L):=by
 refine QO X Tryz.func104 Z<|Qg 8 Z<|Y Z (RC h Z Z Z (e:=57) Z) Z<|fY ar Z (iy (n:=ls.length) (e:=57) (w:=24) (z:=[.av]) Z U U U Z Z oM oM) (fun _=>Z) (fun O bo ar=>?_);rw[gh] at ar;refine O4 7 Z (Y Z (RC h Z Z Z (e:=57) Z) Z (PD 4 Z (bh ([4,5]++rg 11 11) (fun j t O=>∃(i:Nat) (us:List V) (M:Own),j+i=ls.length/\gN 5 56 kJ (ls.take i) us M/\t.get 11=some (.int .i64 (.ofNat i))/\D O K (M++(bo,.row (us++List.replicate (ls.length-i) V.av) 57 false)::L)) (ls.length) ⟨0,[],[],Z,.nil,Z,ar⟩ ?_)));clear ar;intro j3 t O aq hI;obtain⟨i,us,M,ac,S,B,ar⟩:=hI;obtain⟨oo,rfl⟩:=aq.q1 B Z;refine Qf 6 Z<|aF Z (fun d=>?_) (fun d=>?_)
 ·refine Oj 7 Z ?_;obtain⟨am,b,A⟩:=dH d;refine Rr (e:=57) (m:=1) h b Z Z Z Z (fun ao aa C ab E=>?_);have hr14':=E;obtain⟨ap,rfl,F⟩:=hr14';refine Y Z (RE ar C Z Z) Z<|Qj 8 Z<|bR Z (Rx Z Z Z) (fun _=>Z) (J9 X F (R _<|gB_ b) ar) ?_;rintro Q O ⟨T,hM19,ar⟩;refine Y Z (eI (e:=57) (m:=1) Z U Z Z A) Z ?_;rw[<-lQ_] at ar;have W:us.length=i:=by rw[S.length,lT_];omega
  refine gR Z (kU Z Z hM19.leaf.1 ar.IL (m:=1) U Z (by rw[lA_,List.length_replicate];omega)<|af hM19.leaf.2 Z) Z ?_;rw[F8 W A];replace ar:=ar.EJ (.row (us++[Q]++List.replicate (ls.length-(i+1)) V.av) 57 false);refine ah<|aG<|QR 4 Z<|aL ⟨j3-1,by omega,oF,i+1,us++[Q],T++M,by omega,by rw[List.take_add_one,b];exact .snoc S hM19,cI<|aY (by have:=h.bL;omega),ar⟩
 refine PC 3 Z<|aS<|QT 7 Z ?_;exact aB Z Z ⟨bo,us,M,Z,by rwa[tL_<|bz d] at S,by rwa[show ls.length-i=0 from by have:=bz d;omega,List.replicate_zero,List.append_nil] at ar⟩
theorem zn {G:Cx} (X:Plain G) {K:KP} {ls:List (List bT)} {v:V} (h:bF K 1 (RL K 2 ji) ls v) (hn:ls.length<=1000) (R:∀l∈ls,l.length<=1048576) {O:N} {L:Own} (ar:D O K L):
  a8 Tryz.prog G 105 [v] O fun u O'=>∃bo us M,u= .slice bo 0 ls.length (.known ls.length)/\gN 2 67 ji ls us M/\D O' K (M++(bo,.row us 74 false)::L):=by
 refine QO X Tryz.func105 Z<|Qg 8 Z<|Y Z (RC h Z Z Z (e:=74) Z) Z<|fY ar Z (iy (n:=ls.length) (e:=74) (w:=24) (z:=[.av]) Z U U U Z Z oM oM) (fun _=>Z) (fun O bo ar=>?_);rw[gh] at ar;refine O4 7 Z (Y Z (RC h Z Z Z (e:=74) Z) Z (PD 4 Z (bh ([4,5]++rg 11 11) (fun j t O=>∃(i:Nat) (us:List V) (M:Own),j+i=ls.length/\gN 2 67 ji (ls.take i) us M/\t.get 11=some (.int .i64 (.ofNat i))/\D O K (M++(bo,.row (us++List.replicate (ls.length-i) V.av) 74 false)::L)) (ls.length) ⟨0,[],[],Z,.nil,Z,ar⟩ ?_)));clear ar;intro j3 t O aq hI;obtain⟨i,us,M,ac,S,B,ar⟩:=hI;obtain⟨oo,rfl⟩:=aq.q1 B Z;refine Qf 6 Z<|aF Z (fun d=>?_) (fun d=>?_)
 ·refine Oj 7 Z ?_;obtain⟨am,b,A⟩:=dH d;refine Rr (e:=74) (m:=1) h b Z Z Z Z (fun ao aa C ab E=>?_);have hr14':=E;obtain⟨ap,rfl,F⟩:=hr14';refine Y Z (RE ar C Z Z) Z<|Qj 8 Z<|bR Z (Rx Z Z Z) (fun _=>Z) (Ke X F (R _<|gB_ b) ar) ?_;rintro Q O ⟨T,hM19,ar⟩;refine Y Z (eI (e:=74) (m:=1) Z U Z Z A) Z ?_;rw[<-lQ_] at ar;have W:us.length=i:=by rw[S.length,lT_];omega
  refine gR Z (kU Z Z hM19.leaf.1 ar.IL (m:=1) U Z (by rw[lA_,List.length_replicate];omega)<|af hM19.leaf.2 Z) Z ?_;rw[F8 W A];replace ar:=ar.EJ (.row (us++[Q]++List.replicate (ls.length-(i+1)) V.av) 74 false);refine ah<|aG<|QR 4 Z<|aL ⟨j3-1,by omega,oF,i+1,us++[Q],T++M,by omega,by rw[List.take_add_one,b];exact .snoc S hM19,cI<|aY (by have:=h.bL;omega),ar⟩
 refine PC 3 Z<|aS<|QT 7 Z ?_;exact aB Z Z ⟨bo,us,M,Z,by rwa[tL_<|bz d] at S,by rwa[show ls.length-i=0 from by have:=bz d;omega,List.replicate_zero,List.append_nil] at ar⟩
def MI (g:XG):Prop:=g.init.length<=1000/\g.threads.length<=1000/\(∀l∈g.threads,l.length<=1048576)/\g.from_.length<=1000/\(∀l∈g.from_,l.length<=1048576)/\g.order.length<=1000/\(∀l∈g.order,l.length<=1048576)
structure PS (g:XG) (u1:V) (M1:Own) (b2:Nat) (us2:List V) (M2:Own) (b3:Nat) (us3:List V) (M3:Own) (b4:Nat) (us4:List V) (M4:Own):Prop where
 init:dt 1 2 ek g.init u1 M1
 threads:gN 5 56 kJ g.threads us2 M2
 from_:gN 2 67 ji g.from_ us3 M3
 order:gN 2 67 ji g.order us4 M4
abbrev Qd (M1:Own) (b2:Nat) (us2:List V) (M2:Own) (b3:Nat) (us3:List V) (M3:Own) (b4:Nat) (us4:List V) (M4:Own) (L:Own):Own:=
 M4++(b4,.row us4 74 false)::(M3++(b3,.row us3 74 false)::(M2++(b2,.row us2 57 false)::(M1++L)))
abbrev QF (g:XG) (u1:V) (b2 b3 b4:Nat):List V:=[u1,.slice b2 0 g.threads.length (.known g.threads.length),.slice b3 0 g.from_.length (.known g.from_.length),.slice b4 0 g.order.length (.known g.order.length)]
theorem xN {G:Cx} (w:Plain G) {K:KP} {g:XG} {a b c d:V} (h:eW K g a b c d) (u:MI g) {O:N} {L:Own} (ar:D O K L):
  a8 Tryz.prog G 69 [.agg [a,b,c,d]] O fun v O'=>∃Q M1 C z R E A S F B T,v= .agg (QF g Q C E F)/\PS g Q M1 C z R E A S F B T/\D O' K (Qd M1 C z R E A S F B T L):=by
 have h':=h;obtain⟨hi,W,hf,M⟩:=h';refine QO w Tryz.func69 Z<|Qg 2 Z<|kp ar Z (cG Z Z) (fun O b1 ar=>?_);refine kp ar Z (RD (cs:=[.av,.av,.av,.av])) (fun O C ar=>?_);refine PE 3 Z (aQ (l:=[(0,[]),(1,[]),(3,[]),(4,[]),(6,[]),(7,[]),(9,[]),(10,[]),(2,[4,7,10]),(5,[7,10]),(8,[10]),(11,[]),(12,[]),(13,[])]) U U<|QZ ar 8 [0,1,1,1,2,1,3,1] Z Z<|fF Z Z (Rx Z Z Z) (fun _=>Z) (ui w hi (by have:=u.1;omega) ar) ?_);rintro u5 O ⟨M5,hM5,ar⟩;refine⟨(bu (bG Z Z Z Z Z (Rz Z ar.bA.pop.g0 Z) W.eB)<|bu (bG Z Z Z Z Z (Rz Z ar.bA.pop.g0 Z) hf.eB)<|bu (bG Z Z Z Z Z (Rz Z ar.bA.pop.g0 Z) M.eB) aX),?_⟩;refine fF Z Z (Rx Z Z Z) (fun _=>Z) (HI w W u.2.1 u.2.2.1 ar) ?_;rintro _ O ⟨E,ac,M8,rfl,hO8,ar⟩;refine⟨(bu (bG Z Z Z Z Z (Rz Z ar.bA.pop.bA.pop.g0 Z) hf.eB)<|bu (bG Z Z Z Z Z (Rz Z ar.bA.pop.bA.pop.g0 Z) M.eB) aX),?_⟩;refine fF Z Z (Rx Z Z Z) (fun _=>Z) (zn w hf u.2.2.2.1 u.2.2.2.2.1 ar) ?_;rintro _ O ⟨F,aa,am,rfl,hO11,ar⟩;refine⟨(bu (bG Z Z Z Z Z (Rz Z ar.bA.pop.bA.pop.bA.pop.g0 Z) M.eB) aX),?_⟩;refine fF Z Z (Rx Z Z Z) (fun _=>Z) (zn w M u.2.2.2.2.2.1 u.2.2.2.2.2.2 ar) ?_;rintro _ O ⟨b5,ab,ao,rfl,hO14,ar⟩;refine⟨aX,?_⟩;refine aj Z Z (bI (places:=[(0,1),(1,1),(2,1),(3,1)]) (zero:=[.av,.av,.av,.av]) (cs:=[_,_,_,_]) U U U (bj Z Z hM5.leaf.1 Z<|bj Z Z Z Z<|bj Z Z Z Z<|bj Z Z Z Z bO) U) Z<|ik ar (.dv (.there (.dv (.there (.dv (.there (.dv .here))))))) Z Z (RG Z Z Z ar.bA.pop.bA.pop.bA.pop.bA.g0 (m:=4) Z (af hM5.leaf.2 Z) (cells':=[_,_,_,_]) Z) Z (fun O ar=>?_);refine⟨aX,?_⟩;refine Qm 3 Z ?_;exact eQ Z Z ar.bA.pop.bA.pop.bA.pop.bA.g0 (m:=4) U Z ⟨_,_,_,_,_,_,_,_,_,_,_,Z,⟨hM5,hO8,hO11,hO14⟩,ar.sub<|eO (.cons_cons _<|eO (.cons_cons _<|eO (.cons_cons _<|eO (.cons _ (.cons _ (.refl _))))))⟩
theorem tw {G:Cx} (hG:Plain G) {K:KP} {g:XG} {a b c d:V} (h:eW K g a b c d) (B:∀l∈g.order,l.length<=1000000) (loc:Int) {O:N} {L:Own} (ar:D O K L):
  a8 Tryz.prog G 42 [.agg [a,b,c,d],.int .i64 loc] O fun v O'=>∃M,dt 2 67 ji (bV g loc) v M/\D O' K (M++L):=by
 have h':=h;obtain⟨hi,ht,hf,ho⟩:=h';refine QO hG Tryz.func42 Z<|Qg 2 Z<|kp ar Z (cG Z Z) (fun O b1 ar=>?_);refine O4 6 Z<|Y Z (RB Z ar.g0 (n:=4) (vs:=[_,_,_,_]) Z) Z<|bc Z (Rx Z Z Z) (fun _=>Z) (vM hG h ar) (fun O ar=>?_);refine vQ 1 Z<|ky Z (an Z) (fun C=>?_) (fun C=>?_)
 ·refine PH 20 Z ?_;exact aB Z Z ⟨[],.inl ⟨oQ<|cC C,Z,Z⟩,ar.pop⟩
 refine QV 3 Z<|ky Z (an Z) (fun w=>?_) (fun w=>?_)
 ·refine PH 16 Z ?_;exact aB Z Z ⟨[],.inl ⟨qj w,Z,Z⟩,ar.pop⟩
 refine QY ar 3 [0,0] Z Z<|Y Z (RC hi Z Z Z (e:=2) Z) Z<|Qi 4 Z<|aF Z (fun A=>?_) (fun A=>?_)
 ·obtain⟨ln,rfl⟩:=iF w;refine Qh 7 Z ?_;exact aB Z Z ⟨[],.inl ⟨qi (by rw[(dc<|sx<|bl C).2.2.2.2.1];exact nA A),Z,Z⟩,ar.pop⟩
 obtain⟨ln,rfl⟩:=iF w;refine PB 5 Z (Y Z (Rw (places:=[(0,1),(1,1)]) (zero:=[J,J]) (cs:=[_,_]) Z) Z<|fY ar Z (cm (e:=67) (m:=2) (z:=[J,J]) (cs:=[_,_]) U U U U<|bj Z Z Z Z bO) (fun _=>Z) (fun O b2 ar=>?_));refine QY ar 3 [3,1] Z Z ?_;obtain⟨S,u⟩:=cT (show ln<g.order.length from by rw[(dc<|sx<|bl C).2.2.2.2.1];exact nD A);refine Rr (e:=74) (m:=1) ho u Z Z Z Z (fun ac aa E ab F=>?_);have hr25':=F;obtain⟨am,rfl,Q⟩:=hr25';refine Y Z (RE ar E Z Z) Z (nE (R:=ji) (m:=2) (e:=67) (len1:=1) ar Q ji.leaf (by have:=B _ (gB_ u);omega) Z (by decide) (.inl Z) Z Z Z Z Z U U U Z Z (fun _=>Z) (fun O b9 c9 news e9 ar T W X=>?_));refine Qk 4 Z ?_;exact aB Z Z ⟨[(b9,cN.row ([V.int .i64 0,V.int .i64 (.ofNat ln)]++news) e9 false)],by rw[ew (bl C) u];exact pT (l1:=[⟨0,.ofNat ln⟩]) (fJ:=[V.int .i64 0,V.int .i64 (.ofNat ln)]) Z (fun i x hx=>by cases i with | zero=>(cases hx;rfl) | succ i=>(simp at hx)) T W Z X (by show 1+S.length<=1048576;have:=B _ (gB_ u);omega),ar.sub (.cons_cons _ (.cons _ (.refl _)))⟩
theorem C8 {G:Cx} (d:Plain G) {K:KP} (e:bW) {O:N} {L:Own} (ar:D O K L):a8 Tryz.prog G 117 [.agg<|ints e.ints] O fun v O'=>v= .bool (cD e)/\D O' K L:=by
 refine QO d Tryz.func117 Z<|Qg 2 Z<|kp ar Z (cG Z Z) (fun O b1 ar=>?_);refine PL ar 8 [0,0] Z Z<|ky Z (an Z) (fun b=>?_) (fun b=>?_)
 ·refine Qk 8 Z ?_;exact aB Z Z ⟨cB (by unfold cD;simp only[b,ct,cf]),ar.pop⟩
 refine Qp ar 8 [0,0] Z Z ?_;exact aB Z Z ⟨cB (by unfold cD;simp only[b,ct,cf]),ar.pop⟩
theorem lR {G:Cx} (d:Plain G) {K:KP} (e:bW) {O:N} {L:Own} (ar:D O K L):a8 Tryz.prog G 96 [.agg<|ints e.ints] O fun v O'=>v= .bool (bd e)/\D O' K L:=by
 refine QO d Tryz.func96 Z<|Qg 2 Z<|kp ar Z (cG Z Z) (fun O b1 ar=>?_);refine PL ar 8 [0,0] Z Z<|ky Z (an Z) (fun b=>?_) (fun b=>?_)
 ·refine Qk 8 Z ?_;exact aB Z Z ⟨cB (by unfold bd;simp only[b,ct,cf]),ar.pop⟩
 refine Qp ar 8 [0,0] Z Z ?_;exact aB Z Z ⟨cB (by unfold bd;simp only[b,ct,cf]),ar.pop⟩
theorem tz {G:Cx} (hG:Plain G) {K:KP} {g:XG} {a b c d:V} (h:eW K g a b c d) (th ix:Int) {O:N} {L:Own} (ar:D O K L):a8 Tryz.prog G 97 [.agg [a,b,c,d],.agg [.int .i64 th,.int .i64 ix]] O fun v O'=>v= .tuple [.agg<|ints (mE<|cZ g ⟨th,ix⟩).ints,.bool (cZ g ⟨th,ix⟩).isSome]/\D O' K L:=by
 have h':=h;obtain⟨hi,R,hf,ho⟩:=h';refine QO hG Tryz.func97 Z<|Qg 2 Z<|kp ar Z (cG Z Z) (fun O b1 ar=>?_);refine kp ar Z (cG Z Z) (fun O b2 ar=>?_);refine kp ar Z (RD (cs:=[J,J,J,J,J])) (fun O b3 ar=>?_);refine O6 ar 9 [0,1] Z Z<|Qi 2 Z<|aF Z (fun Q=>?_) (fun Q=>?_)
 ·refine PJ ar 6 [1,1] Z Z<|ky Z (an Z) (fun z=>?_) (fun z=>?_)
  ·refine PF 12 Z (Y Z (Rw (places:=[(0,1),(1,1),(2,1),(3,1),(4,1)]) (zero:=[J,J,J,J,J]) (cs:=[_,_,_,_,_]) Z) Z<|bE ar Z (RG Z Z Z ar.g0 (m:=5) Z Z (cells':=[_,_,_,_,_]) Z) Z (fun O ar=>?_));refine Qk 4 Z<|ay<|ay (?_);exact bC Z Z ar.g0 (m:=5) U Z Z ⟨by rw[qu z];rfl,ar.pop.pop.pop⟩
  refine QY ar 4 [1,1,0,2] Z Z<|Y Z (RC hi Z Z Z (e:=2) Z) Z<|Qi 4 Z<|aF Z (fun C=>?_) (fun C=>?_)
  ·obtain⟨ixn,rfl⟩:=iF z;obtain rfl:th=0:=by rw[dK] at Q;simpa using Q
   refine Qg 2 Z (Y Z (Rw (places:=[(0,1),(1,1),(2,1),(3,1),(4,1)]) (zero:=[J,J,J,J,J]) (cs:=[_,_,_,_,_]) Z) Z<|bE ar Z (RG Z Z Z ar.g0 (m:=5) Z Z (cells':=[_,_,_,_,_]) Z) Z (fun O ar=>?_));refine Qk 4 Z<|ay<|ay (?_);exact bC Z Z ar.g0 (m:=5) U Z Z ⟨by rw[show cZ g _=none from by show(g.init[ixn]?).map _=_;rw[gN_<|nA C];rfl];rfl,ar.pop.pop.pop⟩
  obtain⟨ixn,rfl⟩:=iF z;obtain rfl:th=0:=by rw[dK] at Q;simpa using Q
  refine PA 3 Z<|aQ (l:=zp [0,1,2,3,4,5,6,7,8,9,10]) U U<|QZ ar 6 [1,1,0,2,1,1] Z Z ?_;obtain⟨ba,A⟩:=cT (nD C);refine Rt (e:=2) (m:=1) hi A Z Z Z Z Z (fun bb aq S aE T=>?_);obtain rfl:=T;refine aj Z Z (RE ar S Z Z) Z (aj Z Z (Rw (places:=[(0,1),(1,1),(2,1),(3,1),(4,1)]) (zero:=[J,J,J,J,J]) (cs:=[_,_,_,_,_]) Z) Z<|gF ar Z Z (RG Z Z Z ar.g0 (m:=5) Z Z (cells':=[_,_,_,_,_]) Z) Z (fun O ar=>?_));refine⟨aX,?_⟩;refine Qm 4 Z<|ay (?_);exact bC Z Z ar.g0 (m:=5) U Z Z ⟨by rw[show cZ g _=some _ from by show(g.init[ixn]?).map _=_;rw[A];rfl];rfl,ar.pop.pop.pop⟩
 refine PA 3 Z<|ak<|aQ (l:=zp [0,1,2,3,4,5,6,7,8,9,10,11,12,13,14,15,16,17,18,19,20,21,22,23,24,25,26,27,28]) U U<|QZ ar 3 [0,1] Z Z<|hJ Z Z (an Z) (fun _=>Z) (fun E=>?_) (fun E=>?_)
 ·refine Ql 28 Z (Qg 2 Z (Y Z (Rw (places:=[(0,1),(1,1),(2,1),(3,1),(4,1)]) (zero:=[J,J,J,J,J]) (cs:=[_,_,_,_,_]) Z) Z<|bE ar Z (RG Z Z Z ar.g0 (m:=5) Z Z (cells':=[_,_,_,_,_]) Z) Z (fun O ar=>?_)));refine PH 5 Z ?_;exact bC Z Z ar.g0 (m:=5) U Z Z ⟨by rw[tO E];rfl,ar.pop.pop.pop⟩
 refine QZ ar 4 [0,1,1,2] Z Z<|aj Z Z (RC R Z Z Z (e:=57) Z) Z<|QW 2 Z<|hJ Z Z (an Z) (fun _=>Z) (fun w=>?_) (fun w=>?_)
 ·refine Ql 20 Z (Qg 2 Z (Y Z (Rw (places:=[(0,1),(1,1),(2,1),(3,1),(4,1)]) (zero:=[J,J,J,J,J]) (cs:=[_,_,_,_,_]) Z) Z<|bE ar Z (RG Z Z Z ar.g0 (m:=5) Z Z (cells':=[_,_,_,_,_]) Z) Z (fun O ar=>?_)));refine PH 5 Z ?_;exact bC Z Z ar.g0 (m:=5) U Z Z ⟨by rw[BP w];rfl,ar.pop.pop.pop⟩
 refine QZ ar 4 [1,1] Z Z<|hJ Z Z (an Z) (fun _=>Z) (fun F=>?_) (fun F=>?_)
 ·refine Ql 15 Z (Qg 2 Z (Y Z (Rw (places:=[(0,1),(1,1),(2,1),(3,1),(4,1)]) (zero:=[J,J,J,J,J]) (cs:=[_,_,_,_,_]) Z) Z<|bE ar Z (RG Z Z Z ar.g0 (m:=5) Z Z (cells':=[_,_,_,_,_]) Z) Z (fun O ar=>?_)));refine PH 5 Z ?_;exact bC Z Z ar.g0 (m:=5) U Z Z ⟨by rw[qu F];rfl,ar.pop.pop.pop⟩
 refine QZ ar 7 [1,1,1,2,0,1] Z Z ?_;obtain⟨tn,rfl⟩:=iF E;obtain⟨tm,rfl⟩:=Gd Q;obtain⟨ixn,rfl⟩:=iF F;obtain⟨be,u⟩:=cT (show tm<g.threads.length from by have:=ml w;omega);refine Rt (e:=57) (m:=1) R u Z Z Z Z (cI<|fv (by have:=ml w;have:=R.bL;omega)) (fun bi a0 W a1 X=>?_);have hr54':=X;obtain⟨bo,rfl,aa⟩:=hr54';refine aj Z Z (RE ar W Z Z) Z<|aj Z Z (RC aa Z Z Z (e:=56) Z) Z<|Ql 4 Z<|aF Z (fun M=>?_) (fun M=>?_)
 ·refine Qg 2 Z (Y Z (Rw (places:=[(0,1),(1,1),(2,1),(3,1),(4,1)]) (zero:=[J,J,J,J,J]) (cs:=[_,_,_,_,_]) Z) Z<|bE ar Z (RG Z Z Z ar.g0 (m:=5) Z Z (cells':=[_,_,_,_,_]) Z) Z (fun O ar=>?_));refine PH 5 Z ?_;exact bC Z Z ar.g0 (m:=5) U Z Z ⟨by rw[show cZ g _=none from by show(g.threads[tm]?).bind _=_;rw[u];exact gN_<|nA M];rfl,ar.pop.pop.pop⟩
 refine PA 3 Z<|aQ (l:=zp [0,1,2,3,4,5,6,7,8,9,10,11,12]) U U<|QZ ar 5 [1,2,0,1] Z Z<|Rt (e:=57) (m:=1) R u Z Z Z Z (cI<|fv (by have:=ml w;have:=R.bL;omega)) (fun bq a2 ab a3 ac=>?_);have hr65':=ac;obtain⟨br,rfl,am⟩:=hr65';refine aj Z Z (RE ar ab Z Z) Z<|QZ ar 2 [1,1] Z Z ?_;obtain⟨bs,B⟩:=cT (nD M);refine Rt (e:=56) (m:=5) am B Z Z Z Z Z (fun bt a4 ao a5 ap=>?_);obtain rfl:=ap;refine aj Z Z (RF ar ao Z Z) Z<|gF ar Z Z (RG Z Z Z ar.g0 (m:=5) Z Z (cells':=[_,_,_,_,_]) Z) Z (fun O ar=>?_);refine⟨aX,?_⟩;refine Qm 4 Z ?_;exact bC Z Z ar.g0 (m:=5) U Z Z ⟨by rw[show cZ g _=some _ from by show(g.threads[tm]?).bind _=_;rw[u];exact B];rfl,ar.pop.pop.pop⟩
theorem Lk {x y:bT}:bY [x.cH,x.index] [y.cH,y.index]=bY x y:=bT.same
theorem L9 {G:Cx} (R:Plain G) {K:KP} {g:XG} {a b c d:V} (h:eW K g a b c d) (e:bW) {O:N} {L:Own} (ar:D O K L):a8 Tryz.prog G 82 [.agg [a,b,c,d],.agg<|ints e.ints] O fun v O'=>v= .bool (bm e (.ofNat g.init.length))/\D O' K L:=by
 have h':=h;obtain⟨hi,ht,hf,ho⟩:=h';refine QO R Tryz.func82 Z<|Qg 2 Z<|kp ar Z (cG Z Z) (fun O b1 ar=>?_);refine kp ar Z (cG Z Z) (fun O b2 ar=>?_);refine O6 ar 9 [0,0] Z Z<|ky Z (an Z) (fun M=>?_) (fun M=>?_)
 ·refine PH 44 Z ?_;exact aB Z Z ⟨cB (by unfold bm bf;simp only[M,ct,cf]),ar.pop.pop⟩
 refine QY ar 4 [0,0] Z Z<|ky Z (an Z) (fun u=>?_) (fun u=>?_)
 ·refine PH 39 Z ?_;exact aB Z Z ⟨cB (by unfold bm bf;simp only[M,u,ct,cf]),ar.pop.pop⟩
 refine QY ar 4 [2,0] Z Z<|ky Z (an Z) (fun z=>?_) (fun z=>?_)
 ·refine PH 34 Z ?_;exact aB Z Z ⟨cB (by unfold bm bf;simp only[M,u,z,ct,cf]),ar.pop.pop⟩
 refine QY ar 4 [2,0] Z Z<|ky Z (an Z) (fun A=>?_) (fun A=>?_)
 ·refine PH 29 Z ?_;exact aB Z Z ⟨cB (by unfold bm bf;simp only[M,u,z,A,ct,cf]),ar.pop.pop⟩
 refine Y Z (RB Z ar.g0 (n:=5) (vs:=[_,_,_,_,_]) Z) Z<|bc Z (Rx Z Z Z) (fun _=>Z) (C8 R _ ar) (fun O ar=>?_);refine Y Z (dq Z) Z<|ky Z (an Z) (fun C=>?_) (fun C=>?_)
 ·refine QY ar 5 [3,0] Z Z<|ky Z (an Z) (fun Q=>?_) (fun Q=>?_)
  ·refine PH 19 Z ?_;exact aB Z Z ⟨cB (by unfold bm bf;simp only[M,u,z,A,C,Q,ct,cf]),ar.pop.pop⟩
  refine Y Z (RB Z ar.g0 (n:=5) (vs:=[_,_,_,_,_]) Z) Z<|bc Z (Rx Z Z Z) (fun _=>Z) (lR R _ ar) (fun O ar=>?_);refine Y Z (dq Z) Z<|ky Z (an Z) (fun B=>?_) (fun B=>?_)
  ·refine Qo ar 7 [4,0] Z Z<|aF Z (fun F=>?_) (fun F=>?_)
   ·refine Qh 7 Z ?_;exact aB Z Z ⟨cB (by unfold bm bf;simp only[M,u,z,A,C,Q,B,F,ct,cf]),ar.pop.pop⟩
   refine O2 5 Z<|Qo ar 5 [0,0] Z Z<|aF Z (fun w=>?_) (fun w=>?_)
   ·refine Qg 2 Z<|Qp ar 7 [1,0] Z Z<|ay (?_);exact aB Z Z ⟨cB (by unfold bm bf;simp only[M,u,z,A,C,Q,B,F,w,ct,cf]),ar.pop.pop⟩
   refine PK ar 7 [1,0] Z Z<|ky Z (an Z) (fun E=>?_) (fun E=>?_)
   ·refine QY ar 4 [1,0,0,1] Z Z<|Y Z (RC hi Z Z Z (e:=2) Z) Z<|Qk 6 Z ?_;exact aB Z Z ⟨cB (by unfold bm bf;simp only[M,u,z,A,C,Q,B,F,w,E,ct,cf]),ar.pop.pop⟩
   refine Qk 11 Z ?_;exact aB Z Z ⟨cB (by unfold bm bf;simp only[M,u,z,A,C,Q,B,F,w,E,ct,cf]),ar.pop.pop⟩
  refine Qi 8 Z<|O2 5 Z<|Qo ar 5 [0,0] Z Z<|aF Z (fun w=>?_) (fun w=>?_)
  ·refine Qg 2 Z<|Qp ar 7 [1,0] Z Z<|ay (?_);exact aB Z Z ⟨cB (by unfold bm bf;simp only[M,u,z,A,C,Q,B,w,ct,cf]),ar.pop.pop⟩
  refine PK ar 7 [1,0] Z Z<|ky Z (an Z) (fun E=>?_) (fun E=>?_)
  ·refine QY ar 4 [1,0,0,1] Z Z<|Y Z (RC hi Z Z Z (e:=2) Z) Z<|Qk 6 Z ?_;exact aB Z Z ⟨cB (by unfold bm bf;simp only[M,u,z,A,C,Q,B,w,E,ct,cf]),ar.pop.pop⟩
  refine Qk 11 Z ?_;exact aB Z Z ⟨cB (by unfold bm bf;simp only[M,u,z,A,C,Q,B,w,E,ct,cf]),ar.pop.pop⟩
 refine QV 6 Z<|Y Z (RB Z ar.g0 (n:=5) (vs:=[_,_,_,_,_]) Z) Z<|bc Z (Rx Z Z Z) (fun _=>Z) (lR R _ ar) (fun O ar=>?_);refine Y Z (dq Z) Z<|ky Z (an Z) (fun B=>?_) (fun B=>?_)
 ·refine Qo ar 7 [4,0] Z Z<|aF Z (fun F=>?_) (fun F=>?_)
  ·refine Qh 7 Z ?_;exact aB Z Z ⟨cB (by unfold bm bf;simp only[M,u,z,A,C,B,F,ct,cf]),ar.pop.pop⟩
  refine O2 5 Z<|Qo ar 5 [0,0] Z Z<|aF Z (fun w=>?_) (fun w=>?_)
  ·refine Qg 2 Z<|Qp ar 7 [1,0] Z Z<|ay (?_);exact aB Z Z ⟨cB (by unfold bm bf;simp only[M,u,z,A,C,B,F,w,ct,cf]),ar.pop.pop⟩
  refine PK ar 7 [1,0] Z Z<|ky Z (an Z) (fun E=>?_) (fun E=>?_)
  ·refine QY ar 4 [1,0,0,1] Z Z<|Y Z (RC hi Z Z Z (e:=2) Z) Z<|Qk 6 Z ?_;exact aB Z Z ⟨cB (by unfold bm bf;simp only[M,u,z,A,C,B,F,w,E,ct,cf]),ar.pop.pop⟩
  refine Qk 11 Z ?_;exact aB Z Z ⟨cB (by unfold bm bf;simp only[M,u,z,A,C,B,F,w,E,ct,cf]),ar.pop.pop⟩
 refine Qi 8 Z<|O2 5 Z<|Qo ar 5 [0,0] Z Z<|aF Z (fun w=>?_) (fun w=>?_)
 ·refine Qg 2 Z<|Qp ar 7 [1,0] Z Z<|ay (?_);exact aB Z Z ⟨cB (by unfold bm bf;simp only[M,u,z,A,C,B,w,ct,cf]),ar.pop.pop⟩
 refine PK ar 7 [1,0] Z Z<|ky Z (an Z) (fun E=>?_) (fun E=>?_)
 ·refine QY ar 4 [1,0,0,1] Z Z<|Y Z (RC hi Z Z Z (e:=2) Z) Z<|Qk 6 Z ?_;exact aB Z Z ⟨cB (by unfold bm bf;simp only[M,u,z,A,C,B,w,E,ct,cf]),ar.pop.pop⟩
 refine Qk 11 Z ?_;exact aB Z Z ⟨cB (by unfold bm bf;simp only[M,u,z,A,C,B,w,E,ct,cf]),ar.pop.pop⟩
theorem HL {G:Cx} (C:Plain G) {K:KP} {g:XG} {a b c d:V} (h:eW K g a b c d) (th ix E F:Int) {O:N} {L:Own} (ar:D O K L):a8 Tryz.prog G 83 [.agg [a,b,c,d],.agg [.int .i64 th,.int .i64 ix],.agg [.int .i64 E,.int .i64 F]] O fun v O'=>v= .bool (cF g ⟨th,ix⟩ ⟨E,F⟩)/\D O' K L:=by
 have h':=h;obtain⟨hi,ht,hf,ho⟩:=h';refine QO C Tryz.func83 Z<|Qg 2 Z<|kp ar Z (cG Z Z) (fun O b1 ar=>?_);refine kp ar Z (cG Z Z) (fun O b2 ar=>?_);refine kp ar Z (cG Z Z) (fun O b3 ar=>?_);refine PF 5 Z<|Y Z (RB Z (ar.get 2 Z) (n:=4) (vs:=[_,_,_,_]) Z) Z<|Y Z (RB Z ar.g1 (n:=2) (vs:=[_,_]) Z) Z<|bc Z (Rx Z Z Z) (fun _=>Z) (tz C h _ _ ar) (fun O ar=>?_);refine QV 3 Z<|kp ar Z (RD (cs:=[J,J,J,J,J])) (fun O b4 ar=>?_);refine bE ar Z (RG Z Z Z ar.g0 (m:=5) Z Z (cells':=[_,_,_,_,_]) Z) Z (fun O ar=>?_);refine O4 6 Z<|Y Z (RB Z ar.g0 (n:=5) (vs:=[_,_,_,_,_]) Z) Z<|bc Z (Rx Z Z Z) (fun _=>Z) (C8 C _ ar) (fun O ar=>?_);refine Y Z (dq Z) Z<|Qi 2 Z<|aF Z (fun u=>?_) (fun u=>?_)
 ·refine Qg 2 Z (Y Z (RB Z ar.g1 (n:=2) (vs:=[_,_]) Z) Z (Y Z (Rw (places:=[(0,1),(1,1)]) (zero:=[J,J]) (cs:=[_,_]) Z) Z<|Y Z (zx (n:=2) (ca:=[_,_]) (cb:=[_,_]) U Z Z Z Z) Z<|PH 5 Z ?_));exact aB Z Z ⟨cB (by unfold cF;simp only[u,ct,cf]),ar.pop.pop.pop.pop⟩
 refine PB 4 Z<|Y Z (RB Z (ar.get 3 Z) (n:=4) (vs:=[_,_,_,_]) Z) Z<|Y Z (RB Z ar.g1 (n:=2) (vs:=[_,_]) Z) Z<|bc Z (Rx Z Z Z) (fun _=>Z) (tz C h _ _ ar) (fun O ar=>?_);refine QV 3 Z<|kp ar Z (RD (cs:=[J,J,J,J,J])) (fun O b5 ar=>?_);refine bE ar Z (RG Z Z Z ar.g0 (m:=5) Z Z (cells':=[_,_,_,_,_]) Z) Z (fun O ar=>?_);refine PF 6 Z<|ky Z (an Z) (fun w=>?_) (fun w=>?_)
 ·refine Y Z (RB Z (ar.get 2 Z) (n:=2) (vs:=[_,_]) Z) Z<|Y Z (RB Z (ar.get 3 Z) (n:=2) (vs:=[_,_]) Z) Z<|Y Z (Da (n:=2) (ca:=[_,_]) (cb:=[_,_]) U Z Z Z Z) Z<|vQ 1 Z<|ky Z (an Z) (fun z=>?_) (fun z=>?_)
  ·refine Y Z (RB Z ar.g0 (n:=5) (vs:=[_,_,_,_,_]) Z) Z<|bc Z (Rx Z Z Z) (fun _=>Z) (lR C _ ar) (fun O ar=>?_);refine vQ 1 Z<|ky Z (an Z) (fun A=>?_) (fun A=>?_)
   ·refine QY ar 6 [1,0,1,1] Z Z<|ky Z (an Z) (fun B=>?_) (fun B=>?_)
    ·refine Qp ar 10 [4,0,3,1] Z Z ?_;exact aB Z Z ⟨cB (by unfold cF;simp only[u,w,z,A,B,ct,cf]),ar.pop.pop.pop.pop.pop⟩
    refine Qk 10 Z ?_;exact aB Z Z ⟨cB (by unfold cF;simp only[u,w,z,A,B,ct,cf]),ar.pop.pop.pop.pop.pop⟩
   refine Qk 17 Z ?_;exact aB Z Z ⟨cB (by unfold cF;simp only[u,w,z,A,ct,cf]),ar.pop.pop.pop.pop.pop⟩
  refine Qk 21 Z ?_;exact aB Z Z ⟨cB (by unfold cF;simp only[u,w,z,ct,cf]),ar.pop.pop.pop.pop.pop⟩
 refine Qk 26 Z ?_;exact aB Z Z ⟨cB (by unfold cF;simp only[u,w,ct,cf]),ar.pop.pop.pop.pop.pop⟩
theorem E4 {G:Cx} (hG:Plain G) {K:KP} {g:XG} {a b c d:V} (h:eW K g a b c d) {ln:Nat} {A:List bT} (a5:g.order[ln]?=some A) (hT:g.threads.length<=4) (hR:∀l∈g.threads,l.length<=14) {O:N} {L:Own} (ar:D O K L):a8 Tryz.prog G 84 [.agg [a,b,c,d],.int .i64 (.ofNat ln)] O fun v O'=>∃q,v= .bool q/\(q=true↔Fg g ln A)/\D O' K L:=by
 have h':=h;obtain⟨hi,ht,hf,M⟩:=h';refine QO hG Tryz.func84 Z<|Qg 2 Z<|kp ar Z (cG Z Z) (fun O b1 ar=>?_);refine O3 15 Z ?_;obtain⟨LL1,ar,hLL1⟩:=ar.named;refine bh ([5,6,7]++rg 13 41) (fun j t O=>∃(i1:Nat),j+i1=g.threads.length/\t.get 5=some (.int .i64 (.ofNat<|ib (.ofNat ln)<|g.threads.take i1))/\t.get 6=some (.int .i64 (.ofNat i1))/\D O K LL1) (g.threads.length) ⟨0,Z,Z,Z,ar⟩ ?_;clear ar;intro j3 t O aq hI;obtain⟨i1,eg,ab,cl,ar⟩:=hI;subst hLL1;obtain⟨oo,rfl⟩:=aq.q2 ab cl Z;refine PJ ar 6 [1,0] Z Z<|Y Z (RC ht Z Z Z (e:=57) Z) Z<|Qi 3 Z<|aF Z (fun ac=>?_) (fun ac=>?_)
 ·refine Oj 6 Z ?_;obtain⟨xa,R,hi_xa⟩:=dH ac;refine PD 4 Z ?_;obtain⟨LL2,ar,hLL2⟩:=ar.named;refine bh ([5,7]++rg 20 34) (fun j t O=>∃(i2:Nat),j+i2=xa.length/\t.get 5=some (.int .i64 (.ofNat (ib (.ofNat ln) (g.threads.take i1)+gb (.ofNat ln) (xa.take i2))))/\t.get 7=some (.int .i64 (.ofNat i2))/\D O K LL2) (xa.length) ⟨0,Z,Z,Z,ar⟩ ?_;clear ar;intro j6 t O aq hI;obtain⟨i2,el,ab,cn,ar⟩:=hI;subst hLL2;obtain⟨oo,rfl⟩:=aq.q2 ab cn Z;refine PJ ar 7 [1,0] Z Z<|Rr (e:=57) (m:=1) ht R Z Z Z Z (fun em c3 ba c4 bb=>?_);have hr24':=bb;obtain⟨en,rfl,F⟩:=hr24';refine Y Z (RE ar ba Z Z) Z<|Y Z (RC F Z Z Z (e:=56) Z) Z<|Qi 3 Z<|aF Z (fun am=>?_) (fun am=>?_)
  ·refine Oj 6 Z<|QY ar 3 [1,0] Z Z<|Rr (e:=57) (m:=1) ht R Z Z Z Z (fun er c5 be c7 bi=>?_);have hr33':=bi;obtain⟨es,rfl,bo⟩:=hr33';refine Y Z (RE ar be Z Z) Z<|vQ 1 Z ?_;obtain⟨et,B,c8⟩:=dH am;refine Rr (e:=56) (m:=5) bo B Z Z Z Z (fun ev c9 bq dd br=>?_);obtain rfl:=br;refine Y Z (RF ar bq Z Z) Z<|bc Z (Rx Z Z Z) (fun _=>Z) (lR hG _ ar) (fun O ar=>?_);refine ky Z (an Z) (fun ao=>?_) (fun ao=>?_)
   ·refine QY ar 3 [1,0] Z Z<|Rr (e:=57) (m:=1) ht R Z Z Z Z (fun ex dl bs dm bt=>?_);have hr43':=bt;obtain⟨e0,rfl,bv⟩:=hr43';refine Y Z (RE ar bs Z Z) Z<|vQ 1 Z<|Rr (e:=56) (m:=5) bv B Z Z Z Z (fun e2 dr bw ds b0=>?_);obtain rfl:=b0;refine bJ bw Z Z Z (k:=1) U (lb Z) (fun _=>Z) (fun e3 b3=>?_);refine Y Z (RE ar b3 Z Z) Z<|Qi 5 Z<|aF Z (fun ap=>?_) (fun ap=>?_)
    ·refine QR 5 Z (aG (QR 5 Z (aL ⟨j6-1,by omega,oF,i2+1,by omega,(cI ((aY (by have h1:=zP (loc:=.ofNat ln) (i:=i1) hT hR;have h2:=tL (loc:=.ofNat ln) (l:=xa.take i2);have h3:=hR _ (gB_ R);rw[lT_] at h2;omega)).trans (by rw[KY B ao ap];rfl))),cI<|aY (by have:=F.bL;omega),ar⟩)))
    refine aH<|aG<|QR 5 Z<|aL ⟨j6-1,by omega,oF,i2+1,by omega,(by rw[Ig (loc:=.ofNat ln) B (.inr ap)];exact Z),cI<|aY (by have:=F.bL;omega),ar⟩
   refine PG 17 Z<|QR 5 Z<|aL ⟨j6-1,by omega,oF,i2+1,by omega,(by rw[Ig (loc:=.ofNat ln) B (.inl ao)];exact Z),cI<|aY (by have:=F.bL;omega),ar⟩
  rw[tL_<|bz am];refine PC 3 Z<|aS<|aG<|QR 5 Z<|aL ⟨j3-1,by omega,oF,i1+1,by omega,(by rw[uA R];exact Z),cI<|aY (by have:=ht.bL;omega),ar⟩
 rw[tL_<|bz ac];refine PC 3 Z<|aS<|Qg 2 Z<|QY ar 3 [3,0] Z Z<|Rr (e:=74) (m:=1) M a5 Z Z Z Z (fun e4 dx b4 d0 b5=>?_);have hr57':=b5;obtain⟨e5,rfl,z⟩:=hr57';refine Y Z (RE ar b4 Z Z) Z<|O3 10 Z ?_;obtain⟨LL3,ar,hLL3⟩:=ar.named;refine bh ([4]++rg 9 4++rg 59 50) (fun j t O=>∃(i:Nat),j+i=A.length/\(∀(k:Nat) (x:bT),k<i->A[k]?=some x->x6 g (.ofNat ln) x=true/\∀(k2:Nat) (y:bT),k2<k->A[k2]?=some y->y≠x)/\t.get 9=some (.int .i64 (.ofNat i))/\D O K LL3) (A.length) ⟨0,Z,fun k x hk=>absurd hk (nZ_ _),Z,ar⟩ ?_;clear ar;intro co t O aq hI;obtain⟨i,d1,S,cp,ar⟩:=hI;subst hLL3;obtain⟨oo,rfl⟩:=aq.q1 cp Z;refine Pz 5 Z<|Y Z (RC z Z Z Z (e:=67) Z) Z<|Qi 3 Z<|aF Z (fun X=>?_) (fun X=>?_)
 ·refine Oi 5 Z (aQ (l:=[(0,[]),(1,[]),(2,[]),(3,[]),(4,[]),(9,[]),(5,[9]),(6,[]),(7,[]),(8,[]),(10,[]),(11,[])]) U U<|aj Z Z (RB Z ar.g0 (n:=4) (vs:=[_,_,_,_]) Z) Z<|QW 2 Z ?_);obtain⟨u,w,d2⟩:=dH X;refine Rt (e:=67) (m:=2) z w Z Z Z Z Z (fun e6 d3 b6 d4 b7=>?_);obtain rfl:=b7;refine aj Z Z (RF ar b6 Z Z) Z<|oV ar Z Z (RD (cs:=[J,J,J,J,J])) (fun _=>Z) (fun O b2 ar=>?_);refine dJ Z Z (Rx Z Z Z) (fun _=>Z) (tz hG h _ _ ar) (fun O ar=>?_);refine⟨(bu (lQ Z Z Z Z Z (cs:=[J,J,J,J,J]) (e:=56) U ar.g0 U) aX),?_⟩;refine QW 3 Z<|gF ar Z Z (RG Z Z Z ar.g0 (m:=5) Z Z (cells':=[_,_,_,_,_]) Z) Z (fun O ar=>?_);refine⟨aX,?_⟩;refine Ql 3 Z<|Pz 4 Z<|Y Z (dq Z) Z<|ky Z (an Z) (fun Q=>?_) (fun Q=>?_)
  ·refine Qk 27 Z<|ay<|aJ<|ay<|bD<|aJ<|ay (?_);exact aB Z Z ⟨_,Z,⟨(fun hh=>by cases hh),fun M=>absurd (M.Oh u<|gB_ w) (by unfold x6;rw[show(cZ g u).isSome=false from mn Q];exact Bool.false_ne_true)⟩,ar.pop.pop⟩
  refine QV 2 Z<|Rr (e:=67) (m:=2) z w Z Z Z Z (fun e7 d5 b8 d6 b9=>?_);obtain rfl:=b9;refine bJ b8 Z Z Z (k:=0) U (lb Z) (fun _=>Z) (fun e8 cc=>?_);refine Y Z (RE ar cc Z Z) Z<|QV 2 Z<|ky Z (an Z) (fun T=>?_) (fun T=>?_)
  ·refine Qk 19 Z<|ay<|aJ<|ay<|bD<|aJ<|ay (?_);exact aB Z Z ⟨_,Z,⟨(fun hh=>by cases hh),fun M=>absurd (M.Oh u<|gB_ w) (by unfold x6;rw[show(cZ g u).isSome=true from fX Q,show H u.cH 0=true from T];exact Bool.false_ne_true)⟩,ar.pop.pop⟩
  refine Y Z (RB Z ar.g0 (n:=5) (vs:=[_,_,_,_,_]) Z) Z<|bc Z (Rx Z Z Z) (fun _=>Z) (lR hG _ ar) (fun O ar=>?_);refine Y Z (dq Z) Z<|vQ 1 Z<|ky Z (an Z) (fun aa=>?_) (fun aa=>?_)
  ·refine Qk 14 Z<|ay<|aJ<|ay<|bD<|aJ<|ay (?_);exact aB Z Z ⟨_,Z,⟨(fun hh=>by cases hh),fun M=>absurd (M.Oh u<|gB_ w) (by unfold x6;rw[show(cZ g u).isSome=true from fX Q,show H u.cH 0=false from T,show bd (mE<|cZ g u)=false from mn aa];exact Bool.false_ne_true)⟩,ar.pop.pop⟩
  refine Qo ar 7 [1,0] Z Z<|aF Z (fun aE=>?_) (fun aE=>?_)
  ·refine QT 6 Z<|ay<|aJ<|ay<|bD<|aJ<|ay (?_);exact aB Z Z ⟨_,Z,⟨(fun hh=>by cases hh),fun M=>absurd (M.Oh u<|gB_ w) (by unfold x6;rw[show(cZ g u).isSome=true from fX Q,show H u.cH 0=false from T,show bd (mE<|cZ g u)=true from fX aa,show H (mE<|cZ g u).loc (.ofNat ln)=false from cC aE];exact Bool.false_ne_true)⟩,ar.pop.pop⟩
  have ce:x6 g (.ofNat ln) u=true:=by unfold x6;rw[show(cZ g u).isSome=true from fX Q,show H u.cH 0=false from T,show bd (mE<|cZ g u)=true from fX aa];exact bl aE
  refine PB 5 Z<|PD 3 Z ?_;obtain⟨LL4,ar,hLL4⟩:=ar.named;refine bh ([4,12]++rg 95 14) (fun j t O=>∃(i3:Nat),j+i3=i/\(∀(k2:Nat) (y:bT),k2<i3->A[k2]?=some y->y≠u)/\t.get 12=some (.int .i64 (.ofNat i3))/\D O K LL4) (i) ⟨0,Z,fun k2 y hk=>absurd hk (nZ_ _),Z,ar⟩ ?_;clear ar;intro cr t O aq hI;obtain⟨i3,d7,ch,ci,ar⟩:=hI;subst hLL4;obtain⟨oo,rfl⟩:=aq.q1 ci Z;refine Qf 8 Z<|aF Z (fun C=>?_) (fun C=>?_)
  ·refine Oi 5 Z<|aQ (l:=zp [0,1,2,3,4,5,6,7,8]) U U<|QW 2 Z ?_;obtain⟨d8,E⟩:=cT (show i3<A.length from by have:=bk C;omega);refine Rt (e:=67) (m:=2) z E Z Z Z Z Z (fun d9 cv a0 cw a1=>?_);obtain rfl:=a1;refine aj Z Z (RF ar a0 Z Z) Z<|QW 2 Z<|Rt (e:=67) (m:=2) z w Z Z Z Z Z (fun ee cx a2 c0 a3=>?_);obtain rfl:=a3;refine aj Z Z (RF ar a2 Z Z) Z<|aj Z Z (zx (n:=2) (ca:=[_,_]) (cb:=[_,_]) U Z Z Z Z) Z<|Ql 2 Z<|aF Z (fun W=>?_) (fun W=>?_)
   ·refine QT 6 Z<|aJ<|ay<|bD<|aJ<|aJ<|ay<|bD<|aJ<|ay (?_);exact aB Z Z ⟨_,Z,⟨(fun hh=>by cases hh),fun M=>absurd (de.1<|Lk.symm.trans W) (Ji M.nodup (bk C) E w)⟩,ar.pop.pop⟩
   refine aH (aG (QR 5 Z (aL ⟨cr-1,by have:=bk C;omega,oF,i3+1,by have:=bk C;omega,fun k2 y hk hy=>(by by_cases a4:k2=i3;(subst a4;rw[E] at hy;cases hy;exact fun he=>absurd W (by rw[he,de.2 Z];decide));exact ch k2 y oM hy),cI<|aY (by have:=z.bL;have:=bk C;omega),ar⟩)))
  refine PC 3 Z<|aS<|aG<|QR 5 Z ?_;have ar:=ar.pop;refine aL ⟨co-1,by omega,oF,i+1,by omega,fun k x hk hx=>(by by_cases a4:k=i;(subst a4;rw[w] at hx;cases hx;exact⟨ce,fun k2 y e9 hy=>ch k2 y (by have:=bz C;omega) hy⟩);exact S k x oM hx),cI<|aY (by have:=z.bL;omega),ar⟩
 refine PC 3 Z<|aS<|Qg 3 Z<|Y Z (RC z Z Z Z (e:=67) Z) Z<|Qk 6 Z ?_;exact aB Z Z ⟨_,Z,⟨fun hh=>⟨fun id c1=>(by obtain⟨k,hk⟩:=gO_ c1;exact(S k id (by have:=(gA.1 hk).1;have:=bz X;omega) hk).1),Jj fun k m x y c2 hx hy=>(S m y (by have:=(gA.1 hy).1;have:=bz X;omega) hy).2 k x c2 hx,(by have ck:H (.ofNat A.length) (.ofNat<|ib (.ofNat ln) g.threads)=true:=hh;rw[eh] at ck;exact of_decide_eq_true ck)⟩,fun M=>(by show H (.ofNat A.length) (.ofNat<|ib (.ofNat ln) g.threads)=true;rw[eh,M.Dy];exact decide_eq_true Z)⟩,ar.pop⟩
theorem uk {G:Cx} (hG:Plain G) {K:KP} {g:XG} {a b c d:V} (h:eW K g a b c d) {O:N} {L:Own} (ar:D O K L):a8 Tryz.prog G 47 [.agg [a,b,c,d]] O fun v O'=>v= .int .i64 (cd g)/\D O' K L:=by
 have h':=h;obtain⟨hi,C,hf,ho⟩:=h';refine QO hG Tryz.func47 Z<|Qg 2 Z<|kp ar Z (cG Z Z) (fun O b1 ar=>?_);refine O6 ar 8 [1,0] Z Z<|Y Z (RC C Z Z Z (e:=57) Z) Z<|vQ 1 Z<|ky Z (an Z) (fun ap=>?_) (fun ap=>?_)
 ·refine PH 15 Z ?_;exact aB Z Z ⟨cJ (by rw[pr<|CX ap]),ar.pop⟩
 refine QY ar 2 [0,0] Z Z<|Y Z (RC hi Z Z Z (e:=2) Z) Z<|Qi 4 Z<|aF Z (fun aE=>?_) (fun aE=>?_)
 ·refine Qh 7 Z ?_;exact aB Z Z ⟨cJ (by rw[pr<|CZ aE]),ar.pop⟩
 refine O1 9 Z ?_;obtain⟨LL1,ar,hLL1⟩:=ar.named;refine bh ([2,3]++rg 19 14) (fun j t O=>∃(i:Nat),j+i=g.threads.length/\(∀(k:Nat) (l:List bW),k<i->g.threads[k]?=some l->cq 14 (.ofNat l.length)=false)/\t.get 3=some (.int .i64 (.ofNat i))/\D O K LL1) (g.threads.length) ⟨0,Z,fun k x hk=>absurd hk (nZ_ _),Z,ar⟩ ?_;clear ar;intro j4 t O aq hI;obtain⟨i,fr,E,c5,ar⟩:=hI;subst hLL1;obtain⟨oo,rfl⟩:=aq.q1 c5 Z;refine PJ ar 6 [1,0] Z Z<|Y Z (RC C Z Z Z (e:=57) Z) Z<|Qi 3 Z<|aF Z (fun a0=>?_) (fun a0=>?_)
 ·refine Oj 6 Z<|QY ar 3 [1,0] Z Z ?_;obtain⟨fs,aa,d9⟩:=dH a0;refine Rr (e:=57) (m:=1) C aa Z Z Z Z (fun f0 ee b8 eg b9=>?_);have hr29':=b9;obtain⟨f1,rfl,ca⟩:=hr29';refine Y Z (RE ar b8 Z Z) Z<|Y Z (RC ca Z Z Z (e:=56) Z) Z<|Qi 3 Z<|aF Z (fun bq=>?_) (fun bq=>?_)
  ·refine QT 6 Z<|aJ<|ay<|bD<|aJ<|ay (?_);exact aB Z Z ⟨cJ (by rw[pr<|CY aa bq]),ar.pop⟩
  refine aH (aG (QR 5 Z (aL ⟨j4-1,by omega,oF,i+1,by omega,fun k l hk hl=>(by by_cases F:k=i;(subst F;rw[aa] at hl;cases hl;exact bq);exact E k l oM hl),cI<|aY (by have:=C.bL;omega),ar⟩)))
 have hTL:=EV (i:=i) ap aE (bz a0) E;have hT:g.threads.length<=4:=bz (a:=4) (by exact ap);have hR:∀l∈g.threads,l.length<=14:=fun l hl=>by obtain⟨k,hk⟩:=gO_ hl;exact bz (a:=14) (E k l (by have:=(gA.1 hk).1;have:=bz a0;omega) hk)
 refine PC 3 Z<|aS<|PJ ar 5 [2,0] Z Z<|Y Z (RC hf Z Z Z (e:=74) Z) Z<|QY ar 2 [1,0] Z Z<|Y Z (RC C Z Z Z (e:=57) Z) Z<|vQ 1 Z<|ky Z (an Z) (fun W=>?_) (fun W=>?_)
 ·refine PH 18 Z ?_;exact aB Z Z ⟨cJ (by rw[lN hTL fun B=>absurd W (by rw[B.from_,dL];decide)]),ar.pop⟩
 refine QY ar 2 [3,0] Z Z<|Y Z (RC ho Z Z Z (e:=74) Z) Z<|QY ar 2 [0,0] Z Z<|Y Z (RC hi Z Z Z (e:=2) Z) Z<|Qi 4 Z<|aF Z (fun X=>?_) (fun X=>?_)
 ·refine Qh 7 Z ?_;exact aB Z Z ⟨cJ (by rw[lN hTL fun B=>absurd X (by rw[B.order,dL];decide)]),ar.pop⟩
 refine O1 9 Z ?_;obtain⟨LL2,ar,hLL2⟩:=ar.named;refine bh ([2,4,5]++rg 49 41) (fun j t O=>∃(i:Nat),j+i=g.threads.length/\(∀(k:Nat) (x:List bW) (y:List bT),k<i->g.threads[k]?=some x->g.from_[k]?=some y->y.length=x.length/\∀(m:Nat) (e:bW),x[m]?=some e->bm e (.ofNat g.init.length)=true)/\t.get 4=some (.int .i64 (.ofNat i))/\D O K LL2) (g.threads.length) ⟨0,Z,fun k x y hk=>absurd hk (nZ_ _),Z,ar⟩ ?_;clear ar;intro c7 t O aq hI;obtain⟨i,el,a5,c8,ar⟩:=hI;subst hLL2;obtain⟨oo,rfl⟩:=aq.q1 c8 Z;refine PJ ar 6 [1,0] Z Z<|Y Z (RC C Z Z Z (e:=57) Z) Z<|Qi 3 Z<|aF Z (fun a1=>?_) (fun a1=>?_)
 ·refine Oi 5 Z<|ak<|aQ (l:=zp [0,1,2,3,4,5,6,7,8,9,10,11,12]) U U<|QZ ar 3 [2,0] Z Z ?_;obtain⟨c9,R⟩:=cT (show i<g.from_.length from by have:=dG (bl W);have:=bk a1;omega);refine Rt (e:=74) (m:=1) hf R Z Z Z Z Z (fun f2 em cb en cc=>?_);have hr59':=cc;obtain⟨f3,rfl,ce⟩:=hr59';refine aj Z Z (RE ar cb Z Z) Z<|aj Z Z (RC ce Z Z Z (e:=67) Z) Z<|QZ ar 3 [1,0] Z Z ?_;obtain⟨br,w,er⟩:=dH a1;refine Rt (e:=57) (m:=1) C w Z Z Z Z Z (fun f4 es ch et ci=>?_);have hr65':=ci;obtain⟨f5,rfl,ba⟩:=hr65';refine aj Z Z (RE ar ch Z Z) Z<|aj Z Z (RC ba Z Z Z (e:=56) Z) Z<|Ql 3 Z<|aF Z (fun bs=>?_) (fun bs=>?_)
  ·refine QT 6 Z<|ay<|aJ<|ay<|bD<|aJ<|ay (?_);exact aB Z Z ⟨cJ (by rw[lN hTL fun B=>absurd bs (by rw[(B.rows i _ _ w R).1,dL];decide)]),ar.pop⟩
  refine PB 5 Z<|PD 3 Z ?_;obtain⟨LL3,ar,hLL3⟩:=ar.named;refine bh ([2,5]++rg 69 21) (fun j t O=>∃(i2:Nat),j+i2=br.length/\(∀(m:Nat) (e:bW),m<i2->br[m]?=some e->bm e (.ofNat g.init.length)=true)/\t.get 5=some (.int .i64 (.ofNat i2))/\D O K LL3) (br.length) ⟨0,Z,fun k x hk=>absurd hk (nZ_ _),Z,ar⟩ ?_;clear ar;intro dd t O aq hI;obtain⟨i2,ev,ck,dl,ar⟩:=hI;subst hLL3;obtain⟨oo,rfl⟩:=aq.q1 dl Z;refine PJ ar 7 [1,0] Z Z<|Rr (e:=57) (m:=1) C w Z Z Z Z (fun f6 ex cl e0 cn=>?_);have hr73':=cn;obtain⟨f7,rfl,co⟩:=hr73';refine Y Z (RE ar cl Z Z) Z<|Y Z (RC co Z Z Z (e:=56) Z) Z<|Qi 3 Z<|aF Z (fun bt=>?_) (fun bt=>?_)
  ·refine Oi 5 Z<|aQ (l:=zp [0,1,2,3,4,5,6,7,8,9,10]) U U<|aj Z Z (RB Z ar.g0 (n:=4) (vs:=[_,_,_,_]) Z) Z<|QZ ar 3 [1,0] Z Z<|Rt (e:=57) (m:=1) C w Z Z Z Z Z (fun f8 e2 cp e3 cr=>?_);have hr83':=cr;obtain⟨f9,rfl,cv⟩:=hr83';refine aj Z Z (RE ar cp Z Z) Z<|wQ 1 Z ?_;obtain⟨gc,ab,cw⟩:=dH bt;refine Rt (e:=56) (m:=5) cv ab Z Z Z Z Z (fun ge e4 cx e5 c0=>?_);obtain rfl:=c0;refine aj Z Z (RF ar cx Z Z) Z<|dJ Z Z (Rx Z Z Z) (fun _=>Z) (L9 hG h _ ar) (fun O ar=>?_);refine⟨aX,?_⟩;refine aj Z Z (dq Z) Z<|Ql 2 Z<|aF Z (fun a2=>?_) (fun a2=>?_)
   ·refine QT 6 Z<|aJ<|ay<|bD<|aJ<|aJ<|ay<|bD<|aJ<|ay (?_);exact aB Z Z ⟨cJ (by rw[lN hTL fun B=>by obtain⟨r1,r2⟩:=B.rows i _ _ w R;obtain⟨y,hy⟩:=cT (show i2<c9.length from by rw[r1];exact cw);have:=(Jo<|r2 i2 _ _ ab hy).1;rw[this] at a2;cases a2]),ar.pop⟩
   refine aH (aG (QR 5 Z (aL ⟨dd-1,by omega,oF,i2+1,by omega,fun m e hm he=>(by by_cases bv:m=i2;(subst bv;rw[ab] at he;cases he;exact fX a2);exact ck m e oM he),cI<|aY (by have:=ba.bL;omega),ar⟩)))
  refine PC 3 Z (aS (aG (QR 5 Z (aL ⟨c7-1,by omega,oF,i+1,by omega,fun k x y hk h1 S=>(by by_cases F:k=i;(subst F;rw[w] at h1;rw[R] at S;cases h1;cases S;exact⟨dG<|bl bs,fun m e hm=>ck m e (by have:=(gA.1 hm).1;have:=bz bt;omega) hm⟩);exact a5 k x y oM h1 S),cI<|aY (by have:=C.bL;omega),ar⟩))))
 have hrows:=a5;have hi11:=bz a1;have hlen:∀(k:Nat) (x:List bW) (y:List bT),g.threads[k]?=some x->g.from_[k]?=some y->y.length=x.length/\∀(m:Nat) (e:bW),x[m]?=some e->bm e (.ofNat g.init.length)=true:=fun k x y h1 S=>hrows k x y (by have:=(gA.1 h1).1;omega) h1 S
 have bb:∀(t:Nat) (l:List bW) (m:Nat) (e:bW),g.threads[t]?=some l->l[m]?=some e->bd e=true->∃ln:Nat,e.loc= .ofNat ln/\ln<g.order.length:=fun t l m e h1 S h3=>by
  obtain⟨y,hy⟩:=cT (show t<g.from_.length from by have:=dG (bl W);have:=(gA.1 h1).1;omega);obtain⟨ln,k1,k2⟩:=CE ((hlen t l y h1 hy).2 m e S) h3;exact⟨ln,k1,by have:=dG (bl X);omega⟩
 refine PC 3 Z<|aS<|Qf 6 Z<|aM ?_;obtain⟨LL4,ar,hLL4⟩:=ar.named;refine bh ([2,6,7]++rg 90 32) (fun j t O=>∃(i4:Nat),j+i4=g.threads.length/\(∀(k:Nat) (x:List bW) (y:List bT),k<i4->g.threads[k]?=some x->g.from_[k]?=some y->∀(m:Nat) (f:bT),m<x.length->y[m]?=some f->cF g ⟨.ofNat (k+1),.ofNat m⟩ f=true)/\t.get 6=some (.int .i64 (.ofNat i4))/\D O K LL4) (g.threads.length) ⟨0,Z,fun k x y hk=>absurd hk (nZ_ _),Z,ar⟩ ?_;clear ar;intro dm t O aq hI;obtain⟨i4,e6,be,dr,ar⟩:=hI;subst hLL4;obtain⟨oo,rfl⟩:=aq.q1 dr Z;refine PJ ar 6 [1,0] Z Z<|Y Z (RC C Z Z Z (e:=57) Z) Z<|Qi 3 Z<|aF Z (fun bw=>?_) (fun bw=>?_)
 ·refine Oj 6 Z ?_;obtain⟨xb,a3,hi_xb⟩:=dH bw;refine PD 4 Z ?_;obtain⟨LL5,ar,hLL5⟩:=ar.named;refine bh ([2,7]++rg 97 25) (fun j t O=>∃(i5:Nat),j+i5=xb.length/\(∀(y:List bT) (m:Nat) (f:bT),m<i5->g.from_[i4]?=some y->y[m]?=some f->cF g ⟨.ofNat (i4+1),.ofNat m⟩ f=true)/\t.get 7=some (.int .i64 (.ofNat i5))/\D O K LL5) (xb.length) ⟨0,Z,fun y m f hm=>absurd hm (nZ_ _),Z,ar⟩ ?_;clear ar;intro ds t O aq hI;obtain⟨i5,e7,c1,dx,ar⟩:=hI;subst hLL5;obtain⟨oo,rfl⟩:=aq.q1 dx Z;refine PJ ar 7 [1,0] Z Z<|Rr (e:=57) (m:=1) C a3 Z Z Z Z (fun e8 d0 b0 d1 b2=>?_);have hr101':=b2;obtain⟨e9,rfl,ac⟩:=hr101';refine Y Z (RE ar b0 Z Z) Z<|Y Z (RC ac Z Z Z (e:=56) Z) Z<|Qi 3 Z<|aF Z (fun u=>?_) (fun u=>?_)
  ·refine Oi 5 Z (aQ (l:=zp [0,1,2,3,4,5,6,7,8,9,10,11,12,13,14]) U U (aj Z Z (RB Z ar.g0 (n:=4) (vs:=[_,_,_,_]) Z) Z (QW 3 Z (aj Z Z (Rw (places:=[(0,1),(1,1)]) (zero:=[J,J]) (cs:=[_,_]) Z) Z<|QZ ar 3 [2,0] Z Z ?_))));obtain⟨c2,A⟩:=cT (show i4<g.from_.length from by have:=dG (bl W);omega);obtain⟨xc,d2⟩:=cT (bk u);refine Rt (e:=74) (m:=1) hf A Z Z Z Z Z (fun fd d3 b3 d4 b4=>?_);have hr115':=b4;obtain⟨fi,rfl,b5⟩:=hr115';refine aj Z Z (RE ar b3 Z Z) Z<|wQ 1 Z ?_;obtain⟨bi,M⟩:=cT (show i5<c2.length from by rw[(hlen i4 _ _ a3 A).1];exact bk u);refine Rt (e:=67) (m:=2) b5 M Z Z Z Z Z (fun fk d5 b6 d6 b7=>?_);obtain rfl:=b7;refine aj Z Z (RF ar b6 Z Z) Z<|dJ Z Z (Rx Z Z Z) (fun _=>Z) (HL hG h _ _ _ _ ar) (fun O ar=>?_);refine⟨aX,?_⟩;refine aj Z Z (dq Z) Z<|Ql 2 Z<|aF Z (fun am=>?_) (fun am=>?_)
   ·refine QT 6 Z<|aJ<|ay<|bD<|aJ<|aJ<|ay<|bD<|aJ<|ay (?_);exact aB Z Z ⟨cJ (by rw[lN hTL fun B=>by obtain⟨r1,r2⟩:=B.rows i4 _ _ a3 A;have:=(Jo<|r2 i5 _ _ d2 M).2;have e:cF g ⟨wr .i64<|Int.add (.ofNat i4) (.ofNat 1),.ofNat i5⟩ ⟨bi.cH,bi.index⟩=true:=(by rw[aY (by have:=C.bL;omega)];exact this);exact absurd ((mn am).symm.trans e) (by decide)]),ar.pop⟩
   refine aH<|aG<|QR 5 Z ?_;refine aL ⟨ds-1,by have:=bk u;omega,oF,i5+1,by have:=bk u;omega,fun y m f hm hy hf=>(by by_cases bv:m=i5;(subst bv;rw[A] at hy;cases hy;rw[M] at hf;cases hf;have hq:=fX am;rw[<-aY (i:=i4) (by have:=C.bL;omega)];exact hq);exact c1 y m f oM hy hf),cI<|aY (by have:=ac.bL;have:=bk u;omega),ar⟩
  refine PC 3 Z (aS (aG (QR 5 Z (aL ⟨dm-1,by omega,oF,i4+1,by omega,fun k x y hk h1 S m f hm hf=>(by by_cases F:k=i4;(subst F;rw[a3] at h1;cases h1;exact c1 y m f (by have:=bz u;omega) S hf);exact be k x y oM h1 S m f hm hf),cI<|aY (by have:=C.bL;omega),ar⟩))))
 have hsrcs:=be;have hi21:=bz bw;refine PC 3 Z<|aS<|Qf 6 Z<|aM ?_;obtain⟨LL6,ar,hLL6⟩:=ar.named;refine bh ([2,8]++rg 122 11) (fun j t O=>∃(i8:Nat),j+i8=g.init.length/\(∀(k:Nat) (r:List bT),k<i8->g.order[k]?=some r->Fg g k r)/\t.get 8=some (.int .i64 (.ofNat i8))/\D O K LL6) (g.init.length) ⟨0,Z,fun k x hk=>absurd hk (nZ_ _),Z,ar⟩ ?_;clear ar;intro d7 t O aq hI;obtain⟨i8,fo,bo,d8,ar⟩:=hI;subst hLL6;obtain⟨oo,rfl⟩:=aq.q1 d8 Z;refine PJ ar 6 [0,0] Z Z<|Y Z (RC hi Z Z Z (e:=2) Z) Z<|Qi 3 Z<|aF Z (fun z=>?_) (fun z=>?_)
 ·refine Oj 6 Z<|Y Z (RB Z ar.g0 (n:=4) (vs:=[_,_,_,_]) Z) Z<|vQ 1 Z ?_;obtain⟨c3,Q⟩:=cT (show i8<g.order.length from by have:=dG (bl X);have:=bk z;omega);refine bR Z (Rx Z Z Z) (fun _=>Z) (E4 hG h Q hT hR ar) ?_;rintro _ O ⟨c4,rfl,ao,ar⟩;refine Y Z (dq Z) Z<|Qi 2 Z<|aF Z (fun T=>?_) (fun T=>?_)
  ·refine QT 6 Z<|aJ<|ay<|bD<|aJ<|ay (?_);exact aB Z Z ⟨cJ (by rw[lN hTL fun B=>by have hq:c4=true:=ao.2 ((uT bb).2 B.perm i8 c3 Q);rw[hq] at T;cases T]),ar.pop⟩
  refine aH (aG (QR 5 Z (aL ⟨d7-1,by have:=bk z;omega,oF,i8+1,by have:=bk z;omega,fun k r hk B=>(by by_cases F:k=i8;(subst F;rw[Q] at B;cases B;exact ao.1<|fX T);exact bo k r oM B),cI<|aY (by have:=hi.bL;have:=bk z;omega),ar⟩)))
 have a4:dD g:=⟨hT,bz (a:=6) (by exact aE),fun k l hl=>hR l (gB_ hl),dG<|bl W,dG<|bl X,fun k l f h1 S=>⟨(hlen k l f h1 S).1,fun m e q h3 h4=>Jp ((hlen k l f h1 S).2 m e h3) (hsrcs k l f (by have:=(gA.1 h1).1;omega) h1 S m q (gA.1 h3).1 h4)⟩,(uT bb).1 fun k r B=>bo k r (by have:=(gA.1 B).1;have:=dG (bl X);have:=bz z;omega) B⟩;refine PC 3 Z<|aS<|QT 6 Z ?_;exact aB Z Z ⟨cJ (by rw[dz.2 a4]),ar.pop⟩
structure oX (K:KP) (g:XG) (b:Nat) (va vb vc vd iv ev:V):Prop where
 row:K b (.row [va,vb,vc,vd,iv,ev,.int .i64 (.ofNat<|nV g)] 202 false)
 gr:eW K g va vb vc vd
 ids:bF K 2 ji (ie g) iv
 lO:bF K 5 kJ (DP g) ev
theorem oX.mono {K K':KP} {g:XG} {b:Nat} {va vb vc vd iv ev:V} (h:oX K g b va vb vc vd iv ev) (hk:KP.le K K'):oX K' g b va vb vc vd iv ev:=⟨hk _ _ h.row,h.gr.mono hk,h.ids.mono hk fun _ _ h=>h,h.lO.mono hk fun _ _ h=>h⟩
theorem Av {G:Cx} (F:Plain G) {K:KP} {g:XG} {b:Nat} {va vb vc vd iv ev:V} (hv:oX K g b va vb vc vd iv ev) {i:Nat} (hi:i<nV g) {O:N} {L:Own} (ar:D O K L):
  a8 Tryz.prog G 207 [.ptr b 0,.int .i64 (.ofNat i)] O fun u O'=>u= .bool (cD<|ez g i)/\D O' K L:=by
 refine QO F Tryz.func207 Z<|Qg 8 Z<|Y Z (cz Z) Z<|Y Z (Ry 5 Z) Z<|Y Z (Rz Z (ar.da hv.row) Z) Z<|vQ 1 Z<|Rr (e:=56) (m:=5) hv.lO (gd hi) Z Z Z Z (fun ao aa w ab z=>?_);obtain rfl:=z;refine bJ w Z Z Z (k:=0) U (lb Z) (fun _=>Z) (fun ap A=>?_);refine Y Z (RE ar A Z Z) Z<|vQ 1 Z<|ky Z (an Z) (fun d=>?_) (fun d=>?_)
 ·refine Qk 14 Z ?_;exact aB Z Z ⟨cB (by unfold cD;simp only[d,ct,cf]<;>rfl),ar⟩
 refine vQ 1 Z<|Y Z (cz Z) Z<|Y Z (Ry 5 Z) Z<|Y Z (Rz Z (ar.da hv.row) Z) Z<|vQ 1 Z<|Rr (e:=56) (m:=5) hv.lO (gd hi) Z Z Z Z (fun aq ac B am C=>?_);obtain rfl:=C;refine bJ B Z Z Z (k:=0) U (lb Z) (fun _=>Z) (fun aE E=>?_);refine Y Z (RE ar E Z Z) Z<|Qk 6 Z ?_;exact aB Z Z ⟨cB (by unfold cD;simp only[d,ct,cf]<;>rfl),ar⟩
theorem xm {G:Cx} (F:Plain G) {K:KP} {g:XG} {b:Nat} {va vb vc vd iv ev:V} (hv:oX K g b va vb vc vd iv ev) {i:Nat} (hi:i<nV g) {O:N} {L:Own} (ar:D O K L):
  a8 Tryz.prog G 205 [.ptr b 0,.int .i64 (.ofNat i)] O fun u O'=>u= .bool (bd<|ez g i)/\D O' K L:=by
 refine QO F Tryz.func205 Z<|Qg 8 Z<|Y Z (cz Z) Z<|Y Z (Ry 5 Z) Z<|Y Z (Rz Z (ar.da hv.row) Z) Z<|vQ 1 Z<|Rr (e:=56) (m:=5) hv.lO (gd hi) Z Z Z Z (fun ao aa w ab z=>?_);obtain rfl:=z;refine bJ w Z Z Z (k:=0) U (lb Z) (fun _=>Z) (fun ap A=>?_);refine Y Z (RE ar A Z Z) Z<|vQ 1 Z<|ky Z (an Z) (fun d=>?_) (fun d=>?_)
 ·refine Qk 14 Z ?_;exact aB Z Z ⟨cB (by unfold bd;simp only[d,ct,cf]<;>rfl),ar⟩
 refine vQ 1 Z<|Y Z (cz Z) Z<|Y Z (Ry 5 Z) Z<|Y Z (Rz Z (ar.da hv.row) Z) Z<|vQ 1 Z<|Rr (e:=56) (m:=5) hv.lO (gd hi) Z Z Z Z (fun aq ac B am C=>?_);obtain rfl:=C;refine bJ B Z Z Z (k:=0) U (lb Z) (fun _=>Z) (fun aE E=>?_);refine Y Z (RE ar E Z Z) Z<|Qk 6 Z ?_;exact aB Z Z ⟨cB (by unfold bd;simp only[d,ct,cf]<;>rfl),ar⟩
theorem Mv {G:Cx} (C:Plain G) {K:KP} {g:XG} {b:Nat} {va vb vc vd iv ev:V} (hv:oX K g b va vb vc vd iv ev) {i:Nat} (hi:i<nV g) {O:N} {L:Own} (ar:D O K L):
  a8 Tryz.prog G 210 [.ptr b 0,.int .i64 (.ofNat i)] O fun u O'=>u= .bool (Dj g i)/\D O' K L:=by
 refine QO C Tryz.func210 Z<|Qg 8 Z<|Y Z (cz Z) Z<|Y Z (Ry 5 Z) Z<|Y Z (Rz Z (ar.da hv.row) Z) Z<|vQ 1 Z<|Rr (e:=56) (m:=5) hv.lO (gd hi) Z Z Z Z (fun ac aa z ab A=>?_);obtain rfl:=A;refine bJ z Z Z Z (k:=2) U (lb Z) (fun _=>Z) (fun am B=>?_);refine Y Z (RE ar B Z Z) Z<|PF 7 Z<|ky Z (an Z) (fun d=>?_) (fun d=>?_)
 ·refine Qk 11 Z ?_;exact aB Z Z ⟨cB (by unfold Dj;simp only[d,ct,cf]<;>rfl),ar⟩
 refine QV 3 Z<|ky Z (an Z) (fun w=>?_) (fun w=>?_)
 ·refine Qk 7 Z ?_;exact aB Z Z ⟨cB (by unfold Dj;simp only[d,w,ct,cf]<;>rfl),ar⟩
 refine Qk 7 Z ?_;exact aB Z Z ⟨cB (by unfold Dj;simp only[d,w,ct,cf]<;>rfl),ar⟩
theorem Pd {G:Cx} (C:Plain G) {K:KP} {g:XG} {b:Nat} {va vb vc vd iv ev:V} (hv:oX K g b va vb vc vd iv ev) {i:Nat} (hi:i<nV g) {O:N} {L:Own} (ar:D O K L):
  a8 Tryz.prog G 209 [.ptr b 0,.int .i64 (.ofNat i)] O fun u O'=>u= .bool (ED g i)/\D O' K L:=by
 refine QO C Tryz.func209 Z<|Qg 8 Z<|Y Z (cz Z) Z<|Y Z (Ry 5 Z) Z<|Y Z (Rz Z (ar.da hv.row) Z) Z<|vQ 1 Z<|Rr (e:=56) (m:=5) hv.lO (gd hi) Z Z Z Z (fun ac aa z ab A=>?_);obtain rfl:=A;refine bJ z Z Z Z (k:=2) U (lb Z) (fun _=>Z) (fun am B=>?_);refine Y Z (RE ar B Z Z) Z<|PF 7 Z<|ky Z (an Z) (fun d=>?_) (fun d=>?_)
 ·refine Qk 11 Z ?_;exact aB Z Z ⟨cB (by unfold ED;simp only[d,ct,cf]<;>rfl),ar⟩
 refine QV 3 Z<|ky Z (an Z) (fun w=>?_) (fun w=>?_)
 ·refine Qk 7 Z ?_;exact aB Z Z ⟨cB (by unfold ED;simp only[d,w,ct,cf]<;>rfl),ar⟩
 refine Qk 7 Z ?_;exact aB Z Z ⟨cB (by unfold ED;simp only[d,w,ct,cf]<;>rfl),ar⟩
theorem Au {G:Cx} (hG:Plain G) {K:KP} {g:XG} {b:Nat} {va vb vc vd iv ev:V} (hv:oX K g b va vb vc vd iv ev) (hR:dD g) {i:Nat} (hi:i<nV g) {O:N} {L:Own} (ar:D O K L):
  a8 Tryz.prog G 208 [.ptr b 0,.int .i64 (.ofNat i)] O fun u O'=>u= .int .i64 (kS g i)/\D O' K L:=by
 have hvl:=pN hR;refine QO hG Tryz.func208 Z<|Pz 10 Z<|bc Z (Rx Z Z Z) (fun _=>Z) (Av hG hv hi ar) (fun O ar=>?_);refine Y Z (dq Z) Z<|Qi 2 Z<|aF Z (fun w=>?_) (fun w=>?_)
 ·refine Qh 7 Z ?_;exact aB Z Z ⟨cJ (by unfold kS;rw[show cD (ez g i)=false from by revert w;cases cD (ez g i)<;>simp];rfl),ar⟩
 refine PA 3 Z<|aQ (l:=zp [0,1,2,3,4,5,6,7,8,9,10,11,12,13,14,15,16,17,18,19,20,21,22,23,24,25,26,27]) U U ?_;have z:cD (ez g i)=true:=by revert w;cases cD (ez g i)<;>simp
 obtain⟨tt,kk,row,e,frow,q,C,E,bo,bq,A,hq,F,_⟩:=yQ hR hi z;refine wQ 1 Z<|aj Z Z (cz Z) Z<|QZ ar 2 [0,2] Z Z<|aj Z Z (Rz Z (ar.da hv.row) Z) Z<|wQ 1 Z<|aj Z Z (cz Z) Z<|aj Z Z (Ry 4 Z) Z<|aj Z Z (Rz Z (ar.da hv.row) Z) Z<|wQ 1 Z<|Rt (e:=67) (m:=2) hv.ids (eT hi) Z Z Z Z Z (fun br a0 M a1 Q=>?_);obtain rfl:=Q;refine dY M Z Z Z Z (k:=0) U (lb Z) (fun _=>Z) (fun bs R=>?_);refine aj Z Z (RE ar R Z Z) Z (aj Z Z (az (v:=.int .i64 (.ofNat tt)) Z Z (by rw[C];exact cI (fv (by have:=hR.threads;have:=(gA.1 E).1;omega)))) Z<|Rt (e:=74) (m:=1) hv.gr.from_ A Z Z Z Z Z (fun bt a2 S a3 T=>?_));have hr25':=T;obtain⟨bv,rfl,W⟩:=hr25';refine aj Z Z (RE ar S Z Z) Z<|wQ 1 Z<|aj Z Z (cz Z) Z<|aj Z Z (Ry 4 Z) Z<|aj Z Z (Rz Z (ar.da hv.row) Z) Z<|wQ 1 Z<|Rt (e:=67) (m:=2) hv.ids (eT hi) Z Z Z Z Z (fun bw a4 X a5 aa=>?_);obtain rfl:=aa;refine dY X Z Z Z Z (k:=1) U (lb Z) (fun _=>Z) (fun b0 ab=>?_);refine aj Z Z (RE ar ab Z Z) Z<|Rt (e:=67) (m:=2) W hq Z Z Z Z (cI<|congrArg bT.index C) (fun b2 ba ac bb am=>?_);obtain rfl:=am;refine aj Z Z (RF ar ac Z Z) Z<|oV ar Z Z (RD (cs:=[J,J])) (fun _=>Z) (fun O b1 ar=>?_);refine gF ar Z Z (RG Z Z Z ar.g0 (m:=2) Z Z (cells':=[_,_]) Z) Z (fun O ar=>?_);refine⟨aX,?_⟩;refine Ql 2 Z<|Qf 6 Z<|aM ?_;obtain⟨LL1,ar,hLL1⟩:=ar.named;refine bh ([4,6]++rg 37 18) (fun j t O=>∃(k:Nat),j+k=nV g/\fB (fun x:bT=>bY x.ints q.ints) (ie g) 0=fB (fun x:bT=>bY x.ints q.ints) ((ie g).drop k) k/\t.get 6=some (.int .i64 (.ofNat k))/\D O K LL1) (nV g) ⟨0,Z,Z,Z,ar⟩ ?_;clear ar;intro j5 t O aq hI;obtain⟨k,b3,he,aE,ar⟩:=hI;subst hLL1;obtain⟨oo,rfl⟩:=aq.q1 aE Z;refine Pz 5 Z<|Y Z (cz Z) Z<|Y Z (Ry 6 Z) Z<|Y Z (Rz Z (ar.da hv.row) Z) Z<|Qi 3 Z<|aF Z (fun d=>?_) (fun d=>?_)
 ·refine Oi 5 Z<|aQ (l:=zp [0,1,2,3,4,5,6,7,8]) U U<|wQ 1 Z<|aj Z Z (cz Z) Z<|aj Z Z (Ry 4 Z) Z<|aj Z Z (Rz Z (ar.da hv.row) Z) Z<|wQ 1 Z<|Rt (e:=67) (m:=2) hv.ids (eT<|bk d) Z Z Z Z Z (fun b4 be ao bi ap=>?_);obtain rfl:=ap;refine aj Z Z (RF ar ao Z Z) Z<|aj Z Z (RB Z ar.g0 (n:=2) (vs:=[_,_]) Z) Z<|aj Z Z (zx (n:=2) (ca:=[_,_]) (cb:=[_,_]) U Z Z Z Z) Z<|Ql 2 Z<|aF Z (fun B=>?_) (fun B=>?_)
  ·refine QT 7 Z<|aJ<|ay<|bD<|aJ<|ay (?_);exact aB Z Z ⟨cJ (by symm;unfold kS;rw[z,F];show fB (fun x:bT=>bY x.ints q.ints) (ie g) 0=_;rw[he,bX<|eT<|bk d];show(bif bY (ep g k).ints q.ints then _ else _)=_;rw[show bY (ep g k).ints q.ints=true from B];rfl),ar.pop⟩
  refine aH<|aG<|QR 5 Z ?_;have hlp:=bk d;refine aL ⟨j5-1,by have:=bk d;omega,oF,k+1,by omega,by rw[he,bX<|eT hlp];show(bif bY (ep g k).ints q.ints then _ else _)=_;rw[show bY (ep g k).ints q.ints=false from B];rfl,cI<|aY oM,ar⟩
 refine PC 3 Z<|aS<|QT 6 Z ?_;exact aB Z Z ⟨cJ (by symm;unfold kS;rw[z,F];show fB (fun x:bT=>bY x.ints q.ints) (ie g) 0=_;rw[he,ej<|bz d];rfl),ar.pop⟩
theorem N8 {g:XG} (d:dD g) {i:Nat} (hi:i<nV g) (hw:bd (ez g i)=true):∃(ln:Nat) (r:List bT),(ez g i).loc= .ofNat ln/\g.order[ln]?=some r/\Ju g (ez g i).loc=r:=by
 have key:∃ln:Nat,(ez g i).loc= .ofNat ln/\ln<g.order.length:=by
  rcases jv hi with ⟨x,v,h1,b,h3⟩ | ⟨t,k,row,e,h1,b,h3,h4⟩
  ·exact⟨x,by rw[h3],by rw[d.order];exact(gA.1 b).1⟩
  obtain⟨frow,u⟩:∃frow,g.from_[t]?=some frow:=⟨_,gC (by rw[d.from_];exact(gA.1 b).1)⟩;obtain⟨hl,w⟩:=d.rows t row frow b u;obtain⟨q,hq⟩:∃q,frow[k]?=some q:=⟨_,gC (by rw[hl];exact(gA.1 h3).1)⟩;have hoke:=w k e q h3 hq;unfold uQ at hoke
  have z:bm e (.ofNat g.init.length)=true:=by
   revert hoke;cases bm e (.ofNat g.init.length)<;>intro hoke
   ·exact Bool.noConfusion (show false=true from hoke)
   rfl
  obtain⟨ln,r,h5,A,_⟩:=ze (dz.2 d) z (by rw[<-h4];exact hw);exact⟨ln,by rw[h4];exact h5,(gA.1 A).1⟩
 obtain⟨ln,h1,b⟩:=key;exact⟨ln,g.order[ln],h1,gC b,by unfold Ju;rw[h1];show(g.order[ln]?).getD []=_;rw[gC b];rfl⟩
theorem F2 {G:Cx} (hG:Plain G) {K:KP} {g:XG} {b:Nat} {va vb vc vd iv ev:V} (hv:oX K g b va vb vc vd iv ev) (hR:dD g) {i:Nat} (hi:i<nV g) (hw:bd (ez g i)=true) {O:N} {L:Own} (ar:D O K L):
  a8 Tryz.prog G 250 [.ptr b 0,.int .i64 (.ofNat i)] O fun u O'=>u= .int .i64 (jB g i)/\D O' K L:=by
 have hvl:=pN hR;obtain⟨ln,r,ao,hr,E⟩:=N8 hR hi hw;refine QO hG Tryz.func250 Z<|Pz 9 Z<|Y Z (cz Z) Z<|Y Z (Ry 4 Z) Z<|Y Z (Rz Z (ar.da hv.row) Z) Z<|vQ 1 Z<|Rr (e:=67) (m:=2) hv.ids (eT hi) Z Z Z Z (fun bo aE F a0 M=>?_);obtain rfl:=M;refine bJ F Z Z Z (k:=0) U (lb Z) (fun _=>Z) (fun bq Q=>?_);refine Y Z (RE ar Q Z Z) Z<|Qi 3 Z<|aF Z (fun B=>?_) (fun B=>?_)
 ·refine Qh 7 Z ?_;exact aB Z Z ⟨cJ (by unfold jB;rw[show H (ep g i).cH 0=true from B];rfl),ar⟩
 refine PA 3 Z<|aQ (l:=zp [0,1,2,3,4,5,6,7,8,9,10,11,12,13,14,15]) U U<|wQ 1 Z<|aj Z Z (cz Z) Z<|QZ ar 2 [0,3] Z Z<|aj Z Z (Rz Z (ar.da hv.row) Z) Z<|wQ 1 Z<|aj Z Z (cz Z) Z<|aj Z Z (Ry 5 Z) Z<|aj Z Z (Rz Z (ar.da hv.row) Z) Z<|wQ 1 Z<|Rt (e:=56) (m:=5) hv.lO (gd hi) Z Z Z Z Z (fun br a1 R a2 S=>?_);obtain rfl:=S;refine dY R Z Z Z Z (k:=1) U (lb Z) (fun _=>Z) (fun bs T=>?_);refine aj Z Z (RE ar T Z Z) Z<|Rt (e:=74) (m:=1) hv.gr.order hr Z Z Z Z (cI ao) (fun bt a3 W a4 X=>?_);have hr29':=X;obtain⟨bv,rfl,d⟩:=hr29';refine aj Z Z (RE ar W Z Z) Z<|Ql 3 Z<|Qf 6 Z<|aM ?_;obtain⟨LL1,ar,hLL1⟩:=ar.named;refine bh ([4,6]++rg 31 20) (fun j t O=>∃(k:Nat),j+k=r.length/\fB (fun x:bT=>bY x.ints (ep g i).ints) r 0=fB (fun x:bT=>bY x.ints (ep g i).ints) (r.drop k) k/\t.get 6=some (.int .i64 (.ofNat k))/\D O K LL1) (r.length) ⟨0,Z,Z,Z,ar⟩ ?_;clear ar;intro j5 t O aq hI;obtain⟨k,bw,he,ap,ar⟩:=hI;subst hLL1;obtain⟨oo,rfl⟩:=aq.q1 ap Z;refine Pz 5 Z<|Y Z (RC d Z Z Z (e:=67) Z) Z<|Qi 3 Z<|aF Z (fun w=>?_) (fun w=>?_)
 ·refine Oi 5 Z<|aQ (l:=zp [0,1,2,3,4,5,6,7,8,9,10,11]) U U<|QW 2 Z ?_;obtain⟨z,A,a5⟩:=dH w;refine Rt (e:=67) (m:=2) d A Z Z Z Z Z (fun b0 ba aa bb ab=>?_);obtain rfl:=ab;refine aj Z Z (RF ar aa Z Z) Z<|wQ 1 Z<|aj Z Z (cz Z) Z<|aj Z Z (Ry 4 Z) Z<|aj Z Z (Rz Z (ar.da hv.row) Z) Z<|wQ 1 Z<|Rt (e:=67) (m:=2) hv.ids (eT hi) Z Z Z Z Z (fun b1 be ac bi am=>?_);obtain rfl:=am;refine aj Z Z (RF ar ac Z Z) Z<|aj Z Z (zx (n:=2) (ca:=[_,_]) (cb:=[_,_]) U Z Z Z Z) Z<|Ql 2 Z<|aF Z (fun C=>?_) (fun C=>?_)
  ·refine QT 8 Z<|aJ<|ay<|bD<|aJ<|ay (?_);exact aB Z Z ⟨cJ (by symm;unfold jB;rw[show H (ep g i).cH 0=false from B,E];show(let p:=fB (fun x:bT=>bY x.ints (ep g i).ints) r 0;bif cq p 0 then-1 else wr .i64 (Int.add p 1))=_;rw[he,bX A,show fB (fun x:bT=>bY x.ints (ep g i).ints) (z::r.drop (k+1)) k= .ofNat k from by show(bif bY z.ints (ep g i).ints then _ else _)=_;rw[show bY z.ints (ep g i).ints=true from C];rfl];rfl),ar⟩
  refine aH<|aG<|QR 5 Z ?_;have hlp:=bk w;refine aL ⟨j5-1,by have:=bk w;omega,oF,k+1,by omega,by rw[he,bX A];show(bif bY z.ints (ep g i).ints then _ else _)=_;rw[show bY z.ints (ep g i).ints=false from C];rfl,cI<|aY (by have:=d.bL;omega),ar⟩
 refine PC 3 Z<|aS<|QT 6 Z ?_;exact aB Z Z ⟨cJ (by symm;unfold jB;rw[show H (ep g i).cH 0=false from B,E];show(let p:=fB (fun x:bT=>bY x.ints (ep g i).ints) r 0;bif cq p 0 then-1 else wr .i64 (Int.add p 1))=_;rw[he,ej<|bz w];rfl),ar⟩
theorem LR {G:Cx} (M:Plain G) {K:KP} {g:XG} {b:Nat} {va vb vc vd iv ev:V} (hv:oX K g b va vb vc vd iv ev) {i q:Nat} (hi:i<nV g) (hq:q<nV g) {O:N} {L:Own} (ar:D O K L):
  a8 Tryz.prog G 196 [.ptr b 0,.int .i64 (.ofNat i),.int .i64 (.ofNat q)] O fun u O'=>u= .bool (rD g i q)/\D O' K L:=by
 refine QO M Tryz.func196 Z (Qf 6 Z (aQ (l:=[(0,[]),(1,[]),(2,[]),(3,[]),(4,[]),(5,[]),(6,[]),(7,[]),(8,[]),(9,[]),(10,[]),(11,[]),(12,[]),(13,[]),(14,[]),(15,[]),(16,[10,13]),(17,[])]) U U<|wQ 1 Z<|aj Z Z (cz Z) Z<|aj Z Z (Ry 4 Z) Z<|aj Z Z (Rz Z (ar.da hv.row) Z) Z<|wQ 1 Z<|Rt (e:=67) (m:=2) hv.ids (eT hi) Z Z Z Z Z (fun ao aa C ab E=>?_)));obtain rfl:=E;refine aj Z Z (RF ar C Z Z) Z<|wQ 1 Z<|aj Z Z (cz Z) Z<|aj Z Z (Ry 4 Z) Z<|aj Z Z (Rz Z (ar.da hv.row) Z) Z<|wQ 1 Z<|Rt (e:=67) (m:=2) hv.ids (eT hq) Z Z Z Z Z (fun ap ac B am F=>?_);obtain rfl:=F;refine aj Z Z (RF ar B Z Z) Z<|oV ar Z Z (RD (cs:=[J,J])) (fun _=>Z) (fun O b1 ar=>?_);refine oV ar Z Z (RD (cs:=[J,J])) (fun _=>Z) (fun O b2 ar=>?_);refine k9 ar Z Z (RG Z Z Z ar.g1 (m:=2) Z Z (cells':=[_,_]) Z) Z (fun O ar=>?_);refine⟨(bu (bG Z Z Z Z Z (Rz Z (ar.da hv.row) Z) hv.ids.eB)<|bu (bG Z Z Z Z Z (RF ar B Z Z)<|gP<|cK (fA _ _)<|cK (fA _ _) gQ) aX),?_⟩;refine gF ar Z Z (RG Z Z Z ar.g0 (m:=2) Z Z (cells':=[_,_]) Z) Z (fun O ar=>?_);refine⟨aX,?_⟩;refine Ql 2 Z<|Qg 2 Z<|QY ar 3 [0,1] Z Z<|ky Z (an Z) (fun w=>?_) (fun w=>?_)
 ·refine QY ar 4 [0,0] Z Z<|ky Z (an Z) (fun A=>?_) (fun A=>?_)
  ·refine Qk 22 Z ?_;exact aB Z Z ⟨cB (by unfold rD;simp only[w,A,ct,cf]<;>rfl),ar.pop.pop⟩
  refine QY ar 3 [0,1] Z Z<|ky Z (an Z) (fun d=>?_) (fun d=>?_)
  ·refine QY ar 6 [0,1,0,0] Z Z<|ky Z (an Z) (fun z=>?_) (fun z=>?_)
   ·refine Qp ar 11 [1,1,1,0] Z Z ?_;exact aB Z Z ⟨cB (by unfold rD;simp only[w,A,d,z,ct,cf]<;>rfl),ar.pop.pop⟩
   refine Qk 11 Z ?_;exact aB Z Z ⟨cB (by unfold rD;simp only[w,A,d,z,ct,cf]<;>rfl),ar.pop.pop⟩
  refine Qk 18 Z ?_;exact aB Z Z ⟨cB (by unfold rD;simp only[w,A,d,ct,cf]<;>rfl),ar.pop.pop⟩
 refine QY ar 8 [0,1] Z Z<|ky Z (an Z) (fun d=>?_) (fun d=>?_)
 ·refine QY ar 6 [0,1,0,0] Z Z<|ky Z (an Z) (fun z=>?_) (fun z=>?_)
  ·refine Qp ar 11 [1,1,1,0] Z Z ?_;exact aB Z Z ⟨cB (by unfold rD;simp only[w,d,z,ct,cf]<;>rfl),ar.pop.pop⟩
  refine Qk 11 Z ?_;exact aB Z Z ⟨cB (by unfold rD;simp only[w,d,z,ct,cf]<;>rfl),ar.pop.pop⟩
 refine Qk 18 Z ?_;exact aB Z Z ⟨cB (by unfold rD;simp only[w,d,ct,cf]<;>rfl),ar.pop.pop⟩
theorem Qr {G:Cx} (d:Plain G) {K:KP} {g:XG} {b:Nat} {va vb vc vd iv ev:V} (hv:oX K g b va vb vc vd iv ev) (w:dD g) {i q:Nat} (hi:i<nV g) (hq:q<nV g) {O:N} {L:Own} (ar:D O K L):
  a8 Tryz.prog G 197 [.ptr b 0,.int .i64 (.ofNat i),.int .i64 (.ofNat q)] O fun u O'=>u= .bool (Bh g i q)/\D O' K L:=by
 refine QO d Tryz.func197 Z<|Qg 9 Z<|bc Z (Rx Z Z Z) (fun _=>Z) (Au d hv w hq ar) (fun O ar=>?_);refine Qk 6 Z ?_;exact aB Z Z ⟨cB (by unfold Bh;simp only[ct,cf]<;>rfl),ar⟩
theorem Pc {G:Cx} (hG:Plain G) {K:KP} {g:XG} {b:Nat} {va vb vc vd iv ev:V} (hv:oX K g b va vb vc vd iv ev) {i q:Nat} (hi:i<nV g) (hq:q<nV g) {O:N} {L:Own} (ar:D O K L):
  a8 Tryz.prog G 145 [.ptr b 0,.int .i64 (.ofNat i),.int .i64 (.ofNat q)] O fun u O'=>u= .bool (x9 g i q)/\D O' K L:=by
 refine QO hG Tryz.func145 Z<|Qf 6 Z<|aQ (l:=zp [0,1,2,3,4,5,6,7,8,9,10,11,12,13,14,15,16,17,18,19,20,21,22,23,24,25,26,27,28,29,30,31,32,33,34,35,36,37,38,39,40,41,42,43,44]) U U<|QW 3 Z<|hJ Z Z (an Z) (fun _=>Z) (fun d=>?_) (fun d=>?_)
 ·refine wQ 1 Z<|aj Z Z (cz Z) Z<|aj Z Z (Ry 5 Z) Z<|aj Z Z (Rz Z (ar.da hv.row) Z) Z<|wQ 1 Z<|Rt (e:=56) (m:=5) hv.lO (gd hi) Z Z Z Z Z (fun a0 aa A ab B=>?_);obtain rfl:=B;refine dY A Z Z Z Z (k:=0) U (lb Z) (fun _=>Z) (fun a1 C=>?_);refine aj Z Z (RE ar C Z Z) Z<|QW 2 Z<|hJ Z Z (an Z) (fun _=>Z) (fun w=>?_) (fun w=>?_)
  ·refine wQ 1 Z<|aj Z Z (cz Z) Z<|aj Z Z (Ry 5 Z) Z<|aj Z Z (Rz Z (ar.da hv.row) Z) Z<|wQ 1 Z<|Rt (e:=56) (m:=5) hv.lO (gd hq) Z Z Z Z Z (fun a2 ac E am F=>?_);obtain rfl:=F;refine dY E Z Z Z Z (k:=0) U (lb Z) (fun _=>Z) (fun a3 M=>?_);refine aj Z Z (RE ar M Z Z) Z<|QW 2 Z<|hJ Z Z (an Z) (fun _=>Z) (fun z=>?_) (fun z=>?_)
   ·refine wQ 1 Z<|aj Z Z (cz Z) Z<|aj Z Z (Ry 5 Z) Z<|aj Z Z (Rz Z (ar.da hv.row) Z) Z<|wQ 1 Z<|Rt (e:=56) (m:=5) hv.lO (gd hi) Z Z Z Z Z (fun a4 ao Q ap R=>?_);obtain rfl:=R;refine dY Q Z Z Z Z (k:=1) U (lb Z) (fun _=>Z) (fun a5 S=>?_);refine aj Z Z (RE ar S Z Z) Z<|wQ 1 Z<|aj Z Z (cz Z) Z<|aj Z Z (Ry 5 Z) Z<|aj Z Z (Rz Z (ar.da hv.row) Z) Z<|wQ 1 Z<|Rt (e:=56) (m:=5) hv.lO (gd hq) Z Z Z Z Z (fun ba aq T aE W=>?_);obtain rfl:=W;refine dY T Z Z Z Z (k:=1) U (lb Z) (fun _=>Z) (fun bb X=>?_);refine aj Z Z (RE ar X Z Z) Z<|Qm 6 Z ?_;exact aB Z Z ⟨cB (by unfold x9 bf;simp only[d,w,z,ct,cf]<;>rfl),ar⟩
   refine Qm 22 Z ?_;exact aB Z Z ⟨cB (by unfold x9 bf;simp only[d,w,z,ct,cf]<;>rfl),ar⟩
  refine Qm 33 Z ?_;exact aB Z Z ⟨cB (by unfold x9 bf;simp only[d,w,ct,cf]<;>rfl),ar⟩
 refine Qm 44 Z ?_;exact aB Z Z ⟨cB (by unfold x9 bf;simp only[d,ct,cf]<;>rfl),ar⟩
theorem Pb {G:Cx} (A:Plain G) {K:KP} {g:XG} {b:Nat} {va vb vc vd iv ev:V} (hv:oX K g b va vb vc vd iv ev) (R:dD g) {i q:Nat} (hi:i<nV g) (hq:q<nV g) {O:N} {L:Own} (ar:D O K L):
  a8 Tryz.prog G 198 [.ptr b 0,.int .i64 (.ofNat i),.int .i64 (.ofNat q)] O fun u O'=>u= .bool (yB g i q)/\D O' K L:=by
 refine QO A Tryz.func198 Z<|Qf 6 Z<|aQ (l:=zp [0,1,2,3,4,5,6,7,8,9,10,11,12,13,14,15,16,17,18,19,20,21,22,23,24,25,26,27,28,29,31,32,30,33,34,35,36]) U U<|QW 2 Z<|FT Z Z (Rx Z Z Z) (fun _=>Z) (xm A hv hi ar) (fun z O ar=>?_) (fun z O ar=>?_)
 ·refine⟨aX,?_⟩;refine QW 3 Z<|FT Z Z (Rx Z Z Z) (fun _=>Z) (xm A hv hq ar) (fun d O ar=>?_) (fun d O ar=>?_)
  ·refine⟨aX,?_⟩;refine QW 3 Z<|aj Z Z (cz Z) Z<|aj Z Z (Ry 5 Z) Z<|aj Z Z (Rz Z (ar.da hv.row) Z) Z<|wQ 1 Z<|Rt (e:=56) (m:=5) hv.lO (gd hi) Z Z Z Z Z (fun ao aa B ab C=>?_);obtain rfl:=C;refine dY B Z Z Z Z (k:=1) U (lb Z) (fun _=>Z) (fun ap E=>?_);refine aj Z Z (RE ar E Z Z) Z<|wQ 1 Z<|aj Z Z (cz Z) Z<|aj Z Z (Ry 5 Z) Z<|aj Z Z (Rz Z (ar.da hv.row) Z) Z<|wQ 1 Z<|Rt (e:=56) (m:=5) hv.lO (gd hq) Z Z Z Z Z (fun aq ac F am M=>?_);obtain rfl:=M;refine dY F Z Z Z Z (k:=1) U (lb Z) (fun _=>Z) (fun aE Q=>?_);refine aj Z Z (RE ar Q Z Z) Z<|QW 2 Z<|hJ Z Z (an Z) (fun _=>Z) (fun w=>?_) (fun w=>?_)
   ·refine QW 4 Z<|dJ Z Z (Rx Z Z Z) (fun _=>Z) (F2 A hv R hi z ar) (fun O ar=>?_);refine⟨aX,?_⟩;refine dJ Z Z (Rx Z Z Z) (fun _=>Z) (F2 A hv R hq d ar) (fun O ar=>?_);refine⟨aX,?_⟩;refine Qm 6 Z ?_;exact aB Z Z ⟨cB (by unfold yB;simp only[z,d,w,ct,cf]<;>rfl),ar⟩
   refine Qm 12 Z ?_;exact aB Z Z ⟨cB (by unfold yB;simp only[z,d,w,ct,cf]<;>rfl),ar⟩
  refine⟨aX,?_⟩;refine Qm 33 Z ?_;exact aB Z Z ⟨cB (by unfold yB;simp only[z,d,ct,cf]<;>rfl),ar⟩
 refine⟨aX,?_⟩;refine Qm 37 Z ?_;exact aB Z Z ⟨cB (by unfold yB;simp only[z,ct,cf]<;>rfl),ar⟩
theorem Qq {G:Cx} (A:Plain G) {K:KP} {g:XG} {b:Nat} {va vb vc vd iv ev:V} (hv:oX K g b va vb vc vd iv ev) (B:dD g) {i q:Nat} (hi:i<nV g) (hq:q<nV g) {O:N} {L:Own} (ar:D O K L):
  a8 Tryz.prog G 199 [.ptr b 0,.int .i64 (.ofNat i),.int .i64 (.ofNat q)] O fun u O'=>u= .bool (DW g i q)/\D O' K L:=by
 refine QO A Tryz.func199 Z<|Qg 10 Z<|ky Z (an Z) (fun d=>?_) (fun d=>?_)
 ·refine QV 2 Z<|gw Z (Rx Z Z Z) (fun _=>Z) (Av A hv hi ar) (fun w O ar=>?_) (fun w O ar=>?_)
  ·refine QV 5 Z ?_;obtain⟨f,hf,z,_⟩:=oz B hi w;refine bc Z (Rx Z Z Z) (fun _=>Z) (by have q:=Au A hv B hi ar;rw[z] at q;exact q) (fun O ar=>?_);refine vQ 1 Z<|bc Z (Rx Z Z Z) (fun _=>Z) (Pb A hv B hf hq ar) (fun O ar=>?_);have C:(kS g i).toNat=f:=by rw[z];rfl
   refine Qk 5 Z ?_;exact aB Z Z ⟨cB (by unfold DW bf;simp only[d,w,ct,cf,C]<;>rfl),ar⟩
  refine Qk 13 Z ?_;exact aB Z Z ⟨cB (by unfold DW bf;simp only[d,w,ct,cf]<;>rfl),ar⟩
 refine Qk 16 Z ?_;exact aB Z Z ⟨cB (by unfold DW bf;simp only[d,ct,cf]<;>rfl),ar⟩
theorem Mu {G:Cx} (hG:Plain G) {K:KP} {g:XG} {va vb vc vd:V} (hg:eW K g va vb vc vd) (B:dD g) {O:N} {L:Own} (ar:D O K L):
  a8 Tryz.prog G 195 [.agg [va,vb,vc,vd]] O fun u O'=>∃M,dt 2 67 ji (ie g) u M/\D O' K (M++L):=by
 refine QO hG Tryz.func195 Z<|Qg 2 Z<|kp ar Z (cG Z Z) (fun O b1 ar=>?_);refine O3 15 Z (bh ([3,4]++rg 7 12) (fun j t O=>∃(i:Nat) (u:V) (M:Own),j+i=g.init.length/\dt 2 67 ji (qY g i 0 0) u M/\t.get 3=some (u)/\t.get 4=some (.int .i64 (.ofNat i))/\D O K (M++(b1,.row [va,vb,vc,vd] 26 false)::L)) (g.init.length) ⟨0,_,[],Z,.inl ⟨Z,Z,Z⟩,Z,Z,ar⟩ ?_);clear ar;intro j3 t O aq F;obtain⟨i,u,M,ba,hO,d,aa,ar⟩:=F;obtain⟨oo,rfl⟩:=aq.q2 d aa Z;refine PJ ar 5 [0] Z Z<|Y Z (Rz Z ar.bA.g0 Z) Z<|Y Z (RC hg.init Z Z Z (e:=2) Z) Z<|Qi 3 Z<|aF Z (fun C=>?_) (fun C=>?_)
 ·refine O1 4 Z (ai Z (QV 2 Z (Y Z (Rw (places:=[(0,1),(1,1)]) (zero:=[J,J]) (cs:=[_,_]) Z) Z<|fY ar Z (cm (e:=67) (m:=2) (z:=[J,J]) (cs:=[_,_]) U U U U<|bj Z Z Z Z bO) (fun _=>Z) (fun O b2 ar=>?_))));replace ar:=ar.pull (.there .here);replace ar:=ar.pull (.dv<|cX.here (X:=[_]));refine kY (R:=ji) (m:=2) (e:=67) hO ar (fV (m:=2) Z (show ji ⟨0,.ofNat i⟩ [J,.int .i64 (.ofNat i)] from Z)) ji.leaf (by have:=B5 B (i:=i) (t:=0) (k:=0) (by have:=B.init;have:=bk C;omega) oM oM;show _+1<=_;omega) Z Z Z Z Z Z Z (fun _=>Z) (fun O ab ac hO18 ar=>?_);refine QU 2 Z<|aG<|QR 5 Z ?_;have hlp:=bk C;refine aL ⟨j3-1,by omega,oF,i+1,ab,ac,by omega,(Nk ▸ hO18),Z,cI<|aY (by have:=B.init;omega),ar⟩
 refine PC 3 Z<|aS<|Pz 3 Z ?_;have am:i=g.init.length:=by have:=bz C;omega
 subst am;refine PD 4 Z (bh ([3,5,6]++rg 19 24) (fun j t O=>∃(A:Nat) (u2:V) (Q:Own),j+A=g.threads.length/\dt 2 67 ji (qY g g.init.length A 0) u2 Q/\t.get 3=some (u2)/\t.get 5=some (.int .i64 (.ofNat A))/\D O K (Q++(b1,.row [va,vb,vc,vd] 26 false)::L)) (g.threads.length) ⟨0,u,M,Z,hO,Z,Z,ar⟩ ?_);clear ar;intro j7 t O aq F;obtain⟨A,u2,Q,bb,hO2,d,ao,ar⟩:=F;obtain⟨oo,rfl⟩:=aq.q2 d ao Z;refine PJ ar 5 [1] Z Z<|Y Z (Rz Z ar.bA.g0 Z) Z<|Y Z (RC hg.threads Z Z Z (e:=57) Z) Z<|Qi 3 Z<|aF Z (fun b=>?_) (fun b=>?_)
 ·refine Oj 6 Z ?_;obtain⟨row,w,_⟩:=dH b;have hrl:=B.short _ _ w;refine PD 4 Z (bh ([3,6]++rg 26 17) (fun j t O=>∃(k:Nat) (u3:V) (M3:Own),j+k=row.length/\dt 2 67 ji (qY g g.init.length A k) u3 M3/\t.get 3=some (u3)/\t.get 6=some (.int .i64 (.ofNat k))/\D O K (M3++(b1,.row [va,vb,vc,vd] 26 false)::L)) (row.length) ⟨0,u2,Q,Z,hO2,Z,Z,ar⟩ ?_);clear ar;intro ap t O aq F;obtain⟨k,u3,M3,a3,hO3,d,aE,ar⟩:=F;obtain⟨oo,rfl⟩:=aq.q2 d aE Z;refine PJ ar 5 [1] Z Z<|Y Z (Rz Z ar.bA.g0 Z) Z<|vQ 1 Z<|Rr (e:=57) (m:=1) hg.threads w Z Z Z Z (fun be a4 S a5 T=>?_);have hr30':=T;obtain⟨bi,rfl,W⟩:=hr30';refine Y Z (RE ar S Z Z) Z<|Y Z (RC W Z Z Z (e:=56) Z) Z<|Qi 3 Z<|aF Z (fun E=>?_) (fun E=>?_)
  ·refine O1 4 Z (ai Z (QV 2 Z (Y Z (az (v:=.int .i64 (.ofNat (A+1))) Z Z<|cI<|aY (by have:=B.threads;have:=bk b;omega)) Z (vQ 1 Z (Y Z (Rw (places:=[(0,1),(1,1)]) (zero:=[J,J]) (cs:=[_,_]) Z) Z<|fY ar Z (cm (e:=67) (m:=2) (z:=[J,J]) (cs:=[_,_]) U U U U<|bj Z Z Z Z bO) (fun _=>Z) (fun O b2 ar=>?_))))));replace ar:=ar.pull (.there .here);replace ar:=ar.pull (.dv<|cX.here (X:=[_]));refine kY (R:=ji) (m:=2) (e:=67) hO3 ar (fV (m:=2) Z (show ji ⟨.ofNat (A+1),.ofNat k⟩ [.int .i64 (.ofNat (A+1)),.int .i64 (.ofNat k)] from Z)) ji.leaf (by have:=B5 B (i:=g.init.length) (t:=A) (k:=k) B.init (by have:=bk E;omega) (by have:=B.threads;have:=bk b;omega);show _+1<=_;omega) Z Z Z Z Z Z Z (fun _=>Z) (fun O a0 a1 hO42 ar=>?_);refine QU 2 Z<|aG<|QR 5 Z ?_;have hlp:=bk E;refine aL ⟨ap-1,by omega,oF,k+1,a0,a1,by omega,(Nl ▸ hO42),Z,cI<|aY oM,ar⟩
  refine PC 3 Z<|aS<|aG<|QR 5 Z ?_;have hlp:=bk b;have a2:k=row.length:=by have:=bz E;omega
  subst a2;refine aL ⟨j7-1,by omega,oF,A+1,u3,M3,by omega,(Nm w ▸ hO3),Z,cI<|aY (by have:=B.threads;omega),ar⟩
 refine PC 3 Z<|aS<|QT 7 Z ?_;exact aB Z Z ⟨Q,(IT (bz b) ▸ hO2),ar.sub<|eO (.cons _ (.refl _))⟩
theorem ND {G:Cx} (hG:Plain G) {K:KP} {g:XG} {va vb vc vd:V} (hg:eW K g va vb vc vd) {O:N} {L:Own} (ar:D O K L):
  a8 Tryz.prog G 144 [.agg [va,vb,vc,vd]] O fun u O'=>(H (cd g) 0=false/\u= .tuple [.nilPtr,.bool false]/\D O' K L)∨(dD g/\∃K1 b a1 b1 c1 d1 iv ev,u= .tuple [.ptr b 0,.bool true]/\KP.le K K1/\oX K1 g b a1 b1 c1 d1 iv ev/\D O' K1 L):=by
 refine QO hG Tryz.func144 Z<|Qg 2 Z<|kp ar Z (cG Z Z) (fun O b1 ar=>?_);refine O4 7 Z<|Y Z (RB Z ar.g0 (n:=4) (vs:=[_,_,_,_]) Z) Z<|bc Z (Rx Z Z Z) (fun _=>Z) (uk hG hg ar) (fun O ar=>?_);refine Qi 3 Z<|aF Z (fun h9=>?_) (fun h9=>?_)
 ·refine Qh 8 Z ?_;exact cR Z Z Z (.inl ⟨cC h9,Z,ar.pop⟩)
 refine PA 3 Z (aQ (l:=[(0,[]),(1,[]),(2,[0]),(3,[]),(4,[]),(5,[])]) U U ?_);have hR:dD g:=dz.1 (eqv<|bl h9);have hvl:=pN hR;refine aj Z Z (RB Z ar.g0 (n:=4) (vs:=[_,_,_,_]) Z) Z<|aj Z Z (RB Z ar.g0 (n:=4) (vs:=[_,_,_,_]) Z) Z<|fF Z Z (Rx Z Z Z) (fun _=>Z) (Mu hG hg hR ar) ?_;rintro u12 O ⟨b5,hO12,ar⟩;obtain⟨K1,E,S,ar⟩:=D.cA (M:=b5) ar;have d:bF K1 2 ji (ie g) u12:=hO12.gL fun y hy=>S _ hy
 replace hg:=hg.mono E;refine⟨(bu (bG Z Z Z Z Z (RB Z ar.g0 (n:=4) (vs:=[_,_,_,_]) Z)<|gP<|cK hg.init.jm<|cK hg.threads.jm<|cK hg.from_.jm<|cK hg.order.jm gQ) aX),?_⟩;refine aj Z Z (bI (places:=[(0,4),(4,1),(5,1),(6,1)]) (zero:=[.av,.av,.av,.av,.av,.av,J]) (cs:=[_,_,_,_,_,_,_]) U U U (bj Z Z Z Z<|bj Z Z d.leaf.1 Z bO) U) Z<|oV ar Z Z (cG Z Z) (fun _=>Z) (fun O b2 ar=>?_);refine Ql 3 Z<|Qg 4 Z<|Y Z (cz Z) Z<|QY ar 2 [4,0] Z Z<|Y Z (RC d Z Z Z (e:=67) Z) Z<|Y Z (cz Z) Z<|Y Z (Ry 6 Z) Z<|bE ar Z (RG Z Z Z ar.g0 (m:=1) Z Z (cells':=[_,_,_,_,_,_,_]) Z) Z (fun O ar=>?_);refine O3 9 Z (bh ([5,6]++rg 23 72) (fun j t O=>∃(i:Nat) (u:V) (M:Own),j+i=nV g/\dt 5 56 kJ ((DP g).take i) u M/\t.get 5=some (.int .i64 (.ofNat i))/\D O K1 (M++(b2,.row [va,vb,vc,vd,u12,u,.int .i64 (.ofNat<|nV g)] 202 false)::(b1,.row [va,vb,vc,vd] 26 false)::L)) (nV g) ⟨0,_,[],Z,.inl ⟨Z,Z,Z⟩,Z,ar⟩ ?_);clear ar;intro j6 t O aq hI;obtain⟨i,u,M,c0,hO,b6,ar⟩:=hI;obtain⟨oo,rfl⟩:=aq.q1 b6 Z;refine Pz 5 Z<|Y Z (cz Z) Z<|Y Z (Ry 6 Z) Z<|Y Z (Rz Z ar.bA.g0 Z) Z<|Qi 3 Z<|aF Z (fun w=>?_) (fun w=>?_)
 ·refine Oj 6 Z ?_;have hin:=bk w;refine vQ 1 Z<|Y Z (cz Z) Z<|Y Z (Ry 4 Z) Z<|Y Z (Rz Z ar.bA.g0 Z) Z<|vQ 1 Z<|Rr (e:=67) (m:=2) d (eT hin) Z Z Z Z (fun c2 ca ab cb ac=>?_);obtain rfl:=ac;refine bJ ab Z Z Z (k:=1) U (lb Z) (fun _=>Z) (fun c3 am=>?_);refine Y Z (RE ar am Z Z) Z (Y Z (Rw (places:=[(0,1),(1,1),(2,1),(3,1),(4,1)]) (zero:=[J,J,J,J,J]) (cs:=[_,_,_,_,_]) Z) Z<|kp ar Z (RD (cs:=[J,J,J,J,J])) (fun O b3 ar=>?_));refine bE ar Z (RG Z Z Z ar.g0 (m:=5) Z Z (cells':=[_,_,_,_,_]) Z) Z (fun O ar=>?_);refine O4 6 Z<|Y Z (cz Z) Z<|Y Z (Ry 4 Z) Z<|Y Z (Rz Z ar.pop.bA.g0 Z) Z<|vQ 1 Z<|Rr (e:=67) (m:=2) d (eT hin) Z Z Z Z (fun c4 cc ao ce ap=>?_);obtain rfl:=ap;refine bJ ao Z Z Z (k:=0) U (lb Z) (fun _=>Z) (fun c5 aE=>?_);refine Y Z (RE ar aE Z Z) Z<|Qi 3 Z<|aF Z (fun A=>?_) (fun A=>?_)
  ·obtain⟨tt,kk,row,e,B,F,b7,T⟩:∃(t k:Nat) (row:List bW) (e:bW),ep g i=⟨.ofNat (t+1),.ofNat k⟩/\g.threads[t]?=some row/\row[k]?=some e/\ez g i=e:=by rcases jv hin with ⟨x,v,h1,_⟩ | h;(rw[h1] at A;exact Bool.noConfusion (show false=true from A));exact h
   refine aQ (l:=zp [0,1,2,3,4,5,6,7,8,9,10,11,12,13,14,15,16,17,18,19,20,21,22,23]) U U<|aj Z Z (Ry 1 Z) Z<|aj Z Z (Rz Z ar.pop.bA.pop.g0 Z) Z<|wQ 1 Z<|aj Z Z (cz Z) Z<|aj Z Z (Ry 4 Z) Z<|aj Z Z (Rz Z ar.pop.bA.g0 Z) Z<|wQ 1 Z<|Rt (e:=67) (m:=2) d (eT hin) Z Z Z Z Z (fun c7 ch a0 ci a2=>?_);obtain rfl:=a2;refine dY a0 Z Z Z Z (k:=0) U (lb Z) (fun _=>Z) (fun c8 a3=>?_);refine aj Z Z (RE ar a3 Z Z) Z (aj Z Z (az (v:=.int .i64 (.ofNat tt)) Z Z (by rw[B];exact cI (fv (by have:=hR.threads;have:=(gA.1 F).1;omega)))) Z<|Rt (e:=57) (m:=1) hg.threads F Z Z Z Z Z (fun c9 ck a4 cl a5=>?_));have hr60':=a5;obtain⟨dd,rfl,ba⟩:=hr60';refine aj Z Z (RE ar a4 Z Z) Z<|wQ 1 Z<|aj Z Z (cz Z) Z<|aj Z Z (Ry 4 Z) Z<|aj Z Z (Rz Z ar.pop.bA.g0 Z) Z<|wQ 1 Z<|Rt (e:=67) (m:=2) d (eT hin) Z Z Z Z Z (fun dl cn bb co be=>?_);obtain rfl:=be;refine dY bb Z Z Z Z (k:=1) U (lb Z) (fun _=>Z) (fun dm bi=>?_);refine aj Z Z (RE ar bi Z Z) Z<|Rt (e:=56) (m:=5) ba b7 Z Z Z Z (cI<|congrArg bT.index B) (fun dr cp bo cr bq=>?_);obtain rfl:=bq;refine aj Z Z (RF ar bo Z Z) Z<|gF ar Z Z (RG Z Z Z ar.g0 (m:=5) Z Z (cells':=[_,_,_,_,_]) Z) Z (fun O ar=>?_);refine⟨aX,?_⟩;refine Ql 2 Z<|aQ (l:=zp [0,1,2,3,4,5,6,7,8,9,10]) U U<|QW 2 Z<|aj Z Z (cz Z) Z<|aj Z Z (Ry 5 Z) Z<|aj Z Z (Rz Z ar.pop.bA.g0 Z) Z<|aj Z Z (RB Z ar.g0 (n:=5) (vs:=[_,_,_,_,_]) Z) Z<|sf ar Z Z (cm (e:=56) (m:=5) (z:=[J,J,J,J,J]) (cs:=[_,_,_,_,_]) U U U U<|bj Z Z Z Z bO) (fun _=>Z) (fun O b4 ar=>?_);replace ar:=ar.pull (.there (.there .here));replace ar:=ar.pull (.dv<|cX.here (X:=[_]));refine Jy (R:=kJ) (m:=5) (e:=56) hO ar (fV (m:=5) Z (show kJ e _ from Z)) kJ.leaf (by rw[lT_];show _+1<=_;omega) Z Z Z Z Z Z Z Z (fun _=>Z) (fun O C M92 hO92 ar=>?_);refine⟨aX,?_⟩;refine aj Z Z (cz Z) Z<|aj Z Z (Ry 5 Z) Z<|ik ar (.dv (.there .here)) Z Z (aK Z Z hO92.leaf.1 ar.bA.pop.g0 (m:=1) U Z (lb Z) (af hO92.leaf.2 aA) (cells':=[_,_,_,_,_,_,_]) Z) Z (fun O ar=>?_);refine⟨aX,?_⟩;replace ar:=ar.sub (eO (.cons _ (.cons_cons _ (.cons_cons _ (.refl _)))));refine aV<|aG<|QR 5 Z ?_;have hO93:dt 5 56 kJ ((DP g).take (i+1)) C M92:=by rw[List.take_add_one,gd hin,T];exact hO92
   refine aL ⟨j6-1,by have:=bk w;omega,oF,i+1,C,M92,by omega,hO93,cI<|aY oM,ar⟩
  obtain⟨xx,xv,B,b8,T⟩:∃(x:Nat) (v:Int),ep g i=⟨0,.ofNat x⟩/\g.init[x]?=some v/\ez g i=⟨2,.ofNat x,1,0,v⟩:=by rcases jv hin with h | ⟨t,k,row,e,h1,_⟩;exact h;(rw[h1] at A;exact Bool.noConfusion (show true=false from A))
  refine aQ (l:=zp [0,1,2,3,4,5,6,7,8,9,10,11,12,13]) U U<|aj Z Z (Ry 0 Z) Z<|aj Z Z (Rz Z ar.pop.bA.pop.g0 Z) Z<|wQ 1 Z<|aj Z Z (cz Z) Z<|aj Z Z (Ry 4 Z) Z<|aj Z Z (Rz Z ar.pop.bA.g0 Z) Z<|wQ 1 Z<|Rt (e:=67) (m:=2) d (eT hin) Z Z Z Z Z (fun ds cv br cw bs=>?_);obtain rfl:=bs;refine dY br Z Z Z Z (k:=1) U (lb Z) (fun _=>Z) (fun dx bt=>?_);refine aj Z Z (RE ar bt Z Z) Z<|Rt (e:=2) (m:=1) hg.init b8 Z Z Z Z (cI<|congrArg bT.index B) (fun d0 cx bv cH bw=>?_);obtain rfl:=bw;refine aj Z Z (RE ar bv Z Z) Z<|aj Z Z (Ry 4 Z) Z<|gF ar Z Z (RG Z Z Z ar.g0 (m:=1) Z Z (cells':=[_,_,_,_,_]) Z) Z (fun O ar=>?_);refine⟨aX,?_⟩;refine Ql 2 Z<|aQ (l:=zp [0,1,2,3,4,5,6,7,8,9,10]) U U<|QW 2 Z<|aj Z Z (cz Z) Z<|aj Z Z (Ry 5 Z) Z<|aj Z Z (Rz Z ar.pop.bA.g0 Z) Z<|aj Z Z (RB Z ar.g0 (n:=5) (vs:=[_,_,_,_,_]) Z) Z<|sf ar Z Z (cm (e:=56) (m:=5) (z:=[J,J,J,J,J]) (cs:=[_,_,_,_,_]) U U U U<|bj Z Z Z Z bO) (fun _=>Z) (fun O b4 ar=>?_);replace ar:=ar.pull (.there (.there .here));replace ar:=ar.pull (.dv<|cX.here (X:=[_]));refine Jy (R:=kJ) (m:=5) (e:=56) hO ar (fV (m:=5) Z (show kJ ⟨2,(ep g i).index,1,0,xv⟩ _ from Z)) kJ.leaf (by rw[lT_];show _+1<=_;omega) Z Z Z Z Z Z Z Z (fun _=>Z) (fun O C M92 hO92 ar=>?_);refine⟨aX,?_⟩;refine aj Z Z (cz Z) Z<|aj Z Z (Ry 5 Z) Z<|ik ar (.dv (.there .here)) Z Z (aK Z Z hO92.leaf.1 ar.bA.pop.g0 (m:=1) U Z (lb Z) (af hO92.leaf.2 aA) (cells':=[_,_,_,_,_,_,_]) Z) Z (fun O ar=>?_);refine⟨aX,?_⟩;replace ar:=ar.sub (eO (.cons _ (.cons_cons _ (.cons_cons _ (.refl _)))));refine aV<|aG<|QR 5 Z ?_;have hO93:dt 5 56 kJ ((DP g).take (i+1)) C M92:=by rw[List.take_add_one,gd hin,T];rw[show(ep g i).index= .ofNat xx from by rw[B]] at hO92;exact hO92
  refine aL ⟨j6-1,by have:=bk w;omega,oF,i+1,C,M92,by omega,hO93,cI<|aY oM,ar⟩
 refine PC 3 Z<|aS<|QT 8 Z ?_;have b9:i=nV g:=by have:=bz w;omega
 subst b9;rw[tL_<|Nat.le_of_eq ID] at hO;obtain⟨K2,b0,W,ar⟩:=D.cA (M:=M) ar;obtain⟨K3,Q,aa,ar⟩:=D.cA (M:=[_]) ar;have hle23:=KP.le_trans b0 Q;exact cR Z Z Z (.inr ⟨hR,K3,b2,va,vb,vc,vd,u12,u,Z,KP.le_trans E hle23,⟨aa _<|mS_ ..,hg.mono hle23,d.mono hle23 fun _ _ h=>h,hO.gL fun y hy=>Q _ _ (W _ hy)⟩,ar.pop⟩)
end Go.Ev
namespace Go.Ev
variable [Env]
theorem AN {x j:Nat} (h:j<64):H (Int.tmod (Int.fdiv (.ofNat x) (2 ^ min (Int.toNat (.ofNat j)) 64)) 2) 0= !x.testBit j:=by
 have e1:min (Int.toNat (.ofNat j)) 64=j:=by show min j 64=j;omega
 rw[e1,Ap]
 have b:Int.fdiv (.ofNat x) (.ofNat (2 ^ j))= .ofNat (x/2 ^ j):=by
  show Int.fdiv ((x:Nat):Int) ((2 ^ j:Nat):Int)=_;rw[Int.fdiv_eq_ediv_of_nonneg _<|Int.natCast_nonneg _];rfl
 rw[b];have d:Int.tmod (.ofNat (x/2 ^ j)) 2= .ofNat (x/2 ^ j%2):=rfl;rw[d,Nat.testBit_eq_decide_div_mod_eq];show Nat.beq (x/2 ^ j%2) 0=_;have:x/2 ^ j%2<2:=Nat.mod_lt _ oM;generalize x/2 ^ j%2=y at*
 match y,this with
 | 0,_=>rfl
 | 1,_=>rfl
inductive Sq (g:XG) (w:Nat):Nat->Prop where
 | base:Sq g w w
 | step {i f:Nat} (hi:i<nV g) (hk:H (ez g i).kind 3=true) (hf:kS g i= .ofNat f) (h:Sq g w f):Sq g w i
open Classical in
def vu (g:XG) (w:Nat):Nat->Bool:=fun k=>decide (Sq g w k)
theorem xy {g:XG} {w k:Nat}:vu g w k=true↔Sq g w k:=by unfold vu;simp
def iD (n:Nat) (p:Nat->Bool):Nat:=((List.range n).filter p).length
theorem Fq (n:Nat) (p:Nat->Bool):iD n p<=n:=by
 unfold iD;have:=List.length_filter_le p (List.range n);simpa using this
theorem GM {n:Nat} {p q:Nat->Bool} (h:∀k,p k=true->q k=true):iD n p<=iD n q:=(filter_lt fun x _=>h x).1
theorem Ic {n i:Nat} {p:Nat->Bool} (hi:i<n) (h:p i=false):iD n p<iD n fun k=>p k || decide (k=i):=
 (filter_lt (fun x _ hx=>by simp[hx])).2 ⟨i,List.mem_range.2 hi,h,by simp⟩
theorem mT {e:bW} (h:H e.kind 3=true):cD e=true:=by unfold cD;rw[h];cases H e.kind 1<;>rfl
theorem LV {g:XG} {w:Nat} {p:Nat->Bool} (hw:p w=true) (d:∀k,p k=true->Sq g w k) (u:∀i f,i<nV g->H (ez g i).kind 3=true->kS g i= .ofNat f->p f=true->p i=true):cS (nV g) p=cS (nV g) (vu g w):=by
 refine uv fun k _=>?_
 have b:∀{k},Sq g w k->p k=true:=fun h=>by
  induction h with
  | base=>exact hw
  | step hi hk hf _ ih=>exact u _ _ hi hk hf ih
 cases hb:vu g w k with
 | true=>exact b (xy.1 hb)
 | false=>
  cases hp:p k with
  | false=>rfl
  | true=>rw[xy.2<|d k hp] at hb;cases hb
theorem qH {n:Nat} {R:Rn} {a b:Nat}:(a,b)∈iH n R↔a<n/\b<n/\R a b=true:=by
 unfold iH;simp only[List.mem_flatMap,List.mem_range,List.mem_map,List.mem_filter];constructor
 ·rintro ⟨x,hx,y,⟨hy,d⟩,he⟩;cases he;exact⟨hx,hy,d⟩
 rintro ⟨u,hb,d⟩;exact⟨a,u,b,⟨hb,d⟩,Z⟩
theorem Ak {l:List (Nat×Nat)} {a b:Nat}:Cl l a b=true↔(a,b)∈l:=by
 unfold Cl;simp only[List.any_eq_true,bA_,beq_iff_eq];constructor
 ·rintro ⟨⟨x,y⟩,hm,h1,d⟩;cases h1;cases d;exact hm
 intro h;exact⟨(a,b),h,Z,Z⟩
theorem nG {n:Nat} {R:Rn}:bB n (Cl<|iH n R)=bB n R:=by
 refine cL fun a b d hb=>?_
 rw[Bool.eq_iff_iff,Ak,qH];exact⟨fun h=>h.2.2,fun h=>⟨d,hb,h⟩⟩
theorem pV {n:Nat} {R:Rn}:∀p∈iH n R,p.1<n/\p.2<n:=fun⟨a,b⟩ h=>⟨(qH.1 h).1,(qH.1 h).2.1⟩
theorem D.OM {O:N} {K:KP} {A B C D_ L:Own} (h:D O K (A++(B++(C++(D_++L))))):∃d,KP.le K d/\(∀e∈A,d e.1 e.2)/\(∀e∈B,d e.1 e.2)/\(∀e∈C,d e.1 e.2)/\(∀e∈D_,d e.1 e.2)/\D O d L:=
 ⟨(((K.m7 A).m7 B).m7 C).m7 D_,fun b o hb=>.inl (.inl (.inl (.inl hb))),fun e he=>.inl (.inl (.inl (.inr he))),fun e he=>.inl (.inl (.inr he)),fun e he=>.inl (.inr he),fun e he=>.inr he,h.keeps.keeps.keeps.keeps⟩
end Go.Ev
namespace Go.Ev
variable [Env]
open Go.Proofs
set_option maxRecDepth 4000
set_option maxHeartbeats 8000000
theorem EC {G:Cx} (hG:Plain G) {K:KP} {g:XG} {b:Nat} {va vb vc vd iv ev:V} (hv:oX K g b va vb vc vd iv ev) (hR:dD g) {w:Nat} (hw:w<nV g) {O:N} {L:Own} (ar:D O K L):
  a8 Tryz.prog G 206 [.ptr b 0,.int .i64 (.ofNat w)] O fun u O'=>u= .int .u64 (.ofNat<|cS (nV g)<|vu g w)/\D O' K L:=by
 have hvl:=pN hR;have h0b:2 ^ w=cS (nV g) (fun k=>false || decide (k=w)):=by rw[<-lL (fun _=>false) hw,vY,Nat.zero_or]
 refine QO hG Tryz.func206 Z (Qg 8 Z (Y Z (iA (j:=w) oM U U U Z) Z (Y Z (az (v:=.int .u64 (.ofNat (2 ^ w))) Z Z<|Gh oM) Z<|O3 10 Z ?_)));obtain⟨LL1,ar,hLL1⟩:=ar.named;refine bh ([5,6,7]++rg 11 41) (fun j t O=>∃(F:Nat->Bool) (ag:Bool),F w=true/\(∀k,F k=true->Sq g w k)/\(ag=true->nV g+1<=iD (nV g) F+j)/\(ag=false->∀q A,q<nV g->H (ez g q).kind 3=true->kS g q= .ofNat A->F A=true->F q=true)/\t.get 5=some (.int .u64 (.ofNat<|cS (nV g) F))/\t.get 6=some (.bool ag)/\D O K LL1) (nV g+1) ⟨(fun k=>false || decide (k=w)),true,(by simp),(fun k hk=>(by simp at hk;subst hk;exact .base)),(fun _=>Nat.le_add_left _ _),(fun e=>by cases e),(congrArg (fun z=>some (V.int .u64 (.ofNat z))) h0b),Z,ar⟩ ?_;clear ar;intro j3 t O aq hI;obtain⟨F,ag,B,d,hj,ao,W,X,ar⟩:=hI;subst hLL1;obtain⟨oo,rfl⟩:=aq.q2 W X Z;refine Qf 6 Z<|aF Z (fun a1=>?_) (fun a1=>?_)
 ·refine aH<|ad<|aM<|Qg 8 Z<|PD 3 Z ?_;obtain⟨LL2,ar,hLL2⟩:=ar.named;refine bh ([5,6,7]++rg 12 40) (fun j t O=>∃(i:Nat) (P:Nat->Bool) (C:Bool),j+i=nV g/\P w=true/\(∀k,P k=true->Sq g w k)/\(∀{k},F k=true->P k=true)/\(C=true->iD (nV g) F<iD (nV g) P)/\(C=false->∀q A,q<i->H (ez g q).kind 3=true->kS g q= .ofNat A->P A=true->P q=true)/\t.get 5=some (.int .u64 (.ofNat<|cS (nV g) P))/\t.get 6=some (.bool C)/\t.get 7=some (.int .i64 (.ofNat i))/\D O K LL2) (nV g) ⟨0,F,false,Z,B,d,(fun h=>h),(fun e=>by cases e),(fun _ q A hq=>absurd hq (nZ_ _)),Z,Z,Z,ar⟩ ?_;clear ar;intro j6 t O aq hI;obtain⟨i,P,C,bb,B,d,M,R,S,W,X,a2,ar⟩:=hI;subst hLL2;obtain⟨oo,rfl⟩:=aq.q3 W X a2 Z;refine Pz 5 Z<|Y Z (cz Z) Z<|Y Z (Ry 6 Z) Z<|Y Z (Rz Z (ar.da hv.row) Z) Z<|Qi 3 Z<|aF Z (fun aa=>?_) (fun aa=>?_)
  ·refine Oj 6 Z ?_;have hin:=bk aa;refine vQ 1 Z<|Y Z (cz Z) Z<|Y Z (Ry 5 Z) Z<|Y Z (Rz Z (ar.da hv.row) Z) Z<|vQ 1 Z<|Rr (e:=56) (m:=5) hv.lO (gd hin) Z Z Z Z (fun be a5 ap ba aE=>?_);obtain rfl:=aE;refine bJ ap Z Z Z (k:=0) U (lb Z) (fun _=>Z) (fun bi a0=>?_);refine Y Z (RE ar a0 Z Z) Z<|vQ 1 Z<|ky Z (an Z) (fun T=>?_) (fun T=>?_)
   ·refine QV 2 Z<|Y Z (iA (j:=i) oM U U U Z) Z<|QV 4 Z<|ky Z (an Z) (fun ab=>?_) (fun ab=>?_)
    ·refine QV 3 Z ?_;obtain⟨f,hf,ac,_⟩:=oz hR hin (mT T);refine bc Z (Rx Z Z Z) (fun _=>Z) (by have q:=Au hG hv hR hin ar;rw[ac] at q;exact q) (fun O ar=>?_);refine Y Z (iA (j:=f) oM U U U Z) Z<|Qi 6 Z<|aF Z (fun am=>?_) (fun am=>?_)
     ·refine Qg 4 Z (Y Z (iA (j:=i) oM U U U Z) Z (Y Z (az (v:=.int .u64 (.ofNat (2 ^ i))) Z Z<|Gh oM) Z (Y Z (az (v:=.int .u64 (.ofNat<|cS (nV g) P ||| 2 ^ i)) Z Z<|J8 (gu oM _)<|Nat.pow_lt_pow_right oM oM) Z<|PG 7 Z<|QR 5 Z ?_)));have a3:P i=false:=by have e:=(AN (x:=cS (nV g) P) (j:=i) oM).symm.trans ab;rw[dk,decide_eq_true hin,Bool.true_and] at e;revert e;cases P i<;>simp
      have a4:P f=true:=by have e:=(rG (x:=cS (nV g) P) (j:=f) oM).symm.trans am;rw[dk,decide_eq_true hf,Bool.true_and] at e;exact e
      refine aL ⟨j6-1,by omega,oF,i+1,(fun k=>P k || decide (k=i)),true,by omega,by simp[B],fun k hk=>(by rcases Bool.or_eq_true_iff.1 hk with h | h;(exact d k h);(obtain rfl:=of_decide_eq_true h;exact .step hin T ac<|d f a4)),(fun h=>by simp[M h]),(fun _=>Nat.lt_of_le_of_lt (GM fun _ h=>M h) (Ic hin a3)),(fun e=>by cases e),(by first | rfl | exact congrArg (fun z=>some (V.int .u64 (.ofNat z)))<|lL _ hin),Z,cI<|aY oM,ar⟩
     refine aH<|aG<|QR 5 Z ?_;refine aL ⟨j6-1,by omega,oF,i+1,P,C,by omega,B,d,M,R,fun e q A hq h1 E h3=>(by rcases Nat.lt_or_ge q i with h | h;(exact S e q A h h1 E h3);(have Q:q=i:=by omega);rw[Q] at h1 E⊢;have e:=(rG (x:=cS (nV g) P) (j:=f) oM).symm.trans am;rw[dk,decide_eq_true hf,Bool.true_and] at e;rw[show A=f from by rw[ac] at E;exact(iJ_ E).symm,e] at h3;cases h3),(by first | rfl | exact congrArg (fun z=>some (V.int .u64 (.ofNat z)))<|lL _ hin),Z,cI<|aY oM,ar⟩
    refine PG 14 Z<|QR 5 Z ?_;refine aL ⟨j6-1,by omega,oF,i+1,P,C,by omega,B,d,M,R,fun e q A hq h1 E h3=>(by rcases Nat.lt_or_ge q i with h | h;(exact S e q A h h1 E h3);(have Q:q=i:=by omega);rw[Q] at h1 E⊢;have e:=(AN (x:=cS (nV g) P) (j:=i) oM).symm.trans ab;rw[dk,decide_eq_true hin,Bool.true_and] at e;revert e;cases P i<;>simp),(by first | rfl | exact congrArg (fun z=>some (V.int .u64 (.ofNat z)))<|lL _ hin),Z,cI<|aY oM,ar⟩
   refine PG 22 Z<|QR 5 Z ?_;refine aL ⟨j6-1,by omega,oF,i+1,P,C,by omega,B,d,M,R,fun e q A hq h1 E h3=>(by rcases Nat.lt_or_ge q i with h | h;(exact S e q A h h1 E h3);(have Q:q=i:=by omega);rw[Q] at h1 E⊢;rw[show H (ez g i).kind 3=false from T] at h1;cases h1),(by first | rfl | exact congrArg (fun z=>some (V.int .u64 (.ofNat z)))<|lL _ hin),Z,cI<|aY oM,ar⟩
  refine PC 3 Z<|aS<|aG ?_;have bo:nV g<=i:=bz aa;refine aL ⟨j3-1,by have:=hj (by assumption);have:=Fq (nV g) F;omega,oF,P,C,B,d,(fun e=>by have:=R e;have:=hj (by assumption);omega),(fun e q A hq h1 E h3=>S e q A oM h1 E h3),Z,Z,ar⟩
 refine PC 3 Z<|aS<|QT 7 Z ?_;exact aB Z Z ⟨congrArg (fun z=>V.int .u64 (.ofNat z))<|LV B d fun q A hq h1 E h3=>ao (by assumption) q A hq h1 E h3,ar⟩
theorem LQ {G:Cx} (hG:Plain G) {K:KP} {g:XG} {b:Nat} {va vb vc vd iv ev:V} (hv:oX K g b va vb vc vd iv ev) (hR:dD g) {O:N} {L:Own} (ar:D O K L):
  a8 Tryz.prog G 146 [.ptr b 0] O fun v O'=>∃W S Q F C,v= .agg [.int .i64 (.ofNat<|nV g),S,.int .i64 (.ofNat<|nV g),Q,.int .i64 (.ofNat<|nV g),F,.int .i64 (.ofNat<|nV g),C]/\KP.le K W/\bF W 1 RU (bB (nV g)<|rD g) S/\bF W 1 RU (bB (nV g)<|Bh g) Q/\bF W 1 RU (bB (nV g)<|yB g) F/\bF W 1 RU (bB (nV g)<|DW g) C/\D O' W L:=by
 have hvl:=pN hR;refine QO hG Tryz.func146 Z<|Qg 2 Z<|kp ar Z (RD (cs:=[J,.av,J,.av,J,.av,J,.av])) (fun O b1 ar=>?_);refine PF 4 Z<|kp ar Z (RD (cs:=[.av,.av,.av,.av])) (fun O b2 ar=>?_);refine O3 9 Z (bh (rg 4 62) (fun j t O=>∃(i:Nat) (S Q F C:V) (T M1 E B:Own),j+i=nV g/\dt 2 204 RP (eJ (nV g) (rD g) i 0) S T/\dt 2 204 RP (eJ (nV g) (Bh g) i 0) Q M1/\dt 2 204 RP (eJ (nV g) (yB g) i 0) F E/\dt 2 204 RP (eJ (nV g) (DW g) i 0) C B/\t.get 4=some (.int .i64 (.ofNat i))/\D O K (T++(M1++(E++(B++((b2,.row [S,Q,F,C] 249 false)::(b1,.row [J,.av,J,.av,J,.av,J,.av] 151 false)::L)))))) (nV g) ⟨0,_,_,_,_,[],[],[],[],Z,.inl ⟨Z,Z,Z⟩,.inl ⟨Z,Z,Z⟩,.inl ⟨Z,Z,Z⟩,.inl ⟨Z,Z,Z⟩,Z,ar⟩ ?_);clear ar;intro j3 t O aq hI;obtain⟨i,S,Q,F,C,T,M1,E,B,b6,hO0,hO1,hO2,hO3,be,ar⟩:=hI;obtain⟨oo,rfl⟩:=aq.q1 be Z;refine Pz 5 Z<|Y Z (cz Z) Z<|Y Z (Ry 6 Z) Z<|Y Z (Rz Z (ar.da hv.row) Z) Z<|Qi 3 Z<|aF Z (fun aa=>?_) (fun aa=>?_)
 ·refine O1 9 Z (aM (bh ([5,6]++rg 15 51) (fun j t O=>∃(q:Nat) (S Q F C:V) (T M1 E B:Own),j+q=nV g/\dt 2 204 RP (eJ (nV g) (rD g) i q) S T/\dt 2 204 RP (eJ (nV g) (Bh g) i q) Q M1/\dt 2 204 RP (eJ (nV g) (yB g) i q) F E/\dt 2 204 RP (eJ (nV g) (DW g) i q) C B/\t.get 5=some (.int .i64 (.ofNat q))/\D O K (T++(M1++(E++(B++((b2,.row [S,Q,F,C] 249 false)::(b1,.row [J,.av,J,.av,J,.av,J,.av] 151 false)::L)))))) (nV g) ⟨0,S,Q,F,C,T,M1,E,B,Z,hO0,hO1,hO2,hO3,Z,ar⟩ ?_));clear ar;intro j6 t O aq hI;obtain⟨q,S,Q,F,C,T,M1,E,B,b7,hO0,hO1,hO2,hO3,bi,ar⟩:=hI;obtain⟨oo,rfl⟩:=aq.q1 bi Z;refine Pz 5 Z<|Y Z (cz Z) Z<|Y Z (Ry 6 Z) Z<|Y Z (Rz Z (ar.da hv.row) Z) Z<|Qi 3 Z<|aF Z (fun ac=>?_) (fun ac=>?_)
  ·refine Oj 6 Z ?_;have hin:=bk aa;have hqn:=bk ac;refine QV 2 Z<|Y Z (mC (e:=3) (n:=2) (m:=1) (zero:=[J,J]) (cs:=[_,_]) U U U Z) Z<|kp ar Z (RD (cs:=[J,J])) (fun O b3 ar=>?_);refine bE ar Z (RG Z Z Z ar.g0 (m:=2) Z Z (cells':=[_,_]) Z) Z (fun O ar=>?_);refine Qi 2 Z (zZ (rg 26 10) (fun t O=>∃(v0:V) (N0:Own),dt 2 204 RP (eJ (nV g) (rD g) i (q+1)) v0 N0/\D O K (N0++(M1++(E++(B++((b3,.row [.int .i64 (.ofNat i),.int .i64 (.ofNat q)] 204 false)::(b2,.row [v0,Q,F,C] 249 false)::(b1,.row [J,.av,J,.av,J,.av,J,.av] 151 false)::L)))))) ?_ ?_)
   ·refine Qg 5 Z<|gw Z (Rx Z Z Z) (fun _=>Z) (LR hG hv hin hqn ar) (fun am O ar=>?_) (fun am O ar=>?_)
    ·refine Qj 4 Z<|Y Z (fm (e:=200) (m:=1) (n:=4) (j:=0) U U Z Z (by decide)) Z<|Y Z (Rz Z ar.pop.bA.bA.bA.bA.g0 Z) Z<|Y Z (RB Z ar.g0 (n:=2) (vs:=[_,_]) Z) Z<|fY ar Z (cm (e:=204) (m:=2) (z:=[J,J]) (cs:=[_,_]) U U U U<|bj Z Z Z Z bO) (fun _=>Z) (fun O b4 ar=>?_);replace ar:=ar.pull (.there (.there<|cX.here (X:=T)));replace ar:=ar.pull (.dv<|cX.here (X:=[_]));rw[List.singleton_append] at ar;refine kY (R:=RP) (m:=2) (e:=204) hO0 ar (fV (m:=2) Z (show RP (i,q) [.int .i64 (.ofNat i),.int .i64 (.ofNat q)] from Z)) RP.leaf (by have:=kf (n:=nV g) (R:=rD g) (i:=i) (q:=q);have:i*nV g<=62*62:=Nat.mul_le_mul oM hvl;show _+1<=_;omega) Z Z Z Z Z Z Z (fun _=>Z) (fun O bo a0 hO34 ar=>?_);refine Y Z (fm (e:=200) (m:=1) (n:=4) (j:=0) U U Z Z (by decide)) Z<|ei ar (.dv (.there (.dv (.dv (.dv .here))))) Z (aK Z Z hO34.leaf.1 ar.bA.pop.bA.bA.bA.g0 (m:=1) U Z (lb Z) (af hO34.leaf.2 aA) (cells':=[_,_,_,_]) Z) Z (fun O ar=>?_);refine ah ?_;replace ar:=ar.pull (.dv<|cX.here (X:=[_]));rw[List.singleton_append] at ar;replace ar:=ar.pull (.there (.dv (.dv (.dv<|cX.here (X:=B)))));replace ar:=ar.pull (.dv (.there (.dv (.dv<|cX.here (X:=E)))));replace ar:=ar.pull (.dv (.dv (.there (.dv<|cX.here (X:=M1)))));replace ar:=ar.pull (.dv (.dv (.dv (.there<|cX.here (X:=a0)))));exact⟨Z,oF,bo,a0,(kh am ▸ hO34),ar⟩
    refine Qi 3 Z<|aH ?_;replace ar:=ar.pull (.there (.dv (.dv (.dv<|cX.here (X:=B)))));replace ar:=ar.pull (.dv (.there (.dv (.dv<|cX.here (X:=E)))));replace ar:=ar.pull (.dv (.dv (.there (.dv<|cX.here (X:=M1)))));replace ar:=ar.pull (.dv (.dv (.dv (.there<|cX.here (X:=T)))));exact⟨Z,oP Z<|oP Z<|oP Z<|oP Z<|oR _ _,S,T,(lP am ▸ hO0),ar⟩
   clear ar;intro t O aq hI;obtain⟨v0,N0,hP0,ar⟩:=hI;obtain⟨oo,rfl⟩:=aq.q0 Z;refine zZ (rg 36 10) (fun t O=>∃(v1:V) (N1:Own),dt 2 204 RP (eJ (nV g) (Bh g) i (q+1)) v1 N1/\D O K (N0++(N1++(E++(B++((b3,.row [.int .i64 (.ofNat i),.int .i64 (.ofNat q)] 204 false)::(b2,.row [v0,v1,F,C] 249 false)::(b1,.row [J,.av,J,.av,J,.av,J,.av] 151 false)::L)))))) ?_ ?_
   ·refine Qg 5 Z<|gw Z (Rx Z Z Z) (fun _=>Z) (Qr hG hv hR hin hqn ar) (fun ao O ar=>?_) (fun ao O ar=>?_)
    ·refine Qj 4 Z<|Y Z (fm (e:=200) (m:=1) (n:=4) (j:=1) U U Z Z (by decide)) Z<|Y Z (Rz Z ar.bA.bA.bA.bA.pop.g0 Z) Z<|Y Z (RB Z ar.bA.bA.bA.bA.g0 (n:=2) (vs:=[_,_]) Z) Z<|fY ar Z (cm (e:=204) (m:=2) (z:=[J,J]) (cs:=[_,_]) U U U U<|bj Z Z Z Z bO) (fun _=>Z) (fun O b4 ar=>?_);replace ar:=ar.pull (.there (.dv<|cX.here (X:=M1)));replace ar:=ar.pull (.dv<|cX.here (X:=[_]));rw[List.singleton_append] at ar;refine kY (R:=RP) (m:=2) (e:=204) hO1 ar (fV (m:=2) Z (show RP (i,q) [.int .i64 (.ofNat i),.int .i64 (.ofNat q)] from Z)) RP.leaf (by have:=kf (n:=nV g) (R:=Bh g) (i:=i) (q:=q);have:i*nV g<=62*62:=Nat.mul_le_mul oM hvl;show _+1<=_;omega) Z Z Z Z Z Z Z (fun _=>Z) (fun O bq a1 hO44 ar=>?_);refine Y Z (fm (e:=200) (m:=1) (n:=4) (j:=1) U U Z Z (by decide)) Z<|ei ar (.dv (.dv (.dv (.dv (.there .here))))) Z (aK Z Z hO44.leaf.1 ar.bA.bA.bA.bA.pop.g0 (m:=1) U Z (lb Z) (af hO44.leaf.2 aA) (cells':=[_,_,_,_]) Z) Z (fun O ar=>?_);refine ah ?_;replace ar:=ar.pull (.dv (.dv (.dv (.dv<|cX.here (X:=[_])))));rw[List.singleton_append] at ar;replace ar:=ar.pull (.there (.dv (.dv (.dv<|cX.here (X:=B)))));replace ar:=ar.pull (.dv (.there (.dv (.dv<|cX.here (X:=E)))));replace ar:=ar.pull (.dv (.dv (.there<|cX.here (X:=a1))));replace ar:=ar.pull (.dv (.dv (.dv (.there<|cX.here (X:=N0)))));exact⟨Z,oF,bq,a1,(kh ao ▸ hO44),ar⟩
    refine Qi 3 Z<|aH ?_;exact⟨Z,oP Z<|oP Z<|oP Z<|oP Z<|oR _ _,Q,M1,(lP ao ▸ hO1),ar⟩
   clear ar;intro t O aq hI;obtain⟨v1,N1,hP1,ar⟩:=hI;obtain⟨oo,rfl⟩:=aq.q0 Z;refine zZ (rg 46 10) (fun t O=>∃(v2:V) (N2:Own),dt 2 204 RP (eJ (nV g) (yB g) i (q+1)) v2 N2/\D O K (N0++(N1++(N2++(B++((b3,.row [.int .i64 (.ofNat i),.int .i64 (.ofNat q)] 204 false)::(b2,.row [v0,v1,v2,C] 249 false)::(b1,.row [J,.av,J,.av,J,.av,J,.av] 151 false)::L)))))) ?_ ?_
   ·refine Qg 5 Z<|gw Z (Rx Z Z Z) (fun _=>Z) (Pb hG hv hR hin hqn ar) (fun ap O ar=>?_) (fun ap O ar=>?_)
    ·refine Qj 4 Z<|Y Z (fm (e:=200) (m:=1) (n:=4) (j:=2) U U Z Z (by decide)) Z<|Y Z (Rz Z ar.bA.bA.bA.bA.pop.g0 Z) Z<|Y Z (RB Z ar.bA.bA.bA.bA.g0 (n:=2) (vs:=[_,_]) Z) Z<|fY ar Z (cm (e:=204) (m:=2) (z:=[J,J]) (cs:=[_,_]) U U U U<|bj Z Z Z Z bO) (fun _=>Z) (fun O b4 ar=>?_);replace ar:=ar.pull (.there (.dv (.dv<|cX.here (X:=E))));replace ar:=ar.pull (.dv<|cX.here (X:=[_]));rw[List.singleton_append] at ar;refine kY (R:=RP) (m:=2) (e:=204) hO2 ar (fV (m:=2) Z (show RP (i,q) [.int .i64 (.ofNat i),.int .i64 (.ofNat q)] from Z)) RP.leaf (by have:=kf (n:=nV g) (R:=yB g) (i:=i) (q:=q);have:i*nV g<=62*62:=Nat.mul_le_mul oM hvl;show _+1<=_;omega) Z Z Z Z Z Z Z (fun _=>Z) (fun O br a2 hO54 ar=>?_);refine Y Z (fm (e:=200) (m:=1) (n:=4) (j:=2) U U Z Z (by decide)) Z<|ei ar (.dv (.dv (.dv (.dv (.there .here))))) Z (aK Z Z hO54.leaf.1 ar.bA.bA.bA.bA.pop.g0 (m:=1) U Z (lb Z) (af hO54.leaf.2 aA) (cells':=[_,_,_,_]) Z) Z (fun O ar=>?_);refine ah ?_;replace ar:=ar.pull (.dv (.dv (.dv (.dv<|cX.here (X:=[_])))));rw[List.singleton_append] at ar;replace ar:=ar.pull (.there (.dv (.dv (.dv<|cX.here (X:=B)))));replace ar:=ar.pull (.dv (.there<|cX.here (X:=a2)));replace ar:=ar.pull (.dv (.dv (.there (.dv<|cX.here (X:=N1)))));replace ar:=ar.pull (.dv (.dv (.dv (.there<|cX.here (X:=N0)))));exact⟨Z,oF,br,a2,(kh ap ▸ hO54),ar⟩
    refine Qi 3 Z<|aH ?_;exact⟨Z,oP Z<|oP Z<|oP Z<|oP Z<|oR _ _,F,E,(lP ap ▸ hO2),ar⟩
   clear ar;intro t O aq hI;obtain⟨v2,N2,hP2,ar⟩:=hI;obtain⟨oo,rfl⟩:=aq.q0 Z;refine Qg 5 Z<|gw Z (Rx Z Z Z) (fun _=>Z) (Qq hG hv hR hin hqn ar) (fun aE O ar=>?_) (fun aE O ar=>?_)
   ·refine Qj 4 Z<|Y Z (fm (e:=200) (m:=1) (n:=4) (j:=3) U U Z Z (by decide)) Z<|Y Z (Rz Z ar.bA.bA.bA.bA.pop.g0 Z) Z<|Y Z (RB Z ar.bA.bA.bA.bA.g0 (n:=2) (vs:=[_,_]) Z) Z<|fY ar Z (cm (e:=204) (m:=2) (z:=[J,J]) (cs:=[_,_]) U U U U<|bj Z Z Z Z bO) (fun _=>Z) (fun O b4 ar=>?_);replace ar:=ar.pull (.there (.dv (.dv (.dv<|cX.here (X:=B)))));replace ar:=ar.pull (.dv<|cX.here (X:=[_]));rw[List.singleton_append] at ar;refine kY (R:=RP) (m:=2) (e:=204) hO3 ar (fV (m:=2) Z (show RP (i,q) [.int .i64 (.ofNat i),.int .i64 (.ofNat q)] from Z)) RP.leaf (by have:=kf (n:=nV g) (R:=DW g) (i:=i) (q:=q);have:i*nV g<=62*62:=Nat.mul_le_mul oM hvl;show _+1<=_;omega) Z Z Z Z Z Z Z (fun _=>Z) (fun O u64 a3 hO64 ar=>?_);refine Y Z (fm (e:=200) (m:=1) (n:=4) (j:=3) U U Z Z (by decide)) Z<|ei ar (.dv (.dv (.dv (.dv (.there .here))))) Z (aK Z Z hO64.leaf.1 ar.bA.bA.bA.bA.pop.g0 (m:=1) U Z (lb Z) (af hO64.leaf.2 aA) (cells':=[_,_,_,_]) Z) Z (fun O ar=>?_);refine ah<|aG<|ad<|ai Z ?_;replace ar:=ar.pull (.dv (.dv (.dv (.dv<|cX.here (X:=[_])))));rw[List.singleton_append] at ar;replace ar:=ar.pull (.there<|cX.here (X:=a3));replace ar:=ar.pull (.dv (.there (.dv (.dv<|cX.here (X:=N2)))));replace ar:=ar.pull (.dv (.dv (.there (.dv<|cX.here (X:=N1)))));replace ar:=ar.pull (.dv (.dv (.dv (.there<|cX.here (X:=N0)))));replace ar:=ar.sub (eO<|eO<|eO<|eO (.cons _ (.cons_cons _ (.cons_cons _ (.refl _)))));refine QU 4 Z<|aL ⟨j6-1,by omega,oF,q+1,v0,v1,v2,u64,N0,N1,N2,a3,by omega,hP0,hP1,hP2,(kh aE ▸ hO64),cI<|aY oM,ar⟩
   refine PG 5 Z<|ad<|ai Z ?_;replace ar:=ar.sub (eO<|eO<|eO<|eO (.cons _ (.cons_cons _ (.cons_cons _ (.refl _)))));refine QU 4 Z<|aL ⟨j6-1,by omega,oF,q+1,v0,v1,v2,C,N0,N1,N2,B,by omega,hP0,hP1,hP2,(lP aE ▸ hO3),cI<|aY oM,ar⟩
  refine PC 3 Z<|aS<|aG<|QR 5 Z ?_;have hlp:=bk aa;have bs:q=nV g:=by have:=bz ac;omega
  subst bs;refine aL ⟨j3-1,by omega,oF,i+1,S,Q,F,C,T,M1,E,B,by omega,(kg ▸ hO0),(kg ▸ hO1),(kg ▸ hO2),(kg ▸ hO3),cI<|aY oM,ar⟩
 refine PC 3 Z (aS (ad (ak (aQ (l:=[(0,[]),(1,[]),(2,[]),(3,[]),(4,[]),(5,[]),(7,[]),(8,[]),(9,[]),(10,[]),(11,[]),(12,[]),(14,[]),(15,[]),(16,[]),(17,[]),(18,[]),(19,[]),(21,[]),(22,[]),(23,[]),(24,[]),(25,[]),(26,[]),(6,[10,12,17,19,24,26]),(13,[17,19,24,26]),(20,[24,26]),(27,[]),(28,[]),(29,[])]) U U ?_))));have bt:i=nV g:=by have:=bz aa;omega
 subst bt;rw[pU] at hO0 hO1 hO2 hO3;obtain⟨W,ab,bv,bw,b0,b5,ar⟩:=ar.OM;replace hv:=hv.mono ab;have hs0:=hO0.gL (K:=W) fun y hy=>bv y hy
 have hs1:=hO1.gL (K:=W) fun y hy=>bw y hy
 have hs2:=hO2.gL (K:=W) fun y hy=>b0 y hy
 have hs3:=hO3.gL (K:=W) fun y hy=>b5 y hy
 refine wQ 1 Z<|aj Z Z (cz Z) Z<|aj Z Z (Ry 6 Z) Z<|aj Z Z (Rz Z (ar.da hv.row) Z) Z<|aj Z Z (fm (e:=200) (m:=1) (n:=4) (j:=0) U U Z Z (by decide)) Z<|QZ ar 2 [0] Z Z<|aj Z Z (cz Z) Z<|aj Z Z (Ry 6 Z) Z<|aj Z Z (Rz Z (ar.da hv.row) Z) Z<|aj Z Z (fm (e:=200) (m:=1) (n:=4) (j:=1) U U Z Z (by decide)) Z<|QZ ar 2 [0] Z Z<|aj Z Z (cz Z) Z<|aj Z Z (Ry 6 Z) Z<|aj Z Z (Rz Z (ar.da hv.row) Z) Z ?_;refine aj Z Z (fm (e:=200) (m:=1) (n:=4) (j:=2) U U Z Z (by decide)) Z<|QZ ar 2 [0] Z Z<|aj Z Z (cz Z) Z<|aj Z Z (Ry 6 Z) Z<|aj Z Z (Rz Z (ar.da hv.row) Z) Z<|aj Z Z (fm (e:=200) (m:=1) (n:=4) (j:=3) U U Z Z (by decide)) Z<|aj Z Z (Rz Z ar.g0 Z) Z<|fF Z Z (Rx Z Z Z) (fun _=>Z) (Ho hG (n:=nV g) oM hs0 pV ar) ?_;rintro _ O ⟨c0,rfl,ar⟩;obtain⟨Kq0,d,a4,ar⟩:=D.cA (M:=[_]) ar;have hq0:=fK (a4 _<|mS_ ..) (cM (nV g) _) oM;rw[nG] at hq0;replace hs1:=hs1.mono d fun _ _ h=>h
 replace hs2:=hs2.mono d fun _ _ h=>h
 replace hs3:=hs3.mono d fun _ _ h=>h
 replace hv:=hv.mono d;have hleA0:=KP.le_trans ab d;refine⟨(bu (bG Z Z Z Z Z (Rz Z (ar.da hv.row) Z)<|eG _ _)<|bu (bG Z Z Z Z Z (Rz Z ar.g0 Z) hs1.eB)<|bu (bG Z Z Z Z Z (Rz Z (ar.da hv.row) Z)<|eG _ _)<|bu (bG Z Z Z Z Z (Rz Z ar.g0 Z) hs2.eB)<|bu (bG Z Z Z Z Z (Rz Z (ar.da hv.row) Z)<|eG _ _)<|bu (bG Z Z Z Z Z (Rz Z ar.g0 Z) hs3.eB) aX),?_⟩;refine fF Z Z (Rx Z Z Z) (fun _=>Z) (Ho hG (n:=nV g) oM hs1 pV ar) ?_;rintro _ O ⟨c1,rfl,ar⟩;obtain⟨Kq1,u,a5,ar⟩:=D.cA (M:=[_]) ar;have hq1:=fK (a5 _<|mS_ ..) (cM (nV g) _) oM;rw[nG] at hq1;replace hq0:=hq0.mono u fun _ _ h=>h
 replace hs2:=hs2.mono u fun _ _ h=>h
 replace hs3:=hs3.mono u fun _ _ h=>h
 replace hv:=hv.mono u;have hleA1:=KP.le_trans hleA0 u;refine⟨(bu (bG Z Z Z Z Z (Rz Z (ar.da hv.row) Z)<|eG _ _)<|bu (bG Z Z Z Z Z (Rz Z ar.g0 Z) hs2.eB)<|bu (bG Z Z Z Z Z (Rz Z (ar.da hv.row) Z)<|eG _ _)<|bu (bG Z Z Z Z Z (Rz Z ar.g0 Z) hs3.eB) aX),?_⟩;refine fF Z Z (Rx Z Z Z) (fun _=>Z) (Ho hG (n:=nV g) oM hs2 pV ar) ?_;rintro _ O ⟨c2,rfl,ar⟩;obtain⟨Kq2,w,ba,ar⟩:=D.cA (M:=[_]) ar;have hq2:=fK (ba _<|mS_ ..) (cM (nV g) _) oM;rw[nG] at hq2;replace hq0:=hq0.mono w fun _ _ h=>h
 replace hq1:=hq1.mono w fun _ _ h=>h
 replace hs3:=hs3.mono w fun _ _ h=>h
 replace hv:=hv.mono w;have hleA2:=KP.le_trans hleA1 w;refine⟨(bu (bG Z Z Z Z Z (Rz Z (ar.da hv.row) Z)<|eG _ _)<|bu (bG Z Z Z Z Z (Rz Z ar.g0 Z) hs3.eB) aX),?_⟩;refine fF Z Z (Rx Z Z Z) (fun _=>Z) (Ho hG (n:=nV g) oM hs3 pV ar) ?_;rintro _ O ⟨c3,rfl,ar⟩;obtain⟨Kq3,A,bb,ar⟩:=D.cA (M:=[_]) ar;have hq3:=fK (bb _<|mS_ ..) (cM (nV g) _) oM;rw[nG] at hq3;replace hq0:=hq0.mono A fun _ _ h=>h
 replace hq1:=hq1.mono A fun _ _ h=>h
 replace hq2:=hq2.mono A fun _ _ h=>h
 replace hv:=hv.mono A;have hleA3:=KP.le_trans hleA2 A;refine⟨aX,?_⟩;refine aj Z Z (Rw (places:=[(0,2),(2,2),(4,2),(6,2)]) (zero:=[J,.av,J,.av,J,.av,J,.av]) (cs:=[_,_,_,_,_,_,_,_]) Z) Z<|k9 ar Z Z (RG Z Z Z ar.g1 (m:=8) Z (af Z<|af hq0.leaf.2<|af Z<|af hq1.leaf.2<|af Z<|af hq2.leaf.2<|af Z<|af hq3.leaf.2 aA) (cells':=[_,_,_,_,_,_,_,_]) Z) Z (fun O ar=>?_);refine⟨aX,?_⟩;refine Qm 3 Z ?_;exact eQ Z Z ar.g1 (m:=8) U Z ⟨_,_,_,_,_,Z,hleA3,hq0,hq1,hq2,hq3,ar.pop.pop⟩
end Go.Ev
namespace Go.Ev
variable [Env]
set_option maxRecDepth 20000
def py (g:XG) (w:Nat):Bool:=bif bd (ez g w) then bf (H (ez g w).order 1) else false
def kP (g:XG) (w b:Nat):Bool:=bif cD (ez g b) then(bif H (ez g b).order 1 then false else vu g w (kS g b).toNat) else false
def jo (g:XG) (w r:Nat):Bool:=bif ED g r then(bif H (.ofNat r) (.ofNat w) then true else bif H (ez g r).kind 4 then rD g r w else false) else false
def fT (g:XG) (b a:Nat):Bool:=bif Dj g a then(bif H (.ofNat a) (.ofNat b) then true else bif H (ez g a).kind 4 then rD g b a else false) else false
def l9 {α:Type} (c:Nat->Bool) (f:Nat->List α):Nat->List α
 | 0=>[]
 | k+1=>l9 c f k++(bif c k then f k else [])
def l4 (g:XG) (b r k:Nat):List (Nat×Nat):=l9 (fT g b) (fun a=>[(r,a)]) k
def l3 (g:XG) (w b k:Nat):List (Nat×Nat):=l9 (jo g w) (fun r=>l4 g b r (nV g)) k
def l2 (g:XG) (w k:Nat):List (Nat×Nat):=l9 (kP g w) (fun b=>l3 g w b (nV g)) k
def l1 (g:XG) (k:Nat):List (Nat×Nat):=l9 (py g) (fun w=>l2 g w (nV g)) k
theorem iQ {α:Type} {c:Nat->Bool} {f:Nat->List α} {x:α}:∀{k:Nat},x∈l9 c f k↔∃i,i<k/\c i=true/\x∈f i
 | 0=>⟨(fun h=>by cases h),fun⟨i,h,_⟩=>absurd h<|nZ_ _⟩
 | k+1=>by
  unfold l9;rw[List.mem_append,iQ (k:=k)];constructor
  ·rintro (⟨i,h1,d,h3⟩ | h)
   ·exact⟨i,by omega,d,h3⟩
   cases u:c k with
   | false=>rw[u] at h;cases h
   | true=>rw[u] at h;exact⟨k,by omega,u,h⟩
  rintro ⟨i,h1,d,h3⟩;rcases Nat.lt_or_ge i k with h | h
  ·exact .inl ⟨i,h,d,h3⟩
  obtain rfl:i=k:=by omega
  exact .inr (by rw[d];exact h3)
theorem qy {α:Type} {c:Nat->Bool} {f:Nat->List α} {m:Nat} (h:∀i,c i=true->(f i).length<=m):∀{k:Nat},(l9 c f k).length<=iD k c*m
 | 0=>Nat.zero_le _
 | k+1=>by
  unfold l9;have ih:=qy (c:=c) (f:=f) h (k:=k)
  have u:iD (k+1) c=iD k c+(bif c k then 1 else 0):=by
   unfold iD;rw[List.range_succ,List.filter_append,lA_];cases d:c k<;>simp[d]
  rw[lA_,u];cases d:c k with
  | false=>simpa using ih
  | true=>
   have:=h k d;simp only[cond_true,Nat.add_mul,Nat.one_mul];omega
def KG (g:XG):Rn:=Cl (l1 g<|nV g)
theorem Gg {g:XG} {r a:Nat}:KG g r a=true↔∃w b,w<nV g/\b<nV g/\r<nV g/\a<nV g/\py g w=true/\kP g w b=true/\jo g w r=true/\fT g b a=true:=by
 unfold KG;rw[Ak];unfold l1;rw[iQ];constructor
 ·rintro ⟨w,hw,cw,h⟩;obtain⟨b,hb,cb,h⟩:=iQ.1 h;obtain⟨r',d,cr,h⟩:=iQ.1 h;obtain⟨a',u,ca,h⟩:=iQ.1 h;cases List.mem_singleton.1 h;exact⟨w,b,hw,hb,d,u,cw,cb,cr,ca⟩
 rintro ⟨w,b,hw,hb,d,u,cw,cb,cr,ca⟩;exact⟨w,hw,cw,iQ.2 ⟨b,hb,cb,iQ.2 ⟨r,d,cr,iQ.2 ⟨a,u,ca,List.mem_singleton.2 Z⟩⟩⟩⟩
theorem OO {g:XG}:∀p∈l1 g (nV g),p.1<nV g/\p.2<nV g:=fun⟨r,a⟩ h=>by
 obtain⟨_,_,_,_,d,u,_⟩:=Gg.1 (Ak.2 h:KG g r a=true);exact⟨d,u⟩
theorem FI:∀{l:List (List bW)} {t T:Nat},T<t+1->(mh l t).filter (fun id=>H id.cH (.ofNat T))= []
 | [],_,_,_=>rfl
 | r::l,t,T,h=>by
  unfold mh;rw[List.filter_append,FI oM,List.append_nil,List.filter_eq_nil_iff];intro a d;obtain⟨k,_,rfl⟩:=List.mem_map.1 d;simp only[eh,decide_eq_true_eq];omega
theorem B6:∀{l:List (List bW)} {t T:Nat},(∀r∈l,r.length<=14)->((mh l t).filter (fun id=>H id.cH (.ofNat T))).length<=14
 | [],_,_,_=>Nat.zero_le _
 | r::l,t,T,h=>by
  unfold mh;rw[List.filter_append,lA_];rcases Nat.lt_or_ge T (t+2) with hT | hT
  ·rw[FI (l:=l) (t:=t+1) (T:=T) oM];have h1:=List.length_filter_le (fun id:bT=>H id.cH (.ofNat T)) ((List.range r.length).map fun i=>(⟨.ofNat (t+1),.ofNat i⟩:bT));rw[lM_,List.length_range] at h1;have:=h r (mS_ ..);simp only[List.length_nil,Nat.add_zero];omega
  have:((List.range r.length).map fun i=>(⟨.ofNat (t+1),.ofNat i⟩:bT)).filter (fun id=>H id.cH (.ofNat T))= []:=by
   rw[List.filter_eq_nil_iff];intro a d;obtain⟨k,_,rfl⟩:=List.mem_map.1 d;simp only[eh,decide_eq_true_eq];omega
  rw[this];have:=B6 (l:=l) (t:=t+1) (T:=T) fun r u=>h r (mC_ _ u)
  simpa using this
theorem Ll {g:XG}:ie g=(List.range<|nV g).map (ep g):=by
 refine List.ext_getElem? fun i=>?_
 by_cases hi:i<nV g
 ·rw[eT hi,gM_,List.getElem?_range hi];rfl
 rw[gN_<|Nat.le_of_not_lt hi,gN_ (by simpa using Nat.le_of_not_lt hi)]
theorem xJ {g:XG} (d:dD g) (T:Nat):iD (nV g) (fun a=>H (ep g a).cH (.ofNat (T+1)))<=14:=by
 have h1:((ie g).filter (fun id=>H id.cH (.ofNat (T+1)))).length<=14:=by
  unfold ie;rw[List.filter_append,lA_]
  have:((List.range g.init.length).map fun i=>(⟨0,.ofNat i⟩:bT)).filter (fun id=>H id.cH (.ofNat (T+1)))= []:=by
   rw[List.filter_eq_nil_iff];intro a u;obtain⟨k,_,rfl⟩:=List.mem_map.1 u;show¬H (.ofNat 0) (.ofNat (T+1))=true;simp only[eh,decide_eq_true_eq];omega
  rw[this]
  have:=B6 (l:=g.threads) (t:=0) (T:=T+1) fun r z=>by
   obtain⟨i,hi⟩:=gO_ z;exact d.short i r hi
  simpa using this
 rw[Ll,List.filter_map,lM_] at h1;exact h1
theorem Ih {n:Nat} {p q r:Nat->Bool} (h:∀i,i<n->p i=true->q i=true∨r i=true):iD n p<=iD n q+iD n r:=by
 unfold iD
 have:∀l:List Nat,(∀i∈l,p i=true->q i=true∨r i=true)->(l.filter p).length<=(l.filter q).length+(l.filter r).length:=by
  intro l;induction l with
  | nil=>intro _;simp
  | cons x l ih=>
   intro hl;have ih:=ih fun i hi=>hl i (mC_ _ hi)
   have hx:=hl x (mS_ ..);simp only[List.filter_cons];cases hp:p x<;>cases hq:q x<;>cases hr:r x<;>simp_all<;>omega
 exact this _ fun i hi=>h i (List.mem_range.1 hi)
theorem Fs {n w:Nat}:iD n (fun i=>H (.ofNat i) (.ofNat w))<=1:=by
 induction n with
 | zero=>exact Nat.zero_le _
 | succ n ih=>
  have u:iD (n+1) (fun i=>H (.ofNat i) (.ofNat w))=iD n (fun i=>H (.ofNat i) (.ofNat w))+(bif H (.ofNat n) (.ofNat w) then 1 else 0):=by
   unfold iD;rw[List.range_succ,List.filter_append,lA_];cases d:H (.ofNat n) (.ofNat w)<;>simp only[List.filter_cons,List.filter_nil,d,cond_true,cond_false,Bool.false_eq_true,if_false,if_true,List.length_nil,List.length_cons]
  rw[u];cases d:H (.ofNat n) (.ofNat w) with
  | false=>simpa using ih
  | true=>
   have hn:n=w:=by rw[eh] at d;simpa using d
   have:iD n (fun i=>H (.ofNat i) (.ofNat w))=0:=by
    unfold iD;rw[List.length_eq_zero_iff,List.filter_eq_nil_iff];intro i hi;have:=List.mem_range.1 hi;simp only[eh,decide_eq_true_eq];omega
   rw[this];simp
theorem z6 {g:XG} {i:Nat} (hi:i<nV g) (h:H (ez g i).kind 2=false):∃T:Nat,(ep g i).cH= .ofNat (T+1):=by
 rcases jv hi with ⟨x,v,h1,h2,h3⟩ | ⟨t,k,row,e,h1,_⟩
 ·rw[h3] at h;exact Bool.noConfusion (show true=false from h)
 exact⟨t,by rw[h1]⟩
theorem G6 {e:bW} {n:Int} (h:H e.kind n=true) (d:n≠2):H e.kind 2=false:=by
 rw[dK] at h⊢;have:e.kind=n:=by simpa using h
 rw[this];simp[d]
theorem FX {g:XG} {i j T:Nat} (hi:(ep g i).cH= .ofNat (T+1)) (h:rD g i j=true):(ep g j).cH= .ofNat (T+1):=by
 unfold rD at h;rw[hi] at h;have e1:H (.ofNat (T+1)) 0=false:=rfl;rw[e1] at h;simp only[cond_false] at h;cases d:cq 0 (.ofNat (T+1)) with
 | false=>rw[d] at h;cases h
 | true=>
  rw[d] at h;simp only[cond_true] at h;cases h3:H (.ofNat (T+1)) (ep g j).cH with
  | false=>rw[h3] at h;cases h
  | true=>rw[dK] at h3;exact(of_decide_eq_true h3).symm
theorem PY {g:XG} (z:dD g) {b:Nat} (hb:b<nV g) (d:cD (ez g b)=true):iD (nV g) (fT g b)<=15:=by
 obtain⟨T,hT⟩:∃T:Nat,(ep g b).cH= .ofNat (T+1):=by
  rcases jv hb with ⟨x,v,h1,u,h3⟩ | ⟨t,k,row,e,h1,_⟩
  ·rw[h3] at d;exact Bool.noConfusion (show false=true from d)
  exact⟨t,by rw[h1]⟩
 refine Nat.le_trans (Ih (q:=fun a=>H (.ofNat a) (.ofNat b)) (r:=fun a=>H (ep g a).cH (.ofNat (T+1))) fun a ha h=>?_)<|Nat.add_le_add Fs<|xJ z T;unfold fT at h;cases h1:Dj g a with
 | false=>rw[h1] at h;cases h
 | true=>
 rw[h1] at h;simp only[cond_true] at h;cases u:H (.ofNat a) (.ofNat b) with
 | true=>exact .inl Z
 | false=>
 rw[u] at h;simp only[cond_false] at h;cases h3:H (ez g a).kind 4 with
 | false=>rw[h3] at h;cases h
 | true=>
  rw[h3] at h;exact .inr (by rw[FX hT h];exact dL _)
theorem OA {g:XG} (z:dD g) {w:Nat} (hw:w<nV g):iD (nV g) (jo g w)<=15:=by
 refine Nat.le_trans (Ih (q:=fun a=>H (.ofNat a) (.ofNat w)) (r:=fun a=>bif H (ez g a).kind 4 then rD g a w else false) fun a d h=>?_) ?_
 ·unfold jo at h;cases h1:ED g a with
  | false=>rw[h1] at h;cases h
  | true=>
  rw[h1] at h;simp only[cond_true] at h;cases u:H (.ofNat a) (.ofNat w) with
  | true=>exact .inl Z
  | false=>rw[u] at h;exact .inr h
 refine Nat.le_trans (Nat.add_le_add Fs (?_:_<=14)) (by decide)
 by_cases hex:∃a,a<nV g/\(bif H (ez g a).kind 4 then rD g a w else false)=true
 ·obtain⟨a,d,h⟩:=hex
  have fen:∀{a},a<nV g->(bif H (ez g a).kind 4 then rD g a w else false)=true->∃T:Nat,(ep g a).cH= .ofNat (T+1)/\(ep g w).cH= .ofNat (T+1):=by
   intro a d h;cases h3:H (ez g a).kind 4 with
   | false=>rw[h3] at h;cases h
   | true=>
    rw[h3] at h;obtain⟨T,hT⟩:=z6 d (G6 h3 (by decide));exact⟨T,hT,FX hT h⟩
  obtain⟨T,_,hT⟩:=fen d h;refine Nat.le_trans (filter_lt fun x hx hp=>?_).1<|xJ z T;obtain⟨T',h1,u⟩:=fen (List.mem_range.1 hx) hp;have:T'=T:=by rw[hT] at u;have:=iJ_ u;omega
  rw[h1,this];exact dL _
 have:iD (nV g) (fun a=>bif H (ez g a).kind 4 then rD g a w else false)=0:=by
  unfold iD;rw[List.length_eq_zero_iff,List.filter_eq_nil_iff];exact fun a d h=>hex ⟨a,List.mem_range.1 d,h⟩
 omega
theorem qz {α:Type} {c:Nat->Bool} {f:Nat->List α} {k:Nat} (h:c k=true):l9 c f (k+1)=l9 c f k++f k:=by rw[l9,h];rfl
theorem sP {α:Type} {c:Nat->Bool} {f:Nat->List α} {k:Nat} (h:c k=false):l9 c f (k+1)=l9 c f k:=by rw[l9,h];exact List.append_nil _
section
variable {g:XG} {w b r a:Nat} {X Y0 Zv:List (Nat×Nat)}
theorem PM (h:fT g b a=true):(X++(Y0++(Zv++l4 g b r a)))++[(r,a)]=X++(Y0++(Zv++l4 g b r (a+1))):=by
 rw[show l4 g b r (a+1)=l4 g b r a++[(r,a)] from qz h];simp only[lQ_]
theorem Ol (h:fT g b a=false):X++(Y0++(Zv++l4 g b r a))=X++(Y0++(Zv++l4 g b r (a+1))):=by rw[show l4 g b r (a+1)=l4 g b r a from sP h]
theorem Q1 (h:jo g w r=true):X++(Y0++(l3 g w b r++l4 g b r (nV g)))=X++(Y0++l3 g w b (r+1)):=by rw[show l3 g w b (r+1)=l3 g w b r++l4 g b r (nV g) from qz h]
theorem Qy (h:jo g w r=false):X++(Y0++l3 g w b r)=X++(Y0++l3 g w b (r+1)):=by rw[show l3 g w b (r+1)=l3 g w b r from sP h]
theorem Rv (h:kP g w b=true):X++(l2 g w b++l3 g w b (nV g))=X++l2 g w (b+1):=by rw[show l2 g w (b+1)=l2 g w b++l3 g w b (nV g) from qz h]
theorem Qw (h:kP g w b=false):X++l2 g w b=X++l2 g w (b+1):=by rw[show l2 g w (b+1)=l2 g w b from sP h]
theorem Q0 (h:py g w=true):l1 g w++l2 g w (nV g)=l1 g (w+1):=by rw[show l1 g (w+1)=l1 g w++l2 g w (nV g) from qz h]
theorem Qv (h:py g w=false):l1 g w=l1 g (w+1):=by rw[show l1 g (w+1)=l1 g w from sP h]
theorem JL {i:Nat} (h:cD (ez g i)=true):i<nV g:=by
 rcases Nat.lt_or_ge i (nV g) with hi | hi
 ·exact hi
 have e1:ep g i=⟨0,0⟩:=by unfold ep;rw[gN_ hi];rfl
 unfold ez at h;rw[e1] at h;have d:cZ g ⟨0,0⟩=(g.init[0]?).map fun v=>(⟨2,(0:Nat),1,0,v⟩:bW):=rfl
 rw[d] at h;cases h3:g.init[0]? with
 | none=>rw[h3] at h;exact Bool.noConfusion (show false=true from h)
 | some v=>rw[h3] at h;exact Bool.noConfusion (show false=true from h)
theorem Ie {p:Nat->Bool} {k n:Nat} (h:k<=n):iD k p<=iD n p:=by
 unfold iD;exact((List.range_sublist.2 h).filter p).length_le
theorem I1 (u:dD g) (d:cD (ez g b)=true) {k:Nat} (hk:k<=nV g):(l4 g b r k).length<=15:=by
 have h1:=qy (c:=fT g b) (f:=fun a=>[(r,a)]) (m:=1) (fun _ _=>nR_ _) (k:=k);have h2:=PY u (JL d) d;have h3:=Ie (p:=fT g b) hk;unfold l4;omega
theorem I0 (d:dD g) (hw:w<nV g) (u:cD (ez g b)=true) {k:Nat} (hk:k<=nV g):(l3 g w b k).length<=225:=by
 have h1:=qy (c:=jo g w) (f:=fun r=>l4 g b r<|nV g) (m:=15) (fun _ _=>I1 d u (nR_ _)) (k:=k);have h2:=OA d hw;have h3:=Ie (p:=jo g w) hk;unfold l3;omega
theorem uB (h:kP g w b=true):cD (ez g b)=true:=by
 unfold kP at h;cases d:cD (ez g b) with
 | true=>rfl
 | false=>rw[d] at h;cases h
theorem IZ (d:dD g) (hw:w<nV g) {k:Nat} (hk:k<=nV g):(l2 g w k).length<=13950:=by
 have h1:=qy (c:=kP g w) (f:=fun b=>l3 g w b<|nV g) (m:=225) (fun _ h=>I0 d hw (uB h) (nR_ _)) (k:=k);have h2:=Fq k (kP g w);have h3:=pN d;unfold l2;omega
theorem Np (d:dD g) {k:Nat} (hk:k<=nV g):(l1 g k).length<=864900:=by
 have key:∀k,k<=nV g->(l1 g k).length<=k*13950:=by
  intro k;induction k with
  | zero=>intro _;exact Nat.zero_le _
  | succ k ih=>
   intro hk;have ih:=ih oM;cases u:py g k with
   | true=>
    rw[<-Q0 u,lA_];have:=IZ d (w:=k) oM (nR_<|nV g);omega
   | false=>rw[<-Qv u];exact Nat.le_trans ih<|nM_ _<|Nat.le_succ k
 have h1:=key k hk;have h3:=pN d;omega
theorem AM (u:dD g) (hw:w<nV g) (hb:b<nV g) (hr:r<nV g) (ha:a<nV g) (d:cD (ez g b)=true):(l1 g w++(l2 g w b++(l3 g w b r++l4 g b r a))).length+1<=1000000:=by
 simp only[lA_];have h1:=Np u (k:=w) oM;have h2:=IZ u hw (k:=b) oM;have h3:=I0 u hw d (k:=r) oM;have h4:=I1 u d (r:=r) (k:=a) oM;omega
end
end Go.Ev
namespace Go.Ev
variable [Env]
open Go.Proofs
set_option maxRecDepth 4000
set_option maxHeartbeats 8000000
theorem Qs {G:Cx} (hG:Plain G) {K:KP} {g:XG} {b:Nat} {va vb vc vd iv ev:V} (hv:oX K g b va vb vc vd iv ev) (hR:dD g) {O:N} {L:Own} (ar:D O K L):
  a8 Tryz.prog G 150 [.ptr b 0] O fun u O'=>∃K1 c,KP.le K K1/\u= .agg [.int .i64 (.ofNat<|nV g),.slice c 0 (nV g) (.known<|nV g)]/\D O' K1 ((c,.row ((bB (nV g)<|KG g).map gU) 194 false)::L):=by
 have hvl:=pN hR;refine QO hG Tryz.func150 Z<|Qg 2 Z<|kp ar Z (RD (cs:=[J,.av])) (fun O b1 ar=>?_);refine O3 14 Z (bh (rg 3 139) (fun j t O=>∃(w:Nat) (u:V) (M:Own),j+w=nV g/\dt 2 204 RP (l1 g w) u M/\t.get 3=some (u)/\t.get 4=some (.int .i64 (.ofNat w))/\D O K (M++(b1,.row [J,.av] 149 false)::L)) (nV g) ⟨0,_,[],Z,.inl ⟨Z,Z,Z⟩,Z,Z,ar⟩ ?_);clear ar;intro j3 t O aq hI;obtain⟨w,u,M,c4,hO,W,ci,ar⟩:=hI;obtain⟨oo,rfl⟩:=aq.q2 W ci Z;refine Pz 5 Z<|Y Z (cz Z) Z<|Y Z (Ry 6 Z) Z<|Y Z (Rz Z (ar.da hv.row) Z) Z<|Qi 3 Z<|aF Z (fun a2=>?_) (fun a2=>?_)
 ·refine Oi 5 Z<|Qg 2 Z ?_;have hwn:=bk a2;refine QV 2 Z<|gw Z (Rx Z Z Z) (fun _=>Z) (xm hG hv hwn ar) (fun aE O ar=>?_) (fun aE O ar=>?_)
  ·refine Y Z (dq Z) Z<|QV 2 Z<|Y Z (cz Z) Z<|Y Z (Ry 5 Z) Z<|Y Z (Rz Z (ar.da hv.row) Z) Z<|vQ 1 Z<|Rr (e:=56) (m:=5) hv.lO (gd hwn) Z Z Z Z (fun c5 cv bv cx bw=>?_);obtain rfl:=bw;refine bJ bv Z Z Z (k:=2) U (lb Z) (fun _=>Z) (fun c7 b0=>?_);refine Y Z (RE ar b0 Z Z) Z<|Qi 4 Z<|aF Z (fun a3=>?_) (fun a3=>?_)
   ·refine bg<|aU<|aS<|QR 5 Z ?_;have cw:py g w=false:=by unfold py bf;rw[aE,show H (ez g w).order 1=true from a3];rfl
    refine aL ⟨j3-1,by omega,oF,w+1,u,M,by omega,(Qv cw ▸ hO),Z,cI<|aY oM,ar⟩
   refine PB 6 Z ?_;have cw:py g w=true:=by unfold py bf;rw[aE,show H (ez g w).order 1=false from a3];rfl
   refine bc Z (Rx Z Z Z) (fun _=>Z) (EC hG hv hR hwn ar) (fun O ar=>?_);refine PD 9 Z (bh ([3,6,7,8]++rg 35 107) (fun j t O=>∃(bb:Nat) (u2:V) (M2:Own),j+bb=nV g/\dt 2 204 RP (l1 g w++l2 g w bb) u2 M2/\t.get 3=some (u2)/\t.get 6=some (.int .i64 (.ofNat bb))/\D O K (M2++(b1,.row [J,.av] 149 false)::L)) (nV g) ⟨0,u,M,Z,(by rw[show l2 g w 0= [] from Z,List.append_nil];exact hO),Z,Z,ar⟩ ?_);clear ar;intro j8 t O aq hI;obtain⟨bb,u2,M2,c8,hO2,W,ck,ar⟩:=hI;obtain⟨oo,rfl⟩:=aq.q2 W ck Z;refine Pz 5 Z<|Y Z (cz Z) Z<|Y Z (Ry 6 Z) Z<|Y Z (Rz Z (ar.da hv.row) Z) Z<|Qi 3 Z<|aF Z (fun a4=>?_) (fun a4=>?_)
   ·refine Oi 5 Z<|Qg 2 Z ?_;have hbn:=bk a4;refine QV 2 Z<|gw Z (Rx Z Z Z) (fun _=>Z) (Av hG hv hbn ar) (fun T O ar=>?_) (fun T O ar=>?_)
    ·refine Y Z (dq Z) Z<|QV 2 Z<|Y Z (cz Z) Z<|Y Z (Ry 5 Z) Z<|Y Z (Rz Z (ar.da hv.row) Z) Z<|vQ 1 Z<|Rr (e:=56) (m:=5) hv.lO (gd hbn) Z Z Z Z (fun c9 cH b3 c0 b4=>?_);obtain rfl:=b4;refine bJ b3 Z Z Z (k:=2) U (lb Z) (fun _=>Z) (fun dd b5=>?_);refine Y Z (RE ar b5 Z Z) Z<|QV 2 Z<|ky Z (an Z) (fun a0=>?_) (fun a0=>?_)
     ·refine PI 14 Z<|aS<|QR 5 Z ?_;have cb:kP g w bb=false:=by unfold kP;rw[T,show H (ez g bb).order 1=true from a0];rfl
      refine aL ⟨j8-1,by omega,oF,bb+1,u2,M2,by omega,(Qw cb ▸ hO2),Z,cI<|aY oM,ar⟩
     refine QV 3 Z ?_;obtain⟨f,hf,a5,_⟩:=oz hR hbn T;refine bc Z (Rx Z Z Z) (fun _=>Z) (by have q:=Au hG hv hR hbn ar;rw[a5] at q;exact q) (fun O ar=>?_);refine Y Z (iA (j:=f) oM U U U Z) Z<|Qi 6 Z<|aF Z (fun ba=>?_) (fun ba=>?_)
     ·refine bg<|aU<|aS<|QR 5 Z ?_;have cb:kP g w bb=false:=by unfold kP;rw[T,show H (ez g bb).order 1=false from a0,a5];show vu g w f=false;have e:=(AN (x:=cS (nV g)<|vu g w) (j:=f) oM).symm.trans ba;rw[dk,decide_eq_true hf,Bool.true_and] at e;revert e;cases vu g w f<;>simp
      refine aL ⟨j8-1,by omega,oF,bb+1,u2,M2,by omega,(Qw cb ▸ hO2),Z,cI<|aY oM,ar⟩
     refine PB 4 Z ?_;have cb:kP g w bb=true:=by unfold kP;rw[T,show H (ez g bb).order 1=false from a0,a5];show vu g w f=true;have e:=(AN (x:=cS (nV g)<|vu g w) (j:=f) oM).symm.trans ba;rw[dk,decide_eq_true hf,Bool.true_and] at e;revert e;cases vu g w f<;>simp
     refine PD 4 Z (bh ([3,7,8]++rg 68 74) (fun j t O=>∃(r:Nat) (u3:V) (M3:Own),j+r=nV g/\dt 2 204 RP (l1 g w++(l2 g w bb++l3 g w bb r)) u3 M3/\t.get 3=some (u3)/\t.get 7=some (.int .i64 (.ofNat r))/\D O K (M3++(b1,.row [J,.av] 149 false)::L)) (nV g) ⟨0,u2,M2,Z,(by rw[show l3 g w bb 0= [] from Z,List.append_nil];exact hO2),Z,Z,ar⟩ ?_);clear ar;intro ao t O aq hI;obtain⟨r,u3,M3,c1,hO3,W,cl,ar⟩:=hI;obtain⟨oo,rfl⟩:=aq.q2 W cl Z;refine Pz 5 Z<|Y Z (cz Z) Z<|Y Z (Ry 6 Z) Z<|Y Z (Rz Z (ar.da hv.row) Z) Z<|Qi 3 Z<|aF Z (fun be=>?_) (fun be=>?_)
     ·refine Oi 5 Z<|Qg 2 Z ?_;have hrn:=bk be;refine QV 2 Z<|gw Z (Rx Z Z Z) (fun _=>Z) (Pd hG hv hrn ar) (fun am O ar=>?_) (fun am O ar=>?_)
      ·refine Y Z (dq Z) Z<|QV 4 Z<|ky Z (an Z) (fun ap=>?_) (fun ap=>?_)
       ·refine vQ 1 Z<|Y Z (cz Z) Z<|Y Z (Ry 5 Z) Z<|Y Z (Rz Z (ar.da hv.row) Z) Z<|vQ 1 Z<|Rr (e:=56) (m:=5) hv.lO (gd hrn) Z Z Z Z (fun dl c2 b6 c3 b7=>?_);obtain rfl:=b7;refine bJ b6 Z Z Z (k:=0) U (lb Z) (fun _=>Z) (fun dm b8=>?_);refine Y Z (RE ar b8 Z Z) Z<|vQ 1 Z<|ky Z (an Z) (fun a1=>?_) (fun a1=>?_)
        ·refine PI 13 Z<|aS<|QR 5 Z ?_;have cr:jo g w r=false:=by unfold jo;rw[am,show H (.ofNat r) (.ofNat w)=false from cC ap,show H (ez g r).kind 4=false from cC a1];rfl
         refine aL ⟨ao-1,by omega,oF,r+1,u3,M3,by omega,(Qy cr ▸ hO3),Z,cI<|aY oM,ar⟩
        refine QV 3 Z<|gw Z (Rx Z Z Z) (fun _=>Z) (LR hG hv hrn hwn ar) (fun bi O ar=>?_) (fun bi O ar=>?_)
        ·refine Y Z (dq Z) Z<|O5 10 Z ?_;have cr:jo g w r=true:=by unfold jo;rw[am,show H (.ofNat r) (.ofNat w)=false from cC ap,show H (ez g r).kind 4=true from bl a1];exact bi
         refine PD 4 Z (bh ([3,8]++rg 103 39) (fun j t O=>∃(a:Nat) (u4:V) (M4:Own),j+a=nV g/\dt 2 204 RP (l1 g w++(l2 g w bb++(l3 g w bb r++l4 g bb r a))) u4 M4/\t.get 3=some (u4)/\t.get 8=some (.int .i64 (.ofNat a))/\D O K (M4++(b1,.row [J,.av] 149 false)::L)) (nV g) ⟨0,u3,M3,Z,(by rw[show l4 g bb r 0= [] from Z,List.append_nil];exact hO3),Z,Z,ar⟩ ?_);clear ar;intro C t O aq hI;obtain⟨a,u4,M4,b9,hO4,W,bo,ar⟩:=hI;obtain⟨oo,rfl⟩:=aq.q2 W bo Z;refine Pz 5 Z<|Y Z (cz Z) Z<|Y Z (Ry 6 Z) Z<|Y Z (Rz Z (ar.da hv.row) Z) Z<|Qi 3 Z<|aF Z (fun E=>?_) (fun E=>?_)
         ·refine Oj 6 Z ?_;have han:=bk E;refine QV 2 Z<|gw Z (Rx Z Z Z) (fun _=>Z) (Mv hG hv han ar) (fun d O ar=>?_) (fun d O ar=>?_)
          ·refine QV 4 Z<|ky Z (an Z) (fun A=>?_) (fun A=>?_)
           ·refine Qj 24 Z<|Y Z (mC (e:=3) (n:=2) (m:=1) (zero:=[J,J]) (cs:=[_,_]) U U U Z) Z<|fY ar Z (cm (e:=204) (m:=2) (z:=[J,J]) (cs:=[_,_]) U U U U<|bj Z Z Z Z bO) (fun _=>Z) (fun O b2 ar=>?_);replace ar:=ar.pull (.there<|cX.here (X:=M4));replace ar:=ar.pull (.dv<|cX.here (X:=[_]));rw[List.singleton_append] at ar;refine kY (R:=RP) (m:=2) (e:=204) hO4 ar (fV (m:=2) Z (show RP (r,a) [.int .i64 (.ofNat r),.int .i64 (.ofNat a)] from Z)) RP.leaf (AM hR hwn hbn hrn han T) Z Z Z Z Z Z Z (fun _=>Z) (fun O F Q hO141 ar=>?_);refine QU 2 Z<|aG<|QR 5 Z ?_;have ca:fT g bb a=true:=by unfold fT;rw[d,show H (.ofNat a) (.ofNat bb)=true from A];rfl
            refine aL ⟨C-1,by omega,oF,a+1,F,Q,by omega,(PM ca ▸ hO141),Z,cI<|aY oM,ar⟩
           refine vQ 1 Z<|Y Z (cz Z) Z<|Y Z (Ry 5 Z) Z<|Y Z (Rz Z (ar.da hv.row) Z) Z<|vQ 1 Z<|Rr (e:=56) (m:=5) hv.lO (gd han) Z Z Z Z (fun cc bq aa br ab=>?_);obtain rfl:=ab;refine bJ aa Z Z Z (k:=0) U (lb Z) (fun _=>Z) (fun ce ac=>?_);refine Y Z (RE ar ac Z Z) Z<|vQ 1 Z<|ky Z (an Z) (fun B=>?_) (fun B=>?_)
           ·refine QV 3 Z<|gw Z (Rx Z Z Z) (fun _=>Z) (LR hG hv hbn han ar) (fun S O ar=>?_) (fun S O ar=>?_)
            ·refine Qj 10 Z<|Y Z (mC (e:=3) (n:=2) (m:=1) (zero:=[J,J]) (cs:=[_,_]) U U U Z) Z<|fY ar Z (cm (e:=204) (m:=2) (z:=[J,J]) (cs:=[_,_]) U U U U<|bj Z Z Z Z bO) (fun _=>Z) (fun O b2 ar=>?_);replace ar:=ar.pull (.there<|cX.here (X:=M4));replace ar:=ar.pull (.dv<|cX.here (X:=[_]));rw[List.singleton_append] at ar;refine kY (R:=RP) (m:=2) (e:=204) hO4 ar (fV (m:=2) Z (show RP (r,a) [.int .i64 (.ofNat r),.int .i64 (.ofNat a)] from Z)) RP.leaf (AM hR hwn hbn hrn han T) Z Z Z Z Z Z Z (fun _=>Z) (fun O F Q hO141 ar=>?_);refine QU 2 Z<|aG<|QR 5 Z ?_;have ca:fT g bb a=true:=by unfold fT;rw[d,show H (.ofNat a) (.ofNat bb)=false from A,show H (ez g a).kind 4=true from B];exact S
             refine aL ⟨C-1,by omega,oF,a+1,F,Q,by omega,(PM ca ▸ hO141),Z,cI<|aY oM,ar⟩
            refine PG 8 Z<|QR 5 Z ?_;have ca:fT g bb a=false:=by unfold fT;rw[d,show H (.ofNat a) (.ofNat bb)=false from A,show H (ez g a).kind 4=true from B];exact S
            refine aL ⟨C-1,by omega,oF,a+1,u4,M4,by omega,(Ol ca ▸ hO4),Z,cI<|aY oM,ar⟩
           refine PG 12 Z<|QR 5 Z ?_;have ca:fT g bb a=false:=by unfold fT;rw[d,show H (.ofNat a) (.ofNat bb)=false from A,show H (ez g a).kind 4=false from B];rfl
           refine aL ⟨C-1,by omega,oF,a+1,u4,M4,by omega,(Ol ca ▸ hO4),Z,cI<|aY oM,ar⟩
          refine PG 27 Z<|QR 5 Z ?_;have ca:fT g bb a=false:=by unfold fT;rw[d];rfl
          refine aL ⟨C-1,by omega,oF,a+1,u4,M4,by omega,(Ol ca ▸ hO4),Z,cI<|aY oM,ar⟩
         refine PC 3 Z<|aS<|aG<|QR 5 Z ?_;have bs:a=nV g:=by have:=bz E;omega
         subst bs;refine aL ⟨ao-1,by omega,oF,r+1,u4,M4,by omega,(Q1 cr ▸ hO4),Z,cI<|aY oM,ar⟩
        refine Y Z (dq Z) Z<|PI 8 Z<|aS<|QR 5 Z ?_;have cr:jo g w r=false:=by unfold jo;rw[am,show H (.ofNat r) (.ofNat w)=false from cC ap,show H (ez g r).kind 4=true from bl a1];exact bi
        refine aL ⟨ao-1,by omega,oF,r+1,u3,M3,by omega,(Qy cr ▸ hO3),Z,cI<|aY oM,ar⟩
       refine O5 25 Z ?_;have cr:jo g w r=true:=by unfold jo;rw[am,show H (.ofNat r) (.ofNat w)=true from bl ap];rfl
       refine PD 4 Z (bh ([3,8]++rg 103 39) (fun j t O=>∃(a:Nat) (u4:V) (M4:Own),j+a=nV g/\dt 2 204 RP (l1 g w++(l2 g w bb++(l3 g w bb r++l4 g bb r a))) u4 M4/\t.get 3=some (u4)/\t.get 8=some (.int .i64 (.ofNat a))/\D O K (M4++(b1,.row [J,.av] 149 false)::L)) (nV g) ⟨0,u3,M3,Z,(by rw[show l4 g bb r 0= [] from Z,List.append_nil];exact hO3),Z,Z,ar⟩ ?_);clear ar;intro C t O aq hI;obtain⟨a,u4,M4,b9,hO4,W,bo,ar⟩:=hI;obtain⟨oo,rfl⟩:=aq.q2 W bo Z;refine Pz 5 Z<|Y Z (cz Z) Z<|Y Z (Ry 6 Z) Z<|Y Z (Rz Z (ar.da hv.row) Z) Z<|Qi 3 Z<|aF Z (fun E=>?_) (fun E=>?_)
       ·refine Oj 6 Z ?_;have han:=bk E;refine QV 2 Z<|gw Z (Rx Z Z Z) (fun _=>Z) (Mv hG hv han ar) (fun d O ar=>?_) (fun d O ar=>?_)
        ·refine QV 4 Z<|ky Z (an Z) (fun A=>?_) (fun A=>?_)
         ·refine Qj 24 Z<|Y Z (mC (e:=3) (n:=2) (m:=1) (zero:=[J,J]) (cs:=[_,_]) U U U Z) Z<|fY ar Z (cm (e:=204) (m:=2) (z:=[J,J]) (cs:=[_,_]) U U U U<|bj Z Z Z Z bO) (fun _=>Z) (fun O b2 ar=>?_);replace ar:=ar.pull (.there<|cX.here (X:=M4));replace ar:=ar.pull (.dv<|cX.here (X:=[_]));rw[List.singleton_append] at ar;refine kY (R:=RP) (m:=2) (e:=204) hO4 ar (fV (m:=2) Z (show RP (r,a) [.int .i64 (.ofNat r),.int .i64 (.ofNat a)] from Z)) RP.leaf (AM hR hwn hbn hrn han T) Z Z Z Z Z Z Z (fun _=>Z) (fun O F Q hO141 ar=>?_);refine QU 2 Z<|aG<|QR 5 Z ?_;have ca:fT g bb a=true:=by unfold fT;rw[d,show H (.ofNat a) (.ofNat bb)=true from A];rfl
          refine aL ⟨C-1,by omega,oF,a+1,F,Q,by omega,(PM ca ▸ hO141),Z,cI<|aY oM,ar⟩
         refine vQ 1 Z<|Y Z (cz Z) Z<|Y Z (Ry 5 Z) Z<|Y Z (Rz Z (ar.da hv.row) Z) Z<|vQ 1 Z<|Rr (e:=56) (m:=5) hv.lO (gd han) Z Z Z Z (fun cc bq aa br ab=>?_);obtain rfl:=ab;refine bJ aa Z Z Z (k:=0) U (lb Z) (fun _=>Z) (fun ce ac=>?_);refine Y Z (RE ar ac Z Z) Z<|vQ 1 Z<|ky Z (an Z) (fun B=>?_) (fun B=>?_)
         ·refine QV 3 Z<|gw Z (Rx Z Z Z) (fun _=>Z) (LR hG hv hbn han ar) (fun S O ar=>?_) (fun S O ar=>?_)
          ·refine Qj 10 Z<|Y Z (mC (e:=3) (n:=2) (m:=1) (zero:=[J,J]) (cs:=[_,_]) U U U Z) Z<|fY ar Z (cm (e:=204) (m:=2) (z:=[J,J]) (cs:=[_,_]) U U U U<|bj Z Z Z Z bO) (fun _=>Z) (fun O b2 ar=>?_);replace ar:=ar.pull (.there<|cX.here (X:=M4));replace ar:=ar.pull (.dv<|cX.here (X:=[_]));rw[List.singleton_append] at ar;refine kY (R:=RP) (m:=2) (e:=204) hO4 ar (fV (m:=2) Z (show RP (r,a) [.int .i64 (.ofNat r),.int .i64 (.ofNat a)] from Z)) RP.leaf (AM hR hwn hbn hrn han T) Z Z Z Z Z Z Z (fun _=>Z) (fun O F Q hO141 ar=>?_);refine QU 2 Z<|aG<|QR 5 Z ?_;have ca:fT g bb a=true:=by unfold fT;rw[d,show H (.ofNat a) (.ofNat bb)=false from A,show H (ez g a).kind 4=true from B];exact S
           refine aL ⟨C-1,by omega,oF,a+1,F,Q,by omega,(PM ca ▸ hO141),Z,cI<|aY oM,ar⟩
          refine PG 8 Z<|QR 5 Z ?_;have ca:fT g bb a=false:=by unfold fT;rw[d,show H (.ofNat a) (.ofNat bb)=false from A,show H (ez g a).kind 4=true from B];exact S
          refine aL ⟨C-1,by omega,oF,a+1,u4,M4,by omega,(Ol ca ▸ hO4),Z,cI<|aY oM,ar⟩
         refine PG 12 Z<|QR 5 Z ?_;have ca:fT g bb a=false:=by unfold fT;rw[d,show H (.ofNat a) (.ofNat bb)=false from A,show H (ez g a).kind 4=false from B];rfl
         refine aL ⟨C-1,by omega,oF,a+1,u4,M4,by omega,(Ol ca ▸ hO4),Z,cI<|aY oM,ar⟩
        refine PG 27 Z<|QR 5 Z ?_;have ca:fT g bb a=false:=by unfold fT;rw[d];rfl
        refine aL ⟨C-1,by omega,oF,a+1,u4,M4,by omega,(Ol ca ▸ hO4),Z,cI<|aY oM,ar⟩
       refine PC 3 Z<|aS<|aG<|QR 5 Z ?_;have bs:a=nV g:=by have:=bz E;omega
       subst bs;refine aL ⟨ao-1,by omega,oF,r+1,u4,M4,by omega,(Q1 cr ▸ hO4),Z,cI<|aY oM,ar⟩
      refine Y Z (dq Z) Z<|PI 28 Z<|aS<|QR 5 Z ?_;have cr:jo g w r=false:=by unfold jo;rw[am];rfl
      refine aL ⟨ao-1,by omega,oF,r+1,u3,M3,by omega,(Qy cr ▸ hO3),Z,cI<|aY oM,ar⟩
     refine PC 3 Z<|aS<|aG<|QR 5 Z ?_;have cn:r=nV g:=by have:=bz be;omega
     subst cn;refine aL ⟨j8-1,by omega,oF,bb+1,u3,M3,by omega,(Rv cb ▸ hO3),Z,cI<|aY oM,ar⟩
    refine Y Z (dq Z) Z<|PI 26 Z<|aS<|QR 5 Z ?_;have cb:kP g w bb=false:=by unfold kP;rw[T];rfl
    refine aL ⟨j8-1,by omega,oF,bb+1,u2,M2,by omega,(Qw cb ▸ hO2),Z,cI<|aY oM,ar⟩
   refine PC 3 Z<|aS<|aG<|QR 5 Z ?_;have co:bb=nV g:=by have:=bz a4;omega
   subst co;refine aL ⟨j3-1,by omega,oF,w+1,u2,M2,by omega,(Q0 cw ▸ hO2),Z,cI<|aY oM,ar⟩
  refine Y Z (dq Z) Z<|PI 16 Z<|aS<|QR 5 Z ?_;have cw:py g w=false:=by unfold py;rw[aE];rfl
  refine aL ⟨j3-1,by omega,oF,w+1,u,M,by omega,(Qv cw ▸ hO),Z,cI<|aY oM,ar⟩
 refine PC 3 Z<|aS<|Qg 3 Z<|Y Z (cz Z) Z<|Y Z (Ry 6 Z) Z<|Y Z (Rz Z (ar.da hv.row) Z) Z<|vQ 1 Z ?_;have cp:w=nV g:=by have:=bz a2;omega
 subst cp;obtain⟨K1,ch,bt,ar⟩:=D.cA (M:=M) ar;have hs1:=hO.gL (K:=K1) fun y hy=>bt _ hy
 refine bR Z (Rx Z Z Z) (fun _=>Z) (Ho hG (n:=nV g) oM hs1 OO ar) ?_;rintro _ O ⟨b2,rfl,ar⟩;refine eE ar Z (RG Z Z Z ar.g1 (m:=2) Z Z (cells':=[_,_]) Z) Z (fun O ar=>?_);refine Qk 3 Z ?_;exact eQ Z Z ar.g1 (m:=2) U Z ⟨K1,b2,ch,Z,ar.sub (.cons_cons _ (.cons _ (.refl _)))⟩
structure Bj (K:KP) (g:XG) (u0 u1 u2 u3 ue up ul us uh:V):Prop where
 po:bF K 1 RU (bB (nV g)<|rD g) u0
 rf:bF K 1 RU (bB (nV g)<|Bh g) u1
 co:bF K 1 RU (bB (nV g)<|yB g) u2
 fr:bF K 1 RU (bB (nV g)<|DW g) u3
 P2:bF K 1 RU (bB (nV g)<|yh (nV g)<|pR [Bh g,yB g,DW g]) ue
 Nw:bF K 1 RU (bB (nV g)<|yh (nV g)<|pR [rD g,Bh g]) up
 loc:bF K 1 RU (bB (nV g)<|x9 g) ul
 sw:bF K 1 RU (bB (nV g)<|KG g) us
 hb:bF K 1 RU (bB (nV g)<|yh (nV g)<|pR [rD g,KG g]) uh
theorem Bj.mono {K K':KP} {g:XG} {b d u w ue up ul us uh:V} (h:Bj K g b d u w ue up ul us uh) (hk:KP.le K K'):Bj K' g b d u w ue up ul us uh:=⟨h.po.mono hk fun _ _ h=>h,h.rf.mono hk fun _ _ h=>h,h.co.mono hk fun _ _ h=>h,h.fr.mono hk fun _ _ h=>h,h.P2.mono hk fun _ _ h=>h,h.Nw.mono hk fun _ _ h=>h,h.loc.mono hk fun _ _ h=>h,h.sw.mono hk fun _ _ h=>h,h.hb.mono hk fun _ _ h=>h⟩
def Ob:List V:=[J,.av,J,.av,J,.av,J,.av,J,.av,J,.av,J,.av,J,.av,J,.av]
def sK (n:Nat) (u0 u1 u2 u3 ue up ul us uh:V):List V:=[.int .i64 (.ofNat n),u0,.int .i64 (.ofNat n),u1,.int .i64 (.ofNat n),u2,.int .i64 (.ofNat n),u3,.int .i64 (.ofNat n),ue,.int .i64 (.ofNat n),up,.int .i64 (.ofNat n),ul,.int .i64 (.ofNat n),us,.int .i64 (.ofNat n),uh]
theorem O7 {G:Cx} (d:Plain G) {K:KP} {g:XG} {va vb vc vd:V} (hg:eW K g va vb vc vd) {O:N} {L:Own} (ar:D O K L):
  a8 Tryz.prog G 100 [.agg [va,vb,vc,vd]] O fun v O'=>(H (cd g) 0=false/\v= .tuple [.agg Ob,.int .i64 2]/\D O' K L)∨(dD g/\∃T u0 u1 w u3 ue up ul us uh,v= .tuple [.agg<|sK (nV g) u0 u1 w u3 ue up ul us uh,J]/\KP.le K T/\Bj T g u0 u1 w u3 ue up ul us uh/\D O' T L):=by
 refine QO d Tryz.func100 Z<|Qg 2 Z<|kp ar Z (cG Z Z) (fun O b1 ar=>?_);refine kp ar Z (RD (cs:=[J,.av,J,.av,J,.av,J,.av,J,.av,J,.av,J,.av,J,.av,J,.av])) (fun O b2 ar=>?_);refine PF 5 Z<|Y Z (RB Z ar.g1 (n:=4) (vs:=[_,_,_,_]) Z) Z<|bR Z (Rx Z Z Z) (fun _=>Z) (ND d hg ar) ?_;rintro _ O (⟨aa,rfl,ar⟩ | ⟨hR,T,b,a1,b1_,c1_,d1,iv,ev,rfl,hleA,hv,ar⟩)
 ·refine O4 11 Z (Y Z (dq Z) Z (PF 5 Z (Y Z (Rw (places:=[(0,8),(8,10)]) (zero:=[J,.av,J,.av,J,.av,J,.av,J,.av,J,.av,J,.av,J,.av,J,.av]) (cs:=[_,_,_,_,_,_,_,_,_,_,_,_,_,_,_,_,_,_]) Z) Z ?_)));refine bE ar Z (RG Z Z Z ar.g0 (m:=18) Z Z (cells':=[_,_,_,_,_,_,_,_,_,_,_,_,_,_,_,_,_,_]) Z) Z (fun O ar=>?_);refine PH 5 Z ?_;exact bC Z Z ar.g0 (m:=18) U Z Z (.inl ⟨aa,Z,ar.pop.pop⟩)
 have hvl:=pN hR;have hg0:=hg;clear hg;refine O4 11 Z (Y Z (dq Z) Z (O5 8 Z (O3 9 Z (bh ([6,7,8]++rg 18 26) (fun j t O=>∃(i:Nat) (u:V) (M:Own),j+i=nV g/\dt 2 204 RP (eJ (nV g) (x9 g) i 0) u M/\t.get 6=some (u)/\t.get 7=some (.int .i64 (.ofNat i))/\D O T (M++(b2,.row [J,.av,J,.av,J,.av,J,.av,J,.av,J,.av,J,.av,J,.av,J,.av] 155 false)::(b1,.row [va,vb,vc,vd] 26 false)::L)) (nV g) ⟨0,_,[],Z,.inl ⟨Z,Z,Z⟩,Z,Z,ar⟩ ?_))));clear ar;intro j6 t O aq hI;obtain⟨i,u,M,ap,hO,C,ab,ar⟩:=hI;obtain⟨oo,rfl⟩:=aq.q2 C ab Z;refine Pz 5 Z<|Y Z (cz Z) Z<|Y Z (Ry 6 Z) Z<|Y Z (Rz Z (ar.da hv.row) Z) Z<|Qi 3 Z<|aF Z (fun A=>?_) (fun A=>?_)
 ·refine O1 9 Z (aM (bh ([6,8]++rg 26 18) (fun j t O=>∃(q:Nat) (w:V) (W:Own),j+q=nV g/\dt 2 204 RP (eJ (nV g) (x9 g) i q) w W/\t.get 6=some (w)/\t.get 8=some (.int .i64 (.ofNat q))/\D O T (W++(b2,.row [J,.av,J,.av,J,.av,J,.av,J,.av,J,.av,J,.av,J,.av,J,.av] 155 false)::(b1,.row [va,vb,vc,vd] 26 false)::L)) (nV g) ⟨0,u,M,Z,hO,Z,Z,ar⟩ ?_));clear ar;intro j9 t O aq hI;obtain⟨q,w,W,aE,hO2,C,ac,ar⟩:=hI;obtain⟨oo,rfl⟩:=aq.q2 C ac Z;refine Pz 5 Z<|Y Z (cz Z) Z<|Y Z (Ry 6 Z) Z<|Y Z (Rz Z (ar.da hv.row) Z) Z<|Qi 3 Z<|aF Z (fun E=>?_) (fun E=>?_)
  ·refine Oj 6 Z ?_;have hin:=bk A;have hqn:=bk E;refine QV 3 Z<|gw Z (Rx Z Z Z) (fun _=>Z) (Pc d hv hin hqn ar) (fun F O ar=>?_) (fun F O ar=>?_)
   ·refine Qj 7 Z<|Y Z (mC (e:=3) (n:=2) (m:=1) (zero:=[J,J]) (cs:=[_,_]) U U U Z) Z<|fY ar Z (cm (e:=204) (m:=2) (z:=[J,J]) (cs:=[_,_]) U U U U<|bj Z Z Z Z bO) (fun _=>Z) (fun O b3 ar=>?_);replace ar:=ar.pull (.there<|cX.here (X:=W));replace ar:=ar.pull (.dv<|cX.here (X:=[_]));rw[List.singleton_append] at ar;refine kY (R:=RP) (m:=2) (e:=204) hO2 ar (fV (m:=2) Z (show RP (i,q) [.int .i64 (.ofNat i),.int .i64 (.ofNat q)] from Z)) RP.leaf (by have:=kf (n:=nV g) (R:=x9 g) (i:=i) (q:=q);have:i*nV g<=62*62:=Nat.mul_le_mul oM hvl;show _+1<=_;omega) Z Z Z Z Z Z Z (fun _=>Z) (fun O am ao hO43 ar=>?_);refine QU 2 Z<|aG<|QR 5 Z<|aL ⟨j9-1,by omega,oF,q+1,am,ao,by omega,(kh F ▸ hO43),Z,cI<|aY oM,ar⟩
   refine PG 5 Z<|QR 5 Z<|aL ⟨j9-1,by omega,oF,q+1,w,W,by omega,(lP F ▸ hO2),Z,cI<|aY oM,ar⟩
  refine PC 3 Z<|aS<|aG<|QR 5 Z ?_;have hlp:=bk A;have Q:q=nV g:=by have:=bz E;omega
  subst Q;refine aL ⟨j6-1,by omega,oF,i+1,w,W,by omega,(kg ▸ hO2),Z,cI<|aY oM,ar⟩
 refine PC 3 Z<|aS<|Qg 2 Z ?_;have Q:i=nV g:=by have:=bz A;omega
 subst Q;rw[pU] at hO;refine vQ 1 Z<|bR Z (Rx Z Z Z) (fun _=>Z) (LQ d hv hR ar) ?_;rintro _ O ⟨K2,u0,u1,w,u3,rfl,B,g0,g1,g2,g3,ar⟩;replace hv:=hv.mono B;replace hleA:=KP.le_trans hleA B;refine Y Z (Rw (places:=[(0,8),(8,10)]) (zero:=[J,.av,J,.av,J,.av,J,.av,J,.av,J,.av,J,.av,J,.av,J,.av]) (cs:=[_,_,_,_,_,_,_,_,_,_,_,_,_,_,_,_,_,_]) Z) Z<|kp ar Z (RD (cs:=[J,.av,J,.av,J,.av,J,.av,J,.av,J,.av,J,.av,J,.av,J,.av])) (fun O b3 ar=>?_);refine bE ar Z (RG Z Z Z ar.g0 (m:=18) Z (af Z<|af g0.leaf.2<|af Z<|af g1.leaf.2<|af Z<|af g2.leaf.2<|af Z<|af g3.leaf.2 Z) (cells':=[_,_,_,_,_,_,_,_,_,_,_,_,_,_,_,_,_,_]) Z) Z (fun O ar=>?_);refine PL ar 6 [0,2] Z Z<|Y Z (RB Z ar.g0 (n:=2) (vs:=[_,_]) Z) Z<|QY ar 2 [0,4] Z Z<|Y Z (RB Z ar.g0 (n:=2) (vs:=[_,_]) Z) Z<|QY ar 2 [0,6] Z Z<|Y Z (RB Z ar.g0 (n:=2) (vs:=[_,_]) Z) Z<|fY ar Z (cm (e:=149) (m:=2) (z:=[J,.av]) (cs:=[_,_,_,_,_,_]) U U U U<|bj Z Z Z Z<|bj Z Z Z Z<|bj Z Z Z Z bO) (fun _=>Z) (fun O b4 ar=>?_);obtain⟨Kae,leae,memae,ar⟩:=D.cA (M:=[_]) ar;replace g0:=g0.mono leae fun _ _ h=>h
 replace g1:=g1.mono leae fun _ _ h=>h
 replace g2:=g2.mono leae fun _ _ h=>h
 replace g3:=g3.mono leae fun _ _ h=>h
 replace hv:=hv.mono leae;replace hleA:=KP.le_trans hleA leae;have hle:=Hq (n:=nV g) (memae _<|mS_ ..) g1 g2 g3;refine bR Z (Rx Z Z Z) (fun _=>Z) (EB d (n:=nV g) oM hle (Nat.succ_pos _) ar) ?_;rintro _ O ⟨oe,rfl,ar⟩;obtain⟨Kkoe,lekoe,memkoe,ar⟩:=D.cA (M:=[_]) ar;replace g0:=g0.mono lekoe fun _ _ h=>h
 replace g1:=g1.mono lekoe fun _ _ h=>h
 replace g2:=g2.mono lekoe fun _ _ h=>h
 replace g3:=g3.mono lekoe fun _ _ h=>h
 replace hv:=hv.mono lekoe;replace hleA:=KP.le_trans hleA lekoe;have hoe:=fK (memkoe _<|mS_ ..) (cM (nV g)<|pR [Bh g,yB g,DW g]) oM;refine bR Z (Rx Z Z Z) (fun _=>Z) (Ar d (n:=nV g) oM hoe ar) ?_;rintro _ O ⟨Kpe,upe,lepe,rfl,hpe,ar⟩;replace g0:=g0.mono lepe fun _ _ h=>h
 replace g1:=g1.mono lepe fun _ _ h=>h
 replace g2:=g2.mono lepe fun _ _ h=>h
 replace g3:=g3.mono lepe fun _ _ h=>h
 replace hoe:=hoe.mono lepe fun _ _ h=>h
 replace hv:=hv.mono lepe;replace hleA:=KP.le_trans hleA lepe;refine QY ar 2 [8,0] Z Z<|bE ar Z (RG Z Z Z ar.g0 (m:=2) Z (af Z<|af hpe.leaf.2 aA) (cells':=[_,_,_,_,_,_,_,_,_,_,_,_,_,_,_,_,_,_]) Z) Z (fun O ar=>?_);refine PL ar 6 [0,0] Z Z<|Y Z (RB Z ar.g0 (n:=2) (vs:=[_,_]) Z) Z<|QY ar 2 [0,2] Z Z<|Y Z (RB Z ar.g0 (n:=2) (vs:=[_,_]) Z) Z<|fY ar Z (cm (e:=149) (m:=2) (z:=[J,.av]) (cs:=[_,_,_,_]) U U U U<|bj Z Z Z Z<|bj Z Z Z Z bO) (fun _=>Z) (fun O b5 ar=>?_);obtain⟨Kap,leap,memap,ar⟩:=D.cA (M:=[_]) ar;replace g0:=g0.mono leap fun _ _ h=>h
 replace g1:=g1.mono leap fun _ _ h=>h
 replace g2:=g2.mono leap fun _ _ h=>h
 replace g3:=g3.mono leap fun _ _ h=>h
 replace hoe:=hoe.mono leap fun _ _ h=>h
 replace hpe:=hpe.mono leap fun _ _ h=>h
 replace hv:=hv.mono leap;replace hleA:=KP.le_trans hleA leap;have hlp:=ta (n:=nV g) (memap _<|mS_ ..) g0 g1;refine bR Z (Rx Z Z Z) (fun _=>Z) (EB d (n:=nV g) oM hlp (Nat.succ_pos _) ar) ?_;rintro _ O ⟨op,rfl,ar⟩;obtain⟨Kkop,lekop,memkop,ar⟩:=D.cA (M:=[_]) ar;replace g0:=g0.mono lekop fun _ _ h=>h
 replace g1:=g1.mono lekop fun _ _ h=>h
 replace g2:=g2.mono lekop fun _ _ h=>h
 replace g3:=g3.mono lekop fun _ _ h=>h
 replace hoe:=hoe.mono lekop fun _ _ h=>h
 replace hpe:=hpe.mono lekop fun _ _ h=>h
 replace hv:=hv.mono lekop;replace hleA:=KP.le_trans hleA lekop;have hop:=fK (memkop _<|mS_ ..) (cM (nV g)<|pR [rD g,Bh g]) oM;refine bR Z (Rx Z Z Z) (fun _=>Z) (Ar d (n:=nV g) oM hop ar) ?_;rintro _ O ⟨Kpp,upp,lepp,rfl,hpp,ar⟩;replace g0:=g0.mono lepp fun _ _ h=>h
 replace g1:=g1.mono lepp fun _ _ h=>h
 replace g2:=g2.mono lepp fun _ _ h=>h
 replace g3:=g3.mono lepp fun _ _ h=>h
 replace hoe:=hoe.mono lepp fun _ _ h=>h
 replace hpe:=hpe.mono lepp fun _ _ h=>h
 replace hop:=hop.mono lepp fun _ _ h=>h
 replace hv:=hv.mono lepp;replace hleA:=KP.le_trans hleA lepp;refine QY ar 2 [8,2] Z Z<|bE ar Z (RG Z Z Z ar.g0 (m:=2) Z (af Z<|af hpp.leaf.2 aA) (cells':=[_,_,_,_,_,_,_,_,_,_,_,_,_,_,_,_,_,_]) Z) Z (fun O ar=>?_);refine PF 5 Z<|Y Z (cz Z) Z<|Y Z (Ry 6 Z) Z<|Y Z (Rz Z (ar.da hv.row) Z) Z<|vQ 1 Z ?_;replace ar:=ar.pull (.there<|cX.here (X:=M));obtain⟨Kl,lel,meml,ar⟩:=D.cA (M:=M) ar;replace g0:=g0.mono lel fun _ _ h=>h
 replace g1:=g1.mono lel fun _ _ h=>h
 replace g2:=g2.mono lel fun _ _ h=>h
 replace g3:=g3.mono lel fun _ _ h=>h
 replace hoe:=hoe.mono lel fun _ _ h=>h
 replace hpe:=hpe.mono lel fun _ _ h=>h
 replace hop:=hop.mono lel fun _ _ h=>h
 replace hpp:=hpp.mono lel fun _ _ h=>h
 replace hv:=hv.mono lel;replace hleA:=KP.le_trans hleA lel;have hsl:=hO.gL (K:=Kl) fun y hy=>meml _ hy
 refine bR Z (Rx Z Z Z) (fun _=>Z) (Ho d (n:=nV g) oM hsl pV ar) ?_;rintro _ O ⟨ol,rfl,ar⟩;obtain⟨Kkl,lekl,memkl,ar⟩:=D.cA (M:=[_]) ar;replace g0:=g0.mono lekl fun _ _ h=>h
 replace g1:=g1.mono lekl fun _ _ h=>h
 replace g2:=g2.mono lekl fun _ _ h=>h
 replace g3:=g3.mono lekl fun _ _ h=>h
 replace hoe:=hoe.mono lekl fun _ _ h=>h
 replace hpe:=hpe.mono lekl fun _ _ h=>h
 replace hop:=hop.mono lekl fun _ _ h=>h
 replace hpp:=hpp.mono lekl fun _ _ h=>h
 replace hv:=hv.mono lekl;replace hleA:=KP.le_trans hleA lekl;have gl:=fK (memkl _<|mS_ ..) (cM (nV g)<|Cl<|iH (nV g)<|x9 g) oM;rw[nG] at gl;refine QY ar 2 [8,4] Z Z<|bE ar Z (RG Z Z Z ar.g0 (m:=2) Z (af Z<|af gl.leaf.2 aA) (cells':=[_,_,_,_,_,_,_,_,_,_,_,_,_,_,_,_,_,_]) Z) Z (fun O ar=>?_);refine PF 5 Z<|bR Z (Rx Z Z Z) (fun _=>Z) (Qs d hv hR ar) ?_;rintro _ O ⟨Ks,os,les,rfl,ar⟩;replace g0:=g0.mono les fun _ _ h=>h
 replace g1:=g1.mono les fun _ _ h=>h
 replace g2:=g2.mono les fun _ _ h=>h
 replace g3:=g3.mono les fun _ _ h=>h
 replace hoe:=hoe.mono les fun _ _ h=>h
 replace hpe:=hpe.mono les fun _ _ h=>h
 replace hop:=hop.mono les fun _ _ h=>h
 replace hpp:=hpp.mono les fun _ _ h=>h
 replace gl:=gl.mono les fun _ _ h=>h
 replace hv:=hv.mono les;replace hleA:=KP.le_trans hleA les;obtain⟨Kks,leks,memks,ar⟩:=D.cA (M:=[_]) ar;replace g0:=g0.mono leks fun _ _ h=>h
 replace g1:=g1.mono leks fun _ _ h=>h
 replace g2:=g2.mono leks fun _ _ h=>h
 replace g3:=g3.mono leks fun _ _ h=>h
 replace hoe:=hoe.mono leks fun _ _ h=>h
 replace hpe:=hpe.mono leks fun _ _ h=>h
 replace hop:=hop.mono leks fun _ _ h=>h
 replace hpp:=hpp.mono leks fun _ _ h=>h
 replace gl:=gl.mono leks fun _ _ h=>h
 replace hv:=hv.mono leks;replace hleA:=KP.le_trans hleA leks;have gs:=fK (memks _<|mS_ ..) (cM (nV g)<|KG g) oM;refine QY ar 2 [8,6] Z Z<|bE ar Z (RG Z Z Z ar.g0 (m:=2) Z (af Z<|af gs.leaf.2 aA) (cells':=[_,_,_,_,_,_,_,_,_,_,_,_,_,_,_,_,_,_]) Z) Z (fun O ar=>?_);refine PL ar 6 [0,0] Z Z<|Y Z (RB Z ar.g0 (n:=2) (vs:=[_,_]) Z) Z<|QY ar 2 [8,6] Z Z<|Y Z (RB Z ar.g0 (n:=2) (vs:=[_,_]) Z) Z<|fY ar Z (cm (e:=149) (m:=2) (z:=[J,.av]) (cs:=[_,_,_,_]) U U U U<|bj Z Z Z Z<|bj Z Z Z Z bO) (fun _=>Z) (fun O b6 ar=>?_);obtain⟨Kah,leah,memah,ar⟩:=D.cA (M:=[_]) ar;replace g0:=g0.mono leah fun _ _ h=>h
 replace g1:=g1.mono leah fun _ _ h=>h
 replace g2:=g2.mono leah fun _ _ h=>h
 replace g3:=g3.mono leah fun _ _ h=>h
 replace hoe:=hoe.mono leah fun _ _ h=>h
 replace hpe:=hpe.mono leah fun _ _ h=>h
 replace hop:=hop.mono leah fun _ _ h=>h
 replace hpp:=hpp.mono leah fun _ _ h=>h
 replace gl:=gl.mono leah fun _ _ h=>h
 replace gs:=gs.mono leah fun _ _ h=>h
 replace hv:=hv.mono leah;replace hleA:=KP.le_trans hleA leah;have hlh:=ta (n:=nV g) (memah _<|mS_ ..) g0 gs;refine bR Z (Rx Z Z Z) (fun _=>Z) (EB d (n:=nV g) oM hlh (Nat.succ_pos _) ar) ?_;rintro _ O ⟨oh,rfl,ar⟩;obtain⟨Kkoh,lekoh,memkoh,ar⟩:=D.cA (M:=[_]) ar;replace g0:=g0.mono lekoh fun _ _ h=>h
 replace g1:=g1.mono lekoh fun _ _ h=>h
 replace g2:=g2.mono lekoh fun _ _ h=>h
 replace g3:=g3.mono lekoh fun _ _ h=>h
 replace hoe:=hoe.mono lekoh fun _ _ h=>h
 replace hpe:=hpe.mono lekoh fun _ _ h=>h
 replace hop:=hop.mono lekoh fun _ _ h=>h
 replace hpp:=hpp.mono lekoh fun _ _ h=>h
 replace gl:=gl.mono lekoh fun _ _ h=>h
 replace gs:=gs.mono lekoh fun _ _ h=>h
 replace hv:=hv.mono lekoh;replace hleA:=KP.le_trans hleA lekoh;have hoh:=fK (memkoh _<|mS_ ..) (cM (nV g)<|pR [rD g,KG g]) oM;refine bR Z (Rx Z Z Z) (fun _=>Z) (Ar d (n:=nV g) oM hoh ar) ?_;rintro _ O ⟨Kph,uph,leph,rfl,S,ar⟩;replace g0:=g0.mono leph fun _ _ h=>h
 replace g1:=g1.mono leph fun _ _ h=>h
 replace g2:=g2.mono leph fun _ _ h=>h
 replace g3:=g3.mono leph fun _ _ h=>h
 replace hoe:=hoe.mono leph fun _ _ h=>h
 replace hpe:=hpe.mono leph fun _ _ h=>h
 replace hop:=hop.mono leph fun _ _ h=>h
 replace hpp:=hpp.mono leph fun _ _ h=>h
 replace gl:=gl.mono leph fun _ _ h=>h
 replace gs:=gs.mono leph fun _ _ h=>h
 replace hoh:=hoh.mono leph fun _ _ h=>h
 replace hv:=hv.mono leph;replace hleA:=KP.le_trans hleA leph;refine QY ar 2 [8,8] Z Z<|bE ar Z (RG Z Z Z ar.g0 (m:=2) Z (af Z<|af S.leaf.2 aA) (cells':=[_,_,_,_,_,_,_,_,_,_,_,_,_,_,_,_,_,_]) Z) Z (fun O ar=>?_);refine PF 4 Z<|Y Z (RB Z ar.g0 (n:=18) (vs:=[_,_,_,_,_,_,_,_,_,_,_,_,_,_,_,_,_,_]) Z) Z ?_;refine eE ar Z (RG Z Z Z ar.g1 (m:=18) Z (af Z<|af g0.leaf.2<|af Z<|af g1.leaf.2<|af Z<|af g2.leaf.2<|af Z<|af g3.leaf.2<|af Z<|af hpe.leaf.2<|af Z<|af hpp.leaf.2<|af Z<|af gl.leaf.2<|af Z<|af gs.leaf.2<|af Z<|af S.leaf.2 aA) (cells':=[_,_,_,_,_,_,_,_,_,_,_,_,_,_,_,_,_,_]) Z) Z (fun O ar=>?_);refine Qk 4 Z ?_;exact bC Z Z ar.g1 (m:=18) U Z Z (.inr ⟨hR,_,_,_,_,_,_,_,_,_,_,Z,hleA,⟨g0,g1,g2,g3,hpe,hpp,gl,gs,S⟩,ar.pop.pop.pop⟩)
end Go.Ev
namespace Go.Ev
variable [Env]
section
variable {P:Program} {G:Cx} {n:Nat} {t:PT V} {O:N} {K:KP} {L:Own} {Q:Ex->PT V->N->Prop} {ops:Array Oper} {o:Oper} {i:Nat} {rc:List Nat} {l:List (Nat×List Nat)}
end
end Go.Ev
namespace Go.Ev
variable [Env]
open Go.Proofs
set_option maxRecDepth 4000
set_option maxHeartbeats 8000000
end Go.Ev
namespace Go.Ev
variable [Env]
theorem Ou.leaf:∀x vs,Ou x vs->cE vs=true:=fun _ _ h=>by cases h;rfl
theorem dt.Cb {α:Type} {m E:Nat} {R:α->List V->Prop} {l:List α} {u:V} {M:Own} {K:KP} (h:dt m E R l u M):bF (K.m7 M) m R l u:=h.gL fun _ he=>.inr he
theorem dt.I8 {α:Type} {m E:Nat} {R R':α->List V->Prop} {l:List α} {u:V} {M:Own} (h:dt m E R l u M) (d:∀x vs,R x vs->R' x vs):dt m E R' l u M:=by
 rcases h with h | ⟨b,c,cells,e,h1,w,h3,h4,h5⟩
 ·exact .inl h
 exact .inr ⟨b,c,cells,e,h1,w,h3,fun i x hx=>d x _ (h4 i x hx),h5⟩
theorem jd.leaf {K:KP} {k:Nat}:∀x vs,jd K k x vs->cE vs=true:=fun x vs h=>by
 obtain⟨o,n,s,v,rfl,hk⟩:=h.shape;exact af Z<|af Z<|af Z<|af hk.leaf.2 aA
theorem dt.empty {α:Type} {m E b e:Nat} {R:α->List V->Prop}:dt m E R ([]:List α) (.slice b 0 0 (.known 0)) [(b,.row [] e false)]:=.inr ⟨b,.known 0,[],e,Z,Z,by simp,fun i x h=>by simp at h,.inl Z,by simp⟩
theorem dt.nil {α:Type} {m E:Nat} {R:α->List V->Prop}:dt m E R ([]:List α) .av []:=.inl ⟨Z,Z,Z⟩
end Go.Ev
namespace Go.Ev
variable [Env]
open Go.Proofs
set_option maxRecDepth 4000
set_option maxHeartbeats 8000000
end Go.Ev
namespace Go.Ev
variable [Env]
def vq (f:Nat->Nat) (l:List Nat) (m:Nat):Nat:=l.foldl (fun m t=>max m (f t)) m
theorem vJ {f:Nat->Nat} {B:Nat}:∀{l:List Nat} {m:Nat},m<=B->(∀t∈l,f t<=B)->vq f l m<=B
 | [],_,hm,_=>hm
 | a::l,m,hm,h=>vJ (l:=l) (Nat.max_le.2 ⟨hm,h a<|mS_ ..⟩) (fun t b=>h t (mC_ _ b))
theorem Cc {f:Nat->Nat}:∀{l:List Nat} {m:Nat},m<=vq f l m
 | [],_=>nR_ _
 | a::l,m=>Nat.le_trans (Nat.le_max_left _ _) (Cc (l:=l))
theorem vG {f:Nat->Nat}:∀{l:List Nat} {m t:Nat},t∈l->f t<=vq f l m
 | a::l,m,t,h=>by
  rcases mQ_.1 h with rfl | h
  ·exact Nat.le_trans (Nat.le_max_right _ _)<|Cc (l:=l)
  exact vG (l:=l) h
theorem Ek {f g:Nat->Nat} {l l':List Nat} (h:∀t,t∈l↔t∈l') (hf:∀t∈l,f t=g t):vq f l 0=vq g l' 0:=by
 refine Nat.le_antisymm (vJ (Nat.zero_le _) fun t b=>?_)<|vJ (Nat.zero_le _) fun t b=>?_
 ·rw[hf t b];exact vG ((h t).1 b)
 rw[<-hf t ((h t).2 b)];exact vG ((h t).2 b)
inductive Reach (nx:Nat->List Nat):Nat->Prop
 | zero:Reach nx 0
 | step {i t:Nat}:Reach nx i->t∈nx i->Reach nx t
theorem Reach.ub {nx:Nat->List Nat} {n:Nat} {out:List Nat} (b:fD nx n out) {i:Nat} (h:Reach nx i):i∈out:=by
 induction h with
 | zero=>exact b.zero
 | step _ d ih=>
  obtain⟨q,hq⟩:=gO_ ih;obtain⟨q',_,h'⟩:=b.ua q _ hq _ d
  grind
def G3 (w:Nat->Nat) (nx:Nat->List Nat):Nat->Nat->Nat
 | 0,_=>0
 | k+1,i=>vq (G3 w nx k) (nx i) 0+w i
theorem Ca {w:Nat->Nat} {nx:Nat->List Nat} {n:Nat} {out:List Nat} (b:fD nx n out):∀(q i:Nat),out[q]?=some i->∀k,q<k->G3 w nx k i=G3 w nx (q+1) i:=by
 intro q;induction q using Nat.strongRecOn with
 | _ q ih=>
  intro i hi k hk;obtain⟨k,rfl⟩:∃m,k=m+1:=⟨k-1,by omega⟩;show vq _ _ _+_=vq _ _ _+_;rw[Ek (fun t=>Iff.rfl) (fun t d=>?_)];obtain⟨q',h1,h2⟩:=b.ua q i hi t d
  grind
section
variable {nx:Nat->List Nat} {w:Nat->Nat} {r:Nat->Bool} {n:Nat}
end
section
variable {nx dx:Nat->List Nat} {w:Nat->Nat} {r:Nat->Bool} {n:Nat} {out:List Nat} {F H_:Nat->Nat}
end
structure QK (nx:Nat->List Nat) (s:DS):Prop where
 open_:∀i:Nat,s.st[i]?=some 1->i∈s.path
 Rg:∀(j a b:Nat),s.path[j]?=some a->s.path[j+1]?=some b->b∈nx a
 reach:∀i∈s.path,Reach nx i
structure Ot (nx:Nat->List Nat) (n:Nat) (o:List Bool) (st:List Nat):Prop where
 len:o.length=n
 reach:∀i:Nat,o[i]?=some true->Reach nx i
 zero:o[0]?=some true
 LY:∀i∈st,i<n/\o[i]?=some true
 closed:∀i:Nat,o[i]?=some true->i∈st∨∀t∈nx i,o[t]?=some true
structure Dh (nx:Nat->List Nat) (n:Nat) (o:List Bool) (st:List Nat) (a m:Nat) (dl:List Nat):Prop where
 len:o.length=n
 reach:∀i:Nat,o[i]?=some true->Reach nx i
 zero:o[0]?=some true
 LY:∀i∈st,i<n/\o[i]?=some true
 at_:o[a]?=some true
 closed:∀i:Nat,o[i]?=some true->i∈st∨i=a∨∀t∈nx i,o[t]?=some true
 done:∀(q t:Nat),q<m->dl[q]?=some t->o[t]?=some true
section
variable {nx:Nat->List Nat} {n:Nat} {o:List Bool} {st:List Nat} {a m t:Nat} {dl:List Nat}
theorem Ot.pop (h:Ot nx n o st) (ha:st.getLast?=some a):Dh nx n o st.dropLast a 0 dl where
 len:=h.len
 reach:=h.reach
 zero:=h.zero
 LY i hi:=h.LY i ((List.dropLast_sublist _).subset hi)
 at_:=(h.LY a (by grind)).2
 closed i hi:=by
  rcases h.closed i hi with h1 | h1
  ·grind [List.getLast?_eq_some_iff]
  simp_all
 done q t hq:=absurd hq (nZ_ _)
theorem Dh.skip (h:Dh nx n o st a m dl) (ht:dl[m]?=some t) (ho:o[t]?=some true):Dh nx n o st a (m+1) dl where
 len:=h.len
 reach:=h.reach
 zero:=h.zero
 LY:=h.LY
 at_:=h.at_
 closed:=h.closed
 done q t' hq h':=by
  by_cases e:q=m
  ·simp_all
  exact h.done q t' oM h'
theorem tg {i:Nat} (hi:o[i]?=some true):(o.set t true)[i]?=some true:=by
 grind
theorem Dh.mark (h:Dh nx n o st a m dl) (d:dl[m]?=some t) (u:t∈nx a) (b:t<n):Dh nx n (o.set t true) (st++[t]) a (m+1) dl where
 len:=by rw[List.length_set];exact h.len
 reach i hi:=by
  rw[List.getElem?_set] at hi;split at hi
  ·rename_i e;subst e;exact .step (h.reach a h.at_) u
  exact h.reach i hi
 zero:=tg h.zero
 LY i hi:=by
  rcases List.mem_append.1 hi with hi | hi
  ·exact⟨(h.LY i hi).1,tg (h.LY i hi).2⟩
  obtain rfl:=List.mem_singleton.1 hi;exact⟨b,by rw[List.getElem?_set,if_pos Z,if_pos (by rw[h.len];exact b)]⟩
 at_:=tg h.at_
 closed i hi:=by
  rw[List.getElem?_set] at hi;split at hi
  ·simp_all
  rcases h.closed i hi with h1 | h1 | h1
  ·simp_all
  ·exact .inr (.inl h1)
  grind
 done q t' hq h':=by
  by_cases e:q=m
  ·subst e;rw[d] at h';cases h';rw[List.getElem?_set,if_pos Z,if_pos (by rw[h.len];exact b)]
  exact tg<|h.done q t' oM h'
end
end Go.Ev
namespace Go.Ev
variable [Env]
open Go.Proofs
set_option maxRecDepth 4000
set_option maxHeartbeats 8000000
end Go.Ev
namespace Go.Ev
variable [Env]
section
variable {nx:Nat->List Nat} {w:Nat->Nat} {r:Nat->Bool} {n i v j:Nat} {b b':List Nat} {sm:Bool}
end
def wK (kind:Int):Nat:=bif (bif bf (cq kind 2) then bf (cq 7 kind) else false) then 1 else 0
def wA (c:XC) (i:Nat):Nat:=match c.ins[i]? with | some x=>wK x.kind | none=>0
end Go.Ev
namespace Go.Ev
variable [Env]
open Go.Proofs
set_option maxRecDepth 4000
set_option maxHeartbeats 8000000
theorem Mb {G:Cx} (hG:Plain G) {K:KP}:∀(k:Nat) (x:XE) (vs:List V) (p:V),gi K p vs->vs.length=4->jd K k x vs->∀(deep size:Int) (B e1:Nat) (O:N) (L:Own),D O K ((B,.row [.int .i64 size] e1 false)::L)->
  a8 Tryz.prog G 164 [p,.int .i64 deep,.ptr B 0] O fun v O'=>∃s',v= .bool (ss k x deep size).isSome/\D O' K ((B,.row [.int .i64 s'] e1 false)::L)/\∀s,ss k x deep size=some s->s'=s:=by
 intro k;induction k with
 | zero=>intro x vs p _ _ h;cases x;exact h.elim
 | succ k ih=>
 intro x vs p hp hl h deep size B e1 O L ar;obtain⟨op,num,name,kids⟩:=x;obtain⟨v,rfl,hk⟩:=h;obtain⟨F,W⟩:∃F:XE->Int->Option Int,F=fun x m=>ss k x (wr .i64<|Int.add deep 1) m:=⟨_,Z⟩
 have hS:ss (k+1) (.mk op num name kids) deep size=bif (bif cq 2000 (wr .i64<|Int.add size 1) then true else cq 32 deep) then none else km F kids (wr .i64<|Int.add size 1):=by rw[W];rfl
 rw[hS];clear hS;refine QO hG Tryz.func164 Z<|Qg 8 Z<|Y Z (cz Z) Z<|QY ar 2 [0] Z Z<|Y Z (cz Z) Z<|bE ar Z (RG Z Z Z ar.g0 (m:=1) Z Z (cells':=[_]) Z) Z (fun O ar=>?_);refine O4 6 Z<|Y Z (cz Z) Z<|QY ar 2 [0] Z Z<|ky Z (an Z) (fun b=>?_) (fun b=>?_)
 ·refine PH 13 Z ?_;exact aB Z Z ⟨_,by rw[b];rfl,ar,fun s d=>by rw[b] at d;cases d⟩
 refine Qi 5 Z<|aF Z (fun u=>?_) (fun u=>?_)
 ·refine Qh 7 Z ?_;exact aB Z Z ⟨_,by rw[b,u];rfl,ar,fun s d=>by rw[b,u] at d;cases d⟩
 refine O2 6 Z<|Y Z (dS hp Z) Z<|bJ hp Z Z Z (k:=3) U (lb Z) (fun _=>Z) (fun ac C=>?_);refine Y Z (RE ar C Z Z) Z (Y Z (RC hk Z Z Z (e:=82) Z) Z (PD 4 Z (bh ([6,7]++rg 26 15) (fun j t O=>∃(i:Nat) (m:Int),j+i=kids.length/\km F kids (wr .i64<|Int.add size 1)=km F (kids.drop i) m/\t.get 26=some (.int .i64 (.ofNat i))/\D O K ((B,.row [.int .i64 m] e1 false)::L)) (kids.length) ⟨0,_,Z,Z,Z,ar⟩ ?_)));clear ar;intro j5 t O aq hI;obtain⟨i,m,hj,he,E,ar⟩:=hI;obtain⟨oo,rfl⟩:=aq.q1 E Z;refine Qf 6 Z<|aF Z (fun z=>?_) (fun z=>?_)
 ·refine Oj 13 Z<|Y Z (dS hp Z) Z<|bJ hp Z Z Z (k:=3) U (lb Z) (fun _=>Z) (fun am M=>?_);refine Y Z (RE ar M Z Z) Z<|vQ 1 Z ?_;obtain⟨Q,w,aa⟩:=dH z;refine Rr (e:=82) (m:=4) hk w Z Z Z Z (fun ao ab R S T=>?_);have hr34raw:=T;refine QV 3 Z<|bR Z (Rx Z Z Z) (fun _=>Z) (ih Q _ _ R S hr34raw _ _ _ _ _ _ ar) ?_;rintro _ O ⟨m2,rfl,ar,X⟩;refine Y Z (dq Z) Z<|Qi 2 Z<|aF Z (fun A=>?_) (fun A=>?_)
  ·refine QT 6 Z<|aJ<|ay<|bD<|aJ<|ay (?_);exact aB Z Z ⟨_,by rw[b,u];show _=V.bool (km F kids _).isSome;rw[he,uX w (by rw[W];exact cC A)];rfl,ar,fun s d=>by rw[b,u] at d;rw[show km F kids _=none from by rw[he];exact uX w (by rw[W];exact cC A)] at d;cases d⟩
  refine aH (aG (QR 4 Z (aL ⟨j5-1,by omega,oF,i+1,m2,by omega,(by obtain⟨s,d⟩:=Option.isSome_iff_exists.1 (bl A);rw[he,CO w (show F Q m=some s from by rw[W];exact d),X s d]),cI<|aY (by have:=hk.bL;omega),ar⟩)))
 refine PC 3 Z<|aS<|QT 6 Z ?_;exact aB Z Z ⟨_,by rw[b,u];show _=V.bool (km F kids _).isSome;rw[he,xB<|bz z];rfl,ar,fun s d=>by rw[b,u] at d;rw[show km F kids _=some m from by rw[he];exact xB<|bz z] at d;cases d;rfl⟩
theorem C6 {G:Cx} (hG:Plain G) {K:KP} (br:Int):∀(k:Nat) (x:XE) (vs:List V) (p:V),gi K p vs->vs.length=4->jd K k x vs->∀(O:N) (L:Own),D O K L->a8 Tryz.prog G 218 [p,.int .i64 br] O fun v O'=>v= .bool (gm br k x)/\D O' K L:=by
 intro k;induction k with
 | zero=>intro x vs p _ _ h;cases x;exact h.elim
 | succ k ih=>
 intro x vs p hp hl h O L ar;obtain⟨op,num,name,kids⟩:=x;obtain⟨v,rfl,hk⟩:=h
 have hS:gm br (k+1) (.mk op num name kids)=bif H op 1 then(bif bf (cq num 0) then(bif uE name [] then H (.ofNat kids.length) 0 else false) else false) else
  bif H op 2 then(bif (oG name).isSome then(bif cq (Pe<|oG name) br then(bif H num 0 then H (.ofNat kids.length) 0 else false) else false) else false) else
  bif (bif (bif H op 3 then true else H op 4) then false else(bif cq op 5 then true else cq 16 op)) then false else
  bif (bif bf (H num 0) then true else bif bf (uE name []) then true else bf (H (.ofNat kids.length)<|fN op)) then false else
  kids.all (gm br k):=by show(bif H op 1 then _ else bif H op 2 then(match oG name with | some n=>_ | none=>false) else _)=_;cases oG name<;>rfl
 rw[hS];clear hS;have M:uE name (List.map UInt8.toNat (ByteArray.mk #[]).data.toList)=uE name []:=rfl;refine QO hG Tryz.func218 Z<|Qf 11 Z<|aM<|Qg 3 Z<|Y Z (dS hp Z) Z<|bJ hp Z Z Z (k:=0) U (lb Z) (fun _=>Z) (fun b9 bs=>?_);refine Y Z (RE ar bs Z Z) Z<|Qi 4 Z<|aF Z (fun F=>?_) (fun F=>?_)
 ·refine Qg 3 Z<|Y Z (dS hp Z) Z<|bJ hp Z Z Z (k:=1) U (lb Z) (fun _=>Z) (fun ca bt=>?_);refine Y Z (RE ar bt Z Z) Z<|vQ 1 Z<|ky Z (an Z) (fun a3=>?_) (fun a3=>?_)
  ·refine vQ 1 Z<|Y Z (dS hp Z) Z<|bJ hp Z Z Z (k:=2) U (lb Z) (fun _=>Z) (fun cb bv=>?_);refine Y Z (RE ar bv Z Z) Z<|QV 2 Z<|ky Z (an Z) (fun bo=>?_) (fun bo=>?_)
   ·refine vQ 1 Z<|Y Z (dS hp Z) Z<|bJ hp Z Z Z (k:=3) U (lb Z) (fun _=>Z) (fun cc bw=>?_);refine Y Z (RE ar bw Z Z) Z<|Y Z (RC hk Z Z Z (e:=82) Z) Z<|Qk 6 Z<|aJ<|ay (?_);exact aB Z Z ⟨cB (by simp only[bf,fN];(try rw[<-M]);simp only[F,a3,bo,ct,cf]<;>rfl),ar⟩
   refine Qk 11 Z<|aJ<|ay (?_);exact aB Z Z ⟨cB (by simp only[bf,fN];(try rw[<-M]);simp only[F,a3,bo,ct,cf]<;>rfl),ar⟩
  refine Qk 18 Z<|aJ<|ay (?_);exact aB Z Z ⟨cB (by simp only[bf,fN];(try rw[<-M]);simp only[F,a3,ct,cf]<;>rfl),ar⟩
 refine Qg 3 Z<|Y Z (dS hp Z) Z<|bJ hp Z Z Z (k:=0) U (lb Z) (fun _=>Z) (fun ce b0=>?_);refine Y Z (RE ar b0 Z Z) Z<|Qi 4 Z<|aF Z (fun w=>?_) (fun w=>?_)
 ·refine Qg 3 Z<|Y Z (dS hp Z) Z<|bJ hp Z Z Z (k:=2) U (lb Z) (fun _=>Z) (fun ch b1=>?_);refine Y Z (RE ar b1 Z Z) Z<|bc Z (Rx Z Z Z) (fun _=>Z) (E5 hG _ ar) (fun O ar=>?_);refine PF 10 Z<|ky Z (an Z) (fun aE=>?_) (fun aE=>?_)
  ·refine QV 4 Z<|ky Z (an Z) (fun a4=>?_) (fun a4=>?_)
   ·refine vQ 1 Z<|Y Z (dS hp Z) Z<|bJ hp Z Z Z (k:=1) U (lb Z) (fun _=>Z) (fun ci b2=>?_);refine Y Z (RE ar b2 Z Z) Z<|QV 2 Z<|ky Z (an Z) (fun bq=>?_) (fun bq=>?_)
    ·refine vQ 1 Z<|Y Z (dS hp Z) Z<|bJ hp Z Z Z (k:=3) U (lb Z) (fun _=>Z) (fun ck b3=>?_);refine Y Z (RE ar b3 Z Z) Z<|Y Z (RC hk Z Z Z (e:=82) Z) Z<|Qk 6 Z<|aJ<|ay (?_);exact aB Z Z ⟨cB (by simp only[bf,fN];(try rw[<-M]);simp only[F,w,aE,a4,bq,ct,cf]<;>rfl),ar⟩
    refine Qk 11 Z<|aJ<|ay (?_);exact aB Z Z ⟨cB (by simp only[bf,fN];(try rw[<-M]);simp only[F,w,aE,a4,bq,ct,cf]<;>rfl),ar⟩
   refine Qk 18 Z<|aJ<|ay (?_);exact aB Z Z ⟨cB (by simp only[bf,fN];(try rw[<-M]);simp only[F,w,aE,a4,ct,cf]<;>rfl),ar⟩
  refine Qk 23 Z<|aJ<|ay (?_);exact aB Z Z ⟨cB (by simp only[bf,fN];(try rw[<-M]);simp only[F,w,aE,ct,cf]<;>rfl),ar⟩
 refine Qg 3 Z<|Y Z (dS hp Z) Z<|bJ hp Z Z Z (k:=0) U (lb Z) (fun _=>Z) (fun cl b4=>?_);refine Y Z (RE ar b4 Z Z) Z<|vQ 1 Z<|ky Z (an Z) (fun A=>?_) (fun A=>?_)
 ·refine PG 14 Z<|Pz 4 Z<|Y Z (dS hp Z) Z<|bJ hp Z Z Z (k:=1) U (lb Z) (fun _=>Z) (fun b5 ac=>?_);refine Y Z (RE ar ac Z Z) Z<|vQ 1 Z<|ky Z (an Z) (fun b=>?_) (fun b=>?_)
  ·refine PH 25 Z ?_;exact aB Z Z ⟨cB (by simp only[bf,fN];(try rw[<-M]);simp only[F,w,A,b,ct,cf]<;>rfl),ar⟩
  refine vQ 1 Z<|Y Z (dS hp Z) Z<|bJ hp Z Z Z (k:=2) U (lb Z) (fun _=>Z) (fun a5 Q=>?_);refine Y Z (RE ar Q Z Z) Z<|QV 2 Z<|ky Z (an Z) (fun d=>?_) (fun d=>?_)
  ·refine PH 18 Z ?_;exact aB Z Z ⟨cB (by simp only[bf,fN];(try rw[<-M]);simp only[F,w,A,b,d,ct,cf]<;>rfl),ar⟩
  refine vQ 1 Z<|Y Z (dS hp Z) Z<|bJ hp Z Z Z (k:=3) U (lb Z) (fun _=>Z) (fun ba R=>?_);refine Y Z (RE ar R Z Z) Z<|Y Z (RC hk Z Z Z (e:=82) Z) Z<|Qi 5 Z<|aF Z (fun z=>?_) (fun z=>?_)
  ·refine Qh 7 Z ?_;exact aB Z Z ⟨cB (by simp only[bf,fN];(try rw[<-M]);simp only[F,w,A,b,d,z,ct,cf]<;>rfl),ar⟩
  refine O2 6 Z<|Y Z (dS hp Z) Z<|bJ hp Z Z Z (k:=3) U (lb Z) (fun _=>Z) (fun bb S=>?_);refine Y Z (RE ar S Z Z) Z<|Y Z (RC hk Z Z Z (e:=82) Z) Z<|PD 4 Z ?_;obtain⟨LL1,ar,hLL1⟩:=ar.named;refine bh ([4,8]++rg 122 13) (fun j t O=>∃(i:Nat),j+i=kids.length/\(kids.take i).all (gm br k)=true/\t.get 122=some (.int .i64 (.ofNat i))/\D O K LL1) (kids.length) ⟨0,Z,Z,Z,ar⟩ ?_;clear ar;intro a0 t O aq hI;obtain⟨i,hj,ha,T,ar⟩:=hI;subst hLL1;obtain⟨oo,rfl⟩:=aq.q1 T Z;refine Qf 6 Z<|aF Z (fun B=>?_) (fun B=>?_)
  ·refine Oj 13 Z<|Y Z (dS hp Z) Z<|bJ hp Z Z Z (k:=3) U (lb Z) (fun _=>Z) (fun be W=>?_);refine Y Z (RE ar W Z Z) Z<|vQ 1 Z ?_;obtain⟨am,u,a1⟩:=dH B;refine Rr (e:=82) (m:=4) hk u Z Z Z Z (fun bi a2 X aa ab=>?_);have hr130raw:=ab;refine vQ 1 Z<|bc Z (Rx Z Z Z) (fun _=>Z) (ih am _ _ X aa hr130raw _ _ ar) (fun O ar=>?_);refine Y Z (dq Z) Z<|Qi 2 Z<|aF Z (fun C=>?_) (fun C=>?_)
   ·refine QT 6 Z<|aJ<|ay<|bD<|aJ<|ay (?_);exact aB Z Z ⟨cB (by rw[lV u<|cC C];simp only[bf,fN];(try rw[<-M]);simp only[F,w,A,b,d,z,ct,cf]<;>rfl),ar⟩
   refine aH<|aG<|QR 4 Z<|aL ⟨a0-1,by omega,oF,i+1,by omega,il ha u<|bl C,cI<|aY (by have:=hk.bL;omega),ar⟩
  refine PC 3 Z<|aS<|QT 6 Z ?_;exact aB Z Z ⟨cB (by rw[fE ha<|bz B];simp only[bf,fN];(try rw[<-M]);simp only[F,w,A,b,d,z,ct,cf]<;>rfl),ar⟩
 refine vQ 1 Z<|Y Z (dS hp Z) Z<|bJ hp Z Z Z (k:=0) U (lb Z) (fun _=>Z) (fun cn b6=>?_);refine Y Z (RE ar b6 Z Z) Z<|Qi 5 Z<|aF Z (fun E=>?_) (fun E=>?_)
 ·refine QR 3 Z<|aG<|Pz 4 Z<|Y Z (dS hp Z) Z<|bJ hp Z Z Z (k:=1) U (lb Z) (fun _=>Z) (fun b5 ac=>?_);refine Y Z (RE ar ac Z Z) Z<|vQ 1 Z<|ky Z (an Z) (fun b=>?_) (fun b=>?_)
  ·refine PH 25 Z ?_;exact aB Z Z ⟨cB (by simp only[bf,fN];(try rw[<-M]);simp only[F,w,A,E,b,ct,cf]<;>rfl),ar⟩
  refine vQ 1 Z<|Y Z (dS hp Z) Z<|bJ hp Z Z Z (k:=2) U (lb Z) (fun _=>Z) (fun a5 Q=>?_);refine Y Z (RE ar Q Z Z) Z<|QV 2 Z<|ky Z (an Z) (fun d=>?_) (fun d=>?_)
  ·refine PH 18 Z ?_;exact aB Z Z ⟨cB (by simp only[bf,fN];(try rw[<-M]);simp only[F,w,A,E,b,d,ct,cf]<;>rfl),ar⟩
  refine vQ 1 Z<|Y Z (dS hp Z) Z<|bJ hp Z Z Z (k:=3) U (lb Z) (fun _=>Z) (fun ba R=>?_);refine Y Z (RE ar R Z Z) Z<|Y Z (RC hk Z Z Z (e:=82) Z) Z<|Qi 5 Z<|aF Z (fun z=>?_) (fun z=>?_)
  ·refine Qh 7 Z ?_;exact aB Z Z ⟨cB (by simp only[bf,fN];(try rw[<-M]);simp only[F,w,A,E,b,d,z,ct,cf]<;>rfl),ar⟩
  refine O2 6 Z<|Y Z (dS hp Z) Z<|bJ hp Z Z Z (k:=3) U (lb Z) (fun _=>Z) (fun bb S=>?_);refine Y Z (RE ar S Z Z) Z<|Y Z (RC hk Z Z Z (e:=82) Z) Z<|PD 4 Z ?_;obtain⟨LL2,ar,hLL2⟩:=ar.named;refine bh ([4,8]++rg 122 13) (fun j t O=>∃(i:Nat),j+i=kids.length/\(kids.take i).all (gm br k)=true/\t.get 122=some (.int .i64 (.ofNat i))/\D O K LL2) (kids.length) ⟨0,Z,Z,Z,ar⟩ ?_;clear ar;intro a0 t O aq hI;obtain⟨i,hj,ha,T,ar⟩:=hI;subst hLL2;obtain⟨oo,rfl⟩:=aq.q1 T Z;refine Qf 6 Z<|aF Z (fun B=>?_) (fun B=>?_)
  ·refine Oj 13 Z<|Y Z (dS hp Z) Z<|bJ hp Z Z Z (k:=3) U (lb Z) (fun _=>Z) (fun be W=>?_);refine Y Z (RE ar W Z Z) Z<|vQ 1 Z ?_;obtain⟨am,u,a1⟩:=dH B;refine Rr (e:=82) (m:=4) hk u Z Z Z Z (fun bi a2 X aa ab=>?_);have hr130raw:=ab;refine vQ 1 Z<|bc Z (Rx Z Z Z) (fun _=>Z) (ih am _ _ X aa hr130raw _ _ ar) (fun O ar=>?_);refine Y Z (dq Z) Z<|Qi 2 Z<|aF Z (fun C=>?_) (fun C=>?_)
   ·refine QT 6 Z<|aJ<|ay<|bD<|aJ<|ay (?_);exact aB Z Z ⟨cB (by rw[lV u<|cC C];simp only[bf,fN];(try rw[<-M]);simp only[F,w,A,E,b,d,z,ct,cf]<;>rfl),ar⟩
   refine aH<|aG<|QR 4 Z<|aL ⟨a0-1,by omega,oF,i+1,by omega,il ha u<|bl C,cI<|aY (by have:=hk.bL;omega),ar⟩
  refine PC 3 Z<|aS<|QT 6 Z ?_;exact aB Z Z ⟨cB (by rw[fE ha<|bz B];simp only[bf,fN];(try rw[<-M]);simp only[F,w,A,E,b,d,z,ct,cf]<;>rfl),ar⟩
 refine Qg 3 Z<|Y Z (dS hp Z) Z<|bJ hp Z Z Z (k:=0) U (lb Z) (fun _=>Z) (fun co b7=>?_);refine Y Z (RE ar b7 Z Z) Z<|vQ 1 Z<|ky Z (an Z) (fun ao=>?_) (fun ao=>?_)
 ·refine Qk 16 Z<|aJ<|ay (?_);exact aB Z Z ⟨cB (by simp only[bf,fN];(try rw[<-M]);simp only[F,w,A,E,ao,ct,cf]<;>rfl),ar⟩
 refine vQ 1 Z<|Y Z (dS hp Z) Z<|bJ hp Z Z Z (k:=0) U (lb Z) (fun _=>Z) (fun cp b8=>?_);refine Y Z (RE ar b8 Z Z) Z<|Qi 5 Z<|aF Z (fun ap=>?_) (fun ap=>?_)
 ·refine QT 6 Z<|aJ<|ay (?_);exact aB Z Z ⟨cB (by simp only[bf,fN];(try rw[<-M]);simp only[F,w,A,E,ao,ap,ct,cf]<;>rfl),ar⟩
 refine aH<|aG<|Pz 4 Z<|Y Z (dS hp Z) Z<|bJ hp Z Z Z (k:=1) U (lb Z) (fun _=>Z) (fun b5 ac=>?_);refine Y Z (RE ar ac Z Z) Z<|vQ 1 Z<|ky Z (an Z) (fun b=>?_) (fun b=>?_)
 ·refine PH 25 Z ?_;exact aB Z Z ⟨cB (by simp only[bf,fN];(try rw[<-M]);simp only[F,w,A,E,ao,ap,b,ct,cf]<;>rfl),ar⟩
 refine vQ 1 Z<|Y Z (dS hp Z) Z<|bJ hp Z Z Z (k:=2) U (lb Z) (fun _=>Z) (fun a5 Q=>?_);refine Y Z (RE ar Q Z Z) Z<|QV 2 Z<|ky Z (an Z) (fun d=>?_) (fun d=>?_)
 ·refine PH 18 Z ?_;exact aB Z Z ⟨cB (by simp only[bf,fN];(try rw[<-M]);simp only[F,w,A,E,ao,ap,b,d,ct,cf]<;>rfl),ar⟩
 refine vQ 1 Z<|Y Z (dS hp Z) Z<|bJ hp Z Z Z (k:=3) U (lb Z) (fun _=>Z) (fun ba R=>?_);refine Y Z (RE ar R Z Z) Z<|Y Z (RC hk Z Z Z (e:=82) Z) Z<|Qi 5 Z<|aF Z (fun z=>?_) (fun z=>?_)
 ·refine Qh 7 Z ?_;exact aB Z Z ⟨cB (by simp only[bf,fN];(try rw[<-M]);simp only[F,w,A,E,ao,ap,b,d,z,ct,cf]<;>rfl),ar⟩
 refine O2 6 Z<|Y Z (dS hp Z) Z<|bJ hp Z Z Z (k:=3) U (lb Z) (fun _=>Z) (fun bb S=>?_);refine Y Z (RE ar S Z Z) Z<|Y Z (RC hk Z Z Z (e:=82) Z) Z<|PD 4 Z ?_;obtain⟨LL3,ar,hLL3⟩:=ar.named;refine bh ([4,8]++rg 122 13) (fun j t O=>∃(i:Nat),j+i=kids.length/\(kids.take i).all (gm br k)=true/\t.get 122=some (.int .i64 (.ofNat i))/\D O K LL3) (kids.length) ⟨0,Z,Z,Z,ar⟩ ?_;clear ar;intro a0 t O aq hI;obtain⟨i,hj,ha,T,ar⟩:=hI;subst hLL3;obtain⟨oo,rfl⟩:=aq.q1 T Z;refine Qf 6 Z<|aF Z (fun B=>?_) (fun B=>?_)
 ·refine Oj 13 Z<|Y Z (dS hp Z) Z<|bJ hp Z Z Z (k:=3) U (lb Z) (fun _=>Z) (fun be W=>?_);refine Y Z (RE ar W Z Z) Z<|vQ 1 Z ?_;obtain⟨am,u,a1⟩:=dH B;refine Rr (e:=82) (m:=4) hk u Z Z Z Z (fun bi a2 X aa ab=>?_);have hr130raw:=ab;refine vQ 1 Z<|bc Z (Rx Z Z Z) (fun _=>Z) (ih am _ _ X aa hr130raw _ _ ar) (fun O ar=>?_);refine Y Z (dq Z) Z<|Qi 2 Z<|aF Z (fun C=>?_) (fun C=>?_)
  ·refine QT 6 Z<|aJ<|ay<|bD<|aJ<|ay (?_);exact aB Z Z ⟨cB (by rw[lV u<|cC C];simp only[bf,fN];(try rw[<-M]);simp only[F,w,A,E,ao,ap,b,d,z,ct,cf]<;>rfl),ar⟩
  refine aH<|aG<|QR 4 Z<|aL ⟨a0-1,by omega,oF,i+1,by omega,il ha u<|bl C,cI<|aY (by have:=hk.bL;omega),ar⟩
 refine PC 3 Z<|aS<|QT 6 Z ?_;exact aB Z Z ⟨cB (by rw[fE ha<|bz B];simp only[bf,fN];(try rw[<-M]);simp only[F,w,A,E,ao,ap,b,d,z,ct,cf]<;>rfl),ar⟩
def EL (h:kx):List V:=[.bool h.xq,.bool h.loc,.bool h.order,.bool h.to,.int .i64 (.ofNat h.exprs)]
def AI:List V:=mW.flatMap EL
structure mF (G:Cx) (K:KP):Prop where
 gl:Nat.ble 1 G.gl=true
 sh:∃e ro,K (posOf 0) (.row AI e ro)
theorem mF.mono {G:Cx} {K K':KP} (h:mF G K) (hk:KP.le K K'):mF G K':=⟨h.gl,let ⟨e,ro,hh⟩:=h.sh;⟨e,ro,hk _ _ hh⟩⟩
theorem mH {b c:Bool} (h:(!b)=c):(bif b then false else true)=c:=by cases b<;>exact h
theorem Pg {n:Nat} {h:kx} (hh:mW[n]?=some h):List.take 5 (List.drop (0+n*5) AI)=EL h:=by
 have b:n<14:=(gA.1 hh).1
 match n,b with
 | 0,_ | 1,_ | 2,_ | 3,_ | 4,_ | 5,_ | 6,_ | 7,_ | 8,_ | 9,_ | 10,_ | 11,_ | 12,_ | 13,_=>cases hh;rfl
theorem Ph {x:Int} (h1:cq x 1=false) (b:cq 13 x=false):∃(n:Nat) (h:kx),x= .ofNat n/\n<14/\mW[n]?=some h:=by
 rw[eu,decide_eq_false_iff_not] at h1 b;refine⟨x.toNat,mW[x.toNat]'(by show x.toNat<14;omega),by show x=((x.toNat:Nat):Int);omega,by omega,gC _⟩
theorem Hr {br nins:Int} {k n:Nat} {x:XI} {h:kx} (h1:cq x.kind 1=false) (b:cq 13 x.kind=false) (d:x.kind= .ofNat n) (hh:mW[n]?=some h):gW br nins k x=gJ br nins k x h:=by
 unfold gW;rw[h1,b,d];show(match mW[n]? with | some h=>_ | none=>false)=_;rw[hh]
theorem Le {G:Cx} {t:PT V} {g:Nat} (h:Nat.ble (Nat.succ g) G.gl=true):bp G t (.global g)=some (.ptr (posOf g) 0):=by
 show(bif Nat.ble (Nat.succ g) G.gl then _ else _)=_;rw[h];rfl
theorem Ma {G:Cx} (Q:Plain G) {K:KP} (R:mF G K) {k:Nat} {c:XC} {x:XI} {v:V} {vs:List V} {p:V} (hi:bF K 6 (iB K k) c.ins v) (hp:gi K p vs) (h:iB K k x vs) {O:N} {L:Own} (ar:D O K L):
  a8 Tryz.prog G 165 [.agg [.int .i64 c.br,v],p] O fun v O'=>v= .bool (gW c.br (.ofNat c.ins.length) k x)/\D O' K L:=by
 obtain⟨w,rfl,hk⟩:=h;refine QO Q Tryz.func165 Z<|Qg 2 Z<|kp ar Z (cG Z Z) (fun O b1 ar=>?_);refine O4 7 Z<|Y Z (dS hp Z) Z<|bJ hp Z Z Z (k:=0) U (lb Z) (fun _=>Z) (fun p9 a5=>?_);refine Y Z (RE ar a5 Z Z) Z<|vQ 1 Z<|ky Z (an Z) (fun z=>?_) (fun z=>?_)
 ·refine PH 16 Z ?_;exact aB Z Z ⟨cB (by unfold gW;rw[z];rfl),ar.pop⟩
 refine vQ 1 Z<|Y Z (dS hp Z) Z<|bJ hp Z Z Z (k:=0) U (lb Z) (fun _=>Z) (fun bi S=>?_);refine Y Z (RE ar S Z Z) Z<|Qi 4 Z<|aF Z (fun E=>?_) (fun E=>?_)
 ·refine Qh 7 Z ?_;exact aB Z Z ⟨cB (by unfold gW;rw[z,show cq 13 x.kind=true from E];rfl),ar.pop⟩
 have h17x:cq 13 x.kind=false:=E;refine PB 5 Z<|Y Z (dS hp Z) Z<|bJ hp Z Z Z (k:=0) U (lb Z) (fun _=>Z) (fun bo T=>?_);refine Y Z (RE ar T Z Z) Z ?_;obtain⟨kn,sh,W,ba,X⟩:=Ph z h17x;obtain⟨eg,rog,aa⟩:=R.sh;have hRX:=Hr (br:=c.br) (nins:=.ofNat c.ins.length) (k:=k) z h17x W X;refine Y Z (fm (n:=14) (e:=264) (m:=5) U U (Le R.gl) (show _=some (V.int .i64 (.ofNat kn)) from cI W) ba) Z<|Y Z (aO Z (ar.da aa) (n:=5) (vs:=EL sh) U (by show 0+kn*5+5<=70;omega)<|Pg X) Z (kp ar Z (RD (cs:=[.bool false,.bool false,.bool false,.bool false,J])) (fun O b2 ar=>?_));refine bE ar Z (RG Z Z Z ar.g0 (m:=5) Z Z (cells':=[_,_,_,_,_]) Z) Z (fun O ar=>?_);refine PE 3 Z<|ak<|aQ (l:=zp [0,1,2,3,4,5,6,7,8,9,10,11,12,13,14,15,16,17,18,19,20,21,22,23,24,25,26,27,28,29,30,31,32,33,34,35,36,37,38,39,40,41,42]) U U<|wQ 1 Z<|aj Z Z (dS hp Z) Z<|dY hp Z Z Z Z (k:=1) U (lb Z) (fun _=>Z) (fun bq ab=>?_);refine aj Z Z (RE ar ab Z Z) Z<|QZ ar 4 [0,1,0,0] Z Z<|dJ Z Z (Rx Z Z Z) (fun _=>Z) (tA Q _ _ _ _ ar) (fun O ar=>?_);refine⟨aX,?_⟩;refine aj Z Z (dq Z) Z<|hJ Z Z (an Z) (fun _=>Z) (fun b=>?_) (fun b=>?_)
 ·refine Qm 41 Z<|ay (?_);exact aB Z Z ⟨cB (by rw[hRX];unfold gJ;simp only[bf];simp only[mH b,ct,cf]<;>rfl),ar.pop.pop⟩
 refine wQ 1 Z<|aj Z Z (dS hp Z) Z<|dY hp Z Z Z Z (k:=2) U (lb Z) (fun _=>Z) (fun bs ac=>?_);refine aj Z Z (RE ar ac Z Z) Z<|QZ ar 2 [1,0] Z Z<|dJ Z Z (Rx Z Z Z) (fun _=>Z) (tA Q _ _ _ _ ar) (fun O ar=>?_);refine⟨aX,?_⟩;refine aj Z Z (dq Z) Z<|wQ 1 Z<|hJ Z Z (an Z) (fun _=>Z) (fun d=>?_) (fun d=>?_)
 ·refine Qm 31 Z<|ay (?_);exact aB Z Z ⟨cB (by rw[hRX];unfold gJ;simp only[bf];simp only[mH b,mH d,ct,cf]<;>rfl),ar.pop.pop⟩
 refine wQ 1 Z<|aj Z Z (dS hp Z) Z<|dY hp Z Z Z Z (k:=3) U (lb Z) (fun _=>Z) (fun bt am=>?_);refine aj Z Z (RE ar am Z Z) Z<|QZ ar 2 [2,0] Z Z<|dJ Z Z (Rx Z Z Z) (fun _=>Z) (tA Q _ _ _ _ ar) (fun O ar=>?_);refine⟨aX,?_⟩;refine aj Z Z (dq Z) Z<|wQ 1 Z<|hJ Z Z (an Z) (fun _=>Z) (fun u=>?_) (fun u=>?_)
 ·refine Qm 21 Z<|ay (?_);exact aB Z Z ⟨cB (by rw[hRX];unfold gJ;simp only[bf];simp only[mH b,mH d,mH u,ct,cf]<;>rfl),ar.pop.pop⟩
 refine wQ 1 Z<|aj Z Z (dS hp Z) Z<|dY hp Z Z Z Z (k:=4) U (lb Z) (fun _=>Z) (fun bv ao=>?_);refine aj Z Z (RE ar ao Z Z) Z<|QZ ar 2 [1,1] Z Z<|aj Z Z (RC hi Z Z Z (e:=79) Z) Z<|QZ ar 2 [3,0] Z Z<|dJ Z Z (Rx Z Z Z) (fun _=>Z) (tA Q _ _ _ _ ar) (fun O ar=>?_);refine⟨aX,?_⟩;refine aj Z Z (dq Z) Z<|Ql 3 Z<|aF Z (fun A=>?_) (fun A=>?_)
 ·refine Qh 7 Z ?_;exact aB Z Z ⟨cB (by rw[hRX];unfold gJ;simp only[bf];simp only[mH b,mH d,mH u,mH A,ct,cf]<;>rfl),ar.pop.pop⟩
 refine PA 3 Z<|ak<|aQ (l:=zp [0,1,2,3,4,5,6,7]) U U<|wQ 1 Z<|aj Z Z (dS hp Z) Z<|dY hp Z Z Z Z (k:=5) U (lb Z) (fun _=>Z) (fun bw ap=>?_);refine aj Z Z (RE ar ap Z Z) Z<|aj Z Z (RC hk Z Z Z (e:=82) Z) Z<|QZ ar 3 [4,0] Z Z<|Ql 2 Z<|aF Z (fun C=>?_) (fun C=>?_)
 ·refine Qh 7 Z ?_;exact aB Z Z ⟨cB (by rw[hRX];unfold gJ;simp only[bf];simp only[mH b,mH d,mH u,mH A,C,ct,cf]<;>rfl),ar.pop.pop⟩
 refine O2 6 Z<|Y Z (dS hp Z) Z<|bJ hp Z Z Z (k:=5) U (lb Z) (fun _=>Z) (fun b0 aE=>?_);refine Y Z (RE ar aE Z Z) Z<|Y Z (RC hk Z Z Z (e:=82) Z) Z<|PD 4 Z ?_;obtain⟨LL1,ar,hLL1⟩:=ar.named;refine bh ([4,6]++rg 81 14) (fun j t O=>∃(i:Nat),j+i=x.exprs.length/\(x.exprs.take i).all (gm c.br k)=true/\t.get 81=some (.int .i64 (.ofNat i))/\D O K LL1) (x.exprs.length) ⟨0,Z,Z,Z,ar⟩ ?_;clear ar;intro j9 t O aq hI;obtain⟨i,hj,ha,a0,ar⟩:=hI;subst hLL1;obtain⟨oo,rfl⟩:=aq.q1 a0 Z;refine Qf 6 Z<|aF Z (fun F=>?_) (fun F=>?_)
 ·refine Oi 11 Z<|aQ (l:=zp [0,1,2,3,4,5,6,7,8,9]) U U<|wQ 1 Z<|aj Z Z (dS hp Z) Z<|dY hp Z Z Z Z (k:=5) U (lb Z) (fun _=>Z) (fun b3 a1=>?_);refine aj Z Z (RE ar a1 Z Z) Z<|wQ 1 Z ?_;obtain⟨b4,B,bb⟩:=dH F;refine Rt (e:=82) (m:=4) hk B Z Z Z Z Z (fun b5 be a2 a3 a4=>?_);have hr89rawx:=a4;refine QZ ar 2 [0,1] Z Z<|dJ Z Z (Rx Z Z Z) (fun _=>Z) (C6 Q _ _ _ _ _ a2 a3 hr89rawx _ _ ar) (fun O ar=>?_);refine⟨aX,?_⟩;refine aj Z Z (dq Z) Z<|Ql 2 Z<|aF Z (fun M=>?_) (fun M=>?_)
  ·refine QT 6 Z<|aJ<|ay<|bD<|aJ<|ay (?_);exact aB Z Z ⟨cB (by rw[hRX];unfold gJ;rw[lV B<|mn M];simp only[bf];simp only[mH b,mH d,mH u,mH A,C,ct,cf]<;>rfl),ar.pop.pop⟩
  refine aH<|aG<|QR 4 Z<|aL ⟨j9-1,by omega,oF,i+1,by omega,il ha B<|fX M,cI<|aY (by have:=hk.bL;omega),ar⟩
 refine PC 3 Z<|aS<|QT 6 Z ?_;exact aB Z Z ⟨cB (by rw[hRX];unfold gJ;rw[fE ha<|bz F];simp only[bf];simp only[mH b,mH d,mH u,mH A,C,ct,cf]<;>rfl),ar.pop.pop⟩
theorem uj {G:Cx} (hG:Plain G) {K:KP} (b3:mF G K) {k:Nat} {c:XC} {v:V} (hi:bF K 6 (iB K k) c.ins v) {O:N} {L:Own} (ar:D O K L):
  a8 Tryz.prog G 112 [.agg [.int .i64 c.br,v]] O fun v O'=>v= .int .i64 (dR k c)/\D O' K L:=by
 refine QO hG Tryz.func112 Z<|Qg 2 Z<|kp ar Z (cG Z Z) (fun O b1 ar=>?_);refine O6 ar 9 [0,0] Z Z<|ky Z (an Z) (fun d=>?_) (fun d=>?_)
 ·refine PH 15 Z ?_;exact aB Z Z ⟨cJ (by symm;unfold dR;rw[d];rfl),ar.pop⟩
 refine QY ar 2 [1,0] Z Z<|Y Z (RC hi Z Z Z (e:=79) Z) Z<|Qi 4 Z<|aF Z (fun am=>?_) (fun am=>?_)
 ·refine Qh 7 Z ?_;exact aB Z Z ⟨cJ (by symm;unfold dR;rw[d,show cq 4000 (.ofNat c.ins.length)=true from am];rfl),ar.pop⟩
 have h15x:cq 4000 (.ofNat c.ins.length)=false:=am;refine O2 5 Z<|QY ar 2 [1,0] Z Z<|Y Z (RC hi Z Z Z (e:=79) Z) Z<|PD 4 Z ?_;obtain⟨LL1,ar,hLL1⟩:=ar.named;refine bh (rg 2 4++rg 19 25) (fun j t O=>∃(i:Nat),j+i=c.ins.length/\(c.ins.take i).all (xC k)=true/\t.get 19=some (.int .i64 (.ofNat i))/\D O K LL1) (c.ins.length) ⟨0,Z,Z,Z,ar⟩ ?_;clear ar;intro j4 t O aq hI;obtain⟨i,cr,w,a2,ar⟩:=hI;subst hLL1;obtain⟨oo,rfl⟩:=aq.q1 a2 Z;refine Qf 6 Z<|aF Z (fun u=>?_) (fun u=>?_)
 ·refine Oj 12 Z<|QY ar 3 [1,0] Z Z ?_;obtain⟨F,C,b5⟩:=dH u;refine Rr (e:=79) (m:=6) hi C Z Z Z Z (fun cv b6 a3 b7 W=>?_);have hr25rawx:=W;have hr25':=W;obtain⟨cw,rfl,X⟩:=hr25';refine bJ a3 Z Z Z (k:=5) U (lb Z) (fun _=>Z) (fun cx a4=>?_);refine Y Z (RE ar a4 Z Z) Z<|Y Z (RC X Z Z Z (e:=82) Z) Z<|PD 4 Z ?_;obtain⟨LL2,ar,hLL2⟩:=ar.named;refine bh ([2,4,5]++rg 29 14) (fun j t O=>∃(i2:Nat),j+i2=F.exprs.length/\(F.exprs.take i2).all (fun e=>(ss k e 1 0).isSome)=true/\t.get 29=some (.int .i64 (.ofNat i2))/\D O K LL2) (F.exprs.length) ⟨0,Z,Z,Z,ar⟩ ?_;clear ar;intro j7 t O aq hI;obtain⟨i2,cH,a5,ba,ar⟩:=hI;subst hLL2;obtain⟨oo,rfl⟩:=aq.q1 ba Z;refine Qf 6 Z<|aF Z (fun ao=>?_) (fun ao=>?_)
  ·refine Oj 12 Z<|kp ar Z (RD (cs:=[J])) (fun O b2 ar=>?_);refine bE ar Z (RG Z Z Z ar.g0 (m:=1) Z Z (cells':=[_]) Z) Z (fun O ar=>?_);refine PL ar 7 [1,1] Z Z<|Rr (e:=79) (m:=6) hi C Z Z Z Z (fun c0 b8 bb b9 aa=>?_);have hr35rawx:=aa;have hr35':=aa;obtain⟨c1,rfl,be⟩:=hr35';refine bJ bb Z Z Z (k:=5) U (lb Z) (fun _=>Z) (fun c2 bi=>?_);refine Y Z (RE ar bi Z Z) Z<|vQ 1 Z ?_;obtain⟨c3,M,ca⟩:=dH ao;refine Rr (e:=82) (m:=4) be M Z Z Z Z (fun c4 cb bo bq bs=>?_);have hr39rawx:=bs;refine bR Z (Rx Z Z Z) (fun _=>Z) (Mb hG _ _ _ _ bo bq hr39rawx _ _ _ _ _ _ ar) ?_;rintro _ O ⟨m2,rfl,ar,c5⟩;refine Y Z (dq Z) Z<|Qi 2 Z<|aF Z (fun ap=>?_) (fun ap=>?_)
   ·refine QT 6 Z<|aJ<|ay<|bD<|aJ<|aJ<|ay<|bD<|aJ<|ay (?_);exact aB Z Z ⟨cJ (by symm;unfold dR;rw[d,show cq 4000 (.ofNat c.ins.length)=false from h15x,lV C (show xC k F=false from lV M (mn ap))];rfl),ar.pop.pop⟩
   refine aH<|aG<|QR 4 Z ?_;have ar:=ar.pop;refine aL ⟨j7-1,by omega,oF,i2+1,by omega,il a5 M<|fX ap,cI<|aY (by have:=X.bL;omega),ar⟩
  refine PC 3 Z<|aS<|aG<|QR 4 Z<|aL ⟨j4-1,by omega,oF,i+1,by omega,il w C (show xC k F=true from fE a5 (bz ao)),cI<|aY (by have:=hi.bL;omega),ar⟩
 refine PC 3 Z<|aS<|PJ ar 6 [0,0] Z Z<|ky Z (an Z) (fun z=>?_) (fun z=>?_)
 ·refine PH 15 Z ?_;exact aB Z Z ⟨cJ (by symm;unfold dR;rw[d,show cq 4000 (.ofNat c.ins.length)=false from h15x,fE w<|bz u,z];rfl),ar.pop⟩
 refine QY ar 2 [1,0] Z Z<|Y Z (RC hi Z Z Z (e:=79) Z) Z<|Qi 4 Z<|aF Z (fun aE=>?_) (fun aE=>?_)
 ·refine Qh 7 Z ?_;exact aB Z Z ⟨cJ (by symm;unfold dR;rw[d,show cq 4000 (.ofNat c.ins.length)=false from h15x,fE w<|bz u,z,show H (.ofNat c.ins.length) 0=true from aE];rfl),ar.pop⟩
 have h52x:H (.ofNat c.ins.length) 0=false:=aE;refine O2 5 Z<|QY ar 2 [1,0] Z Z<|Y Z (RC hi Z Z Z (e:=79) Z) Z<|PD 4 Z ?_;obtain⟨LL3,ar,hLL3⟩:=ar.named;refine bh ([2,6]++rg 56 11) (fun j t O=>∃(i:Nat),j+i=c.ins.length/\(c.ins.take i).all (gW c.br (.ofNat c.ins.length) k)=true/\t.get 56=some (.int .i64 (.ofNat i))/\D O K LL3) (c.ins.length) ⟨0,Z,Z,Z,ar⟩ ?_;clear ar;intro b4 t O aq hI;obtain⟨i,cc,A,bt,ar⟩:=hI;subst hLL3;obtain⟨oo,rfl⟩:=aq.q1 bt Z;refine Qf 6 Z<|aF Z (fun E=>?_) (fun E=>?_)
 ·refine Oi 11 Z<|aQ (l:=zp [0,1,2,3,4,5,6]) U U<|aj Z Z (RB Z ar.g0 (n:=2) (vs:=[_,_]) Z) Z<|QZ ar 3 [1,0] Z Z ?_;obtain⟨c7,Q,ce⟩:=dH E;refine Rt (e:=79) (m:=6) hi Q Z Z Z Z Z (fun c8 ch bv ci ab=>?_);have hr63rawx:=ab;have hr63':=ab;obtain⟨c9,rfl,ck⟩:=hr63';refine dJ Z Z (Rx Z Z Z) (fun _=>Z) (Ma hG b3 hi bv hr63rawx ar) (fun O ar=>?_);refine⟨aX,?_⟩;refine aj Z Z (dq Z) Z<|Ql 2 Z<|aF Z (fun a0=>?_) (fun a0=>?_)
  ·refine QT 6 Z<|aJ<|ay<|bD<|aJ<|ay (?_);exact aB Z Z ⟨cJ (by symm;unfold dR;rw[d,show cq 4000 (.ofNat c.ins.length)=false from h15x,fE w<|bz u,z,show H (.ofNat c.ins.length) 0=false from h52x,lV Q<|mn a0];rfl),ar.pop⟩
  refine aH<|aG<|QR 4 Z<|aL ⟨b4-1,by omega,oF,i+1,by omega,il A Q<|fX a0,cI<|aY (by have:=hi.bL;omega),ar⟩
 refine PC 3 Z<|aS<|PJ ar 7 [1,0,1,0] Z Z<|Y Z (RC hi Z Z Z (e:=79) Z) Z<|vQ 1 Z ?_;have cl:0<c.ins.length:=by rcases Nat.eq_zero_or_pos c.ins.length with e | e;rw[e] at h52x;cases h52x;exact e
 obtain⟨S,B⟩:=cT (show c.ins.length-1<c.ins.length from by omega);refine Rr (e:=79) (m:=6) hi B Z Z Z (cI<|qT (b:=1) oM hi.bL) (fun dd cn bw co ac=>?_);have hr73rawx:=ac;have hr73':=ac;obtain⟨dl,rfl,cp⟩:=hr73';refine bJ bw Z Z Z (k:=0) U (lb Z) (fun _=>Z) (fun dm b0=>?_);refine Y Z (RE ar b0 Z Z) Z<|PD 3 Z<|Pz 3 Z<|ky Z (az Z Z Z) (fun R=>?_) (fun R=>?_)
 ·refine PH 13 Z<|aJ<|ay (?_);exact aB Z Z ⟨cJ (by symm;unfold dR;rw[d,show cq 4000 (.ofNat c.ins.length)=false from h15x,fE w<|bz u,z,show H (.ofNat c.ins.length) 0=false from h52x,fE A<|bz E,B];show(bif kX S then(0:Int) else 2)=_;unfold kX;rw[R];rfl),ar.pop⟩
 refine PF 6 Z<|ky Z (az Z Z Z) (fun T=>?_) (fun T=>?_)
 ·refine PH 13 Z<|aJ<|ay (?_);exact aB Z Z ⟨cJ (by symm;unfold dR;rw[d,show cq 4000 (.ofNat c.ins.length)=false from h15x,fE w<|bz u,z,show H (.ofNat c.ins.length) 0=false from h52x,fE A<|bz E,B];show(bif kX S then(0:Int) else 2)=_;unfold kX;rw[R,T];rfl),ar.pop⟩
 refine Qj 5 Z<|ky Z (az Z Z Z) (fun a1=>?_) (fun a1=>?_)
 ·refine Qk 10 Z<|aJ<|ay (?_);exact aB Z Z ⟨cJ (by symm;unfold dR;rw[d,show cq 4000 (.ofNat c.ins.length)=false from h15x,fE w<|bz u,z,show H (.ofNat c.ins.length) 0=false from h52x,fE A<|bz E,B];show(bif kX S then(0:Int) else 2)=_;unfold kX;rw[R,T,a1];rfl),ar.pop⟩
 refine PG 6 Z<|QT 6 Z ?_;exact aB Z Z ⟨cJ (by symm;unfold dR;rw[d,show cq 4000 (.ofNat c.ins.length)=false from h15x,fE w<|bz u,z,show H (.ofNat c.ins.length) 0=false from h52x,fE A<|bz E,B];show(bif kX S then(0:Int) else 2)=_;unfold kX;rw[R,T,a1];rfl),ar.pop⟩
theorem vf {G:Cx} (E:Plain G) {K:KP} {k:Nat} {x:XI} {a:Nat} (C:a<9223372036854775807) {vs:List V} (h:iB K k x vs) {O:N} {L:Own} (ar:D O K L):
  a8 Tryz.prog G 216 [.agg vs,.int .i64 (.ofNat a)] O fun v O'=>∃M,dt 1 3 ek (ft x a) v M/\D O' K (M++L):=by
 obtain⟨w,rfl,hk⟩:=h;refine QO E Tryz.func216 Z<|Qg 2 Z<|kp ar Z (cG Z Z) (fun O b1 ar=>?_);refine O6 ar 8 [0,0] Z Z<|PD 3 Z<|Qg 2 Z<|ky Z (az Z Z Z) (fun A=>?_) (fun A=>?_)
 ·refine PL ar 8 [4,0] Z Z<|fY ar Z (cm (e:=3) (m:=1) (z:=[J]) (cs:=[_]) U U U U<|bj Z Z Z Z bO) (fun _=>Z) (fun O B ar=>?_);refine Qk 4 Z<|aJ<|ay (?_);exact aB Z Z ⟨[(B,_)],by unfold ft;rw[A];exact ke (xs:=[x.to]) (by simp),ar.sub (.cons_cons _ (.cons _ (.refl _)))⟩
 refine PF 6 Z<|ky Z (az Z Z Z) (fun b=>?_) (fun b=>?_)
 ·refine PF 7 Z<|Y Z (az Z Z (show _=some (V.int .i64 (.ofNat (a+1))) from cI (aY C))) Z<|QY ar 2 [4,0] Z Z<|fY ar Z (cm (e:=3) (m:=1) (z:=[J]) (cs:=[_,_]) U U U U<|bj Z Z Z Z<|bj Z Z Z Z bO) (fun _=>Z) (fun O B ar=>?_);refine Qk 4 Z<|aJ<|ay (?_);exact aB Z Z ⟨[(B,_)],by unfold ft;rw[A,b];exact ke (xs:=[.ofNat (a+1),x.to]) (by simp),ar.sub (.cons_cons _ (.cons _ (.refl _)))⟩
 refine O4 7 Z<|ky Z (az Z Z Z) (fun d=>?_) (fun d=>?_)
 ·refine PH 13 Z<|aJ<|ay (?_);exact aB Z Z ⟨[],.inl ⟨by unfold ft;rw[A,b,d];rfl,Z,Z⟩,ar.pop⟩
 refine Qj 5 Z<|ky Z (az Z Z Z) (fun u=>?_) (fun u=>?_)
 ·refine Qk 10 Z<|aJ<|ay (?_);exact aB Z Z ⟨[],.inl ⟨by unfold ft;rw[A,b,d,u];rfl,Z,Z⟩,ar.pop⟩
 refine PG 6 Z<|Qg 3 Z<|Y Z (az Z Z (show _=some (V.int .i64 (.ofNat (a+1))) from cI (aY C))) Z<|fY ar Z (cm (e:=3) (m:=1) (z:=[J]) (cs:=[_]) U U U U<|bj Z Z Z Z bO) (fun _=>Z) (fun O B ar=>?_);refine Qk 4 Z ?_;exact aB Z Z ⟨[(B,_)],by unfold ft;rw[A,b,d,u];exact ke (xs:=[.ofNat (a+1)]) (by simp),ar.sub (.cons_cons _ (.cons _ (.refl _)))⟩
theorem N6 {G:Cx} (b:Plain G) {K:KP} (x y:Int) {O:N} {L:Own} (ar:D O K L):a8 Tryz.prog G 163 [.int .i64 x,.int .i64 y] O fun v O'=>v= .bool false/\D O' K L:=by
 refine QO b Tryz.func163 Z<|QT 11 Z ?_;exact aB Z Z ⟨Z,ar⟩
theorem C9 {G:Cx} (hG:Plain G) {K:KP} {k:Nat} {c:XC} (hc:eS k c) {v:V} (hi:bF K 6 (iB K k) c.ins v) {O:N} {L:Own} (ar:D O K L):
  a8 Tryz.prog G 162 [.agg [.int .i64 c.br,v],.func 163 [] []] O fun v O'=>∃u M,v= .tuple [u,.bool (fj c).isSome]/\ns 1 3 ek (((fj c).getD []).map .ofNat) u M/\D O' K (M++L):=by
 have hN:∀i,i<c.ins.length->∀to∈dw c i,to<c.ins.length:=sY hc;have hlen:=hc.len;have hpos:=hc.pos;have htot:=C0 (c:=c);obtain⟨N_,bb⟩:∃N_,N_=2*total (dw c) c.ins.length+2:=⟨_,Z⟩;have hO:fj c=Be (dw c) N_ (BM c.ins.length):=by rw[bb];rfl
 refine QO hG Tryz.func162 Z<|Qg 2 Z<|kp ar Z (cG Z Z) (fun O b1 ar=>?_);refine PL ar 8 [1,0] Z Z<|Y Z (RC hi Z Z Z (e:=79) Z) Z<|fY ar Z (iy (e:=5) (w:=1) (z:=[gS 0]) U U U U Z Z oM oM) (fun _=>Z) (fun O b2 ar=>?_);rw[iL (f:=gS)] at ar;refine PL ar 7 [1,1] Z Z<|Y Z (RC hi Z Z Z (e:=79) Z) Z<|fY ar Z (iy (e:=3) (w:=8) (z:=[gI 0]) U U U U Z Z oM oM) (fun _=>Z) (fun O b3 ar=>?_);rw[iL (f:=gI)] at ar;refine PF 11 Z (Y Z (eI (e:=5) (m:=1) U U Z Z hpos) Z (ei ar (.there .here) Z (aK Z Z Z ar.g1 (m:=1) U Z (by rw[lM_];simp;omega) Z (cells':=((List.replicate c.ins.length 0).set 0 1).map (gS))<|eN (f:=gS) (v:=1) (by simp;omega) (by first | omega | rfl)) Z (fun O ar=>?_)));refine O4 5 Z<|fY ar Z (cm (e:=3) (m:=1) (z:=[J]) (cs:=[_]) U U U U<|bj Z Z Z Z bO) (fun _=>Z) (fun O b4 ar=>?_);refine PD 4 Z (bh ([4,5]++rg 8 5++rg 24 71) (fun j t O=>∃(s:DS) (u9 u8:V) (Mp Mo:Own),Od (dw c) c.ins.length s/\iS (dw c) c.ins.length s<=j/\s.out.length+iS (dw c) c.ins.length s<=N_/\Be (dw c) N_ (BM c.ins.length)=Be (dw c) (j+1) s/\ns 1 3 ek (s.out.map .ofNat) u8 Mo/\ns 1 3 ek (s.path.map .ofNat) u9 Mp/\t.get 8=some (u8)/\t.get 9=some (u9)/\D O K (Mo++(Mp++((b3,.row (s.gone.map gI) 3 false)::(b2,.row (s.st.map gS) 5 false)::(b1,.row [.int .i64 c.br,v] 33 false)::L)))) ((N_-1)) ⟨BM c.ins.length,_,.av,[(b4,.row [gI 0] 3 false)],[],zR hpos,by rw[I5];omega,by rw[I5];have:(BM c.ins.length).out.length=0:=rfl;omega,by rw[show N_-1+1=N_ from by omega],.inl ⟨Z,Z,Z⟩,(ke (xs:=[0]) (by simp)).Qe,Z,Z,ar⟩ ?_);clear ar;intro j6 t O aq hI;obtain⟨s,u9,u8,Mp,Mo,hw,X,ci,he,hOut,hP,be,bi,ar⟩:=hI;obtain⟨oo,rfl⟩:=aq.q2 be bi Z;refine Pz 4 Z<|Y Z (Bb hP Z Z Z (e:=3) U Z) Z<|ky Z (az Z Z Z) (fun aa=>?_) (fun aa=>?_)
 ·refine Qi 3 Z<|aH<|ad<|aM<|Qg 4 Z<|Y Z (Bb hP Z Z Z (e:=3) U Z) Z<|vQ 1 Z ?_;have ap:0<s.path.length:=by have:=bk (a:=0) aa;rwa[jy] at this
  obtain⟨a,A⟩:∃a,s.path.getLast?=some a:=by cases hq:s.path.getLast? with | none=>(rw[List.getLast?_eq_none_iff.1 hq] at ap;exact absurd ap<|Nat.lt_irrefl _) | some a=>exact⟨a,rfl⟩
  have hla':=Lt A;obtain⟨d,b7⟩:=hw.path a (gB_ hla');obtain⟨g,S⟩:∃g,s.gone[a]?=some g:=⟨_,gC (by rw[hw.sQ];exact d)⟩;obtain⟨aE,B⟩:=cT d;have ck:s.path.length<=iS (dw c) c.ins.length s:=by unfold iS;omega
  refine Rr (e:=3) (m:=1) (hP.gL (K:=K.m7 Mp) fun y hy=>.inr hy) (Jm hla') Z Z Z (cI ((congrArg (fun q=>wr .i64 (Int.sub (.ofNat q) 1))<|jy s.path).trans<|qT (b:=1) oM oM)) (fun cl b8 a0 b9 a1=>?_);obtain rfl:=a1;refine Y Z (RE (ar.bA.keeps) a0 Z Z) Z<|PL ar 6 [1] Z Z<|Y Z (Rz Z ar.bA.bA.pop.pop.g0 Z) Z<|vQ 1 Z<|Rr (e:=79) (m:=6) hi B Z Z Z Z (fun cn ca a2 cb T=>?_);have hr36raw:=T;have hr36':=T;obtain⟨co,rfl,cc⟩:=hr36';refine Y Z (RF ar a2 Z Z) Z<|vQ 1 Z<|bR Z (Rx Z Z Z) (fun _=>Z) (vf hG oM hr36raw ar) ?_;rintro cp O ⟨bo,hM39,ar⟩;replace ar:=ar.keeps;have hS39:=hM39.gL (K:=K.m7 bo) fun y hy=>.inr hy
  refine O4 8 Z<|Y Z (eI (e:=3) (m:=1) U U Z Z d) Z<|Y Z (ax Z ar.bA.bA.g0 U<|hH S (by first | omega | rfl)) Z<|vQ 1 Z<|Y Z (RC hS39 Z Z Z (e:=3) Z) Z<|Qi 3 Z<|aF Z (fun ab=>?_) (fun ab=>?_)
  ·refine Qg 4 Z (Y Z (eI (e:=5) (m:=1) U U Z Z d) Z (ei ar (.dv (.dv (.there .here))) Z (aK Z Z Z ar.bA.bA.pop.g0 (m:=1) U Z (by rw[lM_];rw[hw.KF];omega) Z (cells':=((s.st).set a 2).map (gS))<|eN (f:=gS) (v:=2) (by rw[hw.KF];exact d) (by first | omega | rfl)) Z (fun O ar=>?_)));refine PF 6 Z<|fY ar Z (cm (e:=3) (m:=1) (z:=[J]) (cs:=[_]) U U U U<|bj Z Z Z Z bO) (fun _=>Z) (fun O b5 ar=>?_);obtain⟨O,bq,bs,C,hOut2,ar⟩:=uU (P:=Tryz.prog) (ts:= #[34,34]) (t:=34) (e:=3) (l2:=[Int.ofNat a]) hOut ar (fq (xs:=[Int.ofNat a]) (.inr ⟨Z,Z⟩) (by simp)) ek.leaf (by simp) (by simp) (by rw[jy];omega) Z U U U;rw[show s.out.map Int.ofNat++[Int.ofNat a]=(s.out++[a]).map Int.ofNat from by rw[List.map_append];rfl] at hOut2;refine Y Z (ec Z Z Z Z U C) Z<|PF 7 Z<|Y Z (Bb hP Z Z Z (e:=3) U Z) Z<|vQ 1 Z ?_;obtain⟨bt,hP2,bv⟩:=hP.Pj (k:=s.path.length-1) (by rw[jy];omega);rw[HA] at hP2;refine Y Z (a9 Z<|bv U U Z (show _=some (V.int .i64 (.ofNat (s.path.length-1))) from cI ((congrArg (fun q=>wr .i64 (Int.sub (.ofNat q) 1))<|jy s.path).trans<|qT (b:=1) oM oM))) Z<|PI 5 Z<|aS ?_;replace ar:=ar.weaken (KP.dI _ _);have hd:=GQ S (Jd B (by have:=iJ_ (eqv ab);omega));obtain⟨E,a3,a4⟩:=pA hw hN A hd;refine aL ⟨j6-1,by have:1<=j6:=(by unfold iS at X;omega);omega,oF,_,bt,bq,Mp,bs,E,by omega,by omega,by rw[he,show j6+1=(j6-1+1)+1 from by omega];exact we A hd,hOut2,hP2,Z,Z,ar⟩
  refine PB 7 Z<|Y Z (eI (e:=3) (m:=1) U U Z Z d) Z<|Y Z (ax Z ar.bA.bA.g0 U<|hH S (by first | omega | rfl)) Z ?_;have bw:g<(ft aE a).length:=by have h1:=hw.gone a g S;rw[tW B] at h1;have:=DM ab;omega
  obtain⟨cr,W⟩:=cT bw;obtain⟨to,rfl,F,ac⟩:=tV hc B W;obtain⟨sv,hv⟩:∃sv,s.st[to]?=some sv:=⟨_,gC (by rw[hw.KF];exact F)⟩;refine Rr (e:=3) (m:=1) hS39 W Z Z Z Z (fun cv ce a5 ch ba=>?_);obtain rfl:=ba;refine Y Z (RE ar a5 Z Z) Z<|PF 7 Z<|Y Z (eI (e:=3) (m:=1) U U Z Z d) Z<|Y Z (ax Z ar.bA.bA.g0 U<|hH S (by first | omega | rfl)) Z<|vQ 1 Z<|Y Z (eI (e:=3) (m:=1) U U Z Z d) Z ?_;refine ei ar (.dv (.dv .here)) Z (aK Z Z (show _=some [gI (g+1)] from congrArg (fun z=>some [V.int .i64 z]) (aY (by have h1:=hw.gone a g S;rw[tW B] at h1;have:=Cj aE a;omega))) ar.bA.bA.g0 (m:=1) U Z (by rw[lM_];rw[hw.sQ];omega) Z (cells':=((s.gone).set a (g+1)).map (gI)) (eN (f:=gI) (v:=(g+1)) (by rw[hw.sQ];exact d) (by first | omega | rfl))) Z (fun O ar=>?_);refine O4 8 Z<|bc Z (Rx Z Z Z) (fun _=>Z) (N6 hG _ _ ar) (fun O ar=>?_);refine QV 3 Z<|Y Z (eI (e:=5) (m:=1) U U Z Z F) Z<|Y Z (ax Z ar.bA.bA.pop.g0 U<|hH hv (by first | omega | rfl)) Z<|Qi 4 Z<|aF Z (fun am=>?_) (fun am=>?_)
  ·refine bg<|aU<|aS ?_;replace ar:=ar.weaken (KP.dI _ _);have hd:=DJ S ac (by rw[hv];exact congrArg some<|iJ_<|eqv am);obtain⟨E,a3,a4⟩:=pA hw hN A hd;refine aL ⟨j6-1,by have:1<=j6:=(by unfold iS at X;omega);omega,oF,_,u9,u8,Mp,Mo,E,by omega,by omega,by rw[he,show j6+1=(j6-1+1)+1 from by omega];exact we A hd,hOut,hP,Z,Z,ar⟩
  refine O2 7 Z<|Y Z (eI (e:=5) (m:=1) U U Z Z F) Z<|Y Z (ax Z ar.bA.bA.pop.g0 U<|hH hv (by first | omega | rfl)) Z<|Qi 3 Z<|aF Z (fun ao=>?_) (fun ao=>?_)
  ·refine QT 7 Z<|ay<|aJ<|bD<|aJ<|ay (?_);have Q:fj c=none:=by rw[hO,he];exact Io A<|DH S ac (by rw[hv];exact congrArg some<|iJ_<|eqv ao)
   replace ar:=ar.weaken (KP.dI _ _);exact cR Z Z Z ⟨_,[],by rw[Q];rfl,by rw[Q];exact .inl ⟨Z,Z,Z⟩,ar.bA.bA.pop.pop.pop⟩
  refine PB 6 Z (Y Z (eI (e:=5) (m:=1) U U Z Z F) Z (ei ar (.dv (.dv (.there .here))) Z (aK Z Z Z ar.bA.bA.pop.g0 (m:=1) U Z (by rw[lM_];rw[hw.KF];omega) Z (cells':=((s.st).set to 1).map (gS))<|eN (f:=gS) (v:=1) (by rw[hw.KF];exact F) (by first | omega | rfl)) Z (fun O ar=>?_)));refine Qj 5 Z<|fY ar Z (cm (e:=3) (m:=1) (z:=[J]) (cs:=[_]) U U U U<|bj Z Z Z Z bO) (fun _=>Z) (fun O b5 ar=>?_);replace ar:=ar.DX;obtain⟨O,b0,b6,C,hP2,ar⟩:=uU (P:=Tryz.prog) (ts:= #[34,34]) (t:=34) (e:=3) (l2:=[Int.ofNat to]) hP ar (fq (xs:=[Int.ofNat to]) (.inr ⟨Z,Z⟩) (by simp)) ek.leaf (by simp) (by simp) (by rw[jy];omega) Z U U U;replace ar:=ar.front;rw[show s.path.map Int.ofNat++[Int.ofNat to]=(s.path++[to]).map Int.ofNat from by rw[List.map_append];rfl] at hP2;refine Y Z (ec Z Z Z Z U C) Z<|QU 2 Z<|aG ?_;replace ar:=ar.weaken (KP.dI _ _);have hd:=DI S ac hv (DM (b:=2) am) (DM (b:=1) ao);obtain⟨E,a3,a4⟩:=pA hw hN A hd;refine aL ⟨j6-1,by have:1<=j6:=(by unfold iS at X;omega);omega,oF,_,b0,u8,b6,Mo,E,by omega,by omega,by rw[he,show j6+1=(j6-1+1)+1 from by omega];exact we A hd,hOut,hP2,Z,Z,ar⟩
 refine PI 5 Z<|aW<|aS<|QT 8 Z ?_;have R:fj c=some s.out:=by rw[hO,he];exact KZ (by have:=bz (a:=0) aa;rw[jy] at this;omega)
 exact cR Z Z Z ⟨u8,Mo,by rw[R];rfl,by rw[R];exact hOut,ar.sub<|eO (.trans (.cons _ (.cons _ (.cons _ (.refl _))))<|List.sublist_append_right _ _)⟩
theorem Kg {G:Cx} (d:Plain G) {K:KP} (u:mF G K) {k:Nat} {c:XC} {v:V} (hi:bF K 6 (iB K k) c.ins v) {O:N} {L:Own} (ar:D O K L):
  a8 Tryz.prog G 111 [.agg [.int .i64 c.br,v]] O fun v O'=>v= .bool (jt k c)/\D O' K L:=by
 refine QO d Tryz.func111 Z<|Qg 2 Z<|kp ar Z (cG Z Z) (fun O b1 ar=>?_);refine O4 6 Z<|Y Z (RB Z ar.g0 (n:=2) (vs:=[_,_]) Z) Z<|bc Z (Rx Z Z Z) (fun _=>Z) (uj d u hi ar) (fun O ar=>?_);refine Qi 3 Z<|aF Z (fun b=>?_) (fun b=>?_)
 ·refine Qh 7 Z ?_;exact aB Z Z ⟨cB (by unfold jt;rw[show bf (H (dR k c) 0)=true from b];rfl),ar.pop⟩
 have w:dR k c=0:=eqv (bl b);refine PB 4 Z<|Y Z (RB Z ar.g0 (n:=2) (vs:=[_,_]) Z) Z<|bR Z (Rx Z Z Z) (fun _=>Z) (C9 d (px w) hi ar) ?_;rintro _ O ⟨aa,ab,rfl,hM10,ar⟩;refine Qk 14 Z ?_;exact aB Z Z ⟨cB (by unfold jt;rw[show bf (H (dR k c) 0)=false from b];rfl),ar.bA.pop⟩
def vR (x:Int):Int:=bif (bif (bif cq x 2 then false else true) then(bif cq 7 x then false else true) else false) then 1 else 0
theorem NY {G:Cx} (d:Plain G) {K:KP} (x:Int) {O:N} {L:Own} (ar:D O K L):a8 Tryz.prog G 193 [.int .i64 x] O fun v O'=>v= .int .i64 (vR x)/\D O' K L:=by
 refine QO d Tryz.func193 Z<|Pz 10 Z<|ky Z (an Z) (fun h5=>?_) (fun h5=>?_)
 ·refine Qi 5 Z<|aF Z (fun b=>?_) (fun b=>?_)
  ·refine Qh 7 Z ?_;exact aB Z Z ⟨cJ (by unfold vR;simp only[h5,b,ct,cf]),ar⟩
  refine Qh 8 Z ?_;exact aB Z Z ⟨cJ (by unfold vR;simp only[h5,b,ct,cf]),ar⟩
 refine PH 14 Z ?_;exact aB Z Z ⟨cJ (by unfold vR;simp only[h5,ct,cf]),ar⟩
abbrev gZ (n:Int):V:=.int .i64 n
def vr (fr:List Int):List Int->Int->Int
 | [],m=>m
 | t::r,m=>vr fr r (bif cq m ((fr[t.toNat]?).getD 0) then(fr[t.toNat]?).getD 0 else m)
def sX (c:XC) (fr:List Int) (a:Nat):List Int:=match c.ins[a]? with | some x=>fr.set a (wr .i64<|Int.add (vR x.kind)<|vr fr (ft x a) 0) | none=>fr
def iT (c:XC):List Nat->List Int->List Int
 | [],fr=>fr
 | a::r,fr=>iT c r (sX c fr a)
def tF (k:Nat) (c:XC):Int:=
 bif bf (H (dR k c) 0) then-1 else match fj c with | some out=>((iT c out<|List.replicate c.ins.length 0)[0]?).getD 0 | none=>-1
theorem Hc (c:XC) (fr:List Int) (a:Nat):(sX c fr a).length=fr.length:=by unfold sX;cases c.ins[a]?<;>simp
theorem yZ {c:XC}:∀{l:List Nat} {fr:List Int},(iT c l fr).length=fr.length
 | [],_=>rfl
 | a::l,fr=>by show(iT c l<|sX c fr a).length=_;rw[yZ,Hc]
theorem I9 {c:XC} {l:List Nat} {i a:Nat} {fr:List Int} (h:l[i]?=some a):iT c (l.drop i) fr=iT c (l.drop (i+1)) (sX c fr a):=by rw[bX h];rfl
theorem Lu {fr l:List Int} {i:Nat} {t:Int} {m:Int} (h:l[i]?=some t):vr fr (l.drop i) m=vr fr (l.drop (i+1)) (bif cq m ((fr[t.toNat]?).getD 0) then(fr[t.toNat]?).getD 0 else m):=by rw[bX h];rfl
theorem N5 {G:Cx} (W:Plain G) {K:KP} (a5:mF G K) {k:Nat} {c:XC} {v:V} (hi:bF K 6 (iB K k) c.ins v) {O:N} {L:Own} (ar:D O K L):
  a8 Tryz.prog G 192 [.agg [.int .i64 c.br,v],.func 193 [] []] O fun v O'=>v= .int .i64 (tF k c)/\D O' K L:=by
 refine QO W Tryz.func192 Z<|Qg 2 Z<|kp ar Z (cG Z Z) (fun O b1 ar=>?_);refine O4 6 Z<|Y Z (RB Z ar.g0 (n:=2) (vs:=[_,_]) Z) Z<|bc Z (Rx Z Z Z) (fun _=>Z) (uj W a5 hi ar) (fun O ar=>?_);refine Qi 3 Z<|aF Z (fun B=>?_) (fun B=>?_)
 ·refine Qh 7 Z ?_;exact aB Z Z ⟨cJ (by unfold tF;rw[show bf (H (dR k c) 0)=true from B];rfl),ar.pop⟩
 have u:dR k c=0:=eqv (bl B);refine PB 4 Z<|Y Z (RB Z ar.g0 (n:=2) (vs:=[_,_]) Z) Z<|bR Z (Rx Z Z Z) (fun _=>Z) (C9 W (px u) hi ar) ?_;rintro _ O ⟨ba,M17,rfl,hM17,ar⟩;refine O4 11 Z<|ky Z (dq Z) (fun R=>?_) (fun R=>?_)
 ·refine PH 10 Z ?_;exact aB Z Z ⟨cJ (by unfold tF;rw[show bf (H (dR k c) 0)=false from B];show _=(match fj c with | some out=>_ | none=>_);rw[show fj c=none from by have:=mn R;cases hq:fj c with | none=>rfl | some q=>(rw[hq] at this;cases this)]),ar.bA.pop⟩
 refine O5 7 Z ?_;obtain⟨out,C⟩:=Option.isSome_iff_exists.1 (fX R);have hR:=rX (sY<|px u) (zR (px u).pos) (show Be _ _ _=some out from C);have hlen:=(px u).len;have hpos:=(px u).pos;rw[C] at hM17;replace hM17:ns 1 3 ek (out.map Int.ofNat) ba M17:=hM17;refine Y Z (Ry 1 Z) Z<|Y Z (Rz Z ar.bA.g0 Z) Z<|Y Z (RC hi Z Z Z (e:=79) Z) Z<|fY ar Z (iy (e:=3) (w:=8) (z:=[gZ 0]) U U U U Z Z oM oM) (fun _=>Z) (fun O b2 ar=>?_);rw[iL (f:=gZ)] at ar;refine O4 7 Z (Y Z (Bb hM17 Z Z Z (e:=3) U Z) Z (PD 4 Z (bh ([9,10,12]++rg 29 37) (fun j t O=>∃(i:Nat) (fr:List Int),j+i=out.length/\fr.length=c.ins.length/\iT c out (List.replicate c.ins.length 0)=iT c (out.drop i) fr/\t.get 29=some (.int .i64 (.ofNat i))/\D O K ((b2,.row (fr.map gZ) 3 false)::(M17++(b1,.row [.int .i64 c.br,v] 33 false)::L))) (out.length) ⟨0,_,Z,by simp,Z,Z,ar⟩ ?_)));clear ar;intro j8 t O aq hI;obtain⟨i,fr,b8,bb,X,aa,ar⟩:=hI;obtain⟨oo,rfl⟩:=aq.q1 aa Z;refine Qg 2 Z ?_;skip;refine ky Z (az Z Z Z) (fun A=>?_) (fun A=>?_)
 ·refine Ok 10 Z ?_;obtain⟨a,S⟩:=cT (show i<out.length from by have:=bk A;rwa[jy] at this);have han:=hR.lt a (gB_ S);obtain⟨b,d⟩:=cT han;refine Rr (e:=3) (m:=1) (hM17.gL (K:=K.m7 M17) fun y hy=>.inr hy) (Jm S) Z Z Z Z (fun b9 bo ab bq ac=>?_);obtain rfl:=ac;refine Y Z (RE (ar.pop.keeps) ab Z Z) Z<|O6 ar 12 [1] Z Z<|Y Z (Rz Z ar.pop.bA.g0 Z) Z<|vQ 1 Z<|Rr (e:=79) (m:=6) hi d Z Z Z Z (fun ca bs am bt F=>?_);have hr36raw:=F;have hr36':=F;obtain⟨cb,rfl,bv⟩:=hr36';refine Y Z (RF ar am Z Z) Z<|vQ 1 Z<|bR Z (Rx Z Z Z) (fun _=>Z) (vf W oM hr36raw ar) ?_;rintro cc O ⟨ao,hM39,ar⟩;replace ar:=ar.keeps;have hS39:=hM39.gL (K:=K.m7 ao) fun y hy=>.inr hy
  refine Y Z (RC hS39 Z Z Z (e:=3) Z) Z<|PD 4 Z ?_;obtain⟨LL2,ar,hLL2⟩:=ar.named;refine bh ([10,12]++rg 41 11) (fun j t O=>∃(i2:Nat) (m:Int),j+i2=(ft b a).length/\vr fr (ft b a) 0=vr fr ((ft b a).drop i2) m/\t.get 10=some (.int .i64 m)/\t.get 41=some (.int .i64 (.ofNat i2))/\D O (K.m7 ao) LL2) ((ft b a).length) ⟨0,0,Z,Z,Z,Z,ar⟩ ?_;clear ar;intro be t O aq hI;obtain⟨i2,m,bw,M,ap,aE,ar⟩:=hI;subst hLL2;obtain⟨oo,rfl⟩:=aq.q2 ap aE Z;refine Qg 2 Z<|ky Z (az Z Z Z) (fun T=>?_) (fun T=>?_)
  ·refine Ok 10 Z ?_;obtain⟨ce,E,b0⟩:=dH T;refine Rr (e:=3) (m:=1) hS39 E Z Z Z Z (fun ch b3 a0 b4 a1=>?_);obtain rfl:=a1;obtain⟨to,rfl,bi,ci⟩:=tV (px u) d E;obtain⟨y,hy⟩:=cT (show to<fr.length from by omega);refine Y Z (RE ar a0 Z Z) Z<|Qj 7 Z<|Y Z (eI (e:=3) (m:=1) U U Z Z bi) Z<|Y Z (ax Z ar.g0 U<|hH hy (by first | omega | rfl)) Z<|Y Z (Pr Z Z Z Z) Z<|QU 2 Z<|aG<|QR 4 Z<|aL ⟨be-1,by omega,oF,i2+1,_,by omega,by rw[M,Lu E,show(Int.ofNat to).toNat=to from Z,hy];rfl,Z,cI<|aY (by have:=hS39.bL;omega),ar⟩
  refine PE 4 Z<|PC 3 Z<|aS<|ad<|ai Z ?_;replace ar:=ar.weaken (KP.dI _ _);refine QY ar 4 [1] Z Z<|Y Z (Rz Z ar.pop.bA.g0 Z) Z<|vQ 1 Z<|Rr (e:=79) (m:=6) hi d Z Z Z Z (fun ck b5 a2 b6 Q=>?_);have hr58raw:=Q;have hr58':=Q;obtain⟨cl,rfl,b7⟩:=hr58';refine bJ a2 Z Z Z (k:=0) U (lb Z) (fun _=>Z) (fun cn a3=>?_);refine Y Z (RE ar a3 Z Z) Z<|bc Z (Rx Z Z Z) (fun _=>Z) (NY W _ ar) (fun O ar=>?_);refine QV 2 Z (Y Z (eI (e:=3) (m:=1) U U Z Z han) Z (ei ar .here Z (aK Z Z Z ar.g0 (m:=1) U Z (by rw[lM_];omega) Z (cells':=((fr).set a<|wr .i64<|Int.add (vR b.kind) m).map (gZ)) (eN (f:=gZ) (v:=(wr .i64<|Int.add (vR b.kind) m)) oM (by first | omega | rfl))) Z (fun O ar=>?_)));refine ah<|aG<|QR 4 Z ?_;refine aL ⟨j8-1,by have:=bk A;rw[jy] at this;omega,oF,i+1,_,by have:=bk A;rw[jy] at this;omega,by rw[List.length_set];exact bb,by rw[X,I9 S];unfold sX;rw[d];show iT c _ (fr.set a<|wr .i64<|Int.add (vR b.kind)<|vr fr (ft b a) 0)=_;rw[show vr fr (ft b a) 0=m from by rw[M,ej<|bz T];rfl],cI<|aY (by have:=bk A;have:=hM17.bL;omega),ar⟩
 refine PE 4 Z<|PC 3 Z<|aS<|Qg 3 Z ?_;obtain⟨y0,a4⟩:=cT (show 0<fr.length from by omega);refine Y Z (eI (e:=3) (m:=1) U U Z Z hpos) Z<|Y Z (ax Z ar.g0 U<|hH a4 (by first | omega | rfl)) Z<|Qk 4 Z ?_;exact aB Z Z ⟨cJ (by unfold tF;rw[show bf (H (dR k c) 0)=false from B];show _=(match fj c with | some out=>_ | none=>_);rw[C];show _=((iT c out<|List.replicate c.ins.length 0)[0]?).getD 0;rw[X,ej (by have:=bz A;rwa[jy] at this)];show y0=(fr[0]?).getD 0;rw[a4];rfl),ar.pop.bA.pop⟩
theorem EZ {G:Cx} (d:Plain G) {K:KP} (b:mF G K) {k:Nat} {c:XC} {v:V} (hi:bF K 6 (iB K k) c.ins v) {O:N} {L:Own} (ar:D O K L):
  a8 Tryz.prog G 140 [.agg [.int .i64 c.br,v]] O fun v O'=>v= .int .i64 (tF k c)/\D O' K L:=by
 refine QO d Tryz.func140 Z<|Qg 2 Z<|kp ar Z (cG Z Z) (fun O b1 ar=>?_);refine PF 5 Z<|Y Z (RB Z ar.g0 (n:=2) (vs:=[_,_]) Z) Z<|bc Z (Rx Z Z Z) (fun _=>Z) (N5 d b hi ar) (fun O ar=>?_);refine Qk 4 Z ?_;exact aB Z Z ⟨Z,ar.pop⟩
theorem lJ {G:Cx} (d:Plain G) {K:KP} (b:Bool) {O:N} {L:Own} (ar:D O K L):a8 Tryz.prog G 259 [.bool b] O fun v O'=>v= .int .i64 (qf b)/\D O' K L:=by
 refine QO d Tryz.func259 Z<|Qf 11 Z<|aF Z (fun h3=>?_) (fun h3=>?_)
 ·refine Qh 7 Z ?_;exact aB Z Z ⟨by rw[h3];rfl,ar⟩
 refine Qh 8 Z ?_;exact aB Z Z ⟨by rw[h3];rfl,ar⟩
theorem MG {G:Cx} (d:Plain G) {K:KP} (op a:Int) {O:N} {L:Own} (ar:D O K L):a8 Tryz.prog G 225 [.int .i64 op,.int .i64 a] O fun v O'=>v= .int .i64 (Hi op a)/\D O' K L:=by
 refine QO d Tryz.func225 Z<|Qf 12 Z<|aF Z (fun b=>?_) (fun b=>?_)
 ·refine Qg 3 Z ?_;refine Y Z (gY (j:=.i64) (k:=.u64) U U U Z) Z ?_;refine vQ 1 Z ?_;refine Y Z (gY (j:=.u64) (k:=.i64) U U U Z) Z ?_;refine PH 5 Z ?_;exact aB Z Z ⟨cJ (by unfold Hi;rw[b];rfl),ar⟩
 refine PB 6 Z<|bc Z (Rx Z Z Z) (fun _=>Z) (lJ d _ ar) (fun O ar=>?_);refine Qk 4 Z ?_;exact aB Z Z ⟨cJ (by unfold Hi;rw[b];rfl),ar⟩
theorem Kr {G:Cx} (M:Plain G) {K:KP} (op a b:Int) {O:N} {L:Own} (ar:D O K L):a8 Tryz.prog G 226 [.int .i64 op,.int .i64 a,.int .i64 b] O fun v O'=>v= .int .i64 (oN op a b)/\D O' K L:=by
 refine QO M Tryz.func226 Z<|Qg 8 Z ?_;refine Y Z (gY (j:=.i64) (k:=.u64) U U U Z) Z ?_;refine vQ 1 Z ?_;refine Y Z (gY (j:=.i64) (k:=.u64) U U U Z) Z ?_;refine Ok 13 Z<|ky Z (az Z Z Z) (fun d=>?_) (fun d=>?_)
 ·refine PF 8 Z<|ky Z (an Z) (fun R=>?_) (fun R=>?_)
  ·refine QV 3 Z<|bc Z (Rx Z Z Z) (fun _=>Z) (lJ M _ ar) (fun O ar=>?_);refine Qk 4 Z<|aJ<|ay (?_);exact aB Z Z ⟨cJ (by unfold oN;simp only[d,ct,cf];simp only[bf];simp only[R,ct,cf]),ar⟩
  refine QV 3 Z<|bc Z (Rx Z Z Z) (fun _=>Z) (lJ M _ ar) (fun O ar=>?_);refine Qk 4 Z<|aJ<|ay (?_);exact aB Z Z ⟨cJ (by unfold oN;simp only[d,ct,cf];simp only[bf];simp only[R,ct,cf]),ar⟩
 refine PF 6 Z<|ky Z (az Z Z Z) (fun u=>?_) (fun u=>?_)
 ·refine PF 8 Z<|ky Z (an Z) (fun S=>?_) (fun S=>?_)
  ·refine QV 3 Z<|bc Z (Rx Z Z Z) (fun _=>Z) (lJ M _ ar) (fun O ar=>?_);refine Qk 4 Z<|aJ<|ay (?_);exact aB Z Z ⟨cJ (by unfold oN;simp only[d,u,ct,cf];simp only[bf];simp only[S,ct,cf]),ar⟩
  refine QV 3 Z<|bc Z (Rx Z Z Z) (fun _=>Z) (lJ M _ ar) (fun O ar=>?_);refine Qk 4 Z<|aJ<|ay (?_);exact aB Z Z ⟨cJ (by unfold oN;simp only[d,u,ct,cf];simp only[bf];simp only[S,ct,cf]),ar⟩
 refine PF 6 Z<|ky Z (az Z Z Z) (fun w=>?_) (fun w=>?_)
 ·refine PF 9 Z<|bc Z (Rx Z Z Z) (fun _=>Z) (lJ M _ ar) (fun O ar=>?_);refine Qk 4 Z<|aJ<|ay (?_);exact aB Z Z ⟨cJ (by unfold oN;simp only[d,u,w,ct,cf]<;>rfl),ar⟩
 refine PF 6 Z<|ky Z (az Z Z Z) (fun z=>?_) (fun z=>?_)
 ·refine PF 9 Z<|bc Z (Rx Z Z Z) (fun _=>Z) (lJ M _ ar) (fun O ar=>?_);refine Qk 4 Z<|aJ<|ay (?_);exact aB Z Z ⟨cJ (by unfold oN;simp only[d,u,w,z,ct,cf]<;>rfl),ar⟩
 refine PF 6 Z<|ky Z (az Z Z Z) (fun A=>?_) (fun A=>?_)
 ·refine PF 9 Z<|bc Z (Rx Z Z Z) (fun _=>Z) (lJ M _ ar) (fun O ar=>?_);refine Qk 4 Z<|aJ<|ay (?_);exact aB Z Z ⟨cJ (by unfold oN;simp only[d,u,w,z,A,ct,cf]<;>rfl),ar⟩
 refine PF 6 Z<|ky Z (az Z Z Z) (fun B=>?_) (fun B=>?_)
 ·refine PF 9 Z<|bc Z (Rx Z Z Z) (fun _=>Z) (lJ M _ ar) (fun O ar=>?_);refine Qk 4 Z<|aJ<|ay (?_);exact aB Z Z ⟨cJ (by unfold oN;simp only[d,u,w,z,A,B,ct,cf]<;>rfl),ar⟩
 refine PF 6 Z<|ky Z (az Z Z Z) (fun C=>?_) (fun C=>?_)
 ·refine PF 9 Z ?_;refine Y Z (gY (j:=.u64) (k:=.i64) U U U Z) Z ?_;refine Qk 4 Z<|aJ<|ay (?_);exact aB Z Z ⟨cJ (by unfold oN;simp only[d,u,w,z,A,B,C,ct,cf]<;>rfl),ar⟩
 refine PF 6 Z<|ky Z (az Z Z Z) (fun E=>?_) (fun E=>?_)
 ·refine PF 9 Z ?_;refine Y Z (gY (j:=.u64) (k:=.i64) U U U Z) Z ?_;refine Qk 4 Z<|aJ<|ay (?_);exact aB Z Z ⟨cJ (by unfold oN;simp only[d,u,w,z,A,B,C,E,ct,cf]<;>rfl),ar⟩
 refine PF 6 Z<|ky Z (az Z Z Z) (fun F=>?_) (fun F=>?_)
 ·refine PF 9 Z ?_;refine Y Z (gY (j:=.u64) (k:=.i64) U U U Z) Z ?_;refine Qk 4 Z<|aJ<|ay (?_);exact aB Z Z ⟨cJ (by unfold oN;simp only[d,u,w,z,A,B,C,E,F,ct,cf]<;>rfl),ar⟩
 refine PF 6 Z<|ky Z (az Z Z Z) (fun Q=>?_) (fun Q=>?_)
 ·refine PF 9 Z ?_;refine Y Z (gY (j:=.u64) (k:=.i64) U U U Z) Z ?_;refine Qk 4 Z<|aJ<|ay (?_);exact aB Z Z ⟨cJ (by unfold oN;simp only[d,u,w,z,A,B,C,E,F,Q,ct,cf]<;>rfl),ar⟩
 refine PF 6 Z<|ky Z (az Z Z Z) (fun T=>?_) (fun T=>?_)
 ·refine PF 9 Z ?_;refine Y Z (gY (j:=.u64) (k:=.i64) U U U Z) Z ?_;refine Qk 4 Z<|aJ<|ay (?_);exact aB Z Z ⟨cJ (by unfold oN;simp only[d,u,w,z,A,B,C,E,F,Q,T,ct,cf]<;>rfl),ar⟩
 refine PG 6 Z<|Qg 5 Z ?_;refine Y Z (gY (j:=.u64) (k:=.i64) U U U Z) Z ?_;refine Qk 4 Z ?_;exact aB Z Z ⟨cJ (by unfold oN;simp only[d,u,w,z,A,B,C,E,F,Q,T,ct,cf]<;>rfl),ar⟩
theorem QG {G:Cx} (hG:Plain G) {K:KP} {l:List Int} {v:V} (hl:bF K 1 ek l v) (op:Int) {O:N} {L:Own} (ar:D O K L):a8 Tryz.prog G 168 [.int .i64 op,v] O fun v O'=>v= .tuple [.int .i64 (rZ op l).1,.int .i64 (rZ op l).2]/\D O' K L:=by
 refine QO hG Tryz.func168 Z<|Qf 7 Z<|aM<|Qg 4 Z<|ky Z (an Z) (fun R=>?_) (fun R=>?_)
 ·refine QV 5 Z<|Y Z (RC hl Z Z Z (e:=2) Z) Z<|Qi 5 Z<|aF Z (fun S=>?_) (fun S=>?_)
  ·refine Qg 4 Z ?_;obtain⟨ap,C⟩:=cT (show 0<l.length from by have:=iJ_ (eqv (b:=.ofNat 1) S);omega);refine Rr (e:=2) (m:=1) hl C Z Z Z Z (fun a3 aq T aE W=>?_);obtain rfl:=W;refine Y Z (RE ar T Z Z) Z<|bc Z (Rx Z Z Z) (fun _=>Z) (MG hG _ _ ar) (fun O ar=>?_);refine Qk 5 Z<|aJ<|ay (?_);exact cR Z Z Z ⟨by rw[show rZ op l=(Hi op ap,0) from by unfold rZ;simp only[bf];simp only[R,S,ct];rw[C]<;>rfl],ar⟩
  refine Qg 4 Z<|ky Z (an Z) (fun d=>?_) (fun d=>?_)
  ·refine QV 3 Z<|ky Z (an Z) (fun u=>?_) (fun u=>?_)
   ·refine vQ 1 Z<|Y Z (RC hl Z Z Z (e:=2) Z) Z<|Qi 5 Z<|aF Z (fun w=>?_) (fun w=>?_)
    ·refine ak<|aQ (l:=zp [0,1,2,3,4,5,6,7,8,9]) U U<|QW 2 Z ?_;have a0:l.length=2:=iJ_ (eqv (b:=.ofNat 2) w);obtain⟨X,z⟩:=cT (show 0<l.length from by omega);obtain⟨aa,A⟩:=cT (show 1<l.length from by omega);refine Rt (e:=2) (m:=1) hl z Z Z Z Z Z (fun a1 ab E ac F=>?_);obtain rfl:=F;refine aj Z Z (RE ar E Z Z) Z<|wQ 1 Z<|Rt (e:=2) (m:=1) hl A Z Z Z Z Z (fun a2 am M ao Q=>?_);obtain rfl:=Q;refine aj Z Z (RE ar M Z Z) Z<|dJ Z Z (Rx Z Z Z) (fun _=>Z) (Kr hG _ _ _ ar) (fun O ar=>?_);refine⟨aX,?_⟩;refine Qm 5 Z<|aJ<|ay (?_);exact cR Z Z Z ⟨by rw[show rZ op l=(oN op X aa,0) from by unfold rZ;simp only[bf];simp only[R,S,d,u,w,ct,cf];rw[z,A]<;>rfl],ar⟩
    refine aH<|aG<|QT 7 Z ?_;exact cR Z Z Z ⟨by rw[show rZ op l=(0,2) from by unfold rZ;simp only[bf];simp only[R,S,d,u,w,ct,cf]]<;>rfl,ar⟩
   refine PG 10 Z<|QT 7 Z ?_;exact cR Z Z Z ⟨by rw[show rZ op l=(0,2) from by unfold rZ;simp only[bf];simp only[R,S,d,u,ct,cf]]<;>rfl,ar⟩
  refine PG 14 Z<|QT 7 Z ?_;exact cR Z Z Z ⟨by rw[show rZ op l=(0,2) from by unfold rZ;simp only[bf];simp only[R,S,d,ct,cf]]<;>rfl,ar⟩
 refine QV 3 Z<|ky Z (an Z) (fun B=>?_) (fun B=>?_)
 ·refine vQ 1 Z<|Y Z (RC hl Z Z Z (e:=2) Z) Z<|Qi 5 Z<|aF Z (fun S=>?_) (fun S=>?_)
  ·refine Qg 4 Z ?_;obtain⟨ap,C⟩:=cT (show 0<l.length from by have:=iJ_ (eqv (b:=.ofNat 1) S);omega);refine Rr (e:=2) (m:=1) hl C Z Z Z Z (fun a3 aq T aE W=>?_);obtain rfl:=W;refine Y Z (RE ar T Z Z) Z<|bc Z (Rx Z Z Z) (fun _=>Z) (MG hG _ _ ar) (fun O ar=>?_);refine Qk 5 Z<|aJ<|ay (?_);exact cR Z Z Z ⟨by rw[show rZ op l=(Hi op ap,0) from by unfold rZ;simp only[bf];simp only[R,B,S,ct];rw[C]<;>rfl],ar⟩
  refine Qg 4 Z<|ky Z (an Z) (fun d=>?_) (fun d=>?_)
  ·refine QV 3 Z<|ky Z (an Z) (fun u=>?_) (fun u=>?_)
   ·refine vQ 1 Z<|Y Z (RC hl Z Z Z (e:=2) Z) Z<|Qi 5 Z<|aF Z (fun w=>?_) (fun w=>?_)
    ·refine ak<|aQ (l:=zp [0,1,2,3,4,5,6,7,8,9]) U U<|QW 2 Z ?_;have a0:l.length=2:=iJ_ (eqv (b:=.ofNat 2) w);obtain⟨X,z⟩:=cT (show 0<l.length from by omega);obtain⟨aa,A⟩:=cT (show 1<l.length from by omega);refine Rt (e:=2) (m:=1) hl z Z Z Z Z Z (fun a1 ab E ac F=>?_);obtain rfl:=F;refine aj Z Z (RE ar E Z Z) Z<|wQ 1 Z<|Rt (e:=2) (m:=1) hl A Z Z Z Z Z (fun a2 am M ao Q=>?_);obtain rfl:=Q;refine aj Z Z (RE ar M Z Z) Z<|dJ Z Z (Rx Z Z Z) (fun _=>Z) (Kr hG _ _ _ ar) (fun O ar=>?_);refine⟨aX,?_⟩;refine Qm 5 Z<|aJ<|ay (?_);exact cR Z Z Z ⟨by rw[show rZ op l=(oN op X aa,0) from by unfold rZ;simp only[bf];simp only[R,B,S,d,u,w,ct,cf];rw[z,A]<;>rfl],ar⟩
    refine aH<|aG<|QT 7 Z ?_;exact cR Z Z Z ⟨by rw[show rZ op l=(0,2) from by unfold rZ;simp only[bf];simp only[R,B,S,d,u,w,ct,cf]]<;>rfl,ar⟩
   refine PG 10 Z<|QT 7 Z ?_;exact cR Z Z Z ⟨by rw[show rZ op l=(0,2) from by unfold rZ;simp only[bf];simp only[R,B,S,d,u,ct,cf]]<;>rfl,ar⟩
  refine PG 14 Z<|QT 7 Z ?_;exact cR Z Z Z ⟨by rw[show rZ op l=(0,2) from by unfold rZ;simp only[bf];simp only[R,B,S,d,ct,cf]]<;>rfl,ar⟩
 refine PF 12 Z<|ky Z (an Z) (fun d=>?_) (fun d=>?_)
 ·refine QV 3 Z<|ky Z (an Z) (fun u=>?_) (fun u=>?_)
  ·refine vQ 1 Z<|Y Z (RC hl Z Z Z (e:=2) Z) Z<|Qi 5 Z<|aF Z (fun w=>?_) (fun w=>?_)
   ·refine ak<|aQ (l:=zp [0,1,2,3,4,5,6,7,8,9]) U U<|QW 2 Z ?_;have a0:l.length=2:=iJ_ (eqv (b:=.ofNat 2) w);obtain⟨X,z⟩:=cT (show 0<l.length from by omega);obtain⟨aa,A⟩:=cT (show 1<l.length from by omega);refine Rt (e:=2) (m:=1) hl z Z Z Z Z Z (fun a1 ab E ac F=>?_);obtain rfl:=F;refine aj Z Z (RE ar E Z Z) Z<|wQ 1 Z<|Rt (e:=2) (m:=1) hl A Z Z Z Z Z (fun a2 am M ao Q=>?_);obtain rfl:=Q;refine aj Z Z (RE ar M Z Z) Z<|dJ Z Z (Rx Z Z Z) (fun _=>Z) (Kr hG _ _ _ ar) (fun O ar=>?_);refine⟨aX,?_⟩;refine Qm 5 Z<|aJ<|ay (?_);exact cR Z Z Z ⟨by rw[show rZ op l=(oN op X aa,0) from by unfold rZ;simp only[bf];simp only[R,B,d,u,w,ct,cf];rw[z,A]<;>rfl],ar⟩
   refine aH<|aG<|QT 7 Z ?_;exact cR Z Z Z ⟨by rw[show rZ op l=(0,2) from by unfold rZ;simp only[bf];simp only[R,B,d,u,w,ct,cf]]<;>rfl,ar⟩
  refine PG 10 Z<|QT 7 Z ?_;exact cR Z Z Z ⟨by rw[show rZ op l=(0,2) from by unfold rZ;simp only[bf];simp only[R,B,d,u,ct,cf]]<;>rfl,ar⟩
 refine PG 14 Z<|QT 7 Z ?_;exact cR Z Z Z ⟨by rw[show rZ op l=(0,2) from by unfold rZ;simp only[bf];simp only[R,B,d,ct,cf]]<;>rfl,ar⟩
theorem NZ {G:Cx} (hG:Plain G) {K:KP} {s:List Nat} {n:Nat} (hs:oG s=some n) {O:N} {L:Own} (ar:D O K L):a8 Tryz.prog G 223 [.str s] O fun v O'=>v= .tuple [.int .i64 (.ofNat n),.nilIface]/\D O' K L:=by
 obtain⟨R,ab,w⟩:=JN hs;have ac:dn s=s.length:=bN s;obtain⟨c0,u⟩:=cT R;have hd0:=(Ip (i:=0) w u).1;refine QO hG Tryz.func223 Z<|Qg 9 Z<|Y Z (mD Z Z Z U Z) Z<|O4 18 Z<|ky Z (an Z) (fun A=>?_) (fun A=>?_)
 ·refine Qi 7 Z<|aF Z (fun B=>?_) (fun B=>?_)
  ·refine Pz 10 Z<|Y Z (kG U Z Z u) Z<|vQ 1 Z<|ky Z (an Z) (fun C=>?_) (fun C=>?_)
   ·exact absurd (iJ_<|eqv (b:=.ofNat 45) C) oM
   refine vQ 1 Z<|Y Z (kG U Z Z u) Z<|Qi 4 Z<|aF Z (fun E=>?_) (fun E=>?_)
   ·exact absurd (iJ_<|eqv (b:=.ofNat 43) E) oM
   refine O2 11 Z<|Jl ar Z (Mc (e:=5) U U U U U Z) (fun _=>Z) (fun O b1 ar=>?_);refine Y Z (rI Z Z Z (e:=5) U Z) Z<|PD 4 Z ?_;obtain⟨LL1,ar,hLL1⟩:=ar.named;refine bh ([2,3,6,8]++rg 49 15) (fun j t O=>∃(i m:Nat),j+i=dn s/\rY (s.drop i) m=some n/\m<10 ^ i/\i<=4/\t.get 6=some (.int .i64 (.ofNat m))/\t.get 49=some (.int .i64 (.ofNat i))/\D O K LL1) (dn s) ⟨0,0,Z,w,Nat.one_pos,Nat.zero_le _,Z,Z,ar⟩ ?_;clear ar;intro S t O aq hI;obtain⟨i,m,hj,he,hm,T,W,F,ar⟩:=hI;subst hLL1;obtain⟨oo,rfl⟩:=aq.q2 W F Z;refine Qf 6 Z<|aF Z (fun d=>?_) (fun d=>?_)
   ·refine Oj 6 Z ?_;obtain⟨X,z⟩:=cT (show i<s.length from by have:=bk d;omega);obtain⟨hd,aa⟩:=Ip he z;refine Y Z (eI (e:=5) (m:=1) U U Z Z<|bk d) Z<|Y Z (ax Z ar.g0 U<|hH z (by first | omega | rfl)) Z<|PE 17 Z<|aF Z (fun M=>?_) (fun M=>?_)
    ·exact absurd (M.symm.trans<|MY hd) (by decide)
    refine aH<|ad<|ai Z<|QV 3 Z ?_;refine Y Z (gY (j:=.u8) (k:=.i64) U U U Z) Z ?_;refine QU 3 Z (aG (QR 4 Z (aL ⟨S-1,by have:=bk d;omega,oF,i+1,10*m+(X-48),by have:=bk d;omega,aa,by rw[Nat.pow_succ];omega,by have:=bk d;omega,cI<|MZ hd (by have:=Ez i T;omega),cI<|aY oM,ar⟩)))
   refine PC 3 Z<|aS<|Pz 4 Z<|Y Z (kG U Z Z u) Z<|Qi 3 Z<|aF Z (fun Q=>?_) (fun Q=>?_)
   ·exact absurd (iJ_<|eqv (b:=.ofNat 45) Q) oM
   refine Qh 10 Z<|ay (?_);exact cR Z Z Z ⟨by rw[show m=n from by rw[wg (by have:=bz d;omega)] at he;exact Option.some.inj he],ar.pop⟩
  exact absurd (bz (b:=19) B) oM
 exact absurd (bz (a:=0) A) oM
theorem NR {G:Cx} (b:Plain G) {K:KP} {s:List Nat} {n:Nat} (d:oG s=some n) {O:N} {L:Own} (ar:D O K L):a8 Tryz.prog G 167 [.str s] O fun v O'=>v= .tuple [.int .i64 (.ofNat n),.nilIface]/\D O' K L:=by
 refine QO b Tryz.func167 Z<|Qg 9 Z<|bc Z (Rx Z Z Z) (fun _=>Z) (NZ b d ar) (fun O ar=>?_);refine O4 11 Z ?_;refine Y Z (a9 (v:=.bool false) Z U) Z ?_;refine PH 13 Z ?_;exact cR Z Z Z ⟨Z,ar⟩
theorem CD {br:Int} {k:Nat} {op num:Int} {name:List Nat} {kids:List XE} (h:gm br (k+1) (.mk op num name kids)=true) (h1:H op 1=false) (u:H op 2=false):kids.length<=2/\∀x∈kids,gm br k x=true:=by
 unfold gm at h;rw[h1,u] at h;simp only[cf] at h;generalize aa:(bif (bif H op 3 then true else H op 4) then false else(bif cq op 5 then true else cq 16 op))=w at h;cases w with
 | true=>cases h
 | false=>
  simp only[cf] at h;generalize b:(bif bf (H num 0) then true else bif bf (uE name []) then true else bf (H (.ofNat kids.length)<|fN op))=z at h;cases z with
  | true=>cases h
  | false=>
   simp only[cf] at h;refine⟨?_,aE_.1 h⟩;cases e1:bf (H num 0) with
   | true=>rw[e1] at b;cases b
   | false=>
   cases d:bf (uE name []) with
   | true=>rw[e1,d] at b;cases b
   | false=>
   rw[e1,d] at b;have h3:(kids.length:Int)=fN op:=eqv (bl b);have h4:fN op<=2:=by unfold fN;generalize (bif H op 3 then true else H op 4)=q;cases q<;>decide
   omega
theorem EF {br:Int} {k:Nat} {op num:Int} {name:List Nat} {kids:List XE} (h:gm br (k+1) (.mk op num name kids)=true) (h1:H op 1=false) (d:H op 2=true):∃n,oG name=some n/\(n:Int)<br:=by
 unfold gm at h;rw[h1,d] at h;simp only[cf,ct] at h;cases b:oG name with
 | none=>rw[b] at h;cases h
 | some n=>
  rw[b] at h;dsimp only at h;refine⟨n,Z,?_⟩;cases hl:cq (.ofNat n) br with
  | false=>rw[hl] at h;cases h
  | true=>rw[eu,decide_eq_true_iff] at hl;exact hl
theorem AT {G:Cx} (hG:Plain G) {K:KP} {br:List Int} {rn:Int} (a2:rn<=br.length) {regv:V} (Q:bF K 1 ek br regv) {tb et:Nat} {ro:Bool} {c0 c1 c2 c4 c5 c6 c7:V} (ht:K tb (.row [c0,c1,c2,regv,c4,c5,c6,c7] et ro)):
  ∀(k:Nat) (x:XE) (vs:List V),jd K k x vs->gm rn k x=true->∀(O:N) (L:Own),D O K L->a8 Tryz.prog G 116 [.ptr tb 0,.agg vs] O fun v O'=>v= .int .i64 (nv br k x)/\D O' K L:=by
 intro k;induction k with
 | zero=>intro x vs h;cases x;exact h.elim
 | succ k ih=>
 intro x vs h hr O L ar;obtain⟨op,num,name,kids⟩:=x;obtain⟨v,rfl,hk⟩:=h;have hS:nv br (k+1) (.mk op num name kids)=bif H op 1 then num else bif H op 2 then(br[(oG name).getD 0]?).getD 0 else QN op (kids.map<|nv br k):=rfl;rw[hS];clear hS;obtain⟨F,hF⟩:∃F:XE->Int,F=nv br k:=⟨_,Z⟩;rw[<-hF];refine QO hG Tryz.func116 Z<|Qg 2 Z<|kp ar Z (cG Z Z) (fun O b1 ar=>?_);refine O6 ar 8 [0,0] Z Z<|PD 3 Z<|Qg 2 Z<|ky Z (az Z Z Z) (fun d=>?_) (fun d=>?_)
 ·refine Qp ar 12 [1,0] Z Z<|aJ<|ay (?_);exact aB Z Z ⟨cJ (by rw[d];rfl),ar.pop⟩
 refine PF 6 Z<|ky Z (az Z Z Z) (fun u=>?_) (fun u=>?_)
 ·refine PL ar 8 [2,0] Z Z ?_;obtain⟨rg,R,am⟩:=EF hr d u;refine bc Z (Rx Z Z Z) (fun _=>Z) (NR hG R ar) (fun O ar=>?_);refine PF 10 Z<|Y Z (cz Z) Z<|Y Z (Ry 3 Z) Z<|Y Z (Rz Z (ar.da ht) Z) Z<|vQ 1 Z ?_;obtain⟨ab,C⟩:=cT (show rg<br.length from by omega);refine Rr (e:=2) (m:=1) Q C Z Z Z Z (fun a3 ao S ap T=>?_);obtain rfl:=T;refine Y Z (RE ar S Z Z) Z<|Qk 4 Z<|aJ<|ay (?_);exact aB Z Z ⟨cJ (by rw[d,u,R];show ab=(br[rg]?).getD 0;rw[C];rfl),ar.pop⟩
 refine PG 6 Z<|Qg 2 Z<|QY ar 2 [3,0] Z Z<|Y Z (RC hk Z Z Z (e:=82) Z) Z ?_;obtain⟨a4,ac⟩:=CD hr d u;refine fY ar Z (iy (e:=2) (w:=8) (z:=[gZ 0]) U U U U Z Z oM oM) (fun _=>Z) (fun O b2 ar=>?_);rw[iL (f:=gZ)] at ar;rw[<-wv F kids] at ar;refine O6 ar 8 [3,1] Z Z (Y Z (RC hk Z Z Z (e:=82) Z) Z (PD 4 Z (bh ([8,9]++rg 40 12) (fun j t O=>∃(i:Nat),j+i=kids.length/\t.get 40=some (.int .i64 (.ofNat i))/\D O K ((b2,.row ((mQ F kids i).map gZ) 2 false)::(b1,.row [.int .i64 op,.int .i64 num,.str name,v] 82 false)::L)) (kids.length) ⟨0,Z,Z,ar⟩ ?_)));clear ar;intro j9 t O aq hI;obtain⟨i,a5,W,ar⟩:=hI;obtain⟨oo,rfl⟩:=aq.q1 W Z;refine Qg 2 Z<|ky Z (az Z Z Z) (fun b=>?_) (fun b=>?_)
 ·refine Ok 11 Z ?_;obtain⟨A,B,aE⟩:=dH b;refine Rr (e:=82) (m:=4) hk B Z Z Z Z (fun ba a0 X a1 E=>?_);have hr43raw:=E;obtain⟨bb,be,bi,bo,rfl,aa⟩:=E.shape;refine Y Z (RF ar X Z Z) Z<|kp ar Z (bS (cs:=[J,J,.str [],.av]) U U) (fun O b3 ar=>?_);refine vQ 1 Z<|bE ar Z (RG Z Z Z ar.g0 (m:=4) Z (af Z<|af Z<|af Z<|af aa.leaf.2 aA) (cells':=[_,_,_,_]) Z) Z (fun O ar=>?_);refine Qj 6 Z<|Y Z (RB Z ar.g0 (n:=4) (vs:=[_,_,_,_]) Z) Z<|bc Z (Rx Z Z Z) (fun _=>Z) (ih A _ hr43raw (ac A<|gB_ B) _ _ ar) (fun O ar=>?_);refine Y Z (eI (e:=2) (m:=1) U U Z Z<|bk b) Z ?_;refine ei ar (.there .here) Z (aK Z Z (show _=some [gZ<|F A] from by rw[hF];rfl) ar.g1 (m:=1) U Z (by rw[lM_];rw[qx (by have:=bk b;omega)];have:=bk b;omega) Z (cells':=((mQ F kids i).set i<|F A).map (gZ)) (eN (f:=gZ) (v:=(F A)) (by rw[qx (by have:=bk b;omega)];exact bk b) (by first | omega | rfl))) Z (fun O ar=>?_);rw[yL B] at ar;refine ah<|aG<|QR 4 Z ?_;have ar:=ar.pop;refine aL ⟨j9-1,by omega,oF,i+1,by omega,cI<|aY (by have:=hk.bL;omega),ar⟩
 refine PE 4 Z<|PC 3 Z<|aS<|Qg 2 Z<|QY ar 3 [0,1] Z Z ?_;rw[yK<|bz b] at ar;have hq:=ar.keeps (M:=[_]);refine bc Z (aR Z Z (show _=some [V.int .i64 op,V.slice b2 0 (kids.map F).length (.known (kids.map F).length)] from by rw[lM_];rfl) U) (fun _=>Z) (Dv<|QG hG (fq (xs:=kids.map F) (KP.gj 0 Z) (by rw[lM_];omega)) op hq) (fun O ar=>?_);clear hq;refine Qk 14 Z ?_;exact aB Z Z ⟨cJ (by rw[d,u];rfl),ar.pop⟩
theorem yT {K:KP} {x:bW} {vb e:Nat} (b:K vb (.row (ints x.ints) e false)):bF K 5 kJ [x] (.slice vb 0 1 (.known 1)):=
 .inr ⟨vb,0,_,_,e,false,Z,.inr ⟨_,Z,nR_ _⟩,b,by show 0+1*5<=5;omega,by show 1<=_;omega,fun i y hi=>by
  cases i with
  | zero=>simp only[List.getElem?_cons_zero,oJ_] at hi;subst hi;rfl
  | succ i=>simp at hi⟩
theorem tx {G:Cx} (R:Plain G) {K:KP} {br:List Int} {rn:Int} (u:rn<=br.length) {regv:V} (b:bF K 1 ek br regv) {tb et bt e1 bi S k:Nat} {ro z A:Bool} {T W X c4 c5 c6 c7 i0 i1 i2 i3 i4 w:V} (ht:K tb (.row [T,W,X,regv,c4,c5,c6,c7] et ro)) (B:K bt (.row [.ptr tb 0] e1 z))
  (C:K bi (.row [i0,i1,i2,i3,i4,w] S A)) {es:List XE} {E:XE} (hw:bF K 4 (jd K k) es w) (F:es[0]?=some E) (M:gm rn k E=true) {O:N} {L:Own} (ar:D O K L):a8 Tryz.prog G 219 [.ptr bt 0,.ptr bi 0] O fun v O'=>v= .int .i64 (nv br k E)/\D O' K L:=by
 refine QO R Tryz.func219 Z<|Qf 6 Z<|aQ (l:=zp [0,1,2,3,4,5,6]) U U<|aj Z Z (Rz Z (ar.da B) Z) Z<|aj Z Z (Ry 5 Z) Z<|aj Z Z (Rz Z (ar.da C) Z) Z<|Rt (e:=82) (m:=4) hw F Z Z Z Z Z (fun p6 aa Q ab d=>?_);have hr6raw:=d;obtain⟨o6,n6,s6,v6,rfl,ac⟩:=d.shape;refine aj Z Z (RF ar Q Z Z) Z<|dJ Z Z (Rx Z Z Z) (fun _=>Z) (AT R u b ht _ _ _ hr6raw M _ _ ar) (fun O ar=>?_);refine⟨aX,?_⟩;refine Qm 4 Z ?_;exact aB Z Z ⟨Z,ar⟩
theorem E3 {G:Cx} (F:Plain G) {K:KP} {b et bt e1:Nat} {d:Bool} {w z M A B C c6 E:V} (u:K bt (.row [.ptr b 0] e1 d)) (to:Int) {O:N} {L:Own} (ar:D O K ((b,.row [w,z,M,A,B,C,c6,E] et false)::L)):
  a8 Tryz.prog G 220 [.int .i64 to,.ptr bt 0] O fun v O'=>v= .bool true/\D O' K ((b,.row [w,z,.int .i64 to,A,B,C,c6,E] et false)::L):=by
 refine QO F Tryz.func220 Z<|Qg 7 Z<|Y Z (Rz Z (ar.da u) Z) Z<|vQ 1 Z<|Y Z (cz Z) Z<|Y Z (Ry 2 Z) Z<|bE ar Z (RG Z Z Z ar.g0 (m:=1) Z Z (cells':=[_,_,_,_,_,_,_,_]) Z) Z (fun O ar=>?_);refine Qk 8 Z ?_;exact aB Z Z ⟨Z,ar⟩
theorem AS {G:Cx} (M:Plain G) {K:KP} {b et bt e1:Nat} {d:Bool} {w z A B C E c6 F:V} (u:K bt (.row [.ptr b 0] e1 d)) (to:Int) {O:N} {L:Own} (ar:D O K ((b,.row [w,z,A,B,C,E,c6,F] et false)::L)):
  a8 Tryz.prog G 221 [.int .i64 to,.ptr bt 0] O fun v O'=>v= .bool false/\D O' K ((b,.row [w,z,A,B,C,E,.int .i64 to,F] et false)::L):=by
 refine QO M Tryz.func221 Z<|Qg 7 Z<|Y Z (Rz Z (ar.da u) Z) Z<|vQ 1 Z<|Y Z (cz Z) Z<|Y Z (Ry 6 Z) Z<|bE ar Z (RG Z Z Z ar.g0 (m:=1) Z Z (cells':=[_,_,_,_,_,_,_,_]) Z) Z (fun O ar=>?_);refine Qk 8 Z ?_;exact aB Z Z ⟨Z,ar⟩
theorem MF {G:Cx} (F:Plain G) {K:KP} {w Q et bt e1 bon e2:Nat} {B C:Bool} {R S T W X c6 c7:V} {o2:cN} (b:K bt (.row [.ptr w 0] e1 B)) (d:K bon (.row [.func 220 [] [.ptr bt 0]] e2 C)) (e:bW) {es:List bW} {Me:Own} (hO:dt 5 56 kJ es W Me) (hlen:es.length<=1000000) {at_:Nat} (aa:at_<1000000) {O:N} {L:Own}
  (ar:D O K ((w,.row [R,S,.int .i64 (.ofNat at_),T,W,X,c6,c7] et false)::(Q,o2)::(Me++L))):
  a8 Tryz.prog G 222 [.agg [.int .i64 e.kind,.int .i64 e.loc,.int .i64 e.order,.int .i64 e.read,.int .i64 e.write],.ptr bt 0,.ptr bon 0] O fun v O'=>∃ev' Me',v= .bool true/\dt 5 56 kJ (es++[e]) ev' Me'/\D O' K ((w,.row [R,S,.int .i64 (.ofNat (at_+1)),T,ev',X,c6,c7] et false)::(Q,o2)::(Me'++L)):=by
 refine QO F Tryz.func222 Z<|Qg 2 Z<|kp ar Z (cG Z Z) (fun O b3 ar=>?_);refine PE 4 Z (aQ (l:=[(0,[]),(1,[]),(2,[]),(3,[]),(4,[]),(5,[]),(6,[]),(7,[0]),(8,[]),(9,[]),(10,[])]) U U<|aj Z Z (Rz Z (ar.da b) Z) Z<|aj Z Z (Rz Z (ar.da b) Z) Z<|aj Z Z (cz Z) Z<|QZ ar 2 [4,1] Z Z<|aj Z Z (RB Z ar.g0 (n:=5) (vs:=[_,_,_,_,_]) Z) Z<|sf ar Z Z (cm (e:=56) (m:=5) (z:=[J,J,J,J,J]) (cs:=[_,_,_,_,_]) U U U U<|bj Z Z Z Z bO) (fun _=>Z) (fun O b4 ar=>?_));replace ar:=ar.DX (A:=[_,_,_]);obtain⟨O,E,Me2,u,hO2,ar⟩:=fH (P:=Tryz.prog) (ts:= #[57,57]) (t:=57) (e:=56) hO ar (yT (x:=e) (.inr ⟨Z,Z⟩)) kJ.leaf (by simp) (by simp) oM Z U U U;replace ar:=ar.front (A:=Me2) (M:=[_,_,_]);refine fU Z Z (ec Z Z Z Z U u) Z ?_;refine⟨(bu (bG Z Z Z Z Z (Rz Z (ar.da b) Z)<|Bz _ _) aX),?_⟩;refine aj Z Z (cz Z) Z<|aj Z Z (Ry 4 Z) Z<|k9 ar Z Z (aK Z Z hO2.leaf.1 ar.g1 (m:=1) U Z (lb Z) (af hO2.leaf.2 aA) (cells':=[_,_,_,_,_,_,_,_]) Z) Z (fun O ar=>?_);refine⟨aX,?_⟩;refine Ql 2 Z<|ak<|aQ (l:=zp [0,1,2,3,4,5,6,7]) U U ?_;replace ar:=ar.pop;refine aj Z Z (Rz Z (ar.da d) Z) Z<|aj Z Z (Rz Z (ar.da b) Z) Z<|aj Z Z (cz Z) Z<|QZ ar 2 [2,0] Z Z<|aj Z Z (az Z Z (show _=some (V.int .i64 (.ofNat (at_+1))) from cI (aY oM))) Z<|dJ Z Z (Rx Z Z Z) (fun _=>Z) (E3 F b _ ar) (fun O ar=>?_);refine⟨aX,?_⟩;refine Qm 4 Z ?_;exact aB Z Z ⟨E,Me2,Z,hO2,ar⟩
theorem Kp {G:Cx} (E:Plain G) {K:KP} {k:Nat} {c:XC} (hc:eS k c) {cv:V} (hi:bF K 6 (iB K k) c.ins cv) {s:TS} (hs:Ra c s) (bt:s.events.length<=900000) {b1 b2:Nat} {ev:V} {Me:Own} (hO:dt 5 56 kJ s.events ev Me) {O:N} {L:Own}
  (ar:D O K ((b1,.row (HV c cv s b2 ev) 131 false)::(b2,.row (s.br.map gZ) 2 false)::(Me++L))):
  a8 Tryz.prog G 166 [.ptr b1 0] O fun v O'=>∃ev' Me',v= .bool (cj k c s).2/\dt 5 56 kJ (cj k c s).1.events ev' Me'/\D O' K ((b1,.row (HV c cv (cj k c s).1 b2 ev') 131 false)::(b2,.row ((cj k c s).1.br.map gZ) 2 false)::(Me'++L)):=by
 have hlen:=hc.len;have hat:=hs.at_;obtain⟨x,hx⟩:=cT hat;have hrx:=hc.right x (gB_ hx);have ab:c.br<=s.br.length:=by have:=hs.br;have:=hc.F4;omega
 have F:s.br.length<=1000:=by have:=hs.br;have:=hc.Az;omega
 have z:cj k c s=fZ k x s:=by unfold cj;rw[hx]
 refine QO E Tryz.func166 Z<|Qg 2 Z<|kp ar Z (cG Z Z) (fun O b3 ar=>?_);refine PE 4 Z<|aQ (l:=zp [0,1,2,3,4,5,6,7,8,9,10,11,12]) U U<|aj Z Z (Rz Z ar.g0 Z) Z<|aj Z Z (cz Z) Z<|QZ ar 4 [0,1,1,0] Z Z<|aj Z Z (cz Z) Z<|QZ ar 2 [2,1] Z Z<|Rt (e:=79) (m:=6) hi hx Z Z Z Z Z (fun b6 bv bo bw ap=>?_);have hr17raw:=ap;have hr17':=ap;obtain⟨b7,rfl,aq⟩:=hr17';refine aj Z Z (RF ar bo Z Z) Z<|oV ar Z Z (RD (cs:=[J,J,J,J,J,.av])) (fun _=>Z) (fun O b4 ar=>?_);refine gF ar Z Z (RG Z Z Z ar.g0 (m:=6) Z (af Z<|af Z<|af Z<|af Z<|af Z<|af aq.leaf.2 aA) (cells':=[_,_,_,_,_,_]) Z) Z (fun O ar=>?_);refine⟨aX,?_⟩;refine Ql 8 Z<|Qg 3 Z<|kp ar Z (RD (cs:=[.nilFunc])) (fun O b5 ar=>?_);refine bE ar Z (RG Z Z Z ar.g0 (m:=1) Z Z (cells':=[_]) Z) Z (fun O ar=>?_);refine O4 17 Z ?_;obtain⟨K1,hle,S,ar⟩:=ar.cA (M:=[_,_,_]);have hbon:=S _ (.head _);have hbi:=S _ (.tail _ (.head _));have hbt:=S _ (.tail _ (.tail _ (.head _)));clear S;dsimp only at hbon hbi hbt;have hw1:=jX hle aq;refine Y Z (Ry 0 Z) Z<|Y Z (Rz Z (ar.da hbi) Z) Z<|PD 3 Z<|Qg 2 Z<|ky Z (az Z Z Z) (fun u=>?_) (fun u=>?_)
 ·refine PE 5 Z (aQ (l:=[(0,[]),(1,[]),(2,[]),(3,[]),(4,[]),(5,[]),(6,[]),(7,[0,3,5]),(8,[]),(9,[])]) U U<|aj Z Z (Rz Z (ar.da hbt) Z) Z<|aj Z Z (cz Z) Z<|QZ ar 3 [3,0,1] Z Z<|aj Z Z (Rz Z (ar.da hbi) Z) Z<|wQ 1 Z ?_);obtain⟨aE,ac,a0⟩:=sO hrx (eqv (b:=.ofNat 1) u) oM;have hq:=ar.keeps (M:=[_,_]);refine dJ Z Z (Rx Z Z Z) (fun _=>Z) (lM (M:=[_,_]) ar<|tx E (rn:=c.br) ab (fq (xs:=s.br) (KP.gj 1 Z) F) (KP.gj 0 Z) (KP.dI _ _ _ _ hbt) (KP.dI _ _ _ _ hbi) (jX (KP.dI _ _) hw1) ac a0 hq) (fun O ar=>?_);clear hq;have hV34:=(fh (k:=k) (br:=s.br) ac).symm;refine⟨(bu (bG Z Z Z Z Z (Rz Z (ar.da hbt) Z)<|Bz _ _)<|bu (bG Z Z Z Z Z (Rz Z ar.g0 Z)<|qo _ _ _ _)<|bu (bG Z Z Z Z Z (Rz Z (ar.da hbi) Z)<|eG _ _) aX),?_⟩;obtain⟨rg,bq,b0⟩:=JO hrx (eqv (b:=.ofNat 1) u) oM;refine aj Z Z (eI (e:=2) (m:=1) U U Z (show _=some (V.int .i64 (.ofNat rg)) from cI bq) oM) Z (ik ar (.there .here) Z Z (aK Z Z Z ar.g1 (m:=1) U Z (by rw[lM_];omega) Z (cells':=((s.br).set rg<|nv s.br k aE).map (gZ)) (eN (f:=gZ) (v:=(nv s.br k aE)) oM (by first | omega | rfl))) Z (fun O ar=>?_));refine⟨aX,?_⟩;refine Ql 2 Z<|ak<|aQ (l:=zp [0,1,2,3,4,5,6,7]) U U<|aj Z Z (Rz Z (ar.da hbon) Z) Z<|aj Z Z (Rz Z (ar.da hbt) Z) Z<|aj Z Z (cz Z) Z<|QZ ar 2 [2,0] Z Z<|aj Z Z (az Z Z (show _=some (V.int .i64 (.ofNat (s.at_+1))) from cI (aY oM))) Z<|dJ Z Z (Rx Z Z Z) (fun _=>Z) (E3 E hbt _ ar) (fun O ar=>?_);refine⟨aX,?_⟩;refine Qm 4 Z<|aJ<|ay (?_);have d:cj k c s=({s with br:=s.br.set x.xq.toNat (nv s.br k aE),at_:=s.at_+1},true):=by rw[z];unfold fZ;simp only[u,fh ac,ct,cf]
  have ar:=ar.weaken hle;refine aB Z Z ⟨ev,Me,by rw[d],by rw[d];exact hO,?_⟩;rw[d];show D _ _ ((b1,.row [_,_,_,.slice b2 0 (s.br.set x.xq.toNat _).length (.known (s.br.set x.xq.toNat _).length),_,_,_,_] 131 false)::(b2,.row ((s.br.set x.xq.toNat _).map gZ) 2 false)::_);rw[List.length_set,bq];exact ar
 refine PF 6 Z<|ky Z (az Z Z Z) (fun w=>?_) (fun w=>?_)
 ·refine PE 5 Z (aQ (l:=[(0,[]),(1,[]),(2,[]),(3,[]),(4,[]),(5,[]),(6,[2,4]),(7,[]),(8,[]),(9,[])]) U U<|QZ ar 2 [2] Z Z<|aj Z Z (Rz Z (ar.da hbi) Z) Z<|aj Z Z (Ry 3 Z) Z<|aj Z Z (Rz Z (ar.da hbi) Z) Z<|wQ 1 Z ?_);obtain⟨bs,am,a1⟩:=sO hrx (eqv (b:=.ofNat 3) w) oM;have hq:=ar.keeps (M:=[_,_]);refine dJ Z Z (Rx Z Z Z) (fun _=>Z) (lM (M:=[_,_]) ar<|tx E (rn:=c.br) ab (fq (xs:=s.br) (KP.gj 1 Z) F) (KP.gj 0 Z) (KP.dI _ _ _ _ hbt) (KP.dI _ _ _ _ hbi) (jX (KP.dI _ _) hw1) am a1 hq) (fun O ar=>?_);clear hq;have hV51:=(fh (k:=k) (br:=s.br) am).symm;refine⟨(bu (bG Z Z Z Z Z (Rz Z (ar.da hbi) Z)<|eG _ _)<|bu (bG Z Z Z Z Z (Rz Z (ar.da hbi) Z)<|eG _ _) aX),?_⟩;refine aj Z Z (Rw (places:=[(0,1),(1,1),(2,1),(3,1),(4,1)]) (zero:=[J,J,J,J,J]) (cs:=[_,_,_,_,_]) Z) Z<|fF Z Z (Rx Z Z Z) (fun _=>Z) (MF E hbt hbon ⟨2,x.loc,x.order,0,nv s.br k bs⟩ hO oM oM ar) ?_;rintro _ O ⟨a2,Me2,rfl,hO2,ar⟩;refine⟨aX,?_⟩;refine Qm 4 Z<|aJ<|ay (?_);have d:cj k c s=({s with events:=s.events++[⟨2,x.loc,x.order,0,nv s.br k bs⟩],at_:=s.at_+1},true):=by rw[z];unfold fZ;simp only[u,w,fh am,ct,cf]
  have ar:=ar.weaken hle;exact aB Z Z ⟨a2,Me2,by rw[d],by rw[d];exact hO2,by rw[d];exact ar⟩
 refine PF 6 Z<|ky Z (az Z Z Z) (fun A=>?_) (fun A=>?_)
 ·refine PL ar 8 [3] Z Z (Y Z (Rz Z (ar.da hbi) Z) Z (Y Z (Rw (places:=[(0,1),(1,1),(2,1),(3,1),(4,1)]) (zero:=[J,J,J,J,J]) (cs:=[_,_,_,_,_]) Z) Z<|bR Z (Rx Z Z Z) (fun _=>Z) (MF E hbt hbon ⟨4,0,x.order,0,0⟩ hO oM oM ar) ?_));rintro _ O ⟨a2,Me2,rfl,hO2,ar⟩;refine Qk 4 Z<|aJ<|ay (?_);have d:cj k c s=({s with events:=s.events++[⟨4,0,x.order,0,0⟩],at_:=s.at_+1},true):=by rw[z];unfold fZ;simp only[u,w,A,ct,cf]
  have ar:=ar.weaken hle;exact aB Z Z ⟨a2,Me2,by rw[d],by rw[d];exact hO2,by rw[d];exact ar⟩
 refine PF 6 Z<|ky Z (az Z Z Z) (fun B=>?_) (fun B=>?_)
 ·refine O4 8 Z ?_;obtain⟨b8,T,a3⟩:=sO hrx (eqv (b:=.ofNat 8) B) oM;have hq:=ar.keeps (M:=[_,_]);refine bc Z (Rx Z Z Z) (fun _=>Z) (lM (M:=[_,_]) ar<|tx E (rn:=c.br) ab (fq (xs:=s.br) (KP.gj 1 Z) F) (KP.gj 0 Z) (KP.dI _ _ _ _ hbt) (KP.dI _ _ _ _ hbi) (jX (KP.dI _ _) hw1) T a3 hq) (fun O ar=>?_);clear hq;have hV64:=(fh (k:=k) (br:=s.br) T).symm;refine Qi 3 Z<|aF Z (fun a4=>?_) (fun a4=>?_)
  ·refine Qg 3 Z<|bc Z (Rx Z Z Z) (fun _=>Z) (AS E hbt _ ar) (fun O ar=>?_);refine Qk 4 Z<|ay<|aJ<|ay (?_);have d:cj k c s=({s with fin:=2},false):=by rw[z];unfold fZ;simp only[u,w,A,B,fh T,a4,ct,cf]
   have ar:=ar.weaken hle;exact aB Z Z ⟨ev,Me,by rw[d],by rw[d];exact hO,by rw[d];exact ar⟩
  refine PA 3 Z<|aQ (l:=zp [0,1,2,3,4,5,6,7]) U U<|aj Z Z (Rz Z (ar.da hbon) Z) Z<|aj Z Z (Rz Z (ar.da hbt) Z) Z<|aj Z Z (cz Z) Z<|QZ ar 2 [2,0] Z Z<|aj Z Z (az Z Z (show _=some (V.int .i64 (.ofNat (s.at_+1))) from cI (aY oM))) Z<|dJ Z Z (Rx Z Z Z) (fun _=>Z) (E3 E hbt _ ar) (fun O ar=>?_);refine⟨aX,?_⟩;refine Qm 4 Z<|aJ<|ay (?_);have d:cj k c s=({s with at_:=s.at_+1},true):=by rw[z];unfold fZ;simp only[u,w,A,B,fh T,a4,ct,cf]
  have ar:=ar.weaken hle;exact aB Z Z ⟨ev,Me,by rw[d],by rw[d];exact hO,by rw[d];exact ar⟩
 refine PF 6 Z<|ky Z (az Z Z Z) (fun C=>?_) (fun C=>?_)
 ·refine O4 8 Z ?_;obtain⟨b9,W,a5⟩:=sO hrx (eqv (b:=.ofNat 9) C) oM;have hq:=ar.keeps (M:=[_,_]);refine bc Z (Rx Z Z Z) (fun _=>Z) (lM (M:=[_,_]) ar<|tx E (rn:=c.br) ab (fq (xs:=s.br) (KP.gj 1 Z) F) (KP.gj 0 Z) (KP.dI _ _ _ _ hbt) (KP.dI _ _ _ _ hbi) (jX (KP.dI _ _) hw1) W a5 hq) (fun O ar=>?_);clear hq;have hV78:=(fh (k:=k) (br:=s.br) W).symm;refine Qi 3 Z<|aF Z (fun ba=>?_) (fun ba=>?_)
  ·refine Qg 3 Z<|bc Z (Rx Z Z Z) (fun _=>Z) (AS E hbt _ ar) (fun O ar=>?_);refine Qk 4 Z<|ay<|aJ<|ay (?_);have d:cj k c s=({s with fin:=3},false):=by rw[z];unfold fZ;simp only[u,w,A,B,C,fh W,ba,ct,cf]
   have ar:=ar.weaken hle;exact aB Z Z ⟨ev,Me,by rw[d],by rw[d];exact hO,by rw[d];exact ar⟩
  refine PA 3 Z<|aQ (l:=zp [0,1,2,3,4,5,6,7]) U U<|aj Z Z (Rz Z (ar.da hbon) Z) Z<|aj Z Z (Rz Z (ar.da hbt) Z) Z<|aj Z Z (cz Z) Z<|QZ ar 2 [2,0] Z Z<|aj Z Z (az Z Z (show _=some (V.int .i64 (.ofNat (s.at_+1))) from cI (aY oM))) Z<|dJ Z Z (Rx Z Z Z) (fun _=>Z) (E3 E hbt _ ar) (fun O ar=>?_);refine⟨aX,?_⟩;refine Qm 4 Z<|aJ<|ay (?_);have d:cj k c s=({s with at_:=s.at_+1},true):=by rw[z];unfold fZ;simp only[u,w,A,B,C,fh W,ba,ct,cf]
  have ar:=ar.weaken hle;exact aB Z Z ⟨ev,Me,by rw[d],by rw[d];exact hO,by rw[d];exact ar⟩
 refine PF 6 Z<|ky Z (az Z Z Z) (fun Q=>?_) (fun Q=>?_)
 ·refine PF 6 Z<|Y Z (Rz Z (ar.da hbon) Z) Z<|Y Z (Ry 4 Z) Z<|Y Z (Rz Z (ar.da hbi) Z) Z<|bc Z (Rx Z Z Z) (fun _=>Z) (E3 E hbt _ ar) (fun O ar=>?_);refine Qk 4 Z<|aJ<|ay (?_);have d:cj k c s=({s with at_:=x.to.toNat},true):=by rw[z];unfold fZ;simp only[u,w,A,B,C,Q,ct,cf]
  have ar:=ar.weaken hle;refine aB Z Z ⟨ev,Me,by rw[d],by rw[d];exact hO,?_⟩;rw[d];obtain⟨rt,bb,_⟩:=Mz hrx (eqv (b:=.ofNat 10) Q) oM;rw[bb] at ar⊢;exact ar
 refine PF 6 Z<|ky Z (az Z Z Z) (fun R=>?_) (fun R=>?_)
 ·refine O4 8 Z ?_;obtain⟨ca,X,be⟩:=sO hrx (eqv (b:=.ofNat 11) R) oM;have hq:=ar.keeps (M:=[_,_]);refine bc Z (Rx Z Z Z) (fun _=>Z) (lM (M:=[_,_]) ar<|tx E (rn:=c.br) ab (fq (xs:=s.br) (KP.gj 1 Z) F) (KP.gj 0 Z) (KP.dI _ _ _ _ hbt) (KP.dI _ _ _ _ hbi) (jX (KP.dI _ _) hw1) X be hq) (fun O ar=>?_);clear hq;have hV98:=(fh (k:=k) (br:=s.br) X).symm;refine Qi 3 Z<|aF Z (fun bi=>?_) (fun bi=>?_)
  ·refine Qg 2 Z<|Y Z (Rz Z (ar.da hbon) Z) Z<|Y Z (Ry 4 Z) Z<|Y Z (Rz Z (ar.da hbi) Z) Z<|bc Z (Rx Z Z Z) (fun _=>Z) (E3 E hbt _ ar) (fun O ar=>?_);refine Qk 4 Z<|ay<|aJ<|ay (?_);have d:cj k c s=({s with at_:=x.to.toNat},true):=by rw[z];unfold fZ;simp only[u,w,A,B,C,Q,R,fh X,bi,ct,cf]
   have ar:=ar.weaken hle;refine aB Z Z ⟨ev,Me,by rw[d],by rw[d];exact hO,?_⟩;rw[d];obtain⟨rt,bb,_⟩:=Mz hrx (eqv (b:=.ofNat 11) R) oM;rw[bb] at ar⊢;exact ar
  refine PA 3 Z<|aQ (l:=zp [0,1,2,3,4,5,6,7]) U U<|aj Z Z (Rz Z (ar.da hbon) Z) Z<|aj Z Z (Rz Z (ar.da hbt) Z) Z<|aj Z Z (cz Z) Z<|QZ ar 2 [2,0] Z Z<|aj Z Z (az Z Z (show _=some (V.int .i64 (.ofNat (s.at_+1))) from cI (aY oM))) Z<|dJ Z Z (Rx Z Z Z) (fun _=>Z) (E3 E hbt _ ar) (fun O ar=>?_);refine⟨aX,?_⟩;refine Qm 4 Z<|aJ<|ay (?_);have d:cj k c s=({s with at_:=s.at_+1},true):=by rw[z];unfold fZ;simp only[u,w,A,B,C,Q,R,fh X,bi,ct,cf]
  have ar:=ar.weaken hle;exact aB Z Z ⟨ev,Me,by rw[d],by rw[d];exact hO,by rw[d];exact ar⟩
 refine PF 6 Z<|ky Z (az Z Z Z) (fun aa=>?_) (fun aa=>?_)
 ·refine PF 7 Z<|bc Z (Rx Z Z Z) (fun _=>Z) (AS E hbt _ ar) (fun O ar=>?_);refine Qk 4 Z<|aJ<|ay (?_);have d:cj k c s=({s with fin:=4},false):=by rw[z];unfold fZ;simp only[u,w,A,B,C,Q,R,aa,ct,cf]
  have ar:=ar.weaken hle;exact aB Z Z ⟨ev,Me,by rw[d],by rw[d];exact hO,by rw[d];exact ar⟩
 refine PF 6 Z<|ky Z (az Z Z Z) (fun ao=>?_) (fun ao=>?_)
 ·refine PF 7 Z<|bc Z (Rx Z Z Z) (fun _=>Z) (AS E hbt _ ar) (fun O ar=>?_);refine Qk 4 Z<|aJ<|ay (?_);have d:cj k c s=({s with fin:=1},false):=by rw[z];unfold fZ;simp only[u,w,A,B,C,Q,R,aa,ao,ct,cf]
  have ar:=ar.weaken hle;exact aB Z Z ⟨ev,Me,by rw[d],by rw[d];exact hO,by rw[d];exact ar⟩
 refine PG 6 Z<|Qg 2 Z<|Y Z (Rz Z (ar.da hbt) Z) Z<|Y Z (cz Z) Z<|Y Z (Ry 7 Z) Z<|bE ar Z (RG Z Z Z ar.g0 (m:=1) Z Z (cells':=[_,_,_,_,_,_,_,_]) Z) Z (fun O ar=>?_);refine Qk 8 Z ?_;have d:cj k c s=({s with asks:=true},false):=by rw[z];unfold fZ;simp only[u,w,A,B,C,Q,R,aa,ao,ct,cf]
 have ar:=ar.weaken hle;exact aB Z Z ⟨ev,Me,by rw[d],by rw[d];exact hO,by rw[d];exact ar⟩
theorem MD {G:Cx} (hG:Plain G) {K:KP} {k:Nat} {c:XC} {cv:V} (hi:bF K 6 (iB K k) c.ins cv) {at_:Nat} {br:List Int} (M:c.br<=br.length) {x:XI} (hx:c.ins[at_]?=some x) (ab:gW c.br (.ofNat c.ins.length) k x=true) {regv:V} (w:bF K 1 ek br regv) {tb et:Nat} {ro:Bool} {c0 c4 c5 c6 c7:V} (R:K tb (.row [c0,cv,.int .i64 (.ofNat at_),regv,c4,c5,c6,c7] et ro))
  {O:N} {L:Own} (ar:D O K L):a8 Tryz.prog G 81 [.ptr tb 0] O fun v O'=>v= .agg (ints (Gy k x br).ints)/\D O' K L:=by
 obtain⟨_,sh,_,_,_,_,ac⟩:=iV ab;have hall:=(ki ac).all;refine QO hG Tryz.func81 Z<|Qg 2 Z<|kp ar Z (RD (cs:=[J,J,J,J,J])) (fun O b1 ar=>?_);refine PE 3 Z<|aQ (l:=zp [0,1,2,3,4,5,6,7,8,9,10,11,12]) U U<|wQ 1 Z<|aj Z Z (cz Z) Z<|QZ ar 2 [0,1] Z Z<|aj Z Z (Rz Z (ar.da R) Z) Z<|wQ 1 Z<|aj Z Z (cz Z) Z<|aj Z Z (Ry 2 Z) Z<|aj Z Z (Rz Z (ar.da R) Z) Z<|Rt (e:=79) (m:=6) hi hx Z Z Z Z Z (fun ba a1 S a2 E=>?_);have hr14raw:=E;have hr14':=E;obtain⟨bb,rfl,b⟩:=hr14';refine aj Z Z (RF ar S Z Z) Z<|oV ar Z Z (RD (cs:=[J,J,J,J,J,.av])) (fun _=>Z) (fun O b2 ar=>?_);refine gF ar Z Z (RG Z Z Z ar.g0 (m:=6) Z (af Z<|af Z<|af Z<|af Z<|af Z<|af b.leaf.2 aA) (cells':=[_,_,_,_,_,_]) Z) Z (fun O ar=>?_);refine⟨aX,?_⟩;refine Ql 2 Z (Qg 2 Z (QY ar 6 [0,0,2,0,3,0] Z Z (Y Z (Rw (places:=[(0,1),(1,1),(2,1),(3,1),(4,1)]) (zero:=[J,J,J,J,J]) (cs:=[_,_,_,_,_]) Z) Z<|kp ar Z (RD (cs:=[J,J,J,J,J])) (fun O b3 ar=>?_))));refine bE ar Z (RG Z Z Z ar.g0 (m:=5) Z Z (cells':=[_,_,_,_,_]) Z) Z (fun O ar=>?_);refine O6 ar 7 [5,1] Z Z<|Y Z (RC b Z Z Z (e:=82) Z) Z<|Qi 3 Z<|aF Z (fun C=>?_) (fun C=>?_)
 ·refine QX ar 4 [5,1] Z Z ?_;obtain⟨am,A⟩:=cT (show 0<x.exprs.length from bk (a:=0) C);refine Rr (e:=82) (m:=4) b A Z Z Z Z (fun be a3 T a4 F=>?_);have hr30raw:=F;obtain⟨bi,bo,bq,bs,rfl,a5⟩:=F.shape;refine Y Z (RF ar T Z Z) Z<|bc Z (Rx Z Z Z) (fun _=>Z) (AT hG M w R _ _ _ hr30raw (hall am<|gB_ A) _ _ ar) (fun O ar=>?_);refine Y Z (Ry 3 Z) Z<|bE ar Z (RG Z Z Z ar.g0 (m:=1) Z Z (cells':=[_,_,_,_,_]) Z) Z (fun O ar=>?_);refine O6 ar 7 [5,1] Z Z<|Y Z (RC b Z Z Z (e:=82) Z) Z<|Qi 3 Z<|aF Z (fun z=>?_) (fun z=>?_)
  ·refine QX ar 4 [5,1] Z Z ?_;obtain⟨Q,d⟩:=cT (show 1<x.exprs.length from bk (a:=1) z);refine Rr (e:=82) (m:=4) b d Z Z Z Z (fun ao W B X u=>?_);have hr41raw:=u;obtain⟨ap,aq,aE,a0,rfl,aa⟩:=u.shape;refine Y Z (RF ar B Z Z) Z<|bc Z (Rx Z Z Z) (fun _=>Z) (AT hG M w R _ _ _ hr41raw (hall Q<|gB_ d) _ _ ar) (fun O ar=>?_);refine Y Z (Ry 4 Z) Z<|bE ar Z (RG Z Z Z ar.g0 (m:=1) Z Z (cells':=[_,_,_,_,_]) Z) Z (fun O ar=>?_);refine PF 4 Z<|Y Z (RB Z ar.g0 (n:=5) (vs:=[_,_,_,_,_]) Z) Z<|kZ ar Z (RG Z Z Z (ar.get 2 Z) (m:=5) Z Z (cells':=[_,_,_,_,_]) Z) Z (fun O ar=>?_);refine Qk 3 Z ?_;exact eQ Z Z (ar.get 2 Z) (m:=5) U Z ⟨by show V.agg [.int .i64 x.kind,.int .i64 x.loc,.int .i64 x.order,_,_]=V.agg [.int .i64 x.kind,.int .i64 x.loc,.int .i64 x.order,.int .i64<|js k br x 0,.int .i64<|js k br x 1];rw[fh A,fh d]<;>rfl,ar.pop.pop.pop⟩
  refine PB 4 Z<|Y Z (RB Z ar.g0 (n:=5) (vs:=[_,_,_,_,_]) Z) Z<|kZ ar Z (RG Z Z Z (ar.get 2 Z) (m:=5) Z Z (cells':=[_,_,_,_,_]) Z) Z (fun O ar=>?_);refine Qk 3 Z ?_;exact eQ Z Z (ar.get 2 Z) (m:=5) U Z ⟨by show V.agg [.int .i64 x.kind,.int .i64 x.loc,.int .i64 x.order,_,_]=V.agg [.int .i64 x.kind,.int .i64 x.loc,.int .i64 x.order,.int .i64<|js k br x 0,.int .i64<|js k br x 1];rw[fh A,sN<|bz (a:=1) z]<;>rfl,ar.pop.pop.pop⟩
 refine O2 5 Z<|QY ar 2 [5,1] Z Z<|Y Z (RC b Z Z Z (e:=82) Z) Z<|Qi 3 Z<|aF Z (fun z=>?_) (fun z=>?_)
 ·refine QX ar 4 [5,1] Z Z ?_;obtain⟨Q,d⟩:=cT (show 1<x.exprs.length from bk (a:=1) z);refine Rr (e:=82) (m:=4) b d Z Z Z Z (fun ao W B X u=>?_);have hr41raw:=u;obtain⟨ap,aq,aE,a0,rfl,aa⟩:=u.shape;refine Y Z (RF ar B Z Z) Z<|bc Z (Rx Z Z Z) (fun _=>Z) (AT hG M w R _ _ _ hr41raw (hall Q<|gB_ d) _ _ ar) (fun O ar=>?_);refine Y Z (Ry 4 Z) Z<|bE ar Z (RG Z Z Z ar.g0 (m:=1) Z Z (cells':=[_,_,_,_,_]) Z) Z (fun O ar=>?_);refine PF 4 Z<|Y Z (RB Z ar.g0 (n:=5) (vs:=[_,_,_,_,_]) Z) Z<|kZ ar Z (RG Z Z Z (ar.get 2 Z) (m:=5) Z Z (cells':=[_,_,_,_,_]) Z) Z (fun O ar=>?_);refine Qk 3 Z ?_;exact eQ Z Z (ar.get 2 Z) (m:=5) U Z ⟨by show V.agg [.int .i64 x.kind,.int .i64 x.loc,.int .i64 x.order,_,_]=V.agg [.int .i64 x.kind,.int .i64 x.loc,.int .i64 x.order,.int .i64<|js k br x 0,.int .i64<|js k br x 1];rw[sN<|bz (a:=0) C,fh d]<;>rfl,ar.pop.pop.pop⟩
 refine PB 4 Z<|Y Z (RB Z ar.g0 (n:=5) (vs:=[_,_,_,_,_]) Z) Z<|kZ ar Z (RG Z Z Z (ar.get 2 Z) (m:=5) Z Z (cells':=[_,_,_,_,_]) Z) Z (fun O ar=>?_);refine Qk 3 Z ?_;exact eQ Z Z (ar.get 2 Z) (m:=5) U Z ⟨by show V.agg [.int .i64 x.kind,.int .i64 x.loc,.int .i64 x.order,_,_]=V.agg [.int .i64 x.kind,.int .i64 x.loc,.int .i64 x.order,.int .i64<|js k br x 0,.int .i64<|js k br x 1];rw[sN<|bz (a:=0) C,sN<|bz (a:=1) z]<;>rfl,ar.pop.pop.pop⟩
theorem C3 {G:Cx} (B:Plain G) {K:KP} (a:sA) (vv:Int) {O:N} {L:Own} (ar:D O K L):a8 Tryz.prog G 92 [.agg [.int .i64 a.kind,.int .i64 a.loc,.int .i64 a.order,.int .i64 a.a,.int .i64 a.b],.int .i64 vv] O fun v O'=>v= .tuple [.agg<|ints (bU a vv).ints,.int .i64<|n7 a]/\D O' K L:=by
 refine QO B Tryz.func92 Z<|Qg 2 Z<|kp ar Z (cG Z Z) (fun O b1 ar=>?_);refine kp ar Z (RD (cs:=[J,J,J,J,J])) (fun O b2 ar=>?_);refine PL ar 10 [1,1,2,1] Z Z (Y Z (Rw (places:=[(0,1),(1,1),(2,1),(3,1),(4,1)]) (zero:=[J,J,J,J,J]) (cs:=[_,_,_,_,_]) Z) Z<|kp ar Z (RD (cs:=[J,J,J,J,J])) (fun O b3 ar=>?_));refine bE ar Z (RG Z Z Z ar.g0 (m:=5) Z Z (cells':=[_,_,_,_,_]) Z) Z (fun O ar=>?_);refine O6 ar 7 [0,2] Z Z<|PD 3 Z<|Qg 2 Z<|ky Z (az Z Z Z) (fun d=>?_) (fun d=>?_)
 ·refine Qj 5 Z<|Y Z (Ry 0 Z) Z<|bE ar Z (RG Z Z Z ar.g0 (m:=1) Z Z (cells':=[_,_,_,_,_]) Z) Z (fun O ar=>?_);refine ah<|aG<|Qg 2 Z<|Y Z (RB Z ar.g0 (n:=5) (vs:=[_,_,_,_,_]) Z) Z<|eE ar Z (RG Z Z Z ar.g1 (m:=5) Z Z (cells':=[_,_,_,_,_]) Z) Z (fun O ar=>?_);refine Qk 4 Z ?_;exact bC Z Z ar.g1 (m:=5) U Z Z ⟨by unfold bU n7;simp only[d,ct,cf]<;>rfl,ar.pop.pop.pop⟩
 refine PF 6 Z<|ky Z (az Z Z Z) (fun u=>?_) (fun u=>?_)
 ·refine Qo ar 12 [3,2] Z Z<|aF Z (fun z=>?_) (fun z=>?_)
  ·refine QX ar 4 [4,2,4] Z Z<|bE ar Z (RG Z Z Z ar.g0 (m:=1) Z Z (cells':=[_,_,_,_,_]) Z) Z (fun O ar=>?_);refine ah<|aG<|Qg 2 Z<|Y Z (RB Z ar.g0 (n:=5) (vs:=[_,_,_,_,_]) Z) Z<|eE ar Z (RG Z Z Z ar.g1 (m:=5) Z Z (cells':=[_,_,_,_,_]) Z) Z (fun O ar=>?_);refine Qk 4 Z ?_;exact bC Z Z ar.g1 (m:=5) U Z Z ⟨by unfold bU n7;simp only[d,u,z,ct,cf]<;>rfl,ar.pop.pop.pop⟩
  refine QX ar 2 [0] Z Z<|bE ar Z (RG Z Z Z ar.g0 (m:=1) Z Z (cells':=[_,_,_,_,_]) Z) Z (fun O ar=>?_);refine ah<|aG<|Qg 2 Z<|Y Z (RB Z ar.g0 (n:=5) (vs:=[_,_,_,_,_]) Z) Z<|eE ar Z (RG Z Z Z ar.g1 (m:=5) Z Z (cells':=[_,_,_,_,_]) Z) Z (fun O ar=>?_);refine Qk 4 Z ?_;exact bC Z Z ar.g1 (m:=5) U Z Z ⟨by unfold bU n7;simp only[d,u,z,ct,cf]<;>rfl,ar.pop.pop.pop⟩
 refine PF 6 Z<|ky Z (az Z Z Z) (fun w=>?_) (fun w=>?_)
 ·refine Qj 6 Z ?_;refine Y Z (gY (j:=.i64) (k:=.u64) U U U Z) Z ?_;refine QY ar 2 [3,2] Z Z ?_;refine Y Z (gY (j:=.i64) (k:=.u64) U U U Z) Z ?_;refine vQ 1 Z ?_;refine Y Z (gY (j:=.u64) (k:=.i64) U U U Z) Z ?_;refine Y Z (Ry 4 Z) Z<|bE ar Z (RG Z Z Z ar.g0 (m:=1) Z Z (cells':=[_,_,_,_,_]) Z) Z (fun O ar=>?_);refine ah<|aG<|Qg 2 Z<|Y Z (RB Z ar.g0 (n:=5) (vs:=[_,_,_,_,_]) Z) Z<|eE ar Z (RG Z Z Z ar.g1 (m:=5) Z Z (cells':=[_,_,_,_,_]) Z) Z (fun O ar=>?_);refine Qk 4 Z ?_;exact bC Z Z ar.g1 (m:=5) U Z Z ⟨by unfold bU n7;simp only[d,u,w,ct,cf]<;>rfl,ar.pop.pop.pop⟩
 refine PF 6 Z<|ky Z (az Z Z Z) (fun A=>?_) (fun A=>?_)
 ·refine Qj 5 Z<|QY ar 3 [3,2,4] Z Z<|bE ar Z (RG Z Z Z ar.g0 (m:=1) Z Z (cells':=[_,_,_,_,_]) Z) Z (fun O ar=>?_);refine ah<|aG<|Qg 2 Z<|Y Z (RB Z ar.g0 (n:=5) (vs:=[_,_,_,_,_]) Z) Z<|eE ar Z (RG Z Z Z ar.g1 (m:=5) Z Z (cells':=[_,_,_,_,_]) Z) Z (fun O ar=>?_);refine Qk 4 Z ?_;exact bC Z Z ar.g1 (m:=5) U Z Z ⟨by unfold bU n7;simp only[d,u,w,A,ct,cf]<;>rfl,ar.pop.pop.pop⟩
 refine PF 6 Z (Y Z (Rw (places:=[(0,1),(1,1),(2,1),(3,1),(4,1)]) (zero:=[J,J,J,J,J]) (cs:=[_,_,_,_,_]) Z) Z<|eE ar Z (RG Z Z Z ar.g1 (m:=5) Z Z (cells':=[_,_,_,_,_]) Z) Z (fun O ar=>?_));refine Qk 4 Z<|aJ<|ay (?_);exact bC Z Z ar.g1 (m:=5) U Z Z ⟨by unfold bU n7;simp only[d,u,w,A,ct,cf]<;>rfl,ar.pop.pop.pop⟩
theorem HG {G:Cx} (hG:Plain G) {K:KP} {es:List bW} {v:V} (h:bF K 5 kJ es v) (hl:es.length<=100000) {O:N} {L:Own} (ar:D O K L):a8 Tryz.prog G 79 [v] O fun v O'=>∃M,dt 1 2 ek (cP es) v M/\D O' K (M++L):=by
 refine QO hG Tryz.func79 Z<|Qg 7 Z ?_;obtain⟨LB,ar,Q⟩:=ar.named;refine O4 7 Z<|Y Z (RC h Z Z Z (e:=56) Z) Z<|PD 4 Z<|bh ([3,5]++rg 8 18) (fun j t O=>∃(i:Nat) (u:V) (M:Own),j+i=es.length/\dt 1 2 ek (cP<|es.take i) u M/\t.get 3=some (u)/\t.get 8=some (.int .i64 (.ofNat i))/\D O K (M++LB)) (es.length) ⟨0,.av,[],Z,.inl ⟨Z,Z,Z⟩,Z,Z,ar⟩ ?_;clear ar;intro R t O aq hI;obtain⟨i,u,M,am,C,S,T,ar⟩:=hI;obtain⟨oo,rfl⟩:=aq.q2 S T Z;refine Qf 6 Z<|aF Z (fun W=>?_) (fun W=>?_)
 ·refine Oj 6 Z ?_;obtain⟨b,d,aa⟩:=dH W;refine Rr (e:=56) (m:=5) h d Z Z Z Z (fun ao ab E ac F=>?_);obtain rfl:=F;refine Y Z (RF ar E Z Z) Z<|kp ar Z (RD (cs:=[J,J,J,J,J])) (fun O b1 ar=>?_);refine bE ar Z (RG Z Z Z ar.g0 (m:=5) Z Z (cells':=[_,_,_,_,_]) Z) Z (fun O ar=>?_);refine PL ar 7 [0,0] Z Z<|ky Z (an Z) (fun A=>?_) (fun A=>?_)
  ·refine Qj 9 Z<|QY ar 2 [3,0] Z Z<|fY ar Z (cm (e:=2) (m:=1) (z:=[J]) (cs:=[_]) U U U U<|bj Z Z Z Z bO) (fun _=>Z) (fun O b2 ar=>?_);replace ar:=ar.Ml;obtain⟨O,X,M2,w,hO2,ar⟩:=fH (P:=Tryz.prog) (ts:= #[22,22]) (t:=22) (e:=2) (l2:=[b.read]) C ar (fq (xs:=[b.read]) (.inr ⟨Z,Z⟩) (by simp)) ek.leaf (by simp) (by simp) (by have:=uc (es.take i);rw[lT_] at this;omega) Z U U U;refine Y Z (ec Z Z Z Z U w) Z<|QU 2 Z<|aG<|QR 4 Z<|aL ⟨R-1,by omega,oF,i+1,X,M2,by omega,by rw[pZ d,show cD b=true from by unfold cD;rw[A];rfl];exact hO2,Z,cI<|aY (by have:=h.bL;omega),ar⟩
  refine Qo ar 6 [0,0] Z Z<|aF Z (fun B=>?_) (fun B=>?_)
  ·refine QX ar 4 [3,0] Z Z<|fY ar Z (cm (e:=2) (m:=1) (z:=[J]) (cs:=[_]) U U U U<|bj Z Z Z Z bO) (fun _=>Z) (fun O b2 ar=>?_);replace ar:=ar.Ml;obtain⟨O,X,M2,w,hO2,ar⟩:=fH (P:=Tryz.prog) (ts:= #[22,22]) (t:=22) (e:=2) (l2:=[b.read]) C ar (fq (xs:=[b.read]) (.inr ⟨Z,Z⟩) (by simp)) ek.leaf (by simp) (by simp) (by have:=uc (es.take i);rw[lT_] at this;omega) Z U U U;refine Y Z (ec Z Z Z Z U w) Z<|QU 2 Z<|aG<|QR 4 Z<|aL ⟨R-1,by omega,oF,i+1,X,M2,by omega,by rw[pZ d,show cD b=true from by unfold cD;rw[A];exact B];exact hO2,Z,cI<|aY (by have:=h.bL;omega),ar⟩
  refine aH<|aG<|QR 4 Z ?_;have ar:=ar.pop;refine aL ⟨R-1,by omega,oF,i+1,u,M,by omega,by rw[pZ d,show cD b=false from by unfold cD;rw[A];exact B];simpa using C,Z,cI<|aY (by have:=h.bL;omega),ar⟩
 refine PC 3 Z<|aS<|QT 7 Z ?_;subst Q;exact aB Z Z ⟨M,by rw[tL_<|bz W] at C;exact C,ar⟩
theorem HH {G:Cx} (W:Plain G) {K:KP} {l1 l2:List bW} {R S:V} (h1:bF K 5 kJ l1 R) (T:bF K 5 kJ l2 S) {O:N} {L:Own} (ar:D O K L):a8 Tryz.prog G 115 [R,S] O fun v O'=>v= .bool (bY l1 l2)/\D O' K L:=by
 refine QO W Tryz.func115 Z<|Pz 9 Z<|Y Z (RC h1 Z Z Z (e:=56) Z) Z<|vQ 1 Z<|Y Z (RC T Z Z Z (e:=56) Z) Z<|Qi 3 Z<|aF Z (fun d=>?_) (fun d=>?_)
 ·refine Qh 7 Z ?_;exact aB Z Z ⟨by first | rw[fc<|cC d] | rw[fL u w<|bW.same.symm.trans<|cC z] | rw[ey (dG<|bl d) (bz A) b],ar⟩
 refine O2 6 Z<|Y Z (RC h1 Z Z Z (e:=56) Z) Z<|PD 4 Z ?_;obtain⟨LL1,ar,hLL1⟩:=ar.named;refine bh ([4,5]++rg 13 13) (fun j t O=>∃(i:Nat),j+i=l1.length/\(∀k,k<i->l1[k]?=l2[k]?)/\t.get 13=some (.int .i64 (.ofNat i))/\D O K LL1) (l1.length) ⟨0,Z,fun k hk=>absurd hk (nZ_ _),Z,ar⟩ ?_;clear ar;intro X t O aq hI;obtain⟨i,hj,b,B,ar⟩:=hI;subst hLL1;obtain⟨oo,rfl⟩:=aq.q1 B Z;refine Qf 6 Z<|aF Z (fun A=>?_) (fun A=>?_)
 ·refine Oi 11 Z<|aQ (l:=zp [0,1,2,3,4,5,6,7,8]) U U<|QW 2 Z ?_;obtain⟨ao,u,C⟩:=dH A;refine Rt (e:=56) (m:=5) h1 u Z Z Z Z Z (fun ap aa E ab F=>?_);obtain rfl:=F;refine aj Z Z (RF ar E Z Z) Z<|QW 2 Z ?_;obtain⟨aE,w⟩:=cT (show i<l2.length from by rw[<-dG (bl d)];exact C);refine Rt (e:=56) (m:=5) T w Z Z Z Z Z (fun a0 ac M am Q=>?_);obtain rfl:=Q;refine aj Z Z (RF ar M Z Z) Z<|aj Z Z (Da (n:=5) (ca:=[_,_,_,_,_]) (cb:=[_,_,_,_,_]) U Z Z Z Z) Z<|Ql 2 Z<|aF Z (fun z=>?_) (fun z=>?_)
  ·refine QT 6 Z<|aJ<|ay<|bD<|aJ<|ay (?_);exact aB Z Z ⟨by first | rw[fc<|cC d] | rw[fL u w<|bW.same.symm.trans<|cC z] | rw[ey (dG<|bl d) (bz A) b],ar⟩
  refine aH<|aG<|QR 4 Z<|aL ⟨X-1,by omega,oF,i+1,by omega,kj b u w<|bW.same.symm.trans<|bl z,cI<|aY (by have:=h1.bL;omega),ar⟩
 refine PC 3 Z<|aS<|QT 6 Z ?_;exact aB Z Z ⟨by first | rw[fc<|cC d] | rw[fL u w<|bW.same.symm.trans<|cC z] | rw[ey (dG<|bl d) (bz A) b],ar⟩
theorem N3 {G:Cx} (w:Plain G) {K:KP} {s:TS} {evv:V} (d:bF K 5 kJ s.events evv) {tb et:Nat} {ro:Bool} {A B C E F c6 M:V} (z:K tb (.row [A,B,C,E,evv,F,c6,M] et ro)) {l:List bW} {lv:V} (hl:bF K 5 kJ l lv) {O:N} {L:Own} (ar:D O K L):
  a8 Tryz.prog G 80 [.ptr tb 0,lv] O fun v O'=>v= .bool (ru s l)/\D O' K L:=by
 refine QO w Tryz.func80 Z<|Qg 8 Z<|Y Z (cz Z) Z<|Y Z (Ry 4 Z) Z<|Y Z (Rz Z (ar.da z) Z) Z<|Y Z (RC d Z Z Z (e:=56) Z) Z<|vQ 1 Z<|Y Z (RC hl Z Z Z (e:=56) Z) Z<|vQ 1 Z<|ky Z (an Z) (fun b=>?_) (fun b=>?_)
 ·refine vQ 1 Z<|Y Z (cz Z) Z<|Y Z (Ry 4 Z) Z<|Y Z (Rz Z (ar.da z) Z) Z<|vQ 1 Z<|Y Z (RC hl Z Z Z (e:=56) Z) Z<|Hh (e:=56) (m:=5) (k:=l.length) d (bz<|cC b) Z Z U U Z Z (fun _=>Z) (fun aa u=>?_);refine vQ 1 Z<|bc Z (Rx Z Z Z) (fun _=>Z) (HH w u hl ar) (fun O ar=>?_);refine Qk 5 Z ?_;exact aB Z Z ⟨cB (by unfold ru;rw[show cq (.ofNat s.events.length) (.ofNat l.length)=false from cC b]<;>rfl),ar⟩
 refine Qk 14 Z ?_;exact aB Z Z ⟨cB (by unfold ru;rw[show cq (.ofNat s.events.length) (.ofNat l.length)=true from bl b]<;>rfl),ar⟩
theorem L8 {G:Cx} (d:Plain G) {K:KP} (b:mF G K) {k:Nat} {c:XC} {v:V} (hi:bF K 6 (iB K k) c.ins v) {O:N} {L:Own} (ar:D O K L):
  a8 Tryz.prog G 77 [.agg [.int .i64 c.br,v]] O fun v O'=>v= .int .i64 (jU k c)/\D O' K L:=by
 refine QO d Tryz.func77 Z<|Qg 2 Z<|kp ar Z (cG Z Z) (fun O b1 ar=>?_);refine O4 6 Z<|Y Z (RB Z ar.g0 (n:=2) (vs:=[_,_]) Z) Z<|bc Z (Rx Z Z Z) (fun _=>Z) (Kg d b hi ar) (fun O ar=>?_);refine Qi 2 Z<|aF Z (fun h5=>?_) (fun h5=>?_)
 ·refine Qh 7 Z ?_;exact aB Z Z ⟨cJ (by unfold jU;rw[h5];rfl),ar.pop⟩
 refine O2 5 Z<|Y Z (RB Z ar.g0 (n:=2) (vs:=[_,_]) Z) Z<|bc Z (Rx Z Z Z) (fun _=>Z) (uj d b hi ar) (fun O ar=>?_);refine Qi 9 Z<|aF Z (fun u=>?_) (fun u=>?_)
 ·refine Qh 8 Z ?_;exact aB Z Z ⟨cJ (by unfold jU;rw[h5,show bf (H (dR k c) 0)=true from u];rfl),ar.pop⟩
 refine Qh 8 Z ?_;exact aB Z Z ⟨cJ (by unfold jU;rw[h5,show bf (H (dR k c) 0)=false from u];rfl),ar.pop⟩
end Go.Ev
namespace Go.Ev
variable [Env]
theorem vW {k:Nat} {c:XC} {s:TS} (h:gM c s) (b:s.asks=true) (v:Int):(eF k c s v).at_∈dw c s.at_:=by
 obtain⟨x,hx,hk⟩:=h b;show s.at_+1∈dw c s.at_;unfold dw;rw[hx];show _∈(ft x s.at_).map Int.toNat
 have:ft x s.at_= [.ofNat (s.at_+1)]:=by
  unfold ft;rcases hk with hk | hk | hk | hk<;>rw[hk]<;>rfl
 rw[this];simp
end Go.Ev
namespace Go.Ev
variable [Env]
open Go.Proofs
set_option maxRecDepth 4000
set_option maxHeartbeats 8000000
end Go.Ev
namespace Go.Ev
variable [Env]
section
variable {k:Nat} {x:XI} {s:TS}
end
section
variable {k:Nat} {c:XC} {s S:TS} {x:XI} {out:List Nat} {A:List Int} {q j:Nat}
end
end Go.Ev
namespace Go.Ev
variable [Env]
open Go.Proofs
set_option maxRecDepth 4000
set_option maxHeartbeats 8000000
structure Oo (v:V):Prop where
 leaf:df v=some [v]/\lh v=true
theorem Oo.eB {v:V} (h:Oo v) (hb:∀a:V,lh a=true->True):True:=trivial
structure QM (k:Nat) (c:XC) (R:TS) (K1:KP) (ev:V) (fn:Int) (a:sA):Prop where
 ev:bF K1 5 kJ R.events ev
 ask:R.asks=true->fn=0/\a=jk k c R
 fin:R.asks=false->fn=R.fin/\a=ia
theorem Kh {G:Cx} {K:KP} {l:List bT} {x:bT} {i n b vb e:Nat} (hn:l.length=n) (hi:i<n) (hle:n<=1000000) {O:N} {L:Own} (ar:D O K ((b,.row (cY l) e false)::(vb,.row (ints x.ints) 67 false)::L)):
  vj Tryz.prog G 70 [.slice b 0 n (.known n),.int .i64 (.ofNat i),.slice vb 0 1 (.known 1)] O fun v O'=>∃d,v= .slice d 0 (n+1) (.upto 2)/\D O' K ((d,.row (cY (l.take i++x::l.drop i)) 67 false)::(b,.row (cY l) e false)::(vb,.row (ints x.ints) 67 false)::L):=by
 refine BR (f:=70) Tryz.func70 Z (t:=((PT.leaf.put (some (.slice b 0 n (.known n))) 0).put (some (.int .i64 (.ofNat i))) 1).put (some (.slice vb 0 1 (.known 1))) 2) (by rfl)<|Qg 9 Z<|Y Z (xR (e:=67) (sz:=2) U U Z (kW Z<|Nat.le_of_lt hi) hi) Z<|PF 5 Z<|Y Z (rI Z Z Z (e:=67) U Z) Z<|O4 7 Z<|Y Z (az (v:=.bool false) Z Z Z) Z<|O5 8 Z<|Y Z (rI Z Z Z (e:=67) U Z) Z<|O4 8 Z<|Y Z (az (v:=.bool false) Z Z (by show some (V.bool<|H (.ofNat i) (.ofNat n))=_;rw[eh];simp;omega)) Z (Qi 3 Z<|O2 9 Z<|Y Z (MH Z Z Z (e:=67) U Z Z) Z ?_);refine Y Z (az (v:=.bool true) Z Z (by show some (V.bool<|cq (.ofNat n)<|wr .i64<|Int.add (.ofNat n) (.ofNat 1))=_;rw[aY oM,jz];simp)) Z (PF 7 Z<|Y Z (xR (e:=67) (sz:=2) U U Z (om Z<|Nat.le_of_lt hi) oM) Z<|QV 5 Z ?_);refine Jl ar Z (HO (e:=67) (sz:=2) (w:=16) (zs:=[J,J]) (b:=b) (n:=n+1-i) (len:=i) (cp:=n) (m:=n+1) (k2:=.i64) Z Z Z Z U U U U U Z (cI ((congrArg (fun z=>wr .i64 (Int.sub z (.ofNat i)))<|aY oM).trans<|qT oM oM)) ar.g0 oM oM oM oM (by decide) (by decide) Z (by rw[ed];omega) oM) (fun _=>Z) (fun O u ar=>?_);obtain⟨Zv,A,aa⟩:∃Zv,fl [J,J] (n+1-i)=Zv/\Zv.length=(n+1-i)*2:=⟨_,Z,by rw[nr];rfl⟩;rw[ux,A] at ar;have ab:(cY<|l.take i).length=i*2:=by rw[ed,lT_];omega
 have ac:(cY<|l.drop i).length=(n-i)*2:=by rw[ed,lD_];omega
 refine PF 7 Z (Y Z (xS (e:=67) (sz:=2) U U Z<|kW Z oM) Z (vQ 1 Z (Y Z (Ba (e:=67) (sz:=2) (Dy:=1) (n:=1) (news:=ints x.ints) (cells':=cY (l.take i)++(ints x.ints++Zv.drop 2)) Z Z Z U U Z Z (vL (len:=1) (ar.get 2 Z) (show 0+1*2<=(ints x.ints).length from nR_ 2)) (by show Nat.min 1 (n+1-i)=1;exact Nat.min_eq_left oM) (by decide) ar.g0 (show cE (ints x.ints)=true from lu _) (by decide) (by show 0+i*2+2<=_;rw[lA_];omega)<|ug (X:=ints x.ints) oM (by show 2<=_;omega)) Z ?_)));replace ar:=ar.oI (.row (cY (l.take i)++(ints x.ints++Zv.drop 2)) 67 false);refine PE 3 Z<|aQ (l:=zp [0,1,2,3,4,5,6,7,8]) U U<|QW 4 Z<|aj Z Z (xS (e:=67) (sz:=2) U U Z<|kW (cI<|aY oM) oM) Z<|QW 2 Z<|aj Z Z (xR (e:=67) (sz:=2) U U Z (kW Z<|Nat.le_of_lt hi) hi) Z ?_;refine fU Z Z (Ba (e:=67) (sz:=2) (Dy:=n-i) (n:=n-i) (news:=cY<|l.drop i) (cells':=cY (l.take i++x::l.drop i)) Z Z Z U U Z Z (by rw[vL (len:=n-i) ar.g1 (by rw[ed];omega),nA_,pq,tL_ oM]) (by show Nat.min (n-i) (n+1-(i+1))=n-i;exact Nat.min_eq_left oM) oM ar.g0 (by rw[tL_ oM];exact uw _) (by decide) (by rw[tL_ oM,lA_,lA_,lD_];show _<=_+(2+_);omega) (by rw[tL_ oM,FM (by show _=_+2;omega) (by rw[lD_];omega),rU,fS])) Z ⟨aX,?_⟩;replace ar:=ar.oI (.row (cY (l.take i++x::l.drop i)) 67 false);refine Qm 9 Z<|ay (?_);exact aB Z Z ⟨u,Z,ar⟩
theorem NV {G:Cx} (B:G.ov 106=true) {K:KP} {l:List bT} {x:bT} {i n b vb:Nat} (hn:l.length=n) (hi:i<n) (hle:n<=1000000) (C:b≠vb) {O:N} {L:Own} (ar:D O K ((b,.row (cY l++[V.any,V.any]) 67 false)::(vb,.row (ints x.ints) 67 false)::L)):
  vj Tryz.prog G 70 [.slice b 0 n (.least (n+1) 2),.int .i64 (.ofNat i),.slice vb 0 1 (.known 1)] O fun v O'=>v= .slice b 0 (n+1) (.least (n+1) 2)/\D O' K ((b,.row (cY (l.take i++x::l.drop i)) 67 false)::(vb,.row (ints x.ints) 67 false)::L):=by
 have aa:(cY<|l.take i).length=i*2:=by rw[ed,lT_];omega
 have d:(cY<|l.drop i).length=(n-i)*2:=by rw[ed,lD_];omega
 obtain⟨u,z,w,hC1,hC2⟩:∃u z:List V,u++z=cY (l.drop i)++[V.any,V.any]/\u.length=2/\z.length=(cY<|l.drop i).length:=
  ⟨(cY (l.drop i)++[V.any,V.any]).take 2,(cY (l.drop i)++[V.any,V.any]).drop 2,List.take_append_drop _ _,by rw[lT_,lA_];show min 2 (_+2)=2;omega,by rw[lD_,lA_];show _+2-2=_;omega⟩
 have A:cY l++[V.any,V.any]=cY (l.take i)++(u++z):=by rw[w,<-lQ_,<-rU,List.take_append_drop]
 rw[A] at ar;refine BR (f:=70) Tryz.func70 Z (t:=((PT.leaf.put (some (.slice b 0 n (.least (n+1) 2))) 0).put (some (.int .i64 (.ofNat i))) 1).put (some (.slice vb 0 1 (.known 1))) 2) (by rfl)<|Qg 9 Z<|Y Z (nX (e:=67) (sz:=2) U U Z (kW Z<|Nat.le_of_lt hi) oM oM) Z<|PF 5 Z<|Y Z (rI Z Z Z (e:=67) U Z) Z<|O4 7 Z<|Y Z (az (v:=.bool false) Z Z Z) Z<|O5 8 Z<|Y Z (rI Z Z Z (e:=67) U Z) Z<|O4 8 Z<|Y Z (az (v:=.bool false) Z Z (by show some (V.bool<|H (.ofNat i) (.ofNat n))=_;rw[eh];simp;omega)) Z (Qi 3 Z<|O2 9 Z<|Y Z (MH Z Z Z (e:=67) U Z Z) Z ?_);refine Y Z (az (v:=.bool false) Z Z (by rw[aY oM];show(bif Nat.ble (n+1) (n+1) then some (V.bool false) else none)=_;rw[show Nat.ble (n+1) (n+1)=true from by rw[nE_];exact nR_ _];rfl)) Z (O5 11 Z<|Y Z (nX (e:=67) (sz:=2) U U Z (om (cI<|aY oM) oM) oM oM) Z<|O4 11 Z<|Y Z (nX (e:=67) (sz:=2) (len:=n+1) (a:=n+1) U U Z (kW (cI<|aY oM) oM) oM oM) Z<|Y Z (Fa Z Z U B U Z Z Z ar.g1 ar.g0 (Ne.symm C) Z Z (by rw[lA_,lA_];omega)) Z<|Y Z (dq Z) Z<|PE 4 Z<|aQ (l:=zp [0,1,2,3,4,5,6,7,8]) U U<|QW 4 Z<|aj Z Z (nX (e:=67) (sz:=2) (len:=n+1) (a:=n+1) U U Z (kW (cI<|aY oM) oM) oM oM) Z<|QW 2 Z<|aj Z Z (nX (e:=67) (sz:=2) (len:=n+1) (a:=n+1) U U Z (kW Z oM) oM oM) Z ?_);refine fU Z Z (Ba (e:=67) (sz:=2) (Dy:=n-i) (n:=n+1-i) (news:=u++z) (cells':=cY (l.take i)++(u++cY (l.drop i))) Z Z Z U U Z Z (by rw[vL (len:=n+1-i) ar.g0 (by rw[lA_,lA_];omega),show 0+0*2+i*2=(cY<|l.take i).length from by omega,List.drop_left,tL_ (by rw[lA_];omega)]) (by show Nat.min (n+1-i) (n+1-(i+1))=n-i;rw[show n+1-(i+1)=n-i by omega];exact Nat.min_eq_right oM) oM ar.g0 (by rw[w,<-d,List.take_left];exact uw _) (by decide) (by rw[w,<-d,List.take_left,lA_,<-w,lA_];omega) (by rw[w,<-d,List.take_left,<-w];exact FM oM hC2)) Z ⟨aX,?_⟩;replace ar:=ar.oI (.row (cY (l.take i)++(u++cY (l.drop i))) 67 false)
 refine Ql 2 Z (Qg 4 Z (Y Z (nX (e:=67) (sz:=2) (len:=n+1) (a:=n+1) U U Z (kW Z oM) oM oM) Z (vQ 1 Z (Y Z (Ba (e:=67) (sz:=2) (Dy:=1) (n:=1) (news:=ints x.ints) (cells':=cY (l.take i++x::l.drop i)) Z Z Z U U Z Z (vL (len:=1) ar.g1 (show 0+1*2<=(ints x.ints).length from nR_ 2)) (by show Nat.min 1 (n+1-i)=1;exact Nat.min_eq_left oM) (by decide) ar.g0 (show cE (ints x.ints)=true from lu _) (by decide) (by show 0+0*2+i*2+2<=_;rw[lA_,lA_];omega) (by rw[rU,fS];exact Lp (X:=ints x.ints) oM hC1.symm)) Z ?_))));replace ar:=ar.oI (.row (cY (l.take i++x::l.drop i)) 67 false);refine PH 10 Z ?_;exact aB Z Z ⟨Z,ar⟩
theorem wF {K:KP} {x:bT} {vb e:Nat} (b:K vb (.row (ints x.ints) e false)):bF K 2 ji [x] (.slice vb 0 1 (.known 1)):=
 .inr ⟨vb,0,_,_,e,false,Z,.inr ⟨_,Z,nR_ _⟩,b,nR_ 2,(by simp),fun i y h=>by cases i with | zero=>(cases h;rfl) | succ i=>(simp at h)⟩
theorem NW {G:Cx} {K:KP} {x:bT} {vb:Nat} (b:K vb (.row (ints x.ints) 67 false)) {O:N} {L:Own} (ar:D O K L):vj Tryz.prog G 70 [.av,.int .i64 (.ofNat 0),.slice vb 0 1 (.known 1)] O fun v O'=>∃M,dt 2 67 ji [x] v M/\D O' K (M++L):=by
 have hx:=wF b;refine BR (f:=70) Tryz.func70 Z (t:=((PT.leaf.put (some (.av)) 0).put (some (.int .i64 (.ofNat 0))) 1).put (some (.slice vb 0 1 (.known 1))) 2) (by rfl)<|Qg 9 Z<|Y Z (KB (e:=67) (sz:=2) U U Z Z) Z<|PF 5 Z<|Y Z (rI Z Z Z (e:=67) U Z) Z<|O4 7 Z<|Y Z (az (v:=.bool false) Z Z Z) Z<|O5 8 Z ?_;refine Y Z (a9 (v:=.int .i64 (.ofNat 0)) Z Z) Z ?_;refine O4 8 Z<|Y Z (az (v:=.bool true) Z Z Z) Z<|PF 7 Z<|He (R:=ji) (m:=2) (e:=67) ar hx ji.leaf (by simp) (by simp) Z Z Z Z Z U U U Z Z (fun _=>Z) (fun O w news ar d u=>?_);refine PH 5 Z ?_;exact aB Z Z ⟨[(w,.row news 67 false)],.inr ⟨w,.upto 2,news,67,Z,Z,d,u,.inr ⟨Z,Z⟩,(by simp)⟩,ar⟩
theorem L4 {G:Cx} {K:KP} {x:bT} {vb:Nat} (d:K vb (.row (ints x.ints) 67 false)) {l:List bT} {n b e:Nat} {cells:List V} (C:l.length=n) (hle:n<=1000000) (u:cells.length=l.length*2) (w:∀(i:Nat) (y:bT),l[i]?=some y->ji y ((cells.drop (i*2)).take 2)) {O:N} {L:Own} (ar:D O K ((b,.row cells e false)::L)):vj Tryz.prog G 70 [.slice b 0 n (.known n),.int .i64 (.ofNat n),.slice vb 0 1 (.known 1)] O fun v O'=>∃M,dt 2 67 ji (l++[x]) v M/\D O' K (M++L):=by
 have hx:=wF d;refine BR (f:=70) Tryz.func70 Z (t:=((PT.leaf.put (some (.slice b 0 n (.known n))) 0).put (some (.int .i64 (.ofNat n))) 1).put (some (.slice vb 0 1 (.known 1))) 2) (by rfl)<|Qg 9 Z<|Y Z (KA (e:=67) (sz:=2) U U Z Z) Z<|PF 5 Z<|Y Z (rI Z Z Z (e:=67) U Z) Z<|O4 7 Z<|Y Z (az (v:=.bool false) Z Z Z) Z<|O5 8 Z<|Y Z (rI Z Z Z (e:=67) U Z) Z<|O4 8 Z<|Y Z (az (v:=.bool true) Z Z (by show some (V.bool<|H (.ofNat n) (.ofNat n))=_;rw[eh];simp)) Z (PF 7 Z<|nE (R:=ji) (m:=2) (e:=67) ar hx ji.leaf (by simp) oM oM (.inl Z) Z Z Z Z Z U U U Z Z (fun _=>Z) (fun O E c9 news F ar z A B=>?_));refine PH 5 Z ?_;exact aB Z Z ⟨[(E,.row (cells++news) F false)],pT u w z A (by rw[C]) B (by show n+1<=1048576;omega),ar⟩
theorem L5 {G:Cx} {K:KP} {x:bT} {vb:Nat} (d:K vb (.row (ints x.ints) 67 false)) {l:List bT} {n b:Nat} {cells:List V} (C:l.length=n) (hle:n<=1000000) (u:cells.length=l.length*2) (w:∀(i:Nat) (y:bT),l[i]?=some y->ji y ((cells.drop (i*2)).take 2)) {O:N} {L:Own} (ar:D O K ((b,.row cells 67 false)::L)):vj Tryz.prog G 70 [.slice b 0 n (.upto 2),.int .i64 (.ofNat n),.slice vb 0 1 (.known 1)] O fun v O'=>∃M,dt 2 67 ji (l++[x]) v M/\D O' K (M++L):=by
 have hx:=wF d;refine BR (f:=70) Tryz.func70 Z (t:=((PT.leaf.put (some (.slice b 0 n (.upto 2))) 0).put (some (.int .i64 (.ofNat n))) 1).put (some (.slice vb 0 1 (.known 1))) 2) (by rfl)<|Qg 9 Z<|Y Z (xS (e:=67) (sz:=2) U U Z<|kW Z<|nR_ _) Z<|PF 5 Z<|Y Z (rI Z Z Z (e:=67) U Z) Z<|O4 7 Z<|Y Z (az (v:=.bool false) Z Z Z) Z<|O5 8 Z<|Y Z (rI Z Z Z (e:=67) U Z) Z<|O4 8 Z<|Y Z (az (v:=.bool true) Z Z (by show some (V.bool<|H (.ofNat n) (.ofNat n))=_;rw[eh];simp)) Z (PF 7 Z<|nE (R:=ji) (m:=2) (e:=67) ar hx ji.leaf (by simp) oM oM (.inr ⟨Z,Z⟩) Z Z Z Z Z U U U Z Z (fun _=>Z) (fun O E c9 news F ar z A B=>?_));refine PH 5 Z ?_;exact aB Z Z ⟨[(E,.row (cells++news) F false)],pT u w z A (by rw[C]) B (by show n+1<=1048576;omega),ar⟩
theorem vj.mono {P:Program} {G:Cx} {f:Nat} {args:List V} {O:N} {R R':V->N->Prop} (h:vj P G f args O R) (hq:∀v O',R v O'->R' v O'):vj P G f args O R':=
 let ⟨K,v,O',h1,b⟩:=h;⟨K,v,O',h1,hq _ _ b⟩
theorem vF {l:List bT} {x:bT} {i:Nat} (hi:i<=l.length):(l.take i++x::l.drop i).length=l.length+1:=by
 rw[lA_,lT_,List.length_cons,lD_];omega
theorem w8 {l:List bT} {b n e:Nat} {c:ql} (d:n=l.length) (u:c= .known n∨(c= .upto 2/\e=67)) (hle:n<=1048576):dt 2 67 ji l (.slice b 0 n c) [(b,.row (cY l) e false)]:=by
 subst d;exact .inr ⟨b,c,_,e,Z,Z,ed l,fun i y h=>GK h,u,hle⟩
theorem yP {P:Program} {G:Cx} {ih:kI} {f:Nat} {O:N} {b n:Nat} {c:ql} {w:V}:pG P G ih f [.slice b 0 n c,.int .i64 (.ofNat n),w] O=kM P G ih f [.slice b 0 n c,.int .i64 (.ofNat n),w] O:=by
 unfold pG;rw[show atEnd [.slice b 0 n c,.int .i64 (.ofNat n),w]=true from Nat.beq_refl n];rfl
theorem BZ {P:Program} {G:Cx} {ih:kI} {f:Nat} {O:N} {b n i m:Nat} {w:V} (hi:i<n):pG P G ih f [.slice b 0 n (.known m),.int .i64 (.ofNat i),w] O=kM P G ih f [.slice b 0 n (.known m),.int .i64 (.ofNat i),w] O:=by
 unfold pG
 rw[show atEnd [.slice b 0 n (.known m),.int .i64 (.ofNat i),w]=false from by
  show Nat.beq i n=false;cases hh:Nat.beq i n with
  | false=>rfl
  | true=>exact absurd (nB hh) oM]
 rfl
theorem Ki {G:Cx} (E:Plain G) (z:G.fk 70=true) (R:G.ov 106=true) {K:KP} {l:List bT} {x:bT} {i vb:Nat} {u:V} {M:Own} (d:K vb (.row (ints x.ints) 67 false)) (W:dt 2 67 ji l u M) (hi:i<=l.length) (hle:l.length<=1000000) {O:N} {L:Own} (ar:D O K (M++L)):
  a8 Tryz.prog G 70 [u,.int .i64 (.ofNat i),.slice vb 0 1 (.known 1)] O fun v O'=>∃M',dt 2 67 ji (l.take i++x::l.drop i) v M'/\D O' K (M'++L):=by
 rcases W with ⟨rfl,rfl,rfl⟩ | ⟨b,c,cells,e,rfl,rfl,h3,h4,h5,h6⟩
 ·obtain rfl:i=0:=by simpa using hi
  exact sM E z (fun ih=>Z)<|NW d ar
 by_cases S:i=l.length
 ·subst S;rw[List.take_length,List.drop_length];rcases h5 with rfl | ⟨rfl,rfl⟩
  ·exact sM E z (fun ih=>yP)<|L4 d Z hle h3 h4 ar
  exact sM E z (fun ih=>yP)<|L5 d Z hle h3 h4 ar
 have A:i<l.length:=by omega
 obtain rfl:=yw l cells h3 h4;have B:b≠vb:=(ar.kept _ _ d).2.2 _ (mS_ ..);have hgv:=(ar.kept _ _ d);rcases h5 with rfl | ⟨rfl,rfl⟩
 ·refine sM E z (fun ih=>BZ A) ((Kh (K:=K.sub vb) Z A hle ((ar.NO d).perm<|List.Perm.swap ..)).mono fun v O' h=>?_);obtain⟨T,rfl,C⟩:=h;exact⟨_,w8 (vF hi).symm (.inr ⟨Z,Z⟩) oM,D.NF ar d ((C.sub (.cons_cons _ (.cons _ (.refl _)))).perm<|List.Perm.swap ..)⟩
 have htwo:= @D.two _ O b vb (.row (cY l) 67 false) (.row (ints x.ints) 67 false) (.row (cY l) 67 false) (.row (ints x.ints) 67 false) (ar.own _<|mS_ ..).1 hgv.1 B;have F:((l.take i++x::l.drop i).flatMap bT.ints).length=(l.length+1)*2:=by rw[<-uL,<-mM,ed,vF hi]
 have w:∀(cs:List V),cs=cY (l.take i++x::l.drop i)->(l.length+1)*2<=cs.length/\cs.take ((l.length+1)*2)=ints ((l.take i++x::l.drop i).flatMap bT.ints):=fun cs h=>by
  subst h;have:=ed (l.take i++x::l.drop i);rw[vF hi] at this;exact⟨by omega,by rw[tL_ oM,mM]⟩
 refine Iw (e:=67) (ve:=67) (cells:=cY l) (vc:=x.ints) (rs:=(l.take i++x::l.drop i).flatMap bT.ints) (n1:=l.length+1) E z oM A B ar.g0 hgv.2.1 (by rw[ed];exact nR_ _) oM F ?_ ?_ ?_
 ·refine(Kh (K:=fun _ _=>False) Z A hle htwo).mono fun v O' h=>?_
  obtain⟨T,rfl,C⟩:=h;exact⟨T,_,Z,(List.pairwise_cons.1 C.ne).1 (vb,.row (ints x.ints) 67 false) (by simp),C.get 0 Z,C.get 2 Z,(w _ Z).1,(w _ Z).2⟩
 ·have Q:(cY l).take (l.length*2)++List.replicate 2 V.any=cY l++[V.any,V.any]:=by rw[tL_ (by rw[ed];exact nR_ _)];rfl
  rw[Q];have htwo2:= @D.two _ O b vb (.row (cY l++[V.any,V.any]) 67 false) (.row (ints x.ints) 67 false) (.row (cY l++[V.any,V.any]) 67 false) (.row (ints x.ints) 67 false) (ar.own _<|mS_ ..).1 hgv.1 B;refine(NV R (K:=fun _ _=>False) Z A hle B htwo2).mono fun v O' h=>?_
  obtain⟨rfl,C⟩:=h;exact⟨b,_,_,Z,nR_ _,B,C.get 0 Z,C.get 1 Z,(w _ Z).1,(w _ Z).2⟩
 refine⟨[(O.next,.row (ints ((l.take i++x::l.drop i).flatMap bT.ints)) 67 false)],?_,ar.xr _⟩;rw[<-mM];exact w8 (vF hi).symm (.inr ⟨Z,Z⟩) oM
end Go.Ev
namespace Go.Ev
variable [Env]
theorem pI {K:KP} {R B T1 T2 T3:Nat} {g:XG} {C:V} {M1 E F G:Own} {L M Q w z A:Nat} {b d u:List V} (h1:dt 1 2 ek g.init C M1) (S:gN 5 R kJ g.threads b E) (h3:gN 2 B ji g.from_ d F) (h4:gN 2 B ji g.order u G)
  (T:∀e∈M1,K e.1 e.2) (k2:∀e∈E,K e.1 e.2) (W:∀e∈F,K e.1 e.2) (X:∀e∈G,K e.1 e.2) (q2:K L (.row b T1 false)) (q3:K M (.row d T2 false)) (q4:K Q (.row u T3 false))
  (e2:w=g.threads.length) (e3:z=g.from_.length) (e4:A=g.order.length) (l2:g.threads.length<=1048576) (l3:g.from_.length<=1048576) (l4:g.order.length<=1048576):eW K g C (.slice L 0 w (.known w)) (.slice M 0 z (.known z)) (.slice Q 0 A (.known A)):=
 ⟨h1.gL T,S.gL k2 q2 e2 l2,h3.gL W q3 e3 l3,h4.gL X q4 e4 l4⟩
end Go.Ev
end
