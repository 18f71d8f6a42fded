/- Part of the proof: rules and walks. No conditions. -/
import Derived.Test.YtjnonkhfgnihfaaGreatDoorEb
import Derived.Test.YtjnonkhfgnihfaaGreatDoorEc
import Derived.Test.YtjnonkhfgnihfaaGreatDoorProg
import Derived.KernelRfl
set_option linter.unusedSectionVars false
set_option linter.unusedVariables false
set_option linter.unusedSimpArgs false
noncomputable section
open Nat (ble sub_self succ_pos zero_le)
open List (cons_append drop_length map_append range replicate)
open Int (ofNat)
set_option maxHeartbeats 8000000
set_option maxRecDepth 4000
open Go.Proofs
namespace Go.Ev
variable [Env]
variable {G:Cx} {K:KP} {V:aF} {L:Own} {g:XG}
theorem HG (d:Plain G) {l:List cz} {v:U} (h:bS K 5 jl l v) (O:F V K L):Ca G K L 226 [v] V <| .bool (cM 14 (.ofNat l.length)):=by
 refine VV d Tryz.func226 Z<|Vp 8 Z<|I Z (WT h Z Z Z (e:=45) Z) Z<|Vt 5 Z ?_;exact aB Z Z ⟨Z,O⟩
theorem Dp (Q:Plain G) {l:List (List cz)} {v:U} {p:List cz->Bool} (h:bS K 1 (RL K 5 jl) l v) (O:F V K L)
  (z:∀x u V L,F V K L->RL K 5 jl x [u]->EC G 226 [u] V fun v V'=>v= .bool (p x)/\F V' K L):EC G 295 [v,.func 226 [] []] V fun v V'=>v= .int .i64 (ey p l 0)/\F V' K L:=by
 refine VV Q Tryz.func295 Z<|UD 9 Z<|I Z (WT h Z Z Z (e:=90) Z) Z<|UH 4 Z ?_;obtain⟨LL1,O,hLL1⟩:=O.named;refine bk ([4,5]++rg 8 11) (fun j t V=>∃(i:Nat),j+i=l.length/\ey p l 0=ey p (l.drop i) i/\t.get 8=some (nI i)/\F V K LL1) (l.length) ⟨0,Z,Z,Z,O⟩ ?_;clear O;intro R t V ar S;obtain⟨i,hj,he,E,O⟩:=S;subst hLL1;obtain⟨oo,rfl⟩:=ar.q1 E Z;refine Vo 6 Z<|aG Z (fun M=>?_) (fun M=>?_)
 ·refine Ta 15 Z ?_;obtain⟨A,d,aa⟩:=dH M;refine WJ (e:=90) (m:=1) h d Z Z Z Z (fun ao ab C ac w=>?_);have hr14':=w;obtain⟨ap,rfl,am⟩:=hr14';refine I Z (WV O C Z Z) Z<|kx (WQ Z Z Z) (z A _ _ _ O w) (fun V O=>?_);refine Vr 2 Z<|aG Z (fun B=>?_) (fun B=>?_)
  ·refine V5 7 Z<|aK<|aA<|bL<|aK<|aA (?_);exact aB Z Z ⟨cJ (by symm;rw[he,cN d];show(bif p A then _ else _)=_;rw[B];rfl),O⟩
  refine aH<|aD<|V0 4 Z<|aJ ⟨R-1,by omega,oF,i+1,by omega,by rw[he,cN d];show(bif p A then _ else _)=_;rw[B];rfl,cI<|aX (by have:=h.cE;omega),O⟩
 refine UG 3 Z<|aR<|V5 6 Z ?_;exact aB Z Z ⟨cJ (by symm;rw[he,ff<|bJ M];rfl),O⟩
theorem xB (d:Plain G) {l:List (List cz)} {v:U} (h:bS K 1 (RL K 5 jl) l v) (O:F V K L):EC G 225 [v,.func 226 [] []] V fun v V'=>v= .bool (l.any fun x=>cM 14 (.ofNat x.length))/\F V' K L:=by
 refine VV d Tryz.func225 Z (Vp 9 Z (kx (WQ Z Z Z) (Dp d h O (p:=fun x=>cM 14 (.ofNat x.length)) fun x u V L O hr=>by obtain⟨w,hw,hk⟩:=hr;cases hw;exact HG d hk O) (fun V O=>?_)));refine Vt 5 Z ?_;exact aB Z Z ⟨cB<|EB _ _,O⟩
theorem KF (z:Plain G) {a b c d:U} (h:gG K g a b c d) (O:F V K L):Ca G K L 149 [.agg [a,b,c,d]] V <| .bool (fw g):=by
 have h':=h;obtain⟨hi,A,hf,ho⟩:=h';refine VV z Tryz.func149 Z<|Vp 2 Z<|kb O (cd Z Z) (fun V b1 O=>?_);refine UQ O 7 [1,0] Z Z<|I Z (WT A Z Z Z (e:=90) Z) Z<|vQ 1 Z<|ky Z (al Z) (fun w=>?_) (fun w=>?_)
 ·refine Vt 14 Z ?_;exact aB Z Z ⟨cB (by unfold fw;simp only[w,ct,cf]),O.pop⟩
 refine Wa O 2 [0,0] Z Z<|I Z (WT hi Z Z Z (e:=2) Z) Z<|V7 2 Z<|ky Z (al Z) (fun u=>?_) (fun u=>?_)
 ·refine Vt 8 Z ?_;exact aB Z Z ⟨cB (by unfold fw;simp only[w,u,ct,cf]),O.pop⟩
 refine Wa O 2 [1,0] Z Z<|kx (WQ Z Z Z) (xB z A O) (fun V O=>?_);refine Vt 5 Z ?_;exact aB Z Z ⟨cB (by unfold fw;simp only[w,u,ct,cf]),O.pop⟩
theorem xT (hG:Plain G) {a b c d:U} (h:gG K g a b c d) (O:F V K L):Ca G K L 90 [.agg [a,b,c,d]] V <| .int .i64 (cY g):=by
 have h':=h;obtain⟨hi,ht,hf,ho⟩:=h';refine VV hG Tryz.func90 Z<|Vp 2 Z<|kb O (cd Z Z) (fun V b1 O=>?_);refine TY 6 Z<|I Z (W1 Z O.g0 Z) Z<|kx (WQ Z Z Z) (KF hG h O) (fun V O=>?_);refine Vr 2 Z<|aG Z (fun h8=>?_) (fun h8=>?_)
 ·refine Vq 7 Z ?_;exact aB Z Z ⟨cJ (by symm;unfold cY;rw[h8];rfl),O.pop⟩
 refine T0 O 7 [2,0] Z Z<|I Z (WT hf Z Z Z (e:=84) Z) Z<|Wa O 2 [1,0] Z Z<|I Z (WT ht Z Z Z (e:=90) Z) Z<|vQ 1 Z<|ky Z (al Z) (fun A=>?_) (fun A=>?_)
 ·refine UL 18 Z ?_;exact aB Z Z ⟨cJ (by symm;unfold cY;rw[h8,de A];rfl),O.pop⟩
 refine Wa O 2 [3,0] Z Z<|I Z (WT ho Z Z Z (e:=84) Z) Z<|Wa O 2 [0,0] Z Z<|I Z (WT hi Z Z Z (e:=2) Z) Z<|Vr 4 Z<|aG Z (fun E=>?_) (fun E=>?_)
 ·refine Vq 7 Z ?_;exact aB Z Z ⟨cJ (by symm;unfold cY;rw[h8,bT A,de E];rfl),O.pop⟩
 refine T0 O 7 [1,0] Z Z<|I Z (WT ht Z Z Z (e:=90) Z) Z<|UH 4 Z ?_;obtain⟨LL1,O,hLL1⟩:=O.named;refine bk (rg 2 5++rg 28 46) (fun j t V=>∃(i:Nat),j+i=g.threads.length/\mr g g.threads g.from_ 0=mr g (g.threads.drop i) (g.from_.drop i) i/\t.get 28=some (nI i)/\F V K LL1) (g.threads.length) ⟨0,Z,Z,Z,O⟩ ?_;clear O;intro j6 t V ar hI;obtain⟨i,ca,X,a0,O⟩:=hI;subst hLL1;obtain⟨oo,rfl⟩:=ar.q1 a0 Z;refine Vo 6 Z<|aG Z (fun ab=>?_) (fun ab=>?_)
 ·refine Ta 7 Z ?_;obtain⟨u,B,a1⟩:=dH ab;refine WJ (e:=90) (m:=1) ht B Z Z Z Z (fun cb bv a2 bw a3=>?_);have hr31':=a3;obtain⟨cc,rfl,S⟩:=hr31';refine I Z (WV O a2 Z Z) Z<|Ua O 10 [2,0] Z Z ?_;obtain⟨w,z⟩:=da (show i<g.from_.length from by rw[gB<|bT A];exact a1);refine WJ (e:=84) (m:=1) hf z Z Z Z Z (fun ce bI a4 b0 a5=>?_);have hr36':=a5;obtain⟨ch,rfl,a9⟩:=hr36';refine I Z (WV O a4 Z Z) Z<|I Z (WT a9 Z Z Z (e:=68) Z) Z<|vQ 1 Z<|I Z (WT S Z Z Z (e:=45) Z) Z<|Vr 3 Z<|aG Z (fun M=>?_) (fun M=>?_)
  ·refine V5 6 Z<|aA<|aK<|aA<|bL<|aK<|aA (?_);exact aB Z Z ⟨cJ (by symm;unfold cY;rw[h8,bT A,bT E,show mr g g.threads g.from_ 0=false from by rw[X,cN B,cN z];show(bif N _ _ then _ else false)=false;rw[de M];rfl];rfl),O.pop⟩
  refine UF 5 Z<|I Z (WT S Z Z Z (e:=45) Z) Z<|UH 4 Z ?_;obtain⟨LL2,O,hLL2⟩:=O.named;refine bk ([2,5,6]++rg 44 29) (fun j t V=>∃(Q:Nat),j+Q=u.length/\rD g i u w 0=rD g i (u.drop Q) (w.drop Q) Q/\t.get 44=some (nI Q)/\F V K LL2) (u.length) ⟨0,Z,Z,Z,O⟩ ?_;clear O;intro bt t V ar hI;obtain⟨Q,b3,T,bb,O⟩:=hI;subst hLL2;obtain⟨oo,rfl⟩:=ar.q1 bb Z;refine Vo 6 Z<|aG Z (fun ao=>?_) (fun ao=>?_)
  ·refine Ta 7 Z ?_;obtain⟨aa,W,am⟩:=dH ao;refine WJ (e:=45) (m:=5) S W Z Z Z Z (fun ci b4 be b5 bi=>?_);obtain rfl:=bi;refine I Z (WW O be Z Z) Z<|kb O (WU (cs:=[J,J,J,J,J])) (fun V b2 O=>?_);refine vQ 1 Z<|ks O (WZ Z Z Z O.g0 Z) (fun V O=>?_);refine UI 3 Z<|aP (l:=zp [0,1,2,3,4,5,6,7,8,9,10,11,12,13,14,15,16,17,18,19,20,21,22]) Y Y<|aj Z Z (W2 Z O.g0 Z) Z<|Wb O 2 [0,1] Z Z<|aj Z Z (WT hi Z Z Z (e:=2) Z) Z<|di Z Z (WQ Z Z Z) (fun _=>Z) (Dt hG _ _ O) (fun V O=>?_);refine⟨aU,?_⟩;refine aj Z Z (df Z) Z<|fA Z Z (al Z) (fun _=>Z) (fun ac=>?_) (fun ac=>?_)
   ·refine Vv 25 Z<|aK<|aA<|bL<|aK<|aK<|aA<|bL<|aK<|aA (?_);exact aB Z Z ⟨cJ (by symm;unfold cY;rw[h8,bT A,bT E,show mr g g.threads g.from_ 0=false from by rw[X,cN B,cN z];show(bif N _ _ then(bif rD g i u w 0 then _ else false) else false)=false;rw[bT M,show rD g i u w 0=false from by rw[T];obtain⟨R,C⟩:=da (show Q<w.length from by rw[gB<|bT M];exact am);rw[cN W,cN C];show(bif uW g i Q aa R then _ else false)=false;rw[show uW g i Q aa R=false from by unfold uW;rw[kJ ac];rfl];rfl];rfl];rfl),O.pop.pop⟩
   refine aj Z Z (W1 Z O.g1 Z) Z (V8 3 Z (aj Z Z (WO (places:=[(0,1),(1,1)]) (zero:=[J,J]) (cs:=[_,_]) Z) Z<|Wb O 3 [2,1] Z Z<|WK (e:=84) (m:=1) hf z Z Z Z Z Z (fun ck b6 bj b7 bm=>?_)));have hr64':=bm;obtain⟨cl,rfl,bq⟩:=hr64';refine aj Z Z (WV O bj Z Z) Z<|wQ 1 Z ?_;obtain⟨R,C⟩:=da (show Q<w.length from by rw[gB<|bT M];exact am);refine WK (e:=68) (m:=2) bq C Z Z Z Z Z (fun cn b8 br b9 bs=>?_);obtain rfl:=bs;refine aj Z Z (WW O br Z Z) Z<|di Z Z (WQ Z Z Z) (fun _=>Z) (FV hG h _ _ _ _ O) (fun V O=>?_);refine⟨aU,?_⟩;refine aj Z Z (df Z) Z<|Vu 3 Z<|aG Z (fun ap=>?_) (fun ap=>?_)
   ·refine V5 6 Z<|aK<|aA<|bL<|aK<|aK<|aA<|bL<|aK<|aA (?_);exact aB Z Z ⟨cJ (by symm;unfold cY;rw[h8,bT A,bT E,show mr g g.threads g.from_ 0=false from by rw[X,cN B,cN z];show(bif N _ _ then(bif rD g i u w 0 then _ else false) else false)=false;rw[bT M,show rD g i u w 0=false from by rw[T];rw[cN W,cN C];show(bif uW g i Q aa R then _ else false)=false;rw[show uW g i Q aa R=false from by unfold uW;rw[ft ac,<-aX (i:=i) (by have:=ht.cE;omega)];exact kJ ap];rfl];rfl];rfl),O.pop.pop⟩
   refine aH<|aD<|V0 4 Z ?_;have O:=O.pop;refine aJ ⟨bt-1,by omega,oF,Q+1,by omega,by rw[T,cN W,cN C];show(bif uW g i Q aa R then _ else false)=_;rw[show uW g i Q aa R=true from by unfold uW;rw[ft ac,<-aX (i:=i) (by have:=ht.cE;omega)];exact ft ap];rfl,cI<|aX (by have:=S.cE;omega),O⟩
  refine UG 3 Z<|aR<|aD<|V0 4 Z<|aJ ⟨j6-1,by omega,oF,i+1,by omega,by rw[X,cN B,cN z];show(bif N _ _ then(bif rD g i u w 0 then _ else false) else false)=_;rw[bT M,show rD g i u w 0=true from by rw[T,ff<|bJ ao];rfl];rfl,cI<|aX (by have:=ht.cE;omega),O⟩
 refine UG 3 Z<|aR<|UD 3 Z<|I Z (W1 Z O.g0 Z) Z<|kx (WQ Z Z Z) (Du hG h O) (fun V O=>?_);refine I Z (df Z) Z<|Vr 2 Z<|aG Z (fun aq=>?_) (fun aq=>?_)
 ·refine Vq 7 Z ?_;exact aB Z Z ⟨cJ (by symm;unfold cY;rw[h8,bT A,bT E,show mr g g.threads g.from_ 0=true from by rw[X,ff<|bJ ab];rfl,kJ aq];rfl),O.pop⟩
 refine Vq 8 Z ?_;exact aB Z Z ⟨cJ (by symm;unfold cY;rw[h8,bT A,bT E,show mr g g.threads g.from_ 0=true from by rw[X,ff<|bJ ab];rfl,ft aq];rfl),O.pop⟩
theorem RL.mono {α:Type} {K K':KP} (hk:KP.le K K') {m:Nat} {R:α->List U->Prop} {l:List α} {vs:List U} (h:RL K m R l vs):RL K' m R l vs:=let ⟨v,h1,d⟩:=h;⟨v,h1,d.mono hk fun _ _ h=>h⟩
theorem gG.mono {K K':KP} (hk:KP.le K K') {a b c d:U} (h:gG K g a b c d):gG K' g a b c d:=
 ⟨h.init.mono hk fun _ _ h=>h,h.threads.mono hk fun _ _ h=>h.mono hk,h.from_.mono hk fun _ _ h=>h.mono hk,h.order.mono hk fun _ _ h=>h.mono hk⟩
variable {es:List eW} {bv ck:Nat} {iv va vb vc vd:U} {id:cD}
theorem Rd (S:Plain G) {B C bm:Nat} (h3:K bv (.row [.ptr B 0] 309 false)) (h5:K bm (.row [.map C] 133 false)) {e:cz} {ids:List cD} {ju:List cz} {ev:U} {M1 E:Own} {m:List (cD×Int)} (hm:fC CI gN es m) (hO1:cQ 2 68 jm ids iv M1) (hO2:cQ 5 45 jl ju ev E) (aa:ids.length<=1000) (ab:ju.length<=1000)
  {V:aF} {L:Own} (O:F V K (M1++(E++((B,.row [iv,ev,.ax,.ax] 351 false)::(C,.map es ck)::L)))):
  EC G 323 [.agg [.int .i64 id.br,.int .i64 id.index],.agg [.int .i64 e.kind,.int .i64 e.loc,.int .i64 e.order,.int .i64 e.read,.int .i64 e.write],.ptr bv 0,.ptr bm 0] V fun _ V'=>∃iv' ev' d u es' ck',fC CI gN es' (sR m id (.ofNat ids.length))/\cQ 2 68 jm (ids++[id]) iv' d/\cQ 5 45 jl (ju++[e]) ev' u/\F V' K (d++(u++((B,.row [iv',ev',.ax,.ax] 351 false)::(C,(.map es' ck'))::L))):=by
 refine VV S Tryz.func323 Z<|Vp 2 Z<|kb O (cd Z Z) (fun V b3 O=>?_);refine kb O (cd Z Z) (fun V b4 O=>?_);refine UI 3 Z<|aP (l:=zp [0,1,2,3,4,5,6,7]) Y Y<|aj Z Z (WS Z (O.bY h5) Z) Z<|aj Z Z (W0 Z O.g1 Z) Z<|aj Z Z (WS Z (O.bY h3) Z) Z<|aj Z Z (bV Z) Z<|aj Z Z (WR 0 Z) Z<|aj Z Z (WS Z O.pop.pop.bB.bB.g0 Z) Z<|aj Z Z (HJ hO1 Z Z Z (e:=68) Y Z) Z<|So L3 hm O O.pop.pop.bB.bB.pop.g0 _ (fun o'=>.there (.there (.bE (.bE (.there .here))))) (k:=id) (v:=.ofNat ids.length) Z Z Z Z Z Z Z (fun V es ck O hm=>?_);refine Vu 2 Z (ak (aP (l:=[(0,[]),(1,[]),(2,[]),(3,[]),(4,[]),(5,[]),(6,[]),(7,[0]),(8,[]),(9,[]),(10,[])]) Y Y<|aj Z Z (WS Z (O.bY h3) Z) Z<|aj Z Z (WS Z (O.bY h3) Z) Z<|aj Z Z (bV Z) Z<|aj Z Z (WR 0 Z) Z<|aj Z Z (WS Z O.pop.pop.bB.bB.g0 Z) Z<|aj Z Z (W0 Z O.g1 Z) Z<|nH O Z Z (bR (e:=68) (m:=2) (z:=[J,J]) (cs:=[_,_]) Y Y Y Y<|a6 Z Z Z Z bH) (fun _=>Z) (fun V b5 O=>?_)));replace O:=O.pull (.there (.there (.there<|bG.here (X:=M1))));replace O:=O.pull (.bE<|bG.here (X:=[_]));rw[za_] at O;refine CV (R:=jm) (m:=2) (e:=68) hO1 O (ec (m:=2) Z (show jm id _ from Z)) jm.leaf (by show _+1<=_;omega) Z Z Z Z Z Z Z Z (fun _=>Z) (fun V M w hO20 O=>?_);refine⟨(bf (bo Z Z Z Z Z (WS Z (O.bY h3) Z)<|qH _ _) aU),?_⟩;refine aj Z Z (bV Z) Z<|aj Z Z (WR 0 Z) Z<|gn O (.bE (.there (.there (.bE .here)))) Z Z (aI Z Z hO20.leaf.1 O.bB.pop.pop.bB.g0 (m:=1) Y Z (lb Z) (ah hO20.leaf.2 az) (cells':=[_,_,_,_]) Z) Z (fun V O=>?_);refine⟨aU,?_⟩;refine Vu 2 Z (aP (l:=[(0,[]),(1,[]),(2,[]),(3,[]),(4,[]),(5,[]),(6,[]),(7,[0]),(8,[]),(9,[]),(10,[])]) Y Y<|aj Z Z (WS Z (O.bY h3) Z) Z<|aj Z Z (WS Z (O.bY h3) Z) Z<|aj Z Z (bV Z) Z<|aj Z Z (WR 1 Z) Z<|aj Z Z (WS Z O.bB.pop.pop.bB.g0 Z) Z<|aj Z Z (W2 Z O.bB.g0 Z) Z<|nH O Z Z (bR (e:=45) (m:=5) (z:=[J,J,J,J,J]) (cs:=[_,_,_,_,_]) Y Y Y Y<|a6 Z Z Z Z bH) (fun _=>Z) (fun V b6 O=>?_));replace O:=O.pull (.there (.bE (.there (.there<|bG.here (X:=E)))));replace O:=O.pull (.bE<|bG.here (X:=[_]));rw[za_] at O;refine CV (R:=jl) (m:=5) (e:=45) hO2 O (ec (m:=5) Z (show jl e _ from Z)) jl.leaf (by show _+1<=_;omega) Z Z Z Z Z Z Z Z (fun _=>Z) (fun V Q A hO30 O=>?_);refine⟨(bf (bo Z Z Z Z Z (WS Z (O.bY h3) Z)<|qH _ _) aU),?_⟩
 refine aj Z Z (bV Z) Z<|aj Z Z (WR 1 Z) Z<|gn O (.bE (.bE (.there (.there .here)))) Z Z (aI Z Z hO30.leaf.1 O.bB.bB.pop.pop.g0 (m:=1) Y Z (lb Z) (ah hO30.leaf.2 az) (cells':=[_,_,_,_]) Z) Z (fun V O=>?_);refine⟨aU,?_⟩;refine aW ?_;replace O:=O.pull (.bE (.bE (.there (.there (.there<|bG.here (X:=[_]))))));rw[za_] at O;replace O:=O.pull (.there (.bE (.bE (.there (.there<|bG.here (X:=[_]))))));rw[za_] at O;replace O:=O.pull (.there (.there<|bG.here (X:=A)));replace O:=O.pull (.bE (.there (.there<|bG.here (X:=w))));replace O:=O.sub (cu<|cu (.cons_cons _ (.cons_cons _ (.cons _ (.cons _ (.refl _))))));exact⟨.inl Z,_,Z,M,Q,w,A,es,ck,hm,hO20,hO30,O⟩
theorem Nh (hG:Plain G) (hg:gG K g va vb vc vd) (O:F V K L):
  EC G 256 [.agg [va,vb,vc,vd]] V fun v V'=>(N (cY g) 0=false/\v= .tuple [.nilPtr,.bool false]/\F V' K L)∨(cG g/\∃K1 b iv ev fv pv,v= .tuple [.ptr b 0,.bool true]/\KP.le K K1/\mz K1 g b iv ev fv pv/\F V' K1 L):=by
 refine VV hG Tryz.func256 Z<|Vp 2 Z<|kb O (cd Z Z) (fun V b1 O=>?_);refine TY 7 Z<|I Z (W1 Z O.g0 Z) Z<|kx (WQ Z Z Z) (xT hG hg O) (fun V O=>?_);refine Vr 3 Z<|aG Z (fun bb=>?_) (fun bb=>?_)
 ·refine Vq 8 Z ?_;exact⟨.inr Z,_,rz Z Z Z,.inl ⟨de bb,Z,O.pop⟩⟩
 refine UF 4 Z ?_;have hR:=cP.1 (AT<|bT bb);have hvl:=kI hR;refine I Z (WO (places:=[(0,1),(1,1),(2,1),(3,1)]) (zero:=[.ax,.ax,.ax,.ax]) (cs:=[_,_,_,_]) Z) Z<|kb O (cd Z Z) (fun V b2 O=>?_);refine kb O (WU (cs:=[.nilPtr])) (fun V b3 O=>?_);refine ks O (S1 Z Z Z O.g0 (m:=1) Z Z (cells':=[_]) Z) (fun V O=>?_);refine UJ 4 Z<|MM O Z B6 (fun _=>Z) (fun V b4 O=>?_);refine kb O (WU (cs:=[.iM])) (fun V b5 O=>?_);refine ks O (S1 Z Z Z O.g0 (m:=1) Z Z (cells':=[_]) Z) (fun V O=>?_);refine UJ 4 Z ?_;replace O:=O.pull (.there<|bG.here (X:=[_]));rw[za_] at O;replace O:=O.pull (.there (.there (.there<|bG.here (X:=[_]))));rw[za_] at O;replace O:=O.pull (.there (.there (.there (.there<|bG.here (X:=[_])))));rw[za_] at O;replace O:=O.pull (.there (.there (.there (.there<|bG.here (X:=[_])))));rw[za_] at O;replace O:=O.pull (.there (.there (.there (.there<|bG.here (X:=[_])))));rw[za_] at O;obtain⟨K1,a0,d,O⟩:=O.bF (M:=[_,_,_]);have h5:=d _ (mS_ ..);have h3:=d _ (mC_ _<|mS_ ..);have hb:=d _ (mC_ _<|mC_ _<|mS_ ..);clear d;replace hg:=hg.mono a0;refine Ua O 8 [0] Z Z (I Z (WS Z (O.bY hb) Z) Z (I Z (WT hg.init Z Z Z (e:=2) Z) Z (UH 4 Z (bk ([7,8]++rg 29 13) (fun j t V=>∃(i:Nat) (iv ev:U) (M1 S:Own) (es:List eW) (ck:Nat) (m:List (cD×Int)),j+i=g.init.length/\fC CI gN es m/\xw (iW g i 0 0) m/\cQ 2 68 jm (iW g i 0 0) iv M1/\cQ 5 45 jl ((iW g i 0 0).map fun id=>iE (cX g id)) ev S/\t.get 29=some (nI i)/\F V K1 (M1++(S++((b2,.row [iv,ev,.ax,.ax] 351 false)::(b4,.map es ck)::L)))) (g.init.length) ⟨0,.ax,.ax,[],[],[],0,[],Z,.nil,.nil,.inl ⟨Z,Z,Z⟩,.inl ⟨Z,Z,Z⟩,Z,O⟩ ?_))));clear O;intro j7 t V ar hI;obtain⟨i,iv,ev,M1,S,es,ck,m,ga,hm,hn,hO1,hO2,cn,O⟩:=hI;obtain⟨oo,rfl⟩:=ar.q1 cn Z;refine Vo 6 Z<|aG Z (fun ap=>?_) (fun ap=>?_)
 ·refine Ta 7 Z ?_;obtain⟨cp,a1,ew⟩:=dH ap;refine WJ (e:=2) (m:=1) hg.init a1 Z Z Z Z (fun gc ex cr e0 cv=>?_);obtain rfl:=cv;refine I Z (WV O cr Z Z) Z (Vs 7 Z (I Z (WO (places:=[(0,1),(1,1)]) (zero:=[J,J]) (cs:=[_,_]) Z) Z (V7 2 Z (I Z (WO (places:=[(0,1),(1,1),(2,1),(3,1),(4,1)]) (zero:=[J,J,J,J,J]) (cs:=[_,_,_,_,_]) Z) Z ?_))));have hil:=bd ap;have hle:=uP hR (i:=i) (t:=0) (k:=0) (by have:=hR.init;omega) oM oM;obtain⟨r0,be⟩:=Ma hil;have bi:cX g ⟨0,.ofNat i⟩=some ⟨2,.ofNat i,1,0,cp⟩:=by show(g.init[i]?).map _=_;rw[a1];rfl
  refine kw (WQ Z Z Z) (Rd hG h3 h5 (id:=⟨0,.ofNat i⟩) (e:=⟨2,.ofNat i,1,0,cp⟩) hm hO1 hO2 oM (by rw[lM_];omega) O) ?_;rintro ge V ⟨iv',ev',bj,bm,es',ck',bq,hO1',hO2',O⟩;have hn2:=hn.put (Ie be);refine af<|aD<|V0 4 Z<|aJ ⟨j7-1,by omega,oF,i+1,iv',ev',bj,bm,es',ck',_,by omega,bq,(CF ▸ hn2),(CF ▸ hO1'),(by rw[<-CF,map_append];show cQ 5 45 jl (_++[iE<|cX g _]) _ _;rw[bi];exact hO2'),cI<|aX (by have:=hR.init;omega),O⟩
 refine UG 3 Z<|aR<|UO O 4 [1] Z Z<|I Z (WS Z (O.bY hb) Z) Z<|I Z (WT hg.threads Z Z Z (e:=90) Z) Z<|UH 4 Z ?_;have br:i=g.init.length:=by have:=bJ ap;omega
 subst br;refine bk (rg 9 4++rg 45 21) (fun j t V=>∃(tt:Nat) (iv ev:U) (M1 S:Own) (es:List eW) (ck:Nat) (m:List (cD×Int)),j+tt=g.threads.length/\fC CI gN es m/\xw (iW g g.init.length tt 0) m/\cQ 2 68 jm (iW g g.init.length tt 0) iv M1/\cQ 5 45 jl ((iW g g.init.length tt 0).map fun id=>iE (cX g id)) ev S/\t.get 45=some (nI tt)/\F V K1 (M1++(S++((b2,.row [iv,ev,.ax,.ax] 351 false)::(b4,.map es ck)::L)))) (g.threads.length) ⟨0,iv,ev,M1,S,es,ck,m,Z,hm,hn,hO1,hO2,Z,O⟩ ?_;clear O;intro dP t V ar hI;obtain⟨tt,iv,ev,M1,S,es,ck,m,e3,hm,hn,hO1,hO2,cw,O⟩:=hI;obtain⟨oo,rfl⟩:=ar.q1 cw Z;refine Vo 6 Z<|aG Z (fun ab=>?_) (fun ab=>?_)
 ·refine Ta 7 Z ?_;obtain⟨ac,A,e4⟩:=dH ab;refine WJ (e:=90) (m:=1) hg.threads A Z Z Z Z (fun gf e5 cx e6 c0=>?_);have hr48':=c0;obtain⟨gi,rfl,a2⟩:=hr48';refine I Z (WV O cx Z Z) Z (UJ 7 Z (I Z (WT a2 Z Z Z (e:=45) Z) Z (UH 4 Z (bk ([11,12]++rg 52 13) (fun j t V=>∃(kk:Nat) (iv ev:U) (M1 S:Own) (es:List eW) (ck:Nat) (m:List (cD×Int)),j+kk=ac.length/\fC CI gN es m/\xw (iW g g.init.length tt kk) m/\cQ 2 68 jm (iW g g.init.length tt kk) iv M1/\cQ 5 45 jl ((iW g g.init.length tt kk).map fun id=>iE (cX g id)) ev S/\t.get 52=some (nI kk)/\F V K1 (M1++(S++((b2,.row [iv,ev,.ax,.ax] 351 false)::(b4,.map es ck)::L)))) (ac.length) ⟨0,iv,ev,M1,S,es,ck,m,Z,hm,hn,hO1,hO2,Z,O⟩ ?_))));clear O;intro d0 t V ar hI;obtain⟨kk,iv,ev,M1,S,es,ck,m,e7,hm,hn,hO1,hO2,c1,O⟩:=hI;obtain⟨oo,rfl⟩:=ar.q1 c1 Z;refine Vo 6 Z<|aG Z (fun aq=>?_) (fun aq=>?_)
  ·refine Ta 7 Z ?_;obtain⟨x55,a3,e8⟩:=dH aq;refine WJ (e:=45) (m:=5) a2 a3 Z Z Z Z (fun gl e9 c2 fd c3=>?_);obtain rfl:=c3;refine I Z (WW O c2 Z Z) Z<|kb O (WU (cs:=[J,J,J,J,J])) (fun V b6 O=>?_);refine vQ 1 Z<|ks O (WZ Z Z Z O.g0 Z) (fun V O=>?_);refine Vs 5 Z (I Z (ay (v:=nI (tt+1)) Z Z<|cI<|aX (by have:=hg.threads.cE;have:=bd ab;omega)) Z (vQ 1 Z (I Z (WO (places:=[(0,1),(1,1)]) (zero:=[J,J]) (cs:=[_,_]) Z) Z<|I Z (W2 Z O.g0 Z) Z ?_)));replace O:=O.sub (.cons _<|cu<|cu (.cons_cons _ (.cons_cons _ (.refl _))));have hkl:=bd aq;have htl:=bd ab;have hle:=uP hR (i:=g.init.length) (t:=tt) (k:=kk) hR.init (by have:=hR.short tt ac A;omega) (by have:=hR.threads;omega);obtain⟨r0,be⟩:=Mb A hkl;have bi:cX g ⟨.ofNat (tt+1),.ofNat kk⟩=some x55:=by rw[fB,A];exact a3
   refine kw (WQ Z Z Z) (Rd hG h3 h5 (id:=⟨.ofNat (tt+1),.ofNat kk⟩) (e:=x55) hm hO1 hO2 oM (by rw[lM_];omega) O) ?_;rintro gr V ⟨iv',ev',bj,bm,es',ck',bq,hO1',hO2',O⟩;have hn2:=hn.put (Ie be);refine af<|aD<|V0 4 Z<|aJ ⟨d0-1,by omega,oF,kk+1,iv',ev',bj,bm,es',ck',_,by omega,bq,(y8 ▸ hn2),(y8 ▸ hO1'),(by rw[<-y8,map_append];show cQ 5 45 jl (_++[iE<|cX g _]) _ _;rw[bi];exact hO2'),cI<|aX (by have:=hR.short tt ac A;omega),O⟩
  refine UG 3 Z<|aR<|aD<|V0 4 Z ?_;have htl:=bd ab;have d8:kk=ac.length:=by have:=bJ aq;omega
  subst d8;rw[GJ A] at hn hO1 hO2;refine aJ ⟨dP-1,by omega,oF,tt+1,iv,ev,M1,S,es,ck,m,by omega,hm,hn,hO1,hO2,cI<|aX (by have:=hR.threads;omega),O⟩
 refine UG 3 Z (aR (ad (ak (aP (l:=[(0,[]),(1,[]),(2,[]),(3,[]),(4,[]),(5,[]),(6,[]),(7,[]),(8,[]),(9,[]),(10,[]),(11,[]),(12,[]),(13,[]),(14,[]),(15,[]),(16,[1,13]),(17,[]),(18,[]),(19,[])]) Y Y ?_))));have d9:g.threads.length<=tt:=bJ ab;rw[y5 d9] at hn hO1 hO2;obtain⟨K2,c4,c5,O⟩:=O.bF (M:=M1);obtain⟨K3,a4,c7,O⟩:=O.bF (M:=S);have E:bS K3 2 jm (gj g) iv:=hO1.ib fun y hy=>a4 _ _ (c5 y hy)
 have a5:bS K3 5 jl (An g) ev:=hO2.ib fun y hy=>c7 y hy
 have hle23:=kR c4 a4;replace h5:=hle23 _ _ h5;replace h3:=hle23 _ _ h3;replace hb:=hle23 _ _ hb;replace hg:=hg.mono hle23;clear c5 c7;refine aj Z Z (WS Z (O.bY h3) Z) Z (aj Z Z (WS Z (O.bY h3) Z) Z (aj Z Z (WS Z (O.bY h3) Z) Z (aj Z Z (bV Z) Z (Wb O 2 [0,0] Z Z (aj Z Z (WT E Z Z Z (e:=68) Z) Z (nH O Z Z (jd (e:=3) (w:=8) (z:=[gN (0:Int)]) Y Y Y Y (show _=some (U.int .i64 (.ofNat<|H g)) from Z) (show _=some (U.int .i64 (.ofNat<|H g)) from Z) oM oM) (fun _=>Z) (fun V b6 O=>?_)))))));rw[gp (f:=gN)] at O;refine aj Z Z (WS Z (O.bY h3) Z) Z (aj Z Z (bV Z) Z (Wb O 2 [0,1] Z Z (aj Z Z (WT E Z Z Z (e:=68) Z) Z (nH O Z Z (jd (e:=3) (w:=8) (z:=[gN (0:Int)]) Y Y Y Y (show _=some (U.int .i64 (.ofNat<|H g)) from Z) (show _=some (U.int .i64 (.ofNat<|H g)) from Z) oM oM) (fun _=>Z) (fun V b7 O=>?_)))));rw[gp (f:=gN)] at O;refine aj Z Z (bV Z) Z<|aj Z Z (WR 2 Z) Z<|Nc O Z Z (S1 Z Z Z (O.get 2 Z) (m:=1) Z Z (cells':=[_,_,_,_]) Z) Z (fun V O=>?_);refine⟨(bf (bo Z Z Z Z Z (WS Z (O.bY h3) Z)<|qH _ _) (bf (vw Z Z Z Z Z ((nL (e:=3) (w:=8) (z:=[gN (0:Int)]) Y Y Y Y (show _=some (U.int .i64 (.ofNat<|H g)) from Z) (show _=some (U.int .i64 (.ofNat<|H g)) from Z) oM oM).trans (by rw[gp (f:=gN)])) O.g0<|Jc _) aU)),?_⟩;refine aj Z Z (bV Z) Z<|aj Z Z (WR 3 Z) Z<|Nc O Z Z (S1 Z Z Z (O.get 2 Z) (m:=1) Z Z (cells':=[_,_,_,_]) Z) Z (fun V O=>?_);refine⟨aU,?_⟩;refine Vu 2 Z<|UD 3 Z ?_;replace O:=O.pull (.there (.there (.there<|bG.here (X:=[_]))));rw[za_] at O;replace O:=O.pull (.there (.there<|bG.here (X:=[_])));rw[za_] at O;replace O:=O.pull (.there (.there<|bG.here (X:=[_])));rw[za_] at O;replace O:=O.pull (.there (.there (.there<|bG.here (X:=[_]))));rw[za_] at O;replace O:F V K3 ((b2,.row [iv,ev,.slice b6 0 (H g) (.known<|H g),.slice b7 0 (H g) (.known<|H g)] 351 false)::(b7,.row ((rm g 0).map gN) 3 false)::(b6,.row ((lY g 0).map gN) 3 false)::(b4,.map es ck)::L):=by rw[J6,GB];exact O
 refine I Z (WS Z (O.bY h3) Z) Z (I Z (bV Z) Z (Wa O 2 [0,0] Z Z (I Z (WT E Z Z Z (e:=68) Z) Z (UH 4 Z (bk ([13,14]++rg 89 49) (fun j t V=>∃(i:Nat),j+i=H g/\t.get 89=some (nI i)/\F V K3 ((b2,.row [iv,ev,.slice b6 0 (H g) (.known<|H g),.slice b7 0 (H g) (.known<|H g)] 351 false)::(b7,.row ((rm g i).map gN) 3 false)::(b6,.row ((lY g i).map gN) 3 false)::(b4,.map es ck)::L)) (H g) ⟨0,Z,Z,O⟩ ?_)))));clear O;intro bs t V ar hI;obtain⟨i,fi,c8,O⟩:=hI;obtain⟨oo,rfl⟩:=ar.q1 c8 Z;refine Vo 6 Z<|aG Z (fun bt=>?_) (fun bt=>?_)
 ·refine Ta 6 Z ?_;have u:i<H g:=bd bt;refine vQ 1 Z<|WJ (e:=68) (m:=2) E (eE u) Z Z Z Z (fun gs fk c9 fs dd=>?_);obtain rfl:=dd;refine I Z (WW O c9 Z Z) Z<|kb O (WU (cs:=[J,J])) (fun V b8 O=>?_);refine vQ 1 Z<|ks O (WX Z Z Z O.g0 Z) (fun V O=>?_);refine UI 3 Z (aP (l:=zp [0,1,2,3,4,5,6,7,8,9,10,11,12,13]) Y Y (aj Z Z (WS Z (O.bY h3) Z) Z (aj Z Z (bV Z) Z (Wb O 3 [2,1] Z Z (aj Z Z (WS Z (O.bY h3) Z) Z (aj Z Z (bV Z) Z (Wb O 3 [3,1] Z Z (aj Z Z (eF (e:=3) (m:=1) Y Y Z Z u) Z (gn O (.there (.there (.there .here))) Z Z (aI Z Z Z (O.get 3 Z) (m:=1) Y Z (by rw[lM_];rw[sc];omega) Z (cells':=((lY g i).set i (-1)).map (gN)) (dL (f:=gN) (v:=(-1)) (by rw[sc];exact u) (by first | omega | rfl))) Z (fun V O=>?_))))))))));refine⟨aU,?_⟩;refine aj Z Z (eF (e:=3) (m:=1) Y Y Z Z u) Z (gn O (.there (.there .here)) Z Z (aI Z Z Z (O.get 2 Z) (m:=1) Y Z (by rw[lM_];rw[vh];omega) Z (cells':=((rm g i).set i (-1)).map (gN)) (dL (f:=gN) (v:=(-1)) (by rw[vh];exact u) (by first | omega | rfl))) Z (fun V O=>?_));refine⟨aU,?_⟩;refine UN 4 Z<|Vx O 5 [0,0] Z Z<|aG Z (fun Q=>?_) (fun Q=>?_)
  ·refine ai Z (I Z (WS Z (O.bY h3) Z) Z (I Z (bV Z) Z (Wa O 3 [3,1] Z Z (I Z (eF (e:=3) (m:=1) Y Y Z Z u) Z (gm O (.there (.there .here)) Z (aI Z Z Z (O.get 2 Z) (m:=1) Y Z (by rw[lM_];rw[zg_,vh];omega) Z (cells':=(((rm g i).set i (-1)).set i 0).map (gN))<|dL (f:=gN) (v:=0) (by rw[zg_,vh];exact u) (by first | omega | rfl)) Z (fun V O=>?_))))));refine af<|aD<|V0 4 Z ?_;have O:=O.pop;rw[J5 Q,yQ<|tO<|El u Q] at O;refine aJ ⟨bs-1,by omega,oF,i+1,by omega,cI<|aX oM,O⟩
  refine Vp 2 Z<|I Z (WS Z (O.bY h3) Z) Z<|vQ 1 Z ?_;replace O:=O.pull (.there<|bG.here (X:=[_]));rw[za_] at O;have hst0:=O;have hstk:=F.keeps (M:=[_]) O;refine kx (WQ Z Z Z) ((E4 hG (.inr<|mS_ ..) (a5.mono (KP.dM _ _) fun _ _ h=>h) u hstk).mono fun v V' h=>⟨h.1,F.vy (M:=[_]) hst0 h.2⟩) (fun V O=>?_);rw[za_] at O;replace O:=O.pull (.there<|bG.here (X:=[_]));rw[za_] at O;refine Vr 2 Z<|aG Z (fun W=>?_) (fun W=>?_)
  ·refine aP (l:=zp [0,1,2,3,4,5,6,7,8,9,10,11,12,13,14,15,16,17,18,19]) Y Y ?_;obtain⟨t2,k2,f0,e2,frow,q,d1,d2,d3,d4,d5,d6,d7,_⟩:=yP hR u W;obtain⟨fn,f1,dl,dm⟩:=LZ hR u W;have ea:eH g i=((tP m q 0).map (·.2)).getD 0:=by rw[dl,hn.get (fun i j x h1 h2=>sd h1 h2) (by rw[dm,d7])]
   refine aj Z Z (WS Z (O.bY h3) Z) Z (aj Z Z (bV Z) Z (Wb O 3 [2,1] Z Z (aj Z Z (WS Z (O.bY h5) Z) Z (aj Z Z (WR 2 Z) Z (aj Z Z (WS Z (O.bY hb) Z) Z (Wb O 2 [0,0] Z Z (aj Z Z (ay (v:=nI t2) Z Z (by rw[d1];exact cI (fx (by have:=(gA.1 d2).1;have:=hR.threads;omega)))) Z<|WK (e:=84) (m:=1) hg.from_ d5 Z Z Z Z Z (fun f2 eb bv ee bw=>?_))))))));have hr129':=bw;obtain⟨f3,rfl,bI⟩:=hr129';refine aj Z Z (WV O bv Z Z) Z<|Wb O 2 [1,0] Z Z<|WK (e:=68) (m:=2) bI d6 Z Z Z Z (cI<|congrArg cD.index d1) (fun f4 ef b0 eg b9=>?_);obtain rfl:=b9;refine aj Z Z (WW O b0 Z Z) Z<|aj Z Z (Ae L3 hm (O.get 4 Z) (k:=q) Z Z) Z<|aj Z Z (eF (e:=3) (m:=1) Y Y Z Z u) Z ?_;refine gn O (.there (.there (.there .here))) Z Z (aI Z Z Z (O.get 3 Z) (m:=1) Y Z (by rw[lM_];rw[zg_,sc];omega) Z (cells':=(((lY g i).set i (-1)).set i (((tP m q 0).map (·.2)).getD 0)).map (gN)) (dL (f:=gN) (v:=(((tP m q 0).map (·.2)).getD 0)) (by rw[zg_,sc];exact u) (by first | omega | rfl))) Z (fun V O=>?_)
   refine⟨aU,?_⟩;refine aW<|aD<|V0 4 Z ?_;have O:=O.pop;rw[BB Q,GA ea] at O;refine aJ ⟨bs-1,by omega,oF,i+1,by omega,cI<|aX oM,O⟩
  refine aH<|aD<|V0 4 Z ?_;have O:=O.pop;rw[BB Q,yQ<|tO W] at O;refine aJ ⟨bs-1,by omega,oF,i+1,by omega,cI<|aX oM,O⟩
 refine UG 3 Z<|aR<|UD 3 Z ?_;have br:i=H g:=by have h:H g<=i:=bJ bt;omega
 subst br;rw[Jx,Nn] at O;refine I Z (WR 3 Z) Z (I Z (WS Z (O.bY hb) Z) Z (I Z (WT hg.order Z Z Z (e:=84) Z) Z (UH 4 Z (bk ([16,17,18]++rg 141 23) (fun j t V=>∃(a:Nat),j+a=g.order.length/\t.get 141=some (nI a)/\F V K3 ((b2,.row [iv,ev,.slice b6 0 (H g) (.known<|H g),.slice b7 0 (H g) (.known<|H g)] 351 false)::(b7,.row ((gQ g a 0).map gN) 3 false)::(b6,.row (((range<|H g).map<|eH g).map gN) 3 false)::(b4,.map es ck)::L)) (g.order.length) ⟨0,Z,Z,O⟩ ?_))));clear O;intro ei t V ar hI;obtain⟨a,f5,ca,O⟩:=hI;obtain⟨oo,rfl⟩:=ar.q1 ca Z;refine Vo 6 Z<|aG Z (fun aa=>?_) (fun aa=>?_)
 ·refine Ta 6 Z ?_;obtain⟨am,B,ej⟩:=dH aa;refine WJ (e:=84) (m:=1) hg.order B Z Z Z Z (fun f6 ek cb el cc=>?_);have hr143':=cc;obtain⟨f7,rfl,C⟩:=hr143';refine I Z (WV O cb Z Z) Z (UJ 6 Z (I Z (WT C Z Z Z (e:=68) Z) Z (UH 4 Z (bk ([17,18]++rg 147 16) (fun j t V=>∃(c:Nat),j+c=am.length/\t.get 147=some (nI c)/\F V K3 ((b2,.row [iv,ev,.slice b6 0 (H g) (.known<|H g),.slice b7 0 (H g) (.known<|H g)] 351 false)::(b7,.row ((gQ g a c).map gN) 3 false)::(b6,.row (((range<|H g).map<|eH g).map gN) 3 false)::(b4,.map es ck)::L)) (am.length) ⟨0,Z,Z,O⟩ ?_))));clear O;intro em t V ar hI;obtain⟨c,f8,ce,O⟩:=hI;obtain⟨oo,rfl⟩:=ar.q1 ce Z;refine Vo 6 Z<|aG Z (fun R=>?_) (fun R=>?_)
  ·refine Ta 7 Z ?_;obtain⟨a9,T,en⟩:=dH R;refine WJ (e:=68) (m:=2) C T Z Z Z Z (fun f9 ep ch er ci=>?_);obtain rfl:=ci;refine I Z (WW O ch Z Z) Z<|kb O (WU (cs:=[J,J])) (fun V b8 O=>?_);refine vQ 1 Z<|ks O (WX Z Z Z O.g0 Z) (fun V O=>?_);refine Vr 2 Z<|aP (l:=zp [0,1,2,3,4,5,6,7,8,9,10]) Y Y ?_;obtain⟨nn,cl,dr,ds,_,_⟩:=Bq hR B T;have dx:((tP m a9 0).map (·.2)).getD 0= .ofNat nn:=hn.get (fun i j x h1 h2=>sd h1 h2) dr
   refine aj Z Z (WS Z (O.bY h3) Z) Z (aj Z Z (bV Z) Z (Wb O 2 [3,1] Z Z (aj Z Z (WS Z (O.bY h5) Z) Z (aj Z Z (W0 Z O.g0 Z) Z (aj Z Z (Ae L3 hm (O.get 4 Z) (k:=a9) Z Z) Z (wQ 1 Z (aj Z Z (ay (v:=nI (c+1)) Z Z<|cI<|aX (by have:=C.cE;have:=bd R;omega)) Z (aj Z Z (eF (e:=3) (m:=1) Y Y Z (cI dx) cl) Z (gn O (.there (.there .here)) Z Z (aI Z Z Z (O.get 2 Z) (m:=1) Y Z (by rw[lM_];rw[qa];omega) Z (cells':=((gQ g a c).set nn (.ofNat (c+1))).map (gN)) (dL (f:=gN) (v:=(.ofNat (c+1))) (by rw[qa];exact cl) (by first | omega | rfl))) Z (fun V O=>?_))))))))));refine⟨aU,?_⟩;rw[Hf hR B T cl ds] at O;refine aW<|aD<|V0 4 Z ?_;have O:=O.pop;have hcl:=bd R;refine aJ ⟨em-1,by omega,oF,c+1,by omega,cI<|aX (by have:=C.cE;omega),O⟩
  refine UG 3 Z<|aR<|aD<|V0 4 Z ?_;have hal:=bd aa;have et:c=am.length:=by have:=bJ R;omega
  subst et;rw[Fa B] at O;refine aJ ⟨ei-1,by omega,oF,a+1,by omega,cI<|aX (by have:=hg.order.cE;omega),O⟩
 refine UG 3 Z<|aR<|Vp 2 Z<|I Z (WS Z (O.bY h3) Z) Z<|Vt 5 Z ?_;replace O:=O.pull (.there (.there (.there<|bG.here (X:=[_]))));rw[za_] at O;replace O:=O.pull (.there (.there (.there<|bG.here (X:=[_]))));rw[za_] at O;replace O:=O.pull (.there (.there (.there<|bG.here (X:=[_]))));rw[za_] at O;replace O:=O.pull (.there (.there (.there<|bG.here (X:=[_]))));rw[za_] at O;rw[Hd hR<|bJ aa] at O;obtain⟨K4,ao,d,O⟩:=O.bF (M:=[_,_,_]);have k2:=d _ (mS_ ..);have k8:=d _ (mC_ _<|mS_ ..);have k7:=d _ (mC_ _<|mC_ _<|mS_ ..);clear d;exact⟨.inr Z,_,rz Z Z Z,.inr ⟨hR,K4,b2,iv,ev,_,_,Z,kR a0<|kR hle23 ao,⟨k2,E.mono ao fun _ _ h=>h,a5.mono ao fun _ _ h=>h,uO k7 (by simp) oM,uO k8 (by simp) oM⟩,O.pop⟩⟩
structure mR (K:KP) (g:XG) (u0 u1 u2 u3 ue up ul us uh:U):Prop where
 po:bS K 1 RU (bp (H g)<|jk g) u0
 rf:bS K 1 RU (bp (H g)<|qz g) u1
 co:bS K 1 RU (bp (H g)<|nE g) u2
 fr:bS K 1 RU (bp (H g)<|pW g) u3
 Q5:bS K 1 RU (bp (H g)<|kW (H g)<|iY [qz g,nE g,pW g]) ue
 Hi:bS K 1 RU (bp (H g)<|kW (H g)<|iY [jk g,qz g]) up
 loc:bS K 1 RU (bp (H g)<|tT g) ul
 sw:bS K 1 RU (bp (H g)<|sU g) us
 hb:bS K 1 RU (bp (H g)<|kW (H g)<|iY [jk g,sU g]) uh
theorem mR.mono {K K':KP} {g:XG} {d u w z ue up ul us uh:U} (h:mR K g d u w z ue up ul us uh) (hk:KP.le K K'):mR K' g d u w z ue up ul us uh:=⟨h.po.mono hk fun _ _ h=>h,h.rf.mono hk fun _ _ h=>h,h.co.mono hk fun _ _ h=>h,h.fr.mono hk fun _ _ h=>h,h.Q5.mono hk fun _ _ h=>h,h.Hi.mono hk fun _ _ h=>h,h.loc.mono hk fun _ _ h=>h,h.sw.mono hk fun _ _ h=>h,h.hb.mono hk fun _ _ h=>h⟩
def HN:List U:=[.int .i64 0,.ax,.int .i64 0,.ax,.int .i64 0,.ax,.int .i64 0,.ax,.int .i64 0,.ax,.int .i64 0,.ax,.int .i64 0,.ax,.int .i64 0,.ax,.int .i64 0,.ax]
def fz (n:Nat) (u0 u1 u2 u3 ue up ul us uh:U):List U:=[.int .i64 (.ofNat n),u0,.int .i64 (.ofNat n),u1,.int .i64 (.ofNat n),u2,.int .i64 (.ofNat n),u3,.int .i64 (.ofNat n),ue,.int .i64 (.ofNat n),up,.int .i64 (.ofNat n),ul,.int .i64 (.ofNat n),us,.int .i64 (.ofNat n),uh]
def qt (m:Int) (g:XG):Bool:=bif N (.ofNat (eL m).length) 0 then false else bC (iG m g)
def AP (m:Int):Int:=bif N (.ofNat (eL m).length) 0 then 2 else 0
theorem TL (C:Plain G) (hg:gG K g va vb vc vd) (O:F V K L):
  EC G 185 [.agg [va,vb,vc,vd]] V fun v V'=>(N (cY g) 0=false/\v= .tuple [.agg HN,.int .i64 2]/\F V' K L)∨(cG g/\∃K1 u0 u1 u2 u3 ue up ul us uh,v= .tuple [.agg<|fz (H g) u0 u1 u2 u3 ue up ul us uh,J]/\KP.le K K1/\mR K1 g u0 u1 u2 u3 ue up ul us uh/\F V' K1 L):=by
 refine VV C Tryz.func185 Z<|Vp 2 Z<|kb O (cd Z Z) (fun V b1 O=>?_);refine kb O (WU (cs:=[J,.ax,J,.ax,J,.ax,J,.ax,J,.ax,J,.ax,J,.ax,J,.ax,J,.ax])) (fun V b2 O=>?_);refine UJ 5 Z<|I Z (W1 Z O.g1 Z) Z<|kw (WQ Z Z Z) (Nh C hg O) ?_;rintro _ V (⟨ao,rfl,O⟩ | ⟨hR,K1,b,iv,ev,fv,pv,rfl,hleA,hv,O⟩)
 ·refine TY 11 Z (I Z (df Z) Z (UJ 5 Z (I Z (WO (places:=[(0,8),(8,10)]) (zero:=[J,.ax,J,.ax,J,.ax,J,.ax,J,.ax,J,.ax,J,.ax,J,.ax,J,.ax]) (cs:=[_,_,_,_,_,_,_,_,_,_,_,_,_,_,_,_,_,_]) Z) Z ?_)));refine ks O (S1 Z Z Z O.g0 (m:=18) Z Z (cells':=[_,_,_,_,_,_,_,_,_,_,_,_,_,_,_,_,_,_]) Z) (fun V O=>?_);refine UL 5 Z ?_;exact cq Z Z O.g0 (m:=18) Y Z Z (.inl ⟨ao,Z,O.pop.pop⟩)
 have hvl:=kI hR;clear hg;refine TY 11 Z<|I Z (df Z) Z<|TZ 10 Z<|kw (WQ Z Z Z) (Bv C hv hvl (fn:=258) (fi:=[_]) (ca:=[]) Y (R:=jk g) (fun i q hi hq V L O=>Sp C hv hi hq O) O) ?_;rintro _ V ⟨Kr18,ap,W,rfl,O⟩;replace hv:=hv.mono W;replace hleA:=kR hleA W;obtain⟨Kkr18,T,X,O⟩:=F.bF (M:=[_]) O;replace hv:=hv.mono T;replace hleA:=kR hleA T;have g0:=dT (X _<|mS_ ..) (bM (H g)<|jk g) oM;refine V7 3 Z<|kw (WQ Z Z Z) (Bv C hv hvl (fn:=259) (fi:=[_]) (ca:=[]) Y (R:=qz g) (fun i q hi hq V L O=>Vm C hv hi hq O) O) ?_;rintro _ V ⟨Kr22,aq,S,rfl,O⟩;replace g0:=g0.mono S fun _ _ h=>h
 replace hv:=hv.mono S;replace hleA:=kR hleA S;obtain⟨Kkr22,E,aa,O⟩:=F.bF (M:=[_]) O;replace g0:=g0.mono E fun _ _ h=>h
 replace hv:=hv.mono E;replace hleA:=kR hleA E;have g1:=dT (aa _<|mS_ ..) (bM (H g)<|qz g) oM;refine V7 3 Z<|kw (WQ Z Z Z) (Bv C hv hvl (fn:=260) (fi:=[_]) (ca:=[]) Y (R:=nE g) (fun i q hi hq V L O=>TN C hv hR hi hq O) O) ?_;rintro _ V ⟨Kr26,ar,Q,rfl,O⟩;replace g0:=g0.mono Q fun _ _ h=>h
 replace g1:=g1.mono Q fun _ _ h=>h
 replace hv:=hv.mono Q;replace hleA:=kR hleA Q;obtain⟨Kkr26,A,ab,O⟩:=F.bF (M:=[_]) O;replace g0:=g0.mono A fun _ _ h=>h
 replace g1:=g1.mono A fun _ _ h=>h
 replace hv:=hv.mono A;replace hleA:=kR hleA A;have g2:=dT (ab _<|mS_ ..) (bM (H g)<|nE g) oM;refine V7 3 Z<|kw (WQ Z Z Z) (Bv C hv hvl (fn:=261) (fi:=[_]) (ca:=[]) Y (R:=pW g) (fun i q hi hq V L O=>Vl C hv hR hi hq O) O) ?_;rintro _ V ⟨Kr30,a0,B,rfl,O⟩;replace g0:=g0.mono B fun _ _ h=>h
 replace g1:=g1.mono B fun _ _ h=>h
 replace g2:=g2.mono B fun _ _ h=>h
 replace hv:=hv.mono B;replace hleA:=kR hleA B;obtain⟨Kkr30,w,ac,O⟩:=F.bF (M:=[_]) O;replace g0:=g0.mono w fun _ _ h=>h
 replace g1:=g1.mono w fun _ _ h=>h
 replace g2:=g2.mono w fun _ _ h=>h
 replace hv:=hv.mono w;replace hleA:=kR hleA w;have g3:=dT (ac _<|mS_ ..) (bM (H g)<|pW g) oM;refine I Z (WO (places:=[(0,2),(2,2),(4,2),(6,2)]) (zero:=[J,.ax,J,.ax,J,.ax,J,.ax]) (cs:=[_,_,_,_,_,_,_,_]) Z) Z (I Z (WO (places:=[(0,8),(8,10)]) (zero:=[J,.ax,J,.ax,J,.ax,J,.ax,J,.ax,J,.ax,J,.ax,J,.ax,J,.ax]) (cs:=[_,_,_,_,_,_,_,_,_,_,_,_,_,_,_,_,_,_]) Z) Z<|kb O (WU (cs:=[J,.ax,J,.ax,J,.ax,J,.ax,J,.ax,J,.ax,J,.ax,J,.ax,J,.ax])) (fun V b3 O=>?_));refine bu O Z (S1 Z Z Z O.g0 (m:=18) Z (ah Z<|ah g0.leaf.2<|ah Z<|ah g1.leaf.2<|ah Z<|ah g2.leaf.2<|ah Z<|ah g3.leaf.2 Z) (cells':=[_,_,_,_,_,_,_,_,_,_,_,_,_,_,_,_,_,_]) Z) Z (fun V O=>?_);refine UQ O 6 [0,2] Z Z<|I Z (W0 Z O.g0 Z) Z<|Wa O 2 [0,4] Z Z<|I Z (W0 Z O.g0 Z) Z<|Wa O 2 [0,6] Z Z<|I Z (W0 Z O.g0 Z) Z<|fg O Z (bR (e:=173) (m:=2) (z:=[J,.ax]) (cs:=[_,_,_,_,_,_]) Y Y Y Y<|a6 Z Z Z Z<|a6 Z Z Z Z<|a6 Z Z Z Z bH) (fun _=>Z) (fun V b4 O=>?_);obtain⟨Kae,leae,memae,O⟩:=F.bF (M:=[_]) O;replace g0:=g0.mono leae fun _ _ h=>h
 replace g1:=g1.mono leae fun _ _ h=>h
 replace g2:=g2.mono leae fun _ _ h=>h
 replace g3:=g3.mono leae fun _ _ h=>h
 replace hv:=hv.mono leae;replace hleA:=kR hleA leae;have hle:=BH (n:=H g) (memae _<|mS_ ..) g1 g2 g3;refine kw (WQ Z Z Z) (PM C (n:=H g) oM hle (succ_pos _) O) ?_;rintro _ V ⟨oe,rfl,O⟩;obtain⟨Kkoe,lekoe,memkoe,O⟩:=F.bF (M:=[_]) O;replace g0:=g0.mono lekoe fun _ _ h=>h
 replace g1:=g1.mono lekoe fun _ _ h=>h
 replace g2:=g2.mono lekoe fun _ _ h=>h
 replace g3:=g3.mono lekoe fun _ _ h=>h
 replace hv:=hv.mono lekoe;replace hleA:=kR hleA lekoe;have hoe:=dT (memkoe _<|mS_ ..) (bM (H g)<|iY [qz g,nE g,pW g]) oM;refine kw (WQ Z Z Z) (CU C (n:=H g) oM hoe O) ?_;rintro _ V ⟨pe,rfl,O⟩;obtain⟨Kkpe,lekpe,memkpe,O⟩:=F.bF (M:=[_]) O;replace g0:=g0.mono lekpe fun _ _ h=>h
 replace g1:=g1.mono lekpe fun _ _ h=>h
 replace g2:=g2.mono lekpe fun _ _ h=>h
 replace g3:=g3.mono lekpe fun _ _ h=>h
 replace hoe:=hoe.mono lekpe fun _ _ h=>h
 replace hv:=hv.mono lekpe;replace hleA:=kR hleA lekpe;have hpe:=dT (memkpe _<|mS_ ..) (bM (H g)<|kW (H g)<|iY [qz g,nE g,pW g]) oM;refine Wa O 2 [8,0] Z Z<|ks O (S1 Z Z Z O.g0 (m:=2) Z (ah Z<|ah hpe.leaf.2 az) (cells':=[_,_,_,_,_,_,_,_,_,_,_,_,_,_,_,_,_,_]) Z) (fun V O=>?_);refine UQ O 6 [0,0] Z Z<|I Z (W0 Z O.g0 Z) Z<|Wa O 2 [0,2] Z Z<|I Z (W0 Z O.g0 Z) Z<|fg O Z (bR (e:=173) (m:=2) (z:=[J,.ax]) (cs:=[_,_,_,_]) Y Y Y Y<|a6 Z Z Z Z<|a6 Z Z Z Z bH) (fun _=>Z) (fun V b5 O=>?_);obtain⟨Kap,leap,memap,O⟩:=F.bF (M:=[_]) O;replace g0:=g0.mono leap fun _ _ h=>h
 replace g1:=g1.mono leap fun _ _ h=>h
 replace g2:=g2.mono leap fun _ _ h=>h
 replace g3:=g3.mono leap fun _ _ h=>h
 replace hoe:=hoe.mono leap fun _ _ h=>h
 replace hpe:=hpe.mono leap fun _ _ h=>h
 replace hv:=hv.mono leap;replace hleA:=kR hleA leap;have hlp:=qd (n:=H g) (memap _<|mS_ ..) g0 g1;refine kw (WQ Z Z Z) (PM C (n:=H g) oM hlp (succ_pos _) O) ?_;rintro _ V ⟨op,rfl,O⟩;obtain⟨Kkop,lekop,memkop,O⟩:=F.bF (M:=[_]) O;replace g0:=g0.mono lekop fun _ _ h=>h
 replace g1:=g1.mono lekop fun _ _ h=>h
 replace g2:=g2.mono lekop fun _ _ h=>h
 replace g3:=g3.mono lekop fun _ _ h=>h
 replace hoe:=hoe.mono lekop fun _ _ h=>h
 replace hpe:=hpe.mono lekop fun _ _ h=>h
 replace hv:=hv.mono lekop;replace hleA:=kR hleA lekop;have hop:=dT (memkop _<|mS_ ..) (bM (H g)<|iY [jk g,qz g]) oM;refine kw (WQ Z Z Z) (CU C (n:=H g) oM hop O) ?_;rintro _ V ⟨pp,rfl,O⟩;obtain⟨Kkpp,lekpp,memkpp,O⟩:=F.bF (M:=[_]) O;replace g0:=g0.mono lekpp fun _ _ h=>h
 replace g1:=g1.mono lekpp fun _ _ h=>h
 replace g2:=g2.mono lekpp fun _ _ h=>h
 replace g3:=g3.mono lekpp fun _ _ h=>h
 replace hoe:=hoe.mono lekpp fun _ _ h=>h
 replace hpe:=hpe.mono lekpp fun _ _ h=>h
 replace hop:=hop.mono lekpp fun _ _ h=>h
 replace hv:=hv.mono lekpp;replace hleA:=kR hleA lekpp;have hpp:=dT (memkpp _<|mS_ ..) (bM (H g)<|kW (H g)<|iY [jk g,qz g]) oM;refine Wa O 2 [8,2] Z Z<|ks O (S1 Z Z Z O.g0 (m:=2) Z (ah Z<|ah hpp.leaf.2 az) (cells':=[_,_,_,_,_,_,_,_,_,_,_,_,_,_,_,_,_,_]) Z) (fun V O=>?_);refine UJ 7 Z<|kw (WQ Z Z Z) (Bv C hv hvl (fn:=263) (fi:=[_]) (ca:=[]) Y (R:=tT g) (fun i q hi hq V L O=>TO C hv hi hq O) O) ?_;rintro _ V ⟨Kr61,a1,u,rfl,O⟩;replace g0:=g0.mono u fun _ _ h=>h
 replace g1:=g1.mono u fun _ _ h=>h
 replace g2:=g2.mono u fun _ _ h=>h
 replace g3:=g3.mono u fun _ _ h=>h
 replace hoe:=hoe.mono u fun _ _ h=>h
 replace hpe:=hpe.mono u fun _ _ h=>h
 replace hop:=hop.mono u fun _ _ h=>h
 replace hpp:=hpp.mono u fun _ _ h=>h
 replace hv:=hv.mono u;replace hleA:=kR hleA u;obtain⟨Kkr61,d,am,O⟩:=F.bF (M:=[_]) O;replace g0:=g0.mono d fun _ _ h=>h
 replace g1:=g1.mono d fun _ _ h=>h
 replace g2:=g2.mono d fun _ _ h=>h
 replace g3:=g3.mono d fun _ _ h=>h
 replace hoe:=hoe.mono d fun _ _ h=>h
 replace hpe:=hpe.mono d fun _ _ h=>h
 replace hop:=hop.mono d fun _ _ h=>h
 replace hpp:=hpp.mono d fun _ _ h=>h
 replace hv:=hv.mono d;replace hleA:=kR hleA d;have gl:=dT (am _<|mS_ ..) (bM (H g)<|tT g) oM;refine Wa O 2 [8,4] Z Z<|ks O (S1 Z Z Z O.g0 (m:=2) Z (ah Z<|ah gl.leaf.2 az) (cells':=[_,_,_,_,_,_,_,_,_,_,_,_,_,_,_,_,_,_]) Z) (fun V O=>?_);refine UJ 5 Z<|kw (WQ Z Z Z) (Vn C hv hR hvl O) ?_;rintro _ V ⟨Ks,os,les,rfl,O⟩;replace g0:=g0.mono les fun _ _ h=>h
 replace g1:=g1.mono les fun _ _ h=>h
 replace g2:=g2.mono les fun _ _ h=>h
 replace g3:=g3.mono les fun _ _ h=>h
 replace hoe:=hoe.mono les fun _ _ h=>h
 replace hpe:=hpe.mono les fun _ _ h=>h
 replace hop:=hop.mono les fun _ _ h=>h
 replace hpp:=hpp.mono les fun _ _ h=>h
 replace gl:=gl.mono les fun _ _ h=>h
 replace hv:=hv.mono les;replace hleA:=kR hleA les;obtain⟨Kks,leks,memks,O⟩:=F.bF (M:=[_]) O;replace g0:=g0.mono leks fun _ _ h=>h
 replace g1:=g1.mono leks fun _ _ h=>h
 replace g2:=g2.mono leks fun _ _ h=>h
 replace g3:=g3.mono leks fun _ _ h=>h
 replace hoe:=hoe.mono leks fun _ _ h=>h
 replace hpe:=hpe.mono leks fun _ _ h=>h
 replace hop:=hop.mono leks fun _ _ h=>h
 replace hpp:=hpp.mono leks fun _ _ h=>h
 replace gl:=gl.mono leks fun _ _ h=>h
 replace hv:=hv.mono leks;replace hleA:=kR hleA leks;have gs:=dT (memks _<|mS_ ..) (bM (H g)<|sU g) oM;refine Wa O 2 [8,6] Z Z<|ks O (S1 Z Z Z O.g0 (m:=2) Z (ah Z<|ah gs.leaf.2 az) (cells':=[_,_,_,_,_,_,_,_,_,_,_,_,_,_,_,_,_,_]) Z) (fun V O=>?_);refine UQ O 6 [0,0] Z Z<|I Z (W0 Z O.g0 Z) Z<|Wa O 2 [8,6] Z Z<|I Z (W0 Z O.g0 Z) Z<|fg O Z (bR (e:=173) (m:=2) (z:=[J,.ax]) (cs:=[_,_,_,_]) Y Y Y Y<|a6 Z Z Z Z<|a6 Z Z Z Z bH) (fun _=>Z) (fun V b6 O=>?_);obtain⟨Kah,leah,memah,O⟩:=F.bF (M:=[_]) O;replace g0:=g0.mono leah fun _ _ h=>h
 replace g1:=g1.mono leah fun _ _ h=>h
 replace g2:=g2.mono leah fun _ _ h=>h
 replace g3:=g3.mono leah fun _ _ h=>h
 replace hoe:=hoe.mono leah fun _ _ h=>h
 replace hpe:=hpe.mono leah fun _ _ h=>h
 replace hop:=hop.mono leah fun _ _ h=>h
 replace hpp:=hpp.mono leah fun _ _ h=>h
 replace gl:=gl.mono leah fun _ _ h=>h
 replace gs:=gs.mono leah fun _ _ h=>h
 replace hv:=hv.mono leah;replace hleA:=kR hleA leah;have hlh:=qd (n:=H g) (memah _<|mS_ ..) g0 gs;refine kw (WQ Z Z Z) (PM C (n:=H g) oM hlh (succ_pos _) O) ?_;rintro _ V ⟨oh,rfl,O⟩;obtain⟨Kkoh,lekoh,memkoh,O⟩:=F.bF (M:=[_]) O;replace g0:=g0.mono lekoh fun _ _ h=>h
 replace g1:=g1.mono lekoh fun _ _ h=>h
 replace g2:=g2.mono lekoh fun _ _ h=>h
 replace g3:=g3.mono lekoh fun _ _ h=>h
 replace hoe:=hoe.mono lekoh fun _ _ h=>h
 replace hpe:=hpe.mono lekoh fun _ _ h=>h
 replace hop:=hop.mono lekoh fun _ _ h=>h
 replace hpp:=hpp.mono lekoh fun _ _ h=>h
 replace gl:=gl.mono lekoh fun _ _ h=>h
 replace gs:=gs.mono lekoh fun _ _ h=>h
 replace hv:=hv.mono lekoh;replace hleA:=kR hleA lekoh;have hoh:=dT (memkoh _<|mS_ ..) (bM (H g)<|iY [jk g,sU g]) oM;refine kw (WQ Z Z Z) (CU C (n:=H g) oM hoh O) ?_;rintro _ V ⟨ph,rfl,O⟩;obtain⟨Kkph,lekph,memkph,O⟩:=F.bF (M:=[_]) O;replace g0:=g0.mono lekph fun _ _ h=>h
 replace g1:=g1.mono lekph fun _ _ h=>h
 replace g2:=g2.mono lekph fun _ _ h=>h
 replace g3:=g3.mono lekph fun _ _ h=>h
 replace hoe:=hoe.mono lekph fun _ _ h=>h
 replace hpe:=hpe.mono lekph fun _ _ h=>h
 replace hop:=hop.mono lekph fun _ _ h=>h
 replace hpp:=hpp.mono lekph fun _ _ h=>h
 replace gl:=gl.mono lekph fun _ _ h=>h
 replace gs:=gs.mono lekph fun _ _ h=>h
 replace hoh:=hoh.mono lekph fun _ _ h=>h
 replace hv:=hv.mono lekph;replace hleA:=kR hleA lekph;have hph:=dT (memkph _<|mS_ ..) (bM (H g)<|kW (H g)<|iY [jk g,sU g]) oM;refine Wa O 2 [8,8] Z Z<|ks O (S1 Z Z Z O.g0 (m:=2) Z (ah Z<|ah hph.leaf.2 az) (cells':=[_,_,_,_,_,_,_,_,_,_,_,_,_,_,_,_,_,_]) Z) (fun V O=>?_);refine UJ 4 Z<|I Z (QT Z O.g0 (n:=18) (vs:=[_,_,_,_,_,_,_,_,_,_,_,_,_,_,_,_,_,_]) Z) Z ?_;refine eZ O Z (S1 Z Z Z O.g1 (m:=18) Z (ah Z<|ah g0.leaf.2<|ah Z<|ah g1.leaf.2<|ah Z<|ah g2.leaf.2<|ah Z<|ah g3.leaf.2<|ah Z<|ah hpe.leaf.2<|ah Z<|ah hpp.leaf.2<|ah Z<|ah gl.leaf.2<|ah Z<|ah gs.leaf.2<|ah Z<|ah hph.leaf.2 az) (cells':=[_,_,_,_,_,_,_,_,_,_,_,_,_,_,_,_,_,_]) Z) Z (fun V O=>?_);refine Vt 4 Z ?_;exact cq Z Z O.g1 (m:=18) Y Z Z (.inr ⟨hR,_,_,_,_,_,_,_,_,_,_,Z,hleA,⟨g0,g1,g2,g3,hpe,hpp,gl,gs,hph⟩,O.pop.pop.pop⟩)
theorem PU (M:Plain G) (hg:gG K g va vb vc vd) (O:F V K L):
  EC G 119 [.agg [va,vb,vc,vd]] V fun v V'=>(N (cY g) 0=false/\v= .tuple [.agg (va::vb::vc::vd::HN),.bool false]/\F V' K L)∨(cG g/\∃w z A B C ue up ul us uh,v= .tuple [.agg (va::vb::vc::vd::fz (H g) z A B C ue up ul us uh),.bool true]/\KP.le K w/\mR w g z A B C ue up ul us uh/\F V' w L):=by
 refine VV M Tryz.func119 Z<|Vp 2 Z<|kb O (cd Z Z) (fun V b1 O=>?_);refine kb O (WU (cs:=[.ax,.ax,.ax,.ax,J,.ax,J,.ax,J,.ax,J,.ax,J,.ax,J,.ax,J,.ax,J,.ax,J,.ax])) (fun V b2 O=>?_);refine UJ 5 Z<|I Z (W1 Z O.g1 Z) Z<|kw (WQ Z Z Z) (TL M hg O) ?_;rintro _ V (⟨E,rfl,O⟩ | ⟨Q,w,z,A,B,C,ue,up,ul,us,uh,rfl,u,d,O⟩)
 ·refine V7 3 Z<|kb O (WU (cs:=[J,.ax,J,.ax,J,.ax,J,.ax,J,.ax,J,.ax,J,.ax,J,.ax,J,.ax])) (fun V R O=>?_);refine ks O (S1 Z Z Z O.g0 (m:=18) Z Z (cells':=[_,_,_,_,_,_,_,_,_,_,_,_,_,_,_,_,_,_]) Z) (fun V O=>?_);refine UJ 5 Z (I Z (W1 Z (O.get 2 Z) Z) Z (I Z (QT Z O.g0 (n:=18) (vs:=[_,_,_,_,_,_,_,_,_,_,_,_,_,_,_,_,_,_]) Z) Z (I Z (WO (places:=[(0,4),(4,18)]) (zero:=[.ax,.ax,.ax,.ax,J,.ax,J,.ax,J,.ax,J,.ax,J,.ax,J,.ax,J,.ax,J,.ax,J,.ax]) (cs:=[_,_,_,_,_,_,_,_,_,_,_,_,_,_,_,_,_,_,_,_,_,_]) Z) Z<|V7 2 Z ?_)));refine eZ O Z (S1 Z Z Z O.g1 (m:=22) Z (ah hg.init.leaf.2<|ah hg.threads.leaf.2<|ah hg.from_.leaf.2<|ah hg.order.leaf.2 Z) (cells':=[_,_,_,_,_,_,_,_,_,_,_,_,_,_,_,_,_,_,_,_,_,_]) Z) Z (fun V O=>?_);refine Vt 4 Z ?_;exact cq Z Z O.g1 (m:=22) Y Z Z (.inl ⟨E,Z,O.pop.pop.pop⟩)
 replace hg:=hg.mono u;refine V7 3 Z<|kb O (WU (cs:=[J,.ax,J,.ax,J,.ax,J,.ax,J,.ax,J,.ax,J,.ax,J,.ax,J,.ax])) (fun V R O=>?_);refine bu O Z (S1 Z Z Z O.g0 (m:=18) Z (ah Z<|ah d.po.leaf.2<|ah Z<|ah d.rf.leaf.2<|ah Z<|ah d.co.leaf.2<|ah Z<|ah d.fr.leaf.2<|ah Z<|ah d.Q5.leaf.2<|ah Z<|ah d.Hi.leaf.2<|ah Z<|ah d.loc.leaf.2<|ah Z<|ah d.sw.leaf.2<|ah Z<|ah d.hb.leaf.2 az) (cells':=[_,_,_,_,_,_,_,_,_,_,_,_,_,_,_,_,_,_]) Z) Z (fun V O=>?_);refine UJ 5 Z (I Z (W1 Z (O.get 2 Z) Z) Z (I Z (QT Z O.g0 (n:=18) (vs:=[_,_,_,_,_,_,_,_,_,_,_,_,_,_,_,_,_,_]) Z) Z (I Z (WO (places:=[(0,4),(4,18)]) (zero:=[.ax,.ax,.ax,.ax,J,.ax,J,.ax,J,.ax,J,.ax,J,.ax,J,.ax,J,.ax,J,.ax,J,.ax]) (cs:=[_,_,_,_,_,_,_,_,_,_,_,_,_,_,_,_,_,_,_,_,_,_]) Z) Z<|V7 2 Z ?_)));refine eZ O Z (S1 Z Z Z O.g1 (m:=22) Z (ah hg.init.leaf.2<|ah hg.threads.leaf.2<|ah hg.from_.leaf.2<|ah hg.order.leaf.2<|ah Z<|ah d.po.leaf.2<|ah Z<|ah d.rf.leaf.2<|ah Z<|ah d.co.leaf.2<|ah Z<|ah d.fr.leaf.2<|ah Z<|ah d.Q5.leaf.2<|ah Z<|ah d.Hi.leaf.2<|ah Z<|ah d.loc.leaf.2<|ah Z<|ah d.sw.leaf.2<|ah Z<|ah d.hb.leaf.2 az) (cells':=[_,_,_,_,_,_,_,_,_,_,_,_,_,_,_,_,_,_,_,_,_,_]) Z) Z (fun V O=>?_);refine Vt 4 Z ?_;exact cq Z Z O.g1 (m:=22) Y Z Z (.inr ⟨Q,w,z,A,B,C,ue,up,ul,us,uh,Z,u,d,O.pop.pop.pop⟩)
def Th (s:List Nat) (vs:List U):Prop:=vs= [.str s]
theorem sC {g:XG} (hchk:cY g=0) {e:cz} (h:bD e (.ofNat g.init.length)=true) (hw:bl e=true):∃(ln:Nat) (r:List cD),e.loc= .ofNat ln/\g.order[ln]? =some r/\(cW g e.loc).length=r.length+1:=by
 unfold bD at h
 have h4:N e.kind 4=false:=by
  grind [bl,eqv]
 rw[h4] at h
 have key:(bif bC (cM e.loc 0) then cM e.loc (.ofNat g.init.length) else false)=true:=by
  simp_all
 cases h0:cM e.loc 0 with
 | true=>rw[h0] at key;cases key
 | false=>
  rw[h0] at key;obtain⟨ln,hl⟩:=ij h0;rw[hl] at key;have d:ln<g.init.length:=bd key;obtain⟨r,hr⟩:=ns hchk d;exact⟨ln,r,hl,hr,by rw[hl,gq (by rw[hchk];rfl) hr];rfl⟩
section
variable {g:XG} {tm:Nat} {row:List cz} {frow:List cD} (hchk:cY g=0) (hx:g.threads[tm]? =some row) (hf:g.from_[tm]? =some frow) (hlen:cM (.ofNat row.length) 14=true) {e:cz} {fr:cD} {pl:Int}
include hchk hx hf hlen
end
section
variable {k:Nat} {l:List XC} {r:XM} {t:Nat} {c:XC} {row:List cz} (hinv:Rw k l r) (hc:l[t]? =some c) (dP:r.g.threads[t]? =some row)
include hinv hc dP
end
variable {ln:Nat} {B C u0 ue uh ul us:U}
def NI (Q:Ex->PT U->aF->Prop) (e:Ex) (t:PT U) (V:aF):Prop:=match e with | .goto _=>False | e=>Q e t V
section
variable {P:q6} {G:Cx} {n:Nat} {t:PT U} {V:aF} {Q:Ex->PT U->aF->Prop}
theorem zW (h:Q .ret t V):NI Q .ret t V:=h
theorem LN {b:Code} (h:Ev P G b n t V (NI Q)):Ev P G (.scope b) n t V Q:=by
 obtain⟨K,e,t',V',h1,d⟩:=h
 have step:∀k,K<=k->fb P G (k+1) (.scope b) t n [] none V=wu (.ok e t' [] V'):=fun k hk=>by
  show wu (fb P G k b t n [] none V)=_;rw[h1 k hk]
 have h3:Q e t' V'/\wu (.ok e t' [] V')= .ok e t' [] V':=by
  cases e with
  | goto i=>exact d.elim
  | _=>exact⟨d,Z⟩
 exact⟨K+1,e,t',V',fun k hk=>by obtain⟨j,rfl⟩:∃j,k=j+1:=⟨k-1,by omega⟩;rw[step j oM,h3.2],h3.1⟩
end
theorem Rm {n:Nat} {R:Rn}:kW n (kW n R)=kW n R:=by
 funext i j;rw[zd_,kP,kP];constructor
 ·intro h;induction h with
  | one _ _ h=>exact kP.1 h
  | step _ _ h1 d=>exact .step h1 d
 intro h;exact .one h.lt.1 h.lt.2<|kP.2 h
theorem Qn (d:cG g) {t k:Nat} {row:List cz} {e:cz} (z:g.threads[t]? =some row) (h3:row[k]? =some e) (hw:bl e=true):∃(ln:Nat) (r:List cD),e.loc= .ofNat ln/\g.order[ln]? =some r:=by
 obtain⟨frow,hf⟩:=da (show t<g.from_.length by rw[d.from_];exact(gA.1 z).1);obtain⟨hl,u⟩:=d.rows t row frow z hf;obtain⟨q,hq⟩:=da (show k<frow.length by rw[hl];exact(gA.1 h3).1);have hoke:=u k e q h3 hq;unfold uW at hoke
 have w:bD e (.ofNat g.init.length)=true:=by
  revert hoke;cases bD e (.ofNat g.init.length)<;>intro hoke
  ·exact Bool.noConfusion (show false=true from hoke)
  rfl
 obtain⟨ln,r,h5,A,_⟩:=sC (cP.2 d) w hw;exact⟨ln,r,h5,A⟩
theorem Iq (M:Plain G) {l:List cD} {v:U} (C:bS K 2 jm l v) (id:cD) (O:F V K L):
  Ca G K L 84 [v,.agg [.int .i64 id.br,.int .i64 id.index]] V <| .int .i64 (ey (fun x:cD=>cL x.ints id.ints) l 0):=by
 refine VV M Tryz.func84 Z<|Vp 2 Z<|kb O (cd Z Z) (fun V b1 O=>?_);refine TY 7 Z<|I Z (WT C Z Z Z (e:=68) Z) Z<|UH 4 Z ?_;obtain⟨LL1,O,hLL1⟩:=O.named;refine bk ([4,5]++rg 8 11) (fun j t V=>∃(i:Nat),j+i=l.length/\ey (fun x:cD=>cL x.ints id.ints) l 0=ey (fun x:cD=>cL x.ints id.ints) (l.drop i) i/\t.get 8=some (nI i)/\F V K LL1) (l.length) ⟨0,Z,Z,Z,O⟩ ?_;clear O;intro R t V ar S;obtain⟨i,am,he,E,O⟩:=S;subst hLL1;obtain⟨oo,rfl⟩:=ar.q1 E Z;refine Vo 6 Z<|aG Z (fun B=>?_) (fun B=>?_)
 ·refine S9 11 Z<|aP (l:=zp [0,1,2,3,4,5]) Y Y<|aj Z Z (W0 Z O.g0 Z) Z<|V8 2 Z ?_;obtain⟨u,w,aa⟩:=dH B;refine WK (e:=68) (m:=2) C w Z Z Z Z Z (fun ao ab z ac A=>?_);obtain rfl:=A;refine aj Z Z (WW O z Z Z) Z<|aj Z Z (Ad (n:=2) (ca:=id.ints) (cb:=u.ints) Y Z Z Z Z) Z<|Vu 2 Z<|aG Z (fun d=>?_) (fun d=>?_)
  ·replace d:cL u.ints id.ints=true:=dF.2 (dF.1 d).symm;refine V5 7 Z<|aK<|aA<|bL<|aK<|aA (?_);exact aB Z Z ⟨cJ (by rw[he,cN w];show _=(bif cL u.ints id.ints then ofNat i else _);rw[d];rfl),O.pop⟩
  replace d:cL u.ints id.ints=false:=nA.2 fun h=>by rw[dF.2 h.symm] at d;cases d
  refine aH<|aD<|V0 4 Z ?_;have hlp:=bd B;refine aJ ⟨R-1,by omega,oF,i+1,by omega,by rw[he,cN w];show(bif cL u.ints id.ints then ofNat i else _)=_;rw[d];rfl,cI<|aX (by have:=C.cE;omega),O⟩
 refine UG 3 Z<|aR<|V5 6 Z ?_;exact aB Z Z ⟨cJ (by rw[he,ff<|bJ B];rfl),O.pop⟩
theorem Iu (A:Plain G) (B:gG K g va vb vc vd) {r:List cD} (hr:g.order[ln]? =some r) (ac:r.length<=1000) (id:cD) (O:F V K L):
  Ca G K L 352 [.agg [va,vb,vc,vd],nI ln,.agg [.int .i64 id.br,.int .i64 id.index]] V <| .int .i64 (oI g (.ofNat ln) id):=by
 refine VV A Tryz.func352 Z<|Vp 2 Z<|kb O (cd Z Z) (fun V b1 O=>?_);refine kb O (cd Z Z) (fun V b2 O=>?_);refine Ua O 9 [0,0] Z Z<|Vr 2 Z<|aG Z (fun z=>?_) (fun z=>?_)
 ·refine Vq 7 Z ?_;exact aB Z Z ⟨cJ (by unfold oI;rw[show N id.br 0=true from z];rfl),O.pop.pop⟩
 refine UE 3 Z<|aP (l:=zp [0,1,2,3,4,5,6,7,8]) Y Y<|Wb O 3 [3,1] Z Z<|WK (e:=84) (m:=1) B.order hr Z Z Z Z Z (fun am aa d ab u=>?_);have hr13':=u;obtain⟨ao,rfl,w⟩:=hr13';refine aj Z Z (WV O d Z Z) Z<|aj Z Z (W0 Z O.g0 Z) Z<|di Z Z (WQ Z Z Z) (fun _=>Z) (Iq A w _ O) (fun V O=>?_);refine⟨aU,?_⟩;refine Vv 5 Z ?_;exact aB Z Z ⟨cJ (by unfold oI jI;rw[show N id.br 0=false from z,show(ofNat ln).toNat=ln from Z,hr];rfl),O.pop.pop⟩
theorem Ng (hG:Plain G) {u1 u2 u3 up:U} (hg:gG K g va vb vc vd) (hd:mR K g u0 u1 u2 u3 ue up ul us uh) (B:cG g) (O:F V K L):
  EC G 297 [.agg (va::vb::vc::vd::fz (H g) u0 u1 u2 u3 ue up ul us uh)] V fun u V'=>(∃x y,u= .agg [.int .i64 x,.int .i64 y,.bool<|bC<|cM (wy g) 0])/\F V' K L:=by
 refine VV hG Tryz.func297 Z<|Vp 2 Z<|kb O (cd Z Z) (fun V b1 O=>?_);refine kb O (WU (cs:=[J,J,.bool false])) (fun V b2 O=>?_);refine UQ O 7 [0,0,1] Z Z<|I Z (WT hg.init Z Z Z (e:=2) Z) Z<|Ua O 9 [0,1,1] Z Z<|I Z (WT hg.threads Z Z Z (e:=90) Z) Z<|UH 4 Z ?_;obtain⟨LL1,O,hLL1⟩:=O.named;refine bk (rg 3 6++rg 17 47) (fun j t V=>∃(tt:Nat) (cc:Int),j+tt=g.threads.length/\uv g tt 0/\t.get 3=some (.int .i64 cc)/\t.get 17=some (nI tt)/\F V K LL1) (g.threads.length) ⟨0,_,Z,LV,Z,Z,O⟩ ?_;clear O;intro j3 t V ar hI;obtain⟨tt,cc,b0,z,T,am,O⟩:=hI;subst hLL1;obtain⟨oo,rfl⟩:=ar.q2 T am Z;refine Vo 6 Z<|aG Z (fun C=>?_) (fun C=>?_)
 ·refine Ta 7 Z ?_;obtain⟨W,d,bi⟩:=dH C;refine WJ (e:=90) (m:=1) hg.threads d Z Z Z Z (fun b4 bj ao bm ap=>?_);have hr20':=ap;obtain⟨b5,rfl,S⟩:=hr20';refine I Z (WV O ao Z Z) Z<|UJ 7 Z<|I Z (WT S Z Z Z (e:=45) Z) Z<|UH 4 Z ?_;obtain⟨LL2,O,hLL2⟩:=O.named;refine bk ([3,6,7,8]++rg 24 39) (fun j t V=>∃(kk:Nat) (cc:Int),j+kk=W.length/\uv g tt kk/\t.get 3=some (.int .i64 cc)/\t.get 24=some (nI kk)/\F V K LL2) (W.length) ⟨0,cc,Z,z,Z,Z,O⟩ ?_;clear O;intro j6 t V ar hI;obtain⟨kk,cc,b6,z,T,aq,O⟩:=hI;subst hLL2;obtain⟨oo,rfl⟩:=ar.q2 T aq Z;refine Vo 6 Z<|aG Z (fun E=>?_) (fun E=>?_)
  ·refine Ta 7 Z ?_;obtain⟨A,w,bq⟩:=dH E;refine WJ (e:=45) (m:=5) S w Z Z Z Z (fun b7 br a0 bs a1=>?_);obtain rfl:=a1;refine I Z (WW O a0 Z Z) Z<|kb O (WU (cs:=[J,J,J,J,J])) (fun V b3 O=>?_);refine vQ 1 Z<|ks O (WZ Z Z Z O.g0 Z) (fun V O=>?_);refine Ua O 8 [0,0] Z Z<|Vr 2 Z<|aG Z (fun M=>?_) (fun M=>?_)
   ·refine Vp 2 Z ?_;obtain⟨ln,r,R,X⟩:=Qn B d w (by unfold bl;rw[show N A.kind 3=true from M];cases N A.kind 2<;>rfl);have hrl:=iq (cP.2 B) r (gB_ X);refine I Z (WR 0 Z) Z (I Z (W1 Z (O.get 2 Z) Z) Z (Wa O 3 [1,0] Z Z (I Z (ay (v:=nI (tt+1)) Z Z<|cI<|aX (by have:=B.threads;have:=bd C;omega)) Z (vQ 1 Z (I Z (WO (places:=[(0,1),(1,1)]) (zero:=[J,J]) (cs:=[_,_]) Z) Z<|kx (WQ Z Z Z) (by rw[R];exact Iu hG hg X oM ⟨.ofNat (tt+1),.ofNat kk⟩ O) (fun V O=>?_))))));refine UI 4 Z<|aP (l:=zp [0,1,2,3,4,5,6,7,8,9,10,11,12,13,14,15,16]) Y Y ?_;obtain⟨frow,aa⟩:=da (show tt<g.from_.length by rw[B.from_];exact(gA.1 d).1);obtain⟨q,hq⟩:=da (show kk<frow.length by rw[(B.rows tt _ _ d aa).1];exact(gA.1 w).1);have a2:KO g ⟨.ofNat (tt+1),.ofNat kk⟩=q:=by unfold KO;show((((g.from_[tt]?).getD [])[kk]?).getD ⟨0,0⟩:cD)=q;rw[aa];show((frow[kk]?).getD ⟨0,0⟩:cD)=q;rw[hq];rfl
    refine Wb O 2 [0] Z Z<|aj Z Z (W1 Z (O.get 2 Z) Z) Z<|Wb O 6 [1,0,0,2,2] Z Z<|WK (e:=84) (m:=1) hg.from_ aa Z Z Z Z Z (fun b8 bt a3 bv a4=>?_);have hr50':=a4;obtain⟨b9,rfl,a5⟩:=hr50';refine aj Z Z (WV O a3 Z Z) Z<|wQ 1 Z<|WK (e:=68) (m:=2) a5 hq Z Z Z Z Z (fun ca bw a9 bI bb=>?_);obtain rfl:=bb;refine aj Z Z (WW O a9 Z Z) Z<|di Z Z (WQ Z Z Z) (fun _=>Z) (by rw[R];exact Iu hG hg X oM q O) (fun V O=>?_);refine⟨aU,?_⟩;refine Vu 4 Z<|aG Z (fun ab=>?_) (fun ab=>?_)
    ·refine Vp 3 Z (I Z (WO (places:=[(0,1),(1,1),(2,1)]) (zero:=[J,J,.bool false]) (cs:=[_,_,_]) Z) Z<|eZ O Z (WY Z Z Z O.g1 Z) Z (fun V O=>?_));refine Vt 3 Z<|aA<|aK<|aA<|bL<|aK<|aK<|aA<|bL<|aK<|aA (?_);exact cA Z Z O.g1 (m:=3) Y Z ⟨⟨_,_,by rw[LU B z d w (by unfold Ci;rw[show N A.kind 3=true from M,R,a2];exact ab)];rfl⟩,O.pop.pop.pop⟩
    refine aH<|V0 5 Z<|aD<|V0 4 Z ?_;have O:=O.pop;have hkl:=bd E;have ac:Ci g tt kk A=false:=by unfold Ci;rw[show N A.kind 3=true from M,R,a2];exact ab
    refine aJ ⟨j6-1,by omega,oF,kk+1,_,by omega,LW B z d w ac,Z,cI<|aX (by have:=B.short tt _ d;omega),O⟩
   refine aH<|V0 5 Z<|aD<|V0 4 Z ?_;have O:=O.pop;have hkl:=bd E;have ac:Ci g tt kk A=false:=by unfold Ci;rw[show N A.kind 3=false from M];rfl
   refine aJ ⟨j6-1,by omega,oF,kk+1,_,by omega,LW B z d w ac,Z,cI<|aX (by have:=B.short tt _ d;omega),O⟩
  refine UG 3 Z<|aR<|aD<|V0 4 Z ?_;have htl:=bd C;have be:kk=W.length:=by have:=bJ E;omega
  subst be;refine aJ ⟨j3-1,by omega,oF,tt+1,cc,by omega,RW z d,Z,cI<|aX (by have:=B.threads;omega),O⟩
 refine UG 3 Z (aR (Vp 2 Z (I Z (WO (places:=[(0,1),(1,1),(2,1)]) (zero:=[J,J,.bool false]) (cs:=[_,_,_]) Z) Z<|ks O (WY Z Z Z O.g0 Z) (fun V O=>?_))));refine Vt 3 Z ?_;exact cA Z Z O.g0 (m:=3) Y Z ⟨⟨_,_,by rw[LS z<|bJ C];rfl⟩,O.pop.pop⟩
theorem zB (S:Plain G) {n:Nat} (hn:n<64) {R:Rn} (M:bS K 1 RU (bp n R) va) (O:F V K L):
  EC G 299 [.agg [nI n,va]] V fun u V'=>(∃x y,u= .agg [.int .i64 x,.int .i64 y,.bool<|bC<|cM (zX n R) 0])/\F V' K L:=by
 have hlen:=bM n R;refine VV S Tryz.func299 Z<|Vp 2 Z<|kb O (cd Z Z) (fun V b1 O=>?_);refine kb O (WU (cs:=[J,J,.bool false])) (fun V b2 O=>?_);refine Ua O 7 [1,1] Z Z<|I Z (WT M Z Z Z (e:=233) Z) Z<|UH 4 Z ?_;obtain⟨LL1,O,hLL1⟩:=O.named;refine bk ([3,4]++rg 8 13) (fun j t V=>∃(i:Nat),j+i=(bp n R).length/\(∀q,q<i->R q q=false)/\t.get 8=some (nI i)/\F V K LL1) ((bp n R).length) ⟨0,Z,fun q hq=>absurd hq (nZ_ _),Z,O⟩ ?_;clear O;intro T t V ar W;obtain⟨i,ac,w,C,O⟩:=W;subst hLL1;obtain⟨oo,rfl⟩:=ar.q1 C Z;refine Vo 6 Z<|aG Z (fun E=>?_) (fun E=>?_)
 ·refine Ta 6 Z ?_;have d:i<n:=by have:=bd E;omega
  refine vQ 1 Z<|WJ (e:=233) (m:=1) M (dn d) Z Z Z Z (fun am aa A ab B=>?_);obtain rfl:=B;refine I Z (WV O A Z Z) Z (UJ 8 Z (I Z (ay (v:=.int .u64 (.ofNat (bA n (R i)/2 ^ i))) Z Z<|xp oM) Z (I Z (ay (v:=.int .u64 (.ofNat (bA n (R i)/2 ^ i &&& 1))) Z Z<|tq (Nat.lt_of_le_of_lt (Nat.div_le_self _ _)<|cZ oM _) (by decide)) Z (I Z (ay (v:=.bool ((bA n<|R i).testBit i)) Z Z (FN)) Z<|Vr 2 Z<|aG Z (fun z=>?_) (fun z=>?_)))))
  ·refine Vp 3 Z (I Z (WO (places:=[(0,1),(1,1),(2,1)]) (zero:=[J,J,.bool false]) (cs:=[_,_,_]) Z) Z<|ks O (WY Z Z Z O.g0 Z) (fun V O=>?_));refine Vt 3 Z<|aK<|aA<|bL<|aK<|aA (?_);exact cA Z Z O.g0 (m:=3) Y Z ⟨⟨_,_,by rw[NJ d ((ig (p:=R i) d).symm.trans z) w];rfl⟩,O.pop.pop⟩
  refine aH (aD (V0 4 Z (aJ ⟨T-1,by omega,oF,i+1,by omega,fun q hq=>by by_cases e:q=i;(subst e;exact(ig (p:=R q) d).symm.trans z);exact w q oM,cI<|aX oM,O⟩)))
 refine UG 3 Z (aR (Vp 2 Z (I Z (WO (places:=[(0,1),(1,1),(2,1)]) (zero:=[J,J,.bool false]) (cs:=[_,_,_]) Z) Z<|ks O (WY Z Z Z O.g0 Z) (fun V O=>?_))));refine Vt 3 Z ?_;exact cA Z Z O.g0 (m:=3) Y Z ⟨⟨_,_,by rw[Qs fun q hq=>w q (by have:=bJ E;omega)];rfl⟩,O.pop.pop⟩
theorem E3 (hG:Plain G) {u1 u2 u3 up:U} (hg:gG K g va vb vc vd) (hd:mR K g u0 u1 u2 u3 ue up ul us uh) (hR:cG g) (O:F V K L):
  EC G 301 [.agg (va::vb::vc::vd::fz (H g) u0 u1 u2 u3 ue up ul us uh)] V fun u V'=>(∃x y,u= .agg [.int .i64 x,.int .i64 y,.bool<|yl g])/\F V' K L:=by
 have hvl:=kI hR;have hl1:=bM (H g) (kW (H g)<|iY [jk g,sU g]);have hl2:=bM (H g) (kW (H g)<|iY [qz g,nE g,pW g]);refine VV hG Tryz.func301 Z<|Vp 2 Z<|kb O (cd Z Z) (fun V b1 O=>?_);refine kb O (WU (cs:=[J,J,.bool false])) (fun V b2 O=>?_);refine Vr 2 Z (LN (ak (aP (l:=zp [0,1,2,3,4,5,6,7,8,9,10,11]) Y Y (Wb O 12 [4,8,8,1,1,4,8,0,1,1] Z Z (UN 4 Z (I Z (WO (places:=[(0,1),(1,1),(2,1)]) (zero:=[J,J,.bool false]) (cs:=[_,_,_]) Z) Z<|kb O (WU (cs:=[J,J,.bool false])) (fun V b3 O=>?_)))))));refine ks O (WY Z Z Z O.g0 Z) (fun V O=>?_);refine UI 3 Z<|Ej<|UD 4 Z<|I Z (WT hd.hb Z Z Z (e:=233) Z) Z<|UH 4 Z ?_;obtain⟨LL1,O,hLL1⟩:=O.named;refine bk ([6,7]++rg 21 36) (fun j t V=>∃(a:Nat),j+a=(bp (H g)<|kW (H g)<|iY [jk g,sU g]).length/\(∀p q,p<a->q<H g->p≠q->vH g p q=true->qR g q p=false)/\t.get 21=some (nI a)/\F V K LL1) ((bp (H g)<|kW (H g)<|iY [jk g,sU g]).length) ⟨0,Z,fun p q hp=>absurd hp (nZ_ _),Z,O⟩ ?_;clear O;intro j4 t V ar hI;obtain⟨a,a1,S,T,O⟩:=hI;subst hLL1;obtain⟨oo,rfl⟩:=ar.q1 T Z;refine Vo 6 Z<|aG Z (fun C=>?_) (fun C=>?_)
 ·refine Ta 6 Z ?_;have z:a<H g:=by have:=bd C;omega
  refine UJ 7 Z<|I Z (WT hd.Q5 Z Z Z (e:=233) Z) Z<|UH 4 Z ?_;obtain⟨LL2,O,hLL2⟩:=O.named;refine bk ([7]++rg 26 30) (fun j t V=>∃(c:Nat),j+c=(bp (H g)<|kW (H g)<|iY [qz g,nE g,pW g]).length/\(∀q,q<c->a≠q->vH g a q=true->qR g q a=false)/\t.get 26=some (nI c)/\F V K LL2) ((bp (H g)<|kW (H g)<|iY [qz g,nE g,pW g]).length) ⟨0,Z,fun q hq=>absurd hq (nZ_ _),Z,O⟩ ?_;clear O;intro j7 t V ar hI;obtain⟨c,a2,A,W,O⟩:=hI;subst hLL2;obtain⟨oo,rfl⟩:=ar.q1 W Z;refine Vo 6 Z<|aG Z (fun E=>?_) (fun E=>?_)
  ·refine Ta 6 Z ?_;have w:c<H g:=by have:=bd E;omega
   refine UJ 9 Z<|ky Z (al Z) (fun B=>?_) (fun B=>?_)
   ·refine V7 2 Z<|WJ (e:=233) (m:=1) hd.hb (dn z) Z Z Z Z (fun a3 ao X ap aa=>?_);obtain rfl:=aa;refine I Z (WV O X Z Z) Z (vQ 1 Z (I Z (ay (v:=.int .u64 (.ofNat (bA (H g) ((kW (H g)<|iY [jk g,sU g]) a)/2 ^ c))) Z Z<|xp oM) Z (I Z (ay (v:=.int .u64 (.ofNat (bA (H g) ((kW (H g)<|iY [jk g,sU g]) a)/2 ^ c &&& 1))) Z Z<|tq (Nat.lt_of_le_of_lt (Nat.div_le_self _ _)<|cZ oM _) (by decide)) Z (I Z (ay (v:=.bool ((bA (H g) ((kW (H g)<|iY [jk g,sU g]) a)).testBit c)) Z Z (FN)) Z<|vQ 1 Z<|ky Z (al Z) (fun M=>?_) (fun M=>?_)))))
    ·refine V7 2 Z<|WJ (e:=233) (m:=1) hd.Q5 (dn w) Z Z Z Z (fun a4 aq ab a0 ac=>?_);obtain rfl:=ac;refine I Z (WV O ab Z Z) Z (vQ 1 Z (I Z (ay (v:=.int .u64 (.ofNat (bA (H g) ((kW (H g)<|iY [qz g,nE g,pW g]) c)/2 ^ a))) Z Z<|xp oM) Z (I Z (ay (v:=.int .u64 (.ofNat (bA (H g) ((kW (H g)<|iY [qz g,nE g,pW g]) c)/2 ^ a &&& 1))) Z Z<|tq (Nat.lt_of_le_of_lt (Nat.div_le_self _ _)<|cZ oM _) (by decide)) Z (I Z (ay (v:=.bool ((bA (H g) ((kW (H g)<|iY [qz g,nE g,pW g]) c)).testBit a)) Z Z (FN)) Z<|Vr 3 Z<|aG Z (fun R=>?_) (fun R=>?_)))))
     ·refine Vp 4 Z (I Z (WO (places:=[(0,1),(1,1),(2,1)]) (zero:=[J,J,.bool false]) (cs:=[_,_,_]) Z) Z<|ks O (WY Z Z Z O.g0 Z) (fun V O=>?_));refine Vr 2 Z<|bn<|iT Z<|aV<|aY<|iT Z<|iT Z<|aV<|aY<|aR<|Vp 2 Z<|I Z (QT Z O.g0 (n:=3) (vs:=[_,_,_]) Z) Z<|eZ O Z (WY Z Z Z O.g1 Z) Z (fun V O=>?_);refine Vt 3 Z<|zW (?_);exact cA Z Z O.g1 (m:=3) Y Z ⟨⟨_,_,by rw[O6 z w (fun e=>by rw[e,dt] at B;cases B) ((ig (p:=(kW (H g)<|iY [jk g,sU g]) a) w).symm.trans M) ((ig (p:=(kW (H g)<|iY [qz g,nE g,pW g]) c) z).symm.trans R)]⟩,O.pop.pop.pop⟩
     refine aH<|aD<|V0 4 Z ?_;have hcl:=w;refine aJ ⟨j7-1,by omega,oF,c+1,by omega,fun q hq d hh=>by by_cases e:q=c;(subst e;exact(ig (p:=(kW (H g)<|iY [qz g,nE g,pW g]) q) z).symm.trans R);exact A q oM d hh,cI<|aX oM,O⟩
    refine UK 14 Z<|V0 4 Z ?_;have hcl:=w;refine aJ ⟨j7-1,by omega,oF,c+1,by omega,fun q hq d hh=>by by_cases e:q=c;(subst e;rw[show vH g a q=false from(ig (p:=(kW (H g)<|iY [jk g,sU g]) a) w).symm.trans M] at hh;cases hh);exact A q oM d hh,cI<|aX oM,O⟩
   refine UK 24 Z<|V0 4 Z ?_;have hcl:=w;refine aJ ⟨j7-1,by omega,oF,c+1,by omega,fun q hq d hh=>by by_cases e:q=c;(subst e;exact absurd (qT.1<|bT B) d);exact A q oM d hh,cI<|aX oM,O⟩
  refine UG 3 Z<|aR<|aD<|V0 4 Z ?_;have am:c=H g:=by have:=bJ E;omega
  subst am;refine aJ ⟨j4-1,by omega,oF,a+1,by omega,fun p q hp hq d hh=>by by_cases e:p=a;(subst e;exact A q hq d hh);exact S p q oM hq d hh,cI<|aX oM,O⟩
 refine UG 3 Z<|aR<|Vp 2 Z<|I Z (QT Z O.g0 (n:=3) (vs:=[_,_,_]) Z) Z<|eZ O Z (WY Z Z Z O.g1 Z) Z (fun V O=>?_);refine Vt 3 Z<|zW (?_);exact cA Z Z O.g1 (m:=3) Y Z ⟨⟨_,_,by rw[O7 fun p q hp hq=>S p q (by have:=bJ C;omega) hq]⟩,O.pop.pop.pop⟩
theorem Hb (B:Plain G) {E R S up:U} (hg:gG K g va vb vc vd) (w:mR K g C E R S ue up ul us uh) (T:cG g) (O:F V K L):
  EC G 121 [.agg (va::vb::vc::vd::fz (H g) C E R S ue up ul us uh)] V fun u V'=>∃A c,KP.le K A/\u= .agg [nI<|H g,.slice c 0 (H g) (.known<|H g)]/\F V' A ((c,.row ((bp (H g)<|Cc g).map gU) 233 false)::L):=by
 have hvl:=kI T;refine VV B Tryz.func121 Z<|Vp 2 Z<|kb O (cd Z Z) (fun V b1 O=>?_);refine kb O (WU (cs:=[J,.ax])) (fun V b2 O=>?_);refine UQ O 7 [4,0,0] Z Z<|I Z (W0 Z O.g1 Z) Z<|Wa O 3 [4,0,2] Z Z<|I Z (W0 Z O.g1 Z) Z<|Wa O 3 [4,0,4] Z Z<|I Z (W0 Z O.g1 Z) Z<|Wa O 3 [4,0,6] Z Z<|I Z (W0 Z O.g1 Z) Z<|fg O Z (bR (e:=173) (m:=2) (z:=[J,.ax]) (cs:=[_,_,_,_,_,_,_,_]) Y Y Y Y<|a6 Z Z Z Z<|a6 Z Z Z Z<|a6 Z Z Z Z<|a6 Z Z Z Z bH) (fun _=>Z) (fun V b3 O=>?_);obtain⟨A,d,mema,O⟩:=F.bF (M:=[_]) O;have hla:=Fi (n:=H g) (mema _<|mS_ ..) (w.po.mono d fun _ _ h=>h) (w.rf.mono d fun _ _ h=>h) (w.co.mono d fun _ _ h=>h) (w.fr.mono d fun _ _ h=>h);refine kw (WQ Z Z Z) (PM B (n:=H g) oM hla (succ_pos _) O) ?_;rintro _ V ⟨W,rfl,O⟩;refine eZ O Z (WX Z Z Z O.g1 Z) Z (fun V O=>?_);refine Vt 3 Z ?_;exact cA Z Z O.g1 (m:=2) Y Z ⟨A,W,d,Z,O.sub (.cons_cons _ (.cons _ (.cons _ (.refl _))))⟩
theorem PY (B:Plain G) {d w z A up:U} (hg:gG K g va vb vc vd) (hd:mR K g d w z A ue up ul us uh) (C:cG g) (O:F V K L):
  EC G 296 [.agg (va::vb::vc::vd::fz (H g) d w z A ue up ul us uh)] V fun u V'=>(∃x y,u= .agg [.int .i64 x,.int .i64 y,.bool<|eh g 1])/\F V' K L:=by
 have hvl:=kI C;refine VV B Tryz.func296 Z<|Vp 2 Z<|kb O (cd Z Z) (fun V b1 O=>?_);refine kb O (WU (cs:=[J,J,.bool false])) (fun V b2 O=>?_);refine UJ 4 Z (I Z (WO (places:=[(0,1),(1,1),(2,1)]) (zero:=[J,J,.bool false]) (cs:=[_,_,_]) Z) Z<|ks O (WY Z Z Z O.g0 Z) (fun V O=>?_));refine Vt 3 Z ?_;exact cA Z Z O.g0 (m:=3) Y Z ⟨⟨_,_,by rfl⟩,O.pop.pop⟩
theorem PZ (d:Plain G) {w z A up:U} (hg:gG K g va vb vc vd) (C:mR K g w z A B ue up ul us uh) (E:cG g) (O:F V K L):
  EC G 298 [.agg (va::vb::vc::vd::fz (H g) w z A B ue up ul us uh)] V fun u V'=>(∃x y,u= .agg [.int .i64 x,.int .i64 y,.bool<|eh g 3])/\F V' K L:=by
 have hvl:=kI E;refine VV d Tryz.func298 Z<|Vp 2 Z<|kb O (cd Z Z) (fun V b1 O=>?_);refine kb O (WU (cs:=[J,J,.bool false])) (fun V b2 O=>?_);refine UQ O 7 [4,8,2] Z Z<|I Z (W0 Z O.g1 Z) Z<|kw (WQ Z Z Z) (zB d (n:=H g) oM C.Hi O) ?_;rintro _ V ⟨⟨x7,y7,rfl⟩,O⟩;refine ks O (WY Z Z Z O.g0 Z) (fun V O=>?_);refine Vt 3 Z ?_;exact cA Z Z O.g0 (m:=3) Y Z ⟨⟨_,_,by show _=U.agg [_,_,.bool<|bC<|cM (zX (H g)<|kW (H g)<|xg g) 0];rw[show kW (H g) (xg g)=xg g from Rm];rfl⟩,O.pop.pop⟩
theorem Qa (d:Plain G) {w z A up:U} (hg:gG K g va vb vc vd) (C:mR K g w z A B ue up ul us uh) (E:cG g) (O:F V K L):
  EC G 300 [.agg (va::vb::vc::vd::fz (H g) w z A B ue up ul us uh)] V fun u V'=>(∃x y,u= .agg [.int .i64 x,.int .i64 y,.bool<|eh g 4])/\F V' K L:=by
 have hvl:=kI E;refine VV d Tryz.func300 Z<|Vp 2 Z<|kb O (cd Z Z) (fun V b1 O=>?_);refine kb O (WU (cs:=[J,J,.bool false])) (fun V b2 O=>?_);refine UQ O 7 [4,8,8] Z Z<|I Z (W0 Z O.g1 Z) Z<|kw (WQ Z Z Z) (zB d (n:=H g) oM C.hb O) ?_;rintro _ V ⟨⟨x7,y7,rfl⟩,O⟩;refine ks O (WY Z Z Z O.g0 Z) (fun V O=>?_);refine Vt 3 Z ?_;exact cA Z Z O.g0 (m:=3) Y Z ⟨⟨_,_,by show _=U.agg [_,_,.bool<|bC<|cM (zX (H g)<|kW (H g)<|vH g) 0];rw[show kW (H g) (vH g)=vH g from Rm];rfl⟩,O.pop.pop⟩
theorem Qb (C:Plain G) {E R S T up:U} (X:gG K g va vb vc vd) (hd:mR K g E R S T ue up ul us uh) (W:cG g) (O:F V K L):
  EC G 302 [.agg (va::vb::vc::vd::fz (H g) E R S T ue up ul us uh)] V fun u V'=>(∃x y,u= .agg [.int .i64 x,.int .i64 y,.bool<|eh g 6])/\F V' K L:=by
 have hvl:=kI W;refine VV C Tryz.func302 Z<|Vp 2 Z<|kb O (cd Z Z) (fun V b1 O=>?_);refine kb O (WU (cs:=[J,J,.bool false])) (fun V b2 O=>?_);refine UJ 4 Z<|I Z (QT Z O.g1 (n:=22) (vs:=[_,_,_,_,_,_,_,_,_,_,_,_,_,_,_,_,_,_,_,_,_,_]) Z) Z<|kw (WQ Z Z Z) (Hb C X hd W O) ?_;rintro _ V ⟨K1,c1,d,rfl,O⟩;obtain⟨K2,w,z,O⟩:=F.bF (M:=[_]) O;have hto:=dT (z _<|mS_ ..) (bM (H g)<|Cc g) oM;refine kw (WQ Z Z Z) (CU C (n:=H g) oM hto O) ?_;rintro _ V ⟨c2,rfl,O⟩;obtain⟨K3,A,B,O⟩:=F.bF (M:=[_]) O;have htp:=dT (B _<|mS_ ..) (bM (H g)<|kW (H g)<|Cc g) oM;refine kw (WQ Z Z Z) (zB C (n:=H g) oM htp O) ?_;rintro _ V ⟨⟨x6,y6,rfl⟩,O⟩;refine ks O (WY Z Z Z O.g0 Z) (fun V O=>?_);refine Vt 3 Z ?_;exact cA Z Z O.g0 (m:=3) Y Z ⟨⟨_,_,by rfl⟩,(O.pop.pop).weaken<|kR d<|kR w A⟩
def ND:Nat->Nat
 | 1=>296
 | 2=>297
 | 3=>298
 | 4=>300
 | 5=>301
 | 6=>302
 | _=>0
def BL:List U:=[.nilFunc,.func 296 [] [],.func 297 [] [],.func 298 [] [],.func 300 [] [],.func 301 [] [],.func 302 [] []]
theorem Ki {r:Nat} (h1:1<=r) (d:r<=6):nth BL (0+r*1)=some (.func (ND r) [] []):=by
 match r,h1,d with
 | 1,_,_ | 2,_,_ | 3,_,_ | 4,_,_ | 5,_,_ | 6,_,_=>rfl
theorem Qo {r:Nat} (h1:1<=r) (d:r<=6):l6 Tryz.prog (ND r)=true:=by
 match r,h1,d with
 | 1,_,_=>exact(show l6 Tryz.prog 296=true by kernel_rfl)
 | 2,_,_=>exact(show l6 Tryz.prog 297=true by kernel_rfl)
 | 3,_,_=>exact(show l6 Tryz.prog 298=true by kernel_rfl)
 | 4,_,_=>exact(show l6 Tryz.prog 300=true by kernel_rfl)
 | 5,_,_=>exact(show l6 Tryz.prog 301=true by kernel_rfl)
 | 6,_,_=>exact(show l6 Tryz.prog 302=true by kernel_rfl)
theorem Sr (d:Plain G) {E M up:U} (w:gG K g va vb vc vd) (z:mR K g B C E M ue up ul us uh) (A:cG g) {r:Nat} (h1:1<=r) (R:r<=6) (O:F V K L):EC G (ND r) [.agg (va::vb::vc::vd::fz (H g) B C E M ue up ul us uh)] V fun u V'=>(∃x y,u= .agg [.int .i64 x,.int .i64 y,.bool<|eh g (.ofNat r)])/\F V' K L:=by
 match r,h1,R with
 | 1,_,_=>exact PY d w z A O
 | 2,_,_=>exact Ng d w z A O
 | 3,_,_=>exact PZ d w z A O
 | 4,_,_=>exact Qa d w z A O
 | 5,_,_=>exact E3 d w z A O
 | 6,_,_=>exact Qb d w z A O
variable {α:Type}
theorem Qc (d:Plain G) (O:F V K L):
  Ca G K L 230 [] V <| .agg BL:=by
 refine VV d Tryz.func230 Z<|Vp 2 Z<|kb O (WU (cs:=[.nilFunc,.nilFunc,.nilFunc,.nilFunc,.nilFunc,.nilFunc,.nilFunc])) (fun V b1 O=>?_);refine UJ 4 Z<|I Z (kS (e:=288) (n:=7) (m:=1) (zero:=[.nilFunc,.nilFunc,.nilFunc,.nilFunc,.nilFunc,.nilFunc,.nilFunc]) (cs:=[_,_,_,_,_,_,_]) Y Y Y Z) Z<|ks O (S1 Z Z Z O.g0 (m:=7) Z Z (cells':=[_,_,_,_,_,_,_]) Z) (fun V O=>?_);refine Vt 3 Z ?_;exact cA Z Z O.g0 (m:=7) Y Z ⟨Z,O.pop⟩
theorem PN (C:Plain G) {m:Int} (hm:m=1∨m=2) (O:F V K L):
  EC G 231 [.int .i64 m] V fun u V'=>∃A,KP.le K A/\bS A 1 g9 (eL m) u/\F V' A L:=by
 refine VV C Tryz.func231 Z<|Vo 11 Z<|aL<|Vp 2 Z<|ky Z (ay Z Z Z) (fun h5=>?_) (fun h5=>?_)
 ·refine UJ 6 Z<|fg O Z (bR (e:=3) (m:=1) (z:=[J]) (cs:=[_,_,_]) Y Y Y Y<|a6 Z Z Z Z<|a6 Z Z Z Z<|a6 Z Z Z Z bH) (fun _=>Z) (fun V E O=>?_);refine Vt 4 Z<|aK<|aA (?_);obtain⟨A,d,w,O⟩:=F.bF (M:=[_]) O;exact aB Z Z ⟨A,d,by rw[show eL m= [1,2,6] from by unfold eL;rw[show N m 1=true from h5];rfl];exact uO (l:=[1,2,6]) (w _<|mS_ ..) Z (by decide),O⟩
 refine UJ 6 Z<|ky Z (ay Z Z Z) (fun B=>?_) (fun B=>?_)
 ·refine UJ 6 Z<|fg O Z (bR (e:=3) (m:=1) (z:=[J]) (cs:=[_,_,_,_,_]) Y Y Y Y<|a6 Z Z Z Z<|a6 Z Z Z Z<|a6 Z Z Z Z<|a6 Z Z Z Z<|a6 Z Z Z Z bH) (fun _=>Z) (fun V E O=>?_);refine Vt 4 Z<|aK<|aA (?_);obtain⟨A,d,w,O⟩:=F.bF (M:=[_]) O;exact aB Z Z ⟨A,d,by rw[show eL m= [1,2,3,4,5] from by unfold eL;rw[show N m 1=false from h5,show N m 2=true from B];rfl];exact uO (l:=[1,2,3,4,5]) (w _<|mS_ ..) Z (by decide),O⟩
 refine UK 6 Z<|V5 6 Z ?_;rcases hm with e | e
 ·rw[e] at h5;cases h5
 rw[e] at B;cases B
theorem It (d:Plain G) (m:Int) (O:F V K L):
  Ca G K L 155 [.int .i64 m] V <| .bool (bif N m 1 then true else N m 2):=by
 refine VV d Tryz.func155 Z<|Vp 9 Z<|ky Z (al Z) (fun h5=>?_) (fun h5=>?_)
 ·refine Vt 7 Z ?_;exact aB Z Z ⟨cB (by rw[show N m 1=true from h5];rfl),O⟩
 refine Vt 7 Z ?_;exact aB Z Z ⟨cB (by rw[show N m 1=false from h5];rfl),O⟩
theorem NF {m x:Int} {i:Nat} (h:(eL m)[i]? =some x):∃r:Nat,x= .ofNat r/\1<=r/\r<=6:=by
 have hm:=gB_ h;unfold eL at hm;cases h1:N m 1 with
 | true=>
  rw[h1] at hm;have hm:x∈([1,2,6]:List Int):=hm;simp only[mQ_,List.not_mem_nil,or_false] at hm;rcases hm with rfl | rfl | rfl
  ·exact⟨1,Z,by omega,by omega⟩
  ·exact⟨2,Z,by omega,by omega⟩
  exact⟨6,Z,by omega,by omega⟩
 | false=>
  rw[h1] at hm;cases d:N m 2 with
  | false=>rw[d] at hm;cases hm
  | true=>
   rw[d] at hm;have hm:x∈([1,2,3,4,5]:List Int):=hm;simp only[mQ_,List.not_mem_nil,or_false] at hm;rcases hm with rfl | rfl | rfl | rfl | rfl
   ·exact⟨1,Z,by omega,by omega⟩
   ·exact⟨2,Z,by omega,by omega⟩
   ·exact⟨3,Z,by omega,by omega⟩
   ·exact⟨4,Z,by omega,by omega⟩
   exact⟨5,Z,by omega,by omega⟩
theorem Lc {p:α->Bool} {l:List α} {i:Nat} {x:α} (d:(l.take i).any p=false) (hx:l[i]? =some x) (hp:p x=false):(l.take (i+1)).any p=false:=by
 rw[zb_,hx,List.any_append,d];show(false || (p x || false))=false;rw[hp];rfl
theorem OL {p:α->Bool} {l:List α} {i:Nat} {x:α} (hx:l[i]? =some x) (hp:p x=true):l.any p=true:=List.any_eq_true.2 ⟨x,gB_ hx,hp⟩
theorem Lb {p:α->Bool} {l:List α} {i:Nat} (d:(l.take i).any p=false) (h:l.length<=i):l.any p=false:=by rw[tL_ h] at d;exact d
theorem Mn {m:Int} (h:(bif N m 1 then true else N m 2)=false):eL m= []:=by
 unfold eL;cases h1:N m 1 with
 | true=>rw[h1] at h;cases h
 | false=>
  rw[h1] at h;rw[show N m 2=false from h];rfl
theorem py {m:Int} (hm:m=1∨m=2):N (.ofNat (eL m).length) 0=false:=by rcases hm with rfl | rfl<;>rfl
theorem QP {m:Int} (hm:m=1∨m=2) (h:N (cY g) 0=false):iG m g=true:=by unfold iG;rw[py hm,h];rfl
theorem BY {m:Int} (hm:m=1∨m=2) (d:cG g):iG m g=(eL m).any (eh g):=by unfold iG;rw[py hm,cP.2 d];rfl
theorem TM (R:Plain G) (hg:gG K g va vb vc vd) {m:Int} (hm:m=1∨m=2) (O:F V K L):
  EC G 156 [.int .i64 m,.agg [va,vb,vc,vd]] V fun v V'=>(∃x y z,v= .tuple [.agg [.int .i64 x,.int .i64 y,.int .i64 z],.bool<|iG m g])/\F V' K L:=by
 refine VV R Tryz.func156 Z<|Vp 2 Z<|kb O (cd Z Z) (fun V b1 O=>?_);refine kb O (WU (cs:=[J,J,J])) (fun V b2 O=>?_);refine TY 7 Z<|kx (WQ Z Z Z) (It R m O) (fun V O=>?_);rw[show(bif N m 1 then true else N m 2)=true from by rcases hm with rfl | rfl<;>rfl];refine I Z (df Z) Z<|TZ 7 Z<|I Z (W1 Z O.g1 Z) Z<|kw (WQ Z Z Z) (PU R hg O) ?_;rintro _ V (⟨X,rfl,O⟩ | ⟨hR,K1,u0,u1,u2,u3,ue,up,ul,us,uh,rfl,w,hd,O⟩)
 ·refine V7 3 Z<|kb O (WU (cs:=[.ax,.ax,.ax,.ax,J,.ax,J,.ax,J,.ax,J,.ax,J,.ax,J,.ax,J,.ax,J,.ax,J,.ax])) (fun V b3 O=>?_);refine bu O Z (S1 Z Z Z O.g0 (m:=22) Z (ah hg.init.leaf.2<|ah hg.threads.leaf.2<|ah hg.from_.leaf.2<|ah hg.order.leaf.2 Z) (cells':=[_,_,_,_,_,_,_,_,_,_,_,_,_,_,_,_,_,_,_,_,_,_]) Z) Z (fun V O=>?_);refine TY 7 Z (I Z (df Z) Z (UJ 5 Z (I Z (WO (places:=[(0,1),(1,1),(2,1)]) (zero:=[J,J,J]) (cs:=[_,_,_]) Z) Z<|eZ O Z (WY Z Z Z O.g1 Z) Z (fun V O=>?_))));refine UL 5 Z ?_;exact cq Z Z O.g1 (m:=3) Y Z Z ⟨⟨_,_,_,by rw[QP hm X]⟩,O.pop.pop.pop⟩
 replace hg:=hg.mono w;refine V7 3 Z<|kb O (WU (cs:=[.ax,.ax,.ax,.ax,J,.ax,J,.ax,J,.ax,J,.ax,J,.ax,J,.ax,J,.ax,J,.ax,J,.ax])) (fun V b3 O=>?_);refine bu O Z (S1 Z Z Z O.g0 (m:=22) Z (ah hg.init.leaf.2<|ah hg.threads.leaf.2<|ah hg.from_.leaf.2<|ah hg.order.leaf.2<|ah Z<|ah hd.po.leaf.2<|ah Z<|ah hd.rf.leaf.2<|ah Z<|ah hd.co.leaf.2<|ah Z<|ah hd.fr.leaf.2<|ah Z<|ah hd.Q5.leaf.2<|ah Z<|ah hd.Hi.leaf.2<|ah Z<|ah hd.loc.leaf.2<|ah Z<|ah hd.sw.leaf.2<|ah Z<|ah hd.hb.leaf.2 az) (cells':=[_,_,_,_,_,_,_,_,_,_,_,_,_,_,_,_,_,_,_,_,_,_]) Z) Z (fun V O=>?_);refine TY 7 Z<|I Z (df Z) Z<|TZ 7 Z<|kx (WQ Z Z Z) (Qc R O) (fun V O=>?_);refine kb O (WU (cs:=[.nilFunc,.nilFunc,.nilFunc,.nilFunc,.nilFunc,.nilFunc,.nilFunc])) (fun V b4 O=>?_);refine ks O (S1 Z Z Z O.g0 (m:=7) Z Z (cells':=[_,_,_,_,_,_,_]) Z) (fun V O=>?_);refine TY 6 Z<|kw (WQ Z Z Z) (PN R hm O) ?_;rintro ac V ⟨K2,d,C,O⟩;replace hg:=hg.mono d;replace hd:=hd.mono d;refine I Z (WT C Z Z Z (e:=3) Z) Z<|UH 4 Z ?_;obtain⟨LL1,O,hLL1⟩:=O.named;refine bk ([5,10,11]++rg 28 18) (fun j t V=>∃(i:Nat),j+i=(eL m).length/\((eL m).take i).any (eh g)=false/\t.get 28=some (nI i)/\F V K2 LL1) ((eL m).length) ⟨0,Z,Z,Z,O⟩ ?_;clear O;intro j8 t V ar hI;obtain⟨i,am,B,S,O⟩:=hI;subst hLL1;obtain⟨oo,rfl⟩:=ar.q1 S Z;refine Vo 6 Z<|aG Z (fun A=>?_) (fun A=>?_)
 ·refine Ta 6 Z ?_;obtain⟨ao,u,_⟩:=dH A;obtain⟨r,rfl,E,M⟩:=NF u;refine WJ (e:=3) (m:=1) C u Z Z Z Z (fun ap aa T ab W=>?_);obtain rfl:=W;refine I Z (WV O T Z Z) Z (UI 4 Z (aP (l:=[(0,[]),(1,[]),(2,[]),(3,[]),(5,[]),(4,[5]),(6,[])]) Y Y<|wQ 1 Z<|aj Z Z (eX (e:=288) (m:=1) (n:=7) (j:=r) Y Y Z Z oM) Z<|aj Z Z (av Z O.g0 Y<|Ki E M) Z<|aj Z Z (QT Z O.g1 (n:=22) (vs:=[_,_,_,_,_,_,_,_,_,_,_,_,_,_,_,_,_,_,_,_,_,_]) Z) Z<|mq O Z Z (WU (cs:=[J,J,.bool false])) (fun _=>Z) (fun V b5 O=>?_)));refine ez Z Z (aO Z Z Z<|Qo E M) (fun _=>Z) (Sr R hg hd hR E M O) ?_;rintro _ V ⟨⟨aq,a0,rfl⟩,O⟩;refine⟨(bf (kh Z Z Z Z Z (cs:=[J,J,.bool false]) (e:=292) Y O.g0 Y) aU),?_⟩;refine gD O Z Z (WY Z Z Z O.g0 Z) Z (fun V O=>?_);refine⟨aU,?_⟩;refine UN 4 Z<|Vx O 4 [2,0] Z Z<|aG Z (fun Q=>?_) (fun Q=>?_)
  ·refine Vp 3 Z (Wa O 4 [0,0,1,0] Z Z (I Z (WO (places:=[(0,1),(1,1),(2,1)]) (zero:=[J,J,J]) (cs:=[_,_,_]) Z) Z<|tX O Z (WY Z Z Z (O.get 3 Z) Z) Z (fun V O=>?_)));refine Vt 4 Z<|aK<|aA<|bL<|aK<|aA (?_);exact cq Z Z (O.get 3 Z) (m:=3) Y Z Z ⟨⟨_,_,_,by rw[BY hm hR,OL u Q]⟩,(O.pop.pop.pop.pop.pop).weaken<|kR w d⟩
  refine aH<|aD<|V0 4 Z ?_;have O:=O.pop;have hil:=bd A;refine aJ ⟨j8-1,by omega,oF,i+1,by omega,Lc B u Q,cI<|aX (by have:=C.cE;omega),O⟩
 refine UG 3 Z (aR (Vp 2 Z (I Z (WO (places:=[(0,1),(1,1),(2,1)]) (zero:=[J,J,J]) (cs:=[_,_,_]) Z) Z<|hJ O Z (WY Z Z Z (O.get 2 Z) Z) Z (fun V O=>?_))));refine Vt 4 Z ?_;exact cq Z Z (O.get 2 Z) (m:=3) Y Z Z ⟨⟨_,_,_,by rw[BY hm hR,Lb B<|bJ A]⟩,(O.pop.pop.pop.pop).weaken<|kR w d⟩
theorem M6 (u:Plain G) (w:gG K g va vb vc vd) (m:Int) (O:F V K L):
  Ca G K L 95 [.int .i64 m,.agg [va,vb,vc,vd]] V <| .tuple [.bool<|qt m g,.int .i64<|AP m]:=by
 refine VV u Tryz.func95 Z<|Vp 2 Z<|kb O (cd Z Z) (fun V b1 O=>?_);refine TY 8 Z<|kx (WQ Z Z Z) (It u m O) (fun V O=>?_);refine I Z (df Z) Z<|Vr 2 Z<|aG Z (fun d=>?_) (fun d=>?_)
 ·refine Vq 8 Z ?_;exact dh Z Z Z ⟨by unfold qt AP;rw[Mn<|de d];rfl,O.pop⟩
 refine UF 5 Z<|I Z (W1 Z O.g0 Z) Z ?_;have hm:m=1∨m=2:=by have h:=bT d;cases h1:N m 1 with | true=>exact .inl (tM h1) | false=>rw[h1] at h;exact .inr<|tM h
 refine kw (WQ Z Z Z) (TM u w hm O) ?_;rintro _ V ⟨⟨x,y,z,rfl⟩,O⟩;refine V7 3 Z<|kb O (WU (cs:=[J,J,J])) (fun V b2 O=>?_);refine ks O (WY Z Z Z O.g0 Z) (fun V O=>?_);refine UJ 6 Z<|I Z (df Z) Z<|Vt 5 Z ?_;exact dh Z Z Z ⟨by unfold qt AP;rw[py hm];rfl,O.pop.pop⟩
structure jg where
 br:Int
 index:Int
 write:Bool
 deriving DecidableEq
def fS (t k:Nat) (kind:Int):List jg:=(bif N kind 2 then [] else [⟨.ofNat (t+1),.ofNat k,false⟩])++(bif N kind 2 then [⟨.ofNat (t+1),.ofNat k,true⟩] else bif N kind 3 then [⟨.ofNat (t+1),.ofNat k,true⟩] else [])
def dQ (t:Nat):List cz->Nat->List jg
 | [],_=>[]
 | e::l,k=>fS t k e.kind++dQ t l (k+1)
def gk:List (List cz)->Nat->List jg
 | [],_=>[]
 | r::l,t=>dQ t r 0++gk l (t+1)
def q9 (g:XG):List jg:=gk g.threads 0
def gM:List jg->Nat->jg->Option Nat->Option Nat
 | [],_,_,o=>o
 | x::l,i,m,o=>gM l (i+1) m (if x=m then some i else o)
def gY (ms:List jg):Int->List jg->Bool
 | _,[]=>true
 | b,m::l=>match gM ms 0 m none with
  | none=>false
  | some a=>cM b (.ofNat a) && gY ms (.ofNat a) l
def eO (ms:List jg):List (List cz)->Nat->Bool
 | [],_=>true
 | r::l,t=>gY ms (-1) (dQ t r 0) && eO ms l (t+1)
def rp (g:XG) (ms:List jg):Bool:=eO ms g.threads 0 && decide ((q9 g).length=ms.length)
theorem nm:∀{l:List jg} {x m:jg} {i:Nat} {o:Option Nat},gM (l++[x]) i m o=if x=m then some (i+l.length) else gM l i m o
 | [],_,_,_,_=>rfl
 | y::l,x,m,i,o=>by
  show gM (l++[x]) (i+1) m _=_;rw[nm,zc_,show i+1+l.length=i+(l.length+1) by omega];rfl
theorem EJ:∀{l:List jg} {m:jg} {i:Nat} {o:Option Nat},m∉l->gM l i m o=o
 | [],_,_,_,_=>rfl
 | y::l,m,i,o,h=>by
  show gM l (i+1) m _=_;rw[if_neg fun e=>h (by simp_all),EJ fun hm=>h (mC_ _ hm)]
theorem JN {l:List jg} {m:jg} {a:Nat} (h:gM l 0 m none=some a):m∈l:=by
 refine zo_ fun hm=>?_
 rw[EJ hm] at h;cases h
theorem BJ {ms:List jg}:∀{l:List jg} {b:Int},gY ms b l=true->∀m∈l,m∈ms
 | [],_,_,_,hm=>by cases hm
 | x::l,b,h,m,hm=>by
  unfold gY at h;cases hl:gM ms 0 x none with
  | none=>rw[hl] at h;cases h
  | some a=>
   rw[hl] at h;have h:(cM b (.ofNat a) && gY ms (.ofNat a) l)=true:=h;rw[bA_] at h;rcases mQ_.1 hm with rfl | hm
   ·exact JN hl
   exact BJ h.2 m hm
theorem vn {ms:List jg}:∀{ls:List (List cz)} {t:Nat},eO ms ls t=true->∀m∈gk ls t,m∈ms
 | [],_,_,_,hm=>by cases hm
 | r::ls,t,h,m,hm=>by
  unfold eO at h;rw[bA_] at h;rcases List.mem_append.1 (show m∈dQ t r 0++gk ls (t+1) from hm) with hm | hm
  ·exact BJ h.1 m hm
  exact vn h.2 m hm
theorem tU {t k:Nat} {kind:Int} {m:jg} (h:m∈fS t k kind):m.br= .ofNat (t+1)/\m.index= .ofNat k:=by
 unfold fS at h
 grind
theorem CN {t k:Nat} {kind:Int}:(fS t k kind).Nodup:=by
 grind [fS]
theorem iL:∀{l:List cz} {t k:Nat} {m:jg},m∈dQ t l k->m.br= .ofNat (t+1)/\∃j,k<=j/\m.index= .ofNat j
 | [],_,_,_,h=>by cases h
 | e::l,t,k,m,h=>by
  rcases List.mem_append.1 (show m∈fS t k e.kind++dQ t l (k+1) from h) with h | h
  ·exact⟨(tU h).1,k,nR_ _,(tU h).2⟩
  obtain⟨h1,j,h2,h3⟩:=iL h;exact⟨h1,j,by omega,h3⟩
theorem mH:∀{l:List cz} {t k:Nat},(dQ t l k).Nodup
 | [],_,_=>List.nodup_nil
 | e::l,t,k=>by
  show(fS t k e.kind++dQ t l (k+1)).Nodup;rw[List.nodup_append];refine⟨CN,mH,fun a u b hb d=>?_⟩;subst d;obtain⟨_,j,h2,h3⟩:=iL hb;rw[(tU u).2] at h3;have:=iJ_ h3;omega
theorem zn:∀{ls:List (List cz)} {t:Nat} {m:jg},m∈gk ls t->∃s,t<=s/\m.br= .ofNat (s+1)
 | [],_,_,h=>by cases h
 | r::ls,t,m,h=>by
  rcases List.mem_append.1 (show m∈dQ t r 0++gk ls (t+1) from h) with h | h
  ·exact⟨t,nR_ _,(iL h).1⟩
  obtain⟨s,h1,d⟩:=zn h;exact⟨s,by omega,d⟩
theorem uU:∀{ls:List (List cz)} {t:Nat},(gk ls t).Nodup
 | [],_=>List.nodup_nil
 | r::ls,t=>by
  show(dQ t r 0++gk ls (t+1)).Nodup;rw[List.nodup_append];refine⟨mH,uU,fun a w b hb d=>?_⟩;subst d;obtain⟨s,h1,u⟩:=zn hb;rw[(iL w).1] at u;have:=iJ_ u;omega
variable {ls:List (List cz)} {ms:List jg} {P:q6} {et kt:y_}
def Af (m:jg) (vs:List U):Prop:=vs= [.int .i64 m.br,.int .i64 m.index,.bool m.write]
theorem Af.leaf (m:jg) (vs:List U) (h:Af m vs):cF vs=true:=by
 subst h;rfl
theorem HL {ev:q_->Option U} {ty:y_} {r:q_} {k:w0} {n:Int} (hu:P.underlying ty=some (.map kt et)) (hr:ev r=some (.int k n)):dX P G ev V (.makeMap ty<|some r)= .val (.map V.next) (V.alloc (.map [] 0)):=by
 refine sK (op:=.makeMap ty<|some r) (mk:=.map) (ob:=.map [] 0) Z ?_;simp only[gb,hu,hr]
def Tz (x:jg):U:=.agg [.int .i64 x.br,.int .i64 x.index,.bool x.write]
theorem Q8:wC Tryz.prog 239 161 3 Tz gN 0 where
 ty:=by kernel_rfl
 plain:=by kernel_rfl
 shape k:=by
  obtain⟨a,b,c⟩:=k;show jv Tryz.prog 161 (.agg [.int .i64 a,.int .i64 b,.bool c])=true
  kernel_rfl
 eq x y:=by
  obtain⟨a,b,c⟩:=x;obtain⟨a',b',c'⟩:=y
  have h:lf Tryz.prog 161 (.agg [.int .i64 a,.int .i64 b,.bool c]) (.agg [.int .i64 a',.int .i64 b',.bool c'])=match(bif N a a' then(bif N b b' then some true else some false) else some false:Option Bool) with
   | some true=>(bif (bif c then c' else(bif c' then false else true)) then some true else some false:Option Bool)
   | some false=>some false
   | none=>none:=by kernel_rfl
  refine Eq.trans h ?_;rw[show decide ((⟨a,b,c⟩:jg)=⟨a',b',c'⟩)=(decide (a=a') && (decide (b=b') && decide (c=c'))) from by simp_all]
  grind [eB]
 same k:=by
  obtain⟨a,b,c⟩:=k;show(match m9 (.int .i64 a) (.int .i64 a) with | some true=>(match m9 (.int .i64 b) (.int .i64 b) with | some true=>mU [.bool c] [.bool c] | _=>false) | _=>false)=true;rw[show m9 (.int .i64 a) (.int .i64 a)=some true from congrArg some (dt a),show m9 (.int .i64 b) (.int .i64 b)=some true from congrArg some (dt b)];cases c<;>rfl
 zero:=by kernel_rfl
def uw (ms:List jg) (n:Nat) (m:List (jg×Int)):Prop:=∀x,(tP m x 0).map (·.2)=(gM (ms.take n) 0 x none).map ofNat
theorem uw.VW:uw ms 0 []:=fun x=>Z
theorem uw.put {n:Nat} {m:List (jg×Int)} (h:uw ms n m) {y:jg} (d:ms[n]? =some y):uw ms (n+1) (sR m y (.ofNat n)):=fun x=>by
 have hl:=(gA.1 d).1;rw[H7,zb_,d,show ms.take n++(some y).toList=ms.take n++[y] from Z,nm,lT_,nA_,Nat.min_eq_left<|Nat.le_of_lt hl,h x]
 grind
theorem uw.end_ {n:Nat} {m:List (jg×Int)} (h:uw ms n m) (hn:ms.length<=n) (x:jg):(tP m x 0).map (·.2)=(gM ms 0 x none).map ofNat:=by
 have:=h x;rwa[tL_ hn] at this
theorem Qr {m:List (jg×Int)} (h:∀x,(tP m x 0).map (·.2)=(gM ms 0 x none).map ofNat) (x:jg):(tP m x 0).isSome=(gM ms 0 x none).isSome/\∀a,gM ms 0 x none=some a->((tP m x 0).map (·.2)).getD 0= .ofNat a:=by
 have:=h x;constructor
 ·have h2:=congrArg Option.isSome this;simpa using h2
 simp_all
theorem Kh {x:jg} {l:List jg} {b:Int} {a:Nat} (ha:gM ms 0 x none=some a) (hb:cM b (.ofNat a)=true):gY ms b (x::l)=gY ms (.ofNat a) l:=by
 grind [gY]
theorem IJ {x:jg} {l:List jg} {b:Int} (h:gM ms 0 x none=none∨∃a,gM ms 0 x none=some a/\cM b (.ofNat a)=false):gY ms b (x::l)=false:=by
 grind [gY]
theorem Fq {t:Nat} {r:List cz} {s:Nat} (h:ls[t]? =some r):eO ms (ls.drop t) s=(gY ms (-1) (dQ s r 0) && eO ms (ls.drop (t+1)) (s+1)):=by
 rw[cN h];rfl
theorem JT {t k:Nat} {row:List cz} {e:cz} (h:row[k]? =some e):dQ t (row.drop k) k=fS t k e.kind++dQ t (row.drop (k+1)) (k+1):=by
 rw[cN h];rfl
def sQ (g:XG) (t k:Nat):Nat:=(gk (g.threads.take t) 0).length+(match g.threads[t]? with | some r=>(dQ t (r.take k) 0).length | none=>0)
theorem zm:∀{a b:List (List cz)} {t:Nat},gk (a++b) t=gk a t++gk b (t+a.length)
 | [],b,t=>rfl
 | r::a,b,t=>by
  show dQ t r 0++gk (a++b) (t+1)=(dQ t r 0++gk a (t+1))++gk b (t+(a.length+1));rw[zm,lQ_,show t+1+a.length=t+(a.length+1) by omega]
theorem Jm {g:XG}:sQ g 0 0=0:=by
 unfold sQ;rw[List.take_zero];cases g.threads[0]?<;>rfl
theorem RJ {g:XG} {t k:Nat} {row:List cz} {e:cz} (h:g.threads[t]? =some row) (he:row[k]? =some e):sQ g t (k+1)=sQ g t k+(fS t k e.kind).length:=by
 have hk:=(gA.1 he).1
 have:(dQ t (row.take (k+1)) 0).length=(dQ t (row.take k) 0).length+(fS t k e.kind).length:=by
  rw[zb_,he,show row.take k++(some e).toList=row.take k++[e] from Z]
  have d:∀{a b:List cz} {k:Nat},dQ t (a++b) k=dQ t a k++dQ t b (k+a.length):=by
   intro a;induction a with
   | nil=>intro b k;rfl
   | cons x a ih=>
    grind [dQ]
  rw[d,lA_,lT_,nA_,Nat.min_eq_left<|Nat.le_of_lt hk];show _+(fS t k e.kind++[]).length=_;rw[zk_]
 grind [sQ]
theorem RK {g:XG} {t:Nat} {row:List cz} (h:g.threads[t]? =some row):sQ g t row.length=sQ g (t+1) 0:=by
 have ht:=(gA.1 h).1;unfold sQ;rw[h,zb_,h,zm,lA_,lT_,nA_,Nat.min_eq_left<|Nat.le_of_lt ht];show _+(dQ t (row.take row.length) 0).length=_+(dQ t row 0++[]).length+_;rw[List.take_length,zk_];cases g.threads[t+1]?<;>rfl
theorem DZ {g:XG}:sQ g g.threads.length 0=(q9 g).length:=by
 unfold sQ q9
 simp_all
theorem Bn {t k:Nat} {kind:Int}:(fS t k kind).length<=2:=by
 grind [fS]
theorem HY {g:XG} (hT:g.threads.length<=4) (hr:∀(i:Nat) (r:List cz),g.threads[i]? =some r->r.length<=14) {t k:Nat} (ht:t<=g.threads.length) (hk:k<=14):sQ g t k<=140:=by
 have h1:∀{l:List cz} {t k:Nat},(dQ t l k).length<=2*l.length:=by
  intro l;induction l with
  | nil=>intro t k;exact nR_ _
  | cons e l ih=>
   grind [dQ,Bn]
 have d:∀{ls:List (List cz)} {t:Nat},(∀r∈ls,r.length<=14)->(gk ls t).length<=28*ls.length:=by
  intro ls;induction ls with
  | nil=>intro t _;exact nR_ _
  | cons r ls ih=>
   grind [gk]
 unfold sQ
 have h3:=d (ls:=g.threads.take t) (t:=0) fun r h=>by
  grind [gO_]
 grind
structure Q1 (g g':XG) (θ:Nat->Nat):Prop where
 lt:∀i,i<H g->θ i<H g'
 inj:∀i j,i<H g->j<H g->θ i=θ j->i=j
 ev:∀i,i<H g->dB g' (θ i)=dB g i
 po:∀i j,i<H g->j<H g->jk g' (θ i) (θ j)=jk g i j
 from_:∀i,i<H g->cC (dB g i)=true->∃f,f<H g/\eH g i= .ofNat f/\eH g' (θ i)= .ofNat (θ f)
 place:∀i,i<H g->dR g' (θ i)=dR g i
section
variable {g g':XG} {θ:Nat->Nat} (h:Q1 g g' θ)
include h
theorem Q1.eq (i j:Nat) (hi:i<H g) (hj:j<H g):N (.ofNat (θ i)) (.ofNat (θ j))=N (.ofNat i) (.ofNat j):=by
 rw[eB,eB,zd_,decide_eq_true_iff,decide_eq_true_iff];constructor
 ·intro e;rw[h.inj i j hi hj<|iJ_ e]
 grind
theorem Q1.Q7 (i:Nat) (hi:i<H g) (hr:cC (dB g i)=true):(eH g i).toNat<H g/\(eH g' (θ i)).toNat=θ (eH g i).toNat:=by
 obtain⟨f,h1,h2,h3⟩:=h.from_ i hi hr
 simp_all
theorem Q1.co (i j:Nat) (hi:i<H g) (hj:j<H g):nE g' (θ i) (θ j)=nE g i j:=by
 unfold nE;rw[h.ev i hi,h.ev j hj,h.place i hi,h.place j hj]
theorem Q1.fr (i j:Nat) (hi:i<H g) (hj:j<H g):pW g' (θ i) (θ j)=pW g i j:=by
 unfold pW;rw[h.eq i j hi hj,h.ev i hi];cases hr:cC (dB g i) with
 | false=>rfl
 | true=>
  obtain⟨h1,d⟩:=h.Q7 i hi hr;rw[d,h.co _ _ h1 hj]
end
section
variable {p q:Nat->Nat} {g:XG}
end
section
variable {k:Nat} {l:List XC} {t f:Nat} {s:XM×List Int} {r r':XM} {p:Int}
end
variable {pl:Int} {frow:List cD} {tm:Nat}
theorem ug {g:XG} (d:cG g) {row:List cz} {e:cz} {fr:cD} (hx:g.threads[tm]? =some row) (hf:g.from_[tm]? =some frow) (hlen:row.length<14)
  (he:bD e (.ofNat g.init.length)=true) (A:db (fY g tm e fr pl row frow) ⟨.ofNat (tm+1),.ofNat row.length⟩ fr=true) (hp:jq g e pl=false):cG (fY g tm e fr pl row frow):=by
 have hold:∀id w,cX g id=some w->cX (fY g tm e fr pl row frow) id=some w:=fun id w h=>yC hx (g':=fY g tm e fr pl row frow) Z Z h
 have B:tm<g.threads.length:=(gA.1 hx).1;have C:tm<g.from_.length:=(gA.1 hf).1;obtain⟨E,u⟩:=d.rows tm row frow hx hf;refine⟨?_,d.init,fun i l h=>?_,?_,?_,fun i l f h1 z=>?_,?_⟩
 ·show(g.threads.set tm _).length<=4;rw[zg_];exact d.threads
 ·have h:(g.threads.set tm (row++[e]))[i]? =some l:=h;rw[List.getElem?_set] at h
  by_cases hi:tm=i
  ·grind
  rw[if_neg hi] at h;exact d.short i l h
 ·show(g.from_.set tm _).length=(g.threads.set tm _).length;rw[zg_,zg_];exact d.from_
 ·show(uY g.order e _ pl).length=g.init.length;rw[E1];exact d.order
 ·have h1:(g.threads.set tm (row++[e]))[i]? =some l:=h1;have z:(g.from_.set tm (frow++[fr]))[i]? =some f:=z;rw[List.getElem?_set] at h1 z
  by_cases hi:tm=i
  ·subst hi;rw[if_pos Z,if_pos B] at h1;rw[if_pos Z,if_pos C] at z;cases h1;cases z;refine⟨by simp_all,fun j e' q h3 h4=>?_⟩
   by_cases hj:j<row.length
   ·rw[gL_ hj] at h3;rw[gL_ oM] at h4;exact EV hold Z (by rw[fB,hx];exact h3)<|u j e' q h3 h4
   have G:j=row.length:=by
    grind
   subst G;rw[gR_<|nR_ _,sub_self] at h3;rw[gR_ oM,E,sub_self] at h4;cases h3;cases h4;exact MP he A
  rw[if_neg hi] at h1 z;obtain⟨h5,K⟩:=d.rows i l f h1 z;exact⟨h5,fun j e' q h3 h4=>EV hold Z (by rw[fB,h1];exact h3) (K j e' q h3 h4)⟩
 show(fV (g.threads.set tm (row++[e])) 0).Perm (jA (uY g.order e _ pl) 0);refine(B0 hx).trans ?_;rw[nA_];refine(List.Perm.append_left _ d.perm).trans (J1 fun hw=>?_).symm
 grind [Cj]
def Uv (k:Nat) (l:List XC) (r0:XM) (s:XM×List Int):Prop:=Ix k l (r0,[]) s.2=s
section
variable {k:Nat} {l:List XC} {r0:XM} {s:XM×List Int}
theorem Hg {s:XM×List Int} {ps:List Int} {p:Int}:Ix k l s (ps++[p])=Nm k l (Ix k l s ps) p:=by unfold Ix;simp_all
theorem Uv.one (h:Uv k l r0 s) {p:Int} {r:XM} (ht:Kx k l s.1 p=some r):Uv k l r0 (r,s.2++[p]):=by
 grind [Uv,Hg,Nm]
theorem N6 {r r':XM} {p:Int} (h:Kx k l r p=some r'):oQ r'.g.threads=oQ r.g.threads+1:=by
 obtain⟨t,rfl,_,d⟩:=Ky h;obtain⟨c,row,pl,hi⟩:=NR d;obtain⟨aa,h1,u⟩:=OJ hi.add;rw[u,z5 h1]
def Uu (s:XM×List Int):Prop:=s.2.length=oQ s.1.g.threads
theorem Uu.one (h:Uu s) {p:Int} {r:XM} (ht:Kx k l s.1 p=some r):Uu (r,s.2++[p]):=by
 grind [Uu,N6]
end
abbrev Bg (t k:Nat):cD:=⟨.ofNat (t+1),.ofNat k⟩
structure Rk (g:XG) (τ:cD->Nat) (N_:Nat):Prop where
 VW:∀x:Int,τ ⟨0,x⟩=0
 pos:∀(t k:Nat) (row:List cz) (e:cz),g.threads[t]? =some row->row[k]? =some e->1<=τ (Bg t k)/\τ (Bg t k)<=N_
 po:∀(t j k:Nat) (row:List cz) (e:cz),j<k->g.threads[t]? =some row->row[k]? =some e->τ (Bg t j)<τ (Bg t k)
 rf:∀(t k:Nat) (row:List cz) (e:cz) (frow:List cD) (q:cD),g.threads[t]? =some row->row[k]? =some e->cC e=true->g.from_[t]? =some frow->frow[k]? =some q->τ q<τ (Bg t k)
 src:∀(t k:Nat) (row:List cz) (e:cz) (frow:List cD) (q:cD),g.threads[t]? =some row->row[k]? =some e->cC e=true->g.from_[t]? =some frow->frow[k]? =some q->q.br=0∨∃(s j:Nat) (l:List cz) (w:cz),q=Bg s j/\g.threads[s]? =some l/\l[j]? =some w
 mem:∀(ln:Nat) (r:List cD) (j:Nat) (b:cD),g.order[ln]? =some r->r[j]? =some b->∃(t k:Nat) (row:List cz) (e:cz),b=Bg t k/\g.threads[t]? =some row/\row[k]? =some e
 co:∀(ln:Nat) (r:List cD) (i j:Nat) (a b:cD),g.order[ln]? =some r->r[i]? =some a->r[j]? =some b->i<j->τ a<τ b
 fr:∀(t k:Nat) (row:List cz) (e:cz) (frow:List cD) (q:cD) (ln:Nat) (r:List cD) (j:Nat) (b:cD),g.threads[t]? =some row->row[k]? =some e->cC e=true->g.from_[t]? =some frow->frow[k]? =some q->e.loc= .ofNat ln->g.order[ln]? =some r->r[j]? =some b->(∀i,r[i]? =some q->i<j)->b≠Bg t k->τ (Bg t k)<τ b
 up:∀(t k:Nat) (row:List cz) (e:cz) (frow:List cD) (q:cD) (ln:Nat) (r:List cD),g.threads[t]? =some row->row[k]? =some e->N e.kind 3=true->g.from_[t]? =some frow->frow[k]? =some q->e.loc= .ofNat ln->g.order[ln]? =some r->∃j,r[j]? =some (Bg t k)/\((j=0/\q=⟨0,.ofNat ln⟩)∨∃i,j=i+1/\r[i]? =some q)
variable {j:Nat}
theorem QR {g:XG} (d:cG g) {i:Nat} (hi:i<H g) (hw:bl (dB g i)=true):∃(ln:Nat) (r:List cD),(dB g i).loc= .ofNat ln/\g.order[ln]? =some r/\jI g (dB g i).loc=r:=by
 have key:∃ln:Nat,(dB g i).loc= .ofNat ln/\ln<g.order.length:=by
  rcases fp hi with ⟨x,v,h1,A,h3⟩ | ⟨t,k,row,e,h1,A,h3,h4⟩
  ·exact⟨x,by rw[h3],by rw[d.order];grind⟩
  obtain⟨frow,u⟩:∃frow,g.from_[t]? =some frow:=⟨_,gC (by rw[d.from_];grind)⟩;obtain⟨hl,w⟩:=d.rows t row frow A u;obtain⟨q,hq⟩:∃q,frow[k]? =some q:=⟨_,gC (by grind)⟩;have hoke:=w k e q h3 hq;unfold uW at hoke
  have z:bD e (.ofNat g.init.length)=true:=by
   simp_all
  obtain⟨ln,r,h5,h6,_⟩:=sC (cP.2 d) z (by rw[<-h4];exact hw)
  grind
 grind [jI]
section
variable {g:XG} {τ:cD->Nat} {N_:Nat}
theorem Mh (u:cG g) {t k:Nat} {row:List cz} {e:cz} (h1:g.threads[t]? =some row) (w:row[k]? =some e) (hw:bl e=true) (hl:e.loc= .ofNat ln):∃r,g.order[ln]? =some r/\Bg t k∈r:=by
 have hm:((Bg t k).ints,ofNat ln)∈fV g.threads 0:=jc.2 ⟨t,k,row,e,h1,w,hw,by rw[nA_];rfl,hl.symm⟩;obtain⟨ln',r,id,h3,h4,h5,d⟩:=iN.1 (u.perm.mem_iff.1 hm);rw[nA_] at d;obtain rfl:ln=ln':=iJ_ d;exact⟨r,h3,by rw[l5 h5];exact h4⟩
theorem O5 {i:Nat} (hp:nE g i j=true):bl (dB g i)=true/\bl (dB g j)=true/\(dB g i).loc=(dB g j).loc/\cM (dR g i) (dR g j)=true:=by
 unfold nE at hp;cases h1:bl (dB g i)<;>rw[h1] at hp
 ·cases hp
 cases d:bl (dB g j)<;>rw[d] at hp
 ·cases hp
 cases h3:N (dB g i).loc (dB g j).loc<;>rw[h3] at hp
 ·cases hp
 rw[eB] at h3
 simp_all
end
variable {A:Rn}
def Bk (g g':XG) (θ:Nat->Nat) (n:Nat) (R R':Rn):Prop:=(∀i j,i<H g->j<H g->R' (θ i) (θ j)=true->R i j=true)/\∀j,j<H g'->R' n j=false
structure Dy (g g':XG) (θ:Nat->Nat) (n:Nat):Prop where
 uu:Q1 g g' θ
 oH:∀j,j<H g'->j≠n->∃i,i<H g/\θ i=j
 ne:∀i,i<H g->θ i≠n
 po:∀j,j<H g'->jk g' n j=false
 Ux:∀j,j<H g'->eH g' j≠ .ofNat n
 co:∀j,j<H g'->nE g' n j=false
 fr:∀j,j<H g'->pW g' n j=false
theorem xG {a b:Nat} (h:N (.ofNat a) (.ofNat b)=true):a=b:=by rw[dY] at h;simpa using h
theorem E8 {g:XG} (d:cG g) {i:Nat} (hi:i<H g) (hw:bl (dB g i)=true):nu g (eJ g i)=dR g i:=by
 rw[Bx d hi hw];rcases og d hi with ⟨_,p,hp⟩ | ⟨h0,_⟩
 ·unfold oI;unfold dR at hp⊢
  grind
 simp_all
theorem DM {g:XG} (d:cG g) {i:Nat} (hi:i<H g) (hk:N (dB g i).kind 3=true):lg g (eJ g i)=bC (N (dR g i)<|wr .i64<|Int.add (dR g (eH g i).toNat) 1):=by
 have hr:=ic hk;have hw:bl (dB g i)=true:=by unfold bl;simp_all
 obtain⟨f,hf,u,w,z,_⟩:=gL d hi hr;obtain⟨t,k,row,e,frow,q,h1,_⟩:=yP d hi hr;unfold lg;rw[show N (eJ g i).br 0=false from by rw[h1];rfl,show iE (cX g<|eJ g i)=dB g i from Z,hk,<-w,E8 d hi hw,E8 d hf z,u];rfl
section
variable {g g':XG} {θ:Nat->Nat} {n:Nat}
theorem Bk.nil:Bk g g' θ n (iY []) (iY []):=⟨fun _ _ _ _ h=>h,fun _ _=>Z⟩
theorem Bk.cons {A':Rn} {l l':List Rn} (h1:Bk g g' θ n A A') (d:Bk g g' θ n (iY l) (iY l')):Bk g g' θ n (iY (A::l)) (iY (A'::l')):=by
 refine⟨fun i j hi hj hr=>?_,fun j hj=>?_⟩
 ·show(A i j || iY l i j)=true;have hr:(A' (θ i) (θ j) || iY l' (θ i) (θ j))=true:=hr;rw[Bool.or_eq_true] at hr⊢;rcases hr with hr | hr
  ·exact .inl<|h1.1 i j hi hj hr
  exact .inr<|d.1 i j hi hj hr
 show(A' n j || iY l' n j)=false;rw[h1.2 j hj,d.2 j hj];rfl
variable (h:Dy g g' θ n)
include h
theorem Dy.tc {R R':Rn} (hb:Bk g g' θ n R R') {a b:Nat} (A:Tc (H g') R' a b):a≠n/\∀i,i<H g->θ i=a->b≠n->∃j,j<H g/\θ j=b/\Tc (H g) R i j:=by
 induction A with
 | one ha u hr=>
  refine⟨fun e=>?_,fun i hi ei d=>?_⟩
  ·rw[e,hb.2 _ u] at hr;cases hr
  obtain⟨j,hj,ej⟩:=h.oH _ u d;subst ei;subst ej;exact⟨j,hj,Z,.one hi hj<|hb.1 i j hi hj hr⟩
 | step _ _ w z=>
  refine⟨w.1,fun i hi ei d=>?_⟩;obtain⟨k,hk,ek,B⟩:=w.2 i hi ei z.1;obtain⟨j,hj,ej,C⟩:=z.2 k hk ek d;exact⟨j,hj,ej,.step B C⟩
theorem Dy.OT {R R':Rn} (hb:Bk g g' θ n R R'):Bk g g' θ n (kW (H g) R) (kW (H g') R'):=by
 refine⟨fun i j hi hj hr=>?_,fun j hj=>?_⟩
 ·obtain⟨_,d⟩:=h.tc hb (kP.1 hr);obtain⟨q,hq,eq,u⟩:=d i hi Z (h.ne j hj);rw[<-h.uu.inj q j hq hj eq];exact kP.2 u
 cases w:kW (H g') R' n j with
 | false=>rfl
 | true=>exact absurd Z (h.tc hb<|kP.1 w).1
theorem Dy.U1:Bk g g' θ n (jk g) (jk g'):=⟨fun i j hi hj hr=>by rw[<-h.uu.po i j hi hj];exact hr,h.po⟩
theorem Dy.U2:Bk g g' θ n (qz g) (qz g'):=by
 refine⟨fun i j hi hj hr=>?_,fun j hj=>?_⟩
 ·unfold qz at hr⊢;cases hb:cC (dB g j) with
  | false=>
   have:eH g' (θ j)= -1:=by unfold eH;rw[h.uu.ev j hj,hb];rfl
   rw[this] at hr;cases hr
  | true=>
   obtain⟨f,h1,d,h3⟩:=h.uu.from_ j hj hb;rw[h3,h.uu.eq f i h1 hi] at hr;rw[d];exact hr
 unfold qz;rw[eB];exact decide_eq_false<|h.Ux j hj
theorem Dy.VS:Bk g g' θ n (nE g) (nE g'):=⟨fun i j hi hj hr=>by rw[<-h.uu.co i j hi hj];exact hr,h.co⟩
theorem Dy.VT:Bk g g' θ n (pW g) (pW g'):=⟨fun i j hi hj hr=>by rw[<-h.uu.fr i j hi hj];exact hr,h.fr⟩
theorem Dy.sq {w k:Nat} (C:Sq g' w k):(w=n->k=n)/\∀i,i<H g->θ i=w->k≠n->∃j,j<H g/\θ j=k/\Sq g i j:=by
 induction C with
 | base=>exact⟨fun e=>e,fun i hi ei _=>⟨i,hi,ei,.base⟩⟩
 | @step x f hi hk hf _ ih=>
  refine⟨fun e=>absurd (by simp_all) (h.Ux _ hi),fun q hq eq u=>?_⟩;obtain⟨j,hj,ej⟩:=h.oH _ hi u;have z:f≠n:=fun e=>h.Ux _ hi (by rw[<-e];exact hf)
  obtain⟨p,hp,ep,A⟩:=ih.2 q hq eq z;subst ej;have d:N (dB g j).kind 3=true:=by rw[<-h.uu.ev j hj];exact hk
  obtain⟨B,h1,E,h3⟩:=h.uu.from_ j hj (ic d);have e1:θ B=θ p:=by grind
  have e0:=h.uu.inj B p h1 hp e1;exact⟨j,hj,Z,.step hj d (by rw[E,e0]) A⟩
theorem Dy.sw (S:cG g') {r a:Nat} (hs:sU g' r a=true):r≠n/\(a≠n->∃i j,i<H g/\j<H g/\θ i=r/\θ j=a/\sU g i j=true):=by
 obtain⟨w,b,hw,hb,hr,ha,T,W,X,c4⟩:=vx.1 hs;have u:cC (dB g' b)=true:=wN W;obtain⟨f,hf,aa,_⟩:=gL S hb u;have G:f≠n:=fun e=>h.Ux b hb (by rw[aa,e])
 have K:Sq g' w f:=by
  grind [gX,rF]
 have ab:w≠n:=fun e=>G ((h.sq K).1 e)
 obtain⟨E,z,ew⟩:=h.oH w hw ab;obtain⟨f0,ac,ef,L⟩:=(h.sq K).2 E z ew G
 have M:r≠n:=fun e=>by
  have hp:=h.po w hw
  grind [fZ,xG]
 refine⟨M,fun am=>?_⟩
 have ao:b≠n:=fun e=>by
  have hp:=h.po a ha
  grind [fU,xG]
 obtain⟨C,d,eb⟩:=h.oH b hb ao;obtain⟨Q,A,er⟩:=h.oH r hr M;obtain⟨R,B,ea⟩:=h.oH a ha am;subst ew;subst eb;subst er;subst ea;rw[h.uu.ev C d] at u;refine⟨Q,R,A,B,Z,Z,vx.2 ⟨E,C,z,d,A,B,?_,?_,?_,?_⟩⟩
 ·unfold js at T⊢;rw[h.uu.ev E z] at T;exact T
 ·unfold gX at W⊢;rw[h.uu.ev C d,u] at W;rw[u];cases ho:N (dB g C).order 1 with
  | true=>simp_all
  | false=>
   obtain⟨f1,k1,k2,k3⟩:=h.uu.from_ C d u;have e1:θ f1=θ f0:=by grind
   show nJ g E (eH g C).toNat=true;rw[k2,h.uu.inj f1 f0 k1 ac e1];exact rF.2 L
 ·unfold fZ ru at X⊢;rw[h.uu.ev Q A,h.uu.eq Q E A z,h.uu.po Q E A z] at X;exact X
 unfold fU sN at c4⊢;rw[h.uu.ev R B,h.uu.eq R C B d,h.uu.po C R d B] at c4;exact c4
theorem Dy.Ww (d:cG g'):Bk g g' θ n (sU g) (sU g'):=by
 refine⟨fun i j hi hj hr=>?_,fun j _=>?_⟩
 ·obtain⟨i',j',u,w,e1,z,A⟩:=(h.sw d hr).2 (h.ne j hj);rw[<-h.uu.inj i' i u hi e1,<-h.uu.inj j' j w hj z];exact A
 cases B:sU g' n j with
 | false=>rfl
 | true=>exact absurd Z (h.sw d B).1
theorem Dy.round {R R':Rn} (hb:Bk g g' θ n R R') (hr:bC (cM (jO (H g') R') 0)=true):bC (cM (jO (H g) R) 0)=true:=by
 have hb:=h.OT hb;unfold jO at hr⊢;rw[kG] at hr⊢;have hr:(range<|H g').any (fun i=>kW (H g') R' i i)=true:=by grind [bC]
 have:(range<|H g).any (fun i=>kW (H g) R i i)=true:=by
  obtain⟨j,hj,d⟩:=List.any_eq_true.1 hr;have hj:=List.mem_range.1 hj;obtain⟨i,hi,rfl⟩:=h.oH j hj fun e=>by rw[e,hb.2 n (by rw[<-e];exact hj)] at d;cases d
  exact List.any_eq_true.2 ⟨i,List.mem_range.2 hi,hb.1 i i hi hi d⟩
 rw[this];rfl
theorem Dy.U0 (d:cG g'):Bk g g' θ n (vH g) (vH g'):=h.OT (.cons h.U1 (.cons (h.Ww d) .nil))
theorem Dy.Tk:Bk g g' θ n (qR g) (qR g'):=h.OT (.cons h.U2 (.cons h.VS (.cons h.VT .nil)))
theorem Dy.Wy (d:cG g') (hb:yl g'=true):yl g=true:=by
 unfold yl at hb⊢;obtain⟨⟨a,b⟩,hm,w⟩:=List.any_eq_true.1 hb;obtain⟨z,u,hr⟩:=jZ.1 hm;unfold sO l8 at hr;rw[bA_] at hr;obtain⟨i,hi,rfl⟩:=h.oH a z fun e=>by rw[e,(h.U0 d).2 b u] at hr;cases hr.1
 obtain⟨j,hj,rfl⟩:=h.oH b u fun e=>by rw[e,h.Tk.2 _ z] at hr;cases hr.2
 refine List.any_eq_true.2 ⟨(i,j),jZ.2 ⟨hi,hj,?_⟩,?_⟩
 ·unfold sO l8;rw[bA_];exact⟨(h.U0 d).1 i j hi hj hr.1,h.Tk.1 j i hj hi hr.2⟩
 show bC (N (.ofNat i) (.ofNat j))=true;rw[<-h.uu.eq i j hi hj];exact w
theorem Dy.Td (A:cG g) (z:cG g') (hk:N (dB g' n).kind 3=false) (hb:bC (cM (wy g') 0)=true):bC (cM (wy g) 0)=true:=by
 unfold wy at hb⊢;rw[kG] at hb⊢;have hb:(gj g').any (lg g')=true:=by revert hb;cases (gj g').any (lg g')<;>simp[bC]
 have:(gj g).any (lg g)=true:=by
  obtain⟨id,hm,d⟩:=List.any_eq_true.1 hb;obtain⟨j,hj⟩:=gO_ hm;have u:j<H g':=(gA.1 hj).1;obtain rfl:eJ g' j=id:=zs_ ((eE u).symm.trans hj);cases h3:N (dB g' j).kind 3 with
  | false=>
   unfold lg at d;rw[show iE (cX g'<|eJ g' j)=dB g' j from Z,h3] at d
   simp_all
  | true=>
   obtain⟨i,hi,rfl⟩:=h.oH j u fun e=>by simp_all
   have w:N (dB g i).kind 3=true:=by rw[<-h.uu.ev i hi];exact h3
   obtain⟨B,k2⟩:=h.uu.Q7 i hi (ic w);rw[DM z u h3,h.uu.place i hi,k2,h.uu.place _ B] at d;exact List.any_eq_true.2 ⟨eJ g i,gB_<|eE hi,by rw[DM A hi w];exact d⟩
 rw[this];rfl
theorem Dy.Tm (z:cG g) (d:cG g') (hk:N (dB g' n).kind 3=false) {x:Int} (hb:eh g' x=true):eh g x=true:=by
 unfold eh at hb⊢;cases u:N x 2 with
 | true=>rw[u] at hb;exact h.Td z d hk hb
 | false=>
 rw[u] at hb;cases h3:N x 3 with
 | true=>rw[h3] at hb;exact h.round (h.OT (.cons h.U1 (.cons h.U2 .nil))) hb
 | false=>
 rw[h3] at hb;cases h4:N x 4 with
 | true=>rw[h4] at hb;exact h.round (h.U0 d) hb
 | false=>
 rw[h4] at hb;cases w:N x 6 with
 | true=>rw[w] at hb;exact h.round (.cons h.U1 (.cons h.U2 (.cons h.VS (.cons h.VT .nil)))) hb
 | false=>
 rw[w] at hb;cases h5:N x 5 with
 | true=>rw[h5] at hb;exact h.Wy d hb
 | false=>simp_all
theorem Dy.WN (w:cG g) (d:cG g') (hk:N (dB g' n).kind 3=false) {m:Int} (hw:iG m g=false):iG m g'=false:=by
 unfold iG at hw⊢;rw[cP.2 w] at hw;rw[cP.2 d];cases h0:N (.ofNat (eL m).length) 0 with
 | true=>rfl
 | false=>
  rw[h0] at hw;have hw:(eL m).any (eh g)=false:=hw;show(eL m).any (eh g')=false;cases hb:(eL m).any (eh g') with
  | false=>rfl
  | true=>
   obtain⟨x,hx,u⟩:=List.any_eq_true.1 hb;rw[List.any_eq_true.2 ⟨x,hx,h.Tm w d hk u⟩] at hw;cases hw
end
theorem Bi {α:Type} {p:α->Bool} {x:α} (hp:p x=false):∀{r:List α} {k:Nat},ey p (r++[x]) k=ey p r k
 | [],k=>by show(bif p x then ofNat k else-1)= -1;rw[hp];rfl
 | y::r,k=>by
  show(bif p y then ofNat k else ey p (r++[x]) (k+1))=bif p y then ofNat k else ey p r (k+1);rw[Bi hp]
theorem By {g:XG} (z:cG g) {r:List cD} (hj:j<H g) (hw:bl (dB g j)=true) (hl:(dB g j).loc= .ofNat ln) (hr:g.order[ln]? =some r):(eJ g j=⟨0,.ofNat ln⟩/\dR g j=0)∨∃a,a<r.length/\r[a]? =some (eJ g j)/\dR g j= .ofNat (a+1):=by
 rcases fp hj with ⟨x,v,h1,A,h3⟩ | ⟨t,k,row,e,h1,A,h3,h4⟩
 ·left;rw[h3] at hl;obtain rfl:=iJ_ hl;exact⟨h1,by unfold dR;rw[h1];rfl⟩
 right;rw[h4] at hw hl;obtain⟨r',d,hm⟩:=Mh z A h3 hw hl;rw[hr] at d;cases d;obtain⟨a,w⟩:=gO_ hm;have hal:=(gA.1 w).1;have u:eJ g j=Bg t k:=h1;refine⟨a,hal,by rw[u];exact w,?_⟩;unfold dR;rw[u,show N (Bg t k).br 0=false from Z,h4,hl,show jI g (.ofNat ln)=r from by unfold jI;simp_all]
 have:=se (p:=fun x:cD=>cL x.ints (Bg t k).ints) (l:=r) (i:=0) w (iX.2 Z) fun q y hq B=>by
  cases C:cL y.ints (Bg t k).ints with
  | false=>rfl
  | true=>
   rw[iX.1 C] at B;have:=tW (wm z hr) B w;omega
 rw[nA_] at this;simp only[cond_false];rw[this];show(bif cM (.ofNat a) 0 then(-1:Int) else wr .i64 (Int.add (.ofNat a) 1))=_;rw[show cM (.ofNat a) 0=false from Z];have:=iq (cP.2 z) r (gB_ hr);exact aX oM
theorem E9 {g:XG} (d:cG g) {r:List cD} (hj:j<H g) (hw:bl (dB g j)=true) (hl:(dB g j).loc= .ofNat ln) (hr:g.order[ln]? =some r):∃p,dR g j= .ofNat p/\p<=r.length:=by
 rcases By d hj hw hl hr with ⟨_,h⟩ | ⟨a,h1,_,h⟩
 ·exact⟨0,h,zero_le _⟩
 exact⟨a+1,h,h1⟩
theorem zE {g:XG} (u:cG g) {r:List cD} (hj:j<H g) (hw:bl (dB g j)=true) (hl:(dB g j).loc= .ofNat ln) (hr:g.order[ln]? =some r) (he:eJ g j=(r.getLast?).getD ⟨0,.ofNat ln⟩):dR g j= .ofNat r.length:=by
 rcases By u hj hw hl hr with ⟨h1,h⟩ | ⟨a,h1,w,h⟩
 ·cases d:r.getLast? with
  | none=>simp_all
  | some x=>
   rw[d] at he;obtain⟨t,k,_,_,e1,_⟩:=sl u hr (List.mem_of_getLast? d)
   grind
 cases d:r.getLast? with
 | none=>simp_all
 | some x=>
  rw[d] at he;rw[he] at w;obtain⟨P,hP⟩:=List.getLast?_eq_some_iff.1 d;have h3:r[P.length]? =some x:=by simp_all
  have:=tW (wm u hr) w h3
  simp_all
theorem AM {g:XG} {i:Nat} (hp:nE g i j=true):bl (dB g i)=true/\bl (dB g j)=true/\(dB g i).loc=(dB g j).loc/\cM (dR g i) (dR g j)=true:=O5 hp
section
variable {g:XG} {tm:Nat} {row:List cz} {frow:List cD} {e:cz} {fr:cD} {pl:Int}
theorem JD (hR:cG g) (hx:g.threads[tm]? =some row) (hf:g.from_[tm]? =some frow) (d:cG (fY g tm e fr pl row frow)) (hk:N e.kind 3=false)
  (bb:∀ln r,bl e=true->e.loc= .ofNat ln->g.order[ln]? =some r->pl= .ofNat (r.length+1)) (be:∀ln r,cC e=true->e.loc= .ofNat ln->g.order[ln]? =some r->fr=(r.getLast?).getD ⟨0,.ofNat ln⟩):
  ∃θ n,Dy g (fY g tm e fr pl row frow) θ n/\dB (fY g tm e fr pl row frow) n=e:=by
 obtain⟨g',G⟩:∃g',g'=fY g tm e fr pl row frow:=⟨_,Z⟩;rw[<-G] at d⊢;obtain⟨B,z⟩:∃B:cD,B=⟨.ofNat (tm+1),.ofNat row.length⟩:=⟨_,Z⟩;have gi:g'.init=g.init:=by rw[G];rfl
 have gt:g'.threads=g.threads.set tm (row++[e]):=by rw[G,lq]
 have gf:g'.from_=g.from_.set tm (frow++[fr]):=by rw[G,lq]
 have go:g'.order=uY g.order e B pl:=by rw[G,lq,z]
 have htl:=(gA.1 hx).1;have hfl:=(gA.1 hf).1;have S:frow.length=row.length:=(hR.rows tm row frow hx hf).1;have T:cX g' B=some e:=by rw[z];exact yB hx gt
 have K:cX g B=none:=by rw[z,fB,hx];show row[row.length]? =none;exact gN_<|nR_ _
 have hold:∀{id w},cX g id=some w->cX g' id=some w:=fun h=>yC hx gi gt h
 have W:bl e=true->∃ln r,e.loc= .ofNat ln/\g.order[ln]? =some r/\g'.order=g.order.set ln (r++[B]):=fun hw=>by
  have aa:g'.threads[tm]? =some (row++[e]):=by rw[gt,List.getElem?_set_self htl]
  have Q:g'.from_[tm]? =some (frow++[fr]):=by rw[gf,List.getElem?_set_self hfl]
  have hok:=(d.rows tm _ _ aa Q).2 row.length e fr (by rw[gR_<|nR_ _,sub_self];rfl) (by rw[<-S,gR_<|nR_ _,sub_self];rfl)
  have ap:bD e (.ofNat g'.init.length)=true:=by
   unfold uW at hok;revert hok;cases bD e (.ofNat g'.init.length)<;>intro hok
   ·exact Bool.noConfusion (show false=true from hok)
   rfl
  rw[gi] at ap;obtain⟨ln,r,h1,h2,_⟩:=sC (cP.2 hR) ap hw;refine⟨ln,r,h1,h2,?_⟩;rw[go];unfold uY;rw[hw,bb ln r hw h1 h2,h1];simp only[cond_true,show(ofNat ln).toNat=ln from Z,h2,Option.getD_some,show(ofNat (r.length+1)).toNat-1=r.length from Z];rw[List.take_length,drop_length]
 have X:bl e=false->g'.order=g.order:=fun hw=>by rw[go];unfold uY;rw[hw];rfl
 have ab:∀x:Int,jI g' x=jI g x∨jI g' x=jI g x++[B]:=fun x=>by
  unfold jI;cases hw:bl e with
  | false=>rw[X hw];exact .inl Z
  | true=>
   obtain⟨ln,r,h1,h2,h3⟩:=W hw;rw[h3]
   by_cases aq:ln=x.toNat
   ·right;rw[<-aq,List.getElem?_set_self (gA.1 h2).1,h2];rfl
   left;rw[List.getElem?_set_ne aq]
 have num:∀{h:XG} {id:cD} {w:cz},cX h id=some w->∃j,j<H h/\eJ h j=id:=fun {h id w} hw=>by
  obtain⟨j,hj⟩:=gO_ (xJ hw<|uI hw);have hlt:=(gA.1 hj).1;exact⟨j,hlt,zs_ ((eE hlt).symm.trans hj)⟩
 have same:∀{h:XG} {i j:Nat},i<H h->j<H h->eJ h i=eJ h j->i=j:=fun {h i j} hi hj he=>by
  have a1:=eE hi;have a2:=eE hj;rw[<-he] at a2;exact sd a1 a2
 have hex:∀i,∃j,i<H g->j<H g'/\eJ g' j=eJ g i:=fun i=>by
  by_cases hi:i<H g
  ·obtain⟨j,h1,h2⟩:=num (hold<|yD hi);exact⟨j,fun _=>⟨h1,h2⟩⟩
  exact⟨0,fun h=>absurd h hi⟩
 obtain⟨θ,hθ⟩:∃θ:Nat->Nat,∀i,i<H g->θ i<H g'/\eJ g' (θ i)=eJ g i:=⟨fun i=>Classical.choose (hex i),fun i=>Classical.choose_spec (hex i)⟩;obtain⟨n,hn,A⟩:=num T
 have R:∀i,i<H g->dB g' (θ i)=dB g i:=fun i hi=>by
  show iE (cX g'<|eJ g' (θ i))=_;rw[(hθ i hi).2,hold<|yD hi];rfl
 have u:dB g' n=e:=by show iE (cX g'<|eJ g' n)=_;rw[A,T];rfl
 have ar:∀i,i<H g->θ i≠n:=fun i hi he=>by
  have h1:=yD hi;rw[<-(hθ i hi).2,he,A,K] at h1;cases h1
 have a0:∀i j,i<H g->j<H g->θ i=θ j->i=j:=fun i j hi hj he=>same hi hj (by rw[<-(hθ i hi).2,<-(hθ j hj).2,he])
 have L:∀i,i<H g->cC (dB g i)=true->∃f,f<H g/\eH g i= .ofNat f/\eH g' (θ i)= .ofNat (θ f):=fun i hi hr=>by
  obtain⟨f,h1,h2,h3,_⟩:=gL hR hi hr;obtain⟨f',k1,k2,k3,_⟩:=gL d (hθ i hi).1 (by rw[R i hi];exact hr);refine⟨f,h1,h2,?_⟩;rw[k2];refine congrArg ofNat<|same k1 (hθ f h1).1 ?_;rw[k3,(hθ i hi).2,(hθ f h1).2,h3];obtain⟨t,k,M,e2,ac,q,c1,c2,c3,c4,c5,c6,c7,_⟩:=yP hR hi hr;rw[c1];unfold KO;show((((g'.from_[t]?).getD [])[k]?).getD ⟨0,0⟩:cD)=(((g.from_[t]?).getD [])[k]?).getD ⟨0,0⟩;rw[gf]
  by_cases ht:tm=t
  ·subst ht;rw[hf] at c5;cases c5;rw[List.getElem?_set_self hfl,hf];show(((frow++[fr])[k]?).getD ⟨0,0⟩:cD)=(frow[k]?).getD ⟨0,0⟩;rw[gL_ (gA.1 c6).1]
  rw[List.getElem?_set_ne ht]
 have uu:Q1 g g' θ:=⟨fun i hi=>(hθ i hi).1,a0,R,fun i j hi hj=>by unfold jk;rw[(hθ i hi).2,(hθ j hj).2],L,fun i hi=>by
  unfold dR;rw[(hθ i hi).2,R i hi]
  have:ey (fun x:cD=>cL x.ints (eJ g i).ints) (jI g' (dB g i).loc) 0=ey (fun x:cD=>cL x.ints (eJ g i).ints) (jI g (dB g i).loc) 0:=by
   rcases ab (dB g i).loc with h1 | h1
   ·rw[h1]
   rw[h1];refine Bi ?_;cases hs:cL B.ints (eJ g i).ints with
   | false=>rfl
   | true=>
    have h2:=yD hi;rw[<-iX.1 hs,K] at h2;cases h2
  rw[this]⟩
 have C:∀j,j<H g'->j≠n->∃i,i<H g/\θ i=j:=fun j hj bi=>by
  have key:∃w,cX g (eJ g' j)=some w:=by
   rcases fp hj with ⟨x,v,h1,h2,_⟩ | ⟨t,k,M,e2,h1,h2,h3,_⟩
   ·rw[h1];refine⟨⟨2,x,1,0,v⟩,?_⟩;show(g.init[x]?).map _=_;rw[<-gi,h2];rfl
   rw[h1,fB];rw[gt] at h2
   by_cases ht:tm=t
   ·subst ht;rw[List.getElem?_set_self htl] at h2;cases h2
    by_cases bj:k<row.length
    ·rw[hx];exact⟨_,show row[k]? =some _ from gC bj⟩
    have hkl:=(gA.1 h3).1;rw[lA_,zq_] at hkl;have bm:k=row.length:=by omega
    exact absurd (same hj hn (by rw[h1,A,z,bm])) bi
   rw[List.getElem?_set_ne ht] at h2;exact⟨e2,by rw[h2];exact h3⟩
  obtain⟨w,hw⟩:=key;obtain⟨i,hi,bq⟩:=num hw;exact⟨i,hi,same (hθ i hi).1 hj (by rw[(hθ i hi).2,bq])⟩
 have a3:∀j,j<H g'->eH g' j≠ .ofNat n:=fun j hj E=>by
  cases hr:cC (dB g' j) with
  | false=>unfold eH at E;rw[hr] at E;cases E
  | true=>
   obtain⟨f,h1,h2,h3,_,_,h6⟩:=gL d hj hr;rw[h2] at E;obtain rfl:=iJ_ E;obtain⟨i,hi,rfl⟩:=C j hj (Ne.symm h6);obtain⟨f0,k1,_,k3⟩:=L i hi (by rw[<-R i hi];exact hr);rw[h2] at k3;exact ar f0 k1 (iJ_ k3).symm
 have br:cC e=true->bl e=false:=fun hr=>by
  unfold cC at hr;unfold bl;cases h1:N e.kind 1 with
  | true=>rw[eB] at h1;rw[of_decide_eq_true h1];rfl
  | false=>rw[h1,hk] at hr;cases hr
 refine⟨θ,n,⟨uu,C,ar,fun j hj=>?_,a3,fun j hj=>?_,fun j hj=>?_⟩,u⟩
 ·unfold jk;rw[A,z];have e1:N (ofNat (tm+1)) 0=false:=rfl;have e2:cM 0 (ofNat (tm+1))=true:=rfl;dsimp only;rw[e1,e2];simp only[cond_false,cond_true];rcases fp hj with ⟨x,v,h1,h2,_⟩ | ⟨t,k,M,e2,h1,h2,h3,_⟩
  ·rw[h1];rfl
  rw[h1];dsimp only;cases h7:N (ofNat (tm+1)) (ofNat (t+1)) with
  | false=>rfl
  | true=>
   have ht:tm=t:=by have:=xG h7;omega
   subst ht;rw[gt,List.getElem?_set_self htl] at h2;cases h2;have hkl:=(gA.1 h3).1;rw[lA_,zq_] at hkl;show cM (.ofNat row.length) (.ofNat k)=false;rw[gP];exact decide_eq_false oM
 ·cases E:nE g' n j with
  | false=>rfl
  | true=>
   obtain⟨h1,h2,h3,h4⟩:=AM E;rw[u] at h1 h3;obtain⟨ln,r,k1,k2,k3⟩:=W h1;have ho:g'.order[ln]? =some (r++[B]):=by rw[k3,List.getElem?_set_self (gA.1 k2).1]
   have hp:=zE d hn (by rw[u];exact h1) (by rw[u];exact k1) ho (by rw[A,List.getLast?_append];rfl);obtain⟨p,am,a4⟩:=E9 d hj h2 (by rw[<-h3];exact k1) ho;rw[hp,am] at h4;have:=bd h4;omega
 cases E:pW g' n j with
 | false=>rfl
 | true=>
  unfold pW at E;cases h0:bC (N (.ofNat n) (.ofNat j))<;>rw[h0] at E
  ·cases E
  cases hr:cC (dB g' n)<;>rw[hr] at E
  ·cases E
  have E:nE g' (eH g' n).toNat j=true:=E;obtain⟨f,h1,h2,h3,h4,h5,_⟩:=gL d hn hr;rw[h2] at E;obtain⟨c1,c2,c3,c4⟩:=AM E;have c3:(dB g' f).loc=(dB g' j).loc:=c3;have c4:cM (dR g' f) (dR g' j)=true:=c4;obtain⟨t,k,M,e2,ac,q,d1,d2,d3,d4,d5,d6,d7,_⟩:=yP d hn hr;have hwf:=br (by rw[<-u];exact hr);obtain⟨ln,r,hl,ao,_⟩:=QR d h1 h4;have hle:e.loc= .ofNat ln:=by rw[<-u,<-h5];exact hl
  have a5:g.order[ln]? =some r:=by rw[<-X hwf];exact ao
  have hfre:=be ln r (by rw[<-u];exact hr) hle a5
  have a9:KO g' (eJ g' n)=fr:=by
   rw[A,z];unfold KO;show((((g'.from_[tm]?).getD [])[row.length]?).getD ⟨0,0⟩:cD)=fr;rw[gf,List.getElem?_set_self hfl];show(((frow++[fr])[row.length]?).getD ⟨0,0⟩:cD)=fr;rw[<-S,gR_<|nR_ _,sub_self];rfl
  have hp:=zE d h1 h4 hl ao (by rw[h3,a9];exact hfre);obtain⟨p,am,a4⟩:=E9 d hj c2 (by rw[<-c3];exact hl) ao;rw[hp,am] at c4;have:=bd c4;omega
theorem v8 (z:cG g) (hx:g.threads[tm]? =some row) (hf:g.from_[tm]? =some frow) (d:cG (fY g tm e fr pl row frow)) (hk:N e.kind 3=false)
  (u:∀ln r,bl e=true->e.loc= .ofNat ln->g.order[ln]? =some r->pl= .ofNat (r.length+1)) (w:∀ln r,cC e=true->e.loc= .ofNat ln->g.order[ln]? =some r->fr=(r.getLast?).getD ⟨0,.ofNat ln⟩) {m:Int} (hw:iG m g=false):iG m (fY g tm e fr pl row frow)=false:=by
 obtain⟨θ,n,h,he⟩:=JD z hx hf d hk u w;exact h.WN z d (by rw[he];exact hk) hw
end
variable {c:XC}
theorem yd {k:Nat} {s:TS} (h:iH c s) (d:s.asks=true) (v:Int):(fm k c s v).at_∈eI c s.at_:=by
 obtain⟨x,hx,hk⟩:=h d;show s.at_+1∈eI c s.at_;unfold eI;rw[hx];show _∈(iB x s.at_).map Int.toNat
 have:iB x s.at_= [.ofNat (s.at_+1)]:=by
  unfold iB;rcases hk with hk | hk | hk | hk<;>rw[hk]<;>rfl
 rw[this];simp
def CL (f:Nat->Nat) (l:List Nat) (m:Nat):Nat:=l.foldl (fun m t=>max m (f t)) m
theorem CM {f:Nat->Nat} {B:Nat}:∀{l:List Nat} {m:Nat},m<=B->(∀t∈l,f t<=B)->CL f l m<=B
 | [],_,hm,_=>hm
 | a::l,m,hm,h=>CM (l:=l) (Nat.max_le.2 ⟨hm,h a<|mS_ ..⟩) (fun t d=>h t (mC_ _ d))
theorem EK {f:Nat->Nat}:∀{l:List Nat} {m:Nat},m<=CL f l m
 | [],_=>nR_ _
 | a::l,m=>Nat.le_trans (Nat.le_max_left _ _) (EK (l:=l))
theorem xL {f:Nat->Nat}:∀{l:List Nat} {m t:Nat},t∈l->f t<=CL f l m
 | a::l,m,t,h=>by
  rcases mQ_.1 h with rfl | h
  ·exact Nat.le_trans (Nat.le_max_right _ _)<|EK (l:=l)
  exact xL (l:=l) h
theorem GW {f g:Nat->Nat} {l l':List Nat} (h:∀t,t∈l↔t∈l') (hf:∀t∈l,f t=g t):CL f l 0=CL g l' 0:=by
 refine Nat.le_antisymm (CM (zero_le _) fun t d=>?_)<|CM (zero_le _) fun t d=>?_
 ·rw[hf t d];exact xL ((h t).1 d)
 rw[<-hf t ((h t).2 d)];exact xL ((h t).2 d)
inductive Reach (nx:Nat->List Nat):Nat->Prop
 | zero:Reach nx 0
 | step {i t:Nat}:Reach nx i->t∈nx i->Reach nx t
def R7 (w:Nat->Nat) (nx:Nat->List Nat):Nat->Nat->Nat
 | 0,_=>0
 | k+1,i=>CL (R7 w nx k) (nx i) 0+w i
theorem EH {w:Nat->Nat} {nx:Nat->List Nat} {n:Nat} {out:List Nat} (d:gT nx n out):∀(q i:Nat),out[q]? =some i->∀k,q<k->R7 w nx k i=R7 w nx (q+1) i:=by
 intro q;induction q using Nat.strongRecOn with
 | _ q ih=>
  intro i hi k hk;obtain⟨k,rfl⟩:∃m,k=m+1:=⟨k-1,by omega⟩;show CL _ _ _+_=CL _ _ _+_;rw[GW (fun t=>Iff.rfl) (fun t u=>?_)];obtain⟨q',h1,h2⟩:=d.Fb q i hi t u
  grind
section
variable {nx:Nat->List Nat} {w:Nat->Nat} {r:Nat->Bool} {n:Nat}
end
section
variable {nx dx:Nat->List Nat} {w:Nat->Nat} {r:Nat->Bool} {n:Nat} {out:List Nat} {F_ H_:Nat->Nat}
end
structure VO (nx:Nat->List Nat) (s:DS):Prop where
 open_:∀i:Nat,s.st[i]? =some 1->i∈s.path
 Wz:∀(j a b:Nat),s.path[j]? =some a->s.path[j+1]? =some b->b∈nx a
 reach:∀i∈s.path,Reach nx i
structure Wo (nx:Nat->List Nat) (n:Nat) (o:List Bool) (st:List Nat):Prop where
 len:o.length=n
 reach:∀i:Nat,o[i]? =some true->Reach nx i
 zero:o[0]? =some true
 VJ:∀i∈st,i<n/\o[i]? =some true
 closed:∀i:Nat,o[i]? =some true->i∈st∨∀t∈nx i,o[t]? =some true
structure Ry (nx:Nat->List Nat) (n:Nat) (o:List Bool) (st:List Nat) (a m:Nat) (dl:List Nat):Prop where
 len:o.length=n
 reach:∀i:Nat,o[i]? =some true->Reach nx i
 zero:o[0]? =some true
 VJ:∀i∈st,i<n/\o[i]? =some true
 at_:o[a]? =some true
 closed:∀i:Nat,o[i]? =some true->i∈st∨i=a∨∀t∈nx i,o[t]? =some true
 done:∀(q t:Nat),q<m->dl[q]? =some t->o[t]? =some true
section
variable {nx:Nat->List Nat} {n:Nat} {o:List Bool} {st:List Nat} {a m t:Nat} {dl:List Nat}
theorem Ry.skip (h:Ry nx n o st a m dl) (ht:dl[m]? =some t) (ho:o[t]? =some true):Ry nx n o st a (m+1) dl where
 len:=h.len
 reach:=h.reach
 zero:=h.zero
 VJ:=h.VJ
 at_:=h.at_
 closed:=h.closed
 done q t' hq h':=by
  by_cases e:q=m
  ·simp_all
  exact h.done q t' oM h'
end
section
variable {nx:Nat->List Nat} {w:Nat->Nat} {r:Nat->Bool} {n i v j:Nat} {b b':List Nat} {sm:Bool}
end
def wK (kind:Int):Nat:=bif (bif bC (cM kind 2) then bC (cM 7 kind) else false) then 1 else 0
def wA (c:XC) (i:Nat):Nat:=match c.ins[i]? with | some x=>wK x.kind | none=>0
section
variable {k:Nat} {x:XI} {s:TS}
end
section
variable {k:Nat} {c:XC} {s S:TS} {x:XI} {out:List Nat} {A:List Int} {q j:Nat}
end
theorem vD (w:Plain G) (n le mo:Int) (mu:Bool) (O:F V K L):Ca G K L 305 [.int .i64 n,.int .i64 le,.int .i64 mo,.bool mu] V <| .bool (fe n le mo mu):=by
 refine VV w Tryz.func305 Z<|UD 9 Z<|I Z (df Z) Z<|Vr 2 Z<|aG Z (fun d=>?_) (fun d=>?_)
 ·have h10b:=de d;refine Vq 9 Z ?_;exact aB Z Z ⟨cB (by unfold fe bC;simp only[h10b,ct,cf]),O⟩
 have h10b:=bT d;refine UF 7 Z<|ky Z (al Z) (fun u=>?_) (fun u=>?_)
 ·refine Vt 8 Z ?_;exact aB Z Z ⟨cB (by unfold fe bC;simp only[h10b,u,ct,cf]),O⟩
 refine Vt 8 Z ?_;exact aB Z Z ⟨cB (by unfold fe bC;simp only[h10b,u,ct,cf]),O⟩
theorem NA {c:Nat} (h:cM (.ofNat c) 48=true):¬(48<=c/\c<=57):=by have:c<48:=bd (b:=48) h;omega
theorem Nz {c:Nat} (h:cM 57 (.ofNat c)=true):¬(48<=c/\c<=57):=by have:57<c:=bd (a:=57) h;omega
theorem sA {c:Nat} (h:cM (.ofNat c) 48=false) (h':cM 57 (.ofNat c)=false):48<=c/\c<=57:=by have:48<=c:=bJ (b:=48) h;have:c<=57:=bJ (a:=57) h';omega
theorem NB {c m:Nat} (h:48<=c/\c<=57) (hm:m<=100000):wr .i64 (Int.add (wr .i64<|Int.mul 10 (.ofNat m))<|wr .i64<|wr .u8<|Int.sub (.ofNat c) 48)= .ofNat (10*m+(c-48)):=by
 have e1:Int.sub (.ofNat c) 48= .ofNat (c-48):=by show(c:Int)-48=((c-48:Nat):Int);omega
 have u:Int.mul 10 (.ofNat m)= .ofNat (10*m):=rfl
 have w:wr .u8 (.ofNat (c-48))= .ofNat (c-48):=by
  show(bif ble (c-48) 255 then _ else _)=_;rw[show ble (c-48) 255=true by rw[nE_];omega];rfl
 have d:∀q:Nat,q<=9223372036854775807->wr .i64 (.ofNat q)= .ofNat q:=fun q hq=>by
  show(bif ble q 9223372036854775807 then _ else _)=_;rw[show ble q 9223372036854775807=true by rw[nE_];exact hq];rfl
 rw[e1,u,w,d _ oM,d _ oM];show wr .i64 (.ofNat (10*m+(c-48)))=_;exact d _ oM
theorem C7 {s:List Nat} (h:s.length=0∨4<s.length∨(1<s.length/\s[0]? =some 48)):qc s=none:=by unfold qc;rw[if_pos h]
theorem pw {s:List Nat} (h:¬(s.length=0∨4<s.length∨(1<s.length/\s[0]? =some 48))):qc s=tK s 0:=by unfold qc;rw[if_neg h]
def Uj (o:Option Nat):Int:=.ofNat (o.getD 0)
theorem Hl:∀i,i<=4->10 ^ i<=10000:=by decide
theorem HF (hG:Plain G) (s:List Nat) (O:F V K L):Ca G K L 353 [.str s] V <| .tuple [.int .i64<|Uj<|qc s,.bool (qc s).isSome]:=by
 refine VV hG Tryz.func353 Z<|UD 10 Z<|I Z (nD Z Z Z Y Z) Z<|vQ 1 Z<|ky Z (al Z) (fun W=>?_) (fun W=>?_)
 ·refine UL 25 Z ?_;exact dh Z Z Z ⟨by rw[C7 (.inl (by have:=AT W;rw[<-cH];exact iJ_ this))];rfl,O⟩
 refine vQ 1 Z<|I Z (nD Z Z Z Y Z) Z<|V7 2 Z<|ky Z (al Z) (fun E=>?_) (fun E=>?_)
 ·refine UL 20 Z ?_;exact dh Z Z Z ⟨by rw[C7 (.inr (.inl (by rw[<-cH];exact bd (a:=4) E)))];rfl,O⟩
 refine vQ 1 Z<|I Z (nD Z Z Z Y Z) Z<|vQ 1 Z<|ky Z (al Z) (fun M=>?_) (fun M=>?_)
 ·refine vQ 1 Z ?_;obtain⟨aa,B⟩:=da (show 0<s.length from by have:=bd (a:=1) M;rw[cH] at this;omega);refine I Z (lP Y Z Z B) Z<|Vr 5 Z<|aG Z (fun Q=>?_) (fun Q=>?_)
  ·refine Vq 8 Z ?_;exact dh Z Z Z ⟨by rw[C7 (.inr (.inr ⟨by rw[<-cH];exact bd (a:=1) M,by rw[B];exact congrArg some<|iJ_<|eqv Q⟩))];rfl,O⟩
  refine UF 4 Z ?_;have hl4:dK s<=4:=bJ (a:=4) E
  have A:¬(s.length=0∨4<s.length∨(1<s.length/\s[0]? =some 48)):=by
   have hl4:=hl4;rw[cH] at hl4;have h9z:s.length≠0:=fun e=>by rw[cH,e] at W;cases W
   rintro (e | e | ⟨_,e⟩)
   ·exact h9z e
   ·omega
   rw[B] at e;cases e;cases Q
  refine TY 7 Z<|I Z (nD Z Z Z Y Z) Z<|UH 4 Z ?_;obtain⟨LL1,O,hLL1⟩:=O.named;refine bk (rg 2 4++rg 26 22) (fun j t V=>∃(i m:Nat),j+i=dK s/\tK s 0=tK (s.drop i) m/\m<10 ^ i/\i<=4/\t.get 4=some (nI m)/\t.get 26=some (nI i)/\F V K LL1) (dK s) ⟨0,0,Z,Z,Nat.one_pos,zero_le _,Z,Z,O⟩ ?_;clear O;intro X t V ar hI;obtain⟨i,m,hj,he,hm,R,S,C,O⟩:=hI;subst hLL1;obtain⟨oo,rfl⟩:=ar.q2 S C Z;refine Vo 6 Z<|aG Z (fun u=>?_) (fun u=>?_)
  ·refine S9 11 Z<|Vp 4 Z ?_;obtain⟨T,d⟩:=da (show i<s.length from by have:=bd u;rwa[cH] at this);refine I Z (lP Y Z Z d) Z<|vQ 1 Z<|ky Z (al Z) (fun w=>?_) (fun w=>?_)
   ·refine Vt 15 Z<|aA<|aK<|aA<|bL<|aK<|aA (?_);exact dh Z Z Z ⟨by rw[pw A,he,uF d<|NA w];rfl,O⟩
   refine V7 2 Z<|I Z (lP Y Z Z d) Z<|Vr 4 Z<|aG Z (fun z=>?_) (fun z=>?_)
   ·refine V5 7 Z<|aA<|aK<|aA<|bL<|aK<|aA (?_);exact dh Z Z Z ⟨by rw[pw A,he,uF d<|Nz z];rfl,O⟩
   refine aH<|V4 5 Z<|I Z (lP Y Z Z d) Z<|vQ 1 Z ?_;refine I Z (iS (j:=.u8) (k:=.i64) Y Y Y Z) Z ?_;refine V6 3 Z (aD (V0 4 Z (aJ ⟨X-1,by have:=bd u;omega,oF,i+1,10*m+(T-48),by have:=bd u;omega,he.trans<|yy d<|sA w z,by have:=sA w z;rw[Nat.pow_succ];omega,by have:=bd u;have:=hl4;omega,cI<|NB (sA w z) (by have:=Hl i R;omega),cI<|aX oM,O⟩)))
  refine UG 3 Z<|aR<|V5 8 Z ?_;exact dh Z Z Z ⟨by rw[pw A,he,yw (by have:=bJ u;rwa[cH] at this)];rfl,O⟩
 refine TZ 12 Z ?_;have hl4:dK s<=4:=bJ (a:=4) E
 have A:¬(s.length=0∨4<s.length∨(1<s.length/\s[0]? =some 48)):=by
  have hl4:=hl4;rw[cH] at hl4;have h9z:s.length≠0:=fun e=>by rw[cH,e] at W;cases W
  have h18z:¬(1<s.length):=by have:=bJ (a:=1) M;rw[cH] at this;omega
  omega
 refine TY 7 Z<|I Z (nD Z Z Z Y Z) Z<|UH 4 Z ?_;obtain⟨LL2,O,hLL2⟩:=O.named;refine bk (rg 2 4++rg 26 22) (fun j t V=>∃(i m:Nat),j+i=dK s/\tK s 0=tK (s.drop i) m/\m<10 ^ i/\i<=4/\t.get 4=some (nI m)/\t.get 26=some (nI i)/\F V K LL2) (dK s) ⟨0,0,Z,Z,Nat.one_pos,zero_le _,Z,Z,O⟩ ?_;clear O;intro X t V ar hI;obtain⟨i,m,hj,he,hm,R,S,C,O⟩:=hI;subst hLL2;obtain⟨oo,rfl⟩:=ar.q2 S C Z;refine Vo 6 Z<|aG Z (fun u=>?_) (fun u=>?_)
 ·refine S9 11 Z<|Vp 4 Z ?_;obtain⟨T,d⟩:=da (show i<s.length from by have:=bd u;rwa[cH] at this);refine I Z (lP Y Z Z d) Z<|vQ 1 Z<|ky Z (al Z) (fun w=>?_) (fun w=>?_)
  ·refine Vt 15 Z<|aA<|aK<|aA<|bL<|aK<|aA (?_);exact dh Z Z Z ⟨by rw[pw A,he,uF d<|NA w];rfl,O⟩
  refine V7 2 Z<|I Z (lP Y Z Z d) Z<|Vr 4 Z<|aG Z (fun z=>?_) (fun z=>?_)
  ·refine V5 7 Z<|aA<|aK<|aA<|bL<|aK<|aA (?_);exact dh Z Z Z ⟨by rw[pw A,he,uF d<|Nz z];rfl,O⟩
  refine aH<|V4 5 Z<|I Z (lP Y Z Z d) Z<|vQ 1 Z ?_;refine I Z (iS (j:=.u8) (k:=.i64) Y Y Y Z) Z ?_;refine V6 3 Z (aD (V0 4 Z (aJ ⟨X-1,by have:=bd u;omega,oF,i+1,10*m+(T-48),by have:=bd u;omega,he.trans<|yy d<|sA w z,by have:=sA w z;rw[Nat.pow_succ];omega,by have:=bd u;have:=hl4;omega,cI<|NB (sA w z) (by have:=Hl i R;omega),cI<|aX oM,O⟩)))
 refine UG 3 Z<|aR<|V5 8 Z ?_;exact dh Z Z Z ⟨by rw[pw A,he,yw (by have:=bJ u;rwa[cH] at this)];rfl,O⟩
theorem QL (hG:Plain G):∀(k:Nat) (x:XE) (vs:List U) (p:U),gH K p vs->vs.length=4->kq K k x vs->∀(deep size:Int) (C e1:Nat) (V:aF) (L:Own),F V K ((C,.row [.int .i64 size] e1 false)::L)->
  EC G 236 [p,.int .i64 deep,.ptr C 0] V fun v V'=>∃s',v= .bool (uq k x deep size).isSome/\F V' K ((C,.row [.int .i64 s'] e1 false)::L)/\∀s,uq k x deep size=some s->s'=s:=by
 intro k;induction k with
 | zero=>intro x vs p _ _ h;cases x;exact h.elim
 | succ k ih=>
 intro x vs p hp hl h deep size C e1 V L O;obtain⟨op,num,name,kids⟩:=x;obtain⟨v,rfl,hk⟩:=h;obtain⟨F_,X⟩:∃F_:XE->Int->Option Int,F_=fun x m=>uq k x (wr .i64<|Int.add deep 1) m:=⟨_,Z⟩
 have hS:uq (k+1) (.mk op num name kids) deep size=bif (bif cM 2000 (wr .i64<|Int.add size 1) then true else cM 32 deep) then none else lE F_ kids (wr .i64<|Int.add size 1):=by rw[X];rfl
 rw[hS];clear hS;refine VV hG Tryz.func236 Z<|Vp 8 Z<|I Z (bV Z) Z<|Wa O 2 [0] Z Z<|I Z (bV Z) Z<|ks O (S1 Z Z Z O.g0 (m:=1) Z Z (cells':=[_]) Z) (fun V O=>?_);refine TY 6 Z<|I Z (bV Z) Z<|Wa O 2 [0] Z Z<|ky Z (al Z) (fun d=>?_) (fun d=>?_)
 ·refine UL 13 Z ?_;exact aB Z Z ⟨_,by rw[d];rfl,O,fun s u=>by rw[d] at u;cases u⟩
 refine Vr 5 Z<|aG Z (fun w=>?_) (fun w=>?_)
 ·refine Vq 7 Z ?_;exact aB Z Z ⟨_,by rw[d,w];rfl,O,fun s u=>by rw[d,w] at u;cases u⟩
 refine TW 6 Z<|I Z (eG hp Z) Z<|bX hp Z Z Z (k:=3) Y (lb Z) (fun _=>Z) (fun am E=>?_);refine I Z (WV O E Z Z) Z (I Z (WT hk Z Z Z (e:=141) Z) Z (UH 4 Z (bk ([6,7]++rg 26 15) (fun j t V=>∃(i:Nat) (m:Int),j+i=kids.length/\lE F_ kids (wr .i64<|Int.add size 1)=lE F_ (kids.drop i) m/\t.get 26=some (nI i)/\F V K ((C,.row [.int .i64 m] e1 false)::L)) (kids.length) ⟨0,_,Z,Z,Z,O⟩ ?_)));clear O;intro j5 t V ar hI;obtain⟨i,m,hj,he,M,O⟩:=hI;obtain⟨oo,rfl⟩:=ar.q1 M Z;refine Vo 6 Z<|aG Z (fun A=>?_) (fun A=>?_)
 ·refine Ta 13 Z<|I Z (eG hp Z) Z<|bX hp Z Z Z (k:=3) Y (lb Z) (fun _=>Z) (fun ao Q=>?_);refine I Z (WV O Q Z Z) Z<|vQ 1 Z ?_;obtain⟨R,z,ab⟩:=dH A;refine WJ (e:=141) (m:=4) hk z Z Z Z Z (fun ap ac S T W=>?_);have hr34raw:=W;refine V7 3 Z<|kw (WQ Z Z Z) (ih R _ _ S T hr34raw _ _ _ _ _ _ O) ?_;rintro _ V ⟨m2,rfl,O,aa⟩;refine I Z (df Z) Z<|Vr 2 Z<|aG Z (fun B=>?_) (fun B=>?_)
  ·refine V5 6 Z<|aK<|aA<|bL<|aK<|aA (?_);exact aB Z Z ⟨_,by rw[d,w];show _=U.bool (lE F_ kids _).isSome;rw[he,xj z (by rw[X];exact de B)];rfl,O,fun s u=>by rw[d,w] at u;rw[show lE F_ kids _=none from by rw[he];exact xj z (by rw[X];exact de B)] at u;cases u⟩
  refine aH (aD (V0 4 Z (aJ ⟨j5-1,by omega,oF,i+1,m2,by omega,(by obtain⟨s,u⟩:=ze_.1 (bT B);rw[he,FB z (show F_ R m=some s from by rw[X];exact u),aa s u]),cI<|aX (by have:=hk.cE;omega),O⟩)))
 refine UG 3 Z<|aR<|V5 6 Z ?_;exact aB Z Z ⟨_,by rw[d,w];show _=U.bool (lE F_ kids _).isSome;rw[he,z0<|bJ A];rfl,O,fun s u=>by rw[d,w] at u;rw[show lE F_ kids _=some m from by rw[he];exact z0<|bJ A] at u;cases u;rfl⟩
theorem FU (hG:Plain G) (bI:Int):∀(k:Nat) (x:XE) (vs:List U) (p:U),gH K p vs->vs.length=4->kq K k x vs->∀(V:aF) (L:Own),F V K L->Ca G K L 306 [p,.int .i64 bI] V (.bool<|hX bI k x):=by
 intro k;induction k with
 | zero=>intro x vs p _ _ h;cases x;exact h.elim
 | succ k ih=>
 intro x vs p hp hl h V L O;obtain⟨op,num,name,kids⟩:=x;obtain⟨v,rfl,hk⟩:=h
 have hS:hX bI (k+1) (.mk op num name kids)=bif N op 1 then(bif bC (cM num 0) then(bif wS name [] then N (.ofNat kids.length) 0 else false) else false) else
  bif N op 2 then(bif (qc name).isSome then(bif cM (Uj<|qc name) bI then(bif N num 0 then N (.ofNat kids.length) 0 else false) else false) else false) else
  bif (bif (bif N op 3 then true else N op 4) then false else(bif cM op 5 then true else cM 16 op)) then false else
  bif (bif bC (N num 0) then true else bif bC (wS name []) then true else bC (N (.ofNat kids.length)<|gx op)) then false else
  kids.all (hX bI k):=by show(bif N op 1 then _ else bif N op 2 then(match qc name with | some n=>_ | none=>false) else _)=_;cases qc name<;>rfl
 rw[hS];clear hS;have R:wS name (List.map UInt8.toNat (ByteArray.mk #[]).data.toList)=wS name []:=rfl;refine VV hG Tryz.func306 Z<|Vo 11 Z<|aL<|Vp 3 Z<|I Z (eG hp Z) Z<|bX hp Z Z Z (k:=0) Y (lb Z) (fun _=>Z) (fun b9 bs=>?_);refine I Z (WV O bs Z Z) Z<|Vr 4 Z<|aG Z (fun Q=>?_) (fun Q=>?_)
 ·refine Vp 3 Z<|I Z (eG hp Z) Z<|bX hp Z Z Z (k:=1) Y (lb Z) (fun _=>Z) (fun ca bt=>?_);refine I Z (WV O bt Z Z) Z<|vQ 1 Z<|ky Z (al Z) (fun a5=>?_) (fun a5=>?_)
  ·refine vQ 1 Z<|I Z (eG hp Z) Z<|bX hp Z Z Z (k:=2) Y (lb Z) (fun _=>Z) (fun cb bv=>?_);refine I Z (WV O bv Z Z) Z<|V7 2 Z<|ky Z (al Z) (fun bq=>?_) (fun bq=>?_)
   ·refine vQ 1 Z<|I Z (eG hp Z) Z<|bX hp Z Z Z (k:=3) Y (lb Z) (fun _=>Z) (fun cc bw=>?_);refine I Z (WV O bw Z Z) Z<|I Z (WT hk Z Z Z (e:=141) Z) Z<|Vt 6 Z<|aK<|aA (?_);exact aB Z Z ⟨cB (by simp only[bC,gx];(try rw[<-R]);simp only[Q,a5,bq,ct,cf]<;>rfl),O⟩
   refine Vt 11 Z<|aK<|aA (?_);exact aB Z Z ⟨cB (by simp only[bC,gx];(try rw[<-R]);simp only[Q,a5,bq,ct,cf]<;>rfl),O⟩
  refine Vt 18 Z<|aK<|aA (?_);exact aB Z Z ⟨cB (by simp only[bC,gx];(try rw[<-R]);simp only[Q,a5,ct,cf]<;>rfl),O⟩
 refine Vp 3 Z<|I Z (eG hp Z) Z<|bX hp Z Z Z (k:=0) Y (lb Z) (fun _=>Z) (fun ce b0=>?_);refine I Z (WV O b0 Z Z) Z<|Vr 4 Z<|aG Z (fun z=>?_) (fun z=>?_)
 ·refine Vp 3 Z<|I Z (eG hp Z) Z<|bX hp Z Z Z (k:=2) Y (lb Z) (fun _=>Z) (fun ch b1=>?_);refine I Z (WV O b1 Z Z) Z<|kx (WQ Z Z Z) (HF hG _ O) (fun V O=>?_);refine UJ 10 Z<|ky Z (al Z) (fun a1=>?_) (fun a1=>?_)
  ·refine V7 4 Z<|ky Z (al Z) (fun a9=>?_) (fun a9=>?_)
   ·refine vQ 1 Z<|I Z (eG hp Z) Z<|bX hp Z Z Z (k:=1) Y (lb Z) (fun _=>Z) (fun ci b2=>?_);refine I Z (WV O b2 Z Z) Z<|V7 2 Z<|ky Z (al Z) (fun br=>?_) (fun br=>?_)
    ·refine vQ 1 Z<|I Z (eG hp Z) Z<|bX hp Z Z Z (k:=3) Y (lb Z) (fun _=>Z) (fun ck b3=>?_);refine I Z (WV O b3 Z Z) Z<|I Z (WT hk Z Z Z (e:=141) Z) Z<|Vt 6 Z<|aK<|aA (?_);exact aB Z Z ⟨cB (by simp only[bC,gx];(try rw[<-R]);simp only[Q,z,a1,a9,br,ct,cf]<;>rfl),O⟩
    refine Vt 11 Z<|aK<|aA (?_);exact aB Z Z ⟨cB (by simp only[bC,gx];(try rw[<-R]);simp only[Q,z,a1,a9,br,ct,cf]<;>rfl),O⟩
   refine Vt 18 Z<|aK<|aA (?_);exact aB Z Z ⟨cB (by simp only[bC,gx];(try rw[<-R]);simp only[Q,z,a1,a9,ct,cf]<;>rfl),O⟩
  refine Vt 23 Z<|aK<|aA (?_);exact aB Z Z ⟨cB (by simp only[bC,gx];(try rw[<-R]);simp only[Q,z,a1,ct,cf]<;>rfl),O⟩
 refine Vp 3 Z<|I Z (eG hp Z) Z<|bX hp Z Z Z (k:=0) Y (lb Z) (fun _=>Z) (fun cl b4=>?_);refine I Z (WV O b4 Z Z) Z<|vQ 1 Z<|ky Z (al Z) (fun B=>?_) (fun B=>?_)
 ·refine UK 14 Z<|UD 4 Z<|I Z (eG hp Z) Z<|bX hp Z Z Z (k:=1) Y (lb Z) (fun _=>Z) (fun b5 ao=>?_);refine I Z (WV O ao Z Z) Z<|vQ 1 Z<|ky Z (al Z) (fun d=>?_) (fun d=>?_)
  ·refine UL 25 Z ?_;exact aB Z Z ⟨cB (by simp only[bC,gx];(try rw[<-R]);simp only[Q,z,B,d,ct,cf]<;>rfl),O⟩
  refine vQ 1 Z<|I Z (eG hp Z) Z<|bX hp Z Z Z (k:=2) Y (lb Z) (fun _=>Z) (fun bb S=>?_);refine I Z (WV O S Z Z) Z<|V7 2 Z<|ky Z (al Z) (fun u=>?_) (fun u=>?_)
  ·refine UL 18 Z ?_;exact aB Z Z ⟨cB (by simp only[bC,gx];(try rw[<-R]);simp only[Q,z,B,d,u,ct,cf]<;>rfl),O⟩
  refine vQ 1 Z<|I Z (eG hp Z) Z<|bX hp Z Z Z (k:=3) Y (lb Z) (fun _=>Z) (fun be T=>?_);refine I Z (WV O T Z Z) Z<|I Z (WT hk Z Z Z (e:=141) Z) Z<|Vr 5 Z<|aG Z (fun A=>?_) (fun A=>?_)
  ·refine Vq 7 Z ?_;exact aB Z Z ⟨cB (by simp only[bC,gx];(try rw[<-R]);simp only[Q,z,B,d,u,A,ct,cf]<;>rfl),O⟩
  refine TW 6 Z<|I Z (eG hp Z) Z<|bX hp Z Z Z (k:=3) Y (lb Z) (fun _=>Z) (fun bi W=>?_);refine I Z (WV O W Z Z) Z<|I Z (WT hk Z Z Z (e:=141) Z) Z<|UH 4 Z ?_;obtain⟨LL1,O,hLL1⟩:=O.named;refine bk ([4,8]++rg 122 13) (fun j t V=>∃(i:Nat),j+i=kids.length/\(kids.take i).all (hX bI k)=true/\t.get 122=some (nI i)/\F V K LL1) (kids.length) ⟨0,Z,Z,Z,O⟩ ?_;clear O;intro a2 t V ar hI;obtain⟨i,hj,ha,X,O⟩:=hI;subst hLL1;obtain⟨oo,rfl⟩:=ar.q1 X Z;refine Vo 6 Z<|aG Z (fun C=>?_) (fun C=>?_)
  ·refine Ta 13 Z<|I Z (eG hp Z) Z<|bX hp Z Z Z (k:=3) Y (lb Z) (fun _=>Z) (fun bj aa=>?_);refine I Z (WV O aa Z Z) Z<|vQ 1 Z ?_;obtain⟨ap,w,a3⟩:=dH C;refine WJ (e:=141) (m:=4) hk w Z Z Z Z (fun bm a4 ab ac am=>?_);have hr130raw:=am;refine vQ 1 Z<|kx (WQ Z Z Z) (ih ap _ _ ab ac hr130raw _ _ O) (fun V O=>?_);refine I Z (df Z) Z<|Vr 2 Z<|aG Z (fun E=>?_) (fun E=>?_)
   ·refine V5 6 Z<|aK<|aA<|bL<|aK<|aA (?_);exact aB Z Z ⟨cB (by rw[mS w<|de E];simp only[bC,gx];(try rw[<-R]);simp only[Q,z,B,d,u,A,ct,cf]<;>rfl),O⟩
   refine aH<|aD<|V0 4 Z<|aJ ⟨a2-1,by omega,oF,i+1,by omega,jn ha w<|bT E,cI<|aX (by have:=hk.cE;omega),O⟩
  refine UG 3 Z<|aR<|V5 6 Z ?_;exact aB Z Z ⟨cB (by rw[fW ha<|bJ C];simp only[bC,gx];(try rw[<-R]);simp only[Q,z,B,d,u,A,ct,cf]<;>rfl),O⟩
 refine vQ 1 Z<|I Z (eG hp Z) Z<|bX hp Z Z Z (k:=0) Y (lb Z) (fun _=>Z) (fun cn b6=>?_);refine I Z (WV O b6 Z Z) Z<|Vr 5 Z<|aG Z (fun M=>?_) (fun M=>?_)
 ·refine V0 3 Z<|aD<|UD 4 Z<|I Z (eG hp Z) Z<|bX hp Z Z Z (k:=1) Y (lb Z) (fun _=>Z) (fun b5 ao=>?_);refine I Z (WV O ao Z Z) Z<|vQ 1 Z<|ky Z (al Z) (fun d=>?_) (fun d=>?_)
  ·refine UL 25 Z ?_;exact aB Z Z ⟨cB (by simp only[bC,gx];(try rw[<-R]);simp only[Q,z,B,M,d,ct,cf]<;>rfl),O⟩
  refine vQ 1 Z<|I Z (eG hp Z) Z<|bX hp Z Z Z (k:=2) Y (lb Z) (fun _=>Z) (fun bb S=>?_);refine I Z (WV O S Z Z) Z<|V7 2 Z<|ky Z (al Z) (fun u=>?_) (fun u=>?_)
  ·refine UL 18 Z ?_;exact aB Z Z ⟨cB (by simp only[bC,gx];(try rw[<-R]);simp only[Q,z,B,M,d,u,ct,cf]<;>rfl),O⟩
  refine vQ 1 Z<|I Z (eG hp Z) Z<|bX hp Z Z Z (k:=3) Y (lb Z) (fun _=>Z) (fun be T=>?_);refine I Z (WV O T Z Z) Z<|I Z (WT hk Z Z Z (e:=141) Z) Z<|Vr 5 Z<|aG Z (fun A=>?_) (fun A=>?_)
  ·refine Vq 7 Z ?_;exact aB Z Z ⟨cB (by simp only[bC,gx];(try rw[<-R]);simp only[Q,z,B,M,d,u,A,ct,cf]<;>rfl),O⟩
  refine TW 6 Z<|I Z (eG hp Z) Z<|bX hp Z Z Z (k:=3) Y (lb Z) (fun _=>Z) (fun bi W=>?_);refine I Z (WV O W Z Z) Z<|I Z (WT hk Z Z Z (e:=141) Z) Z<|UH 4 Z ?_;obtain⟨LL2,O,hLL2⟩:=O.named;refine bk ([4,8]++rg 122 13) (fun j t V=>∃(i:Nat),j+i=kids.length/\(kids.take i).all (hX bI k)=true/\t.get 122=some (nI i)/\F V K LL2) (kids.length) ⟨0,Z,Z,Z,O⟩ ?_;clear O;intro a2 t V ar hI;obtain⟨i,hj,ha,X,O⟩:=hI;subst hLL2;obtain⟨oo,rfl⟩:=ar.q1 X Z;refine Vo 6 Z<|aG Z (fun C=>?_) (fun C=>?_)
  ·refine Ta 13 Z<|I Z (eG hp Z) Z<|bX hp Z Z Z (k:=3) Y (lb Z) (fun _=>Z) (fun bj aa=>?_);refine I Z (WV O aa Z Z) Z<|vQ 1 Z ?_;obtain⟨ap,w,a3⟩:=dH C;refine WJ (e:=141) (m:=4) hk w Z Z Z Z (fun bm a4 ab ac am=>?_);have hr130raw:=am;refine vQ 1 Z<|kx (WQ Z Z Z) (ih ap _ _ ab ac hr130raw _ _ O) (fun V O=>?_);refine I Z (df Z) Z<|Vr 2 Z<|aG Z (fun E=>?_) (fun E=>?_)
   ·refine V5 6 Z<|aK<|aA<|bL<|aK<|aA (?_);exact aB Z Z ⟨cB (by rw[mS w<|de E];simp only[bC,gx];(try rw[<-R]);simp only[Q,z,B,M,d,u,A,ct,cf]<;>rfl),O⟩
   refine aH<|aD<|V0 4 Z<|aJ ⟨a2-1,by omega,oF,i+1,by omega,jn ha w<|bT E,cI<|aX (by have:=hk.cE;omega),O⟩
  refine UG 3 Z<|aR<|V5 6 Z ?_;exact aB Z Z ⟨cB (by rw[fW ha<|bJ C];simp only[bC,gx];(try rw[<-R]);simp only[Q,z,B,M,d,u,A,ct,cf]<;>rfl),O⟩
 refine Vp 3 Z<|I Z (eG hp Z) Z<|bX hp Z Z Z (k:=0) Y (lb Z) (fun _=>Z) (fun cp b7=>?_);refine I Z (WV O b7 Z Z) Z<|vQ 1 Z<|ky Z (al Z) (fun aq=>?_) (fun aq=>?_)
 ·refine Vt 16 Z<|aK<|aA (?_);exact aB Z Z ⟨cB (by simp only[bC,gx];(try rw[<-R]);simp only[Q,z,B,M,aq,ct,cf]<;>rfl),O⟩
 refine vQ 1 Z<|I Z (eG hp Z) Z<|bX hp Z Z Z (k:=0) Y (lb Z) (fun _=>Z) (fun cr b8=>?_);refine I Z (WV O b8 Z Z) Z<|Vr 5 Z<|aG Z (fun a0=>?_) (fun a0=>?_)
 ·refine V5 6 Z<|aK<|aA (?_);exact aB Z Z ⟨cB (by simp only[bC,gx];(try rw[<-R]);simp only[Q,z,B,M,aq,a0,ct,cf]<;>rfl),O⟩
 refine aH<|aD<|UD 4 Z<|I Z (eG hp Z) Z<|bX hp Z Z Z (k:=1) Y (lb Z) (fun _=>Z) (fun b5 ao=>?_);refine I Z (WV O ao Z Z) Z<|vQ 1 Z<|ky Z (al Z) (fun d=>?_) (fun d=>?_)
 ·refine UL 25 Z ?_;exact aB Z Z ⟨cB (by simp only[bC,gx];(try rw[<-R]);simp only[Q,z,B,M,aq,a0,d,ct,cf]<;>rfl),O⟩
 refine vQ 1 Z<|I Z (eG hp Z) Z<|bX hp Z Z Z (k:=2) Y (lb Z) (fun _=>Z) (fun bb S=>?_);refine I Z (WV O S Z Z) Z<|V7 2 Z<|ky Z (al Z) (fun u=>?_) (fun u=>?_)
 ·refine UL 18 Z ?_;exact aB Z Z ⟨cB (by simp only[bC,gx];(try rw[<-R]);simp only[Q,z,B,M,aq,a0,d,u,ct,cf]<;>rfl),O⟩
 refine vQ 1 Z<|I Z (eG hp Z) Z<|bX hp Z Z Z (k:=3) Y (lb Z) (fun _=>Z) (fun be T=>?_);refine I Z (WV O T Z Z) Z<|I Z (WT hk Z Z Z (e:=141) Z) Z<|Vr 5 Z<|aG Z (fun A=>?_) (fun A=>?_)
 ·refine Vq 7 Z ?_;exact aB Z Z ⟨cB (by simp only[bC,gx];(try rw[<-R]);simp only[Q,z,B,M,aq,a0,d,u,A,ct,cf]<;>rfl),O⟩
 refine TW 6 Z<|I Z (eG hp Z) Z<|bX hp Z Z Z (k:=3) Y (lb Z) (fun _=>Z) (fun bi W=>?_);refine I Z (WV O W Z Z) Z<|I Z (WT hk Z Z Z (e:=141) Z) Z<|UH 4 Z ?_;obtain⟨LL3,O,hLL3⟩:=O.named;refine bk ([4,8]++rg 122 13) (fun j t V=>∃(i:Nat),j+i=kids.length/\(kids.take i).all (hX bI k)=true/\t.get 122=some (nI i)/\F V K LL3) (kids.length) ⟨0,Z,Z,Z,O⟩ ?_;clear O;intro a2 t V ar hI;obtain⟨i,hj,ha,X,O⟩:=hI;subst hLL3;obtain⟨oo,rfl⟩:=ar.q1 X Z;refine Vo 6 Z<|aG Z (fun C=>?_) (fun C=>?_)
 ·refine Ta 13 Z<|I Z (eG hp Z) Z<|bX hp Z Z Z (k:=3) Y (lb Z) (fun _=>Z) (fun bj aa=>?_);refine I Z (WV O aa Z Z) Z<|vQ 1 Z ?_;obtain⟨ap,w,a3⟩:=dH C;refine WJ (e:=141) (m:=4) hk w Z Z Z Z (fun bm a4 ab ac am=>?_);have hr130raw:=am;refine vQ 1 Z<|kx (WQ Z Z Z) (ih ap _ _ ab ac hr130raw _ _ O) (fun V O=>?_);refine I Z (df Z) Z<|Vr 2 Z<|aG Z (fun E=>?_) (fun E=>?_)
  ·refine V5 6 Z<|aK<|aA<|bL<|aK<|aA (?_);exact aB Z Z ⟨cB (by rw[mS w<|de E];simp only[bC,gx];(try rw[<-R]);simp only[Q,z,B,M,aq,a0,d,u,A,ct,cf]<;>rfl),O⟩
  refine aH<|aD<|V0 4 Z<|aJ ⟨a2-1,by omega,oF,i+1,by omega,jn ha w<|bT E,cI<|aX (by have:=hk.cE;omega),O⟩
 refine UG 3 Z<|aR<|V5 6 Z ?_;exact aB Z Z ⟨cB (by rw[fW ha<|bJ C];simp only[bC,gx];(try rw[<-R]);simp only[Q,z,B,M,aq,a0,d,u,A,ct,cf]<;>rfl),O⟩
variable {nins:Int} {vs:List U}
def Hs (h:lH):List U:=[.bool h.zS,.bool h.loc,.bool h.order,.bool h.to,nI h.exprs]
def De:List U:=oi.flatMap Hs
structure pJ (G:Cx) (K:KP):Prop where
 gl:ble 1 G.gl=true
 sh:∃e ro,K (posOf 0) (.row De e ro)
theorem pJ.mono {K K':KP} (h:pJ G K) (hk:KP.le K K'):pJ G K':=⟨h.gl,let ⟨e,ro,hh⟩:=h.sh;⟨e,ro,hk _ _ hh⟩⟩
theorem nG {b c:Bool} (h:(!b)=c):(bif b then false else true)=c:=by cases b<;>exact h
theorem Um {n:Nat} {h:lH} (hh:oi[n]? =some h):List.take 5 (List.drop (0+n*5) De)=Hs h:=by
 have hn:n<14:=(gA.1 hh).1
 match n,hn with
 | 0,_ | 1,_ | 2,_ | 3,_ | 4,_ | 5,_ | 6,_ | 7,_ | 8,_ | 9,_ | 10,_ | 11,_ | 12,_ | 13,_=>cases hh;rfl
theorem Un {x:Int} (h1:cM x 1=false) (d:cM 13 x=false):∃(n:Nat) (h:lH),x= .ofNat n/\n<14/\oi[n]? =some h:=by
 rw[eU,decide_eq_false_iff_not] at h1 d;refine⟨x.toNat,oi[x.toNat]'(by show x.toNat<14;omega),by show x=((x.toNat:Nat):Int);omega,by omega,gC _⟩
theorem Kg {bI:Int} {k n:Nat} {x:XI} {h:lH} (h1:cM x.kind 1=false) (d:cM 13 x.kind=false) (hn:x.kind= .ofNat n) (hh:oi[n]? =some h):iO bI nins k x=iC bI nins k x h:=by
 unfold iO;rw[h1,d,hn];show(match oi[n]? with | some h=>_ | none=>false)=_;rw[hh]
theorem Pn {t:PT U} {g:Nat} (h:ble (Nat.succ g) G.gl=true):bz G t (.global g)=some (.ptr (posOf g) 0):=by
 show(bif ble (Nat.succ g) G.gl then _ else _)=_;rw[h];rfl
theorem QK (S:Plain G) (T:pJ G K) {k:Nat} {x:XI} {v:U} {p:U} (hi:bS K 6 (l9 K k) c.ins v) (hp:gH K p vs) (h:l9 K k x vs) (O:F V K L):
  Ca G K L 237 [.agg [.int .i64 c.bI,v],p] V <| .bool (iO c.bI (.ofNat c.ins.length) k x):=by
 obtain⟨w,rfl,hk⟩:=h;refine VV S Tryz.func237 Z<|Vp 2 Z<|kb O (cd Z Z) (fun V b1 O=>?_);refine TY 7 Z<|I Z (eG hp Z) Z<|bX hp Z Z Z (k:=0) Y (lb Z) (fun _=>Z) (fun p9 a9=>?_);refine I Z (WV O a9 Z Z) Z<|vQ 1 Z<|ky Z (al Z) (fun A=>?_) (fun A=>?_)
 ·refine UL 16 Z ?_;exact aB Z Z ⟨cB (by unfold iO;rw[A];rfl),O.pop⟩
 refine vQ 1 Z<|I Z (eG hp Z) Z<|bX hp Z Z Z (k:=0) Y (lb Z) (fun _=>Z) (fun bj W=>?_);refine I Z (WV O W Z Z) Z<|Vr 4 Z<|aG Z (fun M=>?_) (fun M=>?_)
 ·refine Vq 7 Z ?_;exact aB Z Z ⟨cB (by unfold iO;rw[A,show cM 13 x.kind=true from M];rfl),O.pop⟩
 have h17x:cM 13 x.kind=false:=M;refine UF 5 Z<|I Z (eG hp Z) Z<|bX hp Z Z Z (k:=0) Y (lb Z) (fun _=>Z) (fun bm X=>?_);refine I Z (WV O X Z Z) Z ?_;obtain⟨kn,sh,aa,bb,ab⟩:=Un A h17x;obtain⟨eg,rog,dP⟩:=T.sh;have hRX:=Kg (bI:=c.bI) (nins:=.ofNat c.ins.length) (k:=k) A h17x aa ab;refine I Z (eX (n:=14) (e:=338) (m:=5) Y Y (Pn T.gl) (show _=some (U.int .i64 (.ofNat kn)) from cI aa) bb) Z<|I Z (aN Z (O.bY dP) (n:=5) (vs:=Hs sh) Y (by show 0+kn*5+5<=70;omega)<|Um ab) Z (kb O (WU (cs:=[.bool false,.bool false,.bool false,.bool false,J])) (fun V b2 O=>?_));refine ks O (WZ Z Z Z O.g0 Z) (fun V O=>?_);refine UI 3 Z<|ak<|aP (l:=zp [0,1,2,3,4,5,6,7,8,9,10,11,12,13,14,15,16,17,18,19,20,21,22,23,24,25,26,27,28,29,30,31,32,33,34,35,36,37,38,39,40,41,42]) Y Y<|wQ 1 Z<|aj Z Z (eG hp Z) Z<|dU hp Z Z Z Z (k:=1) Y (lb Z) (fun _=>Z) (fun bq ac=>?_);refine aj Z Z (WV O ac Z Z) Z<|Wb O 4 [0,1,0,0] Z Z<|di Z Z (WQ Z Z Z) (fun _=>Z) (vD S _ _ _ _ O) (fun V O=>?_);refine⟨aU,?_⟩;refine aj Z Z (df Z) Z<|fA Z Z (al Z) (fun _=>Z) (fun d=>?_) (fun d=>?_)
 ·refine Vv 41 Z<|aA (?_);exact aB Z Z ⟨cB (by rw[hRX];unfold iC;simp only[bC];simp only[nG d,ct,cf]<;>rfl),O.pop.pop⟩
 refine wQ 1 Z<|aj Z Z (eG hp Z) Z<|dU hp Z Z Z Z (k:=2) Y (lb Z) (fun _=>Z) (fun br am=>?_);refine aj Z Z (WV O am Z Z) Z<|Wb O 2 [1,0] Z Z<|di Z Z (WQ Z Z Z) (fun _=>Z) (vD S _ _ _ _ O) (fun V O=>?_);refine⟨aU,?_⟩;refine aj Z Z (df Z) Z<|wQ 1 Z<|fA Z Z (al Z) (fun _=>Z) (fun u=>?_) (fun u=>?_)
 ·refine Vv 31 Z<|aA (?_);exact aB Z Z ⟨cB (by rw[hRX];unfold iC;simp only[bC];simp only[nG d,nG u,ct,cf]<;>rfl),O.pop.pop⟩
 refine wQ 1 Z<|aj Z Z (eG hp Z) Z<|dU hp Z Z Z Z (k:=3) Y (lb Z) (fun _=>Z) (fun bs ao=>?_);refine aj Z Z (WV O ao Z Z) Z<|Wb O 2 [2,0] Z Z<|di Z Z (WQ Z Z Z) (fun _=>Z) (vD S _ _ _ _ O) (fun V O=>?_);refine⟨aU,?_⟩;refine aj Z Z (df Z) Z<|wQ 1 Z<|fA Z Z (al Z) (fun _=>Z) (fun z=>?_) (fun z=>?_)
 ·refine Vv 21 Z<|aA (?_);exact aB Z Z ⟨cB (by rw[hRX];unfold iC;simp only[bC];simp only[nG d,nG u,nG z,ct,cf]<;>rfl),O.pop.pop⟩
 refine wQ 1 Z<|aj Z Z (eG hp Z) Z<|dU hp Z Z Z Z (k:=4) Y (lb Z) (fun _=>Z) (fun bt ap=>?_);refine aj Z Z (WV O ap Z Z) Z<|Wb O 2 [1,1] Z Z<|aj Z Z (WT hi Z Z Z (e:=125) Z) Z<|Wb O 2 [3,0] Z Z<|di Z Z (WQ Z Z Z) (fun _=>Z) (vD S _ _ _ _ O) (fun V O=>?_);refine⟨aU,?_⟩;refine aj Z Z (df Z) Z<|Vu 3 Z<|aG Z (fun B=>?_) (fun B=>?_)
 ·refine Vq 7 Z ?_;exact aB Z Z ⟨cB (by rw[hRX];unfold iC;simp only[bC];simp only[nG d,nG u,nG z,nG B,ct,cf]<;>rfl),O.pop.pop⟩
 refine UE 3 Z<|ak<|aP (l:=zp [0,1,2,3,4,5,6,7]) Y Y<|wQ 1 Z<|aj Z Z (eG hp Z) Z<|dU hp Z Z Z Z (k:=5) Y (lb Z) (fun _=>Z) (fun bv aq=>?_);refine aj Z Z (WV O aq Z Z) Z<|aj Z Z (WT hk Z Z Z (e:=141) Z) Z<|Wb O 3 [4,0] Z Z<|Vu 2 Z<|aG Z (fun E=>?_) (fun E=>?_)
 ·refine Vq 7 Z ?_;exact aB Z Z ⟨cB (by rw[hRX];unfold iC;simp only[bC];simp only[nG d,nG u,nG z,nG B,E,ct,cf]<;>rfl),O.pop.pop⟩
 refine TW 6 Z<|I Z (eG hp Z) Z<|bX hp Z Z Z (k:=5) Y (lb Z) (fun _=>Z) (fun bw a0=>?_);refine I Z (WV O a0 Z Z) Z<|I Z (WT hk Z Z Z (e:=141) Z) Z<|UH 4 Z ?_;obtain⟨LL1,O,hLL1⟩:=O.named;refine bk ([4,6]++rg 81 14) (fun j t V=>∃(i:Nat),j+i=x.exprs.length/\(x.exprs.take i).all (hX c.bI k)=true/\t.get 81=some (nI i)/\F V K LL1) (x.exprs.length) ⟨0,Z,Z,Z,O⟩ ?_;clear O;intro j9 t V ar hI;obtain⟨i,hj,ha,a1,O⟩:=hI;subst hLL1;obtain⟨oo,rfl⟩:=ar.q1 a1 Z;refine Vo 6 Z<|aG Z (fun Q=>?_) (fun Q=>?_)
 ·refine S9 11 Z<|aP (l:=zp [0,1,2,3,4,5,6,7,8,9]) Y Y<|wQ 1 Z<|aj Z Z (eG hp Z) Z<|dU hp Z Z Z Z (k:=5) Y (lb Z) (fun _=>Z) (fun b0 a2=>?_);refine aj Z Z (WV O a2 Z Z) Z<|wQ 1 Z ?_;obtain⟨b3,C,be⟩:=dH Q;refine WK (e:=141) (m:=4) hk C Z Z Z Z Z (fun b4 bi a3 a4 a5=>?_);have hr89rawx:=a5;refine Wb O 2 [0,1] Z Z<|di Z Z (WQ Z Z Z) (fun _=>Z) (FU S _ _ _ _ _ a3 a4 hr89rawx _ _ O) (fun V O=>?_);refine⟨aU,?_⟩;refine aj Z Z (df Z) Z<|Vu 2 Z<|aG Z (fun R=>?_) (fun R=>?_)
  ·refine V5 6 Z<|aK<|aA<|bL<|aK<|aA (?_);exact aB Z Z ⟨cB (by rw[hRX];unfold iC;rw[mS C<|kJ R];simp only[bC];simp only[nG d,nG u,nG z,nG B,E,ct,cf]<;>rfl),O.pop.pop⟩
  refine aH<|aD<|V0 4 Z<|aJ ⟨j9-1,by omega,oF,i+1,by omega,jn ha C<|ft R,cI<|aX (by have:=hk.cE;omega),O⟩
 refine UG 3 Z<|aR<|V5 6 Z ?_;exact aB Z Z ⟨cB (by rw[hRX];unfold iC;rw[fW ha<|bJ Q];simp only[bC];simp only[nG d,nG u,nG z,nG B,E,ct,cf]<;>rfl),O.pop.pop⟩
theorem BV (hG:Plain G) (b0:pJ G K) {k:Nat} {v:U} (hi:bS K 6 (l9 K k) c.ins v) (O:F V K L):
  Ca G K L 166 [.agg [.int .i64 c.bI,v]] V <| .int .i64 (fq k c):=by
 refine VV hG Tryz.func166 Z<|Vp 2 Z<|kb O (cd Z Z) (fun V b1 O=>?_);refine Ua O 9 [0,0] Z Z<|ky Z (al Z) (fun d=>?_) (fun d=>?_)
 ·refine UL 15 Z ?_;exact aB Z Z ⟨cJ (by symm;unfold fq;rw[d];rfl),O.pop⟩
 refine Wa O 2 [1,0] Z Z<|I Z (WT hi Z Z Z (e:=125) Z) Z<|Vr 4 Z<|aG Z (fun ao=>?_) (fun ao=>?_)
 ·refine Vq 7 Z ?_;exact aB Z Z ⟨cJ (by symm;unfold fq;rw[d,show cM 4000 (.ofNat c.ins.length)=true from ao];rfl),O.pop⟩
 have h15x:cM 4000 (.ofNat c.ins.length)=false:=ao;refine T0 O 7 [1,0] Z Z<|I Z (WT hi Z Z Z (e:=125) Z) Z<|UH 4 Z ?_;obtain⟨LL1,O,hLL1⟩:=O.named;refine bk (rg 2 4++rg 19 25) (fun j t V=>∃(i:Nat),j+i=c.ins.length/\(c.ins.take i).all (z1 k)=true/\t.get 19=some (nI i)/\F V K LL1) (c.ins.length) ⟨0,Z,Z,Z,O⟩ ?_;clear O;intro j4 t V ar hI;obtain⟨i,cr,w,a3,O⟩:=hI;subst hLL1;obtain⟨oo,rfl⟩:=ar.q1 a3 Z;refine Vo 6 Z<|aG Z (fun u=>?_) (fun u=>?_)
 ·refine Ta 12 Z<|Wa O 3 [1,0] Z Z ?_;obtain⟨M,C,b4⟩:=dH u;refine WJ (e:=125) (m:=6) hi C Z Z Z Z (fun cv b5 a4 b6 X=>?_);have hr25rawx:=X;have hr25':=X;obtain⟨cw,rfl,aa⟩:=hr25';refine bX a4 Z Z Z (k:=5) Y (lb Z) (fun _=>Z) (fun cx a5=>?_);refine I Z (WV O a5 Z Z) Z<|I Z (WT aa Z Z Z (e:=141) Z) Z<|UH 4 Z ?_;obtain⟨LL2,O,hLL2⟩:=O.named;refine bk ([2,4,5]++rg 29 14) (fun j t V=>∃(i2:Nat),j+i2=M.exprs.length/\(M.exprs.take i2).all (fun e=>(uq k e 1 0).isSome)=true/\t.get 29=some (nI i2)/\F V K LL2) (M.exprs.length) ⟨0,Z,Z,Z,O⟩ ?_;clear O;intro j7 t V ar hI;obtain⟨i2,c0,a9,bb,O⟩:=hI;subst hLL2;obtain⟨oo,rfl⟩:=ar.q1 bb Z;refine Vo 6 Z<|aG Z (fun ap=>?_) (fun ap=>?_)
  ·refine Ta 12 Z<|kb O (WU (cs:=[J])) (fun V b2 O=>?_);refine ks O (S1 Z Z Z O.g0 (m:=1) Z Z (cells':=[_]) Z) (fun V O=>?_);refine UQ O 7 [1,1] Z Z<|WJ (e:=125) (m:=6) hi C Z Z Z Z (fun c1 b7 be b8 ab=>?_);have hr35rawx:=ab;have hr35':=ab;obtain⟨c2,rfl,bi⟩:=hr35';refine bX be Z Z Z (k:=5) Y (lb Z) (fun _=>Z) (fun c3 bj=>?_);refine I Z (WV O bj Z Z) Z<|vQ 1 Z ?_;obtain⟨c4,Q,b9⟩:=dH ap;refine WJ (e:=141) (m:=4) bi Q Z Z Z Z (fun c5 ca bm bq br=>?_);have hr39rawx:=br;refine kw (WQ Z Z Z) (QL hG _ _ _ _ bm bq hr39rawx _ _ _ _ _ _ O) ?_;rintro _ V ⟨m2,rfl,O,c7⟩;refine I Z (df Z) Z<|Vr 2 Z<|aG Z (fun aq=>?_) (fun aq=>?_)
   ·refine V5 6 Z<|aK<|aA<|bL<|aK<|aK<|aA<|bL<|aK<|aA (?_);exact aB Z Z ⟨cJ (by symm;unfold fq;rw[d,show cM 4000 (.ofNat c.ins.length)=false from h15x,mS C (show z1 k M=false from mS Q (kJ aq))];rfl),O.pop.pop⟩
   refine aH<|aD<|V0 4 Z ?_;have O:=O.pop;refine aJ ⟨j7-1,by omega,oF,i2+1,by omega,jn a9 Q<|ft aq,cI<|aX (by have:=aa.cE;omega),O⟩
  refine UG 3 Z<|aR<|aD<|V0 4 Z<|aJ ⟨j4-1,by omega,oF,i+1,by omega,jn w C (show z1 k M=true from fW a9 (bJ ap)),cI<|aX (by have:=hi.cE;omega),O⟩
 refine UG 3 Z<|aR<|UO O 6 [0,0] Z Z<|ky Z (al Z) (fun z=>?_) (fun z=>?_)
 ·refine UL 15 Z ?_;exact aB Z Z ⟨cJ (by symm;unfold fq;rw[d,show cM 4000 (.ofNat c.ins.length)=false from h15x,fW w<|bJ u,z];rfl),O.pop⟩
 refine Wa O 2 [1,0] Z Z<|I Z (WT hi Z Z Z (e:=125) Z) Z<|Vr 4 Z<|aG Z (fun a0=>?_) (fun a0=>?_)
 ·refine Vq 7 Z ?_;exact aB Z Z ⟨cJ (by symm;unfold fq;rw[d,show cM 4000 (.ofNat c.ins.length)=false from h15x,fW w<|bJ u,z,show N (.ofNat c.ins.length) 0=true from a0];rfl),O.pop⟩
 have h52x:N (.ofNat c.ins.length) 0=false:=a0;refine T0 O 7 [1,0] Z Z<|I Z (WT hi Z Z Z (e:=125) Z) Z<|UH 4 Z ?_;obtain⟨LL3,O,hLL3⟩:=O.named;refine bk ([2,6]++rg 56 11) (fun j t V=>∃(i:Nat),j+i=c.ins.length/\(c.ins.take i).all (iO c.bI (.ofNat c.ins.length) k)=true/\t.get 56=some (nI i)/\F V K LL3) (c.ins.length) ⟨0,Z,Z,Z,O⟩ ?_;clear O;intro b3 t V ar hI;obtain⟨i,cb,A,bs,O⟩:=hI;subst hLL3;obtain⟨oo,rfl⟩:=ar.q1 bs Z;refine Vo 6 Z<|aG Z (fun E=>?_) (fun E=>?_)
 ·refine S9 11 Z<|aP (l:=zp [0,1,2,3,4,5,6]) Y Y<|aj Z Z (W0 Z O.g0 Z) Z<|Wb O 3 [1,0] Z Z ?_;obtain⟨c8,R,cc⟩:=dH E;refine WK (e:=125) (m:=6) hi R Z Z Z Z Z (fun c9 ce bt ch ac=>?_);have hr63rawx:=ac;have hr63':=ac;obtain⟨dd,rfl,ci⟩:=hr63';refine di Z Z (WQ Z Z Z) (fun _=>Z) (QK hG b0 hi bt hr63rawx O) (fun V O=>?_);refine⟨aU,?_⟩;refine aj Z Z (df Z) Z<|Vu 2 Z<|aG Z (fun a1=>?_) (fun a1=>?_)
  ·refine V5 6 Z<|aK<|aA<|bL<|aK<|aA (?_);exact aB Z Z ⟨cJ (by symm;unfold fq;rw[d,show cM 4000 (.ofNat c.ins.length)=false from h15x,fW w<|bJ u,z,show N (.ofNat c.ins.length) 0=false from h52x,mS R<|kJ a1];rfl),O.pop⟩
  refine aH<|aD<|V0 4 Z<|aJ ⟨b3-1,by omega,oF,i+1,by omega,jn A R<|ft a1,cI<|aX (by have:=hi.cE;omega),O⟩
 refine UG 3 Z<|aR<|UO O 7 [1,0,1,0] Z Z<|I Z (WT hi Z Z Z (e:=125) Z) Z<|vQ 1 Z ?_;have ck:0<c.ins.length:=by rcases Nat.eq_zero_or_pos c.ins.length with e | e;rw[e] at h52x;cases h52x;exact e
 obtain⟨T,B⟩:=da (show c.ins.length-1<c.ins.length from by omega);refine WJ (e:=125) (m:=6) hi B Z Z Z (cI<|xV (b:=1) oM hi.cE) (fun dl cl bv cn am=>?_);have hr73rawx:=am;have hr73':=am;obtain⟨dm,rfl,cp⟩:=hr73';refine bX bv Z Z Z (k:=0) Y (lb Z) (fun _=>Z) (fun dr bw=>?_);refine I Z (WV O bw Z Z) Z<|UH 3 Z<|UD 3 Z<|ky Z (ay Z Z Z) (fun S=>?_) (fun S=>?_)
 ·refine UL 13 Z<|aK<|aA (?_);exact aB Z Z ⟨cJ (by symm;unfold fq;rw[d,show cM 4000 (.ofNat c.ins.length)=false from h15x,fW w<|bJ u,z,show N (.ofNat c.ins.length) 0=false from h52x,fW A<|bJ E,B];show(bif mh T then(0:Int) else 2)=_;unfold mh;rw[S];rfl),O.pop⟩
 refine UJ 6 Z<|ky Z (ay Z Z Z) (fun W=>?_) (fun W=>?_)
 ·refine UL 13 Z<|aK<|aA (?_);exact aB Z Z ⟨cJ (by symm;unfold fq;rw[d,show cM 4000 (.ofNat c.ins.length)=false from h15x,fW w<|bJ u,z,show N (.ofNat c.ins.length) 0=false from h52x,fW A<|bJ E,B];show(bif mh T then(0:Int) else 2)=_;unfold mh;rw[S,W];rfl),O.pop⟩
 refine Vs 5 Z<|ky Z (ay Z Z Z) (fun a2=>?_) (fun a2=>?_)
 ·refine Vt 10 Z<|aK<|aA (?_);exact aB Z Z ⟨cJ (by symm;unfold fq;rw[d,show cM 4000 (.ofNat c.ins.length)=false from h15x,fW w<|bJ u,z,show N (.ofNat c.ins.length) 0=false from h52x,fW A<|bJ E,B];show(bif mh T then(0:Int) else 2)=_;unfold mh;rw[S,W,a2];rfl),O.pop⟩
 refine UK 6 Z<|V5 6 Z ?_;exact aB Z Z ⟨cJ (by symm;unfold fq;rw[d,show cM 4000 (.ofNat c.ins.length)=false from h15x,fW w<|bJ u,z,show N (.ofNat c.ins.length) 0=false from h52x,fW A<|bJ E,B];show(bif mh T then(0:Int) else 2)=_;unfold mh;rw[S,W,a2];rfl),O.pop⟩
theorem FT (Q:Plain G) {k:Nat} {x:XI} {a:Nat} (E:a<9223372036854775807) (h:l9 K k x vs) (O:F V K L):
  EC G 304 [.agg vs,nI a] V fun v V'=>∃M,cQ 1 3 g9 (iB x a) v M/\F V' K (M++L):=by
 obtain⟨w,rfl,hk⟩:=h;refine VV Q Tryz.func304 Z<|Vp 2 Z<|kb O (cd Z Z) (fun V b1 O=>?_);refine Ua O 8 [0,0] Z Z<|UH 3 Z<|Vp 2 Z<|ky Z (ay Z Z Z) (fun B=>?_) (fun B=>?_)
 ·refine UQ O 8 [4,0] Z Z<|fg O Z (bR (e:=3) (m:=1) (z:=[J]) (cs:=[_]) Y Y Y Y<|a6 Z Z Z Z bH) (fun _=>Z) (fun V C O=>?_);refine Vt 4 Z<|aK<|aA (?_);exact aB Z Z ⟨[(C,_)],by unfold iB;rw[B];exact lA (xs:=[x.to]) (by simp),O.sub (.cons_cons _ (.cons _ (.refl _)))⟩
 refine UJ 6 Z<|ky Z (ay Z Z Z) (fun d=>?_) (fun d=>?_)
 ·refine UJ 7 Z<|I Z (ay Z Z (show _=some (U.int .i64 (.ofNat (a+1))) from cI (aX E))) Z<|Wa O 2 [4,0] Z Z<|fg O Z (bR (e:=3) (m:=1) (z:=[J]) (cs:=[_,_]) Y Y Y Y<|a6 Z Z Z Z<|a6 Z Z Z Z bH) (fun _=>Z) (fun V C O=>?_);refine Vt 4 Z<|aK<|aA (?_);exact aB Z Z ⟨[(C,_)],by unfold iB;rw[B,d];exact lA (xs:=[.ofNat (a+1),x.to]) (by simp),O.sub (.cons_cons _ (.cons _ (.refl _)))⟩
 refine TY 7 Z<|ky Z (ay Z Z Z) (fun u=>?_) (fun u=>?_)
 ·refine UL 13 Z<|aK<|aA (?_);exact aB Z Z ⟨[],.inl ⟨by unfold iB;rw[B,d,u];rfl,Z,Z⟩,O.pop⟩
 refine Vs 5 Z<|ky Z (ay Z Z Z) (fun A=>?_) (fun A=>?_)
 ·refine Vt 10 Z<|aK<|aA (?_);exact aB Z Z ⟨[],.inl ⟨by unfold iB;rw[B,d,u,A];rfl,Z,Z⟩,O.pop⟩
 refine UK 6 Z<|Vp 3 Z<|I Z (ay Z Z (show _=some (U.int .i64 (.ofNat (a+1))) from cI (aX E))) Z<|fg O Z (bR (e:=3) (m:=1) (z:=[J]) (cs:=[_]) Y Y Y Y<|a6 Z Z Z Z bH) (fun _=>Z) (fun V C O=>?_);refine Vt 4 Z ?_;exact aB Z Z ⟨[(C,_)],by unfold iB;rw[B,d,u,A];exact lA (xs:=[.ofNat (a+1)]) (by simp),O.sub (.cons_cons _ (.cons _ (.refl _)))⟩
theorem SX (d:Plain G) (x y:Int) (O:F V K L):Ca G K L 235 [.int .i64 x,.int .i64 y] V <| .bool false:=by
 refine VV d Tryz.func235 Z<|V5 11 Z ?_;exact aB Z Z ⟨Z,O⟩
theorem Oe (hG:Plain G) {k:Nat} (hc:fK k c) {v:U} (hi:bS K 6 (l9 K k) c.ins v) (O:F V K L):
  EC G 234 [.agg [.int .i64 c.bI,v],.func 235 [] []] V fun v V'=>∃u M,v= .tuple [u,.bool (ik c).isSome]/\qB 1 3 g9 (((ik c).getD []).map .ofNat) u M/\F V' K (M++L):=by
 have hN:∀i,i<c.ins.length->∀to∈eI c i,to<c.ins.length:=xN hc;have hlen:=hc.len;have hpos:=hc.pos;have htot:=FL (c:=c);obtain⟨N_,be⟩:∃N_,N_=2*total (eI c) c.ins.length+2:=⟨_,Z⟩;have hO:ik c=Ea (eI c) N_ (Ec c.ins.length):=by rw[be];rfl
 refine VV hG Tryz.func234 Z<|Vp 2 Z<|kb O (cd Z Z) (fun V b1 O=>?_);refine UQ O 8 [1,0] Z Z<|I Z (WT hi Z Z Z (e:=125) Z) Z<|fg O Z (jd (e:=5) (w:=1) (z:=[gS 0]) Y Y Y Y Z Z oM oM) (fun _=>Z) (fun V b2 O=>?_);rw[gp (f:=gS)] at O;refine UQ O 7 [1,1] Z Z<|I Z (WT hi Z Z Z (e:=125) Z) Z<|fg O Z (jd (e:=3) (w:=8) (z:=[gI 0]) Y Y Y Y Z Z oM oM) (fun _=>Z) (fun V b3 O=>?_);rw[gp (f:=gI)] at O;refine UJ 11 Z (I Z (eF (e:=5) (m:=1) Y Y Z Z hpos) Z (gm O (.there .here) Z (aI Z Z Z O.g1 (m:=1) Y Z (by rw[lM_];simp;omega) Z (cells':=((replicate c.ins.length 0).set 0 1).map (gS))<|dL (f:=gS) (v:=1) (by simp;omega) (by first | omega | rfl)) Z (fun V O=>?_)));refine TY 5 Z<|fg O Z (bR (e:=3) (m:=1) (z:=[J]) (cs:=[_]) Y Y Y Y<|a6 Z Z Z Z bH) (fun _=>Z) (fun V b4 O=>?_);refine UH 4 Z (bk ([4,5]++rg 8 5++rg 24 71) (fun j t V=>∃(s:DS) (u9 u8:U) (Mp Mo:Own),S4 (eI c) c.ins.length s/\jX (eI c) c.ins.length s<=j/\s.out.length+jX (eI c) c.ins.length s<=N_/\Ea (eI c) N_ (Ec c.ins.length)=Ea (eI c) (j+1) s/\qB 1 3 g9 (s.out.map .ofNat) u8 Mo/\qB 1 3 g9 (s.path.map .ofNat) u9 Mp/\t.get 8=some (u8)/\t.get 9=some (u9)/\F V K (Mo++(Mp++((b3,.row (s.gone.map gI) 3 false)::(b2,.row (s.st.map gS) 5 false)::(b1,.row [.int .i64 c.bI,v] 88 false)::L)))) ((N_-1)) ⟨Ec c.ins.length,_,.ax,[(b4,.row [gI 0] 3 false)],[],Gq hpos,by rw[Mw];omega,by rw[Mw];have:(Ec c.ins.length).out.length=0:=rfl;omega,by rw[show N_-1+1=N_ from by omega],.inl ⟨Z,Z,Z⟩,(lA (xs:=[0]) (by simp)).Vj,Z,Z,O⟩ ?_);clear O;intro j6 t V ar hI;obtain⟨s,u9,u8,Mp,Mo,hw,aa,ch,he,hOut,hP,bi,bj,O⟩:=hI;obtain⟨oo,rfl⟩:=ar.q2 bi bj Z;refine UD 4 Z<|I Z (HK hP Z Z Z (e:=3) Y Z) Z<|ky Z (ay Z Z Z) (fun ab=>?_) (fun ab=>?_)
 ·refine Vr 3 Z<|aH<|ad<|aL<|Vp 4 Z<|I Z (HK hP Z Z Z (e:=3) Y Z) Z<|vQ 1 Z ?_;have aq:0<s.path.length:=by have:=bd (a:=0) ab;rwa[pZ] at this
  obtain⟨a,A⟩:∃a,s.path.getLast? =some a:=by cases hq:s.path.getLast? with | none=>(rw[List.getLast?_eq_none_iff.1 hq] at aq;exact absurd aq<|Nat.lt_irrefl _) | some a=>exact⟨a,rfl⟩
  have hla':=Pz A;obtain⟨d,b6⟩:=hw.path a (gB_ hla');obtain⟨g,T⟩:∃g,s.gone[a]? =some g:=⟨_,gC (by rw[hw.uN];exact d)⟩;obtain⟨a0,B⟩:=da d;have ci:s.path.length<=jX (eI c) c.ins.length s:=by unfold jX;omega
  refine WJ (e:=3) (m:=1) (hP.ib (K:=K.qE Mp) fun y hy=>.inr hy) (Sf hla') Z Z Z (cI ((congrArg (fun q=>wr .i64 (Int.sub (.ofNat q) 1))<|pZ s.path).trans<|xV (b:=1) oM oM)) (fun ck b7 a1 b8 a2=>?_);obtain rfl:=a2;refine I Z (WV (O.bB.keeps) a1 Z Z) Z<|UQ O 6 [1] Z Z<|I Z (WS Z O.bB.bB.pop.pop.g0 Z) Z<|vQ 1 Z<|WJ (e:=125) (m:=6) hi B Z Z Z Z (fun cl b9 a3 ca W=>?_);have hr36raw:=W;have hr36':=W;obtain⟨cn,rfl,cb⟩:=hr36';refine I Z (WW O a3 Z Z) Z<|vQ 1 Z<|kw (WQ Z Z Z) (FT hG oM hr36raw O) ?_;rintro cp V ⟨bm,hM39,O⟩;replace O:=O.keeps;have hS39:=hM39.ib (K:=K.qE bm) fun y hy=>.inr hy
  refine TY 8 Z<|I Z (eF (e:=3) (m:=1) Y Y Z Z d) Z<|I Z (av Z O.bB.bB.g0 Y<|gw T (by first | omega | rfl)) Z<|vQ 1 Z<|I Z (WT hS39 Z Z Z (e:=3) Z) Z<|Vr 3 Z<|aG Z (fun ac=>?_) (fun ac=>?_)
  ·refine Vp 4 Z (I Z (eF (e:=5) (m:=1) Y Y Z Z d) Z (gm O (.bE (.bE (.there .here))) Z (aI Z Z Z O.bB.bB.pop.g0 (m:=1) Y Z (by rw[lM_];rw[hw.OE];omega) Z (cells':=((s.st).set a 2).map (gS))<|dL (f:=gS) (v:=2) (by rw[hw.OE];exact d) (by first | omega | rfl)) Z (fun V O=>?_)));refine UJ 6 Z<|fg O Z (bR (e:=3) (m:=1) (z:=[J]) (cs:=[_]) Y Y Y Y<|a6 Z Z Z Z bH) (fun _=>Z) (fun V b5 O=>?_);obtain⟨V,bq,br,C,hOut2,O⟩:=xf (P:=Tryz.prog) (ts:= #[40,40]) (t:=40) (e:=3) (l2:=[ofNat a]) hOut O (gE (xs:=[ofNat a]) (.inr ⟨Z,Z⟩) (by simp)) g9.leaf (by simp) (by simp) (by rw[pZ];omega) Z Y Y Y;rw[show s.out.map ofNat++[ofNat a]=(s.out++[a]).map ofNat from by rw[map_append];rfl] at hOut2;refine I Z (fF Z Z Z Z Y C) Z<|UJ 7 Z<|I Z (HK hP Z Z Z (e:=3) Y Z) Z<|vQ 1 Z ?_;obtain⟨bs,hP2,bt⟩:=hP.Uo (k:=s.path.length-1) (by rw[pZ];omega);rw[Kv] at hP2;refine I Z (bx Z<|bt Y Y Z (show _=some (U.int .i64 (.ofNat (s.path.length-1))) from cI ((congrArg (fun q=>wr .i64 (Int.sub (.ofNat q) 1))<|pZ s.path).trans<|xV (b:=1) oM oM))) Z<|UM 5 Z<|aR ?_;replace O:=O.weaken (KP.dM _ _);have hd:=Js T (MC B (by have:=iJ_ (eqv ac);omega));obtain⟨E,a4,a5⟩:=qQ hw hN A hd;refine aJ ⟨j6-1,by have:1<=j6:=(by unfold jX at aa;omega);omega,oF,_,bs,bq,Mp,br,E,by omega,by omega,by rw[he,show j6+1=(j6-1+1)+1 from by omega];exact yu A hd,hOut2,hP2,Z,Z,O⟩
  refine UF 7 Z<|I Z (eF (e:=3) (m:=1) Y Y Z Z d) Z<|I Z (av Z O.bB.bB.g0 Y<|gw T (by first | omega | rfl)) Z ?_;have bv:g<(iB a0 a).length:=by have h1:=hw.gone a g T;rw[we B] at h1;have:=Gw ac;omega
  obtain⟨cr,X⟩:=da bv;obtain⟨to,rfl,Q,am⟩:=JV hc B X;obtain⟨sv,hv⟩:∃sv,s.st[to]? =some sv:=⟨_,gC (by rw[hw.OE];exact Q)⟩;refine WJ (e:=3) (m:=1) hS39 X Z Z Z Z (fun cv cc a9 ce bb=>?_);obtain rfl:=bb;refine I Z (WV O a9 Z Z) Z<|UJ 7 Z<|I Z (eF (e:=3) (m:=1) Y Y Z Z d) Z<|I Z (av Z O.bB.bB.g0 Y<|gw T (by first | omega | rfl)) Z<|vQ 1 Z<|I Z (eF (e:=3) (m:=1) Y Y Z Z d) Z ?_;refine gm O (.bE (.bE .here)) Z (aI Z Z (show _=some [gI (g+1)] from congrArg (fun z=>some [U.int .i64 z]) (aX (by have h1:=hw.gone a g T;rw[we B] at h1;have:=ES a0 a;omega))) O.bB.bB.g0 (m:=1) Y Z (by rw[lM_];rw[hw.uN];omega) Z (cells':=((s.gone).set a (g+1)).map (gI)) (dL (f:=gI) (v:=(g+1)) (by rw[hw.uN];exact d) (by first | omega | rfl))) Z (fun V O=>?_);refine TY 8 Z<|kx (WQ Z Z Z) (SX hG _ _ O) (fun V O=>?_);refine V7 3 Z<|I Z (eF (e:=5) (m:=1) Y Y Z Z Q) Z<|I Z (av Z O.bB.bB.pop.g0 Y<|gw hv (by first | omega | rfl)) Z<|Vr 4 Z<|aG Z (fun ao=>?_) (fun ao=>?_)
  ·refine bn<|aV<|aR ?_;replace O:=O.weaken (KP.dM _ _);have hd:=Gt T am (by rw[hv];exact congrArg some<|iJ_<|eqv ao);obtain⟨E,a4,a5⟩:=qQ hw hN A hd;refine aJ ⟨j6-1,by have:1<=j6:=(by unfold jX at aa;omega);omega,oF,_,u9,u8,Mp,Mo,E,by omega,by omega,by rw[he,show j6+1=(j6-1+1)+1 from by omega];exact yu A hd,hOut,hP,Z,Z,O⟩
  refine TW 7 Z<|I Z (eF (e:=5) (m:=1) Y Y Z Z Q) Z<|I Z (av Z O.bB.bB.pop.g0 Y<|gw hv (by first | omega | rfl)) Z<|Vr 3 Z<|aG Z (fun ap=>?_) (fun ap=>?_)
  ·refine V5 7 Z<|aA<|aK<|bL<|aK<|aA (?_);have R:ik c=none:=by rw[hO,he];exact Lx A<|Gr T am (by rw[hv];exact congrArg some<|iJ_<|eqv ap)
   replace O:=O.weaken (KP.dM _ _);exact dh Z Z Z ⟨_,[],by rw[R];rfl,by rw[R];exact .inl ⟨Z,Z,Z⟩,O.bB.bB.pop.pop.pop⟩
  refine UF 6 Z (I Z (eF (e:=5) (m:=1) Y Y Z Z Q) Z (gm O (.bE (.bE (.there .here))) Z (aI Z Z Z O.bB.bB.pop.g0 (m:=1) Y Z (by rw[lM_];rw[hw.OE];omega) Z (cells':=((s.st).set to 1).map (gS))<|dL (f:=gS) (v:=1) (by rw[hw.OE];exact Q) (by first | omega | rfl)) Z (fun V O=>?_)));refine Vs 5 Z<|fg O Z (bR (e:=3) (m:=1) (z:=[J]) (cs:=[_]) Y Y Y Y<|a6 Z Z Z Z bH) (fun _=>Z) (fun V b5 O=>?_);replace O:=O.GD;obtain⟨V,bw,b0,C,hP2,O⟩:=xf (P:=Tryz.prog) (ts:= #[40,40]) (t:=40) (e:=3) (l2:=[ofNat to]) hP O (gE (xs:=[ofNat to]) (.inr ⟨Z,Z⟩) (by simp)) g9.leaf (by simp) (by simp) (by rw[pZ];omega) Z Y Y Y;replace O:=O.front;rw[show s.path.map ofNat++[ofNat to]=(s.path++[to]).map ofNat from by rw[map_append];rfl] at hP2;refine I Z (fF Z Z Z Z Y C) Z<|V6 2 Z<|aD ?_;replace O:=O.weaken (KP.dM _ _);have hd:=Gs T am hv (Gw (b:=2) ao) (Gw (b:=1) ap);obtain⟨E,a4,a5⟩:=qQ hw hN A hd;refine aJ ⟨j6-1,by have:1<=j6:=(by unfold jX at aa;omega);omega,oF,_,bw,u8,b0,Mo,E,by omega,by omega,by rw[he,show j6+1=(j6-1+1)+1 from by omega];exact yu A hd,hOut,hP2,Z,Z,O⟩
 refine UM 5 Z<|aY<|aR<|V5 8 Z ?_;have S:ik c=some s.out:=by rw[hO,he];exact Pa (by have:=bJ (a:=0) ab;rw[pZ] at this;omega)
 exact dh Z Z Z ⟨u8,Mo,by rw[S];rfl,by rw[S];exact hOut,O.sub<|cu (.trans (.cons _ (.cons _ (.cons _ (.refl _))))<|List.sublist_append_right _ _)⟩
theorem SR (u:Plain G) (w:pJ G K) {k:Nat} {v:U} (hi:bS K 6 (l9 K k) c.ins v) (O:F V K L):
  Ca G K L 165 [.agg [.int .i64 c.bI,v]] V <| .bool (n7 k c):=by
 refine VV u Tryz.func165 Z<|Vp 2 Z<|kb O (cd Z Z) (fun V b1 O=>?_);refine TY 6 Z<|I Z (W0 Z O.g0 Z) Z<|kx (WQ Z Z Z) (BV u w hi O) (fun V O=>?_);refine Vr 3 Z<|aG Z (fun d=>?_) (fun d=>?_)
 ·refine Vq 7 Z ?_;exact aB Z Z ⟨cB (by unfold n7;rw[show bC (N (fq k c) 0)=true from d];rfl),O.pop⟩
 have z:fq k c=0:=eqv (bT d);refine UF 4 Z<|I Z (W0 Z O.g0 Z) Z<|kw (WQ Z Z Z) (Oe u (Lq z) hi O) ?_;rintro _ V ⟨aa,ab,rfl,hM10,O⟩;refine Vt 14 Z ?_;exact aB Z Z ⟨cB (by unfold n7;rw[show bC (N (fq k c) 0)=false from d];rfl),O.bB.pop⟩
abbrev gZ (n:Int):U:=.int .i64 n
variable {nx:Nat->List Nat}
theorem Pj {w:Nat->Nat} {n:Nat} {out:List Nat} (d:gT nx n out) {i:Nat} (hi:i∈out):R7 w nx out.length i=CL (R7 w nx out.length) (nx i) 0+w i:=by
 obtain⟨q,hq⟩:=gO_ hi;have hl:=(gA.1 hq).1;rw[EH d q i hq _ hl,<-EH d q i hq (out.length+1) oM];rfl
def Stop (s:TS):Prop:=s.asks=true∨s.fin≠0
theorem z3 {k:Nat} {c:XC} {s:TS} {x:XI} (hx:c.ins[s.at_]? =some x) (h:(cS k c s).2=false):Stop (cS k c s).1/\(cS k c s).1.at_=s.at_/\(cS k c s).1.events=s.events:=by
 obtain⟨P,u⟩:∃P:TS×Bool->Prop,P=fun r=>r.2=false->Stop r.1/\r.1.at_=s.at_/\r.1.events=s.events:=⟨_,Z⟩
 have d:∀r:TS×Bool,r.2=true->P r:=fun r h1=>by simp_all
 have hf:∀r:TS×Bool,r.1.fin≠0->r.1.at_=s.at_->r.1.events=s.events->P r:=fun r h1 w h3=>by rw[u];exact fun _=>⟨.inr h1,w,h3⟩
 have:P (cS k c s):=by
  unfold cS;rw[hx];dsimp only;unfold gR;refine cO _ (d _ Z)<|cO _ (d _ Z)<|cO _ (d _ Z)<|cO _ (cO _ (hf _ (show(_:Int)≠0 from fun e=>by cases e) Z Z)<|d _ Z)<|cO _ (cO _ (hf _ (show(_:Int)≠0 from fun e=>by cases e) Z Z)<|d _ Z)<|cO _ (d _ Z)<|cO _ (cO _ (d _ Z)<|d _ Z)<|cO _ (hf _ (show(_:Int)≠0 from fun e=>by cases e) Z Z)<|cO _ (hf _ (show(_:Int)≠0 from fun e=>by cases e) Z Z) ?_;rw[u];exact fun _=>⟨.inl Z,Z,Z⟩
 simp_all
section
variable {k:Nat} {c:XC} {out:List Nat} {P:TS->Prop}
theorem CD (w:fK k c) (d:gT (eI c) c.ins.length out) (z:∀s,P s->s.asks=false->s.at_∈out->P (cS k c s).1):
  ∀(f q:Nat) (s:TS),s.asks=false->out[q]? =some s.at_->q<f->P s->P (v7 k c f s)/\(v7 k c f s).at_∈out/\Stop (v7 k c f s)
 | 0,_,_,_,_,h,_=>absurd h (nZ_ _)
 | f+1,q,s,A,hq,aa,C=>by
  obtain⟨x,hx⟩:=da (d.lt s.at_<|gB_ hq);have hp:=z s C A (gB_ hq);have hk:=BN w A;show P (bif (cS k c s).2 then v7 k c f (cS k c s).1 else(cS k c s).1)/\(bif (cS k c s).2 then v7 k c f (cS k c s).1 else(cS k c s).1).at_∈out/\Stop (bif (cS k c s).2 then v7 k c f (cS k c s).1 else(cS k c s).1);cases B:(cS k c s).2 with
  | true=>
   obtain⟨q',ab,u⟩:=d.Fb q s.at_ hq _ (qi hx B);exact CD w d z f q' _ (hk.2 B) u oM hp
  | false=>
   grind [z3]
theorem Ft (w:fK k c) (B:ik c=some out) (z:gT (eI c) c.ins.length out) (C:∀s,P s->s.asks=false->s.at_∈out->P (cS k c s).1) (E:∀s v,P s->iH c s->s.asks=true->s.at_∈out->P (fm k c s v)):
  ∀(A:List Int) (s:TS),iH c s->P s->s.at_∈out->Stop s->P (kU k c A s)/\(kU k c A s).at_∈out/\Stop (kU k c A s)
 | [],s,_,h,d,h3=>⟨h,d,h3⟩
 | v::r,s,hk,h,d,h3=>by
  show P (bif s.asks then kU k c r (eQ k c s v) else s)/\(bif s.asks then kU k c r (eQ k c s v) else s).at_∈out/\Stop (bif s.asks then kU k c r (eQ k c s v) else s);cases G:s.asks with
  | false=>exact⟨h,d,h3⟩
  | true=>
   obtain⟨q,hq⟩:=gO_ d;obtain⟨q',aa,u⟩:=z.Fb q s.at_ hq _ (yd (k:=k) hk G v);have hl:=(gA.1 u).1;have hf:iK c=out.length:=by unfold iK;rw[B];rfl
   obtain⟨h4,h5,K⟩:=CD w z C (iK c) q' (fm k c s v) Z u oM (E s v h hk G d);exact Ft w B z C E r _ (qG w s v) h4 h5 K
theorem Fv (d:fK k c) (w:ik c=some out) (u:gT (eI c) c.ins.length out) (z:∀s,P s->s.asks=false->s.at_∈out->P (cS k c s).1) (B:∀s v,P s->iH c s->s.asks=true->s.at_∈out->P (fm k c s v))
  (h0:P ⟨0,replicate c.bI.toNat 0,[],0,0,false⟩) (A:List Int):P (fP k c A)/\(fP k c A).at_∈out/\Stop (fP k c A)/\iH c (fP k c A):=by
 obtain⟨q,hq⟩:=gO_ u.zero;have hl:=(gA.1 hq).1;have hf:iK c=out.length:=by unfold iK;rw[w];rfl
 obtain⟨h1,C,h3⟩:=CD d u z (iK c) q ⟨0,replicate c.bI.toNat 0,[],0,0,false⟩ Z hq oM h0;obtain⟨h4,h5,E⟩:=Ft d w u z B A _ (pO d) h1 C h3;exact⟨h4,h5,E,(uk d A _<|pO d).1⟩
theorem Kr {s:TS} {x:XI} (hx:c.ins[s.at_]? =some x):(cS k c s).1.events.length<=s.events.length+wA c s.at_:=by
 have hw:wA c s.at_=wK x.kind:=by unfold wA;rw[hx]
 rw[hw];obtain⟨P,hP⟩:∃P:TS×Bool->Prop,P=fun r=>r.1.events.length<=s.events.length+wK x.kind:=⟨_,Z⟩
 have h0:∀r:TS×Bool,r.1.events=s.events->P r:=fun r h1=>by simp_all
 have h1:∀(r:TS×Bool) (e:cz),wK x.kind=1->r.1.events=s.events++[e]->P r:=fun r e h1 d=>by simp_all
 have hk:∀n:Int,N x.kind n=true->wK n=1->wK x.kind=1:=fun n h d=>by rw[eB,decide_eq_true_iff] at h;rw[h];exact d
 have:P (cS k c s):=by
  unfold cS;rw[hx];dsimp only;unfold gR;refine fD _ (fun _=>h0 _ Z) fun _=>fD _ (fun e=>h1 _ _ (hk _ e Z) Z) fun _=>fD _ (fun e=>h1 _ _ (hk _ e Z) Z) fun _=>(cO _ (cO _ (h0 _ Z)<|h0 _ Z)<|cO _ (cO _ (h0 _ Z)<|h0 _ Z)<|cO _ (h0 _ Z)<|cO _ (cO _ (h0 _ Z)<|h0 _ Z)<|cO _ (h0 _ Z)<|cO _ (h0 _ Z)<|h0 _ Z)
 simp_all
def tv (c:XC) (out:List Nat) (i:Nat):Nat:=R7 (wA c) (eI c) out.length i
theorem vJ (d:gT (eI c) c.ins.length out) {i to:Nat} (hi:i∈out) (u:to∈eI c i):tv c out to+wA c i<=tv c out i:=by
 have h:=Pj (w:=wA c) d hi;unfold tv;rw[h];exact Nat.add_le_add_right (xL (f:=R7 (wA c) (eI c) out.length) u) _
theorem Qq (B:fK k c) (C:ik c=some out) (u:gT (eI c) c.ins.length out) (A:List Int):
  (fP k c A).events.length<=tv c out 0/\((fP k c A).asks=true->(fP k c A).events.length+1<=tv c out 0)/\Stop (fP k c A):=by
 have E:∀s:TS,s.events.length+tv c out s.at_<=tv c out 0->s.asks=false->s.at_∈out->(cS k c s).1.events.length+tv c out (cS k c s).1.at_<=tv c out 0:=by
  intro s h _ hm;obtain⟨x,hx⟩:=da (u.lt s.at_ hm);cases z:(cS k c s).2 with
  | true=>
   have h3:=vJ u hm (qi hx z);have h4:=Kr (k:=k) hx;omega
  | false=>
   grind [z3]
 have G:∀(s:TS) (v:Int),s.events.length+tv c out s.at_<=tv c out 0->iH c s->s.asks=true->s.at_∈out->(fm k c s v).events.length+tv c out (fm k c s v).at_<=tv c out 0:=by
  intro s v h hk w hm;have h3:=vJ u hm (yd (k:=k) hk w v);obtain⟨x,hx,d⟩:=hk w
  have hw:wA c s.at_=1:=by
   unfold wA;rw[hx];show wK x.kind=1;rcases d with e | e | e | e<;>rw[e]<;>rfl
  grind [fm]
 obtain⟨h1,z,h3,h4⟩:=Fv (P:=fun s=>s.events.length+tv c out s.at_<=tv c out 0) B C u E G (by simp_all) A;refine⟨by omega,fun w=>?_,h3⟩;obtain⟨x,hx,d⟩:=h4 w;have h5:=yd (k:=k) h4 w 0;have h6:=vJ u z h5
 have hw:wA c (fP k c A).at_=1:=by
  unfold wA;rw[hx];show wK x.kind=1;rcases d with e | e | e | e<;>rw[e]<;>rfl
 omega
end
variable {rn:Int} {name:List Nat} {tb:Nat} {regv:U}
theorem mK (d:Plain G) (b:Bool) (O:F V K L):Ca G K L 369 [.bool b] V <| .int .i64 (rK b):=by
 refine VV d Tryz.func369 Z<|Vo 11 Z<|aG Z (fun h3=>?_) (fun h3=>?_)
 ·refine Vq 7 Z ?_;exact aB Z Z ⟨by rw[h3];rfl,O⟩
 refine Vq 8 Z ?_;exact aB Z Z ⟨by rw[h3];rfl,O⟩
theorem Rt (u:Plain G) (op a:Int) (O:F V K L):Ca G K L 349 [.int .i64 op,.int .i64 a] V <| .int .i64 (J0 op a):=by
 refine VV u Tryz.func349 Z<|Vo 12 Z<|aG Z (fun d=>?_) (fun d=>?_)
 ·refine Vp 3 Z ?_;refine I Z (iS (j:=.i64) (k:=.u64) Y Y Y Z) Z ?_;refine vQ 1 Z ?_;refine I Z (iS (j:=.u64) (k:=.i64) Y Y Y Z) Z ?_;refine UL 5 Z ?_;exact aB Z Z ⟨cJ (by unfold J0;rw[d];rfl),O⟩
 refine UF 6 Z<|kx (WQ Z Z Z) (mK u _ O) (fun V O=>?_);refine Vt 4 Z ?_;exact aB Z Z ⟨cJ (by unfold J0;rw[d];rfl),O⟩
theorem Og (Q:Plain G) (op a b:Int) (O:F V K L):Ca G K L 350 [.int .i64 op,.int .i64 a,.int .i64 b] V <| .int .i64 (qk op a b):=by
 refine VV Q Tryz.func350 Z<|Vp 8 Z ?_;refine I Z (iS (j:=.i64) (k:=.u64) Y Y Y Z) Z ?_;refine vQ 1 Z ?_;refine I Z (iS (j:=.i64) (k:=.u64) Y Y Y Z) Z ?_;refine TX 11 Z<|Vp 2 Z<|ky Z (ay Z Z Z) (fun d=>?_) (fun d=>?_)
 ·refine UJ 8 Z<|ky Z (al Z) (fun S=>?_) (fun S=>?_)
  ·refine V7 3 Z<|kx (WQ Z Z Z) (mK Q _ O) (fun V O=>?_);refine Vt 4 Z<|aK<|aA (?_);exact aB Z Z ⟨cJ (by unfold qk;simp only[d,ct,cf];simp only[bC];simp only[S,ct,cf]),O⟩
  refine V7 3 Z<|kx (WQ Z Z Z) (mK Q _ O) (fun V O=>?_);refine Vt 4 Z<|aK<|aA (?_);exact aB Z Z ⟨cJ (by unfold qk;simp only[d,ct,cf];simp only[bC];simp only[S,ct,cf]),O⟩
 refine UJ 6 Z<|ky Z (ay Z Z Z) (fun u=>?_) (fun u=>?_)
 ·refine UJ 8 Z<|ky Z (al Z) (fun T=>?_) (fun T=>?_)
  ·refine V7 3 Z<|kx (WQ Z Z Z) (mK Q _ O) (fun V O=>?_);refine Vt 4 Z<|aK<|aA (?_);exact aB Z Z ⟨cJ (by unfold qk;simp only[d,u,ct,cf];simp only[bC];simp only[T,ct,cf]),O⟩
  refine V7 3 Z<|kx (WQ Z Z Z) (mK Q _ O) (fun V O=>?_);refine Vt 4 Z<|aK<|aA (?_);exact aB Z Z ⟨cJ (by unfold qk;simp only[d,u,ct,cf];simp only[bC];simp only[T,ct,cf]),O⟩
 refine UJ 6 Z<|ky Z (ay Z Z Z) (fun w=>?_) (fun w=>?_)
 ·refine UJ 9 Z<|kx (WQ Z Z Z) (mK Q _ O) (fun V O=>?_);refine Vt 4 Z<|aK<|aA (?_);exact aB Z Z ⟨cJ (by unfold qk;simp only[d,u,w,ct,cf]<;>rfl),O⟩
 refine UJ 6 Z<|ky Z (ay Z Z Z) (fun z=>?_) (fun z=>?_)
 ·refine UJ 9 Z<|kx (WQ Z Z Z) (mK Q _ O) (fun V O=>?_);refine Vt 4 Z<|aK<|aA (?_);exact aB Z Z ⟨cJ (by unfold qk;simp only[d,u,w,z,ct,cf]<;>rfl),O⟩
 refine UJ 6 Z<|ky Z (ay Z Z Z) (fun A=>?_) (fun A=>?_)
 ·refine UJ 9 Z<|kx (WQ Z Z Z) (mK Q _ O) (fun V O=>?_);refine Vt 4 Z<|aK<|aA (?_);exact aB Z Z ⟨cJ (by unfold qk;simp only[d,u,w,z,A,ct,cf]<;>rfl),O⟩
 refine UJ 6 Z<|ky Z (ay Z Z Z) (fun B=>?_) (fun B=>?_)
 ·refine UJ 9 Z<|kx (WQ Z Z Z) (mK Q _ O) (fun V O=>?_);refine Vt 4 Z<|aK<|aA (?_);exact aB Z Z ⟨cJ (by unfold qk;simp only[d,u,w,z,A,B,ct,cf]<;>rfl),O⟩
 refine UJ 6 Z<|ky Z (ay Z Z Z) (fun C=>?_) (fun C=>?_)
 ·refine UJ 9 Z ?_;refine I Z (iS (j:=.u64) (k:=.i64) Y Y Y Z) Z ?_;refine Vt 4 Z<|aK<|aA (?_);exact aB Z Z ⟨cJ (by unfold qk;simp only[d,u,w,z,A,B,C,ct,cf]<;>rfl),O⟩
 refine UJ 6 Z<|ky Z (ay Z Z Z) (fun E=>?_) (fun E=>?_)
 ·refine UJ 9 Z ?_;refine I Z (iS (j:=.u64) (k:=.i64) Y Y Y Z) Z ?_;refine Vt 4 Z<|aK<|aA (?_);exact aB Z Z ⟨cJ (by unfold qk;simp only[d,u,w,z,A,B,C,E,ct,cf]<;>rfl),O⟩
 refine UJ 6 Z<|ky Z (ay Z Z Z) (fun M=>?_) (fun M=>?_)
 ·refine UJ 9 Z ?_;refine I Z (iS (j:=.u64) (k:=.i64) Y Y Y Z) Z ?_;refine Vt 4 Z<|aK<|aA (?_);exact aB Z Z ⟨cJ (by unfold qk;simp only[d,u,w,z,A,B,C,E,M,ct,cf]<;>rfl),O⟩
 refine UJ 6 Z<|ky Z (ay Z Z Z) (fun R=>?_) (fun R=>?_)
 ·refine UJ 9 Z ?_;refine I Z (iS (j:=.u64) (k:=.i64) Y Y Y Z) Z ?_;refine Vt 4 Z<|aK<|aA (?_);exact aB Z Z ⟨cJ (by unfold qk;simp only[d,u,w,z,A,B,C,E,M,R,ct,cf]<;>rfl),O⟩
 refine UJ 6 Z<|ky Z (ay Z Z Z) (fun W=>?_) (fun W=>?_)
 ·refine UJ 9 Z ?_;refine I Z (iS (j:=.u64) (k:=.i64) Y Y Y Z) Z ?_;refine Vt 4 Z<|aK<|aA (?_);exact aB Z Z ⟨cJ (by unfold qk;simp only[d,u,w,z,A,B,C,E,M,R,W,ct,cf]<;>rfl),O⟩
 refine UK 6 Z<|Vp 5 Z ?_;refine I Z (iS (j:=.u64) (k:=.i64) Y Y Y Z) Z ?_;refine Vt 4 Z ?_;exact aB Z Z ⟨cJ (by unfold qk;simp only[d,u,w,z,A,B,C,E,M,R,W,ct,cf]<;>rfl),O⟩
theorem VL (hG:Plain G) {l:List Int} {v:U} (hl:bS K 1 g9 l v) (op:Int) (O:F V K L):Ca G K L 291 [.int .i64 op,v] V <| .tuple [.int .i64 (tL op l).1,.int .i64 (tL op l).2]:=by
 refine VV hG Tryz.func291 Z<|Vo 7 Z<|aL<|Vp 4 Z<|ky Z (al Z) (fun S=>?_) (fun S=>?_)
 ·refine V7 5 Z<|I Z (WT hl Z Z Z (e:=2) Z) Z<|Vr 5 Z<|aG Z (fun T=>?_) (fun T=>?_)
  ·refine Vp 4 Z ?_;obtain⟨aq,C⟩:=da (show 0<l.length from by have:=iJ_ (eqv (b:=.ofNat 1) T);omega);refine WJ (e:=2) (m:=1) hl C Z Z Z Z (fun a4 ar W a0 X=>?_);obtain rfl:=X;refine I Z (WV O W Z Z) Z<|kx (WQ Z Z Z) (Rt hG _ _ O) (fun V O=>?_);refine Vt 5 Z<|aK<|aA (?_);exact dh Z Z Z ⟨by rw[show tL op l=(J0 op aq,0) from by unfold tL;simp only[bC];simp only[S,T,ct];rw[C]<;>rfl],O⟩
  refine Vp 4 Z<|ky Z (al Z) (fun d=>?_) (fun d=>?_)
  ·refine V7 3 Z<|ky Z (al Z) (fun u=>?_) (fun u=>?_)
   ·refine vQ 1 Z<|I Z (WT hl Z Z Z (e:=2) Z) Z<|Vr 5 Z<|aG Z (fun w=>?_) (fun w=>?_)
    ·refine ak<|aP (l:=zp [0,1,2,3,4,5,6,7,8,9]) Y Y<|V8 2 Z ?_;have a1:l.length=2:=iJ_ (eqv (b:=.ofNat 2) w);obtain⟨aa,z⟩:=da (show 0<l.length from by omega);obtain⟨ab,A⟩:=da (show 1<l.length from by omega);refine WK (e:=2) (m:=1) hl z Z Z Z Z Z (fun a2 ac E am M=>?_);obtain rfl:=M;refine aj Z Z (WV O E Z Z) Z<|wQ 1 Z<|WK (e:=2) (m:=1) hl A Z Z Z Z Z (fun a3 ao Q ap R=>?_);obtain rfl:=R;refine aj Z Z (WV O Q Z Z) Z<|di Z Z (WQ Z Z Z) (fun _=>Z) (Og hG _ _ _ O) (fun V O=>?_);refine⟨aU,?_⟩;refine Vv 5 Z<|aK<|aA (?_);exact dh Z Z Z ⟨by rw[show tL op l=(qk op aa ab,0) from by unfold tL;simp only[bC];simp only[S,T,d,u,w,ct,cf];rw[z,A]<;>rfl],O⟩
    refine aH<|aD<|V5 7 Z ?_;exact dh Z Z Z ⟨by rw[show tL op l=(0,2) from by unfold tL;simp only[bC];simp only[S,T,d,u,w,ct,cf]]<;>rfl,O⟩
   refine UK 10 Z<|V5 7 Z ?_;exact dh Z Z Z ⟨by rw[show tL op l=(0,2) from by unfold tL;simp only[bC];simp only[S,T,d,u,ct,cf]]<;>rfl,O⟩
  refine UK 14 Z<|V5 7 Z ?_;exact dh Z Z Z ⟨by rw[show tL op l=(0,2) from by unfold tL;simp only[bC];simp only[S,T,d,ct,cf]]<;>rfl,O⟩
 refine V7 3 Z<|ky Z (al Z) (fun B=>?_) (fun B=>?_)
 ·refine vQ 1 Z<|I Z (WT hl Z Z Z (e:=2) Z) Z<|Vr 5 Z<|aG Z (fun T=>?_) (fun T=>?_)
  ·refine Vp 4 Z ?_;obtain⟨aq,C⟩:=da (show 0<l.length from by have:=iJ_ (eqv (b:=.ofNat 1) T);omega);refine WJ (e:=2) (m:=1) hl C Z Z Z Z (fun a4 ar W a0 X=>?_);obtain rfl:=X;refine I Z (WV O W Z Z) Z<|kx (WQ Z Z Z) (Rt hG _ _ O) (fun V O=>?_);refine Vt 5 Z<|aK<|aA (?_);exact dh Z Z Z ⟨by rw[show tL op l=(J0 op aq,0) from by unfold tL;simp only[bC];simp only[S,B,T,ct];rw[C]<;>rfl],O⟩
  refine Vp 4 Z<|ky Z (al Z) (fun d=>?_) (fun d=>?_)
  ·refine V7 3 Z<|ky Z (al Z) (fun u=>?_) (fun u=>?_)
   ·refine vQ 1 Z<|I Z (WT hl Z Z Z (e:=2) Z) Z<|Vr 5 Z<|aG Z (fun w=>?_) (fun w=>?_)
    ·refine ak<|aP (l:=zp [0,1,2,3,4,5,6,7,8,9]) Y Y<|V8 2 Z ?_;have a1:l.length=2:=iJ_ (eqv (b:=.ofNat 2) w);obtain⟨aa,z⟩:=da (show 0<l.length from by omega);obtain⟨ab,A⟩:=da (show 1<l.length from by omega);refine WK (e:=2) (m:=1) hl z Z Z Z Z Z (fun a2 ac E am M=>?_);obtain rfl:=M;refine aj Z Z (WV O E Z Z) Z<|wQ 1 Z<|WK (e:=2) (m:=1) hl A Z Z Z Z Z (fun a3 ao Q ap R=>?_);obtain rfl:=R;refine aj Z Z (WV O Q Z Z) Z<|di Z Z (WQ Z Z Z) (fun _=>Z) (Og hG _ _ _ O) (fun V O=>?_);refine⟨aU,?_⟩;refine Vv 5 Z<|aK<|aA (?_);exact dh Z Z Z ⟨by rw[show tL op l=(qk op aa ab,0) from by unfold tL;simp only[bC];simp only[S,B,T,d,u,w,ct,cf];rw[z,A]<;>rfl],O⟩
    refine aH<|aD<|V5 7 Z ?_;exact dh Z Z Z ⟨by rw[show tL op l=(0,2) from by unfold tL;simp only[bC];simp only[S,B,T,d,u,w,ct,cf]]<;>rfl,O⟩
   refine UK 10 Z<|V5 7 Z ?_;exact dh Z Z Z ⟨by rw[show tL op l=(0,2) from by unfold tL;simp only[bC];simp only[S,B,T,d,u,ct,cf]]<;>rfl,O⟩
  refine UK 14 Z<|V5 7 Z ?_;exact dh Z Z Z ⟨by rw[show tL op l=(0,2) from by unfold tL;simp only[bC];simp only[S,B,T,d,ct,cf]]<;>rfl,O⟩
 refine UJ 12 Z<|ky Z (al Z) (fun d=>?_) (fun d=>?_)
 ·refine V7 3 Z<|ky Z (al Z) (fun u=>?_) (fun u=>?_)
  ·refine vQ 1 Z<|I Z (WT hl Z Z Z (e:=2) Z) Z<|Vr 5 Z<|aG Z (fun w=>?_) (fun w=>?_)
   ·refine ak<|aP (l:=zp [0,1,2,3,4,5,6,7,8,9]) Y Y<|V8 2 Z ?_;have a1:l.length=2:=iJ_ (eqv (b:=.ofNat 2) w);obtain⟨aa,z⟩:=da (show 0<l.length from by omega);obtain⟨ab,A⟩:=da (show 1<l.length from by omega);refine WK (e:=2) (m:=1) hl z Z Z Z Z Z (fun a2 ac E am M=>?_);obtain rfl:=M;refine aj Z Z (WV O E Z Z) Z<|wQ 1 Z<|WK (e:=2) (m:=1) hl A Z Z Z Z Z (fun a3 ao Q ap R=>?_);obtain rfl:=R;refine aj Z Z (WV O Q Z Z) Z<|di Z Z (WQ Z Z Z) (fun _=>Z) (Og hG _ _ _ O) (fun V O=>?_);refine⟨aU,?_⟩;refine Vv 5 Z<|aK<|aA (?_);exact dh Z Z Z ⟨by rw[show tL op l=(qk op aa ab,0) from by unfold tL;simp only[bC];simp only[S,B,d,u,w,ct,cf];rw[z,A]<;>rfl],O⟩
   refine aH<|aD<|V5 7 Z ?_;exact dh Z Z Z ⟨by rw[show tL op l=(0,2) from by unfold tL;simp only[bC];simp only[S,B,d,u,w,ct,cf]]<;>rfl,O⟩
  refine UK 10 Z<|V5 7 Z ?_;exact dh Z Z Z ⟨by rw[show tL op l=(0,2) from by unfold tL;simp only[bC];simp only[S,B,d,u,ct,cf]]<;>rfl,O⟩
 refine UK 14 Z<|V5 7 Z ?_;exact dh Z Z Z ⟨by rw[show tL op l=(0,2) from by unfold tL;simp only[bC];simp only[S,B,d,ct,cf]]<;>rfl,O⟩
theorem SV (hG:Plain G) {s:List Nat} {n:Nat} (hs:qc s=some n) (O:F V K L):Ca G K L 347 [.str s] V <| .tuple [nI n,.nilIface]:=by
 obtain⟨S,ac,w⟩:=Nx hs;have am:dK s=s.length:=cH s;obtain⟨c0,u⟩:=da S;have hd0:=(Ly (i:=0) w u).1;refine VV hG Tryz.func347 Z<|Vp 9 Z<|I Z (nD Z Z Z Y Z) Z<|TY 18 Z<|ky Z (al Z) (fun A=>?_) (fun A=>?_)
 ·refine Vr 7 Z<|aG Z (fun B=>?_) (fun B=>?_)
  ·refine UD 10 Z<|I Z (lP Y Z Z u) Z<|vQ 1 Z<|ky Z (al Z) (fun C=>?_) (fun C=>?_)
   ·exact absurd (iJ_<|eqv (b:=.ofNat 45) C) oM
   refine vQ 1 Z<|I Z (lP Y Z Z u) Z<|Vr 4 Z<|aG Z (fun E=>?_) (fun E=>?_)
   ·exact absurd (iJ_<|eqv (b:=.ofNat 43) E) oM
   refine TW 11 Z<|ML O Z (QU (e:=5) Y Y Y Y Y Z) (fun _=>Z) (fun V b1 O=>?_);refine I Z (oq Z Z Z (e:=5) Y Z) Z<|UH 4 Z ?_;obtain⟨LL1,O,hLL1⟩:=O.named;refine bk ([2,3,6,8]++rg 49 15) (fun j t V=>∃(i m:Nat),j+i=dK s/\tK (s.drop i) m=some n/\m<10 ^ i/\i<=4/\t.get 6=some (nI m)/\t.get 49=some (nI i)/\F V K LL1) (dK s) ⟨0,0,Z,w,Nat.one_pos,zero_le _,Z,Z,O⟩ ?_;clear O;intro T t V ar hI;obtain⟨i,m,hj,he,hm,W,X,M,O⟩:=hI;subst hLL1;obtain⟨oo,rfl⟩:=ar.q2 X M Z;refine Vo 6 Z<|aG Z (fun d=>?_) (fun d=>?_)
   ·refine Ta 6 Z ?_;obtain⟨aa,z⟩:=da (show i<s.length from by have:=bd d;omega);obtain⟨hd,ab⟩:=Ly he z;refine I Z (eF (e:=5) (m:=1) Y Y Z Z<|bd d) Z<|I Z (av Z O.g0 Y<|gw z (by first | omega | rfl)) Z<|UI 17 Z<|aG Z (fun Q=>?_) (fun Q=>?_)
    ·exact absurd (Q.symm.trans<|RN hd) (by decide)
    refine aH<|V4 4 Z ?_;refine I Z (iS (j:=.u8) (k:=.i64) Y Y Y Z) Z ?_;refine V6 3 Z (aD (V0 4 Z (aJ ⟨T-1,by have:=bd d;omega,oF,i+1,10*m+(aa-48),by have:=bd d;omega,ab,by rw[Nat.pow_succ];omega,by have:=bd d;omega,cI<|RQ hd (by have:=Hl i W;omega),cI<|aX oM,O⟩)))
   refine UG 3 Z<|aR<|UD 4 Z<|I Z (lP Y Z Z u) Z<|Vr 3 Z<|aG Z (fun R=>?_) (fun R=>?_)
   ·exact absurd (iJ_<|eqv (b:=.ofNat 45) R) oM
   refine Vq 10 Z<|aA (?_);exact dh Z Z Z ⟨by rw[show m=n from by rw[yw (by have:=bJ d;omega)] at he;exact zs_ he],O.pop⟩
  exact absurd (bJ (b:=19) B) oM
 exact absurd (bJ (a:=0) A) oM
theorem SP (d:Plain G) {s:List Nat} {n:Nat} (u:qc s=some n) (O:F V K L):Ca G K L 290 [.str s] V <| .tuple [nI n,.nilIface]:=by
 refine VV d Tryz.func290 Z<|Vp 9 Z<|kx (WQ Z Z Z) (SV d u O) (fun V O=>?_);refine TY 11 Z ?_;refine I Z (bx (v:=.bool false) Z Y) Z ?_;refine UL 13 Z ?_;exact dh Z Z Z ⟨Z,O⟩
theorem Fk {bI:Int} {k:Nat} {op num:Int} {kids:List XE} (h:hX bI (k+1) (.mk op num name kids)=true) (h1:N op 1=false) (w:N op 2=false):kids.length<=2/\∀x∈kids,hX bI k x=true:=by
 unfold hX at h;rw[h1,w] at h;simp only[cf] at h;generalize aa:(bif (bif N op 3 then true else N op 4) then false else(bif cM op 5 then true else cM 16 op))=z at h;cases z with
 | true=>cases h
 | false=>
  simp only[cf] at h;generalize d:(bif bC (N num 0) then true else bif bC (wS name []) then true else bC (N (.ofNat kids.length)<|gx op))=A at h;cases A with
  | true=>cases h
  | false=>
   simp only[cf] at h;refine⟨?_,aE_.1 h⟩;cases e1:bC (N num 0) with
   | true=>rw[e1] at d;cases d
   | false=>
   cases u:bC (wS name []) with
   | true=>rw[e1,u] at d;cases d
   | false=>
   rw[e1,u] at d;have h3:(kids.length:Int)=gx op:=eqv (bT d);have h4:gx op<=2:=by unfold gx;generalize (bif N op 3 then true else N op 4)=q;cases q<;>decide
   omega
theorem Hq {bI:Int} {k:Nat} {op num:Int} {kids:List XE} (h:hX bI (k+1) (.mk op num name kids)=true) (h1:N op 1=false) (d:N op 2=true):∃n,qc name=some n/\(n:Int)<bI:=by
 unfold hX at h;rw[h1,d] at h;simp only[cf,ct] at h;cases hr:qc name with
 | none=>rw[hr] at h;cases h
 | some n=>
  rw[hr] at h;dsimp only at h;refine⟨n,Z,?_⟩;cases hl:cM (.ofNat n) bI with
  | false=>rw[hl] at h;cases h
  | true=>rw[eU,decide_eq_true_iff] at hl;exact hl
theorem Ds (hG:Plain G) {bI:List Int} (a3:rn<=bI.length) (R:bS K 1 g9 bI regv) {et:Nat} {ro:Bool} {c0 c1 c2 c4 c5 c6 c7:U} (ht:K tb (.row [c0,c1,c2,regv,c4,c5,c6,c7] et ro)):
  ∀(k:Nat) (x:XE) (vs:List U),kq K k x vs->hX rn k x=true->∀(V:aF) (L:Own),F V K L->Ca G K L 219 [.ptr tb 0,.agg vs] V (.int .i64<|oW bI k x):=by
 intro k;induction k with
 | zero=>intro x vs h;cases x;exact h.elim
 | succ k ih=>
 intro x vs h hr V L O;obtain⟨op,num,name,kids⟩:=x;obtain⟨v,rfl,hk⟩:=h;have hS:oW bI (k+1) (.mk op num name kids)=bif N op 1 then num else bif N op 2 then(bI[(qc name).getD 0]?).getD 0 else VU op (kids.map<|oW bI k):=rfl;rw[hS];clear hS;obtain⟨F_,hF⟩:∃F_:XE->Int,F_=oW bI k:=⟨_,Z⟩;rw[<-hF];refine VV hG Tryz.func219 Z<|Vp 2 Z<|kb O (cd Z Z) (fun V b1 O=>?_);refine Ua O 8 [0,0] Z Z<|UH 3 Z<|Vp 2 Z<|ky Z (ay Z Z Z) (fun u=>?_) (fun u=>?_)
 ·refine Vy O 12 [1,0] Z Z<|aK<|aA (?_);exact aB Z Z ⟨cJ (by rw[u];rfl),O.pop⟩
 refine UJ 6 Z<|ky Z (ay Z Z Z) (fun A=>?_) (fun A=>?_)
 ·refine UQ O 8 [2,0] Z Z ?_;obtain⟨rg,S,ao⟩:=Hq hr u A;refine kx (WQ Z Z Z) (SP hG S O) (fun V O=>?_);refine UJ 10 Z<|I Z (bV Z) Z<|I Z (WR 3 Z) Z<|I Z (WS Z (O.bY ht) Z) Z<|vQ 1 Z ?_;obtain⟨ac,E⟩:=da (show rg<bI.length from by omega);refine WJ (e:=2) (m:=1) R E Z Z Z Z (fun a4 ap T aq W=>?_);obtain rfl:=W;refine I Z (WV O T Z Z) Z<|Vt 4 Z<|aK<|aA (?_);exact aB Z Z ⟨cJ (by rw[u,A,S];show ac=(bI[rg]?).getD 0;rw[E];rfl),O.pop⟩
 refine UK 6 Z<|Vp 2 Z<|Wa O 2 [3,0] Z Z<|I Z (WT hk Z Z Z (e:=141) Z) Z ?_;obtain⟨a5,am⟩:=Fk hr u A;refine fg O Z (jd (e:=2) (w:=8) (z:=[gZ 0]) Y Y Y Y Z Z oM oM) (fun _=>Z) (fun V b2 O=>?_);rw[gp (f:=gZ)] at O;rw[<-yI F_ kids] at O;refine Ua O 8 [3,1] Z Z (I Z (WT hk Z Z Z (e:=141) Z) Z (UH 4 Z (bk ([8,9]++rg 40 12) (fun j t V=>∃(i:Nat),j+i=kids.length/\t.get 40=some (nI i)/\F V K ((b2,.row ((nW F_ kids i).map gZ) 2 false)::(b1,.row [.int .i64 op,.int .i64 num,.str name,v] 141 false)::L)) (kids.length) ⟨0,Z,Z,O⟩ ?_)));clear O;intro j9 t V ar hI;obtain⟨i,a9,X,O⟩:=hI;obtain⟨oo,rfl⟩:=ar.q1 X Z;refine Vp 2 Z<|ky Z (ay Z Z Z) (fun d=>?_) (fun d=>?_)
 ·refine TX 8 Z<|Vp 3 Z ?_;obtain⟨B,C,a0⟩:=dH d;refine WJ (e:=141) (m:=4) hk C Z Z Z Z (fun bb a1 aa a2 Q=>?_);have hr43raw:=Q;obtain⟨be,bi,bj,bm,rfl,ab⟩:=Q.shape;refine I Z (WW O aa Z Z) Z<|kb O (bN (cs:=[J,J,.str [],.ax]) Y Y) (fun V b3 O=>?_);refine vQ 1 Z<|bu O Z (S1 Z Z Z O.g0 (m:=4) Z (ah Z<|ah Z<|ah Z<|ah ab.leaf.2 az) (cells':=[_,_,_,_]) Z) Z (fun V O=>?_);refine Vs 6 Z<|I Z (W1 Z O.g0 Z) Z<|kx (WQ Z Z Z) (ih B _ hr43raw (am B<|gB_ C) _ _ O) (fun V O=>?_);refine I Z (eF (e:=2) (m:=1) Y Y Z Z<|bd d) Z ?_;refine gm O (.there .here) Z (aI Z Z (show _=some [gZ<|F_ B] from by rw[hF];rfl) O.g1 (m:=1) Y Z (by rw[lM_];rw[r6 (by have:=bd d;omega)];have:=bd d;omega) Z (cells':=((nW F_ kids i).set i<|F_ B).map (gZ)) (dL (f:=gZ) (v:=(F_ B)) (by rw[r6 (by have:=bd d;omega)];exact bd d) (by first | omega | rfl))) Z (fun V O=>?_);rw[AX C] at O;refine af<|aD<|V0 4 Z ?_;have O:=O.pop;refine aJ ⟨j9-1,by omega,oF,i+1,by omega,cI<|aX (by have:=hk.cE;omega),O⟩
 refine UI 4 Z<|UG 3 Z<|aR<|Vp 2 Z<|Wa O 3 [0,1] Z Z ?_;rw[AW<|bJ d] at O;have hq:=O.keeps (M:=[_]);refine bg Z (aO Z Z (show _=some [U.int .i64 op,U.slice b2 0 (kids.map F_).length (.known (kids.map F_).length)] from by rw[lM_];rfl) Y) (fun _=>Z) (Gd<|VL hG (gE (xs:=kids.map F_) (KP.hH 0 Z) (by rw[lM_];omega)) op hq) (fun V O=>?_);clear hq;refine Vt 14 Z ?_;exact aB Z Z ⟨cJ (by rw[u,A];rfl),O.pop⟩
variable {b1 bt e e1:Nat} {Me:Own}
theorem Be {x:cz} {vb:Nat} (d:K vb (.row (ints x.ints) e false)):bS K 5 jl [x] (.slice vb 0 1 (.known 1)):=
 .inr ⟨vb,0,_,_,e,false,Z,.inr ⟨_,Z,nR_ _⟩,d,by show 0+1*5<=5;omega,by show 1<=_;omega,fun i y hi=>by
  cases i with
  | zero=>simp only[zm_,oJ_] at hi;subst hi;rfl
  | succ i=>simp at hi⟩
theorem vB (T:Plain G) {bI:List Int} (z:rn<=bI.length) (d:bS K 1 g9 bI regv) {et bi W k:Nat} {ro A B:Bool} {X c1 c2 c4 c5 c6 c7 i0 i1 i2 i3 i4 w:U} (ht:K tb (.row [X,c1,c2,regv,c4,c5,c6,c7] et ro)) (C:K bt (.row [.ptr tb 0] e1 A))
  (E:K bi (.row [i0,i1,i2,i3,i4,w] W B)) {es:List XE} {M:XE} (hw:bS K 4 (kq K k) es w) (Q:es[0]? =some M) (R:hX rn k M=true) {V:aF} {L:Own} (O:F V K L):Ca G K L 307 [.ptr bt 0,.ptr bi 0] V <| .int .i64 (oW bI k M):=by
 refine VV T Tryz.func307 Z<|Vo 6 Z<|aP (l:=zp [0,1,2,3,4,5,6]) Y Y<|aj Z Z (WS Z (O.bY C) Z) Z<|aj Z Z (WR 5 Z) Z<|aj Z Z (WS Z (O.bY E) Z) Z<|WK (e:=141) (m:=4) hw Q Z Z Z Z Z (fun p6 aa S ab u=>?_);have hr6raw:=u;obtain⟨o6,n6,s6,v6,rfl,ac⟩:=u.shape;refine aj Z Z (WW O S Z Z) Z<|di Z Z (WQ Z Z Z) (fun _=>Z) (Ds T z d ht _ _ _ hr6raw R _ _ O) (fun V O=>?_);refine⟨aU,?_⟩;refine Vv 4 Z ?_;exact aB Z Z ⟨Z,O⟩
theorem HD (Q:Plain G) {d et:Nat} {u:Bool} {z A R E c6 M:U} (w:K bt (.row [.ptr d 0] e1 u)) (to:Int) (O:F V K ((d,.row [z,A,R,B,C,E,c6,M] et false)::L)):
  EC G 308 [.int .i64 to,.ptr bt 0] V fun v V'=>v= .bool true/\F V' K ((d,.row [z,A,.int .i64 to,B,C,E,c6,M] et false)::L):=by
 refine VV Q Tryz.func308 Z<|Vp 7 Z<|I Z (WS Z (O.bY w) Z) Z<|vQ 1 Z<|I Z (bV Z) Z<|I Z (WR 2 Z) Z<|ks O (S1 Z Z Z O.g0 (m:=1) Z Z (cells':=[_,_,_,_,_,_,_,_]) Z) (fun V O=>?_);refine Vt 8 Z ?_;exact aB Z Z ⟨Z,O⟩
theorem Dr (R:Plain G) {d et:Nat} {u:Bool} {z A E M c6 Q:U} (w:K bt (.row [.ptr d 0] e1 u)) (to:Int) (O:F V K ((d,.row [z,A,B,C,E,M,c6,Q] et false)::L)):
  EC G 309 [.int .i64 to,.ptr bt 0] V fun v V'=>v= .bool false/\F V' K ((d,.row [z,A,B,C,E,M,.int .i64 to,Q] et false)::L):=by
 refine VV R Tryz.func309 Z<|Vp 7 Z<|I Z (WS Z (O.bY w) Z) Z<|vQ 1 Z<|I Z (bV Z) Z<|I Z (WR 6 Z) Z<|ks O (S1 Z Z Z O.g0 (m:=1) Z Z (cells':=[_,_,_,_,_,_,_,_]) Z) (fun V O=>?_);refine Vt 8 Z ?_;exact aB Z Z ⟨Z,O⟩
theorem Rr (R:Plain G) {B S et bon e2:Nat} {C E:Bool} {T W X c4 c5 c6 c7:U} {o2:cU} (d:K bt (.row [.ptr B 0] e1 C)) (u:K bon (.row [.func 308 [] [.ptr bt 0]] e2 E)) (e:cz) {es:List cz} (hO:cQ 5 45 jl es c4 Me) (hlen:es.length<=1000000) {at_:Nat} (aa:at_<1000000)
  (O:F V K ((B,.row [T,W,nI at_,X,c4,c5,c6,c7] et false)::(S,o2)::(Me++L))):
  EC G 310 [.agg [.int .i64 e.kind,.int .i64 e.loc,.int .i64 e.order,.int .i64 e.read,.int .i64 e.write],.ptr bt 0,.ptr bon 0] V fun v V'=>∃ev' Me',v= .bool true/\cQ 5 45 jl (es++[e]) ev' Me'/\F V' K ((B,.row [T,W,nI (at_+1),X,ev',c5,c6,c7] et false)::(S,o2)::(Me'++L)):=by
 refine VV R Tryz.func310 Z<|Vp 2 Z<|kb O (cd Z Z) (fun V b3 O=>?_);refine UI 4 Z (aP (l:=[(0,[]),(1,[]),(2,[]),(3,[]),(4,[]),(5,[]),(6,[]),(7,[0]),(8,[]),(9,[]),(10,[])]) Y Y<|aj Z Z (WS Z (O.bY d) Z) Z<|aj Z Z (WS Z (O.bY d) Z) Z<|aj Z Z (bV Z) Z<|Wb O 2 [4,1] Z Z<|aj Z Z (W2 Z O.g0 Z) Z<|nH O Z Z (bR (e:=45) (m:=5) (z:=[J,J,J,J,J]) (cs:=[_,_,_,_,_]) Y Y Y Y<|a6 Z Z Z Z bH) (fun _=>Z) (fun V b4 O=>?_));replace O:=O.GD (A:=[_,_,_]);obtain⟨V,Q,Me2,w,hO2,O⟩:=jY (P:=Tryz.prog) (ts:= #[90,90]) (t:=90) (e:=45) hO O (Be (x:=e) (.inr ⟨Z,Z⟩)) jl.leaf (by simp) (by simp) oM Z Y Y Y;replace O:=O.front (A:=Me2) (M:=[_,_,_]);refine iI Z Z (fF Z Z Z Z Y w) Z ?_;refine⟨(bf (bo Z Z Z Z Z (WS Z (O.bY d) Z)<|qH _ _) aU),?_⟩;refine aj Z Z (bV Z) Z<|aj Z Z (WR 4 Z) Z<|kK O Z Z (aI Z Z hO2.leaf.1 O.g1 (m:=1) Y Z (lb Z) (ah hO2.leaf.2 az) (cells':=[_,_,_,_,_,_,_,_]) Z) Z (fun V O=>?_);refine⟨aU,?_⟩;refine Vu 2 Z<|ak<|aP (l:=zp [0,1,2,3,4,5,6,7]) Y Y ?_;replace O:=O.pop;refine aj Z Z (WS Z (O.bY u) Z) Z<|aj Z Z (WS Z (O.bY d) Z) Z<|aj Z Z (bV Z) Z<|Wb O 2 [2,0] Z Z<|aj Z Z (ay Z Z (show _=some (U.int .i64 (.ofNat (at_+1))) from cI (aX oM))) Z<|di Z Z (WQ Z Z Z) (fun _=>Z) (HD R d _ O) (fun V O=>?_);refine⟨aU,?_⟩;refine Vv 4 Z ?_;exact aB Z Z ⟨Q,Me2,Z,hO2,O⟩
theorem Of (E:Plain G) {k:Nat} (hc:fK k c) {cv:U} (hi:bS K 6 (l9 K k) c.ins cv) {s:TS} (hs:Wp c s) (bs:s.events.length<=900000) {b2:Nat} {ev:U} (hO:cQ 5 45 jl s.events ev Me)
  (O:F V K ((b1,.row (Hy c cv s b2 ev) 228 false)::(b2,.row (s.bI.map gZ) 2 false)::(Me++L))):
  EC G 238 [.ptr b1 0] V fun v V'=>∃ev' Me',v= .bool (cS k c s).2/\cQ 5 45 jl (cS k c s).1.events ev' Me'/\F V' K ((b1,.row (Hy c cv (cS k c s).1 b2 ev') 228 false)::(b2,.row ((cS k c s).1.bI.map gZ) 2 false)::(Me'++L)):=by
 have hlen:=hc.len;have hat:=hs.at_;obtain⟨x,hx⟩:=da hat;have hrx:=hc.right x (gB_ hx);have ac:c.bI<=s.bI.length:=by have:=hs.bI;have:=hc.IG;omega
 have Q:s.bI.length<=1000:=by have:=hs.bI;have:=hc.C8;omega
 have z:cS k c s=gR k x s:=by unfold cS;rw[hx]
 refine VV E Tryz.func238 Z<|Vp 2 Z<|kb O (cd Z Z) (fun V b3 O=>?_);refine UI 4 Z<|aP (l:=zp [0,1,2,3,4,5,6,7,8,9,10,11,12]) Y Y<|aj Z Z (WS Z O.g0 Z) Z<|aj Z Z (bV Z) Z<|Wb O 4 [0,1,1,0] Z Z<|aj Z Z (bV Z) Z<|Wb O 2 [2,1] Z Z<|WK (e:=125) (m:=6) hi hx Z Z Z Z Z (fun b0 bt bm bv aq=>?_);have hr17raw:=aq;have hr17':=aq;obtain⟨b6,rfl,ar⟩:=hr17';refine aj Z Z (WW O bm Z Z) Z<|mq O Z Z (WU (cs:=[J,J,J,J,J,.ax])) (fun _=>Z) (fun V b4 O=>?_);refine gD O Z Z (S1 Z Z Z O.g0 (m:=6) Z (ah Z<|ah Z<|ah Z<|ah Z<|ah Z<|ah ar.leaf.2 az) (cells':=[_,_,_,_,_,_]) Z) Z (fun V O=>?_);refine⟨aU,?_⟩;refine UN 11 Z<|kb O (WU (cs:=[.nilFunc])) (fun V b5 O=>?_);refine ks O (S1 Z Z Z O.g0 (m:=1) Z Z (cells':=[_]) Z) (fun V O=>?_);refine TY 17 Z ?_;obtain⟨K1,hle,T,O⟩:=O.bF (M:=[_,_,_]);have hbon:=T _ (.head _);have hbi:=T _ (.tail _ (.head _));have hbt:=T _ (.tail _ (.tail _ (.head _)));clear T;dsimp only at hbon hbi hbt;have hw1:=ll hle ar;refine I Z (WR 0 Z) Z<|I Z (WS Z (O.bY hbi) Z) Z<|UH 3 Z<|Vp 2 Z<|ky Z (ay Z Z Z) (fun u=>?_) (fun u=>?_)
 ·refine UI 5 Z (aP (l:=[(0,[]),(1,[]),(2,[]),(3,[]),(4,[]),(5,[]),(6,[]),(7,[0,3,5]),(8,[]),(9,[])]) Y Y<|aj Z Z (WS Z (O.bY hbt) Z) Z<|aj Z Z (bV Z) Z<|Wb O 3 [3,0,1] Z Z<|aj Z Z (WS Z (O.bY hbi) Z) Z<|wQ 1 Z ?_);obtain⟨a0,am,a1⟩:=uL hrx (eqv (b:=.ofNat 1) u) oM;have hq:=O.keeps (M:=[_,_]);refine di Z Z (WQ Z Z Z) (fun _=>Z) (mL (M:=[_,_]) O<|vB E (rn:=c.bI) ac (gE (xs:=s.bI) (KP.hH 1 Z) Q) (KP.hH 0 Z) (KP.dM _ _ _ _ hbt) (KP.dM _ _ _ _ hbi) (ll (KP.dM _ _) hw1) am a1 hq) (fun V O=>?_);clear hq;have hV34:=(fM (k:=k) (bI:=s.bI) am).symm;refine⟨(bf (bo Z Z Z Z Z (WS Z (O.bY hbt) Z)<|qH _ _)<|bf (bo Z Z Z Z Z (WS Z O.g0 Z)<|OP _ _ _ _)<|bf (bo Z Z Z Z Z (WS Z (O.bY hbi) Z)<|eu _ _) aU),?_⟩;obtain⟨rg,bq,bw⟩:=Ny hrx (eqv (b:=.ofNat 1) u) oM;refine aj Z Z (eF (e:=2) (m:=1) Y Y Z (show _=some (U.int .i64 (.ofNat rg)) from cI bq) oM) Z (gn O (.there .here) Z Z (aI Z Z Z O.g1 (m:=1) Y Z (by rw[lM_];omega) Z (cells':=((s.bI).set rg<|oW s.bI k a0).map (gZ)) (dL (f:=gZ) (v:=(oW s.bI k a0)) oM (by first | omega | rfl))) Z (fun V O=>?_));refine⟨aU,?_⟩;refine Vu 2 Z<|ak<|aP (l:=zp [0,1,2,3,4,5,6,7]) Y Y<|aj Z Z (WS Z (O.bY hbon) Z) Z<|aj Z Z (WS Z (O.bY hbt) Z) Z<|aj Z Z (bV Z) Z<|Wb O 2 [2,0] Z Z<|aj Z Z (ay Z Z (show _=some (U.int .i64 (.ofNat (s.at_+1))) from cI (aX oM))) Z<|di Z Z (WQ Z Z Z) (fun _=>Z) (HD E hbt _ O) (fun V O=>?_);refine⟨aU,?_⟩;refine Vv 4 Z<|aK<|aA (?_);have d:cS k c s=({s with bI:=s.bI.set x.zS.toNat (oW s.bI k a0),at_:=s.at_+1},true):=by rw[z];unfold gR;simp only[u,fM am,ct,cf]
  have O:=O.weaken hle;refine aB Z Z ⟨ev,Me,by rw[d],by rw[d];exact hO,?_⟩;rw[d];show F _ _ ((b1,.row [_,_,_,.slice b2 0 (s.bI.set x.zS.toNat _).length (.known (s.bI.set x.zS.toNat _).length),_,_,_,_] 228 false)::(b2,.row ((s.bI.set x.zS.toNat _).map gZ) 2 false)::_);rw[zg_,bq];exact O
 refine UJ 6 Z<|ky Z (ay Z Z Z) (fun w=>?_) (fun w=>?_)
 ·refine UI 5 Z (aP (l:=[(0,[]),(1,[]),(2,[]),(3,[]),(4,[]),(5,[]),(6,[2,4]),(7,[]),(8,[]),(9,[])]) Y Y<|Wb O 2 [2] Z Z<|aj Z Z (WS Z (O.bY hbi) Z) Z<|aj Z Z (WR 3 Z) Z<|aj Z Z (WS Z (O.bY hbi) Z) Z<|wQ 1 Z ?_);obtain⟨br,ao,a2⟩:=uL hrx (eqv (b:=.ofNat 3) w) oM;have hq:=O.keeps (M:=[_,_]);refine di Z Z (WQ Z Z Z) (fun _=>Z) (mL (M:=[_,_]) O<|vB E (rn:=c.bI) ac (gE (xs:=s.bI) (KP.hH 1 Z) Q) (KP.hH 0 Z) (KP.dM _ _ _ _ hbt) (KP.dM _ _ _ _ hbi) (ll (KP.dM _ _) hw1) ao a2 hq) (fun V O=>?_);clear hq;have hV51:=(fM (k:=k) (bI:=s.bI) ao).symm;refine⟨(bf (bo Z Z Z Z Z (WS Z (O.bY hbi) Z)<|eu _ _)<|bf (bo Z Z Z Z Z (WS Z (O.bY hbi) Z)<|eu _ _) aU),?_⟩;refine aj Z Z (WO (places:=[(0,1),(1,1),(2,1),(3,1),(4,1)]) (zero:=[J,J,J,J,J]) (cs:=[_,_,_,_,_]) Z) Z<|ez Z Z (WQ Z Z Z) (fun _=>Z) (Rr E hbt hbon ⟨2,x.loc,x.order,0,oW s.bI k br⟩ hO oM oM O) ?_;rintro _ V ⟨a3,Me2,rfl,hO2,O⟩;refine⟨aU,?_⟩;refine Vv 4 Z<|aK<|aA (?_);have d:cS k c s=({s with events:=s.events++[⟨2,x.loc,x.order,0,oW s.bI k br⟩],at_:=s.at_+1},true):=by rw[z];unfold gR;simp only[u,w,fM ao,ct,cf]
  have O:=O.weaken hle;exact aB Z Z ⟨a3,Me2,by rw[d],by rw[d];exact hO2,by rw[d];exact O⟩
 refine UJ 6 Z<|ky Z (ay Z Z Z) (fun A=>?_) (fun A=>?_)
 ·refine UQ O 8 [3] Z Z (I Z (WS Z (O.bY hbi) Z) Z (I Z (WO (places:=[(0,1),(1,1),(2,1),(3,1),(4,1)]) (zero:=[J,J,J,J,J]) (cs:=[_,_,_,_,_]) Z) Z<|kw (WQ Z Z Z) (Rr E hbt hbon ⟨4,0,x.order,0,0⟩ hO oM oM O) ?_));rintro _ V ⟨a3,Me2,rfl,hO2,O⟩;refine Vt 4 Z<|aK<|aA (?_);have d:cS k c s=({s with events:=s.events++[⟨4,0,x.order,0,0⟩],at_:=s.at_+1},true):=by rw[z];unfold gR;simp only[u,w,A,ct,cf]
  have O:=O.weaken hle;exact aB Z Z ⟨a3,Me2,by rw[d],by rw[d];exact hO2,by rw[d];exact O⟩
 refine UJ 6 Z<|ky Z (ay Z Z Z) (fun B=>?_) (fun B=>?_)
 ·refine TY 8 Z ?_;obtain⟨b7,W,a4⟩:=uL hrx (eqv (b:=.ofNat 8) B) oM;have hq:=O.keeps (M:=[_,_]);refine kx (WQ Z Z Z) (mL (M:=[_,_]) O<|vB E (rn:=c.bI) ac (gE (xs:=s.bI) (KP.hH 1 Z) Q) (KP.hH 0 Z) (KP.dM _ _ _ _ hbt) (KP.dM _ _ _ _ hbi) (ll (KP.dM _ _) hw1) W a4 hq) (fun V O=>?_);clear hq;have hV64:=(fM (k:=k) (bI:=s.bI) W).symm;refine Vr 3 Z<|aG Z (fun a5=>?_) (fun a5=>?_)
  ·refine Vp 3 Z<|kx (WQ Z Z Z) (Dr E hbt _ O) (fun V O=>?_);refine Vt 4 Z<|aA<|aK<|aA (?_);have d:cS k c s=({s with fin:=2},false):=by rw[z];unfold gR;simp only[u,w,A,B,fM W,a5,ct,cf]
   have O:=O.weaken hle;exact aB Z Z ⟨ev,Me,by rw[d],by rw[d];exact hO,by rw[d];exact O⟩
  refine UE 3 Z<|aP (l:=zp [0,1,2,3,4,5,6,7]) Y Y<|aj Z Z (WS Z (O.bY hbon) Z) Z<|aj Z Z (WS Z (O.bY hbt) Z) Z<|aj Z Z (bV Z) Z<|Wb O 2 [2,0] Z Z<|aj Z Z (ay Z Z (show _=some (U.int .i64 (.ofNat (s.at_+1))) from cI (aX oM))) Z<|di Z Z (WQ Z Z Z) (fun _=>Z) (HD E hbt _ O) (fun V O=>?_);refine⟨aU,?_⟩;refine Vv 4 Z<|aK<|aA (?_);have d:cS k c s=({s with at_:=s.at_+1},true):=by rw[z];unfold gR;simp only[u,w,A,B,fM W,a5,ct,cf]
  have O:=O.weaken hle;exact aB Z Z ⟨ev,Me,by rw[d],by rw[d];exact hO,by rw[d];exact O⟩
 refine UJ 6 Z<|ky Z (ay Z Z Z) (fun C=>?_) (fun C=>?_)
 ·refine TY 8 Z ?_;obtain⟨b8,X,a9⟩:=uL hrx (eqv (b:=.ofNat 9) C) oM;have hq:=O.keeps (M:=[_,_]);refine kx (WQ Z Z Z) (mL (M:=[_,_]) O<|vB E (rn:=c.bI) ac (gE (xs:=s.bI) (KP.hH 1 Z) Q) (KP.hH 0 Z) (KP.dM _ _ _ _ hbt) (KP.dM _ _ _ _ hbi) (ll (KP.dM _ _) hw1) X a9 hq) (fun V O=>?_);clear hq;have hV78:=(fM (k:=k) (bI:=s.bI) X).symm;refine Vr 3 Z<|aG Z (fun bb=>?_) (fun bb=>?_)
  ·refine Vp 3 Z<|kx (WQ Z Z Z) (Dr E hbt _ O) (fun V O=>?_);refine Vt 4 Z<|aA<|aK<|aA (?_);have d:cS k c s=({s with fin:=3},false):=by rw[z];unfold gR;simp only[u,w,A,B,C,fM X,bb,ct,cf]
   have O:=O.weaken hle;exact aB Z Z ⟨ev,Me,by rw[d],by rw[d];exact hO,by rw[d];exact O⟩
  refine UE 3 Z<|aP (l:=zp [0,1,2,3,4,5,6,7]) Y Y<|aj Z Z (WS Z (O.bY hbon) Z) Z<|aj Z Z (WS Z (O.bY hbt) Z) Z<|aj Z Z (bV Z) Z<|Wb O 2 [2,0] Z Z<|aj Z Z (ay Z Z (show _=some (U.int .i64 (.ofNat (s.at_+1))) from cI (aX oM))) Z<|di Z Z (WQ Z Z Z) (fun _=>Z) (HD E hbt _ O) (fun V O=>?_);refine⟨aU,?_⟩;refine Vv 4 Z<|aK<|aA (?_);have d:cS k c s=({s with at_:=s.at_+1},true):=by rw[z];unfold gR;simp only[u,w,A,B,C,fM X,bb,ct,cf]
  have O:=O.weaken hle;exact aB Z Z ⟨ev,Me,by rw[d],by rw[d];exact hO,by rw[d];exact O⟩
 refine UJ 6 Z<|ky Z (ay Z Z Z) (fun R=>?_) (fun R=>?_)
 ·refine UJ 6 Z<|I Z (WS Z (O.bY hbon) Z) Z<|I Z (WR 4 Z) Z<|I Z (WS Z (O.bY hbi) Z) Z<|kx (WQ Z Z Z) (HD E hbt _ O) (fun V O=>?_);refine Vt 4 Z<|aK<|aA (?_);have d:cS k c s=({s with at_:=x.to.toNat},true):=by rw[z];unfold gR;simp only[u,w,A,B,C,R,ct,cf]
  have O:=O.weaken hle;refine aB Z Z ⟨ev,Me,by rw[d],by rw[d];exact hO,?_⟩;rw[d];obtain⟨rt,be,_⟩:=Ro hrx (eqv (b:=.ofNat 10) R) oM;rw[be] at O⊢;exact O
 refine UJ 6 Z<|ky Z (ay Z Z Z) (fun S=>?_) (fun S=>?_)
 ·refine TY 8 Z ?_;obtain⟨b9,aa,bi⟩:=uL hrx (eqv (b:=.ofNat 11) S) oM;have hq:=O.keeps (M:=[_,_]);refine kx (WQ Z Z Z) (mL (M:=[_,_]) O<|vB E (rn:=c.bI) ac (gE (xs:=s.bI) (KP.hH 1 Z) Q) (KP.hH 0 Z) (KP.dM _ _ _ _ hbt) (KP.dM _ _ _ _ hbi) (ll (KP.dM _ _) hw1) aa bi hq) (fun V O=>?_);clear hq;have hV98:=(fM (k:=k) (bI:=s.bI) aa).symm;refine Vr 3 Z<|aG Z (fun bj=>?_) (fun bj=>?_)
  ·refine Vp 2 Z<|I Z (WS Z (O.bY hbon) Z) Z<|I Z (WR 4 Z) Z<|I Z (WS Z (O.bY hbi) Z) Z<|kx (WQ Z Z Z) (HD E hbt _ O) (fun V O=>?_);refine Vt 4 Z<|aA<|aK<|aA (?_);have d:cS k c s=({s with at_:=x.to.toNat},true):=by rw[z];unfold gR;simp only[u,w,A,B,C,R,S,fM aa,bj,ct,cf]
   have O:=O.weaken hle;refine aB Z Z ⟨ev,Me,by rw[d],by rw[d];exact hO,?_⟩;rw[d];obtain⟨rt,be,_⟩:=Ro hrx (eqv (b:=.ofNat 11) S) oM;rw[be] at O⊢;exact O
  refine UE 3 Z<|aP (l:=zp [0,1,2,3,4,5,6,7]) Y Y<|aj Z Z (WS Z (O.bY hbon) Z) Z<|aj Z Z (WS Z (O.bY hbt) Z) Z<|aj Z Z (bV Z) Z<|Wb O 2 [2,0] Z Z<|aj Z Z (ay Z Z (show _=some (U.int .i64 (.ofNat (s.at_+1))) from cI (aX oM))) Z<|di Z Z (WQ Z Z Z) (fun _=>Z) (HD E hbt _ O) (fun V O=>?_);refine⟨aU,?_⟩;refine Vv 4 Z<|aK<|aA (?_);have d:cS k c s=({s with at_:=s.at_+1},true):=by rw[z];unfold gR;simp only[u,w,A,B,C,R,S,fM aa,bj,ct,cf]
  have O:=O.weaken hle;exact aB Z Z ⟨ev,Me,by rw[d],by rw[d];exact hO,by rw[d];exact O⟩
 refine UJ 6 Z<|ky Z (ay Z Z Z) (fun ab=>?_) (fun ab=>?_)
 ·refine UJ 7 Z<|kx (WQ Z Z Z) (Dr E hbt _ O) (fun V O=>?_);refine Vt 4 Z<|aK<|aA (?_);have d:cS k c s=({s with fin:=4},false):=by rw[z];unfold gR;simp only[u,w,A,B,C,R,S,ab,ct,cf]
  have O:=O.weaken hle;exact aB Z Z ⟨ev,Me,by rw[d],by rw[d];exact hO,by rw[d];exact O⟩
 refine UJ 6 Z<|ky Z (ay Z Z Z) (fun ap=>?_) (fun ap=>?_)
 ·refine UJ 7 Z<|kx (WQ Z Z Z) (Dr E hbt _ O) (fun V O=>?_);refine Vt 4 Z<|aK<|aA (?_);have d:cS k c s=({s with fin:=1},false):=by rw[z];unfold gR;simp only[u,w,A,B,C,R,S,ab,ap,ct,cf]
  have O:=O.weaken hle;exact aB Z Z ⟨ev,Me,by rw[d],by rw[d];exact hO,by rw[d];exact O⟩
 refine UK 6 Z<|Vp 2 Z<|I Z (WS Z (O.bY hbt) Z) Z<|I Z (bV Z) Z<|I Z (WR 7 Z) Z<|ks O (S1 Z Z Z O.g0 (m:=1) Z Z (cells':=[_,_,_,_,_,_,_,_]) Z) (fun V O=>?_);refine Vt 8 Z ?_;have d:cS k c s=({s with asks:=true},false):=by rw[z];unfold gR;simp only[u,w,A,B,C,R,S,ab,ap,ct,cf]
 have O:=O.weaken hle;exact aB Z Z ⟨ev,Me,by rw[d],by rw[d];exact hO,by rw[d];exact O⟩
variable {lv:U}
theorem Rq (hG:Plain G) {k:Nat} {cv:U} (hi:bS K 6 (l9 K k) c.ins cv) {at_:Nat} {bI:List Int} (R:c.bI<=bI.length) {x:XI} (hx:c.ins[at_]? =some x) (am:iO c.bI (.ofNat c.ins.length) k x=true) (z:bS K 1 g9 bI regv) {et:Nat} {ro:Bool} {c0 c4 c5 c6 c7:U} (T:K tb (.row [c0,cv,nI at_,regv,c4,c5,c6,c7] et ro))
  {V:aF} {L:Own} (O:F V K L):Ca G K L 142 [.ptr tb 0] V <| .agg (ints (I9 k x bI).ints):=by
 obtain⟨_,sh,_,_,_,_,ao⟩:=ke am;have hall:=(lC ao).all;refine VV hG Tryz.func142 Z<|Vp 2 Z<|kb O (WU (cs:=[J,J,J,J,J])) (fun V b1 O=>?_);refine UI 3 Z<|aP (l:=zp [0,1,2,3,4,5,6,7,8,9,10,11,12]) Y Y<|wQ 1 Z<|aj Z Z (bV Z) Z<|Wb O 2 [0,1] Z Z<|aj Z Z (WS Z (O.bY T) Z) Z<|wQ 1 Z<|aj Z Z (bV Z) Z<|aj Z Z (WR 2 Z) Z<|aj Z Z (WS Z (O.bY T) Z) Z<|WK (e:=125) (m:=6) hi hx Z Z Z Z Z (fun be a3 W a4 M=>?_);have hr14raw:=M;have hr14':=M;obtain⟨bi,rfl,d⟩:=hr14';refine aj Z Z (WW O W Z Z) Z<|mq O Z Z (WU (cs:=[J,J,J,J,J,.ax])) (fun _=>Z) (fun V b2 O=>?_);refine gD O Z Z (S1 Z Z Z O.g0 (m:=6) Z (ah Z<|ah Z<|ah Z<|ah Z<|ah Z<|ah d.leaf.2 az) (cells':=[_,_,_,_,_,_]) Z) Z (fun V O=>?_);refine⟨aU,?_⟩;refine UN 4 Z (Wa O 6 [0,0,2,0,3,0] Z Z (I Z (WO (places:=[(0,1),(1,1),(2,1),(3,1),(4,1)]) (zero:=[J,J,J,J,J]) (cs:=[_,_,_,_,_]) Z) Z<|kb O (WU (cs:=[J,J,J,J,J])) (fun V b3 O=>?_)));refine ks O (WZ Z Z Z O.g0 Z) (fun V O=>?_);refine Ua O 7 [5,1] Z Z<|I Z (WT d Z Z Z (e:=141) Z) Z<|Vr 3 Z<|aG Z (fun E=>?_) (fun E=>?_)
 ·refine V9 O 4 [5,1] Z Z ?_;obtain⟨ap,B⟩:=da (show 0<x.exprs.length from bd (a:=0) E);refine WJ (e:=141) (m:=4) d B Z Z Z Z (fun bj a5 X a9 Q=>?_);have hr30raw:=Q;obtain⟨bm,bq,br,bs,rfl,bb⟩:=Q.shape;refine I Z (WW O X Z Z) Z<|kx (WQ Z Z Z) (Ds hG R z T _ _ _ hr30raw (hall ap<|gB_ B) _ _ O) (fun V O=>?_);refine I Z (WR 3 Z) Z<|ks O (S1 Z Z Z O.g0 (m:=1) Z Z (cells':=[_,_,_,_,_]) Z) (fun V O=>?_);refine Ua O 7 [5,1] Z Z<|I Z (WT d Z Z Z (e:=141) Z) Z<|Vr 3 Z<|aG Z (fun A=>?_) (fun A=>?_)
  ·refine V9 O 4 [5,1] Z Z ?_;obtain⟨S,u⟩:=da (show 1<x.exprs.length from bd (a:=1) A);refine WJ (e:=141) (m:=4) d u Z Z Z Z (fun aq aa C ab w=>?_);have hr41raw:=w;obtain⟨ar,a0,a1,a2,rfl,ac⟩:=w.shape;refine I Z (WW O C Z Z) Z<|kx (WQ Z Z Z) (Ds hG R z T _ _ _ hr41raw (hall S<|gB_ u) _ _ O) (fun V O=>?_);refine I Z (WR 4 Z) Z<|ks O (S1 Z Z Z O.g0 (m:=1) Z Z (cells':=[_,_,_,_,_]) Z) (fun V O=>?_);refine UJ 4 Z<|I Z (W2 Z O.g0 Z) Z<|hJ O Z (WZ Z Z Z (O.get 2 Z) Z) Z (fun V O=>?_);refine Vt 3 Z ?_;exact cA Z Z (O.get 2 Z) (m:=5) Y Z ⟨by show U.agg [.int .i64 x.kind,.int .i64 x.loc,.int .i64 x.order,_,_]=U.agg [.int .i64 x.kind,.int .i64 x.loc,.int .i64 x.order,.int .i64<|kE k bI x 0,.int .i64<|kE k bI x 1];rw[fM B,fM u]<;>rfl,O.pop.pop.pop⟩
  refine UF 4 Z<|I Z (W2 Z O.g0 Z) Z<|hJ O Z (WZ Z Z Z (O.get 2 Z) Z) Z (fun V O=>?_);refine Vt 3 Z ?_;exact cA Z Z (O.get 2 Z) (m:=5) Y Z ⟨by show U.agg [.int .i64 x.kind,.int .i64 x.loc,.int .i64 x.order,_,_]=U.agg [.int .i64 x.kind,.int .i64 x.loc,.int .i64 x.order,.int .i64<|kE k bI x 0,.int .i64<|kE k bI x 1];rw[fM B,uK<|bJ (a:=1) A]<;>rfl,O.pop.pop.pop⟩
 refine T0 O 7 [5,1] Z Z<|I Z (WT d Z Z Z (e:=141) Z) Z<|Vr 3 Z<|aG Z (fun A=>?_) (fun A=>?_)
 ·refine V9 O 4 [5,1] Z Z ?_;obtain⟨S,u⟩:=da (show 1<x.exprs.length from bd (a:=1) A);refine WJ (e:=141) (m:=4) d u Z Z Z Z (fun aq aa C ab w=>?_);have hr41raw:=w;obtain⟨ar,a0,a1,a2,rfl,ac⟩:=w.shape;refine I Z (WW O C Z Z) Z<|kx (WQ Z Z Z) (Ds hG R z T _ _ _ hr41raw (hall S<|gB_ u) _ _ O) (fun V O=>?_);refine I Z (WR 4 Z) Z<|ks O (S1 Z Z Z O.g0 (m:=1) Z Z (cells':=[_,_,_,_,_]) Z) (fun V O=>?_);refine UJ 4 Z<|I Z (W2 Z O.g0 Z) Z<|hJ O Z (WZ Z Z Z (O.get 2 Z) Z) Z (fun V O=>?_);refine Vt 3 Z ?_;exact cA Z Z (O.get 2 Z) (m:=5) Y Z ⟨by show U.agg [.int .i64 x.kind,.int .i64 x.loc,.int .i64 x.order,_,_]=U.agg [.int .i64 x.kind,.int .i64 x.loc,.int .i64 x.order,.int .i64<|kE k bI x 0,.int .i64<|kE k bI x 1];rw[uK<|bJ (a:=0) E,fM u]<;>rfl,O.pop.pop.pop⟩
 refine UF 4 Z<|I Z (W2 Z O.g0 Z) Z<|hJ O Z (WZ Z Z Z (O.get 2 Z) Z) Z (fun V O=>?_);refine Vt 3 Z ?_;exact cA Z Z (O.get 2 Z) (m:=5) Y Z ⟨by show U.agg [.int .i64 x.kind,.int .i64 x.loc,.int .i64 x.order,_,_]=U.agg [.int .i64 x.kind,.int .i64 x.loc,.int .i64 x.order,.int .i64<|kE k bI x 0,.int .i64<|kE k bI x 1];rw[uK<|bJ (a:=0) E,uK<|bJ (a:=1) A]<;>rfl,O.pop.pop.pop⟩
theorem vA (B:Plain G) (a:qD) (vv:Int) (O:F V K L):Ca G K L 91 [.agg [.int .i64 a.kind,.int .i64 a.loc,.int .i64 a.order,.int .i64 a.a,.int .i64 a.b],.int .i64 vv] V <| .tuple [.agg<|ints (bQ a vv).ints,.int .i64<|gJ a]:=by
 refine VV B Tryz.func91 Z<|Vp 2 Z<|kb O (cd Z Z) (fun V b1 O=>?_);refine kb O (WU (cs:=[J,J,J,J,J])) (fun V b2 O=>?_);refine UQ O 10 [1,1,2,1] Z Z (I Z (WO (places:=[(0,1),(1,1),(2,1),(3,1),(4,1)]) (zero:=[J,J,J,J,J]) (cs:=[_,_,_,_,_]) Z) Z<|kb O (WU (cs:=[J,J,J,J,J])) (fun V b3 O=>?_));refine ks O (WZ Z Z Z O.g0 Z) (fun V O=>?_);refine Ua O 7 [0,2] Z Z<|UH 3 Z<|Vp 2 Z<|ky Z (ay Z Z Z) (fun d=>?_) (fun d=>?_)
 ·refine Vs 5 Z<|I Z (WR 0 Z) Z<|ks O (S1 Z Z Z O.g0 (m:=1) Z Z (cells':=[_,_,_,_,_]) Z) (fun V O=>?_);refine af<|aD<|Vp 2 Z<|I Z (W2 Z O.g0 Z) Z<|eZ O Z (WZ Z Z Z O.g1 Z) Z (fun V O=>?_);refine Vt 4 Z ?_;exact cq Z Z O.g1 (m:=5) Y Z Z ⟨by unfold bQ gJ;simp only[d,ct,cf]<;>rfl,O.pop.pop.pop⟩
 refine UJ 6 Z<|ky Z (ay Z Z Z) (fun u=>?_) (fun u=>?_)
 ·refine Vx O 12 [3,2] Z Z<|aG Z (fun z=>?_) (fun z=>?_)
  ·refine V9 O 4 [4,2,4] Z Z<|ks O (S1 Z Z Z O.g0 (m:=1) Z Z (cells':=[_,_,_,_,_]) Z) (fun V O=>?_);refine af<|aD<|Vp 2 Z<|I Z (W2 Z O.g0 Z) Z<|eZ O Z (WZ Z Z Z O.g1 Z) Z (fun V O=>?_);refine Vt 4 Z ?_;exact cq Z Z O.g1 (m:=5) Y Z Z ⟨by unfold bQ gJ;simp only[d,u,z,ct,cf]<;>rfl,O.pop.pop.pop⟩
  refine V9 O 2 [0] Z Z<|ks O (S1 Z Z Z O.g0 (m:=1) Z Z (cells':=[_,_,_,_,_]) Z) (fun V O=>?_);refine af<|aD<|Vp 2 Z<|I Z (W2 Z O.g0 Z) Z<|eZ O Z (WZ Z Z Z O.g1 Z) Z (fun V O=>?_);refine Vt 4 Z ?_;exact cq Z Z O.g1 (m:=5) Y Z Z ⟨by unfold bQ gJ;simp only[d,u,z,ct,cf]<;>rfl,O.pop.pop.pop⟩
 refine UJ 6 Z<|ky Z (ay Z Z Z) (fun w=>?_) (fun w=>?_)
 ·refine Vs 6 Z ?_;refine I Z (iS (j:=.i64) (k:=.u64) Y Y Y Z) Z ?_;refine Wa O 2 [3,2] Z Z ?_;refine I Z (iS (j:=.i64) (k:=.u64) Y Y Y Z) Z ?_;refine vQ 1 Z ?_;refine I Z (iS (j:=.u64) (k:=.i64) Y Y Y Z) Z ?_;refine I Z (WR 4 Z) Z<|ks O (S1 Z Z Z O.g0 (m:=1) Z Z (cells':=[_,_,_,_,_]) Z) (fun V O=>?_);refine af<|aD<|Vp 2 Z<|I Z (W2 Z O.g0 Z) Z<|eZ O Z (WZ Z Z Z O.g1 Z) Z (fun V O=>?_);refine Vt 4 Z ?_;exact cq Z Z O.g1 (m:=5) Y Z Z ⟨by unfold bQ gJ;simp only[d,u,w,ct,cf]<;>rfl,O.pop.pop.pop⟩
 refine UJ 6 Z<|ky Z (ay Z Z Z) (fun A=>?_) (fun A=>?_)
 ·refine Vs 5 Z<|Wa O 3 [3,2,4] Z Z<|ks O (S1 Z Z Z O.g0 (m:=1) Z Z (cells':=[_,_,_,_,_]) Z) (fun V O=>?_);refine af<|aD<|Vp 2 Z<|I Z (W2 Z O.g0 Z) Z<|eZ O Z (WZ Z Z Z O.g1 Z) Z (fun V O=>?_);refine Vt 4 Z ?_;exact cq Z Z O.g1 (m:=5) Y Z Z ⟨by unfold bQ gJ;simp only[d,u,w,A,ct,cf]<;>rfl,O.pop.pop.pop⟩
 refine UJ 6 Z (I Z (WO (places:=[(0,1),(1,1),(2,1),(3,1),(4,1)]) (zero:=[J,J,J,J,J]) (cs:=[_,_,_,_,_]) Z) Z<|eZ O Z (WZ Z Z Z O.g1 Z) Z (fun V O=>?_));refine Vt 4 Z<|aK<|aA (?_);exact cq Z Z O.g1 (m:=5) Y Z Z ⟨by unfold bQ gJ;simp only[d,u,w,A,ct,cf]<;>rfl,O.pop.pop.pop⟩
theorem BT (hG:Plain G) {es:List cz} {v:U} (h:bS K 5 jl es v) (hl:es.length<=100000) (O:F V K L):EC G 109 [v] V fun v V'=>∃M,cQ 1 2 g9 (du es) v M/\F V' K (M++L):=by
 refine VV hG Tryz.func109 Z<|Vp 7 Z ?_;obtain⟨LB,O,S⟩:=O.named;refine TY 7 Z<|I Z (WT h Z Z Z (e:=45) Z) Z<|UH 4 Z<|bk ([3,5]++rg 8 18) (fun j t V=>∃(i:Nat) (u:U) (M:Own),j+i=es.length/\cQ 1 2 g9 (du<|es.take i) u M/\t.get 3=some (u)/\t.get 8=some (nI i)/\F V K (M++LB)) (es.length) ⟨0,.ax,[],Z,.inl ⟨Z,Z,Z⟩,Z,Z,O⟩ ?_;clear O;intro T t V ar hI;obtain⟨i,u,M,am,E,W,X,O⟩:=hI;obtain⟨oo,rfl⟩:=ar.q2 W X Z;refine Vo 6 Z<|aG Z (fun h9=>?_) (fun h9=>?_)
 ·refine Ta 6 Z ?_;obtain⟨d,w,aa⟩:=dH h9;refine WJ (e:=45) (m:=5) h w Z Z Z Z (fun ao ab Q ac R=>?_);obtain rfl:=R;refine I Z (WW O Q Z Z) Z<|kb O (WU (cs:=[J,J,J,J,J])) (fun V b1 O=>?_);refine ks O (WZ Z Z Z O.g0 Z) (fun V O=>?_);refine UQ O 7 [0,0] Z Z<|ky Z (al Z) (fun B=>?_) (fun B=>?_)
  ·refine Vs 9 Z<|Wa O 2 [3,0] Z Z<|fg O Z (bR (e:=2) (m:=1) (z:=[J]) (cs:=[_]) Y Y Y Y<|a6 Z Z Z Z bH) (fun _=>Z) (fun V b2 O=>?_);replace O:=O.Q4;obtain⟨V,u2,M2,A,hO2,O⟩:=jY (P:=Tryz.prog) (ts:= #[23,23]) (t:=23) (e:=2) (l2:=[d.read]) E O (gE (xs:=[d.read]) (.inr ⟨Z,Z⟩) (by simp)) g9.leaf (by simp) (by simp) (by have:=sy (es.take i);rw[lT_] at this;omega) Z Y Y Y;refine I Z (fF Z Z Z Z Y A) Z<|V6 2 Z<|aD<|V0 4 Z<|aJ ⟨T-1,by omega,oF,i+1,u2,M2,by omega,by rw[rq w,show cC d=true from by unfold cC;rw[B];rfl];exact hO2,Z,cI<|aX (by have:=h.cE;omega),O⟩
  refine Vx O 6 [0,0] Z Z<|aG Z (fun C=>?_) (fun C=>?_)
  ·refine V9 O 4 [3,0] Z Z<|fg O Z (bR (e:=2) (m:=1) (z:=[J]) (cs:=[_]) Y Y Y Y<|a6 Z Z Z Z bH) (fun _=>Z) (fun V b2 O=>?_);replace O:=O.Q4;obtain⟨V,u2,M2,A,hO2,O⟩:=jY (P:=Tryz.prog) (ts:= #[23,23]) (t:=23) (e:=2) (l2:=[d.read]) E O (gE (xs:=[d.read]) (.inr ⟨Z,Z⟩) (by simp)) g9.leaf (by simp) (by simp) (by have:=sy (es.take i);rw[lT_] at this;omega) Z Y Y Y;refine I Z (fF Z Z Z Z Y A) Z<|V6 2 Z<|aD<|V0 4 Z<|aJ ⟨T-1,by omega,oF,i+1,u2,M2,by omega,by rw[rq w,show cC d=true from by unfold cC;rw[B];exact C];exact hO2,Z,cI<|aX (by have:=h.cE;omega),O⟩
  refine aH<|aD<|V0 4 Z ?_;have O:=O.pop;refine aJ ⟨T-1,by omega,oF,i+1,u,M,by omega,by rw[rq w,show cC d=false from by unfold cC;rw[B];exact C];simpa using E,Z,cI<|aX (by have:=h.cE;omega),O⟩
 refine UG 3 Z<|aR<|V5 7 Z ?_;subst S;exact aB Z Z ⟨M,by rw[tL_<|bJ h9] at E;exact E,O⟩
theorem KD (hG:Plain G) {l1 l2:List cz} {T W:U} (h1:bS K 5 jl l1 T) (X:bS K 5 jl l2 W) (O:F V K L):Ca G K L 169 [T,W] V <| .bool (cL l1 l2):=by
 refine VV hG Tryz.func169 Z<|UD 9 Z<|I Z (WT h1 Z Z Z (e:=45) Z) Z<|vQ 1 Z<|I Z (WT X Z Z Z (e:=45) Z) Z<|Vr 3 Z<|aG Z (fun u=>?_) (fun u=>?_)
 ·refine Vq 7 Z ?_;exact aB Z Z ⟨by first | rw[wq<|de u] | rw[zV w z<|cz.same.symm.trans<|de A] | rw[wo (gB<|bT u) (bJ B) d],O⟩
 refine TW 6 Z<|I Z (WT h1 Z Z Z (e:=45) Z) Z<|UH 4 Z ?_;obtain⟨LL1,O,hLL1⟩:=O.named;refine bk ([4,5]++rg 13 13) (fun j t V=>∃(i:Nat),j+i=l1.length/\(∀k,k<i->l1[k]? =l2[k]?)/\t.get 13=some (nI i)/\F V K LL1) (l1.length) ⟨0,Z,fun k hk=>absurd hk (nZ_ _),Z,O⟩ ?_;clear O;intro j4 t V ar hI;obtain⟨i,hj,d,C,O⟩:=hI;subst hLL1;obtain⟨oo,rfl⟩:=ar.q1 C Z;refine Vo 6 Z<|aG Z (fun B=>?_) (fun B=>?_)
 ·refine S9 11 Z<|aP (l:=zp [0,1,2,3,4,5,6,7,8]) Y Y<|V8 2 Z ?_;obtain⟨ao,w,E⟩:=dH B;refine WK (e:=45) (m:=5) h1 w Z Z Z Z Z (fun ap aa M ab Q=>?_);obtain rfl:=Q;refine aj Z Z (WW O M Z Z) Z<|V8 2 Z ?_;obtain⟨aq,z⟩:=da (show i<l2.length from by rw[<-gB (bT u)];exact E);refine WK (e:=45) (m:=5) X z Z Z Z Z Z (fun a0 ac R am S=>?_);obtain rfl:=S;refine aj Z Z (WW O R Z Z) Z<|aj Z Z (Ou (n:=5) (ca:=[_,_,_,_,_]) (cb:=[_,_,_,_,_]) Y Z Z Z Z) Z<|Vu 2 Z<|aG Z (fun A=>?_) (fun A=>?_)
  ·refine V5 6 Z<|aK<|aA<|bL<|aK<|aA (?_);exact aB Z Z ⟨by first | rw[wq<|de u] | rw[zV w z<|cz.same.symm.trans<|de A] | rw[wo (gB<|bT u) (bJ B) d],O⟩
  refine aH<|aD<|V0 4 Z<|aJ ⟨j4-1,by omega,oF,i+1,by omega,Km d w z<|cz.same.symm.trans<|bT A,cI<|aX (by have:=h1.cE;omega),O⟩
 refine UG 3 Z<|aR<|V5 6 Z ?_;exact aB Z Z ⟨by first | rw[wq<|de u] | rw[zV w z<|cz.same.symm.trans<|de A] | rw[wo (gB<|bT u) (bJ B) d],O⟩
theorem Od (z:Plain G) {s:TS} {evv:U} (u:bS K 5 jl s.events evv) {et:Nat} {ro:Bool} {E M Q c6 R:U} (A:K tb (.row [B,C,E,M,evv,Q,c6,R] et ro)) {l:List cz} (hl:bS K 5 jl l lv) (O:F V K L):
  Ca G K L 110 [.ptr tb 0,lv] V <| .bool (qW s l):=by
 refine VV z Tryz.func110 Z<|Vp 8 Z<|I Z (bV Z) Z<|I Z (WR 4 Z) Z<|I Z (WS Z (O.bY A) Z) Z<|I Z (WT u Z Z Z (e:=45) Z) Z<|vQ 1 Z<|I Z (WT hl Z Z Z (e:=45) Z) Z<|vQ 1 Z<|ky Z (al Z) (fun d=>?_) (fun d=>?_)
 ·refine vQ 1 Z<|I Z (bV Z) Z<|I Z (WR 4 Z) Z<|I Z (WS Z (O.bY A) Z) Z<|vQ 1 Z<|I Z (WT hl Z Z Z (e:=45) Z) Z<|JZ (e:=45) (m:=5) (k:=l.length) u (bJ<|de d) Z Z Y Y Z Z (fun _=>Z) (fun aa w=>?_);refine vQ 1 Z<|kx (WQ Z Z Z) (KD z w hl O) (fun V O=>?_);refine Vt 5 Z ?_;exact aB Z Z ⟨cB (by unfold qW;rw[show cM (.ofNat s.events.length) (.ofNat l.length)=false from de d]<;>rfl),O⟩
 refine Vt 14 Z ?_;exact aB Z Z ⟨cB (by unfold qW;rw[show cM (.ofNat s.events.length) (.ofNat l.length)=true from bT d]<;>rfl),O⟩
theorem I0 (u:Plain G) (d:pJ G K) {k:Nat} {v:U} (hi:bS K 6 (l9 K k) c.ins v) (O:F V K L):
  Ca G K L 107 [.agg [.int .i64 c.bI,v]] V <| .int .i64 (jE k c):=by
 refine VV u Tryz.func107 Z<|Vp 2 Z<|kb O (cd Z Z) (fun V b1 O=>?_);refine TY 6 Z<|I Z (W0 Z O.g0 Z) Z<|kx (WQ Z Z Z) (SR u d hi O) (fun V O=>?_);refine Vr 2 Z<|aG Z (fun h5=>?_) (fun h5=>?_)
 ·refine Vq 7 Z ?_;exact aB Z Z ⟨cJ (by unfold jE;rw[h5];rfl),O.pop⟩
 refine TW 5 Z<|I Z (W0 Z O.g0 Z) Z<|kx (WQ Z Z Z) (BV u d hi O) (fun V O=>?_);refine Vr 9 Z<|aG Z (fun w=>?_) (fun w=>?_)
 ·refine Vq 8 Z ?_;exact aB Z Z ⟨cJ (by unfold jE;rw[h5,show bC (N (fq k c) 0)=true from w];rfl),O.pop⟩
 refine Vq 8 Z ?_;exact aB Z Z ⟨cJ (by unfold jE;rw[h5,show bC (N (fq k c) 0)=false from w];rfl),O.pop⟩
variable {od:List Nat}
theorem QI (hG:Plain G) {k:Nat} (E:fK k c) (ho:ik c=some od) (B:gT (eI c) c.ins.length od) {cv:U} (hi:bS K 6 (l9 K k) c.ins cv) (O:F V K L):
  EC G 167 [.agg [.int .i64 c.bI,cv]] V fun v V'=>∃tb rb ev Me,v= .ptr tb 0/\cQ 5 45 jl (kA k c).events ev Me/\F V' K ((tb,.row (Hy c cv (kA k c) rb ev) 228 false)::(rb,.row ((kA k c).bI.map gZ) 2 false)::(Me++L)):=by
 have M:c.bI= .ofNat c.bI.toNat:=by have:=E.IG;show c.bI=((c.bI.toNat:Nat):Int);omega
 have aa:c.bI.toNat<=16:=by have:=E.C8;omega
 have hol:=wi E ho;have W:iK c=od.length:=by unfold iK;rw[ho];rfl
 have hlen:=E.len;have hB0:kA k c=v7 k c od.length (qh c):=by unfold kA;rw[W];rfl
 refine VV hG Tryz.func167 Z<|Vp 2 Z<|kb O (cd Z Z) (fun V b1 O=>?_);refine UI 4 Z<|aP (l:=zp [0,1,2,3,4,5,6]) Y Y<|aj Z Z (W0 Z O.g0 Z) Z<|Wb O 2 [0,0] Z Z<|nH O Z Z (jd (e:=2) (w:=8) (z:=[gZ 0]) Y Y Y Y (show _=some (U.int .i64 (.ofNat c.bI.toNat)) from cI M) (show _=some (U.int .i64 (.ofNat c.bI.toNat)) from cI M) oM oM) (fun _=>Z) (fun V C O=>?_);rw[gp (f:=gZ)] at O;refine aj Z Z (WO (places:=[(0,2),(2,1),(3,1),(4,1),(5,1),(6,1),(7,1)]) (zero:=[J,.ax,J,.ax,.ax,J,J,.bool false]) (cs:=[_,_,_,_,_,_,_,_]) Z) Z<|mq O Z Z (cd Z Z) (fun _=>Z) (fun V T O=>?_);refine wQ 1 Z ?_;replace O:F V K ((T,.row (Hy c cv (qh c) C .ax) 228 false)::(C,.row ((qh c).bI.map gZ) 2 false)::([]++(b1,.row [.int .i64 c.bI,cv] 88 false)::L)):=by show F V K ((T,.row [_,_,_,.slice C 0 (replicate c.bI.toNat (0:Int)).length (.known (replicate c.bI.toNat (0:Int)).length),_,_,_,_] 228 false)::_);rw[List.length_replicate];exact O
 refine Vu 2 Z (ak (aL (bk [10,11] (fun j t V=>∃(s:TS) (ev:U) (Me:Own),B9 c od s/\s.events.length+j<=od.length/\(∃q,od[q]? =some s.at_/\q<j)/\v7 k c od.length (qh c)=v7 k c j s/\cQ 5 45 jl s.events ev Me/\F V K ((T,.row (Hy c cv s C ev) 228 false)::(C,.row (s.bI.map gZ) 2 false)::(Me++(b1,.row [.int .i64 c.bI,cv] 88 false)::L))) (od.length) ⟨qh c,.ax,[],FC B,by show 0+_<=_;omega,(gO_ B.zero).imp fun q hq=>⟨hq,(gA.1 hq).1⟩,Z,.inl ⟨Z,Z,Z⟩,O⟩ ?_)));clear O;intro j2 t V ar hI;obtain⟨s,ev,Me,d,hB,Q,he,hO,O⟩:=hI;obtain⟨oo,rfl⟩:=ar.q0 Z;refine UD 4 Z ?_;obtain⟨q,hq,ab⟩:=Q;refine kw (WQ Z Z Z) (Of hG E hi ⟨d.lt B,d.bI,by omega⟩ oM hO O) ?_;rintro _ V ⟨R,Me2,rfl,hO2,O⟩;refine Vr 2 Z<|aG Z (fun u=>?_) (fun u=>?_)
 ·refine aH<|V0 3 Z ?_;obtain⟨xs,X⟩:=da (d.lt B);obtain⟨q2,Q,S⟩:=BF B X hq u;have hel:=(sG (k:=k) (c:=c) (s:=s)).2;refine aJ ⟨j2-1,by omega,oP Z<|oP Z<|oP Z<|oP Z<|oR _ _,_,R,Me2,d.step B,by omega,⟨q2,S,by omega⟩,he.trans<|H9 oM u,hO2,O⟩
 have A:kA k c=(cS k c s).1:=by rw[hB0,he];exact L4 oM u
 refine UG 3 Z<|aR<|V5 7 Z ?_;exact aB Z Z ⟨T,C,R,Me2,Z,by rw[A];exact hO2,by rw[A];exact O.sub (.cons_cons _ (.cons_cons _<|cu (.cons _ (.refl _))))⟩
theorem Oc (hG:Plain G) {k:Nat} (W:fK k c) (ho:ik c=some od) (hR:gT (eI c) c.ins.length od) {cv:U} (hi:bS K 6 (l9 K k) c.ins cv) {d:TS} (w:B9 c od d) (R:iH c d) (hs:d.asks=true) (bj:d.events.length<=880000) (bm:d.asked<=1000000) (vv:Int) {B:Nat} {aa:U} {Me0:Own} (hO:cQ 5 45 jl d.events aa Me0)
  (O:F V K ((b1,.row (Hy c cv d B aa) 228 false)::(B,.row (d.bI.map gZ) 2 false)::(Me0++L))):
  EC G 168 [.ptr b1 0,.int .i64 vv] V fun v V'=>∃ev' Me',cQ 5 45 jl (eQ k c d vv).events ev' Me'/\F V' K ((b1,.row (Hy c cv (eQ k c d vv) B ev') 228 false)::(B,.row ((eQ k c d vv).bI.map gZ) 2 false)::(Me'++L)):=by
 have hol:=wi W ho;have a0:iK c=od.length:=by unfold iK;rw[ho];rfl
 have hlen:=W.len;have hat:=w.lt hR;obtain⟨x,hx,a1⟩:=R hs;have hrx:=W.right x (gB_ hx);have a2:c.bI<=d.bI.length:=by have:=w.bI;have:=W.IG;omega
 have ab:d.bI.length<=1000:=by have:=w.bI;have:=W.C8;omega
 have X:∃kn:Nat,x.kind= .ofNat kn/\(kn=2∨kn=4∨kn=5∨kn=6):=by
  rcases a1 with e | e | e | e
  ·exact⟨2,e,by omega⟩
  ·exact⟨4,e,by omega⟩
  ·exact⟨5,e,by omega⟩
  exact⟨6,e,by omega⟩
 obtain⟨kn,X,bq⟩:=X;obtain⟨rg,ac,a9⟩:=Ny hrx X oM;obtain⟨A,hA⟩:∃A,A=I9 k x d.bI:=⟨_,Z⟩;obtain⟨E,hE⟩:∃E,E=bQ A vv:=⟨_,Z⟩;have a3:mT k c d=A:=by unfold mT;rw[hx,hA]
 have hS1:fm k c d vv= {d with events:=d.events++[E],bI:=d.bI.set rg vv,asked:=d.asked+1,at_:=d.at_+1,asks:=false}:=by
  unfold fm Ri;rw[hx];dsimp only;rw[a3,<-hE,show x.zS.toNat=rg from by rw[ac];rfl]
 have hB0:eQ k c d vv=v7 k c od.length (fm k c d vv):=by unfold eQ;rw[a0]
 have hin1:=wF W hR w R hs vv;refine VV hG Tryz.func168 Z<|Vp 3 Z ?_;have hq:=O.keeps (M:=[_,_]);refine kx (WQ Z Z Z) (mL (M:=[_,_]) O<|Rq hG (pR (KP.dM _ _) hi) a2 hx hrx (gE (xs:=d.bI) (KP.hH 1 Z) ab) (KP.hH 0 Z) hq) (fun V O=>?_);clear hq;rw[<-hA];refine vQ 1 Z<|kx (WQ Z Z Z) (vA hG A vv O) (fun V O=>?_);rw[<-hE];refine V7 3 Z<|kb O (WU (cs:=[J,J,J,J,J])) (fun V b3 O=>?_);refine ks O (WZ Z Z Z O.g0 Z) (fun V O=>?_);refine UI 4 Z<|aP (l:=zp [0,1,2,3,4,5,6,7,8,9,10]) Y Y<|V8 2 Z<|aj Z Z (bV Z) Z<|Wb O 2 [4,1] Z Z<|aj Z Z (W2 Z O.g0 Z) Z<|nH O Z Z (bR (e:=45) (m:=5) (z:=[J,J,J,J,J]) (cs:=[_,_,_,_,_]) Y Y Y Y<|a6 Z Z Z Z bH) (fun _=>Z) (fun V b4 O=>?_);replace O:=O.GD (A:=[_,_,_]);obtain⟨V,u,Me2,am,hO2,O⟩:=jY (P:=Tryz.prog) (ts:= #[90,90]) (t:=90) (e:=45) hO O (Be (x:=E) (.inr ⟨Z,Z⟩)) jl.leaf (by simp) (by simp) oM Z Y Y Y;replace O:=O.front (A:=Me2) (M:=[_,_,_]);refine iI Z Z (fF Z Z Z Z Y am) Z ?_;refine⟨aU,?_⟩;refine aj Z Z (bV Z) Z<|aj Z Z (WR 4 Z) Z<|kK O Z Z (aI Z Z hO2.leaf.1 O.g1 (m:=1) Y Z (lb Z) (ah hO2.leaf.2 az) (cells':=[_,_,_,_,_,_,_,_]) Z) Z (fun V O=>?_);refine⟨aU,?_⟩;refine Vu 2 Z<|ak<|aP (l:=zp [0,1,2,3,4,5,6,7,8,9,10,11,12,13,14,15,16,17,18]) Y Y ?_;replace O:=O.pop;refine wQ 1 Z<|aj Z Z (bV Z) Z<|Wb O 3 [3,0] Z Z<|aj Z Z (bV Z) Z<|Wb O 4 [0,1,0] Z Z<|aj Z Z (bV Z) Z<|Wb O 2 [2,0] Z Z<|WK (e:=125) (m:=6) hi hx Z Z Z Z Z (fun br bb ao be S=>?_);have hr36raw:=S;have hr36':=S;obtain⟨bs,rfl,bi⟩:=hr36';refine dU ao Z Z Z Z (k:=1) Y (lb Z) (fun _=>Z) (fun bt ap=>?_);refine aj Z Z (WV O ap Z Z) Z (wQ 1 Z (aj Z Z (eF (e:=2) (m:=1) Y Y Z (show _=some (U.int .i64 (.ofNat rg)) from cI ac) oM) Z (gn O (.there .here) Z Z (aI Z Z Z O.g1 (m:=1) Y Z (by rw[lM_];omega) Z (cells':=((d.bI).set rg vv).map (gZ))<|dL (f:=gZ) (v:=vv) oM (by first | omega | rfl)) Z (fun V O=>?_))));refine⟨aU,?_⟩;refine UN 5 Z<|I Z (bV Z) Z<|Wa O 2 [5,0] Z Z<|I Z (ay Z Z (show _=some (U.int .i64 (.ofNat (d.asked+1))) from cI (aX oM))) Z<|I Z (bV Z) Z<|I Z (WR 5 Z) Z<|ks O (S1 Z Z Z O.g0 (m:=1) Z Z (cells':=[_,_,_,_,_,_,_,_]) Z) (fun V O=>?_)
 refine UJ 5 Z<|I Z (bV Z) Z<|Wa O 2 [2,0] Z Z<|I Z (ay Z Z (show _=some (U.int .i64 (.ofNat (d.at_+1))) from cI (aX oM))) Z<|I Z (bV Z) Z<|I Z (WR 2 Z) Z<|ks O (S1 Z Z Z O.g0 (m:=1) Z Z (cells':=[_,_,_,_,_,_,_,_]) Z) (fun V O=>?_);refine UJ 5 Z<|I Z (bV Z) Z<|I Z (WR 7 Z) Z<|ks O (S1 Z Z Z O.g0 (m:=1) Z Z (cells':=[_,_,_,_,_,_,_,_]) Z) (fun V O=>?_);replace O:F V K ((b1,.row (Hy c cv (fm k c d vv) B u) 228 false)::(B,.row ((fm k c d vv).bI.map gZ) 2 false)::(Me2++L)):=by rw[hS1];show F V K ((b1,.row [_,_,_,.slice B 0 (d.bI.set rg vv).length (.known (d.bI.set rg vv).length),_,_,_,_] 228 false)::_);rw[zg_];exact O
 refine UH 3 Z (bk [58,59] (fun j t V=>∃(s:TS) (ev:U) (Me:Own),B9 c od s/\s.events.length+j<=d.events.length+1+od.length/\(∃q,od[q]? =some s.at_/\q<j)/\v7 k c od.length (fm k c d vv)=v7 k c j s/\cQ 5 45 jl s.events ev Me/\F V K ((b1,.row (Hy c cv s B ev) 228 false)::(B,.row (s.bI.map gZ) 2 false)::(Me++L))) (od.length) ⟨fm k c d vv,u,Me2,hin1,by rw[hS1];show(d.events++[E]).length+_<=_;rw[lA_];show d.events.length+1+_<=_;omega,(gO_ hin1.at_).imp fun q hq=>⟨hq,(gA.1 hq).1⟩,Z,by rw[hS1];exact hO2,O⟩ ?_);clear O;intro j6 t V ar hI;obtain⟨s,ev,Me,C,hB,a4,he,hO,O⟩:=hI;obtain⟨oo,rfl⟩:=ar.q0 Z;refine UD 4 Z ?_;obtain⟨q,hq,bv⟩:=a4;refine kw (WQ Z Z Z) (Of hG W hi ⟨C.lt hR,C.bI,by omega⟩ oM hO O) ?_;rintro _ V ⟨u,Me2,rfl,hO2,O⟩;refine Vr 2 Z<|aG Z (fun Q=>?_) (fun Q=>?_)
 ·refine aH<|V0 3 Z ?_;obtain⟨xs,a5⟩:=da (C.lt hR);obtain⟨q2,bw,aq⟩:=BF hR a5 hq Q;have hel:=(sG (k:=k) (c:=c) (s:=s)).2;refine aJ ⟨j6-1,by omega,oP Z<|oP Z<|oP Z<|oP Z<|oR _ _,_,u,Me2,C.step hR,by omega,⟨q2,aq,by omega⟩,he.trans<|H9 oM Q,hO2,O⟩
 have T:eQ k c d vv=(cS k c s).1:=by rw[hB0,he];exact L4 oM Q
 refine UG 3 Z<|aR ?_;exact Ef Z ⟨u,Me2,by rw[T];exact hO2,by rw[T];exact O⟩
theorem Ru (hG:Plain G) {k:Nat} (C:fK k c) (E:ik c=some od) (W:gT (eI c) c.ins.length od) {cv:U} (hi:bS K 6 (l9 K k) c.ins cv) {A:List Int} (hA:bS K 1 g9 A va) (ap:A.length<=50) (O:F V K L):
  EC G 108 [.agg [.int .i64 c.bI,cv],va] V fun v V'=>∃tb rb ev Me,v= .ptr tb 0/\cQ 5 45 jl (fP k c A).events ev Me/\F V' K ((tb,.row (Hy c cv (fP k c A) rb ev) 228 false)::(rb,.row ((fP k c A).bI.map gZ) 2 false)::(Me++L))/\B9 c od (fP k c A):=by
 have hol:=wi C E;have hb:=Ja (k:=k) E W;refine VV hG Tryz.func108 Z<|Vp 2 Z<|kb O (cd Z Z) (fun V b1 O=>?_);refine UJ 5 Z<|I Z (W0 Z O.g0 Z) Z<|kw (WQ Z Z Z) (QI hG C E W hi O) ?_;rintro _ V ⟨b2,X,aa,Me0,rfl,hO0,O⟩;refine TY 7 Z (I Z (WT hA Z Z Z (e:=2) Z) Z (UH 4 Z (bk ([7]++rg 12 13) (fun j t V=>∃(i:Nat) (s:TS) (ev:U) (Me:Own),j+i=A.length/\B9 c od s/\iH c s/\s.events.length<=(i+1)*16002/\s.asked<=i/\kU k c A (kA k c)=kU k c (A.drop i) s/\cQ 5 45 jl s.events ev Me/\t.get 12=some (nI i)/\F V K ((b2,.row (Hy c cv s X ev) 228 false)::(X,.row (s.bI.map gZ) 2 false)::(Me++(b1,.row [.int .i64 c.bI,cv] 88 false)::L))) (A.length) ⟨0,kA k c,aa,Me0,Z,hb.1,pO C,by omega,by have:=(pc k c (iK c)<|qh c).2;exact Nat.le_of_eq this,Z,hO0,Z,O⟩ ?_)));clear O;intro j3 t V ar hI;obtain⟨i,s,ev,Me,aq,w,M,a0,a1,he,hO,Q,O⟩:=hI;obtain⟨oo,rfl⟩:=ar.q1 Q Z;refine Vo 6 Z<|aG Z (fun z=>?_) (fun z=>?_)
 ·refine Ta 6 Z ?_;obtain⟨R,u,ac⟩:=dH z;refine WJ (e:=2) (m:=1) hA u Z Z Z Z (fun a2 am S ao T=>?_);obtain rfl:=T;refine I Z (WV O S Z Z) Z<|TY 7 Z<|I Z (bV Z) Z<|Wa O 2 [7,0] Z Z<|ky Z (df Z) (fun B=>?_) (fun B=>?_)
  ·refine UM 5 Z<|iT Z<|aV<|aY<|aR<|V5 7 Z ?_;have d:fP k c A=s:=by unfold fP;rw[he];exact Qp u<|kJ B
   exact aB Z Z ⟨b2,X,ev,Me,Z,by rw[d];exact hO,by rw[d];exact O.sub (.cons_cons _ (.cons_cons _<|cu (.cons _ (.refl _)))),by rw[d];exact w⟩
  have h20x:=B;refine Vr 3 Z (aH (V4 3 Z (kw (WQ Z Z Z) (Oc hG C E W hi w M (ft h20x) (by have:=bd z;have:(i+1)*16002<=50*16002:=nM_ _ oM;omega) oM R hO O) ?_)));rintro _ V ⟨ab,Me2,hO2,O⟩;refine af<|aD<|V0 4 Z ?_;obtain⟨k1,k2,k3⟩:=F7 C E W w M (ft h20x) R;refine aJ ⟨j3-1,by omega,oF,i+1,_,ab,Me2,by omega,k1,qG C _ _,by rw[Nat.add_mul];omega,by rw[k3];omega,he.trans<|NH u<|ft h20x,hO2,cI<|aX (by have:=hA.cE;omega),O⟩
 refine UG 3 Z<|aR<|V5 7 Z ?_;have d:fP k c A=s:=by unfold fP;rw[he];exact NG<|bJ z
 exact aB Z Z ⟨b2,X,ev,Me,Z,by rw[d];exact hO,by rw[d];exact O.sub (.cons_cons _ (.cons_cons _<|cu (.cons _ (.refl _)))),by rw[d];exact w⟩
theorem HC (R:Plain G) (ab:pJ G K) {k:Nat} {cv:U} (hi:bS K 6 (l9 K k) c.ins cv) {l:List cz} (hl:bS K 5 jl l lv) (ap:l.length<=40) (O:F V K L):
  Ca G K L 82 [.agg [.int .i64 c.bI,cv],lv] V <| .tuple [.agg<|JU (cm k c l).1,.int .i64 (cm k c l).2]:=by
 refine VV R Tryz.func82 Z<|Vp 2 Z<|kb O (cd Z Z) (fun V b1 O=>?_);refine kb O (WU (cs:=[J,J,J,J,J,J,J,J,J,J,J])) (fun V b2 O=>?_);refine TY 6 Z<|I Z (W0 Z O.g1 Z) Z<|kx (WQ Z Z Z) (I0 R ab hi O) (fun V O=>?_);refine Vr 9 Z<|aG Z (fun B=>?_) (fun B=>?_)
 ·refine Vp 2 Z (I Z (WO (places:=[(0,5),(5,5),(10,1)]) (zero:=[J,J,J,J,J,J,J,J,J,J,J]) (cs:=[_,_,_,_,_,_,_,_,_,_,_]) Z) Z<|vQ 1 Z<|ks O (S1 Z Z Z O.g0 (m:=11) Z Z (cells':=[_,_,_,_,_,_,_,_,_,_,_]) Z) (fun V O=>?_));refine UL 5 Z ?_;exact cq Z Z O.g0 (m:=11) Y Z Z ⟨by rw[show cm k c l=(zr,jE k c) from by unfold cm;rw[show bC (N (jE k c) 0)=true from B];rfl];rfl,O.pop.pop⟩
 refine UE 3 Z (aP (l:=[(0,[]),(1,[]),(2,[0]),(3,[]),(4,[])]) Y Y<|aj Z Z (W0 Z O.g1 Z) Z<|wQ 1 Z ?_);have S:n7 k c=true:=by rw[<-jR];exact bT B
 obtain⟨hc,od,ho,hR⟩:=sa S;refine ez Z Z (WQ Z Z Z) (fun _=>Z) (BT R hl oM O) ?_;rintro u16 V ⟨C,hM16,O⟩;refine⟨(bf (bo Z Z Z Z Z (W0 Z O.bB.pop.g0 Z)<|dI<|ba (cV _ _)<|ba hi.dV dJ) aU),?_⟩;have hq:=O.keeps;have hr:=Ru R hc ho hR (pR (KP.dM K C) hi) (hM16.ib (K:=K.qE C) fun y hy=>.inr hy) (by have:=sy l;omega) hq;refine ez Z Z (WQ Z Z Z) (fun _=>Z) hr ?_;clear hq hr;rintro _ V ⟨tb,rb,ev,Me,rfl,hO,O,w⟩;replace O:=O.weaken (KP.dM K C);obtain⟨s,T⟩:∃s,s=fP k c (du l):=⟨_,Z⟩;rw[<-T] at hO O w;obtain⟨K1,hle,d,O⟩:=F.bF (M:=(tb,.row (Hy c cv s rb ev) 228 false)::(rb,.row (s.bI.map gZ) 2 false)::Me) O;have ht:=d _ (.head _);have hrr:=d _ (.tail _ (.head _));have hev:=hO.ib (K:=K1) fun y hy=>d _ (.tail _ (.tail _ hy));clear d;dsimp only at ht hrr
 have W:s.bI.length<=1000:=by have:=w.bI;have:=hc.C8;omega
 have hregs:=gE (xs:=s.bI) hrr W;have hl1:=hl.mono hle fun _ _ h=>h
 have hN:cm k c l=mn k c s l:=by unfold cm;rw[jR,S,T];rfl
 refine⟨aU,?_⟩;refine Vu 3 Z<|ak<|aL<|Vp 4 Z<|kx (WQ Z Z Z) (Od R hev ht hl1 O) (fun V O=>?_);refine ky Z (df Z) (fun u=>?_) (fun u=>?_)
 ·refine UJ 6 Z (I Z (WO (places:=[(0,5),(5,5),(10,1)]) (zero:=[J,J,J,J,J,J,J,J,J,J,J]) (cs:=[_,_,_,_,_,_,_,_,_,_,_]) Z) Z<|ks O (S1 Z Z Z O.g0 (m:=11) Z Z (cells':=[_,_,_,_,_,_,_,_,_,_,_]) Z) (fun V O=>?_));refine Vt 4 Z<|aK<|aA (?_);exact cq Z Z O.g0 (m:=11) Y Z Z ⟨by rw[hN,show mn k c s l=(zr,2) from by unfold mn;rw[kJ u];rfl];rfl,(O.pop.pop).weaken hle⟩
 refine UJ 7 Z<|I Z (bV Z) Z<|I Z (WR 4 Z) Z<|I Z (WS Z (O.bY ht) Z) Z<|I Z (WT hev Z Z Z (e:=45) Z) Z<|vQ 1 Z<|I Z (WT hl1 Z Z Z (e:=45) Z) Z<|ky Z (ay Z Z Z) (fun z=>?_) (fun z=>?_)
 ·refine UJ 7 Z<|I Z (bV Z) Z<|I Z (WR 4 Z) Z<|I Z (WS Z (O.bY ht) Z) Z<|vQ 1 Z<|I Z (WT hl1 Z Z Z (e:=45) Z) Z ?_;obtain⟨ac,A⟩:=da (bd z);refine WJ (e:=45) (m:=5) hev A Z Z Z Z (fun aq am X ao aa=>?_);obtain rfl:=aa;refine I Z (WW O X Z Z) Z (I Z (WO (places:=[(0,5),(5,5),(10,1)]) (zero:=[J,J,J,J,J,J,J,J,J,J,J]) (cs:=[_,_,_,_,_,_,_,_,_,_,_]) Z) Z<|ks O (S1 Z Z Z O.g0 (m:=11) Z Z (cells':=[_,_,_,_,_,_,_,_,_,_,_]) Z) (fun V O=>?_));refine Vt 4 Z<|aK<|aA (?_);exact cq Z Z O.g0 (m:=11) Y Z Z ⟨by rw[hN,show mn k c s l=(⟨ac,jx,0⟩,0) from by unfold mn;rw[ft u,A];rfl];rfl,(O.pop.pop).weaken hle⟩
 refine UJ 7 Z<|I Z (bV Z) Z<|I Z (WR 7 Z) Z<|ky Z (WS Z (O.bY ht) Z) (fun E=>?_) (fun E=>?_)
 ·refine UJ 7 Z ?_;obtain⟨xs,Q⟩:=da (w.lt hR);have hrx:=hc.right xs (gB_ Q);refine kx (WQ Z Z Z) (Rq R (pR hle hi) (by have:=w.bI;have:=hc.IG;omega) Q hrx hregs ht O) (fun V O=>?_);refine I Z (WO (places:=[(0,5),(5,5),(10,1)]) (zero:=[J,J,J,J,J,J,J,J,J,J,J]) (cs:=[_,_,_,_,_,_,_,_,_,_,_]) Z) Z<|ks O (S1 Z Z Z O.g0 (m:=11) Z Z (cells':=[_,_,_,_,_,_,_,_,_,_,_]) Z) (fun V O=>?_);refine Vt 4 Z<|aK<|aA (?_);exact cq Z Z O.g0 (m:=11) Y Z Z ⟨by rw[hN,show mn k c s l=(⟨nF,I9 k xs s.bI,0⟩,0) from by unfold mn;rw[ft u,gN_<|bJ z,E];show((⟨nF,mT k c s,0⟩:ux),(0:Int))=_;unfold mT;rw[Q]];rfl,(O.pop.pop).weaken hle⟩
 refine UK 6 Z (Vp 3 Z (I Z (bV Z) Z (I Z (WR 6 Z) Z (I Z (WS Z (O.bY ht) Z) Z (I Z (WO (places:=[(0,5),(5,5),(10,1)]) (zero:=[J,J,J,J,J,J,J,J,J,J,J]) (cs:=[_,_,_,_,_,_,_,_,_,_,_]) Z) Z<|ks O (S1 Z Z Z O.g0 (m:=11) Z Z (cells':=[_,_,_,_,_,_,_,_,_,_,_]) Z) (fun V O=>?_))))));refine Vt 4 Z ?_;exact cq Z Z O.g0 (m:=11) Y Z Z ⟨by rw[hN,show mn k c s l=(⟨nF,jx,s.fin⟩,0) from by unfold mn;rw[ft u,gN_<|bJ z,E];rfl];rfl,(O.pop.pop).weaken hle⟩
def My (x:XI):Bool:=bif N x.kind 2 then true else bif N x.kind 3 then true else bif N x.kind 4 then true else bif N x.kind 5 then true else N x.kind 6
def yH (n:Int) (x:XI):Bool:=bif My x then bC (cM x.loc n) else false
structure Wg (k:Nat) (init:List Int) (l:List XC):Prop where
 len:l.length<=4
 init:init.length<=6
 pos:0<l.length
 flat:∀c∈l,n7 k c=true
theorem xq {n a b:Int} (h:fe n a b true=true):a<=n/\n<b:=by
 unfold fe at h;simp only[cond_true] at h;cases h1:cM n a with
 | true=>rw[h1] at h;cases h
 | false=>
  rw[h1] at h;have h:cM n b=true:=h;rw[eU] at h1 h
  simp_all
theorem Au {bI:Int} {k:Nat} {x:XI} {sh:lH} (h:iC bI nins k x sh=true):fe x.loc 0 6 sh.loc=true/\fe x.order 1 7 sh.order=true:=by
 unfold iC at h;cases h1:fe x.zS 0 bI sh.zS<;>rw[h1] at h
 ·cases h
 cases d:fe x.loc 0 6 sh.loc<;>rw[d] at h
 ·cases h
 cases h3:fe x.order 1 7 sh.order<;>rw[h3] at h
 ·cases h
 exact⟨Z,Z⟩
theorem vK {bI:Int} {k:Nat} {x:XI} (h:iO bI nins k x=true) (hk:x.kind=2∨x.kind=3∨x.kind=4∨x.kind=5∨x.kind=6∨x.kind=7):(1<=x.order/\x.order<=6)/\(x.kind≠7->0<=x.loc):=by
 obtain⟨n,sh,hn,h1,h2,u,hr⟩:=ke h;obtain⟨h3,h4⟩:=Au hr
 have key:sh.order=true/\(n≠7->sh.loc=true):=by
  have d:n=2∨n=3∨n=4∨n=5∨n=6∨n=7:=by
   grind
  rcases d with rfl | rfl | rfl | rfl | rfl | rfl<;>cases u<;>first | simp_all | simp_all
 rw[key.1] at h4;have h5:=xq h4;refine⟨by omega,fun z=>?_⟩;have:n≠7:=fun e=>z (by rw[hn,e];rfl)
 rw[key.2 this] at h3;exact(xq h3).1
theorem LQ {n:Int} {x:XI} (h:yH n x=false) (hk:x.kind=2∨x.kind=3∨x.kind=4∨x.kind=5∨x.kind=6):x.loc<n:=by
 have hl:My x=true:=by unfold My;rcases hk with e | e | e | e | e<;>rw[e]<;>rfl
 unfold yH at h;rw[hl] at h;have h:bC (cM x.loc n)=false:=h;cases h1:cM x.loc n with
 | false=>rw[h1] at h;cases h
 | true=>rw[eU] at h1;simp_all
section
variable {loc o v w n:Int}
theorem r4 (ho:1<=o/\o<=6):cM o 1=false/\cM 6 o=false:=by
 grind [eU]
theorem Cw (hl:0<=loc/\loc<n):(bif bC (cM loc 0) then cM loc n else false)=true:=by
 rw[show cM loc 0=false by rw[eU,decide_eq_false_iff_not];omega,show cM loc n=true by rw[eU];simp_all];rfl
theorem Tp (d:1<=o/\o<=6) (hl:0<=loc/\loc<n):bD ⟨1,loc,o,v,0⟩ n=true:=by
 obtain⟨h1,u⟩:=r4 d;unfold bD;dsimp only;rw[h1,u];exact Cw hl
theorem U8 (d:1<=o/\o<=6) (hl:0<=loc/\loc<n):bD ⟨2,loc,o,0,v⟩ n=true:=by
 obtain⟨h1,u⟩:=r4 d;unfold bD;dsimp only;rw[h1,u];exact Cw hl
theorem RS (d:1<=o/\o<=6) (hl:0<=loc/\loc<n):bD ⟨3,loc,o,v,w⟩ n=true:=by
 obtain⟨h1,u⟩:=r4 d;unfold bD;dsimp only;rw[h1,u];exact Cw hl
theorem U9 (d:1<=o/\o<=6):bD ⟨4,0,o,0,0⟩ n=true:=by
 obtain⟨h1,u⟩:=r4 d;unfold bD;dsimp only;rw[h1,u];rfl
end
section
variable {k:Nat} {c:XC} {out:List Nat} {n:Int}
theorem FD (u:fK k c) (hf:∀x∈c.ins,yH n x=false) {s:TS} (h:∀e∈s.events,bD e n=true):∀e∈(cS k c s).1.events,bD e n=true:=by
 obtain⟨P,hP⟩:∃P:TS×Bool->Prop,P=fun r=>∀e∈r.1.events,bD e n=true:=⟨_,Z⟩
 have h0:∀r:TS×Bool,r.1.events=s.events->P r:=fun r h1=>by simp_all
 have h1:∀(r:TS×Bool) (e:cz),bD e n=true->r.1.events=s.events++[e]->P r:=fun r e h1 d=>by
  grind
 have:P (cS k c s):=by
  unfold cS;cases hx:c.ins[s.at_]? with
  | none=>exact h0 _ Z
  | some x=>
   have hm:=gB_ hx;have hr:=u.right x hm;have hk:∀m:Int,N x.kind m=true->x.kind=m:=fun m h=>by rw[eB] at h;simp_all
   dsimp only;unfold gR;refine fD _ (fun _=>h0 _ Z) fun _=>fD _ (fun e=>?_) fun _=>fD _ (fun e=>?_) fun _=>(cO _ (cO _ (h0 _ Z)<|h0 _ Z)<|cO _ (cO _ (h0 _ Z)<|h0 _ Z)<|cO _ (h0 _ Z)<|cO _ (cO _ (h0 _ Z)<|h0 _ Z)<|cO _ (h0 _ Z)<|cO _ (h0 _ Z)<|h0 _ Z)
   ·have e:=hk _ e;obtain⟨d,h3⟩:=vK hr (.inr (.inl e));exact h1 _ _ (U8 d ⟨h3 (by rw[e];decide),LQ (hf x hm) (.inr (.inl e))⟩) Z
   have e:=hk _ e;obtain⟨d,_⟩:=vK hr (.inr (.inr (.inr (.inr (.inr e)))));exact h1 _ _ (U9 d) Z
 simp_all
theorem uB (z:fK k c) (hf:∀x∈c.ins,yH n x=false) {s:TS} (hk:iH c s) (A:s.asks=true) (v:Int):bD (bQ (mT k c s) v) n=true:=by
 obtain⟨x,hx,u⟩:=hk A;have hm:=gB_ hx;have h5:x.kind=2∨x.kind=3∨x.kind=4∨x.kind=5∨x.kind=6:=by omega
 have B:x.kind=2∨x.kind=3∨x.kind=4∨x.kind=5∨x.kind=6∨x.kind=7:=by omega
 obtain⟨d,hl⟩:=vK (z.right x hm) B;have hl:0<=x.loc/\x.loc<n:=⟨hl oM,LQ (hf x hm) h5⟩;have e:mT k c s=I9 k x s.bI:=by unfold mT;rw[hx]
 rw[e];unfold bQ I9;dsimp only;rcases u with e | e | e | e<;>rw[e]
 ·exact Tp d hl
 ·exact cO (P:=fun e:cz=>bD e n=true) (N v _) (RS d hl)<|Tp d hl
 ·exact RS d hl
 exact RS d hl
theorem Kj (d:fK k c) (z:ik c=some out) (B:gT (eI c) c.ins.length out) (hf:∀x∈c.ins,yH n x=false) (A:List Int):
  (∀e∈(fP k c A).events,bD e n=true)/\iH c (fP k c A)/\((fP k c A).asks=true->∀v,bD (bQ (mT k c<|fP k c A) v) n=true):=by
 obtain⟨h1,_,_,h4⟩:=Fv (P:=fun s=>∀e∈s.events,bD e n=true) d z B (fun s h _ _=>FD d hf h) (fun s v h hk u _=>by
  intro e he;rcases List.mem_append.1 (show e∈s.events++[_] from he) with h3 | h3
  ·exact h e h3
  grind [uB]) (fun e he=>by cases he) A
 exact⟨h1,h4,fun u v=>uB d hf h4 u v⟩
end
theorem GX {k:Nat} {row:List cz} (h:kX k c row):(∃e,(fP k c<|du row).events[row.length]? =some e/\cm k c row=(⟨e,jx,0⟩,0))∨((fP k c<|du row).events.length=row.length/\(fP k c<|du row).asks=true/\cm k c row=(⟨nF,mT k c<|fP k c<|du row,0⟩,0))∨((fP k c<|du row).asks=false/\cm k c row=(⟨nF,jx,(fP k c<|du row).fin⟩,0)):=by
 have hT:cm k c row=mn k c (fP k c<|du row) row:=by
  have:jE k c=0:=by unfold jE;rw[h.1];rfl
  unfold cm;rw[this];rfl
 rw[hT];generalize d:fP k c (du row)=S;have hf:qW S row=true:=by rw[<-d];exact h.2
 unfold mn;rw[hf];cases he:S.events[row.length]? with
 | some e=>exact .inl ⟨e,Z,by simp only[show bC true=false from Z,cond_false]⟩
 | none=>
  have h1:S.events.length<=row.length:=List.getElem?_eq_none_iff.1 he
  have h2:row.length<=S.events.length:=by
   unfold qW at hf;cases h3:cM (.ofNat S.events.length) (.ofNat row.length) with
   | true=>simp_all
   | false=>exact bJ h3
  cases ha:S.asks with
  | true=>exact .inr (.inl ⟨by omega,Z,by simp only[show bC true=false from Z,cond_false,cond_true]⟩)
  | false=>exact .inr (.inr ⟨Z,by simp only[show bC true=false from Z,cond_false]⟩)
theorem vT {a b:Bool} (h:(bif a then false else b)=true):b=true:=by simp_all
theorem LG {e:cz} {n:Int} (h:bD e n=true) (h4:N e.kind 4=false):cM e.loc 0=false/\cM e.loc n=true:=by
 unfold bD at h;rw[h4] at h;have h:=vT (vT<|vT<|vT<|vT<|vT h);have h:(bif bC (cM e.loc 0) then cM e.loc n else false)=true:=h;cases h1:cM e.loc 0 with
 | true=>rw[h1] at h;cases h
 | false=>simp_all
theorem MT {g:XG} (d:cG g) {r:List cD} {x:cD} (hr:g.order[ln]? =some r) (hm:x∈r):∃(t k:Nat) (row:List cz) (e:cz),x=Bg t k/\g.threads[t]? =some row/\row[k]? =some e/\bl e=true/\e.loc= .ofNat ln:=by
 have h:(x.ints,ofNat ln)∈jA g.order 0:=iN.2 ⟨ln,r,x,hr,hm,Z,by rw[nA_]⟩;obtain⟨t,k,row,e,h1,u,h3,h4,h5⟩:=jc.1 (d.perm.mem_iff.2 h);rw[nA_] at h4;exact⟨t,k,row,e,l5 h4,h1,u,h3,h5.symm⟩
theorem GS {g:XG} (d:cG g) (hl:ln<g.init.length):∃w,cX g (((cW g (.ofNat ln)).getLast?).getD ⟨0,0⟩)=some w/\bl w=true/\w.loc= .ofNat ln/\w.write=Bl g (.ofNat ln):=by
 have hck:=cP.2 d;obtain⟨r,hr⟩:=ns hck hl;rw[gq (by rw[hck];rfl) hr,Mu hck hr];cases h:r.getLast? with
 | none=>
  rw[List.getLast?_eq_none_iff.1 h]
  have e:cX g ⟨0,.ofNat ln⟩=some ⟨2,ln,1,0,g.init[ln]⟩:=by
   show(g.init[ln]?).map (fun v=>(⟨2,ln,1,0,v⟩:cz))=_
   simp_all
  refine⟨_,e,Z,Z,?_⟩
  grind [iE]
 | some x=>
  obtain⟨P,rfl⟩:=List.getLast?_eq_some_iff.1 h;rw[<-cons_append,List.getLast?_append];obtain⟨t,k,row,e,rfl,h1,u,h3,h4⟩:=MT d hr (List.mem_append_right _<|List.mem_singleton.2 Z);have he:cX g (Bg t k)=some e:=by rw[show cX g (Bg t k)=(g.threads[t]?).bind (·[k]?) from fB,h1];exact u
  refine⟨e,he,h3,h4,?_⟩;show _=(iE<|cX g<|Bg t k).write;rw[he];rfl
structure XS where
 g:XG
 marks:List jg
 half:Int
def hY (g:XG) (t:Nat):List cz:=(g.threads[t]?).getD []
def gg (s:XS):Bool:=bif cM s.half 0 then false else bif cM (.ofNat s.g.threads.length) s.half then false else bif cM 0 s.half then(match(hY s.g (s.half.toNat-1)).getLast? with | some e=>N e.kind 1 | none=>false) else true
def gz (s:XS):Bool:=bif N (cY s.g) 0 then(bif rp s.g s.marks then gg s else false) else false
def vG (k:Nat) (c:XC) (l:List cz):Option cz:=
 match l.getLast? with
 | none=>none
 | some r=>
  bif bC (N (cm k c l.dropLast).2 0) then none else bif N (cm k c l.dropLast).1.ask.kind 0 then none else
  bif bC (N (gJ (cm k c l.dropLast).1.ask) 0) then none else
  bif bC (N (bQ (cm k c l.dropLast).1.ask r.read).kind 3) then none else bif bC (N (bQ (cm k c l.dropLast).1.ask r.read).loc r.loc) then none else bif bC (N (bQ (cm k c l.dropLast).1.ask r.read).order r.order) then none else some (bQ (cm k c l.dropLast).1.ask r.read)
def yK (k:Nat) (half:Int) (c:XC) (row:List cz) (t:Nat):Bool:=bif N (.ofNat (t+1)) half then(vG k c row).isSome else N (cm k c row).2 0
def CB (k:Nat) (l:List XC) (s:XS) (t:Nat):Bool:=match l[t]?,s.g.threads[t]? with | some c,some row=>yK k s.half c row t | _,_=>false
def PD (k:Nat) (l:List XC) (s:XS):Bool:=bif gz s then(bif N (.ofNat l.length) (.ofNat s.g.threads.length) then(range s.g.threads.length).all (CB k l s) else false) else false
structure sV where
 br:Nat
 half:Bool
 event:cz
 ask:qD
def my (k:Nat):List XC->List (List cz)->Nat->sV
 | c::l,r::g,t=>bif N (cm k c r).1.fin 0 then⟨t+1,false,(cm k c r).1.event,(cm k c r).1.ask⟩ else my k l g (t+1)
 | _,_,_=>⟨0,false,nF,jx⟩
def GG (k:Nat) (l:List XC) (s:XS):cz:=((l[s.half.toNat-1]?).bind fun c=>vG k c (hY s.g (s.half.toNat-1))).getD nF
def dc (k:Nat) (l:List XC) (s:XS):sV:=bif cM 0 s.half then⟨s.half.toNat,true,GG k l s,jx⟩ else my k l s.g.threads 0
def H6 (g:XG) (t:Nat):List cD:=(g.from_[t]?).getD []
def l7 (g:XG) (t:Nat) (e:cz) (fr:cD) (pl:Int):XG:=fY g t e fr pl (hY g t) (H6 g t)
def iy (e:cz):cz:=⟨1,e.loc,e.order,e.read,0⟩
def eT (s:XS) (t:Nat) (a:qD) (fr:cD):XS:=
 ⟨l7 s.g t (iy<|bQ a (iE<|cX s.g fr).write) fr 0,s.marks++[⟨.ofNat (t+1),.ofNat (hY s.g t).length,false⟩],bif N (bQ a (iE<|cX s.g fr).write).kind 3 then .ofNat (t+1) else s.half⟩
def jB (s:XS) (t:Nat) (e:cz) (pl:Int):XS:=⟨l7 s.g t e ⟨0,0⟩ pl,s.marks++[⟨.ofNat (t+1),.ofNat (hY s.g t).length,true⟩],s.half⟩
def lL (s:XS) (t:Nat) (e:cz):XS:=⟨l7 s.g t e ⟨0,0⟩ 0,s.marks++[⟨.ofNat (t+1),.ofNat (hY s.g t).length,false⟩],s.half⟩
def Q3 (g:XG) (t:Nat) (e:cz):XG:=
 let at_:=(ey (fun x:cD=>cL x.ints ((((g.from_[t]?).getD [])[(hY g t).length-1]?).getD ⟨0,0⟩).ints) (jI g e.loc) 0+1).toNat
 ⟨g.init,g.threads.set t ((hY g t).dropLast++[e]),g.from_,g.order.set e.loc.toNat ((jI g e.loc).take at_++⟨.ofNat (t+1),.ofNat ((hY g t).length-1)⟩::(jI g e.loc).drop at_)⟩
def qP (s:XS) (t:Nat) (e:cz):XS:=⟨Q3 s.g t e,s.marks++[⟨.ofNat (t+1),.ofNat ((hY s.g t).length-1),true⟩],0⟩
def jr (s:XS) (x:sV):List XS:=
 bif N (.ofNat x.br) 0 then [] else bif x.half then [qP s (x.br-1) x.event] else
 bif bC (N x.ask.kind 0) then(cW s.g x.ask.loc).map (eT s (x.br-1) x.ask) else
 bif N x.event.kind 4 then [lL s (x.br-1) x.event] else(range (cW s.g x.event.loc).length).map fun p=>jB s (x.br-1) x.event (.ofNat (p+1))
def OC (m:Int) (s:XS):Bool:=bC (iG m s.g)
def yS (m:Int) (s:XS) (x:sV):List XS:=(jr s x).filter (OC m)
structure Ah (k:Nat) (l:List XC) (s:XS):Prop where
 right:cG s.g
 marks:rp s.g s.marks=true
 half:gg s=true
 len:s.g.threads.length=l.length
 fits:∀t c row,l[t]? =some c->s.g.threads[t]? =some row->yK k s.half c row t=true
theorem uV {k:Nat} {l:List XC} {s:XS}:PD k l s=true↔Ah k l s:=by
 unfold PD gz;constructor
 ·intro h;cases h1:N (cY s.g) 0 with
  | false=>rw[h1] at h;cases h
  | true=>
  rw[h1] at h;cases d:rp s.g s.marks with
  | false=>rw[d] at h;cases h
  | true=>
  rw[d] at h;cases h3:gg s with
  | false=>rw[h3] at h;cases h
  | true=>
  rw[h3] at h;cases h4:N (.ofNat l.length) (.ofNat s.g.threads.length) with
  | false=>rw[h4] at h;cases h
  | true=>
  rw[h4] at h;have h:(range s.g.threads.length).all (CB k l s)=true:=h;refine⟨cP.1<|AT h1,d,h3,(xG h4).symm,fun t c row u hr=>?_⟩;have:=aE_.1 h t (List.mem_range.2 (gA.1 hr).1);unfold CB at this
  simp_all
 intro h;rw[cP.2 h.right,h.marks,h.half,h.len,dt,dt];show(range l.length).all (CB k l s)=true;refine aE_.2 fun t ht=>?_
 have ht:=List.mem_range.1 ht;obtain⟨c,u⟩:=da ht;obtain⟨row,hr⟩:=da (show t<s.g.threads.length by rw[h.len];exact ht);unfold CB;rw[u,hr];exact h.fits t c row u hr
theorem B5 {k:Nat} {l:List cz} {u:cz} (h:vG k c l=some u):∃(d:List cz) (r:cz) (a:qD),l=d++[r]/\cm k c d=(⟨nF,a,0⟩,0)/\u=bQ a r.read/\u.kind=3/\u.loc=r.loc/\u.order=r.order/\kX k c (d++[u]):=by
 unfold vG at h;cases hl:l.getLast? with
 | none=>rw[hl] at h;cases h
 | some r=>
 rw[hl] at h;obtain⟨d,rfl⟩:=List.getLast?_eq_some_iff.1 hl;rw[List.dropLast_concat] at h;dsimp only at h;cases h1:N (cm k c d).2 0 with
 | false=>rw[h1] at h;cases h
 | true=>
 rw[h1] at h;cases w:N (cm k c d).1.ask.kind 0 with
 | true=>rw[w] at h;cases h
 | false=>
 rw[w] at h;rcases ET (AT h1) with ⟨e,he,_⟩ | ⟨a,A,hk,hf⟩ | ⟨n,hn⟩
 ·rw[he] at w;cases w
 ·rw[A] at h;cases h3:N (gJ a) 0 with
  | false=>rw[h3] at h;cases h
  | true=>
  cases h4:N (bQ a r.read).kind 3 with
  | false=>rw[h3,h4] at h;cases h
  | true=>
  cases h5:N (bQ a r.read).loc r.loc with
  | false=>rw[h3,h4,h5] at h;cases h
  | true=>
  cases z:N (bQ a r.read).order r.order with
  | false=>rw[h3,h4,h5,z] at h;cases h
  | true=>
  rw[h3,h4,h5,z] at h;have h:some (bQ a r.read)=some u:=h;have e:=zs_ h;subst e;exact⟨d,r,a,Z,A,Z,tM h4,tM h5,tM z,hf _⟩
 rw[hn] at w;cases w
theorem BI {ms:List jg} {mk:jg} (hn:mk∉ms):∀{l:List jg} {b:Int},mk∉l->b< .ofNat ms.length->gY ms b l=true->gY (ms++[mk]) b (l++[mk])=true
 | [],b,_,hb,_=>by
  show(match gM (ms++[mk]) 0 mk none with | none=>false | some a=>cM b (.ofNat a) && gY (ms++[mk]) (.ofNat a) [])=true;rw[nm,if_pos Z,nA_];show(cM b (.ofNat ms.length) && true)=true;rw[eU,decide_eq_true hb];rfl
 | m::l,b,hm,_,h=>by
  have h:(match gM ms 0 m none with | none=>false | some a=>cM b (.ofNat a) && gY ms (.ofNat a) l)=true:=h;show(match gM (ms++[mk]) 0 m none with | none=>false | some a=>cM b (.ofNat a) && gY (ms++[mk]) (.ofNat a) (l++[mk]))=true;rw[nm,if_neg fun e=>hm (by simp_all)];cases hl:gM ms 0 m none with
  | none=>rw[hl] at h;cases h
  | some a=>
   rw[hl] at h;have h:(cM b (.ofNat a) && gY ms (.ofNat a) l)=true:=h;rw[bA_] at h;show(cM b (.ofNat a) && gY (ms++[mk]) (.ofNat a) (l++[mk]))=true;rw[h.1,BI hn (fun d=>hm (mC_ _ d)) ?_ h.2];rfl;have:=lastF_lt hl
   simp_all
where
 lastF_lt:∀{ms:List jg} {m:jg} {a:Nat},gM ms 0 m none=some a->a<ms.length:=by
  have key:∀{l:List jg} {i:Nat} {m:jg} {o:Option Nat} {a:Nat},gM l i m o=some a->o=some a∨a<i+l.length:=by
   intro l;induction l with
   | nil=>intro i m o a h;exact .inl h
   | cons x l ih=>
    intro i m o a h;have h:gM l (i+1) m (if x=m then some i else o)=some a:=h
    grind
  grind
theorem ui {ms:List jg} {mk:jg}:∀{l:List jg} {b:Int},mk∉l->gY (ms++[mk]) b l=gY ms b l
 | [],_,_=>rfl
 | m::l,b,hm=>by
  show(match gM (ms++[mk]) 0 m none with | none=>false | some a=>cM b (.ofNat a) && gY (ms++[mk]) (.ofNat a) l)=(match gM ms 0 m none with | none=>false | some a=>cM b (.ofNat a) && gY ms (.ofNat a) l);rw[nm,if_neg fun e=>hm (by rw[e];exact mS_ ..)];cases gM ms 0 m none with
  | none=>rfl
  | some a=>show(_ && gY (ms++[mk]) (.ofNat a) l)=(_ && gY ms (.ofNat a) l);rw[ui fun d=>hm (mC_ _ d)]
theorem Fs {ms:List jg} {mk:jg} {row row':List cz} (hn:mk∉ms):∀{ls:List (List cz)} {t tm:Nat},ls[tm]? =some row->dQ (t+tm) row' 0=dQ (t+tm) row 0++[mk]->mk.br= .ofNat (t+tm+1)->eO ms ls t=true->
  eO (ms++[mk]) (ls.set tm row') t=true/\(gk (ls.set tm row') t).length=(gk ls t).length+1
 | [],_,_,h,_,_,_=>by simp at h
 | r::ls,t,0,h,d,w,hr=>by
  obtain rfl:r=row:=by simpa using h
  rw[Nat.add_zero] at d w;unfold eO at hr;rw[bA_] at hr
  have hm:mk∉dQ t r 0:=fun z=>by
   have:=mH (l:=row') (t:=t) (k:=0)
   grind
  refine⟨?_,?_⟩
  ·show(gY (ms++[mk]) (-1) (dQ t row' 0) && eO (ms++[mk]) ls (t+1))=true;rw[d,BI hn hm (by grind) hr.1,rows_more (fun s A z=>by grind) hr.2];rfl
  grind [gk]
 | r::ls,t,tm+1,h,d,w,hr=>by
  unfold eO at hr;rw[bA_] at hr;have e:t+(tm+1)=t+1+tm:=by omega
  rw[e] at d w;obtain⟨h1,h2⟩:=Fs hn (ls:=ls) (t:=t+1) (tm:=tm) (by simpa using h) d w hr.2
  grind [eO,ui,iL,gk]
where
 rows_more:∀{ls:List (List cz)} {t:Nat} {ms:List jg} {mk:jg},(∀s,t<=s->mk.br≠ .ofNat (s+1))->eO ms ls t=true->eO (ms++[mk]) ls t=true:=by
  intro ls;induction ls with
  | nil=>intro t ms mk _ _;rfl
  | cons r ls ih=>
   intro t ms mk u h;unfold eO at h;rw[bA_] at h;show(gY (ms++[mk]) (-1) (dQ t r 0) && eO (ms++[mk]) ls (t+1))=true;rw[ui fun z=>u t (nR_ _) (iL z).1,h.1,ih (fun s A=>u s oM) h.2];rfl
theorem PA:∀{g:XG} {m:jg},m∈q9 g->∃s r,g.threads[s]? =some r/\m∈dQ (0+s) r 0:=by
 have key:∀{ls:List (List cz)} {t:Nat} {m:jg},m∈gk ls t->∃s r,ls[s]? =some r/\m∈dQ (t+s) r 0:=by
  intro ls;induction ls with
  | nil=>intro t m h;cases h
  | cons r ls ih=>
   intro t m h;rcases List.mem_append.1 (show m∈dQ t r 0++gk ls (t+1) from h) with h | h
   ·exact⟨0,r,Z,h⟩
   obtain⟨s,q,h1,h2⟩:=ih h;exact⟨s+1,q,by simpa using h1,by grind⟩
 intro g m h;exact key h
theorem zI {g g':XG} {mk:jg} {row row':List cz} (h:rp g ms=true) (z:g.threads[tm]? =some row) (hg:g'.threads=g.threads.set tm row') (d:dQ tm row' 0=dQ tm row 0++[mk]):rp g' (ms++[mk])=true:=by
 unfold rp at h⊢;rw[bA_] at h;have hlen:(q9 g).length=ms.length:=of_decide_eq_true h.2;have hmem:=vn h.1;have hp:(q9 g).Perm ms:=xQ uU hmem (Nat.le_of_eq hlen.symm);have aa:mk.br= .ofNat (tm+1):=(iL (l:=row') (k:=0) (by simp_all)).1
 have ab:mk∉dQ tm row 0:=fun w=>by
  have:=mH (l:=row') (t:=tm) (k:=0)
  grind
 have u:mk∉ms:=fun w=>by
  have:=hp.mem_iff.2 w;rcases PA this with ⟨s,r,hs,hm⟩
  have e:=(iL hm).1
  grind
 obtain⟨h1,h2⟩:=Fs (t:=0) u z (by rw[nA_];exact d) (by simp_all) h.1
 grind [q9]
theorem nq {t:Nat}:∀{a b:List cz} {k:Nat},dQ t (a++b) k=dQ t a k++dQ t b (k+a.length)
 | [],b,k=>rfl
 | e::a,b,k=>by
  show fS t k e.kind++dQ t (a++b) (k+1)=(fS t k e.kind++dQ t a (k+1))++dQ t b (k+(a.length+1));rw[nq,lQ_,show k+1+a.length=k+(a.length+1) by omega]
theorem p4 {t k:Nat} {e:cz}:dQ t [e] k=fS t k e.kind:=zk_ _
theorem zH {g:XG} {row:List cz} {e:cz} {fr:cD} (hx:g.threads[tm]? =some row):(l7 g tm e fr pl).threads=g.threads.set tm (row++[e])/\(l7 g tm e fr pl).init=g.init:=by
 unfold l7 hY;rw[hx,lq];exact⟨Z,Z⟩
theorem MQ {m:Int} (hm:m=1∨m=2) {s:XS} (h:OC m s=true):iG m s.g=false/\cG s.g:=by
 have h1:iG m s.g=false:=by unfold OC at h;cases hw:iG m s.g with | false=>rfl | true=>rw[hw] at h;cases h
 refine⟨h1,?_⟩;unfold iG at h1;cases d:N (cY s.g) 0 with
 | true=>exact cP.1 (AT d)
 | false=>rw[d] at h1;rcases hm with rfl | rfl<;>cases h1
section
variable {k:Nat} {l:List XC} {s:XS}
theorem Ah.set (h:Ah k l s) {row row':List cz} {s':XS} (ht:s.g.threads[tm]? =some row) (hc:l[tm]? =some c) (w:s'.g.threads=s.g.threads.set tm row') (A:cG s'.g) (hm:rp s'.g s'.marks=true) (hh:gg s'=true) (hf:yK k s'.half c row' tm=true)
  (B:∀t c row,t≠tm->l[t]? =some c->s.g.threads[t]? =some row->yK k s.half c row t=true->yK k s'.half c row t=true):Ah k l s':=by
 refine⟨A,hm,hh,by rw[w,zg_];exact h.len,fun t z d h1 u=>?_⟩;rw[w] at u
 by_cases e:tm=t
 ·grind
 rw[List.getElem?_set_ne e] at u;exact B t z d (fun C=>e C.symm) h1 u<|h.fits t z d h1 u
theorem ni (h:gg s=true) (hp:cM 0 s.half=true):∃tm e,s.half= .ofNat (tm+1)/\tm<s.g.threads.length/\(hY s.g tm).getLast? =some e/\e.kind=1:=by
 grind [gg,ij,hY,tM]
theorem JG (h:gg s=true) (hp:cM 0 s.half=false):s.half=0:=by
 unfold gg at h;cases h1:cM s.half 0 with
 | true=>rw[h1] at h;cases h
 | false=>
  obtain⟨n,hn⟩:=ij h1;cases n with
  | zero=>exact hn
  | succ n=>rw[hn] at hp;cases hp
theorem nb {row:List cz} {t:Nat} {half:Int} (hh:half=0):yK k half c row t=N (cm k c row).2 0:=by rw[hh];rfl
theorem z9:∀{l:List XC} {g:List (List cz)} {t:Nat},(my k l g t=⟨0,false,nF,jx⟩/\∀(i:Nat) (c:XC) (r:List cz),l[i]? =some c->g[i]? =some r->(cm k c r).1.fin≠0)∨∃(i:Nat) (c:XC) (r:List cz),l[i]? =some c/\g[i]? =some r/\(cm k c r).1.fin=0/\my k l g t=⟨t+i+1,false,(cm k c r).1.event,(cm k c r).1.ask⟩
 | [],_,_=>.inl ⟨Z,fun i c r h=>by simp at h⟩
 | _::_,[],_=>.inl ⟨Z,fun i c r _ h=>by simp at h⟩
 | c::l,r::g,t=>by
  cases hf:N (cm k c r).1.fin 0 with
  | true=>right;exact⟨0,c,r,Z,Z,AT hf,by unfold my;rw[hf];rfl⟩
  | false=>
   have e:my k (c::l) (r::g) t=my k l g (t+1):=by grind [my]
   rcases z9 (l:=l) (g:=g) (t:=t+1) with ⟨h1,d⟩ | ⟨i,c2,r2,h1,d,h3,h4⟩
   ·left;refine⟨e.trans h1,fun i c2 r2 u k2=>?_⟩;cases i with
    | zero=>
     obtain rfl:c=c2:=by simpa using u
     obtain rfl:r=r2:=by simpa using k2
     exact fun w=>by rw[w] at hf;cases hf
    | succ i=>grind
   right;exact⟨i+1,c2,r2,by simpa using h1,by simpa using d,h3,by grind⟩
theorem qj (h:Ah k l s):(∃(tm:Nat) (c:XC) (row:List cz) (u:cz),s.half= .ofNat (tm+1)/\l[tm]? =some c/\s.g.threads[tm]? =some row/\vG k c row=some u/\dc k l s=⟨tm+1,true,u,jx⟩)∨
  (s.half=0/\dc k l s=⟨0,false,nF,jx⟩)∨
  ∃(tm:Nat) (c:XC) (row:List cz),s.half=0/\l[tm]? =some c/\s.g.threads[tm]? =some row/\kX k c row/\(cm k c row).1.fin=0/\dc k l s=⟨tm+1,false,(cm k c row).1.event,(cm k c row).1.ask⟩:=by
 unfold dc;cases hp:cM 0 s.half with
 | true=>
  left;obtain⟨tm,e,h1,d,h3,h4⟩:=ni h.half hp;obtain⟨row,hr⟩:=da d;obtain⟨c,w⟩:=da (show tm<l.length by rw[<-h.len];exact d);have hf:=h.fits tm c row w hr;unfold yK at hf;rw[h1,dt] at hf;obtain⟨u,hu⟩:=ze_.1 hf;refine⟨tm,c,row,u,h1,w,hr,hu,?_⟩;unfold GG hY
  simp_all
 | false=>
  right;have h0:=JG h.half hp;rcases z9 (k:=k) (l:=l) (g:=s.g.threads) (t:=0) with ⟨h1,_⟩ | ⟨i,c,r,h1,d,h3,h4⟩
  ·simp_all
  right;have hf:=h.fits i c r h1 d;rw[nb h0] at hf;exact⟨i,c,r,h0,h1,d,jG.1<|AT hf,h3,by simp_all⟩
theorem L5 {s:XS} (h:s.half=0):gg s=true:=by
 unfold gg;rw[h,show cM (.ofNat s.g.threads.length) 0=false from Z];rfl
end
variable {E:Nat} {M:Own} {R:α->List U->Prop}
theorem Th.leaf:∀x vs,Th x vs->cF vs=true:=fun _ _ h=>by cases h;rfl
theorem cQ.EI {m:Nat} {l:List α} {u:U} (h:cQ m E R l u M):bS (K.qE M) m R l u:=h.ib fun _ he=>.inr he
theorem cQ.zo {m:Nat} {R':α->List U->Prop} {l:List α} {u:U} (h:cQ m E R l u M) (d:∀x vs,R x vs->R' x vs):cQ m E R' l u M:=by
 rcases h with h | ⟨b,c,cells,e,h1,w,h3,h4,h5⟩
 ·exact .inl h
 exact .inr ⟨b,c,cells,e,h1,w,h3,fun i x hx=>d x _ (h4 i x hx),h5⟩
theorem kq.leaf {K:KP} {k:Nat}:∀x vs,kq K k x vs->cF vs=true:=fun x vs h=>by
 obtain⟨o,n,s,v,rfl,hk⟩:=h.shape;exact ah Z<|ah Z<|ah Z<|ah hk.leaf.2 az
theorem cQ.empty {m b:Nat}:cQ m E R ([]:List α) (.slice b 0 0 (.known 0)) [(b,.row [] e false)]:=.inr ⟨b,.known 0,[],e,Z,Z,by simp,fun i x h=>by simp at h,.inl Z,by simp⟩
theorem cQ.nil {m:Nat}:cQ m E R ([]:List α) .ax []:=.inl ⟨Z,Z,Z⟩
variable {mv:U}
theorem PV (Q:Plain G) {t k:Nat} (kind:Int) (O:F V K L):
  EC G 164 [.agg [nI (t+1),nI k],.int .i64 kind] V fun u V'=>∃M,cQ 3 161 Af (fS t k kind) u M/\F V' K (M++L):=by
 refine VV Q Tryz.func164 Z<|Vp 2 Z<|kb O (cd Z Z) (fun V b1 O=>?_);refine UI 15 Z<|aG Z (fun B=>?_) (fun B=>?_)
 ·refine V4 2 Z (I Z (W0 Z O.g0 Z) Z (I Z (WO (places:=[(0,2),(2,1)]) (zero:=[J,J,.bool false]) (cs:=[_,_,_]) Z) Z<|fg O Z (bR (e:=161) (m:=3) (z:=[J,J,.bool false]) (cs:=[_,_,_]) Y Y Y Y<|a6 Z Z Z Z bH) (fun _=>Z) (fun V S O=>?_)));refine fT (R:=Af) (m:=3) (e:=161) cQ.nil (show F _ _ (_::([]++_)) from O) (ec (m:=3) Z (show Af ⟨.ofNat (t+1),.ofNat k,false⟩ _ from Z)) Af.leaf (by simp) Z Z Z Z Z Z Z (fun _=>Z) (fun V aa C hO12 O=>?_);refine TY 8 Z<|ky Z (al Z) (fun d=>?_) (fun d=>?_)
  ·exact absurd d (by rw[de B];decide)
  refine Vr 5 Z<|aG Z (fun w=>?_) (fun w=>?_)
  ·refine V4 2 Z (I Z (W0 Z O.bB.g0 Z) Z (I Z (WO (places:=[(0,2),(2,1)]) (zero:=[J,J,.bool false]) (cs:=[_,_,_]) Z) Z<|fg O Z (bR (e:=161) (m:=3) (z:=[J,J,.bool false]) (cs:=[_,_,_]) Y Y Y Y<|a6 Z Z Z Z bH) (fun _=>Z) (fun V b3 O=>?_)));replace O:=O.pull (.there<|bG.here (X:=C));replace O:=O.pull (.bE<|bG.here (X:=[_]));rw[za_] at O;refine fT (R:=Af) (m:=3) (e:=161) hO12 O (ec (m:=3) Z (show Af ⟨.ofNat (t+1),.ofNat k,true⟩ _ from Z)) Af.leaf (by simp) Z Z Z Z Z Z Z (fun _=>Z) (fun V E A hO23 O=>?_);refine Vt 10 Z ?_;replace O:=O.sub (cu (.cons _ (.refl _)));exact aB Z Z ⟨A,by unfold fS;rw[show N kind 2=false from de B,show N kind 3=true from w];exact hO23,O⟩
  refine Vq 9 Z ?_;replace O:=O.sub (cu (.cons _ (.refl _)));exact aB Z Z ⟨C,by unfold fS;rw[show N kind 2=false from de B,show N kind 3=false from w];exact hO12,O⟩
 refine TW 7 Z<|ky Z (al Z) (fun d=>?_) (fun d=>?_)
 ·refine Vs 8 Z (I Z (W0 Z O.g0 Z) Z (I Z (WO (places:=[(0,2),(2,1)]) (zero:=[J,J,.bool false]) (cs:=[_,_,_]) Z) Z<|fg O Z (bR (e:=161) (m:=3) (z:=[J,J,.bool false]) (cs:=[_,_,_]) Y Y Y Y<|a6 Z Z Z Z bH) (fun _=>Z) (fun V S O=>?_)));refine fT (R:=Af) (m:=3) (e:=161) cQ.nil (show F _ _ (_::([]++_)) from O) (ec (m:=3) Z (show Af ⟨.ofNat (t+1),.ofNat k,true⟩ _ from Z)) Af.leaf (by simp) Z Z Z Z Z Z Z (fun _=>Z) (fun V E A hO23 O=>?_);refine Vt 10 Z ?_;replace O:=O.sub (cu (.cons _ (.refl _)));exact aB Z Z ⟨A,by unfold fS;rw[show N kind 2=true from bT B];exact hO23,O⟩
 exact absurd d (by rw[bT B];decide)
theorem M9 (hG:Plain G) (hg:gG K g va vb vc vd) (hR:cG g) (E:bS K 3 Af ms mv) (O:F V K L):
  Ca G K L 106 [.agg [va,vb,vc,vd],mv] V <| .bool (rp g ms):=by
 refine VV hG Tryz.func106 Z<|Vp 2 Z<|kb O (cd Z Z) (fun V b1 O=>?_);refine UJ 6 Z<|I Z (WT E Z Z Z (e:=161) Z) Z<|MM O Z (HL (kt:=161) (et:=3) Y Z) (fun _=>Z) (fun V b2 O=>?_);refine TY 7 Z (I Z (WT E Z Z Z (e:=161) Z) Z (UH 4 Z (bk ([6,7]++rg 23 9) (fun j t V=>∃(i:Nat) (es:List eW) (ck:Nat) (m:List (jg×Int)),j+i=ms.length/\fC Tz gN es m/\uw ms i m/\t.get 23=some (nI i)/\F V K ((b2,.map es ck)::(b1,.row [va,vb,vc,vd] 27 false)::L)) (ms.length) ⟨0,[],0,[],Z,.nil,uw.VW,Z,O⟩ ?_)));clear O;intro j3 t V ar hI;obtain⟨i,es,ck,m,cx,hm,a1,a2,O⟩:=hI;obtain⟨oo,rfl⟩:=ar.q1 a2 Z;refine Vo 6 Z<|aG Z (fun am=>?_) (fun am=>?_)
 ·refine Ta 7 Z ?_;obtain⟨bt,ap,b8⟩:=dH am;refine WJ (e:=161) (m:=3) E ap Z Z Z Z (fun c0 b9 a3 ca a4=>?_);obtain rfl:=a4;refine I Z (WW O a3 Z Z) Z<|kb O (WU (cs:=[J,J,.bool false])) (fun V b3 O=>?_);refine vQ 1 Z<|ks O (WY Z Z Z O.g0 Z) (fun V O=>?_);refine Vs 4 Z<|I Z (QT Z O.g0 (n:=3) (vs:=[_,_,_]) Z) Z<|vQ 1 Z ?_;replace O:=O.pull (.there<|bG.here (X:=[_]));rw[za_] at O;refine PC Q8 hm O (k:=bt) (v:=.ofNat i) Z Z Z Z Z Z (fun V es ck O bv=>?_);replace O:=O.sub (.cons_cons _ (.cons _ (.cons_cons _ (.refl _))));refine af (aD (V0 4 Z (aJ ⟨j3-1,by have:=bd am;omega,oF,i+1,es,ck,_,by omega,bv,a1.put ap,cI<|aX (by have:=E.cE;omega),O⟩)))
 refine UG 3 Z<|aR<|UD 8 Z ?_;have hlast:=Qr (a1.end_<|bJ am);clear a1;refine Wa O 2 [1,1] Z Z<|I Z (WT hg.threads Z Z Z (e:=90) Z) Z<|UH 4 Z ?_;obtain⟨LL2,O,hLL2⟩:=O.named;refine bk ([4]++rg 8 6++[15,16,17]++rg 35 43) (fun j t V=>∃(tt:Nat),j+tt=g.threads.length/\eO ms g.threads 0=eO ms (g.threads.drop tt) tt/\t.get 8=some (nI<|sQ g tt 0)/\t.get 35=some (nI tt)/\F V K LL2) (g.threads.length) ⟨0,Z,Z,congrArg (fun z=>some (U.int .i64 (.ofNat z))) Jm.symm,Z,O⟩ ?_;clear O;intro j9 t V ar hI;obtain⟨tt,c1,d,Q,a5,O⟩:=hI;subst hLL2;obtain⟨oo,rfl⟩:=ar.q2 Q a5 Z;refine Vo 6 Z<|aG Z (fun B=>?_) (fun B=>?_)
 ·refine Ta 7 Z ?_;obtain⟨R,u,cb⟩:=dH B;refine WJ (e:=90) (m:=1) hg.threads u Z Z Z Z (fun c2 cc a9 ce bb=>?_);have hr38':=bb;obtain⟨c3,rfl,aq⟩:=hr38';refine I Z (WV O a9 Z Z) Z<|UJ 12 Z<|I Z (WT aq Z Z Z (e:=45) Z) Z<|UH 4 Z ?_;obtain⟨LL3,O,hLL3⟩:=O.named;refine bk ([4,8,11,12,13,15,16,17]++rg 42 35) (fun j t V=>∃(kk:Nat) (b:Int),j+kk=R.length/\eO ms g.threads 0=(gY ms b (dQ tt (R.drop kk) kk) && eO ms (g.threads.drop (tt+1)) (tt+1))/\t.get 8=some (nI<|sQ g tt kk)/\t.get 11=some (.int .i64 b)/\t.get 42=some (nI kk)/\F V K LL3) (R.length) ⟨0,-1,Z,by rw[d,Fq u,List.drop_zero],Z,Z,Z,O⟩ ?_;clear O;intro bw t V ar hI;obtain⟨kk,b,ch,d,Q,S,be,O⟩:=hI;subst hLL3;obtain⟨oo,rfl⟩:=ar.q3 Q S be Z;refine Vo 6 Z<|aG Z (fun T=>?_) (fun T=>?_)
  ·refine Ta 7 Z ?_;obtain⟨C,W,ci⟩:=dH T;refine WJ (e:=45) (m:=5) aq W Z Z Z Z (fun c4 cl bi cn bj=>?_);obtain rfl:=bj;refine I Z (WW O bi Z Z) Z<|kb O (WU (cs:=[J,J,J,J,J])) (fun V b3 O=>?_);refine vQ 1 Z<|ks O (WZ Z Z Z O.g0 Z) (fun V O=>?_);refine UJ 5 Z (I Z (ay (v:=nI (tt+1)) Z Z<|cI<|aX (by have:=hR.threads;have:=bd B;omega)) Z (vQ 1 Z (I Z (WO (places:=[(0,1),(1,1)]) (zero:=[J,J]) (cs:=[_,_]) Z) Z<|Wa O 2 [0,0] Z Z<|kw (WQ Z Z Z) (PV hG (t:=tt) (k:=kk) C.kind O) ?_)));rintro c5 V ⟨bI,hO53,O⟩;obtain⟨K1,aa,a0,O⟩:=O.bF (M:=bI);have hnd:=hO53.ib a0;clear a0 hO53;refine I Z (WT hnd Z Z Z (e:=161) Z) Z<|UH 4 Z ?_;obtain⟨LL4,O,hLL4⟩:=O.named;refine bk ([4,8,11,15,16,17]++rg 55 21) (fun j t V=>∃(i:Nat) (b:Int),j+i=(fS tt kk C.kind).length/\eO ms g.threads 0=(gY ms b ((fS tt kk C.kind).drop i++dQ tt (R.drop (kk+1)) (kk+1)) && eO ms (g.threads.drop (tt+1)) (tt+1))/\t.get 8=some (nI (sQ g tt kk+i))/\t.get 11=some (.int .i64 b)/\t.get 55=some (nI i)/\F V K1 LL4) ((fS tt kk C.kind).length) ⟨0,b,Z,by rw[d,JT W,List.drop_zero],Z,Z,Z,O⟩ ?_;clear O;intro b0 t V ar hI;obtain⟨i,b,cp,d,Q,S,bm,O⟩:=hI;subst hLL4;obtain⟨oo,rfl⟩:=ar.q3 Q S bm Z;refine Vo 6 Z<|aG Z (fun ab=>?_) (fun ab=>?_)
   ·refine Ta 6 Z ?_;obtain⟨w,A,cr⟩:=dH ab;refine WJ (e:=161) (m:=3) hnd A Z Z Z Z (fun c7 cv bq cw br=>?_);obtain rfl:=br;refine I Z (WW O bq Z Z) Z<|kb O (WU (cs:=[J,J,.bool false])) (fun V b4 O=>?_);refine ks O (WY Z Z Z O.g0 Z) (fun V O=>?_);refine UJ 5 Z<|I Z (QT Z O.g0 (n:=3) (vs:=[_,_,_]) Z) Z<|I Z (KL Q8 hm (O.get 2 Z) (k:=w) Z Z) Z<|TY 11 Z<|I Z (df Z) Z<|ky Z (al Z) (fun ao=>?_) (fun ao=>?_)
    ·refine Vt 13 Z<|aA<|aK<|aA<|bL<|aK<|aK<|aA<|bL<|aK<|aK<|aA<|bL<|aK<|aA (?_);exact aB Z Z ⟨cB (by unfold rp;rw[d,cN A,cons_append,IJ (.inl<|Option.not_isSome_iff_eq_none.1 (by rw[<-(hlast w).1,kJ ao];decide))];rfl),(O.pop.pop.pop.pop).weaken aa⟩
    refine Vr 6 Z<|aG Z (fun ac=>?_) (fun ac=>?_)
    ·refine V5 6 Z<|aA<|aK<|aA<|bL<|aK<|aK<|aA<|bL<|aK<|aK<|aA<|bL<|aK<|aA (?_);obtain⟨a,ha⟩:∃a,gM ms 0 w none=some a:=ze_.1 (by rw[<-(hlast w).1];exact ft ao);have hga:=(hlast w).2 a ha;rw[hga] at ac;exact aB Z Z ⟨cB (by unfold rp;rw[d,cN A,cons_append,IJ (.inr ⟨a,ha,de ac⟩)];rfl),(O.pop.pop.pop.pop).weaken aa⟩
    refine UF 6 Z (Vs 4 Z (I Z (ay (v:=nI (sQ g tt kk+i+1)) Z Z (cI (aX (by have:=HY hR.threads hR.short (t:=tt) (k:=kk) (by have:=bd B;omega) (by have:=bd T;have:=hR.short tt _ u;omega);have:=Bn (t:=tt) (k:=kk) (kind:=C.kind);have:=bd ab;omega)))) Z<|V6 2 Z<|aD<|V0 4 Z ?_));have O:=O.pop;have hlt57:=bd ab;obtain⟨a,ha⟩:∃a,gM ms 0 w none=some a:=ze_.1 (by rw[<-(hlast w).1];exact ft ao);have hga:=(hlast w).2 a ha;rw[hga] at ac;refine aJ ⟨b0-1,by omega,oF,i+1,.ofNat a,by omega,by rw[d,cN A,cons_append,Kh ha<|bT ac],Z,cI hga,cI<|aX (by have:=hnd.cE;omega),O⟩
   refine UG 3 Z<|aR<|aD<|V0 4 Z ?_;have O:=O.pop;have hkl:=bd T;have b5:i=(fS tt kk C.kind).length:=by have:=bJ ab;omega
   subst b5;rw[drop_length,List.nil_append] at d;replace O:=O.weaken aa;refine aJ ⟨bw-1,by omega,oF,kk+1,b,by omega,d,congrArg (fun z=>some (U.int .i64 (.ofNat z))) (RJ u W).symm,Z,cI<|aX (by have:=hR.short tt _ u;omega),O⟩
  refine UG 3 Z<|aR<|aD<|V0 4 Z ?_;have htl:=bd B;have b6:kk=R.length:=by have:=bJ T;omega
  subst b6;rw[drop_length] at d;have bs:eO ms g.threads 0=eO ms (g.threads.drop (tt+1)) (tt+1):=d;refine aJ ⟨j9-1,by omega,oF,tt+1,by omega,bs,congrArg (fun z=>some (U.int .i64 (.ofNat z)))<|RK u,cI<|aX (by have:=hR.threads;omega),O⟩
 refine UG 3 Z<|aR<|Vp 4 Z<|I Z (WT E Z Z Z (e:=161) Z) Z<|Vt 5 Z ?_;have b7:tt=g.threads.length:=by have:=bJ B;omega
 subst b7;rw[drop_length] at d;exact aB Z Z ⟨cB (by unfold rp;rw[d,DZ,dY];rfl),O.pop.pop⟩
structure gW (K:KP) (s:XS) (va vb vc vd mv:U):Prop where
 gr:gG K s.g va vb vc vd
 marks:bS K 3 Af s.marks mv
theorem gW.mono {K K':KP} {s:XS} {va vb vc vd mv:U} (h:gW K s va vb vc vd mv) (hk:KP.le K K'):gW K' s va vb vc vd mv:=⟨h.gr.mono hk,h.marks.mono hk fun _ _ h=>h⟩
section
variable {s:XS}
theorem Lk (h:N (cY s.g) 0=false):gz s=false:=by unfold gz;rw[h];rfl
theorem Ll (h1:N (cY s.g) 0=true) (h:rp s.g s.marks=false):gz s=false:=by unfold gz;rw[h1,h];rfl
theorem oV (h1:N (cY s.g) 0=true) (h:rp s.g s.marks=true):gz s=gg s:=by unfold gz;rw[h1,h];rfl
theorem JF (h:cM s.half 0=true):gg s=false:=by unfold gg;rw[h];rfl
theorem JE (h:cM s.half 0=false) (d:cM (.ofNat s.g.threads.length) s.half=true):gg s=false:=by unfold gg;rw[h,d];rfl
theorem L6 (h:cM s.half 0=false) (d:cM (.ofNat s.g.threads.length) s.half=false) (h3:cM 0 s.half=false):gg s=true:=by unfold gg;rw[h,d,h3];rfl
theorem yY (h:cM s.half 0=false) (d:cM (.ofNat s.g.threads.length) s.half=false) (h3:cM 0 s.half=true) {row:List cz} (hh:s.half= .ofNat (tm+1)) (hr:s.g.threads[tm]? =some row):gg s=match row[row.length-1]? with | some e=>N e.kind 1 | none=>false:=by
 have e:gg s=match(hY s.g (s.half.toNat-1)).getLast? with | some e=>N e.kind 1 | none=>false:=by unfold gg;rw[h,d,h3];rfl
 rw[e,hh,show(hY s.g ((.ofNat (tm+1):Int).toNat-1))=row from by unfold hY;show(s.g.threads[tm]?).getD []=row;rw[hr];rfl,List.getLast?_eq_getElem?]
end
theorem Nb (hG:Plain G) {s:XS} (R:gW K s va vb vc vd mv) (O:F V K L):
  Ca G K L 57 [.agg [va,vb,vc,vd,mv,.int .i64 s.half]] V <| .int .i64 (bif gz s then 0 else 2):=by
 refine VV hG Tryz.func57 Z<|Vp 2 Z<|kb O (cd Z Z) (fun V b1 O=>?_);refine Ua O 7 [0] Z Z<|I Z (W1 Z O.g0 Z) Z<|kx (WQ Z Z Z) (xT hG R.gr O) (fun V O=>?_);refine vQ 1 Z<|ky Z (al Z) (fun E=>?_) (fun E=>?_)
 ·refine UL 17 Z ?_;exact aB Z Z ⟨cJ (by rw[show gz s=false from Lk (de E)];rfl),O.pop⟩
 refine I Z (WR 0 Z) Z<|I Z (W1 Z O.g0 Z) Z<|Wa O 2 [4,0] Z Z<|kx (WQ Z Z Z) (M9 hG R.gr (cP.1<|AT<|bT E) R.marks O) (fun V O=>?_);refine I Z (df Z) Z<|Vr 3 Z<|aG Z (fun d=>?_) (fun d=>?_)
 ·refine Vq 7 Z ?_;exact aB Z Z ⟨cJ (by rw[show gz s=false from Ll (bT E) (kJ d)];rfl),O.pop⟩
 refine T0 O 8 [5,0] Z Z<|ky Z (al Z) (fun u=>?_) (fun u=>?_)
 ·refine UL 18 Z ?_;exact aB Z Z ⟨cJ (by rw[show gz s=false from(oV (bT E)<|ft d).trans (JF u)];rfl),O.pop⟩
 refine Wa O 5 [5,0,0,1,0] Z Z<|I Z (WT R.gr.threads Z Z Z (e:=90) Z) Z<|Vr 4 Z<|aG Z (fun w=>?_) (fun w=>?_)
 ·refine Vq 7 Z ?_;exact aB Z Z ⟨cJ (by rw[show gz s=false from(oV (bT E)<|ft d).trans (JE u w)];rfl),O.pop⟩
 refine T0 O 8 [5,0] Z Z<|Vr 2 Z<|aG Z (fun z=>?_) (fun z=>?_)
 ·refine Vp 2 Z ?_;obtain⟨S,B⟩:=ij u
  obtain⟨tm,rfl⟩:∃tm,S=tm+1:=by
   cases S with
   | zero=>rw[B] at z;cases z
   | succ tm=>exact⟨tm,Z⟩
  have ac:tm<s.g.threads.length:=by have h:=w;rw[B] at h;have:=bJ h;omega
  obtain⟨row,dP⟩:=da ac;refine Wa O 5 [0,1,0,5,0] Z Z<|I Z (ay (v:=nI tm) Z Z (by rw[B];exact cI<|fx (by have:=R.gr.threads.cE;omega))) Z (WJ (e:=90) (m:=1) R.gr.threads dP Z Z Z Z (fun ar am T ao W=>?_));have hr37':=W;obtain⟨a0,rfl,A⟩:=hr37';refine I Z (WV O T Z Z) Z<|UJ 6 Z<|I Z (WT A Z Z Z (e:=45) Z) Z<|vQ 1 Z<|ky Z (al Z) (fun M=>?_) (fun M=>?_)
  ·refine UL 19 Z ?_;exact aB Z Z ⟨cJ (by rw[show gz s=false from(oV (bT E)<|ft d).trans ((yY u w z B dP).trans (by rw[gN_ (show row.length<=row.length-1 from by have:row.length=0:=qT.1 M;omega)]))];rfl),O.pop⟩
  refine V7 2 Z<|I Z (WT A Z Z Z (e:=45) Z) Z ?_;have a1:row.length≠0:=fun e=>by rw[e] at M;cases M
  obtain⟨a2,C⟩:=da (show row.length-1<row.length by omega);refine I Z (ay (v:=nI (row.length-1)) Z Z (by obtain⟨q,hq⟩:∃q,row.length=q+1:=⟨row.length-1,by omega⟩;rw[hq];exact cI<|fx (by have:=A.cE;omega))) Z (WJ (e:=45) (m:=5) A C Z Z Z Z (fun a3 ap X aq aa=>?_));obtain rfl:=aa;refine bX X Z Z Z (k:=0) Y (lb Z) (fun _=>Z) (fun a4 ab=>?_);refine I Z (WV O ab Z Z) Z<|Vr 4 Z<|aG Z (fun Q=>?_) (fun Q=>?_)
  ·refine Vq 7 Z ?_;exact aB Z Z ⟨cJ (by rw[show gz s=false from(oV (bT E)<|ft d).trans ((yY u w z B dP).trans (by rw[C];exact de Q))];rfl),O.pop⟩
  refine Vq 8 Z ?_;exact aB Z Z ⟨cJ (by rw[show gz s=true from(oV (bT E)<|ft d).trans ((yY u w z B dP).trans (by rw[C];exact bT Q))];rfl),O.pop⟩
 refine Vq 8 Z ?_;exact aB Z Z ⟨cJ (by rw[show gz s=true from(oV (bT E)<|ft d).trans (L6 u w z)];rfl),O.pop⟩
def xY (x:U) (vs:List U):Prop:=vs= [x]/\ml x=true/\dg x=some [x]
theorem xY.leaf (x:U) (vs:List U) (h:xY x vs):cF vs=true:=by
  rw[h.1];exact ah h.2.1 az
theorem cQ.Ui {α:Type} {m E:Nat} {R:α->List U->Prop} {l:List α} {u:U} {M:Own} (h:cQ m E R l u M):xY u [u]:=⟨Z,h.leaf.2,h.leaf.1⟩
section
variable {α:Type} {m E E2:Nat} {R:α->List U->Prop} {ls:List (List α)} {us:List U} {u:U} {N_ M:Own} {K:KP}
theorem tZ (d:cQ 1 E2 xY us u N_) (h:jf m E R ls us M) (w:∀e∈N_,K e.1 e.2) (z:∀e∈M,K e.1 e.2):bS K 1 (RL K m R) ls u:=by
  have hl:=h.length;rcases d with ⟨rfl,rfl,_⟩ | ⟨b,c,cells,e,rfl,rfl,h3,h4,h5,h6⟩
  · exact .inl ⟨List.length_eq_zero_iff.1 hl.symm,Z⟩
  · refine .inr ⟨b,0,c,cells,e,false,by rw[hl],?_,w _<|mS_ ..,by omega,by omega,fun i x hx=>?_⟩
    · rcases h5 with h5 | h5
      · exact .inr ⟨_,h5,by omega⟩
      · exact .inl h5.1
    · obtain⟨u,h1,A⟩:=h.each z i x hx
      refine⟨u,?_,A⟩;have:=(h4 i u h1).1;simpa using this
theorem sr (z:cQ 1 E2 xY us u N_) {i:Nat} {x:U} (hx:us[i]? =some x):∃b c e,u= .slice b 0 us.length c/\N_= [(b,.row us e false)]/\us.length<=1048576/\(c= .known us.length∨(c= .upto 1/\e=E2)):=by
  rcases z with ⟨rfl,_⟩ | ⟨b,c,cells,e,rfl,rfl,h3,h4,h5,A⟩
  · simp at hx
  · refine⟨b,c,e,Z,?_,A,h5⟩
    have key:cells=us:=by
     refine zf_ fun i=>?_
     by_cases hi:i<us.length
     · obtain⟨y,d⟩:=da hi
       have:=(h4 i y d).1;rw[d];have w:i<cells.length:=by omega
       rw[gC w];rw[Nat.mul_one,zj_ w] at this
       grind
     simp_all
    rw[key]
theorem Br {b:Nat} {c:ou} (hu:∀x∈us,xY x [x]) (d:us.length<=1048576) (h5:c= .known us.length∨(c= .upto 1/\e=E2)):cQ 1 E2 xY us (.slice b 0 us.length c) [(b,.row us e false)]:=by
  refine .inr ⟨b,c,us,e,Z,Z,by omega,fun i x hx=>?_,h5,d⟩;obtain⟨h1,w⟩:=gA.1 hx;rw[Nat.mul_one,zj_ h1,w]
  grind
theorem wj {b:Nat} {c:ou} (hu:∀x∈us,xY x [x]) (h6:us.length<=1048576) (h5:c= .known us.length∨(c= .upto 1/\e=E2)) {i:Nat} {w:U} (hw:xY w [w]):cQ 1 E2 xY (us.set i w) (.slice b 0 us.length c) [(b,.row (us.set i w) e false)]:=by
  grind [zg_,Br]
theorem Ck {b n E2:Nat} {c:ou} (h5:c= .known n∨(c= .upto 1/\e=E2)):eM (.slice b 0 n c) (.slice b 0 n c)=true:=by
  unfold eM;show(eM.beqP b b && Nat.beq 0 0 && Nat.beq n n && eM.beqC c c)=true;have hp:eM.beqP b b=true:=Nat.beq_refl b
  have aa:eM.beqC c c=true:=by
    rcases h5 with rfl | ⟨rfl,_⟩
    · exact Nat.beq_refl n
    · exact Nat.beq_refl 1
  simp_all
theorem Fw {A X B R:Own}:A++(X++(B++R))=(A++(X++B))++R:=by simp_all
theorem Io {α:Type} {m:Nat} {R:α->List U->Prop} {l:List α} {cells:List U} {i:Nat} {x:α} (h3:cells.length=l.length*m) (h4:∀(i:Nat) (x:α),l[i]? =some x->R x ((cells.drop (i*m)).take m)) (hi:i<l.length) (hm:vs.length=m) (hR:R x vs):
    (dy vs cells (0+i*m)).length=(l.set i x).length*m/\∀(j:Nat) (y:α),(l.set i x)[j]? =some y->R y (((dy vs cells (0+i*m)).drop (j*m)).take m):=by
  have hle:(i+1)*m<=l.length*m:=nM_ _ hi;have hs:(i+1)*m=i*m+m:=by grind
  have he:dy vs cells (0+i*m)=cells.take (i*m)++vs++cells.drop (i*m+m):=by
    rw[nA_,lF _ _ _ oM,hm]
  have h5:(cells.take (i*m)).length=i*m:=by grind
  rw[he];refine⟨by grind,fun j y d=>?_⟩;rw[lQ_]
  by_cases e:i=j
  · simp_all
  · rw[List.getElem?_set_ne e] at d
    have hj:=h4 j y d;have hjl:=(gA.1 d).1
    have key:(((cells.take (i*m))++(vs++cells.drop (i*m+m))).drop (j*m)).take m=(cells.drop (j*m)).take m:=by
      rcases Nat.lt_or_gt_of_ne e with h | h
      · have w:(i+1)*m<=j*m:=nM_ _ h
        rw[<-lQ_,List.drop_append,List.drop_of_length_le (by simp_all),List.nil_append,lA_,h5,hm,zl_];congr 2;omega
      · have w:(j+1)*m<=i*m:=nM_ _ h
        have h8:(j+1)*m=j*m+m:=by grind
        grind [List.drop_take]
    rw[key];exact hj
theorem NL {α:Type} {l:List α} {x:α} (h:l≠[]):l.set (l.length-1) x=l.dropLast++[x]:=by
  have hl:0<l.length:=List.length_pos_iff.2 h;rw[List.set_eq_take_append_cons_drop,if_pos oM,List.dropLast_eq_take,List.drop_of_length_le oM]
theorem sn (d:cQ 1 E2 xY us u N_):∀x∈us,xY x [x]:=fun x hx=>by
  obtain⟨i,hi⟩:=gO_ hx;rcases d with ⟨rfl,_⟩ | ⟨b,c,cells,e,rfl,rfl,h3,h4,h5,h6⟩
  · simp at hi
  · have:=h4 i x hi
    exact⟨Z,this.2⟩
end
structure OX where
  u1:U
  u2:U
  Dl:List U
  N2:Own
  M2:Own
  u3:U
  FO:List U
  N3:Own
  M3:Own
  u4:U
  FP:List U
  N4:Own
  M4:Own
  u5:U
  N5:Own
abbrev OX.own (o:OX) (L:Own):Own:=o.N2++(o.M2++(o.N3++(o.M3++(o.N4++(o.M4++(o.N5++L))))))
abbrev OX.cells (o:OX) (h:Int):List U:=[o.u1,o.u2,o.u3,o.u4,o.u5,.int .i64 h]
structure KW (K:KP) (s:XS) (o:OX):Prop where
  init:bS K 1 g9 s.g.init o.u1
  oT:cQ 1 90 xY o.Dl o.u2 o.N2
  Hy:jf 5 45 jl s.g.threads o.Dl o.M2
  oF:cQ 1 84 xY o.FO o.u3 o.N3
  WB:jf 2 68 jm s.g.from_ o.FO o.M3
  oO:cQ 1 84 xY o.FP o.u4 o.N4
  ord:jf 2 68 jm s.g.order o.FP o.M4
  marks:cQ 3 161 Af s.marks o.u5 o.N5
def Step (G:Cx) (K:KP) (c:Nat×List U×List U) (s s':XS):Prop:=
  l6 Tryz.prog c.1=true/\∀K1,KP.le K K1->∀o,KW K1 s o->∀(V:aF) (L:Own),F V K1 (o.own L)->a8 Tryz.prog G c.1 (c.2.1++([.agg<|o.cells s.half]++c.2.2)) V fun v V'=>∃o',v= .agg (o'.cells s'.half)/\KW K1 s' o'/\F V' K1 (o'.own L)
theorem Step.mono {K K':KP} {c:Nat×List U×List U} {s s':XS} (h:Step G K c s s') (hk:KP.le K K'):Step G K' c s s':=⟨h.1,fun d h1=>h.2 d (kR hk h1)⟩
inductive qC (G:Cx) (K:KP):List (Nat×List U×List U)->XS->XS->Prop
  | nil {s:XS}:qC G K [] s s
  | cons {c:Nat×List U×List U} {cs:List (Nat×List U×List U)} {s s1 s':XS}:Step G K c s s1->qC G K cs s1 s'->qC G K (c::cs) s s'
theorem qC.mono {G:Cx} {K K':KP} {cs:List (Nat×List U×List U)} {s s':XS} (h:qC G K cs s s') (hk:KP.le K K'):qC G K' cs s s':=by
  induction h with
  | nil=>exact .nil
  | cons h1 _ ih=>exact .cons (h1.mono hk) ih
def Oy (c:Nat×List U×List U) (vs:List U):Prop:=vs= [.func c.1 c.2.1 c.2.2]
theorem BU (B:Plain G) {l:List Int} {v:U} (h:bS K 1 g9 l v) (hn:l.length<=1048576) (O:F V K L):EC G 105 [v] V fun u V'=>∃M,cQ 1 2 g9 l u M/\F V' K (M++L):=by
 have h0:=h;rcases h0 with ⟨rfl,rfl⟩ | ⟨b,off,c,cells,e,ro,rfl,_⟩
 ·refine VV B Tryz.func105 Z<|V5 20 Z ?_;exact aB Z Z ⟨[],.inl ⟨Z,Z,Z⟩,O⟩
 refine VV B Tryz.func105 Z<|Vp 17 Z<|fg O Z (bR (e:=2) (m:=1) (z:=[J]) (cs:=[]) Y Y Y Y (by rfl)) (fun _=>Z) (fun V b1 O=>?_);refine vQ 1 Z<|pg (R:=g9) (m:=1) (e:=2) O h g9.leaf hn (by simp) (by decide) (.inl Z) Z Z Z Z Z Y Y Y Z Z (fun _=>Z) (fun V C Q news E O d w A=>?_);refine Vt 4 Z ?_;exact aB Z Z ⟨[(C,.row ([]++news) E false)],.inr ⟨C,Q,news,E,by rw[nA_],Z,d,w,by simpa using A,hn⟩,O⟩
theorem N8 (B:Plain G) {l:List cz} {v:U} (h:bS K 5 jl l v) (hn:l.length<=1048576) (O:F V K L):EC G 292 [v] V fun u V'=>∃M,cQ 5 45 jl l u M/\F V' K (M++L):=by
 have h0:=h;rcases h0 with ⟨rfl,rfl⟩ | ⟨b,off,c,cells,e,ro,rfl,_⟩
 ·refine VV B Tryz.func292 Z<|V5 20 Z ?_;exact aB Z Z ⟨[],.inl ⟨Z,Z,Z⟩,O⟩
 refine VV B Tryz.func292 Z<|Vp 17 Z<|fg O Z (bR (e:=45) (m:=5) (z:=[J,J,J,J,J]) (cs:=[]) Y Y Y Y (by rfl)) (fun _=>Z) (fun V b1 O=>?_);refine vQ 1 Z<|pg (R:=jl) (m:=5) (e:=45) O h jl.leaf hn (by simp) (by decide) (.inl Z) Z Z Z Z Z Y Y Y Z Z (fun _=>Z) (fun V C Q news E O d w A=>?_);refine Vt 4 Z ?_;exact aB Z Z ⟨[(C,.row ([]++news) E false)],.inr ⟨C,Q,news,E,by rw[nA_],Z,d,w,by simpa using A,hn⟩,O⟩
theorem N9 (B:Plain G) {l:List cD} {v:U} (h:bS K 2 jm l v) (hn:l.length<=1048576) (O:F V K L):EC G 293 [v] V fun u V'=>∃M,cQ 2 68 jm l u M/\F V' K (M++L):=by
 have h0:=h;rcases h0 with ⟨rfl,rfl⟩ | ⟨b,off,c,cells,e,ro,rfl,_⟩
 ·refine VV B Tryz.func293 Z<|V5 20 Z ?_;exact aB Z Z ⟨[],.inl ⟨Z,Z,Z⟩,O⟩
 refine VV B Tryz.func293 Z<|Vp 17 Z<|fg O Z (bR (e:=68) (m:=2) (z:=[J,J]) (cs:=[]) Y Y Y Y (by rfl)) (fun _=>Z) (fun V b1 O=>?_);refine vQ 1 Z<|pg (R:=jm) (m:=2) (e:=68) O h jm.leaf hn (by simp) (by decide) (.inl Z) Z Z Z Z Z Y Y Y Z Z (fun _=>Z) (fun V C Q news E O d w A=>?_);refine Vt 4 Z ?_;exact aB Z Z ⟨[(C,.row ([]++news) E false)],.inr ⟨C,Q,news,E,by rw[nA_],Z,d,w,by simpa using A,hn⟩,O⟩
end Go.Ev
end
