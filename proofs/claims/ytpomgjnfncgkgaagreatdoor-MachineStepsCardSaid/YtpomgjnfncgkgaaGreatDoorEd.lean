/- Part of the proof: an evaluator of the model's code, rules for walks on it, walks. Without conditions. -/
import Derived.Test.YtpomgjnfncgkgaaGreatDoorEb
import Derived.Test.YtpomgjnfncgkgaaGreatDoorEc
import Derived.ReadAgain
import Derived.ProofKit
import Derived.Test.YtpomgjnfncgkgaaGreatDoorProg
import Derived.KernelRfl
set_option linter.unusedSectionVars false
set_option linter.unusedVariables false
set_option linter.unusedSimpArgs false
noncomputable section
namespace Go.Ev
variable [Env]
open Go.Proofs
set_option maxRecDepth 4000
set_option maxHeartbeats 8000000
theorem FA {α β:Type} {f:α->List β} {x:α} {i:Nat}:(([x].take i).map f).flatten.length<=(f x).length:=by
 cases i with
 | zero=>simp
 | succ i=>simp
theorem qM {α β:Type} {f:α->List β} {l:List α} {i:Nat} (h:i=0):((l.take i).map f).flatten= []:=by subst h;simp
theorem Nf {α:Type} {x y:α} {i:Nat} (h: [x][i]?=some y):x=y:=by
 cases i with
 | zero=>simpa using h
 | succ i=>simp at h
theorem Bw {G:Cx} (d:Plain G) {K:KP} {U:D} {L:Own} (aq:J U K L):bk Tryz.prog G 277 [.ax] U fun v U'=>v= .ax/\J U' K L:=by
 have f:bR K 7 (OC .ax) [] .ax:=.inl ⟨Z,Z⟩;refine PS d Tryz.func277 Z<|OH 17 Z ?_;obtain⟨LL1,aq,hLL1⟩:=aq.named;refine bp (rg 3 59) (fun j t U=>t.get 3=some (.ax)/\t.get 4=some (.int .i64 (.ofNat 0))/\J U K LL1) (0) ⟨Z,Z,aq⟩ ?_;clear aq;intro j3 t U ar g;obtain⟨a,b,aq⟩:=g;subst hLL1;obtain⟨oo,rfl⟩:=ar.q2 a b Z;refine OI 5 Z<|O Z (QD f Z Z Z (e:=304) Z) Z<|Pv 3 Z<|aE Z (fun c=>?_) (fun c=>?_)
 ·exact absurd (bu c) (by simp)
 refine OL 3 Z<|aT<|PX 7 Z ?_;exact aA Z Z ⟨Z,aq⟩
theorem HZ {G:Cx} (hG:Plain G) {K:KP} {k:Nat} {x:XE} {ev v:V} (h:bR K 7 (OC ev) [()] v) (he:bR K 4 (ey K k) [x] ev) (hS:cU k x<=1000000) {U:D} {L:Own} (aq:J U K L):bk Tryz.prog G 277 [v] U fun v U'=>∃K1,KP.le K K1/\bR K1 1 fZ (fU k x) v/\J U' K1 L:=by
 have r:bR K 1 fZ [] .ax:=.inl ⟨Z,Z⟩;have hrl:=qk k x;refine PS hG Tryz.func277 Z<|OH 17 Z<|bp (rg 3 59) (fun j t U=>∃(i:Nat) (u:V) (M:Own),j+i=1/\cQ 1 9 fZ (([()].take i).map fun _=>fU k x).flatten u M/\t.get 3=some (u)/\t.get 4=some (.int .i64 (.ofNat i))/\J U K (M++L)) (1) ⟨0,_,[],Z,cQ.nil,Z,Z,aq⟩ ?_;clear aq;intro j3 t U ar hI;obtain⟨i,u,M,hj,hO,y,aY,aq⟩:=hI;obtain⟨oo,rfl⟩:=ar.q2 y aY Z;refine OI 5 Z<|O Z (QD h Z Z Z (e:=304) Z) Z<|Pv 3 Z<|aE Z (fun s=>?_) (fun s=>?_)
 ·refine NO 5 Z<|Pt 4 Z ?_;obtain⟨bo,a,a5⟩:=cL s;refine Qu (e:=304) (m:=7) h a Z Z Z Z (fun bs A C a6 c=>?_);replace c:A= [T,.str [],.str [],T,ev,.ax,.ax]:=c;subst c;refine cq C Z Z Z (k:=1) Y (lb Z) (fun _=>Z) (fun bt E=>?_);refine O Z (QF aq E Z Z) Z<|Pv 3 Z<|aE Z (fun F=>absurd (show false=true from F) (by decide)) (fun F=>?_);refine Ok 9 Z<|bp ([3,5]++rg 26 21) (fun j t U=>∃(q:Nat) (u2:V) (M2:Own),j+q=1/\cQ 1 9 fZ ((([()].take i).map fun _=>fU k x).flatten++(([x].take q).map<|fU k).flatten) u2 M2/\t.get 3=some (u2)/\t.get 5=some (.int .i64 (.ofNat q))/\J U K (M2++L)) (1) ⟨0,_,M,Z,by simpa using hO,Z,Z,aq⟩ ?_;clear aq;intro j8 t U ar hI;obtain⟨q,u2,M2,bv,hO2,y,a0,aq⟩:=hI;obtain⟨oo,rfl⟩:=ar.q2 y a0 Z;refine OI 6 Z<|Qu (e:=304) (m:=7) h a Z Z Z Z (fun bw P Q a7 d=>?_);replace d:P= [T,.str [],.str [],T,ev,.ax,.ax]:=d;subst d;refine cq Q Z Z Z (k:=4) Y (lb Z) (fun _=>Z) (fun b0 W=>?_);refine O Z (QF aq W Z Z) Z<|O Z (QD he Z Z Z (e:=82) Z) Z<|Pv 3 Z<|aE Z (fun b=>?_) (fun b=>?_)
  ·refine Ok 4 Z<|ai Z<|PZ 3 Z<|Qu (e:=304) (m:=7) h a Z Z Z Z (fun b1 X aa a8 f=>?_);replace f:X= [T,.str [],.str [],T,ev,.ax,.ax]:=f;subst f;refine cq aa Z Z Z (k:=4) Y (lb Z) (fun _=>Z) (fun b2 ab=>?_);refine O Z (QF aq ab Z Z) Z<|vQ 1 Z ?_;obtain⟨b3,g,a9⟩:=cL b;refine Qu (e:=82) (m:=4) he g Z Z Z Z (fun b4 bb ac be w=>?_);obtain⟨b5,b6,b7,b8,rfl,bi⟩:=w.shape;refine O Z (QG aq ac Z Z) Z ?_;obtain rfl:=Nf g;refine cH Z (Qz Z Z Z) (fun _=>Z) (KB hG _ _ _ w hS _ _ aq) ?_;rintro b9 U ⟨ca,z,hS45,aq⟩;refine tW (R:=fZ) (m:=1) (e:=9) hO2 aq hS45 fZ.leaf (by have e1:(([()].take i).map fun _=>fU k x).flatten= []:=qM (by have:=bu s;simpa using this);have e2:(([x].take q).map<|fU k).flatten= []:=qM (by have:=bu b;simpa using this);rw[e1,e2];simp;omega) Z Z Z Z Z Z Z (fun _=>Z) (fun U a1 a2 hO46 aq=>?_);replace aq:=aq.weaken z;refine PY 2 Z<|aJ<|PW 5 Z<|aO ⟨j8-1,(by have:=bu b;simp at this;omega),oF,q+1,a1,a2,(by have:=bu b;simp at this;omega),(by rw[nY g,<-lQ_];exact hO46),Z,cI<|bg B,aq⟩
  refine OL 3 Z (aT (ad (aS (l:=[(0,[]),(1,[]),(2,[]),(3,[]),(4,[]),(5,[]),(8,[]),(9,[]),(10,[]),(11,[]),(12,[]),(6,[12]),(7,[12]),(13,[]),(14,[]),(15,[])]) Y Y<|P1 3 Z<|Qv (e:=304) (m:=7) h a Z Z Z Z Z (fun cb ag am bl n=>?_))));replace n:ag= [T,.str [],.str [],T,ev,.ax,.ax]:=n;subst n;refine ka am Z Z Z Z (k:=5) Y (lb Z) (fun _=>Z) (fun cc ao=>?_);refine al Z Z (QF aq ao Z Z) Z<|P1 2 Z<|Qv (e:=304) (m:=7) h a Z Z Z Z Z (fun ce ap aI bm o=>?_);replace o:ap= [T,.str [],.str [],T,ev,.ax,.ax]:=o;subst o;refine ka aI Z Z Z Z (k:=6) Y (lb Z) (fun _=>Z) (fun cg p=>?_);refine al Z Z (QF aq p Z Z) Z<|cA Z Z (Qz Z Z Z) (fun _=>Z) (Bw hG aq) (fun U aq=>?_);refine⟨(bB (bN Z Z Z Z Z (QF aq p Z Z) Z) aV),?_⟩;refine kL (R:=fZ) (m:=1) (e:=9) hO2 aq r fZ.leaf (by have h1:(([x].take q).map<|fU k).flatten.length<=(fU k x).length:=FA;have e1:(([()].take i).map fun _=>fU k x).flatten= []:=qM (by have:=bu s;simpa using this);rw[e1,List.nil_append];show _+0<=_;omega) Z Z Z Z Z Z Z Z (fun _=>Z) (fun U ch ci hO54 aq=>?_);refine⟨(bB (bN Z Z Z Z Z (QF aq p Z Z) Z) aV),?_⟩;refine cA Z Z (Qz Z Z Z) (fun _=>Z) (Bw hG aq) (fun U aq=>?_);refine⟨aV,?_⟩;refine kL (R:=fZ) (m:=1) (e:=9) hO54 aq r fZ.leaf (by have h1:(([x].take q).map<|fU k).flatten.length<=(fU k x).length:=FA;have e1:(([()].take i).map fun _=>fU k x).flatten= []:=qM (by have:=bu s;simpa using this);rw[List.append_nil,e1,List.nil_append];show _+0<=_;omega) Z Z Z Z Z Z Z Z (fun _=>Z) (fun U a3 a4 hO61 aq=>?_);refine⟨aV,?_⟩;refine P0 2 Z (aJ (PW 5 Z (aO ⟨j3-1,(by have:=bu s;simp at this;omega),oF,i+1,a3,a4,(by have:=bu s;simp at this;omega),(by rw[nY a];have e3: [x].take q= [x]:=tL_ (bC b);rw[e3] at hO61;simpa using hO61),Z,cI<|bg B,aq⟩)))
 refine OL 3 Z<|aT<|PX 7 Z ?_;exact aA Z Z ⟨K.ic M,KP.bX _ _,by rw[tL_<|bC s] at hO;exact(show cQ 1 9 fZ (fU k x) u M by simpa using hO).iu,aq.keeps⟩
theorem N2 {G:Cx} (hG:Plain G) {K:KP} {l:List (List Nat)} {v:V} (h:bR K 1 fZ l v) (hl:l.length<=100000) {U:D} {L:Own} (aq:J U K L):bk Tryz.prog G 276 [v] U fun v U'=>∃c l',KP.le K c/\bR c 1 fZ l' v/\(∀s,s∈l'↔s∈l)/\J U' c L:=by
 refine PS hG Tryz.func276 Z<|OH 17 Z ?_;obtain⟨LL1,aq,hLL1⟩:=aq.named;refine bp (rg 3 56) (fun j t U=>∃(i:Nat) (o:List (List Nat)) (u:V) (c:KP),j+i=l.length/\KP.le K c/\bR c 1 fZ o u/\(∀s,s∈o↔s∈l.take i)/\o.length<=i/\t.get 3=some (u)/\t.get 4=some (.int .i64 (.ofNat i))/\J U c LL1) (l.length) ⟨0,[],.ax,K,Z,KP.le_refl _,.inl ⟨Z,Z⟩,by simp,nR_ _,Z,Z,aq⟩ ?_;clear aq;intro j3 t U ar hI;obtain⟨i,o,u,c,hj,hle,g,hm,C,aI,aY,aq⟩:=hI;subst hLL1;obtain⟨oo,rfl⟩:=ar.q2 aI aY Z;have h1:=h.mono hle (fun _ _ h=>h);refine OI 5 Z<|O Z (QD h1 Z Z Z (e:=9) Z) Z<|Pv 3 Z<|aE Z (fun n=>?_) (fun n=>?_)
 ·refine NO 10 Z<|aN ?_;obtain⟨LL2,aq,hLL2⟩:=aq.named;refine bp ([5]++rg 12 17) (fun j t U=>∃(k2:Nat),j+k2=o.length/\t.get 5=some (.int .i64 (.ofNat k2))/\J U c LL2) (o.length) ⟨0,Z,Z,aq⟩ ?_;clear aq;intro j6 t U ar hI;obtain⟨k2,b4,a0,aq⟩:=hI;subst hLL2;obtain⟨oo,rfl⟩:=ar.q1 a0 Z;refine ak<|ak<|aS (l:=zp [0,1,2,3,4,5,6,7,8,9,10,11,12,13,14]) Y Y<|P1 2 Z<|al Z Z (QD g Z Z Z (e:=9) Z) Z<|wQ 1 Z<|dZ Z Z (an Z) (fun _=>Z) (fun d=>?_) (fun d=>?_)
  ·refine P1 2 Z ?_;obtain⟨b5,E,bb⟩:=cL d;refine Qv (e:=9) (m:=1) g E Z Z Z Z Z (fun b6 be F bi M=>?_);obtain rfl:=M;refine al Z Z (QF aq F Z Z) Z<|P1 2 Z ?_;obtain⟨b7,P,bl⟩:=cL n;refine Qv (e:=9) (m:=1) h1 P Z Z Z Z Z (fun b8 bm Q bo W=>?_);obtain rfl:=W;refine al Z Z (QF aq Q Z Z) Z<|Py 4 Z<|aE Z (fun a1=>?_) (fun a1=>?_)
   ·refine aG<|PW 7 Z<|aO ⟨j6-1,(by have:=bu d;omega),oF,k2+1,(by have:=bu d;omega),cI<|bg (by have:=g.bG;omega),aq⟩
   refine OL 3 Z<|aT<|ad<|ak<|ak<|aS (l:=zp [0,1,2,3,4,5,6,7,8,9,10,11,12,13,14]) Y Y<|P1 2 Z<|al Z Z (QD g Z Z Z (e:=9) Z) Z<|wQ 1 Z<|dZ Z Z (an Z) (fun _=>Z) (fun f=>?_) (fun f=>?_)
   ·refine P1 2 Z ?_;obtain⟨b9,w,bs⟩:=cL f;refine Qv (e:=9) (m:=1) g w Z Z Z Z Z (fun ca bt aa bv ab=>?_);obtain rfl:=ab;refine al Z Z (QF aq aa Z Z) Z<|P1 2 Z ?_;obtain⟨cb,x,bw⟩:=cL n;refine Qv (e:=9) (m:=1) h1 x Z Z Z Z Z (fun cc b0 ac b3 ag=>?_);obtain rfl:=ag;refine al Z Z (QF aq ac Z Z) Z<|Py 4 Z<|aE Z (fun h43=>?_) (fun h43=>?_)
    ·refine bx<|aZ<|aT<|PW 5 Z<|aO ⟨j3-1,(by have:=bu n;omega),oF,i+1,o,u,c,(by have:=bu n;omega),hle,g,G2 hm w x (by have h43:=h43;rw[mB] at h43;exact of_decide_eq_true h43),B,Z,cI<|bg (by have:=h.bG;omega),aq⟩
    refine aG (ad (aS (l:=[(0,[]),(1,[]),(2,[]),(3,[]),(5,[]),(6,[]),(7,[]),(8,[]),(9,[]),(11,[]),(12,[]),(13,[]),(4,[8,9]),(10,[]),(14,[]),(15,[])]) Y Y<|j1 aq Z Z (bY (e:=9) (m:=1) (z:=[.str []]) (cs:=[]) Y Y Y Y bJ) (fun _=>Z) (fun U b1 aq=>?_)));replace aq:J U _ ([(b1,.row [] 9 false)]++_):=aq;refine P1 2 Z<|tZ (e:=9) (m:=1) (k:=k2) g B Z Z Z Y Y Z Z (fun _=>Z) (fun a2 p=>?_);refine P1 2 Z ?_;obtain⟨a3,a,am⟩:=cL n;refine Qv (e:=9) (m:=1) h1 a Z Z Z Z Z (fun a4 ao b ap q=>?_);obtain rfl:=q;refine al Z Z (QF aq b Z Z) Z<|j1 aq Z Z (bY (e:=9) (m:=1) (z:=[.str []]) (cs:=[_]) Y Y Y Y<|bD Z Z Z Z bJ) (fun _=>Z) (fun U b2 aq=>?_);refine P1 2 Z<|qh (e:=9) (m:=1) (k:=k2) g B Z Z Z Y Y Z Z (fun _=>Z) (fun a5 r=>?_);replace aq:=aq.pull (.there .here);refine kL (R:=fZ) (m:=1) (e:=9) cQ.empty aq p fZ.leaf (by simp;omega) Z Z Z Z Z Z Z Z (fun _=>Z) (fun U a6 a7 hO48 aq=>?_);refine⟨(bB (bN Z Z Z Z Z (QF aq b Z Z)<|Bi _)<|bB (xH Z Z Z Z Z (oC (e:=9) (m:=1) (z:=[.str []]) (cs:=[_]) Y Y Y Y<|bD Z Z Z Z bJ) aq.aQ.g0<|bS (sB _) fx) aV),?_⟩;replace aq:=aq.pull (.cM<|ep.here (X:=[_]));refine mN (R:=fZ) (m:=1) (e:=9) hO48 aq (eU (m:=1) Z Z) fZ.leaf (by simp;omega) Z Z Z Z Z Z Z Z (fun _=>Z) (fun U a8 a9 hO54 aq=>?_);refine⟨aV,?_⟩;refine kL (R:=fZ) (m:=1) (e:=9) hO54 aq r fZ.leaf (by simp;omega) Z Z Z Z Z Z Z Z (fun _=>Z) (fun U y A hO58 aq=>?_);refine⟨aV,?_⟩;replace aq:=aq.keeps;refine P0 2 Z<|aJ<|PW 5 Z<|aO ⟨j3-1,(by have:=bu n;omega),oF,i+1,_,y,c.ic A,(by have:=bu n;omega),KP.le_trans hle<|KP.bX _ _,hO58.iu,Fx hm a,Fs C B,Z,cI<|bg (by have:=h.bG;omega),aq⟩
   exact absurd f (by rw[d];decide)
  refine Py 13 Z<|OL 3 Z<|aT<|ad<|ak<|ak<|aS (l:=zp [0,1,2,3,4,5,6,7,8,9,10,11,12,13,14]) Y Y<|P1 2 Z<|al Z Z (QD g Z Z Z (e:=9) Z) Z<|wQ 1 Z<|dZ Z Z (an Z) (fun _=>Z) (fun f=>?_) (fun f=>?_)
  ·exact absurd f (by rw[d];decide)
  refine Py 13 Z (aG (ad (aS (l:=[(0,[]),(1,[]),(2,[]),(3,[]),(5,[]),(6,[]),(7,[]),(8,[]),(9,[]),(11,[]),(12,[]),(13,[]),(4,[8,9]),(10,[]),(14,[]),(15,[])]) Y Y<|j1 aq Z Z (bY (e:=9) (m:=1) (z:=[.str []]) (cs:=[]) Y Y Y Y bJ) (fun _=>Z) (fun U b1 aq=>?_))));replace aq:J U _ ([(b1,.row [] 9 false)]++_):=aq;refine P1 2 Z<|tZ (e:=9) (m:=1) (k:=k2) g B Z Z Z Y Y Z Z (fun _=>Z) (fun a2 p=>?_);refine P1 2 Z ?_;obtain⟨a3,a,am⟩:=cL n;refine Qv (e:=9) (m:=1) h1 a Z Z Z Z Z (fun a4 ao b ap q=>?_);obtain rfl:=q;refine al Z Z (QF aq b Z Z) Z<|j1 aq Z Z (bY (e:=9) (m:=1) (z:=[.str []]) (cs:=[_]) Y Y Y Y<|bD Z Z Z Z bJ) (fun _=>Z) (fun U b2 aq=>?_);refine P1 2 Z<|qh (e:=9) (m:=1) (k:=k2) g B Z Z Z Y Y Z Z (fun _=>Z) (fun a5 r=>?_);replace aq:=aq.pull (.there .here);refine kL (R:=fZ) (m:=1) (e:=9) cQ.empty aq p fZ.leaf (by simp;omega) Z Z Z Z Z Z Z Z (fun _=>Z) (fun U a6 a7 hO48 aq=>?_);refine⟨(bB (bN Z Z Z Z Z (QF aq b Z Z)<|Bi _)<|bB (xH Z Z Z Z Z (oC (e:=9) (m:=1) (z:=[.str []]) (cs:=[_]) Y Y Y Y<|bD Z Z Z Z bJ) aq.aQ.g0<|bS (sB _) fx) aV),?_⟩;replace aq:=aq.pull (.cM<|ep.here (X:=[_]));refine mN (R:=fZ) (m:=1) (e:=9) hO48 aq (eU (m:=1) Z Z) fZ.leaf (by simp;omega) Z Z Z Z Z Z Z Z (fun _=>Z) (fun U a8 a9 hO54 aq=>?_);refine⟨aV,?_⟩;refine kL (R:=fZ) (m:=1) (e:=9) hO54 aq r fZ.leaf (by simp;omega) Z Z Z Z Z Z Z Z (fun _=>Z) (fun U y A hO58 aq=>?_);refine⟨aV,?_⟩;replace aq:=aq.keeps;refine P0 2 Z<|aJ<|PW 5 Z<|aO ⟨j3-1,(by have:=bu n;omega),oF,i+1,_,y,c.ic A,(by have:=bu n;omega),KP.le_trans hle<|KP.bX _ _,hO58.iu,Fx hm a,Fs C B,Z,cI<|bg (by have:=h.bG;omega),aq⟩
 refine OL 3 Z<|aT<|PX 7 Z ?_;exact aA Z Z ⟨c,o,hle,g,(by rw[tL_<|bC n] at hm;exact hm),aq⟩
theorem MD {G:Cx} (c:Plain G) {K:KP} {k:Nat} {x:XE} {ev v:V} (h:bR K 7 (OC ev) [()] v) (he:bR K 4 (ey K k) [x] ev) (hS:cU k x<=100000) {U:D} {L:Own} (aq:J U K L):bk Tryz.prog G 262 [v] U fun v U'=>∃d l',KP.le K d/\bR d 1 fZ l' v/\(∀s,s∈l'↔s∈fU k x)/\J U' d L:=by
 have hrl:=qk k x;refine PS c Tryz.func262 Z<|Pt 8 Z<|cH Z (Qz Z Z Z) (fun _=>Z) (HZ c h he B aq) ?_;rintro v4 U ⟨K4,a,f,aq⟩;refine cH Z (Qz Z Z Z) (fun _=>Z) (N2 c f B aq) ?_;rintro v5 U ⟨g,i,b,j,e,aq⟩;refine Px 4 Z ?_;exact aA Z Z ⟨g,i,KP.le_trans a b,j,e,aq⟩
theorem KA {G:Cx} (j:Plain G) {K:KP} {k:Nat} {x:XE} {vs:List V} (l:ey K k x vs) (p:cU k x<=100000) {U:D} {L:Own} (aq:J U K L):bk Tryz.prog G 234 [.agg vs] U fun v U'=>∃d l',KP.le K d/\bR d 1 fZ l' v/\(∀s,s∈l'↔s∈fU k x)/\J U' d L:=by
 obtain⟨o0,n0,s0,v0,rfl,hk⟩:=l.shape;refine PS j Tryz.func234 Z<|Pt 2 Z<|kp aq Z (cz Z Z) (fun U b1 aq=>?_);refine OO 5 Z<|O Z (QC Z aq.g0 (n:=4) (vs:=[_,_,_,_]) Z) Z<|gT aq Z (bY (e:=82) (m:=4) (z:=[T,T,.str [],.ax]) (cs:=[_,_,_,_]) Y Y Y Y<|bD Z Z Z Z bJ) (fun _=>Z) (fun U q aq=>?_);obtain⟨o,b,f,aq⟩:=BZ aq;have h4:bR o 4 (ey o k) [x] (.slice q 0 1 (.known 1)):=zU Z (l.mono b) f;refine O Z (bF (places:=[(0,1),(1,1),(2,1),(3,1),(4,1),(5,1),(6,1)]) (zero:=[T,.str [],.str [],T,.ax,.ax,.ax]) (cs:=[_,_,_,_,_,_,_]) Y Y Y (bD Z Z h4.leaf.1 Z bJ) Y) Z<|gT aq Z (bY (e:=304) (m:=7) (z:=[T,.str [],.str [],T,.ax,.ax,.ax]) (cs:=[_,_,_,_,_,_,_]) Y Y Y Y<|bD Z Z Z Z bJ) (fun _=>Z) (fun U r aq=>?_);obtain⟨t,a,g,aq⟩:=BZ aq;have u:bR t 7 (OC _) [()] (.slice r 0 1 (.known 1)):=zU Z Z g;replace h4:=h4.mono a fun _ _ h=>ey.mono a h
 refine cH Z (Qz Z Z Z) (fun _=>Z) (MD j u h4 p aq) ?_;rintro v7 U ⟨w,y,c,A,i,aq⟩;refine Px 4 Z ?_;exact aA Z Z ⟨w,y,KP.le_trans (KP.le_trans b a) c,A,i,aq.pop⟩
theorem mi {α β:Type} {f:α->β} {l:List α} {i:Nat} {x:α} (h:l[i]?=some x):(l.take (i+1)).map f=(l.take i).map f++[f x]:=by rw[List.take_add_one,h];simp
theorem B0 {k:Nat}:∀{kids:List XE},(∀y∈kids,jc k y)->kids.length<=(kids.map<|cU k).sum
 | [],_=>nR_ _
 | x::l,h=>by
  have:=B0 fun y a=>h y (mC_ _ a)
  have h1:1<=cU k x:=by
   have:=h x (mS_ ..);cases k with
   | zero=>exact this.elim
   | succ k=>exact Hl
  simp only[List.length_cons,List.map_cons,List.sum_cons];omega
theorem Eb {op:Int} {s:List Nat} {n:Nat} (h:I op 2=true) (a:iG s=some n):js op s=114::s:=by unfold js;rw[h,a];rfl
theorem Ea {op:Int} {s:List Nat} (h:I op 2=true) (a:iG s=none):js op s= [48]:=by unfold js;rw[h,a];rfl
theorem IV {op:Int} {s:List Nat} (h:I op 2=false):js op s=s:=by unfold js;rw[h];rfl
theorem Kv {G:Cx} (hG:Plain G):∀(k:Nat) (K:KP) (x:XE) (vs:List V),ey K k x vs->jc k x->cU k x<=1000000->∀(U:D) (L:Own),J U K L->bk Tryz.prog G 233 [.agg vs,.str [114]] U fun v U'=>∃g ws,v= .agg ws/\KP.le K g/\ey g k (fR k x) ws/\J U' g L:=by
 intro k;induction k with
 | zero=>intro K x vs h;cases x;exact h.elim
 | succ k ih=>
 intro K x vs hE hF hS U L aq;obtain⟨op,num,name,kids⟩:=x;obtain⟨v,rfl,hk⟩:=hE;have hS:(kids.map<|cU k).sum+1<=1000000:=hS;have hkl:=B0 hF.2;refine PS hG Tryz.func233 Z<|Pt 2 Z<|kp aq Z (cz Z Z) (fun U b1 aq=>?_);refine kp aq Z (cP (cs:=[T,T,.str [],.ax]) Y Y) (fun U b2 aq=>?_);refine OX aq 10 [0,1,1,1,2,1] Z Z (O Z (bF (places:=[(0,1),(1,1),(2,1),(3,1)]) (zero:=[T,T,.str [],.ax]) (cs:=[_,_,_,_]) Y Y Y Z Y) Z<|kp aq Z (cP (cs:=[T,T,.str [],.ax]) Y Y) (fun U b3 aq=>?_));refine bO aq Z (QH Z Z Z aq.g0 (m:=4) Z Z (cells':=[_,_,_,_]) Z) Z (fun U aq=>?_);refine Ou aq 8 [0,2] Z Z<|ky Z (an Z) (fun r=>?_) (fun r=>?_)
 ·refine P3 aq 2 [2,2] Z Z<|bf Z (Qz Z Z Z) (fun _=>Z) (HX hG _ aq) (fun U aq=>?_);refine Pv 4 Z<|aE Z (fun C=>?_) (fun C=>?_)
  ·refine P2 aq 4 [2,2] Z Z ?_;obtain⟨nn,ab⟩:=Fy C;refine O Z (az Z Z<|Lt ab) Z<|O Z (QA 2 Z) Z<|bO aq Z (QH Z Z Z aq.g0 (m:=1) Z Z (cells':=[_,_,_,_]) Z) Z (fun U aq=>?_);refine On 5 Z ?_;obtain⟨nn,ab⟩:=Fy C;replace aq:J U K ([]++(b3,.row [.int .i64 op,.int .i64 num,.str<|js op name,.ax] 82 false)::(b2,.row [T,T,.str [],.ax] 82 false)::(b1,.row [.int .i64 op,.int .i64 num,.str name,v] 82 false)::L):=by rw[Eb r ab];exact aq
   refine OM 4 Z (bp ([6]++rg 32 19) (fun j t U=>∃(i:Nat) (u:V) (M:Own) (g:KP),j+i=kids.length/\KP.le K g/\cQ 4 82 (ey g k) ((kids.take i).map<|fR k) u M/\t.get 6=some (.int .i64 (.ofNat i))/\J U g (M++(b3,.row [.int .i64 op,.int .i64 num,.str<|js op name,u] 82 false)::(b2,.row [T,T,.str [],.ax] 82 false)::(b1,.row [.int .i64 op,.int .i64 num,.str name,v] 82 false)::L)) (kids.length) ⟨0,.ax,[],K,Z,KP.le_refl _,cQ.nil,Z,aq⟩ ?_);clear aq;intro j7 t U ar hI;obtain⟨i,u,M,g,hj,hle,o,s,aq⟩:=hI;obtain⟨oo,rfl⟩:=ar.q1 s Z;have hk1:=hk.mono hle (fun _ _ h=>ey.mono hle h);refine OU aq 5 [3] Z Z<|O Z (QB Z aq.aQ.pop.pop.g0 Z) Z<|O Z (QD hk1 Z Z Z (e:=82) Z) Z<|Pv 3 Z<|aE Z (fun c=>?_) (fun c=>?_)
   ·refine Ok 4 Z (aS (l:=[(0,[]),(1,[]),(2,[]),(3,[]),(4,[]),(5,[]),(6,[]),(7,[]),(8,[1]),(9,[]),(10,[]),(11,[]),(12,[])]) Y Y<|al Z Z (QA 3 Z) Z<|al Z Z (QB Z aq.aQ.g0 Z) Z<|al Z Z (QA 3 Z) Z<|al Z Z (QB Z aq.aQ.pop.pop.g0 Z) Z<|wQ 1 Z ?_);obtain⟨ac,a,E⟩:=cL c;refine Qv (e:=82) (m:=4) hk1 a Z Z Z Z Z (fun ag F p P d=>?_);obtain⟨am,ao,ap,aI,rfl,Q⟩:=d.shape;refine al Z Z (QG aq p Z Z) Z<|wQ 1 Z<|jg Z Z (Qz Z Z Z) (fun _=>Z) (ih _ _ _ d (hF.2 _<|gB_ a) (Nat.le_trans (ma (f:=cU k) a) B) _ _ aq) ?_;rintro _ U ⟨q,W,rfl,b,hE47,aq⟩;refine⟨(bB (bN Z Z Z Z Z (QB Z aq.aQ.g0 Z) (o.iu (K:=fun _ _=>False)).dX) aV),?_⟩;obtain⟨aY,a0,a1,a2,rfl,aa⟩:=hE47.shape;have hO':=o.yX (fun _ _ h=>ey.mono b h);refine j1 aq Z Z (bY (e:=82) (m:=4) (z:=[T,T,.str [],.ax]) (cs:=[_,_,_,_]) Y Y Y Y<|bD Z Z Z Z bJ) (fun _=>Z) (fun U b4 aq=>?_);replace aq:=aq.pull (.there .here);replace aq:=aq.pull (.cM<|ep.here (X:=[_]));refine mN (R:=ey q k) (m:=4) (e:=82) hO' aq (eU (m:=4) Z hE47) ey.leaf (by rw[lM_,lT_];show _+1<=_;omega) Z Z Z Z Z Z Z Z (fun _=>Z) (fun U w y hO49 aq=>?_);refine⟨aV,?_⟩;refine al Z Z (QA 3 Z) Z<|gD aq (.cM .here) Z Z (aL Z Z hO49.leaf.1 aq.aQ.g0 (m:=1) Y Z (lb Z) (ah hO49.leaf.2 aC) (cells':=[_,_,_,_]) Z) Z (fun U aq=>?_);refine⟨aV,?_⟩;refine ba<|aJ<|PW 5 Z<|aO ⟨j7-1,(by have:=bu c;omega),oF,i+1,w,y,q,B,KP.le_trans hle b,(by rw[mi a];exact hO49),cI<|bg (by have:=hk.bG;omega),aq⟩
   refine OL 3 Z<|aT<|Pt 2 Z<|O Z (QC Z aq.aQ.g0 (n:=4) (vs:=[_,_,_,_]) Z) Z<|cC aq (.cM (.there .here)) Z (QH Z Z Z aq.aQ.pop.g0 (m:=4) Z (ah Z<|ah Z<|ah Z<|ah o.leaf.2 aC) (cells':=[_,_,_,_]) Z) Z (fun U aq=>?_);refine Px 3 Z ?_;exact eL Z Z aq.aQ.pop.g0 (m:=4) Y Z ⟨g.ic M,_,Z,KP.le_trans hle<|KP.bX _ _,⟨u,Z,by rw[tL_<|bC c] at o;exact o.iu.mono (KP.le_refl _) fun _ _ h=>ey.mono (KP.bX _ _) h⟩,aq.keeps.pop.pop.pop⟩
  refine PA aq 5 [0,2] Z Z<|Pv 2 Z<|aE Z (fun A=>?_) (fun A=>?_)
  ·refine P2 aq 2 [2] Z Z<|bO aq Z (QH Z Z Z aq.g0 (m:=1) Z Z (cells':=[_,_,_,_]) Z) Z (fun U aq=>?_);refine On 5 Z ?_;replace aq:J U K ([]++(b3,.row [.int .i64 op,.int .i64 num,.str<|js op name,.ax] 82 false)::(b2,.row [T,T,.str [],.ax] 82 false)::(b1,.row [.int .i64 op,.int .i64 num,.str name,v] 82 false)::L):=by rw[Ea r<|Le C];exact aq
   refine OM 4 Z (bp ([6]++rg 32 19) (fun j t U=>∃(i:Nat) (u:V) (M:Own) (g:KP),j+i=kids.length/\KP.le K g/\cQ 4 82 (ey g k) ((kids.take i).map<|fR k) u M/\t.get 6=some (.int .i64 (.ofNat i))/\J U g (M++(b3,.row [.int .i64 op,.int .i64 num,.str<|js op name,u] 82 false)::(b2,.row [T,T,.str [],.ax] 82 false)::(b1,.row [.int .i64 op,.int .i64 num,.str name,v] 82 false)::L)) (kids.length) ⟨0,.ax,[],K,Z,KP.le_refl _,cQ.nil,Z,aq⟩ ?_);clear aq;intro j7 t U ar hI;obtain⟨i,u,M,g,hj,hle,o,s,aq⟩:=hI;obtain⟨oo,rfl⟩:=ar.q1 s Z;have hk1:=hk.mono hle (fun _ _ h=>ey.mono hle h);refine OU aq 5 [3] Z Z<|O Z (QB Z aq.aQ.pop.pop.g0 Z) Z<|O Z (QD hk1 Z Z Z (e:=82) Z) Z<|Pv 3 Z<|aE Z (fun c=>?_) (fun c=>?_)
   ·refine Ok 4 Z (aS (l:=[(0,[]),(1,[]),(2,[]),(3,[]),(4,[]),(5,[]),(6,[]),(7,[]),(8,[1]),(9,[]),(10,[]),(11,[]),(12,[])]) Y Y<|al Z Z (QA 3 Z) Z<|al Z Z (QB Z aq.aQ.g0 Z) Z<|al Z Z (QA 3 Z) Z<|al Z Z (QB Z aq.aQ.pop.pop.g0 Z) Z<|wQ 1 Z ?_);obtain⟨ac,a,E⟩:=cL c;refine Qv (e:=82) (m:=4) hk1 a Z Z Z Z Z (fun ag F p P d=>?_);obtain⟨am,ao,ap,aI,rfl,Q⟩:=d.shape;refine al Z Z (QG aq p Z Z) Z<|wQ 1 Z<|jg Z Z (Qz Z Z Z) (fun _=>Z) (ih _ _ _ d (hF.2 _<|gB_ a) (Nat.le_trans (ma (f:=cU k) a) B) _ _ aq) ?_;rintro _ U ⟨q,W,rfl,b,hE47,aq⟩;refine⟨(bB (bN Z Z Z Z Z (QB Z aq.aQ.g0 Z) (o.iu (K:=fun _ _=>False)).dX) aV),?_⟩;obtain⟨aY,a0,a1,a2,rfl,aa⟩:=hE47.shape;have hO':=o.yX (fun _ _ h=>ey.mono b h);refine j1 aq Z Z (bY (e:=82) (m:=4) (z:=[T,T,.str [],.ax]) (cs:=[_,_,_,_]) Y Y Y Y<|bD Z Z Z Z bJ) (fun _=>Z) (fun U b4 aq=>?_);replace aq:=aq.pull (.there .here);replace aq:=aq.pull (.cM<|ep.here (X:=[_]));refine mN (R:=ey q k) (m:=4) (e:=82) hO' aq (eU (m:=4) Z hE47) ey.leaf (by rw[lM_,lT_];show _+1<=_;omega) Z Z Z Z Z Z Z Z (fun _=>Z) (fun U w y hO49 aq=>?_);refine⟨aV,?_⟩;refine al Z Z (QA 3 Z) Z<|gD aq (.cM .here) Z Z (aL Z Z hO49.leaf.1 aq.aQ.g0 (m:=1) Y Z (lb Z) (ah hO49.leaf.2 aC) (cells':=[_,_,_,_]) Z) Z (fun U aq=>?_);refine⟨aV,?_⟩;refine ba<|aJ<|PW 5 Z<|aO ⟨j7-1,(by have:=bu c;omega),oF,i+1,w,y,q,B,KP.le_trans hle b,(by rw[mi a];exact hO49),cI<|bg (by have:=hk.bG;omega),aq⟩
   refine OL 3 Z<|aT<|Pt 2 Z<|O Z (QC Z aq.aQ.g0 (n:=4) (vs:=[_,_,_,_]) Z) Z<|cC aq (.cM (.there .here)) Z (QH Z Z Z aq.aQ.pop.g0 (m:=4) Z (ah Z<|ah Z<|ah Z<|ah o.leaf.2 aC) (cells':=[_,_,_,_]) Z) Z (fun U aq=>?_);refine Px 3 Z ?_;exact eL Z Z aq.aQ.pop.g0 (m:=4) Y Z ⟨g.ic M,_,Z,KP.le_trans hle<|KP.bX _ _,⟨u,Z,by rw[tL_<|bC c] at o;exact o.iu.mono (KP.le_refl _) fun _ _ h=>ey.mono (KP.bX _ _) h⟩,aq.keeps.pop.pop.pop⟩
  exact absurd A (by rw[r];decide)
 refine PC aq 15 [0,2] Z Z<|aE Z (fun A=>?_) (fun A=>?_)
 ·exact absurd A (by rw[r];decide)
 refine Ol 5 Z ?_;replace aq:J U K ([]++(b3,.row [.int .i64 op,.int .i64 num,.str<|js op name,.ax] 82 false)::(b2,.row [T,T,.str [],.ax] 82 false)::(b1,.row [.int .i64 op,.int .i64 num,.str name,v] 82 false)::L):=by rw[IV r];exact aq
 refine OM 4 Z (bp ([6]++rg 32 19) (fun j t U=>∃(i:Nat) (u:V) (M:Own) (g:KP),j+i=kids.length/\KP.le K g/\cQ 4 82 (ey g k) ((kids.take i).map<|fR k) u M/\t.get 6=some (.int .i64 (.ofNat i))/\J U g (M++(b3,.row [.int .i64 op,.int .i64 num,.str<|js op name,u] 82 false)::(b2,.row [T,T,.str [],.ax] 82 false)::(b1,.row [.int .i64 op,.int .i64 num,.str name,v] 82 false)::L)) (kids.length) ⟨0,.ax,[],K,Z,KP.le_refl _,cQ.nil,Z,aq⟩ ?_);clear aq;intro j7 t U ar hI;obtain⟨i,u,M,g,hj,hle,o,s,aq⟩:=hI;obtain⟨oo,rfl⟩:=ar.q1 s Z;have hk1:=hk.mono hle (fun _ _ h=>ey.mono hle h);refine OU aq 5 [3] Z Z<|O Z (QB Z aq.aQ.pop.pop.g0 Z) Z<|O Z (QD hk1 Z Z Z (e:=82) Z) Z<|Pv 3 Z<|aE Z (fun c=>?_) (fun c=>?_)
 ·refine Ok 4 Z (aS (l:=[(0,[]),(1,[]),(2,[]),(3,[]),(4,[]),(5,[]),(6,[]),(7,[]),(8,[1]),(9,[]),(10,[]),(11,[]),(12,[])]) Y Y<|al Z Z (QA 3 Z) Z<|al Z Z (QB Z aq.aQ.g0 Z) Z<|al Z Z (QA 3 Z) Z<|al Z Z (QB Z aq.aQ.pop.pop.g0 Z) Z<|wQ 1 Z ?_);obtain⟨ac,a,E⟩:=cL c;refine Qv (e:=82) (m:=4) hk1 a Z Z Z Z Z (fun ag F p P d=>?_);obtain⟨am,ao,ap,aI,rfl,Q⟩:=d.shape;refine al Z Z (QG aq p Z Z) Z<|wQ 1 Z<|jg Z Z (Qz Z Z Z) (fun _=>Z) (ih _ _ _ d (hF.2 _<|gB_ a) (Nat.le_trans (ma (f:=cU k) a) B) _ _ aq) ?_;rintro _ U ⟨q,W,rfl,b,hE47,aq⟩;refine⟨(bB (bN Z Z Z Z Z (QB Z aq.aQ.g0 Z) (o.iu (K:=fun _ _=>False)).dX) aV),?_⟩;obtain⟨aY,a0,a1,a2,rfl,aa⟩:=hE47.shape;have hO':=o.yX (fun _ _ h=>ey.mono b h);refine j1 aq Z Z (bY (e:=82) (m:=4) (z:=[T,T,.str [],.ax]) (cs:=[_,_,_,_]) Y Y Y Y<|bD Z Z Z Z bJ) (fun _=>Z) (fun U b4 aq=>?_);replace aq:=aq.pull (.there .here);replace aq:=aq.pull (.cM<|ep.here (X:=[_]));refine mN (R:=ey q k) (m:=4) (e:=82) hO' aq (eU (m:=4) Z hE47) ey.leaf (by rw[lM_,lT_];show _+1<=_;omega) Z Z Z Z Z Z Z Z (fun _=>Z) (fun U w y hO49 aq=>?_);refine⟨aV,?_⟩;refine al Z Z (QA 3 Z) Z<|gD aq (.cM .here) Z Z (aL Z Z hO49.leaf.1 aq.aQ.g0 (m:=1) Y Z (lb Z) (ah hO49.leaf.2 aC) (cells':=[_,_,_,_]) Z) Z (fun U aq=>?_);refine⟨aV,?_⟩;refine ba<|aJ<|PW 5 Z<|aO ⟨j7-1,(by have:=bu c;omega),oF,i+1,w,y,q,B,KP.le_trans hle b,(by rw[mi a];exact hO49),cI<|bg (by have:=hk.bG;omega),aq⟩
 refine OL 3 Z<|aT<|Pt 2 Z<|O Z (QC Z aq.aQ.g0 (n:=4) (vs:=[_,_,_,_]) Z) Z<|cC aq (.cM (.there .here)) Z (QH Z Z Z aq.aQ.pop.g0 (m:=4) Z (ah Z<|ah Z<|ah Z<|ah o.leaf.2 aC) (cells':=[_,_,_,_]) Z) Z (fun U aq=>?_);refine Px 3 Z ?_;exact eL Z Z aq.aQ.pop.g0 (m:=4) Y Z ⟨g.ic M,_,Z,KP.le_trans hle<|KP.bX _ _,⟨u,Z,by rw[tL_<|bC c] at o;exact o.iu.mono (KP.le_refl _) fun _ _ h=>ey.mono (KP.bX _ _) h⟩,aq.keeps.pop.pop.pop⟩
theorem GQ {op:Int} {s:List Nat} (h:s.length<=9223372036854775807):(js op s).length<=9223372036854775807:=by
 unfold js;cases I op 2 with
 | false=>exact h
 | true=>
  show(match iG s with | some _=>114::s | none=>[48]).length<=_;cases a:iG s with
  | none=>show 1<=_;omega
  | some n=>
   obtain⟨_,h4,_⟩:=xp a;show s.length+1<=_;omega
theorem uk:∀{k:Nat} {x:XE},jc k x->jc k (fR k x)
 | 0,_,h=>h.elim
 | k+1,.mk op num name kids,h=>⟨GQ h.1,fun y a=>by
  obtain⟨x,b,rfl⟩:=List.mem_map.1 a;exact uk<|h.2 x b⟩
theorem EU {α:Type} {p:α->Bool} {l l':List α} (hm:∀s,s∈l'↔s∈l):l'.all p=l.all p:=by
 rw[Bool.eq_iff_iff,aE_,aE_];exact⟨fun h x a=>h x ((hm x).2 a),fun h x a=>h x ((hm x).1 a)⟩
theorem H4 {G:Cx} (F:Plain G) {K:KP} {k:Nat} {c:XC} {cv:V} (hc:bR K 6 (iI K k) c.ins cv) {x:XI} {vs:List V} (M:iI K k x vs) (hF:∀e∈x.exprs,jc k e) (hS:∀e∈x.exprs,cU k e<=100000) {U:D} {L:Own} (aq:J U K L):bk Tryz.prog G 170 [.agg [.int .i64 c.aY,cv],.agg vs] U fun v U'=>v= .bool (gK c.aY (.ofNat c.ins.length) k x)/\J U' K L:=by
 obtain⟨w,rfl,hk⟩:=M;refine PS F Tryz.func170 Z<|Pt 2 Z<|kp aq Z (cz Z Z) (fun U b1 aq=>?_);refine kp aq Z (cz Z Z) (fun U b2 aq=>?_);refine Pv 3 Z ?_;obtain⟨LC1,aq,hLC1⟩:=aq.named;refine jv ([5]++rg 10 8) (fun t U=>∃(q:Bool),q=sX x.kind/\t.get 5=some (.bool q)/\J U K LC1) ?_ ?_
 ·subst hLC1;refine P2 aq 3 [0,0] Z Z<|bf Z (Qz Z Z Z) (fun _=>Z) (ll F _ aq) (fun U aq=>?_);refine ky Z (an Z) (fun a4=>?_) (fun a4=>?_)
  ·refine PY 6 Z ?_;exact⟨Z,oF,_,(by unfold sX;simp only[a4,ct,cf]<;>rfl),Z,aq⟩
  refine P3 aq 5 [0,0] Z Z<|af ?_;exact⟨Z,oF,_,(by unfold sX;simp only[a4,ct,cf]<;>rfl),Z,aq⟩
 clear aq;intro t U ar M;obtain⟨q,hq,bo,aq⟩:=M;subst hLC1;obtain⟨oo,rfl⟩:=ar.q1 bo Z;subst hq;obtain⟨LC2,aq,hLC2⟩:=aq.named;refine jv ([6]++rg 18 8) (fun t U=>∃(q:Bool),q=Lv x.kind/\t.get 6=some (.bool q)/\J U K LC2) ?_ ?_
 ·subst hLC2;refine P2 aq 4 [0,0] Z Z<|ky Z (an Z) (fun a5=>?_) (fun a5=>?_)
  ·refine PY 6 Z ?_;exact⟨Z,oF,_,(by unfold Lv;simp only[a5,ct,cf]<;>rfl),Z,aq⟩
  refine P3 aq 5 [0,0] Z Z<|af ?_;exact⟨Z,oF,_,(by unfold Lv;simp only[a5,ct,cf]<;>rfl),Z,aq⟩
 clear aq;intro t U ar M;obtain⟨q,hq,bs,aq⟩:=M;subst hLC2;obtain⟨oo,rfl⟩:=ar.q1 bs Z;subst hq;refine ak ?_;obtain⟨LC3,aq,hLC3⟩:=aq.named;refine jv (rg 26 28) (fun t U=>∃(q:Bool),q=pq x/\t.get 53=some (.bool q)/\J U K LC3) ?_ ?_
 ·subst hLC3;refine aS (l:=[(0,[]),(1,[]),(3,[]),(4,[]),(5,[]),(2,[4]),(6,[]),(7,[]),(8,[]),(9,[]),(10,[]),(11,[]),(12,[]),(13,[]),(14,[]),(15,[]),(16,[]),(17,[]),(18,[]),(19,[]),(20,[]),(21,[]),(22,[]),(23,[]),(24,[]),(25,[]),(26,[]),(27,[])]) Y Y<|P4 aq 4 [0,0,5,0] Z Z<|al Z Z (QD hk Z Z Z (e:=82) Z) Z<|cA Z Z (Qz Z Z Z) (fun _=>Z) (Ky F _ aq) (fun U aq=>?_);refine⟨(bB (bN Z Z Z Z Z (QB Z aq.g0 Z) hk.dX) aV),?_⟩;refine wQ 1 Z<|dZ Z Z (an Z) (fun _=>Z) (fun z=>?_) (fun z=>?_)
  ·refine P0 21 Z ?_;exact⟨Z,oF,_,(by unfold pq AO aX;simp only[z,ct,cf]<;>rfl),Z,aq⟩
  refine P4 aq 4 [3,0] Z Z<|dZ Z Z (an Z) (fun _=>Z) (fun P=>?_) (fun P=>?_)
  ·refine P4 aq 6 [3,0] Z Z<|dZ Z Z (an Z) (fun _=>Z) (fun u=>?_) (fun u=>?_)
   ·refine P0 9 Z ?_;exact⟨Z,oF,_,(by unfold pq AO aX;simp only[z,P,u,ct,cf]<;>rfl),Z,aq⟩
   refine wQ 1 Z<|al Z Z (cV Z) Z<|dZ Z Z (an Z) (fun _=>Z) (fun Q=>?_) (fun Q=>?_)
   ·refine P4 aq 5 [3,0] Z Z<|ba ?_;exact⟨Z,oF,_,(by unfold pq AO aX;simp only[z,P,u,show(bif sX x.kind then false else true)=true from Q,ct,cf]<;>rfl),Z,aq⟩
   refine P0 6 Z ?_;exact⟨Z,oF,_,(by unfold pq AO aX;simp only[z,P,u,show(bif sX x.kind then false else true)=false from Q,ct,cf]<;>rfl),Z,aq⟩
  refine P1 6 Z<|dZ Z Z (an Z) (fun _=>Z) (fun u=>?_) (fun u=>?_)
  ·refine P0 9 Z ?_;exact⟨Z,oF,_,(by unfold pq AO aX;simp only[z,P,show(bif sX x.kind then true else false)=true from u,ct,cf]<;>rfl),Z,aq⟩
  refine wQ 1 Z<|al Z Z (cV Z) Z<|dZ Z Z (an Z) (fun _=>Z) (fun Q=>?_) (fun Q=>?_)
  ·refine P4 aq 5 [3,0] Z Z<|ba ?_;exact⟨Z,oF,_,(by unfold pq AO aX;simp only[z,P,show(bif sX x.kind then true else false)=false from u,show(bif sX x.kind then false else true)=true from Q,ct,cf]<;>rfl),Z,aq⟩
  refine P0 6 Z ?_;exact⟨Z,oF,_,(by unfold pq AO aX;simp only[z,P,show(bif sX x.kind then true else false)=false from u,show(bif sX x.kind then false else true)=false from Q,ct,cf]<;>rfl),Z,aq⟩
 clear aq;intro t U ar M;obtain⟨q,hq,bi,aq⟩:=M;subst hLC3;obtain⟨oo,rfl⟩:=ar.q1 bi Z;subst hq;refine aE Z (fun R=>?_) (fun R=>?_)
 ·refine Pu 7 Z ?_;exact aA Z Z ⟨cB (by unfold gK;rw[R];rfl),aq.pop.pop⟩
 refine OJ 3 Z ?_;obtain⟨LC5,aq,hLC5⟩:=aq.named;refine jv (rg 54 52) (fun t U=>∃(q:Bool),q=m7 c.aY x/\t.get 105=some (.bool q)/\J U K LC5) ?_ ?_
 ·subst hLC5;refine P2 aq 3 [0,0] Z Z<|bf Z (Qz Z Z Z) (fun _=>Z) (Dt F _ aq) (fun U aq=>?_);refine ky Z (an Z) (fun d=>?_) (fun d=>?_)
  ·refine P3 aq 3 [1,0] Z Z<|ky Z (an Z) (fun W=>?_) (fun W=>?_)
   ·refine PY 45 Z ?_;exact⟨Z,oF,_,(by unfold m7 aX;simp only[d,W,ct,cf]<;>rfl),Z,aq⟩
   refine P3 aq 7 [1,0,0,1] Z Z<|ky Z (an Z) (fun am=>?_) (fun am=>?_)
   ·refine PY 37 Z ?_;exact⟨Z,oF,_,(by unfold m7 aX;simp only[d,W,am,ct,cf]<;>rfl),Z,aq⟩
   refine P3 aq 2 [0,0] Z Z<|bf Z (Qz Z Z Z) (fun _=>Z) (Dt F _ aq) (fun U aq=>?_);refine O Z (cV Z) Z<|ky Z (an Z) (fun f=>?_) (fun f=>?_)
   ·exact absurd f (by rw[d];decide)
   refine P3 aq 8 [0,0] Z Z<|bf Z (Qz Z Z Z) (fun _=>Z) (ll F _ aq) (fun U aq=>?_);refine ky Z (an Z) (fun b=>?_) (fun b=>?_)
   ·refine P3 aq 3 [2,0] Z Z<|ky Z (an Z) (fun y=>?_) (fun y=>?_)
    ·refine PY 18 Z ?_;exact⟨Z,oF,_,(by unfold m7 aX;simp only[d,W,am,show(bif lz x.kind then false else true)=false from f,b,y,ct,cf]<;>rfl),Z,aq⟩
    refine P3 aq 6 [2,0] Z Z<|ky Z (an Z) (fun X=>?_) (fun X=>?_)
    ·refine PY 11 Z ?_;exact⟨Z,oF,_,(by unfold m7 aX;simp only[d,W,am,show(bif lz x.kind then false else true)=false from f,b,y,X,ct,cf]<;>rfl),Z,aq⟩
    refine P3 aq 2 [0,0] Z Z<|bf Z (Qz Z Z Z) (fun _=>Z) (ll F _ aq) (fun U aq=>?_);refine O Z (cV Z) Z<|ky Z (an Z) (fun a=>?_) (fun a=>?_)
    ·exact absurd a (by rw[b];decide)
    refine PY 6 Z ?_;exact⟨Z,oF,_,(by unfold m7 aX;simp only[d,W,am,show(bif lz x.kind then false else true)=false from f,b,y,X,show(bif rk x.kind then false else true)=false from a,ct,cf]<;>rfl),Z,aq⟩
   refine P3 aq 13 [0,0] Z Z<|bf Z (Qz Z Z Z) (fun _=>Z) (ll F _ aq) (fun U aq=>?_);refine O Z (cV Z) Z<|ky Z (an Z) (fun a=>?_) (fun a=>?_)
   ·refine P3 aq 5 [2,0] Z Z<|af ?_;exact⟨Z,oF,_,(by unfold m7 aX;simp only[d,W,am,show(bif lz x.kind then false else true)=false from f,b,show(bif rk x.kind then false else true)=true from a,ct,cf]<;>rfl),Z,aq⟩
   exact absurd a (by rw[b];decide)
  refine P3 aq 14 [0,0] Z Z<|bf Z (Qz Z Z Z) (fun _=>Z) (Dt F _ aq) (fun U aq=>?_);refine O Z (cV Z) Z<|ky Z (an Z) (fun f=>?_) (fun f=>?_)
  ·refine P3 aq 5 [1,0] Z Z<|ky Z (an Z) (fun ao=>?_) (fun ao=>?_)
   ·refine PY 26 Z ?_;exact⟨Z,oF,_,(by unfold m7 aX;simp only[d,show(bif lz x.kind then false else true)=true from f,ao,ct,cf]<;>rfl),Z,aq⟩
   refine P3 aq 2 [0,0] Z Z<|bf Z (Qz Z Z Z) (fun _=>Z) (ll F _ aq) (fun U aq=>?_);refine ky Z (an Z) (fun b=>?_) (fun b=>?_)
   ·refine P3 aq 3 [2,0] Z Z<|ky Z (an Z) (fun y=>?_) (fun y=>?_)
    ·refine PY 18 Z ?_;exact⟨Z,oF,_,(by unfold m7 aX;simp only[d,show(bif lz x.kind then false else true)=true from f,ao,b,y,ct,cf]<;>rfl),Z,aq⟩
    refine P3 aq 6 [2,0] Z Z<|ky Z (an Z) (fun X=>?_) (fun X=>?_)
    ·refine PY 11 Z ?_;exact⟨Z,oF,_,(by unfold m7 aX;simp only[d,show(bif lz x.kind then false else true)=true from f,ao,b,y,X,ct,cf]<;>rfl),Z,aq⟩
    refine P3 aq 2 [0,0] Z Z<|bf Z (Qz Z Z Z) (fun _=>Z) (ll F _ aq) (fun U aq=>?_);refine O Z (cV Z) Z<|ky Z (an Z) (fun a=>?_) (fun a=>?_)
    ·exact absurd a (by rw[b];decide)
    refine PY 6 Z ?_;exact⟨Z,oF,_,(by unfold m7 aX;simp only[d,show(bif lz x.kind then false else true)=true from f,ao,b,y,X,show(bif rk x.kind then false else true)=false from a,ct,cf]<;>rfl),Z,aq⟩
   refine P3 aq 13 [0,0] Z Z<|bf Z (Qz Z Z Z) (fun _=>Z) (ll F _ aq) (fun U aq=>?_);refine O Z (cV Z) Z<|ky Z (an Z) (fun a=>?_) (fun a=>?_)
   ·refine P3 aq 5 [2,0] Z Z<|af ?_;exact⟨Z,oF,_,(by unfold m7 aX;simp only[d,show(bif lz x.kind then false else true)=true from f,ao,b,show(bif rk x.kind then false else true)=true from a,ct,cf]<;>rfl),Z,aq⟩
   exact absurd a (by rw[b];decide)
  exact absurd f (by rw[d];decide)
 clear aq;intro t U ar M;obtain⟨q,hq,a6,aq⟩:=M;subst hLC5;obtain⟨oo,rfl⟩:=ar.q1 a6 Z;subst hq;refine aE Z (fun r=>?_) (fun r=>?_)
 ·refine Pu 7 Z ?_;exact aA Z Z ⟨cB (by unfold gK;rw[R,r];rfl),aq.pop.pop⟩
 refine OJ 3 Z ?_;obtain⟨LC7,aq,hLC7⟩:=aq.named;refine jv (rg 106 23) (fun t U=>∃(q:Bool),q=vN (.ofNat c.ins.length) x/\t.get 128=some (.bool q)/\J U K LC7) ?_ ?_
 ·subst hLC7;refine ai Z<|vQ 1 Z<|ky Z (an Z) (fun o=>?_) (fun o=>?_)
  ·refine P3 aq 3 [4,0] Z Z<|ky Z (an Z) (fun ab=>?_) (fun ab=>?_)
   ·refine PY 18 Z ?_;exact⟨Z,oF,_,(by unfold vN aX;simp only[o,ab,ct,cf]<;>rfl),Z,aq⟩
   refine P3 aq 4 [4,0,1,1] Z Z<|O Z (QD hc Z Z Z (e:=79) Z) Z<|PZ 3 Z<|ky Z (an Z) (fun ap=>?_) (fun ap=>?_)
   ·refine PY 9 Z ?_;exact⟨Z,oF,_,(by unfold vN aX;simp only[o,ab,ap,ct,cf]<;>rfl),Z,aq⟩
   refine vQ 1 Z<|O Z (cV Z) Z<|ky Z (an Z) (fun p=>?_) (fun p=>?_)
   ·exact absurd p (by rw[o];decide)
   refine PY 6 Z ?_;exact⟨Z,oF,_,(by unfold vN aX;simp only[o,ab,ap,show(bif Lv x.kind then false else true)=false from p,ct,cf]<;>rfl),Z,aq⟩
  refine PZ 14 Z<|O Z (cV Z) Z<|ky Z (an Z) (fun p=>?_) (fun p=>?_)
  ·refine P3 aq 5 [4,0] Z Z<|af ?_;exact⟨Z,oF,_,(by unfold vN aX;simp only[o,show(bif Lv x.kind then false else true)=true from p,ct,cf]<;>rfl),Z,aq⟩
  exact absurd p (by rw[o];decide)
 clear aq;intro t U ar M;obtain⟨q,hq,a7,aq⟩:=M;subst hLC7;obtain⟨oo,rfl⟩:=ar.q1 a7 Z;subst hq;refine aE Z (fun A=>?_) (fun A=>?_)
 ·refine Pu 7 Z ?_;exact aA Z Z ⟨cB (by unfold gK;rw[R,r,A];rfl),aq.pop.pop⟩
 refine Ok 9 Z ?_;obtain⟨LL1,aq,hLL1⟩:=aq.named;refine bp ([4,7,8,9]++rg 129 35) (fun j t U=>∃(i:Nat),j+i=x.exprs.length/\(x.exprs.take i).all (mM c.aY k)=true/\t.get 7=some (.int .i64 (.ofNat i))/\J U K LL1) (x.exprs.length) ⟨0,Z,Z,Z,aq⟩ ?_;clear aq;intro bt t U ar M;obtain⟨i,hj,ha,bv,aq⟩:=M;subst hLL1;obtain⟨oo,rfl⟩:=ar.q1 bv Z;refine OU aq 6 [5,0] Z Z<|O Z (QD hk Z Z Z (e:=82) Z) Z<|Pv 3 Z<|aE Z (fun C=>?_) (fun C=>?_)
 ·refine NO 5 Z<|PA aq 5 [5,0] Z Z ?_;obtain⟨cg,n,bw⟩:=cL C;refine Qu (e:=82) (m:=4) hk n Z Z Z Z (fun ch b0 a8 b3 ax=>?_);obtain⟨ci,ck,cl,cn,rfl,b4⟩:=ax.shape;refine O Z (QG aq a8 Z Z) Z ?_;have hmem:=gB_ n;refine cH Z (Qz Z Z Z) (fun _=>Z) (Kv F _ _ _ _ ax (hF _ hmem) (Nat.le_trans (hS _ hmem) B) _ _ aq) ?_;rintro _ U ⟨co,b5,rfl,g,hE141,aq⟩;refine bf Z (Qz Z Z Z) (fun _=>Z) (uD F hE141 (uk<|hF _ hmem) (by rw[qu];exact Nat.le_trans (hS _ hmem) B) aq) (fun U aq=>?_);refine Pv 3 Z<|aE Z (fun ac=>?_) (fun ac=>?_)
  ·refine PX 6 Z<|aw<|aF<|aw<|bz<|aF<|aw (?_);exact aA Z Z ⟨cB (by unfold gK;rw[R,r,A];show _=x.exprs.all (mM c.aY k);rw[gG n (by unfold mM;rw[bT ac];rfl)]),(aq.weaken g).pop.pop⟩
  refine OK 4 Z ?_;have hk2:=hk.mono g (fun _ _ h=>ey.mono g h);refine P3 aq 3 [5,0] Z Z<|Qu (e:=82) (m:=4) hk2 n Z Z Z Z (fun cp b6 a9 b7 aI=>?_);obtain⟨cs,cx,cM,c0,rfl,b8⟩:=aI.shape;refine O Z (QG aq a9 Z Z) Z<|cH Z (Qz Z Z Z) (fun _=>Z) (KA F aI (hS _ hmem) aq) ?_;rintro c1 U ⟨bl,a0,ag,a1,a2,aq⟩;refine OM 9 Z ?_;obtain⟨LL2,aq,hLL2⟩:=aq.named;refine bp ([4,9]++rg 150 14) (fun j t U=>∃(i2:Nat),j+i2=a0.length/\(a0.take i2).all (fun s=>bU (jQ s) c.aY)=true/\t.get 9=some (.int .i64 (.ofNat i2))/\J U bl LL2) (a0.length) ⟨0,Z,Z,Z,aq⟩ ?_;clear aq;intro b9 t U ar M;obtain⟨i2,c4,bm,ca,aq⟩:=M;subst hLL2;obtain⟨oo,rfl⟩:=ar.q1 ca Z;refine OI 5 Z<|O Z (QD a1 Z Z Z (e:=9) Z) Z<|Pv 3 Z<|aE Z (fun E=>?_) (fun E=>?_)
  ·refine NO 5 Z (aS (l:=[(0,[]),(1,[]),(2,[]),(3,[]),(5,[]),(6,[]),(4,[6]),(7,[])]) Y Y<|P1 2 Z ?_);obtain⟨c2,aa,cb⟩:=cL E;refine Qv (e:=9) (m:=1) a1 aa Z Z Z Z Z (fun c3 cc bb ce be=>?_);obtain rfl:=be;refine al Z Z (QF aq bb Z Z) Z<|P4 aq 2 [0,1] Z Z<|cA Z Z (Qz Z Z Z) (fun _=>Z) (HX F _ aq) (fun U aq=>?_);refine⟨(bB (bN Z Z Z Z Z (QB Z aq.g1 Z)<|jk _ _) aV),?_⟩;refine Py 3 Z<|aE Z (fun a3=>?_) (fun a3=>?_)
   ·refine PX 6 Z<|aF<|aw<|bz<|aF<|aF<|aw<|bz<|aF<|aw (?_);exact aA Z Z ⟨cB (by unfold gK;rw[R,r,A];show _=x.exprs.all (mM c.aY k);rw[gG n (by unfold mM;rw[bj ac,<-EU a2];exact gG aa<|bT a3)]),((aq.weaken ag).weaken g).pop.pop⟩
   refine aG<|aJ<|PW 5 Z<|aO ⟨b9-1,(by have:=bu E;omega),oF,i2+1,(by have:=bu E;omega),eR bm aa<|bj a3,cI<|bg (by have:=a1.bG;omega),aq⟩
  refine OL 3 Z<|aT<|aJ<|PW 5 Z ?_;replace aq:=(aq.weaken ag).weaken g;refine aO ⟨bt-1,(by have:=bu C;omega),oF,i+1,(by have:=bu C;omega),eR ha n (by unfold mM;rw[bj ac,<-EU a2,dR bm<|bC E];rfl),cI<|bg (by have:=hk.bG;omega),aq⟩
 refine OL 3 Z<|aT<|PX 6 Z ?_;exact aA Z Z ⟨cB (by unfold gK;rw[R,r,A];show _=x.exprs.all (mM c.aY k);rw[dR ha<|bC C]),aq.pop.pop⟩
theorem KF {n:Nat} (h:I (.ofNat n) 0=false):n≠0:=by rintro rfl;cases h
theorem JZ {n:Nat} (h:0<n) (h2:n<=9223372036854775807):wr .i64 (Int.sub (.ofNat n) 1)= .ofNat (n-1):=by
 have:Int.sub (.ofNat n) 1= .ofNat (n-1):=by show(n:Int)-1=((n-1:Nat):Int);omega
 rw[this];exact AL B
theorem E0 {k:Nat} {e:XE}:I (oI k e) 3=gV k e:=by
 unfold oI;cases gV k e with
 | true=>rfl
 | false=>cases ec k e<;>rfl
def um (k:Nat) (c:XC):Prop:=∀x∈c.ins,∀e∈x.exprs,cU k e<=100000
theorem v8 {G:Cx} (hG:Plain G) {K:KP} {k:Nat} {c:XC} {cv:V} (u:bR K 6 (iI K k) c.ins cv) (hF:mn k c) (hS:um k c) {U:D} {L:Own} (aq:J U K L):bk Tryz.prog G 118 [.agg [.int .i64 c.aY,cv]] U fun v U'=>v= .int .i64 (gJ k c)/\J U' K L:=by
 refine PS hG Tryz.func118 Z<|Pt 2 Z<|kp aq Z (cz Z Z) (fun U b1 aq=>?_);refine Ou aq 9 [0,0] Z Z<|ky Z (an Z) (fun a=>?_) (fun a=>?_)
 ·refine OQ 15 Z ?_;exact aA Z Z ⟨cJ (by unfold gJ;rw[show bU 16 c.aY=true from a];rfl),aq.pop⟩
 refine P3 aq 2 [1,0] Z Z<|O Z (QD u Z Z Z (e:=79) Z) Z<|Pv 4 Z<|aE Z (fun d=>?_) (fun d=>?_)
 ·refine Pu 7 Z ?_;exact aA Z Z ⟨cJ (by unfold gJ;rw[show bU 16 c.aY=false from a,show bU 4000 (.ofNat c.ins.length)=true from d];rfl),aq.pop⟩
 refine Ok 9 Z ?_;obtain⟨LL1,aq,hLL1⟩:=aq.named;refine bp ([2,3,4]++rg 16 29) (fun j t U=>∃(i:Nat),j+i=c.ins.length/\(c.ins.take i).any (fun x=>x.exprs.any (gV k))=false/\t.get 3=some (.int .i64 (.ofNat i))/\J U K LL1) (c.ins.length) ⟨0,Z,Z,Z,aq⟩ ?_;clear aq;intro j4 t U ar X;obtain⟨i,hj,C,a5,aq⟩:=X;subst hLL1;obtain⟨oo,rfl⟩:=ar.q1 a5 Z;refine OU aq 6 [1,0] Z Z<|O Z (QD u Z Z Z (e:=79) Z) Z<|Pv 3 Z<|aE Z (fun b=>?_) (fun b=>?_)
 ·refine NP 6 Z ?_;obtain⟨P,f,a9⟩:=cL b;have hm27:=gB_ f;refine OM 4 Z ?_;obtain⟨LL2,aq,hLL2⟩:=aq.named;refine bp ([2,4]++rg 23 22) (fun j t U=>∃(i2:Nat),j+i2=P.exprs.length/\(P.exprs.take i2).any (gV k)=false/\t.get 4=some (.int .i64 (.ofNat i2))/\J U K LL2) (P.exprs.length) ⟨0,Z,Z,Z,aq⟩ ?_;clear aq;intro j7 t U ar X;obtain⟨i2,b6,aa,a6,aq⟩:=X;subst hLL2;obtain⟨oo,rfl⟩:=ar.q1 a6 Z;refine OU aq 7 [1,0] Z Z<|Qu (e:=79) (m:=6) u f Z Z Z Z (fun b7 bb ab be ac=>?_);have hr27':=ac;obtain⟨b8,rfl,E⟩:=hr27';refine cq ab Z Z Z (k:=5) Y (lb Z) (fun _=>Z) (fun b9 ag=>?_);refine O Z (QF aq ag Z Z) Z<|O Z (QD E Z Z Z (e:=82) Z) Z<|Pv 3 Z<|aE Z (fun w=>?_) (fun w=>?_)
  ·refine NQ aq 9 [1,0] Z Z<|Qu (e:=79) (m:=6) u f Z Z Z Z (fun ca bi am bl ao=>?_);have hr37':=ao;obtain⟨cb,rfl,ap⟩:=hr37';refine cq am Z Z Z (k:=5) Y (lb Z) (fun _=>Z) (fun cc ax=>?_);refine O Z (QF aq ax Z Z) Z<|vQ 1 Z ?_;obtain⟨ce,g,bm⟩:=cL w;refine Qu (e:=82) (m:=4) ap g Z Z Z Z (fun cg bo aI bs F=>?_);obtain⟨ch,ci,ck,cl,rfl,bt⟩:=F.shape;refine O Z (QG aq aI Z Z) Z<|bf Z (Qz Z Z Z) (fun _=>Z) (uD hG F (hF _ hm27 _<|gB_ g) (Nat.le_trans (hS _ hm27 _<|gB_ g) B) aq) (fun U aq=>?_);refine Pv 3 Z<|aE Z (fun Q=>?_) (fun Q=>?_)
   ·refine PX 6 Z<|aF<|aw<|bz<|aF<|aF<|aw<|bz<|aF<|aw (?_);exact aA Z Z ⟨cJ (by unfold gJ;rw[show bU 16 c.aY=false from a,show bU 4000 (.ofNat c.ins.length)=false from d];rw[Dd f<|Dd g (by rw[<-E0];exact Q)];rfl),aq.pop⟩
   refine aG<|aJ<|PW 5 Z<|aO ⟨j7-1,(by have:=bu w;omega),oF,i2+1,(by have:=bu w;omega),vL aa g (by rw[<-E0];exact Q),cI<|bg (by have:=E.bG;omega),aq⟩
  refine OL 3 Z<|aT<|aJ<|PW 5 Z<|aO ⟨j4-1,(by have:=bu b;omega),oF,i+1,(by have:=bu b;omega),vL C f<|lO aa<|bC w,cI<|bg (by have:=u.bG;omega),aq⟩
 refine OL 3 Z<|aT<|OU aq 6 [0,0] Z Z<|ky Z (an Z) (fun h=>?_) (fun h=>?_)
 ·refine OQ 15 Z ?_;exact aA Z Z ⟨cJ (by unfold gJ;rw[show bU 16 c.aY=false from a,show bU 4000 (.ofNat c.ins.length)=false from d];rw[show c.ins.any (fun x=>x.exprs.any (gV k))=false from lO C (bC b)];rw[show bU c.aY 0=true from h];rfl),aq.pop⟩
 refine P3 aq 2 [1,0] Z Z<|O Z (QD u Z Z Z (e:=79) Z) Z<|Pv 4 Z<|aE Z (fun o=>?_) (fun o=>?_)
 ·refine Pu 7 Z ?_;exact aA Z Z ⟨cJ (by unfold gJ;rw[show bU 16 c.aY=false from a,show bU 4000 (.ofNat c.ins.length)=false from d];rw[show c.ins.any (fun x=>x.exprs.any (gV k))=false from lO C (bC b)];rw[show bU c.aY 0=false from h,show I (.ofNat c.ins.length) 0=true from o];rfl),aq.pop⟩
 refine Ok 9 Z ?_;obtain⟨LL3,aq,hLL3⟩:=aq.named;refine bp ([2,5]++rg 54 15) (fun j t U=>∃(i:Nat),j+i=c.ins.length/\(c.ins.take i).all (gK c.aY (.ofNat c.ins.length) k)=true/\t.get 5=some (.int .i64 (.ofNat i))/\J U K LL3) (c.ins.length) ⟨0,Z,Z,Z,aq⟩ ?_;clear aq;intro a7 t U ar X;obtain⟨i,cn,p,a8,aq⟩:=X;subst hLL3;obtain⟨oo,rfl⟩:=ar.q1 a8 Z;refine OU aq 6 [1,0] Z Z<|O Z (QD u Z Z Z (e:=79) Z) Z<|Pv 3 Z<|aE Z (fun q=>?_) (fun q=>?_)
 ·refine NO 5 Z<|aS (l:=zp [0,1,2,3,4,5,6,7]) Y Y<|al Z Z (QC Z aq.g0 (n:=2) (vs:=[_,_]) Z) Z<|P4 aq 3 [1,0] Z Z ?_;obtain⟨co,r,bv⟩:=cL q;refine Qv (e:=79) (m:=6) u r Z Z Z Z Z (fun cp bw a0 b0 M=>?_);have hr65raw:=M;have hr65':=M;obtain⟨cs,rfl,b2⟩:=hr65';refine al Z Z (QG aq a0 Z Z) Z<|cA Z Z (Qz Z Z Z) (fun _=>Z) (H4 hG u hr65raw (hF _<|gB_ r) (hS _<|gB_ r) aq) (fun U aq=>?_);refine⟨aV,?_⟩;refine al Z Z (cV Z) Z<|Py 2 Z<|aE Z (fun R=>?_) (fun R=>?_)
  ·refine PX 6 Z<|aF<|aw<|bz<|aF<|aw (?_);exact aA Z Z ⟨cJ (by unfold gJ;rw[show bU 16 c.aY=false from a,show bU 4000 (.ofNat c.ins.length)=false from d];rw[show c.ins.any (fun x=>x.exprs.any (gV k))=false from lO C (bC b)];rw[show bU c.aY 0=false from h,show I (.ofNat c.ins.length) 0=false from o];rw[gG r<|bT R];rfl),aq.pop⟩
  refine aG<|aJ<|PW 5 Z<|aO ⟨a7-1,(by have:=bu q;omega),oF,i+1,(by have:=bu q;omega),eR p r<|bj R,cI<|bg (by have:=u.bG;omega),aq⟩
 refine OL 3 Z<|aT<|Pt 2 Z ?_;have a1:0<c.ins.length:=by have:=KF o;omega
 obtain⟨z,s⟩:=cm (show c.ins.length-1<c.ins.length by omega);refine P3 aq 4 [1,0,1,0] Z Z<|O Z (QD u Z Z Z (e:=79) Z) Z<|vQ 1 Z<|Qu (e:=79) (m:=6) u s Z Z Z (show _=some (V.int .i64 (.ofNat (c.ins.length-1))) from cI (JZ a1 (by have:=u.bG;omega))) (fun cx b3 a2 b4 a3=>?_);have hr75':=a3;obtain⟨cM,rfl,b5⟩:=hr75';refine cq a2 Z Z Z (k:=0) Y (lb Z) (fun _=>Z) (fun c0 a4=>?_);refine O Z (QF aq a4 Z Z) Z<|On 8 Z<|ky Z (an Z) (fun y=>?_) (fun y=>?_)
 ·refine PZ 3 Z<|ky Z (an Z) (fun A=>?_) (fun A=>?_)
  ·refine Pv 5 Z<|aE Z (fun W=>?_) (fun W=>?_)
   ·refine Pu 7 Z ?_;exact aA Z Z ⟨cJ (by unfold gJ;rw[show bU 16 c.aY=false from a,show bU 4000 (.ofNat c.ins.length)=false from d];rw[show c.ins.any (fun x=>x.exprs.any (gV k))=false from lO C (bC b)];rw[show bU c.aY 0=false from h,show I (.ofNat c.ins.length) 0=false from o];rw[dR p<|bC q,s];show _=bif gk z then _ else _;unfold gk;simp only[bT y,bT A,bT W,ct,cf]<;>rfl),aq.pop⟩
   refine Pu 8 Z ?_;exact aA Z Z ⟨cJ (by unfold gJ;rw[show bU 16 c.aY=false from a,show bU 4000 (.ofNat c.ins.length)=false from d];rw[show c.ins.any (fun x=>x.exprs.any (gV k))=false from lO C (bC b)];rw[show bU c.aY 0=false from h,show I (.ofNat c.ins.length) 0=false from o];rw[dR p<|bC q,s];show _=bif gk z then _ else _;unfold gk;simp only[bT y,bT A,bj W,ct,cf]<;>rfl),aq.pop⟩
  refine OQ 14 Z ?_;exact aA Z Z ⟨cJ (by unfold gJ;rw[show bU 16 c.aY=false from a,show bU 4000 (.ofNat c.ins.length)=false from d];rw[show c.ins.any (fun x=>x.exprs.any (gV k))=false from lO C (bC b)];rw[show bU c.aY 0=false from h,show I (.ofNat c.ins.length) 0=false from o];rw[dR p<|bC q,s];show _=bif gk z then _ else _;unfold gk;simp only[bT y,bj A,ct,cf]<;>rfl),aq.pop⟩
 refine OQ 18 Z ?_;exact aA Z Z ⟨cJ (by unfold gJ;rw[show bU 16 c.aY=false from a,show bU 4000 (.ofNat c.ins.length)=false from d];rw[show c.ins.any (fun x=>x.exprs.any (gV k))=false from lO C (bC b)];rw[show bU c.aY 0=false from h,show I (.ofNat c.ins.length) 0=false from o];rw[dR p<|bC q,s];show _=bif gk z then _ else _;unfold gk;simp only[bj y,ct,cf]<;>rfl),aq.pop⟩
end Go.Ev
namespace Go.Ev
variable [Env]
def jY (x:XI) (a:Nat):List Int:=
 bif I x.kind 12 then [] else bif I x.kind 13 then [] else bif I x.kind 10 then [x.to] else
 bif I x.kind 11 then(bif bU x.to (.ofNat (a+1)) then [x.to,.ofNat (a+1)] else bif bU (.ofNat (a+1)) x.to then [.ofNat (a+1),x.to] else [.ofNat (a+1)]) else [.ofNat (a+1)]
def gM (c:XC) (i:Nat):List Nat:=match c.ins[i]? with | some x=>(jY x i).map Int.toNat | none=>[]
theorem yW {x:XI} {a:Nat} {t:Int}:t∈jY x a↔t∈gN x a:=by
 unfold jY gN;cases b:I x.kind 12 with
 | true=>rw[eqv b];simp[show I 12 10=false from Z,show I 12 11=false from Z,show I 12 12=true from Z]
 | false=>
 cases c:I x.kind 13 with
 | true=>rw[eqv c];simp[show I 13 10=false from Z,show I 13 11=false from Z,show I 13 12=false from Z,show I 13 13=true from Z]
 | false=>
 cases aa:I x.kind 10 with
 | true=>simp
 | false=>
 cases ab:I x.kind 11 with
 | false=>simp
 | true=>
  simp only[cond_true,cond_false];cases d:bU x.to (.ofNat (a+1)) with
  | true=>simp only[cond_true,mQ_,List.not_mem_nil,or_false];exact or_comm
  | false=>
   cases f:bU (.ofNat (a+1)) x.to with
   | true=>simp
   | false=>
    have g:Int.ofNat (a+1)<=x.to:=by rw[eP,decide_eq_false_iff_not] at d;exact Int.not_lt.1 d
    have h:x.to<=Int.ofNat (a+1):=by rw[eP,decide_eq_false_iff_not] at f;exact Int.not_lt.1 f
    have e:x.to=Int.ofNat (a+1):=Int.le_antisymm h g;rw[e];simp
theorem si {c:XC} {i t:Nat}:t∈gM c i↔t∈dj c i:=by
 unfold gM dj;cases c.ins[i]? with
 | none=>exact Iff.rfl
 | some x=>simp only[List.mem_map,yW]
theorem Cc:∀(n:Nat) (l:List Nat),l.Nodup->(∀x∈l,x<n)->l.length<=n
 | 0,l,_,h=>by cases l with | nil=>exact nR_ _ | cons a l=>exact absurd (h a<|mS_ ..) (nZ_ _)
 | n+1,l,b,h=>by
  have:=Cc n (l.erase n) (b.erase n) (fun x c=>by
   have h1:=(b.mem_erase_iff.1 c);have:=h x h1.2;omega)
  have h2:=List.length_erase_le (a:=n) (l:=l);have h3:l.length<=(l.erase n).length+1:=by rw[List.length_erase];split<;>omega
  omega
def nH (f:Nat->Nat) (l:List Nat) (m:Nat):Nat:=l.foldl (fun m t=>max m (f t)) m
theorem sS {f:Nat->Nat} {B_:Nat}:∀{l:List Nat} {m:Nat},m<=B_->(∀t∈l,f t<=B_)->nH f l m<=B_
 | [],_,hm,_=>hm
 | a::l,m,hm,h=>sS (l:=l) (Nat.max_le.2 ⟨hm,h a<|mS_ ..⟩) (fun t b=>h t (mC_ _ b))
theorem B2 {f:Nat->Nat}:∀{l:List Nat} {m:Nat},m<=nH f l m
 | [],_=>nR_ _
 | a::l,m=>Nat.le_trans (Nat.le_max_left _ _) (B2 (l:=l))
theorem oU {f:Nat->Nat}:∀{l:List Nat} {m t:Nat},t∈l->f t<=nH f l m
 | a::l,m,t,h=>by
  rcases mQ_.1 h with rfl | h
  ·exact Nat.le_trans (Nat.le_max_right _ _)<|B2 (l:=l)
  exact oU (l:=l) h
theorem oW {f g:Nat->Nat} {l l':List Nat} (h:∀t,t∈l↔t∈l') (b:∀t∈l,f t=g t):nH f l 0=nH g l' 0:=by
 refine Nat.le_antisymm (sS (Nat.zero_le _) fun t a=>?_)<|sS (Nat.zero_le _) fun t a=>?_
 ·rw[b t a];exact oU ((h t).1 a)
 rw[<-b t ((h t).2 a)];exact oU ((h t).2 a)
theorem GY {f g:Nat->Nat} {l:List Nat} (b:∀t∈l,f t<=g t):nH f l 0<=nH g l 0:=sS (Nat.zero_le _) fun t a=>Nat.le_trans (b t a) (oU a)
theorem yV {f:Nat->Nat}:∀{l:List Nat} {m:Nat},nH f l m=m∨∃t∈l,nH f l m=f t
 | [],_=>.inl Z
 | a::l,m=>by
  rcases yV (f:=f) (l:=l) (m:=max m<|f a) with h | ⟨t,c,h⟩
  ·show nH f l (max m<|f a)=m∨_;rcases Nat.le_total m (f a) with b | b
   ·exact .inr ⟨a,mS_ ..,by show nH f l (max m<|f a)=_;rw[Nat.max_eq_right b] at h⊢;exact h⟩
   exact .inl (by rw[Nat.max_eq_left b] at h⊢;exact h)
  exact .inr ⟨t,mC_ _ c,h⟩
inductive Reach (nx:Nat->List Nat):Nat->Prop
 | zero:Reach nx 0
 | step {i t:Nat}:Reach nx i->t∈nx i->Reach nx t
theorem Reach.mR {nx:Nat->List Nat} {n:Nat} {out:List Nat} (a:fg nx n out) {i:Nat} (h:Reach nx i):i∈out:=by
 induction h with
 | zero=>exact a.zero
 | step _ b ih=>
  obtain⟨q,c⟩:=gO_ ih;obtain⟨q',_,h'⟩:=a.Ae q _ c _ b;exact gB_ h'
def NN (w:Nat->Nat) (nx:Nat->List Nat):Nat->Nat->Nat
 | 0,_=>0
 | k+1,i=>nH (NN w nx k) (nx i) 0+w i
theorem BY {w:Nat->Nat} {nx:Nat->List Nat} {n:Nat} {out:List Nat} (c:fg nx n out):∀(q i:Nat),out[q]?=some i->∀k,q<k->NN w nx k i=NN w nx (q+1) i:=by
 intro q;induction q using Nat.strongRecOn with
 | _ q ih=>
  intro i d k hk;obtain⟨k,rfl⟩:∃m,k=m+1:=⟨k-1,by omega⟩;show nH _ _ _+_=nH _ _ _+_;rw[oW (fun t=>Iff.rfl) (fun t e=>?_)];obtain⟨q',a,b⟩:=c.Ae q i d t e;rw[ih q' a t b k B,ih q' a t b q B]
def tB (w:Nat->Nat) (nx:Nat->List Nat) (f:Nat->Nat):Prop:=∀i,Reach nx i->f i=nH f (nx i) 0+w i
theorem Iw {w:Nat->Nat} {nx:Nat->List Nat} {n:Nat} {out:List Nat} (a:fg nx n out):tB w nx (NN w nx out.length):=by
 intro i c;obtain⟨q,b⟩:=gO_ (c.mR a);have hl:=(gA.1 b).1;rw[BY a q i b _ hl,<-BY a q i b (out.length+1) B];rfl
theorem KL {w:Nat->Nat} {nx:Nat->List Nat} {n:Nat} {out:List Nat} {f g:Nat->Nat} (c:fg nx n out) (e:tB w nx f) (h:tB w nx g):∀i,Reach nx i->f i=g i:=by
 have:∀(q i:Nat),out[q]?=some i->Reach nx i->f i=g i:=by
  intro q;induction q using Nat.strongRecOn with
  | _ q ih=>
   intro i a b;rw[e i b,h i b,oW (fun t=>Iff.rfl) (fun t d=>?_)];obtain⟨q',j,k⟩:=c.Ae q i a t d;exact ih q' j t k (.step b d)
 intro i a;obtain⟨q,l⟩:=gO_ (a.mR c);exact this q i l a
theorem Ix {v w:Nat->Nat} {nx:Nat->List Nat} {n:Nat} {out:List Nat} {f g:Nat->Nat} (c:fg nx n out) (hw:∀i,v i<=w i) (e:tB v nx f) (h:tB w nx g):∀i,Reach nx i->f i<=g i:=by
 have:∀(q i:Nat),out[q]?=some i->Reach nx i->f i<=g i:=by
  intro q;induction q using Nat.strongRecOn with
  | _ q ih=>
   intro i a b;rw[e i b,h i b];refine Nat.add_le_add (GY fun t d=>?_)<|hw i;obtain⟨q',j,k⟩:=c.Ae q i a t d;exact ih q' j t k (.step b d)
 intro i a;obtain⟨q,l⟩:=gO_ (a.mR c);exact this q i l a
theorem Gz {nx:Nat->List Nat} {h:Nat->Nat} (c:tB (fun _=>1) nx h):∀(v i:Nat),Reach nx i->h i=v->∃l:List Nat,l.length=v/\l.Nodup/\∀x∈l,Reach nx x/\1<=h x/\h x<=v:=by
 intro v;induction v with
 | zero=>intro i a e;have:=c i a;dsimp only at this;omega
 | succ v ih=>
  intro i a e;rcases yV (f:=h) (l:=nx i) (m:=0) with hm | ⟨t,g,hm⟩
  ·have:=c i a;rw[hm] at this;dsimp only at this;obtain rfl:v=0:=by omega
   exact⟨[i],Z,by simp,fun x b=>by obtain rfl:=List.mem_singleton.1 b;exact⟨a,by omega,by omega⟩⟩
  have:=c i a;rw[hm] at this;dsimp only at this;obtain⟨l,j,k,d⟩:=ih t (.step a g) B;refine⟨i::l,by simp[j],List.nodup_cons.2 ⟨fun b=>?_,k⟩,fun x b=>?_⟩
  ·have:=(d i b).2.2;omega
  rcases mQ_.1 b with rfl | b
  ·exact⟨a,by omega,by omega⟩
  have:=d x b;exact⟨this.1,this.2.1,by omega⟩
theorem MO {nx:Nat->List Nat} {n:Nat} {out:List Nat} {h:Nat->Nat} (a:fg nx n out) (b:tB (fun _=>1) nx h):∀i,Reach nx i->h i<=n:=by
 intro i c;obtain⟨l,d,e,f⟩:=Gz b _ i c Z;rw[<-d];exact Cc n l e fun x g=>a.lt x ((f x g).1.mR a)
def mZ (b:List Nat) (t:Nat):Nat:=(b[t]?).getD 0
def iH (nx:Nat->List Nat) (w:Nat->Nat) (b:List Nat) (i:Nat):Nat:=nH (mZ b) (nx i) 0+w i
def iE (nx:Nat->List Nat) (w:Nat->Nat) (r:Nat->Bool) (n:Nat):Nat->List Nat×Bool->Option (List Nat×Bool)
 | 0,s=>some s
 | i+1,s=>bif aX (r i) then iE nx w r n i s else bif Nat.blt n (iH nx w s.1 i) then none else bif Nat.beq (iH nx w s.1 i) (mZ s.1 i) then iE nx w r n i s else iE nx w r n i (s.1.set i<|iH nx w s.1 i,false)
def jF (nx:Nat->List Nat) (w:Nat->Nat) (r:Nat->Bool) (n:Nat):Nat->List Nat->Nat×Bool
 | 0,_=>(0,false)
 | f+1,b=>match iE nx w r n n (b,true) with
  | none=>(0,false)
  | some (b',true)=>(mZ b' 0,true)
  | some (b',false)=>jF nx w r n f b'
section
variable {nx:Nat->List Nat} {w:Nat->Nat} {r:Nat->Bool} {n:Nat}
theorem EW {b:List Nat} {i v t:Nat} (a:i<b.length):mZ (b.set i v) t=if t=i then v else mZ b t:=by
 unfold mZ;rw[List.getElem?_set];split
 ·rename_i e;subst e;simp[a]
 rename_i e;rw[if_neg (fun h=>e h.symm)]
theorem qV:∀{i:Nat} {s s':List Nat×Bool},iE nx w r n i s=some s'->s'.1.length=s.1.length
 | 0,s,s',h=>by cases h;rfl
 | i+1,s,s',h=>by
  unfold iE at h;cases a:aX (r i) with
  | true=>rw[a] at h;exact qV h
  | false=>
  cases b:Nat.blt n (iH nx w s.1 i) with
  | true=>rw[a,b] at h;cases h
  | false=>
  cases c:Nat.beq (iH nx w s.1 i) (mZ s.1 i) with
  | true=>rw[a,b,c] at h;exact qV h
  | false=>rw[a,b,c] at h;have:=qV (i:=i) h;rw[this];exact List.length_set
theorem oZ:∀{i:Nat} {s:List Nat×Bool} {b':List Nat},iE nx w r n i s=some (b',true)->s.2=true/\b'=s.1/\∀j,j<i->r j=true->mZ s.1 j=iH nx w s.1 j
 | 0,s,b',h=>by cases h;exact⟨Z,Z,fun j g=>absurd g (nZ_ _)⟩
 | i+1,s,b',h=>by
  unfold iE at h;cases d:aX (r i) with
  | true=>
   rw[d] at h;obtain⟨a,b,c⟩:=oZ (i:=i) h;refine⟨a,b,fun j g f=>?_⟩
   by_cases e:j=i
   ·subst e;rw[bT d] at f;cases f
   exact c j B f
  | false=>
  cases k:Nat.blt n (iH nx w s.1 i) with
  | true=>rw[d,k] at h;cases h
  | false=>
  cases l:Nat.beq (iH nx w s.1 i) (mZ s.1 i) with
  | true=>
   rw[d,k,l] at h;obtain⟨a,b,c⟩:=oZ (i:=i) h;refine⟨a,b,fun j g f=>?_⟩
   by_cases e:j=i
   ·subst e;exact(nB l).symm
   exact c j B f
  | false=>rw[d,k,l] at h;exact absurd (oZ (i:=i) h).1 Bool.false_ne_true
theorem sg:∀{f:Nat} {b:List Nat},(jF nx w r n f b).2=true->∃b',b'.length=b.length/\(jF nx w r n f b).1=mZ b' 0/\∀j,j<n->r j=true->mZ b' j=iH nx w b' j
 | 0,b,h=>by cases h
 | f+1,b,h=>by
  unfold jF at h⊢;cases a:iE nx w r n n (b,true) with
  | none=>rw[a] at h;cases h
  | some s=>
   obtain⟨b',q⟩:=s;rw[a] at h;cases q with
   | true=>
    obtain⟨_,e,h'⟩:=oZ a;dsimp only at e;subst e;exact⟨b',Z,Z,h'⟩
   | false=>
    obtain⟨c,d,g,i⟩:=sg (f:=f) (b:=b') h;exact⟨c,by rw[d,qV a],g,i⟩
end
section
variable {nx dx:Nat->List Nat} {w:Nat->Nat} {r:Nat->Bool} {n:Nat} {out:List Nat} {F H_:Nat->Nat}
theorem Ly (c:∀i t,t∈dx i↔t∈nx i) (d:tB w nx F) {b:List Nat} (e:∀i,Reach nx i->mZ b i<=F i) {i:Nat} (a:Reach nx i):iH dx w b i<=F i:=by
 rw[d i a];unfold iH;refine Nat.add_le_add_right (sS (Nat.zero_le _) fun t ht=>?_) _;have ht:=(c i t).1 ht;exact Nat.le_trans (e t (.step a ht))<|oU ht
theorem Lx (a:∀i t,t∈dx i↔t∈nx i) (c:tB w nx F) {b:List Nat} {i:Nat} (d:Reach nx i) (e:∀t∈nx i,mZ b t=F t):iH dx w b i=F i:=by
 rw[c i d];unfold iH;rw[oW (a i) fun t f=>e t ((a i t).1 f)]
theorem sZ (p:∀i t,t∈dx i↔t∈nx i) (q:∀i,i<n->(r i=true↔Reach nx i)) (u:tB w nx F) (f:∀i,Reach nx i->F i<=n) (z:∀i t,Reach nx i->t∈nx i->H_ t<H_ i) {m:Nat}:
  ∀{i:Nat} {s:List Nat×Bool},i<=n->s.1.length=n->(∀j,Reach nx j->mZ s.1 j<=F j)->(∀j,Reach nx j->H_ j<=m->mZ s.1 j=F j)->(∀j,j<n->i<=j->Reach nx j->H_ j<=m+1->mZ s.1 j=F j)->
   ∃s',iE dx w r n i s=some s'/\s'.1.length=n/\(∀j,Reach nx j->mZ s'.1 j<=F j)/\(∀j,j<n->Reach nx j->H_ j<=m+1->mZ s'.1 j=F j)/\((∀j,Reach nx j->H_ j<=m)->s'.2=s.2)
 | 0,s,_,v,l,o,x=>⟨s,Z,v,l,fun j c=>x j c (Nat.zero_le _),fun _=>Z⟩
 | i+1,s,hi,v,l,o,x=>by
  unfold iE;cases A:aX (r i) with
  | true=>
   refine sZ p q u f z (i:=i) B v l o fun j c y b g=>?_
   by_cases e:j=i
   ·subst e;rw[(q j c).2 b] at A;cases A
   exact x j c B b g
  | false=>
  have a:Reach nx i:=(q i B).1 (by cases h:r i;rw[h] at A;cases A;rfl);have G:iH dx w s.1 i<=F i:=Ly p u l a;have hfi:=f i a;rw[show Nat.blt n (iH dx w s.1 i)=false from by rw[Bool.eq_false_iff];intro h;have:=Nat.le_of_ble_eq_true h;omega];have hex:H_ i<=m+1->iH dx w s.1 i=F i:=fun h=>Lx p u a fun t E=>o t (.step a E) (by have:=z i t a E;omega)
  cases C:Nat.beq (iH dx w s.1 i) (mZ s.1 i) with
  | true=>
   refine sZ p q u f z (i:=i) B v l o fun j c y b g=>?_
   by_cases e:j=i
   ·subst e;rw[<-nB C];exact hex g
   exact x j c B b g
  | false=>
   have d:∀j,mZ (s.1.set i<|iH dx w s.1 i) j=if j=i then iH dx w s.1 i else mZ s.1 j:=fun j=>EW B
   obtain⟨s',K,k2,L,M,k5⟩:=sZ p q u f z (m:=m) (i:=i) (s:=(s.1.set i<|iH dx w s.1 i,false)) B (by rw[List.length_set];exact v)
    (fun j c=>by rw[d];split;(rename_i e;subst e;exact G);exact l j c)
    (fun j c hm=>by rw[d];split;(rename_i e;subst e;exact hex B);exact o j c hm)
    (fun j c y b hm=>by rw[d];split;(rename_i e;subst e;exact hex hm);exact x j c B b hm)
   refine⟨s',K,k2,L,M,fun k=>?_⟩;exfalso;have e1:=hex (by have:=k i a;omega);have e2:=o i a (k i a);rw[e1,e2,Nat.beq_refl] at C;cases C
theorem B5 (g:∀i t,t∈dx i↔t∈nx i) (k:∀i,i<n->(r i=true↔Reach nx i)) (c:∀i,Reach nx i->i<n) (l:tB w nx F) (d:∀i,Reach nx i->F i<=n) (o:∀i t,Reach nx i->t∈nx i->H_ t<H_ i) (e:∀i,Reach nx i->H_ i<=n):
  ∀{f m:Nat} {b:List Nat},n+1<f+m->1<=f->b.length=n->(∀j,Reach nx j->mZ b j<=F j)->(∀j,Reach nx j->H_ j<=m->mZ b j=F j)->(jF dx w r n f b).2=true
 | 0,_,_,_,h,_,_,_=>absurd h B
 | f+1,m,b,aa,_,p,u,v=>by
  obtain⟨⟨b',q⟩,x,k2,y,z,A⟩:=sZ (w:=w) (F:=F) g k l d o (m:=m) (i:=n) (s:=(b,true)) (nR_ _) p u v (fun j a ab=>absurd a B);unfold jF;rw[x];cases q with
  | true=>rfl
  | false=>
   by_cases hm:n<=m
   ·have:=A fun j a=>Nat.le_trans (e j a) hm
    cases this
   exact B5 g k c l d o e (f:=f) (m:=m+1) B B k2 y fun j a=>z j (c j a) a
end
theorem DZ {nx dx:Nat->List Nat} {w:Nat->Nat} {r:Nat->Bool} {n:Nat} {out:List Nat} (d:fg nx n out) (k:∀i t,t∈dx i↔t∈nx i) (l:∀i,i<n->(r i=true↔Reach nx i)) (hw:∀i,w i<=1) {F:Nat->Nat} (g:tB w nx F):
  jF dx w r n (n+2) (List.replicate n 0)=(F 0,true):=by
 have hH:=Iw (w:=fun _=>1) d;have c:∀i,Reach nx i->i<n:=fun i a=>d.lt i (a.mR d)
 have hHn:=MO d hH;have hFH:=Ix d hw g hH
 have h:∀i t,Reach nx i->t∈nx i->NN (fun _=>1) nx out.length t<NN (fun _=>1) nx out.length i:=fun i t a p=>by
  rw[hH i a];exact Nat.lt_succ_of_le<|oU p
 have o:∀j,mZ (List.replicate n 0) j=0:=fun j=>by
  unfold mZ;rw[List.getElem?_replicate];split<;>rfl
 have hs:=B5 (w:=w) k l c g (fun i a=>Nat.le_trans (hFH i a) (hHn i a)) h hHn (f:=n+2) (m:=0) (b:=List.replicate n 0) B B (by simp) (fun j _=>by rw[o];exact Nat.zero_le _)
  (fun j q hm=>by have:=hFH j q;rw[o];omega)
 obtain⟨b',h1,s,u⟩:=sg hs
 have e:tB w nx (mZ b'):=fun i a=>by
  rw[u i (c i a) ((l i<|c i a).2 a)];unfold iH;rw[oW (k i) fun t _=>Z]
 exact Prod.ext (by rw[s];exact KL d e g 0 .zero) hs
structure EN (nx:Nat->List Nat) (s:DS):Prop where
 open_:∀i:Nat,s.st[i]?=some 1->i∈s.path
 Ih:∀(j a b:Nat),s.path[j]?=some a->s.path[j+1]?=some b->b∈nx a
 reach:∀i∈s.path,Reach nx i
theorem vU {nx:Nat->List Nat} {p:List Nat} {f:Nat->Nat} (he:∀(j a b:Nat),p[j]?=some a->p[j+1]?=some b->b∈nx a) (g:∀i∈p,Reach nx i) (h:∀i t,Reach nx i->t∈nx i->f t<f i):
  ∀(d j a b:Nat),p[j]?=some a->p[j+d]?=some b->f b<=f a
 | 0,j,a,b,e,c=>by rw[Nat.add_zero,e] at c;cases c;exact nR_ _
 | d+1,j,a,b,e,c=>by
  have hl:=(gA.1 c).1;obtain⟨x,k⟩:∃x,p[j+1]?=some x:=⟨_,gC B⟩;have h1:=h a x (g a<|gB_ e) (he j a x e k);have h2:=vU he g h d (j+1) x b k (by rw[show j+1+d=j+(d+1) by omega];exact c);omega
theorem Dz {nx:Nat->List Nat} {n:Nat} {s:DS} {f:Nat->Nat} (hw:LV nx n s) (d:EN nx s) (p:∀i,i<n->∀to∈nx i,to<n) (z:∀i t,Reach nx i->t∈nx i->f t<f i) {a:Nat} (E:s.path.getLast?=some a):∃s',ku nx s a=some s'/\EN nx s':=by
 obtain⟨P,l⟩:=List.getLast?_eq_some_iff.1 E;have m:a∈s.path:=by rw[l];simp
 have hra:=d.reach a m;obtain⟨q,aa⟩:=hw.path a m;have o:s.path[P.length]?=some a:=by rw[l];simp
 unfold ku;dsimp only;cases u:(nx a)[(s.gone[a]?).getD 0]? with
 | none=>
  dsimp only;refine⟨_,Z,⟨fun i b=>?_,fun j x y g c=>?_,fun i b=>?_⟩⟩
  ·have b:(s.st.set a 2)[i]?=some 1:=b;rw[List.getElem?_set] at b;split at b
   ·split at b<;>simp at b
   rename_i e;have:=d.open_ i b;show i∈s.path.dropLast;rw[l] at this⊢;simp only[List.dropLast_concat];rcases List.mem_append.1 this with h | h
   ·exact h
   exact absurd (List.mem_singleton.1 h).symm e
  ·have g:s.path.dropLast[j]?=some x:=g;have c:s.path.dropLast[j+1]?=some y:=c;rw[List.getElem?_dropLast] at g c;split at g
   ·split at c
    ·exact d.Ih j x y g c
    cases c
   cases g
  have b:i∈s.path.dropLast:=b;exact d.reach i ((List.dropLast_sublist _).subset b)
 | some to=>
  dsimp only;have htm:=gB_ u;have ab:to<n:=p a q to htm
  by_cases A:(s.st[to]?).getD 0=2
  ·rw[if_pos A];exact⟨_,Z,⟨d.open_,d.Ih,d.reach⟩⟩
  rw[if_neg A]
  have k:¬(s.st[to]?).getD 0=1:=fun k=>by
   have:s.st[to]?=some 1:=by
    cases h:s.st[to]? with
    | none=>rw[h] at k;cases k
    | some v=>rw[h] at k;exact congrArg some k
   obtain⟨j,C⟩:=gO_ (d.open_ to this);have hjl:=(gA.1 C).1;rw[l] at hjl;simp only[lA_,List.length_singleton] at hjl;have:=vU d.Ih d.reach z (P.length-j) j to a C (by rw[show j+(P.length-j)=P.length by omega];exact o);have:=z a to hra htm;omega
  rw[if_neg k];refine⟨_,Z,⟨fun i b=>?_,fun j x y g c=>?_,fun i b=>?_⟩⟩
  ·have b:(s.st.set to 1)[i]?=some 1:=b;show i∈s.path++[to];rw[List.getElem?_set] at b;split at b
   ·rename_i e;subst e;simp
   exact List.mem_append_left _<|d.open_ i b
  ·have g:(s.path++[to])[j]?=some x:=g;have c:(s.path++[to])[j+1]?=some y:=c;have hyl:=(gA.1 c).1;simp only[lA_,List.length_singleton] at hyl;rw[gL_ B] at g
   by_cases e:j+1<s.path.length
   ·rw[gL_ e] at c;exact d.Ih j x y g c
   have e:j+1=s.path.length:=by omega
   rw[e,gR_<|nR_ _,Nat.sub_self] at c;cases c;have:j=P.length:=by rw[l] at e;simp at e;exact e
   rw[this,o] at g;cases g;exact htm
  have b:i∈s.path++[to]:=b;rcases List.mem_append.1 b with h | h
  ·exact d.reach i h
  obtain rfl:=List.mem_singleton.1 h;exact .step hra htm
theorem Bx {nx:Nat->List Nat} {n:Nat} {f:Nat->Nat} (b:∀i,i<n->∀to∈nx i,to<n) (c:∀i t,Reach nx i->t∈nx i->f t<f i):∀{fu:Nat} {s:DS},LV nx n s->EN nx s->jr nx n s<fu->(xV nx fu s).isSome=true
 | 0,_,_,_,h=>absurd h (nZ_ _)
 | fu+1,s,hw,g,hl=>by
  unfold xV;cases d:s.path.getLast? with
  | none=>rfl
  | some a=>
   obtain⟨s',e,j⟩:=Dz hw g b c d;have hs:=nU hw b d e;show((ku nx s a).bind<|xV nx fu).isSome=true;rw[e];exact Bx b c hs.1 j B
theorem Ig {nx:Nat->List Nat} {n:Nat}:EN nx (x7 n) where
 open_ i hi:=by
  have hi:((List.replicate n 0).set 0 1)[i]?=some 1:=hi;rw[List.getElem?_set] at hi;split at hi
  ·rename_i e;subst e;simp[x7]
  have:=eR_ (gB_ hi);cases this
 Ih j a b ha hb:=by
  have hb: [0][j+1]?=some b:=hb;simp at hb
 reach i hi:=by
  obtain rfl:i=0:=by simpa [x7] using hi
  exact .zero
theorem BL {k:Nat} {c:XC} (d:eX k c) {r:Nat->Bool} (f:∀i,i<c.ins.length->(r i=true↔Reach (dj c) i)):
  (jF (gM c) (fun _=>1) r c.ins.length (c.ins.length+2)<|List.replicate c.ins.length 0).2=(fT c).isSome:=by
 have hnx:=sT d;cases g:fT c with
 | some out=>
  have hR:=r8 hnx (wg d.pos) (show xV _ _ _=some out from g);rw[DZ hR (fun i t=>si) f (fun _=>nR_ _)<|Iw hR];rfl
 | none=>
  show _=false;rw[Bool.eq_false_iff];intro h;obtain⟨b',h1,h2,j⟩:=sg h
  have a:∀i,Reach (dj c) i->i<c.ins.length:=fun i b=>by
   induction b with
   | zero=>exact d.pos
   | step _ e ih=>exact hnx _ ih _ e
  have l:∀i t,Reach (dj c) i->t∈dj c i->mZ b' t<mZ b' i:=fun i t b e=>by
   rw[j i (a i b) ((f i<|a i b).2 b)];exact Nat.lt_succ_of_le<|oU<|si.2 e
  have:=Bx (fu:=2*total (dj c) c.ins.length+2) hnx l (wg d.pos) Ig (by rw[Fq];omega);rw[show xV (dj c) (2*total (dj c) c.ins.length+2) (x7 c.ins.length)=none from g] at this;cases this
abbrev gB (b:Bool):V:=.bool b
def tO:List Bool->Nat
 | []=>0
 | b::l=>(if b then 0 else 1)+tO l
theorem BH:∀{l:List Bool} {i:Nat},l[i]?=some false->tO (l.set i true)+1=tO l
 | [],_,h=>by simp at h
 | b::l,0,h=>by
  simp only[List.getElem?_cons_zero,oJ_] at h;subst h;show(0+tO l)+1=1+tO l;omega
 | b::l,i+1,h=>by
  have:=BH (l:=l) (i:=i) (by simpa using h);show(if b then 0 else 1)+tO (l.set i true)+1=(if b then 0 else 1)+tO l;omega
theorem sM:∀(l:List Bool),tO l<=l.length
 | []=>nR_ _
 | b::l=>by
  have:=sM l;show(if b then 0 else 1)+tO l<=l.length+1;split<;>omega
structure C6 (nx:Nat->List Nat) (n:Nat) (o:List Bool) (st:List Nat):Prop where
 len:o.length=n
 reach:∀i:Nat,o[i]?=some true->Reach nx i
 zero:o[0]?=some true
 Hq:∀i∈st,i<n/\o[i]?=some true
 closed:∀i:Nat,o[i]?=some true->i∈st∨∀t∈nx i,o[t]?=some true
structure vF (nx:Nat->List Nat) (n:Nat) (o:List Bool) (st:List Nat) (a m:Nat) (dl:List Nat):Prop where
 len:o.length=n
 reach:∀i:Nat,o[i]?=some true->Reach nx i
 zero:o[0]?=some true
 Hq:∀i∈st,i<n/\o[i]?=some true
 at_:o[a]?=some true
 closed:∀i:Nat,o[i]?=some true->i∈st∨i=a∨∀t∈nx i,o[t]?=some true
 done:∀(q t:Nat),q<m->dl[q]?=some t->o[t]?=some true
section
variable {nx:Nat->List Nat} {n:Nat} {o:List Bool} {st:List Nat} {a m t:Nat} {dl:List Nat}
theorem Ow (b:0<n):C6 nx n ((List.replicate n false).set 0 true) [0] where
 len:=by simp
 reach i hi:=by
  rw[List.getElem?_set] at hi;split at hi
  ·rename_i e;subst e;exact .zero
  have:=eR_ (gB_ hi);cases this
 zero:=by simp[b]
 Hq i hi:=by
  obtain rfl:=List.mem_singleton.1 hi;exact⟨b,by simp[b]⟩
 closed i hi:=by
  rw[List.getElem?_set] at hi;split at hi
  ·rename_i e;subst e;exact .inl (by simp)
  have:=eR_ (gB_ hi);cases this
theorem C6.pop (h:C6 nx n o st) (e:st.getLast?=some a):vF nx n o st.dropLast a 0 dl where
 len:=h.len
 reach:=h.reach
 zero:=h.zero
 Hq i hi:=h.Hq i ((List.dropLast_sublist _).subset hi)
 at_:=(h.Hq a (by obtain⟨P,c⟩:=List.getLast?_eq_some_iff.1 e;rw[c];simp)).2
 closed i hi:=by
  rcases h.closed i hi with b | b
  ·obtain⟨P,c⟩:=List.getLast?_eq_some_iff.1 e;rw[c] at b⊢;simp only[List.dropLast_concat];rcases List.mem_append.1 b with d | d
   ·exact .inl d
   exact .inr (.inl<|List.mem_singleton.1 d)
  exact .inr (.inr b)
 done q t hq:=absurd hq (nZ_ _)
theorem vF.skip (h:vF nx n o st a m dl) (b:dl[m]?=some t) (c:o[t]?=some true):vF nx n o st a (m+1) dl where
 len:=h.len
 reach:=h.reach
 zero:=h.zero
 Hq:=h.Hq
 at_:=h.at_
 closed:=h.closed
 done q t' hq h':=by
  by_cases e:q=m
  ·subst e;rw[b] at h';cases h';exact c
  exact h.done q t' B h'
theorem qt {i:Nat} (b:o[i]?=some true):(o.set t true)[i]?=some true:=by
 rw[List.getElem?_set];split
 ·rename_i e;subst e;rw[if_pos (gA.1 b).1]
 exact b
theorem vF.mark (h:vF nx n o st a m dl) (f:dl[m]?=some t) (g:t∈nx a) (b:t<n):vF nx n (o.set t true) (st++[t]) a (m+1) dl where
 len:=by rw[List.length_set];exact h.len
 reach i hi:=by
  rw[List.getElem?_set] at hi;split at hi
  ·rename_i e;subst e;exact .step (h.reach a h.at_) g
  exact h.reach i hi
 zero:=qt h.zero
 Hq i hi:=by
  rcases List.mem_append.1 hi with hi | hi
  ·exact⟨(h.Hq i hi).1,qt (h.Hq i hi).2⟩
  obtain rfl:=List.mem_singleton.1 hi;exact⟨b,by rw[List.getElem?_set,if_pos Z,if_pos (by rw[h.len];exact b)]⟩
 at_:=qt h.at_
 closed i hi:=by
  rw[List.getElem?_set] at hi;split at hi
  ·rename_i e;subst e;exact .inl (by simp)
  rcases h.closed i hi with c | c | c
  ·exact .inl<|List.mem_append_left _ c
  ·exact .inr (.inl c)
  exact .inr (.inr fun t' d=>qt (c t' d))
 done q t' hq h':=by
  by_cases e:q=m
  ·subst e;rw[f] at h';cases h';rw[List.getElem?_set,if_pos Z,if_pos (by rw[h.len];exact b)]
  exact qt<|h.done q t' B h'
theorem vF.close (h:vF nx n o st a m dl) (hm:dl.length<=m) (d:∀t∈nx a,t∈dl):C6 nx n o st where
 len:=h.len
 reach:=h.reach
 zero:=h.zero
 Hq:=h.Hq
 closed i hi:=by
  rcases h.closed i hi with b | b | b
  ·exact .inl b
  ·subst b;refine .inr fun t e=>?_
   obtain⟨q,c⟩:=gO_ (d t e);exact h.done q t (by have:=(gA.1 c).1;omega) c
  exact .inr b
theorem C6.final (h:C6 nx n o []) {i:Nat}:o[i]?=some true↔Reach nx i:=by
 refine⟨h.reach i,fun c=>?_⟩;induction c with
 | zero=>exact h.zero
 | @step i t _ d ih=>
  rcases h.closed i ih with b | b
  ·simp at b
  exact b t d
end
theorem yZ {k:Nat} {c:XC} (d:eX k c) {a g:Nat} {x:XI} {to:Int} (h:c.ins[a]?=some x) (b:(jY x a)[g]?=some to):∃t:Nat,to= .ofNat t/\t<c.ins.length/\(gM c a)[g]?=some t/\t∈dj c a:=by
 obtain⟨q,e⟩:=gO_ (yW.1<|gB_ b);obtain⟨t,rfl,f,i⟩:=y6 d h e;refine⟨t,Z,f,?_,gB_ i⟩;unfold gM;rw[h];show((jY x a).map Int.toNat)[g]?=_;rw[gM_,b];rfl
theorem wX {c:XC} {a:Nat} {x:XI} (h:c.ins[a]?=some x):(gM c a).length=(jY x a).length:=by unfold gM;rw[h];simp
end Go.Ev
namespace Go.Ev
variable [Env]
open Go.Proofs
set_option maxRecDepth 4000
set_option maxHeartbeats 8000000
theorem H2 {G:Cx} (q:Plain G) {K:KP} {k:Nat} {c:XC} {cv:V} (r:bR K 6 (iI K k) c.ins cv) {x:XI} {a:Nat} (s:c.ins[a]?=some x) (l:a<9223372036854775807) {U:D} {L:Own} (aq:J U K L):
  bk Tryz.prog G 252 [.agg [.int .i64 c.aY,cv],.int .i64 (.ofNat a)] U fun v U'=>∃M,cQ 1 3 dy (jY x a) v M/\J U' K (M++L):=by
 refine PS q Tryz.func252 Z<|Pt 2 Z<|kp aq Z (cz Z Z) (fun U b1 aq=>?_);refine OX aq 8 [1,0] Z Z<|Qu (e:=79) (m:=6) r s Z Z Z Z (fun p9 aa n ab o=>?_);have hr9':=o;obtain⟨v9,rfl,p⟩:=hr9';refine O Z (QG aq n Z Z) Z<|kp aq Z (QE (cs:=[T,T,T,T,T,.ax])) (fun U b2 aq=>?_);refine bO aq Z (QH Z Z Z aq.g0 (m:=6) Z (ah Z<|ah Z<|ah Z<|ah Z<|ah Z<|ah p.leaf.2 aC) (cells':=[_,_,_,_,_,_]) Z) Z (fun U aq=>?_);refine OW aq 9 [0,0] Z Z<|aN<|OI 3 Z<|ky Z (az Z Z Z) (fun b=>?_) (fun b=>?_)
 ·refine OQ 13 Z<|aF<|aw (?_);exact aA Z Z ⟨[],.inl ⟨by unfold jY;simp only[b,ct,cf],Z,Z⟩,aq.pop.pop⟩
 refine Pw 5 Z<|ky Z (az Z Z Z) (fun d=>?_) (fun d=>?_)
 ·refine Px 10 Z<|aF<|aw (?_);exact aA Z Z ⟨[],.inl ⟨by unfold jY;simp only[b,d,ct,cf],Z,Z⟩,aq.pop.pop⟩
 refine OO 6 Z<|ky Z (az Z Z Z) (fun f=>?_) (fun f=>?_)
 ·refine OX aq 8 [4,0] Z Z<|gT aq Z (bY (e:=3) (m:=1) (z:=[T]) (cs:=[_]) Y Y Y Y<|bD Z Z Z Z bJ) (fun _=>Z) (fun U h aq=>?_);refine Px 4 Z<|aF<|aw (?_);exact aA Z Z ⟨[(h,_)],by unfold jY;simp only[b,d,f,ct,cf];exact gO (xs:=[x.to]) (by simp),aq.sub (.cons_cons _ (.cons _ (.cons _ (.refl _))))⟩
 refine OO 6 Z<|ky Z (az Z Z Z) (fun g=>?_) (fun g=>?_)
 ·refine Ou aq 10 [4,0] Z Z<|O Z (az Z Z (show _=some (V.int .i64 (.ofNat (a+1))) from cI (bg l))) Z<|Pv 3 Z<|aE Z (fun i=>?_) (fun i=>?_)
  ·refine PA aq 5 [4,0] Z Z<|O Z (az Z Z (show _=some (V.int .i64 (.ofNat (a+1))) from cI (bg l))) Z<|gT aq Z (bY (e:=3) (m:=1) (z:=[T]) (cs:=[_,_]) Y Y Y Y<|bD Z Z Z Z<|bD Z Z Z Z bJ) (fun _=>Z) (fun U h aq=>?_);refine Px 4 Z<|aw<|aF<|aw (?_);exact aA Z Z ⟨[(h,_)],by unfold jY;simp only[b,d,f,g,i,ct,cf];exact gO (xs:=[x.to,.ofNat (a+1)]) (by simp),aq.sub (.cons_cons _ (.cons _ (.cons _ (.refl _))))⟩
  refine OV aq 7 [4,0] Z Z<|O Z (az Z Z (show _=some (V.int .i64 (.ofNat (a+1))) from cI (bg l))) Z<|Pv 3 Z<|aE Z (fun j=>?_) (fun j=>?_)
  ·refine Pt 3 Z<|O Z (az Z Z (show _=some (V.int .i64 (.ofNat (a+1))) from cI (bg l))) Z<|P3 aq 2 [4,0] Z Z<|gT aq Z (bY (e:=3) (m:=1) (z:=[T]) (cs:=[_,_]) Y Y Y Y<|bD Z Z Z Z<|bD Z Z Z Z bJ) (fun _=>Z) (fun U h aq=>?_);refine Px 4 Z<|aF<|aw (?_);exact aA Z Z ⟨[(h,_)],by unfold jY;simp only[b,d,f,g,i,j,ct,cf];exact gO (xs:=[.ofNat (a+1),x.to]) (by simp),aq.sub (.cons_cons _ (.cons _ (.cons _ (.refl _))))⟩
  refine aG<|aJ<|Pt 3 Z<|O Z (az Z Z (show _=some (V.int .i64 (.ofNat (a+1))) from cI (bg l))) Z<|gT aq Z (bY (e:=3) (m:=1) (z:=[T]) (cs:=[_]) Y Y Y Y<|bD Z Z Z Z bJ) (fun _=>Z) (fun U h aq=>?_);refine Px 4 Z ?_;exact aA Z Z ⟨[(h,_)],by unfold jY;simp only[b,d,f,g,i,j,ct,cf];exact gO (xs:=[.ofNat (a+1)]) (by simp),aq.sub (.cons_cons _ (.cons _ (.cons _ (.refl _))))⟩
 refine OP 6 Z<|Pt 3 Z<|O Z (az Z Z (show _=some (V.int .i64 (.ofNat (a+1))) from cI (bg l))) Z<|gT aq Z (bY (e:=3) (m:=1) (z:=[T]) (cs:=[_]) Y Y Y Y<|bD Z Z Z Z bJ) (fun _=>Z) (fun U h aq=>?_);refine Px 4 Z ?_;exact aA Z Z ⟨[(h,_)],by unfold jY;simp only[b,d,f,g,ct,cf];exact gO (xs:=[.ofNat (a+1)]) (by simp),aq.sub (.cons_cons _ (.cons _ (.cons _ (.refl _))))⟩
theorem Bv {G:Cx} (b:Plain G) {K:KP} {k:Nat} {c:XC} {cv:V} (d:bR K 6 (iI K k) c.ins cv) {x:XI} {a:Nat} (e:c.ins[a]?=some x) (f:a<9223372036854775807) {U:D} {L:Own} (aq:J U K L):
  bk Tryz.prog G 214 [.agg [.int .i64 c.aY,cv],.int .i64 (.ofNat a)] U fun v U'=>∃M,cQ 1 3 dy (jY x a) v M/\J U' K (M++L):=by
 refine PS b Tryz.func214 Z<|Pt 2 Z<|kp aq Z (cz Z Z) (fun U b1 aq=>?_);refine OO 5 Z<|O Z (QC Z aq.g0 (n:=2) (vs:=[_,_]) Z) Z<|vQ 1 Z<|cH Z (Qz Z Z Z) (fun _=>Z) (H2 b d e f aq) ?_;rintro v7 U ⟨g,hM7,aq⟩;refine Px 4 Z ?_;exact aA Z Z ⟨g,hM7,aq.sub<|dH (.cons _ (.refl _))⟩
theorem Gl {G:Cx} (hG:Plain G) {K:KP} {k:Nat} {c:XC} {cv:V} (x:eX k c) (a3:dq k c=0) (hF:mn k c) (hS:um k c) (hi:bR K 6 (iI K k) c.ins cv) {U:D} {L:Own} (aq:J U K L):
  bk Tryz.prog G 213 [.agg [.int .i64 c.aY,cv]] U fun v U'=>∃(o:List Bool) (b:Nat),v= .slice b 0 c.ins.length (.known c.ins.length)/\o.length=c.ins.length/\(∀i:Nat,o[i]?=some true↔Reach (dj c) i)/\J U' K ((b,.row (o.map gB) 4 false)::L):=by
 have hlen:=x.len;have hpos:=x.pos;refine PS hG Tryz.func213 Z<|Pt 2 Z<|kp aq Z (cz Z Z) (fun U b1 aq=>?_);refine On 6 Z<|O Z (QC Z aq.g0 (n:=2) (vs:=[_,_]) Z) Z<|bf Z (Qz Z Z Z) (fun _=>Z) (v8 hG hi hF hS aq) (fun U aq=>?_);refine Pv 3 Z<|aE Z (fun R=>?_) (fun R=>?_)
 ·exact absurd R (by rw[gU hF,a3];decide)
 refine OV aq 6 [1,0] Z Z<|O Z (QD hi Z Z Z (e:=79) Z) Z<|gT aq Z (k9 (e:=4) (w:=1) (z:=[gB false]) Y Y Y Y Z Z B B) (fun _=>Z) (fun U b2 aq=>?_);rw[iT (f:=gB)] at aq;refine OO 6 Z (O Z (eo (e:=4) (m:=1) Y Y Z Z hpos) Z (cC aq .here Z (aL Z Z Z aq.g0 (m:=1) Y Z (by rw[lM_];simp;omega) Z (cells':=((List.replicate c.ins.length false).set 0 true).map (gB))<|fb (f:=gB) (v:=true) (by simp;omega) (by first | omega | rfl)) Z (fun U aq=>?_)));refine OO 4 Z<|gT aq Z (bY (e:=3) (m:=1) (z:=[T]) (cs:=[_]) Y Y Y Y<|bD Z Z Z Z bJ) (fun _=>Z) (fun U b3 aq=>?_);refine Om 5 Z (bp (rg 4 4++rg 18 44) (fun j t U=>∃(o:List Bool) (st:List Nat) (u:V) (Mp:Own),C6 (dj c) c.ins.length o st/\2*tO o+st.length<=j/\2*tO o+st.length<=8002/\nt 1 3 dy (st.map .ofNat) u Mp/\t.get 4=some (u)/\J U K (Mp++((b2,.row (o.map gB) 4 false)::(b1,.row [.int .i64 c.aY,cv] 33 false)::L))) ((2*c.ins.length+1)) ⟨_,[0],_,[(b3,.row [gI 0] 3 false)],Ow hpos,(by have:=sM ((List.replicate c.ins.length false).set 0 true);simp at this⊢;omega),(by have:=sM ((List.replicate c.ins.length false).set 0 true);simp at this⊢;omega),(gO (xs:=[0]) (by simp)).Oi,Z,aq⟩ ?_);clear aq;intro j6 t U ar hI;obtain⟨o,st,u,Mp,hinv,b5,b6,M,A,aq⟩:=hI;obtain⟨oo,rfl⟩:=ar.q1 A Z;refine OI 3 Z ?_;have hol:=hinv.len;refine vQ 1 Z<|O Z (uj M Z Z Z (e:=3) Y Z) Z<|ky Z (az Z Z Z) (fun C=>?_) (fun C=>?_)
 ·refine Pv 3 Z<|aG<|ad<|aN<|Pt 4 Z<|O Z (uj M Z Z Z (e:=3) Y Z) Z<|vQ 1 Z ?_;have W:0<st.length:=by have:=bu (a:=0) C;rwa[iC] at this
  obtain⟨a,X⟩:∃a,st.getLast?=some a:=by cases hq:st.getLast? with | none=>(rw[List.getLast?_eq_none_iff.1 hq] at W;exact absurd W<|Nat.lt_irrefl _) | some a=>exact⟨a,rfl⟩
  have hla':=Fp X;obtain⟨a4,b7⟩:=hinv.Hq a (gB_ hla');obtain⟨xa,E⟩:=cm a4;have hfl:=sM o;have hpl:=M.bG;rw[iC] at hpl;refine Qu (e:=3) (m:=1) (M.kq (K:=K.ic Mp) fun y hy=>.inr hy) (Jb hla') Z Z Z (cI ((congrArg (fun q=>wr .i64 (Int.sub (.ofNat q) 1))<|iC st).trans<|kY (b:=1) B B)) (fun b8 bb aa be ab=>?_);obtain rfl:=ab;refine O Z (QF (aq.keeps) aa Z Z) Z<|OO 7 Z<|O Z (uj M Z Z Z (e:=3) Y Z) Z<|vQ 1 Z ?_;obtain⟨b9,hP2,a5⟩:=M.L8 (k:=st.length-1) (by rw[iC];omega);rw[zh] at hP2;refine O Z (bn Z<|a5 Y Y Z (show _=some (V.int .i64 (.ofNat (st.length-1))) from cI ((congrArg (fun q=>wr .i64 (Int.sub (.ofNat q) 1))<|iC st).trans<|kY (b:=1) B B))) Z<|OO 5 Z<|O Z (QC Z aq.aQ.pop.g0 (n:=2) (vs:=[_,_]) Z) Z<|vQ 1 Z<|cH Z (Qz Z Z Z) (fun _=>Z) (H2 hG hi E B aq) ?_;rintro ca U ⟨ac,hM34,aq⟩;replace aq:=aq.keeps;have hS34:=hM34.kq (K:=K.ic ac) fun y hy=>.inr hy
  have ag:vF (dj c) c.ins.length o st.dropLast a 0 (gM c a):=hinv.pop X;have cb:st.dropLast.length+1=st.length:=by rw[List.length_dropLast];omega
  refine OM 9 Z (bp ([4,7]++rg 35 27) (fun j t U=>∃(Q:Nat) (h:List Bool) (d:List Nat) (u4:V) (Mq:Own),j+Q=(jY xa a).length/\vF (dj c) c.ins.length h d a Q (gM c a)/\2*tO h+d.length+1<=j6/\2*tO h+d.length+1<=8002/\nt 1 3 dy (d.map .ofNat) u4 Mq/\t.get 4=some (u4)/\t.get 7=some (.int .i64 (.ofNat Q))/\J U (K.ic ac) (Mq++((b2,.row (h.map gB) 4 false)::(b1,.row [.int .i64 c.aY,cv] 33 false)::L))) ((jY xa a).length) ⟨0,o,st.dropLast,_,Mp,Z,ag,B,B,hP2,Z,Z,aq⟩ ?_);clear aq;intro am t U ar hI;obtain⟨Q,h,d,u4,Mq,bi,p,cc,bl,hP3,A,a6,aq⟩:=hI;obtain⟨oo,rfl⟩:=ar.q2 A a6 Z;refine OI 3 Z ?_;have hol2:=p.len;refine PZ 2 Z<|O Z (QD hS34 Z Z Z (e:=3) Z) Z<|Pv 3 Z<|aE Z (fun l=>?_) (fun l=>?_)
  ·refine NP 9 Z ?_;obtain⟨ce,g,bm⟩:=cL l;refine Qu (e:=3) (m:=1) hS34 g Z Z Z Z (fun cg bo ao bs ap=>?_);obtain rfl:=ap;obtain⟨to,rfl,r,s,a7⟩:=yZ x E g;obtain⟨ob,F⟩:=cm (show to<h.length from by omega);refine O Z (QF aq ao Z Z) Z<|O Z (eo (e:=4) (m:=1) Y Y Z Z r) Z<|O Z (ay Z aq.aQ.g0 Y<|jZ F (by first | omega | rfl)) Z<|O Z (cV Z) Z<|Pv 2 Z<|aE Z (fun h48=>?_) (fun h48=>?_)
   ·refine Pt 5 Z<|Qu (e:=3) (m:=1) hS34 g Z Z Z Z (fun ch bt ax bv aI=>?_);obtain rfl:=aI;refine O Z (QF aq ax Z Z) Z<|O Z (eo (e:=4) (m:=1) Y Y Z Z r) Z ?_;have hf2:=BH (show h[to]?=some false from by have h48:=h48;cases ob;exact F;cases h48);refine cC aq (.cM .here) Z (aL Z Z Z aq.aQ.g0 (m:=1) Y Z (by rw[lM_];rw[hol2];omega) Z (cells':=((h).set to true).map (gB))<|fb (f:=gB) (v:=true) (by rw[hol2];exact r) (by first | omega | rfl)) Z (fun U aq=>?_);refine Pw 6 Z<|Qu (e:=3) (m:=1) hS34 g Z Z Z Z (fun ci bw a0 b0 a1=>?_);obtain rfl:=a1;refine O Z (QF aq a0 Z Z) Z<|gT aq Z (bY (e:=3) (m:=1) (z:=[T]) (cs:=[_]) Y Y Y Y<|bD Z Z Z Z bJ) (fun _=>Z) (fun U b4 aq=>?_);obtain⟨U,a8,a9,a2,hP4,aq⟩:=qg (P:=Tryz.prog) (ts:= #[34,34]) (t:=34) (e:=3) (l2:=[Int.ofNat to]) hP3 aq (fK (xs:=[Int.ofNat to]) (.inr ⟨Z,Z⟩) (by simp)) dy.leaf (by simp) (by simp) (by rw[iC];have:=sM h;omega) Z Y Y Y;rw[show d.map Int.ofNat++[Int.ofNat to]=(d++[to]).map Int.ofNat from by rw[List.map_append];rfl] at hP4;refine O Z (dM Z Z Z Z Y a2) Z<|PY 2 Z<|aJ<|PW 5 Z<|aO ⟨am-1,(by have:=bu l;omega),oF,Q+1,h.set to true,d++[to],a8,a9,B,p.mark s a7 r,(by rw[lA_];show _+(_+1)+1<=_;omega),(by rw[lA_];show _+(_+1)+1<=_;omega),hP4,Z,cI<|bg (by have:=hS34.bG;omega),aq⟩
   refine aG<|aJ<|PW 5 Z<|aO ⟨am-1,(by have:=bu l;omega),oF,Q+1,h,d,u4,Mq,B,p.skip s (by have h48:=h48;cases ob;cases h48;exact F),B,B,hP3,Z,cI<|bg (by have:=hS34.bG;omega),aq⟩
  refine OL 3 Z<|aT<|aJ ?_;replace aq:=aq.weaken (KP.bX _ _);refine aO ⟨j6-1,B,oF,h,d,u4,Mq,p.close (by rw[wX E];exact bC l) (fun t ht=>si.2 ht),B,B,hP3,Z,aq⟩
 refine OR 5 Z<|bc<|aT<|PX 7 Z ?_;exact aA Z Z ⟨o,b2,Z,hol,(fun i=>by have e:st= []:=eN_ (by have:=bC (a:=0) C;rw[iC] at this;omega);subst e;exact hinv.final),aq.aQ.Ie⟩
end Go.Ev
namespace Go.Ev
variable [Env]
section
variable {nx:Nat->List Nat} {w:Nat->Nat} {r:Nat->Bool} {n i v j:Nat} {b b':List Nat} {sm:Bool}
theorem Hc (a:r i=false):iE nx w r n (i+1) (b,sm)=iE nx w r n i (b,sm):=by
 show(bif aX (r i) then _ else _)=_;rw[a];rfl
theorem Hb (a:r i=true) (c:iH nx w b i=v) (h:n<v):iE nx w r n (i+1) (b,sm)=none:=by
 show(bif aX (r i) then _ else bif Nat.blt n (iH nx w b i) then _ else _)=_;rw[a,c,show Nat.blt n v=true from by rw[Nat.blt_eq];exact h];rfl
theorem Lk (a:r i=true) (c:iH nx w b i=v) (h:v<=n) (he:mZ b i=v):iE nx w r n (i+1) (b,sm)=iE nx w r n i (b,sm):=by
 show(bif aX (r i) then _ else bif Nat.blt n (iH nx w b i) then _ else bif Nat.beq (iH nx w b i) (mZ b i) then _ else _)=_;rw[a,c,he,Nat.beq_refl,show Nat.blt n v=false from by rw[Bool.eq_false_iff];intro e;rw[Nat.blt_eq] at e;omega];rfl
theorem Jj (a:r i=true) (c:iH nx w b i=v) (h:v<=n) (he:mZ b i≠v):iE nx w r n (i+1) (b,sm)=iE nx w r n i (b.set i v,false):=by
 show(bif aX (r i) then _ else bif Nat.blt n (iH nx w b i) then _ else bif Nat.beq (iH nx w b i) (mZ b i) then _ else iE nx w r n i (b.set i<|iH nx w b i,false))=_;rw[a,c,show Nat.blt n v=false from by rw[Bool.eq_false_iff];intro e;rw[Nat.blt_eq] at e;omega,show Nat.beq v (mZ b i)=false from by rw[Bool.eq_false_iff];intro e;exact he (nB e).symm];rfl
theorem GV (hj:1<=j) (h:iE nx w r n n (b,true)=none):jF nx w r n j b=(0,false):=by
 obtain⟨j,rfl⟩:∃q,j=q+1:=⟨j-1,by omega⟩;unfold jF;rw[h]
theorem GW (hj:1<=j) (h:iE nx w r n n (b,true)=some (b',true)):jF nx w r n j b=(mZ b' 0,true):=by
 obtain⟨j,rfl⟩:∃q,j=q+1:=⟨j-1,by omega⟩;unfold jF;rw[h]
theorem D0 (hj:1<=j) (h:iE nx w r n n (b,true)=some (b',false)):jF nx w r n j b=jF nx w r n (j-1) b':=by
 obtain⟨j,rfl⟩:∃q,j=q+1:=⟨j-1,by omega⟩;rw[Nat.add_sub_cancel];show(match iE nx w r n n (b,true) with | none=>(0,false) | some (b',true)=>(mZ b' 0,true) | some (b',false)=>jF nx w r n j b')=_;rw[h]
theorem Lb {f:Nat->Nat} {l:List Nat} {q t m:Nat} (h:l[q]?=some t):nH f (l.drop q) m=nH f (l.drop (q+1)) (max m<|f t):=by rw[cR h];rfl
theorem IT {f:Nat->Nat} {l:List Nat} {q m:Nat} (h:l.length<=q):nH f (l.drop q) m=m:=by rw[fO h];rfl
theorem vM {t y:Nat} (h:b[t]?=some y):mZ b t=y:=by unfold mZ;rw[h];rfl
theorem rU {t B_:Nat} (h:∀i,mZ b i<=B_) (a:v<=B_):mZ (b.set i v) t<=B_:=by
 by_cases c:i<b.length
 ·rw[EW c];split;exact a;exact h t
 rw[List.set_eq_of_length_le B];exact h t
theorem Kk {t:Nat}:mZ (List.replicate n 0) t=0:=by
 unfold mZ;rw[List.getElem?_replicate];split<;>rfl
end
theorem vB {n:Nat} (h:n<=9223372036854775807):wr .i64 (Int.sub (.ofNat n) 1)=Int.sub (.ofNat n) 1:=AK (n:=(n:Int)-1) B B
theorem Pn {a b:Nat} (h:I (.ofNat a) (.ofNat b)=false):b≠a:=fun e=>by rw[e,fP] at h;cases h
theorem Pf {a b:Nat} (h:I (.ofNat a) (.ofNat b)=true):b=a:=(iJ_<|eqv h).symm
theorem Mg (n:Int):IntKind.u64.wrap n=n%18446744073709551616:=by simp[IntKind.wrap,IntKind.bits,IntKind.signed]
theorem zD (f:BitVec 64->BitVec 64->BitVec 64) (a b:Int):IntKind.i64.wrap ((f (BitVec.ofInt IntKind.i64.bits a)<|BitVec.ofInt IntKind.i64.bits b).toNat)=HM f a b:=by
 unfold HM
 have e:∀n:Int,BitVec.ofInt 64 (wr .u64 n)=BitVec.ofInt 64 n:=fun n=>by
  rw[zu,Mg];apply BitVec.eq_of_toInt_eq;rw[BitVec.toInt_ofInt,BitVec.toInt_ofInt];show(n%((18446744073709551616:Nat):Int)).bmod 18446744073709551616=n.bmod 18446744073709551616;exact Int.emod_bmod ..
 rw[e,e,zu];show IntKind.i64.wrap ((f (BitVec.ofInt 64 a)<|BitVec.ofInt 64 b).toNat:Int)=_;rw[IntKind.wrap_i64,IntKind.wrap_i64,Mg];generalize ((f (BitVec.ofInt 64 a)<|BitVec.ofInt 64 b).toNat:Int)=q;omega
end Go.Ev
namespace Go.Ev
variable [Env]
open Go.Proofs
set_option maxRecDepth 4000
set_option maxHeartbeats 8000000
theorem Ds {G:Cx} (hG:Plain G) {K:KP} {k:Nat} {c:XC} {cv:V} (u:eX k c) (a6:dq k c=0) (hF:mn k c) (hS:um k c) (E:bR K 6 (iI K k) c.ins cv) {U:D} {L:Own} (aq:J U K L):
  bk Tryz.prog G 156 [.agg [.int .i64 c.aY,cv],.bool false] U fun v U'=>∃r:Nat->Bool,(∀i,i<c.ins.length->(r i=true↔Reach (dj c) i))/\v= .tuple [.int .i64 (.ofNat (jF (gM c) (fun _=>1) r c.ins.length (c.ins.length+2)<|List.replicate c.ins.length 0).1),.bool (jF (gM c) (fun _=>1) r c.ins.length (c.ins.length+2)<|List.replicate c.ins.length 0).2]/\J U' K L:=by
 have hlen:=u.len;have hpos:=u.pos;refine PS hG Tryz.func156 Z<|Pt 2 Z<|kp aq Z (cz Z Z) (fun U b1 aq=>?_);refine OO 6 Z<|O Z (QC Z aq.g0 (n:=2) (vs:=[_,_]) Z) Z<|cH Z (Qz Z Z Z) (fun _=>Z) (Gl hG u a6 hF hS E aq) ?_;rintro _ U ⟨o,b2,rfl,b0,a7,aq⟩;obtain⟨r,aa⟩:∃r:Nat->Bool,r=fun i=>(o[i]?).getD false:=⟨_,Z⟩
 have hr:∀i,i<c.ins.length->(r i=true↔Reach (dj c) i):=fun i E=>by
  obtain⟨q,hq⟩:=cm (show i<o.length from by omega);rw[<-a7 i,aa];dsimp only;rw[hq];cases q<;>simp
 obtain⟨LD,h⟩:∃LD,LD=jF (gM c) (fun _=>1) r c.ins.length:=⟨_,Z⟩;obtain⟨PD,b⟩:∃PD,PD=iE (gM c) (fun _=>1) r c.ins.length:=⟨_,Z⟩;refine OX aq 7 [1,1] Z Z<|O Z (QD E Z Z Z (e:=79) Z) Z<|gT aq Z (k9 (e:=3) (w:=8) (z:=[gI 0]) Y Y Y Y Z Z B B) (fun _=>Z) (fun U b3 aq=>?_);rw[iT (f:=gI)] at aq;refine Om 10 Z (bp ([4,5]++rg 8 7++rg 21 76) (fun j t U=>∃(rd:Nat) (bl:List Nat),j+rd=c.ins.length+2/\LD (c.ins.length+2) (List.replicate c.ins.length 0)=LD j bl/\bl.length=c.ins.length/\(∀i,mZ bl i<=c.ins.length)/\t.get 8=some (.int .i64 (.ofNat rd))/\J U K ((b3,.row (bl.map gI) 3 false)::(b2,.row (o.map gB) 4 false)::(b1,.row [.int .i64 c.aY,cv] 33 false)::L)) ((c.ins.length+2)) ⟨0,List.replicate c.ins.length 0,Z,Z,by simp,(fun i=>by rw[Kk];omega),Z,aq⟩ ?_);clear aq;intro j4 t U ar hI;obtain⟨rd,bl,b4,x,ab,ac,a8,aq⟩:=hI;obtain⟨oo,rfl⟩:=ar.q1 a8 Z;refine OU aq 6 [1,2] Z Z<|O Z (QD E Z Z Z (e:=79) Z) Z<|O Z (az Z Z (show _=some (V.int .i64 (.ofNat (c.ins.length+1))) from cI (bg B))) Z<|Pv 3 Z<|aE Z (fun d=>?_) (fun d=>?_)
 ·refine NO 10 Z (PA aq 4 [1,2] Z Z (O Z (QD E Z Z Z (e:=79) Z) Z (OM 5 Z (bp ([4,5]++rg 9 6++rg 33 60) (fun j t U=>∃(z:Int) (b2l:List Nat) (sm:Bool),z+1=(j:Int)/\j<=c.ins.length/\PD c.ins.length (bl,true)=PD j (b2l,sm)/\b2l.length=c.ins.length/\(∀i,mZ b2l i<=c.ins.length)/\t.get 9=some (.bool sm)/\t.get 10=some (.int .i64 z)/\J U K ((b3,.row (b2l.map gI) 3 false)::(b2,.row (o.map gB) 4 false)::(b1,.row [.int .i64 c.aY,cv] 33 false)::L)) (c.ins.length) ⟨Int.sub (.ofNat c.ins.length) 1,bl,true,(show(c.ins.length:Int)-1+1=((c.ins.length:Nat):Int) by omega),nR_ _,Z,ab,ac,Z,(cI<|vB B),aq⟩ ?_))));clear aq;intro j8 t U ar hI;obtain⟨z,b2l,sm,hz,b5,p,a,g,a9,ag,aq⟩:=hI;obtain⟨oo,rfl⟩:=ar.q2 a9 ag Z;refine OI 4 Z<|ky Z (az Z Z Z) (fun Q=>?_) (fun Q=>?_)
  ·refine Pv 3 Z<|NO 5 Z<|Pt 2 Z ?_;obtain⟨i,rfl⟩:=iQ (bT Q);obtain rfl:j8=i+1:=by have:((i:Nat):Int)+1=(j8:Int):=hz;omega
   obtain⟨oi,am⟩:=cm (show i<o.length from by omega);have A:r i=oi:=by rw[aa];dsimp only;rw[am];rfl
   refine PZ 2 Z<|O Z (eo (e:=4) (m:=1) Y Y Z Z B) Z<|O Z (ay Z aq.g1 Y<|jZ am (by first | omega | rfl)) Z<|ky Z (cV Z) (fun h41=>?_) (fun h41=>?_)
   ·refine OR 5 Z<|aT<|PW 5 Z ?_;refine aO ⟨i,B,oF,Int.sub (.ofNat i) 1,b2l,sm,(show(i:Int)-1+1=((i:Nat):Int) by omega),B,(by rw[p,b];exact Hc (by rw[A];have h41:=h41;cases oi;rfl;cases h41)),(by first | exact a | (rw[List.length_set];exact a)),(by first | exact g | exact fun q=>rU g (by have:=bC l;omega)),Z,cI<|vB B,aq⟩
   refine Oo 12 Z<|O Z (QC Z (aq.get 2 Z) (n:=2) (vs:=[_,_]) Z) Z<|vQ 1 Z ?_;obtain⟨xi,C⟩:=cm (show i<c.ins.length from by omega);refine cH Z (Qz Z Z Z) (fun _=>Z) (Bv hG E C B aq) ?_;rintro b6 U ⟨ao,hM44,aq⟩;replace aq:=aq.keeps;have hS44:=hM44.kq (K:=K.ic ao) fun y hy=>.inr hy
   refine Om 10 Z (bp ([11,13]++rg 45 15) (fun j t U=>∃(q m:Nat),j+q=(jY xi i).length/\nH (mZ b2l) (gM c i) 0=nH (mZ b2l) ((gM c i).drop q) m/\m<=c.ins.length/\t.get 11=some (.int .i64 (.ofNat m))/\t.get 13=some (.int .i64 (.ofNat q))/\J U (K.ic ao) ((b3,.row (b2l.map gI) 3 false)::(b2,.row (o.map gB) 4 false)::(b1,.row [.int .i64 c.aY,cv] 33 false)::L)) ((jY xi i).length) ⟨0,0,Z,Z,Nat.zero_le _,Z,Z,aq⟩ ?_);clear aq;intro bb t U ar hI;obtain⟨q,m,bi,F,b7,ap,ax,aq⟩:=hI;obtain⟨oo,rfl⟩:=ar.q2 ap ax Z;refine OI 5 Z<|O Z (QD hS44 Z Z Z (e:=3) Z) Z<|Pv 3 Z<|aE Z (fun s=>?_) (fun s=>?_)
   ·refine Ok 4 Z<|ai Z<|PZ 4 Z ?_;obtain⟨b8,M,bm⟩:=cL s;refine Qu (e:=3) (m:=1) hS44 M Z Z Z Z (fun b9 bo aI bs a0=>?_);obtain rfl:=a0;obtain⟨to,rfl,be,a1,ca⟩:=yZ u C M;obtain⟨y,hy⟩:=cm (show to<b2l.length from by omega);refine O Z (QF aq aI Z Z) Z<|O Z (eo (e:=3) (m:=1) Y Y Z Z be) Z<|O Z (ay Z aq.g0 Y<|jZ hy (by first | omega | rfl)) Z<|O Z (Mi Z Z Z Z) Z<|PY 2 Z<|aJ<|PW 5 Z<|aO ⟨bb-1,(by have:=bu s;omega),oF,q+1,max m y,(by have:=bu s;omega),(by rw[F,Lb a1,vM hy]),(by have:=g to;rw[vM hy] at this;omega),cI<|Fv _ _,cI<|bg (by have:=hS44.bG;omega),aq⟩
   refine OL 3 Z<|aT<|Pt 2 Z ?_;replace aq:=aq.weaken (KP.bX _ _);have hmx:=F.trans (IT (by rw[wX C];exact bC s));obtain⟨yi,R⟩:=cm (show i<b2l.length from by omega);refine P3 aq 3 [1,2] Z Z<|Qu (e:=79) (m:=6) E C Z Z Z Z (fun cb bt a2 bv a3=>?_);have hr63':=a3;obtain⟨cc,rfl,bw⟩:=hr63';refine cq a2 Z Z Z (k:=0) Y (lb Z) (fun _=>Z) (fun ce a4=>?_);refine O Z (QF aq a4 Z Z) Z<|On 7 Z<|O Z (cV Z) Z<|Pw 13 Z<|O Z (az Z Z (show _=some (V.int .i64 (.ofNat (m+1))) from cI (bg B))) Z<|Ou aq 9 [1,2] Z Z<|O Z (QD E Z Z Z (e:=79) Z) Z<|Pv 3 Z<|aE Z (fun l=>?_) (fun l=>?_)
   ·refine PX 7 Z<|aw<|aF<|aw<|bz<|aF<|aw<|aF<|aw<|bz<|aF<|aw (?_);exact bV Z Z Z ⟨r,hr,by rw[<-h,x,h,GV (by have:=bC (bT d);omega) (by rw[<-b,p,b];exact Hb (by rw[A];have h41:=h41;cases oi;cases h41;rfl) (show iH (gM c) (fun _=>1) b2l i=(m+1) from by unfold iH;rw[hmx])<|bu l)];rfl,aq.pop.pop.pop⟩
   refine OK 7 Z<|O Z (eo (e:=3) (m:=1) Y Y Z Z B) Z<|O Z (ay Z aq.g0 Y<|jZ R (by first | omega | rfl)) Z<|Pv 3 Z<|aE Z (fun W=>?_) (fun W=>?_)
   ·refine Pt 5 Z (O Z (eo (e:=3) (m:=1) Y Y Z Z B) Z (cC aq .here Z (aL Z Z Z aq.g0 (m:=1) Y Z (by rw[lM_];rw[a];omega) Z (cells':=((b2l).set i (m+1)).map (gI)) (fb (f:=gI) (v:=(m+1)) (by rw[a];omega) (by first | omega | rfl))) Z (fun U aq=>?_)));refine OP 6 Z<|PW 5 Z ?_;refine aO ⟨i,B,oF,Int.sub (.ofNat i) 1,(b2l.set i (m+1)),false,(show(i:Int)-1+1=((i:Nat):Int) by omega),B,(by rw[p,b];exact Jj (by rw[A];have h41:=h41;cases oi;cases h41;rfl) (show iH (gM c) (fun _=>1) b2l i=(m+1) from by unfold iH;rw[hmx]) (by have:=bC l;omega) (by rw[vM R];exact Pn<|bT W)),(by first | exact a | (rw[List.length_set];exact a)),(by first | exact g | exact fun q=>rU g (by have:=bC l;omega)),Z,cI<|vB B,aq⟩
   refine aG<|aJ<|PW 5 Z ?_;refine aO ⟨i,B,oF,Int.sub (.ofNat i) 1,b2l,sm,(show(i:Int)-1+1=((i:Nat):Int) by omega),B,(by rw[p,b];exact Lk (by rw[A];have h41:=h41;cases oi;cases h41;rfl) (show iH (gM c) (fun _=>1) b2l i=(m+1) from by unfold iH;rw[hmx]) (by have:=bC l;omega) ((vM R).trans<|Pf<|bj W)),(by first | exact a | (rw[List.length_set];exact a)),(by first | exact g | exact fun q=>rU g (by have:=bC l;omega)),Z,cI<|vB B,aq⟩
  refine OR 5 Z<|bc<|aT<|Pt 2 Z ?_
  have P:PD c.ins.length (bl,true)=some (b2l,sm):=by
   have h0:z<0:=L3.1 (bj Q);have h1:j8=0:=by omega
   rw[p,h1,b];rfl
  refine Pv 3 Z<|aE Z (fun X=>?_) (fun X=>?_)
  ·refine Pt 3 Z ?_;obtain⟨y0,a5⟩:=cm (show 0<b2l.length from by omega);refine O Z (eo (e:=3) (m:=1) Y Y Z Z hpos) Z<|O Z (ay Z aq.g0 Y<|jZ a5 (by first | omega | rfl)) Z<|Px 5 Z<|aF<|aw<|bz<|aF<|aw (?_);exact bV Z Z Z ⟨r,hr,by rw[<-h,x,h,GW (b':=b2l) (by have:=bC (bT d);omega) (by rw[<-b,P,show sm=true from X]),vM a5],aq.pop.pop.pop⟩
  refine aG (aJ (PW 5 Z (aO ⟨j4-1,(by have:=bC (bT d);omega),oF,rd+1,b2l,(by have:=bC (bT d);omega),(by rw[x,h];exact D0 (by have:=bC (bT d);omega) (by rw[<-b,P,show sm=false from X])),a,g,cI (bg (by have:=bC (bT d);omega)),aq⟩)))
 refine OL 3 Z<|aT<|PX 7 Z ?_;exact bV Z Z Z ⟨r,hr,by rw[<-h,x,h,show j4=0 from by have:=bu (bj d);omega];rfl,aq.pop.pop.pop⟩
theorem LO {G:Cx} (Q:Plain G) {K:KP}:∀(k:Nat) (x:XE) (vs:List V) (p:V),ib K p vs->vs.length=4->ey K k x vs->∀(deep size:Int) (l z:Nat) (U:D) (L:Own),J U K ((l,.row [.int .i64 size] z false)::L)->
  bk Tryz.prog G 164 [p,.int .i64 deep,.ptr l 0] U fun v U'=>∃s',v= .bool (lH k x deep size).isSome/\J U' K ((l,.row [.int .i64 s'] z false)::L)/\∀s,lH k x deep size=some s->s'=s:=by
 intro k;induction k with
 | zero=>intro x vs p _ _ h;cases x;exact h.elim
 | succ k ih=>
 intro x vs p A hl h deep size l z U L aq;obtain⟨op,num,name,kids⟩:=x;obtain⟨v,rfl,E⟩:=h;obtain⟨F,C⟩:∃F:XE->Int->Option Int,F=fun x m=>lH k x (wr .i64<|Int.add deep 1) m:=⟨_,Z⟩
 have P:lH (k+1) (.mk op num name kids) deep size=bif (bif bU 2000 (wr .i64<|Int.add size 1) then true else bU 32 deep) then none else iy F kids (wr .i64<|Int.add size 1):=by rw[C];rfl
 rw[P];clear P;refine PS Q Tryz.func164 Z<|Pt 8 Z<|O Z (eW Z) Z<|P3 aq 2 [0] Z Z<|O Z (eW Z) Z<|bO aq Z (QH Z Z Z aq.g0 (m:=1) Z Z (cells':=[_]) Z) Z (fun U aq=>?_);refine On 6 Z<|O Z (eW Z) Z<|P3 aq 2 [0] Z Z<|ky Z (an Z) (fun a=>?_) (fun a=>?_)
 ·refine OQ 13 Z ?_;exact aA Z Z ⟨_,by rw[a];rfl,aq,fun s b=>by rw[a] at b;cases b⟩
 refine Pv 5 Z<|aE Z (fun c=>?_) (fun c=>?_)
 ·refine Pu 7 Z ?_;exact aA Z Z ⟨_,by rw[a,c];rfl,aq,fun s b=>by rw[a,c] at b;cases b⟩
 refine Ol 6 Z<|O Z (dN A Z) Z<|cq A Z Z Z (k:=3) Y (lb Z) (fun _=>Z) (fun ac n=>?_);refine O Z (QF aq n Z Z) Z (O Z (QD E Z Z Z (e:=82) Z) Z (OM 4 Z (bp ([6,7]++rg 26 15) (fun j t U=>∃(i:Nat) (m:Int),j+i=kids.length/\iy F kids (wr .i64<|Int.add size 1)=iy F (kids.drop i) m/\t.get 26=some (.int .i64 (.ofNat i))/\J U K ((l,.row [.int .i64 m] z false)::L)) (kids.length) ⟨0,_,Z,Z,Z,aq⟩ ?_)));clear aq;intro R t U ar W;obtain⟨i,m,hj,he,o,aq⟩:=W;obtain⟨oo,rfl⟩:=ar.q1 o Z;refine Ps 6 Z<|aE Z (fun f=>?_) (fun f=>?_)
 ·refine NP 13 Z<|O Z (dN A Z) Z<|cq A Z Z Z (k:=3) Y (lb Z) (fun _=>Z) (fun ag q=>?_);refine O Z (QF aq q Z Z) Z<|vQ 1 Z ?_;obtain⟨r,d,aa⟩:=cL f;refine Qu (e:=82) (m:=4) E d Z Z Z Z (fun am ab u w y=>?_);have hr34raw:=y;refine PZ 3 Z<|cH Z (Qz Z Z Z) (fun _=>Z) (ih r _ _ u w hr34raw _ _ _ _ _ _ aq) ?_;rintro _ U ⟨X,rfl,aq,M⟩;refine O Z (cV Z) Z<|Pv 2 Z<|aE Z (fun g=>?_) (fun g=>?_)
  ·refine PX 6 Z<|aF<|aw<|bz<|aF<|aw (?_);exact aA Z Z ⟨_,by rw[a,c];show _=V.bool (iy F kids _).isSome;rw[he,uW d (by rw[C];exact bT g)];rfl,aq,fun s b=>by rw[a,c] at b;rw[show iy F kids _=none from by rw[he];exact uW d (by rw[C];exact bT g)] at b;cases b⟩
  refine aG (aJ (PW 4 Z (aO ⟨R-1,by omega,oF,i+1,X,by omega,(by obtain⟨s,b⟩:=Option.isSome_iff_exists.1 (bj g);rw[he,Cz d (show F r m=some s from by rw[C];exact b),M s b]),cI<|bg (by have:=E.bG;omega),aq⟩)))
 refine OL 3 Z<|aT<|PX 6 Z ?_;exact aA Z Z ⟨_,by rw[a,c];show _=V.bool (iy F kids _).isSome;rw[he,xA<|bC f];rfl,aq,fun s b=>by rw[a,c] at b;rw[show iy F kids _=some m from by rw[he];exact xA<|bC f] at b;cases b;rfl⟩
theorem CS {G:Cx} (hG:Plain G) {K:KP} (aY:Int):∀(k:Nat) (x:XE) (vs:List V) (p:V),ib K p vs->vs.length=4->ey K k x vs->∀(U:D) (L:Own),J U K L->bk Tryz.prog G 218 [p,.int .i64 aY] U fun v U'=>v= .bool (ea aY k x)/\J U' K L:=by
 intro k;induction k with
 | zero=>intro x vs p _ _ h;cases x;exact h.elim
 | succ k ih=>
 intro x vs p b hl h U L aq;obtain⟨op,num,name,kids⟩:=x;obtain⟨v,rfl,X⟩:=h
 have hS:ea aY (k+1) (.mk op num name kids)=bif I op 1 then(bif aX (bU num 0) then(bif gL name [] then I (.ofNat kids.length) 0 else false) else false) else
  bif I op 2 then(bif (iG name).isSome then(bif bU (Ov<|iG name) aY then(bif I num 0 then I (.ofNat kids.length) 0 else false) else false) else false) else
  bif (bif (bif I op 3 then true else I op 4) then false else(bif bU op 5 then true else bU 16 op)) then false else
  bif (bif aX (I num 0) then true else bif aX (gL name []) then true else aX (I (.ofNat kids.length)<|fQ op)) then false else
  kids.all (ea aY k):=by show(bif I op 1 then _ else bif I op 2 then(match iG name with | some n=>_ | none=>false) else _)=_;cases iG name<;>rfl
 rw[hS];clear hS;have u:gL name (List.map UInt8.toNat (ByteArray.mk #[]).data.toList)=gL name []:=rfl;refine PS hG Tryz.func218 Z<|OH 12 Z<|Pt 3 Z<|O Z (dN b Z) Z<|cq b Z Z Z (k:=0) Y (lb Z) (fun _=>Z) (fun bt a4=>?_);refine O Z (QF aq a4 Z Z) Z<|Pv 4 Z<|aE Z (fun s=>?_) (fun s=>?_)
 ·refine Pt 3 Z<|O Z (dN b Z) Z<|cq b Z Z Z (k:=1) Y (lb Z) (fun _=>Z) (fun bv a5=>?_);refine O Z (QF aq a5 Z Z) Z<|vQ 1 Z<|ky Z (an Z) (fun am=>?_) (fun am=>?_)
  ·refine vQ 1 Z<|O Z (dN b Z) Z<|cq b Z Z Z (k:=2) Y (lb Z) (fun _=>Z) (fun bw a6=>?_);refine O Z (QF aq a6 Z Z) Z<|PZ 2 Z<|ky Z (an Z) (fun a2=>?_) (fun a2=>?_)
   ·refine vQ 1 Z<|O Z (dN b Z) Z<|cq b Z Z Z (k:=3) Y (lb Z) (fun _=>Z) (fun b0 a7=>?_);refine O Z (QF aq a7 Z Z) Z<|O Z (QD X Z Z Z (e:=82) Z) Z<|Px 6 Z<|aF<|aw (?_);exact aA Z Z ⟨cB (by simp only[aX,fQ];(try rw[<-u]);simp only[s,am,a2,ct,cf]<;>rfl),aq⟩
   refine Px 11 Z<|aF<|aw (?_);exact aA Z Z ⟨cB (by simp only[aX,fQ];(try rw[<-u]);simp only[s,am,a2,ct,cf]<;>rfl),aq⟩
  refine Px 18 Z<|aF<|aw (?_);exact aA Z Z ⟨cB (by simp only[aX,fQ];(try rw[<-u]);simp only[s,am,ct,cf]<;>rfl),aq⟩
 refine Pt 3 Z<|O Z (dN b Z) Z<|cq b Z Z Z (k:=0) Y (lb Z) (fun _=>Z) (fun b1 a8=>?_);refine O Z (QF aq a8 Z Z) Z<|Pv 4 Z<|aE Z (fun f=>?_) (fun f=>?_)
 ·refine Pt 3 Z<|O Z (dN b Z) Z<|cq b Z Z Z (k:=2) Y (lb Z) (fun _=>Z) (fun b2 a9=>?_);refine O Z (QF aq a9 Z Z) Z<|bf Z (Qz Z Z Z) (fun _=>Z) (EI hG _ aq) (fun U aq=>?_);refine OO 10 Z<|ky Z (an Z) (fun aa=>?_) (fun aa=>?_)
  ·refine PZ 4 Z<|ky Z (an Z) (fun ao=>?_) (fun ao=>?_)
   ·refine vQ 1 Z<|O Z (dN b Z) Z<|cq b Z Z Z (k:=1) Y (lb Z) (fun _=>Z) (fun b3 bb=>?_);refine O Z (QF aq bb Z Z) Z<|PZ 2 Z<|ky Z (an Z) (fun a3=>?_) (fun a3=>?_)
    ·refine vQ 1 Z<|O Z (dN b Z) Z<|cq b Z Z Z (k:=3) Y (lb Z) (fun _=>Z) (fun b4 be=>?_);refine O Z (QF aq be Z Z) Z<|O Z (QD X Z Z Z (e:=82) Z) Z<|Px 6 Z<|aF<|aw (?_);exact aA Z Z ⟨cB (by simp only[aX,fQ];(try rw[<-u]);simp only[s,f,aa,ao,a3,ct,cf]<;>rfl),aq⟩
    refine Px 11 Z<|aF<|aw (?_);exact aA Z Z ⟨cB (by simp only[aX,fQ];(try rw[<-u]);simp only[s,f,aa,ao,a3,ct,cf]<;>rfl),aq⟩
   refine Px 18 Z<|aF<|aw (?_);exact aA Z Z ⟨cB (by simp only[aX,fQ];(try rw[<-u]);simp only[s,f,aa,ao,ct,cf]<;>rfl),aq⟩
  refine Px 23 Z<|aF<|aw (?_);exact aA Z Z ⟨cB (by simp only[aX,fQ];(try rw[<-u]);simp only[s,f,aa,ct,cf]<;>rfl),aq⟩
 refine Pt 3 Z<|O Z (dN b Z) Z<|cq b Z Z Z (k:=0) Y (lb Z) (fun _=>Z) (fun b5 bi=>?_);refine O Z (QF aq bi Z Z) Z<|vQ 1 Z<|ky Z (an Z) (fun l=>?_) (fun l=>?_)
 ·refine OP 14 Z<|OI 4 Z<|O Z (dN b Z) Z<|cq b Z Z Z (k:=1) Y (lb Z) (fun _=>Z) (fun bl P=>?_);refine O Z (QF aq P Z Z) Z<|vQ 1 Z<|ky Z (an Z) (fun a=>?_) (fun a=>?_)
  ·refine OQ 25 Z ?_;exact aA Z Z ⟨cB (by simp only[aX,fQ];(try rw[<-u]);simp only[s,f,l,a,ct,cf]<;>rfl),aq⟩
  refine vQ 1 Z<|O Z (dN b Z) Z<|cq b Z Z Z (k:=2) Y (lb Z) (fun _=>Z) (fun ap w=>?_);refine O Z (QF aq w Z Z) Z<|PZ 2 Z<|ky Z (an Z) (fun c=>?_) (fun c=>?_)
  ·refine OQ 18 Z ?_;exact aA Z Z ⟨cB (by simp only[aX,fQ];(try rw[<-u]);simp only[s,f,l,a,c,ct,cf]<;>rfl),aq⟩
  refine vQ 1 Z<|O Z (dN b Z) Z<|cq b Z Z Z (k:=3) Y (lb Z) (fun _=>Z) (fun ax y=>?_);refine O Z (QF aq y Z Z) Z<|O Z (QD X Z Z Z (e:=82) Z) Z<|Pv 5 Z<|aE Z (fun g=>?_) (fun g=>?_)
  ·refine Pu 7 Z ?_;exact aA Z Z ⟨cB (by simp only[aX,fQ];(try rw[<-u]);simp only[s,f,l,a,c,g,ct,cf]<;>rfl),aq⟩
  refine Ol 6 Z<|O Z (dN b Z) Z<|cq b Z Z Z (k:=3) Y (lb Z) (fun _=>Z) (fun aI z=>?_);refine O Z (QF aq z Z Z) Z<|O Z (QD X Z Z Z (e:=82) Z) Z<|OM 4 Z ?_;obtain⟨LL1,aq,hLL1⟩:=aq.named;refine bp ([4,8]++rg 122 13) (fun j t U=>∃(i:Nat),j+i=kids.length/\(kids.take i).all (ea aY k)=true/\t.get 122=some (.int .i64 (.ofNat i))/\J U K LL1) (kids.length) ⟨0,Z,Z,Z,aq⟩ ?_;clear aq;intro ab t U ar hI;obtain⟨i,hj,ha,A,aq⟩:=hI;subst hLL1;obtain⟨oo,rfl⟩:=ar.q1 A Z;refine Ps 6 Z<|aE Z (fun o=>?_) (fun o=>?_)
  ·refine NP 13 Z<|O Z (dN b Z) Z<|cq b Z Z Z (k:=3) Y (lb Z) (fun _=>Z) (fun a0 C=>?_);refine O Z (QF aq C Z Z) Z<|vQ 1 Z ?_;obtain⟨Q,d,ac⟩:=cL o;refine Qu (e:=82) (m:=4) X d Z Z Z Z (fun a1 ag E F M=>?_);have hr130raw:=M;refine vQ 1 Z<|bf Z (Qz Z Z Z) (fun _=>Z) (ih Q _ _ E F hr130raw _ _ aq) (fun U aq=>?_);refine O Z (cV Z) Z<|Pv 2 Z<|aE Z (fun q=>?_) (fun q=>?_)
   ·refine PX 6 Z<|aF<|aw<|bz<|aF<|aw (?_);exact aA Z Z ⟨cB (by rw[gG d<|bT q];simp only[aX,fQ];(try rw[<-u]);simp only[s,f,l,a,c,g,ct,cf]<;>rfl),aq⟩
   refine aG<|aJ<|PW 4 Z<|aO ⟨ab-1,by omega,oF,i+1,by omega,eR ha d<|bj q,cI<|bg (by have:=X.bG;omega),aq⟩
  refine OL 3 Z<|aT<|PX 6 Z ?_;exact aA Z Z ⟨cB (by rw[dR ha<|bC o];simp only[aX,fQ];(try rw[<-u]);simp only[s,f,l,a,c,g,ct,cf]<;>rfl),aq⟩
 refine vQ 1 Z<|O Z (dN b Z) Z<|cq b Z Z Z (k:=0) Y (lb Z) (fun _=>Z) (fun b6 bm=>?_);refine O Z (QF aq bm Z Z) Z<|Pv 5 Z<|aE Z (fun r=>?_) (fun r=>?_)
 ·refine PW 3 Z<|aJ<|OI 4 Z<|O Z (dN b Z) Z<|cq b Z Z Z (k:=1) Y (lb Z) (fun _=>Z) (fun bl P=>?_);refine O Z (QF aq P Z Z) Z<|vQ 1 Z<|ky Z (an Z) (fun a=>?_) (fun a=>?_)
  ·refine OQ 25 Z ?_;exact aA Z Z ⟨cB (by simp only[aX,fQ];(try rw[<-u]);simp only[s,f,l,r,a,ct,cf]<;>rfl),aq⟩
  refine vQ 1 Z<|O Z (dN b Z) Z<|cq b Z Z Z (k:=2) Y (lb Z) (fun _=>Z) (fun ap w=>?_);refine O Z (QF aq w Z Z) Z<|PZ 2 Z<|ky Z (an Z) (fun c=>?_) (fun c=>?_)
  ·refine OQ 18 Z ?_;exact aA Z Z ⟨cB (by simp only[aX,fQ];(try rw[<-u]);simp only[s,f,l,r,a,c,ct,cf]<;>rfl),aq⟩
  refine vQ 1 Z<|O Z (dN b Z) Z<|cq b Z Z Z (k:=3) Y (lb Z) (fun _=>Z) (fun ax y=>?_);refine O Z (QF aq y Z Z) Z<|O Z (QD X Z Z Z (e:=82) Z) Z<|Pv 5 Z<|aE Z (fun g=>?_) (fun g=>?_)
  ·refine Pu 7 Z ?_;exact aA Z Z ⟨cB (by simp only[aX,fQ];(try rw[<-u]);simp only[s,f,l,r,a,c,g,ct,cf]<;>rfl),aq⟩
  refine Ol 6 Z<|O Z (dN b Z) Z<|cq b Z Z Z (k:=3) Y (lb Z) (fun _=>Z) (fun aI z=>?_);refine O Z (QF aq z Z Z) Z<|O Z (QD X Z Z Z (e:=82) Z) Z<|OM 4 Z ?_;obtain⟨LL2,aq,hLL2⟩:=aq.named;refine bp ([4,8]++rg 122 13) (fun j t U=>∃(i:Nat),j+i=kids.length/\(kids.take i).all (ea aY k)=true/\t.get 122=some (.int .i64 (.ofNat i))/\J U K LL2) (kids.length) ⟨0,Z,Z,Z,aq⟩ ?_;clear aq;intro ab t U ar hI;obtain⟨i,hj,ha,A,aq⟩:=hI;subst hLL2;obtain⟨oo,rfl⟩:=ar.q1 A Z;refine Ps 6 Z<|aE Z (fun o=>?_) (fun o=>?_)
  ·refine NP 13 Z<|O Z (dN b Z) Z<|cq b Z Z Z (k:=3) Y (lb Z) (fun _=>Z) (fun a0 C=>?_);refine O Z (QF aq C Z Z) Z<|vQ 1 Z ?_;obtain⟨Q,d,ac⟩:=cL o;refine Qu (e:=82) (m:=4) X d Z Z Z Z (fun a1 ag E F M=>?_);have hr130raw:=M;refine vQ 1 Z<|bf Z (Qz Z Z Z) (fun _=>Z) (ih Q _ _ E F hr130raw _ _ aq) (fun U aq=>?_);refine O Z (cV Z) Z<|Pv 2 Z<|aE Z (fun q=>?_) (fun q=>?_)
   ·refine PX 6 Z<|aF<|aw<|bz<|aF<|aw (?_);exact aA Z Z ⟨cB (by rw[gG d<|bT q];simp only[aX,fQ];(try rw[<-u]);simp only[s,f,l,r,a,c,g,ct,cf]<;>rfl),aq⟩
   refine aG<|aJ<|PW 4 Z<|aO ⟨ab-1,by omega,oF,i+1,by omega,eR ha d<|bj q,cI<|bg (by have:=X.bG;omega),aq⟩
  refine OL 3 Z<|aT<|PX 6 Z ?_;exact aA Z Z ⟨cB (by rw[dR ha<|bC o];simp only[aX,fQ];(try rw[<-u]);simp only[s,f,l,r,a,c,g,ct,cf]<;>rfl),aq⟩
 refine Pt 3 Z<|O Z (dN b Z) Z<|cq b Z Z Z (k:=0) Y (lb Z) (fun _=>Z) (fun b7 bo=>?_);refine O Z (QF aq bo Z Z) Z<|vQ 1 Z<|ky Z (an Z) (fun R=>?_) (fun R=>?_)
 ·refine Px 16 Z<|aF<|aw (?_);exact aA Z Z ⟨cB (by simp only[aX,fQ];(try rw[<-u]);simp only[s,f,l,r,R,ct,cf]<;>rfl),aq⟩
 refine vQ 1 Z<|O Z (dN b Z) Z<|cq b Z Z Z (k:=0) Y (lb Z) (fun _=>Z) (fun b8 bs=>?_);refine O Z (QF aq bs Z Z) Z<|Pv 5 Z<|aE Z (fun W=>?_) (fun W=>?_)
 ·refine PX 6 Z<|aF<|aw (?_);exact aA Z Z ⟨cB (by simp only[aX,fQ];(try rw[<-u]);simp only[s,f,l,r,R,W,ct,cf]<;>rfl),aq⟩
 refine aG<|aJ<|OI 4 Z<|O Z (dN b Z) Z<|cq b Z Z Z (k:=1) Y (lb Z) (fun _=>Z) (fun bl P=>?_);refine O Z (QF aq P Z Z) Z<|vQ 1 Z<|ky Z (an Z) (fun a=>?_) (fun a=>?_)
 ·refine OQ 25 Z ?_;exact aA Z Z ⟨cB (by simp only[aX,fQ];(try rw[<-u]);simp only[s,f,l,r,R,W,a,ct,cf]<;>rfl),aq⟩
 refine vQ 1 Z<|O Z (dN b Z) Z<|cq b Z Z Z (k:=2) Y (lb Z) (fun _=>Z) (fun ap w=>?_);refine O Z (QF aq w Z Z) Z<|PZ 2 Z<|ky Z (an Z) (fun c=>?_) (fun c=>?_)
 ·refine OQ 18 Z ?_;exact aA Z Z ⟨cB (by simp only[aX,fQ];(try rw[<-u]);simp only[s,f,l,r,R,W,a,c,ct,cf]<;>rfl),aq⟩
 refine vQ 1 Z<|O Z (dN b Z) Z<|cq b Z Z Z (k:=3) Y (lb Z) (fun _=>Z) (fun ax y=>?_);refine O Z (QF aq y Z Z) Z<|O Z (QD X Z Z Z (e:=82) Z) Z<|Pv 5 Z<|aE Z (fun g=>?_) (fun g=>?_)
 ·refine Pu 7 Z ?_;exact aA Z Z ⟨cB (by simp only[aX,fQ];(try rw[<-u]);simp only[s,f,l,r,R,W,a,c,g,ct,cf]<;>rfl),aq⟩
 refine Ol 6 Z<|O Z (dN b Z) Z<|cq b Z Z Z (k:=3) Y (lb Z) (fun _=>Z) (fun aI z=>?_);refine O Z (QF aq z Z Z) Z<|O Z (QD X Z Z Z (e:=82) Z) Z<|OM 4 Z ?_;obtain⟨LL3,aq,hLL3⟩:=aq.named;refine bp ([4,8]++rg 122 13) (fun j t U=>∃(i:Nat),j+i=kids.length/\(kids.take i).all (ea aY k)=true/\t.get 122=some (.int .i64 (.ofNat i))/\J U K LL3) (kids.length) ⟨0,Z,Z,Z,aq⟩ ?_;clear aq;intro ab t U ar hI;obtain⟨i,hj,ha,A,aq⟩:=hI;subst hLL3;obtain⟨oo,rfl⟩:=ar.q1 A Z;refine Ps 6 Z<|aE Z (fun o=>?_) (fun o=>?_)
 ·refine NP 13 Z<|O Z (dN b Z) Z<|cq b Z Z Z (k:=3) Y (lb Z) (fun _=>Z) (fun a0 C=>?_);refine O Z (QF aq C Z Z) Z<|vQ 1 Z ?_;obtain⟨Q,d,ac⟩:=cL o;refine Qu (e:=82) (m:=4) X d Z Z Z Z (fun a1 ag E F M=>?_);have hr130raw:=M;refine vQ 1 Z<|bf Z (Qz Z Z Z) (fun _=>Z) (ih Q _ _ E F hr130raw _ _ aq) (fun U aq=>?_);refine O Z (cV Z) Z<|Pv 2 Z<|aE Z (fun q=>?_) (fun q=>?_)
  ·refine PX 6 Z<|aF<|aw<|bz<|aF<|aw (?_);exact aA Z Z ⟨cB (by rw[gG d<|bT q];simp only[aX,fQ];(try rw[<-u]);simp only[s,f,l,r,R,W,a,c,g,ct,cf]<;>rfl),aq⟩
  refine aG<|aJ<|PW 4 Z<|aO ⟨ab-1,by omega,oF,i+1,by omega,eR ha d<|bj q,cI<|bg (by have:=X.bG;omega),aq⟩
 refine OL 3 Z<|aT<|PX 6 Z ?_;exact aA Z Z ⟨cB (by rw[dR ha<|bC o];simp only[aX,fQ];(try rw[<-u]);simp only[s,f,l,r,R,W,a,c,g,ct,cf]<;>rfl),aq⟩
def Ep (h:kN):List V:=[.bool h.pc,.bool h.loc,.bool h.order,.bool h.to,.int .i64 (.ofNat h.exprs)]
def As:List V:=ja.flatMap Ep
structure rh (G:Cx) (K:KP):Prop where
 gl:Nat.ble 1 G.gl=true
 sh:∃e ro,K (posOf 0) (.row As e ro)
theorem rh.mono {G:Cx} {K K':KP} (h:rh G K) (a:KP.le K K'):rh G K':=⟨h.gl,let ⟨e,ro,b⟩:=h.sh;⟨e,ro,a _ _ b⟩⟩
theorem m5 {b c:Bool} (h:(!b)=c):(bif b then false else true)=c:=by cases b<;>exact h
theorem Oy {n:Nat} {h:kN} (a:ja[n]?=some h):List.take 5 (List.drop (0+n*5) As)=Ep h:=by
 have b:n<14:=(gA.1 a).1
 match n,b with
 | 0,_ | 1,_ | 2,_ | 3,_ | 4,_ | 5,_ | 6,_ | 7,_ | 8,_ | 9,_ | 10,_ | 11,_ | 12,_ | 13,_=>cases a;rfl
theorem Oz {x:Int} (a:bU x 1=false) (b:bU 13 x=false):∃(n:Nat) (h:kN),x= .ofNat n/\n<14/\ja[n]?=some h:=by
 rw[eP,decide_eq_false_iff_not] at a b;refine⟨x.toNat,ja[x.toNat]'(by show x.toNat<14;omega),by show x=((x.toNat:Nat):Int);omega,by omega,gC _⟩
theorem Hg {aY nins:Int} {k n:Nat} {x:XI} {h:kN} (a:bU x.kind 1=false) (b:bU 13 x.kind=false) (c:x.kind= .ofNat n) (d:ja[n]?=some h):fF aY nins k x=gE aY nins k x h:=by
 unfold fF;rw[a,b,c];show(match ja[n]? with | some h=>_ | none=>false)=_;rw[d]
theorem KM {G:Cx} {t:N V} {g:Nat} (h:Nat.ble (Nat.succ g) G.gl=true):bE G t (.global g)=some (.ptr (posOf g) 0):=by
 show(bif Nat.ble (Nat.succ g) G.gl then _ else _)=_;rw[h];rfl
theorem LN {G:Cx} (z:Plain G) {K:KP} (A:rh G K) {k:Nat} {c:XC} {x:XI} {v:V} {vs:List V} {p:V} (hi:bR K 6 (iI K k) c.ins v) (a:ib K p vs) (h:iI K k x vs) {U:D} {L:Own} (aq:J U K L):
  bk Tryz.prog G 165 [.agg [.int .i64 c.aY,v],p] U fun v U'=>v= .bool (fF c.aY (.ofNat c.ins.length) k x)/\J U' K L:=by
 obtain⟨w,rfl,hk⟩:=h;refine PS z Tryz.func165 Z<|Pt 2 Z<|kp aq Z (cz Z Z) (fun U b1 aq=>?_);refine On 7 Z<|O Z (dN a Z) Z<|cq a Z Z Z (k:=0) Y (lb Z) (fun _=>Z) (fun p9 ax=>?_);refine O Z (QF aq ax Z Z) Z<|vQ 1 Z<|ky Z (an Z) (fun g=>?_) (fun g=>?_)
 ·refine OQ 16 Z ?_;exact aA Z Z ⟨cB (by unfold fF;rw[g];rfl),aq.pop⟩
 refine vQ 1 Z<|O Z (dN a Z) Z<|cq a Z Z Z (k:=0) Y (lb Z) (fun _=>Z) (fun a2 C=>?_);refine O Z (QF aq C Z Z) Z<|Pv 4 Z<|aE Z (fun s=>?_) (fun s=>?_)
 ·refine Pu 7 Z ?_;exact aA Z Z ⟨cB (by unfold fF;rw[g,show bU 13 x.kind=true from s];rfl),aq.pop⟩
 have h17x:bU 13 x.kind=false:=s;refine OK 5 Z<|O Z (dN a Z) Z<|cq a Z Z Z (k:=0) Y (lb Z) (fun _=>Z) (fun a3 E=>?_);refine O Z (QF aq E Z Z) Z ?_;obtain⟨kn,sh,F,aI,M⟩:=Oz g h17x;obtain⟨eg,rog,P⟩:=A.sh;have hRX:=Hg (aY:=c.aY) (nins:=.ofNat c.ins.length) (k:=k) g h17x F M;refine O Z (tA (n:=14) (e:=264) (m:=5) Y Y (KM A.gl) (show _=some (V.int .i64 (.ofNat kn)) from cI F) aI) Z<|O Z (aP Z (aq.fq P) (n:=5) (vs:=Ep sh) Y (by show 0+kn*5+5<=70;omega)<|Oy M) Z (kp aq Z (QE (cs:=[.bool false,.bool false,.bool false,.bool false,T])) (fun U b2 aq=>?_));refine bO aq Z (QH Z Z Z aq.g0 (m:=5) Z Z (cells':=[_,_,_,_,_]) Z) Z (fun U aq=>?_);refine ON 3 Z<|ak<|aS (l:=zp [0,1,2,3,4,5,6,7,8,9,10,11,12,13,14,15,16,17,18,19,20,21,22,23,24,25,26,27,28,29,30,31,32,33,34,35,36,37,38,39,40,41,42]) Y Y<|wQ 1 Z<|al Z Z (dN a Z) Z<|ka a Z Z Z Z (k:=1) Y (lb Z) (fun _=>Z) (fun a4 Q=>?_);refine al Z Z (QF aq Q Z Z) Z<|P4 aq 4 [0,1,0,0] Z Z<|cA Z Z (Qz Z Z Z) (fun _=>Z) (tw z _ _ _ _ aq) (fun U aq=>?_);refine⟨aV,?_⟩;refine al Z Z (cV Z) Z<|dZ Z Z (an Z) (fun _=>Z) (fun b=>?_) (fun b=>?_)
 ·refine OT 42 Z ?_;exact aA Z Z ⟨cB (by rw[hRX];unfold gE;simp only[aX];simp only[m5 b,ct,cf]<;>rfl),aq.pop.pop⟩
 refine wQ 1 Z<|al Z Z (dN a Z) Z<|ka a Z Z Z Z (k:=2) Y (lb Z) (fun _=>Z) (fun a5 R=>?_);refine al Z Z (QF aq R Z Z) Z<|P4 aq 2 [1,0] Z Z<|cA Z Z (Qz Z Z Z) (fun _=>Z) (tw z _ _ _ _ aq) (fun U aq=>?_);refine⟨aV,?_⟩;refine al Z Z (cV Z) Z<|wQ 1 Z<|dZ Z Z (an Z) (fun _=>Z) (fun d=>?_) (fun d=>?_)
 ·refine OT 32 Z ?_;exact aA Z Z ⟨cB (by rw[hRX];unfold gE;simp only[aX];simp only[m5 b,m5 d,ct,cf]<;>rfl),aq.pop.pop⟩
 refine wQ 1 Z<|al Z Z (dN a Z) Z<|ka a Z Z Z Z (k:=3) Y (lb Z) (fun _=>Z) (fun a6 W=>?_);refine al Z Z (QF aq W Z Z) Z<|P4 aq 2 [2,0] Z Z<|cA Z Z (Qz Z Z Z) (fun _=>Z) (tw z _ _ _ _ aq) (fun U aq=>?_);refine⟨aV,?_⟩;refine al Z Z (cV Z) Z<|wQ 1 Z<|dZ Z Z (an Z) (fun _=>Z) (fun f=>?_) (fun f=>?_)
 ·refine OT 22 Z ?_;exact aA Z Z ⟨cB (by rw[hRX];unfold gE;simp only[aX];simp only[m5 b,m5 d,m5 f,ct,cf]<;>rfl),aq.pop.pop⟩
 refine wQ 1 Z<|al Z Z (dN a Z) Z<|ka a Z Z Z Z (k:=4) Y (lb Z) (fun _=>Z) (fun a7 X=>?_);refine al Z Z (QF aq X Z Z) Z<|P4 aq 2 [1,1] Z Z<|al Z Z (QD hi Z Z Z (e:=79) Z) Z<|P4 aq 2 [3,0] Z Z<|cA Z Z (Qz Z Z Z) (fun _=>Z) (tw z _ _ _ _ aq) (fun U aq=>?_);refine⟨aV,?_⟩;refine al Z Z (cV Z) Z<|Py 3 Z<|aE Z (fun o=>?_) (fun o=>?_)
 ·refine Pu 7 Z ?_;exact aA Z Z ⟨cB (by rw[hRX];unfold gE;simp only[aX];simp only[m5 b,m5 d,m5 f,m5 o,ct,cf]<;>rfl),aq.pop.pop⟩
 refine OJ 3 Z<|ak<|aS (l:=zp [0,1,2,3,4,5,6,7]) Y Y<|wQ 1 Z<|al Z Z (dN a Z) Z<|ka a Z Z Z Z (k:=5) Y (lb Z) (fun _=>Z) (fun a8 aa=>?_);refine al Z Z (QF aq aa Z Z) Z<|al Z Z (QD hk Z Z Z (e:=82) Z) Z<|P4 aq 3 [4,0] Z Z<|Py 2 Z<|aE Z (fun r=>?_) (fun r=>?_)
 ·refine Pu 7 Z ?_;exact aA Z Z ⟨cB (by rw[hRX];unfold gE;simp only[aX];simp only[m5 b,m5 d,m5 f,m5 o,r,ct,cf]<;>rfl),aq.pop.pop⟩
 refine Ol 6 Z<|O Z (dN a Z) Z<|cq a Z Z Z (k:=5) Y (lb Z) (fun _=>Z) (fun a9 ab=>?_);refine O Z (QF aq ab Z Z) Z<|O Z (QD hk Z Z Z (e:=82) Z) Z<|OM 4 Z ?_;obtain⟨LL1,aq,hLL1⟩:=aq.named;refine bp ([4,6]++rg 81 14) (fun j t U=>∃(i:Nat),j+i=x.exprs.length/\(x.exprs.take i).all (ea c.aY k)=true/\t.get 81=some (.int .i64 (.ofNat i))/\J U K LL1) (x.exprs.length) ⟨0,Z,Z,Z,aq⟩ ?_;clear aq;intro j9 t U ar hI;obtain⟨i,hj,ha,ac,aq⟩:=hI;subst hLL1;obtain⟨oo,rfl⟩:=ar.q1 ac Z;refine Ps 6 Z<|aE Z (fun u=>?_) (fun u=>?_)
 ·refine NO 11 Z<|aS (l:=zp [0,1,2,3,4,5,6,7,8,9]) Y Y<|wQ 1 Z<|al Z Z (dN a Z) Z<|ka a Z Z Z Z (k:=5) Y (lb Z) (fun _=>Z) (fun bb ag=>?_);refine al Z Z (QF aq ag Z Z) Z<|wQ 1 Z ?_;obtain⟨be,q,a0⟩:=cL u;refine Qv (e:=82) (m:=4) hk q Z Z Z Z Z (fun bi a1 am ao ap=>?_);have hr89rawx:=ap;refine P4 aq 2 [0,1] Z Z<|cA Z Z (Qz Z Z Z) (fun _=>Z) (CS z _ _ _ _ _ am ao hr89rawx _ _ aq) (fun U aq=>?_);refine⟨aV,?_⟩;refine al Z Z (cV Z) Z<|Py 2 Z<|aE Z (fun y=>?_) (fun y=>?_)
  ·refine PX 6 Z<|aF<|aw<|bz<|aF<|aw (?_);exact aA Z Z ⟨cB (by rw[hRX];unfold gE;rw[gG q<|kA y];simp only[aX];simp only[m5 b,m5 d,m5 f,m5 o,r,ct,cf]<;>rfl),aq.pop.pop⟩
  refine aG<|aJ<|PW 4 Z<|aO ⟨j9-1,by omega,oF,i+1,by omega,eR ha q<|eV y,cI<|bg (by have:=hk.bG;omega),aq⟩
 refine OL 3 Z<|aT<|PX 6 Z ?_;exact aA Z Z ⟨cB (by rw[hRX];unfold gE;rw[dR ha<|bC u];simp only[aX];simp only[m5 b,m5 d,m5 f,m5 o,r,ct,cf]<;>rfl),aq.pop.pop⟩
theorem zm {G:Cx} (hG:Plain G) {K:KP} (a7:rh G K) {k:Nat} {c:XC} {v:V} (q:bR K 6 (iI K k) c.ins v) {U:D} {L:Own} (aq:J U K L):
  bk Tryz.prog G 112 [.agg [.int .i64 c.aY,v]] U fun v U'=>v= .int .i64 (dq k c)/\J U' K L:=by
 refine PS hG Tryz.func112 Z<|Pt 2 Z<|kp aq Z (cz Z Z) (fun U b1 aq=>?_);refine Ou aq 9 [0,0] Z Z<|ky Z (an Z) (fun a=>?_) (fun a=>?_)
 ·refine OQ 15 Z ?_;exact aA Z Z ⟨cJ (by symm;unfold dq;rw[a];rfl),aq.pop⟩
 refine P3 aq 2 [1,0] Z Z<|O Z (QD q Z Z Z (e:=79) Z) Z<|Pv 4 Z<|aE Z (fun P=>?_) (fun P=>?_)
 ·refine Pu 7 Z ?_;exact aA Z Z ⟨cJ (by symm;unfold dq;rw[a,show bU 4000 (.ofNat c.ins.length)=true from P];rfl),aq.pop⟩
 have h15x:bU 4000 (.ofNat c.ins.length)=false:=P;refine Ot aq 7 [1,0] Z Z<|O Z (QD q Z Z Z (e:=79) Z) Z<|OM 4 Z ?_;obtain⟨LL1,aq,hLL1⟩:=aq.named;refine bp (rg 2 4++rg 19 25) (fun j t U=>∃(i:Nat),j+i=c.ins.length/\(c.ins.take i).all (uf k)=true/\t.get 19=some (.int .i64 (.ofNat i))/\J U K LL1) (c.ins.length) ⟨0,Z,Z,Z,aq⟩ ?_;clear aq;intro j4 t U ar hI;obtain⟨i,b7,f,ab,aq⟩:=hI;subst hLL1;obtain⟨oo,rfl⟩:=ar.q1 ab Z;refine Ps 6 Z<|aE Z (fun d=>?_) (fun d=>?_)
 ·refine NQ aq 15 [1,0] Z Z ?_;obtain⟨s,p,a9⟩:=cL d;refine Qu (e:=79) (m:=6) q p Z Z Z Z (fun b8 bb ac be A=>?_);have hr25rawx:=A;have hr25':=A;obtain⟨b9,rfl,C⟩:=hr25';refine cq ac Z Z Z (k:=5) Y (lb Z) (fun _=>Z) (fun ca ag=>?_);refine O Z (QF aq ag Z Z) Z<|O Z (QD C Z Z Z (e:=82) Z) Z<|OM 4 Z ?_;obtain⟨LL2,aq,hLL2⟩:=aq.named;refine bp ([2,4,5]++rg 29 14) (fun j t U=>∃(i2:Nat),j+i2=s.exprs.length/\(s.exprs.take i2).all (fun e=>(lH k e 1 0).isSome)=true/\t.get 29=some (.int .i64 (.ofNat i2))/\J U K LL2) (s.exprs.length) ⟨0,Z,Z,Z,aq⟩ ?_;clear aq;intro j7 t U ar hI;obtain⟨i2,cb,am,ao,aq⟩:=hI;subst hLL2;obtain⟨oo,rfl⟩:=ar.q1 ao Z;refine Ps 6 Z<|aE Z (fun Q=>?_) (fun Q=>?_)
  ·refine NP 12 Z<|kp aq Z (QE (cs:=[T])) (fun U b2 aq=>?_);refine bO aq Z (QH Z Z Z aq.g0 (m:=1) Z Z (cells':=[_]) Z) Z (fun U aq=>?_);refine OX aq 7 [1,1] Z Z<|Qu (e:=79) (m:=6) q p Z Z Z Z (fun cc bi ap bl E=>?_);have hr35rawx:=E;have hr35':=E;obtain⟨ce,rfl,ax⟩:=hr35';refine cq ap Z Z Z (k:=5) Y (lb Z) (fun _=>Z) (fun cg aI=>?_);refine O Z (QF aq aI Z Z) Z<|vQ 1 Z ?_;obtain⟨ch,u,bm⟩:=cL Q;refine Qu (e:=82) (m:=4) ax u Z Z Z Z (fun ci bo a0 a1 a2=>?_);have hr39rawx:=a2;refine cH Z (Qz Z Z Z) (fun _=>Z) (LO hG _ _ _ _ a0 a1 hr39rawx _ _ _ _ _ _ aq) ?_;rintro _ U ⟨m2,rfl,aq,ck⟩;refine O Z (cV Z) Z<|Pv 2 Z<|aE Z (fun R=>?_) (fun R=>?_)
   ·refine PX 6 Z<|aF<|aw<|bz<|aF<|aF<|aw<|bz<|aF<|aw (?_);exact aA Z Z ⟨cJ (by symm;unfold dq;rw[a,show bU 4000 (.ofNat c.ins.length)=false from h15x,gG p (show uf k s=false from gG u (kA R))];rfl),aq.pop.pop⟩
   refine aG<|aJ<|PW 4 Z ?_;have aq:=aq.pop;refine aO ⟨j7-1,by omega,oF,i2+1,by omega,eR am u<|eV R,cI<|bg (by have:=C.bG;omega),aq⟩
  refine OL 3 Z<|aT<|aJ<|PW 4 Z<|aO ⟨j4-1,by omega,oF,i+1,by omega,eR f p (show uf k s=true from dR am (bC Q)),cI<|bg (by have:=q.bG;omega),aq⟩
 refine OL 3 Z<|aT<|OU aq 6 [0,0] Z Z<|ky Z (an Z) (fun g=>?_) (fun g=>?_)
 ·refine OQ 15 Z ?_;exact aA Z Z ⟨cJ (by symm;unfold dq;rw[a,show bU 4000 (.ofNat c.ins.length)=false from h15x,dR f<|bC d,g];rfl),aq.pop⟩
 refine P3 aq 2 [1,0] Z Z<|O Z (QD q Z Z Z (e:=79) Z) Z<|Pv 4 Z<|aE Z (fun W=>?_) (fun W=>?_)
 ·refine Pu 7 Z ?_;exact aA Z Z ⟨cJ (by symm;unfold dq;rw[a,show bU 4000 (.ofNat c.ins.length)=false from h15x,dR f<|bC d,g,show I (.ofNat c.ins.length) 0=true from W];rfl),aq.pop⟩
 have h52x:I (.ofNat c.ins.length) 0=false:=W;refine Ot aq 7 [1,0] Z Z<|O Z (QD q Z Z Z (e:=79) Z) Z<|OM 4 Z ?_;obtain⟨LL3,aq,hLL3⟩:=aq.named;refine bp ([2,6]++rg 56 11) (fun j t U=>∃(i:Nat),j+i=c.ins.length/\(c.ins.take i).all (fF c.aY (.ofNat c.ins.length) k)=true/\t.get 56=some (.int .i64 (.ofNat i))/\J U K LL3) (c.ins.length) ⟨0,Z,Z,Z,aq⟩ ?_;clear aq;intro a8 t U ar hI;obtain⟨i,bs,h,a3,aq⟩:=hI;subst hLL3;obtain⟨oo,rfl⟩:=ar.q1 a3 Z;refine Ps 6 Z<|aE Z (fun r=>?_) (fun r=>?_)
 ·refine NO 11 Z<|aS (l:=zp [0,1,2,3,4,5,6]) Y Y<|al Z Z (QC Z aq.g0 (n:=2) (vs:=[_,_]) Z) Z<|P4 aq 3 [1,0] Z Z ?_;obtain⟨cl,w,bt⟩:=cL r;refine Qv (e:=79) (m:=6) q w Z Z Z Z Z (fun cn bv a4 bw F=>?_);have hr63rawx:=F;have hr63':=F;obtain⟨co,rfl,b0⟩:=hr63';refine cA Z Z (Qz Z Z Z) (fun _=>Z) (LN hG a7 q a4 hr63rawx aq) (fun U aq=>?_);refine⟨aV,?_⟩;refine al Z Z (cV Z) Z<|Py 2 Z<|aE Z (fun X=>?_) (fun X=>?_)
  ·refine PX 6 Z<|aF<|aw<|bz<|aF<|aw (?_);exact aA Z Z ⟨cJ (by symm;unfold dq;rw[a,show bU 4000 (.ofNat c.ins.length)=false from h15x,dR f<|bC d,g,show I (.ofNat c.ins.length) 0=false from h52x,gG w<|kA X];rfl),aq.pop⟩
  refine aG<|aJ<|PW 4 Z<|aO ⟨a8-1,by omega,oF,i+1,by omega,eR h w<|eV X,cI<|bg (by have:=q.bG;omega),aq⟩
 refine OL 3 Z<|aT<|OU aq 7 [1,0,1,0] Z Z<|O Z (QD q Z Z Z (e:=79) Z) Z<|vQ 1 Z ?_;have b3:0<c.ins.length:=by rcases Nat.eq_zero_or_pos c.ins.length with e | e;rw[e] at h52x;cases h52x;exact e
 obtain⟨y,o⟩:=cm (show c.ins.length-1<c.ins.length from by omega);refine Qu (e:=79) (m:=6) q o Z Z Z (cI<|kY (b:=1) B q.bG) (fun cp b4 a5 b5 M=>?_);have hr73rawx:=M;have hr73':=M;obtain⟨cv,rfl,b6⟩:=hr73';refine cq a5 Z Z Z (k:=0) Y (lb Z) (fun _=>Z) (fun cx a6=>?_);refine O Z (QF aq a6 Z Z) Z<|OM 3 Z<|OI 3 Z<|ky Z (az Z Z Z) (fun x=>?_) (fun x=>?_)
 ·refine OQ 13 Z<|aF<|aw (?_);exact aA Z Z ⟨cJ (by symm;unfold dq;rw[a,show bU 4000 (.ofNat c.ins.length)=false from h15x,dR f<|bC d,g,show I (.ofNat c.ins.length) 0=false from h52x,dR h<|bC r,o];show(bif gk y then(0:Int) else 2)=_;unfold gk;rw[x];rfl),aq.pop⟩
 refine OO 6 Z<|ky Z (az Z Z Z) (fun z=>?_) (fun z=>?_)
 ·refine OQ 13 Z<|aF<|aw (?_);exact aA Z Z ⟨cJ (by symm;unfold dq;rw[a,show bU 4000 (.ofNat c.ins.length)=false from h15x,dR f<|bC d,g,show I (.ofNat c.ins.length) 0=false from h52x,dR h<|bC r,o];show(bif gk y then(0:Int) else 2)=_;unfold gk;rw[x,z];rfl),aq.pop⟩
 refine Pw 5 Z<|ky Z (az Z Z Z) (fun aa=>?_) (fun aa=>?_)
 ·refine Px 10 Z<|aF<|aw (?_);exact aA Z Z ⟨cJ (by symm;unfold dq;rw[a,show bU 4000 (.ofNat c.ins.length)=false from h15x,dR f<|bC d,g,show I (.ofNat c.ins.length) 0=false from h52x,dR h<|bC r,o];show(bif gk y then(0:Int) else 2)=_;unfold gk;rw[x,z,aa];rfl),aq.pop⟩
 refine OP 6 Z<|PX 6 Z ?_;exact aA Z Z ⟨cJ (by symm;unfold dq;rw[a,show bU 4000 (.ofNat c.ins.length)=false from h15x,dR f<|bC d,g,show I (.ofNat c.ins.length) 0=false from h52x,dR h<|bC r,o];show(bif gk y then(0:Int) else 2)=_;unfold gk;rw[x,z,aa];rfl),aq.pop⟩
theorem CQ {G:Cx} (j:Plain G) {K:KP} {k:Nat} {x:XI} {a:Nat} (i:a<9223372036854775807) {vs:List V} (h:iI K k x vs) {U:D} {L:Own} (aq:J U K L):
  bk Tryz.prog G 216 [.agg vs,.int .i64 (.ofNat a)] U fun v U'=>∃M,cQ 1 3 dy (gN x a) v M/\J U' K (M++L):=by
 obtain⟨w,rfl,hk⟩:=h;refine PS j Tryz.func216 Z<|Pt 2 Z<|kp aq Z (cz Z Z) (fun U b1 aq=>?_);refine OW aq 10 [0,0] Z Z<|aN<|Pt 2 Z<|ky Z (az Z Z Z) (fun f=>?_) (fun f=>?_)
 ·refine OX aq 8 [4,0] Z Z<|gT aq Z (bY (e:=3) (m:=1) (z:=[T]) (cs:=[_]) Y Y Y Y<|bD Z Z Z Z bJ) (fun _=>Z) (fun U g aq=>?_);refine Px 4 Z<|aF<|aw (?_);exact aA Z Z ⟨[(g,_)],by unfold gN;rw[f];exact gO (xs:=[x.to]) (by simp),aq.sub (.cons_cons _ (.cons _ (.refl _)))⟩
 refine OO 6 Z<|ky Z (az Z Z Z) (fun b=>?_) (fun b=>?_)
 ·refine OO 7 Z<|O Z (az Z Z (show _=some (V.int .i64 (.ofNat (a+1))) from cI (bg i))) Z<|P3 aq 2 [4,0] Z Z<|gT aq Z (bY (e:=3) (m:=1) (z:=[T]) (cs:=[_,_]) Y Y Y Y<|bD Z Z Z Z<|bD Z Z Z Z bJ) (fun _=>Z) (fun U g aq=>?_);refine Px 4 Z<|aF<|aw (?_);exact aA Z Z ⟨[(g,_)],by unfold gN;rw[f,b];exact gO (xs:=[.ofNat (a+1),x.to]) (by simp),aq.sub (.cons_cons _ (.cons _ (.refl _)))⟩
 refine On 7 Z<|ky Z (az Z Z Z) (fun c=>?_) (fun c=>?_)
 ·refine OQ 13 Z<|aF<|aw (?_);exact aA Z Z ⟨[],.inl ⟨by unfold gN;rw[f,b,c];rfl,Z,Z⟩,aq.pop⟩
 refine Pw 5 Z<|ky Z (az Z Z Z) (fun d=>?_) (fun d=>?_)
 ·refine Px 10 Z<|aF<|aw (?_);exact aA Z Z ⟨[],.inl ⟨by unfold gN;rw[f,b,c,d];rfl,Z,Z⟩,aq.pop⟩
 refine OP 6 Z<|Pt 3 Z<|O Z (az Z Z (show _=some (V.int .i64 (.ofNat (a+1))) from cI (bg i))) Z<|gT aq Z (bY (e:=3) (m:=1) (z:=[T]) (cs:=[_]) Y Y Y Y<|bD Z Z Z Z bJ) (fun _=>Z) (fun U g aq=>?_);refine Px 4 Z ?_;exact aA Z Z ⟨[(g,_)],by unfold gN;rw[f,b,c,d];exact gO (xs:=[.ofNat (a+1)]) (by simp),aq.sub (.cons_cons _ (.cons _ (.refl _)))⟩
theorem NF {G:Cx} (a:Plain G) {K:KP} (x y:Int) {U:D} {L:Own} (aq:J U K L):bk Tryz.prog G 163 [.int .i64 x,.int .i64 y] U fun v U'=>v= .bool false/\J U' K L:=by
 refine PS a Tryz.func163 Z<|PX 11 Z ?_;exact aA Z Z ⟨Z,aq⟩
theorem JU {G:Cx} (hG:Plain G) {K:KP} {k:Nat} {c:XC} (hc:eX k c) {v:V} (hi:bR K 6 (iI K k) c.ins v) {U:D} {L:Own} (aq:J U K L):
  bk Tryz.prog G 162 [.agg [.int .i64 c.aY,v],.func 163 [] []] U fun v U'=>∃u M,v= .tuple [u,.bool (fT c).isSome]/\nt 1 3 dy (((fT c).getD []).map .ofNat) u M/\J U' K (M++L):=by
 have hN:∀i,i<c.ins.length->∀to∈dj c i,to<c.ins.length:=sT hc;have hlen:=hc.len;have hpos:=hc.pos;have htot:=CM (c:=c);obtain⟨N_,a3⟩:∃N_,N_=2*total (dj c) c.ins.length+2:=⟨_,Z⟩;have hO:fT c=xV (dj c) N_ (x7 c.ins.length):=by rw[a3];rfl
 refine PS hG Tryz.func162 Z<|Pt 2 Z<|kp aq Z (cz Z Z) (fun U b1 aq=>?_);refine OX aq 8 [1,0] Z Z<|O Z (QD hi Z Z Z (e:=79) Z) Z<|gT aq Z (k9 (e:=5) (w:=1) (z:=[gS 0]) Y Y Y Y Z Z B B) (fun _=>Z) (fun U b2 aq=>?_);rw[iT (f:=gS)] at aq;refine OX aq 7 [1,1] Z Z<|O Z (QD hi Z Z Z (e:=79) Z) Z<|gT aq Z (k9 (e:=3) (w:=8) (z:=[gI 0]) Y Y Y Y Z Z B B) (fun _=>Z) (fun U b3 aq=>?_);rw[iT (f:=gI)] at aq;refine OO 11 Z (O Z (eo (e:=5) (m:=1) Y Y Z Z hpos) Z (cC aq (.there .here) Z (aL Z Z Z aq.g1 (m:=1) Y Z (by rw[lM_];simp;omega) Z (cells':=((List.replicate c.ins.length 0).set 0 1).map (gS))<|fb (f:=gS) (v:=1) (by simp;omega) (by first | omega | rfl)) Z (fun U aq=>?_)));refine On 5 Z<|gT aq Z (bY (e:=3) (m:=1) (z:=[T]) (cs:=[_]) Y Y Y Y<|bD Z Z Z Z bJ) (fun _=>Z) (fun U b4 aq=>?_);refine OM 4 Z (bp ([4,5]++rg 8 5++rg 24 71) (fun j t U=>∃(s:DS) (u9 u8:V) (Mp Mo:Own),LV (dj c) c.ins.length s/\jr (dj c) c.ins.length s<=j/\s.out.length+jr (dj c) c.ins.length s<=N_/\xV (dj c) N_ (x7 c.ins.length)=xV (dj c) (j+1) s/\nt 1 3 dy (s.out.map .ofNat) u8 Mo/\nt 1 3 dy (s.path.map .ofNat) u9 Mp/\t.get 8=some (u8)/\t.get 9=some (u9)/\J U K (Mo++(Mp++((b3,.row (s.gone.map gI) 3 false)::(b2,.row (s.st.map gS) 5 false)::(b1,.row [.int .i64 c.aY,v] 33 false)::L)))) ((N_-1)) ⟨x7 c.ins.length,_,.ax,[(b4,.row [gI 0] 3 false)],[],wg hpos,by rw[Fq];omega,by rw[Fq];have:(x7 c.ins.length).out.length=0:=rfl;omega,by rw[show N_-1+1=N_ from by omega],.inl ⟨Z,Z,Z⟩,(gO (xs:=[0]) (by simp)).Oi,Z,Z,aq⟩ ?_);clear aq;intro j6 t U ar hI;obtain⟨s,u9,u8,Mp,Mo,hw,F,b7,he,hOut,Q,a4,a5,aq⟩:=hI;obtain⟨oo,rfl⟩:=ar.q2 a4 a5 Z;refine OI 4 Z<|O Z (uj Q Z Z Z (e:=3) Y Z) Z<|ky Z (az Z Z Z) (fun R=>?_) (fun R=>?_)
 ·refine Pv 3 Z<|aG<|ad<|aN<|Pt 4 Z<|O Z (uj Q Z Z Z (e:=3) Y Z) Z<|vQ 1 Z ?_;have ac:0<s.path.length:=by have:=bu (a:=0) R;rwa[iC] at this
  obtain⟨a,h⟩:∃a,s.path.getLast?=some a:=by cases hq:s.path.getLast? with | none=>(rw[List.getLast?_eq_none_iff.1 hq] at ac;exact absurd ac<|Nat.lt_irrefl _) | some a=>exact⟨a,rfl⟩
  have hla':=Fp h;obtain⟨d,bm⟩:=hw.path a (gB_ hla');obtain⟨g,A⟩:∃g,s.gone[a]?=some g:=⟨_,gC (by rw[hw.rJ];exact d)⟩;obtain⟨ag,l⟩:=cm d;have b8:s.path.length<=jr (dj c) c.ins.length s:=by unfold jr;omega
  refine Qu (e:=3) (m:=1) (Q.kq (K:=K.ic Mp) fun y hy=>.inr hy) (Jb hla') Z Z Z (cI ((congrArg (fun q=>wr .i64 (Int.sub (.ofNat q) 1))<|iC s.path).trans<|kY (b:=1) B B)) (fun b9 bo am bs ao=>?_);obtain rfl:=ao;refine O Z (QF (aq.aQ.keeps) am Z Z) Z<|OX aq 6 [1] Z Z<|O Z (QB Z aq.aQ.aQ.pop.pop.g0 Z) Z<|vQ 1 Z<|Qu (e:=79) (m:=6) hi l Z Z Z Z (fun ca bt ap bv C=>?_);have hr36raw:=C;have hr36':=C;obtain⟨cb,rfl,bw⟩:=hr36';refine O Z (QG aq ap Z Z) Z<|vQ 1 Z<|cH Z (Qz Z Z Z) (fun _=>Z) (CQ hG B hr36raw aq) ?_;rintro cc U ⟨a6,hM39,aq⟩;replace aq:=aq.keeps;have hS39:=hM39.kq (K:=K.ic a6) fun y hy=>.inr hy
  refine On 8 Z<|O Z (eo (e:=3) (m:=1) Y Y Z Z d) Z<|O Z (ay Z aq.aQ.aQ.g0 Y<|jZ A (by first | omega | rfl)) Z<|vQ 1 Z<|O Z (QD hS39 Z Z Z (e:=3) Z) Z<|Pv 3 Z<|aE Z (fun W=>?_) (fun W=>?_)
  ·refine Pt 4 Z (O Z (eo (e:=5) (m:=1) Y Y Z Z d) Z (cC aq (.cM (.cM (.there .here))) Z (aL Z Z Z aq.aQ.aQ.pop.g0 (m:=1) Y Z (by rw[lM_];rw[hw.FP];omega) Z (cells':=((s.st).set a 2).map (gS))<|fb (f:=gS) (v:=2) (by rw[hw.FP];exact d) (by first | omega | rfl)) Z (fun U aq=>?_)));refine OO 6 Z<|gT aq Z (bY (e:=3) (m:=1) (z:=[T]) (cs:=[_]) Y Y Y Y<|bD Z Z Z Z bJ) (fun _=>Z) (fun U b5 aq=>?_);obtain⟨U,a7,a8,n,hOut2,aq⟩:=qg (P:=Tryz.prog) (ts:= #[34,34]) (t:=34) (e:=3) (l2:=[Int.ofNat a]) hOut aq (fK (xs:=[Int.ofNat a]) (.inr ⟨Z,Z⟩) (by simp)) dy.leaf (by simp) (by simp) (by rw[iC];omega) Z Y Y Y;rw[show s.out.map Int.ofNat++[Int.ofNat a]=(s.out++[a]).map Int.ofNat from by rw[List.map_append];rfl] at hOut2;refine O Z (dM Z Z Z Z Y n) Z<|OO 7 Z<|O Z (uj Q Z Z Z (e:=3) Y Z) Z<|vQ 1 Z ?_;obtain⟨a9,hP2,bb⟩:=Q.L8 (k:=s.path.length-1) (by rw[iC];omega);rw[zh] at hP2;refine O Z (bn Z<|bb Y Y Z (show _=some (V.int .i64 (.ofNat (s.path.length-1))) from cI ((congrArg (fun q=>wr .i64 (Int.sub (.ofNat q) 1))<|iC s.path).trans<|kY (b:=1) B B))) Z<|OR 5 Z<|aT ?_;replace aq:=aq.weaken (KP.bX _ _);have hd:=Gr A (IY l (by have:=iJ_ (eqv W);omega));obtain⟨o,aI,a0⟩:=nU hw hN h hd;refine aO ⟨j6-1,by have:1<=j6:=(by unfold jr at F;omega);omega,oF,_,a9,a7,Mp,a8,o,by omega,by omega,by rw[he,show j6+1=(j6-1+1)+1 from by omega];exact wc h hd,hOut2,hP2,Z,Z,aq⟩
  refine OK 7 Z<|O Z (eo (e:=3) (m:=1) Y Y Z Z d) Z<|O Z (ay Z aq.aQ.aQ.g0 Y<|jZ A (by first | omega | rfl)) Z ?_;have be:g<(gN ag a).length:=by have h1:=hw.gone a g A;rw[qT l] at h1;have:=DC W;omega
  obtain⟨ce,E⟩:=cm be;obtain⟨to,rfl,p,X⟩:=y6 hc l E;obtain⟨sv,hv⟩:∃sv,s.st[to]?=some sv:=⟨_,gC (by rw[hw.FP];exact p)⟩;refine Qu (e:=3) (m:=1) hS39 E Z Z Z Z (fun cg b0 a1 b6 a2=>?_);obtain rfl:=a2;refine O Z (QF aq a1 Z Z) Z<|OO 7 Z<|O Z (eo (e:=3) (m:=1) Y Y Z Z d) Z<|O Z (ay Z aq.aQ.aQ.g0 Y<|jZ A (by first | omega | rfl)) Z<|vQ 1 Z<|O Z (eo (e:=3) (m:=1) Y Y Z Z d) Z ?_;refine cC aq (.cM (.cM .here)) Z (aL Z Z (show _=some [gI (g+1)] from congrArg (fun z=>some [V.int .i64 z]) (bg (by have h1:=hw.gone a g A;rw[qT l] at h1;have:=Ca ag a;omega))) aq.aQ.aQ.g0 (m:=1) Y Z (by rw[lM_];rw[hw.rJ];omega) Z (cells':=((s.gone).set a (g+1)).map (gI)) (fb (f:=gI) (v:=(g+1)) (by rw[hw.rJ];exact d) (by first | omega | rfl))) Z (fun U aq=>?_);refine On 8 Z<|bf Z (Qz Z Z Z) (fun _=>Z) (NF hG _ _ aq) (fun U aq=>?_);refine PZ 3 Z<|O Z (eo (e:=5) (m:=1) Y Y Z Z p) Z<|O Z (ay Z aq.aQ.aQ.pop.g0 Y<|jZ hv (by first | omega | rfl)) Z<|Pv 4 Z<|aE Z (fun aa=>?_) (fun aa=>?_)
  ·refine bx<|aZ<|aT ?_;replace aq:=aq.weaken (KP.bX _ _);have hd:=Dy A X (by rw[hv];exact congrArg some<|iJ_<|eqv aa);obtain⟨o,aI,a0⟩:=nU hw hN h hd;refine aO ⟨j6-1,by have:1<=j6:=(by unfold jr at F;omega);omega,oF,_,u9,u8,Mp,Mo,o,by omega,by omega,by rw[he,show j6+1=(j6-1+1)+1 from by omega];exact wc h hd,hOut,Q,Z,Z,aq⟩
  refine Ol 7 Z<|O Z (eo (e:=5) (m:=1) Y Y Z Z p) Z<|O Z (ay Z aq.aQ.aQ.pop.g0 Y<|jZ hv (by first | omega | rfl)) Z<|Pv 3 Z<|aE Z (fun ab=>?_) (fun ab=>?_)
  ·refine PX 7 Z<|aw<|aF<|bz<|aF<|aw (?_);have r:fT c=none:=by rw[hO,he];exact H6 h<|Dw A X (by rw[hv];exact congrArg some<|iJ_<|eqv ab)
   replace aq:=aq.weaken (KP.bX _ _);exact bV Z Z Z ⟨_,[],by rw[r];rfl,by rw[r];exact .inl ⟨Z,Z,Z⟩,aq.aQ.aQ.pop.pop.pop⟩
  refine OK 6 Z (O Z (eo (e:=5) (m:=1) Y Y Z Z p) Z (cC aq (.cM (.cM (.there .here))) Z (aL Z Z Z aq.aQ.aQ.pop.g0 (m:=1) Y Z (by rw[lM_];rw[hw.FP];omega) Z (cells':=((s.st).set to 1).map (gS))<|fb (f:=gS) (v:=1) (by rw[hw.FP];exact p) (by first | omega | rfl)) Z (fun U aq=>?_)));refine Pw 5 Z<|gT aq Z (bY (e:=3) (m:=1) (z:=[T]) (cs:=[_]) Y Y Y Y<|bD Z Z Z Z bJ) (fun _=>Z) (fun U b5 aq=>?_);replace aq:=aq.DL;obtain⟨U,bi,bl,n,hP2,aq⟩:=qg (P:=Tryz.prog) (ts:= #[34,34]) (t:=34) (e:=3) (l2:=[Int.ofNat to]) Q aq (fK (xs:=[Int.ofNat to]) (.inr ⟨Z,Z⟩) (by simp)) dy.leaf (by simp) (by simp) (by rw[iC];omega) Z Y Y Y;replace aq:=aq.front;rw[show s.path.map Int.ofNat++[Int.ofNat to]=(s.path++[to]).map Int.ofNat from by rw[List.map_append];rfl] at hP2;refine O Z (dM Z Z Z Z Y n) Z<|PY 2 Z<|aJ ?_;replace aq:=aq.weaken (KP.bX _ _);have hd:=Dx A X hv (DC (b:=2) aa) (DC (b:=1) ab);obtain⟨o,aI,a0⟩:=nU hw hN h hd;refine aO ⟨j6-1,by have:1<=j6:=(by unfold jr at F;omega);omega,oF,_,bi,u8,bl,Mo,o,by omega,by omega,by rw[he,show j6+1=(j6-1+1)+1 from by omega];exact wc h hd,hOut,hP2,Z,Z,aq⟩
 refine OR 5 Z<|bc<|aT<|PX 8 Z ?_;have x:fT c=some s.out:=by rw[hO,he];exact KD (by have:=bC (a:=0) R;rw[iC] at this;omega)
 exact bV Z Z Z ⟨u8,Mo,by rw[x];rfl,by rw[x];exact hOut,aq.sub<|dH (.trans (.cons _ (.cons _ (.cons _ (.refl _))))<|List.sublist_append_right _ _)⟩
theorem Nw {G:Cx} (b:Plain G) {K:KP} (d:rh G K) {k:Nat} {c:XC} {v:V} (f:bR K 6 (iI K k) c.ins v) {U:D} {L:Own} (aq:J U K L):
  bk Tryz.prog G 111 [.agg [.int .i64 c.aY,v]] U fun v U'=>v= .bool (jn k c)/\J U' K L:=by
 refine PS b Tryz.func111 Z<|Pt 2 Z<|kp aq Z (cz Z Z) (fun U b1 aq=>?_);refine On 6 Z<|O Z (QC Z aq.g0 (n:=2) (vs:=[_,_]) Z) Z<|bf Z (Qz Z Z Z) (fun _=>Z) (zm b d f aq) (fun U aq=>?_);refine Pv 3 Z<|aE Z (fun a=>?_) (fun a=>?_)
 ·refine Pu 7 Z ?_;exact aA Z Z ⟨cB (by unfold jn;rw[show aX (I (dq k c) 0)=true from a];rfl),aq.pop⟩
 have e:dq k c=0:=eqv (bj a);refine OK 4 Z<|O Z (QC Z aq.g0 (n:=2) (vs:=[_,_]) Z) Z<|cH Z (Qz Z Z Z) (fun _=>Z) (JU b (Dn e) f aq) ?_;rintro _ U ⟨aa,ab,rfl,hM10,aq⟩;refine Px 14 Z ?_;exact aA Z Z ⟨cB (by unfold jn;rw[show aX (I (dq k c) 0)=false from a];rfl),aq.aQ.pop⟩
abbrev gZ (n:Int):V:=.int .i64 n
theorem mb {G:Cx} (c:Plain G) {K:KP} (b:Bool) {U:D} {L:Own} (aq:J U K L):bk Tryz.prog G 259 [.bool b] U fun v U'=>v= .int .i64 (pj b)/\J U' K L:=by
 refine PS c Tryz.func259 Z<|Ps 11 Z<|aE Z (fun a=>?_) (fun a=>?_)
 ·refine Pu 7 Z ?_;exact aA Z Z ⟨by rw[a];rfl,aq⟩
 refine Pu 8 Z ?_;exact aA Z Z ⟨by rw[a];rfl,aq⟩
theorem Mf {G:Cx} (c:Plain G) {K:KP} (op a:Int) {U:D} {L:Own} (aq:J U K L):bk Tryz.prog G 225 [.int .i64 op,.int .i64 a] U fun v U'=>v= .int .i64 (pE op a)/\J U' K L:=by
 refine PS c Tryz.func225 Z<|Ps 12 Z<|aE Z (fun b=>?_) (fun b=>?_)
 ·refine Pt 3 Z ?_;refine O Z (ek (j:=.i64) (k:=.u64) Y Y Y Z) Z ?_;refine vQ 1 Z ?_;refine O Z (ek (j:=.u64) (k:=.i64) Y Y Y Z) Z ?_;refine OQ 5 Z ?_;exact aA Z Z ⟨cJ (by unfold pE;rw[b];rfl),aq⟩
 refine OK 6 Z<|bf Z (Qz Z Z Z) (fun _=>Z) (mb c _ aq) (fun U aq=>?_);refine Px 4 Z ?_;exact aA Z Z ⟨cJ (by unfold pE;rw[b];rfl),aq⟩
theorem JW {G:Cx} (n:Plain G) {K:KP} (op a b:Int) {U:D} {L:Own} (aq:J U K L):bk Tryz.prog G 226 [.int .i64 op,.int .i64 a,.int .i64 b] U fun v U'=>v= .int .i64 (iA op a b)/\J U' K L:=by
 refine PS n Tryz.func226 Z<|Pt 8 Z ?_;refine O Z (ek (j:=.i64) (k:=.u64) Y Y Y Z) Z ?_;refine vQ 1 Z ?_;refine O Z (ek (j:=.i64) (k:=.u64) Y Y Y Z) Z ?_;refine Om 11 Z<|Pt 2 Z<|ky Z (az Z Z Z) (fun c=>?_) (fun c=>?_)
 ·refine OO 8 Z<|ky Z (an Z) (fun p=>?_) (fun p=>?_)
  ·refine PZ 3 Z<|bf Z (Qz Z Z Z) (fun _=>Z) (mb n _ aq) (fun U aq=>?_);refine Px 4 Z<|aF<|aw (?_);exact aA Z Z ⟨cJ (by unfold iA;simp only[c,ct,cf];simp only[aX];simp only[p,ct,cf]),aq⟩
  refine PZ 3 Z<|bf Z (Qz Z Z Z) (fun _=>Z) (mb n _ aq) (fun U aq=>?_);refine Px 4 Z<|aF<|aw (?_);exact aA Z Z ⟨cJ (by unfold iA;simp only[c,ct,cf];simp only[aX];simp only[p,ct,cf]),aq⟩
 refine OO 6 Z<|ky Z (az Z Z Z) (fun d=>?_) (fun d=>?_)
 ·refine OO 8 Z<|ky Z (an Z) (fun q=>?_) (fun q=>?_)
  ·refine PZ 3 Z<|bf Z (Qz Z Z Z) (fun _=>Z) (mb n _ aq) (fun U aq=>?_);refine Px 4 Z<|aF<|aw (?_);exact aA Z Z ⟨cJ (by unfold iA;simp only[c,d,ct,cf];simp only[aX];simp only[q,ct,cf]),aq⟩
  refine PZ 3 Z<|bf Z (Qz Z Z Z) (fun _=>Z) (mb n _ aq) (fun U aq=>?_);refine Px 4 Z<|aF<|aw (?_);exact aA Z Z ⟨cJ (by unfold iA;simp only[c,d,ct,cf];simp only[aX];simp only[q,ct,cf]),aq⟩
 refine OO 6 Z<|ky Z (az Z Z Z) (fun e=>?_) (fun e=>?_)
 ·refine OO 9 Z<|bf Z (Qz Z Z Z) (fun _=>Z) (mb n _ aq) (fun U aq=>?_);refine Px 4 Z<|aF<|aw (?_);exact aA Z Z ⟨cJ (by unfold iA;simp only[c,d,e,ct,cf]<;>rfl),aq⟩
 refine OO 6 Z<|ky Z (az Z Z Z) (fun f=>?_) (fun f=>?_)
 ·refine OO 9 Z<|bf Z (Qz Z Z Z) (fun _=>Z) (mb n _ aq) (fun U aq=>?_);refine Px 4 Z<|aF<|aw (?_);exact aA Z Z ⟨cJ (by unfold iA;simp only[c,d,e,f,ct,cf]<;>rfl),aq⟩
 refine OO 6 Z<|ky Z (az Z Z Z) (fun g=>?_) (fun g=>?_)
 ·refine OO 9 Z<|bf Z (Qz Z Z Z) (fun _=>Z) (mb n _ aq) (fun U aq=>?_);refine Px 4 Z<|aF<|aw (?_);exact aA Z Z ⟨cJ (by unfold iA;simp only[c,d,e,f,g,ct,cf]<;>rfl),aq⟩
 refine OO 6 Z<|ky Z (az Z Z Z) (fun h=>?_) (fun h=>?_)
 ·refine OO 9 Z<|bf Z (Qz Z Z Z) (fun _=>Z) (mb n _ aq) (fun U aq=>?_);refine Px 4 Z<|aF<|aw (?_);exact aA Z Z ⟨cJ (by unfold iA;simp only[c,d,e,f,g,h,ct,cf]<;>rfl),aq⟩
 refine OO 6 Z<|ky Z (az Z Z Z) (fun i=>?_) (fun i=>?_)
 ·refine OO 9 Z ?_;refine O Z (ek (j:=.u64) (k:=.i64) Y Y Y Z) Z ?_;refine Px 4 Z<|aF<|aw (?_);exact aA Z Z ⟨cJ (by unfold iA;simp only[c,d,e,f,g,h,i,ct,cf]<;>rfl),aq⟩
 refine OO 6 Z<|ky Z (az Z Z Z) (fun l=>?_) (fun l=>?_)
 ·refine OO 9 Z ?_;refine O Z (ek (j:=.u64) (k:=.i64) Y Y Y Z) Z ?_;refine Px 4 Z<|aF<|aw (?_);exact aA Z Z ⟨cJ (by unfold iA;simp only[c,d,e,f,g,h,i,l,ct,cf]<;>rfl),aq⟩
 refine OO 6 Z<|ky Z (az Z Z Z) (fun m=>?_) (fun m=>?_)
 ·refine OO 9 Z ?_;refine O Z (ek (j:=.u64) (k:=.i64) Y Y Y Z) Z ?_;refine Px 4 Z<|aF<|aw (?_);exact aA Z Z ⟨cJ (by unfold iA;simp only[c,d,e,f,g,h,i,l,m,ct,cf]<;>rfl),aq⟩
 refine OO 6 Z<|ky Z (az Z Z Z) (fun o=>?_) (fun o=>?_)
 ·refine OO 9 Z ?_;refine O Z (ek (j:=.u64) (k:=.i64) Y Y Y Z) Z ?_;refine Px 4 Z<|aF<|aw (?_);exact aA Z Z ⟨cJ (by unfold iA;simp only[c,d,e,f,g,h,i,l,m,o,ct,cf]<;>rfl),aq⟩
 refine OO 6 Z<|ky Z (az Z Z Z) (fun r=>?_) (fun r=>?_)
 ·refine OO 9 Z ?_;refine O Z (ek (j:=.u64) (k:=.i64) Y Y Y Z) Z ?_;refine Px 4 Z<|aF<|aw (?_);exact aA Z Z ⟨cJ (by unfold iA;simp only[c,d,e,f,g,h,i,l,m,o,r,ct,cf]<;>rfl),aq⟩
 refine OP 6 Z<|Pt 5 Z ?_;refine O Z (ek (j:=.u64) (k:=.i64) Y Y Y Z) Z ?_;refine Px 4 Z ?_;exact aA Z Z ⟨cJ (by unfold iA;simp only[c,d,e,f,g,h,i,l,m,o,r,ct,cf]<;>rfl),aq⟩
theorem PN {G:Cx} (E:Plain G) {K:KP} {l:List Int} {v:V} (r:bR K 1 dy l v) (op:Int) {U:D} {L:Own} (aq:J U K L):bk Tryz.prog G 168 [.int .i64 op,v] U fun v U'=>v= .tuple [.int .i64 (jl op l).1,.int .i64 (jl op l).2]/\J U' K L:=by
 refine PS E Tryz.func168 Z<|OH 8 Z<|Pt 4 Z<|ky Z (an Z) (fun p=>?_) (fun p=>?_)
 ·refine PZ 5 Z<|O Z (QD r Z Z Z (e:=2) Z) Z<|Pv 5 Z<|aE Z (fun q=>?_) (fun q=>?_)
  ·refine Pt 4 Z ?_;obtain⟨C,i⟩:=cm (show 0<l.length from by have:=iJ_ (eqv (b:=.ofNat 1) q);omega);refine Qu (e:=2) (m:=1) r i Z Z Z Z (fun W F s M t=>?_);obtain rfl:=t;refine O Z (QF aq s Z Z) Z<|bf Z (Qz Z Z Z) (fun _=>Z) (Mf E _ _ aq) (fun U aq=>?_);refine Px 5 Z<|aF<|aw (?_);exact bV Z Z Z ⟨by rw[show jl op l=(pE op C,0) from by unfold jl;simp only[aX];simp only[p,q,ct];rw[i]<;>rfl],aq⟩
  refine Pt 4 Z<|ky Z (an Z) (fun a=>?_) (fun a=>?_)
  ·refine PZ 3 Z<|ky Z (an Z) (fun c=>?_) (fun c=>?_)
   ·refine vQ 1 Z<|O Z (QD r Z Z Z (e:=2) Z) Z<|Pv 5 Z<|aE Z (fun d=>?_) (fun d=>?_)
    ·refine ak<|aS (l:=zp [0,1,2,3,4,5,6,7,8,9]) Y Y<|P1 2 Z ?_;have P:l.length=2:=iJ_ (eqv (b:=.ofNat 2) d);obtain⟨u,f⟩:=cm (show 0<l.length from by omega);obtain⟨w,g⟩:=cm (show 1<l.length from by omega);refine Qv (e:=2) (m:=1) r f Z Z Z Z Z (fun Q x j y k=>?_);obtain rfl:=k;refine al Z Z (QF aq j Z Z) Z<|wQ 1 Z<|Qv (e:=2) (m:=1) r g Z Z Z Z Z (fun R z n A o=>?_);obtain rfl:=o;refine al Z Z (QF aq n Z Z) Z<|cA Z Z (Qz Z Z Z) (fun _=>Z) (JW E _ _ _ aq) (fun U aq=>?_);refine⟨aV,?_⟩;refine Pz 5 Z<|aF<|aw (?_);exact bV Z Z Z ⟨by rw[show jl op l=(iA op u w,0) from by unfold jl;simp only[aX];simp only[p,q,a,c,d,ct,cf];rw[f,g]<;>rfl],aq⟩
    refine aG<|aJ<|PX 7 Z ?_;exact bV Z Z Z ⟨by rw[show jl op l=(0,2) from by unfold jl;simp only[aX];simp only[p,q,a,c,d,ct,cf]]<;>rfl,aq⟩
   refine OP 10 Z<|PX 7 Z ?_;exact bV Z Z Z ⟨by rw[show jl op l=(0,2) from by unfold jl;simp only[aX];simp only[p,q,a,c,ct,cf]]<;>rfl,aq⟩
  refine OP 14 Z<|PX 7 Z ?_;exact bV Z Z Z ⟨by rw[show jl op l=(0,2) from by unfold jl;simp only[aX];simp only[p,q,a,ct,cf]]<;>rfl,aq⟩
 refine PZ 3 Z<|ky Z (an Z) (fun h=>?_) (fun h=>?_)
 ·refine vQ 1 Z<|O Z (QD r Z Z Z (e:=2) Z) Z<|Pv 5 Z<|aE Z (fun q=>?_) (fun q=>?_)
  ·refine Pt 4 Z ?_;obtain⟨C,i⟩:=cm (show 0<l.length from by have:=iJ_ (eqv (b:=.ofNat 1) q);omega);refine Qu (e:=2) (m:=1) r i Z Z Z Z (fun W F s M t=>?_);obtain rfl:=t;refine O Z (QF aq s Z Z) Z<|bf Z (Qz Z Z Z) (fun _=>Z) (Mf E _ _ aq) (fun U aq=>?_);refine Px 5 Z<|aF<|aw (?_);exact bV Z Z Z ⟨by rw[show jl op l=(pE op C,0) from by unfold jl;simp only[aX];simp only[p,h,q,ct];rw[i]<;>rfl],aq⟩
  refine Pt 4 Z<|ky Z (an Z) (fun a=>?_) (fun a=>?_)
  ·refine PZ 3 Z<|ky Z (an Z) (fun c=>?_) (fun c=>?_)
   ·refine vQ 1 Z<|O Z (QD r Z Z Z (e:=2) Z) Z<|Pv 5 Z<|aE Z (fun d=>?_) (fun d=>?_)
    ·refine ak<|aS (l:=zp [0,1,2,3,4,5,6,7,8,9]) Y Y<|P1 2 Z ?_;have P:l.length=2:=iJ_ (eqv (b:=.ofNat 2) d);obtain⟨u,f⟩:=cm (show 0<l.length from by omega);obtain⟨w,g⟩:=cm (show 1<l.length from by omega);refine Qv (e:=2) (m:=1) r f Z Z Z Z Z (fun Q x j y k=>?_);obtain rfl:=k;refine al Z Z (QF aq j Z Z) Z<|wQ 1 Z<|Qv (e:=2) (m:=1) r g Z Z Z Z Z (fun R z n A o=>?_);obtain rfl:=o;refine al Z Z (QF aq n Z Z) Z<|cA Z Z (Qz Z Z Z) (fun _=>Z) (JW E _ _ _ aq) (fun U aq=>?_);refine⟨aV,?_⟩;refine Pz 5 Z<|aF<|aw (?_);exact bV Z Z Z ⟨by rw[show jl op l=(iA op u w,0) from by unfold jl;simp only[aX];simp only[p,h,q,a,c,d,ct,cf];rw[f,g]<;>rfl],aq⟩
    refine aG<|aJ<|PX 7 Z ?_;exact bV Z Z Z ⟨by rw[show jl op l=(0,2) from by unfold jl;simp only[aX];simp only[p,h,q,a,c,d,ct,cf]]<;>rfl,aq⟩
   refine OP 10 Z<|PX 7 Z ?_;exact bV Z Z Z ⟨by rw[show jl op l=(0,2) from by unfold jl;simp only[aX];simp only[p,h,q,a,c,ct,cf]]<;>rfl,aq⟩
  refine OP 14 Z<|PX 7 Z ?_;exact bV Z Z Z ⟨by rw[show jl op l=(0,2) from by unfold jl;simp only[aX];simp only[p,h,q,a,ct,cf]]<;>rfl,aq⟩
 refine OO 12 Z<|ky Z (an Z) (fun a=>?_) (fun a=>?_)
 ·refine PZ 3 Z<|ky Z (an Z) (fun c=>?_) (fun c=>?_)
  ·refine vQ 1 Z<|O Z (QD r Z Z Z (e:=2) Z) Z<|Pv 5 Z<|aE Z (fun d=>?_) (fun d=>?_)
   ·refine ak<|aS (l:=zp [0,1,2,3,4,5,6,7,8,9]) Y Y<|P1 2 Z ?_;have P:l.length=2:=iJ_ (eqv (b:=.ofNat 2) d);obtain⟨u,f⟩:=cm (show 0<l.length from by omega);obtain⟨w,g⟩:=cm (show 1<l.length from by omega);refine Qv (e:=2) (m:=1) r f Z Z Z Z Z (fun Q x j y k=>?_);obtain rfl:=k;refine al Z Z (QF aq j Z Z) Z<|wQ 1 Z<|Qv (e:=2) (m:=1) r g Z Z Z Z Z (fun R z n A o=>?_);obtain rfl:=o;refine al Z Z (QF aq n Z Z) Z<|cA Z Z (Qz Z Z Z) (fun _=>Z) (JW E _ _ _ aq) (fun U aq=>?_);refine⟨aV,?_⟩;refine Pz 5 Z<|aF<|aw (?_);exact bV Z Z Z ⟨by rw[show jl op l=(iA op u w,0) from by unfold jl;simp only[aX];simp only[p,h,a,c,d,ct,cf];rw[f,g]<;>rfl],aq⟩
   refine aG<|aJ<|PX 7 Z ?_;exact bV Z Z Z ⟨by rw[show jl op l=(0,2) from by unfold jl;simp only[aX];simp only[p,h,a,c,d,ct,cf]]<;>rfl,aq⟩
  refine OP 10 Z<|PX 7 Z ?_;exact bV Z Z Z ⟨by rw[show jl op l=(0,2) from by unfold jl;simp only[aX];simp only[p,h,a,c,ct,cf]]<;>rfl,aq⟩
 refine OP 14 Z<|PX 7 Z ?_;exact bV Z Z Z ⟨by rw[show jl op l=(0,2) from by unfold jl;simp only[aX];simp only[p,h,a,ct,cf]]<;>rfl,aq⟩
theorem NB {G:Cx} (F:Plain G) {K:KP} {s:List Nat} {n:Nat} (M:iG s=some n) {U:D} {L:Own} (aq:J U K L):bk Tryz.prog G 223 [.str s] U fun v U'=>v= .tuple [.int .i64 (.ofNat n),.nilIface]/\J U' K L:=by
 obtain⟨w,aa,f⟩:=xp M;have ab:cX s=s.length:=bK s;obtain⟨c0,d⟩:=cm w;have hd0:=(H7 (i:=0) f d).1;refine PS F Tryz.func223 Z<|Pt 9 Z<|O Z (ij Z Z Z Y Z) Z<|On 18 Z<|ky Z (an Z) (fun h=>?_) (fun h=>?_)
 ·refine Pv 7 Z<|aE Z (fun l=>?_) (fun l=>?_)
  ·refine OI 10 Z<|O Z (fw Y Z Z d) Z<|vQ 1 Z<|ky Z (an Z) (fun o=>?_) (fun o=>?_)
   ·exact absurd (iJ_<|eqv (b:=.ofNat 45) o) B
   refine vQ 1 Z<|O Z (fw Y Z Z d) Z<|Pv 4 Z<|aE Z (fun p=>?_) (fun p=>?_)
   ·exact absurd (iJ_<|eqv (b:=.ofNat 43) p) B
   refine Ol 11 Z<|Ja aq Z (LQ (e:=5) Y Y Y Y Y Z) (fun _=>Z) (fun U b1 aq=>?_);refine O Z (rQ Z Z Z (e:=5) Y Z) Z<|OM 4 Z ?_;obtain⟨LL1,aq,hLL1⟩:=aq.named;refine bp ([2,3,6,8]++rg 49 15) (fun j t U=>∃(i m:Nat),j+i=cX s/\ny (s.drop i) m=some n/\m<10 ^ i/\i<=4/\t.get 6=some (.int .i64 (.ofNat m))/\t.get 49=some (.int .i64 (.ofNat i))/\J U K LL1) (cX s) ⟨0,0,Z,f,Nat.one_pos,Nat.zero_le _,Z,Z,aq⟩ ?_;clear aq;intro x t U ar P;obtain⟨i,m,hj,he,hm,y,z,q,aq⟩:=P;subst hLL1;obtain⟨oo,rfl⟩:=ar.q2 z q Z;refine Ps 6 Z<|aE Z (fun c=>?_) (fun c=>?_)
   ·refine NP 6 Z ?_;obtain⟨A,g⟩:=cm (show i<s.length from by have:=bu c;omega);obtain⟨E,C⟩:=H7 he g;refine O Z (eo (e:=5) (m:=1) Y Y Z Z<|bu c) Z<|O Z (ay Z aq.g0 Y<|jZ g (by first | omega | rfl)) Z<|ON 17 Z<|aE Z (fun r=>?_) (fun r=>?_)
    ·exact absurd (r.symm.trans<|ML E) (by decide)
    refine aG<|ad<|ai Z<|PZ 3 Z ?_;refine O Z (ek (j:=.u8) (k:=.i64) Y Y Y Z) Z ?_;refine PY 3 Z (aJ (PW 4 Z (aO ⟨x-1,by have:=bu c;omega,oF,i+1,10*m+(A-48),by have:=bu c;omega,C,by rw[Nat.pow_succ];omega,by have:=bu c;omega,cI<|H8 E (by have:=xj i y;omega),cI<|bg B,aq⟩)))
   refine OL 3 Z<|aT<|OI 4 Z<|O Z (fw Y Z Z d) Z<|Pv 3 Z<|aE Z (fun u=>?_) (fun u=>?_)
   ·exact absurd (iJ_<|eqv (b:=.ofNat 45) u) B
   refine Pu 10 Z<|aw (?_);exact bV Z Z Z ⟨by rw[show m=n from by rw[pP (by have:=bC c;omega)] at he;exact Option.some.inj he],aq.pop⟩
  exact absurd (bC (b:=19) l) B
 exact absurd (bC (a:=0) h) B
theorem Nt {G:Cx} (a:Plain G) {K:KP} {s:List Nat} {n:Nat} (b:iG s=some n) {U:D} {L:Own} (aq:J U K L):bk Tryz.prog G 167 [.str s] U fun v U'=>v= .tuple [.int .i64 (.ofNat n),.nilIface]/\J U' K L:=by
 refine PS a Tryz.func167 Z<|Pt 9 Z<|bf Z (Qz Z Z Z) (fun _=>Z) (NB a b aq) (fun U aq=>?_);refine On 11 Z ?_;refine O Z (bn (v:=.bool false) Z Y) Z ?_;refine OQ 13 Z ?_;exact bV Z Z Z ⟨Z,aq⟩
theorem uU {aY:Int} {k:Nat} {op num:Int} {name:List Nat} {kids:List XE} (h:ea aY (k+1) (.mk op num name kids)=true) (d:I op 1=false) (e:I op 2=false):kids.length<=2/\∀x∈kids,ea aY k x=true:=by
 unfold ea at h;rw[d,e] at h;simp only[cf] at h;generalize aa:(bif (bif I op 3 then true else I op 4) then false else(bif bU op 5 then true else bU 16 op))=f at h;cases f with
 | true=>cases h
 | false=>
  simp only[cf] at h;generalize a:(bif aX (I num 0) then true else bif aX (gL name []) then true else aX (I (.ofNat kids.length)<|fQ op))=g at h;cases g with
  | true=>cases h
  | false=>
   simp only[cf] at h;refine⟨?_,aE_.1 h⟩;cases b:aX (I num 0) with
   | true=>rw[b] at a;cases a
   | false=>
   cases c:aX (gL name []) with
   | true=>rw[b,c] at a;cases a
   | false=>
   rw[b,c] at a;have h3:(kids.length:Int)=fQ op:=eqv (bj a);have h4:fQ op<=2:=by unfold fQ;generalize (bif I op 3 then true else I op 4)=q;cases q<;>decide
   omega
theorem xu {aY:Int} {k:Nat} {op num:Int} {name:List Nat} {kids:List XE} (h:ea aY (k+1) (.mk op num name kids)=true) (c:I op 1=false) (d:I op 2=true):∃n,iG name=some n/\(n:Int)<aY:=by
 unfold ea at h;rw[c,d] at h;simp only[cf,ct] at h;cases b:iG name with
 | none=>rw[b] at h;cases h
 | some n=>
  rw[b] at h;dsimp only at h;refine⟨n,Z,?_⟩;cases a:bU (.ofNat n) aY with
  | false=>rw[a] at h;cases h
  | true=>rw[eP,decide_eq_true_iff] at a;exact a
theorem AE {G:Cx} (E:Plain G) {K:KP} {aY:List Int} {rn:Int} (ap:rn<=aY.length) {regv:V} (p:bR K 1 dy aY regv) {tb et:Nat} {ro:Bool} {c0 c1 c2 c4 c5 c6 c7:V} (ht:K tb (.row [c0,c1,c2,regv,c4,c5,c6,c7] et ro)):
  ∀(k:Nat) (x:XE) (vs:List V),ey K k x vs->ea rn k x=true->∀(U:D) (L:Own),J U K L->bk Tryz.prog G 116 [.ptr tb 0,.agg vs] U fun v U'=>v= .int .i64 (eJ aY k x)/\J U' K L:=by
 intro k;induction k with
 | zero=>intro x vs h;cases x;exact h.elim
 | succ k ih=>
 intro x vs h R U L aq;obtain⟨op,num,name,kids⟩:=x;obtain⟨v,rfl,C⟩:=h;have W:eJ aY (k+1) (.mk op num name kids)=bif I op 1 then num else bif I op 2 then(aY[(iG name).getD 0]?).getD 0 else Pe op (kids.map<|eJ aY k):=rfl;rw[W];clear W;obtain⟨F,X⟩:∃F:XE->Int,F=eJ aY k:=⟨_,Z⟩;rw[<-X];refine PS E Tryz.func116 Z<|Pt 2 Z<|kp aq Z (cz Z Z) (fun U b1 aq=>?_);refine OW aq 10 [0,0] Z Z<|aN<|Pt 2 Z<|ky Z (az Z Z Z) (fun b=>?_) (fun b=>?_)
 ·refine PF aq 12 [1,0] Z Z<|aF<|aw (?_);exact aA Z Z ⟨cJ (by rw[b];rfl),aq.pop⟩
 refine OO 6 Z<|ky Z (az Z Z Z) (fun c=>?_) (fun c=>?_)
 ·refine OX aq 8 [2,0] Z Z ?_;obtain⟨rg,q,aa⟩:=xu R b c;refine bf Z (Qz Z Z Z) (fun _=>Z) (Nt E q aq) (fun U aq=>?_);refine OO 10 Z<|O Z (eW Z) Z<|O Z (QA 3 Z) Z<|O Z (QB Z (aq.fq ht) Z) Z<|vQ 1 Z ?_;obtain⟨P,l⟩:=cm (show rg<aY.length from by omega);refine Qu (e:=2) (m:=1) p l Z Z Z Z (fun aI ab r ac s=>?_);obtain rfl:=s;refine O Z (QF aq r Z Z) Z<|Px 4 Z<|aF<|aw (?_);exact aA Z Z ⟨cJ (by rw[b,c,q];show P=(aY[rg]?).getD 0;rw[l];rfl),aq.pop⟩
 refine OP 6 Z<|PA aq 4 [3,0] Z Z<|O Z (QD C Z Z Z (e:=82) Z) Z ?_;obtain⟨a0,Q⟩:=uU R b c;refine gT aq Z (k9 (e:=2) (w:=8) (z:=[gZ 0]) Y Y Y Y Z Z B B) (fun _=>Z) (fun U b2 aq=>?_);rw[iT (f:=gZ)] at aq;rw[<-wq F kids] at aq;refine Ou aq 8 [3,1] Z Z (O Z (QD C Z Z Z (e:=82) Z) Z (OM 4 Z (bp ([8,9]++rg 40 12) (fun j t U=>∃(i:Nat),j+i=kids.length/\t.get 40=some (.int .i64 (.ofNat i))/\J U K ((b2,.row ((nf F kids i).map gZ) 2 false)::(b1,.row [.int .i64 op,.int .i64 num,.str name,v] 82 false)::L)) (kids.length) ⟨0,Z,Z,aq⟩ ?_)));clear aq;intro j9 t U ar hI;obtain⟨i,a1,u,aq⟩:=hI;obtain⟨oo,rfl⟩:=ar.q1 u Z;refine Pt 2 Z<|ky Z (az Z Z Z) (fun a=>?_) (fun a=>?_)
 ·refine Om 8 Z<|Pt 3 Z ?_;obtain⟨d,g,ag⟩:=cL a;refine Qu (e:=82) (m:=4) C g Z Z Z Z (fun a2 am y ao o=>?_);have hr43raw:=o;obtain⟨a3,a4,a5,a6,rfl,A⟩:=o.shape;refine O Z (QG aq y Z Z) Z<|kp aq Z (cP (cs:=[T,T,.str [],.ax]) Y Y) (fun U b3 aq=>?_);refine vQ 1 Z<|bO aq Z (QH Z Z Z aq.g0 (m:=4) Z (ah Z<|ah Z<|ah Z<|ah A.leaf.2 aC) (cells':=[_,_,_,_]) Z) Z (fun U aq=>?_);refine Pw 6 Z<|O Z (QC Z aq.g0 (n:=4) (vs:=[_,_,_,_]) Z) Z<|bf Z (Qz Z Z Z) (fun _=>Z) (ih d _ hr43raw (Q d<|gB_ g) _ _ aq) (fun U aq=>?_);refine O Z (eo (e:=2) (m:=1) Y Y Z Z<|bu a) Z ?_;refine cC aq (.there .here) Z (aL Z Z (show _=some [gZ<|F d] from by rw[X];rfl) aq.g1 (m:=1) Y Z (by rw[lM_];rw[qK (by have:=bu a;omega)];have:=bu a;omega) Z (cells':=((nf F kids i).set i<|F d).map (gZ)) (fb (f:=gZ) (v:=(F d)) (by rw[qK (by have:=bu a;omega)];exact bu a) (by first | omega | rfl))) Z (fun U aq=>?_);rw[yO g] at aq;refine af<|aJ<|PW 4 Z ?_;have aq:=aq.pop;refine aO ⟨j9-1,by omega,oF,i+1,by omega,cI<|bg (by have:=C.bG;omega),aq⟩
 refine ON 4 Z<|OL 3 Z<|aT<|PA aq 5 [0,1] Z Z ?_;rw[yN<|bC a] at aq;have hq:=aq.keeps (M:=[_]);refine bf Z (aR Z Z (show _=some [V.int .i64 op,V.slice b2 0 (kids.map F).length (.known (kids.map F).length)] from by rw[lM_];rfl) Y) (fun _=>Z) (Dj<|PN E (fK (xs:=kids.map F) (KP.gF 0 Z) (by rw[lM_];omega)) op hq) (fun U aq=>?_);clear hq;refine Px 14 Z ?_;exact aA Z Z ⟨cJ (by rw[b,c];rfl),aq.pop⟩
theorem Gk {G:Cx} (e:Plain G) {K:KP} {k:Nat} {c:XC} {cv:V} (g:bR K 6 (iI K k) c.ins cv) (d:mn k c) (h:um k c) {U:D} {L:Own} (aq:J U K L):
  bk Tryz.prog G 157 [.agg [.int .i64 c.aY,cv]] U fun v U'=>∃z,v= .int .i64 z/\(bif bU z 0 then false else true)=jn k c/\J U' K L:=by
 refine PS e Tryz.func157 Z<|Pt 2 Z<|kp aq Z (cz Z Z) (fun U b1 aq=>?_);refine On 6 Z<|O Z (QC Z aq.g0 (n:=2) (vs:=[_,_]) Z) Z<|bf Z (Qz Z Z Z) (fun _=>Z) (v8 e g d h aq) (fun U aq=>?_);refine Pv 3 Z<|aE Z (fun f=>?_) (fun f=>?_)
 ·refine Pu 7 Z ?_;exact aA Z Z ⟨_,Z,by show _=(bif aX (I (dq k c) 0) then false else(fT c).isSome);rw[<-gU d];rw[bT f];rfl,aq.pop⟩
 refine OK 4 Z<|O Z (QC Z aq.g0 (n:=2) (vs:=[_,_]) Z) Z ?_;have a:dq k c=0:=by rw[<-gU d];exact eqv<|bj f
 have hok:=Dn a;refine cH Z (Qz Z Z Z) (fun _=>Z) (Ds e hok a d h g aq) ?_;rintro _ U ⟨r,i,rfl,aq⟩;refine On 11 Z<|O Z (cV Z) Z<|Pv 2 Z<|aE Z (fun b=>?_) (fun b=>?_)
 ·refine Pu 7 Z ?_;exact aA Z Z ⟨_,Z,by show _=(bif aX (I (dq k c) 0) then false else(fT c).isSome);rw[a,<-BL hok i];show _=(bif false then false else _);rw[show(jF (gM c) (fun _=>1) r c.ins.length (c.ins.length+2)<|List.replicate c.ins.length 0).2=false from kA b];rfl,aq.pop⟩
 refine Pu 9 Z ?_;exact aA Z Z ⟨_,Z,by show _=(bif aX (I (dq k c) 0) then false else(fT c).isSome);rw[a,<-BL hok i];show _=(bif false then false else _);rw[show(jF (gM c) (fun _=>1) r c.ins.length (c.ins.length+2)<|List.replicate c.ins.length 0).2=true from eV b,show∀q:Nat,bU (.ofNat q) 0=false from fun q=>B1.2 (show(0:Int)<=Int.ofNat q from Int.natCast_nonneg q)],aq.pop⟩
theorem MB {G:Cx} (a:Plain G) {K:KP} {k:Nat} {c:XC} {cv:V} (b:bR K 6 (iI K k) c.ins cv) (d:mn k c) (e:um k c) {U:D} {L:Own} (aq:J U K L):
  bk Tryz.prog G 103 [.agg [.int .i64 c.aY,cv]] U fun v U'=>v= .bool (jn k c)/\J U' K L:=by
 refine PS a Tryz.func103 Z<|Pt 2 Z<|kp aq Z (cz Z Z) (fun U b1 aq=>?_);refine OO 5 Z<|O Z (QC Z aq.g0 (n:=2) (vs:=[_,_]) Z) Z<|cH Z (Qz Z Z Z) (fun _=>Z) (Gk a b d e aq) ?_;rintro _ U ⟨z,rfl,f,aq⟩;refine Px 5 Z ?_;exact aA Z Z ⟨cB f,aq.pop⟩
theorem kQ {G:Cx} (c:Plain G) {K:KP} (b:Bool) {U:D} {L:Own} (aq:J U K L):bk Tryz.prog G 263 [.bool b] U fun v U'=>v= .int .i64 (pj b)/\J U' K L:=by
 refine PS c Tryz.func263 Z<|Ps 11 Z<|aE Z (fun a=>?_) (fun a=>?_)
 ·refine Pu 7 Z ?_;exact aA Z Z ⟨by rw[a];rfl,aq⟩
 refine Pu 8 Z ?_;exact aA Z Z ⟨by rw[a];rfl,aq⟩
theorem H5 {G:Cx} (n:Plain G) {K:KP} (op a b:Int) {U:D} {L:Own} (aq:J U K L):bk Tryz.prog G 264 [.int .i64 op,.int .i64 a,.int .i64 b] U fun v U'=>v= .int .i64 (iA op a b)/\J U' K L:=by
 refine PS n Tryz.func264 Z<|OH 12 Z<|Pt 2 Z<|ky Z (az Z Z Z) (fun h=>?_) (fun h=>?_)
 ·refine OO 8 Z<|ky Z (an Z) (fun p=>?_) (fun p=>?_)
  ·refine PZ 3 Z<|bf Z (Qz Z Z Z) (fun _=>Z) (kQ n _ aq) (fun U aq=>?_);refine Px 4 Z<|aF<|aw (?_);exact aA Z Z ⟨cJ (by unfold iA;simp only[h,ct,cf];simp only[aX];simp only[p,ct,cf]),aq⟩
  refine PZ 3 Z<|bf Z (Qz Z Z Z) (fun _=>Z) (kQ n _ aq) (fun U aq=>?_);refine Px 4 Z<|aF<|aw (?_);exact aA Z Z ⟨cJ (by unfold iA;simp only[h,ct,cf];simp only[aX];simp only[p,ct,cf]),aq⟩
 refine OO 6 Z<|ky Z (az Z Z Z) (fun c=>?_) (fun c=>?_)
 ·refine OO 8 Z<|ky Z (an Z) (fun q=>?_) (fun q=>?_)
  ·refine PZ 3 Z<|bf Z (Qz Z Z Z) (fun _=>Z) (kQ n _ aq) (fun U aq=>?_);refine Px 4 Z<|aF<|aw (?_);exact aA Z Z ⟨cJ (by unfold iA;simp only[h,c,ct,cf];simp only[aX];simp only[q,ct,cf]),aq⟩
  refine PZ 3 Z<|bf Z (Qz Z Z Z) (fun _=>Z) (kQ n _ aq) (fun U aq=>?_);refine Px 4 Z<|aF<|aw (?_);exact aA Z Z ⟨cJ (by unfold iA;simp only[h,c,ct,cf];simp only[aX];simp only[q,ct,cf]),aq⟩
 refine OO 6 Z<|ky Z (az Z Z Z) (fun d=>?_) (fun d=>?_)
 ·refine OO 9 Z<|bf Z (Qz Z Z Z) (fun _=>Z) (kQ n _ aq) (fun U aq=>?_);refine Px 4 Z<|aF<|aw (?_);exact aA Z Z ⟨cJ (by unfold iA;simp only[h,c,d,ct,cf]<;>rfl),aq⟩
 refine OO 6 Z<|ky Z (az Z Z Z) (fun e=>?_) (fun e=>?_)
 ·refine OO 9 Z<|bf Z (Qz Z Z Z) (fun _=>Z) (kQ n _ aq) (fun U aq=>?_);refine Px 4 Z<|aF<|aw (?_);exact aA Z Z ⟨cJ (by unfold iA;simp only[h,c,d,e,ct,cf]<;>rfl),aq⟩
 refine OO 6 Z<|ky Z (az Z Z Z) (fun f=>?_) (fun f=>?_)
 ·refine OO 9 Z<|bf Z (Qz Z Z Z) (fun _=>Z) (kQ n _ aq) (fun U aq=>?_);refine Px 4 Z<|aF<|aw (?_);exact aA Z Z ⟨cJ (by unfold iA;simp only[h,c,d,e,f,ct,cf]<;>rfl),aq⟩
 refine OO 6 Z<|ky Z (az Z Z Z) (fun g=>?_) (fun g=>?_)
 ·refine OO 9 Z<|bf Z (Qz Z Z Z) (fun _=>Z) (kQ n _ aq) (fun U aq=>?_);refine Px 4 Z<|aF<|aw (?_);exact aA Z Z ⟨cJ (by unfold iA;simp only[h,c,d,e,f,g,ct,cf]<;>rfl),aq⟩
 refine OO 6 Z<|ky Z (az Z Z Z) (fun i=>?_) (fun i=>?_)
 ·refine Px 13 Z<|aF<|aw (?_);exact aA Z Z ⟨cJ (by unfold iA;simp only[h,c,d,e,f,g,i,ct,cf];exact zD _ _ _),aq⟩
 refine OO 6 Z<|ky Z (az Z Z Z) (fun l=>?_) (fun l=>?_)
 ·refine Px 13 Z<|aF<|aw (?_);exact aA Z Z ⟨cJ (by unfold iA;simp only[h,c,d,e,f,g,i,l,ct,cf];exact zD _ _ _),aq⟩
 refine OO 6 Z<|ky Z (az Z Z Z) (fun m=>?_) (fun m=>?_)
 ·refine Px 13 Z<|aF<|aw (?_);exact aA Z Z ⟨cJ (by unfold iA;simp only[h,c,d,e,f,g,i,l,m,ct,cf];exact zD _ _ _),aq⟩
 refine OO 6 Z<|ky Z (az Z Z Z) (fun o=>?_) (fun o=>?_)
 ·refine OO 7 Z ?_;refine O Z (ek (j:=.i64) (k:=.u64) Y Y Y Z) Z ?_;refine vQ 1 Z ?_;refine O Z (ek (j:=.i64) (k:=.u64) Y Y Y Z) Z ?_;refine vQ 1 Z ?_;refine O Z (ek (j:=.u64) (k:=.i64) Y Y Y Z) Z ?_;refine Px 4 Z<|aF<|aw (?_);exact aA Z Z ⟨cJ (by unfold iA;simp only[h,c,d,e,f,g,i,l,m,o,ct,cf]<;>rfl),aq⟩
 refine OO 6 Z<|ky Z (az Z Z Z) (fun r=>?_) (fun r=>?_)
 ·refine OO 7 Z ?_;refine O Z (ek (j:=.i64) (k:=.u64) Y Y Y Z) Z ?_;refine vQ 1 Z ?_;refine O Z (ek (j:=.i64) (k:=.u64) Y Y Y Z) Z ?_;refine vQ 1 Z ?_;refine O Z (ek (j:=.u64) (k:=.i64) Y Y Y Z) Z ?_;refine Px 4 Z<|aF<|aw (?_);exact aA Z Z ⟨cJ (by unfold iA;simp only[h,c,d,e,f,g,i,l,m,o,r,ct,cf]<;>rfl),aq⟩
 refine OP 6 Z<|Pt 3 Z ?_;refine O Z (ek (j:=.i64) (k:=.u64) Y Y Y Z) Z ?_;refine vQ 1 Z ?_;refine O Z (ek (j:=.i64) (k:=.u64) Y Y Y Z) Z ?_;refine vQ 1 Z ?_;refine O Z (ek (j:=.u64) (k:=.i64) Y Y Y Z) Z ?_;refine Px 4 Z ?_;exact aA Z Z ⟨cJ (by unfold iA;simp only[h,c,d,e,f,g,i,l,m,o,r,ct,cf]<;>rfl),aq⟩
theorem Pc {G:Cx} (X:Plain G) {K:KP} {l:List Int} {v:V} (w:bR K 1 dy l v) (op:Int) {U:D} {L:Own} (aq:J U K L):bk Tryz.prog G 236 [.int .i64 op,v] U fun v U'=>v= .tuple [.int .i64 (jl op l).1,.int .i64 (jl op l).2]/\J U' K L:=by
 refine PS X Tryz.func236 Z<|OI 11 Z<|ky Z (an Z) (fun o=>?_) (fun o=>?_)
 ·refine PZ 5 Z<|O Z (QD w Z Z Z (e:=2) Z) Z<|Pv 4 Z<|aE Z (fun a=>?_) (fun a=>?_)
  ·refine Ps 7 Z<|aE Z (fun i=>?_) (fun i=>?_)
   ·refine Pt 3 Z ?_;obtain⟨x,p⟩:=cm (show 0<l.length from by have:=iJ_ (eqv (b:=.ofNat 1) a);omega);refine Qu (e:=2) (m:=1) w p Z Z Z Z (fun ar aa y ab z=>?_);obtain rfl:=z;refine O Z (QF aq y Z Z) Z ?_;refine O Z (ek (j:=.i64) (k:=.u64) Y Y Y Z) Z ?_;refine vQ 1 Z ?_;refine O Z (ek (j:=.u64) (k:=.i64) Y Y Y Z) Z ?_;refine Px 5 Z<|aw<|aw (?_);exact bV Z Z Z ⟨by rw[show jl op l=(pE op x,0) from by unfold jl;simp only[aX];simp only[o,a,i,ct];rw[p]<;>rfl];show _=V.tuple [.int .i64<|pE op x,_];unfold pE;rw[show I op 3=true from i];rfl,aq⟩
   refine OK 5 Z ?_;obtain⟨A,q⟩:=cm (show 0<l.length from by have:=iJ_ (eqv (b:=.ofNat 1) a);omega);refine Qu (e:=2) (m:=1) w q Z Z Z Z (fun ax ac C ag E=>?_);obtain rfl:=E;refine O Z (QF aq C Z Z) Z<|vQ 1 Z<|bf Z (Qz Z Z Z) (fun _=>Z) (kQ X _ aq) (fun U aq=>?_);refine OQ 6 Z ?_;exact bV Z Z Z ⟨by rw[show jl op l=(pE op A,0) from by unfold jl;simp only[aX];simp only[o,a,i,ct];rw[q]<;>rfl];show _=V.tuple [.int .i64<|pE op A,_];unfold pE;rw[show I op 3=false from i];rfl,aq⟩
  refine Ol 7 Z<|ky Z (an Z) (fun c=>?_) (fun c=>?_)
  ·refine PZ 3 Z<|ky Z (an Z) (fun d=>?_) (fun d=>?_)
   ·refine vQ 1 Z<|O Z (QD w Z Z Z (e:=2) Z) Z<|Pv 4 Z<|aE Z (fun f=>?_) (fun f=>?_)
    ·refine ak<|aS (l:=zp [0,1,2,3,4,5,6,7,8,9]) Y Y<|P1 2 Z ?_;have am:l.length=2:=iJ_ (eqv (b:=.ofNat 2) f);obtain⟨F,g⟩:=cm (show 0<l.length from by omega);obtain⟨M,h⟩:=cm (show 1<l.length from by omega);refine Qv (e:=2) (m:=1) w g Z Z Z Z Z (fun ao P r Q s=>?_);obtain rfl:=s;refine al Z Z (QF aq r Z Z) Z<|wQ 1 Z<|Qv (e:=2) (m:=1) w h Z Z Z Z Z (fun ap R t W u=>?_);obtain rfl:=u;refine al Z Z (QF aq t Z Z) Z<|cA Z Z (Qz Z Z Z) (fun _=>Z) (H5 X _ _ _ aq) (fun U aq=>?_);refine⟨aV,?_⟩;refine OT 6 Z ?_;exact bV Z Z Z ⟨by rw[show jl op l=(iA op F M,0) from by unfold jl;simp only[aX];simp only[o,a,c,d,f,ct,cf];rw[g,h]<;>rfl],aq⟩
    refine Pu 9 Z ?_;exact bV Z Z Z ⟨by rw[show jl op l=(0,2) from by unfold jl;simp only[aX];simp only[o,a,c,d,f,ct,cf]<;>rfl],aq⟩
   refine OQ 16 Z ?_;exact bV Z Z Z ⟨by rw[show jl op l=(0,2) from by unfold jl;simp only[aX];simp only[o,a,c,d,ct,cf]<;>rfl],aq⟩
  refine OQ 20 Z ?_;exact bV Z Z Z ⟨by rw[show jl op l=(0,2) from by unfold jl;simp only[aX];simp only[o,a,c,ct,cf]<;>rfl],aq⟩
 refine PZ 3 Z<|ky Z (an Z) (fun n=>?_) (fun n=>?_)
 ·refine vQ 1 Z<|O Z (QD w Z Z Z (e:=2) Z) Z<|Pv 4 Z<|aE Z (fun a=>?_) (fun a=>?_)
  ·refine Ps 7 Z<|aE Z (fun i=>?_) (fun i=>?_)
   ·refine Pt 3 Z ?_;obtain⟨x,p⟩:=cm (show 0<l.length from by have:=iJ_ (eqv (b:=.ofNat 1) a);omega);refine Qu (e:=2) (m:=1) w p Z Z Z Z (fun ar aa y ab z=>?_);obtain rfl:=z;refine O Z (QF aq y Z Z) Z ?_;refine O Z (ek (j:=.i64) (k:=.u64) Y Y Y Z) Z ?_;refine vQ 1 Z ?_;refine O Z (ek (j:=.u64) (k:=.i64) Y Y Y Z) Z ?_;refine Px 5 Z<|aw<|aw (?_);exact bV Z Z Z ⟨by rw[show jl op l=(pE op x,0) from by unfold jl;simp only[aX];simp only[o,n,a,i,ct];rw[p]<;>rfl];show _=V.tuple [.int .i64<|pE op x,_];unfold pE;rw[show I op 3=true from i];rfl,aq⟩
   refine OK 5 Z ?_;obtain⟨A,q⟩:=cm (show 0<l.length from by have:=iJ_ (eqv (b:=.ofNat 1) a);omega);refine Qu (e:=2) (m:=1) w q Z Z Z Z (fun ax ac C ag E=>?_);obtain rfl:=E;refine O Z (QF aq C Z Z) Z<|vQ 1 Z<|bf Z (Qz Z Z Z) (fun _=>Z) (kQ X _ aq) (fun U aq=>?_);refine OQ 6 Z ?_;exact bV Z Z Z ⟨by rw[show jl op l=(pE op A,0) from by unfold jl;simp only[aX];simp only[o,n,a,i,ct];rw[q]<;>rfl];show _=V.tuple [.int .i64<|pE op A,_];unfold pE;rw[show I op 3=false from i];rfl,aq⟩
  refine Ol 7 Z<|ky Z (an Z) (fun c=>?_) (fun c=>?_)
  ·refine PZ 3 Z<|ky Z (an Z) (fun d=>?_) (fun d=>?_)
   ·refine vQ 1 Z<|O Z (QD w Z Z Z (e:=2) Z) Z<|Pv 4 Z<|aE Z (fun f=>?_) (fun f=>?_)
    ·refine ak<|aS (l:=zp [0,1,2,3,4,5,6,7,8,9]) Y Y<|P1 2 Z ?_;have am:l.length=2:=iJ_ (eqv (b:=.ofNat 2) f);obtain⟨F,g⟩:=cm (show 0<l.length from by omega);obtain⟨M,h⟩:=cm (show 1<l.length from by omega);refine Qv (e:=2) (m:=1) w g Z Z Z Z Z (fun ao P r Q s=>?_);obtain rfl:=s;refine al Z Z (QF aq r Z Z) Z<|wQ 1 Z<|Qv (e:=2) (m:=1) w h Z Z Z Z Z (fun ap R t W u=>?_);obtain rfl:=u;refine al Z Z (QF aq t Z Z) Z<|cA Z Z (Qz Z Z Z) (fun _=>Z) (H5 X _ _ _ aq) (fun U aq=>?_);refine⟨aV,?_⟩;refine OT 6 Z ?_;exact bV Z Z Z ⟨by rw[show jl op l=(iA op F M,0) from by unfold jl;simp only[aX];simp only[o,n,a,c,d,f,ct,cf];rw[g,h]<;>rfl],aq⟩
    refine Pu 9 Z ?_;exact bV Z Z Z ⟨by rw[show jl op l=(0,2) from by unfold jl;simp only[aX];simp only[o,n,a,c,d,f,ct,cf]<;>rfl],aq⟩
   refine OQ 16 Z ?_;exact bV Z Z Z ⟨by rw[show jl op l=(0,2) from by unfold jl;simp only[aX];simp only[o,n,a,c,d,ct,cf]<;>rfl],aq⟩
  refine OQ 20 Z ?_;exact bV Z Z Z ⟨by rw[show jl op l=(0,2) from by unfold jl;simp only[aX];simp only[o,n,a,c,ct,cf]<;>rfl],aq⟩
 refine Pv 7 Z<|Ol 7 Z<|ky Z (an Z) (fun c=>?_) (fun c=>?_)
 ·refine PZ 3 Z<|ky Z (an Z) (fun d=>?_) (fun d=>?_)
  ·refine vQ 1 Z<|O Z (QD w Z Z Z (e:=2) Z) Z<|Pv 4 Z<|aE Z (fun f=>?_) (fun f=>?_)
   ·refine ak<|aS (l:=zp [0,1,2,3,4,5,6,7,8,9]) Y Y<|P1 2 Z ?_;have am:l.length=2:=iJ_ (eqv (b:=.ofNat 2) f);obtain⟨F,g⟩:=cm (show 0<l.length from by omega);obtain⟨M,h⟩:=cm (show 1<l.length from by omega);refine Qv (e:=2) (m:=1) w g Z Z Z Z Z (fun ao P r Q s=>?_);obtain rfl:=s;refine al Z Z (QF aq r Z Z) Z<|wQ 1 Z<|Qv (e:=2) (m:=1) w h Z Z Z Z Z (fun ap R t W u=>?_);obtain rfl:=u;refine al Z Z (QF aq t Z Z) Z<|cA Z Z (Qz Z Z Z) (fun _=>Z) (H5 X _ _ _ aq) (fun U aq=>?_);refine⟨aV,?_⟩;refine OT 6 Z ?_;exact bV Z Z Z ⟨by rw[show jl op l=(iA op F M,0) from by unfold jl;simp only[aX];simp only[o,n,c,d,f,ct,cf];rw[g,h]<;>rfl],aq⟩
   refine Pu 9 Z ?_;exact bV Z Z Z ⟨by rw[show jl op l=(0,2) from by unfold jl;simp only[aX];simp only[o,n,c,d,f,ct,cf]<;>rfl],aq⟩
  refine OQ 16 Z ?_;exact bV Z Z Z ⟨by rw[show jl op l=(0,2) from by unfold jl;simp only[aX];simp only[o,n,c,d,ct,cf]<;>rfl],aq⟩
 refine OQ 20 Z ?_;exact bV Z Z Z ⟨by rw[show jl op l=(0,2) from by unfold jl;simp only[aX];simp only[o,n,c,ct,cf]<;>rfl],aq⟩
theorem KC {G:Cx} (r:Plain G) {K:KP} {aY:List Int} {rn:Int} (ap:rn<=aY.length) {regv:V} (g:bR K 1 dy aY regv):∀(k:Nat) (x:XE) (vs:List V),ey K k x vs->ea rn k x=true->∀(U:D) (L:Own),J U K L->bk Tryz.prog G 171 [.agg vs,regv] U fun v U'=>v= .int .i64 (eJ aY k x)/\J U' K L:=by
 intro k;induction k with
 | zero=>intro x vs h;cases x;exact h.elim
 | succ k ih=>
 intro x vs hE Q U L aq;obtain⟨op,num,name,kids⟩:=x;obtain⟨v,rfl,s⟩:=hE;have w:eJ aY (k+1) (.mk op num name kids)=bif I op 1 then num else bif I op 2 then(aY[(iG name).getD 0]?).getD 0 else Pe op (kids.map<|eJ aY k):=rfl;refine PS r Tryz.func171 Z<|Pt 2 Z<|kp aq Z (cz Z Z) (fun U b1 aq=>?_);refine OW aq 11 [0,0] Z Z<|aE Z (fun a=>?_) (fun a=>?_)
 ·refine PB aq 9 [1,0] Z Z ?_;exact aA Z Z ⟨cJ (by rw[w,a];rfl),aq.pop⟩
 refine Ot aq 8 [0,0] Z Z<|Pv 2 Z<|aE Z (fun b=>?_) (fun b=>?_)
 ·refine PA aq 5 [2,0] Z Z<|bf Z (Qz Z Z Z) (fun _=>Z) (HX r _ aq) (fun U aq=>?_);obtain⟨nn,l,aI⟩:=xu Q a b;obtain⟨y,W⟩:=cm (show nn<aY.length by omega);have n:jQ name= .ofNat nn:=by unfold jQ;rw[l]
  refine Qu (e:=2) (m:=1) g W Z Z Z (show _=some (V.int .i64 (.ofNat nn)) from cI n) (fun a0 aa o ab p=>?_);obtain rfl:=p;refine O Z (QF aq o Z Z) Z<|OQ 5 Z ?_;exact aA Z Z ⟨cJ (by rw[w,a,b,l];show y=(aY[nn]?).getD 0;rw[W];rfl),aq.pop⟩
 refine Ol 10 Z ?_;obtain⟨a1,A⟩:=uU Q a b;replace aq:J U K ([]++_):=aq;refine OM 4 Z (bp ([5,6]++rg 23 17) (fun j t U=>∃(i:Nat) (u:V) (M:Own),j+i=kids.length/\cQ 1 2 dy ((kids.take i).map<|eJ aY k) u M/\t.get 5=some (u)/\t.get 6=some (.int .i64 (.ofNat i))/\J U K (M++(b1,.row [.int .i64 op,.int .i64 num,.str name,v] 82 false)::L)) (kids.length) ⟨0,.ax,[],Z,cQ.nil,Z,Z,aq⟩ ?_);clear aq;intro j7 t U ar hI;obtain⟨i,u,M,hj,hO,C,E,aq⟩:=hI;obtain⟨oo,rfl⟩:=ar.q2 C E Z;refine OU aq 5 [3] Z Z<|O Z (QB Z aq.aQ.g0 Z) Z<|O Z (QD s Z Z Z (e:=82) Z) Z<|Pv 3 Z<|aE Z (fun c=>?_) (fun c=>?_)
 ·refine Oq aq 7 [3] Z Z<|O Z (QB Z aq.aQ.g0 Z) Z<|vQ 1 Z ?_;obtain⟨a2,d,ac⟩:=cL c;refine Qu (e:=82) (m:=4) s d Z Z Z Z (fun a3 ag q am f=>?_);obtain⟨a4,a5,a6,a7,rfl,ao⟩:=f.shape;refine O Z (QG aq q Z Z) Z<|vQ 1 Z<|bf Z (Qz Z Z Z) (fun _=>Z) (ih _ _ f (A _<|gB_ d) _ _ aq) (fun U aq=>?_);refine gT aq Z (bY (e:=2) (m:=1) (z:=[T]) (cs:=[_]) Y Y Y Y<|bD Z Z Z Z bJ) (fun _=>Z) (fun U b2 aq=>?_);replace aq:=aq.pull (.there .here);replace aq:=aq.pull (.cM<|ep.here (X:=[_]));refine sk (R:=dy) (m:=1) (e:=2) hO aq (eU (m:=1) Z Z) dy.leaf (by rw[lM_,lT_];show _+1<=_;omega) Z Z Z Z Z Z Z (fun _=>Z) (fun U F P hO39 aq=>?_);refine PY 2 Z<|aJ<|PW 5 Z<|aO ⟨j7-1,(by have:=bu c;omega),oF,i+1,F,P,(by have:=bu c;omega),(by rw[mi d];exact hO39),Z,cI<|bg (by have:=s.bG;omega),aq⟩
 refine OL 3 Z<|aT<|Pt 2 Z ?_;replace aq:=aq.keeps;refine P3 aq 3 [0,0] Z Z<|bf Z (Qz Z Z Z) (fun _=>Z) (Pc r hO.iu _ aq) (fun U aq=>?_);refine Px 14 Z ?_;exact aA Z Z ⟨cJ (by rw[w,a,b,tL_<|bC c];rfl),(aq.weaken<|KP.bX _ _).pop⟩
theorem yS {K:KP} {x:db} {vb e:Nat} (a:K vb (.row (ints x.ints) e false)):bR K 5 iU [x] (.slice vb 0 1 (.known 1)):=
 .inr ⟨vb,0,_,_,e,false,Z,.inr ⟨_,Z,nR_ _⟩,a,by show 0+1*5<=5;omega,by show 1<=_;omega,fun i y b=>by
  cases i with
  | zero=>simp only[List.getElem?_cons_zero,oJ_] at b;subst b;rfl
  | succ i=>simp at b⟩
theorem tu {G:Cx} (p:Plain G) {K:KP} {aY:List Int} {rn:Int} (c:rn<=aY.length) {regv:V} (a:bR K 1 dy aY regv) {tb et bt q bi r k:Nat} {ro d f:Bool} {s t u x y c6 z A C E F M w:V} (P:K tb (.row [s,t,u,regv,x,y,c6,z] et ro)) (g:K bt (.row [.ptr tb 0] q d))
  (h:K bi (.row [A,C,E,F,M,w] r f)) {es:List XE} {i:XE} (hw:bR K 4 (ey K k) es w) (j:es[0]?=some i) (n:ea rn k i=true) {U:D} {L:Own} (aq:J U K L):bk Tryz.prog G 219 [.ptr bt 0,.ptr bi 0] U fun v U'=>v= .int .i64 (eJ aY k i)/\J U' K L:=by
 refine PS p Tryz.func219 Z<|Ps 6 Z<|aS (l:=zp [0,1,2,3,4,5,6]) Y Y<|al Z Z (QB Z (aq.fq g) Z) Z<|al Z Z (QA 5 Z) Z<|al Z Z (QB Z (aq.fq h) Z) Z<|Qv (e:=82) (m:=4) hw j Z Z Z Z Z (fun p6 aa o ab b=>?_);have hr6raw:=b;obtain⟨o6,n6,s6,v6,rfl,ac⟩:=b.shape;refine al Z Z (QG aq o Z Z) Z<|cA Z Z (Qz Z Z Z) (fun _=>Z) (AE p c a P _ _ _ hr6raw n _ _ aq) (fun U aq=>?_);refine⟨aV,?_⟩;refine Pz 4 Z ?_;exact aA Z Z ⟨Z,aq⟩
theorem EG {G:Cx} (j:Plain G) {K:KP} {a et bt k:Nat} {b:Bool} {d e l f g h c6 i:V} (c:K bt (.row [.ptr a 0] k b)) (to:Int) {U:D} {L:Own} (aq:J U K ((a,.row [d,e,l,f,g,h,c6,i] et false)::L)):
  bk Tryz.prog G 220 [.int .i64 to,.ptr bt 0] U fun v U'=>v= .bool true/\J U' K ((a,.row [d,e,.int .i64 to,f,g,h,c6,i] et false)::L):=by
 refine PS j Tryz.func220 Z<|Pt 7 Z<|O Z (QB Z (aq.fq c) Z) Z<|vQ 1 Z<|O Z (eW Z) Z<|O Z (QA 2 Z) Z<|bO aq Z (QH Z Z Z aq.g0 (m:=1) Z Z (cells':=[_,_,_,_,_,_,_,_]) Z) Z (fun U aq=>?_);refine Px 8 Z ?_;exact aA Z Z ⟨Z,aq⟩
theorem AD {G:Cx} (k:Plain G) {K:KP} {a et bt l:Nat} {b:Bool} {d e f g h i c6 j:V} (c:K bt (.row [.ptr a 0] l b)) (to:Int) {U:D} {L:Own} (aq:J U K ((a,.row [d,e,f,g,h,i,c6,j] et false)::L)):
  bk Tryz.prog G 221 [.int .i64 to,.ptr bt 0] U fun v U'=>v= .bool false/\J U' K ((a,.row [d,e,f,g,h,i,.int .i64 to,j] et false)::L):=by
 refine PS k Tryz.func221 Z<|Pt 7 Z<|O Z (QB Z (aq.fq c) Z) Z<|vQ 1 Z<|O Z (eW Z) Z<|O Z (QA 6 Z) Z<|bO aq Z (QH Z Z Z aq.g0 (m:=1) Z Z (cells':=[_,_,_,_,_,_,_,_]) Z) Z (fun U aq=>?_);refine Px 8 Z ?_;exact aA Z Z ⟨Z,aq⟩
theorem Mc {G:Cx} (i:Plain G) {K:KP} {d j et bt w bon y:Nat} {f g:Bool} {k o p q r c6 s:V} {u:cG} (a:K bt (.row [.ptr d 0] w f)) (b:K bon (.row [.func 220 [] [.ptr bt 0]] y g)) (e:db) {es:List db} {Me:Own} (C:cQ 5 56 iU es q Me) (hlen:es.length<=1000000) {at_:Nat} (aa:at_<1000000) {U:D} {L:Own}
  (aq:J U K ((d,.row [k,o,.int .i64 (.ofNat at_),p,q,r,c6,s] et false)::(j,u)::(Me++L))):
  bk Tryz.prog G 222 [.agg [.int .i64 e.kind,.int .i64 e.loc,.int .i64 e.order,.int .i64 e.read,.int .i64 e.write],.ptr bt 0,.ptr bon 0] U fun v U'=>∃ev' Me',v= .bool true/\cQ 5 56 iU (es++[e]) ev' Me'/\J U' K ((d,.row [k,o,.int .i64 (.ofNat (at_+1)),p,ev',r,c6,s] et false)::(j,u)::(Me'++L)):=by
 refine PS i Tryz.func222 Z<|Pt 2 Z<|kp aq Z (cz Z Z) (fun U b3 aq=>?_);refine ON 4 Z (aS (l:=[(0,[]),(1,[]),(2,[]),(3,[]),(4,[]),(5,[]),(6,[]),(7,[0]),(8,[]),(9,[]),(10,[])]) Y Y<|al Z Z (QB Z (aq.fq a) Z) Z<|al Z Z (QB Z (aq.fq a) Z) Z<|al Z Z (eW Z) Z<|P4 aq 2 [4,1] Z Z<|al Z Z (QC Z aq.g0 (n:=5) (vs:=[_,_,_,_,_]) Z) Z<|j1 aq Z Z (bY (e:=56) (m:=5) (z:=[T,T,T,T,T]) (cs:=[_,_,_,_,_]) Y Y Y Y<|bD Z Z Z Z bJ) (fun _=>Z) (fun U b4 aq=>?_));replace aq:=aq.DL (A:=[_,_,_]);obtain⟨U,h,Me2,c,hO2,aq⟩:=fJ (P:=Tryz.prog) (ts:= #[57,57]) (t:=57) (e:=56) C aq (yS (x:=e) (.inr ⟨Z,Z⟩)) iU.leaf (by simp) (by simp) B Z Y Y Y;replace aq:=aq.front (A:=Me2) (M:=[_,_,_]);refine eM Z Z (dM Z Z Z Z Y c) Z ?_;refine⟨(bB (bN Z Z Z Z Z (QB Z (aq.fq a) Z)<|Bh _ _) aV),?_⟩;refine al Z Z (eW Z) Z<|al Z Z (QA 4 Z) Z<|z9 aq Z Z (aL Z Z hO2.leaf.1 aq.g1 (m:=1) Y Z (lb Z) (ah hO2.leaf.2 aC) (cells':=[_,_,_,_,_,_,_,_]) Z) Z (fun U aq=>?_);refine⟨aV,?_⟩;refine OS 3 Z<|aS (l:=zp [0,1,2,3,4,5,6,7]) Y Y ?_;replace aq:=aq.pop;refine al Z Z (QB Z (aq.fq b) Z) Z<|al Z Z (QB Z (aq.fq a) Z) Z<|al Z Z (eW Z) Z<|P4 aq 2 [2,0] Z Z<|al Z Z (az Z Z (show _=some (V.int .i64 (.ofNat (at_+1))) from cI (bg B))) Z<|cA Z Z (Qz Z Z Z) (fun _=>Z) (EG i a _ aq) (fun U aq=>?_);refine⟨aV,?_⟩;refine Pz 4 Z ?_;exact aA Z Z ⟨h,Me2,Z,hO2,aq⟩
theorem JV {G:Cx} (o:Plain G) {K:KP} {k:Nat} {c:XC} (hc:eX k c) {cv:V} (hi:bR K 6 (iI K k) c.ins cv) {s:TS} (hs:Qd c s) (a3:s.events.length<=900000) {b1 b2:Nat} {ev:V} {Me:Own} (A:cQ 5 56 iU s.events ev Me) {U:D} {L:Own}
  (aq:J U K ((b1,.row (HE c cv s b2 ev) 131 false)::(b2,.row (s.aY.map gZ) 2 false)::(Me++L))):
  bk Tryz.prog G 166 [.ptr b1 0] U fun v U'=>∃ev' Me',v= .bool (cj k c s).2/\cQ 5 56 iU (cj k c s).1.events ev' Me'/\J U' K ((b1,.row (HE c cv (cj k c s).1 b2 ev') 131 false)::(b2,.row ((cj k c s).1.aY.map gZ) 2 false)::(Me'++L)):=by
 have hlen:=hc.len;have hat:=hs.at_;obtain⟨x,hx⟩:=cm hat;have hrx:=hc.right x (gB_ hx);have C:c.aY<=s.aY.length:=by have:=hs.aY;have:=hc.za;omega
 have p:s.aY.length<=1000:=by have:=hs.aY;have:=hc.xr;omega
 have h:cj k c s=dL k x s:=by unfold cj;rw[hx]
 refine PS o Tryz.func166 Z<|Pt 2 Z<|kp aq Z (cz Z Z) (fun U b3 aq=>?_);refine ON 4 Z<|aS (l:=zp [0,1,2,3,4,5,6,7,8,9,10,11,12]) Y Y<|al Z Z (QB Z aq.g0 Z) Z<|al Z Z (eW Z) Z<|P4 aq 4 [0,1,1,0] Z Z<|al Z Z (eW Z) Z<|P4 aq 2 [2,1] Z Z<|Qv (e:=79) (m:=6) hi hx Z Z Z Z Z (fun a7 a4 a0 a5 Q=>?_);have hr17raw:=Q;have hr17':=Q;obtain⟨a8,rfl,R⟩:=hr17';refine al Z Z (QG aq a0 Z Z) Z<|pB aq Z Z (QE (cs:=[T,T,T,T,T,.ax])) (fun _=>Z) (fun U b4 aq=>?_);refine kb aq Z Z (QH Z Z Z aq.g0 (m:=6) Z (ah Z<|ah Z<|ah Z<|ah Z<|ah Z<|ah R.leaf.2 aC) (cells':=[_,_,_,_,_,_]) Z) Z (fun U aq=>?_);refine⟨aV,?_⟩;refine OS 9 Z<|ai Z<|vQ 1 Z<|kp aq Z (QE (cs:=[.nilFunc])) (fun U b5 aq=>?_);refine bO aq Z (QH Z Z Z aq.g0 (m:=1) Z Z (cells':=[_]) Z) Z (fun U aq=>?_);refine On 17 Z ?_;obtain⟨K1,hle,t,aq⟩:=aq.fy (M:=[_,_,_]);have hbon:=t _ (.head _);have hbi:=t _ (.tail _ (.head _));have hbt:=t _ (.tail _ (.tail _ (.head _)));clear t;dsimp only at hbon hbi hbt;have hw1:=kG hle R;refine O Z (QA 0 Z) Z<|O Z (QB Z (aq.fq hbi) Z) Z<|OM 3 Z<|Pt 2 Z<|ky Z (az Z Z Z) (fun d=>?_) (fun d=>?_)
 ·refine ON 5 Z (aS (l:=[(0,[]),(1,[]),(2,[]),(3,[]),(4,[]),(5,[]),(6,[]),(7,[0,3,5]),(8,[]),(9,[])]) Y Y<|al Z Z (QB Z (aq.fq hbt) Z) Z<|al Z Z (eW Z) Z<|P4 aq 3 [3,0,1] Z Z<|al Z Z (QB Z (aq.fq hbi) Z) Z<|wQ 1 Z ?_);obtain⟨W,E,X⟩:=lV hrx (eqv (b:=.ofNat 1) d) B;have hq:=aq.keeps (M:=[_,_]);refine cA Z Z (Qz Z Z Z) (fun _=>Z) (kE (M:=[_,_]) aq<|tu o (rn:=c.aY) C (fK (xs:=s.aY) (KP.gF 1 Z) p) (KP.gF 0 Z) (KP.bX _ _ _ _ hbt) (KP.bX _ _ _ _ hbi) (kG (KP.bX _ _) hw1) E X hq) (fun U aq=>?_);clear hq;have hV34:=(fj (k:=k) (aY:=s.aY) E).symm;refine⟨(bB (bN Z Z Z Z Z (QB Z (aq.fq hbt) Z)<|Bh _ _)<|bB (bN Z Z Z Z Z (QB Z aq.g0 Z)<|qF _ _ _ _)<|bB (bN Z Z Z Z Z (QB Z (aq.fq hbi) Z)<|jk _ _) aV),?_⟩;obtain⟨rg,a1,a6⟩:=Ah hrx (eqv (b:=.ofNat 1) d) B;refine al Z Z (eo (e:=2) (m:=1) Y Y Z (show _=some (V.int .i64 (.ofNat rg)) from cI a1) B) Z (gD aq (.there .here) Z Z (aL Z Z Z aq.g1 (m:=1) Y Z (by rw[lM_];omega) Z (cells':=((s.aY).set rg<|eJ s.aY k W).map (gZ)) (fb (f:=gZ) (v:=(eJ s.aY k W)) B (by first | omega | rfl))) Z (fun U aq=>?_));refine⟨aV,?_⟩;refine OS 3 Z<|aS (l:=zp [0,1,2,3,4,5,6,7]) Y Y<|al Z Z (QB Z (aq.fq hbon) Z) Z<|al Z Z (QB Z (aq.fq hbt) Z) Z<|al Z Z (eW Z) Z<|P4 aq 2 [2,0] Z Z<|al Z Z (az Z Z (show _=some (V.int .i64 (.ofNat (s.at_+1))) from cI (bg B))) Z<|cA Z Z (Qz Z Z Z) (fun _=>Z) (EG o hbt _ aq) (fun U aq=>?_);refine⟨aV,?_⟩;refine Pz 4 Z<|aF<|aw (?_);have a:cj k c s=({s with aY:=s.aY.set x.pc.toNat (eJ s.aY k W),at_:=s.at_+1},true):=by rw[h];unfold dL;simp only[d,fj E,ct,cf]
  have aq:=aq.weaken hle;refine aA Z Z ⟨ev,Me,by rw[a],by rw[a];exact A,?_⟩;rw[a];show J _ _ ((b1,.row [_,_,_,.slice b2 0 (s.aY.set x.pc.toNat _).length (.known (s.aY.set x.pc.toNat _).length),_,_,_,_] 131 false)::(b2,.row ((s.aY.set x.pc.toNat _).map gZ) 2 false)::_);rw[List.length_set,a1];exact aq
 refine OO 6 Z<|ky Z (az Z Z Z) (fun g=>?_) (fun g=>?_)
 ·refine ON 5 Z (aS (l:=[(0,[]),(1,[]),(2,[]),(3,[]),(4,[]),(5,[]),(6,[2,4]),(7,[]),(8,[]),(9,[])]) Y Y<|P4 aq 2 [2] Z Z<|al Z Z (QB Z (aq.fq hbi) Z) Z<|al Z Z (QA 3 Z) Z<|al Z Z (QB Z (aq.fq hbi) Z) Z<|wQ 1 Z ?_);obtain⟨a2,F,aa⟩:=lV hrx (eqv (b:=.ofNat 3) g) B;have hq:=aq.keeps (M:=[_,_]);refine cA Z Z (Qz Z Z Z) (fun _=>Z) (kE (M:=[_,_]) aq<|tu o (rn:=c.aY) C (fK (xs:=s.aY) (KP.gF 1 Z) p) (KP.gF 0 Z) (KP.bX _ _ _ _ hbt) (KP.bX _ _ _ _ hbi) (kG (KP.bX _ _) hw1) F aa hq) (fun U aq=>?_);clear hq;have hV51:=(fj (k:=k) (aY:=s.aY) F).symm;refine⟨(bB (bN Z Z Z Z Z (QB Z (aq.fq hbi) Z)<|jk _ _)<|bB (bN Z Z Z Z Z (QB Z (aq.fq hbi) Z)<|jk _ _) aV),?_⟩;refine al Z Z (Qy (places:=[(0,1),(1,1),(2,1),(3,1),(4,1)]) (zero:=[T,T,T,T,T]) (cs:=[_,_,_,_,_]) Z) Z<|jg Z Z (Qz Z Z Z) (fun _=>Z) (Mc o hbt hbon ⟨2,x.loc,x.order,0,eJ s.aY k a2⟩ A B B aq) ?_;rintro _ U ⟨ab,Me2,rfl,hO2,aq⟩;refine⟨aV,?_⟩;refine Pz 4 Z<|aF<|aw (?_);have a:cj k c s=({s with events:=s.events++[⟨2,x.loc,x.order,0,eJ s.aY k a2⟩],at_:=s.at_+1},true):=by rw[h];unfold dL;simp only[d,g,fj F,ct,cf]
  have aq:=aq.weaken hle;exact aA Z Z ⟨ab,Me2,by rw[a],by rw[a];exact hO2,by rw[a];exact aq⟩
 refine OO 6 Z<|ky Z (az Z Z Z) (fun i=>?_) (fun i=>?_)
 ·refine OX aq 8 [3] Z Z (O Z (QB Z (aq.fq hbi) Z) Z (O Z (Qy (places:=[(0,1),(1,1),(2,1),(3,1),(4,1)]) (zero:=[T,T,T,T,T]) (cs:=[_,_,_,_,_]) Z) Z<|cH Z (Qz Z Z Z) (fun _=>Z) (Mc o hbt hbon ⟨4,0,x.order,0,0⟩ A B B aq) ?_));rintro _ U ⟨ab,Me2,rfl,hO2,aq⟩;refine Px 4 Z<|aF<|aw (?_);have a:cj k c s=({s with events:=s.events++[⟨4,0,x.order,0,0⟩],at_:=s.at_+1},true):=by rw[h];unfold dL;simp only[d,g,i,ct,cf]
  have aq:=aq.weaken hle;exact aA Z Z ⟨ab,Me2,by rw[a],by rw[a];exact hO2,by rw[a];exact aq⟩
 refine OO 6 Z<|ky Z (az Z Z Z) (fun j=>?_) (fun j=>?_)
 ·refine On 8 Z ?_;obtain⟨a9,u,ac⟩:=lV hrx (eqv (b:=.ofNat 8) j) B;have hq:=aq.keeps (M:=[_,_]);refine bf Z (Qz Z Z Z) (fun _=>Z) (kE (M:=[_,_]) aq<|tu o (rn:=c.aY) C (fK (xs:=s.aY) (KP.gF 1 Z) p) (KP.gF 0 Z) (KP.bX _ _ _ _ hbt) (KP.bX _ _ _ _ hbi) (kG (KP.bX _ _) hw1) u ac hq) (fun U aq=>?_);clear hq;have hV64:=(fj (k:=k) (aY:=s.aY) u).symm;refine Pv 3 Z<|aE Z (fun ag=>?_) (fun ag=>?_)
  ·refine Pt 3 Z<|bf Z (Qz Z Z Z) (fun _=>Z) (AD o hbt _ aq) (fun U aq=>?_);refine Px 4 Z<|aw<|aF<|aw (?_);have a:cj k c s=({s with fin:=2},false):=by rw[h];unfold dL;simp only[d,g,i,j,fj u,ag,ct,cf]
   have aq:=aq.weaken hle;exact aA Z Z ⟨ev,Me,by rw[a],by rw[a];exact A,by rw[a];exact aq⟩
  refine OJ 3 Z<|aS (l:=zp [0,1,2,3,4,5,6,7]) Y Y<|al Z Z (QB Z (aq.fq hbon) Z) Z<|al Z Z (QB Z (aq.fq hbt) Z) Z<|al Z Z (eW Z) Z<|P4 aq 2 [2,0] Z Z<|al Z Z (az Z Z (show _=some (V.int .i64 (.ofNat (s.at_+1))) from cI (bg B))) Z<|cA Z Z (Qz Z Z Z) (fun _=>Z) (EG o hbt _ aq) (fun U aq=>?_);refine⟨aV,?_⟩;refine Pz 4 Z<|aF<|aw (?_);have a:cj k c s=({s with at_:=s.at_+1},true):=by rw[h];unfold dL;simp only[d,g,i,j,fj u,ag,ct,cf]
  have aq:=aq.weaken hle;exact aA Z Z ⟨ev,Me,by rw[a],by rw[a];exact A,by rw[a];exact aq⟩
 refine OO 6 Z<|ky Z (az Z Z Z) (fun n=>?_) (fun n=>?_)
 ·refine On 8 Z ?_;obtain⟨bb,w,am⟩:=lV hrx (eqv (b:=.ofNat 9) n) B;have hq:=aq.keeps (M:=[_,_]);refine bf Z (Qz Z Z Z) (fun _=>Z) (kE (M:=[_,_]) aq<|tu o (rn:=c.aY) C (fK (xs:=s.aY) (KP.gF 1 Z) p) (KP.gF 0 Z) (KP.bX _ _ _ _ hbt) (KP.bX _ _ _ _ hbi) (kG (KP.bX _ _) hw1) w am hq) (fun U aq=>?_);clear hq;have hV78:=(fj (k:=k) (aY:=s.aY) w).symm;refine Pv 3 Z<|aE Z (fun ao=>?_) (fun ao=>?_)
  ·refine Pt 3 Z<|bf Z (Qz Z Z Z) (fun _=>Z) (AD o hbt _ aq) (fun U aq=>?_);refine Px 4 Z<|aw<|aF<|aw (?_);have a:cj k c s=({s with fin:=3},false):=by rw[h];unfold dL;simp only[d,g,i,j,n,fj w,ao,ct,cf]
   have aq:=aq.weaken hle;exact aA Z Z ⟨ev,Me,by rw[a],by rw[a];exact A,by rw[a];exact aq⟩
  refine OJ 3 Z<|aS (l:=zp [0,1,2,3,4,5,6,7]) Y Y<|al Z Z (QB Z (aq.fq hbon) Z) Z<|al Z Z (QB Z (aq.fq hbt) Z) Z<|al Z Z (eW Z) Z<|P4 aq 2 [2,0] Z Z<|al Z Z (az Z Z (show _=some (V.int .i64 (.ofNat (s.at_+1))) from cI (bg B))) Z<|cA Z Z (Qz Z Z Z) (fun _=>Z) (EG o hbt _ aq) (fun U aq=>?_);refine⟨aV,?_⟩;refine Pz 4 Z<|aF<|aw (?_);have a:cj k c s=({s with at_:=s.at_+1},true):=by rw[h];unfold dL;simp only[d,g,i,j,n,fj w,ao,ct,cf]
  have aq:=aq.weaken hle;exact aA Z Z ⟨ev,Me,by rw[a],by rw[a];exact A,by rw[a];exact aq⟩
 refine OO 6 Z<|ky Z (az Z Z Z) (fun q=>?_) (fun q=>?_)
 ·refine OO 6 Z<|O Z (QB Z (aq.fq hbon) Z) Z<|O Z (QA 4 Z) Z<|O Z (QB Z (aq.fq hbi) Z) Z<|bf Z (Qz Z Z Z) (fun _=>Z) (EG o hbt _ aq) (fun U aq=>?_);refine Px 4 Z<|aF<|aw (?_);have a:cj k c s=({s with at_:=x.to.toNat},true):=by rw[h];unfold dL;simp only[d,g,i,j,n,q,ct,cf]
  have aq:=aq.weaken hle;refine aA Z Z ⟨ev,Me,by rw[a],by rw[a];exact A,?_⟩;rw[a];obtain⟨rt,ap,_⟩:=FV hrx (eqv (b:=.ofNat 10) q) B;rw[ap] at aq⊢;exact aq
 refine OO 6 Z<|ky Z (az Z Z Z) (fun r=>?_) (fun r=>?_)
 ·refine On 8 Z ?_;obtain⟨be,y,ar⟩:=lV hrx (eqv (b:=.ofNat 11) r) B;have hq:=aq.keeps (M:=[_,_]);refine bf Z (Qz Z Z Z) (fun _=>Z) (kE (M:=[_,_]) aq<|tu o (rn:=c.aY) C (fK (xs:=s.aY) (KP.gF 1 Z) p) (KP.gF 0 Z) (KP.bX _ _ _ _ hbt) (KP.bX _ _ _ _ hbi) (kG (KP.bX _ _) hw1) y ar hq) (fun U aq=>?_);clear hq;have hV98:=(fj (k:=k) (aY:=s.aY) y).symm;refine Pv 3 Z<|aE Z (fun aI=>?_) (fun aI=>?_)
  ·refine Pt 2 Z<|O Z (QB Z (aq.fq hbon) Z) Z<|O Z (QA 4 Z) Z<|O Z (QB Z (aq.fq hbi) Z) Z<|bf Z (Qz Z Z Z) (fun _=>Z) (EG o hbt _ aq) (fun U aq=>?_);refine Px 4 Z<|aw<|aF<|aw (?_);have a:cj k c s=({s with at_:=x.to.toNat},true):=by rw[h];unfold dL;simp only[d,g,i,j,n,q,r,fj y,aI,ct,cf]
   have aq:=aq.weaken hle;refine aA Z Z ⟨ev,Me,by rw[a],by rw[a];exact A,?_⟩;rw[a];obtain⟨rt,ap,_⟩:=FV hrx (eqv (b:=.ofNat 11) r) B;rw[ap] at aq⊢;exact aq
  refine OJ 3 Z<|aS (l:=zp [0,1,2,3,4,5,6,7]) Y Y<|al Z Z (QB Z (aq.fq hbon) Z) Z<|al Z Z (QB Z (aq.fq hbt) Z) Z<|al Z Z (eW Z) Z<|P4 aq 2 [2,0] Z Z<|al Z Z (az Z Z (show _=some (V.int .i64 (.ofNat (s.at_+1))) from cI (bg B))) Z<|cA Z Z (Qz Z Z Z) (fun _=>Z) (EG o hbt _ aq) (fun U aq=>?_);refine⟨aV,?_⟩;refine Pz 4 Z<|aF<|aw (?_);have a:cj k c s=({s with at_:=s.at_+1},true):=by rw[h];unfold dL;simp only[d,g,i,j,n,q,r,fj y,aI,ct,cf]
  have aq:=aq.weaken hle;exact aA Z Z ⟨ev,Me,by rw[a],by rw[a];exact A,by rw[a];exact aq⟩
 refine OO 6 Z<|ky Z (az Z Z Z) (fun z=>?_) (fun z=>?_)
 ·refine OO 7 Z<|bf Z (Qz Z Z Z) (fun _=>Z) (AD o hbt _ aq) (fun U aq=>?_);refine Px 4 Z<|aF<|aw (?_);have a:cj k c s=({s with fin:=4},false):=by rw[h];unfold dL;simp only[d,g,i,j,n,q,r,z,ct,cf]
  have aq:=aq.weaken hle;exact aA Z Z ⟨ev,Me,by rw[a],by rw[a];exact A,by rw[a];exact aq⟩
 refine OO 6 Z<|ky Z (az Z Z Z) (fun P=>?_) (fun P=>?_)
 ·refine OO 7 Z<|bf Z (Qz Z Z Z) (fun _=>Z) (AD o hbt _ aq) (fun U aq=>?_);refine Px 4 Z<|aF<|aw (?_);have a:cj k c s=({s with fin:=1},false):=by rw[h];unfold dL;simp only[d,g,i,j,n,q,r,z,P,ct,cf]
  have aq:=aq.weaken hle;exact aA Z Z ⟨ev,Me,by rw[a],by rw[a];exact A,by rw[a];exact aq⟩
 refine OP 6 Z<|Pt 2 Z<|O Z (QB Z (aq.fq hbt) Z) Z<|O Z (eW Z) Z<|O Z (QA 7 Z) Z<|bO aq Z (QH Z Z Z aq.g0 (m:=1) Z Z (cells':=[_,_,_,_,_,_,_,_]) Z) Z (fun U aq=>?_);refine Px 8 Z ?_;have a:cj k c s=({s with asks:=true},false):=by rw[h];unfold dL;simp only[d,g,i,j,n,q,r,z,P,ct,cf]
 have aq:=aq.weaken hle;exact aA Z Z ⟨ev,Me,by rw[a],by rw[a];exact A,by rw[a];exact aq⟩
theorem Mb {G:Cx} (C:Plain G) {K:KP} {k:Nat} {c:XC} {cv:V} (hi:bR K 6 (iI K k) c.ins cv) {at_:Nat} {aY:List Int} (r:c.aY<=aY.length) {x:XI} (hx:c.ins[at_]?=some x) (E:fF c.aY (.ofNat c.ins.length) k x=true) {regv:V} (g:bR K 1 dy aY regv) {tb et:Nat} {ro:Bool} {c0 c4 c5 c6 c7:V} (t:K tb (.row [c0,cv,.int .i64 (.ofNat at_),regv,c4,c5,c6,c7] et ro))
  {U:D} {L:Own} (aq:J U K L):bk Tryz.prog G 81 [.ptr tb 0] U fun v U'=>v= .agg (ints (xZ k x aY).ints)/\J U' K L:=by
 obtain⟨_,sh,_,_,_,_,F⟩:=iY E;have hall:=(hJ F).all;refine PS C Tryz.func81 Z<|Pt 2 Z<|kp aq Z (QE (cs:=[T,T,T,T,T])) (fun U b1 aq=>?_);refine ON 3 Z<|aS (l:=zp [0,1,2,3,4,5,6,7,8,9,10,11,12]) Y Y<|wQ 1 Z<|al Z Z (eW Z) Z<|P4 aq 2 [0,1] Z Z<|al Z Z (QB Z (aq.fq t) Z) Z<|wQ 1 Z<|al Z Z (eW Z) Z<|al Z Z (QA 2 Z) Z<|al Z Z (QB Z (aq.fq t) Z) Z<|Qv (e:=79) (m:=6) hi hx Z Z Z Z Z (fun ao aa u ab p=>?_);have hr14raw:=p;have hr14':=p;obtain⟨ap,rfl,b⟩:=hr14';refine al Z Z (QG aq u Z Z) Z<|pB aq Z Z (QE (cs:=[T,T,T,T,T,.ax])) (fun _=>Z) (fun U b2 aq=>?_);refine kb aq Z Z (QH Z Z Z aq.g0 (m:=6) Z (ah Z<|ah Z<|ah Z<|ah Z<|ah Z<|ah b.leaf.2 aC) (cells':=[_,_,_,_,_,_]) Z) Z (fun U aq=>?_);refine⟨aV,?_⟩;refine OS 3 Z (P2 aq 7 [0,0,2,0,3,0] Z Z (O Z (Qy (places:=[(0,1),(1,1),(2,1),(3,1),(4,1)]) (zero:=[T,T,T,T,T]) (cs:=[_,_,_,_,_]) Z) Z<|kp aq Z (QE (cs:=[T,T,T,T,T])) (fun U b3 aq=>?_)));refine bO aq Z (QH Z Z Z aq.g0 (m:=5) Z Z (cells':=[_,_,_,_,_]) Z) Z (fun U aq=>?_);refine Ou aq 7 [5,1] Z Z<|O Z (QD b Z Z Z (e:=82) Z) Z<|Pv 3 Z<|aE Z (fun o=>?_) (fun o=>?_)
 ·refine P2 aq 4 [5,1] Z Z ?_;obtain⟨M,i⟩:=cm (show 0<x.exprs.length from bu (a:=0) o);refine Qu (e:=82) (m:=4) b i Z Z Z Z (fun ar ac w ag q=>?_);have hr30raw:=q;obtain⟨aI,a0,a1,a2,rfl,am⟩:=q.shape;refine O Z (QG aq w Z Z) Z<|bf Z (Qz Z Z Z) (fun _=>Z) (AE C r g t _ _ _ hr30raw (hall M<|gB_ i) _ _ aq) (fun U aq=>?_);refine O Z (QA 3 Z) Z<|bO aq Z (QH Z Z Z aq.g0 (m:=1) Z Z (cells':=[_,_,_,_,_]) Z) Z (fun U aq=>?_);refine Ou aq 7 [5,1] Z Z<|O Z (QD b Z Z Z (e:=82) Z) Z<|Pv 3 Z<|aE Z (fun h=>?_) (fun h=>?_)
  ·refine P2 aq 4 [5,1] Z Z ?_;obtain⟨s,d⟩:=cm (show 1<x.exprs.length from bu (a:=1) h);refine Qu (e:=82) (m:=4) b d Z Z Z Z (fun P y j z f=>?_);have hr41raw:=f;obtain⟨Q,R,W,X,rfl,A⟩:=f.shape;refine O Z (QG aq j Z Z) Z<|bf Z (Qz Z Z Z) (fun _=>Z) (AE C r g t _ _ _ hr41raw (hall s<|gB_ d) _ _ aq) (fun U aq=>?_);refine O Z (QA 4 Z) Z<|bO aq Z (QH Z Z Z aq.g0 (m:=1) Z Z (cells':=[_,_,_,_,_]) Z) Z (fun U aq=>?_);refine OO 4 Z<|O Z (QC Z aq.g0 (n:=5) (vs:=[_,_,_,_,_]) Z) Z<|z7 aq Z (QH Z Z Z (aq.get 2 Z) (m:=5) Z Z (cells':=[_,_,_,_,_]) Z) Z (fun U aq=>?_);refine Px 3 Z ?_;exact eL Z Z (aq.get 2 Z) (m:=5) Y Z ⟨by show V.agg [.int .i64 x.kind,.int .i64 x.loc,.int .i64 x.order,_,_]=V.agg [.int .i64 x.kind,.int .i64 x.loc,.int .i64 x.order,.int .i64<|fI k aY x 0,.int .i64<|fI k aY x 1];rw[fj i,fj d]<;>rfl,aq.pop.pop.pop⟩
  refine OK 4 Z<|O Z (QC Z aq.g0 (n:=5) (vs:=[_,_,_,_,_]) Z) Z<|z7 aq Z (QH Z Z Z (aq.get 2 Z) (m:=5) Z Z (cells':=[_,_,_,_,_]) Z) Z (fun U aq=>?_);refine Px 3 Z ?_;exact eL Z Z (aq.get 2 Z) (m:=5) Y Z ⟨by show V.agg [.int .i64 x.kind,.int .i64 x.loc,.int .i64 x.order,_,_]=V.agg [.int .i64 x.kind,.int .i64 x.loc,.int .i64 x.order,.int .i64<|fI k aY x 0,.int .i64<|fI k aY x 1];rw[fj i,sL<|bC (a:=1) h]<;>rfl,aq.pop.pop.pop⟩
 refine Ot aq 7 [5,1] Z Z<|O Z (QD b Z Z Z (e:=82) Z) Z<|Pv 3 Z<|aE Z (fun h=>?_) (fun h=>?_)
 ·refine P2 aq 4 [5,1] Z Z ?_;obtain⟨s,d⟩:=cm (show 1<x.exprs.length from bu (a:=1) h);refine Qu (e:=82) (m:=4) b d Z Z Z Z (fun P y j z f=>?_);have hr41raw:=f;obtain⟨Q,R,W,X,rfl,A⟩:=f.shape;refine O Z (QG aq j Z Z) Z<|bf Z (Qz Z Z Z) (fun _=>Z) (AE C r g t _ _ _ hr41raw (hall s<|gB_ d) _ _ aq) (fun U aq=>?_);refine O Z (QA 4 Z) Z<|bO aq Z (QH Z Z Z aq.g0 (m:=1) Z Z (cells':=[_,_,_,_,_]) Z) Z (fun U aq=>?_);refine OO 4 Z<|O Z (QC Z aq.g0 (n:=5) (vs:=[_,_,_,_,_]) Z) Z<|z7 aq Z (QH Z Z Z (aq.get 2 Z) (m:=5) Z Z (cells':=[_,_,_,_,_]) Z) Z (fun U aq=>?_);refine Px 3 Z ?_;exact eL Z Z (aq.get 2 Z) (m:=5) Y Z ⟨by show V.agg [.int .i64 x.kind,.int .i64 x.loc,.int .i64 x.order,_,_]=V.agg [.int .i64 x.kind,.int .i64 x.loc,.int .i64 x.order,.int .i64<|fI k aY x 0,.int .i64<|fI k aY x 1];rw[sL<|bC (a:=0) o,fj d]<;>rfl,aq.pop.pop.pop⟩
 refine OK 4 Z<|O Z (QC Z aq.g0 (n:=5) (vs:=[_,_,_,_,_]) Z) Z<|z7 aq Z (QH Z Z Z (aq.get 2 Z) (m:=5) Z Z (cells':=[_,_,_,_,_]) Z) Z (fun U aq=>?_);refine Px 3 Z ?_;exact eL Z Z (aq.get 2 Z) (m:=5) Y Z ⟨by show V.agg [.int .i64 x.kind,.int .i64 x.loc,.int .i64 x.order,_,_]=V.agg [.int .i64 x.kind,.int .i64 x.loc,.int .i64 x.order,.int .i64<|fI k aY x 0,.int .i64<|fI k aY x 1];rw[sL<|bC (a:=0) o,sL<|bC (a:=1) h]<;>rfl,aq.pop.pop.pop⟩
theorem CO {G:Cx} (h:Plain G) {K:KP} (a:rj) (vv:Int) {U:D} {L:Own} (aq:J U K L):bk Tryz.prog G 92 [.agg [.int .i64 a.kind,.int .i64 a.loc,.int .i64 a.order,.int .i64 a.a,.int .i64 a.b],.int .i64 vv] U fun v U'=>v= .tuple [.agg<|ints (bL a vv).ints,.int .i64<|gY a]/\J U' K L:=by
 refine PS h Tryz.func92 Z<|Pt 2 Z<|kp aq Z (cz Z Z) (fun U b1 aq=>?_);refine kp aq Z (QE (cs:=[T,T,T,T,T])) (fun U b2 aq=>?_);refine OX aq 10 [1,1,2,1] Z Z (O Z (Qy (places:=[(0,1),(1,1),(2,1),(3,1),(4,1)]) (zero:=[T,T,T,T,T]) (cs:=[_,_,_,_,_]) Z) Z<|kp aq Z (QE (cs:=[T,T,T,T,T])) (fun U b3 aq=>?_));refine bO aq Z (QH Z Z Z aq.g0 (m:=5) Z Z (cells':=[_,_,_,_,_]) Z) Z (fun U aq=>?_);refine OW aq 9 [0,2] Z Z<|aN<|Pt 2 Z<|ky Z (az Z Z Z) (fun c=>?_) (fun c=>?_)
 ·refine PE aq 6 [0] Z Z<|bO aq Z (QH Z Z Z aq.g0 (m:=1) Z Z (cells':=[_,_,_,_,_]) Z) Z (fun U aq=>?_);refine af<|aJ<|Pt 2 Z<|O Z (QC Z aq.g0 (n:=5) (vs:=[_,_,_,_,_]) Z) Z<|eh aq Z (QH Z Z Z aq.g1 (m:=5) Z Z (cells':=[_,_,_,_,_]) Z) Z (fun U aq=>?_);refine Px 4 Z ?_;exact br Z Z aq.g1 (m:=5) Y Z Z ⟨by unfold bL gY;simp only[c,ct,cf]<;>rfl,aq.pop.pop.pop⟩
 refine OO 6 Z<|ky Z (az Z Z Z) (fun d=>?_) (fun d=>?_)
 ·refine PC aq 12 [3,2] Z Z<|aE Z (fun f=>?_) (fun f=>?_)
  ·refine P2 aq 4 [4,2,4] Z Z<|bO aq Z (QH Z Z Z aq.g0 (m:=1) Z Z (cells':=[_,_,_,_,_]) Z) Z (fun U aq=>?_);refine af<|aJ<|Pt 2 Z<|O Z (QC Z aq.g0 (n:=5) (vs:=[_,_,_,_,_]) Z) Z<|eh aq Z (QH Z Z Z aq.g1 (m:=5) Z Z (cells':=[_,_,_,_,_]) Z) Z (fun U aq=>?_);refine Px 4 Z ?_;exact br Z Z aq.g1 (m:=5) Y Z Z ⟨by unfold bL gY;simp only[c,d,f,ct,cf]<;>rfl,aq.pop.pop.pop⟩
  refine P2 aq 2 [0] Z Z<|bO aq Z (QH Z Z Z aq.g0 (m:=1) Z Z (cells':=[_,_,_,_,_]) Z) Z (fun U aq=>?_);refine af<|aJ<|Pt 2 Z<|O Z (QC Z aq.g0 (n:=5) (vs:=[_,_,_,_,_]) Z) Z<|eh aq Z (QH Z Z Z aq.g1 (m:=5) Z Z (cells':=[_,_,_,_,_]) Z) Z (fun U aq=>?_);refine Px 4 Z ?_;exact br Z Z aq.g1 (m:=5) Y Z Z ⟨by unfold bL gY;simp only[c,d,f,ct,cf]<;>rfl,aq.pop.pop.pop⟩
 refine OO 6 Z<|ky Z (az Z Z Z) (fun e=>?_) (fun e=>?_)
 ·refine Pw 6 Z ?_;refine O Z (ek (j:=.i64) (k:=.u64) Y Y Y Z) Z ?_;refine P3 aq 2 [3,2] Z Z ?_;refine O Z (ek (j:=.i64) (k:=.u64) Y Y Y Z) Z ?_;refine vQ 1 Z ?_;refine O Z (ek (j:=.u64) (k:=.i64) Y Y Y Z) Z ?_;refine O Z (QA 4 Z) Z<|bO aq Z (QH Z Z Z aq.g0 (m:=1) Z Z (cells':=[_,_,_,_,_]) Z) Z (fun U aq=>?_);refine af<|aJ<|Pt 2 Z<|O Z (QC Z aq.g0 (n:=5) (vs:=[_,_,_,_,_]) Z) Z<|eh aq Z (QH Z Z Z aq.g1 (m:=5) Z Z (cells':=[_,_,_,_,_]) Z) Z (fun U aq=>?_);refine Px 4 Z ?_;exact br Z Z aq.g1 (m:=5) Y Z Z ⟨by unfold bL gY;simp only[c,d,e,ct,cf]<;>rfl,aq.pop.pop.pop⟩
 refine OO 6 Z<|ky Z (az Z Z Z) (fun g=>?_) (fun g=>?_)
 ·refine PE aq 8 [3,2,4] Z Z<|bO aq Z (QH Z Z Z aq.g0 (m:=1) Z Z (cells':=[_,_,_,_,_]) Z) Z (fun U aq=>?_);refine af<|aJ<|Pt 2 Z<|O Z (QC Z aq.g0 (n:=5) (vs:=[_,_,_,_,_]) Z) Z<|eh aq Z (QH Z Z Z aq.g1 (m:=5) Z Z (cells':=[_,_,_,_,_]) Z) Z (fun U aq=>?_);refine Px 4 Z ?_;exact br Z Z aq.g1 (m:=5) Y Z Z ⟨by unfold bL gY;simp only[c,d,e,g,ct,cf]<;>rfl,aq.pop.pop.pop⟩
 refine OO 6 Z (O Z (Qy (places:=[(0,1),(1,1),(2,1),(3,1),(4,1)]) (zero:=[T,T,T,T,T]) (cs:=[_,_,_,_,_]) Z) Z<|eh aq Z (QH Z Z Z aq.g1 (m:=5) Z Z (cells':=[_,_,_,_,_]) Z) Z (fun U aq=>?_));refine Px 4 Z<|aF<|aw (?_);exact br Z Z aq.g1 (m:=5) Y Z Z ⟨by unfold bL gY;simp only[c,d,e,g,ct,cf]<;>rfl,aq.pop.pop.pop⟩
theorem Hr {G:Cx} (x:Plain G) {K:KP} {es:List db} {v:V} (h:bR K 5 iU es v) (hl:es.length<=100000) {U:D} {L:Own} (aq:J U K L):bk Tryz.prog G 79 [v] U fun v U'=>∃M,cQ 1 2 dy (dg es) v M/\J U' K (M++L):=by
 refine PS x Tryz.func79 Z<|Pt 7 Z ?_;obtain⟨LB,aq,n⟩:=aq.named;refine On 7 Z<|O Z (QD h Z Z Z (e:=56) Z) Z<|OM 4 Z<|bp ([3,5]++rg 8 18) (fun j t U=>∃(i:Nat) (u:V) (M:Own),j+i=es.length/\cQ 1 2 dy (dg<|es.take i) u M/\t.get 3=some (u)/\t.get 8=some (.int .i64 (.ofNat i))/\J U K (M++LB)) (es.length) ⟨0,.ax,[],Z,.inl ⟨Z,Z,Z⟩,Z,Z,aq⟩ ?_;clear aq;intro o t U ar y;obtain⟨i,u,M,ag,g,p,q,aq⟩:=y;obtain⟨oo,rfl⟩:=ar.q2 p q Z;refine Ps 6 Z<|aE Z (fun r=>?_) (fun r=>?_)
 ·refine NP 6 Z ?_;obtain⟨a,b,aa⟩:=cL r;refine Qu (e:=56) (m:=5) h b Z Z Z Z (fun am ab k ac l=>?_);obtain rfl:=l;refine O Z (QG aq k Z Z) Z<|kp aq Z (QE (cs:=[T,T,T,T,T])) (fun U b1 aq=>?_);refine bO aq Z (QH Z Z Z aq.g0 (m:=5) Z Z (cells':=[_,_,_,_,_]) Z) Z (fun U aq=>?_);refine OX aq 7 [0,0] Z Z<|ky Z (an Z) (fun d=>?_) (fun d=>?_)
  ·refine PE aq 11 [3,0] Z Z<|gT aq Z (bY (e:=2) (m:=1) (z:=[T]) (cs:=[_]) Y Y Y Y<|bD Z Z Z Z bJ) (fun _=>Z) (fun U A aq=>?_);replace aq:=aq.Ie;obtain⟨U,s,w,c,hO2,aq⟩:=fJ (P:=Tryz.prog) (ts:= #[22,22]) (t:=22) (e:=2) (l2:=[a.read]) g aq (fK (xs:=[a.read]) (.inr ⟨Z,Z⟩) (by simp)) dy.leaf (by simp) (by simp) (by have:=mj (es.take i);rw[lT_] at this;omega) Z Y Y Y;refine O Z (dM Z Z Z Z Y c) Z<|PY 2 Z<|aJ<|PW 4 Z<|aO ⟨o-1,by omega,oF,i+1,s,w,by omega,by rw[jG b,show dD a=true from by unfold dD;rw[d];rfl];exact hO2,Z,cI<|bg (by have:=h.bG;omega),aq⟩
  refine PC aq 6 [0,0] Z Z<|aE Z (fun f=>?_) (fun f=>?_)
  ·refine P2 aq 4 [3,0] Z Z<|gT aq Z (bY (e:=2) (m:=1) (z:=[T]) (cs:=[_]) Y Y Y Y<|bD Z Z Z Z bJ) (fun _=>Z) (fun U A aq=>?_);replace aq:=aq.Ie;obtain⟨U,s,w,c,hO2,aq⟩:=fJ (P:=Tryz.prog) (ts:= #[22,22]) (t:=22) (e:=2) (l2:=[a.read]) g aq (fK (xs:=[a.read]) (.inr ⟨Z,Z⟩) (by simp)) dy.leaf (by simp) (by simp) (by have:=mj (es.take i);rw[lT_] at this;omega) Z Y Y Y;refine O Z (dM Z Z Z Z Y c) Z<|PY 2 Z<|aJ<|PW 4 Z<|aO ⟨o-1,by omega,oF,i+1,s,w,by omega,by rw[jG b,show dD a=true from by unfold dD;rw[d];exact f];exact hO2,Z,cI<|bg (by have:=h.bG;omega),aq⟩
  refine aG<|aJ<|PW 4 Z ?_;have aq:=aq.pop;refine aO ⟨o-1,by omega,oF,i+1,u,M,by omega,by rw[jG b,show dD a=false from by unfold dD;rw[d];exact f];simpa using g,Z,cI<|bg (by have:=h.bG;omega),aq⟩
 refine OL 3 Z<|aT<|PX 7 Z ?_;subst n;exact aA Z Z ⟨M,by rw[tL_<|bC r] at g;exact g,aq⟩
theorem Hs {G:Cx} (z:Plain G) {K:KP} {l1 l2:List db} {w x:V} (u:bR K 5 iU l1 w) (y:bR K 5 iU l2 x) {U:D} {L:Own} (aq:J U K L):bk Tryz.prog G 115 [w,x] U fun v U'=>v= .bool (dk l1 l2)/\J U' K L:=by
 refine PS z Tryz.func115 Z<|OI 9 Z<|O Z (QD u Z Z Z (e:=56) Z) Z<|vQ 1 Z<|O Z (QD y Z Z Z (e:=56) Z) Z<|Pv 3 Z<|aE Z (fun b=>?_) (fun b=>?_)
 ·refine Pu 7 Z ?_;exact aA Z Z ⟨by first | rw[eZ<|bT b] | rw[fA c d<|db.same.symm.trans<|bT f] | rw[ei (dB<|bj b) (bC g) a],aq⟩
 refine Ol 6 Z<|O Z (QD u Z Z Z (e:=56) Z) Z<|OM 4 Z ?_;obtain⟨LL1,aq,hLL1⟩:=aq.named;refine bp ([4,5]++rg 13 13) (fun j t U=>∃(i:Nat),j+i=l1.length/\(∀k,k<i->l1[k]?=l2[k]?)/\t.get 13=some (.int .i64 (.ofNat i))/\J U K LL1) (l1.length) ⟨0,Z,fun k A=>absurd A (nZ_ _),Z,aq⟩ ?_;clear aq;intro C t U ar E;obtain⟨i,hj,a,h,aq⟩:=E;subst hLL1;obtain⟨oo,rfl⟩:=ar.q1 h Z;refine Ps 6 Z<|aE Z (fun g=>?_) (fun g=>?_)
 ·refine NO 11 Z<|aS (l:=zp [0,1,2,3,4,5,6,7,8]) Y Y<|P1 2 Z ?_;obtain⟨am,c,o⟩:=cL g;refine Qv (e:=56) (m:=5) u c Z Z Z Z Z (fun ao aa p ab q=>?_);obtain rfl:=q;refine al Z Z (QG aq p Z Z) Z<|P1 2 Z ?_;obtain⟨ap,d⟩:=cm (show i<l2.length from by rw[<-dB (bj b)];exact o);refine Qv (e:=56) (m:=5) y d Z Z Z Z Z (fun ax ac r ag s=>?_);obtain rfl:=s;refine al Z Z (QG aq r Z Z) Z<|al Z Z (zw (n:=5) (ca:=[_,_,_,_,_]) (cb:=[_,_,_,_,_]) Y Z Z Z Z) Z<|Py 2 Z<|aE Z (fun f=>?_) (fun f=>?_)
  ·refine PX 6 Z<|aF<|aw<|bz<|aF<|aw (?_);exact aA Z Z ⟨by first | rw[eZ<|bT b] | rw[fA c d<|db.same.symm.trans<|bT f] | rw[ei (dB<|bj b) (bC g) a],aq⟩
  refine aG<|aJ<|PW 4 Z<|aO ⟨C-1,by omega,oF,i+1,by omega,jH a c d<|db.same.symm.trans<|bj f,cI<|bg (by have:=u.bG;omega),aq⟩
 refine OL 3 Z<|aT<|PX 6 Z ?_;exact aA Z Z ⟨by first | rw[eZ<|bT b] | rw[fA c d<|db.same.symm.trans<|bT f] | rw[ei (dB<|bj b) (bC g) a],aq⟩
theorem NC {G:Cx} (f:Plain G) {K:KP} {s:TS} {evv:V} (b:bR K 5 iU s.events evv) {tb et:Nat} {ro:Bool} {h i j n o c6 p:V} (g:K tb (.row [h,i,j,n,evv,o,c6,p] et ro)) {l:List db} {lv:V} (d:bR K 5 iU l lv) {U:D} {L:Own} (aq:J U K L):
  bk Tryz.prog G 80 [.ptr tb 0,lv] U fun v U'=>v= .bool (pw s l)/\J U' K L:=by
 refine PS f Tryz.func80 Z<|Pt 8 Z<|O Z (eW Z) Z<|O Z (QA 4 Z) Z<|O Z (QB Z (aq.fq g) Z) Z<|O Z (QD b Z Z Z (e:=56) Z) Z<|vQ 1 Z<|O Z (QD d Z Z Z (e:=56) Z) Z<|vQ 1 Z<|ky Z (an Z) (fun a=>?_) (fun a=>?_)
 ·refine vQ 1 Z<|O Z (eW Z) Z<|O Z (QA 4 Z) Z<|O Z (QB Z (aq.fq g) Z) Z<|vQ 1 Z<|O Z (QD d Z Z Z (e:=56) Z) Z<|G9 (e:=56) (m:=5) (k:=l.length) b (bC<|bT a) Z Z Y Y Z Z (fun _=>Z) (fun aa c=>?_);refine vQ 1 Z<|bf Z (Qz Z Z Z) (fun _=>Z) (Hs f c d aq) (fun U aq=>?_);refine Px 5 Z ?_;exact aA Z Z ⟨cB (by unfold pw;rw[show bU (.ofNat s.events.length) (.ofNat l.length)=false from bT a]<;>rfl),aq⟩
 refine Px 14 Z ?_;exact aA Z Z ⟨cB (by unfold pw;rw[show bU (.ofNat s.events.length) (.ofNat l.length)=true from bj a]<;>rfl),aq⟩
theorem LJ {G:Cx} (d:Plain G) {K:KP} (a:rh G K) {k:Nat} {c:XC} {v:V} (f:bR K 6 (iI K k) c.ins v) {U:D} {L:Own} (aq:J U K L):
  bk Tryz.prog G 77 [.agg [.int .i64 c.aY,v]] U fun v U'=>v= .int .i64 (fE k c)/\J U' K L:=by
 refine PS d Tryz.func77 Z<|Pt 2 Z<|kp aq Z (cz Z Z) (fun U b1 aq=>?_);refine On 6 Z<|O Z (QC Z aq.g0 (n:=2) (vs:=[_,_]) Z) Z<|bf Z (Qz Z Z Z) (fun _=>Z) (Nw d a f aq) (fun U aq=>?_);refine Pv 2 Z<|aE Z (fun b=>?_) (fun b=>?_)
 ·refine Pu 7 Z ?_;exact aA Z Z ⟨cJ (by unfold fE;rw[b];rfl),aq.pop⟩
 refine Ol 5 Z<|O Z (QC Z aq.g0 (n:=2) (vs:=[_,_]) Z) Z<|bf Z (Qz Z Z Z) (fun _=>Z) (zm d a f aq) (fun U aq=>?_);refine Pv 9 Z<|aE Z (fun e=>?_) (fun e=>?_)
 ·refine Pu 8 Z ?_;exact aA Z Z ⟨cJ (by unfold fE;rw[b,show aX (I (dq k c) 0)=true from e];rfl),aq.pop⟩
 refine Pu 8 Z ?_;exact aA Z Z ⟨cJ (by unfold fE;rw[b,show aX (I (dq k c) 0)=false from e];rfl),aq.pop⟩
end Go.Ev
namespace Go.Ev
variable [Env]
def vr (k:Nat) (c:XC) (A:List Int):Nat->TS->TS
 | 0,s=>s
 | f+1,s=>bif (cj k c s).2 then vr k c A f (cj k c s).1 else
  bif (cj k c s).1.asks then(match A[s.asked]? with | some v=>vr k c A f (eA k c (cj k c s).1 v) | none=>(cj k c s).1) else(cj k c s).1
theorem Iz {k:Nat} {c:XC} {out:List Nat} (b:fg (dj c) c.ins.length out):∀(q:Nat) (s:TS) (f f':Nat),out[q]?=some s.at_->q<f->q<f'->vj k c f s=vj k c f' s:=by
 intro q;induction q using Nat.strongRecOn with
 | _ q ih=>
  intro s f f' d h1 h2;cases a:(cj k c s).2 with
  | false=>rw[wE B a,wE B a]
  | true=>
   rw[sO B a,sO B a];obtain⟨x,e⟩:∃x,c.ins[s.at_]?=some x:=⟨_,gC<|b.lt _<|gB_ d⟩;obtain⟨q',g,h⟩:=oe b e d a;exact ih q' g _ _ _ h B B
theorem uX {k:Nat} {c:XC} {s:TS}:(cj k c s).1.asked=s.asked:=(qv k c s).2
theorem Jw {k:Nat} {c:XC} {A:List Int} {s:TS} (h:s.asks=false):jR k c A s=s:=by
 cases A with
 | nil=>rfl
 | cons v r=>unfold jR;rw[h];rfl
theorem Bg {k:Nat} {c:XC} {s:TS} (h:lJ c s) (b:s.asks=true) (v:Int):(eA k c s v).at_∈dj c s.at_:=by
 obtain⟨x,d,a⟩:=h b;show s.at_+1∈dj c s.at_;unfold dj;rw[d];show _∈(gN x s.at_).map Int.toNat
 have:gN x s.at_= [.ofNat (s.at_+1)]:=by
  unfold gN;rcases a with a | a | a | a<;>rw[a]<;>rfl
 rw[this];simp
theorem MV {k:Nat} {c:XC} (j:eX k c) {out:List Nat} (l:fT c=some out) (b:fg (dj c) c.ins.length out) (A:List Int):
  ∀(f q:Nat) (s:TS),s.asks=false->out[q]?=some s.at_->q<f->vr k c A f s=jR k c (A.drop s.asked) (vj k c f s):=by
 intro f;induction f with
 | zero=>intro q s _ _ h;omega
 | succ f ih=>
  intro q s m d aa;obtain⟨x,n⟩:∃x,c.ins[s.at_]?=some x:=⟨_,gC<|b.lt _<|gB_ d⟩;have hask:=uh (k:=k) j m;unfold vr;cases a:(cj k c s).2 with
  | true=>
   obtain⟨q',o,e⟩:=oe b n d a;show vr k c A f (cj k c s).1=_;rw[ih q' _ (hask.2 a) e B,uX,sO B a];rfl
  | false=>
   rw[wE B a];show(bif (cj k c s).1.asks then _ else _)=_;cases g:(cj k c s).1.asks with
   | false=>rw[Jw g];rfl
   | true=>
    show(match A[s.asked]? with | some v=>_ | none=>_)=_;cases i:A[s.asked]? with
    | none=>rw[fO (List.getElem?_eq_none_iff.1 i)];rfl
    | some v=>
     dsimp only;have aq:(cj k c s).1.at_=s.at_:=su a;have hn:=Bg (k:=k) hask.1 g v;rw[aq] at hn;obtain⟨q',o,e⟩:=b.Ae q _ d _ hn;have hql:=(gA.1 d).1;rw[ih q' _ Z e B,cR i];show jR k c (A.drop ((cj k c s).1.asked+1)) _=(bif (cj k c s).1.asks then _ else _);rw[g,uX];show _=jR k c (A.drop (s.asked+1)) (dY k c (cj k c s).1 v);unfold dY;rw[Iz b q' _ f (jo c) e B (by unfold jo;rw[l];show q'<out.length;omega)]
theorem KO {k:Nat} {c:XC} (e:eX k c) {out:List Nat} (a:fT c=some out) (b:fg (dj c) c.ins.length out) (A:List Int):vr k c A out.length (hU c)=gx k c A:=by
 obtain⟨q,d⟩:=gO_ b.zero;have hl:=(gA.1 d).1;rw[MV e a b A _ q (hU c) Z d hl];show jR k c A _=jR k c A (vj k c (jo c) _);unfold jo;rw[a];rfl
theorem KQ {k:Nat} {c:XC} {A:List Int} {j:Nat} {s:TS} (hj:1<=j) (h:(cj k c s).2=true):vr k c A j s=vr k c A (j-1) (cj k c s).1:=by
 obtain⟨j,rfl⟩:∃m,j=m+1:=⟨j-1,by omega⟩;show(bif _ then _ else _)=_;rw[h];rfl
theorem KN {k:Nat} {c:XC} {A:List Int} {j:Nat} {s:TS} {v:Int} (hj:1<=j) (h:(cj k c s).2=false) (a:(cj k c s).1.asks=true) (b:A[s.asked]?=some v):vr k c A j s=vr k c A (j-1) (eA k c (cj k c s).1 v):=by
 obtain⟨j,rfl⟩:∃m,j=m+1:=⟨j-1,by omega⟩;show(bif _ then _ else bif _ then _ else _)=_;rw[h,a,b];rfl
theorem MW {k:Nat} {c:XC} {A:List Int} {j:Nat} {s:TS} (hj:1<=j) (h:(cj k c s).2=false) (a:(cj k c s).1.asks=true->A[s.asked]?=none):vr k c A j s=(cj k c s).1:=by
 obtain⟨j,rfl⟩:∃m,j=m+1:=⟨j-1,by omega⟩;show(bif _ then _ else bif _ then _ else _)=_;rw[h];cases b:(cj k c s).1.asks with
 | false=>rfl
 | true=>rw[a b];rfl
end Go.Ev
namespace Go.Ev
variable [Env]
open Go.Proofs
set_option maxRecDepth 4000
set_option maxHeartbeats 8000000
theorem Bu {G:Cx} (h:Plain G) {K:KP} (a:rj) (vv:Int) {U:D} {L:Own} (aq:J U K L):bk Tryz.prog G 94 [.agg [.int .i64 a.kind,.int .i64 a.loc,.int .i64 a.order,.int .i64 a.a,.int .i64 a.b],.int .i64 vv] U fun v U'=>v= .tuple [.agg<|ints (bL a vv).ints,.int .i64<|gY a]/\J U' K L:=by
 refine PS h Tryz.func94 Z<|Pt 2 Z<|kp aq Z (cz Z Z) (fun U b1 aq=>?_);refine kp aq Z (QE (cs:=[T,T,T,T,T])) (fun U b2 aq=>?_);refine OX aq 10 [1,1,2,1] Z Z (O Z (Qy (places:=[(0,1),(1,1),(2,1),(3,1),(4,1)]) (zero:=[T,T,T,T,T]) (cs:=[_,_,_,_,_]) Z) Z<|kp aq Z (QE (cs:=[T,T,T,T,T])) (fun U b3 aq=>?_));refine bO aq Z (QH Z Z Z aq.g0 (m:=5) Z Z (cells':=[_,_,_,_,_]) Z) Z (fun U aq=>?_);refine OW aq 9 [0,2] Z Z<|aN<|Pt 2 Z<|ky Z (az Z Z Z) (fun c=>?_) (fun c=>?_)
 ·refine PE aq 6 [0] Z Z<|bO aq Z (QH Z Z Z aq.g0 (m:=1) Z Z (cells':=[_,_,_,_,_]) Z) Z (fun U aq=>?_);refine af<|aJ<|Pt 2 Z<|O Z (QC Z aq.g0 (n:=5) (vs:=[_,_,_,_,_]) Z) Z<|eh aq Z (QH Z Z Z aq.g1 (m:=5) Z Z (cells':=[_,_,_,_,_]) Z) Z (fun U aq=>?_);refine Px 4 Z ?_;exact br Z Z aq.g1 (m:=5) Y Z Z ⟨by unfold bL gY;simp only[c,ct,cf]<;>rfl,aq.pop.pop.pop⟩
 refine OO 6 Z<|ky Z (az Z Z Z) (fun d=>?_) (fun d=>?_)
 ·refine PC aq 12 [3,2] Z Z<|aE Z (fun f=>?_) (fun f=>?_)
  ·refine P2 aq 2 [0] Z Z<|bO aq Z (QH Z Z Z aq.g0 (m:=1) Z Z (cells':=[_,_,_,_,_]) Z) Z (fun U aq=>?_);refine af<|aJ<|Pt 2 Z<|O Z (QC Z aq.g0 (n:=5) (vs:=[_,_,_,_,_]) Z) Z<|eh aq Z (QH Z Z Z aq.g1 (m:=5) Z Z (cells':=[_,_,_,_,_]) Z) Z (fun U aq=>?_);refine Px 4 Z ?_;exact br Z Z aq.g1 (m:=5) Y Z Z ⟨by unfold bL gY;simp only[c,d,bT f,ct,cf]<;>rfl,aq.pop.pop.pop⟩
  refine P2 aq 4 [4,2,4] Z Z<|bO aq Z (QH Z Z Z aq.g0 (m:=1) Z Z (cells':=[_,_,_,_,_]) Z) Z (fun U aq=>?_);refine af<|aJ<|Pt 2 Z<|O Z (QC Z aq.g0 (n:=5) (vs:=[_,_,_,_,_]) Z) Z<|eh aq Z (QH Z Z Z aq.g1 (m:=5) Z Z (cells':=[_,_,_,_,_]) Z) Z (fun U aq=>?_);refine Px 4 Z ?_;exact br Z Z aq.g1 (m:=5) Y Z Z ⟨by unfold bL gY;simp only[c,d,bj f,ct,cf]<;>rfl,aq.pop.pop.pop⟩
 refine OO 6 Z<|ky Z (az Z Z Z) (fun e=>?_) (fun e=>?_)
 ·refine Pw 6 Z ?_;refine O Z (ek (j:=.i64) (k:=.u64) Y Y Y Z) Z ?_;refine P3 aq 2 [3,2] Z Z ?_;refine O Z (ek (j:=.i64) (k:=.u64) Y Y Y Z) Z ?_;refine vQ 1 Z ?_;refine O Z (ek (j:=.u64) (k:=.i64) Y Y Y Z) Z ?_;refine O Z (QA 4 Z) Z<|bO aq Z (QH Z Z Z aq.g0 (m:=1) Z Z (cells':=[_,_,_,_,_]) Z) Z (fun U aq=>?_);refine af<|aJ<|Pt 2 Z<|O Z (QC Z aq.g0 (n:=5) (vs:=[_,_,_,_,_]) Z) Z<|eh aq Z (QH Z Z Z aq.g1 (m:=5) Z Z (cells':=[_,_,_,_,_]) Z) Z (fun U aq=>?_);refine Px 4 Z ?_;exact br Z Z aq.g1 (m:=5) Y Z Z ⟨by unfold bL gY;simp only[c,d,e,ct,cf]<;>rfl,aq.pop.pop.pop⟩
 refine OO 6 Z<|ky Z (az Z Z Z) (fun g=>?_) (fun g=>?_)
 ·refine PE aq 8 [3,2,4] Z Z<|bO aq Z (QH Z Z Z aq.g0 (m:=1) Z Z (cells':=[_,_,_,_,_]) Z) Z (fun U aq=>?_);refine af<|aJ<|Pt 2 Z<|O Z (QC Z aq.g0 (n:=5) (vs:=[_,_,_,_,_]) Z) Z<|eh aq Z (QH Z Z Z aq.g1 (m:=5) Z Z (cells':=[_,_,_,_,_]) Z) Z (fun U aq=>?_);refine Px 4 Z ?_;exact br Z Z aq.g1 (m:=5) Y Z Z ⟨by unfold bL gY;simp only[c,d,e,g,ct,cf]<;>rfl,aq.pop.pop.pop⟩
 refine OO 6 Z (O Z (Qy (places:=[(0,1),(1,1),(2,1),(3,1),(4,1)]) (zero:=[T,T,T,T,T]) (cs:=[_,_,_,_,_]) Z) Z<|eh aq Z (QH Z Z Z aq.g1 (m:=5) Z Z (cells':=[_,_,_,_,_]) Z) Z (fun U aq=>?_));refine Px 4 Z<|aF<|aw (?_);exact br Z Z aq.g1 (m:=5) Y Z Z ⟨by unfold bL gY;simp only[c,d,e,g,ct,cf]<;>rfl,aq.pop.pop.pop⟩
theorem Gj {G:Cx} (hG:Plain G) {K:KP} {es:List db} {v:V} (h:bR K 5 iU es v) (hl:es.length<=100000) {U:D} {L:Own} (aq:J U K L):bk Tryz.prog G 86 [v] U fun v U'=>∃M,cQ 1 2 dy (dg es) v M/\J U' K (M++L):=by
 refine PS hG Tryz.func86 Z<|OH 17 Z<|bp (rg 3 30) (fun j t U=>∃(i:Nat) (u:V) (M:Own),j+i=es.length/\cQ 1 2 dy (dg<|es.take i) u M/\t.get 3=some (u)/\t.get 4=some (.int .i64 (.ofNat i))/\J U K (M++L)) (es.length) ⟨0,.ax,[],Z,cQ.nil,Z,Z,aq⟩ ?_;clear aq;intro F t U ar hI;obtain⟨i,u,M,ap,q,P,Q,aq⟩:=hI;obtain⟨oo,rfl⟩:=ar.q2 P Q Z;refine OI 5 Z<|O Z (QD h Z Z Z (e:=56) Z) Z<|Pv 3 Z<|aE Z (fun f=>?_) (fun f=>?_)
 ·refine NP 8 Z ?_;obtain⟨l,a,ab⟩:=cL f;refine Qu (e:=56) (m:=5) h a Z Z Z Z (fun aI ac r ag s=>?_);obtain rfl:=s;refine cq r Z Z Z (k:=0) Y (lb Z) (fun _=>Z) (fun aY w=>?_);refine O Z (QF aq w Z Z) Z<|ky Z (az Z Z Z) (fun g=>?_) (fun g=>?_)
  ·refine Pw 15 Z<|Qu (e:=56) (m:=5) h a Z Z Z Z (fun W x b y c=>?_);obtain rfl:=c;refine cq b Z Z Z (k:=3) Y (lb Z) (fun _=>Z) (fun aa d=>?_);refine O Z (QF aq d Z Z) Z<|gT aq Z (bY (e:=2) (m:=1) (z:=[T]) (cs:=[_]) Y Y Y Y<|bD Z Z Z Z bJ) (fun _=>Z) (fun U b1 aq=>?_);replace aq:=aq.pull (.there .here);replace aq:=aq.pull (.cM<|ep.here (X:=[_]));refine sk (R:=dy) (m:=1) (e:=2) q aq (eU (m:=1) Z Z) dy.leaf (by have:=mj (es.take i);rw[lT_] at this;show _+1<=_;omega) Z Z Z Z Z Z Z (fun _=>Z) (fun U n o hO32 aq=>?_);refine PY 2 Z<|aJ<|PW 5 Z<|aO ⟨F-1,(by have:=bu f;omega),oF,i+1,n,o,(by have:=bu f;omega),(by rw[jG a,show dD l=true from by unfold dD;rw[g];rfl];exact hO32),Z,cI<|bg (by have:=h.bG;omega),aq⟩
  refine PZ 3 Z<|Qu (e:=56) (m:=5) h a Z Z Z Z (fun a0 am A ao C=>?_);obtain rfl:=C;refine cq A Z Z Z (k:=0) Y (lb Z) (fun _=>Z) (fun a1 E=>?_);refine O Z (QF aq E Z Z) Z<|Pv 4 Z<|aE Z (fun p=>?_) (fun p=>?_)
  ·refine ai Z<|PZ 3 Z<|Qu (e:=56) (m:=5) h a Z Z Z Z (fun W x b y c=>?_);obtain rfl:=c;refine cq b Z Z Z (k:=3) Y (lb Z) (fun _=>Z) (fun aa d=>?_);refine O Z (QF aq d Z Z) Z<|gT aq Z (bY (e:=2) (m:=1) (z:=[T]) (cs:=[_]) Y Y Y Y<|bD Z Z Z Z bJ) (fun _=>Z) (fun U b1 aq=>?_);replace aq:=aq.pull (.there .here);replace aq:=aq.pull (.cM<|ep.here (X:=[_]));refine sk (R:=dy) (m:=1) (e:=2) q aq (eU (m:=1) Z Z) dy.leaf (by have:=mj (es.take i);rw[lT_] at this;show _+1<=_;omega) Z Z Z Z Z Z Z (fun _=>Z) (fun U n o hO32 aq=>?_);refine PY 2 Z<|aJ<|PW 5 Z<|aO ⟨F-1,(by have:=bu f;omega),oF,i+1,n,o,(by have:=bu f;omega),(by rw[jG a,show dD l=true from by unfold dD;rw[g];exact p];exact hO32),Z,cI<|bg (by have:=h.bG;omega),aq⟩
  refine aG<|aJ<|PW 5 Z<|aO ⟨F-1,(by have:=bu f;omega),oF,i+1,u,M,(by have:=bu f;omega),(by rw[jG a,show dD l=false from by unfold dD;rw[g];exact p];simpa using q),Z,cI<|bg (by have:=h.bG;omega),aq⟩
 refine OL 3 Z<|aT<|PX 7 Z ?_;exact aA Z Z ⟨M,by rw[tL_<|bC f] at q;exact q,aq⟩
def zR (l of_:List db):Bool:=bif bU (.ofNat of_.length) (.ofNat l.length) then false else dk (of_.take l.length) l
theorem Kz {G:Cx} (z:Plain G) {K:KP} {l of_:List db} {w x:V} (s:bR K 5 iU l w) (y:bR K 5 iU of_ x) {U:D} {L:Own} (aq:J U K L):bk Tryz.prog G 87 [w,x] U fun v U'=>v= .bool (zR l of_)/\J U' K L:=by
 refine PS z Tryz.func87 Z<|OI 9 Z<|O Z (QD s Z Z Z (e:=56) Z) Z<|vQ 1 Z<|O Z (QD y Z Z Z (e:=56) Z) Z<|Pv 3 Z<|aE Z (fun a=>?_) (fun a=>?_)
 ·refine Pu 7 Z ?_;exact aA Z Z ⟨cB (by unfold zR;rw[a];rfl),aq⟩
 refine Ok 9 Z ?_;obtain⟨LL1,aq,hLL1⟩:=aq.named;refine bp ([4,5]++rg 11 15) (fun j t U=>∃(i:Nat),j+i=l.length/\(∀k,k<i->l[k]?=of_[k]?)/\t.get 5=some (.int .i64 (.ofNat i))/\J U K LL1) (l.length) ⟨0,Z,fun k A=>absurd A (nZ_ _),Z,aq⟩ ?_;clear aq;intro C t U ar E;obtain⟨i,hj,c,u,aq⟩:=E;subst hLL1;obtain⟨oo,rfl⟩:=ar.q1 u Z;refine OI 5 Z<|O Z (QD s Z Z Z (e:=56) Z) Z<|Pv 3 Z<|aE Z (fun b=>?_) (fun b=>?_)
 ·refine NO 5 Z<|aS (l:=zp [0,1,2,3,4,5,6,7,8]) Y Y<|P1 2 Z ?_;obtain⟨ao,d,aa⟩:=cL b;refine Qv (e:=56) (m:=5) s d Z Z Z Z Z (fun ap ab h ac o=>?_);obtain rfl:=o;refine al Z Z (QG aq h Z Z) Z<|P1 2 Z ?_;obtain⟨ax,f⟩:=cm (show i<of_.length from by have:=bC a;omega);refine Qv (e:=56) (m:=5) y f Z Z Z Z Z (fun aI ag p am r=>?_);obtain rfl:=r;refine al Z Z (QG aq p Z Z) Z<|al Z Z (zw (n:=5) (ca:=[_,_,_,_,_]) (cb:=[_,_,_,_,_]) Y Z Z Z Z) Z<|Py 2 Z<|aE Z (fun g=>?_) (fun g=>?_)
  ·refine PX 6 Z<|aF<|aw<|bz<|aF<|aw (?_);exact aA Z Z ⟨cB (by unfold zR;rw[a];show _=dk (of_.take l.length) l;rw[fA (i:=i) (by rw[List.getElem?_take,if_pos<|bu b];exact f) d (by have:=db.same.symm.trans (bT g);rw[mV] at this⊢;exact fun e=>this e.symm)]),aq⟩
  refine aG<|aJ<|PW 5 Z<|aO ⟨C-1,(by have:=bu b;omega),oF,i+1,(by have:=bu b;omega),jH c d f<|db.same.symm.trans<|bj g,cI<|bg (by have:=s.bG;omega),aq⟩
 refine OL 3 Z<|aT<|PX 6 Z ?_;exact aA Z Z ⟨cB (by unfold zR;rw[a];show _=dk (of_.take l.length) l;rw[ei (i:=i) (by rw[lT_];have:=bC a;omega) (by rw[lT_];have:=bC b;omega) (fun q F=>by rw[List.getElem?_take];split;exact(c q F).symm;exact(gN_ B).symm)]),aq⟩
end Go.Ev
namespace Go.Ev
variable [Env]
def vG (kind:Int):Bool:=bif I kind 2 then true else bif I kind 4 then true else bif I kind 5 then true else I kind 6
theorem Kh {n:Int} (h:vG n=true):n=2∨n=4∨n=5∨n=6:=by
 unfold vG at h;cases a:I n 2 with
 | true=>exact .inl (eqv a)
 | false=>
 cases b:I n 4 with
 | true=>exact .inr (.inl<|eqv b)
 | false=>
 cases d:I n 5 with
 | true=>exact .inr (.inr (.inl<|eqv d))
 | false=>
  rw[a,b,d] at h;exact .inr (.inr (.inr<|eqv h))
section
variable {k:Nat} {x:XI} {s:TS}
theorem JI (h:x.kind=1):dL k x s=({s with aY:=s.aY.set x.pc.toNat (fI k s.aY x 0),at_:=s.at_+1},true):=by unfold dL;rw[h];rfl
theorem EA (h:x.kind=3):dL k x s=({s with events:=s.events++[⟨2,x.loc,x.order,0,fI k s.aY x 0⟩],at_:=s.at_+1},true):=by unfold dL;rw[h];rfl
theorem Ey (h:x.kind=7):dL k x s=({s with events:=s.events++[⟨4,0,x.order,0,0⟩],at_:=s.at_+1},true):=by unfold dL;rw[h];rfl
theorem Hp (h:x.kind=10):dL k x s=({s with at_:=x.to.toNat},true):=by unfold dL;rw[h];rfl
theorem Ez (h:x.kind=8∨x.kind=9) (a:I (fI k s.aY x 0) 0=false):dL k x s=({s with at_:=s.at_+1},true):=by
 unfold dL;rcases h with h | h<;>rw[h,a]<;>rfl
theorem step_block (h:x.kind=8) (a:I (fI k s.aY x 0) 0=true):dL k x s=({s with fin:=2},false):=by unfold dL;rw[h,a];rfl
theorem Ho (h:x.kind=9) (a:I (fI k s.aY x 0) 0=true):dL k x s=({s with fin:=3},false):=by unfold dL;rw[h,a];rfl
theorem JD (h:x.kind=11) (a:I (fI k s.aY x 0) 0=true):dL k x s=({s with at_:=x.to.toNat},true):=by unfold dL;rw[h,a];rfl
theorem JE (h:x.kind=11) (a:I (fI k s.aY x 0) 0=false):dL k x s=({s with at_:=s.at_+1},true):=by unfold dL;rw[h,a];rfl
theorem Ew (h:x.kind=12):dL k x s=({s with fin:=4},false):=by unfold dL;rw[h];rfl
theorem step_done (h:x.kind=13):dL k x s=({s with fin:=1},false):=by unfold dL;rw[h];rfl
theorem CD (h:x.kind=2∨x.kind=4∨x.kind=5∨x.kind=6):dL k x s=({s with asks:=true},false):=by
 unfold dL;rcases h with h | h | h | h<;>rw[h]<;>rfl
theorem yL {i:Nat} {aY:List Int}:fI k aY x i=((x.exprs.map<|eJ aY k)[i]?).getD 0:=by unfold fI;rw[gM_]
theorem lU {i:Nat} {aY:List Int} {y:Int} (h:(x.exprs.map<|eJ aY k)[i]?=some y):fI k aY x i=y:=by rw[yL,h];rfl
theorem Fa {i:Nat} {aY:List Int} (h:(x.exprs.map<|eJ aY k).length<=i):fI k aY x i=0:=by rw[yL,gN_ h];rfl
end
theorem gP {k:Nat} {c:XC} {s:TS} {x:XI} (h:c.ins[s.at_]?=some x):cj k c s=dL k x s:=by unfold cj;rw[h]
section
variable {k:Nat} {c:XC} {s S0:TS} {x:XI} {out:List Nat} {A:List Int} {q j:Nat}
theorem oS (d:fg (dj c) c.ins.length out) (f:c.ins[s.at_]?=some x) (b:vm c out s) (g:out[q]?=some s.at_) (aa:q<j) (he:vr k c A out.length (hU c)=vr k c A j s) (a:cj k c s=(S0,true)):
  vm c out S0/\(∃q',out[q']?=some S0.at_/\q'<j-1)/\vr k c A out.length (hU c)=vr k c A (j-1) S0:=by
 have h1:=b.step (k:=k) d;obtain⟨q',h2,e⟩:=oe (k:=k) d f g (by rw[a]);rw[a] at h1 e;exact⟨h1,⟨q',e,by omega⟩,by rw[he,KQ B (by rw[a]),a]⟩
theorem GF (b:eX k c) (d:fg (dj c) c.ins.length out) (e:vm c out s) (g:s.asks=false) (h:out[q]?=some s.at_) (aa:q<j) (he:vr k c A out.length (hU c)=vr k c A j s) (a:cj k c s=(S0,false)) (f:S0.asks=true) {v:Int} (i:A[s.asked]?=some v):
  vm c out (eA k c S0 v)/\(∃q',out[q']?=some (eA k c S0 v).at_/\q'<j-1)/\vr k c A out.length (hU c)=vr k c A (j-1) (eA k c S0 v):=by
 have h1:=e.step (k:=k) d;have h2:=(uh (k:=k) b g).1;rw[a] at h1 h2;have aq:S0.at_=s.at_:=by have:=su (k:=k) (c:=c) (s:=s) (by rw[a]);rw[a] at this;exact this
 have hn:=Bg (k:=k) h2 f v;rw[aq] at hn;obtain⟨q',h3,l⟩:=d.Ae q _ h _ hn;exact⟨pJ b d h1 h2 f v,⟨q',l,by omega⟩,by rw[he,KN B (by rw[a]) (by rw[a];exact f) i,a]⟩
theorem wF (he:vr k c A out.length (hU c)=vr k c A j s) (b:1<=j) (a:cj k c s=(S0,false)) (d:S0.asks=true->A[s.asked]?=none):vr k c A out.length (hU c)=S0:=by
 rw[he,MW b (by rw[a]) (by rw[a];exact d),a]
end
theorem KP.Mr {K:KP} {M:Own} {b:Nat} {o:cG} (h:(b,o)∈M):K.ic M b o:=.inr h
theorem KU {K:KP} {b e:Nat} {ro:Bool} {l:List Int} {n:Nat} (a:l.length=n) (d:K b (.row (l.map<|V.int .i64) e ro)) (hl:n<=1000000):bR K 1 dy l (.slice b 0 n (.known n)):=by
 subst a;refine .inr ⟨b,0,_,_,e,ro,Z,.inr ⟨_,Z,nR_ _⟩,d,by simp,by omega,fun i x f=>?_⟩;have:(l.map<|V.int .i64)[0+i*1]?=some (.int .i64 x):=by rw[nA_,Nat.mul_one,gM_,f];rfl
 rw[cR this];rfl
end Go.Ev
namespace Go.Ev
variable [Env]
open Go.Proofs
set_option maxRecDepth 4000
set_option maxHeartbeats 8000000
theorem KI {aY nins:Int} {k kn:Nat} {x:XI} {sh:kN} (a:gE aY nins k x sh=true) (b:ja[kn]?=some sh):x.exprs.length<=2:=by
 have h1:=(hJ a).exprs;have c:∀s∈ja,s.exprs<=2:=by decide
 have:=c sh (gB_ b);omega
def tg (m n:Int) (kind:Int):Bool:=bif I kind m then true else I kind n
theorem Ay {m n kind:Int} (h:tg m n kind=true):kind=m∨kind=n:=by
 unfold tg at h;cases a:I kind m with
 | true=>exact .inl (eqv a)
 | false=>rw[a] at h;exact .inr<|eqv h
theorem FW {m n kind:Int} (h:tg m n kind=false):kind≠m/\kind≠n:=by
 unfold tg at h;cases a:I kind m with
 | true=>rw[a] at h;cases h
 | false=>rw[a] at h;exact⟨E8.1 a,E8.1 h⟩
theorem Kg {n:Int} (h:vG n=false):n≠2/\n≠4/\n≠5/\n≠6:=by
 unfold vG at h;cases a:I n 2 with
 | true=>rw[a] at h;cases h
 | false=>
 cases b:I n 4 with
 | true=>rw[a,b] at h;cases h
 | false=>
 cases c:I n 5 with
 | true=>rw[a,b,c] at h;cases h
 | false=>rw[a,b,c] at h;exact⟨E8.1 a,E8.1 b,E8.1 c,E8.1 h⟩
theorem Gm {kn:Nat} {n:Int} (g:n= .ofNat kn) (h1:1<=kn) (aa:kn<=13) (h:I n 1=false) (i:vG n=false) (a:I n 3=false) (b:I n 7=false) (c:tg 8 9 n=false) (d:I n 10=false) (e:I n 11=false) (f:tg 12 13 n=false):False:=by
 have a1:=E8.1 h;have a3:=E8.1 a;have a7:=E8.1 b;have a10:=E8.1 d;have a11:=E8.1 e;obtain⟨a8,a9⟩:=FW c;obtain⟨ab,ac⟩:=FW f;obtain⟨a2,a4,a5,a6⟩:=Kg i;have h2:n=((kn:Nat):Int):=g;omega
def Mm (k:Nat) (c:XC) (R:TS) (K:KP) (L:Own) (v:V) (U':D):Prop:=∃(K1:KP) (ev:V) (fn:Int) (a:rj) (w7 w8 w9:V),v= .agg [ev,.int .i64 fn,.int .i64 a.kind,.int .i64 a.loc,.int .i64 a.order,.int .i64 a.a,.int .i64 a.b,w7,w8,w9]/\KP.le K K1/\bR K1 5 iU R.events ev/\(R.asks=true->fn=0/\a=lh k c R)/\(R.asks=false->fn=R.fin/\a=gw)/\cS w8=some [w8]/\iB w7=true/\iB w8=true/\iB w9=true/\cS w7=some [w7]/\cS w9=some [w9]/\J U' K1 L
theorem Pd {G:Cx} (hG:Plain G) {K:KP} {k:Nat} {c:XC} {cv:V} (hi:bR K 6 (iI K k) c.ins cv) (Q:eX k c) {od:List Nat} (ho:fT c=some od) (hR:fg (dj c) c.ins.length od) {A:List Int} {va:V} (hA:bR K 1 dy A va) (f8:A.length<=100000) {U:D} {L:Own} (aq:J U K L):
  bk Tryz.prog G 119 [.agg [.int .i64 c.aY,cv],va] U (Mm k c (gx k c A) K L):=by
 have c1:c.aY= .ofNat c.aY.toNat:=by have:=Q.za;show c.aY=((c.aY.toNat:Nat):Int);omega
 have e5:c.aY.toNat<=16:=by have:=Q.xr;omega
 have hol:=qU Q ho;have hlen:=Q.len;have hrun:=KO Q ho hR A;refine PS hG Tryz.func119 Z<|Pt 2 Z<|kp aq Z (cz Z Z) (fun U b1 aq=>?_);refine kp aq Z (QE (cs:=[.ax,T,T,T,T,T,T,T,.ax,T])) (fun U b2 aq=>?_);refine OX aq 6 [0,1] Z Z<|gT aq Z (k9 (e:=2) (w:=8) (z:=[gZ 0]) Y Y Y Y (show _=some (V.int .i64 (.ofNat c.aY.toNat)) from cI c1) (show _=some (V.int .i64 (.ofNat c.aY.toNat)) from cI c1) B B) (fun _=>Z) (fun U W aq=>?_);rw[iT (f:=gZ)] at aq;refine O Z (Qy (places:=[(0,1),(1,1),(2,5),(7,1),(8,1),(9,1)]) (zero:=[.ax,T,T,T,T,T,T,T,.ax,T]) (cs:=[_,_,_,_,_,_,_,_,_,_]) Z) Z<|kp aq Z (QE (cs:=[.ax,T,T,T,T,T,T,T,.ax,T])) (fun U b4 aq=>?_);refine bO aq Z (QH Z Z Z aq.g0 (m:=10) Z Z (cells':=[_,_,_,_,_,_,_,_,_,_]) Z) Z (fun U aq=>?_);refine OM 3 Z (bp (rg 6 8++rg 18 161) (fun j t U=>∃(s:TS) (ev:V) (Me:Own),vm c od s/\s.asks=false/\s.fin=0/\s.asked<=A.length/\s.events.length+j<=od.length/\(∃q,od[q]?=some s.at_/\q<j)/\vr k c A od.length (hU c)=vr k c A j s/\cQ 5 56 iU s.events ev Me/\J U K (Me++((b4,.row [ev,T,T,T,T,T,T,.int .i64 (.ofNat s.at_),.slice W 0 c.aY.toNat (.known c.aY.toNat),.int .i64 (.ofNat s.asked)] 135 false)::(W,.row (s.aY.map gZ) 2 false)::(b2,.row [.ax,T,T,T,T,T,T,T,.ax,T] 135 false)::(b1,.row [.int .i64 c.aY,cv] 33 false)::L))) (od.length) ⟨hU c,.ax,[],xE hR,Z,Z,Nat.zero_le _,(show 0+_<=_ by omega),(gO_ hR.zero).imp fun q hq=>⟨hq,(gA.1 hq).1⟩,Z,cQ.nil,aq⟩ ?_);clear aq;intro j2 t U ar hI;obtain⟨s,ev,Me,C,has,o,ag,f9,d9,he,P,aq⟩:=hI;obtain⟨oo,rfl⟩:=ar.q0 Z;refine aN<|Pt 2 Z ?_;obtain⟨q,hq,aa⟩:=d9;have hatn:=C.lt hR;obtain⟨x,y⟩:=cm hatn;have hrx:=Q.right x (gB_ y);obtain⟨kn,sh,a2,eb,c2,ee,c3⟩:=iY hrx;have hall:=(hJ c3).all;have hql:=(gA.1 hq).1;have hrl:=C.aY;have eg:c.aY<=s.aY.length:=by rw[hrl];have:=Q.za;omega
 refine O Z (QA 1 Z) Z<|O Z (QB Z aq.aQ.pop.pop.pop.g0 Z) Z<|O Z (QA 7 Z) Z<|O Z (QB Z aq.aQ.g0 Z) Z<|Qu (e:=79) (m:=6) hi y Z Z Z Z (fun ga e6 c4 e7 bt=>?_);have hr22raw:=bt;have hr22':=bt;obtain⟨am,rfl,ap⟩:=hr22';refine O Z (QG aq c4 Z Z) Z<|kp aq Z (QE (cs:=[T,T,T,T,T,.ax])) (fun U b5 aq=>?_);refine bO aq Z (QH Z Z Z aq.g0 (m:=6) Z (ah Z<|ah Z<|ah Z<|ah Z<|ah Z<|ah ap.leaf.2 aC) (cells':=[_,_,_,_,_,_]) Z) Z (fun U aq=>?_);refine Om 14 Z (bp ([7,8]++rg 24 18) (fun j t U=>∃(i:Nat) (u:V) (M:Own),j+i=x.exprs.length/\cQ 1 2 dy ((x.exprs.take i).map<|eJ s.aY k) u M/\t.get 7=some (u)/\t.get 8=some (.int .i64 (.ofNat i))/\J U K (M++((b5,.row [.int .i64 x.kind,.int .i64 x.pc,.int .i64 x.loc,.int .i64 x.order,.int .i64 x.to,am] 79 false)::(Me++((b4,.row [ev,T,T,T,T,T,T,.int .i64 (.ofNat s.at_),.slice W 0 c.aY.toNat (.known c.aY.toNat),.int .i64 (.ofNat s.asked)] 135 false)::(W,.row (s.aY.map gZ) 2 false)::(b2,.row [.ax,T,T,T,T,T,T,T,.ax,T] 135 false)::(b1,.row [.int .i64 c.aY,cv] 33 false)::L))))) (x.exprs.length) ⟨0,.ax,[],Z,cQ.nil,Z,Z,aq⟩ ?_);clear aq;intro j5 t U ar hI;obtain⟨i,u,M,gb,hO7,el,em,aq⟩:=hI;obtain⟨oo,rfl⟩:=ar.q2 el em Z;refine OU aq 5 [5] Z Z<|O Z (QB Z aq.aQ.g0 Z) Z<|O Z (QD ap Z Z Z (e:=82) Z) Z<|Pv 3 Z<|aE Z (fun a3=>?_) (fun a3=>?_)
 ·refine Ok 4 Z<|aS (l:=zp [0,1,2,3,4,5,6,7,8,9,10,11]) Y Y<|P4 aq 2 [5] Z Z<|al Z Z (QB Z aq.aQ.g0 Z) Z<|wQ 1 Z ?_;obtain⟨gc,a4,e8⟩:=cL a3;refine Qv (e:=82) (m:=4) ap a4 Z Z Z Z Z (fun gd e9 c5 fa bv=>?_);obtain⟨ge,gl,gm,go,rfl,fd⟩:=bv.shape;refine al Z Z (QG aq c5 Z Z) Z<|al Z Z (QA 8 Z) Z<|al Z Z (QB Z aq.aQ.pop.aQ.g0 Z) Z ?_;have ca:ep [(W,cG.row (s.aY.map gZ) 2 false)] (M++((b5,.row [.int .i64 x.kind,.int .i64 x.pc,.int .i64 x.loc,.int .i64 x.order,.int .i64 x.to,am] 79 false)::(Me++((b4,.row [ev,T,T,T,T,T,T,.int .i64 (.ofNat s.at_),.slice W 0 c.aY.toNat (.known c.aY.toNat),.int .i64 (.ofNat s.asked)] 135 false)::(W,.row (s.aY.map gZ) 2 false)::(b2,.row [.ax,T,T,T,T,T,T,T,.ax,T] 135 false)::(b1,.row [.int .i64 c.aY,cv] 33 false)::L)))) _:=(.cM (.there (.cM (.there<|ep.here (X:=[_])))));refine cA Z Z (Qz Z Z Z) (fun _=>Z) (kE (aq.pull ca)<|KC hG eg (KU hrl (KP.Mr<|List.mem_singleton.2 Z) B) _ _ _ (ey.mono (KP.bX _ _) bv) (hall _<|gB_ a4) _ _ (aq.pull ca).keeps) (fun U aq=>?_);replace aq:=aq.push ca;refine⟨aV,?_⟩;refine j1 aq Z Z (bY (e:=2) (m:=1) (z:=[T]) (cs:=[_]) Y Y Y Y<|bD Z Z Z Z bJ) (fun _=>Z) (fun U b6 aq=>?_);replace aq:=aq.pull (.there .here);replace aq:=aq.pull (.cM<|ep.here (X:=[_]));refine mN (R:=dy) (m:=1) (e:=2) hO7 aq (eU (m:=1) Z Z) dy.leaf (by rw[lM_,lT_];have:=KI c3 ee;show _+1<=_;omega) Z Z Z Z Z Z Z Z (fun _=>Z) (fun U en er hO41 aq=>?_);refine⟨aV,?_⟩;refine P0 2 Z<|aJ<|PW 5 Z<|aO ⟨j5-1,(by have:=bu a3;omega),oF,i+1,en,er,(by have:=bu a3;omega),(by rw[mi a4];exact hO41),Z,cI<|bg (by have:=ap.bG;omega),aq⟩
 refine OL 3 Z<|aT<|Pt 2 Z ?_;have hl7:=hO7.iu (K:=K);rw[tL_<|bC a3] at hl7;replace aq:=aq.keeps;have hA7:=hA.mono (KP.bX K M) (fun _ _ h=>h);have gr:(x.exprs.map<|eJ s.aY k).length=x.exprs.length:=lM_ ..;refine O Z (QA 7 Z) Z<|O Z (QB Z aq.pop.aQ.g0 Z) Z<|O Z (az Z Z (show _=some (V.int .i64 (.ofNat (s.at_+1))) from cI (bg B))) Z<|OW aq 10 [0,0] Z Z<|aN<|Pt 2 Z<|ky Z (az Z Z Z) (fun a5=>?_) (fun a5=>?_)
 ·refine Pv 4 Z<|aS (l:=zp [0,1,2,3,4,5,6,7,8]) Y Y ?_;obtain⟨e0,ao,_⟩:=lV hrx (show x.kind= .ofNat 1 from eqv a5) (by simp);have d:(x.exprs.map<|eJ s.aY k)[0]?=some (eJ s.aY k e0):=by rw[gM_,ao];rfl
  obtain⟨r,ab,hr⟩:=Ah hrx (show x.kind= .ofNat 1 from eqv a5) (by simp);have a6:r<s.aY.length:=by omega
  refine al Z Z (QA 8 Z) Z<|al Z Z (QB Z aq.pop.aQ.g0 Z) Z<|P4 aq 3 [1,0] Z Z<|Qv (e:=2) (m:=1) hl7 d Z Z Z Z Z (fun gs fi c7 fk c8=>?_);obtain rfl:=c8;refine al Z Z (QF aq c7 Z Z) Z (al Z Z (eo (e:=2) (m:=1) Y Y Z (show _=some (V.int .i64 (.ofNat r)) from cI ab) B) Z (gD aq (.there (.cM (.there .here))) Z Z (aL Z Z Z aq.pop.aQ.pop.g0 (m:=1) Y Z (by rw[lM_];omega) Z (cells':=((s.aY).set r<|eJ s.aY k e0).map (gZ)) (fb (f:=gZ) (v:=(eJ s.aY k e0)) a6 (by first | omega | rfl))) Z (fun U aq=>?_)));refine⟨aV,?_⟩;refine ba<|aJ<|ad<|ai Z ?_;replace aq:=aq.pull (.there .here);replace aq:=aq.sub (dH (.cons _ (.cons_cons _ (.cons_cons _ (.cons_cons _ (.cons_cons _ (.refl _)))))));refine P3 aq 2 [7] Z Z<|cC aq (.cM .here) Z (QH Z Z Z aq.aQ.g0 (m:=1) Z Z (cells':=[_,_,_,_,_,_,_,_,_,_]) Z) Z (fun U aq=>?_);refine af<|aJ ?_;replace aq:=aq.weaken (KP.bX _ _);obtain⟨g1,g2,g3⟩:=oS hR y C hq aa he (show cj k c s=(({s with aY:=s.aY.set r (eJ s.aY k e0),at_:=s.at_+1}:TS),true) from by rw[gP y,JI<|eqv a5,ab,lU d];rfl);refine aO ⟨j2-1,B,oF,({s with aY:=s.aY.set r (eJ s.aY k e0),at_:=s.at_+1}:TS),ev,Me,g1,has,o,ag,(show s.events.length+_<=_ by omega),g2,g3,P,aq⟩
 refine Pv 4 Z ?_;refine jv (rg 57 5) (fun t U=>∃(q:Bool),q=vG x.kind/\t.get 57=some (.bool q)/\J U (K.ic M) ((b5,.row [.int .i64 x.kind,.int .i64 x.pc,.int .i64 x.loc,.int .i64 x.order,.int .i64 x.to,am] 79 false)::(Me++((b4,.row [ev,T,T,T,T,T,T,.int .i64 (.ofNat s.at_),.slice W 0 c.aY.toNat (.known c.aY.toNat),.int .i64 (.ofNat s.asked)] 135 false)::(W,.row (s.aY.map gZ) 2 false)::(b2,.row [.ax,T,T,T,T,T,T,T,.ax,T] 135 false)::(b1,.row [.int .i64 c.aY,cv] 33 false)::L)))) ?_ ?_
 ·refine Pt 4 Z<|Pv 2 Z<|aE Z (fun E=>?_) (fun E=>?_)
  ·refine aG ?_;exact⟨Z,oP Z<|oP Z<|oR _ _,_,(by unfold vG;simp only[E,ct,cf]<;>rfl),Z,aq⟩
  refine Pt 2 Z<|ky Z (az Z Z Z) (fun a7=>?_) (fun a7=>?_)
  ·refine Pv 4 Z<|aG ?_;exact⟨Z,oP Z<|oP Z<|oP Z<|oP Z<|oR _ _,_,(by unfold vG;simp only[E,a7,ct,cf]<;>rfl),Z,aq⟩
  refine OO 6 Z<|ky Z (az Z Z Z) (fun bo=>?_) (fun bo=>?_)
  ·refine Pv 4 Z<|aG ?_;exact⟨Z,oF,_,(by unfold vG;simp only[E,a7,bo,ct,cf]<;>rfl),Z,aq⟩
  refine Pw 5 Z<|ky Z (az Z Z Z) (fun cb=>?_) (fun cb=>?_)
  ·refine PY 2 Z ?_;exact⟨Z,oF,_,(by unfold vG;simp only[E,a7,bo,cb,ct,cf]<;>rfl),Z,aq⟩
  refine PY 2 Z ?_;exact⟨Z,oF,_,(by unfold vG;simp only[E,a7,bo,cb,ct,cf]<;>rfl),Z,aq⟩
 clear aq;intro t U ar hI;obtain⟨gt,c9,dd,aq⟩:=hI;obtain⟨oo,rfl⟩:=ar.q1 dd Z;subst c9;refine aE Z (fun E=>?_) (fun E=>?_)
 ·refine Pt 2 Z ?_;have hk57:=Kh E;refine P3 aq 6 [0,0,2,0,3,0] Z Z (O Z (Qy (places:=[(0,1),(1,1),(2,1),(3,1),(4,1)]) (zero:=[T,T,T,T,T]) (cs:=[_,_,_,_,_]) Z) Z<|kp aq Z (QE (cs:=[T,T,T,T,T])) (fun U b6 aq=>?_));refine bO aq Z (QH Z Z Z aq.g0 (m:=5) Z Z (cells':=[_,_,_,_,_]) Z) Z (fun U aq=>?_);refine Pv 2 Z ?_;refine jv (rg 69 7) (fun t U=>∃(z1:Int),z1=fI k s.aY x 0/\J U (K.ic M) ((b6,.row [.int .i64 x.kind,.int .i64 x.loc,.int .i64 x.order,.int .i64 z1,T] 85 false)::((b5,.row [.int .i64 x.kind,.int .i64 x.pc,.int .i64 x.loc,.int .i64 x.order,.int .i64 x.to,am] 79 false)::(Me++((b4,.row [ev,T,T,T,T,T,T,.int .i64 (.ofNat s.at_),.slice W 0 c.aY.toNat (.known c.aY.toNat),.int .i64 (.ofNat s.asked)] 135 false)::(W,.row (s.aY.map gZ) 2 false)::(b2,.row [.ax,T,T,T,T,T,T,T,.ax,T] 135 false)::(b1,.row [.int .i64 c.aY,cv] 33 false)::L))))) ?_ ?_
  ·refine Pt 3 Z<|O Z (QD hl7 Z Z Z (e:=2) Z) Z<|Pv 3 Z<|aE Z (fun cc=>?_) (fun cc=>?_)
   ·refine ai Z<|vQ 1 Z ?_;obtain⟨gv,bw⟩:=cm (show 0<(x.exprs.map<|eJ s.aY k).length from bu (a:=0) cc);refine Qu (e:=2) (m:=1) hl7 bw Z Z Z Z (fun g4 fr dl fs dm=>?_);obtain rfl:=dm;refine O Z (QF aq dl Z Z) Z<|O Z (QA 3 Z) Z<|bO aq Z (QH Z Z Z aq.g0 (m:=1) Z Z (cells':=[_,_,_,_,_]) Z) Z (fun U aq=>?_);refine af ?_;exact⟨Z,oF,_,(lU bw).symm,aq⟩
   refine aG ?_;exact⟨Z,oP Z<|oP Z<|oP Z<|oR _ _,_,(Fa<|bC (a:=0) cc).symm,aq⟩
  clear aq;intro t U ar hI;obtain⟨z1,dr,aq⟩:=hI;obtain⟨oo,rfl⟩:=ar.q0 Z;refine jv (rg 76 7) (fun t U=>∃(z2:Int),z2=fI k s.aY x 1/\J U (K.ic M) ((b6,.row [.int .i64 x.kind,.int .i64 x.loc,.int .i64 x.order,.int .i64 z1,.int .i64 z2] 85 false)::((b5,.row [.int .i64 x.kind,.int .i64 x.pc,.int .i64 x.loc,.int .i64 x.order,.int .i64 x.to,am] 79 false)::(Me++((b4,.row [ev,T,T,T,T,T,T,.int .i64 (.ofNat s.at_),.slice W 0 c.aY.toNat (.known c.aY.toNat),.int .i64 (.ofNat s.asked)] 135 false)::(W,.row (s.aY.map gZ) 2 false)::(b2,.row [.ax,T,T,T,T,T,T,T,.ax,T] 135 false)::(b1,.row [.int .i64 c.aY,cv] 33 false)::L))))) ?_ ?_
  ·refine Pt 3 Z<|O Z (QD hl7 Z Z Z (e:=2) Z) Z<|Pv 3 Z<|aE Z (fun ce=>?_) (fun ce=>?_)
   ·refine ai Z<|vQ 1 Z ?_;obtain⟨g5,b0⟩:=cm (show 1<(x.exprs.map<|eJ s.aY k).length from bu (a:=1) ce);refine Qu (e:=2) (m:=1) hl7 b0 Z Z Z Z (fun g6 fu ds f0 dx=>?_);obtain rfl:=dx;refine O Z (QF aq ds Z Z) Z<|O Z (QA 4 Z) Z<|bO aq Z (QH Z Z Z aq.g0 (m:=1) Z Z (cells':=[_,_,_,_,_]) Z) Z (fun U aq=>?_);refine af ?_;exact⟨Z,oF,_,(lU b0).symm,aq⟩
   refine aG ?_;exact⟨Z,oP Z<|oP Z<|oP Z<|oR _ _,_,(Fa<|bC (a:=1) ce).symm,aq⟩
  clear aq;intro t U ar hI;obtain⟨z2,d0,aq⟩:=hI;obtain⟨oo,rfl⟩:=ar.q0 Z;refine OU aq 4 [9] Z Z<|O Z (QB Z aq.pop.pop.aQ.g0 Z) Z<|vQ 1 Z<|O Z (QD hA7 Z Z Z (e:=2) Z) Z<|Pv 3 Z<|aE Z (fun bs=>?_) (fun bs=>?_)
  ·refine Pt 2 Z<|O Z (QC Z aq.g0 (n:=5) (vs:=[_,_,_,_,_]) Z) Z<|O Z (QA 2 Z) Z<|cC aq (.there (.there (.cM .here))) Z (QH Z Z Z aq.pop.pop.aQ.g0 (m:=5) Z Z (cells':=[_,_,_,_,_,_,_,_,_,_]) Z) Z (fun U aq=>?_);refine OO 4 Z<|O Z (QC Z aq.pop.pop.aQ.g0 (n:=10) (vs:=[_,_,_,_,_,_,_,_,_,_]) Z) Z ?_;refine cC aq (.there (.there (.cM (.there (.there .here))))) Z (QH Z Z Z aq.pop.pop.aQ.pop.pop.g0 (m:=10) Z (ah P.leaf.2 Z) (cells':=[_,_,_,_,_,_,_,_,_,_]) Z) Z (fun U aq=>?_);refine Px 3 Z<|aw<|aF<|aw<|aF<|bz<|aF (?_);subst dr;subst d0;have b:gx k c A=({s with asks:=true}:TS):=hrun.symm.trans (wF he B (show cj k c s=(({s with asks:=true}:TS),false) from by rw[gP y];exact CD hk57) (fun _=>gN_ (by have:=iJ_ (eqv bs);omega)));have hfinal:=(aq.sub (show List.Sublist (Me++L) _ from(.cons _ (.cons _<|dH (.cons _ (.cons _ (.cons _ (.cons _ (.refl _))))))))).keeps;exact eL Z Z aq.pop.pop.aQ.pop.pop.g0 (m:=10) Y Z ⟨_,_,0,(xZ k x s.aY),_,_,_,Z,KP.le_trans (KP.bX _ _)<|KP.bX _ _,(by rw[b];exact P.iu),(by rw[b];exact(fun _=>⟨Z,by show _=lh k c {s with asks:=true};unfold lh;rw[show c.ins[({s with asks:=true}:TS).at_]?=some x from y]⟩)),(by rw[b];exact(fun h=>by cases h)),Z,Z,Z,Z,Z,Z,hfinal⟩
  refine OV aq 6 [9] Z Z<|O Z (QB Z aq.pop.pop.aQ.g0 Z) Z ?_;have g7:s.asked≠A.length:=fun e=>by rw[e,fP] at bs;cases bs
  obtain⟨ac,b9⟩:=cm (show s.asked<A.length by omega);refine Qu (e:=2) (m:=1) hA7 b9 Z Z Z Z (fun ha f1 d1 f2 d2=>?_);obtain rfl:=d2;refine O Z (QF aq d1 Z Z) Z<|OX aq 6 [9] Z Z<|O Z (QB Z aq.pop.pop.aQ.g0 Z) Z<|O Z (az Z Z (show _=some (V.int .i64 (.ofNat (s.asked+1))) from cI (bg B))) Z<|O Z (QA 9 Z) Z<|cC aq (.there (.there (.cM .here))) Z (QH Z Z Z aq.pop.pop.aQ.g0 (m:=1) Z Z (cells':=[_,_,_,_,_,_,_,_,_,_]) Z) Z (fun U aq=>?_);refine OO 4 Z ?_;subst dr;subst d0;refine O Z (QC Z aq.g0 (n:=5) (vs:=[_,_,_,_,_]) Z) Z<|vQ 1 Z<|bf Z (Qz Z Z Z) (fun _=>Z) (Bu hG (xZ k x s.aY) _ aq) (fun U aq=>?_);refine PZ 3 Z<|kp aq Z (QE (cs:=[T,T,T,T,T])) (fun U b7 aq=>?_);refine bO aq Z (QH Z Z Z aq.g0 (m:=5) Z Z (cells':=[_,_,_,_,_]) Z) Z (fun U aq=>?_);refine OX aq 6 [0] Z Z<|O Z (QB Z aq.pop.pop.pop.aQ.g0 Z) Z<|O Z (QC Z aq.g0 (n:=5) (vs:=[_,_,_,_,_]) Z) Z<|gT aq Z (bY (e:=56) (m:=5) (z:=[T,T,T,T,T]) (cs:=[_,_,_,_,_]) Y Y Y Y<|bD Z Z Z Z bJ) (fun _=>Z) (fun U b8 aq=>?_);replace aq:=aq.pull (.there (.there (.there (.there .here))));replace aq:=aq.pull (.cM<|ep.here (X:=[_]));refine sk (R:=iU) (m:=5) (e:=56) P aq (eU (m:=5) Z (show iU (bL (xZ k x s.aY) ac) _ from Z)) iU.leaf (by show _+1<=_;omega) Z Z Z Z Z Z Z (fun _=>Z) (fun U d3 d4 hO110 aq=>?_);refine O Z (QA 0 Z) Z<|cC aq (.cM (.there (.there (.there .here)))) Z (aL Z Z hO110.leaf.1 aq.aQ.pop.pop.pop.g0 (m:=1) Y Z (lb Z) (ah hO110.leaf.2 aC) (cells':=[_,_,_,_,_,_,_,_,_,_]) Z) Z (fun U aq=>?_);refine Pw 3 Z ?_;obtain⟨r,ab,hr⟩:=Ah hrx a2 (by rcases hk57 with h | h | h | h<;>(have h2:((kn:Nat):Int)=_:=a2.symm.trans h;omega));have a6:r<s.aY.length:=by omega
  refine O Z (QA 8 Z) Z (O Z (QB Z aq.aQ.pop.pop.pop.g0 Z) Z (O Z (QA 1 Z) Z (O Z (QB Z aq.aQ.pop.pop.g0 Z) Z (vQ 1 Z (O Z (eo (e:=2) (m:=1) Y Y Z (show _=some (V.int .i64 (.ofNat r)) from cI ab) B) Z (cC aq (.cM (.there (.there (.there (.there .here))))) Z (aL Z Z Z aq.aQ.pop.pop.pop.pop.g0 (m:=1) Y Z (by rw[lM_];omega) Z (cells':=((s.aY).set r ac).map (gZ))<|fb (f:=gZ) (v:=ac) a6 (by first | omega | rfl)) Z (fun U aq=>?_)))))));refine af<|aJ<|ad<|ai Z ?_;replace aq:=aq.sub (dH (.cons _ (.cons _ (.cons _ (.cons_cons _ (.cons_cons _ (.cons_cons _ (.cons_cons _ (.refl _)))))))));refine P3 aq 2 [7] Z Z<|cC aq (.cM .here) Z (QH Z Z Z aq.aQ.g0 (m:=1) Z Z (cells':=[_,_,_,_,_,_,_,_,_,_]) Z) Z (fun U aq=>?_);refine af<|aJ ?_;replace aq:=aq.weaken (KP.bX _ _);have es:cj k c s=({s with asks:=true},false):=by rw[gP y];exact CD hk57
  obtain⟨g1,g2,g3⟩:=GF Q hR C has hq aa he es Z b9;have et:lh k c {s with asks:=true}=xZ k x s.aY:=by unfold lh;rw[show c.ins[({s with asks:=true}:TS).at_]?=some x from y]
  have ex:FH c {s with asks:=true}=r:=by unfold FH;rw[show c.ins[({s with asks:=true}:TS).at_]?=some x from y];show x.pc.toNat=r;rw[ab];rfl
  have eC:eA k c {s with asks:=true} ac=({s with events:=s.events++[bL (xZ k x s.aY) ac],aY:=s.aY.set r ac,asked:=s.asked+1,at_:=s.at_+1,asks:=false}:TS):=by unfold eA;rw[et,ex]
  rw[eC] at g1 g2 g3;refine aO ⟨j2-1,B,oF,({s with events:=s.events++[bL (xZ k x s.aY) ac],aY:=s.aY.set r ac,asked:=s.asked+1,at_:=s.at_+1,asks:=false}:TS),d3,d4,g1,Z,o,(show s.asked+1<=A.length by omega),(show(s.events++[_]).length+_<=_ by rw[lA_];show _+1+_<=_;omega),g2,g3,hO110,aq⟩
 refine Pt 2 Z<|ky Z (az Z Z Z) (fun aI=>?_) (fun aI=>?_)
 ·refine Pv 4 Z<|aS (l:=zp [0,1,2,3,4,5,6,7,8,9,10,11,12,13]) Y Y ?_;obtain⟨e0,ao,_⟩:=lV hrx (show x.kind= .ofNat 3 from eqv aI) (by simp);have d:(x.exprs.map<|eJ s.aY k)[0]?=some (eJ s.aY k e0):=by rw[gM_,ao];rfl
  refine al Z Z (QA 0 Z) Z<|al Z Z (QB Z aq.pop.aQ.g0 Z) Z<|P4 aq 5 [2,0,3,0] Z Z<|Qv (e:=2) (m:=1) hl7 d Z Z Z Z Z (fun f3 eS cg eT ch=>?_);obtain rfl:=ch;refine al Z Z (QF aq cg Z Z) Z (al Z Z (Qy (places:=[(0,1),(1,1),(2,1),(3,1),(4,1)]) (zero:=[T,T,T,T,T]) (cs:=[_,_,_,_,_]) Z) Z<|j1 aq Z Z (bY (e:=56) (m:=5) (z:=[T,T,T,T,T]) (cs:=[_,_,_,_,_]) Y Y Y Y<|bD Z Z Z Z bJ) (fun _=>Z) (fun U b6 aq=>?_));replace aq:=aq.pull (.there (.there .here));replace aq:=aq.pull (.cM<|ep.here (X:=[_]));refine mN (R:=iU) (m:=5) (e:=56) P aq (eU (m:=5) Z (show iU ⟨2,x.loc,x.order,0,eJ s.aY k e0⟩ _ from Z)) iU.leaf (by show _+1<=_;omega) Z Z Z Z Z Z Z Z (fun _=>Z) (fun U d5 d6 hO131 aq=>?_);refine⟨aV,?_⟩;refine al Z Z (QA 0 Z) Z<|gD aq (.cM (.there .here)) Z Z (aL Z Z hO131.leaf.1 aq.aQ.pop.g0 (m:=1) Y Z (lb Z) (ah hO131.leaf.2 aC) (cells':=[_,_,_,_,_,_,_,_,_,_]) Z) Z (fun U aq=>?_);refine⟨aV,?_⟩;refine ba<|aJ<|ad<|ai Z ?_;replace aq:=aq.sub (dH (.cons _ (.cons_cons _ (.cons_cons _ (.cons_cons _ (.cons_cons _ (.refl _)))))));refine P3 aq 2 [7] Z Z<|cC aq (.cM .here) Z (QH Z Z Z aq.aQ.g0 (m:=1) Z Z (cells':=[_,_,_,_,_,_,_,_,_,_]) Z) Z (fun U aq=>?_);refine af<|aJ ?_;replace aq:=aq.weaken (KP.bX _ _);obtain⟨g1,g2,g3⟩:=oS hR y C hq aa he (show cj k c s=(({s with events:=s.events++[⟨2,x.loc,x.order,0,eJ s.aY k e0⟩],at_:=s.at_+1}:TS),true) from by rw[gP y,EA<|eqv aI,lU d]);refine aO ⟨j2-1,B,oF,({s with events:=s.events++[⟨2,x.loc,x.order,0,eJ s.aY k e0⟩],at_:=s.at_+1}:TS),d5,d6,g1,has,o,ag,(show(s.events++[_]).length+_<=_ by rw[lA_];show _+1+_<=_;omega),g2,g3,hO131,aq⟩
 refine OO 6 Z<|ky Z (az Z Z Z) (fun a8=>?_) (fun a8=>?_)
 ·refine PE aq 6 [0] Z Z (O Z (QB Z aq.pop.aQ.g0 Z) Z (P3 aq 2 [3,0] Z Z (O Z (Qy (places:=[(0,1),(1,1),(2,1),(3,1),(4,1)]) (zero:=[T,T,T,T,T]) (cs:=[_,_,_,_,_]) Z) Z<|gT aq Z (bY (e:=56) (m:=5) (z:=[T,T,T,T,T]) (cs:=[_,_,_,_,_]) Y Y Y Y<|bD Z Z Z Z bJ) (fun _=>Z) (fun U b6 aq=>?_))));replace aq:=aq.pull (.there (.there .here));replace aq:=aq.pull (.cM<|ep.here (X:=[_]));refine sk (R:=iU) (m:=5) (e:=56) P aq (eU (m:=5) Z (show iU ⟨4,0,x.order,0,0⟩ _ from Z)) iU.leaf (by show _+1<=_;omega) Z Z Z Z Z Z Z (fun _=>Z) (fun U d7 d8 hO141 aq=>?_);refine O Z (QA 0 Z) Z<|cC aq (.cM (.there .here)) Z (aL Z Z hO141.leaf.1 aq.aQ.pop.g0 (m:=1) Y Z (lb Z) (ah hO141.leaf.2 aC) (cells':=[_,_,_,_,_,_,_,_,_,_]) Z) Z (fun U aq=>?_);refine af<|aJ<|ad<|ai Z ?_;replace aq:=aq.sub (dH (.cons _ (.cons_cons _ (.cons_cons _ (.cons_cons _ (.cons_cons _ (.refl _)))))));refine P3 aq 2 [7] Z Z<|cC aq (.cM .here) Z (QH Z Z Z aq.aQ.g0 (m:=1) Z Z (cells':=[_,_,_,_,_,_,_,_,_,_]) Z) Z (fun U aq=>?_);refine af<|aJ ?_;replace aq:=aq.weaken (KP.bX _ _);obtain⟨g1,g2,g3⟩:=oS hR y C hq aa he (show cj k c s=(({s with events:=s.events++[⟨4,0,x.order,0,0⟩],at_:=s.at_+1}:TS),true) from by rw[gP y,Ey<|eqv a8]);refine aO ⟨j2-1,B,oF,({s with events:=s.events++[⟨4,0,x.order,0,0⟩],at_:=s.at_+1}:TS),d7,d8,g1,has,o,ag,(show(s.events++[_]).length+_<=_ by rw[lA_];show _+1+_<=_;omega),g2,g3,hO141,aq⟩
 refine Pv 4 Z ?_;refine jv [143,144,145] (fun t U=>∃(q:Bool),q=tg 8 9 x.kind/\t.get 143=some (.bool q)/\J U (K.ic M) ((b5,.row [.int .i64 x.kind,.int .i64 x.pc,.int .i64 x.loc,.int .i64 x.order,.int .i64 x.to,am] 79 false)::(Me++((b4,.row [ev,T,T,T,T,T,T,.int .i64 (.ofNat s.at_),.slice W 0 c.aY.toNat (.known c.aY.toNat),.int .i64 (.ofNat s.asked)] 135 false)::(W,.row (s.aY.map gZ) 2 false)::(b2,.row [.ax,T,T,T,T,T,T,T,.ax,T] 135 false)::(b1,.row [.int .i64 c.aY,cv] 33 false)::L)))) ?_ ?_
 ·refine Pt 4 Z<|Pv 2 Z<|aE Z (fun g=>?_) (fun g=>?_)
  ·refine aG ?_;exact⟨Z,oP Z<|oP Z<|oR _ _,_,(by unfold tg;simp only[g,ct,cf]<;>rfl),Z,aq⟩
  refine ai Z<|ky Z (az Z Z Z) (fun a9=>?_) (fun a9=>?_)
  ·refine PY 2 Z ?_;exact⟨Z,oP Z<|oP Z<|oP Z<|oP Z<|oR _ _,_,(by unfold tg;simp only[g,a9,ct,cf]<;>rfl),Z,aq⟩
  refine PY 2 Z ?_;exact⟨Z,oP Z<|oP Z<|oP Z<|oP Z<|oR _ _,_,(by unfold tg;simp only[g,a9,ct,cf]<;>rfl),Z,aq⟩
 clear aq;intro t U ar hI;obtain⟨f4,ci,ck,aq⟩:=hI;obtain⟨oo,rfl⟩:=ar.q1 ck Z;subst ci;refine aE Z (fun g=>?_) (fun g=>?_)
 ·refine Pt 2 Z ?_;have hk143:=Ay g;obtain⟨e0,ao,_⟩:=lV hrx a2 (by rcases hk143 with h | h<;>(have h2:((kn:Nat):Int)=_:=a2.symm.trans h;omega));have d:(x.exprs.map<|eJ s.aY k)[0]?=some (eJ s.aY k e0):=by rw[gM_,ao];rfl
  refine vQ 1 Z<|Qu (e:=2) (m:=1) hl7 d Z Z Z Z (fun f5 e1 cl e2 cn=>?_);obtain rfl:=cn;refine O Z (QF aq cl Z Z) Z<|Pv 3 Z<|aE Z (fun a0=>?_) (fun a0=>?_)
  ·refine PA aq 3 [1] Z Z<|cC aq (.there (.cM .here)) Z (QH Z Z Z aq.pop.aQ.g0 (m:=1) Z Z (cells':=[_,_,_,_,_,_,_,_,_,_]) Z) Z (fun U aq=>?_);refine OW aq 10 [0,0] Z Z<|aE Z (fun bb=>?_) (fun bb=>?_)
   ·refine P2 aq 2 [1] Z Z<|cC aq (.there (.cM .here)) Z (QH Z Z Z aq.pop.aQ.g0 (m:=1) Z Z (cells':=[_,_,_,_,_,_,_,_,_,_]) Z) Z (fun U aq=>?_);refine OO 4 Z<|O Z (QC Z aq.pop.aQ.g0 (n:=10) (vs:=[_,_,_,_,_,_,_,_,_,_]) Z) Z<|cC aq (.there (.cM (.there (.there .here)))) Z (QH Z Z Z aq.pop.aQ.pop.pop.g0 (m:=10) Z (ah P.leaf.2 Z) (cells':=[_,_,_,_,_,_,_,_,_,_]) Z) Z (fun U aq=>?_);refine Px 3 Z<|aF<|aw<|aF<|bz<|aF (?_);have b:gx k c A=({s with fin:=3}:TS):=hrun.symm.trans (wF he B (show cj k c s=(({s with fin:=3}:TS),false) from by rw[gP y,Ho (eqv bb) (by rw[lU d];exact a0)]) (fun h=>by rw[show({s with fin:=3}:TS).asks=s.asks from Z,has] at h;cases h));have hfinal:=(aq.sub (show List.Sublist (Me++L) _ from(.cons _<|dH (.cons _ (.cons _ (.cons _ (.cons _ (.refl _)))))))).keeps;exact eL Z Z aq.pop.aQ.pop.pop.g0 (m:=10) Y Z ⟨_,_,3,gw,_,_,_,Z,KP.le_trans (KP.bX _ _)<|KP.bX _ _,(by rw[b];exact P.iu),(by rw[b];exact(fun h=>by rw[show({s with fin:=3}:TS).asks=s.asks from Z,has] at h;cases h)),(by rw[b];exact(fun _=>⟨Z,Z⟩)),Z,Z,Z,Z,Z,Z,hfinal⟩
   refine OK 4 Z<|O Z (QC Z aq.pop.aQ.g0 (n:=10) (vs:=[_,_,_,_,_,_,_,_,_,_]) Z) Z<|cC aq (.there (.cM (.there (.there .here)))) Z (QH Z Z Z aq.pop.aQ.pop.pop.g0 (m:=10) Z (ah P.leaf.2 Z) (cells':=[_,_,_,_,_,_,_,_,_,_]) Z) Z (fun U aq=>?_);refine Px 3 Z<|aF<|aw<|aF<|bz<|aF (?_);have b:gx k c A=({s with fin:=2}:TS):=hrun.symm.trans (wF he B (show cj k c s=(({s with fin:=2}:TS),false) from by rw[gP y,step_block ((Ay g).resolve_right<|E8.1 bb) (by rw[lU d];exact a0)]) (fun h=>by rw[show({s with fin:=2}:TS).asks=s.asks from Z,has] at h;cases h));have hfinal:=(aq.sub (show List.Sublist (Me++L) _ from(.cons _<|dH (.cons _ (.cons _ (.cons _ (.cons _ (.refl _)))))))).keeps;exact eL Z Z aq.pop.aQ.pop.pop.g0 (m:=10) Y Z ⟨_,_,2,gw,_,_,_,Z,KP.le_trans (KP.bX _ _)<|KP.bX _ _,(by rw[b];exact P.iu),(by rw[b];exact(fun h=>by rw[show({s with fin:=2}:TS).asks=s.asks from Z,has] at h;cases h)),(by rw[b];exact(fun _=>⟨Z,Z⟩)),Z,Z,Z,Z,Z,Z,hfinal⟩
  refine aG<|aJ<|ad<|ai Z ?_;replace aq:=aq.pull (.there .here);replace aq:=aq.sub (dH (.cons _ (.cons_cons _ (.cons_cons _ (.cons_cons _ (.cons_cons _ (.refl _)))))));refine P3 aq 2 [7] Z Z<|cC aq (.cM .here) Z (QH Z Z Z aq.aQ.g0 (m:=1) Z Z (cells':=[_,_,_,_,_,_,_,_,_,_]) Z) Z (fun U aq=>?_);refine af<|aJ ?_;replace aq:=aq.weaken (KP.bX _ _);obtain⟨g1,g2,g3⟩:=oS hR y C hq aa he (show cj k c s=(({s with at_:=s.at_+1}:TS),true) from by rw[gP y,Ez hk143 (by rw[lU d];exact a0)]);refine aO ⟨j2-1,B,oF,({s with at_:=s.at_+1}:TS),ev,Me,g1,has,o,ag,(show s.events.length+_<=_ by omega),g2,g3,P,aq⟩
 refine Pt 2 Z<|ky Z (az Z Z Z) (fun a1=>?_) (fun a1=>?_)
 ·refine Pw 5 Z ?_;obtain⟨to,be,_⟩:=FV hrx (show x.kind= .ofNat 10 from eqv a1) (by simp);refine P3 aq 2 [4,0] Z Z<|O Z (aj (show _=some (V.int .i64 (.ofNat to)) from cI be)) Z<|af<|aJ<|ad<|ai Z ?_;replace aq:=aq.pull (.there .here);replace aq:=aq.sub (dH (.cons _ (.cons_cons _ (.cons_cons _ (.cons_cons _ (.cons_cons _ (.refl _)))))));refine P3 aq 2 [7] Z Z<|cC aq (.cM .here) Z (QH Z Z Z aq.aQ.g0 (m:=1) Z Z (cells':=[_,_,_,_,_,_,_,_,_,_]) Z) Z (fun U aq=>?_);refine af<|aJ ?_;replace aq:=aq.weaken (KP.bX _ _);obtain⟨g1,g2,g3⟩:=oS hR y C hq aa he (show cj k c s=(({s with at_:=to}:TS),true) from by rw[gP y,Hp<|eqv a1,be];rfl);refine aO ⟨j2-1,B,oF,({s with at_:=to}:TS),ev,Me,g1,has,o,ag,(show s.events.length+_<=_ by omega),g2,g3,P,aq⟩
 refine OO 6 Z<|ky Z (az Z Z Z) (fun F=>?_) (fun F=>?_)
 ·refine OO 6 Z ?_;obtain⟨e0,ao,_⟩:=lV hrx (show x.kind= .ofNat 11 from eqv F) (by simp);have d:(x.exprs.map<|eJ s.aY k)[0]?=some (eJ s.aY k e0):=by rw[gM_,ao];rfl
  obtain⟨to,be,_⟩:=FV hrx (show x.kind= .ofNat 11 from eqv F) (by simp);refine vQ 1 Z<|Qu (e:=2) (m:=1) hl7 d Z Z Z Z (fun f6 e3 co e4 cp=>?_);obtain rfl:=cp;refine O Z (QF aq co Z Z) Z<|Pv 3 Z<|aE Z (fun bi=>?_) (fun bi=>?_)
  ·refine P2 aq 3 [4,0] Z Z<|O Z (aj (show _=some (V.int .i64 (.ofNat to)) from cI be)) Z<|af<|aJ<|ad<|ai Z ?_;replace aq:=aq.pull (.there .here);replace aq:=aq.sub (dH (.cons _ (.cons_cons _ (.cons_cons _ (.cons_cons _ (.cons_cons _ (.refl _)))))));refine P3 aq 2 [7] Z Z<|cC aq (.cM .here) Z (QH Z Z Z aq.aQ.g0 (m:=1) Z Z (cells':=[_,_,_,_,_,_,_,_,_,_]) Z) Z (fun U aq=>?_);refine af<|aJ ?_;replace aq:=aq.weaken (KP.bX _ _);obtain⟨g1,g2,g3⟩:=oS hR y C hq aa he (show cj k c s=(({s with at_:=to}:TS),true) from by rw[gP y,JD (eqv F) (by rw[lU d];exact bi),be];rfl);refine aO ⟨j2-1,B,oF,({s with at_:=to}:TS),ev,Me,g1,has,o,ag,(show s.events.length+_<=_ by omega),g2,g3,P,aq⟩
  refine aG<|aJ<|ad<|ai Z ?_;replace aq:=aq.pull (.there .here);replace aq:=aq.sub (dH (.cons _ (.cons_cons _ (.cons_cons _ (.cons_cons _ (.cons_cons _ (.refl _)))))));refine P3 aq 2 [7] Z Z<|cC aq (.cM .here) Z (QH Z Z Z aq.aQ.g0 (m:=1) Z Z (cells':=[_,_,_,_,_,_,_,_,_,_]) Z) Z (fun U aq=>?_);refine af<|aJ ?_;replace aq:=aq.weaken (KP.bX _ _);obtain⟨g1,g2,g3⟩:=oS hR y C hq aa he (show cj k c s=(({s with at_:=s.at_+1}:TS),true) from by rw[gP y,JE (eqv F) (by rw[lU d];exact bi)]);refine aO ⟨j2-1,B,oF,({s with at_:=s.at_+1}:TS),ev,Me,g1,has,o,ag,(show s.events.length+_<=_ by omega),g2,g3,P,aq⟩
 refine Pv 4 Z ?_;refine jv [168,169,170] (fun t U=>∃(q:Bool),q=tg 12 13 x.kind/\t.get 168=some (.bool q)/\J U (K.ic M) ((b5,.row [.int .i64 x.kind,.int .i64 x.pc,.int .i64 x.loc,.int .i64 x.order,.int .i64 x.to,am] 79 false)::(Me++((b4,.row [ev,T,T,T,T,T,T,.int .i64 (.ofNat s.at_),.slice W 0 c.aY.toNat (.known c.aY.toNat),.int .i64 (.ofNat s.asked)] 135 false)::(W,.row (s.aY.map gZ) 2 false)::(b2,.row [.ax,T,T,T,T,T,T,T,.ax,T] 135 false)::(b1,.row [.int .i64 c.aY,cv] 33 false)::L)))) ?_ ?_
 ·refine Pt 4 Z<|Pv 2 Z<|aE Z (fun p=>?_) (fun p=>?_)
  ·refine aG ?_;exact⟨Z,oP Z<|oP Z<|oR _ _,_,(by unfold tg;simp only[p,ct,cf]<;>rfl),Z,aq⟩
  refine ai Z<|ky Z (az Z Z Z) (fun bl=>?_) (fun bl=>?_)
  ·refine PY 2 Z ?_;exact⟨Z,oP Z<|oP Z<|oP Z<|oP Z<|oR _ _,_,(by unfold tg;simp only[p,bl,ct,cf]<;>rfl),Z,aq⟩
  refine PY 2 Z ?_;exact⟨Z,oP Z<|oP Z<|oP Z<|oP Z<|oR _ _,_,(by unfold tg;simp only[p,bl,ct,cf]<;>rfl),Z,aq⟩
 clear aq;intro t U ar hI;obtain⟨f7,cx,c0,aq⟩:=hI;obtain⟨oo,rfl⟩:=ar.q1 c0 Z;subst cx;refine aE Z (fun p=>?_) (fun p=>?_)
 ·refine PA aq 3 [1] Z Z<|cC aq (.there (.cM .here)) Z (QH Z Z Z aq.pop.aQ.g0 (m:=1) Z Z (cells':=[_,_,_,_,_,_,_,_,_,_]) Z) Z (fun U aq=>?_);refine OW aq 10 [0,0] Z Z<|aE Z (fun bm=>?_) (fun bm=>?_)
  ·refine P2 aq 2 [1] Z Z<|cC aq (.there (.cM .here)) Z (QH Z Z Z aq.pop.aQ.g0 (m:=1) Z Z (cells':=[_,_,_,_,_,_,_,_,_,_]) Z) Z (fun U aq=>?_);refine OO 4 Z<|O Z (QC Z aq.pop.aQ.g0 (n:=10) (vs:=[_,_,_,_,_,_,_,_,_,_]) Z) Z<|cC aq (.there (.cM (.there (.there .here)))) Z (QH Z Z Z aq.pop.aQ.pop.pop.g0 (m:=10) Z (ah P.leaf.2 Z) (cells':=[_,_,_,_,_,_,_,_,_,_]) Z) Z (fun U aq=>?_);refine Px 3 Z<|aF<|aw<|aF<|bz<|aF (?_);have b:gx k c A=({s with fin:=4}:TS):=hrun.symm.trans (wF he B (show cj k c s=(({s with fin:=4}:TS),false) from by rw[gP y,Ew<|eqv bm]) (fun h=>by rw[show({s with fin:=4}:TS).asks=s.asks from Z,has] at h;cases h));have hfinal:=(aq.sub (show List.Sublist (Me++L) _ from(.cons _<|dH (.cons _ (.cons _ (.cons _ (.cons _ (.refl _)))))))).keeps;exact eL Z Z aq.pop.aQ.pop.pop.g0 (m:=10) Y Z ⟨_,_,4,gw,_,_,_,Z,KP.le_trans (KP.bX _ _)<|KP.bX _ _,(by rw[b];exact P.iu),(by rw[b];exact(fun h=>by rw[show({s with fin:=4}:TS).asks=s.asks from Z,has] at h;cases h)),(by rw[b];exact(fun _=>⟨Z,Z⟩)),Z,Z,Z,Z,Z,Z,hfinal⟩
  refine OK 4 Z<|O Z (QC Z aq.pop.aQ.g0 (n:=10) (vs:=[_,_,_,_,_,_,_,_,_,_]) Z) Z<|cC aq (.there (.cM (.there (.there .here)))) Z (QH Z Z Z aq.pop.aQ.pop.pop.g0 (m:=10) Z (ah P.leaf.2 Z) (cells':=[_,_,_,_,_,_,_,_,_,_]) Z) Z (fun U aq=>?_);refine Px 3 Z<|aF<|aw<|aF<|bz<|aF (?_);have b:gx k c A=({s with fin:=1}:TS):=hrun.symm.trans (wF he B (show cj k c s=(({s with fin:=1}:TS),false) from by rw[gP y,step_done ((Ay p).resolve_left<|E8.1 bm)]) (fun h=>by rw[show({s with fin:=1}:TS).asks=s.asks from Z,has] at h;cases h));have hfinal:=(aq.sub (show List.Sublist (Me++L) _ from(.cons _<|dH (.cons _ (.cons _ (.cons _ (.cons _ (.refl _)))))))).keeps;exact eL Z Z aq.pop.aQ.pop.pop.g0 (m:=10) Y Z ⟨_,_,1,gw,_,_,_,Z,KP.le_trans (KP.bX _ _)<|KP.bX _ _,(by rw[b];exact P.iu),(by rw[b];exact(fun h=>by rw[show({s with fin:=1}:TS).asks=s.asks from Z,has] at h;cases h)),(by rw[b];exact(fun _=>⟨Z,Z⟩)),Z,Z,Z,Z,Z,Z,hfinal⟩
 exact(Gm a2 eb c2 a5 E aI a8 g a1 F p).elim
structure AT (v:V):Prop where
 leaf:cS v=some [v]/\iB v=true
theorem AT.dX {v:V} (h:AT v) (hb:∀a:V,iB a=true->True):True:=trivial
structure NV (k:Nat) (c:XC) (R:TS) (K1:KP) (ev:V) (fn:Int) (a:rj):Prop where
 ev:bR K1 5 iU R.events ev
 ask:R.asks=true->fn=0/\a=lh k c R
 fin:R.asks=false->fn=R.fin/\a=gw
def Ke (k:Nat) (c:XC) (A:List Int) (K:KP) (L:Own) (v:V) (U':D):Prop:=∃(K1:KP) (ev:V) (fn:Int) (a:rj) (w7 w8 w9:V),v= .tuple [.agg [ev,.int .i64 fn,.int .i64 a.kind,.int .i64 a.loc,.int .i64 a.order,.int .i64 a.a,.int .i64 a.b,w7,w8,w9],.int .i64<|fE k c]/\KP.le K K1/\(∃le:List db,bR K1 5 iU le ev)/\(fE k c=0->NV k c (gx k c A) K1 ev fn a)/\AT w7/\AT w8/\AT w9/\J U' K1 L
theorem vW {k:Nat} {c:XC} (h:dq k c≠0):fE k c=dq k c:=by
 have a:aX (I (dq k c) 0)=true:=by unfold aX;rw[E8.2 h];rfl
 have b:jn k c=false:=by unfold jn;rw[a];rfl
 unfold fE;rw[b,a];rfl
theorem vX {k:Nat} {c:XC} (h:dq k c=0) (a:jn k c=false):fE k c=2:=by
 unfold fE;rw[a,h];rfl
theorem Dm {k:Nat} {c:XC} (a:jn k c=true):fE k c=0:=by
 unfold fE;rw[a];rfl
theorem N0 {G:Cx} (p:Plain G) {K:KP} {k:Nat} {c:XC} {cv:V} (q:bR K 6 (iI K k) c.ins cv) (f:mn k c) (t:um k c) {A:List Int} {va:V} (x:bR K 1 dy A va) (r:A.length<=100000) {U:D} {L:Own} (aq:J U K L):
  bk Tryz.prog G 85 [.agg [.int .i64 c.aY,cv],va] U (Ke k c A K L):=by
 refine PS p Tryz.func85 Z<|Pt 2 Z<|kp aq Z (cz Z Z) (fun U b1 aq=>?_);refine kp aq Z (QE (cs:=[.ax,T,T,T,T,T,T,T,.ax,T])) (fun U b2 aq=>?_);refine OO 5 Z<|O Z (QC Z aq.g1 (n:=2) (vs:=[_,_]) Z) Z<|bf Z (Qz Z Z Z) (fun _=>Z) (v8 p q f t aq) (fun U aq=>?_);refine ON 10 Z<|aE Z (fun b=>?_) (fun b=>?_)
 ·refine Pt 2 Z (O Z (Qy (places:=[(0,1),(1,1),(2,5),(7,1),(8,1),(9,1)]) (zero:=[.ax,T,T,T,T,T,T,T,.ax,T]) (cs:=[_,_,_,_,_,_,_,_,_,_]) Z) Z<|vQ 1 Z<|bO aq Z (QH Z Z Z aq.g0 (m:=10) Z Z (cells':=[_,_,_,_,_,_,_,_,_,_]) Z) Z (fun U aq=>?_));refine OQ 5 Z ?_;exact br Z Z aq.g0 (m:=10) Y Z Z ⟨K,.ax,0,gw,T,.ax,T,by rw[show fE k c=_ from by rw[vW (show dq k c≠0 from by rw[<-gU f];exact fun e=>by rw[e,fP] at b;cases b),<-gU f]];rfl,fun _ _ h=>h,⟨[],.inl ⟨Z,Z⟩⟩,(fun h=>absurd h (by rw[vW (show dq k c≠0 from by rw[<-gU f];exact fun e=>by rw[e,fP] at b;cases b),<-gU f];exact fun e=>by rw[e,fP] at b;cases b)),⟨Z,Z⟩,⟨Z,Z⟩,⟨Z,Z⟩,aq.pop.pop⟩
 refine Ol 5 Z<|O Z (QC Z aq.g1 (n:=2) (vs:=[_,_]) Z) Z ?_;have i:dq k c=0:=by rw[<-gU f];exact eqv<|bj b
 refine bf Z (Qz Z Z Z) (fun _=>Z) (MB p q f t aq) (fun U aq=>?_);refine O Z (cV Z) Z<|Pv 2 Z<|aE Z (fun d=>?_) (fun d=>?_)
 ·refine Pt 2 Z (O Z (Qy (places:=[(0,1),(1,1),(2,5),(7,1),(8,1),(9,1)]) (zero:=[.ax,T,T,T,T,T,T,T,.ax,T]) (cs:=[_,_,_,_,_,_,_,_,_,_]) Z) Z<|bO aq Z (QH Z Z Z aq.g0 (m:=10) Z Z (cells':=[_,_,_,_,_,_,_,_,_,_]) Z) Z (fun U aq=>?_));refine OQ 5 Z ?_;exact br Z Z aq.g0 (m:=10) Y Z Z ⟨K,.ax,0,gw,T,.ax,T,by rw[show fE k c=_ from vX i (bT d)];rfl,fun _ _ h=>h,⟨[],.inl ⟨Z,Z⟩⟩,(fun h=>absurd h (by rw[vX i<|bT d];decide)),⟨Z,Z⟩,⟨Z,Z⟩,⟨Z,Z⟩,aq.pop.pop⟩
 refine OK 4 Z<|O Z (QC Z aq.g1 (n:=2) (vs:=[_,_]) Z) Z<|vQ 1 Z ?_;have j:jn k c=true:=bj d;obtain⟨s,od,y,z⟩:=qL j;refine cH Z (Qz Z Z Z) (fun _=>Z) (Pd p q s y z x r aq) ?_;rintro _ U ⟨C,ev,fn,a,w7,w8,w9,rfl,hle,g,l,o,E,F,M,P,Q,R,aq⟩;have u:AT w7:=⟨Q,F⟩;have v:AT w8:=⟨E,M⟩;have w:AT w9:=⟨R,P⟩;refine bO aq Z (QH Z Z Z aq.g0 (m:=10) Z (ah g.leaf.2<|ah Z<|ah Z<|ah Z<|ah Z<|ah Z<|ah Z<|ah u.leaf.2<|ah v.leaf.2<|ah w.leaf.2 aC) (cells':=[_,_,_,_,_,_,_,_,_,_]) Z) Z (fun U aq=>?_);refine Px 4 Z ?_;exact br Z Z aq.g0 (m:=10) Y Z Z ⟨C,ev,fn,a,w7,w8,w9,by rw[Dm j],hle,⟨_,g⟩,fun _=>⟨g,l,o⟩,u,v,w,aq.pop.pop⟩
theorem HW {G:Cx} (x:Plain G) {K:KP} {k:Nat} {c:XC} {cv:V} (C:bR K 6 (iI K k) c.ins cv) (F:mn k c) (P:um k c) {l:List db} {lv:V} (E:bR K 5 iU l lv) (y:l.length<=100000) {U:D} {L:Own} (aq:J U K L):
  bk Tryz.prog G 48 [.agg [.int .i64 c.aY,cv],lv] U fun v U'=>v= .tuple [.agg<|yY (bI k c l).1,.int .i64 (bI k c l).2]/\J U' K L:=by
 refine PS x Tryz.func48 Z<|Pt 2 Z<|kp aq Z (cz Z Z) (fun U b1 aq=>?_);refine kp aq Z (QE (cs:=[T,T,T,T,T,T,T,T,T,T,T])) (fun U b2 aq=>?_);refine ON 4 Z (aS (l:=[(0,[]),(1,[]),(7,[]),(2,[0,7]),(3,[7]),(4,[]),(5,[]),(6,[]),(8,[]),(9,[])]) Y Y<|al Z Z (QC Z aq.g1 (n:=2) (vs:=[_,_]) Z) Z<|wQ 1 Z<|pB aq Z Z (QE (cs:=[.ax,T,T,T,T,T,T,T,.ax,T])) (fun _=>Z) (fun U b3 aq=>?_));refine jg Z Z (Qz Z Z Z) (fun _=>Z) (Gj x E y aq) ?_;rintro ac U ⟨M,Q,aq⟩;replace aq:=aq.keeps;have hA:=Q.iu (K:=K);have hi2:=oJ (KP.bX K M) C;refine⟨(bB (bN Z Z Z Z Z (QC Z (aq.get 2 Z) (n:=2) (vs:=[_,_]) Z)<|gH<|bS (fL _ _)<|bS C.fD fx)<|bB (iq Z Z Z Z Z (cs:=[.ax,T,T,T,T,T,T,T,.ax,T]) (e:=135) Y aq.g0 Y) aV),?_⟩;refine jg Z Z (Qz Z Z Z) (fun _=>Z) (N0 x hi2 F P hA (by have:=mj l;omega) aq) ?_;rintro _ U ⟨K1,ev,fn,a,w7,w8,w9,rfl,p,⟨le,z⟩,q,R,W,X,aq⟩;have hle:=KP.le_trans (KP.bX K M) p;have hl1:=E.mono hle fun _ _ h=>h
 refine⟨(bB (iq Z Z Z Z Z (cs:=[.ax,T,T,T,T,T,T,T,.ax,T]) (e:=135) Y aq.g0 Y) aV),?_⟩;refine P1 3 Z<|kb aq Z Z (QH Z Z Z aq.g0 (m:=10) Z (ah z.leaf.2<|ah Z<|ah Z<|ah Z<|ah Z<|ah Z<|ah Z<|ah R.leaf.2<|ah W.leaf.2<|ah X.leaf.2 aC) (cells':=[_,_,_,_,_,_,_,_,_,_]) Z) Z (fun U aq=>?_);refine⟨aV,?_⟩;refine OS 10 Z<|aE Z (fun o=>?_) (fun o=>?_)
 ·refine Pt 2 Z (O Z (Qy (places:=[(0,5),(5,5),(10,1)]) (zero:=[T,T,T,T,T,T,T,T,T,T,T]) (cs:=[_,_,_,_,_,_,_,_,_,_,_]) Z) Z<|vQ 1 Z<|eh aq Z (QH Z Z Z aq.g1 (m:=11) Z Z (cells':=[_,_,_,_,_,_,_,_,_,_,_]) Z) Z (fun U aq=>?_));refine OQ 5 Z ?_;exact br Z Z aq.g1 (m:=11) Y Z Z ⟨by rw[show bI k c l=(tV,fE k c) from by unfold bI;rw[show aX (I (fE k c) 0)=true from o];rfl];rfl,(aq.pop.pop.pop).weaken hle⟩
 refine Ot aq 8 [0,0] Z Z ?_;have r:fE k c=0:=eqv (bj o);obtain⟨b,g,i⟩:=q r;have t:bI k c l=iD k c (gx k c<|dg l) l:=by unfold bI;rw[r];rfl
 obtain⟨s,hs⟩:∃s,s=gx k c (dg l):=⟨_,Z⟩;rw[<-hs] at b g i t;refine bf Z (Qz Z Z Z) (fun _=>Z) (Kz x hl1 b aq) (fun U aq=>?_);refine O Z (cV Z) Z<|Pv 2 Z<|aE Z (fun d=>?_) (fun d=>?_)
 ·refine Pt 2 Z (O Z (Qy (places:=[(0,5),(5,5),(10,1)]) (zero:=[T,T,T,T,T,T,T,T,T,T,T]) (cs:=[_,_,_,_,_,_,_,_,_,_,_]) Z) Z<|eh aq Z (QH Z Z Z aq.g1 (m:=11) Z Z (cells':=[_,_,_,_,_,_,_,_,_,_,_]) Z) Z (fun U aq=>?_));refine OQ 5 Z ?_;exact br Z Z aq.g1 (m:=11) Y Z Z ⟨by rw[t,show iD k c s l=(tV,2) from by unfold iD;rw[show pw s l=false from bT d];rfl];rfl,(aq.pop.pop.pop).weaken hle⟩
 refine Ot aq 7 [0,0] Z Z<|O Z (QD b Z Z Z (e:=56) Z) Z<|vQ 1 Z<|O Z (QD hl1 Z Z Z (e:=56) Z) Z<|Pv 3 Z<|aE Z (fun f=>?_) (fun f=>?_)
 ·refine PA aq 5 [0,0] Z Z<|O Z (QD hl1 Z Z Z (e:=56) Z) Z ?_;obtain⟨A,j⟩:=cm (bu f);refine Qu (e:=56) (m:=5) b j Z Z Z Z (fun ag aa u ab w=>?_);obtain rfl:=w;refine O Z (QG aq u Z Z) Z (O Z (Qy (places:=[(0,5),(5,5),(10,1)]) (zero:=[T,T,T,T,T,T,T,T,T,T,T]) (cs:=[_,_,_,_,_,_,_,_,_,_,_]) Z) Z<|eh aq Z (QH Z Z Z aq.g1 (m:=11) Z Z (cells':=[_,_,_,_,_,_,_,_,_,_,_]) Z) Z (fun U aq=>?_));refine OQ 5 Z ?_;exact br Z Z aq.g1 (m:=11) Y Z Z ⟨by rw[t,show iD k c s l=(⟨A,gw,0⟩,0) from by unfold iD;rw[show pw s l=true from bj d,j];rfl];rfl,(aq.pop.pop.pop).weaken hle⟩
 refine OV aq 5 [2] Z Z (O Z (QC Z aq.g0 (n:=5) (vs:=[_,_,_,_,_]) Z) Z (P3 aq 2 [1,0] Z Z (O Z (Qy (places:=[(0,5),(5,5),(10,1)]) (zero:=[T,T,T,T,T,T,T,T,T,T,T]) (cs:=[_,_,_,_,_,_,_,_,_,_,_]) Z) Z<|eh aq Z (QH Z Z Z aq.g1 (m:=11) Z Z (cells':=[_,_,_,_,_,_,_,_,_,_,_]) Z) Z (fun U aq=>?_))));refine Px 4 Z ?_;cases has:s.asks with
 | true=>(obtain⟨rfl,rfl⟩:=g has;exact br Z Z aq.g1 (m:=11) Y Z Z ⟨by rw[t,show iD k c s l=(⟨lr,lh k c s,0⟩,0) from by unfold iD;rw[show pw s l=true from bj d,gN_<|bC f,has];rfl];rfl,(aq.pop.pop.pop).weaken hle⟩)
 | false=>(obtain⟨rfl,rfl⟩:=i has;exact br Z Z aq.g1 (m:=11) Y Z Z ⟨by rw[t,show iD k c s l=(⟨lr,gw,s.fin⟩,0) from by unfold iD;rw[show pw s l=true from bj d,gN_<|bC f,has];rfl];rfl,(aq.pop.pop.pop).weaken hle⟩)
end Go.Ev
namespace Go.Ev
section
variable [Env] {H_:Type}
def Fit (P:Program):Nat->TypeId->DataW H_->Prop
  | 0,_,_=>False
  | fuel+1,t,d=>
    match P.underlying t with
    | some .bool=>∃b,d= .lit (.bool b)
    | some (.int k)=>∃n,d= .lit (.int k n)
    | some .string=>∃s,d= .lit (.string s)/\s.length<=maxLen
    | some (.slice e)=>d= .nil∨∃elems spare,d= .slice elems spare/\∀x∈elems,Fit P fuel e x
    | some (.struct fs)=>∃parts,d= .agg parts/\parts.length=fs.size/\∀(i:Nat) (f:Field) (x:DataW H_),fs[i]?=some f->parts[i]?=some x->Fit P fuel f.type x
    | _=>True
theorem B7 {α β:Type} {f:α->Option β}:∀{l:List α} {ys:List β},l.mapM f=some ys->ys.length=l.length/\∀(i:Nat) (x:α),l[i]?=some x->∃y,ys[i]?=some y/\f x=some y
  | [],ys,h=>by simp at h;subst h;exact⟨Z,fun i x b=>by simp at b⟩
  | a::l,ys,h=>by
    simp only[List.mapM_cons,Option.bind_eq_bind,Option.bind_eq_some_iff,Option.pure_def,oJ_] at h;obtain⟨y,c,r,d,rfl⟩:=h;obtain⟨e,k2⟩:=B7 d;refine⟨by simp[e],fun i x b=>?_⟩;cases i with
    | zero=>simp at b;subst b;exact⟨y,Z,c⟩
    | succ i=>simpa using k2 i x (by simpa using b)
variable {enc:TypeId×Value->H_} {P:Program} {w:World}
theorem ng:∀(fuel:Nat) (t:TypeId) (cs:List Value) (d:DataW H_) (p:List MemPlace),DataW.trod enc P w 0 (fun _=>true) true fuel t cs=some (d,p)->Fit P fuel t d
  | 0,_,_,_,_,h=>by simp[DataW.trod] at h
  | fuel+1,t,cs,d,p,h=>by
    have ih:=ng fuel;unfold Fit;cases hu:P.underlying t with
    | none=>trivial
    | some u=>
      unfold DataW.trod at h;rw[hu] at h;cases u with
      | bool=>
        split at h<;>first | (rename_i he;cases he;done) | skip
        all_goals first
          | (cases h;exact⟨_,Z⟩)
          | cases h
      | int k=>
        split at h<;>first | (rename_i he;cases he;done) | skip
        all_goals first
          | (rename_i l k2 n he
             cases he;split at h
             · cases h;exact⟨_,Z⟩
             · cases h)
          | cases h
      | string=>
        split at h<;>first | (rename_i he;cases he;done) | skip
        all_goals first
          | (split at h
             · rename_i m;cases h;exact⟨_,Z,by rw[Array.length_toList];exact m⟩
             · cases h)
          | cases h
      | struct fs=>
        dsimp only at h⊢;split at h
        · obtain⟨xs,o,q⟩:=oM_.1 h
          have b:d= .agg (xs.map (·.1)):=by have:=congrArg Prod.fst q;simpa using this.symm
          obtain⟨l,k2⟩:=B7 o;refine⟨_,b,by simpa using l,fun i f x z g=>?_⟩;obtain⟨y,r,s⟩:=k2 i f (by rw[aT_];exact z);rw[gM_,r] at g;cases g;exact ih _ _ _ y.2 s
        · cases h
      | slice e=>
        split at h<;>first | (rename_i he;cases he;done) | skip
        · cases h;exact .inl Z
        · rename_i e' a len cap he
          cases he;dsimp only at h;rw[if_pos Z] at h;split at h
          · obtain⟨elems,v,A⟩:=Option.bind_eq_some_iff.1 h
            obtain⟨rest,_,b⟩:=oM_.1 A;have b:d= .slice (elems.map (·.1)) (rest.map (·.1)):=by have:=congrArg Prod.fst b;simpa using this.symm
            refine .inr ⟨_,_,b,fun x q=>?_⟩;obtain⟨y,r,rfl⟩:=List.mem_map.1 q;obtain⟨i,C⟩:=gO_ r;obtain⟨l,k2⟩:=mL v;obtain⟨j,_,E⟩:=k2 i y C;obtain⟨c,_,F⟩:=Option.bind_eq_some_iff.1 E;exact ih _ _ _ y.2 F
          · cases h
        all_goals cases h
      | _=>trivial
end
section
variable [Env] {P:Program} {G:Cx}
def sw (U:D):KP:=fun b o=>b<U.next/\U.m.get b=some o
theorem J.of (U:D):J U (sw U) []:=⟨fun b o h=>⟨h.1,h.2,fun e he=>by cases he⟩,fun e he=>(by cases he),List.Pairwise.nil⟩
theorem kr.Oe {w w':World} {S S':dh} {U U':D} (h:eY S U w S' U' w') (d:ld U):kr w w':=
  ⟨h.os,h.out,h.tape,h.size,fun r a=>h.frame r a fun⟨b,o,l,e,c,_⟩=>by rw[d b o e] at c;cases c⟩
theorem Bq (hm:P.follows .mixedOrders=true) (a:AQ P G) {S:dh} {U:D} {w:World} {f:Nat} {args:List V} {xs:Array Value} {R:V->D->Prop} (b:Inv S U w) (c:GR S G) (d:ld U) (g:dp S args xs.toList) (h:bk P G f args U R):
    Calls P f xs w fun e w'=>∃v x U' S',e= .returned x/\kr w w'/\H S' v x/\R v U':=by
  obtain⟨K,v,U',i,j⟩:=h;exact pU (fuel:=K) hm a (i K<|nR_ _) b c g fun S' w' x _ st k=>⟨v,x,U',S',Z,kr.Oe st d,k,j⟩
theorem ld.leaf:ld U0:=fun b o h=>by
  have:(N.leaf:N cG).get b=some o:=h;rw[N.mE] at this;cases this
theorem dz.fresh {S:dh} {U:D} {w:World} (a:Inv S U w) {b:Nat} {o:cG} (h:U.m.get b=some o):b<U.next:=by
  rcases Nat.lt_or_ge b U.next with h' | h'
  · exact h'
  · rw[(a.fresh b h').2] at h;cases h
end
section
variable {H_:Type}
def m3:DataW H_->Int
 | .lit (.int _ n)=>n
 | _=>0
def M9:DataW H_->List Nat
 | .lit (.string s)=>s.map UInt8.toNat
 | _=>[]
def eO:DataW H_->List (DataW H_)
 | .slice l _=>l
 | _=>[]
def cF (d:DataW H_) (i:Nat):DataW H_:=
 match d with
 | .agg ps=>ps.getD i .nil
 | _=>.nil
def Ax:Nat->DataW H_->XE
 | 0,_=>.mk 0 0 [] []
 | 1,_=>.mk 0 0 [] []
 | k+2,d=>.mk (m3<|cF d 0) (m3<|cF d 1) (M9<|cF d 2) ((eO<|cF d 3).map<|Ax k)
def JL (k:Nat) (d:DataW H_):XI:=⟨m3<|cF d 0,m3<|cF d 1,m3<|cF d 2,m3<|cF d 3,m3<|cF d 4,(eO<|cF d 5).map<|Ax k⟩
def CH (k:Nat) (d:DataW H_):XC:=⟨m3<|cF d 0,(eO<|cF d 1).map<|JL k⟩
end
section
variable [Env] {H_:Type} {P:Program} {U:D}
theorem iP {fuel:Nat} {t:TypeId} {d:DataW H_} {vs:List V} {k:IntKind} (hu:P.underlying t=some (.int k)) (a:Fit P fuel t d) (b:dz P U fuel t d vs):vs= [.int k<|m3 d]/\(Lit.int k<|m3 d).wf=true:=by
 cases fuel with
 | zero=>exact a.elim
 | succ fuel=>
  unfold Fit at a;rw[hu] at a;obtain⟨n,rfl⟩:=a;unfold dz at b;rw[hu] at b;obtain⟨_,c,rfl⟩:=b;exact⟨Z,c⟩
theorem Nq {fuel:Nat} {t:TypeId} {d:DataW H_} {vs:List V} (hu:P.underlying t=some .string) (a:Fit P fuel t d) (b:dz P U fuel t d vs):vs= [.str<|M9 d]:=by
 cases fuel with
 | zero=>exact a.elim
 | succ fuel=>
  unfold Fit at a;rw[hu] at a;obtain⟨n,rfl,_⟩:=a;unfold dz at b;rw[hu] at b;exact b.2
theorem Lu {fuel:Nat} {t:TypeId} {d:DataW H_} (hu:P.underlying t=some .string) (a:Fit P fuel t d):(M9 d).length<=9223372036854775807:=by
 cases fuel with
 | zero=>exact a.elim
 | succ fuel=>
  unfold Fit at a;rw[hu] at a;obtain⟨n,rfl,h⟩:=a;show(n.map UInt8.toNat).length<=_;rw[lM_];exact h
theorem fV {α:Type} {fuel:Nat} {t e:TypeId} {m:Nat} {d:DataW H_} {vs:List V} (F:DataW H_->α) (R:α->List V->Prop) (hu:P.underlying t=some (.slice e)) (hm:P.cellsOf e=m) (l:1<=m) (n:∀(b:Nat) (o:cG),U.m.get b=some o->b<U.next) (g:Fit P (fuel+1) t d) (a:dz P U (fuel+1) t d vs)
  (p:∀x vs,Fit P fuel e x->dz P U fuel e x vs->R (F x) vs):∃v,vs= [v]/\bR (sw U) m R ((eO d).map F) v:=by
 unfold Fit at g;rw[hu] at g;dsimp only at g;unfold dz at a;rw[hu] at a;rcases g with rfl | ⟨elems,spare,rfl,f⟩
 ·dsimp only at a;exact⟨_,a,.inl ⟨Z,Z⟩⟩
 dsimp only at a;rw[hm] at a;obtain⟨b,c,cells,e',rfl,k2,h,q,r,s⟩:=a l;refine⟨_,Z,.inr ⟨b,0,c,cells,e',true,by rw[show(eO<|DataW.slice elems spare).map F=elems.map F from Z,lM_],?_,⟨n b _ h,h⟩,?_,?_,fun i x j=>?_⟩⟩
 ·rw[show(eO<|DataW.slice elems spare).map F=elems.map F from Z,lM_];rcases q with rfl | rfl
  ·exact .inr ⟨_,Z,Nat.le_add_right _ _⟩
  exact .inl Z
 ·rw[show(eO<|DataW.slice elems spare).map F=elems.map F from Z,lM_,r,nA_];exact nR_ _
 ·rw[show(eO<|DataW.slice elems spare).map F=elems.map F from Z,lM_];exact k2
 rw[show(eO<|DataW.slice elems spare).map F=elems.map F from Z,gM_,oM_] at j;obtain⟨y,k,rfl⟩:=j;rw[nA_];exact p y _ (f y<|gB_ k)<|s i y k
theorem gn {fuel:Nat} {t:TypeId} {fs:Array Field} {d:DataW H_} {vs:List V} {m:Nat} (hu:P.underlying t=some (.struct fs)) (j:P.cellsOf t=m) (k:qw P fs.toList 0=some m) (c:Fit P (fuel+1) t d) (a:dz P U (fuel+1) t d vs):
  vs.length=m/\∀(i:Nat) (f:Field),fs[i]?=some f->Fit P fuel f.type (cF d i)/\dz P U fuel f.type (cF d i) ((vs.drop f.offset).take<|P.cellsOf f.type):=by
 unfold Fit at c;rw[hu] at c;dsimp only at c;obtain⟨parts,rfl,l,b⟩:=c;unfold dz at a;rw[hu] at a;dsimp only at a;rw[j] at a;obtain⟨_,n,o⟩:=a k;refine⟨n,fun i f e=>?_⟩;have g:i<parts.length:=by rw[l];exact(aS_.1 e).1
 have h:parts[i]?=some parts[i]:=gC g
 have:cF (.agg parts) i=parts[i]:=by
  show parts.getD i .nil=_;rw[List.getD_eq_getElem?_getD,h];rfl
 rw[this];exact⟨b i f _ e h,o i f _ e h⟩
theorem bR.yX {α:Type} {K:KP} {m:Nat} {R R':α->List V->Prop} {l:List α} {v:V} (h:bR K m R l v) (a:∀x vs,R x vs->R' x vs):bR K m R' l v:=h.mono (KP.le_refl K) a
theorem ey.up {K:KP}:∀{k:Nat} {x:XE} {vs:List V},ey K k x vs->ey K (k+1) x vs
 | 0,x,_,h=>by cases x;exact h.elim
 | k+1,.mk op num name kids,vs,h=>by
  obtain⟨v,rfl,a⟩:=h;exact⟨v,Z,a.yX fun x vs h=>ey.up h⟩
end
theorem Gb {H_:Type} {enc:TypeId×Value->H_} {P:Program} {w w':World} {sp:Nat->Bool} (a:∀r:Nat,r<w.heap.size->w'.heap[r]?=w.heap[r]?) {fuel:Nat} {t:TypeId} {cs:List Value} {x:DataW H_×List MemPlace}
  (h:DataW.trod enc P w 0 sp true fuel t cs=some x):DataW.trod enc P w' 0 sp true fuel t cs=some x:=by
 refine DataW.trod_carry fuel t cs x h fun p c=>?_
 have hlt:=DataW.trod_lt fuel t cs x h p c;cases p with
 | cell b off=>
  show w'.cell? ⟨b,off,none⟩=w.cell? ⟨b,off,none⟩;unfold World.cell?;rw[a b hlt]
 | map b=>exact a b hlt
theorem sF {H_:Type} {enc:TypeId×Value->H_} {P:Program} {w w':World} {sp:Nat->Bool} (a:∀r:Nat,r<w.heap.size->w'.heap[r]?=w.heap[r]?):∀{ts:List TypeId} {vs:List Value} {ds:List (DataW H_)} {ps:List MemPlace},
  DataW.TrodAll enc P w 0 sp true ts vs ds ps->DataW.TrodAll enc P w' 0 sp true ts vs ds ps
 | [],[],[],_,h=>h
 | _::_,_::_,_::_,_,⟨p,q,⟨n,b⟩,c,e⟩=>⟨p,q,⟨n,Gb a b⟩,sF a c,e⟩
theorem Cl {H_:Type} {enc:TypeId×Value->H_} {P:Program} (b:laidOutB P=true) (hm:mapsRowed P=true) (c:((List.range P.types.size).all fun t=>match P.underlying t with | some (.slice e)=>decide (0<P.cellsOf e) | _=>true)=true) {w w':World} (d:kr w w') {ts:List TypeId} {vs:List Value} {ds:List (DataW H_)} {ps:List MemPlace}
  (f:(ts.all fun t=>decide (t<P.types.size))=true) (h:DataW.TrodAll enc P w 0 (fun _=>true) true ts vs ds ps) {sp:Nat->Bool} (a:∀p∈ps,sp p.block=true):DataW.TrodAll enc P w' 0 sp true ts vs ds ps:=
 sF d.same (h.respare (kids_rows b hm) (slices_full_of P c) (fun t g=>of_decide_eq_true (aE_.1 f t g)) a)
end Go.Ev
namespace Go.Ev
variable [Env]
open Go.Proofs
set_option maxRecDepth 4000
set_option maxHeartbeats 8000000
theorem F0 {G:Cx} (y:Plain G) {K:KP} {l1 l2:List Int} {u w:V} {U:D} {L:Own} (aq:J U K L) (r:bR K 1 (dy) l1 u) (x:bR K 1 (dy) l2 w)
     :bk Tryz.prog G 50 [u,w] U fun v U'=>v= .bool (dk l1 l2)/\J U' K L:=by
  refine PS y Tryz.func50 Z<|OI 9 Z<|O Z (QD r Z Z Z (e:=2) Z) Z<|vQ 1 Z<|O Z (QD x Z Z Z (e:=2) Z) Z<|Pv 3 Z<|aE Z (fun b=>?_) (fun b=>?_)
  · skip
    refine Pu 7 Z ?_;exact aA Z Z ⟨by first | rw[eZ<|bT b] | (rw[fA c d (by simpa only[sI] using bT f)]) | rw[ei (dB<|bj b) (bC g) a],aq⟩
  · skip
    refine Ok 9 Z ?_;obtain⟨LL1,aq,hLL1⟩:=aq.named;refine bp ([4,5]++rg 11 15) (fun j t U=>∃(i:Nat),j+i=l1.length/\(∀k,k<i->l1[k]?=l2[k]?)/\t.get 5=some (.int .i64 (.ofNat i))/\J U K LL1) (l1.length) ⟨0,Z,fun k z=>absurd z (nZ_ _),Z,aq⟩ ?_;clear aq;intro A t U ar C;obtain⟨i,hj,a,s,aq⟩:=C;subst hLL1;obtain⟨oo,rfl⟩:=ar.q1 s Z;refine OI 5 Z<|O Z (QD r Z Z Z (e:=2) Z) Z<|Pv 3 Z<|aE Z (fun g=>?_) (fun g=>?_)
    · skip
      refine NO 5 Z<|aS (l:=zp [0,1,2,3,4,5,6,7,8]) Y Y<|P1 2 Z ?_;obtain⟨am,c,h⟩:=cL g;refine Qv (e:=2) (m:=1) r c Z Z Z Z Z (fun ao aa n ab o=>?_);obtain rfl:=o;refine al Z Z (QF aq n Z Z) Z<|P1 2 Z ?_;obtain⟨ap,d⟩:=cm (show _<l2.length from by rw[<-dB (bj b)];exact h);refine Qv (e:=2) (m:=1) x d Z Z Z Z Z (fun ax ac p ag q=>?_);obtain rfl:=q;refine al Z Z (QF aq p Z Z) Z<|Py 3 Z<|aE Z (fun f=>?_) (fun f=>?_)
      · skip
        refine PX 6 Z<|aF<|aw<|bz<|aF<|aw (?_);exact aA Z Z ⟨by first | rw[eZ<|bT b] | (rw[fA c d (by simpa only[sI] using bT f)]) | rw[ei (dB<|bj b) (bC g) a],aq⟩
      · skip
        refine aG<|aJ<|PW 5 Z<|aO ⟨A-1,by omega,oF,i+1,by omega,jH a c d (by simpa only[sI] using bj f),cI<|bg (by have:=r.bG;omega),aq⟩
    · skip
      refine OL 3 Z<|aT<|PX 6 Z ?_;exact aA Z Z ⟨by first | rw[eZ<|bT b] | (rw[fA c d (by simpa only[sI] using bT f)]) | rw[ei (dB<|bj b) (bC g) a],aq⟩
theorem JO {G:Cx} (F:Plain G) {K:KP} {l1 l2:List db} {A C:V} {U:D} {L:Own} (aq:J U K L) (w:bR K 5 (iU) l1 A) (E:bR K 5 (iU) l2 C)
     :bk Tryz.prog G 51 [A,C] U fun v U'=>v= .bool (dk l1 l2)/\J U' K L:=by
  refine PS F Tryz.func51 Z<|OI 9 Z<|O Z (QD w Z Z Z (e:=56) Z) Z<|vQ 1 Z<|O Z (QD E Z Z Z (e:=56) Z) Z<|Pv 3 Z<|aE Z (fun b=>?_) (fun b=>?_)
  · skip
    refine Pu 7 Z ?_;exact aA Z Z ⟨by first | rw[eZ<|bT b] | (rw[fA c d (by exact(db.same (x:=h) (y:=o)).symm.trans<|bT f)]) | rw[ei (dB<|bj b) (bC g) a],aq⟩
  · skip
    refine Ok 9 Z ?_;obtain⟨LL1,aq,hLL1⟩:=aq.named;refine bp ([4,5]++rg 11 15) (fun j t U=>∃(i:Nat),j+i=l1.length/\(∀k,k<i->l1[k]?=l2[k]?)/\t.get 5=some (.int .i64 (.ofNat i))/\J U K LL1) (l1.length) ⟨0,Z,fun k M=>absurd M (nZ_ _),Z,aq⟩ ?_;clear aq;intro P t U ar Q;obtain⟨i,hj,a,z,aq⟩:=Q;subst hLL1;obtain⟨oo,rfl⟩:=ar.q1 z Z;refine OI 5 Z<|O Z (QD w Z Z Z (e:=56) Z) Z<|Pv 3 Z<|aE Z (fun g=>?_) (fun g=>?_)
    · skip
      refine NO 5 Z<|aS (l:=zp [0,1,2,3,4,5,6,7,8]) Y Y<|P1 2 Z ?_;obtain⟨h,c,p⟩:=cL g;refine Qv (e:=56) (m:=5) w c Z Z Z Z Z (fun am aa q ab r=>?_);obtain rfl:=r;refine al Z Z (QG aq q Z Z) Z<|P1 2 Z ?_;obtain⟨o,d⟩:=cm (show _<l2.length from by rw[<-dB (bj b)];exact p);refine Qv (e:=56) (m:=5) E d Z Z Z Z Z (fun ao ac s ag u=>?_);obtain rfl:=u;refine al Z Z (QG aq s Z Z) Z<|al Z Z (zw (n:=5) (ca:=[_,_,_,_,_]) (cb:=[_,_,_,_,_]) Y Z Z Z Z) Z<|Py 2 Z<|aE Z (fun f=>?_) (fun f=>?_)
      · skip
        refine PX 6 Z<|aF<|aw<|bz<|aF<|aw (?_);exact aA Z Z ⟨by first | rw[eZ<|bT b] | (rw[fA c d (by exact(db.same (x:=h) (y:=o)).symm.trans<|bT f)]) | rw[ei (dB<|bj b) (bC g) a],aq⟩
      · skip
        refine aG<|aJ<|PW 5 Z<|aO ⟨P-1,by omega,oF,i+1,by omega,jH a c d (by exact(db.same (x:=h) (y:=o)).symm.trans<|bj f),cI<|bg (by have:=w.bG;omega),aq⟩
    · skip
      refine OL 3 Z<|aT<|PX 6 Z ?_;exact aA Z Z ⟨by first | rw[eZ<|bT b] | (rw[fA c d (by exact(db.same (x:=h) (y:=o)).symm.trans<|bT f)]) | rw[ei (dB<|bj b) (bC g) a],aq⟩
theorem Ma {G:Cx} (F:Plain G) {K:KP} {l1 l2:List dw} {A C:V} {U:D} {L:Own} (aq:J U K L) (w:bR K 2 (iV) l1 A) (E:bR K 2 (iV) l2 C)
     :bk Tryz.prog G 41 [A,C] U fun v U'=>v= .bool (dk l1 l2)/\J U' K L:=by
  refine PS F Tryz.func41 Z<|OI 9 Z<|O Z (QD w Z Z Z (e:=67) Z) Z<|vQ 1 Z<|O Z (QD E Z Z Z (e:=67) Z) Z<|Pv 3 Z<|aE Z (fun b=>?_) (fun b=>?_)
  · skip
    refine Pu 7 Z ?_;exact aA Z Z ⟨by first | rw[eZ<|bT b] | (rw[fA c d (by exact(dw.same (x:=h) (y:=o)).symm.trans<|bT f)]) | rw[ei (dB<|bj b) (bC g) a],aq⟩
  · skip
    refine Ok 9 Z ?_;obtain⟨LL1,aq,hLL1⟩:=aq.named;refine bp ([4,5]++rg 11 15) (fun j t U=>∃(i:Nat),j+i=l1.length/\(∀k,k<i->l1[k]?=l2[k]?)/\t.get 5=some (.int .i64 (.ofNat i))/\J U K LL1) (l1.length) ⟨0,Z,fun k M=>absurd M (nZ_ _),Z,aq⟩ ?_;clear aq;intro P t U ar Q;obtain⟨i,hj,a,z,aq⟩:=Q;subst hLL1;obtain⟨oo,rfl⟩:=ar.q1 z Z;refine OI 5 Z<|O Z (QD w Z Z Z (e:=67) Z) Z<|Pv 3 Z<|aE Z (fun g=>?_) (fun g=>?_)
    · skip
      refine NO 5 Z<|aS (l:=zp [0,1,2,3,4,5,6,7,8]) Y Y<|P1 2 Z ?_;obtain⟨h,c,p⟩:=cL g;refine Qv (e:=67) (m:=2) w c Z Z Z Z Z (fun am aa q ab r=>?_);obtain rfl:=r;refine al Z Z (QG aq q Z Z) Z<|P1 2 Z ?_;obtain⟨o,d⟩:=cm (show _<l2.length from by rw[<-dB (bj b)];exact p);refine Qv (e:=67) (m:=2) E d Z Z Z Z Z (fun ao ac s ag u=>?_);obtain rfl:=u;refine al Z Z (QG aq s Z Z) Z<|al Z Z (zw (n:=2) (ca:=[_,_]) (cb:=[_,_]) Y Z Z Z Z) Z<|Py 2 Z<|aE Z (fun f=>?_) (fun f=>?_)
      · skip
        refine PX 6 Z<|aF<|aw<|bz<|aF<|aw (?_);exact aA Z Z ⟨by first | rw[eZ<|bT b] | (rw[fA c d (by exact(dw.same (x:=h) (y:=o)).symm.trans<|bT f)]) | rw[ei (dB<|bj b) (bC g) a],aq⟩
      · skip
        refine aG<|aJ<|PW 5 Z<|aO ⟨P-1,by omega,oF,i+1,by omega,jH a c d (by exact(dw.same (x:=h) (y:=o)).symm.trans<|bj f),cI<|bg (by have:=w.bG;omega),aq⟩
    · skip
      refine OL 3 Z<|aT<|PX 6 Z ?_;exact aA Z Z ⟨by first | rw[eZ<|bT b] | (rw[fA c d (by exact(dw.same (x:=h) (y:=o)).symm.trans<|bT f)]) | rw[ei (dB<|bj b) (bC g) a],aq⟩
theorem LA {G:Cx} (Q:Plain G) {K:KP} {g1 b:XG} {a1 b1 c1 d1 a2 b2 c2 d2:V} {U:D} {L:Own} (aq:J U K L) (h1:eN K g1 a1 b1 c1 d1) (h2:eN K b a2 b2 c2 d2):
  bk Tryz.prog G 17 [.agg [a1,b1,c1,d1],.agg [a2,b2,c2,d2]] U fun v U'=>v= .bool (dk g1 b)/\J U' K L:=by
 obtain⟨bl,s,u,w⟩:=h1;obtain⟨bm,R,W,X⟩:=h2;refine PS Q Tryz.func17 Z<|Pt 2 Z<|kp aq Z (cz Z Z) (fun U b1 aq=>?_);refine kp aq Z (cz Z Z) (fun U b2 aq=>?_);refine Ou aq 10 [0,1,0,0] Z Z<|bf Z (Qz Z Z Z) (fun _=>Z) (F0 Q aq bl bm) (fun U aq=>?_);refine O Z (cV Z) Z<|ky Z (an Z) (fun a=>?_) (fun a=>?_)
 ·refine OQ 36 Z ?_;exact aA Z Z ⟨cB (by have c:dk g1.init b.init=false:=(by simpa using a);rw[nk];simp only[c,Bool.and_true,Bool.true_and,Bool.and_false,Bool.false_and]),aq.pop.pop⟩
 refine P3 aq 2 [1,1] Z Z<|O Z (QD s Z Z Z (e:=57) Z) Z<|P3 aq 2 [1,0] Z Z<|O Z (QD R Z Z Z (e:=57) Z) Z<|PZ 2 Z<|ky Z (an Z) (fun d=>?_) (fun d=>?_)
 ·refine OQ 27 Z ?_;exact aA Z Z ⟨cB (by have c:dk g1.init b.init=true:=(by simpa using a);have e1:=eZ (bT d);rw[nk];simp only[c,e1,Bool.and_true,Bool.true_and,Bool.and_false,Bool.false_and]),aq.pop.pop⟩
 refine P3 aq 2 [2,1] Z Z<|O Z (QD u Z Z Z (e:=74) Z) Z<|P3 aq 2 [2,0] Z Z<|O Z (QD W Z Z Z (e:=74) Z) Z<|PZ 2 Z<|ky Z (an Z) (fun f=>?_) (fun f=>?_)
 ·refine OQ 18 Z ?_;exact aA Z Z ⟨cB (by have c:dk g1.init b.init=true:=(by simpa using a);have e2:=eZ (bT f);rw[nk];simp only[c,e2,Bool.and_true,Bool.true_and,Bool.and_false,Bool.false_and]),aq.pop.pop⟩
 refine P3 aq 2 [3,1] Z Z<|O Z (QD w Z Z Z (e:=74) Z) Z<|P3 aq 2 [3,0] Z Z<|O Z (QD X Z Z Z (e:=74) Z) Z<|Pv 4 Z<|aE Z (fun x=>?_) (fun x=>?_)
 ·refine Pu 7 Z ?_;exact aA Z Z ⟨cB (by have c:dk g1.init b.init=true:=(by simpa using a);have e3:=eZ (bT x);rw[nk];simp only[c,e3,Bool.and_true,Bool.true_and,Bool.and_false,Bool.false_and]),aq.pop.pop⟩
 refine Ok 9 Z ?_;obtain⟨LL1,aq,hLL1⟩:=aq.named;refine bp ([4,5]++rg 41 19) (fun j t U=>∃(i:Nat),j+i=g1.threads.length/\(∀k,k<i->g1.threads[k]?=b.threads[k]?)/\t.get 5=some (.int .i64 (.ofNat i))/\J U K LL1) (g1.threads.length) ⟨0,Z,fun k hk=>absurd hk (nZ_ _),Z,aq⟩ ?_;clear aq;intro j4 t U ar hI;obtain⟨i,cg,y,bo,aq⟩:=hI;subst hLL1;obtain⟨oo,rfl⟩:=ar.q1 bo Z;refine OU aq 6 [1,1] Z Z<|O Z (QD s Z Z Z (e:=57) Z) Z<|Pv 3 Z<|aE Z (fun g=>?_) (fun g=>?_)
 ·refine NO 5 Z<|aS (l:=zp [0,1,2,3,4,5,6,7,8,9,10,11]) Y Y<|P4 aq 3 [1,1] Z Z ?_;obtain⟨ch,h,aa⟩:=cL g;refine Qv (e:=57) (m:=1) s h Z Z Z Z Z (fun ci bw ab b0 ac=>?_);have hr51':=ac;obtain⟨ck,rfl,ag⟩:=hr51';refine al Z Z (QF aq ab Z Z) Z<|P4 aq 3 [1,0] Z Z ?_;obtain⟨cl,n⟩:=cm (show _<b.threads.length from by rw[<-dB (bj d)];exact aa);refine Qv (e:=57) (m:=1) R n Z Z Z Z Z (fun cn b3 am b4 ao=>?_);have hr56':=ao;obtain⟨co,rfl,ap⟩:=hr56';refine al Z Z (QF aq am Z Z) Z<|cA Z Z (Qz Z Z Z) (fun _=>Z) (JO Q aq ag ap) (fun U aq=>?_);refine⟨aV,?_⟩;refine al Z Z (cV Z) Z<|Py 2 Z<|aE Z (fun C=>?_) (fun C=>?_)
  ·refine PX 6 Z<|aF<|aw<|bz<|aF<|aw (?_);exact aA Z Z ⟨cB (by have c:dk g1.init b.init=true:=(by simpa using a);have e1:=fA h n (by simpa using C);rw[nk];simp only[c,e1,Bool.and_true,Bool.true_and,Bool.and_false,Bool.false_and]),aq.pop.pop⟩
  refine aG<|aJ<|PW 5 Z<|aO ⟨j4-1,by omega,oF,i+1,by omega,jH y h n (by simpa using C),cI<|bg (by have:=s.bG;omega),aq⟩
 refine OL 3 Z<|aT<|OH 7 Z ?_;obtain⟨LL2,aq,hLL2⟩:=aq.named;refine bp ([4,6]++rg 60 19) (fun j t U=>∃(i2:Nat),j+i2=g1.from_.length/\(∀k,k<i2->g1.from_[k]?=b.from_[k]?)/\t.get 6=some (.int .i64 (.ofNat i2))/\J U K LL2) (g1.from_.length) ⟨0,Z,fun k hk=>absurd hk (nZ_ _),Z,aq⟩ ?_;clear aq;intro j9 t U ar hI;obtain⟨i2,cp,E,bs,aq⟩:=hI;subst hLL2;obtain⟨oo,rfl⟩:=ar.q1 bs Z;refine OU aq 6 [2,1] Z Z<|O Z (QD u Z Z Z (e:=74) Z) Z<|Pv 3 Z<|aE Z (fun z=>?_) (fun z=>?_)
 ·refine NO 5 Z<|aS (l:=zp [0,1,2,3,4,5,6,7,8,9,10,11]) Y Y<|P4 aq 3 [2,1] Z Z ?_;obtain⟨cs,o,ax⟩:=cL z;refine Qv (e:=74) (m:=1) u o Z Z Z Z Z (fun cv b5 aI b6 aY=>?_);have hr70':=aY;obtain⟨cx,rfl,a0⟩:=hr70';refine al Z Z (QF aq aI Z Z) Z<|P4 aq 3 [2,0] Z Z ?_;obtain⟨cM,p⟩:=cm (show _<b.from_.length from by rw[<-dB (bj f)];exact ax);refine Qv (e:=74) (m:=1) W p Z Z Z Z Z (fun c0 b7 a3 b8 a4=>?_);have hr75':=a4;obtain⟨c3,rfl,a5⟩:=hr75';refine al Z Z (QF aq a3 Z Z) Z<|cA Z Z (Qz Z Z Z) (fun _=>Z) (Ma Q aq a0 a5) (fun U aq=>?_);refine⟨aV,?_⟩;refine al Z Z (cV Z) Z<|Py 2 Z<|aE Z (fun F=>?_) (fun F=>?_)
  ·refine PX 6 Z<|aF<|aw<|bz<|aF<|aw (?_);exact aA Z Z ⟨cB (by have c:dk g1.init b.init=true:=(by simpa using a);have e1:=ei (dB<|bj d) (bC g) y;have e2:=fA o p (by simpa using F);rw[nk];simp only[c,e1,e2,Bool.and_true,Bool.true_and,Bool.and_false,Bool.false_and]),aq.pop.pop⟩
  refine aG<|aJ<|PW 5 Z<|aO ⟨j9-1,by omega,oF,i2+1,by omega,jH E o p (by simpa using F),cI<|bg (by have:=u.bG;omega),aq⟩
 refine OL 3 Z<|aT<|OH 7 Z ?_;obtain⟨LL3,aq,hLL3⟩:=aq.named;refine bp ([4,7]++rg 79 19) (fun j t U=>∃(i3:Nat),j+i3=g1.order.length/\(∀k,k<i3->g1.order[k]?=b.order[k]?)/\t.get 7=some (.int .i64 (.ofNat i3))/\J U K LL3) (g1.order.length) ⟨0,Z,fun k hk=>absurd hk (nZ_ _),Z,aq⟩ ?_;clear aq;intro bt t U ar hI;obtain⟨i3,b9,A,bv,aq⟩:=hI;subst hLL3;obtain⟨oo,rfl⟩:=ar.q1 bv Z;refine OU aq 6 [3,1] Z Z<|O Z (QD w Z Z Z (e:=74) Z) Z<|Pv 3 Z<|aE Z (fun M=>?_) (fun M=>?_)
 ·refine NO 5 Z<|aS (l:=zp [0,1,2,3,4,5,6,7,8,9,10,11]) Y Y<|P4 aq 3 [3,1] Z Z ?_;obtain⟨c4,q,a6⟩:=cL M;refine Qv (e:=74) (m:=1) w q Z Z Z Z Z (fun c5 ca a7 cb a8=>?_);have hr89':=a8;obtain⟨c7,rfl,a9⟩:=hr89';refine al Z Z (QF aq a7 Z Z) Z<|P4 aq 3 [3,0] Z Z ?_;obtain⟨c8,r⟩:=cm (show _<b.order.length from by rw[<-dB (bj x)];exact a6);refine Qv (e:=74) (m:=1) X r Z Z Z Z Z (fun c9 cc bb ce be=>?_);have hr94':=be;obtain⟨dd,rfl,bi⟩:=hr94';refine al Z Z (QF aq bb Z Z) Z<|cA Z Z (Qz Z Z Z) (fun _=>Z) (Ma Q aq a9 bi) (fun U aq=>?_);refine⟨aV,?_⟩;refine al Z Z (cV Z) Z<|Py 2 Z<|aE Z (fun P=>?_) (fun P=>?_)
  ·refine PX 6 Z<|aF<|aw<|bz<|aF<|aw (?_);exact aA Z Z ⟨cB (by have c:dk g1.init b.init=true:=(by simpa using a);have e1:=ei (dB<|bj d) (bC g) y;have e2:=ei (dB<|bj f) (bC z) E;have e3:=fA q r (by simpa using P);rw[nk];simp only[c,e1,e2,e3,Bool.and_true,Bool.true_and,Bool.and_false,Bool.false_and]),aq.pop.pop⟩
  refine aG<|aJ<|PW 5 Z<|aO ⟨bt-1,by omega,oF,i3+1,by omega,jH A q r (by simpa using P),cI<|bg (by have:=w.bG;omega),aq⟩
 refine OL 3 Z<|aT<|PX 6 Z ?_;exact aA Z Z ⟨cB (by have c:dk g1.init b.init=true:=(by simpa using a);have e1:=ei (dB<|bj d) (bC g) y;have e2:=ei (dB<|bj f) (bC z) E;have e3:=ei (dB<|bj x) (bC M) A;rw[nk];simp only[c,e1,e2,e3,Bool.and_true,Bool.true_and,Bool.and_false,Bool.false_and]),aq.pop.pop⟩
end Go.Ev
end
