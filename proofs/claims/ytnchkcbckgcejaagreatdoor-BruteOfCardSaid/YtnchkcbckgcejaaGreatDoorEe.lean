/- Part of the proof: an evaluator of the model's code, rules for walks on it, walks. Without conditions. -/
import Derived.Test.YtnchkcbckgcejaaGreatDoorEb
import Derived.Test.YtnchkcbckgcejaaGreatDoorEd
import Derived.Test.YtnchkcbckgcejaaGreatDoorEc
import Derived.Test.YtnchkcbckgcejaaGreatDoorProg
import Derived.KernelRfl
set_option linter.unusedSectionVars false
set_option linter.unusedVariables false
set_option linter.unusedSimpArgs false
noncomputable section
set_option maxHeartbeats 8000000
set_option maxRecDepth 4000
open Go.Proofs
namespace Go.Ev
variable [Env]
variable {G:Cx} {K:KP} {O:aB} {L:Own} {g:XG} {va vb vc vd:V}
theorem Tt (E:Plain G) (hg:dS K g va vb vc vd) (ar:H O K L):
  EC G 147 [.agg [va,vb,vc,vd]] O fun v O'=>(F (ec g) 0=false/\v= .tuple [.agg Hs,.int .i64 2]/\H O' K L)∨(dC g/\∃K1 u0 u1 u2 u3 ue up ul us uh,v= .tuple [.agg<|fp (nV g) u0 u1 u2 u3 ue up ul us uh,D]/\KP.le K K1/\l7 K1 g u0 u1 u2 u3 ue up ul us uh/\H O' K1 L):=by
 refine V9 E Tryz.func147 Z<|Vw 2 Z<|kb ar (cH Z Z) (fun O b1 ar=>?_);refine kb ar (W6 (cs:=[D,.av,D,.av,D,.av,D,.av,D,.av,D,.av,D,.av,D,.av,D,.av])) (fun O b2 ar=>?_);refine UK 5 Z<|J Z (Xd Z ar.g1 Z) Z<|kw (W2 Z Z Z) (MR E hg ar) ?_;rintro _ O (⟨hne,rfl,ar⟩ | ⟨hR,K1,b,iv,ev,fv,pv,rfl,hleA,hv,ar⟩)
 ·refine TE 11 Z (J Z (dW Z) Z (UK 5 Z (J Z (W1 (places:=[(0,8),(8,10)]) (zero:=[D,.av,D,.av,D,.av,D,.av,D,.av,D,.av,D,.av,D,.av,D,.av]) (cs:=[_,_,_,_,_,_,_,_,_,_,_,_,_,_,_,_,_,_]) Z) Z ?_)));refine ks ar (Sx Z Z Z ar.g0 (m:=18) Z Z (cells':=[_,_,_,_,_,_,_,_,_,_,_,_,_,_,_,_,_,_]) Z) (fun O ar=>?_);refine UM 5 Z ?_;exact cV Z Z ar.g0 (m:=18) U Z Z (.inl ⟨hne,Z,ar.pop.pop⟩)
 have hvl:=jQ hR;clear hg;refine TE 11 Z<|J Z (dW Z) Z<|Vy 3 Z<|UG 7 Z<|kw (W2 Z Z Z) (A0 E hv hvl (fn:=185) (fi:=[_]) (ca:=[]) U (R:=jT g) (fun i q hi hq O L ar=>R1 E hv hi hq ar) ar) ?_;rintro _ O ⟨Kr18,ak,T,rfl,ar⟩;replace hv:=hv.mono T;replace hleA:=KP.le_trans hleA T;obtain⟨Kkr18,S,W,ar⟩:=H.bF (M:=[_]) ar;replace hv:=hv.mono S;replace hleA:=KP.le_trans hleA S;have g0:=dM (W _<|mS_ ..) (bQ (nV g)<|jT g) oM;refine Wh 3 Z<|kw (W2 Z Z Z) (A0 E hv hvl (fn:=186) (fi:=[_]) (ca:=[]) U (R:=tf g) (fun i q hi hq O L ar=>Vt E hv hi hq ar) ar) ?_;rintro _ O ⟨Kr22,am,Q,rfl,ar⟩;replace g0:=g0.mono Q fun _ _ h=>h
 replace hv:=hv.mono Q;replace hleA:=KP.le_trans hleA Q;obtain⟨Kkr22,I,X,ar⟩:=H.bF (M:=[_]) ar;replace g0:=g0.mono I fun _ _ h=>h
 replace hv:=hv.mono I;replace hleA:=KP.le_trans hleA I;have g1:=dM (X _<|mS_ ..) (bQ (nV g)<|tf g) oM;refine Wh 3 Z<|kw (W2 Z Z Z) (A0 E hv hvl (fn:=187) (fi:=[_]) (ca:=[]) U (R:=rY g) (fun i q hi hq O L ar=>Tv E hv hR hi hq ar) ar) ?_;rintro _ O ⟨Kr26,ao,N,rfl,ar⟩;replace g0:=g0.mono N fun _ _ h=>h
 replace g1:=g1.mono N fun _ _ h=>h
 replace hv:=hv.mono N;replace hleA:=KP.le_trans hleA N;obtain⟨Kkr26,B,aa,ar⟩:=H.bF (M:=[_]) ar;replace g0:=g0.mono B fun _ _ h=>h
 replace g1:=g1.mono B fun _ _ h=>h
 replace hv:=hv.mono B;replace hleA:=KP.le_trans hleA B;have g2:=dM (aa _<|mS_ ..) (bQ (nV g)<|rY g) oM;refine Wh 3 Z<|kw (W2 Z Z Z) (A0 E hv hvl (fn:=188) (fi:=[_]) (ca:=[]) U (R:=uF g) (fun i q hi hq O L ar=>Vs E hv hR hi hq ar) ar) ?_;rintro _ O ⟨Kr30,ap,C,rfl,ar⟩;replace g0:=g0.mono C fun _ _ h=>h
 replace g1:=g1.mono C fun _ _ h=>h
 replace g2:=g2.mono C fun _ _ h=>h
 replace hv:=hv.mono C;replace hleA:=KP.le_trans hleA C;obtain⟨Kkr30,A,ab,ar⟩:=H.bF (M:=[_]) ar;replace g0:=g0.mono A fun _ _ h=>h
 replace g1:=g1.mono A fun _ _ h=>h
 replace g2:=g2.mono A fun _ _ h=>h
 replace hv:=hv.mono A;replace hleA:=KP.le_trans hleA A;have g3:=dM (ab _<|mS_ ..) (bQ (nV g)<|uF g) oM;refine J Z (W1 (places:=[(0,2),(2,2),(4,2),(6,2)]) (zero:=[D,.av,D,.av,D,.av,D,.av]) (cs:=[_,_,_,_,_,_,_,_]) Z) Z (J Z (W1 (places:=[(0,8),(8,10)]) (zero:=[D,.av,D,.av,D,.av,D,.av,D,.av,D,.av,D,.av,D,.av,D,.av]) (cs:=[_,_,_,_,_,_,_,_,_,_,_,_,_,_,_,_,_,_]) Z) Z<|kb ar (W6 (cs:=[D,.av,D,.av,D,.av,D,.av,D,.av,D,.av,D,.av,D,.av,D,.av])) (fun O b3 ar=>?_));refine bT ar Z (Sx Z Z Z ar.g0 (m:=18) Z (aj Z<|aj g0.leaf.2<|aj Z<|aj g1.leaf.2<|aj Z<|aj g2.leaf.2<|aj Z<|aj g3.leaf.2 Z) (cells':=[_,_,_,_,_,_,_,_,_,_,_,_,_,_,_,_,_,_]) Z) Z (fun O ar=>?_);refine UQ ar 6 [0,2] Z Z<|J Z (Xc Z ar.g0 Z) Z<|Wk ar 2 [0,4] Z Z<|J Z (Xc Z ar.g0 Z) Z<|Wk ar 2 [0,6] Z Z<|J Z (Xc Z ar.g0 Z) Z<|fh ar Z (bN (e:=167) (m:=2) (z:=[D,.av]) (cs:=[_,_,_,_,_,_]) U U U U<|aZ Z Z Z Z<|aZ Z Z Z Z<|aZ Z Z Z Z bE) (fun _=>Z) (fun O b4 ar=>?_);obtain⟨Kae,leae,memae,ar⟩:=H.bF (M:=[_]) ar;replace g0:=g0.mono leae fun _ _ h=>h
 replace g1:=g1.mono leae fun _ _ h=>h
 replace g2:=g2.mono leae fun _ _ h=>h
 replace g3:=g3.mono leae fun _ _ h=>h
 replace hv:=hv.mono leae;replace hleA:=KP.le_trans hleA leae;have hle:=Bb (n:=nV g) (memae _<|mS_ ..) g1 g2 g3;refine kw (W2 Z Z Z) (Pp E (n:=nV g) oM hle (Nat.succ_pos _) ar) ?_;rintro _ O ⟨oe,rfl,ar⟩;obtain⟨Kkoe,lekoe,memkoe,ar⟩:=H.bF (M:=[_]) ar;replace g0:=g0.mono lekoe fun _ _ h=>h
 replace g1:=g1.mono lekoe fun _ _ h=>h
 replace g2:=g2.mono lekoe fun _ _ h=>h
 replace g3:=g3.mono lekoe fun _ _ h=>h
 replace hv:=hv.mono lekoe;replace hleA:=KP.le_trans hleA lekoe;have hoe:=dM (memkoe _<|mS_ ..) (bQ (nV g)<|jR [tf g,rY g,uF g]) oM;refine kw (W2 Z Z Z) (Cz E (n:=nV g) oM hoe ar) ?_;rintro _ O ⟨pe,rfl,ar⟩;obtain⟨Kkpe,lekpe,memkpe,ar⟩:=H.bF (M:=[_]) ar;replace g0:=g0.mono lekpe fun _ _ h=>h
 replace g1:=g1.mono lekpe fun _ _ h=>h
 replace g2:=g2.mono lekpe fun _ _ h=>h
 replace g3:=g3.mono lekpe fun _ _ h=>h
 replace hoe:=hoe.mono lekpe fun _ _ h=>h
 replace hv:=hv.mono lekpe;replace hleA:=KP.le_trans hleA lekpe;have hpe:=dM (memkpe _<|mS_ ..) (bQ (nV g)<|lz (nV g)<|jR [tf g,rY g,uF g]) oM;refine Wk ar 2 [8,0] Z Z<|ks ar (Sx Z Z Z ar.g0 (m:=2) Z (aj Z<|aj hpe.leaf.2 aC) (cells':=[_,_,_,_,_,_,_,_,_,_,_,_,_,_,_,_,_,_]) Z) (fun O ar=>?_);refine UQ ar 6 [0,0] Z Z<|J Z (Xc Z ar.g0 Z) Z<|Wk ar 2 [0,2] Z Z<|J Z (Xc Z ar.g0 Z) Z<|fh ar Z (bN (e:=167) (m:=2) (z:=[D,.av]) (cs:=[_,_,_,_]) U U U U<|aZ Z Z Z Z<|aZ Z Z Z Z bE) (fun _=>Z) (fun O b5 ar=>?_);obtain⟨Kap,leap,memap,ar⟩:=H.bF (M:=[_]) ar;replace g0:=g0.mono leap fun _ _ h=>h
 replace g1:=g1.mono leap fun _ _ h=>h
 replace g2:=g2.mono leap fun _ _ h=>h
 replace g3:=g3.mono leap fun _ _ h=>h
 replace hoe:=hoe.mono leap fun _ _ h=>h
 replace hpe:=hpe.mono leap fun _ _ h=>h
 replace hv:=hv.mono leap;replace hleA:=KP.le_trans hleA leap;have hlp:=pd (n:=nV g) (memap _<|mS_ ..) g0 g1;refine kw (W2 Z Z Z) (Pp E (n:=nV g) oM hlp (Nat.succ_pos _) ar) ?_;rintro _ O ⟨op,rfl,ar⟩;obtain⟨Kkop,lekop,memkop,ar⟩:=H.bF (M:=[_]) ar;replace g0:=g0.mono lekop fun _ _ h=>h
 replace g1:=g1.mono lekop fun _ _ h=>h
 replace g2:=g2.mono lekop fun _ _ h=>h
 replace g3:=g3.mono lekop fun _ _ h=>h
 replace hoe:=hoe.mono lekop fun _ _ h=>h
 replace hpe:=hpe.mono lekop fun _ _ h=>h
 replace hv:=hv.mono lekop;replace hleA:=KP.le_trans hleA lekop;have hop:=dM (memkop _<|mS_ ..) (bQ (nV g)<|jR [jT g,tf g]) oM;refine kw (W2 Z Z Z) (Cz E (n:=nV g) oM hop ar) ?_;rintro _ O ⟨pp,rfl,ar⟩;obtain⟨Kkpp,lekpp,memkpp,ar⟩:=H.bF (M:=[_]) ar;replace g0:=g0.mono lekpp fun _ _ h=>h
 replace g1:=g1.mono lekpp fun _ _ h=>h
 replace g2:=g2.mono lekpp fun _ _ h=>h
 replace g3:=g3.mono lekpp fun _ _ h=>h
 replace hoe:=hoe.mono lekpp fun _ _ h=>h
 replace hpe:=hpe.mono lekpp fun _ _ h=>h
 replace hop:=hop.mono lekpp fun _ _ h=>h
 replace hv:=hv.mono lekpp;replace hleA:=KP.le_trans hleA lekpp;have hpp:=dM (memkpp _<|mS_ ..) (bQ (nV g)<|lz (nV g)<|jR [jT g,tf g]) oM;refine Wk ar 2 [8,2] Z Z<|ks ar (Sx Z Z Z ar.g0 (m:=2) Z (aj Z<|aj hpp.leaf.2 aC) (cells':=[_,_,_,_,_,_,_,_,_,_,_,_,_,_,_,_,_,_]) Z) (fun O ar=>?_);refine UK 7 Z<|kw (W2 Z Z Z) (A0 E hv hvl (fn:=190) (fi:=[_]) (ca:=[]) U (R:=sU g) (fun i q hi hq O L ar=>Tw E hv hi hq ar) ar) ?_;rintro _ O ⟨Kr61,aE,u,rfl,ar⟩;replace g0:=g0.mono u fun _ _ h=>h
 replace g1:=g1.mono u fun _ _ h=>h
 replace g2:=g2.mono u fun _ _ h=>h
 replace g3:=g3.mono u fun _ _ h=>h
 replace hoe:=hoe.mono u fun _ _ h=>h
 replace hpe:=hpe.mono u fun _ _ h=>h
 replace hop:=hop.mono u fun _ _ h=>h
 replace hpp:=hpp.mono u fun _ _ h=>h
 replace hv:=hv.mono u;replace hleA:=KP.le_trans hleA u;obtain⟨Kkr61,d,ac,ar⟩:=H.bF (M:=[_]) ar;replace g0:=g0.mono d fun _ _ h=>h
 replace g1:=g1.mono d fun _ _ h=>h
 replace g2:=g2.mono d fun _ _ h=>h
 replace g3:=g3.mono d fun _ _ h=>h
 replace hoe:=hoe.mono d fun _ _ h=>h
 replace hpe:=hpe.mono d fun _ _ h=>h
 replace hop:=hop.mono d fun _ _ h=>h
 replace hpp:=hpp.mono d fun _ _ h=>h
 replace hv:=hv.mono d;replace hleA:=KP.le_trans hleA d;have gl:=dM (ac _<|mS_ ..) (bQ (nV g)<|sU g) oM;refine Wk ar 2 [8,4] Z Z<|ks ar (Sx Z Z Z ar.g0 (m:=2) Z (aj Z<|aj gl.leaf.2 aC) (cells':=[_,_,_,_,_,_,_,_,_,_,_,_,_,_,_,_,_,_]) Z) (fun O ar=>?_);refine UK 5 Z<|kw (W2 Z Z Z) (Vu E hv hR hvl ar) ?_;rintro _ O ⟨Ks,os,les,rfl,ar⟩;replace g0:=g0.mono les fun _ _ h=>h
 replace g1:=g1.mono les fun _ _ h=>h
 replace g2:=g2.mono les fun _ _ h=>h
 replace g3:=g3.mono les fun _ _ h=>h
 replace hoe:=hoe.mono les fun _ _ h=>h
 replace hpe:=hpe.mono les fun _ _ h=>h
 replace hop:=hop.mono les fun _ _ h=>h
 replace hpp:=hpp.mono les fun _ _ h=>h
 replace gl:=gl.mono les fun _ _ h=>h
 replace hv:=hv.mono les;replace hleA:=KP.le_trans hleA les;obtain⟨Kks,leks,memks,ar⟩:=H.bF (M:=[_]) ar;replace g0:=g0.mono leks fun _ _ h=>h
 replace g1:=g1.mono leks fun _ _ h=>h
 replace g2:=g2.mono leks fun _ _ h=>h
 replace g3:=g3.mono leks fun _ _ h=>h
 replace hoe:=hoe.mono leks fun _ _ h=>h
 replace hpe:=hpe.mono leks fun _ _ h=>h
 replace hop:=hop.mono leks fun _ _ h=>h
 replace hpp:=hpp.mono leks fun _ _ h=>h
 replace gl:=gl.mono leks fun _ _ h=>h
 replace hv:=hv.mono leks;replace hleA:=KP.le_trans hleA leks;have gs:=dM (memks _<|mS_ ..) (bQ (nV g)<|vr g) oM;refine Wk ar 2 [8,6] Z Z<|ks ar (Sx Z Z Z ar.g0 (m:=2) Z (aj Z<|aj gs.leaf.2 aC) (cells':=[_,_,_,_,_,_,_,_,_,_,_,_,_,_,_,_,_,_]) Z) (fun O ar=>?_);refine UQ ar 6 [0,0] Z Z<|J Z (Xc Z ar.g0 Z) Z<|Wk ar 2 [8,6] Z Z<|J Z (Xc Z ar.g0 Z) Z<|fh ar Z (bN (e:=167) (m:=2) (z:=[D,.av]) (cs:=[_,_,_,_]) U U U U<|aZ Z Z Z Z<|aZ Z Z Z Z bE) (fun _=>Z) (fun O b6 ar=>?_);obtain⟨Kah,leah,memah,ar⟩:=H.bF (M:=[_]) ar;replace g0:=g0.mono leah fun _ _ h=>h
 replace g1:=g1.mono leah fun _ _ h=>h
 replace g2:=g2.mono leah fun _ _ h=>h
 replace g3:=g3.mono leah fun _ _ h=>h
 replace hoe:=hoe.mono leah fun _ _ h=>h
 replace hpe:=hpe.mono leah fun _ _ h=>h
 replace hop:=hop.mono leah fun _ _ h=>h
 replace hpp:=hpp.mono leah fun _ _ h=>h
 replace gl:=gl.mono leah fun _ _ h=>h
 replace gs:=gs.mono leah fun _ _ h=>h
 replace hv:=hv.mono leah;replace hleA:=KP.le_trans hleA leah;have hlh:=pd (n:=nV g) (memah _<|mS_ ..) g0 gs;refine kw (W2 Z Z Z) (Pp E (n:=nV g) oM hlh (Nat.succ_pos _) ar) ?_;rintro _ O ⟨oh,rfl,ar⟩;obtain⟨Kkoh,lekoh,memkoh,ar⟩:=H.bF (M:=[_]) ar;replace g0:=g0.mono lekoh fun _ _ h=>h
 replace g1:=g1.mono lekoh fun _ _ h=>h
 replace g2:=g2.mono lekoh fun _ _ h=>h
 replace g3:=g3.mono lekoh fun _ _ h=>h
 replace hoe:=hoe.mono lekoh fun _ _ h=>h
 replace hpe:=hpe.mono lekoh fun _ _ h=>h
 replace hop:=hop.mono lekoh fun _ _ h=>h
 replace hpp:=hpp.mono lekoh fun _ _ h=>h
 replace gl:=gl.mono lekoh fun _ _ h=>h
 replace gs:=gs.mono lekoh fun _ _ h=>h
 replace hv:=hv.mono lekoh;replace hleA:=KP.le_trans hleA lekoh;have hoh:=dM (memkoh _<|mS_ ..) (bQ (nV g)<|jR [jT g,vr g]) oM;refine kw (W2 Z Z Z) (Cz E (n:=nV g) oM hoh ar) ?_;rintro _ O ⟨ph,rfl,ar⟩;obtain⟨Kkph,lekph,memkph,ar⟩:=H.bF (M:=[_]) ar;replace g0:=g0.mono lekph fun _ _ h=>h
 replace g1:=g1.mono lekph fun _ _ h=>h
 replace g2:=g2.mono lekph fun _ _ h=>h
 replace g3:=g3.mono lekph fun _ _ h=>h
 replace hoe:=hoe.mono lekph fun _ _ h=>h
 replace hpe:=hpe.mono lekph fun _ _ h=>h
 replace hop:=hop.mono lekph fun _ _ h=>h
 replace hpp:=hpp.mono lekph fun _ _ h=>h
 replace gl:=gl.mono lekph fun _ _ h=>h
 replace gs:=gs.mono lekph fun _ _ h=>h
 replace hoh:=hoh.mono lekph fun _ _ h=>h
 replace hv:=hv.mono lekph;replace hleA:=KP.le_trans hleA lekph;have hph:=dM (memkph _<|mS_ ..) (bQ (nV g)<|lz (nV g)<|jR [jT g,vr g]) oM;refine Wk ar 2 [8,8] Z Z<|ks ar (Sx Z Z Z ar.g0 (m:=2) Z (aj Z<|aj hph.leaf.2 aC) (cells':=[_,_,_,_,_,_,_,_,_,_,_,_,_,_,_,_,_,_]) Z) (fun O ar=>?_);refine UK 4 Z<|J Z (Qw Z ar.g0 (n:=18) (vs:=[_,_,_,_,_,_,_,_,_,_,_,_,_,_,_,_,_,_]) Z) Z ?_;refine gw ar Z (Sx Z Z Z ar.g1 (m:=18) Z (aj Z<|aj g0.leaf.2<|aj Z<|aj g1.leaf.2<|aj Z<|aj g2.leaf.2<|aj Z<|aj g3.leaf.2<|aj Z<|aj hpe.leaf.2<|aj Z<|aj hpp.leaf.2<|aj Z<|aj gl.leaf.2<|aj Z<|aj gs.leaf.2<|aj Z<|aj hph.leaf.2 aC) (cells':=[_,_,_,_,_,_,_,_,_,_,_,_,_,_,_,_,_,_]) Z) Z (fun O ar=>?_);refine VA 4 Z ?_;exact cV Z Z ar.g1 (m:=18) U Z Z (.inr ⟨hR,_,_,_,_,_,_,_,_,_,_,Z,hleA,⟨g0,g1,g2,g3,hpe,hpp,gl,gs,hph⟩,ar.pop.pop.pop⟩)
theorem Ps (E:Plain G) (hg:dS K g va vb vc vd) (ar:H O K L):
  EC G 117 [.agg [va,vb,vc,vd]] O fun v O'=>(F (ec g) 0=false/\v= .tuple [.agg (va::vb::vc::vd::Hs),.bool false]/\H O' K L)∨(dC g/\∃u z A B C ue up ul us uh,v= .tuple [.agg (va::vb::vc::vd::fp (nV g) z A B C ue up ul us uh),.bool true]/\KP.le K u/\l7 u g z A B C ue up ul us uh/\H O' u L):=by
 refine V9 E Tryz.func117 Z<|Vw 2 Z<|kb ar (cH Z Z) (fun O b1 ar=>?_);refine kb ar (W6 (cs:=[.av,.av,.av,.av,D,.av,D,.av,D,.av,D,.av,D,.av,D,.av,D,.av,D,.av,D,.av])) (fun O b2 ar=>?_);refine UK 5 Z<|J Z (Xd Z ar.g1 Z) Z<|kw (W2 Z Z Z) (Tt E hg ar) ?_;rintro _ O (⟨hne,rfl,ar⟩ | ⟨I,u,z,A,B,C,ue,up,ul,us,uh,rfl,d,hd,ar⟩)
 ·refine Wh 3 Z<|kb ar (W6 (cs:=[D,.av,D,.av,D,.av,D,.av,D,.av,D,.av,D,.av,D,.av,D,.av])) (fun O M ar=>?_);refine ks ar (Sx Z Z Z ar.g0 (m:=18) Z Z (cells':=[_,_,_,_,_,_,_,_,_,_,_,_,_,_,_,_,_,_]) Z) (fun O ar=>?_);refine UK 5 Z (J Z (Xd Z (ar.get 2 Z) Z) Z (J Z (Qw Z ar.g0 (n:=18) (vs:=[_,_,_,_,_,_,_,_,_,_,_,_,_,_,_,_,_,_]) Z) Z (J Z (W1 (places:=[(0,4),(4,18)]) (zero:=[.av,.av,.av,.av,D,.av,D,.av,D,.av,D,.av,D,.av,D,.av,D,.av,D,.av,D,.av]) (cs:=[_,_,_,_,_,_,_,_,_,_,_,_,_,_,_,_,_,_,_,_,_,_]) Z) Z<|Wh 2 Z ?_)));refine gw ar Z (Sx Z Z Z ar.g1 (m:=22) Z (aj hg.init.leaf.2<|aj hg.threads.leaf.2<|aj hg.from_.leaf.2<|aj hg.order.leaf.2 Z) (cells':=[_,_,_,_,_,_,_,_,_,_,_,_,_,_,_,_,_,_,_,_,_,_]) Z) Z (fun O ar=>?_);refine VA 4 Z ?_;exact cV Z Z ar.g1 (m:=22) U Z Z (.inl ⟨hne,Z,ar.pop.pop.pop⟩)
 replace hg:=hg.mono d;refine Wh 3 Z<|kb ar (W6 (cs:=[D,.av,D,.av,D,.av,D,.av,D,.av,D,.av,D,.av,D,.av,D,.av])) (fun O M ar=>?_);refine bT ar Z (Sx Z Z Z ar.g0 (m:=18) Z (aj Z<|aj hd.po.leaf.2<|aj Z<|aj hd.rf.leaf.2<|aj Z<|aj hd.co.leaf.2<|aj Z<|aj hd.fr.leaf.2<|aj Z<|aj hd.QF.leaf.2<|aj Z<|aj hd.GY.leaf.2<|aj Z<|aj hd.loc.leaf.2<|aj Z<|aj hd.sw.leaf.2<|aj Z<|aj hd.hb.leaf.2 aC) (cells':=[_,_,_,_,_,_,_,_,_,_,_,_,_,_,_,_,_,_]) Z) Z (fun O ar=>?_);refine UK 5 Z (J Z (Xd Z (ar.get 2 Z) Z) Z (J Z (Qw Z ar.g0 (n:=18) (vs:=[_,_,_,_,_,_,_,_,_,_,_,_,_,_,_,_,_,_]) Z) Z (J Z (W1 (places:=[(0,4),(4,18)]) (zero:=[.av,.av,.av,.av,D,.av,D,.av,D,.av,D,.av,D,.av,D,.av,D,.av,D,.av,D,.av]) (cs:=[_,_,_,_,_,_,_,_,_,_,_,_,_,_,_,_,_,_,_,_,_,_]) Z) Z<|Wh 2 Z ?_)));refine gw ar Z (Sx Z Z Z ar.g1 (m:=22) Z (aj hg.init.leaf.2<|aj hg.threads.leaf.2<|aj hg.from_.leaf.2<|aj hg.order.leaf.2<|aj Z<|aj hd.po.leaf.2<|aj Z<|aj hd.rf.leaf.2<|aj Z<|aj hd.co.leaf.2<|aj Z<|aj hd.fr.leaf.2<|aj Z<|aj hd.QF.leaf.2<|aj Z<|aj hd.GY.leaf.2<|aj Z<|aj hd.loc.leaf.2<|aj Z<|aj hd.sw.leaf.2<|aj Z<|aj hd.hb.leaf.2 aC) (cells':=[_,_,_,_,_,_,_,_,_,_,_,_,_,_,_,_,_,_,_,_,_,_]) Z) Z (fun O ar=>?_);refine VA 4 Z ?_;exact cV Z Z ar.g1 (m:=22) U Z Z (.inr ⟨I,u,z,A,B,C,ue,up,ul,us,uh,Z,d,hd,ar.pop.pop.pop⟩)
theorem Bc {g:XG} (hchk:ec g=0) {e:cm} (h:bY e (.ofNat g.init.length)=true) (hw:bz e=true):∃(ln:Nat) (r:List bS),e.loc= .ofNat ln/\g.order[ln]? =some r/\(fq g e.loc).length=r.length+1:=by
 unfold bY at h
 have u:F e.kind 4=false:=by
  grind [bz,eqv]
 rw[u] at h
 have key:(bif cL (dH e.loc 0) then dH e.loc (.ofNat g.init.length) else false)=true:=by
  simp_all
 cases h0:dH e.loc 0 with
 | true=>rw[h0] at key;cases key
 | false=>
  rw[h0] at key;obtain⟨ln,hl⟩:=nG h0;rw[hl] at key;have hlt:ln<g.init.length:=aM key;obtain⟨r,d⟩:=GL hchk hlt;exact⟨ln,r,hl,d,by rw[hl,te (by rw[hchk];rfl) d];rfl⟩
section
variable {g:XG} {tm:Nat} {row:List cm} {frow:List bS} (hchk:ec g=0) (hx:g.threads[tm]? =some row) (hf:g.from_[tm]? =some frow) (hlen:dH (.ofNat row.length) 14=true) {e:cm} {fr:bS} {pl:Int}
include hchk hx hf hlen
end
section
variable {k:Nat} {l:List XC} {r:XM} {t:Nat} {c:XC} {row:List cm} (hinv:UX k l r) (hc:l[t]? =some c) (hrow:r.g.threads[t]? =some row)
include hinv hc hrow
end
variable {ln:Nat} {C N S u0 u1 u2 u3 ue uh ul up:V}
def Ns (Q:Ex->PT V->aB->Prop) (e:Ex) (t:PT V) (O:aB):Prop:=match e with | .goto _=>False | e=>Q e t O
section
variable {P:Program} {G:Cx} {n:Nat} {t:PT V} {O:aB} {Q:Ex->PT V->aB->Prop}
theorem zl (h:Q .ret t O):Ns Q .ret t O:=h
theorem Lw {b:Code} (h:Ev P G b n t O (Ns Q)):Ev P G (.scope b) n t O Q:=by
 obtain⟨K,e,t',O',h1,u⟩:=h
 have step:∀d ro k,K<=k->eI P G (k+1) (.scope b) t n d ro O=vn (.ok e t' d O'):=fun d ro k hk=>by
  show vn (eI P G k b t n d ro O)=_;rw[h1 d ro k hk]
 have z:Q e t' O'/\∀d,vn (.ok e t' d O')= .ok e t' d O':=by
  cases e with
  | goto i=>exact u.elim
  | _=>exact⟨u,fun _=>Z⟩
 exact⟨K+1,e,t',O',fun d ro k hk=>by obtain⟨j,rfl⟩:∃j,k=j+1:=⟨k-1,by omega⟩;rw[step d ro j oM,z.2],z.1⟩
end
theorem Q2 {n:Nat} {R:Rn}:lz n (lz n R)=lz n R:=by
 funext i j;rw[zd_,pr,pr];constructor
 ·intro h;induction h with
  | one _ _ h=>exact pr.1 h
  | step _ _ h1 d=>exact .step h1 d
 intro h;exact .one h.lt.1 h.lt.2<|pr.2 h
theorem PV (d:dC g) {t k:Nat} {row:List cm} {e:cm} (A:g.threads[t]? =some row) (B:row[k]? =some e) (hw:bz e=true):∃(ln:Nat) (r:List bS),e.loc= .ofNat ln/\g.order[ln]? =some r:=by
 obtain⟨frow,hf⟩:=dc (show t<g.from_.length by rw[d.from_];exact(gA.1 A).1);obtain⟨hl,u⟩:=d.rows t row frow A hf;obtain⟨q,hq⟩:=dc (show k<frow.length by rw[hl];exact(gA.1 B).1);have hoke:=u k e q B hq;unfold yP at hoke
 have z:bY e (.ofNat g.init.length)=true:=by
  revert hoke;cases bY e (.ofNat g.init.length)<;>intro hoke
  ·exact Bool.noConfusion (show false=true from hoke)
  rfl
 obtain⟨ln,r,h5,C,_⟩:=Bc (fl.2 d) z hw;exact⟨ln,r,h5,C⟩
theorem Po (M:Plain G) {l:List bS} {v:V} (E:bO K 2 dK l v) (id:bS) (ar:H O K L):
  Ca G K L 237 [v,.agg [.int .i64 id.bH,.int .i64 id.index]] O <| .int .i64 (eR (fun x:bS=>cC x.ints id.ints) l 0):=by
 refine V9 M Tryz.func237 Z<|Vw 2 Z<|kb ar (cH Z Z) (fun O b1 ar=>?_);refine TE 7 Z<|J Z (W5 E Z Z Z (e:=87) Z) Z<|UI 4 Z ?_;obtain⟨LL1,ar,hLL1⟩:=ar.named;refine bk ([4,5]++rg 8 11) (fun j t O=>∃(i:Nat),j+i=l.length/\eR (fun x:bS=>cC x.ints id.ints) l 0=eR (fun x:bS=>cC x.ints id.ints) (l.drop i) i/\t.get 8=some (nI i)/\H O K LL1) (l.length) ⟨0,Z,Z,Z,ar⟩ ?_;clear ar;intro N t O ak R;obtain⟨i,am,he,I,ar⟩:=R;subst hLL1;obtain⟨oo,rfl⟩:=ak.q1 I Z;refine Vv 6 Z<|aG Z (fun C=>?_) (fun C=>?_)
 ·refine SE 11 Z<|aL (l:=zp [0,1,2,3,4,5]) U U<|ah Z Z (Xc Z ar.g0 Z) Z<|Wj 2 Z ?_;obtain⟨u,z,aa⟩:=di C;refine WW (e:=87) (m:=2) E z Z Z Z Z Z (fun ao ab A ac B=>?_);obtain rfl:=B;refine ah Z Z (W8 ar A Z Z) Z<|ah Z Z (zF (n:=2) (ca:=id.ints) (cb:=u.ints) U Z Z Z Z) Z<|VB 2 Z<|aG Z (fun d=>?_) (fun d=>?_)
  ·replace d:cC u.ints id.ints=true:=dt.2 (dt.1 d).symm;refine Wf 7 Z<|aP<|aH<|bX<|aP<|aH (?_);exact aA Z Z ⟨cJ (by rw[he,cQ z];show _=(bif cC u.ints id.ints then Int.ofNat i else _);rw[d];rfl),ar.pop⟩
  replace d:cC u.ints id.ints=false:=mK.2 fun h=>by rw[dt.2 h.symm] at d;cases d
  refine aI<|az<|Wd 4 Z ?_;have hlp:=aM C;refine aD ⟨N-1,by omega,oF,i+1,by omega,by rw[he,cQ z];show(bif cC u.ints id.ints then Int.ofNat i else _)=_;rw[d];rfl,cI<|aX (by have:=E.cS;omega),ar⟩
 refine UH 3 Z<|aN<|Wf 6 Z ?_;exact aA Z Z ⟨cJ (by rw[he,eU<|bK C];rfl),ar.pop⟩
theorem Ic (B:Plain G) (E:dS K g va vb vc vd) {r:List bS} (C:g.order[ln]? =some r) (ac:r.length<=1000) (id:bS) (ar:H O K L):
  Ca G K L 192 [.agg [va,vb,vc,vd],nI ln,.agg [.int .i64 id.bH,.int .i64 id.index]] O <| .int .i64 (oZ g (.ofNat ln) id):=by
 refine V9 B Tryz.func192 Z<|Vw 2 Z<|kb ar (cH Z Z) (fun O b1 ar=>?_);refine kb ar (cH Z Z) (fun O b2 ar=>?_);refine TF ar 9 [0,0] Z Z<|Vy 2 Z<|aG Z (fun A=>?_) (fun A=>?_)
 ·refine Vx 7 Z ?_;exact aA Z Z ⟨cJ (by unfold oZ;rw[show F id.bH 0=true from A];rfl),ar.pop.pop⟩
 refine UF 3 Z<|aL (l:=zp [0,1,2,3,4,5,6,7,8]) U U<|Wl ar 3 [3,1] Z Z<|WW (e:=42) (m:=1) E.order C Z Z Z Z Z (fun ak aa d ab u=>?_);have hr13':=u;obtain⟨am,rfl,z⟩:=hr13';refine ah Z Z (W7 ar d Z Z) Z<|ah Z Z (Xc Z ar.g0 Z) Z<|eL Z Z (W2 Z Z Z) (fun _=>Z) (Po B z _ ar) (fun O ar=>?_);refine⟨aT,?_⟩;refine VC 5 Z ?_;exact aA Z Z ⟨cJ (by unfold oZ sV;rw[show F id.bH 0=false from A,show(Int.ofNat ln).toNat=ln from Z,C];rfl),ar.pop.pop⟩
theorem MQ (hG:Plain G) {us:V} (hg:dS K g va vb vc vd) (hd:l7 K g u0 u1 u2 u3 ue up ul us uh) (C:dC g) (ar:H O K L):
  EC G 149 [.agg (va::vb::vc::vd::fp (nV g) u0 u1 u2 u3 ue up ul us uh)] O fun u O'=>(∃x y,u= .agg [.int .i64 x,.int .i64 y,.bool<|cL<|dH (Fk g) 0])/\H O' K L:=by
 refine V9 hG Tryz.func149 Z<|Vw 2 Z<|kb ar (cH Z Z) (fun O b1 ar=>?_);refine kb ar (W6 (cs:=[D,D,.bool false])) (fun O b2 ar=>?_);refine UQ ar 7 [0,0,1] Z Z<|J Z (W5 hg.init Z Z Z (e:=2) Z) Z<|TF ar 9 [0,1,1] Z Z<|J Z (W5 hg.threads Z Z Z (e:=25) Z) Z<|UI 4 Z ?_;obtain⟨LL1,ar,hLL1⟩:=ar.named;refine bk (rg 3 6++rg 17 47) (fun j t O=>∃(tt:Nat) (cc:Int),j+tt=g.threads.length/\tg g tt 0/\t.get 3=some (.int .i64 cc)/\t.get 17=some (nI tt)/\H O K LL1) (g.threads.length) ⟨0,_,Z,LF,Z,Z,ar⟩ ?_;clear ar;intro j3 t O ak hI;obtain⟨tt,cc,bp,A,S,ac,ar⟩:=hI;subst hLL1;obtain⟨oo,rfl⟩:=ak.q2 S ac Z;refine Vv 6 Z<|aG Z (fun E=>?_) (fun E=>?_)
 ·refine SF 7 Z ?_;obtain⟨T,d,bb⟩:=di E;refine WV (e:=25) (m:=1) hg.threads d Z Z Z Z (fun bq bc am bd ao=>?_);have hr20':=ao;obtain⟨bs,rfl,R⟩:=hr20';refine J Z (W7 ar am Z Z) Z<|UK 7 Z<|J Z (W5 R Z Z Z (e:=38) Z) Z<|UI 4 Z ?_;obtain⟨LL2,ar,hLL2⟩:=ar.named;refine bk ([3,6,7,8]++rg 24 39) (fun j t O=>∃(kk:Nat) (cc:Int),j+kk=T.length/\tg g tt kk/\t.get 3=some (.int .i64 cc)/\t.get 24=some (nI kk)/\H O K LL2) (T.length) ⟨0,cc,Z,A,Z,Z,ar⟩ ?_;clear ar;intro j6 t O ak hI;obtain⟨kk,cc,bt,A,S,ap,ar⟩:=hI;subst hLL2;obtain⟨oo,rfl⟩:=ak.q2 S ap Z;refine Vv 6 Z<|aG Z (fun I=>?_) (fun I=>?_)
  ·refine SF 7 Z ?_;obtain⟨B,z,be⟩:=di I;refine WV (e:=38) (m:=5) R z Z Z Z Z (fun bv bf aE bg a0=>?_);obtain rfl:=a0;refine J Z (W8 ar aE Z Z) Z<|kb ar (W6 (cs:=[D,D,D,D,D])) (fun O b3 ar=>?_);refine vQ 1 Z<|ks ar (Xb Z Z Z ar.g0 Z) (fun O ar=>?_);refine TF ar 8 [0,0] Z Z<|Vy 2 Z<|aG Z (fun M=>?_) (fun M=>?_)
   ·refine Vw 2 Z ?_;obtain⟨ln,r,N,W⟩:=PV C d z (by unfold bz;rw[show F B.kind 3=true from M];cases F B.kind 2<;>rfl);have hrl:=mz (fl.2 C) r (gB_ W);refine J Z (W3 0 Z) Z (J Z (Xd Z (ar.get 2 Z) Z) Z (Wk ar 3 [1,0] Z Z (J Z (ay (v:=nI (tt+1)) Z Z<|cI<|aX (by have:=C.threads;have:=aM E;omega)) Z (vQ 1 Z (J Z (W1 (places:=[(0,1),(1,1)]) (zero:=[D,D]) (cs:=[_,_]) Z) Z<|kx (W2 Z Z Z) (by rw[N];exact Ic hG hg W oM ⟨.ofNat (tt+1),.ofNat kk⟩ ar) (fun O ar=>?_))))));refine UJ 4 Z<|aL (l:=zp [0,1,2,3,4,5,6,7,8,9,10,11,12,13,14,15,16]) U U ?_;obtain⟨frow,X⟩:=dc (show tt<g.from_.length by rw[C.from_];exact(gA.1 d).1);obtain⟨q,hq⟩:=dc (show kk<frow.length by rw[(C.rows tt _ _ d X).1];exact(gA.1 z).1);have a1:Og g ⟨.ofNat (tt+1),.ofNat kk⟩=q:=by unfold Og;show((((g.from_[tt]?).getD [])[kk]?).getD ⟨0,0⟩:bS)=q;rw[X];show((frow[kk]?).getD ⟨0,0⟩:bS)=q;rw[hq];rfl
    refine Wl ar 2 [0] Z Z<|ah Z Z (Xd Z (ar.get 2 Z) Z) Z<|Wl ar 6 [1,0,0,2,2] Z Z<|WW (e:=42) (m:=1) hg.from_ X Z Z Z Z Z (fun bw bi a2 bl a3=>?_);have hr50':=a3;obtain⟨bD,rfl,a4⟩:=hr50';refine ah Z Z (W7 ar a2 Z Z) Z<|wQ 1 Z<|WW (e:=87) (m:=2) a4 hq Z Z Z Z Z (fun bH bm a5 bo a9=>?_);obtain rfl:=a9;refine ah Z Z (W8 ar a5 Z Z) Z<|eL Z Z (W2 Z Z Z) (fun _=>Z) (by rw[N];exact Ic hG hg W oM q ar) (fun O ar=>?_);refine⟨aT,?_⟩;refine VB 4 Z<|aG Z (fun aa=>?_) (fun aa=>?_)
    ·refine Vw 3 Z (J Z (W1 (places:=[(0,1),(1,1),(2,1)]) (zero:=[D,D,.bool false]) (cs:=[_,_,_]) Z) Z<|gw ar Z (Xa Z Z Z ar.g1 Z) Z (fun O ar=>?_));refine VA 3 Z<|aH<|aP<|aH<|bX<|aP<|aP<|aH<|bX<|aP<|aH (?_);exact dh Z Z ar.g1 (m:=3) U Z ⟨⟨_,_,by rw[LD C A d z (by unfold BH;rw[show F B.kind 3=true from M,N,a1];exact aa)];rfl⟩,ar.pop.pop.pop⟩
    refine aI<|Wd 5 Z<|az<|Wd 4 Z ?_;have ar:=ar.pop;have hkl:=aM I;have ab:BH g tt kk B=false:=by unfold BH;rw[show F B.kind 3=true from M,N,a1];exact aa
    refine aD ⟨j6-1,by omega,oF,kk+1,_,by omega,LG C A d z ab,Z,cI<|aX (by have:=C.short tt _ d;omega),ar⟩
   refine aI<|Wd 5 Z<|az<|Wd 4 Z ?_;have ar:=ar.pop;have hkl:=aM I;have ab:BH g tt kk B=false:=by unfold BH;rw[show F B.kind 3=false from M];rfl
   refine aD ⟨j6-1,by omega,oF,kk+1,_,by omega,LG C A d z ab,Z,cI<|aX (by have:=C.short tt _ d;omega),ar⟩
  refine UH 3 Z<|aN<|az<|Wd 4 Z ?_;have htl:=aM E;have ba:kk=T.length:=by have:=bK I;omega
  subst ba;refine aD ⟨j3-1,by omega,oF,tt+1,cc,by omega,Rx A d,Z,cI<|aX (by have:=C.threads;omega),ar⟩
 refine UH 3 Z (aN (Vw 2 Z (J Z (W1 (places:=[(0,1),(1,1),(2,1)]) (zero:=[D,D,.bool false]) (cs:=[_,_,_]) Z) Z<|ks ar (Xa Z Z Z ar.g0 Z) (fun O ar=>?_))));refine VA 3 Z ?_;exact dh Z Z ar.g0 (m:=3) U Z ⟨⟨_,_,by rw[LC A<|bK E];rfl⟩,ar.pop.pop⟩
theorem yW (N:Plain G) {n:Nat} (hn:n<64) {R:Rn} (M:bO K 1 RU (bC n R) va) (ar:H O K L):
  EC G 151 [.agg [nI n,va]] O fun u O'=>(∃x y,u= .agg [.int .i64 x,.int .i64 y,.bool<|cL<|dH (zm n R) 0])/\H O' K L:=by
 have hlen:=bQ n R;refine V9 N Tryz.func151 Z<|Vw 2 Z<|kb ar (cH Z Z) (fun O b1 ar=>?_);refine kb ar (W6 (cs:=[D,D,.bool false])) (fun O b2 ar=>?_);refine TF ar 7 [1,1] Z Z<|J Z (W5 M Z Z Z (e:=144) Z) Z<|UI 4 Z ?_;obtain⟨LL1,ar,hLL1⟩:=ar.named;refine bk ([3,4]++rg 8 13) (fun j t O=>∃(i:Nat),j+i=(bC n R).length/\(∀q,q<i->R q q=false)/\t.get 8=some (nI i)/\H O K LL1) ((bC n R).length) ⟨0,Z,fun q hq=>absurd hq (nZ_ _),Z,ar⟩ ?_;clear ar;intro S t O ak T;obtain⟨i,ac,z,E,ar⟩:=T;subst hLL1;obtain⟨oo,rfl⟩:=ak.q1 E Z;refine Vv 6 Z<|aG Z (fun I=>?_) (fun I=>?_)
 ·refine SF 6 Z ?_;have d:i<n:=by have:=aM I;omega
  refine vQ 1 Z<|WV (e:=144) (m:=1) M (du d) Z Z Z Z (fun am aa B ab C=>?_);obtain rfl:=C;refine J Z (W7 ar B Z Z) Z (UK 8 Z (J Z (ay (v:=.int .u64 (.ofNat (bL n (R i)/2 ^ i))) Z Z<|wq oM) Z (J Z (ay (v:=.int .u64 (.ofNat (bL n (R i)/2 ^ i &&& 1))) Z Z<|ss (Nat.lt_of_le_of_lt (Nat.div_le_self _ _)<|cX oM _) (by decide)) Z (J Z (ay (v:=.bool ((bL n<|R i).testBit i)) Z Z (Fj)) Z<|Vy 2 Z<|aG Z (fun A=>?_) (fun A=>?_)))))
  ·refine Vw 3 Z (J Z (W1 (places:=[(0,1),(1,1),(2,1)]) (zero:=[D,D,.bool false]) (cs:=[_,_,_]) Z) Z<|ks ar (Xa Z Z Z ar.g0 Z) (fun O ar=>?_));refine VA 3 Z<|aP<|aH<|bX<|aP<|aH (?_);exact dh Z Z ar.g0 (m:=3) U Z ⟨⟨_,_,by rw[Nt d ((gK (p:=R i) d).symm.trans A) z];rfl⟩,ar.pop.pop⟩
  refine aI (az (Wd 4 Z (aD ⟨S-1,by omega,oF,i+1,by omega,fun q hq=>by by_cases e:q=i;(subst e;exact(gK (p:=R q) d).symm.trans A);exact z q oM,cI<|aX oM,ar⟩)))
 refine UH 3 Z (aN (Vw 2 Z (J Z (W1 (places:=[(0,1),(1,1),(2,1)]) (zero:=[D,D,.bool false]) (cs:=[_,_,_]) Z) Z<|ks ar (Xa Z Z Z ar.g0 Z) (fun O ar=>?_))));refine VA 3 Z ?_;exact dh Z Z ar.g0 (m:=3) U Z ⟨⟨_,_,by rw[PX fun q hq=>z q (by have:=bK I;omega)];rfl⟩,ar.pop.pop⟩
theorem EE (hG:Plain G) {us:V} (hg:dS K g va vb vc vd) (hd:l7 K g u0 u1 u2 u3 ue up ul us uh) (hR:dC g) (ar:H O K L):
  EC G 153 [.agg (va::vb::vc::vd::fp (nV g) u0 u1 u2 u3 ue up ul us uh)] O fun u O'=>(∃x y,u= .agg [.int .i64 x,.int .i64 y,.bool<|Jl g])/\H O' K L:=by
 have hvl:=jQ hR;have hl1:=bQ (nV g) (lz (nV g)<|jR [jT g,vr g]);have hl2:=bQ (nV g) (lz (nV g)<|jR [tf g,rY g,uF g]);refine V9 hG Tryz.func153 Z<|Vw 2 Z<|kb ar (cH Z Z) (fun O b1 ar=>?_);refine kb ar (W6 (cs:=[D,D,.bool false])) (fun O b2 ar=>?_);refine Vy 2 Z (Lw (al (aL (l:=zp [0,1,2,3,4,5,6,7,8,9,10,11]) U U (Wl ar 12 [4,8,8,1,1,4,8,0,1,1] Z Z (VB 2 Z (Vw 2 Z (J Z (W1 (places:=[(0,1),(1,1),(2,1)]) (zero:=[D,D,.bool false]) (cs:=[_,_,_]) Z) Z<|kb ar (W6 (cs:=[D,D,.bool false])) (fun O b3 ar=>?_))))))));refine ks ar (Xa Z Z Z ar.g0 Z) (fun O ar=>?_);refine UJ 3 Z<|D4<|UE 4 Z<|J Z (W5 hd.hb Z Z Z (e:=144) Z) Z<|UI 4 Z ?_;obtain⟨LL1,ar,hLL1⟩:=ar.named;refine bk ([6,7]++rg 21 36) (fun j t O=>∃(a:Nat),j+a=(bC (nV g)<|lz (nV g)<|jR [jT g,vr g]).length/\(∀p q,p<a->q<nV g->p≠q->AJ g p q=true->sM g q p=false)/\t.get 21=some (nI a)/\H O K LL1) ((bC (nV g)<|lz (nV g)<|jR [jT g,vr g]).length) ⟨0,Z,fun p q hp=>absurd hp (nZ_ _),Z,ar⟩ ?_;clear ar;intro j4 t O ak hI;obtain⟨a,aE,N,R,ar⟩:=hI;subst hLL1;obtain⟨oo,rfl⟩:=ak.q1 R Z;refine Vv 6 Z<|aG Z (fun C=>?_) (fun C=>?_)
 ·refine SF 6 Z ?_;have z:a<nV g:=by have:=aM C;omega
  refine UK 7 Z<|J Z (W5 hd.QF Z Z Z (e:=144) Z) Z<|UI 4 Z ?_;obtain⟨LL2,ar,hLL2⟩:=ar.named;refine bk ([7]++rg 26 30) (fun j t O=>∃(c:Nat),j+c=(bC (nV g)<|lz (nV g)<|jR [tf g,rY g,uF g]).length/\(∀q,q<c->a≠q->AJ g a q=true->sM g q a=false)/\t.get 26=some (nI c)/\H O K LL2) ((bC (nV g)<|lz (nV g)<|jR [tf g,rY g,uF g]).length) ⟨0,Z,fun q hq=>absurd hq (nZ_ _),Z,ar⟩ ?_;clear ar;intro j7 t O ak hI;obtain⟨c,a0,A,S,ar⟩:=hI;subst hLL2;obtain⟨oo,rfl⟩:=ak.q1 S Z;refine Vv 6 Z<|aG Z (fun E=>?_) (fun E=>?_)
  ·refine SF 6 Z ?_;have d:c<nV g:=by have:=aM E;omega
   refine UK 9 Z<|ky Z (an Z) (fun B=>?_) (fun B=>?_)
   ·refine Wh 2 Z<|WV (e:=144) (m:=1) hd.hb (du z) Z Z Z Z (fun a1 ac T am W=>?_);obtain rfl:=W;refine J Z (W7 ar T Z Z) Z (vQ 1 Z (J Z (ay (v:=.int .u64 (.ofNat (bL (nV g) ((lz (nV g)<|jR [jT g,vr g]) a)/2 ^ c))) Z Z<|wq oM) Z (J Z (ay (v:=.int .u64 (.ofNat (bL (nV g) ((lz (nV g)<|jR [jT g,vr g]) a)/2 ^ c &&& 1))) Z Z<|ss (Nat.lt_of_le_of_lt (Nat.div_le_self _ _)<|cX oM _) (by decide)) Z (J Z (ay (v:=.bool ((bL (nV g) ((lz (nV g)<|jR [jT g,vr g]) a)).testBit c)) Z Z (Fj)) Z<|vQ 1 Z<|ky Z (an Z) (fun I=>?_) (fun I=>?_)))))
    ·refine Wh 2 Z<|WV (e:=144) (m:=1) hd.QF (du d) Z Z Z Z (fun a2 ao X ap aa=>?_);obtain rfl:=aa;refine J Z (W7 ar X Z Z) Z (vQ 1 Z (J Z (ay (v:=.int .u64 (.ofNat (bL (nV g) ((lz (nV g)<|jR [tf g,rY g,uF g]) c)/2 ^ a))) Z Z<|wq oM) Z (J Z (ay (v:=.int .u64 (.ofNat (bL (nV g) ((lz (nV g)<|jR [tf g,rY g,uF g]) c)/2 ^ a &&& 1))) Z Z<|ss (Nat.lt_of_le_of_lt (Nat.div_le_self _ _)<|cX oM _) (by decide)) Z (J Z (ay (v:=.bool ((bL (nV g) ((lz (nV g)<|jR [tf g,rY g,uF g]) c)).testBit a)) Z Z (Fj)) Z<|Vy 3 Z<|aG Z (fun M=>?_) (fun M=>?_)))))
     ·refine Vw 4 Z (J Z (W1 (places:=[(0,1),(1,1),(2,1)]) (zero:=[D,D,.bool false]) (cs:=[_,_,_]) Z) Z<|ks ar (Xa Z Z Z ar.g0 Z) (fun O ar=>?_));refine Vy 2 Z<|bn<|jH Z<|aR<|aU<|jH Z<|jH Z<|aR<|aU<|aN<|Vw 2 Z<|J Z (Qw Z ar.g0 (n:=3) (vs:=[_,_,_]) Z) Z<|gw ar Z (Xa Z Z Z ar.g1 Z) Z (fun O ar=>?_);refine VA 3 Z<|zl (?_);exact dh Z Z ar.g1 (m:=3) U Z ⟨⟨_,_,by rw[OR z d (fun e=>by rw[e,fR] at B;cases B) ((gK (p:=(lz (nV g)<|jR [jT g,vr g]) a) d).symm.trans I) ((gK (p:=(lz (nV g)<|jR [tf g,rY g,uF g]) c) z).symm.trans M)]⟩,ar.pop.pop.pop⟩
     refine aI<|az<|Wd 4 Z ?_;have hcl:=d;refine aD ⟨j7-1,by omega,oF,c+1,by omega,fun q hq hne hh=>by by_cases e:q=c;(subst e;exact(gK (p:=(lz (nV g)<|jR [tf g,rY g,uF g]) q) z).symm.trans M);exact A q oM hne hh,cI<|aX oM,ar⟩
    refine UL 14 Z<|Wd 4 Z ?_;have hcl:=d;refine aD ⟨j7-1,by omega,oF,c+1,by omega,fun q hq hne hh=>by by_cases e:q=c;(subst e;rw[show AJ g a q=false from(gK (p:=(lz (nV g)<|jR [jT g,vr g]) a) d).symm.trans I] at hh;cases hh);exact A q oM hne hh,cI<|aX oM,ar⟩
   refine UL 24 Z<|Wd 4 Z ?_;have hcl:=d;refine aD ⟨j7-1,by omega,oF,c+1,by omega,fun q hq hne hh=>by by_cases e:q=c;(subst e;exact absurd (xM.1<|cD B) hne);exact A q oM hne hh,cI<|aX oM,ar⟩
  refine UH 3 Z<|aN<|az<|Wd 4 Z ?_;have ab:c=nV g:=by have:=bK E;omega
  subst ab;refine aD ⟨j4-1,by omega,oF,a+1,by omega,fun p q hp hq hne hh=>by by_cases e:p=a;(subst e;exact A q hq hne hh);exact N p q oM hq hne hh,cI<|aX oM,ar⟩
 refine UH 3 Z<|aN<|Vw 2 Z<|J Z (Qw Z ar.g0 (n:=3) (vs:=[_,_,_]) Z) Z<|gw ar Z (Xa Z Z Z ar.g1 Z) Z (fun O ar=>?_);refine VA 3 Z<|zl (?_);exact dh Z Z ar.g1 (m:=3) U Z ⟨⟨_,_,by rw[OS fun p q hp hq=>N p q (by have:=bK C;omega) hq]⟩,ar.pop.pop.pop⟩
theorem GS (B:Plain G) {E I us:V} (hg:dS K g va vb vc vd) (hd:l7 K g C E I N ue up ul us uh) (R:dC g) (ar:H O K L):
  EC G 156 [.agg (va::vb::vc::vd::fp (nV g) C E I N ue up ul us uh)] O fun u O'=>∃A c,KP.le K A/\u= .agg [nI<|nV g,.slice c 0 (nV g) (.known<|nV g)]/\H O' A ((c,.row ((bC (nV g)<|FN g).map gU) 144 false)::L):=by
 have hvl:=jQ R;refine V9 B Tryz.func156 Z<|Vw 2 Z<|kb ar (cH Z Z) (fun O b1 ar=>?_);refine kb ar (W6 (cs:=[D,.av])) (fun O b2 ar=>?_);refine UQ ar 7 [4,0,0] Z Z<|J Z (Xc Z ar.g1 Z) Z<|Wk ar 3 [4,0,2] Z Z<|J Z (Xc Z ar.g1 Z) Z<|Wk ar 3 [4,0,4] Z Z<|J Z (Xc Z ar.g1 Z) Z<|Wk ar 3 [4,0,6] Z Z<|J Z (Xc Z ar.g1 Z) Z<|fh ar Z (bN (e:=167) (m:=2) (z:=[D,.av]) (cs:=[_,_,_,_,_,_,_,_]) U U U U<|aZ Z Z Z Z<|aZ Z Z Z Z<|aZ Z Z Z Z<|aZ Z Z Z Z bE) (fun _=>Z) (fun O b3 ar=>?_);obtain⟨A,d,mema,ar⟩:=H.bF (M:=[_]) ar;have hla:=ES (n:=nV g) (mema _<|mS_ ..) (hd.po.mono d fun _ _ h=>h) (hd.rf.mono d fun _ _ h=>h) (hd.co.mono d fun _ _ h=>h) (hd.fr.mono d fun _ _ h=>h);refine kw (W2 Z Z Z) (Pp B (n:=nV g) oM hla (Nat.succ_pos _) ar) ?_;rintro _ O ⟨S,rfl,ar⟩;refine gw ar Z (W9 Z Z Z ar.g1 Z) Z (fun O ar=>?_);refine VA 3 Z ?_;exact dh Z Z ar.g1 (m:=2) U Z ⟨A,S,d,Z,ar.sub (.cons_cons _ (.cons _ (.cons _ (.refl _))))⟩
theorem Pu (C:Plain G) {d z A B us:V} (hg:dS K g va vb vc vd) (hd:l7 K g d z A B ue up ul us uh) (E:dC g) (ar:H O K L):
  EC G 148 [.agg (va::vb::vc::vd::fp (nV g) d z A B ue up ul us uh)] O fun u O'=>(∃x y,u= .agg [.int .i64 x,.int .i64 y,.bool<|ff g 1])/\H O' K L:=by
 have hvl:=jQ E;refine V9 C Tryz.func148 Z<|Vw 2 Z<|kb ar (cH Z Z) (fun O b1 ar=>?_);refine kb ar (W6 (cs:=[D,D,.bool false])) (fun O b2 ar=>?_);refine UK 4 Z (J Z (W1 (places:=[(0,1),(1,1),(2,1)]) (zero:=[D,D,.bool false]) (cs:=[_,_,_]) Z) Z<|ks ar (Xa Z Z Z ar.g0 Z) (fun O ar=>?_));refine VA 3 Z ?_;exact dh Z Z ar.g0 (m:=3) U Z ⟨⟨_,_,by rfl⟩,ar.pop.pop⟩
theorem Pv (d:Plain G) {z A B us:V} (hg:dS K g va vb vc vd) (hd:l7 K g z A B C ue up ul us uh) (E:dC g) (ar:H O K L):
  EC G 150 [.agg (va::vb::vc::vd::fp (nV g) z A B C ue up ul us uh)] O fun u O'=>(∃x y,u= .agg [.int .i64 x,.int .i64 y,.bool<|ff g 3])/\H O' K L:=by
 have hvl:=jQ E;refine V9 d Tryz.func150 Z<|Vw 2 Z<|kb ar (cH Z Z) (fun O b1 ar=>?_);refine kb ar (W6 (cs:=[D,D,.bool false])) (fun O b2 ar=>?_);refine UQ ar 7 [4,8,2] Z Z<|J Z (Xc Z ar.g1 Z) Z<|kw (W2 Z Z Z) (yW d (n:=nV g) oM hd.GY ar) ?_;rintro _ O ⟨⟨x7,y7,rfl⟩,ar⟩;refine ks ar (Xa Z Z Z ar.g0 Z) (fun O ar=>?_);refine VA 3 Z ?_;exact dh Z Z ar.g0 (m:=3) U Z ⟨⟨_,_,by show _=V.agg [_,_,.bool<|cL<|dH (zm (nV g)<|lz (nV g)<|A6 g) 0];rw[show lz (nV g) (A6 g)=A6 g from Q2];rfl⟩,ar.pop.pop⟩
theorem Pw (d:Plain G) {z A B us:V} (hg:dS K g va vb vc vd) (hd:l7 K g z A B C ue up ul us uh) (E:dC g) (ar:H O K L):
  EC G 152 [.agg (va::vb::vc::vd::fp (nV g) z A B C ue up ul us uh)] O fun u O'=>(∃x y,u= .agg [.int .i64 x,.int .i64 y,.bool<|ff g 4])/\H O' K L:=by
 have hvl:=jQ E;refine V9 d Tryz.func152 Z<|Vw 2 Z<|kb ar (cH Z Z) (fun O b1 ar=>?_);refine kb ar (W6 (cs:=[D,D,.bool false])) (fun O b2 ar=>?_);refine UQ ar 7 [4,8,8] Z Z<|J Z (Xc Z ar.g1 Z) Z<|kw (W2 Z Z Z) (yW d (n:=nV g) oM hd.hb ar) ?_;rintro _ O ⟨⟨x7,y7,rfl⟩,ar⟩;refine ks ar (Xa Z Z Z ar.g0 Z) (fun O ar=>?_);refine VA 3 Z ?_;exact dh Z Z ar.g0 (m:=3) U Z ⟨⟨_,_,by show _=V.agg [_,_,.bool<|cL<|dH (zm (nV g)<|lz (nV g)<|AJ g) 0];rw[show lz (nV g) (AJ g)=AJ g from Q2];rfl⟩,ar.pop.pop⟩
theorem Px (E:Plain G) {I R us:V} (W:dS K g va vb vc vd) (hd:l7 K g I N R S ue up ul us uh) (T:dC g) (ar:H O K L):
  EC G 154 [.agg (va::vb::vc::vd::fp (nV g) I N R S ue up ul us uh)] O fun u O'=>(∃x y,u= .agg [.int .i64 x,.int .i64 y,.bool<|ff g 6])/\H O' K L:=by
 have hvl:=jQ T;refine V9 E Tryz.func154 Z<|Vw 2 Z<|kb ar (cH Z Z) (fun O b1 ar=>?_);refine kb ar (W6 (cs:=[D,D,.bool false])) (fun O b2 ar=>?_);refine UK 4 Z<|J Z (Qw Z ar.g1 (n:=22) (vs:=[_,_,_,_,_,_,_,_,_,_,_,_,_,_,_,_,_,_,_,_,_,_]) Z) Z<|kw (W2 Z Z Z) (GS E W hd T ar) ?_;rintro _ O ⟨K1,c1,d,rfl,ar⟩;obtain⟨K2,z,A,ar⟩:=H.bF (M:=[_]) ar;have hto:=dM (A _<|mS_ ..) (bQ (nV g)<|FN g) oM;refine kw (W2 Z Z Z) (Cz E (n:=nV g) oM hto ar) ?_;rintro _ O ⟨c2,rfl,ar⟩;obtain⟨K3,B,C,ar⟩:=H.bF (M:=[_]) ar;have htp:=dM (C _<|mS_ ..) (bQ (nV g)<|lz (nV g)<|FN g) oM;refine kw (W2 Z Z Z) (yW E (n:=nV g) oM htp ar) ?_;rintro _ O ⟨⟨x6,y6,rfl⟩,ar⟩;refine ks ar (Xa Z Z Z ar.g0 Z) (fun O ar=>?_);refine VA 3 Z ?_;exact dh Z Z ar.g0 (m:=3) U Z ⟨⟨_,_,by rfl⟩,(ar.pop.pop).weaken<|KP.le_trans d<|KP.le_trans z B⟩
def Nq:Nat->Nat
 | 1=>148
 | 2=>149
 | 3=>150
 | 4=>152
 | 5=>153
 | 6=>154
 | _=>0
def Be:List V:=[.nilFunc,.func 148 [] [],.func 149 [] [],.func 150 [] [],.func 152 [] [],.func 153 [] [],.func 154 [] []]
theorem J7 {r:Nat} (h1:1<=r) (d:r<=6):nth Be (0+r*1)=some (.func (Nq r) [] []):=by
 match r,h1,d with
 | 1,_,_ | 2,_,_ | 3,_,_ | 4,_,_ | 5,_,_ | 6,_,_=>rfl
theorem PW {r:Nat} (h1:1<=r) (d:r<=6):lI Tryz.prog (Nq r)=true:=by
 match r,h1,d with
 | 1,_,_=>exact(show lI Tryz.prog 148=true by kernel_rfl)
 | 2,_,_=>exact(show lI Tryz.prog 149=true by kernel_rfl)
 | 3,_,_=>exact(show lI Tryz.prog 150=true by kernel_rfl)
 | 4,_,_=>exact(show lI Tryz.prog 152=true by kernel_rfl)
 | 5,_,_=>exact(show lI Tryz.prog 153=true by kernel_rfl)
 | 6,_,_=>exact(show lI Tryz.prog 154=true by kernel_rfl)
theorem R2 (d:Plain G) {B E I us:V} (z:dS K g va vb vc vd) (hd:l7 K g B C E I ue up ul us uh) (A:dC g) {r:Nat} (h1:1<=r) (M:r<=6) (ar:H O K L):EC G (Nq r) [.agg (va::vb::vc::vd::fp (nV g) B C E I ue up ul us uh)] O fun u O'=>(∃x y,u= .agg [.int .i64 x,.int .i64 y,.bool<|ff g (.ofNat r)])/\H O' K L:=by
 match r,h1,M with
 | 1,_,_=>exact Pu d z hd A ar
 | 2,_,_=>exact MQ d z hd A ar
 | 3,_,_=>exact Pv d z hd A ar
 | 4,_,_=>exact Pw d z hd A ar
 | 5,_,_=>exact EE d z hd A ar
 | 6,_,_=>exact Px d z hd A ar
variable {α:Type}
theorem Py (d:Plain G) (ar:H O K L):
  Ca G K L 118 [] O <| .agg Be:=by
 refine V9 d Tryz.func118 Z<|Vw 2 Z<|kb ar (W6 (cs:=[.nilFunc,.nilFunc,.nilFunc,.nilFunc,.nilFunc,.nilFunc,.nilFunc])) (fun O b1 ar=>?_);refine UK 4 Z<|J Z (jX (e:=178) (n:=7) (m:=1) (zero:=[.nilFunc,.nilFunc,.nilFunc,.nilFunc,.nilFunc,.nilFunc,.nilFunc]) (cs:=[_,_,_,_,_,_,_]) U U U Z) Z<|ks ar (Sx Z Z Z ar.g0 (m:=7) Z Z (cells':=[_,_,_,_,_,_,_]) Z) (fun O ar=>?_);refine VA 3 Z ?_;exact dh Z Z ar.g0 (m:=7) U Z ⟨Z,ar.pop⟩
theorem Pq (E:Plain G) {m:Int} (hm:m=1∨m=2) (ar:H O K L):
  EC G 119 [.int .i64 m] O fun u O'=>∃B,KP.le K B/\bO B 1 ek (eG m) u/\H O' B L:=by
 refine V9 E Tryz.func119 Z<|UD 12 Z<|Vw 2 Z<|ky Z (ay Z Z Z) (fun h5=>?_) (fun h5=>?_)
 ·refine UK 6 Z<|fh ar Z (bN (e:=3) (m:=1) (z:=[D]) (cs:=[_,_,_]) U U U U<|aZ Z Z Z Z<|aZ Z Z Z Z<|aZ Z Z Z Z bE) (fun _=>Z) (fun O I ar=>?_);refine VA 4 Z<|aP<|aH (?_);obtain⟨B,d,A,ar⟩:=H.bF (M:=[_]) ar;exact aA Z Z ⟨B,d,by rw[show eG m= [1,2,6] from by unfold eG;rw[show F m 1=true from h5];rfl];exact tK (l:=[1,2,6]) (A _<|mS_ ..) Z (by decide),ar⟩
 refine UK 6 Z<|ky Z (ay Z Z Z) (fun C=>?_) (fun C=>?_)
 ·refine UK 6 Z<|fh ar Z (bN (e:=3) (m:=1) (z:=[D]) (cs:=[_,_,_,_,_]) U U U U<|aZ Z Z Z Z<|aZ Z Z Z Z<|aZ Z Z Z Z<|aZ Z Z Z Z<|aZ Z Z Z Z bE) (fun _=>Z) (fun O I ar=>?_);refine VA 4 Z<|aP<|aH (?_);obtain⟨B,d,A,ar⟩:=H.bF (M:=[_]) ar;exact aA Z Z ⟨B,d,by rw[show eG m= [1,2,3,4,5] from by unfold eG;rw[show F m 1=false from h5,show F m 2=true from C];rfl];exact tK (l:=[1,2,3,4,5]) (A _<|mS_ ..) Z (by decide),ar⟩
 refine UL 6 Z<|Wf 6 Z ?_;rcases hm with e | e
 ·rw[e] at h5;cases h5
 rw[e] at C;cases C
theorem Ib (d:Plain G) (m:Int) (ar:H O K L):
  Ca G K L 80 [.int .i64 m] O <| .bool (bif F m 1 then true else F m 2):=by
 refine V9 d Tryz.func80 Z<|Vw 9 Z<|ky Z (an Z) (fun h5=>?_) (fun h5=>?_)
 ·refine VA 7 Z ?_;exact aA Z Z ⟨cB (by rw[show F m 1=true from h5];rfl),ar⟩
 refine VA 7 Z ?_;exact aA Z Z ⟨cB (by rw[show F m 1=false from h5];rfl),ar⟩
theorem Nr {m x:Int} {i:Nat} (h:(eG m)[i]? =some x):∃r:Nat,x= .ofNat r/\1<=r/\r<=6:=by
 have hm:=gB_ h;unfold eG at hm;cases h1:F m 1 with
 | true=>
  rw[h1] at hm;have hm:x∈([1,2,6]:List Int):=hm;simp only[mQ_,List.not_mem_nil,or_false] at hm;rcases hm with rfl | rfl | rfl
  ·exact⟨1,Z,by omega,by omega⟩
  ·exact⟨2,Z,by omega,by omega⟩
  exact⟨6,Z,by omega,by omega⟩
 | false=>
  rw[h1] at hm;cases d:F m 2 with
  | false=>rw[d] at hm;cases hm
  | true=>
   rw[d] at hm;have hm:x∈([1,2,3,4,5]:List Int):=hm;simp only[mQ_,List.not_mem_nil,or_false] at hm;rcases hm with rfl | rfl | rfl | rfl | rfl
   ·exact⟨1,Z,by omega,by omega⟩
   ·exact⟨2,Z,by omega,by omega⟩
   ·exact⟨3,Z,by omega,by omega⟩
   ·exact⟨4,Z,by omega,by omega⟩
   exact⟨5,Z,by omega,by omega⟩
theorem KL {p:α->Bool} {l:List α} {i:Nat} {x:α} (d:(l.take i).any p=false) (hx:l[i]? =some x) (hp:p x=false):(l.take (i+1)).any p=false:=by
 rw[zb_,hx,List.any_append,d];show(false || (p x || false))=false;rw[hp];rfl
theorem Ov {p:α->Bool} {l:List α} {i:Nat} {x:α} (hx:l[i]? =some x) (hp:p x=true):l.any p=true:=List.any_eq_true.2 ⟨x,gB_ hx,hp⟩
theorem KK {p:α->Bool} {l:List α} {i:Nat} (d:(l.take i).any p=false) (h:l.length<=i):l.any p=false:=by rw[tL_ h] at d;exact d
theorem L8 {m:Int} (h:(bif F m 1 then true else F m 2)=false):eG m= []:=by
 unfold eG;cases h1:F m 1 with
 | true=>rw[h1] at h;cases h
 | false=>
  rw[h1] at h;rw[show F m 2=false from h];rfl
theorem vm {m:Int} (hm:m=1∨m=2):F (.ofNat (eG m).length) 0=false:=by rcases hm with rfl | rfl<;>rfl
theorem IS {m:Int} (hm:m=1∨m=2) (h:F (ec g) 0=false):tc m g=true:=by unfold tc;rw[vm hm,h];rfl
theorem Bu {m:Int} (hm:m=1∨m=2) (d:dC g):tc m g=(eG m).any (ff g):=by unfold tc;rw[vm hm,fl.2 d];rfl
theorem Tu (Q:Plain G) (hg:dS K g va vb vc vd) {m:Int} (hm:m=1∨m=2) (ar:H O K L):
  EC G 81 [.int .i64 m,.agg [va,vb,vc,vd]] O fun v O'=>(∃x y z,v= .tuple [.agg [.int .i64 x,.int .i64 y,.int .i64 z],.bool<|tc m g])/\H O' K L:=by
 refine V9 Q Tryz.func81 Z<|Vw 2 Z<|kb ar (cH Z Z) (fun O b1 ar=>?_);refine kb ar (W6 (cs:=[D,D,D])) (fun O b2 ar=>?_);refine TE 7 Z<|kx (W2 Z Z Z) (Ib Q m ar) (fun O ar=>?_);rw[show(bif F m 1 then true else F m 2)=true from by rcases hm with rfl | rfl<;>rfl];refine J Z (dW Z) Z<|Vy 3 Z<|UG 4 Z<|J Z (Xd Z ar.g1 Z) Z<|kw (W2 Z Z Z) (Ps Q hg ar) ?_;rintro _ O (⟨hne,rfl,ar⟩ | ⟨W,K1,u0,u1,u2,u3,ue,up,ul,us,uh,rfl,A,hd,ar⟩)
 ·refine Wh 3 Z<|kb ar (W6 (cs:=[.av,.av,.av,.av,D,.av,D,.av,D,.av,D,.av,D,.av,D,.av,D,.av,D,.av,D,.av])) (fun O X ar=>?_);refine bT ar Z (Sx Z Z Z ar.g0 (m:=22) Z (aj hg.init.leaf.2<|aj hg.threads.leaf.2<|aj hg.from_.leaf.2<|aj hg.order.leaf.2 Z) (cells':=[_,_,_,_,_,_,_,_,_,_,_,_,_,_,_,_,_,_,_,_,_,_]) Z) Z (fun O ar=>?_);refine TE 7 Z (J Z (dW Z) Z (UK 5 Z (J Z (W1 (places:=[(0,1),(1,1),(2,1)]) (zero:=[D,D,D]) (cs:=[_,_,_]) Z) Z<|gw ar Z (Xa Z Z Z ar.g1 Z) Z (fun O ar=>?_))));refine UM 5 Z ?_;exact cV Z Z ar.g1 (m:=3) U Z Z ⟨⟨_,_,_,by rw[IS hm hne]⟩,ar.pop.pop.pop⟩
 replace hg:=hg.mono A;refine Wh 3 Z<|kb ar (W6 (cs:=[.av,.av,.av,.av,D,.av,D,.av,D,.av,D,.av,D,.av,D,.av,D,.av,D,.av,D,.av])) (fun O X ar=>?_);refine bT ar Z (Sx Z Z Z ar.g0 (m:=22) Z (aj hg.init.leaf.2<|aj hg.threads.leaf.2<|aj hg.from_.leaf.2<|aj hg.order.leaf.2<|aj Z<|aj hd.po.leaf.2<|aj Z<|aj hd.rf.leaf.2<|aj Z<|aj hd.co.leaf.2<|aj Z<|aj hd.fr.leaf.2<|aj Z<|aj hd.QF.leaf.2<|aj Z<|aj hd.GY.leaf.2<|aj Z<|aj hd.loc.leaf.2<|aj Z<|aj hd.sw.leaf.2<|aj Z<|aj hd.hb.leaf.2 aC) (cells':=[_,_,_,_,_,_,_,_,_,_,_,_,_,_,_,_,_,_,_,_,_,_]) Z) Z (fun O ar=>?_);refine TE 7 Z<|J Z (dW Z) Z<|Vy 3 Z<|UG 4 Z<|kx (W2 Z Z Z) (Py Q ar) (fun O ar=>?_);refine kb ar (W6 (cs:=[.nilFunc,.nilFunc,.nilFunc,.nilFunc,.nilFunc,.nilFunc,.nilFunc])) (fun O b4 ar=>?_);refine ks ar (Sx Z Z Z ar.g0 (m:=7) Z Z (cells':=[_,_,_,_,_,_,_]) Z) (fun O ar=>?_);refine TE 6 Z<|kw (W2 Z Z Z) (Pq Q hm ar) ?_;rintro ac O ⟨K2,d,E,ar⟩;replace hg:=hg.mono d;replace hd:=hd.mono d;refine J Z (W5 E Z Z Z (e:=3) Z) Z<|UI 4 Z ?_;obtain⟨LL1,ar,hLL1⟩:=ar.named;refine bk ([5,10,11]++rg 28 18) (fun j t O=>∃(i:Nat),j+i=(eG m).length/\((eG m).take i).any (ff g)=false/\t.get 28=some (nI i)/\H O K2 LL1) ((eG m).length) ⟨0,Z,Z,Z,ar⟩ ?_;clear ar;intro j8 t O ak hI;obtain⟨i,am,C,R,ar⟩:=hI;subst hLL1;obtain⟨oo,rfl⟩:=ak.q1 R Z;refine Vv 6 Z<|aG Z (fun B=>?_) (fun B=>?_)
 ·refine SF 6 Z ?_;obtain⟨ao,u,_⟩:=di B;obtain⟨r,rfl,I,M⟩:=Nr u;refine WV (e:=3) (m:=1) E u Z Z Z Z (fun ap aa S ab T=>?_);obtain rfl:=T;refine J Z (W7 ar S Z Z) Z (UJ 4 Z (aL (l:=[(0,[]),(1,[]),(2,[]),(3,[]),(5,[]),(4,[5]),(6,[])]) U U<|wQ 1 Z<|ah Z Z (eV (e:=178) (m:=1) (n:=7) (j:=r) U U Z Z oM) Z<|ah Z Z (aw Z ar.g0 U<|J7 I M) Z<|ah Z Z (Qw Z ar.g1 (n:=22) (vs:=[_,_,_,_,_,_,_,_,_,_,_,_,_,_,_,_,_,_,_,_,_,_]) Z) Z<|pC ar Z Z (W6 (cs:=[D,D,.bool false])) (fun _=>Z) (fun O b5 ar=>?_)));refine ed Z Z (aS Z Z Z<|PW I M) (fun _=>Z) (R2 Q hg hd W I M ar) ?_;rintro _ O ⟨⟨aE,a0,rfl⟩,ar⟩;refine⟨(bj (oD Z Z Z Z Z (cs:=[D,D,.bool false]) (e:=182) U ar.g0 U) aT),?_⟩;refine ia ar Z Z (Xa Z Z Z ar.g0 Z) Z (fun O ar=>?_);refine⟨aT,?_⟩;refine VB 2 Z<|VE ar 4 [2,0] Z Z<|Vy 2 Z<|aG Z (fun N=>?_) (fun N=>?_)
  ·refine VE ar 7 [0,0,1,0] Z Z (J Z (W1 (places:=[(0,1),(1,1),(2,1)]) (zero:=[D,D,D]) (cs:=[_,_,_]) Z) Z<|Mz ar Z (Xa Z Z Z (ar.get 3 Z) Z) Z (fun O ar=>?_));refine VA 4 Z<|aP<|aH<|bX<|aP<|aH (?_);exact cV Z Z (ar.get 3 Z) (m:=3) U Z Z ⟨⟨_,_,_,by rw[Bu hm W,Ov u N]⟩,(ar.pop.pop.pop.pop.pop).weaken<|KP.le_trans A d⟩
  refine aI<|az<|Wd 4 Z ?_;have ar:=ar.pop;have hil:=aM B;refine aD ⟨j8-1,by omega,oF,i+1,by omega,KL C u N,cI<|aX (by have:=E.cS;omega),ar⟩
 refine UH 3 Z (aN (Vw 2 Z (J Z (W1 (places:=[(0,1),(1,1),(2,1)]) (zero:=[D,D,D]) (cs:=[_,_,_]) Z) Z<|lg ar Z (Xa Z Z Z (ar.get 2 Z) Z) Z (fun O ar=>?_))));refine VA 4 Z ?_;exact cV Z Z (ar.get 2 Z) (m:=3) U Z Z ⟨⟨_,_,_,by rw[Bu hm W,KK C<|bK B]⟩,(ar.pop.pop.pop.pop).weaken<|KP.le_trans A d⟩
theorem MM (u:Plain G) (A:dS K g va vb vc vd) (m:Int) (ar:H O K L):
  Ca G K L 38 [.int .i64 m,.agg [va,vb,vc,vd]] O <| .tuple [.bool<|gI m g,.int .i64<|xI m]:=by
 refine V9 u Tryz.func38 Z<|Vw 2 Z<|kb ar (cH Z Z) (fun O b1 ar=>?_);refine TE 8 Z<|kx (W2 Z Z Z) (Ib u m ar) (fun O ar=>?_);refine J Z (dW Z) Z<|Vy 2 Z<|aG Z (fun d=>?_) (fun d=>?_)
 ·refine Vx 8 Z ?_;exact fN Z Z Z ⟨by unfold gI xI;rw[L8<|cY d];rfl,ar.pop⟩
 refine UG 5 Z<|J Z (Xd Z ar.g0 Z) Z ?_;have hm:m=1∨m=2:=by have h:=cD d;cases h1:F m 1 with | true=>exact .inl (Rt h1) | false=>rw[h1] at h;exact .inr<|Rt h
 refine kw (W2 Z Z Z) (Tu u A hm ar) ?_;rintro _ O ⟨⟨x,y,z,rfl⟩,ar⟩;refine Wh 3 Z<|kb ar (W6 (cs:=[D,D,D])) (fun O b2 ar=>?_);refine ks ar (Xa Z Z Z ar.g0 Z) (fun O ar=>?_);refine UK 6 Z<|J Z (dW Z) Z<|VA 5 Z ?_;exact fN Z Z Z ⟨by unfold gI xI;rw[vm hm];rfl,ar.pop.pop⟩
variable {F_ wrs:List (List bS)} {usO:List V} {e:Nat}
theorem JZ (X M1 d u z R:List α) (a b c:α):(X++(z++a::(u++b::(d++c::(M1++R))))).Perm ((z++a::(u++b::(d++c::M1)))++(X++R)):=by
 classical
 rw[List.perm_iff_count];intro y;simp only[List.count_append,List.count_cons];omega
theorem Rf (R:Plain G) {a b c d:V} (h:dS K g a b c d) (hf:Oo g) (ar:H O K L):
  EC G 39 [.agg [a,b,c,d]] O fun v O'=>∃I M1 B u M C z N E A Q,v= .agg (Un g I B C E)/\SM g I M1 B u M C z N E A Q/\H O' K (Ts M1 B u M C z N E A Q L):=by
 refine V9 R Tryz.func39 Z<|Vw 2 Z<|kb ar (cH Z Z) (fun O r1 ar=>?_);refine kb ar (W6 (cs:=[.av,.av,.av,.av])) (fun O r2 ar=>?_);refine UK 4 Z<|J Z (Xd Z ar.g1 Z) Z<|kw (W2 Z Z Z) (NU R h hf ar) ?_;rintro _ O ⟨I,M1,B,u,M,C,z,N,E,A,Q,rfl,hO,ar⟩;refine iM ar (.bV (.there (.bV (.there (.bV (.there (.bV .here))))))) Z (Sx Z Z Z ar.bG.pop.bG.pop.bG.pop.bG.g0 (m:=4) Z (aj hO.init.leaf.2 Z) (cells':=[_,_,_,_]) Z) Z (fun O ar=>?_);refine VA 3 Z ?_;exact dh Z Z ar.bG.pop.bG.pop.bG.pop.bG.g0 (m:=4) U Z ⟨I,M1,B,u,M,C,z,N,E,A,Q,Z,hO,ar.sub<|eb (.cons_cons _<|eb (.cons_cons _<|eb (.cons_cons _<|eb (.cons _ (.cons _ (.refl _))))))⟩
theorem Ow (I:Plain G) {X R:Own} {a b c d:V} (h:dS (K.iO X) g a b c d) (hf:Oo g) (ar:H O K (X++R)):
  EC G 39 [.agg [a,b,c,d]] O fun v O'=>∃K' a' b' c' d',v= .agg [a',b',c',d']/\KP.le K K'/\dS K' g a' b' c' d'/\H O' K' (X++R):=
 (Rf I h hf ar.keeps).mono fun v O' ⟨u1,M1,M,B,M2,N,C,M3,Q,E,M4,hv,hO,z⟩=>by
  obtain⟨K',hle,u,A⟩:=((H.kY ar z).perm<|JZ ..).bF;refine⟨K',_,_,_,_,hv,hle,⟨hO.init.fg fun e he=>u e ?_,hO.threads.fg (fun e he=>u e ?_) (u (M,.row B 25 false) ?_) Z (by have:=hf.2.1;omega),hO.from_.fg (fun e he=>u e ?_) (u (N,.row C 42 false) ?_) Z (by have:=hf.2.2.2.1;omega),hO.order.fg (fun e he=>u e ?_) (u (Q,.row E 42 false) ?_) Z (by have:=hf.2.2.2.2.2.1;omega)⟩,A⟩<;>simp_all
def pO (wrs:List (List bS)) (init:List Int) (threads:List (List cm)) (F_:List (List bS)) (x:Nat) (os:List (List bS)):List XG:=(iU ((wrs.drop x).map ft)).map fun r=>⟨init,threads,F_,os++r⟩
theorem An {init:List Int} {threads:List (List cm)} {x:Nat} {os:List (List bS)} (h:wrs.length<=x):pO wrs init threads F_ x os= [⟨init,threads,F_,os⟩]:=by
 unfold pO;rw[List.drop_of_length_le h];show [(⟨init,threads,F_,os++[]⟩:XG)]=_;rw[zk_]
theorem DP {init:List Int} {threads:List (List cm)} {x:Nat} {os:List (List bS)} {w:List bS} (h:wrs[x]? =some w):pO wrs init threads F_ x os=(ft w).flatMap fun o=>pO wrs init threads F_ (x+1) (os++[o]):=by
 unfold pO;obtain⟨hx,rfl⟩:=gA.1 h;rw[zj_ hx,List.map_cons];show((ft wrs[x]).flatMap fun o=>(iU ((wrs.drop (x+1)).map ft)).map (o::·)).map _=_
 rw[List.map_flatMap];refine congrArg (fun f=>List.flatMap f (ft wrs[x]))<|funext fun o=>?_;rw[List.map_map];refine List.map_congr_left fun r _=>?_
 show(⟨init,threads,F_,os++o::r⟩:XG)=⟨init,threads,F_,(os++[o])++r⟩;rw[lQ_];rfl
structure xh (K:KP) (m:Int) (init:List Int) (threads:List (List cm)) (wrs:List (List bS)) (vi vt p2 p3 p4 vF:V) (bp bmn bg bo ba bc:Nat):Prop where
 pl:K bp (.row [vi,vt,p2,p3,p4] 45 false)
 mn:K bmn (.row [.int .i64 m] 3 false)
 gr:K bg (.row [vi,vt,vF,.slice bo 0 wrs.length (.known wrs.length)] 52 false)
 pc:K bc (.row [.func 37 [] [.ptr bp 0,.ptr bmn 0,.ptr bg 0,.ptr ba 0,.ptr bc 0]] 90 false)
 hi:bO K 1 ek init vi
 ht:bO K 1 (RL K 5 gG) threads vt
 hw:bO K 1 (RL K 2 dK) wrs p4
theorem xh.mono {K K':KP} {m:Int} {init:List Int} {threads:List (List cm)} {wrs:List (List bS)} {vi vt d u z vF:V} {bp bmn bg bo ba bc:Nat} (h:xh K m init threads wrs vi vt d u z vF bp bmn bg bo ba bc) (hk:KP.le K K'):xh K' m init threads wrs vi vt d u z vF bp bmn bg bo ba bc:=
 ⟨hk _ _ h.pl,hk _ _ h.mn,hk _ _ h.gr,hk _ _ h.pc,h.hi.mono hk fun _ _ h=>h,h.ht.mono hk fun _ _ h=>h.mono hk,h.hw.mono hk fun _ _ h=>h.mono hk⟩
structure nP (K:KP) (os:List (List bS)) (usO:List V) (n:Nat):Prop where
 len:usO.length=n
 leaf:∀v∈usO,cG v=some [v]/\eB v=true
 at_:∀(y:Nat) (l:List bS),os[y]? =some l->∃v,usO[y]? =some v/\bO K 2 dK l v
theorem nP.fg {os:List (List bS)} {n b:Nat} (h:nP K os usO n) (hn:os.length=n) (aa:n<=1000) (hb:K b (.row usO e false)):bO K 1 (RL K 2 dK) os (.slice b 0 n (.known n)):=by
 refine .inr ⟨b,0,_,usO,e,false,by rw[hn],.inr ⟨_,Z,by omega⟩,hb,by rw[h.len];omega,by omega,fun i x hx=>?_⟩;obtain⟨v,h1,d⟩:=h.at_ i x hx;refine⟨v,?_,d⟩;rw[Nat.mul_one,nA_];obtain⟨hi,rfl⟩:=gA.1 h1;rw[zj_ hi];rfl
theorem tp {K K':KP} {X X':Own} (hk:KP.le K K') (d:∀e∈X,e∈X'):KP.le (K.iO X) (K'.iO X'):=fun b o h=>h.elim (fun h=>.inl (hk _ _ h)) (fun h=>.inr (d _ h))
theorem nP.mono {K K':KP} {os:List (List bS)} {usO:List V} {n:Nat} (h:nP K os usO n) (hk:KP.le K K'):nP K' os usO n:=⟨h.len,h.leaf,fun y l hl=>let ⟨v,h1,d⟩:=h.at_ y l hl;⟨v,h1,d.mono hk fun _ _ h=>h⟩⟩
theorem nP.push {os:List (List bS)} {n x:Nat} {l:List bS} {v:V} (h:nP K os usO n) (hx:os.length=x) (hn:x<n) (hv:bO K 2 dK l v) (hl:cG v=some [v]/\eB v=true):nP K (os++[l]) (usO.set x v) n:=by
 refine⟨by rw[zg_];exact h.len,fun w hw=>?_,fun y r d=>?_⟩
 ·rcases List.mem_or_eq_of_mem_set hw with hw | rfl
  ·exact h.leaf w hw
  exact hl
 by_cases e:y<os.length
 ·rw[gL_ e] at d;obtain⟨w,h1,u⟩:=h.at_ y r d;exact⟨w,by rw[List.getElem?_set_ne oM];exact h1,u⟩
 have hy:=(gA.1 d).1;rw[lA_,zq_] at hy;obtain rfl:y=os.length:=by omega
 rw[gR_<|nR_ _,Nat.sub_self] at d;cases d;exact⟨v,by rw[<-hx];exact List.getElem?_set_self (by rw[h.len];omega),hv⟩
theorem cons_right {m:Int} (hm:m=1∨m=2) (h:gI m g=true):ec g=0:=by
 cases d:F (ec g) 0 with
 | true=>exact Lm d
 | false=>
  unfold gI at h;rw[IS hm d] at h;revert h;cases F (.ofNat (eG m).length) 0<;>intro h<;>cases h
theorem Rw (h:ec g=0):Oo g:=by
 obtain⟨b1,b2,d,u,b5,z,b7⟩:=iE h;exact⟨by omega,by omega,fun l hl=>by have:=d l hl;omega,by omega,fun l hl=>by have:=zk z u d l hl;omega,by omega,fun l hl=>by have:=mz h l hl;omega⟩
variable {us:List V} {ba bc bg bmn bo bp:Nat} {p2 p3 p4 vF vi vt:V}
section
variable {α:Type}
theorem PB (X R:List α) (a o:α):(a::(X++o::R)).Perm ((X++[o])++(a::R)):=by
 classical
 rw[List.perm_iff_count];intro y;simp only[List.count_append,List.count_cons,List.count_nil];omega
theorem PC (X M L:List α) (y s a:α):(y::(X++(s::a::(M++L)))).Perm (y::(M++(X++(s::a::L)))):=by
 classical
 rw[List.perm_iff_count];intro y;simp only[List.count_append,List.count_cons];omega
theorem PD (X M L:List α) (o s a:α):(M++((X++[o])++(s::a::L))).Perm (s::(X++(o::a::(M++L)))):=by
 classical
 rw[List.perm_iff_count];intro y;simp only[List.count_append,List.count_cons,List.count_nil];omega
theorem PE (X R:List α) (o s:α):((X++[o])++(s::R)).Perm (s::(X++(o::R))):=by
 classical
 rw[List.perm_iff_count];intro y;simp only[List.count_append,List.count_cons,List.count_nil];omega
theorem Ih (X M R:List α) (a b:α):(M++(a::b::(X++R))).Perm (a::((X++b::M)++R)):=by
 classical
 rw[List.perm_iff_count];intro y;simp only[List.count_append,List.count_cons];omega
end
theorem F4 {e:Nat×cN} (h:H O K (e::L)):∃e',e'=e/\H O K (e'::L):=⟨e,Z,h⟩
def wz {α:Type} (m E:Nat) (R:α->List V->Prop) (l:List α) (u:V) (M:Own):Prop:=cy m E R l u M/\(l≠[]∨u= .av)
theorem wz.fS {α:Type} {m E:Nat} {R R':α->List V->Prop} {l:List α} {u:V} {M:Own} (h:wz m E R l u M) (d:∀x vs,R x vs->R' x vs):wz m E R' l u M:=⟨h.1.fS d,h.2⟩
theorem nP.agree {os:List (List bS)} {d:List V} {n x:Nat} (h:nP K os us n) (hx:os.length<=x) (hl:d.length=n) (hf:∀v∈d,cG v=some [v]/\eB v=true) (he:∀y,y<x->d[y]? =us[y]?):nP K os d n:=
 ⟨hl,hf,fun y l hy=>let ⟨v,h1,u⟩:=h.at_ y l hy;⟨v,by rw[he y (by have:=(gA.1 hy).1;omega)];exact h1,u⟩⟩
theorem wZ {α β:Type} {f:α->List β} {p:β->Bool} {acc:List β} {T pre:List α} {o:α} {N:Nat} (hp:(pre++[o])<+:T) (h:acc.length+(T.flatMap f).length<=N):(acc++(pre.flatMap f).filter p).length+(f o).length<=N:=by
 obtain⟨tl,rfl⟩:=hp;rw[List.flatMap_append,List.flatMap_append,lA_,lA_,List.flatMap_singleton] at h;have:=List.length_filter_le p (pre.flatMap f);rw[lA_];omega
def Q9 (m:Int) (init:List Int) (threads:List (List cm)) (wrs:List (List bS)) (F_ os:List (List bS)) (x bo ba bl bm:Nat) (lo:cN) (X L:Own) (usO:List V) (acc:List XG) (K:KP) (accO:List (List bS)) (L':Own):Prop:=
 ∃usO' ua' Ma',nP (K.iO X) os usO' wrs.length/\(∀y,y<x->usO'[y]? =usO[y]?)/\wz 4 52 (RG K) (acc++((accO.flatMap fun o=>pO wrs init threads F_ (x+1) (os++[o])).filter<|gI m)) ua' Ma'/\L'=(bl,lo)::(bm,.mark)::(X++(bo,.row usO' 42 false)::(ba,.row [ua'] 26 false)::(Ma'++L))
theorem Oz (hG:Plain G) {m:Int} (hm:m=1∨m=2) {init:List Int} {threads:List (List cm)} (hn:wrs.length<=6) (aE:∀w∈wrs,w.length<=1000):
  ∀(f x:Nat) (K:KP) (X:Own) (F_ os:List (List bS)) (usO:List V) (ua:V) (Ma:Own) (acc:List XG) (O:aB),x+f=wrs.length->os.length=x->xh K m init threads wrs vi vt p2 p3 p4 vF bp bmn bg bo ba bc->bO (K.iO X) 1 (RL (K.iO X) 2 dK) F_ vF->nP (K.iO X) os usO wrs.length->wz 4 52 (RG K) acc ua Ma->acc.length+(pO wrs init threads F_ x os).length<=1000000->H O K (X++(bo,.row usO 42 false)::(ba,.row [ua] 26 false)::(Ma++L))->
   EC G 37 [nI x,.ptr bp 0,.ptr bmn 0,.ptr bg 0,.ptr ba 0,.ptr bc 0] O fun _ O'=>∃K' usO' ua' Ma',KP.le K K'/\usO'.length=wrs.length/\(∀v∈usO',cG v=some [v]/\eB v=true)/\(∀y,y<x->usO'[y]? =usO[y]?)/\wz 4 52 (RG K') (acc++(pO wrs init threads F_ x os).filter (gI m)) ua' Ma'/\H O' K' (X++(bo,.row usO' 42 false)::(ba,.row [ua'] 26 false)::(Ma'++L)):=by
 intro f;induction f with
 | zero=>
  intro x K X F_ os usO ua Ma acc O hx ac C hF W hA hb ar;refine D3 hG Tryz.func37 Z (t:=(((((PT.leaf.put (some<|nI x) 0).put (some (.ptr bp 0)) 1).put (some (.ptr bmn 0)) 2).put (some (.ptr bg 0)) 3).put (some (.ptr ba 0)) 4).put (some (.ptr bc 0)) 5) (by rfl)<|tG<|xP ?_;refine ai Z<|kb ar (cH Z Z) (fun O b6 ar=>?_);refine af<|lO<|tG<|xP ?_;refine VE ar 4 [0,4] Z Z<|J Z (W4 Z (ar.cg C.pl) Z) Z<|J Z (W5 C.hw Z Z Z (e:=42) Z) Z<|Vy 3 Z<|aG Z (fun E=>?_) (fun E=>absurd E (by rw[show x=wrs.length by omega,cK];simp));refine UE 3 Z<|J Z (W4 Z (ar.cg C.mn) Z) Z<|J Z (Xd Z (ar.cg C.gr) Z) Z ?_;replace ar:=ar.perm (PB ..);have aa:KP.le (K.iO X) (K.iO (X++[(bo,.row usO 42 false)])):=tp (KP.le_refl _) fun e he=>List.mem_append_left _ he
  have hg:dS (K.iO (X++[(bo,.row usO 42 false)])) ⟨init,threads,F_,os⟩ vi vt vF (.slice bo 0 wrs.length (.known wrs.length)):=⟨C.hi.mono (KP.ey _ _) fun _ _ h=>h,C.ht.mono (KP.ey _ _) fun _ _ h=>h.mono (KP.ey _ _),hF.mono aa fun _ _ h=>h.mono aa,(W.mono aa).fg oM oM (.inr<|List.mem_append_right _ (.head _))⟩;refine kw (W2 Z Z Z) ((MM hG hg m ar.keeps).mono (R':=fun v O'=>v= .tuple [.bool<|gI m ⟨init,threads,F_,os⟩,.int .i64<|xI m]/\H O' K ((X++[(bo,.row usO 42 false)])++((b6,_)::(ba,.row [ua] 26 false)::(Ma++L)))) fun _ _ h=>⟨h.1,H.kY ar h.2⟩) ?_;rintro _ O ⟨rfl,ar⟩;refine Vy 12 Z<|aG Z (fun N=>?_) (fun N=>?_)
  ·refine aL (l:=[(0,[]),(1,[]),(2,[0]),(3,[]),(4,[]),(5,[])]) U U<|ah Z Z (W4 Z ar.bG.pop.g0 Z) Z<|ah Z Z (Xd Z (ar.cg C.gr) Z) Z<|ed Z Z (W2 Z Z Z) (fun _=>Z) (Ow hG hg (Rw<|cons_right hm N) ar) ?_;rintro _ O ⟨K1,a',b',c',d',rfl,d,a0,ar⟩;refine⟨bj (bx Z Z Z Z Z (W4 Z ar.bG.pop.g0 Z) (hA.1.uT (K:=fun _ _=>False)).dQ) aT,?_⟩;refine gx ar Z Z (bN (e:=52) (m:=4) (z:=[.av,.av,.av,.av]) (cs:=[_,_,_,_]) U U U U<|aZ Z Z Z Z bE) (fun _=>Z) (fun O bb ar=>?_);replace ar:=ar.perm (PC ..);refine gP (R:=RG K1) (m:=4) (e:=52) (hA.1.fS fun _ _ h=>h.mono d) ar (dn (m:=4) Z ⟨a',b',c',d',Z,a0⟩) RG.leaf (by simp only[zc_,List.length_nil];omega) Z Z Z Z Z Z Z Z (fun _=>Z) (fun O a1 a2 hO25 ar=>?_);refine⟨aT,?_⟩;refine eF ar (.bV (.bV (.there .here))) Z Z (aO Z Z hO25.leaf.1 ar.bG.bG.pop.g0 (m:=1) U Z (lb Z) (aj hO25.leaf.2 aC) (cells':=[_]) Z) Z (fun O ar=>?_);refine⟨aT,?_⟩;refine VC 3 Z<|Bl ?_;exact⟨.inr Z,_,Z,K1,usO,a1,a2,d,W.len,W.leaf,fun _ _=>Z,(by rw[An oM,List.filter_cons_of_pos N];exact⟨hO25,.inl (by simp)⟩),(ar.perm<|PD ..).pop⟩
  refine Vx 3 Z<|Bl ?_;exact⟨.inr Z,_,Z,K,usO,ua,Ma,KP.le_refl _,W.len,W.leaf,fun _ _=>Z,(by rw[An oM,List.filter_cons_of_neg (by rw[N];decide),List.filter_nil,zk_];exact hA),(ar.perm<|PE ..).pop⟩
 | succ f ih=>
  intro x K X F_ os usO ua Ma acc O hx ac C hF W hA hb ar;refine D3 hG Tryz.func37 Z (t:=(((((PT.leaf.put (some<|nI x) 0).put (some (.ptr bp 0)) 1).put (some (.ptr bmn 0)) 2).put (some (.ptr bg 0)) 3).put (some (.ptr ba 0)) 4).put (some (.ptr bc 0)) 5) (by rfl)<|tG<|xP ?_;refine ai Z<|kb ar (cH Z Z) (fun O b6 ar=>?_);refine af<|lO<|tG<|xP ?_;refine VE ar 4 [0,4] Z Z<|J Z (W4 Z (ar.cg C.pl) Z) Z<|J Z (W5 C.hw Z Z Z (e:=42) Z) Z<|Vy 3 Z<|aG Z (fun E=>absurd E (by rw[cK,decide_eq_true_iff];intro h;have:=iJ_ h;omega)) (fun E=>?_);refine aI<|lO ?_;obtain⟨w,hw⟩:=dc (show x<wrs.length by omega);refine tG<|xP ?_;refine ai Z<|J Z (W3 4 Z) Z<|J Z (W4 Z (ar.cg C.pl) Z) Z<|J Z (W4 Z ar.g0 Z) Z<|WV (e:=42) (m:=1) C.hw hw Z Z Z Z (fun bd a5 ak a9 am=>?_);obtain⟨be,rfl,S⟩:=am;refine J Z (W7 ar ak Z Z) Z<|kw (W2 Z Z Z) (KN hG S.leaf ar) ?_;rintro _ O ⟨K1,bf,d,a3,rfl,ar⟩;refine af<|lO ?_;obtain⟨K2,T,ao,ar⟩:=ar.bF (M:=[_]);have hb6:=ao _ (.head _);have hle12:=KP.le_trans d T;refine Jq<|Ge ar Z U fun bm bl O ar=>?_;refine(Rh hG (S.mono hle12 fun _ _ h=>h) (aE w<|gB_ hw) (T _ _ a3) (I:=Q9 m init threads wrs F_ os x bo ba bl bm _ X L usO acc) (fun u K' acc' l2 M L' O hle hI hO hl hp ar=>?_) (fun K' hle=>⟨usO,ua,Ma,W.mono<|tp (KP.le_trans hle12 hle) fun e he=>he,fun _ _=>Z,by show wz 4 52 _ (acc++[]) _ _;rw[zk_];exact hA.fS fun _ _ h=>h.mono (KP.le_trans hle12 hle),Z⟩) ar).mono fun _ O ⟨K3,L3,A,hI3,ar⟩=>?_
  ·obtain⟨usO1,u1,M1,hR1,ap,hA1,rfl⟩:=hI;have hP1:=C.mono (KP.le_trans hle12 hle);replace ar:=ar.perm (Ih ..);refine Js ar Z<|ai Z<|J Z (W3 3 Z) Z<|J Z (W4 Z (ar.cg hP1.gr) Z) Z<|J Z (W4 Z (ar.cg<|hle _ _ hb6) Z) Z<|J Z (eH (e:=42) (m:=1) Z U Z Z (show x<wrs.length by omega)) Z<|iM ar (.there (.bV .here)) Z (gn Z Z hO.leaf.1 ar.pop.bG.g0 (m:=1) U Z (by rw[hR1.len];omega)<|aj hO.leaf.2 aC) Z (fun O ar=>?_);rw[mM (by rw[hR1.len];omega)] at ar;refine af ?_;refine⟨Z,K',_,ar,fun O ar=>?_⟩;refine aK (ai Z (J Z (W4 Z (ar.cg hP1.pc) Z) Z (J Z (W4 Z (ar.cg<|hle _ _ hb6) Z) Z (J Z (ay (v:=nI (x+1)) Z Z<|cI<|aX oM) Z ?_))));obtain⟨ez,a4,ar⟩:=F4 ar;have hX1:KP.le (K.iO X) (K'.iO (ez::(X++(bm,.mark)::M))):=tp (KP.le_trans hle12 hle) fun e he=>mC_ _ (List.mem_append_left _ he)
   have hX2:KP.le (K'.iO X) (K'.iO (ez::(X++(bm,.mark)::M))):=tp (KP.le_refl _) fun e he=>mC_ _ (List.mem_append_left _ he)
   have hu:=hO.fg (K:=K'.iO (ez::(X++(bm,.mark)::M))) fun e he=>.inr (mC_ _<|List.mem_append_right _<|mC_ _ he)
   refine kw (W2 Z Z Z) (ih (x+1) K' (ez::(X++(bm,.mark)::M)) F_ (os++[l2]) (usO1.set x u) u1 M1 _ _ oM (by rw[lA_,zq_];omega) hP1 (hF.mono hX1 fun _ _ h=>h.mono hX1) ((hR1.mono hX2).push ac oM hu hO.leaf) hA1 (wZ hp (by rw[DP hw] at hb;exact hb)) ar) ?_;rintro _ O ⟨K3,usO3,u3,M3,A,ab,Q,B,hA3,ar⟩;refine af<|az ?_;subst a4;refine⟨Z,K3,_,ar,fun O ar=>⟨Z,K3,_,A,⟨usO3,u3,M3,(hR1.mono<|tp A fun e he=>he).agree (x:=x) oM ab Q (fun y hy=>by rw[B y oM,List.getElem?_set_ne oM]),fun y hy=>by rw[B y oM,List.getElem?_set_ne oM];exact ap y hy,?_,Z⟩,ar.perm (Ih ..).symm⟩⟩;rw[List.flatMap_append,List.filter_append,<-lQ_,List.flatMap_singleton];exact hA3
  obtain⟨usO3,u3,M3,hR3,B,hA3,rfl⟩:=hI3;refine⟨K3,_,ar,fun O ar=>⟨Z,?_⟩⟩;exact⟨.inl Z,ar.get 0 Z,_,Z,K3,usO3,u3,M3,KP.le_trans hle12 A,hR3.len,hR3.leaf,B,by rw[DP hw];exact hA3,(ar.ui _).pop⟩
theorem rH {l:List α} {x:Nat} {u:α} (h:l[x]? =some u):l.set x u=l:=by
 obtain⟨h1,rfl⟩:=gA.1 h;exact List.set_getElem_self h1
theorem G9 {q a b:bS} (h:q.bH.toNat-1<F_.length):fU (fU F_ q a) q b=fU F_ q b:=by
 unfold fU;rw[List.getD_eq_getElem?_getD (l:=F_.set _ _),List.getElem?_set_self h];show(F_.set _ _).set _ (((F_.getD _ []).set _ a).set _ b)=_;rw[List.set_set,List.set_set]
theorem Kg {q r a b:bS} (hq:q.bH.toNat-1<F_.length) (d:r.bH.toNat-1<F_.length) (hne:¬(q.bH.toNat-1=r.bH.toNat-1/\q.index.toNat=r.index.toNat)):fU (fU F_ q a) r b=fU (fU F_ r b) q a:=by
 unfold fU
 by_cases e:q.bH.toNat-1=r.bH.toNat-1
 ·have hi:q.index.toNat≠r.index.toNat:=fun h=>hne ⟨e,h⟩
  rw[e];rw[List.getD_eq_getElem?_getD (l:=F_.set _ _),List.getElem?_set_self d,List.getD_eq_getElem?_getD (l:=F_.set _ _),List.getElem?_set_self d];show(F_.set _ _).set _ (((F_.getD _ []).set _ a).set _ b)=(F_.set _ _).set _ (((F_.getD _ []).set _ b).set _ a);rw[List.set_set,List.set_set,List.set_comm _ _ hi]
 rw[List.getD_eq_getElem?_getD (l:=F_.set _ _),List.getElem?_set_ne e,<-List.getD_eq_getElem?_getD,List.getD_eq_getElem?_getD (l:=F_.set (r.bH.toNat-1) _),List.getElem?_set_ne (fun h=>e h.symm),<-List.getD_eq_getElem?_getD,List.set_comm _ _ e]
theorem Nv {q a:bS}:(fU F_ q a).length=F_.length:=by unfold fU;rw[zg_]
theorem sR:∀{rs:List (bS×cm)} {fs:List bS} {F_:List (List bS)},(dj F_ rs fs).length=F_.length
 | [],_,_=>rfl
 | _::_,[],_=>rfl
 | r::rs,s::fs,F_=>by
  show(dj (fU F_ r.1 s) rs fs).length=_;rw[sR,Nv]
theorem sQ:∀{rs:List (bS×cm)} {fs:List bS} {F_:List (List bS)} {q:bS},pF F_ q->pF (dj F_ rs fs) q
 | [],_,_,_,h=>h
 | _::_,[],_,_,h=>h
 | r::rs,s::fs,F_,q,h=>sQ (rs:=rs) (fs:=fs) (gm h)
theorem KM {q r:bS} (hq:kZ q) (z:kZ r) (h:q≠r):¬(q.bH.toNat-1=r.bH.toNat-1/\q.index.toNat=r.index.toNat):=fun A=>by
 obtain⟨a,k,rfl⟩:=hq;obtain⟨b,l,rfl⟩:=z;obtain⟨u,d⟩:=A;have u:a+1-1=b+1-1:=u;have d:k=l:=d;exact h (by rw[d,show a=b by omega])
theorem nr:∀{rs:List (bS×cm)} {fs:List bS} {F_:List (List bS)} {q s:bS},kZ q->pF F_ q->(∀r∈rs,kZ r.1/\pF F_ r.1)->q∉rs.map (·.1)->fU (dj F_ rs fs) q s=dj (fU F_ q s) rs fs
 | [],_,_,_,_,_,_,_,_=>rfl
 | _::_,[],_,_,_,_,_,_,_=>rfl
 | r::rs,f::fs,F_,q,s,hq,u,d,hn=>by
  obtain⟨g1,z⟩:=d r (mS_ ..);show fU (dj (fU F_ r.1 f) rs fs) q s=dj (fU (fU F_ q s) r.1 f) rs fs;rw[nr hq (gm u) (fun x hx=>⟨(d x<|mC_ _ hx).1,gm (d x<|mC_ _ hx).2⟩) fun h=>hn (mC_ _ h)];rw[Kg u.2.1 z.2.1<|KM hq g1 fun h=>hn (mQ_.2 (.inl h))]
theorem wh:∀{rs:List (bS×cm)} {fs:List bS} {F_:List (List bS)} {k:Nat} {r:bS×cm} {s:bS},fs.length=rs.length->(rs.map (·.1)).Nodup->(∀r∈rs,kZ r.1/\pF F_ r.1)->rs[k]? =some r->fU (dj F_ rs fs) r.1 s=dj F_ rs (fs.set k s)
 | [],_,_,_,_,_,_,_,_,h=>by cases h
 | _::_,[],_,_,_,_,h,_,_,_=>by simp at h
 | r0::rs,f::fs,F_,0,r,s,hl,hn,d,h=>by
  obtain rfl:r0=r:=by simpa using h
  obtain⟨u,z⟩:=List.nodup_cons.1 hn;obtain⟨g1,A⟩:=d r0 (mS_ ..);show fU (dj (fU F_ r0.1 f) rs fs) r0.1 s=dj (fU F_ r0.1 s) rs fs;rw[nr g1 (gm A) (fun x hx=>⟨(d x<|mC_ _ hx).1,gm (d x<|mC_ _ hx).2⟩) u,G9 A.2.1]
 | r0::rs,f::fs,F_,k+1,r,s,hl,hn,d,h=>by
  obtain⟨u,z⟩:=List.nodup_cons.1 hn;show fU (dj (fU F_ r0.1 f) rs fs) r.1 s=dj (fU F_ r0.1 f) rs (fs.set k s);exact wh (by simpa using hl) z (fun x hx=>⟨(d x<|mC_ _ hx).1,gm (d x<|mC_ _ hx).2⟩) (by simpa using h)
theorem BA {threads:List (List cm)}:∀{rs:List (bS×cm)} {F_:List (List bS)},(∀r∈rs,pF F_ r.1/\uQ F_ r.1=some ⟨0,0⟩)->dj F_ rs (List.replicate rs.length ⟨0,0⟩)=F_
 | [],_,_=>rfl
 | r::rs,F_,h=>by
  obtain⟨h1,d⟩:=h r (mS_ ..)
  have e:fU F_ r.1 ⟨0,0⟩=F_:=by
   unfold fU;obtain⟨x,u⟩:=dc h1.2.1;unfold uQ at d;refine(congrArg (F_.set _)<|rH d).trans (rH ?_);rw[List.getD_eq_getElem?_getD,u];rfl
  show dj (fU F_ r.1 ⟨0,0⟩) rs (List.replicate rs.length ⟨0,0⟩)=F_;rw[e];exact BA (threads:=threads) fun x hx=>h x (mC_ _ hx)
theorem KA {threads:List (List cm)} {q:bS} (h:pF (eS threads) q):uQ (eS threads) q=some ⟨0,0⟩:=by
 obtain⟨_,h1,d⟩:=h;unfold uQ;have z:(eS threads)[q.bH.toNat-1]? =(threads[q.bH.toNat-1]?).map fun r=>r.map fun _=>(⟨0,0⟩:bS):=by unfold eS;rw[gM_]
 rw[List.getD_eq_getElem?_getD,z] at d⊢;cases u:threads[q.bH.toNat-1]? with
 | none=>rw[u] at d;cases d
 | some row=>
  rw[u] at d;have d:q.index.toNat<(row.map fun _=>(⟨0,0⟩:bS)).length:=d;rw[lM_] at d;show(row.map fun _=>(⟨0,0⟩:bS))[q.index.toNat]? =_;rw[gM_,gC d];rfl
theorem FC {threads:List (List cm)}:dj (eS threads) (iB threads) (List.replicate (iB threads).length ⟨0,0⟩)=eS threads:=
 BA (threads:=threads) fun r d=>⟨(np r d).2,KA (np r d).2⟩
def pA (init:List Int) (threads:List (List cm)) (k:Nat) (pre:List bS):List XG:=
 (iU ((dR init threads).drop k)).flatMap fun r=>pO (eO init threads) init threads (dj (eS threads) (iB threads) (pre++r)) 0 []
theorem Ja {init:List Int} {threads:List (List cm)} {k:Nat} {pre:List bS} (h:(iB threads).length<=k):pA init threads k pre=pO (eO init threads) init threads (dj (eS threads) (iB threads) pre) 0 []:=by
 unfold pA;rw[List.drop_of_length_le (by unfold dR;rw[lM_];exact h)];show(pO _ _ _ (dj _ _ (pre++[])) 0 [])++[]=_;rw[zk_,zk_]
theorem DQ {init:List Int} {threads:List (List cm)} {k:Nat} {pre:List bS} {S:List bS} (h:(dR init threads)[k]? =some S):pA init threads k pre=S.flatMap fun s=>pA init threads (k+1) (pre++[s]):=by
 unfold pA;obtain⟨hx,rfl⟩:=gA.1 h;rw[zj_ hx];show((dR init threads)[k].flatMap fun x=>(iU ((dR init threads).drop (k+1))).map (x::·)).flatMap _=_
 rw[List.flatMap_assoc];refine congrArg (fun f=>List.flatMap f (dR init threads)[k])<|funext fun s=>?_;rw[List.flatMap_map];refine congrArg (fun f=>List.flatMap f _)<|funext fun r=>?_;rw[lQ_];rfl
theorem Ao {init:List Int} {threads:List (List cm)}:pA init threads 0 []=gV ft init threads:=rfl
theorem take_set {l:List α} {k:Nat} {s:α} (h:k<l.length):(l.set k s).take (k+1)=l.take k++[s]:=by
 rw[zb_,List.getElem?_set_self h,List.take_set_of_le<|nR_ _];rfl
variable {usF:List V} {bs:Nat}
structure tk (K:KP) (m:Int) (init:List Int) (threads:List (List cm)) (vi vt p2 p3 p4 vF:V) (bp bmn bg bo ba bc bs:Nat) (usF:List V) (NF:Own):Prop where
 pk:xh K m init threads (eO init threads) vi vt p2 p3 p4 vF bp bmn bg bo ba bc
 sc:K bs (.row [.func 41 [] [.ptr bp 0,.ptr bc 0,.ptr bg 0,.ptr bs 0]] 90 false)
 hr:bO K 2 dK ((iB threads).map (·.1)) p2
 hs:bO K 1 (RL K 2 dK) (dR init threads) p3
 hN:∀e∈NF,K e.1 e.2
theorem tk.mono {K K':KP} {m:Int} {init:List Int} {threads:List (List cm)} {vi vt d u z vF:V} {bp bmn bg bo ba bc bs:Nat} {usF:List V} {NF:Own} (h:tk K m init threads vi vt d u z vF bp bmn bg bo ba bc bs usF NF) (hk:KP.le K K'):tk K' m init threads vi vt d u z vF bp bmn bg bo ba bc bs usF NF:=
 ⟨h.pk.mono hk,hk _ _ h.sc,h.hr.mono hk fun _ _ h=>h,h.hs.mono hk fun _ _ h=>h.mono hk,fun e he=>hk _ _ (h.hN e he)⟩
theorem KO (hG:Plain G) {m:Int} (hm:m=1∨m=2) {init:List Int} {threads:List (List cm)} {NF:Own} (hn:(eO init threads).length<=6) (b7:∀w∈eO init threads,w.length<=1000) (b8:∀w∈dR init threads,w.length<=1000) (c0:(iB threads).length<=1000) (a9:cy 1 42 Of usF vF NF) (c1:threads.length<=1000):
  ∀(f k:Nat) (K:KP) (hs:List bS) (usO:List V) (ua:V) (Ma:Own) (acc:List XG) (MF:Own) (O:aB),k+f=(iB threads).length->hs.length=(iB threads).length->tk K m init threads vi vt p2 p3 p4 vF bp bmn bg bo ba bc bs usF NF->eX 2 87 dK (dj (eS threads) (iB threads) hs) usF MF->usO.length=(eO init threads).length->(∀v∈usO,cG v=some [v]/\eB v=true)->wz 4 52 (RG K) acc ua Ma->acc.length+(pA init threads k<|hs.take k).length<=1000000->H O K (MF++(bo,.row usO 42 false)::(ba,.row [ua] 26 false)::(Ma++L))->
   EC G 41 [nI k,.ptr bp 0,.ptr bc 0,.ptr bg 0,.ptr bs 0] O fun _ O'=>∃K' a0 usO' ua' Ma' MF',KP.le K K'/\a0.length=(iB threads).length/\a0.take k=hs.take k/\eX 2 87 dK (dj (eS threads) (iB threads) a0) usF MF'/\usO'.length=(eO init threads).length/\(∀v∈usO',cG v=some [v]/\eB v=true)/\wz 4 52 (RG K') (acc++(pA init threads k<|hs.take k).filter (gI m)) ua' Ma'/\H O' K' (MF'++(bo,.row usO' 42 false)::(ba,.row [ua'] 26 false)::(Ma'++L)):=by
 intro f;induction f with
 | zero=>
  intro k K hs usO ua Ma acc MF O hk a1 N hF a2 a3 hA hb ar;refine V9 hG Tryz.func41 Z<|UO ar 5 [2] Z Z<|J Z (W4 Z (ar.cg N.pk.pl) Z) Z<|J Z (W5 N.hr Z Z Z (e:=87) Z) Z<|Vy 3 Z<|aG Z (fun Q=>?_) (fun Q=>?_)
  ·refine Vw 2 Z<|J Z (W4 Z (ar.cg N.pk.pc) Z) Z ?_;have bd:(iB threads).length<=k:=by omega
   have E:hs.take k=hs:=tL_ oM;rw[Ja bd,E] at hb⊢;have b9:bO (K.iO MF) 1 (RL (K.iO MF) 2 dK) (dj (eS threads) (iB threads) hs) vF:=gO a9 hF (fun e he=>.inl (N.hN e he)) (fun e he=>.inr he);refine kw (W2 Z Z Z) (Oz hG hm hn b7 (eO init threads).length 0 K MF (dj (eS threads) (iB threads) hs) [] usO ua Ma acc _ oM Z N.pk b9 ⟨a2,a3,fun y l h=>by cases h⟩ hA hb ar) ?_;rintro c2 O ⟨K1,usO1,u1,M1,z,ca,cb,_,hA1,ar⟩;refine UM 4 Z ?_;exact⟨.inr Z,_,Z,K1,hs,usO1,u1,M1,MF,z,a1,E,hF,ca,cb,hA1,ar⟩
  exact absurd Q (by rw[lM_,show k=(iB threads).length by omega,cK];simp)
 | succ f ih=>
  intro k K hs usO ua Ma acc MF O hk a1 N hF a2 a3 hA hb ar;obtain⟨r,a4⟩:=dc (show k<(iB threads).length by omega);have cd:((iB threads).map (·.1))[k]? =some r.1:=by rw[gM_,a4];rfl
  obtain⟨S,hS⟩:=dc (show k<(dR init threads).length by unfold dR;rw[lM_];omega);have hSl:=b8 S (gB_ hS);obtain⟨⟨ra,rk,R⟩,ce⟩:=np r (gB_ a4);refine V9 hG Tryz.func41 Z<|UO ar 5 [2] Z Z<|J Z (W4 Z (ar.cg N.pk.pl) Z) Z<|J Z (W5 N.hr Z Z Z (e:=87) Z) Z<|Vy 3 Z<|aG Z (fun Q=>?_) (fun Q=>?_)
  ·exact absurd Q (by rw[lM_,cK,decide_eq_true_iff];intro h;have:=iJ_ h;omega)
  refine UP ar 5 [2] Z Z<|J Z (W4 Z (ar.cg N.pk.pl) Z) Z<|vQ 1 Z<|WV (e:=87) (m:=2) N.hr cd Z Z Z Z (fun c3 cl be cn bf=>?_);obtain rfl:=bf;refine J Z (W8 ar be Z Z) Z<|kb ar (W6 (cs:=[D,D])) (fun O b1 ar=>?_);refine ks ar (W9 Z Z Z ar.g0 Z) (fun O ar=>?_);refine UK 4 Z ?_;replace ar:=ar.pull (.there<|bu.here (X:=MF));replace ar:=ar.pull (.bV<|bu.here (X:=[_]));rw[za_] at ar;obtain⟨K1,z,ab,ar⟩:=ar.bF (M:=[_]);have hb6:=ab _ (.head _);clear ab;have hP1:=N.mono z;refine J Z (W3 3 Z) Z<|J Z (W4 Z (ar.cg hP1.pk.pl) Z) Z<|vQ 1 Z<|WV (e:=42) (m:=1) hP1.hs hS Z Z Z Z (fun c4 co bi cp bl=>?_);have hr22':=bl;obtain⟨c5,rfl,ac⟩:=hr22';refine J Z (W7 ar bi Z Z) Z (J Z (W5 ac Z Z Z (e:=87) Z) Z (UI 4 Z (bk (rg 25 19) (fun j t O=>∃(i:Nat) (K2:KP) (d:List bS) (usO1:List V) (u1:V) (M1 MF1:Own),j+i=S.length/\KP.le K1 K2/\d.length=(iB threads).length/\d.take k=hs.take k/\eX 2 87 dK (dj (eS threads) (iB threads) d) usF MF1/\usO1.length=(eO init threads).length/\(∀v∈usO1,cG v=some [v]/\eB v=true)/\wz 4 52 (RG K2) (acc++((S.take i).flatMap (fun s=>pA init threads (k+1) (hs.take k++[s]))).filter (gI m)) u1 M1/\t.get 25=some (nI i)/\H O K2 (MF1++(bo,.row usO1 42 false)::(ba,.row [u1] 26 false)::(M1++L))) (S.length) ⟨0,K1,hs,usO,ua,Ma,MF,Z,KP.le_refl _,a1,Z,hF,a2,a3,(by show wz 4 52 _ (acc++[]) _ _;rw[zk_];exact hA.fS fun _ _ h=>h.mono z),Z,ar⟩ ?_)));clear ar;intro j4 t O ak hI;obtain⟨i,K2,d,usO1,u1,M1,MF1,c6,hK2,W,am,hF1,ao,ap,hA1,bm,ar⟩:=hI;obtain⟨oo,rfl⟩:=ak.q1 bm Z;have hP2:=hP1.mono hK2;have hb6b:=hK2 _ _ hb6;have hkS:=ac.mono hK2 fun _ _ h=>h
  refine Vv 6 Z<|aG Z (fun I=>?_) (fun I=>?_)
  ·refine SE 5 Z<|aL (l:=zp [0,1,2,3,4,5,6,7,8,9,10,11,12]) U U ?_;obtain⟨s,C⟩:=di I;obtain⟨C,_⟩:=C;obtain⟨_,aE,u⟩:=sQ (rs:=iB threads) (fs:=d) ce;have e1:r.1.bH.toNat-1=ra:=by rw[R];rfl
   have e2:r.1.index.toNat=rk:=by rw[R];rfl
   rw[e1] at aE u;rw[e2] at u;obtain⟨row,aa⟩:=dc aE;rw[List.getD_eq_getElem?_getD,aa] at u;replace u:rk<row.length:=u;obtain⟨ur,Mr,A,B,bq,hOr,ch,bt⟩:=hF1.at aa;subst ch;obtain⟨bb,cc,cells,ee,hu,hM,h3,h4,h5,h6⟩:=hOr.cell oM;subst hM;replace ar:=ar.pull (X:=[(bb,.row cells ee false)]) .AN;replace ar:H O K2 ((bb,.row cells ee false)::((A++B)++_)):=ar;refine ah Z Z (W3 2 Z) Z (ah Z Z (W4 Z (ar.cg hP2.pk.gr) Z) Z (ah Z Z (W3 0 Z) Z (ah Z Z (W4 Z (ar.cg hb6b) Z) Z (ah Z Z (ay (v:=nI ra) Z Z (cI (by rw[R];exact fD (by have:(dj (eS threads) (iB threads) d).length=threads.length:=(by rw[sR];unfold eS;rw[lM_]);omega)))) Z<|WW (e:=42) (m:=1) (a9.fg (K:=K2) hP2.hN) bq Z Z Z Z (by rw[R];rfl) (fun c7 cr bv cv bw=>?_)))));obtain⟨rfl,hr32l,hr32c⟩:=bw;refine ah Z Z (W7 ar bv Z Z) Z<|ah Z Z (W3 1 Z) Z<|ah Z Z (W4 Z (ar.cg hb6b) Z) Z<|WW (e:=87) (m:=2) hkS C Z Z Z Z Z (fun c8 cw bD cx b0=>?_);obtain rfl:=b0;refine ah Z Z (W8 ar bD Z Z) Z<|ah Z Z (eH (e:=87) (m:=2) Z U (congrArg some hu) (by rw[R];rfl) u) Z (eF ar .here Z Z (gn Z Z Z ar.g0 (m:=2) U Z (show 0+rk*2+2<=cells.length by rw[h3];omega) Z) Z (fun O ar=>?_));refine⟨aT,?_⟩;rw[nA_] at ar;have hOr2:=wS (b:=bb) h3 h4 h5 h6 (i:=rk) u (y:=s) (vs:=[.int .i64 s.bH,.int .i64 s.index]) Z Z;rw[<-hu] at hOr2;have hF2:=bt _ _ _ hOr2;rw[rH bq] at hF2;have ci:(dj (eS threads) (iB threads) d).set ra (row.set rk s)=dj (eS threads) (iB threads) (d.set k s):=by rw[<-wh W Ba (fun x hx=>np x hx) a4];unfold fU;rw[e1,e2,List.getD_eq_getElem?_getD,aa];rfl
   rw[ci] at hF2;replace ar:=ar.push (X:=[_]) (L:=(A++([_]++B))++_) .AN;refine VB 2 Z (ai Z (J Z (W4 Z (ar.cg hP2.sc) Z) Z (vQ 1 Z (J Z (ay (v:=nI (k+1)) Z Z<|cI<|aX oM) Z ?_))));have E:(d.set k s).take (k+1)=hs.take k++[s]:=by rw[take_set oM,am]
   have a5:(acc++((S.take i).flatMap (fun s=>pA init threads (k+1) (hs.take k++[s]))).filter (gI m)).length+(pA init threads (k+1) ((d.set k s).take (k+1))).length<=1000000:=by rw[E];exact wZ (f:=(fun s=>pA init threads (k+1) (hs.take k++[s]))) (T:=S) ⟨S.drop (i+1),by rw[<-e6 C,List.take_append_drop]⟩ (by rw[DQ hS] at hb;exact hb)
   refine kw (W2 Z Z Z) (ih (k+1) K2 (d.set k s) usO1 u1 M1 _ _ _ oM (by rw[zg_];exact W) hP2 hF2 ao ap hA1 a5 ar) ?_;rintro c9 O ⟨K3,ck,usO3,u3,M3,MF3,b2,b3,b4,hF3,b5,b6,hA3,ar⟩;refine af<|az<|Wd 4 Z ?_;refine aD ⟨j4-1,(by have:=aM I;omega),oF,i+1,K3,ck,usO3,u3,M3,MF3,(by have:=aM I;omega),KP.le_trans hK2 b2,b3,(by have h1:=congrArg (List.take k) b4;rw[List.take_take,Nat.min_eq_left oM,E,List.take_append_of_le_length (by rw[lT_];omega),List.take_take,Nat.min_self] at h1;exact h1),hF3,b5,b6,(by rw[e6 C,List.flatMap_append,List.filter_append,<-lQ_,List.flatMap_singleton,<-E];exact hA3),cI<|aX (by have:=aM I;omega),ar⟩
  refine UH 3 Z<|aN ?_;exact vO Z ⟨K2,d,usO1,u1,M1,MF1,KP.le_trans z hK2,W,am,hF1,ao,ap,(by rw[DQ hS,<-tL_ (bK I)];exact hA1),ar⟩
def fO:List Nat->Nat
 | []=>1
 | b::l=>b*fO l
theorem ru:∀{l m:List Nat},fO (l++m)=fO l*fO m
 | [],m=>by show fO m=1*fO m;rw[Nat.one_mul]
 | b::l,m=>by show b*fO (l++m)=b*fO l*fO m;rw[ru,Nat.mul_assoc]
theorem A7:∀{l:List Nat},(∀b∈l,1<=b)->1<=fO l
 | [],_=>nR_ _
 | b::l,h=>Nat.mul_pos (h b<|mS_ ..) (A7 fun c d=>h c (mC_ _ d))
theorem ox {α:Type}:∀{L:List (List α)},(iU L).length=fO (L.map List.length)
 | []=>rfl
 | o::L=>by
  show(o.flatMap fun x=>(iU L).map (x::·)).length=o.length*fO (L.map List.length)
  rw[List.length_flatMap];simp only[lM_];rw[ox (L:=L),List.map_const',List.sum_replicate_nat]
theorem w6:∀{l:List Nat} {n:Nat},n<=16385->dI l n≠0->dI l n=min (n*fO l) 16385
 | [],n,h,_=>by show n=min (n*1) 16385;omega
 | b::l,n,h,hne=>by
  have h1:dI l (min (n*b) 16385)≠0:=hne;show dI l (min (n*b) 16385)=min (n*(b*fO l)) 16385;rw[w6 (Nat.min_le_right ..) h1,<-Nat.mul_assoc];have h2:=w6 (l:=l) (n:=min (n*b) 16385) (Nat.min_le_right ..) h1;have h3:fO l≠0:=fun e=>by rw[e,Nat.mul_zero] at h2;rw[h2] at h1;exact h1 Z
  by_cases d:n*b<=16385
  ·rw[Nat.min_eq_left d]
  rw[Nat.min_eq_right (show 16385<=n*b by omega)];have h4:16385*1<=16385*fO l:=Nat.mul_le_mul_left _ oM;have h5:16385*fO l<=n*b*fO l:=nM_ _ oM;omega
theorem EV {α:Type} {t:List α->List (List α)×List α} {c n:Nat} (h:∀x,(t x).1.length=c):∀(k i:Nat) (x:List α),(mE t n k i x).1.length=k*c
 | 0,_,_=>by rw[mE,Nat.zero_mul];rfl
 | k+1,i,x=>by
  rw[mE];show((t x).1++(mE t n k (i+1) _).1).length=_;rw[lA_,h,EV h k,Nat.succ_mul,Nat.add_comm]
theorem vv {α:Type}:∀(k:Nat) (x:List α),(eJ k x).1.length=fO (dP (k+1))
 | 0,x=>by rw[eJ];rfl
 | k+1,x=>by
  rw[eJ,EV (fun x=>vv k x),oS (k+1),ru];show(k+2)*fO (dP (k+1))=fO (dP (k+1))*((k+1+1)*1);rw[Nat.mul_one,Nat.mul_comm]
theorem AK (l:List α):(ft l).length=fO (dP l.length):=by
 unfold ft;cases hl:l.length with
 | zero=>rw[vv];rfl
 | succ k=>rw[vv];rfl
theorem xW:∀{wrs:List (List bS)},fO (wrs.flatMap fun w=>dP w.length)=fO ((wrs.map ft).map List.length)
 | []=>rfl
 | w::wrs=>by
  show fO (dP w.length++wrs.flatMap fun w=>dP w.length)=(ft w).length*fO ((wrs.map ft).map List.length);rw[ru,xW,AK]
theorem Am {init:List Int} {threads:List (List cm)} (h:lP (dR init threads) (eO init threads)<=16384) (h0:lP (dR init threads) (eO init threads)≠0):(gV ft init threads).length<=16384:=by
 have e:(gV ft init threads).length=fO ((dR init threads).map List.length)*fO ((eO init threads).flatMap fun w=>dP w.length):=by
  unfold gV;rw[List.length_flatMap];simp only[lM_];rw[List.map_const',List.sum_replicate_nat,ox,ox,xW]
 rw[e];unfold lP at h h0;have h1:dI ((dR init threads).map List.length) 1≠0:=fun e=>by rw[e,rF] at h0;exact h0 Z
 have h2:=w6 (by decide) h1;have d:dI ((dR init threads).map List.length) 1<=16385:=gk (by decide);have h4:=w6 d h0;have h5:=A7 (uN (wrs:=eO init threads));generalize fO ((eO init threads).flatMap fun w=>dP w.length)=P2 at*;generalize fO ((dR init threads).map List.length)=P1 at*;rw[Nat.one_mul] at h2
 by_cases u:P1<=16385
 ·rw[Nat.min_eq_left u] at h2;rw[h2] at h4 h;omega
 rw[Nat.min_eq_right oM] at h2;rw[h2] at h4 h;have h6:16385*1<=16385*P2:=Nat.mul_le_mul_left _ h5;omega
theorem xA {init:List Int} {threads:List (List cm)} (h:lP (dR init threads) (eO init threads)=0):gV ft init threads= []:=by
 unfold gV;rw[vu h];rfl
theorem zeroCells:∀n:Nat,e9 [V.int .i64 0,D] n=pP (List.replicate n ⟨0,0⟩)
 | 0=>rfl
 | n+1=>by
  show gS [_,_] (e9 _ n)=_;rw[ep,zeroCells n,List.replicate_succ,mZ];rfl
theorem FD {b n:Nat} (hn:n<=1048576):cy 2 87 dK (List.replicate n ⟨0,0⟩) (.slice b 0 n (.known n)) [(b,.row (e9 [V.int .i64 0,D] n) 87 false)]:=by
 rw[zeroCells];refine .inr ⟨b,.known n,_,87,by rw[List.length_replicate],Z,rW _,fun i x hx=>Jg hx,.inl (by rw[List.length_replicate]),by rw[List.length_replicate];exact hn⟩
theorem Dj {threads:List (List cm)} {loc:Int} (h4:threads.length<=4) (d:∀r∈threads,r.length<=14):(zC threads loc).length<=56:=by
 have h1:=tH (l:=threads) (t:=0) d;unfold zC;exact Nat.le_trans (List.length_filter_le ..) oM
theorem N7 {init:List Int} {threads:List (List cm)} (u:threads.length<=4) (d:∀r∈threads,r.length<=14):∀w∈eO init threads,w.length<=1000:=fun w hw=>by
 obtain⟨x,_,rfl⟩:=zn_.1 hw;rw[lM_];have:=Dj (loc:=.ofNat x) u d;omega
theorem w8 {init:List Int} {threads:List (List cm)} (u:threads.length<=4) (d:∀r∈threads,r.length<=14):∀w∈dR init threads,w.length<=1000:=fun w hw=>by
 obtain⟨r,_,rfl⟩:=zn_.1 hw;unfold kX;rw[lA_,lM_];have h1:=Dj (loc:=r.2.loc) u d;have h2:=List.length_filter_le (fun w:bS×cm=>bif cC w.1 r.1 then false else F w.2.write r.2.read) (zC threads r.2.loc);have h3:(bif F (init.getD r.2.loc.toNat 0) r.2.read then [(⟨0,r.2.loc⟩:bS)] else []).length<=1:=by cases F (init.getD r.2.loc.toNat 0) r.2.read<;>simp
 omega
theorem Nh {threads:List (List cm)} (u:threads.length<=4) (d:∀r∈threads,r.length<=14):(iB threads).length<=1000:=by
 rw[<-CJ (nR_ threads.length)];have:=wW (t:=threads.length) (k:=0) u d;omega
theorem SS (hG:Plain G) {m:Int} (hm:m=1∨m=2) {init:List Int} {threads:List (List cm)} (hi:bO K 1 ek init vi) (Q:bO K 1 (RL K 5 gG) threads vt) (hE:fX init threads=0) (hr:bO K 2 dK ((iB threads).map (·.1)) p2) (hs:bO K 1 (RL K 2 dK) (dR init threads) p3) (hw:bO K 1 (RL K 2 dK) (eO init threads) p4) (hT:lP (dR init threads) (eO init threads)<=16384) (ar:H O K L):
  EC G 16 [.agg [vi,vt,p2,p3,p4],.int .i64 m] O fun v O'=>∃K' M,KP.le K K'/\wz 4 52 (RG K') ((gV ft init threads).filter<|gI m) v M/\H O' K' (M++L):=by
 obtain⟨h6,h4,E,ap⟩:=oO hE;have hwl:=N7 (init:=init) h4 E;have hsl:=w8 (init:=init) h4 E;have hrl:=Nh h4 E;have wlen:(eO init threads).length=init.length:=by rw[zD];exact nv
 refine V9 hG Tryz.func16 Z<|Vw 2 Z<|kb ar (cH Z Z) (fun O b1 ar=>?_);refine kb ar (cH Z Z) (fun O b2 ar=>?_);refine TE 6 Z<|J Z (Xe Z ar.g1 Z) Z<|kx (W2 Z Z Z) (Hy hG hs hw hi.leaf.2 Q.leaf.2 hr.leaf.2 hsl hwl ar) (fun O ar=>?_);refine Vy 3 Z<|aG Z (fun N=>?_) (fun N=>?_)
 ·refine Vx 7 Z ?_;exact aA Z Z ⟨K,[],KP.le_refl _,(by rw[xA<|iJ_<|Lm N];exact⟨cy.nil,.inr Z⟩),ar.pop.pop⟩
 refine UG 4 Z<|kb ar (W6 (cs:=[.av])) (fun O b3 ar=>?_);refine UJ 3 Z<|aL (l:=zp [0,1,2,3,4,5,6,7,8,9,10]) U U<|Wl ar 6 [0,2,1,2,0,2] Z Z<|ah Z Z (W5 hi Z Z Z (e:=2) Z) Z<|gx ar Z Z (ie (e:=42) (w:=24) (z:=[.av]) U U U U Z Z oM oM) (fun _=>Z) (fun O b4 ar=>?_);rw[fL] at ar;refine ah Z Z (cE (places:=[(0,1),(1,1),(2,1),(3,1)]) (zero:=[.av,.av,.av,.av]) (cs:=[_,_,_,_]) U U U (aZ Z Z hi.leaf.1 Z<|aZ Z Z Q.leaf.1 Z<|aZ Z Z Z Z bE) U) Z<|pC ar Z Z (W6 (cs:=[.av,.av,.av,.av])) (fun _=>Z) (fun O b5 ar=>?_);refine ia ar Z Z (Sx Z Z Z ar.g0 (m:=4) Z (aj hi.leaf.2<|aj Q.leaf.2 Z) (cells':=[_,_,_,_]) Z) Z (fun O ar=>?_);refine⟨aT,?_⟩;refine VB 2 Z (UO ar 5 [1,4] Z Z (J Z (W5 Q Z Z Z (e:=25) Z) Z (UI 4 Z (bk ([8]++rg 26 13) (fun j t O=>∃(i:Nat) (us:List V) (u:V) (MN MI:Own),j+i=threads.length/\cy 1 42 Of us u MN/\eX 2 87 dK ((threads.take i).map fun r=>r.map fun _=>(⟨0,0⟩:bS)) us MI/\t.get 26=some (nI i)/\H O K (MN++(MI++((b5,.row [vi,vt,u,.slice b4 0 init.length (.known init.length)] 52 false)::(b4,.row (List.replicate init.length .av) 42 false)::(b3,.row [.av] 26 false)::(b2,.row [.int .i64 m] 3 false)::(b1,.row [vi,vt,p2,p3,p4] 45 false)::L)))) (threads.length) ⟨0,[],.av,[],[],Z,cy.nil,.nil,Z,ar⟩ ?_))));clear ar;intro j6 t O ak S;obtain⟨i,us,u,MN,MI,a4,hN,S,W,ar⟩:=S;obtain⟨oo,rfl⟩:=ak.q1 W Z;refine Vv 6 Z<|aG Z (fun I=>?_) (fun I=>?_)
 ·refine SF 6 Z ?_;obtain⟨B,C,a1⟩:=di I;refine WV (e:=25) (m:=1) Q C Z Z Z Z (fun a5 a2 aa a3 ab=>?_);have hr28':=ab;obtain⟨a9,rfl,ac⟩:=hr28';refine J Z (W7 ar aa Z Z) Z (Vy 3 Z (aL (l:=zp [0,1,2,3,4,5,6,7,8]) U U (ah Z Z (W3 2 Z) Z (ah Z Z (W4 Z ar.bG.bG.g0 Z) Z (wQ 1 Z (ah Z Z (W5 ac Z Z Z (e:=38) Z) Z (gx ar Z Z (ie (e:=87) (w:=16) (z:=[D,D]) U U U U Z Z (by have:=E _ (gB_ C);omega) (by have:=E _ (gB_ C);omega)) (fun _=>Z) (fun O T ar=>?_))))))));obtain⟨MZ,aE,ar⟩:∃MZ:Own,MZ= [(T,.row (e9 [D,D] B.length) 87 false)]/\H O K (MZ++_):=⟨_,Z,ar⟩;have hZ:cy 2 87 dK (List.replicate B.length ⟨0,0⟩) (.slice T 0 B.length (.known B.length)) MZ:=by rw[aE];exact FD (by have:=E _ (gB_ C);omega)
  refine gx ar Z Z (bN (e:=42) (m:=1) (z:=[.av]) (cs:=[_]) U U U U<|aZ Z Z hZ.leaf.1 Z bE) (fun _=>Z) (fun O b7 ar=>?_);replace ar:=ar.pull (.there (.bV<|bu.here (X:=MN)));replace ar:=ar.pull (.bV<|bu.here (X:=[_]));rw[za_] at ar;refine gP (R:=Of) (m:=1) (e:=42) hN ar (dn (m:=1) Z (show Of (.slice T 0 B.length (.known B.length)) _ from⟨Z,Z,Z⟩)) Of.leaf (by have h1:=S.length;rw[lM_,lT_] at h1;simp only[zc_,List.length_nil];omega) Z Z Z Z Z Z Z Z (fun _=>Z) (fun O ba am hO36 ar=>?_);refine⟨aT,?_⟩;refine ah Z Z (W3 2 Z) Z<|eF ar (.bV (.bV (.bV .here))) Z Z (aO Z Z hO36.leaf.1 ar.bG.bG.bG.g0 (m:=1) U Z (lb Z) (aj hO36.leaf.2 aC) (cells':=[_,_,_,_]) Z) Z (fun O ar=>?_);refine⟨aT,?_⟩;refine aV<|az<|Wd 4 Z ?_;replace ar:=ar.pull (.bV (.bV (.bV (.there (.there (.there (.there<|bu.here (X:=[_]))))))));rw[za_] at ar;replace ar:=ar.pull (.there (.bV (.bV (.bV (.there (.there (.there<|bu.here (X:=[_]))))))));rw[za_] at ar;replace ar:=ar.pull (.there (.there (.bV (.bV (.bV (.there (.there<|bu.here (X:=[_]))))))));rw[za_] at ar;replace ar:=ar.pull (.there (.there (.there (.bV (.bV (.bV (.there<|bu.here (X:=[_]))))))));rw[za_] at ar;replace ar:=ar.pull (.there (.there (.there (.there (.bV (.bV (.bV<|bu.here (X:=[_]))))))));rw[za_] at ar;replace ar:=ar.pull (.there (.there (.there (.there (.there (.bV (.bV<|bu.here (X:=MI))))))));replace ar:=ar.pull (.bV (.there (.there (.there (.there (.there (.bV<|bu.here (X:=MZ))))))));replace ar:=ar.pull (.bV (.bV (.there (.there (.there (.there (.there<|bu.here (X:=am))))))));rw[<-lQ_ MZ MI] at ar;refine aD ⟨j6-1,(by have:=aM I;omega),oF,i+1,us++[.slice T 0 B.length (.known B.length)],_,am,MZ++MI,(by have:=aM I;omega),hO36,(by rw[e6 C,List.map_append];show eX _ _ _ (_++[B.map fun _=>_]) _ _;rw[List.map_const'];exact .snoc S hZ),cI<|aX (by have:=aM I;omega),ar⟩
 refine UH 3 Z<|aN<|Vw 2 Z<|kb ar (W6 (cs:=[.nilFunc])) (fun O T ar=>?_);refine kb ar (W6 (cs:=[.nilFunc])) (fun O b7 ar=>?_);refine UK 5 Z<|gw ar Z (Sx Z Z Z ar.g1 (m:=1) Z Z (cells':=[_]) Z) Z (fun O ar=>?_);refine UK 5 Z<|ks ar (Sx Z Z Z ar.g0 (m:=1) Z Z (cells':=[_]) Z) (fun O ar=>?_);refine UQ ar 5 [0] Z Z ?_;rw[tL_<|bK I] at S;replace ar:=ar.pull (.there (.there (.bV (.bV (.there (.there<|bu.here (X:=[_])))))));rw[za_] at ar;replace ar:=ar.pull (.there (.there (.there (.bV (.bV (.there<|bu.here (X:=[_])))))));rw[za_] at ar;replace ar:=ar.pull (.there (.there (.there (.there (.bV<|bu.here (X:=MI))))));replace ar:=ar.pull (.bV (.there (.there (.there (.there<|bu.here (X:=MN))))));replace ar:=ar.pull (.bV (.bV (.there (.there (.there (.there (.there (.there<|bu.here (X:=[_])))))))));rw[za_] at ar;replace ar:=ar.pull (.there (.bV (.bV (.there (.there (.there (.there (.there<|bu.here (X:=[_])))))))));rw[za_] at ar;replace ar:=ar.pull (.there (.there (.bV (.bV (.there (.there (.there (.there<|bu.here (X:=[_])))))))));rw[za_] at ar;replace ar:=ar.pull (.there (.there (.there (.bV (.bV (.there (.there (.there<|bu.here (X:=[_])))))))));rw[za_] at ar;replace ar:=ar.pull (.there (.there (.there (.there (.bV (.bV (.there (.there<|bu.here (X:=[_])))))))));rw[za_] at ar;obtain⟨K1,d,A,ar⟩:=ar.bF (M:=_::_::_::_::_::MN);have a0:tk K1 m init threads vi vt p2 p3 p4 u b1 b2 b5 b4 b3 T b7 us MN:=⟨⟨A _ (.tail _ (.tail _ (.tail _ (.tail _ (.head _))))),A _ (.tail _ (.tail _ (.tail _ (.head _)))),by rw[wlen];exact A _ (.tail _ (.tail _ (.head _))),A _ (.tail _ (.head _)),hi.mono d fun _ _ h=>h,Q.mono d fun _ _ h=>h.mono d,hw.mono d fun _ _ h=>h.mono d⟩,A _ (.head _),hr.mono d fun _ _ h=>h,hs.mono d fun _ _ h=>h.mono d,fun e he=>A e (mC_ _<|mC_ _<|mC_ _<|mC_ _<|mC_ _ he)⟩;have hF0:eX 2 87 dK (dj (eS threads) (iB threads)<|List.replicate (iB threads).length ⟨0,0⟩) us MI:=by rw[FC];exact S
 refine kw (W2 Z Z Z) (KO hG hm (by rw[wlen];exact h6) hwl hsl hrl hN oM (iB threads).length 0 K1 _ (List.replicate init.length .av) .av [] [] MI _ oM List.length_replicate a0 hF0 (by rw[List.length_replicate,wlen]) (fun v hv=>by rw[eR_ hv];exact⟨Z,Z⟩) ⟨cy.nil,.inr Z⟩ (by rw[List.take_zero,Ao];have:=Am hT (fun e=>by rw[e] at N;exact Bool.noConfusion (show true=false from N));show 0+_<=_;omega) ar) ?_;rintro bb O ⟨K2,bc,usO2,u2,M2,MF2,ao,_,_,hF2,_,_,hA2,ar⟩;rw[List.take_zero,Ao] at hA2;refine UK 4 Z<|J Z (W4 Z ar.bG.pop.g0 Z) Z<|VA 4 Z ?_;exact aA Z Z ⟨K2,M2,KP.le_trans d ao,hA2,ar.bG.pop.pop⟩
variable {v1 v2:V}
theorem HF (hG:Plain G) {threads:List (List cm)} {W v3:V} (ht:bO K 1 (RL K 5 gG) threads v1) (h4:threads.length<=4) (C:∀r∈threads,r.length<=14) (l0:eB W=true/\cG W=some [W]) (l2:eB v2=true/\cG v2=some [v2]) (l3:eB v3=true/\cG v3=some [v3]) (ar:H O K L):
  EC G 23 [.agg [W,v1,v2,v3]] O fun v O'=>∃M,cy 2 87 dK ((iB threads).map (·.1)) v M/\H O' K (M++L):=by
 refine V9 hG Tryz.func23 Z<|Vw 2 Z<|kb ar (cH Z Z) (fun O b1 ar=>?_);refine TD 15 Z (bk (rg 3 49) (fun j t O=>∃(i:Nat) (u:V) (M:Own),j+i=threads.length/\cy 2 87 dK ((Ds threads i 0).map (·.1)) u M/\t.get 3=some (u)/\t.get 4=some (nI i)/\H O K (M++((b1,.row [W,v1,v2,v3] 52 false)::L))) (threads.length) ⟨0,.av,[],Z,cy.nil,Z,Z,ar⟩ ?_)
 clear ar;intro j3 t O ak hI;obtain⟨i,u,M,bt,hO,S,bb,ar⟩:=hI;obtain⟨oo,rfl⟩:=ak.q2 S bb Z;refine UO ar 5 [1] Z Z<|J Z (W4 Z ar.bG.g0 Z) Z<|J Z (W5 ht Z Z Z (e:=25) Z) Z<|Vy 3 Z<|aG Z (fun B=>?_) (fun B=>?_)
 ·refine SF 6 Z ?_;obtain⟨row,d⟩:=dc (aM B);refine UI 4 Z (bk ([3,5]++rg 13 39) (fun j t O=>∃(k:Nat) (u2:V) (N:Own),j+k=row.length/\cy 2 87 dK ((Ds threads i k).map (·.1)) u2 N/\t.get 3=some (u2)/\t.get 5=some (nI k)/\H O K (N++((b1,.row [W,v1,v2,v3] 52 false)::L))) (row.length) ⟨0,u,M,Z,hO,Z,Z,ar⟩ ?_)
  clear ar;intro j6 t O ak hI;obtain⟨k,u2,N,bv,hO2,S,bc,ar⟩:=hI;obtain⟨oo,rfl⟩:=ak.q2 S bc Z;refine UO ar 5 [1] Z Z<|J Z (W4 Z ar.bG.g0 Z) Z<|vQ 1 Z<|WV (e:=25) (m:=1) ht d Z Z Z Z (fun bw be aa bf ab=>?_);have hr17':=ab;obtain⟨bD,rfl,ac⟩:=hr17';refine J Z (W7 ar aa Z Z) Z<|J Z (W5 ac Z Z Z (e:=38) Z) Z<|Vy 3 Z<|aG Z (fun A=>?_) (fun A=>?_)
  ·refine SF 6 Z ?_;obtain⟨ev,E⟩:=dc (aM A);refine J Z (W3 1 Z) Z<|J Z (W4 Z ar.bG.g0 Z) Z<|vQ 1 Z<|WV (e:=25) (m:=1) ht d Z Z Z Z (fun bH bg am bi ao=>?_);have hr26':=ao;obtain⟨b0,rfl,ap⟩:=hr26';refine J Z (W7 ar am Z Z) Z<|vQ 1 Z<|WV (e:=38) (m:=5) ap E Z Z Z Z (fun b3 bl aE bm a0=>?_);obtain rfl:=a0;refine de aE Z Z Z (k:=0) U (lb Z) (fun _=>Z) (fun b4 a1=>?_);refine J Z (W7 ar a1 Z Z) Z<|vQ 1 Z<|ky Z (an Z) (fun Q=>?_) (fun Q=>?_)
   ·refine Vz 17 Z (J Z (ay (v:=nI (i+1)) Z Z<|cI<|aX (by have:=aM B;omega)) Z (vQ 1 Z (J Z (W1 (places:=[(0,1),(1,1)]) (zero:=[D,D]) (cs:=[_,_]) Z) Z<|fh ar Z (bN (e:=87) (m:=2) (z:=[D,D]) (cs:=[_,_]) U U U U<|aZ Z Z Z Z bE) (fun _=>Z) (fun O b2 ar=>?_))));replace ar:=ar.pull (.there<|bu.here (X:=N));replace ar:=ar.pull (.bV<|bu.here (X:=[_]));rw[za_] at ar;refine fw (R:=dK) (m:=2) (e:=87) hO2 ar (dn (m:=2) Z (show dK ⟨.ofNat (i+1),.ofNat k⟩ _ from Z)) dK.leaf (by have:=wW (t:=i) (k:=k) h4 C;rw[lM_];simp only[zc_,List.length_nil];omega) Z Z Z Z Z Z Z (fun _=>Z) (fun O bd I hO51 ar=>?_);refine Wg 2 Z (az (We 2 Z (J Z (ay (v:=nI (k+1)) Z Z (cI (aX (by have:=aM A;have:=C _ (gB_ d);omega)))) Z<|Wg 2 Z ?_)));replace ar:=ar.pull (.bV<|bu.here (X:=[_]));rw[za_] at ar;replace ar:=ar.pull (.there<|bu.here (X:=I));refine aD ⟨j6-1,(by have:=aM A;omega),oF,k+1,_,I,(by have:=aM A;omega),(by rw[wX d E (by unfold cz;rw[Q];rfl),List.map_append];exact hO51),Z,Z,ar⟩
   refine J Z (W3 1 Z) Z<|J Z (W4 Z ar.bG.g0 Z) Z<|vQ 1 Z<|WV (e:=25) (m:=1) ht d Z Z Z Z (fun b5 bo a2 bp a3=>?_);have hr37':=a3;obtain⟨b6,rfl,a4⟩:=hr37';refine J Z (W7 ar a2 Z Z) Z<|vQ 1 Z<|WV (e:=38) (m:=5) a4 E Z Z Z Z (fun b7 bq a5 bs a9=>?_);obtain rfl:=a9;refine de a5 Z Z Z (k:=0) U (lb Z) (fun _=>Z) (fun b8 ba=>?_);refine J Z (W7 ar ba Z Z) Z<|Vy 4 Z<|aG Z (fun T=>?_) (fun T=>?_)
   ·refine We 3 Z (J Z (ay (v:=nI (i+1)) Z Z<|cI<|aX (by have:=aM B;omega)) Z (vQ 1 Z (J Z (W1 (places:=[(0,1),(1,1)]) (zero:=[D,D]) (cs:=[_,_]) Z) Z<|fh ar Z (bN (e:=87) (m:=2) (z:=[D,D]) (cs:=[_,_]) U U U U<|aZ Z Z Z Z bE) (fun _=>Z) (fun O b2 ar=>?_))));replace ar:=ar.pull (.there<|bu.here (X:=N));replace ar:=ar.pull (.bV<|bu.here (X:=[_]));rw[za_] at ar;refine fw (R:=dK) (m:=2) (e:=87) hO2 ar (dn (m:=2) Z (show dK ⟨.ofNat (i+1),.ofNat k⟩ _ from Z)) dK.leaf (by have:=wW (t:=i) (k:=k) h4 C;rw[lM_];simp only[zc_,List.length_nil];omega) Z Z Z Z Z Z Z (fun _=>Z) (fun O bd I hO51 ar=>?_);refine Wg 2 Z (az (We 2 Z (J Z (ay (v:=nI (k+1)) Z Z (cI (aX (by have:=aM A;have:=C _ (gB_ d);omega)))) Z<|Wg 2 Z ?_)));replace ar:=ar.pull (.bV<|bu.here (X:=[_]));rw[za_] at ar;replace ar:=ar.pull (.there<|bu.here (X:=I));refine aD ⟨j6-1,(by have:=aM A;omega),oF,k+1,_,I,(by have:=aM A;omega),(by rw[wX d E (by unfold cz;rw[Q];exact T),List.map_append];exact hO51),Z,Z,ar⟩
   refine aI (az (We 2 Z (J Z (ay (v:=nI (k+1)) Z Z (cI (aX (by have:=aM A;have:=C _ (gB_ d);omega)))) Z<|Wg 2 Z ?_)));replace ar:=ar.pull (.bV<|bu.here (X:=[_]));rw[za_] at ar;replace ar:=ar.pull (.there<|bu.here (X:=N));refine aD ⟨j6-1,(by have:=aM A;omega),oF,k+1,u2,N,(by have:=aM A;omega),(by rw[G4 d E (by unfold cz;rw[Q];exact T)];exact hO2),Z,Z,ar⟩
  refine UH 3 Z (aN (az (We 2 Z (J Z (ay (v:=nI (i+1)) Z Z<|cI<|aX (by have:=aM B;omega)) Z<|Wg 2 Z ?_))));replace ar:=ar.pull (.bV<|bu.here (X:=[_]));rw[za_] at ar;replace ar:=ar.pull (.there<|bu.here (X:=N));refine aD ⟨j3-1,(by have:=aM B;omega),oF,i+1,u2,N,(by have:=aM B;omega),(by rw[<-ze d,show row.length=k by have:=bK A;omega];exact hO2),Z,Z,ar⟩
 refine UH 3 Z<|aN<|Wf 7 Z ?_;exact aA Z Z ⟨_,(by rw[CJ<|bK B] at hO;exact hO),(ar.perm List.perm_middle).pop⟩
variable {w0:Int} {vs:List V} {E:Nat} {R:α->List V->Prop}
theorem Pz (A B L:List α) (x:α):(A++(B++x::L)).Perm (x::(A++(B++L))):=by
 classical
 rw[List.perm_iff_count];intro y;simp only[List.count_append,List.count_cons];omega
theorem Cy {m:Nat} {x:α} {b:Nat} (hm:vs.length=m) (d:R x vs):cy m E R [x] (.slice b 0 1 (.known 1)) [(b,.row vs e false)]:=by
 refine .inr ⟨b,.known 1,vs,e,Z,Z,by rw[hm];show m=1*m;omega,fun i y hy=>?_,.inl Z,by show 1<=1048576;omega⟩;cases i with
 | zero=>cases hy;rw[Nat.zero_mul,List.drop_zero,<-hm,List.take_length];exact d
 | succ i=>cases hy
def Dt (threads:List (List cm)) (x t k:Nat):List (bS×cm):=(qc threads t k).filter fun p=>bif bz p.2 then F p.2.loc (.ofNat x) else false
theorem xe {threads:List (List cm)} {x t k:Nat} {row:List cm} {e:cm} (h1:threads[t]? =some row) (d:row[k]? =some e) (h:(bif bz e then F e.loc (.ofNat x) else false)=true):Dt threads x t (k+1)=Dt threads x t k++[(⟨.ofNat (t+1),.ofNat k⟩,e)]:=by
 unfold Dt;rw[lS h1 d,List.filter_append,List.filter_cons_of_pos (by exact h),List.filter_nil]
theorem vA {threads:List (List cm)} {x t k:Nat} {row:List cm} {e:cm} (h1:threads[t]? =some row) (d:row[k]? =some e) (h:(bif bz e then F e.loc (.ofNat x) else false)=false):Dt threads x t (k+1)=Dt threads x t k:=by
 unfold Dt;rw[lS h1 d,List.filter_append,List.filter_cons_of_neg (by show¬(bif bz e then F e.loc (.ofNat x) else false)=true;rw[h];exact Bool.false_ne_true),List.filter_nil,zk_]
theorem Fx {threads:List (List cm)} {x t:Nat} {row:List cm} (h1:threads[t]? =some row):Dt threads x t row.length=Dt threads x (t+1) 0:=by unfold Dt;rw[uM h1]
theorem IU {threads:List (List cm)} {x t:Nat} (h:threads.length<=t):Dt threads x t 0=zC threads (.ofNat x):=by unfold Dt zC;rw[xT h]
theorem xd {threads:List (List cm)} {x t k:Nat} (d:threads.length<=4) (h:∀r∈threads,r.length<=14):(Dt threads x t k).length<=70:=Nat.le_trans (List.length_filter_le ..) (xU d h)
theorem xy (hG:Plain G) {init:List Int} {threads:List (List cm)} {v0 v3:V} (hi:bO K 1 ek init v0) (ht:bO K 1 (RL K 5 gG) threads v1) (h4:threads.length<=4) (E:∀r∈threads,r.length<=14) (l2:eB v2=true/\cG v2=some [v2]) (l3:eB v3=true/\cG v3=some [v3]) {x:Nat} (hx:init[x]? =some w0) (ar:H O K L):
  EC G 59 [.agg [v0,v1,v2,v3],nI x] O fun v O'=>∃W u2 M1 M2,v= .tuple [W,u2]/\cy 2 87 dK (⟨0,.ofNat x⟩::(zC threads (.ofNat x)).map (·.1)) W M1/\cy 1 2 ek (w0::(zC threads (.ofNat x)).map (·.2.write)) u2 M2/\H O' K (M2++(M1++L)):=by
 refine V9 hG Tryz.func59 Z<|Vw 2 Z<|kb ar (cH Z Z) (fun O b1 ar=>?_);refine UJ 5 Z (aL (l:=zp [0,1,2,3,4,5,6,7,8,9,10]) U U (wQ 1 Z (ah Z Z (W1 (places:=[(0,1),(1,1)]) (zero:=[D,D]) (cs:=[_,_]) Z) Z<|gx ar Z Z (bN (e:=87) (m:=2) (z:=[D,D]) (cs:=[_,_]) U U U U<|aZ Z Z Z Z bE) (fun _=>Z) (fun O b2 ar=>?_))));refine Wl ar 3 [0,1] Z Z<|WW (e:=2) (m:=1) hi hx Z Z Z Z Z (fun bo bc ac bd am=>?_);obtain rfl:=am;refine ah Z Z (W7 ar ac Z Z) Z<|gx ar Z Z (bN (e:=2) (m:=1) (z:=[D]) (cs:=[_]) U U U U<|aZ Z Z Z Z bE) (fun _=>Z) (fun O b3 ar=>?_);refine VB 4 Z<|UE 3 Z ?_;have hI0:cy 2 87 dK (⟨0,.ofNat x⟩::(Dt threads x 0 0).map (·.1)) (.slice b2 0 1 (.known 1)) [(b2,.row [D,nI x] 87 false)]:=Cy (x:=(⟨0,.ofNat x⟩:bS)) (vs:=[D,nI x]) Z Z
 have hV0:cy 1 2 ek (w0::(Dt threads x 0 0).map (·.2.write)) (.slice b3 0 1 (.known 1)) [(b3,.row [.int .i64 w0] 2 false)]:=Cy (x:=w0) (vs:=[.int .i64 w0]) Z Z
 refine UI 4 Z (bk (rg 6 5++rg 20 51) (fun j t O=>∃(i:Nat) (W u2:V) (M1 M2:Own),j+i=threads.length/\cy 2 87 dK (⟨0,.ofNat x⟩::(Dt threads x i 0).map (·.1)) W M1/\cy 1 2 ek (w0::(Dt threads x i 0).map (·.2.write)) u2 M2/\t.get 6=some (W)/\t.get 7=some (u2)/\t.get 8=some (nI i)/\H O K (M2++(M1++((b1,.row [v0,v1,v2,v3] 52 false)::L)))) (threads.length) ⟨0,_,_,_,_,Z,hI0,hV0,Z,Z,Z,ar⟩ ?_)
 clear ar;intro j3 t O ak hI;obtain⟨i,W,u2,M1,M2,bp,hI1,hV1,aa,ab,a5,ar⟩:=hI;obtain⟨oo,rfl⟩:=ak.q3 aa ab a5 Z;refine UO ar 5 [1] Z Z<|J Z (W4 Z ar.bG.bG.g0 Z) Z<|J Z (W5 ht Z Z Z (e:=25) Z) Z<|Vy 3 Z<|aG Z (fun I=>?_) (fun I=>?_)
 ·refine SF 6 Z ?_;obtain⟨row,d⟩:=dc (aM I);refine UI 4 Z (bk ([6,7,9,10]++rg 27 44) (fun j t O=>∃(k:Nat) (u3 u4:V) (N Q:Own),j+k=row.length/\cy 2 87 dK (⟨0,.ofNat x⟩::(Dt threads x i k).map (·.1)) u3 N/\cy 1 2 ek (w0::(Dt threads x i k).map (·.2.write)) u4 Q/\t.get 6=some (u3)/\t.get 7=some (u4)/\t.get 9=some (nI k)/\H O K (Q++(N++((b1,.row [v0,v1,v2,v3] 52 false)::L)))) (row.length) ⟨0,W,u2,M1,M2,Z,hI1,hV1,Z,Z,Z,ar⟩ ?_)
  clear ar;intro j6 t O ak hI;obtain⟨k,u3,u4,N,Q,bq,hI2,hV2,aa,ab,a9,ar⟩:=hI;obtain⟨oo,rfl⟩:=ak.q3 aa ab a9 Z;refine UO ar 5 [1] Z Z<|J Z (W4 Z ar.bG.bG.g0 Z) Z<|vQ 1 Z<|WV (e:=25) (m:=1) ht d Z Z Z Z (fun bs be ao bf ap=>?_);have hr31':=ap;obtain⟨bt,rfl,aE⟩:=hr31';refine J Z (W7 ar ao Z Z) Z<|J Z (W5 aE Z Z Z (e:=38) Z) Z<|Vy 3 Z<|aG Z (fun u=>?_) (fun u=>?_)
  ·refine SF 6 Z ?_;obtain⟨ev,A⟩:=dc (aM u);refine J Z (W3 1 Z) Z<|J Z (W4 Z ar.bG.bG.g0 Z) Z<|vQ 1 Z<|WV (e:=25) (m:=1) ht d Z Z Z Z (fun bv bg a0 bi a1=>?_);have hr40':=a1;obtain⟨bw,rfl,a2⟩:=hr40';refine J Z (W7 ar a0 Z Z) Z<|vQ 1 Z<|WV (e:=38) (m:=5) a2 A Z Z Z Z (fun bD bl a3 bm a4=>?_);obtain rfl:=a4;refine J Z (W8 ar a3 Z Z) Z<|kb ar (W6 (cs:=[D,D,D,D,D])) (fun O b4 ar=>?_);refine ks ar (Xb Z Z Z ar.g0 Z) (fun O ar=>?_);refine UQ ar 7 [0,0] Z Z<|ky Z (an Z) (fun B=>?_) (fun B=>?_)
   ·refine VF ar 12 [1,0] Z Z<|aG Z (fun C=>?_) (fun C=>?_)
    ·refine aL (l:=[(0,[]),(1,[]),(2,[]),(3,[]),(4,[]),(5,[]),(7,[]),(8,[]),(9,[]),(10,[]),(6,[9,10]),(11,[]),(12,[]),(13,[])]) U U (Wj 2 Z (ah Z Z (ay (v:=nI (i+1)) Z Z<|cI<|aX (by have:=aM I;omega)) Z (wQ 1 Z (ah Z Z (W1 (places:=[(0,1),(1,1)]) (zero:=[D,D]) (cs:=[_,_]) Z) Z<|gx ar Z Z (bN (e:=87) (m:=2) (z:=[D,D]) (cs:=[_,_]) U U U U<|aZ Z Z Z Z bE) (fun _=>Z) (fun O b5 ar=>?_)))));refine Wl ar 3 [4,1] Z Z<|gx ar Z Z (bN (e:=2) (m:=1) (z:=[D]) (cs:=[_]) U U U U<|aZ Z Z Z Z bE) (fun _=>Z) (fun O b6 ar=>?_);replace ar:=ar.pull (.there (.there (.there (.bV<|bu.here (X:=N)))));replace ar:=ar.pull (.bV (.there<|bu.here (X:=[_])));rw[za_] at ar;refine gP (R:=dK) (m:=2) (e:=87) hI2 ar (dn (m:=2) Z (show dK ⟨.ofNat (i+1),.ofNat k⟩ _ from Z)) dK.leaf (by have:=xd (x:=x) (t:=i) (k:=k) h4 E;rw[zc_,lM_];simp only[zc_,List.length_nil];omega) Z Z Z Z Z Z Z Z (fun _=>Z) (fun O ba S hO65 ar=>?_);refine⟨(bj (bx Z Z Z Z Z (W4 Z ar.bG.pop.g0 Z)<|cW _ _)<|bj (oC Z Z Z Z Z (tv (e:=2) (m:=1) (z:=[D]) (cs:=[_]) U U U U<|aZ Z Z Z Z bE) ar.bG.g0<|cP (fe _ _) gf) aT),?_⟩;replace ar:=ar.pull (.bV (.there (.there<|bu.here (X:=Q))));replace ar:=ar.pull (.bV (.bV<|bu.here (X:=[_])));rw[za_] at ar;refine gP (R:=ek) (m:=1) (e:=2) hV2 ar (dn (m:=1) Z (show ek ev.write _ from Z)) ek.leaf (by have:=xd (x:=x) (t:=i) (k:=k) h4 E;rw[zc_,lM_];simp only[zc_,List.length_nil];omega) Z Z Z Z Z Z Z Z (fun _=>Z) (fun O bb T hO70 ar=>?_);refine⟨aT,?_⟩;refine Wi 3 Z (az (We 2 Z (J Z (ay (v:=nI (k+1)) Z Z (cI (aX (by have:=aM u;have:=E _ (gB_ d);omega)))) Z<|Wg 2 Z ?_)));replace ar:=ar.pull (.bV (.bV (.there<|bu.here (X:=[_]))));rw[za_] at ar;replace ar:=ar.pull (.there (.bV<|bu.here (X:=S)));replace ar:=ar.pull (.bV (.there<|bu.here (X:=T)));replace ar:=ar.pull (.bV (.bV (.there<|bu.here (X:=[_]))));rw[za_] at ar;have ar:=ar.pop;refine aD ⟨j6-1,(by have:=aM u;omega),oF,k+1,_,_,S,T,(by have:=aM u;omega),(by rw[xe d A (by show(bif (bif F ev.kind 2 then true else F ev.kind 3) then F ev.loc (.ofNat x) else false)=true;rw[B];exact C),List.map_append];exact hO65),(by rw[xe d A (by show(bif (bif F ev.kind 2 then true else F ev.kind 3) then F ev.loc (.ofNat x) else false)=true;rw[B];exact C),List.map_append];exact hO70),Z,Z,Z,ar⟩
    refine aI (az (We 2 Z (J Z (ay (v:=nI (k+1)) Z Z (cI (aX (by have:=aM u;have:=E _ (gB_ d);omega)))) Z<|Wg 2 Z ?_)));replace ar:=ar.pull (.there (.bV (.bV<|bu.here (X:=[_]))));rw[za_] at ar;replace ar:=ar.pull (.there (.there (.bV<|bu.here (X:=N))));replace ar:=ar.pull (.bV (.there (.there<|bu.here (X:=Q))));replace ar:=ar.pull (.bV (.bV (.there<|bu.here (X:=[_]))));rw[za_] at ar;have ar:=ar.pop;refine aD ⟨j6-1,(by have:=aM u;omega),oF,k+1,u3,u4,N,Q,(by have:=aM u;omega),(by rw[vA d A (by show(bif (bif F ev.kind 2 then true else F ev.kind 3) then F ev.loc (.ofNat x) else false)=false;rw[B];exact C)];exact hI2),(by rw[vA d A (by show(bif (bif F ev.kind 2 then true else F ev.kind 3) then F ev.loc (.ofNat x) else false)=false;rw[B];exact C)];exact hV2),Z,Z,Z,ar⟩
   refine Wk ar 4 [0,0] Z Z<|ky Z (an Z) (fun M=>?_) (fun M=>?_)
   ·refine VF ar 7 [1,0] Z Z<|aG Z (fun C=>?_) (fun C=>?_)
    ·refine aL (l:=[(0,[]),(1,[]),(2,[]),(3,[]),(4,[]),(5,[]),(7,[]),(8,[]),(9,[]),(10,[]),(6,[9,10]),(11,[]),(12,[]),(13,[])]) U U (Wj 2 Z (ah Z Z (ay (v:=nI (i+1)) Z Z<|cI<|aX (by have:=aM I;omega)) Z (wQ 1 Z (ah Z Z (W1 (places:=[(0,1),(1,1)]) (zero:=[D,D]) (cs:=[_,_]) Z) Z<|gx ar Z Z (bN (e:=87) (m:=2) (z:=[D,D]) (cs:=[_,_]) U U U U<|aZ Z Z Z Z bE) (fun _=>Z) (fun O b5 ar=>?_)))));refine Wl ar 3 [4,1] Z Z<|gx ar Z Z (bN (e:=2) (m:=1) (z:=[D]) (cs:=[_]) U U U U<|aZ Z Z Z Z bE) (fun _=>Z) (fun O b6 ar=>?_);replace ar:=ar.pull (.there (.there (.there (.bV<|bu.here (X:=N)))));replace ar:=ar.pull (.bV (.there<|bu.here (X:=[_])));rw[za_] at ar;refine gP (R:=dK) (m:=2) (e:=87) hI2 ar (dn (m:=2) Z (show dK ⟨.ofNat (i+1),.ofNat k⟩ _ from Z)) dK.leaf (by have:=xd (x:=x) (t:=i) (k:=k) h4 E;rw[zc_,lM_];simp only[zc_,List.length_nil];omega) Z Z Z Z Z Z Z Z (fun _=>Z) (fun O ba S hO65 ar=>?_);refine⟨(bj (bx Z Z Z Z Z (W4 Z ar.bG.pop.g0 Z)<|cW _ _)<|bj (oC Z Z Z Z Z (tv (e:=2) (m:=1) (z:=[D]) (cs:=[_]) U U U U<|aZ Z Z Z Z bE) ar.bG.g0<|cP (fe _ _) gf) aT),?_⟩;replace ar:=ar.pull (.bV (.there (.there<|bu.here (X:=Q))));replace ar:=ar.pull (.bV (.bV<|bu.here (X:=[_])));rw[za_] at ar;refine gP (R:=ek) (m:=1) (e:=2) hV2 ar (dn (m:=1) Z (show ek ev.write _ from Z)) ek.leaf (by have:=xd (x:=x) (t:=i) (k:=k) h4 E;rw[zc_,lM_];simp only[zc_,List.length_nil];omega) Z Z Z Z Z Z Z Z (fun _=>Z) (fun O bb T hO70 ar=>?_);refine⟨aT,?_⟩;refine Wi 3 Z (az (We 2 Z (J Z (ay (v:=nI (k+1)) Z Z (cI (aX (by have:=aM u;have:=E _ (gB_ d);omega)))) Z<|Wg 2 Z ?_)));replace ar:=ar.pull (.bV (.bV (.there<|bu.here (X:=[_]))));rw[za_] at ar;replace ar:=ar.pull (.there (.bV<|bu.here (X:=S)));replace ar:=ar.pull (.bV (.there<|bu.here (X:=T)));replace ar:=ar.pull (.bV (.bV (.there<|bu.here (X:=[_]))));rw[za_] at ar;have ar:=ar.pop;refine aD ⟨j6-1,(by have:=aM u;omega),oF,k+1,_,_,S,T,(by have:=aM u;omega),(by rw[xe d A (by show(bif (bif F ev.kind 2 then true else F ev.kind 3) then F ev.loc (.ofNat x) else false)=true;rw[B];rw[show(bif false then true else F ev.kind 3)=F ev.kind 3 from Z,M];exact C),List.map_append];exact hO65),(by rw[xe d A (by show(bif (bif F ev.kind 2 then true else F ev.kind 3) then F ev.loc (.ofNat x) else false)=true;rw[B];rw[show(bif false then true else F ev.kind 3)=F ev.kind 3 from Z,M];exact C),List.map_append];exact hO70),Z,Z,Z,ar⟩
    refine aI (az (We 2 Z (J Z (ay (v:=nI (k+1)) Z Z (cI (aX (by have:=aM u;have:=E _ (gB_ d);omega)))) Z<|Wg 2 Z ?_)));replace ar:=ar.pull (.there (.bV (.bV<|bu.here (X:=[_]))));rw[za_] at ar;replace ar:=ar.pull (.there (.there (.bV<|bu.here (X:=N))));replace ar:=ar.pull (.bV (.there (.there<|bu.here (X:=Q))));replace ar:=ar.pull (.bV (.bV (.there<|bu.here (X:=[_]))));rw[za_] at ar;have ar:=ar.pop;refine aD ⟨j6-1,(by have:=aM u;omega),oF,k+1,u3,u4,N,Q,(by have:=aM u;omega),(by rw[vA d A (by show(bif (bif F ev.kind 2 then true else F ev.kind 3) then F ev.loc (.ofNat x) else false)=false;rw[B];rw[show(bif false then true else F ev.kind 3)=F ev.kind 3 from Z,M];exact C)];exact hI2),(by rw[vA d A (by show(bif (bif F ev.kind 2 then true else F ev.kind 3) then F ev.loc (.ofNat x) else false)=false;rw[B];rw[show(bif false then true else F ev.kind 3)=F ev.kind 3 from Z,M];exact C)];exact hV2),Z,Z,Z,ar⟩
   refine UL 10 Z (We 2 Z (J Z (ay (v:=nI (k+1)) Z Z (cI (aX (by have:=aM u;have:=E _ (gB_ d);omega)))) Z<|Wg 2 Z ?_));replace ar:=ar.pull (.there (.bV (.bV<|bu.here (X:=[_]))));rw[za_] at ar;replace ar:=ar.pull (.there (.there (.bV<|bu.here (X:=N))));replace ar:=ar.pull (.bV (.there (.there<|bu.here (X:=Q))));replace ar:=ar.pull (.bV (.bV (.there<|bu.here (X:=[_]))));rw[za_] at ar;have ar:=ar.pop;refine aD ⟨j6-1,(by have:=aM u;omega),oF,k+1,u3,u4,N,Q,(by have:=aM u;omega),(by rw[vA d A (by show(bif (bif F ev.kind 2 then true else F ev.kind 3) then F ev.loc (.ofNat x) else false)=false;rw[B];rw[show(bif false then true else F ev.kind 3)=F ev.kind 3 from Z,M];rfl)];exact hI2),(by rw[vA d A (by show(bif (bif F ev.kind 2 then true else F ev.kind 3) then F ev.loc (.ofNat x) else false)=false;rw[B];rw[show(bif false then true else F ev.kind 3)=F ev.kind 3 from Z,M];rfl)];exact hV2),Z,Z,Z,ar⟩
  refine UH 3 Z (aN (az (We 2 Z (J Z (ay (v:=nI (i+1)) Z Z<|cI<|aX (by have:=aM I;omega)) Z<|Wg 2 Z ?_))));replace ar:=ar.pull (.bV (.bV<|bu.here (X:=[_])));rw[za_] at ar;replace ar:=ar.pull (.there (.bV<|bu.here (X:=N)));replace ar:=ar.pull (.bV (.there<|bu.here (X:=Q)));refine aD ⟨j3-1,(by have:=aM I;omega),oF,i+1,u3,u4,N,Q,(by have:=aM I;omega),(by rw[<-Fx d,show row.length=k by have:=bK u;omega];exact hI2),(by rw[<-Fx d,show row.length=k by have:=bK u;omega];exact hV2),Z,Z,Z,ar⟩
 refine UH 3 Z<|aN<|Wf 9 Z ?_;exact fN Z Z Z ⟨_,_,_,_,Z,(by rw[IU<|bK I] at hI1;exact hI1),(by rw[IU<|bK I] at hV1;exact hV1),(ar.perm<|Pz ..).pop⟩
theorem PA (A L:List α) (x y z:α):(A++(x::y::z::L)).Perm (x::y::z::(A++L)):=by
 classical
 rw[List.perm_iff_count];intro w;simp only[List.count_append,List.count_cons];omega
def FG (threads:List (List cm)) (x:Nat) (w0:Int):List (bS×Int):=(⟨0,.ofNat x⟩,w0)::(zC threads (.ofNat x)).map fun p=>(p.1,p.2.write)
def E8 (r:bS) (v:Int) (q:bS×Int):Bool:=bif F q.2 v then(bif cC q.1 r then false else true) else false
theorem NC {r:bS} {v:Int} {q:bS×Int} {b:Bool} (h1:F q.2 v=true) (d:(bif cC q.1.ints r.ints then false else true)=b):E8 r v q=b:=by
 unfold E8;rw[bS.same] at d;rw[h1];exact d
theorem Sj {r:bS} {v:Int} {q:bS×Int} (h1:F q.2 v=false):E8 r v q=false:=by
 unfold E8;rw[h1];rfl
theorem Uq {threads:List (List cm)} {x:Nat}:(FG threads x w0).map (·.1)=⟨0,.ofNat x⟩::(zC threads (.ofNat x)).map (·.1):=by unfold FG;rw[List.map_cons,List.map_map];rfl
theorem Ur {threads:List (List cm)} {x:Nat}:(FG threads x w0).map (·.2)=w0::(zC threads (.ofNat x)).map (·.2.write):=by unfold FG;rw[List.map_cons,List.map_map];rfl
theorem Qf {init:List Int} {threads:List (List cm)} {x a k:Nat} {e:cm} (hl:e.loc= .ofNat x) (h0:init[x]? =some w0):((FG threads x w0).filter<|E8 ⟨.ofNat (a+1),.ofNat k⟩ e.read).map (·.1)=kX init threads (⟨.ofNat (a+1),.ofNat k⟩,e):=by
 have u:init.getD e.loc.toNat 0=w0:=by rw[hl,List.getD_eq_getElem?_getD];show(init[x]?).getD 0=w0;rw[h0];rfl
 have hne:cC (⟨0,.ofNat x⟩:bS) ⟨.ofNat (a+1),.ofNat k⟩=false:=mK.2 fun h=>by
  have h1:(0:Int)=((a+1:Nat):Int):=congrArg bS.bH h;omega
 have d:(zC threads e.loc).filter ((E8 ⟨.ofNat (a+1),.ofNat k⟩ e.read) ∘ fun p:bS×cm=>(p.1,p.2.write))=(zC threads e.loc).filter fun w:bS×cm=>bif cC w.1 ⟨.ofNat (a+1),.ofNat k⟩ then false else F w.2.write e.read:=List.filter_congr fun p _=>by
  show(bif F p.2.write e.read then(bif cC p.1 _ then false else true) else false)=(bif cC p.1 _ then false else F p.2.write e.read);cases F p.2.write e.read<;>cases cC p.1 (⟨.ofNat (a+1),.ofNat k⟩:bS)<;>rfl
 unfold kX FG;dsimp only;rw[u,<-hl];cases hv:F w0 e.read with
 | true=>
  rw[List.filter_cons_of_pos (by show(bif F w0 e.read then(bif cC (⟨0,e.loc⟩:bS) _ then false else true) else false)=true;rw[hv,hl,hne];rfl),List.filter_map,List.map_cons,List.map_map,d];rfl
 | false=>
  rw[List.filter_cons_of_neg (by show¬(bif F w0 e.read then(bif cC (⟨0,e.loc⟩:bS) _ then false else true) else false)=true;rw[hv];exact Bool.false_ne_true),List.filter_map,List.map_map,d];rfl
theorem Ag (hG:Plain G) {init:List Int} {threads:List (List cm)} {v0 Q:V} (hi:bO K 1 ek init v0) (ht:bO K 1 (RL K 5 gG) threads v1) (h4:threads.length<=4) (T:∀r∈threads,r.length<=14) (l2:eB Q=true/\cG Q=some [Q]) (l3:eB S=true/\cG S=some [S]) {a k:Nat} {row:List cm} {e:cm} (C:threads[a]? =some row) (a9:row[k]? =some e) {x:Nat} (hl:e.loc= .ofNat x) (hx:init[x]? =some w0) (ar:H O K L):
  EC G 58 [.agg [v0,v1,Q,S],.agg [nI (a+1),nI k]] O fun v O'=>∃M,cy 2 87 dK (kX init threads (⟨.ofNat (a+1),.ofNat k⟩,e)) v M/\H O' K (M++L):=by
 refine V9 hG Tryz.func58 Z<|Vw 2 Z<|kb ar (cH Z Z) (fun O b1 ar=>?_);refine kb ar (cH Z Z) (fun O b2 ar=>?_);refine UJ 4 Z (aL (l:=zp [0,1,2,3,4,5,6,7,8,9,10,11,12]) U U (Wl ar 4 [1,1,0,0] Z Z (ah Z Z (ay (v:=nI a) Z Z (cI (fD (by have:=(gA.1 C).1;omega)))) Z<|WW (e:=25) (m:=1) ht C Z Z Z Z Z (fun bs bd W be aa=>?_))));have hr15':=aa;obtain⟨bt,rfl,ab⟩:=hr15';refine ah Z Z (W7 ar W Z Z) Z<|Wl ar 2 [1,0] Z Z<|WW (e:=38) (m:=5) ab a9 Z Z Z Z Z (fun bv bf ac bg am=>?_);obtain rfl:=am;refine ah Z Z (W8 ar ac Z Z) Z<|pC ar Z Z (W6 (cs:=[D,D,D,D,D])) (fun _=>Z) (fun O b3 ar=>?_);refine ia ar Z Z (Xb Z Z Z ar.g0 Z) Z (fun O ar=>?_);refine⟨aT,?_⟩;refine VB 2 Z<|Vw 2 Z<|J Z (Xd Z (ar.get 2 Z) Z) Z<|Wk ar 2 [1,0] Z Z<|kw (W2 Z Z Z) (by rw[show(V.int .i64 e.loc)=nI x from by rw[hl]];exact xy hG hi ht h4 T l2 l3 hx ar) ?_;rintro _ O ⟨u1,u2,M1,M2,rfl,hI,hV,ar⟩;rw[<-Uq (w0:=w0)] at hI;rw[<-Ur] at hV;obtain⟨K1,ao,E,ar⟩:=ar.bF (M:=M2);obtain⟨K2,I,A,ar⟩:=ar.bF (M:=M1);have hv2:=(hV.fg (K:=K1) E).mono I fun _ _ h=>h;have hi1:=hI.fg (K:=K2) A;have hle:=KP.le_trans ao I;clear E A
 have bw:(FG threads x w0).length<=100:=by unfold FG;rw[zc_,lM_];have:=Dj (loc:=.ofNat x) h4 T;omega
 refine TD 19 Z (bk ([8,9]++rg 28 28) (fun j t O=>∃(i:Nat) (u:V) (M:Own),j+i=(FG threads x w0).length/\cy 2 87 dK ((((FG threads x w0).take i).filter<|E8 ⟨.ofNat (a+1),.ofNat k⟩ e.read).map (·.1)) u M/\t.get 8=some (u)/\t.get 9=some (nI i)/\H O K2 (M++((b3,.row [.int .i64 e.kind,.int .i64 e.loc,.int .i64 e.order,.int .i64 e.read,.int .i64 e.write] 38 false)::(b2,.row [nI (a+1),nI k] 87 false)::(b1,.row [v0,v1,Q,S] 52 false)::L))) ((FG threads x w0).length) ⟨0,.av,[],Z,cy.nil,Z,Z,ar⟩ ?_)
 clear ar;intro j5 t O ak hI;obtain⟨i,u,M,bD,hO,ba,bb,ar⟩:=hI;obtain⟨oo,rfl⟩:=ak.q2 ba bb Z;refine UE 5 Z<|J Z (W5 hi1 Z Z Z (e:=87) Z) Z<|Vy 3 Z<|aG Z (fun d=>?_) (fun d=>?_)
 ·refine SE 5 Z<|aL (l:=zp [0,1,2,3,4,5,6,7,8,9,10,11,12,13,14]) U U ?_;obtain⟨q,hq⟩:=dc (show i<(FG threads x w0).length by have:=aM d;rw[lM_] at this;exact this);have ap:((FG threads x w0).map (·.1))[i]? =some q.1:=by rw[gM_,hq];rfl
  have bc:((FG threads x w0).map (·.2))[i]? =some q.2:=by rw[gM_,hq];rfl
  refine Wj 2 Z<|WW (e:=2) (m:=1) hv2 bc Z Z Z Z Z (fun bH bi aE bl a0=>?_);obtain rfl:=a0;refine ah Z Z (W7 ar aE Z Z) Z<|ah Z Z (W3 3 Z) Z<|ah Z Z (W4 Z ar.bG.g0 Z) Z<|wQ 1 Z<|e8 Z Z (an Z) (fun _=>Z) (fun B=>?_) (fun B=>?_)
  ·refine Wj 2 Z<|WW (e:=87) (m:=2) hi1 ap Z Z Z Z Z (fun b0 bm a1 bo a2=>?_);obtain rfl:=a2;refine ah Z Z (W8 ar a1 Z Z) Z<|ah Z Z (Xc Z ar.bG.pop.g0 Z) Z<|ah Z Z (zH (n:=2) (ca:=[_,_]) (cb:=[_,_]) U Z Z Z Z) Z<|VB 3 Z<|aG Z (fun N=>?_) (fun N=>?_)
   ·refine We 4 Z<|WV (e:=87) (m:=2) hi1 ap Z Z Z Z (fun b5 bp a3 bq a4=>?_);obtain rfl:=a4;refine J Z (W8 ar a3 Z Z) Z<|fh ar Z (bN (e:=87) (m:=2) (z:=[D,D]) (cs:=[_,_]) U U U U<|aZ Z Z Z Z bE) (fun _=>Z) (fun O b4 ar=>?_);replace ar:=ar.pull (.there<|bu.here (X:=M));replace ar:=ar.pull (.bV<|bu.here (X:=[_]));rw[za_] at ar;refine fw (R:=dK) (m:=2) (e:=87) hO ar (dn (m:=2) Z Z) dK.leaf (by have h1:=List.length_filter_le (E8 ⟨.ofNat (a+1),.ofNat k⟩ e.read) ((FG threads x w0).take i);rw[lT_] at h1;rw[lM_];simp only[zc_,List.length_nil];omega) Z Z Z Z Z Z Z (fun _=>Z) (fun O b6 a5 hO55 ar=>?_);refine Wg 2 Z (az (We 2 Z (J Z (ay (v:=nI (i+1)) Z Z<|cI<|aX (by have:=aM d;rw[lM_] at this;omega)) Z<|Wg 2 Z ?_)));replace ar:=ar.pull (.bV (.there (.there<|bu.here (X:=[_]))));rw[za_] at ar;replace ar:=ar.pull (.there (.bV (.there<|bu.here (X:=[_]))));rw[za_] at ar;replace ar:=ar.pull (.there (.there (.bV<|bu.here (X:=[_]))));rw[za_] at ar;replace ar:=ar.pull (.there (.there (.there<|bu.here (X:=a5))));refine aD ⟨j5-1,(by have:=aM d;rw[lM_] at this;omega),oF,i+1,_,a5,(by have:=aM d;rw[lM_] at this;omega),(by rw[sP hq (NC (q:=q) (r:=⟨.ofNat (a+1),.ofNat k⟩) B N),List.map_append];exact hO55),Z,Z,ar⟩
   refine aI (az (We 2 Z (J Z (ay (v:=nI (i+1)) Z Z<|cI<|aX (by have:=aM d;rw[lM_] at this;omega)) Z<|Wg 2 Z ?_)));replace ar:=ar.pull (.bV (.there (.there<|bu.here (X:=[_]))));rw[za_] at ar;replace ar:=ar.pull (.there (.bV (.there<|bu.here (X:=[_]))));rw[za_] at ar;replace ar:=ar.pull (.there (.there (.bV<|bu.here (X:=[_]))));rw[za_] at ar;replace ar:=ar.pull (.there (.there (.there<|bu.here (X:=M))));refine aD ⟨j5-1,(by have:=aM d;rw[lM_] at this;omega),oF,i+1,u,M,(by have:=aM d;rw[lM_] at this;omega),(by rw[lT hq (NC (q:=q) (r:=⟨.ofNat (a+1),.ofNat k⟩) B N)];exact hO),Z,Z,ar⟩
  refine VB 10 Z (aI (az (We 2 Z (J Z (ay (v:=nI (i+1)) Z Z<|cI<|aX (by have:=aM d;rw[lM_] at this;omega)) Z<|Wg 2 Z ?_))));replace ar:=ar.pull (.bV (.there (.there<|bu.here (X:=[_]))));rw[za_] at ar;replace ar:=ar.pull (.there (.bV (.there<|bu.here (X:=[_]))));rw[za_] at ar;replace ar:=ar.pull (.there (.there (.bV<|bu.here (X:=[_]))));rw[za_] at ar;replace ar:=ar.pull (.there (.there (.there<|bu.here (X:=M))));refine aD ⟨j5-1,(by have:=aM d;rw[lM_] at this;omega),oF,i+1,u,M,(by have:=aM d;rw[lM_] at this;omega),(by rw[lT hq<|Sj (q:=q) B];exact hO),Z,Z,ar⟩
 refine UH 3 Z<|aN<|Wf 7 Z ?_;exact aA Z Z ⟨_,(by rw[<-Qf hl hx,<-tL_ (l:=FG threads x w0) (i:=i) (by have:=bK d;rw[lM_] at this;exact this)];exact hO),((ar.perm<|PA ..).pop.pop.pop).weaken hle⟩
theorem xw {threads:List (List cm)} {i:Nat} {r:bS×cm} (h:(iB threads)[i]? =some r):∃(a k:Nat) (row:List cm),r.1=⟨.ofNat (a+1),.ofNat k⟩/\threads[a]? =some row/\row[k]? =some r.2/\cz r.2=true:=by
 have hm:=List.mem_filter.1 (gB_ h);obtain⟨t,k,row,h1,d,u⟩:=Gg hm.1;exact⟨t,k,row,h1,d,u,hm.2⟩
theorem Tn {p:Nat}:(bif dH (.ofNat p) 16385 then Int.ofNat p else 16385)= .ofNat (min p 16385):=by
 cases h:dH (.ofNat p) 16385 with
 | true=>
  have h:=aM (b:=16385) h;rw[Nat.min_eq_left oM];rfl
 | false=>
  have h:=bK (b:=16385) h;rw[Nat.min_eq_right oM];rfl
theorem yT {init:List Int} {threads:List (List cm)}:(eO init threads).length=init.length:=by rw[zD];exact nv
theorem LB {w c S:Nat} (h1:c<=w-1) (h2:w<=c+1) (hS:S<=16385):dI (dP (c+1)) S=dI (dP w) S:=by
 cases w with
 | zero=>
  obtain rfl:c=0:=by omega
  show min (S*1) 16385=S;omega
 | succ w=>rw[show c=w by omega]
theorem OH (hG:Plain G) {init:List Int} {threads:List (List cm)} {v0 T:V} (hi:bO K 1 ek init v0) (ht:bO K 1 (RL K 5 gG) threads v1) (hE:fX init threads=0) (l2:eB S=true/\cG S=some [S]) (l3:eB T=true/\cG T=some [T]) (ar:H O K L):
  EC G 20 [.agg [v0,v1,S,T]] O fun v O'=>v=nI (lP (dR init threads)<|eO init threads)/\∃K',KP.le K K'/\H O' K' L:=by
 obtain⟨h6,h4,B,N⟩:=oO hE;have hrl:=Nh h4 B;refine V9 hG Tryz.func20 Z<|Vw 2 Z<|kb ar (cH Z Z) (fun O b1 ar=>?_);refine UK 10 Z<|J Z (Xd Z ar.g0 Z) Z<|kw (W2 Z Z Z) (HF hG ht h4 B ⟨hi.leaf.2,hi.leaf.1⟩ l2 l3 ar) ?_;rintro bd O ⟨ao,hM11,ar⟩;obtain⟨K1,A,Q,ar⟩:=ar.bF (M:=ao);have hrd:=hM11.fg (K:=K1) Q;clear Q;have hi1:=hi.mono A fun _ _ h=>h;have ht1:=ht.mono A fun _ _ h=>h.mono A
 refine TD 10 Z (bk ([3,5]++rg 12 16) (fun j t O=>∃(i:Nat) (W:KP),j+i=(iB threads).length/\KP.le K1 W/\t.get 3=some (.int .i64 (.ofNat<|dI (((iB threads).take i).map fun r=>(kX init threads r).length) 1))/\t.get 5=some (nI i)/\H O W ((b1,.row [v0,v1,S,T] 52 false)::L)) ((iB threads).length) ⟨0,K1,Z,KP.le_refl _,Z,Z,ar⟩ ?_);clear ar;intro j4 t O ak X;obtain⟨i,W,be,d,I,ap,ar⟩:=X;obtain⟨oo,rfl⟩:=ak.q2 I ap Z;have hi2:=hi1.mono d fun _ _ h=>h;have ht2:=ht1.mono d fun _ _ h=>h.mono d;have hrd2:=hrd.mono d fun _ _ h=>h
 refine UE 5 Z<|J Z (W5 hrd2 Z Z Z (e:=87) Z) Z<|Vy 3 Z<|aG Z (fun C=>?_) (fun C=>?_)
 ·refine TC 4 Z<|aL (l:=zp [0,1,2,3,4,5,6,7,8,9,10]) U U ?_;obtain⟨r,hr⟩:=dc (show i<(iB threads).length by have:=aM C;rw[lM_] at this;exact this);have aE:((iB threads).map (·.1))[i]? =some r.1:=by rw[gM_,hr];rfl
  refine wQ 1 Z<|ah Z Z (Xd Z ar.g0 Z) Z<|Wj 2 Z<|WW (e:=87) (m:=2) hrd2 aE Z Z Z Z Z (fun bf ba aa bb ab=>?_);obtain rfl:=ab;refine ah Z Z (W8 ar aa Z Z) Z ?_;obtain⟨a,k,row,ac,R,am,a0⟩:=xw hr;obtain⟨x,hl,a1⟩:=Cr (N _ (gB_ R) _<|gB_ am) (s6 a0);obtain⟨w0,hx⟩:=dc a1;refine ed Z Z (W2 Z Z Z) (fun _=>Z) (by rw[show(V.agg<|ints r.1.ints)= .agg [nI (a+1),nI k] from by rw[ac];rfl];exact Ag hG hi2 ht2 h4 B l2 l3 R am hl hx ar) ?_;rintro bg O ⟨bi,hM24,ar⟩;refine⟨aT,?_⟩;replace ar:=ar.bG;have a2:kX init threads (⟨.ofNat (a+1),.ofNat k⟩,r.2)=kX init threads r:=by rw[<-ac]
  rw[a2] at hM24;have a3:(kX init threads r).length<=1000:=w8 h4 B _ (List.mem_map_of_mem<|gB_ hr);refine ah Z Z (Dn hM24 Z Z Z (e:=87) U Z) Z (ah Z Z (ay (v:=.int .i64 (.ofNat ((dI (((iB threads).take i).map fun r=>(kX init threads r).length) 1)*(kX init threads r).length))) Z Z (cI (Dk (by have h1:(dI (((iB threads).take i).map fun r=>(kX init threads r).length) 1)<=16385:=gk (by decide);have h2:=Nat.mul_le_mul h1 a3;omega)))) Z<|ah Z Z (IW Z Z Z Z) Z<|Wi 2 Z<|az<|Wd 5 Z ?_);refine aD ⟨j4-1,(by have:=aM C;rw[lM_] at this;omega),oF,i+1,W,(by have:=aM C;rw[lM_] at this;omega),d,cI<|Tn.trans<|congrArg Int.ofNat (show min ((dI (((iB threads).take i).map fun r=>(kX init threads r).length) 1)*(kX init threads r).length) 16385=dI (((iB threads).take (i+1)).map fun r=>(kX init threads r).length) 1 from by rw[e6 hr,List.map_append];exact rE.symm),cI<|aX (by have:=aM C;rw[lM_] at this;omega),ar⟩
 refine UH 3 Z (aN (UD 7 Z (bk ([3]++rg 6 4++rg 28 23) (fun j t O=>∃(x:Nat),j+x=init.length/\t.get 3=some (.int .i64 (.ofNat<|dI (((eO init threads).take x).flatMap fun w=>dP w.length)<|dI ((dR init threads).map List.length) 1))/\t.get 6=some (nI x)/\H O W ((b1,.row [v0,v1,S,T] 52 false)::L)) (init.length) ⟨0,Z,(congrArg (fun z=>some (V.int .i64 (.ofNat z))) (show(dI (((iB threads).take i).map fun r=>(kX init threads r).length) 1)=dI ((dR init threads).map List.length) 1 from by rw[tL_ (by have:=bK C;rw[lM_] at this;exact this)];unfold dR;rw[List.map_map];rfl)),Z,ar⟩ ?_)));clear ar;intro j8 t O ak X;obtain⟨x,bl,I,a4,ar⟩:=X;obtain⟨oo,rfl⟩:=ak.q2 I a4 Z;refine UO ar 6 [0,0] Z Z<|J Z (W5 hi Z Z Z (e:=2) Z) Z<|Vy 3 Z<|aG Z (fun u=>?_) (fun u=>?_)
 ·refine SF 6 Z<|J Z (Xd Z ar.g0 Z) Z<|vQ 1 Z ?_;obtain⟨w0,hx⟩:=dc (show x<init.length from aM u);refine kw (W2 Z Z Z) (xy hG hi2 ht2 h4 B l2 l3 hx ar) ?_;rintro _ O ⟨u1,u2,M1,M2,rfl,X,hV,ar⟩;replace ar:=ar.bG.bG;have hwl:=Dj (loc:=.ofNat x) h4 B;have hS2:(dI (((eO init threads).take x).flatMap fun w=>dP w.length)<|dI ((dR init threads).map List.length) 1)<=16385:=gk (gk (by decide));refine UI 13 Z (bk ([3,9]++rg 41 10) (fun j t O=>∃(c:Nat),j+c=(zC threads (.ofNat x)).length-1/\t.get 3=some (.int .i64 (.ofNat<|dI (dP (c+1))<|dI (((eO init threads).take x).flatMap fun w=>dP w.length)<|dI ((dR init threads).map List.length) 1))/\t.get 9=some (nI (c+2))/\H O W ((b1,.row [v0,v1,S,T] 52 false)::L)) ((zC threads (.ofNat x)).length-1) ⟨0,Nat.add_zero _,(congrArg (fun z=>some (V.int .i64 (.ofNat z))) (show(dI (((eO init threads).take x).flatMap fun w=>dP w.length)<|dI ((dR init threads).map List.length) 1)=min ((dI (((eO init threads).take x).flatMap fun w=>dP w.length)<|dI ((dR init threads).map List.length) 1)*1) 16385 from by omega)),Z,ar⟩ ?_);clear ar;intro a5 t O ak X;obtain⟨c,bc,I,a9,ar⟩:=X;obtain⟨oo,rfl⟩:=ak.q2 I a9 Z;refine UE 5 Z<|J Z (Dn X Z Z Z (e:=87) U Z) Z<|Vy 3 Z<|aG Z (fun E=>?_) (fun E=>?_)
  ·refine TC 4 Z (We 3 Z (J Z (ay (v:=.int .i64 (.ofNat (dI (dP (c+1)) (dI (((eO init threads).take x).flatMap fun w=>dP w.length)<|dI ((dR init threads).map List.length) 1)*(c+2)))) Z Z (cI (Dk (by have h1:dI (dP (c+1)) (dI (((eO init threads).take x).flatMap fun w=>dP w.length)<|dI ((dR init threads).map List.length) 1)<=16385:=gk hS2;have h3:c+2<=100:=(by have:=aM E;simp only[zc_,lM_] at this;omega);have h2:=Nat.mul_le_mul h1 h3;omega)))) Z<|J Z (IW Z Z Z Z) Z<|Wg 2 Z<|az<|Wd 5 Z ?_));refine aD ⟨a5-1,(by have:=aM E;simp only[zc_,lM_] at this;omega),oF,c+1,(by have:=aM E;simp only[zc_,lM_] at this;omega),cI<|Tn.trans<|congrArg Int.ofNat (show min (dI (dP (c+1)) (dI (((eO init threads).take x).flatMap fun w=>dP w.length)<|dI ((dR init threads).map List.length) 1)*(c+2)) 16385=dI (dP (c+1+1)) (dI (((eO init threads).take x).flatMap fun w=>dP w.length)<|dI ((dR init threads).map List.length) 1) from by rw[oS (c+1),rE]),cI<|aX (by have:=aM E;simp only[zc_,lM_] at this;omega),ar⟩
  refine UH 3 Z<|aN<|az<|Wd 5 Z ?_;refine aD ⟨j8-1,(by have:=aM u;omega),oF,x+1,(by have:=aM u;omega),(congrArg (fun z=>some (V.int .i64 (.ofNat z))) (show dI (dP (c+1)) (dI (((eO init threads).take x).flatMap fun w=>dP w.length)<|dI ((dR init threads).map List.length) 1)=dI (((eO init threads).take (x+1)).flatMap fun w=>dP w.length) (dI ((dR init threads).map List.length) 1) from by rw[tI<|Dm<|aM u,mL,lM_];exact LB oM (by have:=bK E;simp only[zc_,lM_] at this;omega) hS2)),cI<|aX (by have:=aM u;omega),ar⟩
 refine UH 3 Z<|aN<|Wf 7 Z ?_;exact aA Z Z ⟨(by rw[tL_ (by rw[yT];exact bK u)];rfl),W,KP.le_trans A d,ar.pop⟩
def GG {α:Type} (n:Nat) (l:List α) (i:Nat):List (List α):=match l[i]? with
 | some x=>(gM n (l.take i++l.drop (i+1))).map (x::·)
 | none=>[]
theorem GH {n:Nat} {l:List α}:gM (n+1) l=(List.range l.length).flatMap (GG n l):=rfl
theorem Cw {n i:Nat} {l:List α} {x:α} (h:l[i]? =some x):GG n l i=(gM n (l.take i++l.drop (i+1))).map (x::·):=by unfold GG;rw[h]
theorem tW {l:List α} {i n:Nat} (h:i<l.length) (hl:l.length=n+1):(l.take i++l.drop (i+1)).length=n:=by
 rw[lA_,lT_,lD_];omega
def LA:Nat->Nat
 | 0=>1
 | n+1=>(n+1)*LA n
theorem CW {f:Nat->Nat} {c:Nat}:∀k,(∀i,i<k->f i<=c)->((List.range k).map f).sum<=k*c
 | 0,_=>Nat.zero_le _
 | k+1,h=>by
  rw[List.range_succ,List.map_append,List.sum_append];have h1:=CW (f:=f) (c:=c) k fun i hi=>h i oM
  have h2:=h k oM;show _+(f k+0)<=_;rw[Nat.succ_mul];omega
theorem qv {α:Type}:∀(n:Nat) (l:List α),l.length=n->(gM n l).length<=LA n
 | 0,_,_=>nR_ 1
 | n+1,l,hl=>by
  rw[GH,List.length_flatMap,hl];refine CW (n+1) fun i hi=>?_
  obtain⟨x,hx⟩:=dc (show i<l.length by omega);rw[Cw hx,lM_];exact qv n _<|tW oM hl
theorem Cc:∀{n:Nat},n<=7->LA n<=5040
 | 0,_ | 1,_ | 2,_ | 3,_ | 4,_ | 5,_ | 6,_ | 7,_=>by decide
 | n+8,h=>absurd h oM
theorem O6 {n i:Nat} {l:List α} (hl:l.length=n+1) (hi:i<=n+1) (hn:n<=7):((List.range i).flatMap<|GG n l).length<=8*5040:=by
 rw[List.length_flatMap];refine Nat.le_trans (CW (c:=5040) i fun k hk=>?_)<|nM_ _ oM;obtain⟨x,hx⟩:=dc (show k<l.length by omega);rw[Cw hx,lM_];exact Nat.le_trans (qv n _<|tW oM hl)<|Cc hn
variable {q:Nat}
theorem tQ {α:Type}:∀(n:Nat) (l:List α),∀p∈gM n l,p.length<=n
 | 0,_,p,h=>by rw[List.mem_singleton.1 h];exact nR_ _
 | n+1,l,p,h=>by
  rw[GH] at h;obtain⟨i,_,h⟩:=List.mem_flatMap.1 h;unfold GG at h;cases hx:l[i]? with
  | none=>rw[hx] at h;cases h
  | some x=>
   rw[hx] at h;obtain⟨r,d,rfl⟩:=zn_.1 h;have:=tQ n _ r d;rw[zc_];omega
theorem ED {n:Nat} {l p:List α} {P:List (List α)} (d:gM n l=P) (h:P[q]? =some p):p.length<=n:=by
 subst d;exact tQ n l p<|gB_ h
theorem KV (hG:Plain G):∀(n:Nat) (K:KP) (l:List bS) (v:V) (O:aB) (L:Own),n<=7->l.length=n->bO K 2 dK l v->H O K L->
  EC G 63 [v] O fun u O'=>∃K',KP.le K K'/\bO K' 1 (RL K' 2 dK) (gM n l) u/\H O' K' L:=by
 intro n;induction n with
 | zero=>
  intro K l v O L hn C hl ar;obtain rfl:=eN_ C;refine V9 hG Tryz.func63 Z<|UE 9 Z<|J Z (W5 hl Z Z Z (e:=87) Z) Z<|Vy 3 Z<|aG Z (fun I=>?_) (fun I=>?_)
  ·refine Vw 2 Z<|fh ar Z (bN (e:=87) (m:=2) (z:=[D,D]) (cs:=[]) U U U U bE) (fun _=>Z) (fun O b1 ar=>?_);have hE1:cy 2 87 dK [] (.slice b1 0 0 (.known 0)) [(b1,.row [] 87 false)]:=cy.empty;replace ar:H O _ ([(b1,.row [] 87 false)]++_):=ar;refine fh ar Z (bN (e:=42) (m:=1) (z:=[.av]) (cs:=[_]) U U U U<|aZ Z Z hE1.leaf.1 Z bE) (fun _=>Z) (fun O b2 ar=>?_);refine UM 5 Z ?_;obtain⟨K1,am,d,ar⟩:=ar.bF (M:=[_,_]);exact aA Z Z ⟨K1,am,wN (R:=RL K1 2 dK) (m:=1) Z ⟨_,Z,hE1.fg fun e he=>d e (.tail _ he)⟩<|d _ (.head _),ar⟩
  exact absurd I (by decide)
 | succ n ih=>
  intro K l v O L hn C hl ar;have bl:l.length<=8:=by omega
  refine V9 hG Tryz.func63 Z<|UE 9 Z<|J Z (W5 hl Z Z Z (e:=87) Z) Z<|Vy 3 Z<|aG Z (fun I=>?_) (fun I=>?_)
  ·exact absurd (iJ_<|Lm I) (by rw[C];exact Nat.succ_ne_zero n)
  refine TC 14 Z<|bk (rg 3 5++rg 13 37) (fun j t O=>∃(i:Nat) (K2:KP) (u:V) (M:Own),j+i=l.length/\KP.le K K2/\cy 1 42 (RL K2 2 dK) ((List.range i).flatMap<|GG n l) u M/\t.get 3=some (u)/\t.get 4=some (nI i)/\H O K2 (M++L)) (l.length) ⟨0,K,.av,[],Z,KP.le_refl _,cy.nil,Z,Z,ar⟩ ?_;clear ar;intro j5 t O ak hI;obtain⟨i,K2,u,M,bm,N,hO,ab,a5,ar⟩:=hI;obtain⟨oo,rfl⟩:=ak.q2 ab a5 Z;have hl2:=hl.mono N fun _ _ h=>h
  refine UE 5 Z<|J Z (W5 hl2 Z Z Z (e:=87) Z) Z<|Vy 3 Z<|aG Z (fun A=>?_) (fun A=>?_)
  ·refine SE 5 Z<|aL (l:=zp [0,1,2,3,5,6,7,8,4,9,10]) U U<|gx ar Z Z (bN (e:=87) (m:=2) (z:=[D,D]) (cs:=[]) U U U U bE) (fun _=>Z) (fun O b1 ar=>?_);have hE1:cy 2 87 dK [] (.slice b1 0 0 (.known 0)) [(b1,.row [] 87 false)]:=cy.empty;replace ar:H O _ ([(b1,.row [] 87 false)]++_):=ar;refine Wj 2 Z<|JY (e:=87) (m:=2) (k:=i) hl2 (by have:=aM A;omega) Z Z Z U U Z Z (fun _=>Z) (fun bo ao=>?_);refine Wj 2 Z (ah Z Z (ay (v:=nI (i+1)) Z Z<|cI<|aX (by have:=aM A;omega)) Z (wc (e:=87) (m:=2) (k:=(i+1)) hl2 (by have:=aM A;omega) Z Z Z U U Z Z (fun _=>Z) (fun bp ap=>?_)));refine qx (R:=dK) (m:=2) (e:=87) hE1 ar ao dK.leaf (by show 0+_<=_;rw[lT_];omega) Z Z Z Z Z Z Z Z (fun _=>Z) (fun O bq bs hO23 ar=>?_);refine⟨aT,?_⟩;refine qx (R:=dK) (m:=2) (e:=87) hO23 ar ap dK.leaf (by rw[lA_,lT_,lD_];show 0+_+_<=_;omega) Z Z Z Z Z Z Z Z (fun _=>Z) (fun O aE M28 hO28 ar=>?_);refine⟨aT,?_⟩;refine VB 3 Z<|Vw 3 Z ?_;obtain⟨x,hx⟩:=dc (show i<l.length from aM A);replace hO28:cy 2 87 dK (l.take i++l.drop (i+1)) aE M28:=hO28;obtain⟨K3,Q,d,ar⟩:=ar.bF (M:=M28);have hs28:=hO28.fg (K:=K3) d;clear d;refine kw (W2 Z Z Z) (ih K3 (l.take i++l.drop (i+1)) aE _ _ oM (tW (aM A) C) hs28 ar) ?_;rintro bt O ⟨K4,S,T,ar⟩;have hl4:=hl2.mono (KP.le_trans Q S) fun _ _ h=>h;have hO4:=hO.fS (R':=RL K4 2 dK) fun _ _ h=>h.mono (KP.le_trans Q S)
   obtain⟨P,hP⟩:∃P,gM n (l.take i++l.drop (i+1))=P:=⟨_,Z⟩;rw[hP] at T;have bv:P.length<=5040:=by rw[<-hP];exact Nat.le_trans (qv n _<|tW (aM A) C)<|Cc oM
   have hfl:=O6 (i:=i) C (by have:=aM A;omega) oM;refine UI 9 Z<|bk ([3,7]++rg 31 19) (fun j t O=>∃(q:Nat) (K5:KP) (u5:V) (M5:Own),j+q=P.length/\KP.le K4 K5/\cy 1 42 (RL K5 2 dK) (((List.range i).flatMap<|GG n l)++(P.take q).map (x::·)) u5 M5/\t.get 3=some (u5)/\t.get 7=some (nI q)/\H O K5 (M5++L)) (P.length) ⟨0,K4,u,M,Z,KP.le_refl _,(by show cy 1 42 _ (_++[]) _ _;rw[zk_];exact hO4),Z,Z,ar⟩ ?_
   clear ar;intro a9 t O ak hI;obtain⟨q,K5,u5,M5,bd,B,hO5,ab,ba,ar⟩:=hI;obtain⟨oo,rfl⟩:=ak.q2 ab ba Z;have hl5:=hl4.mono B fun _ _ h=>h;have hs5:=T.mono B fun _ _ h=>h.mono B
   refine UE 5 Z<|J Z (W5 hs5 Z Z Z (e:=42) Z) Z<|Vy 3 Z<|aG Z (fun E=>?_) (fun E=>?_)
   ·refine TC 4 Z<|aL (l:=zp [0,1,2,3,4,5,6,7,8,9,10,11,12,13]) U U ?_;obtain⟨pq,ac⟩:=dc (show q<P.length from aM E);refine Wj 3 Z<|WW (e:=87) (m:=2) hl5 hx Z Z Z Z Z (fun bw be a0 bf a1=>?_);obtain rfl:=a1;refine ah Z Z (W8 ar a0 Z Z) Z<|gx ar Z Z (bN (e:=87) (m:=2) (z:=[D,D]) (cs:=[_,_]) U U U U<|aZ Z Z Z Z bE) (fun _=>Z) (fun O b2 ar=>?_);refine Wj 2 Z<|WW (e:=42) (m:=1) hs5 ac Z Z Z Z Z (fun bD bg a2 bi a3=>?_);have hr45':=a3;obtain⟨b0,rfl,a4⟩:=hr45';refine ah Z Z (W7 ar a2 Z Z) Z ?_;have hT:cy 2 87 dK [x] (.slice b2 0 1 (.known 1)) [(b2,.row [.int .i64 x.bH,.int .i64 x.index] 87 false)]:=Cy (x:=x) (vs:=[.int .i64 x.bH,.int .i64 x.index]) Z Z;have b4:pq.length<=1000:=by have:=ED hP ac;omega
    refine qx (R:=dK) (m:=2) (e:=87) hT (show H _ _ ([_]++_) from ar) a4 dK.leaf (by show 1+_<=_;omega) Z Z Z Z Z Z Z Z (fun _=>Z) (fun O bb M47 hO47 ar=>?_);refine⟨aT,?_⟩;replace hO47:cy 2 87 dK (x::pq) bb M47:=hO47;obtain⟨K6,W,d,ar⟩:=ar.bF (M:=M47);have hs47:=hO47.fg (K:=K6) d;clear d;have hO6:=hO5.fS (R':=RL K6 2 dK) fun _ _ h=>h.mono W
    refine gx ar Z Z (bN (e:=42) (m:=1) (z:=[.av]) (cs:=[_]) U U U U<|aZ Z Z hs47.leaf.1 Z bE) (fun _=>Z) (fun O b3 ar=>?_);replace ar:=ar.pull (.there<|bu.here (X:=M5));replace ar:=ar.pull (.bV<|bu.here (X:=[_]));rw[za_] at ar;refine gP (R:=RL K6 2 dK) (m:=1) (e:=42) hO6 ar (dn (m:=1) Z (show RL K6 2 dK (x::pq) _ from⟨_,Z,hs47⟩)) z8 (by rw[lA_,lM_,lT_];simp only[zc_,List.length_nil];omega) Z Z Z Z Z Z Z Z (fun _=>Z) (fun O b5 bc hO49 ar=>?_);refine⟨aT,?_⟩;refine Wi 2 Z (az (We 2 Z (J Z (ay (v:=nI (q+1)) Z Z<|cI<|aX (by have:=aM E;omega)) Z<|Wg 2 Z<|aD ⟨a9-1,(by have:=aM E;omega),oF,q+1,K6,_,bc,(by have:=aM E;omega),KP.le_trans B W,(by rw[e6 ac,List.map_append,<-lQ_];exact hO49),Z,Z,ar⟩)))
   refine UH 3 Z (aN (az (We 2 Z (J Z (ay (v:=nI (i+1)) Z Z<|cI<|aX (by have:=aM A;omega)) Z<|Wg 2 Z<|aD ⟨j5-1,(by have:=aM A;omega),oF,i+1,K5,u5,M5,(by have:=aM A;omega),KP.le_trans N<|KP.le_trans Q<|KP.le_trans S B,(by rw[List.range_succ,List.flatMap_append,List.flatMap_singleton,Cw hx,hP,<-tL_ (bK E)];exact hO5),Z,Z,ar⟩))))
  refine UH 3 Z<|aN<|Wf 7 Z ?_;have hO7:cy 1 42 (RL K2 2 dK) (gM (n+1) l) u M:=by rw[GH,<-(show i=l.length by have:=bK A;omega)];exact hO
  obtain⟨K7,aa,d,ar⟩:=ar.bF (M:=M);exact aA Z Z ⟨K7,KP.le_trans N aa,(hO7.fS (R':=RL K7 2 dK) fun _ _ h=>h.mono aa).fg d,ar⟩
theorem rz (T:Plain G) {n:Nat} (hn:n<=64) {R:Rn} {v:V} (h:bO K 1 RU (bC n R) v) (ar:H O K L):
  Ca G K L 201 [.agg [nI n,v]] O <| .int .i64 0:=by
 have hlen:=bQ n R;refine V9 T Tryz.func201 Z<|Vw 2 Z<|kb ar (cH Z Z) (fun O b1 ar=>?_);refine TF ar 9 [0,0] Z Z<|ky Z (an Z) (fun S=>?_) (fun S=>?_)
 ·exact Bool.noConfusion (show false=true from S)
 refine Wk ar 4 [0,0] Z Z<|ky Z (an Z) (fun A=>?_) (fun A=>?_)
 ·exact absurd (aM (a:=64) (b:=n) A) oM
 refine Wk ar 2 [1,0] Z Z<|J Z (W5 h Z Z Z (e:=144) Z) Z<|VF ar 6 [0,0] Z Z<|aG Z (fun B=>?_) (fun B=>?_)
 ·exact absurd B (by rw[hlen,fR];decide)
 refine TC 9 Z ?_;obtain⟨LL1,ar,hLL1⟩:=ar.named;refine bk ([2,3,4]++rg 21 22) (fun j t O=>∃(i:Nat),j+i=n/\t.get 3=some (nI i)/\H O K LL1) (n) ⟨0,Z,Z,ar⟩ ?_;clear ar;intro W t O ak M;obtain⟨i,ac,N,ar⟩:=M;subst hLL1;obtain⟨oo,rfl⟩:=ak.q1 N Z;refine VD ar 9 [0,0] Z Z<|aG Z (fun d=>?_) (fun d=>?_)
 ·refine SF 6 Z<|VF ar 5 [0,0] Z Z<|aK ?_;obtain⟨LL2,ar,hLL2⟩:=ar.named;refine bk ([2,4]++rg 29 14) (fun j t O=>∃(u:Nat),n<=u/\j+u=64/\t.get 4=some (nI u)/\H O K LL2) (64-n) ⟨n,nR_ _,by omega,Z,ar⟩ ?_;clear ar;intro X t O ak M;obtain⟨u,am,ao,Q,ar⟩:=M;subst hLL2;obtain⟨oo,rfl⟩:=ak.q1 Q Z;refine Vv 7 Z<|aG Z (fun z=>?_) (fun z=>?_)
  ·refine SF 6 Z<|Wk ar 3 [1,0] Z Z<|WV (e:=144) (m:=1) h (du<|aM d) Z Z Z Z (fun ap aa C ab E=>?_);obtain rfl:=E;refine J Z (W7 ar C Z Z) Z<|vQ 1 Z<|J Z (fE (j:=u) oM U U U Z) Z<|Vy 5 Z<|aG Z (fun I=>?_) (fun I=>?_)
   ·exact absurd ((su (x:=bL n<|R i) (j:=u) (by have:=aM (b:=64) z;omega)).symm.trans I) (by rw[dw,decide_eq_false oM];exact fun e=>Bool.noConfusion (show false=true from e))
   refine aI<|az<|Wd 5 Z ?_;have hlp:=aM (b:=64) z;refine aD ⟨X-1,by omega,oF,u+1,by omega,by omega,cI<|aX oM,ar⟩
  refine UH 3 Z<|aN<|az<|Wd 5 Z ?_;have hlp:=aM d;refine aD ⟨W-1,by omega,oF,i+1,by omega,cI<|aX oM,ar⟩
 refine UH 3 Z<|aN<|Wf 6 Z ?_;exact aA Z Z ⟨Z,ar.pop⟩
theorem zc (A:Plain G) {n:Nat} (hn:n<=64) (ar:H O K L):
  EC G 205 [nI n] O fun u O'=>∃b,u= .agg [nI n,.slice b 0 n (.known n)]/\H O' K ((b,.row ((bC n fun _ _=>false).map gU) 144 false)::L):=by
 refine V9 A Tryz.func205 Z<|Vw 2 Z<|kb ar (W6 (cs:=[D,.av])) (fun O b1 ar=>?_);refine TE 7 Z<|ky Z (an Z) (fun h5=>?_) (fun h5=>?_)
 ·exact Bool.noConfusion (show false=true from h5)
 refine Vy 5 Z<|aG Z (fun d=>?_) (fun d=>?_)
 ·exact absurd (aM (a:=64) (b:=n) d) oM
 refine UG 6 Z<|fh ar Z (ie (e:=144) (w:=8) (z:=[gU 0]) U U U U Z Z oM oM) (fun _=>Z) (fun O B ar=>?_);rw[kG (f:=gU)] at ar;refine J Z (W1 (places:=[(0,1),(1,1)]) (zero:=[D,.av]) (cs:=[_,_]) Z) Z<|gw ar Z (W9 Z Z Z ar.g1 Z) Z (fun O ar=>?_);refine VA 3 Z ?_;rw[s9] at ar;exact dh Z Z ar.g1 (m:=2) U Z ⟨B,Z,ar.sub (.cons_cons _ (.cons _ (.refl _)))⟩
theorem CE (hG:Plain G) {n:Nat} (hn:n<=64) {l:List Rn} {v:V} (d:bO K 2 (IZ K n) l v) (hp:0<l.length) (ar:H O K L):
  Ca G K L 204 [v] O <| .bool true:=by
 obtain⟨x0,h0x⟩:=dc hp;refine V9 hG Tryz.func204 Z<|UD 12 Z ?_;obtain⟨LL1,ar,hLL1⟩:=ar.named;refine bk (rg 2 26) (fun j t O=>∃(i:Nat),j+i=l.length/\t.get 3=some (nI i)/\H O K LL1) (l.length) ⟨0,Z,Z,ar⟩ ?_;clear ar;intro j2 t O ak hI;obtain⟨i,a3,X,ar⟩:=hI;subst hLL1;obtain⟨oo,rfl⟩:=ak.q1 X Z;refine UE 5 Z<|J Z (W5 d Z Z Z (e:=167) Z) Z<|Vy 3 Z<|aG Z (fun W=>?_) (fun W=>?_)
 ·refine SE 5 Z<|aL (l:=zp [0,1,2,3,4,5,6,7,8,9,10,11,12,13,14,15,16,17]) U U<|Wj 2 Z ?_;obtain⟨a4,u,aa⟩:=di W;refine WW (e:=167) (m:=2) d u Z Z Z Z Z (fun a5 ab z ac A=>?_);have hr12':=A;obtain⟨a9,rfl,B⟩:=hr12';refine ah Z Z (W8 ar z Z Z) Z<|eL Z Z (W2 Z Z Z) (fun _=>Z) (rz hG hn B ar) (fun O ar=>?_);refine⟨aT,?_⟩;refine wQ 1 Z<|e8 Z Z (an Z) (fun _=>Z) (fun C=>?_) (fun C=>?_)
  ·exact absurd C (by first | decide | (rw[fR];decide))
  refine Wj 2 Z ?_;obtain⟨ba,E,am⟩:=di W;refine WW (e:=167) (m:=2) d E Z Z Z Z Z (fun bb ao I ap M=>?_);have hr19':=M;obtain⟨bc,rfl,aE⟩:=hr19';refine dN I Z Z Z Z (k:=0) U (lb Z) (fun _=>Z) (fun bd N=>?_);refine ah Z Z (W7 ar N Z Z) Z<|wQ 1 Z<|WW (e:=167) (m:=2) d h0x Z Z Z Z Z (fun be a0 Q a1 R=>?_);have hr23':=R;obtain⟨bf,rfl,a2⟩:=hr23';refine dN Q Z Z Z Z (k:=0) U (lb Z) (fun _=>Z) (fun bg S=>?_);refine ah Z Z (W7 ar S Z Z) Z<|VB 4 Z<|aG Z (fun T=>?_) (fun T=>?_)
  ·exact absurd T (by first | decide | (rw[fR];decide))
  refine aI<|az<|Wd 5 Z ?_;have hlp:=aM W;refine aD ⟨j2-1,by omega,oF,i+1,by omega,cI<|aX (by have:=d.cS;omega),ar⟩
 refine UH 3 Z<|aN<|Vw 3 Z<|J Z (W5 d Z Z Z (e:=167) Z) Z<|VA 5 Z ?_;exact aA Z Z ⟨cB (show Nat.ble 1 l.length=true by rw[nE_];exact hp),ar⟩
theorem G2 (X:Plain G) {n:Nat} (hn:n<=64) {l:List Rn} {v:V} (A:bO K 2 (IZ K n) l v) (hp:0<l.length) (ar:H O K L):
  EC G 164 [v] O fun u O'=>∃b,u= .agg [nI n,.slice b 0 n (.known n)]/\H O' K ((b,.row ((bC n<|jR l).map gU) 144 false)::L):=by
 obtain⟨x0,h0x⟩:=dc hp;refine V9 X Tryz.func164 Z<|Vw 2 Z<|kb ar (W6 (cs:=[D,.av])) (fun O b1 ar=>?_);refine TE 6 Z<|kx (W2 Z Z Z) (CE X hn A hp ar) (fun O ar=>?_);refine J Z (dW Z) Z<|Vy 3 Z<|UG 5 Z<|WV (e:=167) (m:=2) A h0x Z Z Z Z (fun a4 ao B ap C=>?_);have hr11':=C;obtain⟨a5,rfl,aE⟩:=hr11';refine de B Z Z Z (k:=0) U (lb Z) (fun _=>Z) (fun a9 E=>?_);refine J Z (W7 ar E Z Z) Z<|kw (W2 Z Z Z) (zc X hn ar) ?_;rintro _ O ⟨I,rfl,ar⟩;refine kb ar (W6 (cs:=[D,.av])) (fun O b3 ar=>?_);refine ks ar (W9 Z Z Z ar.g0 Z) (fun O ar=>?_);refine TE 5 Z ?_;rw[<-H6 (l:=l)] at ar;refine UI 4 Z (bk ([4,5]++rg 15 30) (fun j t O=>∃(k:Nat),j+k=l.length/\t.get 4=some (nI k)/\H O K ((b3,.row [nI n,.slice I 0 n (.known n)] 167 false)::(I,.row ((bC n<|jR<|l.take k).map gU) 144 false)::(b1,.row [D,.av] 167 false)::L)) (l.length) ⟨0,Z,Z,ar⟩ ?_);clear ar;intro j5 t O ak hI;obtain⟨k,ba,aa,ar⟩:=hI;obtain⟨oo,rfl⟩:=ak.q1 aa Z;refine UE 5 Z<|J Z (W5 A Z Z Z (e:=167) Z) Z<|Vy 3 Z<|aG Z (fun d=>?_) (fun d=>?_)
 ·refine SF 6 Z ?_;obtain⟨R,hR,bb⟩:=di d;rw[<-EB (R:=R)] at ar;refine UI 4 Z (bk ([5]++rg 21 24) (fun j t O=>∃(i:Nat),j+i=n/\t.get 5=some (nI i)/\H O K ((b3,.row [nI n,.slice I 0 n (.known n)] 167 false)::(I,.row ((bC n<|Dr (jR<|l.take k) R i).map gU) 144 false)::(b1,.row [D,.av] 167 false)::L)) (n) ⟨0,Z,Z,ar⟩ ?_);clear ar;intro j8 t O ak hI;obtain⟨i,bc,ab,ar⟩:=hI;obtain⟨oo,rfl⟩:=ak.q1 ab Z;refine VD ar 9 [0,0] Z Z<|aG Z (fun z=>?_) (fun z=>?_)
  ·refine TC 4 Z<|aL (l:=zp [0,1,2,3,4,5,6,7,8,9,10,11,12,13,14,15,16,17,18]) U U ?_;have hin:=aM z;refine Wl ar 6 [1,0,1,0] Z Z<|ah Z Z (eH (e:=144) (m:=1) U U Z Z hin) Z<|ah Z Z (aw Z ar.g1 U<|iX (du hin) (by first | omega | rfl)) Z<|Wj 2 Z<|WW (e:=167) (m:=2) A hR Z Z Z Z Z (fun bd a0 M a1 N=>?_);have hr37':=N;obtain⟨be,rfl,Q⟩:=hr37';refine dN M Z Z Z Z (k:=1) U (lb Z) (fun _=>Z) (fun bf S=>?_);refine ah Z Z (W7 ar S Z Z) Z<|wQ 1 Z<|WW (e:=144) (m:=1) Q (du hin) Z Z Z Z Z (fun bg a2 T a3 W=>?_);obtain rfl:=W;refine ah Z Z (W7 ar T Z Z) Z (ah Z Z (ay (v:=.int .u64 (.ofNat<|bL n ((Dr (jR<|l.take k) R i) i) ||| bL n (R i))) Z Z<|wD (cX hn _)<|cX hn _) Z<|ah Z Z (eH (e:=144) (m:=1) U U Z Z hin) Z ?_);refine eF ar (.there .here) Z Z (aO Z Z Z ar.g1 (m:=1) U Z (by rw[lM_];rw[bQ];omega) Z (cells':=((bC n<|Dr (jR<|l.take k) R i).set i<|bL n ((Dr (jR<|l.take k) R i) i) ||| bL n (R i)).map (gU)) (eZ (f:=gU) (v:=(bL n ((Dr (jR<|l.take k) R i) i) ||| bL n (R i))) (by rw[bQ];exact hin) (by first | omega | rfl))) Z (fun O ar=>?_);refine⟨aT,?_⟩;rw[H7] at ar;refine aV<|az<|Wd 5 Z<|aD ⟨j8-1,by omega,oF,i+1,by omega,cI<|aX oM,ar⟩
  refine UH 3 Z<|aN<|az<|Wd 5 Z ?_;have hlp:=aM d;have ac:i=n:=by have:=bK z;omega
  subst ac;rw[EA hR] at ar;refine aD ⟨j5-1,by omega,oF,k+1,by omega,cI<|aX (by have:=A.cS;omega),ar⟩
 refine UH 3 Z<|aN<|Vw 2 Z<|J Z (Xc Z ar.g0 Z) Z<|lg ar Z (W9 Z Z Z (ar.get 2 Z) Z) Z (fun O ar=>?_);refine VA 3 Z ?_;have am:l.take k=l:=tL_ (bK d);rw[am] at ar;exact dh Z Z (ar.get 2 Z) (m:=2) U Z ⟨I,Z,ar.sub (.cons _ (.cons_cons _ (.cons _ (.refl _))))⟩
variable {A:Rn}
theorem Rv {a b:Nat} (h:F (.ofNat a) (.ofNat b)=true):a=b:=by
 rw[eW] at h;simpa using h
theorem KH {n i:Nat} {B:Rn} (d:∀q,q<i->(bC n A)[q]? =(bC n B)[q]?) (h:n<=i):bC n A=bC n B:=by
 refine zf_ fun q=>?_
 by_cases hq:q<n
 ·exact d q oM
 rw[gN_ (by rw[bQ];omega),gN_ (by rw[bQ];omega)]
theorem R9 (X:Plain G) {n:Nat} (hn:n<=64) (T:bO K 1 RU (bC n A) va) {B:Rn} (hb:bO K 1 RU (bC n B) vb) (ar:H O K L):
  EC G 203 [.agg [nI n,va],.agg [nI n,vb]] O fun u O'=>(∃q,u= .bool q/\(q=true->bC n A=bC n B)/\(q=false->bC n A≠bC n B))/\H O' K L:=by
 have hlA:=bQ n A;have hlB:=bQ n B;refine V9 X Tryz.func203 Z<|Vw 2 Z<|kb ar (cH Z Z) (fun O b1 ar=>?_);refine kb ar (cH Z Z) (fun O b2 ar=>?_);refine TF ar 11 [0,1,0,0] Z Z<|ky Z (an Z) (fun I=>?_) (fun I=>?_)
 ·exact absurd I (by rw[fR];decide)
 refine Wk ar 2 [1,1] Z Z<|J Z (W5 T Z Z Z (e:=144) Z) Z<|Wk ar 2 [1,0] Z Z<|J Z (W5 hb Z Z Z (e:=144) Z) Z<|Vy 4 Z<|aG Z (fun M=>?_) (fun M=>?_)
 ·exact absurd M (by rw[hlA,hlB,fR];decide)
 refine TC 9 Z ?_;obtain⟨LL1,ar,hLL1⟩:=ar.named;refine bk ([4,5]++rg 20 18) (fun j t O=>∃(i:Nat),j+i=n/\(∀q,q<i->(bC n A)[q]? =(bC n B)[q]?)/\t.get 5=some (nI i)/\H O K LL1) (n) ⟨0,Z,fun q hq=>absurd hq (nZ_ _),Z,ar⟩ ?_;clear ar;intro j4 t O ak hI;obtain⟨i,ao,C,W,ar⟩:=hI;subst hLL1;obtain⟨oo,rfl⟩:=ak.q1 W Z;refine UO ar 6 [1,1] Z Z<|J Z (W5 T Z Z Z (e:=144) Z) Z<|Vy 3 Z<|aG Z (fun z=>?_) (fun z=>?_)
 ·refine SE 5 Z<|aL (l:=zp [0,1,2,3,4,5,6,7,8,9,10]) U U ?_;have d:i<n:=by have:=aM z;omega
  refine Wl ar 3 [1,1] Z Z<|WW (e:=144) (m:=1) T (du d) Z Z Z Z Z (fun ap aa N ab Q=>?_);obtain rfl:=Q;refine ah Z Z (W7 ar N Z Z) Z<|Wl ar 3 [1,0] Z Z<|WW (e:=144) (m:=1) hb (du d) Z Z Z Z Z (fun aE ac R am S=>?_);obtain rfl:=S;refine ah Z Z (W7 ar R Z Z) Z<|VB 3 Z<|aG Z (fun E=>?_) (fun E=>?_)
  ·refine Wf 6 Z<|aP<|aH<|bX<|aP<|aH (?_);exact aA Z Z ⟨⟨_,Z,(fun e=>by cases e),fun _ e=>absurd (cY E) (by rw[show bL n (A i)=bL n (B i) from zs_ ((du d).symm.trans (by rw[e];exact du d)),fR];decide)⟩,ar.pop.pop⟩
  refine aI<|az<|Wd 5 Z ?_;have hlp:=aM z;refine aD ⟨j4-1,by omega,oF,i+1,by omega,fun q hq=>by rcases Nat.lt_or_ge q i with h1 | h1;(exact C q h1);(obtain rfl:q=i:=by omega);rw[du d,du d];exact congrArg some<|Rv<|cD E,cI<|aX oM,ar⟩
 refine UH 3 Z<|aN<|Vw 2 Z<|J Z (Xc Z ar.g1 Z) Z<|kx (W2 Z Z Z) (rz X hn T ar) (fun O ar=>?_);refine VA 5 Z ?_;exact aA Z Z ⟨⟨_,Z,(fun _=>KH C (by have:=bK z;omega)),fun e=>by cases e⟩,ar.pop.pop⟩
theorem TH (Q:Plain G) {n:Nat} (hn:n<=64) (ha:bO K 1 RU (bC n A) va) {B:Rn} (hb:bO K 1 RU (bC n B) vb) (ar:H O K L):
  EC G 170 [.agg [nI n,va],.agg [nI n,vb]] O fun u O'=>∃W b,KP.le K W/\u= .agg [nI n,.slice b 0 n (.known n)]/\H O' W ((b,.row ((bC n<|uG A B).map gU) 144 false)::L):=by
 refine V9 Q Tryz.func170 Z<|Vw 2 Z<|kb ar (cH Z Z) (fun O X ar=>?_);refine kb ar (cH Z Z) (fun O b2 ar=>?_);refine kb ar (W6 (cs:=[D,.av])) (fun O b3 ar=>?_);refine TE 5 Z<|J Z (Xc Z (ar.get 2 Z) Z) Z<|J Z (Xc Z ar.g1 Z) Z<|fh ar Z (bN (e:=167) (m:=2) (z:=[D,.av]) (cs:=[_,_,_,_]) U U U U<|aZ Z Z Z Z<|aZ Z Z Z Z bE) (fun _=>Z) (fun O C ar=>?_);have hk9:=ar.uT;have hle9:=KP.Mh K C (.row [nI n,va,nI n,vb] 167 false);have hs9:=pd (n:=n) (b:=C) (e:=167) (ro:=false) (.inr ⟨Z,Z⟩:(K.add C (.row [nI n,va,nI n,vb] 167 false)) C (.row [nI n,va,nI n,vb] 167 false)) (ha.mono hle9 fun _ _ h=>h) (hb.mono hle9 fun _ _ h=>h);replace ha:=ha.mono hle9 fun _ _ h=>h;replace hb:=hb.mono hle9 fun _ _ h=>h
 refine kx (W2 Z Z Z) (CE Q hn hs9 (Nat.succ_pos _) hk9) (fun O ar=>?_);refine J Z (dW Z) Z<|Vy 3 Z<|UP ar 6 [0,2] Z Z<|kw (W2 Z Z Z) (zc Q hn ar) ?_;rintro _ O ⟨R,rfl,ar⟩;refine kb ar (W6 (cs:=[D,.av])) (fun O b6 ar=>?_);refine ks ar (W9 Z Z Z ar.g0 Z) (fun O ar=>?_);refine TE 5 Z ?_;rw[<-I5 (A:=A) (B:=B)] at ar;refine UI 4 Z (bk ([6]++rg 16 21) (fun j t O=>∃(i:Nat),j+i=n/\t.get 6=some (nI i)/\H O (K.add C (.row [nI n,va,nI n,vb] 167 false)) ((b6,.row [nI n,.slice R 0 n (.known n)] 167 false)::(R,.row ((bC n<|BF A B i).map gU) 144 false)::(b3,.row [D,.av] 167 false)::(b2,.row [nI n,vb] 167 false)::(X,.row [nI n,va] 167 false)::L)) (n) ⟨0,Z,Z,ar⟩ ?_);clear ar;intro j5 t O ak hI;obtain⟨i,ao,S,ar⟩:=hI;obtain⟨oo,rfl⟩:=ak.q1 S Z;refine VD ar 9 [0,0] Z Z<|aG Z (fun d=>?_) (fun d=>?_)
 ·refine TC 4 Z<|aL (l:=zp [0,1,2,3,4,5,6,7,8,9,10,11,12,13,14,15]) U U ?_;have hin:=aM d;refine Wl ar 6 [1,0,1,4] Z Z<|WW (e:=144) (m:=1) ha (du hin) Z Z Z Z Z (fun ap aa E ab I=>?_);obtain rfl:=I;refine ah Z Z (W7 ar E Z Z) Z<|Wl ar 3 [1,3] Z Z<|WW (e:=144) (m:=1) hb (du hin) Z Z Z Z Z (fun aE ac M am N=>?_);obtain rfl:=N;refine ah Z Z (W7 ar M Z Z) Z (ah Z Z (ay (v:=.int .u64 (.ofNat<|bL n (A i) &&& bL n (B i))) Z Z<|ss (cX hn _)<|cX hn _) Z (ah Z Z (eH (e:=144) (m:=1) U U Z Z hin) Z (eF ar (.there .here) Z Z (aO Z Z Z ar.g1 (m:=1) U Z (by rw[lM_];rw[bQ];omega) Z (cells':=((bC n<|BF A B i).set i<|bL n (A i) &&& bL n (B i)).map (gU)) (eZ (f:=gU) (v:=(bL n (A i) &&& bL n (B i))) (by rw[bQ];exact hin) (by first | omega | rfl))) Z (fun O ar=>?_))));refine⟨aT,?_⟩;rw[KI] at ar;refine aV<|az<|Wd 5 Z<|aD ⟨j5-1,by omega,oF,i+1,by omega,cI<|aX oM,ar⟩
 refine UH 3 Z<|aN<|Vw 2 Z<|J Z (Xc Z ar.g0 Z) Z<|lg ar Z (W9 Z Z Z (ar.get 2 Z) Z) Z (fun O ar=>?_);refine VA 3 Z ?_;have T:i=n:=by have:=bK d;omega
 subst T;rw[I4] at ar;exact dh Z Z (ar.get 2 Z) (m:=2) U Z ⟨_,R,hle9,Z,ar.sub (.cons _ (.cons_cons _ (.cons _ (.cons _ (.cons _ (.refl _))))))⟩
theorem Sb (Q:Plain G) {n:Nat} (hn:n<=64) (X:bO K 1 RU (bC n A) va) (ar:H O K L):
  EC G 171 [.agg [nI n,va]] O fun u O'=>∃b,u= .agg [nI n,.slice b 0 n (.known n)]/\H O' K ((b,.row ((bC n<|mP A).map gU) 144 false)::L):=by
 refine V9 Q Tryz.func171 Z<|Vw 2 Z<|kb ar (cH Z Z) (fun O b1 ar=>?_);refine kb ar (W6 (cs:=[D,.av])) (fun O b2 ar=>?_);refine TE 5 Z<|J Z (Xc Z ar.g1 Z) Z<|kx (W2 Z Z Z) (rz Q hn X ar) (fun O ar=>?_);refine Vy 3 Z<|aG Z (fun h8=>?_) (fun h8=>?_)
 ·exact absurd h8 (by decide)
 refine UP ar 6 [0,1] Z Z<|kw (W2 Z Z Z) (zc Q hn ar) ?_;rintro _ O ⟨I,rfl,ar⟩;refine kb ar (W6 (cs:=[D,.av])) (fun O b4 ar=>?_);refine ks ar (W9 Z Z Z ar.g0 Z) (fun O ar=>?_);refine TE 5 Z ?_;rw[<-Hl (R:=A)] at ar;refine UI 4 Z (bk ([4,5]++rg 13 35) (fun j t O=>∃(i:Nat),j+i=n/\t.get 4=some (nI i)/\H O K ((b4,.row [nI n,.slice I 0 n (.known n)] 167 false)::(I,.row ((bC n<|jE A i 0).map gU) 144 false)::(b2,.row [D,.av] 167 false)::(b1,.row [nI n,va] 167 false)::L)) (n) ⟨0,Z,Z,ar⟩ ?_);clear ar;intro j5 t O ak S;obtain⟨i,ac,T,ar⟩:=S;obtain⟨oo,rfl⟩:=ak.q1 T Z;refine VD ar 9 [0,3] Z Z<|aG Z (fun z=>?_) (fun z=>?_)
 ·refine TC 9 Z (aK (bk ([5]++rg 19 29) (fun j t O=>∃(q:Nat),j+q=n/\t.get 5=some (nI q)/\H O K ((b4,.row [nI n,.slice I 0 n (.known n)] 167 false)::(I,.row ((bC n<|jE A i q).map gU) 144 false)::(b2,.row [D,.av] 167 false)::(b1,.row [nI n,va] 167 false)::L)) (n) ⟨0,Z,Z,ar⟩ ?_));clear ar;intro j8 t O ak S;obtain⟨q,am,W,ar⟩:=S;obtain⟨oo,rfl⟩:=ak.q1 W Z;refine VD ar 9 [0,3] Z Z<|aG Z (fun B=>?_) (fun B=>?_)
  ·refine SF 6 Z ?_;have hin:=aM z;have hqn:=aM B;refine Wk ar 3 [1,3] Z Z<|WV (e:=144) (m:=1) X (du hin) Z Z Z Z (fun ao aa M ab N=>?_);obtain rfl:=N;refine J Z (W7 ar M Z Z) Z<|vQ 1 Z<|J Z (fE (j:=q) oM U U U Z) Z<|Vy 5 Z<|aG Z (fun C=>?_) (fun C=>?_)
   ·have d:A i q=true:=by have e:=(su (x:=bL n<|A i) (j:=q) oM).symm.trans C;rw[dw,decide_eq_true hqn,zp_] at e;exact e
    refine aL (l:=zp [0,1,2,3,4,5,6,7,8,9,10,11,12,13]) U U (Wl ar 6 [1,0,1,0] Z Z (ah Z Z (eH (e:=144) (m:=1) U U Z Z hqn) Z (ah Z Z (aw Z ar.g1 U<|iX (du hqn) (by first | omega | rfl)) Z (wQ 1 Z (ah Z Z (fE (j:=i) oM U U U Z) Z (ah Z Z (ay (v:=.int .u64 (.ofNat (2 ^ i))) Z Z<|wo oM) Z (ah Z Z (ay (v:=.int .u64 (.ofNat<|bL n (jE A i q q) ||| 2 ^ i)) Z Z<|wD (cX hn _)<|Nat.pow_lt_pow_right oM oM) Z (ah Z Z (eH (e:=144) (m:=1) U U Z Z hqn) Z (eF ar (.there .here) Z Z (aO Z Z Z ar.g1 (m:=1) U Z (by rw[lM_];rw[bQ];omega) Z (cells':=((bC n<|jE A i q).set q<|bL n (jE A i q q) ||| 2 ^ i).map (gU)) (eZ (f:=gU) (v:=(bL n (jE A i q q) ||| 2 ^ i)) (by rw[bQ];exact hqn) (by first | omega | rfl))) Z (fun O ar=>?_))))))))));refine⟨aT,?_⟩;rw[Kq hin d] at ar;refine aV<|az<|Wd 5 Z<|aD ⟨j8-1,by omega,oF,q+1,by omega,cI<|aX oM,ar⟩
   have d:A i q=false:=by have e:=(su (x:=bL n<|A i) (j:=q) oM).symm.trans C;rw[dw,decide_eq_true hqn,zp_] at e;exact e
   refine aI<|az<|Wd 5 Z ?_;rw[NR d] at ar;refine aD ⟨j8-1,by omega,oF,q+1,by omega,cI<|aX oM,ar⟩
  refine UH 3 Z<|aN<|az<|Wd 5 Z ?_;have hlp:=aM z;have E:q=n:=by have:=bK B;omega
  subst E;rw[Kp] at ar;refine aD ⟨j5-1,by omega,oF,i+1,by omega,cI<|aX oM,ar⟩
 refine UH 3 Z<|aN<|Vw 2 Z<|J Z (Xc Z ar.g0 Z) Z<|lg ar Z (W9 Z Z Z (ar.get 2 Z) Z) Z (fun O ar=>?_);refine VA 3 Z ?_;have E:i=n:=by have:=bK z;omega
 subst E;rw[Hk] at ar;exact dh Z Z (ar.get 2 Z) (m:=2) U Z ⟨I,Z,ar.sub (.cons _ (.cons_cons _ (.cons _ (.cons _ (.refl _)))))⟩
theorem F3 {n:Nat} {T B:Rn} (h:bC n T=bC n A):bC n (na n T B)=bC n (na n A B):=by
 refine cF fun a c u _=>?_
 unfold na;rw[zd_];simp only[List.any_eq_true,List.mem_range,bA_];constructor
 ·rintro ⟨b,hb,h1,d⟩;exact⟨b,hb,(oy h u hb).symm.trans h1,d⟩
 rintro ⟨b,hb,h1,d⟩;exact⟨b,hb,(oy h u hb).trans h1,d⟩
theorem Sa (hG:Plain G) {n:Nat} (hn:n<=64) {B:Rn} {v:V} (hs:bO K 2 (IZ K n) [A,B] v) (ar:H O K L):
  EC G 202 [v] O fun u O'=>∃I b,KP.le K I/\u= .agg [nI n,.slice b 0 n (.known n)]/\H O' I ((b,.row ((bC n<|na n A B).map gU) 144 false)::L):=by
 have h0x:([A,B]:List Rn)[0]? =some A:=rfl;refine V9 hG Tryz.func202 Z<|Vw 2 Z<|kb ar (W6 (cs:=[D,.av])) (fun O b1 ar=>?_);refine TE 6 Z<|kx (W2 Z Z Z) (CE hG hn hs (Nat.succ_pos _) ar) (fun O ar=>?_);refine J Z (dW Z) Z<|Vy 3 Z<|UG 5 Z<|WV (e:=167) (m:=2) hs h0x Z Z Z Z (fun bo bd aa be ab=>?_);have hr13':=ab;obtain⟨bp,rfl,ac⟩:=hr13';refine J Z (W8 ar aa Z Z) Z<|fh ar Z (bN (e:=167) (m:=2) (z:=[D,.av]) (cs:=[_,_]) U U U U<|aZ Z Z Z Z bE) (fun _=>Z) (fun O b2 ar=>?_);obtain⟨I,d,N,ar⟩:=H.bF (M:=[_]) ar;have hs15:=It (n:=n) (N _<|mS_ ..) (ac.mono d fun _ _ h=>h);replace hs:=hs.mono d fun _ _ h=>h.mono d
 refine kw (W2 Z Z Z) (G2 hG hn hs15 (Nat.succ_pos _) ar) ?_;rintro _ O ⟨b3,rfl,ar⟩;refine kb ar (W6 (cs:=[D,.av])) (fun O b4 ar=>?_);refine ks ar (W9 Z Z Z ar.g0 Z) (fun O ar=>?_);refine TE 5 Z ?_;replace ar:=ar.pull (.there<|bu.here (X:=[_]));refine UI 4 Z (bk (rg 4 4++rg 17 50) (fun j t O=>∃(k bq:Nat) (T:Rn),j+k=2/\((k=1/\bC n T=bC n A)∨(k=2/\bC n T=bC n (na n A B)))/\t.get 4=some (nI k)/\H O I ((bq,.row ((bC n T).map gU) 144 false)::(b4,.row [nI n,.slice bq 0 n (.known n)] 167 false)::(b1,.row [D,.av] 167 false)::L)) (1) ⟨1,b3,jR [A],Z,.inl ⟨Z,cF fun a b _ _=>by unfold jR;simp⟩,Z,ar⟩ ?_);clear ar;intro j5 t O ak hI;obtain⟨k,bq,T,bs,hT,a3,ar⟩:=hI;obtain⟨oo,rfl⟩:=ak.q1 a3 Z;refine UE 5 Z<|J Z (W5 hs Z Z Z (e:=167) Z) Z<|Vy 3 Z<|aG Z (fun Q=>?_) (fun Q=>?_)
 ·refine SF 6 Z ?_;have hk2:=aM (a:=k) (b:=2) Q;obtain⟨a4,a5⟩:k=1/\bC n T=bC n A:=by rcases hT with h | h;exact h;omega
  have a9:([A,B]:List Rn)[k]? =some B:=by rw[a4];rfl
  refine Wk ar 2 [0,1] Z Z<|kw (W2 Z Z Z) (zc hG hn ar) ?_;rintro _ O ⟨b5,rfl,ar⟩;refine kb ar (W6 (cs:=[D,.av])) (fun O b6 ar=>?_);refine ks ar (W9 Z Z Z ar.g0 Z) (fun O ar=>?_);refine TE 5 Z ?_;rw[<-F2 (A:=T) (B:=B)] at ar;refine UI 4 Z (bk ([6,7]++rg 26 40) (fun j t O=>∃(i:Nat),j+i=n/\t.get 6=some (nI i)/\H O I ((b6,.row [nI n,.slice b5 0 n (.known n)] 167 false)::(b5,.row ((bC n<|js n T B i 0).map gU) 144 false)::(bq,.row ((bC n T).map gU) 144 false)::(b4,.row [nI n,.slice bq 0 n (.known n)] 167 false)::(b1,.row [D,.av] 167 false)::L)) (n) ⟨0,Z,Z,ar⟩ ?_);clear ar;intro j9 t O ak hI;obtain⟨i,bt,ba,ar⟩:=hI;obtain⟨oo,rfl⟩:=ak.q1 ba Z;refine VD ar 9 [0,3] Z Z<|aG Z (fun E=>?_) (fun E=>?_)
  ·refine TC 9 Z (aK (bk ([7]++rg 32 34) (fun j t O=>∃(q:Nat),j+q=n/\t.get 7=some (nI q)/\H O I ((b6,.row [nI n,.slice b5 0 n (.known n)] 167 false)::(b5,.row ((bC n<|js n T B i q).map gU) 144 false)::(bq,.row ((bC n T).map gU) 144 false)::(b4,.row [nI n,.slice bq 0 n (.known n)] 167 false)::(b1,.row [D,.av] 167 false)::L)) (n) ⟨0,Z,Z,ar⟩ ?_));clear ar;intro am t O ak hI;obtain⟨q,bf,bb,ar⟩:=hI;obtain⟨oo,rfl⟩:=ak.q1 bb Z;refine VD ar 9 [0,3] Z Z<|aG Z (fun R=>?_) (fun R=>?_)
   ·refine SF 6 Z ?_;have hin:=aM E;have hqn:=aM R;refine Wk ar 3 [1,3] Z Z<|J Z (eH (e:=144) (m:=1) U U Z Z hin) Z<|J Z (aw Z (ar.get 2 Z) U<|iX (du hin) (by first | omega | rfl)) Z<|vQ 1 Z<|J Z (fE (j:=q) oM U U U Z) Z<|Vy 5 Z<|aG Z (fun S=>?_) (fun S=>?_)
    ·have C:T i q=true:=by have e:=(su (x:=bL n<|T i) (j:=q) oM).symm.trans S;rw[dw,decide_eq_true hqn,zp_] at e;exact e
     refine aL (l:=zp [0,1,2,3,4,5,6,7,8,9,10,11,12,13,14,15,16,17,18]) U U<|Wl ar 6 [1,0,1,0] Z Z<|ah Z Z (eH (e:=144) (m:=1) U U Z Z hin) Z<|ah Z Z (aw Z ar.g1 U<|iX (du hin) (by first | omega | rfl)) Z<|Wj 2 Z<|WW (e:=167) (m:=2) hs a9 Z Z Z Z Z (fun bv bg ao bi ap=>?_);have hr58':=ap;obtain⟨bw,rfl,aE⟩:=hr58';refine dN ao Z Z Z Z (k:=1) U (lb Z) (fun _=>Z) (fun bD a0=>?_);refine ah Z Z (W7 ar a0 Z Z) Z<|wQ 1 Z<|WW (e:=144) (m:=1) aE (du hqn) Z Z Z Z Z (fun bH bl a1 bm a2=>?_);obtain rfl:=a2;refine ah Z Z (W7 ar a1 Z Z) Z (ah Z Z (ay (v:=.int .u64 (.ofNat<|bL n (js n T B i q i) ||| bL n (B q))) Z Z<|wD (cX hn _)<|cX hn _) Z<|ah Z Z (eH (e:=144) (m:=1) U U Z Z hin) Z ?_);refine eF ar (.there .here) Z Z (aO Z Z Z ar.g1 (m:=1) U Z (by rw[lM_];rw[bQ];omega) Z (cells':=((bC n<|js n T B i q).set i<|bL n (js n T B i q i) ||| bL n (B q)).map (gU)) (eZ (f:=gU) (v:=(bL n (js n T B i q i) ||| bL n (B q))) (by rw[bQ];exact hin) (by first | omega | rfl))) Z (fun O ar=>?_);refine⟨aT,?_⟩;rw[Jn C] at ar;refine aV<|az<|Wd 5 Z<|aD ⟨am-1,by omega,oF,q+1,by omega,cI<|aX oM,ar⟩
    have C:T i q=false:=by have e:=(su (x:=bL n<|T i) (j:=q) oM).symm.trans S;rw[dw,decide_eq_true hqn,zp_] at e;exact e
    refine aI<|az<|Wd 5 Z ?_;rw[Lf C] at ar;refine aD ⟨am-1,by omega,oF,q+1,by omega,cI<|aX oM,ar⟩
   refine UH 3 Z<|aN<|az<|Wd 5 Z ?_;have hlp:=aM E;have W:q=n:=by have:=bK R;omega
   subst W;rw[Jm] at ar;refine aD ⟨j9-1,by omega,oF,i+1,by omega,cI<|aX oM,ar⟩
  refine UH 3 Z<|aN<|ad<|ai Z<|J Z (Xc Z ar.g0 Z) Z<|Mz ar Z (W9 Z Z Z (ar.get 3 Z) Z) Z (fun O ar=>?_);replace ar:=ar.sub (.cons _ (.cons_cons _ (.cons _ (.cons_cons _ (.cons_cons _ (.refl _))))));refine af<|az<|Wd 5 Z ?_;have W:i=n:=by have:=bK E;omega
  subst W;rw[F1] at ar;refine aD ⟨j5-1,by omega,oF,k+1,b5,na i T B,by omega,.inr ⟨by omega,F3 a5⟩,cI<|aX oM,ar⟩
 refine UH 3 Z<|aN<|Vw 2 Z<|J Z (Xc Z ar.g1 Z) Z<|lg ar Z (W9 Z Z Z (ar.get 2 Z) Z) Z (fun O ar=>?_);refine VA 3 Z ?_;have bc:bC n T=bC n (na n A B):=by have:=bK (a:=k) (b:=2) Q;rcases hT with h | h;omega;exact h.2
 rw[bc] at ar;exact dh Z Z (ar.get 2 Z) (m:=2) U Z ⟨I,bq,d,Z,ar.sub (.cons_cons _ (.cons _ (.cons _ (.refl _))))⟩
theorem KB.congr {n:Nat} {R S T:Rn} (h:KB n R S) (he:bC n S=bC n T):KB n R T:=
 ⟨fun i j hi hj d=>(oy he hi hj).symm.trans (h.low i j hi hj d),fun i j hi hj u=>h.high i j hi hj ((oy he hi hj).trans u)⟩
theorem CD (hG:Plain G) {n:Nat} (hn:n<=64) (ha:bO K 1 RU (bC n A) va) (ar:H O K L):
  EC G 163 [.agg [nI n,va]] O fun v O'=>∃K1 u,KP.le K K1/\v= .agg [nI n,u]/\bO K1 1 RU (bC n<|lz n A) u/\H O' K1 L:=by
 refine V9 hG Tryz.func163 Z<|Vw 2 Z<|kb ar (cH Z Z) (fun O b1 ar=>?_);refine kb ar (W6 (cs:=[D,.av])) (fun O b2 ar=>?_);refine TE 5 Z<|J Z (Xc Z ar.g1 Z) Z<|kx (W2 Z Z Z) (rz hG hn ha ar) (fun O ar=>?_);refine Vy 3 Z<|aG Z (fun h7=>?_) (fun h7=>?_)
 ·exact absurd h7 (by decide)
 refine UG 4 Z<|J Z (Xc Z ar.g1 Z) Z<|fh ar Z (bN (e:=167) (m:=2) (z:=[D,.av]) (cs:=[_,_]) U U U U<|aZ Z Z Z Z bE) (fun _=>Z) (fun O b3 ar=>?_);obtain⟨K1,E,N,ar⟩:=H.bF (M:=[_]) ar;have hs1:=It (n:=n) (N _<|mS_ ..) (ha.mono E fun _ _ h=>h);refine kw (W2 Z Z Z) (G2 hG hn hs1 (Nat.succ_pos _) ar) ?_;rintro _ O ⟨c1,rfl,ar⟩;obtain⟨K2,ao,Q,ar⟩:=H.bF (M:=[_]) ar;have hT:=dM (Q _<|mS_ ..) (bQ n<|jR [A]) oM;refine kb ar (W6 (cs:=[D,.av])) (fun O b4 ar=>?_);refine ks ar (Sx Z Z Z ar.g0 (m:=2) Z (aj Z<|aj hT.leaf.2 aC) (cells':=[_,_]) Z) (fun O ar=>?_);refine UI 3 Z (bk ([4]++rg 12 12) (fun j t O=>∃(T:Rn) (u:V) (K2:KP),KP.le K K2/\KB n A T/\bO K2 1 RU (bC n T) u/\n*n<=Jk n T+j/\H O K2 ((b4,.row [nI n,u] 167 false)::(b2,.row [D,.av] 167 false)::(b1,.row [nI n,va] 167 false)::L)) (n*n) ⟨jR [A],_,K2,KP.le_trans E ao,(KB.refl n A).congr (cF fun a b _ _=>by unfold jR;simp),hT,Nat.le_add_left _ _,ar⟩ ?_);clear ar;intro j4 t O ak hI;obtain⟨T,u,K2,I,hM,hT,a2,ar⟩:=hI;obtain⟨oo,rfl⟩:=ak.q0 Z;refine aK (al (aL (l:=[(0,[]),(1,[]),(2,[]),(3,[]),(7,[]),(4,[0,7]),(5,[]),(6,[7]),(8,[])]) U U<|ah Z Z (Xc Z ar.g0 Z) Z<|ah Z Z (Xc Z ar.g0 Z) Z<|ah Z Z (Xc Z ar.g0 Z) Z<|gx ar Z Z (bN (e:=167) (m:=2) (z:=[D,.av]) (cs:=[_,_,_,_]) U U U U<|aZ Z Z Z Z<|aZ Z Z Z Z bE) (fun _=>Z) (fun O b5 ar=>?_)));refine pC ar Z Z (W6 (cs:=[D,.av])) (fun _=>Z) (fun O b6 ar=>?_);replace ar:=ar.pull (.there<|bu.here (X:=[_]));obtain⟨K3,B,W,ar⟩:=H.bF (M:=[_]) ar;have hs3:=pd (n:=n) (W _<|mS_ ..) (hT.mono B fun _ _ h=>h) (hT.mono B fun _ _ h=>h);refine ed Z Z (W2 Z Z Z) (fun _=>Z) (Sa hG hn hs3 ar) ?_;rintro _ O ⟨K3b,c3,hle3b,rfl,ar⟩;obtain⟨K4,ap,aa,ar⟩:=H.bF (M:=[_]) ar;have h16:=dM (aa _<|mS_ ..) (bQ n<|na n T T) oM;have hle34:=KP.le_trans B (KP.le_trans hle3b ap);replace hT:=hT.mono hle34 fun _ _ h=>h
 refine⟨(bj (bx Z Z Z Z Z (Xc Z ar.g1 Z)<|gT<|cP (fe _ _)<|cP hT.iK gf)<|bj (oD Z Z Z Z Z (cs:=[D,.av]) (e:=167) U ar.g0 U) aT),?_⟩;refine gx ar Z Z (bN (e:=167) (m:=2) (z:=[D,.av]) (cs:=[_,_,_,_]) U U U U<|aZ Z Z Z Z<|aZ Z Z Z Z bE) (fun _=>Z) (fun O b7 ar=>?_);obtain⟨K5,d,ab,ar⟩:=H.bF (M:=[_]) ar;have hs5:=pd (n:=n) (ab _<|mS_ ..) (hT.mono d fun _ _ h=>h) (h16.mono d fun _ _ h=>h);refine ed Z Z (W2 Z Z Z) (fun _=>Z) (G2 hG hn hs5 (Nat.succ_pos _) ar) ?_;rintro _ O ⟨c5,rfl,ar⟩;obtain⟨K6,C,ac,ar⟩:=H.bF (M:=[_]) ar;have h18:=dM (ac _<|mS_ ..) (bQ n<|jR [T,na n T T]) oM;replace hT:=hT.mono (KP.le_trans d C) fun _ _ h=>h
 refine⟨(bj (oD Z Z Z Z Z (cs:=[D,.av]) (e:=167) U ar.g0 U) aT),?_⟩;refine ia ar Z Z (Sx Z Z Z ar.g0 (m:=2) Z (aj Z<|aj h18.leaf.2 aC) (cells':=[_,_]) Z) Z (fun O ar=>?_);refine⟨aT,?_⟩;refine VB 2 Z<|UE 3 Z<|J Z (Xc Z ar.g0 Z) Z<|J Z (Xc Z ar.g1 Z) Z<|kw (W2 Z Z Z) (R9 hG hn h18 hT ar) ?_;rintro _ O ⟨⟨a3,rfl,a0,a1⟩,ar⟩;refine Vy 2 Z<|aG Z (fun am=>?_) (fun am=>?_)
 ·refine Vw 2 Z<|J Z (Xc Z ar.g1 Z) Z<|lg ar Z (Sx Z Z Z (ar.get 2 Z) (m:=2) Z (aj Z<|aj hT.leaf.2 aC) (cells':=[_,_]) Z) Z (fun O ar=>?_);refine VA 3 Z<|aH<|aP<|bX<|aP (?_);have aE:bC n (Kj n T)=bC n T:=by rw[<-QZ];exact a0 am
  rw[hM.fix aE] at hT;exact dh Z Z (ar.get 2 Z) (m:=2) U Z ⟨K6,_,KP.le_trans I<|KP.le_trans hle34<|KP.le_trans d C,Z,hT,ar.pop.pop.pop.pop⟩
 refine aI<|ad<|ai Z<|J Z (Xc Z ar.g0 Z) Z<|gw ar Z (Sx Z Z Z ar.g1 (m:=2) Z (aj Z<|aj h18.leaf.2 aC) (cells':=[_,_]) Z) Z (fun O ar=>?_);replace ar:=ar.sub (.cons _ (.cons_cons _ (.cons_cons _ (.cons_cons _ (.refl _)))));refine af<|az ?_;have hne:=a1 am;rw[QZ] at hne h18;have hlt:=OP (n:=n) (S:=T) (R:=Kj n T) (fun a b _ _ h=>NB h) (fun e=>hne e.symm);have hmx:=OO n (Kj n T);refine aD ⟨j4-1,by omega,oF,Kj n T,_,K6,KP.le_trans I<|KP.le_trans hle34<|KP.le_trans d C,hM.sq,h18,by omega,ar⟩
theorem TI (M:Plain G) {n:Nat} (hn:n<=64) (N:bO K 1 RU (bC n A) va) {i:Nat} (hi:i<n) (hq:q<n) (ar:H O K L):
  Ca G K L 213 [.agg [nI n,va],nI i,nI q] O <| .bool (A i q):=by
 refine V9 M Tryz.func213 Z<|Vw 2 Z<|kb ar (cH Z Z) (fun O b1 ar=>?_);refine UK 5 Z<|J Z (Xc Z ar.g0 Z) Z<|kx (W2 Z Z Z) (rz M hn N ar) (fun O ar=>?_);refine vQ 1 Z<|ky Z (an Z) (fun d=>?_) (fun d=>?_)
 ·refine Wh 3 Z<|ky Z (an Z) (fun u=>?_) (fun u=>?_)
  ·refine Wk ar 5 [0,0] Z Z<|ky Z (an Z) (fun z=>?_) (fun z=>?_)
   ·refine Wh 3 Z<|ky Z (an Z) (fun B=>?_) (fun B=>?_)
    ·refine Wk ar 5 [0,0] Z Z<|ky Z (an Z) (fun C=>?_) (fun C=>?_)
     ·refine Wk ar 3 [1,0] Z Z<|WV (e:=144) (m:=1) N (du hi) Z Z Z Z (fun ac aa E ab I=>?_);obtain rfl:=I;refine J Z (W7 ar E Z Z) Z<|vQ 1 Z<|J Z (fE (j:=q) oM U U U Z) Z<|VA 8 Z ?_;exact aA Z Z ⟨cB ((su (x:=bL n<|A i) (j:=q) oM).trans (by rw[dw,decide_eq_true hq,zp_])),ar.pop⟩
     exact absurd (bK C) oM
    exact Bool.noConfusion (show true=false from B)
   exact absurd (bK z) oM
  exact Bool.noConfusion (show true=false from u)
 exact absurd d (by decide)
theorem J4 (hG:Plain G) {n:Nat} (hn:n<=64) {l:List (Nat×Nat)} {v:V} (W:bO K 2 RP l v) (hlt:∀p∈l,p.1<n/\p.2<n) (ar:H O K L):
  EC G 165 [nI n,v] O fun u O'=>∃b,u= .agg [nI n,.slice b 0 n (.known n)]/\H O' K ((b,.row ((bC n<|wB l).map gU) 144 false)::L):=by
 refine V9 hG Tryz.func165 Z<|Vw 2 Z<|kb ar (W6 (cs:=[D,.av])) (fun O b1 ar=>?_);refine UK 5 Z<|kw (W2 Z Z Z) (zc hG hn ar) ?_;rintro _ O ⟨X,rfl,ar⟩;refine kb ar (W6 (cs:=[D,.av])) (fun O b3 ar=>?_);refine ks ar (W9 Z Z Z ar.g0 Z) (fun O ar=>?_);refine TE 5 Z ?_;rw[show bC n (fun _ _=>false)=bC n (wB<|l.take 0) from cF fun a b _ _=>by unfold wB;simp] at ar;refine UI 4 Z (bk ([6,7,8]++rg 11 47) (fun j t O=>∃(k:Nat),j+k=l.length/\t.get 6=some (nI k)/\H O K ((b3,.row [nI n,.slice X 0 n (.known n)] 167 false)::(X,.row ((bC n<|wB<|l.take k).map gU) 144 false)::(b1,.row [D,.av] 167 false)::L)) (l.length) ⟨0,Z,Z,ar⟩ ?_);clear ar;intro j3 t O ak hI;obtain⟨k,a0,aa,ar⟩:=hI;obtain⟨oo,rfl⟩:=ak.q1 aa Z;refine UE 5 Z<|J Z (W5 W Z Z Z (e:=224) Z) Z<|Vy 3 Z<|aG Z (fun d=>?_) (fun d=>?_)
 ·refine SE 5 Z<|aL (l:=zp [0,1,2,3,4,5,6,7,8,9,10,11]) U U ?_;obtain⟨⟨pa,pb⟩,z,a1⟩:=di d;obtain⟨A,ab⟩:pa<n/\pb<n:=hlt _ (gB_ z);refine Wj 2 Z<|WW (e:=224) (m:=2) W z Z Z Z Z Z (fun a2 am B ao C=>?_);obtain rfl:=C;refine rn B Z Z Z Z (nn:=2) (e:=3) (m:=1) (j:=0) Z U U (by decide) (lb Z) (fun _=>Z) (fun a3 E=>?_);refine ah Z Z (W7 ar E Z Z) Z<|Wj 2 Z<|WW (e:=224) (m:=2) W z Z Z Z Z Z (fun a4 ap I aE M=>?_);obtain rfl:=M;refine rn I Z Z Z Z (nn:=2) (e:=3) (m:=1) (j:=1) Z U U (by decide) (lb Z) (fun _=>Z) (fun a5 N=>?_);refine ah Z Z (W7 ar N Z Z) Z<|VB 4 Z<|Vw 4 Z<|ky Z (an Z) (fun Q=>?_) (fun Q=>?_)
  ·refine Wk ar 5 [0,0] Z Z<|ky Z (an Z) (fun R=>?_) (fun R=>?_)
   ·refine Wh 3 Z<|ky Z (an Z) (fun S=>?_) (fun S=>?_)
    ·refine VF ar 7 [0,0] Z Z<|aG Z (fun T=>?_) (fun T=>?_)
     ·refine aL (l:=zp [0,1,2,3,4,5,6,7,8,9,10,11,12,13]) U U (Wl ar 6 [1,0,1,0] Z Z (ah Z Z (eH (e:=144) (m:=1) U U Z Z A) Z (ah Z Z (aw Z ar.g1 U<|iX (du A) (by first | omega | rfl)) Z (wQ 1 Z (ah Z Z (fE (j:=pb) oM U U U Z) Z (ah Z Z (ay (v:=.int .u64 (.ofNat (2 ^ pb))) Z Z<|wo oM) Z (ah Z Z (ay (v:=.int .u64 (.ofNat<|bL n (wB (l.take k) pa) ||| 2 ^ pb)) Z Z<|wD (cX hn _)<|Nat.pow_lt_pow_right oM oM) Z<|ah Z Z (eH (e:=144) (m:=1) U U Z Z A) Z ?_)))))));refine eF ar (.there .here) Z Z (aO Z Z Z ar.g1 (m:=1) U Z (by rw[lM_];rw[bQ];omega) Z (cells':=((bC n<|wB<|l.take k).set pa<|bL n (wB (l.take k) pa) ||| 2 ^ pb).map (gU)) (eZ (f:=gU) (v:=(bL n (wB (l.take k) pa) ||| 2 ^ pb)) (by rw[bQ];exact A) (by first | omega | rfl))) Z (fun O ar=>?_);refine⟨aT,?_⟩;rw[H5 z ab] at ar;refine aV<|az<|Wd 5 Z ?_;have hlp:=aM d;refine aD ⟨j3-1,by omega,oF,k+1,by omega,cI<|aX (by have:=W.cS;omega),ar⟩
     exact absurd (bK T) oM
    exact Bool.noConfusion (show true=false from S)
   exact absurd (bK R) oM
  exact Bool.noConfusion (show true=false from Q)
 refine UH 3 Z<|aN<|Vw 2 Z<|J Z (Xc Z ar.g0 Z) Z<|lg ar Z (W9 Z Z Z (ar.get 2 Z) Z) Z (fun O ar=>?_);refine VA 3 Z ?_;have ac:l.take k=l:=tL_ (bK d);rw[ac] at ar;exact dh Z Z (ar.get 2 Z) (m:=2) U Z ⟨X,Z,ar.sub (.cons _ (.cons_cons _ (.cons _ (.refl _))))⟩
theorem PJ (hG:Plain G) {n:Nat} (hn:n<=64) (ha:bO K 1 RU (bC n A) va) (ar:H O K L):
  EC G 169 [.agg [nI n,va]] O fun u O'=>∃M,cy 2 224 RP (jk n A) u M/\H O' K (M++L):=by
 refine V9 hG Tryz.func169 Z<|Vw 2 Z<|kb ar (cH Z Z) (fun O b1 ar=>?_);refine TD 15 Z (bk (rg 3 36) (fun j t O=>∃(i:Nat) (u:V) (M:Own),j+i=n/\cy 2 224 RP (eM n A i 0) u M/\t.get 3=some (u)/\t.get 4=some (nI i)/\H O K (M++(b1,.row [nI n,va] 167 false)::L)) (n) ⟨0,_,[],Z,(show cy 2 224 RP (eM n A 0 0) .av [] from .inl ⟨by unfold eM;simp,Z,Z⟩),Z,Z,ar⟩ ?_);clear ar;intro j3 t O ak hI;obtain⟨i,u,M,a0,hO,C,ab,ar⟩:=hI;obtain⟨oo,rfl⟩:=ak.q2 C ab Z;refine UO ar 5 [0] Z Z<|J Z (W4 Z ar.bG.g0 Z) Z<|vQ 1 Z<|ky Z (an Z) (fun B=>?_) (fun B=>?_)
 ·refine J Z (Xc Z ar.bG.g0 Z) Z<|kx (W2 Z Z Z) (rz hG hn ha ar) (fun O ar=>?_);refine Vy 4 Z<|aG Z (fun Q=>?_) (fun Q=>?_)
  ·refine TC 9 Z (aK (bk ([3,5]++rg 17 22) (fun j t O=>∃(q:Nat) (S:V) (T:Own),j+q=n/\cy 2 224 RP (eM n A i q) S T/\t.get 3=some (S)/\t.get 5=some (nI q)/\H O K (T++(b1,.row [nI n,va] 167 false)::L)) (n) ⟨0,u,M,Z,hO,Z,Z,ar⟩ ?_));clear ar;intro j6 t O ak hI;obtain⟨q,S,T,a1,hO2,C,ac,ar⟩:=hI;obtain⟨oo,rfl⟩:=ak.q2 C ac Z;refine UO ar 5 [0] Z Z<|J Z (W4 Z ar.bG.g0 Z) Z<|Vy 3 Z<|aG Z (fun E=>?_) (fun E=>?_)
   ·refine SF 6 Z ?_;have hin:=aM B;have hqn:=aM E;refine J Z (W3 1 Z) Z<|J Z (W4 Z ar.bG.g0 Z) Z<|vQ 1 Z<|WV (e:=144) (m:=1) ha (du hin) Z Z Z Z (fun a2 ap W aE aa=>?_);obtain rfl:=aa;refine J Z (W7 ar W Z Z) Z<|vQ 1 Z<|J Z (fE (j:=q) oM U U U Z) Z<|Vy 5 Z<|aG Z (fun I=>?_) (fun I=>?_)
    ·have d:A i q=true:=by have e:=(su (x:=bL n<|A i) (j:=q) oM).symm.trans I;rw[dw,decide_eq_true hqn,zp_] at e;exact e
     refine We 4 Z<|J Z (jX (e:=3) (n:=2) (m:=1) (zero:=[D,D]) (cs:=[_,_]) U U U Z) Z<|fh ar Z (bN (e:=224) (m:=2) (z:=[D,D]) (cs:=[_,_]) U U U U<|aZ Z Z Z Z bE) (fun _=>Z) (fun O b2 ar=>?_);replace ar:=ar.pull (.there .here);replace ar:=ar.pull (.bV<|bu.here (X:=[_]));refine fw (R:=RP) (m:=2) (e:=224) hO2 ar (dn (m:=2) Z (show RP (i,q) [nI i,nI q] from Z)) RP.leaf (by have:=jl (n:=n) (R:=A) (i:=i) (q:=q);have:i*n<=64*64:=Nat.mul_le_mul oM hn;show _+1<=_;omega) Z Z Z Z Z Z Z (fun _=>Z) (fun O am ao hO38 ar=>?_);refine Wg 2 Z<|az<|Wd 5 Z<|aD ⟨j6-1,by omega,oF,q+1,am,ao,by omega,(jn d ▸ hO38),Z,cI<|aX oM,ar⟩
    have d:A i q=false:=by have e:=(su (x:=bL n<|A i) (j:=q) oM).symm.trans I;rw[dw,decide_eq_true hqn,zp_] at e;exact e
    refine aI<|az<|Wd 5 Z<|aD ⟨j6-1,by omega,oF,q+1,S,T,by omega,(kD d ▸ hO2),Z,cI<|aX oM,ar⟩
   refine UH 3 Z<|aN<|az<|Wd 5 Z ?_;have hlp:=aM B;have N:q=n:=by have:=bK E;omega
   subst N;refine aD ⟨j3-1,by omega,oF,i+1,S,T,by omega,(jm ▸ hO2),Z,cI<|aX oM,ar⟩
  exact absurd Q (by decide)
 refine UN 9 Z<|aU<|aN<|Wf 7 Z ?_;have N:i=n:=by have:=bK B;omega
 subst N;rw[nm] at hO;exact aA Z Z ⟨M,hO,ar.sub<|eb (.cons _ (.refl _))⟩
variable {iv:V}
structure pG (K:KP) (g:XG) (b:Nat) (va vb vc vd iv ev:V):Prop where
 row:K b (.row [va,vb,vc,vd,iv,ev,nI<|nV g] 223 false)
 gr:dS K g va vb vc vd
 ids:bO K 2 dK (gu g) iv
 jv:bO K 5 gG (zR g) ev
theorem pG.mono {K K':KP} {b:Nat} {va vb vc vd iv ev:V} (h:pG K g b va vb vc vd iv ev) (hk:KP.le K K'):pG K' g b va vb vc vd iv ev:=⟨hk _ _ h.row,h.gr.mono hk,h.ids.mono hk fun _ _ h=>h,h.jv.mono hk fun _ _ h=>h⟩
theorem CG (I:Plain G) {b:Nat} {ev:V} (hv:pG K g b va vb vc vd iv ev) {i:Nat} (hi:i<nV g) (ar:H O K L):
  Ca G K L 208 [.ptr b 0,nI i] O <| .bool (cz<|eu g i):=by
 refine V9 I Tryz.func208 Z<|Vw 8 Z<|J Z (cO Z) Z<|J Z (W3 5 Z) Z<|J Z (W4 Z (ar.cg hv.row) Z) Z<|vQ 1 Z<|WV (e:=38) (m:=5) hv.jv (eQ hi) Z Z Z Z (fun am aa u ab z=>?_);obtain rfl:=z;refine de u Z Z Z (k:=0) U (lb Z) (fun _=>Z) (fun ao A=>?_);refine J Z (W7 ar A Z Z) Z<|vQ 1 Z<|ky Z (an Z) (fun d=>?_) (fun d=>?_)
 ·refine VA 14 Z ?_;exact aA Z Z ⟨cB (by unfold cz;simp only[d,ct,cf]<;>rfl),ar⟩
 refine vQ 1 Z<|J Z (cO Z) Z<|J Z (W3 5 Z) Z<|J Z (W4 Z (ar.cg hv.row) Z) Z<|vQ 1 Z<|WV (e:=38) (m:=5) hv.jv (eQ hi) Z Z Z Z (fun ap ac B ak C=>?_);obtain rfl:=C;refine de B Z Z Z (k:=0) U (lb Z) (fun _=>Z) (fun aE E=>?_);refine J Z (W7 ar E Z Z) Z<|VA 6 Z ?_;exact aA Z Z ⟨cB (by unfold cz;simp only[d,ct,cf]<;>rfl),ar⟩
theorem zd (I:Plain G) {b:Nat} {ev:V} (hv:pG K g b va vb vc vd iv ev) {i:Nat} (hi:i<nV g) (ar:H O K L):
  Ca G K L 206 [.ptr b 0,nI i] O <| .bool (bz<|eu g i):=by
 refine V9 I Tryz.func206 Z<|Vw 8 Z<|J Z (cO Z) Z<|J Z (W3 5 Z) Z<|J Z (W4 Z (ar.cg hv.row) Z) Z<|vQ 1 Z<|WV (e:=38) (m:=5) hv.jv (eQ hi) Z Z Z Z (fun am aa u ab z=>?_);obtain rfl:=z;refine de u Z Z Z (k:=0) U (lb Z) (fun _=>Z) (fun ao A=>?_);refine J Z (W7 ar A Z Z) Z<|vQ 1 Z<|ky Z (an Z) (fun d=>?_) (fun d=>?_)
 ·refine VA 14 Z ?_;exact aA Z Z ⟨cB (by unfold bz;simp only[d,ct,cf]<;>rfl),ar⟩
 refine vQ 1 Z<|J Z (cO Z) Z<|J Z (W3 5 Z) Z<|J Z (W4 Z (ar.cg hv.row) Z) Z<|vQ 1 Z<|WV (e:=38) (m:=5) hv.jv (eQ hi) Z Z Z Z (fun ap ac B ak C=>?_);obtain rfl:=C;refine de B Z Z Z (k:=0) U (lb Z) (fun _=>Z) (fun aE E=>?_);refine J Z (W7 ar E Z Z) Z<|VA 6 Z ?_;exact aA Z Z ⟨cB (by unfold bz;simp only[d,ct,cf]<;>rfl),ar⟩
theorem QY (C:Plain G) {b:Nat} {ev:V} (hv:pG K g b va vb vc vd iv ev) {i:Nat} (hi:i<nV g) (ar:H O K L):
  Ca G K L 211 [.ptr b 0,nI i] O <| .bool (rM g i):=by
 refine V9 C Tryz.func211 Z<|Vw 8 Z<|J Z (cO Z) Z<|J Z (W3 5 Z) Z<|J Z (W4 Z (ar.cg hv.row) Z) Z<|vQ 1 Z<|WV (e:=38) (m:=5) hv.jv (eQ hi) Z Z Z Z (fun ac aa z ab A=>?_);obtain rfl:=A;refine de z Z Z Z (k:=2) U (lb Z) (fun _=>Z) (fun ak B=>?_);refine J Z (W7 ar B Z Z) Z<|UK 7 Z<|ky Z (an Z) (fun d=>?_) (fun d=>?_)
 ·refine VA 11 Z ?_;exact aA Z Z ⟨cB (by unfold rM;simp only[d,ct,cf]<;>rfl),ar⟩
 refine Wh 3 Z<|ky Z (an Z) (fun u=>?_) (fun u=>?_)
 ·refine VA 7 Z ?_;exact aA Z Z ⟨cB (by unfold rM;simp only[d,u,ct,cf]<;>rfl),ar⟩
 refine VA 7 Z ?_;exact aA Z Z ⟨cB (by unfold rM;simp only[d,u,ct,cf]<;>rfl),ar⟩
theorem TM (C:Plain G) {b:Nat} {ev:V} (hv:pG K g b va vb vc vd iv ev) {i:Nat} (hi:i<nV g) (ar:H O K L):
  Ca G K L 210 [.ptr b 0,nI i] O <| .bool (pJ g i):=by
 refine V9 C Tryz.func210 Z<|Vw 8 Z<|J Z (cO Z) Z<|J Z (W3 5 Z) Z<|J Z (W4 Z (ar.cg hv.row) Z) Z<|vQ 1 Z<|WV (e:=38) (m:=5) hv.jv (eQ hi) Z Z Z Z (fun ac aa z ab A=>?_);obtain rfl:=A;refine de z Z Z Z (k:=2) U (lb Z) (fun _=>Z) (fun ak B=>?_);refine J Z (W7 ar B Z Z) Z<|UK 7 Z<|ky Z (an Z) (fun d=>?_) (fun d=>?_)
 ·refine VA 11 Z ?_;exact aA Z Z ⟨cB (by unfold pJ;simp only[d,ct,cf]<;>rfl),ar⟩
 refine Wh 3 Z<|ky Z (an Z) (fun u=>?_) (fun u=>?_)
 ·refine VA 7 Z ?_;exact aA Z Z ⟨cB (by unfold pJ;simp only[d,u,ct,cf]<;>rfl),ar⟩
 refine VA 7 Z ?_;exact aA Z Z ⟨cB (by unfold pJ;simp only[d,u,ct,cf]<;>rfl),ar⟩
theorem CF (hG:Plain G) {b:Nat} {ev:V} (hv:pG K g b va vb vc vd iv ev) (hR:dC g) {i:Nat} (hi:i<nV g) (ar:H O K L):
  Ca G K L 209 [.ptr b 0,nI i] O <| .int .i64 (fB g i):=by
 have hvl:=jQ hR;refine V9 hG Tryz.func209 Z<|UE 10 Z<|kx (W2 Z Z Z) (CG hG hv hi ar) (fun O ar=>?_);refine J Z (dW Z) Z<|Vy 2 Z<|aG Z (fun u=>?_) (fun u=>?_)
 ·refine Vx 7 Z ?_;exact aA Z Z ⟨cJ (by unfold fB;rw[show cz (eu g i)=false from by revert u;cases cz (eu g i)<;>simp];rfl),ar⟩
 refine UF 3 Z<|aL (l:=zp [0,1,2,3,4,5,6,7,8,9,10,11,12,13,14,15,16,17,18,19,20,21,22,23,24,25,26,27]) U U ?_;have z:cz (eu g i)=true:=by revert u;cases cz (eu g i)<;>simp
 obtain⟨tt,kk,row,e,frow,q,C,E,bc,bd,A,hq,I,_⟩:=HW hR hi z;refine wQ 1 Z<|ah Z Z (cO Z) Z<|Wl ar 2 [0,2] Z Z<|ah Z Z (W4 Z (ar.cg hv.row) Z) Z<|wQ 1 Z<|ah Z Z (cO Z) Z<|ah Z Z (W3 4 Z) Z<|ah Z Z (W4 Z (ar.cg hv.row) Z) Z<|wQ 1 Z<|WW (e:=87) (m:=2) hv.ids (eE hi) Z Z Z Z Z (fun be aE M a0 N=>?_);obtain rfl:=N;refine dN M Z Z Z Z (k:=0) U (lb Z) (fun _=>Z) (fun bf Q=>?_);refine ah Z Z (W7 ar Q Z Z) Z (ah Z Z (ay (v:=nI tt) Z Z (by rw[C];exact cI (fD (by have:=hR.threads;have:=(gA.1 E).1;omega)))) Z<|WW (e:=42) (m:=1) hv.gr.from_ A Z Z Z Z Z (fun bg a1 R a2 S=>?_));have hr25':=S;obtain⟨bi,rfl,T⟩:=hr25';refine ah Z Z (W7 ar R Z Z) Z<|wQ 1 Z<|ah Z Z (cO Z) Z<|ah Z Z (W3 4 Z) Z<|ah Z Z (W4 Z (ar.cg hv.row) Z) Z<|wQ 1 Z<|WW (e:=87) (m:=2) hv.ids (eE hi) Z Z Z Z Z (fun bl a3 W a4 X=>?_);obtain rfl:=X;refine dN W Z Z Z Z (k:=1) U (lb Z) (fun _=>Z) (fun bm aa=>?_);refine ah Z Z (W7 ar aa Z Z) Z<|WW (e:=87) (m:=2) T hq Z Z Z Z (cI<|congrArg bS.index C) (fun bo a5 ab a9 ac=>?_);obtain rfl:=ac;refine ah Z Z (W8 ar ab Z Z) Z<|pC ar Z Z (W6 (cs:=[D,D])) (fun _=>Z) (fun O b1 ar=>?_);refine ia ar Z Z (W9 Z Z Z ar.g0 Z) Z (fun O ar=>?_);refine⟨aT,?_⟩;refine VB 2 Z<|UD 7 Z ?_;obtain⟨LL1,ar,hLL1⟩:=ar.named;refine bk ([4,6]++rg 37 18) (fun j t O=>∃(k:Nat),j+k=nV g/\eR (fun x:bS=>cC x.ints q.ints) (gu g) 0=eR (fun x:bS=>cC x.ints q.ints) ((gu g).drop k) k/\t.get 6=some (nI k)/\H O K LL1) (nV g) ⟨0,Z,Z,Z,ar⟩ ?_;clear ar;intro j5 t O ak hI;obtain⟨k,bp,he,ap,ar⟩:=hI;subst hLL1;obtain⟨oo,rfl⟩:=ak.q1 ap Z;refine UE 5 Z<|J Z (cO Z) Z<|J Z (W3 6 Z) Z<|J Z (W4 Z (ar.cg hv.row) Z) Z<|Vy 3 Z<|aG Z (fun d=>?_) (fun d=>?_)
 ·refine SE 5 Z<|aL (l:=zp [0,1,2,3,4,5,6,7,8]) U U<|wQ 1 Z<|ah Z Z (cO Z) Z<|ah Z Z (W3 4 Z) Z<|ah Z Z (W4 Z (ar.cg hv.row) Z) Z<|wQ 1 Z<|WW (e:=87) (m:=2) hv.ids (eE<|aM d) Z Z Z Z Z (fun bq ba am bb ao=>?_);obtain rfl:=ao;refine ah Z Z (W8 ar am Z Z) Z<|ah Z Z (Xc Z ar.g0 Z) Z<|ah Z Z (zF (n:=2) (ca:=[_,_]) (cb:=[_,_]) U Z Z Z Z) Z<|VB 2 Z<|aG Z (fun B=>?_) (fun B=>?_)
  ·refine Wf 7 Z<|aP<|aH<|bX<|aP<|aH (?_);exact aA Z Z ⟨cJ (by symm;unfold fB;rw[z,I];show eR (fun x:bS=>cC x.ints q.ints) (gu g) 0=_;rw[he,cQ<|eE<|aM d];show(bif cC (eT g k).ints q.ints then _ else _)=_;rw[show cC (eT g k).ints q.ints=true from B];rfl),ar.pop⟩
  refine aI<|az<|Wd 5 Z ?_;have hlp:=aM d;refine aD ⟨j5-1,by have:=aM d;omega,oF,k+1,by omega,by rw[he,cQ<|eE hlp];show(bif cC (eT g k).ints q.ints then _ else _)=_;rw[show cC (eT g k).ints q.ints=false from B];rfl,cI<|aX oM,ar⟩
 refine UH 3 Z<|aN<|Wf 6 Z ?_;exact aA Z Z ⟨cJ (by symm;unfold fB;rw[z,I];show eR (fun x:bS=>cC x.ints q.ints) (gu g) 0=_;rw[he,eU<|bK d];rfl),ar.pop⟩
theorem Sw (u:dC g) {i:Nat} (hi:i<nV g) (hw:bz (eu g i)=true):∃(ln:Nat) (r:List bS),(eu g i).loc= .ofNat ln/\g.order[ln]? =some r/\sV g (eu g i).loc=r:=by
 have key:∃ln:Nat,(eu g i).loc= .ofNat ln/\ln<g.order.length:=by
  rcases gh hi with ⟨x,v,h1,d,z⟩ | ⟨t,k,row,e,h1,d,z,E⟩
  ·exact⟨x,by rw[z],by rw[u.order];exact(gA.1 d).1⟩
  obtain⟨frow,A⟩:∃frow,g.from_[t]? =some frow:=⟨_,gC (by rw[u.from_];exact(gA.1 d).1)⟩;obtain⟨hl,B⟩:=u.rows t row frow d A;obtain⟨q,hq⟩:∃q,frow[k]? =some q:=⟨_,gC (by rw[hl];exact(gA.1 z).1)⟩;have hoke:=B k e q z hq;unfold yP at hoke
  have C:bY e (.ofNat g.init.length)=true:=by
   revert hoke;cases bY e (.ofNat g.init.length)<;>intro hoke
   ·exact Bool.noConfusion (show false=true from hoke)
   rfl
  obtain⟨ln,r,h5,I,_⟩:=Bc (fl.2 u) C (by rw[<-E];exact hw);exact⟨ln,by rw[E];exact h5,(gA.1 I).1⟩
 obtain⟨ln,h1,d⟩:=key;exact⟨ln,g.order[ln],h1,gC d,by unfold sV;rw[h1];show(g.order[ln]?).getD []=_;rw[gC d];rfl⟩
theorem Ir (hG:Plain G) {b:Nat} {ev:V} (hv:pG K g b va vb vc vd iv ev) (hR:dC g) {i:Nat} (hi:i<nV g) (hw:bz (eu g i)=true) (ar:H O K L):
  Ca G K L 242 [.ptr b 0,nI i] O <| .int .i64 (fI g i):=by
 have hvl:=jQ hR;obtain⟨ln,r,am,hr,E⟩:=Sw hR hi hw;refine V9 hG Tryz.func242 Z<|UE 9 Z<|J Z (cO Z) Z<|J Z (W3 4 Z) Z<|J Z (W4 Z (ar.cg hv.row) Z) Z<|vQ 1 Z<|WV (e:=87) (m:=2) hv.ids (eE hi) Z Z Z Z (fun bc ap I aE M=>?_);obtain rfl:=M;refine de I Z Z Z (k:=0) U (lb Z) (fun _=>Z) (fun bd N=>?_);refine J Z (W7 ar N Z Z) Z<|Vy 3 Z<|aG Z (fun B=>?_) (fun B=>?_)
 ·refine Vx 7 Z ?_;exact aA Z Z ⟨cJ (by unfold fI;rw[show F (eT g i).bH 0=true from B];rfl),ar⟩
 refine UF 3 Z<|aL (l:=zp [0,1,2,3,4,5,6,7,8,9,10,11,12,13,14,15]) U U<|wQ 1 Z<|ah Z Z (cO Z) Z<|Wl ar 2 [0,3] Z Z<|ah Z Z (W4 Z (ar.cg hv.row) Z) Z<|wQ 1 Z<|ah Z Z (cO Z) Z<|ah Z Z (W3 5 Z) Z<|ah Z Z (W4 Z (ar.cg hv.row) Z) Z<|wQ 1 Z<|WW (e:=38) (m:=5) hv.jv (eQ hi) Z Z Z Z Z (fun be a0 Q a1 R=>?_);obtain rfl:=R;refine dN Q Z Z Z Z (k:=1) U (lb Z) (fun _=>Z) (fun bf S=>?_);refine ah Z Z (W7 ar S Z Z) Z<|WW (e:=42) (m:=1) hv.gr.order hr Z Z Z Z (cI am) (fun bg a2 T a3 W=>?_);have hr29':=W;obtain⟨bi,rfl,d⟩:=hr29';refine ah Z Z (W7 ar T Z Z) Z<|VB 3 Z<|UD 7 Z ?_;obtain⟨LL1,ar,hLL1⟩:=ar.named;refine bk ([4,6]++rg 31 20) (fun j t O=>∃(k:Nat),j+k=r.length/\eR (fun x:bS=>cC x.ints (eT g i).ints) r 0=eR (fun x:bS=>cC x.ints (eT g i).ints) (r.drop k) k/\t.get 6=some (nI k)/\H O K LL1) (r.length) ⟨0,Z,Z,Z,ar⟩ ?_;clear ar;intro j5 t O ak hI;obtain⟨k,bl,he,ao,ar⟩:=hI;subst hLL1;obtain⟨oo,rfl⟩:=ak.q1 ao Z;refine UE 5 Z<|J Z (W5 d Z Z Z (e:=87) Z) Z<|Vy 3 Z<|aG Z (fun u=>?_) (fun u=>?_)
 ·refine SE 5 Z<|aL (l:=zp [0,1,2,3,4,5,6,7,8,9,10,11]) U U<|Wj 2 Z ?_;obtain⟨z,A,a4⟩:=di u;refine WW (e:=87) (m:=2) d A Z Z Z Z Z (fun bm a5 X a9 aa=>?_);obtain rfl:=aa;refine ah Z Z (W8 ar X Z Z) Z<|wQ 1 Z<|ah Z Z (cO Z) Z<|ah Z Z (W3 4 Z) Z<|ah Z Z (W4 Z (ar.cg hv.row) Z) Z<|wQ 1 Z<|WW (e:=87) (m:=2) hv.ids (eE hi) Z Z Z Z Z (fun bo ba ab bb ac=>?_);obtain rfl:=ac;refine ah Z Z (W8 ar ab Z Z) Z<|ah Z Z (zF (n:=2) (ca:=[_,_]) (cb:=[_,_]) U Z Z Z Z) Z<|VB 2 Z<|aG Z (fun C=>?_) (fun C=>?_)
  ·refine Wf 8 Z<|aP<|aH<|bX<|aP<|aH (?_);exact aA Z Z ⟨cJ (by symm;unfold fI;rw[show F (eT g i).bH 0=false from B,E];show(let p:=eR (fun x:bS=>cC x.ints (eT g i).ints) r 0;bif dH p 0 then-1 else wr .i64 (Int.add p 1))=_;rw[he,cQ A,show eR (fun x:bS=>cC x.ints (eT g i).ints) (z::r.drop (k+1)) k= .ofNat k from by show(bif cC z.ints (eT g i).ints then _ else _)=_;rw[show cC z.ints (eT g i).ints=true from C];rfl];rfl),ar⟩
  refine aI<|az<|Wd 5 Z ?_;have hlp:=aM u;refine aD ⟨j5-1,by have:=aM u;omega,oF,k+1,by omega,by rw[he,cQ A];show(bif cC z.ints (eT g i).ints then _ else _)=_;rw[show cC z.ints (eT g i).ints=false from C];rfl,cI<|aX (by have:=d.cS;omega),ar⟩
 refine UH 3 Z<|aN<|Wf 6 Z ?_;exact aA Z Z ⟨cJ (by symm;unfold fI;rw[show F (eT g i).bH 0=false from B,E];show(let p:=eR (fun x:bS=>cC x.ints (eT g i).ints) r 0;bif dH p 0 then-1 else wr .i64 (Int.add p 1))=_;rw[he,eU<|bK u];rfl),ar⟩
theorem PM (M:Plain G) {b:Nat} {ev:V} (hv:pG K g b va vb vc vd iv ev) {i:Nat} (hi:i<nV g) (hq:q<nV g) (ar:H O K L):
  Ca G K L 197 [.ptr b 0,nI i,nI q] O <| .bool (jT g i q):=by
 refine V9 M Tryz.func197 Z (Vv 6 Z (aL (l:=[(0,[]),(1,[]),(2,[]),(3,[]),(4,[]),(5,[]),(6,[]),(7,[]),(8,[]),(9,[]),(10,[]),(11,[]),(12,[]),(13,[]),(14,[]),(15,[]),(16,[10,13]),(17,[])]) U U<|wQ 1 Z<|ah Z Z (cO Z) Z<|ah Z Z (W3 4 Z) Z<|ah Z Z (W4 Z (ar.cg hv.row) Z) Z<|wQ 1 Z<|WW (e:=87) (m:=2) hv.ids (eE hi) Z Z Z Z Z (fun am aa C ab E=>?_)));obtain rfl:=E;refine ah Z Z (W8 ar C Z Z) Z<|wQ 1 Z<|ah Z Z (cO Z) Z<|ah Z Z (W3 4 Z) Z<|ah Z Z (W4 Z (ar.cg hv.row) Z) Z<|wQ 1 Z<|WW (e:=87) (m:=2) hv.ids (eE hq) Z Z Z Z Z (fun ao ac B ak I=>?_);obtain rfl:=I;refine ah Z Z (W8 ar B Z Z) Z<|pC ar Z Z (W6 (cs:=[D,D])) (fun _=>Z) (fun O b1 ar=>?_);refine pC ar Z Z (W6 (cs:=[D,D])) (fun _=>Z) (fun O b2 ar=>?_);refine nJ ar Z Z (W9 Z Z Z ar.g1 Z) Z (fun O ar=>?_);refine⟨(bj (bx Z Z Z Z Z (W4 Z (ar.cg hv.row) Z) hv.ids.dQ)<|bj (bx Z Z Z Z Z (W8 ar B Z Z)<|gT<|cP (fe _ _)<|cP (fe _ _) gf) aT),?_⟩;refine ia ar Z Z (W9 Z Z Z ar.g0 Z) Z (fun O ar=>?_);refine⟨aT,?_⟩;refine VB 2 Z<|VE ar 5 [0,1] Z Z<|ky Z (an Z) (fun u=>?_) (fun u=>?_)
 ·refine Wk ar 4 [0,0] Z Z<|ky Z (an Z) (fun A=>?_) (fun A=>?_)
  ·refine VA 22 Z ?_;exact aA Z Z ⟨cB (by unfold jT;simp only[u,A,ct,cf]<;>rfl),ar.pop.pop⟩
  refine Wk ar 3 [0,1] Z Z<|ky Z (an Z) (fun d=>?_) (fun d=>?_)
  ·refine Wk ar 6 [0,1,0,0] Z Z<|ky Z (an Z) (fun z=>?_) (fun z=>?_)
   ·refine VG ar 11 [1,1,1,0] Z Z ?_;exact aA Z Z ⟨cB (by unfold jT;simp only[u,A,d,z,ct,cf]<;>rfl),ar.pop.pop⟩
   refine VA 11 Z ?_;exact aA Z Z ⟨cB (by unfold jT;simp only[u,A,d,z,ct,cf]<;>rfl),ar.pop.pop⟩
  refine VA 18 Z ?_;exact aA Z Z ⟨cB (by unfold jT;simp only[u,A,d,ct,cf]<;>rfl),ar.pop.pop⟩
 refine Wk ar 8 [0,1] Z Z<|ky Z (an Z) (fun d=>?_) (fun d=>?_)
 ·refine Wk ar 6 [0,1,0,0] Z Z<|ky Z (an Z) (fun z=>?_) (fun z=>?_)
  ·refine VG ar 11 [1,1,1,0] Z Z ?_;exact aA Z Z ⟨cB (by unfold jT;simp only[u,d,z,ct,cf]<;>rfl),ar.pop.pop⟩
  refine VA 11 Z ?_;exact aA Z Z ⟨cB (by unfold jT;simp only[u,d,z,ct,cf]<;>rfl),ar.pop.pop⟩
 refine VA 18 Z ?_;exact aA Z Z ⟨cB (by unfold jT;simp only[u,d,ct,cf]<;>rfl),ar.pop.pop⟩
theorem VI (d:Plain G) {b:Nat} {ev:V} (hv:pG K g b va vb vc vd iv ev) (u:dC g) {i:Nat} (hi:i<nV g) (hq:q<nV g) (ar:H O K L):
  Ca G K L 198 [.ptr b 0,nI i,nI q] O <| .bool (tf g i q):=by
 refine V9 d Tryz.func198 Z<|Vw 9 Z<|kx (W2 Z Z Z) (CF d hv u hq ar) (fun O ar=>?_);refine VA 6 Z ?_;exact aA Z Z ⟨cB (by unfold tf;simp only[ct,cf]<;>rfl),ar⟩
theorem TL (X:Plain G) {b:Nat} {ev:V} (hv:pG K g b va vb vc vd iv ev) {i:Nat} (hi:i<nV g) (hq:q<nV g) (ar:H O K L):
  Ca G K L 161 [.ptr b 0,nI i,nI q] O <| .bool (sU g i q):=by
 refine V9 X Tryz.func161 Z<|Vv 6 Z<|aL (l:=zp [0,1,2,3,4,5,6,7,8,9,10,11,12,13,14,15,16,17,18,19,20,21,22,23,24,25,26,27,28,29,30,31,32,33,34,35,36,37,38,39,40,41,42,43,44]) U U<|Wj 3 Z<|e8 Z Z (an Z) (fun _=>Z) (fun d=>?_) (fun d=>?_)
 ·refine wQ 1 Z<|ah Z Z (cO Z) Z<|ah Z Z (W3 5 Z) Z<|ah Z Z (W4 Z (ar.cg hv.row) Z) Z<|wQ 1 Z<|WW (e:=38) (m:=5) hv.jv (eQ hi) Z Z Z Z Z (fun a0 aa A ab B=>?_);obtain rfl:=B;refine dN A Z Z Z Z (k:=0) U (lb Z) (fun _=>Z) (fun a1 C=>?_);refine ah Z Z (W7 ar C Z Z) Z<|Wj 2 Z<|e8 Z Z (an Z) (fun _=>Z) (fun u=>?_) (fun u=>?_)
  ·refine wQ 1 Z<|ah Z Z (cO Z) Z<|ah Z Z (W3 5 Z) Z<|ah Z Z (W4 Z (ar.cg hv.row) Z) Z<|wQ 1 Z<|WW (e:=38) (m:=5) hv.jv (eQ hq) Z Z Z Z Z (fun a2 ac E ak I=>?_);obtain rfl:=I;refine dN E Z Z Z Z (k:=0) U (lb Z) (fun _=>Z) (fun a3 M=>?_);refine ah Z Z (W7 ar M Z Z) Z<|Wj 2 Z<|e8 Z Z (an Z) (fun _=>Z) (fun z=>?_) (fun z=>?_)
   ·refine wQ 1 Z<|ah Z Z (cO Z) Z<|ah Z Z (W3 5 Z) Z<|ah Z Z (W4 Z (ar.cg hv.row) Z) Z<|wQ 1 Z<|WW (e:=38) (m:=5) hv.jv (eQ hi) Z Z Z Z Z (fun a4 am N ao Q=>?_);obtain rfl:=Q;refine dN N Z Z Z Z (k:=1) U (lb Z) (fun _=>Z) (fun a5 R=>?_);refine ah Z Z (W7 ar R Z Z) Z<|wQ 1 Z<|ah Z Z (cO Z) Z<|ah Z Z (W3 5 Z) Z<|ah Z Z (W4 Z (ar.cg hv.row) Z) Z<|wQ 1 Z<|WW (e:=38) (m:=5) hv.jv (eQ hq) Z Z Z Z Z (fun a9 ap S aE T=>?_);obtain rfl:=T;refine dN S Z Z Z Z (k:=1) U (lb Z) (fun _=>Z) (fun ba W=>?_);refine ah Z Z (W7 ar W Z Z) Z<|VC 6 Z ?_;exact aA Z Z ⟨cB (by unfold sU cL;simp only[d,u,z,ct,cf]<;>rfl),ar⟩
   refine VC 22 Z ?_;exact aA Z Z ⟨cB (by unfold sU cL;simp only[d,u,z,ct,cf]<;>rfl),ar⟩
  refine VC 33 Z ?_;exact aA Z Z ⟨cB (by unfold sU cL;simp only[d,u,ct,cf]<;>rfl),ar⟩
 refine VC 44 Z ?_;exact aA Z Z ⟨cB (by unfold sU cL;simp only[d,ct,cf]<;>rfl),ar⟩
theorem TK (A:Plain G) {b:Nat} {ev:V} (hv:pG K g b va vb vc vd iv ev) (Q:dC g) {i:Nat} (hi:i<nV g) (hq:q<nV g) (ar:H O K L):
  Ca G K L 199 [.ptr b 0,nI i,nI q] O <| .bool (rY g i q):=by
 refine V9 A Tryz.func199 Z<|Vv 6 Z<|aL (l:=zp [0,1,2,3,4,5,6,7,8,9,10,11,12,13,14,15,16,17,18,19,20,21,22,23,24,25,26,27,28,29,31,32,30,33,34,35,36]) U U<|Wj 2 Z<|Ia Z Z (W2 Z Z Z) (fun _=>Z) (zd A hv hi ar) (fun z O ar=>?_) (fun z O ar=>?_)
 ·refine⟨aT,?_⟩;refine Wj 3 Z<|Ia Z Z (W2 Z Z Z) (fun _=>Z) (zd A hv hq ar) (fun d O ar=>?_) (fun d O ar=>?_)
  ·refine⟨aT,?_⟩;refine Wj 3 Z<|ah Z Z (cO Z) Z<|ah Z Z (W3 5 Z) Z<|ah Z Z (W4 Z (ar.cg hv.row) Z) Z<|wQ 1 Z<|WW (e:=38) (m:=5) hv.jv (eQ hi) Z Z Z Z Z (fun am aa B ab C=>?_);obtain rfl:=C;refine dN B Z Z Z Z (k:=1) U (lb Z) (fun _=>Z) (fun ao E=>?_);refine ah Z Z (W7 ar E Z Z) Z<|wQ 1 Z<|ah Z Z (cO Z) Z<|ah Z Z (W3 5 Z) Z<|ah Z Z (W4 Z (ar.cg hv.row) Z) Z<|wQ 1 Z<|WW (e:=38) (m:=5) hv.jv (eQ hq) Z Z Z Z Z (fun ap ac I ak M=>?_);obtain rfl:=M;refine dN I Z Z Z Z (k:=1) U (lb Z) (fun _=>Z) (fun aE N=>?_);refine ah Z Z (W7 ar N Z Z) Z<|Wj 2 Z<|e8 Z Z (an Z) (fun _=>Z) (fun u=>?_) (fun u=>?_)
   ·refine Wj 4 Z<|eL Z Z (W2 Z Z Z) (fun _=>Z) (Ir A hv Q hi z ar) (fun O ar=>?_);refine⟨aT,?_⟩;refine eL Z Z (W2 Z Z Z) (fun _=>Z) (Ir A hv Q hq d ar) (fun O ar=>?_);refine⟨aT,?_⟩;refine VC 6 Z ?_;exact aA Z Z ⟨cB (by unfold rY;simp only[z,d,u,ct,cf]<;>rfl),ar⟩
   refine VC 12 Z ?_;exact aA Z Z ⟨cB (by unfold rY;simp only[z,d,u,ct,cf]<;>rfl),ar⟩
  refine⟨aT,?_⟩;refine VC 33 Z ?_;exact aA Z Z ⟨cB (by unfold rY;simp only[z,d,ct,cf]<;>rfl),ar⟩
 refine⟨aT,?_⟩;refine VC 37 Z ?_;exact aA Z Z ⟨cB (by unfold rY;simp only[z,ct,cf]<;>rfl),ar⟩
theorem VH (A:Plain G) {b:Nat} {ev:V} (hv:pG K g b va vb vc vd iv ev) (B:dC g) {i:Nat} (hi:i<nV g) (hq:q<nV g) (ar:H O K L):
  Ca G K L 200 [.ptr b 0,nI i,nI q] O <| .bool (uF g i q):=by
 refine V9 A Tryz.func200 Z<|Vw 10 Z<|ky Z (an Z) (fun d=>?_) (fun d=>?_)
 ·refine Wh 2 Z<|gz Z (W2 Z Z Z) (fun _=>Z) (CG A hv hi ar) (fun u O ar=>?_) (fun u O ar=>?_)
  ·refine Wh 5 Z ?_;obtain⟨f,hf,z,_⟩:=jL B hi u;refine kx (W2 Z Z Z) (by have q:=CF A hv B hi ar;rw[z] at q;exact q) (fun O ar=>?_);refine vQ 1 Z<|kx (W2 Z Z Z) (TK A hv B hf hq ar) (fun O ar=>?_);have C:(fB g i).toNat=f:=by rw[z];rfl
   refine VA 5 Z ?_;exact aA Z Z ⟨cB (by unfold uF cL;simp only[d,u,ct,cf,C]<;>rfl),ar⟩
  refine VA 13 Z ?_;exact aA Z Z ⟨cB (by unfold uF cL;simp only[d,u,ct,cf]<;>rfl),ar⟩
 refine VA 16 Z ?_;exact aA Z Z ⟨cB (by unfold uF cL;simp only[d,ct,cf]<;>rfl),ar⟩
theorem QX (hG:Plain G) (hg:dS K g va vb vc vd) (E:dC g) (ar:H O K L):
  EC G 196 [.agg [va,vb,vc,vd]] O fun u O'=>∃M,cy 2 87 dK (gu g) u M/\H O' K (M++L):=by
 refine V9 hG Tryz.func196 Z<|Vw 2 Z<|kb ar (cH Z Z) (fun O b1 ar=>?_);refine TD 15 Z (bk ([3,4]++rg 7 12) (fun j t O=>∃(i:Nat) (u:V) (M:Own),j+i=g.init.length/\cy 2 87 dK (iH g i 0 0) u M/\t.get 3=some (u)/\t.get 4=some (nI i)/\H O K (M++(b1,.row [va,vb,vc,vd] 52 false)::L)) (g.init.length) ⟨0,_,[],Z,.inl ⟨Z,Z,Z⟩,Z,Z,ar⟩ ?_);clear ar;intro j3 t O ak Q;obtain⟨i,u,M,ba,hO,A,ab,ar⟩:=Q;obtain⟨oo,rfl⟩:=ak.q2 A ab Z;refine UO ar 5 [0] Z Z<|J Z (W4 Z ar.bG.g0 Z) Z<|J Z (W5 hg.init Z Z Z (e:=2) Z) Z<|Vy 3 Z<|aG Z (fun I=>?_) (fun I=>?_)
 ·refine TC 4 Z (We 3 Z (J Z (W1 (places:=[(0,1),(1,1)]) (zero:=[D,D]) (cs:=[_,_]) Z) Z<|fh ar Z (bN (e:=87) (m:=2) (z:=[D,D]) (cs:=[_,_]) U U U U<|aZ Z Z Z Z bE) (fun _=>Z) (fun O b2 ar=>?_)));replace ar:=ar.pull (.there .here);replace ar:=ar.pull (.bV<|bu.here (X:=[_]));refine fw (R:=dK) (m:=2) (e:=87) hO ar (dn (m:=2) Z (show dK ⟨0,.ofNat i⟩ [D,nI i] from Z)) dK.leaf (by have:=tL E (i:=i) (t:=0) (k:=0) (by have:=E.init;have:=aM I;omega) oM oM;show _+1<=_;omega) Z Z Z Z Z Z Z (fun _=>Z) (fun O ac am hO18 ar=>?_);refine Wg 2 Z<|az<|Wd 5 Z ?_;have hlp:=aM I;refine aD ⟨j3-1,by omega,oF,i+1,ac,am,by omega,(Ch ▸ hO18),Z,cI<|aX (by have:=E.init;omega),ar⟩
 refine UH 3 Z<|aN<|UE 3 Z ?_;have ao:i=g.init.length:=by have:=bK I;omega
 subst ao;refine UI 4 Z (bk ([3,5,6]++rg 19 24) (fun j t O=>∃(C:Nat) (u2:V) (S:Own),j+C=g.threads.length/\cy 2 87 dK (iH g g.init.length C 0) u2 S/\t.get 3=some (u2)/\t.get 5=some (nI C)/\H O K (S++(b1,.row [va,vb,vc,vd] 52 false)::L)) (g.threads.length) ⟨0,u,M,Z,hO,Z,Z,ar⟩ ?_);clear ar;intro j7 t O ak Q;obtain⟨C,u2,S,bb,hO2,A,ap,ar⟩:=Q;obtain⟨oo,rfl⟩:=ak.q2 A ap Z;refine UO ar 5 [1] Z Z<|J Z (W4 Z ar.bG.g0 Z) Z<|J Z (W5 hg.threads Z Z Z (e:=25) Z) Z<|Vy 3 Z<|aG Z (fun d=>?_) (fun d=>?_)
 ·refine SF 6 Z ?_;obtain⟨row,B,_⟩:=di d;have hrl:=E.short _ _ B;refine UI 4 Z (bk ([3,6]++rg 26 17) (fun j t O=>∃(k:Nat) (u3:V) (M3:Own),j+k=row.length/\cy 2 87 dK (iH g g.init.length C k) u3 M3/\t.get 3=some (u3)/\t.get 6=some (nI k)/\H O K (M3++(b1,.row [va,vb,vc,vd] 52 false)::L)) (row.length) ⟨0,u2,S,Z,hO2,Z,Z,ar⟩ ?_);clear ar;intro aE t O ak Q;obtain⟨k,u3,M3,a4,hO3,A,a0,ar⟩:=Q;obtain⟨oo,rfl⟩:=ak.q2 A a0 Z;refine UO ar 5 [1] Z Z<|J Z (W4 Z ar.bG.g0 Z) Z<|vQ 1 Z<|WV (e:=25) (m:=1) hg.threads B Z Z Z Z (fun bc a5 T a9 W=>?_);have hr30':=W;obtain⟨bd,rfl,aa⟩:=hr30';refine J Z (W7 ar T Z Z) Z<|J Z (W5 aa Z Z Z (e:=38) Z) Z<|Vy 3 Z<|aG Z (fun N=>?_) (fun N=>?_)
  ·refine TC 4 Z (We 3 Z (J Z (ay (v:=nI (C+1)) Z Z<|cI<|aX (by have:=E.threads;have:=aM d;omega)) Z (vQ 1 Z (J Z (W1 (places:=[(0,1),(1,1)]) (zero:=[D,D]) (cs:=[_,_]) Z) Z<|fh ar Z (bN (e:=87) (m:=2) (z:=[D,D]) (cs:=[_,_]) U U U U<|aZ Z Z Z Z bE) (fun _=>Z) (fun O b2 ar=>?_)))));replace ar:=ar.pull (.there .here);replace ar:=ar.pull (.bV<|bu.here (X:=[_]));refine fw (R:=dK) (m:=2) (e:=87) hO3 ar (dn (m:=2) Z (show dK ⟨.ofNat (C+1),.ofNat k⟩ [nI (C+1),nI k] from Z)) dK.leaf (by have:=tL E (i:=g.init.length) (t:=C) (k:=k) E.init (by have:=aM N;omega) (by have:=E.threads;have:=aM d;omega);show _+1<=_;omega) Z Z Z Z Z Z Z (fun _=>Z) (fun O a1 a2 hO42 ar=>?_);refine Wg 2 Z<|az<|Wd 5 Z ?_;have hlp:=aM N;refine aD ⟨aE-1,by omega,oF,k+1,a1,a2,by omega,(yl ▸ hO42),Z,cI<|aX oM,ar⟩
  refine UH 3 Z<|aN<|az<|Wd 5 Z ?_;have hlp:=aM d;have a3:k=row.length:=by have:=bK N;omega
  subst a3;refine aD ⟨j7-1,by omega,oF,C+1,u3,M3,by omega,(Gq B ▸ hO3),Z,cI<|aX (by have:=E.threads;omega),ar⟩
 refine UH 3 Z<|aN<|Wf 7 Z ?_;exact aA Z Z ⟨S,(yj (bK d) ▸ hO2),ar.sub<|eb (.cons _ (.refl _))⟩
theorem Sc (hG:Plain G) (hg:dS K g va vb vc vd) (ar:H O K L):
  EC G 160 [.agg [va,vb,vc,vd]] O fun u O'=>(F (ec g) 0=false/\u= .tuple [.nilPtr,.bool false]/\H O' K L)∨(dC g/\∃K1 b a1 b1 c1 d1 iv ev,u= .tuple [.ptr b 0,.bool true]/\KP.le K K1/\pG K1 g b a1 b1 c1 d1 iv ev/\H O' K1 L):=by
 refine V9 hG Tryz.func160 Z<|Vw 2 Z<|kb ar (cH Z Z) (fun O b1 ar=>?_);refine TE 7 Z<|J Z (Xd Z ar.g0 Z) Z<|kx (W2 Z Z Z) (vw hG hg ar) (fun O ar=>?_);refine Vy 3 Z<|aG Z (fun h9=>?_) (fun h9=>?_)
 ·refine Vx 8 Z ?_;exact fN Z Z Z (.inl ⟨cY h9,Z,ar.pop⟩)
 refine UF 3 Z (aL (l:=[(0,[]),(1,[]),(2,[0]),(3,[]),(4,[]),(5,[])]) U U ?_);have hR:dC g:=fl.1 (eqv<|cD h9);have hvl:=jQ hR;refine ah Z Z (Xd Z ar.g0 Z) Z<|ah Z Z (Xd Z ar.g0 Z) Z<|ed Z Z (W2 Z Z Z) (fun _=>Z) (QX hG hg hR ar) ?_;rintro u12 O ⟨bp,hO12,ar⟩;obtain⟨K1,I,S,ar⟩:=H.bF (M:=bp) ar;have d:bO K1 2 dK (gu g) u12:=hO12.fg fun y hy=>S _ hy
 replace hg:=hg.mono I;refine⟨(bj (bx Z Z Z Z Z (Xd Z ar.g0 Z)<|gT<|cP hg.init.iK<|cP hg.threads.iK<|cP hg.from_.iK<|cP hg.order.iK gf) aT),?_⟩;refine ah Z Z (cE (places:=[(0,4),(4,1),(5,1),(6,1)]) (zero:=[.av,.av,.av,.av,.av,.av,D]) (cs:=[_,_,_,_,_,_,_]) U U U (aZ Z Z Z Z<|aZ Z Z d.leaf.1 Z bE) U) Z<|pC ar Z Z (cH Z Z) (fun _=>Z) (fun O b2 ar=>?_);refine VB 3 Z<|Vw 4 Z<|J Z (cO Z) Z<|Wk ar 2 [4,0] Z Z<|J Z (W5 d Z Z Z (e:=87) Z) Z<|J Z (cO Z) Z<|J Z (W3 6 Z) Z<|ks ar (Sx Z Z Z ar.g0 (m:=1) Z Z (cells':=[_,_,_,_,_,_,_]) Z) (fun O ar=>?_);refine TD 9 Z (bk ([5,6]++rg 23 72) (fun j t O=>∃(i:Nat) (u:V) (M:Own),j+i=nV g/\cy 5 38 gG ((zR g).take i) u M/\t.get 5=some (nI i)/\H O K1 (M++(b2,.row [va,vb,vc,vd,u12,u,nI<|nV g] 223 false)::(b1,.row [va,vb,vc,vd] 52 false)::L)) (nV g) ⟨0,_,[],Z,.inl ⟨Z,Z,Z⟩,Z,ar⟩ ?_);clear ar;intro j6 t O ak hI;obtain⟨i,u,M,ck,hO,bq,ar⟩:=hI;obtain⟨oo,rfl⟩:=ak.q1 bq Z;refine UE 5 Z<|J Z (cO Z) Z<|J Z (W3 6 Z) Z<|J Z (W4 Z ar.bG.g0 Z) Z<|Vy 3 Z<|aG Z (fun A=>?_) (fun A=>?_)
 ·refine SF 6 Z ?_;have hin:=aM A;refine vQ 1 Z<|J Z (cO Z) Z<|J Z (W3 4 Z) Z<|J Z (W4 Z ar.bG.g0 Z) Z<|vQ 1 Z<|WV (e:=87) (m:=2) d (eE hin) Z Z Z Z (fun cl bw ab bD ac=>?_);obtain rfl:=ac;refine de ab Z Z Z (k:=1) U (lb Z) (fun _=>Z) (fun cn am=>?_);refine J Z (W7 ar am Z Z) Z (J Z (W1 (places:=[(0,1),(1,1),(2,1),(3,1),(4,1)]) (zero:=[D,D,D,D,D]) (cs:=[_,_,_,_,_]) Z) Z<|kb ar (W6 (cs:=[D,D,D,D,D])) (fun O b3 ar=>?_));refine ks ar (Xb Z Z Z ar.g0 Z) (fun O ar=>?_);refine TE 6 Z<|J Z (cO Z) Z<|J Z (W3 4 Z) Z<|J Z (W4 Z ar.pop.bG.g0 Z) Z<|vQ 1 Z<|WV (e:=87) (m:=2) d (eE hin) Z Z Z Z (fun co bH ao b0 ap=>?_);obtain rfl:=ap;refine de ao Z Z Z (k:=0) U (lb Z) (fun _=>Z) (fun cp aE=>?_);refine J Z (W7 ar aE Z Z) Z<|Vy 3 Z<|aG Z (fun B=>?_) (fun B=>?_)
  ·obtain⟨tt,kk,row,e,C,N,bs,T⟩:∃(t k:Nat) (row:List cm) (e:cm),eT g i=⟨.ofNat (t+1),.ofNat k⟩/\g.threads[t]? =some row/\row[k]? =some e/\eu g i=e:=by rcases gh hin with ⟨x,v,h1,_⟩ | h;(rw[h1] at B;exact Bool.noConfusion (show false=true from B));exact h
   refine aL (l:=zp [0,1,2,3,4,5,6,7,8,9,10,11,12,13,14,15,16,17,18,19,20,21,22,23]) U U<|ah Z Z (W3 1 Z) Z<|ah Z Z (W4 Z ar.pop.bG.pop.g0 Z) Z<|wQ 1 Z<|ah Z Z (cO Z) Z<|ah Z Z (W3 4 Z) Z<|ah Z Z (W4 Z ar.pop.bG.g0 Z) Z<|wQ 1 Z<|WW (e:=87) (m:=2) d (eE hin) Z Z Z Z Z (fun cr b5 a0 b6 a2=>?_);obtain rfl:=a2;refine dN a0 Z Z Z Z (k:=0) U (lb Z) (fun _=>Z) (fun cv a3=>?_);refine ah Z Z (W7 ar a3 Z Z) Z (ah Z Z (ay (v:=nI tt) Z Z (by rw[C];exact cI (fD (by have:=hR.threads;have:=(gA.1 N).1;omega)))) Z<|WW (e:=25) (m:=1) hg.threads N Z Z Z Z Z (fun cw b7 a4 b8 a5=>?_));have hr60':=a5;obtain⟨cx,rfl,a9⟩:=hr60';refine ah Z Z (W7 ar a4 Z Z) Z<|wQ 1 Z<|ah Z Z (cO Z) Z<|ah Z Z (W3 4 Z) Z<|ah Z Z (W4 Z ar.pop.bG.g0 Z) Z<|wQ 1 Z<|WW (e:=87) (m:=2) d (eE hin) Z Z Z Z Z (fun c0 b9 ba ca bb=>?_);obtain rfl:=bb;refine dN ba Z Z Z Z (k:=1) U (lb Z) (fun _=>Z) (fun c2 bc=>?_);refine ah Z Z (W7 ar bc Z Z) Z<|WW (e:=38) (m:=5) a9 bs Z Z Z Z (cI<|congrArg bS.index C) (fun c3 cb bd cc be=>?_);obtain rfl:=be;refine ah Z Z (W8 ar bd Z Z) Z<|ia ar Z Z (Xb Z Z Z ar.g0 Z) Z (fun O ar=>?_);refine⟨aT,?_⟩;refine VB 2 Z<|aL (l:=zp [0,1,2,3,4,5,6,7,8,9,10]) U U<|Wj 2 Z<|ah Z Z (cO Z) Z<|ah Z Z (W3 5 Z) Z<|ah Z Z (W4 Z ar.pop.bG.g0 Z) Z<|ah Z Z (Xe Z ar.g0 Z) Z<|gx ar Z Z (bN (e:=38) (m:=5) (z:=[D,D,D,D,D]) (cs:=[_,_,_,_,_]) U U U U<|aZ Z Z Z Z bE) (fun _=>Z) (fun O b4 ar=>?_);replace ar:=ar.pull (.there (.there .here));replace ar:=ar.pull (.bV<|bu.here (X:=[_]));refine gP (R:=gG) (m:=5) (e:=38) hO ar (dn (m:=5) Z (show gG e _ from Z)) gG.leaf (by rw[lT_];show _+1<=_;omega) Z Z Z Z Z Z Z Z (fun _=>Z) (fun O E M92 hO92 ar=>?_);refine⟨aT,?_⟩;refine ah Z Z (cO Z) Z<|ah Z Z (W3 5 Z) Z<|eF ar (.bV (.there .here)) Z Z (aO Z Z hO92.leaf.1 ar.bG.pop.g0 (m:=1) U Z (lb Z) (aj hO92.leaf.2 aC) (cells':=[_,_,_,_,_,_,_]) Z) Z (fun O ar=>?_);refine⟨aT,?_⟩;replace ar:=ar.sub (eb (.cons _ (.cons_cons _ (.cons_cons _ (.refl _)))));refine aV<|az<|Wd 5 Z ?_;have hO93:cy 5 38 gG ((zR g).take (i+1)) E M92:=by rw[zb_,eQ hin,T];exact hO92
   refine aD ⟨j6-1,by have:=aM A;omega,oF,i+1,E,M92,by omega,hO93,cI<|aX oM,ar⟩
  obtain⟨xx,xv,C,bt,T⟩:∃(x:Nat) (v:Int),eT g i=⟨0,.ofNat x⟩/\g.init[x]? =some v/\eu g i=⟨2,.ofNat x,1,0,v⟩:=by rcases gh hin with h | ⟨t,k,row,e,h1,_⟩;exact h;(rw[h1] at B;exact Bool.noConfusion (show true=false from B))
  refine aL (l:=zp [0,1,2,3,4,5,6,7,8,9,10,11,12,13]) U U<|ah Z Z (W3 0 Z) Z<|ah Z Z (W4 Z ar.pop.bG.pop.g0 Z) Z<|wQ 1 Z<|ah Z Z (cO Z) Z<|ah Z Z (W3 4 Z) Z<|ah Z Z (W4 Z ar.pop.bG.g0 Z) Z<|wQ 1 Z<|WW (e:=87) (m:=2) d (eE hin) Z Z Z Z Z (fun c4 cd bf ce bg=>?_);obtain rfl:=bg;refine dN bf Z Z Z Z (k:=1) U (lb Z) (fun _=>Z) (fun c5 bi=>?_);refine ah Z Z (W7 ar bi Z Z) Z<|WW (e:=2) (m:=1) hg.init bt Z Z Z Z (cI<|congrArg bS.index C) (fun c6 ch bl ci bm=>?_);obtain rfl:=bm;refine ah Z Z (W7 ar bl Z Z) Z<|ah Z Z (W3 4 Z) Z<|ia ar Z Z (Sx Z Z Z ar.g0 (m:=1) Z Z (cells':=[_,_,_,_,_]) Z) Z (fun O ar=>?_);refine⟨aT,?_⟩;refine VB 2 Z<|aL (l:=zp [0,1,2,3,4,5,6,7,8,9,10]) U U<|Wj 2 Z<|ah Z Z (cO Z) Z<|ah Z Z (W3 5 Z) Z<|ah Z Z (W4 Z ar.pop.bG.g0 Z) Z<|ah Z Z (Xe Z ar.g0 Z) Z<|gx ar Z Z (bN (e:=38) (m:=5) (z:=[D,D,D,D,D]) (cs:=[_,_,_,_,_]) U U U U<|aZ Z Z Z Z bE) (fun _=>Z) (fun O b4 ar=>?_);replace ar:=ar.pull (.there (.there .here));replace ar:=ar.pull (.bV<|bu.here (X:=[_]));refine gP (R:=gG) (m:=5) (e:=38) hO ar (dn (m:=5) Z (show gG ⟨2,(eT g i).index,1,0,xv⟩ _ from Z)) gG.leaf (by rw[lT_];show _+1<=_;omega) Z Z Z Z Z Z Z Z (fun _=>Z) (fun O E M92 hO92 ar=>?_);refine⟨aT,?_⟩;refine ah Z Z (cO Z) Z<|ah Z Z (W3 5 Z) Z<|eF ar (.bV (.there .here)) Z Z (aO Z Z hO92.leaf.1 ar.bG.pop.g0 (m:=1) U Z (lb Z) (aj hO92.leaf.2 aC) (cells':=[_,_,_,_,_,_,_]) Z) Z (fun O ar=>?_);refine⟨aT,?_⟩;replace ar:=ar.sub (eb (.cons _ (.cons_cons _ (.cons_cons _ (.refl _)))));refine aV<|az<|Wd 5 Z ?_;have hO93:cy 5 38 gG ((zR g).take (i+1)) E M92:=by rw[zb_,eQ hin,T];rw[show(eT g i).index= .ofNat xx from by rw[C]] at hO92;exact hO92
  refine aD ⟨j6-1,by have:=aM A;omega,oF,i+1,E,M92,by omega,hO93,cI<|aX oM,ar⟩
 refine UH 3 Z<|aN<|Wf 8 Z ?_;have bv:i=nV g:=by have:=bK A;omega
 subst bv;rw[tL_<|Nat.le_of_eq Ly] at hO;obtain⟨K2,bo,W,ar⟩:=H.bF (M:=M) ar;obtain⟨K3,Q,aa,ar⟩:=H.bF (M:=[_]) ar;have hle23:=KP.le_trans bo Q;exact fN Z Z Z (.inr ⟨hR,K3,b2,va,vb,vc,vd,u12,u,Z,KP.le_trans I hle23,⟨aa _<|mS_ ..,hg.mono hle23,d.mono hle23 fun _ _ h=>h,hO.fg fun y hy=>Q _ _ (W _ hy)⟩,ar.pop⟩)
theorem G3 (hG:Plain G) {b:Nat} {ev:V} (hv:pG K g b va vb vc vd iv ev) (hR:dC g) {w:Nat} (hw:w<nV g) (ar:H O K L):
  Ca G K L 207 [.ptr b 0,nI w] O <| .int .u64 (.ofNat<|bL (nV g)<|mR g w):=by
 have hvl:=jQ hR;have h0b:2 ^ w=bL (nV g) (fun k=>false || decide (k=w)):=by rw[<-km (fun _=>false) hw,kq,Nat.zero_or]
 refine V9 hG Tryz.func207 Z (Vw 8 Z (J Z (fE (j:=w) oM U U U Z) Z (J Z (ay (v:=.int .u64 (.ofNat (2 ^ w))) Z Z<|wo oM) Z<|TD 10 Z ?_)));obtain⟨LL1,ar,hLL1⟩:=ar.named;refine bk ([5,6,7]++rg 11 41) (fun j t O=>∃(E:Nat->Bool) (ag:Bool),E w=true/\(∀k,E k=true->Sq g w k)/\(ag=true->nV g+1<=gL (nV g) E+j)/\(ag=false->∀q u,q<nV g->F (eu g q).kind 3=true->fB g q= .ofNat u->E u=true->E q=true)/\t.get 5=some (.int .u64 (.ofNat<|bL (nV g) E))/\t.get 6=some (.bool ag)/\H O K LL1) (nV g+1) ⟨(fun k=>false || decide (k=w)),true,(by simp),(fun k hk=>(by simp at hk;subst hk;exact .base)),(fun _=>Nat.le_add_left _ _),(fun e=>by cases e),(congrArg (fun z=>some (V.int .u64 (.ofNat z))) h0b),Z,ar⟩ ?_;clear ar;intro j3 t O ak hI;obtain⟨E,ag,A,d,hj,am,T,W,ar⟩:=hI;subst hLL1;obtain⟨oo,rfl⟩:=ak.q2 T W Z;refine Vv 6 Z<|aG Z (fun a0=>?_) (fun a0=>?_)
 ·refine aI<|ad<|aK<|Wc 10 Z<|aK ?_;obtain⟨LL2,ar,hLL2⟩:=ar.named;refine bk ([5,6,7]++rg 12 40) (fun j t O=>∃(i:Nat) (P:Nat->Bool) (B:Bool),j+i=nV g/\P w=true/\(∀k,P k=true->Sq g w k)/\(∀{k},E k=true->P k=true)/\(B=true->gL (nV g) E<gL (nV g) P)/\(B=false->∀q u,q<i->F (eu g q).kind 3=true->fB g q= .ofNat u->P u=true->P q=true)/\t.get 5=some (.int .u64 (.ofNat<|bL (nV g) P))/\t.get 6=some (.bool B)/\t.get 7=some (nI i)/\H O K LL2) (nV g) ⟨0,E,false,Z,A,d,(fun h=>h),(fun e=>by cases e),(fun _ q u hq=>absurd hq (nZ_ _)),Z,Z,Z,ar⟩ ?_;clear ar;intro j6 t O ak hI;obtain⟨i,P,B,a9,A,d,I,Q,R,T,W,a1,ar⟩:=hI;subst hLL2;obtain⟨oo,rfl⟩:=ak.q3 T W a1 Z;refine UE 5 Z<|J Z (cO Z) Z<|J Z (W3 6 Z) Z<|J Z (W4 Z (ar.cg hv.row) Z) Z<|Vy 3 Z<|aG Z (fun X=>?_) (fun X=>?_)
  ·refine SF 6 Z ?_;have hin:=aM X;refine vQ 1 Z<|J Z (cO Z) Z<|J Z (W3 5 Z) Z<|J Z (W4 Z (ar.cg hv.row) Z) Z<|vQ 1 Z<|WV (e:=38) (m:=5) hv.jv (eQ hin) Z Z Z Z (fun ba a4 ao a5 ap=>?_);obtain rfl:=ap;refine de ao Z Z Z (k:=0) U (lb Z) (fun _=>Z) (fun bb aE=>?_);refine J Z (W7 ar aE Z Z) Z<|vQ 1 Z<|ky Z (an Z) (fun S=>?_) (fun S=>?_)
   ·refine Wh 2 Z<|J Z (fE (j:=i) oM U U U Z) Z<|Wh 4 Z<|ky Z (an Z) (fun aa=>?_) (fun aa=>?_)
    ·refine Wh 3 Z ?_;obtain⟨f,hf,ab,_⟩:=jL hR hin (kW S);refine kx (W2 Z Z Z) (by have q:=CF hG hv hR hin ar;rw[ab] at q;exact q) (fun O ar=>?_);refine J Z (fE (j:=f) oM U U U Z) Z<|Vy 6 Z<|aG Z (fun ac=>?_) (fun ac=>?_)
     ·refine Vw 4 Z (J Z (fE (j:=i) oM U U U Z) Z (J Z (ay (v:=.int .u64 (.ofNat (2 ^ i))) Z Z<|wo oM) Z (J Z (ay (v:=.int .u64 (.ofNat<|bL (nV g) P ||| 2 ^ i)) Z Z<|wD (cX oM _)<|Nat.pow_lt_pow_right oM oM) Z<|UL 7 Z<|Wd 5 Z ?_)));have a2:P i=false:=by have e:=(Da (x:=bL (nV g) P) (j:=i) oM).symm.trans aa;rw[dw,decide_eq_true hin,zp_] at e;revert e;cases P i<;>simp
      have a3:P f=true:=by have e:=(su (x:=bL (nV g) P) (j:=f) oM).symm.trans ac;rw[dw,decide_eq_true hf,zp_] at e;exact e
      refine aD ⟨j6-1,by omega,oF,i+1,(fun k=>P k || decide (k=i)),true,by omega,by simp[A],fun k hk=>(by rcases Bool.or_eq_true_iff.1 hk with h | h;(exact d k h);(obtain rfl:=of_decide_eq_true h;exact .step hin S ab<|d f a3)),(fun h=>by simp[I h]),(fun _=>Nat.lt_of_le_of_lt (Au fun _ h=>I h) (Lb hin a2)),(fun e=>by cases e),(by first | rfl | exact congrArg (fun z=>some (V.int .u64 (.ofNat z)))<|km _ hin),Z,cI<|aX oM,ar⟩
     refine aI<|az<|Wd 5 Z ?_;refine aD ⟨j6-1,by omega,oF,i+1,P,B,by omega,A,d,I,Q,fun e q u hq h1 C M=>(by rcases Nat.lt_or_ge q i with h | h;(exact R e q u h h1 C M);(have N:q=i:=by omega);rw[N] at h1 C⊢;have e:=(su (x:=bL (nV g) P) (j:=f) oM).symm.trans ac;rw[dw,decide_eq_true hf,zp_] at e;rw[show u=f from by rw[ab] at C;exact(iJ_ C).symm,e] at M;cases M),(by first | rfl | exact congrArg (fun z=>some (V.int .u64 (.ofNat z)))<|km _ hin),Z,cI<|aX oM,ar⟩
    refine UL 14 Z<|Wd 5 Z ?_;refine aD ⟨j6-1,by omega,oF,i+1,P,B,by omega,A,d,I,Q,fun e q u hq h1 C M=>(by rcases Nat.lt_or_ge q i with h | h;(exact R e q u h h1 C M);(have N:q=i:=by omega);rw[N] at h1 C⊢;have e:=(Da (x:=bL (nV g) P) (j:=i) oM).symm.trans aa;rw[dw,decide_eq_true hin,zp_] at e;revert e;cases P i<;>simp),(by first | rfl | exact congrArg (fun z=>some (V.int .u64 (.ofNat z)))<|km _ hin),Z,cI<|aX oM,ar⟩
   refine UL 22 Z<|Wd 5 Z ?_;refine aD ⟨j6-1,by omega,oF,i+1,P,B,by omega,A,d,I,Q,fun e q u hq h1 C M=>(by rcases Nat.lt_or_ge q i with h | h;(exact R e q u h h1 C M);(have N:q=i:=by omega);rw[N] at h1 C⊢;rw[show F (eu g i).kind 3=false from S] at h1;cases h1),(by first | rfl | exact congrArg (fun z=>some (V.int .u64 (.ofNat z)))<|km _ hin),Z,cI<|aX oM,ar⟩
  refine UH 3 Z<|aN<|az ?_;have bc:nV g<=i:=bK X;refine aD ⟨j3-1,by have:=hj (by assumption);have:=BT (nV g) E;omega,oF,P,B,A,d,(fun e=>by have:=Q e;have:=hj (by assumption);omega),(fun e q u hq h1 C M=>R e q u oM h1 C M),Z,Z,ar⟩
 refine UH 3 Z<|aN<|Wf 7 Z ?_;exact aA Z Z ⟨congrArg (fun z=>V.int .u64 (.ofNat z))<|PZ A d fun q u hq h1 C M=>am (by assumption) q u hq h1 C M,ar⟩
theorem PL (hG:Plain G) {b:Nat} {ev:V} (hv:pG K g b va vb vc vd iv ev) (hR:dC g) (ar:H O K L):
  EC G 162 [.ptr b 0] O fun v O'=>∃W S Q N E,v= .agg [nI<|nV g,S,nI<|nV g,Q,nI<|nV g,N,nI<|nV g,E]/\KP.le K W/\bO W 1 RU (bC (nV g)<|jT g) S/\bO W 1 RU (bC (nV g)<|tf g) Q/\bO W 1 RU (bC (nV g)<|rY g) N/\bO W 1 RU (bC (nV g)<|uF g) E/\H O' W L:=by
 have hvl:=jQ hR;refine V9 hG Tryz.func162 Z<|Vw 2 Z<|kb ar (W6 (cs:=[D,.av,D,.av,D,.av,D,.av])) (fun O b1 ar=>?_);refine UK 4 Z<|kb ar (W6 (cs:=[.av,.av,.av,.av])) (fun O b2 ar=>?_);refine TD 9 Z (bk (rg 4 62) (fun j t O=>∃(i:Nat) (S Q N E:V) (T M1 I C:Own),j+i=nV g/\cy 2 224 RP (eM (nV g) (jT g) i 0) S T/\cy 2 224 RP (eM (nV g) (tf g) i 0) Q M1/\cy 2 224 RP (eM (nV g) (rY g) i 0) N I/\cy 2 224 RP (eM (nV g) (uF g) i 0) E C/\t.get 4=some (nI i)/\H O K (T++(M1++(I++(C++((b2,.row [S,Q,N,E] 252 false)::(b1,.row [D,.av,D,.av,D,.av,D,.av] 169 false)::L)))))) (nV g) ⟨0,_,_,_,_,[],[],[],[],Z,.inl ⟨Z,Z,Z⟩,.inl ⟨Z,Z,Z⟩,.inl ⟨Z,Z,Z⟩,.inl ⟨Z,Z,Z⟩,Z,ar⟩ ?_);clear ar;intro j3 t O ak hI;obtain⟨i,S,Q,N,E,T,M1,I,C,bq,hO0,hO1,hO2,hO3,bb,ar⟩:=hI;obtain⟨oo,rfl⟩:=ak.q1 bb Z;refine UE 5 Z<|J Z (cO Z) Z<|J Z (W3 6 Z) Z<|J Z (W4 Z (ar.cg hv.row) Z) Z<|Vy 3 Z<|aG Z (fun aa=>?_) (fun aa=>?_)
 ·refine TC 9 Z (aK (bk ([5,6]++rg 15 51) (fun j t O=>∃(q:Nat) (S Q N E:V) (T M1 I C:Own),j+q=nV g/\cy 2 224 RP (eM (nV g) (jT g) i q) S T/\cy 2 224 RP (eM (nV g) (tf g) i q) Q M1/\cy 2 224 RP (eM (nV g) (rY g) i q) N I/\cy 2 224 RP (eM (nV g) (uF g) i q) E C/\t.get 5=some (nI q)/\H O K (T++(M1++(I++(C++((b2,.row [S,Q,N,E] 252 false)::(b1,.row [D,.av,D,.av,D,.av,D,.av] 169 false)::L)))))) (nV g) ⟨0,S,Q,N,E,T,M1,I,C,Z,hO0,hO1,hO2,hO3,Z,ar⟩ ?_));clear ar;intro j6 t O ak hI;obtain⟨q,S,Q,N,E,T,M1,I,C,bs,hO0,hO1,hO2,hO3,bc,ar⟩:=hI;obtain⟨oo,rfl⟩:=ak.q1 bc Z;refine UE 5 Z<|J Z (cO Z) Z<|J Z (W3 6 Z) Z<|J Z (W4 Z (ar.cg hv.row) Z) Z<|Vy 3 Z<|aG Z (fun ac=>?_) (fun ac=>?_)
  ·refine SF 6 Z ?_;have hin:=aM aa;have hqn:=aM ac;refine Wh 2 Z<|J Z (jX (e:=3) (n:=2) (m:=1) (zero:=[D,D]) (cs:=[_,_]) U U U Z) Z<|kb ar (W6 (cs:=[D,D])) (fun O b3 ar=>?_);refine ks ar (W9 Z Z Z ar.g0 Z) (fun O ar=>?_);refine Vy 2 Z (Cb (rg 26 10) (fun t O=>∃(v0:V) (N0:Own),cy 2 224 RP (eM (nV g) (jT g) i (q+1)) v0 N0/\H O K (N0++(M1++(I++(C++((b3,.row [nI i,nI q] 224 false)::(b2,.row [v0,Q,N,E] 252 false)::(b1,.row [D,.av,D,.av,D,.av,D,.av] 169 false)::L)))))) ?_ ?_)
   ·refine Vw 5 Z<|gz Z (W2 Z Z Z) (fun _=>Z) (PM hG hv hin hqn ar) (fun am O ar=>?_) (fun am O ar=>?_)
    ·refine Vz 4 Z<|J Z (eV (e:=221) (m:=1) (n:=4) (j:=0) U U Z Z (by decide)) Z<|J Z (W4 Z ar.pop.bG.bG.bG.bG.g0 Z) Z<|J Z (Xc Z ar.g0 Z) Z<|fh ar Z (bN (e:=224) (m:=2) (z:=[D,D]) (cs:=[_,_]) U U U U<|aZ Z Z Z Z bE) (fun _=>Z) (fun O b4 ar=>?_);replace ar:=ar.pull (.there (.there<|bu.here (X:=T)));replace ar:=ar.pull (.bV<|bu.here (X:=[_]));rw[za_] at ar;refine fw (R:=RP) (m:=2) (e:=224) hO0 ar (dn (m:=2) Z (show RP (i,q) [nI i,nI q] from Z)) RP.leaf (by have:=jl (n:=nV g) (R:=jT g) (i:=i) (q:=q);have:i*nV g<=62*62:=Nat.mul_le_mul oM hvl;show _+1<=_;omega) Z Z Z Z Z Z Z (fun _=>Z) (fun O bd a0 hO34 ar=>?_);refine J Z (eV (e:=221) (m:=1) (n:=4) (j:=0) U U Z Z (by decide)) Z<|iM ar (.bV (.there (.bV (.bV (.bV .here))))) Z (aO Z Z hO34.leaf.1 ar.bG.pop.bG.bG.bG.g0 (m:=1) U Z (lb Z) (aj hO34.leaf.2 aC) (cells':=[_,_,_,_]) Z) Z (fun O ar=>?_);refine af ?_;replace ar:=ar.pull (.bV<|bu.here (X:=[_]));rw[za_] at ar;replace ar:=ar.pull (.there (.bV (.bV (.bV<|bu.here (X:=C)))));replace ar:=ar.pull (.bV (.there (.bV (.bV<|bu.here (X:=I)))));replace ar:=ar.pull (.bV (.bV (.there (.bV<|bu.here (X:=M1)))));replace ar:=ar.pull (.bV (.bV (.bV (.there<|bu.here (X:=a0)))));exact⟨Z,oF,bd,a0,(jn am ▸ hO34),ar⟩
    refine Vy 3 Z<|aI ?_;replace ar:=ar.pull (.there (.bV (.bV (.bV<|bu.here (X:=C)))));replace ar:=ar.pull (.bV (.there (.bV (.bV<|bu.here (X:=I)))));replace ar:=ar.pull (.bV (.bV (.there (.bV<|bu.here (X:=M1)))));replace ar:=ar.pull (.bV (.bV (.bV (.there<|bu.here (X:=T)))));exact⟨Z,oP Z<|oP Z<|oP Z<|oP Z<|oR _ _,S,T,(kD am ▸ hO0),ar⟩
   clear ar;intro t O ak hI;obtain⟨v0,N0,hP0,ar⟩:=hI;obtain⟨oo,rfl⟩:=ak.q0 Z;refine Cb (rg 36 10) (fun t O=>∃(v1:V) (N1:Own),cy 2 224 RP (eM (nV g) (tf g) i (q+1)) v1 N1/\H O K (N0++(N1++(I++(C++((b3,.row [nI i,nI q] 224 false)::(b2,.row [v0,v1,N,E] 252 false)::(b1,.row [D,.av,D,.av,D,.av,D,.av] 169 false)::L)))))) ?_ ?_
   ·refine Vw 5 Z<|gz Z (W2 Z Z Z) (fun _=>Z) (VI hG hv hR hin hqn ar) (fun ao O ar=>?_) (fun ao O ar=>?_)
    ·refine Vz 4 Z<|J Z (eV (e:=221) (m:=1) (n:=4) (j:=1) U U Z Z (by decide)) Z<|J Z (W4 Z ar.bG.bG.bG.bG.pop.g0 Z) Z<|J Z (Xc Z ar.bG.bG.bG.bG.g0 Z) Z<|fh ar Z (bN (e:=224) (m:=2) (z:=[D,D]) (cs:=[_,_]) U U U U<|aZ Z Z Z Z bE) (fun _=>Z) (fun O b4 ar=>?_);replace ar:=ar.pull (.there (.bV<|bu.here (X:=M1)));replace ar:=ar.pull (.bV<|bu.here (X:=[_]));rw[za_] at ar;refine fw (R:=RP) (m:=2) (e:=224) hO1 ar (dn (m:=2) Z (show RP (i,q) [nI i,nI q] from Z)) RP.leaf (by have:=jl (n:=nV g) (R:=tf g) (i:=i) (q:=q);have:i*nV g<=62*62:=Nat.mul_le_mul oM hvl;show _+1<=_;omega) Z Z Z Z Z Z Z (fun _=>Z) (fun O be a1 hO44 ar=>?_);refine J Z (eV (e:=221) (m:=1) (n:=4) (j:=1) U U Z Z (by decide)) Z<|iM ar (.bV (.bV (.bV (.bV (.there .here))))) Z (aO Z Z hO44.leaf.1 ar.bG.bG.bG.bG.pop.g0 (m:=1) U Z (lb Z) (aj hO44.leaf.2 aC) (cells':=[_,_,_,_]) Z) Z (fun O ar=>?_);refine af ?_;replace ar:=ar.pull (.bV (.bV (.bV (.bV<|bu.here (X:=[_])))));rw[za_] at ar;replace ar:=ar.pull (.there (.bV (.bV (.bV<|bu.here (X:=C)))));replace ar:=ar.pull (.bV (.there (.bV (.bV<|bu.here (X:=I)))));replace ar:=ar.pull (.bV (.bV (.there<|bu.here (X:=a1))));replace ar:=ar.pull (.bV (.bV (.bV (.there<|bu.here (X:=N0)))));exact⟨Z,oF,be,a1,(jn ao ▸ hO44),ar⟩
    refine Vy 3 Z<|aI ?_;exact⟨Z,oP Z<|oP Z<|oP Z<|oP Z<|oR _ _,Q,M1,(kD ao ▸ hO1),ar⟩
   clear ar;intro t O ak hI;obtain⟨v1,N1,hP1,ar⟩:=hI;obtain⟨oo,rfl⟩:=ak.q0 Z;refine Cb (rg 46 10) (fun t O=>∃(v2:V) (N2:Own),cy 2 224 RP (eM (nV g) (rY g) i (q+1)) v2 N2/\H O K (N0++(N1++(N2++(C++((b3,.row [nI i,nI q] 224 false)::(b2,.row [v0,v1,v2,E] 252 false)::(b1,.row [D,.av,D,.av,D,.av,D,.av] 169 false)::L)))))) ?_ ?_
   ·refine Vw 5 Z<|gz Z (W2 Z Z Z) (fun _=>Z) (TK hG hv hR hin hqn ar) (fun ap O ar=>?_) (fun ap O ar=>?_)
    ·refine Vz 4 Z<|J Z (eV (e:=221) (m:=1) (n:=4) (j:=2) U U Z Z (by decide)) Z<|J Z (W4 Z ar.bG.bG.bG.bG.pop.g0 Z) Z<|J Z (Xc Z ar.bG.bG.bG.bG.g0 Z) Z<|fh ar Z (bN (e:=224) (m:=2) (z:=[D,D]) (cs:=[_,_]) U U U U<|aZ Z Z Z Z bE) (fun _=>Z) (fun O b4 ar=>?_);replace ar:=ar.pull (.there (.bV (.bV<|bu.here (X:=I))));replace ar:=ar.pull (.bV<|bu.here (X:=[_]));rw[za_] at ar;refine fw (R:=RP) (m:=2) (e:=224) hO2 ar (dn (m:=2) Z (show RP (i,q) [nI i,nI q] from Z)) RP.leaf (by have:=jl (n:=nV g) (R:=rY g) (i:=i) (q:=q);have:i*nV g<=62*62:=Nat.mul_le_mul oM hvl;show _+1<=_;omega) Z Z Z Z Z Z Z (fun _=>Z) (fun O bf a2 hO54 ar=>?_);refine J Z (eV (e:=221) (m:=1) (n:=4) (j:=2) U U Z Z (by decide)) Z<|iM ar (.bV (.bV (.bV (.bV (.there .here))))) Z (aO Z Z hO54.leaf.1 ar.bG.bG.bG.bG.pop.g0 (m:=1) U Z (lb Z) (aj hO54.leaf.2 aC) (cells':=[_,_,_,_]) Z) Z (fun O ar=>?_);refine af ?_;replace ar:=ar.pull (.bV (.bV (.bV (.bV<|bu.here (X:=[_])))));rw[za_] at ar;replace ar:=ar.pull (.there (.bV (.bV (.bV<|bu.here (X:=C)))));replace ar:=ar.pull (.bV (.there<|bu.here (X:=a2)));replace ar:=ar.pull (.bV (.bV (.there (.bV<|bu.here (X:=N1)))));replace ar:=ar.pull (.bV (.bV (.bV (.there<|bu.here (X:=N0)))));exact⟨Z,oF,bf,a2,(jn ap ▸ hO54),ar⟩
    refine Vy 3 Z<|aI ?_;exact⟨Z,oP Z<|oP Z<|oP Z<|oP Z<|oR _ _,N,I,(kD ap ▸ hO2),ar⟩
   clear ar;intro t O ak hI;obtain⟨v2,N2,hP2,ar⟩:=hI;obtain⟨oo,rfl⟩:=ak.q0 Z;refine Vw 5 Z<|gz Z (W2 Z Z Z) (fun _=>Z) (VH hG hv hR hin hqn ar) (fun aE O ar=>?_) (fun aE O ar=>?_)
   ·refine Vz 4 Z<|J Z (eV (e:=221) (m:=1) (n:=4) (j:=3) U U Z Z (by decide)) Z<|J Z (W4 Z ar.bG.bG.bG.bG.pop.g0 Z) Z<|J Z (Xc Z ar.bG.bG.bG.bG.g0 Z) Z<|fh ar Z (bN (e:=224) (m:=2) (z:=[D,D]) (cs:=[_,_]) U U U U<|aZ Z Z Z Z bE) (fun _=>Z) (fun O b4 ar=>?_);replace ar:=ar.pull (.there (.bV (.bV (.bV<|bu.here (X:=C)))));replace ar:=ar.pull (.bV<|bu.here (X:=[_]));rw[za_] at ar;refine fw (R:=RP) (m:=2) (e:=224) hO3 ar (dn (m:=2) Z (show RP (i,q) [nI i,nI q] from Z)) RP.leaf (by have:=jl (n:=nV g) (R:=uF g) (i:=i) (q:=q);have:i*nV g<=62*62:=Nat.mul_le_mul oM hvl;show _+1<=_;omega) Z Z Z Z Z Z Z (fun _=>Z) (fun O u64 a3 hO64 ar=>?_);refine J Z (eV (e:=221) (m:=1) (n:=4) (j:=3) U U Z Z (by decide)) Z<|iM ar (.bV (.bV (.bV (.bV (.there .here))))) Z (aO Z Z hO64.leaf.1 ar.bG.bG.bG.bG.pop.g0 (m:=1) U Z (lb Z) (aj hO64.leaf.2 aC) (cells':=[_,_,_,_]) Z) Z (fun O ar=>?_);refine af<|az<|ad<|ai Z ?_;replace ar:=ar.pull (.bV (.bV (.bV (.bV<|bu.here (X:=[_])))));rw[za_] at ar;replace ar:=ar.pull (.there<|bu.here (X:=a3));replace ar:=ar.pull (.bV (.there (.bV (.bV<|bu.here (X:=N2)))));replace ar:=ar.pull (.bV (.bV (.there (.bV<|bu.here (X:=N1)))));replace ar:=ar.pull (.bV (.bV (.bV (.there<|bu.here (X:=N0)))));replace ar:=ar.sub (eb<|eb<|eb<|eb (.cons _ (.cons_cons _ (.cons_cons _ (.refl _)))));refine Wg 4 Z<|aD ⟨j6-1,by omega,oF,q+1,v0,v1,v2,u64,N0,N1,N2,a3,by omega,hP0,hP1,hP2,(jn aE ▸ hO64),cI<|aX oM,ar⟩
   refine UL 5 Z<|ad<|ai Z ?_;replace ar:=ar.sub (eb<|eb<|eb<|eb (.cons _ (.cons_cons _ (.cons_cons _ (.refl _)))));refine Wg 4 Z<|aD ⟨j6-1,by omega,oF,q+1,v0,v1,v2,E,N0,N1,N2,C,by omega,hP0,hP1,hP2,(kD aE ▸ hO3),cI<|aX oM,ar⟩
  refine UH 3 Z<|aN<|az<|Wd 5 Z ?_;have hlp:=aM aa;have bg:q=nV g:=by have:=bK ac;omega
  subst bg;refine aD ⟨j3-1,by omega,oF,i+1,S,Q,N,E,T,M1,I,C,by omega,(jm ▸ hO0),(jm ▸ hO1),(jm ▸ hO2),(jm ▸ hO3),cI<|aX oM,ar⟩
 refine UH 3 Z (aN (ad (al (aL (l:=[(0,[]),(1,[]),(2,[]),(3,[]),(4,[]),(5,[]),(7,[]),(8,[]),(9,[]),(10,[]),(11,[]),(12,[]),(14,[]),(15,[]),(16,[]),(17,[]),(18,[]),(19,[]),(21,[]),(22,[]),(23,[]),(24,[]),(25,[]),(26,[]),(6,[10,12,17,19,24,26]),(13,[17,19,24,26]),(20,[24,26]),(27,[]),(28,[]),(29,[])]) U U ?_))));have bi:i=nV g:=by have:=bK aa;omega
 subst bi;rw[nm] at hO0 hO1 hO2 hO3;obtain⟨W,ab,bl,bm,bo,bp,ar⟩:=ar.Td;replace hv:=hv.mono ab;have hs0:=hO0.fg (K:=W) fun y hy=>bl y hy
 have hs1:=hO1.fg (K:=W) fun y hy=>bm y hy
 have hs2:=hO2.fg (K:=W) fun y hy=>bo y hy
 have hs3:=hO3.fg (K:=W) fun y hy=>bp y hy
 refine wQ 1 Z<|ah Z Z (cO Z) Z<|ah Z Z (W3 6 Z) Z<|ah Z Z (W4 Z (ar.cg hv.row) Z) Z<|ah Z Z (eV (e:=221) (m:=1) (n:=4) (j:=0) U U Z Z (by decide)) Z<|Wl ar 2 [0] Z Z<|ah Z Z (cO Z) Z<|ah Z Z (W3 6 Z) Z<|ah Z Z (W4 Z (ar.cg hv.row) Z) Z<|ah Z Z (eV (e:=221) (m:=1) (n:=4) (j:=1) U U Z Z (by decide)) Z<|Wl ar 2 [0] Z Z<|ah Z Z (cO Z) Z<|ah Z Z (W3 6 Z) Z<|ah Z Z (W4 Z (ar.cg hv.row) Z) Z ?_;refine ah Z Z (eV (e:=221) (m:=1) (n:=4) (j:=2) U U Z Z (by decide)) Z<|Wl ar 2 [0] Z Z<|ah Z Z (cO Z) Z<|ah Z Z (W3 6 Z) Z<|ah Z Z (W4 Z (ar.cg hv.row) Z) Z<|ah Z Z (eV (e:=221) (m:=1) (n:=4) (j:=3) U U Z Z (by decide)) Z<|ah Z Z (W4 Z ar.g0 Z) Z<|ed Z Z (W2 Z Z Z) (fun _=>Z) (J4 hG (n:=nV g) oM hs0 ou ar) ?_;rintro _ O ⟨c0,rfl,ar⟩;obtain⟨Kq0,d,a4,ar⟩:=H.bF (M:=[_]) ar;have hq0:=dM (a4 _<|mS_ ..) (bQ (nV g) _) oM;rw[lW] at hq0;replace hs1:=hs1.mono d fun _ _ h=>h
 replace hs2:=hs2.mono d fun _ _ h=>h
 replace hs3:=hs3.mono d fun _ _ h=>h
 replace hv:=hv.mono d;have hleA0:=KP.le_trans ab d;refine⟨(bj (bx Z Z Z Z Z (W4 Z (ar.cg hv.row) Z)<|cW _ _)<|bj (bx Z Z Z Z Z (W4 Z ar.g0 Z) hs1.dQ)<|bj (bx Z Z Z Z Z (W4 Z (ar.cg hv.row) Z)<|cW _ _)<|bj (bx Z Z Z Z Z (W4 Z ar.g0 Z) hs2.dQ)<|bj (bx Z Z Z Z Z (W4 Z (ar.cg hv.row) Z)<|cW _ _)<|bj (bx Z Z Z Z Z (W4 Z ar.g0 Z) hs3.dQ) aT),?_⟩;refine ed Z Z (W2 Z Z Z) (fun _=>Z) (J4 hG (n:=nV g) oM hs1 ou ar) ?_;rintro _ O ⟨c1,rfl,ar⟩;obtain⟨Kq1,u,a5,ar⟩:=H.bF (M:=[_]) ar;have hq1:=dM (a5 _<|mS_ ..) (bQ (nV g) _) oM;rw[lW] at hq1;replace hq0:=hq0.mono u fun _ _ h=>h
 replace hs2:=hs2.mono u fun _ _ h=>h
 replace hs3:=hs3.mono u fun _ _ h=>h
 replace hv:=hv.mono u;have hleA1:=KP.le_trans hleA0 u;refine⟨(bj (bx Z Z Z Z Z (W4 Z (ar.cg hv.row) Z)<|cW _ _)<|bj (bx Z Z Z Z Z (W4 Z ar.g0 Z) hs2.dQ)<|bj (bx Z Z Z Z Z (W4 Z (ar.cg hv.row) Z)<|cW _ _)<|bj (bx Z Z Z Z Z (W4 Z ar.g0 Z) hs3.dQ) aT),?_⟩;refine ed Z Z (W2 Z Z Z) (fun _=>Z) (J4 hG (n:=nV g) oM hs2 ou ar) ?_;rintro _ O ⟨c2,rfl,ar⟩;obtain⟨Kq2,A,a9,ar⟩:=H.bF (M:=[_]) ar;have hq2:=dM (a9 _<|mS_ ..) (bQ (nV g) _) oM;rw[lW] at hq2;replace hq0:=hq0.mono A fun _ _ h=>h
 replace hq1:=hq1.mono A fun _ _ h=>h
 replace hs3:=hs3.mono A fun _ _ h=>h
 replace hv:=hv.mono A;have hleA2:=KP.le_trans hleA1 A;refine⟨(bj (bx Z Z Z Z Z (W4 Z (ar.cg hv.row) Z)<|cW _ _)<|bj (bx Z Z Z Z Z (W4 Z ar.g0 Z) hs3.dQ) aT),?_⟩;refine ed Z Z (W2 Z Z Z) (fun _=>Z) (J4 hG (n:=nV g) oM hs3 ou ar) ?_;rintro _ O ⟨c3,rfl,ar⟩;obtain⟨Kq3,B,ba,ar⟩:=H.bF (M:=[_]) ar;have hq3:=dM (ba _<|mS_ ..) (bQ (nV g) _) oM;rw[lW] at hq3;replace hq0:=hq0.mono B fun _ _ h=>h
 replace hq1:=hq1.mono B fun _ _ h=>h
 replace hq2:=hq2.mono B fun _ _ h=>h
 replace hv:=hv.mono B;have hleA3:=KP.le_trans hleA2 B;refine⟨aT,?_⟩;refine ah Z Z (W1 (places:=[(0,2),(2,2),(4,2),(6,2)]) (zero:=[D,.av,D,.av,D,.av,D,.av]) (cs:=[_,_,_,_,_,_,_,_]) Z) Z<|nJ ar Z Z (Sx Z Z Z ar.g1 (m:=8) Z (aj Z<|aj hq0.leaf.2<|aj Z<|aj hq1.leaf.2<|aj Z<|aj hq2.leaf.2<|aj Z<|aj hq3.leaf.2 aC) (cells':=[_,_,_,_,_,_,_,_]) Z) Z (fun O ar=>?_);refine⟨aT,?_⟩;refine VC 3 Z ?_;exact dh Z Z ar.g1 (m:=8) U Z ⟨_,_,_,_,_,Z,hleA3,hq0,hq1,hq2,hq3,ar.pop.pop⟩
theorem VJ (hG:Plain G) {b:Nat} {ev:V} (hv:pG K g b va vb vc vd iv ev) (hR:dC g) (ar:H O K L):
  EC G 166 [.ptr b 0] O fun u O'=>∃K1 c,KP.le K K1/\u= .agg [nI<|nV g,.slice c 0 (nV g) (.known<|nV g)]/\H O' K1 ((c,.row ((bC (nV g)<|vr g).map gU) 144 false)::L):=by
 have hvl:=jQ hR;refine V9 hG Tryz.func166 Z<|Vw 2 Z<|kb ar (W6 (cs:=[D,.av])) (fun O b1 ar=>?_);refine TD 14 Z (bk (rg 3 139) (fun j t O=>∃(w:Nat) (u:V) (M:Own),j+w=nV g/\cy 2 224 RP (l1 g w) u M/\t.get 3=some (u)/\t.get 4=some (nI w)/\H O K (M++(b1,.row [D,.av] 167 false)::L)) (nV g) ⟨0,_,[],Z,.inl ⟨Z,Z,Z⟩,Z,Z,ar⟩ ?_);clear ar;intro j3 t O ak hI;obtain⟨w,u,M,cn,hO,T,b4,ar⟩:=hI;obtain⟨oo,rfl⟩:=ak.q2 T b4 Z;refine UE 5 Z<|J Z (cO Z) Z<|J Z (W3 6 Z) Z<|J Z (W4 Z (ar.cg hv.row) Z) Z<|Vy 3 Z<|aG Z (fun a2=>?_) (fun a2=>?_)
 ·refine SE 5 Z<|Vw 2 Z ?_;have hwn:=aM a2;refine Wh 2 Z<|gz Z (W2 Z Z Z) (fun _=>Z) (zd hG hv hwn ar) (fun aE O ar=>?_) (fun aE O ar=>?_)
  ·refine J Z (dW Z) Z<|Wh 2 Z<|J Z (cO Z) Z<|J Z (W3 5 Z) Z<|J Z (W4 Z (ar.cg hv.row) Z) Z<|vQ 1 Z<|WV (e:=38) (m:=5) hv.jv (eQ hwn) Z Z Z Z (fun co cc bl cd bm=>?_);obtain rfl:=bm;refine de bl Z Z Z (k:=2) U (lb Z) (fun _=>Z) (fun cp bo=>?_);refine J Z (W7 ar bo Z Z) Z<|Vy 4 Z<|aG Z (fun a3=>?_) (fun a3=>?_)
   ·refine bn<|aR<|aN<|Wd 5 Z ?_;have cw:jt g w=false:=by unfold jt cL;rw[aE,show F (eu g w).order 1=true from a3];rfl
    refine aD ⟨j3-1,by omega,oF,w+1,u,M,by omega,(VP cw ▸ hO),Z,cI<|aX oM,ar⟩
   refine UG 6 Z ?_;have cw:jt g w=true:=by unfold jt cL;rw[aE,show F (eu g w).order 1=false from a3];rfl
   refine kx (W2 Z Z Z) (G3 hG hv hR hwn ar) (fun O ar=>?_);refine UI 9 Z (bk ([3,6,7,8]++rg 35 107) (fun j t O=>∃(bb:Nat) (u2:V) (M2:Own),j+bb=nV g/\cy 2 224 RP (l1 g w++l2 g w bb) u2 M2/\t.get 3=some (u2)/\t.get 6=some (nI bb)/\H O K (M2++(b1,.row [D,.av] 167 false)::L)) (nV g) ⟨0,u,M,Z,(by rw[show l2 g w 0= [] from Z,zk_];exact hO),Z,Z,ar⟩ ?_);clear ar;intro j8 t O ak hI;obtain⟨bb,u2,M2,cv,hO2,T,b5,ar⟩:=hI;obtain⟨oo,rfl⟩:=ak.q2 T b5 Z;refine UE 5 Z<|J Z (cO Z) Z<|J Z (W3 6 Z) Z<|J Z (W4 Z (ar.cg hv.row) Z) Z<|Vy 3 Z<|aG Z (fun a4=>?_) (fun a4=>?_)
   ·refine SE 5 Z<|Vw 2 Z ?_;have hbn:=aM a4;refine Wh 2 Z<|gz Z (W2 Z Z Z) (fun _=>Z) (CG hG hv hbn ar) (fun S O ar=>?_) (fun S O ar=>?_)
    ·refine J Z (dW Z) Z<|Wh 2 Z<|J Z (cO Z) Z<|J Z (W3 5 Z) Z<|J Z (W4 Z (ar.cg hv.row) Z) Z<|vQ 1 Z<|WV (e:=38) (m:=5) hv.jv (eQ hbn) Z Z Z Z (fun cx ce bp ch bq=>?_);obtain rfl:=bq;refine de bp Z Z Z (k:=2) U (lb Z) (fun _=>Z) (fun c0 bs=>?_);refine J Z (W7 ar bs Z Z) Z<|Wh 2 Z<|ky Z (an Z) (fun a0=>?_) (fun a0=>?_)
     ·refine UN 14 Z<|aN<|Wd 5 Z ?_;have cb:gH g w bb=false:=by unfold gH;rw[S,show F (eu g bb).order 1=true from a0];rfl
      refine aD ⟨j8-1,by omega,oF,bb+1,u2,M2,by omega,(VQ cb ▸ hO2),Z,cI<|aX oM,ar⟩
     refine Wh 3 Z ?_;obtain⟨f,hf,a5,_⟩:=jL hR hbn S;refine kx (W2 Z Z Z) (by have q:=CF hG hv hR hbn ar;rw[a5] at q;exact q) (fun O ar=>?_);refine J Z (fE (j:=f) oM U U U Z) Z<|Vy 6 Z<|aG Z (fun a9=>?_) (fun a9=>?_)
     ·refine bn<|aR<|aN<|Wd 5 Z ?_;have cb:gH g w bb=false:=by unfold gH;rw[S,show F (eu g bb).order 1=false from a0,a5];show mR g w f=false;have e:=(Da (x:=bL (nV g)<|mR g w) (j:=f) oM).symm.trans a9;rw[dw,decide_eq_true hf,zp_] at e;revert e;cases mR g w f<;>simp
      refine aD ⟨j8-1,by omega,oF,bb+1,u2,M2,by omega,(VQ cb ▸ hO2),Z,cI<|aX oM,ar⟩
     refine UG 4 Z ?_;have cb:gH g w bb=true:=by unfold gH;rw[S,show F (eu g bb).order 1=false from a0,a5];show mR g w f=true;have e:=(Da (x:=bL (nV g)<|mR g w) (j:=f) oM).symm.trans a9;rw[dw,decide_eq_true hf,zp_] at e;revert e;cases mR g w f<;>simp
     refine UI 4 Z (bk ([3,7,8]++rg 68 74) (fun j t O=>∃(r:Nat) (u3:V) (M3:Own),j+r=nV g/\cy 2 224 RP (l1 g w++(l2 g w bb++l3 g w bb r)) u3 M3/\t.get 3=some (u3)/\t.get 7=some (nI r)/\H O K (M3++(b1,.row [D,.av] 167 false)::L)) (nV g) ⟨0,u2,M2,Z,(by rw[show l3 g w bb 0= [] from Z,zk_];exact hO2),Z,Z,ar⟩ ?_);clear ar;intro ao t O ak hI;obtain⟨r,u3,M3,ci,hO3,T,b6,ar⟩:=hI;obtain⟨oo,rfl⟩:=ak.q2 T b6 Z;refine UE 5 Z<|J Z (cO Z) Z<|J Z (W3 6 Z) Z<|J Z (W4 Z (ar.cg hv.row) Z) Z<|Vy 3 Z<|aG Z (fun ba=>?_) (fun ba=>?_)
     ·refine SE 5 Z<|Vw 2 Z ?_;have hrn:=aM ba;refine Wh 2 Z<|gz Z (W2 Z Z Z) (fun _=>Z) (TM hG hv hrn ar) (fun am O ar=>?_) (fun am O ar=>?_)
      ·refine J Z (dW Z) Z<|Wh 4 Z<|ky Z (an Z) (fun ap=>?_) (fun ap=>?_)
       ·refine vQ 1 Z<|J Z (cO Z) Z<|J Z (W3 5 Z) Z<|J Z (W4 Z (ar.cg hv.row) Z) Z<|vQ 1 Z<|WV (e:=38) (m:=5) hv.jv (eQ hrn) Z Z Z Z (fun c1 ck bt cl bv=>?_);obtain rfl:=bv;refine de bt Z Z Z (k:=0) U (lb Z) (fun _=>Z) (fun c2 bw=>?_);refine J Z (W7 ar bw Z Z) Z<|vQ 1 Z<|ky Z (an Z) (fun a1=>?_) (fun a1=>?_)
        ·refine UN 13 Z<|aN<|Wd 5 Z ?_;have cr:fV g w r=false:=by unfold fV;rw[am,show F (.ofNat r) (.ofNat w)=false from cY ap,show F (eu g r).kind 4=false from cY a1];rfl
         refine aD ⟨ao-1,by omega,oF,r+1,u3,M3,by omega,(VS cr ▸ hO3),Z,cI<|aX oM,ar⟩
        refine Wh 3 Z<|gz Z (W2 Z Z Z) (fun _=>Z) (PM hG hv hrn hwn ar) (fun bc O ar=>?_) (fun bc O ar=>?_)
        ·refine J Z (dW Z) Z<|Vy 6 Z<|UG 4 Z ?_;have cr:fV g w r=true:=by unfold fV;rw[am,show F (.ofNat r) (.ofNat w)=false from cY ap,show F (eu g r).kind 4=true from cD a1];exact bc
         refine UI 4 Z (bk ([3,8]++rg 103 39) (fun j t O=>∃(a:Nat) (u4:V) (W:Own),j+a=nV g/\cy 2 224 RP (l1 g w++(l2 g w bb++(l3 g w bb r++l4 g bb r a))) u4 W/\t.get 3=some (u4)/\t.get 8=some (nI a)/\H O K (W++(b1,.row [D,.av] 167 false)::L)) (nV g) ⟨0,u3,M3,Z,(by rw[show l4 g bb r 0= [] from Z,zk_];exact hO3),Z,Z,ar⟩ ?_);clear ar;intro C t O ak hI;obtain⟨a,u4,W,bD,hO4,T,bd,ar⟩:=hI;obtain⟨oo,rfl⟩:=ak.q2 T bd Z;refine UE 5 Z<|J Z (cO Z) Z<|J Z (W3 6 Z) Z<|J Z (W4 Z (ar.cg hv.row) Z) Z<|Vy 3 Z<|aG Z (fun E=>?_) (fun E=>?_)
         ·refine SF 6 Z ?_;have han:=aM E;refine Wh 2 Z<|gz Z (W2 Z Z Z) (fun _=>Z) (QY hG hv han ar) (fun d O ar=>?_) (fun d O ar=>?_)
          ·refine Wh 4 Z<|ky Z (an Z) (fun A=>?_) (fun A=>?_)
           ·refine Vz 24 Z<|J Z (jX (e:=3) (n:=2) (m:=1) (zero:=[D,D]) (cs:=[_,_]) U U U Z) Z<|fh ar Z (bN (e:=224) (m:=2) (z:=[D,D]) (cs:=[_,_]) U U U U<|aZ Z Z Z Z bE) (fun _=>Z) (fun O b2 ar=>?_);replace ar:=ar.pull (.there<|bu.here (X:=W));replace ar:=ar.pull (.bV<|bu.here (X:=[_]));rw[za_] at ar;refine fw (R:=RP) (m:=2) (e:=224) hO4 ar (dn (m:=2) Z (show RP (r,a) [nI r,nI a] from Z)) RP.leaf (Nat.le_trans (CY hR hwn hbn hrn han S) (by decide)) Z Z Z Z Z Z Z (fun _=>Z) (fun O I N hO141 ar=>?_);refine Wg 2 Z<|az<|Wd 5 Z ?_;have ca:fQ g bb a=true:=by unfold fQ;rw[d,show F (.ofNat a) (.ofNat bb)=true from A];rfl
            refine aD ⟨C-1,by omega,oF,a+1,I,N,by omega,(UR ca ▸ hO141),Z,cI<|aX oM,ar⟩
           refine vQ 1 Z<|J Z (cO Z) Z<|J Z (W3 5 Z) Z<|J Z (W4 Z (ar.cg hv.row) Z) Z<|vQ 1 Z<|WV (e:=38) (m:=5) hv.jv (eQ han) Z Z Z Z (fun bH be aa bf ab=>?_);obtain rfl:=ab;refine de aa Z Z Z (k:=0) U (lb Z) (fun _=>Z) (fun b0 ac=>?_);refine J Z (W7 ar ac Z Z) Z<|vQ 1 Z<|ky Z (an Z) (fun B=>?_) (fun B=>?_)
           ·refine Wh 3 Z<|gz Z (W2 Z Z Z) (fun _=>Z) (PM hG hv hbn han ar) (fun Q O ar=>?_) (fun Q O ar=>?_)
            ·refine Vz 10 Z<|J Z (jX (e:=3) (n:=2) (m:=1) (zero:=[D,D]) (cs:=[_,_]) U U U Z) Z<|fh ar Z (bN (e:=224) (m:=2) (z:=[D,D]) (cs:=[_,_]) U U U U<|aZ Z Z Z Z bE) (fun _=>Z) (fun O b2 ar=>?_);replace ar:=ar.pull (.there<|bu.here (X:=W));replace ar:=ar.pull (.bV<|bu.here (X:=[_]));rw[za_] at ar;refine fw (R:=RP) (m:=2) (e:=224) hO4 ar (dn (m:=2) Z (show RP (r,a) [nI r,nI a] from Z)) RP.leaf (Nat.le_trans (CY hR hwn hbn hrn han S) (by decide)) Z Z Z Z Z Z Z (fun _=>Z) (fun O I N hO141 ar=>?_);refine Wg 2 Z<|az<|Wd 5 Z ?_;have ca:fQ g bb a=true:=by unfold fQ;rw[d,show F (.ofNat a) (.ofNat bb)=false from A,show F (eu g a).kind 4=true from B];exact Q
             refine aD ⟨C-1,by omega,oF,a+1,I,N,by omega,(UR ca ▸ hO141),Z,cI<|aX oM,ar⟩
            refine UL 8 Z<|Wd 5 Z ?_;have ca:fQ g bb a=false:=by unfold fQ;rw[d,show F (.ofNat a) (.ofNat bb)=false from A,show F (eu g a).kind 4=true from B];exact Q
            refine aD ⟨C-1,by omega,oF,a+1,u4,W,by omega,(SG ca ▸ hO4),Z,cI<|aX oM,ar⟩
           refine UL 12 Z<|Wd 5 Z ?_;have ca:fQ g bb a=false:=by unfold fQ;rw[d,show F (.ofNat a) (.ofNat bb)=false from A,show F (eu g a).kind 4=false from B];rfl
           refine aD ⟨C-1,by omega,oF,a+1,u4,W,by omega,(SG ca ▸ hO4),Z,cI<|aX oM,ar⟩
          refine UL 27 Z<|Wd 5 Z ?_;have ca:fQ g bb a=false:=by unfold fQ;rw[d];rfl
          refine aD ⟨C-1,by omega,oF,a+1,u4,W,by omega,(SG ca ▸ hO4),Z,cI<|aX oM,ar⟩
         refine UH 3 Z<|aN<|az<|Wd 5 Z ?_;have bg:a=nV g:=by have:=bK E;omega
         subst bg;refine aD ⟨ao-1,by omega,oF,r+1,u4,W,by omega,(Wo cr ▸ hO4),Z,cI<|aX oM,ar⟩
        refine J Z (dW Z) Z<|UN 8 Z<|aN<|Wd 5 Z ?_;have cr:fV g w r=false:=by unfold fV;rw[am,show F (.ofNat r) (.ofNat w)=false from cY ap,show F (eu g r).kind 4=true from cD a1];exact bc
        refine aD ⟨ao-1,by omega,oF,r+1,u3,M3,by omega,(VS cr ▸ hO3),Z,cI<|aX oM,ar⟩
       refine Vy 21 Z<|UG 4 Z ?_;have cr:fV g w r=true:=by unfold fV;rw[am,show F (.ofNat r) (.ofNat w)=true from cD ap];rfl
       refine UI 4 Z (bk ([3,8]++rg 103 39) (fun j t O=>∃(a:Nat) (u4:V) (W:Own),j+a=nV g/\cy 2 224 RP (l1 g w++(l2 g w bb++(l3 g w bb r++l4 g bb r a))) u4 W/\t.get 3=some (u4)/\t.get 8=some (nI a)/\H O K (W++(b1,.row [D,.av] 167 false)::L)) (nV g) ⟨0,u3,M3,Z,(by rw[show l4 g bb r 0= [] from Z,zk_];exact hO3),Z,Z,ar⟩ ?_);clear ar;intro C t O ak hI;obtain⟨a,u4,W,bD,hO4,T,bd,ar⟩:=hI;obtain⟨oo,rfl⟩:=ak.q2 T bd Z;refine UE 5 Z<|J Z (cO Z) Z<|J Z (W3 6 Z) Z<|J Z (W4 Z (ar.cg hv.row) Z) Z<|Vy 3 Z<|aG Z (fun E=>?_) (fun E=>?_)
       ·refine SF 6 Z ?_;have han:=aM E;refine Wh 2 Z<|gz Z (W2 Z Z Z) (fun _=>Z) (QY hG hv han ar) (fun d O ar=>?_) (fun d O ar=>?_)
        ·refine Wh 4 Z<|ky Z (an Z) (fun A=>?_) (fun A=>?_)
         ·refine Vz 24 Z<|J Z (jX (e:=3) (n:=2) (m:=1) (zero:=[D,D]) (cs:=[_,_]) U U U Z) Z<|fh ar Z (bN (e:=224) (m:=2) (z:=[D,D]) (cs:=[_,_]) U U U U<|aZ Z Z Z Z bE) (fun _=>Z) (fun O b2 ar=>?_);replace ar:=ar.pull (.there<|bu.here (X:=W));replace ar:=ar.pull (.bV<|bu.here (X:=[_]));rw[za_] at ar;refine fw (R:=RP) (m:=2) (e:=224) hO4 ar (dn (m:=2) Z (show RP (r,a) [nI r,nI a] from Z)) RP.leaf (Nat.le_trans (CY hR hwn hbn hrn han S) (by decide)) Z Z Z Z Z Z Z (fun _=>Z) (fun O I N hO141 ar=>?_);refine Wg 2 Z<|az<|Wd 5 Z ?_;have ca:fQ g bb a=true:=by unfold fQ;rw[d,show F (.ofNat a) (.ofNat bb)=true from A];rfl
          refine aD ⟨C-1,by omega,oF,a+1,I,N,by omega,(UR ca ▸ hO141),Z,cI<|aX oM,ar⟩
         refine vQ 1 Z<|J Z (cO Z) Z<|J Z (W3 5 Z) Z<|J Z (W4 Z (ar.cg hv.row) Z) Z<|vQ 1 Z<|WV (e:=38) (m:=5) hv.jv (eQ han) Z Z Z Z (fun bH be aa bf ab=>?_);obtain rfl:=ab;refine de aa Z Z Z (k:=0) U (lb Z) (fun _=>Z) (fun b0 ac=>?_);refine J Z (W7 ar ac Z Z) Z<|vQ 1 Z<|ky Z (an Z) (fun B=>?_) (fun B=>?_)
         ·refine Wh 3 Z<|gz Z (W2 Z Z Z) (fun _=>Z) (PM hG hv hbn han ar) (fun Q O ar=>?_) (fun Q O ar=>?_)
          ·refine Vz 10 Z<|J Z (jX (e:=3) (n:=2) (m:=1) (zero:=[D,D]) (cs:=[_,_]) U U U Z) Z<|fh ar Z (bN (e:=224) (m:=2) (z:=[D,D]) (cs:=[_,_]) U U U U<|aZ Z Z Z Z bE) (fun _=>Z) (fun O b2 ar=>?_);replace ar:=ar.pull (.there<|bu.here (X:=W));replace ar:=ar.pull (.bV<|bu.here (X:=[_]));rw[za_] at ar;refine fw (R:=RP) (m:=2) (e:=224) hO4 ar (dn (m:=2) Z (show RP (r,a) [nI r,nI a] from Z)) RP.leaf (Nat.le_trans (CY hR hwn hbn hrn han S) (by decide)) Z Z Z Z Z Z Z (fun _=>Z) (fun O I N hO141 ar=>?_);refine Wg 2 Z<|az<|Wd 5 Z ?_;have ca:fQ g bb a=true:=by unfold fQ;rw[d,show F (.ofNat a) (.ofNat bb)=false from A,show F (eu g a).kind 4=true from B];exact Q
           refine aD ⟨C-1,by omega,oF,a+1,I,N,by omega,(UR ca ▸ hO141),Z,cI<|aX oM,ar⟩
          refine UL 8 Z<|Wd 5 Z ?_;have ca:fQ g bb a=false:=by unfold fQ;rw[d,show F (.ofNat a) (.ofNat bb)=false from A,show F (eu g a).kind 4=true from B];exact Q
          refine aD ⟨C-1,by omega,oF,a+1,u4,W,by omega,(SG ca ▸ hO4),Z,cI<|aX oM,ar⟩
         refine UL 12 Z<|Wd 5 Z ?_;have ca:fQ g bb a=false:=by unfold fQ;rw[d,show F (.ofNat a) (.ofNat bb)=false from A,show F (eu g a).kind 4=false from B];rfl
         refine aD ⟨C-1,by omega,oF,a+1,u4,W,by omega,(SG ca ▸ hO4),Z,cI<|aX oM,ar⟩
        refine UL 27 Z<|Wd 5 Z ?_;have ca:fQ g bb a=false:=by unfold fQ;rw[d];rfl
        refine aD ⟨C-1,by omega,oF,a+1,u4,W,by omega,(SG ca ▸ hO4),Z,cI<|aX oM,ar⟩
       refine UH 3 Z<|aN<|az<|Wd 5 Z ?_;have bg:a=nV g:=by have:=bK E;omega
       subst bg;refine aD ⟨ao-1,by omega,oF,r+1,u4,W,by omega,(Wo cr ▸ hO4),Z,cI<|aX oM,ar⟩
      refine J Z (dW Z) Z<|UN 28 Z<|aN<|Wd 5 Z ?_;have cr:fV g w r=false:=by unfold fV;rw[am];rfl
      refine aD ⟨ao-1,by omega,oF,r+1,u3,M3,by omega,(VS cr ▸ hO3),Z,cI<|aX oM,ar⟩
     refine UH 3 Z<|aN<|az<|Wd 5 Z ?_;have b7:r=nV g:=by have:=bK ba;omega
     subst b7;refine aD ⟨j8-1,by omega,oF,bb+1,u3,M3,by omega,(WZ cb ▸ hO3),Z,cI<|aX oM,ar⟩
    refine J Z (dW Z) Z<|UN 26 Z<|aN<|Wd 5 Z ?_;have cb:gH g w bb=false:=by unfold gH;rw[S];rfl
    refine aD ⟨j8-1,by omega,oF,bb+1,u2,M2,by omega,(VQ cb ▸ hO2),Z,cI<|aX oM,ar⟩
   refine UH 3 Z<|aN<|az<|Wd 5 Z ?_;have b8:bb=nV g:=by have:=bK a4;omega
   subst b8;refine aD ⟨j3-1,by omega,oF,w+1,u2,M2,by omega,(Wn cw ▸ hO2),Z,cI<|aX oM,ar⟩
  refine J Z (dW Z) Z<|UN 16 Z<|aN<|Wd 5 Z ?_;have cw:jt g w=false:=by unfold jt;rw[aE];rfl
  refine aD ⟨j3-1,by omega,oF,w+1,u,M,by omega,(VP cw ▸ hO),Z,cI<|aX oM,ar⟩
 refine UH 3 Z<|aN<|Vw 3 Z<|J Z (cO Z) Z<|J Z (W3 6 Z) Z<|J Z (W4 Z (ar.cg hv.row) Z) Z<|vQ 1 Z ?_;have b9:w=nV g:=by have:=bK a2;omega
 subst b9;obtain⟨K1,b3,bi,ar⟩:=H.bF (M:=M) ar;have hs1:=hO.fg (K:=K1) fun y hy=>bi _ hy
 refine kw (W2 Z Z Z) (J4 hG (n:=nV g) oM hs1 Tg ar) ?_;rintro _ O ⟨b2,rfl,ar⟩;refine gw ar Z (W9 Z Z Z ar.g1 Z) Z (fun O ar=>?_);refine VA 3 Z ?_;exact dh Z Z ar.g1 (m:=2) U Z ⟨K1,b2,b3,Z,ar.sub (.cons_cons _ (.cons _ (.refl _)))⟩
theorem TG (d:Plain G) (hg:dS K g va vb vc vd) (ar:H O K L):
  EC G 130 [.agg [va,vb,vc,vd]] O fun v O'=>(F (ec g) 0=false/\v= .tuple [.agg Hs,.int .i64 2]/\H O' K L)∨(dC g/\∃T u0 u1 A u3 ue up ul us uh,v= .tuple [.agg<|fp (nV g) u0 u1 A u3 ue up ul us uh,D]/\KP.le K T/\l7 T g u0 u1 A u3 ue up ul us uh/\H O' T L):=by
 refine V9 d Tryz.func130 Z<|Vw 2 Z<|kb ar (cH Z Z) (fun O b1 ar=>?_);refine kb ar (W6 (cs:=[D,.av,D,.av,D,.av,D,.av,D,.av,D,.av,D,.av,D,.av,D,.av])) (fun O b2 ar=>?_);refine UK 5 Z<|J Z (Xd Z ar.g1 Z) Z<|kw (W2 Z Z Z) (Sc d hg ar) ?_;rintro _ O (⟨hne,rfl,ar⟩ | ⟨hR,T,b,a1,b1_,c1_,d1,iv,ev,rfl,hleA,hv,ar⟩)
 ·refine TE 11 Z (J Z (dW Z) Z (UK 5 Z (J Z (W1 (places:=[(0,8),(8,10)]) (zero:=[D,.av,D,.av,D,.av,D,.av,D,.av,D,.av,D,.av,D,.av,D,.av]) (cs:=[_,_,_,_,_,_,_,_,_,_,_,_,_,_,_,_,_,_]) Z) Z ?_)));refine ks ar (Sx Z Z Z ar.g0 (m:=18) Z Z (cells':=[_,_,_,_,_,_,_,_,_,_,_,_,_,_,_,_,_,_]) Z) (fun O ar=>?_);refine UM 5 Z ?_;exact cV Z Z ar.g0 (m:=18) U Z Z (.inl ⟨hne,Z,ar.pop.pop⟩)
 have hvl:=jQ hR;have hg0:=hg;clear hg;refine TE 11 Z (J Z (dW Z) Z (Vy 3 Z (TC 14 Z (bk ([6,7,8]++rg 18 26) (fun j t O=>∃(i:Nat) (u:V) (M:Own),j+i=nV g/\cy 2 224 RP (eM (nV g) (sU g) i 0) u M/\t.get 6=some (u)/\t.get 7=some (nI i)/\H O T (M++(b2,.row [D,.av,D,.av,D,.av,D,.av,D,.av,D,.av,D,.av,D,.av,D,.av] 173 false)::(b1,.row [va,vb,vc,vd] 52 false)::L)) (nV g) ⟨0,_,[],Z,.inl ⟨Z,Z,Z⟩,Z,Z,ar⟩ ?_))));clear ar;intro j6 t O ak hI;obtain⟨i,u,M,ao,hO,E,aa,ar⟩:=hI;obtain⟨oo,rfl⟩:=ak.q2 E aa Z;refine UE 5 Z<|J Z (cO Z) Z<|J Z (W3 6 Z) Z<|J Z (W4 Z (ar.cg hv.row) Z) Z<|Vy 3 Z<|aG Z (fun B=>?_) (fun B=>?_)
 ·refine TC 9 Z (aK (bk ([6,8]++rg 26 18) (fun j t O=>∃(q:Nat) (A:V) (W:Own),j+q=nV g/\cy 2 224 RP (eM (nV g) (sU g) i q) A W/\t.get 6=some (A)/\t.get 8=some (nI q)/\H O T (W++(b2,.row [D,.av,D,.av,D,.av,D,.av,D,.av,D,.av,D,.av,D,.av,D,.av] 173 false)::(b1,.row [va,vb,vc,vd] 52 false)::L)) (nV g) ⟨0,u,M,Z,hO,Z,Z,ar⟩ ?_));clear ar;intro j9 t O ak hI;obtain⟨q,A,W,ap,hO2,E,ab,ar⟩:=hI;obtain⟨oo,rfl⟩:=ak.q2 E ab Z;refine UE 5 Z<|J Z (cO Z) Z<|J Z (W3 6 Z) Z<|J Z (W4 Z (ar.cg hv.row) Z) Z<|Vy 3 Z<|aG Z (fun I=>?_) (fun I=>?_)
  ·refine SF 6 Z ?_;have hin:=aM B;have hqn:=aM I;refine Wh 3 Z<|gz Z (W2 Z Z Z) (fun _=>Z) (TL d hv hin hqn ar) (fun N O ar=>?_) (fun N O ar=>?_)
   ·refine Vz 7 Z<|J Z (jX (e:=3) (n:=2) (m:=1) (zero:=[D,D]) (cs:=[_,_]) U U U Z) Z<|fh ar Z (bN (e:=224) (m:=2) (z:=[D,D]) (cs:=[_,_]) U U U U<|aZ Z Z Z Z bE) (fun _=>Z) (fun O b3 ar=>?_);replace ar:=ar.pull (.there<|bu.here (X:=W));replace ar:=ar.pull (.bV<|bu.here (X:=[_]));rw[za_] at ar;refine fw (R:=RP) (m:=2) (e:=224) hO2 ar (dn (m:=2) Z (show RP (i,q) [nI i,nI q] from Z)) RP.leaf (by have:=jl (n:=nV g) (R:=sU g) (i:=i) (q:=q);have:i*nV g<=62*62:=Nat.mul_le_mul oM hvl;show _+1<=_;omega) Z Z Z Z Z Z Z (fun _=>Z) (fun O ac am hO43 ar=>?_);refine Wg 2 Z<|az<|Wd 5 Z<|aD ⟨j9-1,by omega,oF,q+1,ac,am,by omega,(jn N ▸ hO43),Z,cI<|aX oM,ar⟩
   refine UL 5 Z<|Wd 5 Z<|aD ⟨j9-1,by omega,oF,q+1,A,W,by omega,(kD N ▸ hO2),Z,cI<|aX oM,ar⟩
  refine UH 3 Z<|aN<|az<|Wd 5 Z ?_;have hlp:=aM B;have Q:q=nV g:=by have:=bK I;omega
  subst Q;refine aD ⟨j6-1,by omega,oF,i+1,A,W,by omega,(jm ▸ hO2),Z,cI<|aX oM,ar⟩
 refine UH 3 Z<|aN<|Vw 2 Z ?_;have Q:i=nV g:=by have:=bK B;omega
 subst Q;rw[nm] at hO;refine vQ 1 Z<|kw (W2 Z Z Z) (PL d hv hR ar) ?_;rintro _ O ⟨K2,u0,u1,A,u3,rfl,C,g0,g1,g2,g3,ar⟩;replace hv:=hv.mono C;replace hleA:=KP.le_trans hleA C;refine J Z (W1 (places:=[(0,8),(8,10)]) (zero:=[D,.av,D,.av,D,.av,D,.av,D,.av,D,.av,D,.av,D,.av,D,.av]) (cs:=[_,_,_,_,_,_,_,_,_,_,_,_,_,_,_,_,_,_]) Z) Z<|kb ar (W6 (cs:=[D,.av,D,.av,D,.av,D,.av,D,.av,D,.av,D,.av,D,.av,D,.av])) (fun O b3 ar=>?_);refine bT ar Z (Sx Z Z Z ar.g0 (m:=18) Z (aj Z<|aj g0.leaf.2<|aj Z<|aj g1.leaf.2<|aj Z<|aj g2.leaf.2<|aj Z<|aj g3.leaf.2 Z) (cells':=[_,_,_,_,_,_,_,_,_,_,_,_,_,_,_,_,_,_]) Z) Z (fun O ar=>?_);refine UQ ar 6 [0,2] Z Z<|J Z (Xc Z ar.g0 Z) Z<|Wk ar 2 [0,4] Z Z<|J Z (Xc Z ar.g0 Z) Z<|Wk ar 2 [0,6] Z Z<|J Z (Xc Z ar.g0 Z) Z<|fh ar Z (bN (e:=167) (m:=2) (z:=[D,.av]) (cs:=[_,_,_,_,_,_]) U U U U<|aZ Z Z Z Z<|aZ Z Z Z Z<|aZ Z Z Z Z bE) (fun _=>Z) (fun O b4 ar=>?_);obtain⟨Kae,leae,memae,ar⟩:=H.bF (M:=[_]) ar;replace g0:=g0.mono leae fun _ _ h=>h
 replace g1:=g1.mono leae fun _ _ h=>h
 replace g2:=g2.mono leae fun _ _ h=>h
 replace g3:=g3.mono leae fun _ _ h=>h
 replace hv:=hv.mono leae;replace hleA:=KP.le_trans hleA leae;have hle:=Bb (n:=nV g) (memae _<|mS_ ..) g1 g2 g3;refine kw (W2 Z Z Z) (G2 d (n:=nV g) oM hle (Nat.succ_pos _) ar) ?_;rintro _ O ⟨oe,rfl,ar⟩;obtain⟨Kkoe,lekoe,memkoe,ar⟩:=H.bF (M:=[_]) ar;replace g0:=g0.mono lekoe fun _ _ h=>h
 replace g1:=g1.mono lekoe fun _ _ h=>h
 replace g2:=g2.mono lekoe fun _ _ h=>h
 replace g3:=g3.mono lekoe fun _ _ h=>h
 replace hv:=hv.mono lekoe;replace hleA:=KP.le_trans hleA lekoe;have hoe:=dM (memkoe _<|mS_ ..) (bQ (nV g)<|jR [tf g,rY g,uF g]) oM;refine kw (W2 Z Z Z) (CD d (n:=nV g) oM hoe ar) ?_;rintro _ O ⟨Kpe,upe,lepe,rfl,hpe,ar⟩;replace g0:=g0.mono lepe fun _ _ h=>h
 replace g1:=g1.mono lepe fun _ _ h=>h
 replace g2:=g2.mono lepe fun _ _ h=>h
 replace g3:=g3.mono lepe fun _ _ h=>h
 replace hoe:=hoe.mono lepe fun _ _ h=>h
 replace hv:=hv.mono lepe;replace hleA:=KP.le_trans hleA lepe;refine Wk ar 2 [8,0] Z Z<|ks ar (Sx Z Z Z ar.g0 (m:=2) Z (aj Z<|aj hpe.leaf.2 aC) (cells':=[_,_,_,_,_,_,_,_,_,_,_,_,_,_,_,_,_,_]) Z) (fun O ar=>?_);refine UQ ar 6 [0,0] Z Z<|J Z (Xc Z ar.g0 Z) Z<|Wk ar 2 [0,2] Z Z<|J Z (Xc Z ar.g0 Z) Z<|fh ar Z (bN (e:=167) (m:=2) (z:=[D,.av]) (cs:=[_,_,_,_]) U U U U<|aZ Z Z Z Z<|aZ Z Z Z Z bE) (fun _=>Z) (fun O b5 ar=>?_);obtain⟨Kap,leap,memap,ar⟩:=H.bF (M:=[_]) ar;replace g0:=g0.mono leap fun _ _ h=>h
 replace g1:=g1.mono leap fun _ _ h=>h
 replace g2:=g2.mono leap fun _ _ h=>h
 replace g3:=g3.mono leap fun _ _ h=>h
 replace hoe:=hoe.mono leap fun _ _ h=>h
 replace hpe:=hpe.mono leap fun _ _ h=>h
 replace hv:=hv.mono leap;replace hleA:=KP.le_trans hleA leap;have hlp:=pd (n:=nV g) (memap _<|mS_ ..) g0 g1;refine kw (W2 Z Z Z) (G2 d (n:=nV g) oM hlp (Nat.succ_pos _) ar) ?_;rintro _ O ⟨op,rfl,ar⟩;obtain⟨Kkop,lekop,memkop,ar⟩:=H.bF (M:=[_]) ar;replace g0:=g0.mono lekop fun _ _ h=>h
 replace g1:=g1.mono lekop fun _ _ h=>h
 replace g2:=g2.mono lekop fun _ _ h=>h
 replace g3:=g3.mono lekop fun _ _ h=>h
 replace hoe:=hoe.mono lekop fun _ _ h=>h
 replace hpe:=hpe.mono lekop fun _ _ h=>h
 replace hv:=hv.mono lekop;replace hleA:=KP.le_trans hleA lekop;have hop:=dM (memkop _<|mS_ ..) (bQ (nV g)<|jR [jT g,tf g]) oM;refine kw (W2 Z Z Z) (CD d (n:=nV g) oM hop ar) ?_;rintro _ O ⟨Kpp,upp,lepp,rfl,hpp,ar⟩;replace g0:=g0.mono lepp fun _ _ h=>h
 replace g1:=g1.mono lepp fun _ _ h=>h
 replace g2:=g2.mono lepp fun _ _ h=>h
 replace g3:=g3.mono lepp fun _ _ h=>h
 replace hoe:=hoe.mono lepp fun _ _ h=>h
 replace hpe:=hpe.mono lepp fun _ _ h=>h
 replace hop:=hop.mono lepp fun _ _ h=>h
 replace hv:=hv.mono lepp;replace hleA:=KP.le_trans hleA lepp;refine Wk ar 2 [8,2] Z Z<|ks ar (Sx Z Z Z ar.g0 (m:=2) Z (aj Z<|aj hpp.leaf.2 aC) (cells':=[_,_,_,_,_,_,_,_,_,_,_,_,_,_,_,_,_,_]) Z) (fun O ar=>?_);refine UK 5 Z<|J Z (cO Z) Z<|J Z (W3 6 Z) Z<|J Z (W4 Z (ar.cg hv.row) Z) Z<|vQ 1 Z ?_;replace ar:=ar.pull (.there<|bu.here (X:=M));obtain⟨Kl,lel,meml,ar⟩:=H.bF (M:=M) ar;replace g0:=g0.mono lel fun _ _ h=>h
 replace g1:=g1.mono lel fun _ _ h=>h
 replace g2:=g2.mono lel fun _ _ h=>h
 replace g3:=g3.mono lel fun _ _ h=>h
 replace hoe:=hoe.mono lel fun _ _ h=>h
 replace hpe:=hpe.mono lel fun _ _ h=>h
 replace hop:=hop.mono lel fun _ _ h=>h
 replace hpp:=hpp.mono lel fun _ _ h=>h
 replace hv:=hv.mono lel;replace hleA:=KP.le_trans hleA lel;have hsl:=hO.fg (K:=Kl) fun y hy=>meml _ hy
 refine kw (W2 Z Z Z) (J4 d (n:=nV g) oM hsl ou ar) ?_;rintro _ O ⟨ol,rfl,ar⟩;obtain⟨Kkl,lekl,memkl,ar⟩:=H.bF (M:=[_]) ar;replace g0:=g0.mono lekl fun _ _ h=>h
 replace g1:=g1.mono lekl fun _ _ h=>h
 replace g2:=g2.mono lekl fun _ _ h=>h
 replace g3:=g3.mono lekl fun _ _ h=>h
 replace hoe:=hoe.mono lekl fun _ _ h=>h
 replace hpe:=hpe.mono lekl fun _ _ h=>h
 replace hop:=hop.mono lekl fun _ _ h=>h
 replace hpp:=hpp.mono lekl fun _ _ h=>h
 replace hv:=hv.mono lekl;replace hleA:=KP.le_trans hleA lekl;have gl:=dM (memkl _<|mS_ ..) (bQ (nV g)<|wB<|jk (nV g)<|sU g) oM;rw[lW] at gl;refine Wk ar 2 [8,4] Z Z<|ks ar (Sx Z Z Z ar.g0 (m:=2) Z (aj Z<|aj gl.leaf.2 aC) (cells':=[_,_,_,_,_,_,_,_,_,_,_,_,_,_,_,_,_,_]) Z) (fun O ar=>?_);refine UK 5 Z<|kw (W2 Z Z Z) (VJ d hv hR ar) ?_;rintro _ O ⟨Ks,os,les,rfl,ar⟩;replace g0:=g0.mono les fun _ _ h=>h
 replace g1:=g1.mono les fun _ _ h=>h
 replace g2:=g2.mono les fun _ _ h=>h
 replace g3:=g3.mono les fun _ _ h=>h
 replace hoe:=hoe.mono les fun _ _ h=>h
 replace hpe:=hpe.mono les fun _ _ h=>h
 replace hop:=hop.mono les fun _ _ h=>h
 replace hpp:=hpp.mono les fun _ _ h=>h
 replace gl:=gl.mono les fun _ _ h=>h
 replace hv:=hv.mono les;replace hleA:=KP.le_trans hleA les;obtain⟨Kks,leks,memks,ar⟩:=H.bF (M:=[_]) ar;replace g0:=g0.mono leks fun _ _ h=>h
 replace g1:=g1.mono leks fun _ _ h=>h
 replace g2:=g2.mono leks fun _ _ h=>h
 replace g3:=g3.mono leks fun _ _ h=>h
 replace hoe:=hoe.mono leks fun _ _ h=>h
 replace hpe:=hpe.mono leks fun _ _ h=>h
 replace hop:=hop.mono leks fun _ _ h=>h
 replace hpp:=hpp.mono leks fun _ _ h=>h
 replace gl:=gl.mono leks fun _ _ h=>h
 replace hv:=hv.mono leks;replace hleA:=KP.le_trans hleA leks;have gs:=dM (memks _<|mS_ ..) (bQ (nV g)<|vr g) oM;refine Wk ar 2 [8,6] Z Z<|ks ar (Sx Z Z Z ar.g0 (m:=2) Z (aj Z<|aj gs.leaf.2 aC) (cells':=[_,_,_,_,_,_,_,_,_,_,_,_,_,_,_,_,_,_]) Z) (fun O ar=>?_);refine UQ ar 6 [0,0] Z Z<|J Z (Xc Z ar.g0 Z) Z<|Wk ar 2 [8,6] Z Z<|J Z (Xc Z ar.g0 Z) Z<|fh ar Z (bN (e:=167) (m:=2) (z:=[D,.av]) (cs:=[_,_,_,_]) U U U U<|aZ Z Z Z Z<|aZ Z Z Z Z bE) (fun _=>Z) (fun O b6 ar=>?_);obtain⟨Kah,leah,memah,ar⟩:=H.bF (M:=[_]) ar;replace g0:=g0.mono leah fun _ _ h=>h
 replace g1:=g1.mono leah fun _ _ h=>h
 replace g2:=g2.mono leah fun _ _ h=>h
 replace g3:=g3.mono leah fun _ _ h=>h
 replace hoe:=hoe.mono leah fun _ _ h=>h
 replace hpe:=hpe.mono leah fun _ _ h=>h
 replace hop:=hop.mono leah fun _ _ h=>h
 replace hpp:=hpp.mono leah fun _ _ h=>h
 replace gl:=gl.mono leah fun _ _ h=>h
 replace gs:=gs.mono leah fun _ _ h=>h
 replace hv:=hv.mono leah;replace hleA:=KP.le_trans hleA leah;have hlh:=pd (n:=nV g) (memah _<|mS_ ..) g0 gs;refine kw (W2 Z Z Z) (G2 d (n:=nV g) oM hlh (Nat.succ_pos _) ar) ?_;rintro _ O ⟨oh,rfl,ar⟩;obtain⟨Kkoh,lekoh,memkoh,ar⟩:=H.bF (M:=[_]) ar;replace g0:=g0.mono lekoh fun _ _ h=>h
 replace g1:=g1.mono lekoh fun _ _ h=>h
 replace g2:=g2.mono lekoh fun _ _ h=>h
 replace g3:=g3.mono lekoh fun _ _ h=>h
 replace hoe:=hoe.mono lekoh fun _ _ h=>h
 replace hpe:=hpe.mono lekoh fun _ _ h=>h
 replace hop:=hop.mono lekoh fun _ _ h=>h
 replace hpp:=hpp.mono lekoh fun _ _ h=>h
 replace gl:=gl.mono lekoh fun _ _ h=>h
 replace gs:=gs.mono lekoh fun _ _ h=>h
 replace hv:=hv.mono lekoh;replace hleA:=KP.le_trans hleA lekoh;have hoh:=dM (memkoh _<|mS_ ..) (bQ (nV g)<|jR [jT g,vr g]) oM;refine kw (W2 Z Z Z) (CD d (n:=nV g) oM hoh ar) ?_;rintro _ O ⟨Kph,uph,leph,rfl,S,ar⟩;replace g0:=g0.mono leph fun _ _ h=>h
 replace g1:=g1.mono leph fun _ _ h=>h
 replace g2:=g2.mono leph fun _ _ h=>h
 replace g3:=g3.mono leph fun _ _ h=>h
 replace hoe:=hoe.mono leph fun _ _ h=>h
 replace hpe:=hpe.mono leph fun _ _ h=>h
 replace hop:=hop.mono leph fun _ _ h=>h
 replace hpp:=hpp.mono leph fun _ _ h=>h
 replace gl:=gl.mono leph fun _ _ h=>h
 replace gs:=gs.mono leph fun _ _ h=>h
 replace hoh:=hoh.mono leph fun _ _ h=>h
 replace hv:=hv.mono leph;replace hleA:=KP.le_trans hleA leph;refine Wk ar 2 [8,8] Z Z<|ks ar (Sx Z Z Z ar.g0 (m:=2) Z (aj Z<|aj S.leaf.2 aC) (cells':=[_,_,_,_,_,_,_,_,_,_,_,_,_,_,_,_,_,_]) Z) (fun O ar=>?_);refine UK 4 Z<|J Z (Qw Z ar.g0 (n:=18) (vs:=[_,_,_,_,_,_,_,_,_,_,_,_,_,_,_,_,_,_]) Z) Z ?_;refine gw ar Z (Sx Z Z Z ar.g1 (m:=18) Z (aj Z<|aj g0.leaf.2<|aj Z<|aj g1.leaf.2<|aj Z<|aj g2.leaf.2<|aj Z<|aj g3.leaf.2<|aj Z<|aj hpe.leaf.2<|aj Z<|aj hpp.leaf.2<|aj Z<|aj gl.leaf.2<|aj Z<|aj gs.leaf.2<|aj Z<|aj S.leaf.2 aC) (cells':=[_,_,_,_,_,_,_,_,_,_,_,_,_,_,_,_,_,_]) Z) Z (fun O ar=>?_);refine VA 4 Z ?_;exact cV Z Z ar.g1 (m:=18) U Z Z (.inr ⟨hR,_,_,_,_,_,_,_,_,_,_,Z,hleA,⟨g0,g1,g2,g3,hpe,hpp,gl,gs,S⟩,ar.pop.pop.pop⟩)
inductive Reach (nx:Nat->List Nat):Nat->Prop
 | zero:Reach nx 0
 | step {i t:Nat}:Reach nx i->t∈nx i->Reach nx t
section
variable {nx:Nat->List Nat} {w:Nat->Nat} {r:Nat->Bool} {n:Nat}
end
section
variable {nx dx:Nat->List Nat} {w:Nat->Nat} {r:Nat->Bool} {n:Nat} {out:List Nat} {F_ H_:Nat->Nat}
end
structure V5 (nx:Nat->List Nat) (s:DS):Prop where
 open_:∀i:Nat,s.st[i]? =some 1->i∈s.path
 WL:∀(j a b:Nat),s.path[j]? =some a->s.path[j+1]? =some b->b∈nx a
 reach:∀i∈s.path,Reach nx i
structure WA (nx:Nat->List Nat) (n:Nat) (o:List Bool) (st:List Nat):Prop where
 len:o.length=n
 reach:∀i:Nat,o[i]? =some true->Reach nx i
 zero:o[0]? =some true
 W0:∀i∈st,i<n/\o[i]? =some true
 closed:∀i:Nat,o[i]? =some true->i∈st∨∀t∈nx i,o[t]? =some true
structure WB (nx:Nat->List Nat) (n:Nat) (o:List Bool) (st:List Nat) (a m:Nat) (dl:List Nat):Prop where
 len:o.length=n
 reach:∀i:Nat,o[i]? =some true->Reach nx i
 zero:o[0]? =some true
 W0:∀i∈st,i<n/\o[i]? =some true
 at_:o[a]? =some true
 closed:∀i:Nat,o[i]? =some true->i∈st∨i=a∨∀t∈nx i,o[t]? =some true
 done:∀(q t:Nat),q<m->dl[q]? =some t->o[t]? =some true
section
variable {nx:Nat->List Nat} {n:Nat} {o:List Bool} {st:List Nat} {a m t:Nat} {dl:List Nat}
end
def Sf (h:wG):List V:=[.bool h.PN,.bool h.loc,.bool h.order,.bool h.to,nI h.exprs]
def Qb:List V:=IC.flatMap Sf
structure Ww (G:Cx) (K:KP):Prop where
 gl:Nat.ble 1 G.gl=true
 sh:∃e ro,K (posOf 0) (.row Qb e ro)
structure Wy (v:V):Prop where
 leaf:cG v=some [v]/\eB v=true
structure V7 (k:Nat) (c:XC) (R:TS) (K1:KP) (ev:V) (fn:Int) (a:I0):Prop where
 ev:bO K1 5 gG R.events ev
 ask:R.asks=true->fn=0/\a=Re k c R
 fin:R.asks=false->fn=R.fin/\a=H4
structure Wt (k:Nat) (init:List Int) (l:List XC):Prop where
 len:l.length<=4
 init:init.length<=6
 pos:0<l.length
 flat:∀c∈l,LH k c=true
theorem MJ {m b:Nat} {x:α} (hm:vs.length=m) (d:R x vs):cy m E R [x] (.slice b 0 1 (.known 1)) [(b,.row vs e false)]:=
 .inr ⟨b,.known 1,vs,e,Z,Z,by rw[hm];simp,fun i y h=>by
  cases i with
  | zero=>cases h;rw[Nat.zero_mul,List.drop_zero,tL_ oM];exact d
  | succ i=>simp at h,.inl Z,by show 1<=1048576;decide⟩
theorem Lj (T:Plain G) {a b c d:V} (Q:dS K g a b c d) (loc:Int) (ar:H O K L):
  EC G 245 [.agg [a,b,c,d],.int .i64 loc] O fun v O'=>∃M,cy 2 87 dK (fq g loc) v M/\H O' K (M++L):=by
 refine V9 T Tryz.func245 Z<|Vw 2 Z<|kb ar (cH Z Z) (fun O b1 ar=>?_);refine TE 6 Z<|J Z (Xd Z ar.g0 Z) Z<|kx (W2 Z Z Z) (vw T Q ar) (fun O ar=>?_);refine vQ 1 Z<|ky Z (an Z) (fun C=>?_) (fun C=>?_)
 ·refine UM 20 Z ?_;exact aA Z Z ⟨[],.inl ⟨Dl<|cY C,Z,Z⟩,ar.pop⟩
 refine Wh 3 Z<|ky Z (an Z) (fun A=>?_) (fun A=>?_)
 ·refine UM 16 Z ?_;exact aA Z Z ⟨[],.inl ⟨Fz A,Z,Z⟩,ar.pop⟩
 refine Wk ar 3 [0,0] Z Z<|J Z (W5 Q.init Z Z Z (e:=2) Z) Z<|Vy 4 Z<|aG Z (fun B=>?_) (fun B=>?_)
 ·obtain⟨ln,rfl⟩:=nG A;refine Vx 7 Z ?_;exact aA Z Z ⟨[],.inl ⟨Fy (by rw[(iE<|Lm<|cD C).2.2.2.2.1];exact iQ B),Z,Z⟩,ar.pop⟩
 obtain⟨ln,rfl⟩:=nG A;refine UG 5 Z (J Z (W1 (places:=[(0,1),(1,1)]) (zero:=[D,D]) (cs:=[_,_]) Z) Z<|fh ar Z (bN (e:=87) (m:=2) (z:=[D,D]) (cs:=[_,_]) U U U U<|aZ Z Z Z Z bE) (fun _=>Z) (fun O W ar=>?_));replace ar:H O _ ([(W,.row _ 87 false)]++_):=ar;refine J Z (W3 3 Z) Z<|J Z (W4 Z ar.bG.g0 Z) Z<|vQ 1 Z ?_;obtain⟨ac,u⟩:=dc (show ln<g.order.length from by rw[(iE<|Lm<|cD C).2.2.2.2.1];exact iS B);refine WV (e:=42) (m:=1) Q.order u Z Z Z Z (fun ak aa E ab I=>?_);have hr25':=I;obtain⟨am,rfl,N⟩:=hr25';refine J Z (W7 ar E Z Z) Z (yN (R:=dK) (m:=2) (e:=87) (MJ (m:=2) (R:=dK) (x:=⟨0,.ofNat ln⟩) Z Z) ar N dK.leaf (by have:=mz (Lm<|cD C) _ (gB_ u);show 1+_<=_;omega) Z Z Z Z Z Z Z (fun _=>Z) (fun O ao S hO27 ar=>?_));refine VA 4 Z ?_;exact aA Z Z ⟨S,by rw[te (cD C) u];exact hO27,ar.sub<|eb (.cons _ (.refl _))⟩
theorem PI (z:Plain G) (A:dS K g va vb vc vd) (B:dC g) (id:bS) (ar:H O K L):
  Ca G K L 243 [.agg [va,vb,vc,vd],.agg [.int .i64 id.bH,.int .i64 id.index]] O <| .tuple [.agg<|ints (nf<|dV g id).ints,.bool (dV g id).isSome]:=by
 have hck:=fl.2 B;refine V9 z Tryz.func243 Z<|Vw 2 Z<|kb ar (cH Z Z) (fun O b1 ar=>?_);refine kb ar (cH Z Z) (fun O b2 ar=>?_);refine kb ar (W6 (cs:=[D,D,D,D,D])) (fun O b3 ar=>?_);refine UK 5 Z<|J Z (Xd Z (ar.get 2 Z) Z) Z<|J Z (Xc Z ar.g1 Z) Z<|kx (W2 Z Z Z) (uA z A id.bH id.index ar) (fun O ar=>?_);refine Wh 3 Z<|kb ar (W6 (cs:=[D,D,D,D,D])) (fun O b4 ar=>?_);refine ks ar (Xb Z Z Z ar.g0 Z) (fun O ar=>?_);refine TE 6 Z<|J Z (Xd Z (ar.get 3 Z) Z) Z<|kx (W2 Z Z Z) (by have q:=vw z A ar;rw[hck] at q;exact q) (fun O ar=>?_);refine vQ 1 Z<|ky Z (an Z) (fun u=>?_) (fun u=>?_)
 ·exact absurd u (by decide)
 refine vQ 1 Z<|J Z (dW Z) Z<|Vy 3 Z<|aG Z (fun d=>?_) (fun d=>?_)
 ·refine Vw 2 Z (J Z (W1 (places:=[(0,1),(1,1),(2,1),(3,1),(4,1)]) (zero:=[D,D,D,D,D]) (cs:=[_,_,_,_,_]) Z) Z<|gw ar Z (Xb Z Z Z ar.g1 Z) Z (fun O ar=>?_));refine UM 5 Z ?_;exact cV Z Z ar.g1 (m:=5) U Z Z ⟨by have e:(dV g id).isSome=false:=cY d;rw[e];cases hh:dV g id with | none=>rfl | some w=>(rw[hh] at e;cases e),ar.pop.pop.pop.pop⟩
 refine UG 4 Z<|J Z (Xe Z ar.g0 Z) Z<|gw ar Z (Xb Z Z Z ar.g1 Z) Z (fun O ar=>?_);refine VA 4 Z ?_;exact cV Z Z ar.g1 (m:=5) U Z Z ⟨by rw[show(dV g id).isSome=true from cD d];rfl,ar.pop.pop.pop.pop⟩
theorem Ip (R:Plain G) (W:dS K g va vb vc vd) (hR:dC g) (id:bS) (ar:H O K L):
  Ca G K L 212 [.agg [va,vb,vc,vd],.agg [.int .i64 id.bH,.int .i64 id.index]] O <| .int .i64 (lh g id):=by
 refine V9 R Tryz.func212 Z<|Vw 2 Z<|kb ar (cH Z Z) (fun O b1 ar=>?_);refine kb ar (cH Z Z) (fun O b2 ar=>?_);refine UK 5 Z<|J Z (Xd Z ar.g1 Z) Z<|J Z (Xc Z ar.g0 Z) Z<|kx (W2 Z Z Z) (PI R W hR id ar) (fun O ar=>?_);refine Wh 3 Z<|kb ar (W6 (cs:=[D,D,D,D,D])) (fun O b3 ar=>?_);refine ks ar (Xb Z Z Z ar.g0 Z) (fun O ar=>?_);refine TE 7 Z<|J Z (dW Z) Z<|ky Z (an Z) (fun d=>?_) (fun d=>?_)
 ·refine UM 14 Z ?_;exact aA Z Z ⟨cJ (by symm;unfold lh;rw[show(dV g id).isSome=false from cY d];rfl),ar.pop.pop.pop⟩
 refine J Z (Xe Z ar.g0 Z) Z<|kx (W2 Z Z Z) (l5 R (nf<|dV g id) ar) (fun O ar=>?_);refine J Z (dW Z) Z<|Vy 3 Z<|aG Z (fun A=>?_) (fun A=>?_)
 ·refine Vx 7 Z ?_;exact aA Z Z ⟨cJ (by symm;unfold lh;rw[show(dV g id).isSome=true from cD d,show bz (nf<|dV g id)=false from cY A];rfl),ar.pop.pop.pop⟩
 refine UG 4 Z<|J Z (Xd Z (ar.get 2 Z) Z) Z<|Wk ar 2 [1,0] Z Z<|kw (W2 Z Z Z) (Lj R W _ ar) ?_;rintro am O ⟨S,hM25,ar⟩;obtain⟨X,C,E,ar⟩:=H.bF (M:=S) ar;have hw:=hM25.fg (K:=X) fun y hy=>E _ hy
 refine TD 10 Z ?_;obtain⟨LL1,ar,hLL1⟩:=ar.named;refine bk ([4,8]++rg 26 13) (fun j t O=>∃(k:Nat),j+k=(fq g (nf<|dV g id).loc).length/\eR (fun x:bS=>cC x.ints id.ints) (fq g (nf<|dV g id).loc) 0=eR (fun x:bS=>cC x.ints id.ints) ((fq g (nf<|dV g id).loc).drop k) k/\t.get 8=some (nI k)/\H O X LL1) ((fq g (nf<|dV g id).loc).length) ⟨0,Z,Z,Z,ar⟩ ?_;clear ar;intro j6 t O ak hI;obtain⟨k,ao,he,T,ar⟩:=hI;subst hLL1;obtain⟨oo,rfl⟩:=ak.q1 T Z;refine UE 5 Z<|J Z (W5 hw Z Z Z (e:=87) Z) Z<|Vy 3 Z<|aG Z (fun u=>?_) (fun u=>?_)
 ·refine SE 5 Z<|aL (l:=zp [0,1,2,3,4,5]) U U<|Wj 2 Z ?_;obtain⟨B,z,aa⟩:=di u;refine WW (e:=87) (m:=2) hw z Z Z Z Z Z (fun ap ab N ac Q=>?_);obtain rfl:=Q;refine ah Z Z (W8 ar N Z Z) Z<|ah Z Z (Xc Z ar.g1 Z) Z<|ah Z Z (zF (n:=2) (ca:=[_,_]) (cb:=[_,_]) U Z Z Z Z) Z<|VB 2 Z<|aG Z (fun I=>?_) (fun I=>?_)
  ·refine Wf 7 Z<|aP<|aH<|bX<|aP<|aH (?_);exact aA Z Z ⟨cJ (by symm;unfold lh;rw[show(dV g id).isSome=true from cD d,show bz (nf<|dV g id)=true from cD A];show eR (fun x:bS=>cC x.ints id.ints) (fq g (nf<|dV g id).loc) 0=_;rw[he,cQ z];show(bif cC B.ints id.ints then _ else _)=_;rw[show cC B.ints id.ints=true from I];rfl),(ar.pop.pop.pop).weaken C⟩
  refine aI<|az<|Wd 5 Z ?_;have hlp:=aM u;refine aD ⟨j6-1,by have:=aM u;omega,oF,k+1,by omega,by rw[he,cQ z];show(bif cC B.ints id.ints then _ else _)=_;rw[show cC B.ints id.ints=false from I];rfl,cI<|aX (by have:=hw.cS;omega),ar⟩
 refine UH 3 Z<|aN<|Wf 6 Z ?_;exact aA Z Z ⟨cJ (by symm;unfold lh;rw[show(dV g id).isSome=true from cD d,show bz (nf<|dV g id)=true from cD A];show eR (fun x:bS=>cC x.ints id.ints) (fq g (nf<|dV g id).loc) 0=_;rw[he,eU<|bK u];rfl),(ar.pop.pop.pop).weaken C⟩
theorem CH (B:Plain G) {n:Nat} (hn:n<=64) (E:bO K 1 RU (bC n A) va) (ar:H O K L):
  Ca G K L 168 [.agg [nI n,va]] O <| .int .i64 (s8 n A):=by
 refine V9 B Tryz.func168 Z<|Vw 2 Z<|kb ar (cH Z Z) (fun O b1 ar=>?_);refine UK 5 Z<|J Z (Xc Z ar.g0 Z) Z<|kw (W2 Z Z Z) (CD B hn E ar) ?_;rintro _ O ⟨I,up,u,rfl,hp,ar⟩;refine kb ar (W6 (cs:=[D,.av])) (fun O b2 ar=>?_);refine ks ar (Sx Z Z Z ar.g0 (m:=2) Z (aj Z<|aj hp.leaf.2 aC) (cells':=[_,_]) Z) (fun O ar=>?_);refine TD 9 Z ?_;obtain⟨LL1,ar,hLL1⟩:=ar.named;refine bk ([2,4]++rg 7 11) (fun j t O=>∃(i:Nat),j+i=n/\eR (fun i=>lz n A i i) (List.range n) 0=eR (fun i=>lz n A i i) ((List.range n).drop i) i/\t.get 4=some (nI i)/\H O I LL1) (n) ⟨0,Z,Z,Z,ar⟩ ?_;clear ar;intro M t O ak N;obtain⟨i,aa,he,C,ar⟩:=N;subst hLL1;obtain⟨oo,rfl⟩:=ak.q1 C Z;refine VD ar 9 [0,0] Z Z<|aG Z (fun d=>?_) (fun d=>?_)
 ·refine SF 6 Z<|J Z (Xc Z ar.g0 Z) Z<|Wh 2 Z<|kx (W2 Z Z Z) (TI B hn hp (aM d) (aM d) ar) (fun O ar=>?_);refine Vy 2 Z<|aG Z (fun z=>?_) (fun z=>?_)
  ·refine Wf 7 Z<|aP<|aH<|bX<|aP<|aH (?_);exact aA Z Z ⟨cJ (by symm;show eR (fun i=>lz n A i i) (List.range n) 0=_;rw[he,cQ<|zr_<|aM d];show(bif lz n A i i then _ else _)=_;rw[show lz n A i i=true from z];rfl),(ar.pop.pop).weaken u⟩
  refine aI<|az<|Wd 5 Z ?_;have hlp:=aM d;refine aD ⟨M-1,by have:=aM d;omega,oF,i+1,by omega,by rw[he,cQ<|zr_ hlp];show(bif lz n A i i then _ else _)=_;rw[show lz n A i i=false from z];rfl,cI<|aX oM,ar⟩
 refine UH 3 Z<|aN<|Wf 6 Z ?_;exact aA Z Z ⟨cJ (by symm;show eR (fun i=>lz n A i i) (List.range n) 0=_;rw[he,eU (by rw[List.length_range];exact bK d)];rfl),(ar.pop.pop).weaken u⟩
theorem Iq (N:Plain G) (m:Int) (ar:H O K L):
  EC G 105 [.int .i64 m] O fun v O'=>∃A,KP.le K A/\bO A 1 ek (eG m) v/\H O' A L:=by
 refine V9 N Tryz.func105 Z<|UD 18 Z<|aG Z (fun B=>?_) (fun B=>?_)
 ·refine Vw 2 Z<|fh ar Z (bN (e:=3) (m:=1) (z:=[D]) (cs:=[_,_,_]) U U U U<|aZ Z Z Z Z<|aZ Z Z Z Z<|aZ Z Z Z Z bE) (fun _=>Z) (fun O C ar=>?_);refine VA 4 Z<|aP<|aH (?_);obtain⟨A,u,d,ar⟩:=H.bF (M:=[_]) ar;exact aA Z Z ⟨A,u,by unfold eG;rw[show F m 1=true from B];exact(vh (E:=3) (b:=C) (e:=3) (xs:=[1,2,6]) (by simp)).fg fun y hy=>d _ hy,ar⟩
 refine Wc 6 Z<|aG Z (fun I=>?_) (fun I=>?_)
 ·refine Vw 2 Z<|fh ar Z (bN (e:=3) (m:=1) (z:=[D]) (cs:=[_,_,_,_,_]) U U U U<|aZ Z Z Z Z<|aZ Z Z Z Z<|aZ Z Z Z Z<|aZ Z Z Z Z<|aZ Z Z Z Z bE) (fun _=>Z) (fun O C ar=>?_);refine VA 4 Z<|aP<|aH (?_);obtain⟨A,u,d,ar⟩:=H.bF (M:=[_]) ar;exact aA Z Z ⟨A,u,by unfold eG;rw[show F m 1=false from B,show F m 2=true from I];exact(vh (E:=3) (b:=C) (e:=3) (xs:=[1,2,3,4,5]) (by simp)).fg fun y hy=>d _ hy,ar⟩
 refine aI<|az<|Wf 6 Z ?_;exact aA Z Z ⟨K,KP.le_refl K,by unfold eG;rw[show F m 1=false from B,show F m 2=false from I];exact .inl ⟨Z,Z⟩,ar⟩
theorem Nd (hG:Plain G) (hg:dS K g va vb vc vd) (T:dC g) (ar:H O K L):
  Ca G K L 167 [.agg [va,vb,vc,vd]] O <| .int .i64 (Fk g):=by
 have hvl:=jQ T;refine V9 hG Tryz.func167 Z<|Vw 2 Z<|kb ar (cH Z Z) (fun O b1 ar=>?_);refine UK 5 Z<|J Z (Xd Z ar.g0 Z) Z<|kw (W2 Z Z Z) (QX hG hg T ar) ?_;rintro u7 O ⟨M7,hO7,ar⟩;obtain⟨K1,A,W,ar⟩:=H.bF (M:=M7) ar;have N:bO K1 2 dK (gu g) u7:=hO7.fg fun y hy=>W _ hy
 replace hg:=hg.mono A;refine TD 10 Z ?_;obtain⟨LL1,ar,hLL1⟩:=ar.named;refine bk ([2,4,5]++rg 8 47) (fun j t O=>∃(i:Nat),j+i=nV g/\eR (oK g) (gu g) 0=eR (oK g) ((gu g).drop i) i/\t.get 4=some (nI i)/\H O K1 LL1) (nV g) ⟨0,Z,Z,Z,ar⟩ ?_;clear ar;intro j3 t O ak hI;obtain⟨i,bw,he,bb,ar⟩:=hI;subst hLL1;obtain⟨oo,rfl⟩:=ak.q1 bb Z;refine UE 5 Z<|J Z (W5 N Z Z Z (e:=87) Z) Z<|Vy 3 Z<|aG Z (fun z=>?_) (fun z=>?_)
 ·refine SF 6 Z ?_;have d:i<nV g:=aM z;refine Wh 2 Z<|WV (e:=87) (m:=2) N (eE d) Z Z Z Z (fun bD bf am bg ao=>?_);obtain rfl:=ao;refine J Z (W8 ar am Z Z) Z<|kb ar (W6 (cs:=[D,D])) (fun O b2 ar=>?_);refine ks ar (W9 Z Z Z ar.g0 Z) (fun O ar=>?_);refine UJ 3 Z<|al<|aL (l:=zp [0,1,2,3,4,5,6,7,8,9,10,11,12,13,14,15,16,17]) U U<|Wl ar 3 [0,0] Z Z<|e8 Z Z (an Z) (fun _=>Z) (fun u=>?_) (fun u=>?_)
  ·refine VB 17 Z<|bn<|aR<|aN<|Wd 5 Z ?_;have ar:=ar.pop;have hlp:=aM z;have B:oK g (eT g i)=false:=by show(bif F (eT g i).bH 0 then false else _)=false;rw[show F (eT g i).bH 0=true from u];rfl
   refine aD ⟨j3-1,by omega,oF,i+1,by omega,by rw[he,cQ<|eE d];show(bif oK g (eT g i) then _ else _)=_;rw[B];rfl,cI<|aX oM,ar⟩
  obtain⟨tt,kk,row,e,C,E,bc,ap⟩:∃(t k:Nat) (row:List cm) (e:cm),eT g i=⟨.ofNat (t+1),.ofNat k⟩/\g.threads[t]? =some row/\row[k]? =some e/\eu g i=e:=by rcases gh d with ⟨x,v,h1,_⟩ | h;(rw[h1] at u;exact Bool.noConfusion (show true=false from u));exact h
  refine Wl ar 4 [1,1,0,0] Z Z (ah Z Z (ay (v:=nI tt) Z Z (by rw[C];exact cI (fD (by have:=T.threads;have:=(gA.1 E).1;omega)))) Z<|WW (e:=25) (m:=1) hg.threads E Z Z Z Z Z (fun b0 bi aE bl a0=>?_));have hr27':=a0;obtain⟨b3,rfl,a1⟩:=hr27';refine ah Z Z (W7 ar aE Z Z) Z<|Wl ar 2 [1,0] Z Z<|WW (e:=38) (m:=5) a1 bc Z Z Z Z (cI<|congrArg bS.index C) (fun b4 bm a2 bo a3=>?_);obtain rfl:=a3;refine dN a2 Z Z Z Z (k:=0) U (lb Z) (fun _=>Z) (fun b5 a4=>?_);refine ah Z Z (W7 ar a4 Z Z) Z<|VB 4 Z<|aG Z (fun X=>?_) (fun X=>?_)
  ·refine bn<|aR<|aN<|Wd 5 Z ?_;have ar:=ar.pop;have hlp:=aM z;have B:oK g (eT g i)=false:=by unfold oK;rw[show F (eT g i).bH 0=false from u,show nf (dV g<|eT g i)=eu g i from Z,ap,show cL (F e.kind 3)=true from X];rfl
   refine aD ⟨j3-1,by omega,oF,i+1,by omega,by rw[he,cQ<|eE d];show(bif oK g (eT g i) then _ else _)=_;rw[B];rfl,cI<|aX oM,ar⟩
  refine UF 3 Z (aL (l:=[(0,[]),(1,[]),(3,[]),(4,[]),(5,[]),(6,[]),(7,[]),(8,[]),(9,[]),(10,[]),(11,[]),(12,[]),(13,[]),(14,[]),(2,[3,5,7,10,12,14]),(15,[]),(16,[]),(17,[])]) U U ?_);have aa:F (eu g i).kind 3=true:=by rw[ap];exact cD X
  obtain⟨bd,kk2,bp,e2,frow,q,I,be,_,_,ab,hq,a5,_⟩:=HW T d (kW aa);obtain⟨rfl,rfl⟩:tt=bd/\kk=kk2:=by rw[C] at I;exact⟨by have:=iJ_ (congrArg bS.bH I);omega,by have:=iJ_ (congrArg bS.index I);omega⟩
  refine ah Z Z (Xd Z ar.g1 Z) Z (ah Z Z (Xc Z ar.g0 Z) Z (ah Z Z (Xd Z ar.g1 Z) Z (Wl ar 4 [2,1,0,0] Z Z (ah Z Z (ay (v:=nI tt) Z Z (by rw[C];exact cI (fD (by have:=T.threads;have:=(gA.1 E).1;omega)))) Z<|WW (e:=42) (m:=1) hg.from_ ab Z Z Z Z Z (fun b6 bq Q bs a9=>?_)))));have hr45':=a9;obtain⟨b7,rfl,R⟩:=hr45';refine ah Z Z (W7 ar Q Z Z) Z<|Wl ar 2 [1,0] Z Z<|WW (e:=87) (m:=2) R hq Z Z Z Z (cI<|congrArg bS.index C) (fun b8 bt S bv ba=>?_);obtain rfl:=ba;refine ah Z Z (W8 ar S Z Z) Z<|eL Z Z (W2 Z Z Z) (fun _=>Z) (Ip hG hg T (eT g i) ar) (fun O ar=>?_);refine⟨(bj (bx Z Z Z Z Z (Xd Z ar.g1 Z)<|gT<|cP hg.init.iK<|cP hg.threads.iK<|cP hg.from_.iK<|cP hg.order.iK gf)<|bj (bx Z Z Z Z Z (W4 Z ar.g1 Z) hg.from_.dQ)<|bj (bx Z Z Z Z Z (W4 Z ar.g0 Z)<|cW _ _)<|bj (bx Z Z Z Z Z (W7 ar Q Z Z) R.dQ)<|bj (bx Z Z Z Z Z (W4 Z ar.g0 Z)<|cW _ _)<|bj (bx Z Z Z Z Z (W8 ar S Z Z)<|gT<|cP (fe _ _)<|cP (fe _ _) gf) aT),?_⟩;refine eL Z Z (W2 Z Z Z) (fun _=>Z) (Ip hG hg T q ar) (fun O ar=>?_);refine⟨aT,?_⟩;refine VB 4 Z<|aG Z (fun ac=>?_) (fun ac=>?_)
  ·refine Wf 7 Z<|aP<|aH<|bX<|aP<|aH (?_);exact aA Z Z ⟨cJ (by symm;show eR (oK g) (gu g) 0=_;rw[he,cQ<|eE d];show(bif oK g (eT g i) then _ else _)=_;rw[show oK g (eT g i)=true from by unfold oK;rw[show F (eT g i).bH 0=false from u,show nf (dV g<|eT g i)=eu g i from Z,aa,a5];exact ac];rfl),(ar.pop.pop).weaken A⟩
  refine aI<|az<|Wd 5 Z ?_;have ar:=ar.pop;have hlp:=aM z;have B:oK g (eT g i)=false:=by unfold oK;rw[show F (eT g i).bH 0=false from u,show nf (dV g<|eT g i)=eu g i from Z,aa,a5];exact ac
  refine aD ⟨j3-1,by omega,oF,i+1,by omega,by rw[he,cQ<|eE d];show(bif oK g (eT g i) then _ else _)=_;rw[B];rfl,cI<|aX oM,ar⟩
 refine UH 3 Z<|aN<|Wf 6 Z ?_;exact aA Z Z ⟨cJ (by symm;show eR (oK g) (gu g) 0=_;rw[he,eU<|bK z];rfl),(ar.pop).weaken A⟩
theorem Nc (Q:Plain G) (hg:dS K g va vb vc vd) (hR:dC g) (x:Int) {us:V} (hd:l7 K g u0 u1 u2 u3 ue up ul us uh) (ar:H O K L):
  EC G 131 [.int .i64 x,.agg [va,vb,vc,vd],.agg<|fp (nV g) u0 u1 u2 u3 ue up ul us uh] O fun v O'=>(∃y1 y2:Int,v= .tuple [.agg [.int .i64 x,.int .i64 y1,.int .i64 y2],.bool<|ff g x])/\H O' K L:=by
 have hvl:=jQ hR;refine V9 Q Tryz.func131 Z<|Vw 2 Z<|kb ar (cH Z Z) (fun O b1 ar=>?_);refine kb ar (cH Z Z) (fun O b2 ar=>?_);refine kb ar (W6 (cs:=[D,D,D])) (fun O b3 ar=>?_);refine UK 6 Z (J Z (W1 (places:=[(0,1),(1,1),(2,1)]) (zero:=[D,D,D]) (cs:=[_,_,_]) Z) Z<|kb ar (W6 (cs:=[D,D,D])) (fun O b4 ar=>?_));refine ks ar (Xa Z Z Z ar.g0 Z) (fun O ar=>?_);refine TD 15 Z<|aG Z (fun d=>?_) (fun d=>?_)
 ·refine ai Z<|J Z (Xd Z (ar.get 3 Z) Z) Z<|kx (W2 Z Z Z) (Nd Q hg hR ar) (fun O ar=>?_);refine J Z (W3 1 Z) Z<|ks ar (Sx Z Z Z ar.g0 (m:=1) Z Z (cells':=[_,_,_]) Z) (fun O ar=>?_);refine af (az (ad (al (aL (l:=[(0,[]),(1,[]),(2,[]),(3,[]),(4,[2]),(5,[])]) U U<|ah Z Z (Qw Z ar.g0 (n:=3) (vs:=[_,_,_]) Z) Z<|Wl ar 3 [1,0] Z Z<|nJ ar Z Z (Xa Z Z Z ar.g1 Z) Z (fun O ar=>?_)))));refine⟨(bj (bx Z Z Z Z Z (W4 Z ar.g0 Z)<|cW _ _) aT),?_⟩;refine VC 4 Z ?_;exact cV Z Z ar.g1 (m:=3) U Z Z ⟨⟨_,_,by rw[show ff g x=cL (dH (Fk g) 0) from by unfold ff;rw[show F x 2=true from d];rfl];rfl⟩,ar.pop.pop.pop.pop⟩
 refine Wc 6 Z<|aG Z (fun u=>?_) (fun u=>?_)
 ·refine ai Z<|Wk ar 2 [8,2] Z Z<|J Z (Xc Z (ar.get 2 Z) Z) Z<|kx (W2 Z Z Z) (CH Q (n:=nV g) (A:=A6 g) oM hd.GY ar) (fun O ar=>?_);refine J Z (W3 1 Z) Z<|ks ar (Sx Z Z Z ar.g0 (m:=1) Z Z (cells':=[_,_,_]) Z) (fun O ar=>?_);refine af (az (ad (al (aL (l:=[(0,[]),(1,[]),(2,[]),(3,[]),(4,[2]),(5,[])]) U U<|ah Z Z (Qw Z ar.g0 (n:=3) (vs:=[_,_,_]) Z) Z<|Wl ar 3 [1,0] Z Z<|nJ ar Z Z (Xa Z Z Z ar.g1 Z) Z (fun O ar=>?_)))));refine⟨(bj (bx Z Z Z Z Z (W4 Z ar.g0 Z)<|cW _ _) aT),?_⟩;refine VC 4 Z ?_;exact cV Z Z ar.g1 (m:=3) U Z Z ⟨⟨_,_,by rw[show ff g x=cL (dH (s8 (nV g)<|A6 g) 0) from by unfold ff;rw[show F x 2=false from d,show F x 3=true from u];rfl];rfl⟩,ar.pop.pop.pop.pop⟩
 refine Wc 6 Z<|aG Z (fun C=>?_) (fun C=>?_)
 ·refine ai Z<|Wk ar 2 [8,8] Z Z<|J Z (Xc Z (ar.get 2 Z) Z) Z<|kx (W2 Z Z Z) (CH Q (n:=nV g) (A:=AJ g) oM hd.hb ar) (fun O ar=>?_);refine J Z (W3 1 Z) Z<|ks ar (Sx Z Z Z ar.g0 (m:=1) Z Z (cells':=[_,_,_]) Z) (fun O ar=>?_);refine af (az (ad (al (aL (l:=[(0,[]),(1,[]),(2,[]),(3,[]),(4,[2]),(5,[])]) U U<|ah Z Z (Qw Z ar.g0 (n:=3) (vs:=[_,_,_]) Z) Z<|Wl ar 3 [1,0] Z Z<|nJ ar Z Z (Xa Z Z Z ar.g1 Z) Z (fun O ar=>?_)))));refine⟨(bj (bx Z Z Z Z Z (W4 Z ar.g0 Z)<|cW _ _) aT),?_⟩;refine VC 4 Z ?_;exact cV Z Z ar.g1 (m:=3) U Z Z ⟨⟨_,_,by rw[show ff g x=cL (dH (s8 (nV g)<|AJ g) 0) from by unfold ff;rw[show F x 2=false from d,show F x 3=false from u,show F x 4=true from C];rfl];rfl⟩,ar.pop.pop.pop.pop⟩
 refine Wc 6 Z<|aG Z (fun I=>?_) (fun I=>?_)
 ·refine ai Z<|Wk ar 2 [0,0] Z Z<|J Z (Xc Z (ar.get 2 Z) Z) Z<|Wk ar 2 [0,2] Z Z<|J Z (Xc Z (ar.get 2 Z) Z) Z<|Wk ar 2 [0,4] Z Z<|J Z (Xc Z (ar.get 2 Z) Z) Z<|Wk ar 2 [0,6] Z Z<|J Z (Xc Z (ar.get 2 Z) Z) Z<|fh ar Z (bN (e:=167) (m:=2) (z:=[D,.av]) (cs:=[_,_,_,_,_,_,_,_]) U U U U<|aZ Z Z Z Z<|aZ Z Z Z Z<|aZ Z Z Z Z<|aZ Z Z Z Z bE) (fun _=>Z) (fun O b5 ar=>?_);obtain⟨Ka,lea,mema,ar⟩:=H.bF (M:=[_]) ar;have hla:=ES (n:=nV g) (mema _<|mS_ ..) (hd.po.mono lea fun _ _ h=>h) (hd.rf.mono lea fun _ _ h=>h) (hd.co.mono lea fun _ _ h=>h) (hd.fr.mono lea fun _ _ h=>h);refine kw (W2 Z Z Z) (G2 Q (n:=nV g) oM hla (Nat.succ_pos _) ar) ?_;rintro _ O ⟨oa,rfl,ar⟩;obtain⟨Kb,leb,memb,ar⟩:=H.bF (M:=[_]) ar;have hoa:=dM (memb _<|mS_ ..) (bQ (nV g)<|FN g) oM;have leA:=KP.le_trans lea leb;refine kx (W2 Z Z Z) (CH Q (n:=nV g) (A:=FN g) oM hoa ar) (fun O ar=>?_);refine J Z (W3 1 Z) Z<|ks ar (Sx Z Z Z ar.g0 (m:=1) Z Z (cells':=[_,_,_]) Z) (fun O ar=>?_);refine af (az (ad (al (aL (l:=[(0,[]),(1,[]),(2,[]),(3,[]),(4,[2]),(5,[])]) U U<|ah Z Z (Qw Z ar.g0 (n:=3) (vs:=[_,_,_]) Z) Z<|Wl ar 3 [1,0] Z Z<|nJ ar Z Z (Xa Z Z Z ar.g1 Z) Z (fun O ar=>?_)))));refine⟨(bj (bx Z Z Z Z Z (W4 Z ar.g0 Z)<|cW _ _) aT),?_⟩;refine VC 4 Z ?_;exact cV Z Z ar.g1 (m:=3) U Z Z ⟨⟨_,_,by rw[show ff g x=cL (dH (s8 (nV g)<|FN g) 0) from by unfold ff;rw[show F x 2=false from d,show F x 3=false from u,show F x 4=false from C,show F x 6=true from I];rfl];rfl⟩,(ar.pop.pop.pop.pop).weaken leA⟩
 refine Wc 6 Z<|aG Z (fun R=>?_) (fun R=>?_)
 ·refine al (aL (l:=[(0,[]),(1,[]),(2,[]),(3,[]),(4,[]),(5,[]),(6,[2]),(7,[]),(8,[]),(9,[])]) U U<|Wl ar 2 [8,8] Z Z<|ah Z Z (Xc Z (ar.get 2 Z) Z) Z<|Wl ar 2 [8,0] Z Z<|ah Z Z (Xc Z (ar.get 2 Z) Z) Z<|ed Z Z (W2 Z Z Z) (fun _=>Z) (Sb Q (n:=nV g) (A:=sM g) oM hd.QF ar) ?_);rintro _ O ⟨ot,rfl,ar⟩;obtain⟨Ka,lea,mema,ar⟩:=H.bF (M:=[_]) ar;have hot:=dM (mema _<|mS_ ..) (bQ (nV g)<|mP<|sM g) oM;replace hd:=hd.mono lea;refine⟨(bj (bx Z Z Z Z Z (Xc Z (ar.get 2 Z) Z)<|gT<|cP (fe _ _)<|cP hd.hb.iK gf) aT),?_⟩;refine ed Z Z (W2 Z Z Z) (fun _=>Z) (TH Q (n:=nV g) (A:=AJ g) (B:=mP<|sM g) oM hd.hb hot ar) ?_;rintro _ O ⟨Kb,oc,leb,rfl,ar⟩;obtain⟨Kc,lec,memc,ar⟩:=H.bF (M:=[_]) ar;have hoc:=dM (memc _<|mS_ ..) (bQ (nV g)<|uG (AJ g)<|mP<|sM g) oM;refine⟨aT,?_⟩;refine ed Z Z (W2 Z Z Z) (fun _=>Z) (PJ Q (n:=nV g) oM hoc ar) ?_;rintro bi O ⟨a3,hM61,ar⟩;obtain⟨Kd,led,memd,ar⟩:=H.bF (M:=a3) ar;have hps:=hM61.fg (K:=Kd) fun y hy=>memd _ hy
  have leA:=KP.le_trans lea (KP.le_trans leb<|KP.le_trans lec led);refine⟨aT,?_⟩;refine VB 8 Z (aK (bk ([10]++rg 62 29) (fun j t O=>∃(k:Nat),j+k=(jk (nV g)<|uG (AJ g)<|mP<|sM g).length/\(jk (nV g)<|uG (AJ g)<|mP<|sM g).any (fun p:Nat×Nat=>cL (F (.ofNat p.1) (.ofNat p.2)))=((jk (nV g)<|uG (AJ g)<|mP<|sM g).drop k).any (fun p:Nat×Nat=>cL (F (.ofNat p.1) (.ofNat p.2)))/\t.get 10=some (nI k)/\H O Kd ((b4,.row [.int .i64 x,.int .i64 (-1),.int .i64 (-1)] 128 false)::(b3,.row [D,D,D] 128 false)::(b2,.row (fp (nV g) u0 u1 u2 u3 ue up ul us uh) 173 false)::(b1,.row [va,vb,vc,vd] 52 false)::L)) ((jk (nV g)<|uG (AJ g)<|mP<|sM g).length) ⟨0,Z,Z,Z,ar⟩ ?_));clear ar;intro a4 t O ak hI;obtain⟨k,a5,he,W,ar⟩:=hI;obtain⟨oo,rfl⟩:=ak.q1 W Z;refine UE 5 Z<|J Z (W5 hps Z Z Z (e:=224) Z) Z<|Vy 3 Z<|aG Z (fun N=>?_) (fun N=>?_)
  ·refine SE 5 Z<|aL (l:=zp [0,1,2,3,4,5,6,7,8,9,10]) U U ?_;obtain⟨⟨pa,pb⟩,E,_⟩:=di N;refine Wj 2 Z<|WW (e:=224) (m:=2) hps E Z Z Z Z Z (fun bl a9 X ba aa=>?_);obtain rfl:=aa;refine rn X Z Z Z Z (nn:=2) (e:=3) (m:=1) (j:=0) Z U U (by decide) (lb Z) (fun _=>Z) (fun bm ab=>?_);refine ah Z Z (W7 ar ab Z Z) Z<|Wj 2 Z<|WW (e:=224) (m:=2) hps E Z Z Z Z Z (fun bo bb ac bc am=>?_);obtain rfl:=am;refine rn ac Z Z Z Z (nn:=2) (e:=3) (m:=1) (j:=1) Z U U (by decide) (lb Z) (fun _=>Z) (fun bp ao=>?_);refine ah Z Z (W7 ar ao Z Z) Z<|VB 3 Z<|aG Z (fun T=>?_) (fun T=>?_)
   ·refine al (aL (l:=[(0,[]),(1,[]),(2,[]),(3,[]),(4,[]),(5,[]),(6,[]),(7,[]),(8,[]),(9,[]),(10,[]),(11,[9]),(12,[]),(13,[])]) U U<|Wj 2 Z<|WW (e:=224) (m:=2) hps E Z Z Z Z Z (fun bq bd ap be aE=>?_));obtain rfl:=aE;refine rn ap Z Z Z Z (nn:=2) (e:=3) (m:=1) (j:=0) Z U U (by decide) (lb Z) (fun _=>Z) (fun bs a0=>?_);refine ah Z Z (W7 ar a0 Z Z) Z<|Wj 2 Z<|WW (e:=224) (m:=2) hps E Z Z Z Z Z (fun bt bf a1 bg a2=>?_);obtain rfl:=a2;refine rn a1 Z Z Z Z (nn:=2) (e:=3) (m:=1) (j:=1) Z U U (by decide) (lb Z) (fun _=>Z) (fun bv S=>?_);refine ah Z Z (W7 ar S Z Z) Z<|ah Z Z (W3 1 Z) Z<|ia ar Z Z (Sx Z Z Z ar.g0 (m:=1) Z Z (cells':=[_,_,_]) Z) Z (fun O ar=>?_);refine⟨(bj (bx Z Z Z Z Z (W7 ar S Z Z)<|cW _ _) aT),?_⟩;refine ah Z Z (W3 2 Z) Z<|ia ar Z Z (Sx Z Z Z ar.g0 (m:=1) Z Z (cells':=[_,_,_]) Z) Z (fun O ar=>?_);refine⟨aT,?_⟩;refine VB 2 Z (bn (jH Z (aR (aU (aN (az (ad (al (aL (l:=[(0,[]),(1,[]),(2,[]),(3,[]),(4,[2]),(5,[])]) U U<|ah Z Z (Qw Z ar.g0 (n:=3) (vs:=[_,_,_]) Z) Z<|Wl ar 3 [1,0] Z Z<|nJ ar Z Z (Xa Z Z Z ar.g1 Z) Z (fun O ar=>?_))))))))));refine⟨(bj (bx Z Z Z Z Z (W4 Z ar.g0 Z)<|cW _ _) aT),?_⟩;refine VC 4 Z ?_;exact cV Z Z ar.g1 (m:=3) U Z Z ⟨⟨_,_,by rw[show ff g x=true from by unfold ff;rw[show F x 2=false from d,show F x 3=false from u,show F x 4=false from C,show F x 6=false from I,show F x 5=true from R];show((jk (nV g)<|uG (AJ g)<|mP<|sM g).any (fun p:Nat×Nat=>cL (F (.ofNat p.1) (.ofNat p.2))))=true;rw[he,cQ E,List.any_cons];show(cL (F (.ofNat pa) (.ofNat pb)) || _)=true;rw[show cL (F (.ofNat pa) (.ofNat pb))=true from T];rfl];rfl⟩,(ar.pop.pop.pop.pop).weaken leA⟩
   refine aI<|az<|Wd 5 Z ?_;have hlp:=aM N;refine aD ⟨a4-1,by have:=aM N;omega,oF,k+1,by omega,by rw[he,cQ E,List.any_cons];show(cL (F (.ofNat pa) (.ofNat pb)) || _)=_;rw[show cL (F (.ofNat pa) (.ofNat pb))=false from T];rfl,cI<|aX (by have:=hps.cS;omega),ar⟩
  refine UH 3 Z (aN (az (ad (al (aL (l:=[(0,[]),(1,[]),(2,[]),(3,[]),(4,[2]),(5,[])]) U U<|ah Z Z (Qw Z ar.g0 (n:=3) (vs:=[_,_,_]) Z) Z<|Wl ar 3 [1,0] Z Z<|nJ ar Z Z (Xa Z Z Z ar.g1 Z) Z (fun O ar=>?_))))));refine⟨(bj (bx Z Z Z Z Z (W4 Z ar.g0 Z)<|cW _ _) aT),?_⟩;refine VC 4 Z ?_;exact cV Z Z ar.g1 (m:=3) U Z Z ⟨⟨_,_,by rw[show ff g x=false from by unfold ff;rw[show F x 2=false from d,show F x 3=false from u,show F x 4=false from C,show F x 6=false from I,show F x 5=true from R];show((jk (nV g)<|uG (AJ g)<|mP<|sM g).any (fun p:Nat×Nat=>cL (F (.ofNat p.1) (.ofNat p.2))))=false;rw[he,eU<|bK N];rfl];rfl⟩,(ar.pop.pop.pop.pop).weaken leA⟩
 refine aI (az (ad (al (aL (l:=[(0,[]),(1,[]),(2,[]),(3,[]),(4,[2]),(5,[])]) U U<|ah Z Z (Qw Z ar.g0 (n:=3) (vs:=[_,_,_]) Z) Z<|Wl ar 3 [1,0] Z Z<|nJ ar Z Z (Xa Z Z Z ar.g1 Z) Z (fun O ar=>?_)))));refine⟨(bj (bx Z Z Z Z Z (W4 Z ar.g0 Z)<|cW _ _) aT),?_⟩;refine VC 4 Z ?_;exact cV Z Z ar.g1 (m:=3) U Z Z ⟨⟨_,_,by rw[show ff g x=false from by unfold ff;rw[show F x 2=false from d,show F x 3=false from u,show F x 4=false from C,show F x 6=false from I,show F x 5=false from R];rfl];rfl⟩,ar.pop.pop.pop.pop⟩
theorem TJ (Q:Plain G) (hg:dS K g va vb vc vd) (m:Int) (ar:H O K L):
  EC G 106 [.int .i64 m,.agg [va,vb,vc,vd]] O fun v O'=>(∃y0 T W:Int,v= .tuple [.agg [.int .i64 y0,.int .i64 T,.int .i64 W],.bool<|tc m g])/\H O' K L:=by
 refine V9 Q Tryz.func106 Z<|Vw 2 Z<|kb ar (cH Z Z) (fun O b1 ar=>?_);refine kb ar (W6 (cs:=[D,D,D])) (fun O b2 ar=>?_);refine UK 6 Z<|kw (W2 Z Z Z) (Iq Q m ar) ?_;rintro am O ⟨K1,d,hrl,ar⟩;replace hg:=hg.mono d;refine TE 7 Z<|J Z (W5 hrl Z Z Z (e:=3) Z) Z<|Vy 3 Z<|aG Z (fun z=>?_) (fun z=>?_)
 ·refine Vw 2 Z (J Z (W1 (places:=[(0,1),(1,1),(2,1)]) (zero:=[D,D,D]) (cs:=[_,_,_]) Z) Z<|ks ar (Xa Z Z Z ar.g0 Z) (fun O ar=>?_));refine UM 5 Z ?_;exact cV Z Z ar.g0 (m:=3) U Z Z ⟨⟨_,_,_,by rw[show tc m g=false from by unfold tc;rw[show F (.ofNat (eG m).length) 0=true from z]<;>rfl]<;>rfl⟩,(ar.pop.pop).weaken d⟩
 refine UG 4 Z<|J Z (Xd Z ar.g1 Z) Z<|kw (W2 Z Z Z) (TG Q hg ar) ?_;rintro _ O (⟨hne,rfl,ar⟩ | ⟨R,K2,u0,u1,u2,u3,ue,up,ul,us,uh,rfl,u,hd,ar⟩)
 ·refine Wh 3 Z<|kb ar (W6 (cs:=[D,.av,D,.av,D,.av,D,.av,D,.av,D,.av,D,.av,D,.av,D,.av])) (fun O X ar=>?_);refine ks ar (Sx Z Z Z ar.g0 (m:=18) Z Z (cells':=[_,_,_,_,_,_,_,_,_,_,_,_,_,_,_,_,_,_]) Z) (fun O ar=>?_);refine UJ 10 Z<|aG Z (fun A=>?_) (fun A=>?_)
  ·refine Vw 2 Z (J Z (W1 (places:=[(0,1),(1,1),(2,1)]) (zero:=[D,D,D]) (cs:=[_,_,_]) Z) Z<|gw ar Z (Xa Z Z Z ar.g1 Z) Z (fun O ar=>?_));refine UM 5 Z ?_;exact cV Z Z ar.g1 (m:=3) U Z Z ⟨⟨_,_,_,by rw[show tc m g=true from by unfold tc;rw[show F (.ofNat (eG m).length) 0=false from z,hne]<;>rfl]<;>rfl⟩,(ar.pop.pop.pop).weaken d⟩
  exact absurd A (by decide)
 replace hg:=hg.mono u;replace hrl:=hrl.mono u (fun _ _ h=>h);refine Wh 3 Z<|kb ar (W6 (cs:=[D,.av,D,.av,D,.av,D,.av,D,.av,D,.av,D,.av,D,.av,D,.av])) (fun O X ar=>?_);refine bT ar Z (Sx Z Z Z ar.g0 (m:=18) Z (aj Z<|aj hd.po.leaf.2<|aj Z<|aj hd.rf.leaf.2<|aj Z<|aj hd.co.leaf.2<|aj Z<|aj hd.fr.leaf.2<|aj Z<|aj hd.QF.leaf.2<|aj Z<|aj hd.GY.leaf.2<|aj Z<|aj hd.loc.leaf.2<|aj Z<|aj hd.sw.leaf.2<|aj Z<|aj hd.hb.leaf.2 aC) (cells':=[_,_,_,_,_,_,_,_,_,_,_,_,_,_,_,_,_,_]) Z) Z (fun O ar=>?_);refine UJ 10 Z<|aG Z (fun A=>?_) (fun A=>?_)
 ·exact absurd A (by decide)
 refine TC 9 Z (bk ([5,9,10,11]++rg 26 18) (fun j t O=>∃(k:Nat),j+k=(eG m).length/\(eG m).any (ff g)=((eG m).drop k).any (ff g)/\t.get 9=some (nI k)/\H O K2 ((X,.row (fp (nV g) u0 u1 u2 u3 ue up ul us uh) 173 false)::(b2,.row [D,D,D] 128 false)::(b1,.row [va,vb,vc,vd] 52 false)::L)) ((eG m).length) ⟨0,Z,Z,Z,ar⟩ ?_);clear ar;intro j8 t O ak hI;obtain⟨k,ao,he,S,ar⟩:=hI;obtain⟨oo,rfl⟩:=ak.q1 S Z;refine UE 5 Z<|J Z (W5 hrl Z Z Z (e:=3) Z) Z<|Vy 3 Z<|aG Z (fun B=>?_) (fun B=>?_)
 ·refine SE 5 Z (aL (l:=[(0,[]),(1,[]),(2,[]),(3,[]),(4,[]),(5,[]),(10,[]),(6,[10]),(7,[]),(8,[]),(9,[]),(11,[]),(12,[])]) U U<|Wj 2 Z ?_);obtain⟨E,C,aa⟩:=di B;refine WW (e:=3) (m:=1) hrl C Z Z Z Z Z (fun ap ab M ac N=>?_);obtain rfl:=N;refine ah Z Z (W7 ar M Z Z) Z<|ah Z Z (Xd Z (ar.get 2 Z) Z) Z<|ah Z Z (Qw Z ar.g0 (n:=18) (vs:=[_,_,_,_,_,_,_,_,_,_,_,_,_,_,_,_,_,_]) Z) Z<|pC ar Z Z (W6 (cs:=[D,D,D])) (fun _=>Z) (fun O b4 ar=>?_);refine ed Z Z (W2 Z Z Z) (fun _=>Z) (Nc Q hg R E hd ar) ?_;rintro _ O ⟨⟨T,W,rfl⟩,ar⟩;refine⟨(bj (oD Z Z Z Z Z (cs:=[D,D,D]) (e:=128) U ar.g0 U) aT),?_⟩;refine Wj 3 Z<|ia ar Z Z (Xa Z Z Z ar.g0 Z) Z (fun O ar=>?_);refine⟨aT,?_⟩;refine VB 8 Z<|aG Z (fun I=>?_) (fun I=>?_)
  ·refine Vw 2 Z<|J Z (Qw Z ar.g0 (n:=3) (vs:=[_,_,_]) Z) Z<|lg ar Z (Xa Z Z Z (ar.get 2 Z) Z) Z (fun O ar=>?_);refine VA 4 Z<|aP<|aH<|bX<|aP<|aH (?_);exact cV Z Z (ar.get 2 Z) (m:=3) U Z Z ⟨⟨_,_,_,by rw[show tc m g=true from by unfold tc;rw[show F (.ofNat (eG m).length) 0=false from z,fl.2 R];show(eG m).any (ff g)=_;rw[he,cQ C,List.any_cons,show ff g E=true from I];rfl]<;>rfl⟩,(ar.pop.pop.pop.pop).weaken<|KP.le_trans d u⟩
  refine aI<|az<|Wd 5 Z ?_;have ar:=ar.pop;have hlp:=aM B;refine aD ⟨j8-1,by have:=aM B;omega,oF,k+1,by omega,by rw[he,cQ C,List.any_cons,show ff g E=false from I];rfl,cI<|aX (by have:=hrl.cS;omega),ar⟩
 refine UH 3 Z (aN (Vw 2 Z (J Z (W1 (places:=[(0,1),(1,1),(2,1)]) (zero:=[D,D,D]) (cs:=[_,_,_]) Z) Z<|gw ar Z (Xa Z Z Z ar.g1 Z) Z (fun O ar=>?_))));refine VA 4 Z ?_;exact cV Z Z ar.g1 (m:=3) U Z Z ⟨⟨_,_,_,by rw[show tc m g=false from by unfold tc;rw[show F (.ofNat (eG m).length) 0=false from z,fl.2 R];show(eG m).any (ff g)=_;rw[he,eU<|bK B];rfl]<;>rfl⟩,(ar.pop.pop.pop).weaken<|KP.le_trans d u⟩
theorem J3 (z:Plain G) (hg:dS K g va vb vc vd) (m:Int) (ar:H O K L):
  Ca G K L 64 [.int .i64 m,.agg [va,vb,vc,vd]] O <| .tuple [.bool<|gI m g,.int .i64<|xI m]:=by
 refine V9 z Tryz.func64 Z<|Vw 2 Z<|kb ar (cH Z Z) (fun O b1 ar=>?_);refine TE 8 Z<|kw (W2 Z Z Z) (Iq z m ar) ?_;rintro aa O ⟨K1,d,A,ar⟩;replace hg:=hg.mono d;refine J Z (W5 A Z Z Z (e:=3) Z) Z<|Vy 3 Z<|aG Z (fun u=>?_) (fun u=>?_)
 ·refine Vx 8 Z ?_;exact fN Z Z Z ⟨by unfold gI xI;rw[show F (.ofNat (eG m).length) 0=true from u]<;>rfl,(ar.pop).weaken d⟩
 refine UG 5 Z<|J Z (Xd Z ar.g0 Z) Z<|kw (W2 Z Z Z) (TJ z hg m ar) ?_;rintro _ O ⟨⟨y0,y1,y2,rfl⟩,ar⟩;refine Wh 3 Z<|kb ar (W6 (cs:=[D,D,D])) (fun O b2 ar=>?_);refine ks ar (Xa Z Z Z ar.g0 Z) (fun O ar=>?_);refine UK 6 Z<|J Z (dW Z) Z<|VA 5 Z ?_;exact fN Z Z Z ⟨by unfold gI xI;rw[show F (.ofNat (eG m).length) 0=false from u]<;>rfl,(ar.pop.pop).weaken d⟩
end Go.Ev
end
