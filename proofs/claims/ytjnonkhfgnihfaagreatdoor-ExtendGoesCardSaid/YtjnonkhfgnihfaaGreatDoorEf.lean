/- Part of the proof: rules and walks. No conditions. -/
import Derived.Test.YtjnonkhfgnihfaaGreatDoorEb
import Derived.Test.YtjnonkhfgnihfaaGreatDoorEe
import Derived.Test.YtjnonkhfgnihfaaGreatDoorEc
import Derived.Test.YtjnonkhfgnihfaaGreatDoorEd
import Derived.Test.YtjnonkhfgnihfaaGreatDoorProg
import Derived.KernelRfl
set_option linter.unusedSectionVars false
set_option linter.unusedVariables false
set_option linter.unusedSimpArgs false
noncomputable section
open List (any_cons drop_zero range take_zero)
set_option maxHeartbeats 8000000
set_option maxRecDepth 4000
open Go.Proofs
namespace Go.Ev
variable [Env]
variable {G:Cx} {K:KP} {V:aF} {L:Own} {g:XG} {iv va vb vc vd:U}
theorem VB (hG:Plain G) {b:Nat} {ev:U} (hv:qw K g b va vb vc vd iv ev) (hR:cG g) (O:F V K L):
  EC G 175 [.ptr b 0] V fun u V'=>∃K1 c,KP.le K K1/\u= .agg [nI<|H g,.slice c 0 (H g) (.known<|H g)]/\F V' K1 ((c,.row ((bp (H g)<|sU g).map gU) 233 false)::L):=by
 have hvl:=kI hR;refine VV hG Tryz.func175 Z<|Vp 2 Z<|kb O (WU (cs:=[J,.ax])) (fun V b1 O=>?_);refine TX 14 Z (bk (rg 3 139) (fun j t V=>∃(w:Nat) (u:U) (M:Own),j+w=H g/\cQ 2 252 RP (l1 g w) u M/\t.get 3=some (u)/\t.get 4=some (nI w)/\F V K (M++(b1,.row [J,.ax] 173 false)::L)) (H g) ⟨0,_,[],Z,.inl ⟨Z,Z,Z⟩,Z,Z,O⟩ ?_);clear O;intro j3 t V ar hI;obtain⟨w,u,M,c5,hO,aa,ch,O⟩:=hI;obtain⟨oo,rfl⟩:=ar.q2 aa ch Z;refine UD 5 Z<|I Z (bV Z) Z<|I Z (WR 6 Z) Z<|I Z (WS Z (O.bY hv.row) Z) Z<|Vr 3 Z<|aG Z (fun a3=>?_) (fun a3=>?_)
 ·refine S9 5 Z<|Vp 2 Z ?_;have hwn:=bd a3;refine V7 2 Z<|g8 Z (WQ Z Z Z) (fun _=>Z) (zN hG hv hwn O) (fun a0 V O=>?_) (fun a0 V O=>?_)
  ·refine I Z (df Z) Z<|V7 2 Z<|I Z (bV Z) Z<|I Z (WR 5 Z) Z<|I Z (WS Z (O.bY hv.row) Z) Z<|vQ 1 Z<|WJ (e:=45) (m:=5) hv.ju (eY hwn) Z Z Z Z (fun c7 cv bv cx bw=>?_);obtain rfl:=bw;refine bX bv Z Z Z (k:=2) Y (lb Z) (fun _=>Z) (fun c8 bI=>?_);refine I Z (WV O bI Z Z) Z<|Vr 4 Z<|aG Z (fun a4=>?_) (fun a4=>?_)
   ·refine bn<|aV<|aR<|V0 5 Z ?_;have cw:js g w=false:=by unfold js bC;rw[a0,show N (dB g w).order 1=true from a4];rfl
    refine aJ ⟨j3-1,by omega,oF,w+1,u,M,by omega,(VE cw ▸ hO),Z,cI<|aX oM,O⟩
   refine UF 6 Z ?_;have cw:js g w=true:=by unfold js bC;rw[a0,show N (dB g w).order 1=false from a4];rfl
   refine kx (WQ Z Z Z) (Ho hG hv hR hwn O) (fun V O=>?_);refine UH 9 Z (bk ([3,6,7,8]++rg 35 107) (fun j t V=>∃(bb:Nat) (u2:U) (M2:Own),j+bb=H g/\cQ 2 252 RP (l1 g w++l2 g w bb) u2 M2/\t.get 3=some (u2)/\t.get 6=some (nI bb)/\F V K (M2++(b1,.row [J,.ax] 173 false)::L)) (H g) ⟨0,u,M,Z,(by rw[show l2 g w 0= [] from Z,zk_];exact hO),Z,Z,O⟩ ?_);clear O;intro j8 t V ar hI;obtain⟨bb,u2,M2,c9,hO2,aa,ci,O⟩:=hI;obtain⟨oo,rfl⟩:=ar.q2 aa ci Z;refine UD 5 Z<|I Z (bV Z) Z<|I Z (WR 6 Z) Z<|I Z (WS Z (O.bY hv.row) Z) Z<|Vr 3 Z<|aG Z (fun a5=>?_) (fun a5=>?_)
   ·refine S9 5 Z<|Vp 2 Z ?_;have hbn:=bd a5;refine V7 2 Z<|g8 Z (WQ Z Z Z) (fun _=>Z) (C4 hG hv hbn O) (fun W V O=>?_) (fun W V O=>?_)
    ·refine I Z (df Z) Z<|V7 2 Z<|I Z (bV Z) Z<|I Z (WR 5 Z) Z<|I Z (WS Z (O.bY hv.row) Z) Z<|vQ 1 Z<|WJ (e:=45) (m:=5) hv.ju (eY hbn) Z Z Z Z (fun dd c0 b0 c1 b3=>?_);obtain rfl:=b3;refine bX b0 Z Z Z (k:=2) Y (lb Z) (fun _=>Z) (fun dl b4=>?_);refine I Z (WV O b4 Z Z) Z<|V7 2 Z<|ky Z (al Z) (fun a1=>?_) (fun a1=>?_)
     ·refine UM 14 Z<|aR<|V0 5 Z ?_;have cb:gX g w bb=false:=by unfold gX;rw[W,show N (dB g bb).order 1=true from a1];rfl
      refine aJ ⟨j8-1,by omega,oF,bb+1,u2,M2,by omega,(VF cb ▸ hO2),Z,cI<|aX oM,O⟩
     refine V7 3 Z ?_;obtain⟨f,hf,a9,_⟩:=gL hR hbn W;refine kx (WQ Z Z Z) (by have q:=C3 hG hv hR hbn O;rw[a9] at q;exact q) (fun V O=>?_);refine I Z (fJ (j:=f) oM Y Y Y Z) Z<|Vr 6 Z<|aG Z (fun be=>?_) (fun be=>?_)
     ·refine bn<|aV<|aR<|V0 5 Z ?_;have cb:gX g w bb=false:=by unfold gX;rw[W,show N (dB g bb).order 1=false from a1,a9];show nJ g w f=false;have e:=(Dk (x:=bA (H g)<|nJ g w) (j:=f) oM).symm.trans be;rw[dz,decide_eq_true hf,zp_] at e;revert e;cases nJ g w f<;>simp
      refine aJ ⟨j8-1,by omega,oF,bb+1,u2,M2,by omega,(VF cb ▸ hO2),Z,cI<|aX oM,O⟩
     refine UF 4 Z ?_;have cb:gX g w bb=true:=by unfold gX;rw[W,show N (dB g bb).order 1=false from a1,a9];show nJ g w f=true;have e:=(Dk (x:=bA (H g)<|nJ g w) (j:=f) oM).symm.trans be;rw[dz,decide_eq_true hf,zp_] at e;revert e;cases nJ g w f<;>simp
     refine UH 4 Z (bk ([3,7,8]++rg 68 74) (fun j t V=>∃(r:Nat) (u3:U) (M3:Own),j+r=H g/\cQ 2 252 RP (l1 g w++(l2 g w bb++l3 g w bb r)) u3 M3/\t.get 3=some (u3)/\t.get 7=some (nI r)/\F V K (M3++(b1,.row [J,.ax] 173 false)::L)) (H g) ⟨0,u2,M2,Z,(by rw[show l3 g w bb 0= [] from Z,zk_];exact hO2),Z,Z,O⟩ ?_);clear O;intro ap t V ar hI;obtain⟨r,u3,M3,c2,hO3,aa,ck,O⟩:=hI;obtain⟨oo,rfl⟩:=ar.q2 aa ck Z;refine UD 5 Z<|I Z (bV Z) Z<|I Z (WR 6 Z) Z<|I Z (WS Z (O.bY hv.row) Z) Z<|Vr 3 Z<|aG Z (fun bi=>?_) (fun bi=>?_)
     ·refine S9 5 Z<|Vp 2 Z ?_;have hrn:=bd bi;refine V7 2 Z<|g8 Z (WQ Z Z Z) (fun _=>Z) (Uh hG hv hrn O) (fun ao V O=>?_) (fun ao V O=>?_)
      ·refine I Z (df Z) Z<|V7 4 Z<|ky Z (al Z) (fun aq=>?_) (fun aq=>?_)
       ·refine vQ 1 Z<|I Z (bV Z) Z<|I Z (WR 5 Z) Z<|I Z (WS Z (O.bY hv.row) Z) Z<|vQ 1 Z<|WJ (e:=45) (m:=5) hv.ju (eY hrn) Z Z Z Z (fun dm c3 b5 c4 b6=>?_);obtain rfl:=b6;refine bX b5 Z Z Z (k:=0) Y (lb Z) (fun _=>Z) (fun dr b7=>?_);refine I Z (WV O b7 Z Z) Z<|vQ 1 Z<|ky Z (al Z) (fun a2=>?_) (fun a2=>?_)
        ·refine UM 13 Z<|aR<|V0 5 Z ?_;have cr:fZ g w r=false:=by unfold fZ;rw[ao,show N (.ofNat r) (.ofNat w)=false from de aq,show N (dB g r).kind 4=false from de a2];rfl
         refine aJ ⟨ap-1,by omega,oF,r+1,u3,M3,by omega,(VG cr ▸ hO3),Z,cI<|aX oM,O⟩
        refine V7 3 Z<|g8 Z (WQ Z Z Z) (fun _=>Z) (Ql hG hv hrn hwn O) (fun bj V O=>?_) (fun bj V O=>?_)
        ·refine I Z (df Z) Z<|TZ 10 Z ?_;have cr:fZ g w r=true:=by unfold fZ;rw[ao,show N (.ofNat r) (.ofNat w)=false from de aq,show N (dB g r).kind 4=true from bT a2];exact bj
         refine UH 4 Z (bk ([3,8]++rg 103 39) (fun j t V=>∃(a:Nat) (u4:U) (M4:Own),j+a=H g/\cQ 2 252 RP (l1 g w++(l2 g w bb++(l3 g w bb r++l4 g bb r a))) u4 M4/\t.get 3=some (u4)/\t.get 8=some (nI a)/\F V K (M4++(b1,.row [J,.ax] 173 false)::L)) (H g) ⟨0,u3,M3,Z,(by rw[show l4 g bb r 0= [] from Z,zk_];exact hO3),Z,Z,O⟩ ?_);clear O;intro C t V ar hI;obtain⟨a,u4,M4,b8,hO4,aa,bm,O⟩:=hI;obtain⟨oo,rfl⟩:=ar.q2 aa bm Z;refine UD 5 Z<|I Z (bV Z) Z<|I Z (WR 6 Z) Z<|I Z (WS Z (O.bY hv.row) Z) Z<|Vr 3 Z<|aG Z (fun E=>?_) (fun E=>?_)
         ·refine Ta 6 Z ?_;have han:=bd E;refine V7 2 Z<|g8 Z (WQ Z Z Z) (fun _=>Z) (Rh hG hv han O) (fun d V O=>?_) (fun d V O=>?_)
          ·refine V7 4 Z<|ky Z (al Z) (fun A=>?_) (fun A=>?_)
           ·refine Vs 24 Z<|I Z (kS (e:=3) (n:=2) (m:=1) (zero:=[J,J]) (cs:=[_,_]) Y Y Y Z) Z<|fg O Z (bR (e:=252) (m:=2) (z:=[J,J]) (cs:=[_,_]) Y Y Y Y<|a6 Z Z Z Z bH) (fun _=>Z) (fun V b2 O=>?_);replace O:=O.pull (.there<|bG.here (X:=M4));replace O:=O.pull (.bE<|bG.here (X:=[_]));rw[za_] at O;refine fT (R:=RP) (m:=2) (e:=252) hO4 O (ec (m:=2) Z (show RP (r,a) [nI r,nI a] from Z)) RP.leaf (Di hR hwn hbn hrn han W) Z Z Z Z Z Z Z (fun _=>Z) (fun V Q S hO141 O=>?_);refine V6 2 Z<|aD<|V0 5 Z ?_;have ca:fU g bb a=true:=by unfold fU;rw[d,show N (.ofNat a) (.ofNat bb)=true from A];rfl
            refine aJ ⟨C-1,by omega,oF,a+1,Q,S,by omega,(UR ca ▸ hO141),Z,cI<|aX oM,O⟩
           refine vQ 1 Z<|I Z (bV Z) Z<|I Z (WR 5 Z) Z<|I Z (WS Z (O.bY hv.row) Z) Z<|vQ 1 Z<|WJ (e:=45) (m:=5) hv.ju (eY han) Z Z Z Z (fun b9 bq ab br ac=>?_);obtain rfl:=ac;refine bX ab Z Z Z (k:=0) Y (lb Z) (fun _=>Z) (fun cc am=>?_);refine I Z (WV O am Z Z) Z<|vQ 1 Z<|ky Z (al Z) (fun B=>?_) (fun B=>?_)
           ·refine V7 3 Z<|g8 Z (WQ Z Z Z) (fun _=>Z) (Ql hG hv hbn han O) (fun T V O=>?_) (fun T V O=>?_)
            ·refine Vs 10 Z<|I Z (kS (e:=3) (n:=2) (m:=1) (zero:=[J,J]) (cs:=[_,_]) Y Y Y Z) Z<|fg O Z (bR (e:=252) (m:=2) (z:=[J,J]) (cs:=[_,_]) Y Y Y Y<|a6 Z Z Z Z bH) (fun _=>Z) (fun V b2 O=>?_);replace O:=O.pull (.there<|bG.here (X:=M4));replace O:=O.pull (.bE<|bG.here (X:=[_]));rw[za_] at O;refine fT (R:=RP) (m:=2) (e:=252) hO4 O (ec (m:=2) Z (show RP (r,a) [nI r,nI a] from Z)) RP.leaf (Di hR hwn hbn hrn han W) Z Z Z Z Z Z Z (fun _=>Z) (fun V Q S hO141 O=>?_);refine V6 2 Z<|aD<|V0 5 Z ?_;have ca:fU g bb a=true:=by unfold fU;rw[d,show N (.ofNat a) (.ofNat bb)=false from A,show N (dB g a).kind 4=true from B];exact T
             refine aJ ⟨C-1,by omega,oF,a+1,Q,S,by omega,(UR ca ▸ hO141),Z,cI<|aX oM,O⟩
            refine UK 8 Z<|V0 5 Z ?_;have ca:fU g bb a=false:=by unfold fU;rw[d,show N (.ofNat a) (.ofNat bb)=false from A,show N (dB g a).kind 4=true from B];exact T
            refine aJ ⟨C-1,by omega,oF,a+1,u4,M4,by omega,(Tb ca ▸ hO4),Z,cI<|aX oM,O⟩
           refine UK 12 Z<|V0 5 Z ?_;have ca:fU g bb a=false:=by unfold fU;rw[d,show N (.ofNat a) (.ofNat bb)=false from A,show N (dB g a).kind 4=false from B];rfl
           refine aJ ⟨C-1,by omega,oF,a+1,u4,M4,by omega,(Tb ca ▸ hO4),Z,cI<|aX oM,O⟩
          refine UK 27 Z<|V0 5 Z ?_;have ca:fU g bb a=false:=by unfold fU;rw[d];rfl
          refine aJ ⟨C-1,by omega,oF,a+1,u4,M4,by omega,(Tb ca ▸ hO4),Z,cI<|aX oM,O⟩
         refine UG 3 Z<|aR<|aD<|V0 5 Z ?_;have bs:a=H g:=by have:=bJ E;omega
         subst bs;refine aJ ⟨ap-1,by omega,oF,r+1,u4,M4,by omega,(Wd cr ▸ hO4),Z,cI<|aX oM,O⟩
        refine I Z (df Z) Z<|UM 8 Z<|aR<|V0 5 Z ?_;have cr:fZ g w r=false:=by unfold fZ;rw[ao,show N (.ofNat r) (.ofNat w)=false from de aq,show N (dB g r).kind 4=true from bT a2];exact bj
        refine aJ ⟨ap-1,by omega,oF,r+1,u3,M3,by omega,(VG cr ▸ hO3),Z,cI<|aX oM,O⟩
       refine TZ 25 Z ?_;have cr:fZ g w r=true:=by unfold fZ;rw[ao,show N (.ofNat r) (.ofNat w)=true from bT aq];rfl
       refine UH 4 Z (bk ([3,8]++rg 103 39) (fun j t V=>∃(a:Nat) (u4:U) (M4:Own),j+a=H g/\cQ 2 252 RP (l1 g w++(l2 g w bb++(l3 g w bb r++l4 g bb r a))) u4 M4/\t.get 3=some (u4)/\t.get 8=some (nI a)/\F V K (M4++(b1,.row [J,.ax] 173 false)::L)) (H g) ⟨0,u3,M3,Z,(by rw[show l4 g bb r 0= [] from Z,zk_];exact hO3),Z,Z,O⟩ ?_);clear O;intro C t V ar hI;obtain⟨a,u4,M4,b8,hO4,aa,bm,O⟩:=hI;obtain⟨oo,rfl⟩:=ar.q2 aa bm Z;refine UD 5 Z<|I Z (bV Z) Z<|I Z (WR 6 Z) Z<|I Z (WS Z (O.bY hv.row) Z) Z<|Vr 3 Z<|aG Z (fun E=>?_) (fun E=>?_)
       ·refine Ta 6 Z ?_;have han:=bd E;refine V7 2 Z<|g8 Z (WQ Z Z Z) (fun _=>Z) (Rh hG hv han O) (fun d V O=>?_) (fun d V O=>?_)
        ·refine V7 4 Z<|ky Z (al Z) (fun A=>?_) (fun A=>?_)
         ·refine Vs 24 Z<|I Z (kS (e:=3) (n:=2) (m:=1) (zero:=[J,J]) (cs:=[_,_]) Y Y Y Z) Z<|fg O Z (bR (e:=252) (m:=2) (z:=[J,J]) (cs:=[_,_]) Y Y Y Y<|a6 Z Z Z Z bH) (fun _=>Z) (fun V b2 O=>?_);replace O:=O.pull (.there<|bG.here (X:=M4));replace O:=O.pull (.bE<|bG.here (X:=[_]));rw[za_] at O;refine fT (R:=RP) (m:=2) (e:=252) hO4 O (ec (m:=2) Z (show RP (r,a) [nI r,nI a] from Z)) RP.leaf (Di hR hwn hbn hrn han W) Z Z Z Z Z Z Z (fun _=>Z) (fun V Q S hO141 O=>?_);refine V6 2 Z<|aD<|V0 5 Z ?_;have ca:fU g bb a=true:=by unfold fU;rw[d,show N (.ofNat a) (.ofNat bb)=true from A];rfl
          refine aJ ⟨C-1,by omega,oF,a+1,Q,S,by omega,(UR ca ▸ hO141),Z,cI<|aX oM,O⟩
         refine vQ 1 Z<|I Z (bV Z) Z<|I Z (WR 5 Z) Z<|I Z (WS Z (O.bY hv.row) Z) Z<|vQ 1 Z<|WJ (e:=45) (m:=5) hv.ju (eY han) Z Z Z Z (fun b9 bq ab br ac=>?_);obtain rfl:=ac;refine bX ab Z Z Z (k:=0) Y (lb Z) (fun _=>Z) (fun cc am=>?_);refine I Z (WV O am Z Z) Z<|vQ 1 Z<|ky Z (al Z) (fun B=>?_) (fun B=>?_)
         ·refine V7 3 Z<|g8 Z (WQ Z Z Z) (fun _=>Z) (Ql hG hv hbn han O) (fun T V O=>?_) (fun T V O=>?_)
          ·refine Vs 10 Z<|I Z (kS (e:=3) (n:=2) (m:=1) (zero:=[J,J]) (cs:=[_,_]) Y Y Y Z) Z<|fg O Z (bR (e:=252) (m:=2) (z:=[J,J]) (cs:=[_,_]) Y Y Y Y<|a6 Z Z Z Z bH) (fun _=>Z) (fun V b2 O=>?_);replace O:=O.pull (.there<|bG.here (X:=M4));replace O:=O.pull (.bE<|bG.here (X:=[_]));rw[za_] at O;refine fT (R:=RP) (m:=2) (e:=252) hO4 O (ec (m:=2) Z (show RP (r,a) [nI r,nI a] from Z)) RP.leaf (Di hR hwn hbn hrn han W) Z Z Z Z Z Z Z (fun _=>Z) (fun V Q S hO141 O=>?_);refine V6 2 Z<|aD<|V0 5 Z ?_;have ca:fU g bb a=true:=by unfold fU;rw[d,show N (.ofNat a) (.ofNat bb)=false from A,show N (dB g a).kind 4=true from B];exact T
           refine aJ ⟨C-1,by omega,oF,a+1,Q,S,by omega,(UR ca ▸ hO141),Z,cI<|aX oM,O⟩
          refine UK 8 Z<|V0 5 Z ?_;have ca:fU g bb a=false:=by unfold fU;rw[d,show N (.ofNat a) (.ofNat bb)=false from A,show N (dB g a).kind 4=true from B];exact T
          refine aJ ⟨C-1,by omega,oF,a+1,u4,M4,by omega,(Tb ca ▸ hO4),Z,cI<|aX oM,O⟩
         refine UK 12 Z<|V0 5 Z ?_;have ca:fU g bb a=false:=by unfold fU;rw[d,show N (.ofNat a) (.ofNat bb)=false from A,show N (dB g a).kind 4=false from B];rfl
         refine aJ ⟨C-1,by omega,oF,a+1,u4,M4,by omega,(Tb ca ▸ hO4),Z,cI<|aX oM,O⟩
        refine UK 27 Z<|V0 5 Z ?_;have ca:fU g bb a=false:=by unfold fU;rw[d];rfl
        refine aJ ⟨C-1,by omega,oF,a+1,u4,M4,by omega,(Tb ca ▸ hO4),Z,cI<|aX oM,O⟩
       refine UG 3 Z<|aR<|aD<|V0 5 Z ?_;have bs:a=H g:=by have:=bJ E;omega
       subst bs;refine aJ ⟨ap-1,by omega,oF,r+1,u4,M4,by omega,(Wd cr ▸ hO4),Z,cI<|aX oM,O⟩
      refine I Z (df Z) Z<|UM 28 Z<|aR<|V0 5 Z ?_;have cr:fZ g w r=false:=by unfold fZ;rw[ao];rfl
      refine aJ ⟨ap-1,by omega,oF,r+1,u3,M3,by omega,(VG cr ▸ hO3),Z,cI<|aX oM,O⟩
     refine UG 3 Z<|aR<|aD<|V0 5 Z ?_;have cl:r=H g:=by have:=bJ bi;omega
     subst cl;refine aJ ⟨j8-1,by omega,oF,bb+1,u3,M3,by omega,(WM cb ▸ hO3),Z,cI<|aX oM,O⟩
    refine I Z (df Z) Z<|UM 26 Z<|aR<|V0 5 Z ?_;have cb:gX g w bb=false:=by unfold gX;rw[W];rfl
    refine aJ ⟨j8-1,by omega,oF,bb+1,u2,M2,by omega,(VF cb ▸ hO2),Z,cI<|aX oM,O⟩
   refine UG 3 Z<|aR<|aD<|V0 5 Z ?_;have cn:bb=H g:=by have:=bJ a5;omega
   subst cn;refine aJ ⟨j3-1,by omega,oF,w+1,u2,M2,by omega,(Wc cw ▸ hO2),Z,cI<|aX oM,O⟩
  refine I Z (df Z) Z<|UM 16 Z<|aR<|V0 5 Z ?_;have cw:js g w=false:=by unfold js;rw[a0];rfl
  refine aJ ⟨j3-1,by omega,oF,w+1,u,M,by omega,(VE cw ▸ hO),Z,cI<|aX oM,O⟩
 refine UG 3 Z<|aR<|Vp 3 Z<|I Z (bV Z) Z<|I Z (WR 6 Z) Z<|I Z (WS Z (O.bY hv.row) Z) Z<|vQ 1 Z ?_;have cp:w=H g:=by have:=bJ a3;omega
 subst cp;obtain⟨K1,ce,bt,O⟩:=F.bF (M:=M) O;have hs1:=hO.ib (K:=K1) fun y hy=>bt _ hy
 refine kw (WQ Z Z Z) (J9 hG (n:=H g) oM hs1 TA O) ?_;rintro _ V ⟨b2,rfl,O⟩;refine eZ O Z (WX Z Z Z O.g1 Z) Z (fun V O=>?_);refine Vt 3 Z ?_;exact cA Z Z O.g1 (m:=2) Y Z ⟨K1,b2,ce,Z,O.sub (.cons_cons _ (.cons _ (.refl _)))⟩
theorem Ub (d:Plain G) (hg:gG K g va vb vc vd) (O:F V K L):
  EC G 111 [.agg [va,vb,vc,vd]] V fun v V'=>(N (cY g) 0=false/\v= .tuple [.agg HN,.int .i64 2]/\F V' K L)∨(cG g/\∃W u0 u1 w u3 ue up ul us uh,v= .tuple [.agg<|fz (H g) u0 u1 w u3 ue up ul us uh,J]/\KP.le K W/\mR W g u0 u1 w u3 ue up ul us uh/\F V' W L):=by
 refine VV d Tryz.func111 Z<|Vp 2 Z<|kb O (cd Z Z) (fun V b1 O=>?_);refine kb O (WU (cs:=[J,.ax,J,.ax,J,.ax,J,.ax,J,.ax,J,.ax,J,.ax,J,.ax,J,.ax])) (fun V b2 O=>?_);refine UJ 5 Z<|I Z (W1 Z O.g1 Z) Z<|kw (WQ Z Z Z) (SB d hg O) ?_;rintro _ V (⟨aa,rfl,O⟩ | ⟨hR,W,b,a1,b1_,c1_,d1,iv,ev,rfl,hleA,hv,O⟩)
 ·refine TY 11 Z (I Z (df Z) Z (UJ 5 Z (I Z (WO (places:=[(0,8),(8,10)]) (zero:=[J,.ax,J,.ax,J,.ax,J,.ax,J,.ax,J,.ax,J,.ax,J,.ax,J,.ax]) (cs:=[_,_,_,_,_,_,_,_,_,_,_,_,_,_,_,_,_,_]) Z) Z ?_)));refine ks O (S1 Z Z Z O.g0 (m:=18) Z Z (cells':=[_,_,_,_,_,_,_,_,_,_,_,_,_,_,_,_,_,_]) Z) (fun V O=>?_);refine UL 5 Z ?_;exact cq Z Z O.g0 (m:=18) Y Z Z (.inl ⟨aa,Z,O.pop.pop⟩)
 have hvl:=kI hR;have hg0:=hg;clear hg;refine TY 11 Z (I Z (df Z) Z (TZ 8 Z (TX 9 Z (bk ([6,7,8]++rg 18 26) (fun j t V=>∃(i:Nat) (u:U) (M:Own),j+i=H g/\cQ 2 252 RP (eV (H g) (tT g) i 0) u M/\t.get 6=some (u)/\t.get 7=some (nI i)/\F V W (M++(b2,.row [J,.ax,J,.ax,J,.ax,J,.ax,J,.ax,J,.ax,J,.ax,J,.ax,J,.ax] 179 false)::(b1,.row [va,vb,vc,vd] 27 false)::L)) (H g) ⟨0,_,[],Z,.inl ⟨Z,Z,Z⟩,Z,Z,O⟩ ?_))));clear O;intro j6 t V ar hI;obtain⟨i,u,M,ap,hO,C,ab,O⟩:=hI;obtain⟨oo,rfl⟩:=ar.q2 C ab Z;refine UD 5 Z<|I Z (bV Z) Z<|I Z (WR 6 Z) Z<|I Z (WS Z (O.bY hv.row) Z) Z<|Vr 3 Z<|aG Z (fun A=>?_) (fun A=>?_)
 ·refine TV 9 Z (aL (bk ([6,8]++rg 26 18) (fun j t V=>∃(q:Nat) (w:U) (M2:Own),j+q=H g/\cQ 2 252 RP (eV (H g) (tT g) i q) w M2/\t.get 6=some (w)/\t.get 8=some (nI q)/\F V W (M2++(b2,.row [J,.ax,J,.ax,J,.ax,J,.ax,J,.ax,J,.ax,J,.ax,J,.ax,J,.ax] 179 false)::(b1,.row [va,vb,vc,vd] 27 false)::L)) (H g) ⟨0,u,M,Z,hO,Z,Z,O⟩ ?_));clear O;intro j9 t V ar hI;obtain⟨q,w,M2,aq,hO2,C,ac,O⟩:=hI;obtain⟨oo,rfl⟩:=ar.q2 C ac Z;refine UD 5 Z<|I Z (bV Z) Z<|I Z (WR 6 Z) Z<|I Z (WS Z (O.bY hv.row) Z) Z<|Vr 3 Z<|aG Z (fun E=>?_) (fun E=>?_)
  ·refine Ta 6 Z ?_;have hin:=bd A;have hqn:=bd E;refine V7 3 Z<|g8 Z (WQ Z Z Z) (fun _=>Z) (Ug d hv hin hqn O) (fun Q V O=>?_) (fun Q V O=>?_)
   ·refine Vs 7 Z<|I Z (kS (e:=3) (n:=2) (m:=1) (zero:=[J,J]) (cs:=[_,_]) Y Y Y Z) Z<|fg O Z (bR (e:=252) (m:=2) (z:=[J,J]) (cs:=[_,_]) Y Y Y Y<|a6 Z Z Z Z bH) (fun _=>Z) (fun V b3 O=>?_);replace O:=O.pull (.there<|bG.here (X:=M2));replace O:=O.pull (.bE<|bG.here (X:=[_]));rw[za_] at O;refine fT (R:=RP) (m:=2) (e:=252) hO2 O (ec (m:=2) Z (show RP (i,q) [nI i,nI q] from Z)) RP.leaf (by have:=jK (n:=H g) (R:=tT g) (i:=i) (q:=q);have:i*H g<=62*62:=Nat.mul_le_mul oM hvl;show _+1<=_;omega) Z Z Z Z Z Z Z (fun _=>Z) (fun V am ao hO43 O=>?_);refine V6 2 Z<|aD<|V0 5 Z<|aJ ⟨j9-1,by omega,oF,q+1,am,ao,by omega,(jM Q ▸ hO43),Z,cI<|aX oM,O⟩
   refine UK 5 Z<|V0 5 Z<|aJ ⟨j9-1,by omega,oF,q+1,w,M2,by omega,(lB Q ▸ hO2),Z,cI<|aX oM,O⟩
  refine UG 3 Z<|aR<|aD<|V0 5 Z ?_;have hlp:=bd A;have S:q=H g:=by have:=bJ E;omega
  subst S;refine aJ ⟨j6-1,by omega,oF,i+1,w,M2,by omega,(jL ▸ hO2),Z,cI<|aX oM,O⟩
 refine UG 3 Z<|aR<|Vp 2 Z ?_;have S:i=H g:=by have:=bJ A;omega
 subst S;rw[n9] at hO;refine vQ 1 Z<|kw (WQ Z Z Z) (Qk d hv hR O) ?_;rintro _ V ⟨K2,u0,u1,w,u3,rfl,B,g0,g1,g2,g3,O⟩;replace hv:=hv.mono B;replace hleA:=kR hleA B;refine I Z (WO (places:=[(0,8),(8,10)]) (zero:=[J,.ax,J,.ax,J,.ax,J,.ax,J,.ax,J,.ax,J,.ax,J,.ax,J,.ax]) (cs:=[_,_,_,_,_,_,_,_,_,_,_,_,_,_,_,_,_,_]) Z) Z<|kb O (WU (cs:=[J,.ax,J,.ax,J,.ax,J,.ax,J,.ax,J,.ax,J,.ax,J,.ax,J,.ax])) (fun V b3 O=>?_);refine bu O Z (S1 Z Z Z O.g0 (m:=18) Z (ah Z<|ah g0.leaf.2<|ah Z<|ah g1.leaf.2<|ah Z<|ah g2.leaf.2<|ah Z<|ah g3.leaf.2 Z) (cells':=[_,_,_,_,_,_,_,_,_,_,_,_,_,_,_,_,_,_]) Z) Z (fun V O=>?_);refine UQ O 6 [0,2] Z Z<|I Z (W0 Z O.g0 Z) Z<|Wa O 2 [0,4] Z Z<|I Z (W0 Z O.g0 Z) Z<|Wa O 2 [0,6] Z Z<|I Z (W0 Z O.g0 Z) Z<|fg O Z (bR (e:=173) (m:=2) (z:=[J,.ax]) (cs:=[_,_,_,_,_,_]) Y Y Y Y<|a6 Z Z Z Z<|a6 Z Z Z Z<|a6 Z Z Z Z bH) (fun _=>Z) (fun V b4 O=>?_);obtain⟨Kae,leae,memae,O⟩:=F.bF (M:=[_]) O;replace g0:=g0.mono leae fun _ _ h=>h
 replace g1:=g1.mono leae fun _ _ h=>h
 replace g2:=g2.mono leae fun _ _ h=>h
 replace g3:=g3.mono leae fun _ _ h=>h
 replace hv:=hv.mono leae;replace hleA:=kR hleA leae;have hle:=BH (n:=H g) (memae _<|mS_ ..) g1 g2 g3;refine kw (WQ Z Z Z) (Hn d (n:=H g) oM hle (Nat.succ_pos _) O) ?_;rintro _ V ⟨oe,rfl,O⟩;obtain⟨Kkoe,lekoe,memkoe,O⟩:=F.bF (M:=[_]) O;replace g0:=g0.mono lekoe fun _ _ h=>h
 replace g1:=g1.mono lekoe fun _ _ h=>h
 replace g2:=g2.mono lekoe fun _ _ h=>h
 replace g3:=g3.mono lekoe fun _ _ h=>h
 replace hv:=hv.mono lekoe;replace hleA:=kR hleA lekoe;have hoe:=dT (memkoe _<|mS_ ..) (bM (H g)<|iY [qz g,nE g,pW g]) oM;refine kw (WQ Z Z Z) (CZ d (n:=H g) oM hoe O) ?_;rintro _ V ⟨Kpe,upe,lepe,rfl,hpe,O⟩;replace g0:=g0.mono lepe fun _ _ h=>h
 replace g1:=g1.mono lepe fun _ _ h=>h
 replace g2:=g2.mono lepe fun _ _ h=>h
 replace g3:=g3.mono lepe fun _ _ h=>h
 replace hoe:=hoe.mono lepe fun _ _ h=>h
 replace hv:=hv.mono lepe;replace hleA:=kR hleA lepe;refine Wa O 2 [8,0] Z Z<|ks O (S1 Z Z Z O.g0 (m:=2) Z (ah Z<|ah hpe.leaf.2 az) (cells':=[_,_,_,_,_,_,_,_,_,_,_,_,_,_,_,_,_,_]) Z) (fun V O=>?_);refine UQ O 6 [0,0] Z Z<|I Z (W0 Z O.g0 Z) Z<|Wa O 2 [0,2] Z Z<|I Z (W0 Z O.g0 Z) Z<|fg O Z (bR (e:=173) (m:=2) (z:=[J,.ax]) (cs:=[_,_,_,_]) Y Y Y Y<|a6 Z Z Z Z<|a6 Z Z Z Z bH) (fun _=>Z) (fun V b5 O=>?_);obtain⟨Kap,leap,memap,O⟩:=F.bF (M:=[_]) O;replace g0:=g0.mono leap fun _ _ h=>h
 replace g1:=g1.mono leap fun _ _ h=>h
 replace g2:=g2.mono leap fun _ _ h=>h
 replace g3:=g3.mono leap fun _ _ h=>h
 replace hoe:=hoe.mono leap fun _ _ h=>h
 replace hpe:=hpe.mono leap fun _ _ h=>h
 replace hv:=hv.mono leap;replace hleA:=kR hleA leap;have hlp:=qd (n:=H g) (memap _<|mS_ ..) g0 g1;refine kw (WQ Z Z Z) (Hn d (n:=H g) oM hlp (Nat.succ_pos _) O) ?_;rintro _ V ⟨op,rfl,O⟩;obtain⟨Kkop,lekop,memkop,O⟩:=F.bF (M:=[_]) O;replace g0:=g0.mono lekop fun _ _ h=>h
 replace g1:=g1.mono lekop fun _ _ h=>h
 replace g2:=g2.mono lekop fun _ _ h=>h
 replace g3:=g3.mono lekop fun _ _ h=>h
 replace hoe:=hoe.mono lekop fun _ _ h=>h
 replace hpe:=hpe.mono lekop fun _ _ h=>h
 replace hv:=hv.mono lekop;replace hleA:=kR hleA lekop;have hop:=dT (memkop _<|mS_ ..) (bM (H g)<|iY [jk g,qz g]) oM;refine kw (WQ Z Z Z) (CZ d (n:=H g) oM hop O) ?_;rintro _ V ⟨Kpp,upp,lepp,rfl,hpp,O⟩;replace g0:=g0.mono lepp fun _ _ h=>h
 replace g1:=g1.mono lepp fun _ _ h=>h
 replace g2:=g2.mono lepp fun _ _ h=>h
 replace g3:=g3.mono lepp fun _ _ h=>h
 replace hoe:=hoe.mono lepp fun _ _ h=>h
 replace hpe:=hpe.mono lepp fun _ _ h=>h
 replace hop:=hop.mono lepp fun _ _ h=>h
 replace hv:=hv.mono lepp;replace hleA:=kR hleA lepp;refine Wa O 2 [8,2] Z Z<|ks O (S1 Z Z Z O.g0 (m:=2) Z (ah Z<|ah hpp.leaf.2 az) (cells':=[_,_,_,_,_,_,_,_,_,_,_,_,_,_,_,_,_,_]) Z) (fun V O=>?_);refine UJ 5 Z<|I Z (bV Z) Z<|I Z (WR 6 Z) Z<|I Z (WS Z (O.bY hv.row) Z) Z<|vQ 1 Z ?_;replace O:=O.pull (.there<|bG.here (X:=M));obtain⟨Kl,lel,meml,O⟩:=F.bF (M:=M) O;replace g0:=g0.mono lel fun _ _ h=>h
 replace g1:=g1.mono lel fun _ _ h=>h
 replace g2:=g2.mono lel fun _ _ h=>h
 replace g3:=g3.mono lel fun _ _ h=>h
 replace hoe:=hoe.mono lel fun _ _ h=>h
 replace hpe:=hpe.mono lel fun _ _ h=>h
 replace hop:=hop.mono lel fun _ _ h=>h
 replace hpp:=hpp.mono lel fun _ _ h=>h
 replace hv:=hv.mono lel;replace hleA:=kR hleA lel;have hsl:=hO.ib (K:=Kl) fun y hy=>meml _ hy
 refine kw (WQ Z Z Z) (J9 d (n:=H g) oM hsl pt O) ?_;rintro _ V ⟨ol,rfl,O⟩;obtain⟨Kkl,lekl,memkl,O⟩:=F.bF (M:=[_]) O;replace g0:=g0.mono lekl fun _ _ h=>h
 replace g1:=g1.mono lekl fun _ _ h=>h
 replace g2:=g2.mono lekl fun _ _ h=>h
 replace g3:=g3.mono lekl fun _ _ h=>h
 replace hoe:=hoe.mono lekl fun _ _ h=>h
 replace hpe:=hpe.mono lekl fun _ _ h=>h
 replace hop:=hop.mono lekl fun _ _ h=>h
 replace hpp:=hpp.mono lekl fun _ _ h=>h
 replace hv:=hv.mono lekl;replace hleA:=kR hleA lekl;have gl:=dT (memkl _<|mS_ ..) (bM (H g)<|xy<|jJ (H g)<|tT g) oM;rw[mN] at gl;refine Wa O 2 [8,4] Z Z<|ks O (S1 Z Z Z O.g0 (m:=2) Z (ah Z<|ah gl.leaf.2 az) (cells':=[_,_,_,_,_,_,_,_,_,_,_,_,_,_,_,_,_,_]) Z) (fun V O=>?_);refine UJ 5 Z<|kw (WQ Z Z Z) (VB d hv hR O) ?_;rintro _ V ⟨Ks,os,les,rfl,O⟩;replace g0:=g0.mono les fun _ _ h=>h
 replace g1:=g1.mono les fun _ _ h=>h
 replace g2:=g2.mono les fun _ _ h=>h
 replace g3:=g3.mono les fun _ _ h=>h
 replace hoe:=hoe.mono les fun _ _ h=>h
 replace hpe:=hpe.mono les fun _ _ h=>h
 replace hop:=hop.mono les fun _ _ h=>h
 replace hpp:=hpp.mono les fun _ _ h=>h
 replace gl:=gl.mono les fun _ _ h=>h
 replace hv:=hv.mono les;replace hleA:=kR hleA les;obtain⟨Kks,leks,memks,O⟩:=F.bF (M:=[_]) O;replace g0:=g0.mono leks fun _ _ h=>h
 replace g1:=g1.mono leks fun _ _ h=>h
 replace g2:=g2.mono leks fun _ _ h=>h
 replace g3:=g3.mono leks fun _ _ h=>h
 replace hoe:=hoe.mono leks fun _ _ h=>h
 replace hpe:=hpe.mono leks fun _ _ h=>h
 replace hop:=hop.mono leks fun _ _ h=>h
 replace hpp:=hpp.mono leks fun _ _ h=>h
 replace gl:=gl.mono leks fun _ _ h=>h
 replace hv:=hv.mono leks;replace hleA:=kR hleA leks;have gs:=dT (memks _<|mS_ ..) (bM (H g)<|sU g) oM;refine Wa O 2 [8,6] Z Z<|ks O (S1 Z Z Z O.g0 (m:=2) Z (ah Z<|ah gs.leaf.2 az) (cells':=[_,_,_,_,_,_,_,_,_,_,_,_,_,_,_,_,_,_]) Z) (fun V O=>?_);refine UQ O 6 [0,0] Z Z<|I Z (W0 Z O.g0 Z) Z<|Wa O 2 [8,6] Z Z<|I Z (W0 Z O.g0 Z) Z<|fg O Z (bR (e:=173) (m:=2) (z:=[J,.ax]) (cs:=[_,_,_,_]) Y Y Y Y<|a6 Z Z Z Z<|a6 Z Z Z Z bH) (fun _=>Z) (fun V b6 O=>?_);obtain⟨Kah,leah,memah,O⟩:=F.bF (M:=[_]) O;replace g0:=g0.mono leah fun _ _ h=>h
 replace g1:=g1.mono leah fun _ _ h=>h
 replace g2:=g2.mono leah fun _ _ h=>h
 replace g3:=g3.mono leah fun _ _ h=>h
 replace hoe:=hoe.mono leah fun _ _ h=>h
 replace hpe:=hpe.mono leah fun _ _ h=>h
 replace hop:=hop.mono leah fun _ _ h=>h
 replace hpp:=hpp.mono leah fun _ _ h=>h
 replace gl:=gl.mono leah fun _ _ h=>h
 replace gs:=gs.mono leah fun _ _ h=>h
 replace hv:=hv.mono leah;replace hleA:=kR hleA leah;have hlh:=qd (n:=H g) (memah _<|mS_ ..) g0 gs;refine kw (WQ Z Z Z) (Hn d (n:=H g) oM hlh (Nat.succ_pos _) O) ?_;rintro _ V ⟨oh,rfl,O⟩;obtain⟨Kkoh,lekoh,memkoh,O⟩:=F.bF (M:=[_]) O;replace g0:=g0.mono lekoh fun _ _ h=>h
 replace g1:=g1.mono lekoh fun _ _ h=>h
 replace g2:=g2.mono lekoh fun _ _ h=>h
 replace g3:=g3.mono lekoh fun _ _ h=>h
 replace hoe:=hoe.mono lekoh fun _ _ h=>h
 replace hpe:=hpe.mono lekoh fun _ _ h=>h
 replace hop:=hop.mono lekoh fun _ _ h=>h
 replace hpp:=hpp.mono lekoh fun _ _ h=>h
 replace gl:=gl.mono lekoh fun _ _ h=>h
 replace gs:=gs.mono lekoh fun _ _ h=>h
 replace hv:=hv.mono lekoh;replace hleA:=kR hleA lekoh;have hoh:=dT (memkoh _<|mS_ ..) (bM (H g)<|iY [jk g,sU g]) oM;refine kw (WQ Z Z Z) (CZ d (n:=H g) oM hoh O) ?_;rintro _ V ⟨Kph,uph,leph,rfl,T,O⟩;replace g0:=g0.mono leph fun _ _ h=>h
 replace g1:=g1.mono leph fun _ _ h=>h
 replace g2:=g2.mono leph fun _ _ h=>h
 replace g3:=g3.mono leph fun _ _ h=>h
 replace hoe:=hoe.mono leph fun _ _ h=>h
 replace hpe:=hpe.mono leph fun _ _ h=>h
 replace hop:=hop.mono leph fun _ _ h=>h
 replace hpp:=hpp.mono leph fun _ _ h=>h
 replace gl:=gl.mono leph fun _ _ h=>h
 replace gs:=gs.mono leph fun _ _ h=>h
 replace hoh:=hoh.mono leph fun _ _ h=>h
 replace hv:=hv.mono leph;replace hleA:=kR hleA leph;refine Wa O 2 [8,8] Z Z<|ks O (S1 Z Z Z O.g0 (m:=2) Z (ah Z<|ah T.leaf.2 az) (cells':=[_,_,_,_,_,_,_,_,_,_,_,_,_,_,_,_,_,_]) Z) (fun V O=>?_);refine UJ 4 Z<|I Z (QT Z O.g0 (n:=18) (vs:=[_,_,_,_,_,_,_,_,_,_,_,_,_,_,_,_,_,_]) Z) Z ?_;refine eZ O Z (S1 Z Z Z O.g1 (m:=18) Z (ah Z<|ah g0.leaf.2<|ah Z<|ah g1.leaf.2<|ah Z<|ah g2.leaf.2<|ah Z<|ah g3.leaf.2<|ah Z<|ah hpe.leaf.2<|ah Z<|ah hpp.leaf.2<|ah Z<|ah gl.leaf.2<|ah Z<|ah gs.leaf.2<|ah Z<|ah T.leaf.2 az) (cells':=[_,_,_,_,_,_,_,_,_,_,_,_,_,_,_,_,_,_]) Z) Z (fun V O=>?_);refine Vt 4 Z ?_;exact cq Z Z O.g1 (m:=18) Y Z Z (.inr ⟨hR,_,_,_,_,_,_,_,_,_,_,Z,hleA,⟨g0,g1,g2,g3,hpe,hpp,gl,gs,T⟩,O.pop.pop.pop⟩)
structure Wl (v:U):Prop where
 leaf:dg v=some [v]/\ml v=true
structure VQ (k:Nat) (c:XC) (R:TS) (K1:KP) (ev:U) (fn:Int) (a:qD):Prop where
 ev:bS K1 5 jl R.events ev
 ask:R.asks=true->fn=0/\a=mT k c R
 fin:R.asks=false->fn=R.fin/\a=jx
variable {α:Type} {vs:List U} {E e:Nat} {R:α->List U->Prop}
theorem MU {m b:Nat} {x:α} (hm:vs.length=m) (d:R x vs):cQ m E R [x] (.slice b 0 1 (.known 1)) [(b,.row vs e false)]:=
 .inr ⟨b,.known 1,vs,e,Z,Z,by rw[hm];simp,fun i y h=>by
  cases i with
  | zero=>cases h;rw[Nat.zero_mul,drop_zero,tL_ oM];exact d
  | succ i=>simp at h,.inl Z,by show 1<=1048576;decide⟩
theorem Lw (W:Plain G) {a b c d:U} (S:gG K g a b c d) (loc:Int) (O:F V K L):
  EC G 51 [.agg [a,b,c,d],.int .i64 loc] V fun v V'=>∃M,cQ 2 68 jm (cW g loc) v M/\F V' K (M++L):=by
 refine VV W Tryz.func51 Z<|Vp 2 Z<|kb O (cd Z Z) (fun V b1 O=>?_);refine TY 6 Z<|I Z (W1 Z O.g0 Z) Z<|kx (WQ Z Z Z) (wz W S O) (fun V O=>?_);refine vQ 1 Z<|ky Z (al Z) (fun B=>?_) (fun B=>?_)
 ·refine UL 20 Z ?_;exact aB Z Z ⟨[],.inl ⟨qn<|de B,Z,Z⟩,O.pop⟩
 refine V7 3 Z<|ky Z (al Z) (fun w=>?_) (fun w=>?_)
 ·refine UL 16 Z ?_;exact aB Z Z ⟨[],.inl ⟨rO w,Z,Z⟩,O.pop⟩
 refine Wa O 3 [0,0] Z Z<|I Z (WT S.init Z Z Z (e:=2) Z) Z<|Vr 4 Z<|aG Z (fun A=>?_) (fun A=>?_)
 ·obtain⟨ln,rfl⟩:=ij w;refine Vq 7 Z ?_;exact aB Z Z ⟨[],.inl ⟨rN (by rw[(fX<|AT<|bT B).2.2.2.2.1];exact oZ A),Z,Z⟩,O.pop⟩
 obtain⟨ln,rfl⟩:=ij w;refine UF 5 Z (I Z (WO (places:=[(0,1),(1,1)]) (zero:=[J,J]) (cs:=[_,_]) Z) Z<|fg O Z (bR (e:=68) (m:=2) (z:=[J,J]) (cs:=[_,_]) Y Y Y Y<|a6 Z Z Z Z bH) (fun _=>Z) (fun V X O=>?_));replace O:F V _ ([(X,.row _ 68 false)]++_):=O;refine I Z (WR 3 Z) Z<|I Z (WS Z O.bB.g0 Z) Z<|vQ 1 Z ?_;obtain⟨ac,u⟩:=da (show ln<g.order.length from by rw[(fX<|AT<|bT B).2.2.2.2.1];exact pf A);refine WJ (e:=84) (m:=1) S.order u Z Z Z Z (fun am aa C ab E=>?_);have hr25':=E;obtain⟨ao,rfl,Q⟩:=hr25';refine I Z (WV O C Z Z) Z (MK (R:=jm) (m:=2) (e:=68) (MU (m:=2) (R:=jm) (x:=⟨0,.ofNat ln⟩) Z Z) O Q jm.leaf (by have:=iq (AT<|bT B) _ (gB_ u);show 1+_<=_;omega) Z Z Z Z Z Z Z (fun _=>Z) (fun V ap T hO27 O=>?_));refine Vt 4 Z ?_;exact aB Z Z ⟨T,by rw[gq (bT B) u];exact hO27,O.sub<|cu (.cons _ (.refl _))⟩
variable {A:Rn}
theorem Qi (z:Plain G) (A:gG K g va vb vc vd) (B:cG g) (id:cD) (O:F V K L):
  Ca G K L 101 [.agg [va,vb,vc,vd],.agg [.int .i64 id.br,.int .i64 id.index]] V <| .tuple [.agg<|ints (iE<|cX g id).ints,.bool (cX g id).isSome]:=by
 have hck:=cP.2 B;refine VV z Tryz.func101 Z<|Vp 2 Z<|kb O (cd Z Z) (fun V b1 O=>?_);refine kb O (cd Z Z) (fun V b2 O=>?_);refine kb O (WU (cs:=[J,J,J,J,J])) (fun V b3 O=>?_);refine UJ 5 Z<|I Z (W1 Z (O.get 2 Z) Z) Z<|I Z (W0 Z O.g1 Z) Z<|kx (WQ Z Z Z) (vC z A id.br id.index O) (fun V O=>?_);refine V7 3 Z<|kb O (WU (cs:=[J,J,J,J,J])) (fun V b4 O=>?_);refine ks O (WZ Z Z Z O.g0 Z) (fun V O=>?_);refine TY 6 Z<|I Z (W1 Z (O.get 3 Z) Z) Z<|kx (WQ Z Z Z) (by have q:=wz z A O;rw[hck] at q;exact q) (fun V O=>?_);refine vQ 1 Z<|ky Z (al Z) (fun u=>?_) (fun u=>?_)
 ·exact absurd u (by decide)
 refine vQ 1 Z<|I Z (df Z) Z<|Vr 3 Z<|aG Z (fun d=>?_) (fun d=>?_)
 ·refine Vp 2 Z (I Z (WO (places:=[(0,1),(1,1),(2,1),(3,1),(4,1)]) (zero:=[J,J,J,J,J]) (cs:=[_,_,_,_,_]) Z) Z<|eZ O Z (WZ Z Z Z O.g1 Z) Z (fun V O=>?_));refine UL 5 Z ?_;exact cq Z Z O.g1 (m:=5) Y Z Z ⟨by have e:(cX g id).isSome=false:=de d;rw[e];cases hh:cX g id with | none=>rfl | some w=>(rw[hh] at e;cases e),O.pop.pop.pop.pop⟩
 refine UF 4 Z<|I Z (W2 Z O.g0 Z) Z<|eZ O Z (WZ Z Z Z O.g1 Z) Z (fun V O=>?_);refine Vt 4 Z ?_;exact cq Z Z O.g1 (m:=5) Y Z Z ⟨by rw[show(cX g id).isSome=true from bT d];rfl,O.pop.pop.pop.pop⟩
theorem IC (S:Plain G) (X:gG K g va vb vc vd) (hR:cG g) (id:cD) (O:F V K L):
  Ca G K L 100 [.agg [va,vb,vc,vd],.agg [.int .i64 id.br,.int .i64 id.index]] V <| .int .i64 (nu g id):=by
 refine VV S Tryz.func100 Z<|Vp 2 Z<|kb O (cd Z Z) (fun V b1 O=>?_);refine kb O (cd Z Z) (fun V b2 O=>?_);refine UJ 5 Z<|I Z (W1 Z O.g1 Z) Z<|I Z (W0 Z O.g0 Z) Z<|kx (WQ Z Z Z) (Qi S X hR id O) (fun V O=>?_);refine V7 3 Z<|kb O (WU (cs:=[J,J,J,J,J])) (fun V b3 O=>?_);refine ks O (WZ Z Z Z O.g0 Z) (fun V O=>?_);refine TY 7 Z<|I Z (df Z) Z<|ky Z (al Z) (fun d=>?_) (fun d=>?_)
 ·refine UL 14 Z ?_;exact aB Z Z ⟨cJ (by symm;unfold nu;rw[show(cX g id).isSome=false from de d];rfl),O.pop.pop.pop⟩
 refine I Z (W2 Z O.g0 Z) Z<|kx (WQ Z Z Z) (mP S (iE<|cX g id) O) (fun V O=>?_);refine I Z (df Z) Z<|Vr 3 Z<|aG Z (fun z=>?_) (fun z=>?_)
 ·refine Vq 7 Z ?_;exact aB Z Z ⟨cJ (by symm;unfold nu;rw[show(cX g id).isSome=true from bT d,show bl (iE<|cX g id)=false from de z];rfl),O.pop.pop.pop⟩
 refine UF 4 Z<|I Z (W1 Z (O.get 2 Z) Z) Z<|Wa O 2 [1,0] Z Z<|kw (WQ Z Z Z) (Lw S X _ O) ?_;rintro am V ⟨T,hM25,O⟩;obtain⟨K1,B,C,O⟩:=F.bF (M:=T) O;have hw:=hM25.ib (K:=K1) fun y hy=>C _ hy
 refine TX 10 Z ?_;obtain⟨LL1,O,hLL1⟩:=O.named;refine bk ([4,8]++rg 26 13) (fun j t V=>∃(k:Nat),j+k=(cW g (iE<|cX g id).loc).length/\ey (fun x:cD=>cL x.ints id.ints) (cW g (iE<|cX g id).loc) 0=ey (fun x:cD=>cL x.ints id.ints) ((cW g (iE<|cX g id).loc).drop k) k/\t.get 8=some (nI k)/\F V K1 LL1) ((cW g (iE<|cX g id).loc).length) ⟨0,Z,Z,Z,O⟩ ?_;clear O;intro j6 t V ar hI;obtain⟨k,ao,he,W,O⟩:=hI;subst hLL1;obtain⟨oo,rfl⟩:=ar.q1 W Z;refine UD 5 Z<|I Z (WT hw Z Z Z (e:=68) Z) Z<|Vr 3 Z<|aG Z (fun u=>?_) (fun u=>?_)
 ·refine S9 5 Z<|aP (l:=zp [0,1,2,3,4,5]) Y Y<|V8 2 Z ?_;obtain⟨A,w,aa⟩:=dH u;refine WK (e:=68) (m:=2) hw w Z Z Z Z Z (fun ap ab Q ac R=>?_);obtain rfl:=R;refine aj Z Z (WW O Q Z Z) Z<|aj Z Z (W0 Z O.g1 Z) Z<|aj Z Z (Ad (n:=2) (ca:=[_,_]) (cb:=[_,_]) Y Z Z Z Z) Z<|Vu 2 Z<|aG Z (fun E=>?_) (fun E=>?_)
  ·refine V5 7 Z<|aK<|aA<|bL<|aK<|aA (?_);exact aB Z Z ⟨cJ (by symm;unfold nu;rw[show(cX g id).isSome=true from bT d,show bl (iE<|cX g id)=true from bT z];show ey (fun x:cD=>cL x.ints id.ints) (cW g (iE<|cX g id).loc) 0=_;rw[he,cN w];show(bif cL A.ints id.ints then _ else _)=_;rw[show cL A.ints id.ints=true from E];rfl),(O.pop.pop.pop).weaken B⟩
  refine aH<|aD<|V0 5 Z ?_;have hlp:=bd u;refine aJ ⟨j6-1,by have:=bd u;omega,oF,k+1,by omega,by rw[he,cN w];show(bif cL A.ints id.ints then _ else _)=_;rw[show cL A.ints id.ints=false from E];rfl,cI<|aX (by have:=hw.cE;omega),O⟩
 refine UG 3 Z<|aR<|V5 6 Z ?_;exact aB Z Z ⟨cJ (by symm;unfold nu;rw[show(cX g id).isSome=true from bT d,show bl (iE<|cX g id)=true from bT z];show ey (fun x:cD=>cL x.ints id.ints) (cW g (iE<|cX g id).loc) 0=_;rw[he,ff<|bJ u];rfl),(O.pop.pop.pop).weaken B⟩
theorem C5 (z:Plain G) {n:Nat} (hn:n<=64) (C:bS K 1 RU (bp n A) va) (O:F V K L):
  Ca G K L 177 [.agg [nI n,va]] V <| .int .i64 (jO n A):=by
 refine VV z Tryz.func177 Z<|Vp 2 Z<|kb O (cd Z Z) (fun V b1 O=>?_);refine UJ 5 Z<|I Z (W0 Z O.g0 Z) Z<|kw (WQ Z Z Z) (CZ z hn C O) ?_;rintro _ V ⟨E,up,u,rfl,hp,O⟩;refine kb O (WU (cs:=[J,.ax])) (fun V b2 O=>?_);refine ks O (S1 Z Z Z O.g0 (m:=2) Z (ah Z<|ah hp.leaf.2 az) (cells':=[_,_]) Z) (fun V O=>?_);refine TX 9 Z ?_;obtain⟨LL1,O,hLL1⟩:=O.named;refine bk ([2,4]++rg 7 11) (fun j t V=>∃(i:Nat),j+i=n/\ey (fun i=>kW n A i i) (range n) 0=ey (fun i=>kW n A i i) ((range n).drop i) i/\t.get 4=some (nI i)/\F V E LL1) (n) ⟨0,Z,Z,Z,O⟩ ?_;clear O;intro M t V ar Q;obtain⟨i,aa,he,B,O⟩:=Q;subst hLL1;obtain⟨oo,rfl⟩:=ar.q1 B Z;refine Vw O 9 [0,0] Z Z<|aG Z (fun d=>?_) (fun d=>?_)
 ·refine Ta 6 Z<|I Z (W0 Z O.g0 Z) Z<|V7 2 Z<|kx (WQ Z Z Z) (Ud z hn hp (bd d) (bd d) O) (fun V O=>?_);refine Vr 2 Z<|aG Z (fun w=>?_) (fun w=>?_)
  ·refine V5 7 Z<|aK<|aA<|bL<|aK<|aA (?_);exact aB Z Z ⟨cJ (by symm;show ey (fun i=>kW n A i i) (range n) 0=_;rw[he,cN<|zr_<|bd d];show(bif kW n A i i then _ else _)=_;rw[show kW n A i i=true from w];rfl),(O.pop.pop).weaken u⟩
  refine aH<|aD<|V0 5 Z ?_;have hlp:=bd d;refine aJ ⟨M-1,by have:=bd d;omega,oF,i+1,by omega,by rw[he,cN<|zr_ hlp];show(bif kW n A i i then _ else _)=_;rw[show kW n A i i=false from w];rfl,cI<|aX oM,O⟩
 refine UG 3 Z<|aR<|V5 6 Z ?_;exact aB Z Z ⟨cJ (by symm;show ey (fun i=>kW n A i i) (range n) 0=_;rw[he,ff (by rw[List.length_range];exact bJ d)];rfl),(O.pop.pop).weaken u⟩
theorem ID (Q:Plain G) (m:Int) (O:F V K L):
  EC G 61 [.int .i64 m] V fun v V'=>∃w,KP.le K w/\bS w 1 g9 (eL m) v/\F V' w L:=by
 refine VV Q Tryz.func61 Z<|Vo 11 Z<|aL<|Vp 4 Z<|Vr 2 Z<|aG Z (fun h4=>?_) (fun h4=>?_)
 ·refine Vp 2 Z<|fg O Z (bR (e:=3) (m:=1) (z:=[J]) (cs:=[_,_,_]) Y Y Y Y<|a6 Z Z Z Z<|a6 Z Z Z Z<|a6 Z Z Z Z bH) (fun _=>Z) (fun V A O=>?_);refine Vt 4 Z<|aK<|aA (?_);obtain⟨w,u,d,O⟩:=F.bF (M:=[_]) O;exact aB Z Z ⟨w,u,by unfold eL;rw[show N m 1=true from h4];exact(lA (E:=3) (b:=A) (e:=3) (xs:=[1,2,6]) (by simp)).ib fun y B=>d _ B,O⟩
 refine Vp 4 Z<|Vr 2 Z<|aG Z (fun C=>?_) (fun C=>?_)
 ·refine Vp 2 Z<|fg O Z (bR (e:=3) (m:=1) (z:=[J]) (cs:=[_,_,_,_,_]) Y Y Y Y<|a6 Z Z Z Z<|a6 Z Z Z Z<|a6 Z Z Z Z<|a6 Z Z Z Z<|a6 Z Z Z Z bH) (fun _=>Z) (fun V A O=>?_);refine Vt 4 Z<|aK<|aA (?_);obtain⟨w,u,d,O⟩:=F.bF (M:=[_]) O;exact aB Z Z ⟨w,u,by unfold eL;rw[show N m 1=false from h4,show N m 2=true from C];exact(lA (E:=3) (b:=A) (e:=3) (xs:=[1,2,3,4,5]) (by simp)).ib fun y B=>d _ B,O⟩
 refine aH<|aD<|V5 6 Z ?_;exact aB Z Z ⟨K,KP.le_refl K,by unfold eL;rw[show N m 1=false from h4,show N m 2=false from C];exact .inl ⟨Z,Z⟩,O⟩
theorem Nr (hG:Plain G) (hg:gG K g va vb vc vd) (T:cG g) (O:F V K L):
  Ca G K L 176 [.agg [va,vb,vc,vd]] V <| .int .i64 (wy g):=by
 have hvl:=kI T;refine VV hG Tryz.func176 Z<|Vp 2 Z<|kb O (cd Z Z) (fun V b1 O=>?_);refine UJ 5 Z<|I Z (W1 Z O.g0 Z) Z<|kw (WQ Z Z Z) (Rg hG hg T O) ?_;rintro u7 V ⟨M7,hO7,O⟩;obtain⟨K1,z,W,O⟩:=F.bF (M:=M7) O;have E:bS K1 2 jm (gj g) u7:=hO7.ib fun y hy=>W _ hy
 replace hg:=hg.mono z;refine TX 10 Z ?_;obtain⟨LL1,O,hLL1⟩:=O.named;refine bk ([2,4,5]++rg 8 47) (fun j t V=>∃(i:Nat),j+i=H g/\ey (lg g) (gj g) 0=ey (lg g) ((gj g).drop i) i/\t.get 4=some (nI i)/\F V K1 LL1) (H g) ⟨0,Z,Z,Z,O⟩ ?_;clear O;intro j3 t V ar hI;obtain⟨i,b6,he,bb,O⟩:=hI;subst hLL1;obtain⟨oo,rfl⟩:=ar.q1 bb Z;refine UD 5 Z<|I Z (WT E Z Z Z (e:=68) Z) Z<|Vr 3 Z<|aG Z (fun w=>?_) (fun w=>?_)
 ·refine Ta 6 Z ?_;have d:i<H g:=bd w;refine V7 2 Z<|WJ (e:=68) (m:=2) E (eE d) Z Z Z Z (fun b7 bm ac bq am=>?_);obtain rfl:=am;refine I Z (WW O ac Z Z) Z<|kb O (WU (cs:=[J,J])) (fun V b2 O=>?_);refine ks O (WX Z Z Z O.g0 Z) (fun V O=>?_);refine UI 3 Z<|ak<|aP (l:=zp [0,1,2,3,4,5,6,7,8,9,10,11,12,13,14,15,16,17]) Y Y<|Wb O 3 [0,0] Z Z<|fA Z Z (al Z) (fun _=>Z) (fun u=>?_) (fun u=>?_)
  ·refine Vu 17 Z<|bn<|aV<|aR<|V0 5 Z ?_;have O:=O.pop;have hlp:=bd w;have A:lg g (eJ g i)=false:=by show(bif N (eJ g i).br 0 then false else _)=false;rw[show N (eJ g i).br 0=true from u];rfl
   refine aJ ⟨j3-1,by omega,oF,i+1,by omega,by rw[he,cN<|eE d];show(bif lg g (eJ g i) then _ else _)=_;rw[A];rfl,cI<|aX oM,O⟩
  obtain⟨tt,kk,row,e,B,dP,be,ao⟩:∃(t k:Nat) (row:List cz) (e:cz),eJ g i=⟨.ofNat (t+1),.ofNat k⟩/\g.threads[t]? =some row/\row[k]? =some e/\dB g i=e:=by rcases fp d with ⟨x,v,h1,_⟩ | h;(rw[h1] at u;exact Bool.noConfusion (show true=false from u));exact h
  refine Wb O 4 [1,1,0,0] Z Z (aj Z Z (ay (v:=nI tt) Z Z (by rw[B];exact cI (fx (by have:=T.threads;have:=(gA.1 dP).1;omega)))) Z<|WK (e:=90) (m:=1) hg.threads dP Z Z Z Z Z (fun b8 bs ap bt aq=>?_));have hr27':=aq;obtain⟨b9,rfl,a0⟩:=hr27';refine aj Z Z (WV O ap Z Z) Z<|Wb O 2 [1,0] Z Z<|WK (e:=45) (m:=5) a0 be Z Z Z Z (cI<|congrArg cD.index B) (fun ca bv a1 bw a2=>?_);obtain rfl:=a2;refine dU a1 Z Z Z Z (k:=0) Y (lb Z) (fun _=>Z) (fun cb a3=>?_);refine aj Z Z (WV O a3 Z Z) Z<|Vu 4 Z<|aG Z (fun X=>?_) (fun X=>?_)
  ·refine bn<|aV<|aR<|V0 5 Z ?_;have O:=O.pop;have hlp:=bd w;have A:lg g (eJ g i)=false:=by unfold lg;rw[show N (eJ g i).br 0=false from u,show iE (cX g<|eJ g i)=dB g i from Z,ao,show bC (N e.kind 3)=true from X];rfl
   refine aJ ⟨j3-1,by omega,oF,i+1,by omega,by rw[he,cN<|eE d];show(bif lg g (eJ g i) then _ else _)=_;rw[A];rfl,cI<|aX oM,O⟩
  refine UE 3 Z (aP (l:=[(0,[]),(1,[]),(3,[]),(4,[]),(5,[]),(6,[]),(7,[]),(8,[]),(9,[]),(10,[]),(11,[]),(12,[]),(13,[]),(14,[]),(2,[3,5,7,10,12,14]),(15,[]),(16,[]),(17,[])]) Y Y ?_);have aa:N (dB g i).kind 3=true:=by rw[ao];exact bT X
  obtain⟨bi,kk2,bI,e2,frow,q,C,bj,_,_,ga,hq,a4,_⟩:=yP T d (ic aa);obtain⟨rfl,rfl⟩:tt=bi/\kk=kk2:=by rw[B] at C;exact⟨by have:=iJ_ (congrArg cD.br C);omega,by have:=iJ_ (congrArg cD.index C);omega⟩
  refine aj Z Z (W1 Z O.g1 Z) Z (aj Z Z (W0 Z O.g0 Z) Z (aj Z Z (W1 Z O.g1 Z) Z (Wb O 4 [2,1,0,0] Z Z (aj Z Z (ay (v:=nI tt) Z Z (by rw[B];exact cI (fx (by have:=T.threads;have:=(gA.1 dP).1;omega)))) Z<|WK (e:=84) (m:=1) hg.from_ ga Z Z Z Z Z (fun cc b0 Q b3 a5=>?_)))));have hr45':=a5;obtain⟨ce,rfl,R⟩:=hr45';refine aj Z Z (WV O Q Z Z) Z<|Wb O 2 [1,0] Z Z<|WK (e:=68) (m:=2) R hq Z Z Z Z (cI<|congrArg cD.index B) (fun ch b4 S b5 a9=>?_);obtain rfl:=a9;refine aj Z Z (WW O S Z Z) Z<|di Z Z (WQ Z Z Z) (fun _=>Z) (IC hG hg T (eJ g i) O) (fun V O=>?_);refine⟨(bf (bo Z Z Z Z Z (W1 Z O.g1 Z)<|dI<|ba hg.init.dV<|ba hg.threads.dV<|ba hg.from_.dV<|ba hg.order.dV dJ)<|bf (bo Z Z Z Z Z (WS Z O.g1 Z) hg.from_.eM)<|bf (bo Z Z Z Z Z (WS Z O.g0 Z)<|eu _ _)<|bf (bo Z Z Z Z Z (WV O Q Z Z) R.eM)<|bf (bo Z Z Z Z Z (WS Z O.g0 Z)<|eu _ _)<|bf (bo Z Z Z Z Z (WW O S Z Z)<|dI<|ba (cV _ _)<|ba (cV _ _) dJ) aU),?_⟩;refine di Z Z (WQ Z Z Z) (fun _=>Z) (IC hG hg T q O) (fun V O=>?_);refine⟨aU,?_⟩;refine Vu 4 Z<|aG Z (fun ab=>?_) (fun ab=>?_)
  ·refine V5 7 Z<|aK<|aA<|bL<|aK<|aA (?_);exact aB Z Z ⟨cJ (by symm;show ey (lg g) (gj g) 0=_;rw[he,cN<|eE d];show(bif lg g (eJ g i) then _ else _)=_;rw[show lg g (eJ g i)=true from by unfold lg;rw[show N (eJ g i).br 0=false from u,show iE (cX g<|eJ g i)=dB g i from Z,aa,a4];exact ab];rfl),(O.pop.pop).weaken z⟩
  refine aH<|aD<|V0 5 Z ?_;have O:=O.pop;have hlp:=bd w;have A:lg g (eJ g i)=false:=by unfold lg;rw[show N (eJ g i).br 0=false from u,show iE (cX g<|eJ g i)=dB g i from Z,aa,a4];exact ab
  refine aJ ⟨j3-1,by omega,oF,i+1,by omega,by rw[he,cN<|eE d];show(bif lg g (eJ g i) then _ else _)=_;rw[A];rfl,cI<|aX oM,O⟩
 refine UG 3 Z<|aR<|V5 6 Z ?_;exact aB Z Z ⟨cJ (by symm;show ey (lg g) (gj g) 0=_;rw[he,ff<|bJ w];rfl),(O.pop).weaken z⟩
variable {u0 ue uh ul us:U}
theorem Nq (R:Plain G) (hg:gG K g va vb vc vd) (hR:cG g) (x:Int) {u1 u2 u3 up:U} (hd:mR K g u0 u1 u2 u3 ue up ul us uh) (O:F V K L):
  EC G 112 [.int .i64 x,.agg [va,vb,vc,vd],.agg<|fz (H g) u0 u1 u2 u3 ue up ul us uh] V fun v V'=>(∃y1 y2:Int,v= .tuple [.agg [.int .i64 x,.int .i64 y1,.int .i64 y2],.bool<|eh g x])/\F V' K L:=by
 have hvl:=kI hR;refine VV R Tryz.func112 Z<|Vp 2 Z<|kb O (cd Z Z) (fun V b1 O=>?_);refine kb O (cd Z Z) (fun V b2 O=>?_);refine kb O (WU (cs:=[J,J,J])) (fun V b3 O=>?_);refine UJ 6 Z (I Z (WO (places:=[(0,1),(1,1),(2,1)]) (zero:=[J,J,J]) (cs:=[_,_,_]) Z) Z<|kb O (WU (cs:=[J,J,J])) (fun V b4 O=>?_));refine ks O (WY Z Z Z O.g0 Z) (fun V O=>?_);refine TX 15 Z<|aG Z (fun d=>?_) (fun d=>?_)
 ·refine ai Z<|I Z (W1 Z (O.get 3 Z) Z) Z<|kx (WQ Z Z Z) (Nr R hg hR O) (fun V O=>?_);refine I Z (WR 1 Z) Z<|ks O (S1 Z Z Z O.g0 (m:=1) Z Z (cells':=[_,_,_]) Z) (fun V O=>?_);refine af (aD (ad (ak (aP (l:=[(0,[]),(1,[]),(2,[]),(3,[]),(4,[2]),(5,[])]) Y Y<|aj Z Z (QT Z O.g0 (n:=3) (vs:=[_,_,_]) Z) Z<|Wb O 3 [1,0] Z Z<|kK O Z Z (WY Z Z Z O.g1 Z) Z (fun V O=>?_)))));refine⟨(bf (bo Z Z Z Z Z (WS Z O.g0 Z)<|eu _ _) aU),?_⟩;refine Vv 4 Z ?_;exact cq Z Z O.g1 (m:=3) Y Z Z ⟨⟨_,_,by rw[show eh g x=bC (cM (wy g) 0) from by unfold eh;rw[show N x 2=true from d];rfl];rfl⟩,O.pop.pop.pop.pop⟩
 refine Vp 4 Z<|Vr 2 Z<|aG Z (fun u=>?_) (fun u=>?_)
 ·refine V9 O 3 [8,2] Z Z<|I Z (W0 Z (O.get 2 Z) Z) Z<|kx (WQ Z Z Z) (C5 R (n:=H g) (A:=xg g) oM hd.Hi O) (fun V O=>?_);refine I Z (WR 1 Z) Z<|ks O (S1 Z Z Z O.g0 (m:=1) Z Z (cells':=[_,_,_]) Z) (fun V O=>?_);refine af (aD (ad (ak (aP (l:=[(0,[]),(1,[]),(2,[]),(3,[]),(4,[2]),(5,[])]) Y Y<|aj Z Z (QT Z O.g0 (n:=3) (vs:=[_,_,_]) Z) Z<|Wb O 3 [1,0] Z Z<|kK O Z Z (WY Z Z Z O.g1 Z) Z (fun V O=>?_)))));refine⟨(bf (bo Z Z Z Z Z (WS Z O.g0 Z)<|eu _ _) aU),?_⟩;refine Vv 4 Z ?_;exact cq Z Z O.g1 (m:=3) Y Z Z ⟨⟨_,_,by rw[show eh g x=bC (cM (jO (H g)<|xg g) 0) from by unfold eh;rw[show N x 2=false from d,show N x 3=true from u];rfl];rfl⟩,O.pop.pop.pop.pop⟩
 refine Vp 4 Z<|Vr 2 Z<|aG Z (fun w=>?_) (fun w=>?_)
 ·refine V9 O 3 [8,8] Z Z<|I Z (W0 Z (O.get 2 Z) Z) Z<|kx (WQ Z Z Z) (C5 R (n:=H g) (A:=vH g) oM hd.hb O) (fun V O=>?_);refine I Z (WR 1 Z) Z<|ks O (S1 Z Z Z O.g0 (m:=1) Z Z (cells':=[_,_,_]) Z) (fun V O=>?_);refine af (aD (ad (ak (aP (l:=[(0,[]),(1,[]),(2,[]),(3,[]),(4,[2]),(5,[])]) Y Y<|aj Z Z (QT Z O.g0 (n:=3) (vs:=[_,_,_]) Z) Z<|Wb O 3 [1,0] Z Z<|kK O Z Z (WY Z Z Z O.g1 Z) Z (fun V O=>?_)))));refine⟨(bf (bo Z Z Z Z Z (WS Z O.g0 Z)<|eu _ _) aU),?_⟩;refine Vv 4 Z ?_;exact cq Z Z O.g1 (m:=3) Y Z Z ⟨⟨_,_,by rw[show eh g x=bC (cM (jO (H g)<|vH g) 0) from by unfold eh;rw[show N x 2=false from d,show N x 3=false from u,show N x 4=true from w];rfl];rfl⟩,O.pop.pop.pop.pop⟩
 refine Vp 4 Z<|Vr 2 Z<|aG Z (fun E=>?_) (fun E=>?_)
 ·refine V9 O 3 [0,0] Z Z<|I Z (W0 Z (O.get 2 Z) Z) Z<|Wa O 2 [0,2] Z Z<|I Z (W0 Z (O.get 2 Z) Z) Z<|Wa O 2 [0,4] Z Z<|I Z (W0 Z (O.get 2 Z) Z) Z<|Wa O 2 [0,6] Z Z<|I Z (W0 Z (O.get 2 Z) Z) Z<|fg O Z (bR (e:=173) (m:=2) (z:=[J,.ax]) (cs:=[_,_,_,_,_,_,_,_]) Y Y Y Y<|a6 Z Z Z Z<|a6 Z Z Z Z<|a6 Z Z Z Z<|a6 Z Z Z Z bH) (fun _=>Z) (fun V b5 O=>?_);obtain⟨Ka,lea,mema,O⟩:=F.bF (M:=[_]) O;have hla:=Fi (n:=H g) (mema _<|mS_ ..) (hd.po.mono lea fun _ _ h=>h) (hd.rf.mono lea fun _ _ h=>h) (hd.co.mono lea fun _ _ h=>h) (hd.fr.mono lea fun _ _ h=>h);refine kw (WQ Z Z Z) (Hn R (n:=H g) oM hla (Nat.succ_pos _) O) ?_;rintro _ V ⟨oa,rfl,O⟩;obtain⟨Kb,leb,memb,O⟩:=F.bF (M:=[_]) O;have hoa:=dT (memb _<|mS_ ..) (bM (H g)<|Cc g) oM;have leA:=kR lea leb;refine kx (WQ Z Z Z) (C5 R (n:=H g) (A:=Cc g) oM hoa O) (fun V O=>?_);refine I Z (WR 1 Z) Z<|ks O (S1 Z Z Z O.g0 (m:=1) Z Z (cells':=[_,_,_]) Z) (fun V O=>?_);refine af (aD (ad (ak (aP (l:=[(0,[]),(1,[]),(2,[]),(3,[]),(4,[2]),(5,[])]) Y Y<|aj Z Z (QT Z O.g0 (n:=3) (vs:=[_,_,_]) Z) Z<|Wb O 3 [1,0] Z Z<|kK O Z Z (WY Z Z Z O.g1 Z) Z (fun V O=>?_)))));refine⟨(bf (bo Z Z Z Z Z (WS Z O.g0 Z)<|eu _ _) aU),?_⟩;refine Vv 4 Z ?_;exact cq Z Z O.g1 (m:=3) Y Z Z ⟨⟨_,_,by rw[show eh g x=bC (cM (jO (H g)<|Cc g) 0) from by unfold eh;rw[show N x 2=false from d,show N x 3=false from u,show N x 4=false from w,show N x 6=true from E];rfl];rfl⟩,(O.pop.pop.pop.pop).weaken leA⟩
 refine Vp 4 Z<|Vr 2 Z<|aG Z (fun S=>?_) (fun S=>?_)
 ·refine ak (aP (l:=[(0,[]),(1,[]),(2,[]),(3,[]),(4,[]),(5,[]),(6,[2]),(7,[]),(8,[]),(9,[])]) Y Y<|Wb O 2 [8,8] Z Z<|aj Z Z (W0 Z (O.get 2 Z) Z) Z<|Wb O 2 [8,0] Z Z<|aj Z Z (W0 Z (O.get 2 Z) Z) Z<|ez Z Z (WQ Z Z Z) (fun _=>Z) (SA R (n:=H g) (A:=qR g) oM hd.Q5 O) ?_);rintro _ V ⟨ot,rfl,O⟩;obtain⟨Ka,lea,mema,O⟩:=F.bF (M:=[_]) O;have hot:=dT (mema _<|mS_ ..) (bM (H g)<|l8<|qR g) oM;replace hd:=hd.mono lea;refine⟨(bf (bo Z Z Z Z Z (W0 Z (O.get 2 Z) Z)<|dI<|ba (cV _ _)<|ba hd.hb.dV dJ) aU),?_⟩;refine ez Z Z (WQ Z Z Z) (fun _=>Z) (Uc R (n:=H g) (A:=vH g) (B:=l8<|qR g) oM hd.hb hot O) ?_;rintro _ V ⟨Kb,oc,leb,rfl,O⟩;obtain⟨Kc,lec,memc,O⟩:=F.bF (M:=[_]) O;have hoc:=dT (memc _<|mS_ ..) (bM (H g)<|sO (vH g)<|l8<|qR g) oM;refine⟨aU,?_⟩;refine ez Z Z (WQ Z Z Z) (fun _=>Z) (Qj R (n:=H g) oM hoc O) ?_;rintro bt V ⟨a4,hM61,O⟩;obtain⟨Kd,led,memd,O⟩:=F.bF (M:=a4) O;have hps:=hM61.ib (K:=Kd) fun y hy=>memd _ hy
  have leA:=kR lea (kR leb<|kR lec led);refine⟨aU,?_⟩;refine Vu 8 Z (aL (bk ([10]++rg 62 29) (fun j t V=>∃(k:Nat),j+k=(jJ (H g)<|sO (vH g)<|l8<|qR g).length/\(jJ (H g)<|sO (vH g)<|l8<|qR g).any (fun p:Nat×Nat=>bC (N (.ofNat p.1) (.ofNat p.2)))=((jJ (H g)<|sO (vH g)<|l8<|qR g).drop k).any (fun p:Nat×Nat=>bC (N (.ofNat p.1) (.ofNat p.2)))/\t.get 10=some (nI k)/\F V Kd ((b4,.row [.int .i64 x,.int .i64 (-1),.int .i64 (-1)] 109 false)::(b3,.row [J,J,J] 109 false)::(b2,.row (fz (H g) u0 u1 u2 u3 ue up ul us uh) 179 false)::(b1,.row [va,vb,vc,vd] 27 false)::L)) ((jJ (H g)<|sO (vH g)<|l8<|qR g).length) ⟨0,Z,Z,Z,O⟩ ?_));clear O;intro a5 t V ar hI;obtain⟨k,a9,he,X,O⟩:=hI;obtain⟨oo,rfl⟩:=ar.q1 X Z;refine UD 5 Z<|I Z (WT hps Z Z Z (e:=252) Z) Z<|Vr 3 Z<|aG Z (fun Q=>?_) (fun Q=>?_)
  ·refine S9 5 Z<|aP (l:=zp [0,1,2,3,4,5,6,7,8,9,10]) Y Y ?_;obtain⟨⟨pa,pb⟩,C,_⟩:=dH Q;refine V8 2 Z<|WK (e:=252) (m:=2) hps C Z Z Z Z Z (fun bv bb aa be ab=>?_);obtain rfl:=ab;refine ss aa Z Z Z Z (nn:=2) (e:=3) (m:=1) (j:=0) Z Y Y (by decide) (lb Z) (fun _=>Z) (fun bw ac=>?_);refine aj Z Z (WV O ac Z Z) Z<|V8 2 Z<|WK (e:=252) (m:=2) hps C Z Z Z Z Z (fun bI bi am bj ao=>?_);obtain rfl:=ao;refine ss am Z Z Z Z (nn:=2) (e:=3) (m:=1) (j:=1) Z Y Y (by decide) (lb Z) (fun _=>Z) (fun b0 ap=>?_);refine aj Z Z (WV O ap Z Z) Z<|Vu 3 Z<|aG Z (fun W=>?_) (fun W=>?_)
   ·refine ak (aP (l:=[(0,[]),(1,[]),(2,[]),(3,[]),(4,[]),(5,[]),(6,[]),(7,[]),(8,[]),(9,[]),(10,[]),(11,[9]),(12,[]),(13,[])]) Y Y<|V8 2 Z<|WK (e:=252) (m:=2) hps C Z Z Z Z Z (fun b6 bm aq bq a0=>?_));obtain rfl:=a0;refine ss aq Z Z Z Z (nn:=2) (e:=3) (m:=1) (j:=0) Z Y Y (by decide) (lb Z) (fun _=>Z) (fun b7 a1=>?_);refine aj Z Z (WV O a1 Z Z) Z<|V8 2 Z<|WK (e:=252) (m:=2) hps C Z Z Z Z Z (fun b8 br a2 bs a3=>?_);obtain rfl:=a3;refine ss a2 Z Z Z Z (nn:=2) (e:=3) (m:=1) (j:=1) Z Y Y (by decide) (lb Z) (fun _=>Z) (fun b9 T=>?_);refine aj Z Z (WV O T Z Z) Z<|aj Z Z (WR 1 Z) Z<|gD O Z Z (S1 Z Z Z O.g0 (m:=1) Z Z (cells':=[_,_,_]) Z) Z (fun V O=>?_);refine⟨(bf (bo Z Z Z Z Z (WV O T Z Z)<|eu _ _) aU),?_⟩;refine aj Z Z (WR 2 Z) Z<|gD O Z Z (S1 Z Z Z O.g0 (m:=1) Z Z (cells':=[_,_,_]) Z) Z (fun V O=>?_);refine⟨aU,?_⟩;refine Vu 2 Z (bn (iT Z (aV (aY (aR (aD (ad (ak (aP (l:=[(0,[]),(1,[]),(2,[]),(3,[]),(4,[2]),(5,[])]) Y Y<|aj Z Z (QT Z O.g0 (n:=3) (vs:=[_,_,_]) Z) Z<|Wb O 3 [1,0] Z Z<|kK O Z Z (WY Z Z Z O.g1 Z) Z (fun V O=>?_))))))))));refine⟨(bf (bo Z Z Z Z Z (WS Z O.g0 Z)<|eu _ _) aU),?_⟩;refine Vv 4 Z ?_;exact cq Z Z O.g1 (m:=3) Y Z Z ⟨⟨_,_,by rw[show eh g x=true from by unfold eh;rw[show N x 2=false from d,show N x 3=false from u,show N x 4=false from w,show N x 6=false from E,show N x 5=true from S];show((jJ (H g)<|sO (vH g)<|l8<|qR g).any (fun p:Nat×Nat=>bC (N (.ofNat p.1) (.ofNat p.2))))=true;rw[he,cN C,any_cons];show(bC (N (.ofNat pa) (.ofNat pb)) || _)=true;rw[show bC (N (.ofNat pa) (.ofNat pb))=true from W];rfl];rfl⟩,(O.pop.pop.pop.pop).weaken leA⟩
   refine aH<|aD<|V0 5 Z ?_;have hlp:=bd Q;refine aJ ⟨a5-1,by have:=bd Q;omega,oF,k+1,by omega,by rw[he,cN C,any_cons];show(bC (N (.ofNat pa) (.ofNat pb)) || _)=_;rw[show bC (N (.ofNat pa) (.ofNat pb))=false from W];rfl,cI<|aX (by have:=hps.cE;omega),O⟩
  refine UG 3 Z (aR (aD (ad (ak (aP (l:=[(0,[]),(1,[]),(2,[]),(3,[]),(4,[2]),(5,[])]) Y Y<|aj Z Z (QT Z O.g0 (n:=3) (vs:=[_,_,_]) Z) Z<|Wb O 3 [1,0] Z Z<|kK O Z Z (WY Z Z Z O.g1 Z) Z (fun V O=>?_))))));refine⟨(bf (bo Z Z Z Z Z (WS Z O.g0 Z)<|eu _ _) aU),?_⟩;refine Vv 4 Z ?_;exact cq Z Z O.g1 (m:=3) Y Z Z ⟨⟨_,_,by rw[show eh g x=false from by unfold eh;rw[show N x 2=false from d,show N x 3=false from u,show N x 4=false from w,show N x 6=false from E,show N x 5=true from S];show((jJ (H g)<|sO (vH g)<|l8<|qR g).any (fun p:Nat×Nat=>bC (N (.ofNat p.1) (.ofNat p.2))))=false;rw[he,ff<|bJ Q];rfl];rfl⟩,(O.pop.pop.pop.pop).weaken leA⟩
 refine aH (aD (ad (ak (aP (l:=[(0,[]),(1,[]),(2,[]),(3,[]),(4,[2]),(5,[])]) Y Y<|aj Z Z (QT Z O.g0 (n:=3) (vs:=[_,_,_]) Z) Z<|Wb O 3 [1,0] Z Z<|kK O Z Z (WY Z Z Z O.g1 Z) Z (fun V O=>?_)))));refine⟨(bf (bo Z Z Z Z Z (WS Z O.g0 Z)<|eu _ _) aU),?_⟩;refine Vv 4 Z ?_;exact cq Z Z O.g1 (m:=3) Y Z Z ⟨⟨_,_,by rw[show eh g x=false from by unfold eh;rw[show N x 2=false from d,show N x 3=false from u,show N x 4=false from w,show N x 6=false from E,show N x 5=false from S];rfl];rfl⟩,O.pop.pop.pop.pop⟩
theorem Ue (S:Plain G) (hg:gG K g va vb vc vd) (m:Int) (O:F V K L):
  EC G 62 [.int .i64 m,.agg [va,vb,vc,vd]] V fun v V'=>(∃y0 y1 y2:Int,v= .tuple [.agg [.int .i64 y0,.int .i64 y1,.int .i64 y2],.bool<|iG m g])/\F V' K L:=by
 refine VV S Tryz.func62 Z<|Vp 2 Z<|kb O (cd Z Z) (fun V b1 O=>?_);refine kb O (WU (cs:=[J,J,J])) (fun V b2 O=>?_);refine UJ 6 Z<|kw (WQ Z Z Z) (ID S m O) ?_;rintro am V ⟨K1,d,hrl,O⟩;replace hg:=hg.mono d;refine TY 7 Z<|I Z (WT hrl Z Z Z (e:=3) Z) Z<|Vr 3 Z<|aG Z (fun w=>?_) (fun w=>?_)
 ·refine Vp 2 Z (I Z (WO (places:=[(0,1),(1,1),(2,1)]) (zero:=[J,J,J]) (cs:=[_,_,_]) Z) Z<|ks O (WY Z Z Z O.g0 Z) (fun V O=>?_));refine UL 5 Z ?_;exact cq Z Z O.g0 (m:=3) Y Z Z ⟨⟨_,_,_,by rw[show iG m g=false from by unfold iG;rw[show N (.ofNat (eL m).length) 0=true from w]<;>rfl]<;>rfl⟩,(O.pop.pop).weaken d⟩
 refine UF 4 Z<|I Z (W1 Z O.g1 Z) Z<|kw (WQ Z Z Z) (Ub S hg O) ?_;rintro _ V (⟨T,rfl,O⟩ | ⟨W,K2,u0,u1,u2,u3,ue,up,ul,us,uh,rfl,u,C,O⟩)
 ·refine V7 3 Z<|kb O (WU (cs:=[J,.ax,J,.ax,J,.ax,J,.ax,J,.ax,J,.ax,J,.ax,J,.ax,J,.ax])) (fun V b3 O=>?_);refine ks O (S1 Z Z Z O.g0 (m:=18) Z Z (cells':=[_,_,_,_,_,_,_,_,_,_,_,_,_,_,_,_,_,_]) Z) (fun V O=>?_);refine UI 10 Z<|aG Z (fun z=>?_) (fun z=>?_)
  ·refine Vp 2 Z (I Z (WO (places:=[(0,1),(1,1),(2,1)]) (zero:=[J,J,J]) (cs:=[_,_,_]) Z) Z<|eZ O Z (WY Z Z Z O.g1 Z) Z (fun V O=>?_));refine UL 5 Z ?_;exact cq Z Z O.g1 (m:=3) Y Z Z ⟨⟨_,_,_,by rw[show iG m g=true from by unfold iG;rw[show N (.ofNat (eL m).length) 0=false from w,T]<;>rfl]<;>rfl⟩,(O.pop.pop.pop).weaken d⟩
  exact absurd z (by decide)
 replace hg:=hg.mono u;replace hrl:=hrl.mono u (fun _ _ h=>h);refine V7 3 Z<|kb O (WU (cs:=[J,.ax,J,.ax,J,.ax,J,.ax,J,.ax,J,.ax,J,.ax,J,.ax,J,.ax])) (fun V b3 O=>?_);refine bu O Z (S1 Z Z Z O.g0 (m:=18) Z (ah Z<|ah C.po.leaf.2<|ah Z<|ah C.rf.leaf.2<|ah Z<|ah C.co.leaf.2<|ah Z<|ah C.fr.leaf.2<|ah Z<|ah C.Q5.leaf.2<|ah Z<|ah C.Hi.leaf.2<|ah Z<|ah C.loc.leaf.2<|ah Z<|ah C.sw.leaf.2<|ah Z<|ah C.hb.leaf.2 az) (cells':=[_,_,_,_,_,_,_,_,_,_,_,_,_,_,_,_,_,_]) Z) Z (fun V O=>?_);refine UI 10 Z<|aG Z (fun z=>?_) (fun z=>?_)
 ·exact absurd z (by decide)
 refine TV 9 Z (bk ([5,9,10,11]++rg 26 18) (fun j t V=>∃(k:Nat),j+k=(eL m).length/\(eL m).any (eh g)=((eL m).drop k).any (eh g)/\t.get 9=some (nI k)/\F V K2 ((b3,.row (fz (H g) u0 u1 u2 u3 ue up ul us uh) 179 false)::(b2,.row [J,J,J] 109 false)::(b1,.row [va,vb,vc,vd] 27 false)::L)) ((eL m).length) ⟨0,Z,Z,Z,O⟩ ?_);clear O;intro j8 t V ar hI;obtain⟨k,ao,he,X,O⟩:=hI;obtain⟨oo,rfl⟩:=ar.q1 X Z;refine UD 5 Z<|I Z (WT hrl Z Z Z (e:=3) Z) Z<|Vr 3 Z<|aG Z (fun A=>?_) (fun A=>?_)
 ·refine S9 5 Z (aP (l:=[(0,[]),(1,[]),(2,[]),(3,[]),(4,[]),(5,[]),(10,[]),(6,[10]),(7,[]),(8,[]),(9,[]),(11,[]),(12,[])]) Y Y<|V8 2 Z ?_);obtain⟨E,B,aa⟩:=dH A;refine WK (e:=3) (m:=1) hrl B Z Z Z Z Z (fun ap ab Q ac R=>?_);obtain rfl:=R;refine aj Z Z (WV O Q Z Z) Z<|aj Z Z (W1 Z (O.get 2 Z) Z) Z<|aj Z Z (QT Z O.g0 (n:=18) (vs:=[_,_,_,_,_,_,_,_,_,_,_,_,_,_,_,_,_,_]) Z) Z<|mq O Z Z (WU (cs:=[J,J,J])) (fun _=>Z) (fun V b4 O=>?_);refine ez Z Z (WQ Z Z Z) (fun _=>Z) (Nq S hg W E C O) ?_;rintro _ V ⟨⟨y1,y2,rfl⟩,O⟩;refine⟨(bf (kh Z Z Z Z Z (cs:=[J,J,J]) (e:=109) Y O.g0 Y) aU),?_⟩;refine V8 3 Z<|gD O Z Z (WY Z Z Z O.g0 Z) Z (fun V O=>?_);refine⟨aU,?_⟩;refine Vu 8 Z<|aG Z (fun M=>?_) (fun M=>?_)
  ·refine Vp 2 Z<|I Z (QT Z O.g0 (n:=3) (vs:=[_,_,_]) Z) Z<|hJ O Z (WY Z Z Z (O.get 2 Z) Z) Z (fun V O=>?_);refine Vt 4 Z<|aK<|aA<|bL<|aK<|aA (?_);exact cq Z Z (O.get 2 Z) (m:=3) Y Z Z ⟨⟨_,_,_,by rw[show iG m g=true from by unfold iG;rw[show N (.ofNat (eL m).length) 0=false from w,cP.2 W];show(eL m).any (eh g)=_;rw[he,cN B,any_cons,show eh g E=true from M];rfl]<;>rfl⟩,(O.pop.pop.pop.pop).weaken<|kR d u⟩
  refine aH<|aD<|V0 5 Z ?_;have O:=O.pop;have hlp:=bd A;refine aJ ⟨j8-1,by have:=bd A;omega,oF,k+1,by omega,by rw[he,cN B,any_cons,show eh g E=false from M];rfl,cI<|aX (by have:=hrl.cE;omega),O⟩
 refine UG 3 Z (aR (Vp 2 Z (I Z (WO (places:=[(0,1),(1,1),(2,1)]) (zero:=[J,J,J]) (cs:=[_,_,_]) Z) Z<|eZ O Z (WY Z Z Z O.g1 Z) Z (fun V O=>?_))));refine Vt 4 Z ?_;exact cq Z Z O.g1 (m:=3) Y Z Z ⟨⟨_,_,_,by rw[show iG m g=false from by unfold iG;rw[show N (.ofNat (eL m).length) 0=false from w,cP.2 W];show(eL m).any (eh g)=_;rw[he,ff<|bJ A];rfl]<;>rfl⟩,(O.pop.pop.pop).weaken<|kR d u⟩
theorem J8 (w:Plain G) (hg:gG K g va vb vc vd) (m:Int) (O:F V K L):
  Ca G K L 19 [.int .i64 m,.agg [va,vb,vc,vd]] V <| .tuple [.bool<|qt m g,.int .i64<|AP m]:=by
 refine VV w Tryz.func19 Z<|Vp 2 Z<|kb O (cd Z Z) (fun V b1 O=>?_);refine TY 8 Z<|kw (WQ Z Z Z) (ID w m O) ?_;rintro aa V ⟨K1,d,z,O⟩;replace hg:=hg.mono d;refine I Z (WT z Z Z Z (e:=3) Z) Z<|Vr 3 Z<|aG Z (fun u=>?_) (fun u=>?_)
 ·refine Vq 8 Z ?_;exact dh Z Z Z ⟨by unfold qt AP;rw[show N (.ofNat (eL m).length) 0=true from u]<;>rfl,(O.pop).weaken d⟩
 refine UF 5 Z<|I Z (W1 Z O.g0 Z) Z<|kw (WQ Z Z Z) (Ue w hg m O) ?_;rintro _ V ⟨⟨y0,y1,y2,rfl⟩,O⟩;refine V7 3 Z<|kb O (WU (cs:=[J,J,J])) (fun V b2 O=>?_);refine ks O (WY Z Z Z O.g0 Z) (fun V O=>?_);refine UJ 6 Z<|I Z (df Z) Z<|Vt 5 Z ?_;exact dh Z Z Z ⟨by unfold qt AP;rw[show N (.ofNat (eL m).length) 0=false from u]<;>rfl,(O.pop.pop).weaken d⟩
variable {vi:U}
theorem Nl (k:Int) (n:Nat):0-Int.ofNat (n+1)<k.tmod (.ofNat (n+1))/\k.tmod (.ofNat (n+1))< .ofNat (n+1):=by
 have h:(0:Int)< .ofNat (n+1):=by simp only[Int.ofNat_eq_natCast];omega
 have h1:=Int.tmod_lt_of_pos k h;have h2:=Int.lt_tmod_of_pos k h;omega
theorem Sl (u:Plain G) (k:Int) (n:Nat) (hn:n<=1000) (O:F V K L):
  EC G 18 [.int .i64 k,nI (n+1)] V fun v V'=>∃j:Nat,v=nI j/\j<=n/\F V' K L:=by
 have hr:=Nl k n;refine VV u Tryz.func18 Z (Vp 9 Z (I Z (ay (v:=.int .i64<|k.tmod (.ofNat (n+1))) Z Z Z) Z<|UI 10 Z<|aG Z (fun d=>?_) (fun d=>?_)))
 ·refine Vq 14 Z ?_;have h0:=of_decide_eq_true ((eU _ _).symm.trans d);obtain⟨q,hq⟩:=Int.eq_ofNat_of_zero_le (show 0<=k.tmod (.ofNat (n+1))+ .ofNat (n+1) from by omega);exact aB Z Z ⟨q,cJ (by show wr .i64 (k.tmod (.ofNat (n+1))+ .ofNat (n+1))=_;rw[hq];exact QQ (a:=q) (b:=0) (by simp only[Int.ofNat_eq_natCast] at hr hq h0;omega)),by simp only[Int.ofNat_eq_natCast] at hr hq h0;omega,O⟩
 refine Vq 9 Z ?_;have h0:=of_decide_eq_false ((eU _ _).symm.trans d);obtain⟨q,hq⟩:=Int.eq_ofNat_of_zero_le (show 0<=k.tmod (.ofNat (n+1)) from by omega);exact aB Z Z ⟨q,cJ hq,by simp only[Int.ofNat_eq_natCast] at hr hq h0;omega,O⟩
theorem MW (d:Plain G) {t:Nat} (ht:4<t) (O:F V K L):
  Ca G K L 56 [vi,nI t] V <| .tuple [.agg [.ax,.ax,.ax,.ax],.int .i64 3]:=by
 refine VV d Tryz.func56 Z<|Vp 2 Z<|kb O (WU (cs:=[.ax,.ax,.ax,.ax])) (fun V b1 O=>?_);refine TY 7 Z (I Z (ay (v:=.bool true) Z Z<|congrArg (fun b=>some (U.bool b)) (show cM 4 (.ofNat t)=true from by rw[show(4:Int)= .ofNat 4 from Z,gP];simp;omega)) Z (UJ 10 Z (I Z (WO (places:=[(0,1),(1,1),(2,1),(3,1)]) (zero:=[.ax,.ax,.ax,.ax]) (cs:=[_,_,_,_]) Z) Z<|ks O (S1 Z Z Z O.g0 (m:=4) Z Z (cells':=[_,_,_,_]) Z) (fun V O=>?_))));refine UL 5 Z ?_;exact cq Z Z O.g0 (m:=4) Y Z Z ⟨Z,O.pop⟩
def LX (init:List Int) (t:Nat):XS:=⟨TH init t,[],0⟩
theorem PL (C:Plain G) {init:List Int} (hi:bS K 1 g9 init vi) (B:init.length<=6) {t:Nat} (E:t<=4) (O:F V K L):
  EC G 13 [vi,nI t] V fun v V'=>∃w va vb vc vd mv,KP.le K w/\v= .tuple [.agg [va,vb,vc,vd,mv,J],J]/\gW w (LX init t) va vb vc vd mv/\F V' w L:=by
 refine VV C Tryz.func13 Z<|Vp 2 Z<|kb O (WU (cs:=[.ax,.ax,.ax,.ax,.ax,J])) (fun V b1 O=>?_);refine UJ 7 Z<|kw (WQ Z Z Z) (Us C hi B E O) ?_;rintro _ V ⟨w,a,b,c,d,rfl,z,u,O⟩;refine V7 3 Z<|kb O (WU (cs:=[.ax,.ax,.ax,.ax])) (fun V b2 O=>?_);refine bu O Z (S1 Z Z Z O.g0 (m:=4) Z (ah u.init.leaf.2<|ah u.threads.leaf.2<|ah u.from_.leaf.2<|ah u.order.leaf.2 az) (cells':=[_,_,_,_]) Z) Z (fun V O=>?_);refine UI 10 Z<|aG Z (fun A=>?_) (fun A=>?_)
 ·exact Bool.noConfusion (show false=true from A)
 refine UF 4 Z (I Z (W1 Z O.g0 Z) Z (I Z (WO (places:=[(0,4),(4,1),(5,1)]) (zero:=[.ax,.ax,.ax,.ax,.ax,J]) (cs:=[_,_,_,_,_,_]) Z) Z<|eZ O Z (S1 Z Z Z O.g1 (m:=6) Z (ah u.init.leaf.2<|ah u.threads.leaf.2<|ah u.from_.leaf.2<|ah u.order.leaf.2 Z) (cells':=[_,_,_,_,_,_]) Z) Z (fun V O=>?_)));refine Vt 4 Z ?_;exact cq Z Z O.g1 (m:=6) Y Z Z ⟨w,a,b,c,d,.ax,z,Z,⟨u,.inl ⟨Z,Z⟩⟩,O.pop.pop⟩
theorem G3 (u:Plain G) {t:Nat} (w:4<t) (O:F V K L):
  Ca G K L 13 [vi,nI t] V <| .tuple [.agg [.ax,.ax,.ax,.ax,.ax,J],.int .i64 3]:=by
 refine VV u Tryz.func13 Z<|Vp 2 Z<|kb O (WU (cs:=[.ax,.ax,.ax,.ax,.ax,J])) (fun V b1 O=>?_);refine UJ 7 Z<|kx (WQ Z Z Z) (MW u w O) (fun V O=>?_);refine V7 3 Z<|kb O (WU (cs:=[.ax,.ax,.ax,.ax])) (fun V b2 O=>?_);refine ks O (S1 Z Z Z O.g0 (m:=4) Z Z (cells':=[_,_,_,_]) Z) (fun V O=>?_);refine UI 10 Z<|aG Z (fun d=>?_) (fun d=>?_)
 ·refine Vp 2 Z (I Z (WO (places:=[(0,4),(4,1),(5,1)]) (zero:=[.ax,.ax,.ax,.ax,.ax,J]) (cs:=[_,_,_,_,_,_]) Z) Z<|vQ 1 Z<|eZ O Z (S1 Z Z Z O.g1 (m:=6) Z Z (cells':=[_,_,_,_,_,_]) Z) Z (fun V O=>?_));refine UL 5 Z ?_;exact cq Z Z O.g1 (m:=6) Y Z Z ⟨Z,O.pop.pop⟩
 exact Bool.noConfusion (show true=false from d)
variable {j:Nat}
section
variable {g:XG}
theorem Tc.Ns {n:Nat} {R:Rn} {i:Nat} (h0:∀i j,i<n->j<n->R i j=true->False) (h:kW n R i j=true):False:=by
 exact absurd (Tc.Fb (f:=fun _=>0) (fun i j a b c=>(h0 i j a b c).elim)<|kP.1 h)<|Nat.lt_irrefl _
theorem pD {i:Nat} (hz:∀(t:Nat) (row:List cz),g.threads[t]? =some row->row= []) (hi:i<H g):∃x v,eJ g i=⟨0,.ofNat x⟩/\dB g i=⟨2,.ofNat x,1,0,v⟩:=by
 grind [fp]
theorem Ku {m:Int} (hm:m=1∨m=2) (S:cG g) (d:∀(t:Nat) (row:List cz),g.threads[t]? =some row->row= []):iG m g=false:=by
 have T:N (cY g) 0=true:=by rw[cP.2 S];rfl
 have u:∀i j,i<H g->j<H g->jk g i j=true->False:=fun i j hi hj h=>by
  obtain⟨x,v,h1,_⟩:=pD d hi;obtain⟨y,w,E,_⟩:=pD d hj;unfold jk at h;rw[h1,E] at h;cases h
 have G:∀i,i<H g->cC (dB g i)=false:=fun i hi=>by
  obtain⟨x,v,_,h1⟩:=pD d hi;rw[h1];rfl
 have K:∀i j,i<H g->j<H g->qz g i j=true->False:=fun i j hi hj h=>by
  unfold qz eH at h;rw[G j hj] at h;cases h
 have aa:∀i j,i<H g->j<H g->nE g i j=true->False:=fun i j hi hj h=>by
  obtain⟨x,v,h1,e1⟩:=pD d hi;obtain⟨y,w,E,e2⟩:=pD d hj;unfold nE dR at h;rw[h1,E] at h;revert h;cases bl (dB g i)<;>cases bl (dB g j)<;>cases N (dB g i).loc (dB g j).loc<;>intro h<;>cases h
 have ab:∀i j,i<H g->j<H g->pW g i j=true->False:=fun i j hi hj h=>by
  grind [pW]
 have L:∀i j,sU g i j=true->False:=fun i j h=>by
  grind [vx,gX]
 have z:∀{A B:Rn},(∀i j,i<H g->j<H g->A i j=true->False)->(∀i j,i<H g->j<H g->B i j=true->False)->∀i j,i<H g->j<H g->iY [A,B] i j=true->False:=fun {A B} ha hb i j hi hj h=>by
  have h:(A i j || (B i j || false))=true:=h
  simp_all
 have none:∀{R:Rn},(∀i j,i<H g->j<H g->R i j=true->False)->cM (jO (H g) R) 0=true:=fun {R} hr=>by
  grind [jO,kG,Tc.Ns]
 have M:∀i j,vH g i j=true->False:=fun i j h=>Tc.Ns (z u fun i j _ _ h=>L i j h) h
 have C:∀i j,i<H g->j<H g->Cc g i j=true->False:=fun i j hi hj h=>by
  have h:(jk g i j || (qz g i j || (nE g i j || (pW g i j || false))))=true:=h
  simp_all
 have b1:eh g 1=false:=rfl
 have b2:eh g 2=false:=by
  show bC (cM (wy g) 0)=false;unfold wy;rw[kG];cases hb:(gj g).any (lg g) with
  | false=>rfl
  | true=>
   obtain⟨id,hm,hb⟩:=List.any_eq_true.1 hb;obtain⟨i,hi⟩:=gO_ hm;have Q:i<H g:=(gA.1 hi).1;obtain⟨x,v,h1,_⟩:=pD d Q;have:eJ g i=id:=by unfold eJ;rw[hi];rfl
   unfold lg at hb;rw[<-this,h1] at hb;cases hb
 have b3:eh g 3=false:=by show bC (cM (jO (H g)<|xg g) 0)=false;rw[none (R:=xg g) fun i j _ _ h=>Tc.Ns (z u K) h];rfl
 have b4:eh g 4=false:=by show bC (cM (jO (H g)<|vH g) 0)=false;rw[none (R:=vH g) fun i j _ _ h=>M i j h];rfl
 have b5:eh g 5=false:=by
  show yl g=false;cases hb:yl g with
  | false=>rfl
  | true=>
   obtain⟨⟨i,j⟩,hm,_⟩:=List.any_eq_true.1 hb;obtain⟨_,_,hr⟩:=jZ.1 hm;unfold sO at hr
   simp_all
 have b6:eh g 6=false:=by show bC (cM (jO (H g)<|Cc g) 0)=false;rw[none C];rfl
 unfold iG;rw[T];rcases hm with rfl | rfl
 ·show [1,2,6].any (eh g)=false
  simp_all
 show [1,2,3,4,5].any (eh g)=false
 simp_all
end
variable {q:Nat} {lv pv:U}
theorem Lu {m:Int} (hm:m=1∨m=2) (h:iG m g=false):qt m g=true:=by unfold qt;rw[py hm,h];rfl
theorem LD {k:Nat} {l:List XC} {s:XS} (h:Ah k l s) (h0:N (.ofNat (dc k l s).br) 0=true):((lX k l s.g).getD []).length=l.length:=by
 have hh:s.half=0:=by
  rcases qj h with ⟨tm,c,row,u,_,_,_,_,h5⟩ | ⟨h1,_⟩ | ⟨tm,c,row,h1,_⟩
  ·rw[h5] at h0;cases h0
  ·exact h1
  exact h1
 have hf:lX k l s.g=some ((l.zip s.g.threads).map<|LR k):=by
  unfold lX;rw[cP.2 h.right,h.len,show N (0:Int) 0=true from Z,dt];exact vZ h.len.symm fun i c r h1 d=>by have:=h.fits i c r h1 d;rwa[nb hh] at this
 rw[hf];show((l.zip s.g.threads).map<|LR k).length=_;rw[lM_,List.length_zip,h.len,Nat.min_self]
theorem L2 {k:Nat} {l:List XC} {s:XS} {m:Int} (hm:m=1∨m=2) (h:Ah k l s) (hw:iG m s.g=false) (h0:N (.ofNat (dc k l s).br) 0=false) (hh:(dc k l s).half=false) (d:uT s (dc k l s)=false) (w:cM (dc k l s).ask.loc (.ofNat s.g.init.length)=true) (z:cM (dc k l s).event.loc (.ofNat s.g.init.length)=true):N (.ofNat (yS m s<|dc k l s).length) 0=false:=by
 rcases qj h with ⟨tm,c,row,u,_,_,_,_,h5⟩ | ⟨_,h1⟩ | ⟨tm,c,row,a0,a1,C,M,Q,E⟩
 ·rw[h5] at hh;cases hh
 ·rw[h1] at h0;cases h0
 have hlen:row.length<14:=by
  unfold uT hY at d;rw[E] at d;have d:bC (cM (.ofNat ((s.g.threads[tm]?).getD []).length) 14)=false:=d;rw[C] at d;exact bd<|bT d
 rw[E] at w z⊢;obtain⟨x,hx,B⟩:=Jp h hw C M Q hlen w z;have A:x∈yS m s ⟨tm+1,false,(cm k c row).1.event,(cm k c row).1.ask⟩:=List.mem_filter.2 ⟨hx,B⟩;have:=List.length_pos_of_mem A;rw[show(0:Int)= .ofNat 0 from Z,dY];exact decide_eq_false oM
theorem Pl {k:Nat} {l:List XC} {s:XS} {m:Int} (h:Ah k l s) (hq:(yS m s<|dc k l s).length=q+1):q<=1000:=by
 have h1:=D0 h;have h2:(yS m s<|dc k l s).length<=(jr s<|dc k l s).length:=List.length_filter_le _ _;omega
theorem Dn (C:Plain G) (cb:G.fk 146=true) (cc:G.ov 223=true) (bj:G.KT 7 []=some (.bool true)) (am:∀V L,F V K L->oD G.gl V G.laid=true) (hgl:pJ G K) {k:Nat} (m:Int) {init:List Int} (hi:bS K 1 g9 init vi) {l:List XC} (hl:bS K 2 (pK K k) l lv) {ps:List Int} (hp:bS K 1 g9 ps pv) (O:F V K L):
  EC G 4 [.int .i64 m,vi,lv,pv] V fun v V'=>v= .bool true:=by
 refine VV C Tryz.func4 Z<|UD 8 Z ?_;have hleA:=KP.le_refl K;refine kx (WQ Z Z Z) (LI (v:=.bool true) (C.h1 _ _ _) bj Z Z (am _ _ O) ⟨Z,O⟩) (fun V O=>?_);refine I Z (df Z) Z<|Vr 3 Z<|UE 3 Z ?_;obtain⟨LC3,O,hLC3⟩:=O.named;refine nU (rg 21 21) (fun t V=>∃(q:Bool),(q=false->uR k 60 l=true/\init.length<=6/\(m=1∨m=2)/\ps.length<=60)/\t.get 41=some (.bool q)/\F V K LC3) ?_ ?_
 ·subst hLC3;refine V4 2 Z<|kx (WQ Z Z Z) (Dq C O hl _) (fun V O=>?_);refine I Z (df Z) Z<|ky Z (al Z) (fun ao=>?_) (fun ao=>?_)
  ·refine V6 18 Z ?_;exact⟨Z,oF,_,fun h=>(by cases h),Z,O⟩
  refine vQ 1 Z<|I Z (WT hi Z Z Z (e:=2) Z) Z<|V7 2 Z<|ky Z (al Z) (fun ap=>?_) (fun ap=>?_)
  ·refine V6 13 Z ?_;exact⟨Z,oF,_,fun h=>(by cases h),Z,O⟩
  refine V7 2 Z<|ky Z (al Z) (fun bm=>?_) (fun bm=>?_)
  ·refine V7 4 Z<|ky Z (al Z) (fun bq=>?_) (fun bq=>?_)
   ·refine V6 5 Z ?_;exact⟨Z,oF,_,fun h=>(by cases h),Z,O⟩
   refine vQ 1 Z<|I Z (WT hp Z Z Z (e:=3) Z) Z<|V6 3 Z ?_;exact⟨Z,oF,_,fun h=>⟨ft ao,bJ ap,.inr<|tM<|bT bq,bJ h⟩,Z,O⟩
  refine V7 6 Z<|I Z (WT hp Z Z Z (e:=3) Z) Z<|V6 3 Z ?_;exact⟨Z,oF,_,fun h=>⟨ft ao,bJ ap,.inl<|tM<|bT bm,bJ h⟩,Z,O⟩
 clear O;intro t V ar hI;obtain⟨q3,ce,bs,O⟩:=hI;subst hLC3;obtain⟨oo,rfl⟩:=ar.q1 bs Z;refine aG Z (fun bt=>?_) (fun bt=>?_)
 ·refine Vq 7 Z ?_;exact aB Z Z Z
 refine UF 6 Z<|I Z (WT hl Z Z Z (e:=88) Z) Z ?_;obtain⟨c7,ch,hm,c1⟩:=ce bt
 by_cases ci:l.length<=4
 ·refine kw (WQ Z Z Z) (PL C hi ch ci O) ?_;rintro _ V ⟨K0,va,vb,vc,vd,mv,E,rfl,hs,O⟩;replace hl:=hl.mono E fun _ _ h=>h.mono E;replace hgl:=hgl.mono E;replace hi:=hi.mono E fun _ _ h=>h;replace hp:=hp.mono E fun _ _ h=>h;replace hleA:=kR hleA E
  refine V7 3 Z<|kb O (WU (cs:=[.ax,.ax,.ax,.ax,.ax,J])) (fun V b1 O=>?_);refine ks O (S1 Z Z Z O.g0 (m:=6) Z hs.qu (cells':=[_,_,_,_,_,_]) Z) (fun V O=>?_);refine TY 8 Z<|ky Z (al Z) (fun M=>?_) (fun M=>?_)
  ·exact absurd M (by first | decide | (rw[d];decide) | (rw[z];decide))
  refine vQ 1 Z<|I Z (W3 Z O.g0 Z) Z<|kx (WQ Z Z Z) (vg C hgl hl hs O) (fun V O=>?_);refine I Z (df Z) Z<|Vr 3 Z<|aG Z (fun bv=>?_) (fun bv=>?_)
  ·refine Vq 7 Z ?_;exact aB Z Z Z
  refine TV 9 Z ?_;have hof0:=uV.1 (ft bv);refine bk ([8]++rg 11 8++rg 57 100) (fun j t V=>∃(i:Nat) (s:XS) (K1:KP) (va vb vc vd mv:U),j+i=ps.length/\KP.le K0 K1/\gW K1 s va vb vc vd mv/\Ah k l s/\iG m s.g=false/\s.g.init=init/\t.get 11=some (nI i)/\F V K1 ((b1,.row [va,vb,vc,vd,mv,.int .i64 s.half] 30 false)::L)) (ps.length) ⟨0,LX init l.length,K0,va,vb,vc,vd,mv,Z,KP.le_refl K0,hs,hof0,Ku hm hof0.right (fun t row h=>eR_ (gB_ h)),Z,Z,O⟩ ?_;clear O;intro j9 t V ar hI;obtain⟨i,s,K1,va,vb,vc,vd,mv,c8,u,hs,A,bw,aq,bI,O⟩:=hI;obtain⟨oo,rfl⟩:=ar.q1 bI Z;replace hl:=hl.mono u fun _ _ h=>h.mono u;replace hgl:=hgl.mono u;replace hi:=hi.mono u fun _ _ h=>h;replace hp:=hp.mono u fun _ _ h=>h;replace hleA:=kR hleA u
  refine UD 5 Z<|I Z (WT hp Z Z Z (e:=3) Z) Z<|Vr 3 Z<|aG Z (fun Q=>?_) (fun Q=>?_)
  ·refine Ta 7 Z<|I Z (W3 Z O.g0 Z) Z<|kx (WQ Z Z Z) (MX C hgl hl hs A O) (fun V O=>?_);refine V7 3 Z<|kb O (WU (cs:=[J,.bool false,J,J,J,J,J,J,J,J,J,J])) (fun V b2 O=>?_);refine ks O (S1 Z Z Z O.g0 (m:=12) Z Z (cells':=[_,_,_,_,_,_,_,_,_,_,_,_]) Z) (fun V O=>?_);refine UJ 7 Z<|I Z (W3 Z O.g1 Z) Z<|kw (WQ Z Z Z) (J2 C cb cc hgl hm hl hs A O) ?_;rintro _ V ⟨K2,w,Oz,rfl,b0,O⟩;replace hl:=hl.mono Oz fun _ _ h=>h.mono Oz;replace hgl:=hgl.mono Oz;replace hi:=hi.mono Oz fun _ _ h=>h;replace hp:=hp.mono Oz fun _ _ h=>h;replace hleA:=kR hleA Oz
   replace hs:=hs.mono Oz;cases d:uT s (dc k l s)
   ·have hw:=b0 d;refine TY 12 Z<|ky Z (al Z) (fun R=>?_) (fun R=>?_)
    ·exact absurd R (by first | decide | (rw[d];decide) | (rw[z];decide))
    refine V7 2 Z<|ky Z (al Z) (fun S=>?_) (fun S=>?_)
    ·exact absurd S (by first | decide | (rw[d];decide) | (rw[z];decide))
    refine Vr 7 Z<|UE 9 Z<|aG Z (fun T=>?_) (fun T=>?_)
    ·exact absurd T (by first | decide | (rw[d];decide) | (rw[z];decide))
    refine T0 O 8 [0,0] Z Z<|Vr 2 Z<|aG Z (fun W=>?_) (fun W=>?_)
    ·have z:yS m s (dc k l s)= []:=by unfold yS;rw[AN W];rfl
     refine Vp 3 Z<|I Z (WT hw Z Z Z (e:=30) Z) Z<|vQ 1 Z<|ky Z (al Z) (fun b3=>?_) (fun b3=>?_)
     ·refine vQ 1 Z<|I Z (W3 Z O.g1 Z) Z<|kx (WQ Z Z Z) (Sk C hgl hl hs A O) (fun V O=>?_);rw[show N (.ofNat (dc k l s).br) 0=true from W];refine Wa O 4 [0] Z Z<|I Z (W1 Z O.g1 Z) Z<|kw (WQ Z Z Z) (Si C hgl hl hs.gr O) ?_;rintro c2 V ⟨c3,hM103,O⟩;refine I Z (HJ hM103 Z Z Z (e:=3) Y Z) Z<|vQ 1 Z<|I Z (WT hl Z Z Z (e:=88) Z) Z<|Vt 6 Z<|aA<|aK<|aA<|bL<|aK<|aA (?_);exact aB Z Z<|cB (by rw[LD A W];exact dt _)
     exact absurd b3 (by first | decide | (rw[d];decide) | (rw[z];decide))
    refine aH<|ad ?_;obtain⟨LC19,O,hLC19⟩:=O.named;refine nU ([16]++rg 109 14) (fun t V=>∃(q:Bool),q=(bif cM (dc k l s).ask.loc (.ofNat init.length) then cM (dc k l s).event.loc (.ofNat init.length) else false)/\t.get 16=some (.bool q)/\F V K2 LC19) ?_ ?_
    ·subst hLC19;refine V9 O 5 [7,1,0] Z Z<|I Z (WT hi Z Z Z (e:=2) Z) Z<|vQ 1 Z<|ky Z (al Z) (fun X=>?_) (fun X=>?_)
     ·refine Wa O 4 [2,1,0] Z Z<|I Z (WT hi Z Z Z (e:=2) Z) Z<|V6 4 Z ?_;exact⟨Z,oF,_,by rw[show cM (dc k l s).ask.loc (.ofNat init.length)=true from X];rfl,Z,O⟩
     refine V6 9 Z ?_;exact⟨Z,oF,_,by rw[show cM (dc k l s).ask.loc (.ofNat init.length)=false from X];rfl,Z,O⟩
    clear O;intro t V ar hI;obtain⟨ck,b4,b5,O⟩:=hI;subst hLC19;obtain⟨oo,rfl⟩:=ar.q1 b5 Z;refine UD 4 Z<|I Z (WT hw Z Z Z (e:=30) Z) Z<|Vr 3 Z<|aG Z (fun B=>?_) (fun B=>?_)
    ·refine Vp 2 Z<|Wa O 2 [1,0] Z Z<|ky Z (al Z) (fun ac=>?_) (fun ac=>?_)
     ·refine Vt 7 Z<|aA<|aK<|aA<|bL<|aK<|aA (?_);exact aB Z Z Z
     refine vQ 1 Z<|I Z (df Z) Z<|Vt 5 Z<|aA<|aK<|aA<|bL<|aK<|aA (?_);exact aB Z Z (cB (by cases aa:ck with | false=>rfl | true=>(rw[b4] at aa;cases ha:cM (dc k l s).ask.loc (.ofNat init.length) with | false=>(rw[ha] at aa;cases aa) | true=>(rw[ha] at aa;have:=L2 hm A bw W ac d (by rw[aq];exact ha) (by rw[aq];exact aa);rw[show N (.ofNat (yS m s<|dc k l s).length) 0=true from B] at this;cases this))))
    refine UF 7 Z ?_;obtain⟨b6,a0,cl⟩:=dH Q;refine WJ (e:=3) (m:=1) hp a0 Z Z Z Z (fun c4 cn a1 cp a2=>?_);obtain rfl:=a2;refine I Z (WV O a1 Z Z) Z<|vQ 1 Z<|I Z (WT hw Z Z Z (e:=30) Z) Z ?_;obtain⟨q,hq⟩:∃q,(yS m s<|dc k l s).length=q+1:=by cases hz:(yS m s<|dc k l s).length with | zero=>rw[hz] at B;cases B | succ q=>exact⟨q,rfl⟩
    have hql:=hw.cE;refine kw (WQ Z Z Z) (by rw[hq];exact Sl C b6 q (Pl A hq) O) ?_;rintro _ V ⟨jj,rfl,c9,O⟩;obtain⟨b7,ab⟩:=da (show jj<(yS m s<|dc k l s).length by omega);refine WJ (e:=30) (m:=6) hw ab Z Z Z Z (fun c5 cr a3 cv a4=>?_);have hr140':=a4;obtain⟨a5,a9,bb,be,bi,rfl,hx140s⟩:=hr140';refine I Z (WW O a3 Z Z) Z<|eZ O Z (S1 Z Z Z O.g1 (m:=6) Z hx140s.qu (cells':=[_,_,_,_,_,_]) Z) Z (fun V O=>?_);refine UQ O 6 [0] Z Z<|I Z (W1 Z O.g1 Z) Z ?_;have hmem:=gB_ ab;obtain⟨cw,cx⟩:=List.mem_filter.1 hmem;obtain⟨b8,c0,b9⟩:=O8 hm A cw cx;refine kx (WQ Z Z Z) (J8 C hx140s.gr m O) (fun V O=>?_);rw[Lu hm b9];refine UJ 10 Z<|I Z (df Z) Z<|V7 2 Z<|I Z (W3 Z O.g1 Z) Z<|kx (WQ Z Z Z) (vg C hgl hl hx140s O) (fun V O=>?_);rw[uV.2 b8];refine I Z (df Z) Z (UK 6 Z (V4 2 Z (I Z (ay (v:=nI (i+1)) Z Z<|cI<|aX (by have:=bd Q;omega)) Z<|V6 2 Z ?_)));have O:=O.pop;refine aJ ⟨j9-1,by have:=bd Q;omega,oF,i+1,b7,K2,a5,a9,bb,be,bi,by have:=bd Q;omega,kR u Oz,hx140s,b8,b9,c0.trans aq,Z,O⟩
   refine TY 12 Z<|ky Z (al Z) (fun R=>?_) (fun R=>?_)
   ·exact absurd R (by first | decide | (rw[d];decide) | (rw[z];decide))
   refine V7 2 Z<|ky Z (al Z) (fun S=>?_) (fun S=>?_)
   ·refine Vr 6 Z<|aG Z (fun ca=>?_) (fun ca=>?_)
    ·exact absurd ca (by first | decide | (rw[d];decide) | (rw[z];decide))
    refine UE 9 Z<|aG Z (fun T=>?_) (fun T=>?_)
    ·refine V5 6 Z<|aA<|aK<|aA<|bL<|aK<|aA (?_);exact aB Z Z Z
    exact absurd T (by first | decide | (rw[d];decide) | (rw[z];decide))
   exact absurd S (by first | decide | (rw[d];decide) | (rw[z];decide))
  refine UG 3 Z<|aR<|V5 6 Z ?_;exact aB Z Z Z
 refine kx (WQ Z Z Z) (G3 C oM O) (fun V O=>?_);refine V7 3 Z<|kb O (WU (cs:=[.ax,.ax,.ax,.ax,.ax,J])) (fun V b1 O=>?_);refine ks O (S1 Z Z Z O.g0 (m:=6) Z Z (cells':=[_,_,_,_,_,_]) Z) (fun V O=>?_);refine TY 8 Z<|ky Z (al Z) (fun M=>?_) (fun M=>?_)
 ·refine UL 15 Z ?_;exact aB Z Z Z
 exact absurd M (by first | decide | (rw[d];decide) | (rw[z];decide))
variable {ps:List MemPlace} {fuel:Nat} {sp:Nat->Bool} {P:q6}
section
variable {H_:Type} {V:aF}
theorem Ia (hn:∀(b:Nat) (o:cU),V.m.get b=some o->b<V.next):∀(fuel:Nat) (d:w_ H_) (vs:List U),Fit Tryz.prog fuel 141 d->fc Tryz.prog V fuel 141 d vs->kq (xW V) fuel (Kw fuel d) vs
  | 0,_,_,hf,_=>hf.elim
  | 1,d,vs,hf,u=>by
    obtain⟨_,h⟩:=sH (m:=4) Tryz.underlying141 Y Y hf u;exact(h 0 _ Z).1.elim
  | fuel+2,d,vs,hf,u=>by
    obtain⟨hl,h⟩:=sH (m:=4) Tryz.underlying141 Y Y hf u
    obtain⟨a,b,c,e,rfl⟩:∃a b c e,vs= [a,b,c,e]:=by
      match vs,hl with
      | [a,b,c,e],_=>exact⟨a,b,c,e,Z⟩
    obtain⟨B,C⟩:Fit Tryz.prog _ 3 (fh d 0)/\fc Tryz.prog V _ 3 (fh d 0) (([a,b,c,e].drop 0).take<|Tryz.prog.cellsOf 3):=h 0 _ Z;obtain⟨E,G⟩:Fit Tryz.prog _ 2 (fh d 1)/\fc Tryz.prog V _ 2 (fh d 1) (([a,b,c,e].drop 1).take<|Tryz.prog.cellsOf 2):=h 1 _ Z;obtain⟨K,L⟩:Fit Tryz.prog _ 9 (fh d 2)/\fc Tryz.prog V _ 9 (fh d 2) (([a,b,c,e].drop 2).take<|Tryz.prog.cellsOf 9):=h 2 _ Z;obtain⟨M,Q⟩:Fit Tryz.prog _ 123 (fh d 3)/\fc Tryz.prog V _ 123 (fh d 3) (([a,b,c,e].drop 3).take<|Tryz.prog.cellsOf 123):=h 3 _ Z;have R:Tryz.prog.cellsOf 3=1:=by kernel_rfl
    have S:Tryz.prog.cellsOf 2=1:=by kernel_rfl
    have T:Tryz.prog.cellsOf 9=1:=by kernel_rfl
    have z:Tryz.prog.cellsOf 123=1:=by kernel_rfl
    have e0:=(oC Tryz.underlying3 B C).1;have e1:=(oC Tryz.underlying2 E G).1;have e2:=SJ Tryz.underlying9 K L;obtain⟨v,A,W⟩:=pB (m:=4) (Kw fuel) (kq (xW V) fuel) Tryz.underlying123 Y (by decide) hn M Q fun x vs hf u=>Ia hn fuel x vs hf u
    rw[R] at e0;rw[S] at e1;rw[T] at e2;rw[z] at A;simp only[drop_zero,List.take_succ_cons,take_zero,List.drop_succ_cons,List.cons.injEq,and_true] at e0 e1 e2 A;subst e0;subst e1;subst e2;subst A;show∃w,_= [_,_,_,w]/\bS (xW V) 4 (kq (xW V) (fuel+1)) ((kD<|fh d 3).map<|Kw fuel) w;exact⟨_,Z,W.zo fun x vs h=>kq.up h⟩
theorem Pp (hn:∀(b:Nat) (o:cU),V.m.get b=some o->b<V.next) (fuel:Nat) (d:w_ H_) (vs:List U) (hf:Fit Tryz.prog (fuel+2) 125 d) (z:fc Tryz.prog V (fuel+2) 125 d vs):l9 (xW V) fuel (SK fuel d) vs:=by
  obtain⟨hl,h⟩:=sH (m:=6) Tryz.underlying125 Y Y hf z
  obtain⟨a,b,c,e,g,i,rfl⟩:∃a b c e g i,vs= [a,b,c,e,g,i]:=by
    match vs,hl with
    | [a,b,c,e,g,i],_=>exact⟨a,b,c,e,g,i,Z⟩
  obtain⟨B,C⟩:Fit Tryz.prog _ 3 (fh d 0)/\fc Tryz.prog V _ 3 (fh d 0) (([a,b,c,e,g,i].drop 0).take<|Tryz.prog.cellsOf 3):=h 0 _ Z;obtain⟨E,G⟩:Fit Tryz.prog _ 3 (fh d 1)/\fc Tryz.prog V _ 3 (fh d 1) (([a,b,c,e,g,i].drop 1).take<|Tryz.prog.cellsOf 3):=h 1 _ Z;obtain⟨K,L⟩:Fit Tryz.prog _ 3 (fh d 2)/\fc Tryz.prog V _ 3 (fh d 2) (([a,b,c,e,g,i].drop 2).take<|Tryz.prog.cellsOf 3):=h 2 _ Z;obtain⟨M,Q⟩:Fit Tryz.prog _ 3 (fh d 3)/\fc Tryz.prog V _ 3 (fh d 3) (([a,b,c,e,g,i].drop 3).take<|Tryz.prog.cellsOf 3):=h 3 _ Z;obtain⟨R,S⟩:Fit Tryz.prog _ 3 (fh d 4)/\fc Tryz.prog V _ 3 (fh d 4) (([a,b,c,e,g,i].drop 4).take<|Tryz.prog.cellsOf 3):=h 4 _ Z;obtain⟨T,W⟩:Fit Tryz.prog _ 123 (fh d 5)/\fc Tryz.prog V _ 123 (fh d 5) (([a,b,c,e,g,i].drop 5).take<|Tryz.prog.cellsOf 123):=h 5 _ Z;have X:Tryz.prog.cellsOf 3=1:=by kernel_rfl
  have u:Tryz.prog.cellsOf 123=1:=by kernel_rfl
  have e0:=(oC Tryz.underlying3 B C).1;have e1:=(oC Tryz.underlying3 E G).1;have e2:=(oC Tryz.underlying3 K L).1;have e3:=(oC Tryz.underlying3 M Q).1;have e4:=(oC Tryz.underlying3 R S).1;obtain⟨v,A,hs⟩:=pB (m:=4) (Kw fuel) (kq (xW V) fuel) Tryz.underlying123 Y (by decide) hn T W fun x vs hf z=>Ia hn fuel x vs hf z
  rw[X] at e0 e1 e2 e3 e4;rw[u] at A;simp only[drop_zero,List.take_succ_cons,take_zero,List.drop_succ_cons,List.cons.injEq,and_true] at e0 e1 e2 e3 e4 A;subst e0;subst e1;subst e2;subst e3;subst e4;subst A;exact⟨_,Z,hs⟩
theorem Po (hn:∀(b:Nat) (o:cU),V.m.get b=some o->b<V.next) (fuel:Nat) (d:w_ H_) (vs:List U) (hf:Fit Tryz.prog (fuel+4) 88 d) (u:fc Tryz.prog V (fuel+4) 88 d vs):pK (xW V) fuel (QC fuel d) vs:=by
  obtain⟨hl,h⟩:=sH (m:=2) Tryz.underlying88 Y Y hf u
  obtain⟨a,b,rfl⟩:∃a b,vs= [a,b]:=by
    match vs,hl with
    | [a,b],_=>exact⟨a,b,Z⟩
  obtain⟨A,B⟩:Fit Tryz.prog _ 3 (fh d 0)/\fc Tryz.prog V _ 3 (fh d 0) (([a,b].drop 0).take<|Tryz.prog.cellsOf 3):=h 0 _ Z;obtain⟨C,E⟩:Fit Tryz.prog _ 86 (fh d 1)/\fc Tryz.prog V _ 86 (fh d 1) (([a,b].drop 1).take<|Tryz.prog.cellsOf 86):=h 1 _ Z;have G:Tryz.prog.cellsOf 3=1:=by kernel_rfl
  have z:Tryz.prog.cellsOf 86=1:=by kernel_rfl
  have e0:=(oC Tryz.underlying3 A B).1;obtain⟨v,e1,K⟩:=pB (m:=6) (SK fuel) (l9 (xW V) fuel) Tryz.underlying86 Y (by decide) hn C E fun x vs hf u=>Pp hn fuel x vs hf u
  rw[G] at e0;rw[z] at e1;simp only[drop_zero,List.take_succ_cons,take_zero,List.drop_succ_cons,List.cons.injEq,and_true] at e0 e1;subst e0;subst e1;exact⟨_,Z,K⟩
theorem L7 (hn:∀(b:Nat) (o:cU),V.m.get b=some o->b<V.next) (fuel:Nat) (d:w_ H_) (vs:List U) (hf:Fit Tryz.prog (fuel+5) 22 d) (u:fc Tryz.prog V (fuel+5) 22 d vs):∃v,vs= [v]/\bS (xW V) 2 (pK (xW V) fuel) ((kD d).map<|QC fuel) v:=
  pB (m:=2) (QC fuel) (pK (xW V) fuel) Tryz.underlying22 Y (by decide) hn hf u fun x vs hf u=>Po hn fuel x vs hf u
end
section
variable {H_:Type} {enc:y_×j_->H_} {w:x_}
theorem trod_int {t:y_} {cs:List j_} {x:w_ H_×List MemPlace} (hu:Tryz.prog.underlying t=some (.int .i64)) (h:DataW.trod enc Tryz.prog w 0 (fun _=>true) true fuel t cs=some x):∃n,cs= [.int .i64 n]:=by
  cases fuel with
  | zero=>simp[DataW.trod] at h
  | succ fuel=>
    unfold DataW.trod at h;rw[hu] at h;dsimp only at h;split at h<;>first | (rename_i he;cases he;done) | skip
    all_goals first
      | (rename_i k1 k2 n he
         cases he;split at h
         · rename_i hk
           obtain⟨d,_⟩:=hk;subst d;exact⟨n,Z⟩
         · cases h)
      | cases h
def Tf (w:x_) (v:j_):Prop:=v= .slice none 0 0∨∃(a:Addr) (len cap:Nat) (c:Array j_) (e:y_) (fr:Nat×Nat),v= .slice (some a) len cap/\w.heap[a.block]? =some (.cells c e fr)
theorem MF {base:Nat} {t e:y_} {v:j_} (hu:Tryz.prog.underlying t=some (.slice e)) (d:Cell.okWide Tryz.prog w .any base t v):Tf w v:=by
  unfold Cell.okWide at d;rw[hu] at d;dsimp only at d;unfold Cell.ok at d;rw[hu] at d;cases v with
  | slice a len cap=>
    cases a with
    | none=>
      try dsimp only at d
      split at d<;>first | (rename_i he;cases he;done) | skip
      all_goals first
        | (rename_i he;cases he;exact .inl Z)
        | (rename_i h1 z;cases z;done)
        | exact d.elim
    | some a=>
      obtain⟨_,_,_,aa,row,cells,u,_⟩:=d;unfold World.shape? at u;split at u
      · rename_i c e fr hh
        exact .inr ⟨a,len,cap,c,e,fr,Z,hh⟩
      · cases u
  | _=>exact d.elim
theorem trodAll_cons {ts:List y_} {t:y_} {vs:List j_} {ds:List (w_ H_)} (h:DataW.TrodAll enc P w 0 sp true (t::ts) vs ds ps):
    ∃v vs' d ds',vs=v::vs'/\ds=d::ds'/\(∃n p,DataW.trod enc P w 0 sp true n t v.cells.toList=some (d,p))/\∃q,DataW.TrodAll enc P w 0 sp true ts vs' ds' q:=by
  match vs,ds,h with
  | v::vs',d::ds',⟨p,q,⟨n,h1⟩,u,_⟩=>exact⟨v,vs',d,ds',Z,Z,⟨n,p,h1⟩,q,u⟩
theorem trodAll_nil {vs:List j_} {ds:List (w_ H_)} (h:DataW.TrodAll enc P w 0 sp true [] vs ds ps):vs= []/\ds= []:=by
  match vs,ds,h with
  | [],[],_=>exact⟨Z,Z⟩
end
end Go.Ev
end
