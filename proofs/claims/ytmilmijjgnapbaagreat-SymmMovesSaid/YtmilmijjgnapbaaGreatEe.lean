/- Part of the proof: an evaluator of the model's code, rules for walks on it, walks. Without conditions. -/
import Derived.Test.YtmilmijjgnapbaaGreatEb
import Derived.Test.YtmilmijjgnapbaaGreatEd
import Derived.Test.YtmilmijjgnapbaaGreatEc
import Derived.Test.YtmilmijjgnapbaaGreatProg
import Derived.KernelRfl
set_option linter.unusedSectionVars false
set_option linter.unusedVariables false
set_option linter.unusedSimpArgs false
noncomputable section
namespace Go.Ev
variable [Env]
open Go.Proofs
set_option maxRecDepth 4000
set_option maxHeartbeats 8000000
theorem OM {G:Cx} (hG:Plain G) {K:KP} {g:XG} {va vb vc vd:U} (hg:gY K g va vb vc vd) (E:dO g) {V:aE} {L:Own} (ar:D V K L):
  bu Tryz.prog G 88 [.agg [va,vb,vc,vd]] V fun u V'=>∃M,cZ 2 51 nH (ij g) u M/\D V' K (M++L):=by
 refine SQ hG Tryz.func88 Z<|Sm 2 Z<|kp ar Z (cC Z Z) (fun V b1 ar=>?_);refine Q8 15 Z (bf ([3,4]++rg 7 12) (fun j t V=>∃(i:Nat) (u:U) (M:Own),j+i=g.init.length/\cZ 2 51 nH (ru g i 0 0) u M/\t.get 3=some (u)/\t.get 4=some (.int .i64 (.ofNat i))/\D V K (M++(b1,.row [va,vb,vc,vd] 27 false)::L)) (g.init.length) ⟨0,_,[],Z,.inl ⟨Z,Z,Z⟩,Z,Z,ar⟩ ?_);clear ar;intro j3 t V an Q;obtain⟨i,u,M,a8,hO,A,ab,ar⟩:=Q;obtain⟨oo,rfl⟩:=an.q2 A ab Z;refine RJ ar 5 [0] Z Z<|Y Z (TD Z ar.bR.g0 Z) Z<|Y Z (TF hg.init Z Z Z (e:=2) Z) Z<|So 3 Z<|aD Z (fun F=>?_) (fun F=>?_)
 ·refine Q7 4 Z (ah Z (SY 2 Z (Y Z (TA (places:=[(0,1),(1,1)]) (zero:=[N,N]) (cs:=[_,_]) Z) Z<|fe ar Z (bP (e:=51) (m:=2) (z:=[N,N]) (cs:=[_,_]) O O O O<|bj Z Z Z Z bF) (fun _=>Z) (fun V b2 ar=>?_))));replace ar:=ar.pull (.there .here);replace ar:=ar.pull (.dN<|cX.here (X:=[_]));refine fH (R:=nH) (m:=2) (e:=51) hO ar (di (m:=2) Z (show nH ⟨0,.ofNat i⟩ [N,.int .i64 (.ofNat i)] from Z)) nH.leaf (by have:=CC E (i:=i) (t:=0) (k:=0) (by have:=E.init;have:=bc F;omega) oM oM;show _+1<=_;omega) Z Z Z Z Z Z Z (fun _=>Z) (fun V ac am hO18 ar=>?_);refine SX 2 Z<|aC<|SV 5 Z ?_;have hlp:=bc F;refine aH ⟨j3-1,by omega,oF,i+1,ac,am,by omega,(Pw ▸ hO18),Z,cI<|aW (by have:=E.init;omega),ar⟩
 refine RC 3 Z<|aL<|Ry 3 Z ?_;have ao:i=g.init.length:=by have:=bA F;omega
 subst ao;refine RD 4 Z (bf ([3,5,6]++rg 19 24) (fun j t V=>∃(C:Nat) (u2:U) (S:Own),j+C=g.threads.length/\cZ 2 51 nH (ru g g.init.length C 0) u2 S/\t.get 3=some (u2)/\t.get 5=some (.int .i64 (.ofNat C))/\D V K (S++(b1,.row [va,vb,vc,vd] 27 false)::L)) (g.threads.length) ⟨0,u,M,Z,hO,Z,Z,ar⟩ ?_);clear ar;intro j7 t V an Q;obtain⟨C,u2,S,a9,hO2,A,ap,ar⟩:=Q;obtain⟨oo,rfl⟩:=an.q2 A ap Z;refine RJ ar 5 [1] Z Z<|Y Z (TD Z ar.bR.g0 Z) Z<|Y Z (TF hg.threads Z Z Z (e:=56) Z) Z<|So 3 Z<|aD Z (fun w=>?_) (fun w=>?_)
 ·refine Qs 6 Z ?_;obtain⟨row,B,_⟩:=cK w;have hrl:=E.short _ _ B;refine RD 4 Z (bf ([3,6]++rg 26 17) (fun j t V=>∃(k:Nat) (u3:U) (M3:Own),j+k=row.length/\cZ 2 51 nH (ru g g.init.length C k) u3 M3/\t.get 3=some (u3)/\t.get 6=some (.int .i64 (.ofNat k))/\D V K (M3++(b1,.row [va,vb,vc,vd] 27 false)::L)) (row.length) ⟨0,u2,S,Z,hO2,Z,Z,ar⟩ ?_);clear ar;intro a0 t V an Q;obtain⟨k,u3,M3,a5,hO3,A,a1,ar⟩:=Q;obtain⟨oo,rfl⟩:=an.q2 A a1 Z;refine RJ ar 5 [1] Z Z<|Y Z (TD Z ar.bR.g0 Z) Z<|vQ 1 Z<|Tw (e:=56) (m:=1) hg.threads B Z Z Z Z (fun bb a6 T a7 W=>?_);have hr30':=W;obtain⟨bd,rfl,aa⟩:=hr30';refine Y Z (TH ar T Z Z) Z<|Y Z (TF aa Z Z Z (e:=59) Z) Z<|So 3 Z<|aD Z (fun I=>?_) (fun I=>?_)
  ·refine Q7 4 Z (ah Z (SY 2 Z (Y Z (ax (v:=.int .i64 (.ofNat (C+1))) Z Z<|cI<|aW (by have:=E.threads;have:=bc w;omega)) Z (vQ 1 Z (Y Z (TA (places:=[(0,1),(1,1)]) (zero:=[N,N]) (cs:=[_,_]) Z) Z<|fe ar Z (bP (e:=51) (m:=2) (z:=[N,N]) (cs:=[_,_]) O O O O<|bj Z Z Z Z bF) (fun _=>Z) (fun V b2 ar=>?_))))));replace ar:=ar.pull (.there .here);replace ar:=ar.pull (.dN<|cX.here (X:=[_]));refine fH (R:=nH) (m:=2) (e:=51) hO3 ar (di (m:=2) Z (show nH ⟨.ofNat (C+1),.ofNat k⟩ [.int .i64 (.ofNat (C+1)),.int .i64 (.ofNat k)] from Z)) nH.leaf (by have:=CC E (i:=g.init.length) (t:=C) (k:=k) E.init (by have:=bc I;omega) (by have:=E.threads;have:=bc w;omega);show _+1<=_;omega) Z Z Z Z Z Z Z (fun _=>Z) (fun V a2 a3 hO42 ar=>?_);refine SX 2 Z<|aC<|SV 5 Z ?_;have hlp:=bc I;refine aH ⟨a0-1,by omega,oF,k+1,a2,a3,by omega,(Px ▸ hO42),Z,cI<|aW oM,ar⟩
  refine RC 3 Z<|aL<|aC<|SV 5 Z ?_;have hlp:=bc w;have a4:k=row.length:=by have:=bA I;omega
  subst a4;refine aH ⟨j7-1,by omega,oF,C+1,u3,M3,by omega,(Py B ▸ hO3),Z,cI<|aW (by have:=E.threads;omega),ar⟩
 refine RC 3 Z<|aL<|SW 7 Z ?_;exact aB Z Z ⟨S,(Kr (bA w) ▸ hO2),ar.sub<|ec (.cons _ (.refl _))⟩
theorem P2 {G:Cx} (hG:Plain G) {K:KP} {g:XG} {va vb vc vd:U} (hg:gY K g va vb vc vd) {V:aE} {L:Own} (ar:D V K L):
  bu Tryz.prog G 68 [.agg [va,vb,vc,vd]] V fun u V'=>(H (cV g) 0=false/\u= .tuple [.gR,.bool false]/\D V' K L)∨(dO g/\∃K1 b a1 b1 c1 d1 iv ev,u= .tuple [.ptr b 0,.bool true]/\KP.le K K1/\px K1 g b a1 b1 c1 d1 iv ev/\D V' K1 L):=by
 refine SQ hG Tryz.func68 Z<|Sm 2 Z<|kp ar Z (cC Z Z) (fun V b1 ar=>?_);refine Q9 7 Z<|Y Z (TE Z ar.g0 (n:=4) (vs:=[_,_,_,_]) Z) Z<|bz Z (TB Z Z Z) (fun _=>Z) (lS hG hg ar) (fun V ar=>?_);refine So 3 Z<|aD Z (fun h9=>?_) (fun h9=>?_)
 ·refine Sn 8 Z ?_;exact dA Z Z Z (.inl ⟨bW h9,Z,ar.pop⟩)
 refine Rz 3 Z (aU (l:=[(0,[]),(1,[]),(2,[0]),(3,[]),(4,[]),(5,[])]) O O ?_);have hR:dO g:=ef.1 (eqv<|bK h9);have hvl:=p4 hR;refine ai Z Z (TE Z ar.g0 (n:=4) (vs:=[_,_,_,_]) Z) Z<|ai Z Z (TE Z ar.g0 (n:=4) (vs:=[_,_,_,_]) Z) Z<|fB Z Z (TB Z Z Z) (fun _=>Z) (OM hG hg hR ar) ?_;rintro u12 V ⟨bq,hO12,ar⟩;obtain⟨K1,F,S,ar⟩:=D.cq (M:=bq) ar;have w:bL K1 2 nH (ij g) u12:=hO12.jK fun y hy=>S _ hy
 replace hg:=hg.mono F;refine⟨(bx (bC Z Z Z Z Z (TE Z ar.g0 (n:=4) (vs:=[_,_,_,_]) Z)<|iP<|cR hg.init.lh<|cR hg.threads.lh<|cR hg.from_.lh<|cR hg.order.lh gM) ba),?_⟩;refine ai Z Z (cH (places:=[(0,4),(4,1),(5,1),(6,1)]) (zero:=[.az,.az,.az,.az,.az,.az,N]) (cs:=[_,_,_,_,_,_,_]) O O O (bj Z Z Z Z<|bj Z Z w.leaf.1 Z bF) O) Z<|qd ar Z Z (cC Z Z) (fun _=>Z) (fun V b2 ar=>?_);refine Ss 3 Z<|Sm 4 Z<|Y Z (dK Z) Z<|S2 ar 2 [4,0] Z Z<|Y Z (TF w Z Z Z (e:=51) Z) Z<|Y Z (dK Z) Z<|Y Z (TC 6 Z) Z<|bZ ar Z (TJ Z Z Z ar.g0 (m:=1) Z Z (cells':=[_,_,_,_,_,_,_]) Z) Z (fun V ar=>?_);refine Q8 9 Z (bf ([5,6]++rg 23 72) (fun j t V=>∃(i:Nat) (u:U) (M:Own),j+i=nV g/\cZ 5 59 mJ ((EL g).take i) u M/\t.get 5=some (.int .i64 (.ofNat i))/\D V K1 (M++(b2,.row [va,vb,vc,vd,u12,u,.int .i64 (.ofNat<|nV g)] 136 false)::(b1,.row [va,vb,vc,vd] 27 false)::L)) (nV g) ⟨0,_,[],Z,.inl ⟨Z,Z,Z⟩,Z,ar⟩ ?_);clear ar;intro j6 t V an hI;obtain⟨i,u,M,cp,hO,br,ar⟩:=hI;obtain⟨oo,rfl⟩:=an.q1 br Z;refine Ry 5 Z<|Y Z (dK Z) Z<|Y Z (TC 6 Z) Z<|Y Z (TD Z ar.bR.g0 Z) Z<|So 3 Z<|aD Z (fun A=>?_) (fun A=>?_)
 ·refine Qs 6 Z ?_;have hin:=bc A;refine vQ 1 Z<|Y Z (dK Z) Z<|Y Z (TC 4 Z) Z<|Y Z (TD Z ar.bR.g0 Z) Z<|vQ 1 Z<|Tw (e:=51) (m:=2) w (eJ hin) Z Z Z Z (fun cr bw ab b0 ac=>?_);obtain rfl:=ac;refine dy ab Z Z Z (k:=1) O (lb Z) (fun _=>Z) (fun cv am=>?_);refine Y Z (TH ar am Z Z) Z (Y Z (TA (places:=[(0,1),(1,1),(2,1),(3,1),(4,1)]) (zero:=[N,N,N,N,N]) (cs:=[_,_,_,_,_]) Z) Z<|kp ar Z (TG (cs:=[N,N,N,N,N])) (fun V b3 ar=>?_));refine bZ ar Z (TJ Z Z Z ar.g0 (m:=5) Z Z (cells':=[_,_,_,_,_]) Z) Z (fun V ar=>?_);refine Q9 6 Z<|Y Z (dK Z) Z<|Y Z (TC 4 Z) Z<|Y Z (TD Z ar.pop.bR.g0 Z) Z<|vQ 1 Z<|Tw (e:=51) (m:=2) w (eJ hin) Z Z Z Z (fun cw b5 ao b6 ap=>?_);obtain rfl:=ap;refine dy ao Z Z Z (k:=0) O (lb Z) (fun _=>Z) (fun cx a0=>?_);refine Y Z (TH ar a0 Z Z) Z<|So 3 Z<|aD Z (fun B=>?_) (fun B=>?_)
  ·obtain⟨tt,kk,row,e,C,I,bs,T⟩:∃(t k:Nat) (row:List db) (e:db),fM g i=⟨.ofNat (t+1),.ofNat k⟩/\g.threads[t]?=some row/\row[k]?=some e/\fg g i=e:=by rcases jL hin with ⟨x,v,h1,_⟩ | h;(rw[h1] at B;exact Bool.noConfusion (show false=true from B));exact h
   refine aU (l:=zp [0,1,2,3,4,5,6,7,8,9,10,11,12,13,14,15,16,17,18,19,20,21,22,23]) O O<|ai Z Z (TC 1 Z) Z<|ai Z Z (TD Z ar.pop.bR.pop.g0 Z) Z<|wQ 1 Z<|ai Z Z (dK Z) Z<|ai Z Z (TC 4 Z) Z<|ai Z Z (TD Z ar.pop.bR.g0 Z) Z<|wQ 1 Z<|Tx (e:=51) (m:=2) w (eJ hin) Z Z Z Z Z (fun cy b7 a2 b8 a3=>?_);obtain rfl:=a3;refine eQ a2 Z Z Z Z (k:=0) O (lb Z) (fun _=>Z) (fun c0 a4=>?_);refine ai Z Z (TH ar a4 Z Z) Z (ai Z Z (ax (v:=.int .i64 (.ofNat tt)) Z Z (by rw[C];exact cI (gW (by have:=hR.threads;have:=(gA.1 I).1;omega)))) Z<|Tx (e:=56) (m:=1) hg.threads I Z Z Z Z Z (fun c2 ca a5 cb a6=>?_));have hr60':=a6;obtain⟨c3,rfl,a7⟩:=hr60';refine ai Z Z (TH ar a5 Z Z) Z<|wQ 1 Z<|ai Z Z (dK Z) Z<|ai Z Z (TC 4 Z) Z<|ai Z Z (TD Z ar.pop.bR.g0 Z) Z<|wQ 1 Z<|Tx (e:=51) (m:=2) w (eJ hin) Z Z Z Z Z (fun c4 cc a8 ce a9=>?_);obtain rfl:=a9;refine eQ a8 Z Z Z Z (k:=1) O (lb Z) (fun _=>Z) (fun c5 bb=>?_);refine ai Z Z (TH ar bb Z Z) Z<|Tx (e:=59) (m:=5) a7 bs Z Z Z Z (cI<|congrArg cY.index C) (fun c7 cg bd ch be=>?_);obtain rfl:=be;refine ai Z Z (TI ar bd Z Z) Z<|iM ar Z Z (TJ Z Z Z ar.g0 (m:=5) Z Z (cells':=[_,_,_,_,_]) Z) Z (fun V ar=>?_);refine⟨ba,?_⟩;refine Ss 2 Z<|aU (l:=zp [0,1,2,3,4,5,6,7,8,9,10]) O O<|S0 2 Z<|ai Z Z (dK Z) Z<|ai Z Z (TC 5 Z) Z<|ai Z Z (TD Z ar.pop.bR.g0 Z) Z<|ai Z Z (TE Z ar.g0 (n:=5) (vs:=[_,_,_,_,_]) Z) Z<|qc ar Z Z (bP (e:=59) (m:=5) (z:=[N,N,N,N,N]) (cs:=[_,_,_,_,_]) O O O O<|bj Z Z Z Z bF) (fun _=>Z) (fun V b4 ar=>?_);replace ar:=ar.pull (.there (.there .here));replace ar:=ar.pull (.dN<|cX.here (X:=[_]));refine mu (R:=mJ) (m:=5) (e:=59) hO ar (di (m:=5) Z (show mJ e _ from Z)) mJ.leaf (by rw[lT_];show _+1<=_;omega) Z Z Z Z Z Z Z Z (fun _=>Z) (fun V E M92 hO92 ar=>?_);refine⟨ba,?_⟩;refine ai Z Z (dK Z) Z<|ai Z Z (TC 5 Z) Z<|gD ar (.dN (.there .here)) Z Z (aR Z Z hO92.leaf.1 ar.bR.pop.g0 (m:=1) O Z (lb Z) (aj hO92.leaf.2 aI) (cells':=[_,_,_,_,_,_,_]) Z) Z (fun V ar=>?_);refine⟨ba,?_⟩;replace ar:=ar.sub (ec (.cons _ (.cons_cons _ (.cons_cons _ (.refl _)))));refine aX<|aC<|SV 5 Z ?_;have hO93:cZ 5 59 mJ ((EL g).take (i+1)) E M92:=by rw[List.take_add_one,fV hin,T];exact hO92
   refine aH ⟨j6-1,by have:=bc A;omega,oF,i+1,E,M92,by omega,hO93,cI<|aW oM,ar⟩
  obtain⟨xx,xv,C,bt,T⟩:∃(x:Nat) (v:Int),fM g i=⟨0,.ofNat x⟩/\g.init[x]?=some v/\fg g i=⟨2,.ofNat x,1,0,v⟩:=by rcases jL hin with h | ⟨t,k,row,e,h1,_⟩;exact h;(rw[h1] at B;exact Bool.noConfusion (show true=false from B))
  refine aU (l:=zp [0,1,2,3,4,5,6,7,8,9,10,11,12,13]) O O<|ai Z Z (TC 0 Z) Z<|ai Z Z (TD Z ar.pop.bR.pop.g0 Z) Z<|wQ 1 Z<|ai Z Z (dK Z) Z<|ai Z Z (TC 4 Z) Z<|ai Z Z (TD Z ar.pop.bR.g0 Z) Z<|wQ 1 Z<|Tx (e:=51) (m:=2) w (eJ hin) Z Z Z Z Z (fun c8 ci bi cj bk=>?_);obtain rfl:=bk;refine eQ bi Z Z Z Z (k:=1) O (lb Z) (fun _=>Z) (fun c9 bl=>?_);refine ai Z Z (TH ar bl Z Z) Z<|Tx (e:=2) (m:=1) hg.init bt Z Z Z Z (cI<|congrArg cY.index C) (fun dd ck bm cn bo=>?_);obtain rfl:=bo;refine ai Z Z (TH ar bm Z Z) Z<|ai Z Z (TC 4 Z) Z<|iM ar Z Z (TJ Z Z Z ar.g0 (m:=1) Z Z (cells':=[_,_,_,_,_]) Z) Z (fun V ar=>?_);refine⟨ba,?_⟩;refine Ss 2 Z<|aU (l:=zp [0,1,2,3,4,5,6,7,8,9,10]) O O<|S0 2 Z<|ai Z Z (dK Z) Z<|ai Z Z (TC 5 Z) Z<|ai Z Z (TD Z ar.pop.bR.g0 Z) Z<|ai Z Z (TE Z ar.g0 (n:=5) (vs:=[_,_,_,_,_]) Z) Z<|qc ar Z Z (bP (e:=59) (m:=5) (z:=[N,N,N,N,N]) (cs:=[_,_,_,_,_]) O O O O<|bj Z Z Z Z bF) (fun _=>Z) (fun V b4 ar=>?_);replace ar:=ar.pull (.there (.there .here));replace ar:=ar.pull (.dN<|cX.here (X:=[_]));refine mu (R:=mJ) (m:=5) (e:=59) hO ar (di (m:=5) Z (show mJ ⟨2,(fM g i).index,1,0,xv⟩ _ from Z)) mJ.leaf (by rw[lT_];show _+1<=_;omega) Z Z Z Z Z Z Z Z (fun _=>Z) (fun V E M92 hO92 ar=>?_);refine⟨ba,?_⟩;refine ai Z Z (dK Z) Z<|ai Z Z (TC 5 Z) Z<|gD ar (.dN (.there .here)) Z Z (aR Z Z hO92.leaf.1 ar.bR.pop.g0 (m:=1) O Z (lb Z) (aj hO92.leaf.2 aI) (cells':=[_,_,_,_,_,_,_]) Z) Z (fun V ar=>?_);refine⟨ba,?_⟩;replace ar:=ar.sub (ec (.cons _ (.cons_cons _ (.cons_cons _ (.refl _)))));refine aX<|aC<|SV 5 Z ?_;have hO93:cZ 5 59 mJ ((EL g).take (i+1)) E M92:=by rw[List.take_add_one,fV hin,T];rw[show(fM g i).index= .ofNat xx from by rw[C]] at hO92;exact hO92
  refine aH ⟨j6-1,by have:=bc A;omega,oF,i+1,E,M92,by omega,hO93,cI<|aW oM,ar⟩
 refine RC 3 Z<|aL<|SW 8 Z ?_;have bv:i=nV g:=by have:=bA A;omega
 subst bv;rw[tL_<|Nat.le_of_eq J6] at hO;obtain⟨K2,bp,W,ar⟩:=D.cq (M:=M) ar;obtain⟨K3,Q,aa,ar⟩:=D.cq (M:=[_]) ar;have hle23:=KP.le_trans bp Q;exact dA Z Z Z (.inr ⟨hR,K3,b2,va,vb,vc,vd,u12,u,Z,KP.le_trans F hle23,⟨aa _<|mS_ ..,hg.mono hle23,w.mono hle23 fun _ _ h=>h,hO.jK fun y hy=>Q _ _ (W _ hy)⟩,ar.pop⟩)
theorem Fq {G:Cx} (hG:Plain G) {K:KP} {g:XG} {b:Nat} {va vb vc vd iv ev:U} (hv:px K g b va vb vc vd iv ev) (hR:dO g) {w:Nat} (hw:w<nV g) {V:aE} {L:Own} (ar:D V K L):
  bu Tryz.prog G 99 [.ptr b 0,.int .i64 (.ofNat w)] V fun u V'=>u= .int .u64 (.ofNat<|cS (nV g)<|uT g w)/\D V' K L:=by
 have hvl:=p4 hR;have h0b:2 ^ w=cS (nV g) (fun k=>false || decide (k=w)):=by rw[<-lN (fun _=>false) hw,wT,Nat.zero_or]
 refine SQ hG Tryz.func99 Z (Sm 8 Z (Y Z (iX (j:=w) oM O O O Z) Z (Y Z (ax (v:=.int .u64 (.ofNat (2 ^ w))) Z Z<|G9 oM) Z<|Q8 10 Z ?_)));obtain⟨LL1,ar,hLL1⟩:=ar.named;refine bf ([5,6,7]++rg 11 41) (fun j t V=>∃(I:Nat->Bool) (ag:Bool),I w=true/\(∀k,I k=true->Sq g w k)/\(ag=true->nV g+1<=iY (nV g) I+j)/\(ag=false->∀q B,q<nV g->H (fg g q).kind 3=true->iG g q= .ofNat B->I B=true->I q=true)/\t.get 5=some (.int .u64 (.ofNat<|cS (nV g) I))/\t.get 6=some (.bool ag)/\D V K LL1) (nV g+1) ⟨(fun k=>false || decide (k=w)),true,(by simp),(fun k hk=>(by simp at hk;subst hk;exact .base)),(fun _=>Nat.le_add_left _ _),(fun e=>by cases e),(congrArg (fun z=>some (U.int .u64 (.ofNat z))) h0b),Z,ar⟩ ?_;clear ar;intro j3 t V an hI;obtain⟨I,ag,C,A,hj,ap,X,aa,ar⟩:=hI;subst hLL1;obtain⟨oo,rfl⟩:=an.q2 X aa Z;refine Sl 6 Z<|aD Z (fun a3=>?_) (fun a3=>?_)
 ·refine aG<|ad<|aJ<|Sm 8 Z<|RD 3 Z ?_;obtain⟨LL2,ar,hLL2⟩:=ar.named;refine bf ([5,6,7]++rg 12 40) (fun j t V=>∃(i:Nat) (P:Nat->Bool) (E:Bool),j+i=nV g/\P w=true/\(∀k,P k=true->Sq g w k)/\(∀{k},I k=true->P k=true)/\(E=true->iY (nV g) I<iY (nV g) P)/\(E=false->∀q B,q<i->H (fg g q).kind 3=true->iG g q= .ofNat B->P B=true->P q=true)/\t.get 5=some (.int .u64 (.ofNat<|cS (nV g) P))/\t.get 6=some (.bool E)/\t.get 7=some (.int .i64 (.ofNat i))/\D V K LL2) (nV g) ⟨0,I,false,Z,C,A,(fun h=>h),(fun e=>by cases e),(fun _ q B hq=>absurd hq (nZ_ _)),Z,Z,Z,ar⟩ ?_;clear ar;intro j6 t V an hI;obtain⟨i,P,E,a9,C,A,M,S,T,X,aa,a4,ar⟩:=hI;subst hLL2;obtain⟨oo,rfl⟩:=an.q3 X aa a4 Z;refine Ry 5 Z<|Y Z (dK Z) Z<|Y Z (TC 6 Z) Z<|Y Z (TD Z (ar.eN hv.row) Z) Z<|So 3 Z<|aD Z (fun ab=>?_) (fun ab=>?_)
  ·refine Qs 6 Z ?_;have hin:=bc ab;refine vQ 1 Z<|Y Z (dK Z) Z<|Y Z (TC 5 Z) Z<|Y Z (TD Z (ar.eN hv.row) Z) Z<|vQ 1 Z<|Tw (e:=59) (m:=5) hv.nL (fV hin) Z Z Z Z (fun bb a7 a0 a8 a1=>?_);obtain rfl:=a1;refine dy a0 Z Z Z (k:=0) O (lb Z) (fun _=>Z) (fun bd a2=>?_);refine Y Z (TH ar a2 Z Z) Z<|vQ 1 Z<|ky Z (aq Z) (fun W=>?_) (fun W=>?_)
   ·refine SY 2 Z<|Y Z (iX (j:=i) oM O O O Z) Z<|SY 4 Z<|ky Z (aq Z) (fun ac=>?_) (fun ac=>?_)
    ·refine SY 3 Z ?_;obtain⟨f,hf,am,_⟩:=td hR hin (pS W);refine bz Z (TB Z Z Z) (fun _=>Z) (by have q:=AU hG hv hR hin ar;rw[am] at q;exact q) (fun V ar=>?_);refine Y Z (iX (j:=f) oM O O O Z) Z<|So 6 Z<|aD Z (fun ao=>?_) (fun ao=>?_)
     ·refine Sm 4 Z (Y Z (iX (j:=i) oM O O O Z) Z (Y Z (ax (v:=.int .u64 (.ofNat (2 ^ i))) Z Z<|G9 oM) Z (Y Z (ax (v:=.int .u64 (.ofNat<|cS (nV g) P ||| 2 ^ i)) Z Z<|L7 (gy oM _)<|Nat.pow_lt_pow_right oM oM) Z<|RF 7 Z<|SV 5 Z ?_)));have a5:P i=false:=by have e:=(Bq (x:=cS (nV g) P) (j:=i) oM).symm.trans ac;rw[dt,decide_eq_true hin,Bool.true_and] at e;revert e;cases P i<;>simp
      have a6:P f=true:=by have e:=(rX (x:=cS (nV g) P) (j:=f) oM).symm.trans ao;rw[dt,decide_eq_true hf,Bool.true_and] at e;exact e
      refine aH ⟨j6-1,by omega,oF,i+1,(fun k=>P k || decide (k=i)),true,by omega,by simp[C],fun k hk=>(by rcases Bool.or_eq_true_iff.1 hk with h | h;(exact A k h);(obtain rfl:=of_decide_eq_true h;exact .step hin W am<|A f a6)),(fun h=>by simp[M h]),(fun _=>Nat.lt_of_le_of_lt (Hv fun _ h=>M h) (Jx hin a5)),(fun e=>by cases e),(by first | rfl | exact congrArg (fun z=>some (U.int .u64 (.ofNat z)))<|lN _ hin),Z,cI<|aW oM,ar⟩
     refine aG<|aC<|SV 5 Z ?_;refine aH ⟨j6-1,by omega,oF,i+1,P,E,by omega,C,A,M,S,fun e q B hq h1 F Q=>(by rcases Nat.lt_or_ge q i with h | h;(exact T e q B h h1 F Q);(have R:q=i:=by omega);rw[R] at h1 F⊢;have e:=(rX (x:=cS (nV g) P) (j:=f) oM).symm.trans ao;rw[dt,decide_eq_true hf,Bool.true_and] at e;rw[show B=f from by rw[am] at F;exact(iJ_ F).symm,e] at Q;cases Q),(by first | rfl | exact congrArg (fun z=>some (U.int .u64 (.ofNat z)))<|lN _ hin),Z,cI<|aW oM,ar⟩
    refine RF 14 Z<|SV 5 Z ?_;refine aH ⟨j6-1,by omega,oF,i+1,P,E,by omega,C,A,M,S,fun e q B hq h1 F Q=>(by rcases Nat.lt_or_ge q i with h | h;(exact T e q B h h1 F Q);(have R:q=i:=by omega);rw[R] at h1 F⊢;have e:=(Bq (x:=cS (nV g) P) (j:=i) oM).symm.trans ac;rw[dt,decide_eq_true hin,Bool.true_and] at e;revert e;cases P i<;>simp),(by first | rfl | exact congrArg (fun z=>some (U.int .u64 (.ofNat z)))<|lN _ hin),Z,cI<|aW oM,ar⟩
   refine RF 22 Z<|SV 5 Z ?_;refine aH ⟨j6-1,by omega,oF,i+1,P,E,by omega,C,A,M,S,fun e q B hq h1 F Q=>(by rcases Nat.lt_or_ge q i with h | h;(exact T e q B h h1 F Q);(have R:q=i:=by omega);rw[R] at h1 F⊢;rw[show H (fg g i).kind 3=false from W] at h1;cases h1),(by first | rfl | exact congrArg (fun z=>some (U.int .u64 (.ofNat z)))<|lN _ hin),Z,cI<|aW oM,ar⟩
  refine RC 3 Z<|aL<|aC ?_;have be:nV g<=i:=bA ab;refine aH ⟨j3-1,by have:=hj (by assumption);have:=Gc (nV g) I;omega,oF,P,E,C,A,(fun e=>by have:=S e;have:=hj (by assumption);omega),(fun e q B hq h1 F Q=>T e q B oM h1 F Q),Z,Z,ar⟩
 refine RC 3 Z<|aL<|SW 7 Z ?_;exact aB Z Z ⟨congrArg (fun z=>U.int .u64 (.ofNat z))<|N7 C A fun q B hq h1 F Q=>ap (by assumption) q B hq h1 F Q,ar⟩
theorem N3 {G:Cx} (hG:Plain G) {K:KP} {g:XG} {b:Nat} {va vb vc vd iv ev:U} (hv:px K g b va vb vc vd iv ev) (hR:dO g) {V:aE} {L:Own} (ar:D V K L):
  bu Tryz.prog G 70 [.ptr b 0] V fun v V'=>∃W S Q I E,v= .agg [.int .i64 (.ofNat<|nV g),S,.int .i64 (.ofNat<|nV g),Q,.int .i64 (.ofNat<|nV g),I,.int .i64 (.ofNat<|nV g),E]/\KP.le K W/\bL W 1 RU (bJ (nV g)<|rR g) S/\bL W 1 RU (bJ (nV g)<|BF g) Q/\bL W 1 RU (bJ (nV g)<|Ao g) I/\bL W 1 RU (bJ (nV g)<|DT g) E/\D V' W L:=by
 have hvl:=p4 hR;refine SQ hG Tryz.func70 Z<|Sm 2 Z<|kp ar Z (TG (cs:=[N,.az,N,.az,N,.az,N,.az])) (fun V b1 ar=>?_);refine RE 4 Z<|kp ar Z (TG (cs:=[.az,.az,.az,.az])) (fun V b2 ar=>?_);refine Q8 9 Z (bf (rg 4 62) (fun j t V=>∃(i:Nat) (S Q I E:U) (T M1 F C:Own),j+i=nV g/\cZ 2 138 RP (eO (nV g) (rR g) i 0) S T/\cZ 2 138 RP (eO (nV g) (BF g) i 0) Q M1/\cZ 2 138 RP (eO (nV g) (Ao g) i 0) I F/\cZ 2 138 RP (eO (nV g) (DT g) i 0) E C/\t.get 4=some (.int .i64 (.ofNat i))/\D V K (T++(M1++(F++(C++((b2,.row [S,Q,I,E] 158 false)::(b1,.row [N,.az,N,.az,N,.az,N,.az] 112 false)::L)))))) (nV g) ⟨0,_,_,_,_,[],[],[],[],Z,.inl ⟨Z,Z,Z⟩,.inl ⟨Z,Z,Z⟩,.inl ⟨Z,Z,Z⟩,.inl ⟨Z,Z,Z⟩,Z,ar⟩ ?_);clear ar;intro j3 t V an hI;obtain⟨i,S,Q,I,E,T,M1,F,C,br,hO0,hO1,hO2,hO3,a9,ar⟩:=hI;obtain⟨oo,rfl⟩:=an.q1 a9 Z;refine Ry 5 Z<|Y Z (dK Z) Z<|Y Z (TC 6 Z) Z<|Y Z (TD Z (ar.eN hv.row) Z) Z<|So 3 Z<|aD Z (fun aa=>?_) (fun aa=>?_)
 ·refine Q7 9 Z (aJ (bf ([5,6]++rg 15 51) (fun j t V=>∃(q:Nat) (S Q I E:U) (T M1 F C:Own),j+q=nV g/\cZ 2 138 RP (eO (nV g) (rR g) i q) S T/\cZ 2 138 RP (eO (nV g) (BF g) i q) Q M1/\cZ 2 138 RP (eO (nV g) (Ao g) i q) I F/\cZ 2 138 RP (eO (nV g) (DT g) i q) E C/\t.get 5=some (.int .i64 (.ofNat q))/\D V K (T++(M1++(F++(C++((b2,.row [S,Q,I,E] 158 false)::(b1,.row [N,.az,N,.az,N,.az,N,.az] 112 false)::L)))))) (nV g) ⟨0,S,Q,I,E,T,M1,F,C,Z,hO0,hO1,hO2,hO3,Z,ar⟩ ?_));clear ar;intro j6 t V an hI;obtain⟨q,S,Q,I,E,T,M1,F,C,bs,hO0,hO1,hO2,hO3,bb,ar⟩:=hI;obtain⟨oo,rfl⟩:=an.q1 bb Z;refine Ry 5 Z<|Y Z (dK Z) Z<|Y Z (TC 6 Z) Z<|Y Z (TD Z (ar.eN hv.row) Z) Z<|So 3 Z<|aD Z (fun ac=>?_) (fun ac=>?_)
  ·refine Qs 6 Z ?_;have hin:=bc aa;have hqn:=bc ac;refine SY 2 Z<|Y Z (mI (e:=3) (n:=2) (m:=1) (zero:=[N,N]) (cs:=[_,_]) O O O Z) Z<|kp ar Z (TG (cs:=[N,N])) (fun V b3 ar=>?_);refine bZ ar Z (TJ Z Z Z ar.g0 (m:=2) Z Z (cells':=[_,_]) Z) Z (fun V ar=>?_);refine So 2 Z (iA (rg 26 10) (fun t V=>∃(v0:U) (N0:Own),cZ 2 138 RP (eO (nV g) (rR g) i (q+1)) v0 N0/\D V K (N0++(M1++(F++(C++((b3,.row [.int .i64 (.ofNat i),.int .i64 (.ofNat q)] 138 false)::(b2,.row [v0,Q,I,E] 158 false)::(b1,.row [N,.az,N,.az,N,.az,N,.az] 112 false)::L)))))) ?_ ?_)
   ·refine Sm 5 Z<|ga Z (TB Z Z Z) (fun _=>Z) (N4 hG hv hin hqn ar) (fun am V ar=>?_) (fun am V ar=>?_)
    ·refine Sp 4 Z<|Y Z (ft (e:=134) (m:=1) (n:=4) (j:=0) O O Z Z (by decide)) Z<|Y Z (TD Z ar.pop.bR.bR.bR.bR.g0 Z) Z<|Y Z (TE Z ar.g0 (n:=2) (vs:=[_,_]) Z) Z<|fe ar Z (bP (e:=138) (m:=2) (z:=[N,N]) (cs:=[_,_]) O O O O<|bj Z Z Z Z bF) (fun _=>Z) (fun V b4 ar=>?_);replace ar:=ar.pull (.there (.there<|cX.here (X:=T)));replace ar:=ar.pull (.dN<|cX.here (X:=[_]));rw[List.singleton_append] at ar;refine fH (R:=RP) (m:=2) (e:=138) hO0 ar (di (m:=2) Z (show RP (i,q) [.int .i64 (.ofNat i),.int .i64 (.ofNat q)] from Z)) RP.leaf (by have:=kD (n:=nV g) (R:=rR g) (i:=i) (q:=q);have:i*nV g<=62*62:=Nat.mul_le_mul oM hvl;show _+1<=_;omega) Z Z Z Z Z Z Z (fun _=>Z) (fun V bd a1 hO34 ar=>?_);refine Y Z (ft (e:=134) (m:=1) (n:=4) (j:=0) O O Z Z (by decide)) Z<|dX ar (.dN (.there (.dN (.dN (.dN .here))))) Z (aR Z Z hO34.leaf.1 ar.bR.pop.bR.bR.bR.g0 (m:=1) O Z (lb Z) (aj hO34.leaf.2 aI) (cells':=[_,_,_,_]) Z) Z (fun V ar=>?_);refine af ?_;replace ar:=ar.pull (.dN<|cX.here (X:=[_]));rw[List.singleton_append] at ar;replace ar:=ar.pull (.there (.dN (.dN (.dN<|cX.here (X:=C)))));replace ar:=ar.pull (.dN (.there (.dN (.dN<|cX.here (X:=F)))));replace ar:=ar.pull (.dN (.dN (.there (.dN<|cX.here (X:=M1)))));replace ar:=ar.pull (.dN (.dN (.dN (.there<|cX.here (X:=a1)))));exact⟨Z,oF,bd,a1,(kF am ▸ hO34),ar⟩
    refine So 3 Z<|aG ?_;replace ar:=ar.pull (.there (.dN (.dN (.dN<|cX.here (X:=C)))));replace ar:=ar.pull (.dN (.there (.dN (.dN<|cX.here (X:=F)))));replace ar:=ar.pull (.dN (.dN (.there (.dN<|cX.here (X:=M1)))));replace ar:=ar.pull (.dN (.dN (.dN (.there<|cX.here (X:=T)))));exact⟨Z,oP Z<|oP Z<|oP Z<|oP Z<|oR _ _,S,T,(lR am ▸ hO0),ar⟩
   clear ar;intro t V an hI;obtain⟨v0,N0,hP0,ar⟩:=hI;obtain⟨oo,rfl⟩:=an.q0 Z;refine iA (rg 36 10) (fun t V=>∃(v1:U) (N1:Own),cZ 2 138 RP (eO (nV g) (BF g) i (q+1)) v1 N1/\D V K (N0++(N1++(F++(C++((b3,.row [.int .i64 (.ofNat i),.int .i64 (.ofNat q)] 138 false)::(b2,.row [v0,v1,I,E] 158 false)::(b1,.row [N,.az,N,.az,N,.az,N,.az] 112 false)::L)))))) ?_ ?_
   ·refine Sm 5 Z<|ga Z (TB Z Z Z) (fun _=>Z) (Sz hG hv hR hin hqn ar) (fun ao V ar=>?_) (fun ao V ar=>?_)
    ·refine Sp 4 Z<|Y Z (ft (e:=134) (m:=1) (n:=4) (j:=1) O O Z Z (by decide)) Z<|Y Z (TD Z ar.bR.bR.bR.bR.pop.g0 Z) Z<|Y Z (TE Z ar.bR.bR.bR.bR.g0 (n:=2) (vs:=[_,_]) Z) Z<|fe ar Z (bP (e:=138) (m:=2) (z:=[N,N]) (cs:=[_,_]) O O O O<|bj Z Z Z Z bF) (fun _=>Z) (fun V b4 ar=>?_);replace ar:=ar.pull (.there (.dN<|cX.here (X:=M1)));replace ar:=ar.pull (.dN<|cX.here (X:=[_]));rw[List.singleton_append] at ar;refine fH (R:=RP) (m:=2) (e:=138) hO1 ar (di (m:=2) Z (show RP (i,q) [.int .i64 (.ofNat i),.int .i64 (.ofNat q)] from Z)) RP.leaf (by have:=kD (n:=nV g) (R:=BF g) (i:=i) (q:=q);have:i*nV g<=62*62:=Nat.mul_le_mul oM hvl;show _+1<=_;omega) Z Z Z Z Z Z Z (fun _=>Z) (fun V be a2 hO44 ar=>?_);refine Y Z (ft (e:=134) (m:=1) (n:=4) (j:=1) O O Z Z (by decide)) Z<|dX ar (.dN (.dN (.dN (.dN (.there .here))))) Z (aR Z Z hO44.leaf.1 ar.bR.bR.bR.bR.pop.g0 (m:=1) O Z (lb Z) (aj hO44.leaf.2 aI) (cells':=[_,_,_,_]) Z) Z (fun V ar=>?_);refine af ?_;replace ar:=ar.pull (.dN (.dN (.dN (.dN<|cX.here (X:=[_])))));rw[List.singleton_append] at ar;replace ar:=ar.pull (.there (.dN (.dN (.dN<|cX.here (X:=C)))));replace ar:=ar.pull (.dN (.there (.dN (.dN<|cX.here (X:=F)))));replace ar:=ar.pull (.dN (.dN (.there<|cX.here (X:=a2))));replace ar:=ar.pull (.dN (.dN (.dN (.there<|cX.here (X:=N0)))));exact⟨Z,oF,be,a2,(kF ao ▸ hO44),ar⟩
    refine So 3 Z<|aG ?_;exact⟨Z,oP Z<|oP Z<|oP Z<|oP Z<|oR _ _,Q,M1,(lR ao ▸ hO1),ar⟩
   clear ar;intro t V an hI;obtain⟨v1,N1,hP1,ar⟩:=hI;obtain⟨oo,rfl⟩:=an.q0 Z;refine iA (rg 46 10) (fun t V=>∃(v2:U) (N2:Own),cZ 2 138 RP (eO (nV g) (Ao g) i (q+1)) v2 N2/\D V K (N0++(N1++(N2++(C++((b3,.row [.int .i64 (.ofNat i),.int .i64 (.ofNat q)] 138 false)::(b2,.row [v0,v1,v2,E] 158 false)::(b1,.row [N,.az,N,.az,N,.az,N,.az] 112 false)::L)))))) ?_ ?_
   ·refine Sm 5 Z<|ga Z (TB Z Z Z) (fun _=>Z) (Rg hG hv hR hin hqn ar) (fun ap V ar=>?_) (fun ap V ar=>?_)
    ·refine Sp 4 Z<|Y Z (ft (e:=134) (m:=1) (n:=4) (j:=2) O O Z Z (by decide)) Z<|Y Z (TD Z ar.bR.bR.bR.bR.pop.g0 Z) Z<|Y Z (TE Z ar.bR.bR.bR.bR.g0 (n:=2) (vs:=[_,_]) Z) Z<|fe ar Z (bP (e:=138) (m:=2) (z:=[N,N]) (cs:=[_,_]) O O O O<|bj Z Z Z Z bF) (fun _=>Z) (fun V b4 ar=>?_);replace ar:=ar.pull (.there (.dN (.dN<|cX.here (X:=F))));replace ar:=ar.pull (.dN<|cX.here (X:=[_]));rw[List.singleton_append] at ar;refine fH (R:=RP) (m:=2) (e:=138) hO2 ar (di (m:=2) Z (show RP (i,q) [.int .i64 (.ofNat i),.int .i64 (.ofNat q)] from Z)) RP.leaf (by have:=kD (n:=nV g) (R:=Ao g) (i:=i) (q:=q);have:i*nV g<=62*62:=Nat.mul_le_mul oM hvl;show _+1<=_;omega) Z Z Z Z Z Z Z (fun _=>Z) (fun V bi a3 hO54 ar=>?_);refine Y Z (ft (e:=134) (m:=1) (n:=4) (j:=2) O O Z Z (by decide)) Z<|dX ar (.dN (.dN (.dN (.dN (.there .here))))) Z (aR Z Z hO54.leaf.1 ar.bR.bR.bR.bR.pop.g0 (m:=1) O Z (lb Z) (aj hO54.leaf.2 aI) (cells':=[_,_,_,_]) Z) Z (fun V ar=>?_);refine af ?_;replace ar:=ar.pull (.dN (.dN (.dN (.dN<|cX.here (X:=[_])))));rw[List.singleton_append] at ar;replace ar:=ar.pull (.there (.dN (.dN (.dN<|cX.here (X:=C)))));replace ar:=ar.pull (.dN (.there<|cX.here (X:=a3)));replace ar:=ar.pull (.dN (.dN (.there (.dN<|cX.here (X:=N1)))));replace ar:=ar.pull (.dN (.dN (.dN (.there<|cX.here (X:=N0)))));exact⟨Z,oF,bi,a3,(kF ap ▸ hO54),ar⟩
    refine So 3 Z<|aG ?_;exact⟨Z,oP Z<|oP Z<|oP Z<|oP Z<|oR _ _,I,F,(lR ap ▸ hO2),ar⟩
   clear ar;intro t V an hI;obtain⟨v2,N2,hP2,ar⟩:=hI;obtain⟨oo,rfl⟩:=an.q0 Z;refine Sm 5 Z<|ga Z (TB Z Z Z) (fun _=>Z) (Sy hG hv hR hin hqn ar) (fun a0 V ar=>?_) (fun a0 V ar=>?_)
   ·refine Sp 4 Z<|Y Z (ft (e:=134) (m:=1) (n:=4) (j:=3) O O Z Z (by decide)) Z<|Y Z (TD Z ar.bR.bR.bR.bR.pop.g0 Z) Z<|Y Z (TE Z ar.bR.bR.bR.bR.g0 (n:=2) (vs:=[_,_]) Z) Z<|fe ar Z (bP (e:=138) (m:=2) (z:=[N,N]) (cs:=[_,_]) O O O O<|bj Z Z Z Z bF) (fun _=>Z) (fun V b4 ar=>?_);replace ar:=ar.pull (.there (.dN (.dN (.dN<|cX.here (X:=C)))));replace ar:=ar.pull (.dN<|cX.here (X:=[_]));rw[List.singleton_append] at ar;refine fH (R:=RP) (m:=2) (e:=138) hO3 ar (di (m:=2) Z (show RP (i,q) [.int .i64 (.ofNat i),.int .i64 (.ofNat q)] from Z)) RP.leaf (by have:=kD (n:=nV g) (R:=DT g) (i:=i) (q:=q);have:i*nV g<=62*62:=Nat.mul_le_mul oM hvl;show _+1<=_;omega) Z Z Z Z Z Z Z (fun _=>Z) (fun V u64 a4 hO64 ar=>?_);refine Y Z (ft (e:=134) (m:=1) (n:=4) (j:=3) O O Z Z (by decide)) Z<|dX ar (.dN (.dN (.dN (.dN (.there .here))))) Z (aR Z Z hO64.leaf.1 ar.bR.bR.bR.bR.pop.g0 (m:=1) O Z (lb Z) (aj hO64.leaf.2 aI) (cells':=[_,_,_,_]) Z) Z (fun V ar=>?_);refine af<|aC<|ad<|ah Z ?_;replace ar:=ar.pull (.dN (.dN (.dN (.dN<|cX.here (X:=[_])))));rw[List.singleton_append] at ar;replace ar:=ar.pull (.there<|cX.here (X:=a4));replace ar:=ar.pull (.dN (.there (.dN (.dN<|cX.here (X:=N2)))));replace ar:=ar.pull (.dN (.dN (.there (.dN<|cX.here (X:=N1)))));replace ar:=ar.pull (.dN (.dN (.dN (.there<|cX.here (X:=N0)))));replace ar:=ar.sub (ec<|ec<|ec<|ec (.cons _ (.cons_cons _ (.cons_cons _ (.refl _)))));refine SX 4 Z<|aH ⟨j6-1,by omega,oF,q+1,v0,v1,v2,u64,N0,N1,N2,a4,by omega,hP0,hP1,hP2,(kF a0 ▸ hO64),cI<|aW oM,ar⟩
   refine RF 5 Z<|ad<|ah Z ?_;replace ar:=ar.sub (ec<|ec<|ec<|ec (.cons _ (.cons_cons _ (.cons_cons _ (.refl _)))));refine SX 4 Z<|aH ⟨j6-1,by omega,oF,q+1,v0,v1,v2,E,N0,N1,N2,C,by omega,hP0,hP1,hP2,(lR a0 ▸ hO3),cI<|aW oM,ar⟩
  refine RC 3 Z<|aL<|aC<|SV 5 Z ?_;have hlp:=bc aa;have bk:q=nV g:=by have:=bA ac;omega
  subst bk;refine aH ⟨j3-1,by omega,oF,i+1,S,Q,I,E,T,M1,F,C,by omega,(kE ▸ hO0),(kE ▸ hO1),(kE ▸ hO2),(kE ▸ hO3),cI<|aW oM,ar⟩
 refine RC 3 Z (aL (ad (al (aU (l:=[(0,[]),(1,[]),(2,[]),(3,[]),(4,[]),(5,[]),(7,[]),(8,[]),(9,[]),(10,[]),(11,[]),(12,[]),(14,[]),(15,[]),(16,[]),(17,[]),(18,[]),(19,[]),(21,[]),(22,[]),(23,[]),(24,[]),(25,[]),(26,[]),(6,[10,12,17,19,24,26]),(13,[17,19,24,26]),(20,[24,26]),(27,[]),(28,[]),(29,[])]) O O ?_))));have bl:i=nV g:=by have:=bA aa;omega
 subst bl;rw[qe] at hO0 hO1 hO2 hO3;obtain⟨W,ab,bm,bo,bp,bq,ar⟩:=ar.QU;replace hv:=hv.mono ab;have hs0:=hO0.jK (K:=W) fun y hy=>bm y hy
 have hs1:=hO1.jK (K:=W) fun y hy=>bo y hy
 have hs2:=hO2.jK (K:=W) fun y hy=>bp y hy
 have hs3:=hO3.jK (K:=W) fun y hy=>bq y hy
 refine wQ 1 Z<|ai Z Z (dK Z) Z<|ai Z Z (TC 6 Z) Z<|ai Z Z (TD Z (ar.eN hv.row) Z) Z<|ai Z Z (ft (e:=134) (m:=1) (n:=4) (j:=0) O O Z Z (by decide)) Z<|S3 ar 2 [0] Z Z<|ai Z Z (dK Z) Z<|ai Z Z (TC 6 Z) Z<|ai Z Z (TD Z (ar.eN hv.row) Z) Z<|ai Z Z (ft (e:=134) (m:=1) (n:=4) (j:=1) O O Z Z (by decide)) Z<|S3 ar 2 [0] Z Z<|ai Z Z (dK Z) Z<|ai Z Z (TC 6 Z) Z<|ai Z Z (TD Z (ar.eN hv.row) Z) Z ?_;refine ai Z Z (ft (e:=134) (m:=1) (n:=4) (j:=2) O O Z Z (by decide)) Z<|S3 ar 2 [0] Z Z<|ai Z Z (dK Z) Z<|ai Z Z (TC 6 Z) Z<|ai Z Z (TD Z (ar.eN hv.row) Z) Z<|ai Z Z (ft (e:=134) (m:=1) (n:=4) (j:=3) O O Z Z (by decide)) Z<|ai Z Z (TD Z ar.g0 Z) Z<|fB Z Z (TB Z Z Z) (fun _=>Z) (IC hG (n:=nV g) oM hs0 qf ar) ?_;rintro _ V ⟨c0,rfl,ar⟩;obtain⟨Kq0,u,a5,ar⟩:=D.cq (M:=[_]) ar;have hq0:=fE (a5 _<|mS_ ..) (cF (nV g) _) oM;rw[nW] at hq0;replace hs1:=hs1.mono u fun _ _ h=>h
 replace hs2:=hs2.mono u fun _ _ h=>h
 replace hs3:=hs3.mono u fun _ _ h=>h
 replace hv:=hv.mono u;have hleA0:=KP.le_trans ab u;refine⟨(bx (bC Z Z Z Z Z (TD Z (ar.eN hv.row) Z)<|ez _ _)<|bx (bC Z Z Z Z Z (TD Z ar.g0 Z) hs1.eh)<|bx (bC Z Z Z Z Z (TD Z (ar.eN hv.row) Z)<|ez _ _)<|bx (bC Z Z Z Z Z (TD Z ar.g0 Z) hs2.eh)<|bx (bC Z Z Z Z Z (TD Z (ar.eN hv.row) Z)<|ez _ _)<|bx (bC Z Z Z Z Z (TD Z ar.g0 Z) hs3.eh) ba),?_⟩;refine fB Z Z (TB Z Z Z) (fun _=>Z) (IC hG (n:=nV g) oM hs1 qf ar) ?_;rintro _ V ⟨c1,rfl,ar⟩;obtain⟨Kq1,w,a6,ar⟩:=D.cq (M:=[_]) ar;have hq1:=fE (a6 _<|mS_ ..) (cF (nV g) _) oM;rw[nW] at hq1;replace hq0:=hq0.mono w fun _ _ h=>h
 replace hs2:=hs2.mono w fun _ _ h=>h
 replace hs3:=hs3.mono w fun _ _ h=>h
 replace hv:=hv.mono w;have hleA1:=KP.le_trans hleA0 w;refine⟨(bx (bC Z Z Z Z Z (TD Z (ar.eN hv.row) Z)<|ez _ _)<|bx (bC Z Z Z Z Z (TD Z ar.g0 Z) hs2.eh)<|bx (bC Z Z Z Z Z (TD Z (ar.eN hv.row) Z)<|ez _ _)<|bx (bC Z Z Z Z Z (TD Z ar.g0 Z) hs3.eh) ba),?_⟩;refine fB Z Z (TB Z Z Z) (fun _=>Z) (IC hG (n:=nV g) oM hs2 qf ar) ?_;rintro _ V ⟨c2,rfl,ar⟩;obtain⟨Kq2,A,a7,ar⟩:=D.cq (M:=[_]) ar;have hq2:=fE (a7 _<|mS_ ..) (cF (nV g) _) oM;rw[nW] at hq2;replace hq0:=hq0.mono A fun _ _ h=>h
 replace hq1:=hq1.mono A fun _ _ h=>h
 replace hs3:=hs3.mono A fun _ _ h=>h
 replace hv:=hv.mono A;have hleA2:=KP.le_trans hleA1 A;refine⟨(bx (bC Z Z Z Z Z (TD Z (ar.eN hv.row) Z)<|ez _ _)<|bx (bC Z Z Z Z Z (TD Z ar.g0 Z) hs3.eh) ba),?_⟩;refine fB Z Z (TB Z Z Z) (fun _=>Z) (IC hG (n:=nV g) oM hs3 qf ar) ?_;rintro _ V ⟨c3,rfl,ar⟩;obtain⟨Kq3,B,a8,ar⟩:=D.cq (M:=[_]) ar;have hq3:=fE (a8 _<|mS_ ..) (cF (nV g) _) oM;rw[nW] at hq3;replace hq0:=hq0.mono B fun _ _ h=>h
 replace hq1:=hq1.mono B fun _ _ h=>h
 replace hq2:=hq2.mono B fun _ _ h=>h
 replace hv:=hv.mono B;have hleA3:=KP.le_trans hleA2 B;refine⟨ba,?_⟩;refine ai Z Z (TA (places:=[(0,2),(2,2),(4,2),(6,2)]) (zero:=[N,.az,N,.az,N,.az,N,.az]) (cs:=[_,_,_,_,_,_,_,_]) Z) Z<|oN ar Z Z (TJ Z Z Z ar.g1 (m:=8) Z (aj Z<|aj hq0.leaf.2<|aj Z<|aj hq1.leaf.2<|aj Z<|aj hq2.leaf.2<|aj Z<|aj hq3.leaf.2 aI) (cells':=[_,_,_,_,_,_,_,_]) Z) Z (fun V ar=>?_);refine⟨ba,?_⟩;refine Su 3 Z ?_;exact eM Z Z ar.g1 (m:=8) O Z ⟨_,_,_,_,_,Z,hleA3,hq0,hq1,hq2,hq3,ar.pop.pop⟩
theorem SA {G:Cx} (hG:Plain G) {K:KP} {g:XG} {b:Nat} {va vb vc vd iv ev:U} (hv:px K g b va vb vc vd iv ev) (hR:dO g) {V:aE} {L:Own} (ar:D V K L):
  bu Tryz.prog G 74 [.ptr b 0] V fun u V'=>∃K1 c,KP.le K K1/\u= .agg [.int .i64 (.ofNat<|nV g),.slice c 0 (nV g) (.known<|nV g)]/\D V' K1 ((c,.row ((bJ (nV g)<|LW g).map gU) 164 false)::L):=by
 have hvl:=p4 hR;refine SQ hG Tryz.func74 Z<|Sm 2 Z<|kp ar Z (TG (cs:=[N,.az])) (fun V b1 ar=>?_);refine Q8 14 Z (bf (rg 3 139) (fun j t V=>∃(w:Nat) (u:U) (M:Own),j+w=nV g/\cZ 2 138 RP (l1 g w) u M/\t.get 3=some (u)/\t.get 4=some (.int .i64 (.ofNat w))/\D V K (M++(b1,.row [N,.az] 110 false)::L)) (nV g) ⟨0,_,[],Z,.inl ⟨Z,Z,Z⟩,Z,Z,ar⟩ ?_);clear ar;intro j3 t V an hI;obtain⟨w,u,M,cx,hO,W,b6,ar⟩:=hI;obtain⟨oo,rfl⟩:=an.q2 W b6 Z;refine Ry 5 Z<|Y Z (dK Z) Z<|Y Z (TC 6 Z) Z<|Y Z (TD Z (ar.eN hv.row) Z) Z<|So 3 Z<|aD Z (fun a3=>?_) (fun a3=>?_)
 ·refine Qr 5 Z<|Sm 2 Z ?_;have hwn:=bc a3;refine SY 2 Z<|ga Z (TB Z Z Z) (fun _=>Z) (yt hG hv hwn ar) (fun a0 V ar=>?_) (fun a0 V ar=>?_)
  ·refine Y Z (da Z) Z<|SY 2 Z<|Y Z (dK Z) Z<|Y Z (TC 5 Z) Z<|Y Z (TD Z (ar.eN hv.row) Z) Z<|vQ 1 Z<|Tw (e:=59) (m:=5) hv.nL (fV hwn) Z Z Z Z (fun cy ch bm ci bo=>?_);obtain rfl:=bo;refine dy bm Z Z Z (k:=2) O (lb Z) (fun _=>Z) (fun c0 bp=>?_);refine Y Z (TH ar bp Z Z) Z<|So 4 Z<|aD Z (fun a4=>?_) (fun a4=>?_)
   ·refine bg<|aO<|aL<|SV 5 Z ?_;have cw:pf g w=false:=by unfold pf bh;rw[a0,show H (fg g w).order 1=true from a4];rfl
    refine aH ⟨j3-1,by omega,oF,w+1,u,M,by omega,(SC cw ▸ hO),Z,cI<|aW oM,ar⟩
   refine RB 6 Z ?_;have cw:pf g w=true:=by unfold pf bh;rw[a0,show H (fg g w).order 1=false from a4];rfl
   refine bz Z (TB Z Z Z) (fun _=>Z) (Fq hG hv hR hwn ar) (fun V ar=>?_);refine RD 9 Z (bf ([3,6,7,8]++rg 35 107) (fun j t V=>∃(bb:Nat) (u2:U) (M2:Own),j+bb=nV g/\cZ 2 138 RP (l1 g w++l2 g w bb) u2 M2/\t.get 3=some (u2)/\t.get 6=some (.int .i64 (.ofNat bb))/\D V K (M2++(b1,.row [N,.az] 110 false)::L)) (nV g) ⟨0,u,M,Z,(by rw[show l2 g w 0= [] from Z,List.append_nil];exact hO),Z,Z,ar⟩ ?_);clear ar;intro j8 t V an hI;obtain⟨bb,u2,M2,c1,hO2,W,b7,ar⟩:=hI;obtain⟨oo,rfl⟩:=an.q2 W b7 Z;refine Ry 5 Z<|Y Z (dK Z) Z<|Y Z (TC 6 Z) Z<|Y Z (TD Z (ar.eN hv.row) Z) Z<|So 3 Z<|aD Z (fun a5=>?_) (fun a5=>?_)
   ·refine Qr 5 Z<|Sm 2 Z ?_;have hbn:=bc a5;refine SY 2 Z<|ga Z (TB Z Z Z) (fun _=>Z) (AW hG hv hbn ar) (fun T V ar=>?_) (fun T V ar=>?_)
    ·refine Y Z (da Z) Z<|SY 2 Z<|Y Z (dK Z) Z<|Y Z (TC 5 Z) Z<|Y Z (TD Z (ar.eN hv.row) Z) Z<|vQ 1 Z<|Tw (e:=59) (m:=5) hv.nL (fV hbn) Z Z Z Z (fun c2 cj bq ck br=>?_);obtain rfl:=br;refine dy bq Z Z Z (k:=2) O (lb Z) (fun _=>Z) (fun c3 bs=>?_);refine Y Z (TH ar bs Z Z) Z<|SY 2 Z<|ky Z (aq Z) (fun a1=>?_) (fun a1=>?_)
     ·refine RH 14 Z<|aL<|SV 5 Z ?_;have cb:kT g w bb=false:=by unfold kT;rw[T,show H (fg g bb).order 1=true from a1];rfl
      refine aH ⟨j8-1,by omega,oF,bb+1,u2,M2,by omega,(SD cb ▸ hO2),Z,cI<|aW oM,ar⟩
     refine SY 3 Z ?_;obtain⟨f,hf,a6,_⟩:=td hR hbn T;refine bz Z (TB Z Z Z) (fun _=>Z) (by have q:=AU hG hv hR hbn ar;rw[a6] at q;exact q) (fun V ar=>?_);refine Y Z (iX (j:=f) oM O O O Z) Z<|So 6 Z<|aD Z (fun a7=>?_) (fun a7=>?_)
     ·refine bg<|aO<|aL<|SV 5 Z ?_;have cb:kT g w bb=false:=by unfold kT;rw[T,show H (fg g bb).order 1=false from a1,a6];show uT g w f=false;have e:=(Bq (x:=cS (nV g)<|uT g w) (j:=f) oM).symm.trans a7;rw[dt,decide_eq_true hf,Bool.true_and] at e;revert e;cases uT g w f<;>simp
      refine aH ⟨j8-1,by omega,oF,bb+1,u2,M2,by omega,(SD cb ▸ hO2),Z,cI<|aW oM,ar⟩
     refine RB 4 Z ?_;have cb:kT g w bb=true:=by unfold kT;rw[T,show H (fg g bb).order 1=false from a1,a6];show uT g w f=true;have e:=(Bq (x:=cS (nV g)<|uT g w) (j:=f) oM).symm.trans a7;rw[dt,decide_eq_true hf,Bool.true_and] at e;revert e;cases uT g w f<;>simp
     refine RD 4 Z (bf ([3,7,8]++rg 68 74) (fun j t V=>∃(r:Nat) (u3:U) (M3:Own),j+r=nV g/\cZ 2 138 RP (l1 g w++(l2 g w bb++l3 g w bb r)) u3 M3/\t.get 3=some (u3)/\t.get 7=some (.int .i64 (.ofNat r))/\D V K (M3++(b1,.row [N,.az] 110 false)::L)) (nV g) ⟨0,u2,M2,Z,(by rw[show l3 g w bb 0= [] from Z,List.append_nil];exact hO2),Z,Z,ar⟩ ?_);clear ar;intro ao t V an hI;obtain⟨r,u3,M3,cn,hO3,W,b8,ar⟩:=hI;obtain⟨oo,rfl⟩:=an.q2 W b8 Z;refine Ry 5 Z<|Y Z (dK Z) Z<|Y Z (TC 6 Z) Z<|Y Z (TD Z (ar.eN hv.row) Z) Z<|So 3 Z<|aD Z (fun a8=>?_) (fun a8=>?_)
     ·refine Qr 5 Z<|Sm 2 Z ?_;have hrn:=bc a8;refine SY 2 Z<|ga Z (TB Z Z Z) (fun _=>Z) (Ri hG hv hrn ar) (fun am V ar=>?_) (fun am V ar=>?_)
      ·refine Y Z (da Z) Z<|SY 4 Z<|ky Z (aq Z) (fun ap=>?_) (fun ap=>?_)
       ·refine vQ 1 Z<|Y Z (dK Z) Z<|Y Z (TC 5 Z) Z<|Y Z (TD Z (ar.eN hv.row) Z) Z<|vQ 1 Z<|Tw (e:=59) (m:=5) hv.nL (fV hrn) Z Z Z Z (fun c4 cp bt cv bv=>?_);obtain rfl:=bv;refine dy bt Z Z Z (k:=0) O (lb Z) (fun _=>Z) (fun c5 bw=>?_);refine Y Z (TH ar bw Z Z) Z<|vQ 1 Z<|ky Z (aq Z) (fun a2=>?_) (fun a2=>?_)
        ·refine RH 13 Z<|aL<|SV 5 Z ?_;have cr:jH g w r=false:=by unfold jH;rw[am,show H (.ofNat r) (.ofNat w)=false from bW ap,show H (fg g r).kind 4=false from bW a2];rfl
         refine aH ⟨ao-1,by omega,oF,r+1,u3,M3,by omega,(SE cr ▸ hO3),Z,cI<|aW oM,ar⟩
        refine SY 3 Z<|ga Z (TB Z Z Z) (fun _=>Z) (N4 hG hv hrn hwn ar) (fun a9 V ar=>?_) (fun a9 V ar=>?_)
        ·refine Y Z (da Z) Z<|So 6 Z<|RB 4 Z ?_;have cr:jH g w r=true:=by unfold jH;rw[am,show H (.ofNat r) (.ofNat w)=false from bW ap,show H (fg g r).kind 4=true from bK a2];exact a9
         refine RD 4 Z (bf ([3,8]++rg 103 39) (fun j t V=>∃(a:Nat) (u4:U) (M4:Own),j+a=nV g/\cZ 2 138 RP (l1 g w++(l2 g w bb++(l3 g w bb r++l4 g bb r a))) u4 M4/\t.get 3=some (u4)/\t.get 8=some (.int .i64 (.ofNat a))/\D V K (M4++(b1,.row [N,.az] 110 false)::L)) (nV g) ⟨0,u3,M3,Z,(by rw[show l4 g bb r 0= [] from Z,List.append_nil];exact hO3),Z,Z,ar⟩ ?_);clear ar;intro E t V an hI;obtain⟨a,u4,M4,b0,hO4,W,bd,ar⟩:=hI;obtain⟨oo,rfl⟩:=an.q2 W bd Z;refine Ry 5 Z<|Y Z (dK Z) Z<|Y Z (TC 6 Z) Z<|Y Z (TD Z (ar.eN hv.row) Z) Z<|So 3 Z<|aD Z (fun F=>?_) (fun F=>?_)
         ·refine Qs 6 Z ?_;have han:=bc F;refine SY 2 Z<|ga Z (TB Z Z Z) (fun _=>Z) (ON hG hv han ar) (fun A V ar=>?_) (fun A V ar=>?_)
          ·refine SY 4 Z<|ky Z (aq Z) (fun B=>?_) (fun B=>?_)
           ·refine Sp 24 Z<|Y Z (mI (e:=3) (n:=2) (m:=1) (zero:=[N,N]) (cs:=[_,_]) O O O Z) Z<|fe ar Z (bP (e:=138) (m:=2) (z:=[N,N]) (cs:=[_,_]) O O O O<|bj Z Z Z Z bF) (fun _=>Z) (fun V b2 ar=>?_);replace ar:=ar.pull (.there<|cX.here (X:=M4));replace ar:=ar.pull (.dN<|cX.here (X:=[_]));rw[List.singleton_append] at ar;refine fH (R:=RP) (m:=2) (e:=138) hO4 ar (di (m:=2) Z (show RP (r,a) [.int .i64 (.ofNat r),.int .i64 (.ofNat a)] from Z)) RP.leaf (Bm hR hwn hbn hrn han T) Z Z Z Z Z Z Z (fun _=>Z) (fun V I Q hO141 ar=>?_);refine SX 2 Z<|aC<|SV 5 Z ?_;have ca:fP g bb a=true:=by unfold fP;rw[A,show H (.ofNat a) (.ofNat bb)=true from B];rfl
            refine aH ⟨E-1,by omega,oF,a+1,I,Q,by omega,(RQ ca ▸ hO141),Z,cI<|aW oM,ar⟩
           refine vQ 1 Z<|Y Z (dK Z) Z<|Y Z (TC 5 Z) Z<|Y Z (TD Z (ar.eN hv.row) Z) Z<|vQ 1 Z<|Tw (e:=59) (m:=5) hv.nL (fV han) Z Z Z Z (fun b3 be aa bi ab=>?_);obtain rfl:=ab;refine dy aa Z Z Z (k:=0) O (lb Z) (fun _=>Z) (fun b4 ac=>?_);refine Y Z (TH ar ac Z Z) Z<|vQ 1 Z<|ky Z (aq Z) (fun C=>?_) (fun C=>?_)
           ·refine SY 3 Z<|ga Z (TB Z Z Z) (fun _=>Z) (N4 hG hv hbn han ar) (fun S V ar=>?_) (fun S V ar=>?_)
            ·refine Sp 10 Z<|Y Z (mI (e:=3) (n:=2) (m:=1) (zero:=[N,N]) (cs:=[_,_]) O O O Z) Z<|fe ar Z (bP (e:=138) (m:=2) (z:=[N,N]) (cs:=[_,_]) O O O O<|bj Z Z Z Z bF) (fun _=>Z) (fun V b2 ar=>?_);replace ar:=ar.pull (.there<|cX.here (X:=M4));replace ar:=ar.pull (.dN<|cX.here (X:=[_]));rw[List.singleton_append] at ar;refine fH (R:=RP) (m:=2) (e:=138) hO4 ar (di (m:=2) Z (show RP (r,a) [.int .i64 (.ofNat r),.int .i64 (.ofNat a)] from Z)) RP.leaf (Bm hR hwn hbn hrn han T) Z Z Z Z Z Z Z (fun _=>Z) (fun V I Q hO141 ar=>?_);refine SX 2 Z<|aC<|SV 5 Z ?_;have ca:fP g bb a=true:=by unfold fP;rw[A,show H (.ofNat a) (.ofNat bb)=false from B,show H (fg g a).kind 4=true from C];exact S
             refine aH ⟨E-1,by omega,oF,a+1,I,Q,by omega,(RQ ca ▸ hO141),Z,cI<|aW oM,ar⟩
            refine RF 8 Z<|SV 5 Z ?_;have ca:fP g bb a=false:=by unfold fP;rw[A,show H (.ofNat a) (.ofNat bb)=false from B,show H (fg g a).kind 4=true from C];exact S
            refine aH ⟨E-1,by omega,oF,a+1,u4,M4,by omega,(Qu ca ▸ hO4),Z,cI<|aW oM,ar⟩
           refine RF 12 Z<|SV 5 Z ?_;have ca:fP g bb a=false:=by unfold fP;rw[A,show H (.ofNat a) (.ofNat bb)=false from B,show H (fg g a).kind 4=false from C];rfl
           refine aH ⟨E-1,by omega,oF,a+1,u4,M4,by omega,(Qu ca ▸ hO4),Z,cI<|aW oM,ar⟩
          refine RF 27 Z<|SV 5 Z ?_;have ca:fP g bb a=false:=by unfold fP;rw[A];rfl
          refine aH ⟨E-1,by omega,oF,a+1,u4,M4,by omega,(Qu ca ▸ hO4),Z,cI<|aW oM,ar⟩
         refine RC 3 Z<|aL<|aC<|SV 5 Z ?_;have bk:a=nV g:=by have:=bA F;omega
         subst bk;refine aH ⟨ao-1,by omega,oF,r+1,u4,M4,by omega,(S5 cr ▸ hO4),Z,cI<|aW oM,ar⟩
        refine Y Z (da Z) Z<|RH 8 Z<|aL<|SV 5 Z ?_;have cr:jH g w r=false:=by unfold jH;rw[am,show H (.ofNat r) (.ofNat w)=false from bW ap,show H (fg g r).kind 4=true from bK a2];exact a9
        refine aH ⟨ao-1,by omega,oF,r+1,u3,M3,by omega,(SE cr ▸ hO3),Z,cI<|aW oM,ar⟩
       refine So 21 Z<|RB 4 Z ?_;have cr:jH g w r=true:=by unfold jH;rw[am,show H (.ofNat r) (.ofNat w)=true from bK ap];rfl
       refine RD 4 Z (bf ([3,8]++rg 103 39) (fun j t V=>∃(a:Nat) (u4:U) (M4:Own),j+a=nV g/\cZ 2 138 RP (l1 g w++(l2 g w bb++(l3 g w bb r++l4 g bb r a))) u4 M4/\t.get 3=some (u4)/\t.get 8=some (.int .i64 (.ofNat a))/\D V K (M4++(b1,.row [N,.az] 110 false)::L)) (nV g) ⟨0,u3,M3,Z,(by rw[show l4 g bb r 0= [] from Z,List.append_nil];exact hO3),Z,Z,ar⟩ ?_);clear ar;intro E t V an hI;obtain⟨a,u4,M4,b0,hO4,W,bd,ar⟩:=hI;obtain⟨oo,rfl⟩:=an.q2 W bd Z;refine Ry 5 Z<|Y Z (dK Z) Z<|Y Z (TC 6 Z) Z<|Y Z (TD Z (ar.eN hv.row) Z) Z<|So 3 Z<|aD Z (fun F=>?_) (fun F=>?_)
       ·refine Qs 6 Z ?_;have han:=bc F;refine SY 2 Z<|ga Z (TB Z Z Z) (fun _=>Z) (ON hG hv han ar) (fun A V ar=>?_) (fun A V ar=>?_)
        ·refine SY 4 Z<|ky Z (aq Z) (fun B=>?_) (fun B=>?_)
         ·refine Sp 24 Z<|Y Z (mI (e:=3) (n:=2) (m:=1) (zero:=[N,N]) (cs:=[_,_]) O O O Z) Z<|fe ar Z (bP (e:=138) (m:=2) (z:=[N,N]) (cs:=[_,_]) O O O O<|bj Z Z Z Z bF) (fun _=>Z) (fun V b2 ar=>?_);replace ar:=ar.pull (.there<|cX.here (X:=M4));replace ar:=ar.pull (.dN<|cX.here (X:=[_]));rw[List.singleton_append] at ar;refine fH (R:=RP) (m:=2) (e:=138) hO4 ar (di (m:=2) Z (show RP (r,a) [.int .i64 (.ofNat r),.int .i64 (.ofNat a)] from Z)) RP.leaf (Bm hR hwn hbn hrn han T) Z Z Z Z Z Z Z (fun _=>Z) (fun V I Q hO141 ar=>?_);refine SX 2 Z<|aC<|SV 5 Z ?_;have ca:fP g bb a=true:=by unfold fP;rw[A,show H (.ofNat a) (.ofNat bb)=true from B];rfl
          refine aH ⟨E-1,by omega,oF,a+1,I,Q,by omega,(RQ ca ▸ hO141),Z,cI<|aW oM,ar⟩
         refine vQ 1 Z<|Y Z (dK Z) Z<|Y Z (TC 5 Z) Z<|Y Z (TD Z (ar.eN hv.row) Z) Z<|vQ 1 Z<|Tw (e:=59) (m:=5) hv.nL (fV han) Z Z Z Z (fun b3 be aa bi ab=>?_);obtain rfl:=ab;refine dy aa Z Z Z (k:=0) O (lb Z) (fun _=>Z) (fun b4 ac=>?_);refine Y Z (TH ar ac Z Z) Z<|vQ 1 Z<|ky Z (aq Z) (fun C=>?_) (fun C=>?_)
         ·refine SY 3 Z<|ga Z (TB Z Z Z) (fun _=>Z) (N4 hG hv hbn han ar) (fun S V ar=>?_) (fun S V ar=>?_)
          ·refine Sp 10 Z<|Y Z (mI (e:=3) (n:=2) (m:=1) (zero:=[N,N]) (cs:=[_,_]) O O O Z) Z<|fe ar Z (bP (e:=138) (m:=2) (z:=[N,N]) (cs:=[_,_]) O O O O<|bj Z Z Z Z bF) (fun _=>Z) (fun V b2 ar=>?_);replace ar:=ar.pull (.there<|cX.here (X:=M4));replace ar:=ar.pull (.dN<|cX.here (X:=[_]));rw[List.singleton_append] at ar;refine fH (R:=RP) (m:=2) (e:=138) hO4 ar (di (m:=2) Z (show RP (r,a) [.int .i64 (.ofNat r),.int .i64 (.ofNat a)] from Z)) RP.leaf (Bm hR hwn hbn hrn han T) Z Z Z Z Z Z Z (fun _=>Z) (fun V I Q hO141 ar=>?_);refine SX 2 Z<|aC<|SV 5 Z ?_;have ca:fP g bb a=true:=by unfold fP;rw[A,show H (.ofNat a) (.ofNat bb)=false from B,show H (fg g a).kind 4=true from C];exact S
           refine aH ⟨E-1,by omega,oF,a+1,I,Q,by omega,(RQ ca ▸ hO141),Z,cI<|aW oM,ar⟩
          refine RF 8 Z<|SV 5 Z ?_;have ca:fP g bb a=false:=by unfold fP;rw[A,show H (.ofNat a) (.ofNat bb)=false from B,show H (fg g a).kind 4=true from C];exact S
          refine aH ⟨E-1,by omega,oF,a+1,u4,M4,by omega,(Qu ca ▸ hO4),Z,cI<|aW oM,ar⟩
         refine RF 12 Z<|SV 5 Z ?_;have ca:fP g bb a=false:=by unfold fP;rw[A,show H (.ofNat a) (.ofNat bb)=false from B,show H (fg g a).kind 4=false from C];rfl
         refine aH ⟨E-1,by omega,oF,a+1,u4,M4,by omega,(Qu ca ▸ hO4),Z,cI<|aW oM,ar⟩
        refine RF 27 Z<|SV 5 Z ?_;have ca:fP g bb a=false:=by unfold fP;rw[A];rfl
        refine aH ⟨E-1,by omega,oF,a+1,u4,M4,by omega,(Qu ca ▸ hO4),Z,cI<|aW oM,ar⟩
       refine RC 3 Z<|aL<|aC<|SV 5 Z ?_;have bk:a=nV g:=by have:=bA F;omega
       subst bk;refine aH ⟨ao-1,by omega,oF,r+1,u4,M4,by omega,(S5 cr ▸ hO4),Z,cI<|aW oM,ar⟩
      refine Y Z (da Z) Z<|RH 28 Z<|aL<|SV 5 Z ?_;have cr:jH g w r=false:=by unfold jH;rw[am];rfl
      refine aH ⟨ao-1,by omega,oF,r+1,u3,M3,by omega,(SE cr ▸ hO3),Z,cI<|aW oM,ar⟩
     refine RC 3 Z<|aL<|aC<|SV 5 Z ?_;have cc:r=nV g:=by have:=bA a8;omega
     subst cc;refine aH ⟨j8-1,by omega,oF,bb+1,u3,M3,by omega,(Tz cb ▸ hO3),Z,cI<|aW oM,ar⟩
    refine Y Z (da Z) Z<|RH 26 Z<|aL<|SV 5 Z ?_;have cb:kT g w bb=false:=by unfold kT;rw[T];rfl
    refine aH ⟨j8-1,by omega,oF,bb+1,u2,M2,by omega,(SD cb ▸ hO2),Z,cI<|aW oM,ar⟩
   refine RC 3 Z<|aL<|aC<|SV 5 Z ?_;have ce:bb=nV g:=by have:=bA a5;omega
   subst ce;refine aH ⟨j3-1,by omega,oF,w+1,u2,M2,by omega,(S4 cw ▸ hO2),Z,cI<|aW oM,ar⟩
  refine Y Z (da Z) Z<|RH 16 Z<|aL<|SV 5 Z ?_;have cw:pf g w=false:=by unfold pf;rw[a0];rfl
  refine aH ⟨j3-1,by omega,oF,w+1,u,M,by omega,(SC cw ▸ hO),Z,cI<|aW oM,ar⟩
 refine RC 3 Z<|aL<|Sm 3 Z<|Y Z (dK Z) Z<|Y Z (TC 6 Z) Z<|Y Z (TD Z (ar.eN hv.row) Z) Z<|vQ 1 Z ?_;have cg:w=nV g:=by have:=bA a3;omega
 subst cg;obtain⟨K1,b5,bl,ar⟩:=D.cq (M:=M) ar;have hs1:=hO.jK (K:=K1) fun y hy=>bl _ hy
 refine cM Z (TB Z Z Z) (fun _=>Z) (IC hG (n:=nV g) oM hs1 QW ar) ?_;rintro _ V ⟨b2,rfl,ar⟩;refine gS ar Z (TJ Z Z Z ar.g1 (m:=2) Z Z (cells':=[_,_]) Z) Z (fun V ar=>?_);refine Sr 3 Z ?_;exact eM Z Z ar.g1 (m:=2) O Z ⟨K1,b2,b5,Z,ar.sub (.cons_cons _ (.cons _ (.refl _)))⟩
structure BH (K:KP) (g:XG) (u0 u1 u2 u3 ue up ul us uh:U):Prop where
 po:bL K 1 RU (bJ (nV g)<|rR g) u0
 rf:bL K 1 RU (bJ (nV g)<|BF g) u1
 co:bL K 1 RU (bJ (nV g)<|Ao g) u2
 fr:bL K 1 RU (bJ (nV g)<|DT g) u3
 QM:bL K 1 RU (bJ (nV g)<|sM (nV g)<|qa [BF g,Ao g,DT g]) ue
 PR:bL K 1 RU (bJ (nV g)<|sM (nV g)<|qa [rR g,BF g]) up
 loc:bL K 1 RU (bJ (nV g)<|yT g) ul
 sw:bL K 1 RU (bJ (nV g)<|LW g) us
 hb:bL K 1 RU (bJ (nV g)<|sM (nV g)<|qa [rR g,LW g]) uh
theorem BH.mono {K K':KP} {g:XG} {j m u w ue up ul us uh:U} (h:BH K g j m u w ue up ul us uh) (hk:KP.le K K'):BH K' g j m u w ue up ul us uh:=⟨h.po.mono hk fun _ _ h=>h,h.rf.mono hk fun _ _ h=>h,h.co.mono hk fun _ _ h=>h,h.fr.mono hk fun _ _ h=>h,h.QM.mono hk fun _ _ h=>h,h.PR.mono hk fun _ _ h=>h,h.loc.mono hk fun _ _ h=>h,h.sw.mono hk fun _ _ h=>h,h.hb.mono hk fun _ _ h=>h⟩
def Qk:List U:=[N,.az,N,.az,N,.az,N,.az,N,.az,N,.az,N,.az,N,.az,N,.az]
def sY (n:Nat) (u0 u1 u2 u3 ue up ul us uh:U):List U:=[.int .i64 (.ofNat n),u0,.int .i64 (.ofNat n),u1,.int .i64 (.ofNat n),u2,.int .i64 (.ofNat n),u3,.int .i64 (.ofNat n),ue,.int .i64 (.ofNat n),up,.int .i64 (.ofNat n),ul,.int .i64 (.ofNat n),us,.int .i64 (.ofNat n),uh]
theorem Rc {G:Cx} (w:Plain G) {K:KP} {g:XG} {va vb vc vd:U} (hg:gY K g va vb vc vd) {V:aE} {L:Own} (ar:D V K L):
  bu Tryz.prog G 54 [.agg [va,vb,vc,vd]] V fun v V'=>(H (cV g) 0=false/\v= .tuple [.agg Qk,.int .i64 2]/\D V' K L)∨(dO g/\∃T u0 u1 A u3 ue up ul us uh,v= .tuple [.agg<|sY (nV g) u0 u1 A u3 ue up ul us uh,N]/\KP.le K T/\BH T g u0 u1 A u3 ue up ul us uh/\D V' T L):=by
 refine SQ w Tryz.func54 Z<|Sm 2 Z<|kp ar Z (cC Z Z) (fun V b1 ar=>?_);refine kp ar Z (TG (cs:=[N,.az,N,.az,N,.az,N,.az,N,.az,N,.az,N,.az,N,.az,N,.az])) (fun V b2 ar=>?_);refine RE 5 Z<|Y Z (TE Z ar.g1 (n:=4) (vs:=[_,_,_,_]) Z) Z<|cM Z (TB Z Z Z) (fun _=>Z) (P2 w hg ar) ?_;rintro _ V (⟨aa,rfl,ar⟩ | ⟨hR,T,b,a1,b1_,c1_,d1,iv,ev,rfl,hleA,hv,ar⟩)
 ·refine Q9 11 Z (Y Z (da Z) Z (RE 5 Z (Y Z (TA (places:=[(0,8),(8,10)]) (zero:=[N,.az,N,.az,N,.az,N,.az,N,.az,N,.az,N,.az,N,.az,N,.az]) (cs:=[_,_,_,_,_,_,_,_,_,_,_,_,_,_,_,_,_,_]) Z) Z ?_)));refine bZ ar Z (TJ Z Z Z ar.g0 (m:=18) Z Z (cells':=[_,_,_,_,_,_,_,_,_,_,_,_,_,_,_,_,_,_]) Z) Z (fun V ar=>?_);refine RG 5 Z ?_;exact cA Z Z ar.g0 (m:=18) O Z Z (.inl ⟨aa,Z,ar.pop.pop⟩)
 have hvl:=p4 hR;have hg0:=hg;clear hg;refine Q9 11 Z (Y Z (da Z) Z (So 3 Z (Q7 14 Z (bf ([6,7,8]++rg 18 26) (fun j t V=>∃(i:Nat) (u:U) (M:Own),j+i=nV g/\cZ 2 138 RP (eO (nV g) (yT g) i 0) u M/\t.get 6=some (u)/\t.get 7=some (.int .i64 (.ofNat i))/\D V T (M++(b2,.row [N,.az,N,.az,N,.az,N,.az,N,.az,N,.az,N,.az,N,.az,N,.az] 116 false)::(b1,.row [va,vb,vc,vd] 27 false)::L)) (nV g) ⟨0,_,[],Z,.inl ⟨Z,Z,Z⟩,Z,Z,ar⟩ ?_))));clear ar;intro j6 t V an hI;obtain⟨i,u,M,ap,hO,E,ab,ar⟩:=hI;obtain⟨oo,rfl⟩:=an.q2 E ab Z;refine Ry 5 Z<|Y Z (dK Z) Z<|Y Z (TC 6 Z) Z<|Y Z (TD Z (ar.eN hv.row) Z) Z<|So 3 Z<|aD Z (fun B=>?_) (fun B=>?_)
 ·refine Q7 9 Z (aJ (bf ([6,8]++rg 26 18) (fun j t V=>∃(q:Nat) (A:U) (W:Own),j+q=nV g/\cZ 2 138 RP (eO (nV g) (yT g) i q) A W/\t.get 6=some (A)/\t.get 8=some (.int .i64 (.ofNat q))/\D V T (W++(b2,.row [N,.az,N,.az,N,.az,N,.az,N,.az,N,.az,N,.az,N,.az,N,.az] 116 false)::(b1,.row [va,vb,vc,vd] 27 false)::L)) (nV g) ⟨0,u,M,Z,hO,Z,Z,ar⟩ ?_));clear ar;intro j9 t V an hI;obtain⟨q,A,W,a0,hO2,E,ac,ar⟩:=hI;obtain⟨oo,rfl⟩:=an.q2 E ac Z;refine Ry 5 Z<|Y Z (dK Z) Z<|Y Z (TC 6 Z) Z<|Y Z (TD Z (ar.eN hv.row) Z) Z<|So 3 Z<|aD Z (fun F=>?_) (fun F=>?_)
  ·refine Qs 6 Z ?_;have hin:=bc B;have hqn:=bc F;refine SY 3 Z<|ga Z (TB Z Z Z) (fun _=>Z) (Rh w hv hin hqn ar) (fun I V ar=>?_) (fun I V ar=>?_)
   ·refine Sp 7 Z<|Y Z (mI (e:=3) (n:=2) (m:=1) (zero:=[N,N]) (cs:=[_,_]) O O O Z) Z<|fe ar Z (bP (e:=138) (m:=2) (z:=[N,N]) (cs:=[_,_]) O O O O<|bj Z Z Z Z bF) (fun _=>Z) (fun V b3 ar=>?_);replace ar:=ar.pull (.there<|cX.here (X:=W));replace ar:=ar.pull (.dN<|cX.here (X:=[_]));rw[List.singleton_append] at ar;refine fH (R:=RP) (m:=2) (e:=138) hO2 ar (di (m:=2) Z (show RP (i,q) [.int .i64 (.ofNat i),.int .i64 (.ofNat q)] from Z)) RP.leaf (by have:=kD (n:=nV g) (R:=yT g) (i:=i) (q:=q);have:i*nV g<=62*62:=Nat.mul_le_mul oM hvl;show _+1<=_;omega) Z Z Z Z Z Z Z (fun _=>Z) (fun V am ao hO43 ar=>?_);refine SX 2 Z<|aC<|SV 5 Z<|aH ⟨j9-1,by omega,oF,q+1,am,ao,by omega,(kF I ▸ hO43),Z,cI<|aW oM,ar⟩
   refine RF 5 Z<|SV 5 Z<|aH ⟨j9-1,by omega,oF,q+1,A,W,by omega,(lR I ▸ hO2),Z,cI<|aW oM,ar⟩
  refine RC 3 Z<|aL<|aC<|SV 5 Z ?_;have hlp:=bc B;have Q:q=nV g:=by have:=bA F;omega
  subst Q;refine aH ⟨j6-1,by omega,oF,i+1,A,W,by omega,(kE ▸ hO2),Z,cI<|aW oM,ar⟩
 refine RC 3 Z<|aL<|Sm 2 Z ?_;have Q:i=nV g:=by have:=bA B;omega
 subst Q;rw[qe] at hO;refine vQ 1 Z<|cM Z (TB Z Z Z) (fun _=>Z) (N3 w hv hR ar) ?_;rintro _ V ⟨K2,u0,u1,A,u3,rfl,C,g0,g1,g2,g3,ar⟩;replace hv:=hv.mono C;replace hleA:=KP.le_trans hleA C;refine Y Z (TA (places:=[(0,8),(8,10)]) (zero:=[N,.az,N,.az,N,.az,N,.az,N,.az,N,.az,N,.az,N,.az,N,.az]) (cs:=[_,_,_,_,_,_,_,_,_,_,_,_,_,_,_,_,_,_]) Z) Z<|kp ar Z (TG (cs:=[N,.az,N,.az,N,.az,N,.az,N,.az,N,.az,N,.az,N,.az,N,.az])) (fun V b3 ar=>?_);refine bZ ar Z (TJ Z Z Z ar.g0 (m:=18) Z (aj Z<|aj g0.leaf.2<|aj Z<|aj g1.leaf.2<|aj Z<|aj g2.leaf.2<|aj Z<|aj g3.leaf.2 Z) (cells':=[_,_,_,_,_,_,_,_,_,_,_,_,_,_,_,_,_,_]) Z) Z (fun V ar=>?_);refine RM ar 6 [0,2] Z Z<|Y Z (TE Z ar.g0 (n:=2) (vs:=[_,_]) Z) Z<|S2 ar 2 [0,4] Z Z<|Y Z (TE Z ar.g0 (n:=2) (vs:=[_,_]) Z) Z<|S2 ar 2 [0,6] Z Z<|Y Z (TE Z ar.g0 (n:=2) (vs:=[_,_]) Z) Z<|fe ar Z (bP (e:=110) (m:=2) (z:=[N,.az]) (cs:=[_,_,_,_,_,_]) O O O O<|bj Z Z Z Z<|bj Z Z Z Z<|bj Z Z Z Z bF) (fun _=>Z) (fun V b4 ar=>?_);obtain⟨Kae,leae,memae,ar⟩:=D.cq (M:=[_]) ar;replace g0:=g0.mono leae fun _ _ h=>h
 replace g1:=g1.mono leae fun _ _ h=>h
 replace g2:=g2.mono leae fun _ _ h=>h
 replace g3:=g3.mono leae fun _ _ h=>h
 replace hv:=hv.mono leae;replace hleA:=KP.le_trans hleA leae;have hle:=IF (n:=nV g) (memae _<|mS_ ..) g1 g2 g3;refine cM Z (TB Z Z Z) (fun _=>Z) (Fp w (n:=nV g) oM hle (Nat.succ_pos _) ar) ?_;rintro _ V ⟨oe,rfl,ar⟩;obtain⟨Kkoe,lekoe,memkoe,ar⟩:=D.cq (M:=[_]) ar;replace g0:=g0.mono lekoe fun _ _ h=>h
 replace g1:=g1.mono lekoe fun _ _ h=>h
 replace g2:=g2.mono lekoe fun _ _ h=>h
 replace g3:=g3.mono lekoe fun _ _ h=>h
 replace hv:=hv.mono lekoe;replace hleA:=KP.le_trans hleA lekoe;have hoe:=fE (memkoe _<|mS_ ..) (cF (nV g)<|qa [BF g,Ao g,DT g]) oM;refine cM Z (TB Z Z Z) (fun _=>Z) (AS w (n:=nV g) oM hoe ar) ?_;rintro _ V ⟨Kpe,upe,lepe,rfl,hpe,ar⟩;replace g0:=g0.mono lepe fun _ _ h=>h
 replace g1:=g1.mono lepe fun _ _ h=>h
 replace g2:=g2.mono lepe fun _ _ h=>h
 replace g3:=g3.mono lepe fun _ _ h=>h
 replace hoe:=hoe.mono lepe fun _ _ h=>h
 replace hv:=hv.mono lepe;replace hleA:=KP.le_trans hleA lepe;refine S2 ar 2 [8,0] Z Z<|bZ ar Z (TJ Z Z Z ar.g0 (m:=2) Z (aj Z<|aj hpe.leaf.2 aI) (cells':=[_,_,_,_,_,_,_,_,_,_,_,_,_,_,_,_,_,_]) Z) Z (fun V ar=>?_);refine RM ar 6 [0,0] Z Z<|Y Z (TE Z ar.g0 (n:=2) (vs:=[_,_]) Z) Z<|S2 ar 2 [0,2] Z Z<|Y Z (TE Z ar.g0 (n:=2) (vs:=[_,_]) Z) Z<|fe ar Z (bP (e:=110) (m:=2) (z:=[N,.az]) (cs:=[_,_,_,_]) O O O O<|bj Z Z Z Z<|bj Z Z Z Z bF) (fun _=>Z) (fun V b5 ar=>?_);obtain⟨Kap,leap,memap,ar⟩:=D.cq (M:=[_]) ar;replace g0:=g0.mono leap fun _ _ h=>h
 replace g1:=g1.mono leap fun _ _ h=>h
 replace g2:=g2.mono leap fun _ _ h=>h
 replace g3:=g3.mono leap fun _ _ h=>h
 replace hoe:=hoe.mono leap fun _ _ h=>h
 replace hpe:=hpe.mono leap fun _ _ h=>h
 replace hv:=hv.mono leap;replace hleA:=KP.le_trans hleA leap;have hlp:=tE (n:=nV g) (memap _<|mS_ ..) g0 g1;refine cM Z (TB Z Z Z) (fun _=>Z) (Fp w (n:=nV g) oM hlp (Nat.succ_pos _) ar) ?_;rintro _ V ⟨op,rfl,ar⟩;obtain⟨Kkop,lekop,memkop,ar⟩:=D.cq (M:=[_]) ar;replace g0:=g0.mono lekop fun _ _ h=>h
 replace g1:=g1.mono lekop fun _ _ h=>h
 replace g2:=g2.mono lekop fun _ _ h=>h
 replace g3:=g3.mono lekop fun _ _ h=>h
 replace hoe:=hoe.mono lekop fun _ _ h=>h
 replace hpe:=hpe.mono lekop fun _ _ h=>h
 replace hv:=hv.mono lekop;replace hleA:=KP.le_trans hleA lekop;have hop:=fE (memkop _<|mS_ ..) (cF (nV g)<|qa [rR g,BF g]) oM;refine cM Z (TB Z Z Z) (fun _=>Z) (AS w (n:=nV g) oM hop ar) ?_;rintro _ V ⟨Kpp,upp,lepp,rfl,hpp,ar⟩;replace g0:=g0.mono lepp fun _ _ h=>h
 replace g1:=g1.mono lepp fun _ _ h=>h
 replace g2:=g2.mono lepp fun _ _ h=>h
 replace g3:=g3.mono lepp fun _ _ h=>h
 replace hoe:=hoe.mono lepp fun _ _ h=>h
 replace hpe:=hpe.mono lepp fun _ _ h=>h
 replace hop:=hop.mono lepp fun _ _ h=>h
 replace hv:=hv.mono lepp;replace hleA:=KP.le_trans hleA lepp;refine S2 ar 2 [8,2] Z Z<|bZ ar Z (TJ Z Z Z ar.g0 (m:=2) Z (aj Z<|aj hpp.leaf.2 aI) (cells':=[_,_,_,_,_,_,_,_,_,_,_,_,_,_,_,_,_,_]) Z) Z (fun V ar=>?_);refine RE 5 Z<|Y Z (dK Z) Z<|Y Z (TC 6 Z) Z<|Y Z (TD Z (ar.eN hv.row) Z) Z<|vQ 1 Z ?_;replace ar:=ar.pull (.there<|cX.here (X:=M));obtain⟨Kl,lel,meml,ar⟩:=D.cq (M:=M) ar;replace g0:=g0.mono lel fun _ _ h=>h
 replace g1:=g1.mono lel fun _ _ h=>h
 replace g2:=g2.mono lel fun _ _ h=>h
 replace g3:=g3.mono lel fun _ _ h=>h
 replace hoe:=hoe.mono lel fun _ _ h=>h
 replace hpe:=hpe.mono lel fun _ _ h=>h
 replace hop:=hop.mono lel fun _ _ h=>h
 replace hpp:=hpp.mono lel fun _ _ h=>h
 replace hv:=hv.mono lel;replace hleA:=KP.le_trans hleA lel;have hsl:=hO.jK (K:=Kl) fun y hy=>meml _ hy
 refine cM Z (TB Z Z Z) (fun _=>Z) (IC w (n:=nV g) oM hsl qf ar) ?_;rintro _ V ⟨ol,rfl,ar⟩;obtain⟨Kkl,lekl,memkl,ar⟩:=D.cq (M:=[_]) ar;replace g0:=g0.mono lekl fun _ _ h=>h
 replace g1:=g1.mono lekl fun _ _ h=>h
 replace g2:=g2.mono lekl fun _ _ h=>h
 replace g3:=g3.mono lekl fun _ _ h=>h
 replace hoe:=hoe.mono lekl fun _ _ h=>h
 replace hpe:=hpe.mono lekl fun _ _ h=>h
 replace hop:=hop.mono lekl fun _ _ h=>h
 replace hpp:=hpp.mono lekl fun _ _ h=>h
 replace hv:=hv.mono lekl;replace hleA:=KP.le_trans hleA lekl;have gl:=fE (memkl _<|mS_ ..) (cF (nV g)<|C2<|jf (nV g)<|yT g) oM;rw[nW] at gl;refine S2 ar 2 [8,4] Z Z<|bZ ar Z (TJ Z Z Z ar.g0 (m:=2) Z (aj Z<|aj gl.leaf.2 aI) (cells':=[_,_,_,_,_,_,_,_,_,_,_,_,_,_,_,_,_,_]) Z) Z (fun V ar=>?_);refine RE 5 Z<|cM Z (TB Z Z Z) (fun _=>Z) (SA w hv hR ar) ?_;rintro _ V ⟨Ks,os,les,rfl,ar⟩;replace g0:=g0.mono les fun _ _ h=>h
 replace g1:=g1.mono les fun _ _ h=>h
 replace g2:=g2.mono les fun _ _ h=>h
 replace g3:=g3.mono les fun _ _ h=>h
 replace hoe:=hoe.mono les fun _ _ h=>h
 replace hpe:=hpe.mono les fun _ _ h=>h
 replace hop:=hop.mono les fun _ _ h=>h
 replace hpp:=hpp.mono les fun _ _ h=>h
 replace gl:=gl.mono les fun _ _ h=>h
 replace hv:=hv.mono les;replace hleA:=KP.le_trans hleA les;obtain⟨Kks,leks,memks,ar⟩:=D.cq (M:=[_]) ar;replace g0:=g0.mono leks fun _ _ h=>h
 replace g1:=g1.mono leks fun _ _ h=>h
 replace g2:=g2.mono leks fun _ _ h=>h
 replace g3:=g3.mono leks fun _ _ h=>h
 replace hoe:=hoe.mono leks fun _ _ h=>h
 replace hpe:=hpe.mono leks fun _ _ h=>h
 replace hop:=hop.mono leks fun _ _ h=>h
 replace hpp:=hpp.mono leks fun _ _ h=>h
 replace gl:=gl.mono leks fun _ _ h=>h
 replace hv:=hv.mono leks;replace hleA:=KP.le_trans hleA leks;have gs:=fE (memks _<|mS_ ..) (cF (nV g)<|LW g) oM;refine S2 ar 2 [8,6] Z Z<|bZ ar Z (TJ Z Z Z ar.g0 (m:=2) Z (aj Z<|aj gs.leaf.2 aI) (cells':=[_,_,_,_,_,_,_,_,_,_,_,_,_,_,_,_,_,_]) Z) Z (fun V ar=>?_);refine RM ar 6 [0,0] Z Z<|Y Z (TE Z ar.g0 (n:=2) (vs:=[_,_]) Z) Z<|S2 ar 2 [8,6] Z Z<|Y Z (TE Z ar.g0 (n:=2) (vs:=[_,_]) Z) Z<|fe ar Z (bP (e:=110) (m:=2) (z:=[N,.az]) (cs:=[_,_,_,_]) O O O O<|bj Z Z Z Z<|bj Z Z Z Z bF) (fun _=>Z) (fun V b6 ar=>?_);obtain⟨Kah,leah,memah,ar⟩:=D.cq (M:=[_]) ar;replace g0:=g0.mono leah fun _ _ h=>h
 replace g1:=g1.mono leah fun _ _ h=>h
 replace g2:=g2.mono leah fun _ _ h=>h
 replace g3:=g3.mono leah fun _ _ h=>h
 replace hoe:=hoe.mono leah fun _ _ h=>h
 replace hpe:=hpe.mono leah fun _ _ h=>h
 replace hop:=hop.mono leah fun _ _ h=>h
 replace hpp:=hpp.mono leah fun _ _ h=>h
 replace gl:=gl.mono leah fun _ _ h=>h
 replace gs:=gs.mono leah fun _ _ h=>h
 replace hv:=hv.mono leah;replace hleA:=KP.le_trans hleA leah;have hlh:=tE (n:=nV g) (memah _<|mS_ ..) g0 gs;refine cM Z (TB Z Z Z) (fun _=>Z) (Fp w (n:=nV g) oM hlh (Nat.succ_pos _) ar) ?_;rintro _ V ⟨oh,rfl,ar⟩;obtain⟨Kkoh,lekoh,memkoh,ar⟩:=D.cq (M:=[_]) ar;replace g0:=g0.mono lekoh fun _ _ h=>h
 replace g1:=g1.mono lekoh fun _ _ h=>h
 replace g2:=g2.mono lekoh fun _ _ h=>h
 replace g3:=g3.mono lekoh fun _ _ h=>h
 replace hoe:=hoe.mono lekoh fun _ _ h=>h
 replace hpe:=hpe.mono lekoh fun _ _ h=>h
 replace hop:=hop.mono lekoh fun _ _ h=>h
 replace hpp:=hpp.mono lekoh fun _ _ h=>h
 replace gl:=gl.mono lekoh fun _ _ h=>h
 replace gs:=gs.mono lekoh fun _ _ h=>h
 replace hv:=hv.mono lekoh;replace hleA:=KP.le_trans hleA lekoh;have hoh:=fE (memkoh _<|mS_ ..) (cF (nV g)<|qa [rR g,LW g]) oM;refine cM Z (TB Z Z Z) (fun _=>Z) (AS w (n:=nV g) oM hoh ar) ?_;rintro _ V ⟨Kph,uph,leph,rfl,S,ar⟩;replace g0:=g0.mono leph fun _ _ h=>h
 replace g1:=g1.mono leph fun _ _ h=>h
 replace g2:=g2.mono leph fun _ _ h=>h
 replace g3:=g3.mono leph fun _ _ h=>h
 replace hoe:=hoe.mono leph fun _ _ h=>h
 replace hpe:=hpe.mono leph fun _ _ h=>h
 replace hop:=hop.mono leph fun _ _ h=>h
 replace hpp:=hpp.mono leph fun _ _ h=>h
 replace gl:=gl.mono leph fun _ _ h=>h
 replace gs:=gs.mono leph fun _ _ h=>h
 replace hoh:=hoh.mono leph fun _ _ h=>h
 replace hv:=hv.mono leph;replace hleA:=KP.le_trans hleA leph;refine S2 ar 2 [8,8] Z Z<|bZ ar Z (TJ Z Z Z ar.g0 (m:=2) Z (aj Z<|aj S.leaf.2 aI) (cells':=[_,_,_,_,_,_,_,_,_,_,_,_,_,_,_,_,_,_]) Z) Z (fun V ar=>?_);refine RE 4 Z<|Y Z (TE Z ar.g0 (n:=18) (vs:=[_,_,_,_,_,_,_,_,_,_,_,_,_,_,_,_,_,_]) Z) Z ?_;refine gS ar Z (TJ Z Z Z ar.g1 (m:=18) Z (aj Z<|aj g0.leaf.2<|aj Z<|aj g1.leaf.2<|aj Z<|aj g2.leaf.2<|aj Z<|aj g3.leaf.2<|aj Z<|aj hpe.leaf.2<|aj Z<|aj hpp.leaf.2<|aj Z<|aj gl.leaf.2<|aj Z<|aj gs.leaf.2<|aj Z<|aj S.leaf.2 aI) (cells':=[_,_,_,_,_,_,_,_,_,_,_,_,_,_,_,_,_,_]) Z) Z (fun V ar=>?_);refine Sr 4 Z ?_;exact cA Z Z ar.g1 (m:=18) O Z Z (.inr ⟨hR,_,_,_,_,_,_,_,_,_,_,Z,hleA,⟨g0,g1,g2,g3,hpe,hpp,gl,gs,S⟩,ar.pop.pop.pop⟩)
end Go.Ev
namespace Go.Ev
variable [Env]
section
variable {P:Program} {G:Cx} {n:Nat} {t:PT U} {V:aE} {K:KP} {L:Own} {Q:Ex->PT U->aE->Prop} {ops:Array Oper} {o:Oper} {i:Nat} {rc:List Nat} {l:List (Nat×List Nat)}
theorem uv {t':PT U} (hi:ops[i]?=some o) (hw:bM ops t o=some false) (hp:dJ t n o.dst unit=some t') (h:dk P G ops t' V rc=true/\cm P G ops n l t' V Q):cm P G ops n ((i,rc)::l) t V Q:=by
 obtain⟨hs,K,e,j,m,h1,u⟩:=h;refine⟨K,e,j,m,fun d k hk=>?_,u⟩
 show(match ops[i]? with
  | some o=>iB P G (ep P G k) false ops n o t V (fun t' V'=>bif dk P G ops t' V' rc then jR P G (ep P G k) ops n d l t' V' else .err 86)
  | none=>.err 87)=_
 grind [iB]
end
end Go.Ev
namespace Go.Ev
variable [Env]
open Go.Proofs
set_option maxRecDepth 4000
set_option maxHeartbeats 8000000
theorem Pk {G:Cx} (B:Plain G) {K:KP} (op:Int) {V:aE} {L:Own} (ar:D V K L):bu Tryz.prog G 120 [.int .i64 op] V fun v V'=>v= .int .i64 (rN op)/\D V' K L:=by
 refine SQ B Tryz.func120 Z<|Rx 7 Z<|Sm 4 Z<|ky Z (aq Z) (fun w=>?_) (fun w=>?_)
 ·refine Sr 13 Z<|aK<|aA (?_);exact aB Z Z ⟨cJ (by unfold rN bh;simp only[w,ct,cf]<;>rfl),ar⟩
 refine So 6 Z<|aD Z (fun z=>?_) (fun z=>?_)
 ·refine SW 6 Z<|aK<|aA (?_);exact aB Z Z ⟨cJ (by unfold rN bh;simp only[w,z,ct,cf]<;>rfl),ar⟩
 refine Sm 4 Z<|ky Z (aq Z) (fun j=>?_) (fun j=>?_)
 ·refine Sr 13 Z<|aK<|aA (?_);exact aB Z Z ⟨cJ (by unfold rN bh;simp only[w,z,j,ct,cf]<;>rfl),ar⟩
 refine So 6 Z<|aD Z (fun m=>?_) (fun m=>?_)
 ·refine SW 6 Z<|aK<|aA (?_);exact aB Z Z ⟨cJ (by unfold rN bh;simp only[w,z,j,m,ct,cf]<;>rfl),ar⟩
 refine Sm 4 Z<|ky Z (aq Z) (fun u=>?_) (fun u=>?_)
 ·refine So 6 Z<|aD Z (fun A=>?_) (fun A=>?_)
  ·refine SW 6 Z<|aK<|aA (?_);exact aB Z Z ⟨cJ (by unfold rN bh;simp only[w,z,j,m,u,A,ct,cf]<;>rfl),ar⟩
  refine aG<|aC<|SW 6 Z ?_;exact aB Z Z ⟨cJ (by unfold rN bh;simp only[w,z,j,m,u,A,ct,cf]<;>rfl),ar⟩
 refine RF 9 Z<|SW 6 Z ?_;exact aB Z Z ⟨cJ (by unfold rN bh;simp only[w,z,j,m,u,ct,cf]<;>rfl),ar⟩
theorem JL {G:Cx} (u:Plain G) {K:KP} (c:Nat) {V:aE} {L:Own} (ar:D V K L):bu Tryz.prog G 131 [.int .u8 (.ofNat c)] V fun v V'=>v= .bool (AH c)/\D V' K L:=by
 refine SQ u Tryz.func131 Z<|Sm 9 Z<|ky Z (aq Z) (fun h5=>?_) (fun h5=>?_)
 ·refine SY 3 Z<|ky Z (aq Z) (fun m=>?_) (fun m=>?_)
  ·refine Sr 11 Z ?_;exact aB Z Z ⟨congrArg (U.bool) (by unfold AH bh;simp only[h5,m,ct,cf]<;>rfl),ar⟩
  refine SY 2 Z<|ky Z (aq Z) (fun j=>?_) (fun j=>?_)
  ·refine Sr 8 Z ?_;exact aB Z Z ⟨congrArg (U.bool) (by unfold AH bh;simp only[h5,m,j,ct,cf]<;>rfl),ar⟩
  refine Sr 8 Z ?_;exact aB Z Z ⟨congrArg (U.bool) (by unfold AH bh;simp only[h5,m,j,ct,cf]<;>rfl),ar⟩
 refine SY 6 Z<|ky Z (aq Z) (fun j=>?_) (fun j=>?_)
 ·refine Sr 8 Z ?_;exact aB Z Z ⟨congrArg (U.bool) (by unfold AH bh;simp only[h5,j,ct,cf]<;>rfl),ar⟩
 refine Sr 8 Z ?_;exact aB Z Z ⟨congrArg (U.bool) (by unfold AH bh;simp only[h5,j,ct,cf]<;>rfl),ar⟩
theorem M6 {G:Cx} (j:Plain G) {K:KP} (c:Nat) {V:aE} {L:Own} (ar:D V K L):bu Tryz.prog G 132 [.int .u8 (.ofNat c)] V fun v V'=>v= .bool (HD c)/\D V' K L:=by
 refine SQ j Tryz.func132 Z<|Sm 9 Z<|ky Z (aq Z) (fun h5=>?_) (fun h5=>?_)
 ·refine Sr 7 Z ?_;exact aB Z Z ⟨congrArg (U.bool) (by unfold HD bh;simp only[h5,ct,cf]<;>rfl),ar⟩
 refine Sr 7 Z ?_;exact aB Z Z ⟨congrArg (U.bool) (by unfold HD bh;simp only[h5,ct,cf]<;>rfl),ar⟩
theorem kU {G:Cx} (w:Plain G) {K:KP} (x:Int) {V:aE} {L:Own} (ar:D V K L):bu Tryz.prog G 109 [.int .i64 x] V fun v V'=>v= .bool (rq x)/\D V' K L:=by
 refine SQ w Tryz.func109 Z<|Sm 9 Z<|ky Z (aq Z) (fun h5=>?_) (fun h5=>?_)
 ·refine Sr 19 Z ?_;exact aB Z Z ⟨congrArg (U.bool) (by unfold rq;simp only[h5,ct,cf]<;>rfl),ar⟩
 refine SY 3 Z<|ky Z (aq Z) (fun u=>?_) (fun u=>?_)
 ·refine Sr 15 Z ?_;exact aB Z Z ⟨congrArg (U.bool) (by unfold rq;simp only[h5,u,ct,cf]<;>rfl),ar⟩
 refine SY 3 Z<|ky Z (aq Z) (fun j=>?_) (fun j=>?_)
 ·refine Sr 11 Z ?_;exact aB Z Z ⟨congrArg (U.bool) (by unfold rq;simp only[h5,u,j,ct,cf]<;>rfl),ar⟩
 refine SY 3 Z<|ky Z (aq Z) (fun m=>?_) (fun m=>?_)
 ·refine Sr 7 Z ?_;exact aB Z Z ⟨congrArg (U.bool) (by unfold rq;simp only[h5,u,j,m,ct,cf]<;>rfl),ar⟩
 refine Sr 7 Z ?_;exact aB Z Z ⟨congrArg (U.bool) (by unfold rq;simp only[h5,u,j,m,ct,cf]<;>rfl),ar⟩
theorem M8 {G:Cx} (Q:Plain G) {K:KP} (x:Int) {V:aE} {L:Own} (ar:D V K L):bu Tryz.prog G 110 [.int .i64 x] V fun v V'=>v= .int .i64 (fW x)/\D V' K L:=by
 refine SQ Q Tryz.func110 Z<|Rx 12 Z<|Ry 3 Z<|ky Z (ax Z Z Z) (fun h5=>?_) (fun h5=>?_)
 ·refine RG 13 Z<|aK<|aA (?_);exact aB Z Z ⟨cJ (by unfold fW;simp only[h5,ct,cf]<;>rfl),ar⟩
 refine RE 6 Z<|ky Z (ax Z Z Z) (fun z=>?_) (fun z=>?_)
 ·refine RG 13 Z<|aK<|aA (?_);exact aB Z Z ⟨cJ (by unfold fW;simp only[h5,z,ct,cf]<;>rfl),ar⟩
 refine RE 6 Z<|ky Z (ax Z Z Z) (fun A=>?_) (fun A=>?_)
 ·refine RG 13 Z<|aK<|aA (?_);exact aB Z Z ⟨cJ (by unfold fW;simp only[h5,z,A,ct,cf]<;>rfl),ar⟩
 refine RE 6 Z<|ky Z (ax Z Z Z) (fun C=>?_) (fun C=>?_)
 ·refine RG 13 Z<|aK<|aA (?_);exact aB Z Z ⟨cJ (by unfold fW;simp only[h5,z,A,C,ct,cf]<;>rfl),ar⟩
 refine RE 6 Z<|ky Z (ax Z Z Z) (fun E=>?_) (fun E=>?_)
 ·refine RG 13 Z<|aK<|aA (?_);exact aB Z Z ⟨cJ (by unfold fW;simp only[h5,z,A,C,E,ct,cf]<;>rfl),ar⟩
 refine RE 6 Z<|ky Z (ax Z Z Z) (fun j=>?_) (fun j=>?_)
 ·refine RG 13 Z<|aK<|aA (?_);exact aB Z Z ⟨cJ (by unfold fW;simp only[h5,z,A,C,E,j,ct,cf]<;>rfl),ar⟩
 refine Sp 5 Z<|ky Z (ax Z Z Z) (fun m=>?_) (fun m=>?_)
 ·refine Sr 10 Z<|aK<|aA (?_);exact aB Z Z ⟨cJ (by unfold fW;simp only[h5,z,A,C,E,j,m,ct,cf]<;>rfl),ar⟩
 refine RE 6 Z<|ky Z (ax Z Z Z) (fun u=>?_) (fun u=>?_)
 ·refine Sr 10 Z<|aK<|aA (?_);exact aB Z Z ⟨cJ (by unfold fW;simp only[h5,z,A,C,E,j,m,u,ct,cf]<;>rfl),ar⟩
 refine Q9 7 Z<|ky Z (ax Z Z Z) (fun w=>?_) (fun w=>?_)
 ·refine RG 13 Z<|aK<|aA (?_);exact aB Z Z ⟨cJ (by unfold fW;simp only[h5,z,A,C,E,j,m,u,w,ct,cf]<;>rfl),ar⟩
 refine RE 6 Z<|ky Z (ax Z Z Z) (fun B=>?_) (fun B=>?_)
 ·refine RG 13 Z<|aK<|aA (?_);exact aB Z Z ⟨cJ (by unfold fW;simp only[h5,z,A,C,E,j,m,u,w,B,ct,cf]<;>rfl),ar⟩
 refine RE 6 Z<|ky Z (ax Z Z Z) (fun F=>?_) (fun F=>?_)
 ·refine RG 13 Z<|aK<|aA (?_);exact aB Z Z ⟨cJ (by unfold fW;simp only[h5,z,A,C,E,j,m,u,w,B,F,ct,cf]<;>rfl),ar⟩
 refine RE 6 Z<|ky Z (ax Z Z Z) (fun I=>?_) (fun I=>?_)
 ·refine RG 13 Z<|aK<|aA (?_);exact aB Z Z ⟨cJ (by unfold fW;simp only[h5,z,A,C,E,j,m,u,w,B,F,I,ct,cf]<;>rfl),ar⟩
 refine Sp 5 Z<|ky Z (ax Z Z Z) (fun M=>?_) (fun M=>?_)
 ·refine Sr 10 Z<|aK<|aA (?_);exact aB Z Z ⟨cJ (by unfold fW;simp only[h5,z,A,C,E,j,m,u,w,B,F,I,M,ct,cf]<;>rfl),ar⟩
 refine RF 6 Z<|SW 6 Z ?_;exact aB Z Z ⟨cJ (by unfold fW;simp only[h5,z,A,C,E,j,m,u,w,B,F,I,M,ct,cf]<;>rfl),ar⟩
theorem EB {G:Cx} (m:Plain G) {K:KP} (x:Int) {V:aE} {L:Own} (ar:D V K L):bu Tryz.prog G 111 [.int .i64 x] V fun v V'=>v= .bool (lf x)/\D V' K L:=by
 refine SQ m Tryz.func111 Z<|Sm 9 Z<|ky Z (aq Z) (fun h5=>?_) (fun h5=>?_)
 ·refine Sr 11 Z ?_;exact aB Z Z ⟨congrArg (U.bool) (by unfold lf bh;simp only[h5,ct,cf]<;>rfl),ar⟩
 refine vQ 1 Z<|bz Z (TB Z Z Z) (fun _=>Z) (kU m _ ar) (fun V ar=>?_);refine ky Z (aq Z) (fun j=>?_) (fun j=>?_)
 ·refine Sr 8 Z ?_;exact aB Z Z ⟨congrArg (U.bool) (by unfold lf bh;simp only[h5,j,ct,cf]<;>rfl),ar⟩
 refine Sr 8 Z ?_;exact aB Z Z ⟨congrArg (U.bool) (by unfold lf bh;simp only[h5,j,ct,cf]<;>rfl),ar⟩
theorem Kw {K:KP} {b e:Nat} (h:K b (.row (pk.map U.str) e false)):bL K 1 fJ pk (.slice b 0 20 (.known 20)):=by
 refine .inr ⟨b,0,.known 20,_,e,false,Z,.inr ⟨20,Z,by decide⟩,h,by decide,by decide,fun i x hx=>?_⟩;rw[nA_,Nat.mul_one];have:(pk.map U.str)[i]?=some (.str x):=by rw[gM_,hx];rfl
 rw[cu this];rfl
theorem Pj {G:Cx} (j:Plain G) {K:KP} {V:aE} {L:Own} (ar:D V K L):bu Tryz.prog G 135 [] V fun v V'=>∃M,bL (K.g9 M) 1 fJ pk v/\D V' K (M++L):=by
 refine SQ j Tryz.func135 Z<|Sm 7 Z<|fe ar Z (bP (e:=9) (m:=1) (z:=[.str []]) (cs:=pk.map U.str) O O O O (by rfl)) (fun _=>Z) (fun V u ar=>?_);refine Sr 4 Z ?_;exact aB Z Z ⟨[(u,.row (pk.map U.str) 9 false)],Kw (.inr (.head _)),ar⟩
theorem Pl {G:Cx} (F:Plain G) {K:KP} (s:List Nat) {V:aE} {L:Own} (ar:D V K L):bu Tryz.prog G 133 [.str s] V fun v V'=>v= .int .i64 (bif isKey s then 2 else 1)/\D V' K L:=by
 refine SQ F Tryz.func133 Z<|Sm 7 Z<|cM Z (TB Z Z Z) (fun _=>Z) (Pj F ar) ?_;rintro u V ⟨M,hk,ar⟩;replace ar:=ar.keeps;have am:pk.length=20:=rfl;refine Q8 10 Z ?_;obtain⟨LL1,ar,hLL1⟩:=ar.named;refine bf ([2,4]++rg 6 12) (fun j t V=>∃(i:Nat),j+i=pk.length/\(pk.take i).any (fun k=>gK k s)=false/\t.get 4=some (.int .i64 (.ofNat i))/\D V (K.g9 M) LL1) (pk.length) ⟨0,Z,Z,Z,ar⟩ ?_;clear ar;intro Q t V an R;obtain⟨i,hj,I,C,ar⟩:=R;subst hLL1;obtain⟨oo,rfl⟩:=an.q1 C Z;refine Ry 5 Z<|Y Z (TF hk Z Z Z (e:=9) Z) Z<|So 3 Z<|aD Z (fun E=>?_) (fun E=>?_)
 ·refine Qs 8 Z ?_;obtain⟨ao,w,aa⟩:=cK E;refine Tw (e:=9) (m:=1) hk w Z Z Z Z (fun ap ab A ac B=>?_);obtain rfl:=B;refine Y Z (TH ar A Z Z) Z<|So 4 Z<|aD Z (fun z=>?_) (fun z=>?_)
  ·refine SW 6 Z<|aK<|aA<|bD<|aK<|aA (?_);exact aB Z Z ⟨cJ (by rw[show isKey s=true from Eg w z];rfl),ar.weaken<|KP.dj _ _⟩
  refine aG<|aC<|SV 5 Z<|aH ⟨Q-1,by omega,oF,i+1,by omega,wO I w z,cI<|aW oM,ar⟩
 refine RC 3 Z<|aL<|SW 6 Z ?_;exact aB Z Z ⟨cJ (by rw[show isKey s=false from lC I (bA E)];rfl),ar.weaken<|KP.dj _ _⟩
theorem OC {s:List Nat} {V:aE} {K:KP} {L:Own} (h:dP true s=false) (ar:D V K L):∃m,U.tuple [N,.bool false]= .tuple [.int .i64 m,.bool (bif dP true s then bh (gK s []) else false)]/\(gK s []=false->dP true s=true->m=bif isKey s then 2 else 1)/\D V K L:=by
 rw[h];exact⟨_,Z,(fun _ h=>by cases h),ar⟩
theorem Pb {s:List Nat} {V:aE} {K:KP} {L:Own} (h:gK s []=true) (ar:D V K L):∃m,U.tuple [N,.bool false]= .tuple [.int .i64 m,.bool (bif dP true s then bh (gK s []) else false)]/\(gK s []=false->dP true s=true->m=bif isKey s then 2 else 1)/\D V K L:=by
 rw[h];exact⟨_,(by cases dP true s<;>rfl),(fun h=>by cases h),ar⟩
theorem Pc {s:List Nat} {V:aE} {K:KP} {L:Own} (hc:dP true s=true) (h:gK s []=false) (ar:D V K L):∃m,U.tuple [.int .i64 (bif isKey s then 2 else 1),.bool true]= .tuple [.int .i64 m,.bool (bif dP true s then bh (gK s []) else false)]/\(gK s []=false->dP true s=true->m=bif isKey s then 2 else 1)/\D V K L:=by
 rw[h,hc];exact⟨_,Z,fun _ _=>Z,ar⟩
theorem M5 {G:Cx} (F:Plain G) {K:KP} (s:List Nat) (hlen:s.length<=9223372036854775807) {V:aE} {L:Own} (ar:D V K L):bu Tryz.prog G 127 [.str s] V fun v V'=>∃m,v= .tuple [.int .i64 m,.bool (bif dP true s then bh (gK s []) else false)]/\(gK s []=false->dP true s=true->m=bif isKey s then 2 else 1)/\D V' K L:=by
 refine SQ F Tryz.func127 Z<|Rx 13 Z ?_;obtain⟨LL1,ar,hLL1⟩:=ar.named;refine bf (rg 2 31) (fun j t V=>∃(i:Nat),j+i=du s/\dP true s=dP (H (.ofNat i) 0) (s.drop i)/\t.get 4=some (.int .i64 (.ofNat i))/\D V K LL1) (du s) ⟨0,Z,Z,Z,ar⟩ ?_;clear ar;intro I t V an Q;obtain⟨i,hj,he,M,ar⟩:=Q;subst hLL1;obtain⟨oo,rfl⟩:=an.q1 M Z;refine Ry 5 Z<|Y Z (om Z Z Z O Z) Z<|So 3 Z<|aD Z (fun z=>?_) (fun z=>?_)
 ·refine Qs 8 Z ?_;obtain⟨aa,u⟩:=cL (show i<s.length from by have:=bc z;rwa[bY] at this);refine Y Z (kO O Z Z u) Z<|ga Z (TB Z Z Z) (fun _=>Z) (JL F _ ar) (fun w V ar=>?_) (fun w V ar=>?_)
  ·refine Y Z (da Z) Z (RF 22 Z (SV 5 Z (aH ⟨I-1,by have:=bc z;omega,oF,i+1,by have:=bc z;omega,he.trans<|sl u (by unfold v8 bh;simp only[w,ct,cf]<;>rfl),cI<|aW (by have:=bc z;rw[bY] at this;omega),ar⟩)))
  refine Y Z (da Z) Z<|SY 3 Z<|ky Z (aq Z) (fun A=>?_) (fun A=>?_)
  ·refine Sr 23 Z<|aK<|aA<|bD<|aK<|aA (?_);exact dA Z Z Z<|OC (he.trans<|wW u (by unfold v8 bh;simp only[w,A,ct,cf]<;>rfl)) ar
  refine SY 2 Z<|Y Z (kO O Z Z u) Z<|ga Z (TB Z Z Z) (fun _=>Z) (M6 F _ ar) (fun B V ar=>?_) (fun B V ar=>?_)
  ·refine Y Z (da Z) Z (RF 13 Z (SV 5 Z (aH ⟨I-1,by have:=bc z;omega,oF,i+1,by have:=bc z;omega,he.trans<|sl u (by unfold v8 bh;simp only[w,A,B,ct,cf]<;>rfl),cI<|aW (by have:=bc z;rw[bY] at this;omega),ar⟩)))
  refine Y Z (da Z) Z<|SY 3 Z<|Y Z (kO O Z Z u) Z<|So 6 Z<|aD Z (fun C=>?_) (fun C=>?_)
  ·refine SW 7 Z<|aK<|aA<|bD<|aK<|aA (?_);exact dA Z Z Z<|OC (he.trans<|wW u (by unfold v8 bh;simp only[w,A,B,C,ct,cf]<;>rfl)) ar
  refine aG (aC (SV 5 Z (aH ⟨I-1,by have:=bc z;omega,oF,i+1,by have:=bc z;omega,he.trans<|sl u (by unfold v8 bh;simp only[w,A,B,C,ct,cf]<;>rfl),cI<|aW (by have:=bc z;rw[bY] at this;omega),ar⟩)))
 refine RC 3 Z<|aL<|Sl 7 Z<|aD Z (fun E=>?_) (fun E=>?_)
 ·refine Sn 8 Z ?_;exact dA Z Z Z<|Pb E ar
 refine RB 5 Z<|bz Z (TB Z Z Z) (fun _=>Z) (Pl F _ ar) (fun V ar=>?_);refine Sr 5 Z ?_;exact dA Z Z Z<|Pc (he.trans<|Hu (by have:=bA z;rwa[bY] at this)) E ar
theorem Mh {s:List Nat} {m:Int} (h:(bif dP true s then bh (gK s []) else false)=true) (hm:gK s []=false->dP true s=true->m=bif isKey s then 2 else 1):H m 1=jY s:=by
 have h1:dP true s=true:=by cases hc:dP true s with | true=>rfl | false=>rw[hc] at h;cases h
 have j:gK s []=false:=by rw[h1] at h;exact Q1.1 h
 rw[hm j h1];unfold jY;rw[h1,j];cases isKey s<;>rfl
theorem Ot {s:List Nat} (h:(bif dP true s then bh (gK s []) else false)=false):false=jY s:=by
 unfold jY;cases hc:dP true s with
 | false=>rfl
 | true=>
  rw[hc] at h;rw[show gK s []=true from Tu.1 h];rfl
theorem Pg {G:Cx} (u:Plain G) {K:KP} (s:List Nat) (hlen:s.length<=9223372036854775807) {V:aE} {L:Own} (ar:D V K L):bu Tryz.prog G 121 [.str s] V fun v V'=>v= .bool (jY s)/\D V' K L:=by
 refine SQ u Tryz.func121 Z<|Sm 8 Z<|cM Z (TB Z Z Z) (fun _=>Z) (M5 u _ hlen ar) ?_;rintro _ V ⟨m,rfl,hm,ar⟩;refine RE 10 Z<|ky Z (aq Z) (fun j=>?_) (fun j=>?_)
 ·refine Sr 7 Z ?_;exact aB Z Z ⟨cB<|Mh j hm,ar⟩
 refine Sr 7 Z ?_;exact aB Z Z ⟨cB<|Ot j,ar⟩
theorem Pn {G:Cx} (I:Plain G) {K:KP}:∀(k:Nat) (x:XE) (vs:List U),eH K k x vs->dg k x<=1000000->∀(V:aE) (L:Own),D V K L->bu Tryz.prog G 106 [.agg vs] V fun v V'=>v= .int .i64 (.ofNat<|dg k x)/\D V' K L:=by
 intro k;induction k with
 | zero=>intro x vs h;cases x;exact h.elim
 | succ k ih=>
 intro x vs M F V L ar;obtain⟨op,num,name,kids⟩:=x;obtain⟨v,rfl,hk⟩:=M;have F:(kids.map<|dg k).sum+1<=1000000:=F;refine SQ I Tryz.func106 Z<|Sm 2 Z<|kp ar Z (cC Z Z) (fun V b1 ar=>?_);refine Q8 15 Z ?_;obtain⟨LL1,ar,hLL1⟩:=ar.named;refine bf (rg 3 17) (fun j t V=>∃(i m:Nat),j+i=kids.length/\m=((kids.take i).map<|dg k).sum+1/\t.get 3=some (.int .i64 (.ofNat m))/\t.get 4=some (.int .i64 (.ofNat i))/\D V K LL1) (kids.length) ⟨0,1,Z,Z,Z,Z,ar⟩ ?_;clear ar;intro Q t V an R;obtain⟨i,m,hj,hm,A,B,ar⟩:=R;subst hLL1;obtain⟨oo,rfl⟩:=an.q2 A B Z;refine RJ ar 6 [3,0] Z Z<|Y Z (TF hk Z Z Z (e:=91) Z) Z<|So 3 Z<|aD Z (fun C=>?_) (fun C=>?_)
 ·refine Ra ar 9 [3,0] Z Z ?_;obtain⟨E,u,aa⟩:=cK C;have hz16:=lK (f:=dg k) u;have hy16:=FM (f:=dg k) (l:=kids) (i:=i+1);rw[tR u] at hy16;refine Tw (e:=91) (m:=4) hk u Z Z Z Z (fun ao ab z ac w=>?_);obtain⟨ap,a0,a1,a2,rfl,am⟩:=w.shape;refine Y Z (TI ar z Z Z) Z<|bz Z (TB Z Z Z) (fun _=>Z) (ih _ _ w oM _ _ ar) (fun V ar=>?_);refine SX 3 Z<|aC<|SV 5 Z<|aH ⟨Q-1,by omega,oF,i+1,m+dg k E,by omega,by rw[tR u];omega,cI<|Hg oM,cI<|aW (by have:=hk.bO;omega),ar⟩
 refine RC 3 Z<|aL<|SW 7 Z ?_;exact aB Z Z ⟨cJ<|congrArg Int.ofNat (by show m=(kids.map<|dg k).sum+1;rw[hm,tL_<|bA C]),ar.pop⟩
theorem Ph {G:Cx} (I:Plain G) {K:KP}:∀(k:Nat) (x:XE) (vs:List U),eH K k x vs->dg k x<=1000000->∀(V:aE) (L:Own),D V K L->bu Tryz.prog G 107 [.agg vs] V fun v V'=>v= .int .i64 (.ofNat<|fD k x)/\D V' K L:=by
 intro k;induction k with
 | zero=>intro x vs h;cases x;exact h.elim
 | succ k ih=>
 intro x vs M F V L ar;obtain⟨op,num,name,kids⟩:=x;obtain⟨v,rfl,hk⟩:=M;have F:(kids.map<|dg k).sum+1<=1000000:=F;refine SQ I Tryz.func107 Z<|Sm 2 Z<|kp ar Z (cC Z Z) (fun V b1 ar=>?_);refine Q8 15 Z ?_;obtain⟨LL1,ar,hLL1⟩:=ar.named;refine bf (rg 3 17) (fun j t V=>∃(i m:Nat),j+i=kids.length/\m=mL ((kids.take i).map<|fD k)/\t.get 3=some (.int .i64 (.ofNat m))/\t.get 4=some (.int .i64 (.ofNat i))/\D V K LL1) (kids.length) ⟨0,0,Z,Z,Z,Z,ar⟩ ?_;clear ar;intro Q t V an R;obtain⟨i,m,hj,hm,A,B,ar⟩:=R;subst hLL1;obtain⟨oo,rfl⟩:=an.q2 A B Z;refine RJ ar 6 [3,0] Z Z<|Y Z (TF hk Z Z Z (e:=91) Z) Z<|So 3 Z<|aD Z (fun C=>?_) (fun C=>?_)
 ·refine Ra ar 9 [3,0] Z Z ?_;obtain⟨E,u,aa⟩:=cK C;have hz16:=lK (f:=dg k) u;refine Tw (e:=91) (m:=4) hk u Z Z Z Z (fun ao ab z ac w=>?_);obtain⟨ap,a0,a1,a2,rfl,am⟩:=w.shape;refine Y Z (TI ar z Z Z) Z<|bz Z (TB Z Z Z) (fun _=>Z) (ih _ _ w oM _ _ ar) (fun V ar=>?_);refine Y Z (OW Z Z Z Z) Z<|SX 2 Z<|aC<|SV 5 Z<|aH ⟨Q-1,by omega,oF,i+1,max m<|fD k E,by omega,by rw[KJ u,<-hm],cI<|Gw _ _,cI<|aW (by have:=hk.bO;omega),ar⟩
 refine RC 3 Z<|aL<|SW 8 Z ?_;exact aB Z Z ⟨cJ (by show wr .i64 (Int.add (.ofNat m) (.ofNat 1))= .ofNat (mL (kids.map<|fD k)+1);rw[hm,tL_<|bA C];exact Hg (by have:=zi (k+1) (.mk op num name kids);have e:fD (k+1) (.mk op num name kids)=mL (kids.map<|fD k)+1:=rfl;have e2:dg (k+1) (.mk op num name kids)=(kids.map<|dg k).sum+1:=rfl;omega)),ar.pop⟩
theorem JN {G:Cx} (hG:Plain G) {K:KP}:∀(k:Nat) (x:XE) (vs:List U),eH K k x vs->iF k x->∀(V:aE) (L:Own),D V K L->bu Tryz.prog G 108 [.agg vs] V fun v V'=>v= .bool (ej k x)/\D V' K L:=by
 intro k;induction k with
 | zero=>intro x vs h;cases x;exact h.elim
 | succ k ih=>
 intro x vs hE hF V L ar;obtain⟨op,num,name,kids⟩:=x;obtain⟨v,rfl,hk⟩:=hE;refine SQ hG Tryz.func108 Z<|Sm 2 Z<|kp ar Z (cC Z Z) (fun V b1 ar=>?_);refine So 3 Z (al (al (aU (l:=[(0,[]),(1,[]),(3,[]),(4,[]),(5,[]),(2,[4]),(6,[]),(7,[]),(8,[]),(9,[]),(10,[]),(11,[]),(12,[]),(13,[9]),(14,[]),(15,[]),(16,[]),(17,[]),(18,[]),(19,[]),(20,[]),(21,[]),(22,[]),(23,[]),(24,[]),(25,[]),(26,[]),(27,[]),(28,[]),(29,[]),(30,[]),(31,[]),(32,[]),(33,[]),(34,[]),(35,[]),(36,[]),(37,[]),(38,[]),(39,[]),(40,[])]) O O<|S3 ar 4 [0,0,3,0] Z Z<|ai Z Z (TF hk Z Z Z (e:=91) Z) Z<|eB Z Z (TB Z Z Z) (fun _=>Z) (Pk hG _ ar) (fun V ar=>?_))));refine⟨(bx (bC Z Z Z Z Z (TD Z ar.g0 Z) hk.eh) ba),?_⟩;refine wQ 1 Z<|eg Z Z (aq Z) (fun _=>Z) (fun z=>?_) (fun z=>?_)
 ·refine S0 5 Z<|uv Z Z Z ⟨(bx (LU Z Z) ba),?_⟩;refine RI 37 Z ?_;exact aB Z Z ⟨cB (by show _=(bif dV op num name kids.length then kids.all (ej k) else false);rw[show dV op num name kids.length=false from by unfold dV bh;simp only[z,ct,cf]<;>rfl];rfl),ar.pop⟩
 refine S3 ar 5 [0,0,2,0] Z Z<|eB Z Z (TB Z Z Z) (fun _=>Z) (Pg hG _ hF.1 ar) (fun V ar=>?_);refine⟨(bx (bC Z Z Z Z Z (TD Z ar.g0 Z)<|ez _ _) ba),?_⟩;refine S0 2 Z<|eg Z Z (aq Z) (fun _=>Z) (fun A=>?_) (fun A=>?_)
 ·refine RI 34 Z ?_;exact aB Z Z ⟨cB (by show _=(bif dV op num name kids.length then kids.all (ej k) else false);rw[show dV op num name kids.length=false from by unfold dV bh;simp only[z,A,ct,cf]<;>rfl];rfl),ar.pop⟩
 refine S3 ar 3 [0,0] Z Z<|eg Z Z (aq Z) (fun _=>Z) (fun F=>?_) (fun F=>?_)
 ·refine S3 ar 5 [2,0] Z Z<|eg Z Z (aq Z) (fun _=>Z) (fun R=>?_) (fun R=>?_)
  ·refine RI 24 Z ?_;exact aB Z Z ⟨cB (by show _=(bif dV op num name kids.length then kids.all (ej k) else false);rw[show dV op num name kids.length=false from by unfold dV bh;simp only[z,A,F,show(bif gK name [] then false else true)=true from R,ct,cf]<;>rfl];rfl),ar.pop⟩
  refine S3 ar 4 [1,0] Z Z<|eg Z Z (aq Z) (fun _=>Z) (fun B=>?_) (fun B=>?_)
  ·refine RI 19 Z ?_;exact aB Z Z ⟨cB (by show _=(bif dV op num name kids.length then kids.all (ej k) else false);rw[show dV op num name kids.length=false from by unfold dV bh;simp only[z,A,F,show(bif gK name [] then false else true)=false from R,B,ct,cf]<;>rfl];rfl),ar.pop⟩
  refine S3 ar 3 [0,0] Z Z<|eg Z Z (aq Z) (fun _=>Z) (fun I=>?_) (fun I=>?_)
  ·refine S3 ar 5 [1,0] Z Z<|Ss 2 Z<|aD Z (fun Q=>?_) (fun Q=>?_)
   ·refine Sn 7 Z ?_;exact aB Z Z ⟨cB (by show _=(bif dV op num name kids.length then kids.all (ej k) else false);rw[show dV op num name kids.length=false from by unfold dV bh;simp only[z,A,F,show(bif gK name [] then false else true)=false from R,B,I,Q,ct,cf]<;>rfl];rfl),ar.pop⟩
   refine Q7 9 Z ?_;obtain⟨LL1,ar,hLL1⟩:=ar.named;refine bf ([2,3]++rg 45 14) (fun j t V=>∃(i:Nat),j+i=kids.length/\(kids.take i).all (ej k)=true/\t.get 3=some (.int .i64 (.ofNat i))/\D V K LL1) (kids.length) ⟨0,Z,Z,Z,ar⟩ ?_;clear ar;intro j4 t V an hI;obtain⟨i,hj,T,S,ar⟩:=hI;subst hLL1;obtain⟨oo,rfl⟩:=an.q1 S Z;refine RJ ar 6 [3,0] Z Z<|Y Z (TF hk Z Z Z (e:=91) Z) Z<|So 3 Z<|aD Z (fun C=>?_) (fun C=>?_)
   ·refine Qt ar 9 [3,0] Z Z ?_;obtain⟨ac,u,W⟩:=cK C;refine Tw (e:=91) (m:=4) hk u Z Z Z Z (fun am X M aa w=>?_);obtain⟨ao,ap,a0,a1,rfl,ab⟩:=w.shape;refine Y Z (TI ar M Z Z) Z<|bz Z (TB Z Z Z) (fun _=>Z) (ih _ _ w (hF.2 _<|gB_ u) _ _ ar) (fun V ar=>?_);refine Y Z (da Z) Z<|So 2 Z<|aD Z (fun E=>?_) (fun E=>?_)
    ·refine SW 6 Z<|aK<|aA<|bD<|aK<|aA (?_);exact aB Z Z ⟨cB (by show _=(bif dV op num name kids.length then kids.all (ej k) else false);rw[show dV op num name kids.length=true from by unfold dV bh;simp only[z,A,F,show(bif gK name [] then false else true)=false from R,B,I,Q,ct,cf]<;>rfl];rw[lg u<|bW E];rfl),ar.pop⟩
    refine aG<|aC<|SV 5 Z<|aH ⟨j4-1,by omega,oF,i+1,by omega,iO T u<|bK E,cI<|aW (by have:=hk.bO;omega),ar⟩
   refine RC 3 Z<|aL<|SW 6 Z ?_;exact aB Z Z ⟨cB (by show _=(bif dV op num name kids.length then kids.all (ej k) else false);rw[show dV op num name kids.length=true from by unfold dV bh;simp only[z,A,F,show(bif gK name [] then false else true)=false from R,B,I,Q,ct,cf]<;>rfl];rw[iq T<|bA C];rfl),ar.pop⟩
  refine Ss 8 Z<|Q7 9 Z ?_;obtain⟨LL2,ar,hLL2⟩:=ar.named;refine bf ([2,3]++rg 45 14) (fun j t V=>∃(i:Nat),j+i=kids.length/\(kids.take i).all (ej k)=true/\t.get 3=some (.int .i64 (.ofNat i))/\D V K LL2) (kids.length) ⟨0,Z,Z,Z,ar⟩ ?_;clear ar;intro j4 t V an hI;obtain⟨i,hj,T,S,ar⟩:=hI;subst hLL2;obtain⟨oo,rfl⟩:=an.q1 S Z;refine RJ ar 6 [3,0] Z Z<|Y Z (TF hk Z Z Z (e:=91) Z) Z<|So 3 Z<|aD Z (fun C=>?_) (fun C=>?_)
  ·refine Qt ar 9 [3,0] Z Z ?_;obtain⟨ac,u,W⟩:=cK C;refine Tw (e:=91) (m:=4) hk u Z Z Z Z (fun am X M aa w=>?_);obtain⟨ao,ap,a0,a1,rfl,ab⟩:=w.shape;refine Y Z (TI ar M Z Z) Z<|bz Z (TB Z Z Z) (fun _=>Z) (ih _ _ w (hF.2 _<|gB_ u) _ _ ar) (fun V ar=>?_);refine Y Z (da Z) Z<|So 2 Z<|aD Z (fun E=>?_) (fun E=>?_)
   ·refine SW 6 Z<|aK<|aA<|bD<|aK<|aA (?_);exact aB Z Z ⟨cB (by show _=(bif dV op num name kids.length then kids.all (ej k) else false);rw[show dV op num name kids.length=true from by unfold dV bh;simp only[z,A,F,show(bif gK name [] then false else true)=false from R,B,I,ct,cf]<;>rfl];rw[lg u<|bW E];rfl),ar.pop⟩
   refine aG<|aC<|SV 5 Z<|aH ⟨j4-1,by omega,oF,i+1,by omega,iO T u<|bK E,cI<|aW (by have:=hk.bO;omega),ar⟩
  refine RC 3 Z<|aL<|SW 6 Z ?_;exact aB Z Z ⟨cB (by show _=(bif dV op num name kids.length then kids.all (ej k) else false);rw[show dV op num name kids.length=true from by unfold dV bh;simp only[z,A,F,show(bif gK name [] then false else true)=false from R,B,I,ct,cf]<;>rfl];rw[iq T<|bA C];rfl),ar.pop⟩
 refine S3 ar 10 [1,0] Z Z<|eg Z Z (aq Z) (fun _=>Z) (fun B=>?_) (fun B=>?_)
 ·refine RI 19 Z ?_;exact aB Z Z ⟨cB (by show _=(bif dV op num name kids.length then kids.all (ej k) else false);rw[show dV op num name kids.length=false from by unfold dV bh;simp only[z,A,F,B,ct,cf]<;>rfl];rfl),ar.pop⟩
 refine S3 ar 3 [0,0] Z Z<|eg Z Z (aq Z) (fun _=>Z) (fun I=>?_) (fun I=>?_)
 ·refine S3 ar 5 [1,0] Z Z<|Ss 2 Z<|aD Z (fun Q=>?_) (fun Q=>?_)
  ·refine Sn 7 Z ?_;exact aB Z Z ⟨cB (by show _=(bif dV op num name kids.length then kids.all (ej k) else false);rw[show dV op num name kids.length=false from by unfold dV bh;simp only[z,A,F,B,I,Q,ct,cf]<;>rfl];rfl),ar.pop⟩
  refine Q7 9 Z ?_;obtain⟨LL3,ar,hLL3⟩:=ar.named;refine bf ([2,3]++rg 45 14) (fun j t V=>∃(i:Nat),j+i=kids.length/\(kids.take i).all (ej k)=true/\t.get 3=some (.int .i64 (.ofNat i))/\D V K LL3) (kids.length) ⟨0,Z,Z,Z,ar⟩ ?_;clear ar;intro j4 t V an hI;obtain⟨i,hj,T,S,ar⟩:=hI;subst hLL3;obtain⟨oo,rfl⟩:=an.q1 S Z;refine RJ ar 6 [3,0] Z Z<|Y Z (TF hk Z Z Z (e:=91) Z) Z<|So 3 Z<|aD Z (fun C=>?_) (fun C=>?_)
  ·refine Qt ar 9 [3,0] Z Z ?_;obtain⟨ac,u,W⟩:=cK C;refine Tw (e:=91) (m:=4) hk u Z Z Z Z (fun am X M aa w=>?_);obtain⟨ao,ap,a0,a1,rfl,ab⟩:=w.shape;refine Y Z (TI ar M Z Z) Z<|bz Z (TB Z Z Z) (fun _=>Z) (ih _ _ w (hF.2 _<|gB_ u) _ _ ar) (fun V ar=>?_);refine Y Z (da Z) Z<|So 2 Z<|aD Z (fun E=>?_) (fun E=>?_)
   ·refine SW 6 Z<|aK<|aA<|bD<|aK<|aA (?_);exact aB Z Z ⟨cB (by show _=(bif dV op num name kids.length then kids.all (ej k) else false);rw[show dV op num name kids.length=true from by unfold dV bh;simp only[z,A,F,B,I,Q,ct,cf]<;>rfl];rw[lg u<|bW E];rfl),ar.pop⟩
   refine aG<|aC<|SV 5 Z<|aH ⟨j4-1,by omega,oF,i+1,by omega,iO T u<|bK E,cI<|aW (by have:=hk.bO;omega),ar⟩
  refine RC 3 Z<|aL<|SW 6 Z ?_;exact aB Z Z ⟨cB (by show _=(bif dV op num name kids.length then kids.all (ej k) else false);rw[show dV op num name kids.length=true from by unfold dV bh;simp only[z,A,F,B,I,Q,ct,cf]<;>rfl];rw[iq T<|bA C];rfl),ar.pop⟩
 refine Ss 8 Z<|Q7 9 Z ?_;obtain⟨LL4,ar,hLL4⟩:=ar.named;refine bf ([2,3]++rg 45 14) (fun j t V=>∃(i:Nat),j+i=kids.length/\(kids.take i).all (ej k)=true/\t.get 3=some (.int .i64 (.ofNat i))/\D V K LL4) (kids.length) ⟨0,Z,Z,Z,ar⟩ ?_;clear ar;intro j4 t V an hI;obtain⟨i,hj,T,S,ar⟩:=hI;subst hLL4;obtain⟨oo,rfl⟩:=an.q1 S Z;refine RJ ar 6 [3,0] Z Z<|Y Z (TF hk Z Z Z (e:=91) Z) Z<|So 3 Z<|aD Z (fun C=>?_) (fun C=>?_)
 ·refine Qt ar 9 [3,0] Z Z ?_;obtain⟨ac,u,W⟩:=cK C;refine Tw (e:=91) (m:=4) hk u Z Z Z Z (fun am X M aa w=>?_);obtain⟨ao,ap,a0,a1,rfl,ab⟩:=w.shape;refine Y Z (TI ar M Z Z) Z<|bz Z (TB Z Z Z) (fun _=>Z) (ih _ _ w (hF.2 _<|gB_ u) _ _ ar) (fun V ar=>?_);refine Y Z (da Z) Z<|So 2 Z<|aD Z (fun E=>?_) (fun E=>?_)
  ·refine SW 6 Z<|aK<|aA<|bD<|aK<|aA (?_);exact aB Z Z ⟨cB (by show _=(bif dV op num name kids.length then kids.all (ej k) else false);rw[show dV op num name kids.length=true from by unfold dV bh;simp only[z,A,F,B,I,ct,cf]<;>rfl];rw[lg u<|bW E];rfl),ar.pop⟩
  refine aG<|aC<|SV 5 Z<|aH ⟨j4-1,by omega,oF,i+1,by omega,iO T u<|bK E,cI<|aW (by have:=hk.bO;omega),ar⟩
 refine RC 3 Z<|aL<|SW 6 Z ?_;exact aB Z Z ⟨cB (by show _=(bif dV op num name kids.length then kids.all (ej k) else false);rw[show dV op num name kids.length=true from by unfold dV bh;simp only[z,A,F,B,I,ct,cf]<;>rfl];rw[iq T<|bA C];rfl),ar.pop⟩
theorem vz {G:Cx} (w:Plain G) {K:KP} {k:Nat} {x:XE} {vs:List U} (z:eH K k x vs) (B:iF k x) (A:dg k x<=1000000) {V:aE} {L:Own} (ar:D V K L):bu Tryz.prog G 82 [.agg vs] V fun v V'=>v= .int .i64 (oy k x)/\D V' K L:=by
 obtain⟨o0,n0,s0,v0,rfl,hk⟩:=z.shape;have l1:∀{a b:Nat},b9 (.ofNat b) (.ofNat a)=Nat.blt b a:=fun {a b}=>by rw[Bool.eq_iff_iff,OH,Nat.blt_eq];exact Int.ofNat_lt
 refine SQ w Tryz.func82 Z<|Sm 2 Z<|kp ar Z (cC Z Z) (fun V b1 ar=>?_);refine Q9 6 Z<|Y Z (TE Z ar.g0 (n:=4) (vs:=[_,_,_,_]) Z) Z<|bz Z (TB Z Z Z) (fun _=>Z) (Pn w _ _ _ z A _ _ ar) (fun V ar=>?_);refine vQ 1 Z<|ky Z (aq Z) (fun u=>?_) (fun u=>?_)
 ·refine RG 14 Z ?_;exact aB Z Z ⟨cJ (by unfold oy gp;rw[<-l1 (a:=dg k x),show b9 (.ofNat 2000) (.ofNat<|dg k x)=true from u]<;>rfl),ar.pop⟩
 refine Y Z (TE Z ar.g0 (n:=4) (vs:=[_,_,_,_]) Z) Z<|bz Z (TB Z Z Z) (fun _=>Z) (Ph w _ _ _ z A _ _ ar) (fun V ar=>?_);refine So 4 Z<|aD Z (fun j=>?_) (fun j=>?_)
 ·refine Sn 7 Z ?_;exact aB Z Z ⟨cJ (by unfold oy gp;rw[<-l1 (a:=dg k x),<-l1 (a:=fD k x),show b9 (.ofNat 2000) (.ofNat<|dg k x)=false from u,show b9 (.ofNat 32) (.ofNat<|fD k x)=true from j]<;>rfl),ar.pop⟩
 refine Rz 3 Z<|Sm 2 Z<|Y Z (TE Z ar.g0 (n:=4) (vs:=[_,_,_,_]) Z) Z<|bz Z (TB Z Z Z) (fun _=>Z) (JN w _ _ _ z B _ _ ar) (fun V ar=>?_);refine Y Z (da Z) Z<|So 2 Z<|aD Z (fun m=>?_) (fun m=>?_)
 ·refine Sn 7 Z ?_;exact aB Z Z ⟨cJ (by unfold oy gp;rw[<-l1 (a:=dg k x),<-l1 (a:=fD k x),show b9 (.ofNat 2000) (.ofNat<|dg k x)=false from u,show b9 (.ofNat 32) (.ofNat<|fD k x)=false from j,show ej k x=false from bW m]<;>rfl),ar.pop⟩
 refine Sn 8 Z ?_;exact aB Z Z ⟨cJ (by unfold oy gp;rw[<-l1 (a:=dg k x),<-l1 (a:=fD k x),show b9 (.ofNat 2000) (.ofNat<|dg k x)=false from u,show b9 (.ofNat 32) (.ofNat<|fD k x)=false from j,show ej k x=true from bK m]<;>rfl),ar.pop⟩
theorem Gg {c m:Nat} (h:48<=c/\c<=57) (hm:m<=100000):wr .i64 (Int.add (wr .i64<|Int.mul (.ofNat m) (.ofNat 10))<|wr .i64<|wr .u8<|Int.sub (.ofNat c) (.ofNat 48))= .ofNat (10*m+(c-48)):=Po h hm
theorem JI {G:Cx} (hG:Plain G) {K:KP} (s:List Nat) {V:aE} {L:Own} (ar:D V K L):bu Tryz.prog G 114 [.str s] V fun v V'=>v= .int .i64 (jF s)/\D V' K L:=by
 refine SQ hG Tryz.func114 Z<|Ry 10 Z<|ky Z (aq Z) (fun T=>?_) (fun T=>?_)
 ·refine RG 24 Z ?_;exact aB Z Z ⟨cJ (by unfold jF;rw[AZ (.inl (by rw[show s= [] from xj T];rfl))]),ar⟩
 refine vQ 1 Z<|Y Z (om Z Z Z O Z) Z<|SY 2 Z<|ky Z (aq Z) (fun E=>?_) (fun E=>?_)
 ·refine RG 19 Z ?_;exact aB Z Z ⟨cJ (by unfold jF;rw[AZ (.inr (.inl (by rw[<-bY];exact bc (a:=4) E)))]),ar⟩
 refine vQ 1 Z<|Y Z (om Z Z Z O Z) Z<|vQ 1 Z<|ky Z (aq Z) (fun F=>?_) (fun F=>?_)
 ·refine vQ 1 Z ?_;obtain⟨aa,C⟩:=cL (show 0<s.length from by have:=bc (a:=1) F;rw[bY] at this;omega);refine Y Z (kO O Z Z C) Z<|So 5 Z<|aD Z (fun I=>?_) (fun I=>?_)
  ·refine Sn 7 Z ?_;exact aB Z Z ⟨cJ (by unfold jF;rw[AZ (.inr (.inr ⟨by rw[<-bY];exact bc (a:=1) F,by rw[C];exact congrArg some<|iJ_<|eqv I⟩))]),ar⟩
  refine RB 4 Z ?_;have hl4:du s<=4:=bA (a:=4) E
  have B:¬(s.length=0∨4<s.length∨(1<s.length/\s[0]?=some 48)):=by
   have hl4:=hl4;rw[bY] at hl4;have h9z:s.length≠0:=fun e=>by rw[eN_ e] at T;cases T
   rintro (e | e | ⟨_,e⟩)
   ·exact h9z e
   ·omega
   rw[C] at e;cases e;cases I
  refine Q8 10 Z ?_;obtain⟨LL1,ar,hLL1⟩:=ar.named;refine bf ([2,3,4]++rg 22 24) (fun j t V=>∃(i m:Nat),j+i=du s/\sX s 0=sX (s.drop i) m/\m<10 ^ i/\i<=4/\t.get 3=some (.int .i64 (.ofNat m))/\t.get 4=some (.int .i64 (.ofNat i))/\D V K LL1) (du s) ⟨0,0,Z,Z,Nat.one_pos,Nat.zero_le _,Z,Z,ar⟩ ?_;clear ar;intro W t V an X;obtain⟨i,m,hj,he,hm,M,Q,R,ar⟩:=X;subst hLL1;obtain⟨oo,rfl⟩:=an.q2 Q R Z;refine Ry 5 Z<|Y Z (om Z Z Z O Z) Z<|So 3 Z<|aD Z (fun w=>?_) (fun w=>?_)
  ·refine Qr 5 Z<|Sm 4 Z ?_;obtain⟨S,u⟩:=cL (show i<s.length from by have:=bc w;rwa[bY] at this);refine Y Z (kO O Z Z u) Z<|vQ 1 Z<|ky Z (aq Z) (fun z=>?_) (fun z=>?_)
   ·refine Sr 14 Z<|aA<|aK<|aA<|bD<|aK<|aA (?_);exact aB Z Z ⟨cJ (by unfold jF;rw[nY B,he,wk u<|Lz z]),ar⟩
   refine SY 2 Z<|Y Z (kO O Z Z u) Z<|So 4 Z<|aD Z (fun A=>?_) (fun A=>?_)
   ·refine SW 6 Z<|aA<|aK<|aA<|bD<|aK<|aA (?_);exact aB Z Z ⟨cJ (by unfold jF;rw[nY B,he,wk u<|Ly A]),ar⟩
   refine aG<|ad<|ah Z<|SY 4 Z<|Y Z (kO O Z Z u) Z<|vQ 1 Z ?_;refine Y Z (gJ (j:=.u8) (k:=.i64) O O O Z) Z ?_;refine SX 3 Z (aC (SV 5 Z (aH ⟨W-1,by have:=bc w;omega,oF,i+1,10*m+(S-48),by have:=bc w;omega,he.trans<|Ce u<|qZ z A,by have:=qZ z A;rw[Nat.pow_succ];omega,by have:=bc w;have:=hl4;omega,cI<|Gg (qZ z A) (by have:=Lm i M;omega),cI<|aW oM,ar⟩)))
  refine RC 3 Z<|aL<|SW 7 Z ?_;exact aB Z Z ⟨cJ (by unfold jF;rw[nY B,he,Cc (by have:=bA w;rwa[bY] at this)]),ar⟩
 refine So 8 Z<|RB 4 Z ?_;have hl4:du s<=4:=bA (a:=4) E
 have B:¬(s.length=0∨4<s.length∨(1<s.length/\s[0]?=some 48)):=by
  have hl4:=hl4;rw[bY] at hl4;have h9z:s.length≠0:=fun e=>by rw[eN_ e] at T;cases T
  have h18z:¬(1<s.length):=by have:=bA (a:=1) F;rw[bY] at this;omega
  omega
 refine Q8 10 Z ?_;obtain⟨LL2,ar,hLL2⟩:=ar.named;refine bf ([2,3,4]++rg 22 24) (fun j t V=>∃(i m:Nat),j+i=du s/\sX s 0=sX (s.drop i) m/\m<10 ^ i/\i<=4/\t.get 3=some (.int .i64 (.ofNat m))/\t.get 4=some (.int .i64 (.ofNat i))/\D V K LL2) (du s) ⟨0,0,Z,Z,Nat.one_pos,Nat.zero_le _,Z,Z,ar⟩ ?_;clear ar;intro W t V an X;obtain⟨i,m,hj,he,hm,M,Q,R,ar⟩:=X;subst hLL2;obtain⟨oo,rfl⟩:=an.q2 Q R Z;refine Ry 5 Z<|Y Z (om Z Z Z O Z) Z<|So 3 Z<|aD Z (fun w=>?_) (fun w=>?_)
 ·refine Qr 5 Z<|Sm 4 Z ?_;obtain⟨S,u⟩:=cL (show i<s.length from by have:=bc w;rwa[bY] at this);refine Y Z (kO O Z Z u) Z<|vQ 1 Z<|ky Z (aq Z) (fun z=>?_) (fun z=>?_)
  ·refine Sr 14 Z<|aA<|aK<|aA<|bD<|aK<|aA (?_);exact aB Z Z ⟨cJ (by unfold jF;rw[nY B,he,wk u<|Lz z]),ar⟩
  refine SY 2 Z<|Y Z (kO O Z Z u) Z<|So 4 Z<|aD Z (fun A=>?_) (fun A=>?_)
  ·refine SW 6 Z<|aA<|aK<|aA<|bD<|aK<|aA (?_);exact aB Z Z ⟨cJ (by unfold jF;rw[nY B,he,wk u<|Ly A]),ar⟩
  refine aG<|ad<|ah Z<|SY 4 Z<|Y Z (kO O Z Z u) Z<|vQ 1 Z ?_;refine Y Z (gJ (j:=.u8) (k:=.i64) O O O Z) Z ?_;refine SX 3 Z (aC (SV 5 Z (aH ⟨W-1,by have:=bc w;omega,oF,i+1,10*m+(S-48),by have:=bc w;omega,he.trans<|Ce u<|qZ z A,by have:=qZ z A;rw[Nat.pow_succ];omega,by have:=bc w;have:=hl4;omega,cI<|Gg (qZ z A) (by have:=Lm i M;omega),cI<|aW oM,ar⟩)))
 refine RC 3 Z<|aL<|SW 7 Z ?_;exact aB Z Z ⟨cJ (by unfold jF;rw[nY B,he,Cc (by have:=bA w;rwa[bY] at this)]),ar⟩
theorem Nc {G:Cx} (hG:Plain G) {K:KP}:∀(k:Nat) (x:XE) (vs:List U),eH K k x vs->dg k x<=1000000->∀(V:aE) (L:Own),D V K L->bu Tryz.prog G 134 [.agg vs] V fun v V'=>∃K1,KP.le K K1/\bL K1 1 fJ (fI k x) v/\D V' K1 L:=by
 intro k;induction k with
 | zero=>intro x vs h;cases x;exact h.elim
 | succ k ih=>
 intro x vs hE hS V L ar;obtain⟨op,num,name,kids⟩:=x;obtain⟨v,rfl,hk⟩:=hE;have hS:(kids.map<|dg k).sum+1<=1000000:=hS;refine SQ hG Tryz.func134 Z<|Sm 2 Z<|kp ar Z (cC Z Z) (fun V b1 ar=>?_);refine Rb ar 14 [0,0] Z Z<|ky Z (aq Z) (fun h8=>?_) (fun h8=>?_)
 ·refine Sw ar 6 [2,0] Z Z<|aD Z (fun ac=>?_) (fun ac=>?_)
  ·refine S1 ar 4 [2,0] Z Z<|fe ar Z (bP (e:=9) (m:=1) (z:=[.str []]) (cs:=[_]) O O O O<|bj Z Z Z Z bF) (fun _=>Z) (fun V b2 ar=>?_);refine fH (R:=fJ) (m:=1) (e:=9) cZ.nil (show D _ _ (_::([]++_)) from ar) (di (m:=1) Z Z) fJ.leaf (by simp) Z Z Z Z Z Z Z (fun _=>Z) (fun V a6 a5 hO17 ar=>?_);refine Q8 10 Z (bf ([3,4]++rg 18 15) (fun j t V=>∃(i:Nat) (u:U) (M:Own),j+i=kids.length/\cZ 1 9 fJ ((bif (bif H op 2 then bh (gK name []) else false) then [name] else [])++((kids.take i).map<|fI k).flatten) u M/\t.get 3=some (u)/\t.get 4=some (.int .i64 (.ofNat i))/\D V K (M++(b1,.row [.int .i64 op,.int .i64 num,.str name,v] 91 false)::L)) (kids.length) ⟨0,_,a5,Z,by rw[show(bif (bif H op 2 then bh (gK name []) else false) then [name] else [])= [name] from by unfold bh;simp only[h8,show(bif gK name [] then false else true)=true from ac,ct,cf]<;>rfl];simpa using hO17,Z,Z,ar⟩ ?_);clear ar;intro j5 t V an hI;obtain⟨i,u,M,hj,I,Q,S,ar⟩:=hI;obtain⟨oo,rfl⟩:=an.q2 Q S Z;refine RJ ar 5 [3] Z Z<|Y Z (TD Z ar.bR.g0 Z) Z<|Y Z (TF hk Z Z Z (e:=91) Z) Z<|So 3 Z<|aD Z (fun B=>?_) (fun B=>?_)
   ·refine Ra ar 7 [3] Z Z<|Y Z (TD Z ar.bR.g0 Z) Z<|vQ 1 Z ?_;obtain⟨am,w,W⟩:=cK B;refine Tw (e:=91) (m:=4) hk w Z Z Z Z (fun ao X F aa A=>?_);obtain⟨ap,a0,a1,a2,rfl,ab⟩:=A.shape;refine Y Z (TI ar F Z Z) Z ?_;have hz:=uS (k:=k) (op:=op) (num:=num) (name:=name) w;refine cM Z (TB Z Z Z) (fun _=>Z) (ih _ _ A (Nat.le_trans (lK (f:=dg k) w) oM) _ _ ar) ?_;rintro a3 V ⟨a4,C,hS31,ar⟩;refine xY (R:=fJ) (m:=1) (e:=9) I ar hS31 fJ.leaf (by have e:dg (k+1) (.mk op num name kids)=(kids.map<|dg k).sum+1:=rfl;omega) Z Z Z Z Z Z Z (fun _=>Z) (fun V u32 T hO32 ar=>?_);replace ar:=ar.weaken C;refine SX 2 Z<|aC<|SV 5 Z<|aH ⟨j5-1,by omega,oF,i+1,u32,T,by omega,by rw[nP w,<-lQ_];exact hO32,Z,cI<|aW (by have:=hk.bO;omega),ar⟩
   refine RC 3 Z<|aL<|SW 7 Z ?_;exact aB Z Z ⟨K.g9 M,KP.dj _ _,by rw[tL_<|bA B] at I;exact I.jE,ar.keeps.pop⟩
  refine Rz 3 Z<|Sm 2 Z ?_;replace ar:D V K ([]++_):=ar;refine RD 4 Z (bf ([3,4]++rg 18 15) (fun j t V=>∃(i:Nat) (u:U) (M:Own),j+i=kids.length/\cZ 1 9 fJ ((bif (bif H op 2 then bh (gK name []) else false) then [name] else [])++((kids.take i).map<|fI k).flatten) u M/\t.get 3=some (u)/\t.get 4=some (.int .i64 (.ofNat i))/\D V K (M++(b1,.row [.int .i64 op,.int .i64 num,.str name,v] 91 false)::L)) (kids.length) ⟨0,_,[],Z,by rw[show(bif (bif H op 2 then bh (gK name []) else false) then [name] else [])= [] from by unfold bh;simp only[h8,show(bif gK name [] then false else true)=false from ac,ct,cf]<;>rfl];simpa using (cZ.nil (m:=1) (E:=9) (R:=fJ)),Z,Z,ar⟩ ?_);clear ar;intro j5 t V an hI;obtain⟨i,u,M,hj,I,Q,S,ar⟩:=hI;obtain⟨oo,rfl⟩:=an.q2 Q S Z;refine RJ ar 5 [3] Z Z<|Y Z (TD Z ar.bR.g0 Z) Z<|Y Z (TF hk Z Z Z (e:=91) Z) Z<|So 3 Z<|aD Z (fun B=>?_) (fun B=>?_)
  ·refine Ra ar 7 [3] Z Z<|Y Z (TD Z ar.bR.g0 Z) Z<|vQ 1 Z ?_;obtain⟨am,w,W⟩:=cK B;refine Tw (e:=91) (m:=4) hk w Z Z Z Z (fun ao X F aa A=>?_);obtain⟨ap,a0,a1,a2,rfl,ab⟩:=A.shape;refine Y Z (TI ar F Z Z) Z ?_;have hz:=uS (k:=k) (op:=op) (num:=num) (name:=name) w;refine cM Z (TB Z Z Z) (fun _=>Z) (ih _ _ A (Nat.le_trans (lK (f:=dg k) w) oM) _ _ ar) ?_;rintro a3 V ⟨a4,C,hS31,ar⟩;refine xY (R:=fJ) (m:=1) (e:=9) I ar hS31 fJ.leaf (by have e:dg (k+1) (.mk op num name kids)=(kids.map<|dg k).sum+1:=rfl;omega) Z Z Z Z Z Z Z (fun _=>Z) (fun V u32 T hO32 ar=>?_);replace ar:=ar.weaken C;refine SX 2 Z<|aC<|SV 5 Z<|aH ⟨j5-1,by omega,oF,i+1,u32,T,by omega,by rw[nP w,<-lQ_];exact hO32,Z,cI<|aW (by have:=hk.bO;omega),ar⟩
  refine RC 3 Z<|aL<|SW 7 Z ?_;exact aB Z Z ⟨K.g9 M,KP.dj _ _,by rw[tL_<|bA B] at I;exact I.jE,ar.keeps.pop⟩
 refine So 7 Z<|Rz 3 Z<|Sm 2 Z ?_;replace ar:D V K ([]++_):=ar;refine RD 4 Z (bf ([3,4]++rg 18 15) (fun j t V=>∃(i:Nat) (u:U) (M:Own),j+i=kids.length/\cZ 1 9 fJ ((bif (bif H op 2 then bh (gK name []) else false) then [name] else [])++((kids.take i).map<|fI k).flatten) u M/\t.get 3=some (u)/\t.get 4=some (.int .i64 (.ofNat i))/\D V K (M++(b1,.row [.int .i64 op,.int .i64 num,.str name,v] 91 false)::L)) (kids.length) ⟨0,_,[],Z,by rw[show(bif (bif H op 2 then bh (gK name []) else false) then [name] else [])= [] from by unfold bh;simp only[h8,ct,cf]<;>rfl];simpa using (cZ.nil (m:=1) (E:=9) (R:=fJ)),Z,Z,ar⟩ ?_);clear ar;intro j5 t V an hI;obtain⟨i,u,M,hj,I,Q,S,ar⟩:=hI;obtain⟨oo,rfl⟩:=an.q2 Q S Z;refine RJ ar 5 [3] Z Z<|Y Z (TD Z ar.bR.g0 Z) Z<|Y Z (TF hk Z Z Z (e:=91) Z) Z<|So 3 Z<|aD Z (fun B=>?_) (fun B=>?_)
 ·refine Ra ar 7 [3] Z Z<|Y Z (TD Z ar.bR.g0 Z) Z<|vQ 1 Z ?_;obtain⟨am,w,W⟩:=cK B;refine Tw (e:=91) (m:=4) hk w Z Z Z Z (fun ao X F aa A=>?_);obtain⟨ap,a0,a1,a2,rfl,ab⟩:=A.shape;refine Y Z (TI ar F Z Z) Z ?_;have hz:=uS (k:=k) (op:=op) (num:=num) (name:=name) w;refine cM Z (TB Z Z Z) (fun _=>Z) (ih _ _ A (Nat.le_trans (lK (f:=dg k) w) oM) _ _ ar) ?_;rintro a3 V ⟨a4,C,hS31,ar⟩;refine xY (R:=fJ) (m:=1) (e:=9) I ar hS31 fJ.leaf (by have e:dg (k+1) (.mk op num name kids)=(kids.map<|dg k).sum+1:=rfl;omega) Z Z Z Z Z Z Z (fun _=>Z) (fun V u32 T hO32 ar=>?_);replace ar:=ar.weaken C;refine SX 2 Z<|aC<|SV 5 Z<|aH ⟨j5-1,by omega,oF,i+1,u32,T,by omega,by rw[nP w,<-lQ_];exact hO32,Z,cI<|aW (by have:=hk.bO;omega),ar⟩
 refine RC 3 Z<|aL<|SW 7 Z ?_;exact aB Z Z ⟨K.g9 M,KP.dj _ _,by rw[tL_<|bA B] at I;exact I.jE,ar.keeps.pop⟩
theorem GB {α β:Type} {f:α->List β} {x:α} {i:Nat}:(([x].take i).map f).flatten.length<=(f x).length:=by
 cases i with
 | zero=>simp
 | succ i=>simp
theorem qM {α β:Type} {f:α->List β} {l:List α} {i:Nat} (h:i=0):((l.take i).map f).flatten= []:=by subst h;simp
theorem PN {α:Type} {x y:α} {i:Nat} (h: [x][i]?=some y):x=y:=by
 cases i with
 | zero=>simpa using h
 | succ i=>simp at h
theorem B9 {G:Cx} (z:Plain G) {K:KP} {V:aE} {L:Own} (ar:D V K L):bu Tryz.prog G 129 [.az] V fun v V'=>v= .az/\D V' K L:=by
 have h0:bL K 7 (Rq .az) [] .az:=.inl ⟨Z,Z⟩;refine SQ z Tryz.func129 Z<|Rx 17 Z ?_;obtain⟨LL1,ar,hLL1⟩:=ar.named;refine bf (rg 3 59) (fun j t V=>t.get 3=some (.az)/\t.get 4=some (.int .i64 (.ofNat 0))/\D V K LL1) (0) ⟨Z,Z,ar⟩ ?_;clear ar;intro j3 t V an A;obtain⟨m,u,ar⟩:=A;subst hLL1;obtain⟨oo,rfl⟩:=an.q2 m u Z;refine Ry 5 Z<|Y Z (TF h0 Z Z Z (e:=184) Z) Z<|So 3 Z<|aD Z (fun w=>?_) (fun w=>?_)
 ·exact absurd (bc w) (by simp)
 refine RC 3 Z<|aL<|SW 7 Z ?_;exact aB Z Z ⟨Z,ar⟩
theorem JK {G:Cx} (hG:Plain G) {K:KP} {k:Nat} {x:XE} {ev v:U} (h:bL K 7 (Rq ev) [()] v) (he:bL K 4 (eH K k) [x] ev) (hS:dg k x<=1000000) {V:aE} {L:Own} (ar:D V K L):bu Tryz.prog G 129 [v] V fun v V'=>∃K1,KP.le K K1/\bL K1 1 fJ (fI k x) v/\D V' K1 L:=by
 have T:bL K 1 fJ [] .az:=.inl ⟨Z,Z⟩;have hrl:=qk k x;refine SQ hG Tryz.func129 Z<|Rx 17 Z<|bf (rg 3 59) (fun j t V=>∃(i:Nat) (u:U) (M:Own),j+i=1/\cZ 1 9 fJ (([()].take i).map fun _=>fI k x).flatten u M/\t.get 3=some (u)/\t.get 4=some (.int .i64 (.ofNat i))/\D V K (M++L)) (1) ⟨0,_,[],Z,cZ.nil,Z,Z,ar⟩ ?_;clear ar;intro j3 t V an hI;obtain⟨i,u,M,hj,hO,aa,be,ar⟩:=hI;obtain⟨oo,rfl⟩:=an.q2 aa be Z;refine Ry 5 Z<|Y Z (TF h Z Z Z (e:=184) Z) Z<|So 3 Z<|aD Z (fun W=>?_) (fun W=>?_)
 ·refine Qr 5 Z<|Sm 4 Z ?_;obtain⟨b3,w,bp⟩:=cK W;refine Tw (e:=184) (m:=7) h w Z Z Z Z (fun b4 ac am bq A=>?_);replace A:ac= [N,.str [],.str [],N,ev,.az,.az]:=A;subst A;refine dy am Z Z Z (k:=1) O (lb Z) (fun _=>Z) (fun b5 ao=>?_);refine Y Z (TH ar ao Z Z) Z<|So 3 Z<|aD Z (fun ap=>absurd (show false=true from ap) (by decide)) (fun ap=>?_);refine Q7 9 Z<|bf ([3,5]++rg 26 21) (fun j t V=>∃(S:Nat) (u2:U) (M2:Own),j+S=1/\cZ 1 9 fJ ((([()].take i).map fun _=>fI k x).flatten++(([x].take S).map<|fI k).flatten) u2 M2/\t.get 3=some (u2)/\t.get 5=some (.int .i64 (.ofNat S))/\D V K (M2++L)) (1) ⟨0,_,M,Z,by simpa using hO,Z,Z,ar⟩ ?_;clear ar;intro j8 t V an hI;obtain⟨S,u2,M2,b6,hO2,aa,bi,ar⟩:=hI;obtain⟨oo,rfl⟩:=an.q2 aa bi Z;refine Ry 6 Z<|Tw (e:=184) (m:=7) h w Z Z Z Z (fun b7 a0 a1 br B=>?_);replace B:a0= [N,.str [],.str [],N,ev,.az,.az]:=B;subst B;refine dy a1 Z Z Z (k:=4) O (lb Z) (fun _=>Z) (fun b8 a2=>?_);refine Y Z (TH ar a2 Z Z) Z<|Y Z (TF he Z Z Z (e:=91) Z) Z<|So 3 Z<|aD Z (fun z=>?_) (fun z=>?_)
  ·refine Q7 4 Z<|ah Z<|SY 3 Z<|Tw (e:=184) (m:=7) h w Z Z Z Z (fun ca a3 a4 bs C=>?_);replace C:a3= [N,.str [],.str [],N,ev,.az,.az]:=C;subst C;refine dy a4 Z Z Z (k:=4) O (lb Z) (fun _=>Z) (fun cb a5=>?_);refine Y Z (TH ar a5 Z Z) Z<|vQ 1 Z ?_;obtain⟨cc,E,bt⟩:=cK z;refine Tw (e:=91) (m:=4) he E Z Z Z Z (fun ce bv a6 bw X=>?_);obtain⟨cg,ch,ci,cj,rfl,b0⟩:=X.shape;refine Y Z (TI ar a6 Z Z) Z ?_;obtain rfl:=PN E;refine cM Z (TB Z Z Z) (fun _=>Z) (Nc hG _ _ _ X hS _ _ ar) ?_;rintro ck V ⟨cn,ab,hS45,ar⟩;refine xY (R:=fJ) (m:=1) (e:=9) hO2 ar hS45 fJ.leaf (by have e1:(([()].take i).map fun _=>fI k x).flatten= []:=qM (by have:=bc W;simpa using this);have e2:(([x].take S).map<|fI k).flatten= []:=qM (by have:=bc z;simpa using this);rw[e1,e2];simp;omega) Z Z Z Z Z Z Z (fun _=>Z) (fun V bk bl hO46 ar=>?_);replace ar:=ar.weaken ab;refine SX 2 Z<|aC<|SV 5 Z<|aH ⟨j8-1,(by have:=bc z;simp at this;omega),oF,S+1,bk,bl,(by have:=bc z;simp at this;omega),(by rw[nP E,<-lQ_];exact hO46),Z,cI<|aW oM,ar⟩
  refine RC 3 Z (aL (ad (aU (l:=[(0,[]),(1,[]),(2,[]),(3,[]),(4,[]),(5,[]),(8,[]),(9,[]),(10,[]),(11,[]),(12,[]),(6,[12]),(7,[12]),(13,[]),(14,[]),(15,[])]) O O<|S0 3 Z<|Tx (e:=184) (m:=7) h w Z Z Z Z Z (fun cp a7 a8 b1 F=>?_))));replace F:a7= [N,.str [],.str [],N,ev,.az,.az]:=F;subst F;refine eQ a8 Z Z Z Z (k:=5) O (lb Z) (fun _=>Z) (fun cr a9=>?_);refine ai Z Z (TH ar a9 Z Z) Z<|S0 2 Z<|Tx (e:=184) (m:=7) h w Z Z Z Z Z (fun cs bb bd b2 I=>?_);replace I:bb= [N,.str [],.str [],N,ev,.az,.az]:=I;subst I;refine eQ bd Z Z Z Z (k:=6) O (lb Z) (fun _=>Z) (fun cv Q=>?_);refine ai Z Z (TH ar Q Z Z) Z<|eB Z Z (TB Z Z Z) (fun _=>Z) (B9 hG ar) (fun V ar=>?_);refine⟨(bx (bC Z Z Z Z Z (TH ar Q Z Z) Z) ba),?_⟩;refine uM (R:=fJ) (m:=1) (e:=9) hO2 ar T fJ.leaf (by have h1:(([x].take S).map<|fI k).flatten.length<=(fI k x).length:=GB;have e1:(([()].take i).map fun _=>fI k x).flatten= []:=qM (by have:=bc W;simpa using this);rw[e1,List.nil_append];show _+0<=_;omega) Z Z Z Z Z Z Z Z (fun _=>Z) (fun V cw cx hO54 ar=>?_);refine⟨(bx (bC Z Z Z Z Z (TH ar Q Z Z) Z) ba),?_⟩;refine eB Z Z (TB Z Z Z) (fun _=>Z) (B9 hG ar) (fun V ar=>?_);refine⟨ba,?_⟩;refine uM (R:=fJ) (m:=1) (e:=9) hO54 ar T fJ.leaf (by have h1:(([x].take S).map<|fI k).flatten.length<=(fI k x).length:=GB;have e1:(([()].take i).map fun _=>fI k x).flatten= []:=qM (by have:=bc W;simpa using this);rw[List.append_nil,e1,List.nil_append];show _+0<=_;omega) Z Z Z Z Z Z Z Z (fun _=>Z) (fun V bm bo hO61 ar=>?_);refine⟨ba,?_⟩;refine SZ 2 Z (aC (SV 5 Z (aH ⟨j3-1,(by have:=bc W;simp at this;omega),oF,i+1,bm,bo,(by have:=bc W;simp at this;omega),(by rw[nP w];have e3: [x].take S= [x]:=tL_ (bA z);rw[e3] at hO61;simpa using hO61),Z,cI<|aW oM,ar⟩)))
 refine RC 3 Z<|aL<|SW 7 Z ?_;exact aB Z Z ⟨K.g9 M,KP.dj _ _,by rw[tL_<|bA W] at hO;exact(show cZ 1 9 fJ (fI k x) u M by simpa using hO).jE,ar.keeps⟩
theorem QJ {G:Cx} (hG:Plain G) {K:KP} {l:List (List Nat)} {v:U} (h:bL K 1 fJ l v) (hl:l.length<=100000) {V:aE} {L:Own} (ar:D V K L):bu Tryz.prog G 128 [v] V fun v V'=>∃B l',KP.le K B/\bL B 1 fJ l' v/\(∀s,s∈l'↔s∈l)/\D V' B L:=by
 refine SQ hG Tryz.func128 Z<|Rx 17 Z ?_;obtain⟨LL1,ar,hLL1⟩:=ar.named;refine bf (rg 3 56) (fun j t V=>∃(i:Nat) (o:List (List Nat)) (u:U) (B:KP),j+i=l.length/\KP.le K B/\bL B 1 fJ o u/\(∀s,s∈o↔s∈l.take i)/\o.length<=i/\t.get 3=some (u)/\t.get 4=some (.int .i64 (.ofNat i))/\D V B LL1) (l.length) ⟨0,[],.az,K,Z,KP.le_refl _,.inl ⟨Z,Z⟩,by simp,nR_ _,Z,Z,ar⟩ ?_;clear ar;intro j3 t V an hI;obtain⟨i,o,u,B,hj,hle,F,hm,am,bd,be,ar⟩:=hI;subst hLL1;obtain⟨oo,rfl⟩:=an.q2 bd be Z;have h1:=h.mono hle (fun _ _ h=>h);refine Ry 5 Z<|Y Z (TF h1 Z Z Z (e:=9) Z) Z<|So 3 Z<|aD Z (fun I=>?_) (fun I=>?_)
 ·refine Qr 10 Z<|aJ ?_;obtain⟨LL2,ar,hLL2⟩:=ar.named;refine bf ([5]++rg 12 17) (fun j t V=>∃(T:Nat),j+T=o.length/\t.get 5=some (.int .i64 (.ofNat T))/\D V B LL2) (o.length) ⟨0,Z,Z,ar⟩ ?_;clear ar;intro j6 t V an hI;obtain⟨T,ce,bi,ar⟩:=hI;subst hLL2;obtain⟨oo,rfl⟩:=an.q1 bi Z;refine al<|al<|aU (l:=zp [0,1,2,3,4,5,6,7,8,9,10,11,12,13,14]) O O<|S0 2 Z<|ai Z Z (TF F Z Z Z (e:=9) Z) Z<|wQ 1 Z<|eg Z Z (aq Z) (fun _=>Z) (fun C=>?_) (fun C=>?_)
  ·refine S0 2 Z ?_;obtain⟨cg,ao,bv⟩:=cK C;refine Tx (e:=9) (m:=1) F ao Z Z Z Z Z (fun ch bw ap b0 a0=>?_);obtain rfl:=a0;refine ai Z Z (TH ar ap Z Z) Z<|S0 2 Z ?_;obtain⟨ci,a1,b3⟩:=cK I;refine Tx (e:=9) (m:=1) h1 a1 Z Z Z Z Z (fun cj b4 a2 b5 a3=>?_);obtain rfl:=a3;refine ai Z Z (TH ar a2 Z Z) Z<|Ss 4 Z<|aD Z (fun bk=>?_) (fun bk=>?_)
   ·refine aG<|SV 7 Z<|aH ⟨j6-1,(by have:=bc C;omega),oF,T+1,(by have:=bc C;omega),cI<|aW (by have:=F.bO;omega),ar⟩
   refine RC 3 Z<|aL<|ad<|al<|al<|aU (l:=zp [0,1,2,3,4,5,6,7,8,9,10,11,12,13,14]) O O<|S0 2 Z<|ai Z Z (TF F Z Z Z (e:=9) Z) Z<|wQ 1 Z<|eg Z Z (aq Z) (fun _=>Z) (fun E=>?_) (fun E=>?_)
   ·refine S0 2 Z ?_;obtain⟨ck,W,b6⟩:=cK E;refine Tx (e:=9) (m:=1) F W Z Z Z Z Z (fun cn b7 a4 b8 a5=>?_);obtain rfl:=a5;refine ai Z Z (TH ar a4 Z Z) Z<|S0 2 Z ?_;obtain⟨cp,aa,ca⟩:=cK I;refine Tx (e:=9) (m:=1) h1 aa Z Z Z Z Z (fun cr cb a6 cc a7=>?_);obtain rfl:=a7;refine ai Z Z (TH ar a6 Z Z) Z<|Ss 4 Z<|aD Z (fun h43=>?_) (fun h43=>?_)
    ·refine bg<|aO<|aL<|SV 5 Z<|aH ⟨j3-1,(by have:=bc I;omega),oF,i+1,o,u,B,(by have:=bc I;omega),hle,F,Ig hm W aa (by have h43:=h43;rw[lk] at h43;exact of_decide_eq_true h43),oM,Z,cI<|aW (by have:=h.bO;omega),ar⟩
    refine aG (ad (aU (l:=[(0,[]),(1,[]),(2,[]),(3,[]),(5,[]),(6,[]),(7,[]),(8,[]),(9,[]),(11,[]),(12,[]),(13,[]),(4,[8,9]),(10,[]),(14,[]),(15,[])]) O O<|qc ar Z Z (bP (e:=9) (m:=1) (z:=[.str []]) (cs:=[]) O O O O bF) (fun _=>Z) (fun V b1 ar=>?_)));replace ar:D V _ ([(b1,.row [] 9 false)]++_):=ar;refine S0 2 Z<|zO (e:=9) (m:=1) (k:=T) F oM Z Z Z O O Z Z (fun _=>Z) (fun bl M=>?_);refine S0 2 Z ?_;obtain⟨bm,w,a8⟩:=cK I;refine Tx (e:=9) (m:=1) h1 w Z Z Z Z Z (fun bo a9 A bb Q=>?_);obtain rfl:=Q;refine ai Z Z (TH ar A Z Z) Z<|qc ar Z Z (bP (e:=9) (m:=1) (z:=[.str []]) (cs:=[_]) O O O O<|bj Z Z Z Z bF) (fun _=>Z) (fun V b2 ar=>?_);refine S0 2 Z<|vR (e:=9) (m:=1) (k:=T) F oM Z Z Z O O Z Z (fun _=>Z) (fun bp S=>?_);replace ar:=ar.pull (.there .here);refine uM (R:=fJ) (m:=1) (e:=9) cZ.empty ar M fJ.leaf (by simp;omega) Z Z Z Z Z Z Z Z (fun _=>Z) (fun V bq br hO48 ar=>?_);refine⟨(bx (bC Z Z Z Z Z (TH ar A Z Z)<|BV _)<|bx (tQ Z Z Z Z Z (sQ (e:=9) (m:=1) (z:=[.str []]) (cs:=[_]) O O O O<|bj Z Z Z Z bF) ar.bR.g0<|cR (sT _) gM) ba),?_⟩;replace ar:=ar.pull (.dN<|cX.here (X:=[_]));refine mu (R:=fJ) (m:=1) (e:=9) hO48 ar (di (m:=1) Z Z) fJ.leaf (by simp;omega) Z Z Z Z Z Z Z Z (fun _=>Z) (fun V bs bt hO54 ar=>?_);refine⟨ba,?_⟩;refine uM (R:=fJ) (m:=1) (e:=9) hO54 ar S fJ.leaf (by simp;omega) Z Z Z Z Z Z Z Z (fun _=>Z) (fun V ab ac hO58 ar=>?_);refine⟨ba,?_⟩;replace ar:=ar.keeps;refine SZ 2 Z<|aC<|SV 5 Z<|aH ⟨j3-1,(by have:=bc I;omega),oF,i+1,_,ab,B.g9 ac,(by have:=bc I;omega),KP.le_trans hle<|KP.dj _ _,hO58.jE,Gy hm w,Gu am oM,Z,cI<|aW (by have:=h.bO;omega),ar⟩
   exact absurd E (by rw[C];decide)
  refine Ss 13 Z<|RC 3 Z<|aL<|ad<|al<|al<|aU (l:=zp [0,1,2,3,4,5,6,7,8,9,10,11,12,13,14]) O O<|S0 2 Z<|ai Z Z (TF F Z Z Z (e:=9) Z) Z<|wQ 1 Z<|eg Z Z (aq Z) (fun _=>Z) (fun E=>?_) (fun E=>?_)
  ·exact absurd E (by rw[C];decide)
  refine Ss 13 Z (aG (ad (aU (l:=[(0,[]),(1,[]),(2,[]),(3,[]),(5,[]),(6,[]),(7,[]),(8,[]),(9,[]),(11,[]),(12,[]),(13,[]),(4,[8,9]),(10,[]),(14,[]),(15,[])]) O O<|qc ar Z Z (bP (e:=9) (m:=1) (z:=[.str []]) (cs:=[]) O O O O bF) (fun _=>Z) (fun V b1 ar=>?_))));replace ar:D V _ ([(b1,.row [] 9 false)]++_):=ar;refine S0 2 Z<|zO (e:=9) (m:=1) (k:=T) F oM Z Z Z O O Z Z (fun _=>Z) (fun bl M=>?_);refine S0 2 Z ?_;obtain⟨bm,w,a8⟩:=cK I;refine Tx (e:=9) (m:=1) h1 w Z Z Z Z Z (fun bo a9 A bb Q=>?_);obtain rfl:=Q;refine ai Z Z (TH ar A Z Z) Z<|qc ar Z Z (bP (e:=9) (m:=1) (z:=[.str []]) (cs:=[_]) O O O O<|bj Z Z Z Z bF) (fun _=>Z) (fun V b2 ar=>?_);refine S0 2 Z<|vR (e:=9) (m:=1) (k:=T) F oM Z Z Z O O Z Z (fun _=>Z) (fun bp S=>?_);replace ar:=ar.pull (.there .here);refine uM (R:=fJ) (m:=1) (e:=9) cZ.empty ar M fJ.leaf (by simp;omega) Z Z Z Z Z Z Z Z (fun _=>Z) (fun V bq br hO48 ar=>?_);refine⟨(bx (bC Z Z Z Z Z (TH ar A Z Z)<|BV _)<|bx (tQ Z Z Z Z Z (sQ (e:=9) (m:=1) (z:=[.str []]) (cs:=[_]) O O O O<|bj Z Z Z Z bF) ar.bR.g0<|cR (sT _) gM) ba),?_⟩;replace ar:=ar.pull (.dN<|cX.here (X:=[_]));refine mu (R:=fJ) (m:=1) (e:=9) hO48 ar (di (m:=1) Z Z) fJ.leaf (by simp;omega) Z Z Z Z Z Z Z Z (fun _=>Z) (fun V bs bt hO54 ar=>?_);refine⟨ba,?_⟩;refine uM (R:=fJ) (m:=1) (e:=9) hO54 ar S fJ.leaf (by simp;omega) Z Z Z Z Z Z Z Z (fun _=>Z) (fun V ab ac hO58 ar=>?_);refine⟨ba,?_⟩;replace ar:=ar.keeps;refine SZ 2 Z<|aC<|SV 5 Z<|aH ⟨j3-1,(by have:=bc I;omega),oF,i+1,_,ab,B.g9 ac,(by have:=bc I;omega),KP.le_trans hle<|KP.dj _ _,hO58.jE,Gy hm w,Gu am oM,Z,cI<|aW (by have:=h.bO;omega),ar⟩
 refine RC 3 Z<|aL<|SW 7 Z ?_;exact aB Z Z ⟨B,o,hle,F,(by rw[tL_<|bA I] at hm;exact hm),ar⟩
theorem Pf {G:Cx} (u:Plain G) {K:KP} {k:Nat} {x:XE} {ev v:U} (h:bL K 7 (Rq ev) [()] v) (he:bL K 4 (eH K k) [x] ev) (hS:dg k x<=100000) {V:aE} {L:Own} (ar:D V K L):bu Tryz.prog G 122 [v] V fun v V'=>∃w l',KP.le K w/\bL w 1 fJ l' v/\(∀s,s∈l'↔s∈fI k x)/\D V' w L:=by
 have hrl:=qk k x;refine SQ u Tryz.func122 Z<|Sm 8 Z<|cM Z (TB Z Z Z) (fun _=>Z) (JK u h he oM ar) ?_;rintro v4 V ⟨K4,j,h4,ar⟩;refine cM Z (TB Z Z Z) (fun _=>Z) (QJ u h4 oM ar) ?_;rintro v5 V ⟨A,B,m,h5,z,ar⟩;refine Sr 4 Z ?_;exact aB Z Z ⟨A,B,KP.le_trans j m,h5,z,ar⟩
theorem Nb {G:Cx} (F:Plain G) {K:KP} {k:Nat} {x:XE} {vs:List U} (I:eH K k x vs) (Q:dg k x<=100000) {V:aE} {L:Own} (ar:D V K L):bu Tryz.prog G 113 [.agg vs] V fun v V'=>∃A l',KP.le K A/\bL A 1 fJ l' v/\(∀s,s∈l'↔s∈fI k x)/\D V' A L:=by
 obtain⟨o0,n0,s0,v0,rfl,hk⟩:=I.shape;refine SQ F Tryz.func113 Z<|Sm 2 Z<|kp ar Z (cC Z Z) (fun V b1 ar=>?_);refine RE 5 Z<|Y Z (TE Z ar.g0 (n:=4) (vs:=[_,_,_,_]) Z) Z<|fe ar Z (bP (e:=91) (m:=4) (z:=[N,N,.str [],.az]) (cs:=[_,_,_,_]) O O O O<|bj Z Z Z Z bF) (fun _=>Z) (fun V R ar=>?_);obtain⟨M,u,B,ar⟩:=CI ar;have h4:bL M 4 (eH M k) [x] (.slice R 0 1 (.known 1)):=AB Z (I.mono u) B;refine Y Z (cH (places:=[(0,1),(1,1),(2,1),(3,1),(4,1),(5,1),(6,1)]) (zero:=[N,.str [],.str [],N,.az,.az,.az]) (cs:=[_,_,_,_,_,_,_]) O O O (bj Z Z h4.leaf.1 Z bF) O) Z<|fe ar Z (bP (e:=184) (m:=7) (z:=[N,.str [],.str [],N,.az,.az,.az]) (cs:=[_,_,_,_,_,_,_]) O O O O<|bj Z Z Z Z bF) (fun _=>Z) (fun V S ar=>?_);obtain⟨T,j,C,ar⟩:=CI ar;have W:bL T 7 (Rq _) [()] (.slice S 0 1 (.known 1)):=AB Z Z C;replace h4:=h4.mono j fun _ _ h=>eH.mono j h
 refine cM Z (TB Z Z Z) (fun _=>Z) (Pf F W h4 Q ar) ?_;rintro v7 V ⟨X,l7,w,h7,E,ar⟩;refine Sr 4 Z ?_;exact aB Z Z ⟨X,l7,KP.le_trans (KP.le_trans u j) w,h7,E,ar.pop⟩
theorem lP {α β:Type} {f:α->β} {l:List α} {i:Nat} {x:α} (h:l[i]?=some x):(l.take (i+1)).map f=(l.take i).map f++[f x]:=by rw[List.take_add_one,h];simp
theorem CJ {k:Nat}:∀{kids:List XE},(∀y∈kids,iF k y)->kids.length<=(kids.map<|dg k).sum
 | [],_=>nR_ _
 | x::l,h=>by
  have:=CJ fun y j=>h y (mC_ _ j)
  have h1:1<=dg k x:=by
   have:=h x (mS_ ..);cases k with
   | zero=>exact this.elim
   | succ k=>exact IL
  simp only[List.length_cons,List.map_cons,List.sum_cons];omega
theorem E8 {op:Int} {s:List Nat} {n:Nat} (h:H op 2=true) (j:ld s=some n):iS op s=114::s:=by unfold iS;rw[h,j];rfl
theorem E7 {op:Int} {s:List Nat} (h:H op 2=true) (j:ld s=none):iS op s= [48]:=by unfold iS;rw[h,j];rfl
theorem KM {op:Int} {s:List Nat} (h:H op 2=false):iS op s=s:=by unfold iS;rw[h];rfl
theorem MZ {G:Cx} (hG:Plain G):∀(k:Nat) (K:KP) (x:XE) (vs:List U),eH K k x vs->iF k x->dg k x<=1000000->∀(V:aE) (L:Own),D V K L->bu Tryz.prog G 112 [.agg vs,.str [114]] V fun v V'=>∃E ws,v= .agg ws/\KP.le K E/\eH E k (fF k x) ws/\D V' E L:=by
 intro k;induction k with
 | zero=>intro K x vs h;cases x;exact h.elim
 | succ k ih=>
 intro K x vs hE hF hS V L ar;obtain⟨op,num,name,kids⟩:=x;obtain⟨v,rfl,hk⟩:=hE;have hS:(kids.map<|dg k).sum+1<=1000000:=hS;have hkl:=CJ hF.2;refine SQ hG Tryz.func112 Z<|Sm 2 Z<|kp ar Z (cC Z Z) (fun V b1 ar=>?_);refine kp ar Z (cQ (cs:=[N,N,.str [],.az]) O O) (fun V b2 ar=>?_);refine RM ar 10 [0,1,1,1,2,1] Z Z (Y Z (cH (places:=[(0,1),(1,1),(2,1),(3,1)]) (zero:=[N,N,.str [],.az]) (cs:=[_,_,_,_]) O O O Z O) Z<|kp ar Z (cQ (cs:=[N,N,.str [],.az]) O O) (fun V b3 ar=>?_));refine bZ ar Z (TJ Z Z Z ar.g0 (m:=4) Z Z (cells':=[_,_,_,_]) Z) Z (fun V ar=>?_);refine Rb ar 8 [0,2] Z Z<|ky Z (aq Z) (fun S=>?_) (fun S=>?_)
 ·refine S2 ar 2 [2,2] Z Z<|bz Z (TB Z Z Z) (fun _=>Z) (JI hG _ ar) (fun V ar=>?_);refine So 4 Z<|aD Z (fun ac=>?_) (fun ac=>?_)
  ·refine S1 ar 4 [2,2] Z Z ?_;obtain⟨nn,a3⟩:=GA ac;refine Y Z (ax Z Z<|Ob a3) Z<|Y Z (TC 2 Z) Z<|bZ ar Z (TJ Z Z Z ar.g0 (m:=1) Z Z (cells':=[_,_,_,_]) Z) Z (fun V ar=>?_);refine Q9 5 Z ?_;obtain⟨nn,a3⟩:=GA ac;replace ar:D V K ([]++(b3,.row [.int .i64 op,.int .i64 num,.str<|iS op name,.az] 91 false)::(b2,.row [N,N,.str [],.az] 91 false)::(b1,.row [.int .i64 op,.int .i64 num,.str name,v] 91 false)::L):=by rw[E8 S a3];exact ar
   refine RD 4 Z (bf ([6]++rg 32 19) (fun j t V=>∃(i:Nat) (u:U) (M:Own) (E:KP),j+i=kids.length/\KP.le K E/\cZ 4 91 (eH E k) ((kids.take i).map<|fF k) u M/\t.get 6=some (.int .i64 (.ofNat i))/\D V E (M++(b3,.row [.int .i64 op,.int .i64 num,.str<|iS op name,u] 91 false)::(b2,.row [N,N,.str [],.az] 91 false)::(b1,.row [.int .i64 op,.int .i64 num,.str name,v] 91 false)::L)) (kids.length) ⟨0,.az,[],K,Z,KP.le_refl _,cZ.nil,Z,ar⟩ ?_);clear ar;intro j7 t V an hI;obtain⟨i,u,M,E,hj,hle,F,T,ar⟩:=hI;obtain⟨oo,rfl⟩:=an.q1 T Z;have hk1:=hk.mono hle (fun _ _ h=>eH.mono hle h);refine RJ ar 5 [3] Z Z<|Y Z (TD Z ar.bR.pop.pop.g0 Z) Z<|Y Z (TF hk1 Z Z Z (e:=91) Z) Z<|So 3 Z<|aD Z (fun B=>?_) (fun B=>?_)
   ·refine Q7 4 Z (aU (l:=[(0,[]),(1,[]),(2,[]),(3,[]),(4,[]),(5,[]),(6,[]),(7,[]),(8,[1]),(9,[]),(10,[]),(11,[]),(12,[])]) O O<|ai Z Z (TC 3 Z) Z<|ai Z Z (TD Z ar.bR.g0 Z) Z<|ai Z Z (TC 3 Z) Z<|ai Z Z (TD Z ar.bR.pop.pop.g0 Z) Z<|wQ 1 Z ?_);obtain⟨a4,w,am⟩:=cK B;refine Tx (e:=91) (m:=4) hk1 w Z Z Z Z Z (fun a5 ao I ap C=>?_);obtain⟨a6,a7,a8,a9,rfl,a0⟩:=C.shape;refine ai Z Z (TI ar I Z Z) Z<|wQ 1 Z<|fB Z Z (TB Z Z Z) (fun _=>Z) (ih _ _ _ C (hF.2 _<|gB_ w) (Nat.le_trans (lK (f:=dg k) w) oM) _ _ ar) ?_;rintro _ V ⟨Q,a1,rfl,A,hE47,ar⟩;refine⟨(bx (bC Z Z Z Z Z (TD Z ar.bR.g0 Z) (F.jE (K:=fun _ _=>False)).eh) ba),?_⟩;obtain⟨bb,bd,be,bi,rfl,a2⟩:=hE47.shape;have hO':=F.zG (fun _ _ h=>eH.mono A h);refine qc ar Z Z (bP (e:=91) (m:=4) (z:=[N,N,.str [],.az]) (cs:=[_,_,_,_]) O O O O<|bj Z Z Z Z bF) (fun _=>Z) (fun V b4 ar=>?_);replace ar:=ar.pull (.there .here);replace ar:=ar.pull (.dN<|cX.here (X:=[_]));refine mu (R:=eH Q k) (m:=4) (e:=91) hO' ar (di (m:=4) Z hE47) eH.leaf (by rw[lM_,lT_];show _+1<=_;omega) Z Z Z Z Z Z Z Z (fun _=>Z) (fun V W aa hO49 ar=>?_);refine⟨ba,?_⟩;refine ai Z Z (TC 3 Z) Z<|gD ar (.dN .here) Z Z (aR Z Z hO49.leaf.1 ar.bR.g0 (m:=1) O Z (lb Z) (aj hO49.leaf.2 aI) (cells':=[_,_,_,_]) Z) Z (fun V ar=>?_);refine⟨ba,?_⟩;refine aX<|aC<|SV 5 Z<|aH ⟨j7-1,(by have:=bc B;omega),oF,i+1,W,aa,Q,oM,KP.le_trans hle A,(by rw[lP w];exact hO49),cI<|aW (by have:=hk.bO;omega),ar⟩
   refine RC 3 Z<|aL<|Sm 2 Z<|Y Z (TE Z ar.bR.g0 (n:=4) (vs:=[_,_,_,_]) Z) Z<|dX ar (.dN (.there .here)) Z (TJ Z Z Z ar.bR.pop.g0 (m:=4) Z (aj Z<|aj Z<|aj Z<|aj F.leaf.2 aI) (cells':=[_,_,_,_]) Z) Z (fun V ar=>?_);refine Sr 3 Z ?_;exact eM Z Z ar.bR.pop.g0 (m:=4) O Z ⟨E.g9 M,_,Z,KP.le_trans hle<|KP.dj _ _,⟨u,Z,by rw[tL_<|bA B] at F;exact F.jE.mono (KP.le_refl _) fun _ _ h=>eH.mono (KP.dj _ _) h⟩,ar.keeps.pop.pop.pop⟩
  refine Sm 2 Z<|Sw ar 5 [0,2] Z Z<|aD Z (fun ab=>?_) (fun ab=>?_)
  ·refine S1 ar 2 [2] Z Z<|bZ ar Z (TJ Z Z Z ar.g0 (m:=1) Z Z (cells':=[_,_,_,_]) Z) Z (fun V ar=>?_);refine Q9 5 Z ?_;replace ar:D V K ([]++(b3,.row [.int .i64 op,.int .i64 num,.str<|iS op name,.az] 91 false)::(b2,.row [N,N,.str [],.az] 91 false)::(b1,.row [.int .i64 op,.int .i64 num,.str name,v] 91 false)::L):=by rw[E7 S<|NH ac];exact ar
   refine RD 4 Z (bf ([6]++rg 32 19) (fun j t V=>∃(i:Nat) (u:U) (M:Own) (E:KP),j+i=kids.length/\KP.le K E/\cZ 4 91 (eH E k) ((kids.take i).map<|fF k) u M/\t.get 6=some (.int .i64 (.ofNat i))/\D V E (M++(b3,.row [.int .i64 op,.int .i64 num,.str<|iS op name,u] 91 false)::(b2,.row [N,N,.str [],.az] 91 false)::(b1,.row [.int .i64 op,.int .i64 num,.str name,v] 91 false)::L)) (kids.length) ⟨0,.az,[],K,Z,KP.le_refl _,cZ.nil,Z,ar⟩ ?_);clear ar;intro j7 t V an hI;obtain⟨i,u,M,E,hj,hle,F,T,ar⟩:=hI;obtain⟨oo,rfl⟩:=an.q1 T Z;have hk1:=hk.mono hle (fun _ _ h=>eH.mono hle h);refine RJ ar 5 [3] Z Z<|Y Z (TD Z ar.bR.pop.pop.g0 Z) Z<|Y Z (TF hk1 Z Z Z (e:=91) Z) Z<|So 3 Z<|aD Z (fun B=>?_) (fun B=>?_)
   ·refine Q7 4 Z (aU (l:=[(0,[]),(1,[]),(2,[]),(3,[]),(4,[]),(5,[]),(6,[]),(7,[]),(8,[1]),(9,[]),(10,[]),(11,[]),(12,[])]) O O<|ai Z Z (TC 3 Z) Z<|ai Z Z (TD Z ar.bR.g0 Z) Z<|ai Z Z (TC 3 Z) Z<|ai Z Z (TD Z ar.bR.pop.pop.g0 Z) Z<|wQ 1 Z ?_);obtain⟨a4,w,am⟩:=cK B;refine Tx (e:=91) (m:=4) hk1 w Z Z Z Z Z (fun a5 ao I ap C=>?_);obtain⟨a6,a7,a8,a9,rfl,a0⟩:=C.shape;refine ai Z Z (TI ar I Z Z) Z<|wQ 1 Z<|fB Z Z (TB Z Z Z) (fun _=>Z) (ih _ _ _ C (hF.2 _<|gB_ w) (Nat.le_trans (lK (f:=dg k) w) oM) _ _ ar) ?_;rintro _ V ⟨Q,a1,rfl,A,hE47,ar⟩;refine⟨(bx (bC Z Z Z Z Z (TD Z ar.bR.g0 Z) (F.jE (K:=fun _ _=>False)).eh) ba),?_⟩;obtain⟨bb,bd,be,bi,rfl,a2⟩:=hE47.shape;have hO':=F.zG (fun _ _ h=>eH.mono A h);refine qc ar Z Z (bP (e:=91) (m:=4) (z:=[N,N,.str [],.az]) (cs:=[_,_,_,_]) O O O O<|bj Z Z Z Z bF) (fun _=>Z) (fun V b4 ar=>?_);replace ar:=ar.pull (.there .here);replace ar:=ar.pull (.dN<|cX.here (X:=[_]));refine mu (R:=eH Q k) (m:=4) (e:=91) hO' ar (di (m:=4) Z hE47) eH.leaf (by rw[lM_,lT_];show _+1<=_;omega) Z Z Z Z Z Z Z Z (fun _=>Z) (fun V W aa hO49 ar=>?_);refine⟨ba,?_⟩;refine ai Z Z (TC 3 Z) Z<|gD ar (.dN .here) Z Z (aR Z Z hO49.leaf.1 ar.bR.g0 (m:=1) O Z (lb Z) (aj hO49.leaf.2 aI) (cells':=[_,_,_,_]) Z) Z (fun V ar=>?_);refine⟨ba,?_⟩;refine aX<|aC<|SV 5 Z<|aH ⟨j7-1,(by have:=bc B;omega),oF,i+1,W,aa,Q,oM,KP.le_trans hle A,(by rw[lP w];exact hO49),cI<|aW (by have:=hk.bO;omega),ar⟩
   refine RC 3 Z<|aL<|Sm 2 Z<|Y Z (TE Z ar.bR.g0 (n:=4) (vs:=[_,_,_,_]) Z) Z<|dX ar (.dN (.there .here)) Z (TJ Z Z Z ar.bR.pop.g0 (m:=4) Z (aj Z<|aj Z<|aj Z<|aj F.leaf.2 aI) (cells':=[_,_,_,_]) Z) Z (fun V ar=>?_);refine Sr 3 Z ?_;exact eM Z Z ar.bR.pop.g0 (m:=4) O Z ⟨E.g9 M,_,Z,KP.le_trans hle<|KP.dj _ _,⟨u,Z,by rw[tL_<|bA B] at F;exact F.jE.mono (KP.le_refl _) fun _ _ h=>eH.mono (KP.dj _ _) h⟩,ar.keeps.pop.pop.pop⟩
  exact absurd ab (by rw[S];decide)
 refine Sw ar 15 [0,2] Z Z<|aD Z (fun ab=>?_) (fun ab=>?_)
 ·exact absurd ab (by rw[S];decide)
 refine Rz 3 Z<|Sm 2 Z ?_;replace ar:D V K ([]++(b3,.row [.int .i64 op,.int .i64 num,.str<|iS op name,.az] 91 false)::(b2,.row [N,N,.str [],.az] 91 false)::(b1,.row [.int .i64 op,.int .i64 num,.str name,v] 91 false)::L):=by rw[KM S];exact ar
 refine RD 4 Z (bf ([6]++rg 32 19) (fun j t V=>∃(i:Nat) (u:U) (M:Own) (E:KP),j+i=kids.length/\KP.le K E/\cZ 4 91 (eH E k) ((kids.take i).map<|fF k) u M/\t.get 6=some (.int .i64 (.ofNat i))/\D V E (M++(b3,.row [.int .i64 op,.int .i64 num,.str<|iS op name,u] 91 false)::(b2,.row [N,N,.str [],.az] 91 false)::(b1,.row [.int .i64 op,.int .i64 num,.str name,v] 91 false)::L)) (kids.length) ⟨0,.az,[],K,Z,KP.le_refl _,cZ.nil,Z,ar⟩ ?_);clear ar;intro j7 t V an hI;obtain⟨i,u,M,E,hj,hle,F,T,ar⟩:=hI;obtain⟨oo,rfl⟩:=an.q1 T Z;have hk1:=hk.mono hle (fun _ _ h=>eH.mono hle h);refine RJ ar 5 [3] Z Z<|Y Z (TD Z ar.bR.pop.pop.g0 Z) Z<|Y Z (TF hk1 Z Z Z (e:=91) Z) Z<|So 3 Z<|aD Z (fun B=>?_) (fun B=>?_)
 ·refine Q7 4 Z (aU (l:=[(0,[]),(1,[]),(2,[]),(3,[]),(4,[]),(5,[]),(6,[]),(7,[]),(8,[1]),(9,[]),(10,[]),(11,[]),(12,[])]) O O<|ai Z Z (TC 3 Z) Z<|ai Z Z (TD Z ar.bR.g0 Z) Z<|ai Z Z (TC 3 Z) Z<|ai Z Z (TD Z ar.bR.pop.pop.g0 Z) Z<|wQ 1 Z ?_);obtain⟨a4,w,am⟩:=cK B;refine Tx (e:=91) (m:=4) hk1 w Z Z Z Z Z (fun a5 ao I ap C=>?_);obtain⟨a6,a7,a8,a9,rfl,a0⟩:=C.shape;refine ai Z Z (TI ar I Z Z) Z<|wQ 1 Z<|fB Z Z (TB Z Z Z) (fun _=>Z) (ih _ _ _ C (hF.2 _<|gB_ w) (Nat.le_trans (lK (f:=dg k) w) oM) _ _ ar) ?_;rintro _ V ⟨Q,a1,rfl,A,hE47,ar⟩;refine⟨(bx (bC Z Z Z Z Z (TD Z ar.bR.g0 Z) (F.jE (K:=fun _ _=>False)).eh) ba),?_⟩;obtain⟨bb,bd,be,bi,rfl,a2⟩:=hE47.shape;have hO':=F.zG (fun _ _ h=>eH.mono A h);refine qc ar Z Z (bP (e:=91) (m:=4) (z:=[N,N,.str [],.az]) (cs:=[_,_,_,_]) O O O O<|bj Z Z Z Z bF) (fun _=>Z) (fun V b4 ar=>?_);replace ar:=ar.pull (.there .here);replace ar:=ar.pull (.dN<|cX.here (X:=[_]));refine mu (R:=eH Q k) (m:=4) (e:=91) hO' ar (di (m:=4) Z hE47) eH.leaf (by rw[lM_,lT_];show _+1<=_;omega) Z Z Z Z Z Z Z Z (fun _=>Z) (fun V W aa hO49 ar=>?_);refine⟨ba,?_⟩;refine ai Z Z (TC 3 Z) Z<|gD ar (.dN .here) Z Z (aR Z Z hO49.leaf.1 ar.bR.g0 (m:=1) O Z (lb Z) (aj hO49.leaf.2 aI) (cells':=[_,_,_,_]) Z) Z (fun V ar=>?_);refine⟨ba,?_⟩;refine aX<|aC<|SV 5 Z<|aH ⟨j7-1,(by have:=bc B;omega),oF,i+1,W,aa,Q,oM,KP.le_trans hle A,(by rw[lP w];exact hO49),cI<|aW (by have:=hk.bO;omega),ar⟩
 refine RC 3 Z<|aL<|Sm 2 Z<|Y Z (TE Z ar.bR.g0 (n:=4) (vs:=[_,_,_,_]) Z) Z<|dX ar (.dN (.there .here)) Z (TJ Z Z Z ar.bR.pop.g0 (m:=4) Z (aj Z<|aj Z<|aj Z<|aj F.leaf.2 aI) (cells':=[_,_,_,_]) Z) Z (fun V ar=>?_);refine Sr 3 Z ?_;exact eM Z Z ar.bR.pop.g0 (m:=4) O Z ⟨E.g9 M,_,Z,KP.le_trans hle<|KP.dj _ _,⟨u,Z,by rw[tL_<|bA B] at F;exact F.jE.mono (KP.le_refl _) fun _ _ h=>eH.mono (KP.dj _ _) h⟩,ar.keeps.pop.pop.pop⟩
theorem H5 {op:Int} {s:List Nat} (h:s.length<=9223372036854775807):(iS op s).length<=9223372036854775807:=by
 unfold iS;cases H op 2 with
 | false=>exact h
 | true=>
  show(match ld s with | some _=>114::s | none=>[48]).length<=_;cases j:ld s with
  | none=>show 1<=_;omega
  | some n=>
   obtain⟨_,h4,_⟩:=Dh j;show s.length+1<=_;omega
theorem vf:∀{k:Nat} {x:XE},iF k x->iF k (fF k x)
 | 0,_,h=>h.elim
 | k+1,.mk op num name kids,h=>⟨H5 h.1,fun y j=>by
  obtain⟨x,hx,rfl⟩:=List.mem_map.1 j;exact vf<|h.2 x hx⟩
theorem F5 {α:Type} {p:α->Bool} {l l':List α} (hm:∀s,s∈l'↔s∈l):l'.all p=l.all p:=by
 rw[Bool.eq_iff_iff,aE_,aE_];exact⟨fun h x hx=>h x ((hm x).2 hx),fun h x hx=>h x ((hm x).1 hx)⟩
theorem JO {G:Cx} (hG:Plain G) {K:KP} {k:Nat} {c:XC} {cv:U} (hc:bL K 6 (j0 K k) c.ins cv) {x:XI} {vs:List U} (hI:j0 K k x vs) (hF:∀e∈x.exprs,iF k e) (hS:∀e∈x.exprs,dg k e<=100000) {V:aE} {L:Own} (ar:D V K L):bu Tryz.prog G 83 [.agg [.int .i64 c.br,cv],.agg vs] V fun v V'=>v= .bool (gg c.br (.ofNat c.ins.length) k x)/\D V' K L:=by
 obtain⟨w,rfl,hk⟩:=hI;refine SQ hG Tryz.func83 Z<|Sm 2 Z<|kp ar Z (cC Z Z) (fun V b1 ar=>?_);refine kp ar Z (cC Z Z) (fun V b2 ar=>?_);refine So 3 Z ?_;obtain⟨LC1,ar,hLC1⟩:=ar.named;refine iA ([5]++rg 10 8) (fun t V=>∃(q:Bool),q=tx x.kind/\t.get 5=some (.bool q)/\D V K LC1) ?_ ?_
 ·subst hLC1;refine S1 ar 3 [0,0] Z Z<|bz Z (TB Z Z Z) (fun _=>Z) (kU hG _ ar) (fun V ar=>?_);refine ky Z (aq Z) (fun be=>?_) (fun be=>?_)
  ·refine SX 6 Z ?_;exact⟨Z,oF,_,(by unfold tx;simp only[be,ct,cf]<;>rfl),Z,ar⟩
  refine S2 ar 5 [0,0] Z Z<|af ?_;exact⟨Z,oF,_,(by unfold tx;simp only[be,ct,cf]<;>rfl),Z,ar⟩
 clear ar;intro t V an hI;obtain⟨q,hq,bw,ar⟩:=hI;subst hLC1;obtain⟨oo,rfl⟩:=an.q1 bw Z;subst hq;obtain⟨LC2,ar,hLC2⟩:=ar.named;refine iA ([6]++rg 18 8) (fun t V=>∃(q:Bool),q=Od x.kind/\t.get 6=some (.bool q)/\D V K LC2) ?_ ?_
 ·subst hLC2;refine S1 ar 4 [0,0] Z Z<|ky Z (aq Z) (fun bi=>?_) (fun bi=>?_)
  ·refine SX 6 Z ?_;exact⟨Z,oF,_,(by unfold Od;simp only[bi,ct,cf]<;>rfl),Z,ar⟩
  refine S2 ar 5 [0,0] Z Z<|af ?_;exact⟨Z,oF,_,(by unfold Od;simp only[bi,ct,cf]<;>rfl),Z,ar⟩
 clear ar;intro t V an hI;obtain⟨q,hq,b0,ar⟩:=hI;subst hLC2;obtain⟨oo,rfl⟩:=an.q1 b0 Z;subst hq;refine al ?_;obtain⟨LC3,ar,hLC3⟩:=ar.named;refine iA (rg 26 28) (fun t V=>∃(q:Bool),q=pe x/\t.get 53=some (.bool q)/\D V K LC3) ?_ ?_
 ·subst hLC3;refine aU (l:=[(0,[]),(1,[]),(3,[]),(4,[]),(5,[]),(2,[4]),(6,[]),(7,[]),(8,[]),(9,[]),(10,[]),(11,[]),(12,[]),(13,[]),(14,[]),(15,[]),(16,[]),(17,[]),(18,[]),(19,[]),(20,[]),(21,[]),(22,[]),(23,[]),(24,[]),(25,[]),(26,[]),(27,[])]) O O<|S3 ar 4 [0,0,5,0] Z Z<|ai Z Z (TF hk Z Z Z (e:=91) Z) Z<|eB Z Z (TB Z Z Z) (fun _=>Z) (M8 hG _ ar) (fun V ar=>?_);refine⟨(bx (bC Z Z Z Z Z (TD Z ar.g0 Z) hk.eh) ba),?_⟩;refine wQ 1 Z<|eg Z Z (aq Z) (fun _=>Z) (fun S=>?_) (fun S=>?_)
  ·refine SZ 21 Z ?_;exact⟨Z,oF,_,(by unfold pe BD bh;simp only[S,ct,cf]<;>rfl),Z,ar⟩
  refine S3 ar 4 [3,0] Z Z<|eg Z Z (aq Z) (fun _=>Z) (fun aa=>?_) (fun aa=>?_)
  ·refine S3 ar 6 [3,0] Z Z<|eg Z Z (aq Z) (fun _=>Z) (fun Q=>?_) (fun Q=>?_)
   ·refine SZ 9 Z ?_;exact⟨Z,oF,_,(by unfold pe BD bh;simp only[S,aa,Q,ct,cf]<;>rfl),Z,ar⟩
   refine wQ 1 Z<|ai Z Z (da Z) Z<|eg Z Z (aq Z) (fun _=>Z) (fun ab=>?_) (fun ab=>?_)
   ·refine S3 ar 5 [3,0] Z Z<|aX ?_;exact⟨Z,oF,_,(by unfold pe BD bh;simp only[S,aa,Q,show(bif tx x.kind then false else true)=true from ab,ct,cf]<;>rfl),Z,ar⟩
   refine SZ 6 Z ?_;exact⟨Z,oF,_,(by unfold pe BD bh;simp only[S,aa,Q,show(bif tx x.kind then false else true)=false from ab,ct,cf]<;>rfl),Z,ar⟩
  refine S0 6 Z<|eg Z Z (aq Z) (fun _=>Z) (fun Q=>?_) (fun Q=>?_)
  ·refine SZ 9 Z ?_;exact⟨Z,oF,_,(by unfold pe BD bh;simp only[S,aa,show(bif tx x.kind then true else false)=true from Q,ct,cf]<;>rfl),Z,ar⟩
  refine wQ 1 Z<|ai Z Z (da Z) Z<|eg Z Z (aq Z) (fun _=>Z) (fun ab=>?_) (fun ab=>?_)
  ·refine S3 ar 5 [3,0] Z Z<|aX ?_;exact⟨Z,oF,_,(by unfold pe BD bh;simp only[S,aa,show(bif tx x.kind then true else false)=false from Q,show(bif tx x.kind then false else true)=true from ab,ct,cf]<;>rfl),Z,ar⟩
  refine SZ 6 Z ?_;exact⟨Z,oF,_,(by unfold pe BD bh;simp only[S,aa,show(bif tx x.kind then true else false)=false from Q,show(bif tx x.kind then false else true)=false from ab,ct,cf]<;>rfl),Z,ar⟩
 clear ar;intro t V an hI;obtain⟨q,hq,bs,ar⟩:=hI;subst hLC3;obtain⟨oo,rfl⟩:=an.q1 bs Z;subst hq;refine aD Z (fun ac=>?_) (fun ac=>?_)
 ·refine Sn 7 Z ?_;exact aB Z Z ⟨cB (by unfold gg;rw[ac];rfl),ar.pop.pop⟩
 refine Rz 3 Z ?_;obtain⟨LC5,ar,hLC5⟩:=ar.named;refine iA (rg 54 52) (fun t V=>∃(q:Bool),q=mQ c.br x/\t.get 105=some (.bool q)/\D V K LC5) ?_ ?_
 ·subst hLC5;refine S1 ar 3 [0,0] Z Z<|bz Z (TB Z Z Z) (fun _=>Z) (EB hG _ ar) (fun V ar=>?_);refine ky Z (aq Z) (fun A=>?_) (fun A=>?_)
  ·refine S2 ar 3 [1,0] Z Z<|ky Z (aq Z) (fun am=>?_) (fun am=>?_)
   ·refine SX 45 Z ?_;exact⟨Z,oF,_,(by unfold mQ bh;simp only[A,am,ct,cf]<;>rfl),Z,ar⟩
   refine S2 ar 7 [1,0,0,1] Z Z<|ky Z (aq Z) (fun a3=>?_) (fun a3=>?_)
   ·refine SX 37 Z ?_;exact⟨Z,oF,_,(by unfold mQ bh;simp only[A,am,a3,ct,cf]<;>rfl),Z,ar⟩
   refine S2 ar 2 [0,0] Z Z<|bz Z (TB Z Z Z) (fun _=>Z) (EB hG _ ar) (fun V ar=>?_);refine Y Z (da Z) Z<|ky Z (aq Z) (fun B=>?_) (fun B=>?_)
   ·exact absurd B (by rw[A];decide)
   refine S2 ar 8 [0,0] Z Z<|bz Z (TB Z Z Z) (fun _=>Z) (kU hG _ ar) (fun V ar=>?_);refine ky Z (aq Z) (fun z=>?_) (fun z=>?_)
   ·refine S2 ar 3 [2,0] Z Z<|ky Z (aq Z) (fun R=>?_) (fun R=>?_)
    ·refine SX 18 Z ?_;exact⟨Z,oF,_,(by unfold mQ bh;simp only[A,am,a3,show(bif lf x.kind then false else true)=false from B,z,R,ct,cf]<;>rfl),Z,ar⟩
    refine S2 ar 6 [2,0] Z Z<|ky Z (aq Z) (fun ao=>?_) (fun ao=>?_)
    ·refine SX 11 Z ?_;exact⟨Z,oF,_,(by unfold mQ bh;simp only[A,am,a3,show(bif lf x.kind then false else true)=false from B,z,R,ao,ct,cf]<;>rfl),Z,ar⟩
    refine S2 ar 2 [0,0] Z Z<|bz Z (TB Z Z Z) (fun _=>Z) (kU hG _ ar) (fun V ar=>?_);refine Y Z (da Z) Z<|ky Z (aq Z) (fun u=>?_) (fun u=>?_)
    ·exact absurd u (by rw[z];decide)
    refine SX 6 Z ?_;exact⟨Z,oF,_,(by unfold mQ bh;simp only[A,am,a3,show(bif lf x.kind then false else true)=false from B,z,R,ao,show(bif rq x.kind then false else true)=false from u,ct,cf]<;>rfl),Z,ar⟩
   refine S2 ar 13 [0,0] Z Z<|bz Z (TB Z Z Z) (fun _=>Z) (kU hG _ ar) (fun V ar=>?_);refine Y Z (da Z) Z<|ky Z (aq Z) (fun u=>?_) (fun u=>?_)
   ·refine S2 ar 5 [2,0] Z Z<|af ?_;exact⟨Z,oF,_,(by unfold mQ bh;simp only[A,am,a3,show(bif lf x.kind then false else true)=false from B,z,show(bif rq x.kind then false else true)=true from u,ct,cf]<;>rfl),Z,ar⟩
   exact absurd u (by rw[z];decide)
  refine S2 ar 14 [0,0] Z Z<|bz Z (TB Z Z Z) (fun _=>Z) (EB hG _ ar) (fun V ar=>?_);refine Y Z (da Z) Z<|ky Z (aq Z) (fun B=>?_) (fun B=>?_)
  ·refine S2 ar 5 [1,0] Z Z<|ky Z (aq Z) (fun a4=>?_) (fun a4=>?_)
   ·refine SX 26 Z ?_;exact⟨Z,oF,_,(by unfold mQ bh;simp only[A,show(bif lf x.kind then false else true)=true from B,a4,ct,cf]<;>rfl),Z,ar⟩
   refine S2 ar 2 [0,0] Z Z<|bz Z (TB Z Z Z) (fun _=>Z) (kU hG _ ar) (fun V ar=>?_);refine ky Z (aq Z) (fun z=>?_) (fun z=>?_)
   ·refine S2 ar 3 [2,0] Z Z<|ky Z (aq Z) (fun R=>?_) (fun R=>?_)
    ·refine SX 18 Z ?_;exact⟨Z,oF,_,(by unfold mQ bh;simp only[A,show(bif lf x.kind then false else true)=true from B,a4,z,R,ct,cf]<;>rfl),Z,ar⟩
    refine S2 ar 6 [2,0] Z Z<|ky Z (aq Z) (fun ao=>?_) (fun ao=>?_)
    ·refine SX 11 Z ?_;exact⟨Z,oF,_,(by unfold mQ bh;simp only[A,show(bif lf x.kind then false else true)=true from B,a4,z,R,ao,ct,cf]<;>rfl),Z,ar⟩
    refine S2 ar 2 [0,0] Z Z<|bz Z (TB Z Z Z) (fun _=>Z) (kU hG _ ar) (fun V ar=>?_);refine Y Z (da Z) Z<|ky Z (aq Z) (fun u=>?_) (fun u=>?_)
    ·exact absurd u (by rw[z];decide)
    refine SX 6 Z ?_;exact⟨Z,oF,_,(by unfold mQ bh;simp only[A,show(bif lf x.kind then false else true)=true from B,a4,z,R,ao,show(bif rq x.kind then false else true)=false from u,ct,cf]<;>rfl),Z,ar⟩
   refine S2 ar 13 [0,0] Z Z<|bz Z (TB Z Z Z) (fun _=>Z) (kU hG _ ar) (fun V ar=>?_);refine Y Z (da Z) Z<|ky Z (aq Z) (fun u=>?_) (fun u=>?_)
   ·refine S2 ar 5 [2,0] Z Z<|af ?_;exact⟨Z,oF,_,(by unfold mQ bh;simp only[A,show(bif lf x.kind then false else true)=true from B,a4,z,show(bif rq x.kind then false else true)=true from u,ct,cf]<;>rfl),Z,ar⟩
   exact absurd u (by rw[z];decide)
  exact absurd B (by rw[A];decide)
 clear ar;intro t V an hI;obtain⟨q,hq,bk,ar⟩:=hI;subst hLC5;obtain⟨oo,rfl⟩:=an.q1 bk Z;subst hq;refine aD Z (fun M=>?_) (fun M=>?_)
 ·refine Sn 7 Z ?_;exact aB Z Z ⟨cB (by unfold gg;rw[ac,M];rfl),ar.pop.pop⟩
 refine Rz 3 Z ?_;obtain⟨LC7,ar,hLC7⟩:=ar.named;refine iA (rg 106 23) (fun t V=>∃(q:Bool),q=wR (.ofNat c.ins.length) x/\t.get 128=some (.bool q)/\D V K LC7) ?_ ?_
 ·subst hLC7;refine ah Z<|vQ 1 Z<|ky Z (aq Z) (fun F=>?_) (fun F=>?_)
  ·refine S2 ar 3 [4,0] Z Z<|ky Z (aq Z) (fun a0=>?_) (fun a0=>?_)
   ·refine SX 18 Z ?_;exact⟨Z,oF,_,(by unfold wR bh;simp only[F,a0,ct,cf]<;>rfl),Z,ar⟩
   refine S2 ar 4 [4,0,1,1] Z Z<|Y Z (TF hc Z Z Z (e:=88) Z) Z<|SY 3 Z<|ky Z (aq Z) (fun a5=>?_) (fun a5=>?_)
   ·refine SX 9 Z ?_;exact⟨Z,oF,_,(by unfold wR bh;simp only[F,a0,a5,ct,cf]<;>rfl),Z,ar⟩
   refine vQ 1 Z<|Y Z (da Z) Z<|ky Z (aq Z) (fun I=>?_) (fun I=>?_)
   ·exact absurd I (by rw[F];decide)
   refine SX 6 Z ?_;exact⟨Z,oF,_,(by unfold wR bh;simp only[F,a0,a5,show(bif Od x.kind then false else true)=false from I,ct,cf]<;>rfl),Z,ar⟩
  refine SY 14 Z<|Y Z (da Z) Z<|ky Z (aq Z) (fun I=>?_) (fun I=>?_)
  ·refine S2 ar 5 [4,0] Z Z<|af ?_;exact⟨Z,oF,_,(by unfold wR bh;simp only[F,show(bif Od x.kind then false else true)=true from I,ct,cf]<;>rfl),Z,ar⟩
  exact absurd I (by rw[F];decide)
 clear ar;intro t V an hI;obtain⟨q,hq,bl,ar⟩:=hI;subst hLC7;obtain⟨oo,rfl⟩:=an.q1 bl Z;subst hq;refine aD Z (fun T=>?_) (fun T=>?_)
 ·refine Sn 7 Z ?_;exact aB Z Z ⟨cB (by unfold gg;rw[ac,M,T];rfl),ar.pop.pop⟩
 refine Q7 9 Z ?_;obtain⟨LL1,ar,hLL1⟩:=ar.named;refine bf ([4,7,8,9]++rg 129 35) (fun j t V=>∃(i:Nat),j+i=x.exprs.length/\(x.exprs.take i).all (mq c.br k)=true/\t.get 7=some (.int .i64 (.ofNat i))/\D V K LL1) (x.exprs.length) ⟨0,Z,Z,Z,ar⟩ ?_;clear ar;intro b3 t V an hI;obtain⟨i,hj,ha,b4,ar⟩:=hI;subst hLL1;obtain⟨oo,rfl⟩:=an.q1 b4 Z;refine RJ ar 6 [5,0] Z Z<|Y Z (TF hk Z Z Z (e:=91) Z) Z<|So 3 Z<|aD Z (fun W=>?_) (fun W=>?_)
 ·refine Qr 5 Z<|Sm 2 Z<|S2 ar 3 [5,0] Z Z ?_;obtain⟨cn,E,b5⟩:=cK W;refine Tw (e:=91) (m:=4) hk E Z Z Z Z (fun cp b6 bm b7 a6=>?_);obtain⟨cr,cs,cw,cx,rfl,b8⟩:=a6.shape;refine Y Z (TI ar bm Z Z) Z ?_;have hmem:=gB_ E;refine cM Z (TB Z Z Z) (fun _=>Z) (MZ hG _ _ _ _ a6 (hF _ hmem) (Nat.le_trans (hS _ hmem) oM) _ _ ar) ?_;rintro _ V ⟨cy,ca,rfl,C,hE141,ar⟩;refine bz Z (TB Z Z Z) (fun _=>Z) (vz hG hE141 (vf<|hF _ hmem) (by rw[qt];exact Nat.le_trans (hS _ hmem) oM) ar) (fun V ar=>?_);refine So 3 Z<|aD Z (fun a1=>?_) (fun a1=>?_)
  ·refine SW 6 Z<|aA<|aK<|aA<|bD<|aK<|aA (?_);exact aB Z Z ⟨cB (by unfold gg;rw[ac,M,T];show _=x.exprs.all (mq c.br k);rw[lg E (by unfold mq;rw[bW a1];rfl)]),(ar.weaken C).pop.pop⟩
  refine RB 4 Z ?_;have hk2:=hk.mono C (fun _ _ h=>eH.mono C h);refine S2 ar 3 [5,0] Z Z<|Tw (e:=91) (m:=4) hk2 E Z Z Z Z (fun c0 cb bo cc a7=>?_);obtain⟨c1,c2,c3,c4,rfl,ce⟩:=a7.shape;refine Y Z (TI ar bo Z Z) Z<|cM Z (TB Z Z Z) (fun _=>Z) (Nb hG a7 (hS _ hmem) ar) ?_;rintro c5 V ⟨bt,a8,a2,a9,bb,ar⟩;refine RD 9 Z ?_;obtain⟨LL2,ar,hLL2⟩:=ar.named;refine bf ([4,9]++rg 150 14) (fun j t V=>∃(i2:Nat),j+i2=a8.length/\(a8.take i2).all (fun s=>b9 (jF s) c.br)=true/\t.get 9=some (.int .i64 (.ofNat i2))/\D V bt LL2) (a8.length) ⟨0,Z,Z,Z,ar⟩ ?_;clear ar;intro cg t V an hI;obtain⟨i2,c9,bv,ch,ar⟩:=hI;subst hLL2;obtain⟨oo,rfl⟩:=an.q1 ch Z;refine Ry 5 Z<|Y Z (TF a9 Z Z Z (e:=9) Z) Z<|So 3 Z<|aD Z (fun X=>?_) (fun X=>?_)
  ·refine Qr 5 Z (aU (l:=[(0,[]),(1,[]),(2,[]),(3,[]),(5,[]),(6,[]),(4,[6]),(7,[])]) O O<|S0 2 Z ?_);obtain⟨c7,ap,ci⟩:=cK X;refine Tx (e:=9) (m:=1) a9 ap Z Z Z Z Z (fun c8 cj bp ck bq=>?_);obtain rfl:=bq;refine ai Z Z (TH ar bp Z Z) Z<|S3 ar 2 [0,1] Z Z<|eB Z Z (TB Z Z Z) (fun _=>Z) (JI hG _ ar) (fun V ar=>?_);refine⟨(bx (bC Z Z Z Z Z (TD Z ar.g1 Z)<|ez _ _) ba),?_⟩;refine Ss 3 Z<|aD Z (fun bd=>?_) (fun bd=>?_)
   ·refine SW 6 Z<|aK<|aA<|bD<|aK<|aK<|aA<|bD<|aK<|aA (?_);exact aB Z Z ⟨cB (by unfold gg;rw[ac,M,T];show _=x.exprs.all (mq c.br k);rw[lg E (by unfold mq;rw[bK a1,<-F5 bb];exact lg ap<|bW bd)]),((ar.weaken a2).weaken C).pop.pop⟩
   refine aG<|aC<|SV 5 Z<|aH ⟨cg-1,(by have:=bc X;omega),oF,i2+1,(by have:=bc X;omega),iO bv ap<|bK bd,cI<|aW (by have:=a9.bO;omega),ar⟩
  refine RC 3 Z<|aL<|aC<|SV 5 Z ?_;replace ar:=(ar.weaken a2).weaken C;refine aH ⟨b3-1,(by have:=bc W;omega),oF,i+1,(by have:=bc W;omega),iO ha E (by unfold mq;rw[bK a1,<-F5 bb,iq bv<|bA X];rfl),cI<|aW (by have:=hk.bO;omega),ar⟩
 refine RC 3 Z<|aL<|SW 6 Z ?_;exact aB Z Z ⟨cB (by unfold gg;rw[ac,M,T];show _=x.exprs.all (mq c.br k);rw[iq ha<|bA W]),ar.pop.pop⟩
theorem Ng {n:Nat} (h:H (.ofNat n) 0=false):n≠0:=by rintro rfl;cases h
theorem Mj {n:Nat} (h:0<n) (h2:n<=9223372036854775807):wr .i64 (Int.sub (.ofNat n) 1)= .ofNat (n-1):=by
 have:Int.sub (.ofNat n) 1= .ofNat (n-1):=by show(n:Int)-1=((n-1:Nat):Int);omega
 rw[this];exact BB oM
theorem F9 {k:Nat} {e:XE}:H (oy k e) 3=gp k e:=by
 unfold oy;cases gp k e with
 | true=>rfl
 | false=>cases ej k e<;>rfl
def vh (k:Nat) (c:XC):Prop:=∀x∈c.ins,∀e∈x.exprs,dg k e<=100000
theorem w6 {G:Cx} (hG:Plain G) {K:KP} {k:Nat} {c:XC} {cv:U} (hc:bL K 6 (j0 K k) c.ins cv) (hF:lV k c) (hS:vh k c) {V:aE} {L:Own} (ar:D V K L):bu Tryz.prog G 60 [.agg [.int .i64 c.br,cv]] V fun v V'=>v= .int .i64 (gf k c)/\D V' K L:=by
 refine SQ hG Tryz.func60 Z<|Sm 2 Z<|kp ar Z (cC Z Z) (fun V b1 ar=>?_);refine Rb ar 9 [0,0] Z Z<|ky Z (aq Z) (fun u=>?_) (fun u=>?_)
 ·refine RG 15 Z ?_;exact aB Z Z ⟨cJ (by unfold gf;rw[show b9 16 c.br=true from u];rfl),ar.pop⟩
 refine S2 ar 2 [1,0] Z Z<|Y Z (TF hc Z Z Z (e:=88) Z) Z<|So 4 Z<|aD Z (fun z=>?_) (fun z=>?_)
 ·refine Sn 7 Z ?_;exact aB Z Z ⟨cJ (by unfold gf;rw[show b9 16 c.br=false from u,show b9 4000 (.ofNat c.ins.length)=true from z];rfl),ar.pop⟩
 refine Q7 9 Z ?_;obtain⟨LL1,ar,hLL1⟩:=ar.named;refine bf ([2,3,4]++rg 16 29) (fun j t V=>∃(i:Nat),j+i=c.ins.length/\(c.ins.take i).any (fun x=>x.exprs.any (gp k))=false/\t.get 3=some (.int .i64 (.ofNat i))/\D V K LL1) (c.ins.length) ⟨0,Z,Z,Z,ar⟩ ?_;clear ar;intro j4 t V an hI;obtain⟨i,hj,X,bl,ar⟩:=hI;subst hLL1;obtain⟨oo,rfl⟩:=an.q1 bl Z;refine RJ ar 6 [1,0] Z Z<|Y Z (TF hc Z Z Z (e:=88) Z) Z<|So 3 Z<|aD Z (fun w=>?_) (fun w=>?_)
 ·refine Qs 6 Z ?_;obtain⟨am,A,bq⟩:=cK w;have hm27:=gB_ A;refine RD 4 Z ?_;obtain⟨LL2,ar,hLL2⟩:=ar.named;refine bf ([2,4]++rg 23 22) (fun j t V=>∃(i2:Nat),j+i2=am.exprs.length/\(am.exprs.take i2).any (gp k)=false/\t.get 4=some (.int .i64 (.ofNat i2))/\D V K LL2) (am.exprs.length) ⟨0,Z,Z,Z,ar⟩ ?_;clear ar;intro j7 t V an hI;obtain⟨i2,ce,a1,bm,ar⟩:=hI;subst hLL2;obtain⟨oo,rfl⟩:=an.q1 bm Z;refine RJ ar 7 [1,0] Z Z<|Tw (e:=88) (m:=6) hc A Z Z Z Z (fun cg bs a2 bt a3=>?_);have hr27':=a3;obtain⟨ch,rfl,aa⟩:=hr27';refine dy a2 Z Z Z (k:=5) O (lb Z) (fun _=>Z) (fun ci a4=>?_);refine Y Z (TH ar a4 Z Z) Z<|Y Z (TF aa Z Z Z (e:=91) Z) Z<|So 3 Z<|aD Z (fun R=>?_) (fun R=>?_)
  ·refine Qt ar 9 [1,0] Z Z<|Tw (e:=88) (m:=6) hc A Z Z Z Z (fun cj bv a5 bw a6=>?_);have hr37':=a6;obtain⟨ck,rfl,a7⟩:=hr37';refine dy a5 Z Z Z (k:=5) O (lb Z) (fun _=>Z) (fun cn a8=>?_);refine Y Z (TH ar a8 Z Z) Z<|vQ 1 Z ?_;obtain⟨cp,B,b0⟩:=cK R;refine Tw (e:=91) (m:=4) a7 B Z Z Z Z (fun cr b2 a9 b3 ab=>?_);obtain⟨cs,cw,cx,cy,rfl,b4⟩:=ab.shape;refine Y Z (TI ar a9 Z Z) Z<|bz Z (TB Z Z Z) (fun _=>Z) (vz hG ab (hF _ hm27 _<|gB_ B) (Nat.le_trans (hS _ hm27 _<|gB_ B) oM) ar) (fun V ar=>?_);refine So 3 Z<|aD Z (fun ao=>?_) (fun ao=>?_)
   ·refine SW 6 Z<|aK<|aA<|bD<|aK<|aK<|aA<|bD<|aK<|aA (?_);exact aB Z Z ⟨cJ (by unfold gf;rw[show b9 16 c.br=false from u,show b9 4000 (.ofNat c.ins.length)=false from z];rw[Eg A<|Eg B (by rw[<-F9];exact ao)];rfl),ar.pop⟩
   refine aG<|aC<|SV 5 Z<|aH ⟨j7-1,(by have:=bc R;omega),oF,i2+1,(by have:=bc R;omega),wO a1 B (by rw[<-F9];exact ao),cI<|aW (by have:=aa.bO;omega),ar⟩
  refine RC 3 Z<|aL<|aC<|SV 5 Z<|aH ⟨j4-1,(by have:=bc w;omega),oF,i+1,(by have:=bc w;omega),wO X A<|lC a1<|bA R,cI<|aW (by have:=hc.bO;omega),ar⟩
 refine RC 3 Z<|aL<|RJ ar 6 [0,0] Z Z<|ky Z (aq Z) (fun C=>?_) (fun C=>?_)
 ·refine RG 15 Z ?_;exact aB Z Z ⟨cJ (by unfold gf;rw[show b9 16 c.br=false from u,show b9 4000 (.ofNat c.ins.length)=false from z];rw[show c.ins.any (fun x=>x.exprs.any (gp k))=false from lC X (bA w)];rw[show b9 c.br 0=true from C];rfl),ar.pop⟩
 refine S2 ar 2 [1,0] Z Z<|Y Z (TF hc Z Z Z (e:=88) Z) Z<|So 4 Z<|aD Z (fun E=>?_) (fun E=>?_)
 ·refine Sn 7 Z ?_;exact aB Z Z ⟨cJ (by unfold gf;rw[show b9 16 c.br=false from u,show b9 4000 (.ofNat c.ins.length)=false from z];rw[show c.ins.any (fun x=>x.exprs.any (gp k))=false from lC X (bA w)];rw[show b9 c.br 0=false from C,show H (.ofNat c.ins.length) 0=true from E];rfl),ar.pop⟩
 refine Q7 9 Z ?_;obtain⟨LL3,ar,hLL3⟩:=ar.named;refine bf ([2,5]++rg 54 15) (fun j t V=>∃(i:Nat),j+i=c.ins.length/\(c.ins.take i).all (gg c.br (.ofNat c.ins.length) k)=true/\t.get 5=some (.int .i64 (.ofNat i))/\D V K LL3) (c.ins.length) ⟨0,Z,Z,Z,ar⟩ ?_;clear ar;intro bo t V an hI;obtain⟨i,c0,F,bp,ar⟩:=hI;subst hLL3;obtain⟨oo,rfl⟩:=an.q1 bp Z;refine RJ ar 6 [1,0] Z Z<|Y Z (TF hc Z Z Z (e:=88) Z) Z<|So 3 Z<|aD Z (fun I=>?_) (fun I=>?_)
 ·refine Qr 5 Z<|aU (l:=zp [0,1,2,3,4,5,6,7]) O O<|ai Z Z (TE Z ar.g0 (n:=2) (vs:=[_,_]) Z) Z<|S3 ar 3 [1,0] Z Z ?_;obtain⟨c1,M,b5⟩:=cK I;refine Tx (e:=88) (m:=6) hc M Z Z Z Z Z (fun c2 b6 bb b7 ac=>?_);have hr65raw:=ac;have hr65':=ac;obtain⟨c3,rfl,b8⟩:=hr65';refine ai Z Z (TI ar bb Z Z) Z<|eB Z Z (TB Z Z Z) (fun _=>Z) (JO hG hc hr65raw (hF _<|gB_ M) (hS _<|gB_ M) ar) (fun V ar=>?_);refine⟨ba,?_⟩;refine ai Z Z (da Z) Z<|Ss 2 Z<|aD Z (fun ap=>?_) (fun ap=>?_)
  ·refine SW 6 Z<|aK<|aA<|bD<|aK<|aA (?_);exact aB Z Z ⟨cJ (by unfold gf;rw[show b9 16 c.br=false from u,show b9 4000 (.ofNat c.ins.length)=false from z];rw[show c.ins.any (fun x=>x.exprs.any (gp k))=false from lC X (bA w)];rw[show b9 c.br 0=false from C,show H (.ofNat c.ins.length) 0=false from E];rw[lg M<|bW ap];rfl),ar.pop⟩
  refine aG<|aC<|SV 5 Z<|aH ⟨bo-1,(by have:=bc I;omega),oF,i+1,(by have:=bc I;omega),iO F M<|bK ap,cI<|aW (by have:=hc.bO;omega),ar⟩
 refine RC 3 Z<|aL<|Sm 2 Z ?_;have bd:0<c.ins.length:=by have:=Ng E;omega
 obtain⟨T,Q⟩:=cL (show c.ins.length-1<c.ins.length by omega);refine S2 ar 4 [1,0,1,0] Z Z<|Y Z (TF hc Z Z Z (e:=88) Z) Z<|vQ 1 Z<|Tw (e:=88) (m:=6) hc Q Z Z Z (show _=some (U.int .i64 (.ofNat (c.ins.length-1))) from cI (Mj bd (by have:=hc.bO;omega))) (fun c4 ca be cb bi=>?_);have hr75':=bi;obtain⟨c5,rfl,cc⟩:=hr75';refine dy be Z Z Z (k:=0) O (lb Z) (fun _=>Z) (fun c7 bk=>?_);refine Y Z (TH ar bk Z Z) Z<|Q9 8 Z<|ky Z (aq Z) (fun S=>?_) (fun S=>?_)
 ·refine SY 3 Z<|ky Z (aq Z) (fun W=>?_) (fun W=>?_)
  ·refine So 5 Z<|aD Z (fun a0=>?_) (fun a0=>?_)
   ·refine Sn 7 Z ?_;exact aB Z Z ⟨cJ (by unfold gf;rw[show b9 16 c.br=false from u,show b9 4000 (.ofNat c.ins.length)=false from z];rw[show c.ins.any (fun x=>x.exprs.any (gp k))=false from lC X (bA w)];rw[show b9 c.br 0=false from C,show H (.ofNat c.ins.length) 0=false from E];rw[iq F<|bA I,Q];show _=bif kx T then _ else _;unfold kx;simp only[bW S,bW W,bW a0,ct,cf]<;>rfl),ar.pop⟩
   refine Sn 8 Z ?_;exact aB Z Z ⟨cJ (by unfold gf;rw[show b9 16 c.br=false from u,show b9 4000 (.ofNat c.ins.length)=false from z];rw[show c.ins.any (fun x=>x.exprs.any (gp k))=false from lC X (bA w)];rw[show b9 c.br 0=false from C,show H (.ofNat c.ins.length) 0=false from E];rw[iq F<|bA I,Q];show _=bif kx T then _ else _;unfold kx;simp only[bW S,bW W,bK a0,ct,cf]<;>rfl),ar.pop⟩
  refine RG 14 Z ?_;exact aB Z Z ⟨cJ (by unfold gf;rw[show b9 16 c.br=false from u,show b9 4000 (.ofNat c.ins.length)=false from z];rw[show c.ins.any (fun x=>x.exprs.any (gp k))=false from lC X (bA w)];rw[show b9 c.br 0=false from C,show H (.ofNat c.ins.length) 0=false from E];rw[iq F<|bA I,Q];show _=bif kx T then _ else _;unfold kx;simp only[bW S,bK W,ct,cf]<;>rfl),ar.pop⟩
 refine RG 18 Z ?_;exact aB Z Z ⟨cJ (by unfold gf;rw[show b9 16 c.br=false from u,show b9 4000 (.ofNat c.ins.length)=false from z];rw[show c.ins.any (fun x=>x.exprs.any (gp k))=false from lC X (bA w)];rw[show b9 c.br 0=false from C,show H (.ofNat c.ins.length) 0=false from E];rw[iq F<|bA I,Q];show _=bif kx T then _ else _;unfold kx;simp only[bK S,ct,cf]<;>rfl),ar.pop⟩
theorem JM {G:Cx} (S:Plain G) {K:KP} {k:Nat} {c:XC} {cv:U} (hi:bL K 6 (j0 K k) c.ins cv) {x:XI} {a:Nat} (hx:c.ins[a]?=some x) (F:a<9223372036854775807) {V:aE} {L:Own} (ar:D V K L):
  bu Tryz.prog G 130 [.agg [.int .i64 c.br,cv],.int .i64 (.ofNat a)] V fun v V'=>∃M,cZ 1 3 eu (kg x a) v M/\D V' K (M++L):=by
 refine SQ S Tryz.func130 Z<|Sm 2 Z<|kp ar Z (cC Z Z) (fun V b1 ar=>?_);refine RM ar 8 [1,0] Z Z<|Tw (e:=88) (m:=6) hi hx Z Z Z Z (fun p9 aa I ab Q=>?_);have hr9':=Q;obtain⟨v9,rfl,R⟩:=hr9';refine Y Z (TI ar I Z Z) Z<|kp ar Z (TG (cs:=[N,N,N,N,N,.az])) (fun V b2 ar=>?_);refine bZ ar Z (TJ Z Z Z ar.g0 (m:=6) Z (aj Z<|aj Z<|aj Z<|aj Z<|aj Z<|aj R.leaf.2 aI) (cells':=[_,_,_,_,_,_]) Z) Z (fun V ar=>?_);refine Rb ar 7 [0,0] Z Z<|RD 3 Z<|Ry 3 Z<|ky Z (ax Z Z Z) (fun j=>?_) (fun j=>?_)
 ·refine RG 13 Z<|aK<|aA (?_);exact aB Z Z ⟨[],.inl ⟨by unfold kg;simp only[j,ct,cf],Z,Z⟩,ar.pop.pop⟩
 refine Sp 5 Z<|ky Z (ax Z Z Z) (fun u=>?_) (fun u=>?_)
 ·refine Sr 10 Z<|aK<|aA (?_);exact aB Z Z ⟨[],.inl ⟨by unfold kg;simp only[j,u,ct,cf],Z,Z⟩,ar.pop.pop⟩
 refine RE 6 Z<|ky Z (ax Z Z Z) (fun w=>?_) (fun w=>?_)
 ·refine RM ar 8 [4,0] Z Z<|fe ar Z (bP (e:=3) (m:=1) (z:=[N]) (cs:=[_]) O O O O<|bj Z Z Z Z bF) (fun _=>Z) (fun V B ar=>?_);refine Sr 4 Z<|aK<|aA (?_);exact aB Z Z ⟨[(B,_)],by unfold kg;simp only[j,u,w,ct,cf];exact jt (xs:=[x.to]) (by simp),ar.sub (.cons_cons _ (.cons _ (.cons _ (.refl _))))⟩
 refine RE 6 Z<|ky Z (ax Z Z Z) (fun A=>?_) (fun A=>?_)
 ·refine Rb ar 10 [4,0] Z Z<|Y Z (ax Z Z (show _=some (U.int .i64 (.ofNat (a+1))) from cI (aW F))) Z<|So 3 Z<|aD Z (fun C=>?_) (fun C=>?_)
  ·refine Sm 2 Z<|S2 ar 3 [4,0] Z Z<|Y Z (ax Z Z (show _=some (U.int .i64 (.ofNat (a+1))) from cI (aW F))) Z<|fe ar Z (bP (e:=3) (m:=1) (z:=[N]) (cs:=[_,_]) O O O O<|bj Z Z Z Z<|bj Z Z Z Z bF) (fun _=>Z) (fun V B ar=>?_);refine Sr 4 Z<|aA<|aK<|aA (?_);exact aB Z Z ⟨[(B,_)],by unfold kg;simp only[j,u,w,A,C,ct,cf];exact jt (xs:=[x.to,.ofNat (a+1)]) (by simp),ar.sub (.cons_cons _ (.cons _ (.cons _ (.refl _))))⟩
  refine RK ar 7 [4,0] Z Z<|Y Z (ax Z Z (show _=some (U.int .i64 (.ofNat (a+1))) from cI (aW F))) Z<|So 3 Z<|aD Z (fun E=>?_) (fun E=>?_)
  ·refine Sm 3 Z<|Y Z (ax Z Z (show _=some (U.int .i64 (.ofNat (a+1))) from cI (aW F))) Z<|S2 ar 2 [4,0] Z Z<|fe ar Z (bP (e:=3) (m:=1) (z:=[N]) (cs:=[_,_]) O O O O<|bj Z Z Z Z<|bj Z Z Z Z bF) (fun _=>Z) (fun V B ar=>?_);refine Sr 4 Z<|aK<|aA (?_);exact aB Z Z ⟨[(B,_)],by unfold kg;simp only[j,u,w,A,C,E,ct,cf];exact jt (xs:=[.ofNat (a+1),x.to]) (by simp),ar.sub (.cons_cons _ (.cons _ (.cons _ (.refl _))))⟩
  refine aG<|aC<|Sm 3 Z<|Y Z (ax Z Z (show _=some (U.int .i64 (.ofNat (a+1))) from cI (aW F))) Z<|fe ar Z (bP (e:=3) (m:=1) (z:=[N]) (cs:=[_]) O O O O<|bj Z Z Z Z bF) (fun _=>Z) (fun V B ar=>?_);refine Sr 4 Z ?_;exact aB Z Z ⟨[(B,_)],by unfold kg;simp only[j,u,w,A,C,E,ct,cf];exact jt (xs:=[.ofNat (a+1)]) (by simp),ar.sub (.cons_cons _ (.cons _ (.cons _ (.refl _))))⟩
 refine RF 6 Z<|Sm 3 Z<|Y Z (ax Z Z (show _=some (U.int .i64 (.ofNat (a+1))) from cI (aW F))) Z<|fe ar Z (bP (e:=3) (m:=1) (z:=[N]) (cs:=[_]) O O O O<|bj Z Z Z Z bF) (fun _=>Z) (fun V B ar=>?_);refine Sr 4 Z ?_;exact aB Z Z ⟨[(B,_)],by unfold kg;simp only[j,u,w,A,ct,cf];exact jt (xs:=[.ofNat (a+1)]) (by simp),ar.sub (.cons_cons _ (.cons _ (.cons _ (.refl _))))⟩
theorem B8 {G:Cx} (j:Plain G) {K:KP} {k:Nat} {c:XC} {cv:U} (hi:bL K 6 (j0 K k) c.ins cv) {x:XI} {a:Nat} (hx:c.ins[a]?=some x) (m:a<9223372036854775807) {V:aE} {L:Own} (ar:D V K L):
  bu Tryz.prog G 124 [.agg [.int .i64 c.br,cv],.int .i64 (.ofNat a)] V fun v V'=>∃M,cZ 1 3 eu (kg x a) v M/\D V' K (M++L):=by
 refine SQ j Tryz.func124 Z<|Sm 2 Z<|kp ar Z (cC Z Z) (fun V b1 ar=>?_);refine RE 5 Z<|Y Z (TE Z ar.g0 (n:=2) (vs:=[_,_]) Z) Z<|vQ 1 Z<|cM Z (TB Z Z Z) (fun _=>Z) (JM j hi hx m ar) ?_;rintro v7 V ⟨u,hM7,ar⟩;refine Sr 4 Z ?_;exact aB Z Z ⟨u,hM7,ar.sub<|ec (.cons _ (.refl _))⟩
theorem HB {G:Cx} (hG:Plain G) {K:KP} {k:Nat} {c:XC} {cv:U} (Q:fT k c) (a9:eY k c=0) (hF:lV k c) (hS:vh k c) (hi:bL K 6 (j0 K k) c.ins cv) {V:aE} {L:Own} (ar:D V K L):
  bu Tryz.prog G 123 [.agg [.int .i64 c.br,cv]] V fun v V'=>∃(o:List Bool) (b:Nat),v= .slice b 0 c.ins.length (.known c.ins.length)/\o.length=c.ins.length/\(∀i:Nat,o[i]?=some true↔Reach (ei c) i)/\D V' K ((b,.row (o.map gB) 4 false)::L):=by
 have hlen:=Q.len;have hpos:=Q.pos;refine SQ hG Tryz.func123 Z<|Sm 2 Z<|kp ar Z (cC Z Z) (fun V b1 ar=>?_);refine Q9 6 Z<|Y Z (TE Z ar.g0 (n:=2) (vs:=[_,_]) Z) Z<|bz Z (TB Z Z Z) (fun _=>Z) (w6 hG hi hF hS ar) (fun V ar=>?_);refine So 3 Z<|aD Z (fun aa=>?_) (fun aa=>?_)
 ·exact absurd aa (by rw[gn hF,a9];decide)
 refine RK ar 6 [1,0] Z Z<|Y Z (TF hi Z Z Z (e:=88) Z) Z<|fe ar Z (lM (e:=4) (w:=1) (z:=[gB false]) O O O O Z Z oM oM) (fun _=>Z) (fun V b2 ar=>?_);rw[jk (f:=gB)] at ar;refine RE 6 Z (Y Z (fS (e:=4) (m:=1) O O Z Z hpos) Z (dX ar .here Z (aR Z Z Z ar.g0 (m:=1) O Z (by rw[lM_];simp;omega) Z (cells':=((List.replicate c.ins.length false).set 0 true).map (gB))<|eK (f:=gB) (v:=true) (by simp;omega) (by first | omega | rfl)) Z (fun V ar=>?_)));refine RE 4 Z<|fe ar Z (bP (e:=3) (m:=1) (z:=[N]) (cs:=[_]) O O O O<|bj Z Z Z Z bF) (fun _=>Z) (fun V b3 ar=>?_);refine Q8 5 Z (bf (rg 4 4++rg 18 44) (fun j t V=>∃(o:List Bool) (st:List Nat) (u:U) (Mp:Own),D0 (ei c) c.ins.length o st/\2*uw o+st.length<=j/\2*uw o+st.length<=8002/\pz 1 3 eu (st.map .ofNat) u Mp/\t.get 4=some (u)/\D V K (Mp++((b2,.row (o.map gB) 4 false)::(b1,.row [.int .i64 c.br,cv] 55 false)::L))) ((2*c.ins.length+1)) ⟨_,[0],_,[(b3,.row [gI 0] 3 false)],Rj hpos,(by have:=s9 ((List.replicate c.ins.length false).set 0 true);simp at this⊢;omega),(by have:=s9 ((List.replicate c.ins.length false).set 0 true);simp at this⊢;omega),(jt (xs:=[0]) (by simp)).Sk,Z,ar⟩ ?_);clear ar;intro j6 t V an hI;obtain⟨o,st,u,Mp,hinv,b7,b8,X,R,ar⟩:=hI;obtain⟨oo,rfl⟩:=an.q1 R Z;refine Ry 3 Z ?_;have hol:=hinv.len;refine vQ 1 Z<|Y Z (FZ X Z Z Z (e:=3) O Z) Z<|ky Z (ax Z Z Z) (fun S=>?_) (fun S=>?_)
 ·refine So 3 Z<|aG<|ad<|aJ<|Sm 4 Z<|Y Z (FZ X Z Z Z (e:=3) O Z) Z<|vQ 1 Z ?_;have ab:0<st.length:=by have:=bc (a:=0) S;rwa[oG] at this
  obtain⟨a,ac⟩:∃a,st.getLast?=some a:=by cases hq:st.getLast? with | none=>(rw[List.getLast?_eq_none_iff.1 hq] at ab;exact absurd ab<|Nat.lt_irrefl _) | some a=>exact⟨a,rfl⟩
  have hla':=Nz ac;obtain⟨bb,ca⟩:=hinv.IT a (gB_ hla');obtain⟨xa,T⟩:=cL bb;have hfl:=s9 o;have hpl:=X.bO;rw[oG] at hpl;refine Tw (e:=3) (m:=1) (X.jK (K:=K.g9 Mp) fun y hy=>.inr hy) (PM hla') Z Z Z (cI ((congrArg (fun q=>wr .i64 (Int.sub (.ofNat q) 1))<|oG st).trans<|Hh (b:=1) oM oM)) (fun cb bm am bo ao=>?_);obtain rfl:=ao;refine Y Z (TH (ar.keeps) am Z Z) Z<|RE 7 Z<|Y Z (FZ X Z Z Z (e:=3) O Z) Z<|vQ 1 Z ?_;obtain⟨cc,hP2,bd⟩:=X.Ro (k:=st.length-1) (by rw[oG];omega);rw[IW] at hP2;refine Y Z (bU Z<|bd O O Z (show _=some (U.int .i64 (.ofNat (st.length-1))) from cI ((congrArg (fun q=>wr .i64 (Int.sub (.ofNat q) 1))<|oG st).trans<|Hh (b:=1) oM oM))) Z<|RE 5 Z<|Y Z (TE Z ar.bR.pop.g0 (n:=2) (vs:=[_,_]) Z) Z<|vQ 1 Z<|cM Z (TB Z Z Z) (fun _=>Z) (JM hG hi T oM ar) ?_;rintro ce V ⟨ap,hM34,ar⟩;replace ar:=ar.keeps;have hS34:=hM34.jK (K:=K.g9 ap) fun y hy=>.inr hy
  have a0:wI (ei c) c.ins.length o st.dropLast a 0 (gi c a):=hinv.pop ac;have cg:st.dropLast.length+1=st.length:=by rw[List.length_dropLast];omega
  refine RD 9 Z (bf ([4,7]++rg 35 27) (fun j t V=>∃(i2:Nat) (C:List Bool) (A:List Nat) (u4:U) (Mq:Own),j+i2=(kg xa a).length/\wI (ei c) c.ins.length C A a i2 (gi c a)/\2*uw C+A.length+1<=j6/\2*uw C+A.length+1<=8002/\pz 1 3 eu (A.map .ofNat) u4 Mq/\t.get 4=some (u4)/\t.get 7=some (.int .i64 (.ofNat i2))/\D V (K.g9 ap) (Mq++((b2,.row (C.map gB) 4 false)::(b1,.row [.int .i64 c.br,cv] 55 false)::L))) ((kg xa a).length) ⟨0,o,st.dropLast,_,Mp,Z,a0,oM,oM,hP2,Z,Z,ar⟩ ?_);clear ar;intro a1 t V an hI;obtain⟨i2,C,A,u4,Mq,bp,F,ch,bq,hP3,R,be,ar⟩:=hI;obtain⟨oo,rfl⟩:=an.q2 R be Z;refine Ry 3 Z ?_;have hol2:=F.len;refine SY 2 Z<|Y Z (TF hS34 Z Z Z (e:=3) Z) Z<|So 3 Z<|aD Z (fun E=>?_) (fun E=>?_)
  ·refine Qs 9 Z ?_;obtain⟨ci,B,bs⟩:=cK E;refine Tw (e:=3) (m:=1) hS34 B Z Z Z Z (fun cj bt a2 bv a3=>?_);obtain rfl:=a3;obtain⟨to,rfl,I,M,bi⟩:=zI Q T B;obtain⟨ob,W⟩:=cL (show to<C.length from by omega);refine Y Z (TH ar a2 Z Z) Z<|Y Z (fS (e:=4) (m:=1) O O Z Z I) Z<|Y Z (aw Z ar.bR.g0 O<|jP W (by first | omega | rfl)) Z<|Y Z (da Z) Z<|So 2 Z<|aD Z (fun h48=>?_) (fun h48=>?_)
   ·refine Sm 5 Z<|Tw (e:=3) (m:=1) hS34 B Z Z Z Z (fun ck bw a4 b0 a5=>?_);obtain rfl:=a5;refine Y Z (TH ar a4 Z Z) Z<|Y Z (fS (e:=4) (m:=1) O O Z Z I) Z ?_;have hf2:=Co (show C[to]?=some false from by have h48:=h48;cases ob;exact W;cases h48);refine dX ar (.dN .here) Z (aR Z Z Z ar.bR.g0 (m:=1) O Z (by rw[lM_];rw[hol2];omega) Z (cells':=((C).set to true).map (gB))<|eK (f:=gB) (v:=true) (by rw[hol2];exact I) (by first | omega | rfl)) Z (fun V ar=>?_);refine Sp 6 Z<|Tw (e:=3) (m:=1) hS34 B Z Z Z Z (fun cn b5 a6 b6 a7=>?_);obtain rfl:=a7;refine Y Z (TH ar a6 Z Z) Z<|fe ar Z (bP (e:=3) (m:=1) (z:=[N]) (cs:=[_]) O O O O<|bj Z Z Z Z bF) (fun _=>Z) (fun V b4 ar=>?_);obtain⟨V,bk,bl,a8,hP4,ar⟩:=C6 (P:=Tryz.prog) (ts:= #[36,36]) (t:=36) (e:=3) (l2:=[Int.ofNat to]) hP3 ar (HW (xs:=[Int.ofNat to]) (.inr ⟨Z,Z⟩) (by simp)) eu.leaf (by simp) (by simp) (by rw[oG];have:=s9 C;omega) Z O O O;rw[show A.map Int.ofNat++[Int.ofNat to]=(A++[to]).map Int.ofNat from by rw[List.map_append];rfl] at hP4;refine Y Z (kI Z Z Z Z O a8) Z<|SX 2 Z<|aC<|SV 5 Z<|aH ⟨a1-1,(by have:=bc E;omega),oF,i2+1,C.set to true,A++[to],bk,bl,oM,F.mark M bi I,(by rw[lA_];show _+(_+1)+1<=_;omega),(by rw[lA_];show _+(_+1)+1<=_;omega),hP4,Z,cI<|aW (by have:=hS34.bO;omega),ar⟩
   refine aG<|aC<|SV 5 Z<|aH ⟨a1-1,(by have:=bc E;omega),oF,i2+1,C,A,u4,Mq,oM,F.skip M (by have h48:=h48;cases ob;cases h48;exact W),oM,oM,hP3,Z,cI<|aW (by have:=hS34.bO;omega),ar⟩
  refine RC 3 Z<|aL<|aC ?_;replace ar:=ar.weaken (KP.dj _ _);refine aH ⟨j6-1,oM,oF,C,A,u4,Mq,F.close (by rw[xV T];exact bA E) (fun t ht=>sy.2 ht),oM,oM,hP3,Z,ar⟩
 refine RH 5 Z<|aS<|aL<|SW 7 Z ?_;exact aB Z Z ⟨o,b2,Z,hol,(fun i=>by have e:st= []:=eN_ (by have:=bA (a:=0) S;rw[oG] at this;omega);subst e;exact hinv.final),ar.bR.QL⟩
end Go.Ev
namespace Go.Ev
variable [Env]
section
variable {nx:Nat->List Nat} {w:Nat->Nat} {r:Nat->Bool} {n i v j:Nat} {b b':List Nat} {sm:Bool}
theorem Iv (m:r i=false):il nx w r n (i+1) (b,sm)=il nx w r n i (b,sm):=by
 show(bif bh (r i) then _ else _)=_;rw[m];rfl
theorem Iu (m:r i=true) (hv:gX nx w b i=v) (h:n<v):il nx w r n (i+1) (b,sm)=none:=by
 show(bif bh (r i) then _ else bif Nat.blt n (gX nx w b i) then _ else _)=_;rw[m,hv,show Nat.blt n v=true from by simp_all];rfl
theorem NR (m:r i=true) (hv:gX nx w b i=v) (h:v<=n) (he:mP b i=v):il nx w r n (i+1) (b,sm)=il nx w r n i (b,sm):=by
 show(bif bh (r i) then _ else bif Nat.blt n (gX nx w b i) then _ else bif Nat.beq (gX nx w b i) (mP b i) then _ else _)=_;rw[m,hv,he,Nat.beq_refl,show Nat.blt n v=false from by rw[Bool.eq_false_iff];simp_all];rfl
theorem Lg (m:r i=true) (hv:gX nx w b i=v) (h:v<=n) (he:mP b i≠v):il nx w r n (i+1) (b,sm)=il nx w r n i (b.set i v,false):=by
 show(bif bh (r i) then _ else bif Nat.blt n (gX nx w b i) then _ else bif Nat.beq (gX nx w b i) (mP b i) then _ else il nx w r n i (b.set i<|gX nx w b i,false))=_;rw[m,hv,show Nat.blt n v=false from by rw[Bool.eq_false_iff];simp_all,show Nat.beq v (mP b i)=false from by rw[Bool.eq_false_iff];intro e;simp_all];rfl
theorem H8 (hj:1<=j) (h:il nx w r n n (b,true)=none):jr nx w r n j b=(0,false):=by
 obtain⟨j,rfl⟩:∃q,j=q+1:=⟨j-1,by omega⟩;unfold jr;rw[h]
theorem H9 (hj:1<=j) (h:il nx w r n n (b,true)=some (b',true)):jr nx w r n j b=(mP b' 0,true):=by
 obtain⟨j,rfl⟩:∃q,j=q+1:=⟨j-1,by omega⟩;unfold jr;rw[h]
theorem E5 (hj:1<=j) (h:il nx w r n n (b,true)=some (b',false)):jr nx w r n j b=jr nx w r n (j-1) b':=by
 obtain⟨j,rfl⟩:∃q,j=q+1:=⟨j-1,by omega⟩
 grind [jr]
theorem NA {f:Nat->Nat} {l:List Nat} {q t m:Nat} (h:l[q]?=some t):nu f (l.drop q) m=nu f (l.drop (q+1)) (max m<|f t):=by rw[cu h];rfl
theorem KI {f:Nat->Nat} {l:List Nat} {q m:Nat} (h:l.length<=q):nu f (l.drop q) m=m:=by rw[eF h];rfl
theorem wP {t y:Nat} (h:b[t]?=some y):mP b t=y:=by unfold mP;rw[h];rfl
theorem r7 {t B:Nat} (h:∀i,mP b i<=B) (hv:v<=B):mP (b.set i v) t<=B:=by
 grind [F6,List.set_eq_of_length_le]
theorem MJ {t:Nat}:mP (List.replicate n 0) t=0:=by
 unfold mP
 grind
end
theorem wF {n:Nat} (h:n<=9223372036854775807):wr .i64 (Int.sub (.ofNat n) 1)=Int.sub (.ofNat n) 1:=BA (n:=(n:Int)-1) oM oM
theorem Sh {a b:Nat} (h:H (.ofNat a) (.ofNat b)=false):b≠a:=fun e=>by rw[e,dL] at h;cases h
theorem R7 {a b:Nat} (h:H (.ofNat a) (.ofNat b)=true):b=a:=(iJ_<|eqv h).symm
theorem OV (n:Int):IntKind.u64.wrap n=n%18446744073709551616:=by simp[IntKind.wrap,IntKind.bits,IntKind.signed]
theorem Ah (f:BitVec 64->BitVec 64->BitVec 64) (a b:Int):IntKind.i64.wrap ((f (BitVec.ofInt IntKind.i64.bits a)<|BitVec.ofInt IntKind.i64.bits b).toNat)=Jq f a b:=by
 unfold Jq
 have e:∀n:Int,BitVec.ofInt 64 (wr .u64 n)=BitVec.ofInt 64 n:=fun n=>by
  grind [z8,OV,BitVec.eq_of_toInt_eq,BitVec.toInt_ofInt]
 rw[e,e,z8];show IntKind.i64.wrap ((f (BitVec.ofInt 64 a)<|BitVec.ofInt 64 b).toNat:Int)=_
 grind [IntKind.wrap_i64,OV]
end Go.Ev
namespace Go.Ev
variable [Env]
open Go.Proofs
set_option maxRecDepth 4000
set_option maxHeartbeats 8000000
theorem EA {G:Cx} (hG:Plain G) {K:KP} {k:Nat} {c:XC} {cv:U} (Q:fT k c) (bk:eY k c=0) (hF:lV k c) (hS:vh k c) (hi:bL K 6 (j0 K k) c.ins cv) {V:aE} {L:Own} (ar:D V K L):
  bu Tryz.prog G 115 [.agg [.int .i64 c.br,cv],.bool false] V fun v V'=>∃r:Nat->Bool,(∀i,i<c.ins.length->(r i=true↔Reach (ei c) i))/\v= .tuple [.int .i64 (.ofNat (jr (gi c) (fun _=>1) r c.ins.length (c.ins.length+2)<|List.replicate c.ins.length 0).1),.bool (jr (gi c) (fun _=>1) r c.ins.length (c.ins.length+2)<|List.replicate c.ins.length 0).2]/\D V' K L:=by
 have hlen:=Q.len;have hpos:=Q.pos;refine SQ hG Tryz.func115 Z<|Sm 2 Z<|kp ar Z (cC Z Z) (fun V b1 ar=>?_);refine RE 6 Z<|Y Z (TE Z ar.g0 (n:=2) (vs:=[_,_]) Z) Z<|cM Z (TB Z Z Z) (fun _=>Z) (HB hG Q bk hF hS hi ar) ?_;rintro _ V ⟨o,b2,rfl,b7,bm,ar⟩;obtain⟨r,ap⟩:∃r:Nat->Bool,r=fun i=>(o[i]?).getD false:=⟨_,Z⟩
 have hr:∀i,i<c.ins.length->(r i=true↔Reach (ei c) i):=fun i hi=>by
  obtain⟨q,hq⟩:=cL (show i<o.length from by omega);rw[<-bm i,ap];dsimp only;rw[hq];cases q<;>simp
 obtain⟨LD,E⟩:∃LD,LD=jr (gi c) (fun _=>1) r c.ins.length:=⟨_,Z⟩;obtain⟨PD,A⟩:∃PD,PD=il (gi c) (fun _=>1) r c.ins.length:=⟨_,Z⟩;refine RM ar 7 [1,1] Z Z<|Y Z (TF hi Z Z Z (e:=88) Z) Z<|fe ar Z (lM (e:=3) (w:=8) (z:=[gI 0]) O O O O Z Z oM oM) (fun _=>Z) (fun V b3 ar=>?_);rw[jk (f:=gI)] at ar;refine Q8 10 Z (bf ([4,5]++rg 8 7++rg 21 76) (fun j t V=>∃(rd:Nat) (bl:List Nat),j+rd=c.ins.length+2/\LD (c.ins.length+2) (List.replicate c.ins.length 0)=LD j bl/\bl.length=c.ins.length/\(∀i,mP bl i<=c.ins.length)/\t.get 8=some (.int .i64 (.ofNat rd))/\D V K ((b3,.row (bl.map gI) 3 false)::(b2,.row (o.map gB) 4 false)::(b1,.row [.int .i64 c.br,cv] 55 false)::L)) ((c.ins.length+2)) ⟨0,List.replicate c.ins.length 0,Z,Z,by simp,(fun i=>by rw[MJ];omega),Z,ar⟩ ?_);clear ar;intro j4 t V an hI;obtain⟨rd,bl,b8,R,a0,a1,bo,ar⟩:=hI;obtain⟨oo,rfl⟩:=an.q1 bo Z;refine RJ ar 6 [1,2] Z Z<|Y Z (TF hi Z Z Z (e:=88) Z) Z<|Y Z (ax Z Z (show _=some (U.int .i64 (.ofNat (c.ins.length+1))) from cI (aW oM))) Z<|So 3 Z<|aD Z (fun B=>?_) (fun B=>?_)
 ·refine Qr 10 Z (Sm 2 Z (S2 ar 2 [1,2] Z Z (Y Z (TF hi Z Z Z (e:=88) Z) Z (RD 5 Z (bf ([4,5]++rg 9 6++rg 33 60) (fun j t V=>∃(z:Int) (b2l:List Nat) (sm:Bool),z+1=(j:Int)/\j<=c.ins.length/\PD c.ins.length (bl,true)=PD j (b2l,sm)/\b2l.length=c.ins.length/\(∀i,mP b2l i<=c.ins.length)/\t.get 9=some (.bool sm)/\t.get 10=some (.int .i64 z)/\D V K ((b3,.row (b2l.map gI) 3 false)::(b2,.row (o.map gB) 4 false)::(b1,.row [.int .i64 c.br,cv] 55 false)::L)) (c.ins.length) ⟨Int.sub (.ofNat c.ins.length) 1,bl,true,(show(c.ins.length:Int)-1+1=((c.ins.length:Nat):Int) by omega),nR_ _,Z,a0,a1,Z,(cI<|wF oM),ar⟩ ?_)))));clear ar;intro j8 t V an hI;obtain⟨z,b2l,sm,hz,ca,I,u,C,bp,a2,ar⟩:=hI;obtain⟨oo,rfl⟩:=an.q2 bp a2 Z;refine Ry 4 Z<|ky Z (ax Z Z Z) (fun ab=>?_) (fun ab=>?_)
  ·refine So 3 Z<|Qr 5 Z<|Sm 2 Z ?_;obtain⟨i,rfl⟩:=kA (bW ab);obtain rfl:j8=i+1:=by have:((i:Nat):Int)+1=(j8:Int):=hz;omega
   obtain⟨oi,a3⟩:=cL (show i<o.length from by omega);have S:r i=oi:=by rw[ap];dsimp only;rw[a3];rfl
   refine SY 2 Z<|Y Z (fS (e:=4) (m:=1) O O Z Z oM) Z<|Y Z (aw Z ar.g1 O<|jP a3 (by first | omega | rfl)) Z<|ky Z (da Z) (fun h41=>?_) (fun h41=>?_)
   ·refine RH 5 Z<|aL<|SV 5 Z ?_;refine aH ⟨i,oM,oF,Int.sub (.ofNat i) 1,b2l,sm,(show(i:Int)-1+1=((i:Nat):Int) by omega),oM,(by rw[I,A];exact Iv (by rw[S];have h41:=h41;cases oi;rfl;cases h41)),(by first | exact u | (rw[List.length_set];exact u)),(by first | exact C | exact fun q=>r7 C (by have:=bA F;omega)),Z,cI<|wF oM,ar⟩
   refine So 3 Z<|RB 9 Z<|Y Z (TE Z (ar.get 2 Z) (n:=2) (vs:=[_,_]) Z) Z<|vQ 1 Z ?_;obtain⟨xi,T⟩:=cL (show i<c.ins.length from by omega);refine cM Z (TB Z Z Z) (fun _=>Z) (B8 hG hi T oM ar) ?_;rintro cb V ⟨a4,hM44,ar⟩;replace ar:=ar.keeps;have hS44:=hM44.jK (K:=K.g9 a4) fun y hy=>.inr hy
   refine Q8 10 Z (bf ([11,13]++rg 45 15) (fun j t V=>∃(q m:Nat),j+q=(kg xi i).length/\nu (mP b2l) (gi c i) 0=nu (mP b2l) ((gi c i).drop q) m/\m<=c.ins.length/\t.get 11=some (.int .i64 (.ofNat m))/\t.get 13=some (.int .i64 (.ofNat q))/\D V (K.g9 a4) ((b3,.row (b2l.map gI) 3 false)::(b2,.row (o.map gB) 4 false)::(b1,.row [.int .i64 c.br,cv] 55 false)::L)) ((kg xi i).length) ⟨0,0,Z,Z,Nat.zero_le _,Z,Z,ar⟩ ?_);clear ar;intro bq t V an hI;obtain⟨q,m,bt,W,cc,a5,a6,ar⟩:=hI;obtain⟨oo,rfl⟩:=an.q2 a5 a6 Z;refine Ry 5 Z<|Y Z (TF hS44 Z Z Z (e:=3) Z) Z<|So 3 Z<|aD Z (fun M=>?_) (fun M=>?_)
   ·refine Q7 4 Z<|ah Z<|SY 4 Z ?_;obtain⟨ce,X,bv⟩:=cK M;refine Tw (e:=3) (m:=1) hS44 X Z Z Z Z (fun cg bw a7 b0 a8=>?_);obtain rfl:=a8;obtain⟨to,rfl,bs,a9,ch⟩:=zI Q T X;obtain⟨y,hy⟩:=cL (show to<b2l.length from by omega);refine Y Z (TH ar a7 Z Z) Z<|Y Z (fS (e:=3) (m:=1) O O Z Z bs) Z<|Y Z (aw Z ar.g0 O<|jP hy (by first | omega | rfl)) Z<|Y Z (OW Z Z Z Z) Z<|SX 2 Z<|aC<|SV 5 Z<|aH ⟨bq-1,(by have:=bc M;omega),oF,q+1,max m y,(by have:=bc M;omega),(by rw[W,NA a9,wP hy]),(by have:=C to;rw[wP hy] at this;omega),cI<|Gw _ _,cI<|aW (by have:=hS44.bO;omega),ar⟩
   refine RC 3 Z<|aL<|Sm 2 Z ?_;replace ar:=ar.weaken (KP.dj _ _);have hmx:=W.trans (KI (by rw[xV T];exact bA M));obtain⟨yi,ac⟩:=cL (show i<b2l.length from by omega);refine S2 ar 3 [1,2] Z Z<|Tw (e:=88) (m:=6) hi T Z Z Z Z (fun ci b4 bb b5 bd=>?_);have hr63':=bd;obtain⟨cj,rfl,b6⟩:=hr63';refine dy bb Z Z Z (k:=0) O (lb Z) (fun _=>Z) (fun ck be=>?_);refine Y Z (TH ar be Z Z) Z<|Q9 7 Z<|Y Z (da Z) Z<|Sp 13 Z<|Y Z (ax Z Z (show _=some (U.int .i64 (.ofNat (m+1))) from cI (aW oM))) Z<|Rb ar 9 [1,2] Z Z<|Y Z (TF hi Z Z Z (e:=88) Z) Z<|So 3 Z<|aD Z (fun F=>?_) (fun F=>?_)
   ·refine SW 7 Z<|aA<|aK<|aA<|bD<|aK<|aA<|aK<|aA<|bD<|aK<|aA (?_);exact dA Z Z Z ⟨r,hr,by rw[<-E,R,E,H8 (by have:=bA (bW B);omega) (by rw[<-A,I,A];exact Iu (by rw[S];have h41:=h41;cases oi;cases h41;rfl) (show gX (gi c) (fun _=>1) b2l i=(m+1) from by unfold gX;rw[hmx])<|bc F)];rfl,ar.pop.pop.pop⟩
   refine RB 7 Z<|Y Z (fS (e:=3) (m:=1) O O Z Z oM) Z<|Y Z (aw Z ar.g0 O<|jP ac (by first | omega | rfl)) Z<|So 3 Z<|aD Z (fun am=>?_) (fun am=>?_)
   ·refine Sm 5 Z (Y Z (fS (e:=3) (m:=1) O O Z Z oM) Z (dX ar .here Z (aR Z Z Z ar.g0 (m:=1) O Z (by rw[lM_];rw[u];omega) Z (cells':=((b2l).set i (m+1)).map (gI)) (eK (f:=gI) (v:=(m+1)) (by rw[u];omega) (by first | omega | rfl))) Z (fun V ar=>?_)));refine RF 6 Z<|SV 5 Z ?_;refine aH ⟨i,oM,oF,Int.sub (.ofNat i) 1,(b2l.set i (m+1)),false,(show(i:Int)-1+1=((i:Nat):Int) by omega),oM,(by rw[I,A];exact Lg (by rw[S];have h41:=h41;cases oi;cases h41;rfl) (show gX (gi c) (fun _=>1) b2l i=(m+1) from by unfold gX;rw[hmx]) (by have:=bA F;omega) (by rw[wP ac];exact Sh<|bW am)),(by first | exact u | (rw[List.length_set];exact u)),(by first | exact C | exact fun q=>r7 C (by have:=bA F;omega)),Z,cI<|wF oM,ar⟩
   refine aG<|aC<|SV 5 Z ?_;refine aH ⟨i,oM,oF,Int.sub (.ofNat i) 1,b2l,sm,(show(i:Int)-1+1=((i:Nat):Int) by omega),oM,(by rw[I,A];exact NR (by rw[S];have h41:=h41;cases oi;cases h41;rfl) (show gX (gi c) (fun _=>1) b2l i=(m+1) from by unfold gX;rw[hmx]) (by have:=bA F;omega) ((wP ac).trans<|R7<|bK am)),(by first | exact u | (rw[List.length_set];exact u)),(by first | exact C | exact fun q=>r7 C (by have:=bA F;omega)),Z,cI<|wF oM,ar⟩
  refine RH 5 Z<|aS<|aL<|Sm 2 Z ?_
  have aa:PD c.ins.length (bl,true)=some (b2l,sm):=by
   have h0:z<0:=OH.1 (bK ab);have h1:j8=0:=by omega
   rw[I,h1,A];rfl
  refine So 3 Z<|aD Z (fun ao=>?_) (fun ao=>?_)
  ·refine Sm 3 Z ?_;obtain⟨y0,bi⟩:=cL (show 0<b2l.length from by omega);refine Y Z (fS (e:=3) (m:=1) O O Z Z hpos) Z<|Y Z (aw Z ar.g0 O<|jP bi (by first | omega | rfl)) Z<|Sr 5 Z<|aK<|aA<|bD<|aK<|aA (?_);exact dA Z Z Z ⟨r,hr,by rw[<-E,R,E,H9 (b':=b2l) (by have:=bA (bW B);omega) (by rw[<-A,aa,show sm=true from ao]),wP bi],ar.pop.pop.pop⟩
  refine aG (aC (SV 5 Z (aH ⟨j4-1,(by have:=bA (bW B);omega),oF,rd+1,b2l,(by have:=bA (bW B);omega),(by rw[R,E];exact E5 (by have:=bA (bW B);omega) (by rw[<-A,aa,show sm=false from ao])),u,C,cI (aW (by have:=bA (bW B);omega)),ar⟩)))
 refine RC 3 Z<|aL<|SW 7 Z ?_;exact dA Z Z Z ⟨r,hr,by rw[<-E,R,E,show j4=0 from by have:=bc (bK B);omega];rfl,ar.pop.pop.pop⟩
theorem Dk {br:Int} {k:Nat} {op num:Int} {name:List Nat} {kids:List XE} (h:fo br (k+1) (.mk op num name kids)=true) (h1:H op 1=false) (u:H op 2=false):kids.length<=2/\∀x∈kids,fo br k x=true:=by
 unfold fo at h;rw[h1,u] at h;simp only[cf] at h;generalize aa:(bif (bif H op 3 then true else H op 4) then false else(bif b9 op 5 then true else b9 16 op))=w at h;cases w with
 | true=>cases h
 | false=>
  simp only[cf] at h;generalize j:(bif bh (H num 0) then true else bif bh (gK name []) then true else bh (H (.ofNat kids.length)<|zC op))=z at h;cases z with
  | true=>cases h
  | false=>
   simp only[cf] at h;refine⟨?_,aE_.1 h⟩;cases e1:bh (H num 0) with
   | true=>rw[e1] at j;cases j
   | false=>
   cases m:bh (gK name []) with
   | true=>rw[e1,m] at j;cases j
   | false=>
   rw[e1,m] at j;have h3:(kids.length:Int)=zC op:=eqv (bK j);have h4:zC op<=2:=by unfold zC;generalize (bif H op 3 then true else H op 4)=q;cases q<;>decide
   omega
theorem Fu {br:Int} {k:Nat} {op num:Int} {name:List Nat} {kids:List XE} (h:fo br (k+1) (.mk op num name kids)=true) (h1:H op 1=false) (m:H op 2=true):∃n,ld name=some n/\(n:Int)<br:=by
 unfold fo at h;rw[h1,m] at h;simp only[cf,ct] at h;cases j:ld name with
 | none=>rw[j] at h;cases h
 | some n=>
  rw[j] at h;dsimp only at h;refine⟨n,Z,?_⟩;cases hl:b9 (.ofNat n) br with
  | false=>rw[hl] at h;cases h
  | true=>rw[fm,decide_eq_true_iff] at hl;exact hl
theorem HA {G:Cx} (w:Plain G) {K:KP} {k:Nat} {c:XC} {cv:U} (hi:bL K 6 (j0 K k) c.ins cv) (u:lV k c) (B:vh k c) {V:aE} {L:Own} (ar:D V K L):
  bu Tryz.prog G 84 [.agg [.int .i64 c.br,cv]] V fun v V'=>∃z,v= .int .i64 z/\(bif b9 z 0 then false else true)=kW k c/\D V' K L:=by
 refine SQ w Tryz.func84 Z<|Sm 2 Z<|kp ar Z (cC Z Z) (fun V b1 ar=>?_);refine Q9 6 Z<|Y Z (TE Z ar.g0 (n:=2) (vs:=[_,_]) Z) Z<|bz Z (TB Z Z Z) (fun _=>Z) (w6 w hi u B ar) (fun V ar=>?_);refine So 3 Z<|aD Z (fun A=>?_) (fun A=>?_)
 ·refine Sn 7 Z ?_;exact aB Z Z ⟨_,Z,by show _=(bif bh (H (eY k c) 0) then false else(kC c).isSome);rw[<-gn u];rw[bW A];rfl,ar.pop⟩
 refine RB 4 Z<|Y Z (TE Z ar.g0 (n:=2) (vs:=[_,_]) Z) Z ?_;have j:eY k c=0:=by rw[<-gn u];exact eqv<|bK A
 have hok:=JB j;refine cM Z (TB Z Z Z) (fun _=>Z) (EA w hok j u B hi ar) ?_;rintro _ V ⟨r,C,rfl,ar⟩;refine Q9 11 Z<|Y Z (da Z) Z<|So 2 Z<|aD Z (fun m=>?_) (fun m=>?_)
 ·refine Sn 7 Z ?_;exact aB Z Z ⟨_,Z,by show _=(bif bh (H (eY k c) 0) then false else(kC c).isSome);rw[j,<-Cs hok C];show _=(bif false then false else _);rw[show(jr (gi c) (fun _=>1) r c.ins.length (c.ins.length+2)<|List.replicate c.ins.length 0).2=false from vM m];rfl,ar.pop⟩
 refine Sn 9 Z ?_;exact aB Z Z ⟨_,Z,by show _=(bif bh (H (eY k c) 0) then false else(kC c).isSome);rw[j,<-Cs hok C];show _=(bif false then false else _);rw[show(jr (gi c) (fun _=>1) r c.ins.length (c.ins.length+2)<|List.replicate c.ins.length 0).2=true from kh m,show∀q:Nat,b9 (.ofNat q) 0=false from fun q=>Mv.2 (show(0:Int)<=Int.ofNat q from Int.natCast_nonneg q)],ar.pop⟩
theorem Pd {G:Cx} (j:Plain G) {K:KP} {k:Nat} {c:XC} {cv:U} (hi:bL K 6 (j0 K k) c.ins cv) (m:lV k c) (u:vh k c) {V:aE} {L:Own} (ar:D V K L):
  bu Tryz.prog G 61 [.agg [.int .i64 c.br,cv]] V fun v V'=>v= .bool (kW k c)/\D V' K L:=by
 refine SQ j Tryz.func61 Z<|Sm 2 Z<|kp ar Z (cC Z Z) (fun V b1 ar=>?_);refine RE 5 Z<|Y Z (TE Z ar.g0 (n:=2) (vs:=[_,_]) Z) Z<|cM Z (TB Z Z Z) (fun _=>Z) (HA j hi m u ar) ?_;rintro _ V ⟨z,rfl,w,ar⟩;refine Sr 5 Z ?_;exact aB Z Z ⟨cB w,ar.pop⟩
theorem kK {G:Cx} (m:Plain G) {K:KP} (b:Bool) {V:aE} {L:Own} (ar:D V K L):bu Tryz.prog G 125 [.bool b] V fun v V'=>v= .int .i64 (qw b)/\D V' K L:=by
 refine SQ m Tryz.func125 Z<|Sl 11 Z<|aD Z (fun j=>?_) (fun j=>?_)
 ·refine Sn 7 Z ?_;exact aB Z Z ⟨by rw[j];rfl,ar⟩
 refine Sn 8 Z ?_;exact aB Z Z ⟨by rw[j];rfl,ar⟩
theorem JP {G:Cx} (I:Plain G) {K:KP} (op a b:Int) {V:aE} {L:Own} (ar:D V K L):bu Tryz.prog G 126 [.int .i64 op,.int .i64 a,.int .i64 b] V fun v V'=>v= .int .i64 (oY op a b)/\D V' K L:=by
 refine SQ I Tryz.func126 Z<|Rx 12 Z<|Sm 2 Z<|ky Z (ax Z Z Z) (fun B=>?_) (fun B=>?_)
 ·refine RE 8 Z<|ky Z (aq Z) (fun Q=>?_) (fun Q=>?_)
  ·refine SY 3 Z<|bz Z (TB Z Z Z) (fun _=>Z) (kK I _ ar) (fun V ar=>?_);refine Sr 4 Z<|aK<|aA (?_);exact aB Z Z ⟨cJ (by unfold oY;simp only[B,ct,cf];simp only[bh];simp only[Q,ct,cf]),ar⟩
  refine SY 3 Z<|bz Z (TB Z Z Z) (fun _=>Z) (kK I _ ar) (fun V ar=>?_);refine Sr 4 Z<|aK<|aA (?_);exact aB Z Z ⟨cJ (by unfold oY;simp only[B,ct,cf];simp only[bh];simp only[Q,ct,cf]),ar⟩
 refine RE 6 Z<|ky Z (ax Z Z Z) (fun m=>?_) (fun m=>?_)
 ·refine RE 8 Z<|ky Z (aq Z) (fun R=>?_) (fun R=>?_)
  ·refine SY 3 Z<|bz Z (TB Z Z Z) (fun _=>Z) (kK I _ ar) (fun V ar=>?_);refine Sr 4 Z<|aK<|aA (?_);exact aB Z Z ⟨cJ (by unfold oY;simp only[B,m,ct,cf];simp only[bh];simp only[R,ct,cf]),ar⟩
  refine SY 3 Z<|bz Z (TB Z Z Z) (fun _=>Z) (kK I _ ar) (fun V ar=>?_);refine Sr 4 Z<|aK<|aA (?_);exact aB Z Z ⟨cJ (by unfold oY;simp only[B,m,ct,cf];simp only[bh];simp only[R,ct,cf]),ar⟩
 refine RE 6 Z<|ky Z (ax Z Z Z) (fun u=>?_) (fun u=>?_)
 ·refine RE 9 Z<|bz Z (TB Z Z Z) (fun _=>Z) (kK I _ ar) (fun V ar=>?_);refine Sr 4 Z<|aK<|aA (?_);exact aB Z Z ⟨cJ (by unfold oY;simp only[B,m,u,ct,cf]<;>rfl),ar⟩
 refine RE 6 Z<|ky Z (ax Z Z Z) (fun w=>?_) (fun w=>?_)
 ·refine RE 9 Z<|bz Z (TB Z Z Z) (fun _=>Z) (kK I _ ar) (fun V ar=>?_);refine Sr 4 Z<|aK<|aA (?_);exact aB Z Z ⟨cJ (by unfold oY;simp only[B,m,u,w,ct,cf]<;>rfl),ar⟩
 refine RE 6 Z<|ky Z (ax Z Z Z) (fun z=>?_) (fun z=>?_)
 ·refine RE 9 Z<|bz Z (TB Z Z Z) (fun _=>Z) (kK I _ ar) (fun V ar=>?_);refine Sr 4 Z<|aK<|aA (?_);exact aB Z Z ⟨cJ (by unfold oY;simp only[B,m,u,w,z,ct,cf]<;>rfl),ar⟩
 refine RE 6 Z<|ky Z (ax Z Z Z) (fun A=>?_) (fun A=>?_)
 ·refine RE 9 Z<|bz Z (TB Z Z Z) (fun _=>Z) (kK I _ ar) (fun V ar=>?_);refine Sr 4 Z<|aK<|aA (?_);exact aB Z Z ⟨cJ (by unfold oY;simp only[B,m,u,w,z,A,ct,cf]<;>rfl),ar⟩
 refine RE 6 Z<|ky Z (ax Z Z Z) (fun C=>?_) (fun C=>?_)
 ·refine Sr 13 Z<|aK<|aA (?_);exact aB Z Z ⟨cJ (by unfold oY;simp only[B,m,u,w,z,A,C,ct,cf];exact Ah _ _ _),ar⟩
 refine RE 6 Z<|ky Z (ax Z Z Z) (fun E=>?_) (fun E=>?_)
 ·refine Sr 13 Z<|aK<|aA (?_);exact aB Z Z ⟨cJ (by unfold oY;simp only[B,m,u,w,z,A,C,E,ct,cf];exact Ah _ _ _),ar⟩
 refine RE 6 Z<|ky Z (ax Z Z Z) (fun F=>?_) (fun F=>?_)
 ·refine Sr 13 Z<|aK<|aA (?_);exact aB Z Z ⟨cJ (by unfold oY;simp only[B,m,u,w,z,A,C,E,F,ct,cf];exact Ah _ _ _),ar⟩
 refine RE 6 Z<|ky Z (ax Z Z Z) (fun M=>?_) (fun M=>?_)
 ·refine RE 7 Z ?_;refine Y Z (gJ (j:=.i64) (k:=.u64) O O O Z) Z ?_;refine vQ 1 Z ?_;refine Y Z (gJ (j:=.i64) (k:=.u64) O O O Z) Z ?_;refine vQ 1 Z ?_;refine Y Z (gJ (j:=.u64) (k:=.i64) O O O Z) Z ?_;refine Sr 4 Z<|aK<|aA (?_);exact aB Z Z ⟨cJ (by unfold oY;simp only[B,m,u,w,z,A,C,E,F,M,ct,cf]<;>rfl),ar⟩
 refine RE 6 Z<|ky Z (ax Z Z Z) (fun S=>?_) (fun S=>?_)
 ·refine RE 7 Z ?_;refine Y Z (gJ (j:=.i64) (k:=.u64) O O O Z) Z ?_;refine vQ 1 Z ?_;refine Y Z (gJ (j:=.i64) (k:=.u64) O O O Z) Z ?_;refine vQ 1 Z ?_;refine Y Z (gJ (j:=.u64) (k:=.i64) O O O Z) Z ?_;refine Sr 4 Z<|aK<|aA (?_);exact aB Z Z ⟨cJ (by unfold oY;simp only[B,m,u,w,z,A,C,E,F,M,S,ct,cf]<;>rfl),ar⟩
 refine RF 6 Z<|Sm 3 Z ?_;refine Y Z (gJ (j:=.i64) (k:=.u64) O O O Z) Z ?_;refine vQ 1 Z ?_;refine Y Z (gJ (j:=.i64) (k:=.u64) O O O Z) Z ?_;refine vQ 1 Z ?_;refine Y Z (gJ (j:=.u64) (k:=.i64) O O O Z) Z ?_;refine Sr 4 Z ?_;exact aB Z Z ⟨cJ (by unfold oY;simp only[B,m,u,w,z,A,C,E,F,M,S,ct,cf]<;>rfl),ar⟩
theorem R5 {G:Cx} (hG:Plain G) {K:KP} {l:List Int} {v:U} (hl:bL K 1 eu l v) (op:Int) {V:aE} {L:Own} (ar:D V K L):bu Tryz.prog G 116 [.int .i64 op,v] V fun v V'=>v= .tuple [.int .i64 (pJ op l).1,.int .i64 (pJ op l).2]/\D V' K L:=by
 refine SQ hG Tryz.func116 Z<|Ry 11 Z<|ky Z (aq Z) (fun I=>?_) (fun I=>?_)
 ·refine SY 5 Z<|Y Z (TF hl Z Z Z (e:=2) Z) Z<|So 4 Z<|aD Z (fun u=>?_) (fun u=>?_)
  ·refine Sl 7 Z<|aD Z (fun E=>?_) (fun E=>?_)
   ·refine Sm 3 Z ?_;obtain⟨X,M⟩:=cL (show 0<l.length from by have:=iJ_ (eqv (b:=.ofNat 1) u);omega);refine Tw (e:=2) (m:=1) hl M Z Z Z Z (fun bd a4 aa a5 ab=>?_);obtain rfl:=ab;refine Y Z (TH ar aa Z Z) Z ?_;refine Y Z (gJ (j:=.i64) (k:=.u64) O O O Z) Z ?_;refine vQ 1 Z ?_;refine Y Z (gJ (j:=.u64) (k:=.i64) O O O Z) Z ?_;refine Sr 5 Z<|aA<|aA (?_);exact dA Z Z Z ⟨by rw[show pJ op l=(uJ op X,0) from by unfold pJ;simp only[bh];simp only[I,u,E,ct];rw[M]<;>rfl];show _=U.tuple [.int .i64<|uJ op X,_];unfold uJ;rw[show H op 3=true from E];rfl,ar⟩
   refine RB 5 Z ?_;obtain⟨ac,Q⟩:=cL (show 0<l.length from by have:=iJ_ (eqv (b:=.ofNat 1) u);omega);refine Tw (e:=2) (m:=1) hl Q Z Z Z Z (fun be a6 am a7 an=>?_);obtain rfl:=an;refine Y Z (TH ar am Z Z) Z<|vQ 1 Z<|bz Z (TB Z Z Z) (fun _=>Z) (kK hG _ ar) (fun V ar=>?_);refine RG 6 Z ?_;exact dA Z Z Z ⟨by rw[show pJ op l=(uJ op ac,0) from by unfold pJ;simp only[bh];simp only[I,u,E,ct];rw[Q]<;>rfl];show _=U.tuple [.int .i64<|uJ op ac,_];unfold uJ;rw[show H op 3=false from E];rfl,ar⟩
  refine Rz 3 Z<|Sm 4 Z<|ky Z (aq Z) (fun w=>?_) (fun w=>?_)
  ·refine SY 3 Z<|ky Z (aq Z) (fun z=>?_) (fun z=>?_)
   ·refine vQ 1 Z<|Y Z (TF hl Z Z Z (e:=2) Z) Z<|So 4 Z<|aD Z (fun A=>?_) (fun A=>?_)
    ·refine al<|aU (l:=zp [0,1,2,3,4,5,6,7,8,9]) O O<|S0 2 Z ?_;have a8:l.length=2:=iJ_ (eqv (b:=.ofNat 2) A);obtain⟨ao,B⟩:=cL (show 0<l.length from by omega);obtain⟨ap,C⟩:=cL (show 1<l.length from by omega);refine Tx (e:=2) (m:=1) hl B Z Z Z Z Z (fun a9 a0 R a1 S=>?_);obtain rfl:=S;refine ai Z Z (TH ar R Z Z) Z<|wQ 1 Z<|Tx (e:=2) (m:=1) hl C Z Z Z Z Z (fun bb a2 T a3 W=>?_);obtain rfl:=W;refine ai Z Z (TH ar T Z Z) Z<|eB Z Z (TB Z Z Z) (fun _=>Z) (JP hG _ _ _ ar) (fun V ar=>?_);refine⟨ba,?_⟩;refine RI 6 Z ?_;exact dA Z Z Z ⟨by rw[show pJ op l=(oY op ao ap,0) from by unfold pJ;simp only[bh];simp only[I,u,w,z,A,ct,cf];rw[B,C]<;>rfl],ar⟩
    refine Sn 9 Z ?_;exact dA Z Z Z ⟨by rw[show pJ op l=(0,2) from by unfold pJ;simp only[bh];simp only[I,u,w,z,A,ct,cf]<;>rfl],ar⟩
   refine RG 16 Z ?_;exact dA Z Z Z ⟨by rw[show pJ op l=(0,2) from by unfold pJ;simp only[bh];simp only[I,u,w,z,ct,cf]<;>rfl],ar⟩
  refine RG 20 Z ?_;exact dA Z Z Z ⟨by rw[show pJ op l=(0,2) from by unfold pJ;simp only[bh];simp only[I,u,w,ct,cf]<;>rfl],ar⟩
 refine SY 3 Z<|ky Z (aq Z) (fun F=>?_) (fun F=>?_)
 ·refine vQ 1 Z<|Y Z (TF hl Z Z Z (e:=2) Z) Z<|So 4 Z<|aD Z (fun u=>?_) (fun u=>?_)
  ·refine Sl 7 Z<|aD Z (fun E=>?_) (fun E=>?_)
   ·refine Sm 3 Z ?_;obtain⟨X,M⟩:=cL (show 0<l.length from by have:=iJ_ (eqv (b:=.ofNat 1) u);omega);refine Tw (e:=2) (m:=1) hl M Z Z Z Z (fun bd a4 aa a5 ab=>?_);obtain rfl:=ab;refine Y Z (TH ar aa Z Z) Z ?_;refine Y Z (gJ (j:=.i64) (k:=.u64) O O O Z) Z ?_;refine vQ 1 Z ?_;refine Y Z (gJ (j:=.u64) (k:=.i64) O O O Z) Z ?_;refine Sr 5 Z<|aA<|aA (?_);exact dA Z Z Z ⟨by rw[show pJ op l=(uJ op X,0) from by unfold pJ;simp only[bh];simp only[I,F,u,E,ct];rw[M]<;>rfl];show _=U.tuple [.int .i64<|uJ op X,_];unfold uJ;rw[show H op 3=true from E];rfl,ar⟩
   refine RB 5 Z ?_;obtain⟨ac,Q⟩:=cL (show 0<l.length from by have:=iJ_ (eqv (b:=.ofNat 1) u);omega);refine Tw (e:=2) (m:=1) hl Q Z Z Z Z (fun be a6 am a7 an=>?_);obtain rfl:=an;refine Y Z (TH ar am Z Z) Z<|vQ 1 Z<|bz Z (TB Z Z Z) (fun _=>Z) (kK hG _ ar) (fun V ar=>?_);refine RG 6 Z ?_;exact dA Z Z Z ⟨by rw[show pJ op l=(uJ op ac,0) from by unfold pJ;simp only[bh];simp only[I,F,u,E,ct];rw[Q]<;>rfl];show _=U.tuple [.int .i64<|uJ op ac,_];unfold uJ;rw[show H op 3=false from E];rfl,ar⟩
  refine Rz 3 Z<|Sm 4 Z<|ky Z (aq Z) (fun w=>?_) (fun w=>?_)
  ·refine SY 3 Z<|ky Z (aq Z) (fun z=>?_) (fun z=>?_)
   ·refine vQ 1 Z<|Y Z (TF hl Z Z Z (e:=2) Z) Z<|So 4 Z<|aD Z (fun A=>?_) (fun A=>?_)
    ·refine al<|aU (l:=zp [0,1,2,3,4,5,6,7,8,9]) O O<|S0 2 Z ?_;have a8:l.length=2:=iJ_ (eqv (b:=.ofNat 2) A);obtain⟨ao,B⟩:=cL (show 0<l.length from by omega);obtain⟨ap,C⟩:=cL (show 1<l.length from by omega);refine Tx (e:=2) (m:=1) hl B Z Z Z Z Z (fun a9 a0 R a1 S=>?_);obtain rfl:=S;refine ai Z Z (TH ar R Z Z) Z<|wQ 1 Z<|Tx (e:=2) (m:=1) hl C Z Z Z Z Z (fun bb a2 T a3 W=>?_);obtain rfl:=W;refine ai Z Z (TH ar T Z Z) Z<|eB Z Z (TB Z Z Z) (fun _=>Z) (JP hG _ _ _ ar) (fun V ar=>?_);refine⟨ba,?_⟩;refine RI 6 Z ?_;exact dA Z Z Z ⟨by rw[show pJ op l=(oY op ao ap,0) from by unfold pJ;simp only[bh];simp only[I,F,u,w,z,A,ct,cf];rw[B,C]<;>rfl],ar⟩
    refine Sn 9 Z ?_;exact dA Z Z Z ⟨by rw[show pJ op l=(0,2) from by unfold pJ;simp only[bh];simp only[I,F,u,w,z,A,ct,cf]<;>rfl],ar⟩
   refine RG 16 Z ?_;exact dA Z Z Z ⟨by rw[show pJ op l=(0,2) from by unfold pJ;simp only[bh];simp only[I,F,u,w,z,ct,cf]<;>rfl],ar⟩
  refine RG 20 Z ?_;exact dA Z Z Z ⟨by rw[show pJ op l=(0,2) from by unfold pJ;simp only[bh];simp only[I,F,u,w,ct,cf]<;>rfl],ar⟩
 refine So 7 Z<|Rz 3 Z<|Sm 4 Z<|ky Z (aq Z) (fun w=>?_) (fun w=>?_)
 ·refine SY 3 Z<|ky Z (aq Z) (fun z=>?_) (fun z=>?_)
  ·refine vQ 1 Z<|Y Z (TF hl Z Z Z (e:=2) Z) Z<|So 4 Z<|aD Z (fun A=>?_) (fun A=>?_)
   ·refine al<|aU (l:=zp [0,1,2,3,4,5,6,7,8,9]) O O<|S0 2 Z ?_;have a8:l.length=2:=iJ_ (eqv (b:=.ofNat 2) A);obtain⟨ao,B⟩:=cL (show 0<l.length from by omega);obtain⟨ap,C⟩:=cL (show 1<l.length from by omega);refine Tx (e:=2) (m:=1) hl B Z Z Z Z Z (fun a9 a0 R a1 S=>?_);obtain rfl:=S;refine ai Z Z (TH ar R Z Z) Z<|wQ 1 Z<|Tx (e:=2) (m:=1) hl C Z Z Z Z Z (fun bb a2 T a3 W=>?_);obtain rfl:=W;refine ai Z Z (TH ar T Z Z) Z<|eB Z Z (TB Z Z Z) (fun _=>Z) (JP hG _ _ _ ar) (fun V ar=>?_);refine⟨ba,?_⟩;refine RI 6 Z ?_;exact dA Z Z Z ⟨by rw[show pJ op l=(oY op ao ap,0) from by unfold pJ;simp only[bh];simp only[I,F,w,z,A,ct,cf];rw[B,C]<;>rfl],ar⟩
   refine Sn 9 Z ?_;exact dA Z Z Z ⟨by rw[show pJ op l=(0,2) from by unfold pJ;simp only[bh];simp only[I,F,w,z,A,ct,cf]<;>rfl],ar⟩
  refine RG 16 Z ?_;exact dA Z Z Z ⟨by rw[show pJ op l=(0,2) from by unfold pJ;simp only[bh];simp only[I,F,w,z,ct,cf]<;>rfl],ar⟩
 refine RG 20 Z ?_;exact dA Z Z Z ⟨by rw[show pJ op l=(0,2) from by unfold pJ;simp only[bh];simp only[I,F,w,ct,cf]<;>rfl],ar⟩
theorem Nd {G:Cx} (hG:Plain G) {K:KP} {br:List Int} {rn:Int} (a5:rn<=br.length) {regv:U} (F:bL K 1 eu br regv):∀(k:Nat) (x:XE) (vs:List U),eH K k x vs->fo rn k x=true->∀(V:aE) (L:Own),D V K L->bu Tryz.prog G 85 [.agg vs,regv] V fun v V'=>v= .int .i64 (fY br k x)/\D V' K L:=by
 intro k;induction k with
 | zero=>intro x vs h;cases x;exact h.elim
 | succ k ih=>
 intro x vs hE hR V L ar;obtain⟨op,num,name,kids⟩:=x;obtain⟨v,rfl,hk⟩:=hE;have hX:fY br (k+1) (.mk op num name kids)=bif H op 1 then num else bif H op 2 then(br[(ld name).getD 0]?).getD 0 else SP op (kids.map<|fY br k):=rfl;refine SQ hG Tryz.func85 Z<|Sm 2 Z<|kp ar Z (cC Z Z) (fun V b1 ar=>?_);refine Rb ar 9 [0,0] Z Z<|So 2 Z<|aD Z (fun w=>?_) (fun w=>?_)
 ·refine Sv ar 9 [1,0] Z Z ?_;exact aB Z Z ⟨cJ (by rw[hX,w];rfl),ar.pop⟩
 refine Rz 3 Z<|Sm 2 Z<|Sw ar 5 [0,0] Z Z<|aD Z (fun A=>?_) (fun A=>?_)
 ·refine Sm 3 Z<|S2 ar 2 [2,0] Z Z<|bz Z (TB Z Z Z) (fun _=>Z) (JI hG _ ar) (fun V ar=>?_);obtain⟨nn,I,a6⟩:=Fu hR w A;obtain⟨y,hy⟩:=cL (show nn<br.length by omega);have Q:jF name= .ofNat nn:=by unfold jF;rw[I]
  refine Tw (e:=2) (m:=1) F hy Z Z Z (show _=some (U.int .i64 (.ofNat nn)) from cI Q) (fun a7 ap S a0 T=>?_);obtain rfl:=T;refine Y Z (TH ar S Z Z) Z<|RG 5 Z ?_;exact aB Z Z ⟨cJ (by rw[hX,w,A,I];show y=(br[nn]?).getD 0;rw[hy];rfl),ar.pop⟩
 refine Rz 8 Z<|Sm 2 Z ?_;obtain⟨a8,aa⟩:=Dk hR w A;replace ar:D V K ([]++_):=ar;refine RD 4 Z (bf ([5,6]++rg 23 17) (fun j t V=>∃(i:Nat) (u:U) (M:Own),j+i=kids.length/\cZ 1 2 eu ((kids.take i).map<|fY br k) u M/\t.get 5=some (u)/\t.get 6=some (.int .i64 (.ofNat i))/\D V K (M++(b1,.row [.int .i64 op,.int .i64 num,.str name,v] 91 false)::L)) (kids.length) ⟨0,.az,[],Z,cZ.nil,Z,Z,ar⟩ ?_);clear ar;intro j7 t V an hI;obtain⟨i,u,M,hj,hO,ab,ac,ar⟩:=hI;obtain⟨oo,rfl⟩:=an.q2 ab ac Z;refine RJ ar 5 [3] Z Z<|Y Z (TD Z ar.bR.g0 Z) Z<|Y Z (TF hk Z Z Z (e:=91) Z) Z<|So 3 Z<|aD Z (fun B=>?_) (fun B=>?_)
 ·refine Ra ar 7 [3] Z Z<|Y Z (TD Z ar.bR.g0 Z) Z<|vQ 1 Z ?_;obtain⟨a9,C,a1⟩:=cK B;refine Tw (e:=91) (m:=4) hk C Z Z Z Z (fun bb a2 W a3 E=>?_);obtain⟨bd,be,bi,bk,rfl,a4⟩:=E.shape;refine Y Z (TI ar W Z Z) Z<|vQ 1 Z<|bz Z (TB Z Z Z) (fun _=>Z) (ih _ _ E (aa _<|gB_ C) _ _ ar) (fun V ar=>?_);refine fe ar Z (bP (e:=2) (m:=1) (z:=[N]) (cs:=[_]) O O O O<|bj Z Z Z Z bF) (fun _=>Z) (fun V b2 ar=>?_);replace ar:=ar.pull (.there .here);replace ar:=ar.pull (.dN<|cX.here (X:=[_]));refine fH (R:=eu) (m:=1) (e:=2) hO ar (di (m:=1) Z Z) eu.leaf (by rw[lM_,lT_];show _+1<=_;omega) Z Z Z Z Z Z Z (fun _=>Z) (fun V am ao hO39 ar=>?_);refine SX 2 Z<|aC<|SV 5 Z<|aH ⟨j7-1,(by have:=bc B;omega),oF,i+1,am,ao,(by have:=bc B;omega),(by rw[lP C];exact hO39),Z,cI<|aW (by have:=hk.bO;omega),ar⟩
 refine RC 3 Z<|aL<|Sm 2 Z ?_;replace ar:=ar.keeps;refine S2 ar 3 [0,0] Z Z<|bz Z (TB Z Z Z) (fun _=>Z) (R5 hG hO.jE _ ar) (fun V ar=>?_);refine Sr 14 Z ?_;exact aB Z Z ⟨cJ (by rw[hX,w,A,tL_<|bA B];rfl),(ar.weaken<|KP.dj _ _).pop⟩
end Go.Ev
namespace Go.Ev
variable [Env]
def xA (k:Nat) (c:XC) (A:List Int):Nat->TS->TS
 | 0,s=>s
 | f+1,s=>bif (cT k c s).2 then xA k c A f (cT k c s).1 else
  bif (cT k c s).1.asks then(match A[s.asked]? with | some v=>xA k c A f (hZ k c (cT k c s).1 v) | none=>(cT k c s).1) else(cT k c s).1
theorem Kk {k:Nat} {c:XC} {out:List Nat} (m:gb (ei c) c.ins.length out):∀(q:Nat) (s:TS) (f f':Nat),out[q]?=some s.at_->q<f->q<f'->Gl k c f s=Gl k c f' s:=by
 intro q;induction q using Nat.strongRecOn with
 | _ q ih=>
  intro s f f' hq h1 h2;cases j:(cT k c s).2 with
  | false=>rw[ET oM j,ET oM j]
  | true=>
   rw[AA oM j,AA oM j];obtain⟨x,hx⟩:∃x,c.ins[s.at_]?=some x:=⟨_,gC<|m.lt _<|gB_ hq⟩
   grind [uQ]
theorem vV {k:Nat} {c:XC} {s:TS}:(cT k c s).1.asked=s.asked:=(qu k c s).2
theorem LC {k:Nat} {c:XC} {A:List Int} {s:TS} (h:s.asks=false):mM k c A s=s:=by
 cases A with
 | nil=>rfl
 | cons v r=>unfold mM;rw[h];rfl
theorem BU {k:Nat} {c:XC} {s:TS} (h:nF c s) (j:s.asks=true) (v:Int):(hZ k c s v).at_∈ei c s.at_:=by
 obtain⟨x,hx,hk⟩:=h j;show s.at_+1∈ei c s.at_;unfold ei;rw[hx];show _∈(kZ x s.at_).map Int.toNat
 have:kZ x s.at_= [.ofNat (s.at_+1)]:=by
  unfold kZ;rcases hk with hk | hk | hk | hk<;>rw[hk]<;>rfl
 rw[this];simp
theorem Pu {k:Nat} {c:XC} (hc:fT k c) {out:List Nat} (ho:kC c=some out) (j:gb (ei c) c.ins.length out) (A:List Int):
  ∀(f q:Nat) (s:TS),s.asks=false->out[q]?=some s.at_->q<f->xA k c A f s=mM k c (A.drop s.asked) (Gl k c f s):=by
 intro f;induction f with
 | zero=>omega
 | succ f ih=>
  intro q s w hq aa;obtain⟨x,hx⟩:∃x,c.ins[s.at_]?=some x:=⟨_,gC<|j.lt _<|gB_ hq⟩;have hask:=uX (k:=k) hc w;unfold xA;cases m:(cT k c s).2 with
  | true=>
   grind [uQ,vV,AA]
  | false=>
   rw[ET oM m];show(bif (cT k c s).1.asks then _ else _)=_;cases hk:(cT k c s).1.asks with
   | false=>rw[LC hk];rfl
   | true=>
    show(match A[s.asked]? with | some v=>_ | none=>_)=_;cases u:A[s.asked]? with
    | none=>rw[eF (List.getElem?_eq_none_iff.1 u)];rfl
    | some v=>
     dsimp only;have ar:(cT k c s).1.at_=s.at_:=sK m;have hn:=BU (k:=k) hask.1 hk v;rw[ar] at hn;obtain⟨q',h3,h4⟩:=j.yV q _ hq _ hn;have hql:=(gA.1 hq).1;rw[ih q' _ Z h4 oM,cu u];show mM k c (A.drop ((cT k c s).1.asked+1)) _=(bif (cT k c s).1.asks then _ else _)
     grind [vV,gx,Kk,xu]
theorem Np {k:Nat} {c:XC} (hc:fT k c) {out:List Nat} (j:kC c=some out) (m:gb (ei c) c.ins.length out) (A:List Int):xA k c A out.length (mE c)=jS k c A:=by
 obtain⟨q,hq⟩:=gO_ m.zero;have hl:=(gA.1 hq).1;rw[Pu hc j m A _ q (mE c) Z hq hl];show mM k c A _=mM k c A (Gl k c (xu c) _);unfold xu;rw[j];rfl
theorem Nq {k:Nat} {c:XC} {A:List Int} {j:Nat} {s:TS} (hj:1<=j) (h:(cT k c s).2=true):xA k c A j s=xA k c A (j-1) (cT k c s).1:=by
 obtain⟨j,rfl⟩:∃m,j=m+1:=⟨j-1,by omega⟩;show(bif _ then _ else _)=_;rw[h];rfl
theorem No {k:Nat} {c:XC} {A:List Int} {j:Nat} {s:TS} {v:Int} (hj:1<=j) (h:(cT k c s).2=false) (u:(cT k c s).1.asks=true) (hv:A[s.asked]?=some v):xA k c A j s=xA k c A (j-1) (hZ k c (cT k c s).1 v):=by
 obtain⟨j,rfl⟩:∃m,j=m+1:=⟨j-1,by omega⟩;show(bif _ then _ else bif _ then _ else _)=_;rw[h,u,hv];rfl
theorem Pv {k:Nat} {c:XC} {A:List Int} {j:Nat} {s:TS} (hj:1<=j) (h:(cT k c s).2=false) (ha:(cT k c s).1.asks=true->A[s.asked]?=none):xA k c A j s=(cT k c s).1:=by
 obtain⟨j,rfl⟩:∃m,j=m+1:=⟨j-1,by omega⟩;show(bif _ then _ else bif _ then _ else _)=_
 grind
end Go.Ev
namespace Go.Ev
variable [Env]
open Go.Proofs
set_option maxRecDepth 4000
set_option maxHeartbeats 8000000
theorem JG {G:Cx} (C:Plain G) {K:KP} (a:sN) (vv:Int) {V:aE} {L:Own} (ar:D V K L):bu Tryz.prog G 86 [.agg [.int .i64 a.kind,.int .i64 a.loc,.int .i64 a.order,.int .i64 a.a,.int .i64 a.b],.int .i64 vv] V fun v V'=>v= .tuple [.agg<|ints (ea a vv).ints,.int .i64<|ou a]/\D V' K L:=by
 refine SQ C Tryz.func86 Z<|Sm 2 Z<|kp ar Z (cC Z Z) (fun V b1 ar=>?_);refine kp ar Z (TG (cs:=[N,N,N,N,N])) (fun V b2 ar=>?_);refine RM ar 10 [1,1,2,1] Z Z (Y Z (TA (places:=[(0,1),(1,1),(2,1),(3,1),(4,1)]) (zero:=[N,N,N,N,N]) (cs:=[_,_,_,_,_]) Z) Z<|kp ar Z (TG (cs:=[N,N,N,N,N])) (fun V b3 ar=>?_));refine bZ ar Z (TJ Z Z Z ar.g0 (m:=5) Z Z (cells':=[_,_,_,_,_]) Z) Z (fun V ar=>?_);refine Rb ar 7 [0,2] Z Z<|RD 3 Z<|Sm 2 Z<|ky Z (ax Z Z Z) (fun u=>?_) (fun u=>?_)
 ·refine Sp 5 Z<|Y Z (TC 0 Z) Z<|bZ ar Z (TJ Z Z Z ar.g0 (m:=1) Z Z (cells':=[_,_,_,_,_]) Z) Z (fun V ar=>?_);refine af<|aC<|Sm 2 Z<|Y Z (TE Z ar.g0 (n:=5) (vs:=[_,_,_,_,_]) Z) Z<|gS ar Z (TJ Z Z Z ar.g1 (m:=5) Z Z (cells':=[_,_,_,_,_]) Z) Z (fun V ar=>?_);refine Sr 4 Z ?_;exact cA Z Z ar.g1 (m:=5) O Z Z ⟨by unfold ea ou;simp only[u,ct,cf]<;>rfl,ar.pop.pop.pop⟩
 refine RE 6 Z<|ky Z (ax Z Z Z) (fun w=>?_) (fun w=>?_)
 ·refine Sw ar 12 [3,2] Z Z<|aD Z (fun A=>?_) (fun A=>?_)
  ·refine S1 ar 2 [0] Z Z<|bZ ar Z (TJ Z Z Z ar.g0 (m:=1) Z Z (cells':=[_,_,_,_,_]) Z) Z (fun V ar=>?_);refine af<|aC<|Sm 2 Z<|Y Z (TE Z ar.g0 (n:=5) (vs:=[_,_,_,_,_]) Z) Z<|gS ar Z (TJ Z Z Z ar.g1 (m:=5) Z Z (cells':=[_,_,_,_,_]) Z) Z (fun V ar=>?_);refine Sr 4 Z ?_;exact cA Z Z ar.g1 (m:=5) O Z Z ⟨by unfold ea ou;simp only[u,w,bW A,ct,cf]<;>rfl,ar.pop.pop.pop⟩
  refine S1 ar 4 [4,2,4] Z Z<|bZ ar Z (TJ Z Z Z ar.g0 (m:=1) Z Z (cells':=[_,_,_,_,_]) Z) Z (fun V ar=>?_);refine af<|aC<|Sm 2 Z<|Y Z (TE Z ar.g0 (n:=5) (vs:=[_,_,_,_,_]) Z) Z<|gS ar Z (TJ Z Z Z ar.g1 (m:=5) Z Z (cells':=[_,_,_,_,_]) Z) Z (fun V ar=>?_);refine Sr 4 Z ?_;exact cA Z Z ar.g1 (m:=5) O Z Z ⟨by unfold ea ou;simp only[u,w,bK A,ct,cf]<;>rfl,ar.pop.pop.pop⟩
 refine RE 6 Z<|ky Z (ax Z Z Z) (fun z=>?_) (fun z=>?_)
 ·refine Sp 6 Z ?_;refine Y Z (gJ (j:=.i64) (k:=.u64) O O O Z) Z ?_;refine S2 ar 2 [3,2] Z Z ?_;refine Y Z (gJ (j:=.i64) (k:=.u64) O O O Z) Z ?_;refine vQ 1 Z ?_;refine Y Z (gJ (j:=.u64) (k:=.i64) O O O Z) Z ?_;refine Y Z (TC 4 Z) Z<|bZ ar Z (TJ Z Z Z ar.g0 (m:=1) Z Z (cells':=[_,_,_,_,_]) Z) Z (fun V ar=>?_);refine af<|aC<|Sm 2 Z<|Y Z (TE Z ar.g0 (n:=5) (vs:=[_,_,_,_,_]) Z) Z<|gS ar Z (TJ Z Z Z ar.g1 (m:=5) Z Z (cells':=[_,_,_,_,_]) Z) Z (fun V ar=>?_);refine Sr 4 Z ?_;exact cA Z Z ar.g1 (m:=5) O Z Z ⟨by unfold ea ou;simp only[u,w,z,ct,cf]<;>rfl,ar.pop.pop.pop⟩
 refine RE 6 Z<|ky Z (ax Z Z Z) (fun B=>?_) (fun B=>?_)
 ·refine Sp 5 Z<|S2 ar 3 [3,2,4] Z Z<|bZ ar Z (TJ Z Z Z ar.g0 (m:=1) Z Z (cells':=[_,_,_,_,_]) Z) Z (fun V ar=>?_);refine af<|aC<|Sm 2 Z<|Y Z (TE Z ar.g0 (n:=5) (vs:=[_,_,_,_,_]) Z) Z<|gS ar Z (TJ Z Z Z ar.g1 (m:=5) Z Z (cells':=[_,_,_,_,_]) Z) Z (fun V ar=>?_);refine Sr 4 Z ?_;exact cA Z Z ar.g1 (m:=5) O Z Z ⟨by unfold ea ou;simp only[u,w,z,B,ct,cf]<;>rfl,ar.pop.pop.pop⟩
 refine RE 6 Z (Y Z (TA (places:=[(0,1),(1,1),(2,1),(3,1),(4,1)]) (zero:=[N,N,N,N,N]) (cs:=[_,_,_,_,_]) Z) Z<|gS ar Z (TJ Z Z Z ar.g1 (m:=5) Z Z (cells':=[_,_,_,_,_]) Z) Z (fun V ar=>?_));refine Sr 4 Z<|aK<|aA (?_);exact cA Z Z ar.g1 (m:=5) O Z Z ⟨by unfold ea ou;simp only[u,w,z,B,ct,cf]<;>rfl,ar.pop.pop.pop⟩
theorem Hz {G:Cx} (hG:Plain G) {K:KP} {es:List db} {v:U} (h:bL K 5 mJ es v) (hl:es.length<=100000) {V:aE} {L:Own} (ar:D V K L):bu Tryz.prog G 44 [v] V fun v V'=>∃M,cZ 1 2 eu (dM es) v M/\D V' K (M++L):=by
 refine SQ hG Tryz.func44 Z<|Rx 17 Z<|bf (rg 3 30) (fun j t V=>∃(i:Nat) (u:U) (M:Own),j+i=es.length/\cZ 1 2 eu (dM<|es.take i) u M/\t.get 3=some (u)/\t.get 4=some (.int .i64 (.ofNat i))/\D V K (M++L)) (es.length) ⟨0,.az,[],Z,cZ.nil,Z,Z,ar⟩ ?_;clear ar;intro j3 t V an hI;obtain⟨i,u,M,bb,T,a1,a2,ar⟩:=hI;obtain⟨oo,rfl⟩:=an.q2 a1 a2 Z;refine Ry 5 Z<|Y Z (TF h Z Z Z (e:=59) Z) Z<|So 3 Z<|aD Z (fun E=>?_) (fun E=>?_)
 ·refine Qs 8 Z ?_;obtain⟨I,w,a5⟩:=cK E;refine Tw (e:=59) (m:=5) h w Z Z Z Z (fun bd a6 W a7 aa=>?_);obtain rfl:=aa;refine dy W Z Z Z (k:=0) O (lb Z) (fun _=>Z) (fun be ab=>?_);refine Y Z (TH ar ab Z Z) Z<|ky Z (ax Z Z Z) (fun F=>?_) (fun F=>?_)
  ·refine Sp 15 Z<|Tw (e:=59) (m:=5) h w Z Z Z Z (fun a3 ac A am B=>?_);obtain rfl:=B;refine dy A Z Z Z (k:=3) O (lb Z) (fun _=>Z) (fun a4 C=>?_);refine Y Z (TH ar C Z Z) Z<|fe ar Z (bP (e:=2) (m:=1) (z:=[N]) (cs:=[_]) O O O O<|bj Z Z Z Z bF) (fun _=>Z) (fun V b1 ar=>?_);replace ar:=ar.pull (.there .here);replace ar:=ar.pull (.dN<|cX.here (X:=[_]));refine fH (R:=eu) (m:=1) (e:=2) T ar (di (m:=1) Z Z) eu.leaf (by have:=uR (es.take i);rw[lT_] at this;show _+1<=_;omega) Z Z Z Z Z Z Z (fun _=>Z) (fun V u32 Q hO32 ar=>?_);refine SX 2 Z<|aC<|SV 5 Z<|aH ⟨j3-1,(by have:=bc E;omega),oF,i+1,u32,Q,(by have:=bc E;omega),(by rw[qj w,show cN I=true from by unfold cN;rw[F];rfl];exact hO32),Z,cI<|aW (by have:=h.bO;omega),ar⟩
  refine SY 3 Z<|Tw (e:=59) (m:=5) h w Z Z Z Z (fun bi a8 ao a9 ap=>?_);obtain rfl:=ap;refine dy ao Z Z Z (k:=0) O (lb Z) (fun _=>Z) (fun bk a0=>?_);refine Y Z (TH ar a0 Z Z) Z<|So 4 Z<|aD Z (fun S=>?_) (fun S=>?_)
  ·refine ah Z<|SY 3 Z<|Tw (e:=59) (m:=5) h w Z Z Z Z (fun a3 ac A am B=>?_);obtain rfl:=B;refine dy A Z Z Z (k:=3) O (lb Z) (fun _=>Z) (fun a4 C=>?_);refine Y Z (TH ar C Z Z) Z<|fe ar Z (bP (e:=2) (m:=1) (z:=[N]) (cs:=[_]) O O O O<|bj Z Z Z Z bF) (fun _=>Z) (fun V b1 ar=>?_);replace ar:=ar.pull (.there .here);replace ar:=ar.pull (.dN<|cX.here (X:=[_]));refine fH (R:=eu) (m:=1) (e:=2) T ar (di (m:=1) Z Z) eu.leaf (by have:=uR (es.take i);rw[lT_] at this;show _+1<=_;omega) Z Z Z Z Z Z Z (fun _=>Z) (fun V u32 Q hO32 ar=>?_);refine SX 2 Z<|aC<|SV 5 Z<|aH ⟨j3-1,(by have:=bc E;omega),oF,i+1,u32,Q,(by have:=bc E;omega),(by rw[qj w,show cN I=true from by unfold cN;rw[F];exact S];exact hO32),Z,cI<|aW (by have:=h.bO;omega),ar⟩
  refine aG<|aC<|SV 5 Z<|aH ⟨j3-1,(by have:=bc E;omega),oF,i+1,u,M,(by have:=bc E;omega),(by rw[qj w,show cN I=false from by unfold cN;rw[F];exact S];simpa using T),Z,cI<|aW (by have:=h.bO;omega),ar⟩
 refine RC 3 Z<|aL<|SW 7 Z ?_;exact aB Z Z ⟨M,by rw[tL_<|bA E] at T;exact T,ar⟩
def Ax (l of_:List db):Bool:=bif b9 (.ofNat of_.length) (.ofNat l.length) then false else bQ (of_.take l.length) l
theorem Na {G:Cx} (W:Plain G) {K:KP} {l of_:List db} {R S:U} (h1:bL K 5 mJ l R) (T:bL K 5 mJ of_ S) {V:aE} {L:Own} (ar:D V K L):bu Tryz.prog G 45 [R,S] V fun v V'=>v= .bool (Ax l of_)/\D V' K L:=by
 refine SQ W Tryz.func45 Z<|Ry 9 Z<|Y Z (TF h1 Z Z Z (e:=59) Z) Z<|vQ 1 Z<|Y Z (TF T Z Z Z (e:=59) Z) Z<|So 3 Z<|aD Z (fun u=>?_) (fun u=>?_)
 ·refine Sn 7 Z ?_;exact aB Z Z ⟨cB (by unfold Ax;rw[u];rfl),ar⟩
 refine Q7 9 Z ?_;obtain⟨LL1,ar,hLL1⟩:=ar.named;refine bf ([4,5]++rg 11 15) (fun j t V=>∃(i:Nat),j+i=l.length/\(∀k,k<i->l[k]?=of_[k]?)/\t.get 5=some (.int .i64 (.ofNat i))/\D V K LL1) (l.length) ⟨0,Z,fun k hk=>absurd hk (nZ_ _),Z,ar⟩ ?_;clear ar;intro X t V an hI;obtain⟨i,hj,z,Q,ar⟩:=hI;subst hLL1;obtain⟨oo,rfl⟩:=an.q1 Q Z;refine Ry 5 Z<|Y Z (TF h1 Z Z Z (e:=59) Z) Z<|So 3 Z<|aD Z (fun w=>?_) (fun w=>?_)
 ·refine Qr 5 Z<|aU (l:=zp [0,1,2,3,4,5,6,7,8]) O O<|S0 2 Z ?_;obtain⟨ap,A,aa⟩:=cK w;refine Tx (e:=59) (m:=5) h1 A Z Z Z Z Z (fun a0 ab E ac F=>?_);obtain rfl:=F;refine ai Z Z (TI ar E Z Z) Z<|S0 2 Z ?_;obtain⟨a1,B⟩:=cL (show i<of_.length from by have:=bA u;omega);refine Tx (e:=59) (m:=5) T B Z Z Z Z Z (fun a2 am I ao M=>?_);obtain rfl:=M;refine ai Z Z (TI ar I Z Z) Z<|ai Z Z (DN (n:=5) (ca:=[_,_,_,_,_]) (cb:=[_,_,_,_,_]) O Z Z Z Z) Z<|Ss 2 Z<|aD Z (fun C=>?_) (fun C=>?_)
  ·refine SW 6 Z<|aK<|aA<|bD<|aK<|aA (?_);exact aB Z Z ⟨cB (by unfold Ax;rw[u];show _=bQ (of_.take l.length) l;rw[eR (i:=i) (by rw[List.getElem?_take,if_pos<|bc w];exact B) A (by have:=db.same.symm.trans (bW C);rw[iW] at this⊢;exact fun e=>this e.symm)]),ar⟩
  refine aG<|aC<|SV 5 Z<|aH ⟨X-1,(by have:=bc w;omega),oF,i+1,(by have:=bc w;omega),iC z A B<|db.same.symm.trans<|bK C,cI<|aW (by have:=h1.bO;omega),ar⟩
 refine RC 3 Z<|aL<|SW 6 Z ?_;exact aB Z Z ⟨cB (by unfold Ax;rw[u];show _=bQ (of_.take l.length) l;rw[dS (i:=i) (by rw[lT_];have:=bA u;omega) (by rw[lT_];have:=bA w;omega) (fun q hq=>by rw[List.getElem?_take];split;exact(z q hq).symm;exact(gN_ oM).symm)]),ar⟩
end Go.Ev
namespace Go.Ev
variable [Env]
def wJ (kind:Int):Bool:=bif H kind 2 then true else bif H kind 4 then true else bif H kind 5 then true else H kind 6
theorem MF {n:Int} (h:wJ n=true):n=2∨n=4∨n=5∨n=6:=by
 grind [wJ,eqv]
section
variable {k:Nat} {x:XI} {s:TS}
theorem LS (h:x.kind=1):e6 k x s=({s with br:=s.br.set x.qY.toNat (jo k s.br x 0),at_:=s.at_+1},true):=by unfold e6;rw[h];rfl
theorem FK (h:x.kind=3):e6 k x s=({s with events:=s.events++[⟨2,x.loc,x.order,0,jo k s.br x 0⟩],at_:=s.at_+1},true):=by unfold e6;rw[h];rfl
theorem FI (h:x.kind=7):e6 k x s=({s with events:=s.events++[⟨4,0,x.order,0,0⟩],at_:=s.at_+1},true):=by unfold e6;rw[h];rfl
theorem IS (h:x.kind=10):e6 k x s=({s with at_:=x.to.toNat},true):=by unfold e6;rw[h];rfl
theorem FJ (h:x.kind=8∨x.kind=9) (h0:H (jo k s.br x 0) 0=false):e6 k x s=({s with at_:=s.at_+1},true):=by
 unfold e6;rcases h with h | h<;>rw[h,h0]<;>rfl
theorem step_block (h:x.kind=8) (h0:H (jo k s.br x 0) 0=true):e6 k x s=({s with fin:=2},false):=by unfold e6;rw[h,h0];rfl
theorem IQ (h:x.kind=9) (h0:H (jo k s.br x 0) 0=true):e6 k x s=({s with fin:=3},false):=by unfold e6;rw[h,h0];rfl
theorem LQ (h:x.kind=11) (h0:H (jo k s.br x 0) 0=true):e6 k x s=({s with at_:=x.to.toNat},true):=by unfold e6;rw[h,h0];rfl
theorem LR (h:x.kind=11) (h0:H (jo k s.br x 0) 0=false):e6 k x s=({s with at_:=s.at_+1},true):=by unfold e6;rw[h,h0];rfl
theorem FH (h:x.kind=12):e6 k x s=({s with fin:=4},false):=by unfold e6;rw[h];rfl
theorem step_done (h:x.kind=13):e6 k x s=({s with fin:=1},false):=by unfold e6;rw[h];rfl
theorem Dw (h:x.kind=2∨x.kind=4∨x.kind=5∨x.kind=6):e6 k x s=({s with asks:=true},false):=by
 unfold e6;rcases h with h | h | h | h<;>rw[h]<;>rfl
theorem zl {i:Nat} {br:List Int}:jo k br x i=((x.exprs.map<|fY br k)[i]?).getD 0:=by unfold jo;simp_all
theorem lF {i:Nat} {br:List Int} {y:Int} (h:(x.exprs.map<|fY br k)[i]?=some y):jo k br x i=y:=by rw[zl,h];rfl
theorem Gj {i:Nat} {br:List Int} (h:(x.exprs.map<|fY br k).length<=i):jo k br x i=0:=by rw[zl,gN_ h];rfl
end
theorem gk {k:Nat} {c:XC} {s:TS} {x:XI} (h:c.ins[s.at_]?=some x):cT k c s=e6 k x s:=by unfold cT;rw[h]
section
variable {k:Nat} {c:XC} {s S:TS} {x:XI} {out:List Nat} {A:List Int} {q j:Nat}
theorem oC (u:gb (ei c) c.ins.length out) (hx:c.ins[s.at_]?=some x) (m:Hk c out s) (hq:out[q]?=some s.at_) (aa:q<j) (he:xA k c A out.length (mE c)=xA k c A j s) (hs:cT k c s=(S,true)):
  Hk c out S/\(∃q',out[q']?=some S.at_/\q'<j-1)/\xA k c A out.length (mE c)=xA k c A (j-1) S:=by
 have h1:=m.step (k:=k) u
 grind [uQ,Nq]
theorem HU (m:fT k c) (w:gb (ei c) c.ins.length out) (u:Hk c out s) (z:s.asks=false) (hq:out[q]?=some s.at_) (aa:q<j) (he:xA k c A out.length (mE c)=xA k c A j s) (B:cT k c s=(S,false)) (C:S.asks=true) {v:Int} (hv:A[s.asked]?=some v):
  Hk c out (hZ k c S v)/\(∃q',out[q']?=some (hZ k c S v).at_/\q'<j-1)/\xA k c A out.length (mE c)=xA k c A (j-1) (hZ k c S v):=by
 have h1:=u.step (k:=k) w;have h2:=(uX (k:=k) m z).1;rw[B] at h1 h2;have ar:S.at_=s.at_:=by grind [sK]
 have hn:=BU (k:=k) h2 C v;rw[ar] at hn;obtain⟨q',h3,h4⟩:=w.yV q _ hq _ hn
 grind [BR,No]
theorem xB (he:xA k c A out.length (mE c)=xA k c A j s) (hj:1<=j) (m:cT k c s=(S,false)) (u:S.asks=true->A[s.asked]?=none):xA k c A out.length (mE c)=S:=by
 rw[he,Pv hj (by rw[m]) (by rw[m];exact u),m]
end
theorem KP.O4 {K:KP} {M:Own} {b:Nat} {o:cD} (h:(b,o)∈M):K.g9 M b o:=.inr h
theorem Nu {K:KP} {b e:Nat} {ro:Bool} {l:List Int} {n:Nat} (m:l.length=n) (hk:K b (.row (l.map<|U.int .i64) e ro)) (hl:n<=1000000):bL K 1 eu l (.slice b 0 n (.known n)):=by
 subst m;refine .inr ⟨b,0,_,_,e,ro,Z,.inr ⟨_,Z,nR_ _⟩,hk,by simp,by omega,fun i x hx=>?_⟩;have:(l.map<|U.int .i64)[0+i*1]?=some (.int .i64 x):=by simp_all
 rw[cu this];rfl
end Go.Ev
namespace Go.Ev
variable [Env]
open Go.Proofs
set_option maxRecDepth 4000
set_option maxHeartbeats 8000000
theorem Nk {br nins:Int} {k kn:Nat} {x:XI} {sh:oo} (j:m7 br nins k x sh=true) (m:oU[kn]?=some sh):x.exprs.length<=2:=by
 have h1:=(jh j).exprs;have u:∀s∈oU,s.exprs<=2:=by decide
 have:=u sh (gB_ m);omega
def tT (m n:Int) (kind:Int):Bool:=bif H kind m then true else H kind n
theorem Bp {m n kind:Int} (h:tT m n kind=true):kind=m∨kind=n:=by
 unfold tT at h;cases h1:H kind m with
 | true=>exact .inl (eqv h1)
 | false=>rw[h1] at h;exact .inr<|eqv h
theorem G8 {m n kind:Int} (h:tT m n kind=false):kind≠m/\kind≠n:=by
 unfold tT at h;cases h1:H kind m with
 | true=>rw[h1] at h;cases h
 | false=>rw[h1] at h;exact⟨Gh.1 h1,Gh.1 h⟩
theorem MD {n:Int} (h:wJ n=false):n≠2/\n≠4/\n≠5/\n≠6:=by
 unfold wJ at h;cases j:H n 2 with
 | true=>rw[j] at h;cases h
 | false=>
 cases h4:H n 4 with
 | true=>rw[j,h4] at h;cases h
 | false=>
 cases h5:H n 5 with
 | true=>rw[j,h4,h5] at h;cases h
 | false=>rw[j,h4,h5] at h;exact⟨Gh.1 j,Gh.1 h4,Gh.1 h5,Gh.1 h⟩
theorem HC {kn:Nat} {n:Int} (B:n= .ofNat kn) (h1:1<=kn) (aa:kn<=13) (C:H n 1=false) (E:wJ n=false) (j:H n 3=false) (m:H n 7=false) (u:tT 8 9 n=false) (w:H n 10=false) (z:H n 11=false) (A:tT 12 13 n=false):False:=by
 have a1:=Gh.1 C;have a3:=Gh.1 j;have a7:=Gh.1 m;have a10:=Gh.1 w;have a11:=Gh.1 z;obtain⟨a8,a9⟩:=G8 u;obtain⟨ab,ac⟩:=G8 A;obtain⟨a2,a4,a5,a6⟩:=MD E;have h2:n=((kn:Nat):Int):=B;omega
def O2 (k:Nat) (c:XC) (R:TS) (K:KP) (L:Own) (v:U) (V':aE):Prop:=∃(K1:KP) (ev:U) (fn:Int) (a:sN) (w7 w8 w9:U),v= .agg [ev,.int .i64 fn,.int .i64 a.kind,.int .i64 a.loc,.int .i64 a.order,.int .i64 a.a,.int .i64 a.b,w7,w8,w9]/\KP.le K K1/\bL K1 5 mJ R.events ev/\(R.asks=true->fn=0/\a=nI k c R)/\(R.asks=false->fn=R.fin/\a=k9)/\cU w8=some [w8]/\iH w7=true/\iH w8=true/\iH w9=true/\cU w7=some [w7]/\cU w9=some [w9]/\D V' K1 L
theorem R6 {G:Cx} (hG:Plain G) {K:KP} {k:Nat} {c:XC} {cv:U} (hi:bL K 6 (j0 K k) c.ins cv) (aa:fT k c) {od:List Nat} (ho:kC c=some od) (hR:gb (ei c) c.ins.length od) {A:List Int} {va:U} (hA:bL K 1 eu A va) (gc:A.length<=100000) {V:aE} {L:Own} (ar:D V K L):
  bu Tryz.prog G 62 [.agg [.int .i64 c.br,cv],va] V (O2 k c (jS k c A) K L):=by
 have cy:c.br= .ofNat c.br.toNat:=by have:=aa.OO;show c.br=((c.br.toNat:Nat):Int);omega
 have e4:c.br.toNat<=16:=by have:=aa.P3;omega
 have hol:=It aa ho;have hlen:=aa.len;have hrun:=Np aa ho hR A;refine SQ hG Tryz.func62 Z<|Sm 2 Z<|kp ar Z (cC Z Z) (fun V b1 ar=>?_);refine kp ar Z (TG (cs:=[.az,N,N,N,N,N,N,N,.az,N])) (fun V b2 ar=>?_);refine RM ar 6 [0,1] Z Z<|fe ar Z (lM (e:=2) (w:=8) (z:=[gZ 0]) O O O O (show _=some (U.int .i64 (.ofNat c.br.toNat)) from cI cy) (show _=some (U.int .i64 (.ofNat c.br.toNat)) from cI cy) oM oM) (fun _=>Z) (fun V b3 ar=>?_);rw[jk (f:=gZ)] at ar;refine Y Z (TA (places:=[(0,1),(1,1),(2,5),(7,1),(8,1),(9,1)]) (zero:=[.az,N,N,N,N,N,N,N,.az,N]) (cs:=[_,_,_,_,_,_,_,_,_,_]) Z) Z<|kp ar Z (TG (cs:=[.az,N,N,N,N,N,N,N,.az,N])) (fun V b4 ar=>?_);refine bZ ar Z (TJ Z Z Z ar.g0 (m:=10) Z Z (cells':=[_,_,_,_,_,_,_,_,_,_]) Z) Z (fun V ar=>?_);refine RD 3 Z (bf (rg 6 8++rg 18 161) (fun j t V=>∃(s:TS) (ev:U) (Me:Own),Hk c od s/\s.asks=false/\s.fin=0/\s.asked<=A.length/\s.events.length+j<=od.length/\(∃q,od[q]?=some s.at_/\q<j)/\xA k c A od.length (mE c)=xA k c A j s/\cZ 5 59 mJ s.events ev Me/\D V K (Me++((b4,.row [ev,N,N,N,N,N,N,.int .i64 (.ofNat s.at_),.slice b3 0 c.br.toNat (.known c.br.toNat),.int .i64 (.ofNat s.asked)] 98 false)::(b3,.row (s.br.map gZ) 2 false)::(b2,.row [.az,N,N,N,N,N,N,N,.az,N] 98 false)::(b1,.row [.int .i64 c.br,cv] 55 false)::L))) (od.length) ⟨mE c,.az,[],LK hR,Z,Z,Nat.zero_le _,(show 0+_<=_ by omega),(gO_ hR.zero).imp fun q hq=>⟨hq,(gA.1 hq).1⟩,Z,cZ.nil,ar⟩ ?_);clear ar;intro j2 t V an hI;obtain⟨s,ev,Me,Q,has,F,ao,ge,d6,he,W,ar⟩:=hI;obtain⟨oo,rfl⟩:=an.q0 Z;refine aJ<|Sm 2 Z ?_;obtain⟨q,hq,ab⟩:=d6;have hatn:=Q.lt hR;obtain⟨x,hx⟩:=cL hatn;have hrx:=aa.right x (gB_ hx);obtain⟨kn,sh,a5,d7,c0,d8,c1⟩:=kG hrx;have hall:=(jh c1).all;have hql:=(gA.1 hq).1;have hrl:=Q.br;have d9:c.br<=s.br.length:=by rw[hrl];have:=aa.OO;omega
 refine Y Z (TC 1 Z) Z<|Y Z (TD Z ar.bR.pop.pop.pop.g0 Z) Z<|Y Z (TC 7 Z) Z<|Y Z (TD Z ar.bR.g0 Z) Z<|Tw (e:=88) (m:=6) hi hx Z Z Z Z (fun gl e5 c2 e7 bs=>?_);have hr22raw:=bs;have hr22':=bs;obtain⟨ap,rfl,a1⟩:=hr22';refine Y Z (TI ar c2 Z Z) Z<|kp ar Z (TG (cs:=[N,N,N,N,N,.az])) (fun V b5 ar=>?_);refine bZ ar Z (TJ Z Z Z ar.g0 (m:=6) Z (aj Z<|aj Z<|aj Z<|aj Z<|aj Z<|aj a1.leaf.2 aI) (cells':=[_,_,_,_,_,_]) Z) Z (fun V ar=>?_);refine Q8 14 Z (bf ([7,8]++rg 24 18) (fun j t V=>∃(i:Nat) (u:U) (M:Own),j+i=x.exprs.length/\cZ 1 2 eu ((x.exprs.take i).map<|fY s.br k) u M/\t.get 7=some (u)/\t.get 8=some (.int .i64 (.ofNat i))/\D V K (M++((b5,.row [.int .i64 x.kind,.int .i64 x.qY,.int .i64 x.loc,.int .i64 x.order,.int .i64 x.to,ap] 88 false)::(Me++((b4,.row [ev,N,N,N,N,N,N,.int .i64 (.ofNat s.at_),.slice b3 0 c.br.toNat (.known c.br.toNat),.int .i64 (.ofNat s.asked)] 98 false)::(b3,.row (s.br.map gZ) 2 false)::(b2,.row [.az,N,N,N,N,N,N,N,.az,N] 98 false)::(b1,.row [.int .i64 c.br,cv] 55 false)::L))))) (x.exprs.length) ⟨0,.az,[],Z,cZ.nil,Z,Z,ar⟩ ?_);clear ar;intro j5 t V an hI;obtain⟨i,u,M,gr,hO7,ee,el,ar⟩:=hI;obtain⟨oo,rfl⟩:=an.q2 ee el Z;refine RJ ar 5 [5] Z Z<|Y Z (TD Z ar.bR.g0 Z) Z<|Y Z (TF a1 Z Z Z (e:=91) Z) Z<|So 3 Z<|aD Z (fun a6=>?_) (fun a6=>?_)
 ·refine Q7 4 Z<|aU (l:=zp [0,1,2,3,4,5,6,7,8,9,10,11]) O O<|S3 ar 2 [5] Z Z<|ai Z Z (TD Z ar.bR.g0 Z) Z<|wQ 1 Z ?_;obtain⟨gs,a7,e8⟩:=cK a6;refine Tx (e:=91) (m:=4) a1 a7 Z Z Z Z Z (fun gt e9 c3 fd bt=>?_);obtain⟨gv,g4,g5,g6,rfl,fi⟩:=bt.shape;refine ai Z Z (TI ar c3 Z Z) Z<|ai Z Z (TC 8 Z) Z<|ai Z Z (TD Z ar.bR.pop.bR.g0 Z) Z ?_;have ca:cX [(b3,cD.row (s.br.map gZ) 2 false)] (M++((b5,.row [.int .i64 x.kind,.int .i64 x.qY,.int .i64 x.loc,.int .i64 x.order,.int .i64 x.to,ap] 88 false)::(Me++((b4,.row [ev,N,N,N,N,N,N,.int .i64 (.ofNat s.at_),.slice b3 0 c.br.toNat (.known c.br.toNat),.int .i64 (.ofNat s.asked)] 98 false)::(b3,.row (s.br.map gZ) 2 false)::(b2,.row [.az,N,N,N,N,N,N,N,.az,N] 98 false)::(b1,.row [.int .i64 c.br,cv] 55 false)::L)))) _:=(.dN (.there (.dN (.there<|cX.here (X:=[_])))));refine eB Z Z (TB Z Z Z) (fun _=>Z) (Hs (ar.pull ca)<|Nd hG d9 (Nu hrl (KP.O4<|List.mem_singleton.2 Z) oM) _ _ _ (eH.mono (KP.dj _ _) bt) (hall _<|gB_ a7) _ _ (ar.pull ca).keeps) (fun V ar=>?_);replace ar:=ar.push ca;refine⟨ba,?_⟩;refine qc ar Z Z (bP (e:=2) (m:=1) (z:=[N]) (cs:=[_]) O O O O<|bj Z Z Z Z bF) (fun _=>Z) (fun V b6 ar=>?_);replace ar:=ar.pull (.there .here);replace ar:=ar.pull (.dN<|cX.here (X:=[_]));refine mu (R:=eu) (m:=1) (e:=2) hO7 ar (di (m:=1) Z Z) eu.leaf (by rw[lM_,lT_];have:=Nk c1 d8;show _+1<=_;omega) Z Z Z Z Z Z Z Z (fun _=>Z) (fun V em en hO41 ar=>?_);refine⟨ba,?_⟩;refine SZ 2 Z<|aC<|SV 5 Z<|aH ⟨j5-1,(by have:=bc a6;omega),oF,i+1,em,en,(by have:=bc a6;omega),(by rw[lP a7];exact hO41),Z,cI<|aW (by have:=a1.bO;omega),ar⟩
 refine RC 3 Z<|aL<|Sm 2 Z ?_;have hl7:=hO7.jE (K:=K);rw[tL_<|bA a6] at hl7;replace ar:=ar.keeps;have hA7:=hA.mono (KP.dj K M) (fun _ _ h=>h);have g7:(x.exprs.map<|fY s.br k).length=x.exprs.length:=lM_ ..;refine Y Z (TC 7 Z) Z<|Y Z (TD Z ar.pop.bR.g0 Z) Z<|Y Z (ax Z Z (show _=some (U.int .i64 (.ofNat (s.at_+1))) from cI (aW oM))) Z<|Rb ar 8 [0,0] Z Z<|RD 3 Z<|Sm 2 Z<|ky Z (ax Z Z Z) (fun a8=>?_) (fun a8=>?_)
 ·refine So 4 Z<|aU (l:=zp [0,1,2,3,4,5,6,7,8]) O O ?_;obtain⟨e0,a0,_⟩:=wm hrx (show x.kind= .ofNat 1 from eqv a8) (by simp);have C:(x.exprs.map<|fY s.br k)[0]?=some (fY s.br k e0):=by rw[gM_,a0];rfl
  obtain⟨r,ac,hr⟩:=Lx hrx (show x.kind= .ofNat 1 from eqv a8) (by simp);have a9:r<s.br.length:=by omega
  refine ai Z Z (TC 8 Z) Z<|ai Z Z (TD Z ar.pop.bR.g0 Z) Z<|S3 ar 3 [1,0] Z Z<|Tx (e:=2) (m:=1) hl7 C Z Z Z Z Z (fun ha fk c4 fs c5=>?_);obtain rfl:=c5;refine ai Z Z (TH ar c4 Z Z) Z (ai Z Z (fS (e:=2) (m:=1) O O Z (show _=some (U.int .i64 (.ofNat r)) from cI ac) oM) Z (gD ar (.there (.dN (.there .here))) Z Z (aR Z Z Z ar.pop.bR.pop.g0 (m:=1) O Z (by rw[lM_];omega) Z (cells':=((s.br).set r<|fY s.br k e0).map (gZ)) (eK (f:=gZ) (v:=(fY s.br k e0)) a9 (by first | omega | rfl))) Z (fun V ar=>?_)));refine⟨ba,?_⟩;refine aX<|aC<|ad<|ah Z ?_;replace ar:=ar.pull (.there .here);replace ar:=ar.sub (ec (.cons _ (.cons_cons _ (.cons_cons _ (.cons_cons _ (.cons_cons _ (.refl _)))))));refine S2 ar 2 [7] Z Z<|dX ar (.dN .here) Z (TJ Z Z Z ar.bR.g0 (m:=1) Z Z (cells':=[_,_,_,_,_,_,_,_,_,_]) Z) Z (fun V ar=>?_);refine af<|aC ?_;replace ar:=ar.weaken (KP.dj _ _);obtain⟨g1,g2,g3⟩:=oC hR hx Q hq ab he (show cT k c s=(({s with br:=s.br.set r (fY s.br k e0),at_:=s.at_+1}:TS),true) from by rw[gk hx,LS<|eqv a8,ac,lF C];rfl);refine aH ⟨j2-1,oM,oF,({s with br:=s.br.set r (fY s.br k e0),at_:=s.at_+1}:TS),ev,Me,g1,has,F,ao,(show s.events.length+_<=_ by omega),g2,g3,W,ar⟩
 refine So 4 Z ?_;refine iA (rg 57 5) (fun t V=>∃(q:Bool),q=wJ x.kind/\t.get 57=some (.bool q)/\D V (K.g9 M) ((b5,.row [.int .i64 x.kind,.int .i64 x.qY,.int .i64 x.loc,.int .i64 x.order,.int .i64 x.to,ap] 88 false)::(Me++((b4,.row [ev,N,N,N,N,N,N,.int .i64 (.ofNat s.at_),.slice b3 0 c.br.toNat (.known c.br.toNat),.int .i64 (.ofNat s.asked)] 98 false)::(b3,.row (s.br.map gZ) 2 false)::(b2,.row [.az,N,N,N,N,N,N,N,.az,N] 98 false)::(b1,.row [.int .i64 c.br,cv] 55 false)::L)))) ?_ ?_
 ·refine Sm 4 Z<|So 2 Z<|aD Z (fun S=>?_) (fun S=>?_)
  ·refine aG ?_;exact⟨Z,oP Z<|oP Z<|oR _ _,_,(by unfold wJ;simp only[S,ct,cf]<;>rfl),Z,ar⟩
  refine Sm 2 Z<|ky Z (ax Z Z Z) (fun bb=>?_) (fun bb=>?_)
  ·refine So 4 Z<|aG ?_;exact⟨Z,oP Z<|oP Z<|oP Z<|oP Z<|oR _ _,_,(by unfold wJ;simp only[S,bb,ct,cf]<;>rfl),Z,ar⟩
  refine RE 6 Z<|ky Z (ax Z Z Z) (fun bp=>?_) (fun bp=>?_)
  ·refine So 4 Z<|aG ?_;exact⟨Z,oF,_,(by unfold wJ;simp only[S,bb,bp,ct,cf]<;>rfl),Z,ar⟩
  refine Sp 5 Z<|ky Z (ax Z Z Z) (fun cb=>?_) (fun cb=>?_)
  ·refine SX 2 Z ?_;exact⟨Z,oF,_,(by unfold wJ;simp only[S,bb,bp,cb,ct,cf]<;>rfl),Z,ar⟩
  refine SX 2 Z ?_;exact⟨Z,oF,_,(by unfold wJ;simp only[S,bb,bp,cb,ct,cf]<;>rfl),Z,ar⟩
 clear ar;intro t V an hI;obtain⟨hd,c7,c8,ar⟩:=hI;obtain⟨oo,rfl⟩:=an.q1 c8 Z;subst c7;refine aD Z (fun S=>?_) (fun S=>?_)
 ·refine Sm 2 Z ?_;have hk57:=MF S;refine S2 ar 6 [0,0,2,0,3,0] Z Z (Y Z (TA (places:=[(0,1),(1,1),(2,1),(3,1),(4,1)]) (zero:=[N,N,N,N,N]) (cs:=[_,_,_,_,_]) Z) Z<|kp ar Z (TG (cs:=[N,N,N,N,N])) (fun V b6 ar=>?_));refine bZ ar Z (TJ Z Z Z ar.g0 (m:=5) Z Z (cells':=[_,_,_,_,_]) Z) Z (fun V ar=>?_);refine So 2 Z ?_;refine iA (rg 69 7) (fun t V=>∃(z1:Int),z1=jo k s.br x 0/\D V (K.g9 M) ((b6,.row [.int .i64 x.kind,.int .i64 x.loc,.int .i64 x.order,.int .i64 z1,N] 66 false)::((b5,.row [.int .i64 x.kind,.int .i64 x.qY,.int .i64 x.loc,.int .i64 x.order,.int .i64 x.to,ap] 88 false)::(Me++((b4,.row [ev,N,N,N,N,N,N,.int .i64 (.ofNat s.at_),.slice b3 0 c.br.toNat (.known c.br.toNat),.int .i64 (.ofNat s.asked)] 98 false)::(b3,.row (s.br.map gZ) 2 false)::(b2,.row [.az,N,N,N,N,N,N,N,.az,N] 98 false)::(b1,.row [.int .i64 c.br,cv] 55 false)::L))))) ?_ ?_
  ·refine Sm 3 Z<|Y Z (TF hl7 Z Z Z (e:=2) Z) Z<|So 3 Z<|aD Z (fun cc=>?_) (fun cc=>?_)
   ·refine ah Z<|vQ 1 Z ?_;obtain⟨hg,bv⟩:=cL (show 0<(x.exprs.map<|fY s.br k).length from bc (a:=0) cc);refine Tw (e:=2) (m:=1) hl7 bv Z Z Z Z (fun hh fv c9 f0 dd=>?_);obtain rfl:=dd;refine Y Z (TH ar c9 Z Z) Z<|Y Z (TC 3 Z) Z<|bZ ar Z (TJ Z Z Z ar.g0 (m:=1) Z Z (cells':=[_,_,_,_,_]) Z) Z (fun V ar=>?_);refine af ?_;exact⟨Z,oF,_,(lF bv).symm,ar⟩
   refine aG ?_;exact⟨Z,oP Z<|oP Z<|oP Z<|oR _ _,_,(Gj<|bA (a:=0) cc).symm,ar⟩
  clear ar;intro t V an hI;obtain⟨z1,df,ar⟩:=hI;obtain⟨oo,rfl⟩:=an.q0 Z;refine iA (rg 76 7) (fun t V=>∃(z2:Int),z2=jo k s.br x 1/\D V (K.g9 M) ((b6,.row [.int .i64 x.kind,.int .i64 x.loc,.int .i64 x.order,.int .i64 z1,.int .i64 z2] 66 false)::((b5,.row [.int .i64 x.kind,.int .i64 x.qY,.int .i64 x.loc,.int .i64 x.order,.int .i64 x.to,ap] 88 false)::(Me++((b4,.row [ev,N,N,N,N,N,N,.int .i64 (.ofNat s.at_),.slice b3 0 c.br.toNat (.known c.br.toNat),.int .i64 (.ofNat s.asked)] 98 false)::(b3,.row (s.br.map gZ) 2 false)::(b2,.row [.az,N,N,N,N,N,N,N,.az,N] 98 false)::(b1,.row [.int .i64 c.br,cv] 55 false)::L))))) ?_ ?_
  ·refine Sm 3 Z<|Y Z (TF hl7 Z Z Z (e:=2) Z) Z<|So 3 Z<|aD Z (fun ce=>?_) (fun ce=>?_)
   ·refine ah Z<|vQ 1 Z ?_;obtain⟨hn,bw⟩:=cL (show 1<(x.exprs.map<|fY s.br k).length from bc (a:=1) ce);refine Tw (e:=2) (m:=1) hl7 bw Z Z Z Z (fun hs f1 dl f2 dm=>?_);obtain rfl:=dm;refine Y Z (TH ar dl Z Z) Z<|Y Z (TC 4 Z) Z<|bZ ar Z (TJ Z Z Z ar.g0 (m:=1) Z Z (cells':=[_,_,_,_,_]) Z) Z (fun V ar=>?_);refine af ?_;exact⟨Z,oF,_,(lF bw).symm,ar⟩
   refine aG ?_;exact⟨Z,oP Z<|oP Z<|oP Z<|oR _ _,_,(Gj<|bA (a:=1) ce).symm,ar⟩
  clear ar;intro t V an hI;obtain⟨z2,dr,ar⟩:=hI;obtain⟨oo,rfl⟩:=an.q0 Z;refine RJ ar 4 [9] Z Z<|Y Z (TD Z ar.pop.pop.bR.g0 Z) Z<|vQ 1 Z<|Y Z (TF hA7 Z Z Z (e:=2) Z) Z<|So 3 Z<|aD Z (fun bq=>?_) (fun bq=>?_)
  ·refine Sm 2 Z<|Y Z (TE Z ar.g0 (n:=5) (vs:=[_,_,_,_,_]) Z) Z<|Y Z (TC 2 Z) Z<|dX ar (.there (.there (.dN .here))) Z (TJ Z Z Z ar.pop.pop.bR.g0 (m:=5) Z Z (cells':=[_,_,_,_,_,_,_,_,_,_]) Z) Z (fun V ar=>?_);refine RE 4 Z<|Y Z (TE Z ar.pop.pop.bR.g0 (n:=10) (vs:=[_,_,_,_,_,_,_,_,_,_]) Z) Z ?_;refine dX ar (.there (.there (.dN (.there (.there .here))))) Z (TJ Z Z Z ar.pop.pop.bR.pop.pop.g0 (m:=10) Z (aj W.leaf.2 Z) (cells':=[_,_,_,_,_,_,_,_,_,_]) Z) Z (fun V ar=>?_);refine Sr 3 Z<|aA<|aK<|aA<|aK<|bD<|aK (?_);subst df;subst dr;have B:jS k c A=({s with asks:=true}:TS):=hrun.symm.trans (xB he oM (show cT k c s=(({s with asks:=true}:TS),false) from by rw[gk hx];exact Dw hk57) (fun _=>gN_ (by have:=iJ_ (eqv bq);omega)));have hfinal:=(ar.sub (show List.Sublist (Me++L) _ from(.cons _ (.cons _<|ec (.cons _ (.cons _ (.cons _ (.cons _ (.refl _))))))))).keeps;exact eM Z Z ar.pop.pop.bR.pop.pop.g0 (m:=10) O Z ⟨_,_,0,(Ej k x s.br),_,_,_,Z,KP.le_trans (KP.dj _ _)<|KP.dj _ _,(by rw[B];exact W.jE),(by rw[B];exact(fun _=>⟨Z,by show _=nI k c {s with asks:=true};unfold nI;rw[show c.ins[({s with asks:=true}:TS).at_]?=some x from hx]⟩)),(by rw[B];exact(fun h=>by cases h)),Z,Z,Z,Z,Z,Z,hfinal⟩
  refine RK ar 6 [9] Z Z<|Y Z (TD Z ar.pop.pop.bR.g0 Z) Z ?_;have ht:s.asked≠A.length:=fun e=>by rw[e,dL] at bq;cases bq
  obtain⟨am,b0⟩:=cL (show s.asked<A.length by omega);refine Tw (e:=2) (m:=1) hA7 b0 Z Z Z Z (fun hu f3 ds f4 dx=>?_);obtain rfl:=dx;refine Y Z (TH ar ds Z Z) Z<|RM ar 6 [9] Z Z<|Y Z (TD Z ar.pop.pop.bR.g0 Z) Z<|Y Z (ax Z Z (show _=some (U.int .i64 (.ofNat (s.asked+1))) from cI (aW oM))) Z<|Y Z (TC 9 Z) Z<|dX ar (.there (.there (.dN .here))) Z (TJ Z Z Z ar.pop.pop.bR.g0 (m:=1) Z Z (cells':=[_,_,_,_,_,_,_,_,_,_]) Z) Z (fun V ar=>?_);refine RE 4 Z ?_;subst df;subst dr;refine Y Z (TE Z ar.g0 (n:=5) (vs:=[_,_,_,_,_]) Z) Z<|vQ 1 Z<|bz Z (TB Z Z Z) (fun _=>Z) (JG hG (Ej k x s.br) _ ar) (fun V ar=>?_);refine SY 3 Z<|kp ar Z (TG (cs:=[N,N,N,N,N])) (fun V b7 ar=>?_);refine bZ ar Z (TJ Z Z Z ar.g0 (m:=5) Z Z (cells':=[_,_,_,_,_]) Z) Z (fun V ar=>?_);refine RM ar 6 [0] Z Z<|Y Z (TD Z ar.pop.pop.pop.bR.g0 Z) Z<|Y Z (TE Z ar.g0 (n:=5) (vs:=[_,_,_,_,_]) Z) Z<|fe ar Z (bP (e:=59) (m:=5) (z:=[N,N,N,N,N]) (cs:=[_,_,_,_,_]) O O O O<|bj Z Z Z Z bF) (fun _=>Z) (fun V b8 ar=>?_);replace ar:=ar.pull (.there (.there (.there (.there .here))));replace ar:=ar.pull (.dN<|cX.here (X:=[_]));refine fH (R:=mJ) (m:=5) (e:=59) W ar (di (m:=5) Z (show mJ (ea (Ej k x s.br) am) _ from Z)) mJ.leaf (by show _+1<=_;omega) Z Z Z Z Z Z Z (fun _=>Z) (fun V d0 d1 hO110 ar=>?_);refine Y Z (TC 0 Z) Z<|dX ar (.dN (.there (.there (.there .here)))) Z (aR Z Z hO110.leaf.1 ar.bR.pop.pop.pop.g0 (m:=1) O Z (lb Z) (aj hO110.leaf.2 aI) (cells':=[_,_,_,_,_,_,_,_,_,_]) Z) Z (fun V ar=>?_);refine Sp 3 Z ?_;obtain⟨r,ac,hr⟩:=Lx hrx a5 (by rcases hk57 with h | h | h | h<;>(have h2:((kn:Nat):Int)=_:=a5.symm.trans h;omega));have a9:r<s.br.length:=by omega
  refine Y Z (TC 8 Z) Z (Y Z (TD Z ar.bR.pop.pop.pop.g0 Z) Z (Y Z (TC 1 Z) Z (Y Z (TD Z ar.bR.pop.pop.g0 Z) Z (vQ 1 Z (Y Z (fS (e:=2) (m:=1) O O Z (show _=some (U.int .i64 (.ofNat r)) from cI ac) oM) Z (dX ar (.dN (.there (.there (.there (.there .here))))) Z (aR Z Z Z ar.bR.pop.pop.pop.pop.g0 (m:=1) O Z (by rw[lM_];omega) Z (cells':=((s.br).set r am).map (gZ))<|eK (f:=gZ) (v:=am) a9 (by first | omega | rfl)) Z (fun V ar=>?_)))))));refine af<|aC<|ad<|ah Z ?_;replace ar:=ar.sub (ec (.cons _ (.cons _ (.cons _ (.cons_cons _ (.cons_cons _ (.cons_cons _ (.cons_cons _ (.refl _)))))))));refine S2 ar 2 [7] Z Z<|dX ar (.dN .here) Z (TJ Z Z Z ar.bR.g0 (m:=1) Z Z (cells':=[_,_,_,_,_,_,_,_,_,_]) Z) Z (fun V ar=>?_);refine af<|aC ?_;replace ar:=ar.weaken (KP.dj _ _);have eo:cT k c s=({s with asks:=true},false):=by rw[gk hx];exact Dw hk57
  obtain⟨g1,g2,g3⟩:=HU aa hR Q has hq ab he eo Z b0;have er:nI k c {s with asks:=true}=Ej k x s.br:=by unfold nI;rw[show c.ins[({s with asks:=true}:TS).at_]?=some x from hx]
  have es:Lw c {s with asks:=true}=r:=by unfold Lw;rw[show c.ins[({s with asks:=true}:TS).at_]?=some x from hx];show x.qY.toNat=r;rw[ac];rfl
  have et:hZ k c {s with asks:=true} am=({s with events:=s.events++[ea (Ej k x s.br) am],br:=s.br.set r am,asked:=s.asked+1,at_:=s.at_+1,asks:=false}:TS):=by unfold hZ;rw[er,es]
  rw[et] at g1 g2 g3;refine aH ⟨j2-1,oM,oF,({s with events:=s.events++[ea (Ej k x s.br) am],br:=s.br.set r am,asked:=s.asked+1,at_:=s.at_+1,asks:=false}:TS),d0,d1,g1,Z,F,(show s.asked+1<=A.length by omega),(show(s.events++[_]).length+_<=_ by rw[lA_];show _+1+_<=_;omega),g2,g3,hO110,ar⟩
 refine Sm 2 Z<|ky Z (ax Z Z Z) (fun a2=>?_) (fun a2=>?_)
 ·refine So 4 Z<|aU (l:=zp [0,1,2,3,4,5,6,7,8,9,10,11,12,13]) O O ?_;obtain⟨e0,a0,_⟩:=wm hrx (show x.kind= .ofNat 3 from eqv a2) (by simp);have C:(x.exprs.map<|fY s.br k)[0]?=some (fY s.br k e0):=by rw[gM_,a0];rfl
  refine ai Z Z (TC 0 Z) Z<|ai Z Z (TD Z ar.pop.bR.g0 Z) Z<|S3 ar 5 [2,0,3,0] Z Z<|Tx (e:=2) (m:=1) hl7 C Z Z Z Z Z (fun f5 ex cg eC ch=>?_);obtain rfl:=ch;refine ai Z Z (TH ar cg Z Z) Z (ai Z Z (TA (places:=[(0,1),(1,1),(2,1),(3,1),(4,1)]) (zero:=[N,N,N,N,N]) (cs:=[_,_,_,_,_]) Z) Z<|qc ar Z Z (bP (e:=59) (m:=5) (z:=[N,N,N,N,N]) (cs:=[_,_,_,_,_]) O O O O<|bj Z Z Z Z bF) (fun _=>Z) (fun V b6 ar=>?_));replace ar:=ar.pull (.there (.there .here));replace ar:=ar.pull (.dN<|cX.here (X:=[_]));refine mu (R:=mJ) (m:=5) (e:=59) W ar (di (m:=5) Z (show mJ ⟨2,x.loc,x.order,0,fY s.br k e0⟩ _ from Z)) mJ.leaf (by show _+1<=_;omega) Z Z Z Z Z Z Z Z (fun _=>Z) (fun V d2 d3 hO131 ar=>?_);refine⟨ba,?_⟩;refine ai Z Z (TC 0 Z) Z<|gD ar (.dN (.there .here)) Z Z (aR Z Z hO131.leaf.1 ar.bR.pop.g0 (m:=1) O Z (lb Z) (aj hO131.leaf.2 aI) (cells':=[_,_,_,_,_,_,_,_,_,_]) Z) Z (fun V ar=>?_);refine⟨ba,?_⟩;refine aX<|aC<|ad<|ah Z ?_;replace ar:=ar.sub (ec (.cons _ (.cons_cons _ (.cons_cons _ (.cons_cons _ (.cons_cons _ (.refl _)))))));refine S2 ar 2 [7] Z Z<|dX ar (.dN .here) Z (TJ Z Z Z ar.bR.g0 (m:=1) Z Z (cells':=[_,_,_,_,_,_,_,_,_,_]) Z) Z (fun V ar=>?_);refine af<|aC ?_;replace ar:=ar.weaken (KP.dj _ _);obtain⟨g1,g2,g3⟩:=oC hR hx Q hq ab he (show cT k c s=(({s with events:=s.events++[⟨2,x.loc,x.order,0,fY s.br k e0⟩],at_:=s.at_+1}:TS),true) from by rw[gk hx,FK<|eqv a2,lF C]);refine aH ⟨j2-1,oM,oF,({s with events:=s.events++[⟨2,x.loc,x.order,0,fY s.br k e0⟩],at_:=s.at_+1}:TS),d2,d3,g1,has,F,ao,(show(s.events++[_]).length+_<=_ by rw[lA_];show _+1+_<=_;omega),g2,g3,hO131,ar⟩
 refine RE 6 Z<|ky Z (ax Z Z Z) (fun bd=>?_) (fun bd=>?_)
 ·refine Sp 5 Z (Y Z (TC 0 Z) Z (Y Z (TD Z ar.pop.bR.g0 Z) Z (S2 ar 2 [3,0] Z Z (Y Z (TA (places:=[(0,1),(1,1),(2,1),(3,1),(4,1)]) (zero:=[N,N,N,N,N]) (cs:=[_,_,_,_,_]) Z) Z<|fe ar Z (bP (e:=59) (m:=5) (z:=[N,N,N,N,N]) (cs:=[_,_,_,_,_]) O O O O<|bj Z Z Z Z bF) (fun _=>Z) (fun V b6 ar=>?_)))));replace ar:=ar.pull (.there (.there .here));replace ar:=ar.pull (.dN<|cX.here (X:=[_]));refine fH (R:=mJ) (m:=5) (e:=59) W ar (di (m:=5) Z (show mJ ⟨4,0,x.order,0,0⟩ _ from Z)) mJ.leaf (by show _+1<=_;omega) Z Z Z Z Z Z Z (fun _=>Z) (fun V d4 d5 hO141 ar=>?_);refine Y Z (TC 0 Z) Z<|dX ar (.dN (.there .here)) Z (aR Z Z hO141.leaf.1 ar.bR.pop.g0 (m:=1) O Z (lb Z) (aj hO141.leaf.2 aI) (cells':=[_,_,_,_,_,_,_,_,_,_]) Z) Z (fun V ar=>?_);refine af<|aC<|ad<|ah Z ?_;replace ar:=ar.sub (ec (.cons _ (.cons_cons _ (.cons_cons _ (.cons_cons _ (.cons_cons _ (.refl _)))))));refine S2 ar 2 [7] Z Z<|dX ar (.dN .here) Z (TJ Z Z Z ar.bR.g0 (m:=1) Z Z (cells':=[_,_,_,_,_,_,_,_,_,_]) Z) Z (fun V ar=>?_);refine af<|aC ?_;replace ar:=ar.weaken (KP.dj _ _);obtain⟨g1,g2,g3⟩:=oC hR hx Q hq ab he (show cT k c s=(({s with events:=s.events++[⟨4,0,x.order,0,0⟩],at_:=s.at_+1}:TS),true) from by rw[gk hx,FI<|eqv bd]);refine aH ⟨j2-1,oM,oF,({s with events:=s.events++[⟨4,0,x.order,0,0⟩],at_:=s.at_+1}:TS),d4,d5,g1,has,F,ao,(show(s.events++[_]).length+_<=_ by rw[lA_];show _+1+_<=_;omega),g2,g3,hO141,ar⟩
 refine So 4 Z ?_;refine iA [143,144,145] (fun t V=>∃(q:Bool),q=tT 8 9 x.kind/\t.get 143=some (.bool q)/\D V (K.g9 M) ((b5,.row [.int .i64 x.kind,.int .i64 x.qY,.int .i64 x.loc,.int .i64 x.order,.int .i64 x.to,ap] 88 false)::(Me++((b4,.row [ev,N,N,N,N,N,N,.int .i64 (.ofNat s.at_),.slice b3 0 c.br.toNat (.known c.br.toNat),.int .i64 (.ofNat s.asked)] 98 false)::(b3,.row (s.br.map gZ) 2 false)::(b2,.row [.az,N,N,N,N,N,N,N,.az,N] 98 false)::(b1,.row [.int .i64 c.br,cv] 55 false)::L)))) ?_ ?_
 ·refine Sm 4 Z<|So 2 Z<|aD Z (fun E=>?_) (fun E=>?_)
  ·refine aG ?_;exact⟨Z,oP Z<|oP Z<|oR _ _,_,(by unfold tT;simp only[E,ct,cf]<;>rfl),Z,ar⟩
  refine ah Z<|ky Z (ax Z Z Z) (fun be=>?_) (fun be=>?_)
  ·refine SX 2 Z ?_;exact⟨Z,oP Z<|oP Z<|oP Z<|oP Z<|oR _ _,_,(by unfold tT;simp only[E,be,ct,cf]<;>rfl),Z,ar⟩
  refine SX 2 Z ?_;exact⟨Z,oP Z<|oP Z<|oP Z<|oP Z<|oR _ _,_,(by unfold tT;simp only[E,be,ct,cf]<;>rfl),Z,ar⟩
 clear ar;intro t V an hI;obtain⟨f6,ci,cj,ar⟩:=hI;obtain⟨oo,rfl⟩:=an.q1 cj Z;subst ci;refine aD Z (fun E=>?_) (fun E=>?_)
 ·refine Sm 2 Z ?_;have hk143:=Bp E;obtain⟨e0,a0,_⟩:=wm hrx a5 (by rcases hk143 with h | h<;>(have h2:((kn:Nat):Int)=_:=a5.symm.trans h;omega));have C:(x.exprs.map<|fY s.br k)[0]?=some (fY s.br k e0):=by rw[gM_,a0];rfl
  refine vQ 1 Z<|Tw (e:=2) (m:=1) hl7 C Z Z Z Z (fun f7 eS ck eT cn=>?_);obtain rfl:=cn;refine Y Z (TH ar ck Z Z) Z<|So 3 Z<|aD Z (fun a3=>?_) (fun a3=>?_)
  ·refine Sm 2 Z<|Y Z (TC 1 Z) Z<|dX ar (.there (.dN .here)) Z (TJ Z Z Z ar.pop.bR.g0 (m:=1) Z Z (cells':=[_,_,_,_,_,_,_,_,_,_]) Z) Z (fun V ar=>?_);refine Rb ar 8 [0,0] Z Z<|So 2 Z<|aD Z (fun bi=>?_) (fun bi=>?_)
   ·refine S1 ar 2 [1] Z Z<|dX ar (.there (.dN .here)) Z (TJ Z Z Z ar.pop.bR.g0 (m:=1) Z Z (cells':=[_,_,_,_,_,_,_,_,_,_]) Z) Z (fun V ar=>?_);refine RE 4 Z<|Y Z (TE Z ar.pop.bR.g0 (n:=10) (vs:=[_,_,_,_,_,_,_,_,_,_]) Z) Z<|dX ar (.there (.dN (.there (.there .here)))) Z (TJ Z Z Z ar.pop.bR.pop.pop.g0 (m:=10) Z (aj W.leaf.2 Z) (cells':=[_,_,_,_,_,_,_,_,_,_]) Z) Z (fun V ar=>?_);refine Sr 3 Z<|aK<|aA<|aK<|bD<|aK (?_);have B:jS k c A=({s with fin:=3}:TS):=hrun.symm.trans (xB he oM (show cT k c s=(({s with fin:=3}:TS),false) from by rw[gk hx,IQ (eqv bi) (by rw[lF C];exact a3)]) (fun h=>by rw[show({s with fin:=3}:TS).asks=s.asks from Z,has] at h;cases h));have hfinal:=(ar.sub (show List.Sublist (Me++L) _ from(.cons _<|ec (.cons _ (.cons _ (.cons _ (.cons _ (.refl _)))))))).keeps;exact eM Z Z ar.pop.bR.pop.pop.g0 (m:=10) O Z ⟨_,_,3,k9,_,_,_,Z,KP.le_trans (KP.dj _ _)<|KP.dj _ _,(by rw[B];exact W.jE),(by rw[B];exact(fun h=>by rw[show({s with fin:=3}:TS).asks=s.asks from Z,has] at h;cases h)),(by rw[B];exact(fun _=>⟨Z,Z⟩)),Z,Z,Z,Z,Z,Z,hfinal⟩
   refine RB 4 Z<|Y Z (TE Z ar.pop.bR.g0 (n:=10) (vs:=[_,_,_,_,_,_,_,_,_,_]) Z) Z<|dX ar (.there (.dN (.there (.there .here)))) Z (TJ Z Z Z ar.pop.bR.pop.pop.g0 (m:=10) Z (aj W.leaf.2 Z) (cells':=[_,_,_,_,_,_,_,_,_,_]) Z) Z (fun V ar=>?_);refine Sr 3 Z<|aK<|aA<|aK<|bD<|aK (?_);have B:jS k c A=({s with fin:=2}:TS):=hrun.symm.trans (xB he oM (show cT k c s=(({s with fin:=2}:TS),false) from by rw[gk hx,step_block ((Bp E).resolve_right<|Gh.1 bi) (by rw[lF C];exact a3)]) (fun h=>by rw[show({s with fin:=2}:TS).asks=s.asks from Z,has] at h;cases h));have hfinal:=(ar.sub (show List.Sublist (Me++L) _ from(.cons _<|ec (.cons _ (.cons _ (.cons _ (.cons _ (.refl _)))))))).keeps;exact eM Z Z ar.pop.bR.pop.pop.g0 (m:=10) O Z ⟨_,_,2,k9,_,_,_,Z,KP.le_trans (KP.dj _ _)<|KP.dj _ _,(by rw[B];exact W.jE),(by rw[B];exact(fun h=>by rw[show({s with fin:=2}:TS).asks=s.asks from Z,has] at h;cases h)),(by rw[B];exact(fun _=>⟨Z,Z⟩)),Z,Z,Z,Z,Z,Z,hfinal⟩
  refine aG<|aC<|ad<|ah Z ?_;replace ar:=ar.pull (.there .here);replace ar:=ar.sub (ec (.cons _ (.cons_cons _ (.cons_cons _ (.cons_cons _ (.cons_cons _ (.refl _)))))));refine S2 ar 2 [7] Z Z<|dX ar (.dN .here) Z (TJ Z Z Z ar.bR.g0 (m:=1) Z Z (cells':=[_,_,_,_,_,_,_,_,_,_]) Z) Z (fun V ar=>?_);refine af<|aC ?_;replace ar:=ar.weaken (KP.dj _ _);obtain⟨g1,g2,g3⟩:=oC hR hx Q hq ab he (show cT k c s=(({s with at_:=s.at_+1}:TS),true) from by rw[gk hx,FJ hk143 (by rw[lF C];exact a3)]);refine aH ⟨j2-1,oM,oF,({s with at_:=s.at_+1}:TS),ev,Me,g1,has,F,ao,(show s.events.length+_<=_ by omega),g2,g3,W,ar⟩
 refine Sm 2 Z<|ky Z (ax Z Z Z) (fun a4=>?_) (fun a4=>?_)
 ·refine Sp 5 Z ?_;obtain⟨to,bk,_⟩:=OS hrx (show x.kind= .ofNat 10 from eqv a4) (by simp);refine S2 ar 2 [4,0] Z Z<|Y Z (ak (show _=some (U.int .i64 (.ofNat to)) from cI bk)) Z<|af<|aC<|ad<|ah Z ?_;replace ar:=ar.pull (.there .here);replace ar:=ar.sub (ec (.cons _ (.cons_cons _ (.cons_cons _ (.cons_cons _ (.cons_cons _ (.refl _)))))));refine S2 ar 2 [7] Z Z<|dX ar (.dN .here) Z (TJ Z Z Z ar.bR.g0 (m:=1) Z Z (cells':=[_,_,_,_,_,_,_,_,_,_]) Z) Z (fun V ar=>?_);refine af<|aC ?_;replace ar:=ar.weaken (KP.dj _ _);obtain⟨g1,g2,g3⟩:=oC hR hx Q hq ab he (show cT k c s=(({s with at_:=to}:TS),true) from by rw[gk hx,IS<|eqv a4,bk];rfl);refine aH ⟨j2-1,oM,oF,({s with at_:=to}:TS),ev,Me,g1,has,F,ao,(show s.events.length+_<=_ by omega),g2,g3,W,ar⟩
 refine RE 6 Z<|ky Z (ax Z Z Z) (fun T=>?_) (fun T=>?_)
 ·refine RE 6 Z ?_;obtain⟨e0,a0,_⟩:=wm hrx (show x.kind= .ofNat 11 from eqv T) (by simp);have C:(x.exprs.map<|fY s.br k)[0]?=some (fY s.br k e0):=by rw[gM_,a0];rfl
  obtain⟨to,bk,_⟩:=OS hrx (show x.kind= .ofNat 11 from eqv T) (by simp);refine vQ 1 Z<|Tw (e:=2) (m:=1) hl7 C Z Z Z Z (fun f8 e2 cp e3 cr=>?_);obtain rfl:=cr;refine Y Z (TH ar cp Z Z) Z<|So 3 Z<|aD Z (fun bl=>?_) (fun bl=>?_)
  ·refine S1 ar 3 [4,0] Z Z<|Y Z (ak (show _=some (U.int .i64 (.ofNat to)) from cI bk)) Z<|af<|aC<|ad<|ah Z ?_;replace ar:=ar.pull (.there .here);replace ar:=ar.sub (ec (.cons _ (.cons_cons _ (.cons_cons _ (.cons_cons _ (.cons_cons _ (.refl _)))))));refine S2 ar 2 [7] Z Z<|dX ar (.dN .here) Z (TJ Z Z Z ar.bR.g0 (m:=1) Z Z (cells':=[_,_,_,_,_,_,_,_,_,_]) Z) Z (fun V ar=>?_);refine af<|aC ?_;replace ar:=ar.weaken (KP.dj _ _);obtain⟨g1,g2,g3⟩:=oC hR hx Q hq ab he (show cT k c s=(({s with at_:=to}:TS),true) from by rw[gk hx,LQ (eqv T) (by rw[lF C];exact bl),bk];rfl);refine aH ⟨j2-1,oM,oF,({s with at_:=to}:TS),ev,Me,g1,has,F,ao,(show s.events.length+_<=_ by omega),g2,g3,W,ar⟩
  refine aG<|aC<|ad<|ah Z ?_;replace ar:=ar.pull (.there .here);replace ar:=ar.sub (ec (.cons _ (.cons_cons _ (.cons_cons _ (.cons_cons _ (.cons_cons _ (.refl _)))))));refine S2 ar 2 [7] Z Z<|dX ar (.dN .here) Z (TJ Z Z Z ar.bR.g0 (m:=1) Z Z (cells':=[_,_,_,_,_,_,_,_,_,_]) Z) Z (fun V ar=>?_);refine af<|aC ?_;replace ar:=ar.weaken (KP.dj _ _);obtain⟨g1,g2,g3⟩:=oC hR hx Q hq ab he (show cT k c s=(({s with at_:=s.at_+1}:TS),true) from by rw[gk hx,LR (eqv T) (by rw[lF C];exact bl)]);refine aH ⟨j2-1,oM,oF,({s with at_:=s.at_+1}:TS),ev,Me,g1,has,F,ao,(show s.events.length+_<=_ by omega),g2,g3,W,ar⟩
 refine So 4 Z ?_;refine iA [168,169,170] (fun t V=>∃(q:Bool),q=tT 12 13 x.kind/\t.get 168=some (.bool q)/\D V (K.g9 M) ((b5,.row [.int .i64 x.kind,.int .i64 x.qY,.int .i64 x.loc,.int .i64 x.order,.int .i64 x.to,ap] 88 false)::(Me++((b4,.row [ev,N,N,N,N,N,N,.int .i64 (.ofNat s.at_),.slice b3 0 c.br.toNat (.known c.br.toNat),.int .i64 (.ofNat s.asked)] 98 false)::(b3,.row (s.br.map gZ) 2 false)::(b2,.row [.az,N,N,N,N,N,N,N,.az,N] 98 false)::(b1,.row [.int .i64 c.br,cv] 55 false)::L)))) ?_ ?_
 ·refine Sm 4 Z<|So 2 Z<|aD Z (fun I=>?_) (fun I=>?_)
  ·refine aG ?_;exact⟨Z,oP Z<|oP Z<|oR _ _,_,(by unfold tT;simp only[I,ct,cf]<;>rfl),Z,ar⟩
  refine ah Z<|ky Z (ax Z Z Z) (fun bm=>?_) (fun bm=>?_)
  ·refine SX 2 Z ?_;exact⟨Z,oP Z<|oP Z<|oP Z<|oP Z<|oR _ _,_,(by unfold tT;simp only[I,bm,ct,cf]<;>rfl),Z,ar⟩
  refine SX 2 Z ?_;exact⟨Z,oP Z<|oP Z<|oP Z<|oP Z<|oR _ _,_,(by unfold tT;simp only[I,bm,ct,cf]<;>rfl),Z,ar⟩
 clear ar;intro t V an hI;obtain⟨f9,cw,cx,ar⟩:=hI;obtain⟨oo,rfl⟩:=an.q1 cx Z;subst cw;refine aD Z (fun I=>?_) (fun I=>?_)
 ·refine Sm 2 Z<|Y Z (TC 1 Z) Z<|dX ar (.there (.dN .here)) Z (TJ Z Z Z ar.pop.bR.g0 (m:=1) Z Z (cells':=[_,_,_,_,_,_,_,_,_,_]) Z) Z (fun V ar=>?_);refine Rb ar 8 [0,0] Z Z<|So 2 Z<|aD Z (fun bo=>?_) (fun bo=>?_)
  ·refine S1 ar 2 [1] Z Z<|dX ar (.there (.dN .here)) Z (TJ Z Z Z ar.pop.bR.g0 (m:=1) Z Z (cells':=[_,_,_,_,_,_,_,_,_,_]) Z) Z (fun V ar=>?_);refine RE 4 Z<|Y Z (TE Z ar.pop.bR.g0 (n:=10) (vs:=[_,_,_,_,_,_,_,_,_,_]) Z) Z<|dX ar (.there (.dN (.there (.there .here)))) Z (TJ Z Z Z ar.pop.bR.pop.pop.g0 (m:=10) Z (aj W.leaf.2 Z) (cells':=[_,_,_,_,_,_,_,_,_,_]) Z) Z (fun V ar=>?_);refine Sr 3 Z<|aK<|aA<|aK<|bD<|aK (?_);have B:jS k c A=({s with fin:=4}:TS):=hrun.symm.trans (xB he oM (show cT k c s=(({s with fin:=4}:TS),false) from by rw[gk hx,FH<|eqv bo]) (fun h=>by rw[show({s with fin:=4}:TS).asks=s.asks from Z,has] at h;cases h));have hfinal:=(ar.sub (show List.Sublist (Me++L) _ from(.cons _<|ec (.cons _ (.cons _ (.cons _ (.cons _ (.refl _)))))))).keeps;exact eM Z Z ar.pop.bR.pop.pop.g0 (m:=10) O Z ⟨_,_,4,k9,_,_,_,Z,KP.le_trans (KP.dj _ _)<|KP.dj _ _,(by rw[B];exact W.jE),(by rw[B];exact(fun h=>by rw[show({s with fin:=4}:TS).asks=s.asks from Z,has] at h;cases h)),(by rw[B];exact(fun _=>⟨Z,Z⟩)),Z,Z,Z,Z,Z,Z,hfinal⟩
  refine RB 4 Z<|Y Z (TE Z ar.pop.bR.g0 (n:=10) (vs:=[_,_,_,_,_,_,_,_,_,_]) Z) Z<|dX ar (.there (.dN (.there (.there .here)))) Z (TJ Z Z Z ar.pop.bR.pop.pop.g0 (m:=10) Z (aj W.leaf.2 Z) (cells':=[_,_,_,_,_,_,_,_,_,_]) Z) Z (fun V ar=>?_);refine Sr 3 Z<|aK<|aA<|aK<|bD<|aK (?_);have B:jS k c A=({s with fin:=1}:TS):=hrun.symm.trans (xB he oM (show cT k c s=(({s with fin:=1}:TS),false) from by rw[gk hx,step_done ((Bp I).resolve_left<|Gh.1 bo)]) (fun h=>by rw[show({s with fin:=1}:TS).asks=s.asks from Z,has] at h;cases h));have hfinal:=(ar.sub (show List.Sublist (Me++L) _ from(.cons _<|ec (.cons _ (.cons _ (.cons _ (.cons _ (.refl _)))))))).keeps;exact eM Z Z ar.pop.bR.pop.pop.g0 (m:=10) O Z ⟨_,_,1,k9,_,_,_,Z,KP.le_trans (KP.dj _ _)<|KP.dj _ _,(by rw[B];exact W.jE),(by rw[B];exact(fun h=>by rw[show({s with fin:=1}:TS).asks=s.asks from Z,has] at h;cases h)),(by rw[B];exact(fun _=>⟨Z,Z⟩)),Z,Z,Z,Z,Z,Z,hfinal⟩
 exact(HC a5 d7 c0 a8 S a2 bd E a4 T I).elim
structure BK (v:U):Prop where
 leaf:cU v=some [v]/\iH v=true
theorem BK.eh {v:U} (h:BK v) (hb:∀a:U,iH a=true->True):True:=trivial
structure QA (k:Nat) (c:XC) (R:TS) (K1:KP) (ev:U) (fn:Int) (a:sN):Prop where
 ev:bL K1 5 mJ R.events ev
 ask:R.asks=true->fn=0/\a=nI k c R
 fin:R.asks=false->fn=R.fin/\a=k9
def MB (k:Nat) (c:XC) (A:List Int) (K:KP) (L:Own) (v:U) (V':aE):Prop:=∃(K1:KP) (ev:U) (fn:Int) (a:sN) (w7 w8 w9:U),v= .tuple [.agg [ev,.int .i64 fn,.int .i64 a.kind,.int .i64 a.loc,.int .i64 a.order,.int .i64 a.a,.int .i64 a.b,w7,w8,w9],.int .i64<|gQ k c]/\KP.le K K1/\(∃le:List db,bL K1 5 mJ le ev)/\(gQ k c=0->QA k c (jS k c A) K1 ev fn a)/\BK w7/\BK w8/\BK w9/\D V' K1 L
theorem wX {k:Nat} {c:XC} (h:eY k c≠0):gQ k c=eY k c:=by
 have h1:bh (H (eY k c) 0)=true:=by unfold bh;rw[Gh.2 h];rfl
 have j:kW k c=false:=by unfold kW;rw[h1];rfl
 unfold gQ;rw[j,h1];rfl
theorem wY {k:Nat} {c:XC} (h:eY k c=0) (hf:kW k c=false):gQ k c=2:=by
 unfold gQ;rw[hf,h];rfl
theorem Er {k:Nat} {c:XC} (hf:kW k c=true):gQ k c=0:=by
 unfold gQ;rw[hf];rfl
theorem QI {G:Cx} (I:Plain G) {K:KP} {k:Nat} {c:XC} {cv:U} (hi:bL K 6 (j0 K k) c.ins cv) (w:lV k c) (R:vh k c) {A:List Int} {va:U} (X:bL K 1 eu A va) (M:A.length<=100000) {V:aE} {L:Own} (ar:D V K L):
  bu Tryz.prog G 43 [.agg [.int .i64 c.br,cv],va] V (MB k c A K L):=by
 refine SQ I Tryz.func43 Z<|Sm 2 Z<|kp ar Z (cC Z Z) (fun V b1 ar=>?_);refine kp ar Z (TG (cs:=[.az,N,N,N,N,N,N,N,.az,N])) (fun V b2 ar=>?_);refine RE 5 Z<|Y Z (TE Z ar.g1 (n:=2) (vs:=[_,_]) Z) Z<|bz Z (TB Z Z Z) (fun _=>Z) (w6 I hi w R ar) (fun V ar=>?_);refine Q9 8 Z<|So 2 Z<|aD Z (fun j=>?_) (fun j=>?_)
 ·refine Sm 2 Z (Y Z (TA (places:=[(0,1),(1,1),(2,5),(7,1),(8,1),(9,1)]) (zero:=[.az,N,N,N,N,N,N,N,.az,N]) (cs:=[_,_,_,_,_,_,_,_,_,_]) Z) Z<|vQ 1 Z<|bZ ar Z (TJ Z Z Z ar.g0 (m:=10) Z Z (cells':=[_,_,_,_,_,_,_,_,_,_]) Z) Z (fun V ar=>?_));refine RG 5 Z ?_;exact cA Z Z ar.g0 (m:=10) O Z Z ⟨K,.az,0,k9,N,.az,N,by rw[show gQ k c=_ from by rw[wX (show eY k c≠0 from by rw[<-gn w];exact fun e=>by rw[e,dL] at j;cases j),<-gn w]];rfl,fun _ _ h=>h,⟨[],.inl ⟨Z,Z⟩⟩,(fun h=>absurd h (by rw[wX (show eY k c≠0 from by rw[<-gn w];exact fun e=>by rw[e,dL] at j;cases j),<-gn w];exact fun e=>by rw[e,dL] at j;cases j)),⟨Z,Z⟩,⟨Z,Z⟩,⟨Z,Z⟩,ar.pop.pop⟩
 refine Rz 3 Z<|Sm 2 Z<|Y Z (TE Z ar.g1 (n:=2) (vs:=[_,_]) Z) Z ?_;have B:eY k c=0:=by rw[<-gn w];exact eqv<|bK j
 refine bz Z (TB Z Z Z) (fun _=>Z) (Pd I hi w R ar) (fun V ar=>?_);refine Y Z (da Z) Z<|So 2 Z<|aD Z (fun u=>?_) (fun u=>?_)
 ·refine Sm 2 Z (Y Z (TA (places:=[(0,1),(1,1),(2,5),(7,1),(8,1),(9,1)]) (zero:=[.az,N,N,N,N,N,N,N,.az,N]) (cs:=[_,_,_,_,_,_,_,_,_,_]) Z) Z<|bZ ar Z (TJ Z Z Z ar.g0 (m:=10) Z Z (cells':=[_,_,_,_,_,_,_,_,_,_]) Z) Z (fun V ar=>?_));refine RG 5 Z ?_;exact cA Z Z ar.g0 (m:=10) O Z Z ⟨K,.az,0,k9,N,.az,N,by rw[show gQ k c=_ from wY B (bW u)];rfl,fun _ _ h=>h,⟨[],.inl ⟨Z,Z⟩⟩,(fun h=>absurd h (by rw[wY B<|bW u];decide)),⟨Z,Z⟩,⟨Z,Z⟩,⟨Z,Z⟩,ar.pop.pop⟩
 refine RB 4 Z<|Y Z (TE Z ar.g1 (n:=2) (vs:=[_,_]) Z) Z<|vQ 1 Z ?_;have C:kW k c=true:=bK u;obtain⟨Q,od,ho,hR⟩:=wo C;refine cM Z (TB Z Z Z) (fun _=>Z) (R6 I hi Q ho hR X M ar) ?_;rintro _ V ⟨K1,ev,fn,a,w7,w8,w9,rfl,hle,z,E,F,c8,l7,l8,l9,c7,c9,ar⟩;have S:BK w7:=⟨c7,l7⟩;have T:BK w8:=⟨c8,l8⟩;have W:BK w9:=⟨c9,l9⟩;refine bZ ar Z (TJ Z Z Z ar.g0 (m:=10) Z (aj z.leaf.2<|aj Z<|aj Z<|aj Z<|aj Z<|aj Z<|aj Z<|aj S.leaf.2<|aj T.leaf.2<|aj W.leaf.2 aI) (cells':=[_,_,_,_,_,_,_,_,_,_]) Z) Z (fun V ar=>?_);refine Sr 4 Z ?_;exact cA Z Z ar.g0 (m:=10) O Z Z ⟨K1,ev,fn,a,w7,w8,w9,by rw[Er C],hle,⟨_,z⟩,fun _=>⟨z,E,F⟩,S,T,W,ar.pop.pop⟩
theorem Pe {G:Cx} (T:Plain G) {K:KP} {k:Nat} {c:XC} {cv:U} (hi:bL K 6 (j0 K k) c.ins cv) (hF:lV k c) (hS:vh k c) {l:List db} {lv:U} (hl:bL K 5 mJ l lv) (W:l.length<=100000) {V:aE} {L:Own} (ar:D V K L):
  bu Tryz.prog G 23 [.agg [.int .i64 c.br,cv],lv] V fun v V'=>v= .tuple [.agg<|Ij (dQ k c l).1,.int .i64 (dQ k c l).2]/\D V' K L:=by
 refine SQ T Tryz.func23 Z<|Sm 2 Z<|kp ar Z (cC Z Z) (fun V b1 ar=>?_);refine kp ar Z (TG (cs:=[N,N,N,N,N,N,N,N,N,N,N])) (fun V b2 ar=>?_);refine So 3 Z (al (aU (l:=[(0,[]),(1,[]),(7,[]),(2,[0,7]),(3,[7]),(4,[]),(5,[]),(6,[]),(8,[]),(9,[])]) O O<|ai Z Z (TE Z ar.g1 (n:=2) (vs:=[_,_]) Z) Z<|wQ 1 Z<|qd ar Z Z (TG (cs:=[.az,N,N,N,N,N,N,N,.az,N])) (fun _=>Z) (fun V b3 ar=>?_)));refine fB Z Z (TB Z Z Z) (fun _=>Z) (Hz T hl W ar) ?_;rintro am V ⟨M,hM,ar⟩;replace ar:=ar.keeps;have hA:=hM.jE (K:=K);have hi2:=Es (KP.dj K M) hi;refine⟨(bx (bC Z Z Z Z Z (TE Z (ar.get 2 Z) (n:=2) (vs:=[_,_]) Z)<|iP<|cR (fq _ _)<|cR hi.lh gM)<|bx (iE Z Z Z Z Z (cs:=[.az,N,N,N,N,N,N,N,.az,N]) (e:=98) O ar.g0 O) ba),?_⟩;refine fB Z Z (TB Z Z Z) (fun _=>Z) (QI T hi2 hF hS hA (by have:=uR l;omega) ar) ?_;rintro _ V ⟨K1,ev,fn,a,w7,w8,w9,rfl,E,⟨le,X⟩,F,o7,o8,o9,ar⟩;have hle:=KP.le_trans (KP.dj K M) E;have hl1:=hl.mono hle fun _ _ h=>h
 refine⟨(bx (iE Z Z Z Z Z (cs:=[.az,N,N,N,N,N,N,N,.az,N]) (e:=98) O ar.g0 O) ba),?_⟩;refine S0 3 Z<|iM ar Z Z (TJ Z Z Z ar.g0 (m:=10) Z (aj X.leaf.2<|aj Z<|aj Z<|aj Z<|aj Z<|aj Z<|aj Z<|aj o7.leaf.2<|aj o8.leaf.2<|aj o9.leaf.2 aI) (cells':=[_,_,_,_,_,_,_,_,_,_]) Z) Z (fun V ar=>?_);refine⟨ba,?_⟩;refine Ss 3 Z<|Sl 7 Z<|aD Z (fun C=>?_) (fun C=>?_)
 ·refine Sm 2 Z (Y Z (TA (places:=[(0,5),(5,5),(10,1)]) (zero:=[N,N,N,N,N,N,N,N,N,N,N]) (cs:=[_,_,_,_,_,_,_,_,_,_,_]) Z) Z<|vQ 1 Z<|gS ar Z (TJ Z Z Z ar.g1 (m:=11) Z Z (cells':=[_,_,_,_,_,_,_,_,_,_,_]) Z) Z (fun V ar=>?_));refine RG 5 Z ?_;exact cA Z Z ar.g1 (m:=11) O Z Z ⟨by rw[show dQ k c l=(AN,gQ k c) from by unfold dQ;rw[show bh (H (gQ k c) 0)=true from C];rfl];rfl,(ar.pop.pop.pop).weaken hle⟩
 refine Rz 3 Z<|Sm 3 Z<|S2 ar 2 [0,0] Z Z ?_;have I:gQ k c=0:=eqv (bK C);obtain⟨j,z,A⟩:=F I;have Q:dQ k c l=m6 k c (jS k c<|dM l) l:=by unfold dQ;rw[I];rfl
 obtain⟨s,hs⟩:∃s,s=jS k c (dM l):=⟨_,Z⟩;rw[<-hs] at j z A Q;refine bz Z (TB Z Z Z) (fun _=>Z) (Na T hl1 j ar) (fun V ar=>?_);refine Y Z (da Z) Z<|So 2 Z<|aD Z (fun u=>?_) (fun u=>?_)
 ·refine Sm 2 Z (Y Z (TA (places:=[(0,5),(5,5),(10,1)]) (zero:=[N,N,N,N,N,N,N,N,N,N,N]) (cs:=[_,_,_,_,_,_,_,_,_,_,_]) Z) Z<|gS ar Z (TJ Z Z Z ar.g1 (m:=11) Z Z (cells':=[_,_,_,_,_,_,_,_,_,_,_]) Z) Z (fun V ar=>?_));refine RG 5 Z ?_;exact cA Z Z ar.g1 (m:=11) O Z Z ⟨by rw[Q,show m6 k c s l=(AN,2) from by unfold m6;rw[show ta s l=false from bW u];rfl];rfl,(ar.pop.pop.pop).weaken hle⟩
 refine Rz 3 Z<|Sm 2 Z<|S2 ar 2 [0,0] Z Z<|Y Z (TF j Z Z Z (e:=59) Z) Z<|vQ 1 Z<|Y Z (TF hl1 Z Z Z (e:=59) Z) Z<|So 3 Z<|aD Z (fun w=>?_) (fun w=>?_)
 ·refine Sm 2 Z<|S2 ar 3 [0,0] Z Z<|Y Z (TF hl1 Z Z Z (e:=59) Z) Z ?_;obtain⟨aa,B⟩:=cL (bc w);refine Tw (e:=59) (m:=5) j B Z Z Z Z (fun an ab R ac S=>?_);obtain rfl:=S;refine Y Z (TI ar R Z Z) Z (Y Z (TA (places:=[(0,5),(5,5),(10,1)]) (zero:=[N,N,N,N,N,N,N,N,N,N,N]) (cs:=[_,_,_,_,_,_,_,_,_,_,_]) Z) Z<|gS ar Z (TJ Z Z Z ar.g1 (m:=11) Z Z (cells':=[_,_,_,_,_,_,_,_,_,_,_]) Z) Z (fun V ar=>?_));refine RG 5 Z ?_;exact cA Z Z ar.g1 (m:=11) O Z Z ⟨by rw[Q,show m6 k c s l=(⟨aa,k9,0⟩,0) from by unfold m6;rw[show ta s l=true from bK u,B];rfl];rfl,(ar.pop.pop.pop).weaken hle⟩
 refine RK ar 5 [2] Z Z (Y Z (TE Z ar.g0 (n:=5) (vs:=[_,_,_,_,_]) Z) Z (S2 ar 2 [1,0] Z Z (Y Z (TA (places:=[(0,5),(5,5),(10,1)]) (zero:=[N,N,N,N,N,N,N,N,N,N,N]) (cs:=[_,_,_,_,_,_,_,_,_,_,_]) Z) Z<|gS ar Z (TJ Z Z Z ar.g1 (m:=11) Z Z (cells':=[_,_,_,_,_,_,_,_,_,_,_]) Z) Z (fun V ar=>?_))));refine Sr 4 Z ?_;cases has:s.asks with
 | true=>(obtain⟨rfl,rfl⟩:=z has;exact cA Z Z ar.g1 (m:=11) O Z Z ⟨by rw[Q,show m6 k c s l=(⟨yU,nI k c s,0⟩,0) from by unfold m6;rw[show ta s l=true from bK u,gN_<|bA w,has];rfl];rfl,(ar.pop.pop.pop).weaken hle⟩)
 | false=>(obtain⟨rfl,rfl⟩:=A has;exact cA Z Z ar.g1 (m:=11) O Z Z ⟨by rw[Q,show m6 k c s l=(⟨yU,k9,s.fin⟩,0) from by unfold m6;rw[show ta s l=true from bK u,gN_<|bA w,has];rfl];rfl,(ar.pop.pop.pop).weaken hle⟩)
theorem OY.mono {P:Program} {G:Cx} {f:Nat} {args:List U} {V:aE} {R R':U->aE->Prop} (h:OY P G f args V R) (hq:∀v V',R v V'->R' v V'):OY P G f args V R':=
 let ⟨K,v,V',h1,j⟩:=h;⟨K,v,V',h1,hq _ _ j⟩
end Go.Ev
namespace Go.Ev
variable [Env]
end Go.Ev
namespace Go.Ev
variable [Env]
open Go.Proofs
set_option maxRecDepth 4000
set_option maxHeartbeats 8000000
structure S8 (k:Nat) (init:List Int) (l:List XC):Prop where
 len:l.length<=4
 init:init.length<=6
 pos:0<l.length
 flat:∀c∈l,kW k c=true
def J7 (k:Nat) (p:XC×List db):Int:=(dQ k p.1 p.2).1.fin
theorem zn {k:Nat}:∀{l:List XC} {g:List (List db)},l.length=g.length->(∀(i:Nat) (c:XC) (r:List db),l[i]?=some c->g[i]?=some r->H (dQ k c r).2 0=true)->rL k l g=some ((l.zip g).map<|J7 k)
 | [],[],_,_=>rfl
 | [],_::_,h,_=>by simp at h
 | _::_,[],h,_=>by simp at h
 | c::l,r::g,h,j=>by
  have h0:=j 0 c r Z Z;have:=zn (k:=k) (l:=l) (g:=g) (by simpa using h) fun i c r h1 m=>j (i+1) c r (by simpa using h1) (by simpa using m)
  show(bif H (dQ k c r).2 0 then(rL k l g).map fun e=>(dQ k c r).1.fin::e else none)=_;rw[h0,this];rfl
theorem zo {k:Nat}:∀{l:List XC} {g:List (List db)} {i:Nat} {c:XC} {r:List db},l[i]?=some c->g[i]?=some r->H (dQ k c r).2 0=false->rL k l g=none
 | c'::l,r'::g,0,c,r,h1,j,h=>by
  simp only[List.getElem?_cons_zero,oJ_] at h1 j;subst h1;subst j;show(bif H (dQ k c' r').2 0 then _ else none)=none;rw[h];rfl
 | c'::l,r'::g,i+1,c,r,h1,j,h=>by
  have:=zo (k:=k) (l:=l) (g:=g) (i:=i) (by simpa using h1) (by simpa using j) h;show(bif H (dQ k c' r').2 0 then(rL k l g).map _ else none)=none;rw[this];cases H (dQ k c' r').2 0<;>rfl
 | [],_,_,_,_,h1,_,_=>by simp at h1
 | _::_,[],_,_,_,_,j,_=>by simp at j
theorem Ql {α β:Type} {l:List α} {g:List β} {i:Nat} {x:α} {y:β} (h1:l[i]?=some x) (j:g[i]?=some y):(l.zip g)[i]?=some (x,y):=by rw[List.getElem?_zip_eq_some];exact⟨h1,j⟩
def Oz (k:Nat) (l:List XC):Prop:=∀c∈l,lV k c/\vh k c
theorem JH {G:Cx} (hG:Plain G) {K:KP} {k:Nat} {l:List XC} {lv:U} (hl:bL K 2 (lW K k) l lv) (hF:Oz k l) {g:XG} {a b c d:U} (hg:gY K g a b c d) {V:aE} {L:Own} (ar:D V K L):
  bu Tryz.prog G 9 [lv,.agg [a,b,c,d]] V fun v V'=>∃u M,v= .tuple [u,.bool (kV k l g).isSome]/\cZ 1 3 eu ((kV k l g).getD []) u M/\D V' K (M++L):=by
 refine SQ hG Tryz.func9 Z<|Sm 2 Z<|kp ar Z (cC Z Z) (fun V b1 ar=>?_);refine Q9 7 Z<|Y Z (TE Z ar.g0 (n:=4) (vs:=[_,_,_,_]) Z) Z<|bz Z (TB Z Z Z) (fun _=>Z) (lS hG hg ar) (fun V ar=>?_);refine vQ 1 Z<|ky Z (aq Z) (fun C=>?_) (fun C=>?_)
 ·refine RG 18 Z ?_;have E:kV k l g=none:=by unfold kV;rw[show bh (H (cV g) 0)=true from C];rfl
  exact dA Z Z Z ⟨.az,[],by rw[E];rfl,by rw[E];exact .inl ⟨Z,Z,Z⟩,ar.pop⟩
 refine vQ 1 Z<|Y Z (TF hl Z Z Z (e:=55) Z) Z<|S2 ar 2 [1,0] Z Z<|Y Z (TF hg.threads Z Z Z (e:=56) Z) Z<|So 4 Z<|aD Z (fun F=>?_) (fun F=>?_)
 ·refine Sn 8 Z ?_;have E:kV k l g=none:=by unfold kV;rw[show bh (H (cV g) 0)=false from C,show bh (H (.ofNat l.length) (.ofNat g.threads.length))=true from F];rfl
  exact dA Z Z Z ⟨.az,[],by rw[E];rfl,by rw[E];exact .inl ⟨Z,Z,Z⟩,ar.pop⟩
 refine RB 4 Z ?_;have a3:cV g=0:=eqv (bK C);obtain⟨b1_,_,b3_,_⟩:=gz a3;have Q:l.length=g.threads.length:=dC (bK F);have bk:(l.zip g.threads).length=l.length:=by rw[List.length_zip,Q];omega
 refine Q8 10 Z (bf (rg 4 6++rg 21 26) (fun j t V=>∃(i:Nat) (u:U) (M:Own),j+i=l.length/\(∀(I:Nat) (S:XC) (T:List db),I<i->l[I]?=some S->g.threads[I]?=some T->H (dQ k S T).2 0=true)/\cZ 1 3 eu (((l.zip g.threads).take i).map<|J7 k) u M/\t.get 6=some (u)/\t.get 7=some (.int .i64 (.ofNat i))/\D V K (M++((b1,.row [a,b,c,d] 27 false)::L))) (l.length) ⟨0,.az,[],Z,(fun I S T h=>absurd h (nZ_ _)),cZ.nil,Z,Z,ar⟩ ?_);clear ar;intro j5 t V an hI;obtain⟨i,u,M,bl,aa,hO,a4,a5,ar⟩:=hI;obtain⟨oo,rfl⟩:=an.q2 a4 a5 Z;refine Ry 5 Z<|Y Z (TF hl Z Z Z (e:=55) Z) Z<|So 3 Z<|aD Z (fun B=>?_) (fun B=>?_)
 ·refine Qr 5 Z (aU (l:=[(0,[]),(1,[]),(2,[]),(3,[]),(4,[]),(5,[]),(6,[]),(7,[]),(8,[]),(13,[]),(9,[13]),(10,[]),(11,[]),(12,[]),(14,[]),(15,[])]) O O<|S0 2 Z ?_);obtain⟨ab,w⟩:=cL (bc B);refine Tx (e:=55) (m:=2) hl w Z Z Z Z Z (fun bm bb ac bd am=>?_);have hr30':=am;obtain⟨bo,rfl,ao⟩:=hr30';refine ai Z Z (TI ar ac Z Z) Z<|ai Z Z (TC 1 Z) Z<|ai Z Z (TD Z ar.bR.g0 Z) Z<|wQ 1 Z ?_;obtain⟨ap,A⟩:=cL (show i<g.threads.length from by rw[<-Q];exact bc B);refine Tx (e:=56) (m:=1) hg.threads A Z Z Z Z Z (fun bp be a0 bi a1=>?_);have hr35':=a1;obtain⟨bq,rfl,a2⟩:=hr35';refine ai Z Z (TH ar a0 Z Z) Z<|qd ar Z Z (TG (cs:=[N,N,N,N,N,N,N,N,N,N,N])) (fun _=>Z) (fun V b2 ar=>?_);obtain⟨a6,a7⟩:=hF ab (gB_ w);refine eB Z Z (TB Z Z Z) (fun _=>Z) (Pe hG ao a6 a7 a2 (by have:=b3_ ap (gB_ A);omega) ar) (fun V ar=>?_);refine⟨(bx (iE Z Z Z Z Z (cs:=[N,N,N,N,N,N,N,N,N,N,N]) (e:=68) O ar.g0 O) ba),?_⟩;refine S0 3 Z<|iM ar Z Z (TJ Z Z Z ar.g0 (m:=11) Z Z (cells':=[_,_,_,_,_,_,_,_,_,_,_]) Z) Z (fun V ar=>?_);refine⟨ba,?_⟩;refine Ss 3 Z<|Sl 7 Z<|aD Z (fun W=>?_) (fun W=>?_)
  ·refine SW 7 Z<|aA<|aK<|aA<|bD<|aK<|aA (?_);have E:kV k l g=none:=by unfold kV;rw[show bh (H (cV g) 0)=false from C,show bh (H (.ofNat l.length) (.ofNat g.threads.length))=false from F];exact zo w A<|bW W
   exact dA Z Z Z ⟨.az,[],by rw[E];rfl,by rw[E];exact .inl ⟨Z,Z,Z⟩,ar.pop.bR.pop⟩
  refine aG<|S1 ar 4 [10,0] Z Z<|fe ar Z (bP (e:=3) (m:=1) (z:=[N]) (cs:=[_]) O O O O<|bj Z Z Z Z bF) (fun _=>Z) (fun V b3 ar=>?_);replace ar:=ar.pull (.there (.there .here));replace ar:=ar.pull (.dN<|cX.here (X:=[_]));refine fH (R:=eu) (m:=1) (e:=3) hO ar (di (m:=1) Z (show eu (J7 k (ab,ap)) _ from Z)) eu.leaf (by rw[lM_,lT_];show _+1<=_;omega) Z Z Z Z Z Z Z (fun _=>Z) (fun V a8 a9 hO46 ar=>?_);refine SX 2 Z<|aC<|ad<|ah Z ?_;replace ar:=ar.sub (ec (.cons _ (.cons_cons _ (.refl _))));refine SX 4 Z (aH ⟨j5-1,(by have:=bc B;omega),oF,i+1,a8,a9,(by have:=bc B;omega),(fun I S T br h1 h2=>(by by_cases e:I=i;(subst e;rw[w] at h1;rw[A] at h2;cases h1;cases h2;exact bK W);exact aa I S T oM h1 h2)),(by rw[lP<|Ql w A];exact hO46),Z,cI<|aW (by have:=hl.bO;omega),ar⟩)
 refine RC 3 Z<|aL<|SW 8 Z ?_;have E:kV k l g=some ((l.zip g.threads).map<|J7 k):=by unfold kV;rw[show bh (H (cV g) 0)=false from C,show bh (H (.ofNat l.length) (.ofNat g.threads.length))=false from F];exact zn Q fun I S T h1 h2=>aa I S T (by have:=(gA.1 h1).1;have:=bA B;omega) h1 h2
 exact dA Z Z Z ⟨u,M,by rw[E];rfl,by rw[E];show cZ 1 3 eu ((l.zip g.threads).map<|J7 k) _ _;rw[tL_ (by have:=bA B;omega)] at hO;exact hO,ar.sub<|ec (.cons _ (.refl _))⟩
theorem Le {α:Type} {m E b e:Nat} {R:α->List U->Prop} {x:α} {vs:List U} (hm:vs.length=m) (j:R x vs):cZ m E R [x] (.slice b 0 1 (.known 1)) [(b,.row vs e false)]:=
 .inr ⟨b,.known 1,vs,e,Z,Z,by rw[hm];simp,fun i y h=>by
  cases i with
  | zero=>cases h;rw[Nat.zero_mul,List.drop_zero,tL_ oM];exact j
  | succ i=>simp at h,.inl Z,by show 1<=1048576;decide⟩
theorem JJ {G:Cx} (Q:Plain G) {K:KP} {g:XG} {a b c d:U} (F:gY K g a b c d) (loc:Int) {V:aE} {L:Own} (ar:D V K L):
  bu Tryz.prog G 119 [.agg [a,b,c,d],.int .i64 loc] V fun v V'=>∃M,cZ 2 51 nH (dv g loc) v M/\D V' K (M++L):=by
 refine SQ Q Tryz.func119 Z<|Sm 2 Z<|kp ar Z (cC Z Z) (fun V b1 ar=>?_);refine Q9 6 Z<|Y Z (TE Z ar.g0 (n:=4) (vs:=[_,_,_,_]) Z) Z<|bz Z (TB Z Z Z) (fun _=>Z) (lS Q F ar) (fun V ar=>?_);refine vQ 1 Z<|ky Z (aq Z) (fun A=>?_) (fun A=>?_)
 ·refine RG 20 Z ?_;exact aB Z Z ⟨[],.inl ⟨tZ<|bW A,Z,Z⟩,ar.pop⟩
 refine SY 3 Z<|ky Z (aq Z) (fun u=>?_) (fun u=>?_)
 ·refine RG 16 Z ?_;exact aB Z Z ⟨[],.inl ⟨vZ u,Z,Z⟩,ar.pop⟩
 refine S2 ar 3 [0,0] Z Z<|Y Z (TF F.init Z Z Z (e:=2) Z) Z<|So 4 Z<|aD Z (fun w=>?_) (fun w=>?_)
 ·obtain⟨ln,rfl⟩:=kA u;refine Sn 7 Z ?_;exact aB Z Z ⟨[],.inl ⟨vY (by rw[(gz<|JU<|bK A).2.2.2.2.1];exact pO w),Z,Z⟩,ar.pop⟩
 obtain⟨ln,rfl⟩:=kA u;refine RB 5 Z (Y Z (TA (places:=[(0,1),(1,1)]) (zero:=[N,N]) (cs:=[_,_]) Z) Z<|fe ar Z (bP (e:=51) (m:=2) (z:=[N,N]) (cs:=[_,_]) O O O O<|bj Z Z Z Z bF) (fun _=>Z) (fun V S ar=>?_));replace ar:D V _ ([(S,.row _ 51 false)]++_):=ar;refine Y Z (TC 3 Z) Z<|Y Z (TD Z ar.bR.g0 Z) Z<|vQ 1 Z ?_;obtain⟨ac,j⟩:=cL (show ln<g.order.length from by rw[(gz<|JU<|bK A).2.2.2.2.1];exact pZ w);refine Tw (e:=49) (m:=1) F.order j Z Z Z Z (fun am aa B ab C=>?_);have hr25':=C;obtain⟨an,rfl,E⟩:=hr25';refine Y Z (TH ar B Z Z) Z (xY (R:=nH) (m:=2) (e:=51) (Le (m:=2) (R:=nH) (x:=⟨0,.ofNat ln⟩) Z Z) ar E nH.leaf (by have:=C5 (JU<|bK A) _ (gB_ j);show 1+_<=_;omega) Z Z Z Z Z Z Z (fun _=>Z) (fun V ao I hO27 ar=>?_));refine Sr 4 Z ?_;exact aB Z Z ⟨I,by rw[fX (bK A) j];exact hO27,ar.sub<|ec (.cons _ (.refl _))⟩
theorem NY {G:Cx} (z:Plain G) {K:KP} {g:XG} {va vb vc vd:U} (A:gY K g va vb vc vd) (B:dO g) (id:cY) {V:aE} {L:Own} (ar:D V K L):
  bu Tryz.prog G 118 [.agg [va,vb,vc,vd],.agg [.int .i64 id.cy,.int .i64 id.index]] V fun v V'=>v= .tuple [.agg<|ints (mK<|dn g id).ints,.bool (dn g id).isSome]/\D V' K L:=by
 have hck:=ef.2 B;refine SQ z Tryz.func118 Z<|Sm 2 Z<|kp ar Z (cC Z Z) (fun V b1 ar=>?_);refine kp ar Z (cC Z Z) (fun V b2 ar=>?_);refine kp ar Z (TG (cs:=[N,N,N,N,N])) (fun V b3 ar=>?_);refine RE 5 Z<|Y Z (TE Z (ar.get 2 Z) (n:=4) (vs:=[_,_,_,_]) Z) Z<|Y Z (TE Z ar.g1 (n:=2) (vs:=[_,_]) Z) Z<|bz Z (TB Z Z Z) (fun _=>Z) (tX z A id.cy id.index ar) (fun V ar=>?_);refine SY 3 Z<|kp ar Z (TG (cs:=[N,N,N,N,N])) (fun V b4 ar=>?_);refine bZ ar Z (TJ Z Z Z ar.g0 (m:=5) Z Z (cells':=[_,_,_,_,_]) Z) Z (fun V ar=>?_);refine Q9 6 Z<|Y Z (TE Z (ar.get 3 Z) (n:=4) (vs:=[_,_,_,_]) Z) Z<|bz Z (TB Z Z Z) (fun _=>Z) (by have q:=lS z A ar;rw[hck] at q;exact q) (fun V ar=>?_);refine vQ 1 Z<|ky Z (aq Z) (fun u=>?_) (fun u=>?_)
 ·exact absurd u (by decide)
 refine vQ 1 Z<|Y Z (da Z) Z<|So 3 Z<|aD Z (fun j=>?_) (fun j=>?_)
 ·refine Sm 2 Z (Y Z (TA (places:=[(0,1),(1,1),(2,1),(3,1),(4,1)]) (zero:=[N,N,N,N,N]) (cs:=[_,_,_,_,_]) Z) Z<|gS ar Z (TJ Z Z Z ar.g1 (m:=5) Z Z (cells':=[_,_,_,_,_]) Z) Z (fun V ar=>?_));refine RG 5 Z ?_;exact cA Z Z ar.g1 (m:=5) O Z Z ⟨by have e:(dn g id).isSome=false:=bW j;rw[e];cases C:dn g id with | none=>rfl | some w=>(rw[C] at e;cases e),ar.pop.pop.pop.pop⟩
 refine RB 4 Z<|Y Z (TE Z ar.g0 (n:=5) (vs:=[_,_,_,_,_]) Z) Z<|gS ar Z (TJ Z Z Z ar.g1 (m:=5) Z Z (cells':=[_,_,_,_,_]) Z) Z (fun V ar=>?_);refine Sr 4 Z ?_;exact cA Z Z ar.g1 (m:=5) O Z Z ⟨by rw[show(dn g id).isSome=true from bK j];rfl,ar.pop.pop.pop.pop⟩
theorem GS {G:Cx} (R:Plain G) {K:KP} {g:XG} {va vb vc vd:U} (W:gY K g va vb vc vd) (hR:dO g) (id:cY) {V:aE} {L:Own} (ar:D V K L):
  bu Tryz.prog G 104 [.agg [va,vb,vc,vd],.agg [.int .i64 id.cy,.int .i64 id.index]] V fun v V'=>v= .int .i64 (nv g id)/\D V' K L:=by
 refine SQ R Tryz.func104 Z<|Sm 2 Z<|kp ar Z (cC Z Z) (fun V b1 ar=>?_);refine kp ar Z (cC Z Z) (fun V b2 ar=>?_);refine RE 5 Z<|Y Z (TE Z ar.g1 (n:=4) (vs:=[_,_,_,_]) Z) Z<|Y Z (TE Z ar.g0 (n:=2) (vs:=[_,_]) Z) Z<|bz Z (TB Z Z Z) (fun _=>Z) (NY R W hR id ar) (fun V ar=>?_);refine SY 3 Z<|kp ar Z (TG (cs:=[N,N,N,N,N])) (fun V b3 ar=>?_);refine bZ ar Z (TJ Z Z Z ar.g0 (m:=5) Z Z (cells':=[_,_,_,_,_]) Z) Z (fun V ar=>?_);refine Q9 7 Z<|Y Z (da Z) Z<|ky Z (aq Z) (fun u=>?_) (fun u=>?_)
 ·refine RG 14 Z ?_;exact aB Z Z ⟨cJ (by symm;unfold nv;rw[show(dn g id).isSome=false from bW u];rfl),ar.pop.pop.pop⟩
 refine Y Z (TE Z ar.g0 (n:=5) (vs:=[_,_,_,_,_]) Z) Z<|bz Z (TB Z Z Z) (fun _=>Z) (lT R (mK<|dn g id) ar) (fun V ar=>?_);refine Y Z (da Z) Z<|So 3 Z<|aD Z (fun A=>?_) (fun A=>?_)
 ·refine Sn 7 Z ?_;exact aB Z Z ⟨cJ (by symm;unfold nv;rw[show(dn g id).isSome=true from bK u,show bI (mK<|dn g id)=false from bW A];rfl),ar.pop.pop.pop⟩
 refine RB 4 Z<|Y Z (TE Z (ar.get 2 Z) (n:=4) (vs:=[_,_,_,_]) Z) Z<|S2 ar 2 [1,0] Z Z<|cM Z (TB Z Z Z) (fun _=>Z) (JJ R W _ ar) ?_;rintro am V ⟨S,hM25,ar⟩;obtain⟨X,C,E,ar⟩:=D.cq (M:=S) ar;have hw:=hM25.jK (K:=X) fun y hy=>E _ hy
 refine Q8 10 Z ?_;obtain⟨LL1,ar,hLL1⟩:=ar.named;refine bf ([4,8]++rg 26 13) (fun j t V=>∃(k:Nat),j+k=(dv g (mK<|dn g id).loc).length/\ew (fun x:cY=>bQ x.ints id.ints) (dv g (mK<|dn g id).loc) 0=ew (fun x:cY=>bQ x.ints id.ints) ((dv g (mK<|dn g id).loc).drop k) k/\t.get 8=some (.int .i64 (.ofNat k))/\D V X LL1) ((dv g (mK<|dn g id).loc).length) ⟨0,Z,Z,Z,ar⟩ ?_;clear ar;intro j6 t V an hI;obtain⟨k,ao,he,T,ar⟩:=hI;subst hLL1;obtain⟨oo,rfl⟩:=an.q1 T Z;refine Ry 5 Z<|Y Z (TF hw Z Z Z (e:=51) Z) Z<|So 3 Z<|aD Z (fun w=>?_) (fun w=>?_)
 ·refine Qr 5 Z<|aU (l:=zp [0,1,2,3,4,5]) O O<|S0 2 Z ?_;obtain⟨B,z,aa⟩:=cK w;refine Tx (e:=51) (m:=2) hw z Z Z Z Z Z (fun ap ab I ac Q=>?_);obtain rfl:=Q;refine ai Z Z (TI ar I Z Z) Z<|ai Z Z (TE Z ar.g1 (n:=2) (vs:=[_,_]) Z) Z<|ai Z Z (Aa (n:=2) (ca:=[_,_]) (cb:=[_,_]) O Z Z Z Z) Z<|Ss 2 Z<|aD Z (fun F=>?_) (fun F=>?_)
  ·refine SW 7 Z<|aK<|aA<|bD<|aK<|aA (?_);exact aB Z Z ⟨cJ (by symm;unfold nv;rw[show(dn g id).isSome=true from bK u,show bI (mK<|dn g id)=true from bK A];show ew (fun x:cY=>bQ x.ints id.ints) (dv g (mK<|dn g id).loc) 0=_;rw[he,cu z];show(bif bQ B.ints id.ints then _ else _)=_;rw[show bQ B.ints id.ints=true from F];rfl),(ar.pop.pop.pop).weaken C⟩
  refine aG<|aC<|SV 5 Z ?_;have hlp:=bc w;refine aH ⟨j6-1,by have:=bc w;omega,oF,k+1,by omega,by rw[he,cu z];show(bif bQ B.ints id.ints then _ else _)=_;rw[show bQ B.ints id.ints=false from F];rfl,cI<|aW (by have:=hw.bO;omega),ar⟩
 refine RC 3 Z<|aL<|SW 6 Z ?_;exact aB Z Z ⟨cJ (by symm;unfold nv;rw[show(dn g id).isSome=true from bK u,show bI (mK<|dn g id)=true from bK A];show ew (fun x:cY=>bQ x.ints id.ints) (dv g (mK<|dn g id).loc) 0=_;rw[he,eF<|bA w];rfl),(ar.pop.pop.pop).weaken C⟩
theorem AX {G:Cx} (B:Plain G) {K:KP} {n:Nat} (E:n<=64) {A:Rn} {va:U} (F:bL K 1 RU (bJ n A) va) {V:aE} {L:Own} (ar:D V K L):
  bu Tryz.prog G 76 [.agg [.int .i64 (.ofNat n),va]] V fun v V'=>v= .int .i64 (nw n A)/\D V' K L:=by
 refine SQ B Tryz.func76 Z<|Sm 2 Z<|kp ar Z (cC Z Z) (fun V b1 ar=>?_);refine RE 5 Z<|Y Z (TE Z ar.g0 (n:=2) (vs:=[_,_]) Z) Z<|cM Z (TB Z Z Z) (fun _=>Z) (AS B E F ar) ?_;rintro _ V ⟨I,up,w,rfl,hp,ar⟩;refine kp ar Z (TG (cs:=[N,.az])) (fun V b2 ar=>?_);refine bZ ar Z (TJ Z Z Z ar.g0 (m:=2) Z (aj Z<|aj hp.leaf.2 aI) (cells':=[_,_]) Z) Z (fun V ar=>?_);refine Q8 9 Z ?_;obtain⟨LL1,ar,hLL1⟩:=ar.named;refine bf ([2,4]++rg 7 11) (fun j t V=>∃(i:Nat),j+i=n/\ew (fun i=>sM n A i i) (List.range n) 0=ew (fun i=>sM n A i i) ((List.range n).drop i) i/\t.get 4=some (.int .i64 (.ofNat i))/\D V I LL1) (n) ⟨0,Z,Z,Z,ar⟩ ?_;clear ar;intro M t V an Q;obtain⟨i,aa,he,C,ar⟩:=Q;subst hLL1;obtain⟨oo,rfl⟩:=an.q1 C Z;refine RJ ar 7 [0,0] Z Z<|So 2 Z<|aD Z (fun u=>?_) (fun u=>?_)
 ·refine Qs 6 Z<|Y Z (TE Z ar.g0 (n:=2) (vs:=[_,_]) Z) Z<|SY 2 Z<|bz Z (TB Z Z Z) (fun _=>Z) (Re B E hp (bc u) (bc u) ar) (fun V ar=>?_);refine So 2 Z<|aD Z (fun z=>?_) (fun z=>?_)
  ·refine SW 7 Z<|aK<|aA<|bD<|aK<|aA (?_);exact aB Z Z ⟨cJ (by symm;show ew (fun i=>sM n A i i) (List.range n) 0=_;rw[he,cu (List.getElem?_range<|bc u)];show(bif sM n A i i then _ else _)=_;rw[show sM n A i i=true from z];rfl),(ar.pop.pop).weaken w⟩
  refine aG<|aC<|SV 5 Z ?_;have hlp:=bc u;refine aH ⟨M-1,by have:=bc u;omega,oF,i+1,by omega,by rw[he,cu (List.getElem?_range hlp)];show(bif sM n A i i then _ else _)=_;rw[show sM n A i i=false from z];rfl,cI<|aW oM,ar⟩
 refine RC 3 Z<|aL<|SW 6 Z ?_;exact aB Z Z ⟨cJ (by symm;show ew (fun i=>sM n A i i) (List.range n) 0=_;rw[he,eF (by rw[List.length_range];exact bA u)];rfl),(ar.pop.pop).weaken w⟩
theorem GU {G:Cx} (F:Plain G) {K:KP} (m:Int) {V:aE} {L:Own} (ar:D V K L):
  bu Tryz.prog G 30 [.int .i64 m] V fun v V'=>∃w,KP.le K w/\bL w 1 eu (gj m) v/\D V' w L:=by
 refine SQ F Tryz.func30 Z<|Rx 18 Z<|aD Z (fun h4=>?_) (fun h4=>?_)
 ·refine Sm 2 Z<|fe ar Z (bP (e:=3) (m:=1) (z:=[N]) (cs:=[_,_,_]) O O O O<|bj Z Z Z Z<|bj Z Z Z Z<|bj Z Z Z Z bF) (fun _=>Z) (fun V A ar=>?_);refine Sr 4 Z<|aK<|aA (?_);obtain⟨w,u,j,ar⟩:=D.cq (M:=[_]) ar;exact aB Z Z ⟨w,u,by unfold gj;rw[show H m 1=true from h4];exact(jt (E:=3) (b:=A) (e:=3) (xs:=[1,2,6]) (by simp)).jK fun y B=>j _ B,ar⟩
 refine Sm 4 Z<|So 2 Z<|aD Z (fun C=>?_) (fun C=>?_)
 ·refine Sm 2 Z<|fe ar Z (bP (e:=3) (m:=1) (z:=[N]) (cs:=[_,_,_,_,_]) O O O O<|bj Z Z Z Z<|bj Z Z Z Z<|bj Z Z Z Z<|bj Z Z Z Z<|bj Z Z Z Z bF) (fun _=>Z) (fun V A ar=>?_);refine Sr 4 Z<|aK<|aA (?_);obtain⟨w,u,j,ar⟩:=D.cq (M:=[_]) ar;exact aB Z Z ⟨w,u,by unfold gj;rw[show H m 1=false from h4,show H m 2=true from C];exact(jt (E:=3) (b:=A) (e:=3) (xs:=[1,2,3,4,5]) (by simp)).jK fun y B=>j _ B,ar⟩
 refine aG<|aC<|SW 6 Z ?_;exact aB Z Z ⟨K,KP.le_refl K,by unfold gj;rw[show H m 1=false from h4,show H m 2=false from C];exact .inl ⟨Z,Z⟩,ar⟩
theorem Lr {G:Cx} (hG:Plain G) {K:KP} {g:XG} {va vb vc vd:U} (hg:gY K g va vb vc vd) (T:dO g) {V:aE} {L:Own} (ar:D V K L):
  bu Tryz.prog G 75 [.agg [va,vb,vc,vd]] V fun v V'=>v= .int .i64 (DF g)/\D V' K L:=by
 have hvl:=p4 T;refine SQ hG Tryz.func75 Z<|Sm 2 Z<|kp ar Z (cC Z Z) (fun V b1 ar=>?_);refine RE 5 Z<|Y Z (TE Z ar.g0 (n:=4) (vs:=[_,_,_,_]) Z) Z<|cM Z (TB Z Z Z) (fun _=>Z) (OM hG hg T ar) ?_;rintro u7 V ⟨M7,hO7,ar⟩;obtain⟨K1,A,W,ar⟩:=D.cq (M:=M7) ar;have I:bL K1 2 nH (ij g) u7:=hO7.jK fun y hy=>W _ hy
 replace hg:=hg.mono A;refine Q8 10 Z ?_;obtain⟨LL1,ar,hLL1⟩:=ar.named;refine bf ([2,4,5]++rg 8 47) (fun j t V=>∃(i:Nat),j+i=nV g/\ew (nJ g) (ij g) 0=ew (nJ g) ((ij g).drop i) i/\t.get 4=some (.int .i64 (.ofNat i))/\D V K1 LL1) (nV g) ⟨0,Z,Z,Z,ar⟩ ?_;clear ar;intro j3 t V an hI;obtain⟨i,bw,he,a9,ar⟩:=hI;subst hLL1;obtain⟨oo,rfl⟩:=an.q1 a9 Z;refine Ry 5 Z<|Y Z (TF I Z Z Z (e:=51) Z) Z<|So 3 Z<|aD Z (fun z=>?_) (fun z=>?_)
 ·refine Qs 6 Z ?_;have u:i<nV g:=bc z;refine SY 2 Z<|Tw (e:=51) (m:=2) I (eJ u) Z Z Z Z (fun b0 bi am bk ao=>?_);obtain rfl:=ao;refine Y Z (TI ar am Z Z) Z<|kp ar Z (TG (cs:=[N,N])) (fun V b2 ar=>?_);refine bZ ar Z (TJ Z Z Z ar.g0 (m:=2) Z Z (cells':=[_,_]) Z) Z (fun V ar=>?_);refine So 2 Z<|al<|al<|aU (l:=zp [0,1,2,3,4,5,6,7,8,9,10,11,12,13,14,15,16,17]) O O<|S3 ar 3 [0,0] Z Z<|eg Z Z (aq Z) (fun _=>Z) (fun w=>?_) (fun w=>?_)
  ·refine Ss 17 Z<|bg<|aO<|aL<|SV 5 Z ?_;have ar:=ar.pop;have hlp:=bc z;have B:nJ g (fM g i)=false:=by show(bif H (fM g i).cy 0 then false else _)=false;rw[show H (fM g i).cy 0=true from w];rfl
   refine aH ⟨j3-1,by omega,oF,i+1,by omega,by rw[he,cu<|eJ u];show(bif nJ g (fM g i) then _ else _)=_;rw[B];rfl,cI<|aW oM,ar⟩
  obtain⟨tt,kk,row,e,C,E,bb,ap⟩:∃(t k:Nat) (row:List db) (e:db),fM g i=⟨.ofNat (t+1),.ofNat k⟩/\g.threads[t]?=some row/\row[k]?=some e/\fg g i=e:=by rcases jL u with ⟨x,v,h1,_⟩ | h;(rw[h1] at w;exact Bool.noConfusion (show true=false from w));exact h
  refine S3 ar 4 [1,1,0,0] Z Z (ai Z Z (ax (v:=.int .i64 (.ofNat tt)) Z Z (by rw[C];exact cI (gW (by have:=T.threads;have:=(gA.1 E).1;omega)))) Z<|Tx (e:=56) (m:=1) hg.threads E Z Z Z Z Z (fun b3 bl a0 bm a1=>?_));have hr27':=a1;obtain⟨b4,rfl,a2⟩:=hr27';refine ai Z Z (TH ar a0 Z Z) Z<|S3 ar 2 [1,0] Z Z<|Tx (e:=59) (m:=5) a2 bb Z Z Z Z (cI<|congrArg cY.index C) (fun b5 bo a3 bp a4=>?_);obtain rfl:=a4;refine eQ a3 Z Z Z Z (k:=0) O (lb Z) (fun _=>Z) (fun b6 a5=>?_);refine ai Z Z (TH ar a5 Z Z) Z<|Ss 4 Z<|aD Z (fun X=>?_) (fun X=>?_)
  ·refine bg<|aO<|aL<|SV 5 Z ?_;have ar:=ar.pop;have hlp:=bc z;have B:nJ g (fM g i)=false:=by unfold nJ;rw[show H (fM g i).cy 0=false from w,show mK (dn g<|fM g i)=fg g i from Z,ap,show bh (H e.kind 3)=true from X];rfl
   refine aH ⟨j3-1,by omega,oF,i+1,by omega,by rw[he,cu<|eJ u];show(bif nJ g (fM g i) then _ else _)=_;rw[B];rfl,cI<|aW oM,ar⟩
  refine Rz 3 Z (aU (l:=[(0,[]),(1,[]),(3,[]),(4,[]),(5,[]),(6,[]),(7,[]),(8,[]),(9,[]),(10,[]),(11,[]),(12,[]),(13,[]),(14,[]),(2,[3,5,7,10,12,14]),(15,[]),(16,[]),(17,[])]) O O ?_);have aa:H (fg g i).kind 3=true:=by rw[ap];exact bK X
  obtain⟨bd,kk2,bq,e2,frow,q,F,be,_,_,ab,hq,a6,_⟩:=Kj T u (pS aa);obtain⟨rfl,rfl⟩:tt=bd/\kk=kk2:=by rw[C] at F;exact⟨by have:=iJ_ (congrArg cY.cy F);omega,by have:=iJ_ (congrArg cY.index F);omega⟩
  refine ai Z Z (TE Z ar.g1 (n:=4) (vs:=[_,_,_,_]) Z) Z (ai Z Z (TE Z ar.g0 (n:=2) (vs:=[_,_]) Z) Z (ai Z Z (TE Z ar.g1 (n:=4) (vs:=[_,_,_,_]) Z) Z (S3 ar 4 [2,1,0,0] Z Z (ai Z Z (ax (v:=.int .i64 (.ofNat tt)) Z Z (by rw[C];exact cI (gW (by have:=T.threads;have:=(gA.1 E).1;omega)))) Z<|Tx (e:=49) (m:=1) hg.from_ ab Z Z Z Z Z (fun b7 br Q bs a7=>?_)))));have hr45':=a7;obtain⟨b8,rfl,R⟩:=hr45';refine ai Z Z (TH ar Q Z Z) Z<|S3 ar 2 [1,0] Z Z<|Tx (e:=51) (m:=2) R hq Z Z Z Z (cI<|congrArg cY.index C) (fun ca bt S bv a8=>?_);obtain rfl:=a8;refine ai Z Z (TI ar S Z Z) Z<|eB Z Z (TB Z Z Z) (fun _=>Z) (GS hG hg T (fM g i) ar) (fun V ar=>?_);refine⟨(bx (bC Z Z Z Z Z (TE Z ar.g1 (n:=4) (vs:=[_,_,_,_]) Z)<|iP<|cR hg.init.lh<|cR hg.threads.lh<|cR hg.from_.lh<|cR hg.order.lh gM)<|bx (bC Z Z Z Z Z (TD Z ar.g1 Z) hg.from_.eh)<|bx (bC Z Z Z Z Z (TD Z ar.g0 Z)<|ez _ _)<|bx (bC Z Z Z Z Z (TH ar Q Z Z) R.eh)<|bx (bC Z Z Z Z Z (TD Z ar.g0 Z)<|ez _ _)<|bx (bC Z Z Z Z Z (TI ar S Z Z)<|iP<|cR (fq _ _)<|cR (fq _ _) gM) ba),?_⟩;refine eB Z Z (TB Z Z Z) (fun _=>Z) (GS hG hg T q ar) (fun V ar=>?_);refine⟨ba,?_⟩;refine Ss 4 Z<|aD Z (fun ac=>?_) (fun ac=>?_)
  ·refine SW 7 Z<|aK<|aA<|bD<|aK<|aA (?_);exact aB Z Z ⟨cJ (by symm;show ew (nJ g) (ij g) 0=_;rw[he,cu<|eJ u];show(bif nJ g (fM g i) then _ else _)=_;rw[show nJ g (fM g i)=true from by unfold nJ;rw[show H (fM g i).cy 0=false from w,show mK (dn g<|fM g i)=fg g i from Z,aa,a6];exact ac];rfl),(ar.pop.pop).weaken A⟩
  refine aG<|aC<|SV 5 Z ?_;have ar:=ar.pop;have hlp:=bc z;have B:nJ g (fM g i)=false:=by unfold nJ;rw[show H (fM g i).cy 0=false from w,show mK (dn g<|fM g i)=fg g i from Z,aa,a6];exact ac
  refine aH ⟨j3-1,by omega,oF,i+1,by omega,by rw[he,cu<|eJ u];show(bif nJ g (fM g i) then _ else _)=_;rw[B];rfl,cI<|aW oM,ar⟩
 refine RC 3 Z<|aL<|SW 6 Z ?_;exact aB Z Z ⟨cJ (by symm;show ew (nJ g) (ij g) 0=_;rw[he,eF<|bA z];rfl),(ar.pop).weaken A⟩
theorem Lq {G:Cx} (Q:Plain G) {K:KP} {g:XG} {va vb vc vd:U} (hg:gY K g va vb vc vd) (hR:dO g) (x:Int) {u0 u1 u2 u3 ue up ul us uh:U} (hd:BH K g u0 u1 u2 u3 ue up ul us uh) {V:aE} {L:Own} (ar:D V K L):
  bu Tryz.prog G 55 [.int .i64 x,.agg [va,vb,vc,vd],.agg<|sY (nV g) u0 u1 u2 u3 ue up ul us uh] V fun v V'=>(∃y1 y2:Int,v= .tuple [.agg [.int .i64 x,.int .i64 y1,.int .i64 y2],.bool<|eI g x])/\D V' K L:=by
 have hvl:=p4 hR;refine SQ Q Tryz.func55 Z<|Sm 2 Z<|kp ar Z (cC Z Z) (fun V b1 ar=>?_);refine kp ar Z (cC Z Z) (fun V b2 ar=>?_);refine kp ar Z (TG (cs:=[N,N,N])) (fun V b3 ar=>?_);refine RE 6 Z (Y Z (TA (places:=[(0,1),(1,1),(2,1)]) (zero:=[N,N,N]) (cs:=[_,_,_]) Z) Z<|kp ar Z (TG (cs:=[N,N,N])) (fun V b4 ar=>?_));refine bZ ar Z (TJ Z Z Z ar.g0 (m:=3) Z Z (cells':=[_,_,_]) Z) Z (fun V ar=>?_);refine Q8 15 Z<|aD Z (fun u=>?_) (fun u=>?_)
 ·refine ah Z<|Y Z (TE Z (ar.get 3 Z) (n:=4) (vs:=[_,_,_,_]) Z) Z<|bz Z (TB Z Z Z) (fun _=>Z) (Lr Q hg hR ar) (fun V ar=>?_);refine Y Z (TC 1 Z) Z<|bZ ar Z (TJ Z Z Z ar.g0 (m:=1) Z Z (cells':=[_,_,_]) Z) Z (fun V ar=>?_);refine af (aC (ad (al (aU (l:=[(0,[]),(1,[]),(2,[]),(3,[]),(4,[2]),(5,[])]) O O<|ai Z Z (TE Z ar.g0 (n:=3) (vs:=[_,_,_]) Z) Z<|S3 ar 3 [1,0] Z Z<|oN ar Z Z (TJ Z Z Z ar.g1 (m:=3) Z Z (cells':=[_,_,_]) Z) Z (fun V ar=>?_)))));refine⟨(bx (bC Z Z Z Z Z (TD Z ar.g0 Z)<|ez _ _) ba),?_⟩;refine Su 4 Z ?_;exact cA Z Z ar.g1 (m:=3) O Z Z ⟨⟨_,_,by rw[show eI g x=bh (b9 (DF g) 0) from by unfold eI;rw[show H x 2=true from u];rfl];rfl⟩,ar.pop.pop.pop.pop⟩
 refine Sm 4 Z<|So 2 Z<|aD Z (fun w=>?_) (fun w=>?_)
 ·refine S1 ar 3 [8,2] Z Z<|Y Z (TE Z (ar.get 2 Z) (n:=2) (vs:=[_,_]) Z) Z<|bz Z (TB Z Z Z) (fun _=>Z) (AX Q (n:=nV g) (A:=GN g) oM hd.PR ar) (fun V ar=>?_);refine Y Z (TC 1 Z) Z<|bZ ar Z (TJ Z Z Z ar.g0 (m:=1) Z Z (cells':=[_,_,_]) Z) Z (fun V ar=>?_);refine af (aC (ad (al (aU (l:=[(0,[]),(1,[]),(2,[]),(3,[]),(4,[2]),(5,[])]) O O<|ai Z Z (TE Z ar.g0 (n:=3) (vs:=[_,_,_]) Z) Z<|S3 ar 3 [1,0] Z Z<|oN ar Z Z (TJ Z Z Z ar.g1 (m:=3) Z Z (cells':=[_,_,_]) Z) Z (fun V ar=>?_)))));refine⟨(bx (bC Z Z Z Z Z (TD Z ar.g0 Z)<|ez _ _) ba),?_⟩;refine Su 4 Z ?_;exact cA Z Z ar.g1 (m:=3) O Z Z ⟨⟨_,_,by rw[show eI g x=bh (b9 (nw (nV g)<|GN g) 0) from by unfold eI;rw[show H x 2=false from u,show H x 3=true from w];rfl];rfl⟩,ar.pop.pop.pop.pop⟩
 refine Sm 4 Z<|So 2 Z<|aD Z (fun C=>?_) (fun C=>?_)
 ·refine S1 ar 3 [8,8] Z Z<|Y Z (TE Z (ar.get 2 Z) (n:=2) (vs:=[_,_]) Z) Z<|bz Z (TB Z Z Z) (fun _=>Z) (AX Q (n:=nV g) (A:=EU g) oM hd.hb ar) (fun V ar=>?_);refine Y Z (TC 1 Z) Z<|bZ ar Z (TJ Z Z Z ar.g0 (m:=1) Z Z (cells':=[_,_,_]) Z) Z (fun V ar=>?_);refine af (aC (ad (al (aU (l:=[(0,[]),(1,[]),(2,[]),(3,[]),(4,[2]),(5,[])]) O O<|ai Z Z (TE Z ar.g0 (n:=3) (vs:=[_,_,_]) Z) Z<|S3 ar 3 [1,0] Z Z<|oN ar Z Z (TJ Z Z Z ar.g1 (m:=3) Z Z (cells':=[_,_,_]) Z) Z (fun V ar=>?_)))));refine⟨(bx (bC Z Z Z Z Z (TD Z ar.g0 Z)<|ez _ _) ba),?_⟩;refine Su 4 Z ?_;exact cA Z Z ar.g1 (m:=3) O Z Z ⟨⟨_,_,by rw[show eI g x=bh (b9 (nw (nV g)<|EU g) 0) from by unfold eI;rw[show H x 2=false from u,show H x 3=false from w,show H x 4=true from C];rfl];rfl⟩,ar.pop.pop.pop.pop⟩
 refine Sm 4 Z<|So 2 Z<|aD Z (fun F=>?_) (fun F=>?_)
 ·refine S1 ar 3 [0,0] Z Z<|Y Z (TE Z (ar.get 2 Z) (n:=2) (vs:=[_,_]) Z) Z<|S2 ar 2 [0,2] Z Z<|Y Z (TE Z (ar.get 2 Z) (n:=2) (vs:=[_,_]) Z) Z<|S2 ar 2 [0,4] Z Z<|Y Z (TE Z (ar.get 2 Z) (n:=2) (vs:=[_,_]) Z) Z<|S2 ar 2 [0,6] Z Z<|Y Z (TE Z (ar.get 2 Z) (n:=2) (vs:=[_,_]) Z) Z<|fe ar Z (bP (e:=110) (m:=2) (z:=[N,.az]) (cs:=[_,_,_,_,_,_,_,_]) O O O O<|bj Z Z Z Z<|bj Z Z Z Z<|bj Z Z Z Z<|bj Z Z Z Z bF) (fun _=>Z) (fun V b5 ar=>?_);obtain⟨Ka,lea,mema,ar⟩:=D.cq (M:=[_]) ar;have hla:=LA (n:=nV g) (mema _<|mS_ ..) (hd.po.mono lea fun _ _ h=>h) (hd.rf.mono lea fun _ _ h=>h) (hd.co.mono lea fun _ _ h=>h) (hd.fr.mono lea fun _ _ h=>h);refine cM Z (TB Z Z Z) (fun _=>Z) (Fp Q (n:=nV g) oM hla (Nat.succ_pos _) ar) ?_;rintro _ V ⟨oa,rfl,ar⟩;obtain⟨Kb,leb,memb,ar⟩:=D.cq (M:=[_]) ar;have hoa:=fE (memb _<|mS_ ..) (cF (nV g)<|Jl g) oM;have leA:=KP.le_trans lea leb;refine bz Z (TB Z Z Z) (fun _=>Z) (AX Q (n:=nV g) (A:=Jl g) oM hoa ar) (fun V ar=>?_);refine Y Z (TC 1 Z) Z<|bZ ar Z (TJ Z Z Z ar.g0 (m:=1) Z Z (cells':=[_,_,_]) Z) Z (fun V ar=>?_);refine af (aC (ad (al (aU (l:=[(0,[]),(1,[]),(2,[]),(3,[]),(4,[2]),(5,[])]) O O<|ai Z Z (TE Z ar.g0 (n:=3) (vs:=[_,_,_]) Z) Z<|S3 ar 3 [1,0] Z Z<|oN ar Z Z (TJ Z Z Z ar.g1 (m:=3) Z Z (cells':=[_,_,_]) Z) Z (fun V ar=>?_)))));refine⟨(bx (bC Z Z Z Z Z (TD Z ar.g0 Z)<|ez _ _) ba),?_⟩;refine Su 4 Z ?_;exact cA Z Z ar.g1 (m:=3) O Z Z ⟨⟨_,_,by rw[show eI g x=bh (b9 (nw (nV g)<|Jl g) 0) from by unfold eI;rw[show H x 2=false from u,show H x 3=false from w,show H x 4=false from C,show H x 6=true from F];rfl];rfl⟩,(ar.pop.pop.pop.pop).weaken leA⟩
 refine Sm 4 Z<|So 2 Z<|aD Z (fun R=>?_) (fun R=>?_)
 ·refine al (aU (l:=[(0,[]),(1,[]),(2,[]),(3,[]),(4,[]),(5,[]),(6,[2]),(7,[]),(8,[]),(9,[])]) O O<|S3 ar 2 [8,8] Z Z<|ai Z Z (TE Z (ar.get 2 Z) (n:=2) (vs:=[_,_]) Z) Z<|S3 ar 2 [8,0] Z Z<|ai Z Z (TE Z (ar.get 2 Z) (n:=2) (vs:=[_,_]) Z) Z<|fB Z Z (TB Z Z Z) (fun _=>Z) (P1 Q (n:=nV g) (A:=sZ g) oM hd.QM ar) ?_);rintro _ V ⟨ot,rfl,ar⟩;obtain⟨Ka,lea,mema,ar⟩:=D.cq (M:=[_]) ar;have hot:=fE (mema _<|mS_ ..) (cF (nV g)<|mH<|sZ g) oM;replace hd:=hd.mono lea;refine⟨(bx (bC Z Z Z Z Z (TE Z (ar.get 2 Z) (n:=2) (vs:=[_,_]) Z)<|iP<|cR (fq _ _)<|cR hd.hb.lh gM) ba),?_⟩;refine fB Z Z (TB Z Z Z) (fun _=>Z) (Rd Q (n:=nV g) (A:=EU g) (B:=mH<|sZ g) oM hd.hb hot ar) ?_;rintro _ V ⟨Kb,oc,leb,rfl,ar⟩;obtain⟨Kc,lec,memc,ar⟩:=D.cq (M:=[_]) ar;have hoc:=fE (memc _<|mS_ ..) (cF (nV g)<|ug (EU g)<|mH<|sZ g) oM;refine⟨ba,?_⟩;refine fB Z Z (TB Z Z Z) (fun _=>Z) (NZ Q (n:=nV g) oM hoc ar) ?_;rintro bl V ⟨a4,hM61,ar⟩;obtain⟨Kd,led,memd,ar⟩:=D.cq (M:=a4) ar;have hps:=hM61.jK (K:=Kd) fun y hy=>memd _ hy
  have leA:=KP.le_trans lea (KP.le_trans leb<|KP.le_trans lec led);refine⟨ba,?_⟩;refine Ss 8 Z (aJ (bf ([10]++rg 62 29) (fun j t V=>∃(k:Nat),j+k=(jf (nV g)<|ug (EU g)<|mH<|sZ g).length/\(jf (nV g)<|ug (EU g)<|mH<|sZ g).any (fun p:Nat×Nat=>bh (H (.ofNat p.1) (.ofNat p.2)))=((jf (nV g)<|ug (EU g)<|mH<|sZ g).drop k).any (fun p:Nat×Nat=>bh (H (.ofNat p.1) (.ofNat p.2)))/\t.get 10=some (.int .i64 (.ofNat k))/\D V Kd ((b4,.row [.int .i64 x,.int .i64 (-1),.int .i64 (-1)] 78 false)::(b3,.row [N,N,N] 78 false)::(b2,.row (sY (nV g) u0 u1 u2 u3 ue up ul us uh) 116 false)::(b1,.row [va,vb,vc,vd] 27 false)::L)) ((jf (nV g)<|ug (EU g)<|mH<|sZ g).length) ⟨0,Z,Z,Z,ar⟩ ?_));clear ar;intro a5 t V an hI;obtain⟨k,a6,he,W,ar⟩:=hI;obtain⟨oo,rfl⟩:=an.q1 W Z;refine Ry 5 Z<|Y Z (TF hps Z Z Z (e:=138) Z) Z<|So 3 Z<|aD Z (fun I=>?_) (fun I=>?_)
  ·refine Qr 5 Z<|aU (l:=zp [0,1,2,3,4,5,6,7,8,9,10]) O O ?_;obtain⟨⟨pa,pb⟩,E,_⟩:=cK I;refine S0 2 Z<|Tx (e:=138) (m:=2) hps E Z Z Z Z Z (fun bm a7 X a8 aa=>?_);obtain rfl:=aa;refine qS X Z Z Z Z (nn:=2) (e:=3) (m:=1) (j:=0) Z O O (by decide) (lb Z) (fun _=>Z) (fun bo ab=>?_);refine ai Z Z (TH ar ab Z Z) Z<|S0 2 Z<|Tx (e:=138) (m:=2) hps E Z Z Z Z Z (fun bp a9 ac bb am=>?_);obtain rfl:=am;refine qS ac Z Z Z Z (nn:=2) (e:=3) (m:=1) (j:=1) Z O O (by decide) (lb Z) (fun _=>Z) (fun bq ao=>?_);refine ai Z Z (TH ar ao Z Z) Z<|Ss 3 Z<|aD Z (fun T=>?_) (fun T=>?_)
   ·refine al (aU (l:=[(0,[]),(1,[]),(2,[]),(3,[]),(4,[]),(5,[]),(6,[]),(7,[]),(8,[]),(9,[]),(10,[]),(11,[9]),(12,[]),(13,[])]) O O<|S0 2 Z<|Tx (e:=138) (m:=2) hps E Z Z Z Z Z (fun br bd ap be a0=>?_));obtain rfl:=a0;refine qS ap Z Z Z Z (nn:=2) (e:=3) (m:=1) (j:=0) Z O O (by decide) (lb Z) (fun _=>Z) (fun bs a1=>?_);refine ai Z Z (TH ar a1 Z Z) Z<|S0 2 Z<|Tx (e:=138) (m:=2) hps E Z Z Z Z Z (fun bt bi a2 bk a3=>?_);obtain rfl:=a3;refine qS a2 Z Z Z Z (nn:=2) (e:=3) (m:=1) (j:=1) Z O O (by decide) (lb Z) (fun _=>Z) (fun bv S=>?_);refine ai Z Z (TH ar S Z Z) Z<|ai Z Z (TC 1 Z) Z<|iM ar Z Z (TJ Z Z Z ar.g0 (m:=1) Z Z (cells':=[_,_,_]) Z) Z (fun V ar=>?_);refine⟨(bx (bC Z Z Z Z Z (TH ar S Z Z)<|ez _ _) ba),?_⟩;refine ai Z Z (TC 2 Z) Z<|iM ar Z Z (TJ Z Z Z ar.g0 (m:=1) Z Z (cells':=[_,_,_]) Z) Z (fun V ar=>?_);refine⟨ba,?_⟩;refine Ss 2 Z (bg (sV Z (aO (aS (aL (aC (ad (al (aU (l:=[(0,[]),(1,[]),(2,[]),(3,[]),(4,[2]),(5,[])]) O O<|ai Z Z (TE Z ar.g0 (n:=3) (vs:=[_,_,_]) Z) Z<|S3 ar 3 [1,0] Z Z<|oN ar Z Z (TJ Z Z Z ar.g1 (m:=3) Z Z (cells':=[_,_,_]) Z) Z (fun V ar=>?_))))))))));refine⟨(bx (bC Z Z Z Z Z (TD Z ar.g0 Z)<|ez _ _) ba),?_⟩;refine Su 4 Z ?_;exact cA Z Z ar.g1 (m:=3) O Z Z ⟨⟨_,_,by rw[show eI g x=true from by unfold eI;rw[show H x 2=false from u,show H x 3=false from w,show H x 4=false from C,show H x 6=false from F,show H x 5=true from R];show((jf (nV g)<|ug (EU g)<|mH<|sZ g).any (fun p:Nat×Nat=>bh (H (.ofNat p.1) (.ofNat p.2))))=true;rw[he,cu E,List.any_cons];show(bh (H (.ofNat pa) (.ofNat pb)) || _)=true;rw[show bh (H (.ofNat pa) (.ofNat pb))=true from T];rfl];rfl⟩,(ar.pop.pop.pop.pop).weaken leA⟩
   refine aG<|aC<|SV 5 Z ?_;have hlp:=bc I;refine aH ⟨a5-1,by have:=bc I;omega,oF,k+1,by omega,by rw[he,cu E,List.any_cons];show(bh (H (.ofNat pa) (.ofNat pb)) || _)=_;rw[show bh (H (.ofNat pa) (.ofNat pb))=false from T];rfl,cI<|aW (by have:=hps.bO;omega),ar⟩
  refine RC 3 Z (aL (aC (ad (al (aU (l:=[(0,[]),(1,[]),(2,[]),(3,[]),(4,[2]),(5,[])]) O O<|ai Z Z (TE Z ar.g0 (n:=3) (vs:=[_,_,_]) Z) Z<|S3 ar 3 [1,0] Z Z<|oN ar Z Z (TJ Z Z Z ar.g1 (m:=3) Z Z (cells':=[_,_,_]) Z) Z (fun V ar=>?_))))));refine⟨(bx (bC Z Z Z Z Z (TD Z ar.g0 Z)<|ez _ _) ba),?_⟩;refine Su 4 Z ?_;exact cA Z Z ar.g1 (m:=3) O Z Z ⟨⟨_,_,by rw[show eI g x=false from by unfold eI;rw[show H x 2=false from u,show H x 3=false from w,show H x 4=false from C,show H x 6=false from F,show H x 5=true from R];show((jf (nV g)<|ug (EU g)<|mH<|sZ g).any (fun p:Nat×Nat=>bh (H (.ofNat p.1) (.ofNat p.2))))=false;rw[he,eF<|bA I];rfl];rfl⟩,(ar.pop.pop.pop.pop).weaken leA⟩
 refine aG (aC (ad (al (aU (l:=[(0,[]),(1,[]),(2,[]),(3,[]),(4,[2]),(5,[])]) O O<|ai Z Z (TE Z ar.g0 (n:=3) (vs:=[_,_,_]) Z) Z<|S3 ar 3 [1,0] Z Z<|oN ar Z Z (TJ Z Z Z ar.g1 (m:=3) Z Z (cells':=[_,_,_]) Z) Z (fun V ar=>?_)))));refine⟨(bx (bC Z Z Z Z Z (TD Z ar.g0 Z)<|ez _ _) ba),?_⟩;refine Su 4 Z ?_;exact cA Z Z ar.g1 (m:=3) O Z Z ⟨⟨_,_,by rw[show eI g x=false from by unfold eI;rw[show H x 2=false from u,show H x 3=false from w,show H x 4=false from C,show H x 6=false from F,show H x 5=false from R];rfl];rfl⟩,ar.pop.pop.pop.pop⟩
end Go.Ev
end
