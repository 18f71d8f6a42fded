/- Part of the proof: an evaluator of the model's code, rules for walks on it, walks. Without conditions. -/
import Derived.Test.YtpomgjnfncgkgaaGreatDoorEb
import Derived.Test.YtpomgjnfncgkgaaGreatDoorEd
import Derived.Test.YtpomgjnfncgkgaaGreatDoorEc
import Derived.Test.YtpomgjnfncgkgaaGreatDoorProg
import Derived.KernelRfl
set_option linter.unusedSectionVars false
set_option linter.unusedVariables false
set_option linter.unusedSimpArgs false
noncomputable section
namespace Go.Ev
variable [Env]
open Go.Proofs
set_option maxRecDepth 4000
set_option maxHeartbeats 8000000
theorem z7 {g:XG} (h:cd g=0):MI g:=by
 obtain⟨b1,b2,b,d,b5,u,b7⟩:=dc h;exact⟨by omega,by omega,fun l hl=>by have:=b l hl;omega,by omega,fun l hl=>by have:=p8 u d b l hl;omega,by omega,fun l hl=>by have:=jA h l hl;omega⟩
def Fb (K:KP) (L:Own) (g:XG) (th:Int) (e:bW) (fr:bT) (pl:Int) (v:V) (O':N):Prop:=
 (∃er,gD g th e fr pl=(none,er)/\v= .tuple [.agg [.av,.av,.av,.av],.int .i64 er]/\D O' K L)∨
 (∃g' a' b' c' d' M,gD g th e fr pl=(some g',0)/\v= .tuple [.agg [a',b',c',d'],J]/\eW (K.m7 M) g' a' b' c' d'/\D O' K (M++L))
theorem v8 {G:Cx} (u:Plain G) {K:KP} {L MM:Own} {O:N} {g:XG} {a b c d:V} (ar:D O K (MM++L)) (h:eW (K.m7 MM) g a b c d):a8 Tryz.prog G 45 [.agg [a,b,c,d]] O fun v O'=>v= .int .i64 (cd g)/\D O' K (MM++L):=
 (vM u h ar.keeps).mono fun _ _ hh=>⟨hh.1,D.Gi ar hh.2⟩
theorem H2 {K:KP} {L MM:Own} {O:N} {g g':XG} {th pl:Int} {e:bW} {fr:bT} {a b c d:V} (u:gD g th e fr pl=(some g',0)) (ar:D O K (MM++L)) (h:eW (K.m7 MM) g' a b c d):Fb K L g th e fr pl (.tuple [.agg [a,b,c,d],J]) O:=.inr ⟨g',a,b,c,d,MM,u,Z,h,ar⟩
theorem qB {α:Type} {K:KP} {R:α->List V->Prop} {x:α} {m vb e:Nat} {cs:List V} (d:R x cs) (hm:cs.length=m) (b:K vb (.row cs e false)):bF K m R [x] (.slice vb 0 1 (.known 1)):=by
 subst hm;refine .inr ⟨vb,0,_,_,e,false,Z,.inr ⟨_,Z,nR_ _⟩,b,?_,(by simp),fun i y h=>?_⟩
 ·rw[List.length_singleton];omega
 cases i with
 | zero=>simp only[List.getElem?_cons_zero,oJ_] at h;subst h;rw[Nat.zero_mul,nA_,List.drop_zero,List.take_length];exact d
 | succ i=>simp at h
theorem zm {G:Cx} (hG:Plain G) (bt:G.fk 70=true) (bv:G.ov 106=true) {K:KP} {g:XG} {a b c d:V} (h:eW K g a b c d) (th pl:Int) (e:bW) (fr:bT) {O:N} {L:Own} (ar:D O K L):a8 Tryz.prog G 38 [.agg [a,b,c,d],.int .i64 th,.agg [.int .i64 e.kind,.int .i64 e.loc,.int .i64 e.order,.int .i64 e.read,.int .i64 e.write],.agg [.int .i64 fr.cH,.int .i64 fr.index],.int .i64 pl] O (Fb K L g th e fr pl):=by
 have h':=h;obtain⟨hi,ht,hf,ho⟩:=h';refine QO hG Tryz.func38 Z<|Qg 2 Z<|kp ar Z (cG Z Z) (fun O b1 ar=>?_);refine kp ar Z (cG Z Z) (fun O b2 ar=>?_);refine kp ar Z (cG Z Z) (fun O b3 ar=>?_);refine kp ar Z (RD (cs:=[.av,.av,.av,.av])) (fun O b4 ar=>?_);refine O4 6 Z<|Y Z (RB Z (ar.get 3 Z) (n:=4) (vs:=[_,_,_,_]) Z) Z<|bc Z (Rx Z Z Z) (fun _=>Z) (vM hG h ar) (fun O ar=>?_);refine Qi 3 Z<|aF Z (fun u=>?_) (fun u=>?_)
 ·refine Qg 2 Z (Y Z (Rw (places:=[(0,1),(1,1),(2,1),(3,1)]) (zero:=[.av,.av,.av,.av]) (cs:=[_,_,_,_]) Z) Z<|bE ar Z (RG Z Z Z ar.g0 (m:=4) Z Z (cells':=[_,_,_,_]) Z) Z (fun O ar=>?_));refine PH 5 Z ?_;exact bC Z Z ar.g0 (m:=4) U Z Z (.inl ⟨_,Bm<|cC u,Z,ar.pop.pop.pop.pop⟩)
 refine O2 7 Z<|ky Z (an Z) (fun a3=>?_) (fun a3=>?_)
 ·refine PF 11 Z (Y Z (Rw (places:=[(0,1),(1,1),(2,1),(3,1)]) (zero:=[.av,.av,.av,.av]) (cs:=[_,_,_,_]) Z) Z<|bE ar Z (RG Z Z Z ar.g0 (m:=4) Z Z (cells':=[_,_,_,_]) Z) Z (fun O ar=>?_));refine PH 5 Z ?_;exact bC Z Z ar.g0 (m:=4) U Z Z (.inl ⟨_,Bn (bl u) a3,Z,ar.pop.pop.pop.pop⟩)
 refine QY ar 3 [1,3] Z Z<|Y Z (RC ht Z Z Z (e:=57) Z) Z<|Qi 4 Z<|aF Z (fun ba=>?_) (fun ba=>?_)
 ·refine Qg 2 Z (Y Z (Rw (places:=[(0,1),(1,1),(2,1),(3,1)]) (zero:=[.av,.av,.av,.av]) (cs:=[_,_,_,_]) Z) Z<|bE ar Z (RG Z Z Z ar.g0 (m:=4) Z Z (cells':=[_,_,_,_]) Z) Z (fun O ar=>?_));refine PH 5 Z ?_;exact bC Z Z ar.g0 (m:=4) U Z Z (.inl ⟨_,Bl (bl u) a3 ba,Z,ar.pop.pop.pop.pop⟩)
 obtain⟨tm,rfl⟩:=sj a3;have be:tm<g.threads.length:=by have:=ml ba;omega
 obtain⟨A,w⟩:=cT be;obtain⟨xf,B⟩:=cT (show tm<g.from_.length from by rw[(dc<|sx<|bl u).2.2.2.1];exact be);refine PK ar 9 [1,3] Z Z<|Rr (e:=57) (m:=1) ht w Z Z Z (cI<|fv (by have:=ht.bL;omega)) (fun cl ci bi ck bo=>?_);have hr33':=bo;obtain⟨cn,rfl,bq⟩:=hr33';refine Y Z (RE ar bi Z Z) Z (Y Z (RC bq Z Z Z (e:=56) Z) Z (Y Z (Rw (places:=[(0,1),(1,1)]) (zero:=[J,J]) (cs:=[_,_]) Z) Z<|kp ar Z (RD (cs:=[J,J])) (fun O b5 ar=>?_)));refine bE ar Z (RG Z Z Z ar.g0 (m:=2) Z Z (cells':=[_,_]) Z) Z (fun O ar=>?_);refine O6 ar 8 [1,0] Z Z<|Qi 2 Z<|aF Z (fun M=>?_) (fun M=>?_)
 ·refine Qg 2 Z (Y Z (Rw (places:=[(0,1),(1,1),(2,1),(3,1)]) (zero:=[.av,.av,.av,.av]) (cs:=[_,_,_,_]) Z) Z<|eE ar Z (RG Z Z Z ar.g1 (m:=4) Z Z (cells':=[_,_,_,_]) Z) Z (fun O ar=>?_));refine PH 5 Z ?_;exact bC Z Z ar.g1 (m:=4) U Z Z (.inl ⟨_,by rw[kz (bl u) w B,show cq (.ofNat A.length) 14=false from cC M];rfl,Z,ar.pop.pop.pop.pop.pop⟩)
 refine O2 5 Z<|Y Z (RB Z (ar.get 3 Z) (n:=5) (vs:=[_,_,_,_,_]) Z) Z<|bc Z (Rx Z Z Z) (fun _=>Z) (jG hG _ ar) (fun O ar=>?_);refine ky Z (an Z) (fun C=>?_) (fun C=>?_)
 ·refine QV 2 Z<|ky Z (an Z) (fun am=>?_) (fun am=>?_)
  ·refine PF 23 Z (Y Z (Rw (places:=[(0,1),(1,1),(2,1),(3,1)]) (zero:=[.av,.av,.av,.av]) (cs:=[_,_,_,_]) Z) Z<|eE ar Z (RG Z Z Z ar.g1 (m:=4) Z Z (cells':=[_,_,_,_]) Z) Z (fun O ar=>?_));refine PH 5 Z ?_;exact bC Z Z ar.g1 (m:=4) U Z Z (.inl ⟨_,by rw[kz (bl u) w B,show cq (.ofNat A.length) 14=true from bl M];show(bif cW g e pl then _ else _)=_;rw[show cW g e pl=true from by unfold cW;rw[C];show(bif cq pl 1 then true else _)=true;rw[am];rfl];rfl,Z,ar.pop.pop.pop.pop.pop⟩)
  refine vQ 1 Z (Y Z (RB Z (ar.get 4 Z) (n:=4) (vs:=[_,_,_,_]) Z) Z (QY ar 2 [1,3] Z Z (bR Z (Rx Z Z Z) (fun _=>Z) (tw hG h (fun l hl=>by have:=jA (sx<|bl u) l hl;omega) _ ar) ?_)));rintro co O ⟨cp,hM51,ar⟩;replace ar:=ar.bA;refine Y Z (Oa hM51 Z Z Z (e:=67) U Z) Z<|QV 3 Z<|ky Z (an Z) (fun ap=>?_) (fun ap=>?_)
  ·refine PF 13 Z (Y Z (Rw (places:=[(0,1),(1,1),(2,1),(3,1)]) (zero:=[.av,.av,.av,.av]) (cs:=[_,_,_,_]) Z) Z<|eE ar Z (RG Z Z Z ar.g1 (m:=4) Z Z (cells':=[_,_,_,_]) Z) Z (fun O ar=>?_));refine PH 5 Z ?_;exact bC Z Z ar.g1 (m:=4) U Z Z (.inl ⟨_,by rw[kz (bl u) w B,show cq (.ofNat A.length) 14=true from bl M];show(bif cW g e pl then _ else _)=_;rw[show cW g e pl=true from by unfold cW;rw[C];show(bif cq pl 1 then true else _)=true;rw[am];exact ap];rfl,Z,ar.pop.pop.pop.pop.pop⟩)
  refine Y Z (RB Z (ar.get 3 Z) (n:=5) (vs:=[_,_,_,_,_]) Z) Z<|bc Z (Rx Z Z Z) (fun _=>Z) (jG hG _ ar) (fun O ar=>?_);refine Y Z (dq Z) Z<|ky Z (an Z) (fun aq=>?_) (fun aq=>?_)
  ·exact absurd C (by rw[mn aq];decide)
  refine O5 11 Z<|Y Z (RB Z (ar.get 4 Z) (n:=4) (vs:=[_,_,_,_]) Z) Z<|bR Z (Rx Z Z Z) (fun _=>Z) (xN hG h (z7<|sx<|bl u) ar) ?_;rintro _ O ⟨u1,M1,b6,bw,M2,b7,b0,M3,b8,ca,M4,rfl,W,ar⟩;have hOt:=W.threads;have hOf:=W.from_;have hOo:=W.order;refine kp ar Z (RD (cs:=[.av,.av,.av,.av])) (fun O b9 ar=>?_);refine bE ar Z (RG Z Z Z ar.g0 (m:=4) Z (af W.init.leaf.2 Z) (cells':=[_,_,_,_]) Z) Z (fun O ar=>?_);refine PE 3 Z (aQ (l:=[(0,[]),(1,[]),(2,[]),(3,[]),(4,[]),(5,[]),(6,[]),(7,[]),(8,[]),(9,[]),(10,[]),(11,[]),(12,[1]),(13,[]),(14,[])]) U U<|QZ ar 8 [1,0,1,0] Z Z ?_);obtain⟨utt,Mtt,At,Bt,S,aE,a0,aa⟩:=hOt.at w;subst a0;refine aj Z Z (eI (e:=57) (m:=1) Z U Z (cI<|fv (by have:=ht.bL;omega)) (show tm<g.threads.length from(gA.1 w).1)) Z (aj Z Z (ax Z ar.pop.bA.pop.bA.pop.bA.g0 U (by rw[eU,show 0+tm*1=tm from by omega];exact S)) Z<|aj Z Z (RB Z ar.pop.bA.pop.bA.pop.bA.pop.bA.pop.pop.pop.g0 (n:=5) (vs:=[_,_,_,_,_]) Z) Z<|sf ar Z Z (cm (e:=56) (m:=5) (z:=[J,J,J,J,J]) (cs:=[_,_,_,_,_]) U U U U<|bj Z Z Z Z bO) (fun _=>Z) (fun O cb ar=>?_));have hpl:=(ar.pull (X:=Mtt) (.there (.there (.dv (.there (.dv (.there cX.ry))))))).perm List.perm_middle;obtain⟨O,ut2t,Mt2t,E,hOt2t,ar⟩:=fH (P:=Tryz.prog) (ts:= #[57,57]) (t:=57) (e:=56) aE hpl (qB (R:=kJ) (x:=e) (m:=5) Z Z (.inr ⟨Z,Z⟩)) kJ.leaf (by simp) (by simp) (by have:=(dc<|sx<|bl u).2.2.1 _ (gB_ w);omega) Z U U U;refine fU Z Z (ec Z Z Z Z U E) Z ?_;replace ar:=ar.push (.there (.dv (.there (.dv (.there cX.ry)))));refine⟨(bu (bG Z Z Z Z Z (Rz Z ar.g0 Z)<|qo _ _ _ _) aX),?_⟩;refine aj Z Z (eI (e:=57) (m:=1) Z U Z (cI<|fv (by have:=ht.bL;omega)) (show tm<g.threads.length from(gA.1 w).1)) Z ?_;have hltt:=(gA.1 S).1;refine ik ar (.there (.dv (.there (.dv (.there (.dv .here)))))) Z Z (kU Z Z hOt2t.leaf.1 ar.pop.bA.pop.bA.pop.bA.g0 (m:=1) U Z oM<|af hOt2t.leaf.2 Z) Z (fun O ar=>?_);refine⟨aX,?_⟩;rw[kq hltt] at ar;have hO2t:=aa _ _ _ hOt2t;refine Ql 2 Z (ak (aQ (l:=[(0,[]),(1,[]),(2,[]),(3,[]),(4,[]),(5,[]),(6,[]),(7,[]),(8,[]),(9,[]),(10,[]),(11,[]),(12,[1]),(13,[]),(14,[])]) U U<|QZ ar 8 [2,0,2,0] Z Z ?_));obtain⟨utf,Mtf,Af,Bf,T,a1,a2,ab⟩:=hOf.at B;subst a2
  refine aj Z Z (eI (e:=74) (m:=1) Z U Z (cI<|fv (by have:=ht.bL;omega)) (show tm<g.from_.length from(gA.1 B).1)) Z (aj Z Z (ax Z ar.pop.bA.pop.bA.g0 U (by rw[eU,show 0+tm*1=tm from by omega];exact T)) Z<|aj Z Z (RB Z ar.pop.bA.pop.bA.pop.bA.pop.bA.pop.pop.g0 (n:=2) (vs:=[_,_]) Z) Z<|sf ar Z Z (cm (e:=67) (m:=2) (z:=[J,J]) (cs:=[_,_]) U U U U<|bj Z Z Z Z bO) (fun _=>Z) (fun O cc ar=>?_));have hpl:=(ar.pull (X:=Mtf) (.there (.there (.dv (.there cX.ry))))).perm List.perm_middle;obtain⟨O,ut2f,Mt2f,E,hOt2f,ar⟩:=fH (P:=Tryz.prog) (ts:= #[74,74]) (t:=74) (e:=67) a1 hpl (qB (R:=ji) (x:=fr) (m:=2) Z Z (.inr ⟨Z,Z⟩)) ji.leaf (by simp) (by simp) (by have:=p8 (dc<|sx<|bl u).2.2.2.2.2.1 (dc<|sx<|bl u).2.2.2.1 (dc<|sx<|bl u).2.2.1 _ (gB_ B);omega) Z U U U;refine fU Z Z (ec Z Z Z Z U E) Z ?_;replace ar:=ar.push (.there (.dv (.there cX.ry)));refine⟨(bu (bG Z Z Z Z Z (Rz Z ar.g0 Z)<|qo _ _ _ _) aX),?_⟩;refine aj Z Z (eI (e:=74) (m:=1) Z U Z (cI<|fv (by have:=ht.bL;omega)) (show tm<g.from_.length from(gA.1 B).1)) Z ?_;have hltf:=(gA.1 T).1;refine ik ar (.there (.dv (.there (.dv .here)))) Z Z (kU Z Z hOt2f.leaf.1 ar.pop.bA.pop.bA.g0 (m:=1) U Z oM<|af hOt2f.leaf.2 Z) Z (fun O ar=>?_);refine⟨aX,?_⟩;rw[kq hltf] at ar;have hO2f:=ab _ _ _ hOt2f;refine Ql 2 Z<|Pz 3 Z<|Y Z (RB Z ar.pop.bA.pop.bA.pop.bA.pop.bA.pop.pop.pop.g0 (n:=5) (vs:=[_,_,_,_,_]) Z) Z<|bc Z (Rx Z Z Z) (fun _=>Z) (jG hG _ ar) (fun O ar=>?_);refine Qi 2 Z<|aF Z (fun Q=>?_) (fun Q=>?_)
  ·refine aQ (l:=[(0,[]),(1,[]),(2,[]),(3,[]),(4,[]),(5,[]),(6,[]),(7,[]),(8,[]),(9,[]),(10,[]),(11,[]),(12,[]),(13,[]),(14,[1,3]),(15,[]),(16,[])]) U U<|QZ ar 3 [3,0,1] Z Z<|aj Z Z (Rz Z ar.pop.bA.pop.bA.pop.bA.pop.bA.pop.pop.pop.g0 Z) Z<|QZ ar 3 [3,0,1] Z Z<|aj Z Z (Rz Z ar.pop.bA.pop.bA.pop.bA.pop.bA.pop.pop.pop.g0 Z) Z ?_;obtain⟨pm,rfl⟩:=sj am;have ce:pm+1<=(bV g e.loc).length:=bz ap;obtain⟨ln,xo,ac,ao,cr⟩:=xP (show 1<=(bV g e.loc).length from by omega);have ch:pm<=xo.length:=by omega
   have hxo56:=jA (sx<|bl u) _ (gB_ ao);obtain⟨uto,Mto,Ao,Bo,a5,br,bs,bb⟩:=hOo.at ao;subst bs;refine aj Z Z (eI (e:=74) (m:=1) Z U Z (cI ac) (show ln<g.order.length from(gA.1 ao).1)) Z<|aj Z Z (ax Z ar.pop.bA.g0 U (by rw[eU,show 0+ln*1=ln from by omega];exact a5)) Z<|QW 2 Z<|aj Z Z (RB Z ar.pop.bA.pop.bA.pop.bA.pop.bA.g0 (n:=2) (vs:=[_,_]) Z) Z<|sf ar Z Z (cm (e:=67) (m:=2) (z:=[J,J]) (cs:=[_,_]) U U U U<|bj Z Z Z Z bO) (fun _=>Z) (fun O cv ar=>?_);have hpl:=((ar.pull (X:=Mto) (.there (.there cX.ry))).perm List.perm_middle).Cb;refine fF Z Z (Rx Z Z Z) (fun _=>Z) (by rw[fv oM];exact Ki hG bt bv (x:=⟨.ofNat (tm+1),.ofNat A.length⟩) (i:=pm) (.inr ⟨Z,Z⟩) br ch oM hpl) ?_;rintro ut2o O ⟨Mt2o,hOt2o,ar⟩;replace ar:=(ar.weaken<|KP.r9 _ _ _).push (.there cX.ry);refine⟨(bu (bG Z Z Z Z Z (Rz Z ar.g0 Z)<|qo _ _ _ _)<|bu (bG Z Z Z Z Z (Rz Z ar.pop.bA.pop.bA.pop.bA.pop.bA.pop.pop.pop.g0 Z)<|eG _ _) aX),?_⟩;refine aj Z Z (eI (e:=74) (m:=1) Z U Z (cI ac) (show ln<g.order.length from(gA.1 ao).1)) Z ?_;have hlto:=(gA.1 a5).1;refine ik ar (.there (.dv .here)) Z Z (kU Z Z hOt2o.leaf.1 ar.pop.bA.g0 (m:=1) U Z oM<|af hOt2o.leaf.2 Z) Z (fun O ar=>?_);refine⟨aX,?_⟩;rw[kq hlto] at ar;have hO2o:=bb _ _ _ hOt2o;refine Ql 2 Z<|Pz 3 Z<|Y Z (RB Z ar.g0 (n:=4) (vs:=[_,_,_,_]) Z) Z ?_;have hfew:=z7 (sx<|bl u);replace ar:=ar.app (.there (.dv (.there (.dv (.there (.dv (.there (.dv (.there (.there (.there (.there (.there .base)))))))))))));refine bc Z (Rx Z Z Z) (fun _=>Z) (v8 hG ar (pI (T1:=57) (T2:=74) (T3:=74) (g:=(⟨g.init,g.threads.set tm (A++[e]),g.from_.set tm (xf++[fr]),g.order.set ln (xo.take pm++⟨.ofNat (tm+1),.ofNat A.length⟩::xo.drop pm)⟩:XG)) W.init hO2t hO2f hO2o (fun y hy=>.inr (by simp[hy])) (fun y hy=>.inr (by rcases List.mem_append.1 hy with hy | hy;(simp[hy]);rcases List.mem_append.1 hy with hy | hy<;>simp[hy])) (fun y hy=>.inr (by rcases List.mem_append.1 hy with hy | hy;(simp[hy]);rcases List.mem_append.1 hy with hy | hy<;>simp[hy])) (fun y hy=>.inr (by rcases List.mem_append.1 hy with hy | hy;(simp[hy]);rcases List.mem_append.1 hy with hy | hy<;>simp[hy])) (.inr (by simp)) (.inr (by simp)) (.inr (by simp)) (by simp) (by simp) (by simp) (by have h1:=hfew.2.1;have h2:=hfew.2.2.2.1;have h3:=hfew.2.2.2.2.2.1;simp;omega) (by have h1:=hfew.2.1;have h2:=hfew.2.2.2.1;have h3:=hfew.2.2.2.2.2.1;simp;omega) (by have h1:=hfew.2.1;have h2:=hfew.2.2.2.1;have h3:=hfew.2.2.2.2.2.1;simp;omega))) (fun O ar=>?_);replace ar:=ar.MB (.there (.dv (.there (.dv (.there (.dv (.there (.dv (.there (.there (.there (.there (.there .base)))))))))))));refine Qi 3 Z<|aF Z (fun F=>?_) (fun F=>?_)
   ·refine Qg 2 Z (Y Z (Rw (places:=[(0,1),(1,1),(2,1),(3,1)]) (zero:=[.av,.av,.av,.av]) (cs:=[_,_,_,_]) Z) Z<|ei ar (.there (.dv (.there (.dv (.there (.dv (.there (.dv (.there .here))))))))) Z (RG Z Z Z ar.pop.bA.pop.bA.pop.bA.pop.bA.pop.g0 (m:=4) Z Z (cells':=[_,_,_,_]) Z) Z (fun O ar=>?_));refine PH 5 Z ?_;exact bC Z Z ar.pop.bA.pop.bA.pop.bA.pop.bA.pop.g0 (m:=4) U Z Z (.inl ⟨_,by rw[kz (bl u) w B,show cq (.ofNat A.length) 14=true from bl M];show(bif cW g e (.ofNat (pm+1)) then _ else _)=_;rw[show cW g e (.ofNat (pm+1))=false from by unfold cW;rw[C];show(bif cq (.ofNat (pm+1)) 1 then true else _)=false;rw[am];exact ap];show(bif H (cd<|eo g tm e fr (.ofNat (pm+1)) A xf) 0 then _ else _)=_;rw[Ac (pm:=pm) (fr:=fr) (row:=A) (frow:=xf) (tm:=tm) Q ac ao,cC F];rfl,Z,ar.pop.bA.pop.bA.pop.bA.pop.bA.pop.pop.pop.pop.pop⟩)
   refine PB 4 Z<|Y Z (RB Z ar.g0 (n:=4) (vs:=[_,_,_,_]) Z) Z<|ei ar (.there (.dv (.there (.dv (.there (.dv (.there (.dv (.there .here))))))))) Z (RG Z Z Z ar.pop.bA.pop.bA.pop.bA.pop.bA.pop.g0 (m:=4) Z (af W.init.leaf.2 Z) (cells':=[_,_,_,_]) Z) Z (fun O ar=>?_);refine Qk 4 Z ?_;exact bC Z Z ar.pop.bA.pop.bA.pop.bA.pop.bA.pop.g0 (m:=4) U Z Z (H2 (by rw[kz (bl u) w B,show cq (.ofNat A.length) 14=true from bl M];show(bif cW g e (.ofNat (pm+1)) then _ else _)=_;rw[show cW g e (.ofNat (pm+1))=false from by unfold cW;rw[C];show(bif cq (.ofNat (pm+1)) 1 then true else _)=false;rw[am];exact ap];show(bif H (cd<|eo g tm e fr (.ofNat (pm+1)) A xf) 0 then _ else _)=_;rw[Ac (pm:=pm) (fr:=fr) (row:=A) (frow:=xf) (tm:=tm) Q ac ao,bl F];rfl) (ar.app (.there (.dv (.there (.dv (.there (.dv (.there (.dv (.there (.there (.there (.there (.there .base)))))))))))))) (pI (T1:=57) (T2:=74) (T3:=74) (g:=(⟨g.init,g.threads.set tm (A++[e]),g.from_.set tm (xf++[fr]),g.order.set ln (xo.take pm++⟨.ofNat (tm+1),.ofNat A.length⟩::xo.drop pm)⟩:XG)) W.init hO2t hO2f hO2o (fun y hy=>.inr (by simp[hy])) (fun y hy=>.inr (by rcases List.mem_append.1 hy with hy | hy;(simp[hy]);rcases List.mem_append.1 hy with hy | hy<;>simp[hy])) (fun y hy=>.inr (by rcases List.mem_append.1 hy with hy | hy;(simp[hy]);rcases List.mem_append.1 hy with hy | hy<;>simp[hy])) (fun y hy=>.inr (by rcases List.mem_append.1 hy with hy | hy;(simp[hy]);rcases List.mem_append.1 hy with hy | hy<;>simp[hy])) (.inr (by simp)) (.inr (by simp)) (.inr (by simp)) (by simp) (by simp) (by simp) (by have h1:=hfew.2.1;have h2:=hfew.2.2.2.1;have h3:=hfew.2.2.2.2.2.1;simp;omega) (by have h1:=hfew.2.1;have h2:=hfew.2.2.2.1;have h3:=hfew.2.2.2.2.2.1;simp;omega) (by have h1:=hfew.2.1;have h2:=hfew.2.2.2.1;have h3:=hfew.2.2.2.2.2.1;simp;omega)))
  exact absurd C (by rw[Q];decide)
 refine QV 13 Z<|Y Z (RB Z (ar.get 3 Z) (n:=5) (vs:=[_,_,_,_,_]) Z) Z<|bc Z (Rx Z Z Z) (fun _=>Z) (jG hG _ ar) (fun O ar=>?_);refine Y Z (dq Z) Z<|ky Z (an Z) (fun aq=>?_) (fun aq=>?_)
 ·refine Qi 6 Z<|aF Z (fun a4=>?_) (fun a4=>?_)
  ·refine Qg 2 Z (Y Z (Rw (places:=[(0,1),(1,1),(2,1),(3,1)]) (zero:=[.av,.av,.av,.av]) (cs:=[_,_,_,_]) Z) Z<|eE ar Z (RG Z Z Z ar.g1 (m:=4) Z Z (cells':=[_,_,_,_]) Z) Z (fun O ar=>?_));refine PH 5 Z ?_;exact bC Z Z ar.g1 (m:=4) U Z Z (.inl ⟨_,by rw[kz (bl u) w B,show cq (.ofNat A.length) 14=true from bl M];show(bif cW g e pl then _ else _)=_;rw[show cW g e pl=true from by unfold cW;rw[C];show(!H pl 0)=true;rw[cC a4];rfl];rfl,Z,ar.pop.pop.pop.pop.pop⟩)
  refine PB 4 Z<|Y Z (RB Z (ar.get 4 Z) (n:=4) (vs:=[_,_,_,_]) Z) Z<|bR Z (Rx Z Z Z) (fun _=>Z) (xN hG h (z7<|sx<|bl u) ar) ?_;rintro _ O ⟨u1,M1,b6,bw,M2,b7,b0,M3,b8,ca,M4,rfl,W,ar⟩;have hOt:=W.threads;have hOf:=W.from_;have hOo:=W.order;refine kp ar Z (RD (cs:=[.av,.av,.av,.av])) (fun O b9 ar=>?_);refine bE ar Z (RG Z Z Z ar.g0 (m:=4) Z (af W.init.leaf.2 Z) (cells':=[_,_,_,_]) Z) Z (fun O ar=>?_);refine PE 3 Z (aQ (l:=[(0,[]),(1,[]),(2,[]),(3,[]),(4,[]),(5,[]),(6,[]),(7,[]),(8,[]),(9,[]),(10,[]),(11,[]),(12,[1]),(13,[]),(14,[])]) U U<|QZ ar 8 [1,0,1,0] Z Z ?_);obtain⟨utt,Mtt,At,Bt,S,aE,a0,aa⟩:=hOt.at w;subst a0;refine aj Z Z (eI (e:=57) (m:=1) Z U Z (cI<|fv (by have:=ht.bL;omega)) (show tm<g.threads.length from(gA.1 w).1)) Z (aj Z Z (ax Z ar.pop.bA.pop.bA.pop.bA.g0 U (by rw[eU,show 0+tm*1=tm from by omega];exact S)) Z<|aj Z Z (RB Z ar.pop.bA.pop.bA.pop.bA.pop.bA.pop.pop.pop.g0 (n:=5) (vs:=[_,_,_,_,_]) Z) Z<|sf ar Z Z (cm (e:=56) (m:=5) (z:=[J,J,J,J,J]) (cs:=[_,_,_,_,_]) U U U U<|bj Z Z Z Z bO) (fun _=>Z) (fun O cb ar=>?_));have hpl:=(ar.pull (X:=Mtt) (.there (.there (.dv (.there (.dv (.there cX.ry))))))).perm List.perm_middle;obtain⟨O,ut2t,Mt2t,E,hOt2t,ar⟩:=fH (P:=Tryz.prog) (ts:= #[57,57]) (t:=57) (e:=56) aE hpl (qB (R:=kJ) (x:=e) (m:=5) Z Z (.inr ⟨Z,Z⟩)) kJ.leaf (by simp) (by simp) (by have:=(dc<|sx<|bl u).2.2.1 _ (gB_ w);omega) Z U U U;refine fU Z Z (ec Z Z Z Z U E) Z ?_;replace ar:=ar.push (.there (.dv (.there (.dv (.there cX.ry)))));refine⟨(bu (bG Z Z Z Z Z (Rz Z ar.g0 Z)<|qo _ _ _ _) aX),?_⟩;refine aj Z Z (eI (e:=57) (m:=1) Z U Z (cI<|fv (by have:=ht.bL;omega)) (show tm<g.threads.length from(gA.1 w).1)) Z ?_;have hltt:=(gA.1 S).1;refine ik ar (.there (.dv (.there (.dv (.there (.dv .here)))))) Z Z (kU Z Z hOt2t.leaf.1 ar.pop.bA.pop.bA.pop.bA.g0 (m:=1) U Z oM<|af hOt2t.leaf.2 Z) Z (fun O ar=>?_);refine⟨aX,?_⟩;rw[kq hltt] at ar;have hO2t:=aa _ _ _ hOt2t;refine Ql 2 Z (ak (aQ (l:=[(0,[]),(1,[]),(2,[]),(3,[]),(4,[]),(5,[]),(6,[]),(7,[]),(8,[]),(9,[]),(10,[]),(11,[]),(12,[1]),(13,[]),(14,[])]) U U<|QZ ar 8 [2,0,2,0] Z Z ?_));obtain⟨utf,Mtf,Af,Bf,T,a1,a2,ab⟩:=hOf.at B;subst a2
  refine aj Z Z (eI (e:=74) (m:=1) Z U Z (cI<|fv (by have:=ht.bL;omega)) (show tm<g.from_.length from(gA.1 B).1)) Z (aj Z Z (ax Z ar.pop.bA.pop.bA.g0 U (by rw[eU,show 0+tm*1=tm from by omega];exact T)) Z<|aj Z Z (RB Z ar.pop.bA.pop.bA.pop.bA.pop.bA.pop.pop.g0 (n:=2) (vs:=[_,_]) Z) Z<|sf ar Z Z (cm (e:=67) (m:=2) (z:=[J,J]) (cs:=[_,_]) U U U U<|bj Z Z Z Z bO) (fun _=>Z) (fun O cc ar=>?_));have hpl:=(ar.pull (X:=Mtf) (.there (.there (.dv (.there cX.ry))))).perm List.perm_middle;obtain⟨O,ut2f,Mt2f,E,hOt2f,ar⟩:=fH (P:=Tryz.prog) (ts:= #[74,74]) (t:=74) (e:=67) a1 hpl (qB (R:=ji) (x:=fr) (m:=2) Z Z (.inr ⟨Z,Z⟩)) ji.leaf (by simp) (by simp) (by have:=p8 (dc<|sx<|bl u).2.2.2.2.2.1 (dc<|sx<|bl u).2.2.2.1 (dc<|sx<|bl u).2.2.1 _ (gB_ B);omega) Z U U U;refine fU Z Z (ec Z Z Z Z U E) Z ?_;replace ar:=ar.push (.there (.dv (.there cX.ry)));refine⟨(bu (bG Z Z Z Z Z (Rz Z ar.g0 Z)<|qo _ _ _ _) aX),?_⟩;refine aj Z Z (eI (e:=74) (m:=1) Z U Z (cI<|fv (by have:=ht.bL;omega)) (show tm<g.from_.length from(gA.1 B).1)) Z ?_;have hltf:=(gA.1 T).1;refine ik ar (.there (.dv (.there (.dv .here)))) Z Z (kU Z Z hOt2f.leaf.1 ar.pop.bA.pop.bA.g0 (m:=1) U Z oM<|af hOt2f.leaf.2 Z) Z (fun O ar=>?_);refine⟨aX,?_⟩;rw[kq hltf] at ar;have hO2f:=ab _ _ _ hOt2f;refine Ql 2 Z<|Pz 3 Z<|Y Z (RB Z ar.pop.bA.pop.bA.pop.bA.pop.bA.pop.pop.pop.g0 (n:=5) (vs:=[_,_,_,_,_]) Z) Z<|bc Z (Rx Z Z Z) (fun _=>Z) (jG hG _ ar) (fun O ar=>?_);refine Qi 2 Z<|aF Z (fun Q=>?_) (fun Q=>?_)
  ·exact absurd C (by rw[Q];decide)
  refine O2 5 Z<|Y Z (RB Z ar.g0 (n:=4) (vs:=[_,_,_,_]) Z) Z ?_;have hfew:=z7 (sx<|bl u);replace ar:=ar.app (.there (.dv (.there (.dv (.there (.dv (.there (.dv (.there (.there (.there (.there (.there .base)))))))))))));refine bc Z (Rx Z Z Z) (fun _=>Z) (v8 hG ar (pI (T1:=57) (T2:=74) (T3:=74) (g:=(⟨g.init,g.threads.set tm (A++[e]),g.from_.set tm (xf++[fr]),g.order⟩:XG)) W.init hO2t hO2f hOo (fun y hy=>.inr (by simp[hy])) (fun y hy=>.inr (by rcases List.mem_append.1 hy with hy | hy;(simp[hy]);rcases List.mem_append.1 hy with hy | hy<;>simp[hy])) (fun y hy=>.inr (by rcases List.mem_append.1 hy with hy | hy;(simp[hy]);rcases List.mem_append.1 hy with hy | hy<;>simp[hy])) (fun y hy=>.inr (by simp[hy])) (.inr (by simp)) (.inr (by simp)) (.inr (by simp)) (by simp) (by simp) (by simp) (by have h1:=hfew.2.1;have h2:=hfew.2.2.2.1;have h3:=hfew.2.2.2.2.2.1;simp;omega) (by have h1:=hfew.2.1;have h2:=hfew.2.2.2.1;have h3:=hfew.2.2.2.2.2.1;simp;omega) (by have h1:=hfew.2.1;have h2:=hfew.2.2.2.1;have h3:=hfew.2.2.2.2.2.1;simp;omega))) (fun O ar=>?_);replace ar:=ar.MB (.there (.dv (.there (.dv (.there (.dv (.there (.dv (.there (.there (.there (.there (.there .base)))))))))))));refine Qi 3 Z<|aF Z (fun F=>?_) (fun F=>?_)
  ·refine Qg 2 Z (Y Z (Rw (places:=[(0,1),(1,1),(2,1),(3,1)]) (zero:=[.av,.av,.av,.av]) (cs:=[_,_,_,_]) Z) Z<|ei ar (.there (.dv (.there (.dv (.there (.dv (.there (.dv (.there .here))))))))) Z (RG Z Z Z ar.pop.bA.pop.bA.pop.bA.pop.bA.pop.g0 (m:=4) Z Z (cells':=[_,_,_,_]) Z) Z (fun O ar=>?_));refine PH 5 Z ?_;exact bC Z Z ar.pop.bA.pop.bA.pop.bA.pop.bA.pop.g0 (m:=4) U Z Z (.inl ⟨_,by rw[kz (bl u) w B,show cq (.ofNat A.length) 14=true from bl M];show(bif cW g e pl then _ else _)=_;rw[show cW g e pl=false from by unfold cW;rw[C];show(!H pl 0)=false;rw[bl a4];rfl];show(bif H (cd<|eo g tm e fr pl A xf) 0 then _ else _)=_;rw[FG (pl:=pl) (fr:=fr) (row:=A) (frow:=xf) (tm:=tm) Q,cC F];rfl,Z,ar.pop.bA.pop.bA.pop.bA.pop.bA.pop.pop.pop.pop.pop⟩)
  refine PB 4 Z<|Y Z (RB Z ar.g0 (n:=4) (vs:=[_,_,_,_]) Z) Z<|ei ar (.there (.dv (.there (.dv (.there (.dv (.there (.dv (.there .here))))))))) Z (RG Z Z Z ar.pop.bA.pop.bA.pop.bA.pop.bA.pop.g0 (m:=4) Z (af W.init.leaf.2 Z) (cells':=[_,_,_,_]) Z) Z (fun O ar=>?_);refine Qk 4 Z ?_;exact bC Z Z ar.pop.bA.pop.bA.pop.bA.pop.bA.pop.g0 (m:=4) U Z Z (H2 (by rw[kz (bl u) w B,show cq (.ofNat A.length) 14=true from bl M];show(bif cW g e pl then _ else _)=_;rw[show cW g e pl=false from by unfold cW;rw[C];show(!H pl 0)=false;rw[bl a4];rfl];show(bif H (cd<|eo g tm e fr pl A xf) 0 then _ else _)=_;rw[FG (pl:=pl) (fr:=fr) (row:=A) (frow:=xf) (tm:=tm) Q,bl F];rfl) (ar.app (.there (.dv (.there (.dv (.there (.dv (.there (.dv (.there (.there (.there (.there (.there .base)))))))))))))) (pI (T1:=57) (T2:=74) (T3:=74) (g:=(⟨g.init,g.threads.set tm (A++[e]),g.from_.set tm (xf++[fr]),g.order⟩:XG)) W.init hO2t hO2f hOo (fun y hy=>.inr (by simp[hy])) (fun y hy=>.inr (by rcases List.mem_append.1 hy with hy | hy;(simp[hy]);rcases List.mem_append.1 hy with hy | hy<;>simp[hy])) (fun y hy=>.inr (by rcases List.mem_append.1 hy with hy | hy;(simp[hy]);rcases List.mem_append.1 hy with hy | hy<;>simp[hy])) (fun y hy=>.inr (by simp[hy])) (.inr (by simp)) (.inr (by simp)) (.inr (by simp)) (by simp) (by simp) (by simp) (by have h1:=hfew.2.1;have h2:=hfew.2.2.2.1;have h3:=hfew.2.2.2.2.2.1;simp;omega) (by have h1:=hfew.2.1;have h2:=hfew.2.2.2.1;have h3:=hfew.2.2.2.2.2.1;simp;omega) (by have h1:=hfew.2.1;have h2:=hfew.2.2.2.1;have h3:=hfew.2.2.2.2.2.1;simp;omega)))
 exact absurd C (by rw[fX aq];decide)
theorem nt {g:XG} {th pl:Int} {e:bW} {fr:bT} {er:Int} (h:gD g th e fr pl=(none,er)):H er 0=false:=by
 have key:er=2∨er=9∨er=3:=by
  unfold gD at h;cases h1:H (cd g) 0 with
  | false=>rw[h1] at h;cases h;exact .inl Z
  | true=>
   rw[h1] at h;cases b:cq th 1 with
   | true=>rw[b] at h;cases h;exact .inr (.inl Z)
   | false=>
    rw[b] at h;cases h3:cq (.ofNat g.threads.length) th with
    | true=>rw[h3] at h;cases h;exact .inr (.inl Z)
    | false=>
     rw[h3] at h;simp only[Bool.not_true,cf] at h;split at h
     ·rename_i row frow _ _;cases h4:cq (.ofNat row.length) 14 with
      | false=>rw[h4] at h;cases h;exact .inr (.inr Z)
      | true=>
       rw[h4] at h;simp only[Bool.not_true,cf] at h;generalize (bif bd e then(bif cq pl 1 then true else cq (.ofNat (bV g e.loc).length) pl) else !H pl 0)=q at h;cases q with
       | true=>cases h;exact .inl Z
       | false=>
        simp only[cf] at h;generalize H (cd _) 0=q2 at h;cases q2 with
        | true=>cases h
        | false=>cases h;exact .inl Z
     cases h;exact .inr (.inl Z)
 rcases key with rfl | rfl | rfl<;>rfl
theorem L7 {G:Cx} (W:Plain G) {K:KP} {k:Nat} {c:XC} (C:eS k c) {od:List Nat} (X:fj c=some od) (A:fD (dw c) c.ins.length od) {cv:V} (hi:bF K 6 (iB K k) c.ins cv) {O:N} {L:Own} (ar:D O K L):
  a8 Tryz.prog G 113 [.agg [.int .i64 c.br,cv]] O fun v O'=>∃tb rb ev Me,v= .ptr tb 0/\dt 5 56 kJ (jl k c).events ev Me/\D O' K ((tb,.row (HV c cv (jl k c) rb ev) 131 false)::(rb,.row ((jl k c).br.map gZ) 2 false)::(Me++L)):=by
 have E:c.br= .ofNat c.br.toNat:=by have:=C.F4;show c.br=((c.br.toNat:Nat):Int);omega
 have aa:c.br.toNat<=16:=by have:=C.Az;omega
 have hol:=qF C X;have S:gT c=od.length:=by unfold gT;rw[X];rfl
 have hlen:=C.len;have hB0:jl k c=tD k c od.length (oK c):=by unfold jl;rw[S];rfl
 refine QO W Tryz.func113 Z<|Qg 2 Z<|kp ar Z (cG Z Z) (fun O b1 ar=>?_);refine PE 4 Z<|aQ (l:=zp [0,1,2,3,4,5,6]) U U<|aj Z Z (RB Z ar.g0 (n:=2) (vs:=[_,_]) Z) Z<|QZ ar 2 [0,0] Z Z<|sf ar Z Z (iy (e:=2) (w:=8) (z:=[gZ 0]) U U U U (show _=some (V.int .i64 (.ofNat c.br.toNat)) from cI E) (show _=some (V.int .i64 (.ofNat c.br.toNat)) from cI E) oM oM) (fun _=>Z) (fun O B ar=>?_);rw[iL (f:=gZ)] at ar;refine aj Z Z (Rw (places:=[(0,2),(2,1),(3,1),(4,1),(5,1),(6,1),(7,1)]) (zero:=[J,.av,J,.av,.av,J,J,.bool false]) (cs:=[_,_,_,_,_,_,_,_]) Z) Z<|oV ar Z Z (cG Z Z) (fun _=>Z) (fun O R ar=>?_);refine wQ 1 Z ?_;replace ar:D O K ((R,.row (HV c cv (oK c) B .av) 131 false)::(B,.row ((oK c).br.map gZ) 2 false)::([]++(b1,.row [.int .i64 c.br,cv] 33 false)::L)):=by show D O K ((R,.row [_,_,_,.slice B 0 (List.replicate c.br.toNat (0:Int)).length (.known (List.replicate c.br.toNat (0:Int)).length),_,_,_,_] 131 false)::_);rw[List.length_replicate];exact ar
 refine Ql 2 Z (ak (aM (bh [10,11] (fun j t O=>∃(s:TS) (ev:V) (Me:Own),zC c od s/\s.events.length+j<=od.length/\(∃q,od[q]?=some s.at_/\q<j)/\tD k c od.length (oK c)=tD k c j s/\dt 5 56 kJ s.events ev Me/\D O K ((R,.row (HV c cv s B ev) 131 false)::(B,.row (s.br.map gZ) 2 false)::(Me++(b1,.row [.int .i64 c.br,cv] 33 false)::L))) (od.length) ⟨oK c,.av,[],CQ A,by show 0+_<=_;omega,(gO_ A.zero).imp fun q hq=>⟨hq,(gA.1 hq).1⟩,Z,.inl ⟨Z,Z,Z⟩,ar⟩ ?_)));clear ar;intro j2 t O aq hI;obtain⟨s,ev,Me,b,hB,F,he,hO,ar⟩:=hI;obtain⟨oo,rfl⟩:=aq.q0 Z;refine Pz 4 Z ?_;obtain⟨q,hq,ab⟩:=F;refine bR Z (Rx Z Z Z) (fun _=>Z) (Kp W C hi ⟨b.lt A,b.br,by omega⟩ oM hO ar) ?_;rintro _ O ⟨M,Me2,rfl,hO2,ar⟩;refine Qi 2 Z<|aF Z (fun d=>?_) (fun d=>?_)
 ·refine aH<|QR 3 Z ?_;obtain⟨xs,T⟩:=cT (b.lt A);obtain⟨q2,F,Q⟩:=zc A T hq d;have hel:=(qP (k:=k) (c:=c) (s:=s)).2;refine aL ⟨j2-1,by omega,oP Z<|oP Z<|oP Z<|oP Z<|oR _ _,_,M,Me2,b.step A,by omega,⟨q2,Q,by omega⟩,he.trans<|FE oM d,hO2,ar⟩
 have u:jl k c=(cj k c s).1:=by rw[hB0,he];exact IM oM d
 refine PC 3 Z<|aS<|QT 7 Z ?_;exact aB Z Z ⟨R,B,M,Me2,Z,by rw[u];exact hO2,by rw[u];exact ar.sub (.cons_cons _ (.cons_cons _<|eO (.cons _ (.refl _))))⟩
theorem Km {G:Cx} (hG:Plain G) {K:KP} {k:Nat} {c:XC} (S:eS k c) {od:List Nat} (ho:fj c=some od) (W:fD (dw c) c.ins.length od) {cv:V} (hi:bF K 6 (iB K k) c.ins cv) {b:TS} (u:zC c od b) (F:gM c b) (hs:b.asks=true) (bo:b.events.length<=880000) (bq:b.asked<=1000000) (vv:Int) {X w:Nat} {aa:V} {Me0:Own} (hO:dt 5 56 kJ b.events aa Me0) {O:N} {L:Own}
  (ar:D O K ((X,.row (HV c cv b w aa) 131 false)::(w,.row (b.br.map gZ) 2 false)::(Me0++L))):
  a8 Tryz.prog G 114 [.ptr X 0,.int .i64 vv] O fun v O'=>∃ev' Me',dt 5 56 kJ (ea k c b vv).events ev' Me'/\D O' K ((X,.row (HV c cv (ea k c b vv) w ev') 131 false)::(w,.row ((ea k c b vv).br.map gZ) 2 false)::(Me'++L)):=by
 have hol:=qF S ho;have a0:gT c=od.length:=by unfold gT;rw[ho];rfl
 have hlen:=S.len;have hat:=u.lt W;obtain⟨x,hx,a1⟩:=F hs;have hrx:=S.right x (gB_ hx);have a2:c.br<=b.br.length:=by have:=u.br;have:=S.F4;omega
 have ab:b.br.length<=1000:=by have:=u.br;have:=S.Az;omega
 have T:∃kn:Nat,x.kind= .ofNat kn/\(kn=2∨kn=4∨kn=5∨kn=6):=by
  rcases a1 with e | e | e | e
  ·exact⟨2,e,by omega⟩
  ·exact⟨4,e,by omega⟩
  ·exact⟨5,e,by omega⟩
  exact⟨6,e,by omega⟩
 obtain⟨kn,T,bs⟩:=T;obtain⟨rg,ac,ba⟩:=JO hrx T oM;obtain⟨A,hA⟩:∃A,A=Gy k x b.br:=⟨_,Z⟩;obtain⟨E,hE⟩:∃E,E=bU A vv:=⟨_,Z⟩;have a3:jk k c b=A:=by unfold jk;rw[hx,hA]
 have hS1:eF k c b vv= {b with events:=b.events++[E],br:=b.br.set rg vv,asked:=b.asked+1,at_:=b.at_+1,asks:=false}:=by
  unfold eF Mw;rw[hx];dsimp only;rw[a3,<-hE,show x.xq.toNat=rg from by rw[ac];rfl]
 have hB0:ea k c b vv=tD k c od.length (eF k c b vv):=by unfold ea;rw[a0]
 have hin1:=ur S W u F hs vv;refine QO hG Tryz.func114 Z<|Qg 3 Z ?_;have hq:=ar.keeps (M:=[_,_]);refine bc Z (Rx Z Z Z) (fun _=>Z) (lM (M:=[_,_]) ar<|MD hG (rW (KP.dI _ _) hi) a2 hx hrx (fq (xs:=b.br) (KP.gj 1 Z) ab) (KP.gj 0 Z) hq) (fun O ar=>?_);clear hq;rw[<-hA];refine vQ 1 Z<|bc Z (Rx Z Z Z) (fun _=>Z) (C3 hG A vv ar) (fun O ar=>?_);rw[<-hE];refine QV 3 Z<|kp ar Z (RD (cs:=[J,J,J,J,J])) (fun O b3 ar=>?_);refine bE ar Z (RG Z Z Z ar.g0 (m:=5) Z Z (cells':=[_,_,_,_,_]) Z) Z (fun O ar=>?_);refine PE 4 Z<|aQ (l:=zp [0,1,2,3,4,5,6,7,8,9,10]) U U<|QW 2 Z<|aj Z Z (cz Z) Z<|QZ ar 2 [4,1] Z Z<|aj Z Z (RB Z ar.g0 (n:=5) (vs:=[_,_,_,_,_]) Z) Z<|sf ar Z Z (cm (e:=56) (m:=5) (z:=[J,J,J,J,J]) (cs:=[_,_,_,_,_]) U U U U<|bj Z Z Z Z bO) (fun _=>Z) (fun O b4 ar=>?_);replace ar:=ar.DX (A:=[_,_,_]);obtain⟨O,d,Me2,am,hO2,ar⟩:=fH (P:=Tryz.prog) (ts:= #[57,57]) (t:=57) (e:=56) hO ar (yT (x:=E) (.inr ⟨Z,Z⟩)) kJ.leaf (by simp) (by simp) oM Z U U U;replace ar:=ar.front (A:=Me2) (M:=[_,_,_]);refine fU Z Z (ec Z Z Z Z U am) Z ?_;refine⟨aX,?_⟩;refine aj Z Z (cz Z) Z<|aj Z Z (Ry 4 Z) Z<|k9 ar Z Z (aK Z Z hO2.leaf.1 ar.g1 (m:=1) U Z (lb Z) (af hO2.leaf.2 aA) (cells':=[_,_,_,_,_,_,_,_]) Z) Z (fun O ar=>?_);refine⟨aX,?_⟩;refine Ql 2 Z<|ak<|aQ (l:=zp [0,1,2,3,4,5,6,7,8,9,10,11,12,13,14,15,16,17,18]) U U ?_;replace ar:=ar.pop;refine wQ 1 Z<|aj Z Z (cz Z) Z<|QZ ar 3 [3,0] Z Z<|aj Z Z (cz Z) Z<|QZ ar 4 [0,1,0] Z Z<|aj Z Z (cz Z) Z<|QZ ar 2 [2,0] Z Z<|Rt (e:=79) (m:=6) hi hx Z Z Z Z Z (fun bt bb ao be Q=>?_);have hr36raw:=Q;have hr36':=Q;obtain⟨bv,rfl,bi⟩:=hr36';refine dY ao Z Z Z Z (k:=1) U (lb Z) (fun _=>Z) (fun bw ap=>?_);refine aj Z Z (RE ar ap Z Z) Z (wQ 1 Z (aj Z Z (eI (e:=2) (m:=1) U U Z (show _=some (V.int .i64 (.ofNat rg)) from cI ac) oM) Z (ik ar (.there .here) Z Z (aK Z Z Z ar.g1 (m:=1) U Z (by rw[lM_];omega) Z (cells':=((b.br).set rg vv).map (gZ))<|eN (f:=gZ) (v:=vv) oM (by first | omega | rfl)) Z (fun O ar=>?_))));refine⟨aX,?_⟩;refine Ql 2 Z<|Qg 3 Z<|Y Z (cz Z) Z<|QY ar 2 [5,0] Z Z<|Y Z (az Z Z (show _=some (V.int .i64 (.ofNat (b.asked+1))) from cI (aY oM))) Z<|Y Z (cz Z) Z<|Y Z (Ry 5 Z) Z<|bE ar Z (RG Z Z Z ar.g0 (m:=1) Z Z (cells':=[_,_,_,_,_,_,_,_]) Z) Z (fun O ar=>?_)
 refine PF 5 Z<|Y Z (cz Z) Z<|QY ar 2 [2,0] Z Z<|Y Z (az Z Z (show _=some (V.int .i64 (.ofNat (b.at_+1))) from cI (aY oM))) Z<|Y Z (cz Z) Z<|Y Z (Ry 2 Z) Z<|bE ar Z (RG Z Z Z ar.g0 (m:=1) Z Z (cells':=[_,_,_,_,_,_,_,_]) Z) Z (fun O ar=>?_);refine PF 5 Z<|Y Z (cz Z) Z<|Y Z (Ry 7 Z) Z<|bE ar Z (RG Z Z Z ar.g0 (m:=1) Z Z (cells':=[_,_,_,_,_,_,_,_]) Z) Z (fun O ar=>?_);replace ar:D O K ((X,.row (HV c cv (eF k c b vv) w d) 131 false)::(w,.row ((eF k c b vv).br.map gZ) 2 false)::(Me2++L)):=by rw[hS1];show D O K ((X,.row [_,_,_,.slice w 0 (b.br.set rg vv).length (.known (b.br.set rg vv).length),_,_,_,_] 131 false)::_);rw[List.length_set];exact ar
 refine PD 3 Z (bh [58,59] (fun j t O=>∃(s:TS) (ev:V) (Me:Own),zC c od s/\s.events.length+j<=b.events.length+1+od.length/\(∃q,od[q]?=some s.at_/\q<j)/\tD k c od.length (eF k c b vv)=tD k c j s/\dt 5 56 kJ s.events ev Me/\D O K ((X,.row (HV c cv s w ev) 131 false)::(w,.row (s.br.map gZ) 2 false)::(Me++L))) (od.length) ⟨eF k c b vv,d,Me2,hin1,by rw[hS1];show(b.events++[E]).length+_<=_;rw[lA_];show b.events.length+1+_<=_;omega,(gO_ hin1.at_).imp fun q hq=>⟨hq,(gA.1 hq).1⟩,Z,by rw[hS1];exact hO2,ar⟩ ?_);clear ar;intro j6 t O aq hI;obtain⟨s,ev,Me,B,hB,a4,he,hO,ar⟩:=hI;obtain⟨oo,rfl⟩:=aq.q0 Z;refine Pz 4 Z ?_;obtain⟨q,hq,b0⟩:=a4;refine bR Z (Rx Z Z Z) (fun _=>Z) (Kp hG S hi ⟨B.lt W,B.br,by omega⟩ oM hO ar) ?_;rintro _ O ⟨d,Me2,rfl,hO2,ar⟩;refine Qi 2 Z<|aF Z (fun C=>?_) (fun C=>?_)
 ·refine aH<|QR 3 Z ?_;obtain⟨xs,a5⟩:=cT (B.lt W);obtain⟨q2,b5,aE⟩:=zc W a5 hq C;have hel:=(qP (k:=k) (c:=c) (s:=s)).2;refine aL ⟨j6-1,by omega,oP Z<|oP Z<|oP Z<|oP Z<|oR _ _,_,d,Me2,B.step W,by omega,⟨q2,aE,by omega⟩,he.trans<|FE oM C,hO2,ar⟩
 have R:ea k c b vv=(cj k c s).1:=by rw[hB0,he];exact IM oM C
 refine PC 3 Z<|aS ?_;exact BO Z ⟨d,Me2,by rw[R];exact hO2,by rw[R];exact ar⟩
theorem Pq {G:Cx} (W:Plain G) {K:KP} {k:Nat} {c:XC} (B:eS k c) {od:List Nat} (C:fj c=some od) (S:fD (dw c) c.ins.length od) {cv:V} (hi:bF K 6 (iB K k) c.ins cv) {A:List Int} {va:V} (X:bF K 1 ek A va) (ap:A.length<=50) {O:N} {L:Own} (ar:D O K L):
  a8 Tryz.prog G 78 [.agg [.int .i64 c.br,cv],va] O fun v O'=>∃tb rb ev Me,v= .ptr tb 0/\dt 5 56 kJ (fb k c A).events ev Me/\D O' K ((tb,.row (HV c cv (fb k c A) rb ev) 131 false)::(rb,.row ((fb k c A).br.map gZ) 2 false)::(Me++L))/\zC c od (fb k c A):=by
 have hol:=qF B C;have hb:=Gz (k:=k) C S;refine QO W Tryz.func78 Z<|Qg 2 Z<|kp ar Z (cG Z Z) (fun O b1 ar=>?_);refine PF 5 Z<|Y Z (RB Z ar.g0 (n:=2) (vs:=[_,_]) Z) Z<|bR Z (Rx Z Z Z) (fun _=>Z) (L7 W B C S hi ar) ?_;rintro _ O ⟨b2,T,aa,Me0,rfl,hO0,ar⟩;refine O4 7 Z (Y Z (RC X Z Z Z (e:=2) Z) Z (PD 4 Z (bh ([7]++rg 12 13) (fun j t O=>∃(i:Nat) (s:TS) (ev:V) (Me:Own),j+i=A.length/\zC c od s/\gM c s/\s.events.length<=(i+1)*16002/\s.asked<=i/\jJ k c A (jl k c)=jJ k c (A.drop i) s/\dt 5 56 kJ s.events ev Me/\t.get 12=some (.int .i64 (.ofNat i))/\D O K ((b2,.row (HV c cv s T ev) 131 false)::(T,.row (s.br.map gZ) 2 false)::(Me++(b1,.row [.int .i64 c.br,cv] 33 false)::L))) (A.length) ⟨0,jl k c,aa,Me0,Z,hb.1,oi B,by omega,by have:=(nC k c (gT c)<|oK c).2;exact Nat.le_of_eq this,Z,hO0,Z,ar⟩ ?_)));clear ar;intro j3 t O aq hI;obtain⟨i,s,ev,Me,aE,u,E,a0,a1,he,hO,F,ar⟩:=hI;obtain⟨oo,rfl⟩:=aq.q1 F Z;refine Qf 6 Z<|aF Z (fun w=>?_) (fun w=>?_)
 ·refine Oj 6 Z ?_;obtain⟨M,d,ac⟩:=dH w;refine Rr (e:=2) (m:=1) X d Z Z Z Z (fun a2 am Q ao R=>?_);obtain rfl:=R;refine Y Z (RE ar Q Z Z) Z<|O4 7 Z<|Y Z (cz Z) Z<|QY ar 2 [7,0] Z Z<|ky Z (dq Z) (fun z=>?_) (fun z=>?_)
  ·refine PI 5 Z<|lz Z<|aU<|aW<|aS<|QT 7 Z ?_;have b:fb k c A=s:=by unfold fb;rw[he];exact LU d<|mn z
   exact aB Z Z ⟨b2,T,ev,Me,Z,by rw[b];exact hO,by rw[b];exact ar.sub (.cons_cons _ (.cons_cons _<|eO (.cons _ (.refl _)))),by rw[b];exact u⟩
  have h20x:=z;refine Qi 3 Z (aH (ad (ai Z (QV 2 Z (bR Z (Rx Z Z Z) (fun _=>Z) (Km W B C S hi u E (fX h20x) (by have:=bk w;have:(i+1)*16002<=50*16002:=nM_ _ oM;omega) oM M hO ar) ?_)))));rintro _ O ⟨ab,Me2,hO2,ar⟩;refine ah<|aG<|QR 4 Z ?_;obtain⟨k1,k2,k3⟩:=Dp B C S u E (fX h20x) M;refine aL ⟨j3-1,by omega,oF,i+1,_,ab,Me2,by omega,k1,pj B _ _,by rw[Nat.add_mul];omega,by rw[k3];omega,he.trans<|JW d<|fX h20x,hO2,cI<|aY (by have:=X.bL;omega),ar⟩
 refine PC 3 Z<|aS<|QT 7 Z ?_;have b:fb k c A=s:=by unfold fb;rw[he];exact JV<|bz w
 exact aB Z Z ⟨b2,T,ev,Me,Z,by rw[b];exact hO,by rw[b];exact ar.sub (.cons_cons _ (.cons_cons _<|eO (.cons _ (.refl _)))),by rw[b];exact u⟩
theorem Kj {G:Cx} (F:Plain G) {K:KP} (aa:mF G K) {k:Nat} {c:XC} {cv:V} (hi:bF K 6 (iB K k) c.ins cv) {l:List bW} {lv:V} (hl:bF K 5 kJ l lv) (ao:l.length<=40) {O:N} {L:Own} (ar:D O K L):
  a8 Tryz.prog G 46 [.agg [.int .i64 c.br,cv],lv] O fun v O'=>v= .tuple [.agg<|Hd (bZ k c l).1,.int .i64 (bZ k c l).2]/\D O' K L:=by
 refine QO F Tryz.func46 Z<|Qg 2 Z<|kp ar Z (cG Z Z) (fun O b1 ar=>?_);refine kp ar Z (RD (cs:=[J,J,J,J,J,J,J,J,J,J,J])) (fun O b2 ar=>?_);refine O4 6 Z<|Y Z (RB Z ar.g1 (n:=2) (vs:=[_,_]) Z) Z<|bc Z (Rx Z Z Z) (fun _=>Z) (L8 F aa hi ar) (fun O ar=>?_);refine Qi 9 Z<|aF Z (fun A=>?_) (fun A=>?_)
 ·refine Qg 2 Z (Y Z (Rw (places:=[(0,5),(5,5),(10,1)]) (zero:=[J,J,J,J,J,J,J,J,J,J,J]) (cs:=[_,_,_,_,_,_,_,_,_,_,_]) Z) Z<|vQ 1 Z<|bE ar Z (RG Z Z Z ar.g0 (m:=11) Z Z (cells':=[_,_,_,_,_,_,_,_,_,_,_]) Z) Z (fun O ar=>?_));refine PH 5 Z ?_;exact bC Z Z ar.g0 (m:=11) U Z Z ⟨by rw[show bZ k c l=(Aj,jU k c) from by unfold bZ;rw[show bf (H (jU k c) 0)=true from A];rfl];rfl,ar.pop.pop⟩
 refine PA 3 Z (aQ (l:=[(0,[]),(1,[]),(2,[0]),(3,[]),(4,[])]) U U<|aj Z Z (RB Z ar.g1 (n:=2) (vs:=[_,_]) Z) Z<|wQ 1 Z ?_);have Q:jt k c=true:=by rw[<-kO];exact bl A
 obtain⟨X,od,ho,hR⟩:=oy Q;refine fF Z Z (Rx Z Z Z) (fun _=>Z) (HG F hl oM ar) ?_;rintro u16 O ⟨B,hM16,ar⟩;refine⟨(bu (bG Z Z Z Z Z (RB Z ar.bA.pop.g0 (n:=2) (vs:=[_,_]) Z)<|gP<|cK (fA _ _)<|cK hi.jm gQ) aX),?_⟩;have hq:=ar.keeps;have hr:=Pq F X ho hR (rW (KP.dI K B) hi) (hM16.gL (K:=K.m7 B) fun y hy=>.inr hy) (by have:=uc l;omega) hq;refine fF Z Z (Rx Z Z Z) (fun _=>Z) hr ?_;clear hq hr;rintro _ O ⟨tb,rb,ev,Me,rfl,hO,ar,u⟩;replace ar:=ar.weaken (KP.dI K B);obtain⟨s,R⟩:∃s,s=fb k c (cP l):=⟨_,Z⟩;rw[<-R] at hO ar u;obtain⟨K1,hle,b,ar⟩:=D.cA (M:=(tb,.row (HV c cv s rb ev) 131 false)::(rb,.row (s.br.map gZ) 2 false)::Me) ar;have ht:=b _ (.head _);have hrr:=b _ (.tail _ (.head _));have hev:=hO.gL (K:=K1) fun y hy=>b _ (.tail _ (.tail _ hy));clear b;dsimp only at ht hrr
 have S:s.br.length<=1000:=by have:=u.br;have:=X.Az;omega
 have hregs:=fq (xs:=s.br) hrr S;have hl1:=hl.mono hle fun _ _ h=>h
 have hN:bZ k c l=lk k c s l:=by unfold bZ;rw[kO,Q,R];rfl
 refine⟨aX,?_⟩;refine Ql 3 Z<|ak<|aM<|Qg 4 Z<|bc Z (Rx Z Z Z) (fun _=>Z) (N3 F hev ht hl1 ar) (fun O ar=>?_);refine ky Z (dq Z) (fun d=>?_) (fun d=>?_)
 ·refine PF 6 Z (Y Z (Rw (places:=[(0,5),(5,5),(10,1)]) (zero:=[J,J,J,J,J,J,J,J,J,J,J]) (cs:=[_,_,_,_,_,_,_,_,_,_,_]) Z) Z<|bE ar Z (RG Z Z Z ar.g0 (m:=11) Z Z (cells':=[_,_,_,_,_,_,_,_,_,_,_]) Z) Z (fun O ar=>?_));refine Qk 4 Z<|aJ<|ay (?_);exact bC Z Z ar.g0 (m:=11) U Z Z ⟨by rw[hN,show lk k c s l=(Aj,2) from by unfold lk;rw[mn d];rfl];rfl,(ar.pop.pop).weaken hle⟩
 refine PF 7 Z<|Y Z (cz Z) Z<|Y Z (Ry 4 Z) Z<|Y Z (Rz Z (ar.da ht) Z) Z<|Y Z (RC hev Z Z Z (e:=56) Z) Z<|vQ 1 Z<|Y Z (RC hl1 Z Z Z (e:=56) Z) Z<|ky Z (az Z Z Z) (fun w=>?_) (fun w=>?_)
 ·refine PF 7 Z<|Y Z (cz Z) Z<|Y Z (Ry 4 Z) Z<|Y Z (Rz Z (ar.da ht) Z) Z<|vQ 1 Z<|Y Z (RC hl1 Z Z Z (e:=56) Z) Z ?_;obtain⟨ab,z⟩:=cT (bk w);refine Rr (e:=56) (m:=5) hev z Z Z Z Z (fun ap ac T am W=>?_);obtain rfl:=W;refine Y Z (RF ar T Z Z) Z (Y Z (Rw (places:=[(0,5),(5,5),(10,1)]) (zero:=[J,J,J,J,J,J,J,J,J,J,J]) (cs:=[_,_,_,_,_,_,_,_,_,_,_]) Z) Z<|bE ar Z (RG Z Z Z ar.g0 (m:=11) Z Z (cells':=[_,_,_,_,_,_,_,_,_,_,_]) Z) Z (fun O ar=>?_));refine Qk 4 Z<|aJ<|ay (?_);exact bC Z Z ar.g0 (m:=11) U Z Z ⟨by rw[hN,show lk k c s l=(⟨ab,ia,0⟩,0) from by unfold lk;rw[fX d,z];rfl];rfl,(ar.pop.pop).weaken hle⟩
 refine PF 7 Z<|Y Z (cz Z) Z<|Y Z (Ry 7 Z) Z<|ky Z (Rz Z (ar.da ht) Z) (fun C=>?_) (fun C=>?_)
 ·refine PF 7 Z ?_;obtain⟨xs,E⟩:=cT (u.lt hR);have hrx:=X.right xs (gB_ E);refine bc Z (Rx Z Z Z) (fun _=>Z) (MD F (rW hle hi) (by have:=u.br;have:=X.F4;omega) E hrx hregs ht ar) (fun O ar=>?_);refine Y Z (Rw (places:=[(0,5),(5,5),(10,1)]) (zero:=[J,J,J,J,J,J,J,J,J,J,J]) (cs:=[_,_,_,_,_,_,_,_,_,_,_]) Z) Z<|bE ar Z (RG Z Z Z ar.g0 (m:=11) Z Z (cells':=[_,_,_,_,_,_,_,_,_,_,_]) Z) Z (fun O ar=>?_);refine Qk 4 Z<|aJ<|ay (?_);exact bC Z Z ar.g0 (m:=11) U Z Z ⟨by rw[hN,show lk k c s l=(⟨j0,Gy k xs s.br,0⟩,0) from by unfold lk;rw[fX d,gN_<|bz w,C];show((⟨j0,jk k c s,0⟩:pg),(0:Int))=_;unfold jk;rw[E]];rfl,(ar.pop.pop).weaken hle⟩
 refine PG 6 Z (Qg 3 Z (Y Z (cz Z) Z (Y Z (Ry 6 Z) Z (Y Z (Rz Z (ar.da ht) Z) Z (Y Z (Rw (places:=[(0,5),(5,5),(10,1)]) (zero:=[J,J,J,J,J,J,J,J,J,J,J]) (cs:=[_,_,_,_,_,_,_,_,_,_,_]) Z) Z<|bE ar Z (RG Z Z Z ar.g0 (m:=11) Z Z (cells':=[_,_,_,_,_,_,_,_,_,_,_]) Z) Z (fun O ar=>?_))))));refine Qk 4 Z ?_;exact bC Z Z ar.g0 (m:=11) U Z Z ⟨by rw[hN,show lk k c s l=(⟨j0,ia,s.fin⟩,0) from by unfold lk;rw[fX d,gN_<|bz w,C];rfl];rfl,(ar.pop.pop).weaken hle⟩
def x8 (x:XI):Bool:=bif H x.kind 2 then true else bif H x.kind 3 then true else bif H x.kind 4 then true else bif H x.kind 5 then true else H x.kind 6
def qX (n:Int) (x:XI):Bool:=bif x8 x then bf (cq x.loc n) else false
def xK (k:Nat) (c:XC):Bool:=bif cq 16 c.br then true else cq 14 (tF k c)
def vn (k:Nat) (n:Int) (c:XC):Bool:=bif jt k c then c.ins.any (qX n) else true
def vp (k:Nat) (init:List Int) (l:List XC):Int:=
 bif cq 4 (.ofNat l.length) then 3 else bif cq 6 (.ofNat init.length) then 3 else bif l.any (xK k) then 3 else bif l.any (vn k (.ofNat init.length)) then 2 else bif H (.ofNat l.length) 0 then 2 else 0
structure xU (k:Nat) (init:List Int) (l:List XC):Prop where
 len:l.length<=4
 init:init.length<=6
 pos:0<l.length
 flat:∀c∈l,jt k c=true
theorem Nb {k:Nat} {init:List Int} {l:List XC} (h:vp k init l=0):xU k init l:=by
 unfold vp at h;cases h1:cq 4 (.ofNat l.length) with
 | true=>rw[h1] at h;cases h
 | false=>
 cases b:cq 6 (.ofNat init.length) with
 | true=>rw[h1,b] at h;cases h
 | false=>
 cases h3:l.any (xK k) with
 | true=>rw[h1,b,h3] at h;cases h
 | false=>
 cases h4:l.any (vn k (.ofNat init.length)) with
 | true=>rw[h1,b,h3,h4] at h;cases h
 | false=>
 cases h5:H (.ofNat l.length) 0 with
 | true=>rw[h1,b,h3,h4,h5] at h;cases h
 | false=>
 refine⟨bz (a:=4) h1,bz (a:=6) b,?_,fun c d=>?_⟩
 ·rcases Nat.eq_zero_or_pos l.length with e | e
  ·rw[e] at h5;cases h5
  exact e
 have:=List.any_eq_false.1 h4 c d;unfold vn at this;cases hf:jt k c with
 | true=>rfl
 | false=>rw[hf] at this;exact absurd Z this
theorem HK {G:Cx} (B:Plain G) {K:KP} {k:Nat} {x:XI} {vs:List V} (h:iB K k x vs) {O:N} {L:Own} (ar:D O K L):a8 Tryz.prog G 142 [.agg vs] O fun v O'=>v= .bool (x8 x)/\D O' K L:=by
 obtain⟨w,rfl,hk⟩:=h;refine QO B Tryz.func142 Z<|Qg 2 Z<|kp ar Z (cG Z Z) (fun O b1 ar=>?_);refine O6 ar 8 [0,0] Z Z<|PD 3 Z<|Pz 3 Z<|ky Z (az Z Z Z) (fun b=>?_) (fun b=>?_)
 ·refine PH 13 Z<|aJ<|ay (?_);exact aB Z Z ⟨cB (by unfold x8;simp only[b,ct,cf]),ar.pop⟩
 refine PF 6 Z<|ky Z (az Z Z Z) (fun u=>?_) (fun u=>?_)
 ·refine PH 13 Z<|aJ<|ay (?_);exact aB Z Z ⟨cB (by unfold x8;simp only[b,u,ct,cf]),ar.pop⟩
 refine PF 6 Z<|ky Z (az Z Z Z) (fun z=>?_) (fun z=>?_)
 ·refine PH 13 Z<|aJ<|ay (?_);exact aB Z Z ⟨cB (by unfold x8;simp only[b,u,z,ct,cf]),ar.pop⟩
 refine PF 6 Z<|ky Z (az Z Z Z) (fun A=>?_) (fun A=>?_)
 ·refine PH 13 Z<|aJ<|ay (?_);exact aB Z Z ⟨cB (by unfold x8;simp only[b,u,z,A,ct,cf]),ar.pop⟩
 refine Qj 5 Z<|ky Z (az Z Z Z) (fun d=>?_) (fun d=>?_)
 ·refine Qk 10 Z<|aJ<|ay (?_);exact aB Z Z ⟨cB (by unfold x8;simp only[b,u,z,A,d,ct,cf]),ar.pop⟩
 refine PG 6 Z<|QT 6 Z ?_;exact aB Z Z ⟨cB (by unfold x8;simp only[b,u,z,A,d,ct,cf]),ar.pop⟩
theorem Pp {G:Cx} (d:Plain G) {K:KP} {k:Nat} {x:XI} {vs:List V} (h:iB K k x vs) {init:List Int} {vi:V} (hi:bF K 1 ek init vi) {bi e1:Nat} {ro:Bool} (hb:K bi (.row [vi] e1 ro)) {O:N} {L:Own} (ar:D O K L):a8 Tryz.prog G 141 [.agg vs,.ptr bi 0] O fun v O'=>v= .bool (qX (.ofNat init.length) x)/\D O' K L:=by
 have h0:=h;obtain⟨w,rfl,hk⟩:=h;refine QO d Tryz.func141 Z<|Qg 2 Z<|kp ar Z (cG Z Z) (fun O b1 ar=>?_);refine PF 5 Z<|Y Z (RB Z ar.g0 (n:=6) (vs:=[_,_,_,_,_,_]) Z) Z<|bc Z (Rx Z Z Z) (fun _=>Z) (HK d h0 ar) (fun O ar=>?_);refine ky Z (an Z) (fun b=>?_) (fun b=>?_)
 ·refine QY ar 2 [2,0] Z Z<|Y Z (Rz Z (ar.da hb) Z) Z<|Y Z (RC hi Z Z Z (e:=2) Z) Z<|Qk 6 Z ?_;exact aB Z Z ⟨cB (by unfold qX bf;rw[b]<;>rfl),ar.pop⟩
 refine Qk 10 Z ?_;exact aB Z Z ⟨cB (by unfold qX bf;rw[b]<;>rfl),ar.pop⟩
theorem AQ {G:Cx} (F:Plain G) {K:KP} {k:Nat} {l:List XI} {v:V} {p:XI->Bool} {bi:Nat} (h:bF K 6 (iB K k) l v) {O:N} {L:Own} (ar:D O K L) (w:∀x u O L,D O K L->iB K k x u->a8 Tryz.prog G 141 [.agg u,.ptr bi 0] O fun v O'=>v= .bool (p x)/\D O' K L):
  a8 Tryz.prog G 194 [v,.func 141 [] [.ptr bi 0]] O fun v O'=>v= .int .i64 (fB p l 0)/\D O' K L:=by
 refine QO F Tryz.func194 Z<|Pz 9 Z<|Y Z (RC h Z Z Z (e:=79) Z) Z<|PD 4 Z ?_;obtain⟨LL1,ar,hLL1⟩:=ar.named;refine bh ([4,5]++rg 8 11) (fun j t O=>∃(i:Nat),j+i=l.length/\fB p l 0=fB p (l.drop i) i/\t.get 8=some (.int .i64 (.ofNat i))/\D O K LL1) (l.length) ⟨0,Z,Z,Z,ar⟩ ?_;clear ar;intro M t O aq Q;obtain⟨i,hj,he,C,ar⟩:=Q;subst hLL1;obtain⟨oo,rfl⟩:=aq.q1 C Z;refine Qf 6 Z<|aF Z (fun E=>?_) (fun E=>?_)
 ·refine Oj 15 Z ?_;obtain⟨z,b,aa⟩:=dH E;refine Rr (e:=79) (m:=6) h b Z Z Z Z (fun ao ab B ac d=>?_);have hr14raw:=d;have hr14':=d;obtain⟨ap,rfl,am⟩:=hr14';refine Y Z (RF ar B Z Z) Z<|bc Z (Rx Z Z Z) (fun _=>Z) (w z _ _ _ ar hr14raw) (fun O ar=>?_);refine Qi 2 Z<|aF Z (fun A=>?_) (fun A=>?_)
  ·refine QT 7 Z<|aJ<|ay<|bD<|aJ<|ay (?_);exact aB Z Z ⟨cJ (by symm;rw[he,bX b];show(bif p z then _ else _)=_;rw[A];rfl),ar⟩
  refine aH<|aG<|QR 4 Z<|aL ⟨M-1,by omega,oF,i+1,by omega,by rw[he,bX b];show(bif p z then _ else _)=_;rw[A];rfl,cI<|aY (by have:=h.bL;omega),ar⟩
 refine PC 3 Z<|aS<|QT 6 Z ?_;exact aB Z Z ⟨cJ (by symm;rw[he,ej<|bz E];rfl),ar⟩
theorem vx {G:Cx} (d:Plain G) {K:KP} {k:Nat} {l:List XI} {v:V} {p:XI->Bool} {bi:Nat} (h:bF K 6 (iB K k) l v) {O:N} {L:Own} (ar:D O K L) (b:∀x u O L,D O K L->iB K k x u->a8 Tryz.prog G 141 [.agg u,.ptr bi 0] O fun v O'=>v= .bool (p x)/\D O' K L):
  a8 Tryz.prog G 143 [v,.func 141 [] [.ptr bi 0]] O fun v O'=>v= .bool (l.any p)/\D O' K L:=by
 refine QO d Tryz.func143 Z<|Qg 9 Z<|bc Z (Rx Z Z Z) (fun _=>Z) (AQ d h ar b) (fun O ar=>?_);refine Qk 5 Z ?_;exact aB Z Z ⟨cB<|sR _ _,ar⟩
theorem HJ {G:Cx} (hG:Plain G) {K:KP} (hgl:mF G K) {k:Nat} {init:List Int} {vi:V} (hi:bF K 1 ek init vi) {l:List XC} {lv:V} (hl:bF K 2 (lr K k) l lv) {O:N} {L:Own} (ar:D O K L):
  a8 Tryz.prog G 99 [vi,lv] O fun v O'=>v= .int .i64 (vp k init l)/\D O' K L:=by
 refine QO hG Tryz.func99 Z<|Qg 2 Z<|kp ar Z (cG Z hi.leaf.1) (fun O b1 ar=>?_);obtain⟨K1,hle,R,ar⟩:=ar.cA (M:=[_]);have hb:=R _ (.head _);clear R;dsimp only at hb;replace hgl:=hgl.mono hle;replace hi:=hi.mono hle fun _ _ h=>h;replace hl:=hl.mono hle fun _ _ h=>h.mono hle
 refine O4 7 Z<|Y Z (RC hl Z Z Z (e:=33) Z) Z<|vQ 1 Z<|ky Z (an Z) (fun b=>?_) (fun b=>?_)
 ·refine PH 14 Z ?_;exact aB Z Z ⟨cJ (by symm;unfold vp;rw[b];rfl),ar.weaken hle⟩
 refine Y Z (Rz Z (ar.da hb) Z) Z<|Y Z (RC hi Z Z Z (e:=2) Z) Z<|Qi 4 Z<|aF Z (fun T=>?_) (fun T=>?_)
 ·refine Qh 7 Z ?_;exact aB Z Z ⟨cJ (by symm;unfold vp;rw[b,show cq 6 (.ofNat init.length)=true from T];rfl),ar.weaken hle⟩
 have h17x:cq 6 (.ofNat init.length)=false:=T;refine O2 6 Z<|Y Z (RC hl Z Z Z (e:=33) Z) Z<|PD 4 Z ?_;obtain⟨LL1,ar,hLL1⟩:=ar.named;refine bh ([4,6]++rg 20 13) (fun j t O=>∃(i:Nat),j+i=l.length/\(l.take i).any (xK k)=false/\t.get 20=some (.int .i64 (.ofNat i))/\D O K1 LL1) (l.length) ⟨0,Z,Z,Z,ar⟩ ?_;clear ar;intro j4 t O aq hI;obtain⟨i,bo,A,am,ar⟩:=hI;subst hLL1;obtain⟨oo,rfl⟩:=aq.q1 am Z;refine Qf 6 Z<|aF Z (fun z=>?_) (fun z=>?_)
 ·refine Oj 6 Z ?_;obtain⟨W,d,a3⟩:=dH z;refine Rr (e:=33) (m:=2) hl d Z Z Z Z (fun bq a4 ao a5 ap=>?_);have hr22':=ap;obtain⟨br,rfl,S⟩:=hr22';refine Y Z (RF ar ao Z Z) Z<|kp ar Z (RD (cs:=[J,.av])) (fun O b2 ar=>?_);refine bE ar Z (RG Z Z Z ar.g0 (m:=2) Z (af Z<|af S.leaf.2 aA) (cells':=[_,_]) Z) Z (fun O ar=>?_);refine PL ar 7 [0,0] Z Z<|ky Z (an Z) (fun E=>?_) (fun E=>?_)
  ·refine Qk 13 Z<|aJ<|ay<|bD<|aJ<|ay (?_);exact aB Z Z ⟨cJ (by symm;unfold vp;rw[b,show cq 6 (.ofNat init.length)=false from h17x,zH d (show xK k W=true from by unfold xK;rw[E];rfl)];rfl),(ar.pop).weaken hle⟩
  refine Y Z (RB Z ar.g0 (n:=2) (vs:=[_,_]) Z) Z<|bc Z (Rx Z Z Z) (fun _=>Z) (EZ hG hgl S ar) (fun O ar=>?_);refine Qi 4 Z<|aF Z (fun X=>?_) (fun X=>?_)
  ·refine QT 6 Z<|aJ<|ay<|bD<|aJ<|ay (?_);exact aB Z Z ⟨cJ (by symm;unfold vp;rw[b,show cq 6 (.ofNat init.length)=false from h17x,zH d (show xK k W=true from by unfold xK;rw[E];exact X)];rfl),(ar.pop).weaken hle⟩
  refine aH<|aG<|QR 4 Z ?_;have ar:=ar.pop;refine aL ⟨j4-1,by omega,oF,i+1,by omega,Bv A d (show xK k W=false from by unfold xK;rw[E];exact X),cI<|aY (by have:=hl.bL;omega),ar⟩
 refine PC 3 Z<|aS<|Pz 4 Z<|Y Z (RC hl Z Z Z (e:=33) Z) Z<|PD 4 Z ?_;obtain⟨LL2,ar,hLL2⟩:=ar.named;refine bh ([4,8,9]++rg 35 13) (fun j t O=>∃(i:Nat),j+i=l.length/\(l.take i).any (vn k (.ofNat init.length))=false/\t.get 35=some (.int .i64 (.ofNat i))/\D O K1 LL2) (l.length) ⟨0,Z,Z,Z,ar⟩ ?_;clear ar;intro a2 t O aq hI;obtain⟨i,ba,B,aE,ar⟩:=hI;subst hLL2;obtain⟨oo,rfl⟩:=aq.q1 aE Z;refine Qf 6 Z<|aF Z (fun F=>?_) (fun F=>?_)
 ·refine Oj 6 Z ?_;obtain⟨aa,w,bb⟩:=dH F;refine Rr (e:=33) (m:=2) hl w Z Z Z Z (fun bs be a0 bi a1=>?_);have hr37':=a1;obtain⟨bt,rfl,C⟩:=hr37';refine Y Z (RF ar a0 Z Z) Z<|kp ar Z (RD (cs:=[J,.av])) (fun O b2 ar=>?_);refine bE ar Z (RG Z Z Z ar.g0 (m:=2) Z (af Z<|af C.leaf.2 aA) (cells':=[_,_]) Z) Z (fun O ar=>?_);refine O4 5 Z<|Y Z (RB Z ar.g0 (n:=2) (vs:=[_,_]) Z) Z<|bc Z (Rx Z Z Z) (fun _=>Z) (Kg hG hgl C ar) (fun O ar=>?_);refine Y Z (dq Z) Z<|Qi 2 Z<|aF Z (fun Q=>?_) (fun Q=>?_)
  ·refine QT 6 Z<|ay<|aJ<|ay<|bD<|aJ<|ay (?_);exact aB Z Z ⟨cJ (by symm;unfold vp;rw[b,show cq 6 (.ofNat init.length)=false from h17x,qn A<|bz z,zH w (show vn k _ aa=true from by unfold vn;rw[mn Q];rfl)];rfl),(ar.pop).weaken hle⟩
  refine PK ar 13 [1,0] Z Z (bc Z (Rx Z Z Z) (fun _=>Z) (vx hG C ar (p:=qX (.ofNat init.length)) fun x u O L ar h=>Pp hG h hi hb ar) (fun O ar=>?_));refine Qi 2 Z<|aF Z (fun ab=>?_) (fun ab=>?_)
  ·refine QT 6 Z<|aJ<|ay<|bD<|aJ<|ay (?_);exact aB Z Z ⟨cJ (by symm;unfold vp;rw[b,show cq 6 (.ofNat init.length)=false from h17x,qn A<|bz z,zH w (show vn k _ aa=true from by unfold vn;rw[fX Q];exact ab)];rfl),(ar.pop).weaken hle⟩
  refine aH<|aG<|QR 4 Z ?_;have ar:=ar.pop;refine aL ⟨a2-1,by omega,oF,i+1,by omega,Bv B w (show vn k _ aa=false from by unfold vn;rw[fX Q];exact ab),cI<|aY (by have:=hl.bL;omega),ar⟩
 refine PC 3 Z<|aS<|Pz 4 Z<|Y Z (RC hl Z Z Z (e:=33) Z) Z<|Qi 3 Z<|aF Z (fun ac=>?_) (fun ac=>?_)
 ·refine Qh 7 Z ?_;exact aB Z Z ⟨cJ (by symm;unfold vp;rw[b,show cq 6 (.ofNat init.length)=false from h17x,qn A<|bz z,qn B<|bz F,show H (.ofNat l.length) 0=true from ac];rfl),ar.weaken hle⟩
 refine Qh 8 Z ?_;exact aB Z Z ⟨cJ (by symm;unfold vp;rw[b,show cq 6 (.ofNat init.length)=false from h17x,qn A<|bz z,qn B<|bz F,show H (.ofNat l.length) 0=false from ac];rfl),ar.weaken hle⟩
def Nc (k:Nat) (p:XC×List bW):Int:=(bZ k p.1 p.2).1.fin
theorem yM {k:Nat}:∀{l:List XC} {g:List (List bW)},l.length=g.length->(∀(i:Nat) (c:XC) (r:List bW),l[i]?=some c->g[i]?=some r->H (bZ k c r).2 0=true)->pE k l g=some ((l.zip g).map<|Nc k)
 | [],[],_,_=>rfl
 | [],_::_,h,_=>by simp at h
 | _::_,[],h,_=>by simp at h
 | c::l,r::g,h,hh=>by
  have h0:=hh 0 c r Z Z;have:=yM (k:=k) (l:=l) (g:=g) (by simpa using h) fun i c r h1 b=>hh (i+1) c r (by simpa using h1) (by simpa using b)
  show(bif H (bZ k c r).2 0 then(pE k l g).map fun e=>(bZ k c r).1.fin::e else none)=_;rw[h0,this];rfl
theorem yN {k:Nat}:∀{l:List XC} {g:List (List bW)} {i:Nat} {c:XC} {r:List bW},l[i]?=some c->g[i]?=some r->H (bZ k c r).2 0=false->pE k l g=none
 | c'::l,r'::g,0,c,r,h1,b,h=>by
  simp only[List.getElem?_cons_zero,oJ_] at h1 b;subst h1;subst b;show(bif H (bZ k c' r').2 0 then _ else none)=none;rw[h];rfl
 | c'::l,r'::g,i+1,c,r,h1,b,h=>by
  have:=yN (k:=k) (l:=l) (g:=g) (i:=i) (by simpa using h1) (by simpa using b) h;show(bif H (bZ k c' r').2 0 then(pE k l g).map _ else none)=none;rw[this];cases H (bZ k c' r').2 0<;>rfl
 | [],_,_,_,_,h1,_,_=>by simp at h1
 | _::_,[],_,_,_,_,b,_=>by simp at b
theorem Oc {α β:Type} {l:List α} {g:List β} {i:Nat} {x:α} {y:β} (h1:l[i]?=some x) (b:g[i]?=some y):(l.zip g)[i]?=some (x,y):=by rw[List.getElem?_zip_eq_some];exact⟨h1,b⟩
theorem NT {G:Cx} (hG:Plain G) {K:KP} (a5:mF G K) {k:Nat} {l:List XC} {lv:V} (hl:bF K 2 (lr K k) l lv) {g:XG} {a b c d:V} (hg:eW K g a b c d) {O:N} {L:Own} (ar:D O K L):
  a8 Tryz.prog G 12 [lv,.agg [a,b,c,d]] O fun v O'=>∃u M,v= .tuple [u,.bool (iP k l g).isSome]/\dt 1 3 ek ((iP k l g).getD []) u M/\D O' K (M++L):=by
 refine QO hG Tryz.func12 Z<|Qg 2 Z<|kp ar Z (cG Z Z) (fun O b1 ar=>?_);refine O4 7 Z<|Y Z (RB Z ar.g0 (n:=4) (vs:=[_,_,_,_]) Z) Z<|bc Z (Rx Z Z Z) (fun _=>Z) (vM hG hg ar) (fun O ar=>?_);refine vQ 1 Z<|ky Z (an Z) (fun C=>?_) (fun C=>?_)
 ·refine PH 18 Z ?_;have Q:iP k l g=none:=by unfold iP;rw[show bf (H (cd g) 0)=true from C];rfl
  exact cR Z Z Z ⟨.av,[],by rw[Q];rfl,by rw[Q];exact .inl ⟨Z,Z,Z⟩,ar.pop⟩
 refine vQ 1 Z<|Y Z (RC hl Z Z Z (e:=33) Z) Z<|QY ar 2 [1,0] Z Z<|Y Z (RC hg.threads Z Z Z (e:=57) Z) Z<|Qi 4 Z<|aF Z (fun R=>?_) (fun R=>?_)
 ·refine Qh 8 Z ?_;have Q:iP k l g=none:=by unfold iP;rw[show bf (H (cd g) 0)=false from C,show bf (H (.ofNat l.length) (.ofNat g.threads.length))=true from R];rfl
  exact cR Z Z Z ⟨.av,[],by rw[Q];rfl,by rw[Q];exact .inl ⟨Z,Z,Z⟩,ar.pop⟩
 refine PB 5 Z<|Y Z (RC hl Z Z Z (e:=33) Z) Z ?_;have ba:cd g=0:=eqv (bl C);obtain⟨b1_,_,b3_,_⟩:=dc ba;have ac:l.length=g.threads.length:=dG (bl R);obtain⟨F,hF⟩:∃F,F=Nc k:=⟨_,Z⟩;have T:(l.zip g.threads).length=l.length:=by rw[List.length_zip,ac];omega
 refine fY ar Z (iy (e:=3) (w:=8) (z:=[gZ 0]) U U U U Z Z oM oM) (fun _=>Z) (fun O b2 ar=>?_);rw[iL (f:=gZ)] at ar;rw[show List.replicate l.length 0=mQ F (l.zip g.threads) 0 from by rw[wv,T]] at ar;refine O4 7 Z (Y Z (RC hl Z Z Z (e:=33) Z) Z (PD 4 Z (bh ([4,5]++rg 7 4++rg 27 23) (fun j t O=>∃(i:Nat),j+i=l.length/\(∀(W:Nat) (c2:XC) (r2:List bW),W<i->l[W]?=some c2->g.threads[W]?=some r2->H (bZ k c2 r2).2 0=true)/\t.get 27=some (.int .i64 (.ofNat i))/\D O K ((b2,.row ((mQ F (l.zip g.threads) i).map gZ) 3 false)::(b1,.row [a,b,c,d] 26 false)::L)) (l.length) ⟨0,Z,fun W c2 r2 h=>absurd h (nZ_ _),Z,ar⟩ ?_)));clear ar;intro j5 t O aq hI;obtain⟨i,bq,ap,aE,ar⟩:=hI;obtain⟨oo,rfl⟩:=aq.q1 aE Z;refine Qg 2 Z<|ky Z (az Z Z Z) (fun X=>?_) (fun X=>?_)
 ·refine Ok 11 Z ?_;obtain⟨am,B,S⟩:=dH X;refine Rr (e:=33) (m:=2) hl B Z Z Z Z (fun br bb a0 be a1=>?_);have hr30':=a1;obtain⟨bs,rfl,ab⟩:=hr30';refine Y Z (RF ar a0 Z Z) Z<|kp ar Z (RD (cs:=[J,.av])) (fun O b3 ar=>?_);refine vQ 1 Z<|bE ar Z (RG Z Z Z ar.g0 (m:=2) Z (af Z<|af ab.leaf.2 aA) (cells':=[_,_]) Z) Z (fun O ar=>?_);refine PE 3 Z (aQ (l:=[(0,[]),(1,[]),(2,[]),(3,[]),(4,[]),(5,[]),(10,[]),(6,[10]),(7,[]),(8,[]),(9,[]),(11,[]),(12,[])]) U U<|aj Z Z (RB Z ar.g0 (n:=2) (vs:=[_,_]) Z) Z<|QZ ar 3 [1,2] Z Z ?_);obtain⟨aa,A⟩:=cT (show i<g.threads.length from by rw[<-ac];exact S);refine Rt (e:=57) (m:=1) hg.threads A Z Z Z Z Z (fun bt bi a2 bo a3=>?_);have hr37':=a3;obtain⟨bv,rfl,a4⟩:=hr37';refine aj Z Z (RE ar a2 Z Z) Z<|oV ar Z Z (RD (cs:=[J,J,J,J,J,J,J,J,J,J,J])) (fun _=>Z) (fun O b4 ar=>?_);refine dJ Z Z (Rx Z Z Z) (fun _=>Z) (Kj hG a5 ab a4 (by have:=b3_ aa (gB_ A);omega) ar) (fun O ar=>?_);refine⟨(bu (lQ Z Z Z Z Z (cs:=[J,J,J,J,J,J,J,J,J,J,J]) (e:=87) U ar.g0 U) aX),?_⟩;refine QW 3 Z<|gF ar Z Z (RG Z Z Z ar.g0 (m:=11) Z Z (cells':=[_,_,_,_,_,_,_,_,_,_,_]) Z) Z (fun O ar=>?_);refine⟨aX,?_⟩;refine Ql 3 Z<|Qf 7 Z<|aF Z (fun ao=>?_) (fun ao=>?_)
  ·refine QT 7 Z<|ay<|aJ<|ay<|bD<|aJ<|ay (?_);have Q:iP k l g=none:=by unfold iP;rw[show bf (H (cd g) 0)=false from C,show bf (H (.ofNat l.length) (.ofNat g.threads.length))=false from R];exact yN B A<|cC ao
   exact cR Z Z Z ⟨.av,[],by rw[Q];rfl,by rw[Q];exact .inl ⟨Z,Z,Z⟩,ar.pop.pop.pop.pop⟩
  refine aH<|QX ar 5 [10,0] Z Z<|Y Z (eI (e:=3) (m:=1) U U Z Z S) Z ?_;refine ei ar (.there (.there .here)) Z (aK Z Z (show _=some [gZ<|F (am,aa)] from by rw[hF];rfl) (ar.get 2 Z) (m:=1) U Z (by rw[lM_];rw[qx oM,T];omega) Z (cells':=((mQ F (l.zip g.threads) i).set i<|F (am,aa)).map (gZ)) (eN (f:=gZ) (v:=(F (am,aa))) (by rw[qx oM,T];exact S) (by first | omega | rfl))) Z (fun O ar=>?_);rw[yL<|Oc B A] at ar;refine ah<|aG<|QR 4 Z ?_;have ar:=ar.pop;have ar:=ar.pop;refine aL ⟨j5-1,by omega,oF,i+1,by omega,fun W c2 r2 bw h1 h2=>(by by_cases e:W=i;(subst e;rw[B] at h1;rw[A] at h2;cases h1;cases h2;exact bl ao);exact ap W c2 r2 oM h1 h2),cI<|aY (by have:=hl.bL;omega),ar⟩
 refine PE 4 Z<|PC 3 Z<|aS<|QT 8 Z ?_;have Q:iP k l g=some ((l.zip g.threads).map<|Nc k):=by unfold iP;rw[show bf (H (cd g) 0)=false from C,show bf (H (.ofNat l.length) (.ofNat g.threads.length))=false from R];exact yM ac fun W c2 r2 h1 h2=>ap W c2 r2 (by have:=(gA.1 h1).1;have:=bz X;omega) h1 h2
 rw[yK (by have:=bz X;omega)] at ar;exact cR Z Z Z ⟨_,[(b2,_)],by rw[Q];rfl,by rw[Q,<-hF];have:=ke (b:=b2) (e:=3) (E:=3) (xs:=(l.zip g.threads).map F) (by rw[lM_];omega);rw[lM_,T] at this;exact this,ar.sub (.cons_cons _ (.cons _ (.refl _)))⟩
theorem NX {G:Cx} (C:Plain G) {K:KP} {g:XG} {a b c d:V} (F:eW K g a b c d) (E:∀l∈g.order,l.length<=1000000) (loc:Int) {O:N} {L:Own} (ar:D O K L):
  a8 Tryz.prog G 43 [.agg [a,b,c,d],.int .i64 loc] O fun v O'=>v= .int .i64 (iR g loc)/\D O' K L:=by
 refine QO C Tryz.func43 Z<|Qg 2 Z<|kp ar Z (cG Z Z) (fun O b1 ar=>?_);refine PF 5 Z<|Y Z (RB Z ar.g0 (n:=4) (vs:=[_,_,_,_]) Z) Z<|vQ 1 Z<|bR Z (Rx Z Z Z) (fun _=>Z) (tw C F E _ ar) ?_;rintro ac O ⟨am,hM10,ar⟩;obtain⟨M,hle,z,ar⟩:=ar.cA;have hw:=hM10.gL (K:=M) fun y hy=>z _ hy;have hg1:=F.mono hle;have hb9:=ar.get 0 Z
 refine O4 7 Z<|Y Z (RC hw Z Z Z (e:=67) Z) Z<|Qi 3 Z<|aF Z (fun u=>?_) (fun u=>?_)
 ·refine Qh 7 Z ?_;exact aB Z Z ⟨cJ (by unfold iR;rw[List.getLast?_eq_none_iff.2<|eN_<|iJ_<|eqv (b:=.ofNat 0) u]),(ar.pop).weaken hle⟩
 refine PA 3 Z (aQ (l:=[(0,[]),(1,[]),(2,[]),(3,[]),(4,[]),(5,[]),(6,[]),(11,[]),(7,[11]),(8,[]),(9,[]),(10,[]),(12,[]),(13,[])]) U U<|aj Z Z (RB Z ar.g0 (n:=4) (vs:=[_,_,_,_]) Z) Z<|QW 2 Z<|aj Z Z (RC hw Z Z Z (e:=67) Z) Z<|wQ 1 Z ?_);have ao:0<(bV g loc).length:=by rcases Nat.eq_zero_or_pos (bV g loc).length with e | e;(rw[e] at u;cases u);exact e
 obtain⟨ap,w⟩:=cT (show(bV g loc).length-1<(bV g loc).length from by omega);refine Rt (e:=67) (m:=2) hw w Z Z Z Z (cI<|qT (b:=1) oM hw.bL) (fun aq aa A ab B=>?_);obtain rfl:=B;refine aj Z Z (RF ar A Z Z) Z<|oV ar Z Z (RD (cs:=[J,J,J,J,J])) (fun _=>Z) (fun O b2 ar=>?_);refine dJ Z Z (Rx Z Z Z) (fun _=>Z) (AU C hg1 _ _ ar) (fun O ar=>?_);refine⟨(bu (lQ Z Z Z Z Z (cs:=[J,J,J,J,J]) (e:=56) U ar.g0 U) aX),?_⟩;refine QW 3 Z<|gF ar Z Z (RG Z Z Z ar.g0 (m:=5) Z Z (cells':=[_,_,_,_,_]) Z) Z (fun O ar=>?_);refine⟨aX,?_⟩;refine Ql 3 Z<|Qg 2 Z<|Qp ar 6 [4,0] Z Z ?_;exact aB Z Z ⟨cJ (by unfold iR;rw[List.getLast?_eq_getElem?,w]),(ar.pop.pop).weaken hle⟩
theorem Jx {α:Type} {m E b e:Nat} {R:α->List V->Prop} {x:α} {vs:List V} (hm:vs.length=m) (d:R x vs):dt m E R [x] (.slice b 0 1 (.known 1)) [(b,.row vs e false)]:=
 .inr ⟨b,.known 1,vs,e,Z,Z,by rw[hm];simp,fun i y h=>by
  cases i with
  | zero=>cases h;rw[Nat.zero_mul,List.drop_zero,tL_ oM];exact d
  | succ i=>simp at h,.inl Z,by show 1<=1048576;decide⟩
theorem Im {G:Cx} (T:Plain G) {K:KP} {g:XG} {a b c d:V} (Q:eW K g a b c d) (loc:Int) {O:N} {L:Own} (ar:D O K L):
  a8 Tryz.prog G 57 [.agg [a,b,c,d],.int .i64 loc] O fun v O'=>∃M,dt 2 67 ji (bV g loc) v M/\D O' K (M++L):=by
 refine QO T Tryz.func57 Z<|Qg 2 Z<|kp ar Z (cG Z Z) (fun O b1 ar=>?_);refine O4 6 Z<|Y Z (RB Z ar.g0 (n:=4) (vs:=[_,_,_,_]) Z) Z<|bc Z (Rx Z Z Z) (fun _=>Z) (uk T Q ar) (fun O ar=>?_);refine vQ 1 Z<|ky Z (an Z) (fun B=>?_) (fun B=>?_)
 ·refine PH 20 Z ?_;exact aB Z Z ⟨[],.inl ⟨oQ<|cC B,Z,Z⟩,ar.pop⟩
 refine QV 3 Z<|ky Z (an Z) (fun w=>?_) (fun w=>?_)
 ·refine PH 16 Z ?_;exact aB Z Z ⟨[],.inl ⟨qj w,Z,Z⟩,ar.pop⟩
 refine QY ar 3 [0,0] Z Z<|Y Z (RC Q.init Z Z Z (e:=2) Z) Z<|Qi 4 Z<|aF Z (fun A=>?_) (fun A=>?_)
 ·obtain⟨ln,rfl⟩:=iF w;refine Qh 7 Z ?_;exact aB Z Z ⟨[],.inl ⟨qi (by rw[(dc<|sx<|bl B).2.2.2.2.1];exact nA A),Z,Z⟩,ar.pop⟩
 obtain⟨ln,rfl⟩:=iF w;refine PB 5 Z (Y Z (Rw (places:=[(0,1),(1,1)]) (zero:=[J,J]) (cs:=[_,_]) Z) Z<|fY ar Z (cm (e:=67) (m:=2) (z:=[J,J]) (cs:=[_,_]) U U U U<|bj Z Z Z Z bO) (fun _=>Z) (fun O W ar=>?_));replace ar:D O _ ([(W,.row _ 67 false)]++_):=ar;refine Y Z (Ry 3 Z) Z<|Y Z (Rz Z ar.bA.g0 Z) Z<|vQ 1 Z ?_;obtain⟨ac,u⟩:=cT (show ln<g.order.length from by rw[(dc<|sx<|bl B).2.2.2.2.1];exact nD A);refine Rr (e:=74) (m:=1) Q.order u Z Z Z Z (fun am aa C ab E=>?_);have hr25':=E;obtain⟨ao,rfl,F⟩:=hr25';refine Y Z (RE ar C Z Z) Z (Nu (R:=ji) (m:=2) (e:=67) (Jx (m:=2) (R:=ji) (x:=⟨0,.ofNat ln⟩) Z Z) ar F ji.leaf (by have:=jA (sx<|bl B) _ (gB_ u);show 1+_<=_;omega) Z Z Z Z Z Z Z (fun _=>Z) (fun O ap S hO27 ar=>?_));refine Qk 4 Z ?_;exact aB Z Z ⟨S,by rw[ew (bl B) u];exact hO27,ar.sub<|eO (.cons _ (.refl _))⟩
end Go.Ev
namespace Go.Ev
variable [Env]
def gG (g:XG) (id:bT):Int:=bif (cZ g id).isSome then(bif bd (mE<|cZ g id) then fB (fun x:bT=>bY x.ints id.ints) (bV g (mE<|cZ g id).loc) 0 else-1) else-1
def pc (g:XG) (id:bT):Bool:=bif H id.cH 0 then false else bif bf (H (mE<|cZ g id).kind 3) then false else bf (H (gG g id)<|wr .i64<|Int.add (gG g<|Ld g id) 1)
def HF (g:XG):Int:=fB (pc g) (ie g) 0
def ld (n:Nat) (R:Rn):Int:=fB (fun i=>yh n R i i) (List.range n) 0
def vo (g:XG):Rn:=yh (nV g) (pR [Bh g,yB g,DW g])
def Cu (g:XG):Rn:=yh (nV g) (pR [rD g,Bh g])
def DZ (g:XG):Rn:=yh (nV g) (pR [rD g,KG g])
def Br (g:XG):Rn:=pR [rD g,Bh g,yB g,DW g]
def MW (g:XG):Bool:=(iH (nV g)<|vm (DZ g)<|mX<|vo g).any fun p=>bf (H (.ofNat p.1) (.ofNat p.2))
def eD (g:XG) (x:Int):Bool:=
 bif H x 2 then bf (cq (HF g) 0) else bif H x 3 then bf (cq (ld (nV g)<|Cu g) 0) else bif H x 4 then bf (cq (ld (nV g)<|DZ g) 0) else
 bif H x 6 then bf (cq (ld (nV g)<|Br g) 0) else bif H x 5 then MW g else false
def gg (m:Int):List Int:=bif H m 1 then [1,2,6] else bif H m 2 then [1,2,3,4,5] else []
def vy (m:Int) (g:XG):Bool:=bif H (.ofNat (gg m).length) 0 then false else bif H (cd g) 0 then(gg m).any (eD g) else true
theorem wJ {α:Type} {p:α->Bool}:∀{l:List α} {i:Nat},cq (fB p l i) 0= !(l.any p)
 | [],_=>rfl
 | x::l,i=>by
  unfold fB;rw[List.any_cons];cases hx:p x with
  | true=>rfl
  | false=>rw[Bool.false_or];exact wJ
end Go.Ev
namespace Go.Ev
variable [Env]
open Go.Proofs
set_option maxRecDepth 4000
set_option maxHeartbeats 8000000
theorem LO {G:Cx} (u:Plain G) {K:KP} {g:XG} {va vb vc vd:V} (z:eW K g va vb vc vd) (A:dD g) (id:bT) {O:N} {L:Own} (ar:D O K L):
  a8 Tryz.prog G 251 [.agg [va,vb,vc,vd],.agg [.int .i64 id.cH,.int .i64 id.index]] O fun v O'=>v= .tuple [.agg<|ints (mE<|cZ g id).ints,.bool (cZ g id).isSome]/\D O' K L:=by
 have hck:=dz.2 A;refine QO u Tryz.func251 Z<|Qg 2 Z<|kp ar Z (cG Z Z) (fun O b1 ar=>?_);refine kp ar Z (cG Z Z) (fun O b2 ar=>?_);refine kp ar Z (RD (cs:=[J,J,J,J,J])) (fun O b3 ar=>?_);refine PF 5 Z<|Y Z (RB Z (ar.get 2 Z) (n:=4) (vs:=[_,_,_,_]) Z) Z<|Y Z (RB Z ar.g1 (n:=2) (vs:=[_,_]) Z) Z<|bc Z (Rx Z Z Z) (fun _=>Z) (tz u z id.cH id.index ar) (fun O ar=>?_);refine QV 3 Z<|kp ar Z (RD (cs:=[J,J,J,J,J])) (fun O b4 ar=>?_);refine bE ar Z (RG Z Z Z ar.g0 (m:=5) Z Z (cells':=[_,_,_,_,_]) Z) Z (fun O ar=>?_);refine O4 6 Z<|Y Z (RB Z (ar.get 3 Z) (n:=4) (vs:=[_,_,_,_]) Z) Z<|bc Z (Rx Z Z Z) (fun _=>Z) (by have q:=uk u z ar;rw[hck] at q;exact q) (fun O ar=>?_);refine vQ 1 Z<|ky Z (an Z) (fun d=>?_) (fun d=>?_)
 ·exact absurd d (by decide)
 refine vQ 1 Z<|Y Z (dq Z) Z<|Qi 3 Z<|aF Z (fun b=>?_) (fun b=>?_)
 ·refine Qg 2 Z (Y Z (Rw (places:=[(0,1),(1,1),(2,1),(3,1),(4,1)]) (zero:=[J,J,J,J,J]) (cs:=[_,_,_,_,_]) Z) Z<|eE ar Z (RG Z Z Z ar.g1 (m:=5) Z Z (cells':=[_,_,_,_,_]) Z) Z (fun O ar=>?_));refine PH 5 Z ?_;exact bC Z Z ar.g1 (m:=5) U Z Z ⟨by have e:(cZ g id).isSome=false:=cC b;rw[e];cases hh:cZ g id with | none=>rfl | some w=>(rw[hh] at e;cases e),ar.pop.pop.pop.pop⟩
 refine PB 4 Z<|Y Z (RB Z ar.g0 (n:=5) (vs:=[_,_,_,_,_]) Z) Z<|eE ar Z (RG Z Z Z ar.g1 (m:=5) Z Z (cells':=[_,_,_,_,_]) Z) Z (fun O ar=>?_);refine Qk 4 Z ?_;exact bC Z Z ar.g1 (m:=5) U Z Z ⟨by rw[show(cZ g id).isSome=true from bl b];rfl,ar.pop.pop.pop.pop⟩
theorem F0 {G:Cx} (Q:Plain G) {K:KP} {g:XG} {va vb vc vd:V} (T:eW K g va vb vc vd) (X:dD g) (id:bT) {O:N} {L:Own} (ar:D O K L):
  a8 Tryz.prog G 211 [.agg [va,vb,vc,vd],.agg [.int .i64 id.cH,.int .i64 id.index]] O fun v O'=>v= .int .i64 (gG g id)/\D O' K L:=by
 refine QO Q Tryz.func211 Z<|Qg 2 Z<|kp ar Z (cG Z Z) (fun O b1 ar=>?_);refine kp ar Z (cG Z Z) (fun O b2 ar=>?_);refine PF 5 Z<|Y Z (RB Z ar.g1 (n:=4) (vs:=[_,_,_,_]) Z) Z<|Y Z (RB Z ar.g0 (n:=2) (vs:=[_,_]) Z) Z<|bc Z (Rx Z Z Z) (fun _=>Z) (LO Q T X id ar) (fun O ar=>?_);refine QV 3 Z<|kp ar Z (RD (cs:=[J,J,J,J,J])) (fun O b3 ar=>?_);refine bE ar Z (RG Z Z Z ar.g0 (m:=5) Z Z (cells':=[_,_,_,_,_]) Z) Z (fun O ar=>?_);refine O4 7 Z<|Y Z (dq Z) Z<|ky Z (an Z) (fun b=>?_) (fun b=>?_)
 ·refine PH 14 Z ?_;exact aB Z Z ⟨cJ (by symm;unfold gG;rw[show(cZ g id).isSome=false from cC b];rfl),ar.pop.pop.pop⟩
 refine Y Z (RB Z ar.g0 (n:=5) (vs:=[_,_,_,_,_]) Z) Z<|bc Z (Rx Z Z Z) (fun _=>Z) (lR Q (mE<|cZ g id) ar) (fun O ar=>?_);refine Y Z (dq Z) Z<|Qi 3 Z<|aF Z (fun w=>?_) (fun w=>?_)
 ·refine Qh 7 Z ?_;exact aB Z Z ⟨cJ (by symm;unfold gG;rw[show(cZ g id).isSome=true from bl b,show bd (mE<|cZ g id)=false from cC w];rfl),ar.pop.pop.pop⟩
 refine PB 4 Z<|Y Z (RB Z (ar.get 2 Z) (n:=4) (vs:=[_,_,_,_]) Z) Z<|QY ar 2 [1,0] Z Z<|bR Z (Rx Z Z Z) (fun _=>Z) (Im Q T _ ar) ?_;rintro am O ⟨R,hM25,ar⟩;obtain⟨W,A,B,ar⟩:=D.cA (M:=R) ar;have hw:=hM25.gL (K:=W) fun y hy=>B _ hy
 refine O3 10 Z ?_;obtain⟨LL1,ar,hLL1⟩:=ar.named;refine bh ([4,8]++rg 26 13) (fun j t O=>∃(k:Nat),j+k=(bV g (mE<|cZ g id).loc).length/\fB (fun x:bT=>bY x.ints id.ints) (bV g (mE<|cZ g id).loc) 0=fB (fun x:bT=>bY x.ints id.ints) ((bV g (mE<|cZ g id).loc).drop k) k/\t.get 8=some (.int .i64 (.ofNat k))/\D O W LL1) ((bV g (mE<|cZ g id).loc).length) ⟨0,Z,Z,Z,ar⟩ ?_;clear ar;intro j6 t O aq hI;obtain⟨k,ao,he,S,ar⟩:=hI;subst hLL1;obtain⟨oo,rfl⟩:=aq.q1 S Z;refine Pz 5 Z<|Y Z (RC hw Z Z Z (e:=67) Z) Z<|Qi 3 Z<|aF Z (fun d=>?_) (fun d=>?_)
 ·refine Oi 5 Z<|aQ (l:=zp [0,1,2,3,4,5]) U U<|QW 2 Z ?_;obtain⟨z,u,aa⟩:=dH d;refine Rt (e:=67) (m:=2) hw u Z Z Z Z Z (fun ap ab E ac F=>?_);obtain rfl:=F;refine aj Z Z (RF ar E Z Z) Z<|aj Z Z (RB Z ar.g1 (n:=2) (vs:=[_,_]) Z) Z<|aj Z Z (zx (n:=2) (ca:=[_,_]) (cb:=[_,_]) U Z Z Z Z) Z<|Ql 2 Z<|aF Z (fun C=>?_) (fun C=>?_)
  ·refine QT 7 Z<|aJ<|ay<|bD<|aJ<|ay (?_);exact aB Z Z ⟨cJ (by symm;unfold gG;rw[show(cZ g id).isSome=true from bl b,show bd (mE<|cZ g id)=true from bl w];show fB (fun x:bT=>bY x.ints id.ints) (bV g (mE<|cZ g id).loc) 0=_;rw[he,bX u];show(bif bY z.ints id.ints then _ else _)=_;rw[show bY z.ints id.ints=true from C];rfl),(ar.pop.pop.pop).weaken A⟩
  refine aH<|aG<|QR 5 Z ?_;have hlp:=bk d;refine aL ⟨j6-1,by have:=bk d;omega,oF,k+1,by omega,by rw[he,bX u];show(bif bY z.ints id.ints then _ else _)=_;rw[show bY z.ints id.ints=false from C];rfl,cI<|aY (by have:=hw.bL;omega),ar⟩
 refine PC 3 Z<|aS<|QT 6 Z ?_;exact aB Z Z ⟨cJ (by symm;unfold gG;rw[show(cZ g id).isSome=true from bl b,show bd (mE<|cZ g id)=true from bl w];show fB (fun x:bT=>bY x.ints id.ints) (bV g (mE<|cZ g id).loc) 0=_;rw[he,ej<|bz d];rfl),(ar.pop.pop.pop).weaken A⟩
theorem Aw {G:Cx} (w:Plain G) {K:KP} {n:Nat} (B:n<=64) {A:Rn} {va:V} (C:bF K 1 RU (bB n A) va) {O:N} {L:Own} (ar:D O K L):
  a8 Tryz.prog G 152 [.agg [.int .i64 (.ofNat n),va]] O fun v O'=>v= .int .i64 (ld n A)/\D O' K L:=by
 refine QO w Tryz.func152 Z<|Qg 2 Z<|kp ar Z (cG Z Z) (fun O b1 ar=>?_);refine PF 5 Z<|Y Z (RB Z ar.g0 (n:=2) (vs:=[_,_]) Z) Z<|bR Z (Rx Z Z Z) (fun _=>Z) (Ar w B C ar) ?_;rintro _ O ⟨E,up,d,rfl,hp,ar⟩;refine kp ar Z (RD (cs:=[J,.av])) (fun O b2 ar=>?_);refine bE ar Z (RG Z Z Z ar.g0 (m:=2) Z (af Z<|af hp.leaf.2 aA) (cells':=[_,_]) Z) Z (fun O ar=>?_);refine O3 9 Z ?_;obtain⟨LL1,ar,hLL1⟩:=ar.named;refine bh ([2,4]++rg 7 11) (fun j t O=>∃(i:Nat),j+i=n/\fB (fun i=>yh n A i i) (List.range n) 0=fB (fun i=>yh n A i i) ((List.range n).drop i) i/\t.get 4=some (.int .i64 (.ofNat i))/\D O E LL1) (n) ⟨0,Z,Z,Z,ar⟩ ?_;clear ar;intro F t O aq M;obtain⟨i,aa,he,z,ar⟩:=M;subst hLL1;obtain⟨oo,rfl⟩:=aq.q1 z Z;refine Qn ar 9 [0,0] Z Z<|aF Z (fun b=>?_) (fun b=>?_)
 ·refine Oj 6 Z<|Y Z (RB Z ar.g0 (n:=2) (vs:=[_,_]) Z) Z<|QV 2 Z<|bc Z (Rx Z Z Z) (fun _=>Z) (O9 w B hp (bk b) (bk b) ar) (fun O ar=>?_);refine Qi 2 Z<|aF Z (fun u=>?_) (fun u=>?_)
  ·refine QT 7 Z<|aJ<|ay<|bD<|aJ<|ay (?_);exact aB Z Z ⟨cJ (by symm;show fB (fun i=>yh n A i i) (List.range n) 0=_;rw[he,bX (List.getElem?_range<|bk b)];show(bif yh n A i i then _ else _)=_;rw[show yh n A i i=true from u];rfl),(ar.pop.pop).weaken d⟩
  refine aH<|aG<|QR 5 Z ?_;have hlp:=bk b;refine aL ⟨F-1,by have:=bk b;omega,oF,i+1,by omega,by rw[he,bX (List.getElem?_range hlp)];show(bif yh n A i i then _ else _)=_;rw[show yh n A i i=false from u];rfl,cI<|aY oM,ar⟩
 refine PC 3 Z<|aS<|QT 6 Z ?_;exact aB Z Z ⟨cJ (by symm;show fB (fun i=>yh n A i i) (List.range n) 0=_;rw[he,ej (by rw[List.length_range];exact bz b)];rfl),(ar.pop.pop).weaken d⟩
theorem F1 {G:Cx} (C:Plain G) {K:KP} (m:Int) {O:N} {L:Own} (ar:D O K L):
  a8 Tryz.prog G 65 [.int .i64 m] O fun v O'=>∃w,KP.le K w/\bF w 1 ek (gg m) v/\D O' w L:=by
 refine QO C Tryz.func65 Z<|Qf 11 Z<|aM<|Qg 4 Z<|Qi 2 Z<|aF Z (fun h4=>?_) (fun h4=>?_)
 ·refine Qg 2 Z<|fY ar Z (cm (e:=3) (m:=1) (z:=[J]) (cs:=[_,_,_]) U U U U<|bj Z Z Z Z<|bj Z Z Z Z<|bj Z Z Z Z bO) (fun _=>Z) (fun O A ar=>?_);refine Qk 4 Z<|aJ<|ay (?_);obtain⟨w,u,d,ar⟩:=D.cA (M:=[_]) ar;exact aB Z Z ⟨w,u,by unfold gg;rw[show H m 1=true from h4];exact(ke (E:=3) (b:=A) (e:=3) (xs:=[1,2,6]) (by simp)).gL fun y hy=>d _ hy,ar⟩
 refine Qg 4 Z<|Qi 2 Z<|aF Z (fun B=>?_) (fun B=>?_)
 ·refine Qg 2 Z<|fY ar Z (cm (e:=3) (m:=1) (z:=[J]) (cs:=[_,_,_,_,_]) U U U U<|bj Z Z Z Z<|bj Z Z Z Z<|bj Z Z Z Z<|bj Z Z Z Z<|bj Z Z Z Z bO) (fun _=>Z) (fun O A ar=>?_);refine Qk 4 Z<|aJ<|ay (?_);obtain⟨w,u,d,ar⟩:=D.cA (M:=[_]) ar;exact aB Z Z ⟨w,u,by unfold gg;rw[show H m 1=false from h4,show H m 2=true from B];exact(ke (E:=3) (b:=A) (e:=3) (xs:=[1,2,3,4,5]) (by simp)).gL fun y hy=>d _ hy,ar⟩
 refine aH<|aG<|QT 6 Z ?_;exact aB Z Z ⟨K,KP.le_refl K,by unfold gg;rw[show H m 1=false from h4,show H m 2=false from B];exact .inl ⟨Z,Z⟩,ar⟩
theorem JI {G:Cx} (hG:Plain G) {K:KP} {g:XG} {va vb vc vd:V} (hg:eW K g va vb vc vd) (S:dD g) {O:N} {L:Own} (ar:D O K L):
  a8 Tryz.prog G 151 [.agg [va,vb,vc,vd]] O fun v O'=>v= .int .i64 (HF g)/\D O' K L:=by
 have hvl:=pN S;refine QO hG Tryz.func151 Z<|Qg 2 Z<|kp ar Z (cG Z Z) (fun O b1 ar=>?_);refine PF 5 Z<|Y Z (RB Z ar.g0 (n:=4) (vs:=[_,_,_,_]) Z) Z<|bR Z (Rx Z Z Z) (fun _=>Z) (Mu hG hg S ar) ?_;rintro u7 O ⟨M7,hO7,ar⟩;obtain⟨K1,w,T,ar⟩:=D.cA (M:=M7) ar;have E:bF K1 2 ji (ie g) u7:=hO7.gL fun y hy=>T _ hy
 replace hg:=hg.mono w;refine O3 10 Z ?_;obtain⟨LL1,ar,hLL1⟩:=ar.named;refine bh ([2,4,5]++rg 8 47) (fun j t O=>∃(i:Nat),j+i=nV g/\fB (pc g) (ie g) 0=fB (pc g) ((ie g).drop i) i/\t.get 4=some (.int .i64 (.ofNat i))/\D O K1 LL1) (nV g) ⟨0,Z,Z,Z,ar⟩ ?_;clear ar;intro j3 t O aq hI;obtain⟨i,b7,he,bb,ar⟩:=hI;subst hLL1;obtain⟨oo,rfl⟩:=aq.q1 bb Z;refine Pz 5 Z<|Y Z (RC E Z Z Z (e:=67) Z) Z<|Qi 3 Z<|aF Z (fun u=>?_) (fun u=>?_)
 ·refine Oj 6 Z ?_;have b:i<nV g:=bk u;refine QV 2 Z<|Rr (e:=67) (m:=2) E (eT b) Z Z Z Z (fun b8 bq ac br am=>?_);obtain rfl:=am;refine Y Z (RF ar ac Z Z) Z<|kp ar Z (RD (cs:=[J,J])) (fun O b2 ar=>?_);refine bE ar Z (RG Z Z Z ar.g0 (m:=2) Z Z (cells':=[_,_]) Z) Z (fun O ar=>?_);refine PE 3 Z<|ak<|aQ (l:=zp [0,1,2,3,4,5,6,7,8,9,10,11,12,13,14,15,16,17]) U U<|QZ ar 3 [0,0] Z Z<|hJ Z Z (an Z) (fun _=>Z) (fun d=>?_) (fun d=>?_)
  ·refine Ql 17 Z<|bg<|aU<|aS<|QR 5 Z ?_;have ar:=ar.pop;have hlp:=bk u;have z:pc g (ep g i)=false:=by show(bif H (ep g i).cH 0 then false else _)=false;rw[show H (ep g i).cH 0=true from d];rfl
   refine aL ⟨j3-1,by omega,oF,i+1,by omega,by rw[he,bX<|eT b];show(bif pc g (ep g i) then _ else _)=_;rw[z];rfl,cI<|aY oM,ar⟩
  obtain⟨tt,kk,row,e,A,B,be,ao⟩:∃(t k:Nat) (row:List bW) (e:bW),ep g i=⟨.ofNat (t+1),.ofNat k⟩/\g.threads[t]?=some row/\row[k]?=some e/\ez g i=e:=by rcases jv b with ⟨x,v,h1,_⟩ | h;(rw[h1] at d;exact Bool.noConfusion (show true=false from d));exact h
  refine QZ ar 4 [1,1,0,0] Z Z (aj Z Z (az (v:=.int .i64 (.ofNat tt)) Z Z (by rw[A];exact cI (fv (by have:=S.threads;have:=(gA.1 B).1;omega)))) Z<|Rt (e:=57) (m:=1) hg.threads B Z Z Z Z Z (fun b9 bs ap bt aE=>?_));have hr27':=aE;obtain⟨ca,rfl,a0⟩:=hr27';refine aj Z Z (RE ar ap Z Z) Z<|QZ ar 2 [1,0] Z Z<|Rt (e:=56) (m:=5) a0 be Z Z Z Z (cI<|congrArg bT.index A) (fun cb bv a1 bw a2=>?_);obtain rfl:=a2;refine dY a1 Z Z Z Z (k:=0) U (lb Z) (fun _=>Z) (fun cc a3=>?_);refine aj Z Z (RE ar a3 Z Z) Z<|Ql 4 Z<|aF Z (fun W=>?_) (fun W=>?_)
  ·refine bg<|aU<|aS<|QR 5 Z ?_;have ar:=ar.pop;have hlp:=bk u;have z:pc g (ep g i)=false:=by unfold pc;rw[show H (ep g i).cH 0=false from d,show mE (cZ g<|ep g i)=ez g i from Z,ao,show bf (H e.kind 3)=true from W];rfl
   refine aL ⟨j3-1,by omega,oF,i+1,by omega,by rw[he,bX<|eT b];show(bif pc g (ep g i) then _ else _)=_;rw[z];rfl,cI<|aY oM,ar⟩
  refine PA 3 Z (aQ (l:=[(0,[]),(1,[]),(3,[]),(4,[]),(5,[]),(6,[]),(7,[]),(8,[]),(9,[]),(10,[]),(11,[]),(12,[]),(13,[]),(14,[]),(2,[3,5,7,10,12,14]),(15,[]),(16,[]),(17,[])]) U U ?_);have X:H (ez g i).kind 3=true:=by rw[ao];exact bl W
  obtain⟨bi,kk2,b0,e2,frow,q,C,bo,_,_,aa,hq,a4,_⟩:=yQ S b (mT X);obtain⟨rfl,rfl⟩:tt=bi/\kk=kk2:=by rw[A] at C;exact⟨by have:=iJ_ (congrArg bT.cH C);omega,by have:=iJ_ (congrArg bT.index C);omega⟩
  refine aj Z Z (RB Z ar.g1 (n:=4) (vs:=[_,_,_,_]) Z) Z (aj Z Z (RB Z ar.g0 (n:=2) (vs:=[_,_]) Z) Z (aj Z Z (RB Z ar.g1 (n:=4) (vs:=[_,_,_,_]) Z) Z (QZ ar 4 [2,1,0,0] Z Z (aj Z Z (az (v:=.int .i64 (.ofNat tt)) Z Z (by rw[A];exact cI (fv (by have:=S.threads;have:=(gA.1 B).1;omega)))) Z<|Rt (e:=74) (m:=1) hg.from_ aa Z Z Z Z Z (fun ce b3 F b4 a5=>?_)))));have hr45':=a5;obtain⟨ch,rfl,Q⟩:=hr45';refine aj Z Z (RE ar F Z Z) Z<|QZ ar 2 [1,0] Z Z<|Rt (e:=67) (m:=2) Q hq Z Z Z Z (cI<|congrArg bT.index A) (fun ci b5 R b6 ba=>?_);obtain rfl:=ba;refine aj Z Z (RF ar R Z Z) Z<|dJ Z Z (Rx Z Z Z) (fun _=>Z) (F0 hG hg S (ep g i) ar) (fun O ar=>?_);refine⟨(bu (bG Z Z Z Z Z (RB Z ar.g1 (n:=4) (vs:=[_,_,_,_]) Z)<|gP<|cK hg.init.jm<|cK hg.threads.jm<|cK hg.from_.jm<|cK hg.order.jm gQ)<|bu (bG Z Z Z Z Z (Rz Z ar.g1 Z) hg.from_.eB)<|bu (bG Z Z Z Z Z (Rz Z ar.g0 Z)<|eG _ _)<|bu (bG Z Z Z Z Z (RE ar F Z Z) Q.eB)<|bu (bG Z Z Z Z Z (Rz Z ar.g0 Z)<|eG _ _)<|bu (bG Z Z Z Z Z (RF ar R Z Z)<|gP<|cK (fA _ _)<|cK (fA _ _) gQ) aX),?_⟩;refine dJ Z Z (Rx Z Z Z) (fun _=>Z) (F0 hG hg S q ar) (fun O ar=>?_);refine⟨aX,?_⟩;refine Ql 4 Z<|aF Z (fun ab=>?_) (fun ab=>?_)
  ·refine QT 7 Z<|aJ<|ay<|bD<|aJ<|ay (?_);exact aB Z Z ⟨cJ (by symm;show fB (pc g) (ie g) 0=_;rw[he,bX<|eT b];show(bif pc g (ep g i) then _ else _)=_;rw[show pc g (ep g i)=true from by unfold pc;rw[show H (ep g i).cH 0=false from d,show mE (cZ g<|ep g i)=ez g i from Z,X,a4];exact ab];rfl),(ar.pop.pop).weaken w⟩
  refine aH<|aG<|QR 5 Z ?_;have ar:=ar.pop;have hlp:=bk u;have z:pc g (ep g i)=false:=by unfold pc;rw[show H (ep g i).cH 0=false from d,show mE (cZ g<|ep g i)=ez g i from Z,X,a4];exact ab
  refine aL ⟨j3-1,by omega,oF,i+1,by omega,by rw[he,bX<|eT b];show(bif pc g (ep g i) then _ else _)=_;rw[z];rfl,cI<|aY oM,ar⟩
 refine PC 3 Z<|aS<|QT 6 Z ?_;exact aB Z Z ⟨cJ (by symm;show fB (pc g) (ie g) 0=_;rw[he,ej<|bz u];rfl),(ar.pop).weaken w⟩
theorem JH {G:Cx} (F:Plain G) {K:KP} {g:XG} {va vb vc vd:V} (hg:eW K g va vb vc vd) (hR:dD g) (x:Int) {u0 u1 u2 u3 ue up ul us uh:V} (hd:Bj K g u0 u1 u2 u3 ue up ul us uh) {O:N} {L:Own} (ar:D O K L):
  a8 Tryz.prog G 101 [.int .i64 x,.agg [va,vb,vc,vd],.agg<|sK (nV g) u0 u1 u2 u3 ue up ul us uh] O fun v O'=>(∃y1 y2:Int,v= .tuple [.agg [.int .i64 x,.int .i64 y1,.int .i64 y2],.bool<|eD g x])/\D O' K L:=by
 have hvl:=pN hR;refine QO F Tryz.func101 Z<|Qg 2 Z<|kp ar Z (cG Z Z) (fun O b1 ar=>?_);refine kp ar Z (cG Z Z) (fun O b2 ar=>?_);refine kp ar Z (RD (cs:=[J,J,J])) (fun O b3 ar=>?_);refine PF 6 Z (Y Z (Rw (places:=[(0,1),(1,1),(2,1)]) (zero:=[J,J,J]) (cs:=[_,_,_]) Z) Z<|kp ar Z (RD (cs:=[J,J,J])) (fun O b4 ar=>?_));refine bE ar Z (RG Z Z Z ar.g0 (m:=3) Z Z (cells':=[_,_,_]) Z) Z (fun O ar=>?_);refine O3 15 Z<|aF Z (fun b=>?_) (fun b=>?_)
 ·refine ai Z<|Y Z (RB Z (ar.get 3 Z) (n:=4) (vs:=[_,_,_,_]) Z) Z<|bc Z (Rx Z Z Z) (fun _=>Z) (JI F hg hR ar) (fun O ar=>?_);refine Y Z (Ry 1 Z) Z<|bE ar Z (RG Z Z Z ar.g0 (m:=1) Z Z (cells':=[_,_,_]) Z) Z (fun O ar=>?_);refine ah (aG (ad (ak (aQ (l:=[(0,[]),(1,[]),(2,[]),(3,[]),(4,[2]),(5,[])]) U U<|aj Z Z (RB Z ar.g0 (n:=3) (vs:=[_,_,_]) Z) Z<|QZ ar 3 [1,0] Z Z<|k9 ar Z Z (RG Z Z Z ar.g1 (m:=3) Z Z (cells':=[_,_,_]) Z) Z (fun O ar=>?_)))));refine⟨(bu (bG Z Z Z Z Z (Rz Z ar.g0 Z)<|eG _ _) aX),?_⟩;refine Qm 4 Z ?_;exact bC Z Z ar.g1 (m:=3) U Z Z ⟨⟨_,_,by rw[show eD g x=bf (cq (HF g) 0) from by unfold eD;rw[show H x 2=true from b];rfl];rfl⟩,ar.pop.pop.pop.pop⟩
 refine Qg 4 Z<|Qi 2 Z<|aF Z (fun d=>?_) (fun d=>?_)
 ·refine QX ar 3 [8,2] Z Z<|Y Z (RB Z (ar.get 2 Z) (n:=2) (vs:=[_,_]) Z) Z<|bc Z (Rx Z Z Z) (fun _=>Z) (Aw F (n:=nV g) (A:=Cu g) oM hd.Nw ar) (fun O ar=>?_);refine Y Z (Ry 1 Z) Z<|bE ar Z (RG Z Z Z ar.g0 (m:=1) Z Z (cells':=[_,_,_]) Z) Z (fun O ar=>?_);refine ah (aG (ad (ak (aQ (l:=[(0,[]),(1,[]),(2,[]),(3,[]),(4,[2]),(5,[])]) U U<|aj Z Z (RB Z ar.g0 (n:=3) (vs:=[_,_,_]) Z) Z<|QZ ar 3 [1,0] Z Z<|k9 ar Z Z (RG Z Z Z ar.g1 (m:=3) Z Z (cells':=[_,_,_]) Z) Z (fun O ar=>?_)))));refine⟨(bu (bG Z Z Z Z Z (Rz Z ar.g0 Z)<|eG _ _) aX),?_⟩;refine Qm 4 Z ?_;exact bC Z Z ar.g1 (m:=3) U Z Z ⟨⟨_,_,by rw[show eD g x=bf (cq (ld (nV g)<|Cu g) 0) from by unfold eD;rw[show H x 2=false from b,show H x 3=true from d];rfl];rfl⟩,ar.pop.pop.pop.pop⟩
 refine Qg 4 Z<|Qi 2 Z<|aF Z (fun u=>?_) (fun u=>?_)
 ·refine QX ar 3 [8,8] Z Z<|Y Z (RB Z (ar.get 2 Z) (n:=2) (vs:=[_,_]) Z) Z<|bc Z (Rx Z Z Z) (fun _=>Z) (Aw F (n:=nV g) (A:=DZ g) oM hd.hb ar) (fun O ar=>?_);refine Y Z (Ry 1 Z) Z<|bE ar Z (RG Z Z Z ar.g0 (m:=1) Z Z (cells':=[_,_,_]) Z) Z (fun O ar=>?_);refine ah (aG (ad (ak (aQ (l:=[(0,[]),(1,[]),(2,[]),(3,[]),(4,[2]),(5,[])]) U U<|aj Z Z (RB Z ar.g0 (n:=3) (vs:=[_,_,_]) Z) Z<|QZ ar 3 [1,0] Z Z<|k9 ar Z Z (RG Z Z Z ar.g1 (m:=3) Z Z (cells':=[_,_,_]) Z) Z (fun O ar=>?_)))));refine⟨(bu (bG Z Z Z Z Z (Rz Z ar.g0 Z)<|eG _ _) aX),?_⟩;refine Qm 4 Z ?_;exact bC Z Z ar.g1 (m:=3) U Z Z ⟨⟨_,_,by rw[show eD g x=bf (cq (ld (nV g)<|DZ g) 0) from by unfold eD;rw[show H x 2=false from b,show H x 3=false from d,show H x 4=true from u];rfl];rfl⟩,ar.pop.pop.pop.pop⟩
 refine Qg 4 Z<|Qi 2 Z<|aF Z (fun C=>?_) (fun C=>?_)
 ·refine QX ar 3 [0,0] Z Z<|Y Z (RB Z (ar.get 2 Z) (n:=2) (vs:=[_,_]) Z) Z<|QY ar 2 [0,2] Z Z<|Y Z (RB Z (ar.get 2 Z) (n:=2) (vs:=[_,_]) Z) Z<|QY ar 2 [0,4] Z Z<|Y Z (RB Z (ar.get 2 Z) (n:=2) (vs:=[_,_]) Z) Z<|QY ar 2 [0,6] Z Z<|Y Z (RB Z (ar.get 2 Z) (n:=2) (vs:=[_,_]) Z) Z<|fY ar Z (cm (e:=149) (m:=2) (z:=[J,.av]) (cs:=[_,_,_,_,_,_,_,_]) U U U U<|bj Z Z Z Z<|bj Z Z Z Z<|bj Z Z Z Z<|bj Z Z Z Z bO) (fun _=>Z) (fun O b5 ar=>?_);obtain⟨Ka,lea,mema,ar⟩:=D.cA (M:=[_]) ar;have hla:=JS (n:=nV g) (mema _<|mS_ ..) (hd.po.mono lea fun _ _ h=>h) (hd.rf.mono lea fun _ _ h=>h) (hd.co.mono lea fun _ _ h=>h) (hd.fr.mono lea fun _ _ h=>h);refine bR Z (Rx Z Z Z) (fun _=>Z) (EB F (n:=nV g) oM hla (Nat.succ_pos _) ar) ?_;rintro _ O ⟨oa,rfl,ar⟩;obtain⟨Kb,leb,memb,ar⟩:=D.cA (M:=[_]) ar;have hoa:=fK (memb _<|mS_ ..) (cM (nV g)<|Br g) oM;have leA:=KP.le_trans lea leb;refine bc Z (Rx Z Z Z) (fun _=>Z) (Aw F (n:=nV g) (A:=Br g) oM hoa ar) (fun O ar=>?_);refine Y Z (Ry 1 Z) Z<|bE ar Z (RG Z Z Z ar.g0 (m:=1) Z Z (cells':=[_,_,_]) Z) Z (fun O ar=>?_);refine ah (aG (ad (ak (aQ (l:=[(0,[]),(1,[]),(2,[]),(3,[]),(4,[2]),(5,[])]) U U<|aj Z Z (RB Z ar.g0 (n:=3) (vs:=[_,_,_]) Z) Z<|QZ ar 3 [1,0] Z Z<|k9 ar Z Z (RG Z Z Z ar.g1 (m:=3) Z Z (cells':=[_,_,_]) Z) Z (fun O ar=>?_)))));refine⟨(bu (bG Z Z Z Z Z (Rz Z ar.g0 Z)<|eG _ _) aX),?_⟩;refine Qm 4 Z ?_;exact bC Z Z ar.g1 (m:=3) U Z Z ⟨⟨_,_,by rw[show eD g x=bf (cq (ld (nV g)<|Br g) 0) from by unfold eD;rw[show H x 2=false from b,show H x 3=false from d,show H x 4=false from u,show H x 6=true from C];rfl];rfl⟩,(ar.pop.pop.pop.pop).weaken leA⟩
 refine Qg 4 Z<|Qi 2 Z<|aF Z (fun Q=>?_) (fun Q=>?_)
 ·refine ak (aQ (l:=[(0,[]),(1,[]),(2,[]),(3,[]),(4,[]),(5,[]),(6,[2]),(7,[]),(8,[]),(9,[])]) U U<|QZ ar 2 [8,8] Z Z<|aj Z Z (RB Z (ar.get 2 Z) (n:=2) (vs:=[_,_]) Z) Z<|QZ ar 2 [8,0] Z Z<|aj Z Z (RB Z (ar.get 2 Z) (n:=2) (vs:=[_,_]) Z) Z<|fF Z Z (Rx Z Z Z) (fun _=>Z) (NC F (n:=nV g) (A:=vo g) oM hd.P2 ar) ?_);rintro _ O ⟨ot,rfl,ar⟩;obtain⟨Ka,lea,mema,ar⟩:=D.cA (M:=[_]) ar;have hot:=fK (mema _<|mS_ ..) (cM (nV g)<|mX<|vo g) oM;replace hd:=hd.mono lea;refine⟨(bu (bG Z Z Z Z Z (RB Z (ar.get 2 Z) (n:=2) (vs:=[_,_]) Z)<|gP<|cK (fA _ _)<|cK hd.hb.jm gQ) aX),?_⟩;refine fF Z Z (Rx Z Z Z) (fun _=>Z) (O8 F (n:=nV g) (A:=DZ g) (B:=mX<|vo g) oM hd.hb hot ar) ?_;rintro _ O ⟨Kb,oc,leb,rfl,ar⟩;obtain⟨Kc,lec,memc,ar⟩:=D.cA (M:=[_]) ar;have hoc:=fK (memc _<|mS_ ..) (cM (nV g)<|vm (DZ g)<|mX<|vo g) oM;refine⟨aX,?_⟩;refine fF Z Z (Rx Z Z Z) (fun _=>Z) (LP F (n:=nV g) oM hoc ar) ?_;rintro bs O ⟨a2,hM61,ar⟩;obtain⟨Kd,led,memd,ar⟩:=D.cA (M:=a2) ar;have hps:=hM61.gL (K:=Kd) fun y hy=>memd _ hy
  have leA:=KP.le_trans lea (KP.le_trans leb<|KP.le_trans lec led);refine⟨aX,?_⟩;refine Ql 8 Z (aM (bh ([10]++rg 62 29) (fun j t O=>∃(k:Nat),j+k=(iH (nV g)<|vm (DZ g)<|mX<|vo g).length/\(iH (nV g)<|vm (DZ g)<|mX<|vo g).any (fun p:Nat×Nat=>bf (H (.ofNat p.1) (.ofNat p.2)))=((iH (nV g)<|vm (DZ g)<|mX<|vo g).drop k).any (fun p:Nat×Nat=>bf (H (.ofNat p.1) (.ofNat p.2)))/\t.get 10=some (.int .i64 (.ofNat k))/\D O Kd ((b4,.row [.int .i64 x,.int .i64 (-1),.int .i64 (-1)] 112 false)::(b3,.row [J,J,J] 112 false)::(b2,.row (sK (nV g) u0 u1 u2 u3 ue up ul us uh) 155 false)::(b1,.row [va,vb,vc,vd] 26 false)::L)) ((iH (nV g)<|vm (DZ g)<|mX<|vo g).length) ⟨0,Z,Z,Z,ar⟩ ?_));clear ar;intro a3 t O aq hI;obtain⟨k,a4,he,T,ar⟩:=hI;obtain⟨oo,rfl⟩:=aq.q1 T Z;refine Pz 5 Z<|Y Z (RC hps Z Z Z (e:=204) Z) Z<|Qi 3 Z<|aF Z (fun E=>?_) (fun E=>?_)
  ·refine Oi 5 Z<|aQ (l:=zp [0,1,2,3,4,5,6,7,8,9,10]) U U ?_;obtain⟨⟨pa,pb⟩,w,_⟩:=dH E;refine QW 2 Z<|Rt (e:=204) (m:=2) hps w Z Z Z Z Z (fun bt a5 W ba X=>?_);obtain rfl:=X;refine qG W Z Z Z Z (nn:=2) (e:=3) (m:=1) (j:=0) Z U U (by decide) (lb Z) (fun _=>Z) (fun bv aa=>?_);refine aj Z Z (RE ar aa Z Z) Z<|QW 2 Z<|Rt (e:=204) (m:=2) hps w Z Z Z Z Z (fun bw bb ab be ac=>?_);obtain rfl:=ac;refine qG ab Z Z Z Z (nn:=2) (e:=3) (m:=1) (j:=1) Z U U (by decide) (lb Z) (fun _=>Z) (fun b0 am=>?_);refine aj Z Z (RE ar am Z Z) Z<|Ql 3 Z<|aF Z (fun S=>?_) (fun S=>?_)
   ·refine ak (aQ (l:=[(0,[]),(1,[]),(2,[]),(3,[]),(4,[]),(5,[]),(6,[]),(7,[]),(8,[]),(9,[]),(10,[]),(11,[9]),(12,[]),(13,[])]) U U<|QW 2 Z<|Rt (e:=204) (m:=2) hps w Z Z Z Z Z (fun b6 bi ao bo ap=>?_));obtain rfl:=ap;refine qG ao Z Z Z Z (nn:=2) (e:=3) (m:=1) (j:=0) Z U U (by decide) (lb Z) (fun _=>Z) (fun b7 aE=>?_);refine aj Z Z (RE ar aE Z Z) Z<|QW 2 Z<|Rt (e:=204) (m:=2) hps w Z Z Z Z Z (fun b8 bq a0 br a1=>?_);obtain rfl:=a1;refine qG a0 Z Z Z Z (nn:=2) (e:=3) (m:=1) (j:=1) Z U U (by decide) (lb Z) (fun _=>Z) (fun b9 R=>?_);refine aj Z Z (RE ar R Z Z) Z<|aj Z Z (Ry 1 Z) Z<|gF ar Z Z (RG Z Z Z ar.g0 (m:=1) Z Z (cells':=[_,_,_]) Z) Z (fun O ar=>?_);refine⟨(bu (bG Z Z Z Z Z (RE ar R Z Z)<|eG _ _) aX),?_⟩;refine aj Z Z (Ry 2 Z) Z<|gF ar Z Z (RG Z Z Z ar.g0 (m:=1) Z Z (cells':=[_,_,_]) Z) Z (fun O ar=>?_);refine⟨aX,?_⟩;refine Ql 2 Z (bg (lz Z (aU (aW (aS (aG (ad (ak (aQ (l:=[(0,[]),(1,[]),(2,[]),(3,[]),(4,[2]),(5,[])]) U U<|aj Z Z (RB Z ar.g0 (n:=3) (vs:=[_,_,_]) Z) Z<|QZ ar 3 [1,0] Z Z<|k9 ar Z Z (RG Z Z Z ar.g1 (m:=3) Z Z (cells':=[_,_,_]) Z) Z (fun O ar=>?_))))))))));refine⟨(bu (bG Z Z Z Z Z (Rz Z ar.g0 Z)<|eG _ _) aX),?_⟩;refine Qm 4 Z ?_;exact bC Z Z ar.g1 (m:=3) U Z Z ⟨⟨_,_,by rw[show eD g x=true from by unfold eD;rw[show H x 2=false from b,show H x 3=false from d,show H x 4=false from u,show H x 6=false from C,show H x 5=true from Q];show((iH (nV g)<|vm (DZ g)<|mX<|vo g).any (fun p:Nat×Nat=>bf (H (.ofNat p.1) (.ofNat p.2))))=true;rw[he,bX w,List.any_cons];show(bf (H (.ofNat pa) (.ofNat pb)) || _)=true;rw[show bf (H (.ofNat pa) (.ofNat pb))=true from S];rfl];rfl⟩,(ar.pop.pop.pop.pop).weaken leA⟩
   refine aH<|aG<|QR 5 Z ?_;have hlp:=bk E;refine aL ⟨a3-1,by have:=bk E;omega,oF,k+1,by omega,by rw[he,bX w,List.any_cons];show(bf (H (.ofNat pa) (.ofNat pb)) || _)=_;rw[show bf (H (.ofNat pa) (.ofNat pb))=false from S];rfl,cI<|aY (by have:=hps.bL;omega),ar⟩
  refine PC 3 Z (aS (aG (ad (ak (aQ (l:=[(0,[]),(1,[]),(2,[]),(3,[]),(4,[2]),(5,[])]) U U<|aj Z Z (RB Z ar.g0 (n:=3) (vs:=[_,_,_]) Z) Z<|QZ ar 3 [1,0] Z Z<|k9 ar Z Z (RG Z Z Z ar.g1 (m:=3) Z Z (cells':=[_,_,_]) Z) Z (fun O ar=>?_))))));refine⟨(bu (bG Z Z Z Z Z (Rz Z ar.g0 Z)<|eG _ _) aX),?_⟩;refine Qm 4 Z ?_;exact bC Z Z ar.g1 (m:=3) U Z Z ⟨⟨_,_,by rw[show eD g x=false from by unfold eD;rw[show H x 2=false from b,show H x 3=false from d,show H x 4=false from u,show H x 6=false from C,show H x 5=true from Q];show((iH (nV g)<|vm (DZ g)<|mX<|vo g).any (fun p:Nat×Nat=>bf (H (.ofNat p.1) (.ofNat p.2))))=false;rw[he,ej<|bz E];rfl];rfl⟩,(ar.pop.pop.pop.pop).weaken leA⟩
 refine aH (aG (ad (ak (aQ (l:=[(0,[]),(1,[]),(2,[]),(3,[]),(4,[2]),(5,[])]) U U<|aj Z Z (RB Z ar.g0 (n:=3) (vs:=[_,_,_]) Z) Z<|QZ ar 3 [1,0] Z Z<|k9 ar Z Z (RG Z Z Z ar.g1 (m:=3) Z Z (cells':=[_,_,_]) Z) Z (fun O ar=>?_)))));refine⟨(bu (bG Z Z Z Z Z (Rz Z ar.g0 Z)<|eG _ _) aX),?_⟩;refine Qm 4 Z ?_;exact bC Z Z ar.g1 (m:=3) U Z Z ⟨⟨_,_,by rw[show eD g x=false from by unfold eD;rw[show H x 2=false from b,show H x 3=false from d,show H x 4=false from u,show H x 6=false from C,show H x 5=false from Q];rfl];rfl⟩,ar.pop.pop.pop.pop⟩
theorem Pa {G:Cx} (Q:Plain G) {K:KP} {g:XG} {va vb vc vd:V} (hg:eW K g va vb vc vd) (m:Int) {O:N} {L:Own} (ar:D O K L):
  a8 Tryz.prog G 66 [.int .i64 m,.agg [va,vb,vc,vd]] O fun v O'=>(∃y0 W X:Int,v= .tuple [.agg [.int .i64 y0,.int .i64 W,.int .i64 X],.bool<|vy m g])/\D O' K L:=by
 refine QO Q Tryz.func66 Z<|Qg 2 Z<|kp ar Z (cG Z Z) (fun O b1 ar=>?_);refine kp ar Z (RD (cs:=[J,J,J])) (fun O b2 ar=>?_);refine PF 6 Z<|bR Z (Rx Z Z Z) (fun _=>Z) (F1 Q m ar) ?_;rintro am O ⟨K1,b,hrl,ar⟩;replace hg:=hg.mono b;refine O4 7 Z<|Y Z (RC hrl Z Z Z (e:=3) Z) Z<|Qi 3 Z<|aF Z (fun u=>?_) (fun u=>?_)
 ·refine Qg 2 Z (Y Z (Rw (places:=[(0,1),(1,1),(2,1)]) (zero:=[J,J,J]) (cs:=[_,_,_]) Z) Z<|bE ar Z (RG Z Z Z ar.g0 (m:=3) Z Z (cells':=[_,_,_]) Z) Z (fun O ar=>?_));refine PH 5 Z ?_;exact bC Z Z ar.g0 (m:=3) U Z Z ⟨⟨_,_,_,by rw[show vy m g=false from by unfold vy;rw[show H (.ofNat (gg m).length) 0=true from u]<;>rfl]<;>rfl⟩,(ar.pop.pop).weaken b⟩
 refine PB 4 Z<|Y Z (RB Z ar.g1 (n:=4) (vs:=[_,_,_,_]) Z) Z<|bR Z (Rx Z Z Z) (fun _=>Z) (O7 Q hg ar) ?_;rintro _ O (⟨R,rfl,ar⟩ | ⟨S,K2,u0,u1,u2,u3,ue,up,ul,us,uh,rfl,d,B,ar⟩)
 ·refine QV 3 Z<|kp ar Z (RD (cs:=[J,.av,J,.av,J,.av,J,.av,J,.av,J,.av,J,.av,J,.av,J,.av])) (fun O b3 ar=>?_);refine bE ar Z (RG Z Z Z ar.g0 (m:=18) Z Z (cells':=[_,_,_,_,_,_,_,_,_,_,_,_,_,_,_,_,_,_]) Z) Z (fun O ar=>?_);refine PE 10 Z<|aF Z (fun w=>?_) (fun w=>?_)
  ·refine Qg 2 Z (Y Z (Rw (places:=[(0,1),(1,1),(2,1)]) (zero:=[J,J,J]) (cs:=[_,_,_]) Z) Z<|eE ar Z (RG Z Z Z ar.g1 (m:=3) Z Z (cells':=[_,_,_]) Z) Z (fun O ar=>?_));refine PH 5 Z ?_;exact bC Z Z ar.g1 (m:=3) U Z Z ⟨⟨_,_,_,by rw[show vy m g=true from by unfold vy;rw[show H (.ofNat (gg m).length) 0=false from u,R]<;>rfl]<;>rfl⟩,(ar.pop.pop.pop).weaken b⟩
  exact absurd w (by decide)
 replace hg:=hg.mono d;replace hrl:=hrl.mono d (fun _ _ h=>h);refine QV 3 Z<|kp ar Z (RD (cs:=[J,.av,J,.av,J,.av,J,.av,J,.av,J,.av,J,.av,J,.av,J,.av])) (fun O b3 ar=>?_);refine bE ar Z (RG Z Z Z ar.g0 (m:=18) Z (af Z<|af B.po.leaf.2<|af Z<|af B.rf.leaf.2<|af Z<|af B.co.leaf.2<|af Z<|af B.fr.leaf.2<|af Z<|af B.P2.leaf.2<|af Z<|af B.Nw.leaf.2<|af Z<|af B.loc.leaf.2<|af Z<|af B.sw.leaf.2<|af Z<|af B.hb.leaf.2 aA) (cells':=[_,_,_,_,_,_,_,_,_,_,_,_,_,_,_,_,_,_]) Z) Z (fun O ar=>?_);refine PE 10 Z<|aF Z (fun w=>?_) (fun w=>?_)
 ·exact absurd w (by decide)
 refine O1 9 Z (bh ([5,9,10,11]++rg 26 18) (fun j t O=>∃(k:Nat),j+k=(gg m).length/\(gg m).any (eD g)=((gg m).drop k).any (eD g)/\t.get 9=some (.int .i64 (.ofNat k))/\D O K2 ((b3,.row (sK (nV g) u0 u1 u2 u3 ue up ul us uh) 155 false)::(b2,.row [J,J,J] 112 false)::(b1,.row [va,vb,vc,vd] 26 false)::L)) ((gg m).length) ⟨0,Z,Z,Z,ar⟩ ?_);clear ar;intro j8 t O aq hI;obtain⟨k,ao,he,T,ar⟩:=hI;obtain⟨oo,rfl⟩:=aq.q1 T Z;refine Pz 5 Z<|Y Z (RC hrl Z Z Z (e:=3) Z) Z<|Qi 3 Z<|aF Z (fun z=>?_) (fun z=>?_)
 ·refine Oi 5 Z (aQ (l:=[(0,[]),(1,[]),(2,[]),(3,[]),(4,[]),(5,[]),(10,[]),(6,[10]),(7,[]),(8,[]),(9,[]),(11,[]),(12,[])]) U U<|QW 2 Z ?_);obtain⟨C,A,aa⟩:=dH z;refine Rt (e:=3) (m:=1) hrl A Z Z Z Z Z (fun ap ab F ac M=>?_);obtain rfl:=M;refine aj Z Z (RE ar F Z Z) Z<|aj Z Z (RB Z (ar.get 2 Z) (n:=4) (vs:=[_,_,_,_]) Z) Z<|aj Z Z (RB Z ar.g0 (n:=18) (vs:=[_,_,_,_,_,_,_,_,_,_,_,_,_,_,_,_,_,_]) Z) Z<|oV ar Z Z (RD (cs:=[J,J,J])) (fun _=>Z) (fun O b4 ar=>?_);refine fF Z Z (Rx Z Z Z) (fun _=>Z) (JH Q hg S C B ar) ?_;rintro _ O ⟨⟨W,X,rfl⟩,ar⟩;refine⟨(bu (lQ Z Z Z Z Z (cs:=[J,J,J]) (e:=112) U ar.g0 U) aX),?_⟩;refine QW 3 Z<|gF ar Z Z (RG Z Z Z ar.g0 (m:=3) Z Z (cells':=[_,_,_]) Z) Z (fun O ar=>?_);refine⟨aX,?_⟩;refine Ql 8 Z<|aF Z (fun E=>?_) (fun E=>?_)
  ·refine Qg 2 Z<|Y Z (RB Z ar.g0 (n:=3) (vs:=[_,_,_]) Z) Z<|kZ ar Z (RG Z Z Z (ar.get 2 Z) (m:=3) Z Z (cells':=[_,_,_]) Z) Z (fun O ar=>?_);refine Qk 4 Z<|aJ<|ay<|bD<|aJ<|ay (?_);exact bC Z Z (ar.get 2 Z) (m:=3) U Z Z ⟨⟨_,_,_,by rw[show vy m g=true from by unfold vy;rw[show H (.ofNat (gg m).length) 0=false from u,dz.2 S];show(gg m).any (eD g)=_;rw[he,bX A,List.any_cons,show eD g C=true from E];rfl]<;>rfl⟩,(ar.pop.pop.pop.pop).weaken<|KP.le_trans b d⟩
  refine aH<|aG<|QR 5 Z ?_;have ar:=ar.pop;have hlp:=bk z;refine aL ⟨j8-1,by have:=bk z;omega,oF,k+1,by omega,by rw[he,bX A,List.any_cons,show eD g C=false from E];rfl,cI<|aY (by have:=hrl.bL;omega),ar⟩
 refine PC 3 Z (aS (Qg 2 Z (Y Z (Rw (places:=[(0,1),(1,1),(2,1)]) (zero:=[J,J,J]) (cs:=[_,_,_]) Z) Z<|eE ar Z (RG Z Z Z ar.g1 (m:=3) Z Z (cells':=[_,_,_]) Z) Z (fun O ar=>?_))));refine Qk 4 Z ?_;exact bC Z Z ar.g1 (m:=3) U Z Z ⟨⟨_,_,_,by rw[show vy m g=false from by unfold vy;rw[show H (.ofNat (gg m).length) 0=false from u,dz.2 S];show(gg m).any (eD g)=_;rw[he,ej<|bz z];rfl]<;>rfl⟩,(ar.pop.pop.pop).weaken<|KP.le_trans b d⟩
def wa (m:Int) (g:XG):Bool:=bif H (.ofNat (gg m).length) 0 then false else bf (vy m g)
def BK (m:Int):Int:=bif H (.ofNat (gg m).length) 0 then 2 else 0
theorem zb {G:Cx} (u:Plain G) {K:KP} {g:XG} {va vb vc vd:V} (hg:eW K g va vb vc vd) (m:Int) {O:N} {L:Own} (ar:D O K L):
  a8 Tryz.prog G 31 [.int .i64 m,.agg [va,vb,vc,vd]] O fun v O'=>v= .tuple [.bool<|wa m g,.int .i64<|BK m]/\D O' K L:=by
 refine QO u Tryz.func31 Z<|Qg 2 Z<|kp ar Z (cG Z Z) (fun O b1 ar=>?_);refine O4 8 Z<|bR Z (Rx Z Z Z) (fun _=>Z) (F1 u m ar) ?_;rintro aa O ⟨K1,b,w,ar⟩;replace hg:=hg.mono b;refine Y Z (RC w Z Z Z (e:=3) Z) Z<|Qi 3 Z<|aF Z (fun d=>?_) (fun d=>?_)
 ·refine Qh 8 Z ?_;exact cR Z Z Z ⟨by unfold wa BK;rw[show H (.ofNat (gg m).length) 0=true from d]<;>rfl,(ar.pop).weaken b⟩
 refine PB 5 Z<|Y Z (RB Z ar.g0 (n:=4) (vs:=[_,_,_,_]) Z) Z<|bR Z (Rx Z Z Z) (fun _=>Z) (Pa u hg m ar) ?_;rintro _ O ⟨⟨y0,y1,y2,rfl⟩,ar⟩;refine QV 3 Z<|kp ar Z (RD (cs:=[J,J,J])) (fun O b2 ar=>?_);refine bE ar Z (RG Z Z Z ar.g0 (m:=3) Z Z (cells':=[_,_,_]) Z) Z (fun O ar=>?_);refine PF 6 Z<|Y Z (dq Z) Z<|Qk 5 Z ?_;exact cR Z Z Z ⟨by unfold wa BK;rw[show H (.ofNat (gg m).length) 0=false from d]<;>rfl,(ar.pop.pop).weaken b⟩
def Nt (init:List Int) (t:Nat):XG:=⟨init,List.replicate t [],List.replicate t [],List.replicate init.length []⟩
theorem Po {G:Cx} (F:Plain G) {K:KP} {init:List Int} {vi:V} (hi:bF K 1 ek init vi) (aa:init.length<=6) {t:Nat} (ht:t<=4) {O:N} {L:Own} (ar:D O K L):
  a8 Tryz.prog G 14 [vi,.int .i64 (.ofNat t)] O fun v O'=>∃A a b c d,v= .tuple [.agg [a,b,c,d],J]/\KP.le K A/\eW A (Nt init t) a b c d/\D O' A L:=by
 refine QO F Tryz.func14 Z<|Qg 2 Z<|kp ar Z (RD (cs:=[.av,.av,.av,.av])) (fun O b1 ar=>?_);refine O4 8 Z<|ky Z (an Z) (fun Q=>?_) (fun Q=>?_)
 ·exact absurd (show 4<t from bk (a:=4) Q) oM
 refine vQ 1 Z<|Y Z (RC hi Z Z Z (e:=2) Z) Z<|Qi 4 Z<|aF Z (fun B=>?_) (fun B=>?_)
 ·exact absurd (show 6<init.length from bk (a:=6) B) oM
 refine PA 9 Z<|aF Z (fun C=>?_) (fun C=>?_)
 ·exact absurd (show t<0 from bk (b:=0) C) oM
 refine PA 3 Z (aQ (l:=[(0,[]),(2,[]),(3,[]),(4,[]),(5,[]),(6,[]),(7,[]),(8,[]),(1,[3,5,8]),(9,[]),(10,[]),(11,[])]) U U<|QW 2 Z<|sf ar Z Z (iy (e:=57) (w:=24) (z:=[.av]) U U U U Z Z oM oM) (fun _=>Z) (fun O b2 ar=>?_));rw[gh] at ar;refine wQ 1 Z<|sf ar Z Z (iy (e:=74) (w:=24) (z:=[.av]) U U U U Z Z oM oM) (fun _=>Z) (fun O b3 ar=>?_);rw[gh] at ar;refine wQ 1 Z<|aj Z Z (RC hi Z Z Z (e:=2) Z) Z<|sf ar Z Z (iy (e:=74) (w:=24) (z:=[.av]) U U U U Z Z oM oM) (fun _=>Z) (fun O b4 ar=>?_);rw[gh] at ar;refine fF Z Z (Rx Z Z Z) (fun _=>Z) (ui F hi oM ar) ?_;rintro ab O ⟨E,hM18,ar⟩;refine⟨(bu (xF Z Z Z Z Z ((ph (e:=57) (w:=24) (z:=[.av]) U U U U Z Z oM oM).trans (by rw[gh])) ar.bA.pop.pop.g0<|vX _)<|bu (xF Z Z Z Z Z ((ph (e:=74) (w:=24) (z:=[.av]) U U U U Z Z oM oM).trans (by rw[gh])) ar.bA.pop.g0<|vX _)<|bu (xF Z Z Z Z Z ((ph (e:=74) (w:=24) (z:=[.av]) U U U U Z Z oM oM).trans (by rw[gh])) ar.bA.g0<|vX _) aX),?_⟩;refine aj Z Z (bI (places:=[(0,1),(1,1),(2,1),(3,1)]) (zero:=[.av,.av,.av,.av]) (cs:=[_,_,_,_]) U U U (bj Z Z hM18.leaf.1 Z<|bj Z Z Z Z<|bj Z Z Z Z<|bj Z Z Z Z bO) U) Z<|ik ar (.dv (.there (.there (.there .here)))) Z Z (RG Z Z Z ar.bA.pop.pop.pop.g0 (m:=4) Z (af hM18.leaf.2 Z) (cells':=[_,_,_,_]) Z) Z (fun O ar=>?_);refine⟨aX,?_⟩;refine Qm 4 Z ?_;obtain⟨A,hle,u,ar⟩:=D.cA (O:=O) (K:=K) (L:=_::L) (M:=E++[_,_,_]) (by rw[lQ_];exact ar);have q4:=u _ (List.mem_append_right _ (.head _));have q3:=u _ (List.mem_append_right _ (.tail _ (.head _)));have q2:=u _ (List.mem_append_right _ (.tail _ (.tail _ (.head _))));have q1:=hM18.gL (K:=A) fun y hy=>u _ (List.mem_append_left _ hy);dsimp only at q2 q3 q4
 exact bC Z Z ar.g0 (m:=4) U Z Z ⟨A,_,_,_,_,Z,hle,⟨q1,tS q2 oM,tS q3 oM,tS q4 oM⟩,ar.pop⟩
theorem Gn {G:Cx} (hG:Plain G) (a0:G.fk 70=true) (a1:G.ov 106=true) {K:KP} (bq:mF G K) {k:Nat} {l:List XC} {lv:V} (hl:bF K 2 (lr K k) l lv) {r:XM} (hinv:fz k l r) {a b c d:V} (hg:eW K r.g a b c d) {x0 x1 x2 x3 x4 x5:Int} (hm:oY r.mem x0 x1 x2 x3 x4 x5) {t:Nat} (ht:t<l.length) {O:N} {L:Own} (ar:D O K L):
  a8 Tryz.prog G 54 [.agg [.int .i64 x0,.int .i64 x1,.int .i64 x2,.int .i64 x3,.int .i64 x4,.int .i64 x5,a,b,c,d],lv,.int .i64 (.ofNat (t+1))] O fun v O'=>(∃e,v= .tuple [.agg Bd,.int .i64 e]/\e=(fI k l r t).2/\H e 0=false/\D O' K L)∨
   ∃K1 r' y0 y1 y2 y3 y4 y5 a' b' c' d',KP.le K K1/\fI k l r t=(some r',0)/\v= .tuple [.agg [.int .i64 y0,.int .i64 y1,.int .i64 y2,.int .i64 y3,.int .i64 y4,.int .i64 y5,a',b',c',d'],J]/\eW K1 r'.g a' b' c' d'/\oY r'.mem y0 y1 y2 y3 y4 y5/\D O' K1 L:=by
 obtain⟨xc,Q⟩:=cT ht;obtain⟨row,B⟩:=cT (show t<r.g.threads.length from by rw[hinv.len];exact ht);have hck:=hinv.Ib;obtain⟨b1_,b2_,b3_,_⟩:=dc hck;have hrl:=b3_ row (gB_ B);have hord:=jA hck;have hnx:=sb.2 (hinv.fits t xc row Q B);have hll:=hl.bL;obtain⟨N_,hN⟩:∃N_,N_=(bZ k xc row).1:=⟨_,Z⟩;have hml:=hinv.mem;have A:KP.le K K:=KP.le_refl K;have hgl0:=bq;refine QO hG Tryz.func54 Z<|Qg 2 Z<|kp ar Z (cG Z Z) (fun O b1 ar=>?_);refine kp ar Z (RD (cs:=[J,J,J,J,J,J,.av,.av,.av,.av])) (fun O b2 ar=>?_);refine PL ar 10 [6,1,1] Z Z<|Rr (e:=57) (m:=1) hg.threads B Z Z Z (cI<|fv (t:=t) (by have:=hl.bL;omega)) (fun ci ca br cb bs=>?_);have hr21':=bs;obtain⟨ck,rfl,a5⟩:=hr21';refine Y Z (RE ar br Z Z) Z<|PF 8 Z<|Rr (e:=33) (m:=2) hl Q Z Z Z (cI<|fv (t:=t) (by have:=hl.bL;omega)) (fun cl cc bt ce bv=>?_);have hr27':=bv;obtain⟨cn,rfl,bw⟩:=hr27';refine Y Z (RF ar bt Z Z) Z<|vQ 1 Z<|bc Z (Rx Z Z Z) (fun _=>Z) (Kj hG bq bw a5 oM ar) (fun O ar=>?_);rw[hnx,<-hN];refine QV 3 Z<|kp ar Z (RD (cs:=[J,J,J,J,J,J,J,J,J,J,J])) (fun O b3 ar=>?_);refine bE ar Z (RG Z Z Z ar.g0 (m:=11) Z Z (cells':=[_,_,_,_,_,_,_,_,_,_,_]) Z) Z (fun O ar=>?_);refine Ok 8 Z<|ky Z (az Z Z Z) (fun b0=>?_) (fun b0=>?_)
 ·exact absurd b0 (by decide)
 refine PL ar 8 [10,0] Z Z<|ky Z (az Z Z Z) (fun X=>?_) (fun X=>?_)
 ·refine PF 6 Z (Y Z (Rw (places:=[(0,6),(6,4)]) (zero:=[J,J,J,J,J,J,.av,.av,.av,.av]) (cs:=[_,_,_,_,_,_,_,_,_,_]) Z) Z<|eE ar Z (RG Z Z Z ar.g1 (m:=10) Z Z (cells':=[_,_,_,_,_,_,_,_,_,_]) Z) Z (fun O ar=>?_));refine Qk 4 Z<|aJ<|ay (?_);exact bC Z Z ar.g1 (m:=10) U Z Z (.inl ⟨10,Z,by rw[kr Q B (e:=10) (by unfold jr;rw[hnx,<-hN];rw[show bf (H N_.fin 0)=true from X];rfl) Z],Z,ar.pop.pop.pop⟩)
 refine PF 7 Z<|Y Z (RC a5 Z Z Z (e:=56) Z) Z<|ky Z (az Z Z Z) (fun ab=>?_) (fun ab=>?_)
 ·refine PF 6 Z (Y Z (Rw (places:=[(0,6),(6,4)]) (zero:=[J,J,J,J,J,J,.av,.av,.av,.av]) (cs:=[_,_,_,_,_,_,_,_,_,_]) Z) Z<|eE ar Z (RG Z Z Z ar.g1 (m:=10) Z Z (cells':=[_,_,_,_,_,_,_,_,_,_]) Z) Z (fun O ar=>?_));refine Qk 4 Z<|aJ<|ay (?_);exact bC Z Z ar.g1 (m:=10) U Z Z (.inl ⟨3,Z,by rw[kr Q B (e:=3) (by unfold jr;rw[hnx,<-hN];rw[show bf (H N_.fin 0)=false from X,show bf (cq (.ofNat row.length) 14)=true from ab];rfl) Z],Z,ar.pop.pop.pop⟩)
 refine PG 6 Z<|Qn ar 17 [0,1,0,5,0,0] Z Z<|aF Z (fun a3=>?_) (fun a3=>?_)
 ·have E:iE N_=N_.ask.loc:=by unfold iE;rw[show bf (H N_.ask.kind 0)=true from a3];rfl
  refine QX ar 5 [5,1,0] Z Z<|O6 ar 9 [0,0,0] Z Z<|ky Z (an Z) (fun F=>?_) (fun F=>?_)
  ·refine QV 2 Z<|ky Z (an Z) (fun am=>?_) (fun am=>?_)
   ·refine PF 13 Z (Y Z (Rw (places:=[(0,6),(6,4)]) (zero:=[J,J,J,J,J,J,.av,.av,.av,.av]) (cs:=[_,_,_,_,_,_,_,_,_,_]) Z) Z<|eE ar Z (RG Z Z Z ar.g1 (m:=10) Z Z (cells':=[_,_,_,_,_,_,_,_,_,_]) Z) Z (fun O ar=>?_));refine PH 5 Z ?_;exact bC Z Z ar.g1 (m:=10) U Z Z (.inl ⟨2,Z,by rw[kr Q B (e:=2) (by unfold jr;rw[hnx,<-hN];rw[show bf (H N_.fin 0)=false from X,show bf (cq (.ofNat row.length) 14)=false from ab,show fx N_ r.g=true from by unfold fx;rw[show bf (H N_.event.kind 4)=true from F,E,am];rfl];rfl) Z],Z,ar.pop.pop.pop⟩)
   refine QY ar 4 [6,0,2] Z Z<|Y Z (RC hg.init Z Z Z (e:=2) Z) Z<|Qi 5 Z<|aF Z (fun aq=>?_) (fun aq=>?_)
   ·refine Qg 2 Z (Y Z (Rw (places:=[(0,6),(6,4)]) (zero:=[J,J,J,J,J,J,.av,.av,.av,.av]) (cs:=[_,_,_,_,_,_,_,_,_,_]) Z) Z<|eE ar Z (RG Z Z Z ar.g1 (m:=10) Z Z (cells':=[_,_,_,_,_,_,_,_,_,_]) Z) Z (fun O ar=>?_));refine PH 5 Z ?_;exact bC Z Z ar.g1 (m:=10) U Z Z (.inl ⟨2,Z,by rw[kr Q B (e:=2) (by unfold jr;rw[hnx,<-hN];rw[show bf (H N_.fin 0)=false from X,show bf (cq (.ofNat row.length) 14)=false from ab,show fx N_ r.g=true from by unfold fx;rw[show bf (H N_.event.kind 4)=true from F,E,am];exact aq];rfl) Z],Z,ar.pop.pop.pop⟩)
   refine PB 4 Z ?_;have R:fx N_ r.g=false:=by unfold fx;rw[show bf (H N_.event.kind 4)=true from F,E,am];exact aq
   have h62x:H N_.event.kind 4=false:=cC F;have S:jr k xc row r.g=0:=by unfold jr;rw[hnx,<-hN,show bf (H N_.fin 0)=false from X,show bf (cq (.ofNat row.length) 14)=false from ab,R];rfl
   refine Y Z (Ry 0 Z) Z (Y Z (RB Z ar.g0 (n:=5) (vs:=[_,_,_,_,_]) Z) Z (Y Z (Rw (places:=[(0,1),(1,1)]) (zero:=[J,J]) (cs:=[_,_]) Z) Z<|kp ar Z (RD (cs:=[J,J,J,J,J])) (fun O b4 ar=>?_)));refine kp ar Z (RD (cs:=[J,J])) (fun O b5 ar=>?_);refine eE ar Z (RG Z Z Z ar.g1 (m:=5) Z Z (cells':=[_,_,_,_,_]) Z) Z (fun O ar=>?_);refine bE ar Z (RG Z Z Z ar.g0 (m:=2) Z Z (cells':=[_,_]) Z) Z (fun O ar=>?_);refine O6 ar 10 [0,0,2] Z Z<|Qi 2 Z<|aF Z (fun M=>?_) (fun M=>?_)
   ·refine Qg 2 Z<|Y Z (Ry 6 Z) Z<|Y Z (RB Z (ar.get 4 Z) (n:=4) (vs:=[_,_,_,_]) Z) Z<|vQ 1 Z ?_;obtain⟨ln,ac,a4⟩:=jT (n:=N_) (g:=r.g) R h62x;refine bR Z (aR Z Z (show _=some [V.agg [a,b,c,d],V.int .i64 (.ofNat ln)] from by rw[<-ac,<-E];rfl) U) (fun _=>Z) (tw hG hg (fun l hl=>by have:=hord l hl;omega) (.ofNat ln) ar) ?_;rintro b6 O ⟨b7,hM85,ar⟩;obtain⟨K1,A,ap,ar⟩:=ar.cA;have hw:=hM85.gL (K:=K1) fun y hy=>ap _ hy;clear ap;replace hg:=hg.mono A
    refine O6 ar 10 [5,0,2] Z Z<|Qi 2 Z<|aF Z (fun ao=>?_) (fun ao=>?_)
    ·refine ak<|aQ (l:=zp [0,1,2,3,4,5,6,7,8,9,10]) U U<|aj Z Z (Ry 5 Z) Z<|aj Z Z (RB Z (ar.get 2 Z) (n:=5) (vs:=[_,_,_,_,_]) Z) Z<|QZ ar 2 [0] Z Z ?_;obtain⟨T,ba,hy96n⟩:=hm.at_ (a:=a) (b:=b) (c:=c) (d:=d) (show ln<r.mem.length from by rw[hml];exact a4);refine aj Z Z (fm (n:=6) (e:=2) (m:=1) U U Z (show _=some (V.int .i64 (.ofNat ln)) from by rw[<-ac,<-E];rfl) oM) Z (aj Z Z (ax Z (ar.get 4 Z) U hy96n) Z<|dJ Z Z (Rx Z Z Z) (fun _=>Z) (C3 hG N_.ask T ar) (fun O ar=>?_));refine⟨aX,?_⟩;refine QW 3 Z<|k9 ar Z Z (RG Z Z Z ar.g1 (m:=5) Z Z (cells':=[_,_,_,_,_]) Z) Z (fun O ar=>?_);refine⟨aX,?_⟩;refine Ql 2 Z<|ai Z<|QV 2 Z<|Y Z (RC hw Z Z Z (e:=67) Z) Z<|vQ 1 Z ?_;have co:0<(bV r.g (.ofNat ln)).length:=by obtain⟨q,hq⟩:=gx hck a4;rw[ew (by rw[hck];rfl) hq];exact Nat.succ_pos _
     obtain⟨W,aE⟩:=cT (show(bV r.g (.ofNat ln)).length-1<(bV r.g (.ofNat ln)).length from by omega);refine Rr (e:=67) (m:=2) hw aE Z Z Z (cI<|qT (b:=1) oM hw.bL) (fun ch b8 bb b9 be=>?_);obtain rfl:=be;refine Y Z (RF ar bb Z Z) Z<|bE ar Z (RG Z Z Z ar.g0 (m:=2) Z Z (cells':=[_,_]) Z) Z (fun O ar=>?_);refine Qo ar 9 [0,1] Z Z<|aF Z (fun aa=>?_) (fun aa=>?_)
     ·refine Qg 3 Z<|Y Z (RC hw Z Z Z (e:=67) Z) Z<|Qj 5 Z<|QY ar 3 [4,1,0] Z Z<|Y Z (fm (n:=6) (e:=2) (m:=1) U U Z (show _=some (V.int .i64 (.ofNat ln)) from by rw[<-ac,<-E];rfl) oM) Z ?_;obtain⟨z0,z1,z2,z3,z4,z5,bi,bo⟩:=hm.set (a:=a) (b:=b) (c:=c) (d:=d) (show ln<r.mem.length from by rw[hml];exact a4) (bU N_.ask T).write;refine ei ar (.there (.there (.there (.there .here)))) Z (aK Z Z Z (ar.get 4 Z) (m:=1) U Z (by show 0+ln*1+1<=10;omega) Z (cells':=c6 z0 z1 z2 z3 z4 z5 a b c d) bi) Z (fun O ar=>?_);refine PL ar 5 [6] Z Z<|Y Z (RB Z (ar.get 4 Z) (n:=4) (vs:=[_,_,_,_]) Z) Z<|vQ 1 Z<|Y Z (RB Z ar.g1 (n:=5) (vs:=[_,_,_,_,_]) Z) Z<|Y Z (RB Z ar.g0 (n:=2) (vs:=[_,_]) Z) Z<|vQ 1 Z ?_;have hgl1:=hgl0;have C:dy (bZ k xc row).1 r.mem r.g=⟨bU N_.ask T,W,.ofNat (bV r.g (.ofNat ln)).length,r.mem.set ln (bU N_.ask T).write⟩:=by rw[<-hN];unfold dy;rw[ac];dsimp only;rw[cC M,show bf (H N_.ask.kind 0)=true from ao];simp only[ct,cf];rw[show(Int.ofNat ln).toNat=ln from Z,ba,List.getLast?_eq_getElem?,aE];simp only[Option.getD_some];rw[show bf (H (bU N_.ask T).kind 1)=true from aa];rfl
      have hdo:=nP Q B S C;refine bR Z (Rx Z Z Z) (fun _=>Z) (zm hG a0 a1 hg _ _ (bU N_.ask T) W ar) ?_;rintro _ O (⟨er,w,rfl,ar⟩ | ⟨g2,a2,b2,c2,d2,M2,w,rfl,z,ar⟩)
      ·have hS:fI k l r t=(none,er):=by rw[hdo];unfold yG;rw[show gD r.g (.ofNat (t+1)) (bU N_.ask T) W (.ofNat (bV r.g (.ofNat ln)).length)=(none,er) from w]
       have her:=nt w;refine QY ar 4 [6] Z Z<|ei ar (.there (.there (.there (.there .here)))) Z (RG Z Z Z (ar.get 4 Z) (m:=4) Z Z (cells':=[_,_,_,_,_,_,_,_,_,_]) Z) Z (fun O ar=>?_);refine PE 10 Z<|aF Z (fun u=>?_) (fun u=>?_)
       ·refine Qg 2 Z (Y Z (Rw (places:=[(0,6),(6,4)]) (zero:=[J,J,J,J,J,J,.av,.av,.av,.av]) (cs:=[_,_,_,_,_,_,_,_,_,_]) Z) Z<|vQ 1 Z<|ka ar Z (RG Z Z Z (ar.get 3 Z) (m:=10) Z Z (cells':=[_,_,_,_,_,_,_,_,_,_]) Z) Z (fun O ar=>?_));refine PH 5 Z ?_;exact bC Z Z (ar.get 3 Z) (m:=10) U Z Z (.inl ⟨er,Z,by rw[hS],her,(ar.pop.pop.pop.pop.pop).weaken A⟩)
       exact absurd u (by rw[her];decide)
      have hS:fI k l r t=(some ⟨r.mem.set ln (bU N_.ask T).write,g2⟩,0):=by rw[hdo];unfold yG;rw[show gD r.g (.ofNat (t+1)) (bU N_.ask T) W (.ofNat (bV r.g (.ofNat ln)).length)=(some g2,0) from w]
      replace ar:=ar.keeps;refine QY ar 4 [6] Z Z<|ei ar (.there (.there (.there (.there .here)))) Z (RG Z Z Z (ar.get 4 Z) (m:=4) Z (af z.init.leaf.2<|af z.threads.leaf.2<|af z.from_.leaf.2<|af z.order.leaf.2 aA) (cells':=[_,_,_,_,_,_,_,_,_,_]) Z) Z (fun O ar=>?_);refine PE 10 Z<|aF Z (fun u=>?_) (fun u=>?_)
      ·exact absurd u (by decide)
      refine PB 4 Z<|Y Z (RB Z (ar.get 4 Z) (n:=10) (vs:=[_,_,_,_,_,_,_,_,_,_]) Z) Z<|ka ar Z (RG Z Z Z (ar.get 3 Z) (m:=10) Z (af Z<|af Z<|af Z<|af Z<|af Z<|af Z<|af z.init.leaf.2<|af z.threads.leaf.2<|af z.from_.leaf.2<|af z.order.leaf.2 aA) (cells':=[_,_,_,_,_,_,_,_,_,_]) Z) Z (fun O ar=>?_);refine Qk 4 Z ?_;exact bC Z Z (ar.get 3 Z) (m:=10) U Z Z (.inr ⟨_,_,_,_,_,_,_,_,_,_,_,_,KP.le_trans A<|KP.dI _ _,hS,Z,z,bo,ar.pop.pop.pop.pop.pop⟩)
     refine PK ar 5 [6] Z Z<|Y Z (RB Z (ar.get 4 Z) (n:=4) (vs:=[_,_,_,_]) Z) Z<|vQ 1 Z<|Y Z (RB Z ar.g1 (n:=5) (vs:=[_,_,_,_,_]) Z) Z<|Y Z (RB Z ar.g0 (n:=2) (vs:=[_,_]) Z) Z<|vQ 1 Z ?_;have hgl1:=hgl0;have C:dy (bZ k xc row).1 r.mem r.g=⟨bU N_.ask T,W,0,r.mem⟩:=by rw[<-hN];unfold dy;rw[ac];dsimp only;rw[cC M,show bf (H N_.ask.kind 0)=true from ao];simp only[ct,cf];rw[show(Int.ofNat ln).toNat=ln from Z,ba,List.getLast?_eq_getElem?,aE];simp only[Option.getD_some];rw[show bf (H (bU N_.ask T).kind 1)=false from aa];rfl
     have hdo:=nP Q B S C;refine bR Z (Rx Z Z Z) (fun _=>Z) (zm hG a0 a1 hg _ _ (bU N_.ask T) W ar) ?_;rintro _ O (⟨er,w,rfl,ar⟩ | ⟨g2,a2,b2,c2,d2,M2,w,rfl,z,ar⟩)
     ·have hS:fI k l r t=(none,er):=by rw[hdo];unfold yG;rw[show gD r.g (.ofNat (t+1)) (bU N_.ask T) W (0)=(none,er) from w]
      have her:=nt w;refine QY ar 4 [6] Z Z<|ei ar (.there (.there (.there (.there .here)))) Z (RG Z Z Z (ar.get 4 Z) (m:=4) Z Z (cells':=[_,_,_,_,_,_,_,_,_,_]) Z) Z (fun O ar=>?_);refine PE 10 Z<|aF Z (fun u=>?_) (fun u=>?_)
      ·refine Qg 2 Z (Y Z (Rw (places:=[(0,6),(6,4)]) (zero:=[J,J,J,J,J,J,.av,.av,.av,.av]) (cs:=[_,_,_,_,_,_,_,_,_,_]) Z) Z<|vQ 1 Z<|ka ar Z (RG Z Z Z (ar.get 3 Z) (m:=10) Z Z (cells':=[_,_,_,_,_,_,_,_,_,_]) Z) Z (fun O ar=>?_));refine PH 5 Z ?_;exact bC Z Z (ar.get 3 Z) (m:=10) U Z Z (.inl ⟨er,Z,by rw[hS],her,(ar.pop.pop.pop.pop.pop).weaken A⟩)
      exact absurd u (by rw[her];decide)
     have hS:fI k l r t=(some ⟨r.mem,g2⟩,0):=by rw[hdo];unfold yG;rw[show gD r.g (.ofNat (t+1)) (bU N_.ask T) W (0)=(some g2,0) from w]
     replace ar:=ar.keeps;refine QY ar 4 [6] Z Z<|ei ar (.there (.there (.there (.there .here)))) Z (RG Z Z Z (ar.get 4 Z) (m:=4) Z (af z.init.leaf.2<|af z.threads.leaf.2<|af z.from_.leaf.2<|af z.order.leaf.2 aA) (cells':=[_,_,_,_,_,_,_,_,_,_]) Z) Z (fun O ar=>?_);refine PE 10 Z<|aF Z (fun u=>?_) (fun u=>?_)
     ·exact absurd u (by decide)
     refine PB 4 Z<|Y Z (RB Z (ar.get 4 Z) (n:=10) (vs:=[_,_,_,_,_,_,_,_,_,_]) Z) Z<|ka ar Z (RG Z Z Z (ar.get 3 Z) (m:=10) Z (af Z<|af Z<|af Z<|af Z<|af Z<|af Z<|af z.init.leaf.2<|af z.threads.leaf.2<|af z.from_.leaf.2<|af z.order.leaf.2 aA) (cells':=[_,_,_,_,_,_,_,_,_,_]) Z) Z (fun O ar=>?_);refine Qk 4 Z ?_;exact bC Z Z (ar.get 3 Z) (m:=10) U Z Z (.inr ⟨_,_,_,_,_,_,_,_,_,_,_,_,KP.le_trans A<|KP.dI _ _,hS,Z,z,hm,ar.pop.pop.pop.pop.pop⟩)
    exact absurd (ao.symm.trans a3) (by decide)
   exact absurd (M.symm.trans F) (by decide)
  refine O5 18 Z ?_;have R:fx N_ r.g=false:=by unfold fx;rw[show bf (H N_.event.kind 4)=false from F];rfl
  have S:jr k xc row r.g=0:=by unfold jr;rw[hnx,<-hN,show bf (H N_.fin 0)=false from X,show bf (cq (.ofNat row.length) 14)=false from ab,R];rfl
  refine Y Z (Ry 0 Z) Z (Y Z (RB Z ar.g0 (n:=5) (vs:=[_,_,_,_,_]) Z) Z (Y Z (Rw (places:=[(0,1),(1,1)]) (zero:=[J,J]) (cs:=[_,_]) Z) Z<|kp ar Z (RD (cs:=[J,J,J,J,J])) (fun O b4 ar=>?_)));refine kp ar Z (RD (cs:=[J,J])) (fun O b5 ar=>?_);refine eE ar Z (RG Z Z Z ar.g1 (m:=5) Z Z (cells':=[_,_,_,_,_]) Z) Z (fun O ar=>?_);refine bE ar Z (RG Z Z Z ar.g0 (m:=2) Z Z (cells':=[_,_]) Z) Z (fun O ar=>?_);refine O6 ar 10 [0,0,2] Z Z<|Qi 2 Z<|aF Z (fun M=>?_) (fun M=>?_)
  ·exact absurd (M.symm.trans F) (by decide)
  refine PK ar 5 [6] Z Z<|Y Z (RB Z (ar.get 4 Z) (n:=4) (vs:=[_,_,_,_]) Z) Z<|vQ 1 Z<|Y Z (RB Z ar.g1 (n:=5) (vs:=[_,_,_,_,_]) Z) Z<|Y Z (RB Z ar.g0 (n:=2) (vs:=[_,_]) Z) Z<|vQ 1 Z ?_;have hgl1:=hgl0;have C:dy (bZ k xc row).1 r.mem r.g=⟨N_.event,⟨0,0⟩,0,r.mem⟩:=by rw[<-hN];exact pX<|bl M
  have hdo:=nP Q B S C;refine bR Z (Rx Z Z Z) (fun _=>Z) (zm hG a0 a1 hg _ _ (N_.event) ⟨0,0⟩ ar) ?_;rintro _ O (⟨er,w,rfl,ar⟩ | ⟨g2,a2,b2,c2,d2,M2,w,rfl,z,ar⟩)
  ·have hS:fI k l r t=(none,er):=by rw[hdo];unfold yG;rw[show gD r.g (.ofNat (t+1)) (N_.event) ⟨0,0⟩ (0)=(none,er) from w]
   have her:=nt w;refine QY ar 4 [6] Z Z<|ei ar (.there (.there (.there (.there .here)))) Z (RG Z Z Z (ar.get 4 Z) (m:=4) Z Z (cells':=[_,_,_,_,_,_,_,_,_,_]) Z) Z (fun O ar=>?_);refine PE 10 Z<|aF Z (fun u=>?_) (fun u=>?_)
   ·refine Qg 2 Z (Y Z (Rw (places:=[(0,6),(6,4)]) (zero:=[J,J,J,J,J,J,.av,.av,.av,.av]) (cs:=[_,_,_,_,_,_,_,_,_,_]) Z) Z<|vQ 1 Z<|ka ar Z (RG Z Z Z (ar.get 3 Z) (m:=10) Z Z (cells':=[_,_,_,_,_,_,_,_,_,_]) Z) Z (fun O ar=>?_));refine PH 5 Z ?_;exact bC Z Z (ar.get 3 Z) (m:=10) U Z Z (.inl ⟨er,Z,by rw[hS],her,(ar.pop.pop.pop.pop.pop).weaken A⟩)
   exact absurd u (by rw[her];decide)
  have hS:fI k l r t=(some ⟨r.mem,g2⟩,0):=by rw[hdo];unfold yG;rw[show gD r.g (.ofNat (t+1)) (N_.event) ⟨0,0⟩ (0)=(some g2,0) from w]
  replace ar:=ar.keeps;refine QY ar 4 [6] Z Z<|ei ar (.there (.there (.there (.there .here)))) Z (RG Z Z Z (ar.get 4 Z) (m:=4) Z (af z.init.leaf.2<|af z.threads.leaf.2<|af z.from_.leaf.2<|af z.order.leaf.2 aA) (cells':=[_,_,_,_,_,_,_,_,_,_]) Z) Z (fun O ar=>?_);refine PE 10 Z<|aF Z (fun u=>?_) (fun u=>?_)
  ·exact absurd u (by decide)
  refine PB 4 Z<|Y Z (RB Z (ar.get 4 Z) (n:=10) (vs:=[_,_,_,_,_,_,_,_,_,_]) Z) Z<|ka ar Z (RG Z Z Z (ar.get 3 Z) (m:=10) Z (af Z<|af Z<|af Z<|af Z<|af Z<|af Z<|af z.init.leaf.2<|af z.threads.leaf.2<|af z.from_.leaf.2<|af z.order.leaf.2 aA) (cells':=[_,_,_,_,_,_,_,_,_,_]) Z) Z (fun O ar=>?_);refine Qk 4 Z ?_;exact bC Z Z (ar.get 3 Z) (m:=10) U Z Z (.inr ⟨_,_,_,_,_,_,_,_,_,_,_,_,KP.le_trans A<|KP.dI _ _,hS,Z,z,hm,ar.pop.pop.pop.pop.pop⟩)
 have E:iE N_=N_.event.loc:=by unfold iE;rw[show bf (H N_.ask.kind 0)=false from a3];rfl
 refine O2 5 Z<|QY ar 4 [0,0,0] Z Z<|ky Z (an Z) (fun F=>?_) (fun F=>?_)
 ·refine QV 2 Z<|ky Z (an Z) (fun am=>?_) (fun am=>?_)
  ·refine PF 13 Z (Y Z (Rw (places:=[(0,6),(6,4)]) (zero:=[J,J,J,J,J,J,.av,.av,.av,.av]) (cs:=[_,_,_,_,_,_,_,_,_,_]) Z) Z<|eE ar Z (RG Z Z Z ar.g1 (m:=10) Z Z (cells':=[_,_,_,_,_,_,_,_,_,_]) Z) Z (fun O ar=>?_));refine PH 5 Z ?_;exact bC Z Z ar.g1 (m:=10) U Z Z (.inl ⟨2,Z,by rw[kr Q B (e:=2) (by unfold jr;rw[hnx,<-hN];rw[show bf (H N_.fin 0)=false from X,show bf (cq (.ofNat row.length) 14)=false from ab,show fx N_ r.g=true from by unfold fx;rw[show bf (H N_.event.kind 4)=true from F,E,am];rfl];rfl) Z],Z,ar.pop.pop.pop⟩)
  refine QY ar 4 [6,0,2] Z Z<|Y Z (RC hg.init Z Z Z (e:=2) Z) Z<|Qi 5 Z<|aF Z (fun aq=>?_) (fun aq=>?_)
  ·refine Qg 2 Z (Y Z (Rw (places:=[(0,6),(6,4)]) (zero:=[J,J,J,J,J,J,.av,.av,.av,.av]) (cs:=[_,_,_,_,_,_,_,_,_,_]) Z) Z<|eE ar Z (RG Z Z Z ar.g1 (m:=10) Z Z (cells':=[_,_,_,_,_,_,_,_,_,_]) Z) Z (fun O ar=>?_));refine PH 5 Z ?_;exact bC Z Z ar.g1 (m:=10) U Z Z (.inl ⟨2,Z,by rw[kr Q B (e:=2) (by unfold jr;rw[hnx,<-hN];rw[show bf (H N_.fin 0)=false from X,show bf (cq (.ofNat row.length) 14)=false from ab,show fx N_ r.g=true from by unfold fx;rw[show bf (H N_.event.kind 4)=true from F,E,am];exact aq];rfl) Z],Z,ar.pop.pop.pop⟩)
  refine PB 4 Z ?_;have R:fx N_ r.g=false:=by unfold fx;rw[show bf (H N_.event.kind 4)=true from F,E,am];exact aq
  have h62x:H N_.event.kind 4=false:=cC F;have S:jr k xc row r.g=0:=by unfold jr;rw[hnx,<-hN,show bf (H N_.fin 0)=false from X,show bf (cq (.ofNat row.length) 14)=false from ab,R];rfl
  refine Y Z (Ry 0 Z) Z (Y Z (RB Z ar.g0 (n:=5) (vs:=[_,_,_,_,_]) Z) Z (Y Z (Rw (places:=[(0,1),(1,1)]) (zero:=[J,J]) (cs:=[_,_]) Z) Z<|kp ar Z (RD (cs:=[J,J,J,J,J])) (fun O b4 ar=>?_)));refine kp ar Z (RD (cs:=[J,J])) (fun O b5 ar=>?_);refine eE ar Z (RG Z Z Z ar.g1 (m:=5) Z Z (cells':=[_,_,_,_,_]) Z) Z (fun O ar=>?_);refine bE ar Z (RG Z Z Z ar.g0 (m:=2) Z Z (cells':=[_,_]) Z) Z (fun O ar=>?_);refine O6 ar 10 [0,0,2] Z Z<|Qi 2 Z<|aF Z (fun M=>?_) (fun M=>?_)
  ·refine Qg 2 Z<|Y Z (Ry 6 Z) Z<|Y Z (RB Z (ar.get 4 Z) (n:=4) (vs:=[_,_,_,_]) Z) Z<|vQ 1 Z ?_;obtain⟨ln,ac,a4⟩:=jT (n:=N_) (g:=r.g) R h62x;refine bR Z (aR Z Z (show _=some [V.agg [a,b,c,d],V.int .i64 (.ofNat ln)] from by rw[<-ac,<-E];rfl) U) (fun _=>Z) (tw hG hg (fun l hl=>by have:=hord l hl;omega) (.ofNat ln) ar) ?_;rintro b6 O ⟨b7,hM85,ar⟩;obtain⟨K1,A,ap,ar⟩:=ar.cA;have hw:=hM85.gL (K:=K1) fun y hy=>ap _ hy;clear ap;replace hg:=hg.mono A
   refine O6 ar 10 [5,0,2] Z Z<|Qi 2 Z<|aF Z (fun ao=>?_) (fun ao=>?_)
   ·exact absurd (ao.symm.trans a3) (by decide)
   refine PK ar 7 [0,1] Z Z<|Qi 2 Z<|aF Z (fun aa=>?_) (fun aa=>?_)
   ·refine Qg 3 Z<|Y Z (RC hw Z Z Z (e:=67) Z) Z<|Qj 5 Z<|QY ar 3 [4,1,0] Z Z<|Y Z (fm (n:=6) (e:=2) (m:=1) U U Z (show _=some (V.int .i64 (.ofNat ln)) from by rw[<-ac,<-E];rfl) oM) Z ?_;obtain⟨z0,z1,z2,z3,z4,z5,bi,bo⟩:=hm.set (a:=a) (b:=b) (c:=c) (d:=d) (show ln<r.mem.length from by rw[hml];exact a4) (N_.event).write;refine ei ar (.there (.there (.there (.there .here)))) Z (aK Z Z Z (ar.get 4 Z) (m:=1) U Z (by show 0+ln*1+1<=10;omega) Z (cells':=c6 z0 z1 z2 z3 z4 z5 a b c d) bi) Z (fun O ar=>?_);refine PL ar 5 [6] Z Z<|Y Z (RB Z (ar.get 4 Z) (n:=4) (vs:=[_,_,_,_]) Z) Z<|vQ 1 Z<|Y Z (RB Z ar.g1 (n:=5) (vs:=[_,_,_,_,_]) Z) Z<|Y Z (RB Z ar.g0 (n:=2) (vs:=[_,_]) Z) Z<|vQ 1 Z ?_;have hgl1:=hgl0;have C:dy (bZ k xc row).1 r.mem r.g=⟨N_.event,⟨0,0⟩,.ofNat (bV r.g (.ofNat ln)).length,r.mem.set ln (N_.event).write⟩:=by rw[<-hN];unfold dy;rw[ac];dsimp only;rw[cC M,show bf (H N_.ask.kind 0)=false from ao];simp only[ct,cf];rw[show bf (H (N_.event).kind 1)=true from aa];rfl
    have hdo:=nP Q B S C;refine bR Z (Rx Z Z Z) (fun _=>Z) (zm hG a0 a1 hg _ _ (N_.event) ⟨0,0⟩ ar) ?_;rintro _ O (⟨er,w,rfl,ar⟩ | ⟨g2,a2,b2,c2,d2,M2,w,rfl,z,ar⟩)
    ·have hS:fI k l r t=(none,er):=by rw[hdo];unfold yG;rw[show gD r.g (.ofNat (t+1)) (N_.event) ⟨0,0⟩ (.ofNat (bV r.g (.ofNat ln)).length)=(none,er) from w]
     have her:=nt w;refine QY ar 4 [6] Z Z<|ei ar (.there (.there (.there (.there .here)))) Z (RG Z Z Z (ar.get 4 Z) (m:=4) Z Z (cells':=[_,_,_,_,_,_,_,_,_,_]) Z) Z (fun O ar=>?_);refine PE 10 Z<|aF Z (fun u=>?_) (fun u=>?_)
     ·refine Qg 2 Z (Y Z (Rw (places:=[(0,6),(6,4)]) (zero:=[J,J,J,J,J,J,.av,.av,.av,.av]) (cs:=[_,_,_,_,_,_,_,_,_,_]) Z) Z<|vQ 1 Z<|ka ar Z (RG Z Z Z (ar.get 3 Z) (m:=10) Z Z (cells':=[_,_,_,_,_,_,_,_,_,_]) Z) Z (fun O ar=>?_));refine PH 5 Z ?_;exact bC Z Z (ar.get 3 Z) (m:=10) U Z Z (.inl ⟨er,Z,by rw[hS],her,(ar.pop.pop.pop.pop.pop).weaken A⟩)
     exact absurd u (by rw[her];decide)
    have hS:fI k l r t=(some ⟨r.mem.set ln (N_.event).write,g2⟩,0):=by rw[hdo];unfold yG;rw[show gD r.g (.ofNat (t+1)) (N_.event) ⟨0,0⟩ (.ofNat (bV r.g (.ofNat ln)).length)=(some g2,0) from w]
    replace ar:=ar.keeps;refine QY ar 4 [6] Z Z<|ei ar (.there (.there (.there (.there .here)))) Z (RG Z Z Z (ar.get 4 Z) (m:=4) Z (af z.init.leaf.2<|af z.threads.leaf.2<|af z.from_.leaf.2<|af z.order.leaf.2 aA) (cells':=[_,_,_,_,_,_,_,_,_,_]) Z) Z (fun O ar=>?_);refine PE 10 Z<|aF Z (fun u=>?_) (fun u=>?_)
    ·exact absurd u (by decide)
    refine PB 4 Z<|Y Z (RB Z (ar.get 4 Z) (n:=10) (vs:=[_,_,_,_,_,_,_,_,_,_]) Z) Z<|ka ar Z (RG Z Z Z (ar.get 3 Z) (m:=10) Z (af Z<|af Z<|af Z<|af Z<|af Z<|af Z<|af z.init.leaf.2<|af z.threads.leaf.2<|af z.from_.leaf.2<|af z.order.leaf.2 aA) (cells':=[_,_,_,_,_,_,_,_,_,_]) Z) Z (fun O ar=>?_);refine Qk 4 Z ?_;exact bC Z Z (ar.get 3 Z) (m:=10) U Z Z (.inr ⟨_,_,_,_,_,_,_,_,_,_,_,_,KP.le_trans A<|KP.dI _ _,hS,Z,z,bo,ar.pop.pop.pop.pop.pop⟩)
   refine PK ar 5 [6] Z Z<|Y Z (RB Z (ar.get 4 Z) (n:=4) (vs:=[_,_,_,_]) Z) Z<|vQ 1 Z<|Y Z (RB Z ar.g1 (n:=5) (vs:=[_,_,_,_,_]) Z) Z<|Y Z (RB Z ar.g0 (n:=2) (vs:=[_,_]) Z) Z<|vQ 1 Z ?_;have hgl1:=hgl0;have C:dy (bZ k xc row).1 r.mem r.g=⟨N_.event,⟨0,0⟩,0,r.mem⟩:=by rw[<-hN];unfold dy;rw[ac];dsimp only;rw[cC M,show bf (H N_.ask.kind 0)=false from ao];simp only[ct,cf];rw[show bf (H (N_.event).kind 1)=false from aa];rfl
   have hdo:=nP Q B S C;refine bR Z (Rx Z Z Z) (fun _=>Z) (zm hG a0 a1 hg _ _ (N_.event) ⟨0,0⟩ ar) ?_;rintro _ O (⟨er,w,rfl,ar⟩ | ⟨g2,a2,b2,c2,d2,M2,w,rfl,z,ar⟩)
   ·have hS:fI k l r t=(none,er):=by rw[hdo];unfold yG;rw[show gD r.g (.ofNat (t+1)) (N_.event) ⟨0,0⟩ (0)=(none,er) from w]
    have her:=nt w;refine QY ar 4 [6] Z Z<|ei ar (.there (.there (.there (.there .here)))) Z (RG Z Z Z (ar.get 4 Z) (m:=4) Z Z (cells':=[_,_,_,_,_,_,_,_,_,_]) Z) Z (fun O ar=>?_);refine PE 10 Z<|aF Z (fun u=>?_) (fun u=>?_)
    ·refine Qg 2 Z (Y Z (Rw (places:=[(0,6),(6,4)]) (zero:=[J,J,J,J,J,J,.av,.av,.av,.av]) (cs:=[_,_,_,_,_,_,_,_,_,_]) Z) Z<|vQ 1 Z<|ka ar Z (RG Z Z Z (ar.get 3 Z) (m:=10) Z Z (cells':=[_,_,_,_,_,_,_,_,_,_]) Z) Z (fun O ar=>?_));refine PH 5 Z ?_;exact bC Z Z (ar.get 3 Z) (m:=10) U Z Z (.inl ⟨er,Z,by rw[hS],her,(ar.pop.pop.pop.pop.pop).weaken A⟩)
    exact absurd u (by rw[her];decide)
   have hS:fI k l r t=(some ⟨r.mem,g2⟩,0):=by rw[hdo];unfold yG;rw[show gD r.g (.ofNat (t+1)) (N_.event) ⟨0,0⟩ (0)=(some g2,0) from w]
   replace ar:=ar.keeps;refine QY ar 4 [6] Z Z<|ei ar (.there (.there (.there (.there .here)))) Z (RG Z Z Z (ar.get 4 Z) (m:=4) Z (af z.init.leaf.2<|af z.threads.leaf.2<|af z.from_.leaf.2<|af z.order.leaf.2 aA) (cells':=[_,_,_,_,_,_,_,_,_,_]) Z) Z (fun O ar=>?_);refine PE 10 Z<|aF Z (fun u=>?_) (fun u=>?_)
   ·exact absurd u (by decide)
   refine PB 4 Z<|Y Z (RB Z (ar.get 4 Z) (n:=10) (vs:=[_,_,_,_,_,_,_,_,_,_]) Z) Z<|ka ar Z (RG Z Z Z (ar.get 3 Z) (m:=10) Z (af Z<|af Z<|af Z<|af Z<|af Z<|af Z<|af z.init.leaf.2<|af z.threads.leaf.2<|af z.from_.leaf.2<|af z.order.leaf.2 aA) (cells':=[_,_,_,_,_,_,_,_,_,_]) Z) Z (fun O ar=>?_);refine Qk 4 Z ?_;exact bC Z Z (ar.get 3 Z) (m:=10) U Z Z (.inr ⟨_,_,_,_,_,_,_,_,_,_,_,_,KP.le_trans A<|KP.dI _ _,hS,Z,z,hm,ar.pop.pop.pop.pop.pop⟩)
  exact absurd (M.symm.trans F) (by decide)
 refine O5 18 Z ?_;have R:fx N_ r.g=false:=by unfold fx;rw[show bf (H N_.event.kind 4)=false from F];rfl
 have S:jr k xc row r.g=0:=by unfold jr;rw[hnx,<-hN,show bf (H N_.fin 0)=false from X,show bf (cq (.ofNat row.length) 14)=false from ab,R];rfl
 refine Y Z (Ry 0 Z) Z (Y Z (RB Z ar.g0 (n:=5) (vs:=[_,_,_,_,_]) Z) Z (Y Z (Rw (places:=[(0,1),(1,1)]) (zero:=[J,J]) (cs:=[_,_]) Z) Z<|kp ar Z (RD (cs:=[J,J,J,J,J])) (fun O b4 ar=>?_)));refine kp ar Z (RD (cs:=[J,J])) (fun O b5 ar=>?_);refine eE ar Z (RG Z Z Z ar.g1 (m:=5) Z Z (cells':=[_,_,_,_,_]) Z) Z (fun O ar=>?_);refine bE ar Z (RG Z Z Z ar.g0 (m:=2) Z Z (cells':=[_,_]) Z) Z (fun O ar=>?_);refine O6 ar 10 [0,0,2] Z Z<|Qi 2 Z<|aF Z (fun M=>?_) (fun M=>?_)
 ·exact absurd (M.symm.trans F) (by decide)
 refine PK ar 5 [6] Z Z<|Y Z (RB Z (ar.get 4 Z) (n:=4) (vs:=[_,_,_,_]) Z) Z<|vQ 1 Z<|Y Z (RB Z ar.g1 (n:=5) (vs:=[_,_,_,_,_]) Z) Z<|Y Z (RB Z ar.g0 (n:=2) (vs:=[_,_]) Z) Z<|vQ 1 Z ?_;have hgl1:=hgl0;have C:dy (bZ k xc row).1 r.mem r.g=⟨N_.event,⟨0,0⟩,0,r.mem⟩:=by rw[<-hN];exact pX<|bl M
 have hdo:=nP Q B S C;refine bR Z (Rx Z Z Z) (fun _=>Z) (zm hG a0 a1 hg _ _ (N_.event) ⟨0,0⟩ ar) ?_;rintro _ O (⟨er,w,rfl,ar⟩ | ⟨g2,a2,b2,c2,d2,M2,w,rfl,z,ar⟩)
 ·have hS:fI k l r t=(none,er):=by rw[hdo];unfold yG;rw[show gD r.g (.ofNat (t+1)) (N_.event) ⟨0,0⟩ (0)=(none,er) from w]
  have her:=nt w;refine QY ar 4 [6] Z Z<|ei ar (.there (.there (.there (.there .here)))) Z (RG Z Z Z (ar.get 4 Z) (m:=4) Z Z (cells':=[_,_,_,_,_,_,_,_,_,_]) Z) Z (fun O ar=>?_);refine PE 10 Z<|aF Z (fun u=>?_) (fun u=>?_)
  ·refine Qg 2 Z (Y Z (Rw (places:=[(0,6),(6,4)]) (zero:=[J,J,J,J,J,J,.av,.av,.av,.av]) (cs:=[_,_,_,_,_,_,_,_,_,_]) Z) Z<|vQ 1 Z<|ka ar Z (RG Z Z Z (ar.get 3 Z) (m:=10) Z Z (cells':=[_,_,_,_,_,_,_,_,_,_]) Z) Z (fun O ar=>?_));refine PH 5 Z ?_;exact bC Z Z (ar.get 3 Z) (m:=10) U Z Z (.inl ⟨er,Z,by rw[hS],her,(ar.pop.pop.pop.pop.pop).weaken A⟩)
  exact absurd u (by rw[her];decide)
 have hS:fI k l r t=(some ⟨r.mem,g2⟩,0):=by rw[hdo];unfold yG;rw[show gD r.g (.ofNat (t+1)) (N_.event) ⟨0,0⟩ (0)=(some g2,0) from w]
 replace ar:=ar.keeps;refine QY ar 4 [6] Z Z<|ei ar (.there (.there (.there (.there .here)))) Z (RG Z Z Z (ar.get 4 Z) (m:=4) Z (af z.init.leaf.2<|af z.threads.leaf.2<|af z.from_.leaf.2<|af z.order.leaf.2 aA) (cells':=[_,_,_,_,_,_,_,_,_,_]) Z) Z (fun O ar=>?_);refine PE 10 Z<|aF Z (fun u=>?_) (fun u=>?_)
 ·exact absurd u (by decide)
 refine PB 4 Z<|Y Z (RB Z (ar.get 4 Z) (n:=10) (vs:=[_,_,_,_,_,_,_,_,_,_]) Z) Z<|ka ar Z (RG Z Z Z (ar.get 3 Z) (m:=10) Z (af Z<|af Z<|af Z<|af Z<|af Z<|af Z<|af z.init.leaf.2<|af z.threads.leaf.2<|af z.from_.leaf.2<|af z.order.leaf.2 aA) (cells':=[_,_,_,_,_,_,_,_,_,_]) Z) Z (fun O ar=>?_);refine Qk 4 Z ?_;exact bC Z Z (ar.get 3 Z) (m:=10) U Z Z (.inr ⟨_,_,_,_,_,_,_,_,_,_,_,_,KP.le_trans A<|KP.dI _ _,hS,Z,z,hm,ar.pop.pop.pop.pop.pop⟩)
theorem IP {K:KP} {m:List Int} {u w z A B C:Int} (hm:oY m u w z A B C) {a b c d:V} {bb e:Nat} {ro:Bool} (hb:K bb (.row (c6 u w z A B C a b c d) e ro)):bF K 1 ek m (.slice bb 0 m.length (.known 6)):=by
 have h6:=hm.le;refine .inr ⟨bb,0,_,_,e,ro,Z,.inr ⟨_,Z,h6⟩,hb,by show 0+m.length*1<=10;omega,by omega,fun i x hx=>?_⟩;have hi:=(gA.1 hx).1;obtain⟨y,hy,E⟩:=hm.at_ (a:=a) (b:=b) (c:=c) (d:=d) hi;rw[hx] at hy;cases hy;rw[eU] at E;rw[bX E];rfl
theorem Ik {P:Program} {O:N} {K:KP} {L:Own} {bb e:Nat} {a b c d:V} (ar:D O K ((bb,.row (c6 0 0 0 0 0 0 a b c d) e false)::L)) {init:List Int} {vi:V} (hi:bF K 1 ek init vi) (M:init.length<=6) {ts:Array TypeId} {t ty:TypeId} (Q:ts[0]?=some t) (hu:P.underlying t=some (.slice ty)) (hj:(P.info? ty).map (·.size)=some 1):
  ∃(O':N) (v:V) (B C E F G y5:Int),rk P O ts (.slice bb 0 6 (.known 6)) vi= .val v O'/\D O' K ((bb,.row (c6 B C E F G y5 a b c d) e false)::L)/\oY init B C E F G y5:=by
 obtain⟨j,z,A⟩:=oM_.1 hj;obtain⟨news,R,S,s3,T⟩:=nN ar hi ek.leaf
 have u:news=init.map gZ:=by
  refine List.ext_getElem? fun i=>?_
  rw[gM_];cases hx:init[i]? with
  | none=>
   show news[i]?=none;rw[List.getElem?_eq_none_iff] at hx⊢;rw[S];omega
  | some x=>
   have:=T i x hx;rw[Nat.mul_one] at this;have w:i<news.length:=by have:=(gA.1 hx).1;omega
   rw[List.drop_eq_getElem_cons w] at this;have h1: [news[i]]= [V.int .i64 x]:=this;rw[gC w];exact congrArg some (List.cons.inj h1).1
 subst u;have hb:=ar.get 0 Z;unfold rk;rw[Q];dsimp only;rw[hu];dsimp only;rw[z];dsimp only;rw[A,R];dsimp only
 match init,M with
 | [],_=>exact⟨O,_,0,0,0,0,0,0,Z,ar,Z⟩
 | [q0],_=>simp only[hb];exact⟨_,_,q0,0,0,0,0,0,Z,ar.oI _,Z⟩
 | [q0,q1],_=>simp only[hb];exact⟨_,_,q0,q1,0,0,0,0,Z,ar.oI _,Z⟩
 | [q0,q1,q2],_=>simp only[hb];exact⟨_,_,q0,q1,q2,0,0,0,Z,ar.oI _,Z⟩
 | [q0,q1,q2,q3],_=>simp only[hb];exact⟨_,_,q0,q1,q2,q3,0,0,Z,ar.oI _,Z⟩
 | [q0,q1,q2,q3,q4],_=>simp only[hb];exact⟨_,_,q0,q1,q2,q3,q4,0,Z,ar.oI _,Z⟩
 | [q0,q1,q2,q3,q4,q5],_=>simp only[hb];exact⟨_,_,q0,q1,q2,q3,q4,q5,Z,ar.oI _,Z⟩
theorem Ku {P:Program} {G:Cx} {ev:Operand->Option V} {O:N} {cl:Call} {so xo:Operand} {s x:V} {r:HR} (b:cl.callee= .builtin .copy) (d:cl.args.toList= [so,xo]) (h1:ev so=some s) (u:ev xo=some x) (h:rk P O cl.argTypes s x=r):dW P G ev O (.call cl)=r:=by
 refine kF (by simp[kindOf,b]) ?_
 have he:lO ev [so,xo]=some [s,x]:=by
  unfold lO cQ;simp only[h1,u]
 simp only[gf,b,d,he,h]
theorem Mm {g:XG} (h:cd g=0):MI g:=by
 obtain⟨b1,b2,b,d,b5,u,b7⟩:=dc h;exact⟨by omega,by omega,fun l hl=>by have:=b l hl;omega,by omega,fun l hl=>by have:=p8 u d b l hl;omega,by omega,fun l hl=>by have:=jA h l hl;omega⟩
theorem NS {G:Cx} (Q:Plain G) {K:KP} {g:XG} {a b c d:V} (A:cd g=0) (R:eW K g a b c d) {O:N} {L:Own} (ar:D O K L):a8 Tryz.prog G 93 [.agg [a,b,c,d]] O fun v O'=>∃z a' b' c' d',v= .agg [a',b',c',d']/\KP.le K z/\eW z g a' b' c' d'/\D O' z L:=by
 refine QO Q Tryz.func93 Z<|Qg 2 Z<|kp ar Z (cG Z Z) (fun O b1 ar=>?_);refine kp ar Z (RD (cs:=[.av,.av,.av,.av])) (fun O b2 ar=>?_);refine PF 4 Z<|Y Z (RB Z ar.g1 (n:=4) (vs:=[_,_,_,_]) Z) Z<|bR Z (Rx Z Z Z) (fun _=>Z) (xN Q R (Mm A) ar) ?_;rintro _ O ⟨S,M1,q2,B,T,q3,C,W,q4,E,X,rfl,F,ar⟩;have hfew:=Mm A;obtain⟨z,hle,u,ar⟩:=D.cA (O:=O) (K:=K) (L:=_::_::L) (M:=X++(q4,.row E 74 false)::(W++(q3,.row C 74 false)::(T++(q2,.row B 57 false)::M1))) (by simpa only[lQ_,List.cons_append] using ar);have w:eW z g S (.slice q2 0 g.threads.length (.known g.threads.length)) (.slice q3 0 g.from_.length (.known g.from_.length)) (.slice q4 0 g.order.length (.known g.order.length)):=pI (T1:=57) (T2:=74) (T3:=74) F.init F.threads F.from_ F.order (fun e he=>u e (by simp[he])) (fun e he=>u e (by simp[he])) (fun e he=>u e (by simp[he])) (fun e he=>u e (by simp[he])) (u (q2,.row B 57 false) (by simp)) (u (q3,.row C 74 false) (by simp)) (u (q4,.row E 74 false) (by simp)) Z Z Z (by have:=hfew.2.1;omega) (by have:=hfew.2.2.2.1;omega) (by have:=hfew.2.2.2.2.2.1;omega);clear u;refine bE ar Z (RG Z Z Z ar.g0 (m:=4) Z (af w.init.leaf.2<|af w.threads.leaf.2<|af w.from_.leaf.2<|af w.order.leaf.2 aA) (cells':=[_,_,_,_]) Z) Z (fun O ar=>?_);refine Qk 3 Z ?_;exact eQ Z Z ar.g0 (m:=4) U Z ⟨z,_,_,_,_,Z,hle,w,ar.pop.pop⟩
theorem Hv {P:Program} {ev:Operand->Option V} {t e n h bb:Nat} {x hi:Operand} {k:IntKind} (d:P.underlying t=some (.array n e)) (hj:(P.info? e).map (·.size)=some 1) (hx:ev x=some (.ptr bb 0)) (hh:ev hi=some (.int k (.ofNat h))) (hl:h<=n):dj P ev (.slice t x none (some hi) none)=some (.slice bb 0 h (.known n)):=by
 obtain⟨j,b,aa⟩:=oM_.1 hj;have hb:dh ev n n none (some hi)=some (0,h):=om hh hl;simp only[dj,fQ,d,hx,cutAt,hb,cut,b];cases Nat.beq n 0<;>simp
theorem EN {P:Program} {ev:Operand->Option V} {t e n bb:Nat} {x:Operand} (d:P.underlying t=some (.array n e)) (hj:(P.info? e).map (·.size)=some 1) (hx:ev x=some (.ptr bb 0)):dj P ev (.slice t x none none none)=some (.slice bb 0 n (.known n)):=by
 obtain⟨j,b,aa⟩:=oM_.1 hj;have hb:dh ev n n none none=some (0,n):=rfl;simp only[dj,fQ,d,hx,cutAt,hb,cut,b];cases Nat.beq n 0<;>simp
theorem Kq {G:Cx} (E:Plain G) {K:KP} {r:XM} (F:cd r.g=0) (Q:r.mem.length=r.g.init.length) {a b c d:V} (hg:eW K r.g a b c d) {S T W X x4 x5:Int} (hm:oY r.mem S T W X x4 x5) {O:N} {L:Own} (ar:D O K L):
  a8 Tryz.prog G 55 [.agg [.int .i64 S,.int .i64 T,.int .i64 W,.int .i64 X,.int .i64 x4,.int .i64 x5,a,b,c,d]] O fun v O'=>∃C mv a' b' c' d',v= .agg [mv,a',b',c',d']/\KP.le K C/\bF C 1 ek r.mem mv/\eW C r.g a' b' c' d'/\D O' C L:=by
 have h6:=hm.le;refine QO E Tryz.func55 Z<|Qg 2 Z<|kp ar Z (cG Z Z) (fun O b1 ar=>?_);obtain⟨K0,B,u,ar⟩:=ar.cA (M:=[_]);have hb:=u _ (.head _);clear u;dsimp only at hb;replace hg:=hg.mono B;refine kp ar Z (RD (cs:=[.av,.av,.av,.av,.av])) (fun O b2 ar=>?_);refine PE 3 Z (aQ (l:=[(0,[]),(1,[]),(2,[]),(3,[]),(4,[]),(5,[]),(7,[]),(8,[]),(6,[8]),(9,[]),(10,[]),(11,[])]) U U<|QZ ar 3 [0,6,0] Z Z<|aj Z Z (Rz Z (ar.da hb) Z) Z<|aj Z Z (RC hg.init Z Z Z (e:=2) Z) Z ?_);refine aj Z Z (a9 (v:=.slice b1 0 r.mem.length (.known 6)) Z<|Hv (e:=2) (n:=6) U U Z (show _=some (V.int .i64 (.ofNat r.mem.length)) from by rw[Q];rfl) h6) Z ?_;refine aj Z Z (Ry 6 Z) Z<|aj Z Z (RB Z (ar.da hb) (n:=4) (vs:=[_,_,_,_]) Z) Z<|fF Z Z (Rx Z Z Z) (fun _=>Z) (ui E (IP hm hb) oM ar) ?_;rintro mv O ⟨MM,R,ar⟩;obtain⟨K2,z,u,ar⟩:=ar.cA;have hmv:=R.gL (K:=K2) fun y hy=>u _ hy;clear u;replace hb:=z _ _ hb;replace hg:=hg.mono z
 refine⟨(bu (bG Z Z Z Z Z (RB Z (ar.da hb) (n:=4) (vs:=[_,_,_,_]) Z)<|gP<|cK hg.init.jm<|cK hg.threads.jm<|cK hg.from_.jm<|cK hg.order.jm gQ) aX),?_⟩;refine fF Z Z (Rx Z Z Z) (fun _=>Z) (NS E F hg ar) ?_;rintro _ O ⟨C,a2,b2_,c2,d2,rfl,w,A,ar⟩;replace hb:=w _ _ hb;replace hg:=hg.mono w;replace hmv:=hmv.mono w fun _ _ h=>h
 refine⟨aX,?_⟩;refine aj Z Z (bI (places:=[(0,1),(1,4)]) (zero:=[.av,.av,.av,.av,.av]) (cs:=[_,_,_,_,_]) U U U (bj Z Z hmv.leaf.1 Z<|bj Z Z Z Z bO) U) Z<|gF ar Z Z (RG Z Z Z ar.g0 (m:=5) Z (af hmv.leaf.2<|af A.init.leaf.2<|af A.threads.leaf.2<|af A.from_.leaf.2<|af A.order.leaf.2 aA) (cells':=[_,_,_,_,_]) Z) Z (fun O ar=>?_);refine⟨aX,?_⟩;refine Qm 3 Z ?_;exact eQ Z Z ar.g0 (m:=5) U Z ⟨C,_,_,_,_,_,Z,KP.le_trans B<|KP.le_trans z w,hmv,A,ar.pop⟩
theorem Gq {G:Cx} (B:Plain G) {K:KP} (C:mF G K) {k:Nat} {init:List Int} {vi:V} (hi:bF K 1 ek init vi) {l:List XC} {lv:V} (hl:bF K 2 (lr K k) l lv) {O:N} {L:Own} (ar:D O K L):
  a8 Tryz.prog G 63 [vi,lv] O fun v O'=>(H (vp k init l) 0=false/\v= .tuple [.agg Bd,.int .i64<|vp k init l]/\D O' K L)∨
   (xU k init l/\H (vp k init l) 0=true/\∃z E F M Q R S a b c d,v= .tuple [.agg [.int .i64 E,.int .i64 F,.int .i64 M,.int .i64 Q,.int .i64 R,.int .i64 S,a,b,c,d],J]/\KP.le K z/\eW z (Nt init l.length) a b c d/\oY init E F M Q R S/\D O' z L):=by
 refine QO B Tryz.func63 Z<|Qg 2 Z<|kp ar Z (RD (cs:=[J,J,J,J,J,J,.av,.av,.av,.av])) (fun O b1 ar=>?_);refine O4 8 Z<|bc Z (Rx Z Z Z) (fun _=>Z) (HJ B C hi hl ar) (fun O ar=>?_);refine Qi 9 Z<|aF Z (fun w=>?_) (fun w=>?_)
 ·refine Qg 2 Z (Y Z (Rw (places:=[(0,6),(6,4)]) (zero:=[J,J,J,J,J,J,.av,.av,.av,.av]) (cs:=[_,_,_,_,_,_,_,_,_,_]) Z) Z<|vQ 1 Z<|bE ar Z (RG Z Z Z ar.g0 (m:=10) Z Z (cells':=[_,_,_,_,_,_,_,_,_,_]) Z) Z (fun O ar=>?_));refine PH 5 Z ?_;exact bC Z Z ar.g0 (m:=10) U Z Z (.inl ⟨cC w,Z,ar.pop⟩)
 refine PB 6 Z<|Y Z (RC hl Z Z Z (e:=33) Z) Z ?_;have hex:=Nb (k:=k) (init:=init) (l:=l) (eqv<|bl w);have hel:=hex.len;have hei:=hex.init;refine bR Z (Rx Z Z Z) (fun _=>Z) (Po B hi hei (t:=l.length) hel ar) ?_;rintro _ O ⟨z,a,b,c,d,rfl,hle,u,ar⟩;replace hi:=hi.mono hle fun _ _ h=>h
 refine QV 3 Z<|kp ar Z (RD (cs:=[.av,.av,.av,.av])) (fun O b2 ar=>?_);refine bE ar Z (RG Z Z Z ar.g0 (m:=4) Z (af u.init.leaf.2<|af u.threads.leaf.2<|af u.from_.leaf.2<|af u.order.leaf.2 aA) (cells':=[_,_,_,_]) Z) Z (fun O ar=>?_);refine PE 10 Z<|aF Z (fun A=>?_) (fun A=>?_)
 ·exact absurd A (by decide)
 refine PB 4 Z (Y Z (RB Z ar.g0 (n:=4) (vs:=[_,_,_,_]) Z) Z (Y Z (Rw (places:=[(0,6),(6,4)]) (zero:=[J,J,J,J,J,J,.av,.av,.av,.av]) (cs:=[_,_,_,_,_,_,_,_,_,_]) Z) Z<|kp ar Z (RD (cs:=[J,J,J,J,J,J,.av,.av,.av,.av])) (fun O W ar=>?_)));refine bE ar Z (RG Z Z Z ar.g0 (m:=10) Z (af Z<|af Z<|af Z<|af Z<|af Z<|af Z<|af u.init.leaf.2<|af u.threads.leaf.2<|af u.from_.leaf.2<|af u.order.leaf.2 aA) (cells':=[_,_,_,_,_,_,_,_,_,_]) Z) Z (fun O ar=>?_);refine PL ar 5 [0] Z Z ?_;refine Y Z (a9 (v:=.slice W 0 6 (.known 6)) Z<|EN (e:=2) (n:=6) U U Z) Z ?_;refine vQ 1 Z ?_;obtain⟨O,aa,E,F,M,Q,R,S,T,ar,hm⟩:=Ik (P:=Tryz.prog) (ts:= #[22,22]) (t:=22) (ty:=2) ar hi hei Z U U;refine Y Z (Ku Z Z Z Z T) Z<|PF 4 Z<|Y Z (RB Z ar.g0 (n:=10) (vs:=[_,_,_,_,_,_,_,_,_,_]) Z) Z<|kZ ar Z (RG Z Z Z (ar.get 2 Z) (m:=10) Z (af Z<|af Z<|af Z<|af Z<|af Z<|af Z<|af u.init.leaf.2<|af u.threads.leaf.2<|af u.from_.leaf.2<|af u.order.leaf.2 aA) (cells':=[_,_,_,_,_,_,_,_,_,_]) Z) Z (fun O ar=>?_);refine Qk 4 Z ?_;exact bC Z Z (ar.get 2 Z) (m:=10) U Z Z (.inr ⟨hex,bl w,z,_,_,_,_,_,_,_,_,_,_,Z,hle,u,hm,ar.pop.pop.pop⟩)
theorem qt {P:Program} {fn:Func} {R:V->N->Prop} {t:PT V} {O:N} {j k q ty bb m e:Nat} {ro:Bool} {cells:List V} {v w:V} (u:fn.results.toList= [.cell j ty,.tmp k,.tmp q]) (h1:t.get j=some (.ptr bb 0)) (hm:O.m.get bb=some (.row cells e ro)) (z:dT P ty=some (some m)) (d:cells.length=m) (A:t.get k=some v) (h3:t.get q=some w) (B:R (.tuple [.agg cells,v,w]) O):zT P fn R .ret t O:=by
 refine⟨.inr Z,_,?_,B⟩;unfold eX;rw[u]
 have e1:fG P t O (.cell j ty)=some (V.agg cells):=by
  show(match t.get (posOf j) with
   | some (.ptr b off)=>match O.m.get b with
    | some (.row cells _ _)=>match dT P ty with
     | some (some n)=>bif Nat.ble (off+n) (dn cells) then some (V.agg<|takeN (dU cells off) n) else none
     | some none=>nth cells off
     | none=>none
    | _=>none
   | _=>none)=_
  rw[show t.get (posOf j)=some (.ptr bb 0) from h1];dsimp only;rw[hm];dsimp only;rw[z];dsimp only;rw[bN,d,nA_,show Nat.ble m m=true by rw[nE_];exact nR_ _,dp,dQ,List.drop_zero,<-d,List.take_length];rfl
 have C:fG P t O (.tmp k)=some v:=A;have E:fG P t O (.tmp q)=some w:=h3
 have:cQ (fG P t O) [.cell j ty,.tmp k,.tmp q]=some [V.agg cells,v,w]:=by
  unfold cQ;simp only[e1,C,E]
 rw[this]
theorem Kn {G:Cx} (hG:Plain G) (a5:G.fk 70=true) (ba:G.ov 106=true) {K:KP} (hgl:mF G K) {k:Nat} {l:List XC} {lv:V} (hl:bF K 2 (lr K k) l lv) {r:XM} (hinv:fz k l r) {a b c d:V} (R:eW K r.g a b c d) {S T W X x4 x5:Int} (hm:oY r.mem S T W X x4 x5) {ps:List Int} {pv:V} (hp:bF K 1 ek ps pv) (bs:ps.length<=100) {O:N} {L:Own} (ar:D O K L):
  a8 Tryz.prog G 64 [.agg [.int .i64 S,.int .i64 T,.int .i64 W,.int .i64 X,.int .i64 x4,.int .i64 x5,a,b,c,d],lv,pv] O fun v O'=>∃K1 y0 y1 y2 y3 y4 y5 a' b' c' d' u M,v= .tuple [.agg [.int .i64 y0,.int .i64 y1,.int .i64 y2,.int .i64 y3,.int .i64 y4,.int .i64 y5,a',b',c',d'],u]/\KP.le K K1/\eW K1 (dF k l (r,[]) ps).1.g a' b' c' d'/\oY (dF k l (r,[]) ps).1.mem y0 y1 y2 y3 y4 y5/\dt 1 3 ek (dF k l (r,[]) ps).2 u M/\D O' K1 (M++L):=by
 have hl0:=hl;have hgl0:=hgl;have hp0:=hp;refine QO hG Tryz.func64 Z<|Qg 2 Z<|kp ar Z (cG Z Z) (fun O b1 ar=>?_);refine kp ar Z (RD (cs:=[J,J,J,J,J,J,.av,.av,.av,.av])) (fun O b2 ar=>?_);refine PF 6 Z ?_;replace ar:D O K ([]++(b2,.row Bd 99 false)::(b1,.row (c6 S T W X x4 x5 a b c d) 99 false)::L):=ar;refine O4 6 Z (Y Z (RC hp Z Z Z (e:=3) Z) Z (PD 4 Z (bh ([8,10,11,12]++rg 15 27) (fun j t O=>∃(i:Nat) (K2:KP) (S T W X x4 x5:Int) (a b c d u:V) (M:Own),j+i=ps.length/\KP.le K K2/\fz k l (dF k l (r,[])<|ps.take i).1/\eW K2 (dF k l (r,[])<|ps.take i).1.g a b c d/\oY (dF k l (r,[])<|ps.take i).1.mem S T W X x4 x5/\(dF k l (r,[])<|ps.take i).2.length<=i/\dt 1 3 ek (dF k l (r,[])<|ps.take i).2 u M/\t.get 8=some (u)/\t.get 15=some (.int .i64 (.ofNat i))/\D O K2 (M++(b2,.row Bd 99 false)::(b1,.row (c6 S T W X x4 x5 a b c d) 99 false)::L)) (ps.length) ⟨0,K,S,T,W,X,x4,x5,a,b,c,d,.av,[],Z,KP.le_refl K,hinv,R,hm,nR_ _,.inl ⟨Z,Z,Z⟩,Z,Z,ar⟩ ?_)));clear ar;intro j3 t O aq hI;obtain⟨i,K2,S,T,W,X,x4,x5,a,b,c,d,u,M,bt,w,aa,R,hm,bv,hO,bb,am,ar⟩:=hI;obtain⟨oo,rfl⟩:=aq.q2 bb am Z;refine Qg 2 Z ?_;have hl:=hl0.mono w fun _ _ h=>h.mono w;have hgl:=hgl0.mono w;have hp:=hp0.mono w fun _ _ h=>h
 refine ky Z (az Z Z Z) (fun F=>?_) (fun F=>?_)
 ·refine Ok 10 Z ?_;obtain⟨ao,E,bo⟩:=dH F;refine Rr (e:=3) (m:=1) hp E Z Z Z Z (fun bw bq ap br aE=>?_);obtain rfl:=aE;refine Y Z (RE ar ap Z Z) Z<|O4 8 Z<|ky Z (an Z) (fun Q=>?_) (fun Q=>?_)
  ·refine PI 10 Z<|aS<|QR 4 Z ?_;have hlp:=bk F;have B:ga k l (dF k l (r,[])<|ps.take i).1 ao=none:=by unfold ga;rw[Q];rfl
   have A:dF k l (r,[]) (ps.take (i+1))=dF k l (r,[]) (ps.take i):=by rw[oD E];unfold gV;rw[B]
   refine aL ⟨j3-1,by omega,oF,i+1,K2,S,T,W,X,x4,x5,a,b,c,d,u,M,by omega,w,by rw[A];exact aa,by rw[A];exact R,by rw[A];exact hm,by rw[A];omega,by rw[A];exact hO,Z,cI<|aY oM,ar⟩
  refine QV 2 Z<|Y Z (RC hl Z Z Z (e:=33) Z) Z<|Qi 4 Z<|aF Z (fun ab=>?_) (fun ab=>?_)
  ·refine bg<|aU<|aS<|QR 4 Z ?_;have hlp:=bk F;have B:ga k l (dF k l (r,[])<|ps.take i).1 ao=none:=by unfold ga;rw[Q,ab];rfl
   have A:dF k l (r,[]) (ps.take (i+1))=dF k l (r,[]) (ps.take i):=by rw[oD E];unfold gV;rw[B]
   refine aL ⟨j3-1,by omega,oF,i+1,K2,S,T,W,X,x4,x5,a,b,c,d,u,M,by omega,w,by rw[A];exact aa,by rw[A];exact R,by rw[A];exact hm,by rw[A];omega,by rw[A];exact hO,Z,cI<|aY oM,ar⟩
  refine PB 4 Z<|Y Z (RB Z ar.bA.pop.g0 (n:=10) (vs:=[_,_,_,_,_,_,_,_,_,_]) Z) Z<|QV 2 Z ?_;obtain⟨tp,rfl⟩:=sj Q;have be:tp<l.length:=by have:=bz ab;omega
  refine bR Z (Rx Z Z Z) (fun _=>Z) (Gn hG a5 ba hgl hl aa R hm be ar) ?_;rintro _ O (⟨e,rfl,he,a0,ar⟩ | ⟨K3,r2,z0,z1,z2,z3,z4,z5,a2,b2_,c2,d2,a1,a3,rfl,C,bi,ar⟩)
  ·refine QV 3 Z<|kp ar Z (RD (cs:=[J,J,J,J,J,J,.av,.av,.av,.av])) (fun O b3 ar=>?_);refine bE ar Z (RG Z Z Z ar.g0 (m:=10) Z Z (cells':=[_,_,_,_,_,_,_,_,_,_]) Z) Z (fun O ar=>?_);refine PF 6 Z<|ky Z (az Z Z Z) (fun ac=>?_) (fun ac=>?_)
   ·exact absurd ac (by rw[a0];decide)
   refine PG 5 Z<|QR 4 Z ?_;have ar:=ar.pop;have hlp:=bk F;have B:ga k l (dF k l (r,[])<|ps.take i).1 (Int.ofNat (tp+1))=none:=by unfold ga;rw[Q,ab];simp only[cf,show(Int.ofNat (tp+1)).toNat-1=tp from Z];rw[<-he,a0];rfl
   have A:dF k l (r,[]) (ps.take (i+1))=dF k l (r,[]) (ps.take i):=by rw[oD E];unfold gV;rw[B]
   refine aL ⟨j3-1,by omega,oF,i+1,K2,S,T,W,X,x4,x5,a,b,c,d,u,M,by omega,w,by rw[A];exact aa,by rw[A];exact R,by rw[A];exact hm,by rw[A];omega,by rw[A];exact hO,Z,cI<|aY oM,ar⟩
  refine QV 3 Z<|kp ar Z (RD (cs:=[J,J,J,J,J,J,.av,.av,.av,.av])) (fun O b3 ar=>?_);refine bE ar Z (RG Z Z Z ar.g0 (m:=10) Z (af Z<|af Z<|af Z<|af Z<|af Z<|af Z<|af C.init.leaf.2<|af C.threads.leaf.2<|af C.from_.leaf.2<|af C.order.leaf.2 aA) (cells':=[_,_,_,_,_,_,_,_,_,_]) Z) Z (fun O ar=>?_);refine PF 6 Z<|ky Z (az Z Z Z) (fun ac=>?_) (fun ac=>?_)
  ·refine PF 5 Z<|Y Z (RB Z ar.g0 (n:=10) (vs:=[_,_,_,_,_,_,_,_,_,_]) Z) Z ?_;refine ei ar (.there (.dv (.there .here))) Z (RG Z Z Z ar.pop.bA.pop.g0 (m:=10) Z (af Z<|af Z<|af Z<|af Z<|af Z<|af Z<|af C.init.leaf.2<|af C.threads.leaf.2<|af C.from_.leaf.2<|af C.order.leaf.2 aA) (cells':=[_,_,_,_,_,_,_,_,_,_]) Z) Z (fun O ar=>?_);refine Qj 5 Z<|fY ar Z (cm (e:=3) (m:=1) (z:=[J]) (cs:=[_]) U U U U<|bj Z Z Z Z bO) (fun _=>Z) (fun O b4 ar=>?_);replace ar:=(ar.perm<|List.Perm.swap ..).pop;obtain⟨O,u2,M2,a4,hO2,ar⟩:=fH (P:=Tryz.prog) (ts:= #[34,34]) (t:=34) (e:=3) (l2:=[Int.ofNat (tp+1)]) hO ar (fq (xs:=[Int.ofNat (tp+1)]) (.inr ⟨Z,Z⟩) (by simp)) ek.leaf (by simp) (by simp) oM Z U U U;refine Y Z (ec Z Z Z Z U a4) Z<|QU 2 Z<|aG<|QR 4 Z ?_;have hlp:=bk F;have B:ga k l (dF k l (r,[])<|ps.take i).1 (Int.ofNat (tp+1))=some r2:=by unfold ga;rw[Q,ab];simp only[cf,show(Int.ofNat (tp+1)).toNat-1=tp from Z];rw[a3];rfl
   have A:dF k l (r,[]) (ps.take (i+1))=(r2,(dF k l (r,[])<|ps.take i).2++[Int.ofNat (tp+1)]):=by rw[oD E];unfold gV;rw[B]
   refine aL ⟨j3-1,by omega,oF,i+1,K3,z0,z1,z2,z3,z4,z5,a2,b2_,c2,d2,u2,M2,by omega,KP.le_trans w a1,by rw[A];exact(aa.step a3).1,by rw[A];exact C,by rw[A];exact bi,by rw[A,lA_];show _+1<=_;omega,by rw[A];exact hO2,Z,cI<|aY oM,ar⟩
  exact absurd ac (by decide)
 refine PE 4 Z<|PC 3 Z<|aS<|Qg 2 Z<|Y Z (RB Z ar.bA.pop.g0 (n:=10) (vs:=[_,_,_,_,_,_,_,_,_,_]) Z) Z<|vQ 1 Z<|ei ar (.dv .here) Z (RG Z Z Z ar.bA.g0 (m:=10) Z (af Z<|af Z<|af Z<|af Z<|af Z<|af Z<|af R.init.leaf.2<|af R.threads.leaf.2<|af R.from_.leaf.2<|af R.order.leaf.2 aA) (cells':=[_,_,_,_,_,_,_,_,_,_]) Z) Z (fun O ar=>?_);refine Qk 4 Z ?_;have A:dF k l (r,[]) (ps.take i)=dF k l (r,[]) ps:=Hl (bz F);rw[A] at hO R hm;exact bC Z Z ar.bA.g0 (m:=10) U Z Z ⟨K2,_,_,_,_,_,_,_,_,_,_,_,_,Z,w,R,hm,hO,ar.sub<|eO (.cons _ (.cons _ (.refl _)))⟩
def gn (init:List Int) (l:List XC):XM:=⟨init,Nt init l.length⟩
theorem gX {k:Nat} {init:List Int} {l:List XC} (h:xU k init l):fz k l (gn init l):=fz.start h.len h.init h.flat
theorem Kk {G:Cx} (S:Plain G) (T:G.fk 70=true) (W:G.ov 106=true) {K:KP} (C:mF G K) {k:Nat} {init:List Int} {vi:V} (hi:bF K 1 ek init vi) {l:List XC} {lv:V} (hl:bF K 2 (lr K k) l lv) {ps:List Int} {pv:V} (hp:bF K 1 ek ps pv) (X:ps.length<=100) {O:N} {L:Own} (ar:D O K L):
  a8 Tryz.prog G 29 [vi,lv,pv] O fun v O'=>∃E m a b c d n,v= .tuple [.agg [m,a,b,c,d],.int .i64 n,.int .i64<|vp k init l]/\KP.le K E/\(H (vp k init l) 0=true->xU k init l/\n= .ofNat (dF k l (gn init l,[]) ps).2.length/\bF E 1 ek (dF k l (gn init l,[]) ps).1.mem m/\eW E (dF k l (gn init l,[]) ps).1.g a b c d)/\(H (vp k init l) 0=false->m= .av/\a= .av/\b= .av/\c= .av/\d= .av/\n=0)/\D O' E L:=by
 refine QO S Tryz.func29 Z<|Qg 2 Z<|kp ar Z (RD (cs:=[.av,.av,.av,.av,.av])) (fun O b1 ar=>?_);refine PF 8 Z<|bR Z (Rx Z Z Z) (fun _=>Z) (Gq S C hi hl ar) ?_;rintro _ O (⟨F,rfl,ar⟩ | ⟨hex,heq,E,x0,x1,x2,x3,x4,x5,a,b,c,d,rfl,hle,M,hm,ar⟩)
 ·refine QV 3 Z<|kp ar Z (RD (cs:=[J,J,J,J,J,J,.av,.av,.av,.av])) (fun O b2 ar=>?_);refine bE ar Z (RG Z Z Z ar.g0 (m:=10) Z Z (cells':=[_,_,_,_,_,_,_,_,_,_]) Z) Z (fun O ar=>?_);refine PE 10 Z<|aF Z (fun u=>?_) (fun u=>?_)
  ·refine Qg 2 Z (Y Z (Rw (places:=[(0,1),(1,4)]) (zero:=[.av,.av,.av,.av,.av]) (cs:=[_,_,_,_,_]) Z) Z<|vQ 1 Z<|eE ar Z (RG Z Z Z ar.g1 (m:=5) Z Z (cells':=[_,_,_,_,_]) Z) Z (fun O ar=>?_));refine PH 6 Z ?_;exact qt Z Z ar.g1 (m:=5) U Z Z Z ⟨K,_,_,_,_,_,_,Z,KP.le_refl K,(fun h=>by rw[F] at h;cases h),(fun _=>⟨Z,Z,Z,Z,Z,Z⟩),ar.pop.pop⟩
  exact absurd (bl u) (by rw[F];decide)
 refine QV 3 Z<|kp ar Z (RD (cs:=[J,J,J,J,J,J,.av,.av,.av,.av])) (fun O b2 ar=>?_);refine bE ar Z (RG Z Z Z ar.g0 (m:=10) Z (af Z<|af Z<|af Z<|af Z<|af Z<|af Z<|af M.init.leaf.2<|af M.threads.leaf.2<|af M.from_.leaf.2<|af M.order.leaf.2 aA) (cells':=[_,_,_,_,_,_,_,_,_,_]) Z) Z (fun O ar=>?_);refine PE 10 Z<|aF Z (fun u=>?_) (fun u=>?_)
 ·exact absurd u (by decide)
 refine PB 4 Z<|Y Z (RB Z ar.g0 (n:=10) (vs:=[_,_,_,_,_,_,_,_,_,_]) Z) Z<|QV 2 Z<|bR Z (Rx Z Z Z) (fun _=>Z) (Kn S T W (C.mono hle) (hl.mono hle fun _ _ h=>h.mono hle) (gX hex) M hm (hp.mono hle fun _ _ h=>h) X ar) ?_;rintro _ O ⟨K2,y0,y1,y2,y3,y4,y5,a2,b2_,c2,d2,ab,ac,rfl,Q,hg2,aa,hO,ar⟩;obtain⟨K3,z,A,ar⟩:=ar.cA;have hS:=hO.gL (K:=K3) fun y hy=>A _ hy;clear A;replace hg2:=hg2.mono z
 refine QV 3 Z<|bE ar Z (RG Z Z Z ar.g0 (m:=10) Z (af Z<|af Z<|af Z<|af Z<|af Z<|af Z<|af hg2.init.leaf.2<|af hg2.threads.leaf.2<|af hg2.from_.leaf.2<|af hg2.order.leaf.2 aA) (cells':=[_,_,_,_,_,_,_,_,_,_]) Z) Z (fun O ar=>?_);refine PF 5 Z<|Y Z (RB Z ar.g0 (n:=10) (vs:=[_,_,_,_,_,_,_,_,_,_]) Z) Z ?_;have hpi:=(gX hex).si (ps:=ps) (s:=(gn init l,[]));refine bR Z (Rx Z Z Z) (fun _=>Z) (Kq S hpi.1.Ib hpi.1.mem hg2 aa ar) ?_;rintro _ O ⟨K4,mv,a3,b3_,c3,d3,rfl,B,R,w,ar⟩;replace hS:=hS.mono B fun _ _ h=>h
 refine vQ 1 Z<|Y Z (RC hS Z Z Z (e:=3) Z) Z<|eE ar Z (RG Z Z Z ar.g1 (m:=5) Z (af R.leaf.2<|af w.init.leaf.2<|af w.threads.leaf.2<|af w.from_.leaf.2<|af w.order.leaf.2 aA) (cells':=[_,_,_,_,_]) Z) Z (fun O ar=>?_);refine Qk 5 Z ?_;exact qt Z Z ar.g1 (m:=5) U Z Z Z ⟨K4,_,_,_,_,_,_,by rw[eqv heq],KP.le_trans hle<|KP.le_trans Q<|KP.le_trans z B,(fun _=>⟨hex,Z,R,w⟩),(fun h=>by rw[heq] at h;cases h),ar.pop.pop⟩
theorem AJ {α:Type} {o:Option α} {d:α} (h:(!o.isSome)=false):o=some (o.getD d):=by
 cases o with
 | none=>cases h
 | some x=>rfl
theorem CP {α:Type} {o:Option α} (h:(!o.isSome)=false):o.isSome=true:=by
 cases o with
 | none=>cases h
 | some x=>rfl
theorem Lx {α:Type} {o:Option α} (h:(!o.isSome)=true):o=none:=by
 cases o with
 | none=>rfl
 | some x=>cases h
theorem IH {k:Nat} {l:List XC} {g:XG} (h:(iP k l g).isSome=true):cd g=0:=by
 unfold iP at h;cases h1:bf (H (cd g) 0) with
 | true=>rw[h1] at h;cases h
 | false=>exact eqv (bl h1)
theorem Gm {G:Cx} (hG:Plain G) {K:KP} (aa:mF G K) {k:Nat} {l:List XC} {lv:V} (hl:bF K 2 (lr K k) l lv) {m:List Int} {mv:V} (B:bF K 1 ek m mv) {g:XG} {a b c d:V} (hg:eW K g a b c d) {O:N} {L:Own} (ar:D O K L):
  a8 Tryz.prog G 59 [lv,.agg [mv,a,b,c,d]] O fun v O'=>∃u M,v= .tuple [u,.bool (jL k l m g).isSome]/\dt 1 3 ek ((jL k l m g).getD []) u M/\D O' K (M++L):=by
 refine QO hG Tryz.func59 Z<|Qg 2 Z<|kp ar Z (cG Z Z) (fun O b1 ar=>?_);refine PL ar 8 [1] Z Z<|Y Z (RB Z ar.g0 (n:=4) (vs:=[_,_,_,_]) Z) Z<|bR Z (Rx Z Z Z) (fun _=>Z) (NT hG aa hl hg ar) ?_;rintro _ O ⟨ap,R,rfl,hO,ar⟩;refine O4 11 Z<|Y Z (dq Z) Z<|ky Z (an Z) (fun w=>?_) (fun w=>?_)
 ·refine PH 20 Z ?_;have z:jL k l m g=none:=by unfold jL;rw[Lx w]
  exact cR Z Z Z ⟨.av,[],by rw[z];rfl,by rw[z];exact .inl ⟨Z,Z,Z⟩,ar.bA.pop⟩
 refine Y Z (Ry 0 Z) Z<|Y Z (Rz Z ar.bA.g0 Z) Z<|Y Z (RC B Z Z Z (e:=2) Z) Z<|QY ar 2 [1,0] Z Z<|Y Z (Rz Z ar.bA.g0 Z) Z<|Y Z (RC hg.init Z Z Z (e:=2) Z) Z<|Qi 4 Z<|aF Z (fun C=>?_) (fun C=>?_)
 ·refine Qh 8 Z ?_;have hsg:=AJ (d:=[]) w;have z:jL k l m g=none:=by unfold jL;rw[hsg];dsimp only;rw[show bf (H (.ofNat m.length) (.ofNat g.init.length))=true from C];rfl
  exact cR Z Z Z ⟨.av,[],by rw[z];rfl,by rw[z];exact .inl ⟨Z,Z,Z⟩,ar.bA.pop⟩
 refine O2 5 Z ?_;have hck:=IH (CP w);have ab:∀r∈g.order,r.length<=1000000:=fun r hr=>by have:=jA hck r hr;omega
 refine Y Z (Ry 0 Z) Z (Y Z (Rz Z ar.bA.g0 Z) Z (Y Z (RC B Z Z Z (e:=2) Z) Z (PD 4 Z (bh ([4,5,8,9]++rg 32 12) (fun j t O=>∃(i:Nat),j+i=m.length/\uP g m 0=uP g (m.drop i) i/\t.get 32=some (.int .i64 (.ofNat i))/\D O K (R++(b1,.row [mv,a,b,c,d] 44 false)::L)) (m.length) ⟨0,Z,Z,Z,ar⟩ ?_))));clear ar;intro j5 t O aq hI;obtain⟨i,aE,E,S,ar⟩:=hI;obtain⟨oo,rfl⟩:=aq.q1 S Z;refine Qg 2 Z<|ky Z (az Z Z Z) (fun F=>?_) (fun F=>?_)
 ·refine Ok 11 Z ?_;obtain⟨T,A,ac⟩:=dH F;refine Rr (e:=2) (m:=1) B A Z Z Z Z (fun a0 am W ao X=>?_);obtain rfl:=X;refine Y Z (RE ar W Z Z) Z<|PL ar 8 [1] Z Z<|Y Z (RB Z ar.bA.g0 (n:=4) (vs:=[_,_,_,_]) Z) Z<|vQ 1 Z<|bc Z (Rx Z Z Z) (fun _=>Z) (NX hG hg ab _ ar) (fun O ar=>?_);refine Qi 3 Z<|aF Z (fun Q=>?_) (fun Q=>?_)
  ·refine QT 7 Z<|aJ<|ay<|bD<|aJ<|ay (?_);have hsg:=AJ (d:=[]) w;have z:jL k l m g=none:=by unfold jL;rw[hsg];dsimp only;rw[show bf (H (.ofNat m.length) (.ofNat g.init.length))=false from C,cf,E,bX A];unfold uP;rw[show bf (H T<|iR g (.ofNat i))=true from Q];rfl
   exact cR Z Z Z ⟨.av,[],by rw[z];rfl,by rw[z];exact .inl ⟨Z,Z,Z⟩,ar.bA.pop⟩
  refine aH<|aG<|QR 4 Z<|aL ⟨j5-1,by omega,oF,i+1,by omega,(by rw[E,bX A];show(bif _ then _ else _)=_;rw[show bf (H T<|iR g (.ofNat i))=false from Q];rfl),cI<|aY (by have:=B.bL;omega),ar⟩
 refine PE 4 Z<|PC 3 Z<|aS<|QT 8 Z ?_;have hsg:=AJ (d:=[]) w;have z:jL k l m g=iP k l g:=by rw[hsg];unfold jL;rw[hsg];dsimp only;rw[show bf (H (.ofNat m.length) (.ofNat g.init.length))=false from C,cf,E,List.drop_eq_nil_iff.2<|bz F];rfl
 exact cR Z Z Z ⟨_,R,by rw[z,CP w],by rw[z];exact hO,ar.sub<|eO (.cons _ (.refl _))⟩
theorem QH {G:Cx} (z:Plain G) {K:KP} (u:mF G K) {k:Nat} {l:List XC} {lv:V} (hl:bF K 2 (lr K k) l lv) {m:List Int} {mv:V} (w:bF K 1 ek m mv) {g:XG} {a b c d:V} (A:eW K g a b c d) {O:N} {L:Own} (ar:D O K L):
  a8 Tryz.prog G 23 [lv,.agg [mv,a,b,c,d]] O fun v O'=>v= .bool (OL k l m g)/\D O' K L:=by
 refine QO z Tryz.func23 Z<|Qg 2 Z<|kp ar Z (cG Z Z) (fun O b1 ar=>?_);refine PF 6 Z<|Y Z (RB Z ar.g0 (n:=5) (vs:=[_,_,_,_,_]) Z) Z<|bR Z (Rx Z Z Z) (fun _=>Z) (Gm z u hl w A ar) ?_;rintro _ O ⟨aa,ab,rfl,hO,ar⟩;refine Qk 14 Z ?_;exact aB Z Z ⟨Z,ar.bA.pop⟩
theorem N4 {G:Cx} (C:Plain G) {K:KP}:∀(k:Nat) (x:XE) (vs:List V),jd K k x vs->∀(left:Int) (O:N) (L:Own),D O K L->a8 Tryz.prog G 72 [.agg vs,.int .i64 left] O fun v O'=>v= .int .i64 (B4 k x left)/\D O' K L:=by
 intro k;induction k with
 | zero=>intro x vs h;cases x;exact h.elim
 | succ k ih=>
 intro x vs h left O L ar;obtain⟨op,num,name,kids⟩:=x;obtain⟨v,rfl,hk⟩:=h;refine QO C Tryz.func72 Z<|Qg 2 Z<|kp ar Z (cG Z Z) (fun O b1 ar=>?_);refine PL ar 9 [2,0] Z Z<|Y Z (mD Z Z Z U Z) Z<|O3 12 Z ?_;obtain⟨LL1,ar,hLL1⟩:=ar.named;refine bh ([1,5]++rg 13 18) (fun j t O=>∃(i:Nat) (m:Int),j+i=kids.length/\uG (B4 k) kids (Mn name left)=uG (B4 k) (kids.drop i) m/\t.get 1=some (.int .i64 m)/\t.get 5=some (.int .i64 (.ofNat i))/\D O K LL1) (kids.length) ⟨0,_,Z,Z,Z,Z,ar⟩ ?_;clear ar;intro E t O aq F;obtain⟨i,m,hj,hh,A,B,ar⟩:=F;subst hLL1;obtain⟨oo,rfl⟩:=aq.q2 A B Z;refine PJ ar 6 [3,0] Z Z<|Y Z (RC hk Z Z Z (e:=82) Z) Z<|vQ 1 Z<|ky Z (an Z) (fun u=>?_) (fun u=>?_)
 ·refine Qi 5 Z<|aF Z (fun w=>?_) (fun w=>?_)
  ·refine O1 4 Z<|QX ar 4 [3,0] Z Z ?_;obtain⟨ao,b,aa⟩:=dH u;refine Rr (e:=82) (m:=4) hk b Z Z Z Z (fun ap ab z ac d=>?_);obtain⟨aE,a0,a1,a2,rfl,am⟩:=d.shape;refine Y Z (RF ar z Z Z) Z<|vQ 1 Z<|bc Z (Rx Z Z Z) (fun _=>Z) (ih _ _ d _ _ _ ar) (fun O ar=>?_);refine QU 2 Z<|aG<|QR 5 Z<|aL ⟨E-1,by omega,oF,i+1,_,by omega,hh.trans<|Ea b<|cC w,Z,cI<|aY (by have:=hk.bL;omega),ar⟩
  refine PC 3 Z<|aS<|QT 7 Z ?_;exact aB Z Z ⟨cJ (by rw[G1<|bl w] at hh;rw[<-hh];rfl),ar.pop⟩
 refine PI 8 Z<|aW<|aS<|QT 7 Z ?_;exact aB Z Z ⟨cJ (by rw[G2<|bz u] at hh;rw[<-hh];rfl),ar.pop⟩
theorem L6 {G:Cx} (b:Plain G) {K:KP} {k:Nat} {x:XE} {vs:List V} {O:N} {L:Own} (ar:D O K L) (h:jd K k x vs) (most:Int):a8 Tryz.prog G 44 [.agg vs,.int .i64 most] O fun v O'=>v= .bool (Ei k x most)/\D O' K L:=by
 obtain⟨o0,n0,s0,v0,rfl,hk⟩:=h.shape;refine QO b Tryz.func44 Z<|Qg 2 Z<|kp ar Z (cG Z Z) (fun O b1 ar=>?_);refine PF 5 Z<|Y Z (RB Z ar.g0 (n:=4) (vs:=[_,_,_,_]) Z) Z<|vQ 1 Z<|bc Z (Rx Z Z Z) (fun _=>Z) (N4 b _ _ _ h _ _ _ ar) (fun O ar=>?_);refine Qk 5 Z ?_;exact aB Z Z ⟨Z,ar.pop⟩
theorem C5 {G:Cx} (hG:Plain G) {K:KP} {k:Nat} {x:XC} {vs:List V} {O:N} {L:Own} (ar:D O K L) (h:lr K k x vs) (most:Int):a8 Tryz.prog G 11 [.agg vs,.int .i64 most] O fun v O'=>v= .bool (sa k most x)/\D O' K L:=by
 have h':=h;obtain⟨v0,rfl,hk⟩:=h';refine QO hG Tryz.func11 Z<|Qg 2 Z<|kp ar Z (cG Z Z) (fun O b1 ar=>?_);refine O6 ar 8 [1,0] Z Z<|Y Z (RC hk Z Z Z (e:=79) Z) Z<|Qi 4 Z<|aF Z (fun d=>?_) (fun d=>?_)
 ·refine Qh 7 Z ?_;exact aB Z Z ⟨cB (by unfold sa;rw[d];rfl),ar.pop⟩
 refine O1 9 Z ?_;obtain⟨LL1,ar,hLL1⟩:=ar.named;refine bh ([4,5,6]++rg 12 37) (fun j t O=>∃(i:Nat),j+i=x.ins.length/\(x.ins.take i).all (wR k)=true/\t.get 5=some (.int .i64 (.ofNat i))/\D O K LL1) (x.ins.length) ⟨0,Z,Z,Z,ar⟩ ?_;clear ar;intro j4 t O aq hI;obtain⟨i,hj,ha,a0,ar⟩:=hI;subst hLL1;obtain⟨oo,rfl⟩:=aq.q1 a0 Z;refine PJ ar 6 [1,0] Z Z<|Y Z (RC hk Z Z Z (e:=79) Z) Z<|Qi 3 Z<|aF Z (fun B=>?_) (fun B=>?_)
 ·refine Oi 5 Z<|Qg 2 Z<|QY ar 3 [1,0] Z Z ?_;obtain⟨C,b,a2⟩:=dH B;refine Rr (e:=79) (m:=6) hk b Z Z Z Z (fun bs a3 M a4 Q=>?_);have hr22':=Q;obtain⟨bt,rfl,z⟩:=hr22';refine bJ M Z Z Z (k:=5) U (lb Z) (fun _=>Z) (fun bv R=>?_);refine Y Z (RE ar R Z Z) Z<|Y Z (RC z Z Z Z (e:=82) Z) Z<|Qi 3 Z<|aF Z (fun w=>?_) (fun w=>?_)
  ·refine QT 6 Z<|ay<|aJ<|ay<|bD<|aJ<|ay (?_);exact aB Z Z ⟨cB (by unfold sa;rw[d,lV b (by unfold wR;rw[w];rfl)];rfl),ar.pop⟩
  refine PB 5 Z<|PD 3 Z ?_;obtain⟨LL2,ar,hLL2⟩:=ar.named;refine bh ([4,6]++rg 27 22) (fun j t O=>∃(S:Nat),j+S=C.exprs.length/\(C.exprs.take S).all (fun e=>Ei k e 60)=true/\t.get 6=some (.int .i64 (.ofNat S))/\D O K LL2) (C.exprs.length) ⟨0,Z,Z,Z,ar⟩ ?_;clear ar;intro j9 t O aq hI;obtain⟨S,bw,T,a1,ar⟩:=hI;subst hLL2;obtain⟨oo,rfl⟩:=aq.q1 a1 Z;refine PJ ar 7 [1,0] Z Z<|Rr (e:=79) (m:=6) hk b Z Z Z Z (fun b0 a5 W ba X=>?_);have hr31':=X;obtain⟨b2,rfl,aa⟩:=hr31';refine bJ W Z Z Z (k:=5) U (lb Z) (fun _=>Z) (fun b3 ab=>?_);refine Y Z (RE ar ab Z Z) Z<|Y Z (RC aa Z Z Z (e:=82) Z) Z<|Qi 3 Z<|aF Z (fun E=>?_) (fun E=>?_)
  ·refine Oj 6 Z<|QY ar 3 [1,0] Z Z<|Rr (e:=79) (m:=6) hk b Z Z Z Z (fun b4 bb ac be am=>?_);have hr41':=am;obtain⟨b5,rfl,ao⟩:=hr41';refine bJ ac Z Z Z (k:=5) U (lb Z) (fun _=>Z) (fun b6 ap=>?_);refine Y Z (RE ar ap Z Z) Z<|vQ 1 Z ?_;obtain⟨b7,u,bi⟩:=dH E;refine Rr (e:=82) (m:=4) ao u Z Z Z Z (fun b8 bo aE bq A=>?_);obtain⟨b9,ca,cb,cc,rfl,br⟩:=A.shape;refine Y Z (RF ar aE Z Z) Z<|bc Z (Rx Z Z Z) (fun _=>Z) (L6 hG ar A _) (fun O ar=>?_);refine Y Z (dq Z) Z<|Qi 2 Z<|aF Z (fun F=>?_) (fun F=>?_)
   ·refine QT 6 Z<|aJ<|ay<|bD<|aJ<|aJ<|ay<|bD<|aJ<|ay (?_);exact aB Z Z ⟨cB (by unfold sa;rw[d,lV b (by unfold wR;rw[w,lV u (by simpa using F)];rfl)];rfl),ar.pop⟩
   refine aH<|aG<|QR 5 Z<|aL ⟨j9-1,by omega,oF,S+1,by omega,il T u (by simpa using F),cI<|aY (by have:=z.bL;omega),ar⟩
  refine PC 3 Z<|aS<|aG<|QR 5 Z<|aL ⟨j4-1,by omega,oF,i+1,by omega,il ha b (by unfold wR;rw[w,fE T<|bz E];rfl),cI<|aY (by have:=hk.bL;omega),ar⟩
 refine PC 3 Z<|aS<|QT 6 Z ?_;exact aB Z Z ⟨cB (by unfold sa;rw[d,fE ha<|bz B];rfl),ar.pop⟩
theorem AR {G:Cx} (E:Plain G) {K:KP} {k:Nat} {l:List XC} {v:V} {O:N} {L:Own} (ar:D O K L) (h:bF K 2 (lr K k) l v) (most:Int):a8 Tryz.prog G 19 [v,.int .i64 most] O fun v O'=>v= .bool (sV k most l)/\D O' K L:=by
 refine QO E Tryz.func19 Z<|Qf 11 Z<|aM ?_;obtain⟨LL1,ar,hLL1⟩:=ar.named;refine bh (rg 4 19) (fun j t O=>∃(i:Nat),j+i=l.length/\(l.take i).all (sa k most)=true/\t.get 5=some (.int .i64 (.ofNat i))/\D O K LL1) (l.length) ⟨0,Z,Z,Z,ar⟩ ?_;clear ar;intro F t O aq M;obtain⟨i,hj,B,C,ar⟩:=M;subst hLL1;obtain⟨oo,rfl⟩:=aq.q1 C Z;refine Pz 5 Z<|Y Z (RC h Z Z Z (e:=33) Z) Z<|vQ 1 Z<|ky Z (an Z) (fun u=>?_) (fun u=>?_)
 ·refine Qi 5 Z<|aF Z (fun w=>?_) (fun w=>?_)
  ·refine Oj 8 Z ?_;obtain⟨ao,b,aa⟩:=dH u;refine Rr (e:=33) (m:=2) h b Z Z Z Z (fun ap ab A ac d=>?_);have hr18':=d;obtain⟨aE,rfl,am⟩:=hr18';refine Y Z (RF ar A Z Z) Z<|vQ 1 Z<|bc Z (Rx Z Z Z) (fun _=>Z) (C5 E ar d _) (fun O ar=>?_);refine Y Z (dq Z) Z<|Qi 2 Z<|aF Z (fun z=>?_) (fun z=>?_)
   ·refine QT 6 Z<|aJ<|ay<|bD<|aJ<|ay (?_);exact aB Z Z ⟨cB (by unfold sV;rw[KJ b (bk w) (by simpa using z)];rfl),ar⟩
   refine aH<|aG<|QR 5 Z<|aL ⟨F-1,by omega,oF,i+1,by omega,il B b (by simpa using z),cI<|aY (by have:=h.bL;omega),ar⟩
  refine PC 3 Z<|aS<|Qg 3 Z<|Y Z (RC h Z Z Z (e:=33) Z) Z<|Qk 5 Z ?_;exact aB Z Z ⟨cB (by unfold sV;rw[Bs B<|bz w];rfl),ar⟩
 refine PI 8 Z<|aW<|aS<|Qg 3 Z<|Y Z (RC h Z Z Z (e:=33) Z) Z<|Qk 5 Z ?_;exact aB Z Z ⟨cB (by unfold sV;rw[fE (i:=i) (by rw[List.take_take];exact Bs B<|Nat.min_le_left _ _) (by rw[lT_];have:=bz u;omega)];rfl),ar⟩
theorem Pn {G:Cx} (hG:Plain G) {K:KP} {k:Nat} {l:List XC} {lv:V} (hl:bF K 2 (lr K k) l lv) (q:Int) {O:N} {L:Own} (ar:D O K L):
  a8 Tryz.prog G 62 [lv,.int .i64 q] O fun v O'=>∃b,v= .bool b/\D O' K L:=by
 refine QO hG Tryz.func62 Z<|Qf 16 Z<|aM ?_;obtain⟨LL1,ar,hLL1⟩:=ar.named;refine bh (rg 5 52) (fun j t O=>∃(i:Nat) (m:Int),j+i=l.length/\t.get 5=some (.int .i64 m)/\t.get 6=some (.int .i64 (.ofNat i))/\D O K LL1) (l.length) ⟨0,0,Z,Z,Z,ar⟩ ?_;clear ar;intro j3 t O aq hI;obtain⟨i,m,b5,B,a2,ar⟩:=hI;subst hLL1;obtain⟨oo,rfl⟩:=aq.q2 B a2 Z;refine Pz 5 Z<|Y Z (RC hl Z Z Z (e:=33) Z) Z<|vQ 1 Z<|ky Z (an Z) (fun z=>?_) (fun z=>?_)
 ·refine Qi 5 Z<|aF Z (fun a3=>?_) (fun a3=>?_)
  ·refine Oj 6 Z ?_;obtain⟨E,u,be⟩:=dH z;refine PD 4 Z ?_;obtain⟨LL2,ar,hLL2⟩:=ar.named;refine bh ([5,7]++rg 18 39) (fun j t O=>∃(C:Nat) (m2:Int),j+C=E.ins.length/\t.get 5=some (.int .i64 m2)/\t.get 7=some (.int .i64 (.ofNat C))/\D O K LL2) (E.ins.length) ⟨0,m,Z,Z,Z,ar⟩ ?_;clear ar;intro j6 t O aq hI;obtain⟨C,m2,b6,B,a4,ar⟩:=hI;subst hLL2;obtain⟨oo,rfl⟩:=aq.q2 B a4 Z;refine Pz 6 Z<|Rr (e:=33) (m:=2) hl u Z Z Z Z (fun b7 bi F bo M=>?_);have hr21':=M;obtain⟨b8,rfl,d⟩:=hr21';refine bJ F Z Z Z (k:=1) U (lb Z) (fun _=>Z) (fun b9 Q=>?_);refine Y Z (RE ar Q Z Z) Z<|Y Z (RC d Z Z Z (e:=79) Z) Z<|vQ 1 Z<|ky Z (an Z) (fun w=>?_) (fun w=>?_)
   ·refine Qi 6 Z<|aF Z (fun a5=>?_) (fun a5=>?_)
    ·refine Oj 8 Z<|Rr (e:=33) (m:=2) hl u Z Z Z Z (fun ca bq R br S=>?_);have hr35':=S;obtain⟨cb,rfl,T⟩:=hr35';refine bJ R Z Z Z (k:=1) U (lb Z) (fun _=>Z) (fun cc W=>?_);refine Y Z (RE ar W Z Z) Z<|vQ 1 Z ?_;obtain⟨ce,A,bs⟩:=dH w;refine Rr (e:=79) (m:=6) T A Z Z Z Z (fun ch bt X bv aa=>?_);have hr39':=aa;obtain⟨ci,rfl,bw⟩:=hr39';refine bJ X Z Z Z (k:=0) U (lb Z) (fun _=>Z) (fun ck ab=>?_);refine Y Z (RE ar ab Z Z) Z<|vQ 1 Z<|ky Z (an Z) (fun ba=>?_) (fun ba=>?_)
     ·refine QV 2 Z<|Rr (e:=33) (m:=2) hl u Z Z Z Z (fun cl b0 ac b1 am=>?_);have hr46':=am;obtain⟨cn,rfl,ao⟩:=hr46';refine bJ ac Z Z Z (k:=1) U (lb Z) (fun _=>Z) (fun co ap=>?_);refine Y Z (RE ar ap Z Z) Z<|vQ 1 Z<|Rr (e:=79) (m:=6) ao A Z Z Z Z (fun cp b2 aE b3 a0=>?_);have hr50':=a0;obtain⟨cr,rfl,b4⟩:=hr50';refine bJ aE Z Z Z (k:=0) U (lb Z) (fun _=>Z) (fun cs a1=>?_);refine Y Z (RE ar a1 Z Z) Z<|Qi 4 Z<|aF Z (fun bb=>?_) (fun bb=>?_)
      ·refine QR 5 Z (aG (QR 5 Z (aL ⟨j6-1,by omega,oF,C+1,_,by have:=bk w;omega,Z,cI<|aY (by have:=d.bL;omega),ar⟩)))
      refine aH (aG (QR 5 Z (aL ⟨j6-1,by omega,oF,C+1,_,by have:=bk w;omega,Z,cI<|aY (by have:=d.bL;omega),ar⟩)))
     refine PG 16 Z (QR 5 Z (aL ⟨j6-1,by omega,oF,C+1,_,by have:=bk w;omega,Z,cI<|aY (by have:=d.bL;omega),ar⟩))
    refine PC 3 Z (aS (aG (QR 5 Z (aL ⟨j3-1,by omega,oF,i+1,_,by have:=bk z;omega,Z,cI<|aY (by have:=hl.bL;omega),ar⟩))))
   refine PI 9 Z (aW (aS (aG (QR 5 Z (aL ⟨j3-1,by omega,oF,i+1,_,by have:=bk z;omega,Z,cI<|aY (by have:=hl.bL;omega),ar⟩)))))
  refine PC 3 Z<|aS<|QT 9 Z ?_;exact aB Z Z ⟨_,Z,ar⟩
 refine PI 8 Z<|aW<|aS<|QT 9 Z ?_;exact aB Z Z ⟨_,Z,ar⟩
theorem Ko {G:Cx} (d:Plain G) {K:KP} {m1 m2:List Int} {E F:V} (u:bF K 1 ek m1 E) (w:bF K 1 ek m2 F) {g1 M:XG} {Q z R S T A W X:V} (B:eW K g1 Q z R S) (C:eW K M T A W X) {O:N} {L:Own} (ar:D O K L):
  a8 Tryz.prog G 22 [.agg [E,Q,z,R,S],.agg [F,T,A,W,X]] O fun v O'=>v= .bool (bif bY m1 m2 then bY g1 M else false)/\D O' K L:=by
 refine QO d Tryz.func22 Z<|Qg 2 Z<|kp ar Z (cG Z Z) (fun O z ar=>?_);refine kp ar Z (cG Z Z) (fun O A ar=>?_);refine PL ar 9 [0,1,0,0] Z Z<|bc Z (Rx Z Z Z) (fun _=>Z) (Gl d ar u w) (fun O ar=>?_);refine ky Z (an Z) (fun b=>?_) (fun b=>?_)
 ·refine Y Z (Ry 1 Z) Z<|Y Z (RB Z ar.g1 (n:=4) (vs:=[_,_,_,_]) Z) Z<|Y Z (Ry 1 Z) Z<|Y Z (RB Z ar.g0 (n:=4) (vs:=[_,_,_,_]) Z) Z<|bc Z (Rx Z Z Z) (fun _=>Z) (L3 d ar B C) (fun O ar=>?_);refine Qk 5 Z ?_;exact aB Z Z ⟨cB (by rw[b];rfl),ar.pop.pop⟩
 refine Qk 10 Z ?_;exact aB Z Z ⟨cB (by rw[b];rfl),ar.pop.pop⟩
end Go.Ev
namespace Go.Ev
variable [Env]
def drain (k:Nat) (l:List XC) (t:Nat):Nat->XM×List Int->XM×List Int
 | 0,s=>s
 | f+1,s=>match ga k l s.1 (.ofNat (t+1)) with | some r=>drain k l t f (r,s.2++[.ofNat (t+1)]) | none=>s
def ic (k:Nat) (l:List XC):Nat->XM×List Int->XM×List Int
 | 0,s=>s
 | i+1,s=>drain k l i 15 (ic k l i s)
def r6 (k:Nat) (l:List XC) (s:XM×List Int) (ps:List Int):XM×List Int:=ic k l l.length (dF k l s ps)
def vt (r:XM) (t:Nat):Nat:=((r.g.threads[t]?).getD []).length
section
variable {k:Nat} {l:List XC} {t f:Nat} {s:XM×List Int} {r r':XM} {p:Int}
theorem l5 (h:ga k l s.1 (.ofNat (t+1))=none):drain k l t f s=s:=by
 cases f with
 | zero=>rfl
 | succ f=>unfold drain;rw[h]
theorem jV (h:ga k l s.1 (.ofNat (t+1))=some r) (hf:1<=f):drain k l t f s=drain k l t (f-1) (r,s.2++[.ofNat (t+1)]):=by
 cases f with
 | zero=>omega
 | succ f=>rw[drain,h];rfl
theorem CF (h:ga k l r (.ofNat (t+1))=some r'):vt r t<14/\vt r' t=vt r t+1:=by
 obtain⟨t',b,hl,d⟩:=nU h;obtain rfl:t=t':=by have:=iJ_ b;omega
 obtain⟨c,row,p,hi⟩:=qd d;obtain⟨row2,h1,u⟩:=vA hi.add;have h3:=(nu hi.err).2.2.1;have e1:vt r t=row.length:=by unfold vt;rw[hi.rowAt];rfl
 obtain rfl:row=row2:=Option.some.inj (hi.rowAt.symm.trans h1);refine⟨by rw[e1];exact h3,?_⟩;rw[e1];unfold vt;rw[u,List.getElem?_set_self (gA.1 h1).1];simp
theorem fz.drain:∀{f:Nat} {s:XM×List Int},fz k l s.1->fz k l (Go.Ev.drain k l t f s).1/\(Go.Ev.drain k l t f s).1.g.init=s.1.g.init/\(Go.Ev.drain k l t f s).2.length<=s.2.length+f
 | 0,s,h=>⟨h,Z,nR_ _⟩
 | f+1,s,h=>by
  cases b:Go.Ev.ga k l s.1 (.ofNat (t+1)) with
  | none=>rw[l5 b];exact⟨h,Z,by omega⟩
  | some r=>
   rw[jV b oM];obtain⟨h1,d⟩:=h.ga b;obtain⟨h3,h4,h5⟩:=fz.drain (f:=f) (s:=(r,s.2++[.ofNat (t+1)])) h1;rw[Nat.add_sub_cancel];refine⟨h3,by rw[h4,d],?_⟩;rw[lA_] at h5;simp only[List.length_singleton] at h5;omega
theorem fz.ic:∀{i:Nat} {s:XM×List Int},fz k l s.1->fz k l (Go.Ev.ic k l i s).1/\(Go.Ev.ic k l i s).1.g.init=s.1.g.init/\(Go.Ev.ic k l i s).2.length<=s.2.length+15*i
 | 0,s,h=>⟨h,Z,by show s.2.length<=_;omega⟩
 | i+1,s,h=>by
  obtain⟨h1,b,h3⟩:=fz.ic (i:=i) h;obtain⟨h4,h5,h6⟩:=fz.drain (t:=i) (f:=15) h1;exact⟨h4,h5.trans b,by show(Go.Ev.drain k l i 15<|Go.Ev.ic k l i s).2.length<=_;omega⟩
theorem xh:∀{ps:List Int} {s:XM×List Int},(dF k l s ps).2.length<=s.2.length+ps.length
 | [],s=>by show s.2.length<=_;omega
 | p::ps,s=>by
  have h:=xh (ps:=ps) (s:=gV k l s p);show(dF k l (gV k l s p) ps).2.length<=_
  have:(gV k l s p).2.length<=s.2.length+1:=by
   unfold gV;cases ga k l s.1 p with
   | none=>show s.2.length<=_;omega
   | some r=>show(s.2++[p]).length<=_;rw[lA_];exact nR_ _
  rw[List.length_cons];omega
end
end Go.Ev
namespace Go.Ev
variable [Env]
open Go.Proofs
set_option maxRecDepth 4000
set_option maxHeartbeats 8000000
theorem E6 {G:Cx} (d:Plain G) {K:KP} {k:Nat} {l:List XC} {lv:V} (hl:bF K 2 (lr K k) l lv) (q:Int) {O:N} {L:Own} (ar:D O K L):
  a8 Tryz.prog G 27 [lv,.int .i64 q] O fun v O'=>(∃b,v= .bool b/\(b=true->sV k 60 l=true))/\D O' K L:=by
 refine QO d Tryz.func27 Z<|Qg 8 Z<|gw Z (Rx Z Z Z) (fun _=>Z) (AR d ar hl 60) (fun u O ar=>?_) (fun u O ar=>?_)
 ·refine QV 3 Z<|bR Z (Rx Z Z Z) (fun _=>Z) (Pn d hl q ar) ?_;rintro _ O ⟨aa,rfl,ar⟩;refine Qk 5 Z ?_;exact aB Z Z ⟨⟨_,Z,fun _=>u⟩,ar⟩
 refine Qk 9 Z ?_;exact aB Z Z ⟨⟨_,Z,fun e=>by cases e⟩,ar⟩
theorem C4 {G:Cx} (hG:Plain G) (aE:G.fk 70=true) (a0:G.ov 106=true) {K:KP} (ac:mF G K) {k:Nat} {init:List Int} {vi:V} (hi:bF K 1 ek init vi) {l:List XC} {lv:V} (hl:bF K 2 (lr K k) l lv) {ps:List Int} {pv:V} (hp:bF K 1 ek ps pv) (bt:ps.length<=100) {O:N} {L:Own} (ar:D O K L):
  a8 Tryz.prog G 30 [vi,lv,pv] O fun v O'=>∃K1 m a b c d u,v= .tuple [.agg [m,a,b,c,d],u,.int .i64<|vp k init l]/\KP.le K K1/\(H (vp k init l) 0=true->xU k init l/\bF K1 1 ek (r6 k l (gn init l,[]) ps).2 u/\bF K1 1 ek (r6 k l (gn init l,[]) ps).1.mem m/\eW K1 (r6 k l (gn init l,[]) ps).1.g a b c d)/\(H (vp k init l) 0=false->m= .av/\a= .av/\b= .av/\c= .av/\d= .av/\u= .av)/\D O' K1 L:=by
 refine QO hG Tryz.func30 Z<|Qg 2 Z<|kp ar Z (RD (cs:=[.av,.av,.av,.av,.av])) (fun O b1 ar=>?_);refine PF 8 Z<|bR Z (Rx Z Z Z) (fun _=>Z) (Gq hG ac hi hl ar) ?_;rintro _ O (⟨E,rfl,ar⟩ | ⟨hex,heq,K1,x0,x1,x2,x3,x4,x5,a,b,c,d,rfl,hle,hg,hm,ar⟩)
 ·refine QV 3 Z<|kp ar Z (RD (cs:=[J,J,J,J,J,J,.av,.av,.av,.av])) (fun O b2 ar=>?_);refine bE ar Z (RG Z Z Z ar.g0 (m:=10) Z Z (cells':=[_,_,_,_,_,_,_,_,_,_]) Z) Z (fun O ar=>?_);refine PE 10 Z<|aF Z (fun F=>?_) (fun F=>?_)
  ·refine Qg 2 Z (Y Z (Rw (places:=[(0,1),(1,4)]) (zero:=[.av,.av,.av,.av,.av]) (cs:=[_,_,_,_,_]) Z) Z<|vQ 1 Z<|eE ar Z (RG Z Z Z ar.g1 (m:=5) Z Z (cells':=[_,_,_,_,_]) Z) Z (fun O ar=>?_));refine PH 6 Z ?_;exact qt Z Z ar.g1 (m:=5) U Z Z Z ⟨K,_,_,_,_,_,_,Z,KP.le_refl K,(fun h=>by rw[E] at h;cases h),(fun _=>⟨Z,Z,Z,Z,Z,Z⟩),ar.pop.pop⟩
  exact absurd (bl F) (by rw[E];decide)
 refine QV 3 Z<|kp ar Z (RD (cs:=[J,J,J,J,J,J,.av,.av,.av,.av])) (fun O b2 ar=>?_);refine bE ar Z (RG Z Z Z ar.g0 (m:=10) Z (af Z<|af Z<|af Z<|af Z<|af Z<|af Z<|af hg.init.leaf.2<|af hg.threads.leaf.2<|af hg.from_.leaf.2<|af hg.order.leaf.2 aA) (cells':=[_,_,_,_,_,_,_,_,_,_]) Z) Z (fun O ar=>?_);refine PE 10 Z<|aF Z (fun F=>?_) (fun F=>?_)
 ·exact absurd F (by decide)
 refine PB 4 Z<|Y Z (RB Z ar.g0 (n:=10) (vs:=[_,_,_,_,_,_,_,_,_,_]) Z) Z<|QV 2 Z<|bR Z (Rx Z Z Z) (fun _=>Z) (Kn hG aE a0 (ac.mono hle) (hl.mono hle fun _ _ h=>h.mono hle) (gX hex) hg hm (hp.mono hle fun _ _ h=>h) bt ar) ?_;rintro _ O ⟨K2,y0,y1,y2,y3,y4,y5,a2,b2_,c2,d2,bv,bw,rfl,a1,Q,b0,hO,ar⟩;refine QV 3 Z<|ei ar (.dv .here) Z (RG Z Z Z ar.bA.g0 (m:=10) Z (af Z<|af Z<|af Z<|af Z<|af Z<|af Z<|af Q.init.leaf.2<|af Q.threads.leaf.2<|af Q.from_.leaf.2<|af Q.order.leaf.2 aA) (cells':=[_,_,_,_,_,_,_,_,_,_]) Z) Z (fun O ar=>?_);refine O4 6 Z ?_;have hS0i:fz k l (dF k l (gn init l,[]) ps).1:=((gX hex).si (ps:=ps) (s:=(gn init l,[]))).1;have hS0l:(dF k l (gn init l,[]) ps).2.length<=ps.length:=by have:=xh (k:=k) (l:=l) (ps:=ps) (s:=(gn init l,[]));simpa using this
 have cb:l.length<=4:=hex.len;have hleA:=KP.le_trans hle a1;refine vQ 1 Z (Y Z (RC hl Z Z Z (e:=33) Z) Z (PD 4 Z (bh (rg 11 4++rg 34 20) (fun j t O=>∃(i:Nat) (K2b:KP) (x0 x1 x2 x3 x4 x5:Int) (a b c d u:V) (M:Own),j+i=l.length/\KP.le K2 K2b/\fz k l (ic k l i<|dF k l (gn init l,[]) ps).1/\eW K2b (ic k l i<|dF k l (gn init l,[]) ps).1.g a b c d/\oY (ic k l i<|dF k l (gn init l,[]) ps).1.mem x0 x1 x2 x3 x4 x5/\dt 1 3 ek (ic k l i<|dF k l (gn init l,[]) ps).2 u M/\t.get 11=some (u)/\t.get 34=some (.int .i64 (.ofNat i))/\D O K2b (M++(b2,.row (c6 x0 x1 x2 x3 x4 x5 a b c d) 99 false)::(b1,.row [.av,.av,.av,.av,.av] 44 false)::L)) (l.length) ⟨0,K2,y0,y1,y2,y3,y4,y5,a2,b2_,c2,d2,bv,bw,Z,KP.le_refl K2,hS0i,Q,b0,hO,Z,Z,ar⟩ ?_)));clear ar;intro j6 t O aq hI;obtain⟨i,K2b,x0,x1,x2,x3,x4,x5,a,b,c,d,u,M,cc,A,am,hg,hm,hO,R,ba,ar⟩:=hI;obtain⟨oo,rfl⟩:=aq.q2 R ba Z;refine Qg 2 Z<|ky Z (az Z Z Z) (fun aa=>?_) (fun aa=>?_)
 ·refine Ok 11 Z ?_;have ao:(ic k l i<|dF k l (gn init l,[]) ps).2.length+15<=200:=by have:=(fz.ic (i:=i) hS0i).2.2;have:=bk aa;omega
  refine PD 4 Z (bh ([11,13,14]++rg 37 16) (fun j t O=>∃(s:XM×List Int) (K3:KP) (z0 z1 z2 z3 z4 z5:Int) (a3 b3_ c3 d3 u3:V) (M3:Own),fz k l s.1/\KP.le K2b K3/\drain k l i 15 (ic k l i<|dF k l (gn init l,[]) ps)=drain k l i j s/\15<=vt s.1 i+j/\s.2.length+j<=200/\eW K3 s.1.g a3 b3_ c3 d3/\oY s.1.mem z0 z1 z2 z3 z4 z5/\dt 1 3 ek s.2 u3 M3/\t.get 11=some (u3)/\D O K3 (M3++(b2,.row (c6 z0 z1 z2 z3 z4 z5 a3 b3_ c3 d3) 99 false)::(b1,.row [.av,.av,.av,.av,.av] 44 false)::L)) (15) ⟨ic k l i<|dF k l (gn init l,[]) ps,K2b,x0,x1,x2,x3,x4,x5,a,b,c,d,u,M,am,KP.le_refl K2b,Z,by omega,ao,hg,hm,hO,Z,ar⟩ ?_);clear ar;intro j8 t O aq hI;obtain⟨s,K3,z0,z1,z2,z3,z4,z5,a3,b3_,c3,d3,u3,M3,S,B,ab,b5,b6,bb,be,hO3,R,ar⟩:=hI;obtain⟨oo,rfl⟩:=aq.q1 R Z;refine aM<|Qg 2 Z ?_;have hl3:=hl.mono (KP.le_trans hleA<|KP.le_trans A B) fun _ _ h=>h.mono (KP.le_trans hleA<|KP.le_trans A B);have hgl3:=ac.mono (KP.le_trans hleA<|KP.le_trans A B)
  refine Y Z (RB Z ar.bA.g0 (n:=10) (vs:=[_,_,_,_,_,_,_,_,_,_]) Z) Z (QV 2 Z (Y Z (az (v:=.int .i64 (.ofNat (i+1))) Z Z<|cI<|aY oM) Z ?_));have b7:i<l.length:=bk aa;refine bR Z (Rx Z Z Z) (fun _=>Z) (Gn hG aE a0 hgl3 hl3 S bb be b7 ar) ?_;rintro _ O (⟨e,rfl,he,E,ar⟩ | ⟨K5,r2,w0,w1,w2,w3,w4,w5,a5,b5_,c5,d5,bi,bo,rfl,w,b8,ar⟩)
  ·refine QV 3 Z<|kp ar Z (RD (cs:=[J,J,J,J,J,J,.av,.av,.av,.av])) (fun O b3 ar=>?_);refine bE ar Z (RG Z Z Z ar.g0 (m:=10) Z Z (cells':=[_,_,_,_,_,_,_,_,_,_]) Z) Z (fun O ar=>?_);refine PE 10 Z<|aF Z (fun T=>?_) (fun T=>?_)
   ·refine bg<|aU<|lz Z<|aW<|aS<|aG<|QR 4 Z ?_;have ar:=ar.pop;have C:ga k l s.1 (.ofNat (i+1))=none:=by unfold ga;rw[show cq (.ofNat (i+1)) 1=false from Pv.2 (by show(1:Int)<=((i+1:Nat):Int);omega),show cq (.ofNat l.length) (.ofNat (i+1))=false from Pv.2 (by show((i+1:Nat):Int)<=((l.length:Nat):Int);omega)];simp only[cf,show(Int.ofNat (i+1)).toNat-1=i from Z];rw[<-he,E];rfl
    have hF:ic k l (i+1) (dF k l (gn init l,[]) ps)=s:=by show drain k l i 15 (ic k l i<|dF k l (gn init l,[]) ps)=s;rw[ab];exact l5 C
    refine aL ⟨j6-1,by omega,oF,i+1,K3,z0,z1,z2,z3,z4,z5,a3,b3_,c3,d3,u3,M3,by omega,KP.le_trans A B,by rw[hF];exact S,by rw[hF];exact bb,by rw[hF];exact be,by rw[hF];exact hO3,Z,cI<|aY oM,ar⟩
   exact absurd (bl T) (by rw[E];decide)
  refine QV 3 Z<|kp ar Z (RD (cs:=[J,J,J,J,J,J,.av,.av,.av,.av])) (fun O b3 ar=>?_);refine bE ar Z (RG Z Z Z ar.g0 (m:=10) Z (af Z<|af Z<|af Z<|af Z<|af Z<|af Z<|af w.init.leaf.2<|af w.threads.leaf.2<|af w.from_.leaf.2<|af w.order.leaf.2 aA) (cells':=[_,_,_,_,_,_,_,_,_,_]) Z) Z (fun O ar=>?_);refine PE 10 Z<|aF Z (fun T=>?_) (fun T=>?_)
  ·exact absurd T (by decide)
  refine PB 4 Z<|Y Z (RB Z ar.g0 (n:=10) (vs:=[_,_,_,_,_,_,_,_,_,_]) Z) Z ?_;refine ei ar (.there (.dv .here)) Z (RG Z Z Z ar.pop.bA.g0 (m:=10) Z (af Z<|af Z<|af Z<|af Z<|af Z<|af Z<|af w.init.leaf.2<|af w.threads.leaf.2<|af w.from_.leaf.2<|af w.order.leaf.2 aA) (cells':=[_,_,_,_,_,_,_,_,_,_]) Z) Z (fun O ar=>?_);refine Qj 5 Z (Y Z (az (v:=.int .i64 (.ofNat (i+1))) Z Z<|cI<|aY oM) Z<|fY ar Z (cm (e:=3) (m:=1) (z:=[J]) (cs:=[_]) U U U U<|bj Z Z Z Z bO) (fun _=>Z) (fun O b4 ar=>?_));replace ar:=(ar.perm<|List.Perm.swap ..).pop;obtain⟨O,u5,M5,bq,hO5,ar⟩:=fH (P:=Tryz.prog) (ts:= #[34,34]) (t:=34) (e:=3) (l2:=[Int.ofNat (i+1)]) hO3 ar (fq (xs:=[Int.ofNat (i+1)]) (.inr ⟨Z,Z⟩) (by simp)) ek.leaf (by simp) (by simp) oM Z U U U;refine Y Z (ec Z Z Z Z U bq) Z<|QU 2 Z<|aG ?_;have C:ga k l s.1 (.ofNat (i+1))=some r2:=by unfold ga;rw[show cq (.ofNat (i+1)) 1=false from Pv.2 (by show(1:Int)<=((i+1:Nat):Int);omega),show cq (.ofNat l.length) (.ofNat (i+1))=false from Pv.2 (by show((i+1:Nat):Int)<=((l.length:Nat):Int);omega)];simp only[cf,show(Int.ofNat (i+1)).toNat-1=i from Z];rw[bo];rfl
  obtain⟨ce,ch⟩:=CF C;have b9:1<=j8:=by omega
  refine aL ⟨j8-1,by omega,oF,(r2,s.2++[.ofNat (i+1)]),K5,w0,w1,w2,w3,w4,w5,a5,b5_,c5,d5,u5,M5,(S.step bo).1,KP.le_trans B bi,ab.trans<|jV C b9,(show 15<=vt r2 i+(j8-1) by omega),(by show(s.2++[_]).length+(j8-1)<=200;rw[lA_];simp only[List.length_singleton];omega),w,b8,hO5,Z,ar⟩
 refine PE 4 Z<|PC 3 Z<|aS<|Qg 2 Z<|Y Z (RB Z ar.bA.g0 (n:=10) (vs:=[_,_,_,_,_,_,_,_,_,_]) Z) Z ?_;have ca:i=l.length:=by have:=bz aa;omega
 subst ca;refine bR Z (Rx Z Z Z) (fun _=>Z) (Kq hG am.Ib am.mem hg hm ar) ?_;rintro _ O ⟨K4,mv,a4,b4_,c4,d4,rfl,br,bs,W,ar⟩;refine vQ 1 Z<|ei ar (.dv (.there .here)) Z (RG Z Z Z ar.bA.pop.g0 (m:=5) Z (af bs.leaf.2<|af W.init.leaf.2<|af W.threads.leaf.2<|af W.from_.leaf.2<|af W.order.leaf.2 aA) (cells':=[_,_,_,_,_]) Z) Z (fun O ar=>?_);refine Qk 5 Z ?_;obtain⟨K6,X,ap,ar⟩:=ar.cA;have hS:=hO.gL (K:=K6) fun y hy=>ap _ hy
 exact qt Z Z ar.g1 (m:=5) U Z Z Z ⟨K6,_,_,_,_,_,_,by rw[eqv heq],KP.le_trans hleA<|KP.le_trans A<|KP.le_trans br X,(fun _=>⟨hex,hS,bs.mono X fun _ _ h=>h,W.mono X⟩),(fun h=>by rw[heq] at h;cases h),ar.pop.pop⟩
def B0 (k:Nat) (l:List XC) (m:List Int) (g:XG):Bool:=bif OL k l m g then((iP k l g).getD []).all (fun e=>bf (H e 0)) else false
theorem E0 {G:Cx} (C:Plain G) {K:KP} {l:List Int} {v:V} (h:bF K 1 ek l v) (y:Int) {O:N} {L:Own} (ar:D O K L):
  a8 Tryz.prog G 98 [v,.int .i64 y] O fun v O'=>v= .int .i64 (fB (fun x=>H y x) l 0)/\D O' K L:=by
 refine QO C Tryz.func98 Z<|Pz 9 Z<|Y Z (RC h Z Z Z (e:=3) Z) Z<|PD 4 Z ?_;obtain⟨LL1,ar,hLL1⟩:=ar.named;refine bh ([4,5]++rg 8 11) (fun j t O=>∃(i:Nat),j+i=l.length/\fB (fun x=>H y x) l 0=fB (fun x=>H y x) (l.drop i) i/\t.get 8=some (.int .i64 (.ofNat i))/\D O K LL1) (l.length) ⟨0,Z,Z,Z,ar⟩ ?_;clear ar;intro E t O aq F;obtain⟨i,hj,he,A,ar⟩:=F;subst hLL1;obtain⟨oo,rfl⟩:=aq.q1 A Z;refine Qf 6 Z<|aF Z (fun B=>?_) (fun B=>?_)
 ·refine Oj 15 Z ?_;obtain⟨u,b,aa⟩:=dH B;refine Rr (e:=3) (m:=1) h b Z Z Z Z (fun am ab w ac z=>?_);obtain rfl:=z;refine Y Z (RE ar w Z Z) Z<|Qi 3 Z<|aF Z (fun d=>?_) (fun d=>?_)
  ·refine QT 7 Z<|aJ<|ay<|bD<|aJ<|ay (?_);exact aB Z Z ⟨cJ (by symm;rw[he,bX b];show(bif H y u then _ else _)=_;rw[d];rfl),ar⟩
  refine aH<|aG<|QR 4 Z<|aL ⟨E-1,by omega,oF,i+1,by omega,by rw[he,bX b];show(bif H y u then _ else _)=_;rw[d];rfl,cI<|aY (by have:=h.bL;omega),ar⟩
 refine PC 3 Z<|aS<|QT 6 Z ?_;exact aB Z Z ⟨cJ (by symm;rw[he,ej<|bz B];rfl),ar⟩
theorem yj {G:Cx} (b:Plain G) {K:KP} {l:List Int} {v:V} (h:bF K 1 ek l v) (y:Int) {O:N} {L:Own} (ar:D O K L):
  a8 Tryz.prog G 61 [v,.int .i64 y] O fun v O'=>v= .bool (l.any fun x=>H y x)/\D O' K L:=by
 refine QO b Tryz.func61 Z<|Qg 9 Z<|bc Z (Rx Z Z Z) (fun _=>Z) (E0 b h y ar) (fun O ar=>?_);refine Qk 5 Z ?_;exact aB Z Z ⟨cB<|sR _ _,ar⟩
theorem Fi:∀(l:List Int),(l.all fun e=>bf (H e 0))= !(l.any fun x=>H 0 x)
 | []=>rfl
 | x::l=>by
  rw[List.all_cons,List.any_cons,Fi l,show H 0 x=H x 0 from by rw[dK,dK];exact decide_eq_decide.2 eq_comm];cases H x 0<;>rfl
theorem B1 {k:Nat} {l:List XC} {m:List Int} {g:XG}:B0 k l m g=(bif (jL k l m g).isSome then !(((jL k l m g).getD []).any fun x=>H 0 x) else false):=by
 unfold B0 OL;cases h:jL k l m g with
 | none=>rfl
 | some e=>
  have hf:iP k l g=some e:=by
   unfold jL at h;cases hf:iP k l g with
   | none=>rw[hf] at h;cases h
   | some e'=>
    rw[hf] at h;dsimp only at h;revert h;cases bf (H (.ofNat m.length) (.ofNat g.init.length))<;>cases uP g m 0<;>intro h<;>first | exact h | cases h
  rw[hf];exact Fi e
theorem NU {G:Cx} (w:Plain G) {K:KP} (z:mF G K) {k:Nat} {l:List XC} {lv:V} (hl:bF K 2 (lr K k) l lv) {m:List Int} {mv:V} (A:bF K 1 ek m mv) {g:XG} {a b c d:V} (B:eW K g a b c d) {O:N} {L:Own} (ar:D O K L):
  a8 Tryz.prog G 25 [lv,.agg [mv,a,b,c,d]] O fun v O'=>v= .bool (B0 k l m g)/\D O' K L:=by
 refine QO w Tryz.func25 Z<|Qg 2 Z<|kp ar Z (cG Z Z) (fun O b1 ar=>?_);refine PF 6 Z<|Y Z (RB Z ar.g0 (n:=5) (vs:=[_,_,_,_,_]) Z) Z<|bR Z (Rx Z Z Z) (fun _=>Z) (Gm w z hl A B ar) ?_;rintro _ O ⟨aa,ab,rfl,C,ar⟩;replace ar:=ar.keeps;have hE:=C.Cb (K:=K);refine PF 10 Z<|ky Z (an Z) (fun u=>?_) (fun u=>?_)
 ·refine vQ 1 Z<|bc Z (Rx Z Z Z) (fun _=>Z) (yj w hE 0 ar) (fun O ar=>?_);refine Y Z (dq Z) Z<|Qk 5 Z ?_;exact aB Z Z ⟨cB (by rw[B1,show(jL k l m g).isSome=true from u];rfl),(ar.pop).weaken<|KP.dI _ _⟩
 refine Qk 8 Z ?_;exact aB Z Z ⟨cB (by rw[B1,show(jL k l m g).isSome=false from u];rfl),(ar.pop).weaken<|KP.dI _ _⟩
theorem NQ (n:Int):vR n= .ofNat (wK n):=by
 grind [vR,wK,bf]
theorem Pm (c:XC) (i:Nat):wA c i<=1:=by
 unfold wA;cases c.ins[i]? with
 | none=>exact Nat.zero_le _
 | some x=>
  grind [wK]
theorem IY {w:Nat->Nat} {nx:Nat->List Nat} (hw:∀i,w i<=1):∀(k i:Nat),G3 w nx k i<=k
 | 0,_=>Nat.zero_le _
 | k+1,i=>Nat.add_le_add (vJ (Nat.zero_le _) fun t _=>IY hw k t) (hw i)
theorem FB {w:Nat->Nat} {nx:Nat->List Nat} {n:Nat} {out:List Nat} (b:fD nx n out) {i:Nat} (hi:i∈out):G3 w nx out.length i=vq (G3 w nx out.length) (nx i) 0+w i:=by
 obtain⟨q,hq⟩:=gO_ hi;have hl:=(gA.1 hq).1;rw[Ca b q i hq _ hl,<-Ca b q i hq (out.length+1) oM];rfl
theorem FQ {F:Nat->Nat} {fr:List Int}:∀{l:List Int} {m:Nat},(∀t∈l,∃tn:Nat,t= .ofNat tn/\fr[tn]?=some (.ofNat<|F tn))->vr fr l (.ofNat m)= .ofNat (vq F (l.map Int.toNat) m)
 | [],_,_=>rfl
 | t::l,m,h=>by
  obtain⟨tn,rfl,hf⟩:=h t (.head _);show vr fr l (bif cq (.ofNat m) ((fr[tn]?).getD 0) then(fr[tn]?).getD 0 else .ofNat m)= .ofNat (vq F (l.map Int.toNat)<|max m<|F tn);rw[hf,Option.getD_some,Lv];exact FQ fun t b=>h t (.tail _ b)
theorem yX {c:XC} {a:Nat}:∀{l:List Nat} {fr:List Int},iT c (l++[a]) fr=sX c (iT c l fr) a
 | [],_=>rfl
 | _::l,_=>yX (l:=l)
theorem yY {k:Nat} {c:XC} (z:eS k c) {out:List Nat} (hl:out.length<=16001) (b:fD (dw c) c.ins.length out):∀q,q<=out.length->
  ∀p,p<q->∀i,out[p]?=some i->(iT c (out.take q)<|List.replicate c.ins.length 0)[i]?=some (.ofNat<|G3 (wA c) (dw c) out.length i)
 | 0,_,p,hp,_,_=>absurd hp (nZ_ _)
 | q+1,hq,p,hp,i,hi=>by
  have ih:=yY z hl b q oM;obtain⟨a,d⟩:=cT (show q<out.length by omega);have han:=b.lt a (gB_ d);obtain⟨x,hx⟩:=cT han;rw[List.take_add_one,d,show(some a).toList= [a] from Z,yX];have hlen:(iT c (out.take q)<|List.replicate c.ins.length 0).length=c.ins.length:=by rw[yZ,List.length_replicate]
  have aa:wr .i64 (Int.add (vR x.kind)<|vr (iT c (out.take q)<|List.replicate c.ins.length 0) (ft x a) 0)= .ofNat (G3 (wA c) (dw c) out.length a):=by
   rw[show vr (iT c (out.take q)<|List.replicate c.ins.length 0) (ft x a) 0=_ from FQ (F:=G3 (wA c) (dw c) out.length) (m:=0) fun t A=>by
    obtain⟨g,B⟩:=gO_ A;obtain⟨tn,rfl,_,u⟩:=tV z hx B;obtain⟨p',ac,am⟩:=b.ua q a d tn (gB_ u)
    grind]
   have C:dw c a=(ft x a).map Int.toNat:=by unfold dw;rw[hx]
   have hw:wA c a=wK x.kind:=by unfold wA;rw[hx]
   have hfx:=FB (w:=wA c) b (gB_ d);rw[<-C,NQ,<-hw];show wr .i64 (.ofNat (wA c a+vq (G3 (wA c) (dw c) out.length) (dw c a) 0))=_
   grind [IY,Pm,N9]
  have ab:sX c (iT c (out.take q)<|List.replicate c.ins.length 0) a=(iT c (out.take q)<|List.replicate c.ins.length 0).set a (.ofNat<|G3 (wA c) (dw c) out.length a):=by unfold sX;simp_all
  grind
end Go.Ev
namespace Go.Ev
variable [Env]
theorem EG {g:XG} (d:dD g) {tm:Nat} {row:List bW} {frow:List bT} {e:bW} {fr:bT} {pl:Int} (hx:g.threads[tm]?=some row) (hf:g.from_[tm]?=some frow) (hlen:row.length<14)
  (he:bm e (.ofNat g.init.length)=true) (B:cF (eo g tm e fr pl row frow) ⟨.ofNat (tm+1),.ofNat row.length⟩ fr=true) (hp:cW g e pl=false):dD (eo g tm e fr pl row frow):=by
 have hold:∀id w,cZ g id=some w->cZ (eo g tm e fr pl row frow) id=some w:=fun id w h=>wo hx (g':=eo g tm e fr pl row frow) Z Z h
 have z:tm<g.threads.length:=(gA.1 hx).1;have C:tm<g.from_.length:=(gA.1 hf).1;obtain⟨A,u⟩:=d.rows tm row frow hx hf;refine⟨?_,d.init,fun i l h=>?_,?_,?_,fun i l f h1 b=>?_,?_⟩
 ·show(g.threads.set tm _).length<=4;rw[List.length_set];exact d.threads
 ·have h:(g.threads.set tm (row++[e]))[i]?=some l:=h;rw[List.getElem?_set] at h
  by_cases hi:tm=i
  ·rw[if_pos hi,if_pos z] at h;cases h;rw[lA_];show row.length+1<=14;omega
  rw[if_neg hi] at h;exact d.short i l h
 ·show(g.from_.set tm _).length=(g.threads.set tm _).length;rw[List.length_set,List.length_set];exact d.from_
 ·show(s7 g.order e _ pl).length=g.init.length;rw[Cq];exact d.order
 ·have h1:(g.threads.set tm (row++[e]))[i]?=some l:=h1;have b:(g.from_.set tm (frow++[fr]))[i]?=some f:=b;rw[List.getElem?_set] at h1 b
  by_cases hi:tm=i
  ·subst hi;rw[if_pos Z,if_pos z] at h1;rw[if_pos Z,if_pos C] at b;cases h1;cases b;refine⟨by rw[lA_,lA_,A];rfl,fun j e' q h3 h4=>?_⟩
   by_cases hj:j<row.length
   ·rw[gL_ hj] at h3;rw[gL_ oM] at h4;exact Cm hold Z (by rw[gk,hx];exact h3)<|u j e' q h3 h4
   have E:j=row.length:=by
    have:=(gA.1 h3).1;rw[lA_] at this;simp only[List.length_singleton] at this;omega
   subst E;rw[gR_<|nR_ _,Nat.sub_self] at h3;rw[gR_ oM,A,Nat.sub_self] at h4;cases h3;cases h4;exact Jp he B
  rw[if_neg hi] at h1 b;obtain⟨h5,F⟩:=d.rows i l f h1 b;exact⟨h5,fun j e' q h3 h4=>Cm hold Z (by rw[gk,h1];exact h3) (F j e' q h3 h4)⟩
 show(fu (g.threads.set tm (row++[e])) 0).Perm (ij (s7 g.order e _ pl) 0);refine(zt hx).trans ?_;rw[nA_];refine(List.Perm.append_left _ d.perm).trans (Hk fun hw=>?_).symm;obtain⟨ln,r,h1,b,_⟩:=og hp hw;exact⟨ln,r,h1,b⟩
def vk (k:Nat) (l:List XC) (r0:XM) (s:XM×List Int):Prop:=dF k l (r0,[]) s.2=s
section
variable {k:Nat} {l:List XC} {r0:XM} {s:XM×List Int}
theorem vk.base:vk k l r0 (r0,[]):=rfl
theorem Ew {s:XM×List Int} {ps:List Int} {p:Int}:dF k l s (ps++[p])=gV k l (dF k l s ps) p:=by unfold dF;rw[List.foldl_append];rfl
theorem vk.one (h:vk k l r0 s) {p:Int} {r:XM} (b:ga k l s.1 p=some r):vk k l r0 (r,s.2++[p]):=by
 unfold vk at h⊢;rw[Ew,h];unfold gV;rw[b]
theorem vk.gV (h:vk k l r0 s) (p:Int):vk k l r0 (gV k l s p):=by
 unfold Go.Ev.gV;cases b:ga k l s.1 p with
 | none=>exact h
 | some r=>exact h.one b
theorem vk.si:∀{ps:List Int} {s:XM×List Int},vk k l r0 s->vk k l r0 (dF k l s ps)
 | [],_,h=>h
 | p::ps,s,h=>vk.si (ps:=ps) (h.gV p)
theorem vk.drain {t:Nat}:∀{f:Nat} {s:XM×List Int},vk k l r0 s->vk k l r0 (drain k l t f s)
 | 0,_,h=>h
 | f+1,s,h=>by
  cases b:ga k l s.1 (.ofNat (t+1)) with
  | none=>rw[l5 b];exact h
  | some r=>rw[jV b oM];exact vk.drain (f:=f)<|h.one b
theorem vk.ic:∀{i:Nat} {s:XM×List Int},vk k l r0 s->vk k l r0 (ic k l i s)
 | 0,_,h=>h
 | i+1,_,h=>vk.drain (vk.ic (i:=i) h)
theorem J5 {r r':XM} {p:Int} (h:ga k l r p=some r'):iK r'.g.threads=iK r.g.threads+1:=by
 obtain⟨t,rfl,_,b⟩:=nU h;obtain⟨c,row,pl,hi⟩:=qd b;obtain⟨aa,h1,d⟩:=vA hi.add;rw[d,su h1]
def xT (s:XM×List Int):Prop:=s.2.length=iK s.1.g.threads
theorem xT.one (h:xT s) {p:Int} {r:XM} (b:ga k l s.1 p=some r):xT (r,s.2++[p]):=by
 unfold xT at h⊢;rw[J5 b,<-h,lA_];rfl
theorem xT.si:∀{ps:List Int} {s:XM×List Int},xT s->xT (dF k l s ps)
 | [],_,h=>h
 | p::ps,s,h=>by
  refine xT.si (ps:=ps) (s:=Go.Ev.gV k l s p) ?_;unfold Go.Ev.gV;cases b:ga k l s.1 p with
  | none=>exact h
  | some r=>exact h.one b
theorem xT.drain {t:Nat}:∀{f:Nat} {s:XM×List Int},xT s->xT (drain k l t f s)
 | 0,_,h=>h
 | f+1,s,h=>by
  cases b:ga k l s.1 (.ofNat (t+1)) with
  | none=>rw[l5 b];exact h
  | some r=>rw[jV b oM];exact xT.drain (f:=f)<|h.one b
theorem xT.ic:∀{i:Nat} {s:XM×List Int},xT s->xT (ic k l i s)
 | 0,_,h=>h
 | i+1,_,h=>xT.drain (xT.ic (i:=i) h)
theorem CV {ls:List (List bW)} (h:∀l∈ls,l.length<=14):iK ls<=14*ls.length:=by
 induction ls with
 | nil=>exact nR_ _
 | cons l ls ih=>
  rw[jb,List.length_cons];have:=ih fun x hx=>h x (mC_ _ hx)
  have:=h l (mS_ ..);omega
end
abbrev mG (t k:Nat):bT:=⟨.ofNat (t+1),.ofNat k⟩
structure Rk (g:XG) (τ:bT->Nat) (N_:Nat):Prop where
 Pu:∀x:Int,τ ⟨0,x⟩=0
 pos:∀(t k:Nat) (row:List bW) (e:bW),g.threads[t]?=some row->row[k]?=some e->1<=τ (mG t k)/\τ (mG t k)<=N_
 po:∀(t j k:Nat) (row:List bW) (e:bW),j<k->g.threads[t]?=some row->row[k]?=some e->τ (mG t j)<τ (mG t k)
 rf:∀(t k:Nat) (row:List bW) (e:bW) (frow:List bT) (q:bT),g.threads[t]?=some row->row[k]?=some e->cD e=true->g.from_[t]?=some frow->frow[k]?=some q->τ q<τ (mG t k)
 src:∀(t k:Nat) (row:List bW) (e:bW) (frow:List bT) (q:bT),g.threads[t]?=some row->row[k]?=some e->cD e=true->g.from_[t]?=some frow->frow[k]?=some q->q.cH=0∨∃(s j:Nat) (l:List bW) (w:bW),q=mG s j/\g.threads[s]?=some l/\l[j]?=some w
 mem:∀(ln:Nat) (r:List bT) (j:Nat) (b:bT),g.order[ln]?=some r->r[j]?=some b->∃(t k:Nat) (row:List bW) (e:bW),b=mG t k/\g.threads[t]?=some row/\row[k]?=some e
 co:∀(ln:Nat) (r:List bT) (i j:Nat) (a b:bT),g.order[ln]?=some r->r[i]?=some a->r[j]?=some b->i<j->τ a<τ b
 fr:∀(t k:Nat) (row:List bW) (e:bW) (frow:List bT) (q:bT) (ln:Nat) (r:List bT) (j:Nat) (b:bT),g.threads[t]?=some row->row[k]?=some e->cD e=true->g.from_[t]?=some frow->frow[k]?=some q->e.loc= .ofNat ln->g.order[ln]?=some r->r[j]?=some b->(∀i,r[i]?=some q->i<j)->b≠mG t k->τ (mG t k)<τ b
 up:∀(t k:Nat) (row:List bW) (e:bW) (frow:List bT) (q:bT) (ln:Nat) (r:List bT),g.threads[t]?=some row->row[k]?=some e->H e.kind 3=true->g.from_[t]?=some frow->frow[k]?=some q->e.loc= .ofNat ln->g.order[ln]?=some r->∃j,r[j]?=some (mG t k)/\((j=0/\q=⟨0,.ofNat ln⟩)∨∃i,j=i+1/\r[i]?=some q)
theorem Ad {t k t' k':Nat} (h:mG t k=mG t' k'):t=t'/\k=k':=⟨by have:=iJ_ (congrArg bT.cH h);omega,iJ_<|congrArg bT.index h⟩
def MK (ln:Nat) (r:List bT) (q:bT):Prop:=(r= []/\q=⟨0,.ofNat ln⟩)∨∃r0,r=r0++[q]
open Classical in
theorem Rk.grow {g:XG} (hR:dD g) {τ:bT->Nat} {N_ tm:Nat} {row:List bW} {frow:List bT} {e:bW} {fr:bT} {pl:Int} (h:Rk g τ N_) (hx:g.threads[tm]?=some row) (hf:g.from_[tm]?=some frow)
  (L:cD e=true->∃(ln:Nat) (r:List bT),e.loc= .ofNat ln/\g.order[ln]?=some r/\MK ln r fr) (aq:bd e=true->∃(ln:Nat) (r:List bT),e.loc= .ofNat ln/\g.order[ln]?=some r/\pl= .ofNat (r.length+1)):
  Rk (eo g tm e fr pl row frow) (fun x=>if x=mG tm row.length then N_+1 else τ x) (N_+1):=by
 have W:tm<g.threads.length:=(gA.1 hx).1;have ab:tm<g.from_.length:=(gA.1 hf).1;obtain⟨ac,_⟩:=hR.rows tm row frow hx hf
 have ev:∀{t k:Nat} {l:List bW} {w:bW},(g.threads.set tm (row++[e]))[t]?=some l->l[k]?=some w->(∃C,g.threads[t]?=some C/\C[k]?=some w/\mG t k≠mG tm row.length)∨(t=tm/\k=row.length/\w=e):=by
  intro t k l w h1 d;rw[List.getElem?_set] at h1
  by_cases M:tm=t
  ·subst M;rw[if_pos Z,if_pos W] at h1;cases h1
   by_cases hk:k<row.length
   ·rw[gL_ hk] at d;exact .inl ⟨row,hx,d,fun he=>by have:=(Ad he).2;omega⟩
   have X:k=row.length:=by
    have:=(gA.1 d).1;rw[lA_] at this;simp only[List.length_singleton] at this;omega
   subst X;rw[gR_<|nR_ _,Nat.sub_self] at d;cases d;exact .inr ⟨Z,Z,Z⟩
  rw[if_neg M] at h1;exact .inl ⟨l,h1,d,fun he=>M (Ad he).1.symm⟩
 have fo:∀{t k:Nat} {f:List bT} {q:bT},(g.from_.set tm (frow++[fr]))[t]?=some f->f[k]?=some q->mG t k≠mG tm row.length->∃G,g.from_[t]?=some G/\G[k]?=some q:=by
  intro t k f q h1 d z;rw[List.getElem?_set] at h1
  by_cases M:tm=t
  ·subst M;rw[if_pos Z,if_pos ab] at h1;cases h1
   by_cases hk:k<frow.length
   ·rw[gL_ hk] at d;exact⟨frow,hf,d⟩
   have X:k=frow.length:=by
    have:=(gA.1 d).1;rw[lA_] at this;simp only[List.length_singleton] at this;omega
   exact absurd (by rw[X,ac]) z
  rw[if_neg M] at h1;exact⟨f,h1,d⟩
 have fn:∀{f:List bT} {q:bT},(g.from_.set tm (frow++[fr]))[tm]?=some f->f[row.length]?=some q->q=fr:=by
  intro f q h1 d;rw[List.getElem?_set,if_pos Z,if_pos ab] at h1;cases h1;rw[gR_ oM,ac,Nat.sub_self] at d;cases d;rfl
 have OW:∀{ln:Nat} {r:List bT},(s7 g.order e (mG tm row.length) pl)[ln]?=some r->∃u,g.order[ln]?=some u/\((r=u/\¬(bd e=true/\e.loc.toNat=ln))∨(r=u++[mG tm row.length]/\bd e=true/\e.loc= .ofNat ln)):=by
  intro ln r h1
  by_cases hw:bd e=true/\e.loc.toNat=ln
  ·obtain⟨ln',u,d,h3,h4⟩:=aq hw.1;have:ln'=ln:=by have:=hw.2;rw[d] at this;exact this
   subst this;have hlt:=(gA.1 h3).1;unfold s7 at h1;rw[hw.1,d] at h1;simp only[cond_true,show(Int.ofNat ln').toNat=ln' from Z,h3] at h1;rw[List.getElem?_set_self hlt] at h1;rw[h4] at h1;rw[show(Int.ofNat (u.length+1)).toNat-1=u.length from Z,show(some u).getD []=u from Z,List.take_length,List.drop_length] at h1;exact⟨u,h3,.inr ⟨(Option.some.inj h1).symm,hw.1,d⟩⟩
  rw[Am fun hh he=>hw ⟨hh,he⟩] at h1;exact⟨r,h1,.inl ⟨Z,hw⟩⟩
 have told:∀{t k:Nat} {l:List bW} {w:bW},g.threads[t]?=some l->l[k]?=some w->mG t k≠mG tm row.length:=by
  intro t k l w h1 d he;obtain⟨rfl,rfl⟩:=Ad he;rw[hx] at h1;cases h1;rw[gN_<|nR_ _] at d;cases d
 have oldr:∀{ln:Nat} {u:List bT} {j:Nat} {b:bT},g.order[ln]?=some u->u[j]?=some b->b≠mG tm row.length/\τ b<=N_:=by
  intro ln u j b h1 d;obtain⟨t,k,l,w,rfl,h3,h4⟩:=h.mem ln u j b h1 d;exact⟨told h3 h4,(h.pos t k l w h3 h4).2⟩
 have frold:cD e=true->fr≠mG tm row.length/\τ fr<=N_:=by
  intro T;obtain⟨ln,r,_,d,h3⟩:=L T;rcases h3 with ⟨_,rfl⟩ | ⟨u,rfl⟩
  ·exact⟨fun he=>by have:=congrArg bT.cH he;simp at this;omega,by rw[h.Pu];omega⟩
  exact oldr (j:=u.length) d (by rw[gR_<|nR_ _,Nat.sub_self];rfl)
 have new:∀x,x≠mG tm row.length->(if x=mG tm row.length then N_+1 else τ x)=τ x:=fun x hx=>if_neg hx
 have newI:(if mG tm row.length=mG tm row.length then N_+1 else τ (mG tm row.length))=N_+1:=if_pos Z;have am:∀x:Int,(⟨0,x⟩:bT)≠mG tm row.length:=fun x he=>by have:=congrArg bT.cH he;simp at this;omega
 have atl:∀{u:List bT} {j:Nat} {b:bT},(u++[mG tm row.length])[j]?=some b->(j<u.length/\u[j]?=some b)∨(j=u.length/\b=mG tm row.length):=by
  intro u j b h1
  by_cases hj:j<u.length
  ·rw[gL_ hj] at h1;exact .inl ⟨hj,h1⟩
  have ar:j=u.length:=by
   have:=(gA.1 h1).1;rw[lA_] at this;simp only[List.length_singleton] at this;omega
  subst ar;rw[gR_<|nR_ _,Nat.sub_self] at h1;cases h1;exact .inr ⟨Z,Z⟩
 have evold:∀{t k:Nat} {l:List bW} {w:bW},g.threads[t]?=some l->l[k]?=some w->∃l',(g.threads.set tm (row++[e]))[t]?=some l'/\l'[k]?=some w:=by
  intro t k l w h1 d;rw[List.getElem?_set]
  by_cases M:tm=t
  ·subst M;rw[hx] at h1;cases h1;rw[if_pos Z,if_pos W];exact⟨_,Z,by rw[gL_ (gA.1 d).1];exact d⟩
  rw[if_neg M];exact⟨l,h1,d⟩
 refine⟨fun x=>by rw[new _<|am x];exact h.Pu x,fun t k l w h1 d=>?_,fun t j k l w ao h1 d=>?_,fun t k l w f q h1 d h3 h4 h5=>?_,fun t k l w f q h1 d h3 h4 h5=>?_,fun ln r j b h1 d=>?_,fun ln r i j a b h1 d h3 ap=>?_,fun t k l w f q ln r j b h1 d h3 h4 h5 Q h7 h8 h9 aa=>?_,fun t k l w f q ln r h1 d h3 h4 h5 Q h7=>?_⟩
 ·rcases ev h1 d with ⟨C,A,k2,z⟩ | ⟨rfl,rfl,rfl⟩
  ·rw[new _ z];have:=h.pos t k C w A k2;omega
  rw[newI];omega
 ·rcases ev h1 d with ⟨C,A,k2,z⟩ | ⟨rfl,rfl,rfl⟩
  ·obtain⟨w0,B⟩:∃w0,C[j]?=some w0:=⟨_,gC (show j<C.length by have:=(gA.1 k2).1;omega)⟩;rw[new _ z,new _<|told A B];exact h.po t j k C w ao A k2
  obtain⟨w0,B⟩:∃w0,row[j]?=some w0:=⟨_,gC ao⟩;rw[newI,new _<|told hx B];have:=(h.pos _ j row _ hx B).2;omega
 ·rcases ev h1 d with ⟨C,A,k2,z⟩ | ⟨rfl,rfl,rfl⟩
  ·obtain⟨G,B,F⟩:=fo h4 h5 z;have hq:=h.rf t k C w G q A k2 h3 B F;rw[new _ z]
   have:q≠mG tm row.length:=fun he=>by
    rcases h.src t k C w G q A k2 h3 B F with E | ⟨s,j,l,w',rfl,E,K⟩
    ·rw[he] at E;exact absurd (iJ_ E)<|Nat.succ_ne_zero _
    exact told E K he
   rw[new _ this];exact hq
  obtain rfl:=fn h4 h5;have:=frold h3;rw[newI,new _ this.1];omega
 ·rcases ev h1 d with ⟨C,A,k2,z⟩ | ⟨rfl,rfl,rfl⟩
  ·obtain⟨G,B,F⟩:=fo h4 h5 z;rcases h.src t k C w G q A k2 h3 B F with E | ⟨s,j,l,w',rfl,E,K⟩
   ·exact .inl E
   obtain⟨l',R,k8⟩:=evold E K;exact .inr ⟨s,j,l',w',Z,R,k8⟩
  obtain rfl:=fn h4 h5;obtain⟨ln,r,_,A,k2⟩:=L h3;rcases k2 with ⟨_,rfl⟩ | ⟨u,rfl⟩
  ·exact .inl Z
  obtain⟨t',k',l',w',rfl,E,K⟩:=h.mem ln _ u.length q A (by rw[gR_<|nR_ _,Nat.sub_self];rfl);obtain⟨l2,R,k8⟩:=evold E K;exact .inr ⟨t',k',l2,w',Z,R,k8⟩
 ·obtain⟨u,A,⟨rfl,_⟩ | ⟨rfl,_,_⟩⟩:=OW h1
  ·obtain⟨t,k,l,w,rfl,k2,B⟩:=h.mem ln r j b A d;obtain⟨l',F,E⟩:=evold k2 B;exact⟨t,k,l',w,Z,F,E⟩
  rcases atl d with ⟨_,k2⟩ | ⟨rfl,rfl⟩
  ·obtain⟨t,k,l,w,rfl,k2,B⟩:=h.mem ln u j b A k2;obtain⟨l',F,E⟩:=evold k2 B;exact⟨t,k,l',w,Z,F,E⟩
  refine⟨tm,row.length,row++[e],e,Z,?_,?_⟩
  ·show(g.threads.set tm _)[tm]?=_;rw[List.getElem?_set,if_pos Z,if_pos W]
  rw[gR_<|nR_ _,Nat.sub_self];rfl
 ·obtain⟨u,A,⟨rfl,_⟩ | ⟨rfl,_,_⟩⟩:=OW h1
  ·rw[new _ (oldr A d).1,new _ (oldr A h3).1];exact h.co ln r i j a b A d h3 ap
  rcases atl h3 with ⟨hj,B⟩ | ⟨rfl,rfl⟩
  ·rcases atl d with ⟨_,k2⟩ | ⟨rfl,_⟩
   ·rw[new _ (oldr A k2).1,new _ (oldr A B).1];exact h.co ln u i j a b A k2 B ap
   omega
  rcases atl d with ⟨_,k2⟩ | ⟨rfl,_⟩
  ·rw[newI,new _ (oldr A k2).1];have:=(oldr A k2).2;omega
  omega
 ·obtain⟨u,A,T⟩:=OW h7;rcases ev h1 d with ⟨C,k2,B,z⟩ | ⟨rfl,rfl,rfl⟩
  ·obtain⟨G,F,E⟩:=fo h4 h5 z;rcases T with ⟨rfl,_⟩ | ⟨rfl,_,_⟩
   ·rw[new _ z,new _ (oldr A h8).1];exact h.fr t k C w G q ln r j b k2 B h3 F E Q A h8 h9 aa
   rcases atl h8 with ⟨hj,K⟩ | ⟨rfl,rfl⟩
   ·rw[new _ z,new _ (oldr A K).1];exact h.fr t k C w G q ln u j b k2 B h3 F E Q A K (fun i hi=>h9 i (by rw[gL_ (gA.1 hi).1];exact hi)) aa
   rw[new _ z,newI];have:=(h.pos t k C w k2 B).2;omega
  obtain rfl:=fn h4 h5;obtain⟨ln',r',k2,B,F⟩:=L h3;have:ln'=ln:=by rw[k2] at Q;exact iJ_ Q
  subst this;rw[A] at B;cases B
  have hb:j<u.length/\u[j]?=some b:=by
   rcases T with ⟨rfl,_⟩ | ⟨rfl,_,_⟩
   ·exact⟨(gA.1 h8).1,h8⟩
   rcases atl h8 with K | ⟨_,rfl⟩
   ·exact K
   exact absurd Z aa
  rcases F with ⟨rfl,_⟩ | ⟨S,rfl⟩
  ·exact absurd hb.1<|nZ_ _
  have:=h9 S.length (by
   have hq:(S++[q])[S.length]?=some q:=by rw[gR_<|nR_ _,Nat.sub_self];rfl
   rcases T with ⟨rfl,_⟩ | ⟨rfl,_,_⟩
   ·exact hq
   rw[gL_ (by rw[lA_];show S.length<S.length+1;omega)];exact hq)
  have h11:=hb.1;rw[lA_] at h11;simp only[List.length_singleton] at h11;omega
 obtain⟨u,A,T⟩:=OW h7;rcases ev h1 d with ⟨C,k2,B,z⟩ | ⟨rfl,rfl,rfl⟩
 ·obtain⟨G,F,E⟩:=fo h4 h5 z;obtain⟨j,K,R⟩:=h.up t k C w G q ln u k2 B h3 F E Q A
  have mono:∀{i:Nat} {x:bT},u[i]?=some x->r[i]?=some x:=by
   intro i x hi;rcases T with ⟨rfl,_⟩ | ⟨rfl,_,_⟩
   ·exact hi
   rw[gL_ (gA.1 hi).1];exact hi
  refine⟨j,mono K,?_⟩;rcases R with R | ⟨i,hi,R⟩
  ·exact .inl R
  exact .inr ⟨i,hi,mono R⟩
 obtain rfl:=fn h4 h5;have aE:cD w=true:=mT h3;have a0:bd w=true:=by unfold bd;rw[h3];cases H w.kind 2<;>rfl
 obtain⟨ln',r',k2,B,F⟩:=L aE;have:ln'=ln:=by rw[k2] at Q;exact iJ_ Q
 subst this;rw[A] at B;cases B;rcases T with ⟨_,a1⟩ | ⟨rfl,_,_⟩
 ·exact absurd ⟨a0,by rw[Q];rfl⟩ a1
 refine⟨u.length,by rw[gR_<|nR_ _,Nat.sub_self];rfl,?_⟩;rcases F with ⟨rfl,rfl⟩ | ⟨S,rfl⟩
 ·exact .inl ⟨Z,Z⟩
 refine .inr ⟨S.length,by rw[lA_];rfl,?_⟩;rw[gL_ (by rw[lA_];show S.length<S.length+1;omega),gR_<|nR_ _,Nat.sub_self];rfl
theorem LI {k:Nat} {c:XC} {row:List bW} {r:XM} {p:zA} (h:jr k c row r.g=0) (hp:p=dy (bZ k c row).1 r.mem r.g) (d:cD p.lD=true):∃ln:Nat,p.lD.loc= .ofNat ln/\ln<r.g.init.length/\p.fr=((bV r.g (.ofNat ln)).getLast?).getD ⟨0,0⟩:=by
 obtain⟨h1,h2,h3,h4⟩:=nu h;rcases pO h1 with ⟨e,he,hf,u⟩ | ⟨a,z,hk,hf⟩ | ⟨n,A⟩
 ·exfalso;rw[he] at hp h4
  have B:p.lD=e:=by
   rw[hp];unfold dy;dsimp only;cases h5:H e.kind 4 with
   | true=>rfl
   | false=>
    simp only[cond_false,show bf (H ia.kind 0)=false from Z];cases bf (H e.kind 1)<;>rfl
  rw[B,u] at d;cases d
 ·rw[z] at h4 hp;have b:H a.kind 0=false:=by rcases hk with e | e | e | e<;>rw[e]<;>rfl
  have C:iE ⟨j0,a,0⟩=a.loc:=by unfold iE;dsimp only;rw[b];rfl
  obtain⟨ln,hl,w⟩:=jT h4 Z;unfold dy at hp;dsimp only at hl hp;rw[hl] at hp;rw[b,show H j0.kind 4=false from Z] at hp;simp only[show bf false=true from Z,cond_true,cond_false] at hp;generalize hv:(r.mem[(Int.ofNat ln).toNat]?).getD 0=v at hp;refine⟨ln,?_,w,?_⟩
  ·have:p.lD=bU a v:=by rw[hp];cases bf (H (bU a v).kind 1)<;>rfl
   rw[this,(mJ hk).1,<-C];exact hl
  rw[hp];cases bf (H (bU a v).kind 1)<;>rfl
 rw[A] at hp;have:p.lD=j0:=by rw[hp];unfold dy;rfl
 rw[this] at d;exact Bool.noConfusion (show false=true from d)
theorem LX {k:Nat} {l:List XC} {r r':XM} {t N_:Nat} {τ:bT->Nat} (hinv:fz k l r) (B:fI k l r t=(some r',0)) (h:Rk r.g τ N_):∃τ',Rk r'.g τ' (N_+1):=by
 obtain⟨c,row,p,hi⟩:=qd B;have hck:=hinv.Ib;have hR:=dz.1 hck;have hadd:=hi.add;have w:zB k c row r p:=by have q:=FW (th:=.ofNat (t+1)) (g':=r'.g) hi.err (by rw[<-hi.jh];exact hadd);rwa[<-hi.jh] at q
 obtain⟨_,tm,row',frow,C,hx,hf,_,_,E,_⟩:=kK hadd;obtain rfl:t=tm:=by have:=iJ_ C;omega
 have b:∀{ln:Nat},ln<r.g.init.length->∃o,r.g.order[ln]?=some o/\bV r.g (.ofNat ln)=⟨0,.ofNat ln⟩::o:=fun {ln} z=>by
  obtain⟨o,u⟩:=gx hck z;exact⟨o,u,ew (by rw[hck];rfl) u⟩
 rw[E];refine⟨_,h.grow hR hx hf (fun F=>?_) (fun hw=>?_)⟩
 ·obtain⟨ln,h1,A,h3⟩:=LI hi.err hi.jh F;obtain⟨o,u,d⟩:=b A;refine⟨ln,o,h1,u,?_⟩;rw[d] at h3;cases hl:o.getLast? with
  | none=>
   have:=List.getLast?_eq_none_iff.1 hl;subst this;exact .inl ⟨Z,h3⟩
  | some x=>
   obtain⟨G,rfl⟩:=List.getLast?_eq_some_iff.1 hl;right;refine⟨G,?_⟩;rw[<-List.cons_append,List.getLast?_append] at h3;rw[h3];rfl
 rcases w.cases with ⟨e,_⟩ | ⟨ln,h1,A,_,⟨e,_⟩ | ⟨_,_,e⟩⟩
 ·exfalso;unfold bd at hw;rw[e] at hw;exact Bool.noConfusion (show false=true from hw)
 ·rw[e] at hw;cases hw
 obtain⟨o,u,d⟩:=b h1;exact⟨ln,o,A,u,by rw[e,d];rfl⟩
def oS (g:XG):Prop:=∃τ N_,Rk g τ N_
theorem Jb {init:List Int} {n:Nat}:oS ⟨init,List.replicate n [],List.replicate n [],List.replicate init.length []⟩:=by
 have d:∀{α:Type} {m t:Nat} {row:List α} {k:Nat} {e:α},(List.replicate m ([]:List α))[t]?=some row->row[k]?=some e->False:=by
  intro α m t row k e h1 u;have:=eR_ (gB_ h1);subst this;simp at u
 exact⟨fun _=>0,0,⟨fun _=>Z,fun t k row e h1 u=>(d h1 u).elim,fun t j k row e _ h1 u=>(d h1 u).elim,fun t k row e f q h1 u=>(d h1 u).elim,fun t k row e f q h1 u=>(d h1 u).elim,fun ln r j b h1 u=>(d h1 u).elim,fun ln r i j a b h1 u=>(d h1 u).elim,fun t k row e f q ln r j b h1 u=>(d h1 u).elim,fun t k row e f q ln r h1 u=>(d h1 u).elim⟩⟩
theorem J6 {k:Nat} {l:List XC} {r r':XM} {p:Int} (hinv:fz k l r) (b:ga k l r p=some r') (h:oS r.g):oS r'.g:=by
 obtain⟨t,_,_,h1⟩:=nU b;obtain⟨τ,N_,h⟩:=h;obtain⟨τ',h'⟩:=LX hinv h1 h;exact⟨τ',N_+1,h'⟩
theorem vK {k:Nat} {l:List XC}:∀{ps:List Int} {s:XM×List Int},fz k l s.1->oS s.1.g->oS (dF k l s ps).1.g
 | [],_,_,h=>h
 | p::ps,s,hi,h=>by
  show oS (dF k l (gV k l s p) ps).1.g;unfold gV;cases b:ga k l s.1 p with
  | none=>exact vK hi h
  | some r=>exact vK (s:=(r,s.2++[p])) (hi.ga b).1 (J6 hi b h)
theorem BL {k:Nat} {l:List XC} {t:Nat}:∀{f:Nat} {s:XM×List Int},fz k l s.1->oS s.1.g->oS (drain k l t f s).1.g
 | 0,_,_,h=>h
 | f+1,s,hi,h=>by
  cases b:ga k l s.1 (.ofNat (t+1)) with
  | none=>rw[l5 b];exact h
  | some r=>rw[jV b oM];exact BL (f:=f) (s:=(r,s.2++[.ofNat (t+1)])) (hi.ga b).1<|J6 hi b h
theorem FA {k:Nat} {l:List XC}:∀{i:Nat} {s:XM×List Int},fz k l s.1->oS s.1.g->oS (ic k l i s).1.g
 | 0,_,_,h=>h
 | i+1,s,hi,h=>BL (s:=ic k l i s) (fz.ic (i:=i) hi).1 (FA hi h)
def Stop (s:TS):Prop:=s.asks=true∨s.fin≠0
theorem xE {k:Nat} {c:XC} {s:TS} {x:XI} (hx:c.ins[s.at_]?=some x) (h:(cj k c s).2=false):Stop (cj k c s).1/\(cj k c s).1.at_=s.at_/\(cj k c s).1.events=s.events:=by
 obtain⟨P,d⟩:∃P:TS×Bool->Prop,P=fun r=>r.2=false->Stop r.1/\r.1.at_=s.at_/\r.1.events=s.events:=⟨_,Z⟩
 have b:∀r:TS×Bool,r.2=true->P r:=fun r h1=>by rw[d];intro u;rw[h1] at u;cases u
 have hf:∀r:TS×Bool,r.1.fin≠0->r.1.at_=s.at_->r.1.events=s.events->P r:=fun r h1 u h3=>by rw[d];exact fun _=>⟨.inr h1,u,h3⟩
 have:P (cj k c s):=by
  unfold cj;rw[hx];dsimp only;unfold fZ;refine bM _ (b _ Z)<|bM _ (b _ Z)<|bM _ (b _ Z)<|bM _ (bM _ (hf _ (show(_:Int)≠0 from fun e=>by cases e) Z Z)<|b _ Z)<|bM _ (bM _ (hf _ (show(_:Int)≠0 from fun e=>by cases e) Z Z)<|b _ Z)<|bM _ (b _ Z)<|bM _ (bM _ (b _ Z)<|b _ Z)<|bM _ (hf _ (show(_:Int)≠0 from fun e=>by cases e) Z Z)<|bM _ (hf _ (show(_:Int)≠0 from fun e=>by cases e) Z Z) ?_;rw[d];exact fun _=>⟨.inl Z,Z,Z⟩
 rw[d] at this;exact this h
section
variable {k:Nat} {c:XC} {out:List Nat} {P:TS->Prop}
theorem Aa (w:eS k c) (b:fD (dw c) c.ins.length out) (z:∀s,P s->s.asks=false->s.at_∈out->P (cj k c s).1):
  ∀(f q:Nat) (s:TS),s.asks=false->out[q]?=some s.at_->q<f->P s->P (tD k c f s)/\(tD k c f s).at_∈out/\Stop (tD k c f s)
 | 0,_,_,_,_,h,_=>absurd h (nZ_ _)
 | f+1,q,s,A,hq,aa,B=>by
  obtain⟨x,hx⟩:=cT (b.lt s.at_<|gB_ hq);have hp:=z s B A (gB_ hq);have hk:=zh w A;show P (bif (cj k c s).2 then tD k c f (cj k c s).1 else(cj k c s).1)/\(bif (cj k c s).2 then tD k c f (cj k c s).1 else(cj k c s).1).at_∈out/\Stop (bif (cj k c s).2 then tD k c f (cj k c s).1 else(cj k c s).1);cases d:(cj k c s).2 with
  | true=>
   obtain⟨q',ab,u⟩:=b.ua q s.at_ hq _ (oL hx d);exact Aa w b z f q' _ (hk.2 d) u oM hp
  | false=>
   obtain⟨h3,h4,_⟩:=xE hx d;exact⟨hp,by rw[show(bif false then tD k c f (cj k c s).1 else(cj k c s).1).at_=s.at_ from h4];exact gB_ hq,h3⟩
theorem CH (u:eS k c) (z:fj c=some out) (w:fD (dw c) c.ins.length out) (B:∀s,P s->s.asks=false->s.at_∈out->P (cj k c s).1) (C:∀s v,P s->gM c s->s.asks=true->s.at_∈out->P (eF k c s v)):
  ∀(A:List Int) (s:TS),gM c s->P s->s.at_∈out->Stop s->P (jJ k c A s)/\(jJ k c A s).at_∈out/\Stop (jJ k c A s)
 | [],s,_,h,b,h3=>⟨h,b,h3⟩
 | v::r,s,hk,h,b,h3=>by
  show P (bif s.asks then jJ k c r (ea k c s v) else s)/\(bif s.asks then jJ k c r (ea k c s v) else s).at_∈out/\Stop (bif s.asks then jJ k c r (ea k c s v) else s);cases E:s.asks with
  | false=>exact⟨h,b,h3⟩
  | true=>
   obtain⟨q,hq⟩:=gO_ b;obtain⟨q',aa,d⟩:=w.ua q s.at_ hq _ (vW (k:=k) hk E v);have hl:=(gA.1 d).1;have hf:gT c=out.length:=by unfold gT;rw[z];rfl
   obtain⟨h4,h5,F⟩:=Aa u w B (gT c) q' (eF k c s v) Z d oM (C s v h hk E b);exact CH u z w B C r _ (pj u s v) h4 h5 F
theorem CI (b:eS k c) (u:fj c=some out) (d:fD (dw c) c.ins.length out) (w:∀s,P s->s.asks=false->s.at_∈out->P (cj k c s).1) (z:∀s v,P s->gM c s->s.asks=true->s.at_∈out->P (eF k c s v))
  (h0:P ⟨0,List.replicate c.br.toNat 0,[],0,0,false⟩) (A:List Int):P (fb k c A)/\(fb k c A).at_∈out/\Stop (fb k c A)/\gM c (fb k c A):=by
 obtain⟨q,hq⟩:=gO_ d.zero;have hl:=(gA.1 hq).1;have hf:gT c=out.length:=by unfold gT;rw[u];rfl
 obtain⟨h1,B,h3⟩:=Aa b d w (gT c) q ⟨0,List.replicate c.br.toNat 0,[],0,0,false⟩ Z hq oM h0;obtain⟨h4,h5,C⟩:=CH b u d w z A _ (oi b) h1 B h3;exact⟨h4,h5,C,(sn b A _<|oi b).1⟩
theorem Hx {s:TS} {x:XI} (hx:c.ins[s.at_]?=some x):(cj k c s).1.events.length<=s.events.length+wA c s.at_:=by
 have hw:wA c s.at_=wK x.kind:=by unfold wA;rw[hx]
 rw[hw];obtain⟨P,b⟩:∃P:TS×Bool->Prop,P=fun r=>r.1.events.length<=s.events.length+wK x.kind:=⟨_,Z⟩
 have h0:∀r:TS×Bool,r.1.events=s.events->P r:=fun r h1=>by rw[b];dsimp only;rw[h1];omega
 have h1:∀(r:TS×Bool) (e:bW),wK x.kind=1->r.1.events=s.events++[e]->P r:=fun r e h1 d=>by rw[b];dsimp only;rw[d,h1];simp
 have hk:∀n:Int,H x.kind n=true->wK n=1->wK x.kind=1:=fun n h d=>by rw[dK,decide_eq_true_iff] at h;rw[h];exact d
 have:P (cj k c s):=by
  unfold cj;rw[hx];dsimp only;unfold fZ;refine eZ _ (fun _=>h0 _ Z) fun _=>eZ _ (fun e=>h1 _ _ (hk _ e Z) Z) fun _=>eZ _ (fun e=>h1 _ _ (hk _ e Z) Z) fun _=>(bM _ (bM _ (h0 _ Z)<|h0 _ Z)<|bM _ (bM _ (h0 _ Z)<|h0 _ Z)<|bM _ (h0 _ Z)<|bM _ (bM _ (h0 _ Z)<|h0 _ Z)<|bM _ (h0 _ Z)<|bM _ (h0 _ Z)<|h0 _ Z)
 rw[b] at this;exact this
def oZ (c:XC) (out:List Nat) (i:Nat):Nat:=G3 (wA c) (dw c) out.length i
theorem tE (b:fD (dw c) c.ins.length out) {i to:Nat} (hi:i∈out) (d:to∈dw c i):oZ c out to+wA c i<=oZ c out i:=by
 have h:=FB (w:=wA c) b hi;unfold oZ;rw[h];exact Nat.add_le_add_right (vG (f:=G3 (wA c) (dw c) out.length) d) _
theorem MN (d:eS k c) (b:dR k c=0) (u:fj c=some out) (w:fD (dw c) c.ins.length out):tF k c= .ofNat (oZ c out 0):=by
 have hol:=qF d u;obtain⟨p,hp⟩:=gO_ w.zero;have h0:=yY d hol w out.length (nR_ _) p (gA.1 hp).1 0 hp;rw[List.take_length] at h0;unfold tF;rw[b];show(match fj c with | some out=>((iT c out<|List.replicate c.ins.length 0)[0]?).getD 0 | none=>-1)=_;rw[u];show((iT c out<|List.replicate c.ins.length 0)[0]?).getD 0=_;rw[h0];rfl
theorem AD (z:eS k c) (B:fj c=some out) (d:fD (dw c) c.ins.length out) (A:List Int):
  (fb k c A).events.length<=oZ c out 0/\((fb k c A).asks=true->(fb k c A).events.length+1<=oZ c out 0)/\Stop (fb k c A):=by
 have C:∀s:TS,s.events.length+oZ c out s.at_<=oZ c out 0->s.asks=false->s.at_∈out->(cj k c s).1.events.length+oZ c out (cj k c s).1.at_<=oZ c out 0:=by
  intro s h _ hm;obtain⟨x,hx⟩:=cT (d.lt s.at_ hm);cases w:(cj k c s).2 with
  | true=>
   have h3:=tE d hm (oL hx w);have h4:=Hx (k:=k) hx;omega
  | false=>
   obtain⟨_,h4,h5⟩:=xE hx w;rw[h4,h5];exact h
 have E:∀(s:TS) (v:Int),s.events.length+oZ c out s.at_<=oZ c out 0->gM c s->s.asks=true->s.at_∈out->(eF k c s v).events.length+oZ c out (eF k c s v).at_<=oZ c out 0:=by
  intro s v h hk u hm;have h3:=tE d hm (vW (k:=k) hk u v);obtain⟨x,hx,b⟩:=hk u
  have hw:wA c s.at_=1:=by
   unfold wA;rw[hx];show wK x.kind=1;rcases b with e | e | e | e<;>rw[e]<;>rfl
  have h4:(eF k c s v).events.length=s.events.length+1:=by unfold eF;simp
  omega
 obtain⟨h1,w,h3,h4⟩:=CI (P:=fun s=>s.events.length+oZ c out s.at_<=oZ c out 0) z B d C E (by show 0+oZ c out 0<=_;omega) A;refine⟨by omega,fun u=>?_,h3⟩;obtain⟨x,hx,b⟩:=h4 u;have h5:=vW (k:=k) h4 u 0;have h6:=tE d w h5
 have hw:wA c (fb k c A).at_=1:=by
  unfold wA;rw[hx];show wK x.kind=1;rcases b with e | e | e | e<;>rw[e]<;>rfl
 omega
end
theorem Fz {k:Nat} {init:List Int} {l:List XC} (h:vp k init l=0):∀c∈l,c.br<=16/\tF k c<=14/\jt k c=true/\∀x∈c.ins,qX (.ofNat init.length) x=false:=by
 unfold vp at h;cases h1:cq 4 (.ofNat l.length) with
 | true=>rw[h1] at h;cases h
 | false=>
 cases b:cq 6 (.ofNat init.length) with
 | true=>rw[h1,b] at h;cases h
 | false=>
 cases h3:l.any (xK k) with
 | true=>rw[h1,b,h3] at h;cases h
 | false=>
 cases h4:l.any (vn k (.ofNat init.length)) with
 | true=>rw[h1,b,h3,h4] at h;cases h
 | false=>
 intro c d;have t3:=List.any_eq_false.1 h3 c d;have t4:=List.any_eq_false.1 h4 c d;unfold xK at t3;unfold vn at t4;cases h5:cq 16 c.br with
 | true=>rw[h5] at t3;exact absurd Z t3
 | false=>
 rw[h5] at t3;cases u:cq 14 (tF k c) with
 | true=>rw[u] at t3;exact absurd Z t3
 | false=>
 cases z:jt k c with
 | false=>rw[z] at t4;exact absurd Z t4
 | true=>
 rw[z] at t4;rw[eu,decide_eq_false_iff_not] at h5 u;refine⟨by omega,by omega,Z,fun x hx=>?_⟩;cases A:qX (.ofNat init.length) x with
 | false=>rfl
 | true=>exact absurd (List.any_eq_true.2 ⟨x,hx,A⟩) t4
theorem vg {n a b:Int} (h:eC n a b true=true):a<=n/\n<b:=by
 unfold eC at h;simp only[cond_true] at h;cases h1:cq n a with
 | true=>rw[h1] at h;cases h
 | false=>
  rw[h1] at h;have h:cq n b=true:=h;rw[eu] at h1 h;rw[decide_eq_false_iff_not] at h1;rw[decide_eq_true_iff] at h;omega
theorem yd {br nins:Int} {k:Nat} {x:XI} {sh:kx} (h:gJ br nins k x sh=true):eC x.loc 0 6 sh.loc=true/\eC x.order 1 7 sh.order=true:=by
 unfold gJ at h;cases h1:eC x.xq 0 br sh.xq<;>rw[h1] at h
 ·cases h
 cases b:eC x.loc 0 6 sh.loc<;>rw[b] at h
 ·cases h
 cases h3:eC x.order 1 7 sh.order<;>rw[h3] at h
 ·cases h
 exact⟨Z,Z⟩
theorem tG {br nins:Int} {k:Nat} {x:XI} (h:gW br nins k x=true) (hk:x.kind=2∨x.kind=3∨x.kind=4∨x.kind=5∨x.kind=6∨x.kind=7):(1<=x.order/\x.order<=6)/\(x.kind≠7->0<=x.loc):=by
 obtain⟨n,sh,d,h1,h2,u,z⟩:=iV h;obtain⟨h3,h4⟩:=yd z
 have key:sh.order=true/\(n≠7->sh.loc=true):=by
  have b:n=2∨n=3∨n=4∨n=5∨n=6∨n=7:=by
   rw[d] at hk;have:((n:Nat):Int)=2∨((n:Nat):Int)=3∨((n:Nat):Int)=4∨((n:Nat):Int)=5∨((n:Nat):Int)=6∨((n:Nat):Int)=7:=hk;omega
  rcases b with rfl | rfl | rfl | rfl | rfl | rfl<;>cases u<;>first | exact⟨rfl,fun _=>Z⟩ | exact⟨rfl,fun h=>absurd rfl h⟩
 rw[key.1] at h4;have h5:=vg h4;refine⟨by omega,fun A=>?_⟩;have:n≠7:=fun e=>A (by rw[d,e];rfl)
 rw[key.2 this] at h3;exact(vg h3).1
theorem IE {n:Int} {x:XI} (h:qX n x=false) (hk:x.kind=2∨x.kind=3∨x.kind=4∨x.kind=5∨x.kind=6):x.loc<n:=by
 have hl:x8 x=true:=by unfold x8;rcases hk with e | e | e | e | e<;>rw[e]<;>rfl
 unfold qX at h;rw[hl] at h;have h:bf (cq x.loc n)=false:=h;cases h1:cq x.loc n with
 | false=>rw[h1] at h;cases h
 | true=>rw[eu] at h1;exact of_decide_eq_true h1
section
variable {loc o v w n:Int}
theorem qv (ho:1<=o/\o<=6):cq o 1=false/\cq 6 o=false:=by
 rw[eu,eu,decide_eq_false_iff_not,decide_eq_false_iff_not];omega
theorem zX (hl:0<=loc/\loc<n):(bif bf (cq loc 0) then cq loc n else false)=true:=by
 rw[show cq loc 0=false by rw[eu,decide_eq_false_iff_not];omega,show cq loc n=true by rw[eu];exact decide_eq_true hl.2];rfl
theorem OD (b:1<=o/\o<=6) (hl:0<=loc/\loc<n):bm ⟨1,loc,o,v,0⟩ n=true:=by
 obtain⟨h1,d⟩:=qv b;unfold bm;dsimp only;rw[h1,d];exact zX hl
theorem P3 (b:1<=o/\o<=6) (hl:0<=loc/\loc<n):bm ⟨2,loc,o,0,v⟩ n=true:=by
 obtain⟨h1,d⟩:=qv b;unfold bm;dsimp only;rw[h1,d];exact zX hl
theorem Na (b:1<=o/\o<=6) (hl:0<=loc/\loc<n):bm ⟨3,loc,o,v,w⟩ n=true:=by
 obtain⟨h1,d⟩:=qv b;unfold bm;dsimp only;rw[h1,d];exact zX hl
theorem P4 (b:1<=o/\o<=6):bm ⟨4,0,o,0,0⟩ n=true:=by
 obtain⟨h1,d⟩:=qv b;unfold bm;dsimp only;rw[h1,d];rfl
end
section
variable {k:Nat} {c:XC} {out:List Nat} {n:Int}
theorem CS (z:eS k c) (hf:∀x∈c.ins,qX n x=false) {s:TS} (h:∀e∈s.events,bm e n=true):∀e∈(cj k c s).1.events,bm e n=true:=by
 obtain⟨P,d⟩:∃P:TS×Bool->Prop,P=fun r=>∀e∈r.1.events,bm e n=true:=⟨_,Z⟩
 have h0:∀r:TS×Bool,r.1.events=s.events->P r:=fun r h1=>by rw[d];dsimp only;rw[h1];exact h
 have h1:∀(r:TS×Bool) (e:bW),bm e n=true->r.1.events=s.events++[e]->P r:=fun r e h1 b=>by
  rw[d];dsimp only;rw[b];intro e' u;rcases List.mem_append.1 u with h3 | h3
  ·exact h e' h3
  rw[List.mem_singleton.1 h3];exact h1
 have:P (cj k c s):=by
  unfold cj;cases hx:c.ins[s.at_]? with
  | none=>exact h0 _ Z
  | some x=>
   have hm:=gB_ hx;have hr:=z.right x hm;have hk:∀m:Int,H x.kind m=true->x.kind=m:=fun m h=>by rw[dK] at h;exact of_decide_eq_true h
   dsimp only;unfold fZ;refine eZ _ (fun _=>h0 _ Z) fun _=>eZ _ (fun e=>?_) fun _=>eZ _ (fun e=>?_) fun _=>(bM _ (bM _ (h0 _ Z)<|h0 _ Z)<|bM _ (bM _ (h0 _ Z)<|h0 _ Z)<|bM _ (h0 _ Z)<|bM _ (bM _ (h0 _ Z)<|h0 _ Z)<|bM _ (h0 _ Z)<|bM _ (h0 _ Z)<|h0 _ Z)
   ·have e:=hk _ e;obtain⟨b,h3⟩:=tG hr (.inr (.inl e));exact h1 _ _ (P3 b ⟨h3 (by rw[e];decide),IE (hf x hm) (.inr (.inl e))⟩) Z
   have e:=hk _ e;obtain⟨b,_⟩:=tG hr (.inr (.inr (.inr (.inr (.inr e)))));exact h1 _ _ (P4 b) Z
 rw[d] at this;exact this
theorem sE (u:eS k c) (hf:∀x∈c.ins,qX n x=false) {s:TS} (hk:gM c s) (z:s.asks=true) (v:Int):bm (bU (jk k c s) v) n=true:=by
 obtain⟨x,hx,b⟩:=hk z;have hm:=gB_ hx;have h5:x.kind=2∨x.kind=3∨x.kind=4∨x.kind=5∨x.kind=6:=by rcases b with e | e | e | e<;>simp[e]
 have A:x.kind=2∨x.kind=3∨x.kind=4∨x.kind=5∨x.kind=6∨x.kind=7:=by rcases b with e | e | e | e<;>simp[e]
 obtain⟨d,hl⟩:=tG (u.right x hm) A;have hl:0<=x.loc/\x.loc<n:=⟨hl (by rcases b with e | e | e | e<;>rw[e]<;>decide),IE (hf x hm) h5⟩;have e:jk k c s=Gy k x s.br:=by unfold jk;rw[hx]
 rw[e];unfold bU Gy;dsimp only;rcases b with e | e | e | e<;>rw[e]
 ·exact OD d hl
 ·exact bM (P:=fun e:bW=>bm e n=true) (H v _) (Na d hl)<|OD d hl
 ·exact Na d hl
 exact Na d hl
theorem ud (b:eS k c) (u:fj c=some out) (z:fD (dw c) c.ins.length out) (hf:∀x∈c.ins,qX n x=false) (A:List Int):
  (∀e∈(fb k c A).events,bm e n=true)/\gM c (fb k c A)/\((fb k c A).asks=true->∀v,bm (bU (jk k c<|fb k c A) v) n=true):=by
 obtain⟨h1,_,_,h4⟩:=CI (P:=fun s=>∀e∈s.events,bm e n=true) b u z (fun s h _ _=>CS b hf h) (fun s v h hk d _=>by
  intro e he;rcases List.mem_append.1 (show e∈s.events++[_] from he) with h3 | h3
  ·exact h e h3
  rw[List.mem_singleton.1 h3];exact sE b hf hk d v) (fun e he=>by cases he) A
 exact⟨h1,h4,fun d v=>sE b hf h4 d v⟩
end
theorem sc {k:Nat} {c:XC} {row:List bW} (h:lU k c row):(∃e,(fb k c<|cP row).events[row.length]?=some e/\bZ k c row=(⟨e,ia,0⟩,0))∨((fb k c<|cP row).events.length=row.length/\(fb k c<|cP row).asks=true/\bZ k c row=(⟨j0,jk k c<|fb k c<|cP row,0⟩,0))∨((fb k c<|cP row).asks=false/\bZ k c row=(⟨j0,ia,(fb k c<|cP row).fin⟩,0)):=by
 have hT:bZ k c row=lk k c (fb k c<|cP row) row:=by
  have:jU k c=0:=by unfold jU;rw[h.1];rfl
  unfold bZ;rw[this];rfl
 rw[hT];generalize b:fb k c (cP row)=S;have hf:ru S row=true:=by rw[<-b];exact h.2
 unfold lk;rw[hf];cases he:S.events[row.length]? with
 | some e=>exact .inl ⟨e,Z,by simp only[show bf true=false from Z,cond_false]⟩
 | none=>
  have h1:S.events.length<=row.length:=List.getElem?_eq_none_iff.1 he
  have h2:row.length<=S.events.length:=by
   unfold ru at hf;cases h3:cq (.ofNat S.events.length) (.ofNat row.length) with
   | true=>rw[h3] at hf;cases hf
   | false=>exact bz h3
  cases ha:S.asks with
  | true=>exact .inr (.inl ⟨by omega,Z,by simp only[show bf true=false from Z,cond_false,cond_true]⟩)
  | false=>exact .inr (.inr ⟨Z,by simp only[show bf true=false from Z,cond_false]⟩)
theorem tM {a b:Bool} (h:(bif a then false else b)=true):b=true:=by cases a;exact h;cases h
theorem DN {e:bW} {n:Int} (h:bm e n=true) (h4:H e.kind 4=false):cq e.loc 0=false/\cq e.loc n=true:=by
 unfold bm at h;rw[h4] at h;have h:=tM (tM<|tM<|tM<|tM<|tM h);have h:(bif bf (cq e.loc 0) then cq e.loc n else false)=true:=h;cases h1:cq e.loc 0 with
 | true=>rw[h1] at h;cases h
 | false=>rw[h1] at h;exact⟨Z,h⟩
theorem It {k:Nat} {c:XC} {row:List bW} {g:XG} (h:lU k c row) (d:tF k c<=14) (w:∀x∈c.ins,qX (.ofNat g.init.length) x=false) (b:(bZ k c row).1.fin=0):jr k c row g=0:=by
 obtain⟨B,out,C,E⟩:=oy h.1
 have F:dR k c=0:=by
  have:=h.1;unfold jt at this;cases he:H (dR k c) 0 with
  | true=>rw[dK] at he;exact of_decide_eq_true he
  | false=>rw[he] at this;cases this
 rw[MN B F C E] at d;have d:((oZ c out 0:Nat):Int)<=14:=d;obtain⟨a1,K,L⟩:=AD (k:=k) B C E (cP row);obtain⟨M,Q,R⟩:=ud (k:=k) B C E w (cP row)
 have fin:∀{n:pg},bZ k c row=(n,0)->row.length<14->fx n g=false->jr k c row g=0:=by
  intro n u hl hb;rw[u] at b;have b:n.fin=0:=b;unfold jr;rw[u];show(bif bf (H n.fin 0) then(10:Int) else bif bf (cq (.ofNat row.length) 14) then 3 else bif fx n g then 2 else 0)=0;rw[b,hb,show cq (.ofNat row.length) 14=true by rw[eu];exact decide_eq_true<|Int.ofNat_lt.2 hl];rfl
 rcases sc h with ⟨e,he,u⟩ | ⟨hl,z,u⟩ | ⟨z,u⟩
 ·have hlt:=(gA.1 he).1;refine fin u oM ?_;unfold fx iE;dsimp only;cases h4:H e.kind 4 with
  | true=>rfl
  | false=>
   obtain⟨h5,A⟩:=DN (M e<|gB_ he) h4;show(bif cq e.loc 0 then true else bf (cq e.loc (.ofNat g.init.length)))=false;rw[h5,A];rfl
 ·have h7:=K z;refine fin u oM ?_;have hk:=lK (k:=k) Q z;have hr:=R z 0;have G:H (jk k c<|fb k c<|cP row).kind 0=false:=by rcases hk with e | e | e | e<;>rw[e]<;>rfl
  have h4:H (bU (jk k c<|fb k c<|cP row) 0).kind 4=false:=by
   unfold bU;rcases hk with e | e | e | e<;>rw[e]
   ·rfl
   ·exact bM (P:=fun e:bW=>H e.kind 4=false) (H 0 _) Z Z
   ·rfl
   rfl
  obtain⟨h5,A⟩:=DN hr h4;rw[(mJ hk).1] at h5 A;unfold fx iE;dsimp only;rw[G];show(bif cq (jk k c<|fb k c<|cP row).loc 0 then true else bf (cq (jk k c<|fb k c<|cP row).loc (.ofNat g.init.length)))=false;rw[h5,A];rfl
 rw[u] at b;rcases L with h1 | h1
 ·rw[z] at h1;cases h1
 exact absurd b h1
theorem Eu {k:Nat} {c:XC} {row:List bW} {g:XG} {m:List Int} (h:lU k c row) (d:∀x∈c.ins,qX (.ofNat g.init.length) x=false) (b:(bZ k c row).1.fin=0):bm (dy (bZ k c row).1 m g).lD (.ofNat g.init.length)=true:=by
 obtain⟨B,out,C,E⟩:=oy h.1;obtain⟨_,_,F⟩:=AD (k:=k) B C E (cP row);obtain⟨G,K,L⟩:=ud (k:=k) B C E d (cP row);rcases sc h with ⟨e,he,u⟩ | ⟨hl,z,u⟩ | ⟨z,u⟩
 ·rw[u]
  have w:(dy ⟨e,ia,0⟩ m g).lD=e:=by
   unfold dy;dsimp only;cases h5:H e.kind 4 with
   | true=>rfl
   | false=>
    simp only[cond_false,show bf (H ia.kind 0)=false from Z];cases bf (H e.kind 1)<;>rfl
  show bm (dy ⟨e,ia,0⟩ m g).lD _=true;rw[w];exact G e<|gB_ he
 ·rw[u];have hk:=lK (k:=k) K z;generalize hA:jk k c (fb k c<|cP row)=a at*;have A:H a.kind 0=false:=by rcases hk with e | e | e | e<;>rw[e]<;>rfl
  have w:∃v,(dy ⟨j0,a,0⟩ m g).lD=bU a v:=by
   unfold dy;dsimp only;rw[A,show H j0.kind 4=false from Z];simp only[show bf false=true from Z,cond_true,cond_false];generalize (m[(iE ⟨j0,a,0⟩).toNat]?).getD 0=v;exact⟨v,by cases bf (H (bU a v).kind 1)<;>rfl⟩
  obtain⟨v,w⟩:=w;show bm (dy ⟨j0,a,0⟩ m g).lD _=true;rw[w];exact L z v
 rw[u] at b;rcases F with h1 | h1
 ·rw[z] at h1;cases h1
 exact absurd b h1
theorem Jw {g:XG} (b:dD g) {ln:Nat} {r:List bT} {x:bT} (d:g.order[ln]?=some r) (hm:x∈r):∃(t k:Nat) (row:List bW) (e:bW),x=mG t k/\g.threads[t]?=some row/\row[k]?=some e/\bd e=true/\e.loc= .ofNat ln:=by
 have h:(x.ints,Int.ofNat ln)∈ij g.order 0:=mq.2 ⟨ln,r,x,d,hm,Z,by rw[nA_]⟩;obtain⟨t,k,row,e,h1,u,h3,h4,h5⟩:=lS.1 (b.perm.mem_iff.2 h);rw[nA_] at h4;exact⟨t,k,row,e,sT h4,h1,u,h3,h5.symm⟩
theorem Eh {g:XG} (d:dD g) {ln:Nat} (hl:ln<g.init.length):∃w,cZ g (((bV g (.ofNat ln)).getLast?).getD ⟨0,0⟩)=some w/\bd w=true/\w.loc= .ofNat ln/\w.write=iR g (.ofNat ln):=by
 have hck:=dz.2 d;obtain⟨r,b⟩:=gx hck hl;rw[ew (by rw[hck];rfl) b,pK hck b];cases h:r.getLast? with
 | none=>
  rw[List.getLast?_eq_none_iff.1 h]
  have e:cZ g ⟨0,.ofNat ln⟩=some ⟨2,ln,1,0,g.init[ln]⟩:=by
   show(g.init[ln]?).map (fun v=>(⟨2,ln,1,0,v⟩:bW))=_;rw[gC hl];rfl
  refine⟨_,e,Z,Z,?_⟩;show _=(mE<|cZ g ⟨0,.ofNat ln⟩).write;rw[e];rfl
 | some x=>
  obtain⟨P,rfl⟩:=List.getLast?_eq_some_iff.1 h;rw[<-List.cons_append,List.getLast?_append];obtain⟨t,k,row,e,rfl,h1,u,h3,h4⟩:=Jw d b (List.mem_append_right _<|List.mem_singleton.2 Z);have he:cZ g (mG t k)=some e:=by rw[show cZ g (mG t k)=(g.threads[t]?).bind (·[k]?) from gk,h1];exact u
  refine⟨e,he,h3,h4,?_⟩;show _=(mE<|cZ g<|mG t k).write;rw[he];rfl
theorem Gt {g:XG} (d:dD g) {tm:Nat} {row:List bW} {frow:List bT} {e:bW} {fr:bT} {pl:Int} (hx:g.threads[tm]?=some row) (hf:g.from_[tm]?=some frow) (hlen:row.length<14)
  (he:bm e (.ofNat g.init.length)=true) (b:cF (eo g tm e fr pl row frow) ⟨.ofNat (tm+1),.ofNat row.length⟩ fr=true) (hp:cW g e pl=false):gD g (.ofNat (tm+1)) e fr pl=(some<|eo g tm e fr pl row frow,0):=by
 have hg:=EG d hx hf hlen he b hp;have hck:=dz.2 d;rw[kz (by rw[hck];rfl) hx hf,hp,dz.2 hg,show cq (.ofNat row.length) 14=true by rw[eu];exact decide_eq_true<|Int.ofNat_lt.2 hlen];rfl
theorem IJ {g:XG} {tm:Nat} {row:List bW} {frow:List bT} {e w:bW} {fr:bT} {pl:Int} (hx:g.threads[tm]?=some row) (d:cD e=true) (h1:cZ g fr=some w) (u:bd w=true) (h3:w.loc=e.loc) (h4:w.write=e.read):cF (eo g tm e fr pl row frow) ⟨.ofNat (tm+1),.ofNat row.length⟩ fr=true:=by
 have e1:cZ (eo g tm e fr pl row frow) ⟨.ofNat (tm+1),.ofNat row.length⟩=some e:=wm hx Z;have z:cZ (eo g tm e fr pl row frow) fr=some w:=wo hx Z Z h1
 have A:bY [fr.cH,fr.index] [Int.ofNat (tm+1),Int.ofNat row.length]=false:=by
  refine kT.2 fun he=>?_
  obtain⟨a,b⟩:=fr;simp only[List.cons.injEq,and_true] at he;rw[he.1,he.2,gk,hx] at h1;have h1:row[row.length]?=some w:=h1;rw[gN_<|nR_ _] at h1;cases h1
 unfold cF;rw[e1,z];simp only[show mE (some e)=e from Z,show mE (some w)=w from Z,d,Bool.not_true,cond_false,Option.isSome_some,cond_true,A,u,h3,h4,dL]
theorem GX {g:XG} {tm:Nat} {row:List bW} {frow:List bT} {e:bW} {pl:Int} (hx:g.threads[tm]?=some row) (b:cD e=false):cF (eo g tm e ⟨0,0⟩ pl row frow) ⟨.ofNat (tm+1),.ofNat row.length⟩ ⟨0,0⟩=true:=by
 have e1:cZ (eo g tm e ⟨0,0⟩ pl row frow) ⟨.ofNat (tm+1),.ofNat row.length⟩=some e:=wm hx Z;unfold cF;rw[e1];simp only[show mE (some e)=e from Z,b,Bool.not_false,cond_true];exact de.2 Z
theorem Et {k:Nat} {c:XC} {row:List bW} {r:XM} {l:List XC} (hinv:fz k l r) (h:jr k c row r.g=0) (aa:(bZ k c row).1.fin=0) (w:∀n,bZ k c row=(⟨j0,ia,n⟩,0)->False):(cD (dy (bZ k c row).1 r.mem r.g).lD=false/\(dy (bZ k c row).1 r.mem r.g).fr=⟨0,0⟩)∨(cD (dy (bZ k c row).1 r.mem r.g).lD=true/\∃ln:Nat,ln<r.g.init.length/\(dy (bZ k c row).1 r.mem r.g).lD.loc= .ofNat ln/\(dy (bZ k c row).1 r.mem r.g).lD.read=iR r.g (.ofNat ln)/\(dy (bZ k c row).1 r.mem r.g).fr=((bV r.g (.ofNat ln)).getLast?).getD ⟨0,0⟩):=by
 obtain⟨h1,h2,h3,h4⟩:=nu h;rcases pO h1 with ⟨e,he,hf,b⟩ | ⟨a,z,hk,hf⟩ | ⟨n,A⟩
 ·left;rw[he];show cD (dy ⟨e,ia,0⟩ r.mem r.g).lD=false/\(dy ⟨e,ia,0⟩ r.mem r.g).fr=⟨0,0⟩;unfold dy;dsimp only;cases h5:H e.kind 4 with
  | true=>exact⟨b,Z⟩
  | false=>
   simp only[cond_false,show bf (H ia.kind 0)=false from Z];cases bf (H e.kind 1)<;>exact⟨b,rfl⟩
 ·right;rw[z] at h4⊢;have d:H a.kind 0=false:=by rcases hk with e | e | e | e<;>rw[e]<;>rfl
  have B:iE ⟨j0,a,0⟩=a.loc:=by unfold iE;dsimp only;rw[d];rfl
  obtain⟨ln,hl,u⟩:=jT h4 Z;dsimp only at hl;have hv:(r.mem[(Int.ofNat ln).toNat]?).getD 0=iR r.g (.ofNat ln):=by rw[show(Int.ofNat ln).toNat=ln from Z,hinv.last ln u];rfl
  have hp:∃pl m,dy ⟨j0,a,0⟩ r.mem r.g=⟨bU a<|iR r.g (.ofNat ln),((bV r.g (.ofNat ln)).getLast?).getD ⟨0,0⟩,pl,m⟩:=by
   unfold dy;dsimp only;rw[hl,d,show H j0.kind 4=false from Z];simp only[show bf false=true from Z,cond_true,cond_false];rw[hv];cases bf (H (bU a<|iR r.g (.ofNat ln)).kind 1)<;>exact⟨_,_,rfl⟩
  obtain⟨pl,m,hp⟩:=hp;show cD (dy ⟨j0,a,0⟩ r.mem r.g).lD=true/\_;rw[hp];obtain⟨h5,C⟩:=im (v:=iR r.g (.ofNat ln)) hk;exact⟨h5,ln,u,by show(bU a _).loc=_;rw[(mJ hk).1,<-B];exact hl,C,Z⟩
 exact absurd A (fun h=>w n h)
theorem KK {g:XG} {e:bW} {ln:Nat} (b:dD g) (hl:ln<g.init.length) (he:e.loc= .ofNat ln) (hw:bd e=true):cW g e (.ofNat (bV g (.ofNat ln)).length)=false:=by
 have hck:=dz.2 b;obtain⟨r,d⟩:=gx hck hl;have e1:(bV g (.ofNat ln)).length=r.length+1:=by rw[ew (by rw[hck];rfl) d];rfl
 unfold cW;rw[hw,he,e1];show(bif cq (.ofNat (r.length+1)) (.ofNat 1) then true else cq (.ofNat (r.length+1)) (.ofNat (r.length+1)))=false;rw[jz,jz];simp
theorem By {g:XG} {e:bW} (hw:bd e=false):cW g e 0=false:=by unfold cW;rw[hw];rfl
theorem zG {a:sA} {v n:Int}:bm (bU a v) n=true->(bU a v).loc=a.loc:=by
 unfold bU;refine bM (P:=fun e:bW=>bm e n=true->e.loc=a.loc) _ (fun _=>Z)<|bM (P:=fun e:bW=>bm e n=true->e.loc=a.loc) _ (bM (P:=fun e:bW=>bm e n=true->e.loc=a.loc) _ (fun _=>Z) (fun _=>Z))<|bM (P:=fun e:bW=>bm e n=true->e.loc=a.loc) _ (fun _=>Z)<|bM (P:=fun e:bW=>bm e n=true->e.loc=a.loc) _ (fun _=>Z) (fun h=>?_);cases h
theorem Dn {a:sA} {v:Int}:H (bU a v).kind 4=false:=by
 unfold bU;refine bM (P:=fun e:bW=>H e.kind 4=false) _ Z<|bM (P:=fun e:bW=>H e.kind 4=false) _ (bM (P:=fun e:bW=>H e.kind 4=false) _ Z Z)<|bM (P:=fun e:bW=>H e.kind 4=false) _ Z<|bM (P:=fun e:bW=>H e.kind 4=false) _ Z Z
theorem JC {k:Nat} {c:XC} {row:List bW} {r:XM} {l:List XC} (hinv:fz k l r) (h:jr k c row r.g=0) (he:bm (dy (bZ k c row).1 r.mem r.g).lD (.ofNat r.g.init.length)=true):cW r.g (dy (bZ k c row).1 r.mem r.g).lD (dy (bZ k c row).1 r.mem r.g).place=false:=by
 have hR:=dz.1 hinv.Ib;generalize hN:(bZ k c row).1=n at*
 have kinds:∀e:bW,bm e (.ofNat r.g.init.length)=true->H e.kind 4=false->H e.kind 1=false->bd e=true/\∃ln:Nat,e.loc= .ofNat ln/\ln<r.g.init.length:=by
  intro e he h4 h1;obtain⟨h5,B⟩:=DN he h4;refine⟨?_,?_⟩
  ·unfold bm at he;cases w:cq e.kind 1 with
   | true=>rw[w] at he;cases he
   | false=>
   cases C:cq 4 e.kind with
   | true=>rw[w,C] at he;cases he
   | false=>
   rw[eu,decide_eq_false_iff_not] at w C;rw[dK,decide_eq_false_iff_not] at h4 h1;unfold bd;have:e.kind=2∨e.kind=3:=by omega
   rcases this with e | e<;>rw[e]<;>rfl
  obtain⟨ln,hl⟩:=iF h5;rw[hl] at B;exact⟨ln,hl,bk B⟩
 unfold dy at he⊢;cases h4:H n.event.kind 4 with
 | true=>
  simp only[h4,cond_true] at he⊢;refine By ?_;unfold bd;rw[dK] at h4;rw[of_decide_eq_true h4];rfl
 | false=>
  simp only[h4,cond_false] at he⊢;generalize b:(bif bf (H n.ask.kind 0) then bU n.ask ((r.mem[(iE n).toNat]?).getD 0) else n.event)=lD at*;cases h1:H lD.kind 1 with
  | true=>
   simp only[h1,show bf true=false from Z,cond_false] at he⊢;refine By ?_;unfold bd;rw[dK] at h1;rw[of_decide_eq_true h1];rfl
  | false=>
   simp only[h1,show bf false=true from Z,cond_true] at he⊢
   have z:H lD.kind 4=false:=by
    cases hk:H n.ask.kind 0 with
    | true=>
     rw[hk] at b;rw[<-show n.event=lD from b];exact h4
    | false=>
     rw[hk] at b;rw[<-show bU n.ask ((r.mem[(iE n).toNat]?).getD 0)=lD from b];exact Dn
   obtain⟨hw,ln,hl,A⟩:=kinds lD he z h1
   have d:iE n=lD.loc:=by
    cases hk:H n.ask.kind 0 with
    | true=>
     rw[hk] at b;rw[<-show n.event=lD from b];unfold iE;rw[hk];rfl
    | false=>
     rw[hk] at b;rw[<-show bU n.ask ((r.mem[(iE n).toNat]?).getD 0)=lD from b] at he⊢;rw[zG he];unfold iE;rw[hk];rfl
   rw[d,hl];exact KK hR A hl hw
theorem Hz {k:Nat} {l:List XC} {r:XM} {t:Nat} {c:XC} {row:List bW} (hinv:fz k l r) (M:l[t]?=some c) (b:r.g.threads[t]?=some row) (A:tF k c<=14) (z:∀x∈c.ins,qX (.ofNat r.g.init.length) x=false) (d:(bZ k c row).1.fin=0):∃r',fI k l r t=(some r',0):=by
 have hR:=dz.1 hinv.Ib;have hF:=hinv.fits t c row M b;have herr:=It (g:=r.g) hF A z d;have hev:=Eu (g:=r.g) (m:=r.mem) hF z d;obtain⟨_,_,E,_⟩:=nu herr;have hpl:=JC hinv herr hev;obtain⟨B,out,Q,C⟩:=oy hF.1
 have F:∀n,bZ k c row=(⟨j0,ia,n⟩,0)->False:=by
  intro n R;obtain⟨T,W,b3⟩:=ud (k:=k) B Q C z (cP row);obtain⟨_,_,X⟩:=AD (k:=k) B Q C (cP row);rcases sc hF with ⟨e,he,hm⟩ | ⟨hl,G,hm⟩ | ⟨G,hm⟩
  ·rw[R] at hm;have:e=j0:=by injection hm with h1;injection h1 with h2;exact h2.symm
   have h2:=T e (gB_ he);rw[this] at h2;cases h2
  ·rw[R] at hm;have h3:jk k c (fb k c<|cP row)=ia:=by injection hm with h1;injection h1 with h2 h3;exact h3.symm
   have hk:=lK (k:=k) W G;rw[h3] at hk;rcases hk with e | e | e | e<;>cases e
  rw[hm] at d;rcases X with h1 | h1
  ·rw[G] at h1;cases h1
  exact h1 d
 have K:t<r.g.from_.length:=by rw[hR.from_];exact(gA.1 b).1
 obtain⟨frow,hf⟩:=cT K
 have L:cF (eo r.g t (dy (bZ k c row).1 r.mem r.g).lD (dy (bZ k c row).1 r.mem r.g).fr (dy (bZ k c row).1 r.mem r.g).place row frow) ⟨.ofNat (t+1),.ofNat row.length⟩ (dy (bZ k c row).1 r.mem r.g).fr=true:=by
  rcases Et hinv herr d F with ⟨h1,h2⟩ | ⟨h1,ln,h2,h3,h4,h5⟩
  ·rw[h2];exact GX b h1
  obtain⟨w,S,k2,k3,k4⟩:=Eh hR h2;rw[<-h5] at S;exact IJ b h1 S k2 (by rw[k3,h3]) (by rw[k4,h4])
 have hadd:=Gt hR b hf E hev L hpl;refine⟨⟨(dy (bZ k c row).1 r.mem r.g).mem,eo r.g t (dy (bZ k c row).1 r.mem r.g).lD (dy (bZ k c row).1 r.mem r.g).fr (dy (bZ k c row).1 r.mem r.g).place row frow⟩,?_⟩;unfold fI;rw[M,b];dsimp only;rw[herr];show yG _ _ _=_;unfold yG;rw[hadd]
def Fe (k:Nat) (l:List XC) (r:XM) (t:Nat):Prop:=∀(c:XC) (row:List bW),l[t]?=some c->r.g.threads[t]?=some row->(bZ k c row).1.fin≠0
section
variable {k:Nat} {l:List XC} {t u f:Nat} {s:XM×List Int} {r r':XM} {p:Int} {n:Nat}
def Fc (k:Nat) (l:List XC) (n:Nat):Prop:=∀c∈l,tF k c<=14/\∀x∈c.ins,qX (.ofNat n) x=false
theorem HC (hinv:fz k l r) (d:Fc k l r.g.init.length) (ht:t<l.length) (h:¬Fe k l r t):∃r',ga k l r (.ofNat (t+1))=some r':=by
 have:∃c row,l[t]?=some c/\r.g.threads[t]?=some row/\(bZ k c row).1.fin=0:=by
  refine Classical.byContradiction fun w=>h fun c row h1 b h3=>w ⟨c,row,h1,b,h3⟩
 obtain⟨c,row,h1,b,h3⟩:=this;obtain⟨z,A⟩:=d c (gB_ h1);obtain⟨r',B⟩:=Hz hinv h1 b z A h3;refine⟨r',?_⟩;unfold ga;rw[show cq (.ofNat (t+1)) 1=false by rw[eu,decide_eq_false_iff_not];exact fun h=>by have:=Int.ofNat_lt.1 (show Int.ofNat (t+1)<Int.ofNat 1 from h);omega];rw[jz,show decide (l.length<t+1)=false by rw[decide_eq_false_iff_not];omega];show(bif H (fI k l r t).2 0 then(fI k l r t).1 else none)=_;rw[B];rfl
theorem J4 (h:ga k l r (.ofNat (t+1))=some r') (hu:u≠t):r'.g.threads[u]?=r.g.threads[u]?:=by
 obtain⟨t',b,hl,d⟩:=nU h;obtain rfl:t=t':=by have:=iJ_ b;omega
 obtain⟨c,row,p,hi⟩:=qd d;obtain⟨aa,h1,w⟩:=vA hi.add;rw[w,List.getElem?_set_ne<|Ne.symm hu]
theorem yI (hu:u≠t):∀{f:Nat} {s:XM×List Int},(drain k l t f s).1.g.threads[u]?=s.1.g.threads[u]?
 | 0,_=>rfl
 | f+1,s=>by
  cases b:ga k l s.1 (.ofNat (t+1)) with
  | none=>rw[l5 b]
  | some r=>
   rw[jV b oM];rw[yI hu (f:=f+1-1)];exact J4 b hu
theorem yH (w:t<l.length):∀{f:Nat} {s:XM×List Int},fz k l s.1->Fc k l s.1.g.init.length->15<=vt s.1 t+f->Fe k l (drain k l t f s).1 t
 | 0,s,h,_,hf=>by
  have hR:=dz.1 h.Ib;exfalso;have z:t<s.1.g.threads.length:=by rw[h.len];exact w
  obtain⟨row,A⟩:=cT z;have:=hR.short t row A;have e1:vt s.1 t=row.length:=by unfold vt;rw[A];rfl
  omega
 | f+1,s,h,B,hf=>by
  cases b:ga k l s.1 (.ofNat (t+1)) with
  | none=>
   rw[l5 b];refine Classical.byContradiction fun C=>?_
   obtain⟨r',d⟩:=HC h B w C;rw[b] at d;cases d
  | some r=>
   rw[jV b oM];obtain⟨h1,E⟩:=h.ga b;obtain⟨h3,h4⟩:=CF b;exact yH w (f:=f) (s:=(r,s.2++[.ofNat (t+1)])) h1 (by rw[show(r,s.2++[Int.ofNat (t+1)]).1.g.init=s.1.g.init from E];exact B) (by show 15<=vt r t+f;omega)
theorem BT:∀{i:Nat} {s:XM×List Int},fz k l s.1->Fc k l s.1.g.init.length->i<=l.length->∀u,u<i->Fe k l (ic k l i s).1 u
 | 0,_,_,_,_,u,hu=>absurd hu (nZ_ _)
 | i+1,s,h,b,hi,u,hu=>by
  obtain⟨h1,w,_⟩:=h.ic (i:=i);show Fe k l (drain k l i 15<|ic k l i s).1 u
  by_cases e:u=i
  ·subst e;exact yH oM h1 (by rw[w];exact b) oM
  intro c row z d;rw[yI e] at d;exact BT h b oM u oM c row z d
theorem wy {k:Nat}:∀{l:List XC} {g:List (List bW)} {e:List Int},pE k l g=some e->(∀(t:Nat) (c:XC) (row:List bW),l[t]?=some c->g[t]?=some row->(bZ k c row).1.fin≠0)->e.all (fun e=>bf (H e 0))=true
 | [],_,e,h,_=>by cases h;rfl
 | _::_,[],e,h,_=>by cases h
 | c::l,r::g,e,h,hf=>by
  unfold pE at h;cases h1:H (bZ k c r).2 0 with
  | false=>rw[h1] at h;cases h
  | true=>
   rw[h1] at h;cases d:pE k l g with
   | none=>rw[d] at h;cases h
   | some e'=>
    rw[d] at h;cases h;rw[List.all_cons,wy d fun t c row a b=>hf (t+1) c row (by simpa using a) (by simpa using b)];have:=hf 0 c r Z Z;rw[show H (bZ k c r).1.fin 0=false by rw[dK,decide_eq_false_iff_not];exact this];rfl
end
theorem zW {a b:Nat} (h:H (.ofNat a) (.ofNat b)=true):a=b:=by rw[eh] at h;simpa using h
theorem A0 {g:XG} (d:dD g) {i:Nat} (hi:i<nV g) (hw:bd (ez g i)=true):∃(ln:Nat) (r:List bT),(ez g i).loc= .ofNat ln/\g.order[ln]?=some r/\Ju g (ez g i).loc=r:=by
 have key:∃ln:Nat,(ez g i).loc= .ofNat ln/\ln<g.order.length:=by
  rcases jv hi with ⟨x,v,h1,b,h3⟩ | ⟨t,k,row,e,h1,b,h3,h4⟩
  ·exact⟨x,by rw[h3],by rw[d.order];exact(gA.1 b).1⟩
  obtain⟨frow,u⟩:∃frow,g.from_[t]?=some frow:=⟨_,gC (by rw[d.from_];exact(gA.1 b).1)⟩;obtain⟨hl,w⟩:=d.rows t row frow b u;obtain⟨q,hq⟩:∃q,frow[k]?=some q:=⟨_,gC (by rw[hl];exact(gA.1 h3).1)⟩;have hoke:=w k e q h3 hq;unfold uQ at hoke
  have z:bm e (.ofNat g.init.length)=true:=by
   revert hoke;cases bm e (.ofNat g.init.length)<;>intro hoke
   ·exact Bool.noConfusion (show false=true from hoke)
   rfl
  obtain⟨ln,r,h5,A,_⟩:=ze (dz.2 d) z (by rw[<-h4];exact hw);exact⟨ln,by rw[h4];exact h5,(gA.1 A).1⟩
 obtain⟨ln,h1,b⟩:=key;exact⟨ln,g.order[ln],h1,gC b,by unfold Ju;rw[h1];show(g.order[ln]?).getD []=_;rw[gC b];rfl⟩
section
variable {g:XG} {τ:bT->Nat} {N_:Nat}
theorem xI {i:Nat} (hi:i<nV g):(∃x v,ep g i=⟨0,.ofNat x⟩/\g.init[x]?=some v/\ez g i=⟨2,.ofNat x,1,0,v⟩)∨∃(t k:Nat) (row:List bW),ep g i=mG t k/\g.threads[t]?=some row/\row[k]?=some (ez g i):=by
 rcases jv hi with ⟨x,v,h1,b,h3⟩ | ⟨t,k,row,e,h1,b,h3,h4⟩
 ·exact .inl ⟨x,v,h1,b,h3⟩
 exact .inr ⟨t,k,row,h1,b,by rw[h4];exact h3⟩
theorem JD (h:Rk g τ N_) {i j:Nat} (hi:i<nV g) (hj:j<nV g) (hp:rD g i j=true):τ (ep g i)<τ (ep g j):=by
 unfold rD at hp;rcases xI hi with ⟨x,v,h1,_,_⟩ | ⟨t,k,row,h1,h2,h3⟩
 ·rcases xI hj with ⟨y,v',h4,_,_⟩ | ⟨t',k',row',h4,h5,b⟩
  ·rw[h1,h4] at hp;exact Bool.noConfusion (show false=true from hp)
  rw[h1,h4,h.Pu];have:=(h.pos t' k' row' _ h5 b).1;omega
 rcases xI hj with ⟨y,v',h4,_,_⟩ | ⟨t',k',row',h4,h5,b⟩
 ·rw[h1,h4] at hp;have e1:H (Int.ofNat (t+1)) 0=false:=rfl;have d:cq 0 (Int.ofNat (t+1))=true:=rfl;have e3:H (Int.ofNat (t+1)) 0=false:=rfl;dsimp only at hp;rw[e1,d] at hp;simp only[cond_false,cond_true] at hp;cases hp
 rw[h1,h4] at hp⊢;have e1:H (Int.ofNat (t+1)) 0=false:=rfl;have d:cq 0 (Int.ofNat (t+1))=true:=rfl;dsimp only at hp;rw[e1,d] at hp;simp only[cond_false,cond_true] at hp;cases u:H (Int.ofNat (t+1)) (Int.ofNat (t'+1)) with
 | false=>rw[u] at hp;cases hp
 | true=>
  rw[u] at hp;simp only[cond_true] at hp;have:t=t':=by have:=zW u;omega
  subst this;exact h.po t k k' row' _ (bk hp) h5 b
theorem NG (w:dD g) (h:Rk g τ N_) {i j:Nat} (hj:j<nV g) (hp:kS g j= .ofNat i):τ (ep g i)<τ (ep g j):=by
 have b:cD (ez g j)=true:=by
  cases b:cD (ez g j) with
  | true=>rfl
  | false=>unfold kS at hp;rw[b] at hp;cases hp
 obtain⟨f,hf,d,u,_⟩:=oz w hj b;obtain rfl:f=i:=by rw[d] at hp;exact iJ_ hp
 obtain⟨t,k,row,e,frow,q,h1,z,h3,h4,h5,A,B,_⟩:=yQ w hj b;rw[u,B,h1];exact h.rf t k row e frow q z h3 (by rw[<-h4];exact b) h5 A
theorem IV (d:dD g) {t k ln:Nat} {row:List bW} {e:bW} (h1:g.threads[t]?=some row) (u:row[k]?=some e) (hw:bd e=true) (hl:e.loc= .ofNat ln):∃r,g.order[ln]?=some r/\mG t k∈r:=by
 have hm:((mG t k).ints,Int.ofNat ln)∈fu g.threads 0:=lS.2 ⟨t,k,row,e,h1,u,hw,by rw[nA_];rfl,hl.symm⟩;obtain⟨ln',r,id,h3,h4,h5,b⟩:=mq.1 (d.perm.mem_iff.1 hm);rw[nA_] at b;obtain rfl:ln=ln':=iJ_ b;exact⟨r,h3,by rw[sT h5];exact h4⟩
theorem Rk.uniq (h:Rk g τ N_) {ln i j:Nat} {r:List bT} {a:bT} (b:g.order[ln]?=some r) (hi:r[i]?=some a) (hj:r[j]?=some a):i=j:=by
 rcases Nat.lt_trichotomy i j with hh | hh | hh
 ·exact absurd (h.co ln r i j a a b hi hj hh)<|Nat.lt_irrefl _
 ·exact hh
 exact absurd (h.co ln r j i a a b hj hi hh)<|Nat.lt_irrefl _
theorem JB (w:dD g) (h:Rk g τ N_) {i t k:Nat} {row:List bW} (h1:ep g i=mG t k) (A:g.threads[t]?=some row) (h3:row[k]?=some (ez g i)) (hw:bd (ez g i)=true) (hi:i<nV g):∃(ln:Nat) (r:List bT) (a:Nat),(ez g i).loc= .ofNat ln/\g.order[ln]?=some r/\r[a]?=some (ep g i)/\jB g i= .ofNat (a+1):=by
 obtain⟨ln,r,hl,d,z⟩:=A0 w hi hw;obtain⟨r',b,hm⟩:=IV w A h3 hw hl;rw[d] at b;cases b;obtain⟨a,u⟩:=gO_ hm;refine⟨ln,r,a,hl,d,by rw[h1];exact u,?_⟩;unfold jB;rw[h1,show H (mG t k).cH 0=false from Z,z]
 have:=sS (p:=fun x:bT=>bY x.ints (mG t k).ints) (l:=r) (i:=0) u (jY.2 Z) fun q y hq hy=>by
  cases B:bY y.ints (mG t k).ints with
  | false=>rfl
  | true=>
   rw[jY.1 B] at hy;have:=h.uniq d hy u;omega
 rw[nA_] at this;simp only[cond_false];rw[this];show(bif cq (.ofNat a) 0 then(-1:Int) else wr .i64 (Int.add (.ofNat a) 1))=_;rw[show cq (.ofNat a) 0=false from Z];have aa:a<r.length:=(gA.1 u).1;have:=jA (dz.2 w) r (gB_ d);exact aY oM
theorem Py (d:dD g) (h:Rk g τ N_) {i:Nat} (hi:i<nV g) (hw:bd (ez g i)=true):∃(ln p:Nat) (r:List bT),(ez g i).loc= .ofNat ln/\g.order[ln]?=some r/\jB g i= .ofNat p/\((p=0/\ep g i=⟨0,.ofNat ln⟩)∨∃a,p=a+1/\r[a]?=some (ep g i)):=by
 rcases xI hi with ⟨x,v,h1,u,h3⟩ | ⟨t,k,row,h1,u,h3⟩
 ·obtain⟨ln,r,hl,b,_⟩:=A0 d hi hw;obtain rfl:x=ln:=by rw[h3] at hl;exact iJ_ hl
  exact⟨x,0,r,hl,b,by unfold jB;rw[h1];rfl,.inl ⟨Z,h1⟩⟩
 obtain⟨ln,r,a,hl,b,w,hp⟩:=JB d h h1 u h3 hw hi;exact⟨ln,a+1,r,hl,b,hp,.inr ⟨a,Z,w⟩⟩
theorem Ft {i j:Nat} (hp:yB g i j=true):bd (ez g i)=true/\bd (ez g j)=true/\(ez g i).loc=(ez g j).loc/\cq (jB g i) (jB g j)=true:=by
 unfold yB at hp;cases h1:bd (ez g i)<;>rw[h1] at hp
 ·cases hp
 cases b:bd (ez g j)<;>rw[b] at hp
 ·cases hp
 cases h3:H (ez g i).loc (ez g j).loc<;>rw[h3] at hp
 ·cases hp
 rw[dK] at h3;exact⟨Z,Z,of_decide_eq_true h3,hp⟩
theorem Rk.Rf (h:Rk g τ N_) {ln a:Nat} {r:List bT} {b:bT} (d:g.order[ln]?=some r) (u:r[a]?=some b):1<=τ b:=by
 obtain⟨t,k,row,e,rfl,h1,w⟩:=h.mem ln r a b d u;exact(h.pos t k row e h1 w).1
theorem OB (u:dD g) (h:Rk g τ N_) {i j:Nat} (hi:i<nV g) (hj:j<nV g) (hp:yB g i j=true):τ (ep g i)<τ (ep g j):=by
 obtain⟨h1,z,h3,h4⟩:=Ft hp;obtain⟨ln,p,r,A,d,B,C⟩:=Py u h hi h1;obtain⟨ln',q,r',E,w,F,G⟩:=Py u h hj z;rw[A,E] at h3;obtain rfl:=iJ_ h3;rw[d] at w;cases w;rw[B,F] at h4;have hlt:=bk h4;rcases G with ⟨rfl,_⟩ | ⟨b,rfl,hb⟩
 ·omega
 rcases C with ⟨_,he⟩ | ⟨a,rfl,K⟩
 ·rw[he,h.Pu];have:=h.Rf d hb;omega
 exact h.co ln r a b _ _ d K hb oM
theorem OG (w:dD g) (h:Rk g τ N_) {i j:Nat} (hi:i<nV g) (hj:j<nV g) (hp:DW g i j=true):τ (ep g i)<τ (ep g j):=by
 unfold DW at hp;cases h0:H (.ofNat i) (.ofNat j)<;>rw[h0] at hp
 rotate_left
 ·cases hp
 cases z:cD (ez g i)<;>rw[z] at hp
 ·cases hp
 have hp:yB g (kS g i).toNat j=true:=hp;obtain⟨t,k,row,e,frow,q,h1,Q,h3,h4,h5,R,S,_⟩:=yQ w hi z;obtain⟨f,hf,E,F,G,K,_⟩:=oz w hi z;rw[E] at hp;obtain⟨c1,T,A,B⟩:=Ft hp;have A:(ez g f).loc=(ez g j).loc:=A;have B:cq (jB g f) (jB g j)=true:=B;obtain⟨ln,p,r,L,C,W,X⟩:=Py w h hf G;obtain⟨ln',q',r',b1,M,b3,b4⟩:=Py w h hj T;rw[L,b1] at A;obtain rfl:=iJ_ A;rw[C] at M;cases M;rw[W,b3] at B;have hlt:=bk B;rcases b4 with ⟨rfl,_⟩ | ⟨b,rfl,hb⟩
 ·omega
 rw[h1];refine h.fr t k row e frow q ln r b _ Q h3 (by rw[<-h4];exact z) h5 R (by rw[<-h4,<-K];exact L) C hb (fun i' d=>?_) fun he=>?_
 ·have hq:q=ep g f:=by rw[F,S]
  rcases X with ⟨_,he⟩ | ⟨a,rfl,ha⟩
  ·obtain⟨s,j',_,_,u,_,_⟩:=h.mem ln r i' q C d;rw[hq,he] at u;have:(0:Int)=((s+1:Nat):Int):=congrArg bT.cH u;omega
  have:=h.uniq C d (by rw[hq];exact ha);omega
 have e1:=eT hi;have e2:=eT hj;rw[he,show mG t k=ep g i from h1.symm] at e2;have:=FK e1 e2;subst this;rw[dL] at h0;cases h0
theorem QB (b:dD g) (h:Rk g τ N_) {w k:Nat} (d:Sq g w k):τ (ep g w)<=τ (ep g k):=by
 induction d with
 | base=>exact nR_ _
 | step hi hk hf _ ih=>exact Nat.le_trans ih (Nat.le_of_lt<|NG b h hi hf)
theorem QE (z:dD g) (h:Rk g τ N_) {r a:Nat} (hp:KG g r a=true):τ (ep g r)<τ (ep g a):=by
 obtain⟨w,b,hw,hb,B,C,cw,cb,cr,ca⟩:=Gg.1 hp
 have h1:τ (ep g r)<=τ (ep g w):=by
  unfold jo at cr;cases e1:ED g r<;>rw[e1] at cr
  ·cases cr
  cases d:H (.ofNat r) (.ofNat w)<;>rw[d] at cr
  ·cases A:H (ez g r).kind 4<;>rw[A] at cr
   ·cases cr
   exact Nat.le_of_lt<|JD h B hw cr
  rw[zW d];exact nR_ _
 have h2:τ (ep g b)<=τ (ep g a):=by
  unfold fT at ca;cases e1:Dj g a<;>rw[e1] at ca
  ·cases ca
  cases d:H (.ofNat a) (.ofNat b)<;>rw[d] at ca
  ·cases A:H (ez g a).kind 4<;>rw[A] at ca
   ·cases ca
   exact Nat.le_of_lt<|JD h hb C ca
  rw[zW d];exact nR_ _
 have h3:τ (ep g w)<τ (ep g b):=by
  have hrd:=uB cb;obtain⟨f,hf,u,_⟩:=oz z hb hrd;unfold kP at cb;rw[hrd,u] at cb;cases e1:H (ez g b).order 1<;>rw[e1] at cb
  ·exact Nat.lt_of_le_of_lt (QB z h<|xy.1 cb)<|NG z h hb u
  cases cb
 omega
theorem JU (b:dD g) (h:Rk g τ N_) {i j:Nat} (hj:j<nV g) (hp:Bh g i j=true):τ (ep g i)<τ (ep g j):=by
 refine NG b h hj ?_;unfold Bh at hp;rw[dK] at hp;exact of_decide_eq_true hp
theorem OC (d:dD g) (h:Rk g τ N_) {i j:Nat} (hp:vo g i j=true):τ (ep g i)<τ (ep g j):=by
 refine Tc.ua (f:=fun i=>τ<|ep g i) (fun a b u hb hab=>?_)<|qR.1 hp;simp only[pR,List.any_cons,List.any_nil,Bool.or_false,Bool.or_eq_true] at hab;rcases hab with hab | hab | hab
 ·exact JU d h hb hab
 ·exact OB d h u hb hab
 exact OG d h u hb hab
theorem Nx (b:dD g) (h:Rk g τ N_) {i j:Nat} (d:i<nV g) (hb:j<nV g) (hab:pR [rD g,Bh g] i j=true):τ (ep g i)<τ (ep g j):=by
 simp only[pR,List.any_cons,List.any_nil,Bool.or_false,Bool.or_eq_true] at hab;rcases hab with hab | hab
 ·exact JD h d hb hab
 exact JU b h hb hab
theorem OH (d:dD g) (h:Rk g τ N_) {i j:Nat} (hp:DZ g i j=true):τ (ep g i)<τ (ep g j):=by
 refine Tc.ua (f:=fun i=>τ<|ep g i) (fun a b u hb hab=>?_)<|qR.1 hp;simp only[pR,List.any_cons,List.any_nil,Bool.or_false,Bool.or_eq_true] at hab;rcases hab with hab | hab
 ·exact JD h u hb hab
 exact QE d h hab
theorem Ov (b:dD g) (h:Rk g τ N_) {i j:Nat} (d:i<nV g) (hb:j<nV g) (hab:Br g i j=true):τ (ep g i)<τ (ep g j):=by
 unfold Br at hab;simp only[pR,List.any_cons,List.any_nil,Bool.or_false,Bool.or_eq_true] at hab;rcases hab with hab | hab | hab | hab
 ·exact JD h d hb hab
 ·exact JU b h hb hab
 ·exact OB b h d hb hab
 exact OG b h d hb hab
theorem xu {n:Nat} {R:Rn} {f:Nat->Nat} (h:∀i j,i<n->j<n->R i j=true->f i<f j):cq (ld n R) 0=true:=by
 unfold ld;rw[wJ];cases hb:(List.range n).any fun i=>yh n R i i with
 | false=>rfl
 | true=>
  obtain⟨i,_,hi⟩:=List.any_eq_true.1 hb;exact absurd (Tc.ua (f:=f) h<|qR.1 hi)<|Nat.lt_irrefl _
theorem MX (d:dD g) (h:Rk g τ N_):MW g=false:=by
 cases hb:MW g with
 | false=>rfl
 | true=>
  obtain⟨⟨i,j⟩,hm,_⟩:=List.any_eq_true.1 hb;obtain⟨_,_,b⟩:=qH.1 hm;unfold vm mX at b;rw[bA_] at b;have h1:=OH d h b.1;have h2:=OC d h b.2;omega
theorem Fy {i:Nat} (hi:i<nV g):cZ g (ep g i)=some (ez g i):=by
 rcases xI hi with ⟨x,v,h1,b,h3⟩ | ⟨t,k,row,h1,b,h3⟩
 ·rw[h3,h1];show(g.init[x]?).map (fun v=>(⟨2,x,1,0,v⟩:bW))=_;rw[b];rfl
 rw[h1,show cZ g (mG t k)=(g.threads[t]?).bind (·[k]?) from gk,b];exact h3
theorem za (u:dD g) (h:Rk g τ N_) {i ln:Nat} {r:List bT} (hi:i<nV g) (hw:bd (ez g i)=true) (hl:(ez g i).loc= .ofNat ln) (b:g.order[ln]?=some r):
  (ep g i=⟨0,.ofNat ln⟩->gG g (ep g i)=0)/\∀a,r[a]?=some (ep g i)->gG g (ep g i)= .ofNat (a+1):=by
 have w:H (cd g) 0=true:=by rw[dz.2 u];rfl
 have e:gG g (ep g i)=fB (fun x:bT=>bY x.ints (ep g i).ints) (⟨0,.ofNat ln⟩::r) 0:=by
  unfold gG;rw[Fy hi];show(bif bd (ez g i) then fB _ (bV g (ez g i).loc) 0 else-1)=_;rw[hw,hl,ew w b];rfl
 rw[e];refine⟨fun h0=>?_,fun a d=>?_⟩
 ·exact sS (n:=0) Z (jY.2 h0.symm) fun k _ hk _=>absurd hk (nZ_ _)
 have:=sS (p:=fun x:bT=>bY x.ints (ep g i).ints) (l:=⟨0,.ofNat ln⟩::r) (i:=0) (n:=a+1) (x:=ep g i) (by simpa using d) (jY.2 Z) fun k y hk hy=>by
  cases z:bY y.ints (ep g i).ints with
  | false=>rfl
  | true=>
   have hy0:=jY.1 z
   match k,hk,hy with
   | 0,hk,hy=>
    have hy:some (⟨0,.ofNat ln⟩:bT)=some y:=hy;obtain⟨t,k,_,_,he,_,_⟩:=h.mem ln r a _ b d;rw[<-hy0] at he;rw[<-Option.some.inj hy] at he;have:(0:Int)=((t+1:Nat):Int):=congrArg bT.cH he;omega
   | k+1,hk,hy=>
    have:=h.uniq b (show r[k]?=some (ep g i) by rw[<-hy0];exact hy) d;omega
 rw[this,nA_]
theorem NP (w:dD g) (h:Rk g τ N_):cq (HF g) 0=true:=by
 unfold HF;rw[wJ];cases hb:(ie g).any (pc g) with
 | false=>rfl
 | true=>
  obtain⟨id,hm,b⟩:=List.any_eq_true.1 hb;obtain⟨i,hi⟩:=gO_ hm;have d:i<nV g:=(gA.1 hi).1;obtain rfl:ep g i=id:=Option.some.inj ((eT d).symm.trans hi);unfold pc at b;cases h0:H (ep g i).cH 0<;>rw[h0] at b
  rotate_left
  ·cases b
  rw[Fy d] at b;cases h3:H (ez g i).kind 3 with
  | false=>
   have:(bif bf (H (ez g i).kind 3) then false else bf (H (gG g<|ep g i)<|wr .i64<|Int.add (gG g<|Ld g<|ep g i) 1))=true:=b;rw[h3] at this;cases this
  | true=>
   have b:(bif bf (H (ez g i).kind 3) then false else bf (H (gG g<|ep g i)<|wr .i64<|Int.add (gG g<|Ld g<|ep g i) 1))=true:=b;rw[h3] at b;have b:bf (H (gG g<|ep g i)<|wr .i64<|Int.add (gG g<|Ld g<|ep g i) 1)=true:=b;have z:cD (ez g i)=true:=mT h3;have A:bd (ez g i)=true:=by unfold bd;rw[h3];cases H (ez g i).kind 2<;>rfl
   obtain⟨t,k,row,e,frow,q,h1,K,h4,h5,L,M,Q,_⟩:=yQ w d z;obtain⟨f,hf,aa,B,E,F,_⟩:=oz w d z;obtain⟨ln,r,hl,C,_⟩:=A0 w d A;obtain⟨j,hj,u⟩:=h.up t k row e frow q ln r K h4 (by rw[<-h5];exact h3) L M (by rw[<-h5];exact hl) C;have p1:=(za w h d A hl C).2 j (by rw[h1];exact hj);have hq:ep g f=q:=by rw[B,Q]
   have pf:=za w h hf E (by rw[F];exact hl) C;have ab:j<r.length:=(gA.1 hj).1;have hle:=jA (dz.2 w) r (gB_ C)
   have R:gG g (Ld g<|ep g i)= .ofNat j:=by
    rw[<-B];rcases u with ⟨rfl,G⟩ | ⟨a,rfl,S⟩
    ·exact pf.1 (by rw[hq];exact G)
    exact pf.2 a (by rw[hq];exact S)
   rw[p1,R,show wr .i64 (Int.add (.ofNat j) 1)= .ofNat (j+1) from aY oM,dL] at b;cases b
theorem N7 {m:Int} (d:dD g) (h:oS g) (hm:m=1∨m=2):vy m g=false:=by
 obtain⟨τ,N_,h⟩:=h;have z:H (cd g) 0=true:=by rw[dz.2 d];rfl
 have u:eD g 2=false:=by show bf (cq (HF g) 0)=false;rw[NP d h];rfl
 have A:eD g 3=false:=by show bf (cq (ld (nV g)<|Cu g) 0)=false;rw[xu (R:=Cu g) (f:=fun i=>τ<|ep g i) fun i j hi hj hp=>Tc.ua (f:=fun i=>τ<|ep g i) (fun a b B hb hab=>Nx d h B hb hab) (qR.1 hp)];rfl
 have C:eD g 4=false:=by show bf (cq (ld (nV g)<|DZ g) 0)=false;rw[xu (R:=DZ g) (f:=fun i=>τ<|ep g i) fun i j hi hj hp=>OH d h hp];rfl
 have E:eD g 5=false:=MX d h;have F:eD g 6=false:=by show bf (cq (ld (nV g)<|Br g) 0)=false;rw[xu (R:=Br g) (f:=fun i=>τ<|ep g i) fun i j hi hj hp=>Ov d h hi hj hp];rfl
 have w:eD g 1=false:=rfl;unfold vy;rw[z];rcases hm with rfl | rfl
 ·show(gg 1).any (eD g)=false;show [1,2,6].any (eD g)=false;simp only[List.any_cons,List.any_nil,w,u,F,Bool.or_false]
 show [1,2,3,4,5].any (eD g)=false;simp only[List.any_cons,List.any_nil,w,u,A,C,E,Bool.or_false]
end
section
variable {k:Nat} {l:List XC} {init ps:List Int}
theorem MO (h:vp k init l=0):Fc k l init.length:=fun c b=>⟨(Fz h c b).2.1,(Fz h c b).2.2.2⟩
theorem CJ {r:XM} {m:Int} (hi:fz k l r) (h:oS r.g) (hm:m=1∨m=2):wa m r.g=true:=by
 have:=N7 (dz.1 hi.Ib) h hm;unfold wa;rw[this];rcases hm with e | e<;>rw[e]<;>rfl
theorem z8 (b:xU k init l):fz k l (r6 k l (gn init l,[]) ps).1/\(r6 k l (gn init l,[]) ps).1.g.init=init:=by
 obtain⟨h1,d⟩:=(gX b).si (ps:=ps) (s:=(gn init l,[]));obtain⟨h3,h4,_⟩:=fz.ic (i:=l.length) h1;exact⟨h3,h4.trans d⟩
theorem Hm (b:xU k init l) {m:Int} (hm:m=1∨m=2):wa m (dF k l (gn init l,[]) ps).1.g=true:=by
 obtain⟨h1,_⟩:=(gX b).si (ps:=ps) (s:=(gn init l,[]));exact CJ h1 (vK (gX b) Jb) hm
theorem IF (b:xU k init l) {m:Int} (hm:m=1∨m=2):wa m (r6 k l (gn init l,[]) ps).1.g=true:=by
 obtain⟨h1,_⟩:=(gX b).si (ps:=ps) (s:=(gn init l,[]));exact CJ (z8 b).1 (FA (i:=l.length) h1<|vK (gX b) Jb) hm
theorem IG (h:vp k init l=0) (b:xU k init l):B0 k l (r6 k l (gn init l,[]) ps).1.mem (r6 k l (gn init l,[]) ps).1.g=true:=by
 obtain⟨h1,u⟩:=(gX b).si (ps:=ps) (s:=(gn init l,[]));obtain⟨h3,h4⟩:=z8 (ps:=ps) b;unfold B0;rw[h3.is];show((iP k l (r6 k l (gn init l,[]) ps).1.g).getD []).all (fun e=>bf (H e 0))=true;obtain⟨e,he,_⟩:=r7 (k:=k) (l:=l) (g:=(r6 k l (gn init l,[]) ps).1.g.threads) h3.len.symm h3.fits;unfold iP;rw[h3.Ib,h3.len,dL,dL,he];show e.all (fun e=>bf (H e 0))=true;refine wy he fun t c row d w=>?_
 exact BT (i:=l.length) h1 (by rw[u];exact MO h) (nR_ _) t (gA.1 d).1 c row d w
theorem Lc:dF k l (gn init l,[]) (r6 k l (gn init l,[]) ps).2=r6 k l (gn init l,[]) ps:=vk.ic (i:=l.length) (vk.si vk.base)
theorem Lb (b:xU k init l):(r6 k l (gn init l,[]) ps).2.length<=100:=by
 have h0:xT (gn init l,([]:List Int)):=by
  show 0=iK (List.replicate l.length []);generalize l.length=n;induction n with
  | zero=>rfl
  | succ n ih=>rw[List.replicate_succ,jb,<-ih];rfl
 have h1:xT (r6 k l (gn init l,[]) ps):=xT.ic (i:=l.length) (xT.si h0);have h2:=(z8 (ps:=ps) b).1;have hR:=dz.1 h2.Ib
 have h3:=CV (ls:=(r6 k l (gn init l,[]) ps).1.g.threads) fun x hx=>by
  obtain⟨i,hi⟩:=gO_ hx;exact hR.short i x hi
 have h4:=hR.threads;unfold xT at h1;omega
end
end Go.Ev
namespace Go.Ev
variable [Env]
open Go.Proofs
set_option maxRecDepth 4000
set_option maxHeartbeats 8000000
theorem xM {G:Cx} (A:Plain G) (M:G.fk 70=true) (Q:G.ov 106=true) (ab:G.HU 18 []=some (.bool true)) {K:KP} (X:∀O L,D O K L->ng G.gl O G.laid=true) (hgl:mF G K) {k:Nat} {init:List Int} {vi:V} (hi:bF K 1 ek init vi) {l:List XC} {lv:V} (hl:bF K 2 (lr K k) l lv) {ps:List Int} {pv:V} (hp:bF K 1 ek ps pv) {O:N} {L:Own} (ar:D O K L):
  a8 Tryz.prog G 7 [vi,lv,pv] O fun v O'=>v= .bool true:=by
 refine QO A Tryz.func7 Z<|Pz 8 Z<|bc Z (Rx Z Z Z) (fun _=>Z) (Ix (v:=.bool true) (A.h1 _ _ _) ab Z Z (X _ _ ar) ⟨Z,ar⟩) (fun O ar=>?_);refine Y Z (dq Z) Z<|Qi 3 Z<|O2 6 Z<|bR Z (Rx Z Z Z) (fun _=>Z) (E6 A hl _ ar) ?_;rintro _ O ⟨⟨bb,rfl,ba⟩,ar⟩;refine Y Z (dq Z) Z<|ky Z (an Z) (fun a0=>?_) (fun a0=>?_)
 ·refine PH 19 Z ?_;exact aB Z Z Z
 refine vQ 1 Z<|Y Z (RC hi Z Z Z (e:=2) Z) Z<|QV 2 Z<|ky Z (an Z) (fun a4=>?_) (fun a4=>?_)
 ·refine PH 14 Z ?_;exact aB Z Z Z
 refine vQ 1 Z<|Y Z (RC hp Z Z Z (e:=3) Z) Z<|Qi 4 Z<|aF Z (fun ac=>?_) (fun ac=>?_)
 ·refine Qh 7 Z ?_;exact aB Z Z Z
 refine PB 7 Z ?_;have B:ps.length<=100:=by have:=bz (b:=ps.length) (a:=60) ac;omega
 refine bR Z (Rx Z Z Z) (fun _=>Z) (Kk A M Q hgl hi hl hp B ar) ?_;rintro _ O ⟨K1,m1,a1,b1_,c1_,d1,n1,rfl,z,am,aa,ar⟩;replace hl:=hl.mono z fun _ _ h=>h.mono z;replace hgl:=hgl.mono z;replace hi:=hi.mono z fun _ _ h=>h;replace hp:=hp.mono z fun _ _ h=>h
 cases w:H (vp k init l) 0
 ·obtain⟨rfl,rfl,rfl,rfl,rfl,rfl⟩:=aa w;refine QV 4 Z<|kp ar Z (RD (cs:=[.av,.av,.av,.av,.av])) (fun O b1 ar=>?_);refine bE ar Z (RG Z Z Z ar.g0 (m:=5) Z Z (cells':=[_,_,_,_,_]) Z) Z (fun O ar=>?_);refine PF 9 Z<|bR Z (Rx Z Z Z) (fun _=>Z) (C4 A M Q hgl hi hl hp B ar) ?_;rintro _ O ⟨K2,m2,a2,b2_,c2_,d2,n2,rfl,d,R,C,ar⟩;replace hl:=hl.mono d fun _ _ h=>h.mono d;replace hgl:=hgl.mono d;replace hi:=hi.mono d fun _ _ h=>h;replace hp:=hp.mono d fun _ _ h=>h
  obtain⟨rfl,rfl,rfl,rfl,rfl,rfl⟩:=C w;refine QV 4 Z<|kp ar Z (RD (cs:=[.av,.av,.av,.av,.av])) (fun O b2 ar=>?_);refine bE ar Z (RG Z Z Z ar.g0 (m:=5) Z Z (cells':=[_,_,_,_,_]) Z) Z (fun O ar=>?_);refine O4 9 Z<|ky Z (an Z) (fun E=>?_) (fun E=>?_)
  ·refine PH 16 Z ?_;exact aB Z Z<|cB<|dL _
  exact absurd (bl E) (by rw[w];decide)
 obtain⟨hex,rfl,hm1,hg1⟩:=am w;refine QV 4 Z<|kp ar Z (RD (cs:=[.av,.av,.av,.av,.av])) (fun O b1 ar=>?_);refine bE ar Z (RG Z Z Z ar.g0 (m:=5) Z (af hm1.leaf.2<|af hg1.init.leaf.2<|af hg1.threads.leaf.2<|af hg1.from_.leaf.2<|af hg1.order.leaf.2 aA) (cells':=[_,_,_,_,_]) Z) Z (fun O ar=>?_);refine PF 9 Z<|bR Z (Rx Z Z Z) (fun _=>Z) (C4 A M Q hgl hi hl hp B ar) ?_;rintro _ O ⟨K2,m2,a2,b2_,c2_,d2,n2,rfl,d,R,C,ar⟩;replace hl:=hl.mono d fun _ _ h=>h.mono d;replace hgl:=hgl.mono d;replace hi:=hi.mono d fun _ _ h=>h;replace hp:=hp.mono d fun _ _ h=>h
 replace hm1:=hm1.mono d fun _ _ h=>h;replace hg1:=hg1.mono d
 obtain⟨_,hS2,hm2,hg2⟩:=R w;refine QV 4 Z<|kp ar Z (RD (cs:=[.av,.av,.av,.av,.av])) (fun O b2 ar=>?_);refine bE ar Z (RG Z Z Z ar.g0 (m:=5) Z (af hm2.leaf.2<|af hg2.init.leaf.2<|af hg2.threads.leaf.2<|af hg2.from_.leaf.2<|af hg2.order.leaf.2 aA) (cells':=[_,_,_,_,_]) Z) Z (fun O ar=>?_);refine O4 9 Z<|ky Z (an Z) (fun E=>?_) (fun E=>?_)
 ·exact absurd (cC E) (by rw[w];decide)
 refine Qi 5 Z<|aF Z (fun ao=>?_) (fun ao=>?_)
 ·exact absurd (cC ao) (by rw[w];decide)
 refine PK ar 5 [1] Z Z<|Y Z (RB Z ar.g1 (n:=4) (vs:=[_,_,_,_]) Z) Z<|bR Z (Rx Z Z Z) (fun _=>Z) (zb A hg1 1 ar) ?_;rintro _ O ⟨rfl,ar⟩;rw[Hm hex (m:=1) oM,show BK 1=0 from Z];refine PL ar 10 [1] Z Z<|Y Z (RB Z ar.g0 (n:=4) (vs:=[_,_,_,_]) Z) Z<|bR Z (Rx Z Z Z) (fun _=>Z) (zb A hg2 2 ar) ?_;rintro _ O ⟨rfl,ar⟩;rw[IF hex (m:=2) oM,show BK 2=0 from Z];refine PF 12 Z<|bR Z (Rx Z Z Z) (fun _=>Z) (Kk A M Q hgl hi hl hS2 (Lb hex) ar) ?_;rintro _ O ⟨K3,m3,a3,b3_,c3_,d3,n3,rfl,u,S,a5,ar⟩;replace hl:=hl.mono u fun _ _ h=>h.mono u;replace hgl:=hgl.mono u;replace hi:=hi.mono u fun _ _ h=>h;replace hp:=hp.mono u fun _ _ h=>h
 replace hm1:=hm1.mono u fun _ _ h=>h;replace hg1:=hg1.mono u
 replace hm2:=hm2.mono u fun _ _ h=>h;replace hg2:=hg2.mono u
 replace hS2:=hS2.mono u fun _ _ h=>h
 rw[Lc] at S;obtain⟨_,rfl,ap,F⟩:=S w;refine QV 4 Z<|kp ar Z (RD (cs:=[.av,.av,.av,.av,.av])) (fun O b3 ar=>?_);refine bE ar Z (RG Z Z Z ar.g0 (m:=5) Z (af ap.leaf.2<|af F.init.leaf.2<|af F.threads.leaf.2<|af F.from_.leaf.2<|af F.order.leaf.2 aA) (cells':=[_,_,_,_,_]) Z) Z (fun O ar=>?_);refine PF 7 Z<|Y Z (RB Z (ar.get 2 Z) (n:=5) (vs:=[_,_,_,_,_]) Z) Z<|bR Z (Rx Z Z Z) (fun _=>Z) (QH A hgl hl hm1 hg1 ar) ?_;rintro _ O ⟨rfl,ar⟩;rw[((gX hex).si (ps:=ps) (s:=(gn init l,[]))).1.is];refine QV 2 Z<|Y Z (RB Z ar.g1 (n:=5) (vs:=[_,_,_,_,_]) Z) Z<|bR Z (Rx Z Z Z) (fun _=>Z) (NU A hgl hl hm2 hg2 ar) ?_;rintro _ O ⟨rfl,ar⟩;rw[IG (eqv w) hex];refine QV 5 Z<|ky Z (an Z) (fun aq=>?_) (fun aq=>?_)
 ·refine QV 6 Z<|ky Z (an Z) (fun aE=>?_) (fun aE=>?_)
  ·refine QV 6 Z<|ky Z (an Z) (fun T=>?_) (fun T=>?_)
   ·refine QV 2 Z<|Y Z (RC hS2 Z Z Z (e:=3) Z) Z<|QV 2 Z<|ky Z (an Z) (fun W=>?_) (fun W=>?_)
    ·refine Y Z (RB Z ar.g1 (n:=5) (vs:=[_,_,_,_,_]) Z) Z<|Y Z (RB Z ar.g0 (n:=5) (vs:=[_,_,_,_,_]) Z) Z<|bc Z (Rx Z Z Z) (fun _=>Z) (by have q:=Ko A hm2 ap hg2 F ar;rw[de.2 Z,de.2 Z] at q;exact q) (fun O ar=>?_);refine Qk 5 Z ?_;exact aB Z Z<|cB (by simp[w,dL])
    exact absurd W (by first | decide | (rw[dL];decide) | (rw[w];decide) | (rw[eqI_comm,w];decide))
   exact absurd T (by first | decide | (rw[dL];decide) | (rw[w];decide) | (rw[eqI_comm,w];decide))
  exact absurd aE (by first | decide | (rw[dL];decide) | (rw[w];decide) | (rw[eqI_comm,w];decide))
 exact absurd aq (by first | decide | (rw[dL];decide) | (rw[w];decide) | (rw[eqI_comm,w];decide))
section
variable {H_:Type} {O:N}
theorem FH (B:∀(b:Nat) (o:cN),O.m.get b=some o->b<O.next):∀(fuel:Nat) (d:DataW H_) (vs:List V),Fit Tryz.prog fuel 82 d->eA Tryz.prog O fuel 82 d vs->jd (vO O) fuel (HB fuel d) vs
 | 0,_,_,hf,_=>hf.elim
 | 1,d,vs,hf,u=>by
  obtain⟨_,h⟩:=qQ (m:=4) Tryz.underlying82 U U hf u;exact(h 0 _ Z).1.elim
 | fuel+2,d,vs,hf,u=>by
  obtain⟨hl,h⟩:=qQ (m:=4) Tryz.underlying82 U U hf u
  obtain⟨a,b,c,e,rfl⟩:∃a b c e,vs= [a,b,c,e]:=by
   match vs,hl with
   | [a,b,c,e],_=>exact⟨a,b,c,e,Z⟩
  obtain⟨C,E⟩:Fit Tryz.prog _ 3 (eK d 0)/\eA Tryz.prog O _ 3 (eK d 0) (([a,b,c,e].drop 0).take<|Tryz.prog.cellsOf 3):=h 0 _ Z;obtain⟨F,G⟩:Fit Tryz.prog _ 2 (eK d 1)/\eA Tryz.prog O _ 2 (eK d 1) (([a,b,c,e].drop 1).take<|Tryz.prog.cellsOf 2):=h 1 _ Z;obtain⟨K,L⟩:Fit Tryz.prog _ 9 (eK d 2)/\eA Tryz.prog O _ 9 (eK d 2) (([a,b,c,e].drop 2).take<|Tryz.prog.cellsOf 9):=h 2 _ Z;obtain⟨M,Q⟩:Fit Tryz.prog _ 77 (eK d 3)/\eA Tryz.prog O _ 77 (eK d 3) (([a,b,c,e].drop 3).take<|Tryz.prog.cellsOf 77):=h 3 _ Z;have R:Tryz.prog.cellsOf 3=1:=by kernel_rfl
  have S:Tryz.prog.cellsOf 2=1:=by kernel_rfl
  have T:Tryz.prog.cellsOf 9=1:=by kernel_rfl
  have z:Tryz.prog.cellsOf 77=1:=by kernel_rfl
  have e0:=(nf Tryz.underlying3 C E).1;have e1:=(nf Tryz.underlying2 F G).1;have e2:=NL Tryz.underlying9 K L;obtain⟨v,A,W⟩:=nM (m:=4) (HB fuel) (jd (vO O) fuel) Tryz.underlying77 U (by decide) B M Q fun x vs hf u=>FH B fuel x vs hf u
  rw[R] at e0;rw[S] at e1;rw[T] at e2;rw[z] at A;simp only[List.drop_zero,List.take_succ_cons,List.take_zero,List.drop_succ_cons,List.cons.injEq,and_true] at e0 e1 e2 A;subst e0;subst e1;subst e2;subst A;show∃w,_= [_,_,_,w]/\bF (vO O) 4 (jd (vO O) (fuel+1)) ((jq<|eK d 3).map<|HB fuel) w;exact⟨_,Z,W.I8 fun x vs h=>jd.up h⟩
theorem Lg (B:∀(b:Nat) (o:cN),O.m.get b=some o->b<O.next) (fuel:Nat) (d:DataW H_) (vs:List V) (hf:Fit Tryz.prog (fuel+2) 79 d) (z:eA Tryz.prog O (fuel+2) 79 d vs):iB (vO O) fuel (NM fuel d) vs:=by
 obtain⟨hl,h⟩:=qQ (m:=6) Tryz.underlying79 U U hf z
 obtain⟨a,b,c,e,g,i,rfl⟩:∃a b c e g i,vs= [a,b,c,e,g,i]:=by
  match vs,hl with
  | [a,b,c,e,g,i],_=>exact⟨a,b,c,e,g,i,Z⟩
 obtain⟨C,E⟩:Fit Tryz.prog _ 3 (eK d 0)/\eA Tryz.prog O _ 3 (eK d 0) (([a,b,c,e,g,i].drop 0).take<|Tryz.prog.cellsOf 3):=h 0 _ Z;obtain⟨F,G⟩:Fit Tryz.prog _ 3 (eK d 1)/\eA Tryz.prog O _ 3 (eK d 1) (([a,b,c,e,g,i].drop 1).take<|Tryz.prog.cellsOf 3):=h 1 _ Z;obtain⟨K,L⟩:Fit Tryz.prog _ 3 (eK d 2)/\eA Tryz.prog O _ 3 (eK d 2) (([a,b,c,e,g,i].drop 2).take<|Tryz.prog.cellsOf 3):=h 2 _ Z;obtain⟨M,Q⟩:Fit Tryz.prog _ 3 (eK d 3)/\eA Tryz.prog O _ 3 (eK d 3) (([a,b,c,e,g,i].drop 3).take<|Tryz.prog.cellsOf 3):=h 3 _ Z;obtain⟨R,S⟩:Fit Tryz.prog _ 3 (eK d 4)/\eA Tryz.prog O _ 3 (eK d 4) (([a,b,c,e,g,i].drop 4).take<|Tryz.prog.cellsOf 3):=h 4 _ Z;obtain⟨T,W⟩:Fit Tryz.prog _ 77 (eK d 5)/\eA Tryz.prog O _ 77 (eK d 5) (([a,b,c,e,g,i].drop 5).take<|Tryz.prog.cellsOf 77):=h 5 _ Z;have X:Tryz.prog.cellsOf 3=1:=by kernel_rfl
 have u:Tryz.prog.cellsOf 77=1:=by kernel_rfl
 have e0:=(nf Tryz.underlying3 C E).1;have e1:=(nf Tryz.underlying3 F G).1;have e2:=(nf Tryz.underlying3 K L).1;have e3:=(nf Tryz.underlying3 M Q).1;have e4:=(nf Tryz.underlying3 R S).1;obtain⟨v,A,hs⟩:=nM (m:=4) (HB fuel) (jd (vO O) fuel) Tryz.underlying77 U (by decide) B T W fun x vs hf z=>FH B fuel x vs hf z
 rw[X] at e0 e1 e2 e3 e4;rw[u] at A;simp only[List.drop_zero,List.take_succ_cons,List.take_zero,List.drop_succ_cons,List.cons.injEq,and_true] at e0 e1 e2 e3 e4 A;subst e0;subst e1;subst e2;subst e3;subst e4;subst A;exact⟨_,Z,hs⟩
theorem Lf (A:∀(b:Nat) (o:cN),O.m.get b=some o->b<O.next) (fuel:Nat) (d:DataW H_) (vs:List V) (hf:Fit Tryz.prog (fuel+4) 33 d) (u:eA Tryz.prog O (fuel+4) 33 d vs):lr (vO O) fuel (LZ fuel d) vs:=by
 obtain⟨hl,h⟩:=qQ (m:=2) Tryz.underlying33 U U hf u
 obtain⟨a,b,rfl⟩:∃a b,vs= [a,b]:=by
  match vs,hl with
  | [a,b],_=>exact⟨a,b,Z⟩
 obtain⟨B,C⟩:Fit Tryz.prog _ 3 (eK d 0)/\eA Tryz.prog O _ 3 (eK d 0) (([a,b].drop 0).take<|Tryz.prog.cellsOf 3):=h 0 _ Z;obtain⟨E,F⟩:Fit Tryz.prog _ 31 (eK d 1)/\eA Tryz.prog O _ 31 (eK d 1) (([a,b].drop 1).take<|Tryz.prog.cellsOf 31):=h 1 _ Z;have G:Tryz.prog.cellsOf 3=1:=by kernel_rfl
 have z:Tryz.prog.cellsOf 31=1:=by kernel_rfl
 have e0:=(nf Tryz.underlying3 B C).1;obtain⟨v,e1,K⟩:=nM (m:=6) (NM fuel) (iB (vO O) fuel) Tryz.underlying31 U (by decide) A E F fun x vs hf u=>Lg A fuel x vs hf u
 rw[G] at e0;rw[z] at e1;simp only[List.drop_zero,List.take_succ_cons,List.take_zero,List.drop_succ_cons,List.cons.injEq,and_true] at e0 e1;subst e0;subst e1;exact⟨_,Z,K⟩
theorem IN (z:∀(b:Nat) (o:cN),O.m.get b=some o->b<O.next) (fuel:Nat) (d:DataW H_) (vs:List V) (hf:Fit Tryz.prog (fuel+5) 27 d) (u:eA Tryz.prog O (fuel+5) 27 d vs):∃v,vs= [v]/\bF (vO O) 2 (lr (vO O) fuel) ((jq d).map<|LZ fuel) v:=
 nM (m:=2) (LZ fuel) (lr (vO O) fuel) Tryz.underlying27 U (by decide) z hf u fun x vs hf u=>Lf z fuel x vs hf u
end
section
variable {H_:Type} {enc:TypeId×Value->H_} {w:World}
def On (w:World) (v:Value):Prop:=v= .slice none 0 0∨∃(a:Addr) (len cap:Nat) (c:Array Value) (e:TypeId) (fr:Nat×Nat),v= .slice (some a) len cap/\w.heap[a.block]?=some (.cells c e fr)
theorem Jf {base:Nat} {t e:TypeId} {v:Value} (hu:Tryz.prog.underlying t=some (.slice e)) (b:Cell.okWide Tryz.prog w .any base t v):On w v:=by
 unfold Cell.okWide at b;rw[hu] at b;dsimp only at b;unfold Cell.ok at b;rw[hu] at b;cases v with
 | slice a len cap=>
  cases a with
  | none=>
   try dsimp only at b
   split at b<;>first | (rename_i he;cases he;done) | skip
   all_goals first
    | (rename_i he;cases he;exact .inl Z)
    | (rename_i h1 u;cases u;done)
    | exact b.elim
  | some a=>
   obtain⟨_,_,_,aa,row,cells,d,_⟩:=b;unfold World.shape? at d;split at d
   ·rename_i c e fr hh;exact .inr ⟨a,len,cap,c,e,fr,Z,hh⟩
   cases d
 | _=>exact b.elim
theorem trodAll_cons {P:Program} {ts:List TypeId} {t:TypeId} {vs:List Value} {ds:List (DataW H_)} {ps:List MemPlace} {sp:Nat->Bool} (h:DataW.TrodAll enc P w 0 sp true (t::ts) vs ds ps):
  ∃v vs' d ds',vs=v::vs'/\ds=d::ds'/\(∃n p,DataW.trod enc P w 0 sp true n t v.cells.toList=some (d,p))/\∃q,DataW.TrodAll enc P w 0 sp true ts vs' ds' q:=by
 match vs,ds,h with
 | v::vs',d::ds',⟨p,q,⟨n,h1⟩,b,_⟩=>exact⟨v,vs',d,ds',Z,Z,⟨n,p,h1⟩,q,b⟩
theorem trodAll_nil {P:Program} {vs:List Value} {ds:List (DataW H_)} {ps:List MemPlace} {sp:Nat->Bool} (h:DataW.TrodAll enc P w 0 sp true [] vs ds ps):vs= []/\ds= []:=by
 match vs,ds,h with
 | [],[],_=>exact⟨Z,Z⟩
end
end Go.Ev
end
