/- Part of the proof: an evaluator of the model's code, rules for walks on it, walks. Without conditions. -/
import Derived.Test.YtpomgjnfncgkgaaGreatDoorEb
import Derived.Test.YtpomgjnfncgkgaaGreatDoorEe
import Derived.Test.YtpomgjnfncgkgaaGreatDoorEd
import Derived.Test.YtpomgjnfncgkgaaGreatDoorProg
import Derived.KernelRfl
set_option linter.unusedSectionVars false
set_option linter.unusedVariables false
set_option linter.unusedSimpArgs false
noncomputable section
namespace Go.Ev
variable [Env]
open Go.Proofs
set_option maxRecDepth 4000
set_option maxHeartbeats 8000000
theorem JK {K:H} {m:List Int} {u z A C E F:Int} (hm:p8 m u z A C E F) {a b c d:V} {bb e:Nat} {ro:Bool} (hb:K bb (.row (c6 u z A C E F a b c d) e ro)):bJ K 1 cz m (.slice bb 0 m.length (.known 6)):=by
 have h6:=hm.le;refine .inr ⟨bb,0,_,_,e,ro,Z,.inr ⟨_,Z,h6⟩,hb,by show 0+m.length*1<=10;omega,by omega,fun i x hx=>?_⟩;have hi:=(gA.1 hx).1;obtain⟨y,hy,G⟩:=hm.at_ (a:=a) (b:=b) (c:=c) (d:=d) hi;rw[hx] at hy;cases hy;rw[eL] at G;rw[cO G];rfl
theorem I5 {P:Program} {U:I} {K:H} {L:Own} {bb e:Nat} {a b c d:V} (aq:J U K ((bb,.row (c6 0 0 0 0 0 0 a b c d) e false)::L)) {init:List Int} {vi:V} (hi:bJ K 1 cz init vi) (R:init.length<=6) {ts:Array TypeId} {t ty:TypeId} (W:ts[0]?=some t) (hu:P.underlying t=some (.slice ty)) (hj:(P.info? ty).map (·.size)=some 1):
  ∃(U':I) (v:V) (E F G M Q y5:Int),sb P U ts (.slice bb 0 6 (.known 6)) vi= .val v U'/\J U' K ((bb,.row (c6 E F G M Q y5 a b c d) e false)::L)/\p8 init E F G M Q y5:=by
 obtain⟨j,A,C⟩:=oM_.1 hj;obtain⟨news,X,s2,s3,s4⟩:=oL aq hi cz.leaf
 have u:news=init.map gZ:=by
  refine List.ext_getElem? fun i=>?_
  rw[gM_];cases hx:init[i]? with
  | none=>
   show news[i]?=none;rw[List.getElem?_eq_none_iff] at hx⊢;rw[s2];omega
  | some x=>
   have:=s4 i x hx;rw[Nat.mul_one] at this;have z:i<news.length:=by have:=(gA.1 hx).1;omega
   rw[List.drop_eq_getElem_cons z] at this;have h1: [news[i]]= [V.int .i64 x]:=this;rw[gC z];exact congrArg some (List.cons.inj h1).1
 subst u;have hb:=aq.get 0 Z;unfold sb;rw[W];dsimp only;rw[hu];dsimp only;rw[A];dsimp only;rw[C,X];dsimp only
 match init,R with
 | [],_=>exact⟨U,_,0,0,0,0,0,0,Z,aq,Z⟩
 | [q0],_=>simp only[hb];exact⟨_,_,q0,0,0,0,0,0,Z,aq.pP _,Z⟩
 | [q0,q1],_=>simp only[hb];exact⟨_,_,q0,q1,0,0,0,0,Z,aq.pP _,Z⟩
 | [q0,q1,q2],_=>simp only[hb];exact⟨_,_,q0,q1,q2,0,0,0,Z,aq.pP _,Z⟩
 | [q0,q1,q2,q3],_=>simp only[hb];exact⟨_,_,q0,q1,q2,q3,0,0,Z,aq.pP _,Z⟩
 | [q0,q1,q2,q3,q4],_=>simp only[hb];exact⟨_,_,q0,q1,q2,q3,q4,0,Z,aq.pP _,Z⟩
 | [q0,q1,q2,q3,q4,q5],_=>simp only[hb];exact⟨_,_,q0,q1,q2,q3,q4,q5,Z,aq.pP _,Z⟩
theorem Lc {P:Program} {G:Cx} {ev:Operand->Option V} {U:I} {cl:Call} {so xo:Operand} {s x:V} {r:HR} (hc:cl.callee= .builtin .copy) (u:cl.args.toList= [so,xo]) (h1:ev so=some s) (z:ev xo=some x) (h:sb P U cl.argTypes s x=r):dX P G ev U (.call cl)=r:=by
 refine lA (by simp[kindOf,hc]) ?_
 have he:uw ev [so,xo]=some [s,x]:=by
  unfold uw cU;simp only[h1,z]
 simp only[gK,hc,u,he,h]
theorem No {g:XG} (h:cu g=0):ND g:=by
 obtain⟨b1,b2,u,z,b5,A,b7⟩:=cR h;exact⟨by omega,by omega,fun l hl=>by have:=u l hl;omega,by omega,fun l hl=>by have:=nd A z u l hl;omega,by omega,fun l hl=>by have:=kr h l hl;omega⟩
theorem Oz {G:Cx} (W:Plain G) {K:H} {g:XG} {a b c d:V} (C:cu g=0) (X:ej K g a b c d) {U:I} {L:Own} (aq:J U K L):bm Tryz.prog G 93 [.agg [a,b,c,d]] U fun v U'=>∃A a' b' c' d',v= .agg [a',b',c',d']/\H.le K A/\ej A g a' b' c' d'/\J U' A L:=by
 refine QX W Tryz.func93 Z<|QA 2 Z<|kp aq Z (cA Z Z) (fun U b1 aq=>?_);refine kp aq Z (RH (cs:=[.au,.au,.au,.au])) (fun U b2 aq=>?_);refine P1 4 Z<|O Z (RF Z aq.g1 (n:=4) (vs:=[_,_,_,_]) Z) Z<|cd Z (RC Z Z Z) (fun _=>Z) (yL W X (No C) aq) ?_;rintro _ U ⟨u1,M1,q2,E,M2,q3,F,M3,q4,Q,M4,rfl,R,aq⟩;have hfew:=No C;obtain⟨A,hle,u,aq⟩:=J.eb (U:=U) (K:=K) (L:=_::_::L) (M:=M4++(q4,.row Q 74 false)::(M3++(q3,.row F 74 false)::(M2++(q2,.row E 57 false)::M1))) (by simpa only[lQ_,List.cons_append] using aq);have z:ej A g u1 (.slice q2 0 g.threads.length (.known g.threads.length)) (.slice q3 0 g.from_.length (.known g.from_.length)) (.slice q4 0 g.order.length (.known g.order.length)):=qz (T1:=57) (T2:=74) (T3:=74) R.init R.threads R.from_ R.order (fun e he=>u e (by simp[he])) (fun e he=>u e (by simp[he])) (fun e he=>u e (by simp[he])) (fun e he=>u e (by simp[he])) (u (q2,.row E 57 false) (by simp)) (u (q3,.row F 74 false) (by simp)) (u (q4,.row Q 74 false) (by simp)) Z Z Z (by have:=hfew.2.1;omega) (by have:=hfew.2.2.2.1;omega) (by have:=hfew.2.2.2.2.2.1;omega);clear u;refine bF aq Z (RK Z Z Z aq.g0 (m:=4) Z (N z.init.leaf.2<|N z.threads.leaf.2<|N z.from_.leaf.2<|N z.order.leaf.2 aA) (cells':=[_,_,_,_]) Z) Z (fun U aq=>?_);refine QE 3 Z ?_;exact eW Z Z aq.g0 (m:=4) Y Z ⟨A,_,_,_,_,Z,hle,z,aq.pop.pop⟩
theorem Iq {P:Program} {ev:Operand->Option V} {t e n h bb:Nat} {x hi:Operand} {k:IntKind} (z:P.underlying t=some (.array n e)) (hj:(P.info? e).map (·.size)=some 1) (hx:ev x=some (.ptr bb 0)) (A:ev hi=some (.int k (.ofNat h))) (hl:h<=n):di P ev (.slice t x none (some hi) none)=some (.slice bb 0 h (.known n)):=by
 obtain⟨j,u,aa⟩:=oM_.1 hj;have hb:dc ev n n none (some hi)=some (0,h):=pf A hl;simp only[di,fD,z,hx,cutAt,hb,cut,u];cases Nat.beq n 0<;>simp
theorem Fz {P:Program} {ev:Operand->Option V} {t e n bb:Nat} {x:Operand} (z:P.underlying t=some (.array n e)) (hj:(P.info? e).map (·.size)=some 1) (hx:ev x=some (.ptr bb 0)):di P ev (.slice t x none none none)=some (.slice bb 0 n (.known n)):=by
 obtain⟨j,u,aa⟩:=oM_.1 hj;have hb:dc ev n n none none=some (0,n):=rfl;simp only[di,fD,z,hx,cutAt,hb,cut,u];cases Nat.beq n 0<;>simp
theorem FR {G:Cx} (Q:Plain G) {K:H} {r:XM} (R:cu r.g=0) (W:r.mem.length=r.g.init.length) {a b c d:V} (hg:ej K r.g a b c d) {x0 x1 x2 x3 x4 x5:Int} (hm:p8 r.mem x0 x1 x2 x3 x4 x5) {U:I} {L:Own} (aq:J U K L):
  bm Tryz.prog G 55 [.agg [.int .i64 x0,.int .i64 x1,.int .i64 x2,.int .i64 x3,.int .i64 x4,.int .i64 x5,a,b,c,d]] U fun v U'=>∃F mv a' b' c' d',v= .agg [mv,a',b',c',d']/\H.le K F/\bJ F 1 cz r.mem mv/\ej F r.g a' b' c' d'/\J U' F L:=by
 have h6:=hm.le;refine QX Q Tryz.func55 Z<|QA 2 Z<|kp aq Z (cA Z Z) (fun U b1 aq=>?_);obtain⟨K0,E,u,aq⟩:=aq.eb (M:=[_]);have hb:=u _ (.head _);clear u;dsimp only at hb;replace hg:=hg.mono E;refine kp aq Z (RH (cs:=[.au,.au,.au,.au,.au])) (fun U b2 aq=>?_);refine P0 3 Z (aS (l:=[(0,[]),(1,[]),(2,[]),(3,[]),(4,[]),(5,[]),(7,[]),(8,[]),(6,[8]),(9,[]),(10,[]),(11,[])]) Y Y<|Q8 aq 3 [0,6,0] Z Z<|al Z Z (RE Z (aq.fx hb) Z) Z<|al Z Z (RG hg.init Z Z Z (e:=2) Z) Z ?_);refine al Z Z (bf (v:=.slice b1 0 r.mem.length (.known 6)) Z<|Iq (e:=2) (n:=6) Y Y Z (show _=some (V.int .i64 (.ofNat r.mem.length)) from by rw[W];rfl) h6) Z ?_;refine al Z Z (RD 6 Z) Z<|al Z Z (RF Z (aq.fx hb) (n:=4) (vs:=[_,_,_,_]) Z) Z<|ic Z Z (RC Z Z Z) (fun _=>Z) (uW Q (JK hm hb) B aq) ?_;rintro mv U ⟨MM,X,aq⟩;obtain⟨K2,A,u,aq⟩:=aq.eb;have hmv:=X.iB (K:=K2) fun y hy=>u _ hy;clear u;replace hb:=A _ _ hb;replace hg:=hg.mono A
 refine⟨(bx (bO Z Z Z Z Z (RF Z (aq.fx hb) (n:=4) (vs:=[_,_,_,_]) Z)<|fK<|bK hg.init.eI<|bK hg.threads.eI<|bK hg.from_.eI<|bK hg.order.eI eP) aT),?_⟩;refine ic Z Z (RC Z Z Z) (fun _=>Z) (Oz Q R hg aq) ?_;rintro _ U ⟨F,a2,b2_,c2,d2,rfl,z,C,aq⟩;replace hb:=z _ _ hb;replace hg:=hg.mono z;replace hmv:=hmv.mono z fun _ _ h=>h
 refine⟨aT,?_⟩;refine al Z Z (bE (places:=[(0,1),(1,4)]) (zero:=[.au,.au,.au,.au,.au]) (cs:=[_,_,_,_,_]) Y Y Y (bA Z Z hmv.leaf.1 Z<|bA Z Z Z Z bH) Y) Z<|iE aq Z Z (RK Z Z Z aq.g0 (m:=5) Z (N hmv.leaf.2<|N C.init.leaf.2<|N C.threads.leaf.2<|N C.from_.leaf.2<|N C.order.leaf.2 aA) (cells':=[_,_,_,_,_]) Z) Z (fun U aq=>?_);refine⟨aT,?_⟩;refine QG 3 Z ?_;exact eW Z Z aq.g0 (m:=5) Y Z ⟨F,_,_,_,_,_,Z,H.le_trans E<|H.le_trans A z,hmv,C,aq.pop⟩
theorem BQ {G:Cx} (E:Plain G) {K:H} (F:mK G K) {k:Nat} {init:List Int} {vi:V} (hi:bJ K 1 cz init vi) {l:List XC} {lv:V} (hl:bJ K 2 (jc K k) l lv) {U:I} {L:Own} (aq:J U K L):
  bm Tryz.prog G 63 [vi,lv] U fun v U'=>(D (nm k init l) 0=false/\v= .tuple [.agg BX,.int .i64<|nm k init l]/\J U' K L)∨
   (Hi k init l/\D (nm k init l) 0=true/\∃A M Q R W X x5 a b c d,v= .tuple [.agg [.int .i64 M,.int .i64 Q,.int .i64 R,.int .i64 W,.int .i64 X,.int .i64 x5,a,b,c,d],T]/\H.le K A/\ej A (J1 init l.length) a b c d/\p8 init M Q R W X x5/\J U' A L):=by
 refine QX E Tryz.func63 Z<|QA 2 Z<|kp aq Z (RH (cs:=[T,T,T,T,T,T,.au,.au,.au,.au])) (fun U b1 aq=>?_);refine Pw 8 Z<|bj Z (RC Z Z Z) (fun _=>Z) (Iy E F hi hl aq) (fun U aq=>?_);refine QC 9 Z<|aD Z (fun z=>?_) (fun z=>?_)
 ·refine QA 2 Z (O Z (RB (places:=[(0,6),(6,4)]) (zero:=[T,T,T,T,T,T,.au,.au,.au,.au]) (cs:=[_,_,_,_,_,_,_,_,_,_]) Z) Z<|vQ 1 Z<|bF aq Z (RK Z Z Z aq.g0 (m:=10) Z Z (cells':=[_,_,_,_,_,_,_,_,_,_]) Z) Z (fun U aq=>?_));refine P3 5 Z ?_;exact bB Z Z aq.g0 (m:=10) Y Z Z (.inl ⟨bN z,Z,aq.pop⟩)
 refine PX 6 Z<|O Z (RG hl Z Z Z (e:=33) Z) Z ?_;have hex:=AS (k:=k) (init:=init) (l:=l) (eqv<|bn z);have hel:=hex.len;have hei:=hex.init;refine cd Z (RC Z Z Z) (fun _=>Z) (PJ E hi hei (t:=l.length) hel aq) ?_;rintro _ U ⟨A,a,b,c,d,rfl,hle,u,aq⟩;replace hi:=hi.mono hle fun _ _ h=>h
 refine Q3 3 Z<|kp aq Z (RH (cs:=[.au,.au,.au,.au])) (fun U b2 aq=>?_);refine bF aq Z (RK Z Z Z aq.g0 (m:=4) Z (N u.init.leaf.2<|N u.threads.leaf.2<|N u.from_.leaf.2<|N u.order.leaf.2 aA) (cells':=[_,_,_,_]) Z) Z (fun U aq=>?_);refine P0 10 Z<|aD Z (fun C=>?_) (fun C=>?_)
 ·exact absurd C (by decide)
 refine PX 4 Z (O Z (RF Z aq.g0 (n:=4) (vs:=[_,_,_,_]) Z) Z (O Z (RB (places:=[(0,6),(6,4)]) (zero:=[T,T,T,T,T,T,.au,.au,.au,.au]) (cs:=[_,_,_,_,_,_,_,_,_,_]) Z) Z<|kp aq Z (RH (cs:=[T,T,T,T,T,T,.au,.au,.au,.au])) (fun U b3 aq=>?_)));refine bF aq Z (RK Z Z Z aq.g0 (m:=10) Z (N Z<|N Z<|N Z<|N Z<|N Z<|N Z<|N u.init.leaf.2<|N u.threads.leaf.2<|N u.from_.leaf.2<|N u.order.leaf.2 aA) (cells':=[_,_,_,_,_,_,_,_,_,_]) Z) Z (fun U aq=>?_);refine Qa aq 5 [0] Z Z ?_;refine O Z (bf (v:=.slice b3 0 6 (.known 6)) Z<|Fz (e:=2) (n:=6) Y Y Z) Z ?_;refine vQ 1 Z ?_;obtain⟨U,ab,M,Q,R,W,X,x5,aa,aq,hm⟩:=I5 (P:=Tryz.prog) (ts:= #[22,22]) (t:=22) (ty:=2) aq hi hei Z Y Y;refine O Z (Lc Z Z Z Z aa) Z<|P1 4 Z<|O Z (RF Z aq.g0 (n:=10) (vs:=[_,_,_,_,_,_,_,_,_,_]) Z) Z<|xU aq Z (RK Z Z Z (aq.get 2 Z) (m:=10) Z (N Z<|N Z<|N Z<|N Z<|N Z<|N Z<|N u.init.leaf.2<|N u.threads.leaf.2<|N u.from_.leaf.2<|N u.order.leaf.2 aA) (cells':=[_,_,_,_,_,_,_,_,_,_]) Z) Z (fun U aq=>?_);refine QE 4 Z ?_;exact bB Z Z (aq.get 2 Z) (m:=10) Y Z Z (.inr ⟨hex,bn z,A,_,_,_,_,_,_,_,_,_,_,Z,hle,u,hm,aq.pop.pop.pop⟩)
theorem jN {P:Program} {fn:Func} {R:V->I->Prop} {t:PT V} {U:I} {j k q ty bb m e:Nat} {ro:Bool} {cells:List V} {v w:V} (z:fn.results.toList= [.cell j ty,.tmp k,.tmp q]) (h1:t.get j=some (.ptr bb 0)) (hm:U.m.get bb=some (.row cells e ro)) (A:dO P ty=some (some m)) (u:cells.length=m) (C:t.get k=some v) (E:t.get q=some w) (F:R (.tuple [.agg cells,v,w]) U):AO P fn R .ret t U:=by
 refine⟨.inr Z,_,?_,F⟩;unfold fg;rw[z]
 have e1:fS P t U (.cell j ty)=some (V.agg cells):=by
  show(match t.get (posOf j) with
   | some (.ptr b off)=>match U.m.get b with
    | some (.row cells _ _)=>match dO P ty with
     | some (some n)=>bif Nat.ble (off+n) (cY cells) then some (V.agg<|takeN (dP cells off) n) else none
     | some none=>nth cells off
     | none=>none
    | _=>none
   | _=>none)=_
  rw[show t.get (posOf j)=some (.ptr bb 0) from h1];dsimp only;rw[hm];dsimp only;rw[A];dsimp only;rw[bP,u,nA_,show Nat.ble m m=true by rw[nE_];exact nR_ _,dn,dM,List.drop_zero,<-u,List.take_length];rfl
 have G:fS P t U (.tmp k)=some v:=C;have K:fS P t U (.tmp q)=some w:=E
 have:cU (fS P t U) [.cell j ty,.tmp k,.tmp q]=some [V.agg cells,v,w]:=by
  unfold cU;simp only[e1,G,K]
 rw[this]
theorem KY {G:Cx} (hG:Plain G) (a4:G.fk 70=true) (a5:G.ov 106=true) {K:H} (hgl:mK G K) {k:Nat} {l:List XC} {lv:V} (hl:bJ K 2 (jc K k) l lv) {r:XM} (hinv:gu k l r) {a b c d:V} (X:ej K r.g a b c d) {x0 x1 x2 x3 x4 x5:Int} (hm:p8 r.mem x0 x1 x2 x3 x4 x5) {ps:List Int} {pv:V} (hp:bJ K 1 cz ps pv) (be:ps.length<=100) {U:I} {L:Own} (aq:J U K L):
  bm Tryz.prog G 64 [.agg [.int .i64 x0,.int .i64 x1,.int .i64 x2,.int .i64 x3,.int .i64 x4,.int .i64 x5,a,b,c,d],lv,pv] U fun v U'=>∃K1 y0 y1 y2 y3 y4 y5 a' b' c' d' u M,v= .tuple [.agg [.int .i64 y0,.int .i64 y1,.int .i64 y2,.int .i64 y3,.int .i64 y4,.int .i64 y5,a',b',c',d'],u]/\H.le K K1/\ej K1 (cQ k l (r,[]) ps).1.g a' b' c' d'/\p8 (cQ k l (r,[]) ps).1.mem y0 y1 y2 y3 y4 y5/\cN 1 3 cz (cQ k l (r,[]) ps).2 u M/\J U' K1 (M++L):=by
 have hl0:=hl;have hgl0:=hgl;have hp0:=hp;refine QX hG Tryz.func64 Z<|QA 2 Z<|kp aq Z (cA Z Z) (fun U b1 aq=>?_);refine kp aq Z (RH (cs:=[T,T,T,T,T,T,.au,.au,.au,.au])) (fun U b2 aq=>?_);refine P1 6 Z ?_;replace aq:J U K ([]++(b2,.row BX 99 false)::(b1,.row (c6 x0 x1 x2 x3 x4 x5 a b c d) 99 false)::L):=aq;refine Pw 6 Z (O Z (RG hp Z Z Z (e:=3) Z) Z (PZ 4 Z (bp ([8,10,11,12]++rg 15 27) (fun j t U=>∃(i:Nat) (K2:H) (x0 x1 x2 x3 x4 x5:Int) (a b c d u:V) (M:Own),j+i=ps.length/\H.le K K2/\gu k l (cQ k l (r,[])<|ps.take i).1/\ej K2 (cQ k l (r,[])<|ps.take i).1.g a b c d/\p8 (cQ k l (r,[])<|ps.take i).1.mem x0 x1 x2 x3 x4 x5/\(cQ k l (r,[])<|ps.take i).2.length<=i/\cN 1 3 cz (cQ k l (r,[])<|ps.take i).2 u M/\t.get 8=some (u)/\t.get 15=some (.int .i64 (.ofNat i))/\J U K2 (M++(b2,.row BX 99 false)::(b1,.row (c6 x0 x1 x2 x3 x4 x5 a b c d) 99 false)::L)) (ps.length) ⟨0,K,x0,x1,x2,x3,x4,x5,a,b,c,d,.au,[],Z,H.le_refl K,hinv,X,hm,nR_ _,.inl ⟨Z,Z,Z⟩,Z,Z,aq⟩ ?_)));clear aq;intro j3 t U ar hI;obtain⟨i,K2,x0,x1,x2,x3,x4,x5,a,b,c,d,u,M,bi,A,aa,X,hm,bl,hO,a6,ae,aq⟩:=hI;obtain⟨oo,rfl⟩:=ar.q2 a6 ae Z;refine QA 2 Z ?_;have hl:=hl0.mono A fun _ _ h=>h.mono A;have hgl:=hgl0.mono A;have hp:=hp0.mono A fun _ _ h=>h
 refine ky Z (az Z Z Z) (fun R=>?_) (fun R=>?_)
 ·refine OT 10 Z ?_;obtain⟨am,Q,a9⟩:=cE R;refine Rx (e:=3) (m:=1) hp Q Z Z Z Z (fun bo bb ao bc ap=>?_);obtain rfl:=ap;refine O Z (RI aq ao Z Z) Z<|Pw 8 Z<|ky Z (an Z) (fun W=>?_) (fun W=>?_)
  ·refine P4 10 Z<|aU<|Q0 4 Z ?_;have hlp:=bk R;have E:jh k l (cQ k l (r,[])<|ps.take i).1 am=none:=by unfold jh;rw[W];rfl
   have C:cQ k l (r,[]) (ps.take (i+1))=cQ k l (r,[]) (ps.take i):=by rw[iS Q];unfold lL;rw[E]
   refine aM ⟨j3-1,by omega,oF,i+1,K2,x0,x1,x2,x3,x4,x5,a,b,c,d,u,M,by omega,A,by rw[C];exact aa,by rw[C];exact X,by rw[C];exact hm,by rw[C];omega,by rw[C];exact hO,Z,cI<|bg B,aq⟩
  refine Q3 2 Z<|O Z (RG hl Z Z Z (e:=33) Z) Z<|QC 4 Z<|aD Z (fun ab=>?_) (fun ab=>?_)
  ·refine bu<|aX<|aU<|Q0 4 Z ?_;have hlp:=bk R;have E:jh k l (cQ k l (r,[])<|ps.take i).1 am=none:=by unfold jh;rw[W,ab];rfl
   have C:cQ k l (r,[]) (ps.take (i+1))=cQ k l (r,[]) (ps.take i):=by rw[iS Q];unfold lL;rw[E]
   refine aM ⟨j3-1,by omega,oF,i+1,K2,x0,x1,x2,x3,x4,x5,a,b,c,d,u,M,by omega,A,by rw[C];exact aa,by rw[C];exact X,by rw[C];exact hm,by rw[C];omega,by rw[C];exact hO,Z,cI<|bg B,aq⟩
  refine PX 4 Z<|O Z (RF Z aq.aR.pop.g0 (n:=10) (vs:=[_,_,_,_,_,_,_,_,_,_]) Z) Z<|Q3 2 Z ?_;obtain⟨tp,rfl⟩:=pK W;have a7:tp<l.length:=by have:=br ab;omega
  refine cd Z (RC Z Z Z) (fun _=>Z) (He hG a4 a5 hgl hl aa X hm a7 aq) ?_;rintro _ U (⟨e,rfl,he,aK,aq⟩ | ⟨K3,r2,z0,z1,z2,z3,z4,z5,a2,b2_,c2,d2,a0,a1,rfl,F,a8,aq⟩)
  ·refine Q3 3 Z<|kp aq Z (RH (cs:=[T,T,T,T,T,T,.au,.au,.au,.au])) (fun U b3 aq=>?_);refine bF aq Z (RK Z Z Z aq.g0 (m:=10) Z Z (cells':=[_,_,_,_,_,_,_,_,_,_]) Z) Z (fun U aq=>?_);refine P1 6 Z<|ky Z (az Z Z Z) (fun ac=>?_) (fun ac=>?_)
   ·exact absurd ac (by rw[aK];decide)
   refine P2 5 Z<|Q0 4 Z ?_;have aq:=aq.pop;have hlp:=bk R;have E:jh k l (cQ k l (r,[])<|ps.take i).1 (Int.ofNat (tp+1))=none:=by unfold jh;rw[W,ab];simp only[cf,show(Int.ofNat (tp+1)).toNat-1=tp from Z];rw[<-he,aK];rfl
   have C:cQ k l (r,[]) (ps.take (i+1))=cQ k l (r,[]) (ps.take i):=by rw[iS Q];unfold lL;rw[E]
   refine aM ⟨j3-1,by omega,oF,i+1,K2,x0,x1,x2,x3,x4,x5,a,b,c,d,u,M,by omega,A,by rw[C];exact aa,by rw[C];exact X,by rw[C];exact hm,by rw[C];omega,by rw[C];exact hO,Z,cI<|bg B,aq⟩
  refine Q3 3 Z<|kp aq Z (RH (cs:=[T,T,T,T,T,T,.au,.au,.au,.au])) (fun U b3 aq=>?_);refine bF aq Z (RK Z Z Z aq.g0 (m:=10) Z (N Z<|N Z<|N Z<|N Z<|N Z<|N Z<|N F.init.leaf.2<|N F.threads.leaf.2<|N F.from_.leaf.2<|N F.order.leaf.2 aA) (cells':=[_,_,_,_,_,_,_,_,_,_]) Z) Z (fun U aq=>?_);refine P1 6 Z<|ky Z (az Z Z Z) (fun ac=>?_) (fun ac=>?_)
  ·refine P1 5 Z<|O Z (RF Z aq.g0 (n:=10) (vs:=[_,_,_,_,_,_,_,_,_,_]) Z) Z ?_;refine cw aq (.there (.cH (.there .here))) Z (RK Z Z Z aq.pop.aR.pop.g0 (m:=10) Z (N Z<|N Z<|N Z<|N Z<|N Z<|N Z<|N F.init.leaf.2<|N F.threads.leaf.2<|N F.from_.leaf.2<|N F.order.leaf.2 aA) (cells':=[_,_,_,_,_,_,_,_,_,_]) Z) Z (fun U aq=>?_);refine QD 5 Z<|gD aq Z (bW (e:=3) (m:=1) (z:=[T]) (cs:=[_]) Y Y Y Y<|bA Z Z Z Z bH) (fun _=>Z) (fun U b4 aq=>?_);replace aq:=(aq.perm<|List.Perm.swap ..).pop;obtain⟨U,u2,M2,a3,hO2,aq⟩:=eY (P:=Tryz.prog) (ts:= #[34,34]) (t:=34) (e:=3) (l2:=[Int.ofNat (tp+1)]) hO aq (fm (xs:=[Int.ofNat (tp+1)]) (.inr ⟨Z,Z⟩) (by simp)) cz.leaf (by simp) (by simp) B Z Y Y Y;refine O Z (dB Z Z Z Z Y a3) Z<|Q2 2 Z<|aI<|Q0 4 Z ?_;have hlp:=bk R;have E:jh k l (cQ k l (r,[])<|ps.take i).1 (Int.ofNat (tp+1))=some r2:=by unfold jh;rw[W,ab];simp only[cf,show(Int.ofNat (tp+1)).toNat-1=tp from Z];rw[a1];rfl
   have C:cQ k l (r,[]) (ps.take (i+1))=(r2,(cQ k l (r,[])<|ps.take i).2++[Int.ofNat (tp+1)]):=by rw[iS Q];unfold lL;rw[E]
   refine aM ⟨j3-1,by omega,oF,i+1,K3,z0,z1,z2,z3,z4,z5,a2,b2_,c2,d2,u2,M2,by omega,H.le_trans A a0,by rw[C];exact(aa.step a1).1,by rw[C];exact F,by rw[C];exact a8,by rw[C,lA_];show _+1<=_;omega,by rw[C];exact hO2,Z,cI<|bg B,aq⟩
  exact absurd ac (by decide)
 refine P0 4 Z<|PY 3 Z<|aU<|QA 2 Z<|O Z (RF Z aq.aR.pop.g0 (n:=10) (vs:=[_,_,_,_,_,_,_,_,_,_]) Z) Z<|vQ 1 Z<|cw aq (.cH .here) Z (RK Z Z Z aq.aR.g0 (m:=10) Z (N Z<|N Z<|N Z<|N Z<|N Z<|N Z<|N X.init.leaf.2<|N X.threads.leaf.2<|N X.from_.leaf.2<|N X.order.leaf.2 aA) (cells':=[_,_,_,_,_,_,_,_,_,_]) Z) Z (fun U aq=>?_);refine QE 4 Z ?_;have C:cQ k l (r,[]) (ps.take i)=cQ k l (r,[]) ps:=uM (br R);rw[C] at hO X hm;exact bB Z Z aq.aR.g0 (m:=10) Y Z Z ⟨K2,_,_,_,_,_,_,_,_,_,_,_,_,Z,A,X,hm,hO,aq.sub<|dw (.cons _ (.cons _ (.refl _)))⟩
def eA (init:List Int) (l:List XC):XM:=⟨init,J1 init l.length⟩
theorem nf {k:Nat} {init:List Int} {l:List XC} (h:Hi k init l):gu k l (eA init l):=gu.start h.len h.init h.flat
theorem OE {G:Cx} (hG:Plain G) (aa:G.fk 70=true) (ab:G.ov 106=true) {K:H} (F:mK G K) {k:Nat} {init:List Int} {vi:V} (hi:bJ K 1 cz init vi) {l:List XC} {lv:V} (hl:bJ K 2 (jc K k) l lv) {ps:List Int} {pv:V} (hp:bJ K 1 cz ps pv) (ac:ps.length<=100) {U:I} {L:Own} (aq:J U K L):
  bm Tryz.prog G 29 [vi,lv,pv] U fun v U'=>∃M m a b c d n,v= .tuple [.agg [m,a,b,c,d],.int .i64 n,.int .i64<|nm k init l]/\H.le K M/\(D (nm k init l) 0=true->Hi k init l/\n= .ofNat (cQ k l (eA init l,[]) ps).2.length/\bJ M 1 cz (cQ k l (eA init l,[]) ps).1.mem m/\ej M (cQ k l (eA init l,[]) ps).1.g a b c d)/\(D (nm k init l) 0=false->m= .au/\a= .au/\b= .au/\c= .au/\d= .au/\n=0)/\J U' M L:=by
 refine QX hG Tryz.func29 Z<|QA 2 Z<|kp aq Z (RH (cs:=[.au,.au,.au,.au,.au])) (fun U b1 aq=>?_);refine P1 8 Z<|cd Z (RC Z Z Z) (fun _=>Z) (BQ hG F hi hl aq) ?_;rintro _ U (⟨Q,rfl,aq⟩ | ⟨hex,heq,M,x0,x1,x2,x3,x4,x5,a,b,c,d,rfl,hle,R,hm,aq⟩)
 ·refine Q3 3 Z<|kp aq Z (RH (cs:=[T,T,T,T,T,T,.au,.au,.au,.au])) (fun U b2 aq=>?_);refine bF aq Z (RK Z Z Z aq.g0 (m:=10) Z Z (cells':=[_,_,_,_,_,_,_,_,_,_]) Z) Z (fun U aq=>?_);refine P0 10 Z<|aD Z (fun u=>?_) (fun u=>?_)
  ·refine QA 2 Z (O Z (RB (places:=[(0,1),(1,4)]) (zero:=[.au,.au,.au,.au,.au]) (cs:=[_,_,_,_,_]) Z) Z<|vQ 1 Z<|dF aq Z (RK Z Z Z aq.g1 (m:=5) Z Z (cells':=[_,_,_,_,_]) Z) Z (fun U aq=>?_));refine P3 6 Z ?_;exact jN Z Z aq.g1 (m:=5) Y Z Z Z ⟨K,_,_,_,_,_,_,Z,H.le_refl K,(fun h=>by rw[Q] at h;cases h),(fun _=>⟨Z,Z,Z,Z,Z,Z⟩),aq.pop.pop⟩
  exact absurd (bn u) (by rw[Q];decide)
 refine Q3 3 Z<|kp aq Z (RH (cs:=[T,T,T,T,T,T,.au,.au,.au,.au])) (fun U b2 aq=>?_);refine bF aq Z (RK Z Z Z aq.g0 (m:=10) Z (N Z<|N Z<|N Z<|N Z<|N Z<|N Z<|N R.init.leaf.2<|N R.threads.leaf.2<|N R.from_.leaf.2<|N R.order.leaf.2 aA) (cells':=[_,_,_,_,_,_,_,_,_,_]) Z) Z (fun U aq=>?_);refine P0 10 Z<|aD Z (fun u=>?_) (fun u=>?_)
 ·exact absurd u (by decide)
 refine PX 4 Z<|O Z (RF Z aq.g0 (n:=10) (vs:=[_,_,_,_,_,_,_,_,_,_]) Z) Z<|Q3 2 Z<|cd Z (RC Z Z Z) (fun _=>Z) (KY hG aa ab (F.mono hle) (hl.mono hle fun _ _ h=>h.mono hle) (nf hex) R hm (hp.mono hle fun _ _ h=>h) ac aq) ?_;rintro _ U ⟨K2,y0,y1,y2,y3,y4,y5,a2,b2_,c2,d2,am,ao,rfl,W,hg2,ae,hO,aq⟩;obtain⟨K3,A,C,aq⟩:=aq.eb;have hS:=hO.iB (K:=K3) fun y hy=>C _ hy;clear C;replace hg2:=hg2.mono A
 refine Q3 3 Z<|bF aq Z (RK Z Z Z aq.g0 (m:=10) Z (N Z<|N Z<|N Z<|N Z<|N Z<|N Z<|N hg2.init.leaf.2<|N hg2.threads.leaf.2<|N hg2.from_.leaf.2<|N hg2.order.leaf.2 aA) (cells':=[_,_,_,_,_,_,_,_,_,_]) Z) Z (fun U aq=>?_);refine P1 5 Z<|O Z (RF Z aq.g0 (n:=10) (vs:=[_,_,_,_,_,_,_,_,_,_]) Z) Z ?_;have hpi:=(nf hex).MH (ps:=ps) (s:=(eA init l,[]));refine cd Z (RC Z Z Z) (fun _=>Z) (FR hG hpi.1.Gb hpi.1.mem hg2 ae aq) ?_;rintro _ U ⟨K4,mv,a3,b3_,c3,d3,rfl,E,X,z,aq⟩;replace hS:=hS.mono E fun _ _ h=>h
 refine vQ 1 Z<|O Z (RG hS Z Z Z (e:=3) Z) Z<|dF aq Z (RK Z Z Z aq.g1 (m:=5) Z (N X.leaf.2<|N z.init.leaf.2<|N z.threads.leaf.2<|N z.from_.leaf.2<|N z.order.leaf.2 aA) (cells':=[_,_,_,_,_]) Z) Z (fun U aq=>?_);refine QE 5 Z ?_;exact jN Z Z aq.g1 (m:=5) Y Z Z Z ⟨K4,_,_,_,_,_,_,by rw[eqv heq],H.le_trans hle<|H.le_trans W<|H.le_trans A E,(fun _=>⟨hex,Z,X,z⟩),(fun h=>by rw[heq] at h;cases h),aq.pop.pop⟩
theorem BC {α:Type} {o:Option α} {d:α} (h:(!o.isSome)=false):o=some (o.getD d):=by
 cases o with
 | none=>cases h
 | some x=>rfl
theorem Dz {α:Type} {o:Option α} (h:(!o.isSome)=false):o.isSome=true:=by
 cases o with
 | none=>cases h
 | some x=>rfl
theorem My {α:Type} {o:Option α} (h:(!o.isSome)=true):o=none:=by
 cases o with
 | none=>rfl
 | some x=>cases h
theorem JD {k:Nat} {l:List XC} {g:XG} (h:(fB k l g).isSome=true):cu g=0:=by
 unfold fB at h;cases h1:bd (D (cu g) 0) with
 | true=>rw[h1] at h;cases h
 | false=>exact eqv (bn h1)
theorem Hd {G:Cx} (hG:Plain G) {K:H} (am:mK G K) {k:Nat} {l:List XC} {lv:V} (hl:bJ K 2 (jc K k) l lv) {m:List Int} {mv:V} (E:bJ K 1 cz m mv) {g:XG} {a b c d:V} (hg:ej K g a b c d) {U:I} {L:Own} (aq:J U K L):
  bm Tryz.prog G 59 [lv,.agg [mv,a,b,c,d]] U fun v U'=>∃u M,v= .tuple [u,.bool (jq k l m g).isSome]/\cN 1 3 cz ((jq k l m g).getD []) u M/\J U' K (M++L):=by
 refine QX hG Tryz.func59 Z<|QA 2 Z<|kp aq Z (cA Z Z) (fun U b1 aq=>?_);refine Qa aq 8 [1] Z Z<|O Z (RF Z aq.g0 (n:=4) (vs:=[_,_,_,_]) Z) Z<|cd Z (RC Z Z Z) (fun _=>Z) (OA hG am hl hg aq) ?_;rintro _ U ⟨a1,X,rfl,hO,aq⟩;refine Pw 11 Z<|O Z (cT Z) Z<|ky Z (an Z) (fun z=>?_) (fun z=>?_)
 ·refine P3 20 Z ?_;have A:jq k l m g=none:=by unfold jq;rw[My z]
  exact bU Z Z Z ⟨.au,[],by rw[A];rfl,by rw[A];exact .inl ⟨Z,Z,Z⟩,aq.aR.pop⟩
 refine O Z (RD 0 Z) Z<|O Z (RE Z aq.aR.g0 Z) Z<|O Z (RG E Z Z Z (e:=2) Z) Z<|Q7 aq 2 [1,0] Z Z<|O Z (RE Z aq.aR.g0 Z) Z<|O Z (RG hg.init Z Z Z (e:=2) Z) Z<|QC 4 Z<|aD Z (fun F=>?_) (fun F=>?_)
 ·refine QB 8 Z ?_;have hsg:=BC (d:=[]) z;have A:jq k l m g=none:=by unfold jq;rw[hsg];dsimp only;rw[show bd (D (.ofNat m.length) (.ofNat g.init.length))=true from F];rfl
  exact bU Z Z Z ⟨.au,[],by rw[A];rfl,by rw[A];exact .inl ⟨Z,Z,Z⟩,aq.aR.pop⟩
 refine Pu 5 Z ?_;have hck:=JD (Dz z);have ao:∀r∈g.order,r.length<=1000000:=fun r hr=>by have:=kr hck r hr;omega
 refine O Z (RD 0 Z) Z (O Z (RE Z aq.aR.g0 Z) Z (O Z (RG E Z Z Z (e:=2) Z) Z (PZ 4 Z (bp ([4,5,8,9]++rg 32 12) (fun j t U=>∃(i:Nat),j+i=m.length/\lX g m 0=lX g (m.drop i) i/\t.get 32=some (.int .i64 (.ofNat i))/\J U K (X++(b1,.row [mv,a,b,c,d] 44 false)::L)) (m.length) ⟨0,Z,Z,Z,aq⟩ ?_))));clear aq;intro j5 t U ar hI;obtain⟨i,a2,Q,aa,aq⟩:=hI;obtain⟨oo,rfl⟩:=ar.q1 aa Z;refine QA 2 Z<|ky Z (az Z Z Z) (fun R=>?_) (fun R=>?_)
 ·refine OT 11 Z ?_;obtain⟨ab,C,ap⟩:=cE R;refine Rx (e:=2) (m:=1) E C Z Z Z Z (fun a3 aK ac a0 ae=>?_);obtain rfl:=ae;refine O Z (RI aq ac Z Z) Z<|Qa aq 8 [1] Z Z<|O Z (RF Z aq.aR.g0 (n:=4) (vs:=[_,_,_,_]) Z) Z<|vQ 1 Z<|bj Z (RC Z Z Z) (fun _=>Z) (OD hG hg ao _ aq) (fun U aq=>?_);refine QC 3 Z<|aD Z (fun W=>?_) (fun W=>?_)
  ·refine Q1 7 Z<|aE<|av<|bq<|aE<|av (?_);have hsg:=BC (d:=[]) z;have A:jq k l m g=none:=by unfold jq;rw[hsg];dsimp only;rw[show bd (D (.ofNat m.length) (.ofNat g.init.length))=false from F,cf,Q,cO C];unfold lX;rw[show bd (D ab<|jr g (.ofNat i))=true from W];rfl
   exact bU Z Z Z ⟨.au,[],by rw[A];rfl,by rw[A];exact .inl ⟨Z,Z,Z⟩,aq.aR.pop⟩
  refine aG<|aI<|Q0 4 Z<|aM ⟨j5-1,by omega,oF,i+1,by omega,(by rw[Q,cO C];show(bif _ then _ else _)=_;rw[show bd (D ab<|jr g (.ofNat i))=false from W];rfl),cI<|bg (by have:=E.bG;omega),aq⟩
 refine P0 4 Z<|PY 3 Z<|aU<|Q1 8 Z ?_;have hsg:=BC (d:=[]) z;have A:jq k l m g=fB k l g:=by rw[hsg];unfold jq;rw[hsg];dsimp only;rw[show bd (D (.ofNat m.length) (.ofNat g.init.length))=false from F,cf,Q,List.drop_eq_nil_iff.2<|br R];rfl
 exact bU Z Z Z ⟨_,X,by rw[A,Dz z],by rw[A];exact hO,aq.sub<|dw (.cons _ (.refl _))⟩
theorem PI {G:Cx} (A:Plain G) {K:H} (u:mK G K) {k:Nat} {l:List XC} {lv:V} (hl:bJ K 2 (jc K k) l lv) {m:List Int} {mv:V} (z:bJ K 1 cz m mv) {g:XG} {a b c d:V} (C:ej K g a b c d) {U:I} {L:Own} (aq:J U K L):
  bm Tryz.prog G 23 [lv,.agg [mv,a,b,c,d]] U fun v U'=>v= .bool (zR k l m g)/\J U' K L:=by
 refine QX A Tryz.func23 Z<|QA 2 Z<|kp aq Z (cA Z Z) (fun U b1 aq=>?_);refine P1 6 Z<|O Z (RF Z aq.g0 (n:=5) (vs:=[_,_,_,_,_]) Z) Z<|cd Z (RC Z Z Z) (fun _=>Z) (Hd A u hl z C aq) ?_;rintro _ U ⟨aa,ab,rfl,hO,aq⟩;refine QE 14 Z ?_;exact aB Z Z ⟨Z,aq.aR.pop⟩
theorem FM {G:Cx} (Q:Plain G) {K:H} {l:List Int} {v:V} (h:bJ K 1 cz l v) (y:Int) {U:I} {L:Own} (aq:J U K L):
  bm Tryz.prog G 98 [v,.int .i64 y] U fun v U'=>v= .int .i64 (rV (fun x=>D y x) l 0)/\J U' K L:=by
 refine QX Q Tryz.func98 Z<|PV 9 Z<|O Z (RG h Z Z Z (e:=3) Z) Z<|PZ 4 Z ?_;obtain⟨LL1,aq,hLL1⟩:=aq.named;refine bp ([4,5]++rg 8 11) (fun j t U=>∃(i:Nat),j+i=l.length/\rV (fun x=>D y x) l 0=rV (fun x=>D y x) (l.drop i) i/\t.get 8=some (.int .i64 (.ofNat i))/\J U K LL1) (l.length) ⟨0,Z,Z,Z,aq⟩ ?_;clear aq;intro R t U ar W;obtain⟨i,hj,he,F,aq⟩:=W;subst hLL1;obtain⟨oo,rfl⟩:=ar.q1 F Z;refine Qz 6 Z<|aD Z (fun M=>?_) (fun M=>?_)
 ·refine OS 15 Z ?_;obtain⟨A,u,aa⟩:=cE M;refine Rx (e:=3) (m:=1) h u Z Z Z Z (fun ae ab C ac E=>?_);obtain rfl:=E;refine O Z (RI aq C Z Z) Z<|QC 3 Z<|aD Z (fun z=>?_) (fun z=>?_)
  ·refine Q1 7 Z<|aE<|av<|bq<|aE<|av (?_);exact aB Z Z ⟨cJ (by symm;rw[he,cO u];show(bif D y A then _ else _)=_;rw[z];rfl),aq⟩
  refine aG<|aI<|Q0 4 Z<|aM ⟨R-1,by omega,oF,i+1,by omega,by rw[he,cO u];show(bif D y A then _ else _)=_;rw[z];rfl,cI<|bg (by have:=h.bG;omega),aq⟩
 refine PY 3 Z<|aU<|Q1 6 Z ?_;exact aB Z Z ⟨cJ (by symm;rw[he,ff<|br M];rfl),aq⟩
theorem zk {G:Cx} (u:Plain G) {K:H} {l:List Int} {v:V} (h:bJ K 1 cz l v) (y:Int) {U:I} {L:Own} (aq:J U K L):
  bm Tryz.prog G 61 [v,.int .i64 y] U fun v U'=>v= .bool (l.any fun x=>D y x)/\J U' K L:=by
 refine QX u Tryz.func61 Z<|QA 9 Z<|bj Z (RC Z Z Z) (fun _=>Z) (FM u h y aq) (fun U aq=>?_);refine QE 5 Z ?_;exact aB Z Z ⟨cB<|tx _ _,aq⟩
theorem F2:∀(l:List Int),(l.all fun e=>bd (D e 0))= !(l.any fun x=>D 0 x)
 | []=>rfl
 | x::l=>by
  rw[List.all_cons,List.any_cons,F2 l,show D 0 x=D x 0 from by rw[dE,dE];exact decide_eq_decide.2 eq_comm];cases D x 0<;>rfl
theorem CO {k:Nat} {l:List XC} {m:List Int} {g:XG}:tt k l m g=(bif (jq k l m g).isSome then !(((jq k l m g).getD []).any fun x=>D 0 x) else false):=by
 unfold tt zR;cases h:jq k l m g with
 | none=>rfl
 | some e=>
  have hf:fB k l g=some e:=by
   unfold jq at h;cases hf:fB k l g with
   | none=>rw[hf] at h;cases h
   | some e'=>
    rw[hf] at h;dsimp only at h;revert h;cases bd (D (.ofNat m.length) (.ofNat g.init.length))<;>cases lX g m 0<;>intro h<;>first | exact h | cases h
  rw[hf];exact F2 e
theorem KS {G:Cx} (z:Plain G) {K:H} (A:mK G K) {k:Nat} {l:List XC} {lv:V} (hl:bJ K 2 (jc K k) l lv) {m:List Int} {mv:V} (C:bJ K 1 cz m mv) {g:XG} {a b c d:V} (E:ej K g a b c d) {U:I} {L:Own} (aq:J U K L):
  bm Tryz.prog G 25 [lv,.agg [mv,a,b,c,d]] U fun v U'=>v= .bool (tt k l m g)/\J U' K L:=by
 refine QX z Tryz.func25 Z<|QA 2 Z<|kp aq Z (cA Z Z) (fun U b1 aq=>?_);refine P1 6 Z<|O Z (RF Z aq.g0 (n:=5) (vs:=[_,_,_,_,_]) Z) Z<|cd Z (RC Z Z Z) (fun _=>Z) (Hd z A hl C E aq) ?_;rintro _ U ⟨aa,ab,rfl,F,aq⟩;replace aq:=aq.keeps;have hE:=F.iC (K:=K);refine P1 10 Z<|ky Z (an Z) (fun u=>?_) (fun u=>?_)
 ·refine vQ 1 Z<|bj Z (RC Z Z Z) (fun _=>Z) (zk z hE 0 aq) (fun U aq=>?_);refine O Z (cT Z) Z<|QE 5 Z ?_;exact aB Z Z ⟨cB (by rw[CO,show(jq k l m g).isSome=true from u];rfl),(aq.pop).weaken<|H.bY _ _⟩
 refine QE 8 Z ?_;exact aB Z Z ⟨cB (by rw[CO,show(jq k l m g).isSome=false from u];rfl),(aq.pop).weaken<|H.bY _ _⟩
theorem OI {G:Cx} (R:Plain G) {K:H}:∀(k:Nat) (x:XE) (vs:List V),eE K k x vs->∀(left:Int) (U:I) (L:Own),J U K L->bm Tryz.prog G 72 [.agg vs,.int .i64 left] U fun v U'=>v= .int .i64 (sg k x left)/\J U' K L:=by
 intro k;induction k with
 | zero=>intro x vs h;cases x;exact h.elim
 | succ k ih=>
 intro x vs h left U L aq;obtain⟨op,num,name,kids⟩:=x;obtain⟨v,rfl,hk⟩:=h;refine QX R Tryz.func72 Z<|QA 2 Z<|kp aq Z (cA Z Z) (fun U b1 aq=>?_);refine Qa aq 9 [2,0] Z Z<|O Z (iv Z Z Z Y Z) Z<|Pv 12 Z ?_;obtain⟨LL1,aq,hLL1⟩:=aq.named;refine bp ([1,5]++rg 13 18) (fun j t U=>∃(i:Nat) (m:Int),j+i=kids.length/\nD (sg k) kids (CS name left)=nD (sg k) (kids.drop i) m/\t.get 1=some (.int .i64 m)/\t.get 5=some (.int .i64 (.ofNat i))/\J U K LL1) (kids.length) ⟨0,_,Z,Z,Z,Z,aq⟩ ?_;clear aq;intro W t U ar X;obtain⟨i,m,hj,E,M,Q,aq⟩:=X;subst hLL1;obtain⟨oo,rfl⟩:=ar.q2 M Q Z;refine P7 aq 6 [3,0] Z Z<|O Z (RG hk Z Z Z (e:=82) Z) Z<|vQ 1 Z<|ky Z (an Z) (fun A=>?_) (fun A=>?_)
 ·refine QC 5 Z<|aD Z (fun C=>?_) (fun C=>?_)
  ·refine Pt 4 Z<|Q6 aq 4 [3,0] Z Z ?_;obtain⟨am,u,aa⟩:=cE A;refine Rx (e:=82) (m:=4) hk u Z Z Z Z (fun ao ab F ac z=>?_);obtain⟨ap,aK,a0,a1,rfl,ae⟩:=z.shape;refine O Z (RJ aq F Z Z) Z<|vQ 1 Z<|bj Z (RC Z Z Z) (fun _=>Z) (ih _ _ z _ _ _ aq) (fun U aq=>?_);refine Q2 2 Z<|aI<|Q0 5 Z<|aM ⟨W-1,by omega,oF,i+1,_,by omega,E.trans<|E4 u<|bN C,Z,cI<|bg (by have:=hk.bG;omega),aq⟩
  refine PY 3 Z<|aU<|Q1 7 Z ?_;exact aB Z Z ⟨cJ (by rw[HQ<|bn C] at E;rw[<-E];rfl),aq.pop⟩
 refine P4 8 Z<|ba<|aU<|Q1 7 Z ?_;exact aB Z Z ⟨cJ (by rw[HS<|br A] at E;rw[<-E];rfl),aq.pop⟩
theorem M6 {G:Cx} (u:Plain G) {K:H} {k:Nat} {x:XE} {vs:List V} {U:I} {L:Own} (aq:J U K L) (h:eE K k x vs) (most:Int):bm Tryz.prog G 44 [.agg vs,.int .i64 most] U fun v U'=>v= .bool (xM k x most)/\J U' K L:=by
 obtain⟨o0,n0,s0,v0,rfl,hk⟩:=h.shape;refine QX u Tryz.func44 Z<|QA 2 Z<|kp aq Z (cA Z Z) (fun U b1 aq=>?_);refine P1 5 Z<|O Z (RF Z aq.g0 (n:=4) (vs:=[_,_,_,_]) Z) Z<|vQ 1 Z<|bj Z (RC Z Z Z) (fun _=>Z) (OI u _ _ _ h _ _ _ aq) (fun U aq=>?_);refine QE 5 Z ?_;exact aB Z Z ⟨Z,aq.pop⟩
theorem DP {G:Cx} (hG:Plain G) {K:H} {k:Nat} {x:XC} {vs:List V} {U:I} {L:Own} (aq:J U K L) (h:jc K k x vs) (most:Int):bm Tryz.prog G 11 [.agg vs,.int .i64 most] U fun v U'=>v= .bool (qB k most x)/\J U' K L:=by
 have h':=h;obtain⟨v0,rfl,hk⟩:=h';refine QX hG Tryz.func11 Z<|QA 2 Z<|kp aq Z (cA Z Z) (fun U b1 aq=>?_);refine Pz aq 8 [1,0] Z Z<|O Z (RG hk Z Z Z (e:=79) Z) Z<|QC 4 Z<|aD Z (fun z=>?_) (fun z=>?_)
 ·refine QB 7 Z ?_;exact aB Z Z ⟨cB (by unfold qB;rw[z];rfl),aq.pop⟩
 refine Pt 9 Z ?_;obtain⟨LL1,aq,hLL1⟩:=aq.named;refine bp ([4,5,6]++rg 12 37) (fun j t U=>∃(i:Nat),j+i=x.ins.length/\(x.ins.take i).all (sP k)=true/\t.get 5=some (.int .i64 (.ofNat i))/\J U K LL1) (x.ins.length) ⟨0,Z,Z,Z,aq⟩ ?_;clear aq;intro j4 t U ar hI;obtain⟨i,hj,ha,a4,aq⟩:=hI;subst hLL1;obtain⟨oo,rfl⟩:=ar.q1 a4 Z;refine P7 aq 6 [1,0] Z Z<|O Z (RG hk Z Z Z (e:=79) Z) Z<|QC 3 Z<|aD Z (fun M=>?_) (fun M=>?_)
 ·refine OR 5 Z<|QH aq 5 [1,0] Z Z ?_;obtain⟨Q,u,a6⟩:=cE M;refine Rx (e:=79) (m:=6) hk u Z Z Z Z (fun bt a7 X a8 aa=>?_);have hr22':=aa;obtain⟨bv,rfl,E⟩:=hr22';refine bZ X Z Z Z (k:=5) Y (lb Z) (fun _=>Z) (fun bw ab=>?_);refine O Z (RI aq ab Z Z) Z<|O Z (RG E Z Z Z (e:=82) Z) Z<|QC 3 Z<|aD Z (fun C=>?_) (fun C=>?_)
  ·refine Q1 6 Z<|av<|aE<|av<|bq<|aE<|av (?_);exact aB Z Z ⟨cB (by unfold qB;rw[z,gQ u (by unfold sP;rw[C];rfl)];rfl),aq.pop⟩
  refine PX 5 Z<|PZ 3 Z ?_;obtain⟨LL2,aq,hLL2⟩:=aq.named;refine bp ([4,6]++rg 27 22) (fun j t U=>∃(i2:Nat),j+i2=Q.exprs.length/\(Q.exprs.take i2).all (fun e=>xM k e 60)=true/\t.get 6=some (.int .i64 (.ofNat i2))/\J U K LL2) (Q.exprs.length) ⟨0,Z,Z,Z,aq⟩ ?_;clear aq;intro j9 t U ar hI;obtain⟨i2,bz,ac,a5,aq⟩:=hI;subst hLL2;obtain⟨oo,rfl⟩:=ar.q1 a5 Z;refine P7 aq 7 [1,0] Z Z<|Rx (e:=79) (m:=6) hk u Z Z Z Z (fun b0 a9 ae bb am=>?_);have hr31':=am;obtain⟨b2,rfl,ao⟩:=hr31';refine bZ ae Z Z Z (k:=5) Y (lb Z) (fun _=>Z) (fun b3 ap=>?_);refine O Z (RI aq ap Z Z) Z<|O Z (RG ao Z Z Z (e:=82) Z) Z<|QC 3 Z<|aD Z (fun R=>?_) (fun R=>?_)
  ·refine OU aq 9 [1,0] Z Z<|Rx (e:=79) (m:=6) hk u Z Z Z Z (fun b4 bc aK be a0=>?_);have hr41':=a0;obtain⟨b5,rfl,a1⟩:=hr41';refine bZ aK Z Z Z (k:=5) Y (lb Z) (fun _=>Z) (fun b6 a2=>?_);refine O Z (RI aq a2 Z Z) Z<|vQ 1 Z ?_;obtain⟨b7,A,bi⟩:=cE R;refine Rx (e:=82) (m:=4) a1 A Z Z Z Z (fun b8 bl a3 bo F=>?_);obtain⟨b9,ca,cb,cc,rfl,bs⟩:=F.shape;refine O Z (RJ aq a3 Z Z) Z<|bj Z (RC Z Z Z) (fun _=>Z) (M6 hG aq F _) (fun U aq=>?_);refine O Z (cT Z) Z<|QC 2 Z<|aD Z (fun W=>?_) (fun W=>?_)
   ·refine Q1 6 Z<|aE<|av<|bq<|aE<|aE<|av<|bq<|aE<|av (?_);exact aB Z Z ⟨cB (by unfold qB;rw[z,gQ u (by unfold sP;rw[C,gQ A (by simpa using W)];rfl)];rfl),aq.pop⟩
   refine aG<|aI<|Q0 5 Z<|aM ⟨j9-1,by omega,oF,i2+1,by omega,fc ac A (by simpa using W),cI<|bg (by have:=E.bG;omega),aq⟩
  refine PY 3 Z<|aU<|aI<|Q0 5 Z<|aM ⟨j4-1,by omega,oF,i+1,by omega,fc ha u (by unfold sP;rw[C,dT ac<|br R];rfl),cI<|bg (by have:=hk.bG;omega),aq⟩
 refine PY 3 Z<|aU<|Q1 6 Z ?_;exact aB Z Z ⟨cB (by unfold qB;rw[z,dT ha<|br M];rfl),aq.pop⟩
theorem BK {G:Cx} (R:Plain G) {K:H} {k:Nat} {l:List XC} {v:V} {U:I} {L:Own} (aq:J U K L) (h:bJ K 2 (jc K k) l v) (most:Int):bm Tryz.prog G 19 [v,.int .i64 most] U fun v U'=>v= .bool (pD k most l)/\J U' K L:=by
 refine QX R Tryz.func19 Z<|PU 12 Z ?_;obtain⟨LL1,aq,hLL1⟩:=aq.named;refine bp (rg 4 19) (fun j t U=>∃(i:Nat),j+i=l.length/\(l.take i).all (qB k most)=true/\t.get 5=some (.int .i64 (.ofNat i))/\J U K LL1) (l.length) ⟨0,Z,Z,Z,aq⟩ ?_;clear aq;intro W t U ar X;obtain⟨i,hj,M,Q,aq⟩:=X;subst hLL1;obtain⟨oo,rfl⟩:=ar.q1 Q Z;refine PV 5 Z<|O Z (RG h Z Z Z (e:=33) Z) Z<|vQ 1 Z<|ky Z (an Z) (fun A=>?_) (fun A=>?_)
 ·refine QC 5 Z<|aD Z (fun C=>?_) (fun C=>?_)
  ·refine OS 8 Z ?_;obtain⟨am,u,aa⟩:=cE A;refine Rx (e:=33) (m:=2) h u Z Z Z Z (fun ao ab F ac z=>?_);have hr18':=z;obtain⟨ap,rfl,ae⟩:=hr18';refine O Z (RJ aq F Z Z) Z<|vQ 1 Z<|bj Z (RC Z Z Z) (fun _=>Z) (DP R aq z _) (fun U aq=>?_);refine O Z (cT Z) Z<|QC 2 Z<|aD Z (fun E=>?_) (fun E=>?_)
   ·refine Q1 6 Z<|aE<|av<|bq<|aE<|av (?_);exact aB Z Z ⟨cB (by unfold pD;rw[Ly u (bk C) (by simpa using E)];rfl),aq⟩
   refine aG<|aI<|Q0 5 Z<|aM ⟨W-1,by omega,oF,i+1,by omega,fc M u (by simpa using E),cI<|bg (by have:=h.bG;omega),aq⟩
  refine PY 3 Z<|aU<|QA 3 Z<|O Z (RG h Z Z Z (e:=33) Z) Z<|QE 5 Z ?_;exact aB Z Z ⟨cB (by unfold pD;rw[Ca M<|br C];rfl),aq⟩
 refine P4 8 Z<|ba<|aU<|QA 3 Z<|O Z (RG h Z Z Z (e:=33) Z) Z<|QE 5 Z ?_;exact aB Z Z ⟨cB (by unfold pD;rw[dT (i:=i) (by rw[List.take_take];exact Ca M<|Nat.min_le_left _ _) (by rw[lT_];have:=br A;omega)];rfl),aq⟩
theorem PH {G:Cx} (hG:Plain G) {K:H} {k:Nat} {l:List XC} {lv:V} (hl:bJ K 2 (jc K k) l lv) (q:Int) {U:I} {L:Own} (aq:J U K L):
  bm Tryz.prog G 62 [lv,.int .i64 q] U fun v U'=>∃b,v= .bool b/\J U' K L:=by
 refine QX hG Tryz.func62 Z<|PU 17 Z ?_;obtain⟨LL1,aq,hLL1⟩:=aq.named;refine bp (rg 5 52) (fun j t U=>∃(i:Nat) (m:Int),j+i=l.length/\t.get 5=some (.int .i64 m)/\t.get 6=some (.int .i64 (.ofNat i))/\J U K LL1) (l.length) ⟨0,0,Z,Z,Z,aq⟩ ?_;clear aq;intro j3 t U ar hI;obtain⟨i,m,b5,F,a6,aq⟩:=hI;subst hLL1;obtain⟨oo,rfl⟩:=ar.q2 F a6 Z;refine PV 5 Z<|O Z (RG hl Z Z Z (e:=33) Z) Z<|vQ 1 Z<|ky Z (an Z) (fun C=>?_) (fun C=>?_)
 ·refine QC 5 Z<|aD Z (fun a7=>?_) (fun a7=>?_)
  ·refine OS 6 Z ?_;obtain⟨Q,z,be⟩:=cE C;refine PZ 4 Z ?_;obtain⟨LL2,aq,hLL2⟩:=aq.named;refine bp ([5,7]++rg 18 39) (fun j t U=>∃(M:Nat) (m2:Int),j+M=Q.ins.length/\t.get 5=some (.int .i64 m2)/\t.get 7=some (.int .i64 (.ofNat M))/\J U K LL2) (Q.ins.length) ⟨0,m,Z,Z,Z,aq⟩ ?_;clear aq;intro j6 t U ar hI;obtain⟨M,m2,b6,F,a8,aq⟩:=hI;subst hLL2;obtain⟨oo,rfl⟩:=ar.q2 F a8 Z;refine PV 6 Z<|Rx (e:=33) (m:=2) hl z Z Z Z Z (fun b7 bi R bl W=>?_);have hr21':=W;obtain⟨b8,rfl,u⟩:=hr21';refine bZ R Z Z Z (k:=1) Y (lb Z) (fun _=>Z) (fun b9 X=>?_);refine O Z (RI aq X Z Z) Z<|O Z (RG u Z Z Z (e:=79) Z) Z<|vQ 1 Z<|ky Z (an Z) (fun A=>?_) (fun A=>?_)
   ·refine QC 6 Z<|aD Z (fun a9=>?_) (fun a9=>?_)
    ·refine OS 8 Z<|Rx (e:=33) (m:=2) hl z Z Z Z Z (fun ca bo aa bs ab=>?_);have hr35':=ab;obtain⟨cb,rfl,ac⟩:=hr35';refine bZ aa Z Z Z (k:=1) Y (lb Z) (fun _=>Z) (fun cc ae=>?_);refine O Z (RI aq ae Z Z) Z<|vQ 1 Z ?_;obtain⟨ce,E,bt⟩:=cE A;refine Rx (e:=79) (m:=6) ac E Z Z Z Z (fun ch bv am bw ao=>?_);have hr39':=ao;obtain⟨ci,rfl,bz⟩:=hr39';refine bZ am Z Z Z (k:=0) Y (lb Z) (fun _=>Z) (fun ck ap=>?_);refine O Z (RI aq ap Z Z) Z<|vQ 1 Z<|ky Z (an Z) (fun bb=>?_) (fun bb=>?_)
     ·refine Q3 2 Z<|Rx (e:=33) (m:=2) hl z Z Z Z Z (fun cl b0 aK b1 a0=>?_);have hr46':=a0;obtain⟨cn,rfl,a1⟩:=hr46';refine bZ aK Z Z Z (k:=1) Y (lb Z) (fun _=>Z) (fun co a2=>?_);refine O Z (RI aq a2 Z Z) Z<|vQ 1 Z<|Rx (e:=79) (m:=6) a1 E Z Z Z Z (fun cp b2 a3 b3 a4=>?_);have hr50':=a4;obtain⟨cs,rfl,b4⟩:=hr50';refine bZ a3 Z Z Z (k:=0) Y (lb Z) (fun _=>Z) (fun cv a5=>?_);refine O Z (RI aq a5 Z Z) Z<|QC 4 Z<|aD Z (fun bc=>?_) (fun bc=>?_)
      ·refine Q0 5 Z (aI (Q0 5 Z (aM ⟨j6-1,by omega,oF,M+1,_,by have:=bk A;omega,Z,cI<|bg (by have:=u.bG;omega),aq⟩)))
      refine aG (aI (Q0 5 Z (aM ⟨j6-1,by omega,oF,M+1,_,by have:=bk A;omega,Z,cI<|bg (by have:=u.bG;omega),aq⟩)))
     refine P2 16 Z (Q0 5 Z (aM ⟨j6-1,by omega,oF,M+1,_,by have:=bk A;omega,Z,cI<|bg (by have:=u.bG;omega),aq⟩))
    refine PY 3 Z (aU (aI (Q0 5 Z (aM ⟨j3-1,by omega,oF,i+1,_,by have:=bk C;omega,Z,cI<|bg (by have:=hl.bG;omega),aq⟩))))
   refine P4 9 Z (ba (aU (aI (Q0 5 Z (aM ⟨j3-1,by omega,oF,i+1,_,by have:=bk C;omega,Z,cI<|bg (by have:=hl.bG;omega),aq⟩)))))
  refine PY 3 Z<|aU<|Q1 9 Z ?_;exact aB Z Z ⟨_,Z,aq⟩
 refine P4 8 Z<|ba<|aU<|Q1 9 Z ?_;exact aB Z Z ⟨_,Z,aq⟩
theorem oV {G:Cx} (z:Plain G) {K:H} {m1 m2:List Int} {R W:V} (A:bJ K 1 cz m1 R) (C:bJ K 1 cz m2 W) {g1 X:XG} {a1 E c1 d1 a2 F c2 d2:V} (M:ej K g1 a1 E c1 d1) (Q:ej K X a2 F c2 d2) {U:I} {L:Own} (aq:J U K L):
  bm Tryz.prog G 22 [.agg [R,a1,E,c1,d1],.agg [W,a2,F,c2,d2]] U fun v U'=>v= .bool (bif dq m1 m2 then dq g1 X else false)/\J U' K L:=by
 refine QX z Tryz.func22 Z<|QA 2 Z<|kp aq Z (cA Z Z) (fun U E aq=>?_);refine kp aq Z (cA Z Z) (fun U F aq=>?_);refine Qa aq 9 [0,1,0,0] Z Z<|bj Z (RC Z Z Z) (fun _=>Z) (Hb z aq A C) (fun U aq=>?_);refine ky Z (an Z) (fun u=>?_) (fun u=>?_)
 ·refine O Z (RD 1 Z) Z<|O Z (RF Z aq.g1 (n:=4) (vs:=[_,_,_,_]) Z) Z<|O Z (RD 1 Z) Z<|O Z (RF Z aq.g0 (n:=4) (vs:=[_,_,_,_]) Z) Z<|bj Z (RC Z Z Z) (fun _=>Z) (MX z aq M Q) (fun U aq=>?_);refine QE 5 Z ?_;exact aB Z Z ⟨cB (by rw[u];rfl),aq.pop.pop⟩
 refine QE 10 Z ?_;exact aB Z Z ⟨cB (by rw[u];rfl),aq.pop.pop⟩
theorem KV {G:Cx} (hG:Plain G) {K:H} {l m:List Int} {X v2:V} (h1:bJ K 1 cz l X) (h2:bJ K 1 cz m v2) {U:I} {L:Own} (aq:J U K L) (A:l=m):bm Tryz.prog G 16 [X,v2] U fun v U'=>v= .bool true/\J U' K L:=by
 subst A;refine QX hG Tryz.func16 Z<|PV 9 Z<|O Z (RG h1 Z Z Z (e:=3) Z) Z<|vQ 1 Z<|O Z (RG h2 Z Z Z (e:=3) Z) Z<|QC 3 Z<|aD Z (fun C=>?_) (fun C=>?_)
 ·exact absurd (bN C) (by rw[ea];decide)
 refine Pt 9 Z ?_;obtain⟨LL1,aq,hLL1⟩:=aq.named;refine bp ([4,5]++rg 11 15) (fun j t U=>∃(i:Nat),j+i=l.length/\t.get 5=some (.int .i64 (.ofNat i))/\J U K LL1) (l.length) ⟨0,Z,Z,aq⟩ ?_;clear aq;intro j4 t U ar hI;obtain⟨i,hj,W,aq⟩:=hI;subst hLL1;obtain⟨oo,rfl⟩:=ar.q1 W Z;refine PV 5 Z<|O Z (RG h1 Z Z Z (e:=3) Z) Z<|QC 3 Z<|aD Z (fun u=>?_) (fun u=>?_)
 ·refine OR 5 Z<|aS (l:=zp [0,1,2,3,4,5,6,7,8]) Y Y<|Q5 2 Z ?_;obtain⟨ao,z,aa⟩:=cE u;refine Ry (e:=3) (m:=1) h1 z Z Z Z Z Z (fun ap ab E ac F=>?_);obtain rfl:=F;refine al Z Z (RI aq E Z Z) Z<|Q5 2 Z<|Ry (e:=3) (m:=1) h2 z Z Z Z Z Z (fun aK ae M am Q=>?_);obtain rfl:=Q;refine al Z Z (RI aq M Z Z) Z<|QF 3 Z<|aD Z (fun R=>?_) (fun R=>?_)
  ·exact absurd (bN R) (by rw[ea];decide)
  refine aG<|aI<|Q0 5 Z<|aM ⟨j4-1,(by have:=bk u;omega),oF,i+1,(by have:=bk u;omega),cI<|bg (by have:=h1.bG;omega),aq⟩
 refine PY 3 Z<|aU<|Q1 6 Z ?_;exact aB Z Z ⟨Z,aq⟩
theorem HK {k:Nat} {l:List XC} {n:Int} (hf:∀c∈l,lC k c) (ha:pD k n l=true):s8 k l:=by
 unfold pD at ha;rw[bA_] at ha;have A:l.length<=6:=br (a:=6) (bN ha.2);have ha:=ha.1;rw[tL_ A] at ha;intro c hc;refine⟨hf c hc,fun x hx e he=>?_⟩;have h1:=aE_.1 ha c hc;unfold qB at h1;cases z:bR n (.ofNat c.ins.length) with
 | true=>rw[z] at h1;cases h1
 | false=>
  rw[z] at h1;have u:sP k x=true:=aE_.1 h1 x hx;unfold sP at u;cases h4:bR 4 (.ofNat x.exprs.length) with
  | true=>rw[h4] at u;cases u
  | false=>
   rw[h4] at u;have:=Fb (hf c hc x hx e he) (aE_.1 u e he);omega
end Go.Ev
namespace Go.Ev
variable [Env]
def drain (k:Nat) (l:List XC) (t:Nat):Nat->XM×List Int->XM×List Int
 | 0,s=>s
 | f+1,s=>match jh k l s.1 (.ofNat (t+1)) with | some r=>drain k l t f (r,s.2++[.ofNat (t+1)]) | none=>s
def ki (k:Nat) (l:List XC):Nat->XM×List Int->XM×List Int
 | 0,s=>s
 | i+1,s=>drain k l i 15 (ki k l i s)
def HI (k:Nat) (l:List XC) (s:XM×List Int) (ps:List Int):XM×List Int:=ki k l l.length (cQ k l s ps)
def Ds (r:XM) (t:Nat):Nat:=((r.g.threads[t]?).getD []).length
section
variable {k:Nat} {l:List XC} {t f:Nat} {s:XM×List Int} {r r':XM} {p:Int}
theorem xe (h:jh k l s.1 (.ofNat (t+1))=none):drain k l t f s=s:=by
 cases f with
 | zero=>rfl
 | succ f=>unfold drain;rw[h]
theorem uo (h:jh k l s.1 (.ofNat (t+1))=some r) (hf:1<=f):drain k l t f s=drain k l t (f-1) (r,s.2++[.ofNat (t+1)]):=by
 cases f with
 | zero=>omega
 | succ f=>rw[drain,h];rfl
theorem Kv (h:jh k l r (.ofNat (t+1))=some r'):Ds r t<14/\Ds r' t=Ds r t+1:=by
 obtain⟨t',u,hl,z⟩:=Al h;obtain rfl:t=t':=by have:=iJ_ u;omega
 obtain⟨c,row,p,hi⟩:=DB z;obtain⟨row2,h1,A⟩:=F1 hi.add;have h3:=(zF hi.err).2.2.1;have e1:Ds r t=row.length:=by unfold Ds;rw[hi.rowAt];rfl
 obtain rfl:row=row2:=Option.some.inj (hi.rowAt.symm.trans h1);refine⟨by rw[e1];exact h3,?_⟩;rw[e1];unfold Ds;rw[A,List.getElem?_set_self (gA.1 h1).1];simp
theorem gu.drain:∀{f:Nat} {s:XM×List Int},gu k l s.1->gu k l (Go.Ev.drain k l t f s).1/\(Go.Ev.drain k l t f s).1.g.init=s.1.g.init/\(Go.Ev.drain k l t f s).2.length<=s.2.length+f
 | 0,s,h=>⟨h,Z,nR_ _⟩
 | f+1,s,h=>by
  cases u:Go.Ev.jh k l s.1 (.ofNat (t+1)) with
  | none=>rw[xe u];exact⟨h,Z,by omega⟩
  | some r=>
   rw[uo u B];obtain⟨h1,z⟩:=h.jh u;obtain⟨A,h4,h5⟩:=gu.drain (f:=f) (s:=(r,s.2++[.ofNat (t+1)])) h1;rw[Nat.add_sub_cancel];refine⟨A,by rw[h4,z],?_⟩;rw[lA_] at h5;simp only[List.length_singleton] at h5;omega
theorem gu.ki:∀{i:Nat} {s:XM×List Int},gu k l s.1->gu k l (Go.Ev.ki k l i s).1/\(Go.Ev.ki k l i s).1.g.init=s.1.g.init/\(Go.Ev.ki k l i s).2.length<=s.2.length+15*i
 | 0,s,h=>⟨h,Z,by show s.2.length<=_;omega⟩
 | i+1,s,h=>by
  obtain⟨h1,u,h3⟩:=gu.ki (i:=i) h;obtain⟨h4,h5,h6⟩:=gu.drain (t:=i) (f:=15) h1;exact⟨h4,h5.trans u,by show(Go.Ev.drain k l i 15<|Go.Ev.ki k l i s).2.length<=_;omega⟩
theorem uU {e:Int} (h:gu k l r) (u:p7 k l r p=(none,e)) (he:D e 0=false):jh k l r p=none:=by
 unfold jh;cases h1:bR p 1 with
 | true=>rfl
 | false=>
 cases z:bR (.ofNat l.length) p with
 | true=>rfl
 | false=>
  rw[yF h.is h1 z] at u;rw[u];simp only[cond_false,he]
theorem uV (h:gu k l r) (u:p7 k l r p=(some r',0)):jh k l r p=some r':=by
 unfold jh;cases h1:bR p 1 with
 | true=>unfold p7 at u;rw[h.is,h1] at u;cases u
 | false=>
 cases z:bR (.ofNat l.length) p with
 | true=>unfold p7 at u;rw[h.is,h1,z] at u;cases u
 | false=>
  rw[yF h.is h1 z] at u;rw[u];rfl
theorem pJ:∀{ps:List Int} {s:XM×List Int},(cQ k l s ps).2.length<=s.2.length+ps.length
 | [],s=>by show s.2.length<=_;omega
 | p::ps,s=>by
  have h:=pJ (ps:=ps) (s:=lL k l s p);show(cQ k l (lL k l s p) ps).2.length<=_
  have:(lL k l s p).2.length<=s.2.length+1:=by
   unfold lL;cases jh k l s.1 p with
   | none=>show s.2.length<=_;omega
   | some r=>show(s.2++[p]).length<=_;rw[lA_];exact nR_ _
  rw[List.length_cons];omega
end
end Go.Ev
namespace Go.Ev
variable [Env]
open Go.Proofs
set_option maxRecDepth 4000
set_option maxHeartbeats 8000000
theorem Jb {G:Cx} (hG:Plain G) {K:H} {k:Nat} {init:List Int} {vi:V} (hi:bJ K 1 cz init vi) {l:List XC} {lv:V} (hl:bJ K 2 (jc K k) l lv) (hF:s8 k l) {ps:List Int} {pv:V} (hp:bJ K 1 cz ps pv) (a6:ps.length<=100) {U:I} {L:Own} (aq:J U K L):
  bm Tryz.prog G 32 [vi,lv,pv] U fun v U'=>∃K1 m a b c d n,v= .tuple [.agg [m,a,b,c,d],.int .i64 n,.int .i64<|nm k init l]/\H.le K K1/\(D (nm k init l) 0=true->n= .ofNat (cQ k l (eA init l,[]) ps).2.length/\bJ K1 1 cz (cQ k l (eA init l,[]) ps).1.mem m/\ej K1 (cQ k l (eA init l,[]) ps).1.g a b c d)/\(D (nm k init l) 0=false->n=0/\m= .au/\a= .au/\b= .au/\c= .au/\d= .au)/\J U' K1 L:=by
 have hl0:=hl;have hp0:=hp;refine QX hG Tryz.func32 Z<|QA 2 Z<|kp aq Z (RH (cs:=[.au,.au,.au,.au,.au])) (fun U b1 aq=>?_);refine P1 8 Z<|cd Z (RC Z Z Z) (fun _=>Z) (wi hG hi hl hF aq) ?_;rintro _ U (⟨A,rfl,aq⟩ | ⟨hex,K1,m1,a1,b1_,c1,d1,rfl,ab,ac,C,aq⟩)
 ·refine Q3 3 Z<|kp aq Z (RH (cs:=[.au,.au,.au,.au,.au])) (fun U b2 aq=>?_);refine bF aq Z (RK Z Z Z aq.g0 (m:=5) Z Z (cells':=[_,_,_,_,_]) Z) Z (fun U aq=>?_);refine P0 10 Z<|aD Z (fun E=>?_) (fun E=>?_)
  ·refine QA 2 Z (O Z (RB (places:=[(0,1),(1,4)]) (zero:=[.au,.au,.au,.au,.au]) (cs:=[_,_,_,_,_]) Z) Z<|vQ 1 Z<|dF aq Z (RK Z Z Z aq.g1 (m:=5) Z Z (cells':=[_,_,_,_,_]) Z) Z (fun U aq=>?_));refine P3 6 Z ?_;exact jN Z Z aq.g1 (m:=5) Y Z Z Z ⟨K,_,_,_,_,_,_,Z,H.le_refl K,(fun h=>by rw[A] at h;cases h),(fun _=>⟨Z,Z,Z,Z,Z,Z⟩),aq.pop.pop⟩
  exact absurd (bn E) (by rw[A];decide)
 have hok:=AS hex;have heq:D (nm k init l) 0=true:=by rw[hex];rfl
 refine Q3 3 Z<|kp aq Z (RH (cs:=[.au,.au,.au,.au,.au])) (fun U b2 aq=>?_);refine bF aq Z (RK Z Z Z aq.g0 (m:=5) Z (N ac.leaf.2<|N C.init.leaf.2<|N C.threads.leaf.2<|N C.from_.leaf.2<|N C.order.leaf.2 aA) (cells':=[_,_,_,_,_]) Z) Z (fun U aq=>?_);refine P0 10 Z<|aD Z (fun E=>?_) (fun E=>?_)
 ·exact absurd E (by decide)
 refine Pt 14 Z (bp (rg 11 4++rg 25 21) (fun j t U=>∃(i:Nat) (K2:H) (m a b c d:V),j+i=ps.length/\H.le K K2/\gu k l (cQ k l (eA init l,[])<|ps.take i).1/\bJ K2 1 cz (cQ k l (eA init l,[])<|ps.take i).1.mem m/\ej K2 (cQ k l (eA init l,[])<|ps.take i).1.g a b c d/\t.get 11=some (.int .i64 (.ofNat (cQ k l (eA init l,[])<|ps.take i).2.length))/\t.get 12=some (.int .i64 (.ofNat i))/\J U K2 ((b2,.row [m,a,b,c,d] 44 false)::(b1,.row [.au,.au,.au,.au,.au] 44 false)::L)) (ps.length) ⟨0,K1,_,_,_,_,_,Z,ab,nf hok,ac,C,Z,Z,aq⟩ ?_);clear aq;intro j6 t U ar hI;obtain⟨i,K2,m,a,b,c,d,a7,u,W,F,X,ae,am,aq⟩:=hI;obtain⟨oo,rfl⟩:=ar.q2 ae am Z;refine PV 3 Z ?_;have hl:=hl0.mono u fun _ _ h=>h.mono u;have hp:=hp0.mono u fun _ _ h=>h
 refine Q3 2 Z<|O Z (RG hp Z Z Z (e:=3) Z) Z<|QC 3 Z<|aD Z (fun M=>?_) (fun M=>?_)
 ·refine OR 5 Z (aS (l:=[(0,[]),(1,[]),(2,[]),(3,[]),(4,[]),(5,[]),(10,[]),(6,[10]),(7,[]),(8,[]),(9,[]),(11,[]),(12,[])]) Y Y<|wQ 1 Z<|al Z Z (RF Z aq.g0 (n:=5) (vs:=[_,_,_,_,_]) Z) Z<|Q5 2 Z ?_);obtain⟨ao,Q,a2⟩:=cE M;refine Ry (e:=3) (m:=1) hp Q Z Z Z Z Z (fun a8 a3 ap a4 aK=>?_);obtain rfl:=aK;refine al Z Z (RI aq ap Z Z) Z<|nG aq Z Z (RH (cs:=[.au,.au,.au,.au,.au])) (fun _=>Z) (fun U b3 aq=>?_);refine ic Z Z (RC Z Z Z) (fun _=>Z) (ED (r:=(cQ k l (eA init l,[])<|ps.take i).1) hG hl hF F X ao aq) ?_;rintro _ U (⟨e,rfl,A,hR,aq⟩ | ⟨K5,r2,m5,a5,b5_,c5,d5,rfl,hR,a0,aa,z,aq⟩)
  ·refine⟨(bx (fH Z Z Z Z Z (cs:=[.au,.au,.au,.au,.au]) (e:=44) Y aq.g0 Y) aT),?_⟩;refine Q5 3 Z<|iE aq Z Z (RK Z Z Z aq.g0 (m:=5) Z Z (cells':=[_,_,_,_,_]) Z) Z (fun U aq=>?_);refine⟨aT,?_⟩;refine QF 9 Z<|aD Z (fun R=>?_) (fun R=>?_)
   ·exact absurd R (by rw[A];decide)
   refine aG<|aI<|Q0 5 Z ?_;have aq:=aq.pop;have hlp:=bk M;have htry:=uU W hR A;have hP:cQ k l (eA init l,[]) (ps.take (i+1))=cQ k l (eA init l,[]) (ps.take i):=by rw[iS Q];unfold lL;rw[htry]
   refine aM ⟨j6-1,by omega,oF,i+1,K2,m,a,b,c,d,by omega,u,by rw[hP];exact W,by rw[hP];exact F,by rw[hP];exact X,(by rw[hP];first | rfl | exact cI ((bg B).trans (by rw[lA_];rfl))),cI<|bg B,aq⟩
  refine⟨(bx (fH Z Z Z Z Z (cs:=[.au,.au,.au,.au,.au]) (e:=44) Y aq.g0 Y) aT),?_⟩;refine Q5 3 Z<|iE aq Z Z (RK Z Z Z aq.g0 (m:=5) Z (N aa.leaf.2<|N z.init.leaf.2<|N z.threads.leaf.2<|N z.from_.leaf.2<|N z.order.leaf.2 aA) (cells':=[_,_,_,_,_]) Z) Z (fun U aq=>?_);refine⟨aT,?_⟩;refine QF 9 Z<|aD Z (fun R=>?_) (fun R=>?_)
  ·refine QA 2 Z<|O Z (RF Z aq.g0 (n:=5) (vs:=[_,_,_,_,_]) Z) Z<|dF aq Z (RK Z Z Z aq.g1 (m:=5) Z (N aa.leaf.2<|N z.init.leaf.2<|N z.threads.leaf.2<|N z.from_.leaf.2<|N z.order.leaf.2 aA) (cells':=[_,_,_,_,_]) Z) Z (fun U aq=>?_);refine P2 8 Z<|Q0 5 Z ?_;have aq:=aq.pop;have hlp:=bk M;have htry:=uV W hR;have hP:cQ k l (eA init l,[]) (ps.take (i+1))=(r2,(cQ k l (eA init l,[])<|ps.take i).2++[ao]):=by rw[iS Q];unfold lL;rw[htry]
   have a9:(cQ k l (eA init l,[])<|ps.take i).2.length<=100:=by have:=pJ (k:=k) (l:=l) (ps:=ps.take i) (s:=(eA init l,[]));rw[lT_] at this;simp only[List.length_nil] at this;omega
   refine aM ⟨j6-1,by omega,oF,i+1,K5,m5,a5,b5_,c5,d5,by omega,H.le_trans u a0,by rw[hP];exact(W.jh htry).1,by rw[hP];exact aa,by rw[hP];exact z,(by rw[hP];first | rfl | exact cI ((bg B).trans (by rw[lA_];rfl))),cI<|bg B,aq⟩
  exact absurd R (by decide)
 refine PY 3 Z<|aU<|QA 2 Z<|O Z (RF Z aq.g0 (n:=5) (vs:=[_,_,_,_,_]) Z) Z<|vQ 1 Z<|dF aq Z (RK Z Z Z aq.g1 (m:=5) Z (N F.leaf.2<|N X.init.leaf.2<|N X.threads.leaf.2<|N X.from_.leaf.2<|N X.order.leaf.2 aA) (cells':=[_,_,_,_,_]) Z) Z (fun U aq=>?_);refine QE 5 Z ?_;have hP:=uM (k:=k) (l:=l) (s:=(eA init l,[])) (br M);rw[hP] at F X;exact jN Z Z aq.g1 (m:=5) Y Z Z Z ⟨K2,_,_,_,_,_,_,by rw[hex],u,(fun _=>⟨by rw[hP],F,X⟩),(fun h=>by rw[heq] at h;cases h),aq.pop.pop⟩
theorem Ct {G:Cx} (hG:Plain G) {K:H} {k:Nat} {init:List Int} {vi:V} (hi:bJ K 1 cz init vi) {l:List XC} {lv:V} (hl:bJ K 2 (jc K k) l lv) (hF:s8 k l) {ps:List Int} {pv:V} (hp:bJ K 1 cz ps pv) (c7:ps.length<=100) {U:I} {L:Own} (aq:J U K L):
  bm Tryz.prog G 33 [vi,lv,pv] U fun v U'=>∃K1 m a b c d u,v= .tuple [.agg [m,a,b,c,d],u,.int .i64<|nm k init l]/\H.le K K1/\(D (nm k init l) 0=true->bJ K1 1 cz (HI k l (eA init l,[]) ps).2 u/\bJ K1 1 cz (HI k l (eA init l,[]) ps).1.mem m/\ej K1 (HI k l (eA init l,[]) ps).1.g a b c d)/\(D (nm k init l) 0=false->m= .au/\a= .au/\b= .au/\c= .au/\d= .au/\u= .au)/\J U' K1 L:=by
 have hl0:=hl;have hp0:=hp;refine QX hG Tryz.func33 Z<|QA 2 Z<|kp aq Z (RH (cs:=[.au,.au,.au,.au,.au])) (fun U b1 aq=>?_);refine P1 8 Z<|cd Z (RC Z Z Z) (fun _=>Z) (wi hG hi hl hF aq) ?_;rintro _ U (⟨Q,rfl,aq⟩ | ⟨hex,K1,m1,a1,b1_,c1,d1,rfl,bo,bs,aK,aq⟩)
 ·refine Q3 3 Z<|kp aq Z (RH (cs:=[.au,.au,.au,.au,.au])) (fun U b2 aq=>?_);refine bF aq Z (RK Z Z Z aq.g0 (m:=5) Z Z (cells':=[_,_,_,_,_]) Z) Z (fun U aq=>?_);refine P0 10 Z<|aD Z (fun a0=>?_) (fun a0=>?_)
  ·refine QA 2 Z (O Z (RB (places:=[(0,1),(1,4)]) (zero:=[.au,.au,.au,.au,.au]) (cs:=[_,_,_,_,_]) Z) Z<|vQ 1 Z<|dF aq Z (RK Z Z Z aq.g1 (m:=5) Z Z (cells':=[_,_,_,_,_]) Z) Z (fun U aq=>?_));refine P3 6 Z ?_;exact jN Z Z aq.g1 (m:=5) Y Z Z Z ⟨K,_,_,_,_,_,_,Z,H.le_refl K,(fun h=>by rw[Q] at h;cases h),(fun _=>⟨Z,Z,Z,Z,Z,Z⟩),aq.pop.pop⟩
  exact absurd (bn a0) (by rw[Q];decide)
 have hok:=AS hex;have heq:D (nm k init l) 0=true:=by rw[hex];rfl
 refine Q3 3 Z<|kp aq Z (RH (cs:=[.au,.au,.au,.au,.au])) (fun U b2 aq=>?_);refine bF aq Z (RK Z Z Z aq.g0 (m:=5) Z (N bs.leaf.2<|N aK.init.leaf.2<|N aK.threads.leaf.2<|N aK.from_.leaf.2<|N aK.order.leaf.2 aA) (cells':=[_,_,_,_,_]) Z) Z (fun U aq=>?_);refine P0 10 Z<|aD Z (fun a0=>?_) (fun a0=>?_)
 ·exact absurd a0 (by decide)
 refine Pt 14 Z (bp (rg 11 4++rg 29 26) (fun j t U=>∃(i:Nat) (K2:H) (m a b c d u:V) (M:Own),j+i=ps.length/\H.le K K2/\gu k l (cQ k l (eA init l,[])<|ps.take i).1/\bJ K2 1 cz (cQ k l (eA init l,[])<|ps.take i).1.mem m/\ej K2 (cQ k l (eA init l,[])<|ps.take i).1.g a b c d/\(cQ k l (eA init l,[])<|ps.take i).2.length<=i/\cN 1 3 cz (cQ k l (eA init l,[])<|ps.take i).2 u M/\t.get 11=some (u)/\t.get 12=some (.int .i64 (.ofNat i))/\J U K2 (M++(b2,.row [m,a,b,c,d] 44 false)::(b1,.row [.au,.au,.au,.au,.au] 44 false)::L)) (ps.length) ⟨0,K1,_,_,_,_,_,_,[],Z,bo,nf hok,bs,aK,nR_ _,.inl ⟨Z,Z,Z⟩,Z,Z,aq⟩ ?_);clear aq;intro j6 t U ar hI;obtain⟨i,K2,m,a,b,c,d,u,M,c8,C,W,aa,E,bt,hO,ab,bv,aq⟩:=hI;obtain⟨oo,rfl⟩:=ar.q2 ab bv Z;refine PV 3 Z ?_;have hl:=hl0.mono C fun _ _ h=>h.mono C;have hp:=hp0.mono C fun _ _ h=>h
 refine Q3 2 Z<|O Z (RG hp Z Z Z (e:=3) Z) Z<|QC 3 Z<|aD Z (fun am=>?_) (fun am=>?_)
 ·refine OR 5 Z (aS (l:=[(0,[]),(1,[]),(2,[]),(3,[]),(4,[]),(5,[]),(10,[]),(6,[10]),(7,[]),(8,[]),(9,[]),(11,[]),(12,[])]) Y Y<|wQ 1 Z<|al Z Z (RF Z aq.aR.g0 (n:=5) (vs:=[_,_,_,_,_]) Z) Z<|Q5 2 Z ?_);obtain⟨bb,ao,cn⟩:=cE am;refine Ry (e:=3) (m:=1) hp ao Z Z Z Z Z (fun c9 co bw cp bz=>?_);obtain rfl:=bz;refine al Z Z (RI aq bw Z Z) Z<|nG aq Z Z (RH (cs:=[.au,.au,.au,.au,.au])) (fun _=>Z) (fun U b3 aq=>?_);refine ic Z Z (RC Z Z Z) (fun _=>Z) (ED (r:=(cQ k l (eA init l,[])<|ps.take i).1) hG hl hF aa E bb aq) ?_;rintro _ U (⟨e,rfl,Q,hR,aq⟩ | ⟨K5,r2,m5,a5,b5_,c5,d5,rfl,hR,ap,F,A,aq⟩)
  ·refine⟨(bx (fH Z Z Z Z Z (cs:=[.au,.au,.au,.au,.au]) (e:=44) Y aq.g0 Y) aT),?_⟩;refine Q5 3 Z<|iE aq Z Z (RK Z Z Z aq.g0 (m:=5) Z Z (cells':=[_,_,_,_,_]) Z) Z (fun U aq=>?_);refine⟨aT,?_⟩;refine QF 9 Z<|aD Z (fun a2=>?_) (fun a2=>?_)
   ·exact absurd a2 (by rw[Q];decide)
   refine aG<|aI<|Q0 5 Z ?_;have aq:=aq.pop;have hlp:=bk am;have htry:=uU W hR Q;have hP:cQ k l (eA init l,[]) (ps.take (i+1))=cQ k l (eA init l,[]) (ps.take i):=by rw[iS ao];unfold lL;rw[htry]
   refine aM ⟨j6-1,by omega,oF,i+1,K2,m,a,b,c,d,u,M,by omega,C,by rw[hP];exact W,by rw[hP];exact aa,by rw[hP];exact E,by rw[hP];omega,by rw[hP];exact hO,Z,cI<|bg B,aq⟩
  refine⟨(bx (fH Z Z Z Z Z (cs:=[.au,.au,.au,.au,.au]) (e:=44) Y aq.g0 Y) aT),?_⟩;refine Q5 3 Z<|iE aq Z Z (RK Z Z Z aq.g0 (m:=5) Z (N F.leaf.2<|N A.init.leaf.2<|N A.threads.leaf.2<|N A.from_.leaf.2<|N A.order.leaf.2 aA) (cells':=[_,_,_,_,_]) Z) Z (fun U aq=>?_);refine⟨aT,?_⟩;refine QF 9 Z<|aD Z (fun a2=>?_) (fun a2=>?_)
  ·refine aS (l:=[(0,[]),(1,[]),(2,[]),(3,[]),(4,[]),(5,[]),(6,[]),(7,[0]),(8,[]),(9,[])]) Y Y ?_;replace hp:=hp.mono ap fun _ _ h=>h
   refine al Z Z (RF Z aq.g0 (n:=5) (vs:=[_,_,_,_,_]) Z) Z<|Q5 3 Z ?_;obtain⟨ca,a9,cv⟩:=cE am;refine Ry (e:=3) (m:=1) hp a9 Z Z Z Z Z (fun dd cx b0 c0 b5=>?_);obtain rfl:=b5;refine al Z Z (RI aq b0 Z Z) Z<|ie aq Z Z (bW (e:=3) (m:=1) (z:=[T]) (cs:=[_]) Y Y Y Y<|bA Z Z Z Z bH) (fun _=>Z) (fun U b4 aq=>?_);replace aq:=aq.pull (.there (.there .here));replace aq:=aq.pull (.cH<|ei.here (X:=[_]));refine k9 (R:=cz) (m:=1) (e:=3) hO aq (eJ (m:=1) Z Z) cz.leaf (by have:=bk am;show _+1<=_;omega) Z Z Z Z Z Z Z Z (fun _=>Z) (fun U cb cc hO54 aq=>?_);refine⟨(bx (bO Z Z Z Z Z (RF Z aq.aR.g0 (n:=5) (vs:=[_,_,_,_,_]) Z)<|fK<|bK F.eI<|bK A.init.eI<|bK A.threads.eI<|bK A.from_.eI<|bK A.order.eI eP) aT),?_⟩;refine fC aq (.cH (.there .here)) Z Z (RK Z Z Z aq.aR.pop.g0 (m:=5) Z (N F.leaf.2<|N A.init.leaf.2<|N A.threads.leaf.2<|N A.from_.leaf.2<|N A.order.leaf.2 aA) (cells':=[_,_,_,_,_]) Z) Z (fun U aq=>?_);refine⟨aT,?_⟩;replace aq:=aq.sub (dw (.cons _ (.cons_cons _ (.cons_cons _ (.refl _)))));refine Q4 2 Z<|aI<|Q0 5 Z ?_;have hlp:=bk am;have htry:=uV W hR;rw[show ca=bb from Option.some.inj (a9.symm.trans ao)] at hO54;have hP:cQ k l (eA init l,[]) (ps.take (i+1))=(r2,(cQ k l (eA init l,[])<|ps.take i).2++[bb]):=by rw[iS ao];unfold lL;rw[htry]
   refine aM ⟨j6-1,by omega,oF,i+1,K5,m5,a5,b5_,c5,d5,cb,cc,by omega,H.le_trans C ap,by rw[hP];exact(W.jh htry).1,by rw[hP];exact F,by rw[hP];exact A,by rw[hP,lA_];show _+1<=_;omega,by rw[hP];exact hO54,Z,cI<|bg B,aq⟩
  exact absurd a2 (by decide)
 refine PY 3 Z<|aU<|PV 3 Z ?_;have hP:=uM (k:=k) (l:=l) (s:=(eA init l,[])) (br am);rw[hP] at W aa E bt hO;have dl:l.length<=4:=hok.len;have b6:(cQ k l (eA init l,[]) ps).2.length<=100:=by have:=pJ (k:=k) (l:=l) (ps:=ps) (s:=(eA init l,[]));simp only[List.length_nil] at this;omega
 refine PZ 4 Z (bp ([11]++rg 15 4++rg 55 24) (fun j t U=>∃(i:Nat) (K2:H) (m a b c d u:V) (M:Own),j+i=l.length/\H.le K K2/\gu k l (ki k l i<|cQ k l (eA init l,[]) ps).1/\bJ K2 1 cz (ki k l i<|cQ k l (eA init l,[]) ps).1.mem m/\ej K2 (ki k l i<|cQ k l (eA init l,[]) ps).1.g a b c d/\(ki k l i<|cQ k l (eA init l,[]) ps).2.length<=100+15*i/\cN 1 3 cz (ki k l i<|cQ k l (eA init l,[]) ps).2 u M/\t.get 11=some (u)/\t.get 15=some (.int .i64 (.ofNat (i+1)))/\J U K2 (M++(b2,.row [m,a,b,c,d] 44 false)::(b1,.row [.au,.au,.au,.au,.au] 44 false)::L)) (l.length) ⟨0,K2,m,a,b,c,d,u,M,Z,C,W,aa,E,b6,hO,Z,Z,aq⟩ ?_);clear aq;intro b7 t U ar hI;obtain⟨i,K2,m,a,b,c,d,u,M,c2,C,W,aa,E,bt,hO,ab,b8,aq⟩:=hI;obtain⟨oo,rfl⟩:=ar.q2 ab b8 Z;refine PV 5 Z<|O Z (RG hl Z Z Z (e:=33) Z) Z<|QC 3 Z<|aD Z (fun a4=>?_) (fun a4=>?_)
 ·refine Pt 9 Z (aO (bp ([11,16,17,18]++rg 61 18) (fun j t U=>∃(s:XM×List Int) (i3:Nat) (K3:H) (m3 a3 b3_ c3 d3 u3:V) (M3:Own),j+i3=15/\gu k l s.1/\H.le K2 K3/\drain k l i 15 (ki k l i<|cQ k l (eA init l,[]) ps)=drain k l i j s/\s.2.length+j<=100+15*(i+1)/\bJ K3 1 cz s.1.mem m3/\ej K3 s.1.g a3 b3_ c3 d3/\cN 1 3 cz s.2 u3 M3/\t.get 11=some (u3)/\t.get 16=some (.int .i64 (.ofNat i3))/\J U K3 (M3++(b2,.row [m3,a3,b3_,c3,d3] 44 false)::(b1,.row [.au,.au,.au,.au,.au] 44 false)::L)) (15) ⟨ki k l i<|cQ k l (eA init l,[]) ps,0,K2,m,a,b,c,d,u,M,Z,W,H.le_refl K2,Z,B,aa,E,hO,Z,Z,aq⟩ ?_));clear aq;intro j15 t U ar hI;obtain⟨s,i3,K3,m3,a3,b3_,c3,d3,u3,M3,c4,ac,ae,a6,ce,bc,be,hO3,ab,b9,aq⟩:=hI;obtain⟨oo,rfl⟩:=ar.q2 ab b9 Z;refine PV 3 Z ?_;have hl:=hl0.mono (H.le_trans C ae) fun _ _ h=>h.mono (H.le_trans C ae)
  refine QC 4 Z<|aD Z (fun bi=>?_) (fun bi=>?_)
  ·refine OS 7 Z<|O Z (RF Z aq.aR.g0 (n:=5) (vs:=[_,_,_,_,_]) Z) Z<|vQ 1 Z<|cd Z (RC Z Z Z) (fun _=>Z) (ED (r:=s.1) hG hl hF bc be (.ofNat (i+1)) aq) ?_;rintro _ U (⟨e,rfl,Q,hR,aq⟩ | ⟨K5,r2,m5,a5,b5_,c5,d5,rfl,hR,ap,F,A,aq⟩)
   ·refine Q3 3 Z<|kp aq Z (RH (cs:=[.au,.au,.au,.au,.au])) (fun U b3 aq=>?_);refine bF aq Z (RK Z Z Z aq.g0 (m:=5) Z Z (cells':=[_,_,_,_,_]) Z) Z (fun U aq=>?_);refine P0 10 Z<|aD Z (fun a7=>?_) (fun a7=>?_)
    ·refine bu<|aX<|mb Z<|aX<|ba<|aU<|aI<|Q0 5 Z ?_;have aq:=aq.pop;have hlp:=br (b:=i+1) (a:=l.length) (bN a4);have htry:=uU ac hR Q;have hF9:ki k l (i+1) (cQ k l (eA init l,[]) ps)=s:=by show drain k l i 15 (ki k l i<|cQ k l (eA init l,[]) ps)=s;rw[a6];exact xe htry
     refine aM ⟨b7-1,by omega,oF,i+1,K3,m3,a3,b3_,c3,d3,u3,M3,by omega,H.le_trans C ae,by rw[hF9];exact ac,by rw[hF9];exact bc,by rw[hF9];exact be,by rw[hF9];omega,by rw[hF9];exact hO3,Z,cI<|bg B,aq⟩
    exact absurd (bn a7) (by rw[Q];decide)
   refine Q3 3 Z<|kp aq Z (RH (cs:=[.au,.au,.au,.au,.au])) (fun U b3 aq=>?_);refine bF aq Z (RK Z Z Z aq.g0 (m:=5) Z (N F.leaf.2<|N A.init.leaf.2<|N A.threads.leaf.2<|N A.from_.leaf.2<|N A.order.leaf.2 aA) (cells':=[_,_,_,_,_]) Z) Z (fun U aq=>?_);refine P0 10 Z<|aD Z (fun a7=>?_) (fun a7=>?_)
   ·exact absurd a7 (by decide)
   refine aG (ad (aS (l:=[(0,[]),(1,[]),(2,[]),(3,[]),(4,[0]),(5,[]),(6,[])]) Y Y<|al Z Z (RF Z aq.g0 (n:=5) (vs:=[_,_,_,_,_]) Z) Z<|Q5 2 Z<|ie aq Z Z (bW (e:=3) (m:=1) (z:=[T]) (cs:=[_]) Y Y Y Y<|bA Z Z Z Z bH) (fun _=>Z) (fun U b4 aq=>?_)));replace aq:=aq.pull (.there (.there .here));replace aq:=aq.pull (.cH<|ei.here (X:=[_]));refine k9 (R:=cz) (m:=1) (e:=3) hO3 aq (eJ (m:=1) Z Z) cz.leaf (by have:=br (b:=i+1) (a:=l.length) (bN a4);show _+1<=_;omega) Z Z Z Z Z Z Z Z (fun _=>Z) (fun U ch ci hO78 aq=>?_);refine⟨(bx (bO Z Z Z Z Z (RF Z aq.aR.g0 (n:=5) (vs:=[_,_,_,_,_]) Z)<|fK<|bK F.eI<|bK A.init.eI<|bK A.threads.eI<|bK A.from_.eI<|bK A.order.eI eP) aT),?_⟩;refine fC aq (.cH (.there .here)) Z Z (RK Z Z Z aq.aR.pop.g0 (m:=5) Z (N F.leaf.2<|N A.init.leaf.2<|N A.threads.leaf.2<|N A.from_.leaf.2<|N A.order.leaf.2 aA) (cells':=[_,_,_,_,_]) Z) Z (fun U aq=>?_);refine⟨aT,?_⟩;replace aq:=aq.sub (dw (.cons _ (.cons_cons _ (.cons_cons _ (.refl _)))));refine Q4 2 Z<|aI<|Q0 5 Z ?_;have ck:1<=j15:=by have:=br (a:=14) (b:=i3) (bN bi);omega
   have htry:=uV ac hR;refine aM ⟨j15-1,by omega,oF,(r2,s.2++[.ofNat (i+1)]),i3+1,K5,m5,a5,b5_,c5,d5,ch,ci,by omega,(ac.jh htry).1,H.le_trans ae ap,a6.trans<|uo htry ck,(by show(s.2++[_]).length+(j15-1)<=_;rw[lA_];simp only[List.length_singleton];omega),F,A,hO78,Z,cI<|bg B,aq⟩
  refine PY 3 Z<|aU<|aI<|Q0 5 Z ?_;have hlp:=br (b:=i+1) (a:=l.length) (bN a4);have hF9:ki k l (i+1) (cQ k l (eA init l,[]) ps)=s:=by show drain k l i 15 (ki k l i<|cQ k l (eA init l,[]) ps)=s;rw[a6,show j15=0 from by have:=bk (a:=14) (b:=i3) (bn bi);omega];rfl
  refine aM ⟨b7-1,by omega,oF,i+1,K3,m3,a3,b3_,c3,d3,u3,M3,by omega,H.le_trans C ae,by rw[hF9];exact ac,by rw[hF9];exact bc,by rw[hF9];exact be,by rw[hF9];omega,by rw[hF9];exact hO3,Z,cI<|bg B,aq⟩
 refine PY 3 Z<|aU<|QA 2 Z<|O Z (RF Z aq.aR.g0 (n:=5) (vs:=[_,_,_,_,_]) Z) Z<|vQ 1 Z<|cw aq (.cH (.there .here)) Z (RK Z Z Z aq.aR.pop.g0 (m:=5) Z (N aa.leaf.2<|N E.init.leaf.2<|N E.threads.leaf.2<|N E.from_.leaf.2<|N E.order.leaf.2 aA) (cells':=[_,_,_,_,_]) Z) Z (fun U aq=>?_);refine QE 5 Z ?_;have cl:i=l.length:=by have:=bk (bn a4);omega
 subst cl;obtain⟨K6,a8,bl,aq⟩:=J.eb (M:=M) aq;have hS:=hO.iB (K:=K6) fun y hy=>bl _ hy
 exact jN Z Z aq.g1 (m:=5) Y Z Z Z ⟨K6,_,_,_,_,_,_,by rw[hex],H.le_trans C a8,(fun _=>⟨hS,aa.mono a8 fun _ _ h=>h,E.mono a8⟩),(fun h=>by rw[heq] at h;cases h),aq.pop.pop⟩
theorem FQ {G:Cx} (u:Plain G) {K:H} {k:Nat} {l:List XC} {lv:V} (hl:bJ K 2 (jc K k) l lv) (q:Int) {U:I} {L:Own} (aq:J U K L):
  bm Tryz.prog G 27 [lv,.int .i64 q] U fun v U'=>(∃b,v= .bool b/\(b=true->pD k 60 l=true))/\J U' K L:=by
 refine QX u Tryz.func27 Z<|QA 8 Z<|Bh Z (RC Z Z Z) (fun _=>Z) (BK u aq hl 60) (fun z U aq=>?_) (fun z U aq=>?_)
 ·refine Q3 3 Z<|cd Z (RC Z Z Z) (fun _=>Z) (PH u hl q aq) ?_;rintro _ U ⟨aa,rfl,aq⟩;refine QE 5 Z ?_;exact aB Z Z ⟨⟨_,Z,fun _=>z⟩,aq⟩
 refine QE 9 Z ?_;exact aB Z Z ⟨⟨_,Z,fun e=>by cases e⟩,aq⟩
theorem DQ {G:Cx} (Q:Plain G) {K:H} (R:mK G K) {k:Nat} {init:List Int} {vi:V} (hi:bJ K 1 cz init vi) {l:List XC} {lv:V} (hl:bJ K 2 (jc K k) l lv) {U:I} {L:Own} (aq:J U K L):
  bm Tryz.prog G 34 [vi,lv] U fun v U'=>∃A m a b c d,v= .tuple [.agg [m,a,b,c,d],.int .i64<|nm k init l]/\H.le K A/\(D (nm k init l) 0=true->Hi k init l/\bJ A 1 cz init m/\ej A (J1 init l.length) a b c d)/\(D (nm k init l) 0=false->m= .au/\a= .au/\b= .au/\c= .au/\d= .au)/\J U' A L:=by
 refine QX Q Tryz.func34 Z<|QA 2 Z<|kp aq Z (RH (cs:=[.au,.au,.au,.au,.au])) (fun U b1 aq=>?_);refine P1 7 Z<|cd Z (RC Z Z Z) (fun _=>Z) (BQ Q R hi hl aq) ?_;rintro _ U (⟨C,rfl,aq⟩ | ⟨hex,heq,A,x0,x1,x2,x3,x4,x5,a,b,c,d,rfl,hle,E,hm,aq⟩)
 ·refine Q3 3 Z<|kp aq Z (RH (cs:=[T,T,T,T,T,T,.au,.au,.au,.au])) (fun U W aq=>?_);refine bF aq Z (RK Z Z Z aq.g0 (m:=10) Z Z (cells':=[_,_,_,_,_,_,_,_,_,_]) Z) Z (fun U aq=>?_);refine P0 10 Z<|aD Z (fun u=>?_) (fun u=>?_)
  ·refine QA 2 Z (O Z (RB (places:=[(0,1),(1,4)]) (zero:=[.au,.au,.au,.au,.au]) (cs:=[_,_,_,_,_]) Z) Z<|vQ 1 Z<|dF aq Z (RK Z Z Z aq.g1 (m:=5) Z Z (cells':=[_,_,_,_,_]) Z) Z (fun U aq=>?_));refine P3 5 Z ?_;exact bB Z Z aq.g1 (m:=5) Y Z Z ⟨K,_,_,_,_,_,Z,H.le_refl K,(fun h=>by rw[C] at h;cases h),(fun _=>⟨Z,Z,Z,Z,Z⟩),aq.pop.pop⟩
  exact absurd (bn u) (by rw[C];decide)
 refine Q3 3 Z<|kp aq Z (RH (cs:=[T,T,T,T,T,T,.au,.au,.au,.au])) (fun U W aq=>?_);refine bF aq Z (RK Z Z Z aq.g0 (m:=10) Z (N Z<|N Z<|N Z<|N Z<|N Z<|N Z<|N E.init.leaf.2<|N E.threads.leaf.2<|N E.from_.leaf.2<|N E.order.leaf.2 aA) (cells':=[_,_,_,_,_,_,_,_,_,_]) Z) Z (fun U aq=>?_);refine P0 10 Z<|aD Z (fun u=>?_) (fun u=>?_)
 ·exact absurd u (by decide)
 refine PX 4 Z<|O Z (RF Z aq.g0 (n:=10) (vs:=[_,_,_,_,_,_,_,_,_,_]) Z) Z ?_;have hpi:=nf hex;refine cd Z (RC Z Z Z) (fun _=>Z) (FR Q (r:=eA init l) hpi.Gb hpi.mem E hm aq) ?_;rintro _ U ⟨X,mv,a3,b3_,c3,d3,rfl,F,M,z,aq⟩;refine dF aq Z (RK Z Z Z aq.g1 (m:=5) Z (N M.leaf.2<|N z.init.leaf.2<|N z.threads.leaf.2<|N z.from_.leaf.2<|N z.order.leaf.2 aA) (cells':=[_,_,_,_,_]) Z) Z (fun U aq=>?_);refine QE 4 Z ?_;exact bB Z Z aq.g1 (m:=5) Y Z Z ⟨X,_,_,_,_,_,by rw[eqv heq],H.le_trans hle F,(fun _=>⟨hex,M,z⟩),(fun h=>by rw[heq] at h;cases h),aq.pop.pop⟩
theorem DO {G:Cx} (hG:Plain G) (a6:G.fk 70=true) (a7:G.ov 106=true) {K:H} (ap:mK G K) {k:Nat} {init:List Int} {vi:V} (hi:bJ K 1 cz init vi) {l:List XC} {lv:V} (hl:bJ K 2 (jc K k) l lv) {ps:List Int} {pv:V} (hp:bJ K 1 cz ps pv) (bt:ps.length<=100) {U:I} {L:Own} (aq:J U K L):
  bm Tryz.prog G 30 [vi,lv,pv] U fun v U'=>∃K1 m a b c d u,v= .tuple [.agg [m,a,b,c,d],u,.int .i64<|nm k init l]/\H.le K K1/\(D (nm k init l) 0=true->Hi k init l/\bJ K1 1 cz (HI k l (eA init l,[]) ps).2 u/\bJ K1 1 cz (HI k l (eA init l,[]) ps).1.mem m/\ej K1 (HI k l (eA init l,[]) ps).1.g a b c d)/\(D (nm k init l) 0=false->m= .au/\a= .au/\b= .au/\c= .au/\d= .au/\u= .au)/\J U' K1 L:=by
 refine QX hG Tryz.func30 Z<|QA 2 Z<|kp aq Z (RH (cs:=[.au,.au,.au,.au,.au])) (fun U b1 aq=>?_);refine P1 8 Z<|cd Z (RC Z Z Z) (fun _=>Z) (BQ hG ap hi hl aq) ?_;rintro _ U (⟨Q,rfl,aq⟩ | ⟨hex,heq,K1,x0,x1,x2,x3,x4,x5,a,b,c,d,rfl,hle,hg,hm,aq⟩)
 ·refine Q3 3 Z<|kp aq Z (RH (cs:=[T,T,T,T,T,T,.au,.au,.au,.au])) (fun U b2 aq=>?_);refine bF aq Z (RK Z Z Z aq.g0 (m:=10) Z Z (cells':=[_,_,_,_,_,_,_,_,_,_]) Z) Z (fun U aq=>?_);refine P0 10 Z<|aD Z (fun R=>?_) (fun R=>?_)
  ·refine QA 2 Z (O Z (RB (places:=[(0,1),(1,4)]) (zero:=[.au,.au,.au,.au,.au]) (cs:=[_,_,_,_,_]) Z) Z<|vQ 1 Z<|dF aq Z (RK Z Z Z aq.g1 (m:=5) Z Z (cells':=[_,_,_,_,_]) Z) Z (fun U aq=>?_));refine P3 6 Z ?_;exact jN Z Z aq.g1 (m:=5) Y Z Z Z ⟨K,_,_,_,_,_,_,Z,H.le_refl K,(fun h=>by rw[Q] at h;cases h),(fun _=>⟨Z,Z,Z,Z,Z,Z⟩),aq.pop.pop⟩
  exact absurd (bn R) (by rw[Q];decide)
 refine Q3 3 Z<|kp aq Z (RH (cs:=[T,T,T,T,T,T,.au,.au,.au,.au])) (fun U b2 aq=>?_);refine bF aq Z (RK Z Z Z aq.g0 (m:=10) Z (N Z<|N Z<|N Z<|N Z<|N Z<|N Z<|N hg.init.leaf.2<|N hg.threads.leaf.2<|N hg.from_.leaf.2<|N hg.order.leaf.2 aA) (cells':=[_,_,_,_,_,_,_,_,_,_]) Z) Z (fun U aq=>?_);refine P0 10 Z<|aD Z (fun R=>?_) (fun R=>?_)
 ·exact absurd R (by decide)
 refine PX 4 Z<|O Z (RF Z aq.g0 (n:=10) (vs:=[_,_,_,_,_,_,_,_,_,_]) Z) Z<|Q3 2 Z<|cd Z (RC Z Z Z) (fun _=>Z) (KY hG a6 a7 (ap.mono hle) (hl.mono hle fun _ _ h=>h.mono hle) (nf hex) hg hm (hp.mono hle fun _ _ h=>h) bt aq) ?_;rintro _ U ⟨K2,y0,y1,y2,y3,y4,y5,a2,b2_,c2,d2,bv,bw,rfl,a8,W,bz,hO,aq⟩;refine Q3 3 Z<|cw aq (.cH .here) Z (RK Z Z Z aq.aR.g0 (m:=10) Z (N Z<|N Z<|N Z<|N Z<|N Z<|N Z<|N W.init.leaf.2<|N W.threads.leaf.2<|N W.from_.leaf.2<|N W.order.leaf.2 aA) (cells':=[_,_,_,_,_,_,_,_,_,_]) Z) Z (fun U aq=>?_);refine Pw 6 Z ?_;have hS0i:gu k l (cQ k l (eA init l,[]) ps).1:=((nf hex).MH (ps:=ps) (s:=(eA init l,[]))).1;have hS0l:(cQ k l (eA init l,[]) ps).2.length<=ps.length:=by have:=pJ (k:=k) (l:=l) (ps:=ps) (s:=(eA init l,[]));simpa using this
 have ca:l.length<=4:=hex.len;have hleA:=H.le_trans hle a8;refine vQ 1 Z (O Z (RG hl Z Z Z (e:=33) Z) Z (PZ 4 Z (bp (rg 11 4++rg 34 20) (fun j t U=>∃(i:Nat) (K2b:H) (x0 x1 x2 x3 x4 x5:Int) (a b c d u:V) (M:Own),j+i=l.length/\H.le K2 K2b/\gu k l (ki k l i<|cQ k l (eA init l,[]) ps).1/\ej K2b (ki k l i<|cQ k l (eA init l,[]) ps).1.g a b c d/\p8 (ki k l i<|cQ k l (eA init l,[]) ps).1.mem x0 x1 x2 x3 x4 x5/\cN 1 3 cz (ki k l i<|cQ k l (eA init l,[]) ps).2 u M/\t.get 11=some (u)/\t.get 34=some (.int .i64 (.ofNat i))/\J U K2b (M++(b2,.row (c6 x0 x1 x2 x3 x4 x5 a b c d) 99 false)::(b1,.row [.au,.au,.au,.au,.au] 44 false)::L)) (l.length) ⟨0,K2,y0,y1,y2,y3,y4,y5,a2,b2_,c2,d2,bv,bw,Z,H.le_refl K2,hS0i,W,bz,hO,Z,Z,aq⟩ ?_)));clear aq;intro j6 t U ar hI;obtain⟨i,K2b,x0,x1,x2,x3,x4,x5,a,b,c,d,u,M,cb,C,aK,hg,hm,hO,X,a9,aq⟩:=hI;obtain⟨oo,rfl⟩:=ar.q2 X a9 Z;refine QA 2 Z<|ky Z (az Z Z Z) (fun am=>?_) (fun am=>?_)
 ·refine OT 11 Z ?_;have a0:(ki k l i<|cQ k l (eA init l,[]) ps).2.length+15<=200:=by have:=(gu.ki (i:=i) hS0i).2.2;have:=bk am;omega
  refine PZ 4 Z (bp ([11,13,14]++rg 37 16) (fun j t U=>∃(s:XM×List Int) (K3:H) (z0 z1 z2 z3 z4 z5:Int) (a3 b3_ c3 d3 u3:V) (M3:Own),gu k l s.1/\H.le K2b K3/\drain k l i 15 (ki k l i<|cQ k l (eA init l,[]) ps)=drain k l i j s/\15<=Ds s.1 i+j/\s.2.length+j<=200/\ej K3 s.1.g a3 b3_ c3 d3/\p8 s.1.mem z0 z1 z2 z3 z4 z5/\cN 1 3 cz s.2 u3 M3/\t.get 11=some (u3)/\J U K3 (M3++(b2,.row (c6 z0 z1 z2 z3 z4 z5 a3 b3_ c3 d3) 99 false)::(b1,.row [.au,.au,.au,.au,.au] 44 false)::L)) (15) ⟨ki k l i<|cQ k l (eA init l,[]) ps,K2b,x0,x1,x2,x3,x4,x5,a,b,c,d,u,M,aK,H.le_refl K2b,Z,by omega,a0,hg,hm,hO,Z,aq⟩ ?_);clear aq;intro j8 t U ar hI;obtain⟨s,K3,z0,z1,z2,z3,z4,z5,a3,b3_,c3,d3,u3,M3,aa,E,ao,b0,b5,bb,bc,hO3,X,aq⟩:=hI;obtain⟨oo,rfl⟩:=ar.q1 X Z;refine aO<|QA 2 Z ?_;have hl3:=hl.mono (H.le_trans hleA<|H.le_trans C E) fun _ _ h=>h.mono (H.le_trans hleA<|H.le_trans C E);have hgl3:=ap.mono (H.le_trans hleA<|H.le_trans C E)
  refine O Z (RF Z aq.aR.g0 (n:=10) (vs:=[_,_,_,_,_,_,_,_,_,_]) Z) Z (Q3 2 Z (O Z (az (v:=.int .i64 (.ofNat (i+1))) Z Z<|cI<|bg B) Z ?_));have b6:i<l.length:=bk am;refine cd Z (RC Z Z Z) (fun _=>Z) (He hG a6 a7 hgl3 hl3 aa bb bc b6 aq) ?_;rintro _ U (⟨e,rfl,he,Q,aq⟩ | ⟨K5,r2,w0,w1,w2,w3,w4,w5,a5,b5_,c5,d5,be,bi,rfl,A,b7,aq⟩)
  ·refine Q3 3 Z<|kp aq Z (RH (cs:=[T,T,T,T,T,T,.au,.au,.au,.au])) (fun U b3 aq=>?_);refine bF aq Z (RK Z Z Z aq.g0 (m:=10) Z Z (cells':=[_,_,_,_,_,_,_,_,_,_]) Z) Z (fun U aq=>?_);refine P0 10 Z<|aD Z (fun ab=>?_) (fun ab=>?_)
   ·refine bu<|aX<|mb Z<|ba<|aU<|aI<|Q0 4 Z ?_;have aq:=aq.pop;have F:jh k l s.1 (.ofNat (i+1))=none:=by unfold jh;rw[show bR (.ofNat (i+1)) 1=false from vY.2 (by show(1:Int)<=((i+1:Nat):Int);omega),show bR (.ofNat l.length) (.ofNat (i+1))=false from vY.2 (by show((i+1:Nat):Int)<=((l.length:Nat):Int);omega)];simp only[cf,show(Int.ofNat (i+1)).toNat-1=i from Z];rw[<-he,Q];rfl
    have hF:ki k l (i+1) (cQ k l (eA init l,[]) ps)=s:=by show drain k l i 15 (ki k l i<|cQ k l (eA init l,[]) ps)=s;rw[ao];exact xe F
    refine aM ⟨j6-1,by omega,oF,i+1,K3,z0,z1,z2,z3,z4,z5,a3,b3_,c3,d3,u3,M3,by omega,H.le_trans C E,by rw[hF];exact aa,by rw[hF];exact bb,by rw[hF];exact bc,by rw[hF];exact hO3,Z,cI<|bg B,aq⟩
   exact absurd (bn ab) (by rw[Q];decide)
  refine Q3 3 Z<|kp aq Z (RH (cs:=[T,T,T,T,T,T,.au,.au,.au,.au])) (fun U b3 aq=>?_);refine bF aq Z (RK Z Z Z aq.g0 (m:=10) Z (N Z<|N Z<|N Z<|N Z<|N Z<|N Z<|N A.init.leaf.2<|N A.threads.leaf.2<|N A.from_.leaf.2<|N A.order.leaf.2 aA) (cells':=[_,_,_,_,_,_,_,_,_,_]) Z) Z (fun U aq=>?_);refine P0 10 Z<|aD Z (fun ab=>?_) (fun ab=>?_)
  ·exact absurd ab (by decide)
  refine PX 4 Z<|O Z (RF Z aq.g0 (n:=10) (vs:=[_,_,_,_,_,_,_,_,_,_]) Z) Z ?_;refine cw aq (.there (.cH .here)) Z (RK Z Z Z aq.pop.aR.g0 (m:=10) Z (N Z<|N Z<|N Z<|N Z<|N Z<|N Z<|N A.init.leaf.2<|N A.threads.leaf.2<|N A.from_.leaf.2<|N A.order.leaf.2 aA) (cells':=[_,_,_,_,_,_,_,_,_,_]) Z) Z (fun U aq=>?_);refine QD 5 Z (O Z (az (v:=.int .i64 (.ofNat (i+1))) Z Z<|cI<|bg B) Z<|gD aq Z (bW (e:=3) (m:=1) (z:=[T]) (cs:=[_]) Y Y Y Y<|bA Z Z Z Z bH) (fun _=>Z) (fun U b4 aq=>?_));replace aq:=(aq.perm<|List.Perm.swap ..).pop;obtain⟨U,u5,M5,bl,hO5,aq⟩:=eY (P:=Tryz.prog) (ts:= #[34,34]) (t:=34) (e:=3) (l2:=[Int.ofNat (i+1)]) hO3 aq (fm (xs:=[Int.ofNat (i+1)]) (.inr ⟨Z,Z⟩) (by simp)) cz.leaf (by simp) (by simp) B Z Y Y Y;refine O Z (dB Z Z Z Z Y bl) Z<|Q2 2 Z<|aI ?_;have F:jh k l s.1 (.ofNat (i+1))=some r2:=by unfold jh;rw[show bR (.ofNat (i+1)) 1=false from vY.2 (by show(1:Int)<=((i+1:Nat):Int);omega),show bR (.ofNat l.length) (.ofNat (i+1))=false from vY.2 (by show((i+1:Nat):Int)<=((l.length:Nat):Int);omega)];simp only[cf,show(Int.ofNat (i+1)).toNat-1=i from Z];rw[bi];rfl
  obtain⟨cc,ce⟩:=Kv F;have b8:1<=j8:=by omega
  refine aM ⟨j8-1,by omega,oF,(r2,s.2++[.ofNat (i+1)]),K5,w0,w1,w2,w3,w4,w5,a5,b5_,c5,d5,u5,M5,(aa.step bi).1,H.le_trans E be,ao.trans<|uo F b8,(show 15<=Ds r2 i+(j8-1) by omega),(by show(s.2++[_]).length+(j8-1)<=200;rw[lA_];simp only[List.length_singleton];omega),A,b7,hO5,Z,aq⟩
 refine P0 4 Z<|PY 3 Z<|aU<|QA 2 Z<|O Z (RF Z aq.aR.g0 (n:=10) (vs:=[_,_,_,_,_,_,_,_,_,_]) Z) Z ?_;have b9:i=l.length:=by have:=br am;omega
 subst b9;refine cd Z (RC Z Z Z) (fun _=>Z) (FR hG aK.Gb aK.mem hg hm aq) ?_;rintro _ U ⟨K4,mv,a4,b4_,c4,d4,rfl,bo,bs,ac,aq⟩;refine vQ 1 Z<|cw aq (.cH (.there .here)) Z (RK Z Z Z aq.aR.pop.g0 (m:=5) Z (N bs.leaf.2<|N ac.init.leaf.2<|N ac.threads.leaf.2<|N ac.from_.leaf.2<|N ac.order.leaf.2 aA) (cells':=[_,_,_,_,_]) Z) Z (fun U aq=>?_);refine QE 5 Z ?_;obtain⟨K6,ae,a1,aq⟩:=aq.eb;have hS:=hO.iB (K:=K6) fun y hy=>a1 _ hy
 exact jN Z Z aq.g1 (m:=5) Y Z Z Z ⟨K6,_,_,_,_,_,_,by rw[eqv heq],H.le_trans hleA<|H.le_trans C<|H.le_trans bo ae,(fun _=>⟨hex,hS,bs.mono ae fun _ _ h=>h,ac.mono ae⟩),(fun h=>by rw[heq] at h;cases h),aq.pop.pop⟩
theorem yK {G:Cx} (F:Plain G) (bb:G.fk 70=true) (bc:G.ov 106=true) (bo:G.IL 18 []=some (.bool true)) {K:H} (be:∀U L,J U K L->nY G.gl U G.laid=true) (hgl:mK G K) {k:Nat} {init:List Int} {vi:V} (hi:bJ K 1 cz init vi) {l:List XC} {lv:V} (hl:bJ K 2 (jc K k) l lv) (bi:∀c∈l,lC k c) {ps:List Int} {pv:V} (hp:bJ K 1 cz ps pv) {U:I} {L:Own} (aq:J U K L):
  bm Tryz.prog G 8 [vi,lv,pv] U fun v U'=>v= .bool true:=by
 refine QX F Tryz.func8 Z<|PV 8 Z<|bj Z (RC Z Z Z) (fun _=>Z) (Jw (v:=.bool true) (F.h1 _ _ _) bo Z Z (be _ _ aq) ⟨Z,aq⟩) (fun U aq=>?_);refine O Z (cT Z) Z<|QC 3 Z<|Pu 6 Z<|cd Z (RC Z Z Z) (fun _=>Z) (FQ F hl _ aq) ?_;rintro _ U ⟨⟨b0,rfl,bs⟩,aq⟩;refine O Z (cT Z) Z<|ky Z (an Z) (fun bt=>?_) (fun bt=>?_)
 ·refine P3 19 Z ?_;exact aB Z Z Z
 refine vQ 1 Z<|O Z (RG hi Z Z Z (e:=2) Z) Z<|Q3 2 Z<|ky Z (an Z) (fun b7=>?_) (fun b7=>?_)
 ·refine P3 14 Z ?_;exact aB Z Z Z
 refine vQ 1 Z<|O Z (RG hp Z Z Z (e:=3) Z) Z<|QC 4 Z<|aD Z (fun bv=>?_) (fun bv=>?_)
 ·refine QB 7 Z ?_;exact aB Z Z Z
 refine PX 7 Z ?_;have hF:=HK bi (bs (by revert bt;cases b0<;>simp[bd]));have Q:ps.length<=100:=by have:=br (b:=ps.length) (a:=60) bv;omega
 refine cd Z (RC Z Z Z) (fun _=>Z) (OE F bb bc hgl hi hl hp Q aq) ?_;rintro _ U ⟨K1,m1,a1,b1_,c1_,d1,n1,rfl,R,bw,bl,aq⟩;replace hl:=hl.mono R fun _ _ h=>h.mono R;replace hgl:=hgl.mono R;replace hi:=hi.mono R fun _ _ h=>h;replace hp:=hp.mono R fun _ _ h=>h
 cases M:D (nm k init l) 0
 ·obtain⟨rfl,rfl,rfl,rfl,rfl,rfl⟩:=bl M;have hm1:bJ K1 1 cz ([]:List Int) .au:=.inl ⟨Z,Z⟩;have hg1:=mm (K:=K1);refine Q3 4 Z<|kp aq Z (RH (cs:=[.au,.au,.au,.au,.au])) (fun U b1 aq=>?_);refine bF aq Z (RK Z Z Z aq.g0 (m:=5) Z (N hm1.leaf.2<|N hg1.init.leaf.2<|N hg1.threads.leaf.2<|N hg1.from_.leaf.2<|N hg1.order.leaf.2 aA) (cells':=[_,_,_,_,_]) Z) Z (fun U aq=>?_);refine P1 9 Z<|cd Z (RC Z Z Z) (fun _=>Z) (Jb F hi hl hF hp Q aq) ?_;rintro _ U ⟨K2,m2,a2,b2_,c2_,d2,n2,rfl,E,aK,ac,aq⟩;replace hl:=hl.mono E fun _ _ h=>h.mono E;replace hgl:=hgl.mono E;replace hi:=hi.mono E fun _ _ h=>h;replace hp:=hp.mono E fun _ _ h=>h
  replace hm1:=hm1.mono E fun _ _ h=>h;replace hg1:=hg1.mono E
  obtain⟨rfl,rfl,rfl,rfl,rfl,rfl⟩:=ac M;have hm2:bJ K2 1 cz ([]:List Int) .au:=.inl ⟨Z,Z⟩;have hg2:=mm (K:=K2);refine Q3 4 Z<|kp aq Z (RH (cs:=[.au,.au,.au,.au,.au])) (fun U b2 aq=>?_);refine bF aq Z (RK Z Z Z aq.g0 (m:=5) Z (N hm2.leaf.2<|N hg2.init.leaf.2<|N hg2.threads.leaf.2<|N hg2.from_.leaf.2<|N hg2.order.leaf.2 aA) (cells':=[_,_,_,_,_]) Z) Z (fun U aq=>?_);refine P1 9 Z<|cd Z (RC Z Z Z) (fun _=>Z) (DO F bb bc hgl hi hl hp Q aq) ?_;rintro _ U ⟨K3,m3,a3,b3_,c3_,d3,u3,rfl,A,a0,ae,aq⟩;replace hl:=hl.mono A fun _ _ h=>h.mono A;replace hgl:=hgl.mono A;replace hi:=hi.mono A fun _ _ h=>h;replace hp:=hp.mono A fun _ _ h=>h
  replace hm1:=hm1.mono A fun _ _ h=>h;replace hg1:=hg1.mono A
  replace hm2:=hm2.mono A fun _ _ h=>h;replace hg2:=hg2.mono A
  obtain⟨rfl,rfl,rfl,rfl,rfl,rfl⟩:=ae M;have hm3:bJ K3 1 cz ([]:List Int) .au:=.inl ⟨Z,Z⟩;have hg3:=mm (K:=K3);have hS3:bJ K3 1 cz ([]:List Int) .au:=.inl ⟨Z,Z⟩;refine Q3 4 Z<|kp aq Z (RH (cs:=[.au,.au,.au,.au,.au])) (fun U b3 aq=>?_);refine bF aq Z (RK Z Z Z aq.g0 (m:=5) Z (N hm3.leaf.2<|N hg3.init.leaf.2<|N hg3.threads.leaf.2<|N hg3.from_.leaf.2<|N hg3.order.leaf.2 aA) (cells':=[_,_,_,_,_]) Z) Z (fun U aq=>?_);refine P1 9 Z<|cd Z (RC Z Z Z) (fun _=>Z) (Ct F hi hl hF hp Q aq) ?_;rintro _ U ⟨K4,m4,a4,b4_,c4_,d4,u4,rfl,z,a7,am,aq⟩;replace hl:=hl.mono z fun _ _ h=>h.mono z;replace hgl:=hgl.mono z;replace hi:=hi.mono z fun _ _ h=>h;replace hp:=hp.mono z fun _ _ h=>h
  replace hm1:=hm1.mono z fun _ _ h=>h;replace hg1:=hg1.mono z
  replace hm2:=hm2.mono z fun _ _ h=>h;replace hg2:=hg2.mono z
  replace hm3:=hm3.mono z fun _ _ h=>h;replace hg3:=hg3.mono z
  replace hS3:=hS3.mono z fun _ _ h=>h
  obtain⟨rfl,rfl,rfl,rfl,rfl,rfl⟩:=am M;have hm4:bJ K4 1 cz ([]:List Int) .au:=.inl ⟨Z,Z⟩;have hg4:=mm (K:=K4);have hS4:bJ K4 1 cz ([]:List Int) .au:=.inl ⟨Z,Z⟩;refine Q3 4 Z<|kp aq Z (RH (cs:=[.au,.au,.au,.au,.au])) (fun U b4 aq=>?_);refine bF aq Z (RK Z Z Z aq.g0 (m:=5) Z (N hm4.leaf.2<|N hg4.init.leaf.2<|N hg4.threads.leaf.2<|N hg4.from_.leaf.2<|N hg4.order.leaf.2 aA) (cells':=[_,_,_,_,_]) Z) Z (fun U aq=>?_);refine P1 8 Z<|cd Z (RC Z Z Z) (fun _=>Z) (DQ F hgl hi hl aq) ?_;rintro _ U ⟨K5,m5,a5,b5_,c5_,d5,rfl,u,a8,ao,aq⟩;replace hl:=hl.mono u fun _ _ h=>h.mono u;replace hgl:=hgl.mono u;replace hi:=hi.mono u fun _ _ h=>h;replace hp:=hp.mono u fun _ _ h=>h
  replace hm1:=hm1.mono u fun _ _ h=>h;replace hg1:=hg1.mono u
  replace hm2:=hm2.mono u fun _ _ h=>h;replace hg2:=hg2.mono u
  replace hm3:=hm3.mono u fun _ _ h=>h;replace hg3:=hg3.mono u
  replace hS3:=hS3.mono u fun _ _ h=>h
  replace hm4:=hm4.mono u fun _ _ h=>h;replace hg4:=hg4.mono u
  replace hS4:=hS4.mono u fun _ _ h=>h
  obtain⟨rfl,rfl,rfl,rfl,rfl⟩:=ao M;have hm5:bJ K5 1 cz ([]:List Int) .au:=.inl ⟨Z,Z⟩;have hg5:=mm (K:=K5);refine Q3 3 Z<|kp aq Z (RH (cs:=[.au,.au,.au,.au,.au])) (fun U b5 aq=>?_);refine bF aq Z (RK Z Z Z aq.g0 (m:=5) Z (N hm5.leaf.2<|N hg5.init.leaf.2<|N hg5.threads.leaf.2<|N hg5.from_.leaf.2<|N hg5.order.leaf.2 aA) (cells':=[_,_,_,_,_]) Z) Z (fun U aq=>?_);refine P1 7 Z<|cd Z (RC Z Z Z) (fun _=>Z) (wi F hi hl hF aq) ?_;rintro _ U (⟨bz,rfl,aq⟩ | ⟨a9,K6,m6,a6,b6_,c6_,d6,rfl,C,ab,hg6,aq⟩)
  ·have ab:bJ K5 1 cz ([]:List Int) .au:=.inl ⟨Z,Z⟩;have hg6:=mm (K:=K5);refine Q3 3 Z<|kp aq Z (RH (cs:=[.au,.au,.au,.au,.au])) (fun U b6 aq=>?_);refine bF aq Z (RK Z Z Z aq.g0 (m:=5) Z (N ab.leaf.2<|N hg6.init.leaf.2<|N hg6.threads.leaf.2<|N hg6.from_.leaf.2<|N hg6.order.leaf.2 aA) (cells':=[_,_,_,_,_]) Z) Z (fun U aq=>?_);refine P0 4 Z (aS (l:=[(0,[]),(1,[]),(2,[]),(3,[]),(4,[]),(5,[]),(6,[]),(7,[]),(8,[]),(9,[]),(10,[]),(11,[]),(12,[]),(13,[]),(14,[]),(15,[]),(16,[]),(17,[]),(18,[]),(19,[]),(20,[]),(21,[]),(22,[]),(23,[]),(24,[]),(25,[]),(26,[]),(27,[]),(28,[]),(29,[]),(30,[]),(31,[]),(32,[]),(33,[]),(34,[]),(35,[]),(36,[]),(37,[]),(38,[]),(39,[]),(40,[]),(42,[]),(43,[]),(41,[43]),(44,[]),(45,[]),(46,[]),(47,[]),(48,[]),(49,[]),(51,[]),(52,[]),(50,[52]),(53,[]),(54,[]),(55,[]),(56,[])]) Y Y<|al Z Z (RF Z (aq.get 5 Z) (n:=5) (vs:=[_,_,_,_,_]) Z) Z<|al Z Z (RF Z (aq.get 4 Z) (n:=5) (vs:=[_,_,_,_,_]) Z) Z<|cy Z Z (RC Z Z Z) (fun _=>Z) (by have q:=oV F hm1 hm2 hg1 hg2 aq;rw[cL.2 Z,cL.2 Z] at q;exact q) (fun U aq=>?_));refine⟨aT,?_⟩;refine Q5 5 Z<|dC Z Z (an Z) (fun _=>Z) (fun ap=>?_) (fun ap=>?_)
   ·refine Q5 4 Z<|dC Z Z (an Z) (fun _=>Z) (fun ar=>?_) (fun ar=>?_)
    ·refine al Z Z (RF Z (aq.get 3 Z) (n:=5) (vs:=[_,_,_,_,_]) Z) Z<|al Z Z (RF Z (aq.get 2 Z) (n:=5) (vs:=[_,_,_,_,_]) Z) Z<|cy Z Z (RC Z Z Z) (fun _=>Z) (by have q:=oV F hm3 hm4 hg3 hg4 aq;rw[cL.2 Z,cL.2 Z] at q;exact q) (fun U aq=>?_);refine⟨aT,?_⟩;refine Q5 4 Z<|cy Z Z (RC Z Z Z) (fun _=>Z) (KV F hS3 hS4 aq Z) (fun U aq=>?_);refine⟨aT,?_⟩;refine Q5 6 Z<|dC Z Z (an Z) (fun _=>Z) (fun W=>?_) (fun W=>?_)
     ·refine al Z Z (RF Z aq.g1 (n:=5) (vs:=[_,_,_,_,_]) Z) Z<|al Z Z (RF Z aq.g0 (n:=5) (vs:=[_,_,_,_,_]) Z) Z<|cy Z Z (RC Z Z Z) (fun _=>Z) (by have q:=oV F hm5 ab hg5 hg6 aq;rw[cL.2 Z,cL.2 Z] at q;exact q) (fun U aq=>?_);refine⟨aT,?_⟩;refine Q5 6 Z<|dC Z Z (an Z) (fun _=>Z) (fun X=>?_) (fun X=>?_)
      ·refine wQ 1 Z<|al Z Z (RF Z (aq.get 5 Z) (n:=5) (vs:=[_,_,_,_,_]) Z) Z<|wQ 1 Z<|al Z Z (RF Z (aq.get 4 Z) (n:=5) (vs:=[_,_,_,_,_]) Z) Z<|cy Z Z (RC Z Z Z) (fun _=>Z) (KS F hgl hl hm1 hg1 aq) (fun U aq=>?_);refine⟨(bx (bO Z Z Z Z Z (RF Z (aq.get 4 Z) (n:=5) (vs:=[_,_,_,_,_]) Z)<|fK<|bK hm2.eI<|bK hg2.init.eI<|bK hg2.threads.eI<|bK hg2.from_.eI<|bK hg2.order.eI eP) aT),?_⟩;refine cy Z Z (RC Z Z Z) (fun _=>Z) (I8 F hl hF hm2 hg2 aq) (fun U aq=>?_);refine⟨aT,?_⟩;refine Q5 2 Z<|dC Z Z (an Z) (fun _=>Z) (fun aa=>?_) (fun aa=>?_)
       ·refine wQ 1 Z<|al Z Z (RF Z (aq.get 5 Z) (n:=5) (vs:=[_,_,_,_,_]) Z) Z<|wQ 1 Z<|al Z Z (RF Z (aq.get 4 Z) (n:=5) (vs:=[_,_,_,_,_]) Z) Z<|cy Z Z (RC Z Z Z) (fun _=>Z) (PI F hgl hl hm1 hg1 aq) (fun U aq=>?_);refine⟨(bx (bO Z Z Z Z Z (RF Z (aq.get 4 Z) (n:=5) (vs:=[_,_,_,_,_]) Z)<|fK<|bK hm2.eI<|bK hg2.init.eI<|bK hg2.threads.eI<|bK hg2.from_.eI<|bK hg2.order.eI eP) aT),?_⟩;refine cy Z Z (RC Z Z Z) (fun _=>Z) (LN F hl hF hm2 hg2 aq) (fun U aq=>?_);refine⟨aT,?_⟩;refine QG 6 Z ?_;exact aB Z Z<|cB (by generalize zR k l _ _=q;cases q<;>rfl)
       exact absurd aa (by generalize tt k l _ _=q;cases q<;>decide)
      exact absurd X (by first | decide | (rw[ea];decide) | (rw[M];decide) | (rw[eqI_comm,M];decide))
     exact absurd W (by first | decide | (rw[ea];decide) | (rw[M];decide) | (rw[eqI_comm,M];decide))
    exact absurd ar (by first | decide | (rw[ea];decide) | (rw[M];decide) | (rw[eqI_comm,M];decide))
   exact absurd ap (by first | decide | (rw[ea];decide) | (rw[M];decide) | (rw[eqI_comm,M];decide))
  exact absurd M (by rw[a9];decide)
 obtain⟨_,rfl,hm1,hg1⟩:=bw M;refine Q3 4 Z<|kp aq Z (RH (cs:=[.au,.au,.au,.au,.au])) (fun U b1 aq=>?_);refine bF aq Z (RK Z Z Z aq.g0 (m:=5) Z (N hm1.leaf.2<|N hg1.init.leaf.2<|N hg1.threads.leaf.2<|N hg1.from_.leaf.2<|N hg1.order.leaf.2 aA) (cells':=[_,_,_,_,_]) Z) Z (fun U aq=>?_);refine P1 9 Z<|cd Z (RC Z Z Z) (fun _=>Z) (Jb F hi hl hF hp Q aq) ?_;rintro _ U ⟨K2,m2,a2,b2_,c2_,d2,n2,rfl,E,aK,ac,aq⟩;replace hl:=hl.mono E fun _ _ h=>h.mono E;replace hgl:=hgl.mono E;replace hi:=hi.mono E fun _ _ h=>h;replace hp:=hp.mono E fun _ _ h=>h
 replace hm1:=hm1.mono E fun _ _ h=>h;replace hg1:=hg1.mono E
 obtain⟨rfl,hm2,hg2⟩:=aK M;refine Q3 4 Z<|kp aq Z (RH (cs:=[.au,.au,.au,.au,.au])) (fun U b2 aq=>?_);refine bF aq Z (RK Z Z Z aq.g0 (m:=5) Z (N hm2.leaf.2<|N hg2.init.leaf.2<|N hg2.threads.leaf.2<|N hg2.from_.leaf.2<|N hg2.order.leaf.2 aA) (cells':=[_,_,_,_,_]) Z) Z (fun U aq=>?_);refine P1 9 Z<|cd Z (RC Z Z Z) (fun _=>Z) (DO F bb bc hgl hi hl hp Q aq) ?_;rintro _ U ⟨K3,m3,a3,b3_,c3_,d3,u3,rfl,A,a0,ae,aq⟩;replace hl:=hl.mono A fun _ _ h=>h.mono A;replace hgl:=hgl.mono A;replace hi:=hi.mono A fun _ _ h=>h;replace hp:=hp.mono A fun _ _ h=>h
 replace hm1:=hm1.mono A fun _ _ h=>h;replace hg1:=hg1.mono A
 replace hm2:=hm2.mono A fun _ _ h=>h;replace hg2:=hg2.mono A
 obtain⟨_,hS3,hm3,hg3⟩:=a0 M;refine Q3 4 Z<|kp aq Z (RH (cs:=[.au,.au,.au,.au,.au])) (fun U b3 aq=>?_);refine bF aq Z (RK Z Z Z aq.g0 (m:=5) Z (N hm3.leaf.2<|N hg3.init.leaf.2<|N hg3.threads.leaf.2<|N hg3.from_.leaf.2<|N hg3.order.leaf.2 aA) (cells':=[_,_,_,_,_]) Z) Z (fun U aq=>?_);refine P1 9 Z<|cd Z (RC Z Z Z) (fun _=>Z) (Ct F hi hl hF hp Q aq) ?_;rintro _ U ⟨K4,m4,a4,b4_,c4_,d4,u4,rfl,z,a7,am,aq⟩;replace hl:=hl.mono z fun _ _ h=>h.mono z;replace hgl:=hgl.mono z;replace hi:=hi.mono z fun _ _ h=>h;replace hp:=hp.mono z fun _ _ h=>h
 replace hm1:=hm1.mono z fun _ _ h=>h;replace hg1:=hg1.mono z
 replace hm2:=hm2.mono z fun _ _ h=>h;replace hg2:=hg2.mono z
 replace hm3:=hm3.mono z fun _ _ h=>h;replace hg3:=hg3.mono z
 replace hS3:=hS3.mono z fun _ _ h=>h
 obtain⟨hS4,hm4,hg4⟩:=a7 M;refine Q3 4 Z<|kp aq Z (RH (cs:=[.au,.au,.au,.au,.au])) (fun U b4 aq=>?_);refine bF aq Z (RK Z Z Z aq.g0 (m:=5) Z (N hm4.leaf.2<|N hg4.init.leaf.2<|N hg4.threads.leaf.2<|N hg4.from_.leaf.2<|N hg4.order.leaf.2 aA) (cells':=[_,_,_,_,_]) Z) Z (fun U aq=>?_);refine P1 8 Z<|cd Z (RC Z Z Z) (fun _=>Z) (DQ F hgl hi hl aq) ?_;rintro _ U ⟨K5,m5,a5,b5_,c5_,d5,rfl,u,a8,ao,aq⟩;replace hl:=hl.mono u fun _ _ h=>h.mono u;replace hgl:=hgl.mono u;replace hi:=hi.mono u fun _ _ h=>h;replace hp:=hp.mono u fun _ _ h=>h
 replace hm1:=hm1.mono u fun _ _ h=>h;replace hg1:=hg1.mono u
 replace hm2:=hm2.mono u fun _ _ h=>h;replace hg2:=hg2.mono u
 replace hm3:=hm3.mono u fun _ _ h=>h;replace hg3:=hg3.mono u
 replace hS3:=hS3.mono u fun _ _ h=>h
 replace hm4:=hm4.mono u fun _ _ h=>h;replace hg4:=hg4.mono u
 replace hS4:=hS4.mono u fun _ _ h=>h
 obtain⟨_,hm5,hg5⟩:=a8 M;refine Q3 3 Z<|kp aq Z (RH (cs:=[.au,.au,.au,.au,.au])) (fun U b5 aq=>?_);refine bF aq Z (RK Z Z Z aq.g0 (m:=5) Z (N hm5.leaf.2<|N hg5.init.leaf.2<|N hg5.threads.leaf.2<|N hg5.from_.leaf.2<|N hg5.order.leaf.2 aA) (cells':=[_,_,_,_,_]) Z) Z (fun U aq=>?_);refine P1 7 Z<|cd Z (RC Z Z Z) (fun _=>Z) (wi F hi hl hF aq) ?_;rintro _ U (⟨bz,rfl,aq⟩ | ⟨a9,K6,m6,a6,b6_,c6_,d6,rfl,C,ab,hg6,aq⟩)
 ·exact absurd M (by rw[bz];decide)
 replace hl:=hl.mono C fun _ _ h=>h.mono C;replace hgl:=hgl.mono C;replace hi:=hi.mono C fun _ _ h=>h;replace hp:=hp.mono C fun _ _ h=>h
 replace hm1:=hm1.mono C fun _ _ h=>h;replace hg1:=hg1.mono C
 replace hm2:=hm2.mono C fun _ _ h=>h;replace hg2:=hg2.mono C
 replace hm3:=hm3.mono C fun _ _ h=>h;replace hg3:=hg3.mono C
 replace hS3:=hS3.mono C fun _ _ h=>h
 replace hm4:=hm4.mono C fun _ _ h=>h;replace hg4:=hg4.mono C
 replace hS4:=hS4.mono C fun _ _ h=>h
 replace hm5:=hm5.mono C fun _ _ h=>h;replace hg5:=hg5.mono C
 replace hg6:ej K6 (J1 init l.length) a6 b6_ c6_ d6:=hg6;refine Q3 3 Z<|kp aq Z (RH (cs:=[.au,.au,.au,.au,.au])) (fun U b6 aq=>?_);refine bF aq Z (RK Z Z Z aq.g0 (m:=5) Z (N ab.leaf.2<|N hg6.init.leaf.2<|N hg6.threads.leaf.2<|N hg6.from_.leaf.2<|N hg6.order.leaf.2 aA) (cells':=[_,_,_,_,_]) Z) Z (fun U aq=>?_);refine P0 4 Z (aS (l:=[(0,[]),(1,[]),(2,[]),(3,[]),(4,[]),(5,[]),(6,[]),(7,[]),(8,[]),(9,[]),(10,[]),(11,[]),(12,[]),(13,[]),(14,[]),(15,[]),(16,[]),(17,[]),(18,[]),(19,[]),(20,[]),(21,[]),(22,[]),(23,[]),(24,[]),(25,[]),(26,[]),(27,[]),(28,[]),(29,[]),(30,[]),(31,[]),(32,[]),(33,[]),(34,[]),(35,[]),(36,[]),(37,[]),(38,[]),(39,[]),(40,[]),(42,[]),(43,[]),(41,[43]),(44,[]),(45,[]),(46,[]),(47,[]),(48,[]),(49,[]),(51,[]),(52,[]),(50,[52]),(53,[]),(54,[]),(55,[]),(56,[])]) Y Y<|al Z Z (RF Z (aq.get 5 Z) (n:=5) (vs:=[_,_,_,_,_]) Z) Z<|al Z Z (RF Z (aq.get 4 Z) (n:=5) (vs:=[_,_,_,_,_]) Z) Z<|cy Z Z (RC Z Z Z) (fun _=>Z) (by have q:=oV F hm1 hm2 hg1 hg2 aq;rw[cL.2 Z,cL.2 Z] at q;exact q) (fun U aq=>?_));refine⟨aT,?_⟩;refine Q5 5 Z<|dC Z Z (an Z) (fun _=>Z) (fun ap=>?_) (fun ap=>?_)
 ·refine Q5 4 Z<|dC Z Z (an Z) (fun _=>Z) (fun ar=>?_) (fun ar=>?_)
  ·refine al Z Z (RF Z (aq.get 3 Z) (n:=5) (vs:=[_,_,_,_,_]) Z) Z<|al Z Z (RF Z (aq.get 2 Z) (n:=5) (vs:=[_,_,_,_,_]) Z) Z<|cy Z Z (RC Z Z Z) (fun _=>Z) (by have q:=oV F hm3 hm4 hg3 hg4 aq;rw[cL.2 Z,cL.2 Z] at q;exact q) (fun U aq=>?_);refine⟨aT,?_⟩;refine Q5 4 Z<|cy Z Z (RC Z Z Z) (fun _=>Z) (KV F hS3 hS4 aq Z) (fun U aq=>?_);refine⟨aT,?_⟩;refine Q5 6 Z<|dC Z Z (an Z) (fun _=>Z) (fun W=>?_) (fun W=>?_)
   ·refine al Z Z (RF Z aq.g1 (n:=5) (vs:=[_,_,_,_,_]) Z) Z<|al Z Z (RF Z aq.g0 (n:=5) (vs:=[_,_,_,_,_]) Z) Z<|cy Z Z (RC Z Z Z) (fun _=>Z) (by have q:=oV F hm5 ab hg5 hg6 aq;rw[cL.2 Z,cL.2 Z] at q;exact q) (fun U aq=>?_);refine⟨aT,?_⟩;refine Q5 6 Z<|dC Z Z (an Z) (fun _=>Z) (fun X=>?_) (fun X=>?_)
    ·refine wQ 1 Z<|al Z Z (RF Z (aq.get 5 Z) (n:=5) (vs:=[_,_,_,_,_]) Z) Z<|wQ 1 Z<|al Z Z (RF Z (aq.get 4 Z) (n:=5) (vs:=[_,_,_,_,_]) Z) Z<|cy Z Z (RC Z Z Z) (fun _=>Z) (KS F hgl hl hm1 hg1 aq) (fun U aq=>?_);refine⟨(bx (bO Z Z Z Z Z (RF Z (aq.get 4 Z) (n:=5) (vs:=[_,_,_,_,_]) Z)<|fK<|bK hm2.eI<|bK hg2.init.eI<|bK hg2.threads.eI<|bK hg2.from_.eI<|bK hg2.order.eI eP) aT),?_⟩;refine cy Z Z (RC Z Z Z) (fun _=>Z) (I8 F hl hF hm2 hg2 aq) (fun U aq=>?_);refine⟨aT,?_⟩;refine Q5 2 Z<|dC Z Z (an Z) (fun _=>Z) (fun aa=>?_) (fun aa=>?_)
     ·refine wQ 1 Z<|al Z Z (RF Z (aq.get 5 Z) (n:=5) (vs:=[_,_,_,_,_]) Z) Z<|wQ 1 Z<|al Z Z (RF Z (aq.get 4 Z) (n:=5) (vs:=[_,_,_,_,_]) Z) Z<|cy Z Z (RC Z Z Z) (fun _=>Z) (PI F hgl hl hm1 hg1 aq) (fun U aq=>?_);refine⟨(bx (bO Z Z Z Z Z (RF Z (aq.get 4 Z) (n:=5) (vs:=[_,_,_,_,_]) Z)<|fK<|bK hm2.eI<|bK hg2.init.eI<|bK hg2.threads.eI<|bK hg2.from_.eI<|bK hg2.order.eI eP) aT),?_⟩;refine cy Z Z (RC Z Z Z) (fun _=>Z) (LN F hl hF hm2 hg2 aq) (fun U aq=>?_);refine⟨aT,?_⟩;refine QG 6 Z ?_;exact aB Z Z<|cB (by generalize zR k l _ _=q;cases q<;>rfl)
     exact absurd aa (by generalize tt k l _ _=q;cases q<;>decide)
    exact absurd X (by first | decide | (rw[ea];decide) | (rw[M];decide) | (rw[eqI_comm,M];decide))
   exact absurd W (by first | decide | (rw[ea];decide) | (rw[M];decide) | (rw[eqI_comm,M];decide))
  exact absurd ar (by first | decide | (rw[ea];decide) | (rw[M];decide) | (rw[eqI_comm,M];decide))
 exact absurd ap (by first | decide | (rw[ea];decide) | (rw[M];decide) | (rw[eqI_comm,M];decide))
section
variable {H_:Type} {U:I}
theorem Gm (C:∀(b:Nat) (o:cM),U.m.get b=some o->b<U.next):∀(fuel:Nat) (d:DataW H_) (vs:List V),Fit Tryz.prog fuel 82 d->dY Tryz.prog U fuel 82 d vs->eE (wz U) fuel (BF fuel d) vs
 | 0,_,_,hf,_=>hf.elim
 | 1,d,vs,hf,u=>by
  obtain⟨_,h⟩:=jY (m:=4) Tryz.underlying82 Y Y hf u;exact(h 0 _ Z).1.elim
 | fuel+2,d,vs,hf,u=>by
  obtain⟨hl,h⟩:=jY (m:=4) Tryz.underlying82 Y Y hf u
  obtain⟨a,b,c,e,rfl⟩:∃a b c e,vs= [a,b,c,e]:=by
   match vs,hl with
   | [a,b,c,e],_=>exact⟨a,b,c,e,Z⟩
  obtain⟨E,F⟩:Fit Tryz.prog _ 3 (ec d 0)/\dY Tryz.prog U _ 3 (ec d 0) (([a,b,c,e].drop 0).take<|Tryz.prog.cellsOf 3):=h 0 _ Z;obtain⟨G,K⟩:Fit Tryz.prog _ 2 (ec d 1)/\dY Tryz.prog U _ 2 (ec d 1) (([a,b,c,e].drop 1).take<|Tryz.prog.cellsOf 2):=h 1 _ Z;obtain⟨L,M⟩:Fit Tryz.prog _ 9 (ec d 2)/\dY Tryz.prog U _ 9 (ec d 2) (([a,b,c,e].drop 2).take<|Tryz.prog.cellsOf 9):=h 2 _ Z;obtain⟨Q,R⟩:Fit Tryz.prog _ 77 (ec d 3)/\dY Tryz.prog U _ 77 (ec d 3) (([a,b,c,e].drop 3).take<|Tryz.prog.cellsOf 77):=h 3 _ Z;have W:Tryz.prog.cellsOf 3=1:=by kernel_rfl
  have X:Tryz.prog.cellsOf 2=1:=by kernel_rfl
  have c9:Tryz.prog.cellsOf 9=1:=by kernel_rfl
  have z:Tryz.prog.cellsOf 77=1:=by kernel_rfl
  have e0:=(nX Tryz.underlying3 E F).1;have e1:=(nX Tryz.underlying2 G K).1;have e2:=Ov Tryz.underlying9 L M;obtain⟨v,A,hs⟩:=jy (m:=4) (BF fuel) (eE (wz U) fuel) Tryz.underlying77 Y (by decide) C Q R fun x vs hf u=>Gm C fuel x vs hf u
  rw[W] at e0;rw[X] at e1;rw[c9] at e2;rw[z] at A;simp only[List.drop_zero,List.take_succ_cons,List.take_zero,List.drop_succ_cons,List.cons.injEq,and_true] at e0 e1 e2 A;subst e0;subst e1;subst e2;subst A;show∃w,_= [_,_,_,w]/\bJ (wz U) 4 (eE (wz U) (fuel+1)) ((jf<|ec d 3).map<|BF fuel) w;exact⟨_,Z,hs.zW fun x vs h=>eE.up h⟩
theorem Mg (C:∀(b:Nat) (o:cM),U.m.get b=some o->b<U.next) (fuel:Nat) (d:DataW H_) (vs:List V) (hf:Fit Tryz.prog (fuel+2) 79 d) (z:dY Tryz.prog U (fuel+2) 79 d vs):gp (wz U) fuel (KL fuel d) vs:=by
 obtain⟨hl,h⟩:=jY (m:=6) Tryz.underlying79 Y Y hf z
 obtain⟨a,b,c,e,g,i,rfl⟩:∃a b c e g i,vs= [a,b,c,e,g,i]:=by
  match vs,hl with
  | [a,b,c,e,g,i],_=>exact⟨a,b,c,e,g,i,Z⟩
 obtain⟨E,F⟩:Fit Tryz.prog _ 3 (ec d 0)/\dY Tryz.prog U _ 3 (ec d 0) (([a,b,c,e,g,i].drop 0).take<|Tryz.prog.cellsOf 3):=h 0 _ Z;obtain⟨G,K⟩:Fit Tryz.prog _ 3 (ec d 1)/\dY Tryz.prog U _ 3 (ec d 1) (([a,b,c,e,g,i].drop 1).take<|Tryz.prog.cellsOf 3):=h 1 _ Z;obtain⟨L,M⟩:Fit Tryz.prog _ 3 (ec d 2)/\dY Tryz.prog U _ 3 (ec d 2) (([a,b,c,e,g,i].drop 2).take<|Tryz.prog.cellsOf 3):=h 2 _ Z;obtain⟨Q,R⟩:Fit Tryz.prog _ 3 (ec d 3)/\dY Tryz.prog U _ 3 (ec d 3) (([a,b,c,e,g,i].drop 3).take<|Tryz.prog.cellsOf 3):=h 3 _ Z;obtain⟨W,X⟩:Fit Tryz.prog _ 3 (ec d 4)/\dY Tryz.prog U _ 3 (ec d 4) (([a,b,c,e,g,i].drop 4).take<|Tryz.prog.cellsOf 3):=h 4 _ Z;obtain⟨f5,d5⟩:Fit Tryz.prog _ 77 (ec d 5)/\dY Tryz.prog U _ 77 (ec d 5) (([a,b,c,e,g,i].drop 5).take<|Tryz.prog.cellsOf 77):=h 5 _ Z;have c3:Tryz.prog.cellsOf 3=1:=by kernel_rfl
 have u:Tryz.prog.cellsOf 77=1:=by kernel_rfl
 have e0:=(nX Tryz.underlying3 E F).1;have e1:=(nX Tryz.underlying3 G K).1;have e2:=(nX Tryz.underlying3 L M).1;have e3:=(nX Tryz.underlying3 Q R).1;have e4:=(nX Tryz.underlying3 W X).1;obtain⟨v,A,hs⟩:=jy (m:=4) (BF fuel) (eE (wz U) fuel) Tryz.underlying77 Y (by decide) C f5 d5 fun x vs hf z=>Gm C fuel x vs hf z
 rw[c3] at e0 e1 e2 e3 e4;rw[u] at A;simp only[List.drop_zero,List.take_succ_cons,List.take_zero,List.drop_succ_cons,List.cons.injEq,and_true] at e0 e1 e2 e3 e4 A;subst e0;subst e1;subst e2;subst e3;subst e4;subst A;exact⟨_,Z,hs⟩
theorem Mf (A:∀(b:Nat) (o:cM),U.m.get b=some o->b<U.next) (fuel:Nat) (d:DataW H_) (vs:List V) (hf:Fit Tryz.prog (fuel+4) 33 d) (u:dY Tryz.prog U (fuel+4) 33 d vs):jc (wz U) fuel (DH fuel d) vs:=by
 obtain⟨hl,h⟩:=jY (m:=2) Tryz.underlying33 Y Y hf u
 obtain⟨a,b,rfl⟩:∃a b,vs= [a,b]:=by
  match vs,hl with
  | [a,b],_=>exact⟨a,b,Z⟩
 obtain⟨C,E⟩:Fit Tryz.prog _ 3 (ec d 0)/\dY Tryz.prog U _ 3 (ec d 0) (([a,b].drop 0).take<|Tryz.prog.cellsOf 3):=h 0 _ Z;obtain⟨F,G⟩:Fit Tryz.prog _ 31 (ec d 1)/\dY Tryz.prog U _ 31 (ec d 1) (([a,b].drop 1).take<|Tryz.prog.cellsOf 31):=h 1 _ Z;have K:Tryz.prog.cellsOf 3=1:=by kernel_rfl
 have z:Tryz.prog.cellsOf 31=1:=by kernel_rfl
 have e0:=(nX Tryz.underlying3 C E).1;obtain⟨v,e1,L⟩:=jy (m:=6) (KL fuel) (gp (wz U) fuel) Tryz.underlying31 Y (by decide) A F G fun x vs hf u=>Mg A fuel x vs hf u
 rw[K] at e0;rw[z] at e1;simp only[List.drop_zero,List.take_succ_cons,List.take_zero,List.drop_succ_cons,List.cons.injEq,and_true] at e0 e1;subst e0;subst e1;exact⟨_,Z,L⟩
theorem JI (z:∀(b:Nat) (o:cM),U.m.get b=some o->b<U.next) (fuel:Nat) (d:DataW H_) (vs:List V) (hf:Fit Tryz.prog (fuel+5) 27 d) (u:dY Tryz.prog U (fuel+5) 27 d vs):∃v,vs= [v]/\bJ (wz U) 2 (jc (wz U) fuel) ((jf d).map<|DH fuel) v:=
 jy (m:=2) (DH fuel) (jc (wz U) fuel) Tryz.underlying27 Y (by decide) z hf u fun x vs hf u=>Mf z fuel x vs hf u
theorem ja.up:∀{k:Nat} {x:XE},ja k x->ja (k+1) x
 | 0,_,h=>h.elim
 | _+1,.mk _ _ _ _,⟨h1,u⟩=>⟨h1,fun y hy=>ja.up (u y hy)⟩
theorem ry {α:Type} {K:H} {m:Nat} {R:α->List V->Prop} {l:List α} {v:V} (h:bJ K m R l v):∀x∈l,∃vs,R x vs:=fun x hx=>by
 obtain⟨i,hi⟩:=gO_ hx;obtain⟨_,_,_,vs,_,_,_,_,u⟩:=h.at hi;exact⟨vs,u⟩
theorem CG (A:∀(b:Nat) (o:cM),U.m.get b=some o->b<U.next):∀(fuel:Nat) (d:DataW H_) (vs:List V),Fit Tryz.prog fuel 82 d->dY Tryz.prog U fuel 82 d vs->ja fuel (BF fuel d)
 | 0,_,_,hf,_=>hf.elim
 | 1,d,vs,hf,u=>by
  obtain⟨_,h⟩:=jY (m:=4) Tryz.underlying82 Y Y hf u;exact(h 0 _ Z).1.elim
 | fuel+2,d,vs,hf,u=>by
  obtain⟨hl,h⟩:=jY (m:=4) Tryz.underlying82 Y Y hf u;obtain⟨C,d2⟩:Fit Tryz.prog _ 9 (ec d 2)/\_:=h 2 _ Z;obtain⟨E,F⟩:Fit Tryz.prog _ 77 (ec d 3)/\dY Tryz.prog U _ 77 (ec d 3) _:=h 3 _ Z;obtain⟨v,e3,G⟩:=jy (m:=4) (BF fuel) (fun x _=>ja fuel x) Tryz.underlying77 Y (by decide) A E F fun x vs hf u=>CG A fuel x vs hf u
  exact⟨MR Tryz.underlying9 C,fun y hy=>by obtain⟨_,z⟩:=ry G y hy;exact z.up⟩
theorem JC (z:∀(b:Nat) (o:cM),U.m.get b=some o->b<U.next) (fuel:Nat) (d:DataW H_) (vs:List V) (hf:Fit Tryz.prog (fuel+2) 79 d) (u:dY Tryz.prog U (fuel+2) 79 d vs):∀e∈(KL fuel d).exprs,ja fuel e:=by
 obtain⟨hl,h⟩:=jY (m:=6) Tryz.underlying79 Y Y hf u;obtain⟨A,C⟩:Fit Tryz.prog _ 77 (ec d 5)/\dY Tryz.prog U _ 77 (ec d 5) _:=h 5 _ Z;obtain⟨v,e5,E⟩:=jy (m:=4) (BF fuel) (fun x _=>ja fuel x) Tryz.underlying77 Y (by decide) z A C fun x vs hf u=>CG z fuel x vs hf u
 exact fun e he=>by obtain⟨_,h⟩:=ry E e he;exact h
theorem JB (z:∀(b:Nat) (o:cM),U.m.get b=some o->b<U.next) (fuel:Nat) (d:DataW H_) (vs:List V) (hf:Fit Tryz.prog (fuel+4) 33 d) (u:dY Tryz.prog U (fuel+4) 33 d vs):lC fuel (DH fuel d):=by
 obtain⟨hl,h⟩:=jY (m:=2) Tryz.underlying33 Y Y hf u;obtain⟨A,C⟩:Fit Tryz.prog _ 31 (ec d 1)/\dY Tryz.prog U _ 31 (ec d 1) _:=h 1 _ Z;obtain⟨v,e1,E⟩:=jy (m:=6) (KL fuel) (fun x _=>∀e∈x.exprs,ja fuel e) Tryz.underlying31 Y (by decide) z A C fun x vs hf u=>JC z fuel x vs hf u
 exact fun x hx=>by obtain⟨_,h⟩:=ry E x hx;exact h
theorem HJ (z:∀(b:Nat) (o:cM),U.m.get b=some o->b<U.next) (fuel:Nat) (d:DataW H_) (vs:List V) (hf:Fit Tryz.prog (fuel+5) 27 d) (u:dY Tryz.prog U (fuel+5) 27 d vs):∀c∈(jf d).map (DH fuel),lC fuel c:=by
 obtain⟨v,e1,A⟩:=jy (m:=2) (DH fuel) (fun x _=>lC fuel x) Tryz.underlying27 Y (by decide) z hf u fun x vs hf u=>JB z fuel x vs hf u
 exact fun c hc=>by obtain⟨_,h⟩:=ry A c hc;exact h
end
section
variable {H_:Type} {enc:TypeId×Value->H_} {w:World}
def OX (w:World) (v:Value):Prop:=v= .slice none 0 0∨∃(a:Addr) (len cap:Nat) (c:Array Value) (e:TypeId) (fr:Nat×Nat),v= .slice (some a) len cap/\w.heap[a.block]?=some (.cells c e fr)
theorem J6 {base:Nat} {t e:TypeId} {v:Value} (hu:Tryz.prog.underlying t=some (.slice e)) (u:Cell.okWide Tryz.prog w .any base t v):OX w v:=by
 unfold Cell.okWide at u;rw[hu] at u;dsimp only at u;unfold Cell.ok at u;rw[hu] at u;cases v with
 | slice a len cap=>
  cases a with
  | none=>
   try dsimp only at u
   split at u<;>first | (rename_i he;cases he;done) | skip
   all_goals first
    | (rename_i he;cases he;exact .inl Z)
    | (rename_i h1 A;cases A;done)
    | exact u.elim
  | some a=>
   obtain⟨_,_,_,aa,row,cells,z,_⟩:=u;unfold World.shape? at z;split at z
   ·rename_i c e fr C;exact .inr ⟨a,len,cap,c,e,fr,Z,C⟩
   cases z
 | _=>exact u.elim
theorem trodAll_cons {P:Program} {ts:List TypeId} {t:TypeId} {vs:List Value} {ds:List (DataW H_)} {ps:List MemPlace} {sp:Nat->Bool} (h:DataW.TrodAll enc P w 0 sp true (t::ts) vs ds ps):
  ∃v vs' d ds',vs=v::vs'/\ds=d::ds'/\(∃n p,DataW.trod enc P w 0 sp true n t v.cells.toList=some (d,p))/\∃q,DataW.TrodAll enc P w 0 sp true ts vs' ds' q:=by
 match vs,ds,h with
 | v::vs',d::ds',⟨p,q,⟨n,h1⟩,u,_⟩=>exact⟨v,vs',d,ds',Z,Z,⟨n,p,h1⟩,q,u⟩
theorem trodAll_nil {P:Program} {vs:List Value} {ds:List (DataW H_)} {ps:List MemPlace} {sp:Nat->Bool} (h:DataW.TrodAll enc P w 0 sp true [] vs ds ps):vs= []/\ds= []:=by
 match vs,ds,h with
 | [],[],_=>exact⟨Z,Z⟩
end
section
variable {H_:Type} {U:I}
end
end Go.Ev
end
