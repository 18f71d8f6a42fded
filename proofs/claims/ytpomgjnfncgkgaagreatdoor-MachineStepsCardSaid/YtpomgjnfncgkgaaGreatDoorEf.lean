/- Part of the proof: an evaluator of the model's code, rules for walks on it, walks. Without conditions. -/
import Derived.Test.YtpomgjnfncgkgaaGreatDoorEb
import Derived.Test.YtpomgjnfncgkgaaGreatDoorEe
import Derived.Test.YtpomgjnfncgkgaaGreatDoorEd
set_option linter.unusedSectionVars false
set_option linter.unusedVariables false
set_option linter.unusedSimpArgs false
noncomputable section
namespace Go.Ev
variable [Env]
open Go.Proofs
set_option maxRecDepth 4000
set_option maxHeartbeats 8000000
theorem ID {K:KP} {m:List Int} {f g h j k l:Int} (hm:vf m f g h j k l) {a b c d:V} {bb e:Nat} {ro:Bool} (q:K bb (.row (c6 f g h j k l a b c d) e ro)):bR K 1 dy m (.slice bb 0 m.length (.known 6)):=by
 have h6:=hm.le;refine .inr ⟨bb,0,_,_,e,ro,Z,.inr ⟨_,Z,h6⟩,q,by show 0+m.length*1<=10;omega,by omega,fun i x n=>?_⟩;have hi:=(gA.1 n).1;obtain⟨y,o,p⟩:=hm.at_ (a:=a) (b:=b) (c:=c) (d:=d) hi;rw[n] at o;cases o;rw[eF] at p;rw[cR p];rfl
theorem HS {P:Program} {U:D} {K:KP} {L:Own} {bb e:Nat} {a b c d:V} (aq:J U K ((bb,.row (c6 0 0 0 0 0 0 a b c d) e false)::L)) {init:List Int} {vi:V} (r:bR K 1 dy init vi) (s:init.length<=6) {ts:Array TypeId} {t ty:TypeId} (u:ts[0]?=some t) (hu:P.underlying t=some (.slice ty)) (w:(P.info? ty).map (·.size)=some 1):
  ∃(U':D) (v:V) (m n o p q y5:Int),rE P U ts (.slice bb 0 6 (.known 6)) vi= .val v U'/\J U' K ((bb,.row (c6 m n o p q y5 a b c d) e false)::L)/\vf init m n o p q y5:=by
 obtain⟨j,h,k⟩:=oM_.1 w;obtain⟨news,y,z,s3,A⟩:=om aq r dy.leaf
 have f:news=init.map gZ:=by
  refine List.ext_getElem? fun i=>?_
  rw[gM_];cases l:init[i]? with
  | none=>
   show news[i]?=none;rw[List.getElem?_eq_none_iff] at l⊢;rw[z];omega
  | some x=>
   have:=A i x l;rw[Nat.mul_one] at this;have g:i<news.length:=by have:=(gA.1 l).1;omega
   rw[List.drop_eq_getElem_cons g] at this;have C: [news[i]]= [V.int .i64 x]:=this;rw[gC g];exact congrArg some (List.cons.inj C).1
 subst f;have hb:=aq.get 0 Z;unfold rE;rw[u];dsimp only;rw[hu];dsimp only;rw[h];dsimp only;rw[k,y];dsimp only
 match init,s with
 | [],_=>exact⟨U,_,0,0,0,0,0,0,Z,aq,Z⟩
 | [q0],_=>simp only[hb];exact⟨_,_,q0,0,0,0,0,0,Z,aq.pf _,Z⟩
 | [q0,q1],_=>simp only[hb];exact⟨_,_,q0,q1,0,0,0,0,Z,aq.pf _,Z⟩
 | [q0,q1,q2],_=>simp only[hb];exact⟨_,_,q0,q1,q2,0,0,0,Z,aq.pf _,Z⟩
 | [q0,q1,q2,q3],_=>simp only[hb];exact⟨_,_,q0,q1,q2,q3,0,0,Z,aq.pf _,Z⟩
 | [q0,q1,q2,q3,q4],_=>simp only[hb];exact⟨_,_,q0,q1,q2,q3,q4,0,Z,aq.pf _,Z⟩
 | [q0,q1,q2,q3,q4,q5],_=>simp only[hb];exact⟨_,_,q0,q1,q2,q3,q4,q5,Z,aq.pf _,Z⟩
theorem J0 {P:Program} {G:Cx} {ev:Operand->Option V} {U:D} {cl:Call} {so xo:Operand} {s x:V} {r:HR} (a:cl.callee= .builtin .copy) (b:cl.args.toList= [so,xo]) (c:ev so=some s) (d:ev xo=some x) (h:rE P U cl.argTypes s x=r):dW P G ev U (.call cl)=r:=by
 refine kZ (by simp[kindOf,a]) ?_
 have he:tN ev [so,xo]=some [s,x]:=by
  unfold tN cW;simp only[c,d]
 simp only[gz,a,b,he,h]
theorem L1 {g:XG} (h:cd g=0):Mj g:=by
 obtain⟨b1,b2,b,c,b5,d,b7⟩:=cK h;exact⟨by omega,by omega,fun l a=>by have:=b l a;omega,by omega,fun l a=>by have:=mS d c b l a;omega,by omega,fun l a=>by have:=j0 h l a;omega⟩
theorem Nu {G:Cx} (q:Plain G) {K:KP} {g:XG} {a b c d:V} (j:cd g=0) (r:eN K g a b c d) {U:D} {L:Own} (aq:J U K L):bk Tryz.prog G 93 [.agg [a,b,c,d]] U fun v U'=>∃i a' b' c' d',v= .agg [a',b',c',d']/\KP.le K i/\eN i g a' b' c' d'/\J U' i L:=by
 refine PS q Tryz.func93 Z<|Pt 2 Z<|kp aq Z (cz Z Z) (fun U b1 aq=>?_);refine kp aq Z (QE (cs:=[.ax,.ax,.ax,.ax])) (fun U b2 aq=>?_);refine OO 4 Z<|O Z (QC Z aq.g1 (n:=4) (vs:=[_,_,_,_]) Z) Z<|cH Z (Qz Z Z Z) (fun _=>Z) (xO q r (L1 j) aq) ?_;rintro _ U ⟨s,M1,q2,k,t,q3,l,u,q4,o,w,rfl,p,aq⟩;have hfew:=L1 j;obtain⟨i,hle,f,aq⟩:=J.fy (U:=U) (K:=K) (L:=_::_::L) (M:=w++(q4,.row o 74 false)::(u++(q3,.row l 74 false)::(t++(q2,.row k 57 false)::M1))) (by simpa only[lQ_,List.cons_append] using aq);have h:eN i g s (.slice q2 0 g.threads.length (.known g.threads.length)) (.slice q3 0 g.from_.length (.known g.from_.length)) (.slice q4 0 g.order.length (.known g.order.length)):=pZ (T1:=57) (T2:=74) (T3:=74) p.init p.threads p.from_ p.order (fun e he=>f e (by simp[he])) (fun e he=>f e (by simp[he])) (fun e he=>f e (by simp[he])) (fun e he=>f e (by simp[he])) (f (q2,.row k 57 false) (by simp)) (f (q3,.row l 74 false) (by simp)) (f (q4,.row o 74 false) (by simp)) Z Z Z (by have:=hfew.2.1;omega) (by have:=hfew.2.2.2.1;omega) (by have:=hfew.2.2.2.2.2.1;omega);clear f;refine bO aq Z (QH Z Z Z aq.g0 (m:=4) Z (ah h.init.leaf.2<|ah h.threads.leaf.2<|ah h.from_.leaf.2<|ah h.order.leaf.2 aC) (cells':=[_,_,_,_]) Z) Z (fun U aq=>?_);refine Px 3 Z ?_;exact eL Z Z aq.g0 (m:=4) Y Z ⟨i,_,_,_,_,Z,hle,h,aq.pop.pop⟩
theorem Hm {P:Program} {ev:Operand->Option V} {t e n h bb:Nat} {x a:Operand} {k:IntKind} (c:P.underlying t=some (.array n e)) (d:(P.info? e).map (·.size)=some 1) (f:ev x=some (.ptr bb 0)) (g:ev a=some (.int k (.ofNat h))) (i:h<=n):di P ev (.slice t x none (some a) none)=some (.slice bb 0 h (.known n)):=by
 obtain⟨j,b,aa⟩:=oM_.1 d;have l:da ev n n none (some a)=some (0,h):=oH g i;simp only[di,fo,c,f,cutAt,l,cut,b];cases Nat.beq n 0<;>simp
theorem Er {P:Program} {ev:Operand->Option V} {t e n bb:Nat} {x:Operand} (b:P.underlying t=some (.array n e)) (c:(P.info? e).map (·.size)=some 1) (d:ev x=some (.ptr bb 0)):di P ev (.slice t x none none none)=some (.slice bb 0 n (.known n)):=by
 obtain⟨j,a,aa⟩:=oM_.1 c;have f:da ev n n none none=some (0,n):=rfl;simp only[di,fo,b,d,cutAt,f,cut,a];cases Nat.beq n 0<;>simp
theorem NG {G:Cx} (q:Plain G) {K:KP} {r:XM} (s:cd r.g=0) (t:r.mem.length=r.g.init.length) {a b c d:V} (hg:eN K r.g a b c d) {w x z A C E:Int} (hm:vf r.mem w x z A C E) {U:D} {L:Own} (aq:J U K L):
  bk Tryz.prog G 55 [.agg [.int .i64 w,.int .i64 x,.int .i64 z,.int .i64 A,.int .i64 C,.int .i64 E,a,b,c,d]] U fun v U'=>∃p mv a' b' c' d',v= .agg [mv,a',b',c',d']/\KP.le K p/\bR p 1 dy r.mem mv/\eN p r.g a' b' c' d'/\J U' p L:=by
 have h6:=hm.le;refine PS q Tryz.func55 Z<|Pt 2 Z<|kp aq Z (cz Z Z) (fun U F aq=>?_);obtain⟨K0,o,f,aq⟩:=aq.fy (M:=[_]);have hb:=f _ (.head _);clear f;dsimp only at hb;replace hg:=hg.mono o;refine kp aq Z (QE (cs:=[.ax,.ax,.ax,.ax,.ax])) (fun U b2 aq=>?_);refine ON 3 Z (aS (l:=[(0,[]),(1,[]),(2,[]),(3,[]),(4,[]),(5,[]),(7,[]),(8,[]),(6,[8]),(9,[]),(10,[]),(11,[])]) Y Y<|P4 aq 3 [0,6,0] Z Z<|al Z Z (QB Z (aq.fq hb) Z) Z<|al Z Z (QD hg.init Z Z Z (e:=2) Z) Z ?_);refine al Z Z (bn (v:=.slice F 0 r.mem.length (.known 6)) Z<|Hm (e:=2) (n:=6) Y Y Z (show _=some (V.int .i64 (.ofNat r.mem.length)) from by rw[t];rfl) h6) Z ?_;refine al Z Z (QA 6 Z) Z<|al Z Z (QC Z (aq.fq hb) (n:=4) (vs:=[_,_,_,_]) Z) Z<|jg Z Z (Qz Z Z Z) (fun _=>Z) (zk q (ID hm hb) B aq) ?_;rintro mv U ⟨MM,u,aq⟩;obtain⟨P,j,f,aq⟩:=aq.fy;have hmv:=u.kq (K:=P) fun y Q=>f _ Q;clear f;replace hb:=j _ _ hb;replace hg:=hg.mono j
 refine⟨(bB (bN Z Z Z Z Z (QC Z (aq.fq hb) (n:=4) (vs:=[_,_,_,_]) Z)<|gH<|bS hg.init.fD<|bS hg.threads.fD<|bS hg.from_.fD<|bS hg.order.fD fx) aV),?_⟩;refine jg Z Z (Qz Z Z Z) (fun _=>Z) (Nu q s hg aq) ?_;rintro _ U ⟨p,a2,b2_,c2,d2,rfl,i,k,aq⟩;replace hb:=i _ _ hb;replace hg:=hg.mono i;replace hmv:=hmv.mono i fun _ _ h=>h
 refine⟨aV,?_⟩;refine al Z Z (bF (places:=[(0,1),(1,4)]) (zero:=[.ax,.ax,.ax,.ax,.ax]) (cs:=[_,_,_,_,_]) Y Y Y (bD Z Z hmv.leaf.1 Z<|bD Z Z Z Z bJ) Y) Z<|kb aq Z Z (QH Z Z Z aq.g0 (m:=5) Z (ah hmv.leaf.2<|ah k.init.leaf.2<|ah k.threads.leaf.2<|ah k.from_.leaf.2<|ah k.order.leaf.2 aC) (cells':=[_,_,_,_,_]) Z) Z (fun U aq=>?_);refine⟨aV,?_⟩;refine Pz 3 Z ?_;exact eL Z Z aq.g0 (m:=5) Y Z ⟨p,_,_,_,_,_,Z,KP.le_trans o<|KP.le_trans j i,hmv,k,aq.pop⟩
theorem Av {α:Type} {o:Option α} {d:α} (h:(!o.isSome)=false):o=some (o.getD d):=by
 cases o with
 | none=>cases h
 | some x=>rfl
theorem CA {α:Type} {o:Option α} (h:(!o.isSome)=false):o.isSome=true:=by
 cases o with
 | none=>cases h
 | some x=>rfl
theorem Ld {α:Type} {o:Option α} (h:(!o.isSome)=true):o=none:=by
 cases o with
 | none=>rfl
 | some x=>cases h
theorem Iu {k:Nat} {l:List XC} {g:XG} (h:(fl k l g).isSome=true):cd g=0:=by
 unfold fl at h;cases a:aX (I (cd g) 0) with
 | true=>rw[a] at h;cases h
 | false=>exact eqv (bj a)
theorem F2 {G:Cx} (F:Plain G) {K:KP} (P:rh G K) {k:Nat} {l:List XC} {lv:V} (W:bR K 2 (mY K k) l lv) {m:List Int} {mv:V} (p:bR K 1 dy m mv) {g:XG} {a b c d:V} (Q:eN K g a b c d) {U:D} {L:Own} (aq:J U K L):
  bk Tryz.prog G 59 [lv,.agg [mv,a,b,c,d]] U fun v U'=>∃u M,v= .tuple [u,.bool (jm k l m g).isSome]/\cQ 1 3 dy ((jm k l m g).getD []) u M/\J U' K (M++L):=by
 refine PS F Tryz.func59 Z<|Pt 2 Z<|kp aq Z (cz Z Z) (fun U X aq=>?_);refine OX aq 8 [1] Z Z<|O Z (QC Z aq.g0 (n:=4) (vs:=[_,_,_,_]) Z) Z<|cH Z (Qz Z Z Z) (fun _=>Z) (Nv F P W Q aq) ?_;rintro _ U ⟨ag,y,rfl,hO,aq⟩;refine On 11 Z<|O Z (cV Z) Z<|ky Z (an Z) (fun f=>?_) (fun f=>?_)
 ·refine OQ 20 Z ?_;have h:jm k l m g=none:=by unfold jm;rw[Ld f]
  exact bV Z Z Z ⟨.ax,[],by rw[h];rfl,by rw[h];exact .inl ⟨Z,Z,Z⟩,aq.aQ.pop⟩
 refine O Z (QA 0 Z) Z<|O Z (QB Z aq.aQ.g0 Z) Z<|O Z (QD p Z Z Z (e:=2) Z) Z<|P3 aq 2 [1,0] Z Z<|O Z (QB Z aq.aQ.g0 Z) Z<|O Z (QD Q.init Z Z Z (e:=2) Z) Z<|Pv 4 Z<|aE Z (fun q=>?_) (fun q=>?_)
 ·refine Pu 8 Z ?_;have hsg:=Av (d:=[]) f;have h:jm k l m g=none:=by unfold jm;rw[hsg];dsimp only;rw[show aX (I (.ofNat m.length) (.ofNat g.init.length))=true from q];rfl
  exact bV Z Z Z ⟨.ax,[],by rw[h];rfl,by rw[h];exact .inl ⟨Z,Z,Z⟩,aq.aQ.pop⟩
 refine Ol 5 Z ?_;have hck:=Iu (CA f);have R:∀r∈g.order,r.length<=1000000:=fun r hr=>by have:=j0 hck r hr;omega
 refine O Z (QA 0 Z) Z (O Z (QB Z aq.aQ.g0 Z) Z (O Z (QD p Z Z Z (e:=2) Z) Z (OM 4 Z (bp ([4,5,8,9]++rg 32 12) (fun j t U=>∃(i:Nat),j+i=m.length/\lL g m 0=lL g (m.drop i) i/\t.get 32=some (.int .i64 (.ofNat i))/\J U K (y++(X,.row [mv,a,b,c,d] 44 false)::L)) (m.length) ⟨0,Z,Z,Z,aq⟩ ?_))));clear aq;intro j5 t U ar hI;obtain⟨i,am,s,z,aq⟩:=hI;obtain⟨oo,rfl⟩:=ar.q1 z Z;refine Pt 2 Z<|ky Z (az Z Z Z) (fun w=>?_) (fun w=>?_)
 ·refine Om 8 Z<|Pt 3 Z ?_;obtain⟨A,o,aa⟩:=cL w;refine Qu (e:=2) (m:=1) p o Z Z Z Z (fun ao ab C ac E=>?_);obtain rfl:=E;refine O Z (QF aq C Z Z) Z<|OX aq 8 [1] Z Z<|O Z (QC Z aq.aQ.g0 (n:=4) (vs:=[_,_,_,_]) Z) Z<|vQ 1 Z<|bf Z (Qz Z Z Z) (fun _=>Z) (NA F Q R _ aq) (fun U aq=>?_);refine Pv 3 Z<|aE Z (fun x=>?_) (fun x=>?_)
  ·refine PX 7 Z<|aF<|aw<|bz<|aF<|aw (?_);have hsg:=Av (d:=[]) f;have h:jm k l m g=none:=by unfold jm;rw[hsg];dsimp only;rw[show aX (I (.ofNat m.length) (.ofNat g.init.length))=false from q,cf,s,cR o];unfold lL;rw[show aX (I A<|jq g (.ofNat i))=true from x];rfl
   exact bV Z Z Z ⟨.ax,[],by rw[h];rfl,by rw[h];exact .inl ⟨Z,Z,Z⟩,aq.aQ.pop⟩
  refine aG<|aJ<|PW 4 Z<|aO ⟨j5-1,by omega,oF,i+1,by omega,(by rw[s,cR o];show(bif _ then _ else _)=_;rw[show aX (I A<|jq g (.ofNat i))=false from x];rfl),cI<|bg (by have:=p.bG;omega),aq⟩
 refine ON 4 Z<|OL 3 Z<|aT<|PX 8 Z ?_;have hsg:=Av (d:=[]) f;have h:jm k l m g=fl k l g:=by rw[hsg];unfold jm;rw[hsg];dsimp only;rw[show aX (I (.ofNat m.length) (.ofNat g.init.length))=false from q,cf,s,List.drop_eq_nil_iff.2<|bC w];rfl
 exact bV Z Z Z ⟨_,y,by rw[h,CA f],by rw[h];exact hO,aq.sub<|dH (.cons _ (.refl _))⟩
theorem Nz {G:Cx} (h:Plain G) {K:KP} (e:rh G K) {k:Nat} {l:List XC} {lv:V} (i:bR K 2 (mY K k) l lv) {m:List Int} {mv:V} (f:bR K 1 dy m mv) {g:XG} {a b c d:V} (j:eN K g a b c d) {U:D} {L:Own} (aq:J U K L):
  bk Tryz.prog G 23 [lv,.agg [mv,a,b,c,d]] U fun v U'=>v= .bool (yc k l m g)/\J U' K L:=by
 refine PS h Tryz.func23 Z<|Pt 2 Z<|kp aq Z (cz Z Z) (fun U b1 aq=>?_);refine OO 6 Z<|O Z (QC Z aq.g0 (n:=5) (vs:=[_,_,_,_,_]) Z) Z<|cH Z (Qz Z Z Z) (fun _=>Z) (F2 h e i f j aq) ?_;rintro _ U ⟨aa,ab,rfl,hO,aq⟩;refine Px 14 Z ?_;exact aA Z Z ⟨Z,aq.aQ.pop⟩
theorem LH {G:Cx} (F:Plain G) (Q:G.fk 70=true) (R:G.ov 106=true) {K:KP} (y:rh G K) {k:Nat} {l:List XC} {lv:V} (W:bR K 2 (mY K k) l lv) {r:XM} {mv:V} (z:bR K 1 dy r.mem mv) {a b c d:V} (x:eN K r.g a b c d) (p:Int) {U:D} {L:Own} (aq:J U K L):
  bk Tryz.prog G 20 [lv,.agg [mv,a,b,c,d],.int .i64 p] U fun v U'=>(∃e,v= .tuple [.agg [.ax,.ax,.ax,.ax,.ax],.int .i64 e]/\I e 0=false/\mX k l r p=(none,e)/\J U' K L)∨
   ∃M r' m' a' b' c' d',v= .tuple [.agg [m',a',b',c',d'],T]/\mX k l r p=(some r',0)/\KP.le K M/\bR M 1 dy r'.mem m'/\eN M r'.g a' b' c' d'/\J U' M L:=by
 refine PS F Tryz.func20 Z<|Pt 2 Z<|kp aq Z (cz Z Z) (fun U b1 aq=>?_);refine kp aq Z (QE (cs:=[.ax,.ax,.ax,.ax,.ax])) (fun U b2 aq=>?_);refine On 7 Z<|O Z (QC Z aq.g1 (n:=5) (vs:=[_,_,_,_,_]) Z) Z<|bf Z (Qz Z Z Z) (fun _=>Z) (Nz F y W z x aq) (fun U aq=>?_);refine O Z (cV Z) Z<|ky Z (an Z) (fun h=>?_) (fun h=>?_)
 ·refine OO 14 Z (O Z (Qy (places:=[(0,1),(1,4)]) (zero:=[.ax,.ax,.ax,.ax,.ax]) (cs:=[_,_,_,_,_]) Z) Z<|bO aq Z (QH Z Z Z aq.g0 (m:=5) Z Z (cells':=[_,_,_,_,_]) Z) Z (fun U aq=>?_));refine OQ 5 Z ?_;exact br Z Z aq.g0 (m:=5) Y Z Z (.inl ⟨2,Z,Z,by unfold mX;rw[kA h];rfl,aq.pop.pop⟩)
 refine PZ 3 Z<|ky Z (an Z) (fun f=>?_) (fun f=>?_)
 ·refine OO 10 Z (O Z (Qy (places:=[(0,1),(1,4)]) (zero:=[.ax,.ax,.ax,.ax,.ax]) (cs:=[_,_,_,_,_]) Z) Z<|bO aq Z (QH Z Z Z aq.g0 (m:=5) Z Z (cells':=[_,_,_,_,_]) Z) Z (fun U aq=>?_));refine OQ 5 Z ?_;exact br Z Z aq.g0 (m:=5) Y Z Z (.inl ⟨2,Z,Z,by unfold mX;rw[eV h,f];rfl,aq.pop.pop⟩)
 refine PZ 2 Z<|O Z (QD W Z Z Z (e:=33) Z) Z<|Pv 4 Z<|aE Z (fun i=>?_) (fun i=>?_)
 ·refine Pt 2 Z (O Z (Qy (places:=[(0,1),(1,4)]) (zero:=[.ax,.ax,.ax,.ax,.ax]) (cs:=[_,_,_,_,_]) Z) Z<|bO aq Z (QH Z Z Z aq.g0 (m:=5) Z Z (cells':=[_,_,_,_,_]) Z) Z (fun U aq=>?_));refine OQ 5 Z ?_;exact br Z Z aq.g0 (m:=5) Y Z Z (.inl ⟨2,Z,Z,by unfold mX;rw[eV h,f,i];rfl,aq.pop.pop⟩)
 refine OV aq 5 [1] Z Z (O Z (QC Z aq.g1 (n:=4) (vs:=[_,_,_,_]) Z) Z (O Z (Qy (places:=[(0,6),(6,4)]) (zero:=[T,T,T,T,T,T,.ax,.ax,.ax,.ax]) (cs:=[_,_,_,_,_,_,_,_,_,_]) Z) Z<|kp aq Z (QE (cs:=[T,T,T,T,T,T,.ax,.ax,.ax,.ax])) (fun U b3 aq=>?_)));refine bO aq Z (QH Z Z Z aq.g0 (m:=10) Z (ah Z<|ah Z<|ah Z<|ah Z<|ah Z<|ah Z<|ah x.init.leaf.2<|ah x.threads.leaf.2<|ah x.from_.leaf.2<|ah x.order.leaf.2 aC) (cells':=[_,_,_,_,_,_,_,_,_,_]) Z) Z (fun U aq=>?_);refine ON 3 Z<|aS (l:=zp [0,1,2,3,4]) Y Y<|al Z Z (QA 0 Z) Z ?_;refine al Z Z (bn (v:=.slice b3 0 6 (.known 6)) Z<|Er (e:=2) (n:=6) Y Y Z) Z ?_;refine P4 aq 2 [0,2] Z Z ?_;have j:yc k l r.mem r.g=true:=eV h;have hinv:tC k l r:=Fk j;have hck:=hinv.Gi;obtain⟨b1_,b2_,b3_,_⟩:=cK hck;have X:r.mem.length<=6:=by rw[hinv.mem];exact b2_
 obtain⟨U,ag,x0,x1,x2,x3,x4,x5,aa,aq,hm⟩:=HS (P:=Tryz.prog) (ts:= #[22,22]) (t:=22) (ty:=2) aq z X Z Y Y;refine al Z Z (J0 Z Z Z Z aa) Z<|OS 3 Z<|ai Z<|O Z (QC Z aq.g0 (n:=10) (vs:=[_,_,_,_,_,_,_,_,_,_]) Z) Z<|PZ 2 Z ?_;obtain⟨tp,rfl⟩:=qj f;have ab:tp<l.length:=by have:=bC i;omega
 refine cH Z (Qz Z Z Z) (fun _=>Z) (LK F Q R y W hinv x hm ab aq) ?_;rintro _ U (⟨e,rfl,he,w,aq⟩ | ⟨K3,r2,z0,z1,z2,z3,z4,z5,a2,b2_,c2,d2,A,C,rfl,o,ac,aq⟩)
 ·refine PZ 3 Z<|bO aq Z (QH Z Z Z aq.g0 (m:=10) Z Z (cells':=[_,_,_,_,_,_,_,_,_,_]) Z) Z (fun U aq=>?_);refine ON 10 Z<|aE Z (fun q=>?_) (fun q=>?_)
  ·refine Pt 2 Z (O Z (Qy (places:=[(0,1),(1,4)]) (zero:=[.ax,.ax,.ax,.ax,.ax]) (cs:=[_,_,_,_,_]) Z) Z<|vQ 1 Z<|eh aq Z (QH Z Z Z aq.g1 (m:=5) Z Z (cells':=[_,_,_,_,_]) Z) Z (fun U aq=>?_));refine OQ 5 Z ?_;have hR:mX k l r (Int.ofNat (tp+1))=(none,e):=by rw[xG j f i];exact CC he w
   exact br Z Z aq.g1 (m:=5) Y Z Z (.inl ⟨e,Z,w,hR,aq.pop.pop.pop⟩)
  exact absurd (bj q) (by rw[w];decide)
 refine PZ 3 Z<|bO aq Z (QH Z Z Z aq.g0 (m:=10) Z (ah Z<|ah Z<|ah Z<|ah Z<|ah Z<|ah Z<|ah o.init.leaf.2<|ah o.threads.leaf.2<|ah o.from_.leaf.2<|ah o.order.leaf.2 aC) (cells':=[_,_,_,_,_,_,_,_,_,_]) Z) Z (fun U aq=>?_);refine ON 10 Z<|aE Z (fun q=>?_) (fun q=>?_)
 ·exact absurd q (by decide)
 refine OK 4 Z<|O Z (QC Z aq.g0 (n:=10) (vs:=[_,_,_,_,_,_,_,_,_,_]) Z) Z ?_;have hpi:=(hinv.step C).1;refine cH Z (Qz Z Z Z) (fun _=>Z) (NG F hpi.Gi hpi.mem o ac aq) ?_;rintro _ U ⟨K4,am,a3,b3_,c3,d3,rfl,E,u,s,aq⟩;refine eh aq Z (QH Z Z Z aq.g1 (m:=5) Z (ah u.leaf.2<|ah s.init.leaf.2<|ah s.threads.leaf.2<|ah s.from_.leaf.2<|ah s.order.leaf.2 aC) (cells':=[_,_,_,_,_]) Z) Z (fun U aq=>?_);refine Px 4 Z ?_;have hR:mX k l r (Int.ofNat (tp+1))=(some r2,0):=by rw[xG j f i];exact C
 exact br Z Z aq.g1 (m:=5) Y Z Z (.inr ⟨K4,r2,_,_,_,_,_,Z,hR,KP.le_trans A E,u,s,aq.pop.pop.pop⟩)
theorem EF {G:Cx} (n:Plain G) {K:KP} {l:List Int} {v:V} (h:bR K 1 dy l v) (y:Int) {U:D} {L:Own} (aq:J U K L):
  bk Tryz.prog G 98 [v,.int .i64 y] U fun v U'=>v= .int .i64 (tS (fun x=>I y x) l 0)/\J U' K L:=by
 refine PS n Tryz.func98 Z<|OI 9 Z<|O Z (QD h Z Z Z (e:=3) Z) Z<|OM 4 Z ?_;obtain⟨LL1,aq,hLL1⟩:=aq.named;refine bp ([4,5]++rg 8 11) (fun j t U=>∃(i:Nat),j+i=l.length/\tS (fun x=>I y x) l 0=tS (fun x=>I y x) (l.drop i) i/\t.get 8=some (.int .i64 (.ofNat i))/\J U K LL1) (l.length) ⟨0,Z,Z,Z,aq⟩ ?_;clear aq;intro o t U ar p;obtain⟨i,hj,he,g,aq⟩:=p;subst hLL1;obtain⟨oo,rfl⟩:=ar.q1 g Z;refine Ps 6 Z<|aE Z (fun k=>?_) (fun k=>?_)
 ·refine NP 15 Z ?_;obtain⟨c,a,aa⟩:=cL k;refine Qu (e:=3) (m:=1) h a Z Z Z Z (fun ag ab d ac f=>?_);obtain rfl:=f;refine O Z (QF aq d Z Z) Z<|Pv 3 Z<|aE Z (fun b=>?_) (fun b=>?_)
  ·refine PX 7 Z<|aF<|aw<|bz<|aF<|aw (?_);exact aA Z Z ⟨cJ (by symm;rw[he,cR a];show(bif I y c then _ else _)=_;rw[b];rfl),aq⟩
  refine aG<|aJ<|PW 4 Z<|aO ⟨o-1,by omega,oF,i+1,by omega,by rw[he,cR a];show(bif I y c then _ else _)=_;rw[b];rfl,cI<|bg (by have:=h.bG;omega),aq⟩
 refine OL 3 Z<|aT<|PX 6 Z ?_;exact aA Z Z ⟨cJ (by symm;rw[he,fO<|bC k];rfl),aq⟩
theorem yt {G:Cx} (a:Plain G) {K:KP} {l:List Int} {v:V} (h:bR K 1 dy l v) (y:Int) {U:D} {L:Own} (aq:J U K L):
  bk Tryz.prog G 61 [v,.int .i64 y] U fun v U'=>v= .bool (l.any fun x=>I y x)/\J U' K L:=by
 refine PS a Tryz.func61 Z<|Pt 9 Z<|bf Z (Qz Z Z Z) (fun _=>Z) (EF a h y aq) (fun U aq=>?_);refine Px 5 Z ?_;exact aA Z Z ⟨cB<|wK _ _,aq⟩
theorem ET:∀(l:List Int),(l.all fun e=>aX (I e 0))= !(l.any fun x=>I 0 x)
 | []=>rfl
 | x::l=>by
  rw[List.all_cons,List.any_cons,ET l,show I 0 x=I x 0 from by rw[dF,dF];exact decide_eq_decide.2 eq_comm];cases I x 0<;>rfl
theorem BP {k:Nat} {l:List XC} {m:List Int} {g:XG}:sN k l m g=(bif (jm k l m g).isSome then !(((jm k l m g).getD []).any fun x=>I 0 x) else false):=by
 unfold sN yc;cases h:jm k l m g with
 | none=>rfl
 | some e=>
  have a:fl k l g=some e:=by
   unfold jm at h;cases a:fl k l g with
   | none=>rw[a] at h;cases h
   | some e'=>
    rw[a] at h;dsimp only at h;revert h;cases aX (I (.ofNat m.length) (.ofNat g.init.length))<;>cases lL g m 0<;>intro h<;>first | exact h | cases h
  rw[a];exact ET e
theorem JP {G:Cx} (f:Plain G) {K:KP} (h:rh G K) {k:Nat} {l:List XC} {lv:V} (j:bR K 2 (mY K k) l lv) {m:List Int} {mv:V} (i:bR K 1 dy m mv) {g:XG} {a b c d:V} (o:eN K g a b c d) {U:D} {L:Own} (aq:J U K L):
  bk Tryz.prog G 25 [lv,.agg [mv,a,b,c,d]] U fun v U'=>v= .bool (sN k l m g)/\J U' K L:=by
 refine PS f Tryz.func25 Z<|Pt 2 Z<|kp aq Z (cz Z Z) (fun U b1 aq=>?_);refine OO 6 Z<|O Z (QC Z aq.g0 (n:=5) (vs:=[_,_,_,_,_]) Z) Z<|cH Z (Qz Z Z Z) (fun _=>Z) (F2 f h j i o aq) ?_;rintro _ U ⟨aa,ab,rfl,p,aq⟩;replace aq:=aq.keeps;have hE:=p.iu (K:=K);refine OO 10 Z<|ky Z (an Z) (fun e=>?_) (fun e=>?_)
 ·refine vQ 1 Z<|bf Z (Qz Z Z Z) (fun _=>Z) (yt f hE 0 aq) (fun U aq=>?_);refine O Z (cV Z) Z<|Px 5 Z ?_;exact aA Z Z ⟨cB (by rw[BP,show(jm k l m g).isSome=true from e];rfl),(aq.pop).weaken<|KP.bX _ _⟩
 refine Px 8 Z ?_;exact aA Z Z ⟨cB (by rw[BP,show(jm k l m g).isSome=false from e];rfl),(aq.pop).weaken<|KP.bX _ _⟩
theorem CV {G:Cx} (b:Plain G) {K:KP} {i j:List Int} {k l:V} (c:bR K 1 dy i k) (d:bR K 1 dy j l) {g1 m:XG} {o e p q r f s t:V} (g:eN K g1 o e p q) (h:eN K m r f s t) {U:D} {L:Own} (aq:J U K L):
  bk Tryz.prog G 22 [.agg [k,o,e,p,q],.agg [l,r,f,s,t]] U fun v U'=>v= .bool (bif dk i j then dk g1 m else false)/\J U' K L:=by
 refine PS b Tryz.func22 Z<|Pt 2 Z<|kp aq Z (cz Z Z) (fun U e aq=>?_);refine kp aq Z (cz Z Z) (fun U f aq=>?_);refine OX aq 9 [0,1,0,0] Z Z<|bf Z (Qz Z Z Z) (fun _=>Z) (F0 b aq c d) (fun U aq=>?_);refine ky Z (an Z) (fun a=>?_) (fun a=>?_)
 ·refine O Z (QA 1 Z) Z<|O Z (QC Z aq.g1 (n:=4) (vs:=[_,_,_,_]) Z) Z<|O Z (QA 1 Z) Z<|O Z (QC Z aq.g0 (n:=4) (vs:=[_,_,_,_]) Z) Z<|bf Z (Qz Z Z Z) (fun _=>Z) (LA b aq g h) (fun U aq=>?_);refine Px 5 Z ?_;exact aA Z Z ⟨cB (by rw[a];rfl),aq.pop.pop⟩
 refine Px 10 Z ?_;exact aA Z Z ⟨cB (by rw[a];rfl),aq.pop.pop⟩
theorem Gy {k:Nat} {l:List XC} {n:Int} (f:∀c∈l,mn k c) (ha:qR k n l=true):AR k l:=by
 unfold qR at ha;rw[bA_] at ha;have j:l.length<=6:=bC (a:=6) (bT ha.2);have ha:=ha.1;rw[tL_ j] at ha;intro c d;refine⟨f c d,fun x g e he=>?_⟩;have h1:=aE_.1 ha c d;unfold p5 at h1;cases h:bU n (.ofNat c.ins.length) with
 | true=>rw[h] at h1;cases h1
 | false=>
  rw[h] at h1;have b:sf k x=true:=aE_.1 h1 x g;unfold sf at b;cases i:bU 4 (.ofNat x.exprs.length) with
  | true=>rw[i] at b;cases b
  | false=>
   rw[i] at b;have:=DX (f c d x g e he) (aE_.1 b e he);omega
theorem xN {G:Cx} (i:Plain G) (A:G.fk 70=true) (C:G.ov 106=true) (x:G.HD 18 []=some (.bool true)) {K:KP} (u:∀U L,J U K L->nD G.gl U G.laid=true) (hgl:rh G K) {k:Nat} {l:List XC} {lv:V} (hl:bR K 2 (mY K k) l lv) (w:∀c∈l,mn k c) {r:XM} {mv:V} (hmv:bR K 1 dy r.mem mv) {a b c d:V} (hg:eN K r.g a b c d) (p:Int) {U:D} {L:Own} (aq:J U K L):
  bk Tryz.prog G 4 [lv,.agg [mv,a,b,c,d],.int .i64 p] U fun v U'=>v= .bool true:=by
 refine PS i Tryz.func4 Z<|Pt 2 Z<|kp aq Z (cz Z Z) (fun U b1 aq=>?_);refine On 6 Z<|bf Z (Qz Z Z Z) (fun _=>Z) (Im (v:=.bool true) (i.h1 _ _ _) x Z Z (u _ _ aq) ⟨Z,aq⟩) (fun U aq=>?_);refine O Z (cV Z) Z<|Pv 3 Z<|Ol 6 Z<|bf Z (Qz Z Z Z) (fun _=>Z) (AA i aq hl 60) (fun U aq=>?_);refine O Z (cV Z) Z<|ky Z (an Z) (fun y=>?_) (fun y=>?_)
 ·refine OQ 21 Z ?_;exact aA Z Z Z
 refine O Z (QA 1 Z) Z<|O Z (QC Z aq.g0 (n:=4) (vs:=[_,_,_,_]) Z) Z<|cH Z (Qz Z Z Z) (fun _=>Z) (AB i hg 60 aq) ?_;rintro _ U ⟨ab,rfl,aq⟩;refine O Z (cV Z) Z<|vQ 1 Z<|ky Z (an Z) (fun E=>?_) (fun E=>?_)
 ·refine OQ 15 Z ?_;exact aA Z Z Z
 refine P3 aq 2 [0,0] Z Z<|O Z (QD hmv Z Z Z (e:=2) Z) Z<|Pv 4 Z<|aE Z (fun F=>?_) (fun F=>?_)
 ·refine Pu 7 Z ?_;exact aA Z Z Z
 refine OK 5 Z<|O Z (QC Z aq.g0 (n:=5) (vs:=[_,_,_,_,_]) Z) Z<|vQ 1 Z ?_;have hF:=Gy w (eV y);refine cH Z (Qz Z Z Z) (fun _=>Z) (LH i A C hgl hl hmv hg p aq) ?_;rintro _ U (⟨M,rfl,aa,hR1,aq⟩ | ⟨K1,P,m1,a1,b1_,c1,d1,rfl,hR1,j,hm1,hg1,aq⟩)
 ·have hm1:bR K 1 dy ([]:List Int) .ax:=.inl ⟨Z,Z⟩;have hg1:=Ff (K:=K);refine PZ 3 Z<|kp aq Z (QE (cs:=[.ax,.ax,.ax,.ax,.ax])) (fun U Q aq=>?_);refine bO aq Z (QH Z Z Z aq.g0 (m:=5) Z Z (cells':=[_,_,_,_,_]) Z) Z (fun U aq=>?_);refine OO 6 Z<|O Z (QC Z aq.g1 (n:=5) (vs:=[_,_,_,_,_]) Z) Z<|vQ 1 Z<|cH Z (Qz Z Z Z) (fun _=>Z) (HY i hl hF hmv hg p aq) ?_;rintro _ U (⟨e2,rfl,z,hR2,aq⟩ | ⟨R,r2,W,X,b2_,c2,d2,rfl,hR2,f,o,hg2,aq⟩)
  ·have o:bR K 1 dy ([]:List Int) .ax:=.inl ⟨Z,Z⟩;have hg2:=Ff (K:=K);obtain rfl:M=e2:=by have:=hR1.symm.trans hR2;cases this;rfl
   refine PZ 3 Z<|kp aq Z (QE (cs:=[.ax,.ax,.ax,.ax,.ax])) (fun U b3 aq=>?_);refine bO aq Z (QH Z Z Z aq.g0 (m:=5) Z Z (cells':=[_,_,_,_,_]) Z) Z (fun U aq=>?_);refine ON 4 Z (aS (l:=[(0,[]),(1,[]),(2,[]),(3,[]),(4,[]),(5,[]),(6,[]),(7,[]),(8,[]),(9,[]),(10,[]),(12,[]),(13,[]),(11,[13]),(14,[]),(15,[]),(16,[]),(17,[]),(18,[]),(19,[]),(21,[]),(22,[]),(20,[22]),(23,[]),(24,[]),(25,[]),(26,[])]) Y Y<|al Z Z (QC Z aq.g1 (n:=5) (vs:=[_,_,_,_,_]) Z) Z<|al Z Z (QC Z aq.g0 (n:=5) (vs:=[_,_,_,_,_]) Z) Z<|cA Z Z (Qz Z Z Z) (fun _=>Z) (by have q:=CV i hm1 o hg1 hg2 aq;rw[dc.2 Z,dc.2 Z] at q;exact q) (fun U aq=>?_));refine⟨aV,?_⟩;refine P1 5 Z<|dZ Z Z (an Z) (fun _=>Z) (fun s=>?_) (fun s=>?_)
   ·refine wQ 1 Z<|al Z Z (QC Z (aq.get 2 Z) (n:=5) (vs:=[_,_,_,_,_]) Z) Z<|wQ 1 Z<|al Z Z (QC Z (aq.get 2 Z) (n:=5) (vs:=[_,_,_,_,_]) Z) Z<|cA Z Z (Qz Z Z Z) (fun _=>Z) (Nz i hgl hl hmv hg aq) (fun U aq=>?_);refine⟨(bB (bN Z Z Z Z Z (QC Z (aq.get 2 Z) (n:=5) (vs:=[_,_,_,_,_]) Z)<|gH<|bS hmv.fD<|bS hg.init.fD<|bS hg.threads.fD<|bS hg.from_.fD<|bS hg.order.fD fx) aV),?_⟩;refine cA Z Z (Qz Z Z Z) (fun _=>Z) (Ku i hl hF hmv hg aq) (fun U aq=>?_);refine⟨aV,?_⟩;refine P1 2 Z<|dZ Z Z (an Z) (fun _=>Z) (fun t=>?_) (fun t=>?_)
    ·refine wQ 1 Z<|al Z Z (QC Z (aq.get 2 Z) (n:=5) (vs:=[_,_,_,_,_]) Z) Z<|wQ 1 Z<|al Z Z (QC Z (aq.get 2 Z) (n:=5) (vs:=[_,_,_,_,_]) Z) Z<|cA Z Z (Qz Z Z Z) (fun _=>Z) (JP i hgl hl hmv hg aq) (fun U aq=>?_);refine⟨(bB (bN Z Z Z Z Z (QC Z (aq.get 2 Z) (n:=5) (vs:=[_,_,_,_,_]) Z)<|gH<|bS hmv.fD<|bS hg.init.fD<|bS hg.threads.fD<|bS hg.from_.fD<|bS hg.order.fD fx) aV),?_⟩;refine cA Z Z (Qz Z Z Z) (fun _=>Z) (HV i hl hF hmv hg aq) (fun U aq=>?_);refine⟨aV,?_⟩;refine Pz 6 Z ?_;exact aA Z Z<|cB (by cases sN k l r.mem r.g<;>rfl)
    exact absurd t (by cases yc k l r.mem r.g<;>decide)
   exact absurd s (by first | decide | (rw[fP];decide))
  exact absurd (hR1.symm.trans hR2) (by simp)
 replace hl:=hl.mono j fun _ _ h=>h.mono j;replace hgl:=hgl.mono j;replace hmv:=hmv.mono j fun _ _ h=>h;replace hg:=hg.mono j
 refine PZ 3 Z<|kp aq Z (QE (cs:=[.ax,.ax,.ax,.ax,.ax])) (fun U Q aq=>?_);refine bO aq Z (QH Z Z Z aq.g0 (m:=5) Z (ah hm1.leaf.2<|ah hg1.init.leaf.2<|ah hg1.threads.leaf.2<|ah hg1.from_.leaf.2<|ah hg1.order.leaf.2 aC) (cells':=[_,_,_,_,_]) Z) Z (fun U aq=>?_);refine OO 6 Z<|O Z (QC Z aq.g1 (n:=5) (vs:=[_,_,_,_,_]) Z) Z<|vQ 1 Z<|cH Z (Qz Z Z Z) (fun _=>Z) (HY i hl hF hmv hg p aq) ?_;rintro _ U (⟨e2,rfl,z,hR2,aq⟩ | ⟨R,r2,W,X,b2_,c2,d2,rfl,hR2,f,o,hg2,aq⟩)
 ·exact absurd (hR1.symm.trans hR2) (by simp)
 replace hl:=hl.mono f fun _ _ h=>h.mono f;replace hgl:=hgl.mono f;replace hmv:=hmv.mono f fun _ _ h=>h;replace hg:=hg.mono f
 replace hm1:=hm1.mono f fun _ _ h=>h
 replace hg1:=hg1.mono f;obtain rfl:P=r2:=by have:=hR1.symm.trans hR2;cases this;rfl
 refine PZ 3 Z<|kp aq Z (QE (cs:=[.ax,.ax,.ax,.ax,.ax])) (fun U b3 aq=>?_);refine bO aq Z (QH Z Z Z aq.g0 (m:=5) Z (ah o.leaf.2<|ah hg2.init.leaf.2<|ah hg2.threads.leaf.2<|ah hg2.from_.leaf.2<|ah hg2.order.leaf.2 aC) (cells':=[_,_,_,_,_]) Z) Z (fun U aq=>?_);refine ON 4 Z (aS (l:=[(0,[]),(1,[]),(2,[]),(3,[]),(4,[]),(5,[]),(6,[]),(7,[]),(8,[]),(9,[]),(10,[]),(12,[]),(13,[]),(11,[13]),(14,[]),(15,[]),(16,[]),(17,[]),(18,[]),(19,[]),(21,[]),(22,[]),(20,[22]),(23,[]),(24,[]),(25,[]),(26,[])]) Y Y<|al Z Z (QC Z aq.g1 (n:=5) (vs:=[_,_,_,_,_]) Z) Z<|al Z Z (QC Z aq.g0 (n:=5) (vs:=[_,_,_,_,_]) Z) Z<|cA Z Z (Qz Z Z Z) (fun _=>Z) (by have q:=CV i hm1 o hg1 hg2 aq;rw[dc.2 Z,dc.2 Z] at q;exact q) (fun U aq=>?_));refine⟨aV,?_⟩;refine P1 5 Z<|dZ Z Z (an Z) (fun _=>Z) (fun s=>?_) (fun s=>?_)
 ·refine wQ 1 Z<|al Z Z (QC Z (aq.get 2 Z) (n:=5) (vs:=[_,_,_,_,_]) Z) Z<|wQ 1 Z<|al Z Z (QC Z (aq.get 2 Z) (n:=5) (vs:=[_,_,_,_,_]) Z) Z<|cA Z Z (Qz Z Z Z) (fun _=>Z) (Nz i hgl hl hmv hg aq) (fun U aq=>?_);refine⟨(bB (bN Z Z Z Z Z (QC Z (aq.get 2 Z) (n:=5) (vs:=[_,_,_,_,_]) Z)<|gH<|bS hmv.fD<|bS hg.init.fD<|bS hg.threads.fD<|bS hg.from_.fD<|bS hg.order.fD fx) aV),?_⟩;refine cA Z Z (Qz Z Z Z) (fun _=>Z) (Ku i hl hF hmv hg aq) (fun U aq=>?_);refine⟨aV,?_⟩;refine P1 2 Z<|dZ Z Z (an Z) (fun _=>Z) (fun t=>?_) (fun t=>?_)
  ·refine wQ 1 Z<|al Z Z (QC Z (aq.get 2 Z) (n:=5) (vs:=[_,_,_,_,_]) Z) Z<|wQ 1 Z<|al Z Z (QC Z (aq.get 2 Z) (n:=5) (vs:=[_,_,_,_,_]) Z) Z<|cA Z Z (Qz Z Z Z) (fun _=>Z) (JP i hgl hl hmv hg aq) (fun U aq=>?_);refine⟨(bB (bN Z Z Z Z Z (QC Z (aq.get 2 Z) (n:=5) (vs:=[_,_,_,_,_]) Z)<|gH<|bS hmv.fD<|bS hg.init.fD<|bS hg.threads.fD<|bS hg.from_.fD<|bS hg.order.fD fx) aV),?_⟩;refine cA Z Z (Qz Z Z Z) (fun _=>Z) (HV i hl hF hmv hg aq) (fun U aq=>?_);refine⟨aV,?_⟩;refine Pz 6 Z ?_;exact aA Z Z<|cB (by cases sN k l r.mem r.g<;>rfl)
  exact absurd t (by cases yc k l r.mem r.g<;>decide)
 exact absurd s (by first | decide | (rw[fP];decide))
section
variable {H_:Type} {U:D}
theorem GG (n:∀(b:Nat) (o:cG),U.m.get b=some o->b<U.next) {fuel:Nat} {d:DataW H_} {vs:List V} (f:Fit Tryz.prog (fuel+6) 44 d) (g:dz Tryz.prog U (fuel+6) 44 d vs):∃m a b c e,vs= [m,a,b,c,e]/\bR (sw U) 1 dy ((eO<|cF d 0).map m3) m/\eN (sw U) (Nr<|cF d 1) a b c e:=by
 obtain⟨p,h⟩:=gn (m:=5) Tryz.underlying44 Y Y f g
 obtain⟨m,a,b,c,e,rfl⟩:∃m a b c e,vs= [m,a,b,c,e]:=by
  match vs,p with
  | [m,a,b,c,e],_=>exact⟨m,a,b,c,e,Z⟩
 obtain⟨q,r⟩:Fit Tryz.prog _ 22 (cF d 0)/\dz Tryz.prog U _ 22 (cF d 0) (([m,a,b,c,e].drop 0).take<|Tryz.prog.cellsOf 22):=h 0 _ Z;obtain⟨s,t⟩:Fit Tryz.prog (fuel+5) 26 (cF d 1)/\dz Tryz.prog U (fuel+5) 26 (cF d 1) (([m,a,b,c,e].drop 1).take<|Tryz.prog.cellsOf 26):=h 1 _ Z;have i:Tryz.prog.cellsOf 22=1:=by kernel_rfl
 have j:Tryz.prog.cellsOf 26=4:=by kernel_rfl
 have u:Tryz.prog.cellsOf 2=1:=by kernel_rfl
 obtain⟨v0,k,v⟩:=fV (m:=1) m3 dy Tryz.underlying22 u (by decide) n q r fun x vs f g=>(iP Tryz.underlying2 f g).1
 obtain⟨a',b',c',e',l,w⟩:=GH n s t;rw[i] at k;rw[j] at l;simp only[List.drop_zero,List.take_succ_cons,List.take_zero,List.drop_succ_cons,List.cons.injEq,and_true] at k l;obtain⟨rfl,rfl,rfl,rfl⟩:=l;subst k;exact⟨_,_,_,_,_,Z,v,w⟩
end
theorem DJ {w:World} {base:Nat} {v:Value} (a:Value.okWide Tryz.prog w .any base 44 v):∃c:Array Value,v= .agg c:=by
 unfold Value.okWide at a;rw[Tryz.underlying44] at a;obtain⟨c,rfl,_⟩:=a;exact⟨c,Z⟩
end Go.Ev
end
