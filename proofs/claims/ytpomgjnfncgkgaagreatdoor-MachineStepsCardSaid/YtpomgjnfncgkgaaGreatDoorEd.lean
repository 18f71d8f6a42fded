/- Part of the proof: an evaluator of the model's code, rules for walks on it, walks. Without conditions. -/
import Derived.Test.YtpomgjnfncgkgaaGreatDoorEc
import Derived.Test.YtpomgjnfncgkgaaGreatDoorEb
import Derived.ReadAgain
import Derived.ProofKit
import Derived.Test.YtpomgjnfncgkgaaGreatDoorProg
import Derived.KernelRfl
set_option linter.unusedSectionVars false
set_option linter.unusedVariables false
set_option linter.unusedSimpArgs false
noncomputable section
namespace Go.Ev
variable [Env]
theorem fZ.leaf:∀x vs,fZ x vs->cD vs=true:=fun _ _ h=>by cases h;rfl
theorem nY {α β:Type} {f:α->List β} {l:List α} {i:Nat} {x:α} (h:l[i]?=some x):((l.take (i+1)).map f).flatten=((l.take i).map f).flatten++f x:=by
 rw[List.take_add_one,h];simp
theorem wy {α β:Type} {f:α->List β} {g:α->Nat}:∀(l:List α),(∀x∈l,(f x).length<=g x)->(l.map f).flatten.length<=(l.map g).sum
 | [],_=>nR_ _
 | x::l,h=>by
  have:=wy (f:=f) l (fun y hy=>h y (mC_ _ hy));have:=h x (mS_ ..);simp only[List.map_cons,List.flatten_cons,lA_,List.sum_cons];omega
theorem qk:∀(k:Nat) (x:XE),(fU k x).length<=cU k x
 | 0,_=>nR_ _
 | k+1,.mk op num name kids=>by
  show((bif (bif I op 2 then aX (gL name []) else false) then [name] else [])++(kids.map<|fU k).flatten).length<=(kids.map<|cU k).sum+1
  have h1:(bif (bif I op 2 then aX (gL name []) else false) then [name] else []).length<=1:=by
   cases (bif I op 2 then aX (gL name []) else false)<;>simp
  have h2:=wy (f:=fU k) (g:=cU k) kids (fun x _=>qk k x);rw[lA_];omega
theorem uc {k:Nat} {op num:Int} {name:List Nat} {kids:List XE} {i:Nat} {x:XE} (h:kids[i]?=some x):((bif (bif I op 2 then aX (gL name []) else false) then [name] else [])++((kids.take i).map<|fU k).flatten).length+(fU k x).length<=cU (k+1) (.mk op num name kids):=by
 have h1:(bif (bif I op 2 then aX (gL name []) else false) then [name] else []).length<=1:=by
  cases (bif I op 2 then aX (gL name []) else false)<;>simp
 have h2:=wy (f:=fU k) (g:=cU k) (kids.take i) (fun x _=>qk k x);have h3:=qk k x;have h4:=tf (f:=cU k) h;have h5:=EC (f:=cU k) (l:=kids) (i:=i+1);show _<=(kids.map<|cU k).sum+1;rw[lA_];omega
theorem cQ.iu {α:Type} {m E:Nat} {R:α->List V->Prop} {l:List α} {u:V} {M:Own} {K:KP} (h:cQ m E R l u M):bR (K.ic M) m R l u:=h.kq fun _ he=>.inr he
theorem cQ.yX {α:Type} {m E:Nat} {R R':α->List V->Prop} {l:List α} {u:V} {M:Own} (h:cQ m E R l u M) (z:∀x vs,R x vs->R' x vs):cQ m E R' l u M:=by
 rcases h with h | ⟨b,c,cells,e,h1,h2,A,h4,h5⟩
 ·exact .inl h
 exact .inr ⟨b,c,cells,e,h1,h2,A,fun i x hx=>z x _ (h4 i x hx),h5⟩
theorem ey.leaf {K:KP} {k:Nat}:∀x vs,ey K k x vs->cD vs=true:=fun x vs h=>by
 obtain⟨o,n,s,v,rfl,hk⟩:=h.shape;exact ah Z<|ah Z<|ah Z<|ah hk.leaf.2 aC
theorem cQ.empty {α:Type} {m E b e:Nat} {R:α->List V->Prop}:cQ m E R ([]:List α) (.slice b 0 0 (.known 0)) [(b,.row [] e false)]:=.inr ⟨b,.known 0,[],e,Z,Z,by simp,fun i x h=>by simp at h,.inl Z,by simp⟩
theorem cQ.nil {α:Type} {m E:Nat} {R:α->List V->Prop}:cQ m E R ([]:List α) .ax []:=.inl ⟨Z,Z,Z⟩
theorem KP.add_get (K:KP) (b:Nat) (o:cG):K.add b o b o:=.inr ⟨Z,Z⟩
theorem BZ {U:D} {K:KP} {L:Own} {b e:Nat} {vs:List V} (aq:J U K ((b,.row vs e false)::L)):∃u,KP.le K u/\u b (.row vs e false)/\J U u L:=⟨_,KP.se _ _ _,KP.add_get _ _ _,aq.iu⟩
def Ls (v:V):List V:=[.int .i64 0,.str [],.str [],.int .i64 0,v,.ax,.ax]
def OC (v:V) (_:Unit) (vs:List V):Prop:=vs=Ls v
theorem Lt {P:Program} {k:Bool} {t:TypeId} {s:List Nat} {n:Nat} (h:iG s=some n):vh P k .add t (.str [114]) (.str s)=some (.str (114::s)):=by
 obtain⟨_,h4,_⟩:=xp h;show(bif Nat.ble (cX [114]+cX s) 1152921504606846976 then some (V.str<|ie [114] s) else none)=_;rw[bK,bK,show Nat.ble ([114].length+s.length) 1152921504606846976=true by rw[nE_];show 1+s.length<=_;omega];rfl
theorem Fy {s:List Nat} (h:(bif bU (jQ s) 0 then false else true)=true):∃n,iG s=some n:=by
 unfold jQ at h;cases u:iG s with
 | none=>rw[u] at h;cases h
 | some n=>exact⟨n,Z⟩
theorem Le {s:List Nat} (h:(bif bU (jQ s) 0 then false else true)=false):iG s=none:=by
 unfold jQ at h;cases u:iG s with
 | none=>rfl
 | some n=>
  rw[u] at h;have:bU (.ofNat n) 0=false:=by rw[B1];exact Int.natCast_nonneg n
  dsimp only at h;rw[this] at h;cases h
theorem oC {P:Program} {ev:Operand->Option V} {t e:TypeId} {len m:Nat} {parts:Array (Nat×Operand)} {z cs:List V} (A:P.underlying t=some (.slice e)) (hj:(P.info? e).map (·.size)=some m) (C:(fB P e).bind cS=some z)
  (hb:(Nat.beq (cX z) m && Nat.ble (len*m) 16777216 && Nat.ble 1 m)=true) (hf:kx (fun i=>some (i*m,m)) ev parts.toList (fp z len)=some cs):gi P ev (.buildSlice t len parts)=some (.row cs e false,.slice len len):=by
 obtain⟨j,u,rfl⟩:=oM_.1 hj;simp only[gi,A,u,C,hb,cond_true,hf]
theorem G2 {α:Type} {l o:List α} {i k:Nat} {x y:α} (hm:∀s,s∈o↔s∈l.take i) (h1:o[k]?=some y) (h2:l[i]?=some x) (e:y=x):∀s,s∈o↔s∈l.take (i+1):=fun s=>by
 subst e;rw[List.take_add_one,h2];simp only[Option.toList_some,List.mem_append,List.mem_singleton,<-hm];exact⟨.inl,fun h=>h.elim id fun e=>e ▸ gB_ h1⟩
theorem Fx {α:Type} {l o:List α} {i k:Nat} {x:α} (hm:∀s,s∈o↔s∈l.take i) (h2:l[i]?=some x):∀s,s∈(([]++o.take k)++[x])++o.drop k↔s∈l.take (i+1):=fun s=>by
 rw[List.take_add_one,h2];simp only[Option.toList_some,List.nil_append,List.mem_append,List.mem_singleton,<-hm];have:s∈o↔s∈o.take k∨s∈o.drop k:=by rw[<-List.mem_append,List.take_append_drop]
 rw[this];constructor
 ·rintro ((h | h) | h)
  ·exact .inl (.inl h)
  ·exact .inr h
  exact .inl (.inr h)
 rintro ((h | h) | h)
 ·exact .inl (.inl h)
 ·exact .inr h
 exact .inl (.inr h)
theorem Fs {α:Type} {o:List α} {k i:Nat} {x:α} (h:o.length<=i) (hk:k<=o.length):((([]++o.take k)++[x])++o.drop k).length<=i+1:=by
 simp only[List.nil_append,lA_,lT_,lD_,List.length_singleton];omega
end Go.Ev
namespace Go.Ev
variable [Env]
open Go.Proofs
set_option maxRecDepth 4000
set_option maxHeartbeats 8000000
theorem KB {G:Cx} (hG:Plain G) {K:KP}:∀(k:Nat) (x:XE) (vs:List V),ey K k x vs->cU k x<=1000000->∀(U:D) (L:Own),J U K L->bk Tryz.prog G 286 [.agg vs] U fun v U'=>∃K1,KP.le K K1/\bR K1 1 fZ (fU k x) v/\J U' K1 L:=by
 intro k;induction k with
 | zero=>intro x vs h;cases x;exact h.elim
 | succ k ih=>
 intro x vs hE hS U L aq;obtain⟨op,num,name,kids⟩:=x;obtain⟨v,rfl,hk⟩:=hE;have hS:(kids.map<|cU k).sum+1<=1000000:=hS;refine PS hG Tryz.func286 Z<|Pt 2 Z<|kp aq Z (cz Z Z) (fun U b1 aq=>?_);refine Ou aq 14 [0,0] Z Z<|ky Z (an Z) (fun h8=>?_) (fun h8=>?_)
 ·refine PC aq 6 [2,0] Z Z<|aE Z (fun aY=>?_) (fun aY=>?_)
  ·refine P2 aq 4 [2,0] Z Z<|gT aq Z (bY (e:=9) (m:=1) (z:=[.str []]) (cs:=[_]) Y Y Y Y<|bD Z Z Z Z bJ) (fun _=>Z) (fun U b2 aq=>?_);refine sk (R:=fZ) (m:=1) (e:=9) cQ.nil (show J _ _ (_::([]++_)) from aq) (eU (m:=1) Z Z) fZ.leaf (by simp) Z Z Z Z Z Z Z (fun _=>Z) (fun U a9 a8 hO17 aq=>?_);refine Om 10 Z (bp ([3,4]++rg 18 15) (fun j t U=>∃(i:Nat) (u:V) (M:Own),j+i=kids.length/\cQ 1 9 fZ ((bif (bif I op 2 then aX (gL name []) else false) then [name] else [])++((kids.take i).map<|fU k).flatten) u M/\t.get 3=some (u)/\t.get 4=some (.int .i64 (.ofNat i))/\J U K (M++(b1,.row [.int .i64 op,.int .i64 num,.str name,v] 82 false)::L)) (kids.length) ⟨0,_,a8,Z,by rw[show(bif (bif I op 2 then aX (gL name []) else false) then [name] else [])= [name] from by unfold aX;simp only[h8,show(bif gL name [] then false else true)=true from aY,ct,cf]<;>rfl];simpa using hO17,Z,Z,aq⟩ ?_);clear aq;intro j5 t U ar hI;obtain⟨i,u,M,hj,X,aa,ab,aq⟩:=hI;obtain⟨oo,rfl⟩:=ar.q2 aa ab Z;refine OU aq 5 [3] Z Z<|O Z (QB Z aq.aQ.g0 Z) Z<|O Z (QD hk Z Z Z (e:=82) Z) Z<|Pv 3 Z<|aE Z (fun F=>?_) (fun F=>?_)
   ·refine Oq aq 7 [3] Z Z<|O Z (QB Z aq.aQ.g0 Z) Z<|vQ 1 Z ?_;obtain⟨a0,A,am⟩:=cL F;refine Qu (e:=82) (m:=4) hk A Z Z Z Z (fun a1 ao W ap C=>?_);obtain⟨a2,a3,a4,a5,rfl,aI⟩:=C.shape;refine O Z (QG aq W Z Z) Z ?_;have hz:=uc (k:=k) (op:=op) (num:=num) (name:=name) A;refine cH Z (Qz Z Z Z) (fun _=>Z) (ih _ _ C (Nat.le_trans (ma (f:=cU k) A) B) _ _ aq) ?_;rintro a6 U ⟨a7,Q,hS31,aq⟩;refine tW (R:=fZ) (m:=1) (e:=9) X aq hS31 fZ.leaf (by have e:cU (k+1) (.mk op num name kids)=(kids.map<|cU k).sum+1:=rfl;omega) Z Z Z Z Z Z Z (fun _=>Z) (fun U u32 ac hO32 aq=>?_);replace aq:=aq.weaken Q;refine PY 2 Z<|aJ<|PW 5 Z<|aO ⟨j5-1,by omega,oF,i+1,u32,ac,by omega,by rw[nY A,<-lQ_];exact hO32,Z,cI<|bg (by have:=hk.bG;omega),aq⟩
   refine OL 3 Z<|aT<|PX 7 Z ?_;exact aA Z Z ⟨K.ic M,KP.bX _ _,by rw[tL_<|bC F] at X;exact X.iu,aq.keeps.pop⟩
  refine Ol 5 Z ?_;replace aq:J U K ([]++_):=aq;refine OM 4 Z (bp ([3,4]++rg 18 15) (fun j t U=>∃(i:Nat) (u:V) (M:Own),j+i=kids.length/\cQ 1 9 fZ ((bif (bif I op 2 then aX (gL name []) else false) then [name] else [])++((kids.take i).map<|fU k).flatten) u M/\t.get 3=some (u)/\t.get 4=some (.int .i64 (.ofNat i))/\J U K (M++(b1,.row [.int .i64 op,.int .i64 num,.str name,v] 82 false)::L)) (kids.length) ⟨0,_,[],Z,by rw[show(bif (bif I op 2 then aX (gL name []) else false) then [name] else [])= [] from by unfold aX;simp only[h8,show(bif gL name [] then false else true)=false from aY,ct,cf]<;>rfl];simpa using (cQ.nil (m:=1) (E:=9) (R:=fZ)),Z,Z,aq⟩ ?_);clear aq;intro j5 t U ar hI;obtain⟨i,u,M,hj,X,aa,ab,aq⟩:=hI;obtain⟨oo,rfl⟩:=ar.q2 aa ab Z;refine OU aq 5 [3] Z Z<|O Z (QB Z aq.aQ.g0 Z) Z<|O Z (QD hk Z Z Z (e:=82) Z) Z<|Pv 3 Z<|aE Z (fun F=>?_) (fun F=>?_)
  ·refine Oq aq 7 [3] Z Z<|O Z (QB Z aq.aQ.g0 Z) Z<|vQ 1 Z ?_;obtain⟨a0,A,am⟩:=cL F;refine Qu (e:=82) (m:=4) hk A Z Z Z Z (fun a1 ao W ap C=>?_);obtain⟨a2,a3,a4,a5,rfl,aI⟩:=C.shape;refine O Z (QG aq W Z Z) Z ?_;have hz:=uc (k:=k) (op:=op) (num:=num) (name:=name) A;refine cH Z (Qz Z Z Z) (fun _=>Z) (ih _ _ C (Nat.le_trans (ma (f:=cU k) A) B) _ _ aq) ?_;rintro a6 U ⟨a7,Q,hS31,aq⟩;refine tW (R:=fZ) (m:=1) (e:=9) X aq hS31 fZ.leaf (by have e:cU (k+1) (.mk op num name kids)=(kids.map<|cU k).sum+1:=rfl;omega) Z Z Z Z Z Z Z (fun _=>Z) (fun U u32 ac hO32 aq=>?_);replace aq:=aq.weaken Q;refine PY 2 Z<|aJ<|PW 5 Z<|aO ⟨j5-1,by omega,oF,i+1,u32,ac,by omega,by rw[nY A,<-lQ_];exact hO32,Z,cI<|bg (by have:=hk.bG;omega),aq⟩
  refine OL 3 Z<|aT<|PX 7 Z ?_;exact aA Z Z ⟨K.ic M,KP.bX _ _,by rw[tL_<|bC F] at X;exact X.iu,aq.keeps.pop⟩
 refine Pv 7 Z<|Ol 5 Z ?_;replace aq:J U K ([]++_):=aq;refine OM 4 Z (bp ([3,4]++rg 18 15) (fun j t U=>∃(i:Nat) (u:V) (M:Own),j+i=kids.length/\cQ 1 9 fZ ((bif (bif I op 2 then aX (gL name []) else false) then [name] else [])++((kids.take i).map<|fU k).flatten) u M/\t.get 3=some (u)/\t.get 4=some (.int .i64 (.ofNat i))/\J U K (M++(b1,.row [.int .i64 op,.int .i64 num,.str name,v] 82 false)::L)) (kids.length) ⟨0,_,[],Z,by rw[show(bif (bif I op 2 then aX (gL name []) else false) then [name] else [])= [] from by unfold aX;simp only[h8,ct,cf]<;>rfl];simpa using (cQ.nil (m:=1) (E:=9) (R:=fZ)),Z,Z,aq⟩ ?_);clear aq;intro j5 t U ar hI;obtain⟨i,u,M,hj,X,aa,ab,aq⟩:=hI;obtain⟨oo,rfl⟩:=ar.q2 aa ab Z;refine OU aq 5 [3] Z Z<|O Z (QB Z aq.aQ.g0 Z) Z<|O Z (QD hk Z Z Z (e:=82) Z) Z<|Pv 3 Z<|aE Z (fun F=>?_) (fun F=>?_)
 ·refine Oq aq 7 [3] Z Z<|O Z (QB Z aq.aQ.g0 Z) Z<|vQ 1 Z ?_;obtain⟨a0,A,am⟩:=cL F;refine Qu (e:=82) (m:=4) hk A Z Z Z Z (fun a1 ao W ap C=>?_);obtain⟨a2,a3,a4,a5,rfl,aI⟩:=C.shape;refine O Z (QG aq W Z Z) Z ?_;have hz:=uc (k:=k) (op:=op) (num:=num) (name:=name) A;refine cH Z (Qz Z Z Z) (fun _=>Z) (ih _ _ C (Nat.le_trans (ma (f:=cU k) A) B) _ _ aq) ?_;rintro a6 U ⟨a7,Q,hS31,aq⟩;refine tW (R:=fZ) (m:=1) (e:=9) X aq hS31 fZ.leaf (by have e:cU (k+1) (.mk op num name kids)=(kids.map<|cU k).sum+1:=rfl;omega) Z Z Z Z Z Z Z (fun _=>Z) (fun U u32 ac hO32 aq=>?_);replace aq:=aq.weaken Q;refine PY 2 Z<|aJ<|PW 5 Z<|aO ⟨j5-1,by omega,oF,i+1,u32,ac,by omega,by rw[nY A,<-lQ_];exact hO32,Z,cI<|bg (by have:=hk.bG;omega),aq⟩
 refine OL 3 Z<|aT<|PX 7 Z ?_;exact aA Z Z ⟨K.ic M,KP.bX _ _,by rw[tL_<|bC F] at X;exact X.iu,aq.keeps.pop⟩
theorem FA {α β:Type} {f:α->List β} {x:α} {i:Nat}:(([x].take i).map f).flatten.length<=(f x).length:=by
 cases i with
 | zero=>simp
 | succ i=>simp
theorem qM {α β:Type} {f:α->List β} {l:List α} {i:Nat} (h:i=0):((l.take i).map f).flatten= []:=by subst h;simp
theorem Nf {α:Type} {x y:α} {i:Nat} (h: [x][i]?=some y):x=y:=by
 cases i with
 | zero=>simpa using h
 | succ i=>simp at h
theorem Bw {G:Cx} (C:Plain G) {K:KP} {U:D} {L:Own} (aq:J U K L):bk Tryz.prog G 277 [.ax] U fun v U'=>v= .ax/\J U' K L:=by
 have h0:bR K 7 (OC .ax) [] .ax:=.inl ⟨Z,Z⟩;refine PS C Tryz.func277 Z<|OH 17 Z ?_;obtain⟨LL1,aq,hLL1⟩:=aq.named;refine bp (rg 3 59) (fun j t U=>t.get 3=some (.ax)/\t.get 4=some (.int .i64 (.ofNat 0))/\J U K LL1) (0) ⟨Z,Z,aq⟩ ?_;clear aq;intro j3 t U ar E;obtain⟨u,z,aq⟩:=E;subst hLL1;obtain⟨oo,rfl⟩:=ar.q2 u z Z;refine OI 5 Z<|O Z (QD h0 Z Z Z (e:=304) Z) Z<|Pv 3 Z<|aE Z (fun A=>?_) (fun A=>?_)
 ·exact absurd (bu A) (by simp)
 refine OL 3 Z<|aT<|PX 7 Z ?_;exact aA Z Z ⟨Z,aq⟩
theorem HZ {G:Cx} (hG:Plain G) {K:KP} {k:Nat} {x:XE} {ev v:V} (h:bR K 7 (OC ev) [()] v) (he:bR K 4 (ey K k) [x] ev) (hS:cU k x<=1000000) {U:D} {L:Own} (aq:J U K L):bk Tryz.prog G 277 [v] U fun v U'=>∃K1,KP.le K K1/\bR K1 1 fZ (fU k x) v/\J U' K1 L:=by
 have ab:bR K 1 fZ [] .ax:=.inl ⟨Z,Z⟩;have hrl:=qk k x;refine PS hG Tryz.func277 Z<|OH 17 Z<|bp (rg 3 59) (fun j t U=>∃(i:Nat) (u:V) (M:Own),j+i=1/\cQ 1 9 fZ (([()].take i).map fun _=>fU k x).flatten u M/\t.get 3=some (u)/\t.get 4=some (.int .i64 (.ofNat i))/\J U K (M++L)) (1) ⟨0,_,[],Z,cQ.nil,Z,Z,aq⟩ ?_;clear aq;intro j3 t U ar hI;obtain⟨i,u,M,hj,hO,am,bl,aq⟩:=hI;obtain⟨oo,rfl⟩:=ar.q2 am bl Z;refine OI 5 Z<|O Z (QD h Z Z Z (e:=304) Z) Z<|Pv 3 Z<|aE Z (fun h9=>?_) (fun h9=>?_)
 ·refine NO 5 Z<|Pt 4 Z ?_;obtain⟨b9,z,bw⟩:=cL h9;refine Qu (e:=304) (m:=7) h z Z Z Z Z (fun ca ap aI b0 C=>?_);replace C:ap= [T,.str [],.str [],T,ev,.ax,.ax]:=C;subst C;refine cq aI Z Z Z (k:=1) Y (lb Z) (fun _=>Z) (fun cb aY=>?_);refine O Z (QF aq aY Z Z) Z<|Pv 3 Z<|aE Z (fun a0=>absurd (show false=true from a0) (by decide)) (fun a0=>?_);refine Ok 9 Z<|bp ([3,5]++rg 26 21) (fun j t U=>∃(i2:Nat) (u2:V) (M2:Own),j+i2=1/\cQ 1 9 fZ ((([()].take i).map fun _=>fU k x).flatten++(([x].take i2).map<|fU k).flatten) u2 M2/\t.get 3=some (u2)/\t.get 5=some (.int .i64 (.ofNat i2))/\J U K (M2++L)) (1) ⟨0,_,M,Z,by simpa using hO,Z,Z,aq⟩ ?_;clear aq;intro j8 t U ar hI;obtain⟨i2,u2,M2,cc,hO2,am,bm,aq⟩:=hI;obtain⟨oo,rfl⟩:=ar.q2 am bm Z;refine OI 6 Z<|Qu (e:=304) (m:=7) h z Z Z Z Z (fun ce a1 a2 b1 E=>?_);replace E:a1= [T,.str [],.str [],T,ev,.ax,.ax]:=E;subst E;refine cq a2 Z Z Z (k:=4) Y (lb Z) (fun _=>Z) (fun cg a3=>?_);refine O Z (QF aq a3 Z Z) Z<|O Z (QD he Z Z Z (e:=82) Z) Z<|Pv 3 Z<|aE Z (fun A=>?_) (fun A=>?_)
  ·refine Ok 4 Z<|ai Z<|PZ 3 Z<|Qu (e:=304) (m:=7) h z Z Z Z Z (fun ch a4 a5 b2 F=>?_);replace F:a4= [T,.str [],.str [],T,ev,.ax,.ax]:=F;subst F;refine cq a5 Z Z Z (k:=4) Y (lb Z) (fun _=>Z) (fun ci a6=>?_);refine O Z (QF aq a6 Z Z) Z<|vQ 1 Z ?_;obtain⟨ck,Q,b3⟩:=cL A;refine Qu (e:=82) (m:=4) he Q Z Z Z Z (fun cl b4 a7 b5 ac=>?_);obtain⟨cn,co,cp,cs,rfl,b6⟩:=ac.shape;refine O Z (QG aq a7 Z Z) Z ?_;obtain rfl:=Nf Q;refine cH Z (Qz Z Z Z) (fun _=>Z) (KB hG _ _ _ ac hS _ _ aq) ?_;rintro cv U ⟨cx,ao,hS45,aq⟩;refine tW (R:=fZ) (m:=1) (e:=9) hO2 aq hS45 fZ.leaf (by have e1:(([()].take i).map fun _=>fU k x).flatten= []:=qM (by have:=bu h9;simpa using this);have e2:(([x].take i2).map<|fU k).flatten= []:=qM (by have:=bu A;simpa using this);rw[e1,e2];simp;omega) Z Z Z Z Z Z Z (fun _=>Z) (fun U bo bs hO46 aq=>?_);replace aq:=aq.weaken ao;refine PY 2 Z<|aJ<|PW 5 Z<|aO ⟨j8-1,(by have:=bu A;simp at this;omega),oF,i2+1,bo,bs,(by have:=bu A;simp at this;omega),(by rw[nY Q,<-lQ_];exact hO46),Z,cI<|bg B,aq⟩
  refine OL 3 Z (aT (ad (aS (l:=[(0,[]),(1,[]),(2,[]),(3,[]),(4,[]),(5,[]),(8,[]),(9,[]),(10,[]),(11,[]),(12,[]),(6,[12]),(7,[12]),(13,[]),(14,[]),(15,[])]) Y Y<|P1 3 Z<|Qv (e:=304) (m:=7) h z Z Z Z Z Z (fun c0 a8 a9 b7 W=>?_))));replace W:a8= [T,.str [],.str [],T,ev,.ax,.ax]:=W;subst W;refine ka a9 Z Z Z Z (k:=5) Y (lb Z) (fun _=>Z) (fun c1 bb=>?_);refine al Z Z (QF aq bb Z Z) Z<|P1 2 Z<|Qv (e:=304) (m:=7) h z Z Z Z Z Z (fun c2 be bi b8 X=>?_);replace X:be= [T,.str [],.str [],T,ev,.ax,.ax]:=X;subst X;refine ka bi Z Z Z Z (k:=6) Y (lb Z) (fun _=>Z) (fun c3 aa=>?_);refine al Z Z (QF aq aa Z Z) Z<|cA Z Z (Qz Z Z Z) (fun _=>Z) (Bw hG aq) (fun U aq=>?_);refine⟨(bB (bN Z Z Z Z Z (QF aq aa Z Z) Z) aV),?_⟩;refine kL (R:=fZ) (m:=1) (e:=9) hO2 aq ab fZ.leaf (by have h1:(([x].take i2).map<|fU k).flatten.length<=(fU k x).length:=FA;have e1:(([()].take i).map fun _=>fU k x).flatten= []:=qM (by have:=bu h9;simpa using this);rw[e1,List.nil_append];show _+0<=_;omega) Z Z Z Z Z Z Z Z (fun _=>Z) (fun U c4 c5 hO54 aq=>?_);refine⟨(bB (bN Z Z Z Z Z (QF aq aa Z Z) Z) aV),?_⟩;refine cA Z Z (Qz Z Z Z) (fun _=>Z) (Bw hG aq) (fun U aq=>?_);refine⟨aV,?_⟩;refine kL (R:=fZ) (m:=1) (e:=9) hO54 aq ab fZ.leaf (by have h1:(([x].take i2).map<|fU k).flatten.length<=(fU k x).length:=FA;have e1:(([()].take i).map fun _=>fU k x).flatten= []:=qM (by have:=bu h9;simpa using this);rw[List.append_nil,e1,List.nil_append];show _+0<=_;omega) Z Z Z Z Z Z Z Z (fun _=>Z) (fun U bt bv hO61 aq=>?_);refine⟨aV,?_⟩;refine P0 2 Z (aJ (PW 5 Z (aO ⟨j3-1,(by have:=bu h9;simp at this;omega),oF,i+1,bt,bv,(by have:=bu h9;simp at this;omega),(by rw[nY z];have e3: [x].take i2= [x]:=tL_ (bC A);rw[e3] at hO61;simpa using hO61),Z,cI<|bg B,aq⟩)))
 refine OL 3 Z<|aT<|PX 7 Z ?_;exact aA Z Z ⟨K.ic M,KP.bX _ _,by rw[tL_<|bC h9] at hO;exact(show cQ 1 9 fZ (fU k x) u M by simpa using hO).iu,aq.keeps⟩
theorem N2 {G:Cx} (hG:Plain G) {K:KP} {l:List (List Nat)} {v:V} (h:bR K 1 fZ l v) (hl:l.length<=100000) {U:D} {L:Own} (aq:J U K L):bk Tryz.prog G 276 [v] U fun v U'=>∃E l',KP.le K E/\bR E 1 fZ l' v/\(∀s,s∈l'↔s∈l)/\J U' E L:=by
 refine PS hG Tryz.func276 Z<|OH 17 Z ?_;obtain⟨LL1,aq,hLL1⟩:=aq.named;refine bp (rg 3 56) (fun j t U=>∃(i:Nat) (o:List (List Nat)) (u:V) (E:KP),j+i=l.length/\KP.le K E/\bR E 1 fZ o u/\(∀s,s∈o↔s∈l.take i)/\o.length<=i/\t.get 3=some (u)/\t.get 4=some (.int .i64 (.ofNat i))/\J U E LL1) (l.length) ⟨0,[],.ax,K,Z,KP.le_refl _,.inl ⟨Z,Z⟩,by simp,nR_ _,Z,Z,aq⟩ ?_;clear aq;intro j3 t U ar hI;obtain⟨i,o,u,E,hj,hle,Q,hm,aY,bl,bm,aq⟩:=hI;subst hLL1;obtain⟨oo,rfl⟩:=ar.q2 bl bm Z;have h1:=h.mono hle (fun _ _ h=>h);refine OI 5 Z<|O Z (QD h1 Z Z Z (e:=9) Z) Z<|Pv 3 Z<|aE Z (fun W=>?_) (fun W=>?_)
 ·refine NO 10 Z<|aN ?_;obtain⟨LL2,aq,hLL2⟩:=aq.named;refine bp ([5]++rg 12 17) (fun j t U=>∃(k2:Nat),j+k2=o.length/\t.get 5=some (.int .i64 (.ofNat k2))/\J U E LL2) (o.length) ⟨0,Z,Z,aq⟩ ?_;clear aq;intro j6 t U ar hI;obtain⟨k2,cn,bo,aq⟩:=hI;subst hLL2;obtain⟨oo,rfl⟩:=ar.q1 bo Z;refine ak<|ak<|aS (l:=zp [0,1,2,3,4,5,6,7,8,9,10,11,12,13,14]) Y Y<|P1 2 Z<|al Z Z (QD Q Z Z Z (e:=9) Z) Z<|wQ 1 Z<|dZ Z Z (an Z) (fun _=>Z) (fun F=>?_) (fun F=>?_)
  ·refine P1 2 Z ?_;obtain⟨co,a0,b7⟩:=cL F;refine Qv (e:=9) (m:=1) Q a0 Z Z Z Z Z (fun cp b8 a1 b9 a2=>?_);obtain rfl:=a2;refine al Z Z (QF aq a1 Z Z) Z<|P1 2 Z ?_;obtain⟨cv,a3,ca⟩:=cL W;refine Qv (e:=9) (m:=1) h1 a3 Z Z Z Z Z (fun cx cb a4 cc a5=>?_);obtain rfl:=a5;refine al Z Z (QF aq a4 Z Z) Z<|Py 4 Z<|aE Z (fun bs=>?_) (fun bs=>?_)
   ·refine aG<|PW 7 Z<|aO ⟨j6-1,(by have:=bu F;omega),oF,k2+1,(by have:=bu F;omega),cI<|bg (by have:=Q.bG;omega),aq⟩
   refine OL 3 Z<|aT<|ad<|ak<|ak<|aS (l:=zp [0,1,2,3,4,5,6,7,8,9,10,11,12,13,14]) Y Y<|P1 2 Z<|al Z Z (QD Q Z Z Z (e:=9) Z) Z<|wQ 1 Z<|dZ Z Z (an Z) (fun _=>Z) (fun M=>?_) (fun M=>?_)
   ·refine P1 2 Z ?_;obtain⟨c0,am,ce⟩:=cL M;refine Qv (e:=9) (m:=1) Q am Z Z Z Z Z (fun c1 cg a6 ch a7=>?_);obtain rfl:=a7;refine al Z Z (QF aq a6 Z Z) Z<|P1 2 Z ?_;obtain⟨c2,ao,ci⟩:=cL W;refine Qv (e:=9) (m:=1) h1 ao Z Z Z Z Z (fun c3 ck a8 cl a9=>?_);obtain rfl:=a9;refine al Z Z (QF aq a8 Z Z) Z<|Py 4 Z<|aE Z (fun h43=>?_) (fun h43=>?_)
    ·refine bx<|aZ<|aT<|PW 5 Z<|aO ⟨j3-1,(by have:=bu W;omega),oF,i+1,o,u,E,(by have:=bu W;omega),hle,Q,G2 hm am ao (by have h43:=h43;rw[mB] at h43;exact of_decide_eq_true h43),B,Z,cI<|bg (by have:=h.bG;omega),aq⟩
    refine aG (ad (aS (l:=[(0,[]),(1,[]),(2,[]),(3,[]),(5,[]),(6,[]),(7,[]),(8,[]),(9,[]),(11,[]),(12,[]),(13,[]),(4,[8,9]),(10,[]),(14,[]),(15,[])]) Y Y<|j1 aq Z Z (bY (e:=9) (m:=1) (z:=[.str []]) (cs:=[]) Y Y Y Y bJ) (fun _=>Z) (fun U b1 aq=>?_)));replace aq:J U _ ([(b1,.row [] 9 false)]++_):=aq;refine P1 2 Z<|tZ (e:=9) (m:=1) (k:=k2) Q B Z Z Z Y Y Z Z (fun _=>Z) (fun bt aa=>?_);refine P1 2 Z ?_;obtain⟨bv,A,bb⟩:=cL W;refine Qv (e:=9) (m:=1) h1 A Z Z Z Z Z (fun bw be C bi ab=>?_);obtain rfl:=ab;refine al Z Z (QF aq C Z Z) Z<|j1 aq Z Z (bY (e:=9) (m:=1) (z:=[.str []]) (cs:=[_]) Y Y Y Y<|bD Z Z Z Z bJ) (fun _=>Z) (fun U b2 aq=>?_);refine P1 2 Z<|qh (e:=9) (m:=1) (k:=k2) Q B Z Z Z Y Y Z Z (fun _=>Z) (fun b0 ac=>?_);replace aq:=aq.pull (.there .here);refine kL (R:=fZ) (m:=1) (e:=9) cQ.empty aq aa fZ.leaf (by simp;omega) Z Z Z Z Z Z Z Z (fun _=>Z) (fun U b3 b4 hO48 aq=>?_);refine⟨(bB (bN Z Z Z Z Z (QF aq C Z Z)<|Bi _)<|bB (xH Z Z Z Z Z (oC (e:=9) (m:=1) (z:=[.str []]) (cs:=[_]) Y Y Y Y<|bD Z Z Z Z bJ) aq.aQ.g0<|bS (sB _) fx) aV),?_⟩;replace aq:=aq.pull (.cM<|ep.here (X:=[_]));refine mN (R:=fZ) (m:=1) (e:=9) hO48 aq (eU (m:=1) Z Z) fZ.leaf (by simp;omega) Z Z Z Z Z Z Z Z (fun _=>Z) (fun U b5 b6 hO54 aq=>?_);refine⟨aV,?_⟩;refine kL (R:=fZ) (m:=1) (e:=9) hO54 aq ac fZ.leaf (by simp;omega) Z Z Z Z Z Z Z Z (fun _=>Z) (fun U ap aI hO58 aq=>?_);refine⟨aV,?_⟩;replace aq:=aq.keeps;refine P0 2 Z<|aJ<|PW 5 Z<|aO ⟨j3-1,(by have:=bu W;omega),oF,i+1,_,ap,E.ic aI,(by have:=bu W;omega),KP.le_trans hle<|KP.bX _ _,hO58.iu,Fx hm A,Fs aY B,Z,cI<|bg (by have:=h.bG;omega),aq⟩
   exact absurd M (by rw[F];decide)
  refine Py 13 Z<|OL 3 Z<|aT<|ad<|ak<|ak<|aS (l:=zp [0,1,2,3,4,5,6,7,8,9,10,11,12,13,14]) Y Y<|P1 2 Z<|al Z Z (QD Q Z Z Z (e:=9) Z) Z<|wQ 1 Z<|dZ Z Z (an Z) (fun _=>Z) (fun M=>?_) (fun M=>?_)
  ·exact absurd M (by rw[F];decide)
  refine Py 13 Z (aG (ad (aS (l:=[(0,[]),(1,[]),(2,[]),(3,[]),(5,[]),(6,[]),(7,[]),(8,[]),(9,[]),(11,[]),(12,[]),(13,[]),(4,[8,9]),(10,[]),(14,[]),(15,[])]) Y Y<|j1 aq Z Z (bY (e:=9) (m:=1) (z:=[.str []]) (cs:=[]) Y Y Y Y bJ) (fun _=>Z) (fun U b1 aq=>?_))));replace aq:J U _ ([(b1,.row [] 9 false)]++_):=aq;refine P1 2 Z<|tZ (e:=9) (m:=1) (k:=k2) Q B Z Z Z Y Y Z Z (fun _=>Z) (fun bt aa=>?_);refine P1 2 Z ?_;obtain⟨bv,A,bb⟩:=cL W;refine Qv (e:=9) (m:=1) h1 A Z Z Z Z Z (fun bw be C bi ab=>?_);obtain rfl:=ab;refine al Z Z (QF aq C Z Z) Z<|j1 aq Z Z (bY (e:=9) (m:=1) (z:=[.str []]) (cs:=[_]) Y Y Y Y<|bD Z Z Z Z bJ) (fun _=>Z) (fun U b2 aq=>?_);refine P1 2 Z<|qh (e:=9) (m:=1) (k:=k2) Q B Z Z Z Y Y Z Z (fun _=>Z) (fun b0 ac=>?_);replace aq:=aq.pull (.there .here);refine kL (R:=fZ) (m:=1) (e:=9) cQ.empty aq aa fZ.leaf (by simp;omega) Z Z Z Z Z Z Z Z (fun _=>Z) (fun U b3 b4 hO48 aq=>?_);refine⟨(bB (bN Z Z Z Z Z (QF aq C Z Z)<|Bi _)<|bB (xH Z Z Z Z Z (oC (e:=9) (m:=1) (z:=[.str []]) (cs:=[_]) Y Y Y Y<|bD Z Z Z Z bJ) aq.aQ.g0<|bS (sB _) fx) aV),?_⟩;replace aq:=aq.pull (.cM<|ep.here (X:=[_]));refine mN (R:=fZ) (m:=1) (e:=9) hO48 aq (eU (m:=1) Z Z) fZ.leaf (by simp;omega) Z Z Z Z Z Z Z Z (fun _=>Z) (fun U b5 b6 hO54 aq=>?_);refine⟨aV,?_⟩;refine kL (R:=fZ) (m:=1) (e:=9) hO54 aq ac fZ.leaf (by simp;omega) Z Z Z Z Z Z Z Z (fun _=>Z) (fun U ap aI hO58 aq=>?_);refine⟨aV,?_⟩;replace aq:=aq.keeps;refine P0 2 Z<|aJ<|PW 5 Z<|aO ⟨j3-1,(by have:=bu W;omega),oF,i+1,_,ap,E.ic aI,(by have:=bu W;omega),KP.le_trans hle<|KP.bX _ _,hO58.iu,Fx hm A,Fs aY B,Z,cI<|bg (by have:=h.bG;omega),aq⟩
 refine OL 3 Z<|aT<|PX 7 Z ?_;exact aA Z Z ⟨E,o,hle,Q,(by rw[tL_<|bC W] at hm;exact hm),aq⟩
theorem MD {G:Cx} (A:Plain G) {K:KP} {k:Nat} {x:XE} {ev v:V} (h:bR K 7 (OC ev) [()] v) (he:bR K 4 (ey K k) [x] ev) (hS:cU k x<=100000) {U:D} {L:Own} (aq:J U K L):bk Tryz.prog G 262 [v] U fun v U'=>∃C l',KP.le K C/\bR C 1 fZ l' v/\(∀s,s∈l'↔s∈fU k x)/\J U' C L:=by
 have hrl:=qk k x;refine PS A Tryz.func262 Z<|Pt 8 Z<|cH Z (Qz Z Z Z) (fun _=>Z) (HZ A h he B aq) ?_;rintro v4 U ⟨K4,u,h4,aq⟩;refine cH Z (Qz Z Z Z) (fun _=>Z) (N2 A h4 B aq) ?_;rintro v5 U ⟨F,M,z,h5,E,aq⟩;refine Px 4 Z ?_;exact aA Z Z ⟨F,M,KP.le_trans u z,h5,E,aq⟩
theorem KA {G:Cx} (R:Plain G) {K:KP} {k:Nat} {x:XE} {vs:List V} (W:ey K k x vs) (hS:cU k x<=100000) {U:D} {L:Own} (aq:J U K L):bk Tryz.prog G 234 [.agg vs] U fun v U'=>∃E l',KP.le K E/\bR E 1 fZ l' v/\(∀s,s∈l'↔s∈fU k x)/\J U' E L:=by
 obtain⟨o0,n0,s0,v0,rfl,hk⟩:=W.shape;refine PS R Tryz.func234 Z<|Pt 2 Z<|kp aq Z (cz Z Z) (fun U b1 aq=>?_);refine OO 5 Z<|O Z (QC Z aq.g0 (n:=4) (vs:=[_,_,_,_]) Z) Z<|gT aq Z (bY (e:=82) (m:=4) (z:=[T,T,.str [],.ax]) (cs:=[_,_,_,_]) Y Y Y Y<|bD Z Z Z Z bJ) (fun _=>Z) (fun U b2 aq=>?_);obtain⟨X,A,F,aq⟩:=BZ aq;have h4:bR X 4 (ey X k) [x] (.slice b2 0 1 (.known 1)):=zU Z (W.mono A) F;refine O Z (bF (places:=[(0,1),(1,1),(2,1),(3,1),(4,1),(5,1),(6,1)]) (zero:=[T,.str [],.str [],T,.ax,.ax,.ax]) (cs:=[_,_,_,_,_,_,_]) Y Y Y (bD Z Z h4.leaf.1 Z bJ) Y) Z<|gT aq Z (bY (e:=304) (m:=7) (z:=[T,.str [],.str [],T,.ax,.ax,.ax]) (cs:=[_,_,_,_,_,_,_]) Y Y Y Y<|bD Z Z Z Z bJ) (fun _=>Z) (fun U b3 aq=>?_);obtain⟨K6,u,M,aq⟩:=BZ aq;have h6:bR K6 7 (OC _) [()] (.slice b3 0 1 (.known 1)):=zU Z Z M;replace h4:=h4.mono u fun _ _ h=>ey.mono u h
 refine cH Z (Qz Z Z Z) (fun _=>Z) (MD R h6 h4 hS aq) ?_;rintro v7 U ⟨K7,l7,C,h7,Q,aq⟩;refine Px 4 Z ?_;exact aA Z Z ⟨K7,l7,KP.le_trans (KP.le_trans A u) C,h7,Q,aq.pop⟩
theorem mi {α β:Type} {f:α->β} {l:List α} {i:Nat} {x:α} (h:l[i]?=some x):(l.take (i+1)).map f=(l.take i).map f++[f x]:=by rw[List.take_add_one,h];simp
theorem B0 {k:Nat}:∀{kids:List XE},(∀y∈kids,jc k y)->kids.length<=(kids.map<|cU k).sum
 | [],_=>nR_ _
 | x::l,h=>by
  have:=B0 fun y hy=>h y (mC_ _ hy)
  have h1:1<=cU k x:=by
   have:=h x (mS_ ..);cases k with
   | zero=>exact this.elim
   | succ k=>exact Hl
  simp only[List.length_cons,List.map_cons,List.sum_cons];omega
theorem Eb {op:Int} {s:List Nat} {n:Nat} (h:I op 2=true) (u:iG s=some n):js op s=114::s:=by unfold js;rw[h,u];rfl
theorem Ea {op:Int} {s:List Nat} (h:I op 2=true) (u:iG s=none):js op s= [48]:=by unfold js;rw[h,u];rfl
theorem IV {op:Int} {s:List Nat} (h:I op 2=false):js op s=s:=by unfold js;rw[h];rfl
theorem Kv {G:Cx} (hG:Plain G):∀(k:Nat) (K:KP) (x:XE) (vs:List V),ey K k x vs->jc k x->cU k x<=1000000->∀(U:D) (L:Own),J U K L->bk Tryz.prog G 233 [.agg vs,.str [114]] U fun v U'=>∃Q ws,v= .agg ws/\KP.le K Q/\ey Q k (fR k x) ws/\J U' Q L:=by
 intro k;induction k with
 | zero=>intro K x vs h;cases x;exact h.elim
 | succ k ih=>
 intro K x vs hE hF hS U L aq;obtain⟨op,num,name,kids⟩:=x;obtain⟨v,rfl,hk⟩:=hE;have hS:(kids.map<|cU k).sum+1<=1000000:=hS;have hkl:=B0 hF.2;refine PS hG Tryz.func233 Z<|Pt 2 Z<|kp aq Z (cz Z Z) (fun U b1 aq=>?_);refine kp aq Z (cP (cs:=[T,T,.str [],.ax]) Y Y) (fun U b2 aq=>?_);refine OX aq 10 [0,1,1,1,2,1] Z Z (O Z (bF (places:=[(0,1),(1,1),(2,1),(3,1)]) (zero:=[T,T,.str [],.ax]) (cs:=[_,_,_,_]) Y Y Y Z Y) Z<|kp aq Z (cP (cs:=[T,T,.str [],.ax]) Y Y) (fun U b3 aq=>?_));refine bO aq Z (QH Z Z Z aq.g0 (m:=4) Z Z (cells':=[_,_,_,_]) Z) Z (fun U aq=>?_);refine Ou aq 8 [0,2] Z Z<|ky Z (an Z) (fun ac=>?_) (fun ac=>?_)
 ·refine P3 aq 2 [2,2] Z Z<|bf Z (Qz Z Z Z) (fun _=>Z) (HX hG _ aq) (fun U aq=>?_);refine Pv 4 Z<|aE Z (fun aY=>?_) (fun aY=>?_)
  ·refine P2 aq 4 [2,2] Z Z ?_;obtain⟨nn,a6⟩:=Fy aY;refine O Z (az Z Z<|Lt a6) Z<|O Z (QA 2 Z) Z<|bO aq Z (QH Z Z Z aq.g0 (m:=1) Z Z (cells':=[_,_,_,_]) Z) Z (fun U aq=>?_);refine On 5 Z ?_;obtain⟨nn,a6⟩:=Fy aY;replace aq:J U K ([]++(b3,.row [.int .i64 op,.int .i64 num,.str<|js op name,.ax] 82 false)::(b2,.row [T,T,.str [],.ax] 82 false)::(b1,.row [.int .i64 op,.int .i64 num,.str name,v] 82 false)::L):=by rw[Eb ac a6];exact aq
   refine OM 4 Z (bp ([6]++rg 32 19) (fun j t U=>∃(i:Nat) (u:V) (M:Own) (Q:KP),j+i=kids.length/\KP.le K Q/\cQ 4 82 (ey Q k) ((kids.take i).map<|fR k) u M/\t.get 6=some (.int .i64 (.ofNat i))/\J U Q (M++(b3,.row [.int .i64 op,.int .i64 num,.str<|js op name,u] 82 false)::(b2,.row [T,T,.str [],.ax] 82 false)::(b1,.row [.int .i64 op,.int .i64 num,.str name,v] 82 false)::L)) (kids.length) ⟨0,.ax,[],K,Z,KP.le_refl _,cQ.nil,Z,aq⟩ ?_);clear aq;intro j7 t U ar hI;obtain⟨i,u,M,Q,hj,hle,W,am,aq⟩:=hI;obtain⟨oo,rfl⟩:=ar.q1 am Z;have hk1:=hk.mono hle (fun _ _ h=>ey.mono hle h);refine OU aq 5 [3] Z Z<|O Z (QB Z aq.aQ.pop.pop.g0 Z) Z<|O Z (QD hk1 Z Z Z (e:=82) Z) Z<|Pv 3 Z<|aE Z (fun E=>?_) (fun E=>?_)
   ·refine Ok 4 Z (aS (l:=[(0,[]),(1,[]),(2,[]),(3,[]),(4,[]),(5,[]),(6,[]),(7,[]),(8,[1]),(9,[]),(10,[]),(11,[]),(12,[])]) Y Y<|al Z Z (QA 3 Z) Z<|al Z Z (QB Z aq.aQ.g0 Z) Z<|al Z Z (QA 3 Z) Z<|al Z Z (QB Z aq.aQ.pop.pop.g0 Z) Z<|wQ 1 Z ?_);obtain⟨a7,A,a0⟩:=cL E;refine Qv (e:=82) (m:=4) hk1 A Z Z Z Z Z (fun a8 a1 aa a2 F=>?_);obtain⟨a9,bb,be,bi,rfl,a3⟩:=F.shape;refine al Z Z (QG aq aa Z Z) Z<|wQ 1 Z<|jg Z Z (Qz Z Z Z) (fun _=>Z) (ih _ _ _ F (hF.2 _<|gB_ A) (Nat.le_trans (ma (f:=cU k) A) B) _ _ aq) ?_;rintro _ U ⟨ab,a4,rfl,C,hE47,aq⟩;refine⟨(bB (bN Z Z Z Z Z (QB Z aq.aQ.g0 Z) (W.iu (K:=fun _ _=>False)).dX) aV),?_⟩;obtain⟨bl,bm,bo,bs,rfl,a5⟩:=hE47.shape;have hO':=W.yX (fun _ _ h=>ey.mono C h);refine j1 aq Z Z (bY (e:=82) (m:=4) (z:=[T,T,.str [],.ax]) (cs:=[_,_,_,_]) Y Y Y Y<|bD Z Z Z Z bJ) (fun _=>Z) (fun U b4 aq=>?_);replace aq:=aq.pull (.there .here);replace aq:=aq.pull (.cM<|ep.here (X:=[_]));refine mN (R:=ey ab k) (m:=4) (e:=82) hO' aq (eU (m:=4) Z hE47) ey.leaf (by rw[lM_,lT_];show _+1<=_;omega) Z Z Z Z Z Z Z Z (fun _=>Z) (fun U ao ap hO49 aq=>?_);refine⟨aV,?_⟩;refine al Z Z (QA 3 Z) Z<|gD aq (.cM .here) Z Z (aL Z Z hO49.leaf.1 aq.aQ.g0 (m:=1) Y Z (lb Z) (ah hO49.leaf.2 aC) (cells':=[_,_,_,_]) Z) Z (fun U aq=>?_);refine⟨aV,?_⟩;refine ba<|aJ<|PW 5 Z<|aO ⟨j7-1,(by have:=bu E;omega),oF,i+1,ao,ap,ab,B,KP.le_trans hle C,(by rw[mi A];exact hO49),cI<|bg (by have:=hk.bG;omega),aq⟩
   refine OL 3 Z<|aT<|Pt 2 Z<|O Z (QC Z aq.aQ.g0 (n:=4) (vs:=[_,_,_,_]) Z) Z<|cC aq (.cM (.there .here)) Z (QH Z Z Z aq.aQ.pop.g0 (m:=4) Z (ah Z<|ah Z<|ah Z<|ah W.leaf.2 aC) (cells':=[_,_,_,_]) Z) Z (fun U aq=>?_);refine Px 3 Z ?_;exact eL Z Z aq.aQ.pop.g0 (m:=4) Y Z ⟨Q.ic M,_,Z,KP.le_trans hle<|KP.bX _ _,⟨u,Z,by rw[tL_<|bC E] at W;exact W.iu.mono (KP.le_refl _) fun _ _ h=>ey.mono (KP.bX _ _) h⟩,aq.keeps.pop.pop.pop⟩
  refine PA aq 5 [0,2] Z Z<|Pv 2 Z<|aE Z (fun aI=>?_) (fun aI=>?_)
  ·refine P2 aq 2 [2] Z Z<|bO aq Z (QH Z Z Z aq.g0 (m:=1) Z Z (cells':=[_,_,_,_]) Z) Z (fun U aq=>?_);refine On 5 Z ?_;replace aq:J U K ([]++(b3,.row [.int .i64 op,.int .i64 num,.str<|js op name,.ax] 82 false)::(b2,.row [T,T,.str [],.ax] 82 false)::(b1,.row [.int .i64 op,.int .i64 num,.str name,v] 82 false)::L):=by rw[Ea ac<|Le aY];exact aq
   refine OM 4 Z (bp ([6]++rg 32 19) (fun j t U=>∃(i:Nat) (u:V) (M:Own) (Q:KP),j+i=kids.length/\KP.le K Q/\cQ 4 82 (ey Q k) ((kids.take i).map<|fR k) u M/\t.get 6=some (.int .i64 (.ofNat i))/\J U Q (M++(b3,.row [.int .i64 op,.int .i64 num,.str<|js op name,u] 82 false)::(b2,.row [T,T,.str [],.ax] 82 false)::(b1,.row [.int .i64 op,.int .i64 num,.str name,v] 82 false)::L)) (kids.length) ⟨0,.ax,[],K,Z,KP.le_refl _,cQ.nil,Z,aq⟩ ?_);clear aq;intro j7 t U ar hI;obtain⟨i,u,M,Q,hj,hle,W,am,aq⟩:=hI;obtain⟨oo,rfl⟩:=ar.q1 am Z;have hk1:=hk.mono hle (fun _ _ h=>ey.mono hle h);refine OU aq 5 [3] Z Z<|O Z (QB Z aq.aQ.pop.pop.g0 Z) Z<|O Z (QD hk1 Z Z Z (e:=82) Z) Z<|Pv 3 Z<|aE Z (fun E=>?_) (fun E=>?_)
   ·refine Ok 4 Z (aS (l:=[(0,[]),(1,[]),(2,[]),(3,[]),(4,[]),(5,[]),(6,[]),(7,[]),(8,[1]),(9,[]),(10,[]),(11,[]),(12,[])]) Y Y<|al Z Z (QA 3 Z) Z<|al Z Z (QB Z aq.aQ.g0 Z) Z<|al Z Z (QA 3 Z) Z<|al Z Z (QB Z aq.aQ.pop.pop.g0 Z) Z<|wQ 1 Z ?_);obtain⟨a7,A,a0⟩:=cL E;refine Qv (e:=82) (m:=4) hk1 A Z Z Z Z Z (fun a8 a1 aa a2 F=>?_);obtain⟨a9,bb,be,bi,rfl,a3⟩:=F.shape;refine al Z Z (QG aq aa Z Z) Z<|wQ 1 Z<|jg Z Z (Qz Z Z Z) (fun _=>Z) (ih _ _ _ F (hF.2 _<|gB_ A) (Nat.le_trans (ma (f:=cU k) A) B) _ _ aq) ?_;rintro _ U ⟨ab,a4,rfl,C,hE47,aq⟩;refine⟨(bB (bN Z Z Z Z Z (QB Z aq.aQ.g0 Z) (W.iu (K:=fun _ _=>False)).dX) aV),?_⟩;obtain⟨bl,bm,bo,bs,rfl,a5⟩:=hE47.shape;have hO':=W.yX (fun _ _ h=>ey.mono C h);refine j1 aq Z Z (bY (e:=82) (m:=4) (z:=[T,T,.str [],.ax]) (cs:=[_,_,_,_]) Y Y Y Y<|bD Z Z Z Z bJ) (fun _=>Z) (fun U b4 aq=>?_);replace aq:=aq.pull (.there .here);replace aq:=aq.pull (.cM<|ep.here (X:=[_]));refine mN (R:=ey ab k) (m:=4) (e:=82) hO' aq (eU (m:=4) Z hE47) ey.leaf (by rw[lM_,lT_];show _+1<=_;omega) Z Z Z Z Z Z Z Z (fun _=>Z) (fun U ao ap hO49 aq=>?_);refine⟨aV,?_⟩;refine al Z Z (QA 3 Z) Z<|gD aq (.cM .here) Z Z (aL Z Z hO49.leaf.1 aq.aQ.g0 (m:=1) Y Z (lb Z) (ah hO49.leaf.2 aC) (cells':=[_,_,_,_]) Z) Z (fun U aq=>?_);refine⟨aV,?_⟩;refine ba<|aJ<|PW 5 Z<|aO ⟨j7-1,(by have:=bu E;omega),oF,i+1,ao,ap,ab,B,KP.le_trans hle C,(by rw[mi A];exact hO49),cI<|bg (by have:=hk.bG;omega),aq⟩
   refine OL 3 Z<|aT<|Pt 2 Z<|O Z (QC Z aq.aQ.g0 (n:=4) (vs:=[_,_,_,_]) Z) Z<|cC aq (.cM (.there .here)) Z (QH Z Z Z aq.aQ.pop.g0 (m:=4) Z (ah Z<|ah Z<|ah Z<|ah W.leaf.2 aC) (cells':=[_,_,_,_]) Z) Z (fun U aq=>?_);refine Px 3 Z ?_;exact eL Z Z aq.aQ.pop.g0 (m:=4) Y Z ⟨Q.ic M,_,Z,KP.le_trans hle<|KP.bX _ _,⟨u,Z,by rw[tL_<|bC E] at W;exact W.iu.mono (KP.le_refl _) fun _ _ h=>ey.mono (KP.bX _ _) h⟩,aq.keeps.pop.pop.pop⟩
  exact absurd aI (by rw[ac];decide)
 refine PC aq 15 [0,2] Z Z<|aE Z (fun aI=>?_) (fun aI=>?_)
 ·exact absurd aI (by rw[ac];decide)
 refine Ol 5 Z ?_;replace aq:J U K ([]++(b3,.row [.int .i64 op,.int .i64 num,.str<|js op name,.ax] 82 false)::(b2,.row [T,T,.str [],.ax] 82 false)::(b1,.row [.int .i64 op,.int .i64 num,.str name,v] 82 false)::L):=by rw[IV ac];exact aq
 refine OM 4 Z (bp ([6]++rg 32 19) (fun j t U=>∃(i:Nat) (u:V) (M:Own) (Q:KP),j+i=kids.length/\KP.le K Q/\cQ 4 82 (ey Q k) ((kids.take i).map<|fR k) u M/\t.get 6=some (.int .i64 (.ofNat i))/\J U Q (M++(b3,.row [.int .i64 op,.int .i64 num,.str<|js op name,u] 82 false)::(b2,.row [T,T,.str [],.ax] 82 false)::(b1,.row [.int .i64 op,.int .i64 num,.str name,v] 82 false)::L)) (kids.length) ⟨0,.ax,[],K,Z,KP.le_refl _,cQ.nil,Z,aq⟩ ?_);clear aq;intro j7 t U ar hI;obtain⟨i,u,M,Q,hj,hle,W,am,aq⟩:=hI;obtain⟨oo,rfl⟩:=ar.q1 am Z;have hk1:=hk.mono hle (fun _ _ h=>ey.mono hle h);refine OU aq 5 [3] Z Z<|O Z (QB Z aq.aQ.pop.pop.g0 Z) Z<|O Z (QD hk1 Z Z Z (e:=82) Z) Z<|Pv 3 Z<|aE Z (fun E=>?_) (fun E=>?_)
 ·refine Ok 4 Z (aS (l:=[(0,[]),(1,[]),(2,[]),(3,[]),(4,[]),(5,[]),(6,[]),(7,[]),(8,[1]),(9,[]),(10,[]),(11,[]),(12,[])]) Y Y<|al Z Z (QA 3 Z) Z<|al Z Z (QB Z aq.aQ.g0 Z) Z<|al Z Z (QA 3 Z) Z<|al Z Z (QB Z aq.aQ.pop.pop.g0 Z) Z<|wQ 1 Z ?_);obtain⟨a7,A,a0⟩:=cL E;refine Qv (e:=82) (m:=4) hk1 A Z Z Z Z Z (fun a8 a1 aa a2 F=>?_);obtain⟨a9,bb,be,bi,rfl,a3⟩:=F.shape;refine al Z Z (QG aq aa Z Z) Z<|wQ 1 Z<|jg Z Z (Qz Z Z Z) (fun _=>Z) (ih _ _ _ F (hF.2 _<|gB_ A) (Nat.le_trans (ma (f:=cU k) A) B) _ _ aq) ?_;rintro _ U ⟨ab,a4,rfl,C,hE47,aq⟩;refine⟨(bB (bN Z Z Z Z Z (QB Z aq.aQ.g0 Z) (W.iu (K:=fun _ _=>False)).dX) aV),?_⟩;obtain⟨bl,bm,bo,bs,rfl,a5⟩:=hE47.shape;have hO':=W.yX (fun _ _ h=>ey.mono C h);refine j1 aq Z Z (bY (e:=82) (m:=4) (z:=[T,T,.str [],.ax]) (cs:=[_,_,_,_]) Y Y Y Y<|bD Z Z Z Z bJ) (fun _=>Z) (fun U b4 aq=>?_);replace aq:=aq.pull (.there .here);replace aq:=aq.pull (.cM<|ep.here (X:=[_]));refine mN (R:=ey ab k) (m:=4) (e:=82) hO' aq (eU (m:=4) Z hE47) ey.leaf (by rw[lM_,lT_];show _+1<=_;omega) Z Z Z Z Z Z Z Z (fun _=>Z) (fun U ao ap hO49 aq=>?_);refine⟨aV,?_⟩;refine al Z Z (QA 3 Z) Z<|gD aq (.cM .here) Z Z (aL Z Z hO49.leaf.1 aq.aQ.g0 (m:=1) Y Z (lb Z) (ah hO49.leaf.2 aC) (cells':=[_,_,_,_]) Z) Z (fun U aq=>?_);refine⟨aV,?_⟩;refine ba<|aJ<|PW 5 Z<|aO ⟨j7-1,(by have:=bu E;omega),oF,i+1,ao,ap,ab,B,KP.le_trans hle C,(by rw[mi A];exact hO49),cI<|bg (by have:=hk.bG;omega),aq⟩
 refine OL 3 Z<|aT<|Pt 2 Z<|O Z (QC Z aq.aQ.g0 (n:=4) (vs:=[_,_,_,_]) Z) Z<|cC aq (.cM (.there .here)) Z (QH Z Z Z aq.aQ.pop.g0 (m:=4) Z (ah Z<|ah Z<|ah Z<|ah W.leaf.2 aC) (cells':=[_,_,_,_]) Z) Z (fun U aq=>?_);refine Px 3 Z ?_;exact eL Z Z aq.aQ.pop.g0 (m:=4) Y Z ⟨Q.ic M,_,Z,KP.le_trans hle<|KP.bX _ _,⟨u,Z,by rw[tL_<|bC E] at W;exact W.iu.mono (KP.le_refl _) fun _ _ h=>ey.mono (KP.bX _ _) h⟩,aq.keeps.pop.pop.pop⟩
theorem GQ {op:Int} {s:List Nat} (h:s.length<=9223372036854775807):(js op s).length<=9223372036854775807:=by
 unfold js;cases I op 2 with
 | false=>exact h
 | true=>
  show(match iG s with | some _=>114::s | none=>[48]).length<=_;cases u:iG s with
  | none=>show 1<=_;omega
  | some n=>
   obtain⟨_,h4,_⟩:=xp u;show s.length+1<=_;omega
theorem uk:∀{k:Nat} {x:XE},jc k x->jc k (fR k x)
 | 0,_,h=>h.elim
 | k+1,.mk op num name kids,h=>⟨GQ h.1,fun y hy=>by
  obtain⟨x,hx,rfl⟩:=List.mem_map.1 hy;exact uk<|h.2 x hx⟩
theorem EU {α:Type} {p:α->Bool} {l l':List α} (hm:∀s,s∈l'↔s∈l):l'.all p=l.all p:=by
 rw[Bool.eq_iff_iff,aE_,aE_];exact⟨fun h x hx=>h x ((hm x).2 hx),fun h x hx=>h x ((hm x).1 hx)⟩
theorem H4 {G:Cx} (hG:Plain G) {K:KP} {k:Nat} {c:XC} {cv:V} (hc:bR K 6 (iI K k) c.ins cv) {x:XI} {vs:List V} (hI:iI K k x vs) (hF:∀e∈x.exprs,jc k e) (hS:∀e∈x.exprs,cU k e<=100000) {U:D} {L:Own} (aq:J U K L):bk Tryz.prog G 170 [.agg [.int .i64 c.aY,cv],.agg vs] U fun v U'=>v= .bool (gK c.aY (.ofNat c.ins.length) k x)/\J U' K L:=by
 obtain⟨w,rfl,hk⟩:=hI;refine PS hG Tryz.func170 Z<|Pt 2 Z<|kp aq Z (cz Z Z) (fun U b1 aq=>?_);refine kp aq Z (cz Z Z) (fun U b2 aq=>?_);refine Pv 3 Z ?_;obtain⟨LC1,aq,hLC1⟩:=aq.named;refine jv ([5]++rg 10 8) (fun t U=>∃(q:Bool),q=sX x.kind/\t.get 5=some (.bool q)/\J U K LC1) ?_ ?_
 ·subst hLC1;refine P2 aq 3 [0,0] Z Z<|bf Z (Qz Z Z Z) (fun _=>Z) (ll hG _ aq) (fun U aq=>?_);refine ky Z (an Z) (fun bo=>?_) (fun bo=>?_)
  ·refine PY 6 Z ?_;exact⟨Z,oF,_,(by unfold sX;simp only[bo,ct,cf]<;>rfl),Z,aq⟩
  refine P3 aq 5 [0,0] Z Z<|af ?_;exact⟨Z,oF,_,(by unfold sX;simp only[bo,ct,cf]<;>rfl),Z,aq⟩
 clear aq;intro t U ar hI;obtain⟨q,hq,b8,aq⟩:=hI;subst hLC1;obtain⟨oo,rfl⟩:=ar.q1 b8 Z;subst hq;obtain⟨LC2,aq,hLC2⟩:=aq.named;refine jv ([6]++rg 18 8) (fun t U=>∃(q:Bool),q=Lv x.kind/\t.get 6=some (.bool q)/\J U K LC2) ?_ ?_
 ·subst hLC2;refine P2 aq 4 [0,0] Z Z<|ky Z (an Z) (fun bs=>?_) (fun bs=>?_)
  ·refine PY 6 Z ?_;exact⟨Z,oF,_,(by unfold Lv;simp only[bs,ct,cf]<;>rfl),Z,aq⟩
  refine P3 aq 5 [0,0] Z Z<|af ?_;exact⟨Z,oF,_,(by unfold Lv;simp only[bs,ct,cf]<;>rfl),Z,aq⟩
 clear aq;intro t U ar hI;obtain⟨q,hq,b9,aq⟩:=hI;subst hLC2;obtain⟨oo,rfl⟩:=ar.q1 b9 Z;subst hq;refine ak ?_;obtain⟨LC3,aq,hLC3⟩:=aq.named;refine jv (rg 26 28) (fun t U=>∃(q:Bool),q=pq x/\t.get 53=some (.bool q)/\J U K LC3) ?_ ?_
 ·subst hLC3;refine aS (l:=[(0,[]),(1,[]),(3,[]),(4,[]),(5,[]),(2,[4]),(6,[]),(7,[]),(8,[]),(9,[]),(10,[]),(11,[]),(12,[]),(13,[]),(14,[]),(15,[]),(16,[]),(17,[]),(18,[]),(19,[]),(20,[]),(21,[]),(22,[]),(23,[]),(24,[]),(25,[]),(26,[]),(27,[])]) Y Y<|P4 aq 4 [0,0,5,0] Z Z<|al Z Z (QD hk Z Z Z (e:=82) Z) Z<|cA Z Z (Qz Z Z Z) (fun _=>Z) (Ky hG _ aq) (fun U aq=>?_);refine⟨(bB (bN Z Z Z Z Z (QB Z aq.g0 Z) hk.dX) aV),?_⟩;refine wQ 1 Z<|dZ Z Z (an Z) (fun _=>Z) (fun aa=>?_) (fun aa=>?_)
  ·refine P0 21 Z ?_;exact⟨Z,oF,_,(by unfold pq AO aX;simp only[aa,ct,cf]<;>rfl),Z,aq⟩
  refine P4 aq 4 [3,0] Z Z<|dZ Z Z (an Z) (fun _=>Z) (fun ao=>?_) (fun ao=>?_)
  ·refine P4 aq 6 [3,0] Z Z<|dZ Z Z (an Z) (fun _=>Z) (fun W=>?_) (fun W=>?_)
   ·refine P0 9 Z ?_;exact⟨Z,oF,_,(by unfold pq AO aX;simp only[aa,ao,W,ct,cf]<;>rfl),Z,aq⟩
   refine wQ 1 Z<|al Z Z (cV Z) Z<|dZ Z Z (an Z) (fun _=>Z) (fun ap=>?_) (fun ap=>?_)
   ·refine P4 aq 5 [3,0] Z Z<|ba ?_;exact⟨Z,oF,_,(by unfold pq AO aX;simp only[aa,ao,W,show(bif sX x.kind then false else true)=true from ap,ct,cf]<;>rfl),Z,aq⟩
   refine P0 6 Z ?_;exact⟨Z,oF,_,(by unfold pq AO aX;simp only[aa,ao,W,show(bif sX x.kind then false else true)=false from ap,ct,cf]<;>rfl),Z,aq⟩
  refine P1 6 Z<|dZ Z Z (an Z) (fun _=>Z) (fun W=>?_) (fun W=>?_)
  ·refine P0 9 Z ?_;exact⟨Z,oF,_,(by unfold pq AO aX;simp only[aa,ao,show(bif sX x.kind then true else false)=true from W,ct,cf]<;>rfl),Z,aq⟩
  refine wQ 1 Z<|al Z Z (cV Z) Z<|dZ Z Z (an Z) (fun _=>Z) (fun ap=>?_) (fun ap=>?_)
  ·refine P4 aq 5 [3,0] Z Z<|ba ?_;exact⟨Z,oF,_,(by unfold pq AO aX;simp only[aa,ao,show(bif sX x.kind then true else false)=false from W,show(bif sX x.kind then false else true)=true from ap,ct,cf]<;>rfl),Z,aq⟩
  refine P0 6 Z ?_;exact⟨Z,oF,_,(by unfold pq AO aX;simp only[aa,ao,show(bif sX x.kind then true else false)=false from W,show(bif sX x.kind then false else true)=false from ap,ct,cf]<;>rfl),Z,aq⟩
 clear aq;intro t U ar hI;obtain⟨q,hq,b5,aq⟩:=hI;subst hLC3;obtain⟨oo,rfl⟩:=ar.q1 b5 Z;subst hq;refine aE Z (fun aI=>?_) (fun aI=>?_)
 ·refine Pu 7 Z ?_;exact aA Z Z ⟨cB (by unfold gK;rw[aI];rfl),aq.pop.pop⟩
 refine OJ 3 Z ?_;obtain⟨LC5,aq,hLC5⟩:=aq.named;refine jv (rg 54 52) (fun t U=>∃(q:Bool),q=m7 c.aY x/\t.get 105=some (.bool q)/\J U K LC5) ?_ ?_
 ·subst hLC5;refine P2 aq 3 [0,0] Z Z<|bf Z (Qz Z Z Z) (fun _=>Z) (Dt hG _ aq) (fun U aq=>?_);refine ky Z (an Z) (fun A=>?_) (fun A=>?_)
  ·refine P3 aq 3 [1,0] Z Z<|ky Z (an Z) (fun a0=>?_) (fun a0=>?_)
   ·refine PY 45 Z ?_;exact⟨Z,oF,_,(by unfold m7 aX;simp only[A,a0,ct,cf]<;>rfl),Z,aq⟩
   refine P3 aq 7 [1,0,0,1] Z Z<|ky Z (an Z) (fun a6=>?_) (fun a6=>?_)
   ·refine PY 37 Z ?_;exact⟨Z,oF,_,(by unfold m7 aX;simp only[A,a0,a6,ct,cf]<;>rfl),Z,aq⟩
   refine P3 aq 2 [0,0] Z Z<|bf Z (Qz Z Z Z) (fun _=>Z) (Dt hG _ aq) (fun U aq=>?_);refine O Z (cV Z) Z<|ky Z (an Z) (fun C=>?_) (fun C=>?_)
   ·exact absurd C (by rw[A];decide)
   refine P3 aq 8 [0,0] Z Z<|bf Z (Qz Z Z Z) (fun _=>Z) (ll hG _ aq) (fun U aq=>?_);refine ky Z (an Z) (fun z=>?_) (fun z=>?_)
   ·refine P3 aq 3 [2,0] Z Z<|ky Z (an Z) (fun X=>?_) (fun X=>?_)
    ·refine PY 18 Z ?_;exact⟨Z,oF,_,(by unfold m7 aX;simp only[A,a0,a6,show(bif lz x.kind then false else true)=false from C,z,X,ct,cf]<;>rfl),Z,aq⟩
    refine P3 aq 6 [2,0] Z Z<|ky Z (an Z) (fun a1=>?_) (fun a1=>?_)
    ·refine PY 11 Z ?_;exact⟨Z,oF,_,(by unfold m7 aX;simp only[A,a0,a6,show(bif lz x.kind then false else true)=false from C,z,X,a1,ct,cf]<;>rfl),Z,aq⟩
    refine P3 aq 2 [0,0] Z Z<|bf Z (Qz Z Z Z) (fun _=>Z) (ll hG _ aq) (fun U aq=>?_);refine O Z (cV Z) Z<|ky Z (an Z) (fun u=>?_) (fun u=>?_)
    ·exact absurd u (by rw[z];decide)
    refine PY 6 Z ?_;exact⟨Z,oF,_,(by unfold m7 aX;simp only[A,a0,a6,show(bif lz x.kind then false else true)=false from C,z,X,a1,show(bif rk x.kind then false else true)=false from u,ct,cf]<;>rfl),Z,aq⟩
   refine P3 aq 13 [0,0] Z Z<|bf Z (Qz Z Z Z) (fun _=>Z) (ll hG _ aq) (fun U aq=>?_);refine O Z (cV Z) Z<|ky Z (an Z) (fun u=>?_) (fun u=>?_)
   ·refine P3 aq 5 [2,0] Z Z<|af ?_;exact⟨Z,oF,_,(by unfold m7 aX;simp only[A,a0,a6,show(bif lz x.kind then false else true)=false from C,z,show(bif rk x.kind then false else true)=true from u,ct,cf]<;>rfl),Z,aq⟩
   exact absurd u (by rw[z];decide)
  refine P3 aq 14 [0,0] Z Z<|bf Z (Qz Z Z Z) (fun _=>Z) (Dt hG _ aq) (fun U aq=>?_);refine O Z (cV Z) Z<|ky Z (an Z) (fun C=>?_) (fun C=>?_)
  ·refine P3 aq 5 [1,0] Z Z<|ky Z (an Z) (fun a7=>?_) (fun a7=>?_)
   ·refine PY 26 Z ?_;exact⟨Z,oF,_,(by unfold m7 aX;simp only[A,show(bif lz x.kind then false else true)=true from C,a7,ct,cf]<;>rfl),Z,aq⟩
   refine P3 aq 2 [0,0] Z Z<|bf Z (Qz Z Z Z) (fun _=>Z) (ll hG _ aq) (fun U aq=>?_);refine ky Z (an Z) (fun z=>?_) (fun z=>?_)
   ·refine P3 aq 3 [2,0] Z Z<|ky Z (an Z) (fun X=>?_) (fun X=>?_)
    ·refine PY 18 Z ?_;exact⟨Z,oF,_,(by unfold m7 aX;simp only[A,show(bif lz x.kind then false else true)=true from C,a7,z,X,ct,cf]<;>rfl),Z,aq⟩
    refine P3 aq 6 [2,0] Z Z<|ky Z (an Z) (fun a1=>?_) (fun a1=>?_)
    ·refine PY 11 Z ?_;exact⟨Z,oF,_,(by unfold m7 aX;simp only[A,show(bif lz x.kind then false else true)=true from C,a7,z,X,a1,ct,cf]<;>rfl),Z,aq⟩
    refine P3 aq 2 [0,0] Z Z<|bf Z (Qz Z Z Z) (fun _=>Z) (ll hG _ aq) (fun U aq=>?_);refine O Z (cV Z) Z<|ky Z (an Z) (fun u=>?_) (fun u=>?_)
    ·exact absurd u (by rw[z];decide)
    refine PY 6 Z ?_;exact⟨Z,oF,_,(by unfold m7 aX;simp only[A,show(bif lz x.kind then false else true)=true from C,a7,z,X,a1,show(bif rk x.kind then false else true)=false from u,ct,cf]<;>rfl),Z,aq⟩
   refine P3 aq 13 [0,0] Z Z<|bf Z (Qz Z Z Z) (fun _=>Z) (ll hG _ aq) (fun U aq=>?_);refine O Z (cV Z) Z<|ky Z (an Z) (fun u=>?_) (fun u=>?_)
   ·refine P3 aq 5 [2,0] Z Z<|af ?_;exact⟨Z,oF,_,(by unfold m7 aX;simp only[A,show(bif lz x.kind then false else true)=true from C,a7,z,show(bif rk x.kind then false else true)=true from u,ct,cf]<;>rfl),Z,aq⟩
   exact absurd u (by rw[z];decide)
  exact absurd C (by rw[A];decide)
 clear aq;intro t U ar hI;obtain⟨q,hq,bt,aq⟩:=hI;subst hLC5;obtain⟨oo,rfl⟩:=ar.q1 bt Z;subst hq;refine aE Z (fun R=>?_) (fun R=>?_)
 ·refine Pu 7 Z ?_;exact aA Z Z ⟨cB (by unfold gK;rw[aI,R];rfl),aq.pop.pop⟩
 refine OJ 3 Z ?_;obtain⟨LC7,aq,hLC7⟩:=aq.named;refine jv (rg 106 23) (fun t U=>∃(q:Bool),q=vN (.ofNat c.ins.length) x/\t.get 128=some (.bool q)/\J U K LC7) ?_ ?_
 ·subst hLC7;refine ai Z<|vQ 1 Z<|ky Z (an Z) (fun M=>?_) (fun M=>?_)
  ·refine P3 aq 3 [4,0] Z Z<|ky Z (an Z) (fun a3=>?_) (fun a3=>?_)
   ·refine PY 18 Z ?_;exact⟨Z,oF,_,(by unfold vN aX;simp only[M,a3,ct,cf]<;>rfl),Z,aq⟩
   refine P3 aq 4 [4,0,1,1] Z Z<|O Z (QD hc Z Z Z (e:=79) Z) Z<|PZ 3 Z<|ky Z (an Z) (fun a8=>?_) (fun a8=>?_)
   ·refine PY 9 Z ?_;exact⟨Z,oF,_,(by unfold vN aX;simp only[M,a3,a8,ct,cf]<;>rfl),Z,aq⟩
   refine vQ 1 Z<|O Z (cV Z) Z<|ky Z (an Z) (fun Q=>?_) (fun Q=>?_)
   ·exact absurd Q (by rw[M];decide)
   refine PY 6 Z ?_;exact⟨Z,oF,_,(by unfold vN aX;simp only[M,a3,a8,show(bif Lv x.kind then false else true)=false from Q,ct,cf]<;>rfl),Z,aq⟩
  refine PZ 14 Z<|O Z (cV Z) Z<|ky Z (an Z) (fun Q=>?_) (fun Q=>?_)
  ·refine P3 aq 5 [4,0] Z Z<|af ?_;exact⟨Z,oF,_,(by unfold vN aX;simp only[M,show(bif Lv x.kind then false else true)=true from Q,ct,cf]<;>rfl),Z,aq⟩
  exact absurd Q (by rw[M];decide)
 clear aq;intro t U ar hI;obtain⟨q,hq,bv,aq⟩:=hI;subst hLC7;obtain⟨oo,rfl⟩:=ar.q1 bv Z;subst hq;refine aE Z (fun ab=>?_) (fun ab=>?_)
 ·refine Pu 7 Z ?_;exact aA Z Z ⟨cB (by unfold gK;rw[aI,R,ab];rfl),aq.pop.pop⟩
 refine Ok 9 Z ?_;obtain⟨LL1,aq,hLL1⟩:=aq.named;refine bp ([4,7,8,9]++rg 129 35) (fun j t U=>∃(i:Nat),j+i=x.exprs.length/\(x.exprs.take i).all (mM c.aY k)=true/\t.get 7=some (.int .i64 (.ofNat i))/\J U K LL1) (x.exprs.length) ⟨0,Z,Z,Z,aq⟩ ?_;clear aq;intro ca t U ar hI;obtain⟨i,hj,ha,cb,aq⟩:=hI;subst hLL1;obtain⟨oo,rfl⟩:=ar.q1 cb Z;refine OU aq 6 [5,0] Z Z<|O Z (QD hk Z Z Z (e:=82) Z) Z<|Pv 3 Z<|aE Z (fun ac=>?_) (fun ac=>?_)
 ·refine NO 5 Z<|PA aq 5 [5,0] Z Z ?_;obtain⟨c1,F,cc⟩:=cL ac;refine Qu (e:=82) (m:=4) hk F Z Z Z Z (fun c2 ce bw cg a9=>?_);obtain⟨c3,c4,c5,c7,rfl,ch⟩:=a9.shape;refine O Z (QG aq bw Z Z) Z ?_;have hmem:=gB_ F;refine cH Z (Qz Z Z Z) (fun _=>Z) (Kv hG _ _ _ _ a9 (hF _ hmem) (Nat.le_trans (hS _ hmem) B) _ _ aq) ?_;rintro _ U ⟨c8,ci,rfl,E,hE141,aq⟩;refine bf Z (Qz Z Z Z) (fun _=>Z) (uD hG hE141 (uk<|hF _ hmem) (by rw[qu];exact Nat.le_trans (hS _ hmem) B) aq) (fun U aq=>?_);refine Pv 3 Z<|aE Z (fun a4=>?_) (fun a4=>?_)
  ·refine PX 6 Z<|aw<|aF<|aw<|bz<|aF<|aw (?_);exact aA Z Z ⟨cB (by unfold gK;rw[aI,R,ab];show _=x.exprs.all (mM c.aY k);rw[gG F (by unfold mM;rw[bT a4];rfl)]),(aq.weaken E).pop.pop⟩
  refine OK 4 Z ?_;have hk2:=hk.mono E (fun _ _ h=>ey.mono E h);refine P3 aq 3 [5,0] Z Z<|Qu (e:=82) (m:=4) hk2 F Z Z Z Z (fun c9 ck b0 cl bb=>?_);obtain⟨dd,dl,dm,dr,rfl,cn⟩:=bb.shape;refine O Z (QG aq b0 Z Z) Z<|cH Z (Qz Z Z Z) (fun _=>Z) (KA hG bb (hS _ hmem) aq) ?_;rintro ds U ⟨b6,be,a5,bi,bl,aq⟩;refine OM 9 Z ?_;obtain⟨LL2,aq,hLL2⟩:=aq.named;refine bp ([4,9]++rg 150 14) (fun j t U=>∃(i2:Nat),j+i2=be.length/\(be.take i2).all (fun s=>bU (jQ s) c.aY)=true/\t.get 9=some (.int .i64 (.ofNat i2))/\J U b6 LL2) (be.length) ⟨0,Z,Z,Z,aq⟩ ?_;clear aq;intro co t U ar hI;obtain⟨i2,d1,b7,cp,aq⟩:=hI;subst hLL2;obtain⟨oo,rfl⟩:=ar.q1 cp Z;refine OI 5 Z<|O Z (QD bi Z Z Z (e:=9) Z) Z<|Pv 3 Z<|aE Z (fun am=>?_) (fun am=>?_)
  ·refine NO 5 Z (aS (l:=[(0,[]),(1,[]),(2,[]),(3,[]),(5,[]),(6,[]),(4,[6]),(7,[])]) Y Y<|P1 2 Z ?_);obtain⟨dx,a2,cs⟩:=cL am;refine Qv (e:=9) (m:=1) bi a2 Z Z Z Z Z (fun d0 cx b3 c0 b4=>?_);obtain rfl:=b4;refine al Z Z (QF aq b3 Z Z) Z<|P4 aq 2 [0,1] Z Z<|cA Z Z (Qz Z Z Z) (fun _=>Z) (HX hG _ aq) (fun U aq=>?_);refine⟨(bB (bN Z Z Z Z Z (QB Z aq.g1 Z)<|jk _ _) aV),?_⟩;refine Py 3 Z<|aE Z (fun bm=>?_) (fun bm=>?_)
   ·refine PX 6 Z<|aF<|aw<|bz<|aF<|aF<|aw<|bz<|aF<|aw (?_);exact aA Z Z ⟨cB (by unfold gK;rw[aI,R,ab];show _=x.exprs.all (mM c.aY k);rw[gG F (by unfold mM;rw[bj a4,<-EU bl];exact gG a2<|bT bm)]),((aq.weaken a5).weaken E).pop.pop⟩
   refine aG<|aJ<|PW 5 Z<|aO ⟨co-1,(by have:=bu am;omega),oF,i2+1,(by have:=bu am;omega),eR b7 a2<|bj bm,cI<|bg (by have:=bi.bG;omega),aq⟩
  refine OL 3 Z<|aT<|aJ<|PW 5 Z ?_;replace aq:=(aq.weaken a5).weaken E;refine aO ⟨ca-1,(by have:=bu ac;omega),oF,i+1,(by have:=bu ac;omega),eR ha F (by unfold mM;rw[bj a4,<-EU bl,dR b7<|bC am];rfl),cI<|bg (by have:=hk.bG;omega),aq⟩
 refine OL 3 Z<|aT<|PX 6 Z ?_;exact aA Z Z ⟨cB (by unfold gK;rw[aI,R,ab];show _=x.exprs.all (mM c.aY k);rw[dR ha<|bC ac]),aq.pop.pop⟩
theorem KF {n:Nat} (h:I (.ofNat n) 0=false):n≠0:=by rintro rfl;cases h
theorem JZ {n:Nat} (h:0<n) (h2:n<=9223372036854775807):wr .i64 (Int.sub (.ofNat n) 1)= .ofNat (n-1):=by
 have:Int.sub (.ofNat n) 1= .ofNat (n-1):=by show(n:Int)-1=((n-1:Nat):Int);omega
 rw[this];exact AL B
theorem E0 {k:Nat} {e:XE}:I (oI k e) 3=gV k e:=by
 unfold oI;cases gV k e with
 | true=>rfl
 | false=>cases ec k e<;>rfl
def um (k:Nat) (c:XC):Prop:=∀x∈c.ins,∀e∈x.exprs,cU k e<=100000
theorem v8 {G:Cx} (hG:Plain G) {K:KP} {k:Nat} {c:XC} {cv:V} (hc:bR K 6 (iI K k) c.ins cv) (hF:mn k c) (hS:um k c) {U:D} {L:Own} (aq:J U K L):bk Tryz.prog G 118 [.agg [.int .i64 c.aY,cv]] U fun v U'=>v= .int .i64 (gJ k c)/\J U' K L:=by
 refine PS hG Tryz.func118 Z<|Pt 2 Z<|kp aq Z (cz Z Z) (fun U b1 aq=>?_);refine Ou aq 9 [0,0] Z Z<|ky Z (an Z) (fun u=>?_) (fun u=>?_)
 ·refine OQ 15 Z ?_;exact aA Z Z ⟨cJ (by unfold gJ;rw[show bU 16 c.aY=true from u];rfl),aq.pop⟩
 refine P3 aq 2 [1,0] Z Z<|O Z (QD hc Z Z Z (e:=79) Z) Z<|Pv 4 Z<|aE Z (fun A=>?_) (fun A=>?_)
 ·refine Pu 7 Z ?_;exact aA Z Z ⟨cJ (by unfold gJ;rw[show bU 16 c.aY=false from u,show bU 4000 (.ofNat c.ins.length)=true from A];rfl),aq.pop⟩
 refine Ok 9 Z ?_;obtain⟨LL1,aq,hLL1⟩:=aq.named;refine bp ([2,3,4]++rg 16 29) (fun j t U=>∃(i:Nat),j+i=c.ins.length/\(c.ins.take i).any (fun x=>x.exprs.any (gV k))=false/\t.get 3=some (.int .i64 (.ofNat i))/\J U K LL1) (c.ins.length) ⟨0,Z,Z,Z,aq⟩ ?_;clear aq;intro j4 t U ar hI;obtain⟨i,hj,ha,bv,aq⟩:=hI;subst hLL1;obtain⟨oo,rfl⟩:=ar.q1 bv Z;refine OU aq 6 [1,0] Z Z<|O Z (QD hc Z Z Z (e:=79) Z) Z<|Pv 3 Z<|aE Z (fun z=>?_) (fun z=>?_)
 ·refine NP 6 Z ?_;obtain⟨a0,C,b3⟩:=cL z;have hm27:=gB_ C;refine OM 4 Z ?_;obtain⟨LL2,aq,hLL2⟩:=aq.named;refine bp ([2,4]++rg 23 22) (fun j t U=>∃(i2:Nat),j+i2=a0.exprs.length/\(a0.exprs.take i2).any (gV k)=false/\t.get 4=some (.int .i64 (.ofNat i2))/\J U K LL2) (a0.exprs.length) ⟨0,Z,Z,Z,aq⟩ ?_;clear aq;intro j7 t U ar hI;obtain⟨i2,cn,a4,bw,aq⟩:=hI;subst hLL2;obtain⟨oo,rfl⟩:=ar.q1 bw Z;refine OU aq 7 [1,0] Z Z<|Qu (e:=79) (m:=6) hc C Z Z Z Z (fun co b4 a5 b5 a6=>?_);have hr27':=a6;obtain⟨cp,rfl,ao⟩:=hr27';refine cq a5 Z Z Z (k:=5) Y (lb Z) (fun _=>Z) (fun cs a7=>?_);refine O Z (QF aq a7 Z Z) Z<|O Z (QD ao Z Z Z (e:=82) Z) Z<|Pv 3 Z<|aE Z (fun aa=>?_) (fun aa=>?_)
  ·refine NQ aq 9 [1,0] Z Z<|Qu (e:=79) (m:=6) hc C Z Z Z Z (fun cx b6 a8 b7 a9=>?_);have hr37':=a9;obtain⟨c0,rfl,bb⟩:=hr37';refine cq a8 Z Z Z (k:=5) Y (lb Z) (fun _=>Z) (fun c1 be=>?_);refine O Z (QF aq be Z Z) Z<|vQ 1 Z ?_;obtain⟨c2,E,b8⟩:=cL aa;refine Qu (e:=82) (m:=4) bb E Z Z Z Z (fun c3 b9 bi ca ap=>?_);obtain⟨c4,c5,c7,c8,rfl,cb⟩:=ap.shape;refine O Z (QG aq bi Z Z) Z<|bf Z (Qz Z Z Z) (fun _=>Z) (uD hG ap (hF _ hm27 _<|gB_ E) (Nat.le_trans (hS _ hm27 _<|gB_ E) B) aq) (fun U aq=>?_);refine Pv 3 Z<|aE Z (fun a1=>?_) (fun a1=>?_)
   ·refine PX 6 Z<|aF<|aw<|bz<|aF<|aF<|aw<|bz<|aF<|aw (?_);exact aA Z Z ⟨cJ (by unfold gJ;rw[show bU 16 c.aY=false from u,show bU 4000 (.ofNat c.ins.length)=false from A];rw[Dd C<|Dd E (by rw[<-E0];exact a1)];rfl),aq.pop⟩
   refine aG<|aJ<|PW 5 Z<|aO ⟨j7-1,(by have:=bu aa;omega),oF,i2+1,(by have:=bu aa;omega),vL a4 E (by rw[<-E0];exact a1),cI<|bg (by have:=ao.bG;omega),aq⟩
  refine OL 3 Z<|aT<|aJ<|PW 5 Z<|aO ⟨j4-1,(by have:=bu z;omega),oF,i+1,(by have:=bu z;omega),vL ha C<|lO a4<|bC aa,cI<|bg (by have:=hc.bG;omega),aq⟩
 refine OL 3 Z<|aT<|OU aq 6 [0,0] Z Z<|ky Z (an Z) (fun F=>?_) (fun F=>?_)
 ·refine OQ 15 Z ?_;exact aA Z Z ⟨cJ (by unfold gJ;rw[show bU 16 c.aY=false from u,show bU 4000 (.ofNat c.ins.length)=false from A];rw[show c.ins.any (fun x=>x.exprs.any (gV k))=false from lO ha (bC z)];rw[show bU c.aY 0=true from F];rfl),aq.pop⟩
 refine P3 aq 2 [1,0] Z Z<|O Z (QD hc Z Z Z (e:=79) Z) Z<|Pv 4 Z<|aE Z (fun M=>?_) (fun M=>?_)
 ·refine Pu 7 Z ?_;exact aA Z Z ⟨cJ (by unfold gJ;rw[show bU 16 c.aY=false from u,show bU 4000 (.ofNat c.ins.length)=false from A];rw[show c.ins.any (fun x=>x.exprs.any (gV k))=false from lO ha (bC z)];rw[show bU c.aY 0=false from F,show I (.ofNat c.ins.length) 0=true from M];rfl),aq.pop⟩
 refine Ok 9 Z ?_;obtain⟨LL3,aq,hLL3⟩:=aq.named;refine bp ([2,5]++rg 54 15) (fun j t U=>∃(i:Nat),j+i=c.ins.length/\(c.ins.take i).all (gK c.aY (.ofNat c.ins.length) k)=true/\t.get 5=some (.int .i64 (.ofNat i))/\J U K LL3) (c.ins.length) ⟨0,Z,Z,Z,aq⟩ ?_;clear aq;intro b0 t U ar hI;obtain⟨i,c9,Q,b2,aq⟩:=hI;subst hLL3;obtain⟨oo,rfl⟩:=ar.q1 b2 Z;refine OU aq 6 [1,0] Z Z<|O Z (QD hc Z Z Z (e:=79) Z) Z<|Pv 3 Z<|aE Z (fun R=>?_) (fun R=>?_)
 ·refine NO 5 Z<|aS (l:=zp [0,1,2,3,4,5,6,7]) Y Y<|al Z Z (QC Z aq.g0 (n:=2) (vs:=[_,_]) Z) Z<|P4 aq 3 [1,0] Z Z ?_;obtain⟨dd,W,cc⟩:=cL R;refine Qv (e:=79) (m:=6) hc W Z Z Z Z Z (fun dl ce bl cg aI=>?_);have hr65raw:=aI;have hr65':=aI;obtain⟨dm,rfl,ch⟩:=hr65';refine al Z Z (QG aq bl Z Z) Z<|cA Z Z (Qz Z Z Z) (fun _=>Z) (H4 hG hc hr65raw (hF _<|gB_ W) (hS _<|gB_ W) aq) (fun U aq=>?_);refine⟨aV,?_⟩;refine al Z Z (cV Z) Z<|Py 2 Z<|aE Z (fun a2=>?_) (fun a2=>?_)
  ·refine PX 6 Z<|aF<|aw<|bz<|aF<|aw (?_);exact aA Z Z ⟨cJ (by unfold gJ;rw[show bU 16 c.aY=false from u,show bU 4000 (.ofNat c.ins.length)=false from A];rw[show c.ins.any (fun x=>x.exprs.any (gV k))=false from lO ha (bC z)];rw[show bU c.aY 0=false from F,show I (.ofNat c.ins.length) 0=false from M];rw[gG W<|bT a2];rfl),aq.pop⟩
  refine aG<|aJ<|PW 5 Z<|aO ⟨b0-1,(by have:=bu R;omega),oF,i+1,(by have:=bu R;omega),eR Q W<|bj a2,cI<|bg (by have:=hc.bG;omega),aq⟩
 refine OL 3 Z<|aT<|Pt 2 Z ?_;have bm:0<c.ins.length:=by have:=KF M;omega
 obtain⟨ac,X⟩:=cm (show c.ins.length-1<c.ins.length by omega);refine P3 aq 4 [1,0,1,0] Z Z<|O Z (QD hc Z Z Z (e:=79) Z) Z<|vQ 1 Z<|Qu (e:=79) (m:=6) hc X Z Z Z (show _=some (V.int .i64 (.ofNat (c.ins.length-1))) from cI (JZ bm (by have:=hc.bG;omega))) (fun dr ci bo ck bs=>?_);have hr75':=bs;obtain⟨ds,rfl,cl⟩:=hr75';refine cq bo Z Z Z (k:=0) Y (lb Z) (fun _=>Z) (fun dx bt=>?_);refine O Z (QF aq bt Z Z) Z<|On 8 Z<|ky Z (an Z) (fun ab=>?_) (fun ab=>?_)
 ·refine PZ 3 Z<|ky Z (an Z) (fun am=>?_) (fun am=>?_)
  ·refine Pv 5 Z<|aE Z (fun a3=>?_) (fun a3=>?_)
   ·refine Pu 7 Z ?_;exact aA Z Z ⟨cJ (by unfold gJ;rw[show bU 16 c.aY=false from u,show bU 4000 (.ofNat c.ins.length)=false from A];rw[show c.ins.any (fun x=>x.exprs.any (gV k))=false from lO ha (bC z)];rw[show bU c.aY 0=false from F,show I (.ofNat c.ins.length) 0=false from M];rw[dR Q<|bC R,X];show _=bif gk ac then _ else _;unfold gk;simp only[bT ab,bT am,bT a3,ct,cf]<;>rfl),aq.pop⟩
   refine Pu 8 Z ?_;exact aA Z Z ⟨cJ (by unfold gJ;rw[show bU 16 c.aY=false from u,show bU 4000 (.ofNat c.ins.length)=false from A];rw[show c.ins.any (fun x=>x.exprs.any (gV k))=false from lO ha (bC z)];rw[show bU c.aY 0=false from F,show I (.ofNat c.ins.length) 0=false from M];rw[dR Q<|bC R,X];show _=bif gk ac then _ else _;unfold gk;simp only[bT ab,bT am,bj a3,ct,cf]<;>rfl),aq.pop⟩
  refine OQ 14 Z ?_;exact aA Z Z ⟨cJ (by unfold gJ;rw[show bU 16 c.aY=false from u,show bU 4000 (.ofNat c.ins.length)=false from A];rw[show c.ins.any (fun x=>x.exprs.any (gV k))=false from lO ha (bC z)];rw[show bU c.aY 0=false from F,show I (.ofNat c.ins.length) 0=false from M];rw[dR Q<|bC R,X];show _=bif gk ac then _ else _;unfold gk;simp only[bT ab,bj am,ct,cf]<;>rfl),aq.pop⟩
 refine OQ 18 Z ?_;exact aA Z Z ⟨cJ (by unfold gJ;rw[show bU 16 c.aY=false from u,show bU 4000 (.ofNat c.ins.length)=false from A];rw[show c.ins.any (fun x=>x.exprs.any (gV k))=false from lO ha (bC z)];rw[show bU c.aY 0=false from F,show I (.ofNat c.ins.length) 0=false from M];rw[dR Q<|bC R,X];show _=bif gk ac then _ else _;unfold gk;simp only[bj ab,ct,cf]<;>rfl),aq.pop⟩
end Go.Ev
namespace Go.Ev
variable [Env]
def jY (x:XI) (a:Nat):List Int:=
 bif I x.kind 12 then [] else bif I x.kind 13 then [] else bif I x.kind 10 then [x.to] else
 bif I x.kind 11 then(bif bU x.to (.ofNat (a+1)) then [x.to,.ofNat (a+1)] else bif bU (.ofNat (a+1)) x.to then [.ofNat (a+1),x.to] else [.ofNat (a+1)]) else [.ofNat (a+1)]
def gM (c:XC) (i:Nat):List Nat:=match c.ins[i]? with | some x=>(jY x i).map Int.toNat | none=>[]
theorem yW {x:XI} {a:Nat} {t:Int}:t∈jY x a↔t∈gN x a:=by
 unfold jY gN;cases u:I x.kind 12 with
 | true=>rw[eqv u];simp[show I 12 10=false from Z,show I 12 11=false from Z,show I 12 12=true from Z]
 | false=>
 cases z:I x.kind 13 with
 | true=>rw[eqv z];simp[show I 13 10=false from Z,show I 13 11=false from Z,show I 13 12=false from Z,show I 13 13=true from Z]
 | false=>
 cases aa:I x.kind 10 with
 | true=>simp
 | false=>
 cases ab:I x.kind 11 with
 | false=>simp
 | true=>
  simp only[cond_true,cond_false];cases hl:bU x.to (.ofNat (a+1)) with
  | true=>simp only[cond_true,mQ_,List.not_mem_nil,or_false];exact or_comm
  | false=>
   cases A:bU (.ofNat (a+1)) x.to with
   | true=>simp
   | false=>
    have h1:Int.ofNat (a+1)<=x.to:=by rw[eP,decide_eq_false_iff_not] at hl;exact Int.not_lt.1 hl
    have h2:x.to<=Int.ofNat (a+1):=by rw[eP,decide_eq_false_iff_not] at A;exact Int.not_lt.1 A
    have e:x.to=Int.ofNat (a+1):=Int.le_antisymm h2 h1;rw[e];simp
theorem si {c:XC} {i t:Nat}:t∈gM c i↔t∈dj c i:=by
 unfold gM dj;cases c.ins[i]? with
 | none=>exact Iff.rfl
 | some x=>simp only[List.mem_map,yW]
theorem Cc:∀(n:Nat) (l:List Nat),l.Nodup->(∀x∈l,x<n)->l.length<=n
 | 0,l,_,h=>by cases l with | nil=>exact nR_ _ | cons a l=>exact absurd (h a<|mS_ ..) (nZ_ _)
 | n+1,l,hn,h=>by
  have:=Cc n (l.erase n) (hn.erase n) (fun x hx=>by
   have h1:=(hn.mem_erase_iff.1 hx);have:=h x h1.2;omega)
  have h2:=List.length_erase_le (a:=n) (l:=l);have h3:l.length<=(l.erase n).length+1:=by rw[List.length_erase];split<;>omega
  omega
def nH (f:Nat->Nat) (l:List Nat) (m:Nat):Nat:=l.foldl (fun m t=>max m (f t)) m
theorem sS {f:Nat->Nat} {B_:Nat}:∀{l:List Nat} {m:Nat},m<=B_->(∀t∈l,f t<=B_)->nH f l m<=B_
 | [],_,hm,_=>hm
 | a::l,m,hm,h=>sS (l:=l) (Nat.max_le.2 ⟨hm,h a<|mS_ ..⟩) (fun t u=>h t (mC_ _ u))
theorem B2 {f:Nat->Nat}:∀{l:List Nat} {m:Nat},m<=nH f l m
 | [],_=>nR_ _
 | a::l,m=>Nat.le_trans (Nat.le_max_left _ _) (B2 (l:=l))
theorem oU {f:Nat->Nat}:∀{l:List Nat} {m t:Nat},t∈l->f t<=nH f l m
 | a::l,m,t,h=>by
  rcases mQ_.1 h with rfl | h
  ·exact Nat.le_trans (Nat.le_max_right _ _)<|B2 (l:=l)
  exact oU (l:=l) h
theorem oW {f g:Nat->Nat} {l l':List Nat} (h:∀t,t∈l↔t∈l') (hf:∀t∈l,f t=g t):nH f l 0=nH g l' 0:=by
 refine Nat.le_antisymm (sS (Nat.zero_le _) fun t u=>?_)<|sS (Nat.zero_le _) fun t u=>?_
 ·rw[hf t u];exact oU ((h t).1 u)
 rw[<-hf t ((h t).2 u)];exact oU ((h t).2 u)
theorem GY {f g:Nat->Nat} {l:List Nat} (hf:∀t∈l,f t<=g t):nH f l 0<=nH g l 0:=sS (Nat.zero_le _) fun t u=>Nat.le_trans (hf t u) (oU u)
theorem yV {f:Nat->Nat}:∀{l:List Nat} {m:Nat},nH f l m=m∨∃t∈l,nH f l m=f t
 | [],_=>.inl Z
 | a::l,m=>by
  rcases yV (f:=f) (l:=l) (m:=max m<|f a) with h | ⟨t,u,h⟩
  ·show nH f l (max m<|f a)=m∨_;rcases Nat.le_total m (f a) with h1 | h1
   ·exact .inr ⟨a,mS_ ..,by show nH f l (max m<|f a)=_;rw[Nat.max_eq_right h1] at h⊢;exact h⟩
   exact .inl (by rw[Nat.max_eq_left h1] at h⊢;exact h)
  exact .inr ⟨t,mC_ _ u,h⟩
inductive Reach (nx:Nat->List Nat):Nat->Prop
 | zero:Reach nx 0
 | step {i t:Nat}:Reach nx i->t∈nx i->Reach nx t
theorem Reach.mR {nx:Nat->List Nat} {n:Nat} {out:List Nat} (u:fg nx n out) {i:Nat} (h:Reach nx i):i∈out:=by
 induction h with
 | zero=>exact u.zero
 | step _ z ih=>
  obtain⟨q,hq⟩:=gO_ ih;obtain⟨q',_,h'⟩:=u.Ae q _ hq _ z;exact gB_ h'
def NN (w:Nat->Nat) (nx:Nat->List Nat):Nat->Nat->Nat
 | 0,_=>0
 | k+1,i=>nH (NN w nx k) (nx i) 0+w i
theorem BY {w:Nat->Nat} {nx:Nat->List Nat} {n:Nat} {out:List Nat} (u:fg nx n out):∀(q i:Nat),out[q]?=some i->∀k,q<k->NN w nx k i=NN w nx (q+1) i:=by
 intro q;induction q using Nat.strongRecOn with
 | _ q ih=>
  intro i hi k hk;obtain⟨k,rfl⟩:∃m,k=m+1:=⟨k-1,by omega⟩;show nH _ _ _+_=nH _ _ _+_;rw[oW (fun t=>Iff.rfl) (fun t z=>?_)];obtain⟨q',h1,h2⟩:=u.Ae q i hi t z;rw[ih q' h1 t h2 k B,ih q' h1 t h2 q B]
def tB (w:Nat->Nat) (nx:Nat->List Nat) (f:Nat->Nat):Prop:=∀i,Reach nx i->f i=nH f (nx i) 0+w i
theorem Iw {w:Nat->Nat} {nx:Nat->List Nat} {n:Nat} {out:List Nat} (u:fg nx n out):tB w nx (NN w nx out.length):=by
 intro i hi;obtain⟨q,hq⟩:=gO_ (hi.mR u);have hl:=(gA.1 hq).1;rw[BY u q i hq _ hl,<-BY u q i hq (out.length+1) B];rfl
theorem KL {w:Nat->Nat} {nx:Nat->List Nat} {n:Nat} {out:List Nat} {f g:Nat->Nat} (z:fg nx n out) (hf:tB w nx f) (C:tB w nx g):∀i,Reach nx i->f i=g i:=by
 have:∀(q i:Nat),out[q]?=some i->Reach nx i->f i=g i:=by
  intro q;induction q using Nat.strongRecOn with
  | _ q ih=>
   intro i hi u;rw[hf i u,C i u,oW (fun t=>Iff.rfl) (fun t A=>?_)];obtain⟨q',h1,h2⟩:=z.Ae q i hi t A;exact ih q' h1 t h2 (.step u A)
 intro i hi;obtain⟨q,hq⟩:=gO_ (hi.mR z);exact this q i hq hi
theorem Ix {v w:Nat->Nat} {nx:Nat->List Nat} {n:Nat} {out:List Nat} {f g:Nat->Nat} (z:fg nx n out) (hw:∀i,v i<=w i) (hf:tB v nx f) (C:tB w nx g):∀i,Reach nx i->f i<=g i:=by
 have:∀(q i:Nat),out[q]?=some i->Reach nx i->f i<=g i:=by
  intro q;induction q using Nat.strongRecOn with
  | _ q ih=>
   intro i hi u;rw[hf i u,C i u];refine Nat.add_le_add (GY fun t A=>?_)<|hw i;obtain⟨q',h1,h2⟩:=z.Ae q i hi t A;exact ih q' h1 t h2 (.step u A)
 intro i hi;obtain⟨q,hq⟩:=gO_ (hi.mR z);exact this q i hq hi
theorem Gz {nx:Nat->List Nat} {h:Nat->Nat} (u:tB (fun _=>1) nx h):∀(v i:Nat),Reach nx i->h i=v->∃l:List Nat,l.length=v/\l.Nodup/\∀x∈l,Reach nx x/\1<=h x/\h x<=v:=by
 intro v;induction v with
 | zero=>intro i hi hv;have:=u i hi;dsimp only at this;omega
 | succ v ih=>
  intro i hi hv;rcases yV (f:=h) (l:=nx i) (m:=0) with hm | ⟨t,A,hm⟩
  ·have:=u i hi;rw[hm] at this;dsimp only at this;obtain rfl:v=0:=by omega
   exact⟨[i],Z,by simp,fun x hx=>by obtain rfl:=List.mem_singleton.1 hx;exact⟨hi,by omega,by omega⟩⟩
  have:=u i hi;rw[hm] at this;dsimp only at this;obtain⟨l,h1,h2,z⟩:=ih t (.step hi A) B;refine⟨i::l,by simp[h1],List.nodup_cons.2 ⟨fun hx=>?_,h2⟩,fun x hx=>?_⟩
  ·have:=(z i hx).2.2;omega
  rcases mQ_.1 hx with rfl | hx
  ·exact⟨hi,by omega,by omega⟩
  have:=z x hx;exact⟨this.1,this.2.1,by omega⟩
theorem MO {nx:Nat->List Nat} {n:Nat} {out:List Nat} {h:Nat->Nat} (u:fg nx n out) (z:tB (fun _=>1) nx h):∀i,Reach nx i->h i<=n:=by
 intro i hi;obtain⟨l,h1,h2,A⟩:=Gz z _ i hi Z;rw[<-h1];exact Cc n l h2 fun x hx=>u.lt x ((A x hx).1.mR u)
def mZ (b:List Nat) (t:Nat):Nat:=(b[t]?).getD 0
def iH (nx:Nat->List Nat) (w:Nat->Nat) (b:List Nat) (i:Nat):Nat:=nH (mZ b) (nx i) 0+w i
def iE (nx:Nat->List Nat) (w:Nat->Nat) (r:Nat->Bool) (n:Nat):Nat->List Nat×Bool->Option (List Nat×Bool)
 | 0,s=>some s
 | i+1,s=>bif aX (r i) then iE nx w r n i s else bif Nat.blt n (iH nx w s.1 i) then none else bif Nat.beq (iH nx w s.1 i) (mZ s.1 i) then iE nx w r n i s else iE nx w r n i (s.1.set i<|iH nx w s.1 i,false)
def jF (nx:Nat->List Nat) (w:Nat->Nat) (r:Nat->Bool) (n:Nat):Nat->List Nat->Nat×Bool
 | 0,_=>(0,false)
 | f+1,b=>match iE nx w r n n (b,true) with
  | none=>(0,false)
  | some (b',true)=>(mZ b' 0,true)
  | some (b',false)=>jF nx w r n f b'
section
variable {nx:Nat->List Nat} {w:Nat->Nat} {r:Nat->Bool} {n:Nat}
theorem EW {b:List Nat} {i v t:Nat} (hi:i<b.length):mZ (b.set i v) t=if t=i then v else mZ b t:=by
 unfold mZ;rw[List.getElem?_set];split
 ·rename_i e;subst e;simp[hi]
 rename_i e;rw[if_neg (fun h=>e h.symm)]
theorem qV:∀{i:Nat} {s s':List Nat×Bool},iE nx w r n i s=some s'->s'.1.length=s.1.length
 | 0,s,s',h=>by cases h;rfl
 | i+1,s,s',h=>by
  unfold iE at h;cases h1:aX (r i) with
  | true=>rw[h1] at h;exact qV h
  | false=>
  cases h2:Nat.blt n (iH nx w s.1 i) with
  | true=>rw[h1,h2] at h;cases h
  | false=>
  cases u:Nat.beq (iH nx w s.1 i) (mZ s.1 i) with
  | true=>rw[h1,h2,u] at h;exact qV h
  | false=>rw[h1,h2,u] at h;have:=qV (i:=i) h;rw[this];exact List.length_set
theorem oZ:∀{i:Nat} {s:List Nat×Bool} {b':List Nat},iE nx w r n i s=some (b',true)->s.2=true/\b'=s.1/\∀j,j<i->r j=true->mZ s.1 j=iH nx w s.1 j
 | 0,s,b',h=>by cases h;exact⟨Z,Z,fun j hj=>absurd hj (nZ_ _)⟩
 | i+1,s,b',h=>by
  unfold iE at h;cases h1:aX (r i) with
  | true=>
   rw[h1] at h;obtain⟨a,b,c⟩:=oZ (i:=i) h;refine⟨a,b,fun j hj u=>?_⟩
   by_cases e:j=i
   ·subst e;rw[bT h1] at u;cases u
   exact c j B u
  | false=>
  cases h2:Nat.blt n (iH nx w s.1 i) with
  | true=>rw[h1,h2] at h;cases h
  | false=>
  cases z:Nat.beq (iH nx w s.1 i) (mZ s.1 i) with
  | true=>
   rw[h1,h2,z] at h;obtain⟨a,b,c⟩:=oZ (i:=i) h;refine⟨a,b,fun j hj u=>?_⟩
   by_cases e:j=i
   ·subst e;exact(nB z).symm
   exact c j B u
  | false=>rw[h1,h2,z] at h;exact absurd (oZ (i:=i) h).1 Bool.false_ne_true
theorem sg:∀{f:Nat} {b:List Nat},(jF nx w r n f b).2=true->∃b',b'.length=b.length/\(jF nx w r n f b).1=mZ b' 0/\∀j,j<n->r j=true->mZ b' j=iH nx w b' j
 | 0,b,h=>by cases h
 | f+1,b,h=>by
  unfold jF at h⊢;cases hp:iE nx w r n n (b,true) with
  | none=>rw[hp] at h;cases h
  | some s=>
   obtain⟨b',q⟩:=s;rw[hp] at h;cases q with
   | true=>
    obtain⟨_,e,h'⟩:=oZ hp;dsimp only at e;subst e;exact⟨b',Z,Z,h'⟩
   | false=>
    obtain⟨u,h1,h2,z⟩:=sg (f:=f) (b:=b') h;exact⟨u,by rw[h1,qV hp],h2,z⟩
end
section
variable {nx dx:Nat->List Nat} {w:Nat->Nat} {r:Nat->Bool} {n:Nat} {out:List Nat} {F H_:Nat->Nat}
theorem Ly (u:∀i t,t∈dx i↔t∈nx i) (z:tB w nx F) {b:List Nat} (hb:∀i,Reach nx i->mZ b i<=F i) {i:Nat} (hi:Reach nx i):iH dx w b i<=F i:=by
 rw[z i hi];unfold iH;refine Nat.add_le_add_right (sS (Nat.zero_le _) fun t ht=>?_) _;have ht:=(u i t).1 ht;exact Nat.le_trans (hb t (.step hi ht))<|oU ht
theorem Lx (u:∀i t,t∈dx i↔t∈nx i) (z:tB w nx F) {b:List Nat} {i:Nat} (hi:Reach nx i) (hb:∀t∈nx i,mZ b t=F t):iH dx w b i=F i:=by
 rw[z i hi];unfold iH;rw[oW (u i) fun t A=>hb t ((u i t).1 A)]
theorem sZ (K:∀i t,t∈dx i↔t∈nx i) (L:∀i,i<n->(r i=true↔Reach nx i)) (M:tB w nx F) (C:∀i,Reach nx i->F i<=n) (W:∀i t,Reach nx i->t∈nx i->H_ t<H_ i) {m:Nat}:
  ∀{i:Nat} {s:List Nat×Bool},i<=n->s.1.length=n->(∀j,Reach nx j->mZ s.1 j<=F j)->(∀j,Reach nx j->H_ j<=m->mZ s.1 j=F j)->(∀j,j<n->i<=j->Reach nx j->H_ j<=m+1->mZ s.1 j=F j)->
   ∃s',iE dx w r n i s=some s'/\s'.1.length=n/\(∀j,Reach nx j->mZ s'.1 j<=F j)/\(∀j,j<n->Reach nx j->H_ j<=m+1->mZ s'.1 j=F j)/\((∀j,Reach nx j->H_ j<=m)->s'.2=s.2)
 | 0,s,_,hl,h1,h2,Q=>⟨s,Z,hl,h1,fun j hj=>Q j hj (Nat.zero_le _),fun _=>Z⟩
 | i+1,s,hi,hl,h1,h2,Q=>by
  unfold iE;cases hn:aX (r i) with
  | true=>
   refine sZ K L M C W (i:=i) B hl h1 h2 fun j hj R z E=>?_
   by_cases e:j=i
   ·subst e;rw[(L j hj).2 z] at hn;cases hn
   exact Q j hj B z E
  | false=>
  have u:Reach nx i:=(L i B).1 (by cases h:r i;rw[h] at hn;cases hn;rfl);have hv:iH dx w s.1 i<=F i:=Ly K M h1 u;have hfi:=C i u;rw[show Nat.blt n (iH dx w s.1 i)=false from by rw[Bool.eq_false_iff];intro h;have:=Nat.le_of_ble_eq_true h;omega];have hex:H_ i<=m+1->iH dx w s.1 i=F i:=fun h=>Lx K M u fun t X=>h2 t (.step u X) (by have:=W i t u X;omega)
  cases hb:Nat.beq (iH dx w s.1 i) (mZ s.1 i) with
  | true=>
   refine sZ K L M C W (i:=i) B hl h1 h2 fun j hj R z E=>?_
   by_cases e:j=i
   ·subst e;rw[<-nB hb];exact hex E
   exact Q j hj B z E
  | false=>
   have A:∀j,mZ (s.1.set i<|iH dx w s.1 i) j=if j=i then iH dx w s.1 i else mZ s.1 j:=fun j=>EW B
   obtain⟨s',k1,k2,k3,k4,k5⟩:=sZ K L M C W (m:=m) (i:=i) (s:=(s.1.set i<|iH dx w s.1 i,false)) B (by rw[List.length_set];exact hl)
    (fun j hj=>by rw[A];split;(rename_i e;subst e;exact hv);exact h1 j hj)
    (fun j hj hm=>by rw[A];split;(rename_i e;subst e;exact hex B);exact h2 j hj hm)
    (fun j hj R z hm=>by rw[A];split;(rename_i e;subst e;exact hex hm);exact Q j hj B z hm)
   refine⟨s',k1,k2,k3,k4,fun G=>?_⟩;exfalso;have e1:=hex (by have:=G i u;omega);have e2:=h2 i u (G i u);rw[e1,e2,Nat.beq_refl] at hb;cases hb
theorem B5 (C:∀i t,t∈dx i↔t∈nx i) (E:∀i,i<n->(r i=true↔Reach nx i)) (u:∀i,Reach nx i->i<n) (G:tB w nx F) (z:∀i,Reach nx i->F i<=n) (K:∀i t,Reach nx i->t∈nx i->H_ t<H_ i) (A:∀i,Reach nx i->H_ i<=n):
  ∀{f m:Nat} {b:List Nat},n+1<f+m->1<=f->b.length=n->(∀j,Reach nx j->mZ b j<=F j)->(∀j,Reach nx j->H_ j<=m->mZ b j=F j)->(jF dx w r n f b).2=true
 | 0,_,_,_,h,_,_,_=>absurd h B
 | f+1,m,b,aa,_,hl,h1,h2=>by
  obtain⟨⟨b',q⟩,L,k2,M,Q,R⟩:=sZ (w:=w) (F:=F) C E G z K (m:=m) (i:=n) (s:=(b,true)) (nR_ _) hl h1 h2 (fun j hj ab=>absurd hj B);unfold jF;rw[L];cases q with
  | true=>rfl
  | false=>
   by_cases hm:n<=m
   ·have:=R fun j hj=>Nat.le_trans (A j hj) hm
    cases this
   exact B5 C E u G z K A (f:=f) (m:=m+1) B B k2 M fun j hj=>Q j (u j hj) hj
end
theorem DZ {nx dx:Nat->List Nat} {w:Nat->Nat} {r:Nat->Bool} {n:Nat} {out:List Nat} (z:fg nx n out) (G:∀i t,t∈dx i↔t∈nx i) (K:∀i,i<n->(r i=true↔Reach nx i)) (hw:∀i,w i<=1) {F:Nat->Nat} (C:tB w nx F):
  jF dx w r n (n+2) (List.replicate n 0)=(F 0,true):=by
 have hH:=Iw (w:=fun _=>1) z;have u:∀i,Reach nx i->i<n:=fun i hi=>z.lt i (hi.mR z)
 have hHn:=MO z hH;have hFH:=Ix z hw C hH
 have E:∀i t,Reach nx i->t∈nx i->NN (fun _=>1) nx out.length t<NN (fun _=>1) nx out.length i:=fun i t hi L=>by
  rw[hH i hi];exact Nat.lt_succ_of_le<|oU L
 have h0:∀j,mZ (List.replicate n 0) j=0:=fun j=>by
  unfold mZ;rw[List.getElem?_replicate];split<;>rfl
 have hs:=B5 (w:=w) G K u C (fun i hi=>Nat.le_trans (hFH i hi) (hHn i hi)) E hHn (f:=n+2) (m:=0) (b:=List.replicate n 0) B B (by simp) (fun j _=>by rw[h0];exact Nat.zero_le _)
  (fun j hj hm=>by have:=hFH j hj;rw[h0];omega)
 obtain⟨b',h1,h2,M⟩:=sg hs
 have A:tB w nx (mZ b'):=fun i hi=>by
  rw[M i (u i hi) ((K i<|u i hi).2 hi)];unfold iH;rw[oW (G i) fun t _=>Z]
 exact Prod.ext (by rw[h2];exact KL z A C 0 .zero) hs
structure EN (nx:Nat->List Nat) (s:DS):Prop where
 open_:∀i:Nat,s.st[i]?=some 1->i∈s.path
 Ih:∀(j a b:Nat),s.path[j]?=some a->s.path[j+1]?=some b->b∈nx a
 reach:∀i∈s.path,Reach nx i
theorem vU {nx:Nat->List Nat} {p:List Nat} {f:Nat->Nat} (he:∀(j a b:Nat),p[j]?=some a->p[j+1]?=some b->b∈nx a) (z:∀i∈p,Reach nx i) (hf:∀i t,Reach nx i->t∈nx i->f t<f i):
  ∀(d j a b:Nat),p[j]?=some a->p[j+d]?=some b->f b<=f a
 | 0,j,a,b,u,hb=>by rw[Nat.add_zero,u] at hb;cases hb;exact nR_ _
 | d+1,j,a,b,u,hb=>by
  have hl:=(gA.1 hb).1;obtain⟨x,hx⟩:∃x,p[j+1]?=some x:=⟨_,gC B⟩;have h1:=hf a x (z a<|gB_ u) (he j a x u hx);have h2:=vU he z hf d (j+1) x b hx (by rw[show j+1+d=j+(d+1) by omega];exact hb);omega
theorem Dz {nx:Nat->List Nat} {n:Nat} {s:DS} {f:Nat->Nat} (hw:LV nx n s) (hp:EN nx s) (C:∀i,i<n->∀to∈nx i,to<n) (hf:∀i t,Reach nx i->t∈nx i->f t<f i) {a:Nat} (K:s.path.getLast?=some a):∃s',ku nx s a=some s'/\EN nx s':=by
 obtain⟨P,u⟩:=List.getLast?_eq_some_iff.1 K;have z:a∈s.path:=by rw[u];simp
 have hra:=hp.reach a z;obtain⟨E,aa⟩:=hw.path a z;have A:s.path[P.length]?=some a:=by rw[u];simp
 unfold ku;dsimp only;cases G:(nx a)[(s.gone[a]?).getD 0]? with
 | none=>
  dsimp only;refine⟨_,Z,⟨fun i hi=>?_,fun j x y hx hy=>?_,fun i hi=>?_⟩⟩
  ·have hi:(s.st.set a 2)[i]?=some 1:=hi;rw[List.getElem?_set] at hi;split at hi
   ·split at hi<;>simp at hi
   rename_i e;have:=hp.open_ i hi;show i∈s.path.dropLast;rw[u] at this⊢;simp only[List.dropLast_concat];rcases List.mem_append.1 this with h | h
   ·exact h
   exact absurd (List.mem_singleton.1 h).symm e
  ·have hx:s.path.dropLast[j]?=some x:=hx;have hy:s.path.dropLast[j+1]?=some y:=hy;rw[List.getElem?_dropLast] at hx hy;split at hx
   ·split at hy
    ·exact hp.Ih j x y hx hy
    cases hy
   cases hx
  have hi:i∈s.path.dropLast:=hi;exact hp.reach i ((List.dropLast_sublist _).subset hi)
 | some to=>
  dsimp only;have htm:=gB_ G;have ab:to<n:=C a E to htm
  by_cases h2:(s.st[to]?).getD 0=2
  ·rw[if_pos h2];exact⟨_,Z,⟨hp.open_,hp.Ih,hp.reach⟩⟩
  rw[if_neg h2]
  have h1:¬(s.st[to]?).getD 0=1:=fun h1=>by
   have:s.st[to]?=some 1:=by
    cases h:s.st[to]? with
    | none=>rw[h] at h1;cases h1
    | some v=>rw[h] at h1;exact congrArg some h1
   obtain⟨j,hj⟩:=gO_ (hp.open_ to this);have hjl:=(gA.1 hj).1;rw[u] at hjl;simp only[lA_,List.length_singleton] at hjl;have:=vU hp.Ih hp.reach hf (P.length-j) j to a hj (by rw[show j+(P.length-j)=P.length by omega];exact A);have:=hf a to hra htm;omega
  rw[if_neg h1];refine⟨_,Z,⟨fun i hi=>?_,fun j x y hx hy=>?_,fun i hi=>?_⟩⟩
  ·have hi:(s.st.set to 1)[i]?=some 1:=hi;show i∈s.path++[to];rw[List.getElem?_set] at hi;split at hi
   ·rename_i e;subst e;simp
   exact List.mem_append_left _<|hp.open_ i hi
  ·have hx:(s.path++[to])[j]?=some x:=hx;have hy:(s.path++[to])[j+1]?=some y:=hy;have hyl:=(gA.1 hy).1;simp only[lA_,List.length_singleton] at hyl;rw[gL_ B] at hx
   by_cases e:j+1<s.path.length
   ·rw[gL_ e] at hy;exact hp.Ih j x y hx hy
   have e:j+1=s.path.length:=by omega
   rw[e,gR_<|nR_ _,Nat.sub_self] at hy;cases hy;have:j=P.length:=by rw[u] at e;simp at e;exact e
   rw[this,A] at hx;cases hx;exact htm
  have hi:i∈s.path++[to]:=hi;rcases List.mem_append.1 hi with h | h
  ·exact hp.reach i h
  obtain rfl:=List.mem_singleton.1 h;exact .step hra htm
theorem Bx {nx:Nat->List Nat} {n:Nat} {f:Nat->Nat} (u:∀i,i<n->∀to∈nx i,to<n) (hf:∀i t,Reach nx i->t∈nx i->f t<f i):∀{fu:Nat} {s:DS},LV nx n s->EN nx s->jr nx n s<fu->(xV nx fu s).isSome=true
 | 0,_,_,_,h=>absurd h (nZ_ _)
 | fu+1,s,hw,hp,hl=>by
  unfold xV;cases z:s.path.getLast? with
  | none=>rfl
  | some a=>
   obtain⟨s',h1,h2⟩:=Dz hw hp u hf z;have hs:=nU hw u z h1;show((ku nx s a).bind<|xV nx fu).isSome=true;rw[h1];exact Bx u hf hs.1 h2 B
theorem Ig {nx:Nat->List Nat} {n:Nat}:EN nx (x7 n) where
 open_ i hi:=by
  have hi:((List.replicate n 0).set 0 1)[i]?=some 1:=hi;rw[List.getElem?_set] at hi;split at hi
  ·rename_i e;subst e;simp[x7]
  have:=eR_ (gB_ hi);cases this
 Ih j a b ha hb:=by
  have hb: [0][j+1]?=some b:=hb;simp at hb
 reach i hi:=by
  obtain rfl:i=0:=by simpa [x7] using hi
  exact .zero
theorem BL {k:Nat} {c:XC} (hc:eX k c) {r:Nat->Bool} (A:∀i,i<c.ins.length->(r i=true↔Reach (dj c) i)):
  (jF (gM c) (fun _=>1) r c.ins.length (c.ins.length+2)<|List.replicate c.ins.length 0).2=(fT c).isSome:=by
 have hnx:=sT hc;cases C:fT c with
 | some out=>
  have hR:=r8 hnx (wg hc.pos) (show xV _ _ _=some out from C);rw[DZ hR (fun i t=>si) A (fun _=>nR_ _)<|Iw hR];rfl
 | none=>
  show _=false;rw[Bool.eq_false_iff];intro E;obtain⟨b',h1,h2,G⟩:=sg E
  have u:∀i,Reach (dj c) i->i<c.ins.length:=fun i hi=>by
   induction hi with
   | zero=>exact hc.pos
   | step _ z ih=>exact hnx _ ih _ z
  have hf:∀i t,Reach (dj c) i->t∈dj c i->mZ b' t<mZ b' i:=fun i t hi z=>by
   rw[G i (u i hi) ((A i<|u i hi).2 hi)];exact Nat.lt_succ_of_le<|oU<|si.2 z
  have:=Bx (fu:=2*total (dj c) c.ins.length+2) hnx hf (wg hc.pos) Ig (by rw[Fq];omega);rw[show xV (dj c) (2*total (dj c) c.ins.length+2) (x7 c.ins.length)=none from C] at this;cases this
abbrev gB (b:Bool):V:=.bool b
def tO:List Bool->Nat
 | []=>0
 | b::l=>(if b then 0 else 1)+tO l
theorem BH:∀{l:List Bool} {i:Nat},l[i]?=some false->tO (l.set i true)+1=tO l
 | [],_,h=>by simp at h
 | b::l,0,h=>by
  simp only[List.getElem?_cons_zero,oJ_] at h;subst h;show(0+tO l)+1=1+tO l;omega
 | b::l,i+1,h=>by
  have:=BH (l:=l) (i:=i) (by simpa using h);show(if b then 0 else 1)+tO (l.set i true)+1=(if b then 0 else 1)+tO l;omega
theorem sM:∀(l:List Bool),tO l<=l.length
 | []=>nR_ _
 | b::l=>by
  have:=sM l;show(if b then 0 else 1)+tO l<=l.length+1;split<;>omega
structure C6 (nx:Nat->List Nat) (n:Nat) (o:List Bool) (st:List Nat):Prop where
 len:o.length=n
 reach:∀i:Nat,o[i]?=some true->Reach nx i
 zero:o[0]?=some true
 Hq:∀i∈st,i<n/\o[i]?=some true
 closed:∀i:Nat,o[i]?=some true->i∈st∨∀t∈nx i,o[t]?=some true
structure vF (nx:Nat->List Nat) (n:Nat) (o:List Bool) (st:List Nat) (a m:Nat) (dl:List Nat):Prop where
 len:o.length=n
 reach:∀i:Nat,o[i]?=some true->Reach nx i
 zero:o[0]?=some true
 Hq:∀i∈st,i<n/\o[i]?=some true
 at_:o[a]?=some true
 closed:∀i:Nat,o[i]?=some true->i∈st∨i=a∨∀t∈nx i,o[t]?=some true
 done:∀(q t:Nat),q<m->dl[q]?=some t->o[t]?=some true
section
variable {nx:Nat->List Nat} {n:Nat} {o:List Bool} {st:List Nat} {a m t:Nat} {dl:List Nat}
theorem Ow (hn:0<n):C6 nx n ((List.replicate n false).set 0 true) [0] where
 len:=by simp
 reach i hi:=by
  rw[List.getElem?_set] at hi;split at hi
  ·rename_i e;subst e;exact .zero
  have:=eR_ (gB_ hi);cases this
 zero:=by simp[hn]
 Hq i hi:=by
  obtain rfl:=List.mem_singleton.1 hi;exact⟨hn,by simp[hn]⟩
 closed i hi:=by
  rw[List.getElem?_set] at hi;split at hi
  ·rename_i e;subst e;exact .inl (by simp)
  have:=eR_ (gB_ hi);cases this
theorem C6.pop (h:C6 nx n o st) (z:st.getLast?=some a):vF nx n o st.dropLast a 0 dl where
 len:=h.len
 reach:=h.reach
 zero:=h.zero
 Hq i hi:=h.Hq i ((List.dropLast_sublist _).subset hi)
 at_:=(h.Hq a (by obtain⟨P,u⟩:=List.getLast?_eq_some_iff.1 z;rw[u];simp)).2
 closed i hi:=by
  rcases h.closed i hi with h1 | h1
  ·obtain⟨P,u⟩:=List.getLast?_eq_some_iff.1 z;rw[u] at h1⊢;simp only[List.dropLast_concat];rcases List.mem_append.1 h1 with h2 | h2
   ·exact .inl h2
   exact .inr (.inl<|List.mem_singleton.1 h2)
  exact .inr (.inr h1)
 done q t hq:=absurd hq (nZ_ _)
theorem vF.skip (h:vF nx n o st a m dl) (u:dl[m]?=some t) (z:o[t]?=some true):vF nx n o st a (m+1) dl where
 len:=h.len
 reach:=h.reach
 zero:=h.zero
 Hq:=h.Hq
 at_:=h.at_
 closed:=h.closed
 done q t' hq h':=by
  by_cases e:q=m
  ·subst e;rw[u] at h';cases h';exact z
  exact h.done q t' B h'
theorem qt {i:Nat} (hi:o[i]?=some true):(o.set t true)[i]?=some true:=by
 rw[List.getElem?_set];split
 ·rename_i e;subst e;rw[if_pos (gA.1 hi).1]
 exact hi
theorem vF.mark (h:vF nx n o st a m dl) (A:dl[m]?=some t) (hn:t∈nx a) (u:t<n):vF nx n (o.set t true) (st++[t]) a (m+1) dl where
 len:=by rw[List.length_set];exact h.len
 reach i hi:=by
  rw[List.getElem?_set] at hi;split at hi
  ·rename_i e;subst e;exact .step (h.reach a h.at_) hn
  exact h.reach i hi
 zero:=qt h.zero
 Hq i hi:=by
  rcases List.mem_append.1 hi with hi | hi
  ·exact⟨(h.Hq i hi).1,qt (h.Hq i hi).2⟩
  obtain rfl:=List.mem_singleton.1 hi;exact⟨u,by rw[List.getElem?_set,if_pos Z,if_pos (by rw[h.len];exact u)]⟩
 at_:=qt h.at_
 closed i hi:=by
  rw[List.getElem?_set] at hi;split at hi
  ·rename_i e;subst e;exact .inl (by simp)
  rcases h.closed i hi with h1 | h1 | h1
  ·exact .inl<|List.mem_append_left _ h1
  ·exact .inr (.inl h1)
  exact .inr (.inr fun t' z=>qt (h1 t' z))
 done q t' hq h':=by
  by_cases e:q=m
  ·subst e;rw[A] at h';cases h';rw[List.getElem?_set,if_pos Z,if_pos (by rw[h.len];exact u)]
  exact qt<|h.done q t' B h'
theorem vF.close (h:vF nx n o st a m dl) (hm:dl.length<=m) (u:∀t∈nx a,t∈dl):C6 nx n o st where
 len:=h.len
 reach:=h.reach
 zero:=h.zero
 Hq:=h.Hq
 closed i hi:=by
  rcases h.closed i hi with h1 | h1 | h1
  ·exact .inl h1
  ·subst h1;refine .inr fun t z=>?_
   obtain⟨q,hq⟩:=gO_ (u t z);exact h.done q t (by have:=(gA.1 hq).1;omega) hq
  exact .inr h1
theorem C6.final (h:C6 nx n o []) {i:Nat}:o[i]?=some true↔Reach nx i:=by
 refine⟨h.reach i,fun hi=>?_⟩;induction hi with
 | zero=>exact h.zero
 | @step i t _ u ih=>
  rcases h.closed i ih with h1 | h1
  ·simp at h1
  exact h1 t u
end
theorem yZ {k:Nat} {c:XC} (hc:eX k c) {a g:Nat} {x:XI} {to:Int} (h:c.ins[a]?=some x) (u:(jY x a)[g]?=some to):∃t:Nat,to= .ofNat t/\t<c.ins.length/\(gM c a)[g]?=some t/\t∈dj c a:=by
 obtain⟨q,hq⟩:=gO_ (yW.1<|gB_ u);obtain⟨t,rfl,h1,h2⟩:=y6 hc h hq;refine⟨t,Z,h1,?_,gB_ h2⟩;unfold gM;rw[h];show((jY x a).map Int.toNat)[g]?=_;rw[gM_,u];rfl
theorem wX {c:XC} {a:Nat} {x:XI} (h:c.ins[a]?=some x):(gM c a).length=(jY x a).length:=by unfold gM;rw[h];simp
end Go.Ev
namespace Go.Ev
variable [Env]
open Go.Proofs
set_option maxRecDepth 4000
set_option maxHeartbeats 8000000
theorem H2 {G:Cx} (hG:Plain G) {K:KP} {k:Nat} {c:XC} {cv:V} (hi:bR K 6 (iI K k) c.ins cv) {x:XI} {a:Nat} (hx:c.ins[a]?=some x) (W:a<9223372036854775807) {U:D} {L:Own} (aq:J U K L):
  bk Tryz.prog G 252 [.agg [.int .i64 c.aY,cv],.int .i64 (.ofNat a)] U fun v U'=>∃M,cQ 1 3 dy (jY x a) v M/\J U' K (M++L):=by
 refine PS hG Tryz.func252 Z<|Pt 2 Z<|kp aq Z (cz Z Z) (fun U b1 aq=>?_);refine OX aq 8 [1,0] Z Z<|Qu (e:=79) (m:=6) hi hx Z Z Z Z (fun p9 ac X am aa=>?_);have hr9':=aa;obtain⟨v9,rfl,ab⟩:=hr9';refine O Z (QG aq X Z Z) Z<|kp aq Z (QE (cs:=[T,T,T,T,T,.ax])) (fun U b2 aq=>?_);refine bO aq Z (QH Z Z Z aq.g0 (m:=6) Z (ah Z<|ah Z<|ah Z<|ah Z<|ah Z<|ah ab.leaf.2 aC) (cells':=[_,_,_,_,_,_]) Z) Z (fun U aq=>?_);refine OW aq 9 [0,0] Z Z<|aN<|OI 3 Z<|ky Z (az Z Z Z) (fun u=>?_) (fun u=>?_)
 ·refine OQ 13 Z<|aF<|aw (?_);exact aA Z Z ⟨[],.inl ⟨by unfold jY;simp only[u,ct,cf],Z,Z⟩,aq.pop.pop⟩
 refine Pw 5 Z<|ky Z (az Z Z Z) (fun A=>?_) (fun A=>?_)
 ·refine Px 10 Z<|aF<|aw (?_);exact aA Z Z ⟨[],.inl ⟨by unfold jY;simp only[u,A,ct,cf],Z,Z⟩,aq.pop.pop⟩
 refine OO 6 Z<|ky Z (az Z Z Z) (fun C=>?_) (fun C=>?_)
 ·refine OX aq 8 [4,0] Z Z<|gT aq Z (bY (e:=3) (m:=1) (z:=[T]) (cs:=[_]) Y Y Y Y<|bD Z Z Z Z bJ) (fun _=>Z) (fun U F aq=>?_);refine Px 4 Z<|aF<|aw (?_);exact aA Z Z ⟨[(F,_)],by unfold jY;simp only[u,A,C,ct,cf];exact gO (xs:=[x.to]) (by simp),aq.sub (.cons_cons _ (.cons _ (.cons _ (.refl _))))⟩
 refine OO 6 Z<|ky Z (az Z Z Z) (fun E=>?_) (fun E=>?_)
 ·refine Ou aq 10 [4,0] Z Z<|O Z (az Z Z (show _=some (V.int .i64 (.ofNat (a+1))) from cI (bg W))) Z<|Pv 3 Z<|aE Z (fun Q=>?_) (fun Q=>?_)
  ·refine PA aq 5 [4,0] Z Z<|O Z (az Z Z (show _=some (V.int .i64 (.ofNat (a+1))) from cI (bg W))) Z<|gT aq Z (bY (e:=3) (m:=1) (z:=[T]) (cs:=[_,_]) Y Y Y Y<|bD Z Z Z Z<|bD Z Z Z Z bJ) (fun _=>Z) (fun U F aq=>?_);refine Px 4 Z<|aw<|aF<|aw (?_);exact aA Z Z ⟨[(F,_)],by unfold jY;simp only[u,A,C,E,Q,ct,cf];exact gO (xs:=[x.to,.ofNat (a+1)]) (by simp),aq.sub (.cons_cons _ (.cons _ (.cons _ (.refl _))))⟩
  refine OV aq 7 [4,0] Z Z<|O Z (az Z Z (show _=some (V.int .i64 (.ofNat (a+1))) from cI (bg W))) Z<|Pv 3 Z<|aE Z (fun R=>?_) (fun R=>?_)
  ·refine Pt 3 Z<|O Z (az Z Z (show _=some (V.int .i64 (.ofNat (a+1))) from cI (bg W))) Z<|P3 aq 2 [4,0] Z Z<|gT aq Z (bY (e:=3) (m:=1) (z:=[T]) (cs:=[_,_]) Y Y Y Y<|bD Z Z Z Z<|bD Z Z Z Z bJ) (fun _=>Z) (fun U F aq=>?_);refine Px 4 Z<|aF<|aw (?_);exact aA Z Z ⟨[(F,_)],by unfold jY;simp only[u,A,C,E,Q,R,ct,cf];exact gO (xs:=[.ofNat (a+1),x.to]) (by simp),aq.sub (.cons_cons _ (.cons _ (.cons _ (.refl _))))⟩
  refine aG<|aJ<|Pt 3 Z<|O Z (az Z Z (show _=some (V.int .i64 (.ofNat (a+1))) from cI (bg W))) Z<|gT aq Z (bY (e:=3) (m:=1) (z:=[T]) (cs:=[_]) Y Y Y Y<|bD Z Z Z Z bJ) (fun _=>Z) (fun U F aq=>?_);refine Px 4 Z ?_;exact aA Z Z ⟨[(F,_)],by unfold jY;simp only[u,A,C,E,Q,R,ct,cf];exact gO (xs:=[.ofNat (a+1)]) (by simp),aq.sub (.cons_cons _ (.cons _ (.cons _ (.refl _))))⟩
 refine OP 6 Z<|Pt 3 Z<|O Z (az Z Z (show _=some (V.int .i64 (.ofNat (a+1))) from cI (bg W))) Z<|gT aq Z (bY (e:=3) (m:=1) (z:=[T]) (cs:=[_]) Y Y Y Y<|bD Z Z Z Z bJ) (fun _=>Z) (fun U F aq=>?_);refine Px 4 Z ?_;exact aA Z Z ⟨[(F,_)],by unfold jY;simp only[u,A,C,E,ct,cf];exact gO (xs:=[.ofNat (a+1)]) (by simp),aq.sub (.cons_cons _ (.cons _ (.cons _ (.refl _))))⟩
theorem Bv {G:Cx} (u:Plain G) {K:KP} {k:Nat} {c:XC} {cv:V} (hi:bR K 6 (iI K k) c.ins cv) {x:XI} {a:Nat} (hx:c.ins[a]?=some x) (z:a<9223372036854775807) {U:D} {L:Own} (aq:J U K L):
  bk Tryz.prog G 214 [.agg [.int .i64 c.aY,cv],.int .i64 (.ofNat a)] U fun v U'=>∃M,cQ 1 3 dy (jY x a) v M/\J U' K (M++L):=by
 refine PS u Tryz.func214 Z<|Pt 2 Z<|kp aq Z (cz Z Z) (fun U b1 aq=>?_);refine OO 5 Z<|O Z (QC Z aq.g0 (n:=2) (vs:=[_,_]) Z) Z<|vQ 1 Z<|cH Z (Qz Z Z Z) (fun _=>Z) (H2 u hi hx z aq) ?_;rintro v7 U ⟨A,hM7,aq⟩;refine Px 4 Z ?_;exact aA Z Z ⟨A,hM7,aq.sub<|dH (.cons _ (.refl _))⟩
theorem Gl {G:Cx} (hG:Plain G) {K:KP} {k:Nat} {c:XC} {cv:V} (W:eX k c) (be:dq k c=0) (hF:mn k c) (hS:um k c) (hi:bR K 6 (iI K k) c.ins cv) {U:D} {L:Own} (aq:J U K L):
  bk Tryz.prog G 213 [.agg [.int .i64 c.aY,cv]] U fun v U'=>∃(o:List Bool) (b:Nat),v= .slice b 0 c.ins.length (.known c.ins.length)/\o.length=c.ins.length/\(∀i:Nat,o[i]?=some true↔Reach (dj c) i)/\J U' K ((b,.row (o.map gB) 4 false)::L):=by
 have hlen:=W.len;have hpos:=W.pos;refine PS hG Tryz.func213 Z<|Pt 2 Z<|kp aq Z (cz Z Z) (fun U b1 aq=>?_);refine On 6 Z<|O Z (QC Z aq.g0 (n:=2) (vs:=[_,_]) Z) Z<|bf Z (Qz Z Z Z) (fun _=>Z) (v8 hG hi hF hS aq) (fun U aq=>?_);refine Pv 3 Z<|aE Z (fun am=>?_) (fun am=>?_)
 ·exact absurd am (by rw[gU hF,be];decide)
 refine OV aq 6 [1,0] Z Z<|O Z (QD hi Z Z Z (e:=79) Z) Z<|gT aq Z (k9 (e:=4) (w:=1) (z:=[gB false]) Y Y Y Y Z Z B B) (fun _=>Z) (fun U b2 aq=>?_);rw[iT (f:=gB)] at aq;refine OO 6 Z (O Z (eo (e:=4) (m:=1) Y Y Z Z hpos) Z (cC aq .here Z (aL Z Z Z aq.g0 (m:=1) Y Z (by rw[lM_];simp;omega) Z (cells':=((List.replicate c.ins.length false).set 0 true).map (gB))<|fb (f:=gB) (v:=true) (by simp;omega) (by first | omega | rfl)) Z (fun U aq=>?_)));refine OO 4 Z<|gT aq Z (bY (e:=3) (m:=1) (z:=[T]) (cs:=[_]) Y Y Y Y<|bD Z Z Z Z bJ) (fun _=>Z) (fun U b3 aq=>?_);refine Om 5 Z (bp (rg 4 4++rg 18 44) (fun j t U=>∃(o:List Bool) (st:List Nat) (u:V) (Mp:Own),C6 (dj c) c.ins.length o st/\2*tO o+st.length<=j/\2*tO o+st.length<=8002/\nt 1 3 dy (st.map .ofNat) u Mp/\t.get 4=some (u)/\J U K (Mp++((b2,.row (o.map gB) 4 false)::(b1,.row [.int .i64 c.aY,cv] 33 false)::L))) ((2*c.ins.length+1)) ⟨_,[0],_,[(b3,.row [gI 0] 3 false)],Ow hpos,(by have:=sM ((List.replicate c.ins.length false).set 0 true);simp at this⊢;omega),(by have:=sM ((List.replicate c.ins.length false).set 0 true);simp at this⊢;omega),(gO (xs:=[0]) (by simp)).Oi,Z,aq⟩ ?_);clear aq;intro j6 t U ar hI;obtain⟨o,st,u,Mp,hinv,ce,cg,hP,X,aq⟩:=hI;obtain⟨oo,rfl⟩:=ar.q1 X Z;refine OI 3 Z ?_;have hol:=hinv.len;refine vQ 1 Z<|O Z (uj hP Z Z Z (e:=3) Y Z) Z<|ky Z (az Z Z Z) (fun aa=>?_) (fun aa=>?_)
 ·refine Pv 3 Z<|aG<|ad<|aN<|Pt 4 Z<|O Z (uj hP Z Z Z (e:=3) Y Z) Z<|vQ 1 Z ?_;have ao:0<st.length:=by have:=bu (a:=0) aa;rwa[iC] at this
  obtain⟨a,ap⟩:∃a,st.getLast?=some a:=by cases hq:st.getLast? with | none=>(rw[List.getLast?_eq_none_iff.1 hq] at ao;exact absurd ao<|Nat.lt_irrefl _) | some a=>exact⟨a,rfl⟩
  have hla':=Fp ap;obtain⟨bi,ch⟩:=hinv.Hq a (gB_ hla');obtain⟨xa,ab⟩:=cm bi;have hfl:=sM o;have hpl:=hP.bG;rw[iC] at hpl;refine Qu (e:=3) (m:=1) (hP.kq (K:=K.ic Mp) fun y hy=>.inr hy) (Jb hla') Z Z Z (cI ((congrArg (fun q=>wr .i64 (Int.sub (.ofNat q) 1))<|iC st).trans<|kY (b:=1) B B)) (fun ci bv aI bw a0=>?_);obtain rfl:=a0;refine O Z (QF (aq.keeps) aI Z Z) Z<|OO 7 Z<|O Z (uj hP Z Z Z (e:=3) Y Z) Z<|vQ 1 Z ?_;obtain⟨ck,hP2,bl⟩:=hP.L8 (k:=st.length-1) (by rw[iC];omega);rw[zh] at hP2;refine O Z (bn Z<|bl Y Y Z (show _=some (V.int .i64 (.ofNat (st.length-1))) from cI ((congrArg (fun q=>wr .i64 (Int.sub (.ofNat q) 1))<|iC st).trans<|kY (b:=1) B B))) Z<|OO 5 Z<|O Z (QC Z aq.aQ.pop.g0 (n:=2) (vs:=[_,_]) Z) Z<|vQ 1 Z<|cH Z (Qz Z Z Z) (fun _=>Z) (H2 hG hi ab B aq) ?_;rintro cl U ⟨a1,hM34,aq⟩;replace aq:=aq.keeps;have hS34:=hM34.kq (K:=K.ic a1) fun y hy=>.inr hy
  have a2:vF (dj c) c.ins.length o st.dropLast a 0 (gM c a):=hinv.pop ap;have cn:st.dropLast.length+1=st.length:=by rw[List.length_dropLast];omega
  refine OM 9 Z (bp ([4,7]++rg 35 27) (fun j t U=>∃(i2:Nat) (E:List Bool) (A:List Nat) (u4:V) (Mq:Own),j+i2=(jY xa a).length/\vF (dj c) c.ins.length E A a i2 (gM c a)/\2*tO E+A.length+1<=j6/\2*tO E+A.length+1<=8002/\nt 1 3 dy (A.map .ofNat) u4 Mq/\t.get 4=some (u4)/\t.get 7=some (.int .i64 (.ofNat i2))/\J U (K.ic a1) (Mq++((b2,.row (E.map gB) 4 false)::(b1,.row [.int .i64 c.aY,cv] 33 false)::L))) ((jY xa a).length) ⟨0,o,st.dropLast,_,Mp,Z,a2,B,B,hP2,Z,Z,aq⟩ ?_);clear aq;intro a3 t U ar hI;obtain⟨i2,E,A,u4,Mq,b0,M,co,b5,hP3,X,bm,aq⟩:=hI;obtain⟨oo,rfl⟩:=ar.q2 X bm Z;refine OI 3 Z ?_;have hol2:=M.len;refine PZ 2 Z<|O Z (QD hS34 Z Z Z (e:=3) Z) Z<|Pv 3 Z<|aE Z (fun F=>?_) (fun F=>?_)
  ·refine NP 9 Z ?_;obtain⟨cp,C,b6⟩:=cL F;refine Qu (e:=3) (m:=1) hS34 C Z Z Z Z (fun cx b7 a4 b8 a5=>?_);obtain rfl:=a5;obtain⟨to,rfl,Q,R,bo⟩:=yZ W ab C;obtain⟨ob,ac⟩:=cm (show to<E.length from by omega);refine O Z (QF aq a4 Z Z) Z<|O Z (eo (e:=4) (m:=1) Y Y Z Z Q) Z<|O Z (ay Z aq.aQ.g0 Y<|jZ ac (by first | omega | rfl)) Z<|O Z (cV Z) Z<|Pv 2 Z<|aE Z (fun h48=>?_) (fun h48=>?_)
   ·refine Pt 5 Z<|Qu (e:=3) (m:=1) hS34 C Z Z Z Z (fun c0 b9 a6 ca a7=>?_);obtain rfl:=a7;refine O Z (QF aq a6 Z Z) Z<|O Z (eo (e:=4) (m:=1) Y Y Z Z Q) Z ?_;have hf2:=BH (show E[to]?=some false from by have h48:=h48;cases ob;exact ac;cases h48);refine cC aq (.cM .here) Z (aL Z Z Z aq.aQ.g0 (m:=1) Y Z (by rw[lM_];rw[hol2];omega) Z (cells':=((E).set to true).map (gB))<|fb (f:=gB) (v:=true) (by rw[hol2];exact Q) (by first | omega | rfl)) Z (fun U aq=>?_);refine Pw 6 Z<|Qu (e:=3) (m:=1) hS34 C Z Z Z Z (fun c1 cb a8 cc a9=>?_);obtain rfl:=a9;refine O Z (QF aq a8 Z Z) Z<|gT aq Z (bY (e:=3) (m:=1) (z:=[T]) (cs:=[_]) Y Y Y Y<|bD Z Z Z Z bJ) (fun _=>Z) (fun U b4 aq=>?_);obtain⟨U,bs,bt,bb,hP4,aq⟩:=qg (P:=Tryz.prog) (ts:= #[34,34]) (t:=34) (e:=3) (l2:=[Int.ofNat to]) hP3 aq (fK (xs:=[Int.ofNat to]) (.inr ⟨Z,Z⟩) (by simp)) dy.leaf (by simp) (by simp) (by rw[iC];have:=sM E;omega) Z Y Y Y;rw[show A.map Int.ofNat++[Int.ofNat to]=(A++[to]).map Int.ofNat from by rw[List.map_append];rfl] at hP4;refine O Z (dM Z Z Z Z Y bb) Z<|PY 2 Z<|aJ<|PW 5 Z<|aO ⟨a3-1,(by have:=bu F;omega),oF,i2+1,E.set to true,A++[to],bs,bt,B,M.mark R bo Q,(by rw[lA_];show _+(_+1)+1<=_;omega),(by rw[lA_];show _+(_+1)+1<=_;omega),hP4,Z,cI<|bg (by have:=hS34.bG;omega),aq⟩
   refine aG<|aJ<|PW 5 Z<|aO ⟨a3-1,(by have:=bu F;omega),oF,i2+1,E,A,u4,Mq,B,M.skip R (by have h48:=h48;cases ob;cases h48;exact ac),B,B,hP3,Z,cI<|bg (by have:=hS34.bG;omega),aq⟩
  refine OL 3 Z<|aT<|aJ ?_;replace aq:=aq.weaken (KP.bX _ _);refine aO ⟨j6-1,B,oF,E,A,u4,Mq,M.close (by rw[wX ab];exact bC F) (fun t ht=>si.2 ht),B,B,hP3,Z,aq⟩
 refine OR 5 Z<|bc<|aT<|PX 7 Z ?_;exact aA Z Z ⟨o,b2,Z,hol,(fun i=>by have e:st= []:=eN_ (by have:=bC (a:=0) aa;rw[iC] at this;omega);subst e;exact hinv.final),aq.aQ.Ie⟩
end Go.Ev
namespace Go.Ev
variable [Env]
section
variable {nx:Nat->List Nat} {w:Nat->Nat} {r:Nat->Bool} {n i v j:Nat} {b b':List Nat} {sm:Bool}
theorem Hc (u:r i=false):iE nx w r n (i+1) (b,sm)=iE nx w r n i (b,sm):=by
 show(bif aX (r i) then _ else _)=_;rw[u];rfl
theorem Hb (u:r i=true) (hv:iH nx w b i=v) (h:n<v):iE nx w r n (i+1) (b,sm)=none:=by
 show(bif aX (r i) then _ else bif Nat.blt n (iH nx w b i) then _ else _)=_;rw[u,hv,show Nat.blt n v=true from by rw[Nat.blt_eq];exact h];rfl
theorem Lk (u:r i=true) (hv:iH nx w b i=v) (h:v<=n) (he:mZ b i=v):iE nx w r n (i+1) (b,sm)=iE nx w r n i (b,sm):=by
 show(bif aX (r i) then _ else bif Nat.blt n (iH nx w b i) then _ else bif Nat.beq (iH nx w b i) (mZ b i) then _ else _)=_;rw[u,hv,he,Nat.beq_refl,show Nat.blt n v=false from by rw[Bool.eq_false_iff];intro e;rw[Nat.blt_eq] at e;omega];rfl
theorem Jj (u:r i=true) (hv:iH nx w b i=v) (h:v<=n) (he:mZ b i≠v):iE nx w r n (i+1) (b,sm)=iE nx w r n i (b.set i v,false):=by
 show(bif aX (r i) then _ else bif Nat.blt n (iH nx w b i) then _ else bif Nat.beq (iH nx w b i) (mZ b i) then _ else iE nx w r n i (b.set i<|iH nx w b i,false))=_;rw[u,hv,show Nat.blt n v=false from by rw[Bool.eq_false_iff];intro e;rw[Nat.blt_eq] at e;omega,show Nat.beq v (mZ b i)=false from by rw[Bool.eq_false_iff];intro e;exact he (nB e).symm];rfl
theorem GV (hj:1<=j) (h:iE nx w r n n (b,true)=none):jF nx w r n j b=(0,false):=by
 obtain⟨j,rfl⟩:∃q,j=q+1:=⟨j-1,by omega⟩;unfold jF;rw[h]
theorem GW (hj:1<=j) (h:iE nx w r n n (b,true)=some (b',true)):jF nx w r n j b=(mZ b' 0,true):=by
 obtain⟨j,rfl⟩:∃q,j=q+1:=⟨j-1,by omega⟩;unfold jF;rw[h]
theorem D0 (hj:1<=j) (h:iE nx w r n n (b,true)=some (b',false)):jF nx w r n j b=jF nx w r n (j-1) b':=by
 obtain⟨j,rfl⟩:∃q,j=q+1:=⟨j-1,by omega⟩;rw[Nat.add_sub_cancel];show(match iE nx w r n n (b,true) with | none=>(0,false) | some (b',true)=>(mZ b' 0,true) | some (b',false)=>jF nx w r n j b')=_;rw[h]
theorem Lb {f:Nat->Nat} {l:List Nat} {q t m:Nat} (h:l[q]?=some t):nH f (l.drop q) m=nH f (l.drop (q+1)) (max m<|f t):=by rw[cR h];rfl
theorem IT {f:Nat->Nat} {l:List Nat} {q m:Nat} (h:l.length<=q):nH f (l.drop q) m=m:=by rw[fO h];rfl
theorem vM {t y:Nat} (h:b[t]?=some y):mZ b t=y:=by unfold mZ;rw[h];rfl
theorem rU {t B_:Nat} (h:∀i,mZ b i<=B_) (hv:v<=B_):mZ (b.set i v) t<=B_:=by
 by_cases hi:i<b.length
 ·rw[EW hi];split;exact hv;exact h t
 rw[List.set_eq_of_length_le B];exact h t
theorem Kk {t:Nat}:mZ (List.replicate n 0) t=0:=by
 unfold mZ;rw[List.getElem?_replicate];split<;>rfl
end
theorem vB {n:Nat} (h:n<=9223372036854775807):wr .i64 (Int.sub (.ofNat n) 1)=Int.sub (.ofNat n) 1:=AK (n:=(n:Int)-1) B B
theorem Pn {a b:Nat} (h:I (.ofNat a) (.ofNat b)=false):b≠a:=fun e=>by rw[e,fP] at h;cases h
theorem Pf {a b:Nat} (h:I (.ofNat a) (.ofNat b)=true):b=a:=(iJ_<|eqv h).symm
theorem Mg (n:Int):IntKind.u64.wrap n=n%18446744073709551616:=by simp[IntKind.wrap,IntKind.bits,IntKind.signed]
theorem zD (f:BitVec 64->BitVec 64->BitVec 64) (a b:Int):IntKind.i64.wrap ((f (BitVec.ofInt IntKind.i64.bits a)<|BitVec.ofInt IntKind.i64.bits b).toNat)=HM f a b:=by
 unfold HM
 have e:∀n:Int,BitVec.ofInt 64 (wr .u64 n)=BitVec.ofInt 64 n:=fun n=>by
  rw[zu,Mg];apply BitVec.eq_of_toInt_eq;rw[BitVec.toInt_ofInt,BitVec.toInt_ofInt];show(n%((18446744073709551616:Nat):Int)).bmod 18446744073709551616=n.bmod 18446744073709551616;exact Int.emod_bmod ..
 rw[e,e,zu];show IntKind.i64.wrap ((f (BitVec.ofInt 64 a)<|BitVec.ofInt 64 b).toNat:Int)=_;rw[IntKind.wrap_i64,IntKind.wrap_i64,Mg];generalize ((f (BitVec.ofInt 64 a)<|BitVec.ofInt 64 b).toNat:Int)=q;omega
end Go.Ev
namespace Go.Ev
variable [Env]
open Go.Proofs
set_option maxRecDepth 4000
set_option maxHeartbeats 8000000
theorem Ds {G:Cx} (hG:Plain G) {K:KP} {k:Nat} {c:XC} {cv:V} (W:eX k c) (bv:dq k c=0) (hF:mn k c) (hS:um k c) (hi:bR K 6 (iI K k) c.ins cv) {U:D} {L:Own} (aq:J U K L):
  bk Tryz.prog G 156 [.agg [.int .i64 c.aY,cv],.bool false] U fun v U'=>∃r:Nat->Bool,(∀i,i<c.ins.length->(r i=true↔Reach (dj c) i))/\v= .tuple [.int .i64 (.ofNat (jF (gM c) (fun _=>1) r c.ins.length (c.ins.length+2)<|List.replicate c.ins.length 0).1),.bool (jF (gM c) (fun _=>1) r c.ins.length (c.ins.length+2)<|List.replicate c.ins.length 0).2]/\J U' K L:=by
 have hlen:=W.len;have hpos:=W.pos;refine PS hG Tryz.func156 Z<|Pt 2 Z<|kp aq Z (cz Z Z) (fun U b1 aq=>?_);refine OO 6 Z<|O Z (QC Z aq.g0 (n:=2) (vs:=[_,_]) Z) Z<|cH Z (Qz Z Z Z) (fun _=>Z) (Gl hG W bv hF hS hi aq) ?_;rintro _ U ⟨o,b2,rfl,cg,bw,aq⟩;obtain⟨r,a2⟩:∃r:Nat->Bool,r=fun i=>(o[i]?).getD false:=⟨_,Z⟩
 have hr:∀i,i<c.ins.length->(r i=true↔Reach (dj c) i):=fun i hi=>by
  obtain⟨q,hq⟩:=cm (show i<o.length from by omega);rw[<-bw i,a2];dsimp only;rw[hq];cases q<;>simp
 obtain⟨LD,F⟩:∃LD,LD=jF (gM c) (fun _=>1) r c.ins.length:=⟨_,Z⟩;obtain⟨PD,A⟩:∃PD,PD=iE (gM c) (fun _=>1) r c.ins.length:=⟨_,Z⟩;refine OX aq 7 [1,1] Z Z<|O Z (QD hi Z Z Z (e:=79) Z) Z<|gT aq Z (k9 (e:=3) (w:=8) (z:=[gI 0]) Y Y Y Y Z Z B B) (fun _=>Z) (fun U b3 aq=>?_);rw[iT (f:=gI)] at aq;refine Om 10 Z (bp ([4,5]++rg 8 7++rg 21 76) (fun j t U=>∃(rd:Nat) (bl:List Nat),j+rd=c.ins.length+2/\LD (c.ins.length+2) (List.replicate c.ins.length 0)=LD j bl/\bl.length=c.ins.length/\(∀i,mZ bl i<=c.ins.length)/\t.get 8=some (.int .i64 (.ofNat rd))/\J U K ((b3,.row (bl.map gI) 3 false)::(b2,.row (o.map gB) 4 false)::(b1,.row [.int .i64 c.aY,cv] 33 false)::L)) ((c.ins.length+2)) ⟨0,List.replicate c.ins.length 0,Z,Z,by simp,(fun i=>by rw[Kk];omega),Z,aq⟩ ?_);clear aq;intro j4 t U ar hI;obtain⟨rd,bl,ch,X,a3,a4,b0,aq⟩:=hI;obtain⟨oo,rfl⟩:=ar.q1 b0 Z;refine OU aq 6 [1,2] Z Z<|O Z (QD hi Z Z Z (e:=79) Z) Z<|O Z (az Z Z (show _=some (V.int .i64 (.ofNat (c.ins.length+1))) from cI (bg B))) Z<|Pv 3 Z<|aE Z (fun C=>?_) (fun C=>?_)
 ·refine NO 10 Z (PA aq 4 [1,2] Z Z (O Z (QD hi Z Z Z (e:=79) Z) Z (OM 5 Z (bp ([4,5]++rg 9 6++rg 33 60) (fun j t U=>∃(z:Int) (b2l:List Nat) (sm:Bool),z+1=(j:Int)/\j<=c.ins.length/\PD c.ins.length (bl,true)=PD j (b2l,sm)/\b2l.length=c.ins.length/\(∀i,mZ b2l i<=c.ins.length)/\t.get 9=some (.bool sm)/\t.get 10=some (.int .i64 z)/\J U K ((b3,.row (b2l.map gI) 3 false)::(b2,.row (o.map gB) 4 false)::(b1,.row [.int .i64 c.aY,cv] 33 false)::L)) (c.ins.length) ⟨Int.sub (.ofNat c.ins.length) 1,bl,true,(show(c.ins.length:Int)-1+1=((c.ins.length:Nat):Int) by omega),nR_ _,Z,a3,a4,Z,(cI<|vB B),aq⟩ ?_))));clear aq;intro j8 t U ar hI;obtain⟨z,b2l,sm,hz,ci,Q,u,E,b4,a5,aq⟩:=hI;obtain⟨oo,rfl⟩:=ar.q2 b4 a5 Z;refine OI 4 Z<|ky Z (az Z Z Z) (fun ap=>?_) (fun ap=>?_)
  ·refine Pv 3 Z<|NO 5 Z<|Pt 2 Z ?_;obtain⟨i,rfl⟩:=iQ (bT ap);obtain rfl:j8=i+1:=by have:((i:Nat):Int)+1=(j8:Int):=hz;omega
   obtain⟨oi,a6⟩:=cm (show i<o.length from by omega);have aa:r i=oi:=by rw[a2];dsimp only;rw[a6];rfl
   refine PZ 2 Z<|O Z (eo (e:=4) (m:=1) Y Y Z Z B) Z<|O Z (ay Z aq.g1 Y<|jZ a6 (by first | omega | rfl)) Z<|ky Z (cV Z) (fun h41=>?_) (fun h41=>?_)
   ·refine OR 5 Z<|aT<|PW 5 Z ?_;refine aO ⟨i,B,oF,Int.sub (.ofNat i) 1,b2l,sm,(show(i:Int)-1+1=((i:Nat):Int) by omega),B,(by rw[Q,A];exact Hc (by rw[aa];have h41:=h41;cases oi;rfl;cases h41)),(by first | exact u | (rw[List.length_set];exact u)),(by first | exact E | exact fun q=>rU E (by have:=bC M;omega)),Z,cI<|vB B,aq⟩
   refine Oo 12 Z<|O Z (QC Z (aq.get 2 Z) (n:=2) (vs:=[_,_]) Z) Z<|vQ 1 Z ?_;obtain⟨xi,ab⟩:=cm (show i<c.ins.length from by omega);refine cH Z (Qz Z Z Z) (fun _=>Z) (Bv hG hi ab B aq) ?_;rintro ck U ⟨a7,hM44,aq⟩;replace aq:=aq.keeps;have hS44:=hM44.kq (K:=K.ic a7) fun y hy=>.inr hy
   refine Om 10 Z (bp ([11,13]++rg 45 15) (fun j t U=>∃(q m:Nat),j+q=(jY xi i).length/\nH (mZ b2l) (gM c i) 0=nH (mZ b2l) ((gM c i).drop q) m/\m<=c.ins.length/\t.get 11=some (.int .i64 (.ofNat m))/\t.get 13=some (.int .i64 (.ofNat q))/\J U (K.ic a7) ((b3,.row (b2l.map gI) 3 false)::(b2,.row (o.map gB) 4 false)::(b1,.row [.int .i64 c.aY,cv] 33 false)::L)) ((jY xi i).length) ⟨0,0,Z,Z,Nat.zero_le _,Z,Z,aq⟩ ?_);clear aq;intro b5 t U ar hI;obtain⟨q,m,b7,ac,cl,a8,a9,aq⟩:=hI;obtain⟨oo,rfl⟩:=ar.q2 a8 a9 Z;refine OI 5 Z<|O Z (QD hS44 Z Z Z (e:=3) Z) Z<|Pv 3 Z<|aE Z (fun R=>?_) (fun R=>?_)
   ·refine Ok 4 Z<|ai Z<|PZ 4 Z ?_;obtain⟨cn,am,b8⟩:=cL R;refine Qu (e:=3) (m:=1) hS44 am Z Z Z Z (fun co b9 bb ca be=>?_);obtain rfl:=be;obtain⟨to,rfl,b6,bi,cp⟩:=yZ W ab am;obtain⟨y,hy⟩:=cm (show to<b2l.length from by omega);refine O Z (QF aq bb Z Z) Z<|O Z (eo (e:=3) (m:=1) Y Y Z Z b6) Z<|O Z (ay Z aq.g0 Y<|jZ hy (by first | omega | rfl)) Z<|O Z (Mi Z Z Z Z) Z<|PY 2 Z<|aJ<|PW 5 Z<|aO ⟨b5-1,(by have:=bu R;omega),oF,q+1,max m y,(by have:=bu R;omega),(by rw[ac,Lb bi,vM hy]),(by have:=E to;rw[vM hy] at this;omega),cI<|Fv _ _,cI<|bg (by have:=hS44.bG;omega),aq⟩
   refine OL 3 Z<|aT<|Pt 2 Z ?_;replace aq:=aq.weaken (KP.bX _ _);have hmx:=ac.trans (IT (by rw[wX ab];exact bC R));obtain⟨yi,aI⟩:=cm (show i<b2l.length from by omega);refine P3 aq 3 [1,2] Z Z<|Qu (e:=79) (m:=6) hi ab Z Z Z Z (fun cs cb bm cc bo=>?_);have hr63':=bo;obtain⟨cx,rfl,ce⟩:=hr63';refine cq bm Z Z Z (k:=0) Y (lb Z) (fun _=>Z) (fun c0 bs=>?_);refine O Z (QF aq bs Z Z) Z<|On 7 Z<|O Z (cV Z) Z<|Pw 13 Z<|O Z (az Z Z (show _=some (V.int .i64 (.ofNat (m+1))) from cI (bg B))) Z<|Ou aq 9 [1,2] Z Z<|O Z (QD hi Z Z Z (e:=79) Z) Z<|Pv 3 Z<|aE Z (fun M=>?_) (fun M=>?_)
   ·refine PX 7 Z<|aw<|aF<|aw<|bz<|aF<|aw<|aF<|aw<|bz<|aF<|aw (?_);exact bV Z Z Z ⟨r,hr,by rw[<-F,X,F,GV (by have:=bC (bT C);omega) (by rw[<-A,Q,A];exact Hb (by rw[aa];have h41:=h41;cases oi;cases h41;rfl) (show iH (gM c) (fun _=>1) b2l i=(m+1) from by unfold iH;rw[hmx])<|bu M)];rfl,aq.pop.pop.pop⟩
   refine OK 7 Z<|O Z (eo (e:=3) (m:=1) Y Y Z Z B) Z<|O Z (ay Z aq.g0 Y<|jZ aI (by first | omega | rfl)) Z<|Pv 3 Z<|aE Z (fun a0=>?_) (fun a0=>?_)
   ·refine Pt 5 Z (O Z (eo (e:=3) (m:=1) Y Y Z Z B) Z (cC aq .here Z (aL Z Z Z aq.g0 (m:=1) Y Z (by rw[lM_];rw[u];omega) Z (cells':=((b2l).set i (m+1)).map (gI)) (fb (f:=gI) (v:=(m+1)) (by rw[u];omega) (by first | omega | rfl))) Z (fun U aq=>?_)));refine OP 6 Z<|PW 5 Z ?_;refine aO ⟨i,B,oF,Int.sub (.ofNat i) 1,(b2l.set i (m+1)),false,(show(i:Int)-1+1=((i:Nat):Int) by omega),B,(by rw[Q,A];exact Jj (by rw[aa];have h41:=h41;cases oi;cases h41;rfl) (show iH (gM c) (fun _=>1) b2l i=(m+1) from by unfold iH;rw[hmx]) (by have:=bC M;omega) (by rw[vM aI];exact Pn<|bT a0)),(by first | exact u | (rw[List.length_set];exact u)),(by first | exact E | exact fun q=>rU E (by have:=bC M;omega)),Z,cI<|vB B,aq⟩
   refine aG<|aJ<|PW 5 Z ?_;refine aO ⟨i,B,oF,Int.sub (.ofNat i) 1,b2l,sm,(show(i:Int)-1+1=((i:Nat):Int) by omega),B,(by rw[Q,A];exact Lk (by rw[aa];have h41:=h41;cases oi;cases h41;rfl) (show iH (gM c) (fun _=>1) b2l i=(m+1) from by unfold iH;rw[hmx]) (by have:=bC M;omega) ((vM aI).trans<|Pf<|bj a0)),(by first | exact u | (rw[List.length_set];exact u)),(by first | exact E | exact fun q=>rU E (by have:=bC M;omega)),Z,cI<|vB B,aq⟩
  refine OR 5 Z<|bc<|aT<|Pt 2 Z ?_
  have ao:PD c.ins.length (bl,true)=some (b2l,sm):=by
   have h0:z<0:=L3.1 (bj ap);have h1:j8=0:=by omega
   rw[Q,h1,A];rfl
  refine Pv 3 Z<|aE Z (fun a1=>?_) (fun a1=>?_)
  ·refine Pt 3 Z ?_;obtain⟨y0,bt⟩:=cm (show 0<b2l.length from by omega);refine O Z (eo (e:=3) (m:=1) Y Y Z Z hpos) Z<|O Z (ay Z aq.g0 Y<|jZ bt (by first | omega | rfl)) Z<|Px 5 Z<|aF<|aw<|bz<|aF<|aw (?_);exact bV Z Z Z ⟨r,hr,by rw[<-F,X,F,GW (b':=b2l) (by have:=bC (bT C);omega) (by rw[<-A,ao,show sm=true from a1]),vM bt],aq.pop.pop.pop⟩
  refine aG (aJ (PW 5 Z (aO ⟨j4-1,(by have:=bC (bT C);omega),oF,rd+1,b2l,(by have:=bC (bT C);omega),(by rw[X,F];exact D0 (by have:=bC (bT C);omega) (by rw[<-A,ao,show sm=false from a1])),u,E,cI (bg (by have:=bC (bT C);omega)),aq⟩)))
 refine OL 3 Z<|aT<|PX 7 Z ?_;exact bV Z Z Z ⟨r,hr,by rw[<-F,X,F,show j4=0 from by have:=bu (bj C);omega];rfl,aq.pop.pop.pop⟩
theorem LO {G:Cx} (hG:Plain G) {K:KP}:∀(k:Nat) (x:XE) (vs:List V) (p:V),ib K p vs->vs.length=4->ey K k x vs->∀(deep size:Int) (Q e1:Nat) (U:D) (L:Own),J U K ((Q,.row [.int .i64 size] e1 false)::L)->
  bk Tryz.prog G 164 [p,.int .i64 deep,.ptr Q 0] U fun v U'=>∃s',v= .bool (lH k x deep size).isSome/\J U' K ((Q,.row [.int .i64 s'] e1 false)::L)/\∀s,lH k x deep size=some s->s'=s:=by
 intro k;induction k with
 | zero=>intro x vs p _ _ h;cases x;exact h.elim
 | succ k ih=>
 intro x vs p hp hl h deep size Q e1 U L aq;obtain⟨op,num,name,kids⟩:=x;obtain⟨v,rfl,hk⟩:=h;obtain⟨F,hF⟩:∃F:XE->Int->Option Int,F=fun x m=>lH k x (wr .i64<|Int.add deep 1) m:=⟨_,Z⟩
 have hS:lH (k+1) (.mk op num name kids) deep size=bif (bif bU 2000 (wr .i64<|Int.add size 1) then true else bU 32 deep) then none else iy F kids (wr .i64<|Int.add size 1):=by rw[hF];rfl
 rw[hS];clear hS;refine PS hG Tryz.func164 Z<|Pt 8 Z<|O Z (eW Z) Z<|P3 aq 2 [0] Z Z<|O Z (eW Z) Z<|bO aq Z (QH Z Z Z aq.g0 (m:=1) Z Z (cells':=[_]) Z) Z (fun U aq=>?_);refine On 6 Z<|O Z (eW Z) Z<|P3 aq 2 [0] Z Z<|ky Z (an Z) (fun u=>?_) (fun u=>?_)
 ·refine OQ 13 Z ?_;exact aA Z Z ⟨_,by rw[u];rfl,aq,fun s z=>by rw[u] at z;cases z⟩
 refine Pv 5 Z<|aE Z (fun A=>?_) (fun A=>?_)
 ·refine Pu 7 Z ?_;exact aA Z Z ⟨_,by rw[u,A];rfl,aq,fun s z=>by rw[u,A] at z;cases z⟩
 refine Ol 6 Z<|O Z (dN hp Z) Z<|cq hp Z Z Z (k:=3) Y (lb Z) (fun _=>Z) (fun aY R=>?_);refine O Z (QF aq R Z Z) Z (O Z (QD hk Z Z Z (e:=82) Z) Z (OM 4 Z (bp ([6,7]++rg 26 15) (fun j t U=>∃(i:Nat) (m:Int),j+i=kids.length/\iy F kids (wr .i64<|Int.add size 1)=iy F (kids.drop i) m/\t.get 26=some (.int .i64 (.ofNat i))/\J U K ((Q,.row [.int .i64 m] e1 false)::L)) (kids.length) ⟨0,_,Z,Z,Z,aq⟩ ?_)));clear aq;intro j5 t U ar hI;obtain⟨i,m,hj,he,W,aq⟩:=hI;obtain⟨oo,rfl⟩:=ar.q1 W Z;refine Ps 6 Z<|aE Z (fun E=>?_) (fun E=>?_)
 ·refine NP 13 Z<|O Z (dN hp Z) Z<|cq hp Z Z Z (k:=3) Y (lb Z) (fun _=>Z) (fun a0 X=>?_);refine O Z (QF aq X Z Z) Z<|vQ 1 Z ?_;obtain⟨aa,C,ap⟩:=cL E;refine Qu (e:=82) (m:=4) hk C Z Z Z Z (fun a1 aI ab ac am=>?_);have hr34raw:=am;refine PZ 3 Z<|cH Z (Qz Z Z Z) (fun _=>Z) (ih aa _ _ ab ac hr34raw _ _ _ _ _ _ aq) ?_;rintro _ U ⟨m2,rfl,aq,ao⟩;refine O Z (cV Z) Z<|Pv 2 Z<|aE Z (fun M=>?_) (fun M=>?_)
  ·refine PX 6 Z<|aF<|aw<|bz<|aF<|aw (?_);exact aA Z Z ⟨_,by rw[u,A];show _=V.bool (iy F kids _).isSome;rw[he,uW C (by rw[hF];exact bT M)];rfl,aq,fun s z=>by rw[u,A] at z;rw[show iy F kids _=none from by rw[he];exact uW C (by rw[hF];exact bT M)] at z;cases z⟩
  refine aG (aJ (PW 4 Z (aO ⟨j5-1,by omega,oF,i+1,m2,by omega,(by obtain⟨s,z⟩:=Option.isSome_iff_exists.1 (bj M);rw[he,Cz C (show F aa m=some s from by rw[hF];exact z),ao s z]),cI<|bg (by have:=hk.bG;omega),aq⟩)))
 refine OL 3 Z<|aT<|PX 6 Z ?_;exact aA Z Z ⟨_,by rw[u,A];show _=V.bool (iy F kids _).isSome;rw[he,xA<|bC E];rfl,aq,fun s z=>by rw[u,A] at z;rw[show iy F kids _=some m from by rw[he];exact xA<|bC E] at z;cases z;rfl⟩
theorem CS {G:Cx} (hG:Plain G) {K:KP} (aY:Int):∀(k:Nat) (x:XE) (vs:List V) (p:V),ib K p vs->vs.length=4->ey K k x vs->∀(U:D) (L:Own),J U K L->bk Tryz.prog G 218 [p,.int .i64 aY] U fun v U'=>v= .bool (ea aY k x)/\J U' K L:=by
 intro k;induction k with
 | zero=>intro x vs p _ _ h;cases x;exact h.elim
 | succ k ih=>
 intro x vs p hp hl h U L aq;obtain⟨op,num,name,kids⟩:=x;obtain⟨v,rfl,hk⟩:=h
 have hS:ea aY (k+1) (.mk op num name kids)=bif I op 1 then(bif aX (bU num 0) then(bif gL name [] then I (.ofNat kids.length) 0 else false) else false) else
  bif I op 2 then(bif (iG name).isSome then(bif bU (Ov<|iG name) aY then(bif I num 0 then I (.ofNat kids.length) 0 else false) else false) else false) else
  bif (bif (bif I op 3 then true else I op 4) then false else(bif bU op 5 then true else bU 16 op)) then false else
  bif (bif aX (I num 0) then true else bif aX (gL name []) then true else aX (I (.ofNat kids.length)<|fQ op)) then false else
  kids.all (ea aY k):=by show(bif I op 1 then _ else bif I op 2 then(match iG name with | some n=>_ | none=>false) else _)=_;cases iG name<;>rfl
 rw[hS];clear hS;have X:gL name (List.map UInt8.toNat (ByteArray.mk #[]).data.toList)=gL name []:=rfl;refine PS hG Tryz.func218 Z<|OH 12 Z<|Pt 3 Z<|O Z (dN hp Z) Z<|cq hp Z Z Z (k:=0) Y (lb Z) (fun _=>Z) (fun cb bv=>?_);refine O Z (QF aq bv Z Z) Z<|Pv 4 Z<|aE Z (fun W=>?_) (fun W=>?_)
 ·refine Pt 3 Z<|O Z (dN hp Z) Z<|cq hp Z Z Z (k:=1) Y (lb Z) (fun _=>Z) (fun cc bw=>?_);refine O Z (QF aq bw Z Z) Z<|vQ 1 Z<|ky Z (an Z) (fun a9=>?_) (fun a9=>?_)
  ·refine vQ 1 Z<|O Z (dN hp Z) Z<|cq hp Z Z Z (k:=2) Y (lb Z) (fun _=>Z) (fun ce b0=>?_);refine O Z (QF aq b0 Z Z) Z<|PZ 2 Z<|ky Z (an Z) (fun bs=>?_) (fun bs=>?_)
   ·refine vQ 1 Z<|O Z (dN hp Z) Z<|cq hp Z Z Z (k:=3) Y (lb Z) (fun _=>Z) (fun cg b1=>?_);refine O Z (QF aq b1 Z Z) Z<|O Z (QD hk Z Z Z (e:=82) Z) Z<|Px 6 Z<|aF<|aw (?_);exact aA Z Z ⟨cB (by simp only[aX,fQ];(try rw[<-X]);simp only[W,a9,bs,ct,cf]<;>rfl),aq⟩
   refine Px 11 Z<|aF<|aw (?_);exact aA Z Z ⟨cB (by simp only[aX,fQ];(try rw[<-X]);simp only[W,a9,bs,ct,cf]<;>rfl),aq⟩
  refine Px 18 Z<|aF<|aw (?_);exact aA Z Z ⟨cB (by simp only[aX,fQ];(try rw[<-X]);simp only[W,a9,ct,cf]<;>rfl),aq⟩
 refine Pt 3 Z<|O Z (dN hp Z) Z<|cq hp Z Z Z (k:=0) Y (lb Z) (fun _=>Z) (fun ch b2=>?_);refine O Z (QF aq b2 Z Z) Z<|Pv 4 Z<|aE Z (fun C=>?_) (fun C=>?_)
 ·refine Pt 3 Z<|O Z (dN hp Z) Z<|cq hp Z Z Z (k:=2) Y (lb Z) (fun _=>Z) (fun ci b3=>?_);refine O Z (QF aq b3 Z Z) Z<|bf Z (Qz Z Z Z) (fun _=>Z) (EI hG _ aq) (fun U aq=>?_);refine OO 10 Z<|ky Z (an Z) (fun a5=>?_) (fun a5=>?_)
  ·refine PZ 4 Z<|ky Z (an Z) (fun bb=>?_) (fun bb=>?_)
   ·refine vQ 1 Z<|O Z (dN hp Z) Z<|cq hp Z Z Z (k:=1) Y (lb Z) (fun _=>Z) (fun ck b4=>?_);refine O Z (QF aq b4 Z Z) Z<|PZ 2 Z<|ky Z (an Z) (fun bt=>?_) (fun bt=>?_)
    ·refine vQ 1 Z<|O Z (dN hp Z) Z<|cq hp Z Z Z (k:=3) Y (lb Z) (fun _=>Z) (fun cl b5=>?_);refine O Z (QF aq b5 Z Z) Z<|O Z (QD hk Z Z Z (e:=82) Z) Z<|Px 6 Z<|aF<|aw (?_);exact aA Z Z ⟨cB (by simp only[aX,fQ];(try rw[<-X]);simp only[W,C,a5,bb,bt,ct,cf]<;>rfl),aq⟩
    refine Px 11 Z<|aF<|aw (?_);exact aA Z Z ⟨cB (by simp only[aX,fQ];(try rw[<-X]);simp only[W,C,a5,bb,bt,ct,cf]<;>rfl),aq⟩
   refine Px 18 Z<|aF<|aw (?_);exact aA Z Z ⟨cB (by simp only[aX,fQ];(try rw[<-X]);simp only[W,C,a5,bb,ct,cf]<;>rfl),aq⟩
  refine Px 23 Z<|aF<|aw (?_);exact aA Z Z ⟨cB (by simp only[aX,fQ];(try rw[<-X]);simp only[W,C,a5,ct,cf]<;>rfl),aq⟩
 refine Pt 3 Z<|O Z (dN hp Z) Z<|cq hp Z Z Z (k:=0) Y (lb Z) (fun _=>Z) (fun cn b6=>?_);refine O Z (QF aq b6 Z Z) Z<|vQ 1 Z<|ky Z (an Z) (fun F=>?_) (fun F=>?_)
 ·refine OP 14 Z<|OI 4 Z<|O Z (dN hp Z) Z<|cq hp Z Z Z (k:=1) Y (lb Z) (fun _=>Z) (fun b7 a1=>?_);refine O Z (QF aq a1 Z Z) Z<|vQ 1 Z<|ky Z (an Z) (fun u=>?_) (fun u=>?_)
  ·refine OQ 25 Z ?_;exact aA Z Z ⟨cB (by simp only[aX,fQ];(try rw[<-X]);simp only[W,C,F,u,ct,cf]<;>rfl),aq⟩
  refine vQ 1 Z<|O Z (dN hp Z) Z<|cq hp Z Z Z (k:=2) Y (lb Z) (fun _=>Z) (fun be aa=>?_);refine O Z (QF aq aa Z Z) Z<|PZ 2 Z<|ky Z (an Z) (fun z=>?_) (fun z=>?_)
  ·refine OQ 18 Z ?_;exact aA Z Z ⟨cB (by simp only[aX,fQ];(try rw[<-X]);simp only[W,C,F,u,z,ct,cf]<;>rfl),aq⟩
  refine vQ 1 Z<|O Z (dN hp Z) Z<|cq hp Z Z Z (k:=3) Y (lb Z) (fun _=>Z) (fun bi ab=>?_);refine O Z (QF aq ab Z Z) Z<|O Z (QD hk Z Z Z (e:=82) Z) Z<|Pv 5 Z<|aE Z (fun E=>?_) (fun E=>?_)
  ·refine Pu 7 Z ?_;exact aA Z Z ⟨cB (by simp only[aX,fQ];(try rw[<-X]);simp only[W,C,F,u,z,E,ct,cf]<;>rfl),aq⟩
  refine Ol 6 Z<|O Z (dN hp Z) Z<|cq hp Z Z Z (k:=3) Y (lb Z) (fun _=>Z) (fun bl ac=>?_);refine O Z (QF aq ac Z Z) Z<|O Z (QD hk Z Z Z (e:=82) Z) Z<|OM 4 Z ?_;obtain⟨LL1,aq,hLL1⟩:=aq.named;refine bp ([4,8]++rg 122 13) (fun j t U=>∃(i:Nat),j+i=kids.length/\(kids.take i).all (ea aY k)=true/\t.get 122=some (.int .i64 (.ofNat i))/\J U K LL1) (kids.length) ⟨0,Z,Z,Z,aq⟩ ?_;clear aq;intro a6 t U ar hI;obtain⟨i,hj,ha,am,aq⟩:=hI;subst hLL1;obtain⟨oo,rfl⟩:=ar.q1 am Z;refine Ps 6 Z<|aE Z (fun M=>?_) (fun M=>?_)
  ·refine NP 13 Z<|O Z (dN hp Z) Z<|cq hp Z Z Z (k:=3) Y (lb Z) (fun _=>Z) (fun bm ao=>?_);refine O Z (QF aq ao Z Z) Z<|vQ 1 Z ?_;obtain⟨a2,A,a7⟩:=cL M;refine Qu (e:=82) (m:=4) hk A Z Z Z Z (fun bo a8 ap aI a0=>?_);have hr130raw:=a0;refine vQ 1 Z<|bf Z (Qz Z Z Z) (fun _=>Z) (ih a2 _ _ ap aI hr130raw _ _ aq) (fun U aq=>?_);refine O Z (cV Z) Z<|Pv 2 Z<|aE Z (fun Q=>?_) (fun Q=>?_)
   ·refine PX 6 Z<|aF<|aw<|bz<|aF<|aw (?_);exact aA Z Z ⟨cB (by rw[gG A<|bT Q];simp only[aX,fQ];(try rw[<-X]);simp only[W,C,F,u,z,E,ct,cf]<;>rfl),aq⟩
   refine aG<|aJ<|PW 4 Z<|aO ⟨a6-1,by omega,oF,i+1,by omega,eR ha A<|bj Q,cI<|bg (by have:=hk.bG;omega),aq⟩
  refine OL 3 Z<|aT<|PX 6 Z ?_;exact aA Z Z ⟨cB (by rw[dR ha<|bC M];simp only[aX,fQ];(try rw[<-X]);simp only[W,C,F,u,z,E,ct,cf]<;>rfl),aq⟩
 refine vQ 1 Z<|O Z (dN hp Z) Z<|cq hp Z Z Z (k:=0) Y (lb Z) (fun _=>Z) (fun co b8=>?_);refine O Z (QF aq b8 Z Z) Z<|Pv 5 Z<|aE Z (fun R=>?_) (fun R=>?_)
 ·refine PW 3 Z<|aJ<|OI 4 Z<|O Z (dN hp Z) Z<|cq hp Z Z Z (k:=1) Y (lb Z) (fun _=>Z) (fun b7 a1=>?_);refine O Z (QF aq a1 Z Z) Z<|vQ 1 Z<|ky Z (an Z) (fun u=>?_) (fun u=>?_)
  ·refine OQ 25 Z ?_;exact aA Z Z ⟨cB (by simp only[aX,fQ];(try rw[<-X]);simp only[W,C,F,R,u,ct,cf]<;>rfl),aq⟩
  refine vQ 1 Z<|O Z (dN hp Z) Z<|cq hp Z Z Z (k:=2) Y (lb Z) (fun _=>Z) (fun be aa=>?_);refine O Z (QF aq aa Z Z) Z<|PZ 2 Z<|ky Z (an Z) (fun z=>?_) (fun z=>?_)
  ·refine OQ 18 Z ?_;exact aA Z Z ⟨cB (by simp only[aX,fQ];(try rw[<-X]);simp only[W,C,F,R,u,z,ct,cf]<;>rfl),aq⟩
  refine vQ 1 Z<|O Z (dN hp Z) Z<|cq hp Z Z Z (k:=3) Y (lb Z) (fun _=>Z) (fun bi ab=>?_);refine O Z (QF aq ab Z Z) Z<|O Z (QD hk Z Z Z (e:=82) Z) Z<|Pv 5 Z<|aE Z (fun E=>?_) (fun E=>?_)
  ·refine Pu 7 Z ?_;exact aA Z Z ⟨cB (by simp only[aX,fQ];(try rw[<-X]);simp only[W,C,F,R,u,z,E,ct,cf]<;>rfl),aq⟩
  refine Ol 6 Z<|O Z (dN hp Z) Z<|cq hp Z Z Z (k:=3) Y (lb Z) (fun _=>Z) (fun bl ac=>?_);refine O Z (QF aq ac Z Z) Z<|O Z (QD hk Z Z Z (e:=82) Z) Z<|OM 4 Z ?_;obtain⟨LL2,aq,hLL2⟩:=aq.named;refine bp ([4,8]++rg 122 13) (fun j t U=>∃(i:Nat),j+i=kids.length/\(kids.take i).all (ea aY k)=true/\t.get 122=some (.int .i64 (.ofNat i))/\J U K LL2) (kids.length) ⟨0,Z,Z,Z,aq⟩ ?_;clear aq;intro a6 t U ar hI;obtain⟨i,hj,ha,am,aq⟩:=hI;subst hLL2;obtain⟨oo,rfl⟩:=ar.q1 am Z;refine Ps 6 Z<|aE Z (fun M=>?_) (fun M=>?_)
  ·refine NP 13 Z<|O Z (dN hp Z) Z<|cq hp Z Z Z (k:=3) Y (lb Z) (fun _=>Z) (fun bm ao=>?_);refine O Z (QF aq ao Z Z) Z<|vQ 1 Z ?_;obtain⟨a2,A,a7⟩:=cL M;refine Qu (e:=82) (m:=4) hk A Z Z Z Z (fun bo a8 ap aI a0=>?_);have hr130raw:=a0;refine vQ 1 Z<|bf Z (Qz Z Z Z) (fun _=>Z) (ih a2 _ _ ap aI hr130raw _ _ aq) (fun U aq=>?_);refine O Z (cV Z) Z<|Pv 2 Z<|aE Z (fun Q=>?_) (fun Q=>?_)
   ·refine PX 6 Z<|aF<|aw<|bz<|aF<|aw (?_);exact aA Z Z ⟨cB (by rw[gG A<|bT Q];simp only[aX,fQ];(try rw[<-X]);simp only[W,C,F,R,u,z,E,ct,cf]<;>rfl),aq⟩
   refine aG<|aJ<|PW 4 Z<|aO ⟨a6-1,by omega,oF,i+1,by omega,eR ha A<|bj Q,cI<|bg (by have:=hk.bG;omega),aq⟩
  refine OL 3 Z<|aT<|PX 6 Z ?_;exact aA Z Z ⟨cB (by rw[dR ha<|bC M];simp only[aX,fQ];(try rw[<-X]);simp only[W,C,F,R,u,z,E,ct,cf]<;>rfl),aq⟩
 refine Pt 3 Z<|O Z (dN hp Z) Z<|cq hp Z Z Z (k:=0) Y (lb Z) (fun _=>Z) (fun cp b9=>?_);refine O Z (QF aq b9 Z Z) Z<|vQ 1 Z<|ky Z (an Z) (fun a3=>?_) (fun a3=>?_)
 ·refine Px 16 Z<|aF<|aw (?_);exact aA Z Z ⟨cB (by simp only[aX,fQ];(try rw[<-X]);simp only[W,C,F,R,a3,ct,cf]<;>rfl),aq⟩
 refine vQ 1 Z<|O Z (dN hp Z) Z<|cq hp Z Z Z (k:=0) Y (lb Z) (fun _=>Z) (fun cs ca=>?_);refine O Z (QF aq ca Z Z) Z<|Pv 5 Z<|aE Z (fun a4=>?_) (fun a4=>?_)
 ·refine PX 6 Z<|aF<|aw (?_);exact aA Z Z ⟨cB (by simp only[aX,fQ];(try rw[<-X]);simp only[W,C,F,R,a3,a4,ct,cf]<;>rfl),aq⟩
 refine aG<|aJ<|OI 4 Z<|O Z (dN hp Z) Z<|cq hp Z Z Z (k:=1) Y (lb Z) (fun _=>Z) (fun b7 a1=>?_);refine O Z (QF aq a1 Z Z) Z<|vQ 1 Z<|ky Z (an Z) (fun u=>?_) (fun u=>?_)
 ·refine OQ 25 Z ?_;exact aA Z Z ⟨cB (by simp only[aX,fQ];(try rw[<-X]);simp only[W,C,F,R,a3,a4,u,ct,cf]<;>rfl),aq⟩
 refine vQ 1 Z<|O Z (dN hp Z) Z<|cq hp Z Z Z (k:=2) Y (lb Z) (fun _=>Z) (fun be aa=>?_);refine O Z (QF aq aa Z Z) Z<|PZ 2 Z<|ky Z (an Z) (fun z=>?_) (fun z=>?_)
 ·refine OQ 18 Z ?_;exact aA Z Z ⟨cB (by simp only[aX,fQ];(try rw[<-X]);simp only[W,C,F,R,a3,a4,u,z,ct,cf]<;>rfl),aq⟩
 refine vQ 1 Z<|O Z (dN hp Z) Z<|cq hp Z Z Z (k:=3) Y (lb Z) (fun _=>Z) (fun bi ab=>?_);refine O Z (QF aq ab Z Z) Z<|O Z (QD hk Z Z Z (e:=82) Z) Z<|Pv 5 Z<|aE Z (fun E=>?_) (fun E=>?_)
 ·refine Pu 7 Z ?_;exact aA Z Z ⟨cB (by simp only[aX,fQ];(try rw[<-X]);simp only[W,C,F,R,a3,a4,u,z,E,ct,cf]<;>rfl),aq⟩
 refine Ol 6 Z<|O Z (dN hp Z) Z<|cq hp Z Z Z (k:=3) Y (lb Z) (fun _=>Z) (fun bl ac=>?_);refine O Z (QF aq ac Z Z) Z<|O Z (QD hk Z Z Z (e:=82) Z) Z<|OM 4 Z ?_;obtain⟨LL3,aq,hLL3⟩:=aq.named;refine bp ([4,8]++rg 122 13) (fun j t U=>∃(i:Nat),j+i=kids.length/\(kids.take i).all (ea aY k)=true/\t.get 122=some (.int .i64 (.ofNat i))/\J U K LL3) (kids.length) ⟨0,Z,Z,Z,aq⟩ ?_;clear aq;intro a6 t U ar hI;obtain⟨i,hj,ha,am,aq⟩:=hI;subst hLL3;obtain⟨oo,rfl⟩:=ar.q1 am Z;refine Ps 6 Z<|aE Z (fun M=>?_) (fun M=>?_)
 ·refine NP 13 Z<|O Z (dN hp Z) Z<|cq hp Z Z Z (k:=3) Y (lb Z) (fun _=>Z) (fun bm ao=>?_);refine O Z (QF aq ao Z Z) Z<|vQ 1 Z ?_;obtain⟨a2,A,a7⟩:=cL M;refine Qu (e:=82) (m:=4) hk A Z Z Z Z (fun bo a8 ap aI a0=>?_);have hr130raw:=a0;refine vQ 1 Z<|bf Z (Qz Z Z Z) (fun _=>Z) (ih a2 _ _ ap aI hr130raw _ _ aq) (fun U aq=>?_);refine O Z (cV Z) Z<|Pv 2 Z<|aE Z (fun Q=>?_) (fun Q=>?_)
  ·refine PX 6 Z<|aF<|aw<|bz<|aF<|aw (?_);exact aA Z Z ⟨cB (by rw[gG A<|bT Q];simp only[aX,fQ];(try rw[<-X]);simp only[W,C,F,R,a3,a4,u,z,E,ct,cf]<;>rfl),aq⟩
  refine aG<|aJ<|PW 4 Z<|aO ⟨a6-1,by omega,oF,i+1,by omega,eR ha A<|bj Q,cI<|bg (by have:=hk.bG;omega),aq⟩
 refine OL 3 Z<|aT<|PX 6 Z ?_;exact aA Z Z ⟨cB (by rw[dR ha<|bC M];simp only[aX,fQ];(try rw[<-X]);simp only[W,C,F,R,a3,a4,u,z,E,ct,cf]<;>rfl),aq⟩
def Ep (h:kN):List V:=[.bool h.pc,.bool h.loc,.bool h.order,.bool h.to,.int .i64 (.ofNat h.exprs)]
def As:List V:=ja.flatMap Ep
structure rh (G:Cx) (K:KP):Prop where
 gl:Nat.ble 1 G.gl=true
 sh:∃e ro,K (posOf 0) (.row As e ro)
theorem rh.mono {G:Cx} {K K':KP} (h:rh G K) (hk:KP.le K K'):rh G K':=⟨h.gl,let ⟨e,ro,u⟩:=h.sh;⟨e,ro,hk _ _ u⟩⟩
theorem m5 {b c:Bool} (h:(!b)=c):(bif b then false else true)=c:=by cases b<;>exact h
theorem Oy {n:Nat} {h:kN} (u:ja[n]?=some h):List.take 5 (List.drop (0+n*5) As)=Ep h:=by
 have hn:n<14:=(gA.1 u).1
 match n,hn with
 | 0,_ | 1,_ | 2,_ | 3,_ | 4,_ | 5,_ | 6,_ | 7,_ | 8,_ | 9,_ | 10,_ | 11,_ | 12,_ | 13,_=>cases u;rfl
theorem Oz {x:Int} (h1:bU x 1=false) (h2:bU 13 x=false):∃(n:Nat) (h:kN),x= .ofNat n/\n<14/\ja[n]?=some h:=by
 rw[eP,decide_eq_false_iff_not] at h1 h2;refine⟨x.toNat,ja[x.toNat]'(by show x.toNat<14;omega),by show x=((x.toNat:Nat):Int);omega,by omega,gC _⟩
theorem Hg {aY nins:Int} {k n:Nat} {x:XI} {h:kN} (h1:bU x.kind 1=false) (h2:bU 13 x.kind=false) (hn:x.kind= .ofNat n) (u:ja[n]?=some h):fF aY nins k x=gE aY nins k x h:=by
 unfold fF;rw[h1,h2,hn];show(match ja[n]? with | some h=>_ | none=>false)=_;rw[u]
theorem KM {G:Cx} {t:N V} {g:Nat} (h:Nat.ble (Nat.succ g) G.gl=true):bE G t (.global g)=some (.ptr (posOf g) 0):=by
 show(bif Nat.ble (Nat.succ g) G.gl then _ else _)=_;rw[h];rfl
theorem LN {G:Cx} (X:Plain G) {K:KP} (aa:rh G K) {k:Nat} {c:XC} {x:XI} {v:V} {vs:List V} {p:V} (hi:bR K 6 (iI K k) c.ins v) (hp:ib K p vs) (h:iI K k x vs) {U:D} {L:Own} (aq:J U K L):
  bk Tryz.prog G 165 [.agg [.int .i64 c.aY,v],p] U fun v U'=>v= .bool (fF c.aY (.ofNat c.ins.length) k x)/\J U' K L:=by
 obtain⟨w,rfl,hk⟩:=h;refine PS X Tryz.func165 Z<|Pt 2 Z<|kp aq Z (cz Z Z) (fun U b1 aq=>?_);refine On 7 Z<|O Z (dN hp Z) Z<|cq hp Z Z Z (k:=0) Y (lb Z) (fun _=>Z) (fun p9 bb=>?_);refine O Z (QF aq bb Z Z) Z<|vQ 1 Z<|ky Z (an Z) (fun C=>?_) (fun C=>?_)
 ·refine OQ 16 Z ?_;exact aA Z Z ⟨cB (by unfold fF;rw[C];rfl),aq.pop⟩
 refine vQ 1 Z<|O Z (dN hp Z) Z<|cq hp Z Z Z (k:=0) Y (lb Z) (fun _=>Z) (fun bm ab=>?_);refine O Z (QF aq ab Z Z) Z<|Pv 4 Z<|aE Z (fun Q=>?_) (fun Q=>?_)
 ·refine Pu 7 Z ?_;exact aA Z Z ⟨cB (by unfold fF;rw[C,show bU 13 x.kind=true from Q];rfl),aq.pop⟩
 have h17x:bU 13 x.kind=false:=Q;refine OK 5 Z<|O Z (dN hp Z) Z<|cq hp Z Z Z (k:=0) Y (lb Z) (fun _=>Z) (fun bo ac=>?_);refine O Z (QF aq ac Z Z) Z ?_;obtain⟨kn,sh,am,be,ao⟩:=Oz C h17x;obtain⟨eg,rog,ap⟩:=aa.sh;have hRX:=Hg (aY:=c.aY) (nins:=.ofNat c.ins.length) (k:=k) C h17x am ao;refine O Z (tA (n:=14) (e:=264) (m:=5) Y Y (KM aa.gl) (show _=some (V.int .i64 (.ofNat kn)) from cI am) be) Z<|O Z (aP Z (aq.fq ap) (n:=5) (vs:=Ep sh) Y (by show 0+kn*5+5<=70;omega)<|Oy ao) Z (kp aq Z (QE (cs:=[.bool false,.bool false,.bool false,.bool false,T])) (fun U b2 aq=>?_));refine bO aq Z (QH Z Z Z aq.g0 (m:=5) Z Z (cells':=[_,_,_,_,_]) Z) Z (fun U aq=>?_);refine ON 3 Z<|ak<|aS (l:=zp [0,1,2,3,4,5,6,7,8,9,10,11,12,13,14,15,16,17,18,19,20,21,22,23,24,25,26,27,28,29,30,31,32,33,34,35,36,37,38,39,40,41,42]) Y Y<|wQ 1 Z<|al Z Z (dN hp Z) Z<|ka hp Z Z Z Z (k:=1) Y (lb Z) (fun _=>Z) (fun bs aI=>?_);refine al Z Z (QF aq aI Z Z) Z<|P4 aq 4 [0,1,0,0] Z Z<|cA Z Z (Qz Z Z Z) (fun _=>Z) (tw X _ _ _ _ aq) (fun U aq=>?_);refine⟨aV,?_⟩;refine al Z Z (cV Z) Z<|dZ Z Z (an Z) (fun _=>Z) (fun u=>?_) (fun u=>?_)
 ·refine OT 42 Z ?_;exact aA Z Z ⟨cB (by rw[hRX];unfold gE;simp only[aX];simp only[m5 u,ct,cf]<;>rfl),aq.pop.pop⟩
 refine wQ 1 Z<|al Z Z (dN hp Z) Z<|ka hp Z Z Z Z (k:=2) Y (lb Z) (fun _=>Z) (fun bt a0=>?_);refine al Z Z (QF aq a0 Z Z) Z<|P4 aq 2 [1,0] Z Z<|cA Z Z (Qz Z Z Z) (fun _=>Z) (tw X _ _ _ _ aq) (fun U aq=>?_);refine⟨aV,?_⟩;refine al Z Z (cV Z) Z<|wQ 1 Z<|dZ Z Z (an Z) (fun _=>Z) (fun z=>?_) (fun z=>?_)
 ·refine OT 32 Z ?_;exact aA Z Z ⟨cB (by rw[hRX];unfold gE;simp only[aX];simp only[m5 u,m5 z,ct,cf]<;>rfl),aq.pop.pop⟩
 refine wQ 1 Z<|al Z Z (dN hp Z) Z<|ka hp Z Z Z Z (k:=3) Y (lb Z) (fun _=>Z) (fun bv a1=>?_);refine al Z Z (QF aq a1 Z Z) Z<|P4 aq 2 [2,0] Z Z<|cA Z Z (Qz Z Z Z) (fun _=>Z) (tw X _ _ _ _ aq) (fun U aq=>?_);refine⟨aV,?_⟩;refine al Z Z (cV Z) Z<|wQ 1 Z<|dZ Z Z (an Z) (fun _=>Z) (fun A=>?_) (fun A=>?_)
 ·refine OT 22 Z ?_;exact aA Z Z ⟨cB (by rw[hRX];unfold gE;simp only[aX];simp only[m5 u,m5 z,m5 A,ct,cf]<;>rfl),aq.pop.pop⟩
 refine wQ 1 Z<|al Z Z (dN hp Z) Z<|ka hp Z Z Z Z (k:=4) Y (lb Z) (fun _=>Z) (fun bw a2=>?_);refine al Z Z (QF aq a2 Z Z) Z<|P4 aq 2 [1,1] Z Z<|al Z Z (QD hi Z Z Z (e:=79) Z) Z<|P4 aq 2 [3,0] Z Z<|cA Z Z (Qz Z Z Z) (fun _=>Z) (tw X _ _ _ _ aq) (fun U aq=>?_);refine⟨aV,?_⟩;refine al Z Z (cV Z) Z<|Py 3 Z<|aE Z (fun E=>?_) (fun E=>?_)
 ·refine Pu 7 Z ?_;exact aA Z Z ⟨cB (by rw[hRX];unfold gE;simp only[aX];simp only[m5 u,m5 z,m5 A,m5 E,ct,cf]<;>rfl),aq.pop.pop⟩
 refine OJ 3 Z<|ak<|aS (l:=zp [0,1,2,3,4,5,6,7]) Y Y<|wQ 1 Z<|al Z Z (dN hp Z) Z<|ka hp Z Z Z Z (k:=5) Y (lb Z) (fun _=>Z) (fun b0 a3=>?_);refine al Z Z (QF aq a3 Z Z) Z<|al Z Z (QD hk Z Z Z (e:=82) Z) Z<|P4 aq 3 [4,0] Z Z<|Py 2 Z<|aE Z (fun M=>?_) (fun M=>?_)
 ·refine Pu 7 Z ?_;exact aA Z Z ⟨cB (by rw[hRX];unfold gE;simp only[aX];simp only[m5 u,m5 z,m5 A,m5 E,M,ct,cf]<;>rfl),aq.pop.pop⟩
 refine Ol 6 Z<|O Z (dN hp Z) Z<|cq hp Z Z Z (k:=5) Y (lb Z) (fun _=>Z) (fun b3 a4=>?_);refine O Z (QF aq a4 Z Z) Z<|O Z (QD hk Z Z Z (e:=82) Z) Z<|OM 4 Z ?_;obtain⟨LL1,aq,hLL1⟩:=aq.named;refine bp ([4,6]++rg 81 14) (fun j t U=>∃(i:Nat),j+i=x.exprs.length/\(x.exprs.take i).all (ea c.aY k)=true/\t.get 81=some (.int .i64 (.ofNat i))/\J U K LL1) (x.exprs.length) ⟨0,Z,Z,Z,aq⟩ ?_;clear aq;intro j9 t U ar hI;obtain⟨i,hj,ha,a5,aq⟩:=hI;subst hLL1;obtain⟨oo,rfl⟩:=ar.q1 a5 Z;refine Ps 6 Z<|aE Z (fun R=>?_) (fun R=>?_)
 ·refine NO 11 Z<|aS (l:=zp [0,1,2,3,4,5,6,7,8,9]) Y Y<|wQ 1 Z<|al Z Z (dN hp Z) Z<|ka hp Z Z Z Z (k:=5) Y (lb Z) (fun _=>Z) (fun b4 a6=>?_);refine al Z Z (QF aq a6 Z Z) Z<|wQ 1 Z ?_;obtain⟨b5,F,bi⟩:=cL R;refine Qv (e:=82) (m:=4) hk F Z Z Z Z Z (fun b6 bl a7 a8 a9=>?_);have hr89rawx:=a9;refine P4 aq 2 [0,1] Z Z<|cA Z Z (Qz Z Z Z) (fun _=>Z) (CS X _ _ _ _ _ a7 a8 hr89rawx _ _ aq) (fun U aq=>?_);refine⟨aV,?_⟩;refine al Z Z (cV Z) Z<|Py 2 Z<|aE Z (fun W=>?_) (fun W=>?_)
  ·refine PX 6 Z<|aF<|aw<|bz<|aF<|aw (?_);exact aA Z Z ⟨cB (by rw[hRX];unfold gE;rw[gG F<|kA W];simp only[aX];simp only[m5 u,m5 z,m5 A,m5 E,M,ct,cf]<;>rfl),aq.pop.pop⟩
  refine aG<|aJ<|PW 4 Z<|aO ⟨j9-1,by omega,oF,i+1,by omega,eR ha F<|eV W,cI<|bg (by have:=hk.bG;omega),aq⟩
 refine OL 3 Z<|aT<|PX 6 Z ?_;exact aA Z Z ⟨cB (by rw[hRX];unfold gE;rw[dR ha<|bC R];simp only[aX];simp only[m5 u,m5 z,m5 A,m5 E,M,ct,cf]<;>rfl),aq.pop.pop⟩
theorem zm {G:Cx} (hG:Plain G) {K:KP} (b4:rh G K) {k:Nat} {c:XC} {v:V} (hi:bR K 6 (iI K k) c.ins v) {U:D} {L:Own} (aq:J U K L):
  bk Tryz.prog G 112 [.agg [.int .i64 c.aY,v]] U fun v U'=>v= .int .i64 (dq k c)/\J U' K L:=by
 refine PS hG Tryz.func112 Z<|Pt 2 Z<|kp aq Z (cz Z Z) (fun U b1 aq=>?_);refine Ou aq 9 [0,0] Z Z<|ky Z (an Z) (fun u=>?_) (fun u=>?_)
 ·refine OQ 15 Z ?_;exact aA Z Z ⟨cJ (by symm;unfold dq;rw[u];rfl),aq.pop⟩
 refine P3 aq 2 [1,0] Z Z<|O Z (QD hi Z Z Z (e:=79) Z) Z<|Pv 4 Z<|aE Z (fun a1=>?_) (fun a1=>?_)
 ·refine Pu 7 Z ?_;exact aA Z Z ⟨cJ (by symm;unfold dq;rw[u,show bU 4000 (.ofNat c.ins.length)=true from a1];rfl),aq.pop⟩
 have h15x:bU 4000 (.ofNat c.ins.length)=false:=a1;refine Ot aq 7 [1,0] Z Z<|O Z (QD hi Z Z Z (e:=79) Z) Z<|OM 4 Z ?_;obtain⟨LL1,aq,hLL1⟩:=aq.named;refine bp (rg 2 4++rg 19 25) (fun j t U=>∃(i:Nat),j+i=c.ins.length/\(c.ins.take i).all (uf k)=true/\t.get 19=some (.int .i64 (.ofNat i))/\J U K LL1) (c.ins.length) ⟨0,Z,Z,Z,aq⟩ ?_;clear aq;intro j4 t U ar hI;obtain⟨i,cv,A,a7,aq⟩:=hI;subst hLL1;obtain⟨oo,rfl⟩:=ar.q1 a7 Z;refine Ps 6 Z<|aE Z (fun z=>?_) (fun z=>?_)
 ·refine NQ aq 15 [1,0] Z Z ?_;obtain⟨R,M,b6⟩:=cL z;refine Qu (e:=79) (m:=6) hi M Z Z Z Z (fun cx b7 a8 b8 am=>?_);have hr25rawx:=am;have hr25':=am;obtain⟨c0,rfl,ao⟩:=hr25';refine cq a8 Z Z Z (k:=5) Y (lb Z) (fun _=>Z) (fun c1 a9=>?_);refine O Z (QF aq a9 Z Z) Z<|O Z (QD ao Z Z Z (e:=82) Z) Z<|OM 4 Z ?_;obtain⟨LL2,aq,hLL2⟩:=aq.named;refine bp ([2,4,5]++rg 29 14) (fun j t U=>∃(i2:Nat),j+i2=R.exprs.length/\(R.exprs.take i2).all (fun e=>(lH k e 1 0).isSome)=true/\t.get 29=some (.int .i64 (.ofNat i2))/\J U K LL2) (R.exprs.length) ⟨0,Z,Z,Z,aq⟩ ?_;clear aq;intro j7 t U ar hI;obtain⟨i2,c2,bb,be,aq⟩:=hI;subst hLL2;obtain⟨oo,rfl⟩:=ar.q1 be Z;refine Ps 6 Z<|aE Z (fun a2=>?_) (fun a2=>?_)
  ·refine NP 12 Z<|kp aq Z (QE (cs:=[T])) (fun U b2 aq=>?_);refine bO aq Z (QH Z Z Z aq.g0 (m:=1) Z Z (cells':=[_]) Z) Z (fun U aq=>?_);refine OX aq 7 [1,1] Z Z<|Qu (e:=79) (m:=6) hi M Z Z Z Z (fun c3 b9 bi ca ap=>?_);have hr35rawx:=ap;have hr35':=ap;obtain⟨c4,rfl,bl⟩:=hr35';refine cq bi Z Z Z (k:=5) Y (lb Z) (fun _=>Z) (fun c5 bm=>?_);refine O Z (QF aq bm Z Z) Z<|vQ 1 Z ?_;obtain⟨c7,W,cb⟩:=cL a2;refine Qu (e:=82) (m:=4) bl W Z Z Z Z (fun c8 cc bo bs bt=>?_);have hr39rawx:=bt;refine cH Z (Qz Z Z Z) (fun _=>Z) (LO hG _ _ _ _ bo bs hr39rawx _ _ _ _ _ _ aq) ?_;rintro _ U ⟨m2,rfl,aq,c9⟩;refine O Z (cV Z) Z<|Pv 2 Z<|aE Z (fun a3=>?_) (fun a3=>?_)
   ·refine PX 6 Z<|aF<|aw<|bz<|aF<|aF<|aw<|bz<|aF<|aw (?_);exact aA Z Z ⟨cJ (by symm;unfold dq;rw[u,show bU 4000 (.ofNat c.ins.length)=false from h15x,gG M (show uf k R=false from gG W (kA a3))];rfl),aq.pop.pop⟩
   refine aG<|aJ<|PW 4 Z ?_;have aq:=aq.pop;refine aO ⟨j7-1,by omega,oF,i2+1,by omega,eR bb W<|eV a3,cI<|bg (by have:=ao.bG;omega),aq⟩
  refine OL 3 Z<|aT<|aJ<|PW 4 Z<|aO ⟨j4-1,by omega,oF,i+1,by omega,eR A M (show uf k R=true from dR bb (bC a2)),cI<|bg (by have:=hi.bG;omega),aq⟩
 refine OL 3 Z<|aT<|OU aq 6 [0,0] Z Z<|ky Z (an Z) (fun C=>?_) (fun C=>?_)
 ·refine OQ 15 Z ?_;exact aA Z Z ⟨cJ (by symm;unfold dq;rw[u,show bU 4000 (.ofNat c.ins.length)=false from h15x,dR A<|bC z,C];rfl),aq.pop⟩
 refine P3 aq 2 [1,0] Z Z<|O Z (QD hi Z Z Z (e:=79) Z) Z<|Pv 4 Z<|aE Z (fun a4=>?_) (fun a4=>?_)
 ·refine Pu 7 Z ?_;exact aA Z Z ⟨cJ (by symm;unfold dq;rw[u,show bU 4000 (.ofNat c.ins.length)=false from h15x,dR A<|bC z,C,show I (.ofNat c.ins.length) 0=true from a4];rfl),aq.pop⟩
 have h52x:I (.ofNat c.ins.length) 0=false:=a4;refine Ot aq 7 [1,0] Z Z<|O Z (QD hi Z Z Z (e:=79) Z) Z<|OM 4 Z ?_;obtain⟨LL3,aq,hLL3⟩:=aq.named;refine bp ([2,6]++rg 56 11) (fun j t U=>∃(i:Nat),j+i=c.ins.length/\(c.ins.take i).all (fF c.aY (.ofNat c.ins.length) k)=true/\t.get 56=some (.int .i64 (.ofNat i))/\J U K LL3) (c.ins.length) ⟨0,Z,Z,Z,aq⟩ ?_;clear aq;intro b5 t U ar hI;obtain⟨i,ce,E,bv,aq⟩:=hI;subst hLL3;obtain⟨oo,rfl⟩:=ar.q1 bv Z;refine Ps 6 Z<|aE Z (fun Q=>?_) (fun Q=>?_)
 ·refine NO 11 Z<|aS (l:=zp [0,1,2,3,4,5,6]) Y Y<|al Z Z (QC Z aq.g0 (n:=2) (vs:=[_,_]) Z) Z<|P4 aq 3 [1,0] Z Z ?_;obtain⟨dd,X,cg⟩:=cL Q;refine Qv (e:=79) (m:=6) hi X Z Z Z Z Z (fun dl ch bw ci aI=>?_);have hr63rawx:=aI;have hr63':=aI;obtain⟨dm,rfl,ck⟩:=hr63';refine cA Z Z (Qz Z Z Z) (fun _=>Z) (LN hG b4 hi bw hr63rawx aq) (fun U aq=>?_);refine⟨aV,?_⟩;refine al Z Z (cV Z) Z<|Py 2 Z<|aE Z (fun a5=>?_) (fun a5=>?_)
  ·refine PX 6 Z<|aF<|aw<|bz<|aF<|aw (?_);exact aA Z Z ⟨cJ (by symm;unfold dq;rw[u,show bU 4000 (.ofNat c.ins.length)=false from h15x,dR A<|bC z,C,show I (.ofNat c.ins.length) 0=false from h52x,gG X<|kA a5];rfl),aq.pop⟩
  refine aG<|aJ<|PW 4 Z<|aO ⟨b5-1,by omega,oF,i+1,by omega,eR E X<|eV a5,cI<|bg (by have:=hi.bG;omega),aq⟩
 refine OL 3 Z<|aT<|OU aq 7 [1,0,1,0] Z Z<|O Z (QD hi Z Z Z (e:=79) Z) Z<|vQ 1 Z ?_;have cl:0<c.ins.length:=by rcases Nat.eq_zero_or_pos c.ins.length with e | e;rw[e] at h52x;cases h52x;exact e
 obtain⟨ab,F⟩:=cm (show c.ins.length-1<c.ins.length from by omega);refine Qu (e:=79) (m:=6) hi F Z Z Z (cI<|kY (b:=1) B hi.bG) (fun dr cn b0 co a0=>?_);have hr73rawx:=a0;have hr73':=a0;obtain⟨ds,rfl,cp⟩:=hr73';refine cq b0 Z Z Z (k:=0) Y (lb Z) (fun _=>Z) (fun dx b3=>?_);refine O Z (QF aq b3 Z Z) Z<|OM 3 Z<|OI 3 Z<|ky Z (az Z Z Z) (fun aa=>?_) (fun aa=>?_)
 ·refine OQ 13 Z<|aF<|aw (?_);exact aA Z Z ⟨cJ (by symm;unfold dq;rw[u,show bU 4000 (.ofNat c.ins.length)=false from h15x,dR A<|bC z,C,show I (.ofNat c.ins.length) 0=false from h52x,dR E<|bC Q,F];show(bif gk ab then(0:Int) else 2)=_;unfold gk;rw[aa];rfl),aq.pop⟩
 refine OO 6 Z<|ky Z (az Z Z Z) (fun ac=>?_) (fun ac=>?_)
 ·refine OQ 13 Z<|aF<|aw (?_);exact aA Z Z ⟨cJ (by symm;unfold dq;rw[u,show bU 4000 (.ofNat c.ins.length)=false from h15x,dR A<|bC z,C,show I (.ofNat c.ins.length) 0=false from h52x,dR E<|bC Q,F];show(bif gk ab then(0:Int) else 2)=_;unfold gk;rw[aa,ac];rfl),aq.pop⟩
 refine Pw 5 Z<|ky Z (az Z Z Z) (fun a6=>?_) (fun a6=>?_)
 ·refine Px 10 Z<|aF<|aw (?_);exact aA Z Z ⟨cJ (by symm;unfold dq;rw[u,show bU 4000 (.ofNat c.ins.length)=false from h15x,dR A<|bC z,C,show I (.ofNat c.ins.length) 0=false from h52x,dR E<|bC Q,F];show(bif gk ab then(0:Int) else 2)=_;unfold gk;rw[aa,ac,a6];rfl),aq.pop⟩
 refine OP 6 Z<|PX 6 Z ?_;exact aA Z Z ⟨cJ (by symm;unfold dq;rw[u,show bU 4000 (.ofNat c.ins.length)=false from h15x,dR A<|bC z,C,show I (.ofNat c.ins.length) 0=false from h52x,dR E<|bC Q,F];show(bif gk ab then(0:Int) else 2)=_;unfold gk;rw[aa,ac,a6];rfl),aq.pop⟩
theorem CQ {G:Cx} (R:Plain G) {K:KP} {k:Nat} {x:XI} {a:Nat} (Q:a<9223372036854775807) {vs:List V} (h:iI K k x vs) {U:D} {L:Own} (aq:J U K L):
  bk Tryz.prog G 216 [.agg vs,.int .i64 (.ofNat a)] U fun v U'=>∃M,cQ 1 3 dy (gN x a) v M/\J U' K (M++L):=by
 obtain⟨w,rfl,hk⟩:=h;refine PS R Tryz.func216 Z<|Pt 2 Z<|kp aq Z (cz Z Z) (fun U b1 aq=>?_);refine OW aq 10 [0,0] Z Z<|aN<|Pt 2 Z<|ky Z (az Z Z Z) (fun E=>?_) (fun E=>?_)
 ·refine OX aq 8 [4,0] Z Z<|gT aq Z (bY (e:=3) (m:=1) (z:=[T]) (cs:=[_]) Y Y Y Y<|bD Z Z Z Z bJ) (fun _=>Z) (fun U F aq=>?_);refine Px 4 Z<|aF<|aw (?_);exact aA Z Z ⟨[(F,_)],by unfold gN;rw[E];exact gO (xs:=[x.to]) (by simp),aq.sub (.cons_cons _ (.cons _ (.refl _)))⟩
 refine OO 6 Z<|ky Z (az Z Z Z) (fun u=>?_) (fun u=>?_)
 ·refine OO 7 Z<|O Z (az Z Z (show _=some (V.int .i64 (.ofNat (a+1))) from cI (bg Q))) Z<|P3 aq 2 [4,0] Z Z<|gT aq Z (bY (e:=3) (m:=1) (z:=[T]) (cs:=[_,_]) Y Y Y Y<|bD Z Z Z Z<|bD Z Z Z Z bJ) (fun _=>Z) (fun U F aq=>?_);refine Px 4 Z<|aF<|aw (?_);exact aA Z Z ⟨[(F,_)],by unfold gN;rw[E,u];exact gO (xs:=[.ofNat (a+1),x.to]) (by simp),aq.sub (.cons_cons _ (.cons _ (.refl _)))⟩
 refine On 7 Z<|ky Z (az Z Z Z) (fun A=>?_) (fun A=>?_)
 ·refine OQ 13 Z<|aF<|aw (?_);exact aA Z Z ⟨[],.inl ⟨by unfold gN;rw[E,u,A];rfl,Z,Z⟩,aq.pop⟩
 refine Pw 5 Z<|ky Z (az Z Z Z) (fun C=>?_) (fun C=>?_)
 ·refine Px 10 Z<|aF<|aw (?_);exact aA Z Z ⟨[],.inl ⟨by unfold gN;rw[E,u,A,C];rfl,Z,Z⟩,aq.pop⟩
 refine OP 6 Z<|Pt 3 Z<|O Z (az Z Z (show _=some (V.int .i64 (.ofNat (a+1))) from cI (bg Q))) Z<|gT aq Z (bY (e:=3) (m:=1) (z:=[T]) (cs:=[_]) Y Y Y Y<|bD Z Z Z Z bJ) (fun _=>Z) (fun U F aq=>?_);refine Px 4 Z ?_;exact aA Z Z ⟨[(F,_)],by unfold gN;rw[E,u,A,C];exact gO (xs:=[.ofNat (a+1)]) (by simp),aq.sub (.cons_cons _ (.cons _ (.refl _)))⟩
theorem NF {G:Cx} (u:Plain G) {K:KP} (x y:Int) {U:D} {L:Own} (aq:J U K L):bk Tryz.prog G 163 [.int .i64 x,.int .i64 y] U fun v U'=>v= .bool false/\J U' K L:=by
 refine PS u Tryz.func163 Z<|PX 11 Z ?_;exact aA Z Z ⟨Z,aq⟩
theorem JU {G:Cx} (hG:Plain G) {K:KP} {k:Nat} {c:XC} (hc:eX k c) {v:V} (hi:bR K 6 (iI K k) c.ins v) {U:D} {L:Own} (aq:J U K L):
  bk Tryz.prog G 162 [.agg [.int .i64 c.aY,v],.func 163 [] []] U fun v U'=>∃u M,v= .tuple [u,.bool (fT c).isSome]/\nt 1 3 dy (((fT c).getD []).map .ofNat) u M/\J U' K (M++L):=by
 have hN:∀i,i<c.ins.length->∀to∈dj c i,to<c.ins.length:=sT hc;have hlen:=hc.len;have hpos:=hc.pos;have htot:=CM (c:=c);obtain⟨N_,bb⟩:∃N_,N_=2*total (dj c) c.ins.length+2:=⟨_,Z⟩;have hO:fT c=xV (dj c) N_ (x7 c.ins.length):=by rw[bb];rfl
 refine PS hG Tryz.func162 Z<|Pt 2 Z<|kp aq Z (cz Z Z) (fun U b1 aq=>?_);refine OX aq 8 [1,0] Z Z<|O Z (QD hi Z Z Z (e:=79) Z) Z<|gT aq Z (k9 (e:=5) (w:=1) (z:=[gS 0]) Y Y Y Y Z Z B B) (fun _=>Z) (fun U b2 aq=>?_);rw[iT (f:=gS)] at aq;refine OX aq 7 [1,1] Z Z<|O Z (QD hi Z Z Z (e:=79) Z) Z<|gT aq Z (k9 (e:=3) (w:=8) (z:=[gI 0]) Y Y Y Y Z Z B B) (fun _=>Z) (fun U b3 aq=>?_);rw[iT (f:=gI)] at aq;refine OO 11 Z (O Z (eo (e:=5) (m:=1) Y Y Z Z hpos) Z (cC aq (.there .here) Z (aL Z Z Z aq.g1 (m:=1) Y Z (by rw[lM_];simp;omega) Z (cells':=((List.replicate c.ins.length 0).set 0 1).map (gS))<|fb (f:=gS) (v:=1) (by simp;omega) (by first | omega | rfl)) Z (fun U aq=>?_)));refine On 5 Z<|gT aq Z (bY (e:=3) (m:=1) (z:=[T]) (cs:=[_]) Y Y Y Y<|bD Z Z Z Z bJ) (fun _=>Z) (fun U b4 aq=>?_);refine OM 4 Z (bp ([4,5]++rg 8 5++rg 24 71) (fun j t U=>∃(s:DS) (u9 u8:V) (Mp Mo:Own),LV (dj c) c.ins.length s/\jr (dj c) c.ins.length s<=j/\s.out.length+jr (dj c) c.ins.length s<=N_/\xV (dj c) N_ (x7 c.ins.length)=xV (dj c) (j+1) s/\nt 1 3 dy (s.out.map .ofNat) u8 Mo/\nt 1 3 dy (s.path.map .ofNat) u9 Mp/\t.get 8=some (u8)/\t.get 9=some (u9)/\J U K (Mo++(Mp++((b3,.row (s.gone.map gI) 3 false)::(b2,.row (s.st.map gS) 5 false)::(b1,.row [.int .i64 c.aY,v] 33 false)::L)))) ((N_-1)) ⟨x7 c.ins.length,_,.ax,[(b4,.row [gI 0] 3 false)],[],wg hpos,by rw[Fq];omega,by rw[Fq];have:(x7 c.ins.length).out.length=0:=rfl;omega,by rw[show N_-1+1=N_ from by omega],.inl ⟨Z,Z,Z⟩,(gO (xs:=[0]) (by simp)).Oi,Z,Z,aq⟩ ?_);clear aq;intro j6 t U ar hI;obtain⟨s,u9,u8,Mp,Mo,hw,ac,cg,he,hOut,hP,be,bi,aq⟩:=hI;obtain⟨oo,rfl⟩:=ar.q2 be bi Z;refine OI 4 Z<|O Z (uj hP Z Z Z (e:=3) Y Z) Z<|ky Z (az Z Z Z) (fun am=>?_) (fun am=>?_)
 ·refine Pv 3 Z<|aG<|ad<|aN<|Pt 4 Z<|O Z (uj hP Z Z Z (e:=3) Y Z) Z<|vQ 1 Z ?_;have a1:0<s.path.length:=by have:=bu (a:=0) am;rwa[iC] at this
  obtain⟨a,C⟩:∃a,s.path.getLast?=some a:=by cases hq:s.path.getLast? with | none=>(rw[List.getLast?_eq_none_iff.1 hq] at a1;exact absurd a1<|Nat.lt_irrefl _) | some a=>exact⟨a,rfl⟩
  have hla':=Fp C;obtain⟨A,b6⟩:=hw.path a (gB_ hla');obtain⟨g,hg⟩:∃g,s.gone[a]?=some g:=⟨_,gC (by rw[hw.rJ];exact A)⟩;obtain⟨a2,E⟩:=cm A;have ch:s.path.length<=jr (dj c) c.ins.length s:=by unfold jr;omega
  refine Qu (e:=3) (m:=1) (hP.kq (K:=K.ic Mp) fun y hy=>.inr hy) (Jb hla') Z Z Z (cI ((congrArg (fun q=>wr .i64 (Int.sub (.ofNat q) 1))<|iC s.path).trans<|kY (b:=1) B B)) (fun ci b7 a3 b8 a4=>?_);obtain rfl:=a4;refine O Z (QF (aq.aQ.keeps) a3 Z Z) Z<|OX aq 6 [1] Z Z<|O Z (QB Z aq.aQ.aQ.pop.pop.g0 Z) Z<|vQ 1 Z<|Qu (e:=79) (m:=6) hi E Z Z Z Z (fun ck b9 a5 ca aa=>?_);have hr36raw:=aa;have hr36':=aa;obtain⟨cl,rfl,cb⟩:=hr36';refine O Z (QG aq a5 Z Z) Z<|vQ 1 Z<|cH Z (Qz Z Z Z) (fun _=>Z) (CQ hG B hr36raw aq) ?_;rintro cn U ⟨bl,hM39,aq⟩;replace aq:=aq.keeps;have hS39:=hM39.kq (K:=K.ic bl) fun y hy=>.inr hy
  refine On 8 Z<|O Z (eo (e:=3) (m:=1) Y Y Z Z A) Z<|O Z (ay Z aq.aQ.aQ.g0 Y<|jZ hg (by first | omega | rfl)) Z<|vQ 1 Z<|O Z (QD hS39 Z Z Z (e:=3) Z) Z<|Pv 3 Z<|aE Z (fun ao=>?_) (fun ao=>?_)
  ·refine Pt 4 Z (O Z (eo (e:=5) (m:=1) Y Y Z Z A) Z (cC aq (.cM (.cM (.there .here))) Z (aL Z Z Z aq.aQ.aQ.pop.g0 (m:=1) Y Z (by rw[lM_];rw[hw.FP];omega) Z (cells':=((s.st).set a 2).map (gS))<|fb (f:=gS) (v:=2) (by rw[hw.FP];exact A) (by first | omega | rfl)) Z (fun U aq=>?_)));refine OO 6 Z<|gT aq Z (bY (e:=3) (m:=1) (z:=[T]) (cs:=[_]) Y Y Y Y<|bD Z Z Z Z bJ) (fun _=>Z) (fun U b5 aq=>?_);obtain⟨U,bm,bo,F,hOut2,aq⟩:=qg (P:=Tryz.prog) (ts:= #[34,34]) (t:=34) (e:=3) (l2:=[Int.ofNat a]) hOut aq (fK (xs:=[Int.ofNat a]) (.inr ⟨Z,Z⟩) (by simp)) dy.leaf (by simp) (by simp) (by rw[iC];omega) Z Y Y Y;rw[show s.out.map Int.ofNat++[Int.ofNat a]=(s.out++[a]).map Int.ofNat from by rw[List.map_append];rfl] at hOut2;refine O Z (dM Z Z Z Z Y F) Z<|OO 7 Z<|O Z (uj hP Z Z Z (e:=3) Y Z) Z<|vQ 1 Z ?_;obtain⟨bs,hP2,bt⟩:=hP.L8 (k:=s.path.length-1) (by rw[iC];omega);rw[zh] at hP2;refine O Z (bn Z<|bt Y Y Z (show _=some (V.int .i64 (.ofNat (s.path.length-1))) from cI ((congrArg (fun q=>wr .i64 (Int.sub (.ofNat q) 1))<|iC s.path).trans<|kY (b:=1) B B))) Z<|OR 5 Z<|aT ?_;replace aq:=aq.weaken (KP.bX _ _);have hd:=Gr hg (IY E (by have:=iJ_ (eqv ao);omega));obtain⟨Q,a6,a7⟩:=nU hw hN C hd;refine aO ⟨j6-1,by have:1<=j6:=(by unfold jr at ac;omega);omega,oF,_,bs,bm,Mp,bo,Q,by omega,by omega,by rw[he,show j6+1=(j6-1+1)+1 from by omega];exact wc C hd,hOut2,hP2,Z,Z,aq⟩
  refine OK 7 Z<|O Z (eo (e:=3) (m:=1) Y Y Z Z A) Z<|O Z (ay Z aq.aQ.aQ.g0 Y<|jZ hg (by first | omega | rfl)) Z ?_;have bv:g<(gN a2 a).length:=by have h1:=hw.gone a g hg;rw[qT E] at h1;have:=DC ao;omega
  obtain⟨co,ab⟩:=cm bv;obtain⟨to,rfl,R,ap⟩:=y6 hc E ab;obtain⟨sv,hv⟩:∃sv,s.st[to]?=some sv:=⟨_,gC (by rw[hw.FP];exact R)⟩;refine Qu (e:=3) (m:=1) hS39 ab Z Z Z Z (fun cp cc a8 ce a9=>?_);obtain rfl:=a9;refine O Z (QF aq a8 Z Z) Z<|OO 7 Z<|O Z (eo (e:=3) (m:=1) Y Y Z Z A) Z<|O Z (ay Z aq.aQ.aQ.g0 Y<|jZ hg (by first | omega | rfl)) Z<|vQ 1 Z<|O Z (eo (e:=3) (m:=1) Y Y Z Z A) Z ?_;refine cC aq (.cM (.cM .here)) Z (aL Z Z (show _=some [gI (g+1)] from congrArg (fun z=>some [V.int .i64 z]) (bg (by have h1:=hw.gone a g hg;rw[qT E] at h1;have:=Ca a2 a;omega))) aq.aQ.aQ.g0 (m:=1) Y Z (by rw[lM_];rw[hw.rJ];omega) Z (cells':=((s.gone).set a (g+1)).map (gI)) (fb (f:=gI) (v:=(g+1)) (by rw[hw.rJ];exact A) (by first | omega | rfl))) Z (fun U aq=>?_);refine On 8 Z<|bf Z (Qz Z Z Z) (fun _=>Z) (NF hG _ _ aq) (fun U aq=>?_);refine PZ 3 Z<|O Z (eo (e:=5) (m:=1) Y Y Z Z R) Z<|O Z (ay Z aq.aQ.aQ.pop.g0 Y<|jZ hv (by first | omega | rfl)) Z<|Pv 4 Z<|aE Z (fun aI=>?_) (fun aI=>?_)
  ·refine bx<|aZ<|aT ?_;replace aq:=aq.weaken (KP.bX _ _);have hd:=Dy hg ap (by rw[hv];exact congrArg some<|iJ_<|eqv aI);obtain⟨Q,a6,a7⟩:=nU hw hN C hd;refine aO ⟨j6-1,by have:1<=j6:=(by unfold jr at ac;omega);omega,oF,_,u9,u8,Mp,Mo,Q,by omega,by omega,by rw[he,show j6+1=(j6-1+1)+1 from by omega];exact wc C hd,hOut,hP,Z,Z,aq⟩
  refine Ol 7 Z<|O Z (eo (e:=5) (m:=1) Y Y Z Z R) Z<|O Z (ay Z aq.aQ.aQ.pop.g0 Y<|jZ hv (by first | omega | rfl)) Z<|Pv 3 Z<|aE Z (fun a0=>?_) (fun a0=>?_)
  ·refine PX 7 Z<|aw<|aF<|bz<|aF<|aw (?_);have W:fT c=none:=by rw[hO,he];exact H6 C<|Dw hg ap (by rw[hv];exact congrArg some<|iJ_<|eqv a0)
   replace aq:=aq.weaken (KP.bX _ _);exact bV Z Z Z ⟨_,[],by rw[W];rfl,by rw[W];exact .inl ⟨Z,Z,Z⟩,aq.aQ.aQ.pop.pop.pop⟩
  refine OK 6 Z (O Z (eo (e:=5) (m:=1) Y Y Z Z R) Z (cC aq (.cM (.cM (.there .here))) Z (aL Z Z Z aq.aQ.aQ.pop.g0 (m:=1) Y Z (by rw[lM_];rw[hw.FP];omega) Z (cells':=((s.st).set to 1).map (gS))<|fb (f:=gS) (v:=1) (by rw[hw.FP];exact R) (by first | omega | rfl)) Z (fun U aq=>?_)));refine Pw 5 Z<|gT aq Z (bY (e:=3) (m:=1) (z:=[T]) (cs:=[_]) Y Y Y Y<|bD Z Z Z Z bJ) (fun _=>Z) (fun U b5 aq=>?_);replace aq:=aq.DL;obtain⟨U,bw,b0,F,hP2,aq⟩:=qg (P:=Tryz.prog) (ts:= #[34,34]) (t:=34) (e:=3) (l2:=[Int.ofNat to]) hP aq (fK (xs:=[Int.ofNat to]) (.inr ⟨Z,Z⟩) (by simp)) dy.leaf (by simp) (by simp) (by rw[iC];omega) Z Y Y Y;replace aq:=aq.front;rw[show s.path.map Int.ofNat++[Int.ofNat to]=(s.path++[to]).map Int.ofNat from by rw[List.map_append];rfl] at hP2;refine O Z (dM Z Z Z Z Y F) Z<|PY 2 Z<|aJ ?_;replace aq:=aq.weaken (KP.bX _ _);have hd:=Dx hg ap hv (DC (b:=2) aI) (DC (b:=1) a0);obtain⟨Q,a6,a7⟩:=nU hw hN C hd;refine aO ⟨j6-1,by have:1<=j6:=(by unfold jr at ac;omega);omega,oF,_,bw,u8,b0,Mo,Q,by omega,by omega,by rw[he,show j6+1=(j6-1+1)+1 from by omega];exact wc C hd,hOut,hP2,Z,Z,aq⟩
 refine OR 5 Z<|bc<|aT<|PX 8 Z ?_;have X:fT c=some s.out:=by rw[hO,he];exact KD (by have:=bC (a:=0) am;rw[iC] at this;omega)
 exact bV Z Z Z ⟨u8,Mo,by rw[X];rfl,by rw[X];exact hOut,aq.sub<|dH (.trans (.cons _ (.cons _ (.cons _ (.refl _))))<|List.sublist_append_right _ _)⟩
theorem Nw {G:Cx} (z:Plain G) {K:KP} (A:rh G K) {k:Nat} {c:XC} {v:V} (hi:bR K 6 (iI K k) c.ins v) {U:D} {L:Own} (aq:J U K L):
  bk Tryz.prog G 111 [.agg [.int .i64 c.aY,v]] U fun v U'=>v= .bool (jn k c)/\J U' K L:=by
 refine PS z Tryz.func111 Z<|Pt 2 Z<|kp aq Z (cz Z Z) (fun U b1 aq=>?_);refine On 6 Z<|O Z (QC Z aq.g0 (n:=2) (vs:=[_,_]) Z) Z<|bf Z (Qz Z Z Z) (fun _=>Z) (zm z A hi aq) (fun U aq=>?_);refine Pv 3 Z<|aE Z (fun u=>?_) (fun u=>?_)
 ·refine Pu 7 Z ?_;exact aA Z Z ⟨cB (by unfold jn;rw[show aX (I (dq k c) 0)=true from u];rfl),aq.pop⟩
 have C:dq k c=0:=eqv (bj u);refine OK 4 Z<|O Z (QC Z aq.g0 (n:=2) (vs:=[_,_]) Z) Z<|cH Z (Qz Z Z Z) (fun _=>Z) (JU z (Dn C) hi aq) ?_;rintro _ U ⟨aa,ab,rfl,hM10,aq⟩;refine Px 14 Z ?_;exact aA Z Z ⟨cB (by unfold jn;rw[show aX (I (dq k c) 0)=false from u];rfl),aq.aQ.pop⟩
abbrev gZ (n:Int):V:=.int .i64 n
theorem mb {G:Cx} (z:Plain G) {K:KP} (b:Bool) {U:D} {L:Own} (aq:J U K L):bk Tryz.prog G 259 [.bool b] U fun v U'=>v= .int .i64 (pj b)/\J U' K L:=by
 refine PS z Tryz.func259 Z<|Ps 11 Z<|aE Z (fun u=>?_) (fun u=>?_)
 ·refine Pu 7 Z ?_;exact aA Z Z ⟨by rw[u];rfl,aq⟩
 refine Pu 8 Z ?_;exact aA Z Z ⟨by rw[u];rfl,aq⟩
theorem Mf {G:Cx} (z:Plain G) {K:KP} (op a:Int) {U:D} {L:Own} (aq:J U K L):bk Tryz.prog G 225 [.int .i64 op,.int .i64 a] U fun v U'=>v= .int .i64 (pE op a)/\J U' K L:=by
 refine PS z Tryz.func225 Z<|Ps 12 Z<|aE Z (fun u=>?_) (fun u=>?_)
 ·refine Pt 3 Z ?_;refine O Z (ek (j:=.i64) (k:=.u64) Y Y Y Z) Z ?_;refine vQ 1 Z ?_;refine O Z (ek (j:=.u64) (k:=.i64) Y Y Y Z) Z ?_;refine OQ 5 Z ?_;exact aA Z Z ⟨cJ (by unfold pE;rw[u];rfl),aq⟩
 refine OK 6 Z<|bf Z (Qz Z Z Z) (fun _=>Z) (mb z _ aq) (fun U aq=>?_);refine Px 4 Z ?_;exact aA Z Z ⟨cJ (by unfold pE;rw[u];rfl),aq⟩
theorem JW {G:Cx} (W:Plain G) {K:KP} (op a b:Int) {U:D} {L:Own} (aq:J U K L):bk Tryz.prog G 226 [.int .i64 op,.int .i64 a,.int .i64 b] U fun v U'=>v= .int .i64 (iA op a b)/\J U' K L:=by
 refine PS W Tryz.func226 Z<|Pt 8 Z ?_;refine O Z (ek (j:=.i64) (k:=.u64) Y Y Y Z) Z ?_;refine vQ 1 Z ?_;refine O Z (ek (j:=.i64) (k:=.u64) Y Y Y Z) Z ?_;refine Om 11 Z<|Pt 2 Z<|ky Z (az Z Z Z) (fun u=>?_) (fun u=>?_)
 ·refine OO 8 Z<|ky Z (an Z) (fun aa=>?_) (fun aa=>?_)
  ·refine PZ 3 Z<|bf Z (Qz Z Z Z) (fun _=>Z) (mb W _ aq) (fun U aq=>?_);refine Px 4 Z<|aF<|aw (?_);exact aA Z Z ⟨cJ (by unfold iA;simp only[u,ct,cf];simp only[aX];simp only[aa,ct,cf]),aq⟩
  refine PZ 3 Z<|bf Z (Qz Z Z Z) (fun _=>Z) (mb W _ aq) (fun U aq=>?_);refine Px 4 Z<|aF<|aw (?_);exact aA Z Z ⟨cJ (by unfold iA;simp only[u,ct,cf];simp only[aX];simp only[aa,ct,cf]),aq⟩
 refine OO 6 Z<|ky Z (az Z Z Z) (fun z=>?_) (fun z=>?_)
 ·refine OO 8 Z<|ky Z (an Z) (fun ab=>?_) (fun ab=>?_)
  ·refine PZ 3 Z<|bf Z (Qz Z Z Z) (fun _=>Z) (mb W _ aq) (fun U aq=>?_);refine Px 4 Z<|aF<|aw (?_);exact aA Z Z ⟨cJ (by unfold iA;simp only[u,z,ct,cf];simp only[aX];simp only[ab,ct,cf]),aq⟩
  refine PZ 3 Z<|bf Z (Qz Z Z Z) (fun _=>Z) (mb W _ aq) (fun U aq=>?_);refine Px 4 Z<|aF<|aw (?_);exact aA Z Z ⟨cJ (by unfold iA;simp only[u,z,ct,cf];simp only[aX];simp only[ab,ct,cf]),aq⟩
 refine OO 6 Z<|ky Z (az Z Z Z) (fun A=>?_) (fun A=>?_)
 ·refine OO 9 Z<|bf Z (Qz Z Z Z) (fun _=>Z) (mb W _ aq) (fun U aq=>?_);refine Px 4 Z<|aF<|aw (?_);exact aA Z Z ⟨cJ (by unfold iA;simp only[u,z,A,ct,cf]<;>rfl),aq⟩
 refine OO 6 Z<|ky Z (az Z Z Z) (fun C=>?_) (fun C=>?_)
 ·refine OO 9 Z<|bf Z (Qz Z Z Z) (fun _=>Z) (mb W _ aq) (fun U aq=>?_);refine Px 4 Z<|aF<|aw (?_);exact aA Z Z ⟨cJ (by unfold iA;simp only[u,z,A,C,ct,cf]<;>rfl),aq⟩
 refine OO 6 Z<|ky Z (az Z Z Z) (fun E=>?_) (fun E=>?_)
 ·refine OO 9 Z<|bf Z (Qz Z Z Z) (fun _=>Z) (mb W _ aq) (fun U aq=>?_);refine Px 4 Z<|aF<|aw (?_);exact aA Z Z ⟨cJ (by unfold iA;simp only[u,z,A,C,E,ct,cf]<;>rfl),aq⟩
 refine OO 6 Z<|ky Z (az Z Z Z) (fun F=>?_) (fun F=>?_)
 ·refine OO 9 Z<|bf Z (Qz Z Z Z) (fun _=>Z) (mb W _ aq) (fun U aq=>?_);refine Px 4 Z<|aF<|aw (?_);exact aA Z Z ⟨cJ (by unfold iA;simp only[u,z,A,C,E,F,ct,cf]<;>rfl),aq⟩
 refine OO 6 Z<|ky Z (az Z Z Z) (fun M=>?_) (fun M=>?_)
 ·refine OO 9 Z ?_;refine O Z (ek (j:=.u64) (k:=.i64) Y Y Y Z) Z ?_;refine Px 4 Z<|aF<|aw (?_);exact aA Z Z ⟨cJ (by unfold iA;simp only[u,z,A,C,E,F,M,ct,cf]<;>rfl),aq⟩
 refine OO 6 Z<|ky Z (az Z Z Z) (fun Q=>?_) (fun Q=>?_)
 ·refine OO 9 Z ?_;refine O Z (ek (j:=.u64) (k:=.i64) Y Y Y Z) Z ?_;refine Px 4 Z<|aF<|aw (?_);exact aA Z Z ⟨cJ (by unfold iA;simp only[u,z,A,C,E,F,M,Q,ct,cf]<;>rfl),aq⟩
 refine OO 6 Z<|ky Z (az Z Z Z) (fun R=>?_) (fun R=>?_)
 ·refine OO 9 Z ?_;refine O Z (ek (j:=.u64) (k:=.i64) Y Y Y Z) Z ?_;refine Px 4 Z<|aF<|aw (?_);exact aA Z Z ⟨cJ (by unfold iA;simp only[u,z,A,C,E,F,M,Q,R,ct,cf]<;>rfl),aq⟩
 refine OO 6 Z<|ky Z (az Z Z Z) (fun X=>?_) (fun X=>?_)
 ·refine OO 9 Z ?_;refine O Z (ek (j:=.u64) (k:=.i64) Y Y Y Z) Z ?_;refine Px 4 Z<|aF<|aw (?_);exact aA Z Z ⟨cJ (by unfold iA;simp only[u,z,A,C,E,F,M,Q,R,X,ct,cf]<;>rfl),aq⟩
 refine OO 6 Z<|ky Z (az Z Z Z) (fun ac=>?_) (fun ac=>?_)
 ·refine OO 9 Z ?_;refine O Z (ek (j:=.u64) (k:=.i64) Y Y Y Z) Z ?_;refine Px 4 Z<|aF<|aw (?_);exact aA Z Z ⟨cJ (by unfold iA;simp only[u,z,A,C,E,F,M,Q,R,X,ac,ct,cf]<;>rfl),aq⟩
 refine OP 6 Z<|Pt 5 Z ?_;refine O Z (ek (j:=.u64) (k:=.i64) Y Y Y Z) Z ?_;refine Px 4 Z ?_;exact aA Z Z ⟨cJ (by unfold iA;simp only[u,z,A,C,E,F,M,Q,R,X,ac,ct,cf]<;>rfl),aq⟩
theorem PN {G:Cx} (hG:Plain G) {K:KP} {l:List Int} {v:V} (hl:bR K 1 dy l v) (op:Int) {U:D} {L:Own} (aq:J U K L):bk Tryz.prog G 168 [.int .i64 op,v] U fun v U'=>v= .tuple [.int .i64 (jl op l).1,.int .i64 (jl op l).2]/\J U' K L:=by
 refine PS hG Tryz.func168 Z<|OH 8 Z<|Pt 4 Z<|ky Z (an Z) (fun h9=>?_) (fun h9=>?_)
 ·refine PZ 5 Z<|O Z (QD hl Z Z Z (e:=2) Z) Z<|Pv 5 Z<|aE Z (fun h6=>?_) (fun h6=>?_)
  ·refine Pt 4 Z ?_;obtain⟨aY,M⟩:=cm (show 0<l.length from by have:=iJ_ (eqv (b:=.ofNat 1) h6);omega);refine Qu (e:=2) (m:=1) hl M Z Z Z Z (fun a5 a0 aa a1 ab=>?_);obtain rfl:=ab;refine O Z (QF aq aa Z Z) Z<|bf Z (Qz Z Z Z) (fun _=>Z) (Mf hG _ _ aq) (fun U aq=>?_);refine Px 5 Z<|aF<|aw (?_);exact bV Z Z Z ⟨by rw[show jl op l=(pE op aY,0) from by unfold jl;simp only[aX];simp only[h9,h6,ct];rw[M]<;>rfl],aq⟩
  refine Pt 4 Z<|ky Z (an Z) (fun u=>?_) (fun u=>?_)
  ·refine PZ 3 Z<|ky Z (an Z) (fun z=>?_) (fun z=>?_)
   ·refine vQ 1 Z<|O Z (QD hl Z Z Z (e:=2) Z) Z<|Pv 5 Z<|aE Z (fun A=>?_) (fun A=>?_)
    ·refine ak<|aS (l:=zp [0,1,2,3,4,5,6,7,8,9]) Y Y<|P1 2 Z ?_;have a2:l.length=2:=iJ_ (eqv (b:=.ofNat 2) A);obtain⟨ac,C⟩:=cm (show 0<l.length from by omega);obtain⟨am,E⟩:=cm (show 1<l.length from by omega);refine Qv (e:=2) (m:=1) hl C Z Z Z Z Z (fun a3 ao Q ap R=>?_);obtain rfl:=R;refine al Z Z (QF aq Q Z Z) Z<|wQ 1 Z<|Qv (e:=2) (m:=1) hl E Z Z Z Z Z (fun a4 ar W aI X=>?_);obtain rfl:=X;refine al Z Z (QF aq W Z Z) Z<|cA Z Z (Qz Z Z Z) (fun _=>Z) (JW hG _ _ _ aq) (fun U aq=>?_);refine⟨aV,?_⟩;refine Pz 5 Z<|aF<|aw (?_);exact bV Z Z Z ⟨by rw[show jl op l=(iA op ac am,0) from by unfold jl;simp only[aX];simp only[h9,h6,u,z,A,ct,cf];rw[C,E]<;>rfl],aq⟩
    refine aG<|aJ<|PX 7 Z ?_;exact bV Z Z Z ⟨by rw[show jl op l=(0,2) from by unfold jl;simp only[aX];simp only[h9,h6,u,z,A,ct,cf]]<;>rfl,aq⟩
   refine OP 10 Z<|PX 7 Z ?_;exact bV Z Z Z ⟨by rw[show jl op l=(0,2) from by unfold jl;simp only[aX];simp only[h9,h6,u,z,ct,cf]]<;>rfl,aq⟩
  refine OP 14 Z<|PX 7 Z ?_;exact bV Z Z Z ⟨by rw[show jl op l=(0,2) from by unfold jl;simp only[aX];simp only[h9,h6,u,ct,cf]]<;>rfl,aq⟩
 refine PZ 3 Z<|ky Z (an Z) (fun F=>?_) (fun F=>?_)
 ·refine vQ 1 Z<|O Z (QD hl Z Z Z (e:=2) Z) Z<|Pv 5 Z<|aE Z (fun h6=>?_) (fun h6=>?_)
  ·refine Pt 4 Z ?_;obtain⟨aY,M⟩:=cm (show 0<l.length from by have:=iJ_ (eqv (b:=.ofNat 1) h6);omega);refine Qu (e:=2) (m:=1) hl M Z Z Z Z (fun a5 a0 aa a1 ab=>?_);obtain rfl:=ab;refine O Z (QF aq aa Z Z) Z<|bf Z (Qz Z Z Z) (fun _=>Z) (Mf hG _ _ aq) (fun U aq=>?_);refine Px 5 Z<|aF<|aw (?_);exact bV Z Z Z ⟨by rw[show jl op l=(pE op aY,0) from by unfold jl;simp only[aX];simp only[h9,F,h6,ct];rw[M]<;>rfl],aq⟩
  refine Pt 4 Z<|ky Z (an Z) (fun u=>?_) (fun u=>?_)
  ·refine PZ 3 Z<|ky Z (an Z) (fun z=>?_) (fun z=>?_)
   ·refine vQ 1 Z<|O Z (QD hl Z Z Z (e:=2) Z) Z<|Pv 5 Z<|aE Z (fun A=>?_) (fun A=>?_)
    ·refine ak<|aS (l:=zp [0,1,2,3,4,5,6,7,8,9]) Y Y<|P1 2 Z ?_;have a2:l.length=2:=iJ_ (eqv (b:=.ofNat 2) A);obtain⟨ac,C⟩:=cm (show 0<l.length from by omega);obtain⟨am,E⟩:=cm (show 1<l.length from by omega);refine Qv (e:=2) (m:=1) hl C Z Z Z Z Z (fun a3 ao Q ap R=>?_);obtain rfl:=R;refine al Z Z (QF aq Q Z Z) Z<|wQ 1 Z<|Qv (e:=2) (m:=1) hl E Z Z Z Z Z (fun a4 ar W aI X=>?_);obtain rfl:=X;refine al Z Z (QF aq W Z Z) Z<|cA Z Z (Qz Z Z Z) (fun _=>Z) (JW hG _ _ _ aq) (fun U aq=>?_);refine⟨aV,?_⟩;refine Pz 5 Z<|aF<|aw (?_);exact bV Z Z Z ⟨by rw[show jl op l=(iA op ac am,0) from by unfold jl;simp only[aX];simp only[h9,F,h6,u,z,A,ct,cf];rw[C,E]<;>rfl],aq⟩
    refine aG<|aJ<|PX 7 Z ?_;exact bV Z Z Z ⟨by rw[show jl op l=(0,2) from by unfold jl;simp only[aX];simp only[h9,F,h6,u,z,A,ct,cf]]<;>rfl,aq⟩
   refine OP 10 Z<|PX 7 Z ?_;exact bV Z Z Z ⟨by rw[show jl op l=(0,2) from by unfold jl;simp only[aX];simp only[h9,F,h6,u,z,ct,cf]]<;>rfl,aq⟩
  refine OP 14 Z<|PX 7 Z ?_;exact bV Z Z Z ⟨by rw[show jl op l=(0,2) from by unfold jl;simp only[aX];simp only[h9,F,h6,u,ct,cf]]<;>rfl,aq⟩
 refine OO 12 Z<|ky Z (an Z) (fun u=>?_) (fun u=>?_)
 ·refine PZ 3 Z<|ky Z (an Z) (fun z=>?_) (fun z=>?_)
  ·refine vQ 1 Z<|O Z (QD hl Z Z Z (e:=2) Z) Z<|Pv 5 Z<|aE Z (fun A=>?_) (fun A=>?_)
   ·refine ak<|aS (l:=zp [0,1,2,3,4,5,6,7,8,9]) Y Y<|P1 2 Z ?_;have a2:l.length=2:=iJ_ (eqv (b:=.ofNat 2) A);obtain⟨ac,C⟩:=cm (show 0<l.length from by omega);obtain⟨am,E⟩:=cm (show 1<l.length from by omega);refine Qv (e:=2) (m:=1) hl C Z Z Z Z Z (fun a3 ao Q ap R=>?_);obtain rfl:=R;refine al Z Z (QF aq Q Z Z) Z<|wQ 1 Z<|Qv (e:=2) (m:=1) hl E Z Z Z Z Z (fun a4 ar W aI X=>?_);obtain rfl:=X;refine al Z Z (QF aq W Z Z) Z<|cA Z Z (Qz Z Z Z) (fun _=>Z) (JW hG _ _ _ aq) (fun U aq=>?_);refine⟨aV,?_⟩;refine Pz 5 Z<|aF<|aw (?_);exact bV Z Z Z ⟨by rw[show jl op l=(iA op ac am,0) from by unfold jl;simp only[aX];simp only[h9,F,u,z,A,ct,cf];rw[C,E]<;>rfl],aq⟩
   refine aG<|aJ<|PX 7 Z ?_;exact bV Z Z Z ⟨by rw[show jl op l=(0,2) from by unfold jl;simp only[aX];simp only[h9,F,u,z,A,ct,cf]]<;>rfl,aq⟩
  refine OP 10 Z<|PX 7 Z ?_;exact bV Z Z Z ⟨by rw[show jl op l=(0,2) from by unfold jl;simp only[aX];simp only[h9,F,u,z,ct,cf]]<;>rfl,aq⟩
 refine OP 14 Z<|PX 7 Z ?_;exact bV Z Z Z ⟨by rw[show jl op l=(0,2) from by unfold jl;simp only[aX];simp only[h9,F,u,ct,cf]]<;>rfl,aq⟩
theorem NB {G:Cx} (hG:Plain G) {K:KP} {s:List Nat} {n:Nat} (hs:iG s=some n) {U:D} {L:Own} (aq:J U K L):bk Tryz.prog G 223 [.str s] U fun v U'=>v= .tuple [.int .i64 (.ofNat n),.nilIface]/\J U' K L:=by
 obtain⟨aa,aI,A⟩:=xp hs;have aY:cX s=s.length:=bK s;obtain⟨c0,z⟩:=cm aa;have hd0:=(H7 (i:=0) A z).1;refine PS hG Tryz.func223 Z<|Pt 9 Z<|O Z (ij Z Z Z Y Z) Z<|On 18 Z<|ky Z (an Z) (fun E=>?_) (fun E=>?_)
 ·refine Pv 7 Z<|aE Z (fun F=>?_) (fun F=>?_)
  ·refine OI 10 Z<|O Z (fw Y Z Z z) Z<|vQ 1 Z<|ky Z (an Z) (fun M=>?_) (fun M=>?_)
   ·exact absurd (iJ_<|eqv (b:=.ofNat 45) M) B
   refine vQ 1 Z<|O Z (fw Y Z Z z) Z<|Pv 4 Z<|aE Z (fun Q=>?_) (fun Q=>?_)
   ·exact absurd (iJ_<|eqv (b:=.ofNat 43) Q) B
   refine Ol 11 Z<|Ja aq Z (LQ (e:=5) Y Y Y Y Y Z) (fun _=>Z) (fun U b1 aq=>?_);refine O Z (rQ Z Z Z (e:=5) Y Z) Z<|OM 4 Z ?_;obtain⟨LL1,aq,hLL1⟩:=aq.named;refine bp ([2,3,6,8]++rg 49 15) (fun j t U=>∃(i m:Nat),j+i=cX s/\ny (s.drop i) m=some n/\m<10 ^ i/\i<=4/\t.get 6=some (.int .i64 (.ofNat m))/\t.get 49=some (.int .i64 (.ofNat i))/\J U K LL1) (cX s) ⟨0,0,Z,A,Nat.one_pos,Nat.zero_le _,Z,Z,aq⟩ ?_;clear aq;intro ab t U ar hI;obtain⟨i,m,hj,he,hm,ac,am,R,aq⟩:=hI;subst hLL1;obtain⟨oo,rfl⟩:=ar.q2 am R Z;refine Ps 6 Z<|aE Z (fun u=>?_) (fun u=>?_)
   ·refine NP 6 Z ?_;obtain⟨ao,C⟩:=cm (show i<s.length from by have:=bu u;omega);obtain⟨hd,ap⟩:=H7 he C;refine O Z (eo (e:=5) (m:=1) Y Y Z Z<|bu u) Z<|O Z (ay Z aq.g0 Y<|jZ C (by first | omega | rfl)) Z<|ON 17 Z<|aE Z (fun W=>?_) (fun W=>?_)
    ·exact absurd (W.symm.trans<|ML hd) (by decide)
    refine aG<|ad<|ai Z<|PZ 3 Z ?_;refine O Z (ek (j:=.u8) (k:=.i64) Y Y Y Z) Z ?_;refine PY 3 Z (aJ (PW 4 Z (aO ⟨ab-1,by have:=bu u;omega,oF,i+1,10*m+(ao-48),by have:=bu u;omega,ap,by rw[Nat.pow_succ];omega,by have:=bu u;omega,cI<|H8 hd (by have:=xj i ac;omega),cI<|bg B,aq⟩)))
   refine OL 3 Z<|aT<|OI 4 Z<|O Z (fw Y Z Z z) Z<|Pv 3 Z<|aE Z (fun X=>?_) (fun X=>?_)
   ·exact absurd (iJ_<|eqv (b:=.ofNat 45) X) B
   refine Pu 10 Z<|aw (?_);exact bV Z Z Z ⟨by rw[show m=n from by rw[pP (by have:=bC u;omega)] at he;exact Option.some.inj he],aq.pop⟩
  exact absurd (bC (b:=19) F) B
 exact absurd (bC (a:=0) E) B
theorem Nt {G:Cx} (u:Plain G) {K:KP} {s:List Nat} {n:Nat} (z:iG s=some n) {U:D} {L:Own} (aq:J U K L):bk Tryz.prog G 167 [.str s] U fun v U'=>v= .tuple [.int .i64 (.ofNat n),.nilIface]/\J U' K L:=by
 refine PS u Tryz.func167 Z<|Pt 9 Z<|bf Z (Qz Z Z Z) (fun _=>Z) (NB u z aq) (fun U aq=>?_);refine On 11 Z ?_;refine O Z (bn (v:=.bool false) Z Y) Z ?_;refine OQ 13 Z ?_;exact bV Z Z Z ⟨Z,aq⟩
theorem uU {aY:Int} {k:Nat} {op num:Int} {name:List Nat} {kids:List XE} (h:ea aY (k+1) (.mk op num name kids)=true) (h1:I op 1=false) (h2:I op 2=false):kids.length<=2/\∀x∈kids,ea aY k x=true:=by
 unfold ea at h;rw[h1,h2] at h;simp only[cf] at h;generalize aa:(bif (bif I op 3 then true else I op 4) then false else(bif bU op 5 then true else bU 16 op))=A at h;cases A with
 | true=>cases h
 | false=>
  simp only[cf] at h;generalize u:(bif aX (I num 0) then true else bif aX (gL name []) then true else aX (I (.ofNat kids.length)<|fQ op))=C at h;cases C with
  | true=>cases h
  | false=>
   simp only[cf] at h;refine⟨?_,aE_.1 h⟩;cases e1:aX (I num 0) with
   | true=>rw[e1] at u;cases u
   | false=>
   cases z:aX (gL name []) with
   | true=>rw[e1,z] at u;cases u
   | false=>
   rw[e1,z] at u;have h3:(kids.length:Int)=fQ op:=eqv (bj u);have h4:fQ op<=2:=by unfold fQ;generalize (bif I op 3 then true else I op 4)=q;cases q<;>decide
   omega
theorem xu {aY:Int} {k:Nat} {op num:Int} {name:List Nat} {kids:List XE} (h:ea aY (k+1) (.mk op num name kids)=true) (h1:I op 1=false) (h2:I op 2=true):∃n,iG name=some n/\(n:Int)<aY:=by
 unfold ea at h;rw[h1,h2] at h;simp only[cf,ct] at h;cases u:iG name with
 | none=>rw[u] at h;cases h
 | some n=>
  rw[u] at h;dsimp only at h;refine⟨n,Z,?_⟩;cases hl:bU (.ofNat n) aY with
  | false=>rw[hl] at h;cases h
  | true=>rw[eP,decide_eq_true_iff] at hl;exact hl
theorem AE {G:Cx} (hG:Plain G) {K:KP} {aY:List Int} {rn:Int} (a7:rn<=aY.length) {regv:V} (X:bR K 1 dy aY regv) {tb et:Nat} {ro:Bool} {c0 c1 c2 c4 c5 c6 c7:V} (ht:K tb (.row [c0,c1,c2,regv,c4,c5,c6,c7] et ro)):
  ∀(k:Nat) (x:XE) (vs:List V),ey K k x vs->ea rn k x=true->∀(U:D) (L:Own),J U K L->bk Tryz.prog G 116 [.ptr tb 0,.agg vs] U fun v U'=>v= .int .i64 (eJ aY k x)/\J U' K L:=by
 intro k;induction k with
 | zero=>intro x vs h;cases x;exact h.elim
 | succ k ih=>
 intro x vs h hr U L aq;obtain⟨op,num,name,kids⟩:=x;obtain⟨v,rfl,hk⟩:=h;have hS:eJ aY (k+1) (.mk op num name kids)=bif I op 1 then num else bif I op 2 then(aY[(iG name).getD 0]?).getD 0 else Pe op (kids.map<|eJ aY k):=rfl;rw[hS];clear hS;obtain⟨F,hF⟩:∃F:XE->Int,F=eJ aY k:=⟨_,Z⟩;rw[<-hF];refine PS hG Tryz.func116 Z<|Pt 2 Z<|kp aq Z (cz Z Z) (fun U b1 aq=>?_);refine OW aq 10 [0,0] Z Z<|aN<|Pt 2 Z<|ky Z (az Z Z Z) (fun A=>?_) (fun A=>?_)
 ·refine PF aq 12 [1,0] Z Z<|aF<|aw (?_);exact aA Z Z ⟨cJ (by rw[A];rfl),aq.pop⟩
 refine OO 6 Z<|ky Z (az Z Z Z) (fun C=>?_) (fun C=>?_)
 ·refine OX aq 8 [2,0] Z Z ?_;obtain⟨rg,aa,a1⟩:=xu hr A C;refine bf Z (Qz Z Z Z) (fun _=>Z) (Nt hG aa aq) (fun U aq=>?_);refine OO 10 Z<|O Z (eW Z) Z<|O Z (QA 3 Z) Z<|O Z (QB Z (aq.fq ht) Z) Z<|vQ 1 Z ?_;obtain⟨aI,R⟩:=cm (show rg<aY.length from by omega);refine Qu (e:=2) (m:=1) X R Z Z Z Z (fun a8 a2 ab a3 ac=>?_);obtain rfl:=ac;refine O Z (QF aq ab Z Z) Z<|Px 4 Z<|aF<|aw (?_);exact aA Z Z ⟨cJ (by rw[A,C,aa];show aI=(aY[rg]?).getD 0;rw[R];rfl),aq.pop⟩
 refine OP 6 Z<|PA aq 4 [3,0] Z Z<|O Z (QD hk Z Z Z (e:=82) Z) Z ?_;obtain⟨a9,a0⟩:=uU hr A C;refine gT aq Z (k9 (e:=2) (w:=8) (z:=[gZ 0]) Y Y Y Y Z Z B B) (fun _=>Z) (fun U b2 aq=>?_);rw[iT (f:=gZ)] at aq;rw[<-wq F kids] at aq;refine Ou aq 8 [3,1] Z Z (O Z (QD hk Z Z Z (e:=82) Z) Z (OM 4 Z (bp ([8,9]++rg 40 12) (fun j t U=>∃(i:Nat),j+i=kids.length/\t.get 40=some (.int .i64 (.ofNat i))/\J U K ((b2,.row ((nf F kids i).map gZ) 2 false)::(b1,.row [.int .i64 op,.int .i64 num,.str name,v] 82 false)::L)) (kids.length) ⟨0,Z,Z,aq⟩ ?_)));clear aq;intro j9 t U ar hI;obtain⟨i,bb,am,aq⟩:=hI;obtain⟨oo,rfl⟩:=ar.q1 am Z;refine Pt 2 Z<|ky Z (az Z Z Z) (fun u=>?_) (fun u=>?_)
 ·refine Om 8 Z<|Pt 3 Z ?_;obtain⟨E,Q,a4⟩:=cL u;refine Qu (e:=82) (m:=4) hk Q Z Z Z Z (fun be a5 ao a6 W=>?_);have hr43raw:=W;obtain⟨bi,bl,bm,bo,rfl,ap⟩:=W.shape;refine O Z (QG aq ao Z Z) Z<|kp aq Z (cP (cs:=[T,T,.str [],.ax]) Y Y) (fun U b3 aq=>?_);refine vQ 1 Z<|bO aq Z (QH Z Z Z aq.g0 (m:=4) Z (ah Z<|ah Z<|ah Z<|ah ap.leaf.2 aC) (cells':=[_,_,_,_]) Z) Z (fun U aq=>?_);refine Pw 6 Z<|O Z (QC Z aq.g0 (n:=4) (vs:=[_,_,_,_]) Z) Z<|bf Z (Qz Z Z Z) (fun _=>Z) (ih E _ hr43raw (a0 E<|gB_ Q) _ _ aq) (fun U aq=>?_);refine O Z (eo (e:=2) (m:=1) Y Y Z Z<|bu u) Z ?_;refine cC aq (.there .here) Z (aL Z Z (show _=some [gZ<|F E] from by rw[hF];rfl) aq.g1 (m:=1) Y Z (by rw[lM_];rw[qK (by have:=bu u;omega)];have:=bu u;omega) Z (cells':=((nf F kids i).set i<|F E).map (gZ)) (fb (f:=gZ) (v:=(F E)) (by rw[qK (by have:=bu u;omega)];exact bu u) (by first | omega | rfl))) Z (fun U aq=>?_);rw[yO Q] at aq;refine af<|aJ<|PW 4 Z ?_;have aq:=aq.pop;refine aO ⟨j9-1,by omega,oF,i+1,by omega,cI<|bg (by have:=hk.bG;omega),aq⟩
 refine ON 4 Z<|OL 3 Z<|aT<|PA aq 5 [0,1] Z Z ?_;rw[yN<|bC u] at aq;have hq:=aq.keeps (M:=[_]);refine bf Z (aR Z Z (show _=some [V.int .i64 op,V.slice b2 0 (kids.map F).length (.known (kids.map F).length)] from by rw[lM_];rfl) Y) (fun _=>Z) (Dj<|PN hG (fK (xs:=kids.map F) (KP.gF 0 Z) (by rw[lM_];omega)) op hq) (fun U aq=>?_);clear hq;refine Px 14 Z ?_;exact aA Z Z ⟨cJ (by rw[A,C];rfl),aq.pop⟩
theorem Gk {G:Cx} (E:Plain G) {K:KP} {k:Nat} {c:XC} {cv:V} (hi:bR K 6 (iI K k) c.ins cv) (C:mn k c) (M:um k c) {U:D} {L:Own} (aq:J U K L):
  bk Tryz.prog G 157 [.agg [.int .i64 c.aY,cv]] U fun v U'=>∃z,v= .int .i64 z/\(bif bU z 0 then false else true)=jn k c/\J U' K L:=by
 refine PS E Tryz.func157 Z<|Pt 2 Z<|kp aq Z (cz Z Z) (fun U b1 aq=>?_);refine On 6 Z<|O Z (QC Z aq.g0 (n:=2) (vs:=[_,_]) Z) Z<|bf Z (Qz Z Z Z) (fun _=>Z) (v8 E hi C M aq) (fun U aq=>?_);refine Pv 3 Z<|aE Z (fun F=>?_) (fun F=>?_)
 ·refine Pu 7 Z ?_;exact aA Z Z ⟨_,Z,by show _=(bif aX (I (dq k c) 0) then false else(fT c).isSome);rw[<-gU C];rw[bT F];rfl,aq.pop⟩
 refine OK 4 Z<|O Z (QC Z aq.g0 (n:=2) (vs:=[_,_]) Z) Z ?_;have u:dq k c=0:=by rw[<-gU C];exact eqv<|bj F
 have hok:=Dn u;refine cH Z (Qz Z Z Z) (fun _=>Z) (Ds E hok u C M hi aq) ?_;rintro _ U ⟨r,Q,rfl,aq⟩;refine On 11 Z<|O Z (cV Z) Z<|Pv 2 Z<|aE Z (fun A=>?_) (fun A=>?_)
 ·refine Pu 7 Z ?_;exact aA Z Z ⟨_,Z,by show _=(bif aX (I (dq k c) 0) then false else(fT c).isSome);rw[u,<-BL hok Q];show _=(bif false then false else _);rw[show(jF (gM c) (fun _=>1) r c.ins.length (c.ins.length+2)<|List.replicate c.ins.length 0).2=false from kA A];rfl,aq.pop⟩
 refine Pu 9 Z ?_;exact aA Z Z ⟨_,Z,by show _=(bif aX (I (dq k c) 0) then false else(fT c).isSome);rw[u,<-BL hok Q];show _=(bif false then false else _);rw[show(jF (gM c) (fun _=>1) r c.ins.length (c.ins.length+2)<|List.replicate c.ins.length 0).2=true from eV A,show∀q:Nat,bU (.ofNat q) 0=false from fun q=>B1.2 (show(0:Int)<=Int.ofNat q from Int.natCast_nonneg q)],aq.pop⟩
theorem MB {G:Cx} (u:Plain G) {K:KP} {k:Nat} {c:XC} {cv:V} (hi:bR K 6 (iI K k) c.ins cv) (A:mn k c) (C:um k c) {U:D} {L:Own} (aq:J U K L):
  bk Tryz.prog G 103 [.agg [.int .i64 c.aY,cv]] U fun v U'=>v= .bool (jn k c)/\J U' K L:=by
 refine PS u Tryz.func103 Z<|Pt 2 Z<|kp aq Z (cz Z Z) (fun U b1 aq=>?_);refine OO 5 Z<|O Z (QC Z aq.g0 (n:=2) (vs:=[_,_]) Z) Z<|cH Z (Qz Z Z Z) (fun _=>Z) (Gk u hi A C aq) ?_;rintro _ U ⟨z,rfl,E,aq⟩;refine Px 5 Z ?_;exact aA Z Z ⟨cB E,aq.pop⟩
theorem kQ {G:Cx} (z:Plain G) {K:KP} (b:Bool) {U:D} {L:Own} (aq:J U K L):bk Tryz.prog G 263 [.bool b] U fun v U'=>v= .int .i64 (pj b)/\J U' K L:=by
 refine PS z Tryz.func263 Z<|Ps 11 Z<|aE Z (fun u=>?_) (fun u=>?_)
 ·refine Pu 7 Z ?_;exact aA Z Z ⟨by rw[u];rfl,aq⟩
 refine Pu 8 Z ?_;exact aA Z Z ⟨by rw[u];rfl,aq⟩
theorem H5 {G:Cx} (W:Plain G) {K:KP} (op a b:Int) {U:D} {L:Own} (aq:J U K L):bk Tryz.prog G 264 [.int .i64 op,.int .i64 a,.int .i64 b] U fun v U'=>v= .int .i64 (iA op a b)/\J U' K L:=by
 refine PS W Tryz.func264 Z<|OH 12 Z<|Pt 2 Z<|ky Z (az Z Z Z) (fun F=>?_) (fun F=>?_)
 ·refine OO 8 Z<|ky Z (an Z) (fun aa=>?_) (fun aa=>?_)
  ·refine PZ 3 Z<|bf Z (Qz Z Z Z) (fun _=>Z) (kQ W _ aq) (fun U aq=>?_);refine Px 4 Z<|aF<|aw (?_);exact aA Z Z ⟨cJ (by unfold iA;simp only[F,ct,cf];simp only[aX];simp only[aa,ct,cf]),aq⟩
  refine PZ 3 Z<|bf Z (Qz Z Z Z) (fun _=>Z) (kQ W _ aq) (fun U aq=>?_);refine Px 4 Z<|aF<|aw (?_);exact aA Z Z ⟨cJ (by unfold iA;simp only[F,ct,cf];simp only[aX];simp only[aa,ct,cf]),aq⟩
 refine OO 6 Z<|ky Z (az Z Z Z) (fun u=>?_) (fun u=>?_)
 ·refine OO 8 Z<|ky Z (an Z) (fun ab=>?_) (fun ab=>?_)
  ·refine PZ 3 Z<|bf Z (Qz Z Z Z) (fun _=>Z) (kQ W _ aq) (fun U aq=>?_);refine Px 4 Z<|aF<|aw (?_);exact aA Z Z ⟨cJ (by unfold iA;simp only[F,u,ct,cf];simp only[aX];simp only[ab,ct,cf]),aq⟩
  refine PZ 3 Z<|bf Z (Qz Z Z Z) (fun _=>Z) (kQ W _ aq) (fun U aq=>?_);refine Px 4 Z<|aF<|aw (?_);exact aA Z Z ⟨cJ (by unfold iA;simp only[F,u,ct,cf];simp only[aX];simp only[ab,ct,cf]),aq⟩
 refine OO 6 Z<|ky Z (az Z Z Z) (fun z=>?_) (fun z=>?_)
 ·refine OO 9 Z<|bf Z (Qz Z Z Z) (fun _=>Z) (kQ W _ aq) (fun U aq=>?_);refine Px 4 Z<|aF<|aw (?_);exact aA Z Z ⟨cJ (by unfold iA;simp only[F,u,z,ct,cf]<;>rfl),aq⟩
 refine OO 6 Z<|ky Z (az Z Z Z) (fun A=>?_) (fun A=>?_)
 ·refine OO 9 Z<|bf Z (Qz Z Z Z) (fun _=>Z) (kQ W _ aq) (fun U aq=>?_);refine Px 4 Z<|aF<|aw (?_);exact aA Z Z ⟨cJ (by unfold iA;simp only[F,u,z,A,ct,cf]<;>rfl),aq⟩
 refine OO 6 Z<|ky Z (az Z Z Z) (fun C=>?_) (fun C=>?_)
 ·refine OO 9 Z<|bf Z (Qz Z Z Z) (fun _=>Z) (kQ W _ aq) (fun U aq=>?_);refine Px 4 Z<|aF<|aw (?_);exact aA Z Z ⟨cJ (by unfold iA;simp only[F,u,z,A,C,ct,cf]<;>rfl),aq⟩
 refine OO 6 Z<|ky Z (az Z Z Z) (fun E=>?_) (fun E=>?_)
 ·refine OO 9 Z<|bf Z (Qz Z Z Z) (fun _=>Z) (kQ W _ aq) (fun U aq=>?_);refine Px 4 Z<|aF<|aw (?_);exact aA Z Z ⟨cJ (by unfold iA;simp only[F,u,z,A,C,E,ct,cf]<;>rfl),aq⟩
 refine OO 6 Z<|ky Z (az Z Z Z) (fun M=>?_) (fun M=>?_)
 ·refine Px 13 Z<|aF<|aw (?_);exact aA Z Z ⟨cJ (by unfold iA;simp only[F,u,z,A,C,E,M,ct,cf];exact zD _ _ _),aq⟩
 refine OO 6 Z<|ky Z (az Z Z Z) (fun Q=>?_) (fun Q=>?_)
 ·refine Px 13 Z<|aF<|aw (?_);exact aA Z Z ⟨cJ (by unfold iA;simp only[F,u,z,A,C,E,M,Q,ct,cf];exact zD _ _ _),aq⟩
 refine OO 6 Z<|ky Z (az Z Z Z) (fun R=>?_) (fun R=>?_)
 ·refine Px 13 Z<|aF<|aw (?_);exact aA Z Z ⟨cJ (by unfold iA;simp only[F,u,z,A,C,E,M,Q,R,ct,cf];exact zD _ _ _),aq⟩
 refine OO 6 Z<|ky Z (az Z Z Z) (fun X=>?_) (fun X=>?_)
 ·refine OO 7 Z ?_;refine O Z (ek (j:=.i64) (k:=.u64) Y Y Y Z) Z ?_;refine vQ 1 Z ?_;refine O Z (ek (j:=.i64) (k:=.u64) Y Y Y Z) Z ?_;refine vQ 1 Z ?_;refine O Z (ek (j:=.u64) (k:=.i64) Y Y Y Z) Z ?_;refine Px 4 Z<|aF<|aw (?_);exact aA Z Z ⟨cJ (by unfold iA;simp only[F,u,z,A,C,E,M,Q,R,X,ct,cf]<;>rfl),aq⟩
 refine OO 6 Z<|ky Z (az Z Z Z) (fun ac=>?_) (fun ac=>?_)
 ·refine OO 7 Z ?_;refine O Z (ek (j:=.i64) (k:=.u64) Y Y Y Z) Z ?_;refine vQ 1 Z ?_;refine O Z (ek (j:=.i64) (k:=.u64) Y Y Y Z) Z ?_;refine vQ 1 Z ?_;refine O Z (ek (j:=.u64) (k:=.i64) Y Y Y Z) Z ?_;refine Px 4 Z<|aF<|aw (?_);exact aA Z Z ⟨cJ (by unfold iA;simp only[F,u,z,A,C,E,M,Q,R,X,ac,ct,cf]<;>rfl),aq⟩
 refine OP 6 Z<|Pt 3 Z ?_;refine O Z (ek (j:=.i64) (k:=.u64) Y Y Y Z) Z ?_;refine vQ 1 Z ?_;refine O Z (ek (j:=.i64) (k:=.u64) Y Y Y Z) Z ?_;refine vQ 1 Z ?_;refine O Z (ek (j:=.u64) (k:=.i64) Y Y Y Z) Z ?_;refine Px 4 Z ?_;exact aA Z Z ⟨cJ (by unfold iA;simp only[F,u,z,A,C,E,M,Q,R,X,ac,ct,cf]<;>rfl),aq⟩
theorem Pc {G:Cx} (hG:Plain G) {K:KP} {l:List Int} {v:V} (hl:bR K 1 dy l v) (op:Int) {U:D} {L:Own} (aq:J U K L):bk Tryz.prog G 236 [.int .i64 op,v] U fun v U'=>v= .tuple [.int .i64 (jl op l).1,.int .i64 (jl op l).2]/\J U' K L:=by
 refine PS hG Tryz.func236 Z<|OI 11 Z<|ky Z (an Z) (fun R=>?_) (fun R=>?_)
 ·refine PZ 5 Z<|O Z (QD hl Z Z Z (e:=2) Z) Z<|Pv 4 Z<|aE Z (fun u=>?_) (fun u=>?_)
  ·refine Ps 7 Z<|aE Z (fun M=>?_) (fun M=>?_)
   ·refine Pt 3 Z ?_;obtain⟨ao,W⟩:=cm (show 0<l.length from by have:=iJ_ (eqv (b:=.ofNat 1) u);omega);refine Qu (e:=2) (m:=1) hl W Z Z Z Z (fun bm a7 ap a8 ar=>?_);obtain rfl:=ar;refine O Z (QF aq ap Z Z) Z ?_;refine O Z (ek (j:=.i64) (k:=.u64) Y Y Y Z) Z ?_;refine vQ 1 Z ?_;refine O Z (ek (j:=.u64) (k:=.i64) Y Y Y Z) Z ?_;refine Px 5 Z<|aw<|aw (?_);exact bV Z Z Z ⟨by rw[show jl op l=(pE op ao,0) from by unfold jl;simp only[aX];simp only[R,u,M,ct];rw[W]<;>rfl];show _=V.tuple [.int .i64<|pE op ao,_];unfold pE;rw[show I op 3=true from M];rfl,aq⟩
   refine OK 5 Z ?_;obtain⟨aI,X⟩:=cm (show 0<l.length from by have:=iJ_ (eqv (b:=.ofNat 1) u);omega);refine Qu (e:=2) (m:=1) hl X Z Z Z Z (fun bo a9 aY bb a0=>?_);obtain rfl:=a0;refine O Z (QF aq aY Z Z) Z<|vQ 1 Z<|bf Z (Qz Z Z Z) (fun _=>Z) (kQ hG _ aq) (fun U aq=>?_);refine OQ 6 Z ?_;exact bV Z Z Z ⟨by rw[show jl op l=(pE op aI,0) from by unfold jl;simp only[aX];simp only[R,u,M,ct];rw[X]<;>rfl];show _=V.tuple [.int .i64<|pE op aI,_];unfold pE;rw[show I op 3=false from M];rfl,aq⟩
  refine Ol 7 Z<|ky Z (an Z) (fun z=>?_) (fun z=>?_)
  ·refine PZ 3 Z<|ky Z (an Z) (fun A=>?_) (fun A=>?_)
   ·refine vQ 1 Z<|O Z (QD hl Z Z Z (e:=2) Z) Z<|Pv 4 Z<|aE Z (fun C=>?_) (fun C=>?_)
    ·refine ak<|aS (l:=zp [0,1,2,3,4,5,6,7,8,9]) Y Y<|P1 2 Z ?_;have be:l.length=2:=iJ_ (eqv (b:=.ofNat 2) C);obtain⟨a1,E⟩:=cm (show 0<l.length from by omega);obtain⟨a2,F⟩:=cm (show 1<l.length from by omega);refine Qv (e:=2) (m:=1) hl E Z Z Z Z Z (fun bi a3 aa a4 ab=>?_);obtain rfl:=ab;refine al Z Z (QF aq aa Z Z) Z<|wQ 1 Z<|Qv (e:=2) (m:=1) hl F Z Z Z Z Z (fun bl a5 ac a6 am=>?_);obtain rfl:=am;refine al Z Z (QF aq ac Z Z) Z<|cA Z Z (Qz Z Z Z) (fun _=>Z) (H5 hG _ _ _ aq) (fun U aq=>?_);refine⟨aV,?_⟩;refine OT 6 Z ?_;exact bV Z Z Z ⟨by rw[show jl op l=(iA op a1 a2,0) from by unfold jl;simp only[aX];simp only[R,u,z,A,C,ct,cf];rw[E,F]<;>rfl],aq⟩
    refine Pu 9 Z ?_;exact bV Z Z Z ⟨by rw[show jl op l=(0,2) from by unfold jl;simp only[aX];simp only[R,u,z,A,C,ct,cf]<;>rfl],aq⟩
   refine OQ 16 Z ?_;exact bV Z Z Z ⟨by rw[show jl op l=(0,2) from by unfold jl;simp only[aX];simp only[R,u,z,A,ct,cf]<;>rfl],aq⟩
  refine OQ 20 Z ?_;exact bV Z Z Z ⟨by rw[show jl op l=(0,2) from by unfold jl;simp only[aX];simp only[R,u,z,ct,cf]<;>rfl],aq⟩
 refine PZ 3 Z<|ky Z (an Z) (fun Q=>?_) (fun Q=>?_)
 ·refine vQ 1 Z<|O Z (QD hl Z Z Z (e:=2) Z) Z<|Pv 4 Z<|aE Z (fun u=>?_) (fun u=>?_)
  ·refine Ps 7 Z<|aE Z (fun M=>?_) (fun M=>?_)
   ·refine Pt 3 Z ?_;obtain⟨ao,W⟩:=cm (show 0<l.length from by have:=iJ_ (eqv (b:=.ofNat 1) u);omega);refine Qu (e:=2) (m:=1) hl W Z Z Z Z (fun bm a7 ap a8 ar=>?_);obtain rfl:=ar;refine O Z (QF aq ap Z Z) Z ?_;refine O Z (ek (j:=.i64) (k:=.u64) Y Y Y Z) Z ?_;refine vQ 1 Z ?_;refine O Z (ek (j:=.u64) (k:=.i64) Y Y Y Z) Z ?_;refine Px 5 Z<|aw<|aw (?_);exact bV Z Z Z ⟨by rw[show jl op l=(pE op ao,0) from by unfold jl;simp only[aX];simp only[R,Q,u,M,ct];rw[W]<;>rfl];show _=V.tuple [.int .i64<|pE op ao,_];unfold pE;rw[show I op 3=true from M];rfl,aq⟩
   refine OK 5 Z ?_;obtain⟨aI,X⟩:=cm (show 0<l.length from by have:=iJ_ (eqv (b:=.ofNat 1) u);omega);refine Qu (e:=2) (m:=1) hl X Z Z Z Z (fun bo a9 aY bb a0=>?_);obtain rfl:=a0;refine O Z (QF aq aY Z Z) Z<|vQ 1 Z<|bf Z (Qz Z Z Z) (fun _=>Z) (kQ hG _ aq) (fun U aq=>?_);refine OQ 6 Z ?_;exact bV Z Z Z ⟨by rw[show jl op l=(pE op aI,0) from by unfold jl;simp only[aX];simp only[R,Q,u,M,ct];rw[X]<;>rfl];show _=V.tuple [.int .i64<|pE op aI,_];unfold pE;rw[show I op 3=false from M];rfl,aq⟩
  refine Ol 7 Z<|ky Z (an Z) (fun z=>?_) (fun z=>?_)
  ·refine PZ 3 Z<|ky Z (an Z) (fun A=>?_) (fun A=>?_)
   ·refine vQ 1 Z<|O Z (QD hl Z Z Z (e:=2) Z) Z<|Pv 4 Z<|aE Z (fun C=>?_) (fun C=>?_)
    ·refine ak<|aS (l:=zp [0,1,2,3,4,5,6,7,8,9]) Y Y<|P1 2 Z ?_;have be:l.length=2:=iJ_ (eqv (b:=.ofNat 2) C);obtain⟨a1,E⟩:=cm (show 0<l.length from by omega);obtain⟨a2,F⟩:=cm (show 1<l.length from by omega);refine Qv (e:=2) (m:=1) hl E Z Z Z Z Z (fun bi a3 aa a4 ab=>?_);obtain rfl:=ab;refine al Z Z (QF aq aa Z Z) Z<|wQ 1 Z<|Qv (e:=2) (m:=1) hl F Z Z Z Z Z (fun bl a5 ac a6 am=>?_);obtain rfl:=am;refine al Z Z (QF aq ac Z Z) Z<|cA Z Z (Qz Z Z Z) (fun _=>Z) (H5 hG _ _ _ aq) (fun U aq=>?_);refine⟨aV,?_⟩;refine OT 6 Z ?_;exact bV Z Z Z ⟨by rw[show jl op l=(iA op a1 a2,0) from by unfold jl;simp only[aX];simp only[R,Q,u,z,A,C,ct,cf];rw[E,F]<;>rfl],aq⟩
    refine Pu 9 Z ?_;exact bV Z Z Z ⟨by rw[show jl op l=(0,2) from by unfold jl;simp only[aX];simp only[R,Q,u,z,A,C,ct,cf]<;>rfl],aq⟩
   refine OQ 16 Z ?_;exact bV Z Z Z ⟨by rw[show jl op l=(0,2) from by unfold jl;simp only[aX];simp only[R,Q,u,z,A,ct,cf]<;>rfl],aq⟩
  refine OQ 20 Z ?_;exact bV Z Z Z ⟨by rw[show jl op l=(0,2) from by unfold jl;simp only[aX];simp only[R,Q,u,z,ct,cf]<;>rfl],aq⟩
 refine Pv 7 Z<|Ol 7 Z<|ky Z (an Z) (fun z=>?_) (fun z=>?_)
 ·refine PZ 3 Z<|ky Z (an Z) (fun A=>?_) (fun A=>?_)
  ·refine vQ 1 Z<|O Z (QD hl Z Z Z (e:=2) Z) Z<|Pv 4 Z<|aE Z (fun C=>?_) (fun C=>?_)
   ·refine ak<|aS (l:=zp [0,1,2,3,4,5,6,7,8,9]) Y Y<|P1 2 Z ?_;have be:l.length=2:=iJ_ (eqv (b:=.ofNat 2) C);obtain⟨a1,E⟩:=cm (show 0<l.length from by omega);obtain⟨a2,F⟩:=cm (show 1<l.length from by omega);refine Qv (e:=2) (m:=1) hl E Z Z Z Z Z (fun bi a3 aa a4 ab=>?_);obtain rfl:=ab;refine al Z Z (QF aq aa Z Z) Z<|wQ 1 Z<|Qv (e:=2) (m:=1) hl F Z Z Z Z Z (fun bl a5 ac a6 am=>?_);obtain rfl:=am;refine al Z Z (QF aq ac Z Z) Z<|cA Z Z (Qz Z Z Z) (fun _=>Z) (H5 hG _ _ _ aq) (fun U aq=>?_);refine⟨aV,?_⟩;refine OT 6 Z ?_;exact bV Z Z Z ⟨by rw[show jl op l=(iA op a1 a2,0) from by unfold jl;simp only[aX];simp only[R,Q,z,A,C,ct,cf];rw[E,F]<;>rfl],aq⟩
   refine Pu 9 Z ?_;exact bV Z Z Z ⟨by rw[show jl op l=(0,2) from by unfold jl;simp only[aX];simp only[R,Q,z,A,C,ct,cf]<;>rfl],aq⟩
  refine OQ 16 Z ?_;exact bV Z Z Z ⟨by rw[show jl op l=(0,2) from by unfold jl;simp only[aX];simp only[R,Q,z,A,ct,cf]<;>rfl],aq⟩
 refine OQ 20 Z ?_;exact bV Z Z Z ⟨by rw[show jl op l=(0,2) from by unfold jl;simp only[aX];simp only[R,Q,z,ct,cf]<;>rfl],aq⟩
theorem KC {G:Cx} (hG:Plain G) {K:KP} {aY:List Int} {rn:Int} (a9:rn<=aY.length) {regv:V} (W:bR K 1 dy aY regv):∀(k:Nat) (x:XE) (vs:List V),ey K k x vs->ea rn k x=true->∀(U:D) (L:Own),J U K L->bk Tryz.prog G 171 [.agg vs,regv] U fun v U'=>v= .int .i64 (eJ aY k x)/\J U' K L:=by
 intro k;induction k with
 | zero=>intro x vs h;cases x;exact h.elim
 | succ k ih=>
 intro x vs hE hR U L aq;obtain⟨op,num,name,kids⟩:=x;obtain⟨v,rfl,hk⟩:=hE;have hX:eJ aY (k+1) (.mk op num name kids)=bif I op 1 then num else bif I op 2 then(aY[(iG name).getD 0]?).getD 0 else Pe op (kids.map<|eJ aY k):=rfl;refine PS hG Tryz.func171 Z<|Pt 2 Z<|kp aq Z (cz Z Z) (fun U b1 aq=>?_);refine OW aq 11 [0,0] Z Z<|aE Z (fun A=>?_) (fun A=>?_)
 ·refine PB aq 9 [1,0] Z Z ?_;exact aA Z Z ⟨cJ (by rw[hX,A];rfl),aq.pop⟩
 refine Ot aq 8 [0,0] Z Z<|Pv 2 Z<|aE Z (fun C=>?_) (fun C=>?_)
 ·refine PA aq 5 [2,0] Z Z<|bf Z (Qz Z Z Z) (fun _=>Z) (HX hG _ aq) (fun U aq=>?_);obtain⟨nn,aa,bb⟩:=xu hR A C;obtain⟨y,hy⟩:=cm (show nn<aY.length by omega);have ab:jQ name= .ofNat nn:=by unfold jQ;rw[aa]
  refine Qu (e:=2) (m:=1) W hy Z Z Z (show _=some (V.int .i64 (.ofNat nn)) from cI ab) (fun be a3 ac a4 am=>?_);obtain rfl:=am;refine O Z (QF aq ac Z Z) Z<|OQ 5 Z ?_;exact aA Z Z ⟨cJ (by rw[hX,A,C,aa];show y=(aY[nn]?).getD 0;rw[hy];rfl),aq.pop⟩
 refine Ol 10 Z ?_;obtain⟨bi,ap⟩:=uU hR A C;replace aq:J U K ([]++_):=aq;refine OM 4 Z (bp ([5,6]++rg 23 17) (fun j t U=>∃(i:Nat) (u:V) (M:Own),j+i=kids.length/\cQ 1 2 dy ((kids.take i).map<|eJ aY k) u M/\t.get 5=some (u)/\t.get 6=some (.int .i64 (.ofNat i))/\J U K (M++(b1,.row [.int .i64 op,.int .i64 num,.str name,v] 82 false)::L)) (kids.length) ⟨0,.ax,[],Z,cQ.nil,Z,Z,aq⟩ ?_);clear aq;intro j7 t U ar hI;obtain⟨i,u,M,hj,hO,aI,a0,aq⟩:=hI;obtain⟨oo,rfl⟩:=ar.q2 aI a0 Z;refine OU aq 5 [3] Z Z<|O Z (QB Z aq.aQ.g0 Z) Z<|O Z (QD hk Z Z Z (e:=82) Z) Z<|Pv 3 Z<|aE Z (fun E=>?_) (fun E=>?_)
 ·refine Oq aq 7 [3] Z Z<|O Z (QB Z aq.aQ.g0 Z) Z<|vQ 1 Z ?_;obtain⟨bl,F,a5⟩:=cL E;refine Qu (e:=82) (m:=4) hk F Z Z Z Z (fun bm a6 ao a7 Q=>?_);obtain⟨bo,bs,bt,bv,rfl,a8⟩:=Q.shape;refine O Z (QG aq ao Z Z) Z<|vQ 1 Z<|bf Z (Qz Z Z Z) (fun _=>Z) (ih _ _ Q (ap _<|gB_ F) _ _ aq) (fun U aq=>?_);refine gT aq Z (bY (e:=2) (m:=1) (z:=[T]) (cs:=[_]) Y Y Y Y<|bD Z Z Z Z bJ) (fun _=>Z) (fun U b2 aq=>?_);replace aq:=aq.pull (.there .here);replace aq:=aq.pull (.cM<|ep.here (X:=[_]));refine sk (R:=dy) (m:=1) (e:=2) hO aq (eU (m:=1) Z Z) dy.leaf (by rw[lM_,lT_];show _+1<=_;omega) Z Z Z Z Z Z Z (fun _=>Z) (fun U a1 a2 hO39 aq=>?_);refine PY 2 Z<|aJ<|PW 5 Z<|aO ⟨j7-1,(by have:=bu E;omega),oF,i+1,a1,a2,(by have:=bu E;omega),(by rw[mi F];exact hO39),Z,cI<|bg (by have:=hk.bG;omega),aq⟩
 refine OL 3 Z<|aT<|Pt 2 Z ?_;replace aq:=aq.keeps;refine P3 aq 3 [0,0] Z Z<|bf Z (Qz Z Z Z) (fun _=>Z) (Pc hG hO.iu _ aq) (fun U aq=>?_);refine Px 14 Z ?_;exact aA Z Z ⟨cJ (by rw[hX,A,C,tL_<|bC E];rfl),(aq.weaken<|KP.bX _ _).pop⟩
theorem yS {K:KP} {x:db} {vb e:Nat} (u:K vb (.row (ints x.ints) e false)):bR K 5 iU [x] (.slice vb 0 1 (.known 1)):=
 .inr ⟨vb,0,_,_,e,false,Z,.inr ⟨_,Z,nR_ _⟩,u,by show 0+1*5<=5;omega,by show 1<=_;omega,fun i y hi=>by
  cases i with
  | zero=>simp only[List.getElem?_cons_zero,oJ_] at hi;subst hi;rfl
  | succ i=>simp at hi⟩
theorem tu {G:Cx} (hG:Plain G) {K:KP} {aY:List Int} {rn:Int} (A:rn<=aY.length) {regv:V} (u:bR K 1 dy aY regv) {tb et bt e1 bi e2 k:Nat} {ro C E:Bool} {c0 c1 c2 c4 c5 c6 c7 i0 i1 i2 i3 i4 w:V} (ht:K tb (.row [c0,c1,c2,regv,c4,c5,c6,c7] et ro)) (F:K bt (.row [.ptr tb 0] e1 C))
  (M:K bi (.row [i0,i1,i2,i3,i4,w] e2 E)) {es:List XE} {Q:XE} (hw:bR K 4 (ey K k) es w) (R:es[0]?=some Q) (W:ea rn k Q=true) {U:D} {L:Own} (aq:J U K L):bk Tryz.prog G 219 [.ptr bt 0,.ptr bi 0] U fun v U'=>v= .int .i64 (eJ aY k Q)/\J U' K L:=by
 refine PS hG Tryz.func219 Z<|Ps 6 Z<|aS (l:=zp [0,1,2,3,4,5,6]) Y Y<|al Z Z (QB Z (aq.fq F) Z) Z<|al Z Z (QA 5 Z) Z<|al Z Z (QB Z (aq.fq M) Z) Z<|Qv (e:=82) (m:=4) hw R Z Z Z Z Z (fun p6 aa X ab z=>?_);have hr6raw:=z;obtain⟨o6,n6,s6,v6,rfl,ac⟩:=z.shape;refine al Z Z (QG aq X Z Z) Z<|cA Z Z (Qz Z Z Z) (fun _=>Z) (AE hG A u ht _ _ _ hr6raw W _ _ aq) (fun U aq=>?_);refine⟨aV,?_⟩;refine Pz 4 Z ?_;exact aA Z Z ⟨Z,aq⟩
theorem EG {G:Cx} (W:Plain G) {K:KP} {u et bt e1:Nat} {z:Bool} {C E X F M Q c6 R:V} (A:K bt (.row [.ptr u 0] e1 z)) (to:Int) {U:D} {L:Own} (aq:J U K ((u,.row [C,E,X,F,M,Q,c6,R] et false)::L)):
  bk Tryz.prog G 220 [.int .i64 to,.ptr bt 0] U fun v U'=>v= .bool true/\J U' K ((u,.row [C,E,.int .i64 to,F,M,Q,c6,R] et false)::L):=by
 refine PS W Tryz.func220 Z<|Pt 7 Z<|O Z (QB Z (aq.fq A) Z) Z<|vQ 1 Z<|O Z (eW Z) Z<|O Z (QA 2 Z) Z<|bO aq Z (QH Z Z Z aq.g0 (m:=1) Z Z (cells':=[_,_,_,_,_,_,_,_]) Z) Z (fun U aq=>?_);refine Px 8 Z ?_;exact aA Z Z ⟨Z,aq⟩
theorem AD {G:Cx} (X:Plain G) {K:KP} {u et bt e1:Nat} {z:Bool} {C E F M Q R c6 W:V} (A:K bt (.row [.ptr u 0] e1 z)) (to:Int) {U:D} {L:Own} (aq:J U K ((u,.row [C,E,F,M,Q,R,c6,W] et false)::L)):
  bk Tryz.prog G 221 [.int .i64 to,.ptr bt 0] U fun v U'=>v= .bool false/\J U' K ((u,.row [C,E,F,M,Q,R,.int .i64 to,W] et false)::L):=by
 refine PS X Tryz.func221 Z<|Pt 7 Z<|O Z (QB Z (aq.fq A) Z) Z<|vQ 1 Z<|O Z (eW Z) Z<|O Z (QA 6 Z) Z<|bO aq Z (QH Z Z Z aq.g0 (m:=1) Z Z (cells':=[_,_,_,_,_,_,_,_]) Z) Z (fun U aq=>?_);refine Px 8 Z ?_;exact aA Z Z ⟨Z,aq⟩
theorem Mc {G:Cx} (X:Plain G) {K:KP} {F b2 et bt e1 bon e2:Nat} {Q R:Bool} {c0 c1 c3 c4 c5 c6 c7:V} {o2:cG} (u:K bt (.row [.ptr F 0] e1 Q)) (C:K bon (.row [.func 220 [] [.ptr bt 0]] e2 R)) (e:db) {es:List db} {Me:Own} (hO:cQ 5 56 iU es c4 Me) (hlen:es.length<=1000000) {at_:Nat} (aa:at_<1000000) {U:D} {L:Own}
  (aq:J U K ((F,.row [c0,c1,.int .i64 (.ofNat at_),c3,c4,c5,c6,c7] et false)::(b2,o2)::(Me++L))):
  bk Tryz.prog G 222 [.agg [.int .i64 e.kind,.int .i64 e.loc,.int .i64 e.order,.int .i64 e.read,.int .i64 e.write],.ptr bt 0,.ptr bon 0] U fun v U'=>∃ev' Me',v= .bool true/\cQ 5 56 iU (es++[e]) ev' Me'/\J U' K ((F,.row [c0,c1,.int .i64 (.ofNat (at_+1)),c3,ev',c5,c6,c7] et false)::(b2,o2)::(Me'++L)):=by
 refine PS X Tryz.func222 Z<|Pt 2 Z<|kp aq Z (cz Z Z) (fun U b3 aq=>?_);refine ON 4 Z (aS (l:=[(0,[]),(1,[]),(2,[]),(3,[]),(4,[]),(5,[]),(6,[]),(7,[0]),(8,[]),(9,[]),(10,[])]) Y Y<|al Z Z (QB Z (aq.fq u) Z) Z<|al Z Z (QB Z (aq.fq u) Z) Z<|al Z Z (eW Z) Z<|P4 aq 2 [4,1] Z Z<|al Z Z (QC Z aq.g0 (n:=5) (vs:=[_,_,_,_,_]) Z) Z<|j1 aq Z Z (bY (e:=56) (m:=5) (z:=[T,T,T,T,T]) (cs:=[_,_,_,_,_]) Y Y Y Y<|bD Z Z Z Z bJ) (fun _=>Z) (fun U b4 aq=>?_));replace aq:=aq.DL (A:=[_,_,_]);obtain⟨U,W,Me2,E,hO2,aq⟩:=fJ (P:=Tryz.prog) (ts:= #[57,57]) (t:=57) (e:=56) hO aq (yS (x:=e) (.inr ⟨Z,Z⟩)) iU.leaf (by simp) (by simp) B Z Y Y Y;replace aq:=aq.front (A:=Me2) (M:=[_,_,_]);refine eM Z Z (dM Z Z Z Z Y E) Z ?_;refine⟨(bB (bN Z Z Z Z Z (QB Z (aq.fq u) Z)<|Bh _ _) aV),?_⟩;refine al Z Z (eW Z) Z<|al Z Z (QA 4 Z) Z<|z9 aq Z Z (aL Z Z hO2.leaf.1 aq.g1 (m:=1) Y Z (lb Z) (ah hO2.leaf.2 aC) (cells':=[_,_,_,_,_,_,_,_]) Z) Z (fun U aq=>?_);refine⟨aV,?_⟩;refine OS 3 Z<|aS (l:=zp [0,1,2,3,4,5,6,7]) Y Y ?_;replace aq:=aq.pop;refine al Z Z (QB Z (aq.fq C) Z) Z<|al Z Z (QB Z (aq.fq u) Z) Z<|al Z Z (eW Z) Z<|P4 aq 2 [2,0] Z Z<|al Z Z (az Z Z (show _=some (V.int .i64 (.ofNat (at_+1))) from cI (bg B))) Z<|cA Z Z (Qz Z Z Z) (fun _=>Z) (EG X u _ aq) (fun U aq=>?_);refine⟨aV,?_⟩;refine Pz 4 Z ?_;exact aA Z Z ⟨W,Me2,Z,hO2,aq⟩
theorem JV {G:Cx} (R:Plain G) {K:KP} {k:Nat} {c:XC} (hc:eX k c) {cv:V} (hi:bR K 6 (iI K k) c.ins cv) {s:TS} (hs:Qd c s) (bv:s.events.length<=900000) {b1 b2:Nat} {ev:V} {Me:Own} (hO:cQ 5 56 iU s.events ev Me) {U:D} {L:Own}
  (aq:J U K ((b1,.row (HE c cv s b2 ev) 131 false)::(b2,.row (s.aY.map gZ) 2 false)::(Me++L))):
  bk Tryz.prog G 166 [.ptr b1 0] U fun v U'=>∃ev' Me',v= .bool (cj k c s).2/\cQ 5 56 iU (cj k c s).1.events ev' Me'/\J U' K ((b1,.row (HE c cv (cj k c s).1 b2 ev') 131 false)::(b2,.row ((cj k c s).1.aY.map gZ) 2 false)::(Me'++L)):=by
 have hlen:=hc.len;have hat:=hs.at_;obtain⟨x,hx⟩:=cm hat;have hrx:=hc.right x (gB_ hx);have ar:c.aY<=s.aY.length:=by have:=hs.aY;have:=hc.za;omega
 have W:s.aY.length<=1000:=by have:=hs.aY;have:=hc.xr;omega
 have C:cj k c s=dL k x s:=by unfold cj;rw[hx]
 refine PS R Tryz.func166 Z<|Pt 2 Z<|kp aq Z (cz Z Z) (fun U b3 aq=>?_);refine ON 4 Z<|aS (l:=zp [0,1,2,3,4,5,6,7,8,9,10,11,12]) Y Y<|al Z Z (QB Z aq.g0 Z) Z<|al Z Z (eW Z) Z<|P4 aq 4 [0,1,1,0] Z Z<|al Z Z (eW Z) Z<|P4 aq 2 [2,1] Z Z<|Qv (e:=79) (m:=6) hi hx Z Z Z Z Z (fun b7 bw bo b0 a2=>?_);have hr17raw:=a2;have hr17':=a2;obtain⟨b8,rfl,a3⟩:=hr17';refine al Z Z (QG aq bo Z Z) Z<|pB aq Z Z (QE (cs:=[T,T,T,T,T,.ax])) (fun _=>Z) (fun U b4 aq=>?_);refine kb aq Z Z (QH Z Z Z aq.g0 (m:=6) Z (ah Z<|ah Z<|ah Z<|ah Z<|ah Z<|ah a3.leaf.2 aC) (cells':=[_,_,_,_,_,_]) Z) Z (fun U aq=>?_);refine⟨aV,?_⟩;refine OS 9 Z<|ai Z<|vQ 1 Z<|kp aq Z (QE (cs:=[.nilFunc])) (fun U b5 aq=>?_);refine bO aq Z (QH Z Z Z aq.g0 (m:=1) Z Z (cells':=[_]) Z) Z (fun U aq=>?_);refine On 17 Z ?_;obtain⟨K1,hle,ab,aq⟩:=aq.fy (M:=[_,_,_]);have hbon:=ab _ (.head _);have hbi:=ab _ (.tail _ (.head _));have hbt:=ab _ (.tail _ (.tail _ (.head _)));clear ab;dsimp only at hbon hbi hbt;have hw1:=kG hle a3;refine O Z (QA 0 Z) Z<|O Z (QB Z (aq.fq hbi) Z) Z<|OM 3 Z<|Pt 2 Z<|ky Z (az Z Z Z) (fun z=>?_) (fun z=>?_)
 ·refine ON 5 Z (aS (l:=[(0,[]),(1,[]),(2,[]),(3,[]),(4,[]),(5,[]),(6,[]),(7,[0,3,5]),(8,[]),(9,[])]) Y Y<|al Z Z (QB Z (aq.fq hbt) Z) Z<|al Z Z (eW Z) Z<|P4 aq 3 [3,0,1] Z Z<|al Z Z (QB Z (aq.fq hbi) Z) Z<|wQ 1 Z ?_);obtain⟨a4,aI,a5⟩:=lV hrx (eqv (b:=.ofNat 1) z) B;have hq:=aq.keeps (M:=[_,_]);refine cA Z Z (Qz Z Z Z) (fun _=>Z) (kE (M:=[_,_]) aq<|tu R (rn:=c.aY) ar (fK (xs:=s.aY) (KP.gF 1 Z) W) (KP.gF 0 Z) (KP.bX _ _ _ _ hbt) (KP.bX _ _ _ _ hbi) (kG (KP.bX _ _) hw1) aI a5 hq) (fun U aq=>?_);clear hq;have hV34:=(fj (k:=k) (aY:=s.aY) aI).symm;refine⟨(bB (bN Z Z Z Z Z (QB Z (aq.fq hbt) Z)<|Bh _ _)<|bB (bN Z Z Z Z Z (QB Z aq.g0 Z)<|qF _ _ _ _)<|bB (bN Z Z Z Z Z (QB Z (aq.fq hbi) Z)<|jk _ _) aV),?_⟩;obtain⟨rg,bs,b6⟩:=Ah hrx (eqv (b:=.ofNat 1) z) B;refine al Z Z (eo (e:=2) (m:=1) Y Y Z (show _=some (V.int .i64 (.ofNat rg)) from cI bs) B) Z (gD aq (.there .here) Z Z (aL Z Z Z aq.g1 (m:=1) Y Z (by rw[lM_];omega) Z (cells':=((s.aY).set rg<|eJ s.aY k a4).map (gZ)) (fb (f:=gZ) (v:=(eJ s.aY k a4)) B (by first | omega | rfl))) Z (fun U aq=>?_));refine⟨aV,?_⟩;refine OS 3 Z<|aS (l:=zp [0,1,2,3,4,5,6,7]) Y Y<|al Z Z (QB Z (aq.fq hbon) Z) Z<|al Z Z (QB Z (aq.fq hbt) Z) Z<|al Z Z (eW Z) Z<|P4 aq 2 [2,0] Z Z<|al Z Z (az Z Z (show _=some (V.int .i64 (.ofNat (s.at_+1))) from cI (bg B))) Z<|cA Z Z (Qz Z Z Z) (fun _=>Z) (EG R hbt _ aq) (fun U aq=>?_);refine⟨aV,?_⟩;refine Pz 4 Z<|aF<|aw (?_);have u:cj k c s=({s with aY:=s.aY.set x.pc.toNat (eJ s.aY k a4),at_:=s.at_+1},true):=by rw[C];unfold dL;simp only[z,fj aI,ct,cf]
  have aq:=aq.weaken hle;refine aA Z Z ⟨ev,Me,by rw[u],by rw[u];exact hO,?_⟩;rw[u];show J _ _ ((b1,.row [_,_,_,.slice b2 0 (s.aY.set x.pc.toNat _).length (.known (s.aY.set x.pc.toNat _).length),_,_,_,_] 131 false)::(b2,.row ((s.aY.set x.pc.toNat _).map gZ) 2 false)::_);rw[List.length_set,bs];exact aq
 refine OO 6 Z<|ky Z (az Z Z Z) (fun A=>?_) (fun A=>?_)
 ·refine ON 5 Z (aS (l:=[(0,[]),(1,[]),(2,[]),(3,[]),(4,[]),(5,[]),(6,[2,4]),(7,[]),(8,[]),(9,[])]) Y Y<|P4 aq 2 [2] Z Z<|al Z Z (QB Z (aq.fq hbi) Z) Z<|al Z Z (QA 3 Z) Z<|al Z Z (QB Z (aq.fq hbi) Z) Z<|wQ 1 Z ?_);obtain⟨bt,a0,a6⟩:=lV hrx (eqv (b:=.ofNat 3) A) B;have hq:=aq.keeps (M:=[_,_]);refine cA Z Z (Qz Z Z Z) (fun _=>Z) (kE (M:=[_,_]) aq<|tu R (rn:=c.aY) ar (fK (xs:=s.aY) (KP.gF 1 Z) W) (KP.gF 0 Z) (KP.bX _ _ _ _ hbt) (KP.bX _ _ _ _ hbi) (kG (KP.bX _ _) hw1) a0 a6 hq) (fun U aq=>?_);clear hq;have hV51:=(fj (k:=k) (aY:=s.aY) a0).symm;refine⟨(bB (bN Z Z Z Z Z (QB Z (aq.fq hbi) Z)<|jk _ _)<|bB (bN Z Z Z Z Z (QB Z (aq.fq hbi) Z)<|jk _ _) aV),?_⟩;refine al Z Z (Qy (places:=[(0,1),(1,1),(2,1),(3,1),(4,1)]) (zero:=[T,T,T,T,T]) (cs:=[_,_,_,_,_]) Z) Z<|jg Z Z (Qz Z Z Z) (fun _=>Z) (Mc R hbt hbon ⟨2,x.loc,x.order,0,eJ s.aY k bt⟩ hO B B aq) ?_;rintro _ U ⟨a7,Me2,rfl,hO2,aq⟩;refine⟨aV,?_⟩;refine Pz 4 Z<|aF<|aw (?_);have u:cj k c s=({s with events:=s.events++[⟨2,x.loc,x.order,0,eJ s.aY k bt⟩],at_:=s.at_+1},true):=by rw[C];unfold dL;simp only[z,A,fj a0,ct,cf]
  have aq:=aq.weaken hle;exact aA Z Z ⟨a7,Me2,by rw[u],by rw[u];exact hO2,by rw[u];exact aq⟩
 refine OO 6 Z<|ky Z (az Z Z Z) (fun E=>?_) (fun E=>?_)
 ·refine OX aq 8 [3] Z Z (O Z (QB Z (aq.fq hbi) Z) Z (O Z (Qy (places:=[(0,1),(1,1),(2,1),(3,1),(4,1)]) (zero:=[T,T,T,T,T]) (cs:=[_,_,_,_,_]) Z) Z<|cH Z (Qz Z Z Z) (fun _=>Z) (Mc R hbt hbon ⟨4,0,x.order,0,0⟩ hO B B aq) ?_));rintro _ U ⟨a7,Me2,rfl,hO2,aq⟩;refine Px 4 Z<|aF<|aw (?_);have u:cj k c s=({s with events:=s.events++[⟨4,0,x.order,0,0⟩],at_:=s.at_+1},true):=by rw[C];unfold dL;simp only[z,A,E,ct,cf]
  have aq:=aq.weaken hle;exact aA Z Z ⟨a7,Me2,by rw[u],by rw[u];exact hO2,by rw[u];exact aq⟩
 refine OO 6 Z<|ky Z (az Z Z Z) (fun F=>?_) (fun F=>?_)
 ·refine On 8 Z ?_;obtain⟨b9,ac,a8⟩:=lV hrx (eqv (b:=.ofNat 8) F) B;have hq:=aq.keeps (M:=[_,_]);refine bf Z (Qz Z Z Z) (fun _=>Z) (kE (M:=[_,_]) aq<|tu R (rn:=c.aY) ar (fK (xs:=s.aY) (KP.gF 1 Z) W) (KP.gF 0 Z) (KP.bX _ _ _ _ hbt) (KP.bX _ _ _ _ hbi) (kG (KP.bX _ _) hw1) ac a8 hq) (fun U aq=>?_);clear hq;have hV64:=(fj (k:=k) (aY:=s.aY) ac).symm;refine Pv 3 Z<|aE Z (fun a9=>?_) (fun a9=>?_)
  ·refine Pt 3 Z<|bf Z (Qz Z Z Z) (fun _=>Z) (AD R hbt _ aq) (fun U aq=>?_);refine Px 4 Z<|aw<|aF<|aw (?_);have u:cj k c s=({s with fin:=2},false):=by rw[C];unfold dL;simp only[z,A,E,F,fj ac,a9,ct,cf]
   have aq:=aq.weaken hle;exact aA Z Z ⟨ev,Me,by rw[u],by rw[u];exact hO,by rw[u];exact aq⟩
  refine OJ 3 Z<|aS (l:=zp [0,1,2,3,4,5,6,7]) Y Y<|al Z Z (QB Z (aq.fq hbon) Z) Z<|al Z Z (QB Z (aq.fq hbt) Z) Z<|al Z Z (eW Z) Z<|P4 aq 2 [2,0] Z Z<|al Z Z (az Z Z (show _=some (V.int .i64 (.ofNat (s.at_+1))) from cI (bg B))) Z<|cA Z Z (Qz Z Z Z) (fun _=>Z) (EG R hbt _ aq) (fun U aq=>?_);refine⟨aV,?_⟩;refine Pz 4 Z<|aF<|aw (?_);have u:cj k c s=({s with at_:=s.at_+1},true):=by rw[C];unfold dL;simp only[z,A,E,F,fj ac,a9,ct,cf]
  have aq:=aq.weaken hle;exact aA Z Z ⟨ev,Me,by rw[u],by rw[u];exact hO,by rw[u];exact aq⟩
 refine OO 6 Z<|ky Z (az Z Z Z) (fun Q=>?_) (fun Q=>?_)
 ·refine On 8 Z ?_;obtain⟨ca,am,bb⟩:=lV hrx (eqv (b:=.ofNat 9) Q) B;have hq:=aq.keeps (M:=[_,_]);refine bf Z (Qz Z Z Z) (fun _=>Z) (kE (M:=[_,_]) aq<|tu R (rn:=c.aY) ar (fK (xs:=s.aY) (KP.gF 1 Z) W) (KP.gF 0 Z) (KP.bX _ _ _ _ hbt) (KP.bX _ _ _ _ hbi) (kG (KP.bX _ _) hw1) am bb hq) (fun U aq=>?_);clear hq;have hV78:=(fj (k:=k) (aY:=s.aY) am).symm;refine Pv 3 Z<|aE Z (fun be=>?_) (fun be=>?_)
  ·refine Pt 3 Z<|bf Z (Qz Z Z Z) (fun _=>Z) (AD R hbt _ aq) (fun U aq=>?_);refine Px 4 Z<|aw<|aF<|aw (?_);have u:cj k c s=({s with fin:=3},false):=by rw[C];unfold dL;simp only[z,A,E,F,Q,fj am,be,ct,cf]
   have aq:=aq.weaken hle;exact aA Z Z ⟨ev,Me,by rw[u],by rw[u];exact hO,by rw[u];exact aq⟩
  refine OJ 3 Z<|aS (l:=zp [0,1,2,3,4,5,6,7]) Y Y<|al Z Z (QB Z (aq.fq hbon) Z) Z<|al Z Z (QB Z (aq.fq hbt) Z) Z<|al Z Z (eW Z) Z<|P4 aq 2 [2,0] Z Z<|al Z Z (az Z Z (show _=some (V.int .i64 (.ofNat (s.at_+1))) from cI (bg B))) Z<|cA Z Z (Qz Z Z Z) (fun _=>Z) (EG R hbt _ aq) (fun U aq=>?_);refine⟨aV,?_⟩;refine Pz 4 Z<|aF<|aw (?_);have u:cj k c s=({s with at_:=s.at_+1},true):=by rw[C];unfold dL;simp only[z,A,E,F,Q,fj am,be,ct,cf]
  have aq:=aq.weaken hle;exact aA Z Z ⟨ev,Me,by rw[u],by rw[u];exact hO,by rw[u];exact aq⟩
 refine OO 6 Z<|ky Z (az Z Z Z) (fun X=>?_) (fun X=>?_)
 ·refine OO 6 Z<|O Z (QB Z (aq.fq hbon) Z) Z<|O Z (QA 4 Z) Z<|O Z (QB Z (aq.fq hbi) Z) Z<|bf Z (Qz Z Z Z) (fun _=>Z) (EG R hbt _ aq) (fun U aq=>?_);refine Px 4 Z<|aF<|aw (?_);have u:cj k c s=({s with at_:=x.to.toNat},true):=by rw[C];unfold dL;simp only[z,A,E,F,Q,X,ct,cf]
  have aq:=aq.weaken hle;refine aA Z Z ⟨ev,Me,by rw[u],by rw[u];exact hO,?_⟩;rw[u];obtain⟨rt,bi,_⟩:=FV hrx (eqv (b:=.ofNat 10) X) B;rw[bi] at aq⊢;exact aq
 refine OO 6 Z<|ky Z (az Z Z Z) (fun aa=>?_) (fun aa=>?_)
 ·refine On 8 Z ?_;obtain⟨cb,ao,bl⟩:=lV hrx (eqv (b:=.ofNat 11) aa) B;have hq:=aq.keeps (M:=[_,_]);refine bf Z (Qz Z Z Z) (fun _=>Z) (kE (M:=[_,_]) aq<|tu R (rn:=c.aY) ar (fK (xs:=s.aY) (KP.gF 1 Z) W) (KP.gF 0 Z) (KP.bX _ _ _ _ hbt) (KP.bX _ _ _ _ hbi) (kG (KP.bX _ _) hw1) ao bl hq) (fun U aq=>?_);clear hq;have hV98:=(fj (k:=k) (aY:=s.aY) ao).symm;refine Pv 3 Z<|aE Z (fun bm=>?_) (fun bm=>?_)
  ·refine Pt 2 Z<|O Z (QB Z (aq.fq hbon) Z) Z<|O Z (QA 4 Z) Z<|O Z (QB Z (aq.fq hbi) Z) Z<|bf Z (Qz Z Z Z) (fun _=>Z) (EG R hbt _ aq) (fun U aq=>?_);refine Px 4 Z<|aw<|aF<|aw (?_);have u:cj k c s=({s with at_:=x.to.toNat},true):=by rw[C];unfold dL;simp only[z,A,E,F,Q,X,aa,fj ao,bm,ct,cf]
   have aq:=aq.weaken hle;refine aA Z Z ⟨ev,Me,by rw[u],by rw[u];exact hO,?_⟩;rw[u];obtain⟨rt,bi,_⟩:=FV hrx (eqv (b:=.ofNat 11) aa) B;rw[bi] at aq⊢;exact aq
  refine OJ 3 Z<|aS (l:=zp [0,1,2,3,4,5,6,7]) Y Y<|al Z Z (QB Z (aq.fq hbon) Z) Z<|al Z Z (QB Z (aq.fq hbt) Z) Z<|al Z Z (eW Z) Z<|P4 aq 2 [2,0] Z Z<|al Z Z (az Z Z (show _=some (V.int .i64 (.ofNat (s.at_+1))) from cI (bg B))) Z<|cA Z Z (Qz Z Z Z) (fun _=>Z) (EG R hbt _ aq) (fun U aq=>?_);refine⟨aV,?_⟩;refine Pz 4 Z<|aF<|aw (?_);have u:cj k c s=({s with at_:=s.at_+1},true):=by rw[C];unfold dL;simp only[z,A,E,F,Q,X,aa,fj ao,bm,ct,cf]
  have aq:=aq.weaken hle;exact aA Z Z ⟨ev,Me,by rw[u],by rw[u];exact hO,by rw[u];exact aq⟩
 refine OO 6 Z<|ky Z (az Z Z Z) (fun ap=>?_) (fun ap=>?_)
 ·refine OO 7 Z<|bf Z (Qz Z Z Z) (fun _=>Z) (AD R hbt _ aq) (fun U aq=>?_);refine Px 4 Z<|aF<|aw (?_);have u:cj k c s=({s with fin:=4},false):=by rw[C];unfold dL;simp only[z,A,E,F,Q,X,aa,ap,ct,cf]
  have aq:=aq.weaken hle;exact aA Z Z ⟨ev,Me,by rw[u],by rw[u];exact hO,by rw[u];exact aq⟩
 refine OO 6 Z<|ky Z (az Z Z Z) (fun a1=>?_) (fun a1=>?_)
 ·refine OO 7 Z<|bf Z (Qz Z Z Z) (fun _=>Z) (AD R hbt _ aq) (fun U aq=>?_);refine Px 4 Z<|aF<|aw (?_);have u:cj k c s=({s with fin:=1},false):=by rw[C];unfold dL;simp only[z,A,E,F,Q,X,aa,ap,a1,ct,cf]
  have aq:=aq.weaken hle;exact aA Z Z ⟨ev,Me,by rw[u],by rw[u];exact hO,by rw[u];exact aq⟩
 refine OP 6 Z<|Pt 2 Z<|O Z (QB Z (aq.fq hbt) Z) Z<|O Z (eW Z) Z<|O Z (QA 7 Z) Z<|bO aq Z (QH Z Z Z aq.g0 (m:=1) Z Z (cells':=[_,_,_,_,_,_,_,_]) Z) Z (fun U aq=>?_);refine Px 8 Z ?_;have u:cj k c s=({s with asks:=true},false):=by rw[C];unfold dL;simp only[z,A,E,F,Q,X,aa,ap,a1,ct,cf]
 have aq:=aq.weaken hle;exact aA Z Z ⟨ev,Me,by rw[u],by rw[u];exact hO,by rw[u];exact aq⟩
theorem Mb {G:Cx} (hG:Plain G) {K:KP} {k:Nat} {c:XC} {cv:V} (hi:bR K 6 (iI K k) c.ins cv) {at_:Nat} {aY:List Int} (X:c.aY<=aY.length) {x:XI} (hx:c.ins[at_]?=some x) (ar:fF c.aY (.ofNat c.ins.length) k x=true) {regv:V} (C:bR K 1 dy aY regv) {tb et:Nat} {ro:Bool} {c0 c4 c5 c6 c7:V} (ht:K tb (.row [c0,cv,.int .i64 (.ofNat at_),regv,c4,c5,c6,c7] et ro))
  {U:D} {L:Own} (aq:J U K L):bk Tryz.prog G 81 [.ptr tb 0] U fun v U'=>v= .agg (ints (xZ k x aY).ints)/\J U' K L:=by
 obtain⟨_,sh,_,_,_,_,aI⟩:=iY ar;have hall:=(hJ aI).all;refine PS hG Tryz.func81 Z<|Pt 2 Z<|kp aq Z (QE (cs:=[T,T,T,T,T])) (fun U b1 aq=>?_);refine ON 3 Z<|aS (l:=zp [0,1,2,3,4,5,6,7,8,9,10,11,12]) Y Y<|wQ 1 Z<|al Z Z (eW Z) Z<|P4 aq 2 [0,1] Z Z<|al Z Z (QB Z (aq.fq ht) Z) Z<|wQ 1 Z<|al Z Z (eW Z) Z<|al Z Z (QA 2 Z) Z<|al Z Z (QB Z (aq.fq ht) Z) Z<|Qv (e:=79) (m:=6) hi hx Z Z Z Z Z (fun be a6 ab a7 R=>?_);have hr14raw:=R;have hr14':=R;obtain⟨bi,rfl,u⟩:=hr14';refine al Z Z (QG aq ab Z Z) Z<|pB aq Z Z (QE (cs:=[T,T,T,T,T,.ax])) (fun _=>Z) (fun U b2 aq=>?_);refine kb aq Z Z (QH Z Z Z aq.g0 (m:=6) Z (ah Z<|ah Z<|ah Z<|ah Z<|ah Z<|ah u.leaf.2 aC) (cells':=[_,_,_,_,_,_]) Z) Z (fun U aq=>?_);refine⟨aV,?_⟩;refine OS 3 Z (P2 aq 7 [0,0,2,0,3,0] Z Z (O Z (Qy (places:=[(0,1),(1,1),(2,1),(3,1),(4,1)]) (zero:=[T,T,T,T,T]) (cs:=[_,_,_,_,_]) Z) Z<|kp aq Z (QE (cs:=[T,T,T,T,T])) (fun U b3 aq=>?_)));refine bO aq Z (QH Z Z Z aq.g0 (m:=5) Z Z (cells':=[_,_,_,_,_]) Z) Z (fun U aq=>?_);refine Ou aq 7 [5,1] Z Z<|O Z (QD u Z Z Z (e:=82) Z) Z<|Pv 3 Z<|aE Z (fun Q=>?_) (fun Q=>?_)
 ·refine P2 aq 4 [5,1] Z Z ?_;obtain⟨a0,F⟩:=cm (show 0<x.exprs.length from bu (a:=0) Q);refine Qu (e:=82) (m:=4) u F Z Z Z Z (fun bl a8 ac a9 W=>?_);have hr30raw:=W;obtain⟨bm,bo,bs,bt,rfl,bb⟩:=W.shape;refine O Z (QG aq ac Z Z) Z<|bf Z (Qz Z Z Z) (fun _=>Z) (AE hG X C ht _ _ _ hr30raw (hall a0<|gB_ F) _ _ aq) (fun U aq=>?_);refine O Z (QA 3 Z) Z<|bO aq Z (QH Z Z Z aq.g0 (m:=1) Z Z (cells':=[_,_,_,_,_]) Z) Z (fun U aq=>?_);refine Ou aq 7 [5,1] Z Z<|O Z (QD u Z Z Z (e:=82) Z) Z<|Pv 3 Z<|aE Z (fun E=>?_) (fun E=>?_)
  ·refine P2 aq 4 [5,1] Z Z ?_;obtain⟨aa,z⟩:=cm (show 1<x.exprs.length from bu (a:=1) E);refine Qu (e:=82) (m:=4) u z Z Z Z Z (fun a1 am M ao A=>?_);have hr41raw:=A;obtain⟨a2,a3,a4,a5,rfl,ap⟩:=A.shape;refine O Z (QG aq M Z Z) Z<|bf Z (Qz Z Z Z) (fun _=>Z) (AE hG X C ht _ _ _ hr41raw (hall aa<|gB_ z) _ _ aq) (fun U aq=>?_);refine O Z (QA 4 Z) Z<|bO aq Z (QH Z Z Z aq.g0 (m:=1) Z Z (cells':=[_,_,_,_,_]) Z) Z (fun U aq=>?_);refine OO 4 Z<|O Z (QC Z aq.g0 (n:=5) (vs:=[_,_,_,_,_]) Z) Z<|z7 aq Z (QH Z Z Z (aq.get 2 Z) (m:=5) Z Z (cells':=[_,_,_,_,_]) Z) Z (fun U aq=>?_);refine Px 3 Z ?_;exact eL Z Z (aq.get 2 Z) (m:=5) Y Z ⟨by show V.agg [.int .i64 x.kind,.int .i64 x.loc,.int .i64 x.order,_,_]=V.agg [.int .i64 x.kind,.int .i64 x.loc,.int .i64 x.order,.int .i64<|fI k aY x 0,.int .i64<|fI k aY x 1];rw[fj F,fj z]<;>rfl,aq.pop.pop.pop⟩
  refine OK 4 Z<|O Z (QC Z aq.g0 (n:=5) (vs:=[_,_,_,_,_]) Z) Z<|z7 aq Z (QH Z Z Z (aq.get 2 Z) (m:=5) Z Z (cells':=[_,_,_,_,_]) Z) Z (fun U aq=>?_);refine Px 3 Z ?_;exact eL Z Z (aq.get 2 Z) (m:=5) Y Z ⟨by show V.agg [.int .i64 x.kind,.int .i64 x.loc,.int .i64 x.order,_,_]=V.agg [.int .i64 x.kind,.int .i64 x.loc,.int .i64 x.order,.int .i64<|fI k aY x 0,.int .i64<|fI k aY x 1];rw[fj F,sL<|bC (a:=1) E]<;>rfl,aq.pop.pop.pop⟩
 refine Ot aq 7 [5,1] Z Z<|O Z (QD u Z Z Z (e:=82) Z) Z<|Pv 3 Z<|aE Z (fun E=>?_) (fun E=>?_)
 ·refine P2 aq 4 [5,1] Z Z ?_;obtain⟨aa,z⟩:=cm (show 1<x.exprs.length from bu (a:=1) E);refine Qu (e:=82) (m:=4) u z Z Z Z Z (fun a1 am M ao A=>?_);have hr41raw:=A;obtain⟨a2,a3,a4,a5,rfl,ap⟩:=A.shape;refine O Z (QG aq M Z Z) Z<|bf Z (Qz Z Z Z) (fun _=>Z) (AE hG X C ht _ _ _ hr41raw (hall aa<|gB_ z) _ _ aq) (fun U aq=>?_);refine O Z (QA 4 Z) Z<|bO aq Z (QH Z Z Z aq.g0 (m:=1) Z Z (cells':=[_,_,_,_,_]) Z) Z (fun U aq=>?_);refine OO 4 Z<|O Z (QC Z aq.g0 (n:=5) (vs:=[_,_,_,_,_]) Z) Z<|z7 aq Z (QH Z Z Z (aq.get 2 Z) (m:=5) Z Z (cells':=[_,_,_,_,_]) Z) Z (fun U aq=>?_);refine Px 3 Z ?_;exact eL Z Z (aq.get 2 Z) (m:=5) Y Z ⟨by show V.agg [.int .i64 x.kind,.int .i64 x.loc,.int .i64 x.order,_,_]=V.agg [.int .i64 x.kind,.int .i64 x.loc,.int .i64 x.order,.int .i64<|fI k aY x 0,.int .i64<|fI k aY x 1];rw[sL<|bC (a:=0) Q,fj z]<;>rfl,aq.pop.pop.pop⟩
 refine OK 4 Z<|O Z (QC Z aq.g0 (n:=5) (vs:=[_,_,_,_,_]) Z) Z<|z7 aq Z (QH Z Z Z (aq.get 2 Z) (m:=5) Z Z (cells':=[_,_,_,_,_]) Z) Z (fun U aq=>?_);refine Px 3 Z ?_;exact eL Z Z (aq.get 2 Z) (m:=5) Y Z ⟨by show V.agg [.int .i64 x.kind,.int .i64 x.loc,.int .i64 x.order,_,_]=V.agg [.int .i64 x.kind,.int .i64 x.loc,.int .i64 x.order,.int .i64<|fI k aY x 0,.int .i64<|fI k aY x 1];rw[sL<|bC (a:=0) Q,sL<|bC (a:=1) E]<;>rfl,aq.pop.pop.pop⟩
theorem CO {G:Cx} (F:Plain G) {K:KP} (a:rj) (vv:Int) {U:D} {L:Own} (aq:J U K L):bk Tryz.prog G 92 [.agg [.int .i64 a.kind,.int .i64 a.loc,.int .i64 a.order,.int .i64 a.a,.int .i64 a.b],.int .i64 vv] U fun v U'=>v= .tuple [.agg<|ints (bL a vv).ints,.int .i64<|gY a]/\J U' K L:=by
 refine PS F Tryz.func92 Z<|Pt 2 Z<|kp aq Z (cz Z Z) (fun U b1 aq=>?_);refine kp aq Z (QE (cs:=[T,T,T,T,T])) (fun U b2 aq=>?_);refine OX aq 10 [1,1,2,1] Z Z (O Z (Qy (places:=[(0,1),(1,1),(2,1),(3,1),(4,1)]) (zero:=[T,T,T,T,T]) (cs:=[_,_,_,_,_]) Z) Z<|kp aq Z (QE (cs:=[T,T,T,T,T])) (fun U b3 aq=>?_));refine bO aq Z (QH Z Z Z aq.g0 (m:=5) Z Z (cells':=[_,_,_,_,_]) Z) Z (fun U aq=>?_);refine OW aq 9 [0,2] Z Z<|aN<|Pt 2 Z<|ky Z (az Z Z Z) (fun u=>?_) (fun u=>?_)
 ·refine PE aq 6 [0] Z Z<|bO aq Z (QH Z Z Z aq.g0 (m:=1) Z Z (cells':=[_,_,_,_,_]) Z) Z (fun U aq=>?_);refine af<|aJ<|Pt 2 Z<|O Z (QC Z aq.g0 (n:=5) (vs:=[_,_,_,_,_]) Z) Z<|eh aq Z (QH Z Z Z aq.g1 (m:=5) Z Z (cells':=[_,_,_,_,_]) Z) Z (fun U aq=>?_);refine Px 4 Z ?_;exact br Z Z aq.g1 (m:=5) Y Z Z ⟨by unfold bL gY;simp only[u,ct,cf]<;>rfl,aq.pop.pop.pop⟩
 refine OO 6 Z<|ky Z (az Z Z Z) (fun z=>?_) (fun z=>?_)
 ·refine PC aq 12 [3,2] Z Z<|aE Z (fun C=>?_) (fun C=>?_)
  ·refine P2 aq 4 [4,2,4] Z Z<|bO aq Z (QH Z Z Z aq.g0 (m:=1) Z Z (cells':=[_,_,_,_,_]) Z) Z (fun U aq=>?_);refine af<|aJ<|Pt 2 Z<|O Z (QC Z aq.g0 (n:=5) (vs:=[_,_,_,_,_]) Z) Z<|eh aq Z (QH Z Z Z aq.g1 (m:=5) Z Z (cells':=[_,_,_,_,_]) Z) Z (fun U aq=>?_);refine Px 4 Z ?_;exact br Z Z aq.g1 (m:=5) Y Z Z ⟨by unfold bL gY;simp only[u,z,C,ct,cf]<;>rfl,aq.pop.pop.pop⟩
  refine P2 aq 2 [0] Z Z<|bO aq Z (QH Z Z Z aq.g0 (m:=1) Z Z (cells':=[_,_,_,_,_]) Z) Z (fun U aq=>?_);refine af<|aJ<|Pt 2 Z<|O Z (QC Z aq.g0 (n:=5) (vs:=[_,_,_,_,_]) Z) Z<|eh aq Z (QH Z Z Z aq.g1 (m:=5) Z Z (cells':=[_,_,_,_,_]) Z) Z (fun U aq=>?_);refine Px 4 Z ?_;exact br Z Z aq.g1 (m:=5) Y Z Z ⟨by unfold bL gY;simp only[u,z,C,ct,cf]<;>rfl,aq.pop.pop.pop⟩
 refine OO 6 Z<|ky Z (az Z Z Z) (fun A=>?_) (fun A=>?_)
 ·refine Pw 6 Z ?_;refine O Z (ek (j:=.i64) (k:=.u64) Y Y Y Z) Z ?_;refine P3 aq 2 [3,2] Z Z ?_;refine O Z (ek (j:=.i64) (k:=.u64) Y Y Y Z) Z ?_;refine vQ 1 Z ?_;refine O Z (ek (j:=.u64) (k:=.i64) Y Y Y Z) Z ?_;refine O Z (QA 4 Z) Z<|bO aq Z (QH Z Z Z aq.g0 (m:=1) Z Z (cells':=[_,_,_,_,_]) Z) Z (fun U aq=>?_);refine af<|aJ<|Pt 2 Z<|O Z (QC Z aq.g0 (n:=5) (vs:=[_,_,_,_,_]) Z) Z<|eh aq Z (QH Z Z Z aq.g1 (m:=5) Z Z (cells':=[_,_,_,_,_]) Z) Z (fun U aq=>?_);refine Px 4 Z ?_;exact br Z Z aq.g1 (m:=5) Y Z Z ⟨by unfold bL gY;simp only[u,z,A,ct,cf]<;>rfl,aq.pop.pop.pop⟩
 refine OO 6 Z<|ky Z (az Z Z Z) (fun E=>?_) (fun E=>?_)
 ·refine PE aq 8 [3,2,4] Z Z<|bO aq Z (QH Z Z Z aq.g0 (m:=1) Z Z (cells':=[_,_,_,_,_]) Z) Z (fun U aq=>?_);refine af<|aJ<|Pt 2 Z<|O Z (QC Z aq.g0 (n:=5) (vs:=[_,_,_,_,_]) Z) Z<|eh aq Z (QH Z Z Z aq.g1 (m:=5) Z Z (cells':=[_,_,_,_,_]) Z) Z (fun U aq=>?_);refine Px 4 Z ?_;exact br Z Z aq.g1 (m:=5) Y Z Z ⟨by unfold bL gY;simp only[u,z,A,E,ct,cf]<;>rfl,aq.pop.pop.pop⟩
 refine OO 6 Z (O Z (Qy (places:=[(0,1),(1,1),(2,1),(3,1),(4,1)]) (zero:=[T,T,T,T,T]) (cs:=[_,_,_,_,_]) Z) Z<|eh aq Z (QH Z Z Z aq.g1 (m:=5) Z Z (cells':=[_,_,_,_,_]) Z) Z (fun U aq=>?_));refine Px 4 Z<|aF<|aw (?_);exact br Z Z aq.g1 (m:=5) Y Z Z ⟨by unfold bL gY;simp only[u,z,A,E,ct,cf]<;>rfl,aq.pop.pop.pop⟩
theorem Hr {G:Cx} (hG:Plain G) {K:KP} {es:List db} {v:V} (h:bR K 5 iU es v) (hl:es.length<=100000) {U:D} {L:Own} (aq:J U K L):bk Tryz.prog G 79 [v] U fun v U'=>∃M,cQ 1 2 dy (dg es) v M/\J U' K (M++L):=by
 refine PS hG Tryz.func79 Z<|Pt 7 Z ?_;obtain⟨LB,aq,aa⟩:=aq.named;refine On 7 Z<|O Z (QD h Z Z Z (e:=56) Z) Z<|OM 4 Z<|bp ([3,5]++rg 8 18) (fun j t U=>∃(i:Nat) (u:V) (M:Own),j+i=es.length/\cQ 1 2 dy (dg<|es.take i) u M/\t.get 3=some (u)/\t.get 8=some (.int .i64 (.ofNat i))/\J U K (M++LB)) (es.length) ⟨0,.ax,[],Z,.inl ⟨Z,Z,Z⟩,Z,Z,aq⟩ ?_;clear aq;intro j3 t U ar hI;obtain⟨i,u,M,aI,R,ab,ac,aq⟩:=hI;obtain⟨oo,rfl⟩:=ar.q2 ab ac Z;refine Ps 6 Z<|aE Z (fun h9=>?_) (fun h9=>?_)
 ·refine NP 6 Z ?_;obtain⟨A,C,am⟩:=cL h9;refine Qu (e:=56) (m:=5) h C Z Z Z Z (fun aY ao W ap X=>?_);obtain rfl:=X;refine O Z (QG aq W Z Z) Z<|kp aq Z (QE (cs:=[T,T,T,T,T])) (fun U b1 aq=>?_);refine bO aq Z (QH Z Z Z aq.g0 (m:=5) Z Z (cells':=[_,_,_,_,_]) Z) Z (fun U aq=>?_);refine OX aq 7 [0,0] Z Z<|ky Z (an Z) (fun F=>?_) (fun F=>?_)
  ·refine PE aq 11 [3,0] Z Z<|gT aq Z (bY (e:=2) (m:=1) (z:=[T]) (cs:=[_]) Y Y Y Y<|bD Z Z Z Z bJ) (fun _=>Z) (fun U b2 aq=>?_);replace aq:=aq.Ie;obtain⟨U,u2,M2,E,hO2,aq⟩:=fJ (P:=Tryz.prog) (ts:= #[22,22]) (t:=22) (e:=2) (l2:=[A.read]) R aq (fK (xs:=[A.read]) (.inr ⟨Z,Z⟩) (by simp)) dy.leaf (by simp) (by simp) (by have:=mj (es.take i);rw[lT_] at this;omega) Z Y Y Y;refine O Z (dM Z Z Z Z Y E) Z<|PY 2 Z<|aJ<|PW 4 Z<|aO ⟨j3-1,by omega,oF,i+1,u2,M2,by omega,by rw[jG C,show dD A=true from by unfold dD;rw[F];rfl];exact hO2,Z,cI<|bg (by have:=h.bG;omega),aq⟩
  refine PC aq 6 [0,0] Z Z<|aE Z (fun Q=>?_) (fun Q=>?_)
  ·refine P2 aq 4 [3,0] Z Z<|gT aq Z (bY (e:=2) (m:=1) (z:=[T]) (cs:=[_]) Y Y Y Y<|bD Z Z Z Z bJ) (fun _=>Z) (fun U b2 aq=>?_);replace aq:=aq.Ie;obtain⟨U,u2,M2,E,hO2,aq⟩:=fJ (P:=Tryz.prog) (ts:= #[22,22]) (t:=22) (e:=2) (l2:=[A.read]) R aq (fK (xs:=[A.read]) (.inr ⟨Z,Z⟩) (by simp)) dy.leaf (by simp) (by simp) (by have:=mj (es.take i);rw[lT_] at this;omega) Z Y Y Y;refine O Z (dM Z Z Z Z Y E) Z<|PY 2 Z<|aJ<|PW 4 Z<|aO ⟨j3-1,by omega,oF,i+1,u2,M2,by omega,by rw[jG C,show dD A=true from by unfold dD;rw[F];exact Q];exact hO2,Z,cI<|bg (by have:=h.bG;omega),aq⟩
  refine aG<|aJ<|PW 4 Z ?_;have aq:=aq.pop;refine aO ⟨j3-1,by omega,oF,i+1,u,M,by omega,by rw[jG C,show dD A=false from by unfold dD;rw[F];exact Q];simpa using R,Z,cI<|bg (by have:=h.bG;omega),aq⟩
 refine OL 3 Z<|aT<|PX 7 Z ?_;subst aa;exact aA Z Z ⟨M,by rw[tL_<|bC h9] at R;exact R,aq⟩
theorem Hs {G:Cx} (hG:Plain G) {K:KP} {l1 l2:List db} {v1 v2:V} (h1:bR K 5 iU l1 v1) (h2:bR K 5 iU l2 v2) {U:D} {L:Own} (aq:J U K L):bk Tryz.prog G 115 [v1,v2] U fun v U'=>v= .bool (dk l1 l2)/\J U' K L:=by
 refine PS hG Tryz.func115 Z<|OI 9 Z<|O Z (QD h1 Z Z Z (e:=56) Z) Z<|vQ 1 Z<|O Z (QD h2 Z Z Z (e:=56) Z) Z<|Pv 3 Z<|aE Z (fun z=>?_) (fun z=>?_)
 ·refine Pu 7 Z ?_;exact aA Z Z ⟨by first | rw[eZ<|bT z] | rw[fA A C<|db.same.symm.trans<|bT E] | rw[ei (dB<|bj z) (bC F) u],aq⟩
 refine Ol 6 Z<|O Z (QD h1 Z Z Z (e:=56) Z) Z<|OM 4 Z ?_;obtain⟨LL1,aq,hLL1⟩:=aq.named;refine bp ([4,5]++rg 13 13) (fun j t U=>∃(i:Nat),j+i=l1.length/\(∀k,k<i->l1[k]?=l2[k]?)/\t.get 13=some (.int .i64 (.ofNat i))/\J U K LL1) (l1.length) ⟨0,Z,fun k hk=>absurd hk (nZ_ _),Z,aq⟩ ?_;clear aq;intro j4 t U ar hI;obtain⟨i,hj,u,M,aq⟩:=hI;subst hLL1;obtain⟨oo,rfl⟩:=ar.q1 M Z;refine Ps 6 Z<|aE Z (fun F=>?_) (fun F=>?_)
 ·refine NO 11 Z<|aS (l:=zp [0,1,2,3,4,5,6,7,8]) Y Y<|P1 2 Z ?_;obtain⟨ap,A,Q⟩:=cL F;refine Qv (e:=56) (m:=5) h1 A Z Z Z Z Z (fun aI ab R ac W=>?_);obtain rfl:=W;refine al Z Z (QG aq R Z Z) Z<|P1 2 Z ?_;obtain⟨aY,C⟩:=cm (show i<l2.length from by rw[<-dB (bj z)];exact Q);refine Qv (e:=56) (m:=5) h2 C Z Z Z Z Z (fun a0 am X ao aa=>?_);obtain rfl:=aa;refine al Z Z (QG aq X Z Z) Z<|al Z Z (zw (n:=5) (ca:=[_,_,_,_,_]) (cb:=[_,_,_,_,_]) Y Z Z Z Z) Z<|Py 2 Z<|aE Z (fun E=>?_) (fun E=>?_)
  ·refine PX 6 Z<|aF<|aw<|bz<|aF<|aw (?_);exact aA Z Z ⟨by first | rw[eZ<|bT z] | rw[fA A C<|db.same.symm.trans<|bT E] | rw[ei (dB<|bj z) (bC F) u],aq⟩
  refine aG<|aJ<|PW 4 Z<|aO ⟨j4-1,by omega,oF,i+1,by omega,jH u A C<|db.same.symm.trans<|bj E,cI<|bg (by have:=h1.bG;omega),aq⟩
 refine OL 3 Z<|aT<|PX 6 Z ?_;exact aA Z Z ⟨by first | rw[eZ<|bT z] | rw[fA A C<|db.same.symm.trans<|bT E] | rw[ei (dB<|bj z) (bC F) u],aq⟩
theorem NC {G:Cx} (C:Plain G) {K:KP} {s:TS} {evv:V} (z:bR K 5 iU s.events evv) {tb et:Nat} {ro:Bool} {F M Q R W c6 X:V} (E:K tb (.row [F,M,Q,R,evv,W,c6,X] et ro)) {l:List db} {lv:V} (hl:bR K 5 iU l lv) {U:D} {L:Own} (aq:J U K L):
  bk Tryz.prog G 80 [.ptr tb 0,lv] U fun v U'=>v= .bool (pw s l)/\J U' K L:=by
 refine PS C Tryz.func80 Z<|Pt 8 Z<|O Z (eW Z) Z<|O Z (QA 4 Z) Z<|O Z (QB Z (aq.fq E) Z) Z<|O Z (QD z Z Z Z (e:=56) Z) Z<|vQ 1 Z<|O Z (QD hl Z Z Z (e:=56) Z) Z<|vQ 1 Z<|ky Z (an Z) (fun u=>?_) (fun u=>?_)
 ·refine vQ 1 Z<|O Z (eW Z) Z<|O Z (QA 4 Z) Z<|O Z (QB Z (aq.fq E) Z) Z<|vQ 1 Z<|O Z (QD hl Z Z Z (e:=56) Z) Z<|G9 (e:=56) (m:=5) (k:=l.length) z (bC<|bT u) Z Z Y Y Z Z (fun _=>Z) (fun aa A=>?_);refine vQ 1 Z<|bf Z (Qz Z Z Z) (fun _=>Z) (Hs C A hl aq) (fun U aq=>?_);refine Px 5 Z ?_;exact aA Z Z ⟨cB (by unfold pw;rw[show bU (.ofNat s.events.length) (.ofNat l.length)=false from bT u]<;>rfl),aq⟩
 refine Px 14 Z ?_;exact aA Z Z ⟨cB (by unfold pw;rw[show bU (.ofNat s.events.length) (.ofNat l.length)=true from bj u]<;>rfl),aq⟩
theorem LJ {G:Cx} (z:Plain G) {K:KP} (u:rh G K) {k:Nat} {c:XC} {v:V} (hi:bR K 6 (iI K k) c.ins v) {U:D} {L:Own} (aq:J U K L):
  bk Tryz.prog G 77 [.agg [.int .i64 c.aY,v]] U fun v U'=>v= .int .i64 (fE k c)/\J U' K L:=by
 refine PS z Tryz.func77 Z<|Pt 2 Z<|kp aq Z (cz Z Z) (fun U b1 aq=>?_);refine On 6 Z<|O Z (QC Z aq.g0 (n:=2) (vs:=[_,_]) Z) Z<|bf Z (Qz Z Z Z) (fun _=>Z) (Nw z u hi aq) (fun U aq=>?_);refine Pv 2 Z<|aE Z (fun h5=>?_) (fun h5=>?_)
 ·refine Pu 7 Z ?_;exact aA Z Z ⟨cJ (by unfold fE;rw[h5];rfl),aq.pop⟩
 refine Ol 5 Z<|O Z (QC Z aq.g0 (n:=2) (vs:=[_,_]) Z) Z<|bf Z (Qz Z Z Z) (fun _=>Z) (zm z u hi aq) (fun U aq=>?_);refine Pv 9 Z<|aE Z (fun A=>?_) (fun A=>?_)
 ·refine Pu 8 Z ?_;exact aA Z Z ⟨cJ (by unfold fE;rw[h5,show aX (I (dq k c) 0)=true from A];rfl),aq.pop⟩
 refine Pu 8 Z ?_;exact aA Z Z ⟨cJ (by unfold fE;rw[h5,show aX (I (dq k c) 0)=false from A];rfl),aq.pop⟩
end Go.Ev
namespace Go.Ev
variable [Env]
def vr (k:Nat) (c:XC) (A:List Int):Nat->TS->TS
 | 0,s=>s
 | f+1,s=>bif (cj k c s).2 then vr k c A f (cj k c s).1 else
  bif (cj k c s).1.asks then(match A[s.asked]? with | some v=>vr k c A f (eA k c (cj k c s).1 v) | none=>(cj k c s).1) else(cj k c s).1
theorem Iz {k:Nat} {c:XC} {out:List Nat} (z:fg (dj c) c.ins.length out):∀(q:Nat) (s:TS) (f f':Nat),out[q]?=some s.at_->q<f->q<f'->vj k c f s=vj k c f' s:=by
 intro q;induction q using Nat.strongRecOn with
 | _ q ih=>
  intro s f f' hq h1 h2;cases u:(cj k c s).2 with
  | false=>rw[wE B u,wE B u]
  | true=>
   rw[sO B u,sO B u];obtain⟨x,hx⟩:∃x,c.ins[s.at_]?=some x:=⟨_,gC<|z.lt _<|gB_ hq⟩;obtain⟨q',A,h4⟩:=oe z hx hq u;exact ih q' A _ _ _ h4 B B
theorem uX {k:Nat} {c:XC} {s:TS}:(cj k c s).1.asked=s.asked:=(qv k c s).2
theorem Jw {k:Nat} {c:XC} {A:List Int} {s:TS} (h:s.asks=false):jR k c A s=s:=by
 cases A with
 | nil=>rfl
 | cons v r=>unfold jR;rw[h];rfl
theorem Bg {k:Nat} {c:XC} {s:TS} (h:lJ c s) (u:s.asks=true) (v:Int):(eA k c s v).at_∈dj c s.at_:=by
 obtain⟨x,hx,hk⟩:=h u;show s.at_+1∈dj c s.at_;unfold dj;rw[hx];show _∈(gN x s.at_).map Int.toNat
 have:gN x s.at_= [.ofNat (s.at_+1)]:=by
  unfold gN;rcases hk with hk | hk | hk | hk<;>rw[hk]<;>rfl
 rw[this];simp
theorem MV {k:Nat} {c:XC} (hc:eX k c) {out:List Nat} (E:fT c=some out) (z:fg (dj c) c.ins.length out) (A:List Int):
  ∀(f q:Nat) (s:TS),s.asks=false->out[q]?=some s.at_->q<f->vr k c A f s=jR k c (A.drop s.asked) (vj k c f s):=by
 intro f;induction f with
 | zero=>intro q s _ _ h;omega
 | succ f ih=>
  intro q s F hq aa;obtain⟨x,hx⟩:∃x,c.ins[s.at_]?=some x:=⟨_,gC<|z.lt _<|gB_ hq⟩;have hask:=uh (k:=k) hc F;unfold vr;cases u:(cj k c s).2 with
  | true=>
   obtain⟨q',G,h4⟩:=oe z hx hq u;show vr k c A f (cj k c s).1=_;rw[ih q' _ (hask.2 u) h4 B,uX,sO B u];rfl
  | false=>
   rw[wE B u];show(bif (cj k c s).1.asks then _ else _)=_;cases hk:(cj k c s).1.asks with
   | false=>rw[Jw hk];rfl
   | true=>
    show(match A[s.asked]? with | some v=>_ | none=>_)=_;cases C:A[s.asked]? with
    | none=>rw[fO (List.getElem?_eq_none_iff.1 C)];rfl
    | some v=>
     dsimp only;have aq:(cj k c s).1.at_=s.at_:=su u;have hn:=Bg (k:=k) hask.1 hk v;rw[aq] at hn;obtain⟨q',G,h4⟩:=z.Ae q _ hq _ hn;have hql:=(gA.1 hq).1;rw[ih q' _ Z h4 B,cR C];show jR k c (A.drop ((cj k c s).1.asked+1)) _=(bif (cj k c s).1.asks then _ else _);rw[hk,uX];show _=jR k c (A.drop (s.asked+1)) (dY k c (cj k c s).1 v);unfold dY;rw[Iz z q' _ f (jo c) h4 B (by unfold jo;rw[E];show q'<out.length;omega)]
theorem KO {k:Nat} {c:XC} (hc:eX k c) {out:List Nat} (u:fT c=some out) (z:fg (dj c) c.ins.length out) (A:List Int):vr k c A out.length (hU c)=gx k c A:=by
 obtain⟨q,hq⟩:=gO_ z.zero;have hl:=(gA.1 hq).1;rw[MV hc u z A _ q (hU c) Z hq hl];show jR k c A _=jR k c A (vj k c (jo c) _);unfold jo;rw[u];rfl
theorem KQ {k:Nat} {c:XC} {A:List Int} {j:Nat} {s:TS} (hj:1<=j) (h:(cj k c s).2=true):vr k c A j s=vr k c A (j-1) (cj k c s).1:=by
 obtain⟨j,rfl⟩:∃m,j=m+1:=⟨j-1,by omega⟩;show(bif _ then _ else _)=_;rw[h];rfl
theorem KN {k:Nat} {c:XC} {A:List Int} {j:Nat} {s:TS} {v:Int} (hj:1<=j) (h:(cj k c s).2=false) (u:(cj k c s).1.asks=true) (hv:A[s.asked]?=some v):vr k c A j s=vr k c A (j-1) (eA k c (cj k c s).1 v):=by
 obtain⟨j,rfl⟩:∃m,j=m+1:=⟨j-1,by omega⟩;show(bif _ then _ else bif _ then _ else _)=_;rw[h,u,hv];rfl
theorem MW {k:Nat} {c:XC} {A:List Int} {j:Nat} {s:TS} (hj:1<=j) (h:(cj k c s).2=false) (u:(cj k c s).1.asks=true->A[s.asked]?=none):vr k c A j s=(cj k c s).1:=by
 obtain⟨j,rfl⟩:∃m,j=m+1:=⟨j-1,by omega⟩;show(bif _ then _ else bif _ then _ else _)=_;rw[h];cases hk:(cj k c s).1.asks with
 | false=>rfl
 | true=>rw[u hk];rfl
end Go.Ev
namespace Go.Ev
variable [Env]
open Go.Proofs
set_option maxRecDepth 4000
set_option maxHeartbeats 8000000
theorem Bu {G:Cx} (F:Plain G) {K:KP} (a:rj) (vv:Int) {U:D} {L:Own} (aq:J U K L):bk Tryz.prog G 94 [.agg [.int .i64 a.kind,.int .i64 a.loc,.int .i64 a.order,.int .i64 a.a,.int .i64 a.b],.int .i64 vv] U fun v U'=>v= .tuple [.agg<|ints (bL a vv).ints,.int .i64<|gY a]/\J U' K L:=by
 refine PS F Tryz.func94 Z<|Pt 2 Z<|kp aq Z (cz Z Z) (fun U b1 aq=>?_);refine kp aq Z (QE (cs:=[T,T,T,T,T])) (fun U b2 aq=>?_);refine OX aq 10 [1,1,2,1] Z Z (O Z (Qy (places:=[(0,1),(1,1),(2,1),(3,1),(4,1)]) (zero:=[T,T,T,T,T]) (cs:=[_,_,_,_,_]) Z) Z<|kp aq Z (QE (cs:=[T,T,T,T,T])) (fun U b3 aq=>?_));refine bO aq Z (QH Z Z Z aq.g0 (m:=5) Z Z (cells':=[_,_,_,_,_]) Z) Z (fun U aq=>?_);refine OW aq 9 [0,2] Z Z<|aN<|Pt 2 Z<|ky Z (az Z Z Z) (fun u=>?_) (fun u=>?_)
 ·refine PE aq 6 [0] Z Z<|bO aq Z (QH Z Z Z aq.g0 (m:=1) Z Z (cells':=[_,_,_,_,_]) Z) Z (fun U aq=>?_);refine af<|aJ<|Pt 2 Z<|O Z (QC Z aq.g0 (n:=5) (vs:=[_,_,_,_,_]) Z) Z<|eh aq Z (QH Z Z Z aq.g1 (m:=5) Z Z (cells':=[_,_,_,_,_]) Z) Z (fun U aq=>?_);refine Px 4 Z ?_;exact br Z Z aq.g1 (m:=5) Y Z Z ⟨by unfold bL gY;simp only[u,ct,cf]<;>rfl,aq.pop.pop.pop⟩
 refine OO 6 Z<|ky Z (az Z Z Z) (fun z=>?_) (fun z=>?_)
 ·refine PC aq 12 [3,2] Z Z<|aE Z (fun C=>?_) (fun C=>?_)
  ·refine P2 aq 2 [0] Z Z<|bO aq Z (QH Z Z Z aq.g0 (m:=1) Z Z (cells':=[_,_,_,_,_]) Z) Z (fun U aq=>?_);refine af<|aJ<|Pt 2 Z<|O Z (QC Z aq.g0 (n:=5) (vs:=[_,_,_,_,_]) Z) Z<|eh aq Z (QH Z Z Z aq.g1 (m:=5) Z Z (cells':=[_,_,_,_,_]) Z) Z (fun U aq=>?_);refine Px 4 Z ?_;exact br Z Z aq.g1 (m:=5) Y Z Z ⟨by unfold bL gY;simp only[u,z,bT C,ct,cf]<;>rfl,aq.pop.pop.pop⟩
  refine P2 aq 4 [4,2,4] Z Z<|bO aq Z (QH Z Z Z aq.g0 (m:=1) Z Z (cells':=[_,_,_,_,_]) Z) Z (fun U aq=>?_);refine af<|aJ<|Pt 2 Z<|O Z (QC Z aq.g0 (n:=5) (vs:=[_,_,_,_,_]) Z) Z<|eh aq Z (QH Z Z Z aq.g1 (m:=5) Z Z (cells':=[_,_,_,_,_]) Z) Z (fun U aq=>?_);refine Px 4 Z ?_;exact br Z Z aq.g1 (m:=5) Y Z Z ⟨by unfold bL gY;simp only[u,z,bj C,ct,cf]<;>rfl,aq.pop.pop.pop⟩
 refine OO 6 Z<|ky Z (az Z Z Z) (fun A=>?_) (fun A=>?_)
 ·refine Pw 6 Z ?_;refine O Z (ek (j:=.i64) (k:=.u64) Y Y Y Z) Z ?_;refine P3 aq 2 [3,2] Z Z ?_;refine O Z (ek (j:=.i64) (k:=.u64) Y Y Y Z) Z ?_;refine vQ 1 Z ?_;refine O Z (ek (j:=.u64) (k:=.i64) Y Y Y Z) Z ?_;refine O Z (QA 4 Z) Z<|bO aq Z (QH Z Z Z aq.g0 (m:=1) Z Z (cells':=[_,_,_,_,_]) Z) Z (fun U aq=>?_);refine af<|aJ<|Pt 2 Z<|O Z (QC Z aq.g0 (n:=5) (vs:=[_,_,_,_,_]) Z) Z<|eh aq Z (QH Z Z Z aq.g1 (m:=5) Z Z (cells':=[_,_,_,_,_]) Z) Z (fun U aq=>?_);refine Px 4 Z ?_;exact br Z Z aq.g1 (m:=5) Y Z Z ⟨by unfold bL gY;simp only[u,z,A,ct,cf]<;>rfl,aq.pop.pop.pop⟩
 refine OO 6 Z<|ky Z (az Z Z Z) (fun E=>?_) (fun E=>?_)
 ·refine PE aq 8 [3,2,4] Z Z<|bO aq Z (QH Z Z Z aq.g0 (m:=1) Z Z (cells':=[_,_,_,_,_]) Z) Z (fun U aq=>?_);refine af<|aJ<|Pt 2 Z<|O Z (QC Z aq.g0 (n:=5) (vs:=[_,_,_,_,_]) Z) Z<|eh aq Z (QH Z Z Z aq.g1 (m:=5) Z Z (cells':=[_,_,_,_,_]) Z) Z (fun U aq=>?_);refine Px 4 Z ?_;exact br Z Z aq.g1 (m:=5) Y Z Z ⟨by unfold bL gY;simp only[u,z,A,E,ct,cf]<;>rfl,aq.pop.pop.pop⟩
 refine OO 6 Z (O Z (Qy (places:=[(0,1),(1,1),(2,1),(3,1),(4,1)]) (zero:=[T,T,T,T,T]) (cs:=[_,_,_,_,_]) Z) Z<|eh aq Z (QH Z Z Z aq.g1 (m:=5) Z Z (cells':=[_,_,_,_,_]) Z) Z (fun U aq=>?_));refine Px 4 Z<|aF<|aw (?_);exact br Z Z aq.g1 (m:=5) Y Z Z ⟨by unfold bL gY;simp only[u,z,A,E,ct,cf]<;>rfl,aq.pop.pop.pop⟩
theorem Gj {G:Cx} (hG:Plain G) {K:KP} {es:List db} {v:V} (h:bR K 5 iU es v) (hl:es.length<=100000) {U:D} {L:Own} (aq:J U K L):bk Tryz.prog G 86 [v] U fun v U'=>∃M,cQ 1 2 dy (dg es) v M/\J U' K (M++L):=by
 refine PS hG Tryz.func86 Z<|OH 17 Z<|bp (rg 3 30) (fun j t U=>∃(i:Nat) (u:V) (M:Own),j+i=es.length/\cQ 1 2 dy (dg<|es.take i) u M/\t.get 3=some (u)/\t.get 4=some (.int .i64 (.ofNat i))/\J U K (M++L)) (es.length) ⟨0,.ax,[],Z,cQ.nil,Z,Z,aq⟩ ?_;clear aq;intro j3 t U ar hI;obtain⟨i,u,M,bi,hO,a3,a4,aq⟩:=hI;obtain⟨oo,rfl⟩:=ar.q2 a3 a4 Z;refine OI 5 Z<|O Z (QD h Z Z Z (e:=56) Z) Z<|Pv 3 Z<|aE Z (fun Q=>?_) (fun Q=>?_)
 ·refine NP 8 Z ?_;obtain⟨aa,A,a7⟩:=cL Q;refine Qu (e:=56) (m:=5) h A Z Z Z Z (fun bl a8 am a9 ao=>?_);obtain rfl:=ao;refine cq am Z Z Z (k:=0) Y (lb Z) (fun _=>Z) (fun bm ap=>?_);refine O Z (QF aq ap Z Z) Z<|ky Z (az Z Z Z) (fun W=>?_) (fun W=>?_)
  ·refine Pw 15 Z<|Qu (e:=56) (m:=5) h A Z Z Z Z (fun a5 aI C aY E=>?_);obtain rfl:=E;refine cq C Z Z Z (k:=3) Y (lb Z) (fun _=>Z) (fun a6 F=>?_);refine O Z (QF aq F Z Z) Z<|gT aq Z (bY (e:=2) (m:=1) (z:=[T]) (cs:=[_]) Y Y Y Y<|bD Z Z Z Z bJ) (fun _=>Z) (fun U b1 aq=>?_);replace aq:=aq.pull (.there .here);replace aq:=aq.pull (.cM<|ep.here (X:=[_]));refine sk (R:=dy) (m:=1) (e:=2) hO aq (eU (m:=1) Z Z) dy.leaf (by have:=mj (es.take i);rw[lT_] at this;show _+1<=_;omega) Z Z Z Z Z Z Z (fun _=>Z) (fun U u32 ab hO32 aq=>?_);refine PY 2 Z<|aJ<|PW 5 Z<|aO ⟨j3-1,(by have:=bu Q;omega),oF,i+1,u32,ab,(by have:=bu Q;omega),(by rw[jG A,show dD aa=true from by unfold dD;rw[W];rfl];exact hO32),Z,cI<|bg (by have:=h.bG;omega),aq⟩
  refine PZ 3 Z<|Qu (e:=56) (m:=5) h A Z Z Z Z (fun bo bb a0 be a1=>?_);obtain rfl:=a1;refine cq a0 Z Z Z (k:=0) Y (lb Z) (fun _=>Z) (fun bs a2=>?_);refine O Z (QF aq a2 Z Z) Z<|Pv 4 Z<|aE Z (fun ac=>?_) (fun ac=>?_)
  ·refine ai Z<|PZ 3 Z<|Qu (e:=56) (m:=5) h A Z Z Z Z (fun a5 aI C aY E=>?_);obtain rfl:=E;refine cq C Z Z Z (k:=3) Y (lb Z) (fun _=>Z) (fun a6 F=>?_);refine O Z (QF aq F Z Z) Z<|gT aq Z (bY (e:=2) (m:=1) (z:=[T]) (cs:=[_]) Y Y Y Y<|bD Z Z Z Z bJ) (fun _=>Z) (fun U b1 aq=>?_);replace aq:=aq.pull (.there .here);replace aq:=aq.pull (.cM<|ep.here (X:=[_]));refine sk (R:=dy) (m:=1) (e:=2) hO aq (eU (m:=1) Z Z) dy.leaf (by have:=mj (es.take i);rw[lT_] at this;show _+1<=_;omega) Z Z Z Z Z Z Z (fun _=>Z) (fun U u32 ab hO32 aq=>?_);refine PY 2 Z<|aJ<|PW 5 Z<|aO ⟨j3-1,(by have:=bu Q;omega),oF,i+1,u32,ab,(by have:=bu Q;omega),(by rw[jG A,show dD aa=true from by unfold dD;rw[W];exact ac];exact hO32),Z,cI<|bg (by have:=h.bG;omega),aq⟩
  refine aG<|aJ<|PW 5 Z<|aO ⟨j3-1,(by have:=bu Q;omega),oF,i+1,u,M,(by have:=bu Q;omega),(by rw[jG A,show dD aa=false from by unfold dD;rw[W];exact ac];simpa using hO),Z,cI<|bg (by have:=h.bG;omega),aq⟩
 refine OL 3 Z<|aT<|PX 7 Z ?_;exact aA Z Z ⟨M,by rw[tL_<|bC Q] at hO;exact hO,aq⟩
def zR (l of_:List db):Bool:=bif bU (.ofNat of_.length) (.ofNat l.length) then false else dk (of_.take l.length) l
theorem Kz {G:Cx} (hG:Plain G) {K:KP} {l of_:List db} {v1 v2:V} (h1:bR K 5 iU l v1) (h2:bR K 5 iU of_ v2) {U:D} {L:Own} (aq:J U K L):bk Tryz.prog G 87 [v1,v2] U fun v U'=>v= .bool (zR l of_)/\J U' K L:=by
 refine PS hG Tryz.func87 Z<|OI 9 Z<|O Z (QD h1 Z Z Z (e:=56) Z) Z<|vQ 1 Z<|O Z (QD h2 Z Z Z (e:=56) Z) Z<|Pv 3 Z<|aE Z (fun u=>?_) (fun u=>?_)
 ·refine Pu 7 Z ?_;exact aA Z Z ⟨cB (by unfold zR;rw[u];rfl),aq⟩
 refine Ok 9 Z ?_;obtain⟨LL1,aq,hLL1⟩:=aq.named;refine bp ([4,5]++rg 11 15) (fun j t U=>∃(i:Nat),j+i=l.length/\(∀k,k<i->l[k]?=of_[k]?)/\t.get 5=some (.int .i64 (.ofNat i))/\J U K LL1) (l.length) ⟨0,Z,fun k hk=>absurd hk (nZ_ _),Z,aq⟩ ?_;clear aq;intro j4 t U ar hI;obtain⟨i,hj,A,X,aq⟩:=hI;subst hLL1;obtain⟨oo,rfl⟩:=ar.q1 X Z;refine OI 5 Z<|O Z (QD h1 Z Z Z (e:=56) Z) Z<|Pv 3 Z<|aE Z (fun z=>?_) (fun z=>?_)
 ·refine NO 5 Z<|aS (l:=zp [0,1,2,3,4,5,6,7,8]) Y Y<|P1 2 Z ?_;obtain⟨ap,C,aa⟩:=cL z;refine Qv (e:=56) (m:=5) h1 C Z Z Z Z Z (fun aI ab M ac Q=>?_);obtain rfl:=Q;refine al Z Z (QG aq M Z Z) Z<|P1 2 Z ?_;obtain⟨aY,E⟩:=cm (show i<of_.length from by have:=bC u;omega);refine Qv (e:=56) (m:=5) h2 E Z Z Z Z Z (fun a0 am R ao W=>?_);obtain rfl:=W;refine al Z Z (QG aq R Z Z) Z<|al Z Z (zw (n:=5) (ca:=[_,_,_,_,_]) (cb:=[_,_,_,_,_]) Y Z Z Z Z) Z<|Py 2 Z<|aE Z (fun F=>?_) (fun F=>?_)
  ·refine PX 6 Z<|aF<|aw<|bz<|aF<|aw (?_);exact aA Z Z ⟨cB (by unfold zR;rw[u];show _=dk (of_.take l.length) l;rw[fA (i:=i) (by rw[List.getElem?_take,if_pos<|bu z];exact E) C (by have:=db.same.symm.trans (bT F);rw[mV] at this⊢;exact fun e=>this e.symm)]),aq⟩
  refine aG<|aJ<|PW 5 Z<|aO ⟨j4-1,(by have:=bu z;omega),oF,i+1,(by have:=bu z;omega),jH A C E<|db.same.symm.trans<|bj F,cI<|bg (by have:=h1.bG;omega),aq⟩
 refine OL 3 Z<|aT<|PX 6 Z ?_;exact aA Z Z ⟨cB (by unfold zR;rw[u];show _=dk (of_.take l.length) l;rw[ei (i:=i) (by rw[lT_];have:=bC u;omega) (by rw[lT_];have:=bC z;omega) (fun q hq=>by rw[List.getElem?_take];split;exact(A q hq).symm;exact(gN_ B).symm)]),aq⟩
end Go.Ev
namespace Go.Ev
variable [Env]
def vG (kind:Int):Bool:=bif I kind 2 then true else bif I kind 4 then true else bif I kind 5 then true else I kind 6
theorem Kh {n:Int} (h:vG n=true):n=2∨n=4∨n=5∨n=6:=by
 unfold vG at h;cases h2:I n 2 with
 | true=>exact .inl (eqv h2)
 | false=>
 cases h4:I n 4 with
 | true=>exact .inr (.inl<|eqv h4)
 | false=>
 cases h5:I n 5 with
 | true=>exact .inr (.inr (.inl<|eqv h5))
 | false=>
  rw[h2,h4,h5] at h;exact .inr (.inr (.inr<|eqv h))
section
variable {k:Nat} {x:XI} {s:TS}
theorem JI (h:x.kind=1):dL k x s=({s with aY:=s.aY.set x.pc.toNat (fI k s.aY x 0),at_:=s.at_+1},true):=by unfold dL;rw[h];rfl
theorem EA (h:x.kind=3):dL k x s=({s with events:=s.events++[⟨2,x.loc,x.order,0,fI k s.aY x 0⟩],at_:=s.at_+1},true):=by unfold dL;rw[h];rfl
theorem Ey (h:x.kind=7):dL k x s=({s with events:=s.events++[⟨4,0,x.order,0,0⟩],at_:=s.at_+1},true):=by unfold dL;rw[h];rfl
theorem Hp (h:x.kind=10):dL k x s=({s with at_:=x.to.toNat},true):=by unfold dL;rw[h];rfl
theorem Ez (h:x.kind=8∨x.kind=9) (h0:I (fI k s.aY x 0) 0=false):dL k x s=({s with at_:=s.at_+1},true):=by
 unfold dL;rcases h with h | h<;>rw[h,h0]<;>rfl
theorem step_block (h:x.kind=8) (h0:I (fI k s.aY x 0) 0=true):dL k x s=({s with fin:=2},false):=by unfold dL;rw[h,h0];rfl
theorem Ho (h:x.kind=9) (h0:I (fI k s.aY x 0) 0=true):dL k x s=({s with fin:=3},false):=by unfold dL;rw[h,h0];rfl
theorem JD (h:x.kind=11) (h0:I (fI k s.aY x 0) 0=true):dL k x s=({s with at_:=x.to.toNat},true):=by unfold dL;rw[h,h0];rfl
theorem JE (h:x.kind=11) (h0:I (fI k s.aY x 0) 0=false):dL k x s=({s with at_:=s.at_+1},true):=by unfold dL;rw[h,h0];rfl
theorem Ew (h:x.kind=12):dL k x s=({s with fin:=4},false):=by unfold dL;rw[h];rfl
theorem step_done (h:x.kind=13):dL k x s=({s with fin:=1},false):=by unfold dL;rw[h];rfl
theorem CD (h:x.kind=2∨x.kind=4∨x.kind=5∨x.kind=6):dL k x s=({s with asks:=true},false):=by
 unfold dL;rcases h with h | h | h | h<;>rw[h]<;>rfl
theorem yL {i:Nat} {aY:List Int}:fI k aY x i=((x.exprs.map<|eJ aY k)[i]?).getD 0:=by unfold fI;rw[gM_]
theorem lU {i:Nat} {aY:List Int} {y:Int} (h:(x.exprs.map<|eJ aY k)[i]?=some y):fI k aY x i=y:=by rw[yL,h];rfl
theorem Fa {i:Nat} {aY:List Int} (h:(x.exprs.map<|eJ aY k).length<=i):fI k aY x i=0:=by rw[yL,gN_ h];rfl
end
theorem gP {k:Nat} {c:XC} {s:TS} {x:XI} (h:c.ins[s.at_]?=some x):cj k c s=dL k x s:=by unfold cj;rw[h]
section
variable {k:Nat} {c:XC} {s S0:TS} {x:XI} {out:List Nat} {A:List Int} {q j:Nat}
theorem oS (C:fg (dj c) c.ins.length out) (hx:c.ins[s.at_]?=some x) (z:vm c out s) (hq:out[q]?=some s.at_) (aa:q<j) (he:vr k c A out.length (hU c)=vr k c A j s) (u:cj k c s=(S0,true)):
  vm c out S0/\(∃q',out[q']?=some S0.at_/\q'<j-1)/\vr k c A out.length (hU c)=vr k c A (j-1) S0:=by
 have h1:=z.step (k:=k) C;obtain⟨q',h2,E⟩:=oe (k:=k) C hx hq (by rw[u]);rw[u] at h1 E;exact⟨h1,⟨q',E,by omega⟩,by rw[he,KQ B (by rw[u]),u]⟩
theorem GF (z:eX k c) (C:fg (dj c) c.ins.length out) (E:vm c out s) (G:s.asks=false) (hq:out[q]?=some s.at_) (aa:q<j) (he:vr k c A out.length (hU c)=vr k c A j s) (u:cj k c s=(S0,false)) (F:S0.asks=true) {v:Int} (hv:A[s.asked]?=some v):
  vm c out (eA k c S0 v)/\(∃q',out[q']?=some (eA k c S0 v).at_/\q'<j-1)/\vr k c A out.length (hU c)=vr k c A (j-1) (eA k c S0 v):=by
 have h1:=E.step (k:=k) C;have h2:=(uh (k:=k) z G).1;rw[u] at h1 h2;have aq:S0.at_=s.at_:=by have:=su (k:=k) (c:=c) (s:=s) (by rw[u]);rw[u] at this;exact this
 have hn:=Bg (k:=k) h2 F v;rw[aq] at hn;obtain⟨q',h3,h4⟩:=C.Ae q _ hq _ hn;exact⟨pJ z C h1 h2 F v,⟨q',h4,by omega⟩,by rw[he,KN B (by rw[u]) (by rw[u];exact F) hv,u]⟩
theorem wF (he:vr k c A out.length (hU c)=vr k c A j s) (hj:1<=j) (u:cj k c s=(S0,false)) (z:S0.asks=true->A[s.asked]?=none):vr k c A out.length (hU c)=S0:=by
 rw[he,MW hj (by rw[u]) (by rw[u];exact z),u]
end
theorem KP.Mr {K:KP} {M:Own} {b:Nat} {o:cG} (h:(b,o)∈M):K.ic M b o:=.inr h
theorem KU {K:KP} {b e:Nat} {ro:Bool} {l:List Int} {n:Nat} (hn:l.length=n) (hk:K b (.row (l.map<|V.int .i64) e ro)) (hl:n<=1000000):bR K 1 dy l (.slice b 0 n (.known n)):=by
 subst hn;refine .inr ⟨b,0,_,_,e,ro,Z,.inr ⟨_,Z,nR_ _⟩,hk,by simp,by omega,fun i x hx=>?_⟩;have:(l.map<|V.int .i64)[0+i*1]?=some (.int .i64 x):=by rw[nA_,Nat.mul_one,gM_,hx];rfl
 rw[cR this];rfl
end Go.Ev
namespace Go.Ev
variable [Env]
open Go.Proofs
set_option maxRecDepth 4000
set_option maxHeartbeats 8000000
theorem KI {aY nins:Int} {k kn:Nat} {x:XI} {sh:kN} (u:gE aY nins k x sh=true) (z:ja[kn]?=some sh):x.exprs.length<=2:=by
 have h1:=(hJ u).exprs;have h2:∀s∈ja,s.exprs<=2:=by decide
 have:=h2 sh (gB_ z);omega
def tg (m n:Int) (kind:Int):Bool:=bif I kind m then true else I kind n
theorem Ay {m n kind:Int} (h:tg m n kind=true):kind=m∨kind=n:=by
 unfold tg at h;cases h1:I kind m with
 | true=>exact .inl (eqv h1)
 | false=>rw[h1] at h;exact .inr<|eqv h
theorem FW {m n kind:Int} (h:tg m n kind=false):kind≠m/\kind≠n:=by
 unfold tg at h;cases h1:I kind m with
 | true=>rw[h1] at h;cases h
 | false=>rw[h1] at h;exact⟨E8.1 h1,E8.1 h⟩
theorem Kg {n:Int} (h:vG n=false):n≠2/\n≠4/\n≠5/\n≠6:=by
 unfold vG at h;cases h2:I n 2 with
 | true=>rw[h2] at h;cases h
 | false=>
 cases h4:I n 4 with
 | true=>rw[h2,h4] at h;cases h
 | false=>
 cases h5:I n 5 with
 | true=>rw[h2,h4,h5] at h;cases h
 | false=>rw[h2,h4,h5] at h;exact⟨E8.1 h2,E8.1 h4,E8.1 h5,E8.1 h⟩
theorem Gm {kn:Nat} {n:Int} (G:n= .ofNat kn) (h1:1<=kn) (aa:kn<=13) (K:I n 1=false) (L:vG n=false) (u:I n 3=false) (z:I n 7=false) (A:tg 8 9 n=false) (C:I n 10=false) (E:I n 11=false) (F:tg 12 13 n=false):False:=by
 have a1:=E8.1 K;have a3:=E8.1 u;have a7:=E8.1 z;have a10:=E8.1 C;have a11:=E8.1 E;obtain⟨a8,a9⟩:=FW A;obtain⟨ab,ac⟩:=FW F;obtain⟨a2,a4,a5,a6⟩:=Kg L;have h2:n=((kn:Nat):Int):=G;omega
def Mm (k:Nat) (c:XC) (R:TS) (K:KP) (L:Own) (v:V) (U':D):Prop:=∃(K1:KP) (ev:V) (fn:Int) (a:rj) (w7 w8 w9:V),v= .agg [ev,.int .i64 fn,.int .i64 a.kind,.int .i64 a.loc,.int .i64 a.order,.int .i64 a.a,.int .i64 a.b,w7,w8,w9]/\KP.le K K1/\bR K1 5 iU R.events ev/\(R.asks=true->fn=0/\a=lh k c R)/\(R.asks=false->fn=R.fin/\a=gw)/\cS w8=some [w8]/\iB w7=true/\iB w8=true/\iB w9=true/\cS w7=some [w7]/\cS w9=some [w9]/\J U' K1 L
theorem Pd {G:Cx} (hG:Plain G) {K:KP} {k:Nat} {c:XC} {cv:V} (hi:bR K 6 (iI K k) c.ins cv) (am:eX k c) {od:List Nat} (ho:fT c=some od) (hR:fg (dj c) c.ins.length od) {A:List Int} {va:V} (hA:bR K 1 dy A va) (gm:A.length<=100000) {U:D} {L:Own} (aq:J U K L):
  bk Tryz.prog G 119 [.agg [.int .i64 c.aY,cv],va] U (Mm k c (gx k c A) K L):=by
 have c7:c.aY= .ofNat c.aY.toNat:=by have:=am.za;show c.aY=((c.aY.toNat:Nat):Int);omega
 have fi:c.aY.toNat<=16:=by have:=am.xr;omega
 have hol:=qU am ho;have hlen:=am.len;have hrun:=KO am ho hR A;refine PS hG Tryz.func119 Z<|Pt 2 Z<|kp aq Z (cz Z Z) (fun U b1 aq=>?_);refine kp aq Z (QE (cs:=[.ax,T,T,T,T,T,T,T,.ax,T])) (fun U b2 aq=>?_);refine OX aq 6 [0,1] Z Z<|gT aq Z (k9 (e:=2) (w:=8) (z:=[gZ 0]) Y Y Y Y (show _=some (V.int .i64 (.ofNat c.aY.toNat)) from cI c7) (show _=some (V.int .i64 (.ofNat c.aY.toNat)) from cI c7) B B) (fun _=>Z) (fun U b3 aq=>?_);rw[iT (f:=gZ)] at aq;refine O Z (Qy (places:=[(0,1),(1,1),(2,5),(7,1),(8,1),(9,1)]) (zero:=[.ax,T,T,T,T,T,T,T,.ax,T]) (cs:=[_,_,_,_,_,_,_,_,_,_]) Z) Z<|kp aq Z (QE (cs:=[.ax,T,T,T,T,T,T,T,.ax,T])) (fun U b4 aq=>?_);refine bO aq Z (QH Z Z Z aq.g0 (m:=10) Z Z (cells':=[_,_,_,_,_,_,_,_,_,_]) Z) Z (fun U aq=>?_);refine OM 3 Z (bp (rg 6 8++rg 18 161) (fun j t U=>∃(s:TS) (ev:V) (Me:Own),vm c od s/\s.asks=false/\s.fin=0/\s.asked<=A.length/\s.events.length+j<=od.length/\(∃q,od[q]?=some s.at_/\q<j)/\vr k c A od.length (hU c)=vr k c A j s/\cQ 5 56 iU s.events ev Me/\J U K (Me++((b4,.row [ev,T,T,T,T,T,T,.int .i64 (.ofNat s.at_),.slice b3 0 c.aY.toNat (.known c.aY.toNat),.int .i64 (.ofNat s.asked)] 135 false)::(b3,.row (s.aY.map gZ) 2 false)::(b2,.row [.ax,T,T,T,T,T,T,T,.ax,T] 135 false)::(b1,.row [.int .i64 c.aY,cv] 33 false)::L))) (od.length) ⟨hU c,.ax,[],xE hR,Z,Z,Nat.zero_le _,(show 0+_<=_ by omega),(gO_ hR.zero).imp fun q hq=>⟨hq,(gA.1 hq).1⟩,Z,cQ.nil,aq⟩ ?_);clear aq;intro j2 t U ar hI;obtain⟨s,ev,Me,aa,has,Q,a0,gr,em,he,hO,aq⟩:=hI;obtain⟨oo,rfl⟩:=ar.q0 Z;refine aN<|Pt 2 Z ?_;obtain⟨q,hq,ao⟩:=em;have hatn:=aa.lt hR;obtain⟨x,hx⟩:=cm hatn;have hrx:=am.right x (gB_ hx);obtain⟨kn,sh,a7,en,c8,er,c9⟩:=iY hrx;have hall:=(hJ c9).all;have hql:=(gA.1 hq).1;have hrl:=aa.aY;have es:c.aY<=s.aY.length:=by rw[hrl];have:=am.za;omega
 refine O Z (QA 1 Z) Z<|O Z (QB Z aq.aQ.pop.pop.pop.g0 Z) Z<|O Z (QA 7 Z) Z<|O Z (QB Z aq.aQ.g0 Z) Z<|Qu (e:=79) (m:=6) hi hx Z Z Z Z (fun gs fk dd fr ca=>?_);have hr22raw:=ca;have hr22':=ca;obtain⟨a1,rfl,a3⟩:=hr22';refine O Z (QG aq dd Z Z) Z<|kp aq Z (QE (cs:=[T,T,T,T,T,.ax])) (fun U b5 aq=>?_);refine bO aq Z (QH Z Z Z aq.g0 (m:=6) Z (ah Z<|ah Z<|ah Z<|ah Z<|ah Z<|ah a3.leaf.2 aC) (cells':=[_,_,_,_,_,_]) Z) Z (fun U aq=>?_);refine Om 14 Z (bp ([7,8]++rg 24 18) (fun j t U=>∃(i:Nat) (u:V) (M:Own),j+i=x.exprs.length/\cQ 1 2 dy ((x.exprs.take i).map<|eJ s.aY k) u M/\t.get 7=some (u)/\t.get 8=some (.int .i64 (.ofNat i))/\J U K (M++((b5,.row [.int .i64 x.kind,.int .i64 x.pc,.int .i64 x.loc,.int .i64 x.order,.int .i64 x.to,a1] 79 false)::(Me++((b4,.row [ev,T,T,T,T,T,T,.int .i64 (.ofNat s.at_),.slice b3 0 c.aY.toNat (.known c.aY.toNat),.int .i64 (.ofNat s.asked)] 135 false)::(b3,.row (s.aY.map gZ) 2 false)::(b2,.row [.ax,T,T,T,T,T,T,T,.ax,T] 135 false)::(b1,.row [.int .i64 c.aY,cv] 33 false)::L))))) (x.exprs.length) ⟨0,.ax,[],Z,cQ.nil,Z,Z,aq⟩ ?_);clear aq;intro j5 t U ar hI;obtain⟨i,u,M,gt,hO7,et,ex,aq⟩:=hI;obtain⟨oo,rfl⟩:=ar.q2 et ex Z;refine OU aq 5 [5] Z Z<|O Z (QB Z aq.aQ.g0 Z) Z<|O Z (QD a3 Z Z Z (e:=82) Z) Z<|Pv 3 Z<|aE Z (fun a8=>?_) (fun a8=>?_)
 ·refine Ok 4 Z<|aS (l:=zp [0,1,2,3,4,5,6,7,8,9,10,11]) Y Y<|P4 aq 2 [5] Z Z<|al Z Z (QB Z aq.aQ.g0 Z) Z<|wQ 1 Z ?_;obtain⟨gv,a9,fs⟩:=cL a8;refine Qv (e:=82) (m:=4) a3 a9 Z Z Z Z Z (fun g4 f0 dl f1 cb=>?_);obtain⟨g5,g6,g7,ha,rfl,f2⟩:=cb.shape;refine al Z Z (QG aq dl Z Z) Z<|al Z Z (QA 8 Z) Z<|al Z Z (QB Z aq.aQ.pop.aQ.g0 Z) Z ?_;have ch:ep [(b3,cG.row (s.aY.map gZ) 2 false)] (M++((b5,.row [.int .i64 x.kind,.int .i64 x.pc,.int .i64 x.loc,.int .i64 x.order,.int .i64 x.to,a1] 79 false)::(Me++((b4,.row [ev,T,T,T,T,T,T,.int .i64 (.ofNat s.at_),.slice b3 0 c.aY.toNat (.known c.aY.toNat),.int .i64 (.ofNat s.asked)] 135 false)::(b3,.row (s.aY.map gZ) 2 false)::(b2,.row [.ax,T,T,T,T,T,T,T,.ax,T] 135 false)::(b1,.row [.int .i64 c.aY,cv] 33 false)::L)))) _:=(.cM (.there (.cM (.there<|ep.here (X:=[_])))));refine cA Z Z (Qz Z Z Z) (fun _=>Z) (kE (aq.pull ch)<|KC hG es (KU hrl (KP.Mr<|List.mem_singleton.2 Z) B) _ _ _ (ey.mono (KP.bX _ _) cb) (hall _<|gB_ a9) _ _ (aq.pull ch).keeps) (fun U aq=>?_);replace aq:=aq.push ch;refine⟨aV,?_⟩;refine j1 aq Z Z (bY (e:=2) (m:=1) (z:=[T]) (cs:=[_]) Y Y Y Y<|bD Z Z Z Z bJ) (fun _=>Z) (fun U b6 aq=>?_);replace aq:=aq.pull (.there .here);replace aq:=aq.pull (.cM<|ep.here (X:=[_]));refine mN (R:=dy) (m:=1) (e:=2) hO7 aq (eU (m:=1) Z Z) dy.leaf (by rw[lM_,lT_];have:=KI c9 er;show _+1<=_;omega) Z Z Z Z Z Z Z Z (fun _=>Z) (fun U eC eS hO41 aq=>?_);refine⟨aV,?_⟩;refine P0 2 Z<|aJ<|PW 5 Z<|aO ⟨j5-1,(by have:=bu a8;omega),oF,i+1,eC,eS,(by have:=bu a8;omega),(by rw[mi a9];exact hO41),Z,cI<|bg (by have:=a3.bG;omega),aq⟩
 refine OL 3 Z<|aT<|Pt 2 Z ?_;have hl7:=hO7.iu (K:=K);rw[tL_<|bC a8] at hl7;replace aq:=aq.keeps;have hA7:=hA.mono (KP.bX K M) (fun _ _ h=>h);have hd:(x.exprs.map<|eJ s.aY k).length=x.exprs.length:=lM_ ..;refine O Z (QA 7 Z) Z<|O Z (QB Z aq.pop.aQ.g0 Z) Z<|O Z (az Z Z (show _=some (V.int .i64 (.ofNat (s.at_+1))) from cI (bg B))) Z<|OW aq 10 [0,0] Z Z<|aN<|Pt 2 Z<|ky Z (az Z Z Z) (fun bb=>?_) (fun bb=>?_)
 ·refine Pv 4 Z<|aS (l:=zp [0,1,2,3,4,5,6,7,8]) Y Y ?_;obtain⟨e0,a2,_⟩:=lV hrx (show x.kind= .ofNat 1 from eqv bb) (by simp);have E:(x.exprs.map<|eJ s.aY k)[0]?=some (eJ s.aY k e0):=by rw[gM_,a2];rfl
  obtain⟨r,ap,hr⟩:=Ah hrx (show x.kind= .ofNat 1 from eqv bb) (by simp);have be:r<s.aY.length:=by omega
  refine al Z Z (QA 8 Z) Z<|al Z Z (QB Z aq.pop.aQ.g0 Z) Z<|P4 aq 3 [1,0] Z Z<|Qv (e:=2) (m:=1) hl7 E Z Z Z Z Z (fun hg f3 dm f4 dr=>?_);obtain rfl:=dr;refine al Z Z (QF aq dm Z Z) Z (al Z Z (eo (e:=2) (m:=1) Y Y Z (show _=some (V.int .i64 (.ofNat r)) from cI ap) B) Z (gD aq (.there (.cM (.there .here))) Z Z (aL Z Z Z aq.pop.aQ.pop.g0 (m:=1) Y Z (by rw[lM_];omega) Z (cells':=((s.aY).set r<|eJ s.aY k e0).map (gZ)) (fb (f:=gZ) (v:=(eJ s.aY k e0)) be (by first | omega | rfl))) Z (fun U aq=>?_)));refine⟨aV,?_⟩;refine ba<|aJ<|ad<|ai Z ?_;replace aq:=aq.pull (.there .here);replace aq:=aq.sub (dH (.cons _ (.cons_cons _ (.cons_cons _ (.cons_cons _ (.cons_cons _ (.refl _)))))));refine P3 aq 2 [7] Z Z<|cC aq (.cM .here) Z (QH Z Z Z aq.aQ.g0 (m:=1) Z Z (cells':=[_,_,_,_,_,_,_,_,_,_]) Z) Z (fun U aq=>?_);refine af<|aJ ?_;replace aq:=aq.weaken (KP.bX _ _);obtain⟨g1,g2,g3⟩:=oS hR hx aa hq ao he (show cj k c s=(({s with aY:=s.aY.set r (eJ s.aY k e0),at_:=s.at_+1}:TS),true) from by rw[gP hx,JI<|eqv bb,ap,lU E];rfl);refine aO ⟨j2-1,B,oF,({s with aY:=s.aY.set r (eJ s.aY k e0),at_:=s.at_+1}:TS),ev,Me,g1,has,Q,a0,(show s.events.length+_<=_ by omega),g2,g3,hO,aq⟩
 refine Pv 4 Z ?_;refine jv (rg 57 5) (fun t U=>∃(q:Bool),q=vG x.kind/\t.get 57=some (.bool q)/\J U (K.ic M) ((b5,.row [.int .i64 x.kind,.int .i64 x.pc,.int .i64 x.loc,.int .i64 x.order,.int .i64 x.to,a1] 79 false)::(Me++((b4,.row [ev,T,T,T,T,T,T,.int .i64 (.ofNat s.at_),.slice b3 0 c.aY.toNat (.known c.aY.toNat),.int .i64 (.ofNat s.asked)] 135 false)::(b3,.row (s.aY.map gZ) 2 false)::(b2,.row [.ax,T,T,T,T,T,T,T,.ax,T] 135 false)::(b1,.row [.int .i64 c.aY,cv] 33 false)::L)))) ?_ ?_
 ·refine Pt 4 Z<|Pv 2 Z<|aE Z (fun ab=>?_) (fun ab=>?_)
  ·refine aG ?_;exact⟨Z,oP Z<|oP Z<|oR _ _,_,(by unfold vG;simp only[ab,ct,cf]<;>rfl),Z,aq⟩
  refine Pt 2 Z<|ky Z (az Z Z Z) (fun bi=>?_) (fun bi=>?_)
  ·refine Pv 4 Z<|aG ?_;exact⟨Z,oP Z<|oP Z<|oP Z<|oP Z<|oR _ _,_,(by unfold vG;simp only[ab,bi,ct,cf]<;>rfl),Z,aq⟩
  refine OO 6 Z<|ky Z (az Z Z Z) (fun b0=>?_) (fun b0=>?_)
  ·refine Pv 4 Z<|aG ?_;exact⟨Z,oF,_,(by unfold vG;simp only[ab,bi,b0,ct,cf]<;>rfl),Z,aq⟩
  refine Pw 5 Z<|ky Z (az Z Z Z) (fun ci=>?_) (fun ci=>?_)
  ·refine PY 2 Z ?_;exact⟨Z,oF,_,(by unfold vG;simp only[ab,bi,b0,ci,ct,cf]<;>rfl),Z,aq⟩
  refine PY 2 Z ?_;exact⟨Z,oF,_,(by unfold vG;simp only[ab,bi,b0,ci,ct,cf]<;>rfl),Z,aq⟩
 clear aq;intro t U ar hI;obtain⟨hh,ds,dx,aq⟩:=hI;obtain⟨oo,rfl⟩:=ar.q1 dx Z;subst ds;refine aE Z (fun ab=>?_) (fun ab=>?_)
 ·refine Pt 2 Z ?_;have hk57:=Kh ab;refine P3 aq 6 [0,0,2,0,3,0] Z Z (O Z (Qy (places:=[(0,1),(1,1),(2,1),(3,1),(4,1)]) (zero:=[T,T,T,T,T]) (cs:=[_,_,_,_,_]) Z) Z<|kp aq Z (QE (cs:=[T,T,T,T,T])) (fun U b6 aq=>?_));refine bO aq Z (QH Z Z Z aq.g0 (m:=5) Z Z (cells':=[_,_,_,_,_]) Z) Z (fun U aq=>?_);refine Pv 2 Z ?_;refine jv (rg 69 7) (fun t U=>∃(z1:Int),z1=fI k s.aY x 0/\J U (K.ic M) ((b6,.row [.int .i64 x.kind,.int .i64 x.loc,.int .i64 x.order,.int .i64 z1,T] 85 false)::((b5,.row [.int .i64 x.kind,.int .i64 x.pc,.int .i64 x.loc,.int .i64 x.order,.int .i64 x.to,a1] 79 false)::(Me++((b4,.row [ev,T,T,T,T,T,T,.int .i64 (.ofNat s.at_),.slice b3 0 c.aY.toNat (.known c.aY.toNat),.int .i64 (.ofNat s.asked)] 135 false)::(b3,.row (s.aY.map gZ) 2 false)::(b2,.row [.ax,T,T,T,T,T,T,T,.ax,T] 135 false)::(b1,.row [.int .i64 c.aY,cv] 33 false)::L))))) ?_ ?_
  ·refine Pt 3 Z<|O Z (QD hl7 Z Z Z (e:=2) Z) Z<|Pv 3 Z<|aE Z (fun ck=>?_) (fun ck=>?_)
   ·refine ai Z<|vQ 1 Z ?_;obtain⟨hs,cc⟩:=cm (show 0<(x.exprs.map<|eJ s.aY k).length from bu (a:=0) ck);refine Qu (e:=2) (m:=1) hl7 cc Z Z Z Z (fun ht f5 d0 f6 d1=>?_);obtain rfl:=d1;refine O Z (QF aq d0 Z Z) Z<|O Z (QA 3 Z) Z<|bO aq Z (QH Z Z Z aq.g0 (m:=1) Z Z (cells':=[_,_,_,_,_]) Z) Z (fun U aq=>?_);refine af ?_;exact⟨Z,oF,_,(lU cc).symm,aq⟩
   refine aG ?_;exact⟨Z,oP Z<|oP Z<|oP Z<|oR _ _,_,(Fa<|bC (a:=0) ck).symm,aq⟩
  clear aq;intro t U ar hI;obtain⟨z1,d2,aq⟩:=hI;obtain⟨oo,rfl⟩:=ar.q0 Z;refine jv (rg 76 7) (fun t U=>∃(z2:Int),z2=fI k s.aY x 1/\J U (K.ic M) ((b6,.row [.int .i64 x.kind,.int .i64 x.loc,.int .i64 x.order,.int .i64 z1,.int .i64 z2] 85 false)::((b5,.row [.int .i64 x.kind,.int .i64 x.pc,.int .i64 x.loc,.int .i64 x.order,.int .i64 x.to,a1] 79 false)::(Me++((b4,.row [ev,T,T,T,T,T,T,.int .i64 (.ofNat s.at_),.slice b3 0 c.aY.toNat (.known c.aY.toNat),.int .i64 (.ofNat s.asked)] 135 false)::(b3,.row (s.aY.map gZ) 2 false)::(b2,.row [.ax,T,T,T,T,T,T,T,.ax,T] 135 false)::(b1,.row [.int .i64 c.aY,cv] 33 false)::L))))) ?_ ?_
  ·refine Pt 3 Z<|O Z (QD hl7 Z Z Z (e:=2) Z) Z<|Pv 3 Z<|aE Z (fun cl=>?_) (fun cl=>?_)
   ·refine ai Z<|vQ 1 Z ?_;obtain⟨hu,ce⟩:=cm (show 1<(x.exprs.map<|eJ s.aY k).length from bu (a:=1) cl);refine Qu (e:=2) (m:=1) hl7 ce Z Z Z Z (fun hw f7 d3 f8 d4=>?_);obtain rfl:=d4;refine O Z (QF aq d3 Z Z) Z<|O Z (QA 4 Z) Z<|bO aq Z (QH Z Z Z aq.g0 (m:=1) Z Z (cells':=[_,_,_,_,_]) Z) Z (fun U aq=>?_);refine af ?_;exact⟨Z,oF,_,(lU ce).symm,aq⟩
   refine aG ?_;exact⟨Z,oP Z<|oP Z<|oP Z<|oR _ _,_,(Fa<|bC (a:=1) cl).symm,aq⟩
  clear aq;intro t U ar hI;obtain⟨z2,d5,aq⟩:=hI;obtain⟨oo,rfl⟩:=ar.q0 Z;refine OU aq 4 [9] Z Z<|O Z (QB Z aq.pop.pop.aQ.g0 Z) Z<|vQ 1 Z<|O Z (QD hA7 Z Z Z (e:=2) Z) Z<|Pv 3 Z<|aE Z (fun b9=>?_) (fun b9=>?_)
  ·refine Pt 2 Z<|O Z (QC Z aq.g0 (n:=5) (vs:=[_,_,_,_,_]) Z) Z<|O Z (QA 2 Z) Z<|cC aq (.there (.there (.cM .here))) Z (QH Z Z Z aq.pop.pop.aQ.g0 (m:=5) Z Z (cells':=[_,_,_,_,_,_,_,_,_,_]) Z) Z (fun U aq=>?_);refine OO 4 Z<|O Z (QC Z aq.pop.pop.aQ.g0 (n:=10) (vs:=[_,_,_,_,_,_,_,_,_,_]) Z) Z ?_;refine cC aq (.there (.there (.cM (.there (.there .here))))) Z (QH Z Z Z aq.pop.pop.aQ.pop.pop.g0 (m:=10) Z (ah hO.leaf.2 Z) (cells':=[_,_,_,_,_,_,_,_,_,_]) Z) Z (fun U aq=>?_);refine Px 3 Z<|aw<|aF<|aw<|aF<|bz<|aF (?_);subst d2;subst d5;have C:gx k c A=({s with asks:=true}:TS):=hrun.symm.trans (wF he B (show cj k c s=(({s with asks:=true}:TS),false) from by rw[gP hx];exact CD hk57) (fun _=>gN_ (by have:=iJ_ (eqv b9);omega)));have hfinal:=(aq.sub (show List.Sublist (Me++L) _ from(.cons _ (.cons _<|dH (.cons _ (.cons _ (.cons _ (.cons _ (.refl _))))))))).keeps;exact eL Z Z aq.pop.pop.aQ.pop.pop.g0 (m:=10) Y Z ⟨_,_,0,(xZ k x s.aY),_,_,_,Z,KP.le_trans (KP.bX _ _)<|KP.bX _ _,(by rw[C];exact hO.iu),(by rw[C];exact(fun _=>⟨Z,by show _=lh k c {s with asks:=true};unfold lh;rw[show c.ins[({s with asks:=true}:TS).at_]?=some x from hx]⟩)),(by rw[C];exact(fun h=>by cases h)),Z,Z,Z,Z,Z,Z,hfinal⟩
  refine OV aq 6 [9] Z Z<|O Z (QB Z aq.pop.pop.aQ.g0 Z) Z ?_;have hz:s.asked≠A.length:=fun e=>by rw[e,fP] at b9;cases b9
  obtain⟨aI,cg⟩:=cm (show s.asked<A.length by omega);refine Qu (e:=2) (m:=1) hA7 cg Z Z Z Z (fun hB f9 d6 ga d7=>?_);obtain rfl:=d7;refine O Z (QF aq d6 Z Z) Z<|OX aq 6 [9] Z Z<|O Z (QB Z aq.pop.pop.aQ.g0 Z) Z<|O Z (az Z Z (show _=some (V.int .i64 (.ofNat (s.asked+1))) from cI (bg B))) Z<|O Z (QA 9 Z) Z<|cC aq (.there (.there (.cM .here))) Z (QH Z Z Z aq.pop.pop.aQ.g0 (m:=1) Z Z (cells':=[_,_,_,_,_,_,_,_,_,_]) Z) Z (fun U aq=>?_);refine OO 4 Z ?_;subst d2;subst d5;refine O Z (QC Z aq.g0 (n:=5) (vs:=[_,_,_,_,_]) Z) Z<|vQ 1 Z<|bf Z (Qz Z Z Z) (fun _=>Z) (Bu hG (xZ k x s.aY) _ aq) (fun U aq=>?_);refine PZ 3 Z<|kp aq Z (QE (cs:=[T,T,T,T,T])) (fun U b7 aq=>?_);refine bO aq Z (QH Z Z Z aq.g0 (m:=5) Z Z (cells':=[_,_,_,_,_]) Z) Z (fun U aq=>?_);refine OX aq 6 [0] Z Z<|O Z (QB Z aq.pop.pop.pop.aQ.g0 Z) Z<|O Z (QC Z aq.g0 (n:=5) (vs:=[_,_,_,_,_]) Z) Z<|gT aq Z (bY (e:=56) (m:=5) (z:=[T,T,T,T,T]) (cs:=[_,_,_,_,_]) Y Y Y Y<|bD Z Z Z Z bJ) (fun _=>Z) (fun U b8 aq=>?_);replace aq:=aq.pull (.there (.there (.there (.there .here))));replace aq:=aq.pull (.cM<|ep.here (X:=[_]));refine sk (R:=iU) (m:=5) (e:=56) hO aq (eU (m:=5) Z (show iU (bL (xZ k x s.aY) aI) _ from Z)) iU.leaf (by show _+1<=_;omega) Z Z Z Z Z Z Z (fun _=>Z) (fun U d8 d9 hO110 aq=>?_);refine O Z (QA 0 Z) Z<|cC aq (.cM (.there (.there (.there .here)))) Z (aL Z Z hO110.leaf.1 aq.aQ.pop.pop.pop.g0 (m:=1) Y Z (lb Z) (ah hO110.leaf.2 aC) (cells':=[_,_,_,_,_,_,_,_,_,_]) Z) Z (fun U aq=>?_);refine Pw 3 Z ?_;obtain⟨r,ap,hr⟩:=Ah hrx a7 (by rcases hk57 with h | h | h | h<;>(have h2:((kn:Nat):Int)=_:=a7.symm.trans h;omega));have be:r<s.aY.length:=by omega
  refine O Z (QA 8 Z) Z (O Z (QB Z aq.aQ.pop.pop.pop.g0 Z) Z (O Z (QA 1 Z) Z (O Z (QB Z aq.aQ.pop.pop.g0 Z) Z (vQ 1 Z (O Z (eo (e:=2) (m:=1) Y Y Z (show _=some (V.int .i64 (.ofNat r)) from cI ap) B) Z (cC aq (.cM (.there (.there (.there (.there .here))))) Z (aL Z Z Z aq.aQ.pop.pop.pop.pop.g0 (m:=1) Y Z (by rw[lM_];omega) Z (cells':=((s.aY).set r aI).map (gZ))<|fb (f:=gZ) (v:=aI) be (by first | omega | rfl)) Z (fun U aq=>?_)))))));refine af<|aJ<|ad<|ai Z ?_;replace aq:=aq.sub (dH (.cons _ (.cons _ (.cons _ (.cons_cons _ (.cons_cons _ (.cons_cons _ (.cons_cons _ (.refl _)))))))));refine P3 aq 2 [7] Z Z<|cC aq (.cM .here) Z (QH Z Z Z aq.aQ.g0 (m:=1) Z Z (cells':=[_,_,_,_,_,_,_,_,_,_]) Z) Z (fun U aq=>?_);refine af<|aJ ?_;replace aq:=aq.weaken (KP.bX _ _);have eT:cj k c s=({s with asks:=true},false):=by rw[gP hx];exact CD hk57
  obtain⟨g1,g2,g3⟩:=GF am hR aa has hq ao he eT Z cg;have e2:lh k c {s with asks:=true}=xZ k x s.aY:=by unfold lh;rw[show c.ins[({s with asks:=true}:TS).at_]?=some x from hx]
  have e3:FH c {s with asks:=true}=r:=by unfold FH;rw[show c.ins[({s with asks:=true}:TS).at_]?=some x from hx];show x.pc.toNat=r;rw[ap];rfl
  have e4:eA k c {s with asks:=true} aI=({s with events:=s.events++[bL (xZ k x s.aY) aI],aY:=s.aY.set r aI,asked:=s.asked+1,at_:=s.at_+1,asks:=false}:TS):=by unfold eA;rw[e2,e3]
  rw[e4] at g1 g2 g3;refine aO ⟨j2-1,B,oF,({s with events:=s.events++[bL (xZ k x s.aY) aI],aY:=s.aY.set r aI,asked:=s.asked+1,at_:=s.at_+1,asks:=false}:TS),d8,d9,g1,Z,Q,(show s.asked+1<=A.length by omega),(show(s.events++[_]).length+_<=_ by rw[lA_];show _+1+_<=_;omega),g2,g3,hO110,aq⟩
 refine Pt 2 Z<|ky Z (az Z Z Z) (fun a4=>?_) (fun a4=>?_)
 ·refine Pv 4 Z<|aS (l:=zp [0,1,2,3,4,5,6,7,8,9,10,11,12,13]) Y Y ?_;obtain⟨e0,a2,_⟩:=lV hrx (show x.kind= .ofNat 3 from eqv a4) (by simp);have E:(x.exprs.map<|eJ s.aY k)[0]?=some (eJ s.aY k e0):=by rw[gM_,a2];rfl
  refine al Z Z (QA 0 Z) Z<|al Z Z (QB Z aq.pop.aQ.g0 Z) Z<|P4 aq 5 [2,0,3,0] Z Z<|Qv (e:=2) (m:=1) hl7 E Z Z Z Z Z (fun gb e5 cn e6 co=>?_);obtain rfl:=co;refine al Z Z (QF aq cn Z Z) Z (al Z Z (Qy (places:=[(0,1),(1,1),(2,1),(3,1),(4,1)]) (zero:=[T,T,T,T,T]) (cs:=[_,_,_,_,_]) Z) Z<|j1 aq Z Z (bY (e:=56) (m:=5) (z:=[T,T,T,T,T]) (cs:=[_,_,_,_,_]) Y Y Y Y<|bD Z Z Z Z bJ) (fun _=>Z) (fun U b6 aq=>?_));replace aq:=aq.pull (.there (.there .here));replace aq:=aq.pull (.cM<|ep.here (X:=[_]));refine mN (R:=iU) (m:=5) (e:=56) hO aq (eU (m:=5) Z (show iU ⟨2,x.loc,x.order,0,eJ s.aY k e0⟩ _ from Z)) iU.leaf (by show _+1<=_;omega) Z Z Z Z Z Z Z Z (fun _=>Z) (fun U eb ee hO131 aq=>?_);refine⟨aV,?_⟩;refine al Z Z (QA 0 Z) Z<|gD aq (.cM (.there .here)) Z Z (aL Z Z hO131.leaf.1 aq.aQ.pop.g0 (m:=1) Y Z (lb Z) (ah hO131.leaf.2 aC) (cells':=[_,_,_,_,_,_,_,_,_,_]) Z) Z (fun U aq=>?_);refine⟨aV,?_⟩;refine ba<|aJ<|ad<|ai Z ?_;replace aq:=aq.sub (dH (.cons _ (.cons_cons _ (.cons_cons _ (.cons_cons _ (.cons_cons _ (.refl _)))))));refine P3 aq 2 [7] Z Z<|cC aq (.cM .here) Z (QH Z Z Z aq.aQ.g0 (m:=1) Z Z (cells':=[_,_,_,_,_,_,_,_,_,_]) Z) Z (fun U aq=>?_);refine af<|aJ ?_;replace aq:=aq.weaken (KP.bX _ _);obtain⟨g1,g2,g3⟩:=oS hR hx aa hq ao he (show cj k c s=(({s with events:=s.events++[⟨2,x.loc,x.order,0,eJ s.aY k e0⟩],at_:=s.at_+1}:TS),true) from by rw[gP hx,EA<|eqv a4,lU E]);refine aO ⟨j2-1,B,oF,({s with events:=s.events++[⟨2,x.loc,x.order,0,eJ s.aY k e0⟩],at_:=s.at_+1}:TS),eb,ee,g1,has,Q,a0,(show(s.events++[_]).length+_<=_ by rw[lA_];show _+1+_<=_;omega),g2,g3,hO131,aq⟩
 refine OO 6 Z<|ky Z (az Z Z Z) (fun bl=>?_) (fun bl=>?_)
 ·refine PE aq 6 [0] Z Z (O Z (QB Z aq.pop.aQ.g0 Z) Z (P3 aq 2 [3,0] Z Z (O Z (Qy (places:=[(0,1),(1,1),(2,1),(3,1),(4,1)]) (zero:=[T,T,T,T,T]) (cs:=[_,_,_,_,_]) Z) Z<|gT aq Z (bY (e:=56) (m:=5) (z:=[T,T,T,T,T]) (cs:=[_,_,_,_,_]) Y Y Y Y<|bD Z Z Z Z bJ) (fun _=>Z) (fun U b6 aq=>?_))));replace aq:=aq.pull (.there (.there .here));replace aq:=aq.pull (.cM<|ep.here (X:=[_]));refine sk (R:=iU) (m:=5) (e:=56) hO aq (eU (m:=5) Z (show iU ⟨4,0,x.order,0,0⟩ _ from Z)) iU.leaf (by show _+1<=_;omega) Z Z Z Z Z Z Z (fun _=>Z) (fun U eg el hO141 aq=>?_);refine O Z (QA 0 Z) Z<|cC aq (.cM (.there .here)) Z (aL Z Z hO141.leaf.1 aq.aQ.pop.g0 (m:=1) Y Z (lb Z) (ah hO141.leaf.2 aC) (cells':=[_,_,_,_,_,_,_,_,_,_]) Z) Z (fun U aq=>?_);refine af<|aJ<|ad<|ai Z ?_;replace aq:=aq.sub (dH (.cons _ (.cons_cons _ (.cons_cons _ (.cons_cons _ (.cons_cons _ (.refl _)))))));refine P3 aq 2 [7] Z Z<|cC aq (.cM .here) Z (QH Z Z Z aq.aQ.g0 (m:=1) Z Z (cells':=[_,_,_,_,_,_,_,_,_,_]) Z) Z (fun U aq=>?_);refine af<|aJ ?_;replace aq:=aq.weaken (KP.bX _ _);obtain⟨g1,g2,g3⟩:=oS hR hx aa hq ao he (show cj k c s=(({s with events:=s.events++[⟨4,0,x.order,0,0⟩],at_:=s.at_+1}:TS),true) from by rw[gP hx,Ey<|eqv bl]);refine aO ⟨j2-1,B,oF,({s with events:=s.events++[⟨4,0,x.order,0,0⟩],at_:=s.at_+1}:TS),eg,el,g1,has,Q,a0,(show(s.events++[_]).length+_<=_ by rw[lA_];show _+1+_<=_;omega),g2,g3,hO141,aq⟩
 refine Pv 4 Z ?_;refine jv [143,144,145] (fun t U=>∃(q:Bool),q=tg 8 9 x.kind/\t.get 143=some (.bool q)/\J U (K.ic M) ((b5,.row [.int .i64 x.kind,.int .i64 x.pc,.int .i64 x.loc,.int .i64 x.order,.int .i64 x.to,a1] 79 false)::(Me++((b4,.row [ev,T,T,T,T,T,T,.int .i64 (.ofNat s.at_),.slice b3 0 c.aY.toNat (.known c.aY.toNat),.int .i64 (.ofNat s.asked)] 135 false)::(b3,.row (s.aY.map gZ) 2 false)::(b2,.row [.ax,T,T,T,T,T,T,T,.ax,T] 135 false)::(b1,.row [.int .i64 c.aY,cv] 33 false)::L)))) ?_ ?_
 ·refine Pt 4 Z<|Pv 2 Z<|aE Z (fun F=>?_) (fun F=>?_)
  ·refine aG ?_;exact⟨Z,oP Z<|oP Z<|oR _ _,_,(by unfold tg;simp only[F,ct,cf]<;>rfl),Z,aq⟩
  refine ai Z<|ky Z (az Z Z Z) (fun bm=>?_) (fun bm=>?_)
  ·refine PY 2 Z ?_;exact⟨Z,oP Z<|oP Z<|oP Z<|oP Z<|oR _ _,_,(by unfold tg;simp only[F,bm,ct,cf]<;>rfl),Z,aq⟩
  refine PY 2 Z ?_;exact⟨Z,oP Z<|oP Z<|oP Z<|oP Z<|oR _ _,_,(by unfold tg;simp only[F,bm,ct,cf]<;>rfl),Z,aq⟩
 clear aq;intro t U ar hI;obtain⟨gc,cp,cx,aq⟩:=hI;obtain⟨oo,rfl⟩:=ar.q1 cx Z;subst cp;refine aE Z (fun F=>?_) (fun F=>?_)
 ·refine Pt 2 Z ?_;have hk143:=Ay F;obtain⟨e0,a2,_⟩:=lV hrx a7 (by rcases hk143 with h | h<;>(have h2:((kn:Nat):Int)=_:=a7.symm.trans h;omega));have E:(x.exprs.map<|eJ s.aY k)[0]?=some (eJ s.aY k e0):=by rw[gM_,a2];rfl
  refine vQ 1 Z<|Qu (e:=2) (m:=1) hl7 E Z Z Z Z (fun gd e7 c0 e8 c1=>?_);obtain rfl:=c1;refine O Z (QF aq c0 Z Z) Z<|Pv 3 Z<|aE Z (fun a5=>?_) (fun a5=>?_)
  ·refine PA aq 3 [1] Z Z<|cC aq (.there (.cM .here)) Z (QH Z Z Z aq.pop.aQ.g0 (m:=1) Z Z (cells':=[_,_,_,_,_,_,_,_,_,_]) Z) Z (fun U aq=>?_);refine OW aq 10 [0,0] Z Z<|aE Z (fun bo=>?_) (fun bo=>?_)
   ·refine P2 aq 2 [1] Z Z<|cC aq (.there (.cM .here)) Z (QH Z Z Z aq.pop.aQ.g0 (m:=1) Z Z (cells':=[_,_,_,_,_,_,_,_,_,_]) Z) Z (fun U aq=>?_);refine OO 4 Z<|O Z (QC Z aq.pop.aQ.g0 (n:=10) (vs:=[_,_,_,_,_,_,_,_,_,_]) Z) Z<|cC aq (.there (.cM (.there (.there .here)))) Z (QH Z Z Z aq.pop.aQ.pop.pop.g0 (m:=10) Z (ah hO.leaf.2 Z) (cells':=[_,_,_,_,_,_,_,_,_,_]) Z) Z (fun U aq=>?_);refine Px 3 Z<|aF<|aw<|aF<|bz<|aF (?_);have C:gx k c A=({s with fin:=3}:TS):=hrun.symm.trans (wF he B (show cj k c s=(({s with fin:=3}:TS),false) from by rw[gP hx,Ho (eqv bo) (by rw[lU E];exact a5)]) (fun h=>by rw[show({s with fin:=3}:TS).asks=s.asks from Z,has] at h;cases h));have hfinal:=(aq.sub (show List.Sublist (Me++L) _ from(.cons _<|dH (.cons _ (.cons _ (.cons _ (.cons _ (.refl _)))))))).keeps;exact eL Z Z aq.pop.aQ.pop.pop.g0 (m:=10) Y Z ⟨_,_,3,gw,_,_,_,Z,KP.le_trans (KP.bX _ _)<|KP.bX _ _,(by rw[C];exact hO.iu),(by rw[C];exact(fun h=>by rw[show({s with fin:=3}:TS).asks=s.asks from Z,has] at h;cases h)),(by rw[C];exact(fun _=>⟨Z,Z⟩)),Z,Z,Z,Z,Z,Z,hfinal⟩
   refine OK 4 Z<|O Z (QC Z aq.pop.aQ.g0 (n:=10) (vs:=[_,_,_,_,_,_,_,_,_,_]) Z) Z<|cC aq (.there (.cM (.there (.there .here)))) Z (QH Z Z Z aq.pop.aQ.pop.pop.g0 (m:=10) Z (ah hO.leaf.2 Z) (cells':=[_,_,_,_,_,_,_,_,_,_]) Z) Z (fun U aq=>?_);refine Px 3 Z<|aF<|aw<|aF<|bz<|aF (?_);have C:gx k c A=({s with fin:=2}:TS):=hrun.symm.trans (wF he B (show cj k c s=(({s with fin:=2}:TS),false) from by rw[gP hx,step_block ((Ay F).resolve_right<|E8.1 bo) (by rw[lU E];exact a5)]) (fun h=>by rw[show({s with fin:=2}:TS).asks=s.asks from Z,has] at h;cases h));have hfinal:=(aq.sub (show List.Sublist (Me++L) _ from(.cons _<|dH (.cons _ (.cons _ (.cons _ (.cons _ (.refl _)))))))).keeps;exact eL Z Z aq.pop.aQ.pop.pop.g0 (m:=10) Y Z ⟨_,_,2,gw,_,_,_,Z,KP.le_trans (KP.bX _ _)<|KP.bX _ _,(by rw[C];exact hO.iu),(by rw[C];exact(fun h=>by rw[show({s with fin:=2}:TS).asks=s.asks from Z,has] at h;cases h)),(by rw[C];exact(fun _=>⟨Z,Z⟩)),Z,Z,Z,Z,Z,Z,hfinal⟩
  refine aG<|aJ<|ad<|ai Z ?_;replace aq:=aq.pull (.there .here);replace aq:=aq.sub (dH (.cons _ (.cons_cons _ (.cons_cons _ (.cons_cons _ (.cons_cons _ (.refl _)))))));refine P3 aq 2 [7] Z Z<|cC aq (.cM .here) Z (QH Z Z Z aq.aQ.g0 (m:=1) Z Z (cells':=[_,_,_,_,_,_,_,_,_,_]) Z) Z (fun U aq=>?_);refine af<|aJ ?_;replace aq:=aq.weaken (KP.bX _ _);obtain⟨g1,g2,g3⟩:=oS hR hx aa hq ao he (show cj k c s=(({s with at_:=s.at_+1}:TS),true) from by rw[gP hx,Ez hk143 (by rw[lU E];exact a5)]);refine aO ⟨j2-1,B,oF,({s with at_:=s.at_+1}:TS),ev,Me,g1,has,Q,a0,(show s.events.length+_<=_ by omega),g2,g3,hO,aq⟩
 refine Pt 2 Z<|ky Z (az Z Z Z) (fun a6=>?_) (fun a6=>?_)
 ·refine Pw 5 Z ?_;obtain⟨to,bs,_⟩:=FV hrx (show x.kind= .ofNat 10 from eqv a6) (by simp);refine P3 aq 2 [4,0] Z Z<|O Z (aj (show _=some (V.int .i64 (.ofNat to)) from cI bs)) Z<|af<|aJ<|ad<|ai Z ?_;replace aq:=aq.pull (.there .here);replace aq:=aq.sub (dH (.cons _ (.cons_cons _ (.cons_cons _ (.cons_cons _ (.cons_cons _ (.refl _)))))));refine P3 aq 2 [7] Z Z<|cC aq (.cM .here) Z (QH Z Z Z aq.aQ.g0 (m:=1) Z Z (cells':=[_,_,_,_,_,_,_,_,_,_]) Z) Z (fun U aq=>?_);refine af<|aJ ?_;replace aq:=aq.weaken (KP.bX _ _);obtain⟨g1,g2,g3⟩:=oS hR hx aa hq ao he (show cj k c s=(({s with at_:=to}:TS),true) from by rw[gP hx,Hp<|eqv a6,bs];rfl);refine aO ⟨j2-1,B,oF,({s with at_:=to}:TS),ev,Me,g1,has,Q,a0,(show s.events.length+_<=_ by omega),g2,g3,hO,aq⟩
 refine OO 6 Z<|ky Z (az Z Z Z) (fun ac=>?_) (fun ac=>?_)
 ·refine OO 6 Z ?_;obtain⟨e0,a2,_⟩:=lV hrx (show x.kind= .ofNat 11 from eqv ac) (by simp);have E:(x.exprs.map<|eJ s.aY k)[0]?=some (eJ s.aY k e0):=by rw[gM_,a2];rfl
  obtain⟨to,bs,_⟩:=FV hrx (show x.kind= .ofNat 11 from eqv ac) (by simp);refine vQ 1 Z<|Qu (e:=2) (m:=1) hl7 E Z Z Z Z (fun ge e9 c2 fd c3=>?_);obtain rfl:=c3;refine O Z (QF aq c2 Z Z) Z<|Pv 3 Z<|aE Z (fun bt=>?_) (fun bt=>?_)
  ·refine P2 aq 3 [4,0] Z Z<|O Z (aj (show _=some (V.int .i64 (.ofNat to)) from cI bs)) Z<|af<|aJ<|ad<|ai Z ?_;replace aq:=aq.pull (.there .here);replace aq:=aq.sub (dH (.cons _ (.cons_cons _ (.cons_cons _ (.cons_cons _ (.cons_cons _ (.refl _)))))));refine P3 aq 2 [7] Z Z<|cC aq (.cM .here) Z (QH Z Z Z aq.aQ.g0 (m:=1) Z Z (cells':=[_,_,_,_,_,_,_,_,_,_]) Z) Z (fun U aq=>?_);refine af<|aJ ?_;replace aq:=aq.weaken (KP.bX _ _);obtain⟨g1,g2,g3⟩:=oS hR hx aa hq ao he (show cj k c s=(({s with at_:=to}:TS),true) from by rw[gP hx,JD (eqv ac) (by rw[lU E];exact bt),bs];rfl);refine aO ⟨j2-1,B,oF,({s with at_:=to}:TS),ev,Me,g1,has,Q,a0,(show s.events.length+_<=_ by omega),g2,g3,hO,aq⟩
  refine aG<|aJ<|ad<|ai Z ?_;replace aq:=aq.pull (.there .here);replace aq:=aq.sub (dH (.cons _ (.cons_cons _ (.cons_cons _ (.cons_cons _ (.cons_cons _ (.refl _)))))));refine P3 aq 2 [7] Z Z<|cC aq (.cM .here) Z (QH Z Z Z aq.aQ.g0 (m:=1) Z Z (cells':=[_,_,_,_,_,_,_,_,_,_]) Z) Z (fun U aq=>?_);refine af<|aJ ?_;replace aq:=aq.weaken (KP.bX _ _);obtain⟨g1,g2,g3⟩:=oS hR hx aa hq ao he (show cj k c s=(({s with at_:=s.at_+1}:TS),true) from by rw[gP hx,JE (eqv ac) (by rw[lU E];exact bt)]);refine aO ⟨j2-1,B,oF,({s with at_:=s.at_+1}:TS),ev,Me,g1,has,Q,a0,(show s.events.length+_<=_ by omega),g2,g3,hO,aq⟩
 refine Pv 4 Z ?_;refine jv [168,169,170] (fun t U=>∃(q:Bool),q=tg 12 13 x.kind/\t.get 168=some (.bool q)/\J U (K.ic M) ((b5,.row [.int .i64 x.kind,.int .i64 x.pc,.int .i64 x.loc,.int .i64 x.order,.int .i64 x.to,a1] 79 false)::(Me++((b4,.row [ev,T,T,T,T,T,T,.int .i64 (.ofNat s.at_),.slice b3 0 c.aY.toNat (.known c.aY.toNat),.int .i64 (.ofNat s.asked)] 135 false)::(b3,.row (s.aY.map gZ) 2 false)::(b2,.row [.ax,T,T,T,T,T,T,T,.ax,T] 135 false)::(b1,.row [.int .i64 c.aY,cv] 33 false)::L)))) ?_ ?_
 ·refine Pt 4 Z<|Pv 2 Z<|aE Z (fun W=>?_) (fun W=>?_)
  ·refine aG ?_;exact⟨Z,oP Z<|oP Z<|oR _ _,_,(by unfold tg;simp only[W,ct,cf]<;>rfl),Z,aq⟩
  refine ai Z<|ky Z (az Z Z Z) (fun bv=>?_) (fun bv=>?_)
  ·refine PY 2 Z ?_;exact⟨Z,oP Z<|oP Z<|oP Z<|oP Z<|oR _ _,_,(by unfold tg;simp only[W,bv,ct,cf]<;>rfl),Z,aq⟩
  refine PY 2 Z ?_;exact⟨Z,oP Z<|oP Z<|oP Z<|oP Z<|oR _ _,_,(by unfold tg;simp only[W,bv,ct,cf]<;>rfl),Z,aq⟩
 clear aq;intro t U ar hI;obtain⟨gl,c4,c5,aq⟩:=hI;obtain⟨oo,rfl⟩:=ar.q1 c5 Z;subst c4;refine aE Z (fun W=>?_) (fun W=>?_)
 ·refine PA aq 3 [1] Z Z<|cC aq (.there (.cM .here)) Z (QH Z Z Z aq.pop.aQ.g0 (m:=1) Z Z (cells':=[_,_,_,_,_,_,_,_,_,_]) Z) Z (fun U aq=>?_);refine OW aq 10 [0,0] Z Z<|aE Z (fun bw=>?_) (fun bw=>?_)
  ·refine P2 aq 2 [1] Z Z<|cC aq (.there (.cM .here)) Z (QH Z Z Z aq.pop.aQ.g0 (m:=1) Z Z (cells':=[_,_,_,_,_,_,_,_,_,_]) Z) Z (fun U aq=>?_);refine OO 4 Z<|O Z (QC Z aq.pop.aQ.g0 (n:=10) (vs:=[_,_,_,_,_,_,_,_,_,_]) Z) Z<|cC aq (.there (.cM (.there (.there .here)))) Z (QH Z Z Z aq.pop.aQ.pop.pop.g0 (m:=10) Z (ah hO.leaf.2 Z) (cells':=[_,_,_,_,_,_,_,_,_,_]) Z) Z (fun U aq=>?_);refine Px 3 Z<|aF<|aw<|aF<|bz<|aF (?_);have C:gx k c A=({s with fin:=4}:TS):=hrun.symm.trans (wF he B (show cj k c s=(({s with fin:=4}:TS),false) from by rw[gP hx,Ew<|eqv bw]) (fun h=>by rw[show({s with fin:=4}:TS).asks=s.asks from Z,has] at h;cases h));have hfinal:=(aq.sub (show List.Sublist (Me++L) _ from(.cons _<|dH (.cons _ (.cons _ (.cons _ (.cons _ (.refl _)))))))).keeps;exact eL Z Z aq.pop.aQ.pop.pop.g0 (m:=10) Y Z ⟨_,_,4,gw,_,_,_,Z,KP.le_trans (KP.bX _ _)<|KP.bX _ _,(by rw[C];exact hO.iu),(by rw[C];exact(fun h=>by rw[show({s with fin:=4}:TS).asks=s.asks from Z,has] at h;cases h)),(by rw[C];exact(fun _=>⟨Z,Z⟩)),Z,Z,Z,Z,Z,Z,hfinal⟩
  refine OK 4 Z<|O Z (QC Z aq.pop.aQ.g0 (n:=10) (vs:=[_,_,_,_,_,_,_,_,_,_]) Z) Z<|cC aq (.there (.cM (.there (.there .here)))) Z (QH Z Z Z aq.pop.aQ.pop.pop.g0 (m:=10) Z (ah hO.leaf.2 Z) (cells':=[_,_,_,_,_,_,_,_,_,_]) Z) Z (fun U aq=>?_);refine Px 3 Z<|aF<|aw<|aF<|bz<|aF (?_);have C:gx k c A=({s with fin:=1}:TS):=hrun.symm.trans (wF he B (show cj k c s=(({s with fin:=1}:TS),false) from by rw[gP hx,step_done ((Ay W).resolve_left<|E8.1 bw)]) (fun h=>by rw[show({s with fin:=1}:TS).asks=s.asks from Z,has] at h;cases h));have hfinal:=(aq.sub (show List.Sublist (Me++L) _ from(.cons _<|dH (.cons _ (.cons _ (.cons _ (.cons _ (.refl _)))))))).keeps;exact eL Z Z aq.pop.aQ.pop.pop.g0 (m:=10) Y Z ⟨_,_,1,gw,_,_,_,Z,KP.le_trans (KP.bX _ _)<|KP.bX _ _,(by rw[C];exact hO.iu),(by rw[C];exact(fun h=>by rw[show({s with fin:=1}:TS).asks=s.asks from Z,has] at h;cases h)),(by rw[C];exact(fun _=>⟨Z,Z⟩)),Z,Z,Z,Z,Z,Z,hfinal⟩
 exact(Gm a7 en c8 bb ab a4 bl F a6 ac W).elim
structure AT (v:V):Prop where
 leaf:cS v=some [v]/\iB v=true
theorem AT.dX {v:V} (h:AT v) (hb:∀a:V,iB a=true->True):True:=trivial
structure NV (k:Nat) (c:XC) (R:TS) (K1:KP) (ev:V) (fn:Int) (a:rj):Prop where
 ev:bR K1 5 iU R.events ev
 ask:R.asks=true->fn=0/\a=lh k c R
 fin:R.asks=false->fn=R.fin/\a=gw
def Ke (k:Nat) (c:XC) (A:List Int) (K:KP) (L:Own) (v:V) (U':D):Prop:=∃(K1:KP) (ev:V) (fn:Int) (a:rj) (w7 w8 w9:V),v= .tuple [.agg [ev,.int .i64 fn,.int .i64 a.kind,.int .i64 a.loc,.int .i64 a.order,.int .i64 a.a,.int .i64 a.b,w7,w8,w9],.int .i64<|fE k c]/\KP.le K K1/\(∃le:List db,bR K1 5 iU le ev)/\(fE k c=0->NV k c (gx k c A) K1 ev fn a)/\AT w7/\AT w8/\AT w9/\J U' K1 L
theorem vW {k:Nat} {c:XC} (h:dq k c≠0):fE k c=dq k c:=by
 have h1:aX (I (dq k c) 0)=true:=by unfold aX;rw[E8.2 h];rfl
 have h2:jn k c=false:=by unfold jn;rw[h1];rfl
 unfold fE;rw[h2,h1];rfl
theorem vX {k:Nat} {c:XC} (h:dq k c=0) (hf:jn k c=false):fE k c=2:=by
 unfold fE;rw[hf,h];rfl
theorem Dm {k:Nat} {c:XC} (hf:jn k c=true):fE k c=0:=by
 unfold fE;rw[hf];rfl
theorem N0 {G:Cx} (W:Plain G) {K:KP} {k:Nat} {c:XC} {cv:V} (hi:bR K 6 (iI K k) c.ins cv) (C:mn k c) (hS:um k c) {A:List Int} {va:V} (hA:bR K 1 dy A va) (X:A.length<=100000) {U:D} {L:Own} (aq:J U K L):
  bk Tryz.prog G 85 [.agg [.int .i64 c.aY,cv],va] U (Ke k c A K L):=by
 refine PS W Tryz.func85 Z<|Pt 2 Z<|kp aq Z (cz Z Z) (fun U b1 aq=>?_);refine kp aq Z (QE (cs:=[.ax,T,T,T,T,T,T,T,.ax,T])) (fun U b2 aq=>?_);refine OO 5 Z<|O Z (QC Z aq.g1 (n:=2) (vs:=[_,_]) Z) Z<|bf Z (Qz Z Z Z) (fun _=>Z) (v8 W hi C hS aq) (fun U aq=>?_);refine ON 10 Z<|aE Z (fun u=>?_) (fun u=>?_)
 ·refine Pt 2 Z (O Z (Qy (places:=[(0,1),(1,1),(2,5),(7,1),(8,1),(9,1)]) (zero:=[.ax,T,T,T,T,T,T,T,.ax,T]) (cs:=[_,_,_,_,_,_,_,_,_,_]) Z) Z<|vQ 1 Z<|bO aq Z (QH Z Z Z aq.g0 (m:=10) Z Z (cells':=[_,_,_,_,_,_,_,_,_,_]) Z) Z (fun U aq=>?_));refine OQ 5 Z ?_;exact br Z Z aq.g0 (m:=10) Y Z Z ⟨K,.ax,0,gw,T,.ax,T,by rw[show fE k c=_ from by rw[vW (show dq k c≠0 from by rw[<-gU C];exact fun e=>by rw[e,fP] at u;cases u),<-gU C]];rfl,fun _ _ h=>h,⟨[],.inl ⟨Z,Z⟩⟩,(fun h=>absurd h (by rw[vW (show dq k c≠0 from by rw[<-gU C];exact fun e=>by rw[e,fP] at u;cases u),<-gU C];exact fun e=>by rw[e,fP] at u;cases u)),⟨Z,Z⟩,⟨Z,Z⟩,⟨Z,Z⟩,aq.pop.pop⟩
 refine Ol 5 Z<|O Z (QC Z aq.g1 (n:=2) (vs:=[_,_]) Z) Z ?_;have F:dq k c=0:=by rw[<-gU C];exact eqv<|bj u
 refine bf Z (Qz Z Z Z) (fun _=>Z) (MB W hi C hS aq) (fun U aq=>?_);refine O Z (cV Z) Z<|Pv 2 Z<|aE Z (fun z=>?_) (fun z=>?_)
 ·refine Pt 2 Z (O Z (Qy (places:=[(0,1),(1,1),(2,5),(7,1),(8,1),(9,1)]) (zero:=[.ax,T,T,T,T,T,T,T,.ax,T]) (cs:=[_,_,_,_,_,_,_,_,_,_]) Z) Z<|bO aq Z (QH Z Z Z aq.g0 (m:=10) Z Z (cells':=[_,_,_,_,_,_,_,_,_,_]) Z) Z (fun U aq=>?_));refine OQ 5 Z ?_;exact br Z Z aq.g0 (m:=10) Y Z Z ⟨K,.ax,0,gw,T,.ax,T,by rw[show fE k c=_ from vX F (bT z)];rfl,fun _ _ h=>h,⟨[],.inl ⟨Z,Z⟩⟩,(fun h=>absurd h (by rw[vX F<|bT z];decide)),⟨Z,Z⟩,⟨Z,Z⟩,⟨Z,Z⟩,aq.pop.pop⟩
 refine OK 4 Z<|O Z (QC Z aq.g1 (n:=2) (vs:=[_,_]) Z) Z<|vQ 1 Z ?_;have M:jn k c=true:=bj z;obtain⟨aa,od,ho,hR⟩:=qL M;refine cH Z (Qz Z Z Z) (fun _=>Z) (Pd W hi aa ho hR hA X aq) ?_;rintro _ U ⟨K1,ev,fn,a,w7,w8,w9,rfl,hle,E,Q,R,c8,l7,l8,l9,c7,c9,aq⟩;have o7:AT w7:=⟨c7,l7⟩;have o8:AT w8:=⟨c8,l8⟩;have o9:AT w9:=⟨c9,l9⟩;refine bO aq Z (QH Z Z Z aq.g0 (m:=10) Z (ah E.leaf.2<|ah Z<|ah Z<|ah Z<|ah Z<|ah Z<|ah Z<|ah o7.leaf.2<|ah o8.leaf.2<|ah o9.leaf.2 aC) (cells':=[_,_,_,_,_,_,_,_,_,_]) Z) Z (fun U aq=>?_);refine Px 4 Z ?_;exact br Z Z aq.g0 (m:=10) Y Z Z ⟨K1,ev,fn,a,w7,w8,w9,by rw[Dm M],hle,⟨_,E⟩,fun _=>⟨E,Q,R⟩,o7,o8,o9,aq.pop.pop⟩
theorem HW {G:Cx} (hG:Plain G) {K:KP} {k:Nat} {c:XC} {cv:V} (hi:bR K 6 (iI K k) c.ins cv) (hF:mn k c) (hS:um k c) {l:List db} {lv:V} (hl:bR K 5 iU l lv) (ac:l.length<=100000) {U:D} {L:Own} (aq:J U K L):
  bk Tryz.prog G 48 [.agg [.int .i64 c.aY,cv],lv] U fun v U'=>v= .tuple [.agg<|yY (bI k c l).1,.int .i64 (bI k c l).2]/\J U' K L:=by
 refine PS hG Tryz.func48 Z<|Pt 2 Z<|kp aq Z (cz Z Z) (fun U b1 aq=>?_);refine kp aq Z (QE (cs:=[T,T,T,T,T,T,T,T,T,T,T])) (fun U b2 aq=>?_);refine ON 4 Z (aS (l:=[(0,[]),(1,[]),(7,[]),(2,[0,7]),(3,[7]),(4,[]),(5,[]),(6,[]),(8,[]),(9,[])]) Y Y<|al Z Z (QC Z aq.g1 (n:=2) (vs:=[_,_]) Z) Z<|wQ 1 Z<|pB aq Z Z (QE (cs:=[.ax,T,T,T,T,T,T,T,.ax,T])) (fun _=>Z) (fun U b3 aq=>?_));refine jg Z Z (Qz Z Z Z) (fun _=>Z) (Gj hG hl ac aq) ?_;rintro aI U ⟨M,hM,aq⟩;replace aq:=aq.keeps;have hA:=hM.iu (K:=K);have hi2:=oJ (KP.bX K M) hi;refine⟨(bB (bN Z Z Z Z Z (QC Z (aq.get 2 Z) (n:=2) (vs:=[_,_]) Z)<|gH<|bS (fL _ _)<|bS hi.fD fx)<|bB (iq Z Z Z Z Z (cs:=[.ax,T,T,T,T,T,T,T,.ax,T]) (e:=135) Y aq.g0 Y) aV),?_⟩;refine jg Z Z (Qz Z Z Z) (fun _=>Z) (N0 hG hi2 hF hS hA (by have:=mj l;omega) aq) ?_;rintro _ U ⟨K1,ev,fn,a,w7,w8,w9,rfl,R,⟨le,am⟩,W,o7,o8,o9,aq⟩;have hle:=KP.le_trans (KP.bX K M) R;have hl1:=hl.mono hle fun _ _ h=>h
 refine⟨(bB (iq Z Z Z Z Z (cs:=[.ax,T,T,T,T,T,T,T,.ax,T]) (e:=135) Y aq.g0 Y) aV),?_⟩;refine P1 3 Z<|kb aq Z Z (QH Z Z Z aq.g0 (m:=10) Z (ah am.leaf.2<|ah Z<|ah Z<|ah Z<|ah Z<|ah Z<|ah Z<|ah o7.leaf.2<|ah o8.leaf.2<|ah o9.leaf.2 aC) (cells':=[_,_,_,_,_,_,_,_,_,_]) Z) Z (fun U aq=>?_);refine⟨aV,?_⟩;refine OS 10 Z<|aE Z (fun Q=>?_) (fun Q=>?_)
 ·refine Pt 2 Z (O Z (Qy (places:=[(0,5),(5,5),(10,1)]) (zero:=[T,T,T,T,T,T,T,T,T,T,T]) (cs:=[_,_,_,_,_,_,_,_,_,_,_]) Z) Z<|vQ 1 Z<|eh aq Z (QH Z Z Z aq.g1 (m:=11) Z Z (cells':=[_,_,_,_,_,_,_,_,_,_,_]) Z) Z (fun U aq=>?_));refine OQ 5 Z ?_;exact br Z Z aq.g1 (m:=11) Y Z Z ⟨by rw[show bI k c l=(tV,fE k c) from by unfold bI;rw[show aX (I (fE k c) 0)=true from Q];rfl];rfl,(aq.pop.pop.pop).weaken hle⟩
 refine Ot aq 8 [0,0] Z Z ?_;have X:fE k c=0:=eqv (bj Q);obtain⟨u,C,E⟩:=W X;have hN:bI k c l=iD k c (gx k c<|dg l) l:=by unfold bI;rw[X];rfl
 obtain⟨s,hs⟩:∃s,s=gx k c (dg l):=⟨_,Z⟩;rw[<-hs] at u C E hN;refine bf Z (Qz Z Z Z) (fun _=>Z) (Kz hG hl1 u aq) (fun U aq=>?_);refine O Z (cV Z) Z<|Pv 2 Z<|aE Z (fun z=>?_) (fun z=>?_)
 ·refine Pt 2 Z (O Z (Qy (places:=[(0,5),(5,5),(10,1)]) (zero:=[T,T,T,T,T,T,T,T,T,T,T]) (cs:=[_,_,_,_,_,_,_,_,_,_,_]) Z) Z<|eh aq Z (QH Z Z Z aq.g1 (m:=11) Z Z (cells':=[_,_,_,_,_,_,_,_,_,_,_]) Z) Z (fun U aq=>?_));refine OQ 5 Z ?_;exact br Z Z aq.g1 (m:=11) Y Z Z ⟨by rw[hN,show iD k c s l=(tV,2) from by unfold iD;rw[show pw s l=false from bT z];rfl];rfl,(aq.pop.pop.pop).weaken hle⟩
 refine Ot aq 7 [0,0] Z Z<|O Z (QD u Z Z Z (e:=56) Z) Z<|vQ 1 Z<|O Z (QD hl1 Z Z Z (e:=56) Z) Z<|Pv 3 Z<|aE Z (fun A=>?_) (fun A=>?_)
 ·refine PA aq 5 [0,0] Z Z<|O Z (QD hl1 Z Z Z (e:=56) Z) Z ?_;obtain⟨ao,F⟩:=cm (bu A);refine Qu (e:=56) (m:=5) u F Z Z Z Z (fun a0 ap aa ar ab=>?_);obtain rfl:=ab;refine O Z (QG aq aa Z Z) Z (O Z (Qy (places:=[(0,5),(5,5),(10,1)]) (zero:=[T,T,T,T,T,T,T,T,T,T,T]) (cs:=[_,_,_,_,_,_,_,_,_,_,_]) Z) Z<|eh aq Z (QH Z Z Z aq.g1 (m:=11) Z Z (cells':=[_,_,_,_,_,_,_,_,_,_,_]) Z) Z (fun U aq=>?_));refine OQ 5 Z ?_;exact br Z Z aq.g1 (m:=11) Y Z Z ⟨by rw[hN,show iD k c s l=(⟨ao,gw,0⟩,0) from by unfold iD;rw[show pw s l=true from bj z,F];rfl];rfl,(aq.pop.pop.pop).weaken hle⟩
 refine OV aq 5 [2] Z Z (O Z (QC Z aq.g0 (n:=5) (vs:=[_,_,_,_,_]) Z) Z (P3 aq 2 [1,0] Z Z (O Z (Qy (places:=[(0,5),(5,5),(10,1)]) (zero:=[T,T,T,T,T,T,T,T,T,T,T]) (cs:=[_,_,_,_,_,_,_,_,_,_,_]) Z) Z<|eh aq Z (QH Z Z Z aq.g1 (m:=11) Z Z (cells':=[_,_,_,_,_,_,_,_,_,_,_]) Z) Z (fun U aq=>?_))));refine Px 4 Z ?_;cases has:s.asks with
 | true=>(obtain⟨rfl,rfl⟩:=C has;exact br Z Z aq.g1 (m:=11) Y Z Z ⟨by rw[hN,show iD k c s l=(⟨lr,lh k c s,0⟩,0) from by unfold iD;rw[show pw s l=true from bj z,gN_<|bC A,has];rfl];rfl,(aq.pop.pop.pop).weaken hle⟩)
 | false=>(obtain⟨rfl,rfl⟩:=E has;exact br Z Z aq.g1 (m:=11) Y Z Z ⟨by rw[hN,show iD k c s l=(⟨lr,gw,s.fin⟩,0) from by unfold iD;rw[show pw s l=true from bj z,gN_<|bC A,has];rfl];rfl,(aq.pop.pop.pop).weaken hle⟩)
end Go.Ev
namespace Go.Ev
section
variable [Env] {H_:Type}
def Fit (P:Program):Nat->TypeId->DataW H_->Prop
  | 0,_,_=>False
  | fuel+1,t,d=>
    match P.underlying t with
    | some .bool=>∃b,d= .lit (.bool b)
    | some (.int k)=>∃n,d= .lit (.int k n)
    | some .string=>∃s,d= .lit (.string s)/\s.length<=maxLen
    | some (.slice e)=>d= .nil∨∃elems spare,d= .slice elems spare/\∀x∈elems,Fit P fuel e x
    | some (.struct fs)=>∃parts,d= .agg parts/\parts.length=fs.size/\∀(i:Nat) (f:Field) (x:DataW H_),fs[i]?=some f->parts[i]?=some x->Fit P fuel f.type x
    | _=>True
theorem B7 {α β:Type} {f:α->Option β}:∀{l:List α} {ys:List β},l.mapM f=some ys->ys.length=l.length/\∀(i:Nat) (x:α),l[i]?=some x->∃y,ys[i]?=some y/\f x=some y
  | [],ys,h=>by simp at h;subst h;exact⟨Z,fun i x hx=>by simp at hx⟩
  | a::l,ys,h=>by
    simp only[List.mapM_cons,Option.bind_eq_bind,Option.bind_eq_some_iff,Option.pure_def,oJ_] at h;obtain⟨y,h1,r,h2,rfl⟩:=h;obtain⟨u,k2⟩:=B7 h2;refine⟨by simp[u],fun i x hx=>?_⟩;cases i with
    | zero=>simp at hx;subst hx;exact⟨y,Z,h1⟩
    | succ i=>simpa using k2 i x (by simpa using hx)
variable {enc:TypeId×Value->H_} {P:Program} {w:World}
theorem ng:∀(fuel:Nat) (t:TypeId) (cs:List Value) (d:DataW H_) (p:List MemPlace),DataW.trod enc P w 0 (fun _=>true) true fuel t cs=some (d,p)->Fit P fuel t d
  | 0,_,_,_,_,h=>by simp[DataW.trod] at h
  | fuel+1,t,cs,d,p,h=>by
    have ih:=ng fuel;unfold Fit;cases hu:P.underlying t with
    | none=>trivial
    | some u=>
      unfold DataW.trod at h;rw[hu] at h;cases u with
      | bool=>
        split at h<;>first | (rename_i he;cases he;done) | skip
        all_goals first
          | (cases h;exact⟨_,Z⟩)
          | cases h
      | int k=>
        split at h<;>first | (rename_i he;cases he;done) | skip
        all_goals first
          | (rename_i C k2 n he
             cases he;split at h
             · cases h;exact⟨_,Z⟩
             · cases h)
          | cases h
      | string=>
        split at h<;>first | (rename_i he;cases he;done) | skip
        all_goals first
          | (split at h
             · rename_i E;cases h;exact⟨_,Z,by rw[Array.length_toList];exact E⟩
             · cases h)
          | cases h
      | struct fs=>
        dsimp only at h⊢;split at h
        · obtain⟨xs,F,hx⟩:=oM_.1 h
          have z:d= .agg (xs.map (·.1)):=by have:=congrArg Prod.fst hx;simpa using this.symm
          obtain⟨C,k2⟩:=B7 F;refine⟨_,z,by simpa using C,fun i f x hf A=>?_⟩;obtain⟨y,hy,K⟩:=k2 i f (by rw[aT_];exact hf);rw[gM_,hy] at A;cases A;exact ih _ _ _ y.2 K
        · cases h
      | slice e=>
        split at h<;>first | (rename_i he;cases he;done) | skip
        · cases h;exact .inl Z
        · rename_i e' a len cap he
          cases he;dsimp only at h;rw[if_pos Z] at h;split at h
          · obtain⟨elems,L,M⟩:=Option.bind_eq_some_iff.1 h
            obtain⟨rest,_,z⟩:=oM_.1 M;have z:d= .slice (elems.map (·.1)) (rest.map (·.1)):=by have:=congrArg Prod.fst z;simpa using this.symm
            refine .inr ⟨_,_,z,fun x hx=>?_⟩;obtain⟨y,hy,rfl⟩:=List.mem_map.1 hx;obtain⟨i,hi⟩:=gO_ hy;obtain⟨C,k2⟩:=mL L;obtain⟨j,_,hj⟩:=k2 i y hi;obtain⟨c,_,hc⟩:=Option.bind_eq_some_iff.1 hj;exact ih _ _ _ y.2 hc
          · cases h
        all_goals cases h
      | _=>trivial
end
section
variable [Env] {P:Program} {G:Cx}
def sw (U:D):KP:=fun b o=>b<U.next/\U.m.get b=some o
theorem J.of (U:D):J U (sw U) []:=⟨fun b o h=>⟨h.1,h.2,fun e he=>by cases he⟩,fun e he=>(by cases he),List.Pairwise.nil⟩
theorem kr.Oe {w w':World} {S S':dh} {U U':D} (h:eY S U w S' U' w') (z:ld U):kr w w':=
  ⟨h.os,h.out,h.tape,h.size,fun r u=>h.frame r u fun⟨b,o,l,h1,h2,_⟩=>by rw[z b o h1] at h2;cases h2⟩
theorem Bq (hm:P.follows .mixedOrders=true) (u:AQ P G) {S:dh} {U:D} {w:World} {f:Nat} {args:List V} {xs:Array Value} {R:V->D->Prop} (hi:Inv S U w) (z:GR S G) (A:ld U) (hx:dp S args xs.toList) (h:bk P G f args U R):
    Calls P f xs w fun e w'=>∃v x U' S',e= .returned x/\kr w w'/\H S' v x/\R v U':=by
  obtain⟨K,v,U',h1,h2⟩:=h;exact pU (fuel:=K) hm u (h1 K<|nR_ _) hi z hx fun S' w' x _ st hv=>⟨v,x,U',S',Z,kr.Oe st A,hv,h2⟩
theorem ld.leaf:ld U0:=fun b o h=>by
  have:(N.leaf:N cG).get b=some o:=h;rw[N.mE] at this;cases this
theorem dz.fresh {S:dh} {U:D} {w:World} (hi:Inv S U w) {b:Nat} {o:cG} (h:U.m.get b=some o):b<U.next:=by
  rcases Nat.lt_or_ge b U.next with h' | h'
  · exact h'
  · rw[(hi.fresh b h').2] at h;cases h
end
section
variable {H_:Type}
def m3:DataW H_->Int
 | .lit (.int _ n)=>n
 | _=>0
def M9:DataW H_->List Nat
 | .lit (.string s)=>s.map UInt8.toNat
 | _=>[]
def eO:DataW H_->List (DataW H_)
 | .slice l _=>l
 | _=>[]
def cF (d:DataW H_) (i:Nat):DataW H_:=
 match d with
 | .agg ps=>ps.getD i .nil
 | _=>.nil
def Ax:Nat->DataW H_->XE
 | 0,_=>.mk 0 0 [] []
 | 1,_=>.mk 0 0 [] []
 | k+2,d=>.mk (m3<|cF d 0) (m3<|cF d 1) (M9<|cF d 2) ((eO<|cF d 3).map<|Ax k)
def JL (k:Nat) (d:DataW H_):XI:=⟨m3<|cF d 0,m3<|cF d 1,m3<|cF d 2,m3<|cF d 3,m3<|cF d 4,(eO<|cF d 5).map<|Ax k⟩
def CH (k:Nat) (d:DataW H_):XC:=⟨m3<|cF d 0,(eO<|cF d 1).map<|JL k⟩
end
section
variable [Env] {H_:Type} {P:Program} {U:D}
theorem iP {fuel:Nat} {t:TypeId} {d:DataW H_} {vs:List V} {k:IntKind} (hu:P.underlying t=some (.int k)) (hf:Fit P fuel t d) (u:dz P U fuel t d vs):vs= [.int k<|m3 d]/\(Lit.int k<|m3 d).wf=true:=by
 cases fuel with
 | zero=>exact hf.elim
 | succ fuel=>
  unfold Fit at hf;rw[hu] at hf;obtain⟨n,rfl⟩:=hf;unfold dz at u;rw[hu] at u;obtain⟨_,h2,rfl⟩:=u;exact⟨Z,h2⟩
theorem Nq {fuel:Nat} {t:TypeId} {d:DataW H_} {vs:List V} (hu:P.underlying t=some .string) (hf:Fit P fuel t d) (u:dz P U fuel t d vs):vs= [.str<|M9 d]:=by
 cases fuel with
 | zero=>exact hf.elim
 | succ fuel=>
  unfold Fit at hf;rw[hu] at hf;obtain⟨n,rfl,_⟩:=hf;unfold dz at u;rw[hu] at u;exact u.2
theorem Lu {fuel:Nat} {t:TypeId} {d:DataW H_} (hu:P.underlying t=some .string) (hf:Fit P fuel t d):(M9 d).length<=9223372036854775807:=by
 cases fuel with
 | zero=>exact hf.elim
 | succ fuel=>
  unfold Fit at hf;rw[hu] at hf;obtain⟨n,rfl,h⟩:=hf;show(n.map UInt8.toNat).length<=_;rw[lM_];exact h
theorem fV {α:Type} {fuel:Nat} {t e:TypeId} {m:Nat} {d:DataW H_} {vs:List V} (F:DataW H_->α) (R:α->List V->Prop) (hu:P.underlying t=some (.slice e)) (hm:P.cellsOf e=m) (h1:1<=m) (hn:∀(b:Nat) (o:cG),U.m.get b=some o->b<U.next) (hf:Fit P (fuel+1) t d) (u:dz P U (fuel+1) t d vs)
  (C:∀x vs,Fit P fuel e x->dz P U fuel e x vs->R (F x) vs):∃v,vs= [v]/\bR (sw U) m R ((eO d).map F) v:=by
 unfold Fit at hf;rw[hu] at hf;dsimp only at hf;unfold dz at u;rw[hu] at u;rcases hf with rfl | ⟨elems,spare,rfl,z⟩
 ·dsimp only at u;exact⟨_,u,.inl ⟨Z,Z⟩⟩
 dsimp only at u;rw[hm] at u;obtain⟨b,c,cells,e',rfl,k2,A,E,G,K⟩:=u h1;refine⟨_,Z,.inr ⟨b,0,c,cells,e',true,by rw[show(eO<|DataW.slice elems spare).map F=elems.map F from Z,lM_],?_,⟨hn b _ A,A⟩,?_,?_,fun i x hx=>?_⟩⟩
 ·rw[show(eO<|DataW.slice elems spare).map F=elems.map F from Z,lM_];rcases E with rfl | rfl
  ·exact .inr ⟨_,Z,Nat.le_add_right _ _⟩
  exact .inl Z
 ·rw[show(eO<|DataW.slice elems spare).map F=elems.map F from Z,lM_,G,nA_];exact nR_ _
 ·rw[show(eO<|DataW.slice elems spare).map F=elems.map F from Z,lM_];exact k2
 rw[show(eO<|DataW.slice elems spare).map F=elems.map F from Z,gM_,oM_] at hx;obtain⟨y,hy,rfl⟩:=hx;rw[nA_];exact C y _ (z y<|gB_ hy)<|K i y hy
theorem gn {fuel:Nat} {t:TypeId} {fs:Array Field} {d:DataW H_} {vs:List V} {m:Nat} (hu:P.underlying t=some (.struct fs)) (hc:P.cellsOf t=m) (C:qw P fs.toList 0=some m) (hf:Fit P (fuel+1) t d) (u:dz P U (fuel+1) t d vs):
  vs.length=m/\∀(i:Nat) (f:Field),fs[i]?=some f->Fit P fuel f.type (cF d i)/\dz P U fuel f.type (cF d i) ((vs.drop f.offset).take<|P.cellsOf f.type):=by
 unfold Fit at hf;rw[hu] at hf;dsimp only at hf;obtain⟨parts,rfl,hn,z⟩:=hf;unfold dz at u;rw[hu] at u;dsimp only at u;rw[hc] at u;obtain⟨_,h2,E⟩:=u C;refine⟨h2,fun i f hi=>?_⟩;have A:i<parts.length:=by rw[hn];exact(aS_.1 hi).1
 have hp:parts[i]?=some parts[i]:=gC A
 have:cF (.agg parts) i=parts[i]:=by
  show parts.getD i .nil=_;rw[List.getD_eq_getElem?_getD,hp];rfl
 rw[this];exact⟨z i f _ hi hp,E i f _ hi hp⟩
theorem bR.yX {α:Type} {K:KP} {m:Nat} {R R':α->List V->Prop} {l:List α} {v:V} (h:bR K m R l v) (u:∀x vs,R x vs->R' x vs):bR K m R' l v:=h.mono (KP.le_refl K) u
theorem ey.up {K:KP}:∀{k:Nat} {x:XE} {vs:List V},ey K k x vs->ey K (k+1) x vs
 | 0,x,_,h=>by cases x;exact h.elim
 | k+1,.mk op num name kids,vs,h=>by
  obtain⟨v,rfl,hk⟩:=h;exact⟨v,Z,hk.yX fun x vs h=>ey.up h⟩
end
theorem Gb {H_:Type} {enc:TypeId×Value->H_} {P:Program} {w w':World} {sp:Nat->Bool} (u:∀r:Nat,r<w.heap.size->w'.heap[r]?=w.heap[r]?) {fuel:Nat} {t:TypeId} {cs:List Value} {x:DataW H_×List MemPlace}
  (h:DataW.trod enc P w 0 sp true fuel t cs=some x):DataW.trod enc P w' 0 sp true fuel t cs=some x:=by
 refine DataW.trod_carry fuel t cs x h fun p hp=>?_
 have hlt:=DataW.trod_lt fuel t cs x h p hp;cases p with
 | cell b off=>
  show w'.cell? ⟨b,off,none⟩=w.cell? ⟨b,off,none⟩;unfold World.cell?;rw[u b hlt]
 | map b=>exact u b hlt
theorem sF {H_:Type} {enc:TypeId×Value->H_} {P:Program} {w w':World} {sp:Nat->Bool} (u:∀r:Nat,r<w.heap.size->w'.heap[r]?=w.heap[r]?):∀{ts:List TypeId} {vs:List Value} {ds:List (DataW H_)} {ps:List MemPlace},
  DataW.TrodAll enc P w 0 sp true ts vs ds ps->DataW.TrodAll enc P w' 0 sp true ts vs ds ps
 | [],[],[],_,h=>h
 | _::_,_::_,_::_,_,⟨p,q,⟨n,h1⟩,h2,e⟩=>⟨p,q,⟨n,Gb u h1⟩,sF u h2,e⟩
theorem Cl {H_:Type} {enc:TypeId×Value->H_} {P:Program} (hl:laidOutB P=true) (hm:mapsRowed P=true) (z:((List.range P.types.size).all fun t=>match P.underlying t with | some (.slice e)=>decide (0<P.cellsOf e) | _=>true)=true) {w w':World} (hk:kr w w') {ts:List TypeId} {vs:List Value} {ds:List (DataW H_)} {ps:List MemPlace}
  (A:(ts.all fun t=>decide (t<P.types.size))=true) (h:DataW.TrodAll enc P w 0 (fun _=>true) true ts vs ds ps) {sp:Nat->Bool} (u:∀p∈ps,sp p.block=true):DataW.TrodAll enc P w' 0 sp true ts vs ds ps:=
 sF hk.same (h.respare (kids_rows hl hm) (slices_full_of P z) (fun t C=>of_decide_eq_true (aE_.1 A t C)) u)
end Go.Ev
namespace Go.Ev
variable [Env]
open Go.Proofs
set_option maxRecDepth 4000
set_option maxHeartbeats 8000000
theorem F0 {G:Cx} (hG:Plain G) {K:KP} {l1 l2:List Int} {v1 v2:V} {U:D} {L:Own} (aq:J U K L) (h1:bR K 1 (dy) l1 v1) (h2:bR K 1 (dy) l2 v2)
     :bk Tryz.prog G 50 [v1,v2] U fun v U'=>v= .bool (dk l1 l2)/\J U' K L:=by
  refine PS hG Tryz.func50 Z<|OI 9 Z<|O Z (QD h1 Z Z Z (e:=2) Z) Z<|vQ 1 Z<|O Z (QD h2 Z Z Z (e:=2) Z) Z<|Pv 3 Z<|aE Z (fun z=>?_) (fun z=>?_)
  · skip
    refine Pu 7 Z ?_;exact aA Z Z ⟨by first | rw[eZ<|bT z] | (rw[fA A C (by simpa only[sI] using bT E)]) | rw[ei (dB<|bj z) (bC F) u],aq⟩
  · skip
    refine Ok 9 Z ?_;obtain⟨LL1,aq,hLL1⟩:=aq.named;refine bp ([4,5]++rg 11 15) (fun j t U=>∃(i:Nat),j+i=l1.length/\(∀k,k<i->l1[k]?=l2[k]?)/\t.get 5=some (.int .i64 (.ofNat i))/\J U K LL1) (l1.length) ⟨0,Z,fun k hk=>absurd hk (nZ_ _),Z,aq⟩ ?_;clear aq;intro j4 t U ar hI;obtain⟨i,hj,u,aa,aq⟩:=hI;subst hLL1;obtain⟨oo,rfl⟩:=ar.q1 aa Z;refine OI 5 Z<|O Z (QD h1 Z Z Z (e:=2) Z) Z<|Pv 3 Z<|aE Z (fun F=>?_) (fun F=>?_)
    · skip
      refine NO 5 Z<|aS (l:=zp [0,1,2,3,4,5,6,7,8]) Y Y<|P1 2 Z ?_;obtain⟨ap,A,M⟩:=cL F;refine Qv (e:=2) (m:=1) h1 A Z Z Z Z Z (fun aI ab Q ac R=>?_);obtain rfl:=R;refine al Z Z (QF aq Q Z Z) Z<|P1 2 Z ?_;obtain⟨aY,C⟩:=cm (show _<l2.length from by rw[<-dB (bj z)];exact M);refine Qv (e:=2) (m:=1) h2 C Z Z Z Z Z (fun a0 am W ao X=>?_);obtain rfl:=X;refine al Z Z (QF aq W Z Z) Z<|Py 3 Z<|aE Z (fun E=>?_) (fun E=>?_)
      · skip
        refine PX 6 Z<|aF<|aw<|bz<|aF<|aw (?_);exact aA Z Z ⟨by first | rw[eZ<|bT z] | (rw[fA A C (by simpa only[sI] using bT E)]) | rw[ei (dB<|bj z) (bC F) u],aq⟩
      · skip
        refine aG<|aJ<|PW 5 Z<|aO ⟨j4-1,by omega,oF,i+1,by omega,jH u A C (by simpa only[sI] using bj E),cI<|bg (by have:=h1.bG;omega),aq⟩
    · skip
      refine OL 3 Z<|aT<|PX 6 Z ?_;exact aA Z Z ⟨by first | rw[eZ<|bT z] | (rw[fA A C (by simpa only[sI] using bT E)]) | rw[ei (dB<|bj z) (bC F) u],aq⟩
theorem JO {G:Cx} (hG:Plain G) {K:KP} {l1 l2:List db} {v1 v2:V} {U:D} {L:Own} (aq:J U K L) (h1:bR K 5 (iU) l1 v1) (h2:bR K 5 (iU) l2 v2)
     :bk Tryz.prog G 51 [v1,v2] U fun v U'=>v= .bool (dk l1 l2)/\J U' K L:=by
  refine PS hG Tryz.func51 Z<|OI 9 Z<|O Z (QD h1 Z Z Z (e:=56) Z) Z<|vQ 1 Z<|O Z (QD h2 Z Z Z (e:=56) Z) Z<|Pv 3 Z<|aE Z (fun z=>?_) (fun z=>?_)
  · skip
    refine Pu 7 Z ?_;exact aA Z Z ⟨by first | rw[eZ<|bT z] | (rw[fA A C (by exact(db.same (x:=M) (y:=Q)).symm.trans<|bT E)]) | rw[ei (dB<|bj z) (bC F) u],aq⟩
  · skip
    refine Ok 9 Z ?_;obtain⟨LL1,aq,hLL1⟩:=aq.named;refine bp ([4,5]++rg 11 15) (fun j t U=>∃(i:Nat),j+i=l1.length/\(∀k,k<i->l1[k]?=l2[k]?)/\t.get 5=some (.int .i64 (.ofNat i))/\J U K LL1) (l1.length) ⟨0,Z,fun k hk=>absurd hk (nZ_ _),Z,aq⟩ ?_;clear aq;intro j4 t U ar hI;obtain⟨i,hj,u,ac,aq⟩:=hI;subst hLL1;obtain⟨oo,rfl⟩:=ar.q1 ac Z;refine OI 5 Z<|O Z (QD h1 Z Z Z (e:=56) Z) Z<|Pv 3 Z<|aE Z (fun F=>?_) (fun F=>?_)
    · skip
      refine NO 5 Z<|aS (l:=zp [0,1,2,3,4,5,6,7,8]) Y Y<|P1 2 Z ?_;obtain⟨M,A,R⟩:=cL F;refine Qv (e:=56) (m:=5) h1 A Z Z Z Z Z (fun aY am W ao X=>?_);obtain rfl:=X;refine al Z Z (QG aq W Z Z) Z<|P1 2 Z ?_;obtain⟨Q,C⟩:=cm (show _<l2.length from by rw[<-dB (bj z)];exact R);refine Qv (e:=56) (m:=5) h2 C Z Z Z Z Z (fun a0 ap aa aI ab=>?_);obtain rfl:=ab;refine al Z Z (QG aq aa Z Z) Z<|al Z Z (zw (n:=5) (ca:=[_,_,_,_,_]) (cb:=[_,_,_,_,_]) Y Z Z Z Z) Z<|Py 2 Z<|aE Z (fun E=>?_) (fun E=>?_)
      · skip
        refine PX 6 Z<|aF<|aw<|bz<|aF<|aw (?_);exact aA Z Z ⟨by first | rw[eZ<|bT z] | (rw[fA A C (by exact(db.same (x:=M) (y:=Q)).symm.trans<|bT E)]) | rw[ei (dB<|bj z) (bC F) u],aq⟩
      · skip
        refine aG<|aJ<|PW 5 Z<|aO ⟨j4-1,by omega,oF,i+1,by omega,jH u A C (by exact(db.same (x:=M) (y:=Q)).symm.trans<|bj E),cI<|bg (by have:=h1.bG;omega),aq⟩
    · skip
      refine OL 3 Z<|aT<|PX 6 Z ?_;exact aA Z Z ⟨by first | rw[eZ<|bT z] | (rw[fA A C (by exact(db.same (x:=M) (y:=Q)).symm.trans<|bT E)]) | rw[ei (dB<|bj z) (bC F) u],aq⟩
theorem Ma {G:Cx} (hG:Plain G) {K:KP} {l1 l2:List dw} {v1 v2:V} {U:D} {L:Own} (aq:J U K L) (h1:bR K 2 (iV) l1 v1) (h2:bR K 2 (iV) l2 v2)
     :bk Tryz.prog G 41 [v1,v2] U fun v U'=>v= .bool (dk l1 l2)/\J U' K L:=by
  refine PS hG Tryz.func41 Z<|OI 9 Z<|O Z (QD h1 Z Z Z (e:=67) Z) Z<|vQ 1 Z<|O Z (QD h2 Z Z Z (e:=67) Z) Z<|Pv 3 Z<|aE Z (fun z=>?_) (fun z=>?_)
  · skip
    refine Pu 7 Z ?_;exact aA Z Z ⟨by first | rw[eZ<|bT z] | (rw[fA A C (by exact(dw.same (x:=M) (y:=Q)).symm.trans<|bT E)]) | rw[ei (dB<|bj z) (bC F) u],aq⟩
  · skip
    refine Ok 9 Z ?_;obtain⟨LL1,aq,hLL1⟩:=aq.named;refine bp ([4,5]++rg 11 15) (fun j t U=>∃(i:Nat),j+i=l1.length/\(∀k,k<i->l1[k]?=l2[k]?)/\t.get 5=some (.int .i64 (.ofNat i))/\J U K LL1) (l1.length) ⟨0,Z,fun k hk=>absurd hk (nZ_ _),Z,aq⟩ ?_;clear aq;intro j4 t U ar hI;obtain⟨i,hj,u,ac,aq⟩:=hI;subst hLL1;obtain⟨oo,rfl⟩:=ar.q1 ac Z;refine OI 5 Z<|O Z (QD h1 Z Z Z (e:=67) Z) Z<|Pv 3 Z<|aE Z (fun F=>?_) (fun F=>?_)
    · skip
      refine NO 5 Z<|aS (l:=zp [0,1,2,3,4,5,6,7,8]) Y Y<|P1 2 Z ?_;obtain⟨M,A,R⟩:=cL F;refine Qv (e:=67) (m:=2) h1 A Z Z Z Z Z (fun aY am W ao X=>?_);obtain rfl:=X;refine al Z Z (QG aq W Z Z) Z<|P1 2 Z ?_;obtain⟨Q,C⟩:=cm (show _<l2.length from by rw[<-dB (bj z)];exact R);refine Qv (e:=67) (m:=2) h2 C Z Z Z Z Z (fun a0 ap aa aI ab=>?_);obtain rfl:=ab;refine al Z Z (QG aq aa Z Z) Z<|al Z Z (zw (n:=2) (ca:=[_,_]) (cb:=[_,_]) Y Z Z Z Z) Z<|Py 2 Z<|aE Z (fun E=>?_) (fun E=>?_)
      · skip
        refine PX 6 Z<|aF<|aw<|bz<|aF<|aw (?_);exact aA Z Z ⟨by first | rw[eZ<|bT z] | (rw[fA A C (by exact(dw.same (x:=M) (y:=Q)).symm.trans<|bT E)]) | rw[ei (dB<|bj z) (bC F) u],aq⟩
      · skip
        refine aG<|aJ<|PW 5 Z<|aO ⟨j4-1,by omega,oF,i+1,by omega,jH u A C (by exact(dw.same (x:=M) (y:=Q)).symm.trans<|bj E),cI<|bg (by have:=h1.bG;omega),aq⟩
    · skip
      refine OL 3 Z<|aT<|PX 6 Z ?_;exact aA Z Z ⟨by first | rw[eZ<|bT z] | (rw[fA A C (by exact(dw.same (x:=M) (y:=Q)).symm.trans<|bT E)]) | rw[ei (dB<|bj z) (bC F) u],aq⟩
end Go.Ev
end
