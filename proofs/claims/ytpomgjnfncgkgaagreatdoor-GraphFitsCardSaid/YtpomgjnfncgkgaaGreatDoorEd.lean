/- Part of the proof: an evaluator of the model's code, rules for walks on it, walks. Without conditions. -/
import Derived.Test.YtpomgjnfncgkgaaGreatDoorEc
import Derived.KernelRfl
set_option linter.unusedSectionVars false
set_option linter.unusedVariables false
set_option linter.unusedSimpArgs false
noncomputable section
namespace Go.Ev
variable [Env]
section
variable {P:Program} {G:Cx} {σ:aD} {K:KP} {L:Own}
theorem Fs {α:Type} {m e:Nat} {R:α->List AV->Prop} {v2:AV} {ts:Array TypeId} {t:TypeId} (hs:St σ K L) (hx:bJ K m R [] v2) (hleaf:∀x vs,R x vs->cj vs=true)
  (ht:ts[0]?=some t) (hu:P.underlying t=some (.slice e)) (ha:pG P e m=true) (h2:dj P ts[1]?=true):fl P σ ts .aK v2= .val .aK σ:=by
 obtain⟨news,s1,s2,s3,s4⟩:=pz hs hx hleaf;unfold pG at ha;split at ha
 ·rename_i j hj;simp only[bA_] at ha;obtain⟨a1,a2,a3,a4⟩:=ha;have hm:j.size=m:=nB a1;subst hm;have hz:((P.info? e).any fun j=>(j.zero.bind ow).any fun z=>(cC z).any fun cs=>Nat.beq (cD cs) j.size)=true:=by rw[hj];exact a4
  unfold fl;rw[ht];dsimp only;rw[hu];dsimp only;rw[hj] at hz⊢;dsimp only;rw[h2,a2,a3];simp only[Bool.and_self,cond_true];rw[s1];dsimp only;rw[s3,show Nat.ble ([]:List α).length 1048576=true from rfl,hz];simp only[Bool.and_self,cond_true];rfl
 cases ha
theorem sD {α:Type} {m e:Nat} {R:α->List AV->Prop} {l l2:List α} {u v2:AV} {M:Own} {ts:Array TypeId} {t:TypeId} (ho:dh m e R l u M) (ar:St σ K (M++L))
  (hx:bJ K m R l2 v2) (hleaf:∀x vs,R x vs->cj vs=true) (hn:l.length+l2.length<=1000000)
  (ht:ts[0]?=some t) (hu:P.underlying t=some (.slice e)) (ha:pG P e m=true) (h2:dj P ts[1]?=true):
  ∃σ' u' M',fl P σ ts u v2= .val u' σ'/\dh m e R (l++l2) u' M'/\St σ' K (M'++L):=by
 rcases ho with ⟨rfl,rfl,rfl⟩ | ⟨b,c,cells,e',rfl,rfl,h3,h4,h5,h6⟩
 ·cases l2 with
  | nil=>exact⟨σ,_,[],Fs ar hx hleaf ht hu ha h2,.inl ⟨rfl,rfl,rfl⟩,ar⟩
  | cons a l2=>
   obtain⟨news,k1,k2,k3⟩:=sN (P:=P) ar hx hleaf (by simp at hn⊢;omega) (by simp) ht hu ha h2;exact⟨_,_,[(σ.next,.row news e false)],k1,.inr ⟨_,_,news,e,rfl,rfl,k2,k3,.inr ⟨rfl,rfl⟩,by simp at hn⊢;omega⟩,ar.alloc (.row news e false)⟩
 obtain⟨σ',b',c',news,e2,k1,k2,k3,k4,k5⟩:=we (P:=P) ar hx hleaf (by omega) h3 (by omega) h5 ht hu ha h2;exact⟨σ',_,[(b',.row (cells++news) e2 false)],k1,Aq h3 h4 k3 k4 rfl k5 (by omega),k2⟩
theorem xw {α:Type} {m e:Nat} {R:α->List AV->Prop} {l l2:List α} {u v2:AV} {M:Own} {bv ev:Nat} {cv:List AV} {ts:Array TypeId} {t:TypeId} (ho:dh m e R l u M) (ar:St σ K ((bv,.row cv ev false)::(M++L)))
  (hx:bJ (K.add bv (.row cv ev false)) m R l2 v2) (hleaf:∀x vs,R x vs->cj vs=true) (hn:l.length+l2.length<=1000000)
  (ht:ts[0]?=some t) (hu:P.underlying t=some (.slice e)) (ha:pG P e m=true) (h2:dj P ts[1]?=true):
  ∃σ' u' M',fl P σ ts u v2= .val u' σ'/\dh m e R (l++l2) u' M'/\St σ' K (M'++L):=by
 obtain⟨σ',u',M',h1,h3,h4⟩:=sD ho ar.jD hx hleaf hn ht hu ha h2;exact⟨σ',u',M',h1,h3,h4.weaken (KP.sq _ _ _)⟩
theorem yj {α:Type} {m b e:Nat} {ro:Bool} {R:α->List AV->Prop} {x:α} {vs:List AV} (hm:vs.length=m) (hR:R x vs) (hk:K b (.row vs e ro)):bJ K m R [x] (.slice b 0 1 (.known 1)):=by
 refine .inr ⟨b,0,.known 1,vs,e,ro,rfl,.inr ⟨1,rfl,nR_ _⟩,hk,by simp[hm],by simp,fun i y hy=>?_⟩;cases i with
 | zero=>
  simp only[List.getElem?_cons_zero,oJ_] at hy;subst hy;rw[Nat.zero_mul,Nat.add_zero,List.drop_zero,tL_ (by omega)];exact hR
 | succ i=>simp at hy
theorem fz {α:Type} {m b e:Nat} {R:α->List AV->Prop} {x:α} {vs:List AV} (hm:vs.length=m) (hR:R x vs):bJ (K.add b (.row vs e false)) m R [x] (.slice b 0 1 (.known 1)):=yj hm hR (.inr ⟨rfl,rfl⟩)
theorem yR {α:Type} {m e k:Nat} {kk:IntKind} {R:α->List AV->Prop} {la:List α} {v:AV} {ty:TypeId} {ev:Operand->Option AV} {xo lo:Operand} (h:bJ K m R la v) (hk:k<=la.length) (hu:P.underlying ty=some (.slice e)) (hj:(P.info? e).map (·.size)=some m) (hx:ev xo=some v) (hh:ev lo=some (.int kk (.ofNat k))):
  ∃w,gf P ev ty xo (some lo) none none=some w/\bJ K m R (la.drop k) w:=by
 cases hq:P.info? e with
 | none=>rw[hq] at hj;cases hj
 | some j=>
 rw[hq] at hj;have hj:j.size=m:=by simpa using hj
 subst hj;have hlen:(la.drop k).length=la.length-k:=lD_ ..
 have hb:∀y,k<=y->ek ev lo y=some k:=fun y hy=>by
  unfold ek;rw[hh];dsimp only;rw[show Nat.ble k y=true by rw[nE_];exact hy];rfl
 rcases h with ⟨rfl,rfl⟩ | ⟨b,off,c,cells,e',ro,rfl,h2,h3,h4,h5,h6⟩
 ·obtain rfl:k=0:=by simpa using hk
  refine⟨.aK,?_,.inl ⟨rfl,rfl⟩⟩;unfold gf;rw[hu,hx];dsimp only;unfold cX;dsimp only;rw[hb 0 (nR_ _),hq]
 have hle:k*j.size<=la.length*j.size:=nM_ _ hk;have hsub:(la.length-k)*j.size=la.length*j.size-k*j.size:=Nat.sub_mul ..
 have hR:∀(i:Nat) (x:α),(la.drop k)[i]?=some x->R x ((cells.drop (off+k*j.size+i*j.size)).take j.size):=fun i x hx'=>by
  rw[List.getElem?_drop] at hx';have:=h6 (k+i) x hx';rwa[Nat.add_mul,<-Nat.add_assoc] at this
 rcases h2 with rfl | ⟨cp,rfl,hcp⟩
 ·refine⟨.slice b (off+k*j.size) (la.length-k) (.upto j.size),?_,.inr ⟨b,_,_,cells,e',ro,by rw[hlen],.inl rfl,h3,by rw[hlen];omega,by rw[hlen];omega,hR⟩⟩;unfold gf;rw[hu,hx];dsimp only;unfold cX;dsimp only;rw[hb _ hk,hq];dsimp only;rw[Nat.beq_refl];rfl
 refine⟨.slice b (bif Nat.beq cp k then off else off+k*j.size) (la.length-k) (.known (cp-k)),?_,?_⟩
 ·unfold gf;rw[hu,hx];dsimp only;unfold cutAt cX;dsimp only;rw[hb _ (by omega)];dsimp only;unfold cut;rw[hq]
 cases hbq:Nat.beq cp k with
 | false=>exact .inr ⟨b,_,_,cells,e',ro,by rw[hlen];rfl,.inr ⟨cp-k,rfl,by rw[hlen];omega⟩,h3,by rw[hlen];omega,by rw[hlen];omega,hR⟩
 | true=>
  have e1:=nB hbq;have hd:la.drop k= []:=List.drop_eq_nil_of_le (by omega);rw[hd];exact .inr ⟨b,off,_,cells,e',ro,by rw[show la.length-k=0 by omega];rfl,.inr ⟨cp-k,rfl,by simp⟩,h3,by simp;omega,by simp,fun i x hx'=>by simp at hx'⟩
end
section
variable {P:Program} {G:Cx} {n:Nat} {t:PT AV} {σ:aD} {K:KP} {L:Own} {Q:Ex->PT AV->aD->Prop} {ops:Array Oper} {o:Oper} {l:List Oper} {lp:List (Nat×List Nat)} {ix:Nat} {rc:List Nat}
theorem tl {α:Type} {m e k:Nat} {kk:IntKind} {R:α->List AV->Prop} {la:List α} {v:AV} {ty:TypeId} {xo lo:Operand} {t':AV->PT AV} (h:bJ K m R la v) (hk:k<=la.length) (hi0:ops[ix]?=some o) (hw:bu ops t o=some true) (ho:o.op= .slice ty xo (some lo) none none)
  (hu:P.underlying ty=some (.slice e)) (hj:(P.info? e).map (·.size)=some m) (hx:bo G t xo=some v) (hh:bo G t lo=some (.int kk (.ofNat k))) (hp:∀v,cO t n o.dst v=some (t' v))
  (hc:∀w,bJ K m R (la.drop k) w->cy P G ops n lp (t' w) σ Q):cy P G ops n ((ix,[])::lp) t σ Q:=by
 obtain⟨w,h1,h2⟩:=yR (P:=P) h hk hu hj hx hh;refine al hi0 hw ?_ (hp w) (hc w h2);rw[ho];exact bH rfl h1
theorem xx {α:Type} {m e k:Nat} {kk:IntKind} {R:α->List AV->Prop} {la:List α} {v:AV} {ty:TypeId} {xo hi:Operand} {t':AV->PT AV} (h:bJ K m R la v) (hk:k<=la.length) (hi0:ops[ix]?=some o) (hw:bu ops t o=some true) (ho:o.op= .slice ty xo none (some hi) none)
  (hu:P.underlying ty=some (.slice e)) (hj:(P.info? e).map (·.size)=some m) (hx:bo G t xo=some v) (hh:bo G t hi=some (.int kk (.ofNat k))) (hp:∀v,cO t n o.dst v=some (t' v))
  (hc:∀w,bJ K m R (la.take k) w->cy P G ops n lp (t' w) σ Q):cy P G ops n ((ix,[])::lp) t σ Q:=by
 obtain⟨w,h1,h2⟩:=vN (P:=P) h hk hu hj hx hh;refine al hi0 hw ?_ (hp w) (hc w h2);rw[ho];exact bH rfl h1
theorem yw {α:Type} {m e:Nat} {R:α->List AV->Prop} {la l2:List α} {u v2:AV} {M:Own} {ty:TypeId} {cl:Call} {so xo:Operand} {t':AV->PT AV} (hr:dh m e R la u M) (hs:St σ K (M++L)) (hx:bJ K m R l2 v2) (hleaf:∀x vs,R x vs->cj vs=true) (hn:la.length+l2.length<=1000000)
  (hw:bu ops t o=some true) (ho:o.op= .call cl) (hcl:cl.callee= .builtin .append) (hargs:cl.args.toList= [so,xo]) (ht:cl.argTypes[0]?=some ty) (e1':bo G t so=some u) (e2':bo G t xo=some v2) (hp:∀v,cO t n o.dst v=some (t' v))
  (h:∀(σ':aD) (u':AV) (M':Own),dh m e R (la++l2) u' M'->St σ' K (M'++L)->bZ P G ops n l (t' u') σ' Q) (hu:P.underlying ty=some (.slice e):=by kernel_rfl) (ha:pG P e m=true:=by kernel_rfl) (h2:dj P cl.argTypes[1]?=true:=by kernel_rfl):bZ P G ops n (o::l) t σ Q:=by
 obtain⟨σ',u',M',k1,k2,k3⟩:=sD (P:=P) hr hs hx hleaf hn ht hu ha h2;refine aa hw ?_ (hp _) (h σ' u' M' k2 k3);rw[ho];exact eO hcl hargs e1' e2' h2 k1
theorem qC {α:Type} {m e:Nat} {R:α->List AV->Prop} {la l2:List α} {u v2:AV} {M:Own} {bv ev:Nat} {cv:List AV} {ty:TypeId} {cl:Call} {so xo:Operand} {t':AV->PT AV} (hr:dh m e R la u M) (hs:St σ K ((bv,.row cv ev false)::(M++L))) (hx:bJ (K.add bv (.row cv ev false)) m R l2 v2) (hleaf:∀x vs,R x vs->cj vs=true) (hn:la.length+l2.length<=1000000)
  (hw:bu ops t o=some true) (ho:o.op= .call cl) (hcl:cl.callee= .builtin .append) (hargs:cl.args.toList= [so,xo]) (ht:cl.argTypes[0]?=some ty) (e1':bo G t so=some u) (e2':bo G t xo=some v2) (hp:∀v,cO t n o.dst v=some (t' v))
  (h:∀(σ':aD) (u':AV) (M':Own),dh m e R (la++l2) u' M'->St σ' K (M'++L)->bZ P G ops n l (t' u') σ' Q) (hu:P.underlying ty=some (.slice e):=by kernel_rfl) (ha:pG P e m=true:=by kernel_rfl) (h2:dj P cl.argTypes[1]?=true:=by kernel_rfl):bZ P G ops n (o::l) t σ Q:=by
 obtain⟨σ',u',M',k1,k2,k3⟩:=xw (P:=P) hr hs hx hleaf hn ht hu ha h2;refine aa hw ?_ (hp _) (h σ' u' M' k2 k3);rw[ho];exact eO hcl hargs e1' e2' h2 k1
theorem qF {α:Type} {m e:Nat} {R:α->List AV->Prop} {la l2:List α} {u v2:AV} {M:Own} {ty:TypeId} {cl:Call} {so xo:Operand} {t':AV->PT AV} (hr:dh m e R la u M) (hs:St σ K (M++L)) (hx:bJ K m R l2 v2) (hleaf:∀x vs,R x vs->cj vs=true) (hn:la.length+l2.length<=1000000)
  (hi0:ops[ix]?=some o) (hw:bu ops t o=some true) (ho:o.op= .call cl) (hcl:cl.callee= .builtin .append) (hargs:cl.args.toList= [so,xo]) (ht:cl.argTypes[0]?=some ty) (e1':bo G t so=some u) (e2':bo G t xo=some v2) (hp:∀v,cO t n o.dst v=some (t' v))
  (h:∀(σ':aD) (u':AV) (M':Own),dh m e R (la++l2) u' M'->St σ' K (M'++L)->cM P G ops (t' u') σ' rc=true/\cy P G ops n lp (t' u') σ' Q) (hu:P.underlying ty=some (.slice e):=by kernel_rfl) (ha:pG P e m=true:=by kernel_rfl) (h2:dj P cl.argTypes[1]?=true:=by kernel_rfl):cy P G ops n ((ix,rc)::lp) t σ Q:=by
 obtain⟨σ',u',M',k1,k2,k3⟩:=sD (P:=P) hr hs hx hleaf hn ht hu ha h2;refine lO hi0 hw ?_ (hp _) (h σ' u' M' k2 k3);rw[ho];exact eO hcl hargs e1' e2' h2 k1
theorem qE {α:Type} {m e:Nat} {R:α->List AV->Prop} {la l2:List α} {u v2:AV} {M:Own} {bv ev:Nat} {cv:List AV} {ty:TypeId} {cl:Call} {so xo:Operand} {t':AV->PT AV} (hr:dh m e R la u M) (hs:St σ K ((bv,.row cv ev false)::(M++L))) (hx:bJ (K.add bv (.row cv ev false)) m R l2 v2) (hleaf:∀x vs,R x vs->cj vs=true) (hn:la.length+l2.length<=1000000)
  (hi0:ops[ix]?=some o) (hw:bu ops t o=some true) (ho:o.op= .call cl) (hcl:cl.callee= .builtin .append) (hargs:cl.args.toList= [so,xo]) (ht:cl.argTypes[0]?=some ty) (e1':bo G t so=some u) (e2':bo G t xo=some v2) (hp:∀v,cO t n o.dst v=some (t' v))
  (h:∀(σ':aD) (u':AV) (M':Own),dh m e R (la++l2) u' M'->St σ' K (M'++L)->cM P G ops (t' u') σ' rc=true/\cy P G ops n lp (t' u') σ' Q) (hu:P.underlying ty=some (.slice e):=by kernel_rfl) (ha:pG P e m=true:=by kernel_rfl) (h2:dj P cl.argTypes[1]?=true:=by kernel_rfl):cy P G ops n ((ix,rc)::lp) t σ Q:=by
 obtain⟨σ',u',M',k1,k2,k3⟩:=xw (P:=P) hr hs hx hleaf hn ht hu ha h2;refine lO hi0 hw ?_ (hp _) (h σ' u' M' k2 k3);rw[ho];exact eO hcl hargs e1' e2' h2 k1
end
theorem bV {α:Type} {P:α->Prop} {a b:α} (c:Bool) (h1:P a) (h0:P b):P (bif c then a else b):=by cases c;exact h0;exact h1
theorem dT {α:Type} {P:α->Prop} {a b:α} (c:Bool) (h1:c=true->P a) (h0:c=false->P b):P (bif c then a else b):=by cases c;exact h0 rfl;exact h1 rfl
theorem gV (a b:List cW):cT (a++b)=cT a++cT b:=by unfold cT;rw[List.filter_append,List.map_append]
theorem sF {e:cW} (h:dz e=false):cT [e]= []:=by unfold cT;rw[List.filter_cons,h];rfl
theorem qI {e:cW} (h:dz e=true):cT [e]= [e.read]:=by unfold cT;rw[List.filter_cons,h];rfl
theorem Aw {l:List cW} (h:cT l= []):∀e∈l,dz e=false:=by
 intro e he;cases hr:dz e with
 | false=>rfl
 | true=>
  have:e.read∈cT l:=List.mem_map_of_mem (List.mem_filter.2 ⟨he,hr⟩);rw[h] at this;cases this
def Grown (s s':TS):Prop:=(∃ext,s'.events=s.events++ext/\cT ext= [])/\s'.asked=s.asked
theorem Grown.refl (s:TS):Grown s s:=⟨⟨[],by simp,rfl⟩,rfl⟩
theorem Grown.trans {s s' s'':TS} (h:Grown s s') (h':Grown s' s''):Grown s s'':=by
 obtain⟨⟨x,h1,h2⟩,h3⟩:=h;obtain⟨⟨y,k1,k2⟩,k3⟩:=h';exact⟨⟨x++y,by rw[k1,h1,lQ_],by rw[gV,h2,k2];rfl⟩,by rw[k3,h3]⟩
theorem AN (k:Nat) (x:XI) (s:TS):Grown s (dn k x s).1:=by
 obtain⟨P,hP⟩:∃P:TS×Bool->Prop,P=fun r=>Grown s r.1:=⟨_,rfl⟩
 have h0:∀(r:TS×Bool),r.1.events=s.events->r.1.asked=s.asked->P r:=fun r h1 h2=>by rw[hP];exact⟨⟨[],by rw[h1];simp,rfl⟩,h2⟩
 have hw:∀(r:TS×Bool) (e:cW),dz e=false->r.1.events=s.events++[e]->r.1.asked=s.asked->P r:=fun r e h1 h2 h3=>by rw[hP];exact⟨⟨[e],h2,sF h1⟩,h3⟩
 have:P (dn k x s):=by
  unfold dn;refine bV _ (h0 _ rfl rfl) (bV _ (hw _ _ rfl rfl rfl) (bV _ (hw _ _ rfl rfl rfl) (bV _ (bV _ (h0 _ rfl rfl) (h0 _ rfl rfl)) (bV _ (bV _ (h0 _ rfl rfl) (h0 _ rfl rfl)) (bV _ (h0 _ rfl rfl) (bV _ (bV _ (h0 _ rfl rfl) (h0 _ rfl rfl)) (bV _ (h0 _ rfl rfl) (bV _ (h0 _ rfl rfl) (h0 _ rfl rfl)))))))))
 rw[hP] at this;exact this
theorem oM (k:Nat) (c:XC) (s:TS):Grown s (bI k c s).1:=by
 unfold bI;cases c.ins[s.at_]? with
 | none=>exact Grown.refl s
 | some x=>exact AN k x s
theorem mQ (k:Nat) (c:XC):∀(f:Nat) (s:TS),Grown s (tC k c f s)
 | 0,s=>Grown.refl s
 | f+1,s=>by
  show Grown s (bif (bI k c s).2 then tC k c f (bI k c s).1 else(bI k c s).1);exact bV (P:=Grown s) _ ((oM k c s).trans (mQ k c f _)) (oM k c s)
def kf (c:XC) (s:TS):Prop:=s.asks=true->∃x,c.ins[s.at_]?=some x/\(x.kind=2∨x.kind=4∨x.kind=5∨x.kind=6)
theorem CE {k:Nat} {x:XI} {s:TS} {aP nins:Int} (hx:eX aP nins k x=true) (hs:s.asks=false):(dn k x s).1.asks=true->(dn k x s).1.at_=s.at_/\(x.kind=2∨x.kind=4∨x.kind=5∨x.kind=6)/\(dn k x s).2=false:=by
 obtain⟨n,sh,hn,n1,n13,_,_⟩:=iL hx;obtain⟨P,hP⟩:∃P:TS×Bool->Prop,P=fun r=>r.1.asks=true->r.1.at_=s.at_/\(x.kind=2∨x.kind=4∨x.kind=5∨x.kind=6)/\r.2=false:=⟨_,rfl⟩
 have hno:∀r:TS×Bool,r.1.asks=s.asks->P r:=fun r h1=>by rw[hP];intro h2;rw[h1,hs] at h2;cases h2
 have ne:∀m:Int,bq x.kind m=false->x.kind≠m:=fun m h e=>by rw[e,eP] at h;cases h
 have:P (dn k x s):=by
  unfold dn
  refine dT _ (fun _=>hno _ rfl) fun e1=>dT _ (fun _=>hno _ rfl) fun e3=>dT _ (fun _=>hno _ rfl) fun e7=>dT _ (fun _=>bV _ (hno _ rfl) (hno _ rfl)) fun e8=>dT _ (fun _=>bV _ (hno _ rfl) (hno _ rfl)) fun e9=>
   dT _ (fun _=>hno _ rfl) fun e10=>dT _ (fun _=>bV _ (hno _ rfl) (hno _ rfl)) fun e11=>dT _ (fun _=>hno _ rfl) fun e12=>dT _ (fun _=>hno _ rfl) fun e13=>?_
  rw[hP];refine fun _=>⟨rfl,?_,rfl⟩
  have h1:=ne _ e1;have h3:=ne _ e3;have h7:=ne _ e7;have h8:=ne _ e8;have h9:=ne _ e9;have h10:=ne _ e10;have h11:=ne _ e11;have h12:=ne _ e12;have h13:=ne _ e13;have hn':x.kind=(n:Int):=hn;omega
 rw[hP] at this;exact this
theorem sM {k:Nat} {c:XC} (hc:ew k c) {s:TS} (hs:s.asks=false):kf c (bI k c s).1/\((bI k c s).2=true->(bI k c s).1.asks=false):=by
 unfold bI;cases hx:c.ins[s.at_]? with
 | none=>exact⟨fun h=>(by rw[show s.asks=true from h] at hs;cases hs),fun h=>(by cases h)⟩
 | some x=>
  have h:=CE (k:=k) (hc.right x (gB_ hx)) hs;refine⟨fun ha=>?_,fun h2=>?_⟩
  ·obtain⟨h1,h2,_⟩:=h ha;exact⟨x,by rw[show(dn k x s).1.at_=s.at_ from h1];exact hx,h2⟩
  cases ha:(dn k x s).1.asks with
  | false=>rfl
  | true=>have:=(h ha).2.2;rw[show(dn k x s).2=true from h2] at this;cases this
theorem yh {k:Nat} {c:XC} (hc:ew k c):∀(f:Nat) (s:TS),s.asks=false->kf c (tC k c f s)
 | 0,s,hs=>fun h=>by rw[show s.asks=true from h] at hs;cases hs
 | f+1,s,hs=>by
  have h:=sM hc hs;show kf c (bif (bI k c s).2 then tC k c f (bI k c s).1 else(bI k c s).1);cases h2:(bI k c s).2 with
  | true=>exact yh hc f _ (h.2 h2)
  | false=>exact h.1
theorem ug {k:Nat} {c:XC} (hc:ew k c):kf c (iW k c):=yh hc _ _ rfl
theorem sU {k:Nat} {c:XC} (hc:ew k c) (s:TS) (v:Int):kf c (dD k c s v):=yh hc _ _ rfl
theorem jJ {a:qd} {v:Int} (h:a.kind=2∨a.kind=4∨a.kind=5∨a.kind=6):dz (cU a v)=true/\(cU a v).read=v:=by
 unfold cU;rcases h with h | h | h | h<;>rw[h]
 ·exact⟨rfl,rfl⟩
 ·exact bV (P:=fun e:cW=>dz e=true/\e.read=v) (bq v a.a) ⟨rfl,rfl⟩ ⟨rfl,rfl⟩
 ·exact⟨rfl,rfl⟩
 exact⟨rfl,rfl⟩
theorem r5 {k:Nat} {c:XC} {s:TS} (h:kf c s) (ha:s.asks=true):((kr k c s).kind=2∨(kr k c s).kind=4∨(kr k c s).kind=5∨(kr k c s).kind=6):=by
 obtain⟨x,hx,hk⟩:=h ha;unfold kr;rw[hx];exact hk
theorem pM {k:Nat} {c:XC} {s:TS} (h:kf c s) (ha:s.asks=true) (v:Int):∃ext,(dD k c s v).events=s.events++cU (kr k c s) v::ext/\cT (cU (kr k c s) v::ext)= [v]:=by
 obtain⟨⟨ext,h1,h2⟩,_⟩:=mQ k c (ik c) (dW k c s v);obtain⟨r1,r2⟩:=jJ (v:=v) (r5 (k:=k) h ha);refine⟨ext,?_,?_⟩
 ·unfold dD;rw[h1];show(s.events++[_])++ext=_;rw[lQ_];rfl
 rw[show cU (kr k c s) v::ext= [cU (kr k c s) v]++ext from rfl,gV,qI r1,h2,r2];rfl
theorem vL {k:Nat} {c:XC} (hc:ew k c):∀(A:List Int) (s:TS),kf c s->kf c (iV k c A s)/\∃ext m,(iV k c A s).events=s.events++ext/\cT ext=A.take m/\((iV k c A s).asks=true->A.length<=m)
 | [],s,h=>⟨h,[],0,by show s.events=_;simp,rfl,fun _=>nR_ _⟩
 | v::r,s,h=>by
  show kf c (bif s.asks then iV k c r (dD k c s v) else s)/\∃ext m,(bif s.asks then iV k c r (dD k c s v) else s).events=s.events++ext/\cT ext=(v::r).take m/\((bif s.asks then iV k c r (dD k c s v) else s).asks=true->(v::r).length<=m);cases ha:s.asks with
  | false=>exact⟨h,[],0,by show s.events=_;simp,rfl,fun h'=>by rw[show s.asks=true from h'] at ha;cases ha⟩
  | true=>
   obtain⟨e1,h1,h2⟩:=pM (k:=k) h ha v;obtain⟨q,ext,m,h3,h4,h5⟩:=vL hc r _ (sU hc s v);refine⟨q,cU (kr k c s) v::e1++ext,m+1,?_,?_,fun h'=>?_⟩
   ·show(iV k c r (dD k c s v)).events=_;rw[h3,h1,lQ_]
   ·rw[gV,h2,h4];rfl
   have:=h5 h';simp only[List.length_cons];omega
theorem xA {k:Nat} {c:XC} (v:Int):∀(A:List Int) (s:TS),iV k c (A++[v]) s=bif (iV k c A s).asks then dD k c (iV k c A s) v else iV k c A s
 | [],s=>rfl
 | a::r,s=>by
  show(bif s.asks then iV k c (r++[v]) (dD k c s a) else s)=bif (bif s.asks then iV k c r (dD k c s a) else s).asks then dD k c (bif s.asks then iV k c r (dD k c s a) else s) v else(bif s.asks then iV k c r (dD k c s a) else s);cases ha:s.asks with
  | false=>simp only[cond_false];rw[ha];rfl
  | true=>simp only[cond_true];exact xA v r _
theorem qL {k:Nat} {c:XC} (hc:ew k c) (A:List Int):kf c (fR k c A)/\∃m,cT (fR k c A).events=A.take m/\((fR k c A).asks=true->A.length<=m):=by
 obtain⟨h,ext,m,h1,h2,h3⟩:=vL hc A (iW k c) (ug hc);obtain⟨⟨e0,h4,h5⟩,_⟩:=mQ k c (ik c) ⟨0,List.replicate c.aP.toNat 0,[],0,0,false⟩;refine⟨h,m,?_,h3⟩;unfold fR;rw[h1,gV,h2];have:(iW k c).events= []++e0:=h4;rw[this,List.nil_append,h5];rfl
theorem mL {s:TS} {l:List cW}:nK s l=true↔∃rest,s.events=l++rest:=by
 unfold nK;constructor
 ·intro h;cases h1:bG (.ofNat s.events.length) (.ofNat l.length) with
  | true=>rw[h1] at h;cases h
  | false=>
   rw[h1] at h;have h:cS (s.events.take l.length) l=true:=h;rw[cP] at h;exact⟨s.events.drop l.length,by conv=>lhs;rw[<-List.take_append_drop l.length s.events,h]⟩
 rintro ⟨rest,h⟩;rw[h,nm,show decide ((l++rest).length<l.length)=false by simp];show cS _ _=true;rw[cP,List.take_left]
def nH (k:Nat) (c:XC) (l:List cW):Prop:=ij k c=true/\nK (fR k c (cT l)) l=true
theorem Cu {k:Nat} {c:XC} (hc:ew k c) {l rest:List cW} (h:(fR k c (cT l)).events=l++rest):cT rest= []:=by
 obtain⟨_,m,h1,_⟩:=qL hc (cT l);rw[h,gV] at h1;have:=congrArg List.length h1;rw[lA_,lT_] at this;exact List.length_eq_zero_iff.1 (by omega)
theorem Gh {k:Nat} {c:XC} (h:ij k c=true):nH k c []:=⟨h,mL.2 ⟨_,rfl⟩⟩
theorem B3 {k:Nat} {c:XC} {l:List cW} {e:cW} (h:nH k c l) (he:(fR k c (cT l)).events[l.length]?=some e):nH k c (l++[e])/\dz e=false:=by
 obtain⟨hf,h⟩:=h;have hc:=(ra hf).1;obtain⟨rest,hr⟩:=mL.1 h;have hq:=Cu hc hr;rw[hr,gR_ (nR_ _),Nat.sub_self] at he;cases rest with
 | nil=>cases he
 | cons e' r=>
  simp only[List.getElem?_cons_zero,oJ_] at he;subst he;have hne:=Aw hq e' (mS_ ..);refine⟨⟨hf,?_⟩,hne⟩;rw[gV,sF hne,List.append_nil];exact mL.2 ⟨r,by rw[hr];simp⟩
theorem zT {k:Nat} {c:XC} {l:List cW} (h:nH k c l) (he:(fR k c (cT l)).events[l.length]?=none) (ha:(fR k c (cT l)).asks=true) (v:Int):nH k c (l++[cU (kr k c (fR k c (cT l))) v]):=by
 obtain⟨hf,h⟩:=h;have hc:=(ra hf).1;obtain⟨rest,hr⟩:=mL.1 h
 have hl:rest= []:=by
  rw[hr,List.getElem?_eq_none_iff,lA_] at he;exact List.length_eq_zero_iff.1 (by omega)
 subst hl;rw[List.append_nil] at hr;have hk:=(qL hc (cT l)).1;obtain⟨r1,r2⟩:=jJ (v:=v) (r5 (k:=k) hk ha);refine⟨hf,?_⟩;rw[gV,qI r1,r2]
 have e1:fR k c (cT l++[v])=dD k c (fR k c (cT l)) v:=by
  unfold fR at ha⊢;rw[xA,ha];rfl
 rw[e1];obtain⟨ext,h1,_⟩:=pM (k:=k) hk ha v;exact mL.2 ⟨ext,by rw[h1,hr];simp⟩
theorem jT {k:Nat} {c:XC}:bq (eV k c) 0=ij k c:=by
 unfold eV;cases h:ij k c with
 | true=>rfl
 | false=>
  simp only[cond_false];cases h1:bq (cQ k c) 0 with
  | true=>rfl
  | false=>exact h1
theorem vj {k:Nat} {c:XC} {l:List cW}:(da k c l).2=0↔nH k c l:=by
 unfold da nH;rw[jT];cases hf:ij k c with
 | false=>
  refine⟨fun h=>?_,fun h=>(by cases h.1)⟩;have h:eV k c=0:=h;have:=jT (k:=k) (c:=c);rw[h,hf] at this;cases this
 | true=>
  show(gT k c (fR k c (cT l)) l).2=0↔_;unfold gT;cases ht:nK (fR k c (cT l)) l with
  | false=>exact⟨fun h=>(by cases h),fun h=>(by cases h.2)⟩
  | true=>
   refine⟨fun _=>⟨rfl,rfl⟩,fun _=>?_⟩;simp only[aX,cond_true,cond_false];cases (fR k c (cT l)).events[l.length]? with
   | some e=>rfl
   | none=>cases (fR k c (cT l)).asks<;>rfl
theorem Am {k:Nat} {c:XC} {l:List cW} (h:(da k c l).2=0):
  (∃e,da k c l=(⟨e,jd,0⟩,0)/\nH k c (l++[e])/\dz e=false)∨
  (∃a,da k c l=(⟨sy,a,0⟩,0)/\(a.kind=2∨a.kind=4∨a.kind=5∨a.kind=6)/\∀v,nH k c (l++[cU a v]))∨
  (∃n,da k c l=(⟨sy,jd,n⟩,0)):=by
 have hF:=vj.1 h;obtain⟨hf,ht⟩:=hF;have hc:=(ra hf).1;unfold da;rw[jT,hf];show(∃e,gT k c (fR k c (cT l)) l=_/\_)∨_;simp only[aX,cond_true,cond_false];unfold gT;rw[ht];simp only[aX,cond_true,cond_false];cases he:(fR k c (cT l)).events[l.length]? with
 | some e=>
  obtain⟨h1,h2⟩:=B3 ⟨hf,ht⟩ he;exact .inl ⟨e,rfl,h1,h2⟩
 | none=>
  cases ha:(fR k c (cT l)).asks with
  | true=>exact .inr (.inl ⟨_,rfl,r5 (qL hc _).1 ha,fun v=>zT ⟨hf,ht⟩ he ha v⟩)
  | false=>exact .inr (.inr ⟨_,rfl⟩)
theorem rC {α β:Type} (f:α->β) {l:List α} (h:(l.map f).Nodup):l.Nodup:=List.Pairwise.of_map f (fun _ _ hh e=>hh (congrArg f e)) h
theorem yA {α:Type}:∀{l m:List α},l.Nodup->(∀x∈l,x∈m)->m.length<=l.length->l.Perm m
 | [],m,_,_,h=>by rw[eN_ (Nat.le_zero.1 h)]
 | x::l,m,hn,hs,h=>by
  rw[List.nodup_cons] at hn;obtain⟨i,hi⟩:=gO_ (hs x (mS_ ..));have hp:=jL hi;have hlen:=hp.length_eq;rw[List.length_cons] at hlen h;refine(List.Perm.cons x (yA (l:=l) (m:=m.eraseIdx i) hn.2 (fun y hy=>?_) (by omega))).trans hp.symm;have hy':=hp.mem_iff.1 (hs y (mC_ _ hy));rcases mQ_.1 hy' with rfl | hy'
  ·exact absurd hy hn.1
  exact hy'
theorem An {α:Type}:∀{l m:List α},l.Nodup->(∀x∈l,x∈m)->l.length<=m.length
 | [],_,_,_=>Nat.zero_le _
 | x::l,m,hn,hs=>by
  rw[List.nodup_cons] at hn;obtain⟨i,hi⟩:=gO_ (hs x (mS_ ..));have hp:=jL hi;have hlen:=hp.length_eq;rw[List.length_cons] at hlen⊢
  have:=An (l:=l) (m:=m.eraseIdx i) hn.2 fun y hy=>by
   have hy':=hp.mem_iff.1 (hs y (mC_ _ hy));rcases mQ_.1 hy' with rfl | hy'
   ·exact absurd hy hn.1
   exact hy'
  omega
def fq (loc:Int):List cW->Nat
 | []=>0
 | e::l=>(bif (bif bC e then bq e.loc loc else false) then 1 else 0)+fq loc l
def ia (loc:Int):List (List cW)->Nat
 | []=>0
 | l::r=>fq loc l+ia loc r
def pO (loc:Int) (p:List Int×Int):Bool:=bq p.2 loc
theorem oX {loc:Int} {t:Nat}:∀{l:List cW} {n:Nat},((fo t l n).filter (pO loc)).length=fq loc l
 | [],_=>rfl
 | e::l,n=>by
  show(List.filter (pO loc) (bif bC e then([.ofNat (t+1),.ofNat n],e.loc)::fo t l (n+1) else fo t l (n+1))).length=(bif (bif bC e then bq e.loc loc else false) then 1 else 0)+fq loc l;cases hw:bC e with
  | false=>
   simp only[cond_false,nA_];exact oX
  | true=>
   simp only[cond_true];rw[List.filter_cons];show(if bq e.loc loc=true then _ else _:LM).length=_;cases he:bq e.loc loc with
   | true=>simp only[if_true,cond_true,List.length_cons];rw[oX];omega
   | false=>simp only[cond_false,nA_];rw[if_neg (by decide)];exact oX
theorem sb {loc:Int}:∀{ls:List (List cW)} {t:Nat},((fQ ls t).filter (pO loc)).length=ia loc ls
 | [],_=>rfl
 | l::ls,t=>by
  show(List.filter (pO loc) (fo t l 0++fQ ls (t+1))).length=fq loc l+ia loc ls;rw[List.filter_append,lA_,oX,sb]
theorem xK {t:Nat} {k:List Int} {v:Int}:∀{l:List cW} {n:Nat},(k,v)∈fo t l n↔∃i e,l[i]?=some e/\bC e=true/\k= [.ofNat (t+1),.ofNat (n+i)]/\v=e.loc
 | [],n=>⟨fun h=>(by cases h),fun⟨i,e,h,_⟩=>by simp at h⟩
 | e::l,n=>by
  show(k,v)∈(bif bC e then([.ofNat (t+1),.ofNat n],e.loc)::fo t l (n+1) else fo t l (n+1))↔_;have ih:=xK (t:=t) (k:=k) (v:=v) (l:=l) (n:=n+1)
  have up:(k,v)∈fo t l (n+1)↔∃i e',l[i]?=some e'/\bC e'=true/\k= [.ofNat (t+1),.ofNat (n+(i+1))]/\v=e'.loc:=by
   rw[ih];constructor
   ·rintro ⟨i,e',h1,h2,h3,h4⟩;exact⟨i,e',h1,h2,by rw[h3,show n+1+i=n+(i+1) by omega],h4⟩
   rintro ⟨i,e',h1,h2,h3,h4⟩;exact⟨i,e',h1,h2,by rw[h3,show n+1+i=n+(i+1) by omega],h4⟩
  have cons:(∃i e',(e::l)[i]?=some e'/\bC e'=true/\k= [.ofNat (t+1),.ofNat (n+i)]/\v=e'.loc)↔(bC e=true/\k= [.ofNat (t+1),.ofNat n]/\v=e.loc)∨∃i e',l[i]?=some e'/\bC e'=true/\k= [.ofNat (t+1),.ofNat (n+(i+1))]/\v=e'.loc:=by
   constructor
   ·rintro ⟨i,e',h1,h2,h3,h4⟩;cases i with
    | zero=>
     have:e=e':=by simpa using h1
     subst this;exact .inl ⟨h2,h3,h4⟩
    | succ i=>exact .inr ⟨i,e',by simpa using h1,h2,h3,h4⟩
   rintro (⟨h2,h3,h4⟩ | ⟨i,e',h1,h2,h3,h4⟩)
   ·exact⟨0,e,rfl,h2,h3,h4⟩
   exact⟨i+1,e',by simpa using h1,h2,h3,h4⟩
  rw[cons];cases hw:bC e with
  | false=>
   simp only[cond_false];rw[up];exact⟨.inr,fun h=>by rcases h with ⟨h,_⟩ | h;cases h;exact h⟩
  | true=>
   simp only[cond_true,mQ_,Prod.mk.injEq,true_and];rw[up]
theorem pC {k:List Int} {v:Int}:∀{ls:List (List cW)} {t:Nat},(k,v)∈fQ ls t↔∃s i l e,ls[s]?=some l/\l[i]?=some e/\bC e=true/\k= [.ofNat (t+s+1),.ofNat i]/\v=e.loc
 | [],t=>⟨fun h=>(by cases h),fun⟨s,i,l,e,h,_⟩=>by simp at h⟩
 | l::ls,t=>by
  show(k,v)∈fo t l 0++fQ ls (t+1)↔_;rw[List.mem_append,xK,pC (ls:=ls)];constructor
  ·rintro (⟨i,e,h1,h2,h3,h4⟩ | ⟨s,i,l',e,h0,h1,h2,h3,h4⟩)
   ·exact⟨0,i,l,e,rfl,h1,h2,by rw[h3,nA_],h4⟩
   exact⟨s+1,i,l',e,by simpa using h0,h1,h2,by rw[h3,show t+1+s+1=t+(s+1)+1 by omega],h4⟩
  rintro ⟨s,i,l',e,h0,h1,h2,h3,h4⟩;cases s with
  | zero=>
   have:l=l':=by simpa using h0
   subst this;exact .inl ⟨i,e,h1,h2,by rw[h3,nA_],h4⟩
  | succ s=>exact .inr ⟨s,i,l',e,by simpa using h0,h1,h2,by rw[h3,show t+1+s+1=t+(s+1)+1 by omega],h4⟩
theorem oy {k:List Int} {v:Int}:∀{ls:List (List dU)} {loc:Nat},(k,v)∈kF ls loc↔∃ln r id,ls[ln]?=some r/\id∈r/\k=id.ints/\v= .ofNat (loc+ln)
 | [],loc=>⟨fun h=>(by cases h),fun⟨ln,r,id,h,_⟩=>by simp at h⟩
 | r::ls,loc=>by
  show(k,v)∈ff loc r++kF ls (loc+1)↔_;rw[List.mem_append,oy (ls:=ls)];constructor
  ·rintro (h | ⟨ln,r',id,h1,h2,h3,h4⟩)
   ·obtain⟨id,h1,h2⟩:=List.mem_map.1 h;cases h2;exact⟨0,r,id,rfl,h1,rfl,rfl⟩
   exact⟨ln+1,r',id,by simpa using h1,h2,h3,by rw[h4,show loc+1+ln=loc+(ln+1) by omega]⟩
  rintro ⟨ln,r',id,h1,h2,h3,h4⟩;cases ln with
  | zero=>
   have:r=r':=by simpa using h1
   subst this;exact .inl (List.mem_map.2 ⟨id,h2,by rw[h3,h4,Nat.add_zero]⟩)
  | succ ln=>exact .inr ⟨ln,r',id,by simpa using h1,h2,h3,by rw[h4,show loc+1+ln=loc+(ln+1) by omega]⟩
theorem qD {loc:Nat} (r:List dU):(ff loc r).filter (pO (.ofNat loc))=ff loc r:=List.filter_eq_self.2 fun p hp=>by
 obtain⟨id,_,rfl⟩:=List.mem_map.1 hp;show bq (.ofNat loc) (.ofNat loc)=true;rw[fE];simp
theorem pI {loc x:Nat} (r:List dU) (h:loc≠x):(ff loc r).filter (pO (.ofNat x))= []:=List.filter_eq_nil_iff.2 fun p hp=>by
 obtain⟨id,_,rfl⟩:=List.mem_map.1 hp;show¬bq (.ofNat loc) (.ofNat x)=true;rw[fE];simp[h]
theorem tg {x:Nat}:∀{ls:List (List dU)} {loc ln:Nat} {r:List dU},ls[ln]?=some r->loc+ln=x->(kF ls loc).filter (pO (.ofNat x))=ff x r
 | [],_,_,_,h,_=>by simp at h
 | q::ls,loc,0,r,h,hx=>by
  have:q=r:=by simpa using h
  subst this;have hx:loc=x:=by omega
  subst hx;show(ff loc q++kF ls (loc+1)).filter _=_;rw[List.filter_append,qD]
  have:(kF ls (loc+1)).filter (pO (.ofNat loc))= []:=List.filter_eq_nil_iff.2 fun p hp=>by
   obtain⟨k,v⟩:=p;obtain⟨ln,r,id,_,_,_,rfl⟩:=oy.1 hp;show¬bq (.ofNat (loc+1+ln)) (.ofNat loc)=true;rw[fE];simp;omega
  rw[this,List.append_nil]
 | q::ls,loc,ln+1,r,h,hx=>by
  show(ff loc q++kF ls (loc+1)).filter _=_;rw[List.filter_append,pI q (by omega),tg (ls:=ls) (loc:=loc+1) (ln:=ln) (by simpa using h) (by omega)];rfl
def wq (g:XG) (loc:Int) (id:dU):Bool:=
 bif (eH g id).isSome then(bif bq id.jm 0 then false else bif bC (zd (eH g id)) then bq (zd (eH g id)).loc loc else false) else false
structure CW (g:XG) (ln:Nat) (r:List dU):Prop where
 KU:∀id∈r,wq g (.ofNat ln) id=true
 nodup:r.Nodup
 Mr:r.length=ia (.ofNat ln) g.threads
theorem z7 {x y:dU} (h:x.ints=y.ints):x=y:=by
 have:cS x.ints y.ints=true:=cP.2 h;rw[dU.same] at this;exact cP.1 this
theorem yb {g:XG} {ln:Nat} {id:dU}:wq g (.ofNat ln) id=true↔(id.ints,Int.ofNat ln)∈fQ g.threads 0:=by
 rw[pC];unfold wq;constructor
 ·intro h;cases hs:eH g id with
  | none=>rw[hs] at h;cases h
  | some e=>
   rw[hs] at h;obtain⟨th,ix⟩:=id;have h:(bif bq th 0 then false else bif bC e then bq e.loc (.ofNat ln) else false)=true:=h;cases h0:bq th 0 with
   | true=>rw[h0] at h;cases h
   | false=>
    rw[h0] at h;cases hw:bC e with
    | false=>rw[hw] at h;cases h
    | true=>
     rw[hw] at h
     have hl:e.loc= .ofNat ln:=by
      have h:bq e.loc (.ofNat ln)=true:=h;rw[dq] at h;exact of_decide_eq_true h
     obtain⟨t,i,rfl,rfl,_,_,hp⟩:=F7 (by rw[hs];rfl);cases t with
     | zero=>cases h0
     | succ t=>
      rw[og] at hs;cases hr:g.threads[t]? with
      | none=>rw[hr] at hs;cases hs
      | some l=>
       rw[hr] at hs;exact⟨t,i,l,e,hr,hs,hw,by rw[nA_];rfl,hl.symm⟩
 rintro ⟨s,i,l,e,h1,h2,h3,h4,h5⟩;obtain⟨th,ix⟩:=id;rw[nA_] at h4;have h4: [th,ix]= [.ofNat (s+1),.ofNat i]:=h4;simp only[List.cons.injEq,and_true] at h4;obtain⟨rfl,rfl⟩:=h4;have he:eH g ⟨.ofNat (s+1),.ofNat i⟩=some e:=by rw[og,h1];exact h2
 rw[he];show(bif bq (.ofNat (s+1)) 0 then false else bif bC e then bq e.loc (.ofNat ln) else false)=true;rw[show bq (.ofNat (s+1)) 0=false by rw[show(0:Int)= .ofNat 0 from rfl,fE];simp,h3,<-h5];show bq (.ofNat ln) (.ofNat ln)=true;rw[fE];simp
theorem rW {ls:List (List cW)} {t:Nat}:(fQ ls t).Nodup:=rC _ oO
theorem rG {loc:Nat} {r:List dU} (h:r.Nodup):(ff loc r).Nodup:=by
 unfold ff;refine List.Pairwise.map _ (fun a b hab he=>hab ?_) h;exact z7 (Prod.mk.inj he).1
theorem tk {g:XG} (hloc:∀(t:Nat) (l:List cW) (i:Nat) (e:cW),g.threads[t]?=some l->l[i]?=some e->bC e=true->∃ln:Nat,e.loc= .ofNat ln/\ln<g.order.length):
  (∀(ln:Nat) (r:List dU),g.order[ln]?=some r->CW g ln r)↔(fQ g.threads 0).Perm (kF g.order 0):=by
 constructor
 ·intro h;refine yA rW (fun p hp=>?_) ?_
  ·obtain⟨k,v⟩:=p;obtain⟨s,i,l,e,h1,h2,h3,h4,h5⟩:=pC.1 hp;obtain⟨ln,h6,h7⟩:=hloc s l i e h1 h2 h3;obtain⟨r,hr⟩:=bX h7;have ho:=h ln r hr
   have hq:(ff ln r).Perm ((fQ g.threads 0).filter (pO (.ofNat ln))):=by
    refine yA (rG ho.nodup) (fun q hq=>?_) ?_
    ·obtain⟨id,hid,rfl⟩:=List.mem_map.1 hq;refine List.mem_filter.2 ⟨yb.1 (ho.KU id hid),?_⟩;show bq (.ofNat ln) (.ofNat ln)=true;rw[fE];simp
    rw[sb,<-ho.Mr];unfold ff;rw[lM_];exact nR_ _
   have hm:(k,v)∈ff ln r:=hq.mem_iff.2 (List.mem_filter.2 ⟨hp,by show bq v (.ofNat ln)=true;rw[h5,h6,fE];simp⟩);obtain⟨id,hid,he⟩:=List.mem_map.1 hm;cases he;exact oy.2 ⟨ln,r,id,hr,hid,rfl,by rw[nA_]⟩
  
  have key:∀(m:Nat) (ls:List (List dU)),(∀(ln:Nat) (r:List dU),ls[ln]?=some r->CW g (m+ln) r)->((kF ls m).Nodup/\∀p∈kF ls m,p∈fQ g.threads 0):=by
   intro m ls;induction ls generalizing m with
   | nil=>intro _;exact⟨List.nodup_nil,fun p hp=>by cases hp⟩
   | cons r ls ih=>
    intro hh
    obtain⟨i1,i2⟩:=ih (m+1) fun ln r' hr'=>by
     have:=hh (ln+1) r' (by simpa using hr');rwa[show m+(ln+1)=m+1+ln by omega] at this
    have h0:=hh 0 r rfl;rw[Nat.add_zero] at h0;refine⟨?_,fun p hp=>?_⟩
    ·show(ff m r++kF ls (m+1)).Nodup;rw[List.nodup_append];refine⟨rG h0.nodup,i1,fun a ha b hb hab=>?_⟩;obtain⟨id,_,rfl⟩:=List.mem_map.1 ha;subst hab;obtain⟨ln,r',id',_,_,_,h4⟩:=oy.1 hb;have:m=m+1+ln:=iJ_ h4;omega
    rcases List.mem_append.1 (show p∈ff m r++kF ls (m+1) from hp) with hp | hp
    ·obtain⟨id,hid,rfl⟩:=List.mem_map.1 hp;exact yb.1 (h0.KU id hid)
    exact i2 p hp
  obtain⟨k1,k2⟩:=key 0 g.order fun ln r hr=>by rw[nA_];exact h ln r hr
  exact An k1 k2
 intro hp ln r hr;have hrow:∀id∈r,(id.ints,Int.ofNat ln)∈fQ g.threads 0:=fun id hid=>hp.mem_iff.2 (oy.2 ⟨ln,r,id,hr,hid,rfl,by rw[nA_]⟩)
 have hf:=tg (x:=ln) (loc:=0) hr (nA_ _);refine⟨fun id hid=>yb.2 (hrow id hid),?_,?_⟩
 ·have hn:(kF g.order 0).Nodup:=hp.nodup_iff.1 rW;have hn2:(ff ln r).Nodup:=by rw[<-hf];exact hn.filter _
  exact rC _ hn2
 have:=(hp.filter (pO (.ofNat ln))).length_eq;rw[sb,hf] at this;rw[this];unfold ff;rw[lM_]
theorem kJ {g:XG} (h1:ei g=false) (h2:¬wF g):cr g=2:=by
 have h3:cr g≠0:=fun h=>h2 (kN.1 h)
 unfold cr at h3⊢;rw[h1] at h3⊢;simp only[cond_false] at h3⊢;generalize bq (.ofNat g.from_.length) (.ofNat g.threads.length)=a at h3⊢;generalize bq (.ofNat g.order.length) (.ofNat g.init.length)=b at h3⊢;generalize lA g g.threads g.from_ 0=c at h3⊢;generalize ej g=d at h3⊢;cases a<;>cases b<;>cases c<;>cases d<;>first | rfl | exact absurd rfl h3
theorem AW {g:XG} (h:bG 4 (.ofNat g.threads.length)=true):ei g=true:=by unfold ei;rw[h];rfl
theorem AY {g:XG} (h:bG 6 (.ofNat g.init.length)=true):ei g=true:=by
 unfold ei;rw[h];cases bG 4 (.ofNat g.threads.length)<;>rfl
theorem AX {g:XG} {i:Nat} {x:List cW} (hx:g.threads[i]?=some x) (h:bG 14 (.ofNat x.length)=true):ei g=true:=by
 unfold ei;rw[show(g.threads.any fun l=>bG 14 (.ofNat l.length))=true from List.any_eq_true.2 ⟨x,gB_ hx,h⟩];cases bG 4 (.ofNat g.threads.length)<;>cases bG 6 (.ofNat g.init.length)<;>rfl
theorem CL {g:XG} {i:Nat} (h1:bG 4 (.ofNat g.threads.length)=false) (h2:bG 6 (.ofNat g.init.length)=false) (hi:g.threads.length<=i) (h3:∀(k:Nat) (l:List cW),k<i->g.threads[k]?=some l->bG 14 (.ofNat l.length)=false):ei g=false:=by
 unfold ei;rw[h1,h2];show(g.threads.any fun l=>bG 14 (.ofNat l.length))=false;rw[List.any_eq_false];intro l hl;obtain⟨k,hk⟩:=gO_ hl;have:=(gA.1 hk).1;rw[h3 k l (by omega) hk];simp
theorem n7 {g:XG} (h:ei g=true):cr g=3:=by unfold cr;rw[h];rfl
theorem J5 {a b:Int} (h:bq a b=true):a=b:=by rw[dq] at h;exact of_decide_eq_true h
theorem AE {e:cW} {n:Nat} (h:bP e (.ofNat n)=true) (hw:bC e=true):∃ln:Nat,e.loc= .ofNat ln/\ln<n:=by
 unfold bP at h
 have hk:bq e.kind 4=false:=by
  unfold bC at hw;cases h4:bq e.kind 4 with
  | false=>rfl
  | true=>
   have:=J5 h4;rw[this] at hw;exact absurd hw (by decide)
 rw[hk] at h
 have key:(bif aX (bG e.loc 0) then bG e.loc (.ofNat n) else false)=true:=by
  revert h;generalize (bif aX (bG e.loc 0) then bG e.loc (.ofNat n) else false)=q;cases bG e.kind 1<;>cases bG 4 e.kind<;>cases bG e.order 1<;>cases bG 6 e.order<;>cases (bif (!dz e) then aX (bq e.read 0) else false)<;>cases (bif (!bC e) then aX (bq e.write 0) else false)<;>intro h<;>first | exact h | cases h
 cases h0:bG e.loc 0 with
 | true=>rw[h0] at key;cases key
 | false=>
  rw[h0] at key;obtain⟨ln,hl⟩:=mw h0;rw[hl] at key;exact⟨ln,hl,bm key⟩
theorem GY {g:XG} {t n:Nat} {e:cW} {q:dU} (h:xq g t n e q=true):bP e (.ofNat g.init.length)=true/\di g ⟨.ofNat (t+1),.ofNat n⟩ q=true:=by
 unfold xq at h;cases h1:bP e (.ofNat g.init.length) with
 | false=>rw[h1] at h;cases h
 | true=>rw[h1] at h;exact⟨rfl,h⟩
theorem Kp {g:XG} {t n:Nat} {e:cW} {q:dU} (h1:bP e (.ofNat g.init.length)=true) (h2:di g ⟨.ofNat (t+1),.ofNat n⟩ q=true):xq g t n e q=true:=by
 unfold xq;rw[h1];exact h2
theorem n8 {loc:Int}:∀{l:List cW} {i:Nat} {x:cW},l[i]?=some x->fq loc (l.take (i+1))=fq loc (l.take i)+(bif (bif bC x then bq x.loc loc else false) then 1 else 0)
 | [],_,_,h=>by simp at h
 | e::l,0,x,h=>by
  have:e=x:=by simpa using h
  subst this;show(bif (bif bC e then bq e.loc loc else false) then 1 else 0)+fq loc []=0+_;rw[nA_];rfl
 | e::l,i+1,x,h=>by
  have h':l[i]?=some x:=by simpa using h
  show(bif (bif bC e then bq e.loc loc else false) then 1 else 0)+fq loc (l.take (i+1))=(bif (bif bC e then bq e.loc loc else false) then 1 else 0)+fq loc (l.take i)+_;rw[n8 h',Nat.add_assoc]
theorem H7 {loc:Int} {l:List cW} {i:Nat} {x:cW} (h:l[i]?=some x) (h1:bC x=true) (h2:bq x.loc loc=true):fq loc (l.take (i+1))=fq loc (l.take i)+1:=by
 rw[n8 h,h1,h2];rfl
theorem FL {loc:Int} {l:List cW} {i:Nat} {x:cW} (h:l[i]?=some x) (h1:bC x=false∨bq x.loc loc=false):fq loc (l.take (i+1))=fq loc (l.take i):=by
 rw[n8 h];rcases h1 with h1 | h1
 ·rw[h1];rfl
 rw[h1];cases bC x<;>rfl
theorem sX {loc:Int}:∀{ls:List (List cW)} {i:Nat} {x:List cW},ls[i]?=some x->ia loc (ls.take (i+1))=ia loc (ls.take i)+fq loc x
 | [],_,_,h=>by simp at h
 | l::ls,0,x,h=>by
  have:l=x:=by simpa using h
  subst this;show fq loc l+ia loc []=0+_;rw[nA_];rfl
 | l::ls,i+1,x,h=>by
  have h':ls[i]?=some x:=by simpa using h
  show fq loc l+ia loc (ls.take (i+1))=fq loc l+ia loc (ls.take i)+_;rw[sX h',Nat.add_assoc]
theorem sc {loc:Int}:∀{l:List cW},fq loc l<=l.length
 | []=>nR_ _
 | e::l=>by
  have:=sc (loc:=loc) (l:=l);show(bif (bif bC e then bq e.loc loc else false) then 1 else 0)+fq loc l<=l.length+1;cases (bif bC e then bq e.loc loc else false) with
  | true=>show 1+_<=_;omega
  | false=>show 0+_<=_;omega
theorem wN {loc:Int} {b:Nat}:∀{ls:List (List cW)},(∀l∈ls,l.length<=b)->ia loc ls<=ls.length*b
 | [],_=>Nat.zero_le _
 | l::ls,h=>by
  have h1:=h l (mS_ ..);have h2:=wN (loc:=loc) (ls:=ls) fun x hx=>h x (mC_ _ hx)
  have h3:=sc (loc:=loc) (l:=l);show fq loc l+ia loc ls<=(ls.length+1)*b;rw[Nat.succ_mul];omega
theorem x6 {loc:Int} {ls:List (List cW)} {i:Nat} (h1:ls.length<=4) (h2:∀l∈ls,l.length<=14):ia loc (ls.take i)<=56:=by
 have h3:=wN (loc:=loc) (b:=14) (ls:=ls.take i) fun l hl=>h2 l (List.mem_of_mem_take hl)
 have h4:(ls.take i).length<=4:=by rw[lT_];omega
 have h5:(ls.take i).length*14<=4*14:=nM_ _ h4;omega
theorem GQ {α:Type} {l:List α} (h:l.Nodup) {i j:Nat} {a b:α} (hij:i<j) (ha:l[i]?=some a) (hb:l[j]?=some b):a≠b:=fun e=>by
 obtain⟨h1,h2⟩:=gA.1 ha;obtain⟨h3,h4⟩:=gA.1 hb;have:=List.pairwise_iff_getElem.1 h i j h1 h3 hij;rw[h2,h4] at this;exact this e
theorem GS {α:Type} {l:List α} (h:∀(i j:Nat) (a b:α),i<j->l[i]?=some a->l[j]?=some b->a≠b):l.Nodup:=
 List.pairwise_iff_getElem.2 fun i j h1 h2 hij=>h i j _ _ hij (gC h1) (gC h2)
def rp (g:XG) (loc:Int):Int:=match(dR g loc).getLast? with | none=>0 | some id=>(zd (eH g id)).write
def s9 (k:Nat):List XC->List (List cW)->Option (List Int)
 | [],_=>some []
 | _::_,[]=>none
 | c::l,r::g=>bif bq (da k c r).2 0 then(s9 k l g).map fun e=>(da k c r).1.fin::e else none
def gP (k:Nat) (l:List XC) (g:XG):Option (List Int):=
 bif aX (bq (cr g) 0) then none else bif aX (bq (.ofNat l.length) (.ofNat g.threads.length)) then none else s9 k l g.threads
def Dn (g:XG):List Int->Nat->Bool
 | [],_=>true
 | v::r,i=>bif aX (bq v (rp g (.ofNat i))) then false else Dn g r (i+1)
def Jt (k:Nat) (l:List XC) (m:List Int) (g:XG):Option (List Int):=
 match gP k l g with
 | none=>none
 | some e=>bif aX (bq (.ofNat m.length) (.ofNat g.init.length)) then none else bif Dn g m 0 then some e else none
def Ms (k:Nat) (l:List XC) (m:List Int) (g:XG):Bool:=(Jt k l m g).isSome
structure XM where
 mem:List Int
 g:XG
structure Bq where
 wm:cW
 fr:dU
 place:Int
 mem:List Int
def rv (n:pK):Int:=bif aX (bq n.ask.kind 0) then n.ask.loc else n.event.loc
def kh (n:pK) (m:List Int) (g:XG):Bq:=
 bif bq n.event.kind 4 then⟨n.event,⟨0,0⟩,0,m⟩ else
 let all:=dR g (rv n)
 let wm:=bif aX (bq n.ask.kind 0) then cU n.ask ((m[(rv n).toNat]?).getD 0) else n.event
 let fr:=bif aX (bq n.ask.kind 0) then(all.getLast?).getD ⟨0,0⟩ else⟨0,0⟩
 bif aX (bq wm.kind 1) then⟨wm,fr,.ofNat all.length,m.set (rv n).toNat wm.write⟩ else⟨wm,fr,0,m⟩
def uf (n:pK) (g:XG):Bool:=bif aX (bq n.event.kind 4) then(bif bG (rv n) 0 then true else aX (bG (rv n) (.ofNat g.init.length))) else false
def BY (k:Nat) (c:XC) (row:List cW) (g:XG):Int:=
 bif aX (bq (da k c row).2 0) then(da k c row).2 else
 bif aX (bq (da k c row).1.fin 0) then 10 else
 bif aX (bG (.ofNat row.length) 14) then 3 else
 bif uf (da k c row).1 g then 2 else 0
def Le (p:Bq) (th:Int) (g:XG):Option XM×Int:=
 match m9 g th p.wm p.fr p.place with
 | (some g',e)=>(some ⟨p.mem,g'⟩,e)
 | (none,e)=>(none,e)
def AO (k:Nat) (l:List XC) (r:XM) (t:Nat):Option XM×Int:=
 match l[t]?,r.g.threads[t]? with
 | some c,some row=>bif aX (bq (BY k c row r.g) 0) then(none,BY k c row r.g) else Le (kh (da k c row).1 r.mem r.g) (.ofNat (t+1)) r.g
 | _,_=>(none,2)
structure Bn (k:Nat) (l:List XC) (r:XM):Prop where
 MJ:cr r.g=0
 len:r.g.threads.length=l.length
 mem:r.mem.length=r.g.init.length
 last:∀i:Nat,i<r.g.init.length->r.mem[i]?=some (rp r.g (.ofNat i))
 fits:∀(t:Nat) (c:XC) (row:List cW),l[t]?=some c->r.g.threads[t]?=some row->nH k c row
theorem uH {k:Nat}:∀{l:List XC} {g:List (List cW)},l.length=g.length->(∀(t:Nat) (c:XC) (row:List cW),l[t]?=some c->g[t]?=some row->nH k c row)->∃e,s9 k l g=some e/\e.length=l.length
 | [],_,_,_=>⟨[],rfl,rfl⟩
 | _::_,[],h,_=>by simp at h
 | c::l,r::g,h,hf=>by
  obtain⟨e,he,hl⟩:=uH (k:=k) (l:=l) (g:=g) (by simpa using h) (fun t c row h1 h2=>hf (t+1) c row (by simpa using h1) (by simpa using h2));have:=vj.2 (hf 0 c r rfl rfl);refine⟨(da k c r).1.fin::e,?_,?_⟩
  ·unfold s9;rw[this,he];rfl
  simp[hl]
theorem Ak {g:XG}:∀{m:List Int} {i:Nat},(∀j v,m[j]?=some v->v=rp g (.ofNat (i+j)))->Dn g m i=true
 | [],_,_=>rfl
 | v::r,i,h=>by
  have h0:=h 0 v rfl;rw[Nat.add_zero] at h0;unfold Dn;rw[h0,eP];exact Ak fun j v hv=>by have:=h (j+1) v (by simpa using hv);rwa[show i+1+j=i+(j+1) by omega]
theorem Bn.is {k:Nat} {l:List XC} {r:XM} (h:Bn k l r):Ms k l r.mem r.g=true:=by
 obtain⟨e,he,_⟩:=uH (k:=k) (l:=l) (g:=r.g.threads) h.len.symm h.fits;unfold Ms Jt gP;rw[h.MJ,h.len,eP,he];simp only[show aX (bq 0 0)=false from rfl,show aX true=false from rfl,cond_false];rw[h.mem,Ak fun j v hv=>?_]
 ·simp only[eP,aX,cond_true,cond_false];rfl
 have hj:=(gA.1 hv).1;have:=h.last j (by rw[<-h.mem];exact hj);rw[hv] at this;rw[nA_];exact Option.some.inj this
theorem G0 {g:XG} (h:wF g) {ln:Nat} {r:List dU} {id:dU} (hr:g.order[ln]?=some r) (hm:id∈r):∃w,eH g id=some w:=by
 have h1:=h.perm.mem_iff.2 (vo (loc:=0) hr hm);obtain⟨s,i,l,e,k1,k2,_,k4,_⟩:=pC.1 h1;have e1:id=⟨.ofNat (s+1),.ofNat i⟩:=z7 (by rw[k4,nA_];rfl);subst e1;exact⟨e,by rw[og,k1];exact k2⟩
theorem IF {g:XG} {ln:Nat} (h:ln<g.init.length):∃w,eH g ⟨0,.ofNat ln⟩=some w:=by
 refine⟨⟨2,ln,1,0,g.init[ln]⟩,?_⟩;show(g.init[ln]?).map _=_;rw[gC h];rfl
theorem rq {g:XG} (hc:cr g=0) {ln:Nat} {r:List dU} (hr:g.order[ln]?=some r):rp g (.ofNat ln)=(zd (eH g ((r.getLast?).getD ⟨0,.ofNat ln⟩))).write:=by
 unfold rp;rw[gY (by rw[hc];rfl) hr];cases h:r.getLast? with
 | none=>rw[List.getLast?_eq_none_iff.1 h];rfl
 | some x=>
  obtain⟨P,rfl⟩:=List.getLast?_eq_some_iff.1 h;rw[<-List.cons_append,List.getLast?_append];rfl
theorem ns {g:XG} (hc:cr g=0) {ln:Nat} (h:ln<g.init.length):∃r,g.order[ln]?=some r:=bX (by rw[(kN.1 hc).order];exact h)
theorem EO {g g':XG} (hc:cr g=0) (hc':cr g'=0) (hold:∀id w,eH g id=some w->eH g' id=some w) {ln:Nat} (h:ln<g.init.length) (ho:g'.order[ln]?=g.order[ln]?):rp g' (.ofNat ln)=rp g (.ofNat ln):=by
 obtain⟨r,hr⟩:=ns hc h;rw[rq hc hr,rq hc' (by rw[ho];exact hr)]
 have:∃w,eH g ((r.getLast?).getD ⟨0,.ofNat ln⟩)=some w:=by
  cases hl:r.getLast? with
  | none=>exact IF h
  | some x=>exact G0 (kN.1 hc) hr (List.mem_of_getLast? hl)
 obtain⟨w,hw⟩:=this;rw[hw,hold _ _ hw]
theorem FD {g g':XG} {th pl:Int} {e:cW} {fr:dU} (h:m9 g th e fr pl=(some g',0)):g'.init=g.init:=by
 obtain⟨_,tm,row,frow,_,_,_,_,_,rfl,_⟩:=kQ h;rfl
theorem HY {g g':XG} {tm:Nat} {pl:Int} {e:cW} {fr:dU} (h:m9 g (.ofNat (tm+1)) e fr pl=(some g',0)):∃row,g.threads[tm]?=some row/\g'.threads=g.threads.set tm (row++[e]):=by
 obtain⟨_,t2,row,frow,ht,h1,_,_,_,rfl,_⟩:=kQ h;have:tm=t2:=by have:=iJ_ ht;omega
 subst this;exact⟨row,h1,by rw[sl]⟩
theorem Ea {g g':XG} {th pl:Int} {e:cW} {fr:dU} (h:m9 g th e fr pl=(some g',0)) {ln:Nat} (hl:bC e=true->e.loc≠ .ofNat ln):g'.order[ln]?=g.order[ln]?:=by
 obtain⟨_,tm,row,frow,_,_,_,_,hp,rfl,_⟩:=kQ h;rw[sl];refine Du fun hw=>?_
 obtain⟨l2,r,h1,_⟩:=qT hp hw;have:=hl hw;rw[h1] at this⊢;exact fun e=>this (by rw[<-e];rfl)
theorem Bu {g g':XG} {tm ln:Nat} {e:cW} {fr:dU} {r:List dU} (hr:g.order[ln]?=some r) (h:m9 g (.ofNat (tm+1)) e fr (.ofNat (r.length+1))=(some g',0)) (hw:bC e=true) (hl:e.loc= .ofNat ln):∃row,g.threads[tm]?=some row/\g'.order[ln]?=some (r++[⟨.ofNat (tm+1),.ofNat row.length⟩]):=by
 obtain⟨_,t2,row,frow,ht,h1,_,_,_,rfl,_⟩:=kQ h;have:tm=t2:=by have:=iJ_ ht;omega
 subst this;refine⟨row,h1,?_⟩;rw[sl];show(E5 g.order e _ _)[ln]?=_;unfold E5;rw[hw,hl];have hlt:=(gA.1 hr).1;simp only[cond_true];rw[show(Int.ofNat ln).toNat=ln from rfl,hr];rw[List.getElem?_set_self hlt];show some (List.take ((Int.ofNat (r.length+1)).toNat-1) r++_::List.drop ((Int.ofNat (r.length+1)).toNat-1) r)=_;rw[show(Int.ofNat (r.length+1)).toNat-1=r.length from rfl,List.take_length,List.drop_length]
theorem Au {n:pK} {m:List Int} {g:XG} (h:bq n.event.kind 4=true):kh n m g=⟨n.event,⟨0,0⟩,0,m⟩:=by unfold kh;rw[h];rfl
theorem zl {a:qd} {v:Int} (h:a.kind=2∨a.kind=4∨a.kind=5∨a.kind=6):(cU a v).loc=a.loc/\(dz (cU a v)=true):=by
 refine⟨?_,(jJ h).1⟩;unfold cU;rcases h with h | h | h | h<;>rw[h]
 ·rfl
 ·exact bV (P:=fun e:cW=>e.loc=a.loc) (bq v a.a) rfl rfl
 ·rfl
 rfl
structure Bt (k:Nat) (l:List XC) (r:XM) (t:Nat) (c:XC) (row:List cW) (p:Bq) (r':XM):Prop where
 code:l[t]?=some c
 rowAt:r.g.threads[t]?=some row
 err:BY k c row r.g=0
 sE:p=kh (da k c row).1 r.mem r.g
 add:m9 r.g (.ofNat (t+1)) p.wm p.fr p.place=(some r'.g,0)
 mem:r'.mem=p.mem
theorem Hl {k:Nat} {l:List XC} {r r':XM} {t:Nat} (h:AO k l r t=(some r',0)):∃c row p,Bt k l r t c row p r':=by
 unfold AO at h;cases h1:l[t]? with
 | none=>rw[h1] at h;cases h
 | some c=>
 cases h2:r.g.threads[t]? with
 | none=>rw[h1,h2] at h;cases h
 | some row=>
 rw[h1,h2] at h;dsimp only at h;cases h3:bq (BY k c row r.g) 0 with
 | false=>rw[h3] at h;cases h
 | true=>
  rw[h3] at h;have h:Le (kh (da k c row).1 r.mem r.g) (.ofNat (t+1)) r.g=(some r',0):=h;unfold Le at h;cases h4:m9 r.g (.ofNat (t+1)) (kh (da k c row).1 r.mem r.g).wm (kh (da k c row).1 r.mem r.g).fr (kh (da k c row).1 r.mem r.g).place with
  | mk o e=>
   rw[h4] at h;cases o with
   | none=>cases h
   | some g'=>
    simp only[Prod.mk.injEq,oJ_] at h;obtain⟨rfl,rfl⟩:=h;exact⟨c,row,_,h1,h2,Ik h3,rfl,h4,rfl⟩
theorem Bt.step {k:Nat} {l:List XC} {r r':XM} {t:Nat} {c:XC} {row:List cW} {p:Bq} (h:Bt k l r t c row p r'):AO k l r t=(some r',0):=by
 unfold AO;rw[h.code,h.rowAt];dsimp only;rw[h.err,<-h.sE];show Le p _ _=_;unfold Le;rw[h.add];dsimp only;obtain⟨m,g⟩:=r';have:=h.mem;dsimp only at this;subst this;rfl
theorem Eu {k:Nat} {c:XC} {row:List cW} {g:XG} (h:BY k c row g=0):(da k c row).2=0/\(da k c row).1.fin=0/\row.length<14/\uf (da k c row).1 g=false:=by
 unfold BY at h;cases h1:bq (da k c row).2 0 with
 | false=>
  rw[h1] at h;have h:(da k c row).2=0:=h;rw[h] at h1;cases h1
 | true=>
 rw[h1] at h;cases h2:bq (da k c row).1.fin 0 with
 | false=>rw[h2] at h;cases h
 | true=>
 rw[h2] at h;cases h3:bG (.ofNat row.length) 14 with
 | false=>rw[h3] at h;cases h
 | true=>
 rw[h3] at h;cases h4:uf (da k c row).1 g with
 | true=>rw[h4] at h;cases h
 | false=>exact⟨Ik h1,Ik h2,bm (b:=14) h3,rfl⟩
theorem r6 {n:pK} {g:XG} (h:uf n g=false) (hk:bq n.event.kind 4=false):∃ln:Nat,rv n= .ofNat ln/\ln<g.init.length:=by
 unfold uf at h;rw[hk] at h;have h:(bif bG (rv n) 0 then true else aX (bG (rv n) (.ofNat g.init.length)))=false:=h;cases h1:bG (rv n) 0 with
 | true=>rw[h1] at h;cases h
 | false=>
  rw[h1] at h;obtain⟨ln,hl⟩:=mw h1;rw[hl] at h⊢;exact⟨ln,rfl,bm (bx h)⟩
theorem qc {g g':XG} {th:Int} {e:cW} {fr:dU} {ln:Nat} (h:m9 g th e fr (.ofNat (dR g (.ofNat ln)).length)=(some g',0)) (hl:ln<g.init.length):bC e=true:=by
 obtain⟨hc,_,_,_,_,_,_,_,hb,_,_⟩:=kQ h;unfold jS at hb;obtain⟨o,ho⟩:=ns hc hl;cases hw:bC e with
 | true=>rfl
 | false=>rw[hw,gY (by rw[hc];rfl) ho] at hb;cases hb
structure Br (k:Nat) (c:XC) (row:List cW) (r:XM) (p:Bq):Prop where
 fits:nH k c (row++[p.wm])
 look:bq (da k c row).1.event.kind 4=false->∃ln:Nat,ln<r.g.init.length/\rv (da k c row).1= .ofNat ln/\p.wm.loc= .ofNat ln/\p.wm.kind≠4
 cases:(p.wm.kind=4/\p.mem=r.mem/\p.place=0)∨∃ln:Nat,ln<r.g.init.length/\p.wm.loc= .ofNat ln/\p.wm.kind≠4/\((bC p.wm=false/\p.mem=r.mem/\p.place=0)∨(bC p.wm=true/\p.mem=r.mem.set ln p.wm.write/\p.place= .ofNat (dR r.g (.ofNat ln)).length))
theorem Dh {e:cW} {n:Int} (h:bq e.kind n=false):e.kind≠n:=fun hh=>by rw[hh,eP] at h;cases h
theorem IV {k:Nat} {c:XC} {row:List cW} {r:XM} {th:Int} {g':XG} (h:BY k c row r.g=0) (hadd:m9 r.g th (kh (da k c row).1 r.mem r.g).wm (kh (da k c row).1 r.mem r.g).fr (kh (da k c row).1 r.mem r.g).place=(some g',0)):Br k c row r (kh (da k c row).1 r.mem r.g):=by
 obtain⟨h1,h2,h3,h4⟩:=Eu h;rcases Am h1 with ⟨e,he,hf,hr⟩ | ⟨a,ha,hk,hf⟩ | ⟨n,hn⟩
 ·have key:∀p:Bq,kh (da k c row).1 r.mem r.g=p->Br k c row r p:=by
   rw[he] at h4 hadd⊢;intro p hp;rw[hp] at hadd;dsimp only at h4;cases h5:bq e.kind 4 with
   | true=>
    rw[Au h5] at hp;subst hp;exact⟨hf,fun hh=>(by rw[he] at hh;dsimp only at hh;rw[h5] at hh;cases hh),.inl ⟨J5 h5,rfl,rfl⟩⟩
   | false=>
    obtain⟨ln,hl,hlt⟩:=r6 h4 h5;have hl':e.loc= .ofNat ln:=hl;unfold kh at hp;rw[hl] at hp;dsimp only at hp;rw[h5,show bq jd.kind 0=true from rfl] at hp;simp only[show aX true=false from rfl,cond_false] at hp;cases h6:bq e.kind 1 with
    | true=>
     have:dz e=true:=by unfold dz;rw[h6];rfl
     rw[this] at hr;cases hr
    | false=>
     rw[h6] at hp;simp only[show aX false=true from rfl,cond_true] at hp;subst hp;exact⟨hf,fun _=>⟨ln,hlt,by rw[he];exact hl,hl',Dh h5⟩,.inr ⟨ln,hlt,hl',Dh h5,.inr ⟨qc hadd hlt,rfl,rfl⟩⟩⟩
  exact key _ rfl
 ·have key:∀p:Bq,kh (da k c row).1 r.mem r.g=p->Br k c row r p:=by
   rw[ha] at h4 hadd⊢;intro p hp;rw[hp] at hadd;have hk0:bq a.kind 0=false:=by rcases hk with e | e | e | e<;>rw[e]<;>rfl
   have hL:rv ⟨sy,a,0⟩=a.loc:=by unfold rv;dsimp only;rw[hk0];rfl
   obtain⟨ln,hl,hlt⟩:=r6 h4 rfl;unfold kh at hp;rw[hl] at hp;dsimp only at hp;rw[hk0,show bq sy.kind 4=false from rfl] at hp;simp only[show aX false=true from rfl,cond_true,cond_false] at hp;have hl2:∀v,(cU a v).loc= .ofNat ln:=fun v=>by rw[(zl hk).1,<-hL,hl]
   have hk4:∀v,(cU a v).kind≠4:=fun v e4=>by
    have h5:=(jJ (v:=v) hk).1;unfold dz at h5;rw[e4] at h5;cases h5
   generalize hv:(r.mem[(Int.ofNat ln).toNat]?).getD 0=v at hp;have hlook:rv (da k c row).1= .ofNat ln:=by rw[ha];exact hl
   cases h6:bq (cU a v).kind 1 with
   | true=>
    rw[h6] at hp;simp only[show aX true=false from rfl,cond_false] at hp;subst hp;refine⟨hf v,fun _=>⟨ln,hlt,hlook,hl2 v,hk4 v⟩,.inr ⟨ln,hlt,hl2 v,hk4 v,.inl ⟨?_,rfl,rfl⟩⟩⟩;show bC (cU a v)=false;unfold bC;rw[J5 h6];rfl
   | false=>
    rw[h6] at hp;simp only[show aX false=true from rfl,cond_true] at hp;subst hp;exact⟨hf v,fun _=>⟨ln,hlt,hlook,hl2 v,hk4 v⟩,.inr ⟨ln,hlt,hl2 v,hk4 v,.inr ⟨qc hadd hlt,rfl,rfl⟩⟩⟩
  exact key _ rfl
 rw[hn] at h4 hadd;exfalso;obtain⟨ln,hl,hlt⟩:=r6 h4 rfl;obtain⟨hc,_,_,_,_,_,_,_,hp,_,_⟩:=kQ hadd;have hp:(!bq (.ofNat (dR r.g (rv ⟨sy,jd,n⟩)).length) 0)=false:=hp;obtain⟨q,hq⟩:=ns hc hlt;rw[hl,gY (by rw[hc];rfl) hq] at hp;cases hp
theorem Bn.step {k:Nat} {l:List XC} {r r':XM} {t:Nat} (h:Bn k l r) (hs:AO k l r t=(some r',0)):Bn k l r'/\r'.g.init=r.g.init:=by
 obtain⟨c,row,p,hp⟩:=Hl hs;have hadd:=hp.add;rw[hp.sE] at hadd;have hok:=IV hp.err hadd;rw[<-hp.sE] at hok hadd;obtain⟨tm,row',ht,k1,hck,hck',hnew,_,_,hold,_⟩:=D0 hadd;have hi:=FD hadd;obtain⟨row2,hr2,hth⟩:=HY hadd;rw[hp.rowAt] at hr2;cases hr2;have hlen:r'.g.threads.length=l.length:=by rw[hth,List.length_set];exact h.len
 have htm:tm=t:=by have:=iJ_ ht;omega
 subst htm;rw[hp.rowAt] at k1;cases k1;refine⟨⟨hck',hlen,?_,fun i hlt=>?_,fun t2 c2 row2 h1 h2=>?_⟩,hi⟩
 ·rw[hp.mem,hi,<-h.mem];rcases hok.cases with ⟨_,e,_⟩ | ⟨ln,_,_,_,⟨_,e,_⟩ | ⟨_,e,_⟩⟩<;>rw[e]
  rw[List.length_set]
 ·rw[hi] at hlt;rw[hp.mem];have same:(bC p.wm=true->p.wm.loc≠ .ofNat i)->rp r'.g (.ofNat i)=rp r.g (.ofNat i):=fun hw=>EO hck hck' hold hlt (Ea hadd hw)
  rcases hok.cases with ⟨e1,e,_⟩ | ⟨ln,hln,hloc,_,⟨e1,e,_⟩ | ⟨hw,e,epl⟩⟩
  ·rw[e,same (fun hw=>by unfold bC at hw;rw[e1] at hw;cases hw)];exact h.last i hlt
  ·rw[e,same (fun hw=>by rw[e1] at hw;cases hw)];exact h.last i hlt
  rw[e]
  by_cases hil:ln=i
  ·subst hil;rw[List.getElem?_set_self (by rw[h.mem];exact hln)];obtain⟨q,hq⟩:=ns hck hln;have hpl:p.place= .ofNat (q.length+1):=by rw[epl,gY (by rw[hck];rfl) hq];rfl
   rw[hpl] at hadd;obtain⟨row3,h3,ho⟩:=Bu hq hadd hw hloc;rw[hp.rowAt] at h3;cases h3;rw[rq hck' ho,List.getLast?_append];show some p.wm.write=some (zd (eH r'.g ⟨.ofNat (tm+1),.ofNat row.length⟩)).write;rw[hnew];rfl
  rw[List.getElem?_set_ne hil,same (fun _=>by rw[hloc];exact fun e=>hil (iJ_ e))];exact h.last i hlt
 rw[hth] at h2
 by_cases e:tm=t2
 ·subst e;rw[List.getElem?_set_self (gA.1 hp.rowAt).1] at h2;rw[hp.code] at h1;cases h1;cases h2;exact hok.fits
 rw[List.getElem?_set_ne e] at h2;exact h.fits t2 c2 row2 h1 h2
theorem Bn.start {k:Nat} {l:List XC} {init:List Int} (hl:l.length<=4) (hi:init.length<=6) (hf:∀c∈l,ij k c=true):Bn k l ⟨init,⟨init,List.replicate l.length [],List.replicate l.length [],List.replicate init.length []⟩⟩:=by
 have hw:∀n t,fQ (List.replicate n []) t= []:=by
  intro n;induction n with
  | zero=>intro t;rfl
  | succ n ih=>intro t;show fo t [] 0++fQ (List.replicate n []) (t+1)= [];rw[ih];rfl
 have ho:∀n t,kF (List.replicate n []) t= []:=by
  intro n;induction n with
  | zero=>intro t;rfl
  | succ n ih=>intro t;show ff t []++kF (List.replicate n []) (t+1)= [];rw[ih];rfl
 have hr:wF ⟨init,List.replicate l.length [],List.replicate l.length [],List.replicate init.length []⟩:=by
  refine⟨by simpa using hl,hi,fun i x hx=>?_,by simp,by simp,fun i x f hx hf=>?_,?_⟩
  ·have:=eR_ (gB_ hx);subst this;exact Nat.zero_le _
  ·have h1:=eR_ (gB_ hx);have h2:=eR_ (gB_ hf);subst h1;subst h2;exact⟨rfl,fun j e q he=>by simp at he⟩
  show(fQ (List.replicate l.length []) 0).Perm (kF (List.replicate init.length []) 0);rw[hw,ho]
 have hc:=kN.2 hr;refine⟨hc,by simp,rfl,fun i hlt=>?_,fun t c row h1 h2=>?_⟩
 ·have hq:(List.replicate init.length ([]:List dU))[i]?=some []:=by
   rw[gC (by simpa using hlt)];simp
  rw[rq hc hq];show init[i]?=some (zd ((init[i]?).map fun v=>(⟨2,i,1,0,v⟩:cW))).write;rw[gC hlt];rfl
 have h3:=eR_ (gB_ h2);subst h3;exact Gh (hf c (gB_ h1))
theorem St.rk {σ:aD} {K:KP} {M L:Own} (h:St σ K (M++L)):∃K1,KP.le K K1/\(∀e∈M,K1 e.1 e.2)/\St σ K1 L:=⟨K.gG M,KP.bF _ _,fun e he=>.inr he,h.keeps⟩
theorem C6 {nx:Nat->List Nat} {n:Nat} (hnx:∀i,i<n->∀to∈nx i,to<n):∀{f:Nat} {s:DS} {out:List Nat},Jo nx n s->wg nx f s=some out->out.length<=s.out.length+im nx n s
 | 0,_,_,_,h=>by cases h
 | f+1,s,out,hw,h=>by
  unfold wg at h;cases hl:s.path.getLast? with
  | none=>
   rw[hl] at h;simp only[oJ_] at h;subst h;omega
  | some a=>
   rw[hl] at h;dsimp only at h;cases hd:jt nx s a with
   | none=>rw[hd] at h;cases h
   | some s'=>
    rw[hd] at h;obtain⟨h1,_,h3⟩:=mK hw hnx hl hd;have:=C6 hnx h1 h;omega
theorem pj {k:Nat} {c:XC} (hc:ew k c) {out:List Nat} (h:fg c=some out):out.length<=16001:=by
 have:=C6 (rB hc) (uw hc.pos) (show wg _ _ _=some out from h);rw[Dj] at this;have h1:(wo c.ins.length).out.length=0:=rfl;have h2:=AZ (c:=c);have h3:=hc.len;omega
theorem vV {k:Nat} {c:XC} {s:TS} {x:XI} (hx:c.ins[s.at_]?=some x) (h:(bI k c s).2=true):(bI k c s).1.at_∈cH c s.at_:=by
 obtain⟨P,hP⟩:∃P:TS×Bool->Prop,P=fun r=>r.2=true->r.1.at_∈cH c s.at_:=⟨_,rfl⟩
 have hN:cH c s.at_=(fM x s.at_).map Int.toNat:=by unfold cH;rw[hx]
 have hno:∀r:TS×Bool,r.2=false->P r:=fun r h1=>by rw[hP];intro h2;rw[h1] at h2;cases h2
 have hon:(bq x.kind 10=false)->(bq x.kind 12=false)->(bq x.kind 13=false)->∀r:TS×Bool,r.1.at_=s.at_+1->P r:=fun h0 h2 h3 r h1=>by
  rw[hP];intro _;rw[h1,hN];unfold fM;rw[h0,h2,h3];cases bq x.kind 11<;>simp
 have ne:∀(a b:Int),bq x.kind a=true->a≠b->bq x.kind b=false:=fun a b h h'=>by
  rw[dq,decide_eq_true_iff] at h;rw[dq,decide_eq_false_iff_not,h];exact h'
 have:P (bI k c s):=by
  unfold bI;rw[hx];dsimp only;unfold dn
  refine dT _ (fun e=>hon (ne _ _ e (by decide)) (ne _ _ e (by decide)) (ne _ _ e (by decide)) _ rfl) fun e1=>dT _ (fun e=>hon (ne _ _ e (by decide)) (ne _ _ e (by decide)) (ne _ _ e (by decide)) _ rfl) fun e3=>dT _ (fun e=>hon (ne _ _ e (by decide)) (ne _ _ e (by decide)) (ne _ _ e (by decide)) _ rfl) fun e7=>
   dT _ (fun e=>bV _ (hno _ rfl) (hon (ne _ _ e (by decide)) (ne _ _ e (by decide)) (ne _ _ e (by decide)) _ rfl)) fun e8=>dT _ (fun e=>bV _ (hno _ rfl) (hon (ne _ _ e (by decide)) (ne _ _ e (by decide)) (ne _ _ e (by decide)) _ rfl)) fun e9=>
   dT _ (fun e=>?_) fun e10=>dT _ (fun e=>bV _ ?_ (hon (ne _ _ e (by decide)) (ne _ _ e (by decide)) (ne _ _ e (by decide)) _ rfl)) fun e11=>dT _ (fun _=>hno _ rfl) fun e12=>dT _ (fun _=>hno _ rfl) fun e13=>hno _ rfl
  ·rw[hP];intro _;rw[hN];unfold fM;rw[e];simp
  rw[hP];intro _;rw[hN];unfold fM;rw[ne _ 10 e (by decide),e];simp
 rw[hP] at this;exact this h
theorem pA {k:Nat} {c:XC} {s:TS}:(bI k c s).1.aP.length=s.aP.length/\(bI k c s).1.events.length<=s.events.length+1:=by
 obtain⟨P,hP⟩:∃P:TS×Bool->Prop,P=fun r=>r.1.aP.length=s.aP.length/\r.1.events.length<=s.events.length+1:=⟨_,rfl⟩
 have h0:∀r:TS×Bool,r.1.aP=s.aP->r.1.events=s.events->P r:=fun r h1 h2=>by rw[hP];dsimp only;rw[h1,h2];exact⟨rfl,by omega⟩
 have h1:∀(r:TS×Bool) (e:cW),r.1.aP=s.aP->r.1.events=s.events++[e]->P r:=fun r e h1 h2=>by rw[hP];dsimp only;rw[h1,h2];exact⟨rfl,by simp⟩
 have:P (bI k c s):=by
  unfold bI;cases hx:c.ins[s.at_]? with
  | none=>exact h0 _ rfl rfl
  | some x=>
   dsimp only;unfold dn;refine bV _ (by rw[hP];exact⟨List.length_set ..,by dsimp only;omega⟩) (bV _ (h1 _ _ rfl rfl) (bV _ (h1 _ _ rfl rfl) (bV _ (bV _ (h0 _ rfl rfl) (h0 _ rfl rfl)) (bV _ (bV _ (h0 _ rfl rfl) (h0 _ rfl rfl)) (bV _ (h0 _ rfl rfl) (bV _ (bV _ (h0 _ rfl rfl) (h0 _ rfl rfl)) (bV _ (h0 _ rfl rfl) (bV _ (h0 _ rfl rfl) (h0 _ rfl rfl)))))))))
 rw[hP] at this;exact this
structure MC (c:XC) (s:TS):Prop where
 at_:s.at_<c.ins.length
 aP:s.aP.length=c.aP.toNat
 events:s.events.length<=1000000
theorem results_none {P:Program} {fn:Func} {t:PT AV} {σ:aD} (hr:fn.results.toList= []):dX P fn t σ=some (.tuple []):=by
 unfold dX;rw[hr];rfl
theorem zM {P:Program} {fn:Func} {R:AV->aD->Prop} {t:PT AV} {σ:aD} (hr:fn.results.toList= []) (hR:R (.tuple []) σ):Er P fn R .normal t σ:=⟨.inl rfl,_,results_none hr,hR⟩
structure tF (c:XC) (out:List Nat) (s:TS):Prop where
 at_:s.at_∈out
 aP:s.aP.length=c.aP.toNat
theorem qM {k:Nat} {c:XC} {s:TS} (h:(bI k c s).2=false):(bI k c s).1.at_=s.at_:=by
 obtain⟨P,hP⟩:∃P:TS×Bool->Prop,P=fun r=>r.2=false->r.1.at_=s.at_:=⟨_,rfl⟩
 have hy:∀r:TS×Bool,r.2=true->P r:=fun r h1=>by rw[hP];intro h2;rw[h1] at h2;cases h2
 have hn:∀r:TS×Bool,r.1.at_=s.at_->P r:=fun r h1=>by rw[hP];exact fun _=>h1
 have:P (bI k c s):=by
  unfold bI;cases hx:c.ins[s.at_]? with
  | none=>exact hn _ rfl
  | some x=>
   dsimp only;unfold dn;exact bV _ (hy _ rfl) (bV _ (hy _ rfl) (bV _ (hy _ rfl) (bV _ (bV _ (hn _ rfl) (hy _ rfl)) (bV _ (bV _ (hn _ rfl) (hy _ rfl)) (bV _ (hy _ rfl) (bV _ (bV _ (hy _ rfl) (hy _ rfl)) (bV _ (hn _ rfl) (bV _ (hn _ rfl) (hn _ rfl)))))))))
 rw[hP] at this;exact this h
theorem tF.lt {c:XC} {out:List Nat} {s:TS} (h:tF c out s) (hR:eF (cH c) c.ins.length out):s.at_<c.ins.length:=hR.lt _ h.at_
theorem tF.step {k:Nat} {c:XC} {out:List Nat} {s:TS} (h:tF c out s) (hR:eF (cH c) c.ins.length out):tF c out (bI k c s).1:=by
 refine⟨?_,by rw[pA.1];exact h.aP⟩;cases hb:(bI k c s).2 with
 | false=>rw[qM hb];exact h.at_
 | true=>
  obtain⟨x,hx⟩:=bX (h.lt hR);obtain⟨q,hq⟩:=gO_ h.at_;obtain⟨q',_,hq'⟩:=hR.yD q _ hq _ (vV hx hb);exact gB_ hq'
theorem B6 {k:Nat} {c:XC} {out:List Nat} (hR:eF (cH c) c.ins.length out):∀{f:Nat} {s:TS},tF c out s->tF c out (tC k c f s)/\(tC k c f s).events.length<=s.events.length+f
 | 0,s,h=>⟨h,nR_ _⟩
 | f+1,s,h=>by
  have h1:=h.step (k:=k) hR;have h2:=(pA (k:=k) (c:=c) (s:=s)).2;obtain⟨h3,h4⟩:=B6 (k:=k) hR (f:=f) h1;show tF c out (bif (bI k c s).2 then tC k c f (bI k c s).1 else(bI k c s).1)/\(bif (bI k c s).2 then tC k c f (bI k c s).1 else(bI k c s).1).events.length<=_;cases (bI k c s).2 with
  | true=>exact⟨h3,by simp only[cond_true];omega⟩
  | false=>exact⟨h1,by simp only[cond_false];omega⟩
theorem rf {k:Nat} {c:XC} {j:Nat} {s:TS} (hj:1<=j) (h:(bI k c s).2=true):tC k c j s=tC k c (j-1) (bI k c s).1:=by
 obtain⟨i,rfl⟩:∃i,j=i+1:=⟨j-1,by omega⟩;show(bif (bI k c s).2 then _ else _)=_;rw[h];rfl
theorem uO {k:Nat} {c:XC} {j:Nat} {s:TS} (hj:1<=j) (h:(bI k c s).2=false):tC k c j s=(bI k c s).1:=by
 obtain⟨i,rfl⟩:∃i,j=i+1:=⟨j-1,by omega⟩;show(bif (bI k c s).2 then _ else _)=_;rw[h];rfl
theorem mW {k:Nat} {c:XC} {out:List Nat} {s:TS} {x:XI} {q:Nat} (hR:eF (cH c) c.ins.length out) (hx:c.ins[s.at_]?=some x) (hq:out[q]?=some s.at_) (h:(bI k c s).2=true):∃q',q'<q/\out[q']?=some (bI k c s).1.at_:=hR.yD q _ hq _ (vV hx h)
def gg (c:XC):TS:=⟨0,List.replicate c.aP.toNat 0,[],0,0,false⟩
theorem vU {c:XC} {out:List Nat} (hR:eF (cH c) c.ins.length out):tF c out (gg c):=⟨hR.zero,List.length_replicate ..⟩
theorem Eb {k:Nat} {c:XC} {out:List Nat} (ho:fg c=some out) (hR:eF (cH c) c.ins.length out):tF c out (iW k c)/\(iW k c).events.length<=out.length:=by
 obtain⟨h1,h2⟩:=B6 (k:=k) hR (f:=ik c) (vU hR);have:ik c=out.length:=by unfold ik;rw[ho];rfl
 refine⟨h1,?_⟩;have h3:(gg c).events.length=0:=rfl;rw[h3,this] at h2;show(tC k c (ik c) (gg c)).events.length<=_;rw[this];omega
theorem nV {k:Nat} {c:XC} (hc:ew k c) {out:List Nat} (hR:eF (cH c) c.ins.length out) {s:TS} (h:tF c out s) (ha:kf c s) (hs:s.asks=true) (v:Int):tF c out (dW k c s v):=by
 refine⟨?_,by show(s.aP.set _ _).length=_;rw[List.length_set];exact h.aP⟩;obtain⟨x,hx,hk⟩:=ha hs;obtain⟨q,hq⟩:=gO_ h.at_
 have:s.at_+1∈cH c s.at_:=by
  unfold cH;rw[hx];dsimp only;unfold fM;rcases hk with hk | hk | hk | hk<;>rw[hk]<;>show s.at_+1∈[s.at_+1]<;>simp
 obtain⟨q',_,hq'⟩:=hR.yD q _ hq _ this;exact gB_ hq'
theorem Bx {k:Nat} {c:XC} (hc:ew k c) {out:List Nat} (ho:fg c=some out) (hR:eF (cH c) c.ins.length out) {s:TS} (h:tF c out s) (ha:kf c s) (hs:s.asks=true) (v:Int):
  tF c out (dD k c s v)/\(dD k c s v).events.length<=s.events.length+1+out.length/\(dD k c s v).asked=s.asked+1:=by
 obtain⟨h1,h2⟩:=B6 (k:=k) hR (f:=ik c) (nV hc hR h ha hs v);have hf:ik c=out.length:=by unfold ik;rw[ho];rfl
 refine⟨h1,?_,(mQ k c (ik c) (dW k c s v)).2⟩;have:(dW k c s v).events.length=s.events.length+1:=by show(s.events++[_]).length=_;simp
 rw[this,hf] at h2;unfold dD;rw[hf];exact h2
theorem iK {es:List cW} {i:Nat} {e:cW} (h:es[i]?=some e):cT (es.take (i+1))=cT (es.take i)++(bif dz e then [e.read] else []):=by
 rw[List.take_add_one,h,gV];show cT _++cT [e]=_;cases hr:dz e with
 | true=>rw[qI hr];rfl
 | false=>rw[sF hr];rfl
theorem kM (es:List cW):(cT es).length<=es.length:=by unfold cT;rw[lM_];exact List.length_filter_le ..
theorem Hi {k:Nat} {c:XC} {A:List Int} {i:Nat} {v:Int} {s:TS} (h:A[i]?=some v) (ha:s.asks=true):iV k c (A.drop i) s=iV k c (A.drop (i+1)) (dD k c s v):=by
 rw[cL h];show(bif s.asks then _ else _)=_;rw[ha];rfl
theorem I0 {k:Nat} {c:XC} {A:List Int} {i:Nat} {v:Int} {s:TS} (h:A[i]?=some v) (ha:s.asks=false):iV k c (A.drop i) s=s:=by
 rw[cL h];show(bif s.asks then _ else _)=_;rw[ha];rfl
theorem Hg {k:Nat} {c:XC} {A:List Int} {i:Nat} {s:TS} (h:A.length<=i):iV k c (A.drop i) s=s:=by rw[fy h];rfl
def xm (n:pK):List AV:=ints n.event.ints++ints n.ask.ints++[.int .i64 n.fin]
def Bp (m:List Int) (x0 x1 x2 x3 x4 x5:Int):Prop:=[x0,x1,x2,x3,x4,x5]=m++List.replicate (6-m.length) 0
abbrev c6 (x0 x1 x2 x3 x4 x5:Int) (a b c d:AV):List AV:=[.int .i64 x0,.int .i64 x1,.int .i64 x2,.int .i64 x3,.int .i64 x4,.int .i64 x5,a,b,c,d]
theorem Bp.le {m:List Int} {x0 x1 x2 x3 x4 x5:Int} (h:Bp m x0 x1 x2 x3 x4 x5):m.length<=6:=by
 have:=congrArg List.length h;rw[lA_,List.length_replicate] at this;have e: [x0,x1,x2,x3,x4,x5].length=6:=rfl;omega
theorem Bp.at_ {m:List Int} {x0 x1 x2 x3 x4 x5:Int} (h:Bp m x0 x1 x2 x3 x4 x5) {a b c d:AV} {ln:Nat} (hl:ln<m.length):∃y,m[ln]?=some y/\nth (c6 x0 x1 x2 x3 x4 x5 a b c d) (0+ln*1)=some (.int .i64 y):=by
 have h6:=h.le;obtain⟨y,hy⟩:=bX hl;have: [x0,x1,x2,x3,x4,x5][ln]?=some y:=by rw[show [x0,x1,x2,x3,x4,x5]=_ from h,gL_ hl];exact hy
 refine⟨y,hy,?_⟩;rw[fC,Nat.mul_one,nA_];have hl6:ln<6:=by omega
 match ln,hl6 with
 | 0,_ | 1,_ | 2,_ | 3,_ | 4,_ | 5,_=>cases this;rfl
theorem Bp.set {m:List Int} {x0 x1 x2 x3 x4 x5:Int} (h:Bp m x0 x1 x2 x3 x4 x5) {a b c d:AV} {ln:Nat} (hl:ln<m.length) (v:Int):∃y0 y1 y2 y3 y4 y5,dA [.int .i64 v] (c6 x0 x1 x2 x3 x4 x5 a b c d) (0+ln*1)=c6 y0 y1 y2 y3 y4 y5 a b c d/\Bp (m.set ln v) y0 y1 y2 y3 y4 y5:=by
 have h6:=h.le;have hs: [x0,x1,x2,x3,x4,x5].set ln v=m.set ln v++List.replicate (6-(m.set ln v).length) 0:=by rw[show [x0,x1,x2,x3,x4,x5]=_ from h,List.set_append_left _ _ hl,List.length_set]
 have hl6:ln<6:=by omega
 match ln,hl6 with
 | 0,_=>exact⟨v,x1,x2,x3,x4,x5,rfl,hs⟩
 | 1,_=>exact⟨x0,v,x2,x3,x4,x5,rfl,hs⟩
 | 2,_=>exact⟨x0,x1,v,x3,x4,x5,rfl,hs⟩
 | 3,_=>exact⟨x0,x1,x2,v,x4,x5,rfl,hs⟩
 | 4,_=>exact⟨x0,x1,x2,x3,v,x5,rfl,hs⟩
 | 5,_=>exact⟨x0,x1,x2,x3,x4,v,rfl,hs⟩
theorem kK {α:Type} {K:KP} {m b e n:Nat} {R:α->List AV->Prop} (h:K b (.row (List.replicate n .aK) e false)) (hn:n<=1000000):bJ K 1 (RL K m R) (List.replicate n []) (.slice b 0 n (.known n)):=by
 refine .inr ⟨b,0,_,_,e,false,by rw[List.length_replicate],.inr ⟨_,rfl,by rw[List.length_replicate];exact nR_ _⟩,h,by simp,by rw[List.length_replicate];omega,fun i x hx=>?_⟩;have hi:i<n:=by have:=(gA.1 hx).1;simpa using this
 have hx':=eR_ (gB_ hx);subst hx';refine⟨.aK,?_,.inl ⟨rfl,rfl⟩⟩;rw[nA_,Nat.mul_one,List.drop_replicate,List.take_replicate,show min 1 (n-i)=1 by omega];rfl
end Go.Ev
namespace Go.Ev
variable [Env]
theorem iF {P:Program} {ev:Operand->Option AV} {t e w n:Nat} {k k':IntKind} {z:List AV} {lo co:Operand} (ht:P.underlying t=some (.slice e)) (hw:(P.info? e).map (·.bytes)=some w) (hz:(eR P e).bind cC=some z)
  (hs:((P.info? e).any fun j=>Nat.beq (cD z) j.size && Nat.ble 1 j.size)=true) (hl:ev lo=some (.int k (.ofNat n))) (hc:ev co=some (.int k' (.ofNat n))) (hn:w*n<=1048576) (hn':n<=1048576):
  eU P ev (.makeSlice t lo co)=some (.row (eN z n) e false,.slice n n):=by
 obtain⟨j,hj,rfl⟩:=oM_.1 hw;rw[hj] at hs;simp only[Option.any_some,bA_] at hs;simp only[eU,ht,hl,hc,hj,hz];rw[hs.1,hs.2,show Nat.ble n n=true by rw[nE_];exact nR_ _,show Nat.ble (j.bytes*n) 1048576=true by rw[nE_];exact hn,show Nat.ble n 1048576=true by rw[nE_];exact hn'];rfl
theorem jY {P:Program} {G:Cx} {t:PT AV} {σ:aD} {ops:Array Oper} {o:Oper} {i k b e n:Nat} {cs:List AV} (hi:ops[i]?=some o) (hw:bu ops t o=some true) (hd:o.dst=some k) (hg:t.get k=some (.slice b 0 n (.known n))) (hk:kindOf P o.op= .alloc) (ha:eU P (bo G t) o.op=some (.row cs e false,.slice n n)) (hm:σ.m.get b=some (.row cs e false)) (hb:dQ.beqL cs cs=true):ie P G ops t σ i=true:=by
 unfold ie;rw[hi];dsimp only;rw[hw];dsimp only;rw[hd];dsimp only;rw[show t.get (posOf k)=some (.slice b 0 n (.known n)) from hg];dsimp only;rw[hk];dsimp only;simp only[ha,hm,hb,Nat.beq_refl,Bool.and_self]
theorem mG (n:Nat):dQ.beqL (List.replicate n AV.aK) (List.replicate n AV.aK)=true:=by
 induction n with
 | zero=>rfl
 | succ n ih=>rw[List.replicate_succ];exact dK rfl ih
theorem fm.leaf:∀x vs,fm x vs->cj vs=true:=fun _ _ h=>by cases h;rfl
theorem mO {α β:Type} {f:α->List β} {l:List α} {i:Nat} {x:α} (h:l[i]?=some x):((l.take (i+1)).map f).flatten=((l.take i).map f).flatten++f x:=by
 rw[List.take_add_one,h];simp
theorem uJ {α β:Type} {f:α->List β} {g:α->Nat}:∀(l:List α),(∀x∈l,(f x).length<=g x)->(l.map f).flatten.length<=(l.map g).sum
 | [],_=>nR_ _
 | x::l,h=>by
  have:=uJ (f:=f) l (fun y hy=>h y (mC_ _ hy));have:=h x (mS_ ..);simp only[List.map_cons,List.flatten_cons,lA_,List.sum_cons];omega
theorem oE:∀(k:Nat) (x:XE),(fh k x).length<=cw k x
 | 0,_=>nR_ _
 | k+1,.mk op num name kids=>by
  show((bif (bif bq op 2 then aX (fF name []) else false) then [name] else [])++(kids.map (fh k)).flatten).length<=(kids.map (cw k)).sum+1
  have h1:(bif (bif bq op 2 then aX (fF name []) else false) then [name] else []).length<=1:=by
   cases (bif bq op 2 then aX (fF name []) else false)<;>simp
  have h2:=uJ (f:=fh k) (g:=cw k) kids (fun x _=>oE k x);rw[lA_];omega
theorem sG {k:Nat} {op num:Int} {name:List Nat} {kids:List XE} {i:Nat} {x:XE} (h:kids[i]?=some x):((bif (bif bq op 2 then aX (fF name []) else false) then [name] else [])++((kids.take i).map (fh k)).flatten).length+(fh k x).length<=cw (k+1) (.mk op num name kids):=by
 have h1:(bif (bif bq op 2 then aX (fF name []) else false) then [name] else []).length<=1:=by
  cases (bif bq op 2 then aX (fF name []) else false)<;>simp
 have h2:=uJ (f:=fh k) (g:=cw k) (kids.take i) (fun x _=>oE k x);have h3:=oE k x;have h4:=rP (f:=cw k) h;have h5:=CK (f:=cw k) (l:=kids) (i:=i+1);show _<=(kids.map (cw k)).sum+1;rw[lA_];omega
theorem dh.jD {α:Type} {m E:Nat} {R:α->List AV->Prop} {l:List α} {u:AV} {M:Own} {K:KP} (h:dh m E R l u M):bJ (K.gG M) m R l u:=h.rh fun _ he=>.inr he
theorem dh.xl {α:Type} {m E:Nat} {R R':α->List AV->Prop} {l:List α} {u:AV} {M:Own} (h:dh m E R l u M) (hR:∀x vs,R x vs->R' x vs):dh m E R' l u M:=by
 rcases h with h | ⟨b,c,cells,e,h1,h2,h3,h4,h5⟩
 ·exact .inl h
 exact .inr ⟨b,c,cells,e,h1,h2,h3,fun i x hx=>hR x _ (h4 i x hx),h5⟩
theorem dV.leaf {K:KP} {k:Nat}:∀x vs,dV K k x vs->cj vs=true:=fun x vs h=>by
 obtain⟨o,n,s,v,rfl,hk⟩:=h.shape;exact ak rfl (ak rfl (ak rfl (ak hk.leaf.2 aJ)))
theorem dh.empty {α:Type} {m E b e:Nat} {R:α->List AV->Prop}:dh m E R ([]:List α) (.slice b 0 0 (.known 0)) [(b,.row [] e false)]:=.inr ⟨b,.known 0,[],e,rfl,rfl,by simp,fun i x h=>by simp at h,.inl rfl,by simp⟩
theorem dh.nil {α:Type} {m E:Nat} {R:α->List AV->Prop}:dh m E R ([]:List α) .aK []:=.inl ⟨rfl,rfl,rfl⟩
theorem KP.add_get (K:KP) (b:Nat) (o:bQ):K.add b o b o:=.inr ⟨rfl,rfl⟩
theorem Aa {σ:aD} {K:KP} {L:Own} {b e:Nat} {vs:List AV} (ar:St σ K ((b,.row vs e false)::L)):∃K1,KP.le K K1/\K1 b (.row vs e false)/\St σ K1 L:=⟨_,KP.sq _ _ _,KP.add_get _ _ _,ar.jD⟩
def I2 (v:AV):List AV:=[.int .i64 0,.str [],.str [],.int .i64 0,v,.aK,.aK]
def LI (v:AV) (_:Unit) (vs:List AV):Prop:=vs=I2 v
theorem I3 {P:Program} {k:Bool} {t:TypeId} {s:List Nat} {n:Nat} (h:gH s=some n):tB P k .add t (.str [114]) (.str s)=some (.str (114::s)):=by
 obtain⟨_,h4,_⟩:=vG h;show(bif Nat.ble (cD [114]+cD s) 1152921504606846976 then some (AV.str (fD [114] s)) else none)=_;rw[bz,bz,show Nat.ble ([114].length+s.length) 1152921504606846976=true by rw[nE_];show 1+s.length<=_;omega];rfl
theorem Dr {s:List Nat} (h:(bif bG (iT s) 0 then false else true)=true):∃n,gH s=some n:=by
 unfold iT at h;cases hr:gH s with
 | none=>rw[hr] at h;cases h
 | some n=>exact⟨n,rfl⟩
theorem IL {s:List Nat} (h:(bif bG (iT s) 0 then false else true)=false):gH s=none:=by
 unfold iT at h;cases hr:gH s with
 | none=>rfl
 | some n=>
  rw[hr] at h;have:bG (.ofNat n) 0=false:=by rw[EN];exact Int.natCast_nonneg n
  dsimp only at h;rw[this] at h;cases h
theorem qR {P:Program} {ev:Operand->Option AV} {t e:TypeId} {len m:Nat} {parts:Array (Nat×Operand)} {z cs:List AV} (ht:P.underlying t=some (.slice e)) (hj:(P.info? e).map (·.size)=some m) (hz:(eR P e).bind cC=some z)
  (hb:(Nat.beq (cD z) m && Nat.ble (len*m) 16777216 && Nat.ble 1 m)=true) (hf:ju (fun i=>some (i*m,m)) ev parts.toList (eN z len)=some cs):eU P ev (.buildSlice t len parts)=some (.row cs e false,.slice len len):=by
 obtain⟨j,hj',rfl⟩:=oM_.1 hj;simp only[eU,ht,hj',hz,hb,cond_true,hf]
theorem E1 {α:Type} {l o:List α} {i k:Nat} {x y:α} (hm:∀s,s∈o↔s∈l.take i) (h1:o[k]?=some y) (h2:l[i]?=some x) (e:y=x):∀s,s∈o↔s∈l.take (i+1):=fun s=>by
 subst e;rw[List.take_add_one,h2];simp only[Option.toList_some,List.mem_append,List.mem_singleton,<-hm];exact⟨.inl,fun h=>h.elim id fun e=>e ▸ gB_ h1⟩
theorem Dp {α:Type} {l o:List α} {i k:Nat} {x:α} (hm:∀s,s∈o↔s∈l.take i) (h2:l[i]?=some x):∀s,s∈(([]++o.take k)++[x])++o.drop k↔s∈l.take (i+1):=fun s=>by
 rw[List.take_add_one,h2];simp only[Option.toList_some,List.nil_append,List.mem_append,List.mem_singleton,<-hm];have:s∈o↔s∈o.take k∨s∈o.drop k:=by rw[<-List.mem_append,List.take_append_drop]
 rw[this];constructor
 ·rintro ((h | h) | h)
  ·exact .inl (.inl h)
  ·exact .inr h
  exact .inl (.inr h)
 rintro ((h | h) | h)
 ·exact .inl (.inl h)
 ·exact .inr h
 exact .inl (.inr h)
theorem Dk {α:Type} {o:List α} {k i:Nat} {x:α} (h:o.length<=i) (hk:k<=o.length):((([]++o.take k)++[x])++o.drop k).length<=i+1:=by
 simp only[List.nil_append,lA_,lT_,lD_,List.length_singleton];omega
end Go.Ev
namespace Go.Ev
variable [Env]
open Go.Proofs
set_option maxRecDepth 4000
set_option maxHeartbeats 8000000
theorem Ig {G:Cx} (hG:Plain G) {K:KP}:∀(k:Nat) (x:XE) (vs:List AV),dV K k x vs->cw k x<=1000000->∀(σ:aD) (L:Own),St σ K L->bp Tryz.prog G 286 [.agg vs] σ fun v σ'=>∃K1,KP.le K K1/\bJ K1 1 fm (fh k x) v/\St σ' K1 L:=by
 intro k;induction k with
 | zero=>intro x vs h;cases x;exact h.elim
 | succ k ih=>
 intro x vs hE hS σ L ar;obtain⟨op,num,name,kids⟩:=x;obtain⟨v,rfl,hk⟩:=hE;have hS:(kids.map (cw k)).sum+1<=1000000:=hS;refine bh hG Tryz.func286 rfl (t:=PT.leaf.put (some (.agg _)) 0) (by rfl) (aj (ah rfl (kp ar rfl (cK rfl rfl) (fun σ b1 ar=>?_))));refine vQ 1 rfl (nS rfl (vQ 1 rfl (nT (aj (aj (ah rfl (aa rfl (MY 0 rfl) rfl (aa rfl (MZ rfl ar.g0 rfl) rfl (vQ 1 rfl ?_)))))))));refine ky rfl (an rfl) (fun h8=>?_) (fun h8=>?_)
 ·refine aa rfl (MY 2 rfl) rfl (aa rfl (MZ rfl ar.g0 rfl) rfl (vQ 2 rfl (nT (aG rfl (fun h12=>?_) (fun h12=>?_)))))
  ·refine ah rfl (vQ 1 rfl (aa rfl (MY 2 rfl) rfl (aa rfl (MZ rfl ar.g0 rfl) rfl (ib ar rfl (cq (e:=9) (m:=1) (z:=[.str []]) (cs:=[_]) (by kernel_rfl) (by kernel_rfl) (by kernel_rfl) (by kernel_rfl) (bB rfl rfl rfl rfl bT)) (fun _=>rfl) (fun σ b2 ar=>?_)))));refine qC (R:=fm) (m:=1) (e:=9) dh.nil (show St _ _ (_::([]++_)) from ar) (fz (m:=1) rfl rfl) fm.leaf (by simp) rfl rfl rfl rfl rfl rfl rfl (fun _=>rfl) (fun σ u17 M17 hO17 ar=>?_);refine vQ 1 rfl (nT (aj (aj (ah rfl (vQ 1 rfl (nT (aM (bg [3,4,18,19,20,21,22,23,24,25,26,27,28,29,30,31,32] (fun j t σ=>∃(i:Nat) (u:AV) (M:Own),j+i=kids.length/\dh 1 9 fm ((bif (bif bq op 2 then aX (fF name []) else false) then [name] else [])++((kids.take i).map (fh k)).flatten) u M/\t.get 3=some (u)/\t.get 4=some (.int .i64 (.ofNat i))/\St σ K (M++(b1,.row [.int .i64 op,.int .i64 num,.str name,v] 82 false)::L)) (kids.length) ⟨0,_,M17,rfl,by rw[show(bif (bif bq op 2 then aX (fF name []) else false) then [name] else [])= [name] from by unfold aX;simp only[h8,show(bif fF name [] then false else true)=true from h12,ct,cf]<;>rfl];simpa using hO17,rfl,rfl,ar⟩ ?_))))))));clear ar;intro j5 t σ aq hI;obtain⟨i,u,M,hj,hO,hv3,hv4,ar⟩:=hI;obtain⟨o3,o4,o18,o19,o20,o21,o22,o23,o24,o25,o26,o27,o28,o29,o30,o31,aq⟩:=aq.L4 rfl rfl rfl rfl;replace aq:=aq.dI rfl;obtain⟨o32,aq⟩:=aq;obtain rfl:=aq.nil;clear aq;replace hv3:o3=some _:=hv3;subst hv3;replace hv4:o4=some _:=hv4;subst hv4;refine aj (aj (ah rfl (vQ 1 rfl (aa rfl (MY 3 rfl) rfl (aa rfl (MZ rfl ar.b9.g0 rfl) rfl (aa rfl (M6 hk rfl rfl rfl (e:=82) rfl) rfl (vQ 1 rfl (nT (aG rfl (fun h22=>?_) (fun h22=>?_))))))))))
   ·refine aH (ad (aj (aM (ah rfl (vQ 1 rfl (aa rfl (MY 3 rfl) rfl (aa rfl (MZ rfl ar.b9.g0 rfl) rfl (vQ 1 rfl ?_))))))));obtain⟨x29,hx29,hi29⟩:=cm h22;refine MT (e:=82) (m:=4) hk hx29 rfl rfl rfl rfl (fun p29 vs29 hp29 hl29 hr29=>?_);obtain⟨o29,n29,s29,v29,rfl,hk29⟩:=hr29.shape;refine aa rfl (Na ar hp29 rfl rfl) rfl ?_;have hz:=sG (k:=k) (op:=op) (num:=num) (name:=name) hx29;refine dF rfl (MX rfl rfl rfl) (fun _=>rfl) (ih _ _ hr29 (Nat.le_trans (kH (f:=cw k) hx29) (by omega)) _ _ ar) ?_;rintro v31 σ ⟨K31,hle31,hS31,ar⟩;refine yw (R:=fm) (m:=1) (e:=9) hO ar hS31 fm.leaf (by have e:cw (k+1) (.mk op num name kids)=(kids.map (cw k)).sum+1:=rfl;omega) rfl rfl rfl rfl rfl rfl rfl (fun _=>rfl) (fun σ u32 M32 hO32 ar=>?_);replace ar:=ar.weaken hle31;refine vQ 1 rfl (af (aE (ad (ah rfl (vQ 3 rfl (af (aN ⟨j5-1,by omega,(by(iterate 34 refine oP rfl ?_);exact oR _ _),i+1,u32,M32,by omega,by rw[mO hx29,<-lQ_];exact hO32,rfl,cI (ba (by have:=hk.bA;omega)),ar⟩)))))))
   refine bn (aS (aV (aO (ad (aj (ah rfl (vQ 2 rfl (nT (aC ?_)))))))));exact ay rfl rfl ⟨K.gG M,KP.bF _ _,by rw[tL_ (br h22)] at hO;exact hO.jD,ar.keeps.pop⟩
  refine aH (ad (aj (aj (ah rfl ?_))));replace ar:St σ K ([]++_):=ar;refine vQ 1 rfl (nT (aM (bg [3,4,18,19,20,21,22,23,24,25,26,27,28,29,30,31,32] (fun j t σ=>∃(i:Nat) (u:AV) (M:Own),j+i=kids.length/\dh 1 9 fm ((bif (bif bq op 2 then aX (fF name []) else false) then [name] else [])++((kids.take i).map (fh k)).flatten) u M/\t.get 3=some (u)/\t.get 4=some (.int .i64 (.ofNat i))/\St σ K (M++(b1,.row [.int .i64 op,.int .i64 num,.str name,v] 82 false)::L)) (kids.length) ⟨0,_,[],rfl,by rw[show(bif (bif bq op 2 then aX (fF name []) else false) then [name] else [])= [] from by unfold aX;simp only[h8,show(bif fF name [] then false else true)=false from h12,ct,cf]<;>rfl];simpa using (dh.nil (m:=1) (E:=9) (R:=fm)),rfl,rfl,ar⟩ ?_)));clear ar;intro j5 t σ aq hI;obtain⟨i,u,M,hj,hO,hv3,hv4,ar⟩:=hI;obtain⟨o3,o4,o18,o19,o20,o21,o22,o23,o24,o25,o26,o27,o28,o29,o30,o31,aq⟩:=aq.L4 rfl rfl rfl rfl;replace aq:=aq.dI rfl;obtain⟨o32,aq⟩:=aq;obtain rfl:=aq.nil;clear aq;replace hv3:o3=some _:=hv3;subst hv3;replace hv4:o4=some _:=hv4;subst hv4;refine aj (aj (ah rfl (vQ 1 rfl (aa rfl (MY 3 rfl) rfl (aa rfl (MZ rfl ar.b9.g0 rfl) rfl (aa rfl (M6 hk rfl rfl rfl (e:=82) rfl) rfl (vQ 1 rfl (nT (aG rfl (fun h22=>?_) (fun h22=>?_))))))))))
  ·refine aH (ad (aj (aM (ah rfl (vQ 1 rfl (aa rfl (MY 3 rfl) rfl (aa rfl (MZ rfl ar.b9.g0 rfl) rfl (vQ 1 rfl ?_))))))));obtain⟨x29,hx29,hi29⟩:=cm h22;refine MT (e:=82) (m:=4) hk hx29 rfl rfl rfl rfl (fun p29 vs29 hp29 hl29 hr29=>?_);obtain⟨o29,n29,s29,v29,rfl,hk29⟩:=hr29.shape;refine aa rfl (Na ar hp29 rfl rfl) rfl ?_;have hz:=sG (k:=k) (op:=op) (num:=num) (name:=name) hx29;refine dF rfl (MX rfl rfl rfl) (fun _=>rfl) (ih _ _ hr29 (Nat.le_trans (kH (f:=cw k) hx29) (by omega)) _ _ ar) ?_;rintro v31 σ ⟨K31,hle31,hS31,ar⟩;refine yw (R:=fm) (m:=1) (e:=9) hO ar hS31 fm.leaf (by have e:cw (k+1) (.mk op num name kids)=(kids.map (cw k)).sum+1:=rfl;omega) rfl rfl rfl rfl rfl rfl rfl (fun _=>rfl) (fun σ u32 M32 hO32 ar=>?_);replace ar:=ar.weaken hle31;refine vQ 1 rfl (af (aE (ad (ah rfl (vQ 3 rfl (af (aN ⟨j5-1,by omega,(by(iterate 34 refine oP rfl ?_);exact oR _ _),i+1,u32,M32,by omega,by rw[mO hx29,<-lQ_];exact hO32,rfl,cI (ba (by have:=hk.bA;omega)),ar⟩)))))))
  refine bn (aS (aV (aO (ad (aj (ah rfl (vQ 2 rfl (nT (aC ?_)))))))));exact ay rfl rfl ⟨K.gG M,KP.bF _ _,by rw[tL_ (br h22)] at hO;exact hO.jD,ar.keeps.pop⟩
 refine vQ 4 rfl (nT (aI rfl (aH (ad (aj (aj (ah rfl ?_)))))));replace ar:St σ K ([]++_):=ar;refine vQ 1 rfl (nT (aM (bg [3,4,18,19,20,21,22,23,24,25,26,27,28,29,30,31,32] (fun j t σ=>∃(i:Nat) (u:AV) (M:Own),j+i=kids.length/\dh 1 9 fm ((bif (bif bq op 2 then aX (fF name []) else false) then [name] else [])++((kids.take i).map (fh k)).flatten) u M/\t.get 3=some (u)/\t.get 4=some (.int .i64 (.ofNat i))/\St σ K (M++(b1,.row [.int .i64 op,.int .i64 num,.str name,v] 82 false)::L)) (kids.length) ⟨0,_,[],rfl,by rw[show(bif (bif bq op 2 then aX (fF name []) else false) then [name] else [])= [] from by unfold aX;simp only[h8,ct,cf]<;>rfl];simpa using (dh.nil (m:=1) (E:=9) (R:=fm)),rfl,rfl,ar⟩ ?_)));clear ar;intro j5 t σ aq hI;obtain⟨i,u,M,hj,hO,hv3,hv4,ar⟩:=hI;obtain⟨o3,o4,o18,o19,o20,o21,o22,o23,o24,o25,o26,o27,o28,o29,o30,o31,aq⟩:=aq.L4 rfl rfl rfl rfl;replace aq:=aq.dI rfl;obtain⟨o32,aq⟩:=aq;obtain rfl:=aq.nil;clear aq;replace hv3:o3=some _:=hv3;subst hv3;replace hv4:o4=some _:=hv4;subst hv4;refine aj (aj (ah rfl (vQ 1 rfl (aa rfl (MY 3 rfl) rfl (aa rfl (MZ rfl ar.b9.g0 rfl) rfl (aa rfl (M6 hk rfl rfl rfl (e:=82) rfl) rfl (vQ 1 rfl (nT (aG rfl (fun h22=>?_) (fun h22=>?_))))))))))
 ·refine aH (ad (aj (aM (ah rfl (vQ 1 rfl (aa rfl (MY 3 rfl) rfl (aa rfl (MZ rfl ar.b9.g0 rfl) rfl (vQ 1 rfl ?_))))))));obtain⟨x29,hx29,hi29⟩:=cm h22;refine MT (e:=82) (m:=4) hk hx29 rfl rfl rfl rfl (fun p29 vs29 hp29 hl29 hr29=>?_);obtain⟨o29,n29,s29,v29,rfl,hk29⟩:=hr29.shape;refine aa rfl (Na ar hp29 rfl rfl) rfl ?_;have hz:=sG (k:=k) (op:=op) (num:=num) (name:=name) hx29;refine dF rfl (MX rfl rfl rfl) (fun _=>rfl) (ih _ _ hr29 (Nat.le_trans (kH (f:=cw k) hx29) (by omega)) _ _ ar) ?_;rintro v31 σ ⟨K31,hle31,hS31,ar⟩;refine yw (R:=fm) (m:=1) (e:=9) hO ar hS31 fm.leaf (by have e:cw (k+1) (.mk op num name kids)=(kids.map (cw k)).sum+1:=rfl;omega) rfl rfl rfl rfl rfl rfl rfl (fun _=>rfl) (fun σ u32 M32 hO32 ar=>?_);replace ar:=ar.weaken hle31;refine vQ 1 rfl (af (aE (ad (ah rfl (vQ 3 rfl (af (aN ⟨j5-1,by omega,(by(iterate 34 refine oP rfl ?_);exact oR _ _),i+1,u32,M32,by omega,by rw[mO hx29,<-lQ_];exact hO32,rfl,cI (ba (by have:=hk.bA;omega)),ar⟩)))))))
 refine bn (aS (aV (aO (ad (aj (ah rfl (vQ 2 rfl (nT (aC ?_)))))))));exact ay rfl rfl ⟨K.gG M,KP.bF _ _,by rw[tL_ (br h22)] at hO;exact hO.jD,ar.keeps.pop⟩
theorem Dt {α β:Type} {f:α->List β} {x:α} {i:Nat}:(([x].take i).map f).flatten.length<=(f x).length:=by
 cases i with
 | zero=>simp
 | succ i=>simp
theorem pd {α β:Type} {f:α->List β} {l:List α} {i:Nat} (h:i=0):((l.take i).map f).flatten= []:=by subst h;simp
theorem Ks {α:Type} {x y:α} {i:Nat} (h: [x][i]?=some y):x=y:=by
 cases i with
 | zero=>simpa using h
 | succ i=>simp at h
theorem zH {G:Cx} (hG:Plain G) {K:KP} {σ:aD} {L:Own} (ar:St σ K L):bp Tryz.prog G 277 [.aK] σ fun v σ'=>v= .aK/\St σ' K L:=by
 have h0:bJ K 7 (LI .aK) [] .aK:=.inl ⟨rfl,rfl⟩;refine bh hG Tryz.func277 rfl (t:=PT.leaf.put (some (.aK)) 0) (by rfl) (aj (ah rfl (vQ 1 rfl (nS rfl (vQ 1 rfl (nT (aj (aj (ah rfl ?_)))))))));refine vQ 1 rfl (nT (aM ?_));obtain⟨LL1,ar,hLL1⟩:=ar.named;refine bg [3,4,5,6,7,8,9,10,11,12,13,14,15,16,17,18,19,20,21,22,23,24,25,26,27,28,29,30,31,32,33,34,35,36,37,38,39,40,41,42,43,44,45,46,47,48,49,50,51,52,53,54,55,56,57,58,59,60,61] (fun j t σ=>t.get 3=some (.aK)/\t.get 4=some (.int .i64 (.ofNat 0))/\St σ K LL1) (0) ⟨rfl,rfl,ar⟩ ?_;clear ar;intro j3 t σ aq hI;obtain⟨hv3,hv4,ar⟩:=hI;subst hLL1;obtain⟨o3,o4,o5,o6,o7,o8,o9,o10,o11,o12,o13,o14,o15,o16,o17,o18,aq⟩:=aq.L4 rfl rfl rfl rfl;obtain⟨o19,o20,o21,o22,o23,o24,o25,o26,o27,o28,o29,o30,o31,o32,o33,o34,aq⟩:=aq.L4 rfl rfl rfl rfl;obtain⟨o35,o36,o37,o38,o39,o40,o41,o42,o43,o44,o45,o46,o47,o48,o49,o50,aq⟩:=aq.L4 rfl rfl rfl rfl;replace aq:=aq.bR rfl rfl;obtain⟨o51,o52,o53,o54,o55,o56,o57,o58,aq⟩:=aq;replace aq:=aq.dI rfl;obtain⟨o59,aq⟩:=aq;replace aq:=aq.dI rfl;obtain⟨o60,aq⟩:=aq;replace aq:=aq.dI rfl;obtain⟨o61,aq⟩:=aq;obtain rfl:=aq.nil;clear aq;replace hv3:o3=some _:=hv3;subst hv3;replace hv4:o4=some _:=hv4;subst hv4;refine aj (aj (ah rfl (vQ 2 rfl (aa rfl (M6 h0 rfl rfl rfl (e:=304) rfl) rfl (vQ 1 rfl (nT (aG rfl (fun h9=>?_) (fun h9=>?_))))))))
 ·exact absurd (bm h9) (by simp)
 refine bn (aS (aV (aO (ad (aj (ah rfl (vQ 2 rfl (nT (aC ?_)))))))));exact ay rfl rfl ⟨rfl,ar⟩
theorem FQ {G:Cx} (hG:Plain G) {K:KP} {k:Nat} {x:XE} {ev v:AV} (h:bJ K 7 (LI ev) [()] v) (he:bJ K 4 (dV K k) [x] ev) (hS:cw k x<=1000000) {σ:aD} {L:Own} (ar:St σ K L):bp Tryz.prog G 277 [v] σ fun v σ'=>∃K1,KP.le K K1/\bJ K1 1 fm (fh k x) v/\St σ' K1 L:=by
 have hnil:bJ K 1 fm [] .aK:=.inl ⟨rfl,rfl⟩;have hrl:=oE k x;refine bh hG Tryz.func277 rfl (t:=PT.leaf.put (some (v)) 0) (by rfl) (aj (ah rfl (vQ 1 rfl (nS rfl (vQ 1 rfl (nT (aj (aj (ah rfl ?_)))))))));refine vQ 1 rfl (nT (aM (bg [3,4,5,6,7,8,9,10,11,12,13,14,15,16,17,18,19,20,21,22,23,24,25,26,27,28,29,30,31,32,33,34,35,36,37,38,39,40,41,42,43,44,45,46,47,48,49,50,51,52,53,54,55,56,57,58,59,60,61] (fun j t σ=>∃(i:Nat) (u:AV) (M:Own),j+i=1/\dh 1 9 fm (([()].take i).map fun _=>fh k x).flatten u M/\t.get 3=some (u)/\t.get 4=some (.int .i64 (.ofNat i))/\St σ K (M++L)) (1) ⟨0,_,[],rfl,dh.nil,rfl,rfl,ar⟩ ?_)));clear ar;intro j3 t σ aq hI;obtain⟨i,u,M,hj,hO,hv3,hv4,ar⟩:=hI;obtain⟨o3,o4,o5,o6,o7,o8,o9,o10,o11,o12,o13,o14,o15,o16,o17,o18,aq⟩:=aq.L4 rfl rfl rfl rfl;obtain⟨o19,o20,o21,o22,o23,o24,o25,o26,o27,o28,o29,o30,o31,o32,o33,o34,aq⟩:=aq.L4 rfl rfl rfl rfl;obtain⟨o35,o36,o37,o38,o39,o40,o41,o42,o43,o44,o45,o46,o47,o48,o49,o50,aq⟩:=aq.L4 rfl rfl rfl rfl;replace aq:=aq.bR rfl rfl;obtain⟨o51,o52,o53,o54,o55,o56,o57,o58,aq⟩:=aq;replace aq:=aq.dI rfl;obtain⟨o59,aq⟩:=aq;replace aq:=aq.dI rfl;obtain⟨o60,aq⟩:=aq;replace aq:=aq.dI rfl;obtain⟨o61,aq⟩:=aq;obtain rfl:=aq.nil;clear aq;replace hv3:o3=some _:=hv3;subst hv3;replace hv4:o4=some _:=hv4;subst hv4;refine aj (aj (ah rfl (vQ 2 rfl (aa rfl (M6 h rfl rfl rfl (e:=304) rfl) rfl (vQ 1 rfl (nT (aG rfl (fun h9=>?_) (fun h9=>?_))))))))
 ·refine aH (ad (aj (aM (aj (aj (ah rfl (vQ 2 rfl ?_)))))));obtain⟨x14,hx14,hi14⟩:=cm h9;refine MT (e:=304) (m:=7) h hx14 rfl rfl rfl rfl (fun p14 vs14 hp14 hl14 hr14=>?_);replace hr14:vs14= [iZ,.str [],.str [],iZ,ev,.aK,.aK]:=hr14;subst hr14;refine bK hp14 rfl rfl rfl (k:=1) (by kernel_rfl) (lb rfl) (fun _=>rfl) (fun p15 hp15=>?_);refine aa rfl (M9 ar hp15 rfl rfl) rfl (vQ 1 rfl (nT (aG rfl (fun h17=>absurd (show false=true from h17) (by decide)) (fun h17=>?_))));refine aH (ad (aj (aj (ah rfl (vQ 1 rfl (nT (aM (bg [3,5,26,27,28,29,30,31,32,33,34,35,36,37,38,39,40,41,42,43,44,45,46] (fun j t σ=>∃(i2:Nat) (u2:AV) (M2:Own),j+i2=1/\dh 1 9 fm ((([()].take i).map fun _=>fh k x).flatten++(([x].take i2).map (fh k)).flatten) u2 M2/\t.get 3=some (u2)/\t.get 5=some (.int .i64 (.ofNat i2))/\St σ K (M2++L)) (1) ⟨0,_,M,rfl,by simpa using hO,rfl,rfl,ar⟩ ?_))))))));clear ar;intro j8 t σ aq hI;obtain⟨i2,u2,M2,hj2,hO2,hv3,hv5,ar⟩:=hI;obtain⟨o3,o5,o26,o27,o28,o29,o30,o31,o32,o33,o34,o35,o36,o37,o38,o39,aq⟩:=aq.L4 rfl rfl rfl rfl;replace aq:=aq.mg rfl;obtain⟨o40,o41,o42,o43,aq⟩:=aq;replace aq:=aq.dI rfl;obtain⟨o44,aq⟩:=aq;replace aq:=aq.dI rfl;obtain⟨o45,aq⟩:=aq;replace aq:=aq.dI rfl;obtain⟨o46,aq⟩:=aq;obtain rfl:=aq.nil;clear aq;replace hv3:o3=some _:=hv3;subst hv3;replace hv5:o5=some _:=hv5;subst hv5;refine aj (aj (ah rfl (vQ 3 rfl (MT (e:=304) (m:=7) h hx14 rfl rfl rfl rfl (fun p29 vs29 hp29 hl29 hr29=>?_)))));replace hr29:vs29= [iZ,.str [],.str [],iZ,ev,.aK,.aK]:=hr29;subst hr29;refine bK hp29 rfl rfl rfl (k:=4) (by kernel_rfl) (lb rfl) (fun _=>rfl) (fun p30 hp30=>?_);refine aa rfl (M9 ar hp30 rfl rfl) rfl (aa rfl (M6 he rfl rfl rfl (e:=82) rfl) rfl (vQ 1 rfl (nT (aG rfl (fun h33=>?_) (fun h33=>?_)))))
  ·refine aH (ad (aj (aM (ah rfl (vQ 3 rfl (MT (e:=304) (m:=7) h hx14 rfl rfl rfl rfl (fun p39 vs39 hp39 hl39 hr39=>?_)))))));replace hr39:vs39= [iZ,.str [],.str [],iZ,ev,.aK,.aK]:=hr39;subst hr39;refine bK hp39 rfl rfl rfl (k:=4) (by kernel_rfl) (lb rfl) (fun _=>rfl) (fun p40 hp40=>?_);refine aa rfl (M9 ar hp40 rfl rfl) rfl (vQ 1 rfl ?_);obtain⟨x43,hx43,hi43⟩:=cm h33;refine MT (e:=82) (m:=4) he hx43 rfl rfl rfl rfl (fun p43 vs43 hp43 hl43 hr43=>?_);obtain⟨o43,n43,s43,v43,rfl,hk43⟩:=hr43.shape;refine aa rfl (Na ar hp43 rfl rfl) rfl ?_;obtain rfl:=Ks hx43;refine dF rfl (MX rfl rfl rfl) (fun _=>rfl) (Ig hG _ _ _ hr43 hS _ _ ar) ?_;rintro v45 σ ⟨K45,hle45,hS45,ar⟩;refine yw (R:=fm) (m:=1) (e:=9) hO2 ar hS45 fm.leaf (by have e1:(([()].take i).map fun _=>fh k x).flatten= []:=pd (by have:=bm h9;simpa using this);have e2:(([x].take i2).map (fh k)).flatten= []:=pd (by have:=bm h33;simpa using this);rw[e1,e2];simp;omega) rfl rfl rfl rfl rfl rfl rfl (fun _=>rfl) (fun σ u46 M46 hO46 ar=>?_);replace ar:=ar.weaken hle45;refine vQ 1 rfl (af (aE (ad (ah rfl (vQ 3 rfl (af (aN ⟨j8-1,(by have:=bm h33;simp at this;omega),(by(iterate 46 refine oP rfl ?_);exact oR _ _),i2+1,u46,M46,(by have:=bm h33;simp at this;omega),(by rw[mO hx43,<-lQ_];exact hO46),rfl,cI (ba (by omega)),ar⟩)))))))
  refine bn (aS (aV (aO (ad (aU (l:=[(0,[]),(1,[]),(2,[]),(3,[]),(4,[]),(5,[]),(8,[]),(9,[]),(10,[]),(11,[]),(12,[]),(6,[12]),(7,[12]),(13,[]),(14,[]),(15,[])]) (by kernel_rfl) (by kernel_rfl) (wQ 3 rfl (MU (e:=304) (m:=7) h hx14 rfl rfl rfl rfl rfl (fun p50 vs50 hp50 hl50 hr50=>?_))))))));replace hr50:vs50= [iZ,.str [],.str [],iZ,ev,.aK,.aK]:=hr50;subst hr50;refine jg hp50 rfl rfl rfl rfl (k:=5) (by kernel_rfl) (lb rfl) (fun _=>rfl) (fun p51 hp51=>?_);refine al rfl rfl (M9 ar hp51 rfl rfl) rfl (wQ 2 rfl (MU (e:=304) (m:=7) h hx14 rfl rfl rfl rfl rfl (fun p57 vs57 hp57 hl57 hr57=>?_)));replace hr57:vs57= [iZ,.str [],.str [],iZ,ev,.aK,.aK]:=hr57;subst hr57;refine jg hp57 rfl rfl rfl rfl (k:=6) (by kernel_rfl) (lb rfl) (fun _=>rfl) (fun p58 hp58=>?_);refine al rfl rfl (M9 ar hp58 rfl rfl) rfl (cR rfl rfl (MX rfl rfl rfl) (fun _=>rfl) (zH hG ar) (fun σ ar=>?_));refine⟨(bW (dt rfl rfl rfl rfl rfl (M9 ar hp58 rfl rfl) rfl) bc),?_⟩;refine qF (R:=fm) (m:=1) (e:=9) hO2 ar hnil fm.leaf (by have h1:(([x].take i2).map (fh k)).flatten.length<=(fh k x).length:=Dt;have e1:(([()].take i).map fun _=>fh k x).flatten= []:=pd (by have:=bm h9;simpa using this);rw[e1,List.nil_append];show _+0<=_;omega) rfl rfl rfl rfl rfl rfl rfl rfl (fun _=>rfl) (fun σ u54 M54 hO54 ar=>?_);refine⟨(bW (dt rfl rfl rfl rfl rfl (M9 ar hp58 rfl rfl) rfl) bc),?_⟩;refine cR rfl rfl (MX rfl rfl rfl) (fun _=>rfl) (zH hG ar) (fun σ ar=>?_);refine⟨bc,?_⟩;refine qF (R:=fm) (m:=1) (e:=9) hO54 ar hnil fm.leaf (by have h1:(([x].take i2).map (fh k)).flatten.length<=(fh k x).length:=Dt;have e1:(([()].take i).map fun _=>fh k x).flatten= []:=pd (by have:=bm h9;simpa using this);rw[List.append_nil,e1,List.nil_append];show _+0<=_;omega) rfl rfl rfl rfl rfl rfl rfl rfl (fun _=>rfl) (fun σ u61 M61 hO61 ar=>?_);refine⟨bc,?_⟩;refine wQ 1 rfl (aZ (aE (ad (ah rfl (vQ 3 rfl (af (aN ⟨j3-1,(by have:=bm h9;simp at this;omega),(by(iterate 120 refine oP rfl ?_);exact oR _ _),i+1,u61,M61,(by have:=bm h9;simp at this;omega),(by rw[mO hx14];have e3: [x].take i2= [x]:=tL_ (br h33);rw[e3] at hO61;simpa using hO61),rfl,cI (ba (by omega)),ar⟩)))))))
 refine bn (aS (aV (aO (ad (aj (ah rfl (vQ 2 rfl (nT (aC ?_)))))))));exact ay rfl rfl ⟨K.gG M,KP.bF _ _,by rw[tL_ (br h9)] at hO;exact(show dh 1 9 fm (fh k x) u M by simpa using hO).jD,ar.keeps⟩
theorem Ld {G:Cx} (hG:Plain G) {K:KP} {l:List (List Nat)} {v:AV} (h:bJ K 1 fm l v) (hl:l.length<=100000) {σ:aD} {L:Own} (ar:St σ K L):bp Tryz.prog G 276 [v] σ fun v σ'=>∃K1 l',KP.le K K1/\bJ K1 1 fm l' v/\(∀s,s∈l'↔s∈l)/\St σ' K1 L:=by
 refine bh hG Tryz.func276 rfl (t:=PT.leaf.put (some (v)) 0) (by rfl) (aj (ah rfl (vQ 1 rfl (nS rfl (vQ 1 rfl (nT (aj (aj (ah rfl ?_)))))))));refine vQ 1 rfl (nT (aM ?_));obtain⟨LL1,ar,hLL1⟩:=ar.named;refine bg [3,4,5,6,7,8,9,10,11,12,13,14,15,16,17,18,19,20,21,22,23,24,25,26,27,28,29,30,31,32,33,34,35,36,37,38,39,40,41,42,43,44,45,46,47,48,49,50,51,52,53,54,55,56,57,58] (fun j t σ=>∃(i:Nat) (o:List (List Nat)) (u:AV) (K1:KP),j+i=l.length/\KP.le K K1/\bJ K1 1 fm o u/\(∀s,s∈o↔s∈l.take i)/\o.length<=i/\t.get 3=some (u)/\t.get 4=some (.int .i64 (.ofNat i))/\St σ K1 LL1) (l.length) ⟨0,[],.aK,K,rfl,KP.le_refl _,.inl ⟨rfl,rfl⟩,by simp,nR_ _,rfl,rfl,ar⟩ ?_;clear ar;intro j3 t σ aq hI;obtain⟨i,o,u,K1,hj,hle,ho,hm,hol,hv3,hv4,ar⟩:=hI;subst hLL1;obtain⟨o3,o4,o5,o6,o7,o8,o9,o10,o11,o12,o13,o14,o15,o16,o17,o18,aq⟩:=aq.L4 rfl rfl rfl rfl;obtain⟨o19,o20,o21,o22,o23,o24,o25,o26,o27,o28,o29,o30,o31,o32,o33,o34,aq⟩:=aq.L4 rfl rfl rfl rfl;obtain⟨o35,o36,o37,o38,o39,o40,o41,o42,o43,o44,o45,o46,o47,o48,o49,o50,aq⟩:=aq.L4 rfl rfl rfl rfl;replace aq:=aq.bR rfl rfl;obtain⟨o51,o52,o53,o54,o55,o56,o57,o58,aq⟩:=aq;obtain rfl:=aq.nil;clear aq;replace hv3:o3=some _:=hv3;subst hv3;replace hv4:o4=some _:=hv4;subst hv4;have h1:=h.mono hle (fun _ _ h=>h);refine aj (aj (ah rfl (vQ 2 rfl (aa rfl (M6 h1 rfl rfl rfl (e:=9) rfl) rfl (vQ 1 rfl (nT (aG rfl (fun h9=>?_) (fun h9=>?_))))))))
 ·refine aH (ad (aj (aM (aj (ah rfl (vQ 1 rfl (nT (aj (aM ?_)))))))));obtain⟨LL2,ar,hLL2⟩:=ar.named;refine bg [5,12,13,14,15,16,17,18,19,20,21,22,23,24,25,26,27,28] (fun j t σ=>∃(k2:Nat),j+k2=o.length/\t.get 5=some (.int .i64 (.ofNat k2))/\St σ K1 LL2) (o.length) ⟨0,rfl,rfl,ar⟩ ?_;clear ar;intro j6 t σ aq hI;obtain⟨k2,hj6,hv5,ar⟩:=hI;subst hLL2;obtain⟨o5,o12,o13,o14,o15,o16,o17,o18,o19,o20,o21,o22,o23,o24,o25,o26,aq⟩:=aq.L4 rfl rfl rfl rfl;replace aq:=aq.dI rfl;obtain⟨o27,aq⟩:=aq;replace aq:=aq.dI rfl;obtain⟨o28,aq⟩:=aq;obtain rfl:=aq.nil;clear aq;replace hv5:o5=some _:=hv5;subst hv5;refine aj (aj (aU (l:=[(0,[]),(1,[]),(2,[]),(3,[]),(4,[]),(5,[]),(6,[]),(7,[]),(8,[]),(9,[]),(10,[]),(11,[]),(12,[]),(13,[]),(14,[])]) (by kernel_rfl) (by kernel_rfl) (wQ 2 rfl (al rfl rfl (M6 ho rfl rfl rfl (e:=9) rfl) rfl (wQ 1 rfl (dY rfl rfl (an rfl) (fun _=>rfl) (fun h16=>?_) (fun h16=>?_)))))))
  ·refine wQ 2 rfl ?_;obtain⟨x19,hx19,hi19⟩:=cm h16;refine MU (e:=9) (m:=1) ho hx19 rfl rfl rfl rfl rfl (fun p19 vs19 hp19 hl19 hr19=>?_);obtain rfl:=hr19;refine al rfl rfl (M9 ar hp19 rfl rfl) rfl (wQ 2 rfl ?_);obtain⟨x23,hx23,hi23⟩:=cm h9;refine MU (e:=9) (m:=1) h1 hx23 rfl rfl rfl rfl rfl (fun p23 vs23 hp23 hl23 hr23=>?_);obtain rfl:=hr23;refine al rfl rfl (M9 ar hp23 rfl rfl) rfl (wQ 2 rfl (aZ (ad (aG rfl (fun h26=>?_) (fun h26=>?_)))))
   ·refine aH (ad (aM (ah rfl (vQ 3 rfl (af (aE (aN ⟨j6-1,(by have:=bm h16;omega),(by(iterate 36 refine oP rfl ?_);exact oR _ _),k2+1,(by have:=bm h16;omega),cI (ba (by have:=ho.bA;omega)),ar⟩)))))))
   refine bn (aS (aV (aO (ad (aj (aj (aU (l:=[(0,[]),(1,[]),(2,[]),(3,[]),(4,[]),(5,[]),(6,[]),(7,[]),(8,[]),(9,[]),(10,[]),(11,[]),(12,[]),(13,[]),(14,[])]) (by kernel_rfl) (by kernel_rfl) (wQ 2 rfl (al rfl rfl (M6 ho rfl rfl rfl (e:=9) rfl) rfl (wQ 1 rfl (dY rfl rfl (an rfl) (fun _=>rfl) (fun h33=>?_) (fun h33=>?_))))))))))))
   ·refine wQ 2 rfl ?_;obtain⟨x36,hx36,hi36⟩:=cm h33;refine MU (e:=9) (m:=1) ho hx36 rfl rfl rfl rfl rfl (fun p36 vs36 hp36 hl36 hr36=>?_);obtain rfl:=hr36;refine al rfl rfl (M9 ar hp36 rfl rfl) rfl (wQ 2 rfl ?_);obtain⟨x40,hx40,hi40⟩:=cm h9;refine MU (e:=9) (m:=1) h1 hx40 rfl rfl rfl rfl rfl (fun p40 vs40 hp40 hl40 hr40=>?_);obtain rfl:=hr40;refine al rfl rfl (M9 ar hp40 rfl rfl) rfl (wQ 2 rfl (aZ (ad (aG rfl (fun h43=>?_) (fun h43=>?_)))))
    ·refine bn (aS (aO (ad (ah rfl (vQ 3 rfl (af (aN ⟨j3-1,(by have:=bm h9;omega),(by(iterate 112 refine oP rfl ?_);exact oR _ _),i+1,o,u,K1,(by have:=bm h9;omega),hle,ho,E1 hm hx36 hx40 (by have h43:=h43;rw[j1] at h43;exact of_decide_eq_true h43),(by omega),rfl,cI (ba (by have:=h.bA;omega)),ar⟩)))))))
    refine aH (ad (aU (l:=[(0,[]),(1,[]),(2,[]),(3,[]),(5,[]),(6,[]),(7,[]),(8,[]),(9,[]),(11,[]),(12,[]),(13,[]),(4,[8,9]),(10,[]),(14,[]),(15,[])]) (by kernel_rfl) (by kernel_rfl) (nt ar rfl rfl (cq (e:=9) (m:=1) (z:=[.str []]) (cs:=[]) (by kernel_rfl) (by kernel_rfl) (by kernel_rfl) (by kernel_rfl) bT) (fun _=>rfl) (fun σ b1 ar=>?_))));replace ar:St σ _ ([(b1,.row [] 9 false)]++_):=ar;refine wQ 2 rfl (xx (e:=9) (m:=1) (k:=k2) ho (by omega) rfl rfl rfl (by kernel_rfl) (by kernel_rfl) rfl rfl (fun _=>rfl) (fun w47 hw47=>?_));refine wQ 2 rfl ?_;obtain⟨x51,hx51,hi51⟩:=cm h9;refine MU (e:=9) (m:=1) h1 hx51 rfl rfl rfl rfl rfl (fun p51 vs51 hp51 hl51 hr51=>?_);obtain rfl:=hr51;refine al rfl rfl (M9 ar hp51 rfl rfl) rfl (nt ar rfl rfl (cq (e:=9) (m:=1) (z:=[.str []]) (cs:=[_]) (by kernel_rfl) (by kernel_rfl) (by kernel_rfl) (by kernel_rfl) (bB rfl rfl rfl rfl bT)) (fun _=>rfl) (fun σ b2 ar=>?_));refine wQ 2 rfl (tl (e:=9) (m:=1) (k:=k2) ho (by omega) rfl rfl rfl (by kernel_rfl) (by kernel_rfl) rfl rfl (fun _=>rfl) (fun w57 hw57=>?_));replace ar:=ar.pull (.there .here);refine qF (R:=fm) (m:=1) (e:=9) dh.empty ar hw47 fm.leaf (by simp;omega) rfl rfl rfl rfl rfl rfl rfl rfl (fun _=>rfl) (fun σ u48 M48 hO48 ar=>?_);refine⟨(bW (dt rfl rfl rfl rfl rfl (M9 ar hp51 rfl rfl) (zq _)) (bW (jY rfl rfl rfl rfl rfl (qR (e:=9) (m:=1) (z:=[.str []]) (cs:=[_]) (by kernel_rfl) (by kernel_rfl) (by kernel_rfl) (by kernel_rfl) (bB rfl rfl rfl rfl bT)) ar.b9.g0 (dK (qU _) kR)) bc)),?_⟩;replace ar:=ar.pull (.jk (gx.here (X:=[_])));refine qE (R:=fm) (m:=1) (e:=9) hO48 ar (fz (m:=1) rfl rfl) fm.leaf (by simp;omega) rfl rfl rfl rfl rfl rfl rfl rfl (fun _=>rfl) (fun σ u54 M54 hO54 ar=>?_);refine⟨bc,?_⟩;refine qF (R:=fm) (m:=1) (e:=9) hO54 ar hw57 fm.leaf (by simp;omega) rfl rfl rfl rfl rfl rfl rfl rfl (fun _=>rfl) (fun σ u58 M58 hO58 ar=>?_);refine⟨bc,?_⟩;replace ar:=ar.keeps;refine wQ 1 rfl (aZ (aE (ad (ah rfl (vQ 3 rfl (af (aN ⟨j3-1,(by have:=bm h9;omega),(by(iterate 128 refine oP rfl ?_);exact oR _ _),i+1,_,u58,K1.gG M58,(by have:=bm h9;omega),KP.le_trans hle (KP.bF _ _),hO58.jD,Dp hm hx51,Dk hol (by omega),rfl,cI (ba (by have:=h.bA;omega)),ar⟩)))))))
   exact absurd h33 (by rw[h16];decide)
  refine wQ 10 rfl (aZ (ad (aI rfl (bn (aS (aV (aO (ad (aj (aj (aU (l:=[(0,[]),(1,[]),(2,[]),(3,[]),(4,[]),(5,[]),(6,[]),(7,[]),(8,[]),(9,[]),(10,[]),(11,[]),(12,[]),(13,[]),(14,[])]) (by kernel_rfl) (by kernel_rfl) (wQ 2 rfl (al rfl rfl (M6 ho rfl rfl rfl (e:=9) rfl) rfl ?_)))))))))))));refine wQ 1 rfl (dY rfl rfl (an rfl) (fun _=>rfl) (fun h33=>?_) (fun h33=>?_))
  ·exact absurd h33 (by rw[h16];decide)
  refine wQ 10 rfl (aZ (ad (aI rfl (aH (ad (aU (l:=[(0,[]),(1,[]),(2,[]),(3,[]),(5,[]),(6,[]),(7,[]),(8,[]),(9,[]),(11,[]),(12,[]),(13,[]),(4,[8,9]),(10,[]),(14,[]),(15,[])]) (by kernel_rfl) (by kernel_rfl) (nt ar rfl rfl (cq (e:=9) (m:=1) (z:=[.str []]) (cs:=[]) (by kernel_rfl) (by kernel_rfl) (by kernel_rfl) (by kernel_rfl) bT) (fun _=>rfl) (fun σ b1 ar=>?_))))))));replace ar:St σ _ ([(b1,.row [] 9 false)]++_):=ar;refine wQ 2 rfl (xx (e:=9) (m:=1) (k:=k2) ho (by omega) rfl rfl rfl (by kernel_rfl) (by kernel_rfl) rfl rfl (fun _=>rfl) (fun w47 hw47=>?_));refine wQ 2 rfl ?_;obtain⟨x51,hx51,hi51⟩:=cm h9;refine MU (e:=9) (m:=1) h1 hx51 rfl rfl rfl rfl rfl (fun p51 vs51 hp51 hl51 hr51=>?_);obtain rfl:=hr51;refine al rfl rfl (M9 ar hp51 rfl rfl) rfl (nt ar rfl rfl (cq (e:=9) (m:=1) (z:=[.str []]) (cs:=[_]) (by kernel_rfl) (by kernel_rfl) (by kernel_rfl) (by kernel_rfl) (bB rfl rfl rfl rfl bT)) (fun _=>rfl) (fun σ b2 ar=>?_));refine wQ 2 rfl (tl (e:=9) (m:=1) (k:=k2) ho (by omega) rfl rfl rfl (by kernel_rfl) (by kernel_rfl) rfl rfl (fun _=>rfl) (fun w57 hw57=>?_));replace ar:=ar.pull (.there .here);refine qF (R:=fm) (m:=1) (e:=9) dh.empty ar hw47 fm.leaf (by simp;omega) rfl rfl rfl rfl rfl rfl rfl rfl (fun _=>rfl) (fun σ u48 M48 hO48 ar=>?_);refine⟨(bW (dt rfl rfl rfl rfl rfl (M9 ar hp51 rfl rfl) (zq _)) (bW (jY rfl rfl rfl rfl rfl (qR (e:=9) (m:=1) (z:=[.str []]) (cs:=[_]) (by kernel_rfl) (by kernel_rfl) (by kernel_rfl) (by kernel_rfl) (bB rfl rfl rfl rfl bT)) ar.b9.g0 (dK (qU _) kR)) bc)),?_⟩;replace ar:=ar.pull (.jk (gx.here (X:=[_])));refine qE (R:=fm) (m:=1) (e:=9) hO48 ar (fz (m:=1) rfl rfl) fm.leaf (by simp;omega) rfl rfl rfl rfl rfl rfl rfl rfl (fun _=>rfl) (fun σ u54 M54 hO54 ar=>?_);refine⟨bc,?_⟩;refine qF (R:=fm) (m:=1) (e:=9) hO54 ar hw57 fm.leaf (by simp;omega) rfl rfl rfl rfl rfl rfl rfl rfl (fun _=>rfl) (fun σ u58 M58 hO58 ar=>?_);refine⟨bc,?_⟩;replace ar:=ar.keeps;refine wQ 1 rfl (aZ (aE (ad (ah rfl (vQ 3 rfl (af (aN ⟨j3-1,(by have:=bm h9;omega),(by(iterate 128 refine oP rfl ?_);exact oR _ _),i+1,_,u58,K1.gG M58,(by have:=bm h9;omega),KP.le_trans hle (KP.bF _ _),hO58.jD,Dp hm hx51,Dk hol (by omega),rfl,cI (ba (by have:=h.bA;omega)),ar⟩)))))))
 refine bn (aS (aV (aO (ad (aj (ah rfl (vQ 2 rfl (nT (aC ?_)))))))));exact ay rfl rfl ⟨K1,o,hle,ho,(by rw[tL_ (br h9)] at hm;exact hm),ar⟩
theorem JW {G:Cx} (hG:Plain G) {K:KP} {k:Nat} {x:XE} {ev v:AV} (h:bJ K 7 (LI ev) [()] v) (he:bJ K 4 (dV K k) [x] ev) (hS:cw k x<=100000) {σ:aD} {L:Own} (ar:St σ K L):bp Tryz.prog G 262 [v] σ fun v σ'=>∃K1 l',KP.le K K1/\bJ K1 1 fm l' v/\(∀s,s∈l'↔s∈fh k x)/\St σ' K1 L:=by
 have hrl:=oE k x;refine bh hG Tryz.func262 rfl (t:=PT.leaf.put (some (v)) 0) (by rfl) (aj (ah rfl (vQ 1 rfl (nS rfl (vQ 1 rfl (dF rfl (MX rfl rfl rfl) (fun _=>rfl) (FQ hG h he (by omega) ar) ?_))))));rintro v4 σ ⟨K4,hle4,h4,ar⟩;refine dF rfl (MX rfl rfl rfl) (fun _=>rfl) (Ld hG h4 (by omega) ar) ?_;rintro v5 σ ⟨K5,l5,hle5,h5,hm5,ar⟩;refine vQ 1 rfl (nT (aC ?_));exact ay rfl rfl ⟨K5,l5,KP.le_trans hle4 hle5,h5,hm5,ar⟩
theorem Ie {G:Cx} (hG:Plain G) {K:KP} {k:Nat} {x:XE} {vs:List AV} (hE:dV K k x vs) (hS:cw k x<=100000) {σ:aD} {L:Own} (ar:St σ K L):bp Tryz.prog G 234 [.agg vs] σ fun v σ'=>∃K1 l',KP.le K K1/\bJ K1 1 fm l' v/\(∀s,s∈l'↔s∈fh k x)/\St σ' K1 L:=by
 obtain⟨o0,n0,s0,v0,rfl,hk⟩:=hE.shape;refine bh hG Tryz.func234 rfl (t:=PT.leaf.put (some (.agg _)) 0) (by rfl) (aj (ah rfl (kp ar rfl (cK rfl rfl) (fun σ b1 ar=>?_))));refine vQ 1 rfl (nS rfl (aa rfl (M5 rfl ar.g0 (n:=4) (vs:=[_,_,_,_]) rfl) rfl (ib ar rfl (cq (e:=82) (m:=4) (z:=[iZ,iZ,.str [],.aK]) (cs:=[_,_,_,_]) (by kernel_rfl) (by kernel_rfl) (by kernel_rfl) (by kernel_rfl) (bB rfl rfl rfl rfl bT)) (fun _=>rfl) (fun σ b2 ar=>?_))));obtain⟨K4,hle4,hk4,ar⟩:=Aa ar;have h4:bJ K4 4 (dV K4 k) [x] (.slice b2 0 1 (.known 1)):=yj rfl (hE.mono hle4) hk4;refine aa rfl (bY (places:=[(0,1),(1,1),(2,1),(3,1),(4,1),(5,1),(6,1)]) (zero:=[iZ,.str [],.str [],iZ,.aK,.aK,.aK]) (cs:=[_,_,_,_,_,_,_]) (by kernel_rfl) (by kernel_rfl) (by kernel_rfl) (bB rfl rfl h4.leaf.1 rfl bT) (by kernel_rfl)) rfl (ib ar rfl (cq (e:=304) (m:=7) (z:=[iZ,.str [],.str [],iZ,.aK,.aK,.aK]) (cs:=[_,_,_,_,_,_,_]) (by kernel_rfl) (by kernel_rfl) (by kernel_rfl) (by kernel_rfl) (bB rfl rfl rfl rfl bT)) (fun _=>rfl) (fun σ b3 ar=>?_));obtain⟨K6,hle6,hk6,ar⟩:=Aa ar;have h6:bJ K6 7 (LI _) [()] (.slice b3 0 1 (.known 1)):=yj rfl rfl hk6;replace h4:=h4.mono hle6 fun _ _ h=>dV.mono hle6 h
 refine dF rfl (MX rfl rfl rfl) (fun _=>rfl) (JW hG h6 h4 hS ar) ?_;rintro v7 σ ⟨K7,l7,hle7,h7,hm7,ar⟩;refine vQ 1 rfl (nT (aC ?_));exact ay rfl rfl ⟨K7,l7,KP.le_trans (KP.le_trans hle4 hle6) hle7,h7,hm7,ar.pop⟩
theorem kL {α β:Type} {f:α->β} {l:List α} {i:Nat} {x:α} (h:l[i]?=some x):(l.take (i+1)).map f=(l.take i).map f++[f x]:=by rw[List.take_add_one,h];simp
theorem Ab {k:Nat}:∀{kids:List XE},(∀y∈kids,hY k y)->kids.length<=(kids.map (cw k)).sum
 | [],_=>nR_ _
 | x::l,h=>by
  have:=Ab fun y hy=>h y (mC_ _ hy)
  have h1:1<=cw k x:=by
   have:=h x (mS_ ..);cases k with
   | zero=>exact this.elim
   | succ k=>exact Fg
  simp only[List.length_cons,List.map_cons,List.sum_cons];omega
theorem Ck {op:Int} {s:List Nat} {n:Nat} (h:bq op 2=true) (hr:gH s=some n):iq op s=114::s:=by unfold iq;rw[h,hr];rfl
theorem Cj {op:Int} {s:List Nat} (h:bq op 2=true) (hr:gH s=none):iq op s= [48]:=by unfold iq;rw[h,hr];rfl
theorem GI {op:Int} {s:List Nat} (h:bq op 2=false):iq op s=s:=by unfold iq;rw[h];rfl
theorem H8 {G:Cx} (hG:Plain G):∀(k:Nat) (K:KP) (x:XE) (vs:List AV),dV K k x vs->hY k x->cw k x<=1000000->∀(σ:aD) (L:Own),St σ K L->bp Tryz.prog G 233 [.agg vs,.str [114]] σ fun v σ'=>∃K1 ws,v= .agg ws/\KP.le K K1/\dV K1 k (fe k x) ws/\St σ' K1 L:=by
 intro k;induction k with
 | zero=>intro K x vs h;cases x;exact h.elim
 | succ k ih=>
 intro K x vs hE hF hS σ L ar;obtain⟨op,num,name,kids⟩:=x;obtain⟨v,rfl,hk⟩:=hE;have hS:(kids.map (cw k)).sum+1<=1000000:=hS;have hkl:=Ab hF.2;refine bh hG Tryz.func233 rfl (t:=(PT.leaf.put (some (.agg _)) 0).put (some (.str [114])) 1) (by rfl) (aj (ah rfl (kp ar rfl (cK rfl rfl) (fun σ b1 ar=>?_))));refine kp ar rfl (dP (cs:=[iZ,iZ,.str [],.aK]) (by kernel_rfl) (by kernel_rfl)) (fun σ b2 ar=>?_);refine nS rfl (aa rfl (MY 0 rfl) rfl (aa rfl (MZ rfl ar.g1 rfl) rfl (aa rfl (MY 1 rfl) rfl (aa rfl (MZ rfl ar.g1 rfl) rfl (aa rfl (MY 2 rfl) rfl (aa rfl (MZ rfl ar.g1 rfl) rfl (aa rfl (bY (places:=[(0,1),(1,1),(2,1),(3,1)]) (zero:=[iZ,iZ,.str [],.aK]) (cs:=[_,_,_,_]) (by kernel_rfl) (by kernel_rfl) (by kernel_rfl) rfl (by kernel_rfl)) rfl (kp ar rfl (dP (cs:=[iZ,iZ,.str [],.aK]) (by kernel_rfl) (by kernel_rfl)) (fun σ b3 ar=>?_)))))))));refine bO ar rfl (Nb rfl rfl rfl ar.g0 (m:=4) rfl rfl (cells':=[_,_,_,_]) rfl) rfl (fun σ ar=>?_);refine nT (aj (aj (ah rfl (aa rfl (MY 0 rfl) rfl (aa rfl (MZ rfl (ar.get 2 rfl) rfl) rfl (vQ 1 rfl (ky rfl (an rfl) (fun h17=>?_) (fun h17=>?_))))))))
 ·refine aa rfl (MY 2 rfl) rfl (aa rfl (MZ rfl (ar.get 2 rfl) rfl) rfl (bf rfl (MX rfl rfl rfl) (fun _=>rfl) (FP hG _ ar) (fun σ ar=>?_)));refine vQ 2 rfl (nT (aG rfl (fun h22=>?_) (fun h22=>?_)))
  ·refine ah rfl (vQ 1 rfl (aa rfl (MY 2 rfl) rfl (aa rfl (MZ rfl (ar.get 2 rfl) rfl) rfl ?_)));obtain⟨nn,hnn⟩:=Dr h22;refine aa rfl (az rfl rfl (I3 hnn)) rfl (aa rfl (MY 2 rfl) rfl (bO ar rfl (Nb rfl rfl rfl ar.g0 (m:=1) rfl rfl (cells':=[_,_,_,_]) rfl) rfl (fun σ ar=>?_)));refine nT (aj (aj (ah rfl ?_)));obtain⟨nn,hnn⟩:=Dr h22;replace ar:St σ K ([]++(b3,.row [.int .i64 op,.int .i64 num,.str (iq op name),.aK] 82 false)::(b2,.row [iZ,iZ,.str [],.aK] 82 false)::(b1,.row [.int .i64 op,.int .i64 num,.str name,v] 82 false)::L):=by rw[Ck h17 hnn];exact ar
   refine vQ 1 rfl (nT (aM (bg [6,32,33,34,35,36,37,38,39,40,41,42,43,44,45,46,47,48,49,50] (fun j t σ=>∃(i:Nat) (u:AV) (M:Own) (K1:KP),j+i=kids.length/\KP.le K K1/\dh 4 82 (dV K1 k) ((kids.take i).map (fe k)) u M/\t.get 6=some (.int .i64 (.ofNat i))/\St σ K1 (M++(b3,.row [.int .i64 op,.int .i64 num,.str (iq op name),u] 82 false)::(b2,.row [iZ,iZ,.str [],.aK] 82 false)::(b1,.row [.int .i64 op,.int .i64 num,.str name,v] 82 false)::L)) (kids.length) ⟨0,.aK,[],K,rfl,KP.le_refl _,dh.nil,rfl,ar⟩ ?_)));clear ar;intro j7 t σ aq hI;obtain⟨i,u,M,K1,hj,hle,hO,hv6,ar⟩:=hI;obtain⟨o6,o32,o33,o34,o35,o36,o37,o38,o39,o40,o41,o42,o43,o44,o45,o46,aq⟩:=aq.L4 rfl rfl rfl rfl;replace aq:=aq.mg rfl;obtain⟨o47,o48,o49,o50,aq⟩:=aq;obtain rfl:=aq.nil;clear aq;replace hv6:o6=some _:=hv6;subst hv6;have hk1:=hk.mono hle (fun _ _ h=>dV.mono hle h);refine aj (aj (ah rfl (vQ 1 rfl (aa rfl (MY 3 rfl) rfl (aa rfl (MZ rfl ar.b9.pop.pop.g0 rfl) rfl (aa rfl (M6 hk1 rfl rfl rfl (e:=82) rfl) rfl (vQ 1 rfl (nT (aG rfl (fun h36=>?_) (fun h36=>?_))))))))))
   ·refine aH (ad (aj (aM (aU (l:=[(0,[]),(1,[]),(2,[]),(3,[]),(4,[]),(5,[]),(6,[]),(7,[]),(8,[1]),(9,[]),(10,[]),(11,[]),(12,[])]) (by kernel_rfl) (by kernel_rfl) (al rfl rfl (MY 3 rfl) rfl (al rfl rfl (MZ rfl ar.b9.g0 rfl) rfl (al rfl rfl (MY 3 rfl) rfl (al rfl rfl (MZ rfl ar.b9.pop.pop.g0 rfl) rfl (wQ 1 rfl ?_)))))))));obtain⟨x44,hx44,hi44⟩:=cm h36;refine MU (e:=82) (m:=4) hk1 hx44 rfl rfl rfl rfl rfl (fun p44 vs44 hp44 hl44 hr44=>?_);obtain⟨o44,n44,s44,v44,rfl,hk44⟩:=hr44.shape;refine al rfl rfl (Na ar hp44 rfl rfl) rfl (wQ 1 rfl (my rfl rfl (MX rfl rfl rfl) (fun _=>rfl) (ih _ _ _ hr44 (hF.2 _ (gB_ hx44)) (Nat.le_trans (kH (f:=cw k) hx44) (by omega)) _ _ ar) ?_));rintro _ σ ⟨K47,ws47,rfl,hle47,hE47,ar⟩;refine⟨(bW (dt rfl rfl rfl rfl rfl (MZ rfl ar.b9.g0 rfl) (hO.jD (K:=fun _ _=>False)).dQ) bc),?_⟩;obtain⟨o47,n47,s47,v47,rfl,hk47⟩:=hE47.shape;have hO':=hO.xl (fun _ _ h=>dV.mono hle47 h);refine nt ar rfl rfl (cq (e:=82) (m:=4) (z:=[iZ,iZ,.str [],.aK]) (cs:=[_,_,_,_]) (by kernel_rfl) (by kernel_rfl) (by kernel_rfl) (by kernel_rfl) (bB rfl rfl rfl rfl bT)) (fun _=>rfl) (fun σ b4 ar=>?_);replace ar:=ar.pull (.there .here);replace ar:=ar.pull (.jk (gx.here (X:=[_])));refine qE (R:=dV K47 k) (m:=4) (e:=82) hO' ar (fz (m:=4) rfl hE47) dV.leaf (by rw[lM_,lT_];show _+1<=_;omega) rfl rfl rfl rfl rfl rfl rfl rfl (fun _=>rfl) (fun σ u49 M49 hO49 ar=>?_);refine⟨bc,?_⟩;refine al rfl rfl (MY 3 rfl) rfl (nu ar (.jk .here) rfl rfl (aR rfl rfl hO49.leaf.1 ar.b9.g0 (m:=1) (by kernel_rfl) rfl (lb rfl) (ak hO49.leaf.2 aJ) (cells':=[_,_,_,_]) rfl) rfl (fun σ ar=>?_));refine⟨bc,?_⟩;refine aZ (aE (ad (ah rfl (vQ 3 rfl (af (aN ⟨j7-1,(by have:=bm h36;omega),(by(iterate 40 refine oP rfl ?_);exact oR _ _),i+1,u49,M49,K47,(by omega),KP.le_trans hle hle47,(by rw[kL hx44];exact hO49),cI (ba (by have:=hk.bA;omega)),ar⟩))))))
   refine bn (aS (aV (aO (ad (aj (ah rfl (aa rfl (M5 rfl ar.b9.g0 (n:=4) (vs:=[_,_,_,_]) rfl) rfl (dL ar (.jk (.there .here)) rfl (Nb rfl rfl rfl ar.b9.pop.g0 (m:=4) rfl (ak rfl (ak rfl (ak rfl (ak hO.leaf.2 aJ)))) (cells':=[_,_,_,_]) rfl) rfl (fun σ ar=>?_)))))))));refine nT (aC ?_);exact fw rfl rfl ar.b9.pop.g0 (m:=4) (by kernel_rfl) rfl ⟨K1.gG M,_,rfl,KP.le_trans hle (KP.bF _ _),⟨u,rfl,by rw[tL_ (br h36)] at hO;exact hO.jD.mono (KP.le_refl _) fun _ _ h=>dV.mono (KP.bF _ _) h⟩,ar.keeps.pop.pop.pop⟩
  refine aj (ah rfl (aa rfl (MY 0 rfl) rfl (aa rfl (MZ rfl (ar.get 2 rfl) rfl) rfl (vQ 1 rfl (nT (aG rfl (fun h30=>?_) (fun h30=>?_)))))))
  ·refine ah rfl (aa rfl (MY 2 rfl) rfl (bO ar rfl (Nb rfl rfl rfl ar.g0 (m:=1) rfl rfl (cells':=[_,_,_,_]) rfl) rfl (fun σ ar=>?_)));refine nT (aj (aj (ah rfl ?_)));replace ar:St σ K ([]++(b3,.row [.int .i64 op,.int .i64 num,.str (iq op name),.aK] 82 false)::(b2,.row [iZ,iZ,.str [],.aK] 82 false)::(b1,.row [.int .i64 op,.int .i64 num,.str name,v] 82 false)::L):=by rw[Cj h17 (IL h22)];exact ar
   refine vQ 1 rfl (nT (aM (bg [6,32,33,34,35,36,37,38,39,40,41,42,43,44,45,46,47,48,49,50] (fun j t σ=>∃(i:Nat) (u:AV) (M:Own) (K1:KP),j+i=kids.length/\KP.le K K1/\dh 4 82 (dV K1 k) ((kids.take i).map (fe k)) u M/\t.get 6=some (.int .i64 (.ofNat i))/\St σ K1 (M++(b3,.row [.int .i64 op,.int .i64 num,.str (iq op name),u] 82 false)::(b2,.row [iZ,iZ,.str [],.aK] 82 false)::(b1,.row [.int .i64 op,.int .i64 num,.str name,v] 82 false)::L)) (kids.length) ⟨0,.aK,[],K,rfl,KP.le_refl _,dh.nil,rfl,ar⟩ ?_)));clear ar;intro j7 t σ aq hI;obtain⟨i,u,M,K1,hj,hle,hO,hv6,ar⟩:=hI;obtain⟨o6,o32,o33,o34,o35,o36,o37,o38,o39,o40,o41,o42,o43,o44,o45,o46,aq⟩:=aq.L4 rfl rfl rfl rfl;replace aq:=aq.mg rfl;obtain⟨o47,o48,o49,o50,aq⟩:=aq;obtain rfl:=aq.nil;clear aq;replace hv6:o6=some _:=hv6;subst hv6;have hk1:=hk.mono hle (fun _ _ h=>dV.mono hle h);refine aj (aj (ah rfl (vQ 1 rfl (aa rfl (MY 3 rfl) rfl (aa rfl (MZ rfl ar.b9.pop.pop.g0 rfl) rfl (aa rfl (M6 hk1 rfl rfl rfl (e:=82) rfl) rfl (vQ 1 rfl (nT (aG rfl (fun h36=>?_) (fun h36=>?_))))))))))
   ·refine aH (ad (aj (aM (aU (l:=[(0,[]),(1,[]),(2,[]),(3,[]),(4,[]),(5,[]),(6,[]),(7,[]),(8,[1]),(9,[]),(10,[]),(11,[]),(12,[])]) (by kernel_rfl) (by kernel_rfl) (al rfl rfl (MY 3 rfl) rfl (al rfl rfl (MZ rfl ar.b9.g0 rfl) rfl (al rfl rfl (MY 3 rfl) rfl (al rfl rfl (MZ rfl ar.b9.pop.pop.g0 rfl) rfl (wQ 1 rfl ?_)))))))));obtain⟨x44,hx44,hi44⟩:=cm h36;refine MU (e:=82) (m:=4) hk1 hx44 rfl rfl rfl rfl rfl (fun p44 vs44 hp44 hl44 hr44=>?_);obtain⟨o44,n44,s44,v44,rfl,hk44⟩:=hr44.shape;refine al rfl rfl (Na ar hp44 rfl rfl) rfl (wQ 1 rfl (my rfl rfl (MX rfl rfl rfl) (fun _=>rfl) (ih _ _ _ hr44 (hF.2 _ (gB_ hx44)) (Nat.le_trans (kH (f:=cw k) hx44) (by omega)) _ _ ar) ?_));rintro _ σ ⟨K47,ws47,rfl,hle47,hE47,ar⟩;refine⟨(bW (dt rfl rfl rfl rfl rfl (MZ rfl ar.b9.g0 rfl) (hO.jD (K:=fun _ _=>False)).dQ) bc),?_⟩;obtain⟨o47,n47,s47,v47,rfl,hk47⟩:=hE47.shape;have hO':=hO.xl (fun _ _ h=>dV.mono hle47 h);refine nt ar rfl rfl (cq (e:=82) (m:=4) (z:=[iZ,iZ,.str [],.aK]) (cs:=[_,_,_,_]) (by kernel_rfl) (by kernel_rfl) (by kernel_rfl) (by kernel_rfl) (bB rfl rfl rfl rfl bT)) (fun _=>rfl) (fun σ b4 ar=>?_);replace ar:=ar.pull (.there .here);replace ar:=ar.pull (.jk (gx.here (X:=[_])));refine qE (R:=dV K47 k) (m:=4) (e:=82) hO' ar (fz (m:=4) rfl hE47) dV.leaf (by rw[lM_,lT_];show _+1<=_;omega) rfl rfl rfl rfl rfl rfl rfl rfl (fun _=>rfl) (fun σ u49 M49 hO49 ar=>?_);refine⟨bc,?_⟩;refine al rfl rfl (MY 3 rfl) rfl (nu ar (.jk .here) rfl rfl (aR rfl rfl hO49.leaf.1 ar.b9.g0 (m:=1) (by kernel_rfl) rfl (lb rfl) (ak hO49.leaf.2 aJ) (cells':=[_,_,_,_]) rfl) rfl (fun σ ar=>?_));refine⟨bc,?_⟩;refine aZ (aE (ad (ah rfl (vQ 3 rfl (af (aN ⟨j7-1,(by have:=bm h36;omega),(by(iterate 40 refine oP rfl ?_);exact oR _ _),i+1,u49,M49,K47,(by omega),KP.le_trans hle hle47,(by rw[kL hx44];exact hO49),cI (ba (by have:=hk.bA;omega)),ar⟩))))))
   refine bn (aS (aV (aO (ad (aj (ah rfl (aa rfl (M5 rfl ar.b9.g0 (n:=4) (vs:=[_,_,_,_]) rfl) rfl (dL ar (.jk (.there .here)) rfl (Nb rfl rfl rfl ar.b9.pop.g0 (m:=4) rfl (ak rfl (ak rfl (ak rfl (ak hO.leaf.2 aJ)))) (cells':=[_,_,_,_]) rfl) rfl (fun σ ar=>?_)))))))));refine nT (aC ?_);exact fw rfl rfl ar.b9.pop.g0 (m:=4) (by kernel_rfl) rfl ⟨K1.gG M,_,rfl,KP.le_trans hle (KP.bF _ _),⟨u,rfl,by rw[tL_ (br h36)] at hO;exact hO.jD.mono (KP.le_refl _) fun _ _ h=>dV.mono (KP.bF _ _) h⟩,ar.keeps.pop.pop.pop⟩
  exact absurd h30 (by rw[h17];decide)
 refine vQ 5 rfl (nT (aI rfl (aj (ah rfl (aa rfl (MY 0 rfl) rfl (aa rfl (MZ rfl (ar.get 2 rfl) rfl) rfl (vQ 1 rfl (nT (aG rfl (fun h30=>?_) (fun h30=>?_))))))))))
 ·exact absurd h30 (by rw[h17];decide)
 refine aH (ad (aj (aj (ah rfl ?_))));replace ar:St σ K ([]++(b3,.row [.int .i64 op,.int .i64 num,.str (iq op name),.aK] 82 false)::(b2,.row [iZ,iZ,.str [],.aK] 82 false)::(b1,.row [.int .i64 op,.int .i64 num,.str name,v] 82 false)::L):=by rw[GI h17];exact ar
 refine vQ 1 rfl (nT (aM (bg [6,32,33,34,35,36,37,38,39,40,41,42,43,44,45,46,47,48,49,50] (fun j t σ=>∃(i:Nat) (u:AV) (M:Own) (K1:KP),j+i=kids.length/\KP.le K K1/\dh 4 82 (dV K1 k) ((kids.take i).map (fe k)) u M/\t.get 6=some (.int .i64 (.ofNat i))/\St σ K1 (M++(b3,.row [.int .i64 op,.int .i64 num,.str (iq op name),u] 82 false)::(b2,.row [iZ,iZ,.str [],.aK] 82 false)::(b1,.row [.int .i64 op,.int .i64 num,.str name,v] 82 false)::L)) (kids.length) ⟨0,.aK,[],K,rfl,KP.le_refl _,dh.nil,rfl,ar⟩ ?_)));clear ar;intro j7 t σ aq hI;obtain⟨i,u,M,K1,hj,hle,hO,hv6,ar⟩:=hI;obtain⟨o6,o32,o33,o34,o35,o36,o37,o38,o39,o40,o41,o42,o43,o44,o45,o46,aq⟩:=aq.L4 rfl rfl rfl rfl;replace aq:=aq.mg rfl;obtain⟨o47,o48,o49,o50,aq⟩:=aq;obtain rfl:=aq.nil;clear aq;replace hv6:o6=some _:=hv6;subst hv6;have hk1:=hk.mono hle (fun _ _ h=>dV.mono hle h);refine aj (aj (ah rfl (vQ 1 rfl (aa rfl (MY 3 rfl) rfl (aa rfl (MZ rfl ar.b9.pop.pop.g0 rfl) rfl (aa rfl (M6 hk1 rfl rfl rfl (e:=82) rfl) rfl (vQ 1 rfl (nT (aG rfl (fun h36=>?_) (fun h36=>?_))))))))))
 ·refine aH (ad (aj (aM (aU (l:=[(0,[]),(1,[]),(2,[]),(3,[]),(4,[]),(5,[]),(6,[]),(7,[]),(8,[1]),(9,[]),(10,[]),(11,[]),(12,[])]) (by kernel_rfl) (by kernel_rfl) (al rfl rfl (MY 3 rfl) rfl (al rfl rfl (MZ rfl ar.b9.g0 rfl) rfl (al rfl rfl (MY 3 rfl) rfl (al rfl rfl (MZ rfl ar.b9.pop.pop.g0 rfl) rfl (wQ 1 rfl ?_)))))))));obtain⟨x44,hx44,hi44⟩:=cm h36;refine MU (e:=82) (m:=4) hk1 hx44 rfl rfl rfl rfl rfl (fun p44 vs44 hp44 hl44 hr44=>?_);obtain⟨o44,n44,s44,v44,rfl,hk44⟩:=hr44.shape;refine al rfl rfl (Na ar hp44 rfl rfl) rfl (wQ 1 rfl (my rfl rfl (MX rfl rfl rfl) (fun _=>rfl) (ih _ _ _ hr44 (hF.2 _ (gB_ hx44)) (Nat.le_trans (kH (f:=cw k) hx44) (by omega)) _ _ ar) ?_));rintro _ σ ⟨K47,ws47,rfl,hle47,hE47,ar⟩;refine⟨(bW (dt rfl rfl rfl rfl rfl (MZ rfl ar.b9.g0 rfl) (hO.jD (K:=fun _ _=>False)).dQ) bc),?_⟩;obtain⟨o47,n47,s47,v47,rfl,hk47⟩:=hE47.shape;have hO':=hO.xl (fun _ _ h=>dV.mono hle47 h);refine nt ar rfl rfl (cq (e:=82) (m:=4) (z:=[iZ,iZ,.str [],.aK]) (cs:=[_,_,_,_]) (by kernel_rfl) (by kernel_rfl) (by kernel_rfl) (by kernel_rfl) (bB rfl rfl rfl rfl bT)) (fun _=>rfl) (fun σ b4 ar=>?_);replace ar:=ar.pull (.there .here);replace ar:=ar.pull (.jk (gx.here (X:=[_])));refine qE (R:=dV K47 k) (m:=4) (e:=82) hO' ar (fz (m:=4) rfl hE47) dV.leaf (by rw[lM_,lT_];show _+1<=_;omega) rfl rfl rfl rfl rfl rfl rfl rfl (fun _=>rfl) (fun σ u49 M49 hO49 ar=>?_);refine⟨bc,?_⟩;refine al rfl rfl (MY 3 rfl) rfl (nu ar (.jk .here) rfl rfl (aR rfl rfl hO49.leaf.1 ar.b9.g0 (m:=1) (by kernel_rfl) rfl (lb rfl) (ak hO49.leaf.2 aJ) (cells':=[_,_,_,_]) rfl) rfl (fun σ ar=>?_));refine⟨bc,?_⟩;refine aZ (aE (ad (ah rfl (vQ 3 rfl (af (aN ⟨j7-1,(by have:=bm h36;omega),(by(iterate 40 refine oP rfl ?_);exact oR _ _),i+1,u49,M49,K47,(by omega),KP.le_trans hle hle47,(by rw[kL hx44];exact hO49),cI (ba (by have:=hk.bA;omega)),ar⟩))))))
 refine bn (aS (aV (aO (ad (aj (ah rfl (aa rfl (M5 rfl ar.b9.g0 (n:=4) (vs:=[_,_,_,_]) rfl) rfl (dL ar (.jk (.there .here)) rfl (Nb rfl rfl rfl ar.b9.pop.g0 (m:=4) rfl (ak rfl (ak rfl (ak rfl (ak hO.leaf.2 aJ)))) (cells':=[_,_,_,_]) rfl) rfl (fun σ ar=>?_)))))))));refine nT (aC ?_);exact fw rfl rfl ar.b9.pop.g0 (m:=4) (by kernel_rfl) rfl ⟨K1.gG M,_,rfl,KP.le_trans hle (KP.bF _ _),⟨u,rfl,by rw[tL_ (br h36)] at hO;exact hO.jD.mono (KP.le_refl _) fun _ _ h=>dV.mono (KP.bF _ _) h⟩,ar.keeps.pop.pop.pop⟩
end Go.Ev
namespace Go.Ev
variable [Env]
section
variable {P:Program} {G:Cx} {n:Nat} {t:PT AV} {σ:aD} {Q:Ex->PT AV->aD->Prop}
def LY (W:List Nat) (t:PT AV) (I:PT AV->aD->Prop) (e:Ex) (t':PT AV) (σ':aD):Prop:=e= .normal/\aY W t t'/\I t' σ'
theorem jM {a b:Code} (W:List Nat) (I:PT AV->aD->Prop) (h1:Ev P G a n t σ (LY W t I)) (h2:∀t' σ',aY W t t'->I t' σ'->Ev P G b n t' σ' Q):Ev P G (.seq a b) n t σ Q:=
 aj (h1.mono fun e t' σ' h=>by obtain⟨rfl,h3,h4⟩:=h;exact h2 t' σ' h3 h4)
end
end Go.Ev
namespace Go.Ev
variable [Env]
open Go.Proofs
set_option maxRecDepth 4000
set_option maxHeartbeats 8000000
theorem ES {op:Int} {s:List Nat} (h:s.length<=9223372036854775807):(iq op s).length<=9223372036854775807:=by
 unfold iq;cases bq op 2 with
 | false=>exact h
 | true=>
  show(match gH s with | some _=>114::s | none=>[48]).length<=_;cases hr:gH s with
  | none=>show 1<=_;omega
  | some n=>
   obtain⟨_,h4,_⟩:=vG hr;show s.length+1<=_;omega
theorem sP:∀{k:Nat} {x:XE},hY k x->hY k (fe k x)
 | 0,_,h=>h.elim
 | k+1,.mk op num name kids,h=>⟨ES h.1,fun y hy=>by
  obtain⟨x,hx,rfl⟩:=List.mem_map.1 hy;exact sP (h.2 x hx)⟩
theorem CY {α:Type} {p:α->Bool} {l l':List α} (hm:∀s,s∈l'↔s∈l):l'.all p=l.all p:=by
 rw[Bool.eq_iff_iff,aE_,aE_];exact⟨fun h x hx=>h x ((hm x).2 hx),fun h x hx=>h x ((hm x).1 hx)⟩
theorem FV {G:Cx} (hG:Plain G) {K:KP} {k:Nat} {c:XC} {cv:AV} (hc:bJ K 6 (gK K k) c.ins cv) {x:XI} {vs:List AV} (hI:gK K k x vs) (hF:∀e∈x.exprs,hY k e) (hS:∀e∈x.exprs,cw k e<=100000) {σ:aD} {L:Own} (ar:St σ K L):bp Tryz.prog G 170 [.agg [.int .i64 c.aP,cv],.agg vs] σ fun v σ'=>v= .bool (fJ c.aP (.ofNat c.ins.length) k x)/\St σ' K L:=by
 obtain⟨w,rfl,hk⟩:=hI;refine bh hG Tryz.func170 rfl (t:=(PT.leaf.put (some (.agg [.int .i64 c.aP,cv])) 0).put (some (.agg _)) 1) (by rfl) (aj (ah rfl (kp ar rfl (cK rfl rfl) (fun σ b1 ar=>?_))));refine kp ar rfl (cK rfl rfl) (fun σ b2 ar=>?_);refine vQ 1 rfl (af (ad ?_));obtain⟨LC1,ar,hLC1⟩:=ar.named;refine jM [5,10,11,12,13,14,15,16,17] (fun t σ=>∃(q:Bool),q=rF x.kind/\t.get 5=some (.bool q)/\St σ K LC1) ?_ ?_
 ·subst hLC1;refine ah rfl (aa rfl (MY 0 rfl) rfl (aa rfl (MZ rfl ar.g0 rfl) rfl (bf rfl (MX rfl rfl rfl) (fun _=>rfl) (jU hG _ ar) (fun σ ar=>?_))));refine ky rfl (an rfl) (fun h13=>?_) (fun h13=>?_)
  ·refine vQ 5 rfl (af ?_);exact⟨rfl,(by(iterate 9 refine oP rfl ?_);exact oR _ _),_,(by unfold rF;simp only[h13,ct,cf]<;>rfl),rfl,ar⟩
  refine aa rfl (MY 0 rfl) rfl (aa rfl (MZ rfl ar.g0 rfl) rfl (vQ 3 rfl (af ?_)));exact⟨rfl,(by(iterate 9 refine oP rfl ?_);exact oR _ _),_,(by unfold rF;simp only[h13,ct,cf]<;>rfl),rfl,ar⟩
 clear ar;intro t σ aq hI;obtain⟨q,hq,hv5,ar⟩:=hI;subst hLC1;replace aq:=aq.bR rfl rfl;obtain⟨o5,o10,o11,o12,o13,o14,o15,o16,aq⟩:=aq;replace aq:=aq.dI rfl;obtain⟨o17,aq⟩:=aq;obtain rfl:=aq.nil;clear aq;replace hv5:o5=some _:=hv5;subst hv5;subst hq;obtain⟨LC2,ar,hLC2⟩:=ar.named;refine jM [6,18,19,20,21,22,23,24,25] (fun t σ=>∃(q:Bool),q=I5 x.kind/\t.get 6=some (.bool q)/\St σ K LC2) ?_ ?_
 ·subst hLC2;refine ah rfl (aa rfl (MY 0 rfl) rfl (aa rfl (MZ rfl ar.g0 rfl) rfl (vQ 1 rfl (ky rfl (an rfl) (fun h21=>?_) (fun h21=>?_)))))
  ·refine vQ 5 rfl (af ?_);exact⟨rfl,(by(iterate 9 refine oP rfl ?_);exact oR _ _),_,(by unfold I5;simp only[h21,ct,cf]<;>rfl),rfl,ar⟩
  refine aa rfl (MY 0 rfl) rfl (aa rfl (MZ rfl ar.g0 rfl) rfl (vQ 3 rfl (af ?_)));exact⟨rfl,(by(iterate 9 refine oP rfl ?_);exact oR _ _),_,(by unfold I5;simp only[h21,ct,cf]<;>rfl),rfl,ar⟩
 clear ar;intro t σ aq hI;obtain⟨q,hq,hv6,ar⟩:=hI;subst hLC2;replace aq:=aq.bR rfl rfl;obtain⟨o6,o18,o19,o20,o21,o22,o23,o24,aq⟩:=aq;replace aq:=aq.dI rfl;obtain⟨o25,aq⟩:=aq;obtain rfl:=aq.nil;clear aq;replace hv6:o6=some _:=hv6;subst hv6;subst hq;refine aj ?_;obtain⟨LC3,ar,hLC3⟩:=ar.named;refine jM [26,27,28,29,30,31,32,33,34,35,36,37,38,39,40,41,42,43,44,45,46,47,48,49,50,51,52,53] (fun t σ=>∃(q:Bool),q=nI x/\t.get 53=some (.bool q)/\St σ K LC3) ?_ ?_
 ·subst hLC3;refine aU (l:=[(0,[]),(1,[]),(3,[]),(4,[]),(5,[]),(2,[4]),(6,[]),(7,[]),(8,[]),(9,[]),(10,[]),(11,[]),(12,[]),(13,[]),(14,[]),(15,[]),(16,[]),(17,[]),(18,[]),(19,[]),(20,[]),(21,[]),(22,[]),(23,[]),(24,[]),(25,[]),(26,[]),(27,[])]) (by kernel_rfl) (by kernel_rfl) (al rfl rfl (MY 0 rfl) rfl (al rfl rfl (MZ rfl ar.g0 rfl) rfl (al rfl rfl (MY 5 rfl) rfl (al rfl rfl (MZ rfl ar.g0 rfl) rfl (al rfl rfl (M6 hk rfl rfl rfl (e:=82) rfl) rfl (cR rfl rfl (MX rfl rfl rfl) (fun _=>rfl) (Ib hG _ ar) (fun σ ar=>?_)))))));refine⟨(bW (dt rfl rfl rfl rfl rfl (MZ rfl ar.g0 rfl) hk.dQ) bc),?_⟩;refine wQ 1 rfl (dY rfl rfl (an rfl) (fun _=>rfl) (fun h33=>?_) (fun h33=>?_))
  ·refine wQ 20 rfl (aZ ?_);exact⟨rfl,(by(iterate 28 refine oP rfl ?_);exact oR _ _),_,(by unfold nI zc aX;simp only[h33,ct,cf]<;>rfl),rfl,ar⟩
  refine wQ 1 rfl (al rfl rfl (MY 3 rfl) rfl (al rfl rfl (MZ rfl ar.g0 rfl) rfl (wQ 1 rfl (dY rfl rfl (an rfl) (fun _=>rfl) (fun h38=>?_) (fun h38=>?_)))))
  ·refine al rfl rfl (MY 3 rfl) rfl (al rfl rfl (MZ rfl ar.g0 rfl) rfl (wQ 4 rfl (dY rfl rfl (an rfl) (fun _=>rfl) (fun h45=>?_) (fun h45=>?_))))
   ·refine wQ 8 rfl (aZ ?_);exact⟨rfl,(by(iterate 28 refine oP rfl ?_);exact oR _ _),_,(by unfold nI zc aX;simp only[h33,h38,h45,ct,cf]<;>rfl),rfl,ar⟩
   refine wQ 1 rfl (al rfl rfl (cN rfl) rfl (dY rfl rfl (an rfl) (fun _=>rfl) (fun h48=>?_) (fun h48=>?_)))
   ·refine al rfl rfl (MY 3 rfl) rfl (al rfl rfl (MZ rfl ar.g0 rfl) rfl (wQ 3 rfl (aZ ?_)));exact⟨rfl,(by(iterate 28 refine oP rfl ?_);exact oR _ _),_,(by unfold nI zc aX;simp only[h33,h38,h45,show(bif rF x.kind then false else true)=true from h48,ct,cf]<;>rfl),rfl,ar⟩
   refine wQ 5 rfl (aZ ?_);exact⟨rfl,(by(iterate 28 refine oP rfl ?_);exact oR _ _),_,(by unfold nI zc aX;simp only[h33,h38,h45,show(bif rF x.kind then false else true)=false from h48,ct,cf]<;>rfl),rfl,ar⟩
  refine wQ 6 rfl (dY rfl rfl (an rfl) (fun _=>rfl) (fun h45=>?_) (fun h45=>?_))
  ·refine wQ 8 rfl (aZ ?_);exact⟨rfl,(by(iterate 28 refine oP rfl ?_);exact oR _ _),_,(by unfold nI zc aX;simp only[h33,h38,show(bif rF x.kind then true else false)=true from h45,ct,cf]<;>rfl),rfl,ar⟩
  refine wQ 1 rfl (al rfl rfl (cN rfl) rfl (dY rfl rfl (an rfl) (fun _=>rfl) (fun h48=>?_) (fun h48=>?_)))
  ·refine al rfl rfl (MY 3 rfl) rfl (al rfl rfl (MZ rfl ar.g0 rfl) rfl (wQ 3 rfl (aZ ?_)));exact⟨rfl,(by(iterate 28 refine oP rfl ?_);exact oR _ _),_,(by unfold nI zc aX;simp only[h33,h38,show(bif rF x.kind then true else false)=false from h45,show(bif rF x.kind then false else true)=true from h48,ct,cf]<;>rfl),rfl,ar⟩
  refine wQ 5 rfl (aZ ?_);exact⟨rfl,(by(iterate 28 refine oP rfl ?_);exact oR _ _),_,(by unfold nI zc aX;simp only[h33,h38,show(bif rF x.kind then true else false)=false from h45,show(bif rF x.kind then false else true)=false from h48,ct,cf]<;>rfl),rfl,ar⟩
 clear ar;intro t σ aq hI;obtain⟨q,hq,hv53,ar⟩:=hI;subst hLC3;obtain⟨o26,o27,o28,o29,o30,o31,o32,o33,o34,o35,o36,o37,o38,o39,o40,o41,aq⟩:=aq.L4 rfl rfl rfl rfl;replace aq:=aq.bR rfl rfl;obtain⟨o42,o43,o44,o45,o46,o47,o48,o49,aq⟩:=aq;replace aq:=aq.mg rfl;obtain⟨o50,o51,o52,o53,aq⟩:=aq;obtain rfl:=aq.nil;clear aq;replace hv53:o53=some _:=hv53;subst hv53;subst hq;refine aG rfl (fun h53=>?_) (fun h53=>?_)
 ·refine aj (ah rfl (vQ 1 rfl (nT (aC (av (?_))))));exact ay rfl rfl ⟨cB (by unfold fJ;rw[h53];rfl),ar.pop.pop⟩
 refine aH (ad (aj ?_));obtain⟨LC5,ar,hLC5⟩:=ar.named;refine jM [54,55,56,57,58,59,60,61,62,63,64,65,66,67,68,69,70,71,72,73,74,75,76,77,78,79,80,81,82,83,84,85,86,87,88,89,90,91,92,93,94,95,96,97,98,99,100,101,102,103,104,105] (fun t σ=>∃(q:Bool),q=lI c.aP x/\t.get 105=some (.bool q)/\St σ K LC5) ?_ ?_
 ·subst hLC5;refine ah rfl (aa rfl (MY 0 rfl) rfl (aa rfl (MZ rfl ar.g0 rfl) rfl (bf rfl (MX rfl rfl rfl) (fun _=>rfl) (BL hG _ ar) (fun σ ar=>?_))));refine ky rfl (an rfl) (fun h57=>?_) (fun h57=>?_)
  ·refine aa rfl (MY 1 rfl) rfl (aa rfl (MZ rfl ar.g0 rfl) rfl (vQ 1 rfl (ky rfl (an rfl) (fun h61=>?_) (fun h61=>?_))))
   ·refine vQ 44 rfl (af ?_);exact⟨rfl,(by(iterate 52 refine oP rfl ?_);exact oR _ _),_,(by unfold lI aX;simp only[h57,h61,ct,cf]<;>rfl),rfl,ar⟩
   refine aa rfl (MY 1 rfl) rfl (aa rfl (MZ rfl ar.g0 rfl) rfl (aa rfl (MY 0 rfl) rfl (aa rfl (MZ rfl ar.g1 rfl) rfl (vQ 3 rfl (ky rfl (an rfl) (fun h69=>?_) (fun h69=>?_))))))
   ·refine vQ 36 rfl (af ?_);exact⟨rfl,(by(iterate 52 refine oP rfl ?_);exact oR _ _),_,(by unfold lI aX;simp only[h57,h61,h69,ct,cf]<;>rfl),rfl,ar⟩
   refine aa rfl (MY 0 rfl) rfl (aa rfl (MZ rfl ar.g0 rfl) rfl (bf rfl (MX rfl rfl rfl) (fun _=>rfl) (BL hG _ ar) (fun σ ar=>?_)));refine aa rfl (cN rfl) rfl (ky rfl (an rfl) (fun h74=>?_) (fun h74=>?_))
   ·exact absurd h74 (by rw[h57];decide)
   refine vQ 6 rfl (aa rfl (MY 0 rfl) rfl (aa rfl (MZ rfl ar.g0 rfl) rfl (bf rfl (MX rfl rfl rfl) (fun _=>rfl) (jU hG _ ar) (fun σ ar=>?_))));refine ky rfl (an rfl) (fun h84=>?_) (fun h84=>?_)
   ·refine aa rfl (MY 2 rfl) rfl (aa rfl (MZ rfl ar.g0 rfl) rfl (vQ 1 rfl (ky rfl (an rfl) (fun h88=>?_) (fun h88=>?_))))
    ·refine vQ 17 rfl (af ?_);exact⟨rfl,(by(iterate 52 refine oP rfl ?_);exact oR _ _),_,(by unfold lI aX;simp only[h57,h61,h69,show(bif jX x.kind then false else true)=false from h74,h84,h88,ct,cf]<;>rfl),rfl,ar⟩
    refine aa rfl (MY 2 rfl) rfl (aa rfl (MZ rfl ar.g0 rfl) rfl (vQ 4 rfl (ky rfl (an rfl) (fun h95=>?_) (fun h95=>?_))))
    ·refine vQ 10 rfl (af ?_);exact⟨rfl,(by(iterate 52 refine oP rfl ?_);exact oR _ _),_,(by unfold lI aX;simp only[h57,h61,h69,show(bif jX x.kind then false else true)=false from h74,h84,h88,h95,ct,cf]<;>rfl),rfl,ar⟩
    refine aa rfl (MY 0 rfl) rfl (aa rfl (MZ rfl ar.g0 rfl) rfl (bf rfl (MX rfl rfl rfl) (fun _=>rfl) (jU hG _ ar) (fun σ ar=>?_)));refine aa rfl (cN rfl) rfl (ky rfl (an rfl) (fun h100=>?_) (fun h100=>?_))
    ·exact absurd h100 (by rw[h84];decide)
    refine vQ 5 rfl (af ?_);exact⟨rfl,(by(iterate 52 refine oP rfl ?_);exact oR _ _),_,(by unfold lI aX;simp only[h57,h61,h69,show(bif jX x.kind then false else true)=false from h74,h84,h88,h95,show(bif pF x.kind then false else true)=false from h100,ct,cf]<;>rfl),rfl,ar⟩
   refine vQ 11 rfl (aa rfl (MY 0 rfl) rfl (aa rfl (MZ rfl ar.g0 rfl) rfl (bf rfl (MX rfl rfl rfl) (fun _=>rfl) (jU hG _ ar) (fun σ ar=>?_))));refine aa rfl (cN rfl) rfl (ky rfl (an rfl) (fun h100=>?_) (fun h100=>?_))
   ·refine aa rfl (MY 2 rfl) rfl (aa rfl (MZ rfl ar.g0 rfl) rfl (vQ 3 rfl (af ?_)));exact⟨rfl,(by(iterate 52 refine oP rfl ?_);exact oR _ _),_,(by unfold lI aX;simp only[h57,h61,h69,show(bif jX x.kind then false else true)=false from h74,h84,show(bif pF x.kind then false else true)=true from h100,ct,cf]<;>rfl),rfl,ar⟩
   exact absurd h100 (by rw[h84];decide)
  refine vQ 12 rfl (aa rfl (MY 0 rfl) rfl (aa rfl (MZ rfl ar.g0 rfl) rfl (bf rfl (MX rfl rfl rfl) (fun _=>rfl) (BL hG _ ar) (fun σ ar=>?_))));refine aa rfl (cN rfl) rfl (ky rfl (an rfl) (fun h74=>?_) (fun h74=>?_))
  ·refine aa rfl (MY 1 rfl) rfl (aa rfl (MZ rfl ar.g0 rfl) rfl (vQ 3 rfl (ky rfl (an rfl) (fun h80=>?_) (fun h80=>?_))))
   ·refine vQ 25 rfl (af ?_);exact⟨rfl,(by(iterate 52 refine oP rfl ?_);exact oR _ _),_,(by unfold lI aX;simp only[h57,show(bif jX x.kind then false else true)=true from h74,h80,ct,cf]<;>rfl),rfl,ar⟩
   refine aa rfl (MY 0 rfl) rfl (aa rfl (MZ rfl ar.g0 rfl) rfl (bf rfl (MX rfl rfl rfl) (fun _=>rfl) (jU hG _ ar) (fun σ ar=>?_)));refine ky rfl (an rfl) (fun h84=>?_) (fun h84=>?_)
   ·refine aa rfl (MY 2 rfl) rfl (aa rfl (MZ rfl ar.g0 rfl) rfl (vQ 1 rfl (ky rfl (an rfl) (fun h88=>?_) (fun h88=>?_))))
    ·refine vQ 17 rfl (af ?_);exact⟨rfl,(by(iterate 52 refine oP rfl ?_);exact oR _ _),_,(by unfold lI aX;simp only[h57,show(bif jX x.kind then false else true)=true from h74,h80,h84,h88,ct,cf]<;>rfl),rfl,ar⟩
    refine aa rfl (MY 2 rfl) rfl (aa rfl (MZ rfl ar.g0 rfl) rfl (vQ 4 rfl (ky rfl (an rfl) (fun h95=>?_) (fun h95=>?_))))
    ·refine vQ 10 rfl (af ?_);exact⟨rfl,(by(iterate 52 refine oP rfl ?_);exact oR _ _),_,(by unfold lI aX;simp only[h57,show(bif jX x.kind then false else true)=true from h74,h80,h84,h88,h95,ct,cf]<;>rfl),rfl,ar⟩
    refine aa rfl (MY 0 rfl) rfl (aa rfl (MZ rfl ar.g0 rfl) rfl (bf rfl (MX rfl rfl rfl) (fun _=>rfl) (jU hG _ ar) (fun σ ar=>?_)));refine aa rfl (cN rfl) rfl (ky rfl (an rfl) (fun h100=>?_) (fun h100=>?_))
    ·exact absurd h100 (by rw[h84];decide)
    refine vQ 5 rfl (af ?_);exact⟨rfl,(by(iterate 52 refine oP rfl ?_);exact oR _ _),_,(by unfold lI aX;simp only[h57,show(bif jX x.kind then false else true)=true from h74,h80,h84,h88,h95,show(bif pF x.kind then false else true)=false from h100,ct,cf]<;>rfl),rfl,ar⟩
   refine vQ 11 rfl (aa rfl (MY 0 rfl) rfl (aa rfl (MZ rfl ar.g0 rfl) rfl (bf rfl (MX rfl rfl rfl) (fun _=>rfl) (jU hG _ ar) (fun σ ar=>?_))));refine aa rfl (cN rfl) rfl (ky rfl (an rfl) (fun h100=>?_) (fun h100=>?_))
   ·refine aa rfl (MY 2 rfl) rfl (aa rfl (MZ rfl ar.g0 rfl) rfl (vQ 3 rfl (af ?_)));exact⟨rfl,(by(iterate 52 refine oP rfl ?_);exact oR _ _),_,(by unfold lI aX;simp only[h57,show(bif jX x.kind then false else true)=true from h74,h80,h84,show(bif pF x.kind then false else true)=true from h100,ct,cf]<;>rfl),rfl,ar⟩
   exact absurd h100 (by rw[h84];decide)
  exact absurd h74 (by rw[h57];decide)
 clear ar;intro t σ aq hI;obtain⟨q,hq,hv105,ar⟩:=hI;subst hLC5;obtain⟨o54,o55,o56,o57,o58,o59,o60,o61,o62,o63,o64,o65,o66,o67,o68,o69,aq⟩:=aq.L4 rfl rfl rfl rfl;obtain⟨o70,o71,o72,o73,o74,o75,o76,o77,o78,o79,o80,o81,o82,o83,o84,o85,aq⟩:=aq.L4 rfl rfl rfl rfl;obtain⟨o86,o87,o88,o89,o90,o91,o92,o93,o94,o95,o96,o97,o98,o99,o100,o101,aq⟩:=aq.L4 rfl rfl rfl rfl;replace aq:=aq.mg rfl;obtain⟨o102,o103,o104,o105,aq⟩:=aq;obtain rfl:=aq.nil;clear aq;replace hv105:o105=some _:=hv105;subst hv105;subst hq;refine aG rfl (fun h105=>?_) (fun h105=>?_)
 ·refine aj (ah rfl (vQ 1 rfl (nT (aC (av (?_))))));exact ay rfl rfl ⟨cB (by unfold fJ;rw[h53,h105];rfl),ar.pop.pop⟩
 refine aH (ad (aj ?_));obtain⟨LC7,ar,hLC7⟩:=ar.named;refine jM [106,107,108,109,110,111,112,113,114,115,116,117,118,119,120,121,122,123,124,125,126,127,128] (fun t σ=>∃(q:Bool),q=ue (.ofNat c.ins.length) x/\t.get 128=some (.bool q)/\St σ K LC7) ?_ ?_
 ·subst hLC7;refine ah rfl (vQ 1 rfl (ky rfl (an rfl) (fun h107=>?_) (fun h107=>?_)))
  ·refine aa rfl (MY 4 rfl) rfl (aa rfl (MZ rfl ar.g0 rfl) rfl (vQ 1 rfl (ky rfl (an rfl) (fun h111=>?_) (fun h111=>?_))))
   ·refine vQ 17 rfl (af ?_);exact⟨rfl,(by(iterate 23 refine oP rfl ?_);exact oR _ _),_,(by unfold ue aX;simp only[h107,h111,ct,cf]<;>rfl),rfl,ar⟩
   refine aa rfl (MY 4 rfl) rfl (aa rfl (MZ rfl ar.g0 rfl) rfl (aa rfl (MY 1 rfl) rfl (aa rfl (MZ rfl ar.g1 rfl) rfl (aa rfl (M6 hc rfl rfl rfl (e:=79) rfl) rfl (vQ 3 rfl (ky rfl (an rfl) (fun h120=>?_) (fun h120=>?_)))))))
   ·refine vQ 8 rfl (af ?_);exact⟨rfl,(by(iterate 23 refine oP rfl ?_);exact oR _ _),_,(by unfold ue aX;simp only[h107,h111,h120,ct,cf]<;>rfl),rfl,ar⟩
   refine vQ 1 rfl (aa rfl (cN rfl) rfl (ky rfl (an rfl) (fun h123=>?_) (fun h123=>?_)))
   ·exact absurd h123 (by rw[h107];decide)
   refine vQ 5 rfl (af ?_);exact⟨rfl,(by(iterate 23 refine oP rfl ?_);exact oR _ _),_,(by unfold ue aX;simp only[h107,h111,h120,show(bif I5 x.kind then false else true)=false from h123,ct,cf]<;>rfl),rfl,ar⟩
  refine vQ 14 rfl (aa rfl (cN rfl) rfl (ky rfl (an rfl) (fun h123=>?_) (fun h123=>?_)))
  ·refine aa rfl (MY 4 rfl) rfl (aa rfl (MZ rfl ar.g0 rfl) rfl (vQ 3 rfl (af ?_)));exact⟨rfl,(by(iterate 23 refine oP rfl ?_);exact oR _ _),_,(by unfold ue aX;simp only[h107,show(bif I5 x.kind then false else true)=true from h123,ct,cf]<;>rfl),rfl,ar⟩
  exact absurd h123 (by rw[h107];decide)
 clear ar;intro t σ aq hI;obtain⟨q,hq,hv128,ar⟩:=hI;subst hLC7;obtain⟨o106,o107,o108,o109,o110,o111,o112,o113,o114,o115,o116,o117,o118,o119,o120,o121,aq⟩:=aq.L4 rfl rfl rfl rfl;replace aq:=aq.mg rfl;obtain⟨o122,o123,o124,o125,aq⟩:=aq;replace aq:=aq.dI rfl;obtain⟨o126,aq⟩:=aq;replace aq:=aq.dI rfl;obtain⟨o127,aq⟩:=aq;replace aq:=aq.dI rfl;obtain⟨o128,aq⟩:=aq;obtain rfl:=aq.nil;clear aq;replace hv128:o128=some _:=hv128;subst hv128;subst hq;refine aG rfl (fun h128=>?_) (fun h128=>?_)
 ·refine aj (ah rfl (vQ 1 rfl (nT (aC (av (?_))))));exact ay rfl rfl ⟨cB (by unfold fJ;rw[h53,h105,h128];rfl),ar.pop.pop⟩
 refine aH (ad (aj (aj (ah rfl (vQ 1 rfl (nT (aM ?_)))))));obtain⟨LL1,ar,hLL1⟩:=ar.named;refine bg [4,7,8,9,129,130,131,132,133,134,135,136,137,138,139,140,141,142,143,144,145,146,147,148,149,150,151,152,153,154,155,156,157,158,159,160,161,162,163] (fun j t σ=>∃(i:Nat),j+i=x.exprs.length/\(x.exprs.take i).all (ll c.aP k)=true/\t.get 7=some (.int .i64 (.ofNat i))/\St σ K LL1) (x.exprs.length) ⟨0,rfl,rfl,rfl,ar⟩ ?_;clear ar;intro j10 t σ aq hI;obtain⟨i,hj,ha,hv7,ar⟩:=hI;subst hLL1;obtain⟨o4,o7,o8,o9,o129,o130,o131,o132,o133,o134,o135,o136,o137,o138,o139,o140,aq⟩:=aq.L4 rfl rfl rfl rfl;obtain⟨o141,o142,o143,o144,o145,o146,o147,o148,o149,o150,o151,o152,o153,o154,o155,o156,aq⟩:=aq.L4 rfl rfl rfl rfl;replace aq:=aq.mg rfl;obtain⟨o157,o158,o159,o160,aq⟩:=aq;replace aq:=aq.dI rfl;obtain⟨o161,aq⟩:=aq;replace aq:=aq.dI rfl;obtain⟨o162,aq⟩:=aq;replace aq:=aq.dI rfl;obtain⟨o163,aq⟩:=aq;obtain rfl:=aq.nil;clear aq;replace hv7:o7=some _:=hv7;subst hv7;refine aj (aj (ah rfl (vQ 1 rfl (aa rfl (MY 5 rfl) rfl (aa rfl (MZ rfl ar.g0 rfl) rfl (aa rfl (M6 hk rfl rfl rfl (e:=82) rfl) rfl (vQ 1 rfl (nT (aG rfl (fun h133=>?_) (fun h133=>?_))))))))))
 ·refine aH (ad (aj (aM (aj (aj (ah rfl (aa rfl (MY 5 rfl) rfl (aa rfl (MZ rfl ar.g0 rfl) rfl (vQ 1 rfl ?_)))))))));obtain⟨x139,hx139,hi139⟩:=cm h133;refine MT (e:=82) (m:=4) hk hx139 rfl rfl rfl rfl (fun p139 vs139 hp139 hl139 hr139=>?_);obtain⟨o139,n139,s139,v139,rfl,hk139⟩:=hr139.shape;refine aa rfl (Na ar hp139 rfl rfl) rfl ?_;have hmem:=gB_ hx139;refine dF rfl (MX rfl rfl rfl) (fun _=>rfl) (H8 hG _ _ _ _ hr139 (hF _ hmem) (Nat.le_trans (hS _ hmem) (by omega)) _ _ ar) ?_;rintro _ σ ⟨K141,ws141,rfl,hle141,hE141,ar⟩;refine bf rfl (MX rfl rfl rfl) (fun _=>rfl) (sY hG hE141 (sP (hF _ hmem)) (by rw[oL];exact Nat.le_trans (hS _ hmem) (by omega)) ar) (fun σ ar=>?_);refine vQ 1 rfl (nT (aG rfl (fun h143=>?_) (fun h143=>?_)))
  ·refine aj (ah rfl (vQ 1 rfl (nT (aC (av (aB (av (bk (aB (av (?_)))))))))));exact ay rfl rfl ⟨cB (by unfold fJ;rw[h53,h105,h128];show _=x.exprs.all (ll c.aP k);rw[gp hx139 (by unfold ll;rw[bM h143];rfl)]),(ar.weaken hle141).pop.pop⟩
  refine aH (ad (aj (ah rfl ?_)));have hk2:=hk.mono hle141 (fun _ _ h=>dV.mono hle141 h);refine aa rfl (MY 5 rfl) rfl (aa rfl (MZ rfl ar.g0 rfl) rfl (vQ 1 rfl (MT (e:=82) (m:=4) hk2 hx139 rfl rfl rfl rfl (fun p147 vs147 hp147 hl147 hr147=>?_))));obtain⟨o147,n147,s147,v147,rfl,hk147⟩:=hr147.shape;refine aa rfl (Na ar hp147 rfl rfl) rfl (dF rfl (MX rfl rfl rfl) (fun _=>rfl) (Ie hG hr147 (hS _ hmem) ar) ?_);rintro v149 σ ⟨K149,l149,hle149,h149,hm149,ar⟩;refine vQ 1 rfl (nS rfl (vQ 1 rfl (nT (aM ?_))));obtain⟨LL2,ar,hLL2⟩:=ar.named;refine bg [4,9,150,151,152,153,154,155,156,157,158,159,160,161,162,163] (fun j t σ=>∃(i2:Nat),j+i2=l149.length/\(l149.take i2).all (fun s=>bG (iT s) c.aP)=true/\t.get 9=some (.int .i64 (.ofNat i2))/\St σ K149 LL2) (l149.length) ⟨0,rfl,rfl,rfl,ar⟩ ?_;clear ar;intro j16 t σ aq hI;obtain⟨i2,hj2,ha2,hv9,ar⟩:=hI;subst hLL2;obtain⟨o4,o9,o150,o151,o152,o153,o154,o155,o156,o157,o158,o159,o160,o161,o162,o163,aq⟩:=aq.L4 rfl rfl rfl rfl;obtain rfl:=aq.nil;clear aq;replace hv9:o9=some _:=hv9;subst hv9;refine aj (aj (ah rfl (vQ 2 rfl (aa rfl (M6 h149 rfl rfl rfl (e:=9) rfl) rfl (vQ 1 rfl (nT (aG rfl (fun h153=>?_) (fun h153=>?_))))))))
  ·refine aH (ad (aj (aM (aj (aU (l:=[(0,[]),(1,[]),(2,[]),(3,[]),(5,[]),(6,[]),(4,[6]),(7,[])]) (by kernel_rfl) (by kernel_rfl) (wQ 2 rfl ?_))))));obtain⟨x158,hx158,hi158⟩:=cm h153;refine MU (e:=9) (m:=1) h149 hx158 rfl rfl rfl rfl rfl (fun p158 vs158 hp158 hl158 hr158=>?_);obtain rfl:=hr158;refine al rfl rfl (M9 ar hp158 rfl rfl) rfl (al rfl rfl (MY 0 rfl) rfl (al rfl rfl (MZ rfl ar.g1 rfl) rfl (cR rfl rfl (MX rfl rfl rfl) (fun _=>rfl) (FP hG _ ar) (fun σ ar=>?_))));refine⟨(bW (dt rfl rfl rfl rfl rfl (MZ rfl ar.g1 rfl) (nY _ _)) bc),?_⟩;refine wQ 1 rfl (aZ (ad (aG rfl (fun h163=>?_) (fun h163=>?_))))
   ·refine aj (ah rfl (vQ 1 rfl (nT (aC (aB (av (bk (aB (aB (av (bk (aB (av (?_))))))))))))));exact ay rfl rfl ⟨cB (by unfold fJ;rw[h53,h105,h128];show _=x.exprs.all (ll c.aP k);rw[gp hx139 (by unfold ll;rw[bx h143,<-CY hm149];exact gp hx158 (bM h163))]),((ar.weaken hle149).weaken hle141).pop.pop⟩
   refine aH (aE (ad (ah rfl (vQ 3 rfl (af (aN ⟨j16-1,(by have:=bm h153;omega),(by(iterate 31 refine oP rfl ?_);exact oR _ _),i2+1,(by have:=bm h153;omega),eG ha2 hx158 (bx h163),cI (ba (by have:=h149.bA;omega)),ar⟩))))))
  refine bn (aS (aV (aO (aE (ad (ah rfl (vQ 3 rfl (af ?_))))))));replace ar:=(ar.weaken hle149).weaken hle141;refine aN ⟨j10-1,(by have:=bm h133;omega),(by(iterate 83 refine oP rfl ?_);exact oR _ _),i+1,(by have:=bm h133;omega),eG ha hx139 (by unfold ll;rw[bx h143,<-CY hm149,dC ha2 (br h153)];rfl),cI (ba (by have:=hk.bA;omega)),ar⟩
 refine bn (aS (aV (aO (ad (aj (ah rfl (vQ 1 rfl (nT (aC ?_)))))))));exact ay rfl rfl ⟨cB (by unfold fJ;rw[h53,h105,h128];show _=x.exprs.all (ll c.aP k);rw[dC ha (br h133)]),ar.pop.pop⟩
theorem Il {n:Nat} (h:bq (.ofNat n) 0=false):n≠0:=by rintro rfl;cases h
theorem HB {n:Nat} (h:0<n) (h2:n<=9223372036854775807):wr .i64 (Int.sub (.ofNat n) 1)= .ofNat (n-1):=by
 have:Int.sub (.ofNat n) 1= .ofNat (n-1):=by show(n:Int)-1=((n-1:Nat):Int);omega
 rw[this];exact y9 (by omega)
theorem C2 {k:Nat} {e:XE}:bq (nc k e) 3=fT k e:=by
 unfold nc;cases fT k e with
 | true=>rfl
 | false=>cases dH k e<;>rfl
def sQ (k:Nat) (c:XC):Prop:=∀x∈c.ins,∀e∈x.exprs,cw k e<=100000
theorem uq {G:Cx} (hG:Plain G) {K:KP} {k:Nat} {c:XC} {cv:AV} (hc:bJ K 6 (gK K k) c.ins cv) (hF:kP k c) (hS:sQ k c) {σ:aD} {L:Own} (ar:St σ K L):bp Tryz.prog G 118 [.agg [.int .i64 c.aP,cv]] σ fun v σ'=>v= .int .i64 (fI k c)/\St σ' K L:=by
 refine bh hG Tryz.func118 rfl (t:=PT.leaf.put (some (.agg [.int .i64 c.aP,cv])) 0) (by rfl) (aj (ah rfl (kp ar rfl (cK rfl rfl) (fun σ b1 ar=>?_))));refine vQ 1 rfl (nT (aj (aj (ah rfl (aa rfl (MY 0 rfl) rfl (aa rfl (MZ rfl ar.g0 rfl) rfl (vQ 1 rfl (ky rfl (an rfl) (fun h10=>?_) (fun h10=>?_)))))))))
 ·refine vQ 5 rfl (nT (aF rfl (aj (ah rfl (vQ 1 rfl (nT (aC (av (?_)))))))));exact ay rfl rfl ⟨cJ (by unfold fI;rw[show bG 16 c.aP=true from h10];rfl),ar.pop⟩
 refine aa rfl (MY 1 rfl) rfl (aa rfl (MZ rfl ar.g0 rfl) rfl (aa rfl (M6 hc rfl rfl rfl (e:=79) rfl) rfl (vQ 2 rfl (nT (aG rfl (fun h15=>?_) (fun h15=>?_))))))
 ·refine aj (ah rfl (vQ 1 rfl (nT (aC (av (?_))))));exact ay rfl rfl ⟨cJ (by unfold fI;rw[show bG 16 c.aP=false from h10,show bG 4000 (.ofNat c.ins.length)=true from h15];rfl),ar.pop⟩
 refine aH (ad (aj (aj (ah rfl (vQ 1 rfl (nT (aM ?_)))))));obtain⟨LL1,ar,hLL1⟩:=ar.named;refine bg [2,3,4,16,17,18,19,20,21,22,23,24,25,26,27,28,29,30,31,32,33,34,35,36,37,38,39,40,41,42,43,44] (fun j t σ=>∃(i:Nat),j+i=c.ins.length/\(c.ins.take i).any (fun x=>x.exprs.any (fT k))=false/\t.get 3=some (.int .i64 (.ofNat i))/\St σ K LL1) (c.ins.length) ⟨0,rfl,rfl,rfl,ar⟩ ?_;clear ar;intro j4 t σ aq hI;obtain⟨i,hj,ha,hv3,ar⟩:=hI;subst hLL1;obtain⟨o2,o3,o4,o16,o17,o18,o19,o20,o21,o22,o23,o24,o25,o26,o27,o28,aq⟩:=aq.L4 rfl rfl rfl rfl;obtain⟨o29,o30,o31,o32,o33,o34,o35,o36,o37,o38,o39,o40,o41,o42,o43,o44,aq⟩:=aq.L4 rfl rfl rfl rfl;obtain rfl:=aq.nil;clear aq;replace hv3:o3=some _:=hv3;subst hv3;refine aj (aj (ah rfl (vQ 1 rfl (aa rfl (MY 1 rfl) rfl (aa rfl (MZ rfl ar.g0 rfl) rfl (aa rfl (M6 hc rfl rfl rfl (e:=79) rfl) rfl (vQ 1 rfl (nT (aG rfl (fun h20=>?_) (fun h20=>?_))))))))))
 ·refine aH (ad (aj (aM (aj (ah rfl ?_)))));obtain⟨x27,hx27,hi27⟩:=cm h20;have hm27:=gB_ hx27;refine vQ 1 rfl (nT (aM ?_));obtain⟨LL2,ar,hLL2⟩:=ar.named;refine bg [2,4,23,24,25,26,27,28,29,30,31,32,33,34,35,36,37,38,39,40,41,42,43,44] (fun j t σ=>∃(i2:Nat),j+i2=x27.exprs.length/\(x27.exprs.take i2).any (fT k)=false/\t.get 4=some (.int .i64 (.ofNat i2))/\St σ K LL2) (x27.exprs.length) ⟨0,rfl,rfl,rfl,ar⟩ ?_;clear ar;intro j7 t σ aq hI;obtain⟨i2,hj2,ha2,hv4,ar⟩:=hI;subst hLL2;obtain⟨o2,o4,o23,o24,o25,o26,o27,o28,o29,o30,o31,o32,o33,o34,o35,o36,aq⟩:=aq.L4 rfl rfl rfl rfl;replace aq:=aq.bR rfl rfl;obtain⟨o37,o38,o39,o40,o41,o42,o43,o44,aq⟩:=aq;obtain rfl:=aq.nil;clear aq;replace hv4:o4=some _:=hv4;subst hv4;refine aj (aj (ah rfl (vQ 1 rfl (aa rfl (MY 1 rfl) rfl (aa rfl (MZ rfl ar.g0 rfl) rfl (vQ 1 rfl (MT (e:=79) (m:=6) hc hx27 rfl rfl rfl rfl (fun p27 vs27 hp27 hl27 hr27=>?_))))))));have hr27':=hr27;obtain⟨v27,rfl,hk27⟩:=hr27';refine bK hp27 rfl rfl rfl (k:=5) (by kernel_rfl) (lb rfl) (fun _=>rfl) (fun p28 hp28=>?_);refine aa rfl (M9 ar hp28 rfl rfl) rfl (aa rfl (M6 hk27 rfl rfl rfl (e:=82) rfl) rfl (vQ 1 rfl (nT (aG rfl (fun h31=>?_) (fun h31=>?_)))))
  ·refine aH (ad (aj (aM (aj (ah rfl (aa rfl (MY 1 rfl) rfl (aa rfl (MZ rfl ar.g0 rfl) rfl (vQ 1 rfl (MT (e:=79) (m:=6) hc hx27 rfl rfl rfl rfl (fun p37 vs37 hp37 hl37 hr37=>?_))))))))));have hr37':=hr37;obtain⟨v37,rfl,hk37⟩:=hr37';refine bK hp37 rfl rfl rfl (k:=5) (by kernel_rfl) (lb rfl) (fun _=>rfl) (fun p38 hp38=>?_);refine aa rfl (M9 ar hp38 rfl rfl) rfl (vQ 1 rfl ?_);obtain⟨x41,hx41,hi41⟩:=cm h31;refine MT (e:=82) (m:=4) hk37 hx41 rfl rfl rfl rfl (fun p41 vs41 hp41 hl41 hr41=>?_);obtain⟨o41,n41,s41,v41,rfl,hk41⟩:=hr41.shape;refine aa rfl (Na ar hp41 rfl rfl) rfl (bf rfl (MX rfl rfl rfl) (fun _=>rfl) (sY hG hr41 (hF _ hm27 _ (gB_ hx41)) (Nat.le_trans (hS _ hm27 _ (gB_ hx41)) (by omega)) ar) (fun σ ar=>?_));refine vQ 1 rfl (nT (aG rfl (fun h44=>?_) (fun h44=>?_)))
   ·refine aj (ah rfl (vQ 1 rfl (nT (aC (aB (av (bk (aB (aB (av (bk (aB (av (?_))))))))))))));exact ay rfl rfl ⟨cJ (by unfold fI;rw[show bG 16 c.aP=false from h10,show bG 4000 (.ofNat c.ins.length)=false from h15];rw[By hx27 (By hx41 (by rw[<-C2];exact h44))];rfl),ar.pop⟩
   refine aH (aE (ad (ah rfl (vQ 3 rfl (af (aN ⟨j7-1,(by have:=bm h31;omega),(by(iterate 47 refine oP rfl ?_);exact oR _ _),i2+1,(by have:=bm h31;omega),ub ha2 hx41 (by rw[<-C2];exact h44),cI (ba (by have:=hk27.bA;omega)),ar⟩))))))
  refine bn (aS (aV (aO (aE (ad (ah rfl (vQ 3 rfl (af (aN ⟨j4-1,(by have:=bm h20;omega),(by(iterate 74 refine oP rfl ?_);exact oR _ _),i+1,(by have:=bm h20;omega),ub ha hx27 (kq ha2 (br h31)),cI (ba (by have:=hc.bA;omega)),ar⟩)))))))))
 refine bn (aS (aV (aO (ad (aj (aj (ah rfl (aa rfl (MY 0 rfl) rfl (aa rfl (MZ rfl ar.g0 rfl) rfl (vQ 1 rfl (ky rfl (an rfl) (fun h48=>?_) (fun h48=>?_))))))))))))
 ·refine vQ 5 rfl (nT (aF rfl (aj (ah rfl (vQ 1 rfl (nT (aC (av (?_)))))))));exact ay rfl rfl ⟨cJ (by unfold fI;rw[show bG 16 c.aP=false from h10,show bG 4000 (.ofNat c.ins.length)=false from h15];rw[show c.ins.any (fun x=>x.exprs.any (fT k))=false from kq ha (br h20)];rw[show bG c.aP 0=true from h48];rfl),ar.pop⟩
 refine aa rfl (MY 1 rfl) rfl (aa rfl (MZ rfl ar.g0 rfl) rfl (aa rfl (M6 hc rfl rfl rfl (e:=79) rfl) rfl (vQ 2 rfl (nT (aG rfl (fun h53=>?_) (fun h53=>?_))))))
 ·refine aj (ah rfl (vQ 1 rfl (nT (aC (av (?_))))));exact ay rfl rfl ⟨cJ (by unfold fI;rw[show bG 16 c.aP=false from h10,show bG 4000 (.ofNat c.ins.length)=false from h15];rw[show c.ins.any (fun x=>x.exprs.any (fT k))=false from kq ha (br h20)];rw[show bG c.aP 0=false from h48,show bq (.ofNat c.ins.length) 0=true from h53];rfl),ar.pop⟩
 refine aH (ad (aj (aj (ah rfl (vQ 1 rfl (nT (aM ?_)))))));obtain⟨LL3,ar,hLL3⟩:=ar.named;refine bg [2,5,54,55,56,57,58,59,60,61,62,63,64,65,66,67,68] (fun j t σ=>∃(i:Nat),j+i=c.ins.length/\(c.ins.take i).all (fJ c.aP (.ofNat c.ins.length) k)=true/\t.get 5=some (.int .i64 (.ofNat i))/\St σ K LL3) (c.ins.length) ⟨0,rfl,rfl,rfl,ar⟩ ?_;clear ar;intro j14 t σ aq hI;obtain⟨i,hj3,hall,hv5,ar⟩:=hI;subst hLL3;obtain⟨o2,o5,o54,o55,o56,o57,o58,o59,o60,o61,o62,o63,o64,o65,o66,o67,aq⟩:=aq.L4 rfl rfl rfl rfl;replace aq:=aq.dI rfl;obtain⟨o68,aq⟩:=aq;obtain rfl:=aq.nil;clear aq;replace hv5:o5=some _:=hv5;subst hv5;refine aj (aj (ah rfl (vQ 1 rfl (aa rfl (MY 1 rfl) rfl (aa rfl (MZ rfl ar.g0 rfl) rfl (aa rfl (M6 hc rfl rfl rfl (e:=79) rfl) rfl (vQ 1 rfl (nT (aG rfl (fun h58=>?_) (fun h58=>?_))))))))))
 ·refine aH (ad (aj (aM (aj (aU (l:=[(0,[]),(1,[]),(2,[]),(3,[]),(4,[]),(5,[]),(6,[]),(7,[])]) (by kernel_rfl) (by kernel_rfl) (al rfl rfl (M5 rfl ar.g0 (n:=2) (vs:=[_,_]) rfl) rfl (al rfl rfl (MY 1 rfl) rfl (al rfl rfl (MZ rfl ar.g0 rfl) rfl (wQ 1 rfl ?_)))))))));obtain⟨x65,hx65,hi65⟩:=cm h58;refine MU (e:=79) (m:=6) hc hx65 rfl rfl rfl rfl rfl (fun p65 vs65 hp65 hl65 hr65=>?_);have hr65raw:=hr65;have hr65':=hr65;obtain⟨v65,rfl,hk65⟩:=hr65';refine al rfl rfl (Na ar hp65 rfl rfl) rfl (cR rfl rfl (MX rfl rfl rfl) (fun _=>rfl) (FV hG hc hr65raw (hF _ (gB_ hx65)) (hS _ (gB_ hx65)) ar) (fun σ ar=>?_));refine⟨bc,?_⟩;refine al rfl rfl (cN rfl) rfl (aZ (ad (aG rfl (fun h68=>?_) (fun h68=>?_))))
  ·refine aj (ah rfl (vQ 1 rfl (nT (aC (aB (av (bk (aB (av (?_))))))))));exact ay rfl rfl ⟨cJ (by unfold fI;rw[show bG 16 c.aP=false from h10,show bG 4000 (.ofNat c.ins.length)=false from h15];rw[show c.ins.any (fun x=>x.exprs.any (fT k))=false from kq ha (br h20)];rw[show bG c.aP 0=false from h48,show bq (.ofNat c.ins.length) 0=false from h53];rw[gp hx65 (bM h68)];rfl),ar.pop⟩
  refine aH (aE (ad (ah rfl (vQ 3 rfl (af (aN ⟨j14-1,(by have:=bm h58;omega),(by(iterate 33 refine oP rfl ?_);exact oR _ _),i+1,(by have:=bm h58;omega),eG hall hx65 (bx h68),cI (ba (by have:=hc.bA;omega)),ar⟩))))))
 refine bn (aS (aV (aO (ad (aj (ah rfl ?_))))));have hpos:0<c.ins.length:=by have:=Il h53;omega
 obtain⟨x75,hx75⟩:=bX (show c.ins.length-1<c.ins.length by omega);refine aa rfl (MY 1 rfl) rfl (aa rfl (MZ rfl ar.g0 rfl) rfl (aa rfl (MY 1 rfl) rfl (aa rfl (MZ rfl ar.g0 rfl) rfl (aa rfl (M6 hc rfl rfl rfl (e:=79) rfl) rfl (vQ 1 rfl (MT (e:=79) (m:=6) hc hx75 rfl rfl rfl (show _=some (AV.int .i64 (.ofNat (c.ins.length-1))) from cI (HB hpos (by have:=hc.bA;omega))) (fun p75 vs75 hp75 hl75 hr75=>?_)))))));have hr75':=hr75;obtain⟨v75,rfl,hk75⟩:=hr75';refine bK hp75 rfl rfl rfl (k:=0) (by kernel_rfl) (lb rfl) (fun _=>rfl) (fun p76 hp76=>?_);refine aa rfl (M9 ar hp76 rfl rfl) rfl (vQ 1 rfl (nT (aj (aj (ah rfl (vQ 2 rfl (ky rfl (an rfl) (fun h80=>?_) (fun h80=>?_))))))))
 ·refine vQ 3 rfl (ky rfl (an rfl) (fun h84=>?_) (fun h84=>?_))
  ·refine vQ 3 rfl (nT (aG rfl (fun h87=>?_) (fun h87=>?_)))
   ·refine aj (ah rfl (vQ 1 rfl (nT (aC (av (?_))))));exact ay rfl rfl ⟨cJ (by unfold fI;rw[show bG 16 c.aP=false from h10,show bG 4000 (.ofNat c.ins.length)=false from h15];rw[show c.ins.any (fun x=>x.exprs.any (fT k))=false from kq ha (br h20)];rw[show bG c.aP 0=false from h48,show bq (.ofNat c.ins.length) 0=false from h53];rw[dC hall (br h58),hx75];show _=bif ft x75 then _ else _;unfold ft;simp only[bM h80,bM h84,bM h87,ct,cf]<;>rfl),ar.pop⟩
   refine aH (ad (aj (ah rfl (vQ 1 rfl (nT (aC ?_))))));exact ay rfl rfl ⟨cJ (by unfold fI;rw[show bG 16 c.aP=false from h10,show bG 4000 (.ofNat c.ins.length)=false from h15];rw[show c.ins.any (fun x=>x.exprs.any (fT k))=false from kq ha (br h20)];rw[show bG c.aP 0=false from h48,show bq (.ofNat c.ins.length) 0=false from h53];rw[dC hall (br h58),hx75];show _=bif ft x75 then _ else _;unfold ft;simp only[bM h80,bM h84,bx h87,ct,cf]<;>rfl),ar.pop⟩
  refine vQ 3 rfl (nT (aI rfl (aH (ad (aj (ah rfl (vQ 1 rfl (nT (aC ?_)))))))));exact ay rfl rfl ⟨cJ (by unfold fI;rw[show bG 16 c.aP=false from h10,show bG 4000 (.ofNat c.ins.length)=false from h15];rw[show c.ins.any (fun x=>x.exprs.any (fT k))=false from kq ha (br h20)];rw[show bG c.aP 0=false from h48,show bq (.ofNat c.ins.length) 0=false from h53];rw[dC hall (br h58),hx75];show _=bif ft x75 then _ else _;unfold ft;simp only[bM h80,bx h84,ct,cf]<;>rfl),ar.pop⟩
 refine vQ 7 rfl (nT (aI rfl (aH (ad (aj (ah rfl (vQ 1 rfl (nT (aC ?_)))))))));exact ay rfl rfl ⟨cJ (by unfold fI;rw[show bG 16 c.aP=false from h10,show bG 4000 (.ofNat c.ins.length)=false from h15];rw[show c.ins.any (fun x=>x.exprs.any (fT k))=false from kq ha (br h20)];rw[show bG c.aP 0=false from h48,show bq (.ofNat c.ins.length) 0=false from h53];rw[dC hall (br h58),hx75];show _=bif ft x75 then _ else _;unfold ft;simp only[bx h80,ct,cf]<;>rfl),ar.pop⟩
end Go.Ev
namespace Go.Ev
variable [Env]
def jc (x:XI) (a:Nat):List Int:=
 bif bq x.kind 12 then [] else bif bq x.kind 13 then [] else bif bq x.kind 10 then [x.to] else
 bif bq x.kind 11 then(bif bG x.to (.ofNat (a+1)) then [x.to,.ofNat (a+1)] else bif bG (.ofNat (a+1)) x.to then [.ofNat (a+1),x.to] else [.ofNat (a+1)]) else [.ofNat (a+1)]
def fL (c:XC) (i:Nat):List Nat:=match c.ins[i]? with | some x=>(jc x i).map Int.toNat | none=>[]
theorem xk {x:XI} {a:Nat} {t:Int}:t∈jc x a↔t∈fM x a:=by
 unfold jc fM;cases h12:bq x.kind 12 with
 | true=>rw[eqv h12];simp[show bq 12 10=false from rfl,show bq 12 11=false from rfl,show bq 12 12=true from rfl]
 | false=>
 cases h13:bq x.kind 13 with
 | true=>rw[eqv h13];simp[show bq 13 10=false from rfl,show bq 13 11=false from rfl,show bq 13 12=false from rfl,show bq 13 13=true from rfl]
 | false=>
 cases h10:bq x.kind 10 with
 | true=>simp
 | false=>
 cases h11:bq x.kind 11 with
 | false=>simp
 | true=>
  simp only[cond_true,cond_false];cases hl:bG x.to (.ofNat (a+1)) with
  | true=>simp only[cond_true,mQ_,List.not_mem_nil,or_false];exact or_comm
  | false=>
   cases hg:bG (.ofNat (a+1)) x.to with
   | true=>simp
   | false=>
    have h1:Int.ofNat (a+1)<=x.to:=by rw[eo,decide_eq_false_iff_not] at hl;exact Int.not_lt.1 hl
    have h2:x.to<=Int.ofNat (a+1):=by rw[eo,decide_eq_false_iff_not] at hg;exact Int.not_lt.1 hg
    have e:x.to=Int.ofNat (a+1):=Int.le_antisymm h2 h1;rw[e];simp
theorem qB {c:XC} {i t:Nat}:t∈fL c i↔t∈cH c i:=by
 unfold fL cH;cases c.ins[i]? with
 | none=>exact Iff.rfl
 | some x=>simp only[List.mem_map,xk]
theorem Ao:∀(n:Nat) (l:List Nat),l.Nodup->(∀x∈l,x<n)->l.length<=n
 | 0,l,_,h=>by cases l with | nil=>exact nR_ _ | cons a l=>exact absurd (h a (mS_ ..)) (nZ_ _)
 | n+1,l,hn,h=>by
  have:=Ao n (l.erase n) (hn.erase n) (fun x hx=>by
   have h1:=(hn.mem_erase_iff.1 hx);have:=h x h1.2;omega)
  have h2:=List.length_erase_le (a:=n) (l:=l);have h3:l.length<=(l.erase n).length+1:=by rw[List.length_erase];split<;>omega
  omega
def mr (f:Nat->Nat) (l:List Nat) (m:Nat):Nat:=l.foldl (fun m t=>max m (f t)) m
theorem rz {f:Nat->Nat} {B:Nat}:∀{l:List Nat} {m:Nat},m<=B->(∀t∈l,f t<=B)->mr f l m<=B
 | [],_,hm,_=>hm
 | a::l,m,hm,h=>rz (l:=l) (Nat.max_le.2 ⟨hm,h a (mS_ ..)⟩) (fun t ht=>h t (mC_ _ ht))
theorem Ad {f:Nat->Nat}:∀{l:List Nat} {m:Nat},m<=mr f l m
 | [],_=>nR_ _
 | a::l,m=>Nat.le_trans (Nat.le_max_left _ _) (Ad (l:=l))
theorem nj {f:Nat->Nat}:∀{l:List Nat} {m t:Nat},t∈l->f t<=mr f l m
 | a::l,m,t,h=>by
  rcases mQ_.1 h with rfl | h
  ·exact Nat.le_trans (Nat.le_max_right _ _) (Ad (l:=l))
  exact nj (l:=l) h
theorem np {f g:Nat->Nat} {l l':List Nat} (h:∀t,t∈l↔t∈l') (hf:∀t∈l,f t=g t):mr f l 0=mr g l' 0:=by
 refine Nat.le_antisymm (rz (Nat.zero_le _) fun t ht=>?_) (rz (Nat.zero_le _) fun t ht=>?_)
 ·rw[hf t ht];exact nj ((h t).1 ht)
 rw[<-hf t ((h t).2 ht)];exact nj ((h t).2 ht)
theorem EY {f g:Nat->Nat} {l:List Nat} (hf:∀t∈l,f t<=g t):mr f l 0<=mr g l 0:=rz (Nat.zero_le _) fun t ht=>Nat.le_trans (hf t ht) (nj ht)
theorem xj {f:Nat->Nat}:∀{l:List Nat} {m:Nat},mr f l m=m∨∃t∈l,mr f l m=f t
 | [],_=>.inl rfl
 | a::l,m=>by
  rcases xj (f:=f) (l:=l) (m:=max m (f a)) with h | ⟨t,ht,h⟩
  ·show mr f l (max m (f a))=m∨_;rcases Nat.le_total m (f a) with h1 | h1
   ·exact .inr ⟨a,mS_ ..,by show mr f l (max m (f a))=_;rw[Nat.max_eq_right h1] at h⊢;exact h⟩
   exact .inl (by rw[Nat.max_eq_left h1] at h⊢;exact h)
  exact .inr ⟨t,mC_ _ ht,h⟩
inductive Reach (nx:Nat->List Nat):Nat->Prop
 | zero:Reach nx 0
 | step {i t:Nat}:Reach nx i->t∈nx i->Reach nx t
theorem Reach.lz {nx:Nat->List Nat} {n:Nat} {out:List Nat} (hR:eF nx n out) {i:Nat} (h:Reach nx i):i∈out:=by
 induction h with
 | zero=>exact hR.zero
 | step _ ht ih=>
  obtain⟨q,hq⟩:=gO_ ih;obtain⟨q',_,h'⟩:=hR.yD q _ hq _ ht;exact gB_ h'
def KV (w:Nat->Nat) (nx:Nat->List Nat):Nat->Nat->Nat
 | 0,_=>0
 | k+1,i=>mr (KV w nx k) (nx i) 0+w i
theorem z9 {w:Nat->Nat} {nx:Nat->List Nat} {n:Nat} {out:List Nat} (hR:eF nx n out):∀(q i:Nat),out[q]?=some i->∀k,q<k->KV w nx k i=KV w nx (q+1) i:=by
 intro q;induction q using Nat.strongRecOn with
 | _ q ih=>
  intro i hi k hk;obtain⟨k,rfl⟩:∃m,k=m+1:=⟨k-1,by omega⟩;show mr _ _ _+_=mr _ _ _+_;rw[np (fun t=>Iff.rfl) (fun t ht=>?_)];obtain⟨q',h1,h2⟩:=hR.yD q i hi t ht;rw[ih q' h1 t h2 k (by omega),ih q' h1 t h2 q (by omega)]
def r4 (w:Nat->Nat) (nx:Nat->List Nat) (f:Nat->Nat):Prop:=∀i,Reach nx i->f i=mr f (nx i) 0+w i
theorem Gi {w:Nat->Nat} {nx:Nat->List Nat} {n:Nat} {out:List Nat} (hR:eF nx n out):r4 w nx (KV w nx out.length):=by
 intro i hi;obtain⟨q,hq⟩:=gO_ (hi.lz hR);have hl:=(gA.1 hq).1;rw[z9 hR q i hq _ hl,<-z9 hR q i hq (out.length+1) (by omega)];rfl
theorem It {w:Nat->Nat} {nx:Nat->List Nat} {n:Nat} {out:List Nat} {f g:Nat->Nat} (hR:eF nx n out) (hf:r4 w nx f) (hg:r4 w nx g):∀i,Reach nx i->f i=g i:=by
 have:∀(q i:Nat),out[q]?=some i->Reach nx i->f i=g i:=by
  intro q;induction q using Nat.strongRecOn with
  | _ q ih=>
   intro i hi hr;rw[hf i hr,hg i hr,np (fun t=>Iff.rfl) (fun t ht=>?_)];obtain⟨q',h1,h2⟩:=hR.yD q i hi t ht;exact ih q' h1 t h2 (.step hr ht)
 intro i hi;obtain⟨q,hq⟩:=gO_ (hi.lz hR);exact this q i hq hi
theorem Gj {v w:Nat->Nat} {nx:Nat->List Nat} {n:Nat} {out:List Nat} {f g:Nat->Nat} (hR:eF nx n out) (hw:∀i,v i<=w i) (hf:r4 v nx f) (hg:r4 w nx g):∀i,Reach nx i->f i<=g i:=by
 have:∀(q i:Nat),out[q]?=some i->Reach nx i->f i<=g i:=by
  intro q;induction q using Nat.strongRecOn with
  | _ q ih=>
   intro i hi hr;rw[hf i hr,hg i hr];refine Nat.add_le_add (EY fun t ht=>?_) (hw i);obtain⟨q',h1,h2⟩:=hR.yD q i hi t ht;exact ih q' h1 t h2 (.step hr ht)
 intro i hi;obtain⟨q,hq⟩:=gO_ (hi.lz hR);exact this q i hq hi
theorem EA {nx:Nat->List Nat} {h:Nat->Nat} (hh:r4 (fun _=>1) nx h):∀(v i:Nat),Reach nx i->h i=v->∃l:List Nat,l.length=v/\l.Nodup/\∀x∈l,Reach nx x/\1<=h x/\h x<=v:=by
 intro v;induction v with
 | zero=>intro i hi hv;have:=hh i hi;dsimp only at this;omega
 | succ v ih=>
  intro i hi hv;rcases xj (f:=h) (l:=nx i) (m:=0) with hm | ⟨t,ht,hm⟩
  ·have:=hh i hi;rw[hm] at this;dsimp only at this;obtain rfl:v=0:=by omega
   exact⟨[i],rfl,by simp,fun x hx=>by obtain rfl:=List.mem_singleton.1 hx;exact⟨hi,by omega,by omega⟩⟩
  have:=hh i hi;rw[hm] at this;dsimp only at this;obtain⟨l,h1,h2,h3⟩:=ih t (.step hi ht) (by omega);refine⟨i::l,by simp[h1],List.nodup_cons.2 ⟨fun hx=>?_,h2⟩,fun x hx=>?_⟩
  ·have:=(h3 i hx).2.2;omega
  rcases mQ_.1 hx with rfl | hx
  ·exact⟨hi,by omega,by omega⟩
  have:=h3 x hx;exact⟨this.1,this.2.1,by omega⟩
theorem J6 {nx:Nat->List Nat} {n:Nat} {out:List Nat} {h:Nat->Nat} (hR:eF nx n out) (hh:r4 (fun _=>1) nx h):∀i,Reach nx i->h i<=n:=by
 intro i hi;obtain⟨l,h1,h2,h3⟩:=EA hh _ i hi rfl;rw[<-h1];exact Ao n l h2 fun x hx=>hR.lt x ((h3 x hx).1.lz hR)
def lE (b:List Nat) (t:Nat):Nat:=(b[t]?).getD 0
def gJ (nx:Nat->List Nat) (w:Nat->Nat) (b:List Nat) (i:Nat):Nat:=mr (lE b) (nx i) 0+w i
def gE (nx:Nat->List Nat) (w:Nat->Nat) (r:Nat->Bool) (n:Nat):Nat->List Nat×Bool->Option (List Nat×Bool)
 | 0,s=>some s
 | i+1,s=>bif aX (r i) then gE nx w r n i s else bif Nat.blt n (gJ nx w s.1 i) then none else bif Nat.beq (gJ nx w s.1 i) (lE s.1 i) then gE nx w r n i s else gE nx w r n i (s.1.set i (gJ nx w s.1 i),false)
def iI (nx:Nat->List Nat) (w:Nat->Nat) (r:Nat->Bool) (n:Nat):Nat->List Nat->Nat×Bool
 | 0,_=>(0,false)
 | f+1,b=>match gE nx w r n n (b,true) with
  | none=>(0,false)
  | some (b',true)=>(lE b' 0,true)
  | some (b',false)=>iI nx w r n f b'
section
variable {nx:Nat->List Nat} {w:Nat->Nat} {r:Nat->Bool} {n:Nat}
theorem CZ {b:List Nat} {i v t:Nat} (hi:i<b.length):lE (b.set i v) t=if t=i then v else lE b t:=by
 unfold lE;rw[List.getElem?_set];split
 ·rename_i e;subst e;simp[hi]
 rename_i e;rw[if_neg (fun h=>e h.symm)]
theorem po:∀{i:Nat} {s s':List Nat×Bool},gE nx w r n i s=some s'->s'.1.length=s.1.length
 | 0,s,s',h=>by cases h;rfl
 | i+1,s,s',h=>by
  unfold gE at h;cases h1:aX (r i) with
  | true=>rw[h1] at h;exact po h
  | false=>
  cases h2:Nat.blt n (gJ nx w s.1 i) with
  | true=>rw[h1,h2] at h;cases h
  | false=>
  cases h3:Nat.beq (gJ nx w s.1 i) (lE s.1 i) with
  | true=>rw[h1,h2,h3] at h;exact po h
  | false=>rw[h1,h2,h3] at h;have:=po (i:=i) h;rw[this];exact List.length_set
theorem nv:∀{i:Nat} {s:List Nat×Bool} {b':List Nat},gE nx w r n i s=some (b',true)->s.2=true/\b'=s.1/\∀j,j<i->r j=true->lE s.1 j=gJ nx w s.1 j
 | 0,s,b',h=>by cases h;exact⟨rfl,rfl,fun j hj=>absurd hj (nZ_ _)⟩
 | i+1,s,b',h=>by
  unfold gE at h;cases h1:aX (r i) with
  | true=>
   rw[h1] at h;obtain⟨a,b,c⟩:=nv (i:=i) h;refine⟨a,b,fun j hj hr=>?_⟩
   by_cases e:j=i
   ·subst e;rw[bM h1] at hr;cases hr
   exact c j (by omega) hr
  | false=>
  cases h2:Nat.blt n (gJ nx w s.1 i) with
  | true=>rw[h1,h2] at h;cases h
  | false=>
  cases h3:Nat.beq (gJ nx w s.1 i) (lE s.1 i) with
  | true=>
   rw[h1,h2,h3] at h;obtain⟨a,b,c⟩:=nv (i:=i) h;refine⟨a,b,fun j hj hr=>?_⟩
   by_cases e:j=i
   ·subst e;exact(nB h3).symm
   exact c j (by omega) hr
  | false=>rw[h1,h2,h3] at h;exact absurd (nv (i:=i) h).1 Bool.false_ne_true
theorem qA:∀{f:Nat} {b:List Nat},(iI nx w r n f b).2=true->∃b',b'.length=b.length/\(iI nx w r n f b).1=lE b' 0/\∀j,j<n->r j=true->lE b' j=gJ nx w b' j
 | 0,b,h=>by cases h
 | f+1,b,h=>by
  unfold iI at h⊢;cases hp:gE nx w r n n (b,true) with
  | none=>rw[hp] at h;cases h
  | some s=>
   obtain⟨b',q⟩:=s;rw[hp] at h;cases q with
   | true=>
    obtain⟨_,e,h'⟩:=nv hp;dsimp only at e;subst e;exact⟨b',rfl,rfl,h'⟩
   | false=>
    obtain⟨b2,h1,h2,h3⟩:=qA (f:=f) (b:=b') h;exact⟨b2,by rw[h1,po hp],h2,h3⟩
end
section
variable {nx dx:Nat->List Nat} {w:Nat->Nat} {r:Nat->Bool} {n:Nat} {out:List Nat} {F H:Nat->Nat}
theorem I9 (hd:∀i t,t∈dx i↔t∈nx i) (hF:r4 w nx F) {b:List Nat} (hb:∀i,Reach nx i->lE b i<=F i) {i:Nat} (hi:Reach nx i):gJ dx w b i<=F i:=by
 rw[hF i hi];unfold gJ;refine Nat.add_le_add_right (rz (Nat.zero_le _) fun t ht=>?_) _;have ht:=(hd i t).1 ht;exact Nat.le_trans (hb t (.step hi ht)) (nj ht)
theorem I8 (hd:∀i t,t∈dx i↔t∈nx i) (hF:r4 w nx F) {b:List Nat} {i:Nat} (hi:Reach nx i) (hb:∀t∈nx i,lE b t=F t):gJ dx w b i=F i:=by
 rw[hF i hi];unfold gJ;rw[np (hd i) fun t ht=>hb t ((hd i t).1 ht)]
theorem rH (hd:∀i t,t∈dx i↔t∈nx i) (hr:∀i,i<n->(r i=true↔Reach nx i)) (hF:r4 w nx F) (hFn:∀i,Reach nx i->F i<=n) (hH:∀i t,Reach nx i->t∈nx i->H t<H i) {m:Nat}:
  ∀{i:Nat} {s:List Nat×Bool},i<=n->s.1.length=n->(∀j,Reach nx j->lE s.1 j<=F j)->(∀j,Reach nx j->H j<=m->lE s.1 j=F j)->(∀j,j<n->i<=j->Reach nx j->H j<=m+1->lE s.1 j=F j)->
   ∃s',gE dx w r n i s=some s'/\s'.1.length=n/\(∀j,Reach nx j->lE s'.1 j<=F j)/\(∀j,j<n->Reach nx j->H j<=m+1->lE s'.1 j=F j)/\((∀j,Reach nx j->H j<=m)->s'.2=s.2)
 | 0,s,_,hl,h1,h2,h3=>⟨s,rfl,hl,h1,fun j hj=>h3 j hj (Nat.zero_le _),fun _=>rfl⟩
 | i+1,s,hi,hl,h1,h2,h3=>by
  unfold gE;cases hn:aX (r i) with
  | true=>
   refine rH hd hr hF hFn hH (i:=i) (by omega) hl h1 h2 fun j hj hij hrj hH'=>?_
   by_cases e:j=i
   ·subst e;rw[(hr j hj).2 hrj] at hn;cases hn
   exact h3 j hj (by omega) hrj hH'
  | false=>
  have hri:Reach nx i:=(hr i (by omega)).1 (by cases h:r i;rw[h] at hn;cases hn;rfl);have hv:gJ dx w s.1 i<=F i:=I9 hd hF h1 hri;have hfi:=hFn i hri;rw[show Nat.blt n (gJ dx w s.1 i)=false from by rw[Bool.eq_false_iff];intro h;have:=Nat.le_of_ble_eq_true h;omega];have hex:H i<=m+1->gJ dx w s.1 i=F i:=fun h=>I8 hd hF hri fun t ht=>h2 t (.step hri ht) (by have:=hH i t hri ht;omega)
  cases hb:Nat.beq (gJ dx w s.1 i) (lE s.1 i) with
  | true=>
   refine rH hd hr hF hFn hH (i:=i) (by omega) hl h1 h2 fun j hj hij hrj hH'=>?_
   by_cases e:j=i
   ·subst e;rw[<-nB hb];exact hex hH'
   exact h3 j hj (by omega) hrj hH'
  | false=>
   have hset:∀j,lE (s.1.set i (gJ dx w s.1 i)) j=if j=i then gJ dx w s.1 i else lE s.1 j:=fun j=>CZ (by omega)
   obtain⟨s',k1,k2,k3,k4,k5⟩:=rH hd hr hF hFn hH (m:=m) (i:=i) (s:=(s.1.set i (gJ dx w s.1 i),false)) (by omega) (by rw[List.length_set];exact hl)
    (fun j hj=>by rw[hset];split;(rename_i e;subst e;exact hv);exact h1 j hj)
    (fun j hj hm=>by rw[hset];split;(rename_i e;subst e;exact hex (by omega));exact h2 j hj hm)
    (fun j hj hij hrj hm=>by rw[hset];split;(rename_i e;subst e;exact hex hm);exact h3 j hj (by omega) hrj hm)
   refine⟨s',k1,k2,k3,k4,fun hall=>?_⟩;exfalso;have e1:=hex (by have:=hall i hri;omega);have e2:=h2 i hri (hall i hri);rw[e1,e2,Nat.beq_refl] at hb;cases hb
theorem Ag (hd:∀i t,t∈dx i↔t∈nx i) (hr:∀i,i<n->(r i=true↔Reach nx i)) (hlt:∀i,Reach nx i->i<n) (hF:r4 w nx F) (hFn:∀i,Reach nx i->F i<=n) (hH:∀i t,Reach nx i->t∈nx i->H t<H i) (hHn:∀i,Reach nx i->H i<=n):
  ∀{f m:Nat} {b:List Nat},n+1<f+m->1<=f->b.length=n->(∀j,Reach nx j->lE b j<=F j)->(∀j,Reach nx j->H j<=m->lE b j=F j)->(iI dx w r n f b).2=true
 | 0,_,_,_,h,_,_,_=>absurd h (by omega)
 | f+1,m,b,hfm,_,hl,h1,h2=>by
  obtain⟨⟨b',q⟩,k1,k2,k3,k4,k5⟩:=rH (w:=w) (F:=F) hd hr hF hFn hH (m:=m) (i:=n) (s:=(b,true)) (nR_ _) hl h1 h2 (fun j hj hnj=>absurd hj (by omega));unfold iI;rw[k1];cases q with
  | true=>rfl
  | false=>
   by_cases hm:n<=m
   ·have:=k5 fun j hj=>Nat.le_trans (hHn j hj) hm
    cases this
   exact Ag hd hr hlt hF hFn hH hHn (f:=f) (m:=m+1) (by omega) (by omega) k2 k3 fun j hj=>k4 j (hlt j hj) hj
end
theorem Cg {nx dx:Nat->List Nat} {w:Nat->Nat} {r:Nat->Bool} {n:Nat} {out:List Nat} (hR:eF nx n out) (hd:∀i t,t∈dx i↔t∈nx i) (hr:∀i,i<n->(r i=true↔Reach nx i)) (hw:∀i,w i<=1) {F:Nat->Nat} (hF:r4 w nx F):
  iI dx w r n (n+2) (List.replicate n 0)=(F 0,true):=by
 have hH:=Gi (w:=fun _=>1) hR;have hlt:∀i,Reach nx i->i<n:=fun i hi=>hR.lt i (hi.lz hR)
 have hHn:=J6 hR hH;have hFH:=Gj hR hw hF hH
 have hHs:∀i t,Reach nx i->t∈nx i->KV (fun _=>1) nx out.length t<KV (fun _=>1) nx out.length i:=fun i t hi ht=>by
  rw[hH i hi];exact Nat.lt_succ_of_le (nj ht)
 have h0:∀j,lE (List.replicate n 0) j=0:=fun j=>by
  unfold lE;rw[List.getElem?_replicate];split<;>rfl
 have hs:=Ag (w:=w) hd hr hlt hF (fun i hi=>Nat.le_trans (hFH i hi) (hHn i hi)) hHs hHn (f:=n+2) (m:=0) (b:=List.replicate n 0) (by omega) (by omega) (by simp) (fun j _=>by rw[h0];exact Nat.zero_le _)
  (fun j hj hm=>by have:=hFH j hj;rw[h0];omega)
 obtain⟨b',h1,h2,h3⟩:=qA hs
 have hfix:r4 w nx (lE b'):=fun i hi=>by
  rw[h3 i (hlt i hi) ((hr i (hlt i hi)).2 hi)];unfold gJ;rw[np (hd i) fun t _=>rfl]
 exact Prod.ext (by rw[h2];exact It hR hfix hF 0 .zero) hs
structure CU (nx:Nat->List Nat) (s:DS):Prop where
 open_:∀i:Nat,s.st[i]?=some 1->i∈s.path
 F5:∀(j a b:Nat),s.path[j]?=some a->s.path[j+1]?=some b->b∈nx a
 reach:∀i∈s.path,Reach nx i
theorem ui {nx:Nat->List Nat} {p:List Nat} {f:Nat->Nat} (he:∀(j a b:Nat),p[j]?=some a->p[j+1]?=some b->b∈nx a) (hr:∀i∈p,Reach nx i) (hf:∀i t,Reach nx i->t∈nx i->f t<f i):
  ∀(d j a b:Nat),p[j]?=some a->p[j+d]?=some b->f b<=f a
 | 0,j,a,b,ha,hb=>by rw[Nat.add_zero,ha] at hb;cases hb;exact nR_ _
 | d+1,j,a,b,ha,hb=>by
  have hl:=(gA.1 hb).1;obtain⟨x,hx⟩:∃x,p[j+1]?=some x:=⟨_,gC (by omega)⟩;have h1:=hf a x (hr a (gB_ ha)) (he j a x ha hx);have h2:=ui he hr hf d (j+1) x b hx (by rw[show j+1+d=j+(d+1) by omega];exact hb);omega
theorem BT {nx:Nat->List Nat} {n:Nat} {s:DS} {f:Nat->Nat} (hw:Jo nx n s) (hp:CU nx s) (hnx:∀i,i<n->∀to∈nx i,to<n) (hf:∀i t,Reach nx i->t∈nx i->f t<f i) {a:Nat} (ha:s.path.getLast?=some a):∃s',jt nx s a=some s'/\CU nx s':=by
 obtain⟨P,hP⟩:=List.getLast?_eq_some_iff.1 ha;have hap:a∈s.path:=by rw[hP];simp
 have hra:=hp.reach a hap;obtain⟨han,hsta⟩:=hw.path a hap;have hla:s.path[P.length]?=some a:=by rw[hP];simp
 unfold jt;dsimp only;cases hto:(nx a)[(s.gone[a]?).getD 0]? with
 | none=>
  dsimp only;refine⟨_,rfl,⟨fun i hi=>?_,fun j x y hx hy=>?_,fun i hi=>?_⟩⟩
  ·have hi:(s.st.set a 2)[i]?=some 1:=hi;rw[List.getElem?_set] at hi;split at hi
   ·split at hi<;>simp at hi
   rename_i e;have:=hp.open_ i hi;show i∈s.path.dropLast;rw[hP] at this⊢;simp only[List.dropLast_concat];rcases List.mem_append.1 this with h | h
   ·exact h
   exact absurd (List.mem_singleton.1 h).symm e
  ·have hx:s.path.dropLast[j]?=some x:=hx;have hy:s.path.dropLast[j+1]?=some y:=hy;rw[List.getElem?_dropLast] at hx hy;split at hx
   ·split at hy
    ·exact hp.F5 j x y hx hy
    cases hy
   cases hx
  have hi:i∈s.path.dropLast:=hi;exact hp.reach i ((List.dropLast_sublist _).subset hi)
 | some to=>
  dsimp only;have htm:=gB_ hto;have hton:to<n:=hnx a han to htm
  by_cases h2:(s.st[to]?).getD 0=2
  ·rw[if_pos h2];exact⟨_,rfl,⟨hp.open_,hp.F5,hp.reach⟩⟩
  rw[if_neg h2]
  have h1:¬(s.st[to]?).getD 0=1:=fun h1=>by
   have:s.st[to]?=some 1:=by
    cases h:s.st[to]? with
    | none=>rw[h] at h1;cases h1
    | some v=>rw[h] at h1;exact congrArg some h1
   obtain⟨j,hj⟩:=gO_ (hp.open_ to this);have hjl:=(gA.1 hj).1;rw[hP] at hjl;simp only[lA_,List.length_singleton] at hjl;have:=ui hp.F5 hp.reach hf (P.length-j) j to a hj (by rw[show j+(P.length-j)=P.length by omega];exact hla);have:=hf a to hra htm;omega
  rw[if_neg h1];refine⟨_,rfl,⟨fun i hi=>?_,fun j x y hx hy=>?_,fun i hi=>?_⟩⟩
  ·have hi:(s.st.set to 1)[i]?=some 1:=hi;show i∈s.path++[to];rw[List.getElem?_set] at hi;split at hi
   ·rename_i e;subst e;simp
   exact List.mem_append_left _ (hp.open_ i hi)
  ·have hx:(s.path++[to])[j]?=some x:=hx;have hy:(s.path++[to])[j+1]?=some y:=hy;have hyl:=(gA.1 hy).1;simp only[lA_,List.length_singleton] at hyl;rw[gL_ (by omega)] at hx
   by_cases e:j+1<s.path.length
   ·rw[gL_ e] at hy;exact hp.F5 j x y hx hy
   have e:j+1=s.path.length:=by omega
   rw[e,gR_ (nR_ _),Nat.sub_self] at hy;cases hy;have:j=P.length:=by rw[hP] at e;simp at e;exact e
   rw[this,hla] at hx;cases hx;exact htm
  have hi:i∈s.path++[to]:=hi;rcases List.mem_append.1 hi with h | h
  ·exact hp.reach i h
  obtain rfl:=List.mem_singleton.1 h;exact .step hra htm
theorem zI {nx:Nat->List Nat} {n:Nat} {f:Nat->Nat} (hnx:∀i,i<n->∀to∈nx i,to<n) (hf:∀i t,Reach nx i->t∈nx i->f t<f i):∀{fu:Nat} {s:DS},Jo nx n s->CU nx s->im nx n s<fu->(wg nx fu s).isSome=true
 | 0,_,_,_,h=>absurd h (nZ_ _)
 | fu+1,s,hw,hp,hl=>by
  unfold wg;cases ha:s.path.getLast? with
  | none=>rfl
  | some a=>
   obtain⟨s',h1,h2⟩:=BT hw hp hnx hf ha;have hs:=mK hw hnx ha h1;show((jt nx s a).bind (wg nx fu)).isSome=true;rw[h1];exact zI hnx hf hs.1 h2 (by omega)
theorem F4 {nx:Nat->List Nat} {n:Nat}:CU nx (wo n) where
 open_ i hi:=by
  have hi:((List.replicate n 0).set 0 1)[i]?=some 1:=hi;rw[List.getElem?_set] at hi;split at hi
  ·rename_i e;subst e;simp[wo]
  have:=eR_ (gB_ hi);cases this
 F5 j a b ha hb:=by
  have hb: [0][j+1]?=some b:=hb;simp at hb
 reach i hi:=by
  obtain rfl:i=0:=by simpa [wo] using hi
  exact .zero
theorem zV {k:Nat} {c:XC} (hc:ew k c) {r:Nat->Bool} (hr:∀i,i<c.ins.length->(r i=true↔Reach (cH c) i)):
  (iI (fL c) (fun _=>1) r c.ins.length (c.ins.length+2) (List.replicate c.ins.length 0)).2=(fg c).isSome:=by
 have hnx:=rB hc;cases ho:fg c with
 | some out=>
  have hR:=qt hnx (uw hc.pos) (show wg _ _ _=some out from ho);rw[Cg hR (fun i t=>qB) hr (fun _=>nR_ _) (Gi hR)];rfl
 | none=>
  show _=false;rw[Bool.eq_false_iff];intro hs;obtain⟨b',h1,h2,h3⟩:=qA hs
  have hlt:∀i,Reach (cH c) i->i<c.ins.length:=fun i hi=>by
   induction hi with
   | zero=>exact hc.pos
   | step _ ht ih=>exact hnx _ ih _ ht
  have hf:∀i t,Reach (cH c) i->t∈cH c i->lE b' t<lE b' i:=fun i t hi ht=>by
   rw[h3 i (hlt i hi) ((hr i (hlt i hi)).2 hi)];exact Nat.lt_succ_of_le (nj (qB.2 ht))
  have:=zI (fu:=2*total (cH c) c.ins.length+2) hnx hf (uw hc.pos) F4 (by rw[Dj];omega);rw[show wg (cH c) (2*total (cH c) c.ins.length+2) (wo c.ins.length)=none from ho] at this;cases this
abbrev gB (b:Bool):AV:=.bool b
def sg:List Bool->Nat
 | []=>0
 | b::l=>(if b then 0 else 1)+sg l
theorem zR:∀{l:List Bool} {i:Nat},l[i]?=some false->sg (l.set i true)+1=sg l
 | [],_,h=>by simp at h
 | b::l,0,h=>by
  simp only[List.getElem?_cons_zero,oJ_] at h;subst h;show(0+sg l)+1=1+sg l;omega
 | b::l,i+1,h=>by
  have:=zR (l:=l) (i:=i) (by simpa using h);show(if b then 0 else 1)+sg (l.set i true)+1=(if b then 0 else 1)+sg l;omega
theorem q9:∀(l:List Bool),sg l<=l.length
 | []=>nR_ _
 | b::l=>by
  have:=q9 l;show(if b then 0 else 1)+sg l<=l.length+1;split<;>omega
structure Bs (nx:Nat->List Nat) (n:Nat) (o:List Bool) (st:List Nat):Prop where
 len:o.length=n
 reach:∀i:Nat,o[i]?=some true->Reach nx i
 zero:o[0]?=some true
 Fj:∀i∈st,i<n/\o[i]?=some true
 closed:∀i:Nat,o[i]?=some true->i∈st∨∀t∈nx i,o[t]?=some true
structure tV (nx:Nat->List Nat) (n:Nat) (o:List Bool) (st:List Nat) (a m:Nat) (dl:List Nat):Prop where
 len:o.length=n
 reach:∀i:Nat,o[i]?=some true->Reach nx i
 zero:o[0]?=some true
 Fj:∀i∈st,i<n/\o[i]?=some true
 at_:o[a]?=some true
 closed:∀i:Nat,o[i]?=some true->i∈st∨i=a∨∀t∈nx i,o[t]?=some true
 done:∀(q t:Nat),q<m->dl[q]?=some t->o[t]?=some true
section
variable {nx:Nat->List Nat} {n:Nat} {o:List Bool} {st:List Nat} {a m t:Nat} {dl:List Nat}
theorem Lu (hn:0<n):Bs nx n ((List.replicate n false).set 0 true) [0] where
 len:=by simp
 reach i hi:=by
  rw[List.getElem?_set] at hi;split at hi
  ·rename_i e;subst e;exact .zero
  have:=eR_ (gB_ hi);cases this
 zero:=by simp[hn]
 Fj i hi:=by
  obtain rfl:=List.mem_singleton.1 hi;exact⟨hn,by simp[hn]⟩
 closed i hi:=by
  rw[List.getElem?_set] at hi;split at hi
  ·rename_i e;subst e;exact .inl (by simp)
  have:=eR_ (gB_ hi);cases this
theorem Bs.pop (h:Bs nx n o st) (ha:st.getLast?=some a):tV nx n o st.dropLast a 0 dl where
 len:=h.len
 reach:=h.reach
 zero:=h.zero
 Fj i hi:=h.Fj i ((List.dropLast_sublist _).subset hi)
 at_:=(h.Fj a (by obtain⟨P,hP⟩:=List.getLast?_eq_some_iff.1 ha;rw[hP];simp)).2
 closed i hi:=by
  rcases h.closed i hi with h1 | h1
  ·obtain⟨P,hP⟩:=List.getLast?_eq_some_iff.1 ha;rw[hP] at h1⊢;simp only[List.dropLast_concat];rcases List.mem_append.1 h1 with h2 | h2
   ·exact .inl h2
   exact .inr (.inl (List.mem_singleton.1 h2))
  exact .inr (.inr h1)
 done q t hq:=absurd hq (nZ_ _)
theorem tV.skip (h:tV nx n o st a m dl) (ht:dl[m]?=some t) (ho:o[t]?=some true):tV nx n o st a (m+1) dl where
 len:=h.len
 reach:=h.reach
 zero:=h.zero
 Fj:=h.Fj
 at_:=h.at_
 closed:=h.closed
 done q t' hq h':=by
  by_cases e:q=m
  ·subst e;rw[ht] at h';cases h';exact ho
  exact h.done q t' (by omega) h'
theorem oK {i:Nat} (hi:o[i]?=some true):(o.set t true)[i]?=some true:=by
 rw[List.getElem?_set];split
 ·rename_i e;subst e;rw[if_pos (gA.1 hi).1]
 exact hi
theorem tV.mark (h:tV nx n o st a m dl) (ht:dl[m]?=some t) (hn:t∈nx a) (htn:t<n):tV nx n (o.set t true) (st++[t]) a (m+1) dl where
 len:=by rw[List.length_set];exact h.len
 reach i hi:=by
  rw[List.getElem?_set] at hi;split at hi
  ·rename_i e;subst e;exact .step (h.reach a h.at_) hn
  exact h.reach i hi
 zero:=oK h.zero
 Fj i hi:=by
  rcases List.mem_append.1 hi with hi | hi
  ·exact⟨(h.Fj i hi).1,oK (h.Fj i hi).2⟩
  obtain rfl:=List.mem_singleton.1 hi;exact⟨htn,by rw[List.getElem?_set,if_pos rfl,if_pos (by rw[h.len];exact htn)]⟩
 at_:=oK h.at_
 closed i hi:=by
  rw[List.getElem?_set] at hi;split at hi
  ·rename_i e;subst e;exact .inl (by simp)
  rcases h.closed i hi with h1 | h1 | h1
  ·exact .inl (List.mem_append_left _ h1)
  ·exact .inr (.inl h1)
  exact .inr (.inr fun t' ht'=>oK (h1 t' ht'))
 done q t' hq h':=by
  by_cases e:q=m
  ·subst e;rw[ht] at h';cases h';rw[List.getElem?_set,if_pos rfl,if_pos (by rw[h.len];exact htn)]
  exact oK (h.done q t' (by omega) h')
theorem tV.close (h:tV nx n o st a m dl) (hm:dl.length<=m) (hd:∀t∈nx a,t∈dl):Bs nx n o st where
 len:=h.len
 reach:=h.reach
 zero:=h.zero
 Fj:=h.Fj
 closed i hi:=by
  rcases h.closed i hi with h1 | h1 | h1
  ·exact .inl h1
  ·subst h1;refine .inr fun t ht=>?_
   obtain⟨q,hq⟩:=gO_ (hd t ht);exact h.done q t (by have:=(gA.1 hq).1;omega) hq
  exact .inr h1
theorem Bs.final (h:Bs nx n o []) {i:Nat}:o[i]?=some true↔Reach nx i:=by
 refine⟨h.reach i,fun hi=>?_⟩;induction hi with
 | zero=>exact h.zero
 | @step i t _ ht ih=>
  rcases h.closed i ih with h1 | h1
  ·simp at h1
  exact h1 t ht
end
theorem xn {k:Nat} {c:XC} (hc:ew k c) {a g:Nat} {x:XI} {to:Int} (h:c.ins[a]?=some x) (ht:(jc x a)[g]?=some to):∃t:Nat,to= .ofNat t/\t<c.ins.length/\(fL c a)[g]?=some t/\t∈cH c a:=by
 obtain⟨q,hq⟩:=gO_ (xk.1 (gB_ ht));obtain⟨t,rfl,h1,h2⟩:=xp hc h hq;refine⟨t,rfl,h1,?_,gB_ h2⟩;unfold fL;rw[h];show((jc x a).map Int.toNat)[g]?=_;rw[gM_,ht];rfl
theorem vh {c:XC} {a:Nat} {x:XI} (h:c.ins[a]?=some x):(fL c a).length=(jc x a).length:=by unfold fL;rw[h];simp
end Go.Ev
namespace Go.Ev
variable [Env]
open Go.Proofs
set_option maxRecDepth 4000
set_option maxHeartbeats 8000000
theorem FT {G:Cx} (hG:Plain G) {K:KP} {k:Nat} {c:XC} {cv:AV} (hi:bJ K 6 (gK K k) c.ins cv) {x:XI} {a:Nat} (hx:c.ins[a]?=some x) (ha:a<9223372036854775807) {σ:aD} {L:Own} (ar:St σ K L):
  bp Tryz.prog G 252 [.agg [.int .i64 c.aP,cv],.int .i64 (.ofNat a)] σ fun v σ'=>∃M,dh 1 3 dS (jc x a) v M/\St σ' K (M++L):=by
 refine bh hG Tryz.func252 rfl (t:=(PT.leaf.put (some (.agg [.int .i64 c.aP,cv])) 0).put (some (.int .i64 (.ofNat a))) 1) (by rfl) (aj (ah rfl (kp ar rfl (cK rfl rfl) (fun σ b1 ar=>?_))));refine vQ 1 rfl (nS rfl (aa rfl (MY 1 rfl) rfl (aa rfl (MZ rfl ar.g0 rfl) rfl (vQ 1 rfl (MT (e:=79) (m:=6) hi hx rfl rfl rfl rfl (fun p9 vs9 hp9 hl9 hr9=>?_))))));have hr9':=hr9;obtain⟨v9,rfl,hk9⟩:=hr9';refine aa rfl (Na ar hp9 rfl rfl) rfl (kp ar rfl (M8 (cs:=[iZ,iZ,iZ,iZ,iZ,.aK])) (fun σ b2 ar=>?_));refine bO ar rfl (Nb rfl rfl rfl ar.g0 (m:=6) rfl (ak rfl (ak rfl (ak rfl (ak rfl (ak rfl (ak hk9.leaf.2 aJ)))))) (cells':=[_,_,_,_,_,_]) rfl) rfl (fun σ ar=>?_);refine nT (aj (aj (ah rfl (aa rfl (MY 0 rfl) rfl (aa rfl (MZ rfl ar.g0 rfl) rfl (nT (aM (aj (aj (ah rfl (ky rfl (az rfl rfl rfl) (fun h14=>?_) (fun h14=>?_))))))))))))
 ·refine vQ 1 rfl (nT (aF rfl (aH (ad (aF rfl (aj (ah rfl (vQ 1 rfl (nT (aC (aB (av (?_)))))))))))));exact ay rfl rfl ⟨[],.inl ⟨by unfold jc;simp only[h14,ct,cf],rfl,rfl⟩,ar.pop.pop⟩
 refine vQ 1 rfl (nT (aI rfl (ah rfl (ky rfl (az rfl rfl rfl) (fun h15=>?_) (fun h15=>?_)))))
 ·refine vQ 1 rfl (nT (aF rfl (aj (ah rfl (vQ 1 rfl (nT (aC (aB (av (?_))))))))));exact ay rfl rfl ⟨[],.inl ⟨by unfold jc;simp only[h14,h15,ct,cf],rfl,rfl⟩,ar.pop.pop⟩
 refine vQ 1 rfl (nT (aI rfl (aj (ah rfl (ky rfl (az rfl rfl rfl) (fun h17=>?_) (fun h17=>?_))))))
 ·refine vQ 1 rfl (nT (aF rfl (aj (ah rfl (aa rfl (MY 4 rfl) rfl (aa rfl (MZ rfl ar.g0 rfl) rfl (ib ar rfl (cq (e:=3) (m:=1) (z:=[iZ]) (cs:=[_]) (by kernel_rfl) (by kernel_rfl) (by kernel_rfl) (by kernel_rfl) (bB rfl rfl rfl rfl bT)) (fun _=>rfl) (fun σ b3 ar=>?_))))))));refine vQ 1 rfl (nT (aC (aB (av (?_)))));exact ay rfl rfl ⟨[(b3,_)],by unfold jc;simp only[h14,h15,h17,ct,cf];exact fN (xs:=[x.to]) (by simp),ar.sub (.cons_cons _ (.cons _ (.cons _ (.refl _))))⟩
 refine vQ 1 rfl (nT (aI rfl (aj (ah rfl (ky rfl (az rfl rfl rfl) (fun h22=>?_) (fun h22=>?_))))))
 ·refine vQ 1 rfl (nT (aF rfl (aj (aj (ah rfl (aa rfl (MY 4 rfl) rfl (aa rfl (MZ rfl ar.g0 rfl) rfl (vQ 1 rfl (aa rfl (az rfl rfl (show _=some (AV.int .i64 (.ofNat (a+1))) from cI (ba ha))) rfl (vQ 1 rfl (af (ad ?_))))))))))));refine aG rfl (fun h27=>?_) (fun h27=>?_)
  ·refine aj (ah rfl (aa rfl (MY 4 rfl) rfl (aa rfl (MZ rfl ar.g0 rfl) rfl (vQ 1 rfl (aa rfl (az rfl rfl (show _=some (AV.int .i64 (.ofNat (a+1))) from cI (ba ha))) rfl (ib ar rfl (cq (e:=3) (m:=1) (z:=[iZ]) (cs:=[_,_]) (by kernel_rfl) (by kernel_rfl) (by kernel_rfl) (by kernel_rfl) (bB rfl rfl rfl rfl (bB rfl rfl rfl rfl bT))) (fun _=>rfl) (fun σ b3 ar=>?_)))))));refine vQ 1 rfl (nT (aC (av (aB (av (?_))))));exact ay rfl rfl ⟨[(b3,_)],by unfold jc;simp only[h14,h15,h17,h22,h27,ct,cf];exact fN (xs:=[x.to,.ofNat (a+1)]) (by simp),ar.sub (.cons_cons _ (.cons _ (.cons _ (.refl _))))⟩
  refine aH (ad (aj (ah rfl (aa rfl (MY 4 rfl) rfl (aa rfl (MZ rfl ar.g0 rfl) rfl (vQ 1 rfl (aa rfl (az rfl rfl (show _=some (AV.int .i64 (.ofNat (a+1))) from cI (ba ha))) rfl (vQ 1 rfl (nT (aG rfl (fun h37=>?_) (fun h37=>?_)))))))))))
  ·refine aj (ah rfl (vQ 1 rfl (aa rfl (az rfl rfl (show _=some (AV.int .i64 (.ofNat (a+1))) from cI (ba ha))) rfl (aa rfl (MY 4 rfl) rfl (aa rfl (MZ rfl ar.g0 rfl) rfl (ib ar rfl (cq (e:=3) (m:=1) (z:=[iZ]) (cs:=[_,_]) (by kernel_rfl) (by kernel_rfl) (by kernel_rfl) (by kernel_rfl) (bB rfl rfl rfl rfl (bB rfl rfl rfl rfl bT))) (fun _=>rfl) (fun σ b3 ar=>?_)))))));refine vQ 1 rfl (nT (aC (aB (av (?_)))));exact ay rfl rfl ⟨[(b3,_)],by unfold jc;simp only[h14,h15,h17,h22,h27,h37,ct,cf];exact fN (xs:=[.ofNat (a+1),x.to]) (by simp),ar.sub (.cons_cons _ (.cons _ (.cons _ (.refl _))))⟩
  refine aH (aE (ad (aj (ah rfl (vQ 1 rfl (aa rfl (az rfl rfl (show _=some (AV.int .i64 (.ofNat (a+1))) from cI (ba ha))) rfl (ib ar rfl (cq (e:=3) (m:=1) (z:=[iZ]) (cs:=[_]) (by kernel_rfl) (by kernel_rfl) (by kernel_rfl) (by kernel_rfl) (bB rfl rfl rfl rfl bT)) (fun _=>rfl) (fun σ b3 ar=>?_))))))));refine vQ 1 rfl (nT (aC ?_));exact ay rfl rfl ⟨[(b3,_)],by unfold jc;simp only[h14,h15,h17,h22,h27,h37,ct,cf];exact fN (xs:=[.ofNat (a+1)]) (by simp),ar.sub (.cons_cons _ (.cons _ (.cons _ (.refl _))))⟩
 refine vQ 1 rfl (nT (aI rfl (aH (aE (ad (aj (ah rfl (vQ 1 rfl (aa rfl (az rfl rfl (show _=some (AV.int .i64 (.ofNat (a+1))) from cI (ba ha))) rfl (ib ar rfl (cq (e:=3) (m:=1) (z:=[iZ]) (cs:=[_]) (by kernel_rfl) (by kernel_rfl) (by kernel_rfl) (by kernel_rfl) (bB rfl rfl rfl rfl bT)) (fun _=>rfl) (fun σ b3 ar=>?_)))))))))));refine vQ 1 rfl (nT (aC ?_));exact ay rfl rfl ⟨[(b3,_)],by unfold jc;simp only[h14,h15,h17,h22,ct,cf];exact fN (xs:=[.ofNat (a+1)]) (by simp),ar.sub (.cons_cons _ (.cons _ (.cons _ (.refl _))))⟩
theorem zG {G:Cx} (hG:Plain G) {K:KP} {k:Nat} {c:XC} {cv:AV} (hi:bJ K 6 (gK K k) c.ins cv) {x:XI} {a:Nat} (hx:c.ins[a]?=some x) (ha:a<9223372036854775807) {σ:aD} {L:Own} (ar:St σ K L):
  bp Tryz.prog G 214 [.agg [.int .i64 c.aP,cv],.int .i64 (.ofNat a)] σ fun v σ'=>∃M,dh 1 3 dS (jc x a) v M/\St σ' K (M++L):=by
 refine bh hG Tryz.func214 rfl (t:=(PT.leaf.put (some (.agg [.int .i64 c.aP,cv])) 0).put (some (.int .i64 (.ofNat a))) 1) (by rfl) (aj (ah rfl (kp ar rfl (cK rfl rfl) (fun σ b1 ar=>?_))));refine vQ 1 rfl (nS rfl (aa rfl (M5 rfl ar.g0 (n:=2) (vs:=[_,_]) rfl) rfl (vQ 1 rfl (dF rfl (MX rfl rfl rfl) (fun _=>rfl) (FT hG hi hx ha ar) ?_))));rintro v7 σ ⟨M7,hM7,ar⟩;refine vQ 1 rfl (nT (aC ?_));exact ay rfl rfl ⟨M7,hM7,ar.sub (eL (.cons _ (.refl _)))⟩
theorem El {G:Cx} (hG:Plain G) {K:KP} {k:Nat} {c:XC} {cv:AV} (hok:ew k c) (hck:cQ k c=0) (hF:kP k c) (hS:sQ k c) (hi:bJ K 6 (gK K k) c.ins cv) {σ:aD} {L:Own} (ar:St σ K L):
  bp Tryz.prog G 213 [.agg [.int .i64 c.aP,cv]] σ fun v σ'=>∃(o:List Bool) (b:Nat),v= .slice b 0 c.ins.length (.known c.ins.length)/\o.length=c.ins.length/\(∀i:Nat,o[i]?=some true↔Reach (cH c) i)/\St σ' K ((b,.row (o.map gB) 4 false)::L):=by
 have hlen:=hok.len;have hpos:=hok.pos;refine bh hG Tryz.func213 rfl (t:=PT.leaf.put (some (.agg [.int .i64 c.aP,cv])) 0) (by rfl) (aj (ah rfl (kp ar rfl (cK rfl rfl) (fun σ b1 ar=>?_))));refine vQ 1 rfl (nT (aj (aj (ah rfl (aa rfl (M5 rfl ar.g0 (n:=2) (vs:=[_,_]) rfl) rfl (bf rfl (MX rfl rfl rfl) (fun _=>rfl) (uq hG hi hF hS ar) (fun σ ar=>?_)))))));refine vQ 1 rfl (nT (aG rfl (fun h10=>?_) (fun h10=>?_)))
 ·exact absurd h10 (by rw[fS hF,hck];decide)
 refine aH (ad (aj (ah rfl (aa rfl (MY 1 rfl) rfl (aa rfl (MZ rfl ar.g0 rfl) rfl (aa rfl (M6 hi rfl rfl rfl (e:=79) rfl) rfl (ib ar rfl (gF (e:=4) (w:=1) (z:=[gB false]) (by kernel_rfl) (by kernel_rfl) (by kernel_rfl) (by kernel_rfl) rfl rfl (by omega) (by omega)) (fun _=>rfl) (fun σ b2 ar=>?_))))))));rw[gX (f:=gB)] at ar;refine vQ 1 rfl (nS rfl (vQ 1 rfl (aa rfl (fW (e:=4) (m:=1) (by kernel_rfl) (by kernel_rfl) rfl rfl hpos) rfl (dL ar .here rfl (aR rfl rfl rfl ar.g0 (m:=1) (by kernel_rfl) rfl (by rw[lM_];simp;omega) rfl (cells':=((List.replicate c.ins.length false).set 0 true).map (gB)) (eA (f:=gB) (v:=true) (by simp;omega) (by first | omega | rfl))) rfl (fun σ ar=>?_)))));refine nS rfl (ib ar rfl (cq (e:=3) (m:=1) (z:=[iZ]) (cs:=[_]) (by kernel_rfl) (by kernel_rfl) (by kernel_rfl) (by kernel_rfl) (bB rfl rfl rfl rfl bT)) (fun _=>rfl) (fun σ b3 ar=>?_));refine vQ 1 rfl (nT (aj (aM (bg [4,5,6,7,18,19,20,21,22,23,24,25,26,27,28,29,30,31,32,33,34,35,36,37,38,39,40,41,42,43,44,45,46,47,48,49,50,51,52,53,54,55,56,57,58,59,60,61] (fun j t σ=>∃(o:List Bool) (st:List Nat) (u:AV) (Mp:Own),Bs (cH c) c.ins.length o st/\2*sg o+st.length<=j/\2*sg o+st.length<=8002/\ma 1 3 dS (st.map .ofNat) u Mp/\t.get 4=some (u)/\St σ K (Mp++((b2,.row (o.map gB) 4 false)::(b1,.row [.int .i64 c.aP,cv] 33 false)::L))) ((2*c.ins.length+1)) ⟨_,[0],_,[(b3,.row [gI 0] 3 false)],Lu hpos,(by have:=q9 ((List.replicate c.ins.length false).set 0 true);simp at this⊢;omega),(by have:=q9 ((List.replicate c.ins.length false).set 0 true);simp at this⊢;omega),(fN (xs:=[0]) (by simp)).Lr,rfl,ar⟩ ?_))));clear ar;intro j6 t σ aq hI;obtain⟨o,st,u,Mp,hinv,hlj,hl8,hP,hv4,ar⟩:=hI;obtain⟨o4,o5,o6,o7,o18,o19,o20,o21,o22,o23,o24,o25,o26,o27,o28,o29,aq⟩:=aq.L4 rfl rfl rfl rfl;obtain⟨o30,o31,o32,o33,o34,o35,o36,o37,o38,o39,o40,o41,o42,o43,o44,o45,aq⟩:=aq.L4 rfl rfl rfl rfl;obtain⟨o46,o47,o48,o49,o50,o51,o52,o53,o54,o55,o56,o57,o58,o59,o60,o61,aq⟩:=aq.L4 rfl rfl rfl rfl;obtain rfl:=aq.nil;clear aq;replace hv4:o4=some _:=hv4;subst hv4;refine aj (aj (ah rfl ?_));have hol:=hinv.len;refine vQ 1 rfl (aa rfl (sO hP rfl rfl rfl (e:=3) (by kernel_rfl) rfl) rfl (ky rfl (az rfl rfl rfl) (fun h20=>?_) (fun h20=>?_)))
 ·refine nT (aF rfl (aH (ad (aM (aj (ah rfl (vQ 2 rfl (aa rfl (sO hP rfl rfl rfl (e:=3) (by kernel_rfl) rfl) rfl (vQ 1 rfl ?_)))))))));have hlp:0<st.length:=by have:=bm (a:=0) h20;rwa[gz] at this
  obtain⟨a,hla⟩:∃a,st.getLast?=some a:=by cases hq:st.getLast? with | none=>(rw[List.getLast?_eq_none_iff.1 hq] at hlp;exact absurd hlp (Nat.lt_irrefl _)) | some a=>exact⟨a,rfl⟩
  have hla':=Di hla;obtain⟨han,hoa⟩:=hinv.Fj a (gB_ hla');obtain⟨xa,hxa⟩:=bX han;have hfl:=q9 o;have hpl:=hP.bA;rw[gz] at hpl;refine MT (e:=3) (m:=1) (hP.rh (K:=K.gG Mp) fun y hy=>.inr hy) (GW hla') rfl rfl rfl (cI ((congrArg (fun q=>wr .i64 (Int.sub (.ofNat q) 1)) (gz st)).trans (rX (b:=1) (by omega) (by omega)))) (fun p25 vs25 hp25 hl25 hr25=>?_);obtain rfl:=hr25;refine aa rfl (M9 (ar.keeps) hp25 rfl rfl) rfl (vQ 1 rfl (nS rfl (vQ 2 rfl (aa rfl (sO hP rfl rfl rfl (e:=3) (by kernel_rfl) rfl) rfl (vQ 1 rfl ?_)))));obtain⟨u31,hP2,hsl⟩:=hP.JA (k:=st.length-1) (by rw[gz];omega);rw[xF] at hP2;refine aa rfl (bH rfl (hsl (by kernel_rfl) (by kernel_rfl) rfl (show _=some (AV.int .i64 (.ofNat (st.length-1))) from cI ((congrArg (fun q=>wr .i64 (Int.sub (.ofNat q) 1)) (gz st)).trans (rX (b:=1) (by omega) (by omega)))))) rfl (vQ 1 rfl (nS rfl (aa rfl (M5 rfl ar.b9.pop.g0 (n:=2) (vs:=[_,_]) rfl) rfl (vQ 1 rfl (dF rfl (MX rfl rfl rfl) (fun _=>rfl) (FT hG hi hxa (by omega) ar) ?_)))));rintro u34 σ ⟨M34,hM34,ar⟩;replace ar:=ar.keeps;have hS34:=hM34.rh (K:=K.gG M34) fun y hy=>.inr hy
  have hmid:tV (cH c) c.ins.length o st.dropLast a 0 (fL c a):=hinv.pop hla;have hdl:st.dropLast.length+1=st.length:=by rw[List.length_dropLast];omega
  refine vQ 1 rfl (nS rfl (vQ 1 rfl (nT (aM (bg [4,7,35,36,37,38,39,40,41,42,43,44,45,46,47,48,49,50,51,52,53,54,55,56,57,58,59,60,61] (fun j t σ=>∃(i2:Nat) (o2:List Bool) (st2:List Nat) (u4:AV) (Mq:Own),j+i2=(jc xa a).length/\tV (cH c) c.ins.length o2 st2 a i2 (fL c a)/\2*sg o2+st2.length+1<=j6/\2*sg o2+st2.length+1<=8002/\ma 1 3 dS (st2.map .ofNat) u4 Mq/\t.get 4=some (u4)/\t.get 7=some (.int .i64 (.ofNat i2))/\St σ (K.gG M34) (Mq++((b2,.row (o2.map gB) 4 false)::(b1,.row [.int .i64 c.aP,cv] 33 false)::L))) ((jc xa a).length) ⟨0,o,st.dropLast,_,Mp,rfl,hmid,(by omega),(by omega),hP2,rfl,rfl,ar⟩ ?_)))));clear ar;intro j11 t σ aq hI;obtain⟨i2,o2,st2,u4,Mq,hj11,hm2,hl2,hl28,hP3,hv4,hv7,ar⟩:=hI;obtain⟨o4,o7,o35,o36,o37,o38,o39,o40,o41,o42,o43,o44,o45,o46,o47,o48,aq⟩:=aq.L4 rfl rfl rfl rfl;replace aq:=aq.bR rfl rfl;obtain⟨o49,o50,o51,o52,o53,o54,o55,o56,aq⟩:=aq;replace aq:=aq.mg rfl;obtain⟨o57,o58,o59,o60,aq⟩:=aq;replace aq:=aq.dI rfl;obtain⟨o61,aq⟩:=aq;obtain rfl:=aq.nil;clear aq;replace hv4:o4=some _:=hv4;subst hv4;replace hv7:o7=some _:=hv7;subst hv7;refine aj (aj (ah rfl ?_));have hol2:=hm2.len;refine vQ 2 rfl (aa rfl (M6 hS34 rfl rfl rfl (e:=3) rfl) rfl (vQ 1 rfl (nT (aG rfl (fun h38=>?_) (fun h38=>?_)))))
  ·refine aH (ad (aj (aM (aj (ah rfl (vQ 3 rfl ?_))))));obtain⟨x44,hx44,hi44⟩:=cm h38;refine MT (e:=3) (m:=1) hS34 hx44 rfl rfl rfl rfl (fun p44 vs44 hp44 hl44 hr44=>?_);obtain rfl:=hr44;obtain⟨to,rfl,htn,hdto,hto⟩:=xn hok hxa hx44;obtain⟨ob,hob⟩:=bX (show to<o2.length from by omega);refine aa rfl (M9 ar hp44 rfl rfl) rfl (aa rfl (fW (e:=4) (m:=1) (by kernel_rfl) (by kernel_rfl) rfl rfl htn) rfl (aa rfl (ax rfl ar.b9.g0 (by kernel_rfl) (jf hob (by first | omega | rfl))) rfl (aa rfl (cN rfl) rfl (nT (aG rfl (fun h48=>?_) (fun h48=>?_))))))
   ·refine aj (ah rfl (vQ 3 rfl (MT (e:=3) (m:=1) hS34 hx44 rfl rfl rfl rfl (fun p52 vs52 hp52 hl52 hr52=>?_))));obtain rfl:=hr52;refine aa rfl (M9 ar hp52 rfl rfl) rfl (aa rfl (fW (e:=4) (m:=1) (by kernel_rfl) (by kernel_rfl) rfl rfl htn) rfl ?_);have hf2:=zR (show o2[to]?=some false from by have h48:=h48;cases ob;exact hob;cases h48);refine dL ar (.jk .here) rfl (aR rfl rfl rfl ar.b9.g0 (m:=1) (by kernel_rfl) rfl (by rw[lM_];rw[hol2];omega) rfl (cells':=((o2).set to true).map (gB)) (eA (f:=gB) (v:=true) (by rw[hol2];exact htn) (by first | omega | rfl))) rfl (fun σ ar=>?_);refine nT (ah rfl (vQ 3 rfl (MT (e:=3) (m:=1) hS34 hx44 rfl rfl rfl rfl (fun p58 vs58 hp58 hl58 hr58=>?_))));obtain rfl:=hr58;refine aa rfl (M9 ar hp58 rfl rfl) rfl (ib ar rfl (cq (e:=3) (m:=1) (z:=[iZ]) (cs:=[_]) (by kernel_rfl) (by kernel_rfl) (by kernel_rfl) (by kernel_rfl) (bB rfl rfl rfl rfl bT)) (fun _=>rfl) (fun σ b4 ar=>?_));obtain⟨σ,u61,M61,happ,hP4,ar⟩:=oA (P:=Tryz.prog) (ts:= #[34,34]) (t:=34) (e:=3) (l2:=[Int.ofNat to]) hP3 ar (e6 (xs:=[Int.ofNat to]) (.inr ⟨rfl,rfl⟩) (by simp)) dS.leaf (by simp) (by simp) (by rw[gz];have:=q9 o2;omega) rfl (by kernel_rfl) (by kernel_rfl) (by kernel_rfl);rw[show st2.map Int.ofNat++[Int.ofNat to]=(st2++[to]).map Int.ofNat from by rw[List.map_append];rfl] at hP4;refine aa rfl (eO rfl rfl rfl rfl (by kernel_rfl) happ) rfl (vQ 1 rfl (af (aE (ad (ah rfl (vQ 3 rfl (af (aN ⟨j11-1,(by have:=bm h38;omega),(by(iterate 58 refine oP rfl ?_);exact oR _ _),i2+1,o2.set to true,st2++[to],u61,M61,(by omega),hm2.mark hdto hto htn,(by rw[lA_];show _+(_+1)+1<=_;omega),(by rw[lA_];show _+(_+1)+1<=_;omega),hP4,rfl,cI (ba (by have:=hS34.bA;omega)),ar⟩))))))))
   refine aH (aE (ad (ah rfl (vQ 3 rfl (af (aN ⟨j11-1,(by have:=bm h38;omega),(by(iterate 44 refine oP rfl ?_);exact oR _ _),i2+1,o2,st2,u4,Mq,(by omega),hm2.skip hdto (by have h48:=h48;cases ob;cases h48;exact hob),(by omega),(by omega),hP3,rfl,cI (ba (by have:=hS34.bA;omega)),ar⟩))))))
  refine bn (aS (aV (aO (aE ?_))));replace ar:=ar.weaken (KP.bF _ _);refine aN ⟨j6-1,(by omega),(by(iterate 102 refine oP rfl ?_);exact oR _ _),o2,st2,u4,Mq,hm2.close (by rw[vh hxa];exact br h38) (fun t ht=>qB.2 ht),(by omega),(by omega),hP3,rfl,ar⟩
 refine nT (aI rfl (bn (aS (aV (aO (ad (aj (ah rfl (vQ 2 rfl (nT (aC ?_)))))))))));exact ay rfl rfl ⟨o,b2,rfl,hol,(fun i=>by have e:st= []:=eN_ (by have:=br (a:=0) h20;rw[gz] at this;omega);subst e;exact hinv.final),ar.b9.F3⟩
end Go.Ev
namespace Go.Ev
variable [Env]
section
variable {nx:Nat->List Nat} {w:Nat->Nat} {r:Nat->Bool} {n i v j:Nat} {b b':List Nat} {sm:Bool}
theorem E7 (hr:r i=false):gE nx w r n (i+1) (b,sm)=gE nx w r n i (b,sm):=by
 show(bif aX (r i) then _ else _)=_;rw[hr];rfl
theorem E6 (hr:r i=true) (hv:gJ nx w b i=v) (h:n<v):gE nx w r n (i+1) (b,sm)=none:=by
 show(bif aX (r i) then _ else bif Nat.blt n (gJ nx w b i) then _ else _)=_;rw[hr,hv,show Nat.blt n v=true from by rw[Nat.blt_eq];exact h];rfl
theorem IT (hr:r i=true) (hv:gJ nx w b i=v) (h:v<=n) (he:lE b i=v):gE nx w r n (i+1) (b,sm)=gE nx w r n i (b,sm):=by
 show(bif aX (r i) then _ else bif Nat.blt n (gJ nx w b i) then _ else bif Nat.beq (gJ nx w b i) (lE b i) then _ else _)=_;rw[hr,hv,he,Nat.beq_refl,show Nat.blt n v=false from by rw[Bool.eq_false_iff];intro e;rw[Nat.blt_eq] at e;omega];rfl
theorem G6 (hr:r i=true) (hv:gJ nx w b i=v) (h:v<=n) (he:lE b i≠v):gE nx w r n (i+1) (b,sm)=gE nx w r n i (b.set i v,false):=by
 show(bif aX (r i) then _ else bif Nat.blt n (gJ nx w b i) then _ else bif Nat.beq (gJ nx w b i) (lE b i) then _ else gE nx w r n i (b.set i (gJ nx w b i),false))=_;rw[hr,hv,show Nat.blt n v=false from by rw[Bool.eq_false_iff];intro e;rw[Nat.blt_eq] at e;omega,show Nat.beq v (lE b i)=false from by rw[Bool.eq_false_iff];intro e;exact he (nB e).symm];rfl
theorem EV (hj:1<=j) (h:gE nx w r n n (b,true)=none):iI nx w r n j b=(0,false):=by
 obtain⟨j,rfl⟩:∃q,j=q+1:=⟨j-1,by omega⟩;unfold iI;rw[h]
theorem EW (hj:1<=j) (h:gE nx w r n n (b,true)=some (b',true)):iI nx w r n j b=(lE b' 0,true):=by
 obtain⟨j,rfl⟩:∃q,j=q+1:=⟨j-1,by omega⟩;unfold iI;rw[h]
theorem Ch (hj:1<=j) (h:gE nx w r n n (b,true)=some (b',false)):iI nx w r n j b=iI nx w r n (j-1) b':=by
 obtain⟨j,rfl⟩:∃q,j=q+1:=⟨j-1,by omega⟩;rw[Nat.add_sub_cancel];show(match gE nx w r n n (b,true) with | none=>(0,false) | some (b',true)=>(lE b' 0,true) | some (b',false)=>iI nx w r n j b')=_;rw[h]
theorem II {f:Nat->Nat} {l:List Nat} {q t m:Nat} (h:l[q]?=some t):mr f (l.drop q) m=mr f (l.drop (q+1)) (max m (f t)):=by rw[cL h];rfl
theorem GG {f:Nat->Nat} {l:List Nat} {q m:Nat} (h:l.length<=q):mr f (l.drop q) m=m:=by rw[fy h];rfl
theorem ud {t y:Nat} (h:b[t]?=some y):lE b t=y:=by unfold lE;rw[h];rfl
theorem qg {t B:Nat} (h:∀i,lE b i<=B) (hv:v<=B):lE (b.set i v) t<=B:=by
 by_cases hi:i<b.length
 ·rw[CZ hi];split;exact hv;exact h t
 rw[List.set_eq_of_length_le (by omega)];exact h t
theorem HZ {t:Nat}:lE (List.replicate n 0) t=0:=by
 unfold lE;rw[List.getElem?_replicate];split<;>rfl
end
theorem tR {n:Nat} (h:n<=9223372036854775807):wr .i64 (Int.sub (.ofNat n) 1)=Int.sub (.ofNat n) 1:=y8 (n:=(n:Int)-1) (by omega) (by omega)
theorem L9 {a b:Nat} (h:bq (.ofNat a) (.ofNat b)=false):b≠a:=fun e=>by rw[e,eP] at h;cases h
theorem L3 {a b:Nat} (h:bq (.ofNat a) (.ofNat b)=true):b=a:=(iJ_ (eqv h)).symm
theorem JG (n:Int):IntKind.u64.wrap n=n%18446744073709551616:=by simp[IntKind.wrap,IntKind.bits,IntKind.signed]
theorem xS (f:BitVec 64->BitVec 64->BitVec 64) (a b:Int):IntKind.i64.wrap ((f (BitVec.ofInt IntKind.i64.bits a) (BitVec.ofInt IntKind.i64.bits b)).toNat)=FI f a b:=by
 unfold FI
 have e:∀n:Int,BitVec.ofInt 64 (wr .u64 n)=BitVec.ofInt 64 n:=fun n=>by
  rw[xM,JG];apply BitVec.eq_of_toInt_eq;rw[BitVec.toInt_ofInt,BitVec.toInt_ofInt];show(n%((18446744073709551616:Nat):Int)).bmod 18446744073709551616=n.bmod 18446744073709551616;exact Int.emod_bmod ..
 rw[e,e,xM];show IntKind.i64.wrap ((f (BitVec.ofInt 64 a) (BitVec.ofInt 64 b)).toNat:Int)=_;rw[IntKind.wrap_i64,IntKind.wrap_i64,JG];generalize ((f (BitVec.ofInt 64 a) (BitVec.ofInt 64 b)).toNat:Int)=q;omega
end Go.Ev
namespace Go.Ev
variable [Env]
open Go.Proofs
set_option maxRecDepth 4000
set_option maxHeartbeats 8000000
theorem BK {G:Cx} (hG:Plain G) {K:KP} {k:Nat} {c:XC} {cv:AV} (hok:ew k c) (hck:cQ k c=0) (hF:kP k c) (hS:sQ k c) (hi:bJ K 6 (gK K k) c.ins cv) {σ:aD} {L:Own} (ar:St σ K L):
  bp Tryz.prog G 156 [.agg [.int .i64 c.aP,cv],.bool false] σ fun v σ'=>∃r:Nat->Bool,(∀i,i<c.ins.length->(r i=true↔Reach (cH c) i))/\v= .tuple [.int .i64 (.ofNat (iI (fL c) (fun _=>1) r c.ins.length (c.ins.length+2) (List.replicate c.ins.length 0)).1),.bool (iI (fL c) (fun _=>1) r c.ins.length (c.ins.length+2) (List.replicate c.ins.length 0)).2]/\St σ' K L:=by
 have hlen:=hok.len;have hpos:=hok.pos;refine bh hG Tryz.func156 rfl (t:=(PT.leaf.put (some (.agg [.int .i64 c.aP,cv])) 0).put (some (.bool false)) 1) (by rfl) (aj (ah rfl (kp ar rfl (cK rfl rfl) (fun σ b1 ar=>?_))));refine vQ 2 rfl (nS rfl (aa rfl (M5 rfl ar.g0 (n:=2) (vs:=[_,_]) rfl) rfl (dF rfl (MX rfl rfl rfl) (fun _=>rfl) (El hG hok hck hF hS hi ar) ?_)));rintro _ σ ⟨o,b2,rfl,hol,hro,ar⟩;obtain⟨r,hrd⟩:∃r:Nat->Bool,r=fun i=>(o[i]?).getD false:=⟨_,rfl⟩
 have hr:∀i,i<c.ins.length->(r i=true↔Reach (cH c) i):=fun i hi=>by
  obtain⟨q,hq⟩:=bX (show i<o.length from by omega);rw[<-hro i,hrd];dsimp only;rw[hq];cases q<;>simp
 obtain⟨LD,hLD⟩:∃LD,LD=iI (fL c) (fun _=>1) r c.ins.length:=⟨_,rfl⟩;obtain⟨PD,hPD⟩:∃PD,PD=gE (fL c) (fun _=>1) r c.ins.length:=⟨_,rfl⟩;refine vQ 1 rfl (nS rfl (aa rfl (MY 1 rfl) rfl (aa rfl (MZ rfl ar.g1 rfl) rfl (aa rfl (M6 hi rfl rfl rfl (e:=79) rfl) rfl (ib ar rfl (gF (e:=3) (w:=8) (z:=[gI 0]) (by kernel_rfl) (by kernel_rfl) (by kernel_rfl) (by kernel_rfl) rfl rfl (by omega) (by omega)) (fun _=>rfl) (fun σ b3 ar=>?_))))));rw[gX (f:=gI)] at ar;refine vQ 1 rfl (nT (aj (aj (ah rfl (vQ 1 rfl (nT (aM (bg [4,5,8,9,10,11,12,13,14,21,22,23,24,25,26,27,28,29,30,31,32,33,34,35,36,37,38,39,40,41,42,43,44,45,46,47,48,49,50,51,52,53,54,55,56,57,58,59,60,61,62,63,64,65,66,67,68,69,70,71,72,73,74,75,76,77,78,79,80,81,82,83,84,85,86,87,88,89,90,91,92,93,94,95,96] (fun j t σ=>∃(rd:Nat) (bl:List Nat),j+rd=c.ins.length+2/\LD (c.ins.length+2) (List.replicate c.ins.length 0)=LD j bl/\bl.length=c.ins.length/\(∀i,lE bl i<=c.ins.length)/\t.get 8=some (.int .i64 (.ofNat rd))/\St σ K ((b3,.row (bl.map gI) 3 false)::(b2,.row (o.map gB) 4 false)::(b1,.row [.int .i64 c.aP,cv] 33 false)::L)) ((c.ins.length+2)) ⟨0,List.replicate c.ins.length 0,rfl,rfl,by simp,(fun i=>by rw[HZ];omega),rfl,ar⟩ ?_))))))));clear ar;intro j4 t σ aq hI;obtain⟨rd,bl,hj4,he4,hbl4,hbn4,hv8,ar⟩:=hI;obtain⟨o4,o5,o8,o9,o10,o11,o12,o13,o14,o21,o22,o23,o24,o25,o26,o27,aq⟩:=aq.L4 rfl rfl rfl rfl;obtain⟨o28,o29,o30,o31,o32,o33,o34,o35,o36,o37,o38,o39,o40,o41,o42,o43,aq⟩:=aq.L4 rfl rfl rfl rfl;obtain⟨o44,o45,o46,o47,o48,o49,o50,o51,o52,o53,o54,o55,o56,o57,o58,o59,aq⟩:=aq.L4 rfl rfl rfl rfl;obtain⟨o60,o61,o62,o63,o64,o65,o66,o67,o68,o69,o70,o71,o72,o73,o74,o75,aq⟩:=aq.L4 rfl rfl rfl rfl;obtain⟨o76,o77,o78,o79,o80,o81,o82,o83,o84,o85,o86,o87,o88,o89,o90,o91,aq⟩:=aq.L4 rfl rfl rfl rfl;replace aq:=aq.mg rfl;obtain⟨o92,o93,o94,o95,aq⟩:=aq;replace aq:=aq.dI rfl;obtain⟨o96,aq⟩:=aq;obtain rfl:=aq.nil;clear aq;replace hv8:o8=some _:=hv8;subst hv8;refine aj (aj (ah rfl (vQ 1 rfl (aa rfl (MY 1 rfl) rfl (aa rfl (MZ rfl (ar.get 2 rfl) rfl) rfl (aa rfl (M6 hi rfl rfl rfl (e:=79) rfl) rfl (aa rfl (az rfl rfl (show _=some (AV.int .i64 (.ofNat (c.ins.length+1))) from cI (ba (by omega)))) rfl (vQ 1 rfl (nT (aG rfl (fun h26=>?_) (fun h26=>?_)))))))))))
 ·refine aH (ad (aj (aM (aj (ah rfl (vQ 1 rfl (nT (aj (aj (ah rfl (aa rfl (MY 1 rfl) rfl (aa rfl (MZ rfl (ar.get 2 rfl) rfl) rfl ?_))))))))))));refine aa rfl (M6 hi rfl rfl rfl (e:=79) rfl) rfl (vQ 2 rfl (nT (aM (bg [4,5,9,10,11,12,13,14,33,34,35,36,37,38,39,40,41,42,43,44,45,46,47,48,49,50,51,52,53,54,55,56,57,58,59,60,61,62,63,64,65,66,67,68,69,70,71,72,73,74,75,76,77,78,79,80,81,82,83,84,85,86,87,88,89,90,91,92] (fun j t σ=>∃(z:Int) (b2l:List Nat) (sm:Bool),z+1=(j:Int)/\j<=c.ins.length/\PD c.ins.length (bl,true)=PD j (b2l,sm)/\b2l.length=c.ins.length/\(∀i,lE b2l i<=c.ins.length)/\t.get 9=some (.bool sm)/\t.get 10=some (.int .i64 z)/\St σ K ((b3,.row (b2l.map gI) 3 false)::(b2,.row (o.map gB) 4 false)::(b1,.row [.int .i64 c.aP,cv] 33 false)::L)) (c.ins.length) ⟨Int.sub (.ofNat c.ins.length) 1,bl,true,(show(c.ins.length:Int)-1+1=((c.ins.length:Nat):Int) by omega),nR_ _,rfl,hbl4,hbn4,rfl,(cI (tR (by omega))),ar⟩ ?_))));clear ar;intro j8 t σ aq hI;obtain⟨z,b2l,sm,hz,hj8,he8,hbl,hbn,hv9,hv10,ar⟩:=hI;obtain⟨o4,o5,o9,o10,o11,o12,o13,o14,o33,o34,o35,o36,o37,o38,o39,o40,aq⟩:=aq.L4 rfl rfl rfl rfl;obtain⟨o41,o42,o43,o44,o45,o46,o47,o48,o49,o50,o51,o52,o53,o54,o55,o56,aq⟩:=aq.L4 rfl rfl rfl rfl;obtain⟨o57,o58,o59,o60,o61,o62,o63,o64,o65,o66,o67,o68,o69,o70,o71,o72,aq⟩:=aq.L4 rfl rfl rfl rfl;obtain⟨o73,o74,o75,o76,o77,o78,o79,o80,o81,o82,o83,o84,o85,o86,o87,o88,aq⟩:=aq.L4 rfl rfl rfl rfl;replace aq:=aq.mg rfl;obtain⟨o89,o90,o91,o92,aq⟩:=aq;obtain rfl:=aq.nil;clear aq;replace hv9:o9=some _:=hv9;subst hv9;replace hv10:o10=some _:=hv10;subst hv10;refine aj (aj (ah rfl (vQ 1 rfl (ky rfl (az rfl rfl rfl) (fun h34=>?_) (fun h34=>?_)))))
  ·refine nT (aF rfl (aH (ad (aj (aM (aj (aj (ah rfl ?_))))))));obtain⟨i,rfl⟩:=mw (bM h34);obtain rfl:j8=i+1:=by have:((i:Nat):Int)+1=(j8:Int):=hz;omega
   obtain⟨oi,hoi⟩:=bX (show i<o.length from by omega);have hri:r i=oi:=by rw[hrd];dsimp only;rw[hoi];rfl
   refine vQ 2 rfl (aa rfl (fW (e:=4) (m:=1) (by kernel_rfl) (by kernel_rfl) rfl rfl (by omega)) rfl (aa rfl (ax rfl ar.g1 (by kernel_rfl) (jf hoi (by first | omega | rfl))) rfl (ky rfl (cN rfl) (fun h41=>?_) (fun h41=>?_))))
   ·refine nT (aF rfl (bn (aS (aO (ad (ah rfl (vQ 3 rfl (af ?_))))))));refine aN ⟨i,(by omega),(by(iterate 78 refine oP rfl ?_);exact oR _ _),Int.sub (.ofNat i) 1,b2l,sm,(show(i:Int)-1+1=((i:Nat):Int) by omega),(by omega),(by rw[he8,hPD];exact E7 (by rw[hri];have h41:=h41;cases oi;rfl;cases h41)),(by first | exact hbl | (rw[List.length_set];exact hbl)),(by first | exact hbn | exact fun q=>qg hbn (by have:=br h82;omega)),rfl,cI (tR (by omega)),ar⟩
   refine nT (aI rfl (aH (ad (aj (ah rfl (vQ 1 rfl (nS rfl (aa rfl (M5 rfl (ar.get 2 rfl) (n:=2) (vs:=[_,_]) rfl) rfl (vQ 1 rfl ?_)))))))));obtain⟨xi,hxi⟩:=bX (show i<c.ins.length from by omega);refine dF rfl (MX rfl rfl rfl) (fun _=>rfl) (zG hG hi hxi (by omega) ar) ?_;rintro u44 σ ⟨M44,hM44,ar⟩;replace ar:=ar.keeps;have hS44:=hM44.rh (K:=K.gG M44) fun y hy=>.inr hy
   refine vQ 1 rfl (nT (aj (aj (ah rfl (vQ 1 rfl (nT (aM (bg [11,13,45,46,47,48,49,50,51,52,53,54,55,56,57,58,59] (fun j t σ=>∃(q m:Nat),j+q=(jc xi i).length/\mr (lE b2l) (fL c i) 0=mr (lE b2l) ((fL c i).drop q) m/\m<=c.ins.length/\t.get 11=some (.int .i64 (.ofNat m))/\t.get 13=some (.int .i64 (.ofNat q))/\St σ (K.gG M44) ((b3,.row (b2l.map gI) 3 false)::(b2,.row (o.map gB) 4 false)::(b1,.row [.int .i64 c.aP,cv] 33 false)::L)) ((jc xi i).length) ⟨0,0,rfl,rfl,Nat.zero_le _,rfl,rfl,ar⟩ ?_))))))));clear ar;intro j14 t σ aq hI;obtain⟨q,m,hj14,hm14,hmn,hv11,hv13,ar⟩:=hI;obtain⟨o11,o13,o45,o46,o47,o48,o49,o50,o51,o52,o53,o54,o55,o56,o57,o58,aq⟩:=aq.L4 rfl rfl rfl rfl;replace aq:=aq.dI rfl;obtain⟨o59,aq⟩:=aq;obtain rfl:=aq.nil;clear aq;replace hv11:o11=some _:=hv11;subst hv11;replace hv13:o13=some _:=hv13;subst hv13;refine aj (aj (ah rfl (vQ 2 rfl (aa rfl (M6 hS44 rfl rfl rfl (e:=3) rfl) rfl (vQ 1 rfl (nT (aG rfl (fun h48=>?_) (fun h48=>?_))))))))
   ·refine aH (ad (aj (aM (ah rfl (vQ 4 rfl ?_)))));obtain⟨x55,hx55,hi55⟩:=cm h48;refine MT (e:=3) (m:=1) hS44 hx55 rfl rfl rfl rfl (fun p55 vs55 hp55 hl55 hr55=>?_);obtain rfl:=hr55;obtain⟨to,rfl,htn,hdto,hto⟩:=xn hok hxi hx55;obtain⟨y,hy⟩:=bX (show to<b2l.length from by omega);refine aa rfl (M9 ar hp55 rfl rfl) rfl (aa rfl (fW (e:=3) (m:=1) (by kernel_rfl) (by kernel_rfl) rfl rfl htn) rfl (aa rfl (ax rfl ar.g0 (by kernel_rfl) (jf hy (by first | omega | rfl))) rfl (aa rfl (JH rfl rfl rfl rfl) rfl (vQ 1 rfl (af (aE (ad (ah rfl (vQ 3 rfl (af (aN ⟨j14-1,(by have:=bm h48;omega),(by(iterate 34 refine oP rfl ?_);exact oR _ _),q+1,max m y,(by have:=bm h48;omega),(by rw[hm14,II hdto,ud hy]),(by have:=hbn to;rw[ud hy] at this;omega),cI (Dm _ _),cI (ba (by have:=hS44.bA;omega)),ar⟩)))))))))))
   refine bn (aS (aV (aO (ad (aj (ah rfl ?_))))));replace ar:=ar.weaken (KP.bF _ _);have hmx:=hm14.trans (GG (by rw[vh hxi];exact br h48));obtain⟨yi,hyi⟩:=bX (show i<b2l.length from by omega);refine aa rfl (MY 1 rfl) rfl (aa rfl (MZ rfl (ar.get 2 rfl) rfl) rfl (vQ 1 rfl (MT (e:=79) (m:=6) hi hxi rfl rfl rfl rfl (fun p63 vs63 hp63 hl63 hr63=>?_))));have hr63':=hr63;obtain⟨v63,rfl,hk63⟩:=hr63';refine bK hp63 rfl rfl rfl (k:=0) (by kernel_rfl) (lb rfl) (fun _=>rfl) (fun p64 hp64=>?_);refine aa rfl (M9 ar hp64 rfl rfl) rfl (vQ 1 rfl (nT (aj (aj (ah rfl (vQ 1 rfl (aa rfl (cN rfl) rfl (vQ 8 rfl (nT (aF rfl (ah rfl ?_)))))))))));refine vQ 1 rfl (aa rfl (az rfl rfl (show _=some (AV.int .i64 (.ofNat (m+1))) from cI (ba (by omega)))) rfl (vQ 1 rfl (nT (aj (aj (ah rfl (vQ 1 rfl (aa rfl (MY 1 rfl) rfl (aa rfl (MZ rfl (ar.get 2 rfl) rfl) rfl (aa rfl (M6 hi rfl rfl rfl (e:=79) rfl) rfl (vQ 1 rfl (af ?_))))))))))));refine ad (aG rfl (fun h82=>?_) (fun h82=>?_))
   ·refine aj (ah rfl (vQ 2 rfl (nT (aC (av (aB (av (bk (aB (av (aB (av (bk (aB (av (?_))))))))))))))));exact bE rfl rfl rfl ⟨r,hr,by rw[<-hLD,he4,hLD,EV (by have:=br (bM h26);omega) (by rw[<-hPD,he8,hPD];exact E6 (by rw[hri];have h41:=h41;cases oi;cases h41;rfl) (show gJ (fL c) (fun _=>1) b2l i=(m+1) from by unfold gJ;rw[hmx]) (bm h82))];rfl,ar.pop.pop.pop⟩
   refine aH (ad (aj (ah rfl (vQ 3 rfl (aa rfl (fW (e:=3) (m:=1) (by kernel_rfl) (by kernel_rfl) rfl rfl (by omega)) rfl (aa rfl (ax rfl ar.g0 (by kernel_rfl) (jf hyi (by first | omega | rfl))) rfl (vQ 1 rfl (nT (aG rfl (fun h88=>?_) (fun h88=>?_))))))))))
   ·refine aj (ah rfl (vQ 3 rfl (aa rfl (fW (e:=3) (m:=1) (by kernel_rfl) (by kernel_rfl) rfl rfl (by omega)) rfl (dL ar .here rfl (aR rfl rfl rfl ar.g0 (m:=1) (by kernel_rfl) rfl (by rw[lM_];rw[hbl];omega) rfl (cells':=((b2l).set i (m+1)).map (gI)) (eA (f:=gI) (v:=(m+1)) (by rw[hbl];omega) (by first | omega | rfl))) rfl (fun σ ar=>?_)))));refine nT (ah rfl (vQ 1 rfl (af (aE (ad (ah rfl (vQ 3 rfl (af ?_))))))));refine aN ⟨i,(by omega),(by(iterate 141 refine oP rfl ?_);exact oR _ _),Int.sub (.ofNat i) 1,(b2l.set i (m+1)),false,(show(i:Int)-1+1=((i:Nat):Int) by omega),(by omega),(by rw[he8,hPD];exact G6 (by rw[hri];have h41:=h41;cases oi;cases h41;rfl) (show gJ (fL c) (fun _=>1) b2l i=(m+1) from by unfold gJ;rw[hmx]) (by have:=br h82;omega) (by rw[ud hyi];exact L9 (bM h88))),(by first | exact hbl | (rw[List.length_set];exact hbl)),(by first | exact hbn | exact fun q=>qg hbn (by have:=br h82;omega)),rfl,cI (tR (by omega)),ar⟩
   refine aH (aE (ad (ah rfl (vQ 3 rfl (af ?_)))));refine aN ⟨i,(by omega),(by(iterate 136 refine oP rfl ?_);exact oR _ _),Int.sub (.ofNat i) 1,b2l,sm,(show(i:Int)-1+1=((i:Nat):Int) by omega),(by omega),(by rw[he8,hPD];exact IT (by rw[hri];have h41:=h41;cases oi;cases h41;rfl) (show gJ (fL c) (fun _=>1) b2l i=(m+1) from by unfold gJ;rw[hmx]) (by have:=br h82;omega) ((ud hyi).trans (L3 (bx h88)))),(by first | exact hbl | (rw[List.length_set];exact hbl)),(by first | exact hbn | exact fun q=>qg hbn (by have:=br h82;omega)),rfl,cI (tR (by omega)),ar⟩
  refine nT (aI rfl (bn (aS (aV (aO (ad (aj (ah rfl ?_))))))))
  have hfin:PD c.ins.length (bl,true)=some (b2l,sm):=by
   have h0:z<0:=Ju.1 (bx h34);have h1:j8=0:=by omega
   rw[he8,h1,hPD];rfl
  refine vQ 1 rfl (nT (aG rfl (fun h93=>?_) (fun h93=>?_)))
  ·refine aj (ah rfl (vQ 1 rfl ?_));obtain⟨y0,hy0⟩:=bX (show 0<b2l.length from by omega);refine aa rfl (fW (e:=3) (m:=1) (by kernel_rfl) (by kernel_rfl) rfl rfl hpos) rfl (aa rfl (ax rfl ar.g0 (by kernel_rfl) (jf hy0 (by first | omega | rfl))) rfl (vQ 2 rfl (nT (aC (aB (av (bk (aB (av (?_))))))))));exact bE rfl rfl rfl ⟨r,hr,by rw[<-hLD,he4,hLD,EW (b':=b2l) (by have:=br (bM h26);omega) (by rw[<-hPD,hfin,show sm=true from h93]),ud hy0],ar.pop.pop.pop⟩
  refine aH (aE (ad (ah rfl (vQ 3 rfl (af (aN ⟨j4-1,(by have:=br (bM h26);omega),(by(iterate 171 refine oP rfl ?_);exact oR _ _),rd+1,b2l,(by have:=br (bM h26);omega),(by rw[he4,hLD];exact Ch (by have:=br (bM h26);omega) (by rw[<-hPD,hfin,show sm=false from h93])),hbl,hbn,cI (ba (by have:=br (bM h26);omega)),ar⟩))))))
 refine bn (aS (aV (aO (ad (aj (ah rfl (vQ 2 rfl (nT (aC ?_)))))))));exact bE rfl rfl rfl ⟨r,hr,by rw[<-hLD,he4,hLD,show j4=0 from by have:=bm (bx h26);omega];rfl,ar.pop.pop.pop⟩
theorem Ji {G:Cx} (hG:Plain G) {K:KP}:∀(k:Nat) (x:XE) (vs:List AV) (p:AV),gi K p vs->vs.length=4->dV K k x vs->∀(deep size:Int) (b1 e1:Nat) (σ:aD) (L:Own),St σ K ((b1,.row [.int .i64 size] e1 false)::L)->
  bp Tryz.prog G 164 [p,.int .i64 deep,.ptr b1 0] σ fun v σ'=>∃s',v= .bool (kb k x deep size).isSome/\St σ' K ((b1,.row [.int .i64 s'] e1 false)::L)/\∀s,kb k x deep size=some s->s'=s:=by
 intro k;induction k with
 | zero=>intro x vs p _ _ h;cases x;exact h.elim
 | succ k ih=>
 intro x vs p hp hl h deep size b1 e1 σ L ar;obtain⟨op,num,name,kids⟩:=x;obtain⟨v,rfl,hk⟩:=h;obtain⟨F,hF⟩:∃F:XE->Int->Option Int,F=fun x m=>kb k x (wr .i64 (Int.add deep 1)) m:=⟨_,rfl⟩
 have hS:kb (k+1) (.mk op num name kids) deep size=bif (bif bG 2000 (wr .i64 (Int.add size 1)) then true else bG 32 deep) then none else gu F kids (wr .i64 (Int.add size 1)):=by rw[hF];rfl
 rw[hS];clear hS;refine bh hG Tryz.func164 rfl (t:=((PT.leaf.put (some (p)) 0).put (some (.int .i64 deep)) 1).put (some (.ptr b1 0)) 2) (by rfl) (aj (ah rfl (vQ 1 rfl (nS rfl (vQ 1 rfl (aa rfl (eu rfl) rfl (aa rfl (MZ rfl ar.g0 rfl) rfl (vQ 1 rfl (aa rfl (eu rfl) rfl (bO ar rfl (Nb rfl rfl rfl ar.g0 (m:=1) rfl rfl (cells':=[_]) rfl) rfl (fun σ ar=>?_)))))))))));refine nT (aj (aj (ah rfl (vQ 1 rfl (aa rfl (eu rfl) rfl (aa rfl (MZ rfl ar.g0 rfl) rfl (vQ 1 rfl (ky rfl (an rfl) (fun h17=>?_) (fun h17=>?_)))))))))
 ·refine vQ 3 rfl (nT (aF rfl (aj (ah rfl (vQ 1 rfl (nT (aC (av (?_)))))))));exact ay rfl rfl ⟨_,by rw[h17];rfl,ar,fun s hs=>by rw[h17] at hs;cases hs⟩
 refine vQ 3 rfl (nT (aG rfl (fun h20=>?_) (fun h20=>?_)))
 ·refine aj (ah rfl (vQ 1 rfl (nT (aC (av (?_))))));exact ay rfl rfl ⟨_,by rw[h17,h20];rfl,ar,fun s hs=>by rw[h17,h20] at hs;cases hs⟩
 refine aH (ad (aj (aj (ah rfl (vQ 1 rfl (aa rfl (du hp rfl) rfl (bK hp rfl rfl rfl (k:=3) (by kernel_rfl) (lb rfl) (fun _=>rfl) (fun p23 hp23=>?_))))))));refine aa rfl (M9 ar hp23 rfl rfl) rfl (aa rfl (M6 hk rfl rfl rfl (e:=82) rfl) rfl (vQ 1 rfl (nT (aM (bg [6,7,26,27,28,29,30,31,32,33,34,35,36,37,38,39,40] (fun j t σ=>∃(i:Nat) (m:Int),j+i=kids.length/\gu F kids (wr .i64 (Int.add size 1))=gu F (kids.drop i) m/\t.get 26=some (.int .i64 (.ofNat i))/\St σ K ((b1,.row [.int .i64 m] e1 false)::L)) (kids.length) ⟨0,_,rfl,rfl,rfl,ar⟩ ?_)))));clear ar;intro j5 t σ aq hI;obtain⟨i,m,hj,he,hv26,ar⟩:=hI;obtain⟨o6,o7,o26,o27,o28,o29,o30,o31,o32,o33,o34,o35,o36,o37,o38,o39,aq⟩:=aq.L4 rfl rfl rfl rfl;replace aq:=aq.dI rfl;obtain⟨o40,aq⟩:=aq;obtain rfl:=aq.nil;clear aq;replace hv26:o26=some _:=hv26;subst hv26;refine aj (ah rfl (vQ 1 rfl (nT (aj (aG rfl (fun h27=>?_) (fun h27=>?_))))))
 ·refine aH (ad (aj (aM (aj (ah rfl (vQ 2 rfl (nS rfl (vQ 1 rfl (aa rfl (du hp rfl) rfl (bK hp rfl rfl rfl (k:=3) (by kernel_rfl) (lb rfl) (fun _=>rfl) (fun p31 hp31=>?_)))))))))));refine aa rfl (M9 ar hp31 rfl rfl) rfl (vQ 1 rfl ?_);obtain⟨x34,hx34,hi34⟩:=cm h27;refine MT (e:=82) (m:=4) hk hx34 rfl rfl rfl rfl (fun p34 vs34 hp34 hl34 hr34=>?_);have hr34raw:=hr34;refine vQ 3 rfl (dF rfl (MX rfl rfl rfl) (fun _=>rfl) (ih x34 _ _ hp34 hl34 hr34raw _ _ _ _ _ _ ar) ?_);rintro _ σ ⟨m2,rfl,ar,hm2⟩;refine aa rfl (cN rfl) rfl (nT (aG rfl (fun h39=>?_) (fun h39=>?_)))
  ·refine aj (ah rfl (vQ 1 rfl (nT (aC (aB (av (bk (aB (av (?_))))))))));exact ay rfl rfl ⟨_,by rw[h17,h20];show _=AV.bool (gu F kids _).isSome;rw[he,tw hx34 (by rw[hF];exact bM h39)];rfl,ar,fun s hs=>by rw[h17,h20] at hs;rw[show gu F kids _=none from by rw[he];exact tw hx34 (by rw[hF];exact bM h39)] at hs;cases hs⟩
  refine aH (aE (ad (ah rfl (vQ 2 rfl (af (aN ⟨j5-1,by omega,(by(iterate 33 refine oP rfl ?_);exact oR _ _),i+1,m2,by omega,(by obtain⟨s,hs⟩:=Option.isSome_iff_exists.1 (bx h39);rw[he,AM hx34 (show F x34 m=some s from by rw[hF];exact hs),hm2 s hs]),cI (ba (by have:=hk.bA;omega)),ar⟩))))))
 refine bn (aS (aV (aO (ad (aj (ah rfl (vQ 1 rfl (nT (aC ?_)))))))));exact ay rfl rfl ⟨_,by rw[h17,h20];show _=AV.bool (gu F kids _).isSome;rw[he,vO (br h27)];rfl,ar,fun s hs=>by rw[h17,h20] at hs;rw[show gu F kids _=some m from by rw[he];exact vO (br h27)] at hs;cases hs;rfl⟩
theorem Bc {G:Cx} (hG:Plain G) {K:KP} (aP:Int):∀(k:Nat) (x:XE) (vs:List AV) (p:AV),gi K p vs->vs.length=4->dV K k x vs->∀(σ:aD) (L:Own),St σ K L->bp Tryz.prog G 218 [p,.int .i64 aP] σ fun v σ'=>v= .bool (dG aP k x)/\St σ' K L:=by
 intro k;induction k with
 | zero=>intro x vs p _ _ h;cases x;exact h.elim
 | succ k ih=>
 intro x vs p hp hl h σ L ar;obtain⟨op,num,name,kids⟩:=x;obtain⟨v,rfl,hk⟩:=h
 have hS:dG aP (k+1) (.mk op num name kids)=bif bq op 1 then(bif aX (bG num 0) then(bif fF name [] then bq (.ofNat kids.length) 0 else false) else false) else
  bif bq op 2 then(bif (gH name).isSome then(bif bG (Lt (gH name)) aP then(bif bq num 0 then bq (.ofNat kids.length) 0 else false) else false) else false) else
  bif (bif (bif bq op 3 then true else bq op 4) then false else(bif bG op 5 then true else bG 16 op)) then false else
  bif (bif aX (bq num 0) then true else bif aX (fF name []) then true else aX (bq (.ofNat kids.length) (fc op))) then false else
  kids.all (dG aP k):=by show(bif bq op 1 then _ else bif bq op 2 then(match gH name with | some n=>_ | none=>false) else _)=_;cases gH name<;>rfl
 rw[hS];clear hS;have hE:fF name (List.map UInt8.toNat (ByteArray.mk #[]).data.toList)=fF name []:=rfl;refine bh hG Tryz.func218 rfl (t:=(PT.leaf.put (some (p)) 0).put (some (.int .i64 aP)) 1) (by rfl) (aj (ah rfl (vQ 1 rfl (nS rfl (vQ 1 rfl (nT (aj (aM (aj ?_)))))))));refine ah rfl (vQ 1 rfl (aa rfl (du hp rfl) rfl (bK hp rfl rfl rfl (k:=0) (by kernel_rfl) (lb rfl) (fun _=>rfl) (fun p12 hp12=>?_))));refine aa rfl (M9 ar hp12 rfl rfl) rfl (vQ 2 rfl (nT (aG rfl (fun h9=>?_) (fun h9=>?_))))
 ·refine aj (ah rfl (vQ 1 rfl (aa rfl (du hp rfl) rfl (bK hp rfl rfl rfl (k:=1) (by kernel_rfl) (lb rfl) (fun _=>rfl) (fun p17 hp17=>?_)))));refine aa rfl (M9 ar hp17 rfl rfl) rfl (vQ 1 rfl (ky rfl (an rfl) (fun h20=>?_) (fun h20=>?_)))
  ·refine vQ 1 rfl (aa rfl (du hp rfl) rfl (bK hp rfl rfl rfl (k:=2) (by kernel_rfl) (lb rfl) (fun _=>rfl) (fun p23 hp23=>?_)));refine aa rfl (M9 ar hp23 rfl rfl) rfl (vQ 2 rfl (ky rfl (an rfl) (fun h27=>?_) (fun h27=>?_)))
   ·refine vQ 1 rfl (aa rfl (du hp rfl) rfl (bK hp rfl rfl rfl (k:=3) (by kernel_rfl) (lb rfl) (fun _=>rfl) (fun p30 hp30=>?_)));refine aa rfl (M9 ar hp30 rfl rfl) rfl (aa rfl (M6 hk rfl rfl rfl (e:=82) rfl) rfl (vQ 3 rfl (nT (aC (aB (av (?_)))))));exact ay rfl rfl ⟨cB (by simp only[aX,fc];(try rw[<-hE]);simp only[h9,h20,h27,ct,cf]<;>rfl),ar⟩
   refine vQ 8 rfl (nT (aC (aB (av (?_)))));exact ay rfl rfl ⟨cB (by simp only[aX,fc];(try rw[<-hE]);simp only[h9,h20,h27,ct,cf]<;>rfl),ar⟩
  refine vQ 15 rfl (nT (aC (aB (av (?_)))));exact ay rfl rfl ⟨cB (by simp only[aX,fc];(try rw[<-hE]);simp only[h9,h20,ct,cf]<;>rfl),ar⟩
 refine aj (ah rfl (vQ 1 rfl (aa rfl (du hp rfl) rfl (bK hp rfl rfl rfl (k:=0) (by kernel_rfl) (lb rfl) (fun _=>rfl) (fun p38 hp38=>?_)))));refine aa rfl (M9 ar hp38 rfl rfl) rfl (vQ 2 rfl (nT (aG rfl (fun h35=>?_) (fun h35=>?_))))
 ·refine aj (ah rfl (vQ 1 rfl (aa rfl (du hp rfl) rfl (bK hp rfl rfl rfl (k:=2) (by kernel_rfl) (lb rfl) (fun _=>rfl) (fun p44 hp44=>?_)))));refine aa rfl (M9 ar hp44 rfl rfl) rfl (bf rfl (MX rfl rfl rfl) (fun _=>rfl) (CP hG _ ar) (fun σ ar=>?_));refine vQ 5 rfl (nS rfl (vQ 1 rfl (ky rfl (an rfl) (fun h50=>?_) (fun h50=>?_))))
  ·refine vQ 4 rfl (ky rfl (an rfl) (fun h55=>?_) (fun h55=>?_))
   ·refine vQ 1 rfl (aa rfl (du hp rfl) rfl (bK hp rfl rfl rfl (k:=1) (by kernel_rfl) (lb rfl) (fun _=>rfl) (fun p58 hp58=>?_)));refine aa rfl (M9 ar hp58 rfl rfl) rfl (vQ 2 rfl (ky rfl (an rfl) (fun h62=>?_) (fun h62=>?_)))
    ·refine vQ 1 rfl (aa rfl (du hp rfl) rfl (bK hp rfl rfl rfl (k:=3) (by kernel_rfl) (lb rfl) (fun _=>rfl) (fun p65 hp65=>?_)));refine aa rfl (M9 ar hp65 rfl rfl) rfl (aa rfl (M6 hk rfl rfl rfl (e:=82) rfl) rfl (vQ 3 rfl (nT (aC (aB (av (?_)))))));exact ay rfl rfl ⟨cB (by simp only[aX,fc];(try rw[<-hE]);simp only[h9,h35,h50,h55,h62,ct,cf]<;>rfl),ar⟩
    refine vQ 8 rfl (nT (aC (aB (av (?_)))));exact ay rfl rfl ⟨cB (by simp only[aX,fc];(try rw[<-hE]);simp only[h9,h35,h50,h55,h62,ct,cf]<;>rfl),ar⟩
   refine vQ 15 rfl (nT (aC (aB (av (?_)))));exact ay rfl rfl ⟨cB (by simp only[aX,fc];(try rw[<-hE]);simp only[h9,h35,h50,h55,ct,cf]<;>rfl),ar⟩
  refine vQ 20 rfl (nT (aC (aB (av (?_)))));exact ay rfl rfl ⟨cB (by simp only[aX,fc];(try rw[<-hE]);simp only[h9,h35,h50,ct,cf]<;>rfl),ar⟩
 refine aj (ah rfl (vQ 1 rfl (aa rfl (du hp rfl) rfl (bK hp rfl rfl rfl (k:=0) (by kernel_rfl) (lb rfl) (fun _=>rfl) (fun p73 hp73=>?_)))));refine aa rfl (M9 ar hp73 rfl rfl) rfl (vQ 1 rfl (ky rfl (an rfl) (fun h76=>?_) (fun h76=>?_)))
 ·refine vQ 7 rfl (nT (aF rfl (ah rfl (vQ 1 rfl (af (aE (ad (aj (aj (ah rfl (vQ 1 rfl (aa rfl (du hp rfl) rfl ?_))))))))))));refine bK hp rfl rfl rfl (k:=1) (by kernel_rfl) (lb rfl) (fun _=>rfl) (fun p98 hp98=>?_);refine aa rfl (M9 ar hp98 rfl rfl) rfl (vQ 1 rfl (ky rfl (an rfl) (fun h101=>?_) (fun h101=>?_)))
  ·refine vQ 15 rfl (nT (aF rfl (aj (ah rfl (vQ 1 rfl (nT (aC (av (?_)))))))));exact ay rfl rfl ⟨cB (by simp only[aX,fc];(try rw[<-hE]);simp only[h9,h35,h76,h101,ct,cf]<;>rfl),ar⟩
  refine vQ 1 rfl (aa rfl (du hp rfl) rfl (bK hp rfl rfl rfl (k:=2) (by kernel_rfl) (lb rfl) (fun _=>rfl) (fun p104 hp104=>?_)));refine aa rfl (M9 ar hp104 rfl rfl) rfl (vQ 2 rfl (ky rfl (an rfl) (fun h108=>?_) (fun h108=>?_)))
  ·refine vQ 8 rfl (nT (aF rfl (aj (ah rfl (vQ 1 rfl (nT (aC (av (?_)))))))));exact ay rfl rfl ⟨cB (by simp only[aX,fc];(try rw[<-hE]);simp only[h9,h35,h76,h101,h108,ct,cf]<;>rfl),ar⟩
  refine vQ 1 rfl (aa rfl (du hp rfl) rfl (bK hp rfl rfl rfl (k:=3) (by kernel_rfl) (lb rfl) (fun _=>rfl) (fun p111 hp111=>?_)));refine aa rfl (M9 ar hp111 rfl rfl) rfl (aa rfl (M6 hk rfl rfl rfl (e:=82) rfl) rfl (vQ 3 rfl (nT (aG rfl (fun h116=>?_) (fun h116=>?_)))))
  ·refine aj (ah rfl (vQ 1 rfl (nT (aC (av (?_))))));exact ay rfl rfl ⟨cB (by simp only[aX,fc];(try rw[<-hE]);simp only[h9,h35,h76,h101,h108,h116,ct,cf]<;>rfl),ar⟩
  refine aH (ad (aj (aj (ah rfl (vQ 1 rfl (aa rfl (du hp rfl) rfl (bK hp rfl rfl rfl (k:=3) (by kernel_rfl) (lb rfl) (fun _=>rfl) (fun p119 hp119=>?_))))))));refine aa rfl (M9 ar hp119 rfl rfl) rfl (aa rfl (M6 hk rfl rfl rfl (e:=82) rfl) rfl (vQ 1 rfl (nT (aM ?_))));obtain⟨LL1,ar,hLL1⟩:=ar.named;refine bg [4,8,122,123,124,125,126,127,128,129,130,131,132,133,134] (fun j t σ=>∃(i:Nat),j+i=kids.length/\(kids.take i).all (dG aP k)=true/\t.get 122=some (.int .i64 (.ofNat i))/\St σ K LL1) (kids.length) ⟨0,rfl,rfl,rfl,ar⟩ ?_;clear ar;intro j14 t σ aq hI;obtain⟨i,hj,ha,hv122,ar⟩:=hI;subst hLL1;replace aq:=aq.bR rfl rfl;obtain⟨o4,o8,o122,o123,o124,o125,o126,o127,aq⟩:=aq;replace aq:=aq.mg rfl;obtain⟨o128,o129,o130,o131,aq⟩:=aq;replace aq:=aq.dI rfl;obtain⟨o132,aq⟩:=aq;replace aq:=aq.dI rfl;obtain⟨o133,aq⟩:=aq;replace aq:=aq.dI rfl;obtain⟨o134,aq⟩:=aq;obtain rfl:=aq.nil;clear aq;replace hv122:o122=some _:=hv122;subst hv122;refine aj (ah rfl (vQ 1 rfl (nT (aj (aG rfl (fun h123=>?_) (fun h123=>?_))))))
  ·refine aH (ad (aj (aM (aj (ah rfl (vQ 2 rfl (nS rfl (vQ 1 rfl (aa rfl (du hp rfl) rfl (bK hp rfl rfl rfl (k:=3) (by kernel_rfl) (lb rfl) (fun _=>rfl) (fun p127 hp127=>?_)))))))))));refine aa rfl (M9 ar hp127 rfl rfl) rfl (vQ 1 rfl ?_);obtain⟨x130,hx130,hi130⟩:=cm h123;refine MT (e:=82) (m:=4) hk hx130 rfl rfl rfl rfl (fun p130 vs130 hp130 hl130 hr130=>?_);have hr130raw:=hr130;refine vQ 1 rfl (bf rfl (MX rfl rfl rfl) (fun _=>rfl) (ih x130 _ _ hp130 hl130 hr130raw _ _ ar) (fun σ ar=>?_));refine aa rfl (cN rfl) rfl (nT (aG rfl (fun h133=>?_) (fun h133=>?_)))
   ·refine aj (ah rfl (vQ 1 rfl (nT (aC (aB (av (bk (aB (av (?_))))))))));exact ay rfl rfl ⟨cB (by rw[gp hx130 (bM h133)];simp only[aX,fc];(try rw[<-hE]);simp only[h9,h35,h76,h101,h108,h116,ct,cf]<;>rfl),ar⟩
   refine aH (aE (ad (ah rfl (vQ 2 rfl (af (aN ⟨j14-1,by omega,(by(iterate 29 refine oP rfl ?_);exact oR _ _),i+1,by omega,eG ha hx130 (bx h133),cI (ba (by have:=hk.bA;omega)),ar⟩))))))
  refine bn (aS (aV (aO (ad (aj (ah rfl (vQ 1 rfl (nT (aC ?_)))))))));exact ay rfl rfl ⟨cB (by rw[dC ha (br h123)];simp only[aX,fc];(try rw[<-hE]);simp only[h9,h35,h76,h101,h108,h116,ct,cf]<;>rfl),ar⟩
 refine vQ 1 rfl (aa rfl (du hp rfl) rfl (bK hp rfl rfl rfl (k:=0) (by kernel_rfl) (lb rfl) (fun _=>rfl) (fun p79 hp79=>?_)));refine aa rfl (M9 ar hp79 rfl rfl) rfl (vQ 3 rfl (nT (aG rfl (fun h70=>?_) (fun h70=>?_))))
 ·refine ah rfl (vQ 1 rfl (af (aE (ad (aj (aj (ah rfl (vQ 1 rfl (aa rfl (du hp rfl) rfl (bK hp rfl rfl rfl (k:=1) (by kernel_rfl) (lb rfl) (fun _=>rfl) (fun p98 hp98=>?_)))))))))));refine aa rfl (M9 ar hp98 rfl rfl) rfl (vQ 1 rfl (ky rfl (an rfl) (fun h101=>?_) (fun h101=>?_)))
  ·refine vQ 15 rfl (nT (aF rfl (aj (ah rfl (vQ 1 rfl (nT (aC (av (?_)))))))));exact ay rfl rfl ⟨cB (by simp only[aX,fc];(try rw[<-hE]);simp only[h9,h35,h76,h70,h101,ct,cf]<;>rfl),ar⟩
  refine vQ 1 rfl (aa rfl (du hp rfl) rfl (bK hp rfl rfl rfl (k:=2) (by kernel_rfl) (lb rfl) (fun _=>rfl) (fun p104 hp104=>?_)));refine aa rfl (M9 ar hp104 rfl rfl) rfl (vQ 2 rfl (ky rfl (an rfl) (fun h108=>?_) (fun h108=>?_)))
  ·refine vQ 8 rfl (nT (aF rfl (aj (ah rfl (vQ 1 rfl (nT (aC (av (?_)))))))));exact ay rfl rfl ⟨cB (by simp only[aX,fc];(try rw[<-hE]);simp only[h9,h35,h76,h70,h101,h108,ct,cf]<;>rfl),ar⟩
  refine vQ 1 rfl (aa rfl (du hp rfl) rfl (bK hp rfl rfl rfl (k:=3) (by kernel_rfl) (lb rfl) (fun _=>rfl) (fun p111 hp111=>?_)));refine aa rfl (M9 ar hp111 rfl rfl) rfl (aa rfl (M6 hk rfl rfl rfl (e:=82) rfl) rfl (vQ 3 rfl (nT (aG rfl (fun h116=>?_) (fun h116=>?_)))))
  ·refine aj (ah rfl (vQ 1 rfl (nT (aC (av (?_))))));exact ay rfl rfl ⟨cB (by simp only[aX,fc];(try rw[<-hE]);simp only[h9,h35,h76,h70,h101,h108,h116,ct,cf]<;>rfl),ar⟩
  refine aH (ad (aj (aj (ah rfl (vQ 1 rfl (aa rfl (du hp rfl) rfl (bK hp rfl rfl rfl (k:=3) (by kernel_rfl) (lb rfl) (fun _=>rfl) (fun p119 hp119=>?_))))))));refine aa rfl (M9 ar hp119 rfl rfl) rfl (aa rfl (M6 hk rfl rfl rfl (e:=82) rfl) rfl (vQ 1 rfl (nT (aM ?_))));obtain⟨LL2,ar,hLL2⟩:=ar.named;refine bg [4,8,122,123,124,125,126,127,128,129,130,131,132,133,134] (fun j t σ=>∃(i:Nat),j+i=kids.length/\(kids.take i).all (dG aP k)=true/\t.get 122=some (.int .i64 (.ofNat i))/\St σ K LL2) (kids.length) ⟨0,rfl,rfl,rfl,ar⟩ ?_;clear ar;intro j14 t σ aq hI;obtain⟨i,hj,ha,hv122,ar⟩:=hI;subst hLL2;replace aq:=aq.bR rfl rfl;obtain⟨o4,o8,o122,o123,o124,o125,o126,o127,aq⟩:=aq;replace aq:=aq.mg rfl;obtain⟨o128,o129,o130,o131,aq⟩:=aq;replace aq:=aq.dI rfl;obtain⟨o132,aq⟩:=aq;replace aq:=aq.dI rfl;obtain⟨o133,aq⟩:=aq;replace aq:=aq.dI rfl;obtain⟨o134,aq⟩:=aq;obtain rfl:=aq.nil;clear aq;replace hv122:o122=some _:=hv122;subst hv122;refine aj (ah rfl (vQ 1 rfl (nT (aj (aG rfl (fun h123=>?_) (fun h123=>?_))))))
  ·refine aH (ad (aj (aM (aj (ah rfl (vQ 2 rfl (nS rfl (vQ 1 rfl (aa rfl (du hp rfl) rfl (bK hp rfl rfl rfl (k:=3) (by kernel_rfl) (lb rfl) (fun _=>rfl) (fun p127 hp127=>?_)))))))))));refine aa rfl (M9 ar hp127 rfl rfl) rfl (vQ 1 rfl ?_);obtain⟨x130,hx130,hi130⟩:=cm h123;refine MT (e:=82) (m:=4) hk hx130 rfl rfl rfl rfl (fun p130 vs130 hp130 hl130 hr130=>?_);have hr130raw:=hr130;refine vQ 1 rfl (bf rfl (MX rfl rfl rfl) (fun _=>rfl) (ih x130 _ _ hp130 hl130 hr130raw _ _ ar) (fun σ ar=>?_));refine aa rfl (cN rfl) rfl (nT (aG rfl (fun h133=>?_) (fun h133=>?_)))
   ·refine aj (ah rfl (vQ 1 rfl (nT (aC (aB (av (bk (aB (av (?_))))))))));exact ay rfl rfl ⟨cB (by rw[gp hx130 (bM h133)];simp only[aX,fc];(try rw[<-hE]);simp only[h9,h35,h76,h70,h101,h108,h116,ct,cf]<;>rfl),ar⟩
   refine aH (aE (ad (ah rfl (vQ 2 rfl (af (aN ⟨j14-1,by omega,(by(iterate 29 refine oP rfl ?_);exact oR _ _),i+1,by omega,eG ha hx130 (bx h133),cI (ba (by have:=hk.bA;omega)),ar⟩))))))
  refine bn (aS (aV (aO (ad (aj (ah rfl (vQ 1 rfl (nT (aC ?_)))))))));exact ay rfl rfl ⟨cB (by rw[dC ha (br h123)];simp only[aX,fc];(try rw[<-hE]);simp only[h9,h35,h76,h70,h101,h108,h116,ct,cf]<;>rfl),ar⟩
 refine aj (ah rfl (vQ 1 rfl (aa rfl (du hp rfl) rfl (bK hp rfl rfl rfl (k:=0) (by kernel_rfl) (lb rfl) (fun _=>rfl) (fun p86 hp86=>?_)))));refine aa rfl (M9 ar hp86 rfl rfl) rfl (vQ 1 rfl (ky rfl (an rfl) (fun h89=>?_) (fun h89=>?_)))
 ·refine vQ 7 rfl (nT (aF rfl (aj (ah rfl (vQ 1 rfl (nT (aC (aB (av (?_))))))))));exact ay rfl rfl ⟨cB (by simp only[aX,fc];(try rw[<-hE]);simp only[h9,h35,h76,h70,h89,ct,cf]<;>rfl),ar⟩
 refine vQ 1 rfl (aa rfl (du hp rfl) rfl (bK hp rfl rfl rfl (k:=0) (by kernel_rfl) (lb rfl) (fun _=>rfl) (fun p92 hp92=>?_)));refine aa rfl (M9 ar hp92 rfl rfl) rfl (vQ 3 rfl (nT (aG rfl (fun h83=>?_) (fun h83=>?_))))
 ·refine aj (ah rfl (vQ 1 rfl (nT (aC (aB (av (?_)))))));exact ay rfl rfl ⟨cB (by simp only[aX,fc];(try rw[<-hE]);simp only[h9,h35,h76,h70,h89,h83,ct,cf]<;>rfl),ar⟩
 refine aH (aE (ad (aj (aj (ah rfl (vQ 1 rfl (aa rfl (du hp rfl) rfl (bK hp rfl rfl rfl (k:=1) (by kernel_rfl) (lb rfl) (fun _=>rfl) (fun p98 hp98=>?_)))))))));refine aa rfl (M9 ar hp98 rfl rfl) rfl (vQ 1 rfl (ky rfl (an rfl) (fun h101=>?_) (fun h101=>?_)))
 ·refine vQ 15 rfl (nT (aF rfl (aj (ah rfl (vQ 1 rfl (nT (aC (av (?_)))))))));exact ay rfl rfl ⟨cB (by simp only[aX,fc];(try rw[<-hE]);simp only[h9,h35,h76,h70,h89,h83,h101,ct,cf]<;>rfl),ar⟩
 refine vQ 1 rfl (aa rfl (du hp rfl) rfl (bK hp rfl rfl rfl (k:=2) (by kernel_rfl) (lb rfl) (fun _=>rfl) (fun p104 hp104=>?_)));refine aa rfl (M9 ar hp104 rfl rfl) rfl (vQ 2 rfl (ky rfl (an rfl) (fun h108=>?_) (fun h108=>?_)))
 ·refine vQ 8 rfl (nT (aF rfl (aj (ah rfl (vQ 1 rfl (nT (aC (av (?_)))))))));exact ay rfl rfl ⟨cB (by simp only[aX,fc];(try rw[<-hE]);simp only[h9,h35,h76,h70,h89,h83,h101,h108,ct,cf]<;>rfl),ar⟩
 refine vQ 1 rfl (aa rfl (du hp rfl) rfl (bK hp rfl rfl rfl (k:=3) (by kernel_rfl) (lb rfl) (fun _=>rfl) (fun p111 hp111=>?_)));refine aa rfl (M9 ar hp111 rfl rfl) rfl (aa rfl (M6 hk rfl rfl rfl (e:=82) rfl) rfl (vQ 3 rfl (nT (aG rfl (fun h116=>?_) (fun h116=>?_)))))
 ·refine aj (ah rfl (vQ 1 rfl (nT (aC (av (?_))))));exact ay rfl rfl ⟨cB (by simp only[aX,fc];(try rw[<-hE]);simp only[h9,h35,h76,h70,h89,h83,h101,h108,h116,ct,cf]<;>rfl),ar⟩
 refine aH (ad (aj (aj (ah rfl (vQ 1 rfl (aa rfl (du hp rfl) rfl (bK hp rfl rfl rfl (k:=3) (by kernel_rfl) (lb rfl) (fun _=>rfl) (fun p119 hp119=>?_))))))));refine aa rfl (M9 ar hp119 rfl rfl) rfl (aa rfl (M6 hk rfl rfl rfl (e:=82) rfl) rfl (vQ 1 rfl (nT (aM ?_))));obtain⟨LL3,ar,hLL3⟩:=ar.named;refine bg [4,8,122,123,124,125,126,127,128,129,130,131,132,133,134] (fun j t σ=>∃(i:Nat),j+i=kids.length/\(kids.take i).all (dG aP k)=true/\t.get 122=some (.int .i64 (.ofNat i))/\St σ K LL3) (kids.length) ⟨0,rfl,rfl,rfl,ar⟩ ?_;clear ar;intro j14 t σ aq hI;obtain⟨i,hj,ha,hv122,ar⟩:=hI;subst hLL3;replace aq:=aq.bR rfl rfl;obtain⟨o4,o8,o122,o123,o124,o125,o126,o127,aq⟩:=aq;replace aq:=aq.mg rfl;obtain⟨o128,o129,o130,o131,aq⟩:=aq;replace aq:=aq.dI rfl;obtain⟨o132,aq⟩:=aq;replace aq:=aq.dI rfl;obtain⟨o133,aq⟩:=aq;replace aq:=aq.dI rfl;obtain⟨o134,aq⟩:=aq;obtain rfl:=aq.nil;clear aq;replace hv122:o122=some _:=hv122;subst hv122;refine aj (ah rfl (vQ 1 rfl (nT (aj (aG rfl (fun h123=>?_) (fun h123=>?_))))))
 ·refine aH (ad (aj (aM (aj (ah rfl (vQ 2 rfl (nS rfl (vQ 1 rfl (aa rfl (du hp rfl) rfl (bK hp rfl rfl rfl (k:=3) (by kernel_rfl) (lb rfl) (fun _=>rfl) (fun p127 hp127=>?_)))))))))));refine aa rfl (M9 ar hp127 rfl rfl) rfl (vQ 1 rfl ?_);obtain⟨x130,hx130,hi130⟩:=cm h123;refine MT (e:=82) (m:=4) hk hx130 rfl rfl rfl rfl (fun p130 vs130 hp130 hl130 hr130=>?_);have hr130raw:=hr130;refine vQ 1 rfl (bf rfl (MX rfl rfl rfl) (fun _=>rfl) (ih x130 _ _ hp130 hl130 hr130raw _ _ ar) (fun σ ar=>?_));refine aa rfl (cN rfl) rfl (nT (aG rfl (fun h133=>?_) (fun h133=>?_)))
  ·refine aj (ah rfl (vQ 1 rfl (nT (aC (aB (av (bk (aB (av (?_))))))))));exact ay rfl rfl ⟨cB (by rw[gp hx130 (bM h133)];simp only[aX,fc];(try rw[<-hE]);simp only[h9,h35,h76,h70,h89,h83,h101,h108,h116,ct,cf]<;>rfl),ar⟩
  refine aH (aE (ad (ah rfl (vQ 2 rfl (af (aN ⟨j14-1,by omega,(by(iterate 29 refine oP rfl ?_);exact oR _ _),i+1,by omega,eG ha hx130 (bx h133),cI (ba (by have:=hk.bA;omega)),ar⟩))))))
 refine bn (aS (aV (aO (ad (aj (ah rfl (vQ 1 rfl (nT (aC ?_)))))))));exact ay rfl rfl ⟨cB (by rw[dC ha (br h123)];simp only[aX,fc];(try rw[<-hE]);simp only[h9,h35,h76,h70,h89,h83,h101,h108,h116,ct,cf]<;>rfl),ar⟩
def CB (h:jI):List AV:=[.bool h.ny,.bool h.loc,.bool h.order,.bool h.to,.int .i64 (.ofNat h.exprs)]
def yQ:List AV:=hJ.flatMap CB
structure tS (G:Cx) (K:KP):Prop where
 gl:Nat.ble 1 G.gl=true
 sh:∃e ro,K (posOf 0) (.row yQ e ro)
theorem tS.mono {G:Cx} {K K':KP} (h:tS G K) (hk:KP.le K K'):tS G K':=⟨h.gl,let ⟨e,ro,hh⟩:=h.sh;⟨e,ro,hk _ _ hh⟩⟩
theorem lG {b c:Bool} (h:(!b)=c):(bif b then false else true)=c:=by cases b<;>exact h
theorem Ly {n:Nat} {h:jI} (hh:hJ[n]?=some h):List.take 5 (List.drop (0+n*5) yQ)=CB h:=by
 have hn:n<14:=(gA.1 hh).1
 match n,hn with
 | 0,_ | 1,_ | 2,_ | 3,_ | 4,_ | 5,_ | 6,_ | 7,_ | 8,_ | 9,_ | 10,_ | 11,_ | 12,_ | 13,_=>cases hh;rfl
theorem Lz {x:Int} (h1:bG x 1=false) (h2:bG 13 x=false):∃(n:Nat) (h:jI),x= .ofNat n/\n<14/\hJ[n]?=some h:=by
 rw[eo,decide_eq_false_iff_not] at h1 h2;refine⟨x.toNat,hJ[x.toNat]'(by show x.toNat<14;omega),by show x=((x.toNat:Nat):Int);omega,by omega,gC _⟩
theorem Fb {aP nins:Int} {k n:Nat} {x:XI} {h:jI} (h1:bG x.kind 1=false) (h2:bG 13 x.kind=false) (hn:x.kind= .ofNat n) (hh:hJ[n]?=some h):eX aP nins k x=fG aP nins k x h:=by
 unfold eX;rw[h1,h2,hn];show(match hJ[n]? with | some h=>_ | none=>false)=_;rw[hh]
theorem Iu {G:Cx} {t:PT AV} {g:Nat} (h:Nat.ble (Nat.succ g) G.gl=true):bo G t (.global g)=some (.ptr (posOf g) 0):=by
 show(bif Nat.ble (Nat.succ g) G.gl then _ else _)=_;rw[h];rfl
theorem Jh {G:Cx} (hG:Plain G) {K:KP} (hgl:tS G K) {k:Nat} {c:XC} {x:XI} {v:AV} {vs:List AV} {p:AV} (hi:bJ K 6 (gK K k) c.ins v) (hp:gi K p vs) (h:gK K k x vs) {σ:aD} {L:Own} (ar:St σ K L):
  bp Tryz.prog G 165 [.agg [.int .i64 c.aP,v],p] σ fun v σ'=>v= .bool (eX c.aP (.ofNat c.ins.length) k x)/\St σ' K L:=by
 obtain⟨w,rfl,hk⟩:=h;refine bh hG Tryz.func165 rfl (t:=(PT.leaf.put (some (.agg [.int .i64 c.aP,v])) 0).put (some (p)) 1) (by rfl) (aj (ah rfl (kp ar rfl (cK rfl rfl) (fun σ b1 ar=>?_))));refine vQ 1 rfl (nT (aj (aj (ah rfl (vQ 1 rfl (aa rfl (du hp rfl) rfl (bK hp rfl rfl rfl (k:=0) (by kernel_rfl) (lb rfl) (fun _=>rfl) (fun p9 hp9=>?_))))))));refine aa rfl (M9 ar hp9 rfl rfl) rfl (vQ 1 rfl (ky rfl (an rfl) (fun h12=>?_) (fun h12=>?_)))
 ·refine vQ 6 rfl (nT (aF rfl (aj (ah rfl (vQ 1 rfl (nT (aC (av (?_)))))))));exact ay rfl rfl ⟨cB (by unfold eX;rw[h12];rfl),ar.pop⟩
 refine vQ 1 rfl (aa rfl (du hp rfl) rfl (bK hp rfl rfl rfl (k:=0) (by kernel_rfl) (lb rfl) (fun _=>rfl) (fun p15 hp15=>?_)));refine aa rfl (M9 ar hp15 rfl rfl) rfl (vQ 2 rfl (nT (aG rfl (fun h18=>?_) (fun h18=>?_))))
 ·refine aj (ah rfl (vQ 1 rfl (nT (aC (av (?_))))));exact ay rfl rfl ⟨cB (by unfold eX;rw[h12,show bG 13 x.kind=true from h18];rfl),ar.pop⟩
 have h17x:bG 13 x.kind=false:=h18;refine aH (ad (aj (ah rfl (vQ 1 rfl (aa rfl (du hp rfl) rfl (bK hp rfl rfl rfl (k:=0) (by kernel_rfl) (lb rfl) (fun _=>rfl) (fun p21 hp21=>?_)))))));refine aa rfl (M9 ar hp21 rfl rfl) rfl ?_;obtain⟨kn,sh,hkn,hkl,hsh⟩:=Lz h12 h17x;obtain⟨eg,rog,hrow⟩:=hgl.sh;have hRX:=Fb (aP:=c.aP) (nins:=.ofNat c.ins.length) (k:=k) h12 h17x hkn hsh;refine aa rfl (HE (n:=14) (e:=264) (m:=5) (by kernel_rfl) (by kernel_rfl) (Iu hgl.gl) (show _=some (AV.int .i64 (.ofNat kn)) from cI hkn) hkl) rfl (aa rfl (bj rfl (ar.eW hrow) (n:=5) (vs:=CB sh) (by kernel_rfl) (by show 0+kn*5+5<=70;omega) (Ly hsh)) rfl (kp ar rfl (M8 (cs:=[.bool false,.bool false,.bool false,.bool false,iZ])) (fun σ b2 ar=>?_)));refine bO ar rfl (Nb rfl rfl rfl ar.g0 (m:=5) rfl rfl (cells':=[_,_,_,_,_]) rfl) rfl (fun σ ar=>?_);refine nT (aj (aj (aU (l:=[(0,[]),(1,[]),(2,[]),(3,[]),(4,[]),(5,[]),(6,[]),(7,[]),(8,[]),(9,[]),(10,[]),(11,[]),(12,[]),(13,[]),(14,[]),(15,[]),(16,[]),(17,[]),(18,[]),(19,[]),(20,[]),(21,[]),(22,[]),(23,[]),(24,[]),(25,[]),(26,[]),(27,[]),(28,[]),(29,[]),(30,[]),(31,[]),(32,[]),(33,[]),(34,[]),(35,[]),(36,[]),(37,[]),(38,[]),(39,[]),(40,[]),(41,[]),(42,[])]) (by kernel_rfl) (by kernel_rfl) (wQ 1 rfl (al rfl rfl (du hp rfl) rfl (jg hp rfl rfl rfl rfl (k:=1) (by kernel_rfl) (lb rfl) (fun _=>rfl) (fun p27 hp27=>?_)))))));refine al rfl rfl (M9 ar hp27 rfl rfl) rfl (al rfl rfl (MY 0 rfl) rfl (al rfl rfl (MZ rfl ar.g1 rfl) rfl (al rfl rfl (MY 0 rfl) rfl (al rfl rfl (MZ rfl ar.g0 rfl) rfl (cR rfl rfl (MX rfl rfl rfl) (fun _=>rfl) (rU hG _ _ _ _ ar) (fun σ ar=>?_))))));refine⟨bc,?_⟩;refine al rfl rfl (cN rfl) rfl (dY rfl rfl (an rfl) (fun _=>rfl) (fun h35=>?_) (fun h35=>?_))
 ·refine wQ 32 rfl (aZ (ad (aF rfl (aj (ah rfl (vQ 1 rfl (nT (aC (av (?_))))))))));exact ay rfl rfl ⟨cB (by rw[hRX];unfold fG;simp only[aX];simp only[lG h35,ct,cf]<;>rfl),ar.pop.pop⟩
 refine wQ 1 rfl (al rfl rfl (du hp rfl) rfl (jg hp rfl rfl rfl rfl (k:=2) (by kernel_rfl) (lb rfl) (fun _=>rfl) (fun p38 hp38=>?_)));refine al rfl rfl (M9 ar hp38 rfl rfl) rfl (al rfl rfl (MY 1 rfl) rfl (al rfl rfl (MZ rfl ar.g0 rfl) rfl (cR rfl rfl (MX rfl rfl rfl) (fun _=>rfl) (rU hG _ _ _ _ ar) (fun σ ar=>?_))));refine⟨bc,?_⟩;refine al rfl rfl (cN rfl) rfl (wQ 1 rfl (dY rfl rfl (an rfl) (fun _=>rfl) (fun h45=>?_) (fun h45=>?_)))
 ·refine wQ 22 rfl (aZ (ad (aF rfl (aj (ah rfl (vQ 1 rfl (nT (aC (av (?_))))))))));exact ay rfl rfl ⟨cB (by rw[hRX];unfold fG;simp only[aX];simp only[lG h35,lG h45,ct,cf]<;>rfl),ar.pop.pop⟩
 refine wQ 1 rfl (al rfl rfl (du hp rfl) rfl (jg hp rfl rfl rfl rfl (k:=3) (by kernel_rfl) (lb rfl) (fun _=>rfl) (fun p48 hp48=>?_)));refine al rfl rfl (M9 ar hp48 rfl rfl) rfl (al rfl rfl (MY 2 rfl) rfl (al rfl rfl (MZ rfl ar.g0 rfl) rfl (cR rfl rfl (MX rfl rfl rfl) (fun _=>rfl) (rU hG _ _ _ _ ar) (fun σ ar=>?_))));refine⟨bc,?_⟩;refine al rfl rfl (cN rfl) rfl (wQ 1 rfl (dY rfl rfl (an rfl) (fun _=>rfl) (fun h55=>?_) (fun h55=>?_)))
 ·refine wQ 12 rfl (aZ (ad (aF rfl (aj (ah rfl (vQ 1 rfl (nT (aC (av (?_))))))))));exact ay rfl rfl ⟨cB (by rw[hRX];unfold fG;simp only[aX];simp only[lG h35,lG h45,lG h55,ct,cf]<;>rfl),ar.pop.pop⟩
 refine wQ 1 rfl (al rfl rfl (du hp rfl) rfl (jg hp rfl rfl rfl rfl (k:=4) (by kernel_rfl) (lb rfl) (fun _=>rfl) (fun p58 hp58=>?_)));refine al rfl rfl (M9 ar hp58 rfl rfl) rfl (al rfl rfl (MY 1 rfl) rfl (al rfl rfl (MZ rfl ar.g1 rfl) rfl (al rfl rfl (M6 hi rfl rfl rfl (e:=79) rfl) rfl (al rfl rfl (MY 3 rfl) rfl (al rfl rfl (MZ rfl ar.g0 rfl) rfl (cR rfl rfl (MX rfl rfl rfl) (fun _=>rfl) (rU hG _ _ _ _ ar) (fun σ ar=>?_)))))));refine⟨bc,?_⟩;refine al rfl rfl (cN rfl) rfl (wQ 1 rfl (aZ (ad (aG rfl (fun h67=>?_) (fun h67=>?_)))))
 ·refine aj (ah rfl (vQ 1 rfl (nT (aC (av (?_))))));exact ay rfl rfl ⟨cB (by rw[hRX];unfold fG;simp only[aX];simp only[lG h35,lG h45,lG h55,lG h67,ct,cf]<;>rfl),ar.pop.pop⟩
 refine aH (ad (aj (aj (aU (l:=[(0,[]),(1,[]),(2,[]),(3,[]),(4,[]),(5,[]),(6,[]),(7,[])]) (by kernel_rfl) (by kernel_rfl) (wQ 1 rfl (al rfl rfl (du hp rfl) rfl (jg hp rfl rfl rfl rfl (k:=5) (by kernel_rfl) (lb rfl) (fun _=>rfl) (fun p70 hp70=>?_))))))));refine al rfl rfl (M9 ar hp70 rfl rfl) rfl (al rfl rfl (M6 hk rfl rfl rfl (e:=82) rfl) rfl (al rfl rfl (MY 4 rfl) rfl (al rfl rfl (MZ rfl ar.g0 rfl) rfl (wQ 1 rfl (aZ (ad (aG rfl (fun h75=>?_) (fun h75=>?_))))))))
 ·refine aj (ah rfl (vQ 1 rfl (nT (aC (av (?_))))));exact ay rfl rfl ⟨cB (by rw[hRX];unfold fG;simp only[aX];simp only[lG h35,lG h45,lG h55,lG h67,h75,ct,cf]<;>rfl),ar.pop.pop⟩
 refine aH (ad (aj (aj (ah rfl (vQ 1 rfl (aa rfl (du hp rfl) rfl (bK hp rfl rfl rfl (k:=5) (by kernel_rfl) (lb rfl) (fun _=>rfl) (fun p78 hp78=>?_))))))));refine aa rfl (M9 ar hp78 rfl rfl) rfl (aa rfl (M6 hk rfl rfl rfl (e:=82) rfl) rfl (vQ 1 rfl (nT (aM ?_))));obtain⟨LL1,ar,hLL1⟩:=ar.named;refine bg [4,6,81,82,83,84,85,86,87,88,89,90,91,92,93,94] (fun j t σ=>∃(i:Nat),j+i=x.exprs.length/\(x.exprs.take i).all (dG c.aP k)=true/\t.get 81=some (.int .i64 (.ofNat i))/\St σ K LL1) (x.exprs.length) ⟨0,rfl,rfl,rfl,ar⟩ ?_;clear ar;intro j9 t σ aq hI;obtain⟨i,hj,ha,hv81,ar⟩:=hI;subst hLL1;obtain⟨o4,o6,o81,o82,o83,o84,o85,o86,o87,o88,o89,o90,o91,o92,o93,o94,aq⟩:=aq.L4 rfl rfl rfl rfl;obtain rfl:=aq.nil;clear aq;replace hv81:o81=some _:=hv81;subst hv81;refine aj (ah rfl (vQ 1 rfl (nT (aj (aG rfl (fun h82=>?_) (fun h82=>?_))))))
 ·refine aH (ad (aj (aM (aj (ah rfl (vQ 2 rfl (nT (aj (aU (l:=[(0,[]),(1,[]),(2,[]),(3,[]),(4,[]),(5,[]),(6,[]),(7,[]),(8,[]),(9,[])]) (by kernel_rfl) (by kernel_rfl) (wQ 1 rfl (al rfl rfl (du hp rfl) rfl (jg hp rfl rfl rfl rfl (k:=5) (by kernel_rfl) (lb rfl) (fun _=>rfl) (fun p86 hp86=>?_)))))))))))));refine al rfl rfl (M9 ar hp86 rfl rfl) rfl (wQ 1 rfl ?_);obtain⟨x89,hx89,hi89⟩:=cm h82;refine MU (e:=82) (m:=4) hk hx89 rfl rfl rfl rfl rfl (fun p89 vs89 hp89 hl89 hr89=>?_);have hr89rawx:=hr89;refine al rfl rfl (MY 0 rfl) rfl (al rfl rfl (MZ rfl ar.g1 rfl) rfl (cR rfl rfl (MX rfl rfl rfl) (fun _=>rfl) (Bc hG _ _ _ _ _ hp89 hl89 hr89rawx _ _ ar) (fun σ ar=>?_)));refine⟨bc,?_⟩;refine al rfl rfl (cN rfl) rfl (aZ (ad (aG rfl (fun h93=>?_) (fun h93=>?_))))
  ·refine aj (ah rfl (vQ 1 rfl (nT (aC (aB (av (bk (aB (av (?_))))))))));exact ay rfl rfl ⟨cB (by rw[hRX];unfold fG;rw[gp hx89 (mT h93)];simp only[aX];simp only[lG h35,lG h45,lG h55,lG h67,h75,ct,cf]<;>rfl),ar.pop.pop⟩
  refine aH (aE (ad (ah rfl (vQ 2 rfl (af (aN ⟨j9-1,by omega,(by(iterate 31 refine oP rfl ?_);exact oR _ _),i+1,by omega,eG ha hx89 (fU h93),cI (ba (by have:=hk.bA;omega)),ar⟩))))))
 refine bn (aS (aV (aO (ad (aj (ah rfl (vQ 1 rfl (nT (aC ?_)))))))));exact ay rfl rfl ⟨cB (by rw[hRX];unfold fG;rw[dC ha (br h82)];simp only[aX];simp only[lG h35,lG h45,lG h55,lG h67,h75,ct,cf]<;>rfl),ar.pop.pop⟩
theorem xG {G:Cx} (hG:Plain G) {K:KP} (hgl:tS G K) {k:Nat} {c:XC} {v:AV} (hi:bJ K 6 (gK K k) c.ins v) {σ:aD} {L:Own} (ar:St σ K L):
  bp Tryz.prog G 112 [.agg [.int .i64 c.aP,v]] σ fun v σ'=>v= .int .i64 (cQ k c)/\St σ' K L:=by
 refine bh hG Tryz.func112 rfl (t:=PT.leaf.put (some (.agg [.int .i64 c.aP,v])) 0) (by rfl) (aj (ah rfl (kp ar rfl (cK rfl rfl) (fun σ b1 ar=>?_))));refine vQ 1 rfl (nT (aj (aj (ah rfl (aa rfl (MY 0 rfl) rfl (aa rfl (MZ rfl ar.g0 rfl) rfl (vQ 1 rfl (ky rfl (an rfl) (fun h10=>?_) (fun h10=>?_)))))))))
 ·refine vQ 5 rfl (nT (aF rfl (aj (ah rfl (vQ 1 rfl (nT (aC (av (?_)))))))));exact ay rfl rfl ⟨cJ (by symm;unfold cQ;rw[h10];rfl),ar.pop⟩
 refine aa rfl (MY 1 rfl) rfl (aa rfl (MZ rfl ar.g0 rfl) rfl (aa rfl (M6 hi rfl rfl rfl (e:=79) rfl) rfl (vQ 2 rfl (nT (aG rfl (fun h15=>?_) (fun h15=>?_))))))
 ·refine aj (ah rfl (vQ 1 rfl (nT (aC (av (?_))))));exact ay rfl rfl ⟨cJ (by symm;unfold cQ;rw[h10,show bG 4000 (.ofNat c.ins.length)=true from h15];rfl),ar.pop⟩
 have h15x:bG 4000 (.ofNat c.ins.length)=false:=h15;refine aH (ad (aj (aj (ah rfl (aa rfl (MY 1 rfl) rfl (aa rfl (MZ rfl ar.g0 rfl) rfl (aa rfl (M6 hi rfl rfl rfl (e:=79) rfl) rfl (vQ 1 rfl (nT (aM ?_))))))))));obtain⟨LL1,ar,hLL1⟩:=ar.named;refine bg [2,3,4,5,19,20,21,22,23,24,25,26,27,28,29,30,31,32,33,34,35,36,37,38,39,40,41,42,43] (fun j t σ=>∃(i:Nat),j+i=c.ins.length/\(c.ins.take i).all (sK k)=true/\t.get 19=some (.int .i64 (.ofNat i))/\St σ K LL1) (c.ins.length) ⟨0,rfl,rfl,rfl,ar⟩ ?_;clear ar;intro j4 t σ aq hI;obtain⟨i,hj4,ha4,hv19,ar⟩:=hI;subst hLL1;obtain⟨o2,o3,o4,o5,o19,o20,o21,o22,o23,o24,o25,o26,o27,o28,o29,o30,aq⟩:=aq.L4 rfl rfl rfl rfl;replace aq:=aq.bR rfl rfl;obtain⟨o31,o32,o33,o34,o35,o36,o37,o38,aq⟩:=aq;replace aq:=aq.mg rfl;obtain⟨o39,o40,o41,o42,aq⟩:=aq;replace aq:=aq.dI rfl;obtain⟨o43,aq⟩:=aq;obtain rfl:=aq.nil;clear aq;replace hv19:o19=some _:=hv19;subst hv19;refine aj (ah rfl (vQ 1 rfl (nT (aj (aG rfl (fun h20=>?_) (fun h20=>?_))))))
 ·refine aH (ad (aj (aM (aj (ah rfl (vQ 2 rfl (nS rfl (aa rfl (MY 1 rfl) rfl (aa rfl (MZ rfl ar.g0 rfl) rfl (vQ 1 rfl ?_))))))))));obtain⟨x25,hx25,hi25⟩:=cm h20;refine MT (e:=79) (m:=6) hi hx25 rfl rfl rfl rfl (fun p25 vs25 hp25 hl25 hr25=>?_);have hr25rawx:=hr25;have hr25':=hr25;obtain⟨v25,rfl,hk25⟩:=hr25';refine bK hp25 rfl rfl rfl (k:=5) (by kernel_rfl) (lb rfl) (fun _=>rfl) (fun p26 hp26=>?_);refine aa rfl (M9 ar hp26 rfl rfl) rfl (aa rfl (M6 hk25 rfl rfl rfl (e:=82) rfl) rfl (vQ 1 rfl (nT (aM ?_))));obtain⟨LL2,ar,hLL2⟩:=ar.named;refine bg [2,4,5,29,30,31,32,33,34,35,36,37,38,39,40,41,42] (fun j t σ=>∃(i2:Nat),j+i2=x25.exprs.length/\(x25.exprs.take i2).all (fun e=>(kb k e 1 0).isSome)=true/\t.get 29=some (.int .i64 (.ofNat i2))/\St σ K LL2) (x25.exprs.length) ⟨0,rfl,rfl,rfl,ar⟩ ?_;clear ar;intro j7 t σ aq hI;obtain⟨i2,hj7,ha7,hv29,ar⟩:=hI;subst hLL2;obtain⟨o2,o4,o5,o29,o30,o31,o32,o33,o34,o35,o36,o37,o38,o39,o40,o41,aq⟩:=aq.L4 rfl rfl rfl rfl;replace aq:=aq.dI rfl;obtain⟨o42,aq⟩:=aq;obtain rfl:=aq.nil;clear aq;replace hv29:o29=some _:=hv29;subst hv29;refine aj (ah rfl (vQ 1 rfl (nT (aj (aG rfl (fun h30=>?_) (fun h30=>?_))))))
  ·refine aH (ad (aj (aM (aj (ah rfl (vQ 2 rfl (nS rfl (kp ar rfl (M8 (cs:=[iZ])) (fun σ b2 ar=>?_)))))))));refine bO ar rfl (Nb rfl rfl rfl ar.g0 (m:=1) rfl rfl (cells':=[_]) rfl) rfl (fun σ ar=>?_);refine nS rfl (aa rfl (MY 1 rfl) rfl (aa rfl (MZ rfl ar.g1 rfl) rfl (vQ 1 rfl (MT (e:=79) (m:=6) hi hx25 rfl rfl rfl rfl (fun p35 vs35 hp35 hl35 hr35=>?_)))));have hr35rawx:=hr35;have hr35':=hr35;obtain⟨v35,rfl,hk35⟩:=hr35';refine bK hp35 rfl rfl rfl (k:=5) (by kernel_rfl) (lb rfl) (fun _=>rfl) (fun p36 hp36=>?_);refine aa rfl (M9 ar hp36 rfl rfl) rfl (vQ 1 rfl ?_);obtain⟨x39,hx39,hi39⟩:=cm h30;refine MT (e:=82) (m:=4) hk35 hx39 rfl rfl rfl rfl (fun p39 vs39 hp39 hl39 hr39=>?_);have hr39rawx:=hr39;refine dF rfl (MX rfl rfl rfl) (fun _=>rfl) (Ji hG _ _ _ _ hp39 hl39 hr39rawx _ _ _ _ _ _ ar) ?_;rintro _ σ ⟨m2,rfl,ar,hm2⟩;refine aa rfl (cN rfl) rfl (nT (aG rfl (fun h41=>?_) (fun h41=>?_)))
   ·refine aj (ah rfl (vQ 1 rfl (nT (aC (aB (av (bk (aB (aB (av (bk (aB (av (?_))))))))))))));exact ay rfl rfl ⟨cJ (by symm;unfold cQ;rw[h10,show bG 4000 (.ofNat c.ins.length)=false from h15x,gp hx25 (show sK k x25=false from gp hx39 (mT h41))];rfl),ar.pop.pop⟩
   refine aH (aE (ad (ah rfl (vQ 2 rfl (af ?_)))));have ar:=ar.pop;refine aN ⟨j7-1,by omega,(by(iterate 33 refine oP rfl ?_);exact oR _ _),i2+1,by omega,eG ha7 hx39 (fU h41),cI (ba (by have:=hk25.bA;omega)),ar⟩
  refine bn (aS (aV (aO (aE (ad (ah rfl (vQ 2 rfl (af (aN ⟨j4-1,by omega,(by(iterate 60 refine oP rfl ?_);exact oR _ _),i+1,by omega,eG ha4 hx25 (show sK k x25=true from dC ha7 (br h30)),cI (ba (by have:=hi.bA;omega)),ar⟩)))))))))
 refine bn (aS (aV (aO (ad (aj (aj (ah rfl (aa rfl (MY 0 rfl) rfl (aa rfl (MZ rfl ar.g0 rfl) rfl (vQ 1 rfl (ky rfl (an rfl) (fun h47=>?_) (fun h47=>?_))))))))))))
 ·refine vQ 5 rfl (nT (aF rfl (aj (ah rfl (vQ 1 rfl (nT (aC (av (?_)))))))));exact ay rfl rfl ⟨cJ (by symm;unfold cQ;rw[h10,show bG 4000 (.ofNat c.ins.length)=false from h15x,dC ha4 (br h20),h47];rfl),ar.pop⟩
 refine aa rfl (MY 1 rfl) rfl (aa rfl (MZ rfl ar.g0 rfl) rfl (aa rfl (M6 hi rfl rfl rfl (e:=79) rfl) rfl (vQ 2 rfl (nT (aG rfl (fun h52=>?_) (fun h52=>?_))))))
 ·refine aj (ah rfl (vQ 1 rfl (nT (aC (av (?_))))));exact ay rfl rfl ⟨cJ (by symm;unfold cQ;rw[h10,show bG 4000 (.ofNat c.ins.length)=false from h15x,dC ha4 (br h20),h47,show bq (.ofNat c.ins.length) 0=true from h52];rfl),ar.pop⟩
 have h52x:bq (.ofNat c.ins.length) 0=false:=h52;refine aH (ad (aj (aj (ah rfl (aa rfl (MY 1 rfl) rfl (aa rfl (MZ rfl ar.g0 rfl) rfl (aa rfl (M6 hi rfl rfl rfl (e:=79) rfl) rfl (vQ 1 rfl (nT (aM ?_))))))))));obtain⟨LL3,ar,hLL3⟩:=ar.named;refine bg [2,6,56,57,58,59,60,61,62,63,64,65,66] (fun j t σ=>∃(i:Nat),j+i=c.ins.length/\(c.ins.take i).all (eX c.aP (.ofNat c.ins.length) k)=true/\t.get 56=some (.int .i64 (.ofNat i))/\St σ K LL3) (c.ins.length) ⟨0,rfl,rfl,rfl,ar⟩ ?_;clear ar;intro j17 t σ aq hI;obtain⟨i,hj17,ha17,hv56,ar⟩:=hI;subst hLL3;replace aq:=aq.bR rfl rfl;obtain⟨o2,o6,o56,o57,o58,o59,o60,o61,aq⟩:=aq;replace aq:=aq.mg rfl;obtain⟨o62,o63,o64,o65,aq⟩:=aq;replace aq:=aq.dI rfl;obtain⟨o66,aq⟩:=aq;obtain rfl:=aq.nil;clear aq;replace hv56:o56=some _:=hv56;subst hv56;refine aj (ah rfl (vQ 1 rfl (nT (aj (aG rfl (fun h57=>?_) (fun h57=>?_))))))
 ·refine aH (ad (aj (aM (aj (ah rfl (vQ 2 rfl (nT (aj (aU (l:=[(0,[]),(1,[]),(2,[]),(3,[]),(4,[]),(5,[]),(6,[])]) (by kernel_rfl) (by kernel_rfl) (al rfl rfl (M5 rfl ar.g0 (n:=2) (vs:=[_,_]) rfl) rfl (al rfl rfl (MY 1 rfl) rfl (al rfl rfl (MZ rfl ar.g0 rfl) rfl ?_))))))))))));refine wQ 1 rfl ?_;obtain⟨x63,hx63,hi63⟩:=cm h57;refine MU (e:=79) (m:=6) hi hx63 rfl rfl rfl rfl rfl (fun p63 vs63 hp63 hl63 hr63=>?_);have hr63rawx:=hr63;have hr63':=hr63;obtain⟨v63,rfl,hk63⟩:=hr63';refine cR rfl rfl (MX rfl rfl rfl) (fun _=>rfl) (Jh hG hgl hi hp63 hr63rawx ar) (fun σ ar=>?_);refine⟨bc,?_⟩;refine al rfl rfl (cN rfl) rfl (aZ (ad (aG rfl (fun h65=>?_) (fun h65=>?_))))
  ·refine aj (ah rfl (vQ 1 rfl (nT (aC (aB (av (bk (aB (av (?_))))))))));exact ay rfl rfl ⟨cJ (by symm;unfold cQ;rw[h10,show bG 4000 (.ofNat c.ins.length)=false from h15x,dC ha4 (br h20),h47,show bq (.ofNat c.ins.length) 0=false from h52x,gp hx63 (mT h65)];rfl),ar.pop⟩
  refine aH (aE (ad (ah rfl (vQ 2 rfl (af (aN ⟨j17-1,by omega,(by(iterate 25 refine oP rfl ?_);exact oR _ _),i+1,by omega,eG ha17 hx63 (fU h65),cI (ba (by have:=hi.bA;omega)),ar⟩))))))
 refine bn (aS (aV (aO (ad (aj (aj (ah rfl (aa rfl (MY 1 rfl) rfl (aa rfl (MZ rfl ar.g0 rfl) rfl (aa rfl (MY 1 rfl) rfl (aa rfl (MZ rfl ar.g0 rfl) rfl (aa rfl (M6 hi rfl rfl rfl (e:=79) rfl) rfl (vQ 1 rfl ?_)))))))))))));have hpos:0<c.ins.length:=by rcases Nat.eq_zero_or_pos c.ins.length with e | e;rw[e] at h52x;cases h52x;exact e
 obtain⟨x73,hx73⟩:=bX (show c.ins.length-1<c.ins.length from by omega);refine MT (e:=79) (m:=6) hi hx73 rfl rfl rfl (cI (rX (b:=1) (by omega) hi.bA)) (fun p73 vs73 hp73 hl73 hr73=>?_);have hr73rawx:=hr73;have hr73':=hr73;obtain⟨v73,rfl,hk73⟩:=hr73';refine bK hp73 rfl rfl rfl (k:=0) (by kernel_rfl) (lb rfl) (fun _=>rfl) (fun p74 hp74=>?_);refine aa rfl (M9 ar hp74 rfl rfl) rfl (nT (aM (aj (aj (ah rfl (ky rfl (az rfl rfl rfl) (fun h77=>?_) (fun h77=>?_)))))))
 ·refine vQ 1 rfl (nT (aF rfl (aH (ad (aF rfl (aj (ah rfl (vQ 1 rfl (nT (aC (aB (av (?_)))))))))))));exact ay rfl rfl ⟨cJ (by symm;unfold cQ;rw[h10,show bG 4000 (.ofNat c.ins.length)=false from h15x,dC ha4 (br h20),h47,show bq (.ofNat c.ins.length) 0=false from h52x,dC ha17 (br h57),hx73];show(bif ft x73 then(0:Int) else 2)=_;unfold ft;rw[h77];rfl),ar.pop⟩
 refine vQ 1 rfl (nT (aI rfl (aj (ah rfl (ky rfl (az rfl rfl rfl) (fun h78=>?_) (fun h78=>?_))))))
 ·refine vQ 1 rfl (nT (aF rfl (aH (ad (aF rfl (aj (ah rfl (vQ 1 rfl (nT (aC (aB (av (?_)))))))))))));exact ay rfl rfl ⟨cJ (by symm;unfold cQ;rw[h10,show bG 4000 (.ofNat c.ins.length)=false from h15x,dC ha4 (br h20),h47,show bq (.ofNat c.ins.length) 0=false from h52x,dC ha17 (br h57),hx73];show(bif ft x73 then(0:Int) else 2)=_;unfold ft;rw[h77,h78];rfl),ar.pop⟩
 refine vQ 1 rfl (nT (aI rfl (ah rfl (ky rfl (az rfl rfl rfl) (fun h79=>?_) (fun h79=>?_)))))
 ·refine vQ 1 rfl (nT (aF rfl (aj (ah rfl (vQ 1 rfl (nT (aC (aB (av (?_))))))))));exact ay rfl rfl ⟨cJ (by symm;unfold cQ;rw[h10,show bG 4000 (.ofNat c.ins.length)=false from h15x,dC ha4 (br h20),h47,show bq (.ofNat c.ins.length) 0=false from h52x,dC ha17 (br h57),hx73];show(bif ft x73 then(0:Int) else 2)=_;unfold ft;rw[h77,h78,h79];rfl),ar.pop⟩
 refine vQ 1 rfl (nT (aI rfl (aH (aE (ad (aj (ah rfl (vQ 1 rfl (nT (aC ?_))))))))));exact ay rfl rfl ⟨cJ (by symm;unfold cQ;rw[h10,show bG 4000 (.ofNat c.ins.length)=false from h15x,dC ha4 (br h20),h47,show bq (.ofNat c.ins.length) 0=false from h52x,dC ha17 (br h57),hx73];show(bif ft x73 then(0:Int) else 2)=_;unfold ft;rw[h77,h78,h79];rfl),ar.pop⟩
theorem Bb {G:Cx} (hG:Plain G) {K:KP} {k:Nat} {x:XI} {a:Nat} (ha:a<9223372036854775807) {vs:List AV} (h:gK K k x vs) {σ:aD} {L:Own} (ar:St σ K L):
  bp Tryz.prog G 216 [.agg vs,.int .i64 (.ofNat a)] σ fun v σ'=>∃M,dh 1 3 dS (fM x a) v M/\St σ' K (M++L):=by
 obtain⟨w,rfl,hk⟩:=h;refine bh hG Tryz.func216 rfl (t:=(PT.leaf.put (some (.agg _)) 0).put (some (.int .i64 (.ofNat a))) 1) (by rfl) (aj (ah rfl (kp ar rfl (cK rfl rfl) (fun σ b1 ar=>?_))));refine vQ 1 rfl (nT (aj (aj (ah rfl (aa rfl (MY 0 rfl) rfl (aa rfl (MZ rfl ar.g0 rfl) rfl (nT (aM (aj (ah rfl (ky rfl (az rfl rfl rfl) (fun h8=>?_) (fun h8=>?_))))))))))))
 ·refine vQ 1 rfl (nT (aF rfl (aj (ah rfl (aa rfl (MY 4 rfl) rfl (aa rfl (MZ rfl ar.g0 rfl) rfl (ib ar rfl (cq (e:=3) (m:=1) (z:=[iZ]) (cs:=[_]) (by kernel_rfl) (by kernel_rfl) (by kernel_rfl) (by kernel_rfl) (bB rfl rfl rfl rfl bT)) (fun _=>rfl) (fun σ b2 ar=>?_))))))));refine vQ 1 rfl (nT (aC (aB (av (?_)))));exact ay rfl rfl ⟨[(b2,_)],by unfold fM;rw[h8];exact fN (xs:=[x.to]) (by simp),ar.sub (.cons_cons _ (.cons _ (.refl _)))⟩
 refine vQ 1 rfl (nT (aI rfl (aj (ah rfl (ky rfl (az rfl rfl rfl) (fun h13=>?_) (fun h13=>?_))))))
 ·refine vQ 1 rfl (nT (aF rfl (aj (ah rfl (vQ 1 rfl (aa rfl (az rfl rfl (show _=some (AV.int .i64 (.ofNat (a+1))) from cI (ba ha))) rfl (aa rfl (MY 4 rfl) rfl (aa rfl (MZ rfl ar.g0 rfl) rfl (ib ar rfl (cq (e:=3) (m:=1) (z:=[iZ]) (cs:=[_,_]) (by kernel_rfl) (by kernel_rfl) (by kernel_rfl) (by kernel_rfl) (bB rfl rfl rfl rfl (bB rfl rfl rfl rfl bT))) (fun _=>rfl) (fun σ b2 ar=>?_))))))))));refine vQ 1 rfl (nT (aC (aB (av (?_)))));exact ay rfl rfl ⟨[(b2,_)],by unfold fM;rw[h8,h13];exact fN (xs:=[.ofNat (a+1),x.to]) (by simp),ar.sub (.cons_cons _ (.cons _ (.refl _)))⟩
 refine vQ 1 rfl (nT (aI rfl (aj (aj (ah rfl (ky rfl (az rfl rfl rfl) (fun h20=>?_) (fun h20=>?_)))))))
 ·refine vQ 1 rfl (nT (aF rfl (aH (ad (aF rfl (aj (ah rfl (vQ 1 rfl (nT (aC (aB (av (?_)))))))))))));exact ay rfl rfl ⟨[],.inl ⟨by unfold fM;rw[h8,h13,h20];rfl,rfl,rfl⟩,ar.pop⟩
 refine vQ 1 rfl (nT (aI rfl (ah rfl (ky rfl (az rfl rfl rfl) (fun h21=>?_) (fun h21=>?_)))))
 ·refine vQ 1 rfl (nT (aF rfl (aj (ah rfl (vQ 1 rfl (nT (aC (aB (av (?_))))))))));exact ay rfl rfl ⟨[],.inl ⟨by unfold fM;rw[h8,h13,h20,h21];rfl,rfl,rfl⟩,ar.pop⟩
 refine vQ 1 rfl (nT (aI rfl (aH (aE (ad (aj (ah rfl (vQ 1 rfl (aa rfl (az rfl rfl (show _=some (AV.int .i64 (.ofNat (a+1))) from cI (ba ha))) rfl (ib ar rfl (cq (e:=3) (m:=1) (z:=[iZ]) (cs:=[_]) (by kernel_rfl) (by kernel_rfl) (by kernel_rfl) (by kernel_rfl) (bB rfl rfl rfl rfl bT)) (fun _=>rfl) (fun σ b2 ar=>?_)))))))))));refine vQ 1 rfl (nT (aC ?_));exact ay rfl rfl ⟨[(b2,_)],by unfold fM;rw[h8,h13,h20,h21];exact fN (xs:=[.ofNat (a+1)]) (by simp),ar.sub (.cons_cons _ (.cons _ (.refl _)))⟩
theorem KO {G:Cx} (hG:Plain G) {K:KP} (x y:Int) {σ:aD} {L:Own} (ar:St σ K L):bp Tryz.prog G 163 [.int .i64 x,.int .i64 y] σ fun v σ'=>v= .bool false/\St σ' K L:=by
 refine bh hG Tryz.func163 rfl (t:=(PT.leaf.put (some (.int .i64 x)) 0).put (some (.int .i64 y)) 1) (by rfl) (aj (ah rfl (vQ 1 rfl (nS rfl (vQ 1 rfl (nT (aC ?_)))))));exact ay rfl rfl ⟨rfl,ar⟩
theorem Hw {G:Cx} (hG:Plain G) {K:KP} {k:Nat} {c:XC} (hc:ew k c) {v:AV} (hi:bJ K 6 (gK K k) c.ins v) {σ:aD} {L:Own} (ar:St σ K L):
  bp Tryz.prog G 162 [.agg [.int .i64 c.aP,v],.func 163 [] []] σ fun v σ'=>∃u M,v= .tuple [u,.bool (fg c).isSome]/\ma 1 3 dS (((fg c).getD []).map .ofNat) u M/\St σ' K (M++L):=by
 have hN:∀i,i<c.ins.length->∀to∈cH c i,to<c.ins.length:=rB hc;have hlen:=hc.len;have hpos:=hc.pos;have htot:=AZ (c:=c);obtain⟨N,hNN⟩:∃N,N=2*total (cH c) c.ins.length+2:=⟨_,rfl⟩;have hO:fg c=wg (cH c) N (wo c.ins.length):=by rw[hNN];rfl
 refine bh hG Tryz.func162 rfl (t:=(PT.leaf.put (some (.agg [.int .i64 c.aP,v])) 0).put (some (.func 163 [] [])) 1) (by rfl) (aj (ah rfl (kp ar rfl (cK rfl rfl) (fun σ b1 ar=>?_))));refine vQ 2 rfl (nS rfl (aa rfl (MY 1 rfl) rfl (aa rfl (MZ rfl ar.g0 rfl) rfl (aa rfl (M6 hi rfl rfl rfl (e:=79) rfl) rfl (ib ar rfl (gF (e:=5) (w:=1) (z:=[gS 0]) (by kernel_rfl) (by kernel_rfl) (by kernel_rfl) (by kernel_rfl) rfl rfl (by omega) (by omega)) (fun _=>rfl) (fun σ b2 ar=>?_))))));rw[gX (f:=gS)] at ar;refine vQ 1 rfl (nS rfl (aa rfl (MY 1 rfl) rfl (aa rfl (MZ rfl ar.g1 rfl) rfl (aa rfl (M6 hi rfl rfl rfl (e:=79) rfl) rfl (ib ar rfl (gF (e:=3) (w:=8) (z:=[gI 0]) (by kernel_rfl) (by kernel_rfl) (by kernel_rfl) (by kernel_rfl) rfl rfl (by omega) (by omega)) (fun _=>rfl) (fun σ b3 ar=>?_))))));rw[gX (f:=gI)] at ar;refine vQ 1 rfl (nS rfl (vQ 1 rfl (nS rfl (vQ 1 rfl (aa rfl (fW (e:=5) (m:=1) (by kernel_rfl) (by kernel_rfl) rfl rfl hpos) rfl (dL ar (.there .here) rfl (aR rfl rfl rfl ar.g1 (m:=1) (by kernel_rfl) rfl (by rw[lM_];simp;omega) rfl (cells':=((List.replicate c.ins.length 0).set 0 1).map (gS)) (eA (f:=gS) (v:=1) (by simp;omega) (by first | omega | rfl))) rfl (fun σ ar=>?_)))))));refine nT (aj (aj (ah rfl (ib ar rfl (cq (e:=3) (m:=1) (z:=[iZ]) (cs:=[_]) (by kernel_rfl) (by kernel_rfl) (by kernel_rfl) (by kernel_rfl) (bB rfl rfl rfl rfl bT)) (fun _=>rfl) (fun σ b4 ar=>?_)))));refine vQ 1 rfl (nT (aM (bg [4,5,8,9,10,11,12,24,25,26,27,28,29,30,31,32,33,34,35,36,37,38,39,40,41,42,43,44,45,46,47,48,49,50,51,52,53,54,55,56,57,58,59,60,61,62,63,64,65,66,67,68,69,70,71,72,73,74,75,76,77,78,79,80,81,82,83,84,85,86,87,88,89,90,91,92,93,94] (fun j t σ=>∃(s:DS) (u9 u8:AV) (Mp Mo:Own),Jo (cH c) c.ins.length s/\im (cH c) c.ins.length s<=j/\s.out.length+im (cH c) c.ins.length s<=N/\wg (cH c) N (wo c.ins.length)=wg (cH c) (j+1) s/\ma 1 3 dS (s.out.map .ofNat) u8 Mo/\ma 1 3 dS (s.path.map .ofNat) u9 Mp/\t.get 8=some (u8)/\t.get 9=some (u9)/\St σ K (Mo++(Mp++((b3,.row (s.gone.map gI) 3 false)::(b2,.row (s.st.map gS) 5 false)::(b1,.row [.int .i64 c.aP,v] 33 false)::L)))) ((N-1)) ⟨wo c.ins.length,_,.aK,[(b4,.row [gI 0] 3 false)],[],uw hpos,by rw[Dj];omega,by rw[Dj];have:(wo c.ins.length).out.length=0:=rfl;omega,by rw[show N-1+1=N from by omega],.inl ⟨rfl,rfl,rfl⟩,(fN (xs:=[0]) (by simp)).Lr,rfl,rfl,ar⟩ ?_)));clear ar;intro j6 t σ aq hI;obtain⟨s,u9,u8,Mp,Mo,hw,hlj,hsz,he,hOut,hP,hv8,hv9,ar⟩:=hI;obtain⟨o4,o5,o8,o9,o10,o11,o12,o24,o25,o26,o27,o28,o29,o30,o31,o32,aq⟩:=aq.L4 rfl rfl rfl rfl;obtain⟨o33,o34,o35,o36,o37,o38,o39,o40,o41,o42,o43,o44,o45,o46,o47,o48,aq⟩:=aq.L4 rfl rfl rfl rfl;obtain⟨o49,o50,o51,o52,o53,o54,o55,o56,o57,o58,o59,o60,o61,o62,o63,o64,aq⟩:=aq.L4 rfl rfl rfl rfl;obtain⟨o65,o66,o67,o68,o69,o70,o71,o72,o73,o74,o75,o76,o77,o78,o79,o80,aq⟩:=aq.L4 rfl rfl rfl rfl;replace aq:=aq.bR rfl rfl;obtain⟨o81,o82,o83,o84,o85,o86,o87,o88,aq⟩:=aq;replace aq:=aq.mg rfl;obtain⟨o89,o90,o91,o92,aq⟩:=aq;replace aq:=aq.dI rfl;obtain⟨o93,aq⟩:=aq;replace aq:=aq.dI rfl;obtain⟨o94,aq⟩:=aq
 obtain rfl:=aq.nil;clear aq;replace hv8:o8=some _:=hv8;subst hv8;replace hv9:o9=some _:=hv9;subst hv9;refine aj (aj (ah rfl (vQ 1 rfl (aa rfl (sO hP rfl rfl rfl (e:=3) (by kernel_rfl) rfl) rfl (ky rfl (az rfl rfl rfl) (fun h26=>?_) (fun h26=>?_))))))
 ·refine nT (aF rfl (aH (ad (aM (aj (ah rfl (vQ 2 rfl (aa rfl (sO hP rfl rfl rfl (e:=3) (by kernel_rfl) rfl) rfl (vQ 1 rfl ?_)))))))));have hlp:0<s.path.length:=by have:=bm (a:=0) h26;rwa[gz] at this
  obtain⟨a,hla⟩:∃a,s.path.getLast?=some a:=by cases hq:s.path.getLast? with | none=>(rw[List.getLast?_eq_none_iff.1 hq] at hlp;exact absurd hlp (Nat.lt_irrefl _)) | some a=>exact⟨a,rfl⟩
  have hla':=Di hla;obtain⟨han,hsta⟩:=hw.path a (gB_ hla');obtain⟨g,hg⟩:∃g,s.gone[a]?=some g:=⟨_,gC (by rw[hw.pY];exact han)⟩;obtain⟨x36,hx36⟩:=bX han;have hpl:s.path.length<=im (cH c) c.ins.length s:=by unfold im;omega
  refine MT (e:=3) (m:=1) (hP.rh (K:=K.gG Mp) fun y hy=>.inr hy) (GW hla') rfl rfl rfl (cI ((congrArg (fun q=>wr .i64 (Int.sub (.ofNat q) 1)) (gz s.path)).trans (rX (b:=1) (by omega) (by omega)))) (fun p31 vs31 hp31 hl31 hr31=>?_);obtain rfl:=hr31;refine aa rfl (M9 (ar.b9.keeps) hp31 rfl rfl) rfl (vQ 1 rfl (nS rfl (aa rfl (MY 1 rfl) rfl (aa rfl (MZ rfl ar.b9.b9.pop.pop.g0 rfl) rfl (vQ 1 rfl (MT (e:=79) (m:=6) hi hx36 rfl rfl rfl rfl (fun p36 vs36 hp36 hl36 hr36=>?_)))))));have hr36raw:=hr36;have hr36':=hr36;obtain⟨v36,rfl,hk36⟩:=hr36';refine aa rfl (Na ar hp36 rfl rfl) rfl (vQ 1 rfl (dF rfl (MX rfl rfl rfl) (fun _=>rfl) (Bb hG (by omega) hr36raw ar) ?_));rintro u39 σ ⟨M39,hM39,ar⟩;replace ar:=ar.keeps;have hS39:=hM39.rh (K:=K.gG M39) fun y hy=>.inr hy
  refine vQ 1 rfl (nT (aj (aj (ah rfl (vQ 2 rfl (aa rfl (fW (e:=3) (m:=1) (by kernel_rfl) (by kernel_rfl) rfl rfl han) rfl (aa rfl (ax rfl ar.b9.b9.g0 (by kernel_rfl) (jf hg (by first | omega | rfl))) rfl (vQ 1 rfl (aa rfl (M6 hS39 rfl rfl rfl (e:=3) rfl) rfl (vQ 1 rfl (af (ad ?_))))))))))));refine aG rfl (fun h46=>?_) (fun h46=>?_)
  ·refine aj (ah rfl (vQ 2 rfl (aa rfl (fW (e:=5) (m:=1) (by kernel_rfl) (by kernel_rfl) rfl rfl han) rfl (dL ar (.jk (.jk (.there .here))) rfl (aR rfl rfl rfl ar.b9.b9.pop.g0 (m:=1) (by kernel_rfl) rfl (by rw[lM_];rw[hw.DI];omega) rfl (cells':=((s.st).set a 2).map (gS)) (eA (f:=gS) (v:=2) (by rw[hw.DI];exact han) (by first | omega | rfl))) rfl (fun σ ar=>?_)))));refine nS rfl (vQ 2 rfl (ib ar rfl (cq (e:=3) (m:=1) (z:=[iZ]) (cs:=[_]) (by kernel_rfl) (by kernel_rfl) (by kernel_rfl) (by kernel_rfl) (bB rfl rfl rfl rfl bT)) (fun _=>rfl) (fun σ b5 ar=>?_)));obtain⟨σ,u53,M53,happ,hOut2,ar⟩:=oA (P:=Tryz.prog) (ts:= #[34,34]) (t:=34) (e:=3) (l2:=[Int.ofNat a]) hOut ar (e6 (xs:=[Int.ofNat a]) (.inr ⟨rfl,rfl⟩) (by simp)) dS.leaf (by simp) (by simp) (by rw[gz];omega) rfl (by kernel_rfl) (by kernel_rfl) (by kernel_rfl);rw[show s.out.map Int.ofNat++[Int.ofNat a]=(s.out++[a]).map Int.ofNat from by rw[List.map_append];rfl] at hOut2;refine aa rfl (eO rfl rfl rfl rfl (by kernel_rfl) happ) rfl (vQ 1 rfl (nS rfl (vQ 2 rfl (aa rfl (sO hP rfl rfl rfl (e:=3) (by kernel_rfl) rfl) rfl (vQ 1 rfl ?_)))));obtain⟨u58,hP2,hsl⟩:=hP.JA (k:=s.path.length-1) (by rw[gz];omega);rw[xF] at hP2;refine aa rfl (bH rfl (hsl (by kernel_rfl) (by kernel_rfl) rfl (show _=some (AV.int .i64 (.ofNat (s.path.length-1))) from cI ((congrArg (fun q=>wr .i64 (Int.sub (.ofNat q) 1)) (gz s.path)).trans (rX (b:=1) (by omega) (by omega)))))) rfl (vQ 1 rfl (nT (bn (aS (aO ?_)))));replace ar:=ar.weaken (KP.bF _ _);have hd:=Eo hg (GM hx36 (by have:=iJ_ (eqv h46);omega));obtain⟨hw2,hl2,hs2⟩:=mK hw hN hla hd;refine aN ⟨j6-1,by have:1<=j6:=(by unfold im at hlj;omega);omega,(by(iterate 117 refine oP rfl ?_);exact oR _ _),_,u58,u53,Mp,M53,hw2,by omega,by omega,by rw[he,show j6+1=(j6-1+1)+1 from by omega];exact uv hla hd,hOut2,hP2,rfl,rfl,ar⟩
  refine aH (ad (aj (ah rfl (vQ 3 rfl (aa rfl (fW (e:=3) (m:=1) (by kernel_rfl) (by kernel_rfl) rfl rfl han) rfl (aa rfl (ax rfl ar.b9.b9.g0 (by kernel_rfl) (jf hg (by first | omega | rfl))) rfl ?_))))));have hgl:g<(fM x36 a).length:=by have h1:=hw.gone a g hg;rw[ph hx36] at h1;have:=BX h46;omega
  obtain⟨to0,hto0⟩:=bX hgl;obtain⟨to,rfl,htn,hto⟩:=xp hc hx36 hto0;obtain⟨sv,hv⟩:∃sv,s.st[to]?=some sv:=⟨_,gC (by rw[hw.DI];exact htn)⟩;refine MT (e:=3) (m:=1) hS39 hto0 rfl rfl rfl rfl (fun p64 vs64 hp64 hl64 hr64=>?_);obtain rfl:=hr64;refine aa rfl (M9 ar hp64 rfl rfl) rfl (vQ 1 rfl (nS rfl (vQ 2 rfl (aa rfl (fW (e:=3) (m:=1) (by kernel_rfl) (by kernel_rfl) rfl rfl han) rfl (aa rfl (ax rfl ar.b9.b9.g0 (by kernel_rfl) (jf hg (by first | omega | rfl))) rfl (vQ 1 rfl (aa rfl (fW (e:=3) (m:=1) (by kernel_rfl) (by kernel_rfl) rfl rfl han) rfl ?_)))))));refine dL ar (.jk (.jk .here)) rfl (aR rfl rfl (show _=some [gI (g+1)] from congrArg (fun z=>some [AV.int .i64 z]) (ba (by have h1:=hw.gone a g hg;rw[ph hx36] at h1;have:=Al x36 a;omega))) ar.b9.b9.g0 (m:=1) (by kernel_rfl) rfl (by rw[lM_];rw[hw.pY];omega) rfl (cells':=((s.gone).set a (g+1)).map (gI)) (eA (f:=gI) (v:=(g+1)) (by rw[hw.pY];exact han) (by first | omega | rfl))) rfl (fun σ ar=>?_);refine nT (aj (aj (ah rfl (vQ 3 rfl (bf rfl (MX rfl rfl rfl) (fun _=>rfl) (KO hG _ _ ar) (fun σ ar=>?_))))));refine vQ 3 rfl (aa rfl (fW (e:=5) (m:=1) (by kernel_rfl) (by kernel_rfl) rfl rfl htn) rfl (aa rfl (ax rfl ar.b9.b9.pop.g0 (by kernel_rfl) (jf hv (by first | omega | rfl))) rfl (vQ 2 rfl (nT (aG rfl (fun h82=>?_) (fun h82=>?_))))))
  ·refine bn (aS (aO ?_));replace ar:=ar.weaken (KP.bF _ _);have hd:=BS hg hto (by rw[hv];exact congrArg some (iJ_ (eqv h82)));obtain⟨hw2,hl2,hs2⟩:=mK hw hN hla hd;refine aN ⟨j6-1,by have:1<=j6:=(by unfold im at hlj;omega);omega,(by(iterate 128 refine oP rfl ?_);exact oR _ _),_,u9,u8,Mp,Mo,hw2,by omega,by omega,by rw[he,show j6+1=(j6-1+1)+1 from by omega];exact uv hla hd,hOut,hP,rfl,rfl,ar⟩
  refine aH (ad (aj (aj (ah rfl (vQ 2 rfl (aa rfl (fW (e:=5) (m:=1) (by kernel_rfl) (by kernel_rfl) rfl rfl htn) rfl (aa rfl (ax rfl ar.b9.b9.pop.g0 (by kernel_rfl) (jf hv (by first | omega | rfl))) rfl (vQ 1 rfl (nT (aG rfl (fun h87=>?_) (fun h87=>?_)))))))))))
  ·refine aj (ah rfl (vQ 2 rfl (nT (aC (av (aB (bk (aB (av (?_))))))))));have hnone:fg c=none:=by rw[hO,he];exact FX hla (BQ hg hto (by rw[hv];exact congrArg some (iJ_ (eqv h87))))
   replace ar:=ar.weaken (KP.bF _ _);exact bE rfl rfl rfl ⟨_,[],by rw[hnone];rfl,by rw[hnone];exact .inl ⟨rfl,rfl,rfl⟩,ar.b9.b9.pop.pop.pop⟩
  refine aH (ad (aj (ah rfl (vQ 2 rfl (aa rfl (fW (e:=5) (m:=1) (by kernel_rfl) (by kernel_rfl) rfl rfl htn) rfl (dL ar (.jk (.jk (.there .here))) rfl (aR rfl rfl rfl ar.b9.b9.pop.g0 (m:=1) (by kernel_rfl) rfl (by rw[lM_];rw[hw.DI];omega) rfl (cells':=((s.st).set to 1).map (gS)) (eA (f:=gS) (v:=1) (by rw[hw.DI];exact htn) (by first | omega | rfl))) rfl (fun σ ar=>?_)))))));refine nT (ah rfl (vQ 2 rfl (ib ar rfl (cq (e:=3) (m:=1) (z:=[iZ]) (cs:=[_]) (by kernel_rfl) (by kernel_rfl) (by kernel_rfl) (by kernel_rfl) (bB rfl rfl rfl rfl bT)) (fun _=>rfl) (fun σ b5 ar=>?_))));replace ar:=ar.B5;obtain⟨σ,u94,M94,happ,hP2,ar⟩:=oA (P:=Tryz.prog) (ts:= #[34,34]) (t:=34) (e:=3) (l2:=[Int.ofNat to]) hP ar (e6 (xs:=[Int.ofNat to]) (.inr ⟨rfl,rfl⟩) (by simp)) dS.leaf (by simp) (by simp) (by rw[gz];omega) rfl (by kernel_rfl) (by kernel_rfl) (by kernel_rfl);replace ar:=ar.front;rw[show s.path.map Int.ofNat++[Int.ofNat to]=(s.path++[to]).map Int.ofNat from by rw[List.map_append];rfl] at hP2;refine aa rfl (eO rfl rfl rfl rfl (by kernel_rfl) happ) rfl (vQ 1 rfl (af (aE ?_)));replace ar:=ar.weaken (KP.bF _ _);have hd:=BR hg hto hv (BX (b:=2) h82) (BX (b:=1) h87);obtain⟨hw2,hl2,hs2⟩:=mK hw hN hla hd;refine aN ⟨j6-1,by have:1<=j6:=(by unfold im at hlj;omega);omega,(by(iterate 141 refine oP rfl ?_);exact oR _ _),_,u94,u8,M94,Mo,hw2,by omega,by omega,by rw[he,show j6+1=(j6-1+1)+1 from by omega];exact uv hla hd,hOut,hP2,rfl,rfl,ar⟩
 refine nT (aI rfl (bn (aS (aV (aO (ad (aj (ah rfl (vQ 3 rfl (nT (aC ?_)))))))))));have hsome:fg c=some s.out:=by rw[hO,he];exact Ii (by have:=br (a:=0) h26;rw[gz] at this;omega)
 exact bE rfl rfl rfl ⟨u8,Mo,by rw[hsome];rfl,by rw[hsome];exact hOut,ar.sub (eL (.trans (.cons _ (.cons _ (.cons _ (.refl _)))) (List.sublist_append_right _ _)))⟩
theorem KH {G:Cx} (hG:Plain G) {K:KP} (hgl:tS G K) {k:Nat} {c:XC} {v:AV} (hi:bJ K 6 (gK K k) c.ins v) {σ:aD} {L:Own} (ar:St σ K L):
  bp Tryz.prog G 111 [.agg [.int .i64 c.aP,v]] σ fun v σ'=>v= .bool (ij k c)/\St σ' K L:=by
 refine bh hG Tryz.func111 rfl (t:=PT.leaf.put (some (.agg [.int .i64 c.aP,v])) 0) (by rfl) (aj (ah rfl (kp ar rfl (cK rfl rfl) (fun σ b1 ar=>?_))));refine vQ 1 rfl (nT (aj (aj (ah rfl (aa rfl (M5 rfl ar.g0 (n:=2) (vs:=[_,_]) rfl) rfl (bf rfl (MX rfl rfl rfl) (fun _=>rfl) (xG hG hgl hi ar) (fun σ ar=>?_)))))));refine vQ 1 rfl (nT (aG rfl (fun h7=>?_) (fun h7=>?_)))
 ·refine aj (ah rfl (vQ 1 rfl (nT (aC (av (?_))))));exact ay rfl rfl ⟨cB (by unfold ij;rw[show aX (bq (cQ k c) 0)=true from h7];rfl),ar.pop⟩
 have hck:cQ k c=0:=eqv (bx h7);refine aH (ad (aj (ah rfl (aa rfl (M5 rfl ar.g0 (n:=2) (vs:=[_,_]) rfl) rfl (dF rfl (MX rfl rfl rfl) (fun _=>rfl) (Hw hG (BH hck) hi ar) ?_)))));rintro _ σ ⟨u10,M10,rfl,hM10,ar⟩;refine vQ 5 rfl (nS rfl (vQ 2 rfl (nT (aC ?_))));exact ay rfl rfl ⟨cB (by unfold ij;rw[show aX (bq (cQ k c) 0)=false from h7];rfl),ar.b9.pop⟩
abbrev gZ (n:Int):AV:=.int .i64 n
end Go.Ev
end
