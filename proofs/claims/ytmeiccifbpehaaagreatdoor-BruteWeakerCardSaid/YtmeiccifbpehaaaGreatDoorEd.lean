/- Part of the proof: an evaluator of the model's code, rules for walks on it, walks. Without conditions. -/
import Derived.Test.YtmeiccifbpehaaaGreatDoorEc
import Derived.Test.YtmeiccifbpehaaaGreatDoorEb
import Derived.Test.YtmeiccifbpehaaaGreatDoorEa
import Derived.KernelRfl
import Derived.Sort.AssemblyPlain
import Derived.ReadAgain
import Derived.ProofKit
import Derived.Test.YtmeiccifbpehaaaGreatDoorProg
set_option linter.unusedSectionVars false
set_option linter.unusedVariables false
set_option linter.unusedSimpArgs false
noncomputable section
set_option maxHeartbeats 8000000
set_option maxRecDepth 20000
open Go.Proofs
namespace Go.Ev
variable [Env]
section
variable {nx:Nat->List Nat} {w:Nat->Nat} {r:Nat->Bool} {n i v j:Nat} {b b':List Nat} {sm:Bool}
end
def wK (kind:Int):Nat:=bif (bif bT (cW kind 2) then bT (cW 7 kind) else false) then 1 else 0
def wA (c:XC) (i:Nat):Nat:=match c.ins[i]? with | some x=>wK x.kind | none=>0
variable {α:Type} {ts:Array TypeId} {cl:Call} {cv vs:List Y} {la:List α} {bv e:Nat} {so xo:Operand} {M:Own} {N T:Y} {R:α->List Y->Prop}
section
variable {P:Program} {G:Cx} {V:D} {K:KP} {L:Own}
theorem CH {m:Nat} {C:Y} {t:TypeId} (F:H V K L) (hx:bG K m R [] C) (u:∀x vs,R x vs->cg vs=true)
  (I:ts[0]? =some t) (hu:P.underlying t=some (.slice e)) (A:qc P e m=true) (M:dN P ts[1]? =true):fI P V ts .aw C= .val .aw V:=by
 obtain⟨news,N,s2,T,s4⟩:=oN F hx u;unfold qc at A;split at A
 ·rename_i j hj;simp only[bA_] at A;obtain⟨W,X,a3,a4⟩:=A;have hm:j.size=m:=nB W;subst hm;have E:((P.info? e).any fun j=>(j.zero.bind qM).any fun z=>(cE z).any fun cs=>Nat.beq (dt cs) j.size)=true:=by rw[hj];exact a4
  unfold fI;rw[I];dsimp only;rw[hu];dsimp only;rw[hj] at E⊢;dsimp only;rw[M,X,a3];simp only[Bool.and_self,cond_true];rw[N];dsimp only;rw[T,show Nat.ble ([]:List α).length 1048576=true from Z,E]
  simp_all
 cases A
theorem vX {m:Nat} {l l2:List α} {u W:Y} {t:TypeId} (X:cO m e R l u M) (O:H V K (M++L))
  (hx:bG K m R l2 W) (A:∀x vs,R x vs->cg vs=true) (hn:l.length+l2.length<=1048576)
  (C:ts[0]? =some t) (hu:P.underlying t=some (.slice e)) (E:qc P e m=true) (F:dN P ts[1]? =true):
  ∃V' u' M',fI P V ts u W= .val u' V'/\cO m e R (l++l2) u' M'/\H V' K (M'++L):=by
 rcases X with ⟨rfl,rfl,rfl⟩ | ⟨b,c,cells,e',rfl,rfl,h3,h4,h5,h6⟩
 ·cases l2 with
  | nil=>exact⟨V,_,[],CH O hx A C hu E F,.inl ⟨Z,Z,Z⟩,O⟩
  | cons a l2=>
   obtain⟨news,I,N,T⟩:=wo (P:=P) O hx A (by simp at hn⊢;omega) (by simp) C hu E F;exact⟨_,_,[(V.next,.row news e false)],I,.inr ⟨_,_,news,e,Z,Z,N,T,.inr ⟨Z,Z⟩,by simp at hn⊢;omega⟩,O.alloc (.row news e false)⟩
 obtain⟨V',b',c',news,e2,I,N,T,k4,k5⟩:=AA (P:=P) O hx A oM h3 oM h5 C hu E F;exact⟨V',_,[(b',.row (cells++news) e2 false)],I,Fx h3 h4 T k4 Z k5 oM,N⟩
theorem Ce {m:Nat} {l l2:List α} {u C:Y} {ev:Nat} {t:TypeId} (E:cO m e R l u M) (O:H V K ((bv,.row cv ev false)::(M++L)))
  (hx:bG (K.add bv (.row cv ev false)) m R l2 C) (A:∀x vs,R x vs->cg vs=true) (hn:l.length+l2.length<=1048576)
  (F:ts[0]? =some t) (hu:P.underlying t=some (.slice e)) (I:qc P e m=true) (N:dN P ts[1]? =true):
  ∃V' u' M',fI P V ts u C= .val u' V'/\cO m e R (l++l2) u' M'/\H V' K (M'++L):=by
 obtain⟨V',u',M',h1,h3,T⟩:=vX E O.tx hx A hn F hu I N;exact⟨V',u',M',h1,h3,T.weaken<|KP.zw _ _ _⟩
theorem Rh {m b:Nat} {ro:Bool} {x:α} (hm:vs.length=m) (hR:R x vs) (hk:K b (.row vs e ro)):bG K m R [x] (.slice b 0 1 (.known 1)):=by
 refine .inr ⟨b,0,.known 1,vs,e,ro,Z,.inr ⟨1,Z,nR_ _⟩,hk,by simp[hm],by simp,fun i y hy=>?_⟩;cases i with
 | zero=>
  grind
 | succ i=>simp at hy
theorem fQ {m b:Nat} {x:α} (hm:vs.length=m) (u:R x vs):bG (K.add b (.row vs e false)) m R [x] (.slice b 0 1 (.known 1)):=Rh hm u (.inr ⟨Z,Z⟩)
end
section
variable {P:Program} {G:Cx} {n:Nat} {t:PT Y} {V:D} {K:KP} {L:Own} {Q:Ex->PT Y->D->Prop} {ops:Array Oper} {o:Oper} {l:List Oper} {lp:List (Nat×List Nat)} {ix:Nat} {rc:List Nat}
theorem TZ {m:Nat} {l2:List α} {u:Y} {ty:TypeId} {t':Y->PT Y} (W:cO m e R la u M) (X:H V K (M++L)) (hx:bG K m R l2 N) (A:∀x vs,R x vs->cg vs=true) (hn:la.length+l2.length<=1048576)
  (hw:bH ops t o=some true) (ho:o.op= .call cl) (E:cl.callee= .builtin .append) (C:cl.args.toList= [so,xo]) (ht:cl.argTypes[0]? =some ty) (F:bA G t so=some u) (I:bA G t xo=some N) (hp:∀v,dA t n o.dst v=some (t' v))
  (h:∀(V':D) (u':Y) (M':Own),cO m e R (la++l2) u' M'->H V' K (M'++L)->bL P G ops n l (t' u') V' Q) (hu:P.underlying ty=some (.slice e):=by kernel_rfl) (ha:qc P e m=true:=by kernel_rfl) (T:dN P cl.argTypes[1]? =true:=by kernel_rfl):bL P G ops n (o::l) t V Q:=by
 obtain⟨V',u',M',k1,k2,k3⟩:=vX (P:=P) W X hx A hn ht hu ha T;refine S hw ?_ (hp _)<|h V' u' M' k2 k3;rw[ho];exact gq E C F I T k1
theorem kE {m:Nat} {l2:List α} {u:Y} {ev:Nat} {ty:TypeId} {t':Y->PT Y} (W:cO m e R la u M) (X:H V K ((bv,.row cv ev false)::(M++L))) (hx:bG (K.add bv (.row cv ev false)) m R l2 N) (A:∀x vs,R x vs->cg vs=true) (hn:la.length+l2.length<=1048576)
  (hw:bH ops t o=some true) (ho:o.op= .call cl) (E:cl.callee= .builtin .append) (C:cl.args.toList= [so,xo]) (ht:cl.argTypes[0]? =some ty) (F:bA G t so=some u) (I:bA G t xo=some N) (hp:∀v,dA t n o.dst v=some (t' v))
  (h:∀(V':D) (u':Y) (M':Own),cO m e R (la++l2) u' M'->H V' K (M'++L)->bL P G ops n l (t' u') V' Q) (hu:P.underlying ty=some (.slice e):=by kernel_rfl) (ha:qc P e m=true:=by kernel_rfl) (T:dN P cl.argTypes[1]? =true:=by kernel_rfl):bL P G ops n (o::l) t V Q:=by
 obtain⟨V',u',M',k1,k2,k3⟩:=Ce (P:=P) W X hx A hn ht hu ha T;refine S hw ?_ (hp _)<|h V' u' M' k2 k3;rw[ho];exact gq E C F I T k1
theorem mN {m:Nat} {l2:List α} {u:Y} {ev:Nat} {ty:TypeId} {t':Y->PT Y} (X:cO m e R la u M) (hs:H V K ((bv,.row cv ev false)::(M++L))) (hx:bG (K.add bv (.row cv ev false)) m R l2 T) (A:∀x vs,R x vs->cg vs=true) (hn:la.length+l2.length<=1048576)
  (E:ops[ix]? =some o) (hw:bH ops t o=some true) (ho:o.op= .call cl) (F:cl.callee= .builtin .append) (C:cl.args.toList= [so,xo]) (ht:cl.argTypes[0]? =some ty) (I:bA G t so=some u) (N:bA G t xo=some T) (hp:∀v,dA t n o.dst v=some (t' v))
  (h:∀(V':D) (u':Y) (M':Own),cO m e R (la++l2) u' M'->H V' K (M'++L)->dw P G ops (t' u') V' rc=true/\cS P G ops n lp (t' u') V' Q) (hu:P.underlying ty=some (.slice e):=by kernel_rfl) (ha:qc P e m=true:=by kernel_rfl) (W:dN P cl.argTypes[1]? =true:=by kernel_rfl):cS P G ops n ((ix,rc)::lp) t V Q:=by
 obtain⟨V',u',M',k1,k2,k3⟩:=Ce (P:=P) X hs hx A hn ht hu ha W;refine np E hw ?_ (hp _)<|h V' u' M' k2 k3;rw[ho];exact gq F C I N W k1
end
section
variable {k:Nat} {x:XI} {s:TS}
end
section
variable {k:Nat} {c:XC} {s S_:TS} {x:XI} {out:List Nat} {A:List Int} {q j:Nat}
end
variable {nx:Nat->List Nat}
theorem UC (n:Int):yc n= .ofNat (wK n):=by
 grind [yc,wK,bT]
theorem V1 (c:XC) (i:Nat):wA c i<=1:=by
 unfold wA;cases c.ins[i]? with
 | none=>exact Nat.zero_le _
 | some x=>
  grind [wK]
theorem N7 {w:Nat->Nat} {nx:Nat->List Nat} (hw:∀i,w i<=1):∀(k i:Nat),Ll w nx k i<=k
 | 0,_=>Nat.zero_le _
 | k+1,i=>Nat.add_le_add (xR (Nat.zero_le _) fun t _=>N7 hw k t) (hw i)
theorem Je {w:Nat->Nat} {n:Nat} {out:List Nat} (u:ft nx n out) {i:Nat} (hi:i∈out):Ll w nx out.length i=xy (Ll w nx out.length) (nx i) 0+w i:=by
 obtain⟨q,hq⟩:=gO_ hi;have hl:=(gA.1 hq).1;rw[Fi u q i hq _ hl,<-Fi u q i hq (out.length+1) oM];rfl
theorem Jo {F:Nat->Nat} {fr:List Int}:∀{l:List Int} {m:Nat},(∀t∈l,∃tn:Nat,t= .ofNat tn/\fr[tn]? =some (.ofNat<|F tn))->xA fr l (.ofNat m)= .ofNat (xy F (l.map Int.toNat) m)
 | [],_,_=>rfl
 | t::l,m,h=>by
  obtain⟨tn,rfl,hf⟩:=h t (.head _);show xA fr l (bif cW (.ofNat m) ((fr[tn]?).getD 0) then(fr[tn]?).getD 0 else .ofNat m)= .ofNat (xy F (l.map Int.toNat)<|max m<|F tn);rw[hf,Option.getD_some,Rq];exact Jo fun t u=>h t (.tail _ u)
theorem BV {c:XC} {a:Nat}:∀{l:List Nat} {fr:List Int},jo c (l++[a]) fr=uB c (jo c l fr) a
 | [],_=>rfl
 | _::l,_=>BV (l:=l)
theorem BW {k:Nat} {c:XC} (hc:eO k c) {out:List Nat} (hl:out.length<=16001) (u:ft (du c) c.ins.length out):∀q,q<=out.length->
  ∀p,p<q->∀i,out[p]? =some i->(jo c (out.take q)<|List.replicate c.ins.length 0)[i]? =some (.ofNat<|Ll (wA c) (du c) out.length i)
 | 0,_,p,hp,_,_=>absurd hp (nZ_ _)
 | q+1,hq,p,hp,i,hi=>by
  have ih:=BW hc hl u q oM;obtain⟨a,A⟩:=da (show q<out.length by omega);have han:=u.lt a (gB_ A);obtain⟨x,hx⟩:=da han;rw[zb_,A,show(some a).toList= [a] from Z,BV];have hlen:(jo c (out.take q)<|List.replicate c.ins.length 0).length=c.ins.length:=by rw[BX,List.length_replicate]
  have aa:wr .i64 (Int.add (yc x.kind)<|xA (jo c (out.take q)<|List.replicate c.ins.length 0) (fA x a) 0)= .ofNat (Ll (wA c) (du c) out.length a):=by
   rw[show xA (jo c (out.take q)<|List.replicate c.ins.length 0) (fA x a) 0=_ from Jo (F:=Ll (wA c) (du c) out.length) (m:=0) fun t E=>by
    obtain⟨g,G⟩:=gO_ E;obtain⟨tn,rfl,_,C⟩:=vS hc hx G;obtain⟨p',ac,am⟩:=u.H2 q a A tn (gB_ C)
    grind]
   have I:du c a=(fA x a).map Int.toNat:=by unfold du;rw[hx]
   have hw:wA c a=wK x.kind:=by unfold wA;rw[hx]
   have hfx:=Je (w:=wA c) u (gB_ A);rw[<-I,UC,<-hw];show wr .i64 (.ofNat (wA c a+xy (Ll (wA c) (du c) out.length) (du c a) 0))=_
   grind [N7,V1,IB]
  have ab:uB c (jo c (out.take q)<|List.replicate c.ins.length 0) a=(jo c (out.take q)<|List.replicate c.ins.length 0).set a (.ofNat<|Ll (wA c) (du c) out.length a):=by unfold uB;simp_all
  grind
variable {j:Nat}
theorem uD {α β:Type} (f:α->β) {l:List α} (h:(l.map f).Nodup):l.Nodup:=List.Pairwise.of_map f (fun _ _ hh e=>hh (congrArg f e)) h
theorem RR {α:Type}:∀{l m:List α},l.Nodup->(∀x∈l,x∈m)->m.length<=l.length->l.Perm m
 | [],m,_,_,h=>by simp_all
 | x::l,m,hn,u,h=>by
  rw[List.nodup_cons] at hn;obtain⟨i,hi⟩:=gO_ (u x<|mS_ ..);have hp:=nJ hi;have hlen:=hp.length_eq;rw[zc_] at hlen h;refine(List.Perm.cons x<|RR (l:=l) (m:=m.eraseIdx i) hn.2 (fun y hy=>?_) oM).trans hp.symm
  grind
def yy (loc:Int):List bW->Nat
 | []=>0
 | e::l=>(bif (bif bQ e then bD e.loc loc else false) then 1 else 0)+yy loc l
def C3 (loc:Int):List (List bW)->Nat
 | []=>0
 | l::r=>yy loc l+C3 loc r
def wz (loc:Int) (p:List Int×Int):Bool:=bD p.2 loc
theorem rF {loc:Int} {t:Nat}:∀{l:List bW} {n:Nat},((ij t l n).filter<|wz loc).length=yy loc l
 | [],_=>rfl
 | e::l,n=>by
  show(List.filter (wz loc) (bif bQ e then([.ofNat (t+1),.ofNat n],e.loc)::ij t l (n+1) else ij t l (n+1))).length=(bif (bif bQ e then bD e.loc loc else false) then 1 else 0)+yy loc l;cases hw:bQ e with
  | false=>
   simp only[cond_false,nA_];exact rF
  | true=>
   simp only[cond_true];rw[List.filter_cons];show(if bD e.loc loc=true then _ else _:LM).length=_;cases he:bD e.loc loc with
   | true=>simp only[if_true,cond_true,zc_];rw[rF];omega
   | false=>simp only[cond_false,nA_];rw[if_neg (by decide)];exact rF
theorem KC {loc:Int}:∀{ls:List (List bW)} {t:Nat},((jz ls t).filter<|wz loc).length=C3 loc ls
 | [],_=>rfl
 | l::ls,t=>by
  show(List.filter (wz loc) (ij t l 0++jz ls (t+1))).length=yy loc l+C3 loc ls;rw[List.filter_append,lA_,rF,KC]
theorem CF {t:Nat} {k:List Int} {v:Int}:∀{l:List bW} {n:Nat},(k,v)∈ij t l n↔∃i e,l[i]? =some e/\bQ e=true/\k= [.ofNat (t+1),.ofNat (n+i)]/\v=e.loc
 | [],n=>⟨fun h=>(by cases h),fun⟨i,e,h,_⟩=>by simp at h⟩
 | e::l,n=>by
  show(k,v)∈(bif bQ e then([.ofNat (t+1),.ofNat n],e.loc)::ij t l (n+1) else ij t l (n+1))↔_;have ih:=CF (t:=t) (k:=k) (v:=v) (l:=l) (n:=n+1)
  have up:(k,v)∈ij t l (n+1)↔∃i e',l[i]? =some e'/\bQ e'=true/\k= [.ofNat (t+1),.ofNat (n+(i+1))]/\v=e'.loc:=by
   grind
  have cons:(∃i e',(e::l)[i]? =some e'/\bQ e'=true/\k= [.ofNat (t+1),.ofNat (n+i)]/\v=e'.loc)↔(bQ e=true/\k= [.ofNat (t+1),.ofNat n]/\v=e.loc)∨∃i e',l[i]? =some e'/\bQ e'=true/\k= [.ofNat (t+1),.ofNat (n+(i+1))]/\v=e'.loc:=by
   constructor
   ·grind
   rintro (⟨u,h3,A⟩ | ⟨i,e',h1,u,h3,A⟩)
   ·exact⟨0,e,Z,u,h3,A⟩
   exact⟨i+1,e',by simpa using h1,u,h3,A⟩
  grind
theorem oV {k:List Int} {v:Int}:∀{ls:List (List bW)} {t:Nat},(k,v)∈jz ls t↔∃s i l e,ls[s]? =some l/\l[i]? =some e/\bQ e=true/\k= [.ofNat (t+s+1),.ofNat i]/\v=e.loc
 | [],t=>⟨fun h=>(by cases h),fun⟨s,i,l,e,h,_⟩=>by simp at h⟩
 | l::ls,t=>by
  show(k,v)∈ij t l 0++jz ls (t+1)↔_;rw[List.mem_append,CF,oV (ls:=ls)];constructor
  ·rintro (⟨i,e,h1,u,h3,A⟩ | ⟨s,i,l',e,h0,h1,u,h3,A⟩)
   ·exact⟨0,i,l,e,Z,h1,u,by rw[h3,nA_],A⟩
   exact⟨s+1,i,l',e,by simpa using h0,h1,u,by grind,A⟩
  grind
theorem oD {k:List Int} {v:Int}:∀{ls:List (List bV)} {loc:Nat},(k,v)∈sl ls loc↔∃ln r id,ls[ln]? =some r/\id∈r/\k=id.ints/\v= .ofNat (loc+ln)
 | [],loc=>⟨fun h=>(by cases h),fun⟨ln,r,id,h,_⟩=>by simp at h⟩
 | r::ls,loc=>by
  show(k,v)∈jO loc r++sl ls (loc+1)↔_;rw[List.mem_append,oD (ls:=ls)];constructor
  ·rintro (h | ⟨ln,r',id,h1,u,h3,A⟩)
   ·obtain⟨id,h1,u⟩:=zn_.1 h
    grind
   exact⟨ln+1,r',id,by simpa using h1,u,h3,by grind⟩
  rintro ⟨ln,r',id,h1,u,h3,A⟩;cases ln with
  | zero=>
   have:r=r':=by simpa using h1
   subst this;exact .inl<|zn_.2 ⟨id,u,by simp_all⟩
  | succ ln=>grind
theorem tB {loc:Nat} (r:List bV):(jO loc r).filter (wz (.ofNat loc))=jO loc r:=List.filter_eq_self.2 fun p hp=>by
 obtain⟨id,_,rfl⟩:=zn_.1 hp;show bD (.ofNat loc) (.ofNat loc)=true;rw[gd];simp
theorem sn {loc x:Nat} (r:List bV) (h:loc≠x):(jO loc r).filter (wz (.ofNat x))= []:=List.filter_eq_nil_iff.2 fun p hp=>by
 obtain⟨id,_,rfl⟩:=zn_.1 hp;show¬bD (.ofNat loc) (.ofNat x)=true;rw[gd];simp[h]
theorem wZ {x:Nat}:∀{ls:List (List bV)} {loc ln:Nat} {r:List bV},ls[ln]? =some r->loc+ln=x->(sl ls loc).filter (wz (.ofNat x))=jO x r
 | [],_,_,_,h,_=>by simp at h
 | q::ls,loc,0,r,h,hx=>by
  have:q=r:=by simpa using h
  subst this;have hx:loc=x:=by omega
  subst hx;show(jO loc q++sl ls (loc+1)).filter _=_;rw[List.filter_append,tB]
  have:(sl ls (loc+1)).filter (wz (.ofNat loc))= []:=List.filter_eq_nil_iff.2 fun p hp=>by
   obtain⟨k,v⟩:=p;obtain⟨ln,r,id,_,_,_,rfl⟩:=oD.1 hp;show¬bD (.ofNat (loc+1+ln)) (.ofNat loc)=true;rw[gd];simp;omega
  rw[this,zk_]
 | q::ls,loc,ln+1,r,h,hx=>by
  show(jO loc q++sl ls (loc+1)).filter _=_;rw[List.filter_append,sn q oM,wZ (ls:=ls) (loc:=loc+1) (ln:=ln) (by simpa using h) oM];rfl
def WR (g:XG) (loc:Int) (id:bV):Bool:=
 bif (gf g id).isSome then(bif bD id.bM 0 then false else bif bQ (xw<|gf g id) then bD (xw<|gf g id).loc loc else false) else false
structure XA (g:XG) (ln:Nat) (r:List bV):Prop where
 YK:∀id∈r,WR g (.ofNat ln) id=true
 nodup:r.Nodup
 QU:r.length=C3 (.ofNat ln) g.threads
theorem qE {x y:bV} (h:x.ints=y.ints):x=y:=by
 have:dv x.ints y.ints=true:=eh.2 h;rw[bV.same] at this;exact eh.1 this
theorem D4 {ls:List (List bW)} {t:Nat}:(jz ls t).Nodup:=uD _ rp
theorem Vc {a b:Int} (h:bD a b=true):a=b:=by rw[dS] at h;simp_all
theorem Ft {l:List α} (h:l.Nodup) {i:Nat} {a b:α} (aa:i<j) (ha:l[i]? =some a) (hb:l[j]? =some b):a≠b:=fun e=>by
 grind [List.pairwise_iff_getElem]
variable {ln:Nat}
def Vl (g:XG) (loc:Int):Int:=match(lX g loc).getLast? with | none=>0 | some id=>(xw<|gf g id).write
structure XM where
 mem:List Int
 g:XG
structure Tp where
 GZ:bW
 fr:bV
 place:Int
 mem:List Int
def Lv (n:Bi):Int:=bif bT (bD n.ask.kind 0) then n.ask.loc else n.event.loc
def VC (n:Bi) (m:List Int) (g:XG):Tp:=
 bif bD n.event.kind 4 then⟨n.event,⟨0,0⟩,0,m⟩ else
 let all:=lX g (Lv n)
 let GZ:=bif bT (bD n.ask.kind 0) then fm n.ask ((m[(Lv n).toNat]?).getD 0) else n.event
 let fr:=bif bT (bD n.ask.kind 0) then(all.getLast?).getD ⟨0,0⟩ else⟨0,0⟩
 bif bT (bD GZ.kind 1) then⟨GZ,fr,.ofNat all.length,m.set (Lv n).toNat GZ.write⟩ else⟨GZ,fr,0,m⟩
def Tv (n:Bi) (g:XG):Bool:=bif bT (bD n.event.kind 4) then(bif cW (Lv n) 0 then true else bT (cW (Lv n) (.ofNat g.init.length))) else false
def WS (k:Nat) (c:XC) (row:List bW) (g:XG):Int:=
 bif bT (bD (zH k c row).2 0) then(zH k c row).2 else
 bif bT (bD (zH k c row).1.fin 0) then 10 else
 bif bT (cW (.ofNat row.length) 14) then 3 else
 bif Tv (zH k c row).1 g then 2 else 0
structure WB (k:Nat) (l:List XC) (r:XM):Prop where
 YJ:eu r.g=0
 len:r.g.threads.length=l.length
 mem:r.mem.length=r.g.init.length
 last:∀i:Nat,i<r.g.init.length->r.mem[i]? =some (Vl r.g (.ofNat i))
 fits:∀(t:Nat) (c:XC) (row:List bW),l[t]? =some c->r.g.threads[t]? =some row->SO k c row
theorem HI {g:XG} (hc:eu g=0) (h:ln<g.init.length):∃r,g.order[ln]? =some r:=da (by rw[(hJ.1 hc).order];exact h)
structure WH (k:Nat) (l:List XC) (r:XM) (t:Nat) (c:XC) (row:List bW) (p:Tp) (r':XM):Prop where
 code:l[t]? =some c
 rowAt:r.g.threads[t]? =some row
 err:WS k c row r.g=0
 lS:p=VC (zH k c row).1 r.mem r.g
 add:WJ r.g (.ofNat (t+1)) p.GZ p.fr p.place=(some r'.g,0)
 mem:r'.mem=p.mem
structure WE (k:Nat) (c:XC) (row:List bW) (r:XM) (p:Tp):Prop where
 fits:SO k c (row++[p.GZ])
 look:bD (zH k c row).1.event.kind 4=false->∃ln:Nat,ln<r.g.init.length/\Lv (zH k c row).1= .ofNat ln/\p.GZ.loc= .ofNat ln/\p.GZ.kind≠4
 cases:(p.GZ.kind=4/\p.mem=r.mem/\p.place=0)∨∃ln:Nat,ln<r.g.init.length/\p.GZ.loc= .ofNat ln/\p.GZ.kind≠4/\((bQ p.GZ=false/\p.mem=r.mem/\p.place=0)∨(bQ p.GZ=true/\p.mem=r.mem.set ln p.GZ.write/\p.place= .ofNat (lX r.g (.ofNat ln)).length))
theorem LU {g:XG} (hchk:eu g=0) {e:bW} (h:cj e (.ofNat g.init.length)=true) (hw:bQ e=true):∃(ln:Nat) (r:List bV),e.loc= .ofNat ln/\g.order[ln]? =some r/\(lX g e.loc).length=r.length+1:=by
 unfold cj at h
 have C:bD e.kind 4=false:=by
  grind [bQ,eqv]
 rw[C] at h
 have key:(bif bT (cW e.loc 0) then cW e.loc (.ofNat g.init.length) else false)=true:=by
  simp_all
 cases h0:cW e.loc 0 with
 | true=>rw[h0] at key;cases key
 | false=>
  rw[h0] at key;obtain⟨ln,hl⟩:=HB h0;rw[hl] at key;have u:ln<g.init.length:=aS key;obtain⟨r,A⟩:=HI hchk u;exact⟨ln,r,hl,A,by rw[hl,Az (by rw[hchk];rfl) A];rfl⟩
section
variable {g:XG} {tm:Nat} {row:List bW} {frow:List bV} (hchk:eu g=0) (hx:g.threads[tm]? =some row) (hf:g.from_[tm]? =some frow) (hlen:cW (.ofNat row.length) 14=true) {e:bW} {fr:bV} {pl:Int}
include hchk hx hf hlen
end
section
variable {k:Nat} {l:List XC} {r:XM} {t:Nat} {c:XC} {row:List bW} (hinv:WB k l r) (hc:l[t]? =some c) (hrow:r.g.threads[t]? =some row)
include hinv hc hrow
end
section
variable {k:Nat} {l:List XC} {t f:Nat} {s:XM×List Int} {r r':XM} {p:Int}
end
section
variable {k:Nat} {l:List XC} {r0:XM} {s:XM×List Int}
end
variable {G:Cx} {V:D} {K:KP} {x:Operand} {ev:Operand->Option Y}
abbrev Rn:=Nat->Nat->Bool
def bN:Nat->(Nat->Bool)->Nat
 | 0,_=>0
 | n+1,p=>bN n p ||| (bif p n then 2 ^ n else 0)
theorem fe:∀(n:Nat) (p:Nat->Bool) (j:Nat),(bN n p).testBit j=(decide (j<n) && p j)
 | 0,p,j=>by simp[bN]
 | n+1,p,j=>by
  unfold bN;rw[Nat.testBit_or,fe n p j]
  by_cases h:j=n
  ·subst h;cases hp:p j<;>simp[Nat.testBit_two_pow]
  have u:decide (j<n+1)=decide (j<n):=by simp;omega
  rw[u];cases hp:p n<;>simp[Nat.testBit_two_pow]<;>omega
theorem Es (n:Nat) (p:Nat->Bool):bN n p<2 ^ n:=by
 refine Nat.lt_pow_two_of_testBit _ fun i hi=>?_
 rw[fe];simp;omega
theorem dG {n:Nat} (h:n<=64) (p:Nat->Bool):bN n p<2 ^ 64:=zh_ (Es n p) (Nat.pow_le_pow_right oM h)
theorem kX {n:Nat} {p q:Nat->Bool} (h:∀j,j<n->p j=q j):bN n p=bN n q:=by
 refine Nat.eq_of_testBit_eq fun i=>?_
 rw[fe,fe]
 by_cases hi:i<n
 ·rw[h i hi]
 simp[hi]
theorem tU (n:Nat) (p q:Nat->Bool):bN n p ||| bN n q=bN n fun j=>p j || q j:=by
 refine Nat.eq_of_testBit_eq fun i=>?_
 rw[Nat.testBit_or,fe,fe,fe];cases decide (i<n)<;>simp
theorem Kn (n:Nat) (p q:Nat->Bool):bN n p &&& bN n q=bN n fun j=>p j && q j:=by
 refine Nat.eq_of_testBit_eq fun i=>?_
 rw[Nat.testBit_and,fe,fe,fe];cases decide (i<n)<;>simp
theorem Bn {n:Nat} (p:Nat->Bool) (h:j<n):bN n p ||| 2 ^ j=bN n fun k=>p k || decide (k=j):=by
 refine Nat.eq_of_testBit_eq fun i=>?_
 rw[Nat.testBit_or,fe,fe,Nat.testBit_two_pow]
 by_cases hi:i<n
 ·simp only[hi,decide_true,zp_];congr 1;simp[eq_comm]
 have:¬j=i:=by omega
 simp[hi,this]
theorem mf (n:Nat):bN n (fun _=>false)=0:=by
 refine Nat.eq_of_testBit_eq fun i=>?_
 rw[fe];simp
theorem vB {n:Nat} {p q:Nat->Bool} (h:bN n p=bN n q) (hj:j<n):p j=q j:=by
 have:=congrArg (fun x=>x.testBit j) h;simp only[fe,hj,decide_true,zp_] at this;exact this
theorem UA (h:j<=9223372036854775807):wr .u64 (.ofNat j)= .ofNat j:=by
 have:SZ .u64 (.ofNat j)=true:=by show Nat.ble j 18446744073709551615=true;rw[nE_];omega
 unfold wr;rw[this];rfl
theorem Dw (j:Nat):(2:Int) ^ j= .ofNat (2 ^ j):=by show(2:Int) ^ j=((2 ^ j:Nat):Int);rw[Int.natCast_pow];rfl
theorem XV {x:Nat} (h:j<64):bD (Int.tmod (Int.fdiv (.ofNat x) (2 ^ min (Int.toNat (.ofNat j)) 64)) 2) 1=x.testBit j:=by
 have e1:min (Int.toNat (.ofNat j)) 64=j:=by show min j 64=j;omega
 rw[e1,Dw]
 have e2:Int.fdiv (.ofNat x) (.ofNat (2 ^ j))= .ofNat (x/2 ^ j):=by
  show Int.fdiv ((x:Nat):Int) ((2 ^ j:Nat):Int)=_;rw[Int.fdiv_eq_ediv_of_nonneg _<|Int.natCast_nonneg _];rfl
 rw[e2];have u:Int.tmod (.ofNat (x/2 ^ j)) 2= .ofNat (x/2 ^ j%2):=rfl;rw[u,Nat.testBit_eq_decide_div_mod_eq];show Nat.beq (x/2 ^ j%2) 1=_
 by_cases hh:x/2 ^ j%2=1
 ·rw[hh];rfl
 rw[decide_eq_false hh];cases hb:Nat.beq (x/2 ^ j%2) 1 with
 | false=>rfl
 | true=>exact absurd (nB hb) hh
section
variable {P:Program} {k:Bool} {ty:TypeId}
theorem IC {x:Nat} (h:x<2 ^ 64):IntKind.u64.wrap ((x:Nat):Int)= .ofNat x:=by
 unfold IntKind.wrap;show(let m:=((x:Nat):Int)%(2 ^ 64:Int);if false && _ then _ else m)=_;simp only[Bool.false_and,zi_,if_false];show((x:Nat):Int)%((2 ^ 64:Nat):Int)=((x:Nat):Int);rw[<-Int.natCast_emod,Nat.mod_eq_of_lt h]
theorem V7 {x:Nat} (h:x<2 ^ 64):wr .u64 (.ofNat x)= .ofNat x:=by
 unfold wr;cases SZ .u64 (.ofNat x) with
 | true=>rfl
 | false=>exact IC h
theorem QM {x:Nat} (h:x<2 ^ 64):(BitVec.ofInt 64 (.ofNat x)).toNat=x:=by
 rw[show BitVec.ofInt 64 (.ofNat x)=BitVec.ofNat 64 x from BitVec.ofInt_natCast ..,BitVec.toNat_ofNat,Nat.mod_eq_of_lt h]
theorem J5 (h:j<64):pV P k .shl ty (.int .u64 1) (.int .u64 (.ofNat j))=some (.int .u64 (.ofNat (2 ^ j))):=by
 have e:min (Int.toNat (.ofNat j)) 64=j:=by show min j 64=j;omega
 have:wr .u64 (1*2 ^ min (Int.toNat (.ofNat j)) 64)= .ofNat (2 ^ j):=by
  rw[e,Dw,Int.one_mul];exact V7<|Nat.pow_lt_pow_right oM h
 cases k<;>exact congrArg (fun z=>some (Y.int .u64 z)) this
theorem Iq {x y:Nat} (hx:x<2 ^ 64) (hy:y<2 ^ 64):pV P k .or ty (.int .u64 (.ofNat x)) (.int .u64 (.ofNat y))=some (.int .u64 (.ofNat<|x ||| y)):=by
 have:IntKind.u64.wrap (((BitVec.ofInt 64 (.ofNat x) ||| BitVec.ofInt 64 (.ofNat y)).toNat:Nat):Int)= .ofNat (x ||| y):=by
  rw[BitVec.toNat_or,QM hx,QM hy];exact IC<|Nat.or_lt_two_pow hx hy
 cases k<;>exact congrArg (fun z=>some (Y.int .u64 z)) this
theorem uX {x y:Nat} (hx:x<2 ^ 64) (hy:y<2 ^ 64):pV P k .and ty (.int .u64 (.ofNat x)) (.int .u64 (.ofNat y))=some (.int .u64 (.ofNat<|x &&& y)):=by
 have:IntKind.u64.wrap (((BitVec.ofInt 64 (.ofNat x) &&& BitVec.ofInt 64 (.ofNat y)).toNat:Nat):Int)= .ofNat (x &&& y):=by
  rw[BitVec.toNat_and,QM hx,QM hy];exact IC<|Nat.and_lt_two_pow x hy
 cases k<;>exact congrArg (fun z=>some (Y.int .u64 z)) this
theorem lY {s d:TypeId} (hj:j<=9223372036854775807) (hk:kindOf P (.convert s d x)= .pure) (u:P.underlying s=some (.int .i64)) (A:P.underlying d=some (.int .u64)) (hx:ev x=some (.int .i64 (.ofNat j))):dM P G ev V (.convert s d x)= .val (.int .u64 (.ofNat j)) V:=by
 rw[iC hk u A hx,UA hj]
end
def gU (x:Nat):Y:=.int .u64 (.ofNat x)
def RU (x:Nat) (vs:List Y):Prop:=vs= [gU x]
def cy (n:Nat) (R:Rn):List Nat:=(List.range n).map fun i=>bN n (R i)
theorem cP (n:Nat) (R:Rn):(cy n R).length=n:=by unfold cy;simp
theorem fG {n i:Nat} {R:Rn} (h:i<n):(cy n R)[i]? =some (bN n<|R i):=by unfold cy;simp[h]
theorem dL {n:Nat} {R S_:Rn} (h:∀i j,i<n->j<n->R i j=S_ i j):cy n R=cy n S_:=by
 unfold cy;refine List.map_congr_left fun i hi=>?_
 exact kX fun j hj=>h i j (List.mem_range.1 hi) hj
theorem Ae (n:Nat):List.replicate n 0=cy n fun _ _=>false:=by
 refine zf_ fun k=>?_
 by_cases hk:k<n
 ·rw[fG hk,mf,List.getElem?_replicate,if_pos hk]
 rw[gN_ (by simpa using Nat.le_of_not_lt hk),gN_ (by rw[cP];omega)]
theorem r4 {n i:Nat} {R:Rn} {p:Nat->Bool}:(cy n R).set i (bN n p)=cy n fun a b=>bif a == i then p b else R a b:=by
 refine zf_ fun k=>?_
 rw[List.getElem?_set]
 by_cases hk:k<n
 ·rw[fG hk,cP,fG hk]
  by_cases e:i=k
  ·subst e;simp[hk]
  have:(k == i)=false:=by simp;omega
  simp[e,this]
 have h1:(cy n R)[k]? =none:=by rw[gN_];rw[cP];omega
 have u:(cy n fun a b=>bif a == i then p b else R a b)[k]? =none:=by rw[gN_];rw[cP];omega
 rw[h1,u,cP];split
 ·split
  ·omega
  rfl
 rfl
theorem fP {l:List Nat} {b n:Nat} {ro:Bool} (h:K b (.row (l.map gU) e ro)) (hn:l.length=n) (hle:n<=1000000):bG K 1 RU l (.slice b 0 n (.known n)):=by
 subst hn;refine .inr ⟨b,0,_,_,e,ro,Z,.inr ⟨_,Z,nR_ _⟩,h,by simp,by omega,fun i x hx=>?_⟩;obtain⟨h1,u⟩:=gA.1 hx;have h3:i<(l.map gU).length:=by rw[lM_];exact h1
 show((l.map gU).drop (0+i*1)).take 1= [gU x];rw[nA_,Nat.mul_one,zj_ h3,List.getElem_map,u];rfl
def US (K:KP) (n:Nat) (R:Rn) (vs:List Y):Prop:=∃v,vs= [.int .i64 (.ofNat n),v]/\bG K 1 RU (cy n R) v
theorem LW {n i:Nat} {R:Rn} (hj:j<n):(cy n R).set i (bN n (R i) ||| 2 ^ j)=cy n fun a b=>R a b || (a == i && b == j):=by
 rw[Bn _ hj,r4];refine dL fun a b _ _=>?_
 by_cases e:a=i
 ·subst e;simp;rfl
 have:(a == i)=false:=by simp[e]
 simp[this]
inductive Tc (n:Nat) (R:Rn):Nat->Nat->Prop where
 | one {i j:Nat} (hi:i<n) (hj:j<n) (h:R i j=true):Tc n R i j
 | step {i j k:Nat} (h1:Tc n R i j) (h2:Tc n R j k):Tc n R i k
open Classical in
def oX (n:Nat) (R:Rn):Rn:=fun i j=>decide (Tc n R i j)
theorem jS {n:Nat} {R:Rn} {i:Nat}:oX n R i j=true↔Tc n R i j:=by unfold oX;simp
theorem Tc.lt {n:Nat} {R:Rn} {i:Nat} (h:Tc n R i j):i<n/\j<n:=by
 induction h with
 | one hi hj _=>exact⟨hi,hj⟩
 | step _ _ h1 u=>exact⟨h1.1,u.2⟩
structure YI (n:Nat) (R S_:Rn):Prop where
 low:∀i j,i<n->j<n->R i j=true->S_ i j=true
 high:∀i j,i<n->j<n->S_ i j=true->Tc n R i j
variable {parts:Array (Nat×Operand)} {Rs:List Rn} {cs us:List Y} {q:Nat}
section
variable {P:Program} {G:Cx} {ev:Operand->Option Y} {V:D}
theorem Gn {t n m:Nat} {zero:List Y} (u:P.underlying t=some (.array n e)) (hm:(P.info? e).map (·.size)=some m) (C:(fx P t).bind cE=some zero) (hf:ka (fun i=>some (i*m,m)) ev parts.toList zero=some cs):dM P G ev V (.build t parts)= .val (.agg cs) V:=by
 refine bK Z ?_;obtain⟨j,hj,rfl⟩:=oM_.1 hm;simp only[dH,u,C,hj,hf,Option.map_some]
end
section
variable {P:Program} {G:Cx} {n i:Nat} {V:D} {Q:Ex->PT Y->D->Prop} {ops:Array Oper} {t:PT Y} {o:Oper} {K:KP}
end
def RP (p:Nat×Nat) (vs:List Y):Prop:=vs= [.int .i64 (.ofNat p.1),.int .i64 (.ofNat p.2)]
theorem RP.leaf:∀x vs,RP x vs->cg vs=true:=fun _ _ h=>by cases h;rfl
def Gv (l:List (Nat×Nat)):Rn:=fun a b=>l.any fun p=>p.1 == a && p.2 == b
theorem Ru {n k a b:Nat} {l:List (Nat×Nat)} (h:l[k]? =some (a,b)) (hb:b<n):(cy n<|Gv<|l.take k).set a (bN n (Gv (l.take k) a) ||| 2 ^ b)=cy n (Gv<|l.take (k+1)):=by
 rw[LW hb];refine dL fun x y _ _=>?_
 unfold Gv;rw[zb_,h];simp only[List.any_append,Option.toList,List.any_cons,List.any_nil,Bool.or_false];have hc:∀u v:Nat,(u == v)=(v == u):=fun u v=>by rw[zd_];simp only[beq_iff_eq];exact eq_comm
 rw[hc x a,hc y b]
def iA (n:Nat) (R:Rn) (i q:Nat):List (Nat×Nat):=((List.range i).flatMap fun a=>((List.range n).filter<|R a).map fun b=>(a,b))++((List.range q).filter<|R i).map fun b=>(i,b)
def tC (n:Nat) (R:Rn):List (Nat×Nat):=(List.range n).flatMap fun a=>((List.range n).filter<|R a).map fun b=>(a,b)
theorem HU {n i:Nat} {R:Rn} (h:R i q=true):iA n R i q++[(i,q)]=iA n R i (q+1):=by
 unfold iA;rw[List.range_succ,List.filter_append,List.map_append,lQ_];simp[h]
theorem LG {n i:Nat} {R:Rn} (h:R i q=false):iA n R i q=iA n R i (q+1):=by
 unfold iA;rw[List.range_succ,List.filter_append,List.map_append];simp[h]
theorem HT {n i:Nat} {R:Rn}:iA n R i n=iA n R (i+1) 0:=by
 unfold iA;rw[List.range_succ,List.flatMap_append];simp
theorem FC {n:Nat} {R:Rn}:iA n R n 0=tC n R:=by unfold iA tC;simp
theorem HS {n:Nat} {R:Rn}:∀{i q:Nat},(iA n R i q).length<=i*n+q:=by
 intro i q;unfold iA
 have h1:((List.range i).flatMap fun a=>((List.range n).filter<|R a).map fun b=>(a,b)).length<=i*n:=by
  induction i with
  | zero=>simp
  | succ i ih=>
   rw[List.range_succ,List.flatMap_append,lA_,Nat.succ_mul];have:=List.length_filter_le (R i) (List.range n);simp at this⊢;simp at ih;omega
 have h2:=List.length_filter_le (R i) (List.range q);rw[lA_,lM_];rw[List.length_range] at h2;omega
def nu (l:List Rn):Rn:=fun a b=>l.any fun R=>R a b
def LD (S_ R:Rn) (i:Nat):Rn:=fun a b=>S_ a b || (decide (a<i) && R a b)
def Tq (A B_:Rn):Rn:=fun a b=>A a b && B_ a b
def PG (R:Rn):Rn:=fun a b=>R b a
section
variable {n i j k:Nat} {S_ R A B_:Rn} {l:List Rn}
theorem Rz:(cy n<|LD S_ R i).set i (bN n (LD S_ R i i) ||| bN n (R i))=cy n (LD S_ R (i+1)):=by
 rw[tU,r4];refine dL fun a b _ _=>?_
 unfold LD
 by_cases e:a=i
 ·subst e;simp
 have h1:(a == i)=false:=by simp[e]
 have u:decide (a<i+1)=decide (a<i):=by simp;omega
 simp[h1,u]
theorem OF:cy n (LD S_ R 0)=cy n S_:=dL fun a b _ _=>by unfold LD;simp
theorem OE (h:l[k]? =some R):cy n (LD (nu<|l.take k) R n)=cy n (nu<|l.take (k+1)):=by
 refine dL fun a b u _=>?_
 unfold LD nu;rw[zb_,h];simp[List.any_append,u]
theorem Ry:cy n (nu<|l.take 0)=cy n fun _ _=>false:=dL fun a b _ _=>by unfold nu;simp
theorem filter_lt {p q:Nat->Bool}:∀{l:List Nat},(∀x∈l,p x=true->q x=true)->(l.filter p).length<=(l.filter q).length/\((∃x∈l,p x=false/\q x=true)->(l.filter p).length<(l.filter q).length)
 | [],_=>⟨nR_ _,fun⟨x,hx,_⟩=>by cases hx⟩
 | y::l,h=>by
  obtain⟨h1,C⟩:=filter_lt (p:=p) (q:=q) (l:=l) fun x hx=>h x (mC_ _ hx)
  have h0:=h y (mS_ ..);cases hp:p y with
  | true=>
   have hq:=h0 hp;simp only[List.filter_cons,hp,hq,if_true,zc_];refine⟨by omega,fun⟨x,hx,u,hb⟩=>?_⟩;rcases mQ_.1 hx with rfl | hx
   ·rw[hp] at u;cases u
   have:=C ⟨x,hx,u,hb⟩;omega
  | false=>
   cases hq:q y with
   | true=>
    simp only[List.filter_cons,hp,hq,if_true,zc_,zi_,if_false];exact⟨by omega,fun _=>by omega⟩
   | false=>
    simp only[List.filter_cons,hp,hq,zi_,if_false];refine⟨h1,fun⟨x,hx,u,hb⟩=>?_⟩;rcases mQ_.1 hx with rfl | hx
    ·rw[hq] at hb;cases hb
    exact C ⟨x,hx,u,hb⟩
end
theorem v7 {K:KP} {n m b:Nat} {ro:Bool} (h:K b (.row (us.flatMap fun u=>[.int .i64 (.ofNat n),u]) e ro)) (hm:Rs.length=m) (hl:Rs.length=us.length) (hle:m<=1000000) (E:∀(i:Nat) (R:Rn),Rs[i]? =some R->∃u,us[i]? =some u/\bG K 1 RU (cy n R) u):bG K 2 (US K n) Rs (.slice b 0 m (.known m)):=by
 subst hm
 have hlen:∀us:List Y,(us.flatMap fun u=>[Y.int .i64 (.ofNat n),u]).length=us.length*2:=by
  intro us;induction us with
  | nil=>rfl
  | cons u us ih=>rw[List.flatMap_cons,lA_,ih,zc_];simp;omega
 have C:∀(us:List Y) (i:Nat) (u:Y),us[i]? =some u->((us.flatMap fun u=>[Y.int .i64 (.ofNat n),u]).drop (i*2)).take 2= [.int .i64 (.ofNat n),u]:=by
  intro us;induction us with
  | nil=>intro i u h;simp at h
  | cons v us ih=>
   intro i u h;cases i with
   | zero=>simp at h;subst h;rfl
   | succ i=>
    rw[List.getElem?_cons_succ] at h;rw[<-ih i u h,List.flatMap_cons,Nat.succ_mul];rfl
 refine .inr ⟨b,0,_,_,e,ro,Z,.inr ⟨_,Z,nR_ _⟩,h,by rw[hlen];omega,by omega,fun i R hx=>?_⟩;obtain⟨u,hu,F⟩:=E i R hx;rw[nA_];exact⟨u,C us i u hu,F⟩
theorem JJ {K:KP} {n b:Nat} {ro:Bool} {R S_:Rn} {u v:Y} (h:K b (.row [.int .i64 (.ofNat n),u,.int .i64 (.ofNat n),v] e ro)) (C:bG K 1 RU (cy n R) u) (E:bG K 1 RU (cy n S_) v):bG K 2 (US K n) [R,S_] (.slice b 0 2 (.known 2)):=
 v7 (us:=[u,v]) h Z Z (by decide) fun i R' hi=>by
  match i,hi with
  | 0,hi=>cases hi;exact⟨_,Z,C⟩
  | 1,hi=>cases hi;exact⟨_,Z,E⟩
theorem LR {K:KP} {n b:Nat} {ro:Bool} {R S_ T:Rn} {u v w:Y} (h:K b (.row [.int .i64 (.ofNat n),u,.int .i64 (.ofNat n),v,.int .i64 (.ofNat n),w] e ro)) (C:bG K 1 RU (cy n R) u) (E:bG K 1 RU (cy n S_) v) (F:bG K 1 RU (cy n T) w):bG K 2 (US K n) [R,S_,T] (.slice b 0 3 (.known 3)):=
 v7 (us:=[u,v,w]) h Z Z (by decide) fun i R' hi=>by
  match i,hi with
  | 0,hi=>cases hi;exact⟨_,Z,C⟩
  | 1,hi=>cases hi;exact⟨_,Z,E⟩
  | 2,hi=>cases hi;exact⟨_,Z,F⟩
theorem Pc {K:KP} {n b:Nat} {ro:Bool} {R S_ T U_:Rn} {u v w x:Y} (h:K b (.row [.int .i64 (.ofNat n),u,.int .i64 (.ofNat n),v,.int .i64 (.ofNat n),w,.int .i64 (.ofNat n),x] e ro)) (C:bG K 1 RU (cy n R) u) (E:bG K 1 RU (cy n S_) v) (F:bG K 1 RU (cy n T) w) (I:bG K 1 RU (cy n U_) x):bG K 2 (US K n) [R,S_,T,U_] (.slice b 0 4 (.known 4)):=
 v7 (us:=[u,v,w,x]) h Z Z (by decide) fun i R' hi=>by
  match i,hi with
  | 0,hi=>cases hi;exact⟨_,Z,C⟩
  | 1,hi=>cases hi;exact⟨_,Z,E⟩
  | 2,hi=>cases hi;exact⟨_,Z,F⟩
  | 3,hi=>cases hi;exact⟨_,Z,I⟩
def kA:List (List bW)->Nat->List bV
 | [],_=>[]
 | r::l,t=>(List.range r.length).map (fun i=>(⟨.ofNat (t+1),.ofNat i⟩:bV))++kA l (t+1)
def jY (g:XG):List bV:=(List.range g.init.length).map (fun i=>(⟨0,.ofNat i⟩:bV))++kA g.threads 0
def gD (g:XG) (i:Nat):bV:=((jY g)[i]?).getD ⟨0,0⟩
def fc (g:XG) (i:Nat):bW:=xw (gf g<|gD g i)
def NI (g:XG):List bW:=(jY g).map fun id=>xw (gf g id)
def nV (g:XG):Nat:=(jY g).length
theorem BN:∀{l:List (List bW)} {t s:Nat} {row:List bW},l[t]? =some row->kA (l.take (t+1)) s=kA (l.take t) s++(List.range row.length).map fun i=>(⟨.ofNat (s+t+1),.ofNat i⟩:bV)
 | [],_,_,_,h=>by simp at h
 | r::l,0,s,row,h=>by
  simp only[zm_,oJ_] at h;subst h;simp[kA]
 | r::l,t+1,s,row,h=>by
  have:=BN (l:=l) (t:=t) (s:=s+1) (by simpa using h);rw[List.take_succ_cons,List.take_succ_cons];show _++kA (l.take (t+1)) (s+1)=(_++kA (l.take t) (s+1))++_;rw[this,lQ_,show s+1+t+1=s+(t+1)+1 by omega]
def jc (g:XG) (i t k:Nat):List bV:=(List.range i).map (fun i=>(⟨0,.ofNat i⟩:bV))++(kA (g.threads.take t) 0++(List.range k).map fun i=>(⟨.ofNat (t+1),.ofNat i⟩:bV))
theorem Hq {g:XG} {i:Nat}:jc g i 0 0++[⟨0,.ofNat i⟩]=jc g (i+1) 0 0:=by unfold jc;simp[kA,List.range_succ]
theorem Dj {g:XG} {i t k:Nat}:jc g i t k++[⟨.ofNat (t+1),.ofNat k⟩]=jc g i t (k+1):=by unfold jc;simp[List.range_succ,lQ_]
theorem N3 {g:XG} {i t:Nat} {row:List bW} (h:g.threads[t]? =some row):jc g i t row.length=jc g i (t+1) 0:=by
 unfold jc;rw[BN h,nA_];simp
theorem Fa {g:XG} {t:Nat} (h:g.threads.length<=t):jc g g.init.length t 0=jY g:=by
 unfold jc jY;rw[tL_ h];simp
section
variable {g:XG}
theorem jd {i:Nat} (h:i<nV g):(jY g)[i]? =some (gD g i):=by unfold gD;rw[gC h];rfl
theorem lu {i:Nat} (h:i<nV g):(NI g)[i]? =some (fc g i):=by unfold NI fc;rw[gM_,jd h];rfl
theorem xN:∀{l:List (List bW)} {t n:Nat} {id:bV},(kA l t)[n]? =some id->∃(s k:Nat) (row:List bW) (e:bW),l[s]? =some row/\row[k]? =some e/\id=⟨.ofNat (t+s+1),.ofNat k⟩
 | [],_,_,_,h=>by simp[kA] at h
 | r::l,t,n,id,h=>by
  unfold kA at h
  by_cases hn:n<r.length
  ·rw[gL_ (by simpa using hn),gM_,zr_ hn] at h;simp only[Option.map_some,oJ_] at h;exact⟨0,n,r,r[n],Z,gC hn,h.symm⟩
  rw[gR_ (by simpa using Nat.le_of_not_lt hn)] at h;obtain⟨s,k,row,e,h1,u,h3⟩:=xN h;exact⟨s+1,k,row,e,by simpa using h1,u,by rw[h3,show t+1+s+1=t+(s+1)+1 by omega]⟩
theorem Fc:∀{l:List (List bW)} {t s k:Nat} {row:List bW} {e:bW},l[s]? =some row->row[k]? =some e->(⟨.ofNat (t+s+1),.ofNat k⟩:bV)∈kA l t
 | [],_,_,_,_,_,h,_=>by simp at h
 | r::l,t,0,k,row,e,h,u=>by
  simp only[zm_,oJ_] at h;subst h;unfold kA;exact List.mem_append_left _<|zn_.2 ⟨k,List.mem_range.2 (gA.1 u).1,Z⟩
 | r::l,t,s+1,k,row,e,h,u=>by
  unfold kA;have:=Fc (t:=t+1) (by simpa using h) u;rw[show t+1+s+1=t+(s+1)+1 by omega] at this;exact List.mem_append_right _ this
theorem lg {i:Nat} (h:i<nV g):(∃(x:Nat) (v:Int),gD g i=⟨0,.ofNat x⟩/\g.init[x]? =some v/\fc g i=⟨2,.ofNat x,1,0,v⟩)∨(∃(t k:Nat) (row:List bW) (e:bW),gD g i=⟨.ofNat (t+1),.ofNat k⟩/\g.threads[t]? =some row/\row[k]? =some e/\fc g i=e):=by
 have ha:=jd h;unfold jY at ha
 by_cases hn:i<g.init.length
 ·rw[gL_ (by simpa using hn),gM_,zr_ hn] at ha;simp only[Option.map_some,oJ_] at ha;refine .inl ⟨i,g.init[i],ha.symm,gC hn,?_⟩;unfold fc;rw[<-ha];show xw ((g.init[i]?).map fun v=>(⟨2,i,1,0,v⟩:bW))=_;rw[gC hn];rfl
 rw[gR_ (by simpa using Nat.le_of_not_lt hn)] at ha;obtain⟨s,k,row,e,h1,u,h3⟩:=xN ha;rw[nA_] at h3;refine .inr ⟨s,k,row,e,h3,h1,u,?_⟩;unfold fc;rw[h3,mA,h1];show xw (row[k]?)=e;rw[u];rfl
theorem Dk {id:bV} {e:bW} (h:gf g id=some e) (hw:0<=id.index):id∈jY g:=by
 obtain⟨th,ix⟩:=id;obtain⟨k,rfl⟩:∃k:Nat,ix= .ofNat k:=⟨ix.toNat,(Int.toNat_of_nonneg hw).symm⟩;unfold jY
 match th with
 | .ofNat 0=>
  have h:(g.init[k]?).map (fun v=>(⟨2,k,1,0,v⟩:bW))=some e:=h;obtain⟨v,hv,_⟩:=oM_.1 h;exact List.mem_append_left _<|zn_.2 ⟨k,List.mem_range.2 (gA.1 hv).1,Z⟩
 | .ofNat (t+1)=>
  rw[show(⟨.ofNat (t+1),.ofNat k⟩:bV)=⟨.ofNat (t+1),.ofNat k⟩ from Z,mA] at h;obtain⟨row,h1,u⟩:=Option.bind_eq_some_iff.1 h;have:=Fc (t:=0) h1 u;rw[nA_] at this;exact List.mem_append_right _ this
 | .negSucc t=>simp[gf] at h
theorem zj:∀{l:List (List bW)} {t:Nat},(∀r∈l,r.length<=14)->(kA l t).length<=14*l.length
 | [],_,_=>nR_ _
 | r::l,t,h=>by
  unfold kA;have h1:=zj (l:=l) (t:=t+1) fun r u=>h r (mC_ _ u)
  have h2:=h r (mS_ ..);rw[lA_,lM_,List.length_range,zc_];omega
theorem Fb (h:eE g) {i t k:Nat} (hi:i<=6) (hk:k<=14) (ht:t<=4):(jc g i t k).length<=100:=by
 unfold jc
 have h1:=zj (l:=g.threads.take t) (t:=0) fun r u=>by
  obtain⟨i,hi⟩:=gO_ (List.mem_of_mem_take u);exact h.short i r hi
 have h2:(g.threads.take t).length<=t:=List.length_take_le ..;simp only[lA_,lM_,List.length_range];omega
theorem wX (h:eE g):nV g<=62:=by
 unfold nV jY;rw[lA_,lM_,List.length_range]
 have h1:=zj (l:=g.threads) (t:=0) fun r u=>by
  obtain⟨i,hi⟩:=gO_ u;exact h.short i r hi
 have:=h.threads;have:=h.init;omega
theorem Ji:∀{l:List (List bW)} {t:Nat},(kA l t).Pairwise (·≠·)
 | [],_=>.nil
 | r::l,t=>by
  unfold kA;refine List.pairwise_append.2 ⟨?_,Ji,fun a u b hb=>?_⟩
  ·refine List.pairwise_map.2 ((List.pairwise_lt_range (n:=r.length)).imp fun {a b} aa he=>?_);have:=iJ_ (congrArg bV.index he);omega
  obtain⟨k,_,rfl⟩:=zn_.1 u;obtain⟨q,hq⟩:=gO_ hb;obtain⟨s,k',_,_,_,_,rfl⟩:=xN hq;intro he;have:=iJ_ (congrArg bV.bM he);omega
theorem N4:(jY g).Pairwise (·≠·):=by
 unfold jY;refine List.pairwise_append.2 ⟨?_,Ji,fun a u b hb=>?_⟩
 ·refine List.pairwise_map.2 ((List.pairwise_lt_range (n:=g.init.length)).imp fun {a b} aa he=>?_);have:=iJ_ (congrArg bV.index he);omega
 obtain⟨k,_,rfl⟩:=zn_.1 u;obtain⟨q,hq⟩:=gO_ hb;obtain⟨s,k',_,_,_,_,rfl⟩:=xN hq;intro he;have h1:(0:Int)=((0+s+1:Nat):Int):=congrArg bV.bM he;omega
theorem uy {i:Nat} {id:bV} (hi:(jY g)[i]? =some id) (hj:(jY g)[j]? =some id):i=j:=by
 have hp:=List.pairwise_iff_getElem.1 (N4 (g:=g));obtain⟨h1,e1⟩:=gA.1 hi;obtain⟨u,e2⟩:=gA.1 hj;rcases Nat.lt_trichotomy i j with h | h | h
 ·exact absurd (e1.trans e2.symm)<|hp i j h1 u h
 ·exact h
 exact absurd (e2.trans e1.symm)<|hp j i u h1 h
end
theorem uz {α:Type} {p:α->Bool}:∀{l:List α} {i n:Nat} {x:α},l[n]? =some x->p x=true->(∀k y,k<n->l[k]? =some y->p y=false)->fK p l i= .ofNat (i+n)
 | [],_,_,_,h,_,_=>by simp at h
 | y::l,i,0,x,h,hp,_=>by
  simp only[zm_,oJ_] at h;subst h;unfold fK;rw[hp];rfl
 | y::l,i,n+1,x,h,hp,hb=>by
  unfold fK;rw[hb 0 y oM Z];have:=uz (i:=i+1) (l:=l) (n:=n) (by simpa using h) hp fun k z hk u=>hb (k+1) z oM (by simpa using u)
  show fK p l (i+1)=_;rw[this,show i+1+n=i+(n+1) by omega]
def Qm (g:XG) (id:bV):bV:=((((g.from_[id.bM.toNat-1]?).getD [])[id.index.toNat]?).getD ⟨0,0⟩)
def gu (g:XG) (i:Nat):Int:=bif dq (fc g i) then fK (fun x:bV=>dv x.ints (Qm g<|gD g i).ints) (jY g) 0 else-1
def vW (g:XG) (loc:Int):List bV:=(g.order[loc.toNat]?).getD []
def fY (g:XG) (i:Nat):Int:=bif bD (gD g i).bM 0 then 0 else(let p:=fK (fun x:bV=>dv x.ints (gD g i).ints) (vW g (fc g i).loc) 0;bif cW p 0 then-1 else wr .i64 (Int.add p 1))
def nO (g:XG):Rn:=fun i j=>bif (bif bD (gD g i).bM 0 then cW 0 (gD g j).bM else false) then true else bif cW 0 (gD g i).bM then(bif bD (gD g i).bM (gD g j).bM then cW (gD g i).index (gD g j).index else false) else false
def vp (g:XG):Rn:=fun i j=>bD (gu g j) (.ofNat i)
def xJ (g:XG):Rn:=fun i j=>bif bQ (fc g i) then(bif bQ (fc g j) then(bif bD (fc g i).loc (fc g j).loc then cW (fY g i) (fY g j) else false) else false) else false
def AF (g:XG):Rn:=fun i j=>bif bT (bD (.ofNat i) (.ofNat j)) then(bif dq (fc g i) then xJ g (gu g i).toNat j else false) else false
def Lw (g:XG):Rn:=fun i j=>bif bT (bD (.ofNat i) (.ofNat j)) then(bif bT (bD (fc g i).kind 4) then(bif bT (bD (fc g j).kind 4) then bD (fc g i).loc (fc g j).loc else false) else false) else false
def xr (g:XG) (i:Nat):Bool:=bif bD (fc g i).order 3 then true else bif bD (fc g i).order 5 then true else bD (fc g i).order 6
def uJ (g:XG) (i:Nat):Bool:=bif bD (fc g i).order 4 then true else bif bD (fc g i).order 5 then true else bD (fc g i).order 6
theorem yM {g:XG} {id:bV} {e:bW} (h:gf g id=some e):0<=id.index:=by
 obtain⟨th,ix⟩:=id;cases ix with
 | ofNat k=>exact Int.natCast_nonneg k
 | negSucc k=>cases th with
  | ofNat t=>cases t<;>simp[gf] at h
  | negSucc t=>simp[gf] at h
theorem SV {g:XG} (R:eE g) {i:Nat} (hi:i<nV g) (L:dq (fc g i)=true):∃(t k:Nat) (row:List bW) (e:bW) (frow:List bV) (q:bV),gD g i=⟨.ofNat (t+1),.ofNat k⟩/\g.threads[t]? =some row/\row[k]? =some e/\fc g i=e/\g.from_[t]? =some frow/\frow[k]? =some q/\Qm g (gD g i)=q/\∃f,f<nV g/\gD g f=q/\bQ (fc g f)=true/\(fc g f).loc=(fc g i).loc/\q≠gD g i:=by
 rcases lg hi with ⟨x,v,h1,G,h3⟩ | ⟨t,k,row,e,h1,G,h3,M⟩
 ·rw[h3] at L;exact Bool.noConfusion (show false=true from L)
 obtain⟨frow,C⟩:∃frow,g.from_[t]? =some frow:=⟨_,gC (by rw[R.from_];exact(gA.1 G).1)⟩;obtain⟨hl,N⟩:=R.rows t row frow G C;obtain⟨q,hq⟩:∃q,frow[k]? =some q:=⟨_,gC (by rw[hl];exact(gA.1 h3).1)⟩;have hoke:=N k e q h3 hq;unfold Ea at hoke
 have u:gn g ⟨.ofNat (t+1),.ofNat k⟩ q=true:=by
  revert hoke;cases cj e (.ofNat g.init.length)<;>intro hoke
  ·exact Bool.noConfusion (show false=true from hoke)
  exact hoke
 have Q:gf g ⟨.ofNat (t+1),.ofNat k⟩=some e:=by rw[mA,G];exact h3
 rw[M] at L;unfold gn at u;rw[Q] at u;simp only[show xw (some e)=e from Z,L,Bool.not_true,cond_false] at u;cases T:(gf g q).isSome with
 | false=>rw[T] at u;exact Bool.noConfusion (show false=true from u)
 | true=>
  obtain⟨w,hw⟩:=ze_.1 T;rw[hw] at u;simp only[Option.isSome_some,cond_true,show xw (some w)=w from Z] at u;cases hne:dv [q.bM,q.index] [Int.ofNat (t+1),Int.ofNat k] with
  | true=>rw[hne] at u;exact Bool.noConfusion (show false=true from u)
  | false=>
  rw[hne] at u;simp only[cond_false,cond_true] at u;cases E:bQ w with
  | false=>rw[E] at u;exact Bool.noConfusion (show false=true from u)
  | true=>
  rw[E] at u;simp only[cond_true] at u;cases F:bD w.loc e.loc with
  | false=>rw[F] at u;exact Bool.noConfusion (show false=true from u)
  | true=>
  obtain⟨f,hf⟩:=gO_ (Dk hw<|yM hw);have I:f<nV g:=(gA.1 hf).1;have K:gD g f=q:=zs_ ((jd I).symm.trans hf);have A:fc g f=w:=by unfold fc;rw[K,hw];rfl
  refine⟨t,k,row,e,frow,q,h1,G,h3,M,C,hq,?_,f,I,K,by rw[A];exact E,by rw[A,M];rw[dS] at F;simpa using F,?_⟩
  ·unfold Qm;rw[h1];show((((g.from_[t]?).getD [])[k]?).getD ⟨0,0⟩)=q;rw[C];show((frow[k]?).getD ⟨0,0⟩)=q;rw[hq];rfl
  rw[h1];intro e;rw[e] at hne;exact absurd Z<|uP.1 hne
theorem l5 {x y:bV}:dv x.ints y.ints=true↔x=y:=by
 rw[eh];constructor
 ·intro h;obtain⟨a,b⟩:=x;obtain⟨c,d⟩:=y;have h: [a,b]= [c,d]:=h;simp at h;rw[h.1,h.2]
 intro h;rw[h]
theorem lN {g:XG} (E:eE g) {i:Nat} (hi:i<nV g) (A:dq (fc g i)=true):∃f,f<nV g/\gu g i= .ofNat f/\gD g f=Qm g (gD g i)/\bQ (fc g f)=true/\(fc g f).loc=(fc g i).loc/\f≠i:=by
 obtain⟨t,k,row,e,frow,q,h1,h2,h3,h4,h5,h6,C,f,hf,u,hw,hl,hne⟩:=SV E hi A;refine⟨f,hf,?_,by rw[u,C],hw,hl,fun e=>hne (by rw[<-u,e])⟩;unfold gu;rw[A,C]
 have:=uz (p:=fun x:bV=>dv x.ints q.ints) (l:=jY g) (i:=0) (n:=f) (by rw[jd hf,u]) (l5.2 Z) fun k y hk hy=>by
  cases F:dv y.ints q.ints with
  | false=>rfl
  | true=>
   rw[l5.1 F] at hy;have:=uy hy (by rw[jd hf,u]);omega
 rw[nA_] at this;exact this
inductive Sq (g:XG) (w:Nat):Nat->Prop where
 | base:Sq g w w
 | step {i f:Nat} (hi:i<nV g) (hk:bD (fc g i).kind 3=true) (hf:gu g i= .ofNat f) (h:Sq g w f):Sq g w i
open Classical in
def wc (g:XG) (w:Nat):Nat->Bool:=fun k=>decide (Sq g w k)
theorem Aj {g:XG} {w k:Nat}:wc g w k=true↔Sq g w k:=by unfold wc;simp
def xu (n:Nat) (p:Nat->Bool):Nat:=((List.range n).filter p).length
theorem QV (n:Nat) (p:Nat->Bool):xu n p<=n:=by
 unfold xu;have:=List.length_filter_le p (List.range n);simpa using this
theorem KD {n:Nat} {p q:Nat->Bool} (h:∀k,p k=true->q k=true):xu n p<=xu n q:=(filter_lt fun x _=>h x).1
theorem qF {e:bW} (h:bD e.kind 3=true):dq e=true:=by unfold dq;rw[h];cases bD e.kind 1<;>rfl
theorem l6 {n:Nat} {R:Rn} {a b:Nat}:(a,b)∈tC n R↔a<n/\b<n/\R a b=true:=by
 unfold tC;simp only[List.mem_flatMap,List.mem_range,zn_,List.mem_filter];constructor
 ·rintro ⟨x,hx,y,⟨hy,u⟩,he⟩;cases he;exact⟨hx,hy,u⟩
 rintro ⟨A,hb,u⟩;exact⟨a,A,b,⟨hb,u⟩,Z⟩
theorem Jr {l:List (Nat×Nat)} {a b:Nat}:Gv l a b=true↔(a,b)∈l:=by
 unfold Gv;simp only[List.any_eq_true,bA_,beq_iff_eq];constructor
 ·rintro ⟨⟨x,y⟩,hm,h1,u⟩;cases h1;cases u;exact hm
 intro h;exact⟨(a,b),h,Z,Z⟩
theorem LB {n:Nat} {R:Rn}:cy n (Gv<|tC n R)=cy n R:=by
 refine dL fun a b u hb=>?_
 rw[zd_,Jr,l6];exact⟨fun h=>h.2.2,fun h=>⟨u,hb,h⟩⟩
theorem OP {n:Nat} {R:Rn}:∀p∈tC n R,p.1<n/\p.2<n:=fun⟨a,b⟩ h=>⟨(l6.1 h).1,(l6.1 h).2.1⟩
abbrev Qn (t k:Nat):bV:=⟨.ofNat (t+1),.ofNat k⟩
structure Rk (g:XG) (τ:bV->Nat) (N:Nat):Prop where
 YL:∀x:Int,τ ⟨0,x⟩=0
 pos:∀(t k:Nat) (row:List bW) (e:bW),g.threads[t]? =some row->row[k]? =some e->1<=τ (Qn t k)/\τ (Qn t k)<=N
 po:∀(t j k:Nat) (row:List bW) (e:bW),j<k->g.threads[t]? =some row->row[k]? =some e->τ (Qn t j)<τ (Qn t k)
 rf:∀(t k:Nat) (row:List bW) (e:bW) (frow:List bV) (q:bV),g.threads[t]? =some row->row[k]? =some e->dq e=true->g.from_[t]? =some frow->frow[k]? =some q->τ q<τ (Qn t k)
 src:∀(t k:Nat) (row:List bW) (e:bW) (frow:List bV) (q:bV),g.threads[t]? =some row->row[k]? =some e->dq e=true->g.from_[t]? =some frow->frow[k]? =some q->q.bM=0∨∃(s j:Nat) (l:List bW) (w:bW),q=Qn s j/\g.threads[s]? =some l/\l[j]? =some w
 mem:∀(ln:Nat) (r:List bV) (j:Nat) (b:bV),g.order[ln]? =some r->r[j]? =some b->∃(t k:Nat) (row:List bW) (e:bW),b=Qn t k/\g.threads[t]? =some row/\row[k]? =some e
 co:∀(ln:Nat) (r:List bV) (i j:Nat) (a b:bV),g.order[ln]? =some r->r[i]? =some a->r[j]? =some b->i<j->τ a<τ b
 fr:∀(t k:Nat) (row:List bW) (e:bW) (frow:List bV) (q:bV) (ln:Nat) (r:List bV) (j:Nat) (b:bV),g.threads[t]? =some row->row[k]? =some e->dq e=true->g.from_[t]? =some frow->frow[k]? =some q->e.loc= .ofNat ln->g.order[ln]? =some r->r[j]? =some b->(∀i,r[i]? =some q->i<j)->b≠Qn t k->τ (Qn t k)<τ b
 up:∀(t k:Nat) (row:List bW) (e:bW) (frow:List bV) (q:bV) (ln:Nat) (r:List bV),g.threads[t]? =some row->row[k]? =some e->bD e.kind 3=true->g.from_[t]? =some frow->frow[k]? =some q->e.loc= .ofNat ln->g.order[ln]? =some r->∃j,r[j]? =some (Qn t k)/\((j=0/\q=⟨0,.ofNat ln⟩)∨∃i,j=i+1/\r[i]? =some q)
def Stop (s:TS):Prop:=s.asks=true∨s.fin≠0
theorem Ap {k:Nat} {c:XC} {s:TS} {x:XI} (hx:c.ins[s.at_]? =some x) (h:(cK k c s).2=false):Stop (cK k c s).1/\(cK k c s).1.at_=s.at_/\(cK k c s).1.events=s.events:=by
 obtain⟨P,A⟩:∃P:TS×Bool->Prop,P=fun r=>r.2=false->Stop r.1/\r.1.at_=s.at_/\r.1.events=s.events:=⟨_,Z⟩
 have u:∀r:TS×Bool,r.2=true->P r:=fun r h1=>by rw[A];intro C;rw[h1] at C;cases C
 have hf:∀r:TS×Bool,r.1.fin≠0->r.1.at_=s.at_->r.1.events=s.events->P r:=fun r h1 C h3=>by rw[A];exact fun _=>⟨.inr h1,C,h3⟩
 have:P (cK k c s):=by
  unfold cK;rw[hx];dsimp only;unfold gk;refine cG _ (u _ Z)<|cG _ (u _ Z)<|cG _ (u _ Z)<|cG _ (cG _ (hf _ (show(_:Int)≠0 from fun e=>by cases e) Z Z)<|u _ Z)<|cG _ (cG _ (hf _ (show(_:Int)≠0 from fun e=>by cases e) Z Z)<|u _ Z)<|cG _ (u _ Z)<|cG _ (cG _ (u _ Z)<|u _ Z)<|cG _ (hf _ (show(_:Int)≠0 from fun e=>by cases e) Z Z)<|cG _ (hf _ (show(_:Int)≠0 from fun e=>by cases e) Z Z) ?_;rw[A];exact fun _=>⟨.inl Z,Z,Z⟩
 rw[A] at this;exact this h
section
variable {k:Nat} {c:XC} {out:List Nat} {P:TS->Prop}
theorem Dh (hc:eO k c) (u:ft (du c) c.ins.length out) (E:∀s,P s->s.asks=false->s.at_∈out->P (cK k c s).1):
  ∀(f q:Nat) (s:TS),s.asks=false->out[q]? =some s.at_->q<f->P s->P (vo k c f s)/\(vo k c f s).at_∈out/\Stop (vo k c f s)
 | 0,_,_,_,_,h,_=>absurd h (nZ_ _)
 | f+1,q,s,F,hq,aa,G=>by
  obtain⟨x,hx⟩:=da (u.lt s.at_<|gB_ hq);have hp:=E s G F (gB_ hq);have hk:=Cr hc F;show P (bif (cK k c s).2 then vo k c f (cK k c s).1 else(cK k c s).1)/\(bif (cK k c s).2 then vo k c f (cK k c s).1 else(cK k c s).1).at_∈out/\Stop (bif (cK k c s).2 then vo k c f (cK k c s).1 else(cK k c s).1);cases A:(cK k c s).2 with
  | true=>
   obtain⟨q',ab,C⟩:=u.H2 q s.at_ hq _ (pL hx A);exact Dh hc u E f q' _ (hk.2 A) C oM hp
  | false=>
   obtain⟨h3,I,_⟩:=Ap hx A;exact⟨hp,by rw[show(bif false then vo k c f (cK k c s).1 else(cK k c s).1).at_=s.at_ from I];exact gB_ hq,h3⟩
theorem FU (hc:eO k c) (F:eV c=some out) (E:ft (du c) c.ins.length out) (G:∀s,P s->s.asks=false->s.at_∈out->P (cK k c s).1) (I:∀s v,P s->iI c s->s.asks=true->s.at_∈out->P (eJ k c s v)):
  ∀(A:List Int) (s:TS),iI c s->P s->s.at_∈out->Stop s->P (nP k c A s)/\(nP k c A s).at_∈out/\Stop (nP k c A s)
 | [],s,_,h,u,h3=>⟨h,u,h3⟩
 | v::r,s,hk,h,u,h3=>by
  show P (bif s.asks then nP k c r (fo k c s v) else s)/\(bif s.asks then nP k c r (fo k c s v) else s).at_∈out/\Stop (bif s.asks then nP k c r (fo k c s v) else s);cases K:s.asks with
  | false=>exact⟨h,u,h3⟩
  | true=>
   obtain⟨q,hq⟩:=gO_ u;obtain⟨q',aa,C⟩:=E.H2 q s.at_ hq _ (yq (k:=k) hk K v);have hl:=(gA.1 C).1;have hf:iL c=out.length:=by unfold iL;rw[F];rfl
   obtain⟨L,h5,M⟩:=Dh hc E G (iL c) q' (eJ k c s v) Z C oM (I s v h hk K u);exact FU hc F E G I r _ (qa hc s v) L h5 M
theorem FV (hc:eO k c) (C:eV c=some out) (u:ft (du c) c.ins.length out) (E:∀s,P s->s.asks=false->s.at_∈out->P (cK k c s).1) (F:∀s v,P s->iI c s->s.asks=true->s.at_∈out->P (eJ k c s v))
  (h0:P ⟨0,List.replicate c.bE.toNat 0,[],0,0,false⟩) (A:List Int):P (eM k c A)/\(eM k c A).at_∈out/\Stop (eM k c A)/\iI c (eM k c A):=by
 obtain⟨q,hq⟩:=gO_ u.zero;have hl:=(gA.1 hq).1;have hf:iL c=out.length:=by unfold iL;rw[C];rfl
 obtain⟨h1,G,h3⟩:=Dh hc u E (iL c) q ⟨0,List.replicate c.bE.toNat 0,[],0,0,false⟩ Z hq oM h0;obtain⟨I,h5,K⟩:=FU hc C u E F A _ (pg hc) h1 G h3;exact⟨I,h5,K,(tK hc A _<|pg hc).1⟩
theorem Mg {s:TS} {x:XI} (hx:c.ins[s.at_]? =some x):(cK k c s).1.events.length<=s.events.length+wA c s.at_:=by
 have hw:wA c s.at_=wK x.kind:=by unfold wA;rw[hx]
 rw[hw];obtain⟨P,u⟩:∃P:TS×Bool->Prop,P=fun r=>r.1.events.length<=s.events.length+wK x.kind:=⟨_,Z⟩
 have h0:∀r:TS×Bool,r.1.events=s.events->P r:=fun r h1=>by rw[u];dsimp only;rw[h1];omega
 have h1:∀(r:TS×Bool) (e:bW),wK x.kind=1->r.1.events=s.events++[e]->P r:=fun r e h1 A=>by rw[u];dsimp only;rw[A,h1];simp
 have hk:∀n:Int,bD x.kind n=true->wK n=1->wK x.kind=1:=fun n h A=>by rw[dS,decide_eq_true_iff] at h;rw[h];exact A
 have:P (cK k c s):=by
  unfold cK;rw[hx];dsimp only;unfold gk;refine fg _ (fun _=>h0 _ Z) fun _=>fg _ (fun e=>h1 _ _ (hk _ e Z) Z) fun _=>fg _ (fun e=>h1 _ _ (hk _ e Z) Z) fun _=>(cG _ (cG _ (h0 _ Z)<|h0 _ Z)<|cG _ (cG _ (h0 _ Z)<|h0 _ Z)<|cG _ (h0 _ Z)<|cG _ (cG _ (h0 _ Z)<|h0 _ Z)<|cG _ (h0 _ Z)<|cG _ (h0 _ Z)<|h0 _ Z)
 rw[u] at this;exact this
def oZ (c:XC) (out:List Nat) (i:Nat):Nat:=Ll (wA c) (du c) out.length i
theorem vr (u:ft (du c) c.ins.length out) {i to:Nat} (hi:i∈out) (A:to∈du c i):oZ c out to+wA c i<=oZ c out i:=by
 have h:=Je (w:=wA c) u hi;unfold oZ;rw[h];exact Nat.add_le_add_right (xO (f:=Ll (wA c) (du c) out.length) A) _
theorem GA (hc:eO k c) (u:dJ k c=0) (A:eV c=some out) (C:ft (du c) c.ins.length out):pT k c= .ofNat (oZ c out 0):=by
 have hol:=rS hc A;obtain⟨p,hp⟩:=gO_ C.zero;have h0:=BW hc hol C out.length (nR_ _) p (gA.1 hp).1 0 hp;rw[List.take_length] at h0;unfold pT;rw[u];show(match eV c with | some out=>((jo c out<|List.replicate c.ins.length 0)[0]?).getD 0 | none=>-1)=_;rw[A];show((jo c out<|List.replicate c.ins.length 0)[0]?).getD 0=_;rw[h0];rfl
theorem JQ (hc:eO k c) (G:eV c=some out) (C:ft (du c) c.ins.length out) (A:List Int):
  (eM k c A).events.length<=oZ c out 0/\((eM k c A).asks=true->(eM k c A).events.length+1<=oZ c out 0)/\Stop (eM k c A):=by
 have I:∀s:TS,s.events.length+oZ c out s.at_<=oZ c out 0->s.asks=false->s.at_∈out->(cK k c s).1.events.length+oZ c out (cK k c s).1.at_<=oZ c out 0:=by
  intro s h _ hm;obtain⟨x,hx⟩:=da (C.lt s.at_ hm);cases F:(cK k c s).2 with
  | true=>
   have h3:=vr C hm (pL hx F);have h4:=Mg (k:=k) hx;omega
  | false=>
   obtain⟨_,h4,h5⟩:=Ap hx F;rw[h4,h5];exact h
 have K:∀(s:TS) (v:Int),s.events.length+oZ c out s.at_<=oZ c out 0->iI c s->s.asks=true->s.at_∈out->(eJ k c s v).events.length+oZ c out (eJ k c s v).at_<=oZ c out 0:=by
  intro s v h hk E hm;have h3:=vr C hm (yq (k:=k) hk E v);obtain⟨x,hx,u⟩:=hk E
  have hw:wA c s.at_=1:=by
   unfold wA;rw[hx];show wK x.kind=1;rcases u with e | e | e | e<;>rw[e]<;>rfl
  have h4:(eJ k c s v).events.length=s.events.length+1:=by unfold eJ;simp
  omega
 obtain⟨h1,F,h3,h4⟩:=FV (P:=fun s=>s.events.length+oZ c out s.at_<=oZ c out 0) hc G C I K (by show 0+oZ c out 0<=_;omega) A;refine⟨by omega,fun E=>?_,h3⟩;obtain⟨x,hx,u⟩:=h4 E;have h5:=yq (k:=k) h4 E 0;have h6:=vr C F h5
 have hw:wA c (eM k c A).at_=1:=by
  unfold wA;rw[hx];show wK x.kind=1;rcases u with e | e | e | e<;>rw[e]<;>rfl
 omega
end
variable {L:Own} {g:XG} {bi e1:Nat} {lv vi:Y}
def AS (x:XI):Bool:=bif bD x.kind 2 then true else bif bD x.kind 3 then true else bif bD x.kind 4 then true else bif bD x.kind 5 then true else bD x.kind 6
def uu (n:Int) (x:XI):Bool:=bif AS x then bT (cW x.loc n) else false
def Ba (k:Nat) (c:XC):Bool:=bif cW 16 c.bE then true else cW 14 (pT k c)
def AM (k:Nat) (n:Int) (c:XC):Bool:=bif kZ k c then c.ins.any (uu n) else true
def wM (k:Nat) (init:List Int) (l:List XC):Int:=
 bif cW 4 (.ofNat l.length) then 3 else bif cW 6 (.ofNat init.length) then 3 else bif l.any (Ba k) then 3 else bif l.any (AM k (.ofNat init.length)) then 2 else bif bD (.ofNat l.length) 0 then 2 else 0
structure XY (k:Nat) (init:List Int) (l:List XC):Prop where
 len:l.length<=4
 init:init.length<=6
 pos:0<l.length
 flat:∀c∈l,kZ k c=true
theorem Mz (I:Plain G) {k:Nat} {x:XI} (h:jA K k x vs) (O:H V K L):Ca G K L 64 [.agg vs] V <| .bool (AS x):=by
 obtain⟨w,rfl,hk⟩:=h;refine XD I Tryz.func64 Z<|Xb 2 Z<|kb O (cL Z Z) (fun V b1 O=>?_);refine VF O 8 [0,0] Z Z<|Wm 3 Z<|Wi 3 Z<|ky Z (aB Z Z Z) (fun u=>?_) (fun u=>?_)
 ·refine Wq 13 Z<|aI<|aA (?_);exact az Z Z ⟨cB (by unfold AS;simp only[u,ct,cf]),O.pop⟩
 refine Wo 6 Z<|ky Z (aB Z Z Z) (fun C=>?_) (fun C=>?_)
 ·refine Wq 13 Z<|aI<|aA (?_);exact az Z Z ⟨cB (by unfold AS;simp only[u,C,ct,cf]),O.pop⟩
 refine Wo 6 Z<|ky Z (aB Z Z Z) (fun E=>?_) (fun E=>?_)
 ·refine Wq 13 Z<|aI<|aA (?_);exact az Z Z ⟨cB (by unfold AS;simp only[u,C,E,ct,cf]),O.pop⟩
 refine Wo 6 Z<|ky Z (aB Z Z Z) (fun F=>?_) (fun F=>?_)
 ·refine Wq 13 Z<|aI<|aA (?_);exact az Z Z ⟨cB (by unfold AS;simp only[u,C,E,F,ct,cf]),O.pop⟩
 refine Xe 5 Z<|ky Z (aB Z Z Z) (fun A=>?_) (fun A=>?_)
 ·refine Xf 10 Z<|aI<|aA (?_);exact az Z Z ⟨cB (by unfold AS;simp only[u,C,E,F,A,ct,cf]),O.pop⟩
 refine Wp 6 Z<|XN 6 Z ?_;exact az Z Z ⟨cB (by unfold AS;simp only[u,C,E,F,A,ct,cf]),O.pop⟩
theorem V6 (A:Plain G) {k:Nat} {x:XI} (h:jA K k x vs) {init:List Int} (hi:bG K 1 dB init vi) {ro:Bool} (hb:K bi (.row [vi] e1 ro)) (O:H V K L):Ca G K L 63 [.agg vs,.ptr bi 0] V <| .bool (uu (.ofNat init.length) x):=by
 have h0:=h;obtain⟨w,rfl,hk⟩:=h;refine XD A Tryz.func63 Z<|Xb 2 Z<|kb O (cL Z Z) (fun V b1 O=>?_);refine Wo 5 Z<|S Z (YH Z O.g0 Z) Z<|kx (Yu Z Z Z) (Mz A h0 O) (fun V O=>?_);refine ky Z (an Z) (fun u=>?_) (fun u=>?_)
 ·refine XS O 2 [2,0] Z Z<|S Z (Yw Z (O.bJ hb) Z) Z<|S Z (Yx hi Z Z Z (e:=2) Z) Z<|Xf 6 Z ?_;exact az Z Z ⟨cB (by unfold uu bT;rw[u]<;>rfl),O.pop⟩
 refine Xf 10 Z ?_;exact az Z Z ⟨cB (by unfold uu bT;rw[u]<;>rfl),O.pop⟩
theorem DT (R:Plain G) {k:Nat} {l:List XI} {v:Y} {p:XI->Bool} (h:bG K 6 (jA K k) l v) (O:H V K L) (E:∀x u V L,H V K L->jA K k x u->EC G 63 [.agg u,.ptr bi 0] V fun v V'=>v= .bool (p x)/\H V' K L):
  EC G 102 [v,.func 63 [] [.ptr bi 0]] V fun v V'=>v= .int .i64 (fK p l 0)/\H V' K L:=by
 refine XD R Tryz.func102 Z<|Wi 9 Z<|S Z (Yx h Z Z Z (e:=78) Z) Z<|Wm 4 Z ?_;obtain⟨LL1,O,hLL1⟩:=O.named;refine bq ([4,5]++rg 8 11) (fun j t V=>∃(i:Nat),j+i=l.length/\fK p l 0=fK p (l.drop i) i/\t.get 8=some (nI i)/\H V K LL1) (l.length) ⟨0,Z,Z,Z,O⟩ ?_;clear O;intro T t V ar W;obtain⟨i,hj,he,N,O⟩:=W;subst hLL1;obtain⟨oo,rfl⟩:=ar.q1 N Z;refine Xa 6 Z<|aG Z (fun Q=>?_) (fun Q=>?_)
 ·refine UY 15 Z ?_;obtain⟨F,A,aa⟩:=dh Q;refine Yp (e:=78) (m:=6) h A Z Z Z Z (fun ao ab M ac C=>?_);have hr14raw:=C;have hr14':=C;obtain⟨ap,rfl,am⟩:=hr14';refine S Z (YA O M Z Z) Z<|kx (Yu Z Z Z) (E F _ _ _ O hr14raw) (fun V O=>?_);refine Xd 2 Z<|aG Z (fun I=>?_) (fun I=>?_)
  ·refine XN 7 Z<|aI<|aA<|bP<|aI<|aA (?_);exact az Z Z ⟨cJ (by symm;rw[he,cT A];show(bif p F then _ else _)=_;rw[I];rfl),O⟩
  refine aH<|aD<|XK 4 Z<|aJ ⟨T-1,by omega,oF,i+1,by omega,by rw[he,cT A];show(bif p F then _ else _)=_;rw[I];rfl,cI<|a6 (by have:=h.cQ;omega),O⟩
 refine Wl 3 Z<|aQ<|XN 6 Z ?_;exact az Z Z ⟨cJ (by symm;rw[he,eK<|bI Q];rfl),O⟩
theorem xD (C:Plain G) {k:Nat} {l:List XI} {v:Y} {p:XI->Bool} (h:bG K 6 (jA K k) l v) (O:H V K L) (A:∀x u V L,H V K L->jA K k x u->EC G 63 [.agg u,.ptr bi 0] V fun v V'=>v= .bool (p x)/\H V' K L):
  EC G 65 [v,.func 63 [] [.ptr bi 0]] V fun v V'=>v= .bool (l.any p)/\H V' K L:=by
 refine XD C Tryz.func65 Z<|Xb 9 Z<|kx (Yu Z Z Z) (DT C h O A) (fun V O=>?_);refine Xf 5 Z ?_;exact az Z Z ⟨cB<|zk _ _,O⟩
theorem My (hG:Plain G) (hgl:sf G K) {k:Nat} {init:List Int} (hi:bG K 1 dB init vi) {l:List XC} (hl:bG K 2 (sg K k) l lv) (O:H V K L):
  Ca G K L 23 [vi,lv] V <| .int .i64 (wM k init l):=by
 refine XD hG Tryz.func23 Z<|Xb 2 Z<|kb O (cL Z hi.leaf.1) (fun V b1 O=>?_);obtain⟨K1,hle,X,O⟩:=O.bZ (M:=[_]);have hb:=X _ (.head _);clear X;dsimp only at hb;replace hgl:=hgl.mono hle;replace hi:=hi.mono hle fun _ _ h=>h;replace hl:=hl.mono hle fun _ _ h=>h.mono hle
 refine VE 7 Z<|S Z (Yx hl Z Z Z (e:=49) Z) Z<|vQ 1 Z<|ky Z (an Z) (fun A=>?_) (fun A=>?_)
 ·refine Wq 14 Z ?_;exact az Z Z ⟨cJ (by symm;unfold wM;rw[A];rfl),O.weaken hle⟩
 refine S Z (Yw Z (O.bJ hb) Z) Z<|S Z (Yx hi Z Z Z (e:=2) Z) Z<|Xd 4 Z<|aG Z (fun ab=>?_) (fun ab=>?_)
 ·refine Xc 7 Z ?_;exact az Z Z ⟨cJ (by symm;unfold wM;rw[A,show cW 6 (.ofNat init.length)=true from ab];rfl),O.weaken hle⟩
 have h17x:cW 6 (.ofNat init.length)=false:=ab;refine VD 6 Z<|S Z (Yx hl Z Z Z (e:=49) Z) Z<|Wm 4 Z ?_;obtain⟨LL1,O,hLL1⟩:=O.named;refine bq ([4,6]++rg 20 13) (fun j t V=>∃(i:Nat),j+i=l.length/\(l.take i).any (Ba k)=false/\t.get 20=some (nI i)/\H V K1 LL1) (l.length) ⟨0,Z,Z,Z,O⟩ ?_;clear O;intro j4 t V ar hI;obtain⟨i,bf,I,ax,O⟩:=hI;subst hLL1;obtain⟨oo,rfl⟩:=ar.q1 ax Z;refine Xa 6 Z<|aG Z (fun F=>?_) (fun F=>?_)
 ·refine UY 6 Z ?_;obtain⟨ac,C,a5⟩:=dh F;refine Yp (e:=49) (m:=2) hl C Z Z Z Z (fun bg a9 aE ba a0=>?_);have hr22':=a0;obtain⟨bi,rfl,aa⟩:=hr22';refine S Z (YA O aE Z Z) Z<|kb O (Yy (cs:=[iZ,.aw])) (fun V b2 O=>?_);refine ks O (UM Z Z Z O.g0 (m:=2) Z (aj Z<|aj aa.leaf.2 aC) (cells':=[_,_]) Z) (fun V O=>?_);refine Wu O 7 [0,0] Z Z<|ky Z (an Z) (fun R=>?_) (fun R=>?_)
  ·refine Xf 13 Z<|aI<|aA<|bP<|aI<|aA (?_);exact az Z Z ⟨cJ (by symm;unfold wM;rw[A,show cW 6 (.ofNat init.length)=false from h17x,CQ C (show Ba k ac=true from by unfold Ba;rw[R];rfl)];rfl),(O.pop).weaken hle⟩
  refine S Z (YE Z O.g0 Z) Z<|kx (Yu Z Z Z) (Au hG hgl aa O) (fun V O=>?_);refine Xd 4 Z<|aG Z (fun am=>?_) (fun am=>?_)
  ·refine XN 6 Z<|aI<|aA<|bP<|aI<|aA (?_);exact az Z Z ⟨cJ (by symm;unfold wM;rw[A,show cW 6 (.ofNat init.length)=false from h17x,CQ C (show Ba k ac=true from by unfold Ba;rw[R];exact am)];rfl),(O.pop).weaken hle⟩
  refine aH<|aD<|XK 4 Z ?_;have O:=O.pop;refine aJ ⟨j4-1,by omega,oF,i+1,by omega,Em I C (show Ba k ac=false from by unfold Ba;rw[R];exact am),cI<|a6 (by have:=hl.cQ;omega),O⟩
 refine Wl 3 Z<|aQ<|Wi 4 Z<|S Z (Yx hl Z Z Z (e:=49) Z) Z<|Wm 4 Z ?_;obtain⟨LL2,O,hLL2⟩:=O.named;refine bq ([4,8,9]++rg 35 13) (fun j t V=>∃(i:Nat),j+i=l.length/\(l.take i).any (AM k (.ofNat init.length))=false/\t.get 35=some (nI i)/\H V K1 LL2) (l.length) ⟨0,Z,Z,Z,O⟩ ?_;clear O;intro a4 t V ar hI;obtain⟨i,bb,N,a1,O⟩:=hI;subst hLL2;obtain⟨oo,rfl⟩:=ar.q1 a1 Z;refine Xa 6 Z<|aG Z (fun T=>?_) (fun T=>?_)
 ·refine UY 6 Z ?_;obtain⟨ao,E,bc⟩:=dh T;refine Yp (e:=49) (m:=2) hl E Z Z Z Z (fun bl bd a2 be a3=>?_);have hr37':=a3;obtain⟨bm,rfl,Q⟩:=hr37';refine S Z (YA O a2 Z Z) Z<|kb O (Yy (cs:=[iZ,.aw])) (fun V b2 O=>?_);refine ks O (UM Z Z Z O.g0 (m:=2) Z (aj Z<|aj Q.leaf.2 aC) (cells':=[_,_]) Z) (fun V O=>?_);refine VE 5 Z<|S Z (YE Z O.g0 Z) Z<|kx (Yu Z Z Z) (Iu hG hgl Q O) (fun V O=>?_);refine S Z (ek Z) Z<|Xd 2 Z<|aG Z (fun W=>?_) (fun W=>?_)
  ·refine XN 6 Z<|aA<|aI<|aA<|bP<|aI<|aA (?_);exact az Z Z ⟨cJ (by symm;unfold wM;rw[A,show cW 6 (.ofNat init.length)=false from h17x,rB I<|bI F,CQ E (show AM k _ ao=true from by unfold AM;rw[sL W];rfl)];rfl),(O.pop).weaken hle⟩
  refine Wk 10 Z (XS O 3 [1,0] Z Z (kx (Yu Z Z Z) (xD hG Q O (p:=uu (.ofNat init.length)) fun x u V L O h=>V6 hG h hi hb O) (fun V O=>?_)));refine Xd 2 Z<|aG Z (fun ap=>?_) (fun ap=>?_)
  ·refine XN 6 Z<|aI<|aA<|bP<|aI<|aA (?_);exact az Z Z ⟨cJ (by symm;unfold wM;rw[A,show cW 6 (.ofNat init.length)=false from h17x,rB I<|bI F,CQ E (show AM k _ ao=true from by unfold AM;rw[mM W];exact ap)];rfl),(O.pop).weaken hle⟩
  refine aH<|aD<|XK 4 Z ?_;have O:=O.pop;refine aJ ⟨a4-1,by omega,oF,i+1,by omega,Em N E (show AM k _ ao=false from by unfold AM;rw[mM W];exact ap),cI<|a6 (by have:=hl.cQ;omega),O⟩
 refine Wl 3 Z<|aQ<|Wi 4 Z<|S Z (Yx hl Z Z Z (e:=49) Z) Z<|Xd 3 Z<|aG Z (fun aq=>?_) (fun aq=>?_)
 ·refine Xc 7 Z ?_;exact az Z Z ⟨cJ (by symm;unfold wM;rw[A,show cW 6 (.ofNat init.length)=false from h17x,rB I<|bI F,rB N<|bI T,show bD (.ofNat l.length) 0=true from aq];rfl),O.weaken hle⟩
 refine Xc 8 Z ?_;exact az Z Z ⟨cJ (by symm;unfold wM;rw[A,show cW 6 (.ofNat init.length)=false from h17x,rB I<|bI F,rB N<|bI T,show bD (.ofNat l.length) 0=false from aq];rfl),O.weaken hle⟩
variable {nins:Int}
theorem Q7 {k:Nat} {init:List Int} {l:List XC} (h:wM k init l=0):∀c∈l,c.bE<=16/\pT k c<=14/\kZ k c=true/\∀x∈c.ins,uu (.ofNat init.length) x=false:=by
 unfold wM at h;cases h1:cW 4 (.ofNat l.length) with
 | true=>rw[h1] at h;cases h
 | false=>
 cases u:cW 6 (.ofNat init.length) with
 | true=>rw[h1,u] at h;cases h
 | false=>
 cases h3:l.any (Ba k) with
 | true=>rw[h1,u,h3] at h;cases h
 | false=>
 cases A:l.any (AM k (.ofNat init.length)) with
 | true=>rw[h1,u,h3,A] at h;cases h
 | false=>
 intro c hc;have t3:=List.any_eq_false.1 h3 c hc;have t4:=List.any_eq_false.1 A c hc;unfold Ba at t3;unfold AM at t4;cases h5:cW 16 c.bE with
 | true=>rw[h5] at t3;exact absurd Z t3
 | false=>
 rw[h5] at t3;cases C:cW 14 (pT k c) with
 | true=>rw[C] at t3;exact absurd Z t3
 | false=>
 cases E:kZ k c with
 | false=>rw[E] at t4;exact absurd Z t4
 | true=>
 rw[E] at t4;rw[eQ,decide_eq_false_iff_not] at h5 C;refine⟨by omega,by omega,Z,fun x hx=>?_⟩;cases F:uu (.ofNat init.length) x with
 | false=>rfl
 | true=>exact absurd (List.any_eq_true.2 ⟨x,hx,F⟩) t4
theorem xl {n a b:Int} (h:eF n a b true=true):a<=n/\n<b:=by
 unfold eF at h;simp only[cond_true] at h;cases h1:cW n a with
 | true=>rw[h1] at h;cases h
 | false=>
  rw[h1] at h;have h:cW n b=true:=h;rw[eQ] at h1 h;rw[decide_eq_false_iff_not] at h1;rw[decide_eq_true_iff] at h;omega
theorem AX {bE:Int} {k:Nat} {x:XI} {sh:kN} (h:ig bE nins k x sh=true):eF x.loc 0 6 sh.loc=true/\eF x.order 1 7 sh.order=true:=by
 unfold ig at h;cases h1:eF x.z6 0 bE sh.z6<;>rw[h1] at h
 ·cases h
 cases u:eF x.loc 0 6 sh.loc<;>rw[u] at h
 ·cases h
 cases h3:eF x.order 1 7 sh.order<;>rw[h3] at h
 ·cases h
 exact⟨Z,Z⟩
theorem vu {bE:Int} {k:Nat} {x:XI} (h:iB bE nins k x=true) (hk:x.kind=2∨x.kind=3∨x.kind=4∨x.kind=5∨x.kind=6∨x.kind=7):(1<=x.order/\x.order<=6)/\(x.kind≠7->0<=x.loc):=by
 obtain⟨n,sh,hn,h1,h2,C,E⟩:=js h;obtain⟨h3,A⟩:=AX E
 have key:sh.order=true/\(n≠7->sh.loc=true):=by
  have u:n=2∨n=3∨n=4∨n=5∨n=6∨n=7:=by
   rw[hn] at hk;have:((n:Nat):Int)=2∨((n:Nat):Int)=3∨((n:Nat):Int)=4∨((n:Nat):Int)=5∨((n:Nat):Int)=6∨((n:Nat):Int)=7:=hk;omega
  rcases u with rfl | rfl | rfl | rfl | rfl | rfl<;>cases C<;>first | exact⟨rfl,fun _=>Z⟩ | exact⟨rfl,fun h=>absurd rfl h⟩
 rw[key.1] at A;have h5:=xl A;refine⟨by omega,fun F=>?_⟩;have:n≠7:=fun e=>F (by rw[hn,e];rfl)
 rw[key.2 this] at h3;exact(xl h3).1
theorem NK {n:Int} {x:XI} (h:uu n x=false) (hk:x.kind=2∨x.kind=3∨x.kind=4∨x.kind=5∨x.kind=6):x.loc<n:=by
 have hl:AS x=true:=by unfold AS;rcases hk with e | e | e | e | e<;>rw[e]<;>rfl
 unfold uu at h;rw[hl] at h;have h:bT (cW x.loc n)=false:=h;cases h1:cW x.loc n with
 | false=>rw[h1] at h;cases h
 | true=>rw[eQ] at h1;exact of_decide_eq_true h1
section
variable {loc o v w n:Int}
theorem rI (ho:1<=o/\o<=6):cW o 1=false/\cW 6 o=false:=by
 rw[eQ,eQ,decide_eq_false_iff_not,decide_eq_false_iff_not];omega
theorem Dd (hl:0<=loc/\loc<n):(bif bT (cW loc 0) then cW loc n else false)=true:=by
 rw[show cW loc 0=false by rw[eQ,decide_eq_false_iff_not];omega,show cW loc n=true by rw[eQ];exact decide_eq_true hl.2];rfl
theorem Vd (u:1<=o/\o<=6) (hl:0<=loc/\loc<n):cj ⟨1,loc,o,v,0⟩ n=true:=by
 obtain⟨h1,A⟩:=rI u;unfold cj;dsimp only;rw[h1,A];exact Dd hl
theorem WT (u:1<=o/\o<=6) (hl:0<=loc/\loc<n):cj ⟨2,loc,o,0,v⟩ n=true:=by
 obtain⟨h1,A⟩:=rI u;unfold cj;dsimp only;rw[h1,A];exact Dd hl
theorem TD (u:1<=o/\o<=6) (hl:0<=loc/\loc<n):cj ⟨3,loc,o,v,w⟩ n=true:=by
 obtain⟨h1,A⟩:=rI u;unfold cj;dsimp only;rw[h1,A];exact Dd hl
theorem WU (u:1<=o/\o<=6):cj ⟨4,0,o,0,0⟩ n=true:=by
 obtain⟨h1,A⟩:=rI u;unfold cj;dsimp only;rw[h1,A];rfl
end
section
variable {k:Nat} {c:XC} {out:List Nat} {n:Int}
theorem F4 (hc:eO k c) (hf:∀x∈c.ins,uu n x=false) {s:TS} (h:∀e∈s.events,cj e n=true):∀e∈(cK k c s).1.events,cj e n=true:=by
 obtain⟨P,A⟩:∃P:TS×Bool->Prop,P=fun r=>∀e∈r.1.events,cj e n=true:=⟨_,Z⟩
 have h0:∀r:TS×Bool,r.1.events=s.events->P r:=fun r h1=>by rw[A];dsimp only;rw[h1];exact h
 have h1:∀(r:TS×Bool) (e:bW),cj e n=true->r.1.events=s.events++[e]->P r:=fun r e h1 u=>by
  rw[A];dsimp only;rw[u];intro e' C;rcases List.mem_append.1 C with h3 | h3
  ·exact h e' h3
  rw[List.mem_singleton.1 h3];exact h1
 have:P (cK k c s):=by
  unfold cK;cases hx:c.ins[s.at_]? with
  | none=>exact h0 _ Z
  | some x=>
   have hm:=gB_ hx;have hr:=hc.right x hm;have hk:∀m:Int,bD x.kind m=true->x.kind=m:=fun m h=>by rw[dS] at h;exact of_decide_eq_true h
   dsimp only;unfold gk;refine fg _ (fun _=>h0 _ Z) fun _=>fg _ (fun e=>?_) fun _=>fg _ (fun e=>?_) fun _=>(cG _ (cG _ (h0 _ Z)<|h0 _ Z)<|cG _ (cG _ (h0 _ Z)<|h0 _ Z)<|cG _ (h0 _ Z)<|cG _ (cG _ (h0 _ Z)<|h0 _ Z)<|cG _ (h0 _ Z)<|cG _ (h0 _ Z)<|h0 _ Z)
   ·have e:=hk _ e;obtain⟨u,h3⟩:=vu hr (.inr (.inl e));exact h1 _ _ (WT u ⟨h3 (by rw[e];decide),NK (hf x hm) (.inr (.inl e))⟩) Z
   have e:=hk _ e;obtain⟨u,_⟩:=vu hr (.inr (.inr (.inr (.inr (.inr e)))));exact h1 _ _ (WU u) Z
 rw[A] at this;exact this
theorem tR (hc:eO k c) (hf:∀x∈c.ins,uu n x=false) {s:TS} (hk:iI c s) (C:s.asks=true) (v:Int):cj (fm (pU k c s) v) n=true:=by
 obtain⟨x,hx,u⟩:=hk C;have hm:=gB_ hx;have h5:x.kind=2∨x.kind=3∨x.kind=4∨x.kind=5∨x.kind=6:=by rcases u with e | e | e | e<;>simp[e]
 have E:x.kind=2∨x.kind=3∨x.kind=4∨x.kind=5∨x.kind=6∨x.kind=7:=by rcases u with e | e | e | e<;>simp[e]
 obtain⟨A,hl⟩:=vu (hc.right x hm) E;have hl:0<=x.loc/\x.loc<n:=⟨hl (by rcases u with e | e | e | e<;>rw[e]<;>decide),NK (hf x hm) h5⟩;have e:pU k c s=MW k x s.bE:=by unfold pU;rw[hx]
 rw[e];unfold fm MW;dsimp only;rcases u with e | e | e | e<;>rw[e]
 ·exact Vd A hl
 ·exact cG (P:=fun e:bW=>cj e n=true) (bD v _) (TD A hl)<|Vd A hl
 ·exact TD A hl
 exact TD A hl
theorem LY (hc:eO k c) (E:eV c=some out) (F:ft (du c) c.ins.length out) (hf:∀x∈c.ins,uu n x=false) (A:List Int):
  (∀e∈(eM k c A).events,cj e n=true)/\iI c (eM k c A)/\((eM k c A).asks=true->∀v,cj (fm (pU k c<|eM k c A) v) n=true):=by
 obtain⟨h1,_,_,C⟩:=FV (P:=fun s=>∀e∈s.events,cj e n=true) hc E F (fun s h _ _=>F4 hc hf h) (fun s v h hk u _=>by
  intro e he;rcases List.mem_append.1 (show e∈s.events++[_] from he) with h3 | h3
  ·exact h e h3
  rw[List.mem_singleton.1 h3];exact tR hc hf hk u v) (fun e he=>by cases he) A
 exact⟨h1,C,fun u v=>tR hc hf C u v⟩
end
variable {A:List Int}
section
variable {k:Nat} {c:XC} {out:List Nat} {vs:List Int}
theorem MY (hc:eO k c) (h:(eM k c A).asks=true):A.length<=(eM k c A).events.length:=by
 obtain⟨_,ext,m,h1,u,h3⟩:=tK hc A (jE k c) (pg hc);have h4:=congrArg List.length u;unfold jg at h4;rw[lM_,lT_,Nat.min_eq_right<|h3 h] at h4;have h5:=List.length_filter_le dq ext;show _<=(nP k c A<|jE k c).events.length;rw[h1,lA_];omega
theorem MX (hc:eO k c) (u:dJ k c=0) (C:eV c=some out) (E:ft (du c) c.ins.length out) (F:pT k c<=14) (h:(eM k c A).asks=true):A.length<=13:=by
 have h1:=MY hc h;have h2:=(JQ hc C E A).2.1 h;rw[GA hc u C E] at F;have h3:oZ c out 0<=14:=Int.ofNat_le.1 F;omega
def ie {β:Type} (g:Int->β->Bool×β):List Int->β->Bool×β
 | [],b=>(true,b)
 | v::vs,b=>bif (g v b).1 then ie g vs (g v b).2 else(false,(g v b).2)
def iw (k:Nat) (c:XC) (vs:List Int):Nat->List Int->List (List bW)->Bool×List (List bW)
 | 0,A,acc=>bif (eM k c A).asks then(true,acc) else(bT<|cW 4096 (.ofNat (acc.length+1)),acc++[(eM k c A).events])
 | f+1,A,acc=>bif (eM k c A).asks then ie (fun v acc=>iw k c vs f (A++[v]) acc) vs acc else(bT<|cW 4096 (.ofNat (acc.length+1)),acc++[(eM k c A).events])
theorem oA {f:Nat} {acc:List (List bW)} (h:(eM k c A).asks=false):iw k c vs f A acc=(bT<|cW 4096 (.ofNat (acc.length+1)),acc++[(eM k c A).events]):=by
 cases f<;>· unfold iw;rw[h];rfl
theorem xM {f:Nat} {acc:List (List bW)} (h:(eM k c A).asks=true):iw k c vs (f+1) A acc=ie (fun v acc=>iw k c vs f (A++[v]) acc) vs acc:=by
 show(bif (eM k c A).asks then _ else _)=_;rw[h];rfl
theorem tq {β:Type} {g:Int->β->Bool×β}:∀{l:List Int} {v:Int} {b:β},(ie g l b).1=true->ie g (l++[v]) b=((g v (ie g l b).2).1,(g v (ie g l b).2).2)
 | [],v,b,_=>by
  show(bif (g v b).1 then(true,(g v b).2) else(false,(g v b).2))=((g v b).1,(g v b).2);cases (g v b).1<;>rfl
 | x::l,v,b,h=>by
  unfold ie at h;rw[List.cons_append];unfold ie;cases hx:(g x b).1 with
  | false=>rw[hx] at h;cases h
  | true=>
   rw[hx] at h;simp only[cond_true] at h⊢;exact tq h
theorem E1 {β:Type} {g:Int->β->Bool×β}:∀{l r:List Int} {b:β},(ie g l b).1=false->ie g (l++r) b=ie g l b
 | [],_,_,h=>by cases h
 | x::l,r,b,h=>by
  unfold ie at h;rw[List.cons_append];unfold ie;cases hx:(g x b).1 with
  | false=>rfl
  | true=>
   rw[hx] at h;simp only[cond_true] at h⊢;exact E1 h
theorem BH {β:Type} {g:Int->β->Bool×β} {Q:β->Prop} {R:Bool->Prop} (u:∀v b,Q b->Q (g v b).2):∀{l:List Int} {b:β},Q b->Q (ie g l b).2
 | [],_,h=>h
 | x::l,b,h=>by
  unfold ie;cases hx:(g x b).1 with
  | false=>exact u x b h
  | true=>exact BH (R:=R) u (u x b h)
theorem E6 {Q:List bW->Prop} (C:∀A,Q (eM k c A).events):∀(f:Nat) (A:List Int) (acc:List (List bW)),(∀l∈acc,Q l)->∀l∈(iw k c vs f A acc).2,Q l
 | f,A,acc,h=>by
  cases u:(eM k c A).asks with
  | false=>
   rw[oA u];intro l hl;rcases List.mem_append.1 hl with hl | hl
   ·exact h l hl
   rw[List.mem_singleton.1 hl];exact C A
  | true=>
   cases f with
   | zero=>
    show∀l∈(bif (eM k c A).asks then(true,acc) else _).2,Q l;rw[u];exact h
   | succ f=>
    rw[xM u];exact BH (Q:=fun acc=>∀l∈acc,Q l) (R:=fun _=>True) (fun v b hb=>E6 C f (A++[v]) b hb) h
theorem zb:∀(f:Nat) (A:List Int) (acc:List (List bW)),acc.length<=4096->(iw k c vs f A acc).2.length<=4097/\((iw k c vs f A acc).1=true->(iw k c vs f A acc).2.length<=4096)
 | f,A,acc,h=>by
  cases u:(eM k c A).asks with
  | false=>
   rw[oA u];refine⟨by rw[lA_,zq_];omega,fun h1=>?_⟩;rw[lA_,zq_]
   have C:cW 4096 (.ofNat (acc.length+1))=false:=by
    cases h3:cW 4096 (.ofNat (acc.length+1)) with
    | false=>rfl
    | true=>rw[h3] at h1;cases h1
   exact bI (a:=4096) C
  | true=>
   cases f with
   | zero=>
    show(bif (eM k c A).asks then(true,acc) else _).2.length<=4097/\((bif (eM k c A).asks then(true,acc) else _).1=true->(bif (eM k c A).asks then(true,acc) else _).2.length<=4096);rw[u];exact⟨by show acc.length<=_;omega,fun _=>h⟩
   | succ f=>
    rw[xM u]
    have key:∀(l:List Int) (b:List (List bW)),b.length<=4096->(ie (fun v acc=>iw k c vs f (A++[v]) acc) l b).2.length<=4097/\((ie (fun v acc=>iw k c vs f (A++[v]) acc) l b).1=true->(ie (fun v acc=>iw k c vs f (A++[v]) acc) l b).2.length<=4096):=by
     intro l;induction l with
     | nil=>intro b hb;exact⟨by show b.length<=_;omega,fun _=>hb⟩
     | cons v l ih=>
      intro b hb;obtain⟨h1,C⟩:=zb f (A++[v]) b hb;unfold ie;cases hx:(iw k c vs f (A++[v]) b).1 with
      | false=>exact⟨h1,fun h=>by cases h⟩
      | true=>exact ih _ (C hx)
    exact key vs acc h
def mY (k:Nat) (c:XC) (vs:List Int):List (List bW):=bif (iw k c vs 14 [] []).1 then(iw k c vs 14 [] []).2 else []
def km (k:Nat) (c:XC) (vs:List Int):Int:=bif (iw k c vs 14 [] []).1 then 0 else 3
theorem MR:(mY k c vs).length<=4096:=by
 unfold mY;obtain⟨_,h⟩:=zb (k:=k) (c:=c) (vs:=vs) 14 [] [] (Nat.zero_le _);cases hx:(iw k c vs 14 [] []).1 with
 | true=>exact h hx
 | false=>exact Nat.zero_le _
theorem Ei {Q:List bW->Prop} (u:∀A,Q (eM k c A).events):∀l∈mY k c vs,Q l:=by
 unfold mY;cases hx:(iw k c vs 14 [] []).1 with
 | true=>exact E6 u 14 [] [] fun l hl=>by cases hl
 | false=>intro l hl;cases hl
end
variable {ps:Array Tmp} {bd sa:Code} {D_:List DE} {ca fi:List Y} {id:Nat} {tm:PT Y} {bm:Pos}
section
variable {P:Program} {G:Cx} {n:Nat} {t:PT Y} {V:D} {K:KP} {L:Own} {Q:Ex->PT Y->D->Prop} {ops:Array Oper} {o:Oper} {l:List Oper}
def kM (P:Program) (G:Cx) (b:Pos) (args:List Y) (V:D) (R:Y->D->Prop):Prop:=
 ∃(K:Nat) (v:Y) (V':D),(∀k,K<=k->kI (ed P G k) b args V= .ret v V')/\R v V'
def eU (st:LoopState) (tm:PT Y) (m:Nat) (ps:List Nat) (sa bd:Code) (bm:Pos):cd:=.loop st none tm m ps sa bd bm
theorem NC {b:Pos} {args:List Y} {R:Y->D->Prop} {m:Nat} {ps:List Nat} {t:PT Y} (hl:V.m.get b=some (eU .ready tm m ps sa bd bm)) (hp:qT m ps args tm=some t)
  (h:Ev P G sa m t V fun e C u=>e= .normal/\u.m.get b=some (eU .ready tm m ps sa bd bm)/\Ev P G bd m C (u.setObj b<|eU .busy tm m ps sa bd bm) fun e _ A=>e= .normal/\A.m.get b=some (eU .busy tm m ps sa bd bm)/\R (.bool true) (A.setObj b<|eU .ready tm m ps sa bd bm)):kM P G b args V R:=by
 obtain⟨F,e1,C,u,h1,rfl,I,K2,e2,t2,A,h3,rfl,E,h5⟩:=h;refine⟨max F K2,.bool true,_,fun k hk=>?_,h5⟩;unfold kI;rw[hl];dsimp only[eU];rw[hp];dsimp only;rw[h1 [] (some b) k oM];dsimp only;rw[I];dsimp only[eU];have:=h3 [] (some b) k oM;unfold eU at this E;rw[this];dsimp only[zr];simp only[cond_false];rw[E];rfl
theorem Kc {c:Call} {f:Operand} {b:Pos} {args:List Y} (hc:c.callee= .value f) (hf:ev f=some (.yield b)) (u:mB ev c.args.toList=some args):dM P G ev V (.call c)= .round b args V:=by
 refine jV (by simp[kindOf,hc]) ?_;simp only[fX,hc,hf,u,Bp]
theorem Jq {b:Pos} {args:List Y} {t':Y->PT Y} {R:Y->D->Prop} (hw:bH ops t o=some true) (hv:dM P G (bA G t) V o.op= .round b args V) (hp:∀v,dA t n o.dst v=some (t' v))
  (hc:kM P G b args V R) (h:∀v V',R v V'->bL P G ops n l (t' v) V' Q):bL P G ops n (o::l) t V Q:=by
 obtain⟨u,v,V',h1,A⟩:=hc;obtain⟨K2,e,C,E,h3,F⟩:=h v V' A;refine⟨max u K2,e,C,E,fun d k hk=>?_,F⟩;show iS P G (ed P G k) true ops n o t V (uE P G (ed P G k) ops n d l)=_;have e1:=h1 k oM;have e2:=h3 d k oM;unfold iS;rw[hw];dsimp only;rw[hv];dsimp only[lr];rw[e1];dsimp only;rw[hp];exact e2
def IG (P:Program) (G:Cx) (c:Code) (n:Nat) (t:PT Y) (V:D) (Q:List DE->Ex->PT Y->D->Prop):Prop:=
 ∃(K:Nat) (D_:List DE) (e:Ex) (t':PT Y) (V':D),(∀d k,K<=k->ed P G k c t n d none V= .ok e t' (D_++d) V')/\Q D_ e t' V'
theorem ia {c:Code} {Q:List DE->Ex->PT Y->D->Prop} (h:Ev P G c n t V (Q [])):IG P G c n t V Q:=by
 obtain⟨K,e,t',V',h1,u⟩:=h;exact⟨K,[],e,t',V',fun d k hk=>h1 d none k hk,u⟩
def PE (P:Program) (G:Cx) (n:Nat) (b:Code) (Q:List DE->Ex->PT Y->D->Prop) (D_:List DE) (e:Ex) (t:PT Y) (V:D):Prop:=
 match e with
 | .normal=>IG P G b n t V fun D2=>Q (D2++D_)
 | e=>Q D_ e t V
theorem fJ {a b:Code} {Q:List DE->Ex->PT Y->D->Prop} (h:IG P G a n t V (PE P G n b Q)):IG P G (.seq a b) n t V Q:=by
 obtain⟨K,D_,e,t',V',h1,u⟩:=h
 have step:∀d k,K<=k->ed P G (k+1) (.seq a b) t n d none V=xB (.ok e t' (D_++d) V') (fun t d V=>ed P G k b t n d none V):=fun d k hk=>by
  show xB (ed P G k a t n d none V) (fun t d V=>ed P G k b t n d none V)=_;rw[h1 d k hk]
 cases e with
 | normal=>
  obtain⟨K2,A,e2,C,E,h3,F⟩:=u;refine⟨max K K2+1,A++D_,e2,C,E,fun d k hk=>?_,F⟩;obtain⟨j,rfl⟩:∃j,k=j+1:=⟨k-1,by omega⟩;rw[step d j oM,lQ_];exact h3 (D_++d) j oM
 | _=>
  refine⟨K+1,D_,_,t',V',fun d k hk=>?_,u⟩;obtain⟨j,rfl⟩:∃j,k=j+1:=⟨k-1,by omega⟩;rw[step d j oM];rfl
theorem dC {b:Code} {Q:List DE->Ex->PT Y->D->Prop} (h:IG P G b n t V fun u=>Q (u++D_)):PE P G n b Q D_ .normal t V:=h
theorem oS {b:Code} {Q:List DE->Ex->PT Y->D->Prop} (h:Q D_ .ret t V):PE P G n b Q D_ .ret t V:=h
theorem KM {b:Code} {Q:List DE->Ex->PT Y->D->Prop} (h:IG P G b n t V fun D_ e t' V'=>e= .normal/\Q D_ .normal t' V'):IG P G (.block id b) n t V Q:=by
 obtain⟨K,D_,e,t',V',h1,rfl,u⟩:=h;refine⟨K+1,D_,.normal,t',V',fun d k hk=>?_,u⟩;obtain⟨j,rfl⟩:∃j,k=j+1:=⟨k-1,by omega⟩;show qh id (ed P G j b t n d none V)=_;rw[h1 d j oM];rfl
theorem KN {g:Operand} {f:Nat} {Q:List DE->Ex->PT Y->D->Prop} (O:H V K L) (F:bA G t g=some (.func f fi ca)) (u:lz P f=true)
  (h:∀(bm bl:Pos) (C:D),H C K ((bl,eU .ready t n ps.toList sa bd bm)::(bm,.mark)::L)->aW P G f (fi++(.yield bl::ca)) C fun _ A=>A.m.get bl=some (eU .ready t n ps.toList sa bd bm)/\Q [.mark bm] .normal t (A.setObj bl<|eU .exhausted t n ps.toList sa bd bm)):IG P G (.rangeFunc g ps sa bd) n t V Q:=by
 obtain⟨I,v,A,h1,E,h3⟩:=h V.next (V.alloc .mark).next ((V.alloc .mark).alloc<|eU .ready t n ps.toList sa bd V.next) ((O.alloc .mark).alloc _);refine⟨I+1,[.mark V.next],.normal,t,_,fun d k hk=>?_,h3⟩;obtain⟨j,rfl⟩:∃j,k=j+1:=⟨k-1,by omega⟩;show qV P G (ed P G j) g ps sa bd t n d none V=_;unfold qV vR;dsimp only;rw[F];dsimp only;rw[u,dU];have e1:=h1 j oM;unfold eU at e1 E;simp only[cond_true];rw[e1];dsimp only;unfold vw;rw[E];rfl
def WQ (P:Program) (fn:Func) (R:Y->D->Prop) (D_:List DE) (e:Ex) (t:PT Y) (V:D):Prop:=
 (e= .normal∨e= .ret)/\match D_ with
  | []=>∃v,ec P fn t V=some v/\R v V
  | [.mark b]=>V.m.get b=some .mark/\∃v,ec P fn t (V.setObj b .dead)=some v/\R v (V.setObj b .dead)
  | _=>False
theorem ES (A:Plain G) {f:Nat} {fn:Func} {c:Code} {args:List Y} {R:Y->D->Prop} (hf:P.funcs[f]? =some fn) (hb:fn.body=some c) (F:qd fn.ntmps args=some t)
  (h:IG P G c fn.ntmps t V (WQ P fn R)) (hk:Nat.beq f Lk=false:=by rfl) (hl:Hy f=false:=by rfl) (I:Mf f=false:=by rfl):aW P G f args V R:=by
 obtain⟨K,D_,e,t',V',h1,he,E⟩:=h
 have key:∃V'' v,(∀k,qG P G (ed P G k) D_ .ret V'=some (.ret,V''))/\ec P fn t' V''=some v/\R v V'':=by
  match D_,E with
  | [],⟨v,h3,u⟩=>exact⟨V',v,fun _=>Z,h3,u⟩
  | [.mark b],⟨h3,v,u,h5⟩=>
   refine⟨_,v,fun k=>?_,u,h5⟩;show(match V'.m.get b with | some .mark=>some (Md.ret,V'.setObj b .dead) | _=>none)=_;rw[h3]
 obtain⟨V'',v,h3,u,h5⟩:=key;refine⟨K,v,V'',fun k C=>?_,h5⟩;unfold j0;rw[A.h1 _ _ _ I];dsimp only;rw[A.h2 _ _ hl];dsimp only;rw[A.h4];dsimp only;rw[A.h5 _ hk];simp only[cond_false];unfold nc;rw[hf];dsimp only;rw[hb,F];dsimp only;have:=h1 [] k C;rw[zk_] at this;rw[this];rcases he with rfl | rfl<;>
 ·dsimp only;unfold yI;rw[h3 k];dsimp only;rw[u]
theorem Hb {g:Operand} {f:Nat} {Q:List DE->Ex->PT Y->D->Prop} (O:H V K L) (N:bA G t g=some (.func f fi ca)) (A:lz P f=true)
  (h:∀(bm bl:Pos) (u:D),H u K ((bl,eU .ready t n ps.toList sa bd bm)::(bm,.mark)::L)->aW P G f (fi++(.yield bl::ca)) u fun _ F=>∃C E,H F C ((bl,eU .ready t n ps.toList sa bd bm)::E)/\∀I,H I C E->Q [.mark bm] .normal t I):IG P G (.rangeFunc g ps sa bd) n t V Q:=
 KN O N A fun bm bl u h1=>(h bm bl u h1).mono fun _ F ⟨C,E,M,h3⟩=>⟨M.get 0 Z,h3 _ (M.nU _).pop⟩
theorem H.lj {u:D} {M A:Own} (h0:H u K (M++A)) (h:H V (K.gw M) L):H V K (M++L) where
 kept b o hb:=by
  obtain⟨h1,C,h3⟩:=h.kept b o (.inl hb);refine⟨h1,C,fun e he=>?_⟩;rcases List.mem_append.1 he with he | he
  ·exact(h0.kept b o hb).2.2 e (List.mem_append_left _ he)
  exact h3 e he
 own e he:=by
  rcases List.mem_append.1 he with he | he
  ·exact⟨(h.kept e.1 e.2 (.inr he)).1,(h.kept e.1 e.2 (.inr he)).2.1⟩
  exact h.own e he
 ne:=List.pairwise_append.2 ⟨(List.pairwise_append.1 h0.ne).1,h.ne,fun a E b hb e=>(h.kept a.1 a.2 (.inr E)).2.2 b hb e.symm⟩
end
end Go.Ev
namespace Go.Ev
variable [Env] {α:Type} {E:Nat} {gs:Nat->Bool} {M:Own} {R:α->List Y->Prop}
open Go.Proofs Go.Sort
section
variable {V:D} {K K':KP} {L:Own}
end
def KP.ro (K:KP):KP:=fun b o=>∃o',K b o'/\R3 o'=some o
theorem H.ro {V:D} {K:KP} {L:Own} {b:Nat} {o:cd} (h:H V K ((b,o)::L)):H (Qr V b) K.ro [] where
 kept b' o' hb:=by
  obtain⟨A,h1,C⟩:=hb;obtain⟨u,E,F⟩:=h.kept b' A h1;refine⟨u,?_,fun e he=>by cases he⟩;show(Pg V b V.next).get b'=some o';rw[DD,if_pos ⟨u,fun e=>F _ (mS_ ..) e.symm⟩,E];exact C
 own e he:=by cases he
 ne:=List.Pairwise.nil
theorem bG.ro {α:Type} {K:KP} {m:Nat} {R:α->List Y->Prop} {l:List α} {v:Y} (h:bG K m R l v):bG K.ro m R l v:=by
 rcases h with h | ⟨b,off,c,cells,e,ro,h1,u,h3,A⟩
 ·exact .inl h
 exact .inr ⟨b,off,c,cells,e,true,h1,u,⟨_,h3,Z⟩,A⟩
theorem bG.Xl {K:KP} {m n:Nat} {l:List (List α)} {v:Y} (h:bG K n (RL K m R) l v):bG K.ro n (RL K.ro m R) l v:=by
 rcases h with h | ⟨b,off,c,cells,e,ro,h1,u,h3,A,h5,C⟩
 ·exact .inl h
 exact .inr ⟨b,off,c,cells,e,true,h1,u,⟨_,h3,Z⟩,A,h5,fun i x hx=>let ⟨v,e,h⟩:=C i x hx;⟨v,e,h.ro⟩⟩
theorem eS.ro {K:KP} {g:XG} {a b c d:Y} (h:eS K g a b c d):eS K.ro g a b c d:=⟨h.init.ro,h.threads.Xl,h.from_.Xl,h.order.Xl⟩
theorem AY {m:Nat} {cells:List Y} {n:Nat} {d:Array (Fin (n+1))} (hm:0<m) (u:d.size=n+1) (hl:cells.length=(n+1)*m) {i:Nat} (hi:i<n+1):
  ((fh m cells d).drop (i*m)).take m=(cells.drop ((d[i]!).val*m)).take m:=by
 have hx:(d[i]!).val<n+1:=(d[i]!).isLt;have A:(i+1)*m<=(n+1)*m:=nM_ _ hi;have C:((d[i]!).val+1)*m<=(n+1)*m:=nM_ _ hx;rw[Nat.add_mul,Nat.one_mul] at A C;refine zf_ fun j=>?_
 rw[List.getElem?_take,List.getElem?_take]
 by_cases hj:j<m
 ·rw[if_pos hj,if_pos hj,List.getElem?_drop,List.getElem?_drop];unfold fh;rw[u,gL_ (by rw[lM_,List.length_range];omega),gM_,zr_ oM];have e1:(i*m+j)/m=i:=by rw[Nat.mul_comm,Nat.mul_add_div hm,Nat.div_eq_of_lt hj];rfl
  have e2:(i*m+j)%m=j:=by rw[Nat.mul_comm,Nat.mul_add_mod,Nat.mod_eq_of_lt hj]
  simp only[Option.map_some,e1,e2];rw[List.getD_eq_getElem?_getD,gC oM];rfl
 rw[if_neg hj,if_neg hj]
section
variable {P:Program} {G G0:Cx}
theorem vK {f:Nat} {args:List Y} {V V':D} {v:Y} {R:Y->D->Prop} (hk:G.D9 f args V=some (v,V')) (h:R v V'):aW P G f args V R:=by
 refine⟨0,v,V',fun k _=>?_,h⟩;unfold j0;rw[hk]
theorem Q6 {m f g:Nat} {c:α->α->Int} (hm:0<m) (hO:SWO (fun x y=>decide (c x y<0))) (hS:∀a s,G.D9 f a s=An P G0 f m gs f a s) (aa:gs g=true)
  (F:∀x vs,R x vs->cg vs=true) {l:List α} {u:Y} {L:Own} {V:D} {K:KP} (h:cO m E R l u M) (hne:l≠[]∨u= .aw) (O:H V K (M++L))
  (Q:∀σ2,H σ2 K.ro []->∀x y vx vy,R x vx->R y vy->aW P G0 g [.agg vx,.agg vy] σ2 fun v _=>v= .int .i64 (c x y)):
  aW P G f [u,.func g [] []] V fun v V'=>v= .tuple []/\∃l' M',l'.Perm l/\l'.Pairwise (fun x y=>decide (c y x<0)=false)/\cO m E R l' u M'/\H V' K (M'++L):=by
 rcases h with ⟨rfl,rfl,rfl⟩ | ⟨b,cp,cells,e,rfl,rfl,h3,h4,h5,h6⟩
 ·refine vK (v:=.tuple []) (V':=V) (by rw[hS];unfold An;rw[if_pos Z]) ⟨Z,[],[],List.Perm.refl _,List.Pairwise.nil,.inl ⟨Z,Z,Z⟩,O⟩
 obtain⟨n,hn⟩:∃n,l.length=n+1:=by
  rcases hne with hne | hne
  ·cases l with
   | nil=>exact absurd Z hne
   | cons x l=>exact⟨l.length,Z⟩
  cases hne
 rw[hn] at h3 h5 h6⊢;have hb:V.m.get b=some (.row cells e false):=O.get 0 Z
 let xs:Fin (n+1)->α:=fun i=>l[i.val]'(by rw[hn];exact i.isLt)
 have C:∀i:Fin (n+1),l[i.val]? =some (xs i):=fun i=>gC _
 let cf:Fin (n+1)->Fin (n+1)->Int:=fun i j=>c (xs i) (xs j)
 have I:∀i j,ltOf cf i j=decide (c (xs i) (xs j)<0):=fun i j=>Z
 have N:SWO (ltOf cf):=⟨fun x=>by rw[I];exact hO.irrefl _,fun x y z h1 h2=>by rw[I] at*;exact hO.trans _ _ _ h1 h2,fun x y z h1 h2=>by rw[I] at*;exact hO.ntrans _ _ _ h1 h2⟩;have T:H (Qr V b) K.ro []:=O.ro;have hC:Eb P G0 m g V b cells n cf:=⟨N,fun x y=>Q _ T _ _ _ _ (h4 _ _<|C x) (h4 _ _<|C y)⟩;have W:EF cp=true:=by rcases h5 with rfl | ⟨rfl,_⟩<;>rfl
 have ab:cg (cells.take ((n+1)*m))=true:=by
  rw[<-h3,List.take_length]
  have key:∀v∈cells,eX v=true:=fun v hv=>by
   obtain⟨t,ht,hv⟩:=List.getElem_of_mem hv;have hq:t/m<n+1:=Nat.div_lt_of_lt_mul (by rw[Nat.mul_comm,<-h3];exact ht);have h7:=F _ _ (h4 _ _<|C ⟨t/m,hq⟩);refine ma h7 v<|gB_ (i:=t%m) ?_;rw[List.getElem?_take,if_pos<|Nat.mod_lt _ hm,List.getElem?_drop,Nat.div_add_mod',gC ht,hv]
  exact yg key
 have A:((n+1)*m<=cells.length/\n+1<4611686018427387904/\gs g=true/\EF cp=true/\cg (cells.take ((n+1)*m))=true)/\∃cf,Eb P G0 m g V b cells n cf:=⟨⟨by omega,by omega,aa,W,ab⟩,cf,hC⟩
 have hk:G.D9 f [.slice b 0 (n+1) cp,.func g [] []] V=some (.tuple [],V.setObj b (.row (fh m cells<|jR<|Classical.choose A.2) e false)):=by
  rw[hS];unfold An;rw[if_pos Z];simp only[hb];rw[dif_pos A]
 have ac:Eb P G0 m g V b cells n (Classical.choose A.2):=Classical.choose_spec A.2
 have X:Classical.choose A.2=cf:=by
  funext i j;obtain⟨k1,v1,s1,e1,r1⟩:=ac.2 i j;obtain⟨k2,v2,s2,e2,r2⟩:=hC.2 i j;have a1:=e1 (max k1 k2) oM;have a2:=e2 (max k1 k2) oM;rw[a1] at a2;cases a2;have r3:=r1.symm.trans r2;injection r3
 rw[X] at hk;have hsz:=uS N;have hsorts:=pdq_sorts (ltOf cf) N (Array.ofFn (fun i:Fin (n+1)=>i)) 0 (n+1) (Lib.bitLen (n+1)) true true (Nat.zero_le _) (by rw[Array.size_ofFn];exact nR_ _) (Or.inl Z);change PermIn 0 (n+1) _ (jR cf)/\SortedIn (ltOf cf) 0 (n+1) (jR cf) at hsorts;generalize jR cf=d at hk hsz hsorts;obtain⟨⟨_,_,hp⟩,hs⟩:=hsorts
 have am:d.toList.Perm (List.ofFn fun i:Fin (n+1)=>i):=by
  have e1:d.extract 0 (n+1)=d:=by have:=Array.extract_size (xs:=d);rwa[hsz] at this
  have e2:(Array.ofFn (fun i:Fin (n+1)=>i)).extract 0 (n+1)=Array.ofFn (fun i:Fin (n+1)=>i):=by
   have:=Array.extract_size (xs:=Array.ofFn (fun i:Fin (n+1)=>i));rwa[Array.size_ofFn] at this
  rw[e1,e2] at hp;simpa using hp
 refine vK hk ⟨Z,d.toList.map xs,[(b,.row (fh m cells d) e false)],?_,?_,?_,O.nU _⟩
 ·refine(am.map xs).trans ?_
  have:(List.ofFn fun i:Fin (n+1)=>i).map xs=l:=by
   refine zf_ fun i=>?_
   rw[gM_,List.getElem?_ofFn]
   by_cases hi:i<n+1
   ·rw[dif_pos hi];exact(C ⟨i,hi⟩).symm
   rw[dif_neg hi,gN_ oM];rfl
  rw[this]
 ·refine List.pairwise_map.2<|List.pairwise_iff_getElem.2 fun i j hi hj ao=>?_;have ap:i<d.size:=by simpa using hi
  have aq:j<d.size:=by simpa using hj
  have:=hs i j (Nat.zero_le _) ao oM;rw[getElem!_pos _ j aq,getElem!_pos _ i ap] at this;exact this
 have hlen:(d.toList.map xs).length=n+1:=by rw[lM_,Array.length_toList,hsz]
 refine .inr ⟨b,cp,fh m cells d,e,by rw[hlen],Z,?_,fun i x hx=>?_,by rw[hlen];exact h5,by rw[hlen];omega⟩
 ·unfold fh;rw[lA_,lM_,List.length_range,lD_,hsz,hlen,h3];omega
 have hi:i<n+1:=by rw[<-hlen];exact(gA.1 hx).1
 rw[AY hm hsz h3 hi];refine h4 _ _ ?_;rw[C (d[i]!)];rw[gM_,aT_,aG_ oM] at hx;rw[getElem!_pos _ i oM];exact hx
end
end Go.Ev
namespace Go.Ev
variable [Env]
theorem C1:Qu ml fun _=>True where
 zero x y _ _:=⟨IZ,fun h=>by subst h;exact Kz x⟩
 neg x y _ _:=by have:=FG.qb x y;omega
 trans x y z _ _ _ h1 h2:=by
  have a1:=FG.qb x y;have a2:=FG.qb y z;have a3:=FG.qb x z;have t:=FG.trans x y z oM oM;refine zo_ fun hn=>?_
  have h0:ml x z=0:=by omega
  have e:=IZ h0;subst e;omega
theorem Uy {α:Type} {c:α->α->Int} (h:Qu c fun _=>True):Sort.SWO fun x y=>decide (c x y<0) where
 irrefl x:=decide_eq_false (h.XF trivial)
 trans x y z h1 h2:=decide_eq_true (h.trans x y z trivial trivial trivial (of_decide_eq_true h1)<|of_decide_eq_true h2)
 ntrans x y z h1 h2:=decide_eq_false fun h3=>by
  have n1:=of_decide_eq_false h1;have n2:=of_decide_eq_false h2
  have ge:∀a b:α,¬c a b<0->a=b∨c b a<0:=fun a b hn=>by
   by_cases h0:c a b=0
   ·exact .inl ((h.zero a b trivial trivial).1 h0)
   exact .inr ((h.neg b a trivial trivial).2 oM)
  rcases ge x y n1 with e | e1
  ·subst e;exact n2 h3
  rcases ge y z n2 with e | e2
  ·subst e;exact n1 h3
  exact h.XF trivial<|h.trans x z x trivial trivial trivial h3<|h.trans z y x trivial trivial trivial e2 e1
section
variable {α:Type} {c:α->α->Int}
end
structure X9 (K:KP) (ls:List XG) (cells:List Y):Prop where
 len:cells.length=ls.length*4
 at_:∀(i:Nat) (x:XG),ls[i]? =some x->∃a b c d,(cells.drop (i*4)).take 4= [a,b,c,d]/\eS K x a b c d
def RG (K:KP) (g:XG) (vs:List Y):Prop:=∃a b c d,vs= [a,b,c,d]/\eS K g a b c d
theorem RG.mono {K K':KP} (hk:KP.le K K') {g:XG} {vs:List Y} (h:RG K g vs):RG K' g vs:=by
 obtain⟨a,b,c,d,h1,u⟩:=h;exact⟨a,b,c,d,h1,u.mono hk⟩
theorem RG.leaf {K:KP} (g:XG) (vs:List Y) (h:RG K g vs):cg vs=true:=by
 obtain⟨a,b,c,d,rfl,u⟩:=h;exact aj u.init.leaf.2<|aj u.threads.leaf.2<|aj u.from_.leaf.2<|aj u.order.leaf.2 aC
section
variable {K:KP} {ls:List XG} {cells:List Y}
end
section
variable {P:Program} {G:Cx} {ev:Operand->Option Y} {V:D} {K:KP} {L:Own}
end
section
variable {P:Program} {G:Cx} {n:Nat} {t:PT Y} {V:D} {K:KP} {L:Own} {Q:Ex->PT Y->D->Prop} {ops:Array Oper} {o:Oper} {l:List Oper}
end
theorem Q2 {x y:Int} (h:bD x y=true):x=y:=by rw[dS] at h;simpa using h
end Go.Ev
namespace Go.Ev
variable [Env]
abbrev c6 (x0 x1 x2 x3 x4 x5:Int) (a b c d:Y):List Y:=[.int .i64 x0,.int .i64 x1,.int .i64 x2,.int .i64 x3,.int .i64 x4,.int .i64 x5,a,b,c,d]
end Go.Ev
namespace Go.Ev
variable [Env] {ops:Array Oper} {G:Cx} {V:D} {cs:List Y} {e:Nat} {ev:Operand->Option Y} {P:Program}
theorem Ek {t w n:Nat} {k k':IntKind} {z:List Y} {lo co:Operand} (A:P.underlying t=some (.slice e)) (hw:(P.info? e).map (·.bytes)=some w) (C:(fx P e).bind cE=some z)
  (u:((P.info? e).any fun j=>Nat.beq (dt z) j.size && Nat.ble 1 j.size)=true) (hl:ev lo=some (.int k (.ofNat n))) (hc:ev co=some (.int k' (.ofNat n))) (hn:w*n<=1048576) (aa:n<=1048576):
  fV P ev (.makeSlice t lo co)=some (.row (ew z n) e false,.slice n n):=by
 obtain⟨j,hj,rfl⟩:=oM_.1 hw;rw[hj] at u;simp only[Option.any_some,bA_] at u;simp only[fV,A,hl,hc,hj,C];rw[u.1,u.2,show Nat.ble n n=true by simp_all,show Nat.ble (j.bytes*n) 1048576=true by simp_all,show Nat.ble n 1048576=true by simp_all];rfl
theorem Px {t:PT Y} {o:Oper} {i k b n:Nat} (hi:ops[i]? =some o) (hw:bH ops t o=some true) (hd:o.dst=some k) (hg:t.get k=some (.slice b 0 n (.known n))) (hk:kindOf P o.op= .alloc) (ha:fV P (bA G t) o.op=some (.row cs e false,.slice n n)) (hm:V.m.get b=some (.row cs e false)) (hb:dV.beqL cs cs=true):kL P G ops t V i=true:=by
 unfold kL
 simp_all
end Go.Ev
namespace Go.Ev
variable [Env]
variable {G:Cx} {K:KP} {V:D} {L:Own} {g:XG} {tb:Nat} {c:XC}
def wq (K:KP) (l:List bW) (vs:List Y):Prop:=∃(ev:Y) (f a q:Int) (rb n:Nat),vs= [ev,.int .i64 f,iZ,iZ,iZ,iZ,iZ,.int .i64 a,.slice rb 0 n (.known n),.int .i64 q]/\bG K 5 iN l ev
theorem wq.mono {K K':KP} (hk:KP.le K K') {l:List bW} {vs:List Y} (h:wq K l vs):wq K' l vs:=by
 obtain⟨ev,f,a,q,rb,n,rfl,h1⟩:=h;exact⟨ev,f,a,q,rb,n,Z,h1.mono hk fun _ _ h=>h⟩
theorem wq.leaf (l:List bW) (vs:List Y) (h:wq K l vs):cg vs=true:=by
 obtain⟨ev,f,a,q,rb,n,rfl,h1⟩:=h;exact aj h1.leaf.2 Z
theorem Kd (E:Plain G) {s:TS} {cv ev:Y} {rb:Nat} (A:K tb (.row (J4 c cv s rb ev) 85 false)) (F:s.asks=false) (u:bG K 5 iN s.events ev) (O:H V K L):
  Ca G K L 34 [.ptr tb 0] V <| .agg [ev,.int .i64 s.fin,iZ,iZ,iZ,iZ,iZ,nI s.at_,.slice rb 0 s.bE.length (.known s.bE.length),nI s.asked]:=by
 refine XD E Tryz.func34 Z<|Xb 2 Z<|kb O (Yy (cs:=[.aw,iZ,iZ,iZ,iZ,iZ,iZ,iZ,.aw,iZ])) (fun V b1 O=>?_);refine Wn 3 Z<|aU (l:=zp [0,1,2,3,4,5,6,7,8,9,10,11,12,13,14,15,16,17,18,19,20,21,22]) B B<|wQ 1 Z<|ah Z Z (cV Z) Z<|ah Z Z (Yv 4 Z) Z<|ah Z Z (Yw Z (O.bJ A) Z) Z<|wQ 1 Z<|ah Z Z (cV Z) Z<|ah Z Z (Yv 6 Z) Z<|ah Z Z (Yw Z (O.bJ A) Z) Z<|wQ 1 Z<|ah Z Z (cV Z) Z<|ah Z Z (Yv 2 Z) Z<|ah Z Z (Yw Z (O.bJ A) Z) Z ?_;refine wQ 1 Z (ah Z Z (cV Z) Z (ah Z Z (Yv 3 Z) Z (ah Z Z (Yw Z (O.bJ A) Z) Z (wQ 1 Z (ah Z Z (cV Z) Z (ah Z Z (Yv 5 Z) Z (ah Z Z (Yw Z (O.bJ A) Z) Z (ah Z Z (cY (places:=[(0,1),(1,1),(2,5),(7,1),(8,1),(9,1)]) (zero:=[.aw,iZ,iZ,iZ,iZ,iZ,iZ,iZ,.aw,iZ]) (cs:=[_,_,_,_,_,_,_,_,_,_]) B B B (bn Z Z u.leaf.1 Z<|bn Z Z Z Z<|bn Z Z Z Z<|bn Z Z Z Z<|bn Z Z Z Z cD) B) Z<|w6 O Z Z (Yy (cs:=[.aw,iZ,iZ,iZ,iZ,iZ,iZ,iZ,.aw,iZ])) (fun _=>Z) (fun V b2 O=>?_)))))))));refine pB O Z Z (UM Z Z Z O.g0 (m:=10) Z (aj u.leaf.2 Z) (cells':=[_,_,_,_,_,_,_,_,_,_]) Z) Z (fun V O=>?_);refine⟨aY,?_⟩;refine Xg 2 Z<|Wi 4 Z<|S Z (cV Z) Z<|S Z (Yv 7 Z) Z<|S Z (Yw Z (O.bJ A) Z) Z<|Xd 2 Z<|aG Z (fun C=>?_) (fun C=>?_)
 ·exact absurd C (by show¬s.asks=true;rw[F];exact Bool.false_ne_true)
 refine Wk 4 Z<|S Z (SG Z O.g0 (n:=10) (vs:=[_,_,_,_,_,_,_,_,_,_]) Z) Z<|gF O Z (UM Z Z Z O.g1 (m:=10) Z (aj u.leaf.2 Z) (cells':=[_,_,_,_,_,_,_,_,_,_]) Z) Z (fun V O=>?_);refine Xf 3 Z ?_;exact dy Z Z O.g1 (m:=10) B Z ⟨Z,O.pop.pop⟩
variable {α:Type} {E:Nat} {M:Own} {R:α->List Y->Prop}
theorem cO.tx {m:Nat} {l:List α} {u:Y} (h:cO m E R l u M):bG (K.gw M) m R l u:=h.gB fun _ he=>.inr he
theorem cO.jN {m:Nat} {R':α->List Y->Prop} {l:List α} {u:Y} (h:cO m E R l u M) (A:∀x vs,R x vs->R' x vs):cO m E R' l u M:=by
 rcases h with h | ⟨b,c,cells,e,h1,C,h3,F,h5⟩
 ·exact .inl h
 exact .inr ⟨b,c,cells,e,h1,C,h3,fun i x hx=>A x _ (F i x hx),h5⟩
theorem cO.nil {m:Nat}:cO m E R ([]:List α) .aw []:=.inl ⟨Z,Z,Z⟩
variable {C e1 e2:Nat} {v1 v2:Y}
theorem Tf (hG:Plain G) {g:Nat} {c:List bW->List bW->Int} (am:lz Tryz.prog g=true) {l1 l2:List (List bW)} (O:H V K L) (h1:bG K 1 (RL K 5 iN) l1 v1) (h2:bG K 1 (RL K 5 iN) l2 v2)
  (I:∀x y u w V L,H V K L->bG K 5 iN x u->bG K 5 iN y w->EC G g [u,w] V fun v V'=>v= .int .i64 (c x y)/\H V' K L):
  EC G 50 [v1,v2,.func g [] []] V fun v V'=>v= .int .i64 (eo c l1 l2)/\H V' K L:=by
 refine XD hG Tryz.func50 Z<|Wi 9 Z<|S Z (Yx h1 Z Z Z (e:=41) Z) Z<|Wm 4 Z ?_;obtain⟨LL1,O,hLL1⟩:=O.named;refine bq (rg 6 5++rg 13 21) (fun j t V=>∃(i:Nat),j+i=l1.length/\eo c l1 l2=eo c (l1.drop i) (l2.drop i)/\t.get 13=some (nI i)/\H V K LL1) (l1.length) ⟨0,Z,Z,Z,O⟩ ?_;clear O;intro j2 t V ar hI;obtain⟨i,a0,C,R,O⟩:=hI;subst hLL1;obtain⟨oo,rfl⟩:=ar.q1 R Z;refine Xa 6 Z<|aG Z (fun F=>?_) (fun F=>?_)
 ·refine UY 7 Z ?_;obtain⟨a1,A,ao⟩:=dh F;refine Yp (e:=41) (m:=1) h1 A Z Z Z Z (fun a2 ap T aq W=>?_);have hr16':=W;obtain⟨a3,rfl,X⟩:=hr16';refine S Z (Yz O T Z Z) Z<|VE 9 Z<|S Z (Yx h2 Z Z Z (e:=41) Z) Z<|Xd 3 Z<|aG Z (fun M=>?_) (fun M=>?_)
  ·refine XN 6 Z<|aA<|aI<|aA<|bP<|aI<|aA (?_);exact az Z Z ⟨cJ (by symm;rw[C];exact oj A<|mE M),O⟩
  refine Wk 6 Z ?_;obtain⟨a4,E⟩:=da (mK M);refine Yp (e:=41) (m:=1) h2 E Z Z Z Z (fun a5 ax aa aE ab=>?_);have hr24':=ab;obtain⟨a9,rfl,ac⟩:=hr24';refine S Z (Yz O aa Z Z) Z<|Wo 8 Z<|bk Z (aP Z Z Z am) (fun _=>Z) (I _ _ _ _ _ _ O X ac) (fun V O=>?_);refine Xd 9 Z<|aG Z (fun N=>?_) (fun N=>?_)
  ·refine XN 7 Z<|aI<|aA<|bP<|aI<|aA (?_);exact az Z Z ⟨cJ (by symm;rw[C];exact oq A E<|eb N),O⟩
  refine aH<|aD<|XK 4 Z<|aJ ⟨j2-1,by omega,oF,i+1,by omega,C.trans<|om A E<|dg N,cI<|a6 (by have:=h1.cQ;omega),O⟩
 refine Wl 3 Z<|aQ<|Wi 4 Z<|S Z (Yx h1 Z Z Z (e:=41) Z) Z<|vQ 1 Z<|S Z (Yx h2 Z Z Z (e:=41) Z) Z<|Xd 3 Z<|aG Z (fun Q=>?_) (fun Q=>?_)
 ·refine Xc 7 Z ?_;exact az Z Z ⟨cJ (by symm;rw[C];exact oi (bI F) oM<|aS Q),O⟩
 refine Xc 8 Z ?_;exact az Z Z ⟨cJ (by symm;rw[C];exact qm (bI F)<|bI Q),O⟩
theorem Tg (hG:Plain G) {g:Nat} {c:List bV->List bV->Int} (am:lz Tryz.prog g=true) {l1 l2:List (List bV)} (O:H V K L) (h1:bG K 1 (RL K 2 fj) l1 v1) (h2:bG K 1 (RL K 2 fj) l2 v2)
  (I:∀x y u w V L,H V K L->bG K 2 fj x u->bG K 2 fj y w->EC G g [u,w] V fun v V'=>v= .int .i64 (c x y)/\H V' K L):
  EC G 55 [v1,v2,.func g [] []] V fun v V'=>v= .int .i64 (eo c l1 l2)/\H V' K L:=by
 refine XD hG Tryz.func55 Z<|Wi 9 Z<|S Z (Yx h1 Z Z Z (e:=57) Z) Z<|Wm 4 Z ?_;obtain⟨LL1,O,hLL1⟩:=O.named;refine bq (rg 6 5++rg 13 21) (fun j t V=>∃(i:Nat),j+i=l1.length/\eo c l1 l2=eo c (l1.drop i) (l2.drop i)/\t.get 13=some (nI i)/\H V K LL1) (l1.length) ⟨0,Z,Z,Z,O⟩ ?_;clear O;intro j2 t V ar hI;obtain⟨i,a0,C,R,O⟩:=hI;subst hLL1;obtain⟨oo,rfl⟩:=ar.q1 R Z;refine Xa 6 Z<|aG Z (fun F=>?_) (fun F=>?_)
 ·refine UY 7 Z ?_;obtain⟨a1,A,ao⟩:=dh F;refine Yp (e:=57) (m:=1) h1 A Z Z Z Z (fun a2 ap T aq W=>?_);have hr16':=W;obtain⟨a3,rfl,X⟩:=hr16';refine S Z (Yz O T Z Z) Z<|VE 9 Z<|S Z (Yx h2 Z Z Z (e:=57) Z) Z<|Xd 3 Z<|aG Z (fun M=>?_) (fun M=>?_)
  ·refine XN 6 Z<|aA<|aI<|aA<|bP<|aI<|aA (?_);exact az Z Z ⟨cJ (by symm;rw[C];exact oj A<|mE M),O⟩
  refine Wk 6 Z ?_;obtain⟨a4,E⟩:=da (mK M);refine Yp (e:=57) (m:=1) h2 E Z Z Z Z (fun a5 ax aa aE ab=>?_);have hr24':=ab;obtain⟨a9,rfl,ac⟩:=hr24';refine S Z (Yz O aa Z Z) Z<|Wo 8 Z<|bk Z (aP Z Z Z am) (fun _=>Z) (I _ _ _ _ _ _ O X ac) (fun V O=>?_);refine Xd 9 Z<|aG Z (fun N=>?_) (fun N=>?_)
  ·refine XN 7 Z<|aI<|aA<|bP<|aI<|aA (?_);exact az Z Z ⟨cJ (by symm;rw[C];exact oq A E<|eb N),O⟩
  refine aH<|aD<|XK 4 Z<|aJ ⟨j2-1,by omega,oF,i+1,by omega,C.trans<|om A E<|dg N,cI<|a6 (by have:=h1.cQ;omega),O⟩
 refine Wl 3 Z<|aQ<|Wi 4 Z<|S Z (Yx h1 Z Z Z (e:=57) Z) Z<|vQ 1 Z<|S Z (Yx h2 Z Z Z (e:=57) Z) Z<|Xd 3 Z<|aG Z (fun Q=>?_) (fun Q=>?_)
 ·refine Xc 7 Z ?_;exact az Z Z ⟨cJ (by symm;rw[C];exact oi (bI F) oM<|aS Q),O⟩
 refine Xc 8 Z ?_;exact az Z Z ⟨cJ (by symm;rw[C];exact qm (bI F)<|bI Q),O⟩
theorem V2 (hG:Plain G) {g:Nat} {c:bW->bW->Int} (aa:lz Tryz.prog g=true) {l1 l2:List (bW)} (O:H V K L) (h1:bG K 5 (iN) l1 v1) (h2:bG K 5 (iN) l2 v2)
  (F:∀x y V L,H V K L->EC G g [.agg<|ints x.ints,.agg<|ints y.ints] V fun v V'=>v= .int .i64 (c x y)/\H V' K L):
  EC G 92 [v1,v2,.func g [] []] V fun v V'=>v= .int .i64 (eo c l1 l2)/\H V' K L:=by
 refine XD hG Tryz.func92 Z<|Wi 9 Z<|S Z (Yx h1 Z Z Z (e:=40) Z) Z<|Wm 4 Z ?_;obtain⟨LL1,O,hLL1⟩:=O.named;refine bq (rg 6 5++rg 13 21) (fun j t V=>∃(i:Nat),j+i=l1.length/\eo c l1 l2=eo c (l1.drop i) (l2.drop i)/\t.get 13=some (nI i)/\H V K LL1) (l1.length) ⟨0,Z,Z,Z,O⟩ ?_;clear O;intro j2 t V ar hI;obtain⟨i,aq,A,Q,O⟩:=hI;subst hLL1;obtain⟨oo,rfl⟩:=ar.q1 Q Z;refine Xa 6 Z<|aG Z (fun E=>?_) (fun E=>?_)
 ·refine UY 7 Z ?_;obtain⟨ax,u,ab⟩:=dh E;refine Yp (e:=40) (m:=5) h1 u Z Z Z Z (fun aE ac R am T=>?_);obtain rfl:=T;refine S Z (YA O R Z Z) Z<|kb O (Yy (cs:=[iZ,iZ,iZ,iZ,iZ])) (fun V b1 O=>?_);refine vQ 1 Z<|ks O (YD Z Z Z O.g0 Z) (fun V O=>?_);refine VE 7 Z<|S Z (Yx h2 Z Z Z (e:=40) Z) Z<|Xd 3 Z<|aG Z (fun I=>?_) (fun I=>?_)
  ·refine XN 6 Z<|aA<|aI<|aA<|bP<|aI<|aA (?_);exact az Z Z ⟨cJ (by symm;rw[A];exact oj u<|mE I),O.pop⟩
  refine Wk 6 Z ?_;obtain⟨a0,C⟩:=da (mK I);refine Yp (e:=40) (m:=5) h2 C Z Z Z Z (fun a1 ao W ap X=>?_);obtain rfl:=X;refine S Z (YA O W Z Z) Z<|kb O (Yy (cs:=[iZ,iZ,iZ,iZ,iZ])) (fun V b2 O=>?_);refine ks O (YD Z Z Z O.g0 Z) (fun V O=>?_);refine Wo 5 Z<|S Z (YG Z O.g1 Z) Z<|S Z (YG Z O.g0 Z) Z<|bk Z (aP Z Z Z aa) (fun _=>Z) (F _ _ _ _ O) (fun V O=>?_);refine Xd 9 Z<|aG Z (fun M=>?_) (fun M=>?_)
  ·refine XN 7 Z<|aI<|aA<|bP<|aI<|aA (?_);exact az Z Z ⟨cJ (by symm;rw[A];exact oq u C<|eb M),O.pop.pop⟩
  refine aH<|aD<|XK 4 Z ?_;have O:=O.pop;have O:=O.pop;refine aJ ⟨j2-1,by omega,oF,i+1,by omega,A.trans<|om u C<|dg M,cI<|a6 (by have:=h1.cQ;omega),O⟩
 refine Wl 3 Z<|aQ<|Wi 4 Z<|S Z (Yx h1 Z Z Z (e:=40) Z) Z<|vQ 1 Z<|S Z (Yx h2 Z Z Z (e:=40) Z) Z<|Xd 3 Z<|aG Z (fun N=>?_) (fun N=>?_)
 ·refine Xc 7 Z ?_;exact az Z Z ⟨cJ (by symm;rw[A];exact oi (bI E) oM<|aS N),O⟩
 refine Xc 8 Z ?_;exact az Z Z ⟨cJ (by symm;rw[A];exact qm (bI E)<|bI N),O⟩
theorem V3 (hG:Plain G) {g:Nat} {c:bV->bV->Int} (aa:lz Tryz.prog g=true) {l1 l2:List (bV)} (O:H V K L) (h1:bG K 2 (fj) l1 v1) (h2:bG K 2 (fj) l2 v2)
  (F:∀x y V L,H V K L->EC G g [.agg<|ints x.ints,.agg<|ints y.ints] V fun v V'=>v= .int .i64 (c x y)/\H V' K L):
  EC G 95 [v1,v2,.func g [] []] V fun v V'=>v= .int .i64 (eo c l1 l2)/\H V' K L:=by
 refine XD hG Tryz.func95 Z<|Wi 9 Z<|S Z (Yx h1 Z Z Z (e:=89) Z) Z<|Wm 4 Z ?_;obtain⟨LL1,O,hLL1⟩:=O.named;refine bq (rg 6 5++rg 13 21) (fun j t V=>∃(i:Nat),j+i=l1.length/\eo c l1 l2=eo c (l1.drop i) (l2.drop i)/\t.get 13=some (nI i)/\H V K LL1) (l1.length) ⟨0,Z,Z,Z,O⟩ ?_;clear O;intro j2 t V ar hI;obtain⟨i,aq,A,Q,O⟩:=hI;subst hLL1;obtain⟨oo,rfl⟩:=ar.q1 Q Z;refine Xa 6 Z<|aG Z (fun E=>?_) (fun E=>?_)
 ·refine UY 7 Z ?_;obtain⟨ax,u,ab⟩:=dh E;refine Yp (e:=89) (m:=2) h1 u Z Z Z Z (fun aE ac R am T=>?_);obtain rfl:=T;refine S Z (YA O R Z Z) Z<|kb O (Yy (cs:=[iZ,iZ])) (fun V b1 O=>?_);refine vQ 1 Z<|ks O (YB Z Z Z O.g0 Z) (fun V O=>?_);refine VE 7 Z<|S Z (Yx h2 Z Z Z (e:=89) Z) Z<|Xd 3 Z<|aG Z (fun I=>?_) (fun I=>?_)
  ·refine XN 6 Z<|aA<|aI<|aA<|bP<|aI<|aA (?_);exact az Z Z ⟨cJ (by symm;rw[A];exact oj u<|mE I),O.pop⟩
  refine Wk 6 Z ?_;obtain⟨a0,C⟩:=da (mK I);refine Yp (e:=89) (m:=2) h2 C Z Z Z Z (fun a1 ao W ap X=>?_);obtain rfl:=X;refine S Z (YA O W Z Z) Z<|kb O (Yy (cs:=[iZ,iZ])) (fun V b2 O=>?_);refine ks O (YB Z Z Z O.g0 Z) (fun V O=>?_);refine Wo 5 Z<|S Z (YE Z O.g1 Z) Z<|S Z (YE Z O.g0 Z) Z<|bk Z (aP Z Z Z aa) (fun _=>Z) (F _ _ _ _ O) (fun V O=>?_);refine Xd 9 Z<|aG Z (fun M=>?_) (fun M=>?_)
  ·refine XN 7 Z<|aI<|aA<|bP<|aI<|aA (?_);exact az Z Z ⟨cJ (by symm;rw[A];exact oq u C<|eb M),O.pop.pop⟩
  refine aH<|aD<|XK 4 Z ?_;have O:=O.pop;have O:=O.pop;refine aJ ⟨j2-1,by omega,oF,i+1,by omega,A.trans<|om u C<|dg M,cI<|a6 (by have:=h1.cQ;omega),O⟩
 refine Wl 3 Z<|aQ<|Wi 4 Z<|S Z (Yx h1 Z Z Z (e:=89) Z) Z<|vQ 1 Z<|S Z (Yx h2 Z Z Z (e:=89) Z) Z<|Xd 3 Z<|aG Z (fun N=>?_) (fun N=>?_)
 ·refine Xc 7 Z ?_;exact az Z Z ⟨cJ (by symm;rw[A];exact oi (bI E) oM<|aS N),O⟩
 refine Xc 8 Z ?_;exact az Z Z ⟨cJ (by symm;rw[A];exact qm (bI E)<|bI N),O⟩
theorem Sn (hG:Plain G) {l1 l2:List (Int)} (O:H V K L) (h1:bG K 1 (dB) l1 v1) (X:bG K 1 (dB) l2 v2):
  Ca G K L 59 [v1,v2] V <| .int .i64 (eo ff l1 l2):=by
 refine XD hG Tryz.func59 Z<|Wi 9 Z<|S Z (Yx h1 Z Z Z (e:=2) Z) Z<|Wm 4 Z ?_;obtain⟨LL1,O,hLL1⟩:=O.named;refine bq (rg 4 5++rg 11 20) (fun j t V=>∃(i:Nat),j+i=l1.length/\eo ff l1 l2=eo ff (l1.drop i) (l2.drop i)/\t.get 11=some (nI i)/\H V K LL1) (l1.length) ⟨0,Z,Z,Z,O⟩ ?_;clear O;intro j2 t V ar hI;obtain⟨i,ap,A,N,O⟩:=hI;subst hLL1;obtain⟨oo,rfl⟩:=ar.q1 N Z;refine Xa 6 Z<|aG Z (fun E=>?_) (fun E=>?_)
 ·refine UY 7 Z ?_;obtain⟨aq,u,aa⟩:=dh E;refine Yp (e:=2) (m:=1) h1 u Z Z Z Z (fun ax ab Q ac R=>?_);obtain rfl:=R;refine S Z (Yz O Q Z Z) Z<|VE 9 Z<|S Z (Yx X Z Z Z (e:=2) Z) Z<|Xd 3 Z<|aG Z (fun F=>?_) (fun F=>?_)
  ·refine XN 6 Z<|aA<|aI<|aA<|bP<|aI<|aA (?_);exact az Z Z ⟨cJ (by symm;rw[A];exact oj u<|mE F),O⟩
  refine Wk 6 Z ?_;obtain⟨aE,C⟩:=da (mK F);refine Yp (e:=2) (m:=1) X C Z Z Z Z (fun a0 am T ao W=>?_);obtain rfl:=W;refine S Z (Yz O T Z Z) Z<|Wo 7 Z<|kx (Yu Z Z Z) (xg hG _ _ O) (fun V O=>?_);refine Xd 9 Z<|aG Z (fun I=>?_) (fun I=>?_)
  ·refine XN 7 Z<|aI<|aA<|bP<|aI<|aA (?_);exact az Z Z ⟨cJ (by symm;rw[A];exact oq u C<|eb I),O⟩
  refine aH<|aD<|XK 4 Z<|aJ ⟨j2-1,by omega,oF,i+1,by omega,A.trans<|om u C<|dg I,cI<|a6 (by have:=h1.cQ;omega),O⟩
 refine Wl 3 Z<|aQ<|Wi 4 Z<|S Z (Yx h1 Z Z Z (e:=2) Z) Z<|vQ 1 Z<|S Z (Yx X Z Z Z (e:=2) Z) Z<|Xd 3 Z<|aG Z (fun M=>?_) (fun M=>?_)
 ·refine Xc 7 Z ?_;exact az Z Z ⟨cJ (by symm;rw[A];exact oi (bI E) oM<|aS M),O⟩
 refine Xc 8 Z ?_;exact az Z Z ⟨cJ (by symm;rw[A];exact qm (bI E)<|bI M),O⟩
theorem DV (u:Plain G) {l1 l2:List bW} {A C:Y} (O:H V K L) (h1:bG K 5 iN l1 A) (E:bG K 5 iN l2 C):Ca G K L 51 [A,C] V <| .int .i64 (iY l1 l2):=by
 refine XD u Tryz.func51 Z<|Xb 8 Z<|S Z (Yx h1 Z Z Z (e:=40) Z) Z<|vQ 1 Z<|S Z (Yx E Z Z Z (e:=40) Z) Z<|kx (Yu Z Z Z) (Cy u _ _ O) (fun V O=>?_);refine Xf 4 Z ?_;exact az Z Z ⟨Z,O⟩
theorem xE (u:Plain G) {l1 l2:List bW} {A C:Y} (O:H V K L) (h1:bG K 5 iN l1 A) (E:bG K 5 iN l2 C):Ca G K L 53 [A,C] V <| .int .i64 (eo pQ l1 l2):=by
 refine XD u Tryz.func53 Z<|Xb 9 Z<|kx (Yu Z Z Z) (V2 u (g:=93) (c:=pQ) B O h1 E (fun _ _ _ _ O=>Av u _ _ O)) (fun V O=>?_);refine Xf 4 Z ?_;exact az Z Z ⟨Z,O⟩
theorem Xu (u:Plain G) {l1 l2:List bV} {E F p q:Y} (h1:bG K 2 fj l1 E) (I:bG K 2 fj l2 F) (A:eT K p [E]) (C:eT K q [F]) (O:H V K L):Ca G K L 94 [p,q] V <| .int .i64 (eo ql l1 l2):=by
 refine XD u Tryz.func94 Z<|Xb 7 Z<|S Z (Yz O A Z Z) Z<|S Z (Yz O C Z Z) Z<|kx (Yu Z Z Z) (V3 u (g:=96) (c:=ql) B O h1 I (fun _ _ _ _ O=>Ge u _ _ O)) (fun V O=>?_);refine Xf 4 Z ?_;exact az Z Z ⟨Z,O⟩
theorem VM (M:Plain G) {F I:Y} (u:K C (.row [F] e1 false)) (A:K E (.row [I] e2 false)) {l1 l2:List bV} (h1:bG K 2 fj l1 F) (N:bG K 2 fj l2 I):xq Tryz.prog G K (eo ql l1 l2) [.func 94 [] [.ptr C 0,.ptr E 0]]:=⟨94,_,Z,by kernel_rfl,fun V L O=>Xu M h1 N (gx u) (gx A) O⟩
theorem vg (u:Plain G) {l1 l2:List bV} {C E:Y} (O:H V K L) (h1:bG K 2 fj l1 C) (A:bG K 2 fj l2 E):Ca G K L 56 [C,E] V <| .int .i64 (iX l1 l2):=by
 refine XD u Tryz.func56 Z<|Xb 2 Z<|kb O (cL Z h1.leaf.1) (fun V F O=>?_);refine kb O (cL Z A.leaf.1) (fun V I O=>?_);refine Wu O 6 [1] Z Z<|S Z (Yx h1 Z Z Z (e:=89) Z) Z<|S Z (Yw Z O.g0 Z) Z<|S Z (Yx A Z Z Z (e:=89) Z) Z<|kw (Yu Z Z Z) (iU u _ _ O) ?_;rintro _ V ⟨N,Q,rfl,O⟩;refine vQ 1 Z<|gE O Z (cM (e:=103) (m:=1) (z:=[.nilFunc]) (cs:=[.func 90 [] [.ptr N 0,.ptr Q 0],.func 94 [] [.ptr F 0,.ptr I 0]]) B B B B (by rfl)) (fun _=>Z) (fun V b5 O=>?_);have hq:=O.keeps (M:=[_,_,_,_,_]);refine kx (Yu Z Z Z) (mi<|sd u hq<|fE.slice (fE.cons (sO u (KP.cu 2 Z)<|KP.cu 1 Z)<|fE.cons (VM u (KP.cu 4 Z) (KP.cu 3 Z) (h1.mono (KP.cR _ _) fun _ _ h=>h)<|A.mono (KP.cR _ _) fun _ _ h=>h) fE.nil) (KP.cu 0 Z) Z (nR_ _) (by decide)) (fun V O=>?_);clear hq;refine Xf 4 Z ?_;exact az Z Z ⟨Z,O⟩
variable {N T X a1 a2 b2 d1 d2:Y}
theorem Xp (u:Plain G) {g1 N:XG} {Q R W c2:Y} (h1:eS K g1 Q R T W) (h2:eS K N X b2 c2 d2) {p q:Y} (A:eT K p [Q,R,T,W]) (C:eT K q [X,b2,c2,d2]) (O:H V K L):Ca G K L 49 [p,q] V <| .int .i64 (eo iY g1.threads N.threads):=by
 have h1':=h1;obtain⟨aa,E,ab,ac⟩:=h1';have h2':=h2;obtain⟨am,F,ao,ap⟩:=h2';refine XD u Tryz.func49 Z<|Xb 7 Z<|bU A Z Z Z (k:=1) B (lb Z) (fun _=>Z) (fun p3 I=>?_);refine S Z (Yz O I Z Z) Z<|bU C Z Z Z (k:=1) B (lb Z) (fun _=>Z) (fun p5 M=>?_);refine S Z (Yz O M Z Z) Z<|kx (Yu Z Z Z) (Tf u (g:=51) (c:=iY) B O E F (fun _ _ _ _ _ _ O hx hy=>DV u O hx hy)) (fun V O=>?_);refine Xf 4 Z ?_;exact az Z Z ⟨Z,O⟩
theorem VH (hG:Plain G) {g1 F:XG} {I M Q R W:Y} (u:K C (.row [I,M,N,Q] e1 false)) (A:K E (.row [R,T,W,X] e2 false)) (h1:eS K g1 I M N Q) (h2:eS K F R T W X):xq Tryz.prog G K (eo iY g1.threads F.threads) [.func 49 [] [.ptr C 0,.ptr E 0]]:=⟨49,_,Z,by kernel_rfl,fun V L O=>Xp hG h1 h2 (gx u) (gx A) O⟩
theorem Xq (u:Plain G) {g1 N:XG} {Q R W c2:Y} (h1:eS K g1 Q R T W) (h2:eS K N X b2 c2 d2) {p q:Y} (A:eT K p [Q,R,T,W]) (C:eT K q [X,b2,c2,d2]) (O:H V K L):Ca G K L 52 [p,q] V <| .int .i64 (eo (eo pQ) g1.threads N.threads):=by
 have h1':=h1;obtain⟨aa,E,ab,ac⟩:=h1';have h2':=h2;obtain⟨am,F,ao,ap⟩:=h2';refine XD u Tryz.func52 Z<|Xb 7 Z<|bU A Z Z Z (k:=1) B (lb Z) (fun _=>Z) (fun p3 I=>?_);refine S Z (Yz O I Z Z) Z<|bU C Z Z Z (k:=1) B (lb Z) (fun _=>Z) (fun p5 M=>?_);refine S Z (Yz O M Z Z) Z<|kx (Yu Z Z Z) (Tf u (g:=53) (c:=eo pQ) B O E F (fun _ _ _ _ _ _ O hx hy=>xE u O hx hy)) (fun V O=>?_);refine Xf 4 Z ?_;exact az Z Z ⟨Z,O⟩
theorem VI (hG:Plain G) {g1 F:XG} {I M Q R W:Y} (u:K C (.row [I,M,N,Q] e1 false)) (A:K E (.row [R,T,W,X] e2 false)) (h1:eS K g1 I M N Q) (h2:eS K F R T W X):xq Tryz.prog G K (eo (eo pQ) g1.threads F.threads) [.func 52 [] [.ptr C 0,.ptr E 0]]:=⟨52,_,Z,by kernel_rfl,fun V L O=>Xq hG h1 h2 (gx u) (gx A) O⟩
theorem Xr (u:Plain G) {g1 N:XG} {Q R W c2:Y} (h1:eS K g1 Q R T W) (h2:eS K N X b2 c2 d2) {p q:Y} (A:eT K p [Q,R,T,W]) (C:eT K q [X,b2,c2,d2]) (O:H V K L):Ca G K L 54 [p,q] V <| .int .i64 (eo iX g1.from_ N.from_):=by
 have h1':=h1;obtain⟨aa,ab,E,ac⟩:=h1';have h2':=h2;obtain⟨am,ao,F,ap⟩:=h2';refine XD u Tryz.func54 Z<|Xb 7 Z<|bU A Z Z Z (k:=2) B (lb Z) (fun _=>Z) (fun p3 I=>?_);refine S Z (Yz O I Z Z) Z<|bU C Z Z Z (k:=2) B (lb Z) (fun _=>Z) (fun p5 M=>?_);refine S Z (Yz O M Z Z) Z<|kx (Yu Z Z Z) (Tg u (g:=56) (c:=iX) B O E F (fun _ _ _ _ _ _ O hx hy=>vg u O hx hy)) (fun V O=>?_);refine Xf 4 Z ?_;exact az Z Z ⟨Z,O⟩
theorem VJ (hG:Plain G) {g1 F:XG} {I M Q R W:Y} (u:K C (.row [I,M,N,Q] e1 false)) (A:K E (.row [R,T,W,X] e2 false)) (h1:eS K g1 I M N Q) (h2:eS K F R T W X):xq Tryz.prog G K (eo iX g1.from_ F.from_) [.func 54 [] [.ptr C 0,.ptr E 0]]:=⟨54,_,Z,by kernel_rfl,fun V L O=>Xr hG h1 h2 (gx u) (gx A) O⟩
theorem Xs (u:Plain G) {g1 N:XG} {Q R W c2:Y} (h1:eS K g1 Q R T W) (h2:eS K N X b2 c2 d2) {p q:Y} (A:eT K p [Q,R,T,W]) (C:eT K q [X,b2,c2,d2]) (O:H V K L):Ca G K L 57 [p,q] V <| .int .i64 (eo iX g1.order N.order):=by
 have h1':=h1;obtain⟨aa,ab,ac,E⟩:=h1';have h2':=h2;obtain⟨am,ao,ap,F⟩:=h2';refine XD u Tryz.func57 Z<|Xb 7 Z<|bU A Z Z Z (k:=3) B (lb Z) (fun _=>Z) (fun p3 I=>?_);refine S Z (Yz O I Z Z) Z<|bU C Z Z Z (k:=3) B (lb Z) (fun _=>Z) (fun p5 M=>?_);refine S Z (Yz O M Z Z) Z<|kx (Yu Z Z Z) (Tg u (g:=56) (c:=iX) B O E F (fun _ _ _ _ _ _ O hx hy=>vg u O hx hy)) (fun V O=>?_);refine Xf 4 Z ?_;exact az Z Z ⟨Z,O⟩
theorem VK (hG:Plain G) {g1 F:XG} {I M Q R W:Y} (u:K C (.row [I,M,N,Q] e1 false)) (A:K E (.row [R,T,W,X] e2 false)) (h1:eS K g1 I M N Q) (h2:eS K F R T W X):xq Tryz.prog G K (eo iX g1.order F.order) [.func 57 [] [.ptr C 0,.ptr E 0]]:=⟨57,_,Z,by kernel_rfl,fun V L O=>Xs hG h1 h2 (gx u) (gx A) O⟩
theorem Xt (M:Plain G) {g1 N:XG} {Q R W c2:Y} (h1:eS K g1 Q R T W) (h2:eS K N X b2 c2 d2) {p q:Y} (u:eT K p [Q,R,T,W]) (A:eT K q [X,b2,c2,d2]) (O:H V K L):Ca G K L 58 [p,q] V <| .int .i64 (eo ff g1.init N.init):=by
 have h1':=h1;obtain⟨C,aa,ab,ac⟩:=h1';have h2':=h2;obtain⟨E,am,ao,ap⟩:=h2';refine XD M Tryz.func58 Z<|Xb 7 Z<|bU u Z Z Z (k:=0) B (lb Z) (fun _=>Z) (fun p3 F=>?_);refine S Z (Yz O F Z Z) Z<|bU A Z Z Z (k:=0) B (lb Z) (fun _=>Z) (fun p5 I=>?_);refine S Z (Yz O I Z Z) Z<|kx (Yu Z Z Z) (Sn M O C E) (fun V O=>?_);refine Xf 4 Z ?_;exact az Z Z ⟨Z,O⟩
theorem VL (hG:Plain G) {g1 F:XG} {I M Q R W:Y} (u:K C (.row [I,M,N,Q] e1 false)) (A:K E (.row [R,T,W,X] e2 false)) (h1:eS K g1 I M N Q) (h2:eS K F R T W X):xq Tryz.prog G K (eo ff g1.init F.init) [.func 58 [] [.ptr C 0,.ptr E 0]]:=⟨58,_,Z,by kernel_rfl,fun V L O=>Xt hG h1 h2 (gx u) (gx A) O⟩
theorem Mw (u:Plain G) {g1 g2:XG} {E c1 F c2:Y} (h1:eS K g1 a1 E c1 d1) (Q:eS K g2 a2 F c2 d2) (O:H V K L):Ca G K L 21 [.agg [a1,E,c1,d1],.agg [a2,F,c2,d2]] V <| .int .i64 (ml g1 g2):=by
 have h1':=h1;obtain⟨A,W,R,I⟩:=h1';have h2':=Q;obtain⟨C,X,T,N⟩:=h2';refine XD u Tryz.func21 Z<|Xb 2 Z<|kb O (cL Z Z) (fun V E O=>?_);refine kb O (cL Z Z) (fun V F O=>?_);refine Wn 4 Z (aU (l:=[(0,[]),(1,[]),(2,[]),(3,[]),(4,[]),(5,[]),(7,[]),(8,[]),(9,[]),(10,[]),(11,[]),(12,[]),(13,[]),(14,[]),(16,[]),(17,[]),(18,[]),(19,[]),(20,[]),(21,[]),(22,[]),(24,[]),(25,[]),(26,[]),(27,[]),(28,[]),(29,[]),(30,[]),(32,[]),(6,[10,13,18,21,26,29]),(15,[18,21,26,29]),(23,[26,29]),(31,[]),(33,[]),(34,[]),(35,[])]) B B<|XT O 2 [1,1] Z Z<|ah Z Z (Yx W Z Z Z (e:=41) Z) Z<|XT O 2 [1,0] Z Z<|ah Z Z (Yx X Z Z Z (e:=41) Z) Z<|XT O 4 [2,1] Z Z<|ah Z Z (Yx R Z Z Z (e:=57) Z) Z<|XT O 2 [2,0] Z Z<|ah Z Z (Yx T Z Z Z (e:=57) Z) Z<|XT O 3 [3,1] Z Z<|ah Z Z (Yx I Z Z Z (e:=57) Z) Z<|XT O 2 [3,0] Z Z<|ah Z Z (Yx N Z Z Z (e:=57) Z) Z ?_);refine XT O 3 [0,1] Z Z<|ah Z Z (Yx A Z Z Z (e:=2) Z) Z<|XT O 2 [0,0] Z Z<|ah Z Z (Yx C Z Z Z (e:=2) Z) Z<|wQ 1 Z<|fC Z Z (Yu Z Z Z) (fun _=>Z) (iU u _ _ O) ?_;rintro _ V ⟨b3,b4,rfl,O⟩;refine⟨(bx (bC Z Z Z Z Z (Yw Z (O.get 3 Z) Z) R.dV)<|bx (bC Z Z Z Z Z (Yw Z (O.get 2 Z) Z) T.dV)<|bx (bC Z Z Z Z Z (Yw Z (O.get 3 Z) Z) I.dV)<|bx (bC Z Z Z Z Z (Yw Z (O.get 2 Z) Z) N.dV)<|bx (bC Z Z Z Z Z (Yw Z (O.get 3 Z) Z) A.dV)<|bx (bC Z Z Z Z Z (Yw Z (O.get 2 Z) Z) C.dV) aY),?_⟩;refine fC Z Z (Yu Z Z Z) (fun _=>Z) (iU u _ _ O) ?_;rintro _ V ⟨b5,b6,rfl,O⟩;refine⟨(bx (bC Z Z Z Z Z (Yw Z (O.get 5 Z) Z) I.dV)<|bx (bC Z Z Z Z Z (Yw Z (O.get 4 Z) Z) N.dV)<|bx (bC Z Z Z Z Z (Yw Z (O.get 5 Z) Z) A.dV)<|bx (bC Z Z Z Z Z (Yw Z (O.get 4 Z) Z) C.dV) aY),?_⟩;refine fC Z Z (Yu Z Z Z) (fun _=>Z) (iU u _ _ O) ?_;rintro _ V ⟨b7,b8,rfl,O⟩;refine⟨(bx (bC Z Z Z Z Z (Yw Z (O.get 7 Z) Z) A.dV)<|bx (bC Z Z Z Z Z (Yw Z (O.get 6 Z) Z) C.dV) aY),?_⟩;refine fC Z Z (Yu Z Z Z) (fun _=>Z) (iU u _ _ O) ?_;rintro _ V ⟨b9,aa,rfl,O⟩;refine⟨aY,?_⟩;refine nN O Z Z (cM (e:=103) (m:=1) (z:=[.nilFunc]) (cs:=[.func 90 [] [.ptr b3 0,.ptr b4 0],.func 49 [] [.ptr E 0,.ptr F 0],.func 52 [] [.ptr E 0,.ptr F 0],.func 90 [] [.ptr b5 0,.ptr b6 0],.func 54 [] [.ptr E 0,.ptr F 0],.func 90 [] [.ptr b7 0,.ptr b8 0],.func 57 [] [.ptr E 0,.ptr F 0],.func 90 [] [.ptr b9 0,.ptr aa 0],.func 58 [] [.ptr E 0,.ptr F 0]]) B B B B (by rfl)) (fun _=>Z) (fun V ab O=>?_);have hq:=O.keeps (M:=[_,_,_,_,_,_,_,_,_,_,_])
 refine dO Z Z (Yu Z Z Z) (fun _=>Z) (mi<|sd u hq<|fE.slice (fE.cons (sO u (KP.cu 8 Z)<|KP.cu 7 Z)<|fE.cons (VH u (KP.cu 10 Z) (KP.cu 9 Z) (h1.mono<|KP.cR _ _)<|Q.mono<|KP.cR _ _)<|fE.cons (VI u (KP.cu 10 Z) (KP.cu 9 Z) (h1.mono<|KP.cR _ _)<|Q.mono<|KP.cR _ _)<|fE.cons (sO u (KP.cu 6 Z)<|KP.cu 5 Z)<|fE.cons (VJ u (KP.cu 10 Z) (KP.cu 9 Z) (h1.mono<|KP.cR _ _)<|Q.mono<|KP.cR _ _)<|fE.cons (sO u (KP.cu 4 Z)<|KP.cu 3 Z)<|fE.cons (VK u (KP.cu 10 Z) (KP.cu 9 Z) (h1.mono<|KP.cR _ _)<|Q.mono<|KP.cR _ _)<|fE.cons (sO u (KP.cu 2 Z)<|KP.cu 1 Z)<|fE.cons (VL u (KP.cu 10 Z) (KP.cu 9 Z) (h1.mono<|KP.cR _ _)<|Q.mono<|KP.cR _ _) fE.nil) (KP.cu 0 Z) Z (nR_ _) (by decide)) (fun V O=>?_);clear hq;refine⟨aY,?_⟩;refine Xh 4 Z ?_;exact az Z Z ⟨Z,O⟩
theorem eW {l:List α} {i:Nat} {x:α} (h:l[i]? =some x):l.take (i+1)=l.take i++[x]:=by rw[zb_,h];rfl
variable {od:List Nat} {ba bc bg bv:Nat} {vv:Y}
theorem JA (A M R:List α) (x y:α):(A++(x::y::(M++R))).Perm ((x::y::M)++(A++R)):=by
 classical
 rw[List.perm_iff_count];intro z;simp only[List.count_append,List.count_cons];omega
theorem KY {β:Type} {g:Int->β->Bool×β} {l:List Int} {n:Nat} {b r:β} (h:ie g (l.take n) b=(false,r)):ie g l b=(false,r):=by
 have h1:=E1 (g:=g) (l:=l.take n) (r:=l.drop n) (b:=b) (by rw[h]);rw[List.take_append_drop,h] at h1;exact h1
theorem mX.Jm {m:Nat} {l:List α} {u:Y} (h:mX m E R l u M):cE u=some [u]/\eX u=true:=
 (h.gB (K:=fun b o=>(b,o)∈M) fun e he=>he).leaf
structure ML (K:KP) (k:Nat) (c:XC) (vs:List Int) (cv vv:Y) (bc ba be bv bg:Nat):Prop where
 code:K bc (.row [.int .i64 c.bE,cv] 49 false)
 V0:K bv (.row [vv] 22 false)
 fn:K bg (.row [.func 32 [] [.ptr bc 0,.ptr ba 0,.ptr be 0,.ptr bv 0,.ptr bg 0]] 24 false)
 hi:bG K 6 (jA K k) c.ins cv
 hv:bG K 1 dB vs vv
theorem ML.mono {K K':KP} {k:Nat} {c:XC} {vs:List Int} {cv vv:Y} {bc ba be bv bg:Nat} (h:ML K k c vs cv vv bc ba be bv bg) (hk:KP.le K K'):ML K' k c vs cv vv bc ba be bv bg:=
 ⟨hk _ _ h.code,hk _ _ h.V0,hk _ _ h.fn,h.hi.mono hk fun _ _ h=>h.mono hk,h.hv.mono hk fun _ _ h=>h⟩
theorem Qf (hG:Plain G) {k:Nat} (hc:eO k c) (bi:dJ k c=0) (ho:eV c=some od) (hR:ft (du c) c.ins.length od) (bl:pT k c<=14) {vs:List Int} {cv:Y} {be:Nat}:
  ∀(f:Nat) (K:KP) (A:List Int) (acc:List (List bW)) (ua ue:Y) (Ma Me:Own) (V:D),A.length+f=14->acc.length<=4096->ML K k c vs cv vv bc ba be bv bg->mX 1 2 dB A ua Ma->cO 10 71 (wq K) acc ue Me->H V K (Ma++((ba,.row [ua] 22 false)::(be,.row [ue] 50 false)::(Me++L)))->
   EC G 32 [.ptr bc 0,.ptr ba 0,.ptr be 0,.ptr bv 0,.ptr bg 0] V fun v V'=>∃K' A' ua' ue' Ma' Me',KP.le K K'/\v= .bool (iw k c vs f A acc).1/\((iw k c vs f A acc).1=true->A'=A)/\mX 1 2 dB A' ua' Ma'/\cO 10 71 (wq K') (iw k c vs f A acc).2 ue' Me'/\H V' K' (Ma'++((ba,.row [ua'] 22 false)::(be,.row [ue'] 50 false)::(Me'++L))):=by
 intro f;induction f with
 | zero=>
  intro K A acc ua ue Ma Me V hA14 aE hP hT hE O;refine XD hG Tryz.func32 Z (Xb 7 Z (S Z (YE Z (O.bJ hP.code) Z) Z (S Z (Yw Z O.cF.g0 Z) Z (kw (Yu Z Z Z) ((Tj hG hc ho hR (hP.hi.mono (KP.cR _ Ma) fun _ _ h=>h.mono (KP.cR _ Ma)) (hT.gB (K:=K.gw Ma) fun e he=>.inr he) oM O.keeps).mono (R':=fun v V'=>∃tb rb ev Mv,v= .ptr tb 0/\cO 5 40 iN (eM k c A).events ev Mv/\H V' K (Ma++((tb,.row (J4 c cv (eM k c A) rb ev) 85 false)::(rb,.row ((eM k c A).bE.map gZ) 2 false)::(Mv++((ba,.row [ua] 22 false)::(be,.row [ue] 50 false)::(Me++L)))))) fun v V' ⟨tb,rb,ev,Mv,h1,h2,h3,_⟩=>⟨tb,rb,ev,Mv,h1,h2,H.lj O h3⟩) ?_))));rintro _ V ⟨tb,rb,ev,Mv,rfl,a1,O⟩;replace O:=O.perm (JA ..);obtain⟨Q,C,E,O⟩:=O.bZ;have htb:=E _ (.head _);have aa:bG Q 5 iN (eM k c A).events ev:=a1.gB fun e he=>E e (.tail _ (.tail _ he))
  clear E;have hP1:=hP.mono C;have hE1:=hE.jN (R':=wq Q) fun _ _ h=>h.mono C
  refine VE 7 Z<|S Z (cV Z) Z<|S Z (Yv 7 Z) Z<|S Z (Yw Z (O.bJ htb) Z) Z<|S Z (ek Z) Z<|Xd 2 Z<|aG Z (fun F=>?_) (fun F=>?_)
  ·refine ai (aU (l:=[(0,[]),(1,[]),(2,[0]),(3,[]),(4,[]),(5,[])]) B B ?_);have N:(eM k c A).asks=false:=by cases h:(eM k c A).asks with | false=>rfl | true=>(rw[h] at F;cases F)
   refine ah Z Z (Yw Z O.cF.pop.g0 Z) Z<|wQ 1 Z<|dO Z Z (Yu Z Z Z) (fun _=>Z) (Kd hG htb N aa O) (fun V O=>?_);refine⟨(bx (bC Z Z Z Z Z (Yw Z O.cF.pop.g0 Z) (hE1.tx (K:=fun _ _=>False)).dV) aY),?_⟩;refine nN O Z Z (cM (e:=71) (m:=10) (z:=[.aw,iZ,iZ,iZ,iZ,iZ,iZ,iZ,.aw,iZ]) (cs:=[_,_,_,_,_,_,_,_,_,_]) B B B B<|bn Z Z Z Z cD) (fun _=>Z) (fun V b9 O=>?_);replace O:=O.pull (.there (.dz (.there (.there<|bu.here (X:=Me)))));replace O:=O.pull (.dz<|bu.here (X:=[_]));rw[za_] at O;refine mN (R:=wq Q) (m:=10) (e:=71) hE1 O (fQ (m:=10) Z (show wq Q (eM k c A).events _ from⟨ev,_,_,_,_,_,Z,aa⟩)) wq.leaf (by simp only[zc_,List.length_nil];omega) Z Z Z Z Z Z Z Z (fun _=>Z) (fun V a2 a3 hO21 O=>?_);refine⟨aY,?_⟩;refine fD O (.dz (.dz (.there .here))) Z Z (aL Z Z hO21.leaf.1 O.cF.cF.pop.g0 (m:=1) B Z (lb Z) (aj hO21.leaf.2 aC) (cells':=[_]) Z) Z (fun V O=>?_);refine⟨aY,?_⟩;refine Xg 2 Z<|Xb 2 Z<|S Z (Yw Z O.cF.cF.pop.g0 Z) Z<|S Z (D6 hO21 Z Z Z (e:=71) B Z) Z<|Wq 6 Z ?_;replace O:=O.pull (.dz (.dz (.there<|bu.here (X:=[_]))));rw[za_] at O;replace O:=O.pull (.there (.dz (.dz<|bu.here (X:=[_]))));rw[za_] at O;replace O:=O.pull (.there (.there (.dz<|bu.here (X:=Ma))));exact az (v:=.bool (bif cW 4096 (.ofNat (acc++[(eM k c A).events]).length) then false else true)) Z Z ⟨Q,A,ua,a2,Ma,a3,C,(by rw[oA N,lA_];rfl),fun _=>Z,hT,(by rw[oA N];exact hO21),O⟩
  exact absurd (MX hc bi ho hR bl (show(eM k c A).asks=true from(by cases h:(eM k c A).asks with | true=>rfl | false=>(rw[h] at F;cases F)))) oM
 | succ f ih=>
  intro K A acc ua ue Ma Me V hA14 aE hP hT hE O;refine XD hG Tryz.func32 Z (Xb 7 Z (S Z (YE Z (O.bJ hP.code) Z) Z (S Z (Yw Z O.cF.g0 Z) Z (kw (Yu Z Z Z) ((Tj hG hc ho hR (hP.hi.mono (KP.cR _ Ma) fun _ _ h=>h.mono (KP.cR _ Ma)) (hT.gB (K:=K.gw Ma) fun e he=>.inr he) oM O.keeps).mono (R':=fun v V'=>∃tb rb ev Mv,v= .ptr tb 0/\cO 5 40 iN (eM k c A).events ev Mv/\H V' K (Ma++((tb,.row (J4 c cv (eM k c A) rb ev) 85 false)::(rb,.row ((eM k c A).bE.map gZ) 2 false)::(Mv++((ba,.row [ua] 22 false)::(be,.row [ue] 50 false)::(Me++L)))))) fun v V' ⟨tb,rb,ev,Mv,h1,h2,h3,_⟩=>⟨tb,rb,ev,Mv,h1,h2,H.lj O h3⟩) ?_))));rintro _ V ⟨tb,rb,ev,Mv,rfl,a1,O⟩;replace O:=O.perm (JA ..);obtain⟨Q,C,E,O⟩:=O.bZ;have htb:=E _ (.head _);have aa:bG Q 5 iN (eM k c A).events ev:=a1.gB fun e he=>E e (.tail _ (.tail _ he))
  clear E;have hP1:=hP.mono C;have hE1:=hE.jN (R':=wq Q) fun _ _ h=>h.mono C
  refine VE 7 Z<|S Z (cV Z) Z<|S Z (Yv 7 Z) Z<|S Z (Yw Z (O.bJ htb) Z) Z<|S Z (ek Z) Z<|Xd 2 Z<|aG Z (fun F=>?_) (fun F=>?_)
  ·refine ai (aU (l:=[(0,[]),(1,[]),(2,[0]),(3,[]),(4,[]),(5,[])]) B B ?_);have N:(eM k c A).asks=false:=by cases h:(eM k c A).asks with | false=>rfl | true=>(rw[h] at F;cases F)
   refine ah Z Z (Yw Z O.cF.pop.g0 Z) Z<|wQ 1 Z<|dO Z Z (Yu Z Z Z) (fun _=>Z) (Kd hG htb N aa O) (fun V O=>?_);refine⟨(bx (bC Z Z Z Z Z (Yw Z O.cF.pop.g0 Z) (hE1.tx (K:=fun _ _=>False)).dV) aY),?_⟩;refine nN O Z Z (cM (e:=71) (m:=10) (z:=[.aw,iZ,iZ,iZ,iZ,iZ,iZ,iZ,.aw,iZ]) (cs:=[_,_,_,_,_,_,_,_,_,_]) B B B B<|bn Z Z Z Z cD) (fun _=>Z) (fun V b9 O=>?_);replace O:=O.pull (.there (.dz (.there (.there<|bu.here (X:=Me)))));replace O:=O.pull (.dz<|bu.here (X:=[_]));rw[za_] at O;refine mN (R:=wq Q) (m:=10) (e:=71) hE1 O (fQ (m:=10) Z (show wq Q (eM k c A).events _ from⟨ev,_,_,_,_,_,Z,aa⟩)) wq.leaf (by simp only[zc_,List.length_nil];omega) Z Z Z Z Z Z Z Z (fun _=>Z) (fun V a2 a3 hO21 O=>?_);refine⟨aY,?_⟩;refine fD O (.dz (.dz (.there .here))) Z Z (aL Z Z hO21.leaf.1 O.cF.cF.pop.g0 (m:=1) B Z (lb Z) (aj hO21.leaf.2 aC) (cells':=[_]) Z) Z (fun V O=>?_);refine⟨aY,?_⟩;refine Xg 2 Z<|Xb 2 Z<|S Z (Yw Z O.cF.cF.pop.g0 Z) Z<|S Z (D6 hO21 Z Z Z (e:=71) B Z) Z<|Wq 6 Z ?_;replace O:=O.pull (.dz (.dz (.there<|bu.here (X:=[_]))));rw[za_] at O;replace O:=O.pull (.there (.dz (.dz<|bu.here (X:=[_]))));rw[za_] at O;replace O:=O.pull (.there (.there (.dz<|bu.here (X:=Ma))));exact az (v:=.bool (bif cW 4096 (.ofNat (acc++[(eM k c A).events]).length) then false else true)) Z Z ⟨Q,A,ua,a2,Ma,a3,C,(by rw[oA N,lA_];rfl),fun _=>Z,hT,(by rw[oA N];exact hO21),O⟩
  refine VD 5 Z ?_;have a4:(eM k c A).asks=true:=(by cases h:(eM k c A).asks with | true=>rfl | false=>(rw[h] at F;cases F));refine S Z (Yw Z (O.bJ hP1.V0) Z) Z (S Z (Yx hP1.hv Z Z Z (e:=2) Z) Z (Wm 4 Z (bq ([5,8]++rg 27 17) (fun j t V=>∃(i:Nat) (K2:KP) (u:List (List bW)) (ax ab:Y) (Ma2 Me2:Own),j+i=vs.length/\KP.le Q K2/\ie (fun v acc=>iw k c vs f (A++[v]) acc) (vs.take i) acc=(true,u)/\u.length<=4096/\mX 1 2 dB A ax Ma2/\cO 10 71 (wq K2) u ab Me2/\t.get 27=some (nI i)/\H V K2 (Ma2++((ba,.row [ax] 22 false)::(be,.row [ab] 50 false)::(Me2++L)))) (vs.length) ⟨0,Q,acc,ua,ue,Ma,Me,Z,KP.le_refl _,Z,aE,hT,hE1,Z,O⟩ ?_)));clear O;intro j6 t V ar hI;obtain⟨i,K2,u,ax,ab,Ma2,Me2,bR,M,ac,am,hT2,hE2,a5,O⟩:=hI;obtain⟨oo,rfl⟩:=ar.q1 a5 Z;have hP2:=hP1.mono M;have hv2:=hP1.hv.mono M fun _ _ h=>h
  refine Xa 6 Z<|aG Z (fun T=>?_) (fun T=>?_)
  ·refine UY 6 Z ?_;obtain⟨I,ao,bw⟩:=dh T;refine Yp (e:=2) (m:=1) hv2 ao Z Z Z Z (fun bS bF a9 bM bb=>?_);obtain rfl:=bb;refine S Z (Yz O a9 Z Z) Z<|Wo 5 Z<|S Z (Yw Z O.cF.g0 Z) Z<|vQ 1 Z<|gE O Z (cM (e:=2) (m:=1) (z:=[iZ]) (cs:=[_]) B B B B<|bn Z Z Z Z cD) (fun _=>Z) (fun V b9 O=>?_);obtain⟨V,bm,bo,bd,hT3,O⟩:=qP (P:=Tryz.prog) (ts:= #[22,22]) (t:=22) (e:=2) (l2:=[I]) hT2 O (eA (xs:=[I]) (.inr ⟨Z,Z⟩) (by simp)) dB.leaf (by simp) (by simp) oM Z B B B;refine S Z (gq Z Z Z Z B bd) Z<|fM O (.dz .here) Z (aL Z Z hT3.Jm.1 O.cF.g0 (m:=1) B Z (lb Z) (aj hT3.Jm.2 aC) (cells':=[_]) Z) Z (fun V O=>?_);refine VE 5 Z<|S Z (Yw Z (O.bJ hP2.fn) Z) Z<|kw (Yu Z Z Z) (ih K2 (A++[I]) u bm ab bo Me2 _ (by rw[lA_,zq_];omega) am hP2 hT3 hE2 O) ?_;rintro _ V ⟨K3,A3,bp,bf,Ma3,Me3,a0,rfl,hA3,hT4,hE3,O⟩;refine S Z (ek Z) Z<|Xd 2 Z<|aG Z (fun ap=>?_) (fun ap=>?_)
   ·refine XN 6 Z<|aA<|aI<|aA<|bP<|aI<|aA (?_);have aq:(iw k c vs f (A++[I]) u).1=false:=by cases h:(iw k c vs f (A++[I]) u).1 with | false=>rfl | true=>(rw[h] at ap;cases ap)
    have W:iw k c vs (f+1) A acc=(false,(iw k c vs f (A++[I]) u).2):=by
     have e1:ie (fun v acc=>iw k c vs f (A++[v]) acc) (vs.take (i+1)) acc=(false,(iw k c vs f (A++[I]) u).2):=by rw[eW ao,tq (by rw[ac]),ac];exact Prod.ext aq Z
     rw[xM a4];exact KY e1
    exact az Z Z ⟨K3,A3,bp,bf,Ma3,Me3,KP.le_trans C<|KP.le_trans M a0,(by rw[W]),(fun h=>by rw[W] at h;cases h),hT4,(by rw[W];exact hE3),O⟩
   refine aH<|ad<|af Z ?_;have aq:(iw k c vs f (A++[I]) u).1=true:=by cases h:(iw k c vs f (A++[I]) u).1 with | true=>rfl | false=>(rw[h] at ap;cases ap)
   obtain rfl:=hA3 aq;have hl3:=(zb f (A++[I]) u am).2 aq;refine S Z (Yw Z O.cF.g0 Z) Z<|S Z (Yw Z O.cF.g0 Z) Z<|S Z (AD hT4 Z Z Z (e:=2) B Z) Z<|S Z (aB (v:=nI A.length) Z Z<|cI (by show wr .i64 (Int.sub (.ofNat (A++[I]).length) 1)=_;rw[lA_,zq_];exact gy oM)) Z ?_;obtain⟨bs,hT5,bt⟩:=hT4.Ta (k:=A.length) (by rw[lA_];omega);rw[List.take_left] at hT5;refine S Z (bK Z<|bt B B Z Z) Z<|fM O (.dz .here) Z (aL Z Z hT5.Jm.1 O.cF.g0 (m:=1) B Z (lb Z) (aj hT5.Jm.2 aC) (cells':=[_]) Z) Z (fun V O=>?_);refine ae (aD (ad (af Z (S Z (aB (v:=nI (i+1)) Z Z<|cI<|a6 (by have:=aS T;have:=hP2.hv.cQ;omega)) Z<|XO 2 Z<|aJ ⟨j6-1,(by have:=aS T;omega),oF,i+1,K3,_,bs,bf,Ma3,Me3,(by have:=aS T;omega),KP.le_trans M a0,(by rw[eW ao,tq (by rw[ac]),ac];exact Prod.ext aq Z),hl3,hT5,hE3,Z,O⟩))))
  refine Wl 3 Z<|aQ<|XN 6 Z ?_;have W:iw k c vs (f+1) A acc=(true,u):=by rw[xM a4,<-ac,tL_<|bI T]
  exact az Z Z ⟨K2,A,ax,ab,Ma2,Me2,KP.le_trans C M,(by rw[W]),(fun _=>Z),hT2,(by rw[W];exact hE2),O⟩
theorem Tm (R:Plain G) (T:sf G K) {k:Nat} (hc:eO k c) (W:dJ k c=0) (ho:eV c=some od) (hR:ft (du c) c.ins.length od) (aa:kZ k c=true) (ab:pT k c<=14) {vs:List Int} {cv:Y} (hi:bG K 6 (jA K k) c.ins cv) (hv:bG K 1 dB vs vv) (O:H V K L):
  EC G 15 [.agg [.int .i64 c.bE,cv],vv] V fun v V'=>∃K' u,KP.le K K'/\v= .tuple [u,.int .i64<|km k c vs]/\bG K' 10 (wq K') (mY k c vs) u/\H V' K' L:=by
 refine XD R Tryz.func15 Z<|Xb 2 Z<|kb O (cL Z Z) (fun V b1 O=>?_);refine kb O (cL Z hv.leaf.1) (fun V b2 O=>?_);refine VE 7 Z<|S Z (YE Z O.g1 Z) Z<|kx (Yu Z Z Z) (Ss R T hi O) (fun V O=>?_);refine Xd 9 Z<|aG Z (fun N=>?_) (fun N=>?_)
 ·exact absurd N (by rw[show qk k c=0 from by unfold qk;rw[aa];rfl];decide)
 refine Wk 4 Z<|kb O (Yy (cs:=[.aw])) (fun V b3 O=>?_);refine Wo 4 Z<|kb O (Yy (cs:=[.aw])) (fun V b4 O=>?_);refine Wo 4 Z<|kb O (Yy (cs:=[.nilFunc])) (fun V b5 O=>?_);refine Wo 5 Z<|ks O (UM Z Z Z O.g0 (m:=1) Z Z (cells':=[_]) Z) (fun V O=>?_);refine VF O 6 [0] Z Z ?_;replace O:=O.pull (.there (.there<|bu.here (X:=[_])));rw[za_] at O;replace O:=O.pull (.there (.there<|bu.here (X:=[_])));rw[za_] at O;replace O:=O.pull (.there (.there (.there (.there<|bu.here (X:=[_])))));rw[za_] at O;replace O:=O.pull (.there (.there (.there (.there<|bu.here (X:=[_])))));rw[za_] at O;replace O:=O.pull (.there (.there (.there (.there<|bu.here (X:=[_])))));rw[za_] at O;obtain⟨K1,A,C,O⟩:=O.bZ (M:=[_,_,_]);have ac:ML K1 k c vs cv vv b1 b3 b4 b2 b5:=⟨C _ (.tail _ (.tail _ (.head _))),C _ (.tail _ (.head _)),C _ (.head _),hi.mono A fun _ _ h=>h.mono A,hv.mono A fun _ _ h=>h⟩;replace O:=O.perm (List.Perm.swap _ _ _);refine kw (Yu Z Z Z) (Qf R hc W ho hR ab (L:=L) 14 K1 [] [] .aw .aw [] [] _ Z (Nat.zero_le _) ac (.inl ⟨Z,Z,Z⟩) cO.nil O) ?_;rintro _ V ⟨K2,A2,ao,am,Ma2,Me2,F,rfl,_,hT2,hE2,O⟩;refine S Z (ek Z) Z<|Xd 2 Z<|aG Z (fun E=>?_) (fun E=>?_)
 ·refine Xc 8 Z ?_;have Q:(iw k c vs 14 [] []).1=false:=by cases h:(iw k c vs 14 [] []).1 with | false=>rfl | true=>(rw[h] at E;cases E)
  exact db Z Z Z ⟨K2,.aw,KP.le_trans A F,(by unfold km;rw[Q];rfl),(by unfold mY;rw[Q];exact .inl ⟨Z,Z⟩),O.cF.pop.pop.cF⟩
 refine Wk 4 Z<|S Z (Yw Z O.cF.pop.g0 Z) Z<|Xf 5 Z ?_;have Q:(iw k c vs 14 [] []).1=true:=by cases h:(iw k c vs 14 [] []).1 with | true=>rfl | false=>(rw[h] at E;cases E)
 replace O:=O.cF.pop.pop;obtain⟨K3,I,C,O⟩:=O.bZ (M:=Me2);exact db Z Z Z ⟨K3,am,KP.le_trans A<|KP.le_trans F I,(by unfold km;rw[Q];rfl),(by unfold mY;rw[Q];exact(hE2.jN fun _ _ h=>h.mono I).gB C),O⟩
variable {A:List Int} {e:Nat}
theorem uW:∀n:Nat,ew [Y.int .i64 0] n=(List.replicate n (0:Int)).map (.int .i64)
 | 0=>rfl
 | n+1=>by
  show [Y.int .i64 0]++ew [iZ] n=_;rw[uW n];rfl
theorem Bk:∀l:List Int,cg (l.map<|Y.int .i64)=true
 | []=>rfl
 | z::l=>aj Z (Bk l)
theorem Qi {ls:List Int} {off n:Nat} (h:A.length<=ls.length) (u:off=A.length) (hn:n=ls.length-A.length:=by first | rfl | omega):dp ((List.replicate n (0:Int)).map<|Y.int .i64) ((A++ls.drop A.length).map (.int .i64)) off=(A++List.replicate n 0).map (.int .i64):=by
 subst u;rw[ju _ _ _ (by simp;omega),lM_,List.length_replicate,List.map_append,List.map_append,List.take_append_of_le_length (by rw[lM_];exact nR_ _),tL_ (by rw[lM_];exact nR_ _),List.drop_eq_nil_of_le (by simp;omega),zk_]
theorem Ke {ls:List Int} {i:Nat} {x:Int} (h:ls[i]? =some x):(ls.map<|Y.int .i64)[i]? =some (.int .i64 x):=by rw[gM_,h];rfl
theorem MG {ls:List Int} {i off:Nat} {x:Int} (h:ls[i]? =some x) (A:off=i):((ls.map<|Y.int .i64).drop off).take 1= [.int .i64 x]:=by
 subst A;have h1:=Ke h;obtain⟨u,C⟩:=gA.1 h1;rw[zj_ u,List.take_succ_cons,List.take_zero,C]
theorem ru {ls:List Int} {i off:Nat} {x:Int} (h:ls[i]? =some x) (u:off=i):nth (ls.map<|Y.int .i64) off=some (.int .i64 x):=by subst u;rw[fL];exact Ke h
theorem Qj {ls:List Int} {i off:Nat} {x:Int} (hi:i<ls.length) (u:off=i):dp [Y.int .i64 x] (ls.map (.int .i64)) off=(ls.set i x).map (.int .i64):=by
 subst u;rw[ju _ _ _ (by rw[lM_,zq_];omega),zq_,List.set_eq_take_append_cons_drop,if_pos hi,List.map_append,List.map_cons,List.map_take,List.map_drop,lQ_];rfl
theorem MD (hG:Plain G) {ls:List Int} (hn:ls.length<=1048576) {b:Nat} {c:oY} (hc:c= .known ls.length∨c= .upto 1) (O:H V K ((b,.row (ls.map (.int .i64)) e false)::L)):
  EC G 67 [.slice b 0 ls.length c] V fun v V'=>∃c' ts,v= .slice b 0 (dc cz ls).length c'/\MK 1 (dc cz ls).length c'/\(dc cz ls++ts).length<=1048576/\H V' K ((b,.row ((dc cz ls++ts).map (.int .i64)) e false)::L):=by
 have E:∀k,k<=ls.length->MK 1 k c:=fun k hk=>hc.elim (fun h=>.inr ⟨_,h,hk⟩) .inl
 refine XD hG Tryz.func67 Z<|Wi 9 Z<|S Z (CI Z Z Z (e:=2) B Z) Z<|Xd 3 Z<|aG Z (fun h8=>?_) (fun h8=>?_)
 ·refine Xc 8 Z ?_;have M:dc cz ls=ls:=AO (by have:=aS (b:=2) h8;omega);exact az Z Z ⟨c,[],by rw[M],E _ (by rw[M];exact nR_ _),by rw[M,zk_];exact hn,by rw[M,zk_];exact O⟩
 refine Wj 8 Z (aK (bq (rg 2 4++rg 10 50) (fun j t V=>∃(k:Nat),(j+(k+1)=ls.length/\dc cz (ls.take (k+1))=ls.take (k+1))/\t.get 3=some (nI (k+1))/\H V K ((b,.row (ls.map (.int .i64)) e false)::L)) (ls.length-1) ⟨0,⟨by have:=bI (b:=2) h8;omega,C4<|bI (b:=2) h8⟩,Z,O⟩ ?_));clear O;intro j4 t V ar hI;obtain⟨k,⟨ao,C⟩,R,O⟩:=hI;obtain⟨oo,rfl⟩:=ar.q1 R Z;refine Wi 5 Z<|S Z (CI Z Z Z (e:=2) B Z) Z<|Xd 3 Z<|aG Z (fun N=>?_) (fun N=>?_)
 ·refine Wj 3 Z<|aK<|ai<|aU (l:=zp [0,1,2,3,4,5,6,7,8,9]) B B ?_;have T:k+1<ls.length:=aS N;obtain⟨x,hx⟩:=da T;obtain⟨y,hy⟩:=da (show k<ls.length by omega);have hs:=uc (c:=cz) hy hx;refine XQ 2 Z (ah Z Z (dP (e:=2) (m:=1) B B Z Z T) Z (ah Z Z (av Z O.g0 B (ru hx (off:=0+(k+1)*1) oM)) Z<|XQ 2 Z<|ah Z Z (aB (v:=nI k) Z Z<|cI<|gy oM) Z<|ah Z Z (dP (e:=2) (m:=1) B B Z Z (show k<ls.length by omega)) Z<|ah Z Z (av Z O.g0 B<|ru hy (off:=0+k*1) oM) Z<|Xg 3 Z<|aG Z (fun F=>?_) (fun F=>?_)))
  ·refine Xb 4 Z<|OA Z Z (e:=2) (sz:=1) (k:=k+1) B B hc Z Z T (fun _=>Z) fun c2=>(VE 6 Z ?_);have hA0:(dc cz<|ls.take (k+1+(0+1)))=ls.take (k+1):=by rw[show k+1+(0+1)=k+2 from Z,hs,C,if_pos<|I5 F,zk_]
   have ac:(dc cz<|ls.take (k+1+(0+1)))++ls.drop (dc cz<|ls.take (k+1+(0+1))).length=ls:=by rw[hA0,lT_,Nat.min_eq_left oM,List.take_append_drop]
   replace O:H V K ((b,.row (((dc cz<|ls.take (k+1+(0+1)))++ls.drop (dc cz<|ls.take (k+1+(0+1))).length).map (.int .i64)) e false)::L):=by rw[ac];exact O
   refine Wm 4 Z (bq ([3,5]++rg 29 25) (fun j t V=>∃(u:Nat),(j+(u+1)=ls.length-(k+1)/\(dc cz<|ls.take (k+1+(u+1))).length<=k+1+u)/\t.get 3=some (.int .i64 (.ofNat (dc cz<|ls.take (k+1+(u+1))).length))/\t.get 5=some (nI (u+1))/\H V K ((b,.row (((dc cz<|ls.take (k+1+(u+1)))++ls.drop (dc cz<|ls.take (k+1+(u+1))).length).map (.int .i64)) e false)::L)) (ls.length-(k+1)-1) ⟨0,⟨by omega,(by rw[show k+1+(0+1)=k+2 from Z,hs,C,if_pos<|I5 F,zk_,lT_,Nat.min_eq_left oM];omega)⟩,(by rw[show k+1+(0+1)=k+2 from Z,hs,C,if_pos<|I5 F,zk_,lT_,Nat.min_eq_left oM];rfl),Z,O⟩ ?_);clear O;intro j9 t V ar hI;obtain⟨u,⟨ap,X⟩,R,am,O⟩:=hI;obtain⟨oo,rfl⟩:=ar.q2 R am Z;refine Wi 5 Z<|S Z (CI Z Z Z (e:=2) B Z) Z<|Xd 3 Z<|aG Z (fun I=>?_) (fun I=>?_)
   ·refine Wj 3 Z<|aK<|ai<|aU (l:=zp [0,1,2,3,4,5,6,7,8,9]) B B ?_;have Q:u+1<ls.length-(k+1):=aS I;obtain⟨x,hx⟩:=da (show k+1+u+1<ls.length by omega);obtain⟨y,hy⟩:=da (show k+1+u<ls.length by omega);have hs:(dc cz<|ls.take (k+1+(u+1+1)))=(dc cz<|ls.take (k+1+(u+1)))++(if cz x y=0 then [] else [x]):=uc hy hx;refine XQ 2 Z (ah Z Z (dP (e:=2) (m:=1) B B Z Z Q) Z (ah Z Z (av Z O.g0 B (ru (CT (A:=(dc cz<|ls.take (k+1+(u+1)))) hx oM) (off:=0+(k+1)*1+(u+1)*1) oM)) Z (XQ 2 Z (ah Z Z (aB (v:=nI u) Z Z<|cI<|gy oM) Z (ah Z Z (dP (e:=2) (m:=1) B B Z Z (show u<ls.length-(k+1) by omega)) Z (ah Z Z (av Z O.g0 B (ru (CT (A:=(dc cz<|ls.take (k+1+(u+1)))) hy oM) (off:=0+(k+1)*1+u*1) oM)) Z<|Xg 3 Z<|aG Z (fun W=>?_) (fun W=>?_)))))))
    ·have hA3:(dc cz<|ls.take (k+1+(u+1+1)))=(dc cz<|ls.take (k+1+(u+1)))++[x]:=by rw[hs,if_neg<|SR<|eb W]
     refine Xb 6 Z (S Z (dP (e:=2) (m:=1) B B Z Z Q) Z (S Z (av Z O.g0 B (ru (CT (A:=(dc cz<|ls.take (k+1+(u+1)))) hx oM) (off:=0+(k+1)*1+(u+1)*1) oM)) Z<|S Z (dP (e:=2) (m:=1) B B Z Z (show(dc cz<|ls.take (k+1+(u+1))).length<ls.length by omega)) Z<|fM O .here Z (gW Z Z Z O.g0 (m:=1) B Z (by rw[lM_,C5 oM];omega) Z) Z (fun V O=>?_)));rw[Qj (i:=(dc cz<|ls.take (k+1+(u+1))).length) (off:=0+(dc cz<|ls.take (k+1+(u+1))).length*1) (by rw[C5 oM];omega) oM,OW oM,<-hA3] at O;refine Xe 4 Z (S Z (aB (v:=.int .i64 (.ofNat ((dc cz<|ls.take (k+1+(u+1))).length+1))) Z Z<|cI<|a6 oM) Z (XO 2 Z (aD (XL 2 Z (S Z (aB (v:=nI ((u+1)+1)) Z Z<|cI<|a6 oM) Z<|XO 2 Z<|aJ ⟨j9-1,(by have:=aS I;omega),oF,u+1,⟨by omega,by rw[hA3,lA_,zq_];omega⟩,(by rw[hA3,lA_];rfl),Z,O⟩)))))
    have hA3:(dc cz<|ls.take (k+1+(u+1+1)))=(dc cz<|ls.take (k+1+(u+1))):=by rw[hs,if_pos<|I5<|dg W,zk_]
    rw[show((dc cz<|ls.take (k+1+(u+1)))++ls.drop (dc cz<|ls.take (k+1+(u+1))).length)=((dc cz<|ls.take (k+1+(u+1+1)))++ls.drop (dc cz<|ls.take (k+1+(u+1+1))).length) from by rw[hA3]] at O;refine aH (aD (XL 2 Z (S Z (aB (v:=nI ((u+1)+1)) Z Z<|cI<|a6 oM) Z<|XO 2 Z<|aJ ⟨j9-1,(by have:=aS I;omega),oF,u+1,⟨by omega,by rw[hA3];omega⟩,(by rw[hA3];rfl),Z,O⟩)))
   refine Wl 3 Z (aQ (Xb 4 Z (OA Z Z (e:=2) (sz:=1) (k:=(dc cz<|ls.take (k+1+(u+1))).length) B B hc Z Z oM (fun _=>Z) fun c3=>?_)));have hcl:=C5 (A:=(dc cz<|ls.take (k+1+(u+1)))) (l:=ls) oM;refine T2 O .here Z (SI (zs:=[iZ]) (z:=iZ) Z Z Z (e:=2) B B Z Z oM O.g0 (by rw[uW];exact Bk _) (lb Z) (by rw[uW,lM_,List.length_replicate,lM_];omega)) Z (fun V O=>?_);rw[uW,Qi (A:=(dc cz<|ls.take (k+1+(u+1)))) (off:=0+(dc cz<|ls.take (k+1+(u+1))).length*1) oM oM] at O;refine Wo 6 Z ?_;have aa:ls.take (k+1+(u+1))=ls:=tL_ (by have:=bI I;omega);refine S Z (Xw (e:=2) (sz:=1) B B hc Z Z oM oM) Z<|Xf 4 Z<|aI<|aA<|bP<|aI<|aA (?_);rw[aa] at X O⊢;exact az Z Z ⟨c,_,Z,E _<|mq ls,by rw[lA_,List.length_replicate];have:=mq (c:=cz) ls;omega,O⟩
  refine aH (aD (XL 2 Z (S Z (aB (v:=nI ((k+1)+1)) Z Z<|cI<|a6 oM) Z<|XO 2 Z<|aJ ⟨j4-1,(by have:=aS N;omega),oF,k+1,⟨by omega,by rw[show k+1+1=k+2 from Z,hs,C,if_neg<|SR F];exact(eW hx).symm⟩,Z,O⟩)))
 refine Wl 3 Z<|aQ<|XN 7 Z ?_;have ab:ls.take (k+1)=ls:=tL_ (by have:=bI N;omega);rw[ab] at C;exact az Z Z ⟨c,[],by rw[C],E _ (by rw[C];exact nR_ _),by rw[C,zk_];exact hn,by rw[C,zk_];exact O⟩
end Go.Ev
namespace Go.Ev
variable [Env] {V:D} {K:KP} {e:Nat} {L M:Own}
open Go.Proofs Go.Sort
theorem BR {l:List Int} {cells:List Y} (h3:cells.length=l.length*1) (u:∀(i:Nat) (x:Int),l[i]? =some x->dB x ((cells.drop (i*1)).take 1)):cells=l.map (.int .i64):=by
 apply zf_;intro i
 by_cases hi:i<l.length
 ·have h:=u i l[i] (gC hi);have hc:i<cells.length:=by omega
  rw[Nat.mul_one,zj_ hc,List.take_succ_cons,List.take_zero] at h;rw[gM_,gC hi,gC hc];have h: [cells[i]]= [Y.int .i64 l[i]]:=h;injection h with h _
  exact congrArg some h
 rw[gN_ oM,gN_ (by rw[lM_];omega)]
theorem Fy {l:List Int} {b:Nat} {c:oY} (hc:c= .known l.length∨(c= .upto 1/\e=2)) (hl:l.length<=1048576):cO 1 2 dB l (.slice b 0 l.length c) [(b,.row (l.map (.int .i64)) e false)]:=by
 refine .inr ⟨b,c,_,e,Z,Z,by rw[lM_,Nat.mul_one],fun i x hx=>?_,hc,hl⟩;have h1:(l.map<|Y.int .i64)[i]? =some (.int .i64 x):=by rw[gM_,hx];rfl
 obtain⟨u,A⟩:=gA.1 h1;rw[Nat.mul_one,zj_ u,List.take_succ_cons,List.take_zero,A];exact Z
section
variable {P:Program} {G:Cx}
theorem NG {f:Nat} (E:∀a s,G.D9 f a s=uR f f a s) {l:List Int} {u:Y} (h:cO 1 2 dB l u M) (O:H V K (M++L)):
  aW P G f [u] V fun v V'=>v= .tuple []/\∃M',cO 1 2 dB (lG l) u M'/\H V' K (M'++L):=by
 rcases h with ⟨rfl,rfl,rfl⟩ | ⟨b,cp,cells,e,rfl,rfl,h3,F,h5,I⟩
 ·exact vK (v:=.tuple []) (V':=V) (by rw[E];unfold uR;rw[if_pos Z]) ⟨Z,[],by rw[show lG []= [] from eN_ (kK [])];exact .inl ⟨Z,Z,Z⟩,O⟩
 obtain rfl:=BR h3 F;have hb:V.m.get b=some (.row (l.map (.int .i64)) e false):=O.get 0 Z
 have A:cO 1 2 dB (lG l) (.slice b 0 l.length cp) [(b,.row ((lG l).map (.int .i64)) e false)]:=by
  have:=Fy (l:=lG l) (b:=b) (e:=e) (c:=cp) (by rw[kK];exact h5) (by rw[kK];exact I);rwa[kK] at this
 cases hn:l.length with
 | zero=>
  obtain rfl:=eN_ hn;have N:lG []= []:=eN_ (kK []);rw[N] at A⊢;rcases h5 with rfl | ⟨rfl,_⟩
  ·exact vK (v:=.tuple []) (V':=V) (by rw[E];unfold uR;rw[if_pos Z];rfl) ⟨Z,_,A,O⟩
  exact vK (v:=.tuple []) (V':=V) (by rw[E];unfold uR;rw[if_pos Z];rfl) ⟨Z,_,A,O⟩
 | succ n=>
  rw[hn] at A;have C:EF cp=true:=by rcases h5 with rfl | ⟨rfl,_⟩<;>rfl
  have hk:G.D9 f [.slice b 0 (n+1) cp] V=some (.tuple [],V.setObj b (.row ((lG l).map (.int .i64)) e false)):=by
   rw[E];unfold uR;rw[if_pos Z];simp only[hb];rw[if_pos ⟨by rw[lM_];omega,by omega,C⟩,tL_ (by rw[lM_];omega),BP];simp only;rw[List.drop_eq_nil_of_le (by rw[lM_];omega),zk_]
  exact vK hk ⟨Z,_,A,O.nU _⟩
end
end Go.Ev
namespace Go.Ev
variable [Env]
variable {acc:List Int} {c:XC}
theorem mD {k:Nat} (h:kZ k c=true):dJ k c=0/\eO k c/\∃od,eV c=some od/\ft (du c) c.ins.length od:=by
 unfold kZ at h;cases hk:bD (dJ k c) 0 with
 | false=>
  have hk:bT (bD (dJ k c) 0)=true:=by rw[hk];rfl
  simp_all
 | true=>
  have u:dJ k c=0:=eqv hk;refine⟨u,nH u,?_⟩
  have C:(eV c).isSome=true:=by
   have aa:bT (bD (dJ k c) 0)=false:=by rw[hk];rfl
   simp_all
  obtain⟨od,A⟩:=ze_.1 C;exact⟨od,A,ta (uC<|nH u) (C9 (nH u).pos) (show C7 _ _ _=some od from A)⟩
def yd (k:Nat) (c:XC):Nat:=(pT k c).toNat
theorem CN {k:Nat} (h:kZ k c=true):pT k c= .ofNat (yd k c):=by
 obtain⟨u,hc,od,A,C⟩:=mD h;unfold yd;rw[GA hc u A C];rfl
def PD (k:Nat) (l:List XC):Nat:=(l.map<|yd k).sum
theorem xW {α:Type} {f:α->Nat} {n:Nat}:∀{l:List α},(∀x∈l,f x<=n)->(l.map f).sum<=l.length*n
 | [],_=>Nat.zero_le _
 | x::l,h=>by
  rw[List.map_cons,List.sum_cons,zc_,Nat.succ_mul];have:=xW (l:=l) fun y hy=>h y (.tail _ hy)
  have:=h x (.head _);omega
def xn (ls:List (List bW)):List Int:=ls.flatMap fun mB=>(mB.filter bQ).map bW.write
theorem CG {ls:List (List bW)} (h:∀l∈ls,l.length<=14):(xn ls).length<=ls.length*14:=by
 unfold xn;rw[List.length_flatMap];refine xW fun mB he=>?_
 rw[lM_];exact Nat.le_trans (List.length_filter_le ..)<|h mB he
def fF (k:Nat) (vs:List Int):List XC->List Int->Int×List Int
 | [],acc=>(0,acc)
 | c::l,acc=>bif bD (km k c vs) 0 then fF k vs l (acc++xn (mY k c vs)) else(km k c vs,acc)
theorem tA {k:Nat} {vs:List Int} {c:XC} {a:List Int}:∀{l:List XC} {acc:List Int},fF k vs l acc=(0,a)->fF k vs (l++[c]) acc=bif bD (km k c vs) 0 then(0,a++xn (mY k c vs)) else(km k c vs,a)
 | [],acc,h=>by
  cases h;rfl
 | d::l,acc,h=>by
  unfold fF at h;rw[List.cons_append];unfold fF;cases u:bD (km k d vs) 0 with
  | true=>rw[u] at h;exact tA h
  | false=>
   rw[u] at h;have h1:km k d vs=0:=congrArg Prod.fst (show(km k d vs,acc)=(0,a) from h);rw[h1] at u;cases u
theorem BY {k:Nat} {vs:List Int} {e:Int} {a:List Int} (he:bD e 0=false):∀{l r:List XC} {acc:List Int},fF k vs l acc=(e,a)->fF k vs (l++r) acc=(e,a)
 | [],r,acc,h=>by
  cases h;cases he
 | d::l,r,acc,h=>by
  unfold fF at h;rw[List.cons_append];unfold fF;cases u:bD (km k d vs) 0 with
  | true=>rw[u] at h;exact BY he h
  | false=>rw[u] at h;exact h
theorem Ly {k:Nat} {vs:List Int} {e:Int} {a:List Int} {l:List XC} {n:Nat} (he:bD e 0=false) (h:fF k vs (l.take n) acc=(e,a)):fF k vs l acc=(e,a):=by
 have:=BY (r:=l.drop n) he h;rwa[List.take_append_drop] at this
def oU (k:Nat) (l:List XC):Nat->List Int->Int×List Int
 | 0,vs=>(0,vs)
 | n+1,vs=>bif bT (bD (fF k vs l vs).1 0) then((fF k vs l vs).1,[]) else bif cW 64 (.ofNat (lT (fF k vs l vs).2).length) then(3,[]) else bif bD (.ofNat (lT (fF k vs l vs).2).length) (.ofNat vs.length) then(0,vs) else oU k l n (lT (fF k vs l vs).2)
def eD (k:Nat) (init:List Int) (l:List XC):Int×List Int:=bif bT (bD (wM k init l) 0) then(wM k init l,[]) else oU k l (PD k l) (lT init)
variable {G:Cx} {K:KP} {V:D} {L:Own} {g:XG} {ls:List (List bV)}
theorem wj (F:Plain G) {l:List Int} {v:Y} (h:bG K 1 dB l v) (hn:l.length<=1048576) (O:H V K L):EC G 26 [v] V fun u V'=>∃M,cO 1 2 dB l u M/\H V' K (M++L):=by
 have h0:=h;rcases h0 with ⟨rfl,rfl⟩ | ⟨b,off,c,cells,e,ro,rfl,_⟩
 ·refine XD F Tryz.func26 Z<|XN 20 Z ?_;exact az Z Z ⟨[],.inl ⟨Z,Z,Z⟩,O⟩
 refine XD F Tryz.func26 Z<|Xb 17 Z<|gE O Z (cM (e:=2) (m:=1) (z:=[iZ]) (cs:=[]) B B B B (by rfl)) (fun _=>Z) (fun V b1 O=>?_);refine vQ 1 Z<|zJ (R:=dB) (m:=1) (e:=2) O h dB.leaf hn (by simp) (by decide) (.inl Z) Z Z Z Z Z B B B Z Z (fun _=>Z) (fun V I N news e2 O A C E=>?_);refine Xf 4 Z ?_;exact az Z Z ⟨[(I,.row ([]++news) e2 false)],.inr ⟨I,N,news,e2,by rw[nA_],Z,A,C,by simpa using E,hn⟩,O⟩
theorem PJ (F:Plain G) {l:List bW} {v:Y} (h:bG K 5 iN l v) (hn:l.length<=1048576) (O:H V K L):EC G 151 [v] V fun u V'=>∃M,cO 5 40 iN l u M/\H V' K (M++L):=by
 have h0:=h;rcases h0 with ⟨rfl,rfl⟩ | ⟨b,off,c,cells,e,ro,rfl,_⟩
 ·refine XD F Tryz.func151 Z<|XN 20 Z ?_;exact az Z Z ⟨[],.inl ⟨Z,Z,Z⟩,O⟩
 refine XD F Tryz.func151 Z<|Xb 17 Z<|gE O Z (cM (e:=40) (m:=5) (z:=[iZ,iZ,iZ,iZ,iZ]) (cs:=[]) B B B B (by rfl)) (fun _=>Z) (fun V b1 O=>?_);refine vQ 1 Z<|zJ (R:=iN) (m:=5) (e:=40) O h iN.leaf hn (by simp) (by decide) (.inl Z) Z Z Z Z Z B B B Z Z (fun _=>Z) (fun V I N news e2 O A C E=>?_);refine Xf 4 Z ?_;exact az Z Z ⟨[(I,.row ([]++news) e2 false)],.inr ⟨I,N,news,e2,by rw[nA_],Z,A,C,by simpa using E,hn⟩,O⟩
theorem Gc (F:Plain G) {l:List bV} {v:Y} (h:bG K 2 fj l v) (hn:l.length<=1048576) (O:H V K L):EC G 78 [v] V fun u V'=>∃M,cO 2 89 fj l u M/\H V' K (M++L):=by
 have h0:=h;rcases h0 with ⟨rfl,rfl⟩ | ⟨b,off,c,cells,e,ro,rfl,_⟩
 ·refine XD F Tryz.func78 Z<|XN 20 Z ?_;exact az Z Z ⟨[],.inl ⟨Z,Z,Z⟩,O⟩
 refine XD F Tryz.func78 Z<|Xb 17 Z<|gE O Z (cM (e:=89) (m:=2) (z:=[iZ,iZ]) (cs:=[]) B B B B (by rfl)) (fun _=>Z) (fun V b1 O=>?_);refine vQ 1 Z<|zJ (R:=fj) (m:=2) (e:=89) O h fj.leaf hn (by simp) (by decide) (.inl Z) Z Z Z Z Z B B B Z Z (fun _=>Z) (fun V I N news e2 O A C E=>?_);refine Xf 4 Z ?_;exact az Z Z ⟨[(I,.row ([]++news) e2 false)],.inr ⟨I,N,news,e2,by rw[nA_],Z,A,C,by simpa using E,hn⟩,O⟩
theorem Mx (hG:Plain G) {ls:List (List bW)} {v:Y} (h:bG K 1 (RL K 5 iN) ls v) (hn:ls.length<=1000) (T:∀l∈ls,l.length<=1048576) (O:H V K L):
  EC G 113 [v] V fun u V'=>∃bo us M,u= .slice bo 0 ls.length (.known ls.length)/\fq 5 40 iN ls us M/\H V' K (M++(bo,.row us 41 false)::L):=by
 refine XD hG Tryz.func113 Z<|Xb 8 Z<|S Z (Yx h Z Z Z (e:=41) Z) Z<|gE O Z (gT (n:=ls.length) (e:=41) (w:=24) (z:=[.aw]) Z B B B Z Z oM oM) (fun _=>Z) (fun V bo O=>?_);rw[jh] at O;refine VE 7 Z (S Z (Yx h Z Z Z (e:=41) Z) Z (Wm 4 Z (bq ([4,5]++rg 11 11) (fun j t V=>∃(i:Nat) (us:List Y) (M:Own),j+i=ls.length/\fq 5 40 iN (ls.take i) us M/\t.get 11=some (nI i)/\H V K (M++(bo,.row (us++List.replicate (ls.length-i) Y.aw) 41 false)::L)) (ls.length) ⟨0,[],[],Z,.nil,Z,O⟩ ?_)));clear O;intro j3 t V ar hI;obtain⟨i,us,M,ac,hO,F,O⟩:=hI;obtain⟨oo,rfl⟩:=ar.q1 F Z;refine Xa 6 Z<|aG Z (fun C=>?_) (fun C=>?_)
 ·refine UY 7 Z ?_;obtain⟨am,A,E⟩:=dh C;refine Yp (e:=41) (m:=1) h A Z Z Z Z (fun ao aa I ab N=>?_);have hr14':=N;obtain⟨ap,rfl,Q⟩:=hr14';refine S Z (Yz O I Z Z) Z<|Xe 8 Z<|kw (Yu Z Z Z) (PJ hG Q (T _<|gB_ A) O) ?_;rintro R V ⟨W,hM19,O⟩;refine S Z (dP (e:=41) (m:=1) Z B Z Z E) Z ?_;rw[<-lQ_] at O;have X:us.length=i:=by rw[hO.length,lT_];omega
  refine iu Z (gW Z Z hM19.leaf.1 O.NT (m:=1) B Z (by rw[lA_,List.length_replicate];omega)<|aj hM19.leaf.2 Z) Z ?_;rw[JO X E];replace O:=O.Ia (.row (us++[R]++List.replicate (ls.length-(i+1)) Y.aw) 41 false);refine ae<|aD<|XK 4 Z<|aJ ⟨j3-1,by omega,oF,i+1,us++[R],W++M,by omega,by rw[zb_,A];exact .snoc hO hM19,cI<|a6 (by have:=h.cQ;omega),O⟩
 refine Wl 3 Z<|aQ<|XN 7 Z ?_;exact az Z Z ⟨bo,us,M,Z,by rwa[tL_<|bI C] at hO,by rwa[show ls.length-i=0 from by have:=bI C;omega,List.replicate_zero,zk_] at O⟩
theorem Cz (hG:Plain G) {v:Y} (h:bG K 1 (RL K 2 fj) ls v) (hn:ls.length<=1000) (T:∀l∈ls,l.length<=1048576) (O:H V K L):
  EC G 114 [v] V fun u V'=>∃bo us M,u= .slice bo 0 ls.length (.known ls.length)/\fq 2 89 fj ls us M/\H V' K (M++(bo,.row us 57 false)::L):=by
 refine XD hG Tryz.func114 Z<|Xb 8 Z<|S Z (Yx h Z Z Z (e:=57) Z) Z<|gE O Z (gT (n:=ls.length) (e:=57) (w:=24) (z:=[.aw]) Z B B B Z Z oM oM) (fun _=>Z) (fun V bo O=>?_);rw[jh] at O;refine VE 7 Z (S Z (Yx h Z Z Z (e:=57) Z) Z (Wm 4 Z (bq ([4,5]++rg 11 11) (fun j t V=>∃(i:Nat) (us:List Y) (M:Own),j+i=ls.length/\fq 2 89 fj (ls.take i) us M/\t.get 11=some (nI i)/\H V K (M++(bo,.row (us++List.replicate (ls.length-i) Y.aw) 57 false)::L)) (ls.length) ⟨0,[],[],Z,.nil,Z,O⟩ ?_)));clear O;intro j3 t V ar hI;obtain⟨i,us,M,ac,hO,F,O⟩:=hI;obtain⟨oo,rfl⟩:=ar.q1 F Z;refine Xa 6 Z<|aG Z (fun C=>?_) (fun C=>?_)
 ·refine UY 7 Z ?_;obtain⟨am,A,E⟩:=dh C;refine Yp (e:=57) (m:=1) h A Z Z Z Z (fun ao aa I ab N=>?_);have hr14':=N;obtain⟨ap,rfl,Q⟩:=hr14';refine S Z (Yz O I Z Z) Z<|Xe 8 Z<|kw (Yu Z Z Z) (Gc hG Q (T _<|gB_ A) O) ?_;rintro R V ⟨W,hM19,O⟩;refine S Z (dP (e:=57) (m:=1) Z B Z Z E) Z ?_;rw[<-lQ_] at O;have X:us.length=i:=by rw[hO.length,lT_];omega
  refine iu Z (gW Z Z hM19.leaf.1 O.NT (m:=1) B Z (by rw[lA_,List.length_replicate];omega)<|aj hM19.leaf.2 Z) Z ?_;rw[JO X E];replace O:=O.Ia (.row (us++[R]++List.replicate (ls.length-(i+1)) Y.aw) 57 false);refine ae<|aD<|XK 4 Z<|aJ ⟨j3-1,by omega,oF,i+1,us++[R],W++M,by omega,by rw[zb_,A];exact .snoc hO hM19,cI<|a6 (by have:=h.cQ;omega),O⟩
 refine Wl 3 Z<|aQ<|XN 7 Z ?_;exact az Z Z ⟨bo,us,M,Z,by rwa[tL_<|bI C] at hO,by rwa[show ls.length-i=0 from by have:=bI C;omega,List.replicate_zero,zk_] at O⟩
variable {M:Own} {lv:Y}
structure MQ (G G0:Cx):Prop where
 p:Plain G
 p0:Plain G0
 k1:∀a s,G.D9 20 a s=An Tryz.prog G0 20 4 (fun g=>Nat.beq g 21) 20 a s
 k2:∀a s,G.D9 66 a s=uR 66 66 a s
theorem Qd (R:Plain G) (F:sf G K) {k:Nat} {l:List XC} (hl:bG K 2 (sg K k) l lv) (hf:∀c∈l,kZ k c=true) (X:∀c∈l,pT k c<=14) (hn:l.length<=4) (O:H V K L):
  Ca G K L 25 [lv] V <| nI (PD k l):=by
 refine XD R Tryz.func25 Z<|Wi 14 Z<|S Z (Yx hl Z Z Z (e:=49) Z) Z<|Wm 4 Z ?_;obtain⟨LL1,O,hLL1⟩:=O.named;refine bq ([2,3,5]++rg 8 12) (fun j t V=>∃(i:Nat),j+i=l.length/\t.get 3=some (nI (((l.take i).map<|yd k).sum))/\t.get 8=some (nI i)/\H V K LL1) (l.length) ⟨0,Z,Z,Z,O⟩ ?_;clear O;intro j3 t V ar hI;obtain⟨i,ao,T,W,O⟩:=hI;subst hLL1;obtain⟨oo,rfl⟩:=ar.q2 T W Z;refine Xa 6 Z<|aG Z (fun E=>?_) (fun E=>?_)
 ·refine UY 6 Z ?_;obtain⟨A,u,aa⟩:=dh E;refine Yp (e:=49) (m:=2) hl u Z Z Z Z (fun ap ab I ac M=>?_);have hr10':=M;obtain⟨aq,rfl,C⟩:=hr10';refine S Z (YA O I Z Z) Z<|kb O (Yy (cs:=[iZ,.aw])) (fun V b1 O=>?_);refine ks O (UM Z Z Z O.g0 (m:=2) Z (aj Z<|aj C.leaf.2 aC) (cells':=[_,_]) Z) (fun V O=>?_);refine VE 5 Z<|S Z (YE Z O.g0 Z) Z ?_;have hfx:=hf A (gB_ u);have hax:=X A (gB_ u);refine kx (Yu Z Z Z) (Iu R F C O) (fun V O=>?_);rw[hfx];refine S Z (ek Z) Z<|Xd 2 Z<|aG Z (fun N=>?_) (fun N=>?_)
  ·exact absurd N (by decide)
  refine aH<|XL 2 Z<|S Z (YE Z O.g0 Z) Z<|kx (Yu Z Z Z) (Au R F C O) (fun V O=>?_);rw[CN hfx] at hax⊢;have am:yd k A<=14:=Int.ofNat_le.1 hax;have Q:(((l.take i).map<|yd k).sum)<=(l.take i).length*14:=xW fun c hc=>(by have h1:=X c (List.mem_of_mem_take hc);rw[CN<|hf c<|List.mem_of_mem_take hc] at h1;exact Int.ofNat_le.1 h1)
  rw[lT_] at Q;refine S Z (aB (v:=.int .i64 (.ofNat ((((l.take i).map<|yd k).sum)+yd k A))) Z Z<|cI<|IB oM) Z (XO 2 Z (aD (ad (af Z (S Z (aB (v:=nI (i+1)) Z Z<|cI<|a6 (by have:=aS E;omega)) Z<|XO 2 Z ?_)))));have O:=O.pop;refine aJ ⟨j3-1,(by have:=aS E;omega),oF,i+1,(by have:=aS E;omega),(congrArg (fun z=>some (Y.int .i64 (.ofNat z))) (show(((l.take i).map<|yd k).sum)+yd k A=((l.take (i+1)).map<|yd k).sum from by rw[eW u,List.map_append,List.sum_append];rfl)),Z,O⟩
 refine Wl 3 Z<|aQ<|XN 7 Z ?_;exact az Z Z ⟨(by rw[tL_<|bI E];rfl),O⟩
theorem IE (A:Plain G) (O:H V K L):Ca G K L 67 [.aw] V <| .aw:=by
 refine XD A Tryz.func67 Z<|Wi 9 Z<|S Z (Yx (show bG K 1 dB [] .aw from .inl ⟨Z,Z⟩) Z Z Z (e:=2) Z) Z<|Xd 3 Z<|aG Z (fun u=>?_) (fun u=>?_)
 ·refine Xc 8 Z ?_;exact az Z Z ⟨Z,O⟩
 exact absurd u (by decide)
theorem IF (E:Plain G) {l:List Int} {u:Y} (h:cO 1 2 dB l u M) (O:H V K (M++L)):
  EC G 67 [u] V fun v V'=>∃K',KP.le K K'/\bG K' 1 dB (dc cz l) v/\H V' K' L:=by
 rcases h with ⟨rfl,rfl,rfl⟩ | ⟨b,c,cells,e,rfl,rfl,h3,F,h5,I⟩
 ·exact(IE E O).mono fun v V' ⟨hv,h⟩=>⟨K,KP.le_refl _,.inl ⟨Z,hv⟩,h⟩
 obtain rfl:=BR h3 F;refine(MD E I (h5.imp (fun h=>h) fun h=>h.1) O).mono fun v V' ⟨c',ts,hv,A,hlen,h⟩=>?_
 obtain⟨N,hle,C,h⟩:=H.bZ (M:=[_]) h;refine⟨N,hle,.inr ⟨b,0,c',_,e,false,hv,A,C _ (.head _),?_,?_,fun i x hx=>?_⟩,h⟩
 ·rw[lM_,lA_];omega
 ·rw[lA_] at hlen;omega
 rw[MG (i:=i) (x:=x) (by rw[gL_ (gA.1 hx).1];exact hx) oM];exact Z
theorem Gr {G F:Cx} (E:MQ G F) {l:List Int} {v:Y} (hl:bG K 1 dB l v) (hn:l.length<=1048576) (O:H V K L):
  EC G 24 [v] V fun u V'=>∃K',KP.le K K'/\bG K' 1 dB (lT l) u/\H V' K' L:=by
 have hG:=E.p;refine XD hG Tryz.func24 Z<|Xb 8 Z<|kw (Yu Z Z Z) (wj hG hl hn O) ?_;rintro u5 V ⟨M5,hO5,O⟩;refine Wo 6 Z<|kw (Yu Z Z Z) (NG E.k2 hO5 O) ?_;rintro _ V ⟨rfl,M7,hO7,O⟩;refine Wo 5 Z<|kw (Yu Z Z Z) (IF hG hO7 O) ?_;rintro u9 V ⟨I,A,C,O⟩;refine Xf 4 Z ?_;exact az Z Z ⟨I,A,C,O⟩
def Qv (g:XG):Prop:=g.init.length<=1000/\g.threads.length<=1000/\(∀l∈g.threads,l.length<=1048576)/\g.from_.length<=1000/\(∀l∈g.from_,l.length<=1048576)/\g.order.length<=1000/\(∀l∈g.order,l.length<=1048576)
structure U4 (g:XG) (u1:Y) (M1:Own) (b2:Nat) (us2:List Y) (M2:Own) (b3:Nat) (us3:List Y) (M3:Own) (b4:Nat) (us4:List Y) (M4:Own):Prop where
 init:cO 1 2 dB g.init u1 M1
 threads:fq 5 40 iN g.threads us2 M2
 from_:fq 2 89 fj g.from_ us3 M3
 order:fq 2 89 fj g.order us4 M4
abbrev Vt (M1:Own) (b2:Nat) (us2:List Y) (M2:Own) (b3:Nat) (us3:List Y) (M3:Own) (b4:Nat) (us4:List Y) (M4:Own) (L:Own):Own:=
 M4++(b4,.row us4 57 false)::(M3++(b3,.row us3 57 false)::(M2++(b2,.row us2 41 false)::(M1++L)))
abbrev VZ (g:XG) (u1:Y) (b2 b3 b4:Nat):List Y:=[u1,.slice b2 0 g.threads.length (.known g.threads.length),.slice b3 0 g.from_.length (.known g.from_.length),.slice b4 0 g.order.length (.known g.order.length)]
theorem PL (A:Plain G) {a b c d:Y} (h:eS K g a b c d) (u:Qv g) (O:H V K L):
  EC G 76 [.agg [a,b,c,d]] V fun v V'=>∃R M1 I C T M E W N F X,v= .agg (VZ g R I M N)/\U4 g R M1 I C T M E W N F X/\H V' K (Vt M1 I C T M E W N F X L):=by
 have h':=h;obtain⟨hi,ht,hf,Q⟩:=h';refine XD A Tryz.func76 Z<|Xb 2 Z<|kb O (cL Z Z) (fun V b1 O=>?_);refine kb O (Yy (cs:=[.aw,.aw,.aw,.aw])) (fun V I O=>?_);refine Wn 3 Z (aU (l:=[(0,[]),(1,[]),(3,[]),(4,[]),(6,[]),(7,[]),(9,[]),(10,[]),(2,[4,7,10]),(5,[7,10]),(8,[10]),(11,[]),(12,[]),(13,[])]) B B<|XT O 8 [0,1,1,1,2,1,3,1] Z Z<|fC Z Z (Yu Z Z Z) (fun _=>Z) (wj A hi (by have:=u.1;omega) O) ?_);rintro u5 V ⟨M5,hM5,O⟩;refine⟨(bx (bC Z Z Z Z Z (Yw Z O.cF.pop.g0 Z) ht.dV)<|bx (bC Z Z Z Z Z (Yw Z O.cF.pop.g0 Z) hf.dV)<|bx (bC Z Z Z Z Z (Yw Z O.cF.pop.g0 Z) Q.dV) aY),?_⟩;refine fC Z Z (Yu Z Z Z) (fun _=>Z) (Mx A ht u.2.1 u.2.2.1 O) ?_;rintro _ V ⟨M,ac,M8,rfl,hO8,O⟩;refine⟨(bx (bC Z Z Z Z Z (Yw Z O.cF.pop.cF.pop.g0 Z) hf.dV)<|bx (bC Z Z Z Z Z (Yw Z O.cF.pop.cF.pop.g0 Z) Q.dV) aY),?_⟩;refine fC Z Z (Yu Z Z Z) (fun _=>Z) (Cz A hf u.2.2.2.1 u.2.2.2.2.1 O) ?_;rintro _ V ⟨N,aa,am,rfl,hO11,O⟩;refine⟨(bx (bC Z Z Z Z Z (Yw Z O.cF.pop.cF.pop.cF.pop.g0 Z) Q.dV) aY),?_⟩;refine fC Z Z (Yu Z Z Z) (fun _=>Z) (Cz A Q u.2.2.2.2.2.1 u.2.2.2.2.2.2 O) ?_;rintro _ V ⟨b5,ab,ao,rfl,hO14,O⟩;refine⟨aY,?_⟩;refine ah Z Z (cY (places:=[(0,1),(1,1),(2,1),(3,1)]) (zero:=[.aw,.aw,.aw,.aw]) (cs:=[_,_,_,_]) B B B (bn Z Z hM5.leaf.1 Z<|bn Z Z Z Z<|bn Z Z Z Z<|bn Z Z Z Z cD) B) Z<|fD O (.dz (.there (.dz (.there (.dz (.there (.dz .here))))))) Z Z (UM Z Z Z O.cF.pop.cF.pop.cF.pop.cF.g0 (m:=4) Z (aj hM5.leaf.2 Z) (cells':=[_,_,_,_]) Z) Z (fun V O=>?_);refine⟨aY,?_⟩;refine Xh 3 Z ?_;exact dy Z Z O.cF.pop.cF.pop.cF.pop.cF.g0 (m:=4) B Z ⟨_,_,_,_,_,_,_,_,_,_,_,Z,⟨hM5,hO8,hO11,hO14⟩,O.sub<|fR (.cons_cons _<|fR (.cons_cons _<|fR (.cons_cons _<|fR (.cons _ (.cons _ (.refl _))))))⟩
end Go.Ev
namespace Go.Ev
variable {α β:Type}
def W4:Nat->List α->List (List α)
 | 0,_=>[[]]
 | n+1,l=>(List.range l.length).flatMap fun i=>match l[i]? with
  | some x=>(W4 n (l.take i++l.drop (i+1))).map (x::·)
  | none=>[]
def J1 (x:List α) (i j:Nat):List α:=
 match x[i]?,x[j]? with
 | some a,some b=>(x.set i b).set j a
 | _,_=>x
def pF (PF:List α->List (List α)×List α) (n:Nat):Nat->Nat->List α->List (List α)×List α
 | 0,_,x=>([],x)
 | k+1,i,x=>
  let r:=PF x
  let x2:=if i<n then J1 r.2 (if(n+1)%2=0 then i else 0) n else r.2
  let q:=pF PF n k (i+1) x2
  (r.1++q.1,q.2)
def eN:Nat->List α->List (List α)×List α
 | 0,x=>([x],x)
 | n+1,x=>pF (eN n) (n+1) (n+2) 0 x
def fS (x:List α):List (List α):=(eN (x.length-1) x).1
end Go.Ev
namespace Go.Ev
end Go.Ev
namespace Go.Ev
variable {α β:Type}
end Go.Ev
namespace Go.Ev
section
variable {β:Type}
def jq:List (List β)->List (List β)
 | []=>[[]]
 | o::r=>o.flatMap fun x=>(jq r).map (x::·)
def II:List β->List (List β)->Prop
 | [],[]=>True
 | x::p,o::r=>x∈o/\II p r
 | _,_=>False
theorem rR:∀{L:List (List β)} {p:List β},p∈jq L↔II p L
 | [],p=>by
  cases p with
  | nil=>exact⟨fun _=>trivial,fun _=>List.mem_singleton.2 Z⟩
  | cons x p=>exact⟨fun h=>by have h:x::p∈[[]]:=h;simp at h,fun h=>h.elim⟩
 | o::r,p=>by
  show p∈(o.flatMap fun x=>(jq r).map (x::·))↔_
  rw[List.mem_flatMap];constructor
  ·rintro ⟨x,hx,h⟩;obtain⟨q,hq,rfl⟩:=zn_.1 h;exact⟨hx,rR.1 hq⟩
  intro h;cases p with
  | nil=>exact h.elim
  | cons x p=>exact⟨x,h.1,zn_.2 ⟨p,rR.2 h.2,Z⟩⟩
end
variable [Env]
def pX (t:Nat):Nat->List bW->List (bV×bW)
 | _,[]=>[]
 | i,e::r=>(⟨.ofNat (t+1),.ofNat i⟩,e)::pX t (i+1) r
def qy:Nat->List (List bW)->List (bV×bW)
 | _,[]=>[]
 | t,r::l=>pX t 0 r++qy (t+1) l
def PW (threads:List (List bW)) (loc:Int):List (bV×bW):=(qy 0 threads).filter fun p=>bif bQ p.2 then bD p.2.loc loc else false
def pZ (threads:List (List bW)):List (bV×bW):=(qy 0 threads).filter fun p=>dq p.2
def Ii (init:List Int) (threads:List (List bW)) (r:bV×bW):List bV:=
 (bif bD (init.getD r.2.loc.toNat 0) r.2.read then [⟨0,r.2.loc⟩] else [])++((PW threads r.2.loc).filter fun w=>bif dv w.1 r.1 then false else bD w.2.write r.2.read).map (·.1)
def iT (F:List (List bV)) (r s:bV):List (List bV):=F.set (r.bM.toNat-1) ((F.getD (r.bM.toNat-1) []).set r.index.toNat s)
def eP (F:List (List bV)):List (bV×bW)->List bV->List (List bV)
 | r::rs,s::fs=>eP (iT F r.1 s) rs fs
 | _,_=>F
def iM (threads:List (List bW)):List (List bV):=threads.map fun r=>r.map fun _=>⟨0,0⟩
def eZ (init:List Int) (threads:List (List bW)):List (List bV):=(pZ threads).map (Ii init threads)
def gR (init:List Int) (threads:List (List bW)):List (List bV):=(List.range init.length).map fun x=>(PW threads (.ofNat x)).map (·.1)
def jk (ord:List bV->List (List bV)) (init:List Int) (threads:List (List bW)):List XG:=
 (jq<|eZ init threads).flatMap fun fs=>(jq ((gR init threads).map ord)).map fun os=>⟨init,threads,eP (iM threads) (pZ threads) fs,os⟩
theorem uN {t:Nat}:∀{r:List bW} {i:Nat} {p:bV×bW},p∈pX t i r->p.1.bM= .ofNat (t+1)/\∃k,p.1.index= .ofNat (i+k)/\r[k]? =some p.2
 | [],_,_,h=>by cases h
 | e::r,i,p,h=>by
  rcases mQ_.1 h with rfl | h
  ·exact⟨Z,0,Z,Z⟩
  obtain⟨h1,k,u,h3⟩:=uN h;exact⟨h1,k+1,(by rw[u];show Int.ofNat _=Int.ofNat _;rw[show i+1+k=i+(k+1) from by omega]),h3⟩
theorem uk:∀{l:List (List bW)} {t:Nat} {p:bV×bW},p∈qy t l->∃a k,p.1=⟨.ofNat (t+a+1),.ofNat k⟩/\∃r,l[a]? =some r/\r[k]? =some p.2
 | [],_,_,h=>by cases h
 | r::l,t,p,h=>by
  rcases List.mem_append.1 h with h | h
  ·obtain⟨h1,k,u,h3⟩:=uN h;refine⟨0,k,?_,r,Z,h3⟩;obtain⟨⟨a,b⟩,e⟩:=p;dsimp only at h1 u;rw[h1,u,nA_]
  obtain⟨a,k,h1,r',u,h3⟩:=uk h;exact⟨a+1,k,(by rw[h1,show t+1+a+1=t+(a+1)+1 by omega]),r',u,h3⟩
theorem Ac {t:Nat}:∀{r:List bW} {i:Nat},((pX t i r).map (·.1)).Nodup
 | [],_=>List.nodup_nil
 | e::r,i=>by
  refine List.nodup_cons.2 ⟨fun h=>?_,Ac⟩;obtain⟨p,hp,h⟩:=zn_.1 h;obtain⟨_,k,u,_⟩:=uN hp;rw[h] at u;have:i=i+1+k:=iJ_ u;omega
theorem yT:∀{l:List (List bW)} {t:Nat},((qy t l).map (·.1)).Nodup
 | [],_=>List.nodup_nil
 | r::l,t=>by
  show((pX t 0 r++qy (t+1) l).map (·.1)).Nodup
  rw[List.map_append,List.nodup_append];refine⟨Ac,yT,fun x hx y hy e=>?_⟩;obtain⟨p,hp,rfl⟩:=zn_.1 hx;obtain⟨q,hq,rfl⟩:=zn_.1 hy;obtain⟨h1,_⟩:=uN hp;obtain⟨a,k,u,_⟩:=uk hq;rw[e,u] at h1;have:t+1+a+1=t+1:=iJ_ h1;omega
theorem Hg {p:bV×bW->Bool} {l:List (bV×bW)} (h:(l.map (·.1)).Nodup):((l.filter p).map (·.1)).Nodup:=by
 unfold List.Nodup at h⊢;rw[List.pairwise_map] at h⊢;exact h.filter _
theorem LO {threads:List (List bW)}:((pZ threads).map (·.1)).Nodup:=Hg yT
def Rc (F:List (List bV)) (r:bV):Option bV:=((F.getD (r.bM.toNat-1) [])[r.index.toNat]?)
def xZ (F:List (List bV)) (r:bV):Prop:=0<r.bM.toNat/\r.bM.toNat-1<F.length/\r.index.toNat<(F.getD (r.bM.toNat-1) []).length
theorem oL {F:List (List bV)} {r s q:bV} (hq:xZ F q):xZ (iT F r s) q:=by
 obtain⟨h0,h1,u⟩:=hq;unfold xZ iT;refine⟨h0,by rw[zg_];exact h1,?_⟩
 by_cases e:r.bM.toNat-1=q.bM.toNat-1
 ·rw[e,List.getD_eq_getElem?_getD,List.getElem?_set_self h1];simp only[Option.getD_some,zg_];exact u
 rw[List.getD_eq_getElem?_getD,List.getElem?_set_ne e,<-List.getD_eq_getElem?_getD];exact u
def vq (r:bV):Prop:=∃a k:Nat,r=⟨.ofNat (a+1),.ofNat k⟩
theorem xU {threads:List (List bW)}:∀r∈pZ threads,vq r.1/\xZ (iM threads) r.1:=fun r A=>by
 obtain⟨a,k,h1,row,u,h3⟩:=uk (List.mem_filter.1 A).1;rw[h1];refine⟨⟨0+a,k,Z⟩,?_⟩;have ha:=(gA.1 u).1;have hk:=(gA.1 h3).1;have e:(Int.ofNat (0+a+1)).toNat-1=a:=by show(0+a+1)-1=a;omega
 refine⟨by show 0<0+a+1;omega,?_,?_⟩
 ·rw[e];unfold iM;rw[lM_];exact ha
 rw[e];unfold iM;rw[List.getD_eq_getElem?_getD,gM_,u];show k<(row.map _).length;rw[lM_];exact hk
def fN:List Nat->Nat->Nat
 | [],n=>n
 | b::l,n=>fN l (min (n*b) 16385)
theorem Ag:∀{l m:List Nat} {n:Nat},fN (l++m) n=fN m (fN l n)
 | [],_,_=>rfl
 | b::l,m,n=>Ag (l:=l)
theorem kP:∀{l:List Nat} {n:Nat},n<=16385->fN l n<=16385
 | [],_,h=>h
 | b::l,n,_=>kP (l:=l) oM
theorem JR:∀{l:List Nat} {n:Nat},n<=16385->(∀b∈l,1<=b)->n<=fN l n
 | [],_,_,_=>nR_ _
 | b::l,n,h,hb=>by
  have h1:=hb b (mS_ ..);have h2:n*1<=n*b:=Nat.mul_le_mul_left n h1;exact Nat.le_trans oM (JR (l:=l) (n:=min (n*b) 16385) oM fun c hc=>hb c (mC_ _ hc))
theorem wa:∀{l:List Nat},fN l 0=0
 | []=>rfl
 | b::l=>by
  show fN l (min (0*b) 16385)=0;rw[Nat.zero_mul];exact wa
theorem sP:∀{l:List Nat} {n:Nat},1<=n->fN l n=0->0∈l
 | [],n,h,e=>by have e:n=0:=e;omega
 | b::l,n,h,e=>by
  cases b with
  | zero=>exact mS_ ..
  | succ b=>
   refine mC_ _ (sP (l:=l) (n:=min (n*(b+1)) 16385) ?_ e);have:1<=n*(b+1):=Nat.mul_pos h (Nat.succ_pos b);omega
def fO (k:Nat):List Nat:=(List.range k).map (· +1)
theorem KU {k:Nat}:∀b∈fO k,1<=b:=fun b hb=>by
 obtain⟨i,_,rfl⟩:=zn_.1 hb;omega
def nZ (srcs wrs:List (List bV)):Nat:=fN (wrs.flatMap fun w=>fO w.length) (fN (srcs.map List.length) 1)
theorem Sh {srcs wrs:List (List bV)}:nZ srcs wrs<=16385:=kP (kP (by decide))
theorem vL {wrs:List (List bV)}:∀b∈(wrs.flatMap fun w=>fO w.length),1<=b:=fun b hb=>by
 obtain⟨w,_,hb⟩:=List.mem_flatMap.1 hb;exact KU b hb
theorem Mq {srcs wrs:List (List bV)} (h:nZ srcs wrs=0):jq srcs= []:=by
 have h1:fN (srcs.map List.length) 1=0:=by
  have:=JR (l:=wrs.flatMap fun w=>fO w.length) (n:=fN (srcs.map List.length) 1) (kP (by decide)) vL;unfold nZ at h;omega
 have h2:=sP (nR_ 1) h1;obtain⟨o,u,he⟩:=zn_.1 h2;have he:o= []:=eN_ he;subst he;refine List.eq_nil_iff_forall_not_mem.2 fun p hp=>?_
 have h3:=rR.1 hp
 have key:∀{p:List bV} {L:List (List bV)},[]∈L->II p L->False:=by
  intro p;induction p with
  | nil=>intro L hm h;cases L with
   | nil=>cases hm
   | cons _ _=>exact h.elim
  | cons x p ih=>
   intro L hm h;cases L with
   | nil=>cases hm
   | cons o L=>
    rcases mQ_.1 hm with e | hm
    ·rw[<-e] at h;exact absurd h.1 List.not_mem_nil
    exact ih hm h.2
 exact key u h3
end Go.Ev
namespace Go.Ev
variable [Env]
variable {G:Cx} {K:KP} {V:D} {L:Own} {g:XG}
def Hu (m:Int):Bool:=bif bD m 1 then true else bD m 2
theorem QD (u:Plain G) (m:Int) (O:H V K L):Ca G K L 14 [.int .i64 m] V <| .bool (Hu m):=by
 refine XD u Tryz.func14 Z<|Xb 9 Z<|ky Z (an Z) (fun h5=>?_) (fun h5=>?_)
 ·refine Xf 7 Z ?_;exact az Z Z ⟨cB (by unfold Hu;simp only[h5,ct,cf]),O⟩
 refine Xf 7 Z ?_;exact az Z Z ⟨cB (by unfold Hu;simp only[h5,ct,cf]),O⟩
theorem Ep (A:Plain G) (e:bW) (O:H V K L):Ca G K L 27 [.agg [.int .i64 e.kind,.int .i64 e.loc,.int .i64 e.order,.int .i64 e.read,.int .i64 e.write]] V <| .bool (bQ e):=by
 refine XD A Tryz.func27 Z<|Xb 2 Z<|kb O (cL Z Z) (fun V b1 O=>?_);refine Wu O 8 [0,0] Z Z<|ky Z (an Z) (fun u=>?_) (fun u=>?_)
 ·refine Xf 8 Z ?_;exact az Z Z ⟨cB (by unfold bQ;simp only[u,ct,cf]),O.pop⟩
 refine Xi O 8 [0,0] Z Z ?_;exact az Z Z ⟨cB (by unfold bQ;simp only[u,ct,cf]),O.pop⟩
theorem QF (A:Plain G) (e:bW) (O:H V K L):Ca G K L 37 [.agg [.int .i64 e.kind,.int .i64 e.loc,.int .i64 e.order,.int .i64 e.read,.int .i64 e.write]] V <| .bool (dq e):=by
 refine XD A Tryz.func37 Z<|Xb 2 Z<|kb O (cL Z Z) (fun V b1 O=>?_);refine Wu O 8 [0,0] Z Z<|ky Z (an Z) (fun u=>?_) (fun u=>?_)
 ·refine Xf 8 Z ?_;exact az Z Z ⟨cB (by unfold dq;simp only[u,ct,cf]),O.pop⟩
 refine Xi O 8 [0,0] Z Z ?_;exact az Z Z ⟨cB (by unfold dq;simp only[u,ct,cf]),O.pop⟩
theorem Oy (b:Bool):bT b= !b:=by cases b<;>rfl
theorem Q3 (e:bW) (n:Int):cj e n=decide (1<=e.kind/\e.kind<=4/\1<=e.order/\e.order<=6/\(¬(e.kind=1∨e.kind=3)->e.read=0)/\(¬(e.kind=2∨e.kind=3)->e.write=0)/\(e.kind=4->e.loc=0)/\(e.kind≠4->0<=e.loc/\e.loc<n)):=by
 unfold cj dq bQ;simp only[dS,eQ,Oy];rw[zd_,decide_eq_true_iff]
 by_cases h1:e.kind<1
 ·simp only[h1,decide_true,ct];constructor
  ·intro h;cases h
  intro h;omega
 by_cases u:4<e.kind
 ·simp only[h1,u,decide_true,decide_false,ct,cf];constructor
  ·intro h;cases h
  intro h;omega
 by_cases h3:e.order<1
 ·simp only[h1,u,h3,decide_true,decide_false,ct,cf];constructor
  ·intro h;cases h
  intro h;omega
 by_cases A:6<e.order
 ·simp only[h1,u,h3,A,decide_true,decide_false,ct,cf];constructor
  ·intro h;cases h
  intro h;omega
 have hk:e.kind=1∨e.kind=2∨e.kind=3∨e.kind=4:=by omega
 simp only[h1,u,h3,A,decide_false,cf];rcases hk with hk | hk | hk | hk<;>simp[hk]<;>(try (by_cases h5:e.read=0<;>simp[h5]))<;>(try (by_cases C:e.write=0<;>simp[C]))<;>(try omega)
variable {srcs wrs:List (List bV)} {p1 p2 p3 p4:Y}
theorem SE {a b:Nat} (h:a*b<=9223372036854775807):wr .i64 (Int.mul (.ofNat a) (.ofNat b))= .ofNat (a*b):=IB h
theorem IP (u:Plain G) {a b:Nat} (A:a<=16385) (hb:b<=1000000) (O:H V K L):Ca G K L 39 [nI a,nI b] V <| nI (min (a*b) 16385):=by
 have aa:a*b<=16385*1000000:=Nat.mul_le_mul A hb;refine XD u Tryz.func39 Z (Xb 9 Z (S Z (aB (v:=nI (a*b)) Z Z<|cI<|SE oM) Z<|S Z (V8 Z Z Z Z) Z<|Xf 4 Z ?_))
 exact az Z Z ⟨cJ (by
   cases h:cW 16385 (.ofNat (a*b)) with
   | true=>
    have h:=aS (a:=16385) h;show(16385:Int)=_;rw[Nat.min_eq_right oM];rfl
   | false=>
    have h:=bI (a:=16385) h;show Int.ofNat (a*b)=_;rw[Nat.min_eq_left oM]),O⟩
theorem Cq {l:List Nat} {b n:Nat}:fN (l++[b]) n=min (fN l n*b) 16385:=by rw[Ag];rfl
theorem yV (k:Nat):fO (k+1)=fO k++[k+1]:=by
 unfold fO;rw[List.range_succ,List.map_append];rfl
theorem Df {α β:Type} {f:α->List β} {l:List α} {i:Nat} {x:α} (h:l[i]? =some x):(l.take (i+1)).flatMap f=(l.take i).flatMap f++f x:=by
 rw[zb_,h,List.flatMap_append];simp
theorem IN (hG:Plain G) {p0:Y} (hs:bG K 1 (RL K 2 fj) srcs p3) (ho:bG K 1 (RL K 2 fj) wrs p4) (l0:eX p0=true) (l1:eX p1=true) (l2:eX p2=true) (bs:∀w∈srcs,w.length<=1000) (bo:∀w∈wrs,w.length<=1000) (O:H V K L):
  Ca G K L 18 [.agg [p0,p1,p2,p3,p4]] V <| nI (nZ srcs wrs):=by
 refine XD hG Tryz.func18 Z<|Xb 2 Z<|kb O (cL Z Z) (fun V b1 O=>?_);refine VF O 13 [3,0] Z Z<|S Z (Yx hs Z Z Z (e:=57) Z) Z<|Wm 4 Z ?_;obtain⟨LL1,O,hLL1⟩:=O.named;refine bq ([3,5]++rg 12 9) (fun j t V=>∃(i:Nat),(j+i=srcs.length)/\t.get 3=some (nI<|fN ((srcs.take i).map List.length) 1)/\t.get 12=some (nI i)/\H V K LL1) (srcs.length) ⟨0,Z,Z,Z,O⟩ ?_;clear O;intro j3 t V ar Q;obtain⟨i,ba,F,R,O⟩:=Q;subst hLL1;obtain⟨oo,rfl⟩:=ar.q2 F R Z;have ap:(fN ((srcs.take i).map List.length) 1)<=16385:=kP (by decide);refine Xa 6 Z<|aG Z (fun C=>?_) (fun C=>?_)
 ·refine UY 6 Z ?_;obtain⟨aq,I,a0⟩:=dh C;refine Yp (e:=57) (m:=1) hs I Z Z Z Z (fun bb a1 T a2 W=>?_);have hr14':=W;obtain⟨bc,rfl,X⟩:=hr14';refine S Z (Yz O T Z Z) Z (Xe 6 Z (S Z (Yx X Z Z Z (e:=89) Z) Z (kx (Yu Z Z Z) (IP hG ap (by have:=bs _ (gB_ I);omega) O) (fun V O=>?_))));refine XO 2 Z<|aD<|XK 4 Z ?_;refine aJ ⟨j3-1,(by have:=aS C;omega),oF,i+1,(by have:=aS C;omega),(congrArg (fun z=>some (Y.int .i64 (.ofNat z))) (show min ((fN ((srcs.take i).map List.length) 1)*aq.length) 16385=fN ((srcs.take (i+1)).map List.length) 1 from by rw[zb_,I,List.map_append];exact Cq.symm)),cI<|a6 (by have:=aS C;have:=hs.cQ;omega),O⟩
 refine Wl 3 Z<|aQ<|Wt O 5 [4,0] Z Z<|S Z (Yx ho Z Z Z (e:=57) Z) Z<|Wm 4 Z ?_;obtain⟨LL2,O,hLL2⟩:=O.named;refine bq ([3,7,8]++rg 24 15) (fun j t V=>∃(M:Nat),(j+M=wrs.length)/\t.get 3=some (nI<|fN ((wrs.take M).flatMap fun w=>fO w.length)<|fN (srcs.map List.length) 1)/\t.get 24=some (nI M)/\H V K LL2) (wrs.length) ⟨0,Z,(congrArg (fun z=>some (Y.int .i64 (.ofNat z))) (show fN ((srcs.take i).map List.length) 1=fN ((wrs.take 0).flatMap fun w=>fO w.length) (fN (srcs.map List.length) 1) from by rw[tL_<|bI C];rfl)),Z,O⟩ ?_;clear O;intro j8 t V ar Q;obtain⟨M,bd,F,aa,O⟩:=Q;subst hLL2;obtain⟨oo,rfl⟩:=ar.q2 F aa Z;refine Xa 6 Z<|aG Z (fun E=>?_) (fun E=>?_)
 ·refine UY 6 Z ?_;obtain⟨N,u,a3⟩:=dh E;refine Yp (e:=57) (m:=1) ho u Z Z Z Z (fun be a4 ab a5 ac=>?_);have hr26':=ac;obtain⟨bf,rfl,am⟩:=hr26';refine S Z (Yz O ab Z Z) Z<|Wo 6 Z<|S Z (Yx am Z Z Z (e:=89) Z) Z<|Wm 4 Z ?_;obtain⟨LL3,O,hLL3⟩:=O.named;refine bq ([3,8]++rg 30 8) (fun j t V=>∃(q:Nat),(j+q=N.length)/\t.get 3=some (.int .i64 (.ofNat<|fN (fO q)<|fN ((wrs.take M).flatMap fun w=>fO w.length)<|fN (srcs.map List.length) 1))/\t.get 30=some (nI q)/\H V K LL3) (N.length) ⟨0,Z,Z,Z,O⟩ ?_;clear O;intro ax t V ar Q;obtain⟨q,a9,F,ao,O⟩:=Q;subst hLL3;obtain⟨oo,rfl⟩:=ar.q2 F ao Z;have aE:(fN (fO q)<|fN ((wrs.take M).flatMap fun w=>fO w.length)<|fN (srcs.map List.length) 1)<=16385:=kP (kP<|kP (by decide));refine Xa 6 Z<|aG Z (fun A=>?_) (fun A=>?_)
  ·refine UY 8 Z (Xe 5 Z (S Z (aB (v:=nI (q+1)) Z Z (cI (a6 (by have:=bo _ (gB_ u);have:=aS A;omega)))) Z (kx (Yu Z Z Z) (IP hG aE (b:=q+1) (by have:=bo _ (gB_ u);have:=aS A;omega) O) (fun V O=>?_))));refine XO 2 Z<|aD<|XK 4 Z ?_;refine aJ ⟨ax-1,(by have:=aS A;omega),oF,q+1,(by have:=aS A;omega),(congrArg (fun z=>some (Y.int .i64 (.ofNat z))) (show min ((fN (fO q)<|fN ((wrs.take M).flatMap fun w=>fO w.length)<|fN (srcs.map List.length) 1)*(q+1)) 16385=fN (fO (q+1)) (fN ((wrs.take M).flatMap fun w=>fO w.length)<|fN (srcs.map List.length) 1) from by rw[yV,Cq])),cI (a6 (by have:=aS A;have:=bo _ (gB_ u);omega)),O⟩
  refine Wl 3 Z<|aQ<|aD<|XK 4 Z ?_;refine aJ ⟨j8-1,(by have:=aS E;omega),oF,M+1,(by have:=aS E;omega),(congrArg (fun z=>some (Y.int .i64 (.ofNat z))) (show(fN (fO q)<|fN ((wrs.take M).flatMap fun w=>fO w.length)<|fN (srcs.map List.length) 1)=fN ((wrs.take (M+1)).flatMap fun w=>fO w.length) (fN (srcs.map List.length) 1) from by rw[Df u,Ag,show N.length=q by have:=bI A;omega])),cI<|a6 (by have:=aS E;have:=ho.cQ;omega),O⟩
 refine Wl 3 Z<|aQ<|XN 7 Z ?_;exact az Z Z ⟨by rw[tL_<|bI E];rfl,O.pop⟩
def Dc (init:List Int) (threads:List (List bW)):Int:=
 bif (bif cW 6 (.ofNat init.length) then true else cW 4 (.ofNat threads.length)) then 3 else bif threads.any (fun r=>cW 14 (.ofNat r.length)) then 3 else bif threads.any (fun r=>r.any fun e=>bT (cj e (.ofNat init.length))) then 2 else 0
variable {X:Own}
theorem iD {K K':KP} {X X':Own} (hk:KP.le K K') (u:∀e∈X,e∈X'):KP.le (K.gw X) (K'.gw X'):=fun b o h=>h.elim (fun h=>.inl (hk _ _ h)) (fun h=>.inr (u _ h))
theorem H.Po (h:H V K L) (A:∀e∈X,e∈L):H V (K.gw X) []:=
 have u:H V (K.gw L) []:=H.keeps (M:=L) (L:=[]) (by rw[zk_];exact h)
 ⟨fun b o hb=>u.kept b o (hb.elim .inl fun h=>.inr (A _ h)),u.own,u.ne⟩
variable {α:Type} {ln:Nat} {X0:Own}
def Wa (threads:List (List bW)) (w:bV):bW:=((threads.getD (w.bM.toNat-1) []).getD w.index.toNat ⟨0,0,0,0,0⟩)
def U1 (threads:List (List bW)) (os:List bV):Prop:=∀w∈os,∃(t i:Nat) (row:List bW) (ev:bW),w=⟨.ofNat (t+1),.ofNat i⟩/\threads[t]? =some row/\row[i]? =some ev
def wh (threads:List (List bW)) (id:bV) (r:Int) (w:bV):Bool:=bif dv w id then false else bD (Wa threads w).write r
def BI (v0:Int) (threads:List (List bW)) (os:List bV) (id:bV) (e:bW):List bV:=(bif bD v0 e.read then [⟨0,e.loc⟩] else [])++os.filter (wh threads id e.read)
theorem tp {p:α->Bool} {l:List α} {i:Nat} {x:α} (h:l[i]? =some x) (hp:p x=true):(l.take (i+1)).filter p=(l.take i).filter p++[x]:=by
 rw[zb_,h,List.filter_append];show _++[x].filter p=_;rw[List.filter_cons_of_pos hp];rfl
theorem ox {p:α->Bool} {l:List α} {i:Nat} {x:α} (h:l[i]? =some x) (hp:p x=false):(l.take (i+1)).filter p=(l.take i).filter p:=by
 rw[zb_,h,List.filter_append];show _++[x].filter p=_;rw[List.filter_cons_of_neg (by rw[hp];decide)];simp
theorem yP {threads:List (List bW)} {t i:Nat} {row:List bW} {e:bW} (h1:threads[t]? =some row) (u:row[i]? =some e):Wa threads ⟨.ofNat (t+1),.ofNat i⟩=e:=by
 unfold Wa;show(threads.getD t []).getD i _=e;rw[List.getD_eq_getElem?_getD,List.getD_eq_getElem?_getD,h1];show(row[i]?).getD _=e;rw[u];rfl
theorem DK {threads:List (List bW)} {id w:bV} {r:Int} {b:Bool} (h1:(bif dv w.ints id.ints then false else true)=true) (u:bD (Wa threads w).write r=b):wh threads id r w=b:=by
 unfold wh;rw[bV.same] at h1;rw[eb h1];exact u
theorem Pu {threads:List (List bW)} {id w:bV} {r:Int} (h1:(bif dv w.ints id.ints then false else true)=false):wh threads id r w=false:=by
 unfold wh;rw[bV.same] at h1;cases h:dv w id with
 | true=>rfl
 | false=>rw[h] at h1;cases h1
theorem Tt (hG:Plain G) {init:List Int} {threads:List (List bW)} {p0:Y} (hi:bG K 1 dB init p0) (ht:bG (K.gw X0) 1 (RL K 5 iN) threads p1) (ho:bG K 1 (RL K 2 fj) wrs p4) (l2:eX p2=true/\cE p2=some [p2]) (l3:eX p3=true/\cE p3=some [p3])
  (id:bV) (e:bW) {v0:Int} {os:List bV} (a3:e.loc= .ofNat ln) (bp:init[ln]? =some v0) (a9:wrs[ln]? =some os) (hT:U1 threads os) (hb:os.length<=1000) {V:D} {L:Own} (hX:∀e∈X0,e∈L) (O:H V K L):
  EC G 38 [.agg [p0,p1,p2,p3,p4],.agg [.int .i64 id.bM,.int .i64 id.index],.agg [.int .i64 e.kind,.int .i64 e.loc,.int .i64 e.order,.int .i64 e.read,.int .i64 e.write]] V fun v V'=>∃M,cO 2 89 fj (BI v0 threads os id e) v M/\H V' K (M++L):=by
 refine XD hG Tryz.func38 Z<|Xb 2 Z<|kb O (cL Z Z) (fun V b1 O=>?_);refine kb O (cL Z Z) (fun V b2 O=>?_);refine kb O (cL Z Z) (fun V b3 O=>?_);refine Wo 5 Z ?_;obtain⟨K1,F,W,O⟩:=O.bZ (M:=[_,_,_]);have hB3:K1 b3 (.row [.int .i64 e.kind,.int .i64 e.loc,.int .i64 e.order,.int .i64 e.read,.int .i64 e.write] 40 false):=W _ (.head _);have hB2:K1 b2 (.row [.int .i64 id.bM,.int .i64 id.index] 89 false):=W _ (.tail _ (.head _));have hB1:K1 b1 (.row [p0,p1,p2,p3,p4] 59 false):=W _ (.tail _ (.tail _ (.head _)));clear W;replace hi:=hi.mono F fun _ _ h=>h;replace ht:=ht.mono (iD F fun _ h=>h) fun _ _ h=>h.mono F;replace ho:=ho.mono F fun _ _ h=>h.mono F
 refine Wn 4 Z<|ai<|aU (l:=zp [0,1,2,3,4,5,6,7,8]) B B<|ah Z Z (Yv 0 Z) Z<|ah Z Z (Yw Z (O.bJ hB1) Z) Z<|ah Z Z (Yv 1 Z) Z<|ah Z Z (Yw Z (O.bJ hB3) Z) Z<|Yq (e:=2) (m:=1) hi bp Z Z Z Z (by rw[a3];rfl) (fun ch cc ba ce bb=>?_);obtain rfl:=bb;refine ah Z Z (Yz O ba Z Z) Z<|ah Z Z (Yv 3 Z) Z<|ah Z Z (Yw Z (O.bJ hB3) Z) Z<|Xg 3 Z<|aG Z (fun a4=>?_) (fun a4=>?_)
 ·refine XR O 3 [1] Z Z (S Z (Yw Z (O.bJ hB3) Z) Z (S Z (Yt (places:=[(0,1),(1,1)]) (zero:=[iZ,iZ]) (cs:=[_,_]) Z) Z<|gE O Z (cM (e:=89) (m:=2) (z:=[iZ,iZ]) (cs:=[_,_]) B B B B<|bn Z Z Z Z cD) (fun _=>Z) (fun V b4 O=>?_)));refine kE (R:=fj) (m:=2) (e:=89) cO.nil (show H _ _ (_::([]++_)) from O) (fQ (m:=2) Z (show fj ⟨0,e.loc⟩ _ from Z)) fj.leaf (by simp) Z Z Z Z Z Z Z (fun _=>Z) (fun V bs M0 hO24 O=>?_);refine VE 6 Z ?_;obtain⟨hd,aa,hO0⟩:∃hd:List bV,(bif bD v0 e.read then [⟨0,e.loc⟩] else [])=hd/\cO 2 89 fj (hd++((os.take 0).filter<|wh threads id e.read)) bs M0:=⟨_,Z,by rw[a4];exact hO24⟩;have bt:hd.length<=1:=by rw[<-aa];cases bD v0 e.read<;>simp
  refine S Z (Yv 4 Z) Z<|S Z (Yw Z (O.bJ hB1) Z) Z<|S Z (Yv 1 Z) Z<|S Z (Yw Z (O.bJ hB3) Z) Z<|Yp (e:=57) (m:=1) ho a9 Z Z Z (by rw[a3];rfl) (fun bv bc ab bd ac=>?_);have hr29':=ac;obtain⟨bw,rfl,N⟩:=hr29';refine S Z (Yz O ab Z Z) Z<|S Z (Yx N Z Z Z (e:=89) Z) Z<|Wm 4 Z<|bq ([7,9]++rg 32 29) (fun j t V=>∃(i:Nat) (u:Y) (M:Own),j+i=os.length/\cO 2 89 fj (hd++((os.take i).filter<|wh threads id e.read)) u M/\t.get 7=some (u)/\t.get 32=some (nI i)/\H V K1 (M++L)) (os.length) ⟨0,_,_,Z,hO0,Z,Z,O⟩ ?_;clear O;intro j5 t V ar hI;obtain⟨i,u,M,bE,hO,a5,am,O⟩:=hI;obtain⟨oo,rfl⟩:=ar.q2 a5 am Z;refine Xa 6 Z<|aG Z (fun A=>?_) (fun A=>?_)
  ·refine UY 6 Z ?_;obtain⟨bF,C,be⟩:=dh A;refine Yp (e:=89) (m:=2) N C Z Z Z Z (fun bR bf ao bg ap=>?_);obtain rfl:=ap;refine S Z (YA O ao Z Z) Z<|kb O (Yy (cs:=[iZ,iZ])) (fun V b5 O=>?_);refine ks O (YB Z Z Z O.g0 Z) (fun V O=>?_);refine Wn 3 Z<|aU (l:=zp [0,1,2,3,4,5,6,7,8,9,10,11,12,13,14,15,16,17,18,19]) B B ?_;obtain⟨tt,ii,row,ev,rfl,E,Q⟩:=hT _ (gB_ C);refine ah Z Z (YE Z O.g0 Z) Z<|ah Z Z (YE Z (O.bJ hB2) Z) Z<|ah Z Z (Qa (n:=2) (ca:=[_,_]) (cb:=[_,_]) B Z Z Z Z) Z<|gO Z Z (an Z) (fun _=>Z) (fun I=>?_) (fun I=>?_)
   ·refine ah Z Z (Yv 1 Z) Z (ah Z Z (Yw Z (O.bJ hB1) Z) Z (XT O 2 [0,0] Z Z (ah Z Z (aB (v:=nI tt) Z Z (cI (gy (by have:=(gA.1 E).1;have:=ht.cQ;omega)))) Z<|Yq (e:=41) (m:=1) ht E Z Z Z Z Z (fun bS bi aq bl ax=>?_))));have hr45':=ax;obtain⟨bY,rfl,aE⟩:=hr45';refine ah Z Z (Yz (O.Po (X:=X0) fun e he=>by simp[hX e he]) aq Z Z) Z<|XT O 2 [1,0] Z Z<|Yq (e:=40) (m:=5) aE Q Z Z Z Z Z (fun b0 bm a0 bo a1=>?_);obtain rfl:=a1;refine fb a0 Z Z Z Z (k:=4) B (lb Z) (fun _=>Z) (fun b7 a2=>?_);refine ah Z Z (Yz O a2 Z Z) Z<|ah Z Z (Yv 3 Z) Z<|ah Z Z (Yw Z (O.bJ hB3) Z) Z<|Xg 4 Z<|aG Z (fun T=>?_) (fun T=>?_)
    ·refine XL 2 Z<|S Z (YE Z O.g0 Z) Z<|gE O Z (cM (e:=89) (m:=2) (z:=[iZ,iZ]) (cs:=[_,_]) B B B B<|bn Z Z Z Z cD) (fun _=>Z) (fun V b6 O=>?_);replace O:=O.pull (.there (.there<|bu.here (X:=M)));replace O:=O.pull (.dz<|bu.here (X:=[_]));rw[za_] at O;refine kE (R:=fj) (m:=2) (e:=89) hO O (fQ (m:=2) Z Z) fj.leaf (by have h1:=List.length_filter_le (wh threads id e.read) (os.take i);rw[lT_] at h1;simp only[lA_,zc_,List.length_nil];omega) Z Z Z Z Z Z Z (fun _=>Z) (fun V b8 b9 hO59 O=>?_);refine XO 2 Z<|aD<|XK 4 Z ?_;replace O:=O.pull (.dz<|bu.here (X:=[_]));rw[za_] at O;have O:=O.pop;refine aJ ⟨j5-1,(by have:=aS A;omega),oF,i+1,_,_,(by have:=aS A;omega),(by rw[tp C (DK (w:=⟨.ofNat (tt+1),.ofNat ii⟩) (id:=id) I (by rw[yP E Q];exact T)),<-lQ_];exact hO59),Z,cI<|a6 (by have:=aS A;omega),O⟩
    refine aH<|aD<|XK 4 Z ?_;replace O:=O.pull (.there<|bu.here (X:=M));replace O:=O.pull (.dz<|bu.here (X:=[_]));rw[za_] at O;have O:=O.pop;refine aJ ⟨j5-1,(by have:=aS A;omega),oF,i+1,u,M,(by have:=aS A;omega),(by rw[ox C (DK (w:=⟨.ofNat (tt+1),.ofNat ii⟩) (id:=id) I (by rw[yP E Q];exact T))];exact hO),Z,cI<|a6 (by have:=aS A;omega),O⟩
   refine Xg 19 Z<|aH<|aD<|XK 4 Z ?_;replace O:=O.pull (.there<|bu.here (X:=M));replace O:=O.pull (.dz<|bu.here (X:=[_]));rw[za_] at O;have O:=O.pop;refine aJ ⟨j5-1,(by have:=aS A;omega),oF,i+1,u,M,(by have:=aS A;omega),(by rw[ox C (Pu (w:=⟨.ofNat (tt+1),.ofNat ii⟩) (id:=id) I)];exact hO),Z,cI<|a6 (by have:=aS A;omega),O⟩
  refine Wl 3 Z<|aQ<|XN 7 Z ?_;exact az Z Z ⟨_,(by unfold BI;rw[aa,<-tL_ (bI A)];exact hO),O.weaken F⟩
 refine VD 5 Z ?_;obtain⟨hd,aa,hO0⟩:∃hd:List bV,(bif bD v0 e.read then [⟨0,e.loc⟩] else [])=hd/\cO 2 89 fj (hd++((os.take 0).filter<|wh threads id e.read)) .aw []:=⟨_,Z,by rw[a4];exact cO.nil⟩;have bt:hd.length<=1:=by rw[<-aa];cases bD v0 e.read<;>simp
 refine S Z (Yv 4 Z) Z<|S Z (Yw Z (O.bJ hB1) Z) Z<|S Z (Yv 1 Z) Z<|S Z (Yw Z (O.bJ hB3) Z) Z<|Yp (e:=57) (m:=1) ho a9 Z Z Z (by rw[a3];rfl) (fun bv bc ab bd ac=>?_);have hr29':=ac;obtain⟨bw,rfl,N⟩:=hr29';refine S Z (Yz O ab Z Z) Z<|S Z (Yx N Z Z Z (e:=89) Z) Z<|Wm 4 Z<|bq ([7,9]++rg 32 29) (fun j t V=>∃(i:Nat) (u:Y) (M:Own),j+i=os.length/\cO 2 89 fj (hd++((os.take i).filter<|wh threads id e.read)) u M/\t.get 7=some (u)/\t.get 32=some (nI i)/\H V K1 (M++L)) (os.length) ⟨0,_,_,Z,hO0,Z,Z,O⟩ ?_;clear O;intro j5 t V ar hI;obtain⟨i,u,M,bE,hO,a5,am,O⟩:=hI;obtain⟨oo,rfl⟩:=ar.q2 a5 am Z;refine Xa 6 Z<|aG Z (fun A=>?_) (fun A=>?_)
 ·refine UY 6 Z ?_;obtain⟨bF,C,be⟩:=dh A;refine Yp (e:=89) (m:=2) N C Z Z Z Z (fun bR bf ao bg ap=>?_);obtain rfl:=ap;refine S Z (YA O ao Z Z) Z<|kb O (Yy (cs:=[iZ,iZ])) (fun V b4 O=>?_);refine ks O (YB Z Z Z O.g0 Z) (fun V O=>?_);refine Wn 3 Z<|aU (l:=zp [0,1,2,3,4,5,6,7,8,9,10,11,12,13,14,15,16,17,18,19]) B B ?_;obtain⟨tt,ii,row,ev,rfl,E,Q⟩:=hT _ (gB_ C);refine ah Z Z (YE Z O.g0 Z) Z<|ah Z Z (YE Z (O.bJ hB2) Z) Z<|ah Z Z (Qa (n:=2) (ca:=[_,_]) (cb:=[_,_]) B Z Z Z Z) Z<|gO Z Z (an Z) (fun _=>Z) (fun I=>?_) (fun I=>?_)
  ·refine ah Z Z (Yv 1 Z) Z (ah Z Z (Yw Z (O.bJ hB1) Z) Z (XT O 2 [0,0] Z Z (ah Z Z (aB (v:=nI tt) Z Z (cI (gy (by have:=(gA.1 E).1;have:=ht.cQ;omega)))) Z<|Yq (e:=41) (m:=1) ht E Z Z Z Z Z (fun bS bi aq bl ax=>?_))));have hr45':=ax;obtain⟨bY,rfl,aE⟩:=hr45';refine ah Z Z (Yz (O.Po (X:=X0) fun e he=>by simp[hX e he]) aq Z Z) Z<|XT O 2 [1,0] Z Z<|Yq (e:=40) (m:=5) aE Q Z Z Z Z Z (fun b0 bm a0 bo a1=>?_);obtain rfl:=a1;refine fb a0 Z Z Z Z (k:=4) B (lb Z) (fun _=>Z) (fun b7 a2=>?_);refine ah Z Z (Yz O a2 Z Z) Z<|ah Z Z (Yv 3 Z) Z<|ah Z Z (Yw Z (O.bJ hB3) Z) Z<|Xg 4 Z<|aG Z (fun T=>?_) (fun T=>?_)
   ·refine XL 2 Z<|S Z (YE Z O.g0 Z) Z<|gE O Z (cM (e:=89) (m:=2) (z:=[iZ,iZ]) (cs:=[_,_]) B B B B<|bn Z Z Z Z cD) (fun _=>Z) (fun V b5 O=>?_);replace O:=O.pull (.there (.there<|bu.here (X:=M)));replace O:=O.pull (.dz<|bu.here (X:=[_]));rw[za_] at O;refine kE (R:=fj) (m:=2) (e:=89) hO O (fQ (m:=2) Z Z) fj.leaf (by have h1:=List.length_filter_le (wh threads id e.read) (os.take i);rw[lT_] at h1;simp only[lA_,zc_,List.length_nil];omega) Z Z Z Z Z Z Z (fun _=>Z) (fun V b8 b9 hO59 O=>?_);refine XO 2 Z<|aD<|XK 4 Z ?_;replace O:=O.pull (.dz<|bu.here (X:=[_]));rw[za_] at O;have O:=O.pop;refine aJ ⟨j5-1,(by have:=aS A;omega),oF,i+1,_,_,(by have:=aS A;omega),(by rw[tp C (DK (w:=⟨.ofNat (tt+1),.ofNat ii⟩) (id:=id) I (by rw[yP E Q];exact T)),<-lQ_];exact hO59),Z,cI<|a6 (by have:=aS A;omega),O⟩
   refine aH<|aD<|XK 4 Z ?_;replace O:=O.pull (.there<|bu.here (X:=M));replace O:=O.pull (.dz<|bu.here (X:=[_]));rw[za_] at O;have O:=O.pop;refine aJ ⟨j5-1,(by have:=aS A;omega),oF,i+1,u,M,(by have:=aS A;omega),(by rw[ox C (DK (w:=⟨.ofNat (tt+1),.ofNat ii⟩) (id:=id) I (by rw[yP E Q];exact T))];exact hO),Z,cI<|a6 (by have:=aS A;omega),O⟩
  refine Xg 19 Z<|aH<|aD<|XK 4 Z ?_;replace O:=O.pull (.there<|bu.here (X:=M));replace O:=O.pull (.dz<|bu.here (X:=[_]));rw[za_] at O;have O:=O.pop;refine aJ ⟨j5-1,(by have:=aS A;omega),oF,i+1,u,M,(by have:=aS A;omega),(by rw[ox C (Pu (w:=⟨.ofNat (tt+1),.ofNat ii⟩) (id:=id) I)];exact hO),Z,cI<|a6 (by have:=aS A;omega),O⟩
 refine Wl 3 Z<|aQ<|XN 7 Z ?_;exact az Z Z ⟨_,(by unfold BI;rw[aa,<-tL_ (bI A)];exact hO),O.weaken F⟩
variable {G0:Cx} {acc:List Int} {c:XC} {lv vi:Y}
theorem yU {k:Nat} {init:List Int} {l:List XC} (h:wM k init l=0):l.length<=4/\init.length<=6/\∀c∈l,kZ k c=true/\pT k c<=14/\∀x∈c.ins,uu (.ofNat init.length) x=false:=by
 have ha:=Q7 h;refine⟨?_,?_,fun c hc=>⟨(ha c hc).2.2.1,(ha c hc).2.1,(ha c hc).2.2.2⟩⟩
 ·unfold wM at h;cases h1:cW 4 (.ofNat l.length) with
  | true=>rw[h1] at h;cases h
  | false=>exact bI (a:=4) h1
 unfold wM at h;cases h1:cW 4 (.ofNat l.length) with
 | true=>rw[h1] at h;cases h
 | false=>
  cases u:cW 6 (.ofNat init.length) with
  | true=>rw[h1,u] at h;cases h
  | false=>exact bI (a:=6) u
theorem IL {k:Nat} (hf:kZ k c=true) (C:pT k c<=14) (vs:List Int):∀l∈mY k c vs,l.length<=14:=by
 obtain⟨u,hc,od,E,F⟩:=mD hf;refine Ei fun A=>?_
 have h1:=(JQ hc E F A).1;rw[GA hc u E F] at C;have h3:oZ c od 0<=14:=Int.ofNat_le.1 C;omega
theorem PH {k n:Nat} {l:List XC} {vs:List Int} (h:fF k vs l vs=(0,acc)) (h1:cW 64 (.ofNat (lT acc).length)=false) (u:bD (.ofNat (lT acc).length) (.ofNat vs.length)=false):oU k l (n+1) vs=oU k l n (lT acc):=by
 show(bif bT (bD (fF k vs l vs).1 0) then _ else bif cW 64 (.ofNat (lT (fF k vs l vs).2).length) then _ else bif bD (.ofNat (lT (fF k vs l vs).2).length) (.ofNat vs.length) then _ else _)=_;rw[h,h1,u];rfl
theorem It {k n:Nat} {l:List XC} {vs:List Int} (h:fF k vs l vs=(0,acc)) (h1:cW 64 (.ofNat (lT acc).length)=false) (u:bD (.ofNat (lT acc).length) (.ofNat vs.length)=true):oU k l (n+1) vs=(0,vs):=by
 show(bif bT (bD (fF k vs l vs).1 0) then _ else bif cW 64 (.ofNat (lT (fF k vs l vs).2).length) then _ else bif bD (.ofNat (lT (fF k vs l vs).2).length) (.ofNat vs.length) then _ else _)=_;rw[h,h1,u];rfl
theorem Is {k n:Nat} {l:List XC} {vs:List Int} (h:fF k vs l vs=(0,acc)) (h1:cW 64 (.ofNat (lT acc).length)=true):oU k l (n+1) vs=(3,[]):=by
 show(bif bT (bD (fF k vs l vs).1 0) then _ else bif cW 64 (.ofNat (lT (fF k vs l vs).2).length) then _ else _)=_;rw[h,h1];rfl
theorem Mu {k n:Nat} {l:List XC} {vs:List Int} {e:Int} (h:fF k vs l vs=(e,acc)) (he:bD e 0=false):oU k l (n+1) vs=(e,[]):=by
 show(bif bT (bD (fF k vs l vs).1 0) then((fF k vs l vs).1,[]) else _)=_;rw[h];show(bif bT (bD e 0) then _ else _)=_;rw[he];rfl
theorem Qe {G:Cx} (hS:MQ G G0) (bl:sf G K) {k:Nat} {init:List Int} (hi:bG K 1 dB init vi) {l:List XC} (hl:bG K 2 (sg K k) l lv) (O:H V K L):
  EC G 8 [vi,lv] V fun v V'=>∃K' u,KP.le K K'/\v= .tuple [u,.int .i64 (eD k init l).1]/\bG K' 1 dB (eD k init l).2 u/\(eD k init l).2.length<=64/\H V' K' L:=by
 have hG:=hS.p;refine XD hG Tryz.func8 Z<|Wi 11 Z<|kx (Yu Z Z Z) (My hG bl hi hl O) (fun V O=>?_);refine Xd 9 Z<|aG Z (fun aq=>?_) (fun aq=>?_)
 ·refine Xc 9 Z ?_;exact db Z Z Z ⟨K,.aw,KP.le_refl _,(by unfold eD;rw[show bT (bD (wM k init l) 0)=true from aq];rfl),(by unfold eD;rw[show bT (bD (wM k init l) 0)=true from aq];exact .inl ⟨Z,Z⟩),(by unfold eD;rw[show bT (bD (wM k init l) 0)=true from aq];exact Nat.zero_le _),O⟩
 refine Wk 5 Z ?_;have hE:wM k init l=0:=Q2 (dg (show bT (bD (wM k init l) 0)=false from aq));obtain⟨b6,c9,T⟩:=yU hE;refine kw (Yu Z Z Z) (Gr hS hi oM O) ?_;rintro b7 V ⟨K1,F,bm,O⟩;have hl1:=hl.mono F fun _ _ h=>h.mono F;have hgl1:=bl.mono F
 refine VE 7 Z<|kx (Yu Z Z Z) (Qd hG hgl1 hl1 (fun c hc=>(T c hc).1) (fun c hc=>(T c hc).2.1) b6 O) (fun V O=>?_);refine Wm 4 Z<|bq ([4,5,7,8,10,11,12,14,16]++rg 27 54) (fun j t V=>∃(i:Nat) (K2:KP) (vs:List Int) (u7:Y),j+i=PD k l/\KP.le K1 K2/\vs.length<=64/\bG K2 1 dB vs u7/\oU k l j vs=oU k l (PD k l) (lT init)/\t.get 7=some (u7)/\t.get 27=some (nI i)/\H V K2 (L)) (PD k l) ⟨0,K1,lT init,b7,Z,KP.le_refl _,(by have:=Pf init;omega),bm,Z,Z,Z,O⟩ ?_;clear O;intro j6 t V ar hI;obtain⟨i,K2,vs,u7,dd,E,ax,ba,aE,b8,bo,O⟩:=hI;obtain⟨oo,rfl⟩:=ar.q2 b8 bo Z;have hl2:=hl1.mono E fun _ _ h=>h.mono E;have hgl2:=hgl1.mono E
 have df:PD k l<=56:=(by have h1:PD k l<=l.length*14:=xW fun c hc=>(by have h2:=(T c hc).2.1;rw[CN (T c hc).1] at h2;exact Int.ofNat_le.1 h2);omega);refine Xa 6 Z<|aG Z (fun N=>?_) (fun N=>?_)
 ·refine UY 7 Z<|kw (Yu Z Z Z) (wj hG ba oM O) ?_;rintro b9 V ⟨ca,hO30,O⟩;refine VE 7 Z<|S Z (Yx hl2 Z Z Z (e:=49) Z) Z<|Wm 4 Z<|bq ([4,5,8,10,11,12,14,16]++rg 33 36) (fun j t V=>∃(i2:Nat) (K3:KP) (acc:List Int) (u8:Y) (M8:Own),j+i2=l.length/\KP.le K2 K3/\fF k vs (l.take i2) vs=(0,acc)/\acc.length<=64+i2*57344/\cO 1 2 dB acc u8 M8/\t.get 8=some (u8)/\t.get 33=some (nI i2)/\H V K3 (M8++L)) (l.length) ⟨0,K2,vs,b9,ca,Z,KP.le_refl _,Z,oM,hO30,Z,Z,O⟩ ?_;clear O;intro j9 t V ar hI;obtain⟨i2,K3,acc,u8,M8,dk,I,be,ck,hO8,a0,bp,O⟩:=hI;obtain⟨oo,rfl⟩:=ar.q2 a0 bp Z;have hl3:=hl2.mono I fun _ _ h=>h.mono I;have hgl3:=hgl2.mono I
  refine Xa 6 Z<|aG Z (fun ao=>?_) (fun ao=>?_)
  ·refine UY 6 Z ?_;obtain⟨C,ac,cl⟩:=dh ao;refine Yp (e:=49) (m:=2) hl3 ac Z Z Z Z (fun dl cn bs co bt=>?_);have hr35':=bt;obtain⟨dm,rfl,bb⟩:=hr35';refine S Z (YA O bs Z Z) Z<|kb O (Yy (cs:=[iZ,.aw])) (fun V b1 O=>?_);refine ks O (UM Z Z Z O.g0 (m:=2) Z (aj Z<|aj bb.leaf.2 aC) (cells':=[_,_]) Z) (fun V O=>?_);refine Wo 4 Z<|S Z (YE Z O.g0 Z) Z<|vQ 1 Z ?_;obtain⟨bf,bv,_⟩:=T C (gB_ ac);obtain⟨cb,hc,od,ho,hR⟩:=mD bf;have hv3:=ba.mono I fun _ _ h=>h
   refine kw (Yu Z Z Z) (Tm hG hgl3 hc cb ho hR bf bv bb hv3 O) ?_;rintro _ V ⟨K4,dr,am,rfl,bc,O⟩;have hO8b:=hO8;have hfew:=IL bf bv vs;have hal:=MR (k:=k) (c:=C) (vs:=vs);refine Wn 14 Z<|aG Z (fun a1=>?_) (fun a1=>?_)
   ·refine XN 8 Z<|aA<|aI<|aA<|bP<|aI<|aA<|aI<|aA<|bP<|aI<|aA (?_);have aa:eD k init l=oU k l (PD k l) (lT init):=by unfold eD;rw[hE];rfl
    have he:bD (km k C vs) 0=false:=by cases h:bD (km k C vs) 0 with | false=>rfl | true=>(rw[h] at a1;cases a1)
    have a2:fF k vs l vs=(km k C vs,acc):=Ly (n:=i2+1) he (by rw[eW ac,tA be,he];rfl);have A:eD k init l=(km k C vs,[]):=by rw[aa,<-aE];obtain⟨j6b,rfl⟩:∃q,j6=q+1:=⟨j6-1,by have:=aS N;omega⟩;exact Mu a2 he
    exact db Z Z Z ⟨K4,.aw,KP.le_trans F<|KP.le_trans E<|KP.le_trans I am,(by rw[A]),(by rw[A];exact .inl ⟨Z,Z⟩),(by rw[A];exact Nat.zero_le _),O.pop.cF⟩
   refine Wk 5 Z<|S Z (Yx bc Z Z Z (e:=71) Z) Z<|Wm 4 Z ?_;replace O:=O.pull (.there<|bu.here (X:=M8));obtain⟨LB15,hLB15,O⟩:∃LB15:Own,LB15=_/\H V K4 (M8++LB15):=⟨_,Z,O⟩;refine bq ([8,14,16]++rg 48 20) (fun j t V=>∃(i3:Nat) (u8b:Y) (M8b:Own),j+i3=(mY k C vs).length/\cO 1 2 dB (acc++xn ((mY k C vs).take i3)) u8b M8b/\t.get 8=some (u8b)/\t.get 48=some (nI i3)/\H V K4 (M8b++LB15)) ((mY k C vs).length) ⟨0,u8,M8,Z,(by show cO 1 2 dB (acc++[]) _ _;rw[zk_];exact hO8),Z,Z,O⟩ ?_;clear O;intro cc t V ar hI;obtain⟨i3,u8b,M8b,cp,hO8d,a0,bw,O⟩:=hI;obtain⟨oo,rfl⟩:=ar.q2 a0 bw Z;refine Xa 6 Z<|aG Z (fun ap=>?_) (fun ap=>?_)
   ·refine UY 6 Z ?_;obtain⟨ab,W,cr⟩:=dh ap;refine Yp (e:=71) (m:=10) bc W Z Z Z Z (fun ds cv bE cw bF=>?_);have hr50':=bF;obtain⟨dx,cx,c0,c1,c2,c3,rfl,a3⟩:=hr50';refine S Z (YA O bE Z Z) Z<|kb O (Yy (cs:=[.aw,iZ,iZ,iZ,iZ,iZ,iZ,iZ,.aw,iZ])) (fun V b2 O=>?_);refine ks O (UM Z Z Z O.g0 (m:=10) Z (aj a3.leaf.2 Z) (cells':=[_,_,_,_,_,_,_,_,_,_]) Z) (fun V O=>?_);refine Wu O 6 [0,0] Z Z<|S Z (Yx a3 Z Z Z (e:=40) Z) Z<|Wm 4 Z ?_;replace O:=O.pull (.there<|bu.here (X:=M8b));obtain⟨LB18,hLB18,O⟩:∃LB18:Own,LB18=_/\H V K4 (M8b++LB18):=⟨_,Z,O⟩;refine bq ([8,16]++rg 55 12) (fun j t V=>∃(i4:Nat) (u8c:Y) (M8c:Own),j+i4=ab.length/\cO 1 2 dB ((acc++xn ((mY k C vs).take i3))++((ab.take i4).filter bQ).map bW.write) u8c M8c/\t.get 8=some (u8c)/\t.get 55=some (nI i4)/\H V K4 (M8c++LB18)) (ab.length) ⟨0,u8b,M8b,Z,(by show cO 1 2 dB (_++[]) _ _;rw[zk_];exact hO8d),Z,Z,O⟩ ?_;clear O;intro bM t V ar hI;obtain⟨i4,u8c,M8c,c4,hO8c,a0,bR,O⟩:=hI;obtain⟨oo,rfl⟩:=ar.q2 a0 bR Z;refine Xa 6 Z<|aG Z (fun Q=>?_) (fun Q=>?_)
    ·refine UY 6 Z ?_;obtain⟨bS,a4,c5⟩:=dh Q;refine Yp (e:=40) (m:=5) a3 a4 Z Z Z Z (fun d0 c7 bY c8 b0=>?_);obtain rfl:=b0;refine S Z (YA O bY Z Z) Z<|kb O (Yy (cs:=[iZ,iZ,iZ,iZ,iZ])) (fun V b3 O=>?_);refine ks O (YD Z Z Z O.g0 Z) (fun V O=>?_);refine Wo 4 Z<|S Z (YG Z O.g0 Z) Z<|kx (Yu Z Z Z) (Ep hG bS O) (fun V O=>?_);refine Xd 2 Z<|aG Z (fun bg=>?_) (fun bg=>?_)
     ·refine XR O 4 [4,0] Z Z<|gE O Z (cM (e:=2) (m:=1) (z:=[iZ]) (cs:=[_]) B B B B<|bn Z Z Z Z cD) (fun _=>Z) (fun V b4 O=>?_);replace O:=O.pull (.there (.there<|bu.here (X:=M8c)));replace O:=O.pull (.dz<|bu.here (X:=[_]));rw[za_] at O;refine kE (R:=dB) (m:=1) (e:=2) hO8c O (fQ (m:=1) Z (show dB bS.write _ from Z)) dB.leaf (by have h1:=CG (ls:=(mY k C vs).take i3) fun l hl=>hfew l (List.mem_of_mem_take hl);have h2:=List.length_filter_le bQ (ab.take i4);have h3:=hfew ab (gB_ W);rw[lT_] at h1 h2;simp only[lA_,lM_,zc_,List.length_nil];omega) Z Z Z Z Z Z Z (fun _=>Z) (fun V ce ch hO65 O=>?_);refine XO 2 Z (aD (ad (af Z (S Z (aB (v:=nI (i4+1)) Z Z (cI (a6 (by have:=aS Q;have:=hfew ab (gB_ W);omega)))) Z<|XO 2 Z ?_))));replace O:=O.pull (.dz<|bu.here (X:=[_]));rw[za_] at O;have O:=O.pop;refine aJ ⟨bM-1,(by have:=aS Q;omega),oF,i4+1,ce,ch,(by have:=aS Q;omega),(by rw[tp a4 bg,List.map_append,<-lQ_];exact hO65),Z,Z,O⟩
     refine aH (aD (ad (af Z (S Z (aB (v:=nI (i4+1)) Z Z (cI (a6 (by have:=aS Q;have:=hfew ab (gB_ W);omega)))) Z<|XO 2 Z ?_))));replace O:=O.pull (.there<|bu.here (X:=M8c));replace O:=O.pull (.dz<|bu.here (X:=[_]));rw[za_] at O;have O:=O.pop;refine aJ ⟨bM-1,(by have:=aS Q;omega),oF,i4+1,u8c,M8c,(by have:=aS Q;omega),(by rw[ox a4 bg];exact hO8c),Z,Z,O⟩
    refine Wl 3 Z<|aQ<|aD<|ad<|af Z ?_;subst hLB18;refine S Z (aB (v:=nI (i3+1)) Z Z<|cI<|a6 (by have:=aS ap;omega)) Z (XO 2 Z ?_);replace O:=O.pull (.dz<|bu.here (X:=[_]));rw[za_] at O;have O:=O.pop;refine aJ ⟨cc-1,(by have:=aS ap;omega),oF,i3+1,u8c,M8c,(by have:=aS ap;omega),(by rw[eW W];unfold xn;rw[List.flatMap_append,List.flatMap_singleton,<-lQ_,<-tL_ (bI Q)];exact hO8c),Z,Z,O⟩
   refine Wl 3 Z<|aQ<|aD<|ad<|af Z ?_;subst hLB15;refine S Z (aB (v:=nI (i2+1)) Z Z<|cI<|a6 (by have:=aS ao;omega)) Z (XO 2 Z ?_);replace O:=O.pull (.dz<|bu.here (X:=[_]));rw[za_] at O;have O:=O.pop;refine aJ ⟨j9-1,(by have:=aS ao;omega),oF,i2+1,K4,acc++xn (mY k C vs),u8b,M8b,(by have:=aS ao;omega),KP.le_trans I am,(by rw[eW ac,tA be,show bD (km k C vs) 0=true from by cases h:bD (km k C vs) 0 with | true=>rfl | false=>(rw[h] at a1;cases a1)];rfl),(by have h1:=CG hfew;rw[lA_];omega),(by rw[<-tL_ (bI ap)];exact hO8d),Z,Z,O⟩
  refine Wl 3 Z<|aQ<|Xb 3 Z ?_;have a2:fF k vs l vs=(0,acc):=by rw[<-be,tL_<|bI ao]
  obtain⟨K4,am,bd,O⟩:=O.bZ (M:=M8);have hs8:=hO8.gB (K:=K4) bd;clear bd;refine kw (Yu Z Z Z) (Gr hS hs8 oM O) ?_;rintro ci V ⟨K5,b5,a5,O⟩;have hle35:=KP.le_trans I (KP.le_trans am b5);have hv5:=ba.mono hle35 fun _ _ h=>h
  refine VE 7 Z<|S Z (Yx a5 Z Z Z (e:=2) Z) Z<|Xd 3 Z<|aG Z (fun a9=>?_) (fun a9=>?_)
  ·refine XN 7 Z<|aA<|aI<|aA<|bP<|aI<|aA (?_);have aa:eD k init l=oU k l (PD k l) (lT init):=by unfold eD;rw[hE];rfl
   have A:eD k init l=(3,[]):=by rw[aa,<-aE];obtain⟨j6b,rfl⟩:∃q,j6=q+1:=⟨j6-1,by have:=aS N;omega⟩;exact Is a2 a9
   exact db Z Z Z ⟨K5,.aw,KP.le_trans F<|KP.le_trans E hle35,(by rw[A]),(by rw[A];exact .inl ⟨Z,Z⟩),(by rw[A];exact Nat.zero_le _),O⟩
  refine VD 6 Z<|S Z (Yx a5 Z Z Z (e:=2) Z) Z<|vQ 1 Z<|S Z (Yx hv5 Z Z Z (e:=2) Z) Z<|Xd 3 Z<|aG Z (fun bi=>?_) (fun bi=>?_)
  ·refine bz<|aT<|iE Z<|aT<|aV<|aQ<|XN 8 Z ?_;have aa:eD k init l=oU k l (PD k l) (lT init):=by unfold eD;rw[hE];rfl
   have A:eD k init l=(0,vs):=by rw[aa,<-aE];obtain⟨j6b,rfl⟩:∃q,j6=q+1:=⟨j6-1,by have:=aS N;omega⟩;exact It a2 a9 bi
   exact db Z Z Z ⟨K5,u7,KP.le_trans F<|KP.le_trans E hle35,(by rw[A]),(by rw[A];exact hv5),(by rw[A];exact ax),O⟩
  refine aH (XK 4 Z (aD (ad (af Z (S Z (aB (v:=nI (i+1)) Z Z<|cI<|a6 (by have:=aS N;omega)) Z (XO 2 Z (aJ ⟨j6-1,(by have:=aS N;omega),oF,i+1,K5,lT acc,ci,(by have:=aS N;omega),KP.le_trans E hle35,bI (a:=64) a9,a5,(by rw[<-aE];obtain⟨j6b,rfl⟩:∃q,j6=q+1:=⟨j6-1,by have:=aS N;omega⟩;exact(PH a2 a9 bi).symm),Z,Z,O⟩)))))))
 refine Wl 3 Z<|aQ<|XN 8 Z ?_;have aa:eD k init l=oU k l (PD k l) (lT init):=by unfold eD;rw[hE];rfl
 have A:eD k init l=(0,vs):=by rw[aa,<-aE];obtain rfl:j6=0:=(by have:=bI N;omega);rfl
 exact db Z Z Z ⟨K2,u7,KP.le_trans F E,(by rw[A]),(by rw[A];exact ba),(by rw[A];exact ax),O⟩
def Gk (n:Nat) (E:List (bV×bW)):List (List bV):=(List.range n).map fun x=>(E.filter fun p=>bif bQ p.2 then bD p.2.loc (.ofNat x) else false).map (·.1)
theorem pO {n:Nat} {E:List (bV×bW)}:(Gk n E).length=n:=by unfold Gk;rw[lM_,List.length_range]
theorem SB {n:Nat}:Gk n []=List.replicate n []:=by
 unfold Gk;refine zf_ fun x=>?_
 rw[gM_]
 by_cases h:x<n
 ·rw[zr_ h,List.getElem?_replicate_of_lt h];rfl
 rw[gN_ (by rw[List.length_range];omega),gN_ (by rw[List.length_replicate];omega)];rfl
theorem wm {n x:Nat} {E:List (bV×bW)} (h:x<n):(Gk n E)[x]? =some ((E.filter fun p=>bif bQ p.2 then bD p.2.loc (.ofNat x) else false).map (·.1)):=by
 unfold Gk;rw[gM_,zr_ h];rfl
theorem UL {n:Nat} {E:List (bV×bW)} {id:bV} {e:bW} (h:bQ e=false):Gk n (E++[(id,e)])=Gk n E:=by
 unfold Gk;refine List.map_congr_left fun x _=>?_
 rw[List.filter_append,List.filter_cons_of_neg (by show¬(bif bQ e then _ else false)=true;rw[h];exact Bool.false_ne_true),List.filter_nil,zk_]
theorem SC {n:Nat} {E:List (bV×bW)} {id:bV} {e:bW} {l:List bV} (h:bQ e=true) (hl:e.loc= .ofNat ln) (hx:(Gk n E)[ln]? =some l):Gk n (E++[(id,e)])=(Gk n E).set ln (l++[id]):=by
 have hn:ln<n:=by have:=(gA.1 hx).1;rw[pO] at this;exact this
 refine zf_ fun x=>?_
 by_cases u:x<n
 ·rw[wm u,List.filter_append]
  by_cases e1:ln=x
  ·subst e1;rw[List.getElem?_set_self (by rw[pO];exact hn),List.filter_cons_of_pos (by show(bif bQ e then bD e.loc (.ofNat ln) else false)=true;rw[h,hl];simp[dS]),List.filter_nil,List.map_append];rw[wm hn] at hx;rw[zs_ hx];rfl
  rw[List.getElem?_set_ne e1,wm u,List.filter_cons_of_neg (by
   show¬(bif bQ e then bD e.loc (.ofNat x) else false)=true;rw[h,hl,dS];intro A;have A:decide ((ln:Int)=(x:Int))=true:=A;rw[decide_eq_true_iff] at A;omega),List.filter_nil,zk_]
 rw[gN_ (by rw[pO];omega),gN_ (by rw[zg_,pO];omega)]
def sj (threads:List (List bW)) (t k:Nat):List (bV×bW):=qy 0 (threads.take t)++pX t 0 ((threads.getD t []).take k)
theorem FR {t:Nat} {b:List bW}:∀{a:List bW} {i:Nat},pX t i (a++b)=pX t i a++pX t (i+a.length) b
 | [],i=>rfl
 | e::a,i=>by
  show _::pX t (i+1) (a++b)=_;rw[FR (a:=a),show i+1+a.length=i+(e::a).length by rw[zc_];omega];rfl
theorem EV {b:List (List bW)}:∀{a:List (List bW)} {t:Nat},qy t (a++b)=qy t a++qy (t+a.length) b
 | [],t=>rfl
 | r::a,t=>by
  show pX t 0 r++qy (t+1) (a++b)=_;rw[EV (a:=a),show t+1+a.length=t+(r::a).length by rw[zc_];omega,<-lQ_];rfl
theorem KT {threads:List (List bW)}:sj threads 0 0= []:=rfl
theorem rJ {threads:List (List bW)} {t k:Nat} {row:List bW} {e:bW} (h1:threads[t]? =some row) (u:row[k]? =some e):sj threads t (k+1)=sj threads t k++[(⟨.ofNat (t+1),.ofNat k⟩,e)]:=by
 have hk:=(gA.1 u).1;unfold sj;rw[List.getD_eq_getElem?_getD,h1];show _++pX t 0 (row.take (k+1))=_++pX t 0 (row.take k)++_;rw[zb_,u,FR,lT_,Nat.min_eq_left oM,nA_,lQ_];rfl
theorem BE {threads:List (List bW)} {t:Nat} {row:List bW} (h1:threads[t]? =some row):sj threads t row.length=sj threads (t+1) 0:=by
 have ht:=(gA.1 h1).1;unfold sj;rw[List.getD_eq_getElem?_getD,h1];show _++pX t 0 (row.take row.length)=_;rw[List.take_length,zb_,h1,EV,lT_,Nat.min_eq_left oM,nA_];show _=(_++(pX t 0 row++[]))++[];rw[zk_,zk_]
theorem EW {threads:List (List bW)} {t:Nat} (h:threads.length<=t):sj threads t 0=qy 0 threads:=by
 unfold sj;rw[tL_ h];show _++[]=_;rw[zk_]
theorem Ab {t:Nat}:∀{r:List bW} {i:Nat},(pX t i r).length=r.length
 | [],_=>rfl
 | _::r,i=>by show(pX t (i+1) r).length+1=_;rw[Ab];rfl
theorem um:∀{l:List (List bW)} {t:Nat},(∀r∈l,r.length<=14)->(qy t l).length<=14*l.length
 | [],_,_=>Nat.zero_le _
 | r::l,t,h=>by
  show(pX t 0 r++qy (t+1) l).length<=_;have h1:=um (l:=l) (t:=t+1) fun x hx=>h x (mC_ _ hx)
  have h2:=h r (mS_ ..);rw[lA_,Ab,zc_];omega
theorem EX {threads:List (List bW)} {t k:Nat} (h4:threads.length<=4) (h:∀r∈threads,r.length<=14):(sj threads t k).length<=70:=by
 unfold sj;have h1:=um (l:=threads.take t) (t:=0) fun x hx=>h x (List.mem_of_mem_take hx)
 have h2:((threads.getD t []).take k).length<=14:=by
  rw[List.getD_eq_getElem?_getD];cases u:threads[t]? with
  | none=>exact Nat.le_trans (by rw[lT_];exact Nat.min_le_right ..) (Nat.zero_le _)
  | some r=>have:=h r (gB_ u);rw[lT_];show min k r.length<=14;omega
 rw[lA_,Ab];rw[lT_] at h1;omega
theorem Gm {init:List Int} {threads:List (List bW)}:gR init threads=Gk init.length (qy 0 threads):=rfl
theorem SF {init:List Int} {threads:List (List bW)} (h:ln<init.length):(gR init threads)[ln]? =some ((PW threads (.ofNat ln)).map (·.1)):=wm h
def Gw (threads:List (List bW)) (t k:Nat):List (bV×bW):=(sj threads t k).filter fun p=>dq p.2
theorem JH {threads:List (List bW)} {t k:Nat} {row:List bW} {e:bW} (h1:threads[t]? =some row) (u:row[k]? =some e) (h:dq e=true):Gw threads t (k+1)=Gw threads t k++[(⟨.ofNat (t+1),.ofNat k⟩,e)]:=by
 unfold Gw;rw[rJ h1 u,List.filter_append,List.filter_cons_of_pos (by exact h),List.filter_nil]
theorem OZ {threads:List (List bW)} {t k:Nat} {row:List bW} {e:bW} (h1:threads[t]? =some row) (u:row[k]? =some e) (h:dq e=false):Gw threads t (k+1)=Gw threads t k:=by
 unfold Gw;rw[rJ h1 u,List.filter_append,List.filter_cons_of_neg (by rw[h];decide),List.filter_nil,zk_]
theorem FI {threads:List (List bW)} {t:Nat} {row:List bW} (h1:threads[t]? =some row):Gw threads t row.length=Gw threads (t+1) 0:=by unfold Gw;rw[BE h1]
theorem JF {threads:List (List bW)} {t:Nat} (h:threads.length<=t):Gw threads t 0=pZ threads:=by unfold Gw pZ;rw[EW h]
theorem JG {threads:List (List bW)} {t k:Nat} (u:threads.length<=4) (h:∀r∈threads,r.length<=14):(Gw threads t k).length<=70:=Nat.le_trans (List.length_filter_le ..) (EX u h)
theorem Nw {threads:List (List bW)} {p:bV×bW} (h:p∈qy 0 threads):∃(t i:Nat) (row:List bW),p.1=⟨.ofNat (t+1),.ofNat i⟩/\threads[t]? =some row/\row[i]? =some p.2:=by
 obtain⟨a,k,h1,r,u,h3⟩:=uk h;exact⟨a,k,r,by rw[h1,nA_],u,h3⟩
theorem SA {threads:List (List bW)} {loc:Int}:U1 threads ((PW threads loc).map (·.1)):=fun w hw=>by
 obtain⟨p,hp,rfl⟩:=zn_.1 hw;obtain⟨t,i,row,h1,u,h3⟩:=Nw (List.mem_filter.1 hp).1;exact⟨t,i,row,p.2,h1,u,h3⟩
theorem Hj {init:List Int} {threads:List (List bW)} {id:bV} {e:bW} {v0:Int} (hl:e.loc= .ofNat ln) (h0:init[ln]? =some v0):BI v0 threads ((PW threads e.loc).map (·.1)) id e=Ii init threads (id,e):=by
 unfold BI Ii;have u:init.getD e.loc.toNat 0=v0:=by rw[hl,List.getD_eq_getElem?_getD];show(init[ln]?).getD 0=v0;rw[h0];rfl
 dsimp only;rw[u,List.filter_map];refine congrArg (fun z=>(bif bD v0 e.read then [(⟨0,e.loc⟩:bV)] else [])++List.map (fun x:bV×bW=>x.1) z)<|List.filter_congr fun p hp=>?_;obtain⟨t,i,row,h1,A,h3⟩:=Nw (List.mem_filter.1 hp).1;show wh threads id e.read p.1=_;unfold wh;rw[h1,yP A h3]
theorem xK {init:List Int} {threads:List (List bW)} (h:Dc init threads=0):init.length<=6/\threads.length<=4/\(∀r∈threads,r.length<=14)/\∀r∈threads,∀e∈r,cj e (.ofNat init.length)=true:=by
 unfold Dc at h;cases h1:(bif cW 6 (.ofNat init.length) then true else cW 4 (.ofNat threads.length)) with
 | true=>rw[h1] at h;cases h
 | false=>
  rw[h1] at h;cases u:threads.any (fun r=>cW 14 (.ofNat r.length)) with
  | true=>rw[u] at h;cases h
  | false=>
   rw[u] at h;cases h3:threads.any (fun r=>r.any fun e=>bT (cj e (.ofNat init.length))) with
   | true=>rw[h3] at h;cases h
   | false=>
    have C:init.length<=6/\threads.length<=4:=by
     cases h4:cW 6 (.ofNat init.length) with
     | true=>rw[h4] at h1;cases h1
     | false=>rw[h4] at h1;exact⟨bI (a:=6) (b:=init.length) h4,bI (a:=4) (b:=threads.length) h1⟩
    refine⟨C.1,C.2,fun r A=>?_,fun r A e he=>?_⟩
    ·have:=List.any_eq_false.1 u r A;exact bI (a:=14) (by simpa using this)
    have h4:=List.any_eq_false.1 h3 r A;have h4:(r.any fun e=>bT (cj e (.ofNat init.length)))=false:=by simpa using h4
    have h5:=List.any_eq_false.1 h4 e he;cases E:cj e (.ofNat init.length) with
    | true=>rfl
    | false=>rw[E] at h5;exact absurd Z h5
theorem Oh {e:bW} {n:Nat} (h:cj e (.ofNat n)=true) (hk:e.kind≠4):∃ln:Nat,e.loc= .ofNat ln/\ln<n:=by
 rw[Q3,decide_eq_true_iff] at h;obtain⟨_,_,_,_,_,_,_,h⟩:=h;obtain⟨h1,u⟩:=h hk;refine⟨e.loc.toNat,(Int.toNat_of_nonneg h1).symm,?_⟩;have u:e.loc<(n:Int):=u;omega
theorem H4 {e:bW} (h:dq e=true):e.kind≠4:=by
 intro u;unfold dq at h;rw[u] at h;revert h;decide
theorem Gl {e:bW} (h:bQ e=true):e.kind≠4:=by
 intro u;unfold bQ at h;rw[u] at h;revert h;decide
variable {ls:List (List bV)} {q:Nat}
theorem SU {α β:Type} {f:α->List β}:∀{l:List α} (i:Nat),((l.take i).flatMap f).length<=(l.flatMap f).length
 | [],_=>by simp
 | x::l,0=>by simp
 | x::l,i+1=>by
  show((x::l.take i).flatMap f).length<=_;rw[List.flatMap_cons,List.flatMap_cons,lA_,lA_];have:=SU (f:=f) (l:=l) i;omega
theorem wO {α β:Type} {f:α->List β} {l:List α} {i:Nat} {x:α} (h:l[i]? =some x):((l.take i).flatMap f).length+(f x).length<=(l.flatMap f).length:=by
 have:=SU (f:=f) (l:=l) (i+1);rw[gg h,lA_] at this;exact this
theorem Hh {α β:Type} {f:α->List β} (hf:∀x,1<=(f x).length):∀{l:List α},l.length<=(l.flatMap f).length
 | []=>Nat.zero_le _
 | x::l=>by
  have:=Hh hf (l:=l);have:=hf x;rw[List.flatMap_cons,lA_,zc_];omega
structure l8 (g:XG):Prop where
 n:6+g.threads.length+(g.threads.flatMap fun r=>r.flatMap bW.ints).length+(g.from_.flatMap eI).length+(g.order.flatMap eI).length+g.init.length<=1048576
theorem I9 (r:List bV):1<=(eI r).length:=by unfold eI;rw[zc_];omega
theorem uf (r:List bV):(eI r).length=1+r.length*2:=by
 unfold eI;rw[zc_]
 have:∀l:List bV,(l.flatMap bV.ints).length=l.length*2:=fun l=>by
  induction l with
  | nil=>rfl
  | cons x l ih=>rw[List.flatMap_cons,lA_,ih,zc_,show x.ints.length=2 from Z];omega
 rw[this];omega
theorem NJ (l:List bW):(l.flatMap bW.ints).length=l.length*5:=by
 induction l with
 | nil=>rfl
 | cons x l ih=>rw[List.flatMap_cons,lA_,ih,zc_,show x.ints.length=5 from Z];omega
theorem l8.t {g:XG} (h:l8 g):g.threads.length<=1048570:=by have:=h.n;omega
theorem l8.f {g:XG} (h:l8 g):g.from_.length<=1048570:=by have:=h.n;have:=Hh I9 (l:=g.from_);omega
theorem l8.o {g:XG} (h:l8 g):g.order.length<=1048570:=by have:=h.n;have:=Hh I9 (l:=g.order);omega
theorem l8.i {g:XG} (h:l8 g):g.init.length<=1048570:=by have:=h.n;omega
theorem l8.r {g:XG} (h:l8 g) (l:List bW) (hl:l∈g.threads):l.length<=1048570:=by
 obtain⟨i,hi⟩:=gO_ hl;have:=wO (f:=fun r:List bW=>r.flatMap bW.ints) hi;rw[NJ] at this;have:=h.n;omega
theorem l8.fr {g:XG} (h:l8 g) (l:List bV) (hl:l∈g.from_):l.length<=1048570:=by
 obtain⟨i,hi⟩:=gO_ hl;have:=wO (f:=eI) hi;rw[uf] at this;have:=h.n;omega
theorem l8.XJ {g:XG} (h:l8 g) (l:List bV) (hl:l∈g.order):l.length<=1048570:=by
 obtain⟨i,hi⟩:=gO_ hl;have:=wO (f:=eI) hi;rw[uf] at this;have:=h.n;omega
theorem TT {g:XG} (i:Nat):((g.threads.take i).map fun r=>Int.ofNat r.length).length<=g.threads.length:=by rw[lM_,lT_];omega
theorem TU {ls:List (List bW)} {i:Nat} {row:List bW} {x:bW} (u:ls[i]? =some row) (hx:row[q]? =some x):((ls.take i).flatMap fun r=>r.flatMap bW.ints).length+((row.take q).flatMap bW.ints).length+5<=(ls.flatMap fun r=>r.flatMap bW.ints).length:=by
 have h1:=wO (f:=fun r:List bW=>r.flatMap bW.ints) u;have A:_<=(row.flatMap bW.ints).length:=wO (f:=bW.ints) hx;rw[show(bW.ints x).length=5 from Z] at A;omega
theorem Oe {i:Nat} {row:List bV} (u:ls[i]? =some row):((ls.take i).flatMap eI).length+1+row.length*2<=(ls.flatMap eI).length:=by
 have h1:=wO (f:=eI) u;rw[uf] at h1;omega
theorem Of {i:Nat} {row:List bV} {x:bV} (u:ls[i]? =some row) (hx:row[q]? =some x):((ls.take i).flatMap eI).length+1+((row.take q).flatMap bV.ints).length+2<=(ls.flatMap eI).length:=by
 have h1:=wO (f:=eI) u;have A:_<=(row.flatMap bV.ints).length:=wO (f:=bV.ints) hx;rw[show(bV.ints x).length=2 from Z] at A;rw[show(eI row).length=(row.flatMap bV.ints).length+1 from Z] at h1;omega
theorem mU {l:List α} {i:Nat} (h:l.length<=i):l.take i=l:=tL_ h
theorem CA (hG:Plain G) (hF:l8 g) {a b c d:Y} (hg:eS K g a b c d) (O:H V K L):
  EC G 60 [.agg [a,b,c,d]] V fun v V'=>∃M,cO 1 2 dB (nt g) v M/\H V' K (M++L):=by
 have hZ:=hF.n;refine XD hG Tryz.func60 Z<|Xb 2 Z<|kb O (cL Z Z) (fun V b1 O=>?_);obtain⟨K1,ax,aE,O⟩:=O.bZ (M:=[_]);have A:K1 b1 (.row [a,b,c,d] 34 false):=aE _ (.head _);clear aE;have hg1:=hg.mono ax;refine Wu O 6 [1] Z Z<|S Z (Yw Z (O.bJ A) Z) Z<|S Z (Yx hg1.threads Z Z Z (e:=41) Z) Z<|gE O Z (cM (e:=2) (m:=1) (z:=[iZ]) (cs:=[_]) B B B B<|bn Z Z Z Z cD) (fun _=>Z) (fun V b2 O=>?_);have hO0:cO 1 2 dB [Int.ofNat g.threads.length] (.slice b2 0 1 (.known 1)) [(b2,.row [nI g.threads.length] 2 false)]:=oG (xs:=[Int.ofNat g.threads.length]) (by simp);obtain⟨M0,hM0⟩:∃M0:Own,M0= [(b2,.row [nI g.threads.length] 2 false)]:=⟨_,Z⟩;rw[<-hM0] at hO0;replace O:H V K1 (M0++L):=by rw[hM0];exact O
 refine Wn 9 Z<|aK<|bq ([3,4]++rg 16 16) (fun j t V=>∃(i:Nat) (u:Y) (M1:Own),(j+i=g.threads.length/\cO 1 2 dB ([Int.ofNat g.threads.length]++((g.threads.take i).map fun r=>Int.ofNat r.length)) u M1)/\t.get 3=some (u)/\t.get 4=some (nI i)/\H V K1 (M1++L)) (g.threads.length) ⟨0,_,_,⟨Z,hO0⟩,Z,Z,O⟩ ?_;clear O;intro j3 t V ar hI;obtain⟨i,u,M1,⟨hV,hO1⟩,C,dm,O⟩:=hI;obtain⟨oo,rfl⟩:=ar.q2 C dm Z;refine Wt O 5 [1] Z Z<|S Z (Yw Z (O.bJ A) Z) Z<|S Z (Yx hg1.threads Z Z Z (e:=41) Z) Z<|Xd 3 Z<|aG Z (fun aa=>?_) (fun aa=>?_)
 ·refine Wj 3 Z<|aK<|XR O 3 [1] Z Z<|S Z (Yw Z (O.bJ A) Z) Z<|vQ 1 Z ?_;obtain⟨dr,a0,fd⟩:=dh aa;refine Yp (e:=41) (m:=1) hg1.threads a0 Z Z Z Z (fun hW fi ck fk cl=>?_);have hr27':=cl;obtain⟨hX,rfl,cn⟩:=hr27';refine S Z (Yz O ck Z Z) Z<|S Z (Yx cn Z Z Z (e:=40) Z) Z<|gE O Z (cM (e:=2) (m:=1) (z:=[iZ]) (cs:=[_]) B B B B<|bn Z Z Z Z cD) (fun _=>Z) (fun V b2 O=>?_);replace O:=O.pull (.there .here);replace O:=O.pull (.dz<|bu.here (X:=[_]));refine kE (R:=dB) (m:=1) (e:=2) hO1 O (eA (xs:=[Int.ofNat dr.length]) (.inr ⟨Z,Z⟩) (by simp)) dB.leaf (by have:=TT (g:=g) i;simp only[lA_,zc_,List.length_nil];omega) Z Z Z Z Z Z Z (fun _=>Z) (fun V hY h2 hO31 O=>?_);refine XO 2 Z (aD (XK 5 Z (aJ ⟨j3-1,(by have:=aS aa;omega),oF,i+1,_,_,⟨by have:=aS aa;omega,by rw[map_take a0,<-lQ_];exact hO31⟩,Z,cI<|a6 (by have:=aS aa;have:=hF.t;omega),O⟩)))
 refine Wl 3 Z<|aQ<|Wi 3 Z ?_;have ds:g.threads.length<=i:=bI aa;rw[mU ds] at hO1;obtain⟨p1,a3⟩:∃x:List Int,x= [Int.ofNat g.threads.length]++g.threads.map fun r=>Int.ofNat r.length:=⟨_,Z⟩
 rw[<-a3] at hO1;have fs:p1.length<=1+g.threads.length:=by rw[a3,lA_,lM_];exact nR_ _
 refine Wm 4 Z<|bq ([3,5,6,7]++rg 32 38) (fun j t V=>∃(i2:Nat) (u:Y) (M2:Own),(j+i2=g.threads.length/\cO 1 2 dB (p1++((g.threads.take i2).flatMap fun r=>r.flatMap bW.ints)) u M2)/\t.get 3=some (u)/\t.get 5=some (nI i2)/\H V K1 (M2++L)) (g.threads.length) ⟨0,_,_,⟨Z,by rw[List.take_zero,List.flatMap_nil,zk_];exact hO1⟩,Z,Z,O⟩ ?_;clear O;intro j7 t V ar hI;obtain⟨i2,u,M2,⟨h4,hO2⟩,C,dx,O⟩:=hI;obtain⟨oo,rfl⟩:=ar.q2 C dx Z;refine Wt O 5 [1] Z Z<|S Z (Yw Z (O.bJ A) Z) Z<|S Z (Yx hg1.threads Z Z Z (e:=41) Z) Z<|Xd 3 Z<|aG Z (fun ab=>?_) (fun ab=>?_)
 ·refine UY 6 Z ?_;obtain⟨row,Q⟩:=da (aS ab);have hr14:=hF.r row (gB_ Q);refine Wm 4 Z<|bq ([3,6,7]++rg 39 31) (fun j t V=>∃(q:Nat) (u:Y) (M3:Own),(j+q=row.length/\cO 1 2 dB (p1++((g.threads.take i2).flatMap fun r=>r.flatMap bW.ints)++((row.take q).flatMap bW.ints)) u M3)/\t.get 3=some (u)/\t.get 6=some (nI q)/\H V K1 (M3++L)) (row.length) ⟨0,_,_,⟨Z,by rw[List.take_zero,List.flatMap_nil,zk_];exact hO2⟩,Z,Z,O⟩ ?_;clear O;intro d0 t V ar hI;obtain⟨q,u,M3,⟨fv,hO3⟩,C,d1,O⟩:=hI;obtain⟨oo,rfl⟩:=ar.q2 C d1 Z;refine Wt O 5 [1] Z Z<|S Z (Yw Z (O.bJ A) Z) Z<|vQ 1 Z<|Yp (e:=41) (m:=1) hg1.threads Q Z Z Z Z (fun h6 f0 co f1 cp=>?_);have hr43':=cp;obtain⟨h7,rfl,cr⟩:=hr43';refine S Z (Yz O co Z Z) Z<|S Z (Yx cr Z Z Z (e:=40) Z) Z<|Xd 3 Z<|aG Z (fun ac=>?_) (fun ac=>?_)
  ·refine UY 6 Z<|S Z (Yv 1 Z) Z<|S Z (Yw Z (O.bJ A) Z) Z<|vQ 1 Z<|Yp (e:=41) (m:=1) hg1.threads Q Z Z Z Z (fun h8 f2 cv f3 cw=>?_);have hr52':=cw;obtain⟨h9,rfl,cx⟩:=hr52';refine S Z (Yz O cv Z Z) Z<|vQ 1 Z ?_;obtain⟨ap,aq,f4⟩:=dh ac;refine Yp (e:=40) (m:=5) cx aq Z Z Z Z (fun ih f5 c0 f6 c1=>?_);obtain rfl:=c1;refine S Z (YA O c0 Z Z) Z<|kb O (Yy (cs:=[iZ,iZ,iZ,iZ,iZ])) (fun V b2 O=>?_);refine ks O (YD Z Z Z O.g0 Z) (fun V O=>?_);refine Xe 4 Z<|XS O 10 [0,0,1,0,2,0,3,0,4,0] Z Z<|gE O Z (cM (e:=2) (m:=1) (z:=[iZ]) (cs:=[_,_,_,_,_]) B B B B<|bn Z Z Z Z<|bn Z Z Z Z<|bn Z Z Z Z<|bn Z Z Z Z<|bn Z Z Z Z cD) (fun _=>Z) (fun V b3 O=>?_);replace O:=O.pull (.there (.there .here));replace O:=O.pull (.dz<|bu.here (X:=[_]));refine kE (R:=dB) (m:=1) (e:=2) hO3 O (eA (xs:=[ap.kind,ap.loc,ap.order,ap.read,ap.write]) (.inr ⟨Z,Z⟩) (by simp)) dB.leaf (by have:=TU Q aq;simp only[lA_,zc_,List.length_nil];omega) Z Z Z Z Z Z Z (fun _=>Z) (fun V ii io hO69 O=>?_);replace O:=O.sub (fR (.cons _ (.refl _)));refine XO 2 Z (aD (XK 5 Z (aJ ⟨d0-1,(by have:=aS ac;omega),oF,q+1,_,_,⟨by have:=aS ac;omega,by rw[gg aq,<-lQ_];exact hO69⟩,Z,cI<|a6 (by have:=aS ac;omega),O⟩)))
  refine Wl 3 Z (aQ (aD (XK 5 Z (aJ ⟨j7-1,(by have:=aS ab;omega),oF,i2+1,_,_,⟨by have:=aS ab;omega,by rw[gg Q,<-lQ_];rw[mU<|bI ac] at hO3;exact hO3⟩,Z,cI<|a6 (by have:=aS ab;have:=hF.t;omega),O⟩))))
 refine Wl 3 Z<|aQ<|Xb 2 Z ?_;have d2:g.threads.length<=i2:=bI ab;rw[mU d2] at hO2;obtain⟨p2,a4⟩:∃x:List Int,x=p1++g.threads.flatMap fun r=>r.flatMap bW.ints:=⟨_,Z⟩
 rw[<-a4] at hO2;have f7:p2.length<=1+g.threads.length+(g.threads.flatMap fun r=>r.flatMap bW.ints).length:=by rw[a4,lA_];omega
 refine XS O 2 [2] Z Z<|S Z (Yw Z (O.bJ A) Z) Z<|S Z (Yx hg1.from_ Z Z Z (e:=57) Z) Z<|gE O Z (cM (e:=2) (m:=1) (z:=[iZ]) (cs:=[_]) B B B B<|bn Z Z Z Z cD) (fun _=>Z) (fun V b2 O=>?_);replace O:=O.pull (.there .here);replace O:=O.pull (.dz<|bu.here (X:=[_]));refine kE (R:=dB) (m:=1) (e:=2) hO2 O (eA (xs:=[Int.ofNat g.from_.length]) (.inr ⟨Z,Z⟩) (by simp)) dB.leaf (by simp;omega) Z Z Z Z Z Z Z (fun _=>Z) (fun V ip ir hO75 O=>?_);refine VE 6 Z ?_;obtain⟨p3,a5⟩:∃x:List Int,x=p2++[Int.ofNat g.from_.length]:=⟨_,Z⟩;rw[<-a5] at hO75;have f8:p3.length<=2+g.threads.length+(g.threads.flatMap fun r=>r.flatMap bW.ints).length:=by rw[a5,lA_];show p2.length+1<=_;omega
 refine Wm 4 Z<|bq ([3,8,9]++rg 76 47) (fun j t V=>∃(i3:Nat) (u:Y) (M4:Own),(j+i3=g.from_.length/\cO 1 2 dB (p3++((g.from_.take i3).flatMap eI)) u M4)/\t.get 3=some (u)/\t.get 8=some (nI i3)/\H V K1 (M4++L)) (g.from_.length) ⟨0,_,_,⟨Z,by rw[List.take_zero,List.flatMap_nil,zk_];exact hO75⟩,Z,Z,O⟩ ?_;clear O;intro d3 t V ar hI;obtain⟨i3,u,M4,⟨f9,hO4⟩,C,d4,O⟩:=hI;obtain⟨oo,rfl⟩:=ar.q2 C d4 Z;refine Wt O 5 [2] Z Z<|S Z (Yw Z (O.bJ A) Z) Z<|S Z (Yx hg1.from_ Z Z Z (e:=57) Z) Z<|Xd 3 Z<|aG Z (fun am=>?_) (fun am=>?_)
 ·refine UY 6 Z ?_;obtain⟨fr,T⟩:=da (aS am);have hf14:=hF.fr fr (gB_ T);refine XS O 2 [2] Z Z<|S Z (Yw Z (O.bJ A) Z) Z<|vQ 1 Z<|Yp (e:=57) (m:=1) hg1.from_ T Z Z Z Z (fun it gc c2 ge c3=>?_);have hr87':=c3;obtain⟨iv,rfl,c4⟩:=hr87';refine S Z (Yz O c2 Z Z) Z<|S Z (Yx c4 Z Z Z (e:=89) Z) Z<|gE O Z (cM (e:=2) (m:=1) (z:=[iZ]) (cs:=[_]) B B B B<|bn Z Z Z Z cD) (fun _=>Z) (fun V b3 O=>?_);replace O:=O.pull (.there .here);replace O:=O.pull (.dz<|bu.here (X:=[_]));refine kE (R:=dB) (m:=1) (e:=2) hO4 O (eA (xs:=[Int.ofNat fr.length]) (.inr ⟨Z,Z⟩) (by simp)) dB.leaf (by have:=Oe T;simp only[lA_,zc_,List.length_nil];omega) Z Z Z Z Z Z Z (fun _=>Z) (fun V ix iz hO91 O=>?_);refine Wm 9 Z<|bq ([3,9]++rg 92 31) (fun j t V=>∃(q3:Nat) (u:Y) (M5:Own),(j+q3=fr.length/\cO 1 2 dB (p3++((g.from_.take i3).flatMap eI)++[Int.ofNat fr.length]++((fr.take q3).flatMap bV.ints)) u M5)/\t.get 3=some (u)/\t.get 9=some (nI q3)/\H V K1 (M5++L)) (fr.length) ⟨0,_,_,⟨Z,by rw[List.take_zero,List.flatMap_nil,zk_];exact hO91⟩,Z,Z,O⟩ ?_;clear O;intro d5 t V ar hI;obtain⟨q3,u,M5,⟨gl,hO5⟩,C,d6,O⟩:=hI;obtain⟨oo,rfl⟩:=ar.q2 C d6 Z;refine Wt O 5 [2] Z Z<|S Z (Yw Z (O.bJ A) Z) Z<|vQ 1 Z<|Yp (e:=57) (m:=1) hg1.from_ T Z Z Z Z (fun iJ gr c5 gs c7=>?_);have hr96':=c7;obtain⟨i0,rfl,c8⟩:=hr96';refine S Z (Yz O c5 Z Z) Z<|S Z (Yx c8 Z Z Z (e:=89) Z) Z<|Xd 3 Z<|aG Z (fun ao=>?_) (fun ao=>?_)
  ·refine Wj 3 Z<|aK<|aU (l:=zp [0,1,2,3,4,5,6,7,8,9,10,11,12,13,14,15,16,17,18,19,20,21]) B B<|XT O 2 [2] Z Z<|ah Z Z (Yw Z (O.bJ A) Z) Z<|wQ 1 Z<|Yq (e:=57) (m:=1) hg1.from_ T Z Z Z Z Z (fun gt d7 a9 d8 ba=>?_);have hr106':=ba;obtain⟨gv,rfl,bb⟩:=hr106';refine ah Z Z (Yz O a9 Z Z) Z<|wQ 1 Z ?_;obtain⟨a1,I,d9⟩:=dh ao;refine Yq (e:=89) (m:=2) bb I Z Z Z Z Z (fun g2 ea bc ee bd=>?_);obtain rfl:=bd;refine fb bc Z Z Z Z (k:=0) B (lb Z) (fun _=>Z) (fun g3 be=>?_);refine ah Z Z (Yz O be Z Z) Z<|ah Z Z (Yv 2 Z) Z<|ah Z Z (Yw Z (O.bJ A) Z) Z<|wQ 1 Z<|Yq (e:=57) (m:=1) hg1.from_ T Z Z Z Z Z (fun g4 ef bf eg bg=>?_);have hr115':=bg;obtain⟨g5,rfl,bi⟩:=hr115';refine ah Z Z (Yz O bf Z Z) Z<|wQ 1 Z<|Yq (e:=89) (m:=2) bi I Z Z Z Z Z (fun g6 el bl em bm=>?_);obtain rfl:=bm;refine fb bl Z Z Z Z (k:=1) B (lb Z) (fun _=>Z) (fun g7 bo=>?_);refine ah Z Z (Yz O bo Z Z) Z<|nN O Z Z (cM (e:=2) (m:=1) (z:=[iZ]) (cs:=[_,_]) B B B B<|bn Z Z Z Z<|bn Z Z Z Z cD) (fun _=>Z) (fun V b4 O=>?_);replace O:=O.pull (.there .here);replace O:=O.pull (.dz<|bu.here (X:=[_]));refine mN (R:=dB) (m:=1) (e:=2) hO5 O (eA (xs:=[a1.bM,a1.index]) (.inr ⟨Z,Z⟩) (by simp)) dB.leaf (by have:=Of T I;simp only[lA_,zc_,List.length_nil];omega) Z Z Z Z Z Z Z Z (fun _=>Z) (fun V g8 g9 hO122 O=>?_);refine⟨aY,?_⟩;refine wQ 1 Z (a8 (aD (XK 5 Z (aJ ⟨d5-1,(by have:=aS ao;omega),oF,q3+1,_,_,⟨by have:=aS ao;omega,by rw[gg I,<-lQ_];exact hO122⟩,Z,cI<|a6 (by have:=aS ao;omega),O⟩))))
  refine Wl 3 Z (aQ (aD (XK 5 Z (aJ ⟨d3-1,(by have:=aS am;omega),oF,i3+1,_,_,⟨by have:=aS am;omega,by rw[gg T,<-lQ_];rw[mU<|bI ao] at hO5;rw[lQ_] at hO5;exact hO5⟩,Z,cI<|a6 (by have:=aS am;have:=hF.f;have:=hF.o;omega),O⟩))))
 refine Wl 3 Z<|aQ<|Xb 2 Z ?_;have c9:g.from_.length<=i3:=bI am;rw[mU c9] at hO4;obtain⟨p4,bp⟩:∃x:List Int,x=p3++g.from_.flatMap eI:=⟨_,Z⟩;rw[<-bp] at hO4;have ha:p4.length<=2+g.threads.length+(g.threads.flatMap fun r=>r.flatMap bW.ints).length+(g.from_.flatMap eI).length:=by rw[bp,lA_];omega
 refine XS O 2 [3] Z Z<|S Z (Yw Z (O.bJ A) Z) Z<|S Z (Yx hg1.order Z Z Z (e:=57) Z) Z<|gE O Z (cM (e:=2) (m:=1) (z:=[iZ]) (cs:=[_]) B B B B<|bn Z Z Z Z cD) (fun _=>Z) (fun V b3 O=>?_);replace O:=O.pull (.there .here);replace O:=O.pull (.dz<|bu.here (X:=[_]));refine kE (R:=dB) (m:=1) (e:=2) hO4 O (eA (xs:=[Int.ofNat g.order.length]) (.inr ⟨Z,Z⟩) (by simp)) dB.leaf (by simp;omega) Z Z Z Z Z Z Z (fun _=>Z) (fun V hd ho hO128 O=>?_);refine VE 6 Z ?_;obtain⟨p5,bs⟩:∃x:List Int,x=p4++[Int.ofNat g.order.length]:=⟨_,Z⟩;rw[<-bs] at hO128;have hr:p5.length<=3+g.threads.length+(g.threads.flatMap fun r=>r.flatMap bW.ints).length+(g.from_.flatMap eI).length:=by rw[bs,lA_];show p4.length+1<=_;omega
 refine Wm 4 Z<|bq ([3,10,11]++rg 129 47) (fun j t V=>∃(i4:Nat) (u:Y) (M6:Own),(j+i4=g.order.length/\cO 1 2 dB (p5++((g.order.take i4).flatMap eI)) u M6)/\t.get 3=some (u)/\t.get 10=some (nI i4)/\H V K1 (M6++L)) (g.order.length) ⟨0,_,_,⟨Z,by rw[List.take_zero,List.flatMap_nil,zk_];exact hO128⟩,Z,Z,O⟩ ?_;clear O;intro en t V ar hI;obtain⟨i4,u,M6,⟨hs,hO6⟩,C,dd,O⟩:=hI;obtain⟨oo,rfl⟩:=ar.q2 C dd Z;refine Wt O 5 [3] Z Z<|S Z (Yw Z (O.bJ A) Z) Z<|S Z (Yx hg1.order Z Z Z (e:=57) Z) Z<|Xd 3 Z<|aG Z (fun E=>?_) (fun E=>?_)
 ·refine UY 6 Z ?_;obtain⟨od,W⟩:=da (aS E);have ho56:=hF.XJ od (gB_ W);refine XS O 2 [3] Z Z<|S Z (Yw Z (O.bJ A) Z) Z<|vQ 1 Z<|Yp (e:=57) (m:=1) hg1.order W Z Z Z Z (fun ht eq bt er bv=>?_);have hr140':=bv;obtain⟨hu,rfl,bw⟩:=hr140';refine S Z (Yz O bt Z Z) Z<|S Z (Yx bw Z Z Z (e:=89) Z) Z<|gE O Z (cM (e:=2) (m:=1) (z:=[iZ]) (cs:=[_]) B B B B<|bn Z Z Z Z cD) (fun _=>Z) (fun V b4 O=>?_);replace O:=O.pull (.there .here);replace O:=O.pull (.dz<|bu.here (X:=[_]));refine kE (R:=dB) (m:=1) (e:=2) hO6 O (eA (xs:=[Int.ofNat od.length]) (.inr ⟨Z,Z⟩) (by simp)) dB.leaf (by have:=Oe W;simp only[lA_,zc_,List.length_nil];omega) Z Z Z Z Z Z Z (fun _=>Z) (fun V hw hz hO144 O=>?_);refine Wm 9 Z<|bq ([3,11]++rg 145 31) (fun j t V=>∃(q4:Nat) (u:Y) (M7:Own),(j+q4=od.length/\cO 1 2 dB (p5++((g.order.take i4).flatMap eI)++[Int.ofNat od.length]++((od.take q4).flatMap bV.ints)) u M7)/\t.get 3=some (u)/\t.get 11=some (nI q4)/\H V K1 (M7++L)) (od.length) ⟨0,_,_,⟨Z,by rw[List.take_zero,List.flatMap_nil,zk_];exact hO144⟩,Z,Z,O⟩ ?_;clear O;intro es t V ar hI;obtain⟨q4,u,M7,⟨hA,hO7⟩,C,df,O⟩:=hI;obtain⟨oo,rfl⟩:=ar.q2 C df Z;refine Wt O 5 [3] Z Z<|S Z (Yw Z (O.bJ A) Z) Z<|vQ 1 Z<|Yp (e:=57) (m:=1) hg1.order W Z Z Z Z (fun hB et bE ev bF=>?_);have hr149':=bF;obtain⟨hC,rfl,bR⟩:=hr149';refine S Z (Yz O bE Z Z) Z<|S Z (Yx bR Z Z Z (e:=89) Z) Z<|Xd 3 Z<|aG Z (fun F=>?_) (fun F=>?_)
  ·refine Wj 3 Z<|aK<|aU (l:=zp [0,1,2,3,4,5,6,7,8,9,10,11,12,13,14,15,16,17,18,19,20,21]) B B<|XT O 2 [3] Z Z<|ah Z Z (Yw Z (O.bJ A) Z) Z<|wQ 1 Z<|Yq (e:=57) (m:=1) hg1.order W Z Z Z Z Z (fun hD ex bS ez bY=>?_);have hr159':=bY;obtain⟨hE,rfl,b0⟩:=hr159';refine ah Z Z (Yz O bS Z Z) Z<|wQ 1 Z ?_;obtain⟨a2,N,e0⟩:=dh F;refine Yq (e:=89) (m:=2) b0 N Z Z Z Z Z (fun hH e3 b6 e4 b7=>?_);obtain rfl:=b7;refine fb b6 Z Z Z Z (k:=0) B (lb Z) (fun _=>Z) (fun hK b8=>?_);refine ah Z Z (Yz O b8 Z Z) Z<|ah Z Z (Yv 3 Z) Z<|ah Z Z (Yw Z (O.bJ A) Z) Z<|wQ 1 Z<|Yq (e:=57) (m:=1) hg1.order W Z Z Z Z Z (fun hL e5 b9 e7 ca=>?_);have hr168':=ca;obtain⟨hM,rfl,cb⟩:=hr168';refine ah Z Z (Yz O b9 Z Z) Z<|wQ 1 Z<|Yq (e:=89) (m:=2) cb N Z Z Z Z Z (fun hN e8 cc e9 ce=>?_);obtain rfl:=ce;refine fb cc Z Z Z Z (k:=1) B (lb Z) (fun _=>Z) (fun hO ch=>?_);refine ah Z Z (Yz O ch Z Z) Z<|nN O Z Z (cM (e:=2) (m:=1) (z:=[iZ]) (cs:=[_,_]) B B B B<|bn Z Z Z Z<|bn Z Z Z Z cD) (fun _=>Z) (fun V b5 O=>?_);replace O:=O.pull (.there .here);replace O:=O.pull (.dz<|bu.here (X:=[_]));refine mN (R:=dB) (m:=1) (e:=2) hO7 O (eA (xs:=[a2.bM,a2.index]) (.inr ⟨Z,Z⟩) (by simp)) dB.leaf (by have:=Of W N;simp only[lA_,zc_,List.length_nil];omega) Z Z Z Z Z Z Z Z (fun _=>Z) (fun V hP hQ hO175 O=>?_);refine⟨aY,?_⟩;refine wQ 1 Z (a8 (aD (XK 5 Z (aJ ⟨es-1,(by have:=aS F;omega),oF,q4+1,_,_,⟨by have:=aS F;omega,by rw[gg N,<-lQ_];exact hO175⟩,Z,cI<|a6 (by have:=aS F;omega),O⟩))))
  refine Wl 3 Z (aQ (aD (XK 5 Z (aJ ⟨en-1,(by have:=aS E;omega),oF,i4+1,_,_,⟨by have:=aS E;omega,by rw[gg W,<-lQ_];rw[mU<|bI F] at hO7;rw[lQ_] at hO7;exact hO7⟩,Z,cI<|a6 (by have:=aS E;have:=hF.f;have:=hF.o;omega),O⟩))))
 refine Wl 3 Z<|aQ<|Xb 2 Z ?_;have dk:g.order.length<=i4:=bI E;rw[mU dk] at hO6;obtain⟨p6,ci⟩:∃x:List Int,x=p5++g.order.flatMap eI:=⟨_,Z⟩;rw[<-ci] at hO6;have hR:p6.length<=3+g.threads.length+(g.threads.flatMap fun r=>r.flatMap bW.ints).length+(g.from_.flatMap eI).length+(g.order.flatMap eI).length:=by rw[ci,lA_];omega
 refine XS O 2 [0] Z Z<|S Z (Yw Z (O.bJ A) Z) Z<|S Z (Yx hg1.init Z Z Z (e:=2) Z) Z<|gE O Z (cM (e:=2) (m:=1) (z:=[iZ]) (cs:=[_]) B B B B<|bn Z Z Z Z cD) (fun _=>Z) (fun V b4 O=>?_);replace O:=O.pull (.there .here);replace O:=O.pull (.dz<|bu.here (X:=[_]));refine kE (R:=dB) (m:=1) (e:=2) hO6 O (eA (xs:=[Int.ofNat g.init.length]) (.inr ⟨Z,Z⟩) (by simp)) dB.leaf (by simp;omega) Z Z Z Z Z Z Z (fun _=>Z) (fun V hS hT hO181 O=>?_);refine Wu O 7 [0] Z Z<|S Z (Yw Z (O.bJ A) Z) Z<|TZ (R:=dB) (m:=1) (e:=2) hO181 O hg1.init dB.leaf (by have:=hF.i;simp only[lA_,zc_,List.length_nil];omega) Z Z Z Z Z Z Z (fun _=>Z) (fun V hU dl hO185 O=>?_);refine Xf 4 Z ?_;exact az Z Z ⟨dl,by have e:=hO185;rw[ci,bs,bp,a5,a4,a3] at e;unfold nt;simpa only[lQ_,zk_] using e,O.weaken ax⟩
variable {A B_:List Int} {N a1 a2 b2 d1 d2:Y}
theorem Dq {i:Nat} {x y:Int} (hx:A[i]? =some x) (hy:B_[i]? =some y):Dn (A.drop i) (B_.drop i)=bif bD (ff x y) 0 then Dn (A.drop (i+1)) (B_.drop (i+1)) else ff x y:=by
 rw[cT hx,cT hy];rfl
theorem Fk {i:Nat} (h:A.length<=i∨B_.length<=i):Dn (A.drop i) (B_.drop i)=0:=by
 rcases h with h | h
 ·rw[List.drop_of_length_le h];rfl
 rw[List.drop_of_length_le h];cases A.drop i<;>rfl
theorem QT {x y:Int} (h:cW x y=true):ff x y= -1:=by unfold ff;rw[h];rfl
theorem QR {x y:Int} (h:cW y x=true):ff x y=1:=by
 have u:cW x y=false:=by rw[eQ] at h⊢;simp at h⊢;omega
 unfold ff;rw[h,u];rfl
theorem KB {x y:Int} (h1:cW x y=false) (u:cW y x=false):ff x y=0:=by unfold ff;rw[h1,u];rfl
theorem LN (hG:Plain G) {g1 W:XG} {b1 c1 c2:Y} (h1:eS K g1 a1 b1 c1 d1) (X:eS K W a2 b2 c2 d2) (hR1:l8 g1) (hR2:l8 W) (O:H V K L):
  Ca G K L 22 [.agg [a1,b1,c1,d1],.agg [a2,b2,c2,d2]] V <| .int .i64 (ml g1 W):=by
 refine XD hG Tryz.func22 Z<|Xb 2 Z<|kb O (cL Z Z) (fun V b1 O=>?_);refine kb O (cL Z Z) (fun V b2 O=>?_);refine Wn 4 Z (aU (l:=[(0,[]),(2,[]),(1,[2]),(3,[]),(4,[]),(5,[])]) B B<|ah Z Z (YF Z O.g1 Z) Z<|ah Z Z (YF Z O.g0 Z) Z<|fC Z Z (Yu Z Z Z) (fun _=>Z) (CA hG hR1 h1 O) ?_);rintro u9 V ⟨M9,hO9,O⟩;refine⟨(bx (bC Z Z Z Z Z (YF Z O.cF.g0 Z)<|qe<|ey X.init.pj<|ey X.threads.pj<|ey X.from_.pj<|ey X.order.pj qg) aY),?_⟩;refine fC Z Z (Yu Z Z Z) (fun _=>Z) (CA hG hR2 X O) ?_;rintro bg V ⟨aE,hO11,O⟩;refine⟨aY,?_⟩;refine Xg 4 Z<|Wi 3 Z ?_;obtain⟨K1,E,u,O⟩:=O.bZ (M:=aE);have hn11:=hO11.gB (K:=K1) u;clear u;obtain⟨K2,A,u,O⟩:=O.bZ (M:=M9);have hn9:=hO9.gB (K:=K2) u;have hn11:=hn11.mono A fun _ _ h=>h;clear u
 refine Wm 4 Z ?_;obtain⟨LL1,O,hLL1⟩:=O.named;refine bq ([4,7]++rg 12 30) (fun j t V=>∃(i:Nat),(j+i=(nt g1).length/\Dn (nt g1) (nt W)=Dn ((nt g1).drop i) ((nt W).drop i))/\t.get 7=some (nI i)/\H V K2 LL1) ((nt g1).length) ⟨0,⟨Z,Z⟩,Z,O⟩ ?_;clear O;intro j3 t V ar hI;obtain⟨i,⟨bi,C⟩,a0,O⟩:=hI;subst hLL1;obtain⟨oo,rfl⟩:=ar.q1 a0 Z;refine Wi 5 Z<|S Z (Yx hn9 Z Z Z (e:=2) Z) Z<|vQ 1 Z<|ky Z (an Z) (fun N=>?_) (fun N=>?_)
 ·refine XP 2 Z<|S Z (Yx hn11 Z Z Z (e:=2) Z) Z<|Xd 4 Z<|aG Z (fun Q=>?_) (fun Q=>?_)
  ·refine Wj 3 Z<|aK<|ai<|ai<|aU (l:=zp [0,1,2,3,4,5,6,7,8]) B B<|XQ 2 Z ?_;have a3:i<(nt g1).length:=aS N;have a4:i<(nt W).length:=aS Q;obtain⟨bl,F⟩:=da a3;obtain⟨bm,I⟩:=da a4;refine Yq (e:=2) (m:=1) hn9 F Z Z Z Z Z (fun bo a5 aa a9 ab=>?_);obtain rfl:=ab;refine ah Z Z (Yz O aa Z Z) Z<|XQ 2 Z<|Yq (e:=2) (m:=1) hn11 I Z Z Z Z Z (fun bp ba ac bb am=>?_);obtain rfl:=am;refine ah Z Z (Yz O ac Z Z) Z<|Xg 3 Z<|aG Z (fun R=>?_) (fun R=>?_)
   ·refine XN 6 Z<|aA<|aI<|aA<|bP<|aI<|aA (?_);exact az Z Z ⟨by rw[<-Dp,C,Dq F I,QT R];rfl,(O.pop.pop).weaken<|KP.le_trans E A⟩
   refine Wj 3 Z<|aU (l:=zp [0,1,2,3,4,5,6,7,8]) B B<|XQ 2 Z ?_;have hx35:=F;have hx39:=I;refine Yq (e:=2) (m:=1) hn9 hx35 Z Z Z Z Z (fun bs bc ao bd ap=>?_);obtain rfl:=ap;refine ah Z Z (Yz O ao Z Z) Z<|XQ 2 Z<|Yq (e:=2) (m:=1) hn11 hx39 Z Z Z Z Z (fun bt be aq bf ax=>?_);obtain rfl:=ax;refine ah Z Z (Yz O aq Z Z) Z<|Xg 3 Z<|aG Z (fun T=>?_) (fun T=>?_)
   ·refine XN 6 Z<|aI<|aA<|bP<|aI<|aA (?_);exact az Z Z ⟨by rw[<-Dp,C,Dq hx35 hx39,QR T];rfl,(O.pop.pop).weaken<|KP.le_trans E A⟩
   refine aH<|aD<|XK 5 Z<|aJ ⟨j3-1,oM,oF,i+1,⟨by omega,by rw[C,Dq F I,KB R T];rfl⟩,cI<|a6 (by have:=hn9.cQ;omega),O⟩
  refine Wl 3 Z<|aQ<|XN 6 Z ?_;exact az Z Z ⟨by rw[<-Dp,C,Fk (.inr<|bI Q)],(O.pop.pop).weaken<|KP.le_trans E A⟩
 refine Ws 10 Z<|aV<|aQ<|XN 6 Z ?_;exact az Z Z ⟨by rw[<-Dp,C,Fk (.inl<|bI N)],(O.pop.pop).weaken<|KP.le_trans E A⟩
theorem R0 (E:Plain G) {g1 u:XG} {F A I M C Q R:Y} (h1:eS K g1 F A I M) (T:eS K u N C Q R) (hR1:l8 g1) (hR2:l8 u) (O:H V K L):
  Ca G K L 7 [.agg [F,A,I,M],.agg [N,C,Q,R]] V <| .bool (bD (ml g1 u) 0):=by
 refine XD E Tryz.func7 Z<|Xb 2 Z<|kb O (cL Z Z) (fun V A O=>?_);refine kb O (cL Z Z) (fun V C O=>?_);refine Wo 5 Z<|S Z (YF Z O.g1 Z) Z<|S Z (YF Z O.g0 Z) Z<|kx (Yu Z Z Z) (LN E h1 T hR1 hR2 O) (fun V O=>?_);refine Xf 5 Z ?_;exact az Z Z ⟨Z,O.pop.pop⟩
def WG (u:Y) (vs:List Y):Prop:=vs= [u]/\cE u=some [u]/\eX u=true
structure X5 (g:XG) (u0:Y) (M0:Own) (u1:Y) (us1:List Y) (O1 I1:Own) (u2:Y) (us2:List Y) (O2 I2:Own) (u3:Y) (us3:List Y) (O3 I3:Own):Prop where
 init:cO 1 2 dB g.init u0 M0
 threads:fq 5 40 iN g.threads us1 I1
 from_:fq 2 89 fj g.from_ us2 I2
 order:fq 2 89 fj g.order us3 I3
 o1:cO 1 41 WG us1 u1 O1
 o2:cO 1 57 WG us2 u2 O2
 o3:cO 1 57 WG us3 u3 O3
def SP (x:Y) (vs:List Y):Prop:=vs= [x]/\eX x=true/\cE x=some [x]
theorem SP.leaf (x:Y) (vs:List Y) (h:SP x vs):cg vs=true:=by
 rw[h.1];exact aj h.2.1 aC
section
variable {α:Type} {m E E2:Nat} {R:α->List Y->Prop} {ls:List (List α)} {us:List Y} {u:Y} {N M:Own} {K:KP}
theorem HJ (A:cO 1 E2 SP us u N) (h:fq m E R ls us M) (C:∀e∈N,K e.1 e.2) (F:∀e∈M,K e.1 e.2):bG K 1 (RL K m R) ls u:=by
 have hl:=h.length;rcases A with ⟨rfl,rfl,_⟩ | ⟨b,c,cells,e,rfl,rfl,h3,G,h5,h6⟩
 ·exact .inl ⟨List.length_eq_zero_iff.1 hl.symm,Z⟩
 refine .inr ⟨b,0,c,cells,e,false,by rw[hl],?_,C _<|mS_ ..,by omega,by omega,fun i x hx=>?_⟩
 ·rcases h5 with h5 | h5
  ·exact .inr ⟨_,h5,by omega⟩
  exact .inl h5.1
 obtain⟨u,h1,I⟩:=h.each F i x hx;refine⟨u,?_,I⟩;have:=(G i u h1).1;simpa using this
end
variable {vt:Y}
theorem Kg:∀x vs,RL K 2 fj x vs->cg vs=true:=fun _ _ ⟨v,h,hk⟩=>by rw[h];exact aj hk.leaf.2 aC
theorem Ro {threads:List (List bW)}:∀{n:Nat},fq 2 89 fj (Gk n<|sj threads 0 0) (List.replicate n .aw) []:=fun {n}=>by
 rw[KT,SB];induction n with
 | zero=>exact .nil
 | succ n ih=>rw[List.replicate_succ',List.replicate_succ'];exact fq.snoc (M1:=[]) ih cO.nil
theorem SQ (hG:Plain G) {init:List Int} {threads:List (List bW)} (hi:bG K 1 dB init vi) (ht:bG (K.gw X0) 1 (RL K 5 iN) threads vt) (hE:Dc init threads=0) (hX:∀e∈X0,e∈L) (O:H V K L):
  EC G 17 [vi,vt] V fun v V'=>∃K2 p2 p3 p4,KP.le K K2/\v= .agg [vi,vt,p2,p3,p4]/\bG K2 2 fj ((pZ threads).map (·.1)) p2/\bG K2 1 (RL K2 2 fj) (eZ init threads) p3/\bG K2 1 (RL K2 2 fj) (gR init threads) p4/\H V' K2 L:=by
 obtain⟨h6,h4,W,am⟩:=xK hE;refine XD hG Tryz.func17 Z<|Xb 2 Z<|kb O (Yy (cs:=[.aw,.aw,.aw,.aw,.aw])) (fun V b1 O=>?_);refine Wo 7 Z<|S Z (Yx hi Z Z Z (e:=2) Z) Z<|gE O Z (gT (e:=57) (w:=24) (z:=[.aw]) B B B B Z Z oM oM) (fun _=>Z) (fun V b2 O=>?_);rw[jh] at O;refine S Z (cY (places:=[(0,1),(1,1),(2,1),(3,1),(4,1)]) (zero:=[.aw,.aw,.aw,.aw,.aw]) (cs:=[_,_,_,_,_]) B B B (bn Z Z hi.leaf.1 Z<|bn Z Z ht.leaf.1 Z<|bn Z Z Z Z cD) B) Z<|kb O (Yy (cs:=[.aw,.aw,.aw,.aw,.aw])) (fun V b3 O=>?_);refine ks O (UM Z Z Z O.g0 (m:=5) Z (aj hi.leaf.2<|aj ht.leaf.2 Z) (cells':=[_,_,_,_,_]) Z) (fun V O=>?_);refine VE 6 Z (S Z (Yx ht Z Z Z (e:=41) Z) Z (Wm 4 Z (bq (rg 6 4++rg 23 33) (fun j t V=>∃(i:Nat) (us:List Y) (I:Own),j+i=threads.length/\fq 2 89 fj (Gk init.length<|sj threads i 0) us I/\t.get 23=some (nI i)/\H V K ((b3,.row [vi,vt,.aw,.aw,.slice b2 0 init.length (.known init.length)] 59 false)::(b2,.row us 57 false)::(I++(b1,.row [.aw,.aw,.aw,.aw,.aw] 59 false)::L))) (threads.length) ⟨0,List.replicate init.length .aw,[],Z,Ro,Z,O⟩ ?_)));clear O;intro j3 t V ar hI;obtain⟨i,us,I,c2,hI,bb,O⟩:=hI;obtain⟨oo,rfl⟩:=ar.q1 bb Z;refine Xa 6 Z<|aG Z (fun aa=>?_) (fun aa=>?_)
 ·refine UY 7 Z ?_;obtain⟨ba,E,ce⟩:=dh aa;refine Yp (e:=41) (m:=1) ht E Z Z Z Z (fun c3 ch bc ci bd=>?_);have hr26':=bd;obtain⟨c4,rfl,a4⟩:=hr26';refine S Z (Yz (O.Po (X:=X0) fun e he=>by simp[hX e he]) bc Z Z) Z (Wo 7 Z (S Z (Yx a4 Z Z Z (e:=40) Z) Z (Wm 4 Z (bq ([8,9]++rg 30 25) (fun j t V=>∃(k:Nat) (ax:List Y) (I2:Own),j+k=ba.length/\fq 2 89 fj (Gk init.length<|sj threads i k) ax I2/\t.get 30=some (nI k)/\H V K ((b3,.row [vi,vt,.aw,.aw,.slice b2 0 init.length (.known init.length)] 59 false)::(b2,.row ax 57 false)::(I2++(b1,.row [.aw,.aw,.aw,.aw,.aw] 59 false)::L))) (ba.length) ⟨0,us,I,Z,hI,Z,O⟩ ?_))));clear O;intro j6 t V ar hI;obtain⟨k,ax,I2,c5,hI2,be,O⟩:=hI;obtain⟨oo,rfl⟩:=ar.q1 be Z;refine Xa 6 Z<|aG Z (fun T=>?_) (fun T=>?_)
  ·refine UY 7 Z ?_;obtain⟨bS,ao,ck⟩:=dh T;refine Yp (e:=40) (m:=5) a4 ao Z Z Z Z (fun c7 cl bf cn bg=>?_);obtain rfl:=bg;refine S Z (YA O bf Z Z) Z<|kb O (Yy (cs:=[iZ,iZ,iZ,iZ,iZ])) (fun V b4 O=>?_);refine vQ 1 Z<|ks O (YD Z Z Z O.g0 Z) (fun V O=>?_);refine Wo 4 Z<|S Z (YG Z O.g0 Z) Z<|kx (Yu Z Z Z) (Ep hG bS O) (fun V O=>?_);refine Xd 2 Z<|aG Z (fun a0=>?_) (fun a0=>?_)
   ·refine aU (l:=[(0,[]),(1,[]),(2,[]),(3,[]),(4,[]),(5,[]),(6,[]),(7,[]),(8,[]),(9,[]),(10,[]),(11,[]),(12,[]),(13,[]),(14,[]),(15,[1,3]),(16,[]),(17,[])]) B B ?_;have hek:=am _ (gB_ E) _ (gB_ ao);obtain⟨ln,ab,F⟩:=Oh hek (Gl a0);obtain⟨l0,a1⟩:∃l0,(Gk init.length<|sj threads i k)[ln]? =some l0:=⟨_,wm F⟩;have c8:l0.length<=70:=by rw[wm F] at a1;rw[<-zs_ a1,lM_];exact Nat.le_trans (List.length_filter_le ..)<|EX h4 W
    obtain⟨ut,Mt,A,B_,bi,bY,b0,bl⟩:=hI2.at a1;subst b0;have hul:=(gA.1 bi).1;replace O:=O.pull (X:=Mt) (.there (.there (.there .Jk)));refine ah Z Z (Yv 4 Z) Z (ah Z Z (Yw Z O.cF.pop.g0 Z) Z (ah Z Z (Yv 1 Z) Z (ah Z Z (Yw Z O.cF.g0 Z) Z (ah Z Z (Yv 4 Z) Z (ah Z Z (Yw Z O.cF.pop.g0 Z) Z (ah Z Z (Yv 1 Z) Z (ah Z Z (Yw Z O.cF.g0 Z) Z (ah Z Z (dP (e:=57) (m:=1) B B Z (by rw[ab];rfl) F) Z (ah Z Z (av Z O.cF.pop.pop.g0 B (by rw[fL,show 0+ln*1=ln from by omega];exact bi)) Z (wQ 1 Z (ah Z Z (aB (v:=nI (i+1)) Z Z<|cI<|a6 (by have:=aS aa;omega)) Z (wQ 1 Z (ah Z Z (Yt (places:=[(0,1),(1,1)]) (zero:=[iZ,iZ]) (cs:=[_,_]) Z) Z ?_)))))))))))));refine nN O Z Z (cM (e:=89) (m:=2) (z:=[iZ,iZ]) (cs:=[_,_]) B B B B<|bn Z Z Z Z cD) (fun _=>Z) (fun V b5 O=>?_);replace O:=O.pull (.there<|bu.here (X:=Mt));replace O:=O.pull (.dz<|bu.here (X:=[_]));rw[za_] at O;refine mN (R:=fj) (m:=2) (e:=89) bY O (fQ (m:=2) Z (show fj ⟨.ofNat (i+1),.ofNat k⟩ _ from Z)) fj.leaf (by simp only[zc_,List.length_nil];omega) Z Z Z Z Z Z Z Z (fun _=>Z) (fun V b8 bm hO52 O=>?_);refine⟨(bx (bC Z Z Z Z Z (Yw Z O.cF.pop.g0 Z)<|IV _ _ _ _)<|bx (bC Z Z Z Z Z (Yw Z O.cF.g0 Z)<|dF _ _) aY),?_⟩;refine ah Z Z (dP (e:=57) (m:=1) B B Z (by rw[ab];rfl) F) Z (fD O (.dz (.there (.there .here))) Z Z (gW Z Z hO52.leaf.1 O.cF.pop.pop.g0 (m:=1) B Z oM<|aj hO52.leaf.2 aC) Z (fun V O=>?_));refine⟨aY,?_⟩;rw[pJ oM] at O;replace O:=O.push (X:=bm) (L:=_::_::_::((A++(bm++B_))++_)) (.there (.there (.there .Jk)));refine a8<|aD<|XK 4 Z ?_;have O:=O.pop;refine aJ ⟨j6-1,(by have:=aS T;omega),oF,k+1,ax.set ln b8,_,(by have:=aS T;omega),(by rw[rJ E ao,SC a0 ab a1];exact bl _ _ _ hO52),cI (a6 (by have:=aS T;have:=W _ (gB_ E);omega)),O⟩
   refine aH<|aD<|XK 4 Z ?_;have O:=O.pop;refine aJ ⟨j6-1,(by have:=aS T;omega),oF,k+1,ax,I2,(by have:=aS T;omega),(by rw[rJ E ao,UL a0];exact hI2),cI (a6 (by have:=aS T;have:=W _ (gB_ E);omega)),O⟩
  refine Wl 3 Z<|aQ<|aD<|XK 4 Z<|aJ ⟨j3-1,(by have:=aS aa;omega),oF,i+1,ax,I2,(by have:=aS aa;omega),(by rw[<-BE E,show ba.length=k by have:=bI T;omega];exact hI2),cI<|a6 (by have:=aS aa;omega),O⟩
 refine Wl 3 Z<|aQ<|Wi 3 Z ?_;rw[EW<|bI aa] at hI;replace O:=O.pull (.there (.there (.dz<|bu.here (X:=[_]))));rw[za_] at O;replace O:=O.pull (.there<|bu.here (X:=[_]));rw[za_] at O;replace O:=O.pull (.there (.there (.there<|bu.here (X:=I))));replace O:=O.pull (.dz (.there (.there<|bu.here (X:=[_]))));rw[za_] at O;obtain⟨K1,ap,C,O⟩:=O.bZ (M:=(b2,.row us 57 false)::I);have b9:bG K1 1 (RL K1 2 fj) (gR init threads) (.slice b2 0 init.length (.known init.length)):=by rw[Gm];exact fq.gB hI (fun e he=>C _ (.tail _ he)) (C _ (.head _)) (by rw[pO]) (by rw[pO];omega)
 clear C;replace hi:=hi.mono ap fun _ _ h=>h;replace ht:=ht.mono (iD ap fun _ h=>h) fun _ _ h=>h.mono ap
 refine vQ 1 Z (S Z (Yx ht Z Z Z (e:=41) Z) Z (Wm 4 Z (bq (rg 10 5++rg 58 35) (fun j t V=>∃(i2:Nat) (K2:KP) (u2 u3:Y) (M2 M3:Own),j+i2=threads.length/\KP.le K1 K2/\cO 2 89 fj ((Gw threads i2 0).map (·.1)) u2 M2/\cO 1 57 (RL K2 2 fj) ((Gw threads i2 0).map<|Ii init threads) u3 M3/\t.get 58=some (nI i2)/\H V K2 (M3++(M2++((b3,.row [vi,vt,u2,u3,.slice b2 0 init.length (.known init.length)] 59 false)::(b1,.row [.aw,.aw,.aw,.aw,.aw] 59 false)::L)))) (threads.length) ⟨0,K1,.aw,.aw,[],[],Z,KP.le_refl _,cO.nil,cO.nil,Z,O⟩ ?_)))
 clear O;intro ca t V ar hI;obtain⟨i2,K2,u2,u3,M2,M3,co,hK2,hR2,hS2,bo,O⟩:=hI;obtain⟨oo,rfl⟩:=ar.q1 bo Z;have hiA:=hi.mono hK2 fun _ _ h=>h;have htA:=ht.mono (iD hK2 fun _ h=>h) fun _ _ h=>h.mono hK2;have hwA:=b9.mono hK2 fun _ _ h=>h.mono hK2
 refine Xa 6 Z<|aG Z (fun ac=>?_) (fun ac=>?_)
 ·refine UY 7 Z ?_;obtain⟨a2,u,cp⟩:=dh ac;refine Yp (e:=41) (m:=1) htA u Z Z Z Z (fun c9 cr bp cv bs=>?_);have hr61':=bs;obtain⟨dd,rfl,a5⟩:=hr61';refine S Z (Yz (O.Po (X:=X0) fun e he=>by simp[hX e he]) bp Z Z) Z (Wo 7 Z (S Z (Yx a5 Z Z Z (e:=40) Z) Z (Wm 4 Z (bq ([12,13,14]++rg 65 27) (fun j t V=>∃(k2:Nat) (K3:KP) (u4 u5:Y) (M4 M5:Own),j+k2=a2.length/\KP.le K2 K3/\cO 2 89 fj ((Gw threads i2 k2).map (·.1)) u4 M4/\cO 1 57 (RL K3 2 fj) ((Gw threads i2 k2).map<|Ii init threads) u5 M5/\t.get 65=some (nI k2)/\H V K3 (M5++(M4++((b3,.row [vi,vt,u4,u5,.slice b2 0 init.length (.known init.length)] 59 false)::(b1,.row [.aw,.aw,.aw,.aw,.aw] 59 false)::L)))) (a2.length) ⟨0,K2,u2,u3,M2,M3,Z,KP.le_refl _,hR2,hS2,Z,O⟩ ?_))))
  clear O;intro bt t V ar hI;obtain⟨k2,K3,u4,u5,M4,M5,cw,hK3,hR4,hS4,bv,O⟩:=hI;obtain⟨oo,rfl⟩:=ar.q1 bv Z;have hiB:=hiA.mono hK3 fun _ _ h=>h;have htB:=htA.mono (iD hK3 fun _ h=>h) fun _ _ h=>h.mono hK3;have hwB:=hwA.mono hK3 fun _ _ h=>h.mono hK3;have hkB:=a5.mono hK3 fun _ _ h=>h
  refine Xa 6 Z<|aG Z (fun N=>?_) (fun N=>?_)
  ·refine UY 7 Z ?_;obtain⟨a3,Q,cx⟩:=dh N;refine Yp (e:=40) (m:=5) hkB Q Z Z Z Z (fun df c0 bw c1 bE=>?_);obtain rfl:=bE;refine S Z (YA O bw Z Z) Z<|kb O (Yy (cs:=[iZ,iZ,iZ,iZ,iZ])) (fun V b4 O=>?_);refine vQ 1 Z<|ks O (YD Z Z Z O.g0 Z) (fun V O=>?_);refine Wo 4 Z<|S Z (YG Z O.g0 Z) Z<|kx (Yu Z Z Z) (QF hG a3 O) (fun V O=>?_);refine Xd 2 Z<|aG Z (fun aE=>?_) (fun aE=>?_)
   ·refine Xb 3 Z (S Z (aB (v:=nI (i2+1)) Z Z<|cI<|a6 (by have:=aS ac;omega)) Z (vQ 1 Z (S Z (Yt (places:=[(0,1),(1,1)]) (zero:=[iZ,iZ]) (cs:=[_,_]) Z) Z<|kb O (Yy (cs:=[iZ,iZ])) (fun V b5 O=>?_))));refine ks O (YB Z Z Z O.g0 Z) (fun V O=>?_);refine Xd 2 Z (aU (l:=[(0,[]),(1,[]),(2,[]),(3,[]),(5,[]),(6,[]),(7,[]),(8,[]),(9,[]),(4,[6,7,8,9]),(13,[]),(10,[6]),(11,[]),(12,[]),(14,[]),(15,[]),(16,[])]) B B ?_);have hek:=am _ (gB_ u) _ (gB_ Q);obtain⟨ln,ab,F⟩:=Oh hek (H4 aE);obtain⟨v0,bF⟩:=da F;have hos:=SF (init:=init) (threads:=threads) F;have cb:((PW threads (.ofNat ln)).map (·.1)).length<=1000:=by have h1:=List.length_filter_le (fun p:bV×bW=>bif bQ p.2 then bD p.2.loc (.ofNat ln) else false) (qy 0 threads);have h2:=um (l:=threads) (t:=0) W;rw[lM_];unfold PW;omega
    have hrl:=JG (t:=i2) (k:=k2) h4 W;refine ah Z Z (Yv 2 Z) Z<|ah Z Z (Yw Z O.pop.pop.cF.cF.g0 Z) Z<|ah Z Z (YE Z O.g0 Z) Z<|nN O Z Z (cM (e:=89) (m:=2) (z:=[iZ,iZ]) (cs:=[_,_]) B B B B<|bn Z Z Z Z cD) (fun _=>Z) (fun V b6 O=>?_);refine ah Z Z (Yv 3 Z) Z<|ah Z Z (Yw Z O.pop.pop.pop.cF.cF.g0 Z) Z<|ah Z Z (YG Z O.pop.pop.pop.cF.cF.g0 Z) Z<|ah Z Z (YE Z O.g1 Z) Z<|ah Z Z (YG Z (O.get 2 Z) Z) Z ?_;replace O:=O.pull (.there (.there (.there (.dz<|bu.here (X:=M4)))));replace O:=O.pull (.dz<|bu.here (X:=[_]));rw[za_] at O;refine mN (R:=fj) (m:=2) (e:=89) hR4 O (fQ (m:=2) Z (show fj ⟨.ofNat (i2+1),.ofNat k2⟩ _ from Z)) fj.leaf (by rw[lM_];simp only[zc_,List.length_nil];omega) Z Z Z Z Z Z Z Z (fun _=>Z) (fun V dk bM hO80 O=>?_);refine⟨(bx (bC Z Z Z Z Z (Yw Z O.cF.pop.pop.cF.g0 Z) (hS4.tx (K:=fun _ _=>False)).dV)<|bx (bC Z Z Z Z Z (YG Z O.cF.pop.pop.cF.g0 Z)<|qe<|ey hiB.pj<|ey htB.pj<|ey (hR4.tx (K:=fun _ _=>False)).pj<|ey (hS4.tx (K:=fun _ _=>False)).pj<|ey hwB.pj qg)<|bx (bC Z Z Z Z Z (YE Z O.cF.g0 Z)<|qe<|ey (im _ _)<|ey (im _ _) qg)<|bx (bC Z Z Z Z Z (YG Z O.cF.pop.g0 Z)<|qe<|ey (im _ _)<|ey (im _ _)<|ey (im _ _)<|ey (im _ _)<|ey (im _ _) qg) aY),?_⟩;refine ah Z Z (Yv 2 Z) Z<|fC Z Z (Yu Z Z Z) (fun _=>Z) (Tt hG hiB htB hwB ⟨hR4.leaf.2,hR4.leaf.1⟩ ⟨hS4.leaf.2,hS4.leaf.1⟩ ⟨.ofNat (i2+1),.ofNat k2⟩ a3 ab bF hos SA cb (fun e he=>by simp[hX e he]) O) ?_;rintro dl V ⟨cc,hM86,O⟩;refine⟨(bx (bC Z Z Z Z Z (Yw Z O.cF.cF.pop.pop.cF.g0 Z) (hS4.tx (K:=fun _ _=>False)).dV) aY),?_⟩;obtain⟨K4,a9,C,O⟩:=O.bZ (M:=cc);have hs86:=hM86.gB (K:=K4) C;clear C;have hS4m:=hS4.jN (R':=RL K4 2 fj) fun _ _ h=>h.mono a9
    refine nN O Z Z (cM (e:=57) (m:=1) (z:=[.aw]) (cs:=[_]) B B B B<|bn Z Z hs86.leaf.1 Z cD) (fun _=>Z) (fun V b7 O=>?_);replace O:=O.pull (.there (.dz (.there (.there<|bu.here (X:=M5)))));replace O:=O.pull (.dz<|bu.here (X:=[_]));rw[za_] at O;refine mN (R:=RL K4 2 fj) (m:=1) (e:=57) hS4m O (fQ (m:=1) Z (show RL K4 2 fj (BI v0 threads ((PW threads (.ofNat ln)).map (·.1)) ⟨.ofNat (i2+1),.ofNat k2⟩ a3) _ from⟨_,Z,hs86⟩)) Kg (by rw[lM_];simp only[zc_,List.length_nil];omega) Z Z Z Z Z Z Z Z (fun _=>Z) (fun V dm bR hO88 O=>?_)
    refine⟨aY,?_⟩;refine fD O (.dz (.dz (.there (.there .here)))) Z Z (aL Z Z hO80.leaf.1 O.cF.cF.pop.pop.g0 (m:=1) B Z (lb Z) (aj hO80.leaf.2 aC) (cells':=[_,_,_,_,_]) Z) Z (fun V O=>?_);refine⟨aY,?_⟩;refine ah Z Z (Yv 3 Z) Z<|fD O (.dz (.dz (.there (.there .here)))) Z Z (aL Z Z hO88.leaf.1 O.cF.cF.pop.pop.g0 (m:=1) B Z (lb Z) (aj hO88.leaf.2 aC) (cells':=[_,_,_,_,_]) Z) Z (fun V O=>?_);refine⟨aY,?_⟩;refine a8<|aD<|XK 4 Z ?_;replace O:=O.pull (.dz (.dz (.there (.there (.there<|bu.here (X:=[_]))))));rw[za_] at O;replace O:=O.pull (.there (.dz (.dz (.there (.there<|bu.here (X:=[_]))))));rw[za_] at O;replace O:=O.pull (.there (.there (.dz<|bu.here (X:=bM))));replace O:=O.pull (.dz (.there (.there<|bu.here (X:=bR))));replace O:=O.pull (.dz (.dz (.there (.there (.there<|bu.here (X:=[_]))))));rw[za_] at O;replace O:=O.pull (.there (.dz (.dz (.there (.there<|bu.here (X:=[_]))))));rw[za_] at O;have O:=O.pop;have O:=O.pop;refine aJ ⟨bt-1,(by have:=aS N;omega),oF,k2+1,K4,_,_,bM,bR,(by have:=aS N;omega),KP.le_trans hK3 a9,(by rw[JH u Q aE,List.map_append];exact hO80),(by rw[JH u Q aE,List.map_append];show cO 1 57 _ (_++[Ii init threads (⟨.ofNat (i2+1),.ofNat k2⟩,a3)]) _ _;rw[<-Hj ab bF,ab];exact hO88),cI (a6 (by have:=aS N;have:=W _ (gB_ u);omega)),O⟩
   refine aH<|aD<|XK 4 Z ?_;replace O:=O.pull (.there (.dz (.dz (.there<|bu.here (X:=[_])))));rw[za_] at O;replace O:=O.pull (.there (.there (.dz (.dz<|bu.here (X:=[_])))));rw[za_] at O;replace O:=O.pull (.there (.there (.there (.dz<|bu.here (X:=M4)))));replace O:=O.pull (.dz (.there (.there (.there<|bu.here (X:=M5)))));replace O:=O.pull (.dz (.dz (.there (.there<|bu.here (X:=[_])))));rw[za_] at O;have O:=O.pop;refine aJ ⟨bt-1,(by have:=aS N;omega),oF,k2+1,K3,u4,u5,M4,M5,(by have:=aS N;omega),hK3,(by rw[OZ u Q aE];exact hR4),(by rw[OZ u Q aE];exact hS4),cI (a6 (by have:=aS N;have:=W _ (gB_ u);omega)),O⟩
  refine Wl 3 Z<|aQ<|aD<|XK 4 Z<|aJ ⟨ca-1,(by have:=aS ac;omega),oF,i2+1,K3,u4,u5,M4,M5,(by have:=aS ac;omega),KP.le_trans hK2 hK3,(by rw[<-FI u,show a2.length=k2 by have:=bI N;omega];exact hR4),(by rw[<-FI u,show a2.length=k2 by have:=bI N;omega];exact hS4),cI<|a6 (by have:=aS ac;omega),O⟩
 refine Wl 3 Z<|aQ<|Xb 2 Z<|S Z (YG Z O.cF.cF.g0 Z) Z<|fM O (.dz (.dz (.there .here))) Z (UM Z Z Z O.cF.cF.pop.g0 (m:=5) Z (aj hiA.leaf.2<|aj htA.leaf.2<|aj hR2.leaf.2<|aj hS2.leaf.2<|aj hwA.leaf.2 aC) (cells':=[_,_,_,_,_]) Z) Z (fun V O=>?_);refine Xf 3 Z ?_;rw[JF<|bI ac] at hR2 hS2;replace O:=O.pull (.dz (.dz (.there<|bu.here (X:=[_]))));rw[za_] at O;replace O:=O.pull (.there (.dz (.dz<|bu.here (X:=[_]))));rw[za_] at O;replace O:=O.pull (.there (.there (.dz<|bu.here (X:=M2))));replace O:=O.pull (.dz (.there (.there<|bu.here (X:=M3))));rw[<-lQ_ M3 M2] at O;obtain⟨K5,aq,C,O⟩:=O.bZ (M:=M3++M2);exact dy Z Z O.pop.g0 (m:=5) B Z ⟨K5,_,_,_,KP.le_trans ap<|KP.le_trans hK2 aq,Z,hR2.gB fun e he=>C e (List.mem_append_right _ he),(hS2.jN (R':=RL K5 2 fj) fun _ _ h=>h.mono aq).gB fun e he=>C e (List.mem_append_left _ he),hwA.mono aq fun _ _ h=>h.mono aq,O.pop.pop⟩
variable {bd sa:Code} {vs:List Y} {E bs bt e j:Nat} {M:Own} {tm:PT Y} {bm:Pos} {R:α->List Y->Prop}
theorem Jt {m b:Nat} {c:oY} {l:List α} {cells:List Y} (h3:cells.length=l.length*m) (F:∀(i:Nat) (x:α),l[i]? =some x->R x ((cells.drop (i*m)).take m)) (h5:c= .known l.length∨(c= .upto m/\e=E)) (I:l.length<=1048576) {i:Nat} (hi:i<l.length) {y:α} (hy:R y vs) (hv:vs.length=m):
  cO m E R (l.set i y) (.slice b 0 l.length c) [(b,.row (dp vs cells (i*m)) e false)]:=by
 have hl:i*m+vs.length<=cells.length:=by rw[h3,hv,<-Nat.succ_mul];exact nM_ _ hi
 have u:(cells.take (i*m)).length=i*m:=by rw[lT_];omega
 rw[ju vs cells (i*m) hl];refine .inr ⟨b,c,_,e,by rw[zg_],Z,by rw[zg_,lA_,lA_,u,lD_];omega,fun j z A=>?_,by rw[zg_];exact h5,by rw[zg_];exact I⟩
 by_cases e:i=j
 ·subst e;rw[List.getElem?_set_self hi] at A;cases A;rw[lQ_,List.drop_append,u,Nat.sub_self,List.drop_of_length_le oM,List.nil_append,List.drop_zero,<-hv,List.take_left];exact hy
 rw[List.getElem?_set_ne e] at A;have h7:=F j z A
 have he:((cells.take (i*m)++vs++cells.drop (i*m+vs.length)).drop (j*m)).take m=(cells.drop (j*m)).take m:=by
  refine zf_ fun t=>?_
  rw[List.getElem?_take,List.getElem?_take]
  by_cases C:t<m
  ·rw[if_pos C,if_pos C,List.getElem?_drop,List.getElem?_drop]
   by_cases hj:j<i
   ·have M:j*m+m<=i*m:=by rw[<-Nat.succ_mul];exact nM_ _ hj
    rw[lQ_,gL_ (by rw[u];omega),List.getElem?_take,if_pos oM]
   have M:i*m+m<=j*m:=by rw[<-Nat.succ_mul];exact nM_ _ oM
   rw[lQ_,gR_ (by rw[u];omega),gR_ (by rw[u];omega),u,List.getElem?_drop];congr 1;omega
  rw[if_neg C,if_neg C]
 rw[he];exact h7
theorem tY {m:Nat} {l:List α} {cells:List Y} (h3:cells.length=l.length*m) (u:∀(i:Nat) (x:α),l[i]? =some x->R x ((cells.drop (i*m)).take m)) (A:l.length<=1048576) {i:Nat} (hi:i<l.length) {y:α} (hy:R y vs) (hv:vs.length=m):
  (dp vs cells (i*m)).length=(l.set i y).length*m/\∀(j:Nat) (z:α),(l.set i y)[j]? =some z->R z (((dp vs cells (i*m)).drop (j*m)).take m):=by
 rcases Jt (E:=0) (b:=0) (e:=0) (c:=.known l.length) h3 u (.inl rfl) A hi hy hv with ⟨_,h',_⟩ | ⟨b,c,cells',e',_,C,F,I,_⟩
 ·cases h'
 cases C;exact⟨F,I⟩
theorem cO.cell {m:Nat} {l:List α} {u:Y} (h:cO m E R l u M) (hl:0<l.length):∃(b:Nat) (c:oY) (cells:List Y) (e:Nat),u= .slice b 0 l.length c/\M= [(b,.row cells e false)]/\cells.length=l.length*m/\(∀(i:Nat) (x:α),l[i]? =some x->R x ((cells.drop (i*m)).take m))/\(c= .known l.length∨(c= .upto m/\e=E))/\l.length<=1048576:=by
 rcases h with ⟨rfl,_⟩ | h
 ·cases hl
 exact h
section
variable {P:Program} {G:Cx} {V:D} {K:KP} {L:Own}
theorem KQ {b:Pos} {args:List Y} {R:Y->D->Prop} {m:Nat} {ps:List Nat} {t:PT Y} (O:H V K ((b,eU .ready tm m ps sa bd bm)::L)) (hp:qT m ps args tm=some t)
  (h:Ev P G sa m t V fun e F I=>e= .normal/\∃u A,H I u ((b,eU .ready tm m ps sa bd bm)::A)/\∀M,H M u ((b,eU .busy tm m ps sa bd bm)::A)->Ev P G bd m F M fun e _ N=>e= .normal/\∃C E,H N C ((b,eU .busy tm m ps sa bd bm)::E)/\∀Q,H Q C ((b,eU .ready tm m ps sa bd bm)::E)->R (.bool true) Q):kM P G b args V R:=by
 refine NC O.g0 hp<|h.mono fun e F I ⟨he,u,A,h1,T⟩=>⟨he,h1.get 0 Z,(T _<|h1.nU _).mono fun e _ N ⟨he,C,E,h3,W⟩=>⟨he,h3.get 0 Z,W _<|h3.nU _⟩⟩
end
theorem uL {t:List α->List (List α)×List α} {n i:Nat} {x u:List α} {T:List (List α)×List α} {pre:List (List α)} (hj:1<=j) (hx:(if i<n then J1 (t x).2 (if(n+1)%2=0 then i else 0) n else(t x).2)=u) (A:T=(pre++(pF t n j i x).1,(pF t n j i x).2)):T=((pre++(t x).1)++(pF t n (j-1) (i+1) u).1,(pF t n (j-1) (i+1) u).2):=by
 obtain⟨q,rfl⟩:∃q,j=q+1:=⟨j-1,by omega⟩;rw[A]
 have e:pF t n (q+1) i x=((t x).1++(pF t n q (i+1) u).1,(pF t n q (i+1) u).2):=by
  rw[pF];rw[hx]
 rw[e,lQ_];rfl
theorem R2 {t:List α->List (List α)×List α} {n i:Nat} {x:List α} {T:List (List α)×List α} {pre:List (List α)} (hj:1<=j) (u:T=(pre++(pF t n j i x).1,(pF t n j i x).2)):pre++(t x).1<+:T.1:=by
 obtain⟨q,rfl⟩:∃q,j=q+1:=⟨j-1,by omega⟩;rw[u];refine(List.prefix_append_right_inj _).2 ?_;rw[pF];exact List.prefix_append _ _
theorem J2 {x:List α} {i:Nat} {a b:α} (h1:x[i]? =some a) (u:x[j]? =some b):J1 x i j=(x.set i b).set j a:=by unfold J1;rw[h1,u]
theorem IQ (W:Plain G) {A:KP} {b by_ N:Nat} {u:Y} {T:List (List bV)} (hN:N<=1000) (E:A by_ (.row [.yield b] 125 false)) (F:A bs (.row [u] 57 false)) (aa:A bt (.row [.func 79 [] [.ptr by_ 0,.ptr bs 0,.ptr bt 0]] 45 false))
  {I:KP->List (List bV)->Own->Prop} (X:∀(K:KP) (acc:List (List bV)) (l:List bV) (M L:Own) (V:D),KP.le A K->I K acc L->cO 2 89 fj l u M->l.length=N->(acc++[l])<+:T->H V K (M++L)->kM Tryz.prog G b [u] V fun v V'=>v= .bool true/\∃K' L',KP.le K K'/\I K' (acc++[l]) L'/\H V' K' (M++L'))
  {k:Nat} (hk:k<=1) {K:KP} {acc:List (List bV)} {l:List bV} {L:Own} {V:D} (Q:KP.le A K) (hI:I K acc L) (hO:cO 2 89 fj l u M) (hl:l.length=N) (hp:(acc++[l])<+:T) (O:H V K (M++L)):
  EC G 79 [nI k,.ptr by_ 0,.ptr bs 0,.ptr bt 0] V fun v V'=>v= .bool true/\∃K' L',KP.le K K'/\I K' (acc++[l]) L'/\H V' K' (M++L'):=by
 have hky0:=Q _ _ E;have hks0:=Q _ _ F;refine XD W Tryz.func79 Z<|Xa 12 Z<|aG Z (fun R=>?_) (fun R=>?_)
 ·refine Xb 2 Z<|S Z (Yw Z (O.bJ hky0) Z) Z<|S Z (Yw Z (O.bJ hks0) Z) Z<|Jq Z (Kc Z Z Z) (fun _=>Z) (X K acc l M L _ Q hI hO hl hp O) ?_;rintro _ V ⟨rfl,K1,L1,C,hI1,O⟩;refine Wq 5 Z ?_;exact az Z Z ⟨Z,K1,L1,C,hI1,O⟩
 exact absurd (aS (a:=1) (b:=k)<|dg R) oM
theorem Nc (hG:Plain G) {K0:KP} {b by_ bs bt N:Nat} {u:Y} {T:List (List bV)} (hN:N<=1000) (aq:K0 by_ (.row [.yield b] 125 false)) (am:K0 bs (.row [u] 57 false)) (ao:K0 bt (.row [.func 79 [] [.ptr by_ 0,.ptr bs 0,.ptr bt 0]] 45 false))
  {I:KP->List (List bV)->Own->Prop} (hY:∀(K:KP) (acc:List (List bV)) (l:List bV) (M L:Own) (V:D),KP.le K0 K->I K acc L->cO 2 89 fj l u M->l.length=N->(acc++[l])<+:T->H V K (M++L)->kM Tryz.prog G b [u] V fun v V'=>v= .bool true/\∃K' L',KP.le K K'/\I K' (acc++[l]) L'/\H V' K' (M++L')):
  ∀(k:Nat) (K:KP) (acc:List (List bV)) (l:List bV) (M L:Own) (V:D),k<=N->KP.le K0 K->I K acc L->cO 2 89 fj l u M->l.length=N->(acc++(eN (k-1) l).1)<+:T->H V K (M++L)->
   EC G 79 [nI k,.ptr by_ 0,.ptr bs 0,.ptr bt 0] V fun v V'=>v= .bool true/\∃K' M' L',KP.le K K'/\I K' (acc++(eN (k-1) l).1) L'/\cO 2 89 fj (eN (k-1) l).2 u M'/\(eN (k-1) l).2.length=N/\H V' K' (M'++L')
 | 0,K,acc,l,M,L,V,hk,hK,hI,hO,hl,hp,O=>(IQ hG hN aq am ao hY (k:=0) oM hK hI hO hl hp O).mono fun v V' ⟨h1,K',L',h2,h3,Q⟩=>⟨h1,K',M,L',h2,h3,hO,hl,Q⟩
 | 1,K,acc,l,M,L,V,hk,hK,hI,hO,hl,hp,O=>(IQ hG hN aq am ao hY (k:=1) oM hK hI hO hl hp O).mono fun v V' ⟨h1,K',L',h2,h3,Q⟩=>⟨h1,K',M,L',h2,h3,hO,hl,Q⟩
 | k+2,K,acc,l,M,L,V,hk,hK,hI,hO,hl,hp,O=>by
  have hks0:=hK _ _ am;have hkt0:=hK _ _ ao;refine XD hG Tryz.func79 Z<|Xa 12 Z<|aG Z (fun h9=>?_) (fun h9=>?_)
  ·exact absurd (bI (a:=1) (b:=k+2)<|eb h9) oM
  refine Wj 9 Z (aK (bq ([5,6,7]++rg 14 33) (fun j t V=>∃(i:Nat) (K1:KP) (pre:List (List bV)) (li:List bV) (Mi Li:Own),j+i=k+2/\KP.le K K1/\I K1 (acc++pre) Li/\cO 2 89 fj li u Mi/\li.length=N/\eN (k+1) l=(pre++(pF (eN k) (k+1) j i li).1,(pF (eN k) (k+1) j i li).2)/\t.get 14=some (nI i)/\H V K1 (Mi++Li)) (k+2) ⟨0,K,[],l,M,L,Z,KP.le_refl _,(by rw[zk_];exact hI),hO,hl,(by rw[eN];rfl),Z,O⟩ ?_));clear O;intro j4 t V ar hI;obtain⟨i,K1,pre,li,Mi,Li,a0,hK1,hI1,hO1,ax,hE1,aE,O⟩:=hI;obtain⟨oo,rfl⟩:=ar.q1 aE Z;have hks1:=hK1 _ _ hks0;have hkt1:=hK1 _ _ hkt0;refine Xa 6 Z<|aG Z (fun A=>?_) (fun A=>?_)
  ·refine UY 8 Z (VE 5 Z (S Z (Yw Z (O.bJ hkt1) Z) Z (vQ 1 Z (S Z (aB (v:=nI (k+1)) Z Z<|cI<|gy oM) Z (kw (Yu Z Z Z) (Nc hG hN aq am ao hY (k+1) K1 (acc++pre) li Mi Li _ oM (KP.le_trans hK hK1) hI1 hO1 ax ((show(acc++pre)++(eN k li).1<+:acc++(eN (k+1) l).1 from by rw[lQ_];exact(List.prefix_append_right_inj _).2<|R2 (by have:=aS A;omega) hE1).trans hp) O) ?_)))));rintro _ V ⟨rfl,K2,M2,L2,C,hI2,hO2,F,O⟩;replace hI2:I K2 (acc++pre++(eN k li).1) L2:=hI2;replace hO2:cO 2 89 fj (eN k li).2 u M2:=hO2;replace F:(eN k li).2.length=N:=F;have hks2:=C _ _ hks1;refine S Z (ek Z) Z<|Xd 3 Z<|Wj 15 Z<|aG Z (fun ap=>?_) (fun ap=>?_)
   ·refine Wk 9 Z (S Z (aB (v:=nI (k+1)) Z Z<|cI<|gy oM) Z<|Xd 3 Z<|aG Z (fun E=>?_) (fun E=>?_))
    ·refine aU (l:=[(0,[]),(1,[]),(2,[]),(3,[]),(4,[]),(5,[]),(6,[]),(7,[]),(8,[]),(9,[]),(10,[]),(11,[]),(12,[]),(13,[]),(14,[]),(15,[2]),(16,[]),(17,[])]) B B ?_;have W:i<k+1:=aS E;obtain⟨bb,cc,cells,ee,hu,hM,h3,Q,h5,h6⟩:=hO2.cell oM;subst hM;replace O:H V K2 ((bb,.row cells ee false)::L2):=O;obtain⟨xk,X⟩:=da (show k+1<(eN k li).2.length by omega);obtain⟨xj,aa⟩:=da (show i<(eN k li).2.length by omega);have ab:i<(eN k li).2.length:=by omega
     have ac:k+1<(eN k li).2.length:=by omega
     refine ah Z Z (Yw Z (O.bJ hks2) Z) Z (wQ 1 Z (ah Z Z (Yw Z (O.bJ hks2) Z) Z (wQ 1 Z (ah Z Z (aB (v:=nI (k+1)) Z Z<|cI<|gy oM) Z (ah Z Z (Yw Z (O.bJ hks2) Z) Z (wQ 1 Z (ah Z Z (aB (v:=nI (k+1)) Z Z<|cI<|gy oM) Z<|ah Z Z (dP (e:=89) (m:=2) Z B (congrArg some hu) Z ac) Z<|ah Z Z (bh Z O.g0 (n:=2) (vs:=[.int .i64 xk.bM,.int .i64 xk.index]) B (show 0+(k+1)*2+2<=cells.length by rw[h3];omega) (by rw[nA_];exact Q _ _ X)) Z<|ah Z Z (Yw Z (O.bJ hks2) Z) Z<|wQ 1 Z<|ah Z Z (dP (e:=89) (m:=2) Z B (congrArg some hu) Z ab) Z<|ah Z Z (bh Z O.g0 (n:=2) (vs:=[.int .i64 xj.bM,.int .i64 xj.index]) B (show 0+i*2+2<=cells.length by rw[h3];omega) (by rw[nA_];exact Q _ _ aa)) Z ?_)))))));refine ah Z Z (dP (e:=89) (m:=2) Z B (congrArg some hu) Z ab) Z<|fD O .here Z Z (gW Z Z Z O.g0 (m:=2) B Z (show 0+i*2+2<=cells.length by rw[h3];omega) Z) Z (fun V O=>?_);refine⟨(bx (bC Z Z Z Z Z (Yw Z (O.bJ hks2) Z) (hO2.tx (K:=fun _ _=>False)).dV) aY),?_⟩;rw[nA_] at O;obtain⟨k3,k4⟩:=tY (R:=fj) h3 Q h6 (i:=i) oM (y:=xk) (vs:=[.int .i64 xk.bM,.int .i64 xk.index]) Z Z;refine ah Z Z (dP (e:=89) (m:=2) Z B (congrArg some hu) Z ac) Z<|fD O .here Z Z (gW Z Z Z O.g0 (m:=2) B Z (by rw[k3,zg_];omega) Z) Z (fun V O=>?_);refine⟨aY,?_⟩;rw[nA_] at O;obtain⟨k5,k6⟩:=tY (R:=fj) k3 k4 (by rw[zg_];omega) (i:=k+1) (by rw[zg_];omega) (y:=xj) (vs:=[.int .i64 xj.bM,.int .i64 xj.index]) Z Z;have hO4:cO 2 89 fj (((eN k li).2.set i xk).set (k+1) xj) u [(bb,_)]:=.inr ⟨bb,cc,_,ee,by rw[zg_,zg_];exact hu,Z,k5,k6,by rw[zg_,zg_];exact h5,by rw[zg_,zg_];exact h6⟩;refine a8<|aD<|XK 4 Z ?_;refine aJ ⟨j4-1,(by have:=aS A;omega),oF,i+1,K2,pre++(eN k li).1,((eN k li).2.set i xk).set (k+1) xj,_,L2,(by have:=aS A;omega),KP.le_trans hK1 C,(by rw[<-lQ_];exact hI2),hO4,by rw[zg_,zg_];exact F,uL (by have:=aS A;omega) (by rw[if_pos W,(show(if(k+1+1)%2=0 then i else 0)=i from if_pos (iJ_ (UX (a:=.ofNat ((k+2)%2)) ap)))];exact J2 aa X) hE1,cI<|a6 (by have:=aS A;omega),O⟩
    refine aH<|aD<|XK 4 Z<|aJ ⟨j4-1,(by have:=aS A;omega),oF,i+1,K2,pre++(eN k li).1,(eN k li).2,M2,L2,(by have:=aS A;omega),KP.le_trans hK1 C,(by rw[<-lQ_];exact hI2),hO2,F,uL (by have:=aS A;omega) (if_neg<|Nat.not_lt.2<|bI E) hE1,cI<|a6 (by have:=aS A;omega),O⟩
   refine Wk 6 Z (S Z (aB (v:=nI (k+1)) Z Z<|cI<|gy oM) Z<|Xd 3 Z<|aG Z (fun E=>?_) (fun E=>?_))
   ·refine aU (l:=[(0,[]),(1,[]),(2,[]),(3,[]),(4,[]),(5,[]),(6,[]),(7,[]),(8,[]),(9,[]),(10,[]),(11,[]),(12,[]),(13,[]),(14,[]),(15,[2]),(16,[]),(17,[])]) B B ?_;have W:i<k+1:=aS E;obtain⟨bb,cc,cells,ee,hu,hM,h3,Q,h5,h6⟩:=hO2.cell oM;subst hM;replace O:H V K2 ((bb,.row cells ee false)::L2):=O;obtain⟨xk,X⟩:=da (show k+1<(eN k li).2.length by omega);obtain⟨xj,aa⟩:=da (show 0<(eN k li).2.length by omega);have ab:0<(eN k li).2.length:=by omega
    have ac:k+1<(eN k li).2.length:=by omega
    refine ah Z Z (Yw Z (O.bJ hks2) Z) Z (wQ 1 Z (ah Z Z (Yw Z (O.bJ hks2) Z) Z (wQ 1 Z (ah Z Z (aB (v:=nI (k+1)) Z Z<|cI<|gy oM) Z (ah Z Z (Yw Z (O.bJ hks2) Z) Z (wQ 1 Z (ah Z Z (aB (v:=nI (k+1)) Z Z<|cI<|gy oM) Z<|ah Z Z (dP (e:=89) (m:=2) Z B (congrArg some hu) Z ac) Z<|ah Z Z (bh Z O.g0 (n:=2) (vs:=[.int .i64 xk.bM,.int .i64 xk.index]) B (show 0+(k+1)*2+2<=cells.length by rw[h3];omega) (by rw[nA_];exact Q _ _ X)) Z<|ah Z Z (Yw Z (O.bJ hks2) Z) Z<|wQ 1 Z<|ah Z Z (dP (e:=89) (m:=2) Z B (congrArg some hu) Z ab) Z<|ah Z Z (bh Z O.g0 (n:=2) (vs:=[.int .i64 xj.bM,.int .i64 xj.index]) B (show 0+0*2+2<=cells.length by rw[h3];omega) (by rw[nA_];exact Q _ _ aa)) Z ?_)))))));refine ah Z Z (dP (e:=89) (m:=2) Z B (congrArg some hu) Z ab) Z<|fD O .here Z Z (gW Z Z Z O.g0 (m:=2) B Z (show 0+0*2+2<=cells.length by rw[h3];omega) Z) Z (fun V O=>?_);refine⟨(bx (bC Z Z Z Z Z (Yw Z (O.bJ hks2) Z) (hO2.tx (K:=fun _ _=>False)).dV) aY),?_⟩;rw[nA_] at O;obtain⟨k3,k4⟩:=tY (R:=fj) h3 Q h6 (i:=0) oM (y:=xk) (vs:=[.int .i64 xk.bM,.int .i64 xk.index]) Z Z;refine ah Z Z (dP (e:=89) (m:=2) Z B (congrArg some hu) Z ac) Z<|fD O .here Z Z (gW Z Z Z O.g0 (m:=2) B Z (by rw[k3,zg_];omega) Z) Z (fun V O=>?_);refine⟨aY,?_⟩;rw[nA_] at O;obtain⟨k5,k6⟩:=tY (R:=fj) k3 k4 (by rw[zg_];omega) (i:=k+1) (by rw[zg_];omega) (y:=xj) (vs:=[.int .i64 xj.bM,.int .i64 xj.index]) Z Z;have hO4:cO 2 89 fj (((eN k li).2.set 0 xk).set (k+1) xj) u [(bb,_)]:=.inr ⟨bb,cc,_,ee,by rw[zg_,zg_];exact hu,Z,k5,k6,by rw[zg_,zg_];exact h5,by rw[zg_,zg_];exact h6⟩;refine a8<|aD<|XK 4 Z ?_;refine aJ ⟨j4-1,(by have:=aS A;omega),oF,i+1,K2,pre++(eN k li).1,((eN k li).2.set 0 xk).set (k+1) xj,_,L2,(by have:=aS A;omega),KP.le_trans hK1 C,(by rw[<-lQ_];exact hI2),hO4,by rw[zg_,zg_];exact F,uL (by have:=aS A;omega) (by rw[if_pos W,(show(if(k+1+1)%2=0 then i else 0)=0 from if_neg fun h=>by rw[show bD (Int.tmod (.ofNat (k+2)) 2) 0=bD (.ofNat ((k+2)%2)) 0 from Z,h] at ap;exact Bool.noConfusion (show true=false from ap))];exact J2 aa X) hE1,cI<|a6 (by have:=aS A;omega),O⟩
   refine aH<|aD<|XK 4 Z<|aJ ⟨j4-1,(by have:=aS A;omega),oF,i+1,K2,pre++(eN k li).1,(eN k li).2,M2,L2,(by have:=aS A;omega),KP.le_trans hK1 C,(by rw[<-lQ_];exact hI2),hO2,F,uL (by have:=aS A;omega) (if_neg<|Nat.not_lt.2<|bI E) hE1,cI<|a6 (by have:=aS A;omega),O⟩
  refine Wl 3 Z<|aQ<|XN 6 Z ?_;obtain rfl:j4=0:=by have:=bI A;omega
  have e1:(eN (k+1) l).1=pre:=by rw[hE1];exact zk_ _
  have e2:(eN (k+1) l).2=li:=by rw[hE1];rfl
  exact az Z Z ⟨Z,K1,Mi,Li,hK1,(show I K1 (acc++(eN (k+1) l).1) Li from by rw[e1];exact hI1),(show cO 2 89 fj (eN (k+1) l).2 u Mi from by rw[e2];exact hO1),(show(eN (k+1) l).2.length=N from by rw[e2];exact ax),O⟩
theorem Na (A:Plain G) {v:Y} (hv:cE v=some [v]/\eX v=true) (O:H V K L):
  EC G 43 [v] V fun u V'=>∃K' bl,KP.le K K'/\K' bl (.row [v] 57 false)/\u= .func 77 [] [.ptr bl 0]/\H V' K' L:=by
 refine XD A Tryz.func43 Z<|Xb 2 Z<|kb O (cL Z hv.1) (fun V C O=>?_);refine Xf 10 Z ?_;exact az Z Z (let ⟨E,h1,F,h3⟩:=H.bZ (M:=[_]) O;⟨E,C,h1,F _ (.head _),Z,h3⟩)
theorem Tu (Q:Plain G) {E:KP} {b bl:Nat} {l:List bV} {vl:Y} (hv:bG E 2 fj l vl) (hN:l.length<=1000) (R:E bl (.row [vl] 57 false)) {I:KP->List (List bV)->Own->Prop}
  (hY:∀(u:Y) (K:KP) (acc:List (List bV)) (l2:List bV) (M L:Own) (V:D),KP.le E K->I K acc L->cO 2 89 fj l2 u M->l2.length=l.length->(acc++[l2])<+:fS l->H V K (M++L)->kM Tryz.prog G b [u] V fun v V'=>v= .bool true/\∃K' L',KP.le K K'/\I K' (acc++[l2]) L'/\H V' K' (M++L'))
  {L:Own} (W:∀K,KP.le E K->I K [] L) {V:D} (O:H V E L):
  EC G 77 [.yield b,.ptr bl 0] V fun _ V'=>∃K' L',KP.le E K'/\I K' (fS l) L'/\H V' K' L':=by
 refine XD Q Tryz.func77 Z<|Xb 2 Z<|kb O (cL Z Z) (fun V b1 O=>?_);refine Wo 4 Z<|S Z (Yw Z (O.bJ R) Z) Z<|kw (Yu Z Z Z) (Gc Q hv oM O) ?_;rintro u6 V ⟨M6,hM6,O⟩;refine kb O (Yy (cs:=[.aw])) (fun V b2 O=>?_);refine fM O .here Z (aL Z Z hM6.leaf.1 O.g0 (m:=1) B Z (lb Z) (aj hM6.leaf.2 aC) (cells':=[_]) Z) Z (fun V O=>?_);refine Wo 4 Z<|kb O (Yy (cs:=[.nilFunc])) (fun V b3 O=>?_);refine Wo 5 Z<|ks O (UM Z Z Z O.g0 (m:=1) Z Z (cells':=[_]) Z) (fun V O=>?_);refine Xe 3 Z<|XS O 2 [0,1] Z Z<|S Z (D6 hM6 Z Z Z (e:=89) B Z) Z ?_;replace O:=O.pull (.there (.there<|bu.here (X:=M6)));replace O:=O.pull (.dz (.there (.there<|bu.here (X:=[_]))));rw[za_] at O;replace O:=O.pull (.there (.dz (.there<|bu.here (X:=[_]))));rw[za_] at O;replace O:=O.pull (.there (.there (.dz<|bu.here (X:=[_]))));rw[za_] at O;obtain⟨K1,A,C,O⟩:=O.bZ (M:=[_,_,_]);refine kw (Yu Z Z Z) (Nc Q (N:=l.length) hN (C _ (.tail _ (.tail _ (.head _)))) (C _ (.tail _ (.head _))) (C _ (.head _)) (I:=I) (T:=fS l) (fun K acc l2 M L V hK W hO hl hp O=>hY u6 K acc l2 M L V (KP.le_trans A hK) W hO hl hp O) l.length K1 [] l M6 L _ (nR_ _) (KP.le_refl _) (W K1 A) hM6 Z (List.prefix_refl _) O) ?_;rintro _ V ⟨rfl,K2,M2,L2,F,hI2,hO2,aa,O⟩;refine ae ?_;exact nk Z ⟨K2,L2,KP.le_trans A F,hI2,O.cF⟩
def jC (R:Rn):Nat->Rn
 | 0=>R
 | k+1=>fun i j=>jC R k i j || (jC R k i k && jC R k k j)
section
variable {n:Nat} {R:Rn}
theorem UJ {k i:Nat} (h:R i j=true):jC R k i j=true:=by
 induction k with
 | zero=>exact h
 | succ k ih=>show(jC R k i j || _)=true;rw[ih];rfl
theorem Gj {k i:Nat}:jC R (k+1) i j=true↔jC R k i j=true∨(jC R k i k=true/\jC R k k j=true):=by
 show(jC R k i j || (jC R k i k && jC R k k j))=true↔_;rw[Bool.or_eq_true,bA_]
theorem D1:∀{k i j:Nat},k<=n->i<n->j<n->jC R k i j=true->Tc n R i j
 | 0,_,_,_,hi,hj,h=>.one hi hj h
 | k+1,i,j,hk,hi,hj,h=>by
  rcases Gj.1 h with h | ⟨h1,u⟩
  ·exact D1 oM hi hj h
  exact .step (D1 oM hi oM h1)<|D1 oM oM hj u
theorem vm:∀{k m i j:Nat},m<k->jC R k i m=true->jC R k m j=true->jC R k i j=true
 | 0,m,_,_,hm,_,_=>absurd hm (nZ_ _)
 | k+1,m,i,j,hm,h1,u=>by
  rw[Gj] at h1 u⊢
  by_cases e:m=k
  ·subst e;refine .inr ⟨?_,?_⟩
   ·rcases h1 with h | ⟨h,_⟩<;>exact h
   rcases u with h | ⟨_,h⟩<;>exact h
  have A:m<k:=by omega
  rcases h1 with h1 | ⟨h1,E⟩<;>rcases u with u | ⟨u,C⟩
  ·exact .inl<|vm A h1 u
  ·exact .inr ⟨vm A h1 u,C⟩
  ·exact .inr ⟨h1,vm A E u⟩
  exact .inr ⟨h1,C⟩
theorem Sx {i:Nat} (hi:i<n) (hj:j<n):jC R n i j=oX n R i j:=by
 rw[zd_,jS];refine⟨fun h=>D1 (nR_ _) hi hj h,fun h=>?_⟩;clear hi hj;induction h with
 | one hi hj h=>exact UJ h
 | step h1 h2 u A=>exact vm h1.lt.2 u A
theorem PU:cy n (jC R n)=cy n (oX n R):=dL fun i j hi hj=>Sx hi hj
def ik (R:Rn) (k i:Nat):Rn:=fun a b=>bif decide (a<i) then jC R (k+1) a b else jC R k a b
theorem MC {k:Nat}:ik R k 0=jC R k:=by
 funext a b;unfold ik;rw[decide_eq_false<|nZ_ _];rfl
theorem PS {k:Nat}:cy n (ik R k n)=cy n (jC R (k+1)):=dL fun i j hi _=>by
 unfold ik;rw[decide_eq_true hi];rfl
theorem PV {k b:Nat}:jC R (k+1) k b=jC R k k b:=by
 show(jC R k k b || (jC R k k k && jC R k k b))=_;cases jC R k k b<;>simp
theorem Sw {k i b:Nat}:ik R k i k b=jC R k k b:=by
 unfold ik;cases decide (k<i) with
 | true=>exact PV
 | false=>rfl
theorem CC {k i a b:Nat}:ik R k (i+1) a b=bif decide (a=i) then(ik R k i i b || (ik R k i i k && ik R k i k b)) else ik R k i a b:=by
 by_cases e:a=i
 ·subst e;rw[decide_eq_true Z,Sw];unfold ik;rw[decide_eq_true<|Nat.lt_succ_self a,decide_eq_false<|Nat.lt_irrefl a];rfl
 rw[decide_eq_false e];unfold ik
 by_cases h:a<i
 ·rw[decide_eq_true h,decide_eq_true oM];rfl
 rw[decide_eq_false h,decide_eq_false oM];rfl
end
variable {P:Program}
theorem UB {k:Bool} {ty:TypeId} {n:Nat} (h:n<64):pV P k .sub ty (.int .u64 (.ofNat (2 ^ n))) (.int .u64 1)=some (.int .u64 (.ofNat (2 ^ n-1))):=by
 have h1:1<=2 ^ n:=Nat.one_le_two_pow;have h2:(2:Nat) ^ n<2 ^ 64:=Nat.pow_lt_pow_right oM h
 have:wr .u64 (Int.sub (.ofNat (2 ^ n)) 1)= .ofNat (2 ^ n-1):=by
  have e:Int.sub (.ofNat (2 ^ n)) 1= .ofNat (2 ^ n-1):=by
   show((2 ^ n:Nat):Int)-1=((2 ^ n-1:Nat):Int);omega
  rw[e];exact V7 oM
 cases k<;>exact congrArg (fun z=>some (Y.int .u64 z)) this
theorem VY {k:Bool} {ty:TypeId} {n x:Nat} (h:n<64) (hx:x<2 ^ n):pV P k .andNot ty (.int .u64 (.ofNat x)) (.int .u64 (.ofNat (2 ^ n-1)))=some (.int .u64 (.ofNat 0)):=by
 have h2:(2:Nat) ^ n<2 ^ 64:=Nat.pow_lt_pow_right oM h
 have e:(BitVec.ofInt 64 (.ofNat x) &&& ~~~(BitVec.ofInt 64 (.ofNat (2 ^ n-1))))=0#64:=by
  refine BitVec.eq_of_getLsbD_eq fun i hi=>?_
  rw[BitVec.getLsbD_and,BitVec.getLsbD_not,show BitVec.ofInt 64 (.ofNat x)=BitVec.ofNat 64 x from BitVec.ofInt_natCast ..,show BitVec.ofInt 64 (.ofNat (2 ^ n-1))=BitVec.ofNat 64 (2 ^ n-1) from BitVec.ofInt_natCast ..,BitVec.getLsbD_ofNat,BitVec.getLsbD_ofNat,Nat.testBit_two_pow_sub_one]
  by_cases u:i<n
  ·simp[hi,u]
  have:x.testBit i=false:=Nat.testBit_lt_two_pow (zh_ hx<|Nat.pow_le_pow_right oM oM);simp[hi,this]
 have:IntKind.u64.wrap (((BitVec.ofInt 64 (.ofNat x) &&& ~~~(BitVec.ofInt 64 (.ofNat (2 ^ n-1)))).toNat:Nat):Int)= .ofNat 0:=by
  rw[e];rfl
 cases k<;>exact congrArg (fun z=>some (Y.int .u64 z)) this
theorem Ue (u:Plain G) {n:Nat} (hn:n<64) (O:H V K L):
  Ca G K L 199 [nI n] V <| .int .u64 (.ofNat (2 ^ n-1)):=by
 refine XD u Tryz.func199 Z (Xb 8 Z (S Z (lY (j:=n) oM B B B Z) Z (S Z (aB (v:=.int .u64 (.ofNat (2 ^ n))) Z Z<|J5 hn) Z (S Z (aB (v:=.int .u64 (.ofNat (2 ^ n-1))) Z Z<|UB hn) Z<|Xf 4 Z ?_))));exact az Z Z ⟨Z,O⟩
theorem Jv (N:Plain G) {n:Nat} (hn:n<64) {R:Rn} {v:Y} (h:bG K 1 RU (cy n R) v) (O:H V K L):
  Ca G K L 172 [.agg [nI n,v]] V <| .int .i64 0:=by
 have hlen:=cP n R;refine XD N Tryz.func172 Z<|Xb 2 Z<|kb O (cL Z Z) (fun V b1 O=>?_);refine VF O 9 [0,0] Z Z<|ky Z (an Z) (fun Q=>?_) (fun Q=>?_)
 ·exact Bool.noConfusion (show false=true from Q)
 refine XS O 4 [0,0] Z Z<|ky Z (an Z) (fun A=>?_) (fun A=>?_)
 ·exact absurd (aS (a:=64) (b:=n) A) oM
 refine XS O 2 [1,0] Z Z<|S Z (Yx h Z Z Z (e:=138) Z) Z<|XS O 4 [0,0] Z Z<|Xd 2 Z<|aG Z (fun C=>?_) (fun C=>?_)
 ·exact absurd C (by rw[hlen,kY];decide)
 refine VD 5 Z<|XS O 2 [1,0] Z Z<|S Z (Yx h Z Z Z (e:=138) Z) Z<|Wm 4 Z ?_;obtain⟨LL1,O,hLL1⟩:=O.named;refine bq ([2,4]++rg 24 11) (fun j t V=>∃(i:Nat),j+i=(cy n R).length/\t.get 24=some (nI i)/\H V K LL1) ((cy n R).length) ⟨0,Z,Z,O⟩ ?_;clear O;intro T t V ar W;obtain⟨i,ac,E,O⟩:=W;subst hLL1;obtain⟨oo,rfl⟩:=ar.q1 E Z;refine Xa 6 Z<|aG Z (fun u=>?_) (fun u=>?_)
 ·refine UY 6 Z ?_;have M:i<n:=by have:=aS u;omega
  refine Yp (e:=138) (m:=1) h (fG M) Z Z Z Z (fun am aa F ab I=>?_);obtain rfl:=I;refine S Z (Yz O F Z Z) Z<|Wu O 8 [0,0] Z Z<|kx (Yu Z Z Z) (Ue N hn O) (fun V O=>?_);refine S Z (aB (v:=.int .u64 (.ofNat 0)) Z Z<|VY hn<|Es _ _) Z<|S Z (aB (v:=.bool false) Z Z (Z)) Z<|Wp 5 Z<|XK 4 Z ?_;have hlp:=aS u;refine aJ ⟨T-1,by omega,oF,i+1,by omega,cI<|a6 oM,O⟩
 refine Wl 3 Z<|aQ<|XN 6 Z ?_;exact az Z Z ⟨Z,O.pop⟩
theorem HK (C:Plain G) {n:Nat} (hn:n<64) (O:H V K L):
  EC G 187 [nI n] V fun u V'=>∃b,u= .agg [nI n,.slice b 0 n (.known n)]/\H V' K ((b,.row ((cy n fun _ _=>false).map gU) 138 false)::L):=by
 refine XD C Tryz.func187 Z<|Xb 2 Z<|kb O (Yy (cs:=[iZ,.aw])) (fun V b1 O=>?_);refine VE 7 Z<|ky Z (an Z) (fun h5=>?_) (fun h5=>?_)
 ·exact Bool.noConfusion (show false=true from h5)
 refine Xd 5 Z<|aG Z (fun A=>?_) (fun A=>?_)
 ·exact absurd (aS (a:=64) (b:=n) A) oM
 refine Wk 6 Z<|gE O Z (gT (e:=138) (w:=8) (z:=[gU 0]) B B B B Z Z oM oM) (fun _=>Z) (fun V E O=>?_);rw[gp (f:=gU)] at O;refine S Z (Yt (places:=[(0,1),(1,1)]) (zero:=[iZ,.aw]) (cs:=[_,_]) Z) Z<|gF O Z (YB Z Z Z O.g1 Z) Z (fun V O=>?_);refine Xf 3 Z ?_;rw[Ae] at O;exact dy Z Z O.g1 (m:=2) B Z ⟨E,Z,O.sub (.cons_cons _ (.cons _ (.refl _)))⟩
theorem RE (X:Plain G) {n:Nat} (hn:n<64) {l:List Rn} {v:Y} (u:bG K 2 (US K n) l v) (hp:0<l.length) (O:H V K L):
  Ca G K L 186 [v] V <| .bool true:=by
 obtain⟨x0,h0x⟩:=da hp;refine XD X Tryz.func186 Z<|Wi 9 Z<|S Z (Yx u Z Z Z (e:=165) Z) Z<|Wm 4 Z ?_;obtain⟨LL1,O,hLL1⟩:=O.named;refine bq ([2,4]++rg 7 17) (fun j t V=>∃(i:Nat),j+i=l.length/\t.get 7=some (nI i)/\H V K LL1) (l.length) ⟨0,Z,Z,O⟩ ?_;clear O;intro j2 t V ar hI;obtain⟨i,am,N,O⟩:=hI;subst hLL1;obtain⟨oo,rfl⟩:=ar.q1 N Z;refine Xa 6 Z<|aG Z (fun Q=>?_) (fun Q=>?_)
 ·refine UY 6 Z ?_;obtain⟨x9,R,ao⟩:=dh Q;refine Yp (e:=165) (m:=2) u R Z Z Z Z (fun p9 ap T aq W=>?_);have hr9':=W;obtain⟨v9,rfl,A⟩:=hr9';refine S Z (YA O T Z Z) Z<|kb O (Yy (cs:=[iZ,.aw])) (fun V b1 O=>?_);refine ks O (UM Z Z Z O.g0 (m:=2) Z (aj Z<|aj A.leaf.2 aC) (cells':=[_,_]) Z) (fun V O=>?_);refine Wn 3 Z<|aU (l:=zp [0,1,2,3,4,5,6,7,8,9,10,11]) B B<|ah Z Z (YE Z O.g0 Z) Z<|dO Z Z (Yu Z Z Z) (fun _=>Z) (Jv X hn A O) (fun V O=>?_);refine⟨aY,?_⟩;refine wQ 1 Z<|gO Z Z (an Z) (fun _=>Z) (fun C=>?_) (fun C=>?_)
  ·exact absurd C (by decide)
  refine XT O 3 [0,0] Z Z<|Yq (e:=165) (m:=2) u h0x Z Z Z Z Z (fun ax aa E ab F=>?_);have hr18':=F;obtain⟨aE,rfl,ac⟩:=hr18';refine fb E Z Z Z Z (k:=0) B (lb Z) (fun _=>Z) (fun a0 I=>?_);refine ah Z Z (Yz O I Z Z) Z<|Xg 4 Z<|aG Z (fun M=>?_) (fun M=>?_)
  ·exact absurd M (by rw[kY];decide)
  refine aH<|aD<|XK 4 Z ?_;have O:=O.pop;have hlp:=aS Q;refine aJ ⟨j2-1,by omega,oF,i+1,by omega,cI<|a6 (by have:=u.cQ;omega),O⟩
 refine Wl 3 Z<|aQ<|Xb 3 Z<|S Z (Yx u Z Z Z (e:=165) Z) Z<|Xf 5 Z ?_;exact az Z Z ⟨cB (show Nat.ble 1 l.length=true by rw[nE_];exact hp),O⟩
theorem RC (hG:Plain G) {n:Nat} (hn:n<64) {l:List Rn} {v:Y} (N:bG K 2 (US K n) l v) (hp:0<l.length) (O:H V K L):
  EC G 168 [v] V fun u V'=>∃b,u= .agg [nI n,.slice b 0 n (.known n)]/\H V' K ((b,.row ((cy n<|nu l).map gU) 138 false)::L):=by
 obtain⟨x0,h0x⟩:=da hp;refine XD hG Tryz.func168 Z<|Xb 2 Z<|kb O (Yy (cs:=[iZ,.aw])) (fun V b1 O=>?_);refine VE 6 Z<|kx (Yu Z Z Z) (RE hG hn N hp O) (fun V O=>?_);refine S Z (ek Z) Z<|Xd 3 Z<|Wk 5 Z<|Yp (e:=165) (m:=2) N h0x Z Z Z Z (fun bb a0 Q a1 T=>?_);have hr13':=T;obtain⟨bc,rfl,a2⟩:=hr13';refine bU Q Z Z Z (k:=0) B (lb Z) (fun _=>Z) (fun bd W=>?_);refine S Z (Yz O W Z Z) Z<|kw (Yu Z Z Z) (HK hG hn O) ?_;rintro _ V ⟨X,rfl,O⟩;refine kb O (Yy (cs:=[iZ,.aw])) (fun V b3 O=>?_);refine ks O (YB Z Z Z O.g0 Z) (fun V O=>?_);refine VE 6 Z<|S Z (Yx N Z Z Z (e:=165) Z) Z ?_;rw[<-Ry (l:=l)] at O;refine Wm 4 Z (bq ([5,6,7]++rg 19 22) (fun j t V=>∃(k:Nat),j+k=l.length/\t.get 19=some (nI k)/\H V K ((b3,.row [nI n,.slice X 0 n (.known n)] 165 false)::(X,.row ((cy n<|nu<|l.take k).map gU) 138 false)::(b1,.row [iZ,.aw] 165 false)::L)) (l.length) ⟨0,Z,Z,O⟩ ?_);clear O;intro j5 t V ar hI;obtain⟨k,be,aa,O⟩:=hI;obtain⟨oo,rfl⟩:=ar.q1 aa Z;refine Xa 6 Z<|aG Z (fun F=>?_) (fun F=>?_)
 ·refine UY 6 Z ?_;obtain⟨A,M,a3⟩:=dh F;refine Yp (e:=165) (m:=2) N M Z Z Z Z (fun bf a4 ab a5 ac=>?_);have hr21':=ac;obtain⟨aq,rfl,C⟩:=hr21';refine S Z (YA O ab Z Z) Z<|kb O (Yy (cs:=[iZ,.aw])) (fun V b4 O=>?_);refine ks O (UM Z Z Z O.g0 (m:=2) Z (aj Z<|aj C.leaf.2 aC) (cells':=[_,_]) Z) (fun V O=>?_);refine Wu O 6 [1,0] Z Z<|S Z (Yx C Z Z Z (e:=138) Z) Z ?_;have hR:=M;rw[<-OF (R:=A)] at O;refine Wm 4 Z (bq ([6,7]++rg 26 14) (fun j t V=>∃(i:Nat),j+i=(cy n A).length/\t.get 26=some (nI i)/\H V K ((b4,.row [nI n,aq] 165 false)::(b3,.row [nI n,.slice X 0 n (.known n)] 165 false)::(X,.row ((cy n<|LD (nu<|l.take k) A i).map gU) 138 false)::(b1,.row [iZ,.aw] 165 false)::L)) ((cy n A).length) ⟨0,Z,Z,O⟩ ?_);clear O;intro j8 t V ar hI;obtain⟨i,bg,am,O⟩:=hI;obtain⟨oo,rfl⟩:=ar.q1 am Z;refine Xa 6 Z<|aG Z (fun I=>?_) (fun I=>?_)
  ·refine UY 7 Z ?_;have E:i<n:=by have:=aS I;rw[cP] at this;exact this
   refine Yp (e:=138) (m:=1) C (fG E) Z Z Z Z (fun bi a9 ao ba ap=>?_);obtain rfl:=ap;refine S Z (Yz O ao Z Z) Z (Xe 5 Z (XS O 3 [1,1] Z Z (S Z (dP (e:=138) (m:=1) B B Z Z E) Z (S Z (av Z (O.get 2 Z) B<|gM (fG E) (by first | omega | rfl)) Z (vQ 1 Z (S Z (aB (v:=.int .u64 (.ofNat<|bN n ((LD (nu<|l.take k) A i) i) ||| bN n (A i))) Z Z<|Iq (dG oM _)<|dG oM _) Z<|S Z (dP (e:=138) (m:=1) B B Z Z E) Z ?_))))));refine fM O (.there (.there .here)) Z (aL Z Z Z (O.get 2 Z) (m:=1) B Z (by rw[lM_];rw[cP];omega) Z (cells':=((cy n ((LD (nu<|l.take k) A i))).set i<|bN n ((LD (nu<|l.take k) A i) i) ||| bN n (A i)).map (gU)) (ei (f:=gU) (v:=(bN n ((LD (nu<|l.take k) A i) i) ||| bN n (A i))) (by rw[cP];exact E) (by first | omega | rfl))) Z (fun V O=>?_);rw[Rz] at O;refine ae<|aD<|XK 4 Z ?_;have hlp:=aS I;refine aJ ⟨j8-1,by omega,oF,i+1,by omega,cI<|a6 oM,O⟩
  refine Wl 3 Z<|aQ<|aD<|XK 4 Z ?_;have O:=O.pop;have hlp:=aS F;have ax:i=n:=by have:=bI I;rw[cP] at*;omega
  subst ax;rw[OE hR] at O;refine aJ ⟨j5-1,by omega,oF,k+1,by omega,cI<|a6 (by have:=N.cQ;omega),O⟩
 refine Wl 3 Z<|aQ<|Xb 2 Z<|S Z (YE Z O.g0 Z) Z<|pz O Z (YB Z Z Z (O.get 2 Z) Z) Z (fun V O=>?_);refine Xf 3 Z ?_;have aE:l.take k=l:=tL_ (bI F);rw[aE] at O;exact dy Z Z (O.get 2 Z) (m:=2) B Z ⟨X,Z,O.sub (.cons _ (.cons_cons _ (.cons _ (.refl _))))⟩
def qq (g:XG) (w:Nat):Bool:=bif bQ (fc g w) then bT (bD (fc g w).order 1) else false
def ot (g:XG) (w b:Nat):Bool:=bif dq (fc g b) then(bif bD (fc g b).order 1 then false else wc g w (gu g b).toNat) else false
def mr (g:XG) (w r:Nat):Bool:=bif uJ g r then(bif bD (.ofNat r) (.ofNat w) then true else bif bD (fc g r).kind 4 then nO g r w else false) else false
def By (g:XG) (b a:Nat):Bool:=bif xr g a then(bif bD (.ofNat a) (.ofNat b) then true else bif bD (fc g a).kind 4 then nO g b a else false) else false
def yZ {α:Type} (c:Nat->Bool) (f:Nat->List α):Nat->List α
 | 0=>[]
 | k+1=>yZ c f k++(bif c k then f k else [])
def l4 (g:XG) (b r k:Nat):List (Nat×Nat):=yZ (By g b) (fun a=>[(r,a)]) k
def l3 (g:XG) (w b k:Nat):List (Nat×Nat):=yZ (mr g w) (fun r=>l4 g b r (nV g)) k
def l2 (g:XG) (w k:Nat):List (Nat×Nat):=yZ (ot g w) (fun b=>l3 g w b (nV g)) k
def l1 (g:XG) (k:Nat):List (Nat×Nat):=yZ (qq g) (fun w=>l2 g w (nV g)) k
theorem jm {α:Type} {c:Nat->Bool} {f:Nat->List α} {x:α}:∀{k:Nat},x∈yZ c f k↔∃i,i<k/\c i=true/\x∈f i
 | 0=>⟨(fun h=>by cases h),fun⟨i,h,_⟩=>absurd h<|nZ_ _⟩
 | k+1=>by
  unfold yZ;rw[List.mem_append,jm (k:=k)];constructor
  ·rintro (⟨i,h1,u,h3⟩ | h)
   ·exact⟨i,by omega,u,h3⟩
   cases hc:c k with
   | false=>rw[hc] at h;cases h
   | true=>rw[hc] at h;exact⟨k,by omega,hc,h⟩
  rintro ⟨i,h1,u,h3⟩;rcases Nat.lt_or_ge i k with h | h
  ·exact .inl ⟨i,h,u,h3⟩
  obtain rfl:i=k:=by omega
  exact .inr (by rw[u];exact h3)
def xX (g:XG):Rn:=Gv (l1 g<|nV g)
theorem J0 {g:XG} {r a:Nat}:xX g r a=true↔∃w b,w<nV g/\b<nV g/\r<nV g/\a<nV g/\qq g w=true/\ot g w b=true/\mr g w r=true/\By g b a=true:=by
 unfold xX;rw[Jr];unfold l1;rw[jm];constructor
 ·rintro ⟨w,hw,cw,h⟩;obtain⟨b,hb,cb,h⟩:=jm.1 h;obtain⟨r',u,cr,h⟩:=jm.1 h;obtain⟨a',A,ca,h⟩:=jm.1 h;cases List.mem_singleton.1 h;exact⟨w,b,hw,hb,u,A,cw,cb,cr,ca⟩
 rintro ⟨w,b,hw,hb,u,A,cw,cb,cr,ca⟩;exact⟨w,hw,cw,jm.2 ⟨b,hb,cb,jm.2 ⟨r,u,cr,jm.2 ⟨a,A,ca,List.mem_singleton.2 Z⟩⟩⟩⟩
section
variable {g:XG} {w b r a:Nat} {X Y0 Zv:List (Nat×Nat)}
end
def tE (g:XG) (id:bV):Int:=bif (gf g id).isSome then(bif bQ (xw<|gf g id) then fK (fun x:bV=>dv x.ints id.ints) (lX g (xw<|gf g id).loc) 0 else-1) else-1
def QG (g:XG) (id:bV):Bool:=bif bD id.bM 0 then false else bif bT (bD (xw<|gf g id).kind 3) then false else bT (bD (tE g id)<|wr .i64<|Int.add (tE g<|Qm g id) 1)
def Ms (g:XG):Int:=fK (QG g) (jY g) 0
def q7 (n:Nat) (R:Rn):Int:=fK (fun i=>oX n R i i) (List.range n) 0
def KG (g:XG):Rn:=oX (nV g) (nu [vp g,xJ g,AF g])
def Cm (g:XG):Rn:=oX (nV g) (nu [nO g,vp g])
def Lf (g:XG):Rn:=oX (nV g) (nu [nO g,xX g])
def vz (g:XG):Rn:=nu [nO g,vp g,xJ g,AF g]
def GV (g:XG):Bool:=(tC (nV g)<|Tq (Lf g)<|PG<|KG g).any fun p=>bT (bD (.ofNat p.1) (.ofNat p.2))
def fW (g:XG) (x:Int):Bool:=
 bif bD x 2 then bT (cW (Ms g) 0) else bif bD x 3 then bT (cW (q7 (nV g)<|Cm g) 0) else bif bD x 4 then bT (cW (q7 (nV g)<|Lf g) 0) else
 bif bD x 6 then bT (cW (q7 (nV g)<|vz g) 0) else bif bD x 5 then GV g else false
def gP (m:Int):List Int:=bif bD m 1 then [1,2,6] else bif bD m 2 then [1,2,3,4,5] else []
def Bf (m:Int) (g:XG):Bool:=bif bD (.ofNat (gP m).length) 0 then false else bif bD (eu g) 0 then(gP m).any (fW g) else true
theorem oB {α:Type} {p:α->Bool}:∀{l:List α} {i:Nat},cW (fK p l i) 0= !(l.any p)
 | [],_=>rfl
 | x::l,i=>by
  unfold fK;rw[List.any_cons];cases hx:p x with
  | true=>rfl
  | false=>rw[Bool.false_or];exact oB
structure Pm (n:Nat) (p q:Nat->Nat):Prop where
 lt:∀t,t<n->p t<n
 YM:∀t,t<n->q t<n
 qp:∀t,t<n->q (p t)=t
 pq:∀t,t<n->p (q t)=t
section
variable {n:Nat} {p q:Nat->Nat} {g:XG}
theorem Cc (A:eE g) {r:List bV} (C:g.order[ln]? =some r) {x:bV} (hx:x∈r):∃(t k:Nat) (row:List bW) (e:bW),x=⟨.ofNat (t+1),.ofNat k⟩/\g.threads[t]? =some row/\row[k]? =some e/\bQ e=true/\e.loc= .ofNat ln:=by
 have h:(x.ints,Int.ofNat ln)∈sl g.order 0:=oD.2 ⟨ln,r,x,C,hx,Z,by rw[nA_]⟩;obtain⟨t,k,row,e,h1,E,h3,u,h5⟩:=oV.1 (A.perm.mem_iff.2 h);rw[nA_] at u;exact⟨t,k,row,e,qE u,h1,E,h3,h5.symm⟩
end
end Go.Ev
end
