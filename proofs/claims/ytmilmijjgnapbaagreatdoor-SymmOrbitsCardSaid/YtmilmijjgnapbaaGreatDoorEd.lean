/- Part of the proof: an evaluator of the model's code, rules for walks on it, walks. Without conditions. -/
import Derived.Test.YtmilmijjgnapbaaGreatDoorEc
import Derived.Test.YtmilmijjgnapbaaGreatDoorEb
import Derived.Test.YtmilmijjgnapbaaGreatDoorProg
import Derived.KernelRfl
set_option linter.unusedSectionVars false
set_option linter.unusedVariables false
set_option linter.unusedSimpArgs false
noncomputable section
namespace Go.Ev
variable [Env]
theorem ints_at {xs:List Int} {i:Nat} {x:Int} (h:xs[i]? =some x):(ints xs)[i]? =some (.int .i64 x):=by
 unfold ints;simp_all
theorem eX {K:KP} {xs:List Int} {vb e:Nat} (h:K vb (.row (ints xs) e false)) (hn:xs.length<=1000):bI K 1 dG xs (.slice vb 0 xs.length (.known xs.length)):=by
 refine .inr ⟨vb,0,_,_,e,false,Z,.inr ⟨_,Z,nR_ _⟩,h,?_,by omega,fun i x hx=>?_⟩
 ·unfold ints;simp_all
 rw[Nat.mul_one,nA_,cD<|ints_at hx];rfl
theorem gI {α β:Type} {f:α->List β} {b:Nat}:∀{l:List α},(∀x∈l,(f x).length<=b)->(l.flatMap f).length<=l.length*b
 | [],_=>Nat.zero_le _
 | x::l,h=>by
  have h1:=h x (mS_ ..);have h2:=gI (l:=l) fun y hy=>h y (mC_ _ hy)
  rw[List.flatMap_cons,lA_,List.length_cons,Nat.succ_mul];omega
theorem fb {α β:Type} {f:α->List β}:∀{l:List α} {i:Nat} {x:α},l[i]? =some x->(l.take (i+1)).flatMap f=(l.take i).flatMap f++f x
 | [],_,_,h=>by simp at h
 | y::l,0,x,h=>by
  have:y=x:=by simpa using h
  subst this;simp
 | y::l,i+1,x,h=>by
  have h':l[i]? =some x:=by simpa using h
  show(y::l.take (i+1)).flatMap f=(y::l.take i).flatMap f++f x;rw[List.flatMap_cons,List.flatMap_cons,fb h',lQ_]
theorem map_take {α β:Type} {f:α->β} {l:List α} {i:Nat} {x:α} (h:l[i]? =some x):(l.take (i+1)).map f=(l.take i).map f++[f x]:=by
 rw[List.take_add_one,h,List.map_append];rfl
theorem Gg {xs:List Int} {b e E:Nat} (hn:xs.length<=1000):dP 1 E dG xs (.slice b 0 xs.length (.known xs.length)) [(b,.row (ints xs) e false)]:=by
 refine .inr ⟨b,_,_,e,Z,Z,?_,fun i x hx=>?_,.inl Z,by omega⟩
 ·unfold ints;simp_all
 rw[Nat.mul_one,cD<|ints_at hx];rfl
structure L5 (g:XG):Prop where
 t:g.threads.length<=4
 r:∀l∈g.threads,l.length<=14
 f:g.from_.length<=4
 fr:∀l∈g.from_,l.length<=14
 o:g.order.length<=6
 Oc:∀l∈g.order,l.length<=56
 i:g.init.length<=6
theorem Ly {g:XG} (h:cy g=0):L5 g:=by
 obtain⟨d,m,b,u,b5,A,b7⟩:=ig h;exact⟨d,b,by omega,BG A u b,by omega,Bq h,m⟩
theorem NY (e:cq):e.ints.length<=5:=nR_ _
theorem NX (e:cm):e.ints.length<=2:=nR_ _
theorem N5 {g:XG} (h:L5 g) (i:Nat):((g.threads.take i).map fun r=>Int.ofNat r.length).length<=4:=by rw[lM_,lT_];have:=h.t;omega
theorem LI {r:List cq} (h:r.length<=14) (i:Nat):((r.take i).flatMap cq.ints).length<=70:=by
 have h1:=gI (f:=cq.ints) (b:=5) (l:=r.take i) fun x _=>NY x
 grind
theorem LH {g:XG} (h:L5 g) (i:Nat):((g.threads.take i).flatMap fun r=>r.flatMap cq.ints).length<=280:=by
 have h1:=gI (f:=fun r:List cq=>r.flatMap cq.ints) (b:=70) (l:=g.threads.take i) fun x hx=>by
  have:=LI (h.r x<|List.mem_of_mem_take hx) x.length
  simp_all
 have h2:(g.threads.take i).length<=4:=by rw[lT_];have:=h.t;omega
 omega
theorem zm {r:List cm} {b:Nat} (h:r.length<=b) (i:Nat):((r.take i).flatMap cm.ints).length<=b*2:=by
 have h1:=gI (f:=cm.ints) (b:=2) (l:=r.take i) fun x _=>NX x
 grind
theorem oQ {ls:List (List cm)} {n b:Nat} (hn:ls.length<=n) (h:∀l∈ls,l.length<=b) (i:Nat):((ls.take i).flatMap jI).length<=n*(b*2+1):=by
 have h1:=gI (f:=jI) (b:=b*2+1) (l:=ls.take i) fun x hx=>by
  have:=zm (h x<|List.mem_of_mem_take hx) x.length;rw[List.take_length] at this;show(x.flatMap cm.ints).length+1<=_;omega
 have d:(ls.take i).length<=n:=by grind
 have h3:(ls.take i).length*(b*2+1)<=n*(b*2+1):=nM_ _ d;omega
section
variable {V:B} {K:KP} {A M L:Own} {x:Nat×bU}
theorem H.front (h:H V K (A++(M++L))):H V K (M++(A++L)):=h.perm (List.perm_append_comm_assoc A M L)
theorem H.behind (h:H V K (x::(M++L))):H V K (M++x::L):=h.perm List.perm_middle.symm
theorem H.ahead (h:H V K (M++x::L)):H V K (x::(M++L)):=h.perm List.perm_middle
end
theorem Cv.bM {α:Type} {m E:Nat} {R:α->List Y->Prop} {l:List α} {u:Y} {M:Own} (h:Cv m E R l u M):l.length<=1048576:=by
 rcases h with ⟨rfl,_⟩ | ⟨_,_,_,_,_,_,_,_,_,h⟩
 ·exact Nat.zero_le _
 exact h
theorem gX.mono {K K':KP} (hk:KP.le K K'):∀{k:Nat} {x:XE} {vs:List Y},gX K k x vs->gX K' k x vs
 | 0,x,_,h=>by cases x;exact h.elim
 | k+1,.mk _ _ _ _,_,⟨v,h1,b⟩=>⟨v,h1,b.mono hk fun _ _ h=>gX.mono hk h⟩
theorem qP.mono {K K':KP} (hk:KP.le K K') {k:Nat} {x:XI} {vs:List Y} (h:qP K k x vs):qP K' k x vs:=let ⟨v,h1,b⟩:=h;⟨v,h1,b.mono hk fun _ _ h=>h.mono hk⟩
theorem jF.mono {K K':KP} (hk:KP.le K K') {k:Nat} {x:XC} {vs:List Y} (h:jF K k x vs):jF K' k x vs:=let ⟨v,h1,b⟩:=h;⟨v,h1,b.mono hk fun _ _ h=>h.mono hk⟩
theorem ed {α:Type} {P:α->Prop} {a b:α} (c:Bool) (h1:P a) (h0:P b):P (bif c then a else b):=by grind
theorem fW {α:Type} {P:α->Prop} {a b:α} (c:Bool) (h1:c=true->P a) (h0:c=false->P b):P (bif c then a else b):=by grind
theorem gK (a b:List cq):dO (a++b)=dO a++dO b:=by unfold dO;simp_all
theorem x7 {e:cq} (h:dw e=false):dO [e]= []:=by unfold dO;simp_all
theorem wm {e:cq} (h:dw e=true):dO [e]= [e.read]:=by unfold dO;simp_all
theorem Bx {l:List cq} (h:dO l= []):∀e∈l,dw e=false:=by
 intro e he;cases b:dw e with
 | false=>rfl
 | true=>
  have:e.read∈dO l:=List.mem_map_of_mem (List.mem_filter.2 ⟨he,b⟩)
  simp_all
def Grown (s s':TS):Prop:=(∃ext,s'.events=s.events++ext/\dO ext= [])/\s'.asked=s.asked
theorem Grown.refl (s:TS):Grown s s:=⟨⟨[],by simp,Z⟩,Z⟩
theorem Grown.trans {s s' s'':TS} (h:Grown s s') (h':Grown s' s''):Grown s s'':=by
 obtain⟨⟨x,h1,b⟩,d⟩:=h;obtain⟨⟨y,k1,m⟩,u⟩:=h';exact⟨⟨x++y,by simp_all,by rw[gK,b,m];rfl⟩,by rw[u,d]⟩
theorem BO (k:Nat) (x:XI) (s:TS):Grown s (mX k x s).1:=by
 obtain⟨P,d⟩:∃P:TS×Bool->Prop,P=fun r=>Grown s r.1:=⟨_,Z⟩
 have h0:∀(r:TS×Bool),r.1.events=s.events->r.1.asked=s.asked->P r:=fun r h1 b=>by rw[d];exact⟨⟨[],by rw[h1];simp,Z⟩,b⟩
 have hw:∀(r:TS×Bool) (e:cq),dw e=false->r.1.events=s.events++[e]->r.1.asked=s.asked->P r:=fun r e h1 b m=>by rw[d];exact⟨⟨[e],b,x7 h1⟩,m⟩
 have:P (mX k x s):=by
  unfold mX;refine ed _ (h0 _ Z Z)<|ed _ (hw _ _ Z Z Z)<|ed _ (hw _ _ Z Z Z)<|ed _ (ed _ (h0 _ Z Z)<|h0 _ Z Z)<|ed _ (ed _ (h0 _ Z Z)<|h0 _ Z Z)<|ed _ (h0 _ Z Z)<|ed _ (ed _ (h0 _ Z Z)<|h0 _ Z Z)<|ed _ (h0 _ Z Z)<|ed _ (h0 _ Z Z)<|h0 _ Z Z
 simp_all
theorem tJ (k:Nat) (c:XC) (s:TS):Grown s (eU k c s).1:=by
 grind [eU,Grown.refl,BO]
theorem su (k:Nat) (c:XC):∀(f:Nat) (s:TS),Grown s (Ml k c f s)
 | 0,s=>Grown.refl s
 | f+1,s=>by
  show Grown s (bif (eU k c s).2 then Ml k c f (eU k c s).1 else(eU k c s).1);exact ed (P:=Grown s) _ ((tJ k c s).trans<|su k c f _)<|tJ k c s
def ni (c:XC) (s:TS):Prop:=s.asks=true->∃x,c.ins[s.at_]? =some x/\(x.kind=2∨x.kind=4∨x.kind=5∨x.kind=6)
theorem DT {k:Nat} {x:XI} {s:TS} {dA nins:Int} (hx:sQ dA nins k x=true) (hs:s.asks=false):(mX k x s).1.asks=true->(mX k x s).1.at_=s.at_/\(x.kind=2∨x.kind=4∨x.kind=5∨x.kind=6)/\(mX k x s).2=false:=by
 obtain⟨n,sh,hn,n1,aa,_,_⟩:=x8 hx;obtain⟨P,hP⟩:∃P:TS×Bool->Prop,P=fun r=>r.1.asks=true->r.1.at_=s.at_/\(x.kind=2∨x.kind=4∨x.kind=5∨x.kind=6)/\r.2=false:=⟨_,Z⟩
 have ab:∀r:TS×Bool,r.1.asks=s.asks->P r:=fun r h1=>by simp_all
 have ne:∀m:Int,bD x.kind m=false->x.kind≠m:=fun m h e=>by rw[e,fj] at h;cases h
 have:P (mX k x s):=by
  unfold mX
  grind
 simp_all
theorem Gt {k:Nat} {c:XC} (b:lA k c) {s:TS} (d:s.asks=false):ni c (eU k c s).1/\((eU k c s).2=true->(eU k c s).1.asks=false):=by
 unfold eU;cases hx:c.ins[s.at_]? with
 | none=>exact⟨fun h=>(by simp_all),fun h=>(by cases h)⟩
 | some x=>
  have h:=DT (k:=k) (b.right x (gB_ hx)) d;refine⟨fun ha=>?_,fun h2=>?_⟩
  ·simp_all
  simp_all
theorem zj {k:Nat} {c:XC} (d:lA k c):∀(f:Nat) (s:TS),s.asks=false->ni c (Ml k c f s)
 | 0,s,b=>fun h=>by rw[show s.asks=true from h] at b;cases b
 | f+1,s,b=>by
  have h:=Gt d b;show ni c (bif (eU k c s).2 then Ml k c f (eU k c s).1 else(eU k c s).1);cases m:(eU k c s).2 with
  | true=>exact zj d f _ (h.2 m)
  | false=>exact h.1
theorem CJ {k:Nat} {c:XC} (b:lA k c):ni c (yO k c):=zj b _ _ Z
theorem An {k:Nat} {c:XC} (b:lA k c) (s:TS) (v:Int):ni c (fH k c s v):=zj b _ _ Z
theorem jg {a:yG} {v:Int} (h:a.kind=2∨a.kind=4∨a.kind=5∨a.kind=6):dw (eS a v)=true/\(eS a v).read=v:=by
 unfold eS;rcases h with h | h | h | h<;>rw[h]
 ·exact⟨Z,Z⟩
 ·exact ed (P:=fun e:cq=>dw e=true/\e.read=v) (bD v a.a) ⟨Z,Z⟩ ⟨Z,Z⟩
 ·exact⟨Z,Z⟩
 exact⟨Z,Z⟩
theorem sb {k:Nat} {c:XC} {s:TS} (h:ni c s) (b:s.asks=true):((r9 k c s).kind=2∨(r9 k c s).kind=4∨(r9 k c s).kind=5∨(r9 k c s).kind=6):=by
 obtain⟨x,hx,hk⟩:=h b;unfold r9;rw[hx];exact hk
theorem pK {k:Nat} {c:XC} {s:TS} (h:ni c s) (b:s.asks=true) (v:Int):∃ext,(fH k c s v).events=s.events++eS (r9 k c s) v::ext/\dO (eS (r9 k c s) v::ext)= [v]:=by
 obtain⟨⟨ext,h1,d⟩,_⟩:=su k c (Eu c) (Ao k c s v);obtain⟨m,u⟩:=jg (v:=v) (sb (k:=k) h b);refine⟨ext,?_,?_⟩
 ·unfold fH;rw[h1];show(s.events++[_])++ext=_
  simp_all
 rw[show eS (r9 k c s) v::ext= [eS (r9 k c s) v]++ext from Z,gK,wm m,d,u];rfl
theorem wy {k:Nat} {c:XC} (b:lA k c):∀(A:List Int) (s:TS),ni c s->ni c (pH k c A s)/\∃ext m,(pH k c A s).events=s.events++ext/\dO ext=A.take m/\((pH k c A s).asks=true->A.length<=m)
 | [],s,h=>⟨h,[],0,by show s.events=_;simp,Z,fun _=>nR_ _⟩
 | v::r,s,h=>by
  show ni c (bif s.asks then pH k c r (fH k c s v) else s)/\∃ext m,(bif s.asks then pH k c r (fH k c s v) else s).events=s.events++ext/\dO ext=(v::r).take m/\((bif s.asks then pH k c r (fH k c s v) else s).asks=true->(v::r).length<=m);cases d:s.asks with
  | false=>exact⟨h,[],0,by simp_all,Z,fun h'=>by simp_all⟩
  | true=>
   obtain⟨e1,h1,u⟩:=pK (k:=k) h d v;obtain⟨q,ext,m,h3,h4,h5⟩:=wy b r _ (An b s v);refine⟨q,eS (r9 k c s) v::e1++ext,m+1,?_,?_,fun h'=>?_⟩
   ·simp_all
   ·rw[gK,u,h4];rfl
   simp_all
theorem ya {k:Nat} {c:XC} (v:Int):∀(A:List Int) (s:TS),pH k c (A++[v]) s=bif (pH k c A s).asks then fH k c (pH k c A s) v else pH k c A s
 | [],s=>rfl
 | a::r,s=>by
  show(bif s.asks then pH k c (r++[v]) (fH k c s a) else s)=bif (bif s.asks then pH k c r (fH k c s a) else s).asks then fH k c (bif s.asks then pH k c r (fH k c s a) else s) v else(bif s.asks then pH k c r (fH k c s a) else s);cases ha:s.asks with
  | false=>simp_all
  | true=>simp only[cond_true];exact ya v r _
theorem qL {k:Nat} {c:XC} (b:lA k c) (A:List Int):ni c (mN k c A)/\∃m,dO (mN k c A).events=A.take m/\((mN k c A).asks=true->A.length<=m):=by
 obtain⟨h,ext,m,h1,h2,h3⟩:=wy b A (yO k c) (CJ b);obtain⟨⟨e0,h4,h5⟩,_⟩:=su k c (Eu c) ⟨0,List.replicate c.dA.toNat 0,[],0,0,false⟩
 grind [mN,gK,yO]
theorem l5 {s:TS} {l:List cq}:AL s l=true↔∃rest,s.events=l++rest:=by
 grind [AL,bP,List.take_append_drop,iw]
def mS (k:Nat) (c:XC) (l:List cq):Prop:=rf k c=true/\AL (mN k c<|dO l) l=true
theorem DD {k:Nat} {c:XC} (b:lA k c) {l rest:List cq} (h:(mN k c<|dO l).events=l++rest):dO rest= []:=by
 obtain⟨_,m,h1,_⟩:=qL b (dO l);rw[h,gK] at h1;have:=congrArg List.length h1
 grind [List.length_eq_zero_iff]
theorem HJ {k:Nat} {c:XC} (h:rf k c=true):mS k c []:=⟨h,l5.2 ⟨_,Z⟩⟩
theorem C6 {k:Nat} {c:XC} {l:List cq} {e:cq} (h:mS k c l) (he:(mN k c<|dO l).events[l.length]? =some e):mS k c (l++[e])/\dw e=false:=by
 obtain⟨hf,h⟩:=h;have hc:=(zh hf).1;obtain⟨rest,b⟩:=l5.1 h;have hq:=DD hc b;rw[b,gR_<|nR_ _,Nat.sub_self] at he;cases rest with
 | nil=>cases he
 | cons e' r=>
  simp only[List.getElem?_cons_zero,oJ_] at he;subst he;have hne:=Bx hq e' (mS_ ..);refine⟨⟨hf,?_⟩,hne⟩;rw[gK,x7 hne,List.append_nil];exact l5.2 ⟨r,by rw[b];simp⟩
theorem AM {k:Nat} {c:XC} {l:List cq} (h:mS k c l) (he:(mN k c<|dO l).events[l.length]? =none) (b:(mN k c<|dO l).asks=true) (v:Int):mS k c (l++[eS (r9 k c<|mN k c<|dO l) v]):=by
 obtain⟨hf,h⟩:=h;have hc:=(zh hf).1;obtain⟨rest,d⟩:=l5.1 h
 have hl:rest= []:=by
  simp_all
 subst hl;rw[List.append_nil] at d;have hk:=(qL hc<|dO l).1;obtain⟨m,u⟩:=jg (v:=v) (sb (k:=k) hk b);refine⟨hf,?_⟩;rw[gK,wm m,u]
 have e1:mN k c (dO l++[v])=fH k c (mN k c<|dO l) v:=by
  unfold mN at b⊢;rw[ya,b];rfl
 rw[e1];obtain⟨ext,h1,_⟩:=pK (k:=k) hk b v;exact l5.2 ⟨ext,by rw[h1,d];simp⟩
theorem ns {k:Nat} {c:XC}:bD (uK k c) 0=rf k c:=by
 unfold uK;cases h:rf k c with
 | true=>rfl
 | false=>
  simp only[cond_false];cases h1:bD (mE k c) 0 with
  | true=>rfl
  | false=>exact h1
theorem vL {k:Nat} {c:XC} {l:List cq}:(ep k c l).2=0↔mS k c l:=by
 unfold ep mS;rw[ns];cases hf:rf k c with
 | false=>
  refine⟨fun h=>?_,fun h=>(by cases h.1)⟩;have h:uK k c=0:=h;have:=ns (k:=k) (c:=c);rw[h,hf] at this;cases this
 | true=>
  show(Bk k c (mN k c<|dO l) l).2=0↔_;unfold Bk;cases ht:AL (mN k c<|dO l) l with
  | false=>exact⟨fun h=>(by cases h),fun h=>(by cases h.2)⟩
  | true=>
   refine⟨fun _=>⟨Z,Z⟩,fun _=>?_⟩;simp only[bW,cond_true,cond_false]
   grind
theorem Bj {k:Nat} {c:XC} {l:List cq} (h:(ep k c l).2=0):
  (∃e,ep k c l=(⟨e,vN,0⟩,0)/\mS k c (l++[e])/\dw e=false)∨
  (∃a,ep k c l=(⟨Bl,a,0⟩,0)/\(a.kind=2∨a.kind=4∨a.kind=5∨a.kind=6)/\∀v,mS k c (l++[eS a v]))∨
  (∃n,ep k c l=(⟨Bl,vN,n⟩,0)):=by
 have hF:=vL.1 h;obtain⟨hf,b⟩:=hF;have hc:=(zh hf).1;unfold ep;rw[ns,hf];show(∃e,Bk k c (mN k c<|dO l) l=_/\_)∨_;simp only[bW,cond_true,cond_false];unfold Bk;rw[b];simp only[bW,cond_true,cond_false];cases he:(mN k c<|dO l).events[l.length]? with
 | some e=>
  obtain⟨h1,h2⟩:=C6 ⟨hf,b⟩ he
  simp_all
 | none=>
  cases d:(mN k c<|dO l).asks with
  | true=>exact .inr (.inl ⟨_,Z,sb (qL hc _).1 d,fun v=>AM ⟨hf,b⟩ he d v⟩)
  | false=>simp_all
theorem H.eA {V:B} {K:KP} {M L:Own} (h:H V K (M++L)):∃b,KP.le K b/\(∀e∈M,b e.1 e.2)/\H V b L:=⟨K.qR M,KP.dQ _ _,fun e he=>.inr he,h.keeps⟩
theorem DP {k:Nat} {c:XC} {s:TS} {x:XI} (hx:c.ins[s.at_]? =some x) (h:(eU k c s).2=true):(eU k c s).1.at_∈nP c s.at_:=by
 obtain⟨P,u⟩:∃P:TS×Bool->Prop,P=fun r=>r.2=true->r.1.at_∈nP c s.at_:=⟨_,Z⟩
 have A:nP c s.at_=(xU x s.at_).map Int.toNat:=by unfold nP;rw[hx]
 have m:∀r:TS×Bool,r.2=false->P r:=fun r h1=>by simp_all
 have d:(bD x.kind 10=false)->(bD x.kind 12=false)->(bD x.kind 13=false)->∀r:TS×Bool,r.1.at_=s.at_+1->P r:=fun h0 h2 h3 r h1=>by
  grind [xU]
 have ne:∀(a b:Int),bD x.kind a=true->a≠b->bD x.kind b=false:=fun a b h h'=>by
  rw[cR,decide_eq_true_iff] at h;rw[cR,decide_eq_false_iff_not,h];exact h'
 have:P (eU k c s):=by
  unfold eU;rw[hx];dsimp only;unfold mX
  refine fW _ (fun e=>d (ne _ _ e (by decide)) (ne _ _ e (by decide)) (ne _ _ e (by decide)) _ Z) fun e1=>fW _ (fun e=>d (ne _ _ e (by decide)) (ne _ _ e (by decide)) (ne _ _ e (by decide)) _ Z) fun e3=>fW _ (fun e=>d (ne _ _ e (by decide)) (ne _ _ e (by decide)) (ne _ _ e (by decide)) _ Z) fun e7=>
   fW _ (fun e=>ed _ (m _ Z) (d (ne _ _ e (by decide)) (ne _ _ e (by decide)) (ne _ _ e (by decide)) _ Z)) fun e8=>fW _ (fun e=>ed _ (m _ Z) (d (ne _ _ e (by decide)) (ne _ _ e (by decide)) (ne _ _ e (by decide)) _ Z)) fun e9=>
   fW _ (fun e=>?_) fun aa=>fW _ (fun e=>ed _ ?_ (d (ne _ _ e (by decide)) (ne _ _ e (by decide)) (ne _ _ e (by decide)) _ Z)) fun ab=>fW _ (fun _=>m _ Z) fun ac=>fW _ (fun _=>m _ Z) fun ak=>m _ Z
  ·rw[u];intro _;rw[A];unfold xU;rw[e];simp
  grind [xU]
 simp_all
theorem Gu {k:Nat} {c:XC} {s:TS}:(eU k c s).1.dA.length=s.dA.length/\(eU k c s).1.events.length<=s.events.length+1:=by
 obtain⟨P,hP⟩:∃P:TS×Bool->Prop,P=fun r=>r.1.dA.length=s.dA.length/\r.1.events.length<=s.events.length+1:=⟨_,Z⟩
 have h0:∀r:TS×Bool,r.1.dA=s.dA->r.1.events=s.events->P r:=fun r h1 b=>by simp_all
 have h1:∀(r:TS×Bool) (e:cq),r.1.dA=s.dA->r.1.events=s.events++[e]->P r:=fun r e h1 b=>by simp_all
 have:P (eU k c s):=by
  unfold eU;cases hx:c.ins[s.at_]? with
  | none=>exact h0 _ Z Z
  | some x=>
   dsimp only;unfold mX
   grind
 simp_all
structure Q7 (c:XC) (s:TS):Prop where
 at_:s.at_<c.ins.length
 dA:s.dA.length=c.dA.toNat
 events:s.events.length<=1000000
theorem results_none {P:Program} {fn:Func} {t:D Y} {V:B} (b:fn.results.toList= []):dB P fn t V=some (.tuple []):=by
 unfold dB;rw[b];rfl
theorem ju {P:Program} {fn:Func} {R:Y->B->Prop} {t:D Y} {V:B} (b:fn.results.toList= []) (d:R (.tuple []) V):FH P fn R .normal t V:=⟨.inl Z,_,results_none b,d⟩
structure NJ (c:XC) (out:List Nat) (s:TS):Prop where
 at_:s.at_∈out
 dA:s.dA.length=c.dA.toNat
theorem DQ {k:Nat} {c:XC} {s:TS} (h:(eU k c s).2=false):(eU k c s).1.at_=s.at_:=by
 obtain⟨P,hP⟩:∃P:TS×Bool->Prop,P=fun r=>r.2=false->r.1.at_=s.at_:=⟨_,Z⟩
 have hy:∀r:TS×Bool,r.2=true->P r:=fun r h1=>by simp_all
 have b:∀r:TS×Bool,r.1.at_=s.at_->P r:=fun r h1=>by simp_all
 have:P (eU k c s):=by
  unfold eU;cases hx:c.ins[s.at_]? with
  | none=>exact b _ Z
  | some x=>
   dsimp only;unfold mX
   grind
 simp_all
theorem NJ.lt {c:XC} {out:List Nat} {s:TS} (h:NJ c out s) (b:uA (nP c) c.ins.length out):s.at_<c.ins.length:=b.lt _ h.at_
theorem NJ.step {k:Nat} {c:XC} {out:List Nat} {s:TS} (h:NJ c out s) (b:uA (nP c) c.ins.length out):NJ c out (eU k c s).1:=by
 refine⟨?_,by rw[Gu.1];exact h.dA⟩;cases hb:(eU k c s).2 with
 | false=>rw[DQ hb];exact h.at_
 | true=>
  obtain⟨x,hx⟩:=cF (h.lt b);obtain⟨q,hq⟩:=gO_ h.at_;obtain⟨q',_,aa⟩:=b.ML q _ hq _ (DP hx hb)
  grind
inductive Reach (nx:Nat->List Nat):Nat->Prop
 | zero:Reach nx 0
 | step {i t:Nat}:Reach nx i->t∈nx i->Reach nx t
theorem Reach.sP {nx:Nat->List Nat} {n:Nat} {out:List Nat} (b:uA nx n out) {i:Nat} (h:Reach nx i):i∈out:=by
 induction h with
 | zero=>exact b.zero
 | step _ d ih=>
  obtain⟨q,hq⟩:=gO_ ih;obtain⟨q',_,h'⟩:=b.ML q _ hq _ d
  grind
section
variable {nx:Nat->List Nat} {w:Nat->Nat} {r:Nat->Bool} {n:Nat}
end
section
variable {nx dx:Nat->List Nat} {w:Nat->Nat} {r:Nat->Bool} {n:Nat} {out:List Nat} {F H_:Nat->Nat}
end
structure Qc (nx:Nat->List Nat) (s:DS):Prop where
 open_:∀i:Nat,s.st[i]? =some 1->i∈s.path
 QF:∀(j a b:Nat),s.path[j]? =some a->s.path[j+1]? =some b->b∈nx a
 reach:∀i∈s.path,Reach nx i
abbrev gB (b:Bool):Y:=.bool b
structure NH (nx:Nat->List Nat) (n:Nat) (o:List Bool) (st:List Nat):Prop where
 len:o.length=n
 reach:∀i:Nat,o[i]? =some true->Reach nx i
 zero:o[0]? =some true
 KN:∀i∈st,i<n/\o[i]? =some true
 closed:∀i:Nat,o[i]? =some true->i∈st∨∀t∈nx i,o[t]? =some true
structure CA (nx:Nat->List Nat) (n:Nat) (o:List Bool) (st:List Nat) (a m:Nat) (dl:List Nat):Prop where
 len:o.length=n
 reach:∀i:Nat,o[i]? =some true->Reach nx i
 zero:o[0]? =some true
 KN:∀i∈st,i<n/\o[i]? =some true
 at_:o[a]? =some true
 closed:∀i:Nat,o[i]? =some true->i∈st∨i=a∨∀t∈nx i,o[t]? =some true
 done:∀(q t:Nat),q<m->dl[q]? =some t->o[t]? =some true
section
variable {nx:Nat->List Nat} {n:Nat} {o:List Bool} {st:List Nat} {a m t:Nat} {dl:List Nat}
theorem NH.pop (h:NH nx n o st) (ha:st.getLast? =some a):CA nx n o st.dropLast a 0 dl where
 len:=h.len
 reach:=h.reach
 zero:=h.zero
 KN i hi:=h.KN i ((List.dropLast_sublist _).subset hi)
 at_:=(h.KN a (by grind)).2
 closed i hi:=by
  rcases h.closed i hi with h1 | h1
  ·grind [List.getLast?_eq_some_iff]
  simp_all
 done q t hq:=absurd hq (nZ_ _)
theorem CA.skip (h:CA nx n o st a m dl) (ht:dl[m]? =some t) (ho:o[t]? =some true):CA nx n o st a (m+1) dl where
 len:=h.len
 reach:=h.reach
 zero:=h.zero
 KN:=h.KN
 at_:=h.at_
 closed:=h.closed
 done q t' hq h':=by
  by_cases e:q=m
  ·simp_all
  exact h.done q t' oM h'
theorem rK {i:Nat} (hi:o[i]? =some true):(o.set t true)[i]? =some true:=by
 grind
theorem CA.mark (h:CA nx n o st a m dl) (d:dl[m]? =some t) (u:t∈nx a) (b:t<n):CA nx n (o.set t true) (st++[t]) a (m+1) dl where
 len:=by rw[List.length_set];exact h.len
 reach i hi:=by
  rw[List.getElem?_set] at hi;split at hi
  ·rename_i e;subst e;exact .step (h.reach a h.at_) u
  exact h.reach i hi
 zero:=rK h.zero
 KN i hi:=by
  rcases List.mem_append.1 hi with hi | hi
  ·exact⟨(h.KN i hi).1,rK (h.KN i hi).2⟩
  obtain rfl:=List.mem_singleton.1 hi;exact⟨b,by rw[List.getElem?_set,if_pos Z,if_pos (by rw[h.len];exact b)]⟩
 at_:=rK h.at_
 closed i hi:=by
  rw[List.getElem?_set] at hi;split at hi
  ·simp_all
  rcases h.closed i hi with h1 | h1 | h1
  ·simp_all
  ·exact .inr (.inl h1)
  grind
 done q t' hq h':=by
  by_cases e:q=m
  ·subst e;rw[d] at h';cases h';rw[List.getElem?_set,if_pos Z,if_pos (by rw[h.len];exact b)]
  exact rK<|h.done q t' oM h'
end
end Go.Ev
namespace Go.Ev
variable [Env]
open Go.Proofs
set_option maxRecDepth 4000
set_option maxHeartbeats 8000000
def MS (h:ox):List Y:=[.bool h.EV,.bool h.loc,.bool h.order,.bool h.to,.int .i64 (.ofNat h.exprs)]
def KK:List Y:=zO.flatMap MS
structure L7 (G:Cx) (K:KP):Prop where
 gl:Nat.ble 1 G.gl=true
 sh:∃e ro,K (posOf 0) (.row KK e ro)
theorem L7.mono {G:Cx} {K K':KP} (h:L7 G K) (hk:KP.le K K'):L7 G K':=⟨h.gl,let ⟨e,ro,hh⟩:=h.sh;⟨e,ro,hk _ _ hh⟩⟩
abbrev gZ (n:Int):Y:=.int .i64 n
abbrev sY (bk pr:Nat) (tk:List Bool) (p:List Int) (L:Own):Own:=(bk,.row (tk.map gB) 101 false)::(pr,.row (p.map gZ) 3 false)::L
theorem Jp {t:Nat} (h1:1<=t) (h:t<=1000):wr .i64 (Int.sub (.ofNat t) 1)= .ofNat (t-1):=by
 obtain⟨s,rfl⟩:∃s,t=s+1:=⟨t-1,by omega⟩;exact gy oM
theorem IX {tk:List Bool} {i:Nat} (h:tk[i]? =some false):(tk.set i true).set i false=tk:=by
 refine List.ext_getElem? fun j=>?_
 by_cases e:i=j
 ·subst e;have hl:=(gA.1 h).1;rw[List.getElem?_set_self (by rw[List.length_set];exact hl),h]
 rw[List.getElem?_set_ne e,List.getElem?_set_ne e]
theorem Nn {G:Cx} (hG:Plain G) {K:KP} {n m:Nat} {l:List XC} {lv cv:Y} {cls:List Int} (hl:bI K 2 (jF K m) l lv) (a9:l.length=n) (bb:n<=4) (hc:bI K 1 dG cls cv) (bd:cls.length=n+1)
  {pl py pp pc pT:Y} {b Q F:Nat} (W:cX K pl [lv]) (av:cX K py [.yield b]) (X:cX K pp [.slice Q 0 n (.known n)]) (ab:cX K pc [cv]) (aE:cX K pT [.func 63 [] [pl,py,pp,.ptr F 0,pc,pT]])
  {T:List (List Int)} {I:List (List Int)->Own->Prop} (hY:∀(acc:List (List Int)) (p:List Int) (tk:List Bool) (L:Own) (V:B),I acc L->acc.length+1<=256->p.length=n->p∈T->H V K (sY F Q tk p L)->kP Tryz.prog G b [.slice Q 0 n (.known n)] V fun v V'=>v= .bool true/\∃L',I (acc++[p]) L'/\H V' K (sY F Q tk p L')):
  ∀(f th:Nat) (tk:List Bool) (p:List Int) (acc:List (List Int)) (L:Own) (V:B),th+f=n+1->1<=th->p.length=n->tk.length=5->I acc L->acc.length+n ^ f<=256->(∀x∈(gd cls n f th tk p).1,x∈T)->H V K (sY F Q tk p L)->
   aT Tryz.prog G 63 [.int .i64 (.ofNat th),pl,py,pp,.ptr F 0,pc,pT] V fun v V'=>v= .bool true/\∃L',I (acc++(gd cls n f th tk p).1) L'/\H V' K (sY F Q tk (gd cls n f th tk p).2 L'):=by
 intro f;induction f with
 | zero=>
  intro th tk p acc L V a0 ht hp ac hI hb hT aq;refine aW hG Tryz.func63 Z (t:=((((((D.leaf.put (some (.int .i64 (.ofNat th))) 0).put (some (pl)) 1).put (some (py)) 2).put (some (pp)) 3).put (some (.ptr F 0)) 4).put (some (pc)) 5).put (some (pT)) 6) (by rfl) ?_;refine ai ?_;refine ah Z ?_;refine S Z (aj Z) Z ?_;refine af ?_;refine ad ?_;refine ai ?_;refine ai ?_;refine ah Z ?_;refine S Z (N Z) Z ?_;refine S Z (aM aq W Z J Z) Z ?_;refine S Z (aO hl Z Z Z (e:=63) J Z) Z ?_;refine S Z (aA Z Z Z) Z ?_;refine af ?_;refine ad ?_;refine aC Z (fun M=>?_) (fun M=>?_)
  ·refine ai ?_;refine ah Z ?_;refine S Z (aM aq av Z J Z) Z ?_;refine S Z (aM aq X Z J Z) Z ?_;refine Kl Z (Lk Z Z Z) (fun _=>Z) (hY acc p tk L _ hI hb hp (hT p<|List.mem_singleton.2 Z) aq) ?_;rintro _ V ⟨rfl,L2,hI,aq⟩;refine S Z (aj Z) Z ?_;refine af ?_;refine ad ?_;refine aD ?_;refine az (?_);exact ay Z Z ⟨Z,L2,hI,aq⟩
  exact absurd (bx M) oM
 | succ f ih=>
  intro th tk p acc L V a0 ht hp ac hI hb hT aq;refine aW hG Tryz.func63 Z (t:=((((((D.leaf.put (some (.int .i64 (.ofNat th))) 0).put (some (pl)) 1).put (some (py)) 2).put (some (pp)) 3).put (some (.ptr F 0)) 4).put (some (pc)) 5).put (some (pT)) 6) (by rfl) ?_;refine ai ?_;refine ah Z ?_;refine S Z (aj Z) Z ?_;refine af ?_;refine ad ?_;refine ai ?_;refine ai ?_;refine ah Z ?_;refine S Z (N Z) Z ?_;refine S Z (aM aq W Z J Z) Z ?_;refine S Z (aO hl Z Z Z (e:=63) J Z) Z ?_;refine S Z (aA Z Z Z) Z ?_;refine af ?_;refine ad ?_;refine aC Z (fun M=>?_) (fun M=>?_)
  ·exact absurd (aU M) oM
  refine aG ?_;refine ad ?_;refine ai ?_;refine ai ?_;refine ah Z ?_;refine S Z (aj Z) Z ?_;refine af ?_;refine ad ?_;refine aJ ?_;refine ba [8,9,10,18,19,20,21,22,23,24,25,26,27,28,29,30,31,32,33,34,35,36,37,38,39,40,41,42,43,44,45,46,47,48,49,50,51,52] (fun j t V=>∃(i:Nat) (R:Own),(I (acc++(eu cls n f th tk p i).1) R/\j+i=n)/\t.get 9=some (.int .i64 (.ofNat (i+1)))/\H V K (sY F Q tk (eu cls n f th tk p i).2 R)) (n) ⟨0,L,⟨by rw[qM,List.append_nil];exact hI,Z⟩,Z,aq⟩ ?_;clear aq;intro j4 t V an hI;obtain⟨i,R,⟨hI1,be⟩,aa,aq⟩:=hI;replace an:=an.bR Z Z;obtain⟨o8,o9,bi,bk,bl,bm,bo,bs,an⟩:=an;replace an:=an.bR Z Z;obtain⟨bt,bv,bw,bX,b0,b3,b4,b5,an⟩:=an;replace an:=an.bR Z Z;obtain⟨b6,b7,b8,b9,ca,cb,cc,ce,an⟩:=an;replace an:=an.bR Z Z;obtain⟨ch,ci,ck,cn,cp,cr,cs,cw,an⟩:=an;replace an:=an.r4 Z;obtain⟨cx,c0,c1,c2,an⟩:=an;replace an:=an.eb Z;obtain⟨c3,an⟩:=an;replace an:=an.eb Z;obtain⟨c4,an⟩:=an;obtain rfl:=an.nil;clear an;replace aa:o9=some _:=aa;subst aa;refine ai ?_;refine ai ?_;refine ah Z ?_;refine S Z (N Z) Z ?_;refine S Z (aM aq W Z J Z) Z ?_;refine S Z (aO hl Z Z Z (e:=63) J Z) Z ?_;refine S Z (aA Z Z Z) Z ?_;refine af ?_;refine ad ?_;refine aC Z (fun A=>?_) (fun A=>?_)
  ·refine aG ?_;refine ad ?_;refine ai ?_;refine aJ ?_;refine ai ?_;refine ai ?_;refine aX (l:=[(0,[]),(1,[]),(2,[]),(3,[]),(4,[]),(5,[]),(6,[]),(7,[]),(8,[]),(9,[]),(10,[]),(11,[]),(12,[]),(13,[])]) J J ?_;refine al Z Z (N Z) Z ?_;have ak:i+1<=n:=by have:=bx (cd A);omega
   obtain⟨xk,C⟩:=cF (show i+1<tk.length by omega);have a1:(eu cls n f th tk p i).2.length=n:=by rw[yj];exact hp
   refine al Z Z (jD (n:=5) (e:=4) (m:=1) J J Z Z oM) Z ?_;refine al Z Z (aw Z (aq.get 0 Z) J<|Kk C (by first | omega | rfl)) Z ?_;refine oU Z Z (N Z) (fun _=>Z) (fun E=>?_) (fun E=>?_)
   ·refine aF Z Z Z ?_;refine aF Z Z Z ?_;refine aF Z Z Z ?_;refine aF Z Z Z ?_;refine aF Z Z Z ?_;refine aF Z Z Z ?_;refine aF Z Z Z ?_;refine aF Z Z Z ?_;refine aF Z Z Z ?_;refine al Z Z (aI Z Z) Z ?_;refine bj ?_;refine ad ?_;refine bn Z ?_;refine bc ?_;refine aP ?_;refine aN ?_;refine ad ?_;refine ah Z ?_;refine S Z (N Z) Z ?_;refine S Z (aA Z Z Z) Z ?_;refine S Z (aj Z) Z ?_;refine af ?_;have hE:=fR (cls:=cls) (f:=f) (t:=th) (p:=p) (n:=n) (i:=i) (tk:=tk) (by rw[C,show xk=true from E];rfl);replace aq:H V K (sY F Q tk (eu cls n f th tk p (i+1)).2 R):=by rw[hE];exact aq
    refine aL ⟨j4-1,(by have:=bx (cd A);omega),(by(iterate 59 refine a8.put Z ?_);exact a8.refl _ _),i+1,R,⟨by rw[hE];exact hI1,by omega⟩,congrArg (fun z=>some (Y.int .i64 z))<|aZ oM,aq⟩
   refine al Z Z (aM aq ab Z J Z) Z ?_;refine al Z Z (N Z) Z ?_;obtain⟨c5,d⟩:=cF (show i+1<cls.length by omega);refine cP (e:=3) (m:=1) hc d Z Z Z J J Z Z (fun _=>Z) (fun c7 a2 am a3 ao=>?_);obtain rfl:=ao;refine al Z Z (aM aq am Z J Z) Z ?_;refine al Z Z (aM aq ab Z J Z) Z ?_;refine al Z Z (N Z) Z ?_;obtain⟨c8,u⟩:=cF (show th<cls.length by omega);refine cP (e:=3) (m:=1) hc u Z Z Z J J Z Z (fun _=>Z) (fun c9 a4 ap a5 au=>?_);obtain rfl:=au;refine al Z Z (aM aq ap Z J Z) Z ?_;refine al Z Z (aA Z Z Z) Z ?_;refine al Z Z (aI Z Z) Z ?_;refine bj ?_;refine ad ?_;refine aC Z (fun U=>?_) (fun U=>?_)
   ·refine bc ?_;refine aP ?_;refine aN ?_;refine ad ?_;refine ah Z ?_;refine S Z (N Z) Z ?_;refine S Z (aA Z Z Z) Z ?_;refine S Z (aj Z) Z ?_;refine af ?_;have hE:=fR (cls:=cls) (f:=f) (t:=th) (p:=p) (n:=n) (i:=i) (tk:=tk) (by rw[C,show xk=false from E,d,u];exact U);replace aq:H V K (sY F Q tk (eu cls n f th tk p (i+1)).2 R):=by rw[hE];exact aq
    refine aL ⟨j4-1,(by have:=bx (cd A);omega),(by(iterate 59 refine a8.put Z ?_);exact a8.refl _ _),i+1,R,⟨by rw[hE];exact hI1,by omega⟩,congrArg (fun z=>some (Y.int .i64 z))<|aZ oM,aq⟩
   refine aG ?_;refine ad ?_;refine ai ?_;refine aX (l:=[(0,[]),(1,[]),(2,[]),(3,[]),(4,[]),(5,[]),(6,[1]),(7,[]),(8,[])]) J J ?_;refine al Z Z (N Z) Z ?_;refine al Z Z (aM aq X Z J Z) Z ?_;refine al Z Z (N Z) Z ?_;refine al Z Z (aA (v:=.int .i64 (.ofNat (th-1))) Z Z<|congrArg (fun z=>some (Y.int .i64 z))<|Jp ht oM) Z ?_;refine al Z Z (N Z) Z ?_;refine al Z Z (jD (n:=5) (e:=4) (m:=1) J J Z Z oM) Z ?_;refine qI aq .here Z Z (bz Z Z Z (aq.get 0 Z) (m:=1) J Z (by rw[lM_];omega) (ar Z aS) (cells':=((tk).set (i+1) true).map (gB))<|fw (f:=gB) (v:=true) oM (by first | omega | rfl)) Z (fun V aq=>?_);refine⟨(aV (a7 Z Z Z Z Z (aM aq X Z J Z)<|oA _ _ _ _) bq),?_⟩;refine al Z Z (lz (e:=3) (m:=1) J J Z Z oM) Z ?_;refine qI aq (.there .here) Z Z (bz Z Z Z (aq.get 1 Z) (m:=1) J Z (by rw[lM_];omega) (ar Z aS) (cells':=(((eu cls n f th tk p i).2).set (th-1) (.ofNat (i+1))).map (gZ)) (fw (f:=gZ) (v:=(.ofNat (i+1))) oM (by first | omega | rfl))) Z (fun V aq=>?_);refine⟨bq,?_⟩;refine bj ?_;refine ad ?_;refine ai ?_;refine ah Z ?_;refine S Z (aM aq aE Z J Z) Z ?_;refine S Z (N Z) Z ?_;refine S Z (aA (v:=.int .i64 (.ofNat (th+1))) Z Z<|congrArg (fun z=>some (Y.int .i64 z))<|aZ oM) Z ?_;refine dJ Z (aR Z Z Z J) (fun _=>Z) (ih (th+1) (tk.set (i+1) true) ((eu cls n f th tk p i).2.set (th-1) (.ofNat (i+1))) (acc++(eu cls n f th tk p i).1) R _ oM oM (by rw[List.length_set];exact a1) (by rw[List.length_set];exact ac) hI1 (by rw[lA_];exact Gy ak hb) (fun x hx=>hT x (wF (j:=n) (i:=i+1) (by rw[iG (f:=f) (p:=p) (n:=n) (show(bif (tk[i+1]?).getD false then true else bW (bD ((cls[i+1]?).getD 0) ((cls[th]?).getD 0)))=false by rw[C,show xk=false from E,d,u];exact U)];exact List.mem_append_right _ hx) ak)) aq) ?_;rintro _ V ⟨rfl,L2,hI2,aq⟩;refine S Z (aj Z) Z ?_;refine af ?_;refine ad ?_;refine ai ?_;refine ah Z ?_;refine S Z (N Z) Z ?_;refine S Z (jD (n:=5) (e:=4) (m:=1) J J Z Z oM) Z ?_;refine ja aq .here Z (bz Z Z Z (aq.get 0 Z) (m:=1) J Z (by rw[lM_];rw[List.length_set];omega) (ar Z aS) (cells':=((tk.set (i+1) true).set (i+1) false).map (gB))<|fw (f:=gB) (v:=false) (by rw[List.length_set];omega) (by first | omega | rfl)) Z (fun V aq=>?_);rw[IX (by rw[C,show xk=false from E])] at aq;refine af ?_;refine ad ?_;refine ai ?_;refine ah Z ?_;refine S Z (N Z) Z ?_;refine S Z (dX Z) Z ?_;refine af ?_;refine ad ?_;refine bf Z ?_;refine aG ?_;refine aH ?_;refine ad ?_;refine ah Z ?_;refine S Z (N Z) Z ?_;refine S Z (aA Z Z Z) Z ?_
   refine S Z (aj Z) Z ?_;refine af ?_;have hE:=iG (f:=f) (p:=p) (n:=n) (show(bif (tk[i+1]?).getD false then true else bW (bD ((cls[i+1]?).getD 0) ((cls[th]?).getD 0)))=false by rw[C,show xk=false from E,d,u];exact U);replace aq:H V K (sY F Q tk (eu cls n f th tk p (i+1)).2 L2):=by rw[hE];exact aq
   refine aL ⟨j4-1,(by have:=bx (cd A);omega),(by(iterate 75 refine a8.put Z ?_);exact a8.refl _ _),i+1,L2,⟨by rw[hE,<-lQ_];exact hI2,by omega⟩,congrArg (fun z=>some (Y.int .i64 z))<|aZ oM,aq⟩
  refine bc ?_;refine aP ?_;refine aQ ?_;refine aN ?_;refine ad ?_;refine ai ?_;refine ah Z ?_;refine S Z (aj Z) Z ?_;refine af ?_;refine ad ?_;refine aD ?_;have hi:eu cls n f th tk p n=eu cls n f th tk p i:=by rw[show i=n by have:=aU (bF A);omega]
  exact ay Z Z ⟨Z,R,by rw[zT,hi];exact hI1,by rw[zT,hi];exact aq⟩
theorem Gi {α:Type} (a b c d e:α) (L:List α):(a::b::c::d::e::L).Perm (a::c::e::b::d::L):=.cons a ((List.Perm.swap c b _).trans (.cons c<|Oe b d e L))
theorem cX.one {K:KP} {b e:Nat} {v:Y} {ro:Bool} (hk:K b (.row [v] e ro)):cX K (.ptr b 0) [v]:=⟨b,0,[v],e,ro,Z,hk,nR_ _,Z⟩
theorem Nk {G:Cx} (Q:Plain G) {K:KP} {m:Nat} {l:List XC} {lv cv:Y} {cls:List Int} (hl:bI K 2 (jF K m) l lv) (d:l.length<=4) (hc:bI K 1 dG cls cv) (C:cls.length=l.length+1)
  {pl pc:Y} {b:Nat} (A:cX K pl [lv]) (E:cX K pc [cv])
  {I:List (List Int)->Own->Prop} (hY:∀(K':KP) (M:Own) (acc:List (List Int)) (p:List Int) (u:Nat) (L:Own) (V:B),KP.le K K'->I acc L->acc.length+1<=256->p.length=l.length->p∈iB l cls->H V K' (M++(u,.row (p.map gZ) 3 false)::L)->kP Tryz.prog G b [.slice u 0 l.length (.known l.length)] V fun v V'=>v= .bool true/\∃L',I (acc++[p]) L'/\H V' K' (M++(u,.row (p.map gZ) 3 false)::L'))
  {L:Own} (F:I [] L) {V:B} (aq:H V K L):
  aT Tryz.prog G 62 [.yield b,pl,pc] V fun _ V'=>∃L',I (iB l cls) L'/\H V' K L':=by
 refine aW Q Tryz.func62 Z (t:=((D.leaf.put (some (.yield b)) 0).put (some (pl)) 1).put (some (pc)) 2) (by rfl) ?_;refine ai ?_;refine ah Z ?_;refine bH aq Z (cL Z Z) (fun _=>Z) (fun V u aq=>?_);refine af ?_;refine ad ?_;refine ai ?_;refine ah Z ?_;refine S Z (aM aq A Z J Z) Z ?_;refine S Z (aO hl Z Z Z (e:=63) J Z) Z ?_;refine jY aq Z (ux (e:=3) (w:=8) (z:=[gZ 0]) J J J J Z Z oM oM) (fun _=>Z) (fun V R aq=>?_);rw[wJ (f:=gZ)] at aq;refine bH aq Z (ea (cs:=[.aB]) J J) (fun _=>Z) (fun V U aq=>?_);refine db aq Z (bz Z Z Z (aq.get 0 Z) (m:=1) J Z (Nat.le_of_ble_eq_true Z) (ar Z aS) (cells':=[_]) Z) Z (fun V aq=>?_);refine af ?_;refine ad ?_;refine ai ?_;refine ah Z ?_;refine bH aq Z (ea (cs:=[.bool false,.bool false,.bool false,.bool false,.bool false]) J J) (fun _=>Z) (fun V W aq=>?_);refine af ?_;refine ad ?_;refine ai ?_;refine ah Z ?_;refine bH aq Z (ea (cs:=[.nilFunc]) J J) (fun _=>Z) (fun V X aq=>?_);refine af ?_;refine ad ?_;refine ai ?_;refine ah Z ?_;refine S Z (bK Z Z) Z ?_;refine db aq Z (bz Z Z Z (aq.get 0 Z) (m:=1) J Z (Nat.le_of_ble_eq_true Z) (ar Z aS) (cells':=[_]) Z) Z (fun V aq=>?_);refine af ?_;refine ad ?_;refine ah Z ?_;refine S Z (aw Z (aq.get 0 Z) J Z) Z ?_;replace aq:=(aq.perm<|Gi ..).w8.w8.w8;have hK:=KP.le_trans (KP.vA K X (.row [.func 63 [] [pl,.ptr u 0,.ptr U 0,.ptr W 0,pc,.ptr X 0]] 102 false)) (KP.le_trans (KP.vA _ U (.row [.slice R 0 l.length (.known l.length)] 28 false))<|KP.vA _ u (.row [.yield b] 73 false));refine dJ Z (aR Z Z Z J) (fun _=>Z) (Nn Q (hl.mono hK fun _ _ h=>h.mono hK) Z d (hc.mono hK fun _ _ h=>h) C (A.mono hK) (.one (.inr ⟨Z,Z⟩)) (.one (.inl (.inr ⟨Z,Z⟩))) (E.mono hK) (.one (.inl (.inl (.inr ⟨Z,Z⟩)))) (I:=I) (T:=iB l cls) (fun acc p tk L V F hb hp hm aq=>hY _ [(W,.row (tk.map gB) 101 false)] acc p R L V hK F hb hp hm aq) l.length 1 (List.replicate 5 false) (List.replicate l.length 0) [] L _ oM (nR_ _) (by simp) Z F (by rw[show([]:List (List Int)).length=0 from Z,nA_];exact Nat.le_trans (Nat.pow_le_pow_left d _)<|Nat.pow_le_pow_right oM d) (fun x hx=>hx) aq) ?_;rintro _ V ⟨rfl,L2,hI2,aq⟩;refine af ?_;exact ju Z ⟨L2,hI2,(aq.pop.pop).weaken hK⟩
theorem rT {G:Cx} (hG:Plain G) {K:KP} {k1 k2:Nat} {l1 l2:List XE} {v1 v2:Y} {V:B} {L:Own} (aq:H V K L) (h1:bI K 4 (gX K k1) l1 v1) (h2:bI K 4 (gX K k2) l2 v2)
  (Q:∀x y vx vy V L,H V K L->gX K k1 x vx->gX K k2 y vy->aT Tryz.prog G 112 [.agg vx,.agg vy] V fun v V'=>v= .bool (bV x y)/\H V' K L):
  aT Tryz.prog G 111 [v1,v2,.func 112 [] []] V fun v V'=>v= .bool (bV l1 l2)/\H V' K L:=by
 refine aW hG Tryz.func111 Z (t:=((D.leaf.put (some (v1)) 0).put (some (v2)) 1).put (some (.func 112 [] [])) 2) (by rfl) ?_;refine ai ?_;refine ah Z ?_;refine S Z (aj Z) Z ?_;refine af ?_;refine ad ?_;refine ai ?_;refine ai ?_;refine ah Z ?_;refine S Z (N Z) Z ?_;refine S Z (aO h1 Z Z Z (e:=100) J Z) Z ?_;refine S Z (N Z) Z ?_;refine S Z (aO h2 Z Z Z (e:=100) J Z) Z ?_;refine S Z (aA Z Z Z) Z ?_;refine af ?_;refine ad ?_;refine aC Z (fun d=>?_) (fun d=>?_)
 ·refine ai ?_;refine ah Z ?_;refine S Z (aj Z) Z ?_;refine af ?_;refine ad ?_;refine aD ?_;refine az (?_);exact ay Z Z ⟨by first | rw[dN<|cd d] | rw[ef u A (by simpa using C)] | rw[dn (cQ<|bF d) (bx E) b],aq⟩
 refine aG ?_;refine ad ?_;refine ai ?_;refine ai ?_;refine ah Z ?_;refine S Z (N Z) Z ?_;refine S Z (aO h1 Z Z Z (e:=100) J Z) Z ?_;refine S Z (N Z) Z ?_;refine af ?_;refine ad ?_;refine aJ ?_;obtain⟨LL1,aq,hLL1⟩:=aq.named;refine ba [6,7,8,9,17,18,19,20,21,22,23,24,25,26,27,28,29,30,31] (fun j t V=>∃(i:Nat),j+i=l1.length/\(∀k,k<i->l1[k]? =l2[k]?)/\t.get 17=some (.int .i64 (.ofNat i))/\H V K LL1) (l1.length) ⟨0,Z,fun k hk=>absurd hk (nZ_ _),Z,aq⟩ ?_;clear aq;intro j4 t V an hI;obtain⟨i,hj,b,F,aq⟩:=hI;subst hLL1;replace an:=an.bR Z Z;obtain⟨o6,o7,o8,o9,aa,au,av,ab,an⟩:=an;replace an:=an.bR Z Z;obtain⟨aE,a0,a1,ac,a2,a3,a4,a5,an⟩:=an;replace an:=an.eb Z;obtain⟨a9,an⟩:=an;replace an:=an.eb Z;obtain⟨bb,an⟩:=an;replace an:=an.eb Z;obtain⟨bd,an⟩:=an;obtain rfl:=an.nil;clear an;replace F:aa=some _:=F;subst F;refine ai ?_;refine ah Z ?_;refine S Z (aA Z Z Z) Z ?_;refine af ?_;refine ad ?_;refine ai ?_;refine aC Z (fun E=>?_) (fun E=>?_)
 ·refine aG ?_;refine ad ?_;refine ai ?_;refine aJ ?_;refine ai ?_;refine ah Z ?_;refine S Z (N Z) Z ?_;obtain⟨be,u,R⟩:=cO E;refine bO (e:=100) (m:=4) h1 u Z Z J J Z Z (fun _=>Z) (fun bi ak T am I=>?_);obtain⟨ab,bk,bl,bm,rfl,U⟩:=I.shape;refine S Z (bC aq T Z J Z) Z ?_;refine bH aq Z (ea (cs:=[.int .i64 0,.int .i64 0,.str [],.aB]) J J) (fun _=>Z) (fun V b1 aq=>?_);refine S Z (aj Z) Z ?_;refine db aq Z (bz Z Z Z (aq.get 0 Z) (m:=4) J Z (Nat.le_of_ble_eq_true Z) (ar Z<|ar Z<|ar Z<|ar U.leaf.2 aS) (cells':=[_,_,_,_]) Z) Z (fun V aq=>?_);refine af ?_;refine ad ?_;refine ai ?_;refine ah Z ?_;refine S Z (N Z) Z ?_;refine S Z (N Z) Z ?_;obtain⟨bo,A⟩:=cF (show _<l2.length from by rw[<-cQ (bF d)];exact R);refine bO (e:=100) (m:=4) h2 A Z Z J J Z Z (fun _=>Z) (fun bs ao W ap M=>?_);obtain⟨ac,bt,bv,bw,rfl,X⟩:=M.shape;refine S Z (bC aq W Z J Z) Z ?_;refine bH aq Z (ea (cs:=[.int .i64 0,.int .i64 0,.str [],.aB]) J J) (fun _=>Z) (fun V b2 aq=>?_);refine db aq Z (bz Z Z Z (aq.get 0 Z) (m:=4) J Z (Nat.le_of_ble_eq_true Z) (ar Z<|ar Z<|ar Z<|ar X.leaf.2 aS) (cells':=[_,_,_,_]) Z) Z (fun V aq=>?_);refine af ?_;refine ad ?_;refine ai ?_;refine ah Z ?_;refine S Z (N Z) Z ?_;refine S Z (bA Z (aq.get 1 Z) (n:=4) (vs:=[_,_,_,_]) J (Nat.le_of_ble_eq_true Z) Z) Z ?_;refine S Z (bA Z (aq.get 0 Z) (n:=4) (vs:=[_,_,_,_]) J (Nat.le_of_ble_eq_true Z) Z) Z ?_;refine bh Z (aR Z Z Z J) (fun _=>Z) (Q _ _ _ _ _ _ aq I M) (fun V aq=>?_);refine S Z (dX Z) Z ?_;refine af ?_;refine ad ?_;refine aC Z (fun C=>?_) (fun C=>?_)
  ·refine ai ?_;refine ah Z ?_;refine S Z (aj Z) Z ?_;refine af ?_;refine ad ?_;refine aD ?_;refine aK<|az<|bp<|aK<|az (?_);exact ay Z Z ⟨by first | rw[dN<|cd d] | rw[ef u A (by simpa using C)] | rw[dn (cQ<|bF d) (bx E) b],aq.pop.pop⟩
  refine aG ?_;refine aH ?_;refine ad ?_;refine ah Z ?_;refine S Z (aA Z Z Z) Z ?_;refine S Z (N Z) Z ?_;refine af ?_;have aq:=aq.pop;have aq:=aq.pop;refine aL ⟨j4-1,by omega,(by(iterate 37 refine a8.put Z ?_);exact a8.refl _ _),i+1,by omega,gQ b u A (by simpa using C),congrArg (fun z=>some (Y.int .i64 z))<|aZ (by have:=h1.bM;omega),aq⟩
 refine bc ?_;refine aP ?_;refine aQ ?_;refine aN ?_;refine ad ?_;refine ai ?_;refine ah Z ?_;refine S Z (aj Z) Z ?_;refine af ?_;refine ad ?_;refine aD ?_;exact ay Z Z ⟨by first | rw[dN<|cd d] | rw[ef u A (by simpa using C)] | rw[dn (cQ<|bF d) (bx E) b],aq⟩
theorem zU {G:Cx} (hG:Plain G) {K:KP} {k1 k2:Nat} {l1 l2:List XI} {v1 v2:Y} {V:B} {L:Own} (aq:H V K L) (h1:bI K 6 (qP K k1) l1 v1) (h2:bI K 6 (qP K k2) l2 v2)
  (Q:∀x y vx vy V L,H V K L->qP K k1 x vx->qP K k2 y vy->aT Tryz.prog G 75 [.agg vx,.agg vy] V fun v V'=>v= .bool (bV x y)/\H V' K L):
  aT Tryz.prog G 74 [v1,v2,.func 75 [] []] V fun v V'=>v= .bool (bV l1 l2)/\H V' K L:=by
 refine aW hG Tryz.func74 Z (t:=((D.leaf.put (some (v1)) 0).put (some (v2)) 1).put (some (.func 75 [] [])) 2) (by rfl) ?_;refine ai ?_;refine ah Z ?_;refine S Z (aj Z) Z ?_;refine af ?_;refine ad ?_;refine ai ?_;refine ai ?_;refine ah Z ?_;refine S Z (N Z) Z ?_;refine S Z (aO h1 Z Z Z (e:=97) J Z) Z ?_;refine S Z (N Z) Z ?_;refine S Z (aO h2 Z Z Z (e:=97) J Z) Z ?_;refine S Z (aA Z Z Z) Z ?_;refine af ?_;refine ad ?_;refine aC Z (fun d=>?_) (fun d=>?_)
 ·refine ai ?_;refine ah Z ?_;refine S Z (aj Z) Z ?_;refine af ?_;refine ad ?_;refine aD ?_;refine az (?_);exact ay Z Z ⟨by first | rw[dN<|cd d] | rw[ef u A (by simpa using C)] | rw[dn (cQ<|bF d) (bx E) b],aq⟩
 refine aG ?_;refine ad ?_;refine ai ?_;refine ai ?_;refine ah Z ?_;refine S Z (N Z) Z ?_;refine S Z (aO h1 Z Z Z (e:=97) J Z) Z ?_;refine S Z (N Z) Z ?_;refine af ?_;refine ad ?_;refine aJ ?_;obtain⟨LL1,aq,hLL1⟩:=aq.named;refine ba [6,7,8,9,17,18,19,20,21,22,23,24,25,26,27,28,29,30,31] (fun j t V=>∃(i:Nat),j+i=l1.length/\(∀k,k<i->l1[k]? =l2[k]?)/\t.get 17=some (.int .i64 (.ofNat i))/\H V K LL1) (l1.length) ⟨0,Z,fun k hk=>absurd hk (nZ_ _),Z,aq⟩ ?_;clear aq;intro j4 t V an hI;obtain⟨i,hj,b,F,aq⟩:=hI;subst hLL1;replace an:=an.bR Z Z;obtain⟨o6,o7,o8,o9,aa,ao,ap,au,an⟩:=an;replace an:=an.bR Z Z;obtain⟨av,aE,a0,a1,a2,a3,a4,a5,an⟩:=an;replace an:=an.eb Z;obtain⟨a9,an⟩:=an;replace an:=an.eb Z;obtain⟨bb,an⟩:=an;replace an:=an.eb Z;obtain⟨bd,an⟩:=an;obtain rfl:=an.nil;clear an;replace F:aa=some _:=F;subst F;refine ai ?_;refine ah Z ?_;refine S Z (aA Z Z Z) Z ?_;refine af ?_;refine ad ?_;refine ai ?_;refine aC Z (fun E=>?_) (fun E=>?_)
 ·refine aG ?_;refine ad ?_;refine ai ?_;refine aJ ?_;refine ai ?_;refine ah Z ?_;refine S Z (N Z) Z ?_;obtain⟨be,u,R⟩:=cO E;refine bO (e:=97) (m:=6) h1 u Z Z J J Z Z (fun _=>Z) (fun bi ab T ac I=>?_);have hr20':=I;obtain⟨bk,rfl,U⟩:=hr20';refine S Z (bC aq T Z J Z) Z ?_;refine bH aq Z (ea (cs:=[.int .i64 0,.int .i64 0,.int .i64 0,.int .i64 0,.int .i64 0,.aB]) J J) (fun _=>Z) (fun V b1 aq=>?_);refine S Z (aj Z) Z ?_;refine db aq Z (bz Z Z Z (aq.get 0 Z) (m:=6) J Z (Nat.le_of_ble_eq_true Z) (ar Z<|ar Z<|ar Z<|ar Z<|ar Z<|ar U.leaf.2 aS) (cells':=[_,_,_,_,_,_]) Z) Z (fun V aq=>?_);refine af ?_;refine ad ?_;refine ai ?_;refine ah Z ?_;refine S Z (N Z) Z ?_;refine S Z (N Z) Z ?_;obtain⟨bl,A⟩:=cF (show _<l2.length from by rw[<-cQ (bF d)];exact R);refine bO (e:=97) (m:=6) h2 A Z Z J J Z Z (fun _=>Z) (fun bm ak W am M=>?_);have hr24':=M;obtain⟨bo,rfl,X⟩:=hr24';refine S Z (bC aq W Z J Z) Z ?_;refine bH aq Z (ea (cs:=[.int .i64 0,.int .i64 0,.int .i64 0,.int .i64 0,.int .i64 0,.aB]) J J) (fun _=>Z) (fun V b2 aq=>?_);refine db aq Z (bz Z Z Z (aq.get 0 Z) (m:=6) J Z (Nat.le_of_ble_eq_true Z) (ar Z<|ar Z<|ar Z<|ar Z<|ar Z<|ar X.leaf.2 aS) (cells':=[_,_,_,_,_,_]) Z) Z (fun V aq=>?_);refine af ?_;refine ad ?_;refine ai ?_;refine ah Z ?_;refine S Z (N Z) Z ?_;refine S Z (bA Z (aq.get 1 Z) (n:=6) (vs:=[_,_,_,_,_,_]) J (Nat.le_of_ble_eq_true Z) Z) Z ?_;refine S Z (bA Z (aq.get 0 Z) (n:=6) (vs:=[_,_,_,_,_,_]) J (Nat.le_of_ble_eq_true Z) Z) Z ?_;refine bh Z (aR Z Z Z J) (fun _=>Z) (Q _ _ _ _ _ _ aq I M) (fun V aq=>?_);refine S Z (dX Z) Z ?_;refine af ?_;refine ad ?_;refine aC Z (fun C=>?_) (fun C=>?_)
  ·refine ai ?_;refine ah Z ?_;refine S Z (aj Z) Z ?_;refine af ?_;refine ad ?_;refine aD ?_;refine aK<|az<|bp<|aK<|az (?_);exact ay Z Z ⟨by first | rw[dN<|cd d] | rw[ef u A (by simpa using C)] | rw[dn (cQ<|bF d) (bx E) b],aq.pop.pop⟩
  refine aG ?_;refine aH ?_;refine ad ?_;refine ah Z ?_;refine S Z (aA Z Z Z) Z ?_;refine S Z (N Z) Z ?_;refine af ?_;have aq:=aq.pop;have aq:=aq.pop;refine aL ⟨j4-1,by omega,(by(iterate 37 refine a8.put Z ?_);exact a8.refl _ _),i+1,by omega,gQ b u A (by simpa using C),congrArg (fun z=>some (Y.int .i64 z))<|aZ (by have:=h1.bM;omega),aq⟩
 refine bc ?_;refine aP ?_;refine aQ ?_;refine aN ?_;refine ad ?_;refine ai ?_;refine ah Z ?_;refine S Z (aj Z) Z ?_;refine af ?_;refine ad ?_;refine aD ?_;exact ay Z Z ⟨by first | rw[dN<|cd d] | rw[ef u A (by simpa using C)] | rw[dn (cQ<|bF d) (bx E) b],aq⟩
theorem DY {G:Cx} (F:Plain G) {K:KP}:∀(A u:Nat) (x y:XE) (vx vy:List Y),gX K A x vx->gX K u y vy->∀(V:B) (L:Own),H V K L->aT Tryz.prog G 112 [.agg vx,.agg vy] V fun v V'=>v= .bool (bV x y)/\H V' K L:=by
 intro A;induction A with
 | zero=>intro u x y vx vy h;cases x;exact h.elim
 | succ A ih=>
 intro u x y vx vy h h' V L aq;cases u with
 | zero=>cases y;exact h'.elim
 | succ u=>
 obtain⟨o1,n1,s1,aa⟩:=x;obtain⟨o2,n2,s2,ab⟩:=y;obtain⟨v1,rfl,C⟩:=h;obtain⟨v2,rfl,E⟩:=h';refine aW F Tryz.func112 Z (t:=(D.leaf.put (some (.agg _)) 0).put (some (.agg _)) 1) (by rfl) ?_;refine ai ?_;refine ah Z ?_;refine bH aq Z (cL Z Z) (fun _=>Z) (fun V b1 aq=>?_);refine bH aq Z (cL Z Z) (fun _=>Z) (fun V b2 aq=>?_);refine S Z (aj Z) Z ?_;refine af ?_;refine ad ?_;refine ai ?_;refine ah Z ?_;refine S Z (ax Z (k:=0) J) Z ?_;refine S Z (aw Z (aq.get 1 Z) J Z) Z ?_;refine S Z (ax Z (k:=0) J) Z ?_;refine S Z (aw Z (aq.get 0 Z) J Z) Z ?_;refine S Z (aA Z Z Z) Z ?_;refine bg Z (N Z) (fun _=>Z) (fun b=>?_) (fun b=>?_)
 ·refine S Z (ax Z (k:=1) J) Z ?_;refine S Z (aw Z (aq.get 1 Z) J Z) Z ?_;refine S Z (ax Z (k:=1) J) Z ?_;refine S Z (aw Z (aq.get 0 Z) J Z) Z ?_;refine S Z (aA Z Z Z) Z ?_;refine S Z (aI Z Z) Z ?_;refine bg Z (N Z) (fun _=>Z) (fun d=>?_) (fun d=>?_)
  ·refine S Z (ax Z (k:=2) J) Z ?_;refine S Z (aw Z (aq.get 1 Z) J Z) Z ?_;refine S Z (ax Z (k:=2) J) Z ?_;refine S Z (aw Z (aq.get 0 Z) J Z) Z ?_;refine S Z (aA Z Z Z) Z ?_;refine S Z (aI Z Z) Z ?_;refine bg Z (N Z) (fun _=>Z) (fun m=>?_) (fun m=>?_)
   ·refine S Z (ax Z (k:=3) J) Z ?_;refine S Z (aw Z (aq.get 1 Z) J Z) Z ?_;refine S Z (ax Z (k:=3) J) Z ?_;refine S Z (aw Z (aq.get 0 Z) J Z) Z ?_;refine bh Z (aR Z Z Z J) (fun _=>Z) (rT F aq C E (fun x y vx vy V L aq hx hy=>ih _ x y vx vy hx hy V L aq)) (fun V aq=>?_);refine S Z (aI Z Z) Z ?_;refine S Z (aj Z) Z ?_;refine af ?_;refine ad ?_;refine aD ?_;exact ay Z Z ⟨by rw[uq];simp only[b,d,m,Bool.true_and,Bool.false_and],aq.pop.pop⟩
   refine ae Z Z ?_;refine ae Z Z ?_;refine ae Z Z ?_;refine ae Z Z ?_;refine ae Z Z ?_;refine S Z (aI Z Z) Z ?_;refine S Z (aj Z) Z ?_;refine af ?_;refine ad ?_;refine aD ?_;exact ay Z Z ⟨by rw[uq];simp only[b,d,m,Bool.true_and,Bool.false_and],aq.pop.pop⟩
  refine ae Z Z ?_;refine ae Z Z ?_;refine ae Z Z ?_;refine ae Z Z ?_;refine ae Z Z ?_;refine S Z (aI Z Z) Z ?_;refine S Z (N Z) Z ?_;refine ae Z Z ?_;refine ae Z Z ?_;refine ae Z Z ?_;refine ae Z Z ?_;refine ae Z Z ?_;refine S Z (aI Z Z) Z ?_;refine S Z (aj Z) Z ?_;refine af ?_;refine ad ?_;refine aD ?_;exact ay Z Z ⟨by rw[uq];simp only[b,d,Bool.true_and,Bool.false_and],aq.pop.pop⟩
 refine ae Z Z ?_;refine ae Z Z ?_;refine ae Z Z ?_;refine ae Z Z ?_;refine ae Z Z ?_;refine S Z (aI Z Z) Z ?_;refine S Z (N Z) Z ?_;refine ae Z Z ?_;refine ae Z Z ?_;refine ae Z Z ?_;refine ae Z Z ?_;refine ae Z Z ?_;refine S Z (aI Z Z) Z ?_;refine S Z (N Z) Z ?_;refine ae Z Z ?_;refine ae Z Z ?_;refine ae Z Z ?_;refine ae Z Z ?_;refine ae Z Z ?_;refine S Z (aI Z Z) Z ?_;refine S Z (aj Z) Z ?_;refine af ?_;refine ad ?_;refine aD ?_;exact ay Z Z ⟨by rw[uq];simp only[b,Bool.true_and,Bool.false_and],aq.pop.pop⟩
theorem GP {G:Cx} (C:Plain G) {K:KP} {I M:Nat} {x y:XI} {vx vy:List Y} {V:B} {L:Own} (aq:H V K L) (h:qP K I x vx) (h':qP K M y vy):aT Tryz.prog G 75 [.agg vx,.agg vy] V fun v V'=>v= .bool (bV x y)/\H V' K L:=by
 have h1:=h;have h1':=h';obtain⟨v1,rfl,E⟩:=h1;obtain⟨v2,rfl,F⟩:=h1';refine aW C Tryz.func75 Z (t:=(D.leaf.put (some (.agg _)) 0).put (some (.agg _)) 1) (by rfl) ?_;refine ai ?_;refine ah Z ?_;refine bH aq Z (cL Z Z) (fun _=>Z) (fun V b1 aq=>?_);refine bH aq Z (cL Z Z) (fun _=>Z) (fun V b2 aq=>?_);refine S Z (aj Z) Z ?_;refine af ?_;refine ad ?_;refine ai ?_;refine ah Z ?_;refine S Z (ax Z (k:=0) J) Z ?_;refine S Z (aw Z (aq.get 1 Z) J Z) Z ?_;refine S Z (ax Z (k:=0) J) Z ?_;refine S Z (aw Z (aq.get 0 Z) J Z) Z ?_;refine S Z (aA Z Z Z) Z ?_;refine bg Z (N Z) (fun _=>Z) (fun b=>?_) (fun b=>?_)
 ·refine S Z (ax Z (k:=1) J) Z ?_;refine S Z (aw Z (aq.get 1 Z) J Z) Z ?_;refine S Z (ax Z (k:=1) J) Z ?_;refine S Z (aw Z (aq.get 0 Z) J Z) Z ?_;refine S Z (aA Z Z Z) Z ?_;refine S Z (aI Z Z) Z ?_;refine bg Z (N Z) (fun _=>Z) (fun d=>?_) (fun d=>?_)
  ·refine S Z (ax Z (k:=2) J) Z ?_;refine S Z (aw Z (aq.get 1 Z) J Z) Z ?_;refine S Z (ax Z (k:=2) J) Z ?_;refine S Z (aw Z (aq.get 0 Z) J Z) Z ?_;refine S Z (aA Z Z Z) Z ?_;refine S Z (aI Z Z) Z ?_;refine bg Z (N Z) (fun _=>Z) (fun m=>?_) (fun m=>?_)
   ·refine S Z (ax Z (k:=3) J) Z ?_;refine S Z (aw Z (aq.get 1 Z) J Z) Z ?_;refine S Z (ax Z (k:=3) J) Z ?_;refine S Z (aw Z (aq.get 0 Z) J Z) Z ?_;refine S Z (aA Z Z Z) Z ?_;refine S Z (aI Z Z) Z ?_;refine bg Z (N Z) (fun _=>Z) (fun u=>?_) (fun u=>?_)
    ·refine S Z (ax Z (k:=4) J) Z ?_;refine S Z (aw Z (aq.get 1 Z) J Z) Z ?_;refine S Z (ax Z (k:=4) J) Z ?_;refine S Z (aw Z (aq.get 0 Z) J Z) Z ?_;refine S Z (aA Z Z Z) Z ?_;refine S Z (aI Z Z) Z ?_;refine bg Z (N Z) (fun _=>Z) (fun A=>?_) (fun A=>?_)
     ·refine S Z (ax Z (k:=5) J) Z ?_;refine S Z (aw Z (aq.get 1 Z) J Z) Z ?_;refine S Z (ax Z (k:=5) J) Z ?_;refine S Z (aw Z (aq.get 0 Z) J Z) Z ?_;refine bh Z (aR Z Z Z J) (fun _=>Z) (rT C aq E F (fun x y vx vy V L aq hx hy=>DY C _ _ x y vx vy hx hy V L aq)) (fun V aq=>?_);refine S Z (aI Z Z) Z ?_;refine S Z (aj Z) Z ?_;refine af ?_;refine ad ?_;refine aD ?_;exact ay Z Z ⟨by rw[pe];simp only[b,d,m,u,A,Bool.true_and,Bool.false_and],aq.pop.pop⟩
     refine ae Z Z ?_;refine ae Z Z ?_;refine ae Z Z ?_;refine ae Z Z ?_;refine ae Z Z ?_;refine S Z (aI Z Z) Z ?_;refine S Z (aj Z) Z ?_;refine af ?_;refine ad ?_;refine aD ?_;exact ay Z Z ⟨by rw[pe];simp only[b,d,m,u,A,Bool.true_and,Bool.false_and],aq.pop.pop⟩
    refine ae Z Z ?_;refine ae Z Z ?_;refine ae Z Z ?_;refine ae Z Z ?_;refine ae Z Z ?_;refine S Z (aI Z Z) Z ?_;refine S Z (N Z) Z ?_;refine ae Z Z ?_;refine ae Z Z ?_;refine ae Z Z ?_;refine ae Z Z ?_;refine ae Z Z ?_;refine S Z (aI Z Z) Z ?_;refine S Z (aj Z) Z ?_;refine af ?_;refine ad ?_;refine aD ?_;exact ay Z Z ⟨by rw[pe];simp only[b,d,m,u,Bool.true_and,Bool.false_and],aq.pop.pop⟩
   refine ae Z Z ?_;refine ae Z Z ?_;refine ae Z Z ?_;refine ae Z Z ?_;refine ae Z Z ?_;refine S Z (aI Z Z) Z ?_;refine S Z (N Z) Z ?_;refine ae Z Z ?_;refine ae Z Z ?_;refine ae Z Z ?_;refine ae Z Z ?_;refine ae Z Z ?_;refine S Z (aI Z Z) Z ?_;refine S Z (N Z) Z ?_;refine ae Z Z ?_;refine ae Z Z ?_;refine ae Z Z ?_;refine ae Z Z ?_;refine ae Z Z ?_;refine S Z (aI Z Z) Z ?_;refine S Z (aj Z) Z ?_;refine af ?_;refine ad ?_;refine aD ?_;exact ay Z Z ⟨by rw[pe];simp only[b,d,m,Bool.true_and,Bool.false_and],aq.pop.pop⟩
  refine ae Z Z ?_;refine ae Z Z ?_;refine ae Z Z ?_;refine ae Z Z ?_;refine ae Z Z ?_;refine S Z (aI Z Z) Z ?_;refine S Z (N Z) Z ?_;refine ae Z Z ?_;refine ae Z Z ?_;refine ae Z Z ?_;refine ae Z Z ?_;refine ae Z Z ?_;refine S Z (aI Z Z) Z ?_;refine S Z (N Z) Z ?_;refine ae Z Z ?_;refine ae Z Z ?_;refine ae Z Z ?_;refine ae Z Z ?_;refine ae Z Z ?_;refine S Z (aI Z Z) Z ?_;refine S Z (N Z) Z ?_;refine ae Z Z ?_;refine ae Z Z ?_;refine ae Z Z ?_;refine ae Z Z ?_;refine ae Z Z ?_;refine S Z (aI Z Z) Z ?_;refine S Z (aj Z) Z ?_;refine af ?_;refine ad ?_;refine aD ?_;exact ay Z Z ⟨by rw[pe];simp only[b,d,Bool.true_and,Bool.false_and],aq.pop.pop⟩
 refine ae Z Z ?_;refine ae Z Z ?_;refine ae Z Z ?_;refine ae Z Z ?_;refine ae Z Z ?_;refine S Z (aI Z Z) Z ?_;refine S Z (N Z) Z ?_;refine ae Z Z ?_;refine ae Z Z ?_;refine ae Z Z ?_;refine ae Z Z ?_;refine ae Z Z ?_;refine S Z (aI Z Z) Z ?_;refine S Z (N Z) Z ?_;refine ae Z Z ?_;refine ae Z Z ?_;refine ae Z Z ?_;refine ae Z Z ?_;refine ae Z Z ?_;refine S Z (aI Z Z) Z ?_;refine S Z (N Z) Z ?_;refine ae Z Z ?_;refine ae Z Z ?_;refine ae Z Z ?_;refine ae Z Z ?_;refine ae Z Z ?_;refine S Z (aI Z Z) Z ?_;refine S Z (N Z) Z ?_;refine ae Z Z ?_;refine ae Z Z ?_;refine ae Z Z ?_;refine ae Z Z ?_;refine ae Z Z ?_;refine S Z (aI Z Z) Z ?_;refine S Z (aj Z) Z ?_;refine af ?_;refine ad ?_;refine aD ?_;exact ay Z Z ⟨by rw[pe];simp only[b,Bool.true_and,Bool.false_and],aq.pop.pop⟩
theorem Ni {G:Cx} (d:Plain G) {K:KP} {A C:Nat} {x y:XC} {vx vy:List Y} {V:B} {L:Own} (aq:H V K L) (h:jF K A x vx) (h':jF K C y vy):aT Tryz.prog G 42 [.agg vx,.agg vy] V fun v V'=>v= .bool (bV x y)/\H V' K L:=by
 have h1:=h;have h1':=h';obtain⟨v1,rfl,m⟩:=h1;obtain⟨v2,rfl,u⟩:=h1';refine aW d Tryz.func42 Z (t:=(D.leaf.put (some (.agg _)) 0).put (some (.agg _)) 1) (by rfl) ?_;refine ai ?_;refine ah Z ?_;refine bH aq Z (cL Z Z) (fun _=>Z) (fun V b1 aq=>?_);refine bH aq Z (cL Z Z) (fun _=>Z) (fun V b2 aq=>?_);refine S Z (aj Z) Z ?_;refine af ?_;refine ad ?_;refine ai ?_;refine ah Z ?_;refine S Z (ax Z (k:=0) J) Z ?_;refine S Z (aw Z (aq.get 1 Z) J Z) Z ?_;refine S Z (ax Z (k:=0) J) Z ?_;refine S Z (aw Z (aq.get 0 Z) J Z) Z ?_;refine S Z (aA Z Z Z) Z ?_;refine bg Z (N Z) (fun _=>Z) (fun b=>?_) (fun b=>?_)
 ·refine S Z (ax Z (k:=1) J) Z ?_;refine S Z (aw Z (aq.get 1 Z) J Z) Z ?_;refine S Z (ax Z (k:=1) J) Z ?_;refine S Z (aw Z (aq.get 0 Z) J Z) Z ?_;refine bh Z (aR Z Z Z J) (fun _=>Z) (zU d aq m u (fun x y vx vy V L aq hx hy=>GP d aq hx hy)) (fun V aq=>?_);refine S Z (aI Z Z) Z ?_;refine S Z (aj Z) Z ?_;refine af ?_;refine ad ?_;refine aD ?_;exact ay Z Z ⟨by rw[E0];simp only[b,Bool.true_and,Bool.false_and],aq.pop.pop⟩
 refine ae Z Z ?_;refine ae Z Z ?_;refine ae Z Z ?_;refine ae Z Z ?_;refine ae Z Z ?_;refine S Z (aI Z Z) Z ?_;refine S Z (aj Z) Z ?_;refine af ?_;refine ad ?_;refine aD ?_;exact ay Z Z ⟨by rw[E0];simp only[b,Bool.true_and,Bool.false_and],aq.pop.pop⟩
end Go.Ev
namespace Go.Ev
variable [Env]
def rk (g:XG) (loc:Int):Int:=match(dL g loc).getLast? with | none=>0 | some id=>(uU<|dR g id).write
def Es (k:Nat):List XC->List (List cq)->Option (List Int)
 | [],_=>some []
 | _::_,[]=>none
 | c::l,r::g=>bif bD (ep k c r).2 0 then(Es k l g).map fun e=>(ep k c r).1.fin::e else none
def Lz (k:Nat) (l:List XC) (g:XG):Option (List Int):=
 bif bW (bD (cy g) 0) then none else bif bW (bD (.ofNat l.length) (.ofNat g.threads.length)) then none else Es k l g.threads
def EG (g:XG):List Int->Nat->Bool
 | [],_=>true
 | v::r,i=>bif bW (bD v<|rk g (.ofNat i)) then false else EG g r (i+1)
def Lu (k:Nat) (l:List XC) (m:List Int) (g:XG):Option (List Int):=
 match Lz k l g with
 | none=>none
 | some e=>bif bW (bD (.ofNat m.length) (.ofNat g.init.length)) then none else bif EG g m 0 then some e else none
def Qh (k:Nat) (l:List XC) (m:List Int) (g:XG):Bool:=(Lu k l m g).isSome
structure XM where
 mem:List Int
 g:XG
structure Cy where
 xH:cq
 fr:cm
 place:Int
 mem:List Int
def rn (n:sZ):Int:=bif bW (bD n.ask.kind 0) then n.ask.loc else n.event.loc
def jO (n:sZ) (m:List Int) (g:XG):Cy:=
 bif bD n.event.kind 4 then⟨n.event,⟨0,0⟩,0,m⟩ else
 let all:=dL g (rn n)
 let xH:=bif bW (bD n.ask.kind 0) then eS n.ask ((m[(rn n).toNat]?).getD 0) else n.event
 let fr:=bif bW (bD n.ask.kind 0) then(all.getLast?).getD ⟨0,0⟩ else⟨0,0⟩
 bif bW (bD xH.kind 1) then⟨xH,fr,.ofNat all.length,m.set (rn n).toNat xH.write⟩ else⟨xH,fr,0,m⟩
def uG (n:sZ) (g:XG):Bool:=bif bW (bD n.event.kind 4) then(bif da (rn n) 0 then true else bW (da (rn n) (.ofNat g.init.length))) else false
def C0 (k:Nat) (c:XC) (row:List cq) (g:XG):Int:=
 bif bW (bD (ep k c row).2 0) then(ep k c row).2 else
 bif bW (bD (ep k c row).1.fin 0) then 10 else
 bif bW (da (.ofNat row.length) 14) then 3 else
 bif uG (ep k c row).1 g then 2 else 0
def NQ (p:Cy) (th:Int) (g:XG):Option XM×Int:=
 match mq g th p.xH p.fr p.place with
 | (some g',e)=>(some ⟨p.mem,g'⟩,e)
 | (none,e)=>(none,e)
def BP (k:Nat) (l:List XC) (r:XM) (t:Nat):Option XM×Int:=
 match l[t]?,r.g.threads[t]? with
 | some c,some row=>bif bW (bD (C0 k c row r.g) 0) then(none,C0 k c row r.g) else NQ (jO (ep k c row).1 r.mem r.g) (.ofNat (t+1)) r.g
 | _,_=>(none,2)
structure Cs (k:Nat) (l:List XC) (r:XM):Prop where
 QB:cy r.g=0
 len:r.g.threads.length=l.length
 mem:r.mem.length=r.g.init.length
 last:∀i:Nat,i<r.g.init.length->r.mem[i]? =some (rk r.g (.ofNat i))
 fits:∀(t:Nat) (c:XC) (row:List cq),l[t]? =some c->r.g.threads[t]? =some row->mS k c row
theorem vg {k:Nat}:∀{l:List XC} {g:List (List cq)},l.length=g.length->(∀(t:Nat) (c:XC) (row:List cq),l[t]? =some c->g[t]? =some row->mS k c row)->∃e,Es k l g=some e/\e.length=l.length
 | [],_,_,_=>⟨[],Z,Z⟩
 | _::_,[],h,_=>by simp at h
 | c::l,r::g,h,hf=>by
  obtain⟨e,he,hl⟩:=vg (k:=k) (l:=l) (g:=g) (by simpa using h) (fun t c row h1 b=>hf (t+1) c row (by simpa using h1) (by simpa using b));have:=vL.2 (hf 0 c r Z Z);refine⟨(ep k c r).1.fin::e,?_,?_⟩
  ·unfold Es;rw[this,he];rfl
  simp[hl]
theorem Bc {g:XG}:∀{m:List Int} {i:Nat},(∀j v,m[j]? =some v->v=rk g (.ofNat (i+j)))->EG g m i=true
 | [],_,_=>rfl
 | v::r,i,h=>by
  have h0:=h 0 v Z;rw[Nat.add_zero] at h0;unfold EG;rw[h0,fj];exact Bc fun j v hv=>by have:=h (j+1) v (by simpa using hv);rwa[show i+1+j=i+(j+1) by omega]
theorem Cs.is {k:Nat} {l:List XC} {r:XM} (h:Cs k l r):Qh k l r.mem r.g=true:=by
 obtain⟨e,he,_⟩:=vg (k:=k) (l:=l) (g:=r.g.threads) h.len.symm h.fits;unfold Qh Lu Lz;rw[h.QB,h.len,fj,he];simp only[show bW (bD 0 0)=false from Z,show bW true=false from Z,cond_false];rw[h.mem,Bc fun j v hv=>?_]
 ·simp only[fj,bW,cond_true,cond_false];rfl
 have hj:=(gA.1 hv).1;have:=h.last j (by rw[<-h.mem];exact hj)
 simp_all
theorem Ix {g:XG} (h:dy g) {ln:Nat} {r:List cm} {id:cm} (b:g.order[ln]? =some r) (hm:id∈r):∃w,dR g id=some w:=by
 have h1:=h.perm.mem_iff.2 (vT (loc:=0) b hm);obtain⟨s,i,l,e,d,m,_,u,_⟩:=gW.1 h1;have e1:id=⟨.ofNat (s+1),.ofNat i⟩:=kA (by rw[u,nA_];rfl);subst e1;exact⟨e,by rw[ij,d];exact m⟩
theorem Kg {g:XG} {ln:Nat} (h:ln<g.init.length):∃w,dR g ⟨0,.ofNat ln⟩=some w:=by
 refine⟨⟨2,ln,1,0,g.init[ln]⟩,?_⟩;show(g.init[ln]?).map _=_
 simp_all
theorem rm {g:XG} (b:cy g=0) {ln:Nat} {r:List cm} (d:g.order[ln]? =some r):rk g (.ofNat ln)=(uU<|dR g ((r.getLast?).getD ⟨0,.ofNat ln⟩)).write:=by
 unfold rk;rw[fT (by rw[b];rfl) d]
 grind
theorem mI {g:XG} (b:cy g=0) {ln:Nat} (h:ln<g.init.length):∃r,g.order[ln]? =some r:=cF (by rw[(eK.1 b).order];exact h)
theorem FY {g g':XG} (b:cy g=0) (d:cy g'=0) (hold:∀id w,dR g id=some w->dR g' id=some w) {ln:Nat} (h:ln<g.init.length) (u:g'.order[ln]? =g.order[ln]?):rk g' (.ofNat ln)=rk g (.ofNat ln):=by
 obtain⟨r,m⟩:=mI b h;rw[rm b m,rm d (by rw[u];exact m)]
 have:∃w,dR g ((r.getLast?).getD ⟨0,.ofNat ln⟩)=some w:=by
  cases hl:r.getLast? with
  | none=>exact Kg h
  | some x=>exact Ix (eK.1 b) m (List.mem_of_getLast? hl)
 grind
theorem G9 {g g':XG} {th pl:Int} {e:cq} {fr:cm} (h:mq g th e fr pl=(some g',0)):g'.init=g.init:=by
 obtain⟨_,tm,row,frow,_,_,_,_,_,rfl,_⟩:=ke h;rfl
theorem JM {g g':XG} {tm:Nat} {pl:Int} {e:cq} {fr:cm} (h:mq g (.ofNat (tm+1)) e fr pl=(some g',0)):∃row,g.threads[tm]? =some row/\g'.threads=g.threads.set tm (row++[e]):=by
 obtain⟨_,t2,row,frow,ht,h1,_,_,_,rfl,_⟩:=ke h
 grind [sv]
theorem Fy {g g':XG} {th pl:Int} {e:cq} {fr:cm} (h:mq g th e fr pl=(some g',0)) {ln:Nat} (hl:br e=true->e.loc≠ .ofNat ln):g'.order[ln]? =g.order[ln]?:=by
 obtain⟨_,tm,row,frow,_,_,_,_,hp,rfl,_⟩:=ke h
 grind [sv,EL,qV]
theorem CD {g g':XG} {tm ln:Nat} {e:cq} {fr:cm} {r:List cm} (b:g.order[ln]? =some r) (h:mq g (.ofNat (tm+1)) e fr (.ofNat (r.length+1))=(some g',0)) (hw:br e=true) (hl:e.loc= .ofNat ln):∃row,g.threads[tm]? =some row/\g'.order[ln]? =some (r++[⟨.ofNat (tm+1),.ofNat row.length⟩]):=by
 obtain⟨_,t2,row,frow,ht,h1,_,_,_,rfl,_⟩:=ke h;have:tm=t2:=by grind
 subst this;refine⟨row,h1,?_⟩;rw[sv];show(Gf g.order e _ _)[ln]? =_;unfold Gf;rw[hw,hl];have hlt:=(gA.1 b).1
 simp_all
theorem Bu {n:sZ} {m:List Int} {g:XG} (h:bD n.event.kind 4=true):jO n m g=⟨n.event,⟨0,0⟩,0,m⟩:=by unfold jO;rw[h];rfl
theorem Am {a:yG} {v:Int} (h:a.kind=2∨a.kind=4∨a.kind=5∨a.kind=6):(eS a v).loc=a.loc/\(dw (eS a v)=true):=by
 refine⟨?_,(jg h).1⟩;unfold eS;rcases h with h | h | h | h<;>rw[h]
 ·rfl
 ·exact ed (P:=fun e:cq=>e.loc=a.loc) (bD v a.a) Z Z
 ·rfl
 rfl
structure CC (k:Nat) (l:List XC) (r:XM) (t:Nat) (c:XC) (row:List cq) (p:Cy) (r':XM):Prop where
 code:l[t]? =some c
 rowAt:r.g.threads[t]? =some row
 err:C0 k c row r.g=0
 jz:p=jO (ep k c row).1 r.mem r.g
 add:mq r.g (.ofNat (t+1)) p.xH p.fr p.place=(some r'.g,0)
 mem:r'.mem=p.mem
theorem I8 {k:Nat} {l:List XC} {r r':XM} {t:Nat} (h:BP k l r t=(some r',0)):∃c row p,CC k l r t c row p r':=by
 unfold BP at h;cases h1:l[t]? with
 | none=>rw[h1] at h;cases h
 | some c=>
 cases d:r.g.threads[t]? with
 | none=>simp_all
 | some row=>
 rw[h1,d] at h;dsimp only at h;cases b:bD (C0 k c row r.g) 0 with
 | false=>rw[b] at h;cases h
 | true=>
  rw[b] at h;have h:NQ (jO (ep k c row).1 r.mem r.g) (.ofNat (t+1)) r.g=(some r',0):=h;unfold NQ at h;cases h4:mq r.g (.ofNat (t+1)) (jO (ep k c row).1 r.mem r.g).xH (jO (ep k c row).1 r.mem r.g).fr (jO (ep k c row).1 r.mem r.g).place with
  | mk o e=>
   rw[h4] at h;cases o with
   | none=>cases h
   | some g'=>
    simp only[Prod.mk.injEq,oJ_] at h;obtain⟨rfl,rfl⟩:=h;exact⟨c,row,_,h1,d,Lv b,Z,h4,Z⟩
theorem CC.step {k:Nat} {l:List XC} {r r':XM} {t:Nat} {c:XC} {row:List cq} {p:Cy} (h:CC k l r t c row p r'):BP k l r t=(some r',0):=by
 unfold BP;rw[h.code,h.rowAt];dsimp only;rw[h.err,<-h.jz];show NQ p _ _=_;unfold NQ;rw[h.add];dsimp only;obtain⟨m,g⟩:=r';have:=h.mem
 simp_all
theorem FJ {k:Nat} {c:XC} {row:List cq} {g:XG} (h:C0 k c row g=0):(ep k c row).2=0/\(ep k c row).1.fin=0/\row.length<14/\uG (ep k c row).1 g=false:=by
 unfold C0 at h;cases h1:bD (ep k c row).2 0 with
 | false=>
  rw[h1] at h;have h:(ep k c row).2=0:=h;rw[h] at h1;cases h1
 | true=>
 rw[h1] at h;cases d:bD (ep k c row).1.fin 0 with
 | false=>rw[d] at h;cases h
 | true=>
 rw[d] at h;cases m:da (.ofNat row.length) 14 with
 | false=>rw[m] at h;cases h
 | true=>
 rw[m] at h;cases h4:uG (ep k c row).1 g with
 | true=>rw[h4] at h;cases h
 | false=>exact⟨Lv h1,Lv d,aU (b:=14) m,Z⟩
theorem sc {n:sZ} {g:XG} (h:uG n g=false) (hk:bD n.event.kind 4=false):∃ln:Nat,rn n= .ofNat ln/\ln<g.init.length:=by
 unfold uG at h;rw[hk] at h;have h:(bif da (rn n) 0 then true else bW (da (rn n) (.ofNat g.init.length)))=false:=h;cases h1:da (rn n) 0 with
 | true=>rw[h1] at h;cases h
 | false=>
  rw[h1] at h;obtain⟨ln,hl⟩:=mF h1;rw[hl] at h⊢;exact⟨ln,Z,aU<|bF h⟩
theorem qh {g g':XG} {th:Int} {e:cq} {fr:cm} {ln:Nat} (h:mq g th e fr (.ofNat (dL g (.ofNat ln)).length)=(some g',0)) (hl:ln<g.init.length):br e=true:=by
 obtain⟨b,_,_,_,_,_,_,_,hb,_,_⟩:=ke h;unfold jr at hb;obtain⟨o,d⟩:=mI b hl;cases hw:br e with
 | true=>rfl
 | false=>rw[hw,fT (by rw[b];rfl) d] at hb;cases hb
structure Cz (k:Nat) (c:XC) (row:List cq) (r:XM) (p:Cy):Prop where
 fits:mS k c (row++[p.xH])
 look:bD (ep k c row).1.event.kind 4=false->∃ln:Nat,ln<r.g.init.length/\rn (ep k c row).1= .ofNat ln/\p.xH.loc= .ofNat ln/\p.xH.kind≠4
 cases:(p.xH.kind=4/\p.mem=r.mem/\p.place=0)∨∃ln:Nat,ln<r.g.init.length/\p.xH.loc= .ofNat ln/\p.xH.kind≠4/\((br p.xH=false/\p.mem=r.mem/\p.place=0)∨(br p.xH=true/\p.mem=r.mem.set ln p.xH.write/\p.place= .ofNat (dL r.g (.ofNat ln)).length))
theorem EE {e:cq} {n:Int} (h:bD e.kind n=false):e.kind≠n:=fun hh=>by rw[hh,fj] at h;cases h
theorem Ky {k:Nat} {c:XC} {row:List cq} {r:XM} {th:Int} {g':XG} (h:C0 k c row r.g=0) (b:mq r.g th (jO (ep k c row).1 r.mem r.g).xH (jO (ep k c row).1 r.mem r.g).fr (jO (ep k c row).1 r.mem r.g).place=(some g',0)):Cz k c row r (jO (ep k c row).1 r.mem r.g):=by
 obtain⟨h1,h2,h3,h4⟩:=FJ h;rcases Bj h1 with ⟨e,he,hf,hr⟩ | ⟨a,G,hk,hf⟩ | ⟨n,K⟩
 ·have key:∀p:Cy,jO (ep k c row).1 r.mem r.g=p->Cz k c row r p:=by
   rw[he] at h4 b⊢;intro p hp;rw[hp] at b;dsimp only at h4;cases h5:bD e.kind 4 with
   | true=>
    rw[Bu h5] at hp;subst hp;exact⟨hf,fun hh=>(by simp_all),.inl ⟨Mh h5,Z,Z⟩⟩
   | false=>
    obtain⟨ln,hl,d⟩:=sc h4 h5;have C:e.loc= .ofNat ln:=hl;unfold jO at hp;rw[hl] at hp;dsimp only at hp;rw[h5,show bD vN.kind 0=true from Z] at hp;simp only[show bW true=false from Z,cond_false] at hp;cases F:bD e.kind 1 with
    | true=>
     grind [dw]
    | false=>
     rw[F] at hp;simp only[show bW false=true from Z,cond_true] at hp;subst hp;exact⟨hf,fun _=>⟨ln,d,by rw[he];exact hl,C,EE h5⟩,.inr ⟨ln,d,C,EE h5,.inr ⟨qh b d,Z,Z⟩⟩⟩
  exact key _ Z
 ·have key:∀p:Cy,jO (ep k c row).1 r.mem r.g=p->Cz k c row r p:=by
   rw[G] at h4 b⊢;intro p hp;rw[hp] at b;have E:bD a.kind 0=false:=by rcases hk with e | e | e | e<;>rw[e]<;>rfl
   have L:rn ⟨Bl,a,0⟩=a.loc:=by unfold rn;dsimp only;rw[E];rfl
   obtain⟨ln,hl,d⟩:=sc h4 Z;unfold jO at hp;rw[hl] at hp;dsimp only at hp;rw[E,show bD Bl.kind 4=false from Z] at hp;simp only[show bW false=true from Z,cond_true,cond_false] at hp;have u:∀v,(eS a v).loc= .ofNat ln:=fun v=>by rw[(Am hk).1,<-L,hl]
   have A:∀v,(eS a v).kind≠4:=fun v M=>by
    have h5:=(jg (v:=v) hk).1;unfold dw at h5;rw[M] at h5;cases h5
   generalize hv:(r.mem[(Int.ofNat ln).toNat]?).getD 0=v at hp;have m:rn (ep k c row).1= .ofNat ln:=by rw[G];exact hl
   cases F:bD (eS a v).kind 1 with
   | true=>
    rw[F] at hp;simp only[show bW true=false from Z,cond_false] at hp;subst hp;refine⟨hf v,fun _=>⟨ln,d,m,u v,A v⟩,.inr ⟨ln,d,u v,A v,.inl ⟨?_,Z,Z⟩⟩⟩
    grind [br,Mh]
   | false=>
    rw[F] at hp;simp only[show bW false=true from Z,cond_true] at hp;subst hp;exact⟨hf v,fun _=>⟨ln,d,m,u v,A v⟩,.inr ⟨ln,d,u v,A v,.inr ⟨qh b d,Z,Z⟩⟩⟩
  exact key _ Z
 rw[K] at h4 b;exfalso;obtain⟨ln,hl,d⟩:=sc h4 Z;obtain⟨I,_,_,_,_,_,_,_,hp,_,_⟩:=ke b;have hp:(!bD (.ofNat (dL r.g<|rn ⟨Bl,vN,n⟩).length) 0)=false:=hp;obtain⟨q,hq⟩:=mI I d;rw[hl,fT (by rw[I];rfl) hq] at hp;cases hp
theorem Cs.step {k:Nat} {l:List XC} {r r':XM} {t:Nat} (h:Cs k l r) (R:BP k l r t=(some r',0)):Cs k l r'/\r'.g.init=r.g.init:=by
 obtain⟨c,row,p,hp⟩:=I8 R;have hadd:=hp.add;rw[hp.jz] at hadd;have hok:=Ky hp.err hadd;rw[<-hp.jz] at hok hadd;obtain⟨tm,row',ht,M,u,d,aa,_,_,hold,_⟩:=Fx hadd;have hi:=G9 hadd;obtain⟨m,A,C⟩:=JM hadd;rw[hp.rowAt] at A;cases A;have hlen:r'.g.threads.length=l.length:=by rw[C,List.length_set];exact h.len
 have K:tm=t:=by grind
 subst K;rw[hp.rowAt] at M;cases M;refine⟨⟨d,hlen,?_,fun i b=>?_,fun Q T m h1 E=>?_⟩,hi⟩
 ·rw[hp.mem,hi,<-h.mem];rcases hok.cases with ⟨_,e,_⟩ | ⟨ln,_,_,_,⟨_,e,_⟩ | ⟨_,e,_⟩⟩<;>rw[e]
  rw[List.length_set]
 ·rw[hi] at b;rw[hp.mem];have same:(br p.xH=true->p.xH.loc≠ .ofNat i)->rk r'.g (.ofNat i)=rk r.g (.ofNat i):=fun hw=>FY u d hold b (Fy hadd hw)
  rcases hok.cases with ⟨e1,e,_⟩ | ⟨ln,F,G,_,⟨e1,e,_⟩ | ⟨hw,e,epl⟩⟩
  ·rw[e,same (fun hw=>by unfold br at hw;rw[e1] at hw;cases hw)];exact h.last i b
  ·rw[e,same (fun hw=>by simp_all)];exact h.last i b
  rw[e]
  by_cases I:ln=i
  ·subst I;rw[List.getElem?_set_self (by rw[h.mem];exact F)];obtain⟨q,hq⟩:=mI u F;have L:p.place= .ofNat (q.length+1):=by rw[epl,fT (by rw[u];rfl) hq];rfl
   rw[L] at hadd;obtain⟨ab,U,ho⟩:=CD hq hadd hw G;rw[hp.rowAt] at U
   grind [rm,List.getLast?_append,uU]
  rw[List.getElem?_set_ne I,same (fun _=>by grind)];exact h.last i b
 rw[C] at E
 by_cases e:tm=Q
 ·subst e;rw[List.getElem?_set_self (gA.1 hp.rowAt).1] at E;rw[hp.code] at h1;cases h1;cases E;exact hok.fits
 rw[List.getElem?_set_ne e] at E;exact h.fits Q T m h1 E
theorem Cs.start {k:Nat} {l:List XC} {init:List Int} (hl:l.length<=4) (hi:init.length<=6) (hf:∀c∈l,rf k c=true):Cs k l ⟨init,⟨init,List.replicate l.length [],List.replicate l.length [],List.replicate init.length []⟩⟩:=by
 have hw:∀n t,fo (List.replicate n []) t= []:=by
  intro n;induction n with
  | zero=>intro t;rfl
  | succ n ih=>grind [eV,fo]
 have ho:∀n t,gu (List.replicate n []) t= []:=by
  intro n;induction n with
  | zero=>intro t;rfl
  | succ n ih=>grind [ec,gu]
 have d:dy ⟨init,List.replicate l.length [],List.replicate l.length [],List.replicate init.length []⟩:=by
  refine⟨by simpa using hl,hi,fun i x hx=>?_,by simp,by simp,fun i x f hx hf=>?_,?_⟩
  ·grind
  ·grind
  simp_all
 have hc:=eK.2 d;refine⟨hc,by simp,Z,fun i b=>?_,fun t c row h1 h2=>?_⟩
 ·have hq:(List.replicate init.length ([]:List cm))[i]? =some []:=by
   simp_all
  rw[rm hc hq];show init[i]? =some (uU ((init[i]?).map fun v=>(⟨2,i,1,0,v⟩:cq))).write;rw[gC b];rfl
 grind [HJ]
def Cu (m:List Int) (x0 x1 x2 x3 x4 x5:Int):Prop:=[x0,x1,x2,x3,x4,x5]=m++List.replicate (6-m.length) 0
abbrev c6 (x0 x1 x2 x3 x4 x5:Int) (a b c d:Y):List Y:=[.int .i64 x0,.int .i64 x1,.int .i64 x2,.int .i64 x3,.int .i64 x4,.int .i64 x5,a,b,c,d]
theorem Cu.le {m:List Int} {b d u A C E:Int} (h:Cu m b d u A C E):m.length<=6:=by
 have:=congrArg List.length h;rw[lA_,List.length_replicate] at this;have e: [b,d,u,A,C,E].length=6:=rfl;omega
theorem Cu.at_ {m:List Int} {u A C E F G:Int} (h:Cu m u A C E F G) {a b c d:Y} {ln:Nat} (hl:ln<m.length):∃y,m[ln]? =some y/\nth (c6 u A C E F G a b c d) (0+ln*1)=some (.int .i64 y):=by
 have h6:=h.le;obtain⟨y,hy⟩:=cF hl;have: [u,A,C,E,F,G][ln]? =some y:=by rw[show [u,A,C,E,F,G]=_ from h,gL_ hl];exact hy
 refine⟨y,hy,?_⟩;rw[eQ,Nat.mul_one,nA_]
 grind
theorem Cu.set {m:List Int} {u A C E F G:Int} (h:Cu m u A C E F G) {a b c d:Y} {ln:Nat} (hl:ln<m.length) (v:Int):∃L M Q R T y5,dj [.int .i64 v] (c6 u A C E F G a b c d) (0+ln*1)=c6 L M Q R T y5 a b c d/\Cu (m.set ln v) L M Q R T y5:=by
 have h6:=h.le;have I: [u,A,C,E,F,G].set ln v=m.set ln v++List.replicate (6-(m.set ln v).length) 0:=by rw[show [u,A,C,E,F,G]=_ from h,List.set_append_left _ _ hl,List.length_set]
 have K:ln<6:=by omega
 match ln,K with
 | 0,_=>exact⟨v,A,C,E,F,G,Z,I⟩
 | 1,_=>exact⟨u,v,C,E,F,G,Z,I⟩
 | 2,_=>exact⟨u,A,v,E,F,G,Z,I⟩
 | 3,_=>exact⟨u,A,C,v,F,G,Z,I⟩
 | 4,_=>exact⟨u,A,C,E,v,G,Z,I⟩
 | 5,_=>exact⟨u,A,C,E,F,v,Z,I⟩
end Go.Ev
namespace Go.Ev
variable [Env]
theorem s8 {P:Program} {ev:Operand->Option Y} {t e w n:Nat} {k k':IntKind} {z:List Y} {lo co:Operand} (d:P.underlying t=some (.slice e)) (hw:(P.info? e).map (·.bytes)=some w) (hz:(ew P e).bind bZ=some z)
  (b:((P.info? e).any fun j=>Nat.beq (cW z) j.size && Nat.ble 1 j.size)=true) (hl:ev lo=some (.int k (.ofNat n))) (m:ev co=some (.int k' (.ofNat n))) (hn:w*n<=1048576) (aa:n<=1048576):
  eF P ev (.makeSlice t lo co)=some (.row (dK z n) e false,.slice n n):=by
 obtain⟨j,hj,rfl⟩:=oM_.1 hw;rw[hj] at b;simp only[Option.any_some,bA_] at b;simp only[eF,d,hl,m,hj,hz];rw[b.1,b.2,show Nat.ble n n=true by simp_all,show Nat.ble (j.bytes*n) 1048576=true by simp_all,show Nat.ble n 1048576=true by simp_all];rfl
theorem wC {P:Program} {G:Cx} {t:D Y} {V:B} {ops:Array Oper} {o:Oper} {i k b e n:Nat} {cs:List Y} (hi:ops[i]? =some o) (hw:bu ops t o=some true) (hd:o.dst=some k) (hg:t.get k=some (.slice b 0 n (.known n))) (hk:kindOf P o.op= .alloc) (ha:eF P (aY G t) o.op=some (.row cs e false,.slice n n)) (hm:V.m.get b=some (.row cs e false)) (hb:dH.beqL cs cs=true):jd P G ops t V i=true:=by
 unfold jd
 simp_all
theorem Ar (n:Nat):dH.beqL (List.replicate n Y.aB) (List.replicate n Y.aB)=true:=by
 induction n with
 | zero=>rfl
 | succ n ih=>rw[List.replicate_succ];exact dM Z ih
theorem NI.leaf:∀x vs,NI x vs->bJ vs=true:=fun _ _ h=>by cases h;rfl
theorem dP.w8 {α:Type} {m E:Nat} {R:α->List Y->Prop} {l:List α} {u:Y} {M:Own} {K:KP} (h:dP m E R l u M):bI (K.qR M) m R l u:=h.lJ fun _ he=>.inr he
theorem dP.mV {α:Type} {m E:Nat} {R R':α->List Y->Prop} {l:List α} {u:Y} {M:Own} (h:dP m E R l u M) (d:∀x vs,R x vs->R' x vs):dP m E R' l u M:=by
 rcases h with h | ⟨b,c,cells,e,h1,A,C,h4,h5⟩
 ·exact .inl h
 exact .inr ⟨b,c,cells,e,h1,A,C,fun i x hx=>d x _ (h4 i x hx),h5⟩
theorem gX.leaf {K:KP} {k:Nat}:∀x vs,gX K k x vs->bJ vs=true:=fun x vs h=>by
 obtain⟨o,n,s,v,rfl,hk⟩:=h.shape;exact ar Z<|ar Z<|ar Z<|ar hk.leaf.2 aS
theorem dP.empty {α:Type} {m E b e:Nat} {R:α->List Y->Prop}:dP m E R ([]:List α) (.slice b 0 0 (.known 0)) [(b,.row [] e false)]:=.inr ⟨b,.known 0,[],e,Z,Z,by simp,fun i x h=>by simp at h,.inl Z,by simp⟩
theorem dP.nil {α:Type} {m E:Nat} {R:α->List Y->Prop}:dP m E R ([]:List α) .aB []:=.inl ⟨Z,Z,Z⟩
theorem yK {P:Program} {ev:Operand->Option Y} {t e:TypeId} {len m:Nat} {parts:Array (Nat×Operand)} {z cs:List Y} (d:P.underlying t=some (.slice e)) (hj:(P.info? e).map (·.size)=some m) (hz:(ew P e).bind bZ=some z)
  (hb:(Nat.beq (cW z) m && Nat.ble (len*m) 16777216 && Nat.ble 1 m)=true) (hf:iM (fun i=>some (i*m,m)) ev parts.toList (dK z len)=some cs):eF P ev (.buildSlice t len parts)=some (.row cs e false,.slice len len):=by
 obtain⟨j,b,rfl⟩:=oM_.1 hj;simp only[eF,d,b,hz,hb,cond_true,hf]
end Go.Ev
namespace Go.Ev
variable [Env]
open Go.Proofs
set_option maxRecDepth 4000
set_option maxHeartbeats 8000000
def RV (u:Y) (vs:List Y):Prop:=vs= [u]/\bZ u=some [u]/\gn u=true
theorem RV.leaf:∀x vs,RV x vs->bJ vs=true:=fun u _ h=>by
 obtain⟨rfl,_,b⟩:=h;exact ar b aS
section
variable {m E E2:Nat} {K:KP} {us:List Y} {u:Y} {O_:Own}
theorem zJ (h:dP 1 E RV us u O_) (hne:us≠[]):∃b c e,u= .slice b 0 us.length c/\O_= [(b,.row us e false)]/\(c= .known us.length∨(c= .upto 1/\e=E))/\us.length<=1048576:=by
 rcases h with ⟨rfl,_,_⟩ | ⟨b,c,cells,e,rfl,rfl,h3,h4,h5,d⟩
 ·exact absurd Z hne
 refine⟨b,c,e,Z,?_,h5,d⟩
 have:cells=us:=by
  refine List.ext_getElem oM fun i h1 A=>?_
  have h:=(h4 i us[i]<|gC A).1;rw[Nat.mul_one,List.drop_eq_getElem_cons h1] at h;exact(List.cons.inj h).1
 rw[this]
theorem KI {b e n:Nat} {c:nj} (d:us.length=n) (A:c= .known n∨(c= .upto 1/\e=E)) (hl:n<=1048576) (C:∀u∈us,bZ u=some [u]/\gn u=true):dP 1 E RV us (.slice b 0 n c) [(b,.row us e false)]:=by
 subst d
 exact .inr ⟨b,c,us,e,Z,Z,(Nat.mul_one _).symm,fun i x h=>by
  obtain⟨h1,F⟩:=gA.1 h;refine⟨?_,C x<|gB_ h⟩;rw[Nat.mul_one,List.drop_eq_getElem_cons h1,F];rfl,A,hl⟩
variable {α:Type} {R:α->List Y->Prop} {ls:List (List α)} {I:Own}
theorem gb.N4 (h:gb m E R ls us I):∀u∈us,bZ u=some [u]/\gn u=true:=by
 induction h with
 | nil=>intro u h;cases h
 | snoc _ h1 ih=>
  intro u h;rcases List.mem_append.1 h with h | h
  ·exact ih u h
  rw[List.mem_singleton.1 h];exact h1.leaf
theorem IV (h:gb m E R ls us I) (A:dP 1 E2 RV us u O_) (F:∀e∈I,K e.1 e.2) (C:∀e∈O_,K e.1 e.2):bI K 1 (RL K m R) ls u:=by
 rcases h':us with _ | ⟨x,r⟩
 ·have hl:=h.length;rcases A with ⟨_,rfl,_⟩ | ⟨b,c,cells,e,rfl,rfl,h3,h4,h5,G⟩
  ·rw[h'] at hl;exact .inl ⟨eN_ hl.symm,Z⟩
  have hz:ls= []:=by rw[h'] at hl;exact eN_ hl.symm
  subst hz;refine .inr ⟨b,0,c,cells,e,false,by rw[h'];rfl,?_,C _ (.head _),by simp,by simp,fun i x hx=>by simp at hx⟩;rw[h'] at h5;rcases h5 with rfl | ⟨rfl,_⟩
  ·exact .inr ⟨_,Z,nR_ _⟩
  exact .inl Z
 obtain⟨b,c,e,rfl,rfl,h5,G⟩:=zJ A (by rw[h'];exact fun e=>by cases e);have hl:=h.length;refine .inr ⟨b,0,c,us,e,false,by rw[hl],?_,C _ (.head _),by omega,by omega,fun i x hx=>?_⟩
 ·rcases h5 with rfl | ⟨rfl,_⟩
  ·rw[hl];exact .inr ⟨_,Z,nR_ _⟩
  exact .inl Z
 obtain⟨u,q1,q2⟩:=h.each F i x hx;refine⟨u,?_,q2⟩;obtain⟨d,rfl⟩:=gA.1 q1;rw[show 0+i*1=i from by omega,List.drop_eq_getElem_cons d];rfl
end
theorem Ld {G:Cx} (hG:Plain G) {K:KP} {k:Nat} {l:List XC} {lv:Y} (hl:bI K 2 (jF K k) l lv) {pl pc cv:Y} (C:cX K pl [lv]) {c a:XC} {vc:List Y} (F:cX K pc vc) (M:vc.length=2) (Q:jF K k c vc) {cl:List Int} (T:bI K 1 dG cl cv) {h:Nat} (U:cl[0]? =some (Int.ofNat (h+1))) (b:l[h]? =some a) {V:B} {L:Own} (aq:H V K L):
  aT Tryz.prog G 41 [cv,pl,pc] V fun v V'=>v= .bool (bV a c)/\H V' K L:=by
 have hh:=(gA.1 b).1;have hll:=hl.bM;refine aW hG Tryz.func41 Z (t:=((D.leaf.put (some (cv)) 0).put (some (pl)) 1).put (some (pc)) 2) (by rfl) ?_;refine ai ?_;refine ah Z ?_;refine S Z (aj Z) Z ?_;refine af ?_;refine ad ?_;refine ai ?_;refine aX (l:=[(0,[]),(1,[]),(2,[]),(3,[]),(4,[]),(5,[]),(6,[]),(7,[]),(8,[]),(9,[])]) J J ?_;refine al Z Z (aM aq C Z J Z) Z ?_;refine al Z Z (N Z) Z ?_;refine cP (e:=3) (m:=1) T U Z Z Z J J Z Z (fun _=>Z) (fun p7 ak W am X=>?_);obtain rfl:=X;refine al Z Z (aM aq W Z J Z) Z ?_;refine al Z Z (aA (v:=.int .i64 (.ofNat h)) Z Z<|congrArg (fun z=>some (Y.int .i64 z))<|gy oM) Z ?_;refine cP (e:=63) (m:=2) hl b Z Z Z J J Z Z (fun _=>Z) (fun an aa A ab d=>?_);have hr10':=d;obtain⟨ao,rfl,ac⟩:=hr10';refine al Z Z (bC aq A Z J Z) Z ?_;refine al Z Z (bC aq F Z J M) Z ?_;refine fe Z Z (aR Z Z Z J) (fun _=>Z) (Ni hG aq d Q) (fun V aq=>?_);refine⟨bq,?_⟩;refine al Z Z (aj Z) Z ?_;refine bj ?_;refine ad ?_;refine aD ?_;exact ay Z Z ⟨Z,aq⟩
theorem zW {G:Cx} (W:Plain G) {K:KP} {ls:List (List Int)} {v pl pc:Y} {p:List Int->Bool} (h:bI K 1 (RL K 1 dG) ls v) {V:B} {L:Own} (aq:H V K L)
  (d:∀x u V L,x∈ls->H V K L->bI K 1 dG x u->aT Tryz.prog G 41 [u,pl,pc] V fun v V'=>v= .bool (p x)/\H V' K L):
  aT Tryz.prog G 43 [v,.func 41 [] [pl,pc]] V fun v V'=>v= .int .i64 (fA p ls 0)/\H V' K L:=by
 refine aW W Tryz.func43 Z (t:=(D.leaf.put (some (v)) 0).put (some (.func 41 [] [pl,pc])) 1) (by rfl) ?_;refine ai ?_;refine ah Z ?_;refine S Z (aj Z) Z ?_;refine af ?_;refine ad ?_;refine ai ?_;refine ai ?_;refine ah Z ?_;refine S Z (N Z) Z ?_;refine S Z (aO h Z Z Z (e:=28) J Z) Z ?_;refine S Z (N Z) Z ?_;refine af ?_;refine ad ?_;refine aJ ?_;obtain⟨LL1,aq,hLL1⟩:=aq.named;refine ba [4,5,8,9,10,11,12,13,14,15,16,17,18] (fun j t V=>∃(i:Nat),j+i=ls.length/\fA p ls 0=fA p (ls.drop i) i/\t.get 8=some (.int .i64 (.ofNat i))/\H V K LL1) (ls.length) ⟨0,Z,Z,Z,aq⟩ ?_;clear aq;intro X t V an hI;obtain⟨i,hj,he,A,aq⟩:=hI;subst hLL1;replace an:=an.bR Z Z;obtain⟨o4,o5,o8,o9,ak,am,ao,ap,an⟩:=an;replace an:=an.r4 Z;obtain⟨au,av,aE,a0,an⟩:=an;replace an:=an.eb Z;obtain⟨a1,an⟩:=an;obtain rfl:=an.nil;clear an;replace A:o8=some _:=A;subst A;refine ai ?_;refine ah Z ?_;refine S Z (aA Z Z Z) Z ?_;refine af ?_;refine ad ?_;refine ai ?_;refine aC Z (fun U=>?_) (fun U=>?_)
 ·refine aG ?_;refine ad ?_;refine ai ?_;refine aJ ?_;refine ai ?_;refine ah Z ?_;refine S Z (N Z) Z ?_;refine S Z (aj Z) Z ?_;refine af ?_;refine ad ?_;refine ai ?_;refine ah Z ?_;refine S Z (N Z) Z ?_;refine S Z (N Z) Z ?_;refine S Z (N Z) Z ?_;obtain⟨C,b,aa⟩:=cO U;refine bO (e:=28) (m:=1) h b Z Z J J Z Z (fun _=>Z) (fun a2 ab M ac Q=>?_);have hr14':=Q;obtain⟨a3,rfl,T⟩:=hr14';refine S Z (aM aq M Z J Z) Z ?_;refine bh Z (aR Z Z Z J) (fun _=>Z) (d C _ _ _ (gB_ b) aq T) (fun V aq=>?_);refine af ?_;refine ad ?_;refine aC Z (fun F=>?_) (fun F=>?_)
  ·refine ai ?_;refine ah Z ?_;refine S Z (N Z) Z ?_;refine S Z (aj Z) Z ?_;refine af ?_;refine ad ?_;refine aD ?_;refine aK<|az<|bp<|aK<|az (?_);exact ay Z Z ⟨congrArg (Y.int .i64) (by symm;rw[he,cD b];show(bif p C then _ else _)=_;rw[F];rfl),aq⟩
  refine aG ?_;refine aH ?_;refine ad ?_;refine ah Z ?_;refine S Z (aA Z Z Z) Z ?_;refine S Z (N Z) Z ?_;refine af ?_;refine aL ⟨X-1,by omega,(by(iterate 24 refine a8.put Z ?_);exact a8.refl _ _),i+1,by omega,by rw[he,cD b];show(bif p C then _ else _)=_;rw[F];rfl,congrArg (fun z=>some (Y.int .i64 z))<|aZ (by have:=h.bM;omega),aq⟩
 refine bc ?_;refine aP ?_;refine aQ ?_;refine aN ?_;refine ad ?_;refine ai ?_;refine ah Z ?_;refine S Z (aj Z) Z ?_;refine af ?_;refine ad ?_;refine aD ?_;exact ay Z Z ⟨congrArg (Y.int .i64) (by symm;rw[he,eZ<|bx U];rfl),aq⟩
theorem H9 {l:List XC} {t h:Nat} {c a:XC} {cl:List Int} (h1:cl[0]? =some (Int.ofNat (h+1))) (d:l[h]? =some a) (m:l[t]? =some c):kC l t cl=bV a c:=by
 unfold kC;rw[h1];show(match l[h+1-1]?,l[t]? with | some a,some b=>bV a b | _,_=>false)=_;rw[Nat.add_sub_cancel,d,m]
theorem JW {l:List XC} {t j:Nat} {cl:List Int} (h1:fA (kC l t) (gk l t) 0= .ofNat j) (b:(gk l t)[j]? =some cl):gk l (t+1)=(gk l t).set j (cl++[.ofNat (t+1)]):=by
 show yU l (gk l t) t=_;unfold yU;rw[h1,show da (.ofNat j) 0=false from by rw[show(0:Int)= .ofNat 0 from Z,iw];simp];show(gk l t).set j (((gk l t)[j]?).getD []++[.ofNat (t+1)])=_;rw[b];rfl
theorem Hk {l:List XC} {t:Nat} (h:da (fA (kC l t) (gk l t) 0) 0=true):gk l (t+1)=gk l t++[[.ofNat (t+1)]]:=by
 show yU l (gk l t) t=_;unfold yU;rw[h];rfl
theorem xx {l:List XC}:∀{t:Nat},∀cl∈gk l t,cl.length<=t
 | 0,cl,h=>by cases h
 | t+1,cl,h=>by
  have ih:=xx (l:=l) (t:=t);have h:cl∈yU l (gk l t) t:=h;unfold yU at h;cases hi:da (fA (kC l t) (gk l t) 0) 0 with
  | true=>
   rw[hi] at h;rcases List.mem_append.1 (show cl∈gk l t++[[Int.ofNat (t+1)]] from h) with h | h
   ·have:=ih cl h;omega
   rw[List.mem_singleton.1 h];exact Nat.succ_le_succ<|Nat.zero_le _
  | false=>
   rw[hi] at h;have h:cl∈(gk l t).set (fA (kC l t) (gk l t) 0).toNat (((gk l t)[(fA (kC l t) (gk l t) 0).toNat]?).getD []++[Int.ofNat (t+1)]):=h;rcases List.mem_or_eq_of_mem_set h with h | h
   ·have:=ih cl h;omega
   rw[h,lA_];show _+1<=t+1;cases b:(gk l t)[(fA (kC l t) (gk l t) 0).toNat]? with
   | none=>exact Nat.succ_le_succ (Nat.zero_le _)
   | some x=>exact Nat.succ_le_succ (ih x<|gB_ b)
theorem Kq {b E:Nat} {x:Int}:dP 1 E dG [x] (.slice b 0 1 (.known 1)) [(b,.row [.int .i64 x] E false)]:=.inr ⟨b,.known 1,_,E,Z,Z,Z,fun i y h=>by
 cases i with
 | zero=>cases h;rfl
 | succ i=>simp at h,.inl Z,by simp⟩
theorem GI {G:Cx} (hG:Plain G) {K:KP} {k:Nat} {l:List XC} {lv:Y} (hl:bI K 2 (jF K k) l lv) (bt:l.length<=4) {V:B} {L:Own} (aq:H V K L):
  aT Tryz.prog G 14 [lv] V fun v V'=>∃us F C,dP 1 28 RV us v F/\gb 1 3 dG (fy l) us C/\H V' K ((F++C)++L):=by
 refine aW hG Tryz.func14 Z (t:=D.leaf.put (some (lv)) 0) (by rfl) ?_;refine ai ?_;refine ah Z ?_;refine bH aq Z (cL Z hl.leaf.1) (fun _=>Z) (fun V b1 aq=>?_);obtain⟨K1,I,d,aq⟩:=aq.eA (M:=[_]);have ac:cX K1 (.ptr b1 0) [lv]:=.one (d _ (.head _));clear d;replace hl:=hl.mono I fun _ _ h=>h.mono I
 refine S Z (aj Z) Z ?_;refine af ?_;refine ad ?_;refine ai ?_;refine ai ?_;refine ah Z ?_;refine S Z (aM aq ac Z J Z) Z ?_;refine S Z (aO hl Z Z Z (e:=63) J Z) Z ?_;refine S Z (aA Z Z Z) Z ?_;refine af ?_;refine ad ?_;refine aC Z (fun ap=>?_) (fun ap=>?_)
 ·exact absurd (aU (a:=4) ap) oM
 refine aG ?_;refine ad ?_;refine ai ?_;refine ah Z ?_;refine S Z (aj Z) Z ?_;refine af ?_;refine ad ?_;refine ai ?_;refine ai ?_;refine ah Z ?_;refine S Z (aM aq ac Z J Z) Z ?_;refine S Z (aO hl Z Z Z (e:=63) J Z) Z ?_;refine S Z (N Z) Z ?_;refine af ?_;refine ad ?_;refine aJ ?_;refine ba [3,4,5,6,7,13,14,15,16,17,18,19,20,21,22,23,24,25,26,27,28,29,30,31,32,33,34,35,36,37,38,39,40,41] (fun j t V=>∃(i:Nat) (u:Y) (us:List Y) (F C:Own),(j+i=l.length/\dP 1 28 RV us u F/\gb 1 3 dG (gk l i) us C)/\t.get 3=some (u)/\t.get 13=some (.int .i64 (.ofNat i))/\H V K1 ((F++C)++L)) (l.length) ⟨0,.aB,[],[],[],⟨Z,.inl ⟨Z,Z,Z⟩,.nil⟩,Z,Z,aq⟩ ?_;clear aq;intro j5 t V an W;obtain⟨i,u,us,F,C,⟨bv,hO,W⟩,ak,Q,aq⟩:=W;replace an:=an.bR Z Z;obtain⟨o3,o4,o5,o6,o7,a3,bw,bX,an⟩:=an;replace an:=an.bR Z Z;obtain⟨b0,b3,b4,b5,b6,b7,b9,ca,an⟩:=an;replace an:=an.bR Z Z;obtain⟨cb,cc,ce,ch,ci,ck,cn,cp,an⟩:=an;replace an:=an.bR Z Z;obtain⟨cr,cv,cw,cx,c0,c1,c2,c3,an⟩:=an;replace an:=an.eb Z;obtain⟨c4,an⟩:=an;replace an:=an.eb Z;obtain⟨c5,an⟩:=an;obtain rfl:=an.nil;clear an;replace ak:o3=some _:=ak;subst ak;replace Q:a3=some _:=Q;subst Q;refine ai ?_;refine ah Z ?_;refine S Z (aA Z Z Z) Z ?_;refine af ?_;refine ad ?_;refine ai ?_;refine aC Z (fun T=>?_) (fun T=>?_)
 ·refine aG ?_;refine ad ?_;refine ai ?_;refine aJ ?_;refine ai ?_;refine ah Z ?_;refine S Z (N Z) Z ?_;obtain⟨am,aa,bl⟩:=cO T;refine bO (e:=63) (m:=2) hl aa Z Z J J Z Z (fun _=>Z) (fun c7 bm au bs ab=>?_);have hr16':=ab;obtain⟨av,rfl,aE⟩:=hr16';refine S Z (bC aq au Z J Z) Z ?_;refine bH aq Z (ea (cs:=[.int .i64 0,.aB]) J J) (fun _=>Z) (fun V b2 aq=>?_);refine S Z (aj Z) Z ?_;refine db aq Z (bz Z Z Z (aq.get 0 Z) (m:=2) J Z (Nat.le_of_ble_eq_true Z) (ar Z<|ar aE.leaf.2 aS) (cells':=[_,_]) Z) Z (fun V aq=>?_);obtain⟨K2,b,d,aq⟩:=aq.eA (M:=[_]);have a4:cX K2 (.ptr b2 0) [.int .i64 am.dA,av]:=⟨b2,0,_,_,false,Z,d _ (.head _),Nat.le_of_ble_eq_true Z,Z⟩;clear d;have a5:jF K2 k am [.int .i64 am.dA,av]:=ab.mono b;have hl2:=hl.mono b fun _ _ h=>h.mono b;have hpl2:=ac.mono b
  refine af ?_;refine ad ?_;refine ai ?_;refine ah Z ?_;refine S Z (bK Z Z) Z ?_;refine S Z (aj Z) Z ?_;refine af ?_;refine ad ?_;refine ai ?_;refine ah Z ?_;refine S Z (N Z) Z ?_;refine S Z (N Z) Z ?_;have hrl:=IV (K:=K2.qR (F++C)) W hO (fun e he=>.inr (List.mem_append_right _ he)) (fun e he=>.inr (List.mem_append_left _ he));have hle3:=KP.dQ K2 (F++C)
  refine bh Z (aR Z Z Z J) (fun _=>Z) ((zW hG (p:=kC l i) hrl aq.keeps fun x u V L hm aq hu=>by
    obtain⟨hne,h,c,hlt,h0,a0,_⟩:=(yV (l:=l) (t:=i) oM).all x hm;rw[H9 h0 a0 aa];exact Ld hG (hl2.mono hle3 fun _ _ h=>h.mono hle3) (hpl2.mono hle3) (a4.mono hle3) Z (a5.mono hle3) hu h0 a0 aq).mono fun _ _ hh=>⟨hh.1,H.KS aq hh.2⟩) (fun V aq=>?_)
  refine S Z (aj Z) Z ?_;refine af ?_;refine ad ?_;refine ai ?_;refine ah Z ?_;refine S Z (N Z) Z ?_;refine S Z (aA Z Z Z) Z ?_;refine af ?_;refine ad ?_;refine aC Z (fun ao=>?_) (fun ao=>?_)
  ·refine ah Z ?_;refine S Z (N Z) Z ?_;refine S Z (N Z) Z ?_;refine S Z (N Z) Z ?_;refine S Z (N Z) Z ?_;have a9:da (fA (kC l i) (gk l i) 0) 0=false:=cd ao;obtain⟨q,cl,hq,U,_⟩:=sy a9;rw[nA_] at hq;have hul:=W.length;have hql:=(gA.1 U).1;obtain⟨bo,co,eo,rfl,rfl,bb,bd⟩:=zJ hO (fun e=>by rw[e] at hul;simp at hul;omega);obtain⟨ut,Mt,A,B_,a1,be,bi,a2⟩:=W.at U;subst bi;have hlt:=(gA.1 a1).1;replace aq:H V K2 ((bo,.row us eo false)::((A++(Mt++B_))++L)):=aq;refine S Z (lz (e:=28) (m:=1) Z J Z (congrArg (fun z=>some (Y.int .i64 z)) hq) hlt) Z ?_;refine S Z (aw Z (aq.get 0 Z) J (by rw[eQ,show 0+q*1=q from by omega];exact a1)) Z ?_;refine S Z (N Z) Z ?_;refine S Z (aA (v:=.int .i64 (.ofNat (i+1))) Z Z<|congrArg (fun z=>some (Y.int .i64 z))<|aZ oM) Z ?_;replace aq:=aq.pull (X:=Mt) (.there .LD);refine jY aq Z (cM (e:=3) (m:=1) (z:=[.int .i64 0]) (cs:=[_]) J J J J<|bB Z Z Z Z cj) (fun _=>Z) (fun V b8 aq=>?_);refine iA (R:=dG) (m:=1) (e:=3) be aq (fL (m:=1) Z Z) dG.leaf (by have:=xx (l:=l) (t:=i) _ (gB_ U);simp;omega) Z Z Z Z Z Z Z (fun _=>Z) (fun V u9 M9 hO9 aq=>?_);replace aq:=aq.push (X:=M9) (L:=(bo,.row us eo false)::((A++(M9++B_))++L)) (.there .LD);refine S Z (lz (e:=28) (m:=1) Z J Z (congrArg (fun z=>some (Y.int .i64 z)) hq) hlt) Z ?_;refine ja aq .here Z (ou Z Z hO9.leaf.1 (aq.get 0 Z) (m:=1) J Z oM<|ar hO9.leaf.2 Z) Z (fun V aq=>?_);rw[mQ hlt] at aq;have hI2:=a2 _ _ _ hO9;rw[<-JW hq U] at hI2;have hO2:dP 1 28 RV (us.set q u9) (.slice bo 0 us.length co) [(bo,.row (us.set q u9) eo false)]:=KI List.length_set bb bd hI2.N4;replace aq:=aq.weaken b;refine af ?_;refine aH ?_;refine ad ?_;refine ah Z ?_;refine S Z (aA Z Z Z) Z ?_;refine S Z (N Z) Z ?_;refine af ?_;refine aL ⟨j5-1,(by have:=aU T;omega),(by(iterate 61 refine a8.put Z ?_);exact a8.refl _ _),i+1,_,_,_,_,⟨by omega,hO2,hI2⟩,Z,congrArg (fun z=>some (Y.int .i64 z))<|aZ oM,aq⟩
  refine ah Z ?_;refine S Z (N Z) Z ?_;refine S Z (N Z) Z ?_;refine S Z (aA (v:=.int .i64 (.ofNat (i+1))) Z Z<|congrArg (fun z=>some (Y.int .i64 z))<|aZ oM) Z ?_;have hnew:=Hk (bF ao);replace aq:H V K2 (F++(C++L)):=by rw[<-lQ_];exact aq
  refine jY aq Z (cM (e:=3) (m:=1) (z:=[.int .i64 0]) (cs:=[_]) J J J J<|bB Z Z Z Z cj) (fun _=>Z) (fun V E aq=>?_);have hO38:dP 1 3 dG [Int.ofNat (i+1)] (.slice E 0 1 (.known 1)) [(E,.row [.int .i64 (.ofNat (i+1))] 3 false)]:=Kq;replace aq:H V K2 (F++(((E,.row [.int .i64 (.ofNat (i+1))] 3 false)::C)++L)):=aq.perm (by exact List.perm_middle.symm);refine jY aq Z (cM (e:=28) (m:=1) (z:=[.aB]) (cs:=[_]) J J J J<|bB Z Z Z Z cj) (fun _=>Z) (fun V c8 aq=>?_);refine iA (R:=RV) (m:=1) (e:=28) hO aq (fL (m:=1) Z ⟨Z,Z,Z⟩) RV.leaf (by have:=W.length;have:=(yV (l:=l) (t:=i) oM).len;simp;omega) Z Z Z Z Z Z Z (fun _=>Z) (fun V c9 bk hO40 aq=>?_);have hI2:gb 1 3 dG (gk l (i+1)) (us++[.slice E 0 1 (.known 1)]) ((E,.row [.int .i64 (.ofNat (i+1))] 3 false)::C):=by rw[hnew];exact .snoc W hO38
  replace aq:H V K2 ((bk++((E,.row [.int .i64 (.ofNat (i+1))] 3 false)::C))++L):=by rw[lQ_];exact aq
  replace aq:=aq.weaken b;refine S Z (aj Z) Z ?_;refine af ?_;refine aH ?_;refine ad ?_;refine ah Z ?_;refine S Z (aA Z Z Z) Z ?_;refine S Z (N Z) Z ?_;refine af ?_;refine aL ⟨j5-1,(by have:=aU T;omega),(by(iterate 57 refine a8.put Z ?_);exact a8.refl _ _),i+1,_,_,_,_,⟨by omega,hO40,hI2⟩,Z,congrArg (fun z=>some (Y.int .i64 z))<|aZ oM,aq⟩
 refine bc ?_;refine aP ?_;refine aQ ?_;refine aN ?_;refine ad ?_;refine ai ?_;refine ah Z ?_;refine S Z (N Z) Z ?_;refine S Z (aj Z) Z ?_;refine af ?_;refine ad ?_;refine aD ?_;exact ay Z Z ⟨us,F,C,hO,by unfold fy;rw[<-show i=l.length by have:=bx T;omega];exact W,aq.weaken I⟩
theorem Gk {i v q:Nat} {cl a:List Int} (h:cl[q]? =some (Int.ofNat v)):pG i a (cl.take (q+1))=(pG i a<|cl.take q).set v (.ofNat i):=by
 unfold pG;rw[List.take_add_one,h,List.foldl_append];rfl
theorem x6 {cl:List Int}:∀{s:List (List Int)} {i:Nat} {a:List Int},jA (s++[cl]) i a=pG (i+s.length) (jA s i a) cl
 | [],_,_=>rfl
 | c::s,i,a=>by
  show jA (s++[cl]) (i+1) (pG i a c)=pG (i+(s.length+1)) (jA s (i+1)<|pG i a c) cl;rw[x6,show i+1+s.length=i+(s.length+1) by omega]
theorem DA {s:List (List Int)} {i:Nat} {cl a:List Int} (h:s[i]? =some cl):jA (s.take (i+1)) 0 a=pG i (jA (s.take i) 0 a) cl:=by
 have hl:=(gA.1 h).1;rw[List.take_add_one,h];show jA (s.take i++[cl]) 0 a=_;rw[x6,lT_,nA_,Nat.min_eq_left oM]
theorem AR {K:KP} {l:List Int} {b e n:Nat} (hk:K b (.row (l.map gZ) e false)) (d:l.length=n) (hl:n<=1000):bI K 1 dG l (.slice b 0 n (.known n)):=by
 subst d;refine .inr ⟨b,0,.known l.length,_,e,false,Z,.inr ⟨_,Z,nR_ _⟩,hk,by simp,by omega,fun i x hx=>?_⟩;have h1:=(gA.1 hx).1;have m:(l.map gZ)[i]? =some (gZ x):=by rw[gM_,hx];rfl
 obtain⟨u,h4⟩:=gA.1 m;rw[nA_,Nat.mul_one,List.drop_eq_getElem_cons u,h4];rfl
theorem Lf {G:Cx} (hG:Plain G) {K:KP} {k:Nat} {l:List XC} {lv:Y} (hl:bI K 2 (jF K k) l lv) (ap:l.length<=4) {V:B} {L:Own} (aq:H V K L):
  aT Tryz.prog G 33 [lv] V fun v V'=>∃K' pl pc cv,v= .func 62 [] [pl,pc]/\KP.le K K'/\cX K' pl [lv]/\cX K' pc [cv]/\bI K' 1 dG (lF l) cv/\H V' K' L:=by
 refine aW hG Tryz.func33 Z (t:=D.leaf.put (some (lv)) 0) (by rfl) ?_;refine ai ?_;refine ah Z ?_;refine bH aq Z (cL Z hl.leaf.1) (fun _=>Z) (fun V b1 aq=>?_);obtain⟨K1,A,b,aq⟩:=aq.eA (M:=[_]);have X:cX K1 (.ptr b1 0) [lv]:=.one (b _ (.head _));clear b;replace hl:=hl.mono A fun _ _ h=>h.mono A
 refine S Z (aj Z) Z ?_;refine af ?_;refine ad ?_;refine ai ?_;refine ah Z ?_;refine S Z (aM aq X Z J Z) Z ?_;refine S Z (aO hl Z Z Z (e:=63) J Z) Z ?_;refine S Z (aA (v:=.int .i64 (.ofNat (l.length+1))) Z Z<|congrArg (fun z=>some (Y.int .i64 z))<|aZ oM) Z ?_;refine jY aq Z (ux (e:=3) (w:=8) (z:=[gZ 0]) J J J J Z Z oM oM) (fun _=>Z) (fun V u aq=>?_);rw[wJ (f:=gZ)] at aq;refine bH aq Z (ea (cs:=[.aB]) J J) (fun _=>Z) (fun V b3 aq=>?_);refine db aq Z (bz Z Z Z (aq.get 0 Z) (m:=1) J Z (Nat.le_of_ble_eq_true Z) (ar Z aS) (cells':=[_]) Z) Z (fun V aq=>?_);refine af ?_;refine ad ?_;refine ai ?_;refine ai ?_;refine ah Z ?_;refine S Z (aM aq X Z J Z) Z ?_;refine dJ Z (aR Z Z Z J) (fun _=>Z) (GI hG hl ap aq) ?_;rintro bo V ⟨us,O1,I1,hO,hI,aq⟩;obtain⟨K2,U,b,aq⟩:=aq.eA (M:=O1++I1);have hcs:=IV (K:=K2) hI hO (fun e he=>b e (List.mem_append_right _ he)) (fun e he=>b e (List.mem_append_left _ he));clear b;have hco:=yV (l:=l) (nR_ _);refine S Z (aO hcs Z Z Z (e:=28) J Z) Z ?_;refine S Z (N Z) Z ?_;refine af ?_;refine ad ?_;refine aJ ?_;refine ba [4,5,7,15,16,17,18,19,20,21,22,23,24,25,26,27,28,29,30,31] (fun j t V=>∃(i:Nat),j+i=(fy l).length/\t.get 15=some (.int .i64 (.ofNat i))/\H V K2 ((b3,.row [.slice u 0 (l.length+1) (.known (l.length+1))] 28 false)::(u,.row ((jA ((fy l).take i) 0<|List.replicate (l.length+1) 0).map gZ) 3 false)::L)) ((fy l).length) ⟨0,Z,Z,aq⟩ ?_;clear aq;intro j3 t V an hI;obtain⟨i,bs,C,aq⟩:=hI;replace an:=an.bR Z Z;obtain⟨o4,o5,o7,au,bt,bv,bw,bX,an⟩:=an;replace an:=an.bR Z Z;obtain⟨b0,b4,aa,av,aE,a0,a1,a2,an⟩:=an;replace an:=an.r4 Z;obtain⟨a3,a4,a5,b5,an⟩:=an;obtain rfl:=an.nil;clear an;replace C:au=some _:=C;subst C;refine ai ?_;refine ah Z ?_;refine S Z (aA Z Z Z) Z ?_;refine af ?_;refine ad ?_;refine ai ?_;refine aC Z (fun R=>?_) (fun R=>?_)
 ·refine aG ?_;refine ad ?_;refine ai ?_;refine aJ ?_;refine ai ?_;refine ah Z ?_;refine S Z (N Z) Z ?_;obtain⟨d,E,bd⟩:=cO R;refine bO (e:=28) (m:=1) hcs E Z Z J J Z Z (fun _=>Z) (fun b6 be ab bi ac=>?_);have hr18':=ac;obtain⟨b7,rfl,F⟩:=hr18';refine S Z (aM aq ab Z J Z) Z ?_;refine S Z (aj Z) Z ?_;refine S Z (aj Z) Z ?_;refine af ?_;refine ad ?_;refine ai ?_;refine ah Z ?_;refine S Z (N Z) Z ?_;refine S Z (aO F Z Z Z (e:=3) J Z) Z ?_;replace aq:H V K2 ((b3,.row [.slice u 0 (l.length+1) (.known (l.length+1))] 28 false)::(u,.row ((pG i (jA ((fy l).take i) 0<|List.replicate (l.length+1) 0)<|d.take 0).map gZ) 3 false)::L):=aq;refine S Z (N Z) Z ?_;refine af ?_;refine ad ?_;refine aJ ?_;refine ba [7,22,23,24,25,26,27,28,29,30] (fun j t V=>∃(q:Nat),j+q=d.length/\t.get 22=some (.int .i64 (.ofNat q))/\H V K2 ((b3,.row [.slice u 0 (l.length+1) (.known (l.length+1))] 28 false)::(u,.row ((pG i (jA ((fy l).take i) 0<|List.replicate (l.length+1) 0)<|d.take q).map gZ) 3 false)::L)) (d.length) ⟨0,Z,Z,aq⟩ ?_;clear aq;intro j6 t V an hI;obtain⟨q,b8,I,aq⟩:=hI;replace an:=an.bR Z Z;obtain⟨o7,aa,av,aE,a0,a1,a2,a3,an⟩:=an;replace an:=an.eb Z;obtain⟨a4,an⟩:=an;replace an:=an.eb Z;obtain⟨a5,an⟩:=an;obtain rfl:=an.nil;clear an;replace I:aa=some _:=I;subst I;refine ai ?_;refine ah Z ?_;refine S Z (aA Z Z Z) Z ?_;refine af ?_;refine ad ?_;refine ai ?_;refine aC Z (fun T=>?_) (fun T=>?_)
  ·refine aG ?_;refine ad ?_;refine ai ?_;refine aJ ?_;refine ai ?_;refine ah Z ?_;obtain⟨a9,Q,bk⟩:=cO T;refine bO (e:=3) (m:=1) F Q Z Z J J Z Z (fun _=>Z) (fun b9 bl ak bm am=>?_);obtain rfl:=am;refine S Z (aM aq ak Z J Z) Z ?_;refine S Z (aj Z) Z ?_;refine af ?_;refine ad ?_;refine ah Z ?_;obtain⟨_,_,_,_,_,_,ao⟩:=hco.all d (gB_ E);obtain⟨w,hw,bb,_⟩:=ao a9 (gB_ Q);subst bb;refine S Z (aw Z (aq.get 0 Z) J Z) Z ?_;refine S Z (N Z) Z ?_;refine S Z (N Z) Z ?_;refine S Z (lz (e:=3) (m:=1) J J Z Z oM) Z ?_;refine ja aq (.there .here) Z (bz Z Z Z (aq.get 1 Z) (m:=1) J Z (by rw[lM_];rw[rF,oX,List.length_replicate];omega) (ar Z aS) (cells':=((pG i (jA ((fy l).take i) 0<|List.replicate (l.length+1) 0)<|d.take q).set (w+1) (.ofNat i)).map (gZ)) (fw (f:=gZ) (v:=(.ofNat i)) (by rw[rF,oX,List.length_replicate];omega) (by first | omega | rfl))) Z (fun V aq=>?_);refine af ?_;refine aH ?_;refine ad ?_;refine ah Z ?_;refine S Z (aA Z Z Z) Z ?_;refine S Z (N Z) Z ?_;refine af ?_;replace aq:H V K2 ((b3,.row [.slice u 0 (l.length+1) (.known (l.length+1))] 28 false)::(u,.row ((pG i (jA ((fy l).take i) 0<|List.replicate (l.length+1) 0)<|d.take (q+1)).map gZ) 3 false)::L):=by rw[Gk Q];exact aq
   refine aL ⟨j6-1,(by have:=aU T;omega),(by(iterate 20 refine a8.put Z ?_);exact a8.refl _ _),q+1,by omega,congrArg (fun z=>some (Y.int .i64 z))<|aZ (by have:=F.bM;omega),aq⟩
  refine bc ?_;refine aP ?_;refine aQ ?_;refine aN ?_;refine aH ?_;refine ad ?_;refine ah Z ?_;refine S Z (aA Z Z Z) Z ?_;refine S Z (N Z) Z ?_;refine af ?_;replace aq:H V K2 ((b3,.row [.slice u 0 (l.length+1) (.known (l.length+1))] 28 false)::(u,.row ((jA ((fy l).take (i+1)) 0<|List.replicate (l.length+1) 0).map gZ) 3 false)::L):=by rw[DA E,<-tL_ (l:=d) (i:=q) (by have:=bx T;omega)];exact aq
  refine aL ⟨j3-1,(by have:=aU R;omega),(by(iterate 42 refine a8.put Z ?_);exact a8.refl _ _),i+1,by omega,congrArg (fun z=>some (Y.int .i64 z))<|aZ (by have:=hcs.bM;omega),aq⟩
 refine bc ?_;refine aP ?_;refine aQ ?_;refine aN ?_;refine ad ?_;refine ai ?_;refine ah Z ?_;refine S Z (bK Z Z) Z ?_;refine S Z (aj Z) Z ?_;refine af ?_;refine ad ?_;refine aD ?_;replace aq:H V K2 ((b3,.row [.slice u 0 (l.length+1) (.known (l.length+1))] 28 false)::(u,.row ((lF l).map gZ) 3 false)::L):=by unfold lF;rw[<-tL_ (l:=fy l) (i:=i) (by have:=bx R;omega)];exact aq
 obtain⟨K3,W,b,aq⟩:=aq.eA (M:=[_,_]) (L:=L);exact ay Z Z ⟨K3,_,_,_,Z,KP.le_trans A<|KP.le_trans U W,X.mono<|KP.le_trans U W,.one<|b _ (.head _),AR (b _ (.tail _ (.head _))) lU oM,aq⟩
theorem GJ {G:Cx} (E:Plain G) {K:KP} {l:List Int} {v:Y} (h:bI K 1 dG l v) (F:l.length<=1048576) {V:B} {L:Own} (aq:H V K L):aT Tryz.prog G 70 [v] V fun u V'=>∃M,dP 1 2 dG l u M/\H V' K (M++L):=by
 have h0:=h;rcases h0 with ⟨rfl,rfl⟩ | ⟨b,off,c,cells,e,ro,rfl,_⟩
 ·refine aW E Tryz.func70 Z (t:=D.leaf.put (some (.aB)) 0) (by rfl) ?_;refine ai ?_;refine ah Z ?_;refine S Z (aj Z) Z ?_;refine af ?_;refine ad ?_;refine ai ?_;refine ai ?_;refine ah Z ?_;refine S Z (N Z) Z ?_;refine S Z (aA Z Z Z) Z ?_;refine af ?_;refine ad ?_;refine bn Z ?_;refine ai ?_;refine ah Z ?_;refine S Z (aj Z) Z ?_;refine af ?_;refine ad ?_;refine aD ?_;refine az (?_);exact ay Z Z ⟨[],.inl ⟨Z,Z,Z⟩,aq⟩
 refine aW E Tryz.func70 Z (t:=D.leaf.put (some (.slice b off l.length c)) 0) (by rfl) ?_;refine ai ?_;refine ah Z ?_;refine S Z (aj Z) Z ?_;refine af ?_;refine ad ?_;refine ai ?_;refine ai ?_;refine ah Z ?_;refine S Z (N Z) Z ?_;refine S Z (aA Z Z Z) Z ?_;refine af ?_;refine ad ?_;refine bf Z ?_;refine aG ?_;refine ad ?_;refine ai ?_;refine ah Z ?_;refine jY aq Z (cM (e:=2) (m:=1) (z:=[.int .i64 0]) (cs:=[]) J J J J cj) (fun _=>Z) (fun V Q aq=>?_);replace aq:H V _ ([(Q,.row [] 2 false)]++_):=aq;refine S Z (N Z) Z ?_;refine Bn (R:=dG) (m:=1) (e:=2) aq h dG.leaf F (by simp) (by decide) (.inl Z) Z Z Z Z Z J J J Z Z (fun _=>Z) (fun V I T news e2 aq d A C=>?_);refine S Z (aj Z) Z ?_;refine af ?_;refine ad ?_;refine aD ?_;exact ay Z Z ⟨[(I,.row ([]++news) e2 false)],.inr ⟨I,T,news,e2,by rw[nA_],Z,d,A,by simpa using C,F⟩,aq⟩
theorem Jk {G:Cx} (E:Plain G) {K:KP} {l:List cq} {v:Y} (h:bI K 5 qQ l v) (F:l.length<=1048576) {V:B} {L:Own} (aq:H V K L):aT Tryz.prog G 71 [v] V fun u V'=>∃M,dP 5 92 qQ l u M/\H V' K (M++L):=by
 have h0:=h;rcases h0 with ⟨rfl,rfl⟩ | ⟨b,off,c,cells,e,ro,rfl,_⟩
 ·refine aW E Tryz.func71 Z (t:=D.leaf.put (some (.aB)) 0) (by rfl) ?_;refine ai ?_;refine ah Z ?_;refine S Z (aj Z) Z ?_;refine af ?_;refine ad ?_;refine ai ?_;refine ai ?_;refine ah Z ?_;refine S Z (N Z) Z ?_;refine S Z (aA Z Z Z) Z ?_;refine af ?_;refine ad ?_;refine bn Z ?_;refine ai ?_;refine ah Z ?_;refine S Z (aj Z) Z ?_;refine af ?_;refine ad ?_;refine aD ?_;refine az (?_);exact ay Z Z ⟨[],.inl ⟨Z,Z,Z⟩,aq⟩
 refine aW E Tryz.func71 Z (t:=D.leaf.put (some (.slice b off l.length c)) 0) (by rfl) ?_;refine ai ?_;refine ah Z ?_;refine S Z (aj Z) Z ?_;refine af ?_;refine ad ?_;refine ai ?_;refine ai ?_;refine ah Z ?_;refine S Z (N Z) Z ?_;refine S Z (aA Z Z Z) Z ?_;refine af ?_;refine ad ?_;refine bf Z ?_;refine aG ?_;refine ad ?_;refine ai ?_;refine ah Z ?_;refine jY aq Z (cM (e:=92) (m:=5) (z:=[.int .i64 0,.int .i64 0,.int .i64 0,.int .i64 0,.int .i64 0]) (cs:=[]) J J J J cj) (fun _=>Z) (fun V Q aq=>?_);replace aq:H V _ ([(Q,.row [] 92 false)]++_):=aq;refine S Z (N Z) Z ?_;refine Bn (R:=qQ) (m:=5) (e:=92) aq h qQ.leaf F (by simp) (by decide) (.inl Z) Z Z Z Z Z J J J Z Z (fun _=>Z) (fun V I T news e2 aq d A C=>?_);refine S Z (aj Z) Z ?_;refine af ?_;refine ad ?_;refine aD ?_;exact ay Z Z ⟨[(I,.row ([]++news) e2 false)],.inr ⟨I,T,news,e2,by rw[nA_],Z,d,A,by simpa using C,F⟩,aq⟩
end Go.Ev
namespace Go.Ev
variable [Env]
structure GY (g g':XG) (θ:Nat->Nat):Prop where
 lt:∀i,i<nV g->θ i<nV g'
 inj:∀i j,i<nV g->j<nV g->θ i=θ j->i=j
 ev:∀i,i<nV g->sl g' (θ i)=sl g i
 po:∀i j,i<nV g->j<nV g->Og g' (θ i) (θ j)=Og g i j
 from_:∀i,i<nV g->dw (sl g i)=true->∃f,f<nV g/\rh g i= .ofNat f/\rh g' (θ i)= .ofNat (θ f)
 place:∀i,i<nV g->zA g' (θ i)=zA g i
section
variable {g g':XG} {θ:Nat->Nat} (h:GY g g' θ)
include h
theorem GY.eq (i j:Nat) (hi:i<nV g) (hj:j<nV g):bD (.ofNat (θ i)) (.ofNat (θ j))=bD (.ofNat i) (.ofNat j):=by
 rw[cR,cR,Bool.eq_iff_iff,decide_eq_true_iff,decide_eq_true_iff];constructor
 ·intro e;rw[h.inj i j hi hj<|iJ_ e]
 intro e;rw[iJ_ e]
theorem GY.LB (i:Nat) (hi:i<nV g) (b:dw (sl g i)=true):(rh g i).toNat<nV g/\(rh g' (θ i)).toNat=θ (rh g i).toNat:=by
 obtain⟨f,h1,d,m⟩:=h.from_ i hi b;rw[d,m];exact⟨h1,Z⟩
theorem GY.co (i j:Nat) (hi:i<nV g) (hj:j<nV g):OL g' (θ i) (θ j)=OL g i j:=by
 unfold OL;rw[h.ev i hi,h.ev j hj,h.place i hi,h.place j hj]
theorem GY.fr (i j:Nat) (hi:i<nV g) (hj:j<nV g):Pv g' (θ i) (θ j)=Pv g i j:=by
 unfold Pv;rw[h.eq i j hi hj,h.ev i hi];cases b:dw (sl g i) with
 | false=>rfl
 | true=>
  obtain⟨h1,d⟩:=h.LB i hi b;rw[d,h.co _ _ h1 hj]
theorem GY.tc {R R':Rn} (b:∀i j,i<nV g->j<nV g->R i j=true->R' (θ i) (θ j)=true) {i j:Nat} (d:Tc (nV g) R i j):Tc (nV g') R' (θ i) (θ j):=by
 induction d with
 | one hi hj m=>exact .one (h.lt _ hi) (h.lt _ hj) (b _ _ hi hj m)
 | step _ _ h1 u=>exact .step h1 u
theorem GY.G2 {R R':Rn} (b:∀i j,i<nV g->j<nV g->R i j=true->R' (θ i) (θ j)=true) (i j:Nat) (d:Go.Ev.G2 (nV g) R i j=true):Go.Ev.G2 (nV g') R' (θ i) (θ j)=true:=Ff.2 (h.tc b<|Ff.1 d)
theorem GY.sq {w k:Nat} (hw:w<nV g) (d:Sq g w k):k<nV g/\Sq g' (θ w) (θ k):=by
 induction d with
 | base=>exact⟨hw,.base⟩
 | step hi hk hf _ ih=>
  refine⟨hi,.step (h.lt _ hi) (by rw[h.ev _ hi];exact hk) (f:=θ _) ?_ ih.2⟩;obtain⟨f,h1,b,m⟩:=h.from_ _ hi (A6 hk);rw[hf] at b;rw[m,iJ_ b]
theorem GY.sw (i j:Nat) (F:OE g i j=true):OE g' (θ i) (θ j)=true:=by
 obtain⟨w,b,hw,hb,hi,hj,u,d,A,C⟩:=Fc.1 F;refine Fc.2 ⟨θ w,θ b,h.lt w hw,h.lt b hb,h.lt i hi,h.lt j hj,?_,?_,?_,?_⟩
 ·unfold Hr at u⊢;rw[h.ev w hw];exact u
 ·unfold Hp at d⊢;rw[h.ev b hb];cases m:dw (sl g b) with
  | false=>rw[m] at d;cases d
  | true=>
   rw[m] at d;cases E:bD (sl g b).order 1 with
   | true=>rw[E] at d;cases d
   | false=>
    rw[E] at d;obtain⟨h1,G⟩:=h.LB b hb m;show KJ g' (θ w) (rh g' (θ b)).toNat=true;rw[G];exact BK.2 (h.sq hw<|BK.1 d).2
 ·unfold Hq Ol at A⊢;rw[h.ev i hi,h.eq i w hi hw,h.po i w hi hw];exact A
 unfold Ho NK at C⊢;rw[h.ev j hj,h.eq j b hj hb,h.po b j hb hj];exact C
theorem GY.or {A A' B_ B':Rn} (d:∀i j,i<nV g->j<nV g->A i j=true->A' (θ i) (θ j)=true) (m:∀i j,i<nV g->j<nV g->B_ i j=true->B' (θ i) (θ j)=true) (i j:Nat) (hi:i<nV g) (hj:j<nV g) (b:OT [A,B_] i j=true):OT [A',B'] (θ i) (θ j)=true:=by
 unfold OT at b⊢;simp only[List.any_cons,List.any_nil,Bool.or_false,Bool.or_eq_true] at b⊢;rcases b with h1 | h1
 ·exact .inl<|d i j hi hj h1
 exact .inr<|m i j hi hj h1
theorem GY.round {R R':Rn} (b:∀i j,i<nV g->j<nV g->R i j=true->R' (θ i) (θ j)=true) (hb:bW (da (DG (nV g) R) 0)=true):bW (da (DG (nV g') R') 0)=true:=by
 unfold DG at hb⊢;rw[AX] at hb⊢;have hb:(List.range<|nV g).any (fun i=>Go.Ev.G2 (nV g) R i i)=true:=by revert hb;cases (List.range<|nV g).any (fun i=>Go.Ev.G2 (nV g) R i i)<;>simp[bW]
 have:(List.range<|nV g').any (fun i=>Go.Ev.G2 (nV g') R' i i)=true:=by
  obtain⟨i,hi,d⟩:=List.any_eq_true.1 hb;exact List.any_eq_true.2 ⟨θ i,List.mem_range.2<|h.lt i<|List.mem_range.1 hi,h.G2 b i i d⟩
 rw[this];rfl
theorem GY.hb (i j:Nat) (_:i<nV g) (_:j<nV g) (b:Px g i j=true):Px g' (θ i) (θ j)=true:=by
 unfold Px at b⊢;exact h.G2 (h.or (fun i j hi hj b=>by rw[h.po i j hi hj];exact b) fun i j _ _ b=>h.sw i j b) i j b
end
section
variable {p q:Nat->Nat} {g:XG}
end
end Go.Ev
namespace Go.Ev
variable [Env]
open Go.Proofs
set_option maxRecDepth 4000
set_option maxHeartbeats 8000000
theorem sU {α:Type} {l:List α} {i:Nat} {x:α} (h:l[i]? =some x):l.take (i+1)=l.take i++[x]:=by rw[List.take_add_one,h];rfl
def Af (ps:List Int) (id:cm):cm:=bif da 0 id.bX then⟨(ps[id.bX.toNat-1]?).getD 0,id.index⟩ else id
def ND (n:Nat) (id:cm):Prop:=da 0 id.bX=true->∃t:Nat,id.bX= .ofNat (t+1)/\t<n
theorem Fk {G:Cx} (hG:Plain G) {K:KP} {ps:List Int} {pv pp:Y} (hp:bI K 1 dG ps pv) (ak:cX K pp [pv]) {l:List cm} {v:Y} (h:bI K 2 nh l v) (am:∀x∈l,ND ps.length x) (a4:l.length<=1000) {V:B} {L:Own} (aq:H V K L):
  aT Tryz.prog G 69 [v,pp] V fun u V'=>∃M,dP 2 59 nh (l.map<|Af ps) u M/\H V' K (M++L):=by
 refine aW hG Tryz.func69 Z (t:=(D.leaf.put (some (v)) 0).put (some (pp)) 1) (by rfl) ?_;refine ai ?_;refine ah Z ?_;refine S Z (aj Z) Z ?_;refine af ?_;refine ad ?_;refine ai ?_;refine ah Z ?_;refine S Z (aj Z) Z ?_;refine af ?_;refine ad ?_;refine ai ?_;refine ai ?_;refine ah Z ?_;refine S Z (N Z) Z ?_;refine S Z (aO h Z Z Z (e:=59) J Z) Z ?_;refine S Z (N Z) Z ?_;refine af ?_;refine ad ?_;refine aJ ?_;refine ba [4,6,9,10,11,12,13,14,15,16,17,18,19,20,21,22,23,24,25,26,27] (fun j t V=>∃(i:Nat) (u:Y) (M:Own),(j+i=l.length/\dP 2 59 nh ((l.take i).map<|Af ps) u M)/\t.get 4=some (u)/\t.get 9=some (.int .i64 (.ofNat i))/\H V K (M++L)) (l.length) ⟨0,.aB,[],⟨Z,.inl ⟨Z,Z,Z⟩⟩,Z,Z,aq⟩ ?_;clear aq;intro j3 t V an hI;obtain⟨i,u,M,⟨a5,hO⟩,I,Q,aq⟩:=hI;replace an:=an.bR Z Z;obtain⟨o4,o6,o9,a9,bb,bd,be,bi,an⟩:=an;replace an:=an.bR Z Z;obtain⟨bk,bl,bm,bo,bs,bt,bv,bw,an⟩:=an;replace an:=an.r4 Z;obtain⟨b0,b2,b3,b4,an⟩:=an;replace an:=an.eb Z;obtain⟨b5,an⟩:=an;obtain rfl:=an.nil;clear an;replace I:o4=some _:=I;subst I;replace Q:o9=some _:=Q;subst Q;refine ai ?_;refine ah Z ?_;refine S Z (aA Z Z Z) Z ?_;refine af ?_;refine ad ?_;refine ai ?_;refine aC Z (fun A=>?_) (fun A=>?_)
 ·refine aG ?_;refine ad ?_;refine ai ?_;refine aJ ?_;refine ai ?_;refine ah Z ?_;obtain⟨b,d,aE⟩:=cO A;refine bO (e:=59) (m:=2) h d Z Z J J Z Z (fun _=>Z) (fun b6 a0 X a1 aa=>?_);obtain rfl:=aa;refine S Z (bC aq X Z J Z) Z ?_;refine bH aq Z (ea (cs:=[.int .i64 0,.int .i64 0]) J J) (fun _=>Z) (fun V b1 aq=>?_);refine db aq Z (bz Z Z Z (aq.get 0 Z) (m:=2) J Z (Nat.le_of_ble_eq_true Z) (ar Z<|ar Z aS) (cells':=[_,_]) Z) Z (fun V aq=>?_);refine af ?_;refine ad ?_;refine ai ?_;refine ai ?_;refine ah Z ?_;refine S Z (ax Z (k:=0) J) Z ?_;refine S Z (aw Z (aq.get 0 Z) J Z) Z ?_;refine S Z (aA Z Z Z) Z ?_;refine af ?_;refine ad ?_;refine aC Z (fun C=>?_) (fun C=>?_)
  ·refine ah Z ?_;refine S Z (aM aq ak Z J Z) Z ?_;refine S Z (ax Z (k:=0) J) Z ?_;refine S Z (aw Z (aq.get 0 Z) J Z) Z ?_;obtain⟨T,E,U⟩:=am _ (gB_ d) C;obtain⟨ao,F⟩:=cF U;refine S Z (aA (v:=.int .i64 (.ofNat T)) Z Z (by rw[E];exact congrArg (fun z=>some (Y.int .i64 z))<|gy (by have:=hp.bM;omega))) Z ?_;refine bO (e:=3) (m:=1) hp F Z Z J J Z Z (fun _=>Z) (fun b7 a2 ab a3 ac=>?_);obtain rfl:=ac;refine S Z (aM aq ab Z J Z) Z ?_;refine S Z (ax Z (k:=0) J) Z ?_;refine db aq Z (bz Z Z Z (aq.get 0 Z) (m:=1) J Z (Nat.le_of_ble_eq_true Z) (ar Z aS) (cells':=[_,_]) Z) Z (fun V aq=>?_);refine af ?_;refine ad ?_;refine ah Z ?_;refine S Z (N Z) Z ?_;refine S Z (bA Z (aq.get 0 Z) (n:=2) (vs:=[_,_]) J (Nat.le_of_ble_eq_true Z) Z) Z ?_;refine jY aq Z (cM (e:=59) (m:=2) (z:=[.int .i64 0,.int .i64 0]) (cs:=[_,_]) J J J J<|bB Z Z Z Z cj) (fun _=>Z) (fun V ap aq=>?_);replace aq:=aq.perm (List.Perm.cons _ (List.perm_middle.symm));have W:Af ps b=⟨ao,b.index⟩:=by unfold Af;rw[show da 0 b.bX=true from C];simp only[cond_true];rw[E,show(Int.ofNat (T+1)).toNat-1=T from Z,F];rfl
   refine iA (R:=nh) (m:=2) (e:=59) hO aq (fL (m:=2) Z (show nh (Af ps b) _ from by rw[W];rfl)) nh.leaf (by rw[lM_,lT_];simp;omega) Z Z Z Z Z Z Z (fun _=>Z) (fun V au av hO26 aq=>?_);replace aq:=aq.perm List.perm_middle;replace aq:=aq.pop;refine S Z (aj Z) Z ?_;refine af ?_;refine aH ?_;refine ad ?_;refine ah Z ?_;refine S Z (aA Z Z Z) Z ?_;refine S Z (N Z) Z ?_;refine af ?_;refine aL ⟨j3-1,(by have:=aU A;omega),(by(iterate 42 refine a8.put Z ?_);exact a8.refl _ _),i+1,_,_,⟨by omega,by rw[sU d,List.map_append];exact hO26⟩,Z,congrArg (fun z=>some (Y.int .i64 z))<|aZ (by have:=h.bM;omega),aq⟩
  refine aG ?_;refine ad ?_;refine ah Z ?_;refine S Z (N Z) Z ?_;refine S Z (bA Z (aq.get 0 Z) (n:=2) (vs:=[_,_]) J (Nat.le_of_ble_eq_true Z) Z) Z ?_;refine jY aq Z (cM (e:=59) (m:=2) (z:=[.int .i64 0,.int .i64 0]) (cs:=[_,_]) J J J J<|bB Z Z Z Z cj) (fun _=>Z) (fun V ap aq=>?_);replace aq:=aq.perm (List.Perm.cons _ (List.perm_middle.symm));have W:Af ps b=⟨b.bX,b.index⟩:=by unfold Af;rw[show da 0 b.bX=false from C];rfl
  refine iA (R:=nh) (m:=2) (e:=59) hO aq (fL (m:=2) Z (show nh (Af ps b) _ from by rw[W];rfl)) nh.leaf (by rw[lM_,lT_];simp;omega) Z Z Z Z Z Z Z (fun _=>Z) (fun V au av hO26 aq=>?_);replace aq:=aq.perm List.perm_middle;replace aq:=aq.pop;refine S Z (aj Z) Z ?_;refine af ?_;refine aH ?_;refine ad ?_;refine ah Z ?_;refine S Z (aA Z Z Z) Z ?_;refine S Z (N Z) Z ?_;refine af ?_;refine aL ⟨j3-1,(by have:=aU A;omega),(by(iterate 35 refine a8.put Z ?_);exact a8.refl _ _),i+1,_,_,⟨by omega,by rw[sU d,List.map_append];exact hO26⟩,Z,congrArg (fun z=>some (Y.int .i64 z))<|aZ (by have:=h.bM;omega),aq⟩
 refine bc ?_;refine aP ?_;refine aQ ?_;refine aN ?_;refine ad ?_;refine ai ?_;refine ah Z ?_;refine S Z (N Z) Z ?_;refine S Z (aj Z) Z ?_;refine af ?_;refine ad ?_;refine aD ?_;exact ay Z Z ⟨M,by rw[<-tL_ (l:=l) (i:=i) (by have:=bx A;omega)];exact hO,aq⟩
section
variable {α:Type} {m:Nat} {R:α->List Y->Prop} {rs:List (List α)} {us:List Y} {K K':KP}
def Rows (K:KP) (m:Nat) (R:α->List Y->Prop) (rs:List (List α)) (us:List Y):Prop:=us.length=rs.length/\∀(i:Nat) (r:List α),rs[i]? =some r->∃u,us[i]? =some u/\bI K m R r u
theorem Rows.mono (h:Rows K m R rs us) (hk:KP.le K K'):Rows K' m R rs us:=⟨h.1,fun i r b=>by obtain⟨u,h1,d⟩:=h.2 i r b;exact⟨u,h1,d.mono hk fun _ _ h=>h⟩⟩
theorem Rows.Oa {n:Nat}:Rows K m R (List.replicate n []) (List.replicate n .aB):=⟨by simp,fun i r b=>by
 have h1:=(gA.1 b).1;rw[List.length_replicate] at h1;rw[List.getElem?_replicate,if_pos h1] at b;cases b;exact⟨.aB,by rw[List.getElem?_replicate,if_pos h1],.inl ⟨Z,Z⟩⟩⟩
theorem Rows.set (h:Rows K m R rs us) {i:Nat} {r:List α} {u:Y} (d:bI K m R r u):Rows K m R (rs.set i r) (us.set i u):=⟨by rw[List.length_set,List.length_set];exact h.1,fun j r' b=>by
 by_cases e:i=j
 ·subst e;have h1:=(gA.1 b).1;rw[List.length_set] at h1;rw[List.getElem?_set_self h1] at b;cases b;exact⟨u,List.getElem?_set_self (by rw[h.1];exact h1),d⟩
 rw[List.getElem?_set_ne e] at b⊢;exact h.2 j r' b⟩
theorem Rows.snoc (h:Rows K m R rs us) {r:List α} {u:Y} (A:bI K m R r u):Rows K m R (rs++[r]) (us++[u]):=⟨by rw[lA_,lA_,h.1];rfl,fun j r' b=>by
 by_cases e:j<rs.length
 ·rw[gL_ e] at b;obtain⟨u',h1,d⟩:=h.2 j r' b;exact⟨u',by rw[gL_ (by rw[h.1];exact e)];exact h1,d⟩
 have h1:=(gA.1 b).1;rw[lA_] at h1;have d:j=rs.length:=by simp only[List.length_singleton] at h1;omega
 subst d;rw[gR_<|nR_ _,Nat.sub_self] at b;cases b;exact⟨u,by rw[gR_ (by rw[h.1];exact nR_ _),h.1,Nat.sub_self];rfl,A⟩⟩
theorem Rows.lJ (h:Rows K m R rs us) {b e n:Nat} {c:nj} (hk:K b (.row us e false)) (A:us.length=n) (C:c= .known n∨c= .upto 1) (hl:n<=1048576):bI K 1 (RL K m R) rs (.slice b 0 n c):=by
 subst A;refine .inr ⟨b,0,c,us,e,false,by rw[h.1],?_,hk,by rw[h.1];omega,by rw[<-h.1];omega,fun i r E=>?_⟩
 ·rcases C with rfl | rfl
  ·exact .inr ⟨_,by rw[h.1],nR_ _⟩
  exact .inl Z
 obtain⟨u,h1,F⟩:=h.2 i r E;obtain⟨d,rfl⟩:=gA.1 h1;refine⟨us[i],?_,F⟩;rw[show 0+i*1=i from by omega,List.drop_eq_getElem_cons d];rfl
theorem MN {E:Nat} {u:Y} {O_:Own} (h:Rows K m R rs us) (d:dP 1 E RV us u O_) (A:∀e∈O_,K e.1 e.2):bI K 1 (RL K m R) rs u:=by
 by_cases hz:us= []
 ·have h1:rs= []:=eN_ (by rw[<-h.1,hz];rfl);subst hz;subst h1;rcases d with ⟨_,rfl,_⟩ | ⟨b,c,cells,e,rfl,rfl,h3,h4,h5,C⟩
  ·exact .inl ⟨Z,Z⟩
  refine .inr ⟨b,0,c,cells,e,false,Z,?_,A _ (.head _),by simp,by simp,fun i x hx=>by simp at hx⟩;rcases h5 with rfl | ⟨rfl,_⟩
  ·exact .inr ⟨_,Z,nR_ _⟩
  exact .inl Z
 obtain⟨b,c,e,rfl,rfl,h5,C⟩:=zJ d hz;exact h.lJ (A _ (.head _)) Z (h5.imp id And.left) C
end
def Dk {α:Type} (q:Nat->Nat) (rows:List (List α)) (n i:Nat):List (List α):=(List.range n).map fun j=>if q j<i then(rows[q j]?).getD [] else []
theorem Bi {α:Type} {q:Nat->Nat} {rows:List (List α)} {n:Nat}:Dk q rows n 0=List.replicate n []:=by
 unfold Dk;refine List.eq_replicate_iff.2 ⟨by simp,fun b hb=>?_⟩;obtain⟨j,_,rfl⟩:=List.mem_map.1 hb;exact if_neg<|nZ_ _
theorem Bh {α:Type} {p q:Nat->Nat} {rows:List (List α)} {n i:Nat} {r:List α} (h:Pm n p q) (hi:i<n) (b:rows[i]? =some r):Dk q rows n (i+1)=(Dk q rows n i).set (p i) r:=by
 unfold Dk;refine List.ext_getElem? fun j=>?_
 by_cases hj:j<n
 ·rw[gM_,List.getElem?_range hj]
  by_cases e:p i=j
  ·subst e;rw[List.getElem?_set_self (by simpa using h.lt i hi)];show some (if q (p i)<i+1 then(rows[q<|p i]?).getD [] else [])=_;rw[h.qp i hi,if_pos<|Nat.lt_succ_self i,b];rfl
  rw[List.getElem?_set_ne e,gM_,List.getElem?_range hj];show some (if q j<i+1 then _ else _)=some (if q j<i then _ else _);have hne:q j≠i:=fun e2=>e (by rw[<-e2,h.pq j hj])
  by_cases hq:q j<i
  ·rw[if_pos hq,if_pos oM]
  rw[if_neg hq,if_neg oM]
 rw[gN_ (by simp;omega),gN_ (by simp;omega)]
theorem EI {α:Type} {p q:Nat->Nat} {rows:List (List α)} {n:Nat} (h:Pm n p q):Dk q rows n n=(List.range n).map fun j=>(rows[q j]?).getD []:=by
 unfold Dk;exact List.map_congr_left fun j hj=>by rw[if_pos<|h.Di j<|List.mem_range.1 hj]
theorem Ie {n:Nat} {p q:Nat->Nat} {ps:List Int} (h:Pm n p q) (b:∀i,i<n->ps[i]? =some (.ofNat (p i+1))) {id:cm} (d:tQ n id):Af ps id=iO p id:=by
 rcases d.case with ⟨k,rfl⟩ | ⟨t,k,u,rfl⟩
 ·rfl
 unfold Af;rw[show da 0 (Int.ofNat (t+1))=true from by rw[show(0:Int)= .ofNat 0 from Z,iw];simp];show(⟨(ps[t]?).getD 0,k⟩:cm)=_;rw[b t u];rfl
theorem Ez {n:Nat} {id:cm} (b:tQ n id):ND n id:=fun hl=>by
 rcases b.case with ⟨k,rfl⟩ | ⟨t,k,d,rfl⟩
 ·cases hl
 exact⟨t,Z,d⟩
theorem F9 {g:XG} {p q:Nat->Nat} {ps:List Int} (u:dy g) (h:Pm g.threads.length p q) (b:∀i,i<g.threads.length->ps[i]? =some (.ofNat (p i+1))):
  fO p q g=⟨g.init,Dk q g.threads g.threads.length g.threads.length,Dk q (g.from_.map (·.map<|Af ps)) g.threads.length g.threads.length,g.order.map (·.map<|Af ps)⟩:=by
 rw[EI h,EI h]
 have e1:g.order.map (·.map<|Af ps)=g.order.map (·.map<|iO p):=List.map_congr_left fun r A=>by
  obtain⟨ln,d⟩:=gO_ A;exact List.map_congr_left fun x hx=>Ie h b (jb u d hx)
 have e2:((List.range g.threads.length).map fun j=>((g.from_.map (·.map<|Af ps))[q j]?).getD [])=(List.range g.threads.length).map fun j=>((g.from_[q j]?).getD []).map (iO p):=List.map_congr_left fun j hj=>by
  rw[gM_];cases hf:g.from_[q j]? with
  | none=>rfl
  | some f=>exact List.map_congr_left fun x hx=>Ie h b (ug u hf hx)
 rw[e1,e2];rfl
def KP.Hf (K' K:KP):KP:=fun b o=>K' b o/\∀o',¬K b o'
theorem KP.fK {d m K:KP} (h:KP.le d m):KP.le (d.Hf K) (m.Hf K):=fun b o hb=>⟨h b o hb.1,hb.2⟩
theorem H.l7 {V:B} {Kc K0:KP} {M L:Own} (h:H V Kc (M++L)) (hk:KP.le K0 Kc):∃b,KP.le Kc b/\(∀e∈M,(b.Hf K0) e.1 e.2)/\H V b L:=
 ⟨Kc.qR M,KP.dQ _ _,fun e he=>⟨.inr he,fun o' d=>(h.kept _ _<|hk _ _ d).2.2 e (List.mem_append_left _ he) Z⟩,h.keeps⟩
theorem Ks {α:Type} (M O_ L:List α) (e a b:α):(e::(M++(a::(O_++(b::L))))).Perm (e::(O_++(M++(a::b::L)))):=by
 classical
 rw[List.perm_iff_count];intro y;simp only[List.count_append,List.count_cons];omega
theorem IE {α:Type} (M O_ L:List α) (a b:α):(O_++(M++(a::b::L))).Perm (M++(a::(O_++(b::L)))):=by
 classical
 rw[List.perm_iff_count];intro y;simp only[List.count_append,List.count_cons];omega
theorem IF {α:Type} (M N_ L:List α) (a b c d:α):(M++(N_++(a::b::c::d::L))).Perm ((M++N_)++(a::b::c::d::L)):=by rw[lQ_]
theorem Dx {α:Type} (a b c d:α) (L:List α):(a::b::c::d::L).Perm (b::c::a::d::L):=(List.Perm.swap b a _).trans (.cons b<|List.Perm.swap c a _)
theorem ID {α:Type} (O_ L:List α) (a b:α):(a::(O_++(b::L))).Perm (O_++(b::a::L)):=by
 classical
 rw[List.perm_iff_count];intro y;simp only[List.count_append,List.count_cons];omega
theorem Nl {G:Cx} (hG:Plain G) {K:KP} {g:XG} {a b c d:Y} (hg:dC K g a b c d) (hR:dy g) {ps:List Int} {pv:Y} (hp:bI K 1 dG ps pv) {p q:Nat->Nat} (h:Pm g.threads.length p q) (hlen:ps.length=g.threads.length) (a2:∀i,i<g.threads.length->ps[i]? =some (.ofNat (p i+1))) {V:B} {L:Own} (aq:H V K L):
  aT Tryz.prog G 38 [.agg [a,b,c,d],pv] V fun v V'=>∃K' a' b' c' d',v= .agg [a',b',c',d']/\KP.le K K'/\dC (K'.Hf K) (fO p q g) a' b' c' d'/\H V' K' L:=by
 have hck:=eK.2 hR;obtain⟨bv,c0,bw,bX,c1,c2,c3⟩:=ig hck;obtain⟨N_,hN⟩:∃N_,N_=g.threads.length:=⟨_,Z⟩;have Q:ps.length=N_:=by rw[hlen,hN]
 have c4:g.from_.length=N_:=by rw[bX,hN]
 rw[<-hN] at h a2 bv;refine aW hG Tryz.func38 Z (t:=(D.leaf.put (some (.agg [a,b,c,d])) 0).put (some (pv)) 1) (by rfl) ?_;refine ai ?_;refine ah Z ?_;refine bH aq Z (cL Z Z) (fun _=>Z) (fun V b1 aq=>?_);refine bH aq Z (cL Z hp.leaf.1) (fun _=>Z) (fun V b2 aq=>?_);obtain⟨K1,F,u,aq⟩:=aq.eA (M:=[_,_]);have a4:K1 b1 (.row [a,b,c,d] 27 false):=u _ (.tail _ (.head _));have T:cX K1 (.ptr b2 0) [pv]:=.one (u _ (.head _));clear u;have hg1:=hg.mono F;have hp1:=hp.mono F fun _ _ h=>h
 refine bH aq Z (ea (cs:=[.aB,.aB,.aB,.aB]) J J) (fun _=>Z) (fun V b3 aq=>?_);refine af ?_;refine ad ?_;refine ai ?_;refine ah Z ?_;refine S Z (bK Z Z) Z ?_;refine S Z (aj Z) Z ?_;refine af ?_;refine ad ?_;refine ai ?_;refine aX (l:=[(0,[]),(1,[]),(3,[]),(4,[]),(5,[]),(6,[]),(7,[]),(8,[]),(10,[]),(2,[3,5,6,8,10]),(9,[]),(11,[])]) J J ?_;refine al Z Z (ax Z (k:=0) J) Z ?_;refine al Z Z (aw Z (aq.fX a4) J Z) Z ?_;refine al Z Z (aM aq T Z J Z) Z ?_;refine al Z Z (aO hp1 Z Z Z (e:=3) J Z) Z ?_;refine tT aq Z Z (ux (n:=N_) (e:=64) (w:=24) (z:=[.aB]) J J J J (show _=some (Y.int .i64 (.ofNat N_)) from by rw[<-Q];rfl) (show _=some (Y.int .i64 (.ofNat N_)) from by rw[<-Q];rfl) oM oM) (fun _=>Z) (fun V b4 aq=>?_);rw[jf] at aq;refine al Z Z (aM aq T Z J Z) Z ?_;refine al Z Z (aO hp1 Z Z Z (e:=3) J Z) Z ?_;refine tT aq Z Z (ux (n:=N_) (e:=57) (w:=24) (z:=[.aB]) J J J J (show _=some (Y.int .i64 (.ofNat N_)) from by rw[<-Q];rfl) (show _=some (Y.int .i64 (.ofNat N_)) from by rw[<-Q];rfl) oM oM) (fun _=>Z) (fun V b5 aq=>?_);rw[jf] at aq;refine LP aq Z Z (ea (cs:=[.aB,.aB,.aB,.aB]) J J) (fun _=>Z) (fun V b6 aq=>?_);refine fl Z Z (aR Z Z Z J) (fun _=>Z) (GJ hG hg1.init oM aq) ?_;rintro a5 V ⟨b0,hM13,aq⟩;refine⟨(aV (a7 Z Z Z Z Z (aM aq T Z J Z) hp1.dH)<|aV (wC Z Z Z Z Z ((s8 (n:=N_) (e:=64) (w:=24) (z:=[.aB]) J J J J (show _=some (Y.int .i64 (.ofNat N_)) from by rw[<-Q];rfl) (show _=some (Y.int .i64 (.ofNat N_)) from by rw[<-Q];rfl) oM oM).trans (by rw[jf])) (aq.gw.pop.pop.get 0 Z)<|Ar _)<|aV (a7 Z Z Z Z Z (aM aq T Z J Z) hp1.dH)<|aV (wC Z Z Z Z Z ((s8 (n:=N_) (e:=57) (w:=24) (z:=[.aB]) J J J J (show _=some (Y.int .i64 (.ofNat N_)) from by rw[<-Q];rfl) (show _=some (Y.int .i64 (.ofNat N_)) from by rw[<-Q];rfl) oM oM).trans (by rw[jf])) (aq.gw.pop.get 0 Z)<|Ar _)<|aV (yf Z Z Z Z Z (cs:=[.aB,.aB,.aB,.aB]) (e:=27) J (aq.gw.get 0 Z) J) bq),?_⟩;refine al Z Z (dW (places:=[(0,1),(1,1),(2,1),(3,1)]) (zero:=[.aB,.aB,.aB,.aB]) (cs:=[_,_,_,_]) J J J (bB Z Z hM13.leaf.1 Z<|bB Z Z Z Z<|bB Z Z Z Z cj) J) Z ?_
 refine qI aq (.pJ .here) Z Z (bz Z Z Z (aq.gw.get 0 Z) (m:=4) J Z (Nat.le_of_ble_eq_true Z) (ar hM13.leaf.2<|ar Z<|ar Z<|ar Z aS) (cells':=[_,_,_,_]) Z) Z (fun V aq=>?_);refine⟨bq,?_⟩;obtain⟨K2,C,u,aq⟩:=aq.l7 (M:=b0) (K0:=K) F;have hi13:=hM13.lJ (K:=K2.Hf K) u;clear u;have hb2:=C _ _ a4;have hg2:=hg1.mono C;have hpp2:=T.mono C;have hp2:=hp1.mono C fun _ _ h=>h
 refine bj ?_;refine ad ?_;refine ai ?_;refine ai ?_;refine ah Z ?_;refine S Z (ax Z (k:=1) J) Z ?_;refine S Z (aw Z (aq.fX hb2) J Z) Z ?_;refine S Z (aO hg2.threads Z Z Z (e:=64) J Z) Z ?_;refine S Z (N Z) Z ?_;refine af ?_;refine ad ?_;refine aJ ?_;refine ba [7,24,25,26,27,28,29,30,31,32,33,34,35,36,37,38,39,40,41,42,43,44,45,46,47,48,49,50,51,52,53,54,55,56] (fun j t V=>∃(i:Nat) (K3:KP) (usT usF:List Y),(j+i=N_/\KP.le K2 K3/\Rows (K3.Hf K) 5 qQ (Dk q g.threads N_ i) usT/\Rows (K3.Hf K) 2 nh (Dk q (g.from_.map (·.map<|Af ps)) N_ i) usF)/\t.get 24=some (.int .i64 (.ofNat i))/\H V K3 ((b6,.row [a5,.slice b4 0 N_ (.known N_),.slice b5 0 N_ (.known N_),.aB] 27 false)::(b5,.row usF 57 false)::(b4,.row usT 64 false)::(b3,.row [.aB,.aB,.aB,.aB] 27 false)::L)) (N_) ⟨0,K2,List.replicate N_ .aB,List.replicate N_ .aB,⟨Z,KP.le_refl _,by rw[Bi];exact Rows.Oa,by rw[Bi];exact Rows.Oa⟩,Z,aq⟩ ?_
 clear aq;intro j4 t V an hI;obtain⟨i,K3,usT,usF,⟨c5,A,hT,hF⟩,aa,aq⟩:=hI;replace an:=an.bR Z Z;obtain⟨o7,b7,c7,c8,c9,dd,df,dk,an⟩:=an;replace an:=an.bR Z Z;obtain⟨dl,dm,dr,ds,dx,dA,d0,d1,an⟩:=an;replace an:=an.bR Z Z;obtain⟨d2,d3,d4,d5,d6,d7,d8,d9,an⟩:=an;replace an:=an.bR Z Z;obtain⟨ee,eg,el,em,en,eo,er,es,an⟩:=an;replace an:=an.eb Z;obtain⟨et,an⟩:=an;replace an:=an.eb Z;obtain⟨ev,an⟩:=an;obtain rfl:=an.nil;clear an;replace aa:b7=some _:=aa;subst aa;refine ai ?_;refine ah Z ?_;have hb3:=A _ _ hb2;have hg3:=hg2.mono A;have hpp3:=hpp2.mono A;have hp3:=hp2.mono A fun _ _ h=>h
 refine S Z (aA Z Z Z) Z ?_;refine af ?_;refine ad ?_;refine ai ?_;refine aC Z (fun a3=>?_) (fun a3=>?_)
 ·refine aG ?_;refine ad ?_;refine ai ?_;refine aJ ?_;refine ai ?_;refine ah Z ?_;have X:i<N_:=by have:=aU a3;omega
  obtain⟨row,U⟩:=cF (show i<g.threads.length by omega);obtain⟨fr,ao⟩:=cF (show i<g.from_.length by omega);have hpsi:=a2 i X;have hpi:=h.lt i X;have a9:usT.length=N_:=by rw[hT.1];unfold Dk;simp
  have bb:usF.length=N_:=by rw[hF.1];unfold Dk;simp
  refine S Z (N Z) Z ?_;refine S Z (aj Z) Z ?_;refine af ?_;refine ad ?_;refine aX (l:=[(0,[]),(1,[]),(2,[]),(3,[]),(4,[]),(5,[]),(6,[]),(7,[]),(8,[]),(9,[]),(10,[]),(11,[]),(12,[]),(13,[]),(14,[]),(15,[]),(16,[]),(17,[]),(18,[]),(20,[]),(21,[]),(22,[]),(23,[]),(24,[]),(25,[]),(19,[1,2,5,8,9,12,22,25]),(26,[1,2,5,8,9,12]),(27,[]),(28,[8]),(29,[]),(30,[])]) J J ?_;refine al Z Z (ax Z (k:=1) J) Z ?_;refine al Z Z (aw Z (aq.get 0 Z) J Z) Z ?_;refine al Z Z (aM aq hpp3 Z J Z) Z ?_;refine al Z Z (N Z) Z ?_;refine cP (e:=3) (m:=1) hp3 hpsi Z Z Z J J Z Z (fun _=>Z) (fun ex ce ab ch bd=>?_);obtain rfl:=bd;refine al Z Z (aM aq ab Z J Z) Z ?_;refine al Z Z (aA (v:=.int .i64 (.ofNat<|p i)) Z Z<|congrArg (fun z=>some (Y.int .i64 z))<|gy oM) Z ?_;refine al Z Z (ax Z (k:=2) J) Z ?_;refine al Z Z (aw Z (aq.get 0 Z) J Z) Z ?_;refine al Z Z (aM aq hpp3 Z J Z) Z ?_;refine al Z Z (N Z) Z ?_;refine cP (e:=3) (m:=1) hp3 hpsi Z Z Z J J Z Z (fun _=>Z) (fun e0 ci ac hl38 be=>?_);obtain rfl:=be;refine al Z Z (aM aq ac Z J Z) Z ?_;refine al Z Z (aA (v:=.int .i64 (.ofNat<|p i)) Z Z<|congrArg (fun z=>some (Y.int .i64 z))<|gy oM) Z ?_;refine al Z Z (ax Z (k:=1) J) Z ?_;refine al Z Z (aw Z (aq.fX hb3) J Z) Z ?_;refine al Z Z (N Z) Z ?_;refine cP (e:=64) (m:=1) hg3.threads U Z Z Z J J Z Z (fun _=>Z) (fun e3 ck bi cn bk=>?_);have hr44':=bk;obtain⟨e4,rfl,bl⟩:=hr44';refine al Z Z (aM aq bi Z J Z) Z ?_;refine al Z Z (N Z) Z ?_;refine al Z Z (ax Z (k:=2) J) Z ?_;refine al Z Z (aw Z (aq.fX hb3) J Z) Z ?_;refine al Z Z (N Z) Z ?_;refine cP (e:=57) (m:=1) hg3.from_ ao Z Z Z J J Z Z (fun _=>Z) (fun e5 cp av cr bm=>?_);have hr51':=bm;obtain⟨e6,rfl,aE⟩:=hr51';refine al Z Z (aM aq av Z J Z) Z ?_;refine fl Z Z (aR Z Z Z J) (fun _=>Z) (Jk hG bl (by have:=bw _ (gB_ U);omega) aq) ?_;rintro e7 V ⟨b8,hM46,aq⟩
  refine⟨(aV (a7 Z Z Z Z Z (aw Z (aq.gw.get 0 Z) J Z)<|oA _ _ _ _)<|aV (a7 Z Z Z Z Z (aM aq hpp3 Z J Z) hp3.dH)<|aV (a7 Z Z Z Z Z (aM aq ab Z J Z)<|cZ _ _)<|aV (a7 Z Z Z Z Z (aw Z (aq.gw.get 0 Z) J Z)<|oA _ _ _ _)<|aV (a7 Z Z Z Z Z (aM aq hpp3 Z J Z) hp3.dH)<|aV (a7 Z Z Z Z Z (aM aq ac Z J Z)<|cZ _ _)<|aV (a7 Z Z Z Z Z (aw Z (aq.fX hb3) J Z) hg3.from_.dH)<|aV (a7 Z Z Z Z Z (aM aq av Z J Z) aE.dH) bq),?_⟩;refine fl Z Z (aR Z Z Z J) (fun _=>Z) (Fk hG hp3 hpp3 aE (fun x hx=>by rw[Q];exact Ez (by rw[hN];exact ug hR ao hx)) (by have:=hR.rows i row fr U ao;have:=hR.short i row U;omega) aq) ?_;rintro e8 V ⟨b9,hM53,aq⟩;refine⟨(aV (a7 Z Z Z Z Z (aw Z (aq.gw.gw.get 0 Z) J Z)<|oA _ _ _ _)<|aV (a7 Z Z Z Z Z (aM aq hpp3 Z J Z) hp3.dH)<|aV (a7 Z Z Z Z Z (aM aq ab Z J Z)<|cZ _ _)<|aV (a7 Z Z Z Z Z (aw Z (aq.gw.gw.get 0 Z) J Z)<|oA _ _ _ _)<|aV (a7 Z Z Z Z Z (aM aq hpp3 Z J Z) hp3.dH)<|aV (a7 Z Z Z Z Z (aM aq ac Z J Z)<|cZ _ _) bq),?_⟩;refine al Z Z (lz (e:=64) (m:=1) Z J Z Z (show p i<N_ from hpi)) Z ?_;refine qI aq (.pJ (.pJ (.there (.there .here)))) Z Z (ou Z Z hM46.leaf.1 (aq.gw.gw.pop.pop.get 0 Z) (m:=1) J Z oM<|ar hM46.leaf.2 Z) Z (fun V aq=>?_);refine⟨(aV (a7 Z Z Z Z Z (aw Z (aq.gw.gw.get 0 Z) J Z)<|oA _ _ _ _) bq),?_⟩;rw[mQ oM] at aq;refine al Z Z (lz (e:=57) (m:=1) Z J Z Z (show p i<N_ from hpi)) Z ?_;refine qI aq (.pJ (.pJ (.there .here))) Z Z (ou Z Z hM53.leaf.1 (aq.gw.gw.pop.get 0 Z) (m:=1) J Z oM<|ar hM53.leaf.2 Z) Z (fun V aq=>?_);refine⟨bq,?_⟩;rw[mQ oM] at aq;refine bj ?_;refine aH ?_;refine ad ?_;refine ah Z ?_;replace aq:=aq.perm (IF ..);obtain⟨K4,ak,u,aq⟩:=aq.l7 (M:=b9++b8) (K0:=K) (KP.le_trans F<|KP.le_trans C A);have hs46:=hM46.lJ (K:=K4.Hf K) fun e he=>u e (List.mem_append_right _ he);have hs53:=hM53.lJ (K:=K4.Hf K) fun e he=>u e (List.mem_append_left _ he);clear u
  refine S Z (aA (v:=.int .i64 (.ofNat (i+1))) Z Z<|congrArg (fun z=>some (Y.int .i64 z))<|aZ oM) Z ?_;refine S Z (N Z) Z ?_;refine af ?_;refine aL ⟨j4-1,oM,(by(iterate 68 refine a8.put Z ?_);exact a8.refl _ _),i+1,K4,_,_,⟨by omega,KP.le_trans A ak,by rw[Bh h X U];exact(hT.mono<|KP.fK ak).set hs46,by rw[Bh h X (show(g.from_.map (·.map<|Af ps))[i]? =some (fr.map<|Af ps) from by rw[gM_,ao];rfl)];exact(hF.mono<|KP.fK ak).set hs53⟩,Z,aq⟩
 refine bc ?_;refine aP ?_;refine aQ ?_;refine aN ?_;refine ad ?_;refine ai ?_;refine ai ?_;refine ah Z ?_;have X:i=N_:=by have:=bx a3;omega
 have a9:usT.length=N_:=by rw[hT.1];unfold Dk;simp
 have bb:usF.length=N_:=by rw[hF.1];unfold Dk;simp
 replace aq:=aq.perm (Dx ..);obtain⟨K5,E,u,aq⟩:=aq.l7 (M:=[_,_]) (K0:=K) (KP.le_trans F<|KP.le_trans C A);have hTs:=(hT.mono<|KP.fK E).lJ (u _ (.tail _ (.head _))) a9 (.inl Z) oM;have hFs:=(hF.mono<|KP.fK E).lJ (u _ (.head _)) bb (.inl Z) oM;clear u;have hb5:=E _ _ hb3;have hg5:=hg3.mono E;have hpp5:=hpp3.mono E;have hp5:=hp3.mono E fun _ _ h=>h
 refine S Z (ax Z (k:=3) J) Z ?_;refine S Z (aw Z (aq.fX hb5) J Z) Z ?_;refine S Z (aO hg5.order Z Z Z (e:=57) J Z) Z ?_;refine S Z (N Z) Z ?_;refine af ?_;refine ad ?_;refine aJ ?_;refine ba [9,60,61,62,63,64,65,66,67,68,69,70,71,72] (fun j t V=>∃(i:Nat) (K6:KP) (us:List Y) (uO:Y) (O_:Own),(j+i=g.order.length/\KP.le K5 K6/\dP 1 57 RV us uO O_/\Rows (K6.Hf K) 2 nh ((g.order.take i).map (·.map<|Af ps)) us)/\t.get 60=some (.int .i64 (.ofNat i))/\H V K6 ((b6,.row [a5,.slice b4 0 N_ (.known N_),.slice b5 0 N_ (.known N_),uO] 27 false)::(O_++((b3,.row [.aB,.aB,.aB,.aB] 27 false)::L)))) (g.order.length) ⟨0,K5,[],.aB,[],⟨Z,KP.le_refl _,.inl ⟨Z,Z,Z⟩,⟨Z,fun i r hr=>by simp at hr⟩⟩,Z,aq⟩ ?_
 clear aq;intro j9 t V an hI;obtain⟨i2,K6,us,uO,O_,⟨e9,I,hO,ap⟩,am,aq⟩:=hI;replace an:=an.bR Z Z;obtain⟨o9,ca,fd,fi,fk,fq,fs,fv,an⟩:=an;replace an:=an.r4 Z;obtain⟨f0,f1,f2,f3,an⟩:=an;replace an:=an.eb Z;obtain⟨f4,an⟩:=an;replace an:=an.eb Z;obtain⟨f5,an⟩:=an;obtain rfl:=an.nil;clear an;replace am:ca=some _:=am;subst am;refine ai ?_;refine ah Z ?_;have hb6:=I _ _ hb5;have hg6:=hg5.mono I;have hpp6:=hpp5.mono I;have hp6:=hp5.mono I fun _ _ h=>h
 refine S Z (aA Z Z Z) Z ?_;refine af ?_;refine ad ?_;refine ai ?_;refine aC Z (fun au=>?_) (fun au=>?_)
 ·refine aG ?_;refine ad ?_;refine ai ?_;refine aJ ?_;refine ai ?_;refine ah Z ?_;obtain⟨f6,W,cv⟩:=cO au;refine bO (e:=57) (m:=1) hg6.order W Z Z J J Z Z (fun _=>Z) (fun f7 cw bo cx bs=>?_);have hr62':=bs;obtain⟨f8,rfl,bt⟩:=hr62';refine S Z (aM aq bo Z J Z) Z ?_;refine S Z (aj Z) Z ?_;refine af ?_;refine ad ?_;refine aX (l:=[(0,[]),(1,[]),(2,[]),(3,[]),(4,[1]),(5,[]),(6,[]),(7,[]),(8,[])]) J J ?_;refine al Z Z (ax Z (k:=3) J) Z ?_;refine al Z Z (aw Z (aq.get 0 Z) J Z) Z ?_;refine al Z Z (N Z) Z ?_;refine al Z Z (N Z) Z ?_;refine fl Z Z (aR Z Z Z J) (fun _=>Z) (Fk hG hp6 hpp6 bt (fun x hx=>by rw[Q];exact Ez (by rw[hN];exact jb hR W hx)) (by have:=Bq hck _ (gB_ W);omega) aq) ?_;rintro f9 V ⟨cb,hM68,aq⟩;refine⟨(aV (a7 Z Z Z Z Z (aw Z (aq.gw.get 0 Z) J Z) (hO.w8 (K:=fun _ _=>False)).dH) bq),?_⟩;refine tT aq Z Z (cM (e:=57) (m:=1) (z:=[.aB]) (cs:=[_]) J J J J<|bB Z Z hM68.leaf.1 Z cj) (fun _=>Z) (fun V gc aq=>?_);replace aq:=aq.perm (Ks ..);refine sL (R:=RV) (m:=1) (e:=57) hO aq (fL (m:=1) Z ⟨Z,hM68.leaf⟩) RV.leaf (by rw[ap.1,lM_,lT_];simp;omega) Z Z Z Z Z Z Z Z (fun _=>Z) (fun V ge gl hO70 aq=>?_);refine⟨bq,?_⟩;refine al Z Z (ax Z (k:=3) J) Z ?_;refine qI aq (.pJ (.pJ .here)) Z Z (bz Z Z hO70.leaf.1 (aq.gw.gw.get 0 Z) (m:=1) J Z (Nat.le_of_ble_eq_true Z) (ar hO70.leaf.2 aS) (cells':=[_,_,_,_]) Z) Z (fun V aq=>?_);refine⟨bq,?_⟩;refine bj ?_;refine aH ?_;refine ad ?_;refine ah Z ?_;replace aq:=aq.perm (IE ..);obtain⟨K7,a0,u,aq⟩:=aq.l7 (M:=cb) (K0:=K) (KP.le_trans F<|KP.le_trans C<|KP.le_trans A<|KP.le_trans E I);have hs68:=hM68.lJ (K:=K7.Hf K) u;clear u;refine S Z (aA (v:=.int .i64 (.ofNat (i2+1))) Z Z<|congrArg (fun z=>some (Y.int .i64 z))<|aZ (by have:=hg6.order.bM;omega)) Z ?_;refine S Z (N Z) Z ?_;refine af ?_;refine aL ⟨j9-1,(by have:=aU au;omega),(by(iterate 28 refine a8.put Z ?_);exact a8.refl _ _),i2+1,K7,_,_,_,⟨by omega,KP.le_trans I a0,hO70,by rw[sU W,List.map_append];exact(ap.mono<|KP.fK a0).snoc hs68⟩,Z,aq⟩
 refine bc ?_;refine aP ?_;refine aQ ?_;refine aN ?_;refine ad ?_;refine ai ?_;refine ah Z ?_;refine S Z (bA Z (aq.get 0 Z) (n:=4) (vs:=[_,_,_,_]) J (Nat.le_of_ble_eq_true Z) Z) Z ?_;refine ja aq (.there (.pJ .here)) Z (bz Z Z Z (aq.pop.gw.get 0 Z) (m:=4) J Z (Nat.le_of_ble_eq_true Z) (ar hi13.leaf.2<|ar Z<|ar Z<|ar hO.leaf.2 aS) (cells':=[_,_,_,_]) Z) Z (fun V aq=>?_);refine af ?_;refine ad ?_;refine aD ?_;have cc:g.order.length<=i2:=by have:=bx au;omega
 rw[tL_ cc] at ap;replace aq:=aq.perm (ID ..);obtain⟨K8,a1,u,aq⟩:=aq.l7 (M:=O_) (K0:=K) (KP.le_trans F<|KP.le_trans C<|KP.le_trans A<|KP.le_trans E I);have hOs:=MN (ap.mono<|KP.fK a1) hO u;clear u;have hl38:=KP.le_trans I a1;have hl58:=KP.le_trans E hl38;have hl28:=KP.le_trans A hl58;subst X;exact⟨.inr Z,_,xh Z Z (aq.get 0 Z) (m:=4) J Z,K8,_,_,_,_,Z,KP.le_trans F<|KP.le_trans C hl28,by subst hN;rw[F9 hR h a2];exact⟨hi13.mono (KP.fK hl28) fun _ _ h=>h,hTs.mono (KP.fK hl38) fun _ _ h=>h.mono (KP.fK hl38),hFs.mono (KP.fK hl38) fun _ _ h=>h.mono (KP.fK hl38),hOs⟩,aq.pop.pop⟩
section
variable {H_:Type} {V:B}
theorem Ey (C:∀(b:Nat) (o:bU),V.m.get b=some o->b<V.next):∀(fuel:Nat) (d:DataW H_) (vs:List Y),Fit Tryz.prog fuel 100 d->cT Tryz.prog V fuel 100 d vs->gX (rY V) fuel (GD fuel d) vs
 | 0,_,_,hf,_=>hf.elim
 | 1,d,vs,hf,hd=>by
  obtain⟨_,h⟩:=fZ (m:=4) Tryz.underlying100 J J hf hd;exact(h 0 _ Z).1.elim
 | fuel+2,d,vs,hf,hd=>by
  obtain⟨hl,h⟩:=fZ (m:=4) Tryz.underlying100 J J hf hd
  obtain⟨a,b,c,e,rfl⟩:∃a b c e,vs= [a,b,c,e]:=by
   match vs,hl with
   | [a,b,c,e],_=>exact⟨a,b,c,e,Z⟩
  obtain⟨E,F⟩:Fit Tryz.prog _ 3 (bT d 0)/\cT Tryz.prog V _ 3 (bT d 0) (([a,b,c,e].drop 0).take<|Tryz.prog.cellsOf 3):=h 0 _ Z;obtain⟨G,I⟩:Fit Tryz.prog _ 2 (bT d 1)/\cT Tryz.prog V _ 2 (bT d 1) (([a,b,c,e].drop 1).take<|Tryz.prog.cellsOf 2):=h 1 _ Z;obtain⟨K,L⟩:Fit Tryz.prog _ 9 (bT d 2)/\cT Tryz.prog V _ 9 (bT d 2) (([a,b,c,e].drop 2).take<|Tryz.prog.cellsOf 9):=h 2 _ Z;obtain⟨M,Q⟩:Fit Tryz.prog _ 95 (bT d 3)/\cT Tryz.prog V _ 95 (bT d 3) (([a,b,c,e].drop 3).take<|Tryz.prog.cellsOf 95):=h 3 _ Z;have R:Tryz.prog.cellsOf 3=1:=by kernel_rfl
  have T:Tryz.prog.cellsOf 2=1:=by kernel_rfl
  have U:Tryz.prog.cellsOf 9=1:=by kernel_rfl
  have u:Tryz.prog.cellsOf 95=1:=by kernel_rfl
  have e0:=(fM Tryz.underlying3 E F).1;have e1:=(fM Tryz.underlying2 G I).1;have e2:=M8 Tryz.underlying9 K L;obtain⟨v,A,W⟩:=eR (m:=4) (GD fuel) (gX (rY V) fuel) Tryz.underlying95 J (by decide) C M Q fun x vs hf hd=>Ey C fuel x vs hf hd
  rw[R] at e0;rw[T] at e1;rw[U] at e2;rw[u] at A;simp only[List.drop_zero,List.take_succ_cons,List.take_zero,List.drop_succ_cons,List.cons.injEq,and_true] at e0 e1 e2 A;subst e0;subst e1;subst e2;subst A;show∃w,_= [_,_,_,w]/\bI (rY V) 4 (gX (rY V) (fuel+1)) ((ei<|bT d 3).map<|GD fuel) w;exact⟨_,Z,W.mV fun x vs h=>gX.up h⟩
theorem Ka (C:∀(b:Nat) (o:bU),V.m.get b=some o->b<V.next) (fuel:Nat) (d:DataW H_) (vs:List Y) (hf:Fit Tryz.prog (fuel+2) 97 d) (hd:cT Tryz.prog V (fuel+2) 97 d vs):qP (rY V) fuel (Nd fuel d) vs:=by
 obtain⟨hl,h⟩:=fZ (m:=6) Tryz.underlying97 J J hf hd
 obtain⟨a,b,c,e,g,i,rfl⟩:∃a b c e g i,vs= [a,b,c,e,g,i]:=by
  match vs,hl with
  | [a,b,c,e,g,i],_=>exact⟨a,b,c,e,g,i,Z⟩
 obtain⟨E,F⟩:Fit Tryz.prog _ 3 (bT d 0)/\cT Tryz.prog V _ 3 (bT d 0) (([a,b,c,e,g,i].drop 0).take<|Tryz.prog.cellsOf 3):=h 0 _ Z;obtain⟨G,I⟩:Fit Tryz.prog _ 3 (bT d 1)/\cT Tryz.prog V _ 3 (bT d 1) (([a,b,c,e,g,i].drop 1).take<|Tryz.prog.cellsOf 3):=h 1 _ Z;obtain⟨K,L⟩:Fit Tryz.prog _ 3 (bT d 2)/\cT Tryz.prog V _ 3 (bT d 2) (([a,b,c,e,g,i].drop 2).take<|Tryz.prog.cellsOf 3):=h 2 _ Z;obtain⟨M,Q⟩:Fit Tryz.prog _ 3 (bT d 3)/\cT Tryz.prog V _ 3 (bT d 3) (([a,b,c,e,g,i].drop 3).take<|Tryz.prog.cellsOf 3):=h 3 _ Z;obtain⟨R,T⟩:Fit Tryz.prog _ 3 (bT d 4)/\cT Tryz.prog V _ 3 (bT d 4) (([a,b,c,e,g,i].drop 4).take<|Tryz.prog.cellsOf 3):=h 4 _ Z;obtain⟨U,W⟩:Fit Tryz.prog _ 95 (bT d 5)/\cT Tryz.prog V _ 95 (bT d 5) (([a,b,c,e,g,i].drop 5).take<|Tryz.prog.cellsOf 95):=h 5 _ Z;have X:Tryz.prog.cellsOf 3=1:=by kernel_rfl
 have u:Tryz.prog.cellsOf 95=1:=by kernel_rfl
 have e0:=(fM Tryz.underlying3 E F).1;have e1:=(fM Tryz.underlying3 G I).1;have e2:=(fM Tryz.underlying3 K L).1;have e3:=(fM Tryz.underlying3 M Q).1;have e4:=(fM Tryz.underlying3 R T).1;obtain⟨v,A,hs⟩:=eR (m:=4) (GD fuel) (gX (rY V) fuel) Tryz.underlying95 J (by decide) C U W fun x vs hf hd=>Ey C fuel x vs hf hd
 rw[X] at e0 e1 e2 e3 e4;rw[u] at A;simp only[List.drop_zero,List.take_succ_cons,List.take_zero,List.drop_succ_cons,List.cons.injEq,and_true] at e0 e1 e2 e3 e4 A;subst e0;subst e1;subst e2;subst e3;subst e4;subst A;exact⟨_,Z,hs⟩
theorem J9 (A:∀(b:Nat) (o:bU),V.m.get b=some o->b<V.next) (fuel:Nat) (d:DataW H_) (vs:List Y) (hf:Fit Tryz.prog (fuel+4) 63 d) (hd:cT Tryz.prog V (fuel+4) 63 d vs):jF (rY V) fuel (Nc fuel d) vs:=by
 obtain⟨hl,h⟩:=fZ (m:=2) Tryz.underlying63 J J hf hd
 obtain⟨a,b,rfl⟩:∃a b,vs= [a,b]:=by
  match vs,hl with
  | [a,b],_=>exact⟨a,b,Z⟩
 obtain⟨C,E⟩:Fit Tryz.prog _ 3 (bT d 0)/\cT Tryz.prog V _ 3 (bT d 0) (([a,b].drop 0).take<|Tryz.prog.cellsOf 3):=h 0 _ Z;obtain⟨F,G⟩:Fit Tryz.prog _ 61 (bT d 1)/\cT Tryz.prog V _ 61 (bT d 1) (([a,b].drop 1).take<|Tryz.prog.cellsOf 61):=h 1 _ Z;have I:Tryz.prog.cellsOf 3=1:=by kernel_rfl
 have u:Tryz.prog.cellsOf 61=1:=by kernel_rfl
 have e0:=(fM Tryz.underlying3 C E).1;obtain⟨v,e1,K⟩:=eR (m:=6) (Nd fuel) (qP (rY V) fuel) Tryz.underlying61 J (by decide) A F G fun x vs hf hd=>Ka A fuel x vs hf hd
 rw[I] at e0;rw[u] at e1;simp only[List.drop_zero,List.take_succ_cons,List.take_zero,List.drop_succ_cons,List.cons.injEq,and_true] at e0 e1;subst e0;subst e1;exact⟨_,Z,K⟩
theorem HO (u:∀(b:Nat) (o:bU),V.m.get b=some o->b<V.next) (fuel:Nat) (d:DataW H_) (vs:List Y) (hf:Fit Tryz.prog (fuel+5) 22 d) (hd:cT Tryz.prog V (fuel+5) 22 d vs):∃v,vs= [v]/\bI (rY V) 2 (jF (rY V) fuel) ((ei d).map<|Nc fuel) v:=
 eR (m:=2) (Nc fuel) (jF (rY V) fuel) Tryz.underlying22 J (by decide) u hf hd fun x vs hf hd=>J9 u fuel x vs hf hd
def wK (d:DataW H_):cm:=⟨lK<|bT d 0,lK<|bT d 1⟩
def qe (d:DataW H_):cq:=⟨lK<|bT d 0,lK<|bT d 1,lK<|bT d 2,lK<|bT d 3,lK<|bT d 4⟩
def GF (d:DataW H_):XG:=⟨(ei<|bT d 0).map lK,(ei<|bT d 1).map fun r=>(ei r).map qe,(ei<|bT d 2).map fun r=>(ei r).map wK,(ei<|bT d 3).map fun r=>(ei r).map wK⟩
theorem MK {fuel:Nat} {d:DataW H_} {vs:List Y} (hf:Fit Tryz.prog (fuel+2) 59 d) (hd:cT Tryz.prog V (fuel+2) 59 d vs):nh (wK d) vs:=by
 obtain⟨hl,h⟩:=fZ (m:=2) Tryz.underlying59 J J hf hd
 obtain⟨a,b,rfl⟩:∃a b,vs= [a,b]:=by
  match vs,hl with
  | [a,b],_=>exact⟨a,b,Z⟩
 obtain⟨u,A⟩:Fit Tryz.prog _ 3 (bT d 0)/\cT Tryz.prog V _ 3 (bT d 0) (([a,b].drop 0).take<|Tryz.prog.cellsOf 3):=h 0 _ Z;obtain⟨C,E⟩:Fit Tryz.prog _ 3 (bT d 1)/\cT Tryz.prog V _ 3 (bT d 1) (([a,b].drop 1).take<|Tryz.prog.cellsOf 3):=h 1 _ Z;have F:Tryz.prog.cellsOf 3=1:=by kernel_rfl
 have e0:=(fM Tryz.underlying3 u A).1;have e1:=(fM Tryz.underlying3 C E).1;rw[F] at e0 e1;simp only[List.drop_zero,List.take_succ_cons,List.take_zero,List.drop_succ_cons,List.cons.injEq,and_true] at e0 e1;subst e0;subst e1;rfl
theorem MJ {fuel:Nat} {d:DataW H_} {vs:List Y} (hf:Fit Tryz.prog (fuel+2) 92 d) (hd:cT Tryz.prog V (fuel+2) 92 d vs):qQ (qe d) vs:=by
 obtain⟨hl,h⟩:=fZ (m:=5) Tryz.underlying92 J J hf hd
 obtain⟨a,b,c,e,g,rfl⟩:∃a b c e g,vs= [a,b,c,e,g]:=by
  match vs,hl with
  | [a,b,c,e,g],_=>exact⟨a,b,c,e,g,Z⟩
 obtain⟨u,A⟩:Fit Tryz.prog _ 3 (bT d 0)/\cT Tryz.prog V _ 3 (bT d 0) (([a,b,c,e,g].drop 0).take<|Tryz.prog.cellsOf 3):=h 0 _ Z;obtain⟨C,E⟩:Fit Tryz.prog _ 3 (bT d 1)/\cT Tryz.prog V _ 3 (bT d 1) (([a,b,c,e,g].drop 1).take<|Tryz.prog.cellsOf 3):=h 1 _ Z;obtain⟨F,G⟩:Fit Tryz.prog _ 3 (bT d 2)/\cT Tryz.prog V _ 3 (bT d 2) (([a,b,c,e,g].drop 2).take<|Tryz.prog.cellsOf 3):=h 2 _ Z;obtain⟨I,K⟩:Fit Tryz.prog _ 2 (bT d 3)/\cT Tryz.prog V _ 2 (bT d 3) (([a,b,c,e,g].drop 3).take<|Tryz.prog.cellsOf 2):=h 3 _ Z;obtain⟨L,M⟩:Fit Tryz.prog _ 2 (bT d 4)/\cT Tryz.prog V _ 2 (bT d 4) (([a,b,c,e,g].drop 4).take<|Tryz.prog.cellsOf 2):=h 4 _ Z;have Q:Tryz.prog.cellsOf 3=1:=by kernel_rfl
 have R:Tryz.prog.cellsOf 2=1:=by kernel_rfl
 have e0:=(fM Tryz.underlying3 u A).1;have e1:=(fM Tryz.underlying3 C E).1;have e2:=(fM Tryz.underlying3 F G).1;have e3:=(fM Tryz.underlying2 I K).1;have e4:=(fM Tryz.underlying2 L M).1;rw[Q] at e0 e1 e2;rw[R] at e3 e4;simp only[List.drop_zero,List.take_succ_cons,List.take_zero,List.drop_succ_cons,List.cons.injEq,and_true] at e0 e1 e2 e3 e4;subst e0;subst e1;subst e2;subst e3;subst e4;rfl
theorem FT (u:∀(b:Nat) (o:bU),V.m.get b=some o->b<V.next) {fuel:Nat} {d:DataW H_} {vs:List Y} (hf:Fit Tryz.prog (fuel+5) 27 d) (hd:cT Tryz.prog V (fuel+5) 27 d vs):∃a b c e,vs= [a,b,c,e]/\dC (rY V) (GF d) a b c e:=by
 obtain⟨hl,h⟩:=fZ (m:=4) Tryz.underlying27 J J hf hd
 obtain⟨a,b,c,e,rfl⟩:∃a b c e,vs= [a,b,c,e]:=by
  match vs,hl with
  | [a,b,c,e],_=>exact⟨a,b,c,e,Z⟩
 obtain⟨I,K⟩:Fit Tryz.prog _ 23 (bT d 0)/\cT Tryz.prog V _ 23 (bT d 0) (([a,b,c,e].drop 0).take<|Tryz.prog.cellsOf 23):=h 0 _ Z;obtain⟨L,M⟩:Fit Tryz.prog _ 24 (bT d 1)/\cT Tryz.prog V _ 24 (bT d 1) (([a,b,c,e].drop 1).take<|Tryz.prog.cellsOf 24):=h 1 _ Z;obtain⟨Q,R⟩:Fit Tryz.prog _ 25 (bT d 2)/\cT Tryz.prog V _ 25 (bT d 2) (([a,b,c,e].drop 2).take<|Tryz.prog.cellsOf 25):=h 2 _ Z;obtain⟨T,U⟩:Fit Tryz.prog _ 25 (bT d 3)/\cT Tryz.prog V _ 25 (bT d 3) (([a,b,c,e].drop 3).take<|Tryz.prog.cellsOf 25):=h 3 _ Z;have A:Tryz.prog.cellsOf 23=1:=by kernel_rfl
 have C:Tryz.prog.cellsOf 24=1:=by kernel_rfl
 have E:Tryz.prog.cellsOf 25=1:=by kernel_rfl
 have W:Tryz.prog.cellsOf 2=1:=by kernel_rfl
 obtain⟨v0,F,h0⟩:=eR (m:=1) lK dG Tryz.underlying23 W (by decide) u I K fun x vs hf hd=>(fM Tryz.underlying2 hf hd).1
 have rowE:∀(x:DataW H_) (vs:List Y),Fit Tryz.prog (fuel+3) 64 x->cT Tryz.prog V (fuel+3) 64 x vs->RL (rY V) 5 qQ ((ei x).map qe) vs:=fun x vs hf hd=>
  eR (m:=5) qe qQ Tryz.underlying64 J (by decide) u hf hd fun x vs hf hd=>MJ hf hd
 have rowI:∀(x:DataW H_) (vs:List Y),Fit Tryz.prog (fuel+3) 57 x->cT Tryz.prog V (fuel+3) 57 x vs->RL (rY V) 2 nh ((ei x).map wK) vs:=fun x vs hf hd=>
  eR (m:=2) wK nh Tryz.underlying57 J (by decide) u hf hd fun x vs hf hd=>MK hf hd
 obtain⟨v1,e1,h1⟩:=eR (m:=1) (fun r=>(ei r).map qe) (RL (rY V) 5 qQ) Tryz.underlying24 J (by decide) u L M rowE;obtain⟨v2,e2,X⟩:=eR (m:=1) (fun r=>(ei r).map wK) (RL (rY V) 2 nh) Tryz.underlying25 J (by decide) u Q R rowI;obtain⟨v3,G,h3⟩:=eR (m:=1) (fun r=>(ei r).map wK) (RL (rY V) 2 nh) Tryz.underlying25 J (by decide) u T U rowI;rw[A] at F;rw[C] at e1;rw[E] at e2 G;simp only[List.drop_zero,List.take_succ_cons,List.take_zero,List.drop_succ_cons,List.cons.injEq,and_true] at F e1 e2 G;subst F;subst e1;subst e2;subst G;exact⟨_,_,_,_,Z,h0,h1,X,h3⟩
theorem Ah.up:∀{k:Nat} {x:XE},Ah k x->Ah (k+1) x
 | 0,_,h=>h.elim
 | _+1,.mk _ _ _ _,⟨h1,b⟩=>⟨h1,fun y hy=>Ah.up (b y hy)⟩
theorem oL {α:Type} {K:KP} {m:Nat} {R:α->List Y->Prop} {l:List α} {v:Y} (h:bI K m R l v):∀x∈l,∃vs,R x vs:=fun x hx=>by
 obtain⟨i,hi⟩:=gO_ hx;obtain⟨_,_,_,vs,_,_,_,_,b⟩:=h.at hi;exact⟨vs,b⟩
theorem Db {fuel:Nat} {d:DataW H_} {vs:List Y} {t:TypeId} (hu:Tryz.prog.underlying t=some (.int .i64)) (hf:Fit Tryz.prog fuel t d) (hd:cT Tryz.prog V fuel t d vs):wV (lK d):=by
 have h:=(fM hu hf hd).2;simp[Lit.wf,IntKind.min,IntKind.max,IntKind.signed,IntKind.bits] at h;exact h
theorem KF {fuel:Nat} {d:DataW H_} {vs:List Y} (hf:Fit Tryz.prog (fuel+2) 92 d) (hd:cT Tryz.prog V (fuel+2) 92 d vs):wV (qe d).read/\wV (qe d).write:=by
 obtain⟨hl,h⟩:=fZ (m:=5) Tryz.underlying92 J J hf hd;obtain⟨b,u⟩:Fit Tryz.prog _ 2 (bT d 3)/\cT Tryz.prog V _ 2 (bT d 3) _:=h 3 _ Z;obtain⟨A,C⟩:Fit Tryz.prog _ 2 (bT d 4)/\cT Tryz.prog V _ 2 (bT d 4) _:=h 4 _ Z;exact⟨Db Tryz.underlying2 b u,Db Tryz.underlying2 A C⟩
theorem MM (u:∀(b:Nat) (o:bU),V.m.get b=some o->b<V.next) {fuel:Nat} {d:DataW H_} {vs:List Y} (hf:Fit Tryz.prog (fuel+5) 27 d) (hd:cT Tryz.prog V (fuel+5) 27 d vs):r8 (GF d):=by
 obtain⟨hl,h⟩:=fZ (m:=4) Tryz.underlying27 J J hf hd;obtain⟨A,C⟩:Fit Tryz.prog _ 23 (bT d 0)/\cT Tryz.prog V _ 23 (bT d 0) _:=h 0 _ Z;obtain⟨E,F⟩:Fit Tryz.prog _ 24 (bT d 1)/\cT Tryz.prog V _ 24 (bT d 1) _:=h 1 _ Z;obtain⟨v0,_,h0⟩:=eR (m:=1) lK (fun x _=>wV x) Tryz.underlying23 J (by decide) u A C fun x vs hf hd=>Db Tryz.underlying2 hf hd
 have rowE:∀(x:DataW H_) (vs:List Y),Fit Tryz.prog (fuel+3) 64 x->cT Tryz.prog V (fuel+3) 64 x vs->∀e∈(ei x).map qe,wV e.read/\wV e.write:=fun x vs hf hd e he=>by
  obtain⟨_,_,G⟩:=eR (m:=5) qe (fun e _=>wV e.read/\wV e.write) Tryz.underlying64 J (by decide) u hf hd fun x vs hf hd=>KF hf hd
  obtain⟨_,h⟩:=oL G e he;exact h
 obtain⟨v1,_,h1⟩:=eR (m:=1) (fun r=>(ei r).map qe) (fun r _=>∀e∈r,wV e.read/\wV e.write) Tryz.underlying24 J (by decide) u E F rowE;refine⟨fun x hx=>?_,fun t l hl e he=>?_⟩
 ·obtain⟨_,h⟩:=oL h0 x hx;exact h
 obtain⟨_,h⟩:=oL h1 l (gB_ hl);exact h e he
theorem HP (u:∀(b:Nat) (o:bU),V.m.get b=some o->b<V.next) {fuel:Nat} {d:DataW H_} {vs:List Y} (hf:Fit Tryz.prog (fuel+6) 29 d) (hd:cT Tryz.prog V (fuel+6) 29 d vs):∃v,vs= [v]/\bI (rY V) 4 (RG<|rY V) ((ei d).map GF) v:=
 eR (m:=4) GF (RG<|rY V) Tryz.underlying29 J (by decide) u hf hd fun x vs hf hd=>FT u hf hd
theorem KG (u:∀(b:Nat) (o:bU),V.m.get b=some o->b<V.next) {fuel:Nat} {d:DataW H_} {vs:List Y} (hf:Fit Tryz.prog (fuel+6) 29 d) (hd:cT Tryz.prog V (fuel+6) 29 d vs):∀g∈(ei d).map GF,r8 g:=by
 obtain⟨_,_,A⟩:=eR (m:=4) GF (fun g _=>r8 g) Tryz.underlying29 J (by decide) u hf hd fun x vs hf hd=>MM u hf hd
 exact fun g C=>by obtain⟨_,h⟩:=oL A g C;exact h
end
section
variable {H_:Type} {enc:TypeId×Value->H_} {w:World}
def uz (w:World) (v:Value):Prop:=v= .slice none 0 0∨∃(a:Addr) (len cap:Nat) (c:Array Value) (e:TypeId) (fr:Nat×Nat),v= .slice (some a) len cap/\w.heap[a.block]? =some (.cells c e fr)
theorem Ii {base:Nat} {t e:TypeId} {v:Value} (hu:Tryz.prog.underlying t=some (.slice e)) (b:Cell.okWide Tryz.prog w .any base t v):uz w v:=by
 unfold Cell.okWide at b;rw[hu] at b;dsimp only at b;unfold Cell.ok at b;rw[hu] at b;cases v with
 | slice a len cap=>
  cases a with
  | none=>
   try dsimp only at b
   split at b<;>first | (rename_i he;cases he;done) | skip
   all_goals first
    | (rename_i he;cases he;exact .inl Z)
    | (rename_i h1 m;cases m;done)
    | exact b.elim
  | some a=>
   obtain⟨_,_,_,aa,row,cells,d,_⟩:=b;unfold World.shape? at d;split at d
   ·rename_i c e fr hh;exact .inr ⟨a,len,cap,c,e,fr,Z,hh⟩
   cases d
 | _=>exact b.elim
theorem trodAll_cons {P:Program} {ts:List TypeId} {t:TypeId} {vs:List Value} {ds:List (DataW H_)} {ps:List MemPlace} {sp:Nat->Bool} (h:DataW.TrodAll enc P w 0 sp true (t::ts) vs ds ps):
  ∃v vs' d ds',vs=v::vs'/\ds=d::ds'/\(∃n p,DataW.trod enc P w 0 sp true n t v.cells.toList=some (d,p))/\∃q,DataW.TrodAll enc P w 0 sp true ts vs' ds' q:=by
 match vs,ds,h with
 | v::vs',d::ds',⟨p,q,⟨n,h1⟩,b,_⟩=>exact⟨v,vs',d,ds',Z,Z,⟨n,p,h1⟩,q,b⟩
theorem trodAll_nil {P:Program} {vs:List Value} {ds:List (DataW H_)} {ps:List MemPlace} {sp:Nat->Bool} (h:DataW.TrodAll enc P w 0 sp true [] vs ds ps):vs= []/\ds= []:=by
 match vs,ds,h with
 | [],[],_=>exact⟨Z,Z⟩
end
theorem Jx {P:Program} {G:Cx} {ev:Operand->Option Y} {V:B} {t u r:TypeId} {x y:Operand} {b:Nat} (hu:P.underlying t=some (.pointer u)) (hi:(P.info? u).isSome=true) (hx:ev x=some (.ptr b 0)) (hy:ev y=some (.ptr b 0)):dq P G ev V (.binOp .neq t x y r)= .val (.bool false) V:=by
 refine aA hx hy ?_;simp only[qn,Fz,qm,km,Cp,hu,Nat.beq_refl,hi,Bool.and_self,cond_true]
def Ls (bb:Nat) (pa:Y):Prop:=pa= .nilPtr∨pa= .ptr bb 0
theorem tM {G:Cx} (d:Plain G) (b:G.ov 151=true) {K:KP} {bb:Nat} {pa u:Y} (hp:Ls bb pa) {V:B} {L:Own} (aq:H V K ((bb,.own [pa,u] 128)::L)):
  aT Tryz.prog G 131 [.ptr bb 0] V fun v V'=>v= .tuple []/\H V' K ((bb,.own [.ptr bb 0,u] 128)::L):=by
 refine aW d Tryz.func131 Z (t:=D.leaf.put (some (.ptr bb 0)) 0) (by rfl) ?_;refine ai ?_;refine ah Z ?_;refine S Z (N Z) Z ?_;refine S Z (rX Z) Z ?_;refine S Z (ax Z (k:=0) J) Z ?_;refine S Z (jE Z (aq.get 0 Z) J Z) Z ?_;rcases hp with rfl | rfl
 ·refine S Z (aA (v:=.bool true) Z Z J) Z ?_;refine af ?_;refine ad ?_;refine bn Z ?_;refine ah Z ?_;refine S Z (N Z) Z ?_;refine S Z (N Z) Z ?_;refine S Z (Fs (IQ (t:=128) J J (j:=Tryz.t128) Z J Z (aq.get 0 Z)<|Nat.le_of_ble_eq_true Z) J) Z ?_;refine S Z (Ln Z Z Z J b J) Z ?_;refine S Z (Fs (IP (u:=128) J J J Z (aq.get 0 Z) J) J) Z ?_;refine S Z (rX Z) Z ?_;refine S Z (ax Z (k:=0) J) Z ?_;refine ja aq .here Z (wU Z Z Z (aq.get 0 Z) (m:=1) J Z (Nat.le_of_ble_eq_true Z) (ar Z aS) (cells':=[_,_]) Z) Z (fun V aq=>?_);refine af ?_;exact ju Z ⟨Z,aq⟩
 refine S Z (aA (v:=.bool false) Z Z J) Z ?_;refine af ?_;refine ad ?_;refine bf Z ?_;refine ai ?_;refine ah Z ?_;refine S Z (N Z) Z ?_;refine S Z (rX Z) Z ?_;refine S Z (ax Z (k:=0) J) Z ?_;refine S Z (jE Z (aq.get 0 Z) J Z) Z ?_;refine S Z (N Z) Z ?_;refine S Z (Jx (u:=128) J J Z Z) Z ?_;refine af ?_;refine ad ?_;refine bf Z ?_;refine aG ?_;exact ju Z ⟨Z,aq⟩
def xn (bb:Nat) (s:List Nat) (B_:Own):Prop:=∃pa u M,Ls bb pa/\Cw 5 s u M/\B_=(bb,.own [pa,u] 128)::M
theorem Hd (b o l:Nat):dH (.slice b o l (.upto 1)) (.slice b o l (.upto 1))=true:=by
 show(Nat.beq b b && Nat.beq o o && Nat.beq l l && Nat.beq 1 1)=true;simp only[Nat.beq_refl,Bool.and_self]
theorem lu {G:Cx} (E:Plain G) (b:G.ov 151=true) {K:KP} {bb:Nat} {s:List Nat} {B_:Own} (F:xn bb s B_) (hn:s.length<=900000) (c:Nat) {V:B} {L:Own} (aq:H V K (B_++L)):
  aT Tryz.prog G 95 [.ptr bb 0,.int .u8 (.ofNat c)] V fun v V'=>∃B',xn bb (s++[c]) B'/\H V' K (B'++L):=by
 obtain⟨pa,u,M,hp,hO,rfl⟩:=F;refine aW E Tryz.func95 Z (t:=(D.leaf.put (some (.ptr bb 0)) 0).put (some (.int .u8 (.ofNat c))) 1) (by rfl) ?_;refine ai ?_;refine ah Z ?_;refine S Z (aj Z) Z ?_;refine af ?_;refine ad ?_;refine ai ?_;refine ah Z ?_;refine S Z (N Z) Z ?_;refine dJ Z (aR Z Z Z J) (fun _=>Z) (tM E b hp aq) ?_;rintro _ V ⟨rfl,aq⟩;refine af ?_;refine ad ?_;refine ai ?_;refine ah Z ?_;refine S Z (N Z) Z ?_;refine S Z (N Z) Z ?_;refine S Z (rX Z) Z ?_;refine S Z (ax Z (k:=1) J) Z ?_;refine S Z (jE Z (aq.get 0 Z) J Z) Z ?_;refine S Z (N Z) Z ?_;refine jY aq Z (cM (e:=5) (m:=1) (z:=[.int .u8 0]) (cs:=[_]) J J J J<|bB Z Z Z Z cj) (fun _=>Z) (fun V d aq=>?_);replace aq:H V K ((d,.row [.int .u8 (.ofNat c)] 5 false)::(M++((bb,.own [.ptr bb 0,u] 128)::L))):=aq.perm (.cons _ List.perm_middle.symm);refine Ir (e:=5) (w:=[c]) hO aq.w8 (KL<|aq.get 0 Z) (by simp;omega) Z Z Z Z Z Z Z (fun _=>Z) (fun V A C hO14 aq=>?_);replace aq:=aq.weaken (KP.vA _ _ _);refine S Z (rX Z) Z ?_;refine S Z (ax Z (k:=1) J) Z ?_;refine ja aq (.pJ .here) Z (wU Z Z hO14.leaf.1 (aq.gw.get 0 Z) (m:=1) J Z (Nat.le_of_ble_eq_true Z) (ar hO14.leaf.2 aS) (cells':=[_,_]) Z) Z (fun V aq=>?_);refine af ?_;refine ad ?_;refine ai ?_;refine ah Z ?_;refine S Z (aj Z) Z ?_;refine af ?_;refine ad ?_;refine aD ?_;exact ay Z Z ⟨_,⟨_,A,C,.inr Z,hO14,Z⟩,aq.perm List.perm_middle⟩
theorem qf {G:Cx} (C:Plain G) (b:G.ov 151=true) {K:KP} {bb:Nat} {s:List Nat} {B_:Own} (E:xn bb s B_) (w:List Nat) (hn:s.length+w.length<=900000) {V:B} {L:Own} (aq:H V K (B_++L)):
  aT Tryz.prog G 93 [.ptr bb 0,.str w] V fun v V'=>∃B',xn bb (s++w) B'/\H V' K (B'++L):=by
 obtain⟨pa,u,M,hp,hO,rfl⟩:=E;refine aW C Tryz.func93 Z (t:=(D.leaf.put (some (.ptr bb 0)) 0).put (some (.str w)) 1) (by rfl) ?_;refine ai ?_;refine ah Z ?_;refine S Z (aj Z) Z ?_;refine S Z (aj Z) Z ?_;refine af ?_;refine ad ?_;refine ai ?_;refine ah Z ?_;refine S Z (N Z) Z ?_;refine dJ Z (aR Z Z Z J) (fun _=>Z) (tM C b hp aq) ?_;rintro _ V ⟨rfl,aq⟩;refine af ?_;refine ad ?_;refine ai ?_;refine ah Z ?_;refine S Z (N Z) Z ?_;refine S Z (N Z) Z ?_;refine S Z (rX Z) Z ?_;refine S Z (ax Z (k:=1) J) Z ?_;refine S Z (jE Z (aq.get 0 Z) J Z) Z ?_;refine S Z (N Z) Z ?_;replace aq:H V K (M++((bb,.own [.ptr bb 0,u] 128)::L)):=aq.perm List.perm_middle.symm;refine Ir (e:=5) (w:=w) hO aq (OB _ w) oM Z Z Z Z Z Z Z (fun _=>Z) (fun V d A hO14 aq=>?_);refine S Z (rX Z) Z ?_;refine S Z (ax Z (k:=1) J) Z ?_;refine ja aq (.pJ .here) Z (wU Z Z hO14.leaf.1 (aq.gw.get 0 Z) (m:=1) J Z (Nat.le_of_ble_eq_true Z) (ar hO14.leaf.2 aS) (cells':=[_,_]) Z) Z (fun V aq=>?_);refine af ?_;refine ad ?_;refine ai ?_;refine ah Z ?_;refine S Z (N Z) Z ?_;refine S Z (Cj Z Z Z J Z) Z ?_;refine S Z (aj Z) Z ?_;refine S Z (aj Z) Z ?_;refine af ?_;refine ad ?_;refine aD ?_;exact uR Z Z Z ⟨_,⟨_,d,A,.inr Z,hO14,Z⟩,aq.perm List.perm_middle⟩
theorem GH {G:Cx} (I:Plain G) {K:KP} {bb:Nat} {s:List Nat} {B_:Own} (Q:xn bb s B_) (A:∀c∈s,c<=255) {V:B} {L:Own} (aq:H V K (B_++L)):
  aT Tryz.prog G 98 [.ptr bb 0] V fun v V'=>v= .str s/\H V' K L:=by
 obtain⟨pa,u,M,hp,hO,rfl⟩:=Q;refine aW I Tryz.func98 Z (t:=D.leaf.put (some (.ptr bb 0)) 0) (by rfl) ?_;refine ai ?_;refine ah Z ?_;refine S Z (aj Z) Z ?_;refine af ?_;refine ad ?_;refine ai ?_;refine aX (l:=[(0,[]),(1,[]),(2,[]),(3,[]),(5,[]),(6,[]),(7,[]),(8,[]),(9,[]),(4,[8]),(10,[]),(11,[])]) J J ?_;refine al Z Z (N Z) Z ?_;refine al Z Z (rX Z) Z ?_;refine al Z Z (ax Z (k:=1) J) Z ?_;refine al Z Z (jE Z (aq.get 0 Z) J Z) Z ?_;refine al Z Z (N Z) Z ?_;refine al Z Z (rX Z) Z ?_;refine al Z Z (ax Z (k:=1) J) Z ?_;refine al Z Z (jE Z (aq.get 0 Z) J Z) Z ?_;rcases hO with ⟨rfl,rfl,rfl⟩ | ⟨F,C,b,rfl,rfl⟩
 ·refine al Z Z (aO (R:=RB) (m:=1) (l:=[]) (K:=K) (.inl ⟨Z,Z⟩) Z Z Z (e:=5) J Z) Z ?_;refine nF Z Z (tP Z Z Z Z) Z ⟨aV (a7 Z Z Z Z Z (jE Z (aq.get 0 Z) J Z) Z) bq,?_⟩;refine al Z Z (yE Z Z Z Z (by rfl)) Z ?_;refine al Z Z (aj Z) Z ?_;refine bj ?_;refine ad ?_;refine aD ?_;exact ay Z Z ⟨Z,aq.pop⟩
 refine al Z Z (Fp Z Z Z (e:=5) J Z) Z ?_
 have d:xF (.slice b 0 s.length (.upto 1))=some (.ptr b 0):=by
  show(bif Nat.ble 1 s.length then some (Y.ptr b 0) else none)=_;rw[show Nat.ble 1 s.length=true from by rw[nE_];cases s with | nil=>exact absurd rfl F | cons x s=>simp];rfl
 refine nF Z Z (tP Z Z Z d) Z ⟨aV (a7 Z Z Z Z Z (jE Z (aq.get 0 Z) J Z)<|Hd _ _ _) bq,?_⟩;have hset:=aq.MQ (.row (eW s) 5 true);refine al Z Z (yE Z Z Z Z<|KU (E:=5) (ro:=false) J J (aq.get 1 Z) F C A) Z ?_;refine al Z Z (aj Z) Z ?_;refine bj ?_;refine ad ?_;refine aD ?_;exact ay Z Z ⟨Z,hset.pop.pop⟩
theorem oo {i:Nat} (h:1<=i) (h2:i<=1000):wr .i64 (Int.sub (.ofNat i) 1)= .ofNat (i-1):=by
 obtain⟨j,rfl⟩:∃j,i=j+1:=⟨i-1,by omega⟩;exact gy oM
theorem Ep {m i:Nat} (h:36<=m) (hm:m<36 ^ (i-52)):54<=i:=by
 refine Classical.byContradiction fun hn=>?_
 have h1:36 ^ (i-52)<=36 ^ 1:=Nat.pow_le_pow_right oM oM;omega
theorem Eo {m i:Nat} (hi:54<=i) (hm:m<36 ^ (i-52)):m/36<36 ^ (i-1-52):=by
 have e:i-52=(i-1-52)+1:=by omega
 rw[e,Nat.pow_succ] at hm;exact Nat.div_lt_of_lt_mul (by rw[Nat.mul_comm];exact hm)
theorem Er:∀c∈List.replicate 65 (0:Nat),c<=255:=fun c b=>by rw[(List.mem_replicate.1 b).2];omega
theorem va {a:List Nat} {i v:Nat} (h:∀c∈a,c<=255) (hv:v<=255):∀c∈a.set i v,c<=255:=fun c b=>by
 rcases List.mem_or_eq_of_mem_set b with b | rfl
 ·exact h c b
 exact hv
theorem uZ {a:List Nat} {i v:Nat} (h:0<i/\i<=a.length):(a.set (i-1) v).drop (i-1)=v::a.drop i:=by
 obtain⟨j,rfl⟩:∃j,i=j+1:=⟨i-1,by omega⟩;rw[Nat.add_sub_cancel,List.drop_eq_getElem_cons (by rw[List.length_set];omega),List.getElem_set_self,List.drop_set_of_lt oM]
theorem zg {a:List Nat} {i v:Nat} (h:0<i/\i<=a.length):(a.set (i-1) v).drop (i-1)= [v]++a.drop i:=uZ h
theorem OJ {G:Cx} (b:Plain G) {K:KP} {V:B} {L:Own} (aq:H V K L):aT Tryz.prog G 163 [.int .i64 36] V fun v V'=>v= .bool false/\H V' K L:=by
 refine aW b Tryz.func163 Z (t:=D.leaf.put (some (.int .i64 36)) 0) (by rfl) ?_;refine ai ?_;refine ah Z ?_;refine S Z (aj Z) Z ?_;refine af ?_;refine ad ?_;refine ai ?_;refine ah Z ?_;refine S Z (N Z) Z ?_;refine S Z (N Z) Z ?_;refine S Z (aA (v:=.int .i64 35) Z Z J) Z ?_;refine S Z (aA (v:=.int .i64 32) Z Z J) Z ?_;refine S Z (aA (v:=.bool false) Z Z J) Z ?_;refine S Z (aj Z) Z ?_;refine af ?_;refine ad ?_;refine aD ?_;exact ay Z Z ⟨Z,aq⟩
theorem Lg {G:Cx} (d:Plain G) {K:KP} {m:Nat} (hm:m<100) {V:B} {L:Own} (aq:H V K L):aT Tryz.prog G 152 [.int .i64 (.ofNat m)] V fun v V'=>v= .str (fmtS 10 (.ofNat m))/\H V' K L:=by
 refine aW d Tryz.func152 Z (t:=D.leaf.put (some (.int .i64 (.ofNat m))) 0) (by rfl) ?_;refine ai ?_;refine ah Z ?_;refine S Z (aj Z) Z ?_;refine af ?_;refine ad ?_;refine ai ?_;refine ai ?_;refine ah Z ?_;refine S Z (N Z) Z ?_;refine S Z (aA Z Z Z) Z ?_;refine af ?_;refine ad ?_;refine aC Z (fun h4=>?_) (fun h4=>?_)
 ·refine ai ?_;refine ah Z ?_;refine S Z (N Z) Z ?_;refine S Z (N Z) Z ?_;refine S Z (aA (v:=.int .i64 (.ofNat (m+1))) Z Z<|congrArg (fun z=>some (Y.int .i64 z))<|aZ oM) Z ?_;refine S Z (Cm (s:=y8) (k:=m) (h:=m+1) J J Z Z oM (by have:=aU (b:=10) h4;show m+1<=36;omega)) Z ?_;refine S Z (aj Z) Z ?_;refine af ?_;refine ad ?_;refine aD ?_;refine az ?_;exact ay Z Z ⟨by rw[I7<|aU (b:=10) h4],aq⟩
 refine aG ?_;refine ad ?_;refine ai ?_;refine ah Z ?_;refine S Z (N Z) Z ?_;refine S Z (aA (v:=.int .i64 (.ofNat (m*2))) Z Z<|congrArg (fun z=>some (Y.int .i64 z))<|D4 (n:=m*2) oM) Z ?_;refine S Z (N Z) Z ?_;refine S Z (aA (v:=.int .i64 (.ofNat (m*2))) Z Z<|congrArg (fun z=>some (Y.int .i64 z))<|D4 (n:=m*2) oM) Z ?_;refine S Z (aA (v:=.int .i64 (.ofNat (m*2+2))) Z Z<|congrArg (fun z=>some (Y.int .i64 z))<|D4 (n:=m*2+2) oM) Z ?_;refine S Z (Cm (s:=DL) (k:=m*2) (h:=m*2+2) J J Z Z oM (by show m*2+2<=200;omega)) Z ?_;refine S Z (aj Z) Z ?_;refine af ?_;refine ad ?_;refine aD ?_;exact ay Z Z ⟨by rw[I6 hm<|bx (b:=10) h4],aq⟩
theorem OI {G:Cx} (hG:Plain G) {K:KP} {U:Nat} (hU:U<2 ^ 64) {V:B} {L:Own} (aq:H V K L):aT Tryz.prog G 155 [.aB,.int .u64 (.ofNat U),.int .i64 36,.bool false,.bool false] V fun v V'=>v= .tuple [.aB,.str<|ss U]/\H V' K L:=by
 refine aW hG Tryz.func155 Z (t:=((((D.leaf.put (some (.aB)) 0).put (some (.int .u64 (.ofNat U))) 1).put (some (.int .i64 36)) 2).put (some (.bool false)) 3).put (some (.bool false)) 4) (by rfl) ?_;refine ai ?_;refine ah Z ?_;refine S Z (aj Z) Z ?_;refine S Z (aj Z) Z ?_;refine af ?_;refine ad ?_;refine ai ?_;refine ai ?_;refine ah Z ?_;refine S Z (N Z) Z ?_;refine S Z (aA Z Z Z) Z ?_;refine bg Z (N Z) (fun _=>Z) (fun I=>?_) (fun I=>?_)
 ·exact absurd I (by decide)
 refine S Z (N Z) Z ?_;refine S Z (aA Z Z Z) Z ?_;refine S Z (aI Z Z) Z ?_;refine bg Z (N Z) (fun _=>Z) (fun M=>?_) (fun M=>?_)
 ·exact absurd M (by decide)
 refine S Z (N Z) Z ?_;refine S Z (aA Z Z Z) Z ?_;refine S Z (aI Z Z) Z ?_;refine af ?_;refine ad ?_;refine aC Z (fun Q=>?_) (fun Q=>?_)
 ·exact absurd Q (by decide)
 refine aG ?_;refine ad ?_;refine ai ?_;refine ah Z ?_;refine bH aq Z (ea (cs:=(List.replicate 65 (0:Nat)).map g8) J J) (fun _=>Z) (fun V b1 aq=>?_);refine af ?_;refine ad ?_;refine ai ?_;refine ah Z ?_;refine S Z (aj Z) Z ?_;refine af ?_;refine ad ?_;refine ai ?_;refine ai ?_;refine ah Z ?_;refine S Z (N Z) Z ?_;refine af ?_;refine ad ?_;refine bf Z ?_;refine aG ?_;refine ad ?_;refine ai ?_;refine ai ?_;refine ah Z ?_;refine S Z (N Z) Z ?_;refine bh Z (aR Z Z Z J) (fun _=>Z) (OJ hG aq) (fun V aq=>?_);refine af ?_;refine ad ?_;refine bf Z ?_;refine ai ?_;refine ah Z ?_;refine S Z (N Z) Z ?_;refine S Z (Ad (j:=.i64) (k:=.u64) (m:=.ofNat 36) J J J Z J) Z ?_;refine S Z (aj Z) Z ?_;refine af ?_;refine ad ?_;refine ai ?_;refine aJ ?_;refine ba [1,13,18,66,67,68,69,70,71,72,73,74,75,76,77,78,79,80,81,82] (fun j t V=>∃(i m:Nat) (a:List Nat),(j=m/\53<=i/\i<=65/\m<=U/\m<36 ^ (i-52)/\a.length=65/\(∀c∈a,c<=255)/\ss U=ss m++a.drop i)/\t.get 1=some (.int .u64 (.ofNat m))/\t.get 13=some (.int .i64 (.ofNat i))/\H V K ((b1,.row (a.map g8) 197 false)::L)) (U) ⟨65,U,List.replicate 65 0,⟨Z,by omega,nR_ _,nR_ _,Nat.lt_of_lt_of_le hU (by decide),Z,Er,by rw[List.drop_eq_nil_of_le (by simp),List.append_nil]⟩,Z,Z,aq⟩ ?_;clear aq;intro am t V an hI;obtain⟨i,m,a,⟨hj,ac,ak,X,R,aa,d,T⟩,E,u,aq⟩:=hI;replace an:=an.bR Z Z;obtain⟨o1,ab,ao,ap,au,av,aE,a0,an⟩:=an;replace an:=an.bR Z Z;obtain⟨a1,a2,a3,a4,a5,a9,bb,bd,an⟩:=an;replace an:=an.r4 Z;obtain⟨be,bi,bk,bl,an⟩:=an;obtain rfl:=an.nil;clear an;replace E:o1=some _:=E;subst E;replace u:ab=some _:=u;subst u;refine ai ?_;refine ai ?_;refine ah Z ?_;refine S Z (N Z) Z ?_;refine S Z (N Z) Z ?_;refine S Z (aA Z Z Z) Z ?_;refine af ?_;refine ad ?_;refine aC Z (fun F=>?_) (fun F=>?_)
 ·refine aG ?_;refine ad ?_;refine aJ ?_;refine ai ?_;refine ah Z ?_;have W:36<=m:=bx (a:=m) (b:=36) (cd F);have A:m<2 ^ 64:=by omega
  have hi2:=Ep W R;refine S Z (N Z) Z ?_;refine S Z (aA (v:=.int .i64 (.ofNat (i-1))) Z Z<|congrArg (fun z=>some (Y.int .i64 z))<|oo oM oM) Z ?_;refine S Z (aj Z) Z ?_;refine af ?_;refine ad ?_;refine ai ?_;refine ah Z ?_;refine S Z (N Z) Z ?_;refine S Z (N Z) Z ?_;refine S Z (aA (v:=.int .u64 (.ofNat (m/36))) Z Z<|LR A) Z ?_;refine S Z (aj Z) Z ?_;refine af ?_;refine ad ?_;refine ai ?_;refine ah Z ?_;refine S Z (N Z) Z ?_;refine S Z (N Z) Z ?_;refine S Z (N Z) Z ?_;refine S Z (N Z) Z ?_;refine S Z (aA (v:=.int .u64 (.ofNat (m/36*36))) Z Z<|LJ A) Z ?_;refine S Z (aA (v:=.int .u64 (.ofNat (m%36))) Z Z<|LU A) Z ?_;refine S Z (uy (s:=y8) (n:=m%36) (c:=dg (m%36)) J J Z<|ue<|Nat.mod_lt _ oM) Z ?_;refine S Z (jD (n:=65) (e:=5) (m:=1) J J Z Z oM) Z ?_;refine ja aq .here Z (bz Z Z Z (aq.get 0 Z) (m:=1) J Z (by rw[lM_];omega) (ar Z aS) (cells':=((a).set (i-1)<|dg (m%36)).map (g8)) (fw (f:=g8) (v:=(dg (m%36))) oM (by first | omega | rfl))) Z (fun V aq=>?_);refine af ?_;refine ad ?_;refine ah Z ?_;refine S Z (N Z) Z ?_;refine S Z (aj Z) Z ?_;refine af ?_;refine aH ?_;refine aL ⟨m/36,oM,(by(iterate 40 refine a8.put Z ?_);exact a8.refl _ _),i-1,m/36,_,⟨Z,by omega,by omega,Nat.le_trans (Nat.div_le_self _ _) X,Eo hi2 R,by rw[List.length_set];exact aa,va d<|Eg<|Nat.mod_lt _ oM,by rw[T,xL W,lQ_,zg oM]⟩,Z,Z,aq⟩
 refine bc ?_;refine aP ?_;refine aQ ?_;refine aN ?_;refine ad ?_;refine ai ?_;refine ah Z ?_;have C:m<36:=aU (a:=m) (b:=36) (bF F);refine S Z (N Z) Z ?_;refine S Z (aA (v:=.int .i64 (.ofNat (i-1))) Z Z<|congrArg (fun z=>some (Y.int .i64 z))<|oo oM oM) Z ?_;refine S Z (aj Z) Z ?_;refine af ?_;refine ad ?_;refine ah Z ?_;refine S Z (N Z) Z ?_;refine S Z (N Z) Z ?_;refine S Z (uy (s:=y8) (n:=m) (c:=dg (m)) J J Z<|ue (C)) Z ?_;refine S Z (jD (n:=65) (e:=5) (m:=1) J J Z Z oM) Z ?_;refine ja aq .here Z (bz Z Z Z (aq.get 0 Z) (m:=1) J Z (by rw[lM_];omega) (ar Z aS) (cells':=((a).set (i-1)<|dg m).map (g8)) (fw (f:=g8) (v:=(dg m)) oM (by first | omega | rfl))) Z (fun V aq=>?_);refine af ?_;refine ad ?_;refine ai ?_;refine ai ?_;refine ah Z ?_;refine S Z (N Z) Z ?_;refine af ?_;refine ad ?_;refine bf Z ?_;refine aG ?_;refine ad ?_;refine ai ?_;refine ai ?_;refine ah Z ?_;refine S Z (N Z) Z ?_;refine af ?_;refine ad ?_;refine bf Z ?_;refine aG ?_;refine ad ?_;refine ai ?_;refine ah Z ?_;refine S Z (N Z) Z ?_;refine S Z (wT (n:=65) (e:=5) (sz:=1) (i:=(i-1)) J J Z Z oM) Z ?_;refine S Z (Ft (e:=5) (i:=(i-1)) (n:=65) J J J J Z (by simp;omega) oM (aq.get 0 Z)<|va d<|Eg C) Z ?_;refine S Z (aj Z) Z ?_;refine af ?_;refine ad ?_;refine aD ?_;exact uR Z Z Z ⟨by rw[uZ oM,T,vj C];rfl,aq.pop⟩
theorem OH {G:Cx} (hG:Plain G) {K:KP} {U:Nat} (hU:U<2 ^ 64) {X:Int} (aa:wr .u64 (Int.sub 0 X)= .ofNat U) {V:B} {L:Own} (aq:H V K L):aT Tryz.prog G 155 [.aB,.int .u64 X,.int .i64 36,.bool true,.bool false] V fun v V'=>v= .tuple [.aB,.str (45::ss U)]/\H V' K L:=by
 refine aW hG Tryz.func155 Z (t:=((((D.leaf.put (some (.aB)) 0).put (some (.int .u64 X)) 1).put (some (.int .i64 36)) 2).put (some (.bool true)) 3).put (some (.bool false)) 4) (by rfl) ?_;refine ai ?_;refine ah Z ?_;refine S Z (aj Z) Z ?_;refine S Z (aj Z) Z ?_;refine af ?_;refine ad ?_;refine ai ?_;refine ai ?_;refine ah Z ?_;refine S Z (N Z) Z ?_;refine S Z (aA Z Z Z) Z ?_;refine bg Z (N Z) (fun _=>Z) (fun I=>?_) (fun I=>?_)
 ·exact absurd I (by decide)
 refine S Z (N Z) Z ?_;refine S Z (aA Z Z Z) Z ?_;refine S Z (aI Z Z) Z ?_;refine bg Z (N Z) (fun _=>Z) (fun M=>?_) (fun M=>?_)
 ·exact absurd M (by decide)
 refine S Z (N Z) Z ?_;refine S Z (aA Z Z Z) Z ?_;refine S Z (aI Z Z) Z ?_;refine af ?_;refine ad ?_;refine aC Z (fun Q=>?_) (fun Q=>?_)
 ·exact absurd Q (by decide)
 refine aG ?_;refine ad ?_;refine ai ?_;refine ah Z ?_;refine bH aq Z (ea (cs:=(List.replicate 65 (0:Nat)).map g8) J J) (fun _=>Z) (fun V b1 aq=>?_);refine af ?_;refine ad ?_;refine ai ?_;refine ah Z ?_;refine S Z (aj Z) Z ?_;refine af ?_;refine ad ?_;refine ai ?_;refine ai ?_;refine ah Z ?_;refine S Z (N Z) Z ?_;refine af ?_;refine ad ?_;refine bn Z ?_;refine ah Z ?_;refine S Z (N Z) Z ?_;refine S Z ((show dq Tryz.prog G _ V _= .val (.int .u64 (.ofNat U)) V from by rw[<-aa];exact bK Z Z)) Z ?_;refine S Z (aj Z) Z ?_;refine af ?_;refine ad ?_;refine ai ?_;refine ai ?_;refine ah Z ?_;refine S Z (N Z) Z ?_;refine bh Z (aR Z Z Z J) (fun _=>Z) (OJ hG aq) (fun V aq=>?_);refine af ?_;refine ad ?_;refine bf Z ?_;refine ai ?_;refine ah Z ?_;refine S Z (N Z) Z ?_;refine S Z (Ad (j:=.i64) (k:=.u64) (m:=.ofNat 36) J J J Z J) Z ?_;refine S Z (aj Z) Z ?_;refine af ?_;refine ad ?_;refine ai ?_;refine aJ ?_;refine ba [1,13,18,66,67,68,69,70,71,72,73,74,75,76,77,78,79,80,81,82] (fun j t V=>∃(i m:Nat) (a:List Nat),(j=m/\53<=i/\i<=65/\m<=U/\m<36 ^ (i-52)/\a.length=65/\(∀c∈a,c<=255)/\ss U=ss m++a.drop i)/\t.get 1=some (.int .u64 (.ofNat m))/\t.get 13=some (.int .i64 (.ofNat i))/\H V K ((b1,.row (a.map g8) 197 false)::L)) (U) ⟨65,U,List.replicate 65 0,⟨Z,by omega,nR_ _,nR_ _,Nat.lt_of_lt_of_le hU (by decide),Z,Er,by rw[List.drop_eq_nil_of_le (by simp),List.append_nil]⟩,Z,Z,aq⟩ ?_;clear aq;intro ap t V an hI;obtain⟨i,m,a,⟨hj,am,ao,ab,R,ac,d,T⟩,E,u,aq⟩:=hI;replace an:=an.bR Z Z;obtain⟨o1,ak,au,av,aE,a0,a1,a2,an⟩:=an;replace an:=an.bR Z Z;obtain⟨a3,a4,a5,a9,bb,bd,be,bi,an⟩:=an;replace an:=an.r4 Z;obtain⟨bk,bl,bm,bo,an⟩:=an;obtain rfl:=an.nil;clear an;replace E:o1=some _:=E;subst E;replace u:ak=some _:=u;subst u;refine ai ?_;refine ai ?_;refine ah Z ?_;refine S Z (N Z) Z ?_;refine S Z (N Z) Z ?_;refine S Z (aA Z Z Z) Z ?_;refine af ?_;refine ad ?_;refine aC Z (fun F=>?_) (fun F=>?_)
 ·refine aG ?_;refine ad ?_;refine aJ ?_;refine ai ?_;refine ah Z ?_;have W:36<=m:=bx (a:=m) (b:=36) (cd F);have A:m<2 ^ 64:=by omega
  have hi2:=Ep W R;refine S Z (N Z) Z ?_;refine S Z (aA (v:=.int .i64 (.ofNat (i-1))) Z Z<|congrArg (fun z=>some (Y.int .i64 z))<|oo oM oM) Z ?_;refine S Z (aj Z) Z ?_;refine af ?_;refine ad ?_;refine ai ?_;refine ah Z ?_;refine S Z (N Z) Z ?_;refine S Z (N Z) Z ?_;refine S Z (aA (v:=.int .u64 (.ofNat (m/36))) Z Z<|LR A) Z ?_;refine S Z (aj Z) Z ?_;refine af ?_;refine ad ?_;refine ai ?_;refine ah Z ?_;refine S Z (N Z) Z ?_;refine S Z (N Z) Z ?_;refine S Z (N Z) Z ?_;refine S Z (N Z) Z ?_;refine S Z (aA (v:=.int .u64 (.ofNat (m/36*36))) Z Z<|LJ A) Z ?_;refine S Z (aA (v:=.int .u64 (.ofNat (m%36))) Z Z<|LU A) Z ?_;refine S Z (uy (s:=y8) (n:=m%36) (c:=dg (m%36)) J J Z<|ue<|Nat.mod_lt _ oM) Z ?_;refine S Z (jD (n:=65) (e:=5) (m:=1) J J Z Z oM) Z ?_;refine ja aq .here Z (bz Z Z Z (aq.get 0 Z) (m:=1) J Z (by rw[lM_];omega) (ar Z aS) (cells':=((a).set (i-1)<|dg (m%36)).map (g8)) (fw (f:=g8) (v:=(dg (m%36))) oM (by first | omega | rfl))) Z (fun V aq=>?_);refine af ?_;refine ad ?_;refine ah Z ?_;refine S Z (N Z) Z ?_;refine S Z (aj Z) Z ?_;refine af ?_;refine aH ?_;refine aL ⟨m/36,oM,(by(iterate 40 refine a8.put Z ?_);exact a8.refl _ _),i-1,m/36,_,⟨Z,by omega,by omega,Nat.le_trans (Nat.div_le_self _ _) ab,Eo hi2 R,by rw[List.length_set];exact ac,va d<|Eg<|Nat.mod_lt _ oM,by rw[T,xL W,lQ_,zg oM]⟩,Z,Z,aq⟩
 refine bc ?_;refine aP ?_;refine aQ ?_;refine aN ?_;refine ad ?_;refine ai ?_;refine ah Z ?_;have C:m<36:=aU (a:=m) (b:=36) (bF F);refine S Z (N Z) Z ?_;refine S Z (aA (v:=.int .i64 (.ofNat (i-1))) Z Z<|congrArg (fun z=>some (Y.int .i64 z))<|oo oM oM) Z ?_;refine S Z (aj Z) Z ?_;refine af ?_;refine ad ?_;refine ah Z ?_;refine S Z (N Z) Z ?_;refine S Z (N Z) Z ?_;refine S Z (uy (s:=y8) (n:=m) (c:=dg (m)) J J Z<|ue (C)) Z ?_;refine S Z (jD (n:=65) (e:=5) (m:=1) J J Z Z oM) Z ?_;refine ja aq .here Z (bz Z Z Z (aq.get 0 Z) (m:=1) J Z (by rw[lM_];omega) (ar Z aS) (cells':=((a).set (i-1)<|dg m).map (g8)) (fw (f:=g8) (v:=(dg m)) oM (by first | omega | rfl))) Z (fun V aq=>?_);refine af ?_;refine ad ?_;refine ai ?_;refine ai ?_;refine ah Z ?_;refine S Z (N Z) Z ?_;refine af ?_;refine ad ?_;refine bn Z ?_;refine ai ?_;refine ah Z ?_;refine S Z (N Z) Z ?_;refine S Z (aA (v:=.int .i64 (.ofNat ((i-1)-1))) Z Z<|congrArg (fun z=>some (Y.int .i64 z))<|oo oM oM) Z ?_;refine S Z (aj Z) Z ?_;refine af ?_;refine ad ?_;refine ah Z ?_;refine S Z (N Z) Z ?_;refine S Z (jD (n:=65) (e:=5) (m:=1) J J Z Z oM) Z ?_;refine ja aq .here Z (bz Z Z Z (aq.get 0 Z) (m:=1) J Z (by rw[lM_];rw[List.length_set];omega) (ar Z aS) (cells':=(((a).set (i-1)<|dg m).set (i-1-1) 45).map (g8))<|fw (f:=g8) (v:=45) (by rw[List.length_set];omega) (by first | omega | rfl)) Z (fun V aq=>?_);refine af ?_;refine ad ?_;refine ai ?_;refine ai ?_;refine ah Z ?_;refine S Z (N Z) Z ?_;refine af ?_;refine ad ?_;refine bf Z ?_;refine aG ?_;refine ad ?_;refine ai ?_;refine ah Z ?_;refine S Z (N Z) Z ?_;refine S Z (wT (n:=65) (e:=5) (sz:=1) (i:=(i-1-1)) J J Z Z oM) Z ?_;refine S Z (Ft (e:=5) (i:=(i-1-1)) (n:=65) J J J J Z (by simp;omega) oM (aq.get 0 Z)<|va (va d<|Eg C) oM) Z ?_;refine S Z (aj Z) Z ?_;refine af ?_;refine ad ?_;refine aD ?_;exact uR Z Z Z ⟨by rw[zg (by rw[List.length_set];omega),uZ oM,T,vj C];rfl,aq.pop⟩
theorem LW {G:Cx} (hG:Plain G) {K:KP} {g:Nat} {c:List cq->List cq->Int} (ab:pD Tryz.prog g=true) {l1 l2:List (List cq)} {v1 v2:Y} {V:B} {L:Own} (aq:H V K L) (h1:bI K 1 (RL K 5 qQ) l1 v1) (h2:bI K 1 (RL K 5 qQ) l2 v2)
  (E:∀x y u w V L,H V K L->bI K 5 qQ x u->bI K 5 qQ y w->aT Tryz.prog G g [u,w] V fun v V'=>v= .int .i64 (c x y)/\H V' K L):
  aT Tryz.prog G 80 [v1,v2,.func g [] []] V fun v V'=>v= .int .i64 (dz c l1 l2)/\H V' K L:=by
 refine Qf hG Tryz.func80 Z<|OV 9 Z<|S Z (QZ h1 Z Z Z (e:=64) Z) Z<|OX 4 Z ?_;obtain⟨LL1,aq,hLL1⟩:=aq.named;refine ba (rg 6 5++rg 13 21) (fun j t V=>∃(i:Nat),j+i=l1.length/\dz c l1 l2=dz c (l1.drop i) (l2.drop i)/\t.get 13=some (.int .i64 (.ofNat i))/\H V K LL1) (l1.length) ⟨0,Z,Z,Z,aq⟩ ?_;clear aq;intro j2 t V an hI;obtain⟨i,au,d,Q,aq⟩:=hI;subst hLL1;obtain⟨oo,rfl⟩:=an.q1 Q Z;refine PJ 6 Z<|aC Z (fun C=>?_) (fun C=>?_)
 ·refine NA 7 Z ?_;obtain⟨av,b,ac⟩:=cO C;refine QQ (e:=64) (m:=1) h1 b Z Z Z Z (fun aE ak R am T=>?_);have hr16':=T;obtain⟨a0,rfl,U⟩:=hr16';refine S Z (Q4 aq R Z Z) Z<|Oh 9 Z<|S Z (QZ h2 Z Z Z (e:=64) Z) Z<|PM 3 Z<|aC Z (fun F=>?_) (fun F=>?_)
  ·refine Qk 6 Z<|az<|aK<|az<|bp<|aK<|az (?_);exact ay Z Z ⟨cJ (by symm;rw[d];exact lW b<|ik F),aq⟩
  refine aG<|PK 4 Z ?_;obtain⟨a1,A⟩:=cF (iy F);refine QQ (e:=64) (m:=1) h2 A Z Z Z Z (fun a2 ao W ap X=>?_);have hr24':=X;obtain⟨a3,rfl,aa⟩:=hr24';refine S Z (Q4 aq W Z Z) Z<|OY 8 Z<|bh Z (aR Z Z Z ab) (fun _=>Z) (E _ _ _ _ _ _ aq U aa) (fun V aq=>?_);refine PM 9 Z<|aC Z (fun I=>?_) (fun I=>?_)
  ·refine Qk 7 Z<|aK<|az<|bp<|aK<|az (?_);exact ay Z Z ⟨cJ (by symm;rw[d];exact lY b A<|cd I),aq⟩
  refine aG<|aH<|Qj 4 Z<|aL ⟨j2-1,by omega,oF,i+1,by omega,d.trans<|lX b A<|bF I,cI<|aZ (by have:=h1.bM;omega),aq⟩
 refine OW 3 Z<|aN<|OV 4 Z<|S Z (QZ h1 Z Z Z (e:=64) Z) Z<|vQ 1 Z<|S Z (QZ h2 Z Z Z (e:=64) Z) Z<|PM 3 Z<|aC Z (fun M=>?_) (fun M=>?_)
 ·refine PL 7 Z ?_;exact ay Z Z ⟨cJ (by symm;rw[d];exact lV (bx C) oM<|aU M),aq⟩
 refine PL 8 Z ?_;exact ay Z Z ⟨cJ (by symm;rw[d];exact nv (bx C)<|bx M),aq⟩
theorem LX {G:Cx} (hG:Plain G) {K:KP} {g:Nat} {c:List cm->List cm->Int} (ab:pD Tryz.prog g=true) {l1 l2:List (List cm)} {v1 v2:Y} {V:B} {L:Own} (aq:H V K L) (h1:bI K 1 (RL K 2 nh) l1 v1) (h2:bI K 1 (RL K 2 nh) l2 v2)
  (E:∀x y u w V L,H V K L->bI K 2 nh x u->bI K 2 nh y w->aT Tryz.prog G g [u,w] V fun v V'=>v= .int .i64 (c x y)/\H V' K L):
  aT Tryz.prog G 85 [v1,v2,.func g [] []] V fun v V'=>v= .int .i64 (dz c l1 l2)/\H V' K L:=by
 refine Qf hG Tryz.func85 Z<|OV 9 Z<|S Z (QZ h1 Z Z Z (e:=57) Z) Z<|OX 4 Z ?_;obtain⟨LL1,aq,hLL1⟩:=aq.named;refine ba (rg 6 5++rg 13 21) (fun j t V=>∃(i:Nat),j+i=l1.length/\dz c l1 l2=dz c (l1.drop i) (l2.drop i)/\t.get 13=some (.int .i64 (.ofNat i))/\H V K LL1) (l1.length) ⟨0,Z,Z,Z,aq⟩ ?_;clear aq;intro j2 t V an hI;obtain⟨i,au,d,Q,aq⟩:=hI;subst hLL1;obtain⟨oo,rfl⟩:=an.q1 Q Z;refine PJ 6 Z<|aC Z (fun C=>?_) (fun C=>?_)
 ·refine NA 7 Z ?_;obtain⟨av,b,ac⟩:=cO C;refine QQ (e:=57) (m:=1) h1 b Z Z Z Z (fun aE ak R am T=>?_);have hr16':=T;obtain⟨a0,rfl,U⟩:=hr16';refine S Z (Q4 aq R Z Z) Z<|Oh 9 Z<|S Z (QZ h2 Z Z Z (e:=57) Z) Z<|PM 3 Z<|aC Z (fun F=>?_) (fun F=>?_)
  ·refine Qk 6 Z<|az<|aK<|az<|bp<|aK<|az (?_);exact ay Z Z ⟨cJ (by symm;rw[d];exact lW b<|ik F),aq⟩
  refine aG<|PK 4 Z ?_;obtain⟨a1,A⟩:=cF (iy F);refine QQ (e:=57) (m:=1) h2 A Z Z Z Z (fun a2 ao W ap X=>?_);have hr24':=X;obtain⟨a3,rfl,aa⟩:=hr24';refine S Z (Q4 aq W Z Z) Z<|OY 8 Z<|bh Z (aR Z Z Z ab) (fun _=>Z) (E _ _ _ _ _ _ aq U aa) (fun V aq=>?_);refine PM 9 Z<|aC Z (fun I=>?_) (fun I=>?_)
  ·refine Qk 7 Z<|aK<|az<|bp<|aK<|az (?_);exact ay Z Z ⟨cJ (by symm;rw[d];exact lY b A<|cd I),aq⟩
  refine aG<|aH<|Qj 4 Z<|aL ⟨j2-1,by omega,oF,i+1,by omega,d.trans<|lX b A<|bF I,cI<|aZ (by have:=h1.bM;omega),aq⟩
 refine OW 3 Z<|aN<|OV 4 Z<|S Z (QZ h1 Z Z Z (e:=57) Z) Z<|vQ 1 Z<|S Z (QZ h2 Z Z Z (e:=57) Z) Z<|PM 3 Z<|aC Z (fun M=>?_) (fun M=>?_)
 ·refine PL 7 Z ?_;exact ay Z Z ⟨cJ (by symm;rw[d];exact lV (bx C) oM<|aU M),aq⟩
 refine PL 8 Z ?_;exact ay Z Z ⟨cJ (by symm;rw[d];exact nv (bx C)<|bx M),aq⟩
theorem OF {G:Cx} (hG:Plain G) {K:KP} {g:Nat} {c:cq->cq->Int} (W:pD Tryz.prog g=true) {l1 l2:List (cq)} {v1 v2:Y} {V:B} {L:Own} (aq:H V K L) (h1:bI K 5 (qQ) l1 v1) (X:bI K 5 (qQ) l2 v2)
  (C:∀x y V L,H V K L->aT Tryz.prog G g [.agg<|ints x.ints,.agg<|ints y.ints] V fun v V'=>v= .int .i64 (c x y)/\H V' K L):
  aT Tryz.prog G 115 [v1,v2,.func g [] []] V fun v V'=>v= .int .i64 (dz c l1 l2)/\H V' K L:=by
 refine Qf hG Tryz.func115 Z<|OV 9 Z<|S Z (QZ h1 Z Z Z (e:=92) Z) Z<|OX 4 Z ?_;obtain⟨LL1,aq,hLL1⟩:=aq.named;refine ba (rg 6 5++rg 13 21) (fun j t V=>∃(i:Nat),j+i=l1.length/\dz c l1 l2=dz c (l1.drop i) (l2.drop i)/\t.get 13=some (.int .i64 (.ofNat i))/\H V K LL1) (l1.length) ⟨0,Z,Z,Z,aq⟩ ?_;clear aq;intro j2 t V an hI;obtain⟨i,ao,d,M,aq⟩:=hI;subst hLL1;obtain⟨oo,rfl⟩:=an.q1 M Z;refine PJ 6 Z<|aC Z (fun A=>?_) (fun A=>?_)
 ·refine NA 7 Z ?_;obtain⟨ap,b,aa⟩:=cO A;refine QQ (e:=92) (m:=5) h1 b Z Z Z Z (fun au ab Q ac R=>?_);obtain rfl:=R;refine S Z (Q5 aq Q Z Z) Z<|kp aq Z (Q0 (cs:=[iZ,iZ,iZ,iZ,iZ])) (fun V b1 aq=>?_);refine vQ 1 Z<|db aq Z (Q6 Z Z Z aq.g0 (m:=5) Z Z (cells':=[_,_,_,_,_]) Z) Z (fun V aq=>?_);refine Oh 7 Z<|S Z (QZ X Z Z Z (e:=92) Z) Z<|PM 3 Z<|aC Z (fun E=>?_) (fun E=>?_)
  ·refine Qk 6 Z<|az<|aK<|az<|bp<|aK<|az (?_);exact ay Z Z ⟨cJ (by symm;rw[d];exact lW b<|ik E),aq.pop⟩
  refine aG<|PK 4 Z ?_;obtain⟨av,u⟩:=cF (iy E);refine QQ (e:=92) (m:=5) X u Z Z Z Z (fun aE ak T am U=>?_);obtain rfl:=U;refine S Z (Q5 aq T Z Z) Z<|kp aq Z (Q0 (cs:=[iZ,iZ,iZ,iZ,iZ])) (fun V b2 aq=>?_);refine db aq Z (Q6 Z Z Z aq.g0 (m:=5) Z Z (cells':=[_,_,_,_,_]) Z) Z (fun V aq=>?_);refine OY 5 Z<|S Z (QY Z aq.g1 (n:=5) (vs:=[_,_,_,_,_]) Z) Z<|S Z (QY Z aq.g0 (n:=5) (vs:=[_,_,_,_,_]) Z) Z<|bh Z (aR Z Z Z W) (fun _=>Z) (C _ _ _ _ aq) (fun V aq=>?_);refine PM 9 Z<|aC Z (fun F=>?_) (fun F=>?_)
  ·refine Qk 7 Z<|aK<|az<|bp<|aK<|az (?_);exact ay Z Z ⟨cJ (by symm;rw[d];exact lY b u<|cd F),aq.pop.pop⟩
  refine aG<|aH<|Qj 4 Z ?_;have aq:=aq.pop;have aq:=aq.pop;refine aL ⟨j2-1,by omega,oF,i+1,by omega,d.trans<|lX b u<|bF F,cI<|aZ (by have:=h1.bM;omega),aq⟩
 refine OW 3 Z<|aN<|OV 4 Z<|S Z (QZ h1 Z Z Z (e:=92) Z) Z<|vQ 1 Z<|S Z (QZ X Z Z Z (e:=92) Z) Z<|PM 3 Z<|aC Z (fun I=>?_) (fun I=>?_)
 ·refine PL 7 Z ?_;exact ay Z Z ⟨cJ (by symm;rw[d];exact lV (bx A) oM<|aU I),aq⟩
 refine PL 8 Z ?_;exact ay Z Z ⟨cJ (by symm;rw[d];exact nv (bx A)<|bx I),aq⟩
theorem OG {G:Cx} (hG:Plain G) {K:KP} {g:Nat} {c:cm->cm->Int} (W:pD Tryz.prog g=true) {l1 l2:List (cm)} {v1 v2:Y} {V:B} {L:Own} (aq:H V K L) (h1:bI K 2 (nh) l1 v1) (X:bI K 2 (nh) l2 v2)
  (C:∀x y V L,H V K L->aT Tryz.prog G g [.agg<|ints x.ints,.agg<|ints y.ints] V fun v V'=>v= .int .i64 (c x y)/\H V' K L):
  aT Tryz.prog G 118 [v1,v2,.func g [] []] V fun v V'=>v= .int .i64 (dz c l1 l2)/\H V' K L:=by
 refine Qf hG Tryz.func118 Z<|OV 9 Z<|S Z (QZ h1 Z Z Z (e:=59) Z) Z<|OX 4 Z ?_;obtain⟨LL1,aq,hLL1⟩:=aq.named;refine ba (rg 6 5++rg 13 21) (fun j t V=>∃(i:Nat),j+i=l1.length/\dz c l1 l2=dz c (l1.drop i) (l2.drop i)/\t.get 13=some (.int .i64 (.ofNat i))/\H V K LL1) (l1.length) ⟨0,Z,Z,Z,aq⟩ ?_;clear aq;intro j2 t V an hI;obtain⟨i,ao,d,M,aq⟩:=hI;subst hLL1;obtain⟨oo,rfl⟩:=an.q1 M Z;refine PJ 6 Z<|aC Z (fun A=>?_) (fun A=>?_)
 ·refine NA 7 Z ?_;obtain⟨ap,b,aa⟩:=cO A;refine QQ (e:=59) (m:=2) h1 b Z Z Z Z (fun au ab Q ac R=>?_);obtain rfl:=R;refine S Z (Q5 aq Q Z Z) Z<|kp aq Z (Q0 (cs:=[iZ,iZ])) (fun V b1 aq=>?_);refine vQ 1 Z<|db aq Z (Q6 Z Z Z aq.g0 (m:=2) Z Z (cells':=[_,_]) Z) Z (fun V aq=>?_);refine Oh 7 Z<|S Z (QZ X Z Z Z (e:=59) Z) Z<|PM 3 Z<|aC Z (fun E=>?_) (fun E=>?_)
  ·refine Qk 6 Z<|az<|aK<|az<|bp<|aK<|az (?_);exact ay Z Z ⟨cJ (by symm;rw[d];exact lW b<|ik E),aq.pop⟩
  refine aG<|PK 4 Z ?_;obtain⟨av,u⟩:=cF (iy E);refine QQ (e:=59) (m:=2) X u Z Z Z Z (fun aE ak T am U=>?_);obtain rfl:=U;refine S Z (Q5 aq T Z Z) Z<|kp aq Z (Q0 (cs:=[iZ,iZ])) (fun V b2 aq=>?_);refine db aq Z (Q6 Z Z Z aq.g0 (m:=2) Z Z (cells':=[_,_]) Z) Z (fun V aq=>?_);refine OY 5 Z<|S Z (QY Z aq.g1 (n:=2) (vs:=[_,_]) Z) Z<|S Z (QY Z aq.g0 (n:=2) (vs:=[_,_]) Z) Z<|bh Z (aR Z Z Z W) (fun _=>Z) (C _ _ _ _ aq) (fun V aq=>?_);refine PM 9 Z<|aC Z (fun F=>?_) (fun F=>?_)
  ·refine Qk 7 Z<|aK<|az<|bp<|aK<|az (?_);exact ay Z Z ⟨cJ (by symm;rw[d];exact lY b u<|cd F),aq.pop.pop⟩
  refine aG<|aH<|Qj 4 Z ?_;have aq:=aq.pop;have aq:=aq.pop;refine aL ⟨j2-1,by omega,oF,i+1,by omega,d.trans<|lX b u<|bF F,cI<|aZ (by have:=h1.bM;omega),aq⟩
 refine OW 3 Z<|aN<|OV 4 Z<|S Z (QZ h1 Z Z Z (e:=59) Z) Z<|vQ 1 Z<|S Z (QZ X Z Z Z (e:=59) Z) Z<|PM 3 Z<|aC Z (fun I=>?_) (fun I=>?_)
 ·refine PL 7 Z ?_;exact ay Z Z ⟨cJ (by symm;rw[d];exact lV (bx A) oM<|aU I),aq⟩
 refine PL 8 Z ?_;exact ay Z Z ⟨cJ (by symm;rw[d];exact nv (bx A)<|bx I),aq⟩
theorem KW {G:Cx} (W:Plain G) {K:KP} {l1 l2:List (Int)} {X v2:Y} {V:B} {L:Own} (aq:H V K L) (h1:bI K 1 (dG) l1 X) (U:bI K 1 (dG) l2 v2):
  aT Tryz.prog G 89 [X,v2] V fun v V'=>v= .int .i64 (dz eh l1 l2)/\H V' K L:=by
 refine Qf W Tryz.func89 Z<|OV 9 Z<|S Z (QZ h1 Z Z Z (e:=2) Z) Z<|OX 4 Z ?_;obtain⟨LL1,aq,hLL1⟩:=aq.named;refine ba (rg 4 5++rg 11 20) (fun j t V=>∃(i:Nat),j+i=l1.length/\dz eh l1 l2=dz eh (l1.drop i) (l2.drop i)/\t.get 11=some (.int .i64 (.ofNat i))/\H V K LL1) (l1.length) ⟨0,Z,Z,Z,aq⟩ ?_;clear aq;intro j2 t V an hI;obtain⟨i,ao,d,I,aq⟩:=hI;subst hLL1;obtain⟨oo,rfl⟩:=an.q1 I Z;refine PJ 6 Z<|aC Z (fun A=>?_) (fun A=>?_)
 ·refine NA 7 Z ?_;obtain⟨ap,b,aa⟩:=cO A;refine QQ (e:=2) (m:=1) h1 b Z Z Z Z (fun au ab M ac Q=>?_);obtain rfl:=Q;refine S Z (Q4 aq M Z Z) Z<|Oh 9 Z<|S Z (QZ U Z Z Z (e:=2) Z) Z<|PM 3 Z<|aC Z (fun C=>?_) (fun C=>?_)
  ·refine Qk 6 Z<|az<|aK<|az<|bp<|aK<|az (?_);exact ay Z Z ⟨cJ (by symm;rw[d];exact lW b<|ik C),aq⟩
  refine aG<|PK 4 Z ?_;obtain⟨av,u⟩:=cF (iy C);refine QQ (e:=2) (m:=1) U u Z Z Z Z (fun aE ak R am T=>?_);obtain rfl:=T;refine S Z (Q4 aq R Z Z) Z<|OY 7 Z<|bh Z (QV Z Z Z) (fun _=>Z) (tL W _ _ aq) (fun V aq=>?_);refine PM 9 Z<|aC Z (fun E=>?_) (fun E=>?_)
  ·refine Qk 7 Z<|aK<|az<|bp<|aK<|az (?_);exact ay Z Z ⟨cJ (by symm;rw[d];exact lY b u<|cd E),aq⟩
  refine aG<|aH<|Qj 4 Z<|aL ⟨j2-1,by omega,oF,i+1,by omega,d.trans<|lX b u<|bF E,cI<|aZ (by have:=h1.bM;omega),aq⟩
 refine OW 3 Z<|aN<|OV 4 Z<|S Z (QZ h1 Z Z Z (e:=2) Z) Z<|vQ 1 Z<|S Z (QZ U Z Z Z (e:=2) Z) Z<|PM 3 Z<|aC Z (fun F=>?_) (fun F=>?_)
 ·refine PL 7 Z ?_;exact ay Z Z ⟨cJ (by symm;rw[d];exact lV (bx A) oM<|aU F),aq⟩
 refine PL 8 Z ?_;exact ay Z Z ⟨cJ (by symm;rw[d];exact nv (bx A)<|bx F),aq⟩
theorem z6 {G:Cx} (b:Plain G) {K:KP} {l1 l2:List cq} {d m:Y} {V:B} {L:Own} (aq:H V K L) (h1:bI K 5 qQ l1 d) (u:bI K 5 qQ l2 m):aT Tryz.prog G 81 [d,m] V fun v V'=>v= .int .i64 (gF l1 l2)/\H V' K L:=by
 refine Qf b Tryz.func81 Z<|PK 8 Z<|S Z (QZ h1 Z Z Z (e:=92) Z) Z<|vQ 1 Z<|S Z (QZ u Z Z Z (e:=92) Z) Z<|bh Z (QV Z Z Z) (fun _=>Z) (yu b _ _ aq) (fun V aq=>?_);refine PN 4 Z ?_;exact ay Z Z ⟨Z,aq⟩
theorem tX {G:Cx} (b:Plain G) {K:KP} {l1 l2:List cq} {d m:Y} {V:B} {L:Own} (aq:H V K L) (h1:bI K 5 qQ l1 d) (u:bI K 5 qQ l2 m):aT Tryz.prog G 83 [d,m] V fun v V'=>v= .int .i64 (dz mU l1 l2)/\H V' K L:=by
 refine Qf b Tryz.func83 Z<|PK 9 Z<|bh Z (QV Z Z Z) (fun _=>Z) (OF b (g:=116) (c:=mU) J aq h1 u (fun _ _ _ _ aq=>wO b _ _ aq)) (fun V aq=>?_);refine PN 4 Z ?_;exact ay Z Z ⟨Z,aq⟩
theorem P9 {G:Cx} (b:Plain G) {K:KP} {l1 l2:List cm} {u A p q:Y} (h1:bI K 2 nh l1 u) (C:bI K 2 nh l2 A) (d:cX K p [u]) (m:cX K q [A]) {V:B} {L:Own} (aq:H V K L):aT Tryz.prog G 117 [p,q] V fun v V'=>v= .int .i64 (dz nu l1 l2)/\H V' K L:=by
 refine Qf b Tryz.func117 Z<|PK 7 Z<|S Z (Q4 aq d Z Z) Z<|S Z (Q4 aq m Z Z) Z<|bh Z (QV Z Z Z) (fun _=>Z) (OG b (g:=119) (c:=nu) J aq h1 C (fun _ _ _ _ aq=>BZ b _ _ aq)) (fun V aq=>?_);refine PN 4 Z ?_;exact ay Z Z ⟨Z,aq⟩
theorem Ou {G:Cx} (E:Plain G) {K:KP} {m u e1 e2:Nat} {A C:Y} (b:K m (.row [A] e1 false)) (d:K u (.row [C] e2 false)) {l1 l2:List cm} (h1:bI K 2 nh l1 A) (F:bI K 2 nh l2 C):tR Tryz.prog G K (dz nu l1 l2) [.func 117 [] [.ptr m 0,.ptr u 0]]:=⟨117,_,Z,by kernel_rfl,fun V L aq=>P9 E h1 F (fg b) (fg d) aq⟩
theorem rU {G:Cx} (b:Plain G) {K:KP} {l1 l2:List cm} {u A:Y} {V:B} {L:Own} (aq:H V K L) (h1:bI K 2 nh l1 u) (d:bI K 2 nh l2 A):aT Tryz.prog G 86 [u,A] V fun v V'=>v= .int .i64 (gE l1 l2)/\H V' K L:=by
 refine Qf b Tryz.func86 Z<|PK 2 Z<|kp aq Z (cL Z h1.leaf.1) (fun V C aq=>?_);refine kp aq Z (cL Z d.leaf.1) (fun V E aq=>?_);refine OY 5 Z<|S Z (QX Z aq.g1 Z) Z<|S Z (QZ h1 Z Z Z (e:=59) Z) Z<|S Z (QX Z aq.g0 Z) Z<|S Z (QZ d Z Z Z (e:=59) Z) Z<|dJ Z (QV Z Z Z) (fun _=>Z) (gx b _ _ aq) ?_;rintro _ V ⟨F,I,rfl,aq⟩;refine vQ 1 Z<|jY aq Z (cM (e:=115) (m:=1) (z:=[.nilFunc]) (cs:=[.func 113 [] [.ptr F 0,.ptr I 0],.func 117 [] [.ptr C 0,.ptr E 0]]) J J J J (by rfl)) (fun _=>Z) (fun V b5 aq=>?_);have hq:=aq.keeps (M:=[_,_,_,_,_]);refine bh Z (QV Z Z Z) (fun _=>Z) (my<|pw b hq<|eG.slice (eG.cons (qa b (KP.bS 2 Z)<|KP.bS 1 Z)<|eG.cons (Ou b (KP.bS 4 Z) (KP.bS 3 Z) (h1.mono (KP.dQ _ _) fun _ _ h=>h)<|d.mono (KP.dQ _ _) fun _ _ h=>h) eG.nil) (KP.bS 0 Z) Z (nR_ _) (by decide)) (fun V aq=>?_);clear hq;refine PN 4 Z ?_;exact ay Z Z ⟨Z,aq⟩
theorem P4 {G:Cx} (b:Plain G) {K:KP} {g1 F:XG} {I M Q R T U W X:Y} (h1:dC K g1 I M Q R) (h2:dC K F T U W X) {p q:Y} (d:cX K p [I,M,Q,R]) (m:cX K q [T,U,W,X]) {V:B} {L:Own} (aq:H V K L):aT Tryz.prog G 79 [p,q] V fun v V'=>v= .int .i64 (dz gF g1.threads F.threads)/\H V' K L:=by
 have h1':=h1;obtain⟨aa,u,ab,ac⟩:=h1';have h2':=h2;obtain⟨ak,A,am,an⟩:=h2';refine Qf b Tryz.func79 Z<|PK 7 Z<|eB d Z Z Z (k:=1) J (lb Z) (fun _=>Z) (fun p3 C=>?_);refine S Z (Q4 aq C Z Z) Z<|eB m Z Z Z (k:=1) J (lb Z) (fun _=>Z) (fun p5 E=>?_);refine S Z (Q4 aq E Z Z) Z<|bh Z (QV Z Z Z) (fun _=>Z) (LW b (g:=81) (c:=gF) J aq u A (fun _ _ _ _ _ _ aq hx hy=>z6 b aq hx hy)) (fun V aq=>?_);refine PN 4 Z ?_;exact ay Z Z ⟨Z,aq⟩
theorem Om {G:Cx} (U:Plain G) {K:KP} {m u e1 e2:Nat} {g1 A:XG} {C E F I M Q R T:Y} (b:K m (.row [C,E,F,I] e1 false)) (d:K u (.row [M,Q,R,T] e2 false)) (h1:dC K g1 C E F I) (W:dC K A M Q R T):tR Tryz.prog G K (dz gF g1.threads A.threads) [.func 79 [] [.ptr m 0,.ptr u 0]]:=⟨79,_,Z,by kernel_rfl,fun V L aq=>P4 U h1 W (fg b) (fg d) aq⟩
theorem P5 {G:Cx} (b:Plain G) {K:KP} {g1 F:XG} {I M Q R T U W X:Y} (h1:dC K g1 I M Q R) (h2:dC K F T U W X) {p q:Y} (d:cX K p [I,M,Q,R]) (m:cX K q [T,U,W,X]) {V:B} {L:Own} (aq:H V K L):aT Tryz.prog G 82 [p,q] V fun v V'=>v= .int .i64 (dz (dz mU) g1.threads F.threads)/\H V' K L:=by
 have h1':=h1;obtain⟨aa,u,ab,ac⟩:=h1';have h2':=h2;obtain⟨ak,A,am,an⟩:=h2';refine Qf b Tryz.func82 Z<|PK 7 Z<|eB d Z Z Z (k:=1) J (lb Z) (fun _=>Z) (fun p3 C=>?_);refine S Z (Q4 aq C Z Z) Z<|eB m Z Z Z (k:=1) J (lb Z) (fun _=>Z) (fun p5 E=>?_);refine S Z (Q4 aq E Z Z) Z<|bh Z (QV Z Z Z) (fun _=>Z) (LW b (g:=83) (c:=dz mU) J aq u A (fun _ _ _ _ _ _ aq hx hy=>tX b aq hx hy)) (fun V aq=>?_);refine PN 4 Z ?_;exact ay Z Z ⟨Z,aq⟩
theorem On {G:Cx} (U:Plain G) {K:KP} {m u e1 e2:Nat} {g1 A:XG} {C E F I M Q R T:Y} (b:K m (.row [C,E,F,I] e1 false)) (d:K u (.row [M,Q,R,T] e2 false)) (h1:dC K g1 C E F I) (W:dC K A M Q R T):tR Tryz.prog G K (dz (dz mU) g1.threads A.threads) [.func 82 [] [.ptr m 0,.ptr u 0]]:=⟨82,_,Z,by kernel_rfl,fun V L aq=>P5 U h1 W (fg b) (fg d) aq⟩
theorem P6 {G:Cx} (b:Plain G) {K:KP} {g1 F:XG} {I M Q R T U W X:Y} (h1:dC K g1 I M Q R) (h2:dC K F T U W X) {p q:Y} (d:cX K p [I,M,Q,R]) (m:cX K q [T,U,W,X]) {V:B} {L:Own} (aq:H V K L):aT Tryz.prog G 84 [p,q] V fun v V'=>v= .int .i64 (dz gE g1.from_ F.from_)/\H V' K L:=by
 have h1':=h1;obtain⟨aa,ab,u,ac⟩:=h1';have h2':=h2;obtain⟨ak,am,A,an⟩:=h2';refine Qf b Tryz.func84 Z<|PK 7 Z<|eB d Z Z Z (k:=2) J (lb Z) (fun _=>Z) (fun p3 C=>?_);refine S Z (Q4 aq C Z Z) Z<|eB m Z Z Z (k:=2) J (lb Z) (fun _=>Z) (fun p5 E=>?_);refine S Z (Q4 aq E Z Z) Z<|bh Z (QV Z Z Z) (fun _=>Z) (LX b (g:=86) (c:=gE) J aq u A (fun _ _ _ _ _ _ aq hx hy=>rU b aq hx hy)) (fun V aq=>?_);refine PN 4 Z ?_;exact ay Z Z ⟨Z,aq⟩
theorem Oo {G:Cx} (U:Plain G) {K:KP} {m u e1 e2:Nat} {g1 A:XG} {C E F I M Q R T:Y} (b:K m (.row [C,E,F,I] e1 false)) (d:K u (.row [M,Q,R,T] e2 false)) (h1:dC K g1 C E F I) (W:dC K A M Q R T):tR Tryz.prog G K (dz gE g1.from_ A.from_) [.func 84 [] [.ptr m 0,.ptr u 0]]:=⟨84,_,Z,by kernel_rfl,fun V L aq=>P6 U h1 W (fg b) (fg d) aq⟩
theorem P7 {G:Cx} (b:Plain G) {K:KP} {g1 F:XG} {I M Q R T U W X:Y} (h1:dC K g1 I M Q R) (h2:dC K F T U W X) {p q:Y} (d:cX K p [I,M,Q,R]) (m:cX K q [T,U,W,X]) {V:B} {L:Own} (aq:H V K L):aT Tryz.prog G 87 [p,q] V fun v V'=>v= .int .i64 (dz gE g1.order F.order)/\H V' K L:=by
 have h1':=h1;obtain⟨aa,ab,ac,u⟩:=h1';have h2':=h2;obtain⟨ak,am,an,A⟩:=h2';refine Qf b Tryz.func87 Z<|PK 7 Z<|eB d Z Z Z (k:=3) J (lb Z) (fun _=>Z) (fun p3 C=>?_);refine S Z (Q4 aq C Z Z) Z<|eB m Z Z Z (k:=3) J (lb Z) (fun _=>Z) (fun p5 E=>?_);refine S Z (Q4 aq E Z Z) Z<|bh Z (QV Z Z Z) (fun _=>Z) (LX b (g:=86) (c:=gE) J aq u A (fun _ _ _ _ _ _ aq hx hy=>rU b aq hx hy)) (fun V aq=>?_);refine PN 4 Z ?_;exact ay Z Z ⟨Z,aq⟩
theorem Oq {G:Cx} (U:Plain G) {K:KP} {m u e1 e2:Nat} {g1 A:XG} {C E F I M Q R T:Y} (b:K m (.row [C,E,F,I] e1 false)) (d:K u (.row [M,Q,R,T] e2 false)) (h1:dC K g1 C E F I) (W:dC K A M Q R T):tR Tryz.prog G K (dz gE g1.order A.order) [.func 87 [] [.ptr m 0,.ptr u 0]]:=⟨87,_,Z,by kernel_rfl,fun V L aq=>P7 U h1 W (fg b) (fg d) aq⟩
theorem P8 {G:Cx} (E:Plain G) {K:KP} {g1 F:XG} {I M Q R T U W X:Y} (h1:dC K g1 I M Q R) (h2:dC K F T U W X) {p q:Y} (b:cX K p [I,M,Q,R]) (d:cX K q [T,U,W,X]) {V:B} {L:Own} (aq:H V K L):aT Tryz.prog G 88 [p,q] V fun v V'=>v= .int .i64 (dz eh g1.init F.init)/\H V' K L:=by
 have h1':=h1;obtain⟨m,aa,ab,ac⟩:=h1';have h2':=h2;obtain⟨u,ak,am,an⟩:=h2';refine Qf E Tryz.func88 Z<|PK 7 Z<|eB b Z Z Z (k:=0) J (lb Z) (fun _=>Z) (fun p3 A=>?_);refine S Z (Q4 aq A Z Z) Z<|eB d Z Z Z (k:=0) J (lb Z) (fun _=>Z) (fun p5 C=>?_);refine S Z (Q4 aq C Z Z) Z<|bh Z (QV Z Z Z) (fun _=>Z) (KW E aq m u) (fun V aq=>?_);refine PN 4 Z ?_;exact ay Z Z ⟨Z,aq⟩
theorem Ot {G:Cx} (U:Plain G) {K:KP} {m u e1 e2:Nat} {g1 A:XG} {C E F I M Q R T:Y} (b:K m (.row [C,E,F,I] e1 false)) (d:K u (.row [M,Q,R,T] e2 false)) (h1:dC K g1 C E F I) (W:dC K A M Q R T):tR Tryz.prog G K (dz eh g1.init A.init) [.func 88 [] [.ptr m 0,.ptr u 0]]:=⟨88,_,Z,by kernel_rfl,fun V L aq=>P8 U h1 W (fg b) (fg d) aq⟩
theorem pk {G:Cx} (b:Plain G) {K:KP} {g1 X:XG} {a1 A c1 d1 a2 C c2 d2:Y} (h1:dC K g1 a1 A c1 d1) (I:dC K X a2 C c2 d2) {V:B} {L:Own} (aq:H V K L):aT Tryz.prog G 49 [.agg [a1,A,c1,d1],.agg [a2,C,c2,d2]] V fun v V'=>v= .int .i64 (dD g1 X)/\H V' K L:=by
 have h1':=h1;obtain⟨d,T,Q,E⟩:=h1';have h2':=I;obtain⟨u,U,R,F⟩:=h2';refine Qf b Tryz.func49 Z<|PK 2 Z<|kp aq Z (cL Z Z) (fun V A aq=>?_);refine kp aq Z (cL Z Z) (fun V C aq=>?_);refine PM 3 Z (ai (aX (l:=[(0,[]),(1,[]),(2,[]),(3,[]),(4,[]),(5,[]),(7,[]),(8,[]),(9,[]),(10,[]),(11,[]),(12,[]),(13,[]),(14,[]),(16,[]),(17,[]),(18,[]),(19,[]),(20,[]),(21,[]),(22,[]),(24,[]),(25,[]),(26,[]),(27,[]),(28,[]),(29,[]),(30,[]),(32,[]),(6,[10,13,18,21,26,29]),(15,[18,21,26,29]),(23,[26,29]),(31,[]),(33,[]),(34,[]),(35,[])]) J J<|Qo aq 2 [1,1] Z Z<|al Z Z (QZ T Z Z Z (e:=64) Z) Z<|Qo aq 2 [1,0] Z Z<|al Z Z (QZ U Z Z Z (e:=64) Z) Z<|Qo aq 4 [2,1] Z Z<|al Z Z (QZ Q Z Z Z (e:=57) Z) Z<|Qo aq 2 [2,0] Z Z<|al Z Z (QZ R Z Z Z (e:=57) Z) Z<|Qo aq 3 [3,1] Z Z<|al Z Z (QZ E Z Z Z (e:=57) Z) Z<|Qo aq 2 [3,0] Z Z ?_));refine al Z Z (QZ F Z Z Z (e:=57) Z) Z<|Qo aq 3 [0,1] Z Z<|al Z Z (QZ d Z Z Z (e:=2) Z) Z<|Qo aq 2 [0,0] Z Z<|al Z Z (QZ u Z Z Z (e:=2) Z) Z<|wQ 1 Z<|fl Z Z (QV Z Z Z) (fun _=>Z) (gx b _ _ aq) ?_;rintro _ V ⟨b3,b4,rfl,aq⟩;refine⟨(aV (a7 Z Z Z Z Z (QX Z (aq.get 3 Z) Z) Q.dH)<|aV (a7 Z Z Z Z Z (QX Z (aq.get 2 Z) Z) R.dH)<|aV (a7 Z Z Z Z Z (QX Z (aq.get 3 Z) Z) E.dH)<|aV (a7 Z Z Z Z Z (QX Z (aq.get 2 Z) Z) F.dH)<|aV (a7 Z Z Z Z Z (QX Z (aq.get 3 Z) Z) d.dH)<|aV (a7 Z Z Z Z Z (QX Z (aq.get 2 Z) Z) u.dH) bq),?_⟩;refine fl Z Z (QV Z Z Z) (fun _=>Z) (gx b _ _ aq) ?_;rintro _ V ⟨b5,b6,rfl,aq⟩;refine⟨(aV (a7 Z Z Z Z Z (QX Z (aq.get 5 Z) Z) E.dH)<|aV (a7 Z Z Z Z Z (QX Z (aq.get 4 Z) Z) F.dH)<|aV (a7 Z Z Z Z Z (QX Z (aq.get 5 Z) Z) d.dH)<|aV (a7 Z Z Z Z Z (QX Z (aq.get 4 Z) Z) u.dH) bq),?_⟩;refine fl Z Z (QV Z Z Z) (fun _=>Z) (gx b _ _ aq) ?_;rintro _ V ⟨b7,b8,rfl,aq⟩;refine⟨(aV (a7 Z Z Z Z Z (QX Z (aq.get 7 Z) Z) d.dH)<|aV (a7 Z Z Z Z Z (QX Z (aq.get 6 Z) Z) u.dH) bq),?_⟩;refine fl Z Z (QV Z Z Z) (fun _=>Z) (gx b _ _ aq) ?_;rintro _ V ⟨b9,W,rfl,aq⟩;refine⟨bq,?_⟩;refine tT aq Z Z (cM (e:=115) (m:=1) (z:=[.nilFunc]) (cs:=[.func 113 [] [.ptr b3 0,.ptr b4 0],.func 79 [] [.ptr A 0,.ptr C 0],.func 82 [] [.ptr A 0,.ptr C 0],.func 113 [] [.ptr b5 0,.ptr b6 0],.func 84 [] [.ptr A 0,.ptr C 0],.func 113 [] [.ptr b7 0,.ptr b8 0],.func 87 [] [.ptr A 0,.ptr C 0],.func 113 [] [.ptr b9 0,.ptr W 0],.func 88 [] [.ptr A 0,.ptr C 0]]) J J J J (by rfl)) (fun _=>Z) (fun V aa aq=>?_);have hq:=aq.keeps (M:=[_,_,_,_,_,_,_,_,_,_,_])
 refine fe Z Z (QV Z Z Z) (fun _=>Z) (my<|pw b hq<|eG.slice (eG.cons (qa b (KP.bS 8 Z)<|KP.bS 7 Z)<|eG.cons (Om b (KP.bS 10 Z) (KP.bS 9 Z) (h1.mono<|KP.dQ _ _)<|I.mono<|KP.dQ _ _)<|eG.cons (On b (KP.bS 10 Z) (KP.bS 9 Z) (h1.mono<|KP.dQ _ _)<|I.mono<|KP.dQ _ _)<|eG.cons (qa b (KP.bS 6 Z)<|KP.bS 5 Z)<|eG.cons (Oo b (KP.bS 10 Z) (KP.bS 9 Z) (h1.mono<|KP.dQ _ _)<|I.mono<|KP.dQ _ _)<|eG.cons (qa b (KP.bS 4 Z)<|KP.bS 3 Z)<|eG.cons (Oq b (KP.bS 10 Z) (KP.bS 9 Z) (h1.mono<|KP.dQ _ _)<|I.mono<|KP.dQ _ _)<|eG.cons (qa b (KP.bS 2 Z)<|KP.bS 1 Z)<|eG.cons (Ot b (KP.bS 10 Z) (KP.bS 9 Z) (h1.mono<|KP.dQ _ _)<|I.mono<|KP.dQ _ _) eG.nil) (KP.bS 0 Z) Z (nR_ _) (by decide)) (fun V aq=>?_);clear hq;refine⟨bq,?_⟩;refine PQ 3 Z<|aD ?_;exact ay Z Z ⟨Z,aq⟩
theorem ll:∀n:Nat,dK [.aB,.aB,.aB,.aB] n=List.replicate (n*4) .aB
 | 0=>rfl
 | n+1=>by
  show [.aB,.aB,.aB,.aB]++dK [.aB,.aB,.aB,.aB] n=_;rw[ll n,Nat.add_mul,Nat.one_mul,Nat.add_comm,<-List.replicate_append_replicate];rfl
theorem s7:∀n:Nat,bJ (List.replicate n .aB)=true
 | 0=>rfl
 | n+1=>ar Z (s7 n)
theorem w2 {α:Type} {c:α->α->Int} {l:List α} (h:l.length<2):cC c l=l:=by
 match l,h with
 | [],_=>rfl
 | [x],_=>rfl
 | _::_::_,h=>simp at h;omega
theorem dh {α:Type} {l:List α} {i:Nat} {x:α} (h:l[i]? =some x):l.take (i+1)=l.take i++[x]:=by rw[List.take_add_one,h];rfl
theorem Fo {G:Cx} (I:Plain G) {K:KP} {g1 M:XG} {m b u A C d E F:Y} (h1:dC K g1 m b u A) (Q:dC K M C d E F) {V:B} {L:Own} (aq:H V K L):
  aT Tryz.prog G 48 [.agg [m,b,u,A],.agg [C,d,E,F]] V fun v V'=>v= .bool (bD (dD g1 M) 0)/\H V' K L:=by
 refine aW I Tryz.func48 Z (t:=(D.leaf.put (some (.agg [m,b,u,A])) 0).put (some (.agg [C,d,E,F])) 1) (by rfl) ?_;refine ai ?_;refine ah Z ?_;refine bH aq Z (cL Z Z) (fun _=>Z) (fun V b aq=>?_);refine bH aq Z (cL Z Z) (fun _=>Z) (fun V d aq=>?_);refine S Z (aj Z) Z ?_;refine af ?_;refine ad ?_;refine ai ?_;refine ah Z ?_;refine S Z (bA Z (aq.get 1 Z) (n:=4) (vs:=[_,_,_,_]) J (Nat.le_of_ble_eq_true Z) Z) Z ?_;refine S Z (bA Z (aq.get 0 Z) (n:=4) (vs:=[_,_,_,_]) J (Nat.le_of_ble_eq_true Z) Z) Z ?_;refine bh Z (aR Z Z Z J) (fun _=>Z) (pk I h1 Q aq) (fun V aq=>?_);refine S Z (aA Z Z Z) Z ?_;refine S Z (aj Z) Z ?_;refine af ?_;refine ad ?_;refine aD ?_;exact ay Z Z ⟨Z,aq.pop.pop⟩
theorem GK {G:Cx} (hG:Plain G) {K:KP} {ls:List XG} {cells:List Y} (hr:mZ K ls cells) (hn:ls.length<=1048576) {b e:Nat} {c:nj} (hc:c= .known ls.length∨c= .upto 4) {V:B} {L:Own} (aq:H V K ((b,.row cells e false)::L)):
  aT Tryz.prog G 51 [.slice b 0 ls.length c,.func 48 [] []] V fun v V'=>∃c' cells' ts,v= .slice b 0 (cC dD ls).length c'/\D6 4 (cC dD ls).length c'/\mZ K (cC dD ls++ts) cells'/\(cC dD ls++ts).length<=1048576/\H V' K ((b,.row cells' e false)::L):=by
 have F:∀k,k<=ls.length->D6 4 k c:=fun k hk=>hc.elim (fun h=>.inr ⟨_,h,hk⟩) .inl
 refine aW hG Tryz.func51 Z (t:=(D.leaf.put (some (.slice b 0 ls.length c)) 0).put (some (.func 48 [] [])) 1) (by rfl) ?_;refine ai ?_;refine ah Z ?_;refine S Z (aj Z) Z ?_;refine af ?_;refine ad ?_;refine ai ?_;refine ai ?_;refine ah Z ?_;refine S Z (N Z) Z ?_;refine S Z (Fp Z Z Z (e:=27) J Z) Z ?_;refine S Z (aA Z Z Z) Z ?_;refine af ?_;refine ad ?_;refine aC Z (fun Q=>?_) (fun Q=>?_)
 ·refine ai ?_;refine ah Z ?_;refine S Z (N Z) Z ?_;refine S Z (aj Z) Z ?_;refine af ?_;refine ad ?_;refine aD ?_;refine az (?_);have R:cC dD ls=ls:=w2 (by have:=aU (b:=2) Q;omega);exact ay Z Z ⟨c,cells,[],by rw[R],F _ (by rw[R];exact nR_ _),by rw[R,List.append_nil];exact hr,by rw[R,List.append_nil];exact hn,aq⟩
 refine aG ?_;refine ad ?_;refine ai ?_;refine ai ?_;refine ah Z ?_;refine S Z (aj Z) Z ?_;refine af ?_;refine ad ?_;refine aJ ?_;refine ba [4,5,6,7,12,13,14,15,16,17,18,19,20,21,22,23,24,25,26,27,28,29,30,31,32,33,34,35,36,37,38,39,40,41,42,43,44,45,46,47,48,49,50,51,52,53,54,55,56,57,58,59,60,61,62,63,64] (fun j t V=>∃(k:Nat),(j+(k+1)=ls.length/\cC dD (ls.take (k+1))=ls.take (k+1))/\t.get 5=some (.int .i64 (.ofNat (k+1)))/\H V K ((b,.row cells e false)::L)) (ls.length-1) ⟨0,⟨by have:=bx (b:=2) Q;omega,yY<|bx (b:=2) Q⟩,Z,aq⟩ ?_;clear aq;intro j4 t V an hI;obtain⟨k,⟨c7,u⟩,C,aq⟩:=hI;replace an:=an.bR Z Z;obtain⟨o4,o5,o6,o7,c8,c9,dd,df,an⟩:=an;replace an:=an.bR Z Z;obtain⟨dk,dl,dm,dr,ds,dx,dA,d0,an⟩:=an;replace an:=an.bR Z Z;obtain⟨d6,d7,d8,d9,ee,eg,el,em,an⟩:=an;replace an:=an.bR Z Z;obtain⟨ao,ap,au,av,aE,a0,a9,bb,an⟩:=an;replace an:=an.bR Z Z;obtain⟨bd,be,bi,bk,bl,bm,bo,bs,an⟩:=an;replace an:=an.bR Z Z;obtain⟨bt,bv,bw,bX,b0,b6,b7,b8,an⟩:=an;replace an:=an.bR Z Z;obtain⟨b9,ca,cb,en,eo,er,es,et,an⟩:=an;replace an:=an.eb Z;obtain⟨ev,an⟩:=an;obtain rfl:=an.nil;clear an;replace C:o5=some _:=C;subst C;refine ai ?_;refine ai ?_;refine ah Z ?_;refine S Z (N Z) Z ?_;refine S Z (N Z) Z ?_;refine S Z (Fp Z Z Z (e:=27) J Z) Z ?_;refine S Z (aA Z Z Z) Z ?_;refine af ?_;refine ad ?_;refine aC Z (fun T=>?_) (fun T=>?_)
 ·refine aG ?_;refine ad ?_;refine ai ?_;refine aJ ?_;refine ai ?_;refine aX (l:=[(0,[]),(1,[]),(2,[]),(3,[]),(4,[]),(5,[]),(6,[]),(7,[]),(8,[]),(9,[]),(10,[])]) J J ?_;have W:k+1<ls.length:=aU T;obtain⟨x,hx⟩:=cF W;obtain⟨y,hy⟩:=cF (show k<ls.length by omega);have hs:=q8 (c:=dD) hy hx;refine al Z Z (N Z) Z ?_;refine al Z Z (N Z) Z ?_;refine al Z Z (N Z) Z ?_;refine al Z Z (lz (e:=27) (m:=4) J J Z Z W) Z ?_;obtain⟨a1,b1,c1,d1,cc,ce,ch⟩:=hr.rd hx (off:=0+(k+1)*4) oM;refine al Z Z (bA Z (aq.get 0 Z) (n:=4) J ch cc) Z ?_;refine al Z Z (N Z) Z ?_;refine al Z Z (N Z) Z ?_;refine al Z Z (aA (v:=.int .i64 (.ofNat k)) Z Z<|congrArg (fun z=>some (Y.int .i64 z))<|gy oM) Z ?_;refine al Z Z (lz (e:=27) (m:=4) J J Z Z (show k<ls.length by omega)) Z ?_;obtain⟨a2,b2,c2,d2,ci,ck,cn⟩:=hr.rd hy (off:=0+k*4) oM;refine al Z Z (bA Z (aq.get 0 Z) (n:=4) J cn ci) Z ?_;refine fe Z Z (aR Z Z Z J) (fun _=>Z) (Fo hG ce ck aq) (fun V aq=>?_);refine⟨bq,?_⟩;refine bj ?_;refine ad ?_;refine aC Z (fun I=>?_) (fun I=>?_)
  ·refine ai ?_;refine ah Z ?_;refine S Z (N Z) Z ?_;refine S Z (N Z) Z ?_;refine Is Z Z (e:=27) (sz:=4) (k:=k+1) J J hc Z Z W (fun _=>Z) fun c2=>?_
   refine S Z (aj Z) Z ?_;refine af ?_;refine ad ?_;refine ai ?_;refine ai ?_;refine ah Z ?_;refine S Z (aj Z) Z ?_;refine af ?_;refine ad ?_;refine aJ ?_;refine ba [5,7,32,33,34,35,36,37,38,39,40,41,42,43,44,45,46,47,48,49,50,51,52,53,54,55,56,57,58] (fun j t V=>∃(d:Nat) (cells2:List Y),(j+(d+1)=ls.length-(k+1)/\(cC dD<|ls.take (k+1+(d+1))).length<=k+1+d/\mZ K ((cC dD<|ls.take (k+1+(d+1)))++ls.drop (cC dD<|ls.take (k+1+(d+1))).length) cells2)/\t.get 5=some (.int .i64 (.ofNat (cC dD<|ls.take (k+1+(d+1))).length))/\t.get 7=some (.int .i64 (.ofNat (d+1)))/\H V K ((b,.row cells2 e false)::L)) (ls.length-(k+1)-1) ⟨0,cells,⟨by omega,(by rw[show k+1+(0+1)=k+2 from Z,hs,u,if_pos<|mz I,List.append_nil,lT_,Nat.min_eq_left oM];omega),by rw[show k+1+(0+1)=k+2 from Z,hs,u,if_pos<|mz I,List.append_nil,lT_,Nat.min_eq_left oM,List.take_append_drop];exact hr⟩,(by rw[show k+1+(0+1)=k+2 from Z,hs,u,if_pos<|mz I,List.append_nil,lT_,Nat.min_eq_left oM];rfl),Z,aq⟩ ?_;clear aq;intro j9 t V an hI;obtain⟨d,cells2,⟨ex,ab,E⟩,C,X,aq⟩:=hI;replace an:=an.bR Z Z;obtain⟨o5,o7,ao,ap,au,av,aE,a0,an⟩:=an;replace an:=an.bR Z Z;obtain⟨a9,bb,bd,be,bi,bk,bl,bm,an⟩:=an;replace an:=an.bR Z Z;obtain⟨bo,bs,bt,bv,bw,bX,b0,b6,an⟩:=an;replace an:=an.r4 Z;obtain⟨b7,b8,b9,ca,an⟩:=an;replace an:=an.eb Z;obtain⟨cb,an⟩:=an;obtain rfl:=an.nil;clear an;replace C:o5=some _:=C;subst C;replace X:o7=some _:=X;subst X;refine ai ?_;refine ai ?_;refine ah Z ?_;refine S Z (N Z) Z ?_;refine S Z (N Z) Z ?_;refine S Z (Fp Z Z Z (e:=27) J Z) Z ?_;refine S Z (aA Z Z Z) Z ?_;refine af ?_;refine ad ?_;refine aC Z (fun M=>?_) (fun M=>?_)
   ·refine aG ?_;refine ad ?_;refine ai ?_;refine aJ ?_;refine ai ?_;refine aX (l:=[(0,[]),(1,[]),(2,[]),(3,[]),(4,[]),(5,[]),(6,[]),(7,[]),(8,[]),(9,[]),(10,[]),(11,[])]) J J ?_;have U:d+1<ls.length-(k+1):=aU M;obtain⟨x,hx⟩:=cF (show k+1+d+1<ls.length by omega);obtain⟨y,hy⟩:=cF (show k+1+d<ls.length by omega);have hs:(cC dD<|ls.take (k+1+(d+1+1)))=(cC dD<|ls.take (k+1+(d+1)))++(if dD x y=0 then [] else [x]):=q8 hy hx;refine al Z Z (N Z) Z ?_;refine al Z Z (N Z) Z ?_;refine al Z Z (N Z) Z ?_;refine al Z Z (lz (e:=27) (m:=4) J J Z Z U) Z ?_;obtain⟨a3,b3,c3,d3,cp,cr,cs⟩:=E.rd (yN (A:=(cC dD<|ls.take (k+1+(d+1)))) hx oM) (off:=0+(k+1)*4+(d+1)*4) oM;refine al Z Z (bA Z (aq.get 0 Z) (n:=4) J cs cp) Z ?_;refine al Z Z (N Z) Z ?_;refine al Z Z (N Z) Z ?_;refine al Z Z (aA (v:=.int .i64 (.ofNat d)) Z Z<|congrArg (fun z=>some (Y.int .i64 z))<|gy oM) Z ?_;refine al Z Z (lz (e:=27) (m:=4) J J Z Z (show d<ls.length-(k+1) by omega)) Z ?_;obtain⟨a4,b4,c4,d4,cv,cw,cx⟩:=E.rd (yN (A:=(cC dD<|ls.take (k+1+(d+1)))) hy oM) (off:=0+(k+1)*4+d*4) oM;refine al Z Z (bA Z (aq.get 0 Z) (n:=4) J cx cv) Z ?_;refine fe Z Z (aR Z Z Z J) (fun _=>Z) (Fo hG cr cw aq) (fun V aq=>?_);refine⟨bq,?_⟩;refine al Z Z (dX Z) Z ?_;refine bj ?_;refine ad ?_;refine aC Z (fun aa=>?_) (fun aa=>?_)
    ·have hA3:(cC dD<|ls.take (k+1+(d+1+1)))=(cC dD<|ls.take (k+1+(d+1)))++[x]:=by rw[hs,if_neg<|mA<|cd aa]
     refine ai ?_;refine ah Z ?_;refine S Z (N Z) Z ?_;refine S Z (N Z) Z ?_;refine S Z (N Z) Z ?_;refine S Z (N Z) Z ?_;refine S Z (lz (e:=27) (m:=4) J J Z Z U) Z ?_;obtain⟨a5,b5,c5,d5,C,ac,c0⟩:=E.rd (yN (A:=(cC dD<|ls.take (k+1+(d+1)))) hx oM) (off:=0+(k+1)*4+(d+1)*4) oM;refine S Z (bA Z (aq.get 0 Z) (n:=4) J c0 C) Z ?_;refine S Z (lz (e:=27) (m:=4) J J Z Z (show(cC dD<|ls.take (k+1+(d+1))).length<ls.length by omega)) Z ?_;refine ja aq .here Z (ou Z Z Z (aq.get 0 Z) (m:=4) J Z (by have:=E.len;rw[y6 oM] at this;omega)<|RG.leaf _ _ ⟨_,_,_,_,Z,ac⟩) Z (fun V aq=>?_);have hr3:=E.wr (i:=(cC dD<|ls.take (k+1+(d+1))).length) (x:=x) (by rw[y6 oM];omega) ac (off:=0+(cC dD<|ls.take (k+1+(d+1))).length*4) oM;rw[IJ oM,<-hA3] at hr3;refine af ?_;refine ad ?_;refine ah Z ?_;refine S Z (N Z) Z ?_;refine S Z (aA (v:=.int .i64 (.ofNat ((cC dD<|ls.take (k+1+(d+1))).length+1))) Z Z<|congrArg (fun z=>some (Y.int .i64 z))<|aZ oM) Z ?_;refine S Z (aj Z) Z ?_;refine af ?_;refine aH ?_;refine ad ?_;refine ah Z ?_;refine S Z (N Z) Z ?_;refine S Z (aA (v:=.int .i64 (.ofNat ((d+1)+1))) Z Z<|congrArg (fun z=>some (Y.int .i64 z))<|aZ oM) Z ?_;refine S Z (aj Z) Z ?_;refine af ?_;refine aL ⟨j9-1,(by have:=aU M;omega),(by(iterate 58 refine a8.put Z ?_);exact a8.refl _ _),d+1,_,⟨by omega,by rw[hA3,lA_,List.length_singleton];omega,hr3⟩,(by rw[hA3,lA_];rfl),Z,aq⟩
    have hA3:(cC dD<|ls.take (k+1+(d+1+1)))=(cC dD<|ls.take (k+1+(d+1))):=by rw[hs,if_pos<|mz<|bF aa,List.append_nil]
    have hr3:mZ K ((cC dD<|ls.take (k+1+(d+1+1)))++ls.drop (cC dD<|ls.take (k+1+(d+1+1))).length) cells2:=by rw[hA3];exact E
    refine aG ?_;refine aH ?_;refine ad ?_;refine ah Z ?_;refine S Z (N Z) Z ?_;refine S Z (aA (v:=.int .i64 (.ofNat ((d+1)+1))) Z Z<|congrArg (fun z=>some (Y.int .i64 z))<|aZ oM) Z ?_;refine S Z (aj Z) Z ?_;refine af ?_;refine aL ⟨j9-1,(by have:=aU M;omega),(by(iterate 48 refine a8.put Z ?_);exact a8.refl _ _),d+1,_,⟨by omega,by rw[hA3];omega,hr3⟩,(by rw[hA3];rfl),Z,aq⟩
   refine bc ?_;refine aP ?_;refine aQ ?_;refine aN ?_;refine ad ?_;refine ai ?_;refine ah Z ?_;refine S Z (N Z) Z ?_;refine S Z (N Z) Z ?_;refine Is Z Z (e:=27) (sz:=4) (k:=(cC dD<|ls.take (k+1+(d+1))).length) J J hc Z Z oM (fun _=>Z) fun c3=>?_
   have hcl:=y6 (A:=(cC dD<|ls.take (k+1+(d+1)))) (l:=ls) oM;have hl2:=E.len;rw[hcl] at hl2;refine Mz aq .here Z (Ll (zs:=[.aB,.aB,.aB,.aB]) (z:=.agg [.aB,.aB,.aB,.aB]) Z Z Z (e:=27) J J Z Z oM (aq.get 0 Z) (by rw[ll];exact s7 _) (Nat.le_of_ble_eq_true Z) (by rw[ll,List.length_replicate];omega)) Z (fun V aq=>?_);have hr4:=E.QC (k:=(cC dD<|ls.take (k+1+(d+1))).length) (by rw[hcl];omega) (off:=0+(cC dD<|ls.take (k+1+(d+1))).length*4) oM (zs:=dK [.aB,.aB,.aB,.aB] (ls.length-(cC dD<|ls.take (k+1+(d+1))).length)) (by rw[ll,hcl]);rw[Jf,hcl] at hr4;refine af ?_;refine ad ?_;refine ai ?_;refine ah Z ?_;refine S Z (N Z) Z ?_;refine S Z (N Z) Z ?_;have ak:ls.take (k+1+(d+1))=ls:=tL_ (by have:=bx M;omega);refine S Z (Qa (e:=27) (sz:=4) J J hc Z Z oM oM) Z ?_;refine S Z (aj Z) Z ?_;refine af ?_;refine ad ?_;refine aD ?_;refine aK<|az<|bp<|aK<|az (?_);rw[ak] at hr4 ab aq⊢;exact ay Z Z ⟨c,_,_,Z,F _<|nz ls,hr4,by rw[lA_,List.length_replicate];have:=nz (c:=dD) ls;omega,aq⟩
  refine aG ?_;refine aH ?_;refine ad ?_;refine ah Z ?_;refine S Z (N Z) Z ?_;refine S Z (aA (v:=.int .i64 (.ofNat ((k+1)+1))) Z Z<|congrArg (fun z=>some (Y.int .i64 z))<|aZ oM) Z ?_;refine S Z (aj Z) Z ?_;refine af ?_;refine aL ⟨j4-1,(by have:=aU T;omega),(by(iterate 75 refine a8.put Z ?_);exact a8.refl _ _),k+1,⟨by omega,by rw[show k+1+1=k+2 from Z,hs,u,if_neg<|mA I];exact(dh hx).symm⟩,Z,aq⟩
 refine bc ?_;refine aP ?_;refine aQ ?_;refine aN ?_;refine ad ?_;refine ai ?_;refine ah Z ?_;refine S Z (N Z) Z ?_;refine S Z (aj Z) Z ?_;refine af ?_;refine ad ?_;refine aD ?_;have am:ls.take (k+1)=ls:=tL_ (by have:=bx T;omega);rw[am] at u;exact ay Z Z ⟨c,cells,[],by rw[u],F _ (by rw[u];exact nR_ _),by rw[u,List.append_nil];exact hr,by rw[u,List.append_nil];exact hn,aq⟩
theorem Ia (m:Nat):da (.ofNat m) 0=false:=by rw[eP];simp
theorem Jq (z:Int):wr .u64 z=z%18446744073709551616:=by
 rw[Ce];simp[IntKind.wrap,IntKind.bits,IntKind.signed]
theorem Nf {G:Cx} (b:Plain G) {K:KP} {m:Nat} (hm:m<100) {V:B} {L:Own} (aq:H V K L):aT Tryz.prog G 133 [.int .i64 (.ofNat m),.int .i64 10] V fun v V'=>v= .str (fmtS 10 (.ofNat m))/\H V' K L:=by
 refine aW b Tryz.func133 Z (t:=(D.leaf.put (some (.int .i64 (.ofNat m))) 0).put (some (.int .i64 10)) 1) (by rfl) ?_;refine ai ?_;refine ah Z ?_;refine S Z (aj Z) Z ?_;refine af ?_;refine ad ?_;refine ai ?_;refine ai ?_;refine ah Z ?_;refine S Z (N Z) Z ?_;refine S Z (aA (v:=.bool true) Z Z J) Z ?_;refine af ?_;refine ad ?_;refine bn Z ?_;refine ai ?_;refine ai ?_;refine ah Z ?_;refine S Z (N Z) Z ?_;refine S Z (aA (v:=.bool true) Z Z (by show some (Y.bool (bif da (.ofNat m) 0 then false else true))=_;rw[Ia];rfl)) Z ?_;refine S Z (N Z) Z ?_;refine S Z (N Z) Z ?_;refine S Z (aA (v:=.bool true) Z Z (by show some (Y.bool<|da (.ofNat m) (.ofNat 100))=_;rw[iw,decide_eq_true hm])) Z ?_;refine S Z (aI Z Z) Z ?_;refine af ?_;refine ad ?_;refine bn Z ?_;refine ai ?_;refine ah Z ?_;refine S Z (N Z) Z ?_;refine bh Z (aR Z Z Z J) (fun _=>Z) (Lg b hm aq) (fun V aq=>?_);refine S Z (aj Z) Z ?_;refine af ?_;refine ad ?_;refine aD ?_;refine az<|az (?_);exact ay Z Z ⟨Z,aq⟩
theorem KY {G:Cx} (b:Plain G) {K:KP} {U:Nat} (d:U<2 ^ 64) {V:B} {L:Own} (aq:H V K L):aT Tryz.prog G 133 [.int .i64 (.ofNat U),.int .i64 36] V fun v V'=>v= .str (ss U)/\H V' K L:=by
 refine aW b Tryz.func133 Z (t:=(D.leaf.put (some (.int .i64 (.ofNat U))) 0).put (some (.int .i64 36)) 1) (by rfl) ?_;refine ai ?_;refine ah Z ?_;refine S Z (aj Z) Z ?_;refine af ?_;refine ad ?_;refine ai ?_;refine ai ?_;refine ah Z ?_;refine S Z (N Z) Z ?_;refine S Z (aA (v:=.bool false) Z Z J) Z ?_;refine af ?_;refine ad ?_;refine bf Z ?_;refine aG ?_;refine ad ?_;refine ai ?_;refine ah Z ?_;refine S Z (N Z) Z ?_;refine S Z (Ad (j:=.i64) (k:=.u64) (m:=.ofNat U) J J J Z<|Lj d) Z ?_;refine S Z (N Z) Z ?_;refine S Z (N Z) Z ?_;refine S Z (aA (v:=.bool false) Z Z (by show some (Y.bool<|da (.ofNat U) 0)=_;rw[Ia])) Z ?_;refine bh Z (aR Z Z Z J) (fun _=>Z) (OI b d aq) (fun V aq=>?_);refine S Z (N Z) Z ?_;refine S Z (bK Z Z) Z ?_;refine S Z (bK Z Z) Z ?_;refine S Z (aj Z) Z ?_;refine S Z (aj Z) Z ?_;refine af ?_;refine ad ?_;refine ai ?_;refine ah Z ?_;refine S Z (N Z) Z ?_;refine S Z (aj Z) Z ?_;refine af ?_;refine ad ?_;refine aD ?_;exact ay Z Z ⟨Z,aq⟩
theorem KX {G:Cx} (b:Plain G) {K:KP} {U:Nat} (d:U<2 ^ 64) (h0:0<U) {V:B} {L:Own} (aq:H V K L):aT Tryz.prog G 133 [.int .i64 (-((U:Nat):Int)),.int .i64 36] V fun v V'=>v= .str (45::ss U)/\H V' K L:=by
 refine aW b Tryz.func133 Z (t:=(D.leaf.put (some (.int .i64 (-((U:Nat):Int)))) 0).put (some (.int .i64 36)) 1) (by rfl) ?_;refine ai ?_;refine ah Z ?_;refine S Z (aj Z) Z ?_;refine af ?_;refine ad ?_;refine ai ?_;refine ai ?_;refine ah Z ?_;refine S Z (N Z) Z ?_;refine S Z (aA (v:=.bool false) Z Z J) Z ?_;refine af ?_;refine ad ?_;refine bf Z ?_;refine aG ?_;refine ad ?_;refine ai ?_;refine ah Z ?_;refine S Z (N Z) Z ?_;refine S Z (Jr (j:=.i64) (k:=.u64) J J J Z) Z ?_;refine S Z (N Z) Z ?_;refine S Z (N Z) Z ?_;refine S Z (aA (v:=.bool true) Z Z (by show some (Y.bool (da (-((U:Nat):Int)) 0))=_;rw[eP,decide_eq_true oM])) Z ?_;refine bh Z (aR Z Z Z J) (fun _=>Z) (OH (U:=U) b d (by rw[Jq,Jq];show(0-(-(U:Int))%18446744073709551616)%18446744073709551616=(U:Int);omega) aq) (fun V aq=>?_);refine S Z (N Z) Z ?_;refine S Z (bK Z Z) Z ?_;refine S Z (bK Z Z) Z ?_;refine S Z (aj Z) Z ?_;refine S Z (aj Z) Z ?_;refine af ?_;refine ad ?_;refine ai ?_;refine ah Z ?_;refine S Z (N Z) Z ?_;refine S Z (aj Z) Z ?_;refine af ?_;refine ad ?_;refine aD ?_;exact ay Z Z ⟨Z,aq⟩
theorem Ng {G:Cx} (d:Plain G) {K:KP} {z:Int} (hz:wV z) {V:B} {L:Own} (aq:H V K L):aT Tryz.prog G 133 [.int .i64 z,.int .i64 36] V fun v V'=>v= .str (fmtS 36 z)/\H V' K L:=by
 obtain⟨h1,m⟩:=hz
 by_cases h:z<0
 ·obtain⟨U,b⟩:∃U:Nat,z= -((U:Nat):Int):=⟨z.natAbs,by omega⟩;subst b;rw[HK oM];exact KX d oM oM aq
 obtain⟨U,b⟩:∃U:Nat,z=Int.ofNat U:=⟨z.toNat,by show z=(z.toNat:Int);omega⟩;subst b;rw[vk];exact KY d (by have:((U:Nat):Int)<=9223372036854775807:=m;omega) aq
theorem K9 {G:Cx} (b:Plain G) {K:KP} {m:Nat} (hm:m<100) {V:B} {L:Own} (aq:H V K L):aT Tryz.prog G 132 [.int .i64 (.ofNat m)] V fun v V'=>v= .str (fmtS 10 (.ofNat m))/\H V' K L:=by
 refine aW b Tryz.func132 Z (t:=D.leaf.put (some (.int .i64 (.ofNat m))) 0) (by rfl) ?_;refine ai ?_;refine ah Z ?_;refine S Z (aj Z) Z ?_;refine af ?_;refine ad ?_;refine ai ?_;refine ah Z ?_;refine S Z (N Z) Z ?_;refine bh Z (aR Z Z Z J) (fun _=>Z) (Nf b hm aq) (fun V aq=>?_);refine S Z (aj Z) Z ?_;refine af ?_;refine ad ?_;refine aD ?_;exact ay Z Z ⟨Z,aq⟩
theorem GM {G:Cx} (b:Plain G) {K:KP} {z:Int} (hz:wV z) {V:B} {L:Own} (aq:H V K L):aT Tryz.prog G 97 [.int .i64 z,.int .i64 36] V fun v V'=>v= .str (fmtS 36 z)/\H V' K L:=by
 refine aW b Tryz.func97 Z (t:=(D.leaf.put (some (.int .i64 z)) 0).put (some (.int .i64 36)) 1) (by rfl) ?_;refine ai ?_;refine ah Z ?_;refine S Z (aj Z) Z ?_;refine af ?_;refine ad ?_;refine ai ?_;refine ah Z ?_;refine S Z (N Z) Z ?_;refine S Z (N Z) Z ?_;refine bh Z (aR Z Z Z J) (fun _=>Z) (Ng b hz aq) (fun V aq=>?_);refine S Z (aj Z) Z ?_;refine af ?_;refine ad ?_;refine aD ?_;exact ay Z Z ⟨Z,aq⟩
theorem Nh {G:Cx} (b:Plain G) (d:∀a s,G.w9 94 a s=none) {K:KP} {m:Nat} (hm:m<100) {V:B} {L:Own} (aq:H V K L):aT Tryz.prog G 94 [.int .i64 (.ofNat m)] V fun v V'=>v= .str (fmtS 10 (.ofNat m))/\H V' K L:=by
 refine Ek (d _ _) (b.h2 _ _ Z) (b.h4 _ _ _) (b.h5 _ Z) Tryz.func94 Z (t:=D.leaf.put (some (.int .i64 (.ofNat m))) 0) (by rfl) ?_;refine ai ?_;refine ah Z ?_;refine S Z (aj Z) Z ?_;refine af ?_;refine ad ?_;refine ai ?_;refine ah Z ?_;refine S Z (N Z) Z ?_;refine bh Z (aR Z Z Z J) (fun _=>Z) (K9 b hm aq) (fun V aq=>?_);refine S Z (aj Z) Z ?_;refine af ?_;refine ad ?_;refine aD ?_;exact⟨.inr Z,_,tG Z Z,Z,aq⟩
theorem E5 {x:Int} (h:∃m:Nat,x= .ofNat m/\m<100):wV x:=by
 obtain⟨m,rfl,hm⟩:=h;exact⟨by show(-9223372036854775808:Int)<=(m:Int);omega,by show(m:Int)<=_;omega⟩
theorem xI {b:Nat} (hb:2<=b):∀(k n:Nat),n<b ^ (k+1)->(eM b n).length<=k+1
 | 0,n,h=>by unfold eM;rw[dif_pos (.inl (by simpa using h))];exact nR_ _
 | k+1,n,h=>by
  unfold eM;split
  ·exact Nat.succ_le_succ<|Nat.zero_le _
  rw[lA_];have:=xI hb k (n/b) (Nat.div_lt_of_lt_mul (by rw[Nat.mul_comm,<-Nat.pow_succ];exact h));show(eM b (n/b)).length+1<=_;omega
theorem oK (b:Nat) (z:Int) (h:(b=10∨b=36)/\wV z):(fmtS b z).length<=65:=by
 obtain⟨hb,h1,h2⟩:=h;have key:∀n:Nat,n<=9223372036854775808->(eM b n).length<=63+1:=fun n d=>xI (by rcases hb with rfl | rfl<;>omega) 63 n (Nat.lt_of_le_of_lt d (by rcases hb with rfl | rfl<;>decide))
 unfold fmtS tS;split
 ·rw[lM_,List.length_cons,lM_];have:=key (-z).toNat oM;omega
 rw[lM_,lM_];have:=key z.toNat oM;omega
theorem L4 {G:Cx} (E:Plain G) (C:G.ov 151=true) (I:∀a s,G.w9 94 a s=none) {K:KP} {l:List Int} {v:Y} (hl:bI K 1 dG l v) (U:∀x∈l,∃m:Nat,x= .ofNat m/\m<100) (aa:l.length<=100) {bb:Nat} {s:List Nat} {B_:Own} (X:xn bb s B_) (hn:s.length<=800000) {V:B} {L:Own} (aq:H V K (B_++L)):
  aT Tryz.prog G 92 [v,.ptr bb 0] V fun u V'=>∃B',xn bb (s++l.flatMap fun x=>fmtS 10 x++[44]) B'/\H V' K (B'++L):=by
 refine aW E Tryz.func92 Z (t:=(D.leaf.put (some (v)) 0).put (some (.ptr bb 0)) 1) (by rfl) ?_;refine ai ?_;refine ah Z ?_;refine S Z (N Z) Z ?_;refine S Z (aO hl Z Z Z (e:=3) J Z) Z ?_;refine S Z (N Z) Z ?_;refine af ?_;refine ad ?_;refine aJ ?_;refine ba [4,7,8,9,10,11,12,13,14,15] (fun j t V=>∃(i:Nat) (F:Own),(j+i=l.length/\xn bb (s++(l.take i).flatMap (fun x=>fmtS 10 x++[44])) F/\(s++(l.take i).flatMap (fun x=>fmtS 10 x++[44])).length<=800000+i*100)/\t.get 7=some (.int .i64 (.ofNat i))/\H V K (F++L)) (l.length) ⟨0,_,⟨Z,by rw[List.take_zero,List.flatMap_nil,List.append_nil];exact X,by rw[List.take_zero,List.flatMap_nil,List.append_nil];omega⟩,Z,aq⟩ ?_;clear aq;intro j1 t V an hI;obtain⟨i,F,⟨ab,hB1,M⟩,d,aq⟩:=hI;replace an:=an.bR Z Z;obtain⟨o4,o7,o8,o9,ac,ak,am,ao,an⟩:=an;replace an:=an.eb Z;obtain⟨ap,an⟩:=an;replace an:=an.eb Z;obtain⟨au,an⟩:=an;obtain rfl:=an.nil;clear an;replace d:o7=some _:=d;subst d;refine ai ?_;refine ah Z ?_;refine S Z (aA Z Z Z) Z ?_;refine af ?_;refine ad ?_;refine ai ?_;refine aC Z (fun A=>?_) (fun A=>?_)
 ·refine aG ?_;refine ad ?_;refine ai ?_;refine aJ ?_;refine ai ?_;refine ah Z ?_;obtain⟨x9,b,av⟩:=cO A;refine bO (e:=3) (m:=1) hl b Z Z J J Z Z (fun _=>Z) (fun p9 aE Q a0 R=>?_);obtain rfl:=R;refine S Z (aM aq Q Z J Z) Z ?_;refine S Z (aj Z) Z ?_;refine af ?_;refine ad ?_;refine ai ?_;refine ah Z ?_;refine S Z (N Z) Z ?_;have hr9x:(10=10∨10=36)/\wV x9:=⟨by omega,E5<|U x9<|gB_ b⟩;obtain⟨m,hm,T⟩:=U x9 (gB_ b);refine bh Z (aR Z Z Z J) (fun _=>Z) (by have q:=Nh E I T aq;rw[<-hm] at q;exact q) (fun V aq=>?_);refine dJ Z (aR Z Z Z J) (fun _=>Z) (qf E C hB1 (fmtS 10 x9) (by have:=oK 10 x9 hr9x;omega) aq) ?_;rintro _ V ⟨B2,hB2,aq⟩;refine af ?_;refine ad ?_;refine ah Z ?_;have hfl:=oK 10 x9 hr9x;refine dJ Z (aR Z Z Z J) (fun _=>Z) (lu E C hB2 (by rw[lA_];omega) 44 aq) ?_;rintro _ V ⟨W,hB3,aq⟩;refine af ?_;refine aH ?_;refine ad ?_;refine ah Z ?_;refine S Z (aA Z Z Z) Z ?_;refine S Z (N Z) Z ?_;refine af ?_;refine aL ⟨j1-1,(by have:=aU A;omega),(by(iterate 20 refine a8.put Z ?_);exact a8.refl _ _),i+1,W,⟨by have:=aU A;omega,by rw[dh b,List.flatMap_append,<-lQ_];show xn bb (_++((fmtS 10 x9++[44])++[])) W;rw[List.append_nil,<-lQ_];exact hB3,by rw[dh b,List.flatMap_append,<-lQ_,lA_];show _+((fmtS 10 x9++[44])++[]).length<=_;simp only[List.append_nil,lA_,List.length_cons,List.length_nil] at M⊢;omega⟩,congrArg (fun z=>some (Y.int .i64 z))<|aZ (by have:=aU A;omega),aq⟩
 refine bc ?_;refine aP ?_;refine aQ ?_;refine aN ?_;exact ju Z ⟨F,by rw[tL_<|bx A] at hB1;exact hB1,aq⟩
theorem LZ {G:Cx} (E:Plain G) (C:G.ov 151=true) {K:KP} {l:List Int} {v:Y} (hl:bI K 1 dG l v) (R:∀x∈l,wV x) (aa:l.length<=100) {bb:Nat} {s:List Nat} {B_:Own} (U:xn bb s B_) (hn:s.length<=800000) {V:B} {L:Own} (aq:H V K (B_++L)):
  aT Tryz.prog G 96 [v,.ptr bb 0] V fun u V'=>∃B',xn bb (s++l.flatMap fun x=>fmtS 36 x++[44]) B'/\H V' K (B'++L):=by
 refine aW E Tryz.func96 Z (t:=(D.leaf.put (some (v)) 0).put (some (.ptr bb 0)) 1) (by rfl) ?_;refine ai ?_;refine ah Z ?_;refine S Z (N Z) Z ?_;refine S Z (aO hl Z Z Z (e:=2) J Z) Z ?_;refine S Z (N Z) Z ?_;refine af ?_;refine ad ?_;refine aJ ?_;refine ba [4,7,8,9,10,11,12,13,14,15] (fun j t V=>∃(i:Nat) (F:Own),(j+i=l.length/\xn bb (s++(l.take i).flatMap (fun x=>fmtS 36 x++[44])) F/\(s++(l.take i).flatMap (fun x=>fmtS 36 x++[44])).length<=800000+i*100)/\t.get 7=some (.int .i64 (.ofNat i))/\H V K (F++L)) (l.length) ⟨0,_,⟨Z,by rw[List.take_zero,List.flatMap_nil,List.append_nil];exact U,by rw[List.take_zero,List.flatMap_nil,List.append_nil];omega⟩,Z,aq⟩ ?_;clear aq;intro W t V an X;obtain⟨i,F,⟨ab,hB1,I⟩,d,aq⟩:=X;replace an:=an.bR Z Z;obtain⟨o4,o7,o8,o9,ac,ak,am,ao,an⟩:=an;replace an:=an.eb Z;obtain⟨ap,an⟩:=an;replace an:=an.eb Z;obtain⟨au,an⟩:=an;obtain rfl:=an.nil;clear an;replace d:o7=some _:=d;subst d;refine ai ?_;refine ah Z ?_;refine S Z (aA Z Z Z) Z ?_;refine af ?_;refine ad ?_;refine ai ?_;refine aC Z (fun A=>?_) (fun A=>?_)
 ·refine aG ?_;refine ad ?_;refine ai ?_;refine aJ ?_;refine ai ?_;refine ah Z ?_;obtain⟨x9,b,av⟩:=cO A;refine bO (e:=2) (m:=1) hl b Z Z J J Z Z (fun _=>Z) (fun p9 aE M a0 Q=>?_);obtain rfl:=Q;refine S Z (aM aq M Z J Z) Z ?_;refine S Z (aj Z) Z ?_;refine af ?_;refine ad ?_;refine ai ?_;refine ah Z ?_;refine S Z (N Z) Z ?_;have hr9x:(36=10∨36=36)/\wV x9:=⟨by omega,R x9<|gB_ b⟩;refine bh Z (aR Z Z Z J) (fun _=>Z) (GM E (R x9<|gB_ b) aq) (fun V aq=>?_);refine dJ Z (aR Z Z Z J) (fun _=>Z) (qf E C hB1 (fmtS 36 x9) (by have:=oK 36 x9 hr9x;omega) aq) ?_;rintro _ V ⟨B2,hB2,aq⟩;refine af ?_;refine ad ?_;refine ah Z ?_;have hfl:=oK 36 x9 hr9x;refine dJ Z (aR Z Z Z J) (fun _=>Z) (lu E C hB2 (by rw[lA_];omega) 44 aq) ?_;rintro _ V ⟨T,hB3,aq⟩;refine af ?_;refine aH ?_;refine ad ?_;refine ah Z ?_;refine S Z (aA Z Z Z) Z ?_;refine S Z (N Z) Z ?_;refine af ?_;refine aL ⟨W-1,(by have:=aU A;omega),(by(iterate 20 refine a8.put Z ?_);exact a8.refl _ _),i+1,T,⟨by have:=aU A;omega,by rw[dh b,List.flatMap_append,<-lQ_];show xn bb (_++((fmtS 36 x9++[44])++[])) T;rw[List.append_nil,<-lQ_];exact hB3,by rw[dh b,List.flatMap_append,<-lQ_,lA_];show _+((fmtS 36 x9++[44])++[]).length<=_;simp only[List.append_nil,lA_,List.length_cons,List.length_nil] at I⊢;omega⟩,congrArg (fun z=>some (Y.int .i64 z))<|aZ (by have:=aU A;omega),aq⟩
 refine bc ?_;refine aP ?_;refine aQ ?_;refine aN ?_;exact ju Z ⟨F,by rw[tL_<|bx A] at hB1;exact hB1,aq⟩
theorem Jh (g:XG):∀c∈mY g,c<=255:=by
 intro c b;rw[wH] at b;obtain⟨u,_,rfl⟩:=List.mem_map.1 b;have:=u.toNat_lt;omega
theorem Em {l:List Int} (h:∀x∈l,Sm x):(l.flatMap f10).length<=l.length*66:=gI fun x hx=>by
 unfold f10;have:=oK 10 x ⟨.inl Z,E5<|h x hx⟩;rw[lA_];simp;omega
theorem En {l:List Int} (h:∀x∈l,wV x):(l.flatMap f36).length<=l.length*66:=gI fun x hx=>by
 unfold f36;have:=oK 36 x ⟨.inr Z,h x hx⟩;rw[lA_];simp;omega
theorem Jz {α β:Type} {l:List α} {m:List β} {i:Nat} {x:α} {y:β} (h1:l[i]? =some x) (b:m[i]? =some y):(l.zip m)[i]? =some (x,y):=by
 rw[List.getElem?_zip_eq_some];exact⟨h1,b⟩
theorem kZ {α β:Type} {f:α->List β} {l:List α} {i:Nat} {x:α} (h:l[i]? =some x):(l.take (i+1)).flatMap f=(l.take i).flatMap f++f x:=fb h
theorem No {G:Cx} (hG:Plain G) (Q:G.ov 151=true) (a9:∀a s,G.w9 94 a s=none) {K:KP} {g:XG} (hR:dy g) (X:r8 g) {a b c d:Y} (hg:dC K g a b c d) {V:B} {L:Own} (aq:H V K L):
  aT Tryz.prog G 53 [.agg [a,b,c,d]] V fun v V'=>v= .str (mY g)/\H V' K L:=by
 have hF:=Ly (eK.2 hR);have ci:(g.threads.zip g.from_).length=g.threads.length:=by rw[List.length_zip,hR.from_];omega
 refine aW hG Tryz.func53 Z (t:=D.leaf.put (some (.agg [a,b,c,d])) 0) (by rfl) ?_;refine ai ?_;refine ah Z ?_;refine bH aq Z (cL Z Z) (fun _=>Z) (fun V b1 aq=>?_);obtain⟨K1,aE,a0,aq⟩:=aq.eA (M:=[_]);have aa:K1 b1 (.row [a,b,c,d] 27 false):=a0 _ (.head _);clear a0;have hg1:=hg.mono aE;refine S Z (aj Z) Z ?_;refine af ?_;refine ad ?_;refine ai ?_;refine ah Z ?_;refine bH aq Z (Ns (cs:=[.nilPtr,.aB]) J J) (fun _=>Z) (fun V bb aq=>?_);obtain⟨B0,hB0e⟩:∃B0:Own,B0= [(bb,.own [.nilPtr,.aB] 128)]:=⟨_,Z⟩;have hB0:xn bb [] B0:=⟨_,_,[],.inl Z,.inl ⟨Z,Z,Z⟩,hB0e⟩;replace aq:H V K1 (B0++L):=by rw[hB0e];exact aq
 refine af ?_;refine ad ?_;refine ai ?_;refine ah Z ?_;refine S Z (bK Z Z) Z ?_;refine S Z (aj Z) Z ?_;refine af ?_;refine ad ?_;refine ai ?_;refine ah Z ?_;refine S Z (bK Z Z) Z ?_;refine S Z (aj Z) Z ?_;refine af ?_;refine ad ?_;refine ai ?_;refine ah Z ?_;refine S Z (N Z) Z ?_;refine S Z (ax Z (k:=0) J) Z ?_;refine S Z (aw Z (aq.fX aa) J Z) Z ?_;refine dJ Z (aR Z Z Z J) (fun _=>Z) (LZ hG Q hg1.init (X.init) (by have:=hF.i;omega) hB0 (by simp) aq) ?_;rintro _ V ⟨B1,hB1,aq⟩;have hB1:xn bb (g.init.flatMap f36) B1:=hB1;have ck:(g.init.flatMap f36).length<=400:=by have h1:=En X.init;have h2:=hF.i;omega
 refine af ?_;refine ad ?_;refine ai ?_;refine ai ?_;refine ah Z ?_;refine S Z (ax Z (k:=1) J) Z ?_;refine S Z (aw Z (aq.fX aa) J Z) Z ?_;refine S Z (aO hg1.threads Z Z Z (e:=64) J Z) Z ?_;refine S Z (N Z) Z ?_;refine af ?_;refine ad ?_;refine aJ ?_;refine ba [6,7,8,9,23,24,25,26,27,28,29,30,31,32,33,34,35,36,37,38,39,40,41,42,43,44,45,46,47,48,49,50,51,52,53,54,55,56,57,58,59,60,61,62,63,64,65,66,67,68,69,70,71] (fun j t V=>∃(i:Nat) (B2:Own),(j+i=g.threads.length/\xn bb (g.init.flatMap f36++((g.threads.zip g.from_).take i).flatMap tV) B2/\(g.init.flatMap f36++((g.threads.zip g.from_).take i).flatMap tV).length<=400+i*7000)/\t.get 23=some (.int .i64 (.ofNat i))/\H V K1 (B2++L)) (g.threads.length) ⟨0,_,⟨Z,by rw[List.take_zero,List.flatMap_nil,List.append_nil];exact hB1,by rw[List.take_zero,List.flatMap_nil,List.append_nil];exact ck⟩,Z,aq⟩ ?_;clear aq;intro j6 t V an X;obtain⟨i,B2,⟨hn,hB2,cn⟩,ab,aq⟩:=X;replace an:=an.bR Z Z;obtain⟨o6,o7,o8,o9,cp,ho,hr,hs,an⟩:=an;replace an:=an.bR Z Z;obtain⟨ht,hu,hw,hA,bd,cr,cv,cw,an⟩:=an;replace an:=an.bR Z Z;obtain⟨cx,c0,c1,c2,c3,c4,c5,c7,an⟩:=an;replace an:=an.bR Z Z;obtain⟨c8,c9,dd,df,dk,dl,dm,dr,an⟩:=an;replace an:=an.bR Z Z;obtain⟨ds,dx,dA,d0,d1,d2,d3,d4,an⟩:=an;replace an:=an.bR Z Z;obtain⟨d5,d6,d7,d8,d9,ee,eg,el,an⟩:=an;replace an:=an.r4 Z;obtain⟨em,en,eo,er,an⟩:=an;replace an:=an.eb Z;obtain⟨hB,an⟩:=an;obtain rfl:=an.nil;clear an;replace ab:cp=some _:=ab;subst ab;refine ai ?_;refine ah Z ?_;refine S Z (aA Z Z Z) Z ?_;refine af ?_;refine ad ?_;refine ai ?_;refine aC Z (fun A=>?_) (fun A=>?_)
 ·refine aG ?_;refine ad ?_;refine ai ?_;refine aJ ?_;refine ai ?_;refine ah Z ?_;refine S Z (N Z) Z ?_;obtain⟨x26,ac,f4⟩:=cO A;refine bO (e:=64) (m:=1) hg1.threads ac Z Z J J Z Z (fun _=>Z) (fun hC f5 be f6 bi=>?_);have hr26':=bi;obtain⟨hD,rfl,ak⟩:=hr26';refine S Z (aM aq be Z J Z) Z ?_;refine S Z (aj Z) Z ?_;refine S Z (aj Z) Z ?_;refine af ?_;refine ad ?_;refine ai ?_;refine ah Z ?_;refine dJ Z (aR Z Z Z J) (fun _=>Z) (lu hG Q hB2 (by have:=hF.t;have:=aU A;omega) 47 aq) ?_;rintro _ V ⟨B2b,hB2b,aq⟩;refine af ?_;refine ad ?_;refine ai ?_;refine ah Z ?_;obtain⟨row,a3⟩:∃row,row=x26:=⟨_,Z⟩;rw[<-a3] at ac ak;have hrow:=ac;obtain⟨fr,R⟩:=cF (show i<g.from_.length by rw[hR.from_];exact aU A);have hz:=Jz hrow R;have hr14:=hF.r row (gB_ hrow);have hfl:=(hR.rows i row fr hrow R).1;have hthr:=hF.t;have hithr:=aU A;refine S Z (N Z) Z ?_;refine S Z (aO ak Z Z Z (e:=92) J Z) Z ?_;refine S Z (N Z) Z ?_;refine af ?_;refine ad ?_;refine aJ ?_;refine ba [8,9,31,32,33,34,35,36,37,38,39,40,41,42,43,44,45,46,47,48,49,50,51,52,53,54,55,56,57,58,59,60,61,62,63,64,65,66,67,68,69,70] (fun j t V=>∃(q:Nat) (B3:Own),(j+q=row.length/\xn bb (g.init.flatMap f36++((g.threads.zip g.from_).take i).flatMap tV++[47]++((row.zip fr).take q).flatMap Nx) B3/\(g.init.flatMap f36++((g.threads.zip g.from_).take i).flatMap tV++[47]++((row.zip fr).take q).flatMap Nx).length<=401+i*7000+q*470)/\t.get 31=some (.int .i64 (.ofNat q))/\H V K1 (B3++L)) (row.length) ⟨0,_,⟨Z,by rw[List.take_zero,List.flatMap_nil,List.append_nil];exact hB2b,by rw[List.take_zero,List.flatMap_nil,List.append_nil,lA_];simp only[List.length_cons,List.length_nil];omega⟩,Z,aq⟩ ?_;clear aq;intro es t V an X;obtain⟨q,B3,⟨f7,hB3,a4⟩,am,aq⟩:=X;replace an:=an.bR Z Z;obtain⟨o8,o9,bd,cr,cv,cw,cx,c0,an⟩:=an;replace an:=an.bR Z Z;obtain⟨c1,c2,c3,c4,c5,c7,c8,c9,an⟩:=an;replace an:=an.bR Z Z;obtain⟨dd,df,dk,dl,dm,dr,ds,dx,an⟩:=an;replace an:=an.bR Z Z;obtain⟨dA,d0,d1,d2,d3,d4,d5,d6,an⟩:=an;replace an:=an.bR Z Z;obtain⟨d7,d8,d9,ee,eg,el,em,en,an⟩:=an;replace an:=an.eb Z;obtain⟨eo,an⟩:=an;replace an:=an.eb Z;obtain⟨er,an⟩:=an;obtain rfl:=an.nil;clear an;replace am:bd=some _:=am;subst am;refine ai ?_;refine ah Z ?_;refine S Z (aA Z Z Z) Z ?_;refine af ?_;refine ad ?_;refine ai ?_;refine aC Z (fun T=>?_) (fun T=>?_)
  ·refine aG ?_;refine ad ?_;refine ai ?_;refine aJ ?_;refine ai ?_;refine ah Z ?_;refine S Z (N Z) Z ?_;obtain⟨u,C,f8⟩:=cO T;refine bO (e:=92) (m:=5) ak C Z Z J J Z Z (fun _=>Z) (fun hE f9 bk gc bl=>?_);obtain rfl:=bl;refine S Z (bC aq bk Z J Z) Z ?_;refine bH aq Z (ea (cs:=[.int .i64 0,.int .i64 0,.int .i64 0,.int .i64 0,.int .i64 0]) J J) (fun _=>Z) (fun V b2 aq=>?_);refine S Z (aj Z) Z ?_;refine db aq Z (bz Z Z Z (aq.get 0 Z) (m:=5) J Z (Nat.le_of_ble_eq_true Z) (ar Z<|ar Z<|ar Z<|ar Z<|ar Z aS) (cells':=[_,_,_,_,_]) Z) Z (fun V aq=>?_);refine af ?_;refine ad ?_;refine ai ?_;refine aX (l:=[(0,[]),(1,[]),(2,[]),(3,[]),(4,[]),(5,[]),(6,[]),(7,[]),(8,[]),(9,[]),(10,[]),(11,[]),(12,[]),(13,[]),(14,[]),(15,[]),(16,[]),(17,[]),(18,[]),(19,[]),(20,[]),(21,[]),(22,[]),(23,[]),(24,[]),(25,[]),(26,[])]) J J ?_;have hq14r:=aU T;obtain⟨xid,E⟩:=cF (show q<fr.length by rw[hfl];exact hq14r);have hz2:=Jz C E;refine al Z Z (N Z) Z ?_;refine al Z Z (ax Z (k:=0) J) Z ?_;refine al Z Z (aw Z (aq.get 0 Z) J Z) Z ?_;refine al Z Z (ax Z (k:=1) J) Z ?_;refine al Z Z (aw Z (aq.get 0 Z) J Z) Z ?_;refine al Z Z (ax Z (k:=2) J) Z ?_;refine al Z Z (aw Z (aq.get 0 Z) J Z) Z ?_;refine al Z Z (ax Z (k:=2) J) Z ?_;refine al Z Z (aw Z (aq.fX aa) J Z) Z ?_;refine al Z Z (N Z) Z ?_;refine cP (e:=57) (m:=1) hg1.from_ R Z Z Z J J Z Z (fun _=>Z) (fun hH ge bm gl bo=>?_);have hr46':=bo;obtain⟨hK,rfl,bs⟩:=hr46';refine al Z Z (aM aq bm Z J Z) Z ?_;refine al Z Z (N Z) Z ?_;refine cP (e:=59) (m:=2) bs E Z Z Z J J Z Z (fun _=>Z) (fun hL gr bt gs bv=>?_);obtain rfl:=bv;refine mg bt Z Z Z Z (k:=0) J (Nat.le_of_ble_eq_true Z) (fun _=>Z) (fun hM bw=>?_);refine al Z Z (aM aq bw Z J Z) Z ?_;refine al Z Z (ax Z (k:=2) J) Z ?_;refine al Z Z (aw Z (aq.fX aa) J Z) Z ?_;refine al Z Z (N Z) Z ?_;refine cP (e:=57) (m:=1) hg1.from_ R Z Z Z J J Z Z (fun _=>Z) (fun hN gt b0 gv b3=>?_);have hr55':=b3;obtain⟨hO,rfl,b4⟩:=hr55';refine al Z Z (aM aq b0 Z J Z) Z ?_;refine al Z Z (N Z) Z ?_;refine cP (e:=59) (m:=2) b4 E Z Z Z J J Z Z (fun _=>Z) (fun hP g2 b5 g3 b6=>?_);obtain rfl:=b6
   refine mg b5 Z Z Z Z (k:=1) J (Nat.le_of_ble_eq_true Z) (fun _=>Z) (fun hQ b7=>?_);refine al Z Z (aM aq b7 Z J Z) Z ?_;refine tT aq Z Z (cM (e:=3) (m:=1) (z:=[.int .i64 0]) (cs:=[_,_,_,_,_]) J J J J<|bB Z Z Z Z<|bB Z Z Z Z<|bB Z Z Z Z<|bB Z Z Z Z<|bB Z Z Z Z cj) (fun _=>Z) (fun V et aq=>?_);replace aq:=H.keeps (M:=[_]) aq;have hks:=KP.dQ K1 [(et,.row (ints [u.kind,u.loc,u.order,xid.bX,xid.index]) 3 false)];replace aq:=aq.pull (.there .here);refine fl Z Z (aR Z Z Z J) (fun _=>Z) (L4 hG Q a9 (eX (xs:=[u.kind,u.loc,u.order,xid.bX,xid.index]) (.inr (.head _)) (by simp)) (I2 hR hrow R C E) (by simp) hB3 oM aq) ?_;rintro _ V ⟨B4,hB4,aq⟩;replace aq:=aq.weaken hks;refine⟨bq,?_⟩;refine bj ?_;refine ad ?_;refine ah Z ?_;refine S Z (N Z) Z ?_;refine S Z (ax Z (k:=3) J) Z ?_;refine S Z (aw Z (aq.gw.get 0 Z) J Z) Z ?_;refine S Z (ax Z (k:=4) J) Z ?_;refine S Z (aw Z (aq.gw.get 0 Z) J Z) Z ?_;refine jY aq Z (cM (e:=2) (m:=1) (z:=[.int .i64 0]) (cs:=[_,_]) J J J J<|bB Z Z Z Z<|bB Z Z Z Z cj) (fun _=>Z) (fun V ex aq=>?_);replace aq:=H.keeps (M:=[_]) aq;have hks2:=KP.dQ K1 [(ex,.row (ints [u.read,u.write]) 2 false)];have hev:=X.ev _ _ hrow _ (gB_ C);have h5:=Em (I2 hR hrow R C E);have h5l: [u.kind,u.loc,u.order,xid.bX,xid.index].length=5:=rfl
   have b8:∀x∈[u.read,u.write],wV x:=fun x hx=>by
    rcases mQ_.1 hx with rfl | hx
    ·exact hev.1
    rcases mQ_.1 hx with rfl | hx
    ·exact hev.2
    cases hx
   have h6:=En b8;have h6l: [u.read,u.write].length=2:=rfl;have h7:(Nx (u,xid)).length<=462:=by show(List.flatMap f10 [u.kind,u.loc,u.order,xid.bX,xid.index]++List.flatMap f36 [u.read,u.write]).length<=462;rw[lA_];omega
   refine dJ Z (aR Z Z Z J) (fun _=>Z) (LZ hG Q (eX (xs:=[u.read,u.write]) (.inr (.head _)) (by simp)) b8 (by simp) hB4 (by rw[lA_];show _+(List.flatMap f10 _).length<=_;omega) aq) ?_;rintro _ V ⟨B5,hB5,aq⟩;replace aq:=aq.weaken hks2;refine af ?_;refine aH ?_;refine ad ?_;refine ah Z ?_;replace aq:=aq.sub (ph (.cons _ (.refl _)));refine S Z (aA (v:=.int .i64 (.ofNat (q+1))) Z Z<|congrArg (fun z=>some (Y.int .i64 z))<|aZ oM) Z ?_;refine S Z (N Z) Z ?_;refine af ?_;refine aL ⟨es-1,(by have:=aU T;omega),(by(iterate 84 refine a8.put Z ?_);exact a8.refl _ _),q+1,B5,⟨by have:=aU T;omega,by rw[kZ hz2,<-lQ_];show xn bb (_++(_++_)) B5;rw[<-lQ_];exact hB5,by rw[kZ hz2,<-lQ_,lA_];omega⟩,Z,aq⟩
  refine bc ?_;refine aP ?_;refine aQ ?_;refine aN ?_;refine aH ?_;refine ad ?_;refine ah Z ?_;have a1:(row.zip fr).take q=row.zip fr:=tL_ (by rw[List.length_zip,hfl];have:=bx T;omega);have hq14b:q<=14:=by omega
  refine S Z (aA (v:=.int .i64 (.ofNat (i+1))) Z Z<|congrArg (fun z=>some (Y.int .i64 z))<|aZ oM) Z ?_;refine S Z (N Z) Z ?_;refine af ?_;refine aL ⟨j6-1,(by have:=aU A;omega),(by(iterate 108 refine a8.put Z ?_);exact a8.refl _ _),i+1,B3,⟨by have:=aU A;omega,by rw[kZ hz,<-lQ_];rw[a1,lQ_] at hB3;exact hB3,by rw[kZ hz,<-lQ_,lA_];show _+(47::(row.zip fr).flatMap Nx).length<=_;rw[a1] at a4;rw[lA_,lA_] at a4;simp only[List.length_cons,List.length_nil] at a4⊢;omega⟩,Z,aq⟩
 refine bc ?_;refine aP ?_;refine aQ ?_;refine aN ?_;refine ad ?_;refine ai ?_;refine ai ?_;refine ah Z ?_;have e0:g.threads.length<=i:=bx A;rw[tL_ (by rw[ci];exact e0)] at hB2 cn;have hthr:=hF.t;have hl2b:(g.init.flatMap f36++(g.threads.zip g.from_).flatMap tV).length<=30000:=by omega
 refine S Z (ax Z (k:=3) J) Z ?_;refine S Z (aw Z (aq.fX aa) J Z) Z ?_;refine S Z (aO hg1.order Z Z Z (e:=57) J Z) Z ?_;refine S Z (N Z) Z ?_;refine af ?_;refine ad ?_;refine aJ ?_;refine ba [11,13,75,76,77,78,79,80,81,82,83,84,85,86,87,88,89,90,91,92,93,94] (fun j t V=>∃(i3:Nat) (B6:Own),(j+i3=g.order.length/\xn bb (g.init.flatMap f36++(g.threads.zip g.from_).flatMap tV++(g.order.take i3).flatMap Ds) B6/\(g.init.flatMap f36++(g.threads.zip g.from_).flatMap tV++(g.order.take i3).flatMap Ds).length<=30000+i3*9000)/\t.get 75=some (.int .i64 (.ofNat i3))/\H V K1 (B6++L)) (g.order.length) ⟨0,_,⟨Z,by rw[List.take_zero,List.flatMap_nil,List.append_nil];exact hB2,by rw[List.take_zero,List.flatMap_nil,List.append_nil];exact hl2b⟩,Z,aq⟩ ?_;clear aq;intro e3 t V an X;obtain⟨i3,B6,⟨g4,hB6,hS⟩,ao,aq⟩:=X;replace an:=an.bR Z Z;obtain⟨hT,e4,e5,hU,hV,hW,hX,hY,an⟩:=an;replace an:=an.bR Z Z;obtain⟨h3,b9,e6,e7,e8,e9,fd,fi,an⟩:=an;replace an:=an.r4 Z;obtain⟨fk,fq,fs,fv,an⟩:=an;replace an:=an.eb Z;obtain⟨f0,an⟩:=an;replace an:=an.eb Z;obtain⟨h8,an⟩:=an;obtain rfl:=an.nil;clear an;replace ao:e5=some _:=ao;subst ao;refine ai ?_;refine ah Z ?_;refine S Z (aA Z Z Z) Z ?_;refine af ?_;refine ad ?_;refine ai ?_;refine aC Z (fun F=>?_) (fun F=>?_)
 ·refine aG ?_;refine ad ?_;refine ai ?_;refine aJ ?_;refine ai ?_;refine ah Z ?_;obtain⟨x77,ap,g5⟩:=cO F;refine bO (e:=57) (m:=1) hg1.order ap Z Z J J Z Z (fun _=>Z) (fun h9 g6 ca g7 cb=>?_);have hr77':=cb;obtain⟨ia,rfl,au⟩:=hr77';refine S Z (aM aq ca Z J Z) Z ?_;refine S Z (aj Z) Z ?_;refine af ?_;refine ad ?_;refine ai ?_;refine ah Z ?_;refine dJ Z (aR Z Z Z J) (fun _=>Z) (lu hG Q hB6 (by have:=hF.o;have:=aU F;omega) 47 aq) ?_;rintro _ V ⟨B6b,hB6b,aq⟩;refine af ?_;refine ad ?_;refine ai ?_;refine ah Z ?_;obtain⟨od,cc⟩:∃od,od=x77:=⟨_,Z⟩;rw[<-cc] at ap au;have hod:=ap;have ho56:=hF.Oc od (gB_ hod);have hoi:=aU F;have hol:=hF.o;refine S Z (N Z) Z ?_;refine S Z (aO au Z Z Z (e:=59) J Z) Z ?_;refine S Z (N Z) Z ?_;refine af ?_;refine ad ?_;refine aJ ?_;refine ba [13,82,83,84,85,86,87,88,89,90,91,92,93] (fun j t V=>∃(q:Nat) (B8:Own),(j+q=od.length/\xn bb (g.init.flatMap f36++(g.threads.zip g.from_).flatMap tV++(g.order.take i3).flatMap Ds++[47]++(od.take q).flatMap NV) B8/\(g.init.flatMap f36++(g.threads.zip g.from_).flatMap tV++(g.order.take i3).flatMap Ds++[47]++(od.take q).flatMap NV).length<=30001+i3*9000+q*140)/\t.get 82=some (.int .i64 (.ofNat q))/\H V K1 (B8++L)) (od.length) ⟨0,_,⟨Z,by rw[List.take_zero,List.flatMap_nil,List.append_nil];exact hB6b,by rw[List.take_zero,List.flatMap_nil,List.append_nil,lA_];simp only[List.length_cons,List.length_nil];omega⟩,Z,aq⟩ ?_;clear aq;intro f1 t V an X;obtain⟨q,B8,⟨g9,hB8,a5⟩,av,aq⟩:=X;replace an:=an.bR Z Z;obtain⟨e4,b9,e6,e7,e8,e9,fd,fi,an⟩:=an;replace an:=an.r4 Z;obtain⟨fk,fq,fs,fv,an⟩:=an;replace an:=an.eb Z;obtain⟨f0,an⟩:=an;obtain rfl:=an.nil;clear an;replace av:b9=some _:=av;subst av;refine ai ?_;refine ah Z ?_;refine S Z (aA Z Z Z) Z ?_;refine af ?_;refine ad ?_;refine ai ?_;refine aC Z (fun U=>?_) (fun U=>?_)
  ·refine aG ?_;refine ad ?_;refine ai ?_;refine aJ ?_;refine ai ?_;refine ah Z ?_;obtain⟨W,I,ha⟩:=cO U;refine bO (e:=59) (m:=2) au I Z Z J J Z Z (fun _=>Z) (fun ib hc ce hk ch=>?_);obtain rfl:=ch;refine S Z (bC aq ce Z J Z) Z ?_;refine bH aq Z (ea (cs:=[.int .i64 0,.int .i64 0]) J J) (fun _=>Z) (fun V b2 aq=>?_);refine db aq Z (bz Z Z Z (aq.get 0 Z) (m:=2) J Z (Nat.le_of_ble_eq_true Z) (ar Z<|ar Z aS) (cells':=[_,_]) Z) Z (fun V aq=>?_);refine af ?_;refine ad ?_;refine ah Z ?_;refine S Z (N Z) Z ?_;refine S Z (ax Z (k:=0) J) Z ?_;refine S Z (aw Z (aq.get 0 Z) J Z) Z ?_;refine S Z (ax Z (k:=1) J) Z ?_;refine S Z (aw Z (aq.get 0 Z) J Z) Z ?_;refine jY aq Z (cM (e:=3) (m:=1) (z:=[.int .i64 0]) (cs:=[_,_]) J J J J<|bB Z Z Z Z<|bB Z Z Z Z cj) (fun _=>Z) (fun V f2 aq=>?_);replace aq:=H.keeps (M:=[_]) aq;have hks:=KP.dQ K1 [(f2,.row (ints [W.bX,W.index]) 3 false)];replace aq:=aq.pull (.there .here);have hsm:=MT hR hod (gB_ I);have h5:=Em hsm;have h5l: [W.bX,W.index].length=2:=rfl;refine dJ Z (aR Z Z Z J) (fun _=>Z) (L4 hG Q a9 (eX (xs:=[W.bX,W.index]) (.inr (.head _)) (by simp)) hsm (by simp) hB8 oM aq) ?_;rintro _ V ⟨B9,hB9,aq⟩;replace aq:=aq.weaken hks;refine af ?_;refine aH ?_;refine ad ?_;refine ah Z ?_;replace aq:=aq.sub (ph (.cons _ (.refl _)));refine S Z (aA (v:=.int .i64 (.ofNat (q+1))) Z Z<|congrArg (fun z=>some (Y.int .i64 z))<|aZ (by have:=aU U;omega)) Z ?_;refine S Z (N Z) Z ?_;refine af ?_;refine aL ⟨f1-1,(by have:=aU U;omega),(by(iterate 26 refine a8.put Z ?_);exact a8.refl _ _),q+1,B9,⟨by have:=aU U;omega,by rw[kZ I,<-lQ_];exact hB9,by rw[kZ I,<-lQ_,lA_];show _+(List.flatMap f10 _).length<=_;omega⟩,Z,aq⟩
  refine bc ?_;refine aP ?_;refine aQ ?_;refine aN ?_;refine aH ?_;refine ad ?_;refine ah Z ?_;have a2:od.take q=od:=tL_ (bx U);have hq24b:q<=56:=by omega
  refine S Z (aA (v:=.int .i64 (.ofNat (i3+1))) Z Z<|congrArg (fun z=>some (Y.int .i64 z))<|aZ oM) Z ?_;refine S Z (N Z) Z ?_;refine af ?_;refine aL ⟨e3-1,(by have:=aU F;omega),(by(iterate 46 refine a8.put Z ?_);exact a8.refl _ _),i3+1,B8,⟨by have:=aU F;omega,by rw[kZ hod,<-lQ_];rw[a2,lQ_] at hB8;exact hB8,by rw[kZ hod,<-lQ_,lA_];show _+(47::od.flatMap NV).length<=_;rw[a2] at a5;rw[lA_,lA_] at a5;simp only[List.length_cons,List.length_nil] at a5⊢;omega⟩,Z,aq⟩
 refine bc ?_;refine aP ?_;refine aQ ?_;refine aN ?_;refine ad ?_;refine ai ?_;refine ah Z ?_;have f3:g.order.length<=i3:=bx F;rw[tL_ f3] at hB6;refine bh Z (aR Z Z Z J) (fun _=>Z) (GH hG (s:=mY g) hB6 (Jh g) aq) (fun V aq=>?_);refine S Z (aj Z) Z ?_;refine af ?_;refine ad ?_;refine aD ?_;exact ay Z Z ⟨Z,aq.weaken aE⟩
def KM (M:Own):KP:=fun b o=>(b,o)∈M
theorem KM.PC {M N_:Own}:KP.le (KM N_) (KM (M++N_)):=fun _ _ h=>List.mem_append_right _ h
theorem KM.PB {M N_:Own}:KP.le (KM M) (KM (M++N_)):=fun _ _ h=>List.mem_append_left _ h
theorem KM.dQ {M:Own} {K:KP}:KP.le (KM M) (K.qR M):=fun _ _ h=>.inr h
theorem Kw {α:Type} (O_ M L:List α) (a b c x:α):(a::b::(O_++(x::c::(M++L)))).Perm ([x]++(a::b::(O_++(c::(M++L))))):=by
 classical
 rw[List.perm_iff_count];intro y;simp only[List.count_append,List.count_cons,List.count_nil];omega
theorem Kt {α:Type} (O_ I N_ M L:List α) (e a b c x:α):(e::([x]++(N_++(a::b::((O_++I)++(c::(M++L))))))).Perm (e::(O_++(a::b::x::c::((N_++I)++(M++L))))):=by
 classical
 rw[List.perm_iff_count];intro y;simp only[List.count_append,List.count_cons,List.count_nil];omega
theorem Ku {α:Type} (O_ I M L:List α) (a b c x:α):(a::(O_++(b::x::c::(I++(M++L))))).Perm (M++x::a::c::b::((O_++I)++L)):=by
 classical
 rw[List.perm_iff_count];intro y;simp only[List.count_append,List.count_cons];omega
theorem Kv {α:Type} (O_ I L:List α) (a b:α):(a::b::((O_++I)++L)).Perm (I++(O_++(a::b::L))):=by
 classical
 rw[List.perm_iff_count];intro y;simp only[List.count_append,List.count_cons];omega
def Pg (g:XG) (bl bm bv:Nat) (lo:bU) (L:Own) (acc:List (List Int)) (L':Own):Prop:=
 ∃u O1 I1,dP 4 27 (RG<|KM I1) (acc.map fun ps=>Mw ps g) u O1/\L'=(bl,lo)::(bm,.mark)::(bv,.row [u] 29 false)::((O1++I1)++L)
def eC (l:List XC) (g:XG):Int:=if 4<l.length then 3 else if cy g≠0∨l.length≠g.threads.length then 2 else 0
def fu (l:List XC) (g:XG):List XG:=if eC l g=0 then jy l (lF l) g else []
structure Nt (G G0:Cx):Prop where
 p:Plain G
 p0:Plain G0
 k1:∀a s,G.w9 50 a s=rL Tryz.prog G0 50 4 (fun g=>Nat.beq g 49) 50 a s
 k2:∀a s,G.w9 54 a s=rL Tryz.prog G0 54 5 (fun g=>Nat.beq g 55) 54 a s
theorem v7 {l:List XC} {g:XG} (h:jL l (lF l) g):iB l (lF l)≠[]:=fun e=>by
 obtain⟨x,r,hx⟩:=rB h;unfold jy at hx;rw[e] at hx;cases hx
theorem nC {x y:Int} (h:bW (bD x y)=false):x=y:=mz (bF h)
theorem ur {G G0:Cx} (hS:Nt G G0) {K:KP} {k:Nat} {l:List XC} {lv:Y} (hl:bI K 2 (jF K k) l lv) {g:XG} {a b c d:Y} (hg:dC K g a b c d) {V:B} {L:Own} (aq:H V K L):
  aT Tryz.prog G 19 [lv,.agg [a,b,c,d]] V fun v V'=>∃K' u,v= .tuple [u,.int .i64<|eC l g]/\KP.le K K'/\bI K' 4 (RG K') (fu l g) u/\H V' K' L:=by
 have hG:=hS.p;refine HB hG Tryz.func19 Z (t:=(D.leaf.put (some lv) 0).put (some (.agg [a,b,c,d])) 1) (by rfl) ?_;refine oI<|sk ?_;refine ah Z ?_;refine bH aq Z (cL Z Z) (fun _=>Z) (fun V b1 aq=>?_);obtain⟨K1,A,C,aq⟩:=aq.eA (M:=[_]);have aa:cX K1 (.ptr b1 0) [a,b,c,d]:=⟨b1,0,_,_,false,Z,C _ (.head _),Nat.le_of_ble_eq_true Z,Z⟩;clear C;have hl1:=hl.mono A fun _ _ h=>h.mono A;have hg1:=hg.mono A
 refine S Z (aj Z) Z ?_;refine S Z (aj Z) Z ?_;refine af ?_;refine ga ?_;refine oI<|sk ?_;refine ai ?_;refine ah Z ?_;refine S Z (N Z) Z ?_;refine S Z (aO hl1 Z Z Z (e:=63) J Z) Z ?_;refine S Z (aA Z Z Z) Z ?_;refine af ?_;refine ad ?_;refine aC Z (fun ab=>?_) (fun ab=>?_)
 ·have Q:eC l g=3:=by unfold eC;rw[if_pos<|aU (a:=4) ab]
  refine ai ?_;refine ah Z ?_;refine S Z (aj Z) Z ?_;refine S Z (aj Z) Z ?_;refine af ?_;refine ad ?_;refine aD ?_;refine sV ⟨.inr Z,_,jB Z Z Z,K1,.aB,by rw[Q],A,.inl ⟨by unfold fu;rw[Q,if_neg (by decide)],Z⟩,aq⟩
 have ac:l.length<=4:=bx (a:=4) ab;refine aG ?_;refine ga ?_;refine oI<|sk ?_;refine ai ?_;refine ah Z ?_;refine S Z (bC aq aa Z J Z) Z ?_;refine bh Z (aR Z Z Z J) (fun _=>Z) (KV hG hg1 aq) (fun V aq=>?_);refine bg Z (aA Z Z Z) (fun _=>Z) (fun ak=>?_) (fun ak=>?_)
 ·have Q:eC l g=2:=by unfold eC;rw[if_neg oM,if_pos (.inl<|mA<|cd ak)]
  refine S Z (N Z) Z ?_
  iterate 6 refine ae Z Z ?_
  refine S Z (aI Z Z) Z ?_;refine af ?_;refine ad ?_;refine bn Z ?_;refine ai ?_;refine ah Z ?_;refine S Z (aj Z) Z ?_;refine S Z (aj Z) Z ?_;refine af ?_;refine ad ?_;refine aD ?_;refine sV ⟨.inr Z,_,jB Z Z Z,K1,.aB,by rw[Q],A,.inl ⟨by unfold fu;rw[Q,if_neg (by decide)],Z⟩,aq⟩
 have av:cy g=0:=nC ak;have hR:=eK.1 av;refine S Z (N Z) Z ?_;refine S Z (N Z) Z ?_;refine S Z (aO hl1 Z Z Z (e:=63) J Z) Z ?_;refine eB aa Z Z Z (k:=1) J (Nat.le_of_ble_eq_true Z) (fun _=>Z) (fun b6 aE=>?_);refine S Z (aM aq aE Z J Z) Z ?_;refine S Z (aO hg1.threads Z Z Z (e:=64) J Z) Z ?_;refine S Z (aA Z Z Z) Z ?_;refine S Z (aI Z Z) Z ?_;refine af ?_;refine ad ?_;refine aC Z (fun am=>?_) (fun am=>?_)
 ·have Q:eC l g=2:=by unfold eC;rw[if_neg oM,if_pos (.inr fun e=>mA (cd am) (by rw[e]))]
  refine ai ?_;refine ah Z ?_;refine S Z (aj Z) Z ?_;refine S Z (aj Z) Z ?_;refine af ?_;refine ad ?_;refine aD ?_;refine sV ⟨.inr Z,_,jB Z Z Z,K1,.aB,by rw[Q],A,.inl ⟨by unfold fu;rw[Q,if_neg (by decide)],Z⟩,aq⟩
 have U:l.length=g.threads.length:=iJ_ (nC am);have Q:eC l g=0:=by unfold eC;rw[if_neg oM,if_neg (fun h=>h.elim (fun h=>h av) (fun h=>h U))]
 have a0:jL l (lF l) g:=⟨hR,U,lU⟩;refine aG ?_;refine ga ?_;refine oI<|sk ?_;refine ah Z ?_;refine bH aq Z (ea (cs:=[.aB]) J J) (fun _=>Z) (fun V bv aq=>?_);refine af ?_;refine ga ?_;refine oI<|oI<|sk ?_;refine ah Z ?_;refine S Z (N Z) Z ?_;refine dJ Z (aR Z Z Z J) (fun _=>Z) (Lf hG hl1 ac aq) ?_;rintro _ V ⟨K2,pl,pc,cv,rfl,E,bd,be,bi,aq⟩;have hg2:=hg1.mono E;have hp2:=aa.mono E;refine af ?_;refine ga ?_;refine FL<|C1 aq Z J fun bm bl V aq=>?_;refine(Nk hG (hl1.mono E fun _ _ h=>h.mono E) ac bi lU bd be (I:=Pg g bl bm bv _ L) (fun K' M acc p b2 L' V hle hI hb hp bk aq=>?_) ⟨.aB,[],[],.inl ⟨Z,Z,Z⟩,Z⟩ aq).mono fun _ V ⟨L',⟨u,O1,W,hO,hL⟩,aq⟩=>?_
 ·obtain⟨u,O1,W,hO,rfl⟩:=hI;have hPO:=(sM lU ac).1 p bk;rw[U] at hPO;obtain⟨bs,bt⟩:=Iz hPO;replace aq:=aq.perm (Dw M (O1++W) L _ _ _ _);refine FN aq Z ?_;refine ah Z ?_;refine S Z (aj Z) Z ?_;refine af ?_;refine⟨Z,_,aq,fun V aq=>?_⟩;refine aJ ?_;refine aX (l:=[(0,[]),(1,[]),(2,[]),(3,[0]),(4,[]),(5,[]),(6,[])]) J J ?_;refine al Z Z (aw Z (aq.get 1 Z) J Z) Z ?_;refine al Z Z (bC aq (hp2.mono hle) Z J Z) Z ?_;refine al Z Z (N Z) Z ?_;have h0:=aq.perm (Kw (O1++W) M L _ _ _ _);have hlex:=KP.dQ K' [(b2,.row (p.map gZ) 3 false)]
  have hz:bI (K'.qR [(b2,.row (p.map gZ) 3 false)]) 1 dG p (.slice b2 0 l.length (.known l.length)):=by
   exact AR (b:=b2) (e:=3) (.inr (.head _)) hp oM
  refine fl Z Z (aR Z Z Z J) (fun _=>Z) (Nl hG (hg2.mono<|KP.le_trans hle hlex) hR hz bs (by rw[hp,U]) bt h0.keeps) ?_;rintro _ V ⟨K3,a3,b3,c3,d3,rfl,T,an,a4⟩;obtain⟨N_,a5,hN⟩:=a4.Du T;replace an:dC (KM N_) (Mw p g) a3 b3 c3 d3:=dC.mono (fun b o h=>(hN b o h.1).elim (fun h'=>absurd h' (h.2 o)) id) an;have aq:=h0.wL a5;have bw:V.m.get bv=some (.row [u] 29 false):=(H.gw (M:=N_) aq.pop).get 1 Z;refine⟨aV (a7 Z Z Z Z Z (aw Z bw J Z) (hO.w8 (K:=fun _ _=>False)).dH) bq,?_⟩;refine tT aq Z Z (cM (e:=27) (m:=4) (z:=[.aB,.aB,.aB,.aB]) (cs:=[_,_,_,_]) J J J J<|bB Z Z Z Z cj) (fun _=>Z) (fun V b7 aq=>?_);replace aq:=aq.perm (Kt O1 W N_ M L _ _ _ _ _);refine sL (R:=RG<|KM (N_++W)) (m:=4) (e:=27) (hO.mV fun _ _ h=>h.mono KM.PC) aq (fL (m:=4) (x:=Mw p g) Z ⟨_,_,_,_,Z,an.mono KM.PB⟩) RG.leaf (by rw[lM_];simp;omega) Z Z Z Z Z Z Z Z (fun _=>Z) (fun V bX b0 hO31 aq=>?_);refine⟨bq,?_⟩;refine qI aq (.pJ (.there .here)) Z Z (bz Z Z hO31.leaf.1 (aq.gw.get 1 Z) (m:=1) J Z (Nat.le_of_ble_eq_true Z) (ar hO31.leaf.2 aS) (cells':=[_]) Z) Z (fun V aq=>?_);refine⟨bq,?_⟩;refine bj ?_;refine aH ?_;exact⟨Z,_,aq.perm List.perm_middle,fun V aq=>⟨Z,_,⟨bX,b0,N_++W,by rw[List.map_append];exact hO31,Z⟩,aq.perm<|Ku ..⟩⟩
 subst hL;refine⟨K2,_,aq,fun V aq=>⟨Z,ga<|sk ?_⟩⟩;refine ai ?_;refine ah Z ?_;refine S Z (aj Z) Z ?_;refine af ?_;refine ad ?_;refine ai ?_;refine ah Z ?_;refine S Z (aw Z (aq.get 1 Z) J Z) Z ?_;obtain⟨K3,T,C,aq⟩:=(aq.perm<|Kv O1 W L _ _).eA (M:=W);have hO3:dP 4 27 (RG K3) ((iB l<|lF l).map fun ps=>Mw ps g) u O1:=hO.mV fun _ _ h=>h.mono fun b o hb=>C (b,o) hb
 clear C;refine dJ Z (aR Z Z Z J) (fun _=>Z) (El (m:=4) (c:=dD) oM (Jd iT) hS.k1 Z RG.leaf hO3 (.inl (by intro e;exact v7 a0<|List.map_eq_nil_iff.1 e)) aq fun σ2 h2 x y vx vy hx hy=>?_) ?_
 ·obtain⟨a1,b1,c1,d1,rfl,hx⟩:=hx;obtain⟨a2,b2,c2,d2,rfl,hy⟩:=hy;exact(pk hS.p0 hx.ro hy.ro h2).mono fun _ _ h=>h.1
 rintro _ V ⟨rfl,gs,M2,F,b4,hO4,aq⟩;refine af ?_;refine ad ?_;have hne:gs≠[]:=fun e=>by rw[e] at F;exact v7 a0<|List.map_eq_nil_iff.1 F.symm.eq_nil
 obtain⟨bo,co,eo,cells,rfl,rfl,a9,b5,hlen⟩:=hO4.PW hne;refine ai ?_;refine ah Z ?_;refine S Z (aw Z (aq.get 2 Z) J Z) Z ?_;refine S Z (N Z) Z ?_;refine dJ Z (aR Z Z Z J) (fun _=>Z) (GK hG a9 hlen b5 aq) ?_;rintro _ V ⟨c',cells',ts,rfl,bb,ao,ap,aq⟩;refine S Z (aj Z) Z ?_;refine S Z (aj Z) Z ?_;refine af ?_;refine ad ?_;refine aD ?_;obtain⟨K4,X,C,aq⟩:=aq.eA (M:=[_]);refine FG (bm:=bm) aq fun V aq=>⟨_,jB Z Z Z,K4,_,by rw[Q],KP.le_trans A<|KP.le_trans E<|KP.le_trans T X,?_,aq.pop⟩
 have au:cC dD gs=fu l g:=by
  unfold fu;rw[if_pos Q];exact zQ iT (fun _ _=>trivial) F<|b4.imp fun h=>of_decide_eq_false h
 have hfin:=(ao.mono X).lJ (C _ (.head _)) (n:=(cC dD gs).length) (by rw[lA_];omega) bb ap;rw[List.take_left'] at hfin
 ·rw[au] at hfin⊢;exact hfin
 rfl
end Go.Ev
namespace Go.Ev
variable [Env]
section
variable {α β:Type}
theorem Je {lt:β->β->Bool} (h:Sort.SWO lt) (f:α->β):Sort.SWO fun x y=>lt (f x) (f y):=
 ⟨fun x=>h.irrefl _,fun x y z=>h.trans _ _ _,fun x y z=>h.ntrans _ _ _⟩
variable {c:α->α->Int}
theorem vi {f:α->List β}:∀{l:List α},l.Nodup->(∀x∈l,(f x).Nodup)->(∀x∈l,∀y∈l,x≠y->∀z∈f x,z∉f y)->(l.flatMap f).Nodup
 | [],_,_,_=>List.nodup_nil
 | x::l,h,h1,m=>by
  obtain⟨u,A⟩:=List.nodup_cons.1 h;rw[List.flatMap_cons];refine List.nodup_append.2 ⟨h1 x<|mS_ ..,vi A (fun y hy=>h1 y (mC_ _ hy)) fun y hy z hz=>m y (mC_ _ hy) z (mC_ _ hz),fun a C b hb e=>?_⟩;subst e;obtain⟨y,hy,d⟩:=List.mem_flatMap.1 hb;exact m x (mS_ ..) y (mC_ _ hy) (fun e=>u (e ▸ hy)) a C d
end
section
variable {l:List XC} {cls:List Int}
def fN (l:List XC) (cls:List Int) (g:XG):XG:=((jy l cls g).head?).getD g
theorem A7 {g:XG} (h:jL l cls g):fN l cls g∈jy l cls g:=by
 obtain⟨x,r,e⟩:=rB h;unfold fN;rw[e];exact mS_ ..
theorem vB {g x:XG} (h:jL l cls g) (hx:x∈jy l cls g):fN l cls x=fN l cls g:=by
 have hs:=mf h ((jk h).1 hx);obtain⟨y,r,e⟩:=rB h;unfold fN;rw[hs,e];rfl
theorem oO {g:XG} (h:jL l cls g):jy l cls (fN l cls g)=jy l cls g:=mf h ((jk h).1<|A7 h)
theorem vt {c:XG->XG->Int} (h:qO c fun _=>True) {s:List XG} (hi:r5 c s):s.Nodup:=hi.imp fun {x y} b e=>by
 subst e;exact h.Mq trivial b
theorem Fa {α β:Type} {f:α->List β}:∀{s:List α},(s.map fun x=>(f x).length).sum=(s.flatMap f).length
 | []=>rfl
 | x::s=>by rw[List.map_cons,List.sum_cons,List.flatMap_cons,lA_,Fa]
theorem Gr {all whole:List XG} (d:∀g∈all,jL l cls g) (M:whole.Nodup) (hw:∀x,x∈whole↔∃g∈all,x∈jy l cls g):
  ((oh dD<|whole.map<|fN l cls).map fun x=>(jy l cls x).length).sum=whole.length:=by
 obtain⟨Q,L⟩:=kM iT (l:=whole.map<|fN l cls) fun _ _=>trivial
 have m:∀x∈whole,jL l cls x:=fun x hx=>by
  obtain⟨g,A,C⟩:=(hw x).1 hx;exact(d g A).next ((jk<|d g A).1 C)
 have aa:∀x∈whole,fN l cls x∈whole:=fun x hx=>by
  obtain⟨g,A,C⟩:=(hw x).1 hx;refine(hw _).2 ⟨g,A,?_⟩;have:=A7 (m x hx);rwa[mf (d g A) ((jk<|d g A).1 C)] at this
 have u:∀y,y∈oh dD (whole.map<|fN l cls)->∃x∈whole,fN l cls x=y:=fun y hy=>by
  obtain⟨x,hx,e⟩:=List.mem_map.1 ((L y).1 hy);exact⟨x,hx,e⟩
 rw[Fa]
 have I:((oh dD<|whole.map<|fN l cls).flatMap<|jy l cls).Nodup:=by
  refine vi (vt iT Q) (fun x _=>vt iT rz) fun y hy z hz hne w E F=>?_
  obtain⟨a,G,rfl⟩:=u y hy;obtain⟨b,hb,rfl⟩:=u z hz;rw[oO<|m a G] at E;rw[oO<|m b hb] at F;refine hne ?_;rw[<-vB (m a G) E,<-vB (m b hb) F]
 refine((List.perm_ext_iff_of_nodup I M).2 fun x=>?_).length_eq;rw[List.mem_flatMap];constructor
 ·rintro ⟨y,hy,hx⟩;obtain⟨a,G,rfl⟩:=u y hy;rw[oO<|m a G] at hx;obtain⟨g,A,K⟩:=(hw a).1 G;rw[mf (d g A) ((jk<|d g A).1 K)] at hx;exact(hw x).2 ⟨g,A,hx⟩
 intro hx;refine⟨fN l cls x,(L _).2<|List.mem_map.2 ⟨x,hx,Z⟩,?_⟩;rw[oO<|m x hx];exact vS<|m x hx
end
end Go.Ev
namespace Go.Ev
variable [Env]
open Go.Proofs
set_option maxRecDepth 4000
set_option maxHeartbeats 8000000
structure Qu (g:XG) (u1:Y) (M1:Own) (b2:Nat) (us2:List Y) (M2:Own) (b3:Nat) (us3:List Y) (M3:Own) (b4:Nat) (us4:List Y) (M4:Own):Prop where
 init:dP 1 2 dG g.init u1 M1
 threads:gb 5 92 qQ g.threads us2 M2
 from_:gb 2 59 nh g.from_ us3 M3
 order:gb 2 59 nh g.order us4 M4
theorem Cb {G:Cx} (d:Plain G) {K:KP} (e:cq) {V:B} {L:Own} (aq:H V K L):aT Tryz.prog G 100 [.agg<|ints e.ints] V fun v V'=>v= .bool (dw e)/\H V' K L:=by
 refine Qf d Tryz.func100 Z<|PK 2 Z<|kp aq Z (cL Z Z) (fun V b1 aq=>?_);refine OY 5 Z<|Qn aq 3 [0,0] Z Z<|ky Z (N Z) (fun b=>?_) (fun b=>?_)
 ·refine PN 8 Z ?_;exact ay Z Z ⟨cB (by unfold dw;simp only[b,ct,cf]),aq.pop⟩
 refine PR aq 8 [0,0] Z Z ?_;exact ay Z Z ⟨cB (by unfold dw;simp only[b,ct,cf]),aq.pop⟩
theorem mn {G:Cx} (d:Plain G) {K:KP} (e:cq) {V:B} {L:Own} (aq:H V K L):aT Tryz.prog G 101 [.agg<|ints e.ints] V fun v V'=>v= .bool (br e)/\H V' K L:=by
 refine Qf d Tryz.func101 Z<|PK 2 Z<|kp aq Z (cL Z Z) (fun V b1 aq=>?_);refine OY 5 Z<|Qn aq 3 [0,0] Z Z<|ky Z (N Z) (fun b=>?_) (fun b=>?_)
 ·refine PN 8 Z ?_;exact ay Z Z ⟨cB (by unfold br;simp only[b,ct,cf]),aq.pop⟩
 refine PR aq 8 [0,0] Z Z ?_;exact ay Z Z ⟨cB (by unfold br;simp only[b,ct,cf]),aq.pop⟩
theorem wR {G:Cx} (hG:Plain G) {K:KP} {g:XG} {a b c d:Y} (h:dC K g a b c d) (th ix:Int) {V:B} {L:Own} (aq:H V K L):aT Tryz.prog G 102 [.agg [a,b,c,d],.agg [.int .i64 th,.int .i64 ix]] V fun v V'=>v= .tuple [.agg<|ints (uU<|dR g ⟨th,ix⟩).ints,.bool (dR g ⟨th,ix⟩).isSome]/\H V' K L:=by
 have h':=h;obtain⟨hi,U,hf,ho⟩:=h';refine Qf hG Tryz.func102 Z<|PK 2 Z<|kp aq Z (cL Z Z) (fun V b1 aq=>?_);refine kp aq Z (cL Z Z) (fun V b2 aq=>?_);refine kp aq Z (Q0 (cs:=[iZ,iZ,iZ,iZ,iZ])) (fun V b3 aq=>?_);refine Oh 6 Z<|Qn aq 3 [0,1] Z Z<|PM 2 Z<|aC Z (fun T=>?_) (fun T=>?_)
 ·refine Pa aq 6 [1,1] Z Z<|ky Z (N Z) (fun C=>?_) (fun C=>?_)
  ·refine OY 12 Z (S Z (QU (places:=[(0,1),(1,1),(2,1),(3,1),(4,1)]) (zero:=[iZ,iZ,iZ,iZ,iZ]) (cs:=[_,_,_,_,_]) Z) Z<|db aq Z (Q6 Z Z Z aq.g0 (m:=5) Z Z (cells':=[_,_,_,_,_]) Z) Z (fun V aq=>?_));refine PN 4 Z<|az<|az (?_);exact eN Z Z aq.g0 (m:=5) J Z Z ⟨by rw[oH C];rfl,aq.pop.pop.pop⟩
  refine Qn aq 4 [1,1,0,2] Z Z<|S Z (QZ hi Z Z Z (e:=2) Z) Z<|PM 4 Z<|aC Z (fun I=>?_) (fun I=>?_)
  ·obtain⟨ixn,rfl⟩:=mF C;obtain rfl:th=0:=by rw[cR] at T;simpa using T
   refine PK 2 Z (S Z (QU (places:=[(0,1),(1,1),(2,1),(3,1),(4,1)]) (zero:=[iZ,iZ,iZ,iZ,iZ]) (cs:=[_,_,_,_,_]) Z) Z<|db aq Z (Q6 Z Z Z aq.g0 (m:=5) Z Z (cells':=[_,_,_,_,_]) Z) Z (fun V aq=>?_));refine PN 4 Z<|az<|az (?_);exact eN Z Z aq.g0 (m:=5) J Z Z ⟨by rw[show dR g _=none from by show(g.init[ixn]?).map _=_;rw[gN_<|ik I];rfl];rfl,aq.pop.pop.pop⟩
  obtain⟨ixn,rfl⟩:=mF C;obtain rfl:th=0:=by rw[cR] at T;simpa using T
  refine aG<|ad<|ai<|aX (l:=zp [0,1,2,3,4,5,6,7,8,9,10]) J J<|Qo aq 6 [1,1,0,2,1,1] Z Z ?_;obtain⟨a5,E⟩:=cF (iy I);refine QR (e:=2) (m:=1) hi E Z Z Z Z Z (fun a9 au W av X=>?_);obtain rfl:=X;refine al Z Z (Q4 aq W Z Z) Z (al Z Z (QU (places:=[(0,1),(1,1),(2,1),(3,1),(4,1)]) (zero:=[iZ,iZ,iZ,iZ,iZ]) (cs:=[_,_,_,_,_]) Z) Z<|vW aq Z Z (Q6 Z Z Z aq.g0 (m:=5) Z Z (cells':=[_,_,_,_,_]) Z) Z (fun V aq=>?_));refine⟨bq,?_⟩;refine PQ 3 Z<|PL 2 Z ?_;exact eN Z Z aq.g0 (m:=5) J Z Z ⟨by rw[show dR g _=some _ from by show(g.init[ixn]?).map _=_;rw[E];rfl];rfl,aq.pop.pop.pop⟩
 refine aG<|ad<|ai<|ai<|aX (l:=zp [0,1,2,3,4,5,6,7,8,9,10,11,12,13,14,15,16,17,18,19,20,21,22,23,24,25,26,27,28]) J J<|Qo aq 3 [0,1] Z Z<|oU Z Z (N Z) (fun _=>Z) (fun M=>?_) (fun M=>?_)
 ·refine PQ 28 Z (PK 2 Z (S Z (QU (places:=[(0,1),(1,1),(2,1),(3,1),(4,1)]) (zero:=[iZ,iZ,iZ,iZ,iZ]) (cs:=[_,_,_,_,_]) Z) Z<|db aq Z (Q6 Z Z Z aq.g0 (m:=5) Z Z (cells':=[_,_,_,_,_]) Z) Z (fun V aq=>?_)));refine OZ 5 Z ?_;exact eN Z Z aq.g0 (m:=5) J Z Z ⟨by rw[sj M];rfl,aq.pop.pop.pop⟩
 refine Qo aq 4 [0,1,1,2] Z Z<|al Z Z (QZ U Z Z Z (e:=64) Z) Z<|Qm 2 Z<|oU Z Z (N Z) (fun _=>Z) (fun A=>?_) (fun A=>?_)
 ·refine PQ 20 Z (PK 2 Z (S Z (QU (places:=[(0,1),(1,1),(2,1),(3,1),(4,1)]) (zero:=[iZ,iZ,iZ,iZ,iZ]) (cs:=[_,_,_,_,_]) Z) Z<|db aq Z (Q6 Z Z Z aq.g0 (m:=5) Z Z (cells':=[_,_,_,_,_]) Z) Z (fun V aq=>?_)));refine OZ 5 Z ?_;exact eN Z Z aq.g0 (m:=5) J Z Z ⟨by rw[AI A];rfl,aq.pop.pop.pop⟩
 refine Qo aq 4 [1,1] Z Z<|oU Z Z (N Z) (fun _=>Z) (fun Q=>?_) (fun Q=>?_)
 ·refine PQ 15 Z (PK 2 Z (S Z (QU (places:=[(0,1),(1,1),(2,1),(3,1),(4,1)]) (zero:=[iZ,iZ,iZ,iZ,iZ]) (cs:=[_,_,_,_,_]) Z) Z<|db aq Z (Q6 Z Z Z aq.g0 (m:=5) Z Z (cells':=[_,_,_,_,_]) Z) Z (fun V aq=>?_)));refine OZ 5 Z ?_;exact eN Z Z aq.g0 (m:=5) J Z Z ⟨by rw[oH Q];rfl,aq.pop.pop.pop⟩
 refine Qo aq 7 [1,1,1,2,0,1] Z Z ?_;obtain⟨tn,rfl⟩:=mF M;obtain⟨tm,rfl⟩:=E8 T;obtain⟨ixn,rfl⟩:=mF Q;obtain⟨bb,u⟩:=cF (show tm<g.threads.length from by have:=l8 A;omega);refine QR (e:=64) (m:=1) U u Z Z Z Z (cI<|gy (by have:=l8 A;have:=U.bM;omega)) (fun bd aE aa a0 ab=>?_);have hr54':=ab;obtain⟨be,rfl,ac⟩:=hr54';refine al Z Z (Q4 aq aa Z Z) Z<|al Z Z (QZ ac Z Z Z (e:=92) Z) Z<|PQ 4 Z<|aC Z (fun R=>?_) (fun R=>?_)
 ·refine PK 2 Z (S Z (QU (places:=[(0,1),(1,1),(2,1),(3,1),(4,1)]) (zero:=[iZ,iZ,iZ,iZ,iZ]) (cs:=[_,_,_,_,_]) Z) Z<|db aq Z (Q6 Z Z Z aq.g0 (m:=5) Z Z (cells':=[_,_,_,_,_]) Z) Z (fun V aq=>?_));refine OZ 5 Z ?_;exact eN Z Z aq.g0 (m:=5) J Z Z ⟨by rw[show dR g _=none from by show(g.threads[tm]?).bind _=_;rw[u];exact gN_<|ik R];rfl,aq.pop.pop.pop⟩
 refine aG<|ad<|ai<|aX (l:=zp [0,1,2,3,4,5,6,7,8,9,10,11,12]) J J<|Qo aq 5 [1,2,0,1] Z Z<|QR (e:=64) (m:=1) U u Z Z Z Z (cI<|gy (by have:=l8 A;have:=U.bM;omega)) (fun bi a1 ak a2 am=>?_);have hr65':=am;obtain⟨bk,rfl,an⟩:=hr65';refine al Z Z (Q4 aq ak Z Z) Z<|Qo aq 2 [1,1] Z Z ?_;obtain⟨bl,F⟩:=cF (iy R);refine QR (e:=92) (m:=5) an F Z Z Z Z Z (fun bm a3 ao a4 ap=>?_);obtain rfl:=ap;refine al Z Z (Q5 aq ao Z Z) Z<|vW aq Z Z (Q6 Z Z Z aq.g0 (m:=5) Z Z (cells':=[_,_,_,_,_]) Z) Z (fun V aq=>?_);refine⟨bq,?_⟩;refine PQ 3 Z<|aD ?_;exact eN Z Z aq.g0 (m:=5) J Z Z ⟨by rw[show dR g _=some _ from by show(g.threads[tm]?).bind _=_;rw[u];exact F];rfl,aq.pop.pop.pop⟩
theorem zZ {G:Cx} (hG:Plain G) {K:KP} {g:XG} {a b c d:Y} (h:dC K g a b c d) (mo:Int) {V:B} {L:Own} (aq:H V K L):aT Tryz.prog G 7 [.agg [a,b,c,d],.int .i64 mo] V fun v V'=>∃q,v= .bool q/\H V' K L:=by
 have h':=h;obtain⟨hi,ht,hf,X⟩:=h';refine Qf hG Tryz.func7 Z<|PK 2 Z<|kp aq Z (cL Z Z) (fun V b1 aq=>?_);refine OY 7 Z<|Qn aq 2 [0,0] Z Z<|S Z (QZ hi Z Z Z (e:=2) Z) Z<|S Z (oq Z Z Z Z) Z<|Qn aq 4 [1,0] Z Z<|S Z (QZ ht Z Z Z (e:=64) Z) Z<|S Z (oq Z Z Z Z) Z<|Qn aq 5 [2,0] Z Z<|S Z (QZ hf Z Z Z (e:=57) Z) Z<|S Z (oq Z Z Z Z) Z<|Qn aq 5 [3,0] Z Z<|S Z (QZ X Z Z Z (e:=57) Z) Z<|S Z (oq Z Z Z Z) Z<|Oh 8 Z ?_;refine OX 3 Z ?_;obtain⟨LL1,aq,hLL1⟩:=aq.named;refine ba ([5,6]++rg 36 23) (fun j t V=>∃(i:Nat) (m:Int),j+i=g.threads.length/\t.get 5=some (.int .i64 m)/\t.get 6=some (.int .i64 (.ofNat i))/\H V K LL1) (g.threads.length) ⟨0,_,Z,Z,Z,aq⟩ ?_;clear aq;intro j3 t V an hI;obtain⟨i,m,bw,F,be,aq⟩:=hI;subst hLL1;obtain⟨oo,rfl⟩:=an.q2 F be Z;refine Pa aq 6 [1,0] Z Z<|S Z (QZ ht Z Z Z (e:=64) Z) Z<|vQ 1 Z<|ky Z (N Z) (fun a1=>?_) (fun a1=>?_)
 ·refine PM 6 Z<|aC Z (fun bi=>?_) (fun bi=>?_)
  ·refine aG<|OU 2 Z<|ah Z<|Qn aq 6 [1,0] Z Z ?_;obtain⟨bX,a2,bs⟩:=cO a1;refine QQ (e:=64) (m:=1) ht a2 Z Z Z Z (fun b0 bt a3 bv a4=>?_);have hr54':=a4;obtain⟨b2,rfl,a5⟩:=hr54';refine S Z (Q4 aq a3 Z Z) Z<|S Z (QZ a5 Z Z Z (e:=92) Z) Z<|S Z (oq Z Z Z Z) Z<|Ql 2 Z<|af<|aH<|Qj 5 Z<|aL ⟨j3-1,by omega,oF,i+1,_,by omega,Z,cI<|aZ (by have:=ht.bM;omega),aq⟩
  refine OW 3 Z<|aN<|OU 7 Z ?_;obtain⟨LL2,aq,hLL2⟩:=aq.named;refine ba ([5,7]++rg 59 24) (fun j t V=>∃(i:Nat) (m:Int),j+i=g.from_.length/\t.get 5=some (.int .i64 m)/\t.get 7=some (.int .i64 (.ofNat i))/\H V K LL2) (g.from_.length) ⟨0,_,Z,Z,Z,aq⟩ ?_;clear aq;intro j7 t V an hI;obtain⟨i,m,bk,F,aE,aq⟩:=hI;subst hLL2;obtain⟨oo,rfl⟩:=an.q2 F aE Z;refine Pa aq 6 [2,0] Z Z<|S Z (QZ hf Z Z Z (e:=57) Z) Z<|vQ 1 Z<|ky Z (N Z) (fun aa=>?_) (fun aa=>?_)
  ·refine PM 7 Z<|aC Z (fun a0=>?_) (fun a0=>?_)
   ·refine aG<|OU 2 Z<|ah Z<|Qn aq 6 [2,0] Z Z ?_;obtain⟨bl,ab,a9⟩:=cO aa;refine QQ (e:=57) (m:=1) hf ab Z Z Z Z (fun bm bb ac bd ak=>?_);have hr78':=ak;obtain⟨bo,rfl,am⟩:=hr78';refine S Z (Q4 aq ac Z Z) Z<|S Z (QZ am Z Z Z (e:=59) Z) Z<|S Z (oq Z Z Z Z) Z<|Ql 2 Z<|af<|aH<|Qj 5 Z<|aL ⟨j7-1,by omega,oF,i+1,_,by omega,Z,cI<|aZ (by have:=hf.bM;omega),aq⟩
   refine OW 3 Z<|aN<|OU 7 Z ?_;obtain⟨LL3,aq,hLL3⟩:=aq.named;refine ba ([5,8]++rg 83 24) (fun j t V=>∃(i:Nat) (m:Int),j+i=g.order.length/\t.get 5=some (.int .i64 m)/\t.get 8=some (.int .i64 (.ofNat i))/\H V K LL3) (g.order.length) ⟨0,_,Z,Z,Z,aq⟩ ?_;clear aq;intro M t V an hI;obtain⟨i,m,ao,F,Q,aq⟩:=hI;subst hLL3;obtain⟨oo,rfl⟩:=an.q2 F Q Z;refine Pa aq 6 [3,0] Z Z<|S Z (QZ X Z Z Z (e:=57) Z) Z<|vQ 1 Z<|ky Z (N Z) (fun I=>?_) (fun I=>?_)
   ·refine PM 7 Z<|aC Z (fun R=>?_) (fun R=>?_)
    ·refine aG<|OU 2 Z<|ah Z<|Qn aq 6 [3,0] Z Z ?_;obtain⟨ap,u,T⟩:=cO I;refine QQ (e:=57) (m:=1) X u Z Z Z Z (fun au U A W C=>?_);have hr102':=C;obtain⟨av,rfl,E⟩:=hr102';refine S Z (Q4 aq A Z Z) Z<|S Z (QZ E Z Z Z (e:=59) Z) Z<|S Z (oq Z Z Z Z) Z<|Ql 2 Z<|af<|aH<|Qj 5 Z<|aL ⟨M-1,by omega,oF,i+1,_,by omega,Z,cI<|aZ (by have:=X.bM;omega),aq⟩
    refine OW 3 Z<|aN<|Qk 10 Z ?_;exact ay Z Z ⟨_,Z,aq.pop⟩
   refine O0 10 Z<|aQ<|aN<|Qk 10 Z ?_;exact ay Z Z ⟨_,Z,aq.pop⟩
  refine O0 10 Z<|aQ<|aN<|OU 7 Z ?_;obtain⟨LL4,aq,hLL4⟩:=aq.named;refine ba ([5,8]++rg 83 24) (fun j t V=>∃(i:Nat) (m:Int),j+i=g.order.length/\t.get 5=some (.int .i64 m)/\t.get 8=some (.int .i64 (.ofNat i))/\H V K LL4) (g.order.length) ⟨0,_,Z,Z,Z,aq⟩ ?_;clear aq;intro M t V an hI;obtain⟨i,m,ao,F,Q,aq⟩:=hI;subst hLL4;obtain⟨oo,rfl⟩:=an.q2 F Q Z;refine Pa aq 6 [3,0] Z Z<|S Z (QZ X Z Z Z (e:=57) Z) Z<|vQ 1 Z<|ky Z (N Z) (fun I=>?_) (fun I=>?_)
  ·refine PM 7 Z<|aC Z (fun R=>?_) (fun R=>?_)
   ·refine aG<|OU 2 Z<|ah Z<|Qn aq 6 [3,0] Z Z ?_;obtain⟨ap,u,T⟩:=cO I;refine QQ (e:=57) (m:=1) X u Z Z Z Z (fun au U A W C=>?_);have hr102':=C;obtain⟨av,rfl,E⟩:=hr102';refine S Z (Q4 aq A Z Z) Z<|S Z (QZ E Z Z Z (e:=59) Z) Z<|S Z (oq Z Z Z Z) Z<|Ql 2 Z<|af<|aH<|Qj 5 Z<|aL ⟨M-1,by omega,oF,i+1,_,by omega,Z,cI<|aZ (by have:=X.bM;omega),aq⟩
   refine OW 3 Z<|aN<|Qk 10 Z ?_;exact ay Z Z ⟨_,Z,aq.pop⟩
  refine O0 10 Z<|aQ<|aN<|Qk 10 Z ?_;exact ay Z Z ⟨_,Z,aq.pop⟩
 refine O0 9 Z<|aQ<|aN<|OU 7 Z ?_;obtain⟨LL5,aq,hLL5⟩:=aq.named;refine ba ([5,7]++rg 59 24) (fun j t V=>∃(i:Nat) (m:Int),j+i=g.from_.length/\t.get 5=some (.int .i64 m)/\t.get 7=some (.int .i64 (.ofNat i))/\H V K LL5) (g.from_.length) ⟨0,_,Z,Z,Z,aq⟩ ?_;clear aq;intro j7 t V an hI;obtain⟨i,m,bk,F,aE,aq⟩:=hI;subst hLL5;obtain⟨oo,rfl⟩:=an.q2 F aE Z;refine Pa aq 6 [2,0] Z Z<|S Z (QZ hf Z Z Z (e:=57) Z) Z<|vQ 1 Z<|ky Z (N Z) (fun aa=>?_) (fun aa=>?_)
 ·refine PM 7 Z<|aC Z (fun a0=>?_) (fun a0=>?_)
  ·refine aG<|OU 2 Z<|ah Z<|Qn aq 6 [2,0] Z Z ?_;obtain⟨bl,ab,a9⟩:=cO aa;refine QQ (e:=57) (m:=1) hf ab Z Z Z Z (fun bm bb ac bd ak=>?_);have hr78':=ak;obtain⟨bo,rfl,am⟩:=hr78';refine S Z (Q4 aq ac Z Z) Z<|S Z (QZ am Z Z Z (e:=59) Z) Z<|S Z (oq Z Z Z Z) Z<|Ql 2 Z<|af<|aH<|Qj 5 Z<|aL ⟨j7-1,by omega,oF,i+1,_,by omega,Z,cI<|aZ (by have:=hf.bM;omega),aq⟩
  refine OW 3 Z<|aN<|OU 7 Z ?_;obtain⟨LL6,aq,hLL6⟩:=aq.named;refine ba ([5,8]++rg 83 24) (fun j t V=>∃(i:Nat) (m:Int),j+i=g.order.length/\t.get 5=some (.int .i64 m)/\t.get 8=some (.int .i64 (.ofNat i))/\H V K LL6) (g.order.length) ⟨0,_,Z,Z,Z,aq⟩ ?_;clear aq;intro M t V an hI;obtain⟨i,m,ao,F,Q,aq⟩:=hI;subst hLL6;obtain⟨oo,rfl⟩:=an.q2 F Q Z;refine Pa aq 6 [3,0] Z Z<|S Z (QZ X Z Z Z (e:=57) Z) Z<|vQ 1 Z<|ky Z (N Z) (fun I=>?_) (fun I=>?_)
  ·refine PM 7 Z<|aC Z (fun R=>?_) (fun R=>?_)
   ·refine aG<|OU 2 Z<|ah Z<|Qn aq 6 [3,0] Z Z ?_;obtain⟨ap,u,T⟩:=cO I;refine QQ (e:=57) (m:=1) X u Z Z Z Z (fun au U A W C=>?_);have hr102':=C;obtain⟨av,rfl,E⟩:=hr102';refine S Z (Q4 aq A Z Z) Z<|S Z (QZ E Z Z Z (e:=59) Z) Z<|S Z (oq Z Z Z Z) Z<|Ql 2 Z<|af<|aH<|Qj 5 Z<|aL ⟨M-1,by omega,oF,i+1,_,by omega,Z,cI<|aZ (by have:=X.bM;omega),aq⟩
   refine OW 3 Z<|aN<|Qk 10 Z ?_;exact ay Z Z ⟨_,Z,aq.pop⟩
  refine O0 10 Z<|aQ<|aN<|Qk 10 Z ?_;exact ay Z Z ⟨_,Z,aq.pop⟩
 refine O0 10 Z<|aQ<|aN<|OU 7 Z ?_;obtain⟨LL7,aq,hLL7⟩:=aq.named;refine ba ([5,8]++rg 83 24) (fun j t V=>∃(i:Nat) (m:Int),j+i=g.order.length/\t.get 5=some (.int .i64 m)/\t.get 8=some (.int .i64 (.ofNat i))/\H V K LL7) (g.order.length) ⟨0,_,Z,Z,Z,aq⟩ ?_;clear aq;intro M t V an hI;obtain⟨i,m,ao,F,Q,aq⟩:=hI;subst hLL7;obtain⟨oo,rfl⟩:=an.q2 F Q Z;refine Pa aq 6 [3,0] Z Z<|S Z (QZ X Z Z Z (e:=57) Z) Z<|vQ 1 Z<|ky Z (N Z) (fun I=>?_) (fun I=>?_)
 ·refine PM 7 Z<|aC Z (fun R=>?_) (fun R=>?_)
  ·refine aG<|OU 2 Z<|ah Z<|Qn aq 6 [3,0] Z Z ?_;obtain⟨ap,u,T⟩:=cO I;refine QQ (e:=57) (m:=1) X u Z Z Z Z (fun au U A W C=>?_);have hr102':=C;obtain⟨av,rfl,E⟩:=hr102';refine S Z (Q4 aq A Z Z) Z<|S Z (QZ E Z Z Z (e:=59) Z) Z<|S Z (oq Z Z Z Z) Z<|Ql 2 Z<|af<|aH<|Qj 5 Z<|aL ⟨M-1,by omega,oF,i+1,_,by omega,Z,cI<|aZ (by have:=X.bM;omega),aq⟩
  refine OW 3 Z<|aN<|Qk 10 Z ?_;exact ay Z Z ⟨_,Z,aq.pop⟩
 refine O0 10 Z<|aQ<|aN<|Qk 10 Z ?_;exact ay Z Z ⟨_,Z,aq.pop⟩
def dI (l:List XC) (g:XG):XG:=if eC l g=0 then fN l (lF l) g else XG.nil
theorem ry {l:List XC} {g:XG} (h:eC l g=0):jL l (lF l) g/\l.length<=4:=by
 unfold eC at h;split at h
 ·cases h
 split at h
 ·cases h
 rename_i h1 b;have d:cy g=0:=Classical.byContradiction fun hh=>b (.inl hh)
 have h4:l.length=g.threads.length:=Classical.byContradiction fun hh=>b (.inr hh)
 exact⟨⟨eK.1 d,h4,lU⟩,by omega⟩
theorem ji {l:List XC} {g:XG} (h:eC l g=0):fu l g=jy l (lF l) g:=if_pos h
theorem l9 {l:List XC} {g:XG} (h:eC l g=0):(fu l g)[0]? =some (dI l g):=by
 obtain⟨x,r,hx⟩:=rB (ry h).1;unfold dI fN;rw[ji h,if_pos h,hx];rfl
theorem La {G R:Cx} (M:Nt G R) {K:KP} {k:Nat} {l:List XC} {lv:Y} (hl:bI K 2 (jF K k) l lv) {g:XG} {a b c d:Y} (T:dC K g a b c d) {V:B} {L:Own} (aq:H V K L):
  aT Tryz.prog G 17 [lv,.agg [a,b,c,d]] V fun v V'=>∃K' a' b' c' d',v= .tuple [.agg [a',b',c',d'],.int .i64<|eC l g]/\KP.le K K'/\dC K' (dI l g) a' b' c' d'/\H V' K' L:=by
 have hG:=M.p;refine aW hG Tryz.func17 Z (t:=(D.leaf.put (some (lv)) 0).put (some (.agg [a,b,c,d])) 1) (by rfl) ?_;refine ai ?_;refine ah Z ?_;refine bH aq Z (cL Z Z) (fun _=>Z) (fun V b1 aq=>?_);refine bH aq Z (ea (cs:=[.aB,.aB,.aB,.aB]) J J) (fun _=>Z) (fun V b2 aq=>?_);refine S Z (aj Z) Z ?_;refine af ?_;refine ad ?_;refine ai ?_;refine ah Z ?_;refine S Z (N Z) Z ?_;refine S Z (bA Z (aq.get 1 Z) (n:=4) (vs:=[_,_,_,_]) J (Nat.le_of_ble_eq_true Z) Z) Z ?_;refine dJ Z (aR Z Z Z J) (fun _=>Z) (ur M hl T aq) ?_;rintro _ V ⟨Q,ac,rfl,C,E,aq⟩;refine S Z (N Z) Z ?_;refine S Z (bK Z Z) Z ?_;refine S Z (bK Z Z) Z ?_;refine S Z (aj Z) Z ?_;refine S Z (aj Z) Z ?_;refine af ?_;refine ad ?_;refine ai ?_;refine ai ?_;refine ah Z ?_;refine S Z (N Z) Z ?_;refine S Z (aA Z Z Z) Z ?_;refine af ?_;refine ad ?_;refine aC Z (fun A=>?_) (fun A=>?_)
 ·refine ai ?_;refine ah Z ?_;refine S Z (dW (places:=[(0,1),(1,1),(2,1),(3,1)]) (zero:=[.aB,.aB,.aB,.aB]) (cs:=[_,_,_,_]) J J J Z J) Z ?_;refine S Z (N Z) Z ?_;refine db aq Z (bz Z Z Z (aq.get 0 Z) (m:=4) J Z (Nat.le_of_ble_eq_true Z) (ar Z<|ar Z<|ar Z<|ar Z aS) (cells':=[_,_,_,_]) Z) Z (fun V aq=>?_);refine S Z (aj Z) Z ?_;refine af ?_;refine ad ?_;refine aD ?_;refine az (?_);exact⟨.inr Z,_,mL Z Z (aq.get 0 Z) (m:=4) J Z Z,Q,_,_,_,_,Z,C,by unfold dI;rw[if_neg<|mA<|cd A];exact dC.zero,aq.pop.pop⟩
 refine aG ?_;refine ad ?_;refine ai ?_;refine ah Z ?_;refine S Z (N Z) Z ?_;refine bO (e:=27) (m:=4) E (l9<|nC A) Z Z J J Z Z (fun _=>Z) (fun ak aa F ab I=>?_);have hr19':=I;obtain⟨am,an,ao,ap,rfl,u⟩:=hr19';refine S Z (bC aq F Z J Z) Z ?_;refine db aq Z (bz Z Z Z (aq.get 0 Z) (m:=4) J Z (Nat.le_of_ble_eq_true Z) (ar u.init.leaf.2<|ar u.threads.leaf.2<|ar u.from_.leaf.2<|ar u.order.leaf.2 aS) (cells':=[_,_,_,_]) Z) Z (fun V aq=>?_);refine S Z (aj Z) Z ?_;refine af ?_;refine ad ?_;refine aD ?_;have hE:=nC A;exact⟨.inr Z,_,mL Z Z (aq.get 0 Z) (m:=4) J Z Z,Q,_,_,_,_,by rw[hE],C,u,aq.pop.pop⟩
theorem zV {G I:Cx} (E:Nt G I) {K:KP} {k:Nat} {l:List XC} {lv:Y} (hl:bI K 2 (jF K k) l lv) {g:XG} {a b c d:Y} (F:dC K g a b c d) {V:B} {L:Own} (aq:H V K L):
  aT Tryz.prog G 22 [lv,.agg [a,b,c,d]] V fun v V'=>v= .bool (bif bD (eC l g) 0 then bD (dD (dI l g) g) 0 else false)/\H V' K L:=by
 have hG:=E.p;refine aW hG Tryz.func22 Z (t:=(D.leaf.put (some (lv)) 0).put (some (.agg [a,b,c,d])) 1) (by rfl) ?_;refine ai ?_;refine ah Z ?_;refine bH aq Z (cL Z Z) (fun _=>Z) (fun V b1 aq=>?_);refine S Z (aj Z) Z ?_;refine af ?_;refine ad ?_;refine ai ?_;refine ah Z ?_;refine S Z (N Z) Z ?_;refine S Z (bA Z (aq.get 0 Z) (n:=4) (vs:=[_,_,_,_]) J (Nat.le_of_ble_eq_true Z) Z) Z ?_;refine dJ Z (aR Z Z Z J) (fun _=>Z) (La E hl F aq) ?_;rintro _ V ⟨K1,aa,ab,pP,ac,rfl,A,u,aq⟩;have hg1:=F.mono A;refine S Z (N Z) Z ?_;refine S Z (bK Z Z) Z ?_;refine S Z (bK Z Z) Z ?_;refine bH aq Z (ea (cs:=[.aB,.aB,.aB,.aB]) J J) (fun _=>Z) (fun V b2 aq=>?_);refine db aq Z (bz Z Z Z (aq.get 0 Z) (m:=4) J Z (Nat.le_of_ble_eq_true Z) (ar u.init.leaf.2<|ar u.threads.leaf.2<|ar u.from_.leaf.2<|ar u.order.leaf.2 aS) (cells':=[_,_,_,_]) Z) Z (fun V aq=>?_);refine S Z (aj Z) Z ?_;refine af ?_;refine ad ?_;refine ai ?_;refine ah Z ?_;refine S Z (N Z) Z ?_;refine S Z (aA Z Z Z) Z ?_;refine bg Z (N Z) (fun _=>Z) (fun C=>?_) (fun C=>?_)
 ·refine S Z (bA Z (aq.get 0 Z) (n:=4) (vs:=[_,_,_,_]) J (Nat.le_of_ble_eq_true Z) Z) Z ?_;refine S Z (bA Z (aq.get 1 Z) (n:=4) (vs:=[_,_,_,_]) J (Nat.le_of_ble_eq_true Z) Z) Z ?_;refine bh Z (aR Z Z Z J) (fun _=>Z) (pk hG u hg1 aq) (fun V aq=>?_);refine S Z (aA Z Z Z) Z ?_;refine S Z (aI Z Z) Z ?_;refine S Z (aj Z) Z ?_;refine af ?_;refine ad ?_;refine aD ?_;exact ay Z Z ⟨by rw[show bD (eC l g) 0=true from C];rfl,(aq.pop.pop).weaken A⟩
 refine ae Z Z ?_;refine ae Z Z ?_;refine ae Z Z ?_;refine ae Z Z ?_;refine S Z (aI Z Z) Z ?_;refine S Z (aj Z) Z ?_;refine af ?_;refine ad ?_;refine aD ?_;exact ay Z Z ⟨by rw[show bD (eC l g) 0=false from C];rfl,(aq.pop.pop).weaken A⟩
theorem BX {G:Cx} (hG:Plain G) {K:KP} {l1 l2:List XG} {W X:Y} (h1:bI K 4 (RG K) l1 W) (h2:bI K 4 (RG K) l2 X) {V:B} {L:Own} (aq:H V K L):
  aT Tryz.prog G 21 [W,X] V fun v V'=>(∃q,v= .bool q/\(q=true↔l1=l2))/\H V' K L:=by
 refine aW hG Tryz.func21 Z (t:=(D.leaf.put (some (W)) 0).put (some (X)) 1) (by rfl) ?_;refine ai ?_;refine ah Z ?_;refine S Z (aj Z) Z ?_;refine af ?_;refine ad ?_;refine ai ?_;refine ai ?_;refine ah Z ?_;refine S Z (N Z) Z ?_;refine S Z (aO h1 Z Z Z (e:=27) J Z) Z ?_;refine S Z (N Z) Z ?_;refine S Z (aO h2 Z Z Z (e:=27) J Z) Z ?_;refine S Z (aA Z Z Z) Z ?_;refine af ?_;refine ad ?_;refine aC Z (fun C=>?_) (fun C=>?_)
 ·refine ai ?_;refine ah Z ?_;refine S Z (aj Z) Z ?_;refine af ?_;refine ad ?_;refine aD ?_;refine az (?_);exact ay Z Z ⟨⟨_,Z,fun h=>absurd h (by decide),fun e=>absurd (congrArg (fun x=>Int.ofNat x.length) e) (mA<|cd C)⟩,aq⟩
 have ap:l1.length=l2.length:=iJ_ (nC C);refine aG ?_;refine ad ?_;refine ai ?_;refine ai ?_;refine ah Z ?_;refine S Z (aj Z) Z ?_;refine af ?_;refine ad ?_;refine aJ ?_;obtain⟨LL1,aq,hLL1⟩:=aq.named;refine ba [4,5,11,12,13,14,15,16,17,18,19,20,21,22,23,24,25,26] (fun j t V=>∃(i:Nat),(j+i=l1.length/\l1.take i=l2.take i)/\t.get 5=some (.int .i64 (.ofNat i))/\H V K LL1) (l1.length) ⟨0,⟨Z,Z⟩,Z,aq⟩ ?_;clear aq;intro j4 t V an hI;obtain⟨i,⟨au,u⟩,E,aq⟩:=hI;subst hLL1;replace an:=an.bR Z Z;obtain⟨o4,o5,av,aE,a0,a1,a2,a3,an⟩:=an;replace an:=an.bR Z Z;obtain⟨a4,a5,a9,bb,bd,be,bi,bk,an⟩:=an;replace an:=an.eb Z;obtain⟨bl,an⟩:=an;replace an:=an.eb Z;obtain⟨bm,an⟩:=an;obtain rfl:=an.nil;clear an;replace E:o5=some _:=E;subst E;refine ai ?_;refine ai ?_;refine ah Z ?_;refine S Z (N Z) Z ?_;refine S Z (N Z) Z ?_;refine S Z (aO h1 Z Z Z (e:=27) J Z) Z ?_;refine S Z (aA Z Z Z) Z ?_;refine af ?_;refine ad ?_;refine aC Z (fun d=>?_) (fun d=>?_)
 ·refine aG ?_;refine ad ?_;refine ai ?_;refine aJ ?_;refine ai ?_;refine aX (l:=[(0,[]),(1,[]),(2,[]),(3,[]),(4,[]),(5,[]),(6,[]),(7,[]),(8,[]),(9,[])]) J J ?_;refine al Z Z (N Z) Z ?_;refine al Z Z (N Z) Z ?_;obtain⟨bo,A,ab⟩:=cO d;refine cP (e:=27) (m:=4) h1 A Z Z Z J J Z Z (fun _=>Z) (fun bs ac I ak M=>?_);have hr19':=M;obtain⟨bt,bv,bw,bX,rfl,Q⟩:=hr19';refine al Z Z (bC aq I Z J Z) Z ?_;refine al Z Z (N Z) Z ?_;refine al Z Z (N Z) Z ?_;obtain⟨b0,b⟩:=cF (show i<l2.length by have:=aU d;omega);refine cP (e:=27) (m:=4) h2 b Z Z Z J J Z Z (fun _=>Z) (fun b1 am R ao T=>?_);have hr23':=T;obtain⟨b2,b3,b4,b5,rfl,U⟩:=hr23';refine al Z Z (bC aq R Z J Z) Z ?_;refine fe Z Z (aR Z Z Z J) (fun _=>Z) (KZ hG aq Q U) (fun V aq=>?_);refine⟨bq,?_⟩;refine al Z Z (dX Z) Z ?_;refine bj ?_;refine ad ?_;refine aC Z (fun F=>?_) (fun F=>?_)
  ·refine ai ?_;refine ah Z ?_;refine S Z (aj Z) Z ?_;refine af ?_;refine ad ?_;refine aD ?_;refine aK<|az<|bp<|aK<|az (?_);exact ay Z Z ⟨⟨_,Z,fun h=>absurd h (by decide),fun e=>by subst e;rw[A] at b;cases b;exact absurd F (by rw[bP.2 Z];decide)⟩,aq⟩
  refine aG ?_;refine aH ?_;refine ad ?_;refine ah Z ?_;refine S Z (N Z) Z ?_;refine S Z (aA Z Z Z) Z ?_;refine S Z (aj Z) Z ?_;refine af ?_;refine aL ⟨j4-1,(by have:=aU d;omega),(by(iterate 35 refine a8.put Z ?_);exact a8.refl _ _),i+1,⟨by have:=aU d;omega,by rw[dh A,dh b,u,bP.1<|bF F]⟩,congrArg (fun z=>some (Y.int .i64 z))<|aZ (by have:=h1.bM;omega),aq⟩
 refine bc ?_;refine aP ?_;refine aQ ?_;refine aN ?_;refine ad ?_;refine ai ?_;refine ah Z ?_;refine S Z (aj Z) Z ?_;refine af ?_;refine ad ?_;refine aD ?_
 exact ay Z Z ⟨⟨_,Z,fun _=>by
   have aa:l1.length<=i:=bx d;have e1:=tL_ aa;have e2:=tL_ (show l2.length<=i by omega);rw[e1,e2] at u;exact u,fun _=>Z⟩,aq⟩
theorem BW {G:Cx} (R:Plain G) {K:KP} {l:List XG} {v:Y} (h:bI K 4 (RG K) l v) (nn:Nat) (mo:Int) {V:B} {L:Own} (aq:H V K L):
  aT Tryz.prog G 8 [v,.int .i64 (.ofNat nn),.int .i64 mo] V fun u V'=>(∃q,u= .bool q/\(q=true->l.length<=nn))/\H V' K L:=by
 refine aW R Tryz.func8 Z (t:=((D.leaf.put (some (v)) 0).put (some (.int .i64 (.ofNat nn))) 1).put (some (.int .i64 mo)) 2) (by rfl) ?_;refine ai ?_;refine ah Z ?_;refine S Z (aj Z) Z ?_;refine af ?_;refine ad ?_;refine ai ?_;refine ai ?_;refine ah Z ?_;refine S Z (aj Z) Z ?_;refine af ?_;refine ad ?_;refine aJ ?_;obtain⟨LL1,aq,hLL1⟩:=aq.named;refine ba [6,7,8,9,10,11,12,13,14,15,16,17,18,19,20,21,22,23,24,25] (fun j t V=>∃(i:Nat),j+i=l.length/\t.get 7=some (.int .i64 (.ofNat i))/\H V K LL1) (l.length) ⟨0,Z,Z,aq⟩ ?_;clear aq;intro T t V an U;obtain⟨i,ak,A,aq⟩:=U;subst hLL1;replace an:=an.bR Z Z;obtain⟨o6,W,o8,o9,am,ao,ap,au,an⟩:=an;replace an:=an.bR Z Z;obtain⟨av,aE,a0,a1,a2,a3,a4,a5,an⟩:=an;replace an:=an.r4 Z;obtain⟨a9,bb,bd,be,an⟩:=an;obtain rfl:=an.nil;clear an;replace A:W=some _:=A;subst A;refine ai ?_;refine ai ?_;refine ah Z ?_;refine S Z (N Z) Z ?_;refine S Z (N Z) Z ?_;refine S Z (aO h Z Z Z (e:=27) J Z) Z ?_;refine S Z (aA Z Z Z) Z ?_;refine bg Z (N Z) (fun _=>Z) (fun d=>?_) (fun d=>?_)
 ·refine S Z (N Z) Z ?_;refine S Z (N Z) Z ?_;refine S Z (aA Z Z Z) Z ?_;refine S Z (aI Z Z) Z ?_;refine af ?_;refine ad ?_;refine aC Z (fun M=>?_) (fun M=>?_)
  ·refine aG ?_;refine ad ?_;refine ai ?_;refine aJ ?_;refine ai ?_;refine ah Z ?_;refine S Z (N Z) Z ?_;refine S Z (N Z) Z ?_;obtain⟨bi,C,aa⟩:=cO d;refine bO (e:=27) (m:=4) h C Z Z J J Z Z (fun _=>Z) (fun bk ab E ac F=>?_);have hr21':=F;obtain⟨bl,bm,bo,bs,rfl,I⟩:=hr21';refine S Z (bC aq E Z J Z) Z ?_;refine S Z (N Z) Z ?_;refine dJ Z (aR Z Z Z J) (fun _=>Z) (zZ R I _ aq) ?_;rintro _ V ⟨bt,rfl,aq⟩;refine S Z (dX Z) Z ?_;refine af ?_;refine ad ?_;refine aC Z (fun Q=>?_) (fun Q=>?_)
   ·refine ai ?_;refine ah Z ?_;refine S Z (aj Z) Z ?_;refine af ?_;refine ad ?_;refine aD ?_;refine aK<|az<|bp<|aK<|az (?_);exact ay Z Z ⟨⟨_,Z,fun h=>absurd h (by decide)⟩,aq⟩
   refine aG ?_;refine aH ?_;refine ad ?_;refine ah Z ?_;refine S Z (N Z) Z ?_;refine S Z (aA Z Z Z) Z ?_;refine S Z (aj Z) Z ?_;refine af ?_;refine aL ⟨T-1,(by have:=aU d;omega),(by(iterate 39 refine a8.put Z ?_);exact a8.refl _ _),i+1,by have:=aU d;omega,congrArg (fun z=>some (Y.int .i64 z))<|aZ (by have:=h.bM;omega),aq⟩
  refine bc ?_;refine aP ?_;refine aQ ?_;refine aN ?_;refine ad ?_;refine ai ?_;refine ah Z ?_;refine S Z (N Z) Z ?_;refine S Z (aO h Z Z Z (e:=27) J Z) Z ?_;refine S Z (N Z) Z ?_;refine S Z (aA Z Z Z) Z ?_;refine S Z (aj Z) Z ?_;refine af ?_;refine ad ?_;refine aD ?_;exact ay Z Z ⟨⟨_,Z,fun hq=>bx (a:=nn) (b:=l.length) (cd hq)⟩,aq⟩
 refine ae Z Z ?_;refine ae Z Z ?_;refine ae Z Z ?_;refine S Z (aI Z Z) Z ?_;refine af ?_;refine ad ?_;refine bf Z ?_;refine bc ?_;refine aP ?_;refine aQ ?_;refine aN ?_;refine ad ?_;refine ai ?_;refine ah Z ?_;refine S Z (N Z) Z ?_;refine S Z (aO h Z Z Z (e:=27) J Z) Z ?_;refine S Z (N Z) Z ?_;refine S Z (aA Z Z Z) Z ?_;refine S Z (aj Z) Z ?_;refine af ?_;refine ad ?_;refine aD ?_;exact ay Z Z ⟨⟨_,Z,fun hq=>bx (a:=nn) (b:=l.length) (cd hq)⟩,aq⟩
end Go.Ev
end
