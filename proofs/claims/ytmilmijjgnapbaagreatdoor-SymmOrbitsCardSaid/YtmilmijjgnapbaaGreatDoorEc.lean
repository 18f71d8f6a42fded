/- Part of the proof: an evaluator of the model's code, rules for walks on it, walks. Without conditions. -/
import Derived.Test.YtmilmijjgnapbaaGreatDoorEb
import Derived.Test.YtmilmijjgnapbaaGreatDoorEa
import Derived.KernelRfl
import Init
import Derived.Shelf.SlSortCmp.NoneTotal
import Derived.Sort.AssemblyPlain
import Derived.ReadAgain
import Derived.ProofKit
import Derived.Test.YtmilmijjgnapbaaGreatDoorProg
set_option linter.unusedSectionVars false
set_option linter.unusedVariables false
set_option linter.unusedSimpArgs false
noncomputable section
namespace Go.Ev
variable [Env]
section
variable {P:Program} {G:Cx}
def Qr (P:Program) (G:Cx) (f:Nat) (args:List Y) (V:B) (R:Y->B->Prop):Prop:=
 ∃(K:Nat) (v:Y) (V':B),(∀k,K<=k->kS P G (dF P G k) f args V= .ret v V')/\R v V'
end
section
variable {P:Program} {G:Cx} {ev:Operand->Option Y} {V:B}
theorem CM {hi:Operand} {k:IntKind} {h' len cap:Nat} (h:ev hi=some (.int k (.ofNat h'))) (hl:h'<=cap):cU ev len cap none (some hi)=some (0,h'):=by
 simp only[cU,dS,h,show Nat.ble h' cap=true by simp_all,cond_true]
theorem Ck {t e sz b off len cap l h:Nat} {x:Operand} {lo hi:Option Operand} (m:P.underlying t=some (.slice e)) (hj:(P.info? e).map (·.size)=some sz) (hx:ev x=some (.slice b off len (.known cap))) (hb:cU ev len cap lo hi=some (l,h)) (hl:l<cap):
  dq P G ev V (.slice t x lo hi none)= .val (.slice b (off+l*sz) (h-l) (.known (cap-l))) V:=by
 refine bK Z ?_;obtain⟨j,d,rfl⟩:=oM_.1 hj
 have:Nat.beq cap l=false:=by
  grind [nB]
 simp only[cS,kL,m,hx,cutAt,hb,cut,d,this,cond_false]
theorem Cl {t e sz b off len l h:Nat} {x:Operand} {lo hi:Option Operand} (m:P.underlying t=some (.slice e)) (hj:(P.info? e).map (·.size)=some sz) (hx:ev x=some (.slice b off len (.upto sz))) (hb:cU ev len len lo hi=some (l,h)):
  dq P G ev V (.slice t x lo hi none)= .val (.slice b (off+l*sz) (h-l) (.upto sz)) V:=by
 refine bK Z ?_;obtain⟨j,d,rfl⟩:=oM_.1 hj;simp only[cS,kL,m,hx,hb,d,Nat.beq_refl,cond_true]
end
section
variable {P:Program} {G:Cx} {ev:Operand->Option Y} {V:B}
end
section
variable {P:Program} {G:Cx} {n:Nat} {t:D Y} {V:B} {K:KP} {L:Own} {Q:Ex->D Y->B->Prop} {ops:Array Oper} {o:Oper} {l:List Oper}
end
section
variable {P:Program} {G:Cx} {V:B} {K:KP} {L:Own}
theorem GV {α:Type} {m e:Nat} {R:α->List Y->Prop} {l2:List α} {A:Y} {ts:Array TypeId} {t:TypeId} (C:H V K L) (hx:bI K m R l2 A) (d:∀x vs,R x vs->bJ vs=true) (hn:l2.length<=1048576) (aa:1<=l2.length)
  (E:ts[0]? =some t) (hu:P.underlying t=some (.slice e)) (u:ql P e m=true) (F:de P ts[1]? =true):
  ∃news,eI P V ts .aB A= .val (.slice V.next 0 l2.length (.upto m)) (V.alloc (.row news e false))/\news.length=l2.length*m/\∀(i:Nat) (x:α),l2[i]? =some x->R x ((news.drop (i*m)).take m):=by
 obtain⟨news,I,M,T,U⟩:=sS C hx d;refine⟨news,?_,M,U⟩;unfold ql at u;split at u
 ·rename_i j hj;simp only[bA_] at u;obtain⟨W,X,a3,a4⟩:=u;have hm:j.size=m:=nB W;subst hm;have hz:((P.info? e).any fun j=>(j.zero.bind nQ).any fun z=>(bZ z).any fun cs=>Nat.beq (cW cs) j.size)=true:=by rw[hj];exact a4
  have h0:Nat.beq l2.length 0=false:=by
   grind [nB]
  unfold eI;rw[E];dsimp only;rw[hu];dsimp only;rw[hj] at hz⊢;dsimp only;rw[F,X,a3];simp only[Bool.and_self,cond_true];rw[I];dsimp only;rw[T,show Nat.ble l2.length 1048576=true by simp_all,hz];simp only[Bool.and_self,cond_true,h0,cond_false];rfl
 cases u
end
section
variable {P:Program} {G:Cx} {n:Nat} {t:D Y} {V:B} {K:KP} {L:Own} {Q:Ex->D Y->B->Prop} {ops:Array Oper} {o:Oper} {l:List Oper}
end
section
variable {V:B} {K:KP} {L:Own} {b:Nat} {o:bU}
def KP.sub (K:KP) (b:Nat):KP:=fun b' o'=>K b' o'/\b'≠b
theorem H.two {b b':Nat} {o o' o1 aa:bU} (hb:b<V.next) (d:b'<V.next) (hne:b≠b'):H (eL V b o b' o') (fun _ _=>False) [(b,o),(b',o')] where
 kept _ _ h:=h.elim
 own e he:=by
  rcases mQ_.1 he with rfl | he
  ·exact⟨hb,by show((D.leaf.put (some o) b).put (some o') b').get b=_;grind [D.cK,D.cN]⟩
  rcases mQ_.1 he with rfl | he
  ·exact⟨d,D.cN _ _ _⟩
  cases he
 ne:=List.pairwise_cons.2 ⟨fun e he=>(by simp_all),List.pairwise_singleton ..⟩
end
inductive fG (X:Own):Own->Own->Prop
 | here {L:Own}:fG X (X++L) L
 | there {y:Nat×bU} {L L0:Own}:fG X L L0->fG X (y::L) (y::L0)
 | pJ {M L L0:Own}:fG X L L0->fG X (M++L) (M++L0)
theorem fG.perm {X L L0:Own} (h:fG X L L0):L.Perm (X++L0):=by
 induction h with
 | here=>simp_all
 | @there y L L0 _ ih=>exact(List.Perm.cons y ih).trans List.perm_middle.symm
 | @pJ M L L0 _ ih=>
  refine(List.Perm.append_left M ih).trans ?_
  grind [List.Perm.append_right,List.perm_append_comm]
theorem fG.LD {X A B_ L:Own}:fG X ((A++(X++B_))++L) ((A++B_)++L):=by
 rw[lQ_,lQ_,lQ_];exact .pJ .here
section
variable {V:B} {K:KP} {L L0 X:Own}
theorem H.pull (h:H V K L) (hi:fG X L L0):H V K (X++L0):=h.perm hi.perm
theorem H.push (h:H V K (X++L0)) (hi:fG X L L0):H V K L:=h.perm hi.perm.symm
end
def HN (g:XG) (tm:Nat) (e:cq) (fr:cm) (pl:Nat) (row:List cq) (frow:List cm) (orow:List cm) (loc:Nat):XG:=
 {init:=g.init,threads:=g.threads.set tm (row++[e]),from_:=g.from_.set tm (frow++[fr]),order:=bif br e then g.order.set loc (orow.take pl++⟨.ofNat (tm+1),.ofNat row.length⟩::orow.drop pl) else g.order}
def mq (g:XG) (th:Int) (e:cq) (fr:cm) (pl:Int):Option XG×Int:=
 bif !bD (cy g) 0 then(none,2) else
 bif da th 1 then(none,9) else
 bif da (.ofNat g.threads.length) th then(none,9) else
 match g.threads[th.toNat-1]?,g.from_[th.toNat-1]? with
 | some row,some frow=>
  bif !da (.ofNat row.length) 14 then(none,3) else
  bif (bif br e then(bif da pl 1 then true else da (.ofNat (dL g e.loc).length) pl) else !bD pl 0) then(none,2) else
  let g':=HN g (th.toNat-1) e fr (pl.toNat-1) row frow ((g.order[e.loc.toNat]?).getD []) e.loc.toNat
  bif bD (cy g') 0 then(some g',0) else(none,2)
 | _,_=>(none,9)
theorem Nr {P:Program} {G:Cx} {ev:Operand->Option Y} {V:B} {α:Type} {m E:Nat} {R:α->List Y->Prop} {l:List α} {u:Y} {M:Own} {c:Call} {t e:TypeId} {x:Operand} (h:dP m E R l u M) (d:c.callee= .builtin .len) (A:c.argTypes[0]? =some t) (C:c.args.toList= [x]) (hu:P.underlying t=some (.slice e)) (hx:ev x=some u):
  dq P G ev V (.call c)= .val (.int .i64 (.ofNat l.length)) V:=
 aO (K:=fun b o=>(b,o)∈M) (h.lJ fun e he=>he) d A C hu hx
theorem oA (b o l c:Nat):dH (.slice b o l (.known c)) (.slice b o l (.known c))=true:=by
 unfold dH;show(dH.beqP b b && Nat.beq o o && Nat.beq l l && dH.beqC (.known c) (.known c))=true
 grind [dH.beqP,Nat.beq_refl,dH.beqC]
theorem mQ {us:List Y} {u:Y} {i:Nat} (h:i<us.length):dj [u] us (0+i*1)=us.set i u:=by
 rw[show 0+i*1=i by omega,pg _ _ _ (by grind),List.length_singleton,List.set_eq_take_append_cons_drop,if_pos h,lQ_];rfl
theorem Dy {n:Int} (h:da n 1=false):∃m:Nat,n= .ofNat (m+1):=by
 cases n with
 | negSucc k=>cases h
 | ofNat k=>
  have:1<=k:=bx (a:=k) (b:=1) h;exact⟨k-1,by simp_all⟩
theorem zr {m:LM} {k:List Int} (h:(eT m k).isSome=true):(jM m k).length+1=m.length:=by
 unfold eT at h;unfold jM;cases b:nN m k 0 with
 | none=>rw[b] at h;cases h
 | some p=>
  obtain⟨j,v⟩:=p;have h1:=(oS b).2
  grind
theorem te {loc:Nat}:∀{l:List cm} {m m':LM},jR loc l m=some m'->m'.length+l.length=m.length
 | [],m,m',h=>by cases h;rfl
 | id::l,m,m',h=>by
  have h':(bif (eT m id.ints).isSome then(bif bD ((eT m id.ints).getD 0) (.ofNat loc) then jR loc l (jM m id.ints) else none) else none)=some m':=h;cases b:(eT m id.ints).isSome with
  | false=>rw[b] at h';cases h'
  | true=>
   rw[b] at h';cases he:bD ((eT m id.ints).getD 0) (.ofNat loc) with
   | false=>rw[he] at h';cases h'
   | true=>
    rw[he] at h';have h1:=te (l:=l) h';have h2:=zr b;rw[List.length_cons];omega
theorem tf:∀{ls:List (List cm)} {loc:Nat} {m m':LM},lE ls loc m=some m'->∀l∈ls,l.length<=m.length
 | [],_,_,_,_,l,hl=>by cases hl
 | r::ls,loc,m,m',h,l,hl=>by
  have h':(jR loc r m).bind (lE ls (loc+1))=some m':=h;cases b:jR loc r m with
  | none=>simp_all
  | some m1=>
   rw[b] at h';have h1:=te b;rcases mQ_.1 hl with rfl | hl
   ·omega
   have:=tf (ls:=ls) h' l hl;omega
theorem AZ {t:Nat} {m:LM} {n:Nat} {e:cq}:(vu t m n e).length<=m.length+1:=by
 unfold vu;cases br e with
 | false=>simp_all
 | true=>
  show(nO m _ _).length<=_;unfold nO
  grind
theorem tw {t:Nat}:∀{l:List cq} {n:Nat} {m:LM},(pC t l n m).length<=m.length+l.length
 | [],_,_=>nR_ _
 | e::l,n,m=>by
  have h1:=tw (t:=t) (l:=l) (n:=n+1) (m:=vu t m n e);have h2:=AZ (t:=t) (m:=m) (n:=n) (e:=e);show(pC t l (n+1)<|vu t m n e).length<=_;rw[List.length_cons];omega
theorem tx:∀{ls:List (List cq)} {t:Nat} {m:LM},(∀l∈ls,l.length<=14)->(nf ls t m).length<=m.length+14*ls.length
 | [],_,_,_=>by simp[nf]
 | l::ls,t,m,h=>by
  have h1:=tx (ls:=ls) (t:=t+1) (m:=pC t l 0 m) fun x hx=>h x (mC_ _ hx)
  have h2:=tw (t:=t) (l:=l) (n:=0) (m:=m);have h3:=h l (mS_ ..);show(nf ls (t+1)<|pC t l 0 m).length<=_;rw[List.length_cons];omega
theorem Bq {g:XG} (h:cy g=0):∀l∈g.order,l.length<=56:=by
 intro l hl;obtain⟨b1,b2,b,b4,b5,b6,d⟩:=ig h;unfold dZ at d;cases u:lE g.order 0 (nf g.threads 0 []) with
 | none=>simp_all
 | some m=>
  have h1:=tf u l hl;have h2:=tx (ls:=g.threads) (t:=0) (m:=[]) b
  grind
end Go.Ev
namespace Go.Ev
variable [Env]
theorem BG {g:XG}:∀{ts:List (List cq)} {fs:List (List cm)} {i:Nat},jP g ts fs i=true->fs.length=ts.length->(∀l∈ts,l.length<=14)->∀f∈fs,f.length<=14
 | [],fs,_,_,hl,_,f,hf=>by
  rw[eN_ hl] at hf;cases hf
 | x::ts,[],_,_,hl,_,f,hf=>by cases hf
 | x::ts,y::fs,i,h,hl,hb,f,hf=>by
  have h':(bif bD (.ofNat y.length) (.ofNat x.length) then(bif oa g i x y 0 then jP g ts fs (i+1) else false) else false)=true:=h;cases he:bD (.ofNat y.length) (.ofNat x.length) with
  | false=>rw[he] at h';cases h'
  | true=>
   rw[he] at h';cases b:oa g i x y 0 with
   | false=>rw[b] at h';cases h'
   | true=>
    rw[b] at h';have e1:=cQ he;have e2:=hb x (mS_ ..);rcases mQ_.1 hf with rfl | hf
    ·omega
    exact BG (ts:=ts) (fs:=fs) h' (by simpa using hl) (fun l hl=>hb l (mC_ _ hl)) f hf
end Go.Ev
namespace Go.Ev
variable [Env]
theorem G7 {g:XG} {th pl:Int} {e:cq} {fr:cm} (h:bD (cy g) 0=false):mq g th e fr pl=(none,2):=by unfold mq;rw[h];rfl
theorem G8 {g:XG} {th pl:Int} {e:cq} {fr:cm} (h:bD (cy g) 0=true) (h1:da th 1=true):mq g th e fr pl=(none,9):=by unfold mq;rw[h,h1];rfl
theorem G6 {g:XG} {th pl:Int} {e:cq} {fr:cm} (h:bD (cy g) 0=true) (h1:da th 1=false) (b:da (.ofNat g.threads.length) th=true):mq g th e fr pl=(none,9):=by unfold mq;rw[h,h1,b];rfl
def jr (g:XG) (e:cq) (pl:Int):Bool:=bif br e then(bif da pl 1 then true else da (.ofNat (dL g e.loc).length) pl) else !bD pl 0
def iW (g:XG) (tm:Nat) (e:cq) (fr:cm) (pl:Int) (row:List cq) (frow:List cm):XG:=HN g tm e fr (pl.toNat-1) row frow ((g.order[e.loc.toNat]?).getD []) e.loc.toNat
theorem JL {g:XG} {tm:Nat} {pl:Int} {e:cq} {fr:cm} {row:List cq} {frow:List cm} (h:bD (cy g) 0=true) (hx:g.threads[tm]? =some row) (hf:g.from_[tm]? =some frow):
  mq g (.ofNat (tm+1)) e fr pl=bif !da (.ofNat row.length) 14 then(none,3) else bif jr g e pl then(none,2) else bif bD (cy<|iW g tm e fr pl row frow) 0 then(some<|iW g tm e fr pl row frow,0) else(none,2):=by
 have aa:tm<g.threads.length:=(gA.1 hx).1;have h1:da (.ofNat (tm+1)) 1=false:=by rw[show(1:Int)= .ofNat 1 from Z,iw];simp
 have b:da (.ofNat g.threads.length) (.ofNat (tm+1))=false:=by rw[iw];simp;omega
 have e1:(Int.ofNat (tm+1)).toNat-1=tm:=rfl;unfold mq;rw[h,h1,b];simp only[Bool.not_true,cond_false,e1,hx,hf];rfl
end Go.Ev
namespace Go.Ev
variable [Env]
theorem D5 {g:XG} {loc:Int} (h:1<=(dL g loc).length):∃(ln:Nat) (r:List cm),loc= .ofNat ln/\g.order[ln]? =some r/\(dL g loc).length=r.length+1:=by
 cases b:bD (cy g) 0 with
 | false=>rw[Ac b] at h;cases h
 | true=>
  cases hl:da loc 0 with
  | true=>rw[Ch hl] at h;cases h
  | false=>
   obtain⟨ln,rfl⟩:=mF hl;cases d:g.order[ln]? with
   | none=>
    grind [Cg]
   | some r=>exact⟨ln,r,Z,d,by rw[fT b d];rfl⟩
section
variable {V V0:B} {K:KP} {L M:Own}
theorem H.KS (h0:H V0 K (M++L)) (h:H V (K.qR M) L):H V K (M++L) where
 kept b o hb:=by
  obtain⟨h1,d,m⟩:=h.kept b o (.inl hb);refine⟨h1,d,fun e he=>?_⟩;rcases List.mem_append.1 he with he | he
  ·exact(h0.kept b o hb).2.2 e (List.mem_append_left _ he)
  exact m e he
 own e he:=by
  rcases List.mem_append.1 he with he | he
  ·exact⟨(h.kept e.1 e.2 (.inr he)).1,(h.kept e.1 e.2 (.inr he)).2.1⟩
  exact h.own e he
 ne:=h0.ne
end
end Go.Ev
namespace Go.Ev
variable [Env]
inductive nk:Own->Own->Own->Prop
 | base {L:Own}:nk L [] L
 | there {x:Nat×bU} {LL M L:Own}:nk LL M L->nk (x::LL) (x::M) L
 | pJ {A LL M L:Own}:nk LL M L->nk (A++LL) (A++M) L
theorem nk.eq {LL M L:Own} (h:nk LL M L):LL=M++L:=by
 induction h with
 | base=>rfl
 | there _ ih=>rw[ih];rfl
 | pJ _ ih=>simp_all
theorem H.app {V:B} {K:KP} {LL M L:Own} (h:H V K LL) (b:nk LL M L):H V K (M++L):=by rw[<-b.eq];exact h
theorem J7 {g:XG} {tm ln pm:Nat} {e:cq} {fr:cm} {row:List cq} {frow orow:List cm} (hw:br e=true) (hl:e.loc= .ofNat ln) (ho:g.order[ln]? =some orow):
  iW g tm e fr (.ofNat (pm+1)) row frow= {init:=g.init,threads:=g.threads.set tm (row++[e]),from_:=g.from_.set tm (frow++[fr]),order:=g.order.set ln (orow.take pm++⟨.ofNat (tm+1),.ofNat row.length⟩::orow.drop pm)}:=by
 have e1:(Int.ofNat (pm+1)).toNat-1=pm:=rfl;have e2:(Int.ofNat ln).toNat=ln:=rfl;unfold iW HN
 simp_all
section
variable {P:Program} {G:Cx} {ev:Operand->Option Y} {V:B} {K:KP} {L:Own}
theorem uy {t:TypeId} {x i:Operand} {s:List Nat} {n c:Nat} {k:IntKind} (b:P.underlying t=some .string) (hx:ev x=some (.str s)) (hi:ev i=some (.int k (.ofNat n))) (d:s[n]? =some c):dq P G ev V (.index t x i)= .val (.int .u8 (.ofNat c)) V:=by
 refine bK Z ?_;simp only[cS,b,hx,hi,eQ,d]
theorem jD {t e n m j off:Nat} {b:Pos} {x i:Operand} {k:IntKind} (d:P.underlying t=some (.array n e)) (hj:(P.info? e).map (·.size)=some m) (hx:ev x=some (.ptr b off)) (hi:ev i=some (.int k (.ofNat j))) (A:j<n):dq P G ev V (.indexAddr t x i)= .val (.ptr b (off+j*m)) V:=by
 refine bK Z ?_;obtain⟨q,hq,rfl⟩:=oM_.1 hj;simp only[cS,d,hx,hi,hq,show Nat.ble (Nat.succ j) n=true by rw[nE_];exact A,cond_true]
theorem rX {x:Operand} {b:Pos} {off:Nat} (hx:ev x=some (.ptr b off)):dq P G ev V (.nilCheck x)= .val (.ptr b off) V:=bK Z (by simp only[cS,hx])
theorem Kk {α:Type} {f:α->Y} {l:List α} {i off:Nat} {x:α} (h:l[i]? =some x) (b:off=i):nth (l.map f) off=some (f x):=by
 subst b;rw[eQ,gM_,h];rfl
theorem fw {α:Type} {f:α->Y} {l:List α} {i off:Nat} {v:α} (h:i<l.length) (ho:off=i):dj [f v] (l.map f) off=(l.set i v).map f:=by
 grind [mQ,List.map_set]
theorem wJ {α:Type} {f:α->Y} (v:α) (n:Nat):dK [f v] n=(List.replicate n v).map f:=by rw[jf,List.map_replicate]
end
def Cv {α:Type} (m E:Nat) (R:α->List Y->Prop) (l:List α) (u:Y) (M:Own):Prop:=
 (l= []/\u= .aB/\M= [])∨∃(b:Nat) (c:nj) (cells:List Y) (e:Nat),u= .slice b 0 l.length c/\M= [(b,.row cells e false)]/\l.length*m<=cells.length/\(∀(i:Nat) (x:α),l[i]? =some x->R x ((cells.drop (i*m)).take m))/\((∃n,c= .known n/\l.length<=n/\n*m<=cells.length)∨(c= .upto m/\e=E))/\l.length<=1048576
section
variable {α:Type} {m E:Nat} {R:α->List Y->Prop} {l:List α} {u:Y} {M:Own} {K:KP}
theorem Cv.lJ (h:Cv m E R l u M) (hk:∀e∈M,K e.1 e.2):bI K m R l u:=by
 rcases h with ⟨h1,d,_⟩ | ⟨b,c,cells,e,rfl,rfl,h3,h4,h5,h6⟩
 ·exact .inl ⟨h1,d⟩
 refine .inr ⟨b,0,c,cells,e,false,Z,?_,hk _<|mS_ ..,by omega,by omega,fun i x hx=>by simp_all⟩;rcases h5 with ⟨n,h5,A,_⟩ | h5
 ·exact .inr ⟨_,h5,A⟩
 exact .inl h5.1
theorem Cv.take (h:Cv m E R l u M) {P:Program} {ev:Operand->Option Y} {t:TypeId} {x hi:Operand} {kk:IntKind} {k:Nat} (hk:k<=l.length) (hu:P.underlying t=some (.slice E)) (hj:(P.info? E).map (·.size)=some m) (hx:ev x=some u) (hh:ev hi=some (.int kk (.ofNat k))):
  ∃u',kL P ev t x none (some hi) none=some u'/\Cv m E R (l.take k) u' M:=by
 obtain⟨j,d,rfl⟩:=oM_.1 hj;rcases h with ⟨rfl,rfl,rfl⟩ | ⟨b,c,cells,e,rfl,rfl,C,h4,h5,h6⟩
 ·obtain rfl:k=0:=by simpa using hk
  refine⟨.aB,?_,.inl ⟨Z,Z,Z⟩⟩;have:cU ev 0 0 none (some hi)=some (0,0):=CM hh (nR_ _);simp only[kL,hu,hx,d,this]
 have hl:(l.take k).length=k:=by simp_all
 have A:∀(i:Nat) (x:α),(l.take k)[i]? =some x->R x ((cells.drop (i*j.size)).take j.size):=fun i x hi=>by
  grind
 have hle:k*j.size<=cells.length:=Nat.le_trans (nM_ _ hk) C;rcases h5 with ⟨n,rfl,h7,F⟩ | ⟨rfl,rfl⟩
 ·refine⟨.slice b 0 k (.known n),?_,.inr ⟨b,.known n,cells,e,by rw[hl],Z,by rw[hl];exact hle,A,.inl ⟨n,Z,by rw[hl];omega,F⟩,by rw[hl];omega⟩⟩;have:cU ev l.length n none (some hi)=some (0,k):=CM hh oM;simp only[kL,hu,hx,cutAt,this,cut,d]
  simp_all
 refine⟨.slice b 0 k (.upto j.size),?_,.inr ⟨b,.upto j.size,cells,e,by rw[hl],Z,by rw[hl];exact hle,A,.inr ⟨Z,Z⟩,by rw[hl];omega⟩⟩;have:cU ev l.length l.length none (some hi)=some (0,k):=CM hh hk;simp only[kL,hu,hx,this,d,show Nat.beq j.size j.size=true from Nat.beq_refl _,cond_true,Nat.zero_mul,Nat.sub_zero,Nat.add_zero]
end
section
variable {α:Type} {m E:Nat} {R:α->List Y->Prop}
section
variable {P:Program} {K:KP} {L:Own}
end
end
abbrev Rn:=Nat->Nat->Bool
def Lt:Nat->(Nat->Bool)->Nat
 | 0,_=>0
 | n+1,p=>Lt n p ||| (bif p n then 2 ^ n else 0)
section
variable {P:Program} {k:Bool} {ty:TypeId}
theorem Np {x:Nat} (h:x<2 ^ 64):IntKind.u64.wrap ((x:Nat):Int)= .ofNat x:=by
 unfold IntKind.wrap;show(let m:=((x:Nat):Int)%(2 ^ 64:Int);if false && _ then _ else m)=_;simp only[Bool.false_and,Bool.false_eq_true,if_false];show((x:Nat):Int)%((2 ^ 64:Nat):Int)=((x:Nat):Int);rw[<-Int.natCast_emod,Nat.mod_eq_of_lt h]
theorem Lj {x:Nat} (h:x<2 ^ 64):wr .u64 (.ofNat x)= .ofNat x:=by
 unfold wr;cases Mp .u64 (.ofNat x) with
 | true=>rfl
 | false=>exact Np h
end
def gU (x:Nat):Y:=.int .u64 (.ofNat x)
def RU (x:Nat) (vs:List Y):Prop:=vs= [gU x]
def Ox (n:Nat) (R:Rn):List Nat:=(List.range n).map fun i=>Lt n (R i)
def Pj (K:KP) (n:Nat) (R:Rn) (vs:List Y):Prop:=∃v,vs= [.int .i64 (.ofNat n),v]/\bI K 1 RU (Ox n R) v
theorem Pj.mono {K K':KP} {n:Nat} {R:Rn} {vs:List Y} (h:Pj K n R vs) (hk:KP.le K K'):Pj K' n R vs:=let ⟨v,h1,b⟩:=h;⟨v,h1,b.mono hk fun _ _ h=>h⟩
inductive Tc (n:Nat) (R:Rn):Nat->Nat->Prop where
 | one {i j:Nat} (hi:i<n) (hj:j<n) (h:R i j=true):Tc n R i j
 | step {i j k:Nat} (h1:Tc n R i j) (h2:Tc n R j k):Tc n R i k
open Classical in
def G2 (n:Nat) (R:Rn):Rn:=fun i j=>decide (Tc n R i j)
theorem Ff {n:Nat} {R:Rn} {i j:Nat}:G2 n R i j=true↔Tc n R i j:=by unfold G2;simp
theorem Tc.lt {n:Nat} {R:Rn} {i j:Nat} (h:Tc n R i j):i<n/\j<n:=by
 induction h with
 | one hi hj _=>exact⟨hi,hj⟩
 | step _ _ h1 b=>exact⟨h1.1,b.2⟩
theorem Tc.ML {n:Nat} {R:Rn} {f:Nat->Nat} (hf:∀i j,i<n->j<n->R i j=true->f i<f j) {i j:Nat} (h:Tc n R i j):f i<f j:=by
 induction h with
 | one hi hj h=>exact hf _ _ hi hj h
 | step _ _ h1 b=>exact Nat.lt_trans h1 b
def Pc (n:Nat) (R:Rn):Rn:=fun i k=>R i k || (List.range n).any fun j=>R i j && R j k
theorem MX {n:Nat} {R:Rn} {i k:Nat} (h:R i k=true):Pc n R i k=true:=by unfold Pc;simp[h]
structure NF (n:Nat) (R S0:Rn):Prop where
 low:∀i j,i<n->j<n->R i j=true->S0 i j=true
 high:∀i j,i<n->j<n->S0 i j=true->Tc n R i j
theorem NF.refl (n:Nat) (R:Rn):NF n R R:=⟨fun _ _ _ _ h=>h,fun _ _ hi hj h=>.one hi hj h⟩
theorem NF.sq {n:Nat} {R S0:Rn} (h:NF n R S0):NF n R (Pc n S0):=by
 refine⟨fun i j hi hj d=>MX (h.low i j hi hj d),fun i k hi hk b=>?_⟩;unfold Pc at b;simp only[Bool.or_eq_true,List.any_eq_true,List.mem_range,bA_] at b;rcases b with b | ⟨j,hj,h1,m⟩
 ·exact h.high i k hi hk b
 exact .step (h.high i j hi hj h1)<|h.high j k hj hk m
section
variable {P:Program} {G:Cx} {ev:Operand->Option Y} {V:B}
end
section
variable {P:Program} {G:Cx} {n i:Nat} {V:B} {Q:Ex->D Y->B->Prop} {ops:Array Oper} {t:D Y} {o:Oper} {K:KP}
end
def RP (p:Nat×Nat) (vs:List Y):Prop:=vs= [.int .i64 (.ofNat p.1),.int .i64 (.ofNat p.2)]
theorem RP.leaf:∀x vs,RP x vs->bJ vs=true:=fun _ _ h=>by cases h;rfl
def PE (l:List (Nat×Nat)):Rn:=fun a b=>l.any fun p=>p.1 == a && p.2 == b
def OT (l:List Rn):Rn:=fun a b=>l.any fun R=>R a b
section
variable {n i j k:Nat} {S0 R A B_:Rn} {l:List Rn}
end
theorem Ib (x:Int):da x x=false:=by
 cases x with
 | ofNat n=>rw[iw];simp
 | negSucc n=>
  cases h:da (.negSucc n) (.negSucc n) with
  | false=>rfl
  | true=>
   have:Nat.blt n n=true:=h
   simp_all
theorem oC (x:Int):eh x x=0:=by unfold eh;rw[Ib];rfl
theorem iU {α:Type} {c:α->α->Int} (h:∀x,c x x=0):∀l,dz c l l=0
 | []=>rfl
 | x::l=>by
  show(bif bD (c x x) 0 then dz c l l else c x x)=0;rw[h x];exact iU h l
theorem nI:∀(l:List Int),(∀x∈l,x=0)->Ae l=0
 | [],_=>rfl
 | x::l,h=>by
  show(bif bD x 0 then Ae l else x)=0;rw[h x<|mS_ ..];exact nI l fun y hy=>h y (mC_ _ hy)
theorem CS (x:cm):nu x x=0:=nI _ fun y hy=>by simp only[oC,mQ_,List.not_mem_nil,or_false,or_self] at hy;exact hy
theorem CQ (x:cq):mU x x=0:=nI _ fun y hy=>by simp only[oC,mQ_,List.not_mem_nil,or_false,or_self] at hy;exact hy
theorem nw {α:Type} (l:List α):gF l l=0:=oC _
theorem AB (l:List cm):gE l l=0:=nI _ fun y hy=>by simp only[nw,iU CS,mQ_,List.not_mem_nil,or_false,or_self] at hy;exact hy
theorem oB (g:XG):dD g g=0:=nI _ fun y hy=>by
 simp only[nw,iU AB,iU (c:=gF) nw,iU<|iU CQ,iU oC,mQ_,List.not_mem_nil,or_false,or_self] at hy;exact hy
theorem FK {g:XG} {i:Nat}:dR g ⟨.ofNat 0,.ofNat i⟩=(g.init[i]?).map fun v=>⟨2,i,1,0,v⟩:=rfl
theorem ij {g:XG} {t i:Nat}:dR g ⟨.ofNat (t+1),.ofNat i⟩=(g.threads[t]?).bind (·[i]?):=rfl
theorem HA {g g':XG} {tm:Nat} {row:List cq} {e w:cq} {id:cm} (hr:g.threads[tm]? =some row) (hi:g'.init=g.init) (ht:g'.threads=g.threads.set tm (row++[e])) (h:dR g id=some w):dR g' id=some w:=by
 obtain⟨th,ix⟩:=id;cases ix with
 | negSucc k=>rw[oH (by rw[eP];simp)] at h;cases h
 | ofNat i=>
  cases th with
  | negSucc k=>rw[sj (by rw[eP];simp)] at h;cases h
  | ofNat t=>
   cases t with
   | zero=>rw[FK] at h⊢;rw[hi];exact h
   | succ t=>
    rw[ij] at h⊢
    grind
theorem Hz {g g':XG} {tm:Nat} {row:List cq} {e:cq} (d:g.threads[tm]? =some row) (m:g'.threads=g.threads.set tm (row++[e])):dR g' ⟨.ofNat (tm+1),.ofNat row.length⟩=some e:=by
 have b:tm<g.threads.length:=(gA.1 d).1;rw[ij,m,List.getElem?_set,if_pos Z,if_pos b]
 simp_all
def eV (t:Nat):List cq->Nat->LM
 | [],_=>[]
 | e::l,n=>bif br e then([.ofNat (t+1),.ofNat n],e.loc)::eV t l (n+1) else eV t l (n+1)
def fo:List (List cq)->Nat->LM
 | [],_=>[]
 | l::r,t=>eV t l 0++fo r (t+1)
theorem xT {k:List Int}:∀{m:LM} {i:Nat},(∀p∈m,p.1≠k)->nN m k i=none
 | [],_,_=>rfl
 | (k',v)::m,i,h=>by
  show(bif bV k k' then some (i,v) else nN m k (i+1))=none
  have:bV k k'=false:=by
   cases hh:bV k k' with
   | false=>rfl
   | true=>exact absurd (bP.1 hh).symm (h (k',v)<|mS_ ..)
  rw[this];exact xT fun p hp=>h p (mC_ _ hp)
theorem vv {t:Nat}:∀{l:List cq} {n:Nat} {m:LM},(∀p∈m,∀k,n<=k->p.1≠[.ofNat (t+1),.ofNat k])->pC t l n m=m++eV t l n
 | [],_,m,_=>by simp[pC,eV]
 | e::l,n,m,h=>by
  show pC t l (n+1) (vu t m n e)=m++(bif br e then _ else _);unfold vu;cases hw:br e with
  | false=>exact vv fun p hp k hk=>h p hp k oM
  | true=>
   show pC t l (n+1) (nO m [.ofNat (t+1),.ofNat n] e.loc)=m++_
   have hp:nO m [.ofNat (t+1),.ofNat n] e.loc=m++[([.ofNat (t+1),.ofNat n],e.loc)]:=by
    unfold nO;rw[xT fun p hp=>h p hp n (nR_ _)]
   rw[hp,vv (l:=l) (n:=n+1) fun p hp k hk=>?_,lQ_]
   ·rfl
   grind
theorem ka {t:Nat}:∀{l:List cq} {n:Nat},∀p∈eV t l n,∃k,p.1= [.ofNat (t+1),.ofNat k]/\n<=k
 | [],_,p,h=>by cases h
 | e::l,n,p,h=>by
  have h':p∈(bif br e then([.ofNat (t+1),.ofNat n],e.loc)::eV t l (n+1) else eV t l (n+1)):=h;cases hw:br e with
  | false=>
   rw[hw] at h';obtain⟨k,h1,b⟩:=ka (l:=l) p h';exact⟨k,h1,by omega⟩
  | true=>
   rw[hw] at h';rcases mQ_.1 h' with rfl | h'
   ·exact⟨n,Z,nR_ _⟩
   obtain⟨k,h1,b⟩:=ka (l:=l) p h';exact⟨k,h1,by omega⟩
theorem A0:∀{ls:List (List cq)} {t:Nat} {m:LM},(∀p∈m,∀s k,t<=s->p.1≠[.ofNat (s+1),.ofNat k])->nf ls t m=m++fo ls t
 | [],_,m,_=>by simp[nf,fo]
 | l::ls,t,m,h=>by
  show nf ls (t+1) (pC t l 0 m)=m++(eV t l 0++fo ls (t+1));rw[vv fun p hp k _=>h p hp t k (nR_ _),A0 (ls:=ls) (t:=t+1) fun p hp s k hs=>?_,lQ_];rcases List.mem_append.1 hp with hp | hp
  ·grind
  obtain⟨k',h1,_⟩:=ka p hp
  grind
theorem tz {ls:List (List cq)}:nf ls 0 []=fo ls 0:=by
 rw[A0 fun p hp=>by cases hp];rfl
def ec (loc:Nat) (l:List cm):LM:=l.map fun id=>(id.ints,.ofNat loc)
def gu:List (List cm)->Nat->LM
 | [],_=>[]
 | r::ls,loc=>ec loc r++gu ls (loc+1)
theorem jh {α:Type}:∀{m:List α} {j:Nat} {x:α},m[j]? =some x->m.Perm (x::m.eraseIdx j)
 | [],_,_,h=>by simp at h
 | y::m,0,x,h=>by
  have:y=x:=by simpa using h
  subst this;exact List.Perm.refl _
 | y::m,j+1,x,h=>by
  have h':m[j]? =some x:=by simpa using h
  exact(List.Perm.cons y<|jh h').trans (List.Perm.swap x y _)
theorem vF {m:LM} {k:List Int} {v:Int} (h:eT m k=some v):m.Perm ((k,v)::jM m k):=by
 unfold eT at h;unfold jM;cases b:nN m k 0 with
 | none=>rw[b] at h;cases h
 | some p=>
  obtain⟨j,w⟩:=p;rw[b] at h;have hw:w=v:=by simpa using h
  subst hw;exact jh (oS b).2
theorem xu {loc:Nat}:∀{l:List cm} {m m':LM},jR loc l m=some m'->m.Perm (ec loc l++m')
 | [],m,m',h=>by cases h;exact List.Perm.refl _
 | id::l,m,m',h=>by
  have h':(bif (eT m id.ints).isSome then(bif bD ((eT m id.ints).getD 0) (.ofNat loc) then jR loc l (jM m id.ints) else none) else none)=some m':=h;cases b:eT m id.ints with
  | none=>rw[b] at h';cases h'
  | some v=>
   rw[b] at h';have h'':(bif bD v (.ofNat loc) then jR loc l (jM m id.ints) else none)=some m':=h';cases he:bD v (.ofNat loc) with
   | false=>rw[he] at h'';cases h''
   | true=>
    rw[he] at h'';rw[cR] at he;have hv:v= .ofNat loc:=of_decide_eq_true he;subst hv;exact(vF b).trans (List.Perm.cons _<|xu (l:=l) h'')
theorem xw:∀{ls:List (List cm)} {loc:Nat} {m m':LM},lE ls loc m=some m'->m.Perm (gu ls loc++m')
 | [],_,m,m',h=>by cases h;exact List.Perm.refl _
 | r::ls,loc,m,m',h=>by
  have h':(jR loc r m).bind (lE ls (loc+1))=some m':=h;cases b:jR loc r m with
  | none=>rw[b] at h';cases h'
  | some m1=>
   rw[b] at h';refine(xu b).trans ?_;show(ec loc r++m1).Perm ((ec loc r++gu ls (loc+1))++m');rw[lQ_];exact List.Perm.append_left _<|xw (ls:=ls) h'
theorem Dt {g:XG} (h:dZ g=true):(fo g.threads 0).Perm (gu g.order 0):=by
 unfold dZ at h;cases b:lE g.order 0 (nf g.threads 0 []) with
 | none=>rw[b] at h;cases h
 | some m=>
  rw[b] at h
  have h0:m= []:=by
   have h1:bD (.ofNat m.length) (.ofNat 0)=true:=h;rw[ft] at h1
   simp_all
  have:=xw b;rw[h0,List.append_nil,tz] at this;exact this
theorem A9 {k:List Int} {v:Int}:∀{m:LM} {i:Nat},(m.map (·.1)).Nodup->(k,v)∈m->∃j,nN m k i=some (j,v)
 | (k',w)::m,i,b,h=>by
  rw[List.map_cons,List.nodup_cons] at b;show∃j,(bif bV k k' then some (i,w) else nN m k (i+1))=some (j,v);rcases mQ_.1 h with h1 | h1
  ·cases h1;rw[bP.2 Z];exact⟨i,Z⟩
  have:bV k k'=false:=by
   cases hh:bV k k' with
   | false=>rfl
   | true=>
    have e:=bP.1 hh
    simp_all
  rw[this];exact A9 (m:=m) b.2 h1
theorem Ed {loc:Nat}:∀{l:List cm} {m rest:LM},m.Perm (ec loc l++rest)->(m.map (·.1)).Nodup->∃m',jR loc l m=some m'/\m'.Perm rest/\(m'.map (·.1)).Nodup
 | [],m,rest,h,d=>⟨m,Z,h,d⟩
 | id::l,m,rest,h,d=>by
  have b:(id.ints,Int.ofNat loc)∈m:=h.mem_iff.2 (mS_ ..);obtain⟨j,hj⟩:=A9 (i:=0) d b;have C:eT m id.ints=some (.ofNat loc):=by unfold eT;rw[hj];rfl
  have hp:=vF C;have u:(jM m id.ints).Perm (ec loc l++rest):=List.Perm.cons_inv (hp.symm.trans h)
  have A:((jM m id.ints).map (·.1)).Nodup:=by
   have:=(hp.map (·.1)).nodup_iff.1 d
   rw[List.map_cons,List.nodup_cons] at this;exact this.2
  obtain⟨m',h1,E,F⟩:=Ed (l:=l) u A;refine⟨m',?_,E,F⟩;show(bif (eT m id.ints).isSome then(bif bD ((eT m id.ints).getD 0) (.ofNat loc) then jR loc l (jM m id.ints) else none) else none)=some m';have he:bD (.ofNat loc) (.ofNat loc)=true:=by rw[ft];simp
  rw[C];show(bif bD (.ofNat loc) (.ofNat loc) then jR loc l (jM m id.ints) else none)=some m';rw[he];exact h1
theorem Ee:∀{ls:List (List cm)} {loc:Nat} {m:LM},m.Perm (gu ls loc)->(m.map (·.1)).Nodup->lE ls loc m=some []
 | [],_,m,h,_=>by rw[show m= [] from h.eq_nil];rfl
 | r::ls,loc,m,h,b=>by
  obtain⟨m',h1,d,u⟩:=Ed (l:=r) (rest:=gu ls (loc+1)) h b;show(jR loc r m).bind (lE ls (loc+1))=some [];rw[h1];exact Ee (ls:=ls) d u
theorem om {t:Nat}:∀{l:List cq} {n:Nat},((eV t l n).map (·.1)).Nodup
 | [],_=>List.nodup_nil
 | e::l,n=>by
  show((bif br e then([.ofNat (t+1),.ofNat n],e.loc)::eV t l (n+1) else eV t l (n+1):LM).map (·.1)).Nodup
  cases br e with
  | false=>exact om (l:=l)
  | true=>
   show(([Int.ofNat (t+1),Int.ofNat n],e.loc).1::(eV t l (n+1)).map (·.1)).Nodup
   rw[List.nodup_cons];refine⟨fun h=>?_,om (l:=l)⟩;obtain⟨p,hp,he⟩:=List.mem_map.1 h;obtain⟨k,h1,h2⟩:=ka p hp
   grind
theorem yz:∀{ls:List (List cq)} {t:Nat},∀p∈fo ls t,∃s k,p.1= [.ofNat (s+1),.ofNat k]/\t<=s
 | [],_,p,h=>by cases h
 | l::ls,t,p,h=>by
  have h':p∈eV t l 0++fo ls (t+1):=h;rcases List.mem_append.1 h' with h' | h'
  ·obtain⟨k,h1,_⟩:=ka p h';exact⟨t,k,h1,nR_ _⟩
  obtain⟨s,k,h1,h2⟩:=yz (ls:=ls) p h';exact⟨s,k,h1,by omega⟩
theorem oj:∀{ls:List (List cq)} {t:Nat},((fo ls t).map (·.1)).Nodup
 | [],_=>List.nodup_nil
 | l::ls,t=>by
  show((eV t l 0++fo ls (t+1)).map (·.1)).Nodup
  rw[List.map_append,List.nodup_append];refine⟨om,oj (ls:=ls),fun a d b hb aa=>?_⟩;obtain⟨p,hp,rfl⟩:=List.mem_map.1 d;obtain⟨q,hq,rfl⟩:=List.mem_map.1 hb;obtain⟨k,h1,_⟩:=ka p hp;obtain⟨s,k',h3,h4⟩:=yz q hq
  grind
theorem n9 {g:XG}:dZ g=true↔(fo g.threads 0).Perm (gu g.order 0):=by
 refine⟨Dt,fun h=>?_⟩;unfold dZ;rw[tz,Ee h oj];rfl
theorem rI {g:XG} {t:Nat}:∀{l:List cq} {f:List cm} {n:Nat},f.length=l.length->(oa g t l f n=true↔∀i e q,l[i]? =some e->f[i]? =some q->wW g t (n+i) e q=true)
 | [],f,n,h=>⟨fun _ i e q h1=>by simp at h1,fun _=>Z⟩
 | x::l,[],n,h=>by cases h
 | x::l,y::f,n,h=>by
  have hl:f.length=l.length:=by simpa using h
  show(bif wW g t n x y then oa g t l f (n+1) else false)=true↔_;constructor
  ·intro hh i e q h1 b;cases d:wW g t n x y with
   | false=>rw[d] at hh;cases hh
   | true=>
    rw[d] at hh;cases i with
    | zero=>
     have e1:x=e:=by simpa using h1
     have e2:y=q:=by simpa using b
     subst e1 e2;exact d
    | succ i=>
     have:=(rI hl).1 hh i e q (by simpa using h1) (by simpa using b);rwa[show n+1+i=n+(i+1) by omega] at this
  intro hh;rw[show wW g t n x y=true from hh 0 x y Z Z];refine(rI hl).2 fun i e q h1 b=>?_
  have:=hh (i+1) e q (by simpa using h1) (by simpa using b);rwa[show n+(i+1)=n+1+i by omega] at this
theorem pb {g:XG}:∀{ls:List (List cq)} {fs:List (List cm)} {t:Nat},fs.length=ls.length->(jP g ls fs t=true↔∀i l f,ls[i]? =some l->fs[i]? =some f->f.length=l.length/\∀j e q,l[j]? =some e->f[j]? =some q->wW g (t+i) j e q=true)
 | [],f,n,h=>⟨fun _ i e q h1=>by simp at h1,fun _=>Z⟩
 | x::l,[],n,h=>by cases h
 | x::l,y::f,t,h=>by
  have hl:f.length=l.length:=by simpa using h
  show(bif bD (.ofNat y.length) (.ofNat x.length) then(bif oa g t x y 0 then jP g l f (t+1) else false) else false)=true↔_;constructor
  ·intro hh i e q h1 m;cases he:bD (.ofNat y.length) (.ofNat x.length) with
   | false=>rw[he] at hh;cases hh
   | true=>
    rw[he] at hh;cases u:oa g t x y 0 with
    | false=>rw[u] at hh;cases hh
    | true=>
     rw[u] at hh;cases i with
     | zero=>
      have e1:x=e:=by simpa using h1
      have e2:y=q:=by simpa using m
      subst e1 e2;refine⟨cQ he,fun j w z b d=>?_⟩;have:=(rI<|cQ he).1 u j w z b d;rwa[nA_] at this
     | succ i=>
      have:=(pb hl).1 hh i e q (by simpa using h1) (by simpa using m);rwa[show t+1+i=t+(i+1) by omega] at this
  intro hh;obtain⟨h1,m⟩:=hh 0 x y Z Z;rw[show bD (.ofNat y.length) (.ofNat x.length)=true by rw[ft];simp[h1]];rw[show oa g t x y 0=true from(rI h1).2 fun i e q b d=>by have:=m i e q b d;rwa[nA_]];refine(pb hl).2 fun i e q b d=>?_
  have:=hh (i+1) e q (by simpa using b) (by simpa using d);rwa[show t+(i+1)=t+1+i by omega] at this
structure dy (g:XG):Prop where
 threads:g.threads.length<=4
 init:g.init.length<=6
 short:∀(i:Nat) (l:List cq),g.threads[i]? =some l->l.length<=14
 from_:g.from_.length=g.threads.length
 order:g.order.length=g.init.length
 rows:∀(i:Nat) (l:List cq) (f:List cm),g.threads[i]? =some l->g.from_[i]? =some f->f.length=l.length/\∀(j:Nat) (e:cq) (q:cm),l[j]? =some e->f[j]? =some q->wW g i j e q=true
 perm:(fo g.threads 0).Perm (gu g.order 0)
theorem eK {g:XG}:cy g=0↔dy g:=by
 constructor
 ·intro h;obtain⟨u,A,C,m,E,F,G⟩:=ig h;refine⟨u,A,fun i l hl=>C l (gB_ hl),m,E,fun i l f b d=>?_,n9.1 G⟩;have:=(pb m).1 F i l f b d
  simp_all
 intro h;unfold cy
 have h1:dV g=false:=by
  unfold dV;rw[show da 4 (.ofNat g.threads.length)=false by rw[show(4:Int)= .ofNat 4 from Z,iw];have:=h.threads;simp;omega];rw[show da 6 (.ofNat g.init.length)=false by rw[show(6:Int)= .ofNat 6 from Z,iw];have:=h.init;simp;omega];show(g.threads.any fun l=>da 14 (.ofNat l.length))=false;rw[List.any_eq_false];intro l hl;obtain⟨i,hi⟩:=gO_ hl;have:=h.short i l hi;rw[show(14:Int)= .ofNat 14 from Z,iw];simp;omega
 rw[h1];rw[show bD (.ofNat g.from_.length) (.ofNat g.threads.length)=true by rw[ft];simp[h.from_]];rw[show bD (.ofNat g.order.length) (.ofNat g.init.length)=true by rw[ft];simp[h.order]];rw[show jP g g.threads g.from_ 0=true from(pb h.from_).2 fun i l f b d=>by have:=h.rows i l f b d;rwa[nA_]];rw[n9.2 h.perm];rfl
def Gf (o:List (List cm)) (e:cq) (id:cm) (pl:Int):List (List cm):=
 bif br e then o.set e.loc.toNat (((o[e.loc.toNat]?).getD []).take (pl.toNat-1)++id::((o[e.loc.toNat]?).getD []).drop (pl.toNat-1)) else o
theorem sv {g:XG} {tm:Nat} {e:cq} {fr:cm} {pl:Int} {row:List cq} {frow:List cm}:iW g tm e fr pl row frow=⟨g.init,g.threads.set tm (row++[e]),g.from_.set tm (frow++[fr]),Gf g.order e ⟨.ofNat (tm+1),.ofNat row.length⟩ pl⟩:=rfl
theorem qV {g:XG} {e:cq} {pl:Int} (h:jr g e pl=false) (hw:br e=true):∃(ln:Nat) (r:List cm),e.loc= .ofNat ln/\g.order[ln]? =some r/\(dL g e.loc).length=r.length+1:=by
 unfold jr at h;rw[hw] at h;have h:(bif da pl 1 then true else da (.ofNat (dL g e.loc).length) pl)=false:=h;cases h1:da pl 1 with
 | true=>rw[h1] at h;cases h
 | false=>
  rw[h1] at h;obtain⟨m,rfl⟩:=Dy h1;have b:da (.ofNat (dL g e.loc).length) (.ofNat (m+1))=false:=h;have:=bx b;exact D5 oM
theorem ke {g a:XG} {th pl:Int} {e:cq} {fr:cm} (h:mq g th e fr pl=(some a,0)):cy g=0/\∃tm row frow,th= .ofNat (tm+1)/\g.threads[tm]? =some row/\g.from_[tm]? =some frow/\da (.ofNat row.length) 14=true/\jr g e pl=false/\a=iW g tm e fr pl row frow/\cy a=0:=by
 cases m:bD (cy g) 0 with
 | false=>rw[G7 m] at h;cases h
 | true=>
  refine⟨Lv m,?_⟩;cases h1:da th 1 with
  | true=>rw[G8 m h1] at h;cases h
  | false=>
   cases C:da (.ofNat g.threads.length) th with
   | true=>rw[G6 m h1 C] at h;cases h
   | false=>
    obtain⟨tm,rfl⟩:=Dy h1;have u:tm<g.threads.length:=by have:=bx C;omega
    obtain⟨row,d⟩:=cF u;obtain⟨frow,b⟩:=cF (show tm<g.from_.length by rw[(ig<|Lv m).2.2.2.1];exact u);rw[JL m d b] at h;cases A:da (.ofNat row.length) 14 with
    | false=>rw[A] at h;cases h
    | true=>
     rw[A] at h;rcases Bool.eq_false_or_eq_true (jr g e pl) with h4 | h4
     ·rw[h4] at h;cases h
     rw[h4] at h;cases h5:bD (cy<|iW g tm e fr pl row frow) 0 with
     | false=>rw[h5] at h;cases h
     | true=>
      rw[h5] at h;have E:(some<|iW g tm e fr pl row frow,(0:Int))=(some a,0):=h;have F:iW g tm e fr pl row frow=a:=by cases E;rfl
      subst F;exact⟨tm,row,frow,Z,d,b,A,h4,Z,Lv h5⟩
theorem EL {o:List (List cm)} {e:cq} {id:cm} {pl:Int} {k:Nat} (h:br e=true->e.loc.toNat≠k):(Gf o e id pl)[k]? =o[k]?:=by
 grind [Gf]
theorem fj (x:Int):bD x x=true:=by rw[cR];simp
theorem gG (x y:Int):(x<y/\eh x y= -1)∨(x=y/\eh x y=0)∨(y<x/\eh x y=1):=by
 grind [eh,eP]
structure xp {α:Type} (c:α->α->Int):Prop where
 nm:∀x y,c y x= -c x y
 small:∀x y,-1<=c x y/\c x y<=1
 trans:∀x y z,c x y<=0->c y z<=0->c x z<=0
theorem rD:xp eh where
 nm x y:=by rcases gG x y with ⟨h,e⟩ | ⟨h,e⟩ | ⟨h,e⟩<;>rcases gG y x with ⟨h',e'⟩ | ⟨h',e'⟩ | ⟨h',e'⟩<;>omega
 small x y:=by rcases gG x y with ⟨h,e⟩ | ⟨h,e⟩ | ⟨h,e⟩<;>omega
 trans x y z:=by rcases gG x y with ⟨h,e⟩ | ⟨h,e⟩ | ⟨h,e⟩<;>rcases gG y z with ⟨h',e'⟩ | ⟨h',e'⟩ | ⟨h',e'⟩<;>rcases gG x z with ⟨b,e2⟩ | ⟨b,e2⟩ | ⟨b,e2⟩<;>omega
theorem xp.pull {α β:Type} {c:α->α->Int} (h:xp c) (f:β->α):xp fun x y=>c (f x) (f y):=⟨fun x y=>h.nm _ _,fun x y=>h.small _ _,fun x y z=>h.trans _ _ _⟩
theorem xd (a b:Int):(bif bD a 0 then b else a)=if a=0 then b else a:=by
 rw[cR]
 simp_all
theorem xp.lex {α:Type} {c d:α->α->Int} (b:xp c) (hd:xp d):xp fun x y=>bif bD (c x y) 0 then d x y else c x y where
 nm x y:=by
  have h1:=b.nm x y;have h2:=hd.nm x y;simp only[xd];omega
 small x y:=by
  have h1:=b.small x y;have h2:=hd.small x y
  grind
 trans x y z:=by
  have a1:=b.nm x y;have a2:=b.nm y z;have a3:=b.nm x z;have t1:=b.trans x y z;have t2:=b.trans z y x;have t3:=b.trans y z x;have t4:=b.trans z x y;have t5:=b.trans y x z;have t6:=b.trans x z y;have td:=hd.trans x y z;simp only[xd];omega
theorem xp.fz {α:Type} {c:α->α->Int} {l:α->α->List Int} (b:xp c) (h:xp fun x y=>Ae (l x y)):xp fun x y=>Ae (c x y::l x y):=b.lex h
theorem pre_nil {α:Type}:xp fun _ _:α=>Ae []:=⟨fun _ _=>Z,fun _ _=>⟨by decide,by decide⟩,fun _ _ _ _ _=>by decide⟩
theorem we {α:Type} {c:α->α->Int} (b:xp c):xp (dz c) where
 nm:=by
  intro l;induction l with
  | nil=>intro m;cases m<;>rfl
  | cons x l ih=>
   intro m;cases m with
   | nil=>rfl
   | cons y m=>
    show(bif bD (c y x) 0 then dz c m l else c y x)= -(bif bD (c x y) 0 then dz c l m else c x y);have h1:=b.nm x y;have h2:=ih m;simp only[xd];omega
 small:=by
  intro l;induction l with
  | nil=>
   intro m;cases m with
   | nil=>exact(by decide:(-1:Int)<=0/\(0:Int)<=1)
   | cons y m=>exact(by decide:(-1:Int)<=-1/\(-1:Int)<=1)
  | cons x l ih=>
   intro m;cases m with
   | nil=>exact(by decide:(-1:Int)<=1/\(1:Int)<=1)
   | cons y m=>
    show-1<=(bif bD (c x y) 0 then dz c l m else c x y)/\(bif bD (c x y) 0 then dz c l m else c x y)<=1;have h1:=b.small x y
    grind
 trans:=by
  intro l;induction l with
  | nil=>intro m n _ _;cases n<;>first | exact(by decide:(0:Int)<=0) | exact(by decide:(-1:Int)<=0)
  | cons x l ih=>
   intro m n;cases m with
   | nil=>intro h;exact absurd (show(1:Int)<=0 from h) (by decide)
   | cons y m=>
    cases n with
    | nil=>intro _ h;exact absurd (show(1:Int)<=0 from h) (by decide)
    | cons z n=>
     show(bif bD (c x y) 0 then dz c l m else c x y)<=0->(bif bD (c y z) 0 then dz c m n else c y z)<=0->(bif bD (c x z) 0 then dz c l n else c x z)<=0;have a1:=b.nm x y;have a2:=b.nm y z;have a3:=b.nm x z;have t1:=b.trans x y z;have t2:=b.trans z y x;have t3:=b.trans y z x;have t4:=b.trans z x y;have t5:=b.trans y x z;have t6:=b.trans x z y;have td:=ih m n;simp only[xd];omega
theorem oW {α:Type}:xp (gF (α:=α)):=rD.pull fun l:List α=>.ofNat l.length
theorem MG:xp nu:=(rD.pull cm.bX).fz ((rD.pull cm.index).fz pre_nil)
theorem MF:xp mU:=(rD.pull cq.kind).fz ((rD.pull cq.loc).fz ((rD.pull cq.order).fz ((rD.pull cq.read).fz ((rD.pull cq.write).fz pre_nil))))
theorem EP:xp gE:=oW.fz ((we MG).fz pre_nil)
theorem Bv:xp dD:=
 (oW.pull XG.threads).fz (((we oW).pull XG.threads).fz (((we<|we MF).pull XG.threads).fz ((oW.pull XG.from_).fz (((we EP).pull XG.from_).fz ((oW.pull XG.order).fz (((we EP).pull XG.order).fz ((oW.pull XG.init).fz (((we rD).pull XG.init).fz pre_nil))))))))
theorem ud {x y:Int} (h:eh x y=0):x=y:=by rcases gG x y with ⟨h',e⟩ | ⟨h',e⟩ | ⟨h',e⟩<;>omega
theorem fE {x:Int} {l:List Int} (h:Ae (x::l)=0):x=0/\Ae l=0:=by
 have h:(bif bD x 0 then Ae l else x)=0:=h;rw[xd] at h;omega
theorem yW {α:Type} {c:α->α->Int} (b:∀x y,c x y=0->x=y):∀{l m:List α},dz c l m=0->l=m
 | [],[],_=>rfl
 | [],_::_,h=>absurd (show(-1:Int)=0 from h) (by decide)
 | _::_,[],h=>absurd (show(1:Int)=0 from h) (by decide)
 | x::l,y::m,h=>by
  have h:(bif bD (c x y) 0 then dz c l m else c x y)=0:=h;rw[xd] at h;split at h
  ·rename_i h1;rw[b x y h1,yW b h]
  contradiction
theorem Hm (x y:cm) (h:nu x y=0):x=y:=by
 obtain⟨h1,h⟩:=fE h;obtain⟨h2,h⟩:=fE h;cases x;cases y
 grind [ud]
theorem Hl (x y:cq) (h:mU x y=0):x=y:=by
 obtain⟨h1,h⟩:=fE h;obtain⟨h2,h⟩:=fE h;obtain⟨h3,h⟩:=fE h;obtain⟨h4,h⟩:=fE h;obtain⟨h5,h⟩:=fE h;cases x;cases y
 grind [ud]
theorem FC (x y:List cm) (h:gE x y=0):x=y:=by
 obtain⟨_,h⟩:=fE h;obtain⟨b,_⟩:=fE h;exact yW Hm b
theorem qZ {x y:XG} (h:dD x y=0):x=y:=by
 obtain⟨_,h⟩:=fE h;obtain⟨_,h⟩:=fE h;obtain⟨h3,h⟩:=fE h;obtain⟨_,h⟩:=fE h;obtain⟨h5,h⟩:=fE h;obtain⟨_,h⟩:=fE h;obtain⟨h7,h⟩:=fE h;obtain⟨_,h⟩:=fE h;obtain⟨h9,_⟩:=fE h;cases x;cases y
 grind [yW,Hl,FC,ud]
theorem lk {α:Type} {l:List α} {ls:List (List α)}:lR (l::ls)=l.length+lR ls:=by unfold lR;simp
theorem yC {t:Nat}:∀{l:List cq} {n:Nat},∀p∈eV t l n,∃k,p.1= [.ofNat (t+1),.ofNat (n+k)]/\k<l.length
 | [],_,p,h=>by cases h
 | e::l,n,p,h=>by
  have h':p∈(bif br e then([.ofNat (t+1),.ofNat n],e.loc)::eV t l (n+1) else eV t l (n+1)):=h
  have key:p∈eV t l (n+1)->∃k,p.1= [.ofNat (t+1),.ofNat (n+k)]/\k<(e::l).length:=fun h=>by
   obtain⟨k,h1,h2⟩:=yC (l:=l) p h;exact⟨k+1,by rw[h1,show n+1+k=n+(k+1) by omega],by rw[List.length_cons];omega⟩
  cases hw:br e with
  | false=>rw[hw] at h';exact key h'
  | true=>
   rw[hw] at h';rcases mQ_.1 h' with rfl | h'
   ·exact⟨0,Z,by rw[List.length_cons];omega⟩
   exact key h'
theorem yA:∀{ls:List (List cq)} {t:Nat},∀p∈fo ls t,∃(s k:Nat) (l:List cq),p.1= [.ofNat (t+s+1),.ofNat k]/\ls[s]? =some l/\k<l.length
 | [],_,p,h=>by cases h
 | l::ls,t,p,h=>by
  have h':p∈eV t l 0++fo ls (t+1):=h;rcases List.mem_append.1 h' with h' | h'
  ·obtain⟨k,h1,b⟩:=yC p h';exact⟨0,k,l,by rw[h1,nA_],Z,b⟩
  obtain⟨s,k,l',h1,b,d⟩:=yA (ls:=ls) p h';exact⟨s+1,k,l',by rw[h1,show t+1+s+1=t+(s+1)+1 by omega],by simpa using b,d⟩
theorem vT:∀{ls:List (List cm)} {loc ln:Nat} {r:List cm} {x:cm},ls[ln]? =some r->x∈r->(x.ints,Int.ofNat (loc+ln))∈gu ls loc
 | [],_,_,_,_,h,_=>by simp at h
 | l::ls,loc,0,r,x,h,hx=>by
  have:l=r:=by simpa using h
  subst this;exact List.mem_append_left _<|List.mem_map.2 ⟨x,hx,Z⟩
 | l::ls,loc,ln+1,r,x,h,hx=>by
  have h':ls[ln]? =some r:=by simpa using h
  have:=vT (loc:=loc+1) h' hx;rw[show loc+1+ln=loc+(ln+1) by omega] at this;exact List.mem_append_right _ this
theorem Kh {g:XG} (h:dy g) {tm ln:Nat} {row:List cq} {r:List cm} (hr:g.threads[tm]? =some row) (d:g.order[ln]? =some r):(⟨.ofNat (tm+1),.ofNat row.length⟩:cm)∉r:=fun hx=>by
 have h1:=h.perm.mem_iff.2 (vT (loc:=0) d hx);obtain⟨s,k,l,b,h3,h4⟩:=yA _ h1;rw[show 0+s+1=s+1 by omega] at b;have b: [Int.ofNat (tm+1),Int.ofNat row.length]= [.ofNat (s+1),.ofNat k]:=b
 grind
theorem wD {α:Type}:∀{ls:List (List α)} {tm:Nat} {row:List α} {e:α},ls[tm]? =some row->lR (ls.set tm (row++[e]))=lR ls+1
 | [],_,_,_,h=>by simp at h
 | l::ls,0,row,e,h=>by
  have:l=row:=by simpa using h
  subst this;show lR ((l++[e])::ls)=_;rw[lk,lk,lA_,List.length_singleton];omega
 | l::ls,tm+1,row,e,h=>by
  have h':ls[tm]? =some row:=by simpa using h
  show lR (l::ls.set tm (row++[e]))=_;rw[lk,lk,wD h'];omega
def Dl (id:cm) (y:cm):Bool:= !(bV y.ints id.ints)
theorem Ig {id y:cm} (h:y≠id):Dl id y=true:=by
 unfold Dl;rw[cm.same,jC.2 h];rfl
theorem EA {α:Type} {p:α->Bool} {x:α} (hx:p x=true):∀{a b:List α} {i:Nat},(∀y∈a,p y=false)->fA p (a++x::b) i= .ofNat (i+a.length)
 | [],b,i,_=>by
  show(bif p x then Int.ofNat i else _)=_;rw[hx];rfl
 | y::a,b,i,h=>by
  show(bif p y then Int.ofNat i else fA p (a++x::b) (i+1))=_;rw[h y<|mS_ ..];show fA p (a++x::b) (i+1)=_;rw[EA hx fun z hz=>h z (mC_ _ hz),List.length_cons,show i+1+a.length=i+(a.length+1) by omega]
theorem filter_all {id:cm} {l:List cm} (h:id∉l):l.filter (Dl id)=l:=List.filter_eq_self.2 fun y hy=>Ig fun e=>h (e ▸ hy)
theorem C5 {id:cm} {a b:List cm} (ha:id∉a) (hb:id∉b):(a++id::b).filter (Dl id)=a++b:=by
 have h:Dl id id=false:=by unfold Dl;rw[cm.same,bP.2 Z];rfl
 grind [filter_all]
theorem Fx {g h:XG} {th pl:Int} {e:cq} {fr:cm} (K:mq g th e fr pl=(some h,0)):∃(tm:Nat) (row:List cq),th= .ofNat (tm+1)/\g.threads[tm]? =some row/\cy g=0/\cy h=0/\dR h ⟨.ofNat (tm+1),.ofNat row.length⟩=some e/\CV h=CV g+1/\
  (da 0 pl=true->br e=true/\fA (fun y=>bV (⟨.ofNat (tm+1),.ofNat row.length⟩:cm).ints y.ints) (dL h e.loc) 0=pl)/\(∀id w,dR g id=some w->dR h id=some w)/\
  ∀loc:Nat,loc<g.init.length->(dL h (.ofNat loc)).filter (Dl ⟨.ofNat (tm+1),.ofNat row.length⟩)=dL g (.ofNat loc):=by
 obtain⟨E,tm,row,frow,rfl,d,q1,l1,b,rfl,ch⟩:=ke K;have rg:=eK.1 E;have e1:bD (cy g) 0=true:=by rw[E];rfl
 have e2:bD (cy<|iW g tm e fr pl row frow) 0=true:=by rw[ch];rfl
 have F:∀(ln:Nat) (r:List cm),g.order[ln]? =some r->(⟨.ofNat (tm+1),.ofNat row.length⟩:cm)∉(⟨0,.ofNat ln⟩:cm)::r:=fun ln r m hm=>by
  rcases mQ_.1 hm with hm | hm
  ·grind
  exact Kh rg d m hm
 have u:br e=true->∃(ln pm:Nat) (r:List cm),e.loc= .ofNat ln/\pl= .ofNat (pm+1)/\g.order[ln]? =some r/\pm<=r.length/\dL (iW g tm e fr pl row frow) (.ofNat ln)=(⟨0,.ofNat ln⟩::r.take pm)++⟨.ofNat (tm+1),.ofNat row.length⟩::r.drop pm:=fun hw=>by
  obtain⟨ln,r,h1,C,I⟩:=qV b hw;unfold jr at b;rw[hw] at b;have b:(bif da pl 1 then true else da (.ofNat (dL g e.loc).length) pl)=false:=b;cases h4:da pl 1 with
  | true=>simp_all
  | false=>
   rw[h4] at b;obtain⟨pm,rfl⟩:=Dy h4;have h5:da (.ofNat (dL g e.loc).length) (.ofNat (pm+1))=false:=b;have h6:=bx h5;refine⟨ln,pm,r,h1,Z,C,by omega,?_⟩
   have G:(iW g tm e fr (.ofNat (pm+1)) row frow).order[ln]? =some (r.take pm++⟨.ofNat (tm+1),.ofNat row.length⟩::r.drop pm):=by
    rw[J7 hw h1 C]
    grind
   rw[fT e2 G];rfl
 refine⟨tm,row,Z,d,E,ch,Hz d Z,?_,fun hp=>?_,fun id w hw=>HA d Z Z hw,fun loc A=>?_⟩
 ·unfold CV;rw[e1,e2];show g.init.length+lR (g.threads.set tm (row++[e]))=g.init.length+lR g.threads+1;rw[wD d];omega
 ·have hw:br e=true:=by
   cases hw:br e with
   | true=>rfl
   | false=>
    unfold jr at b;rw[hw] at b;have b:(!bD pl 0)=false:=b;have:=Lv (jN b);subst this;cases hp
  refine⟨hw,?_⟩;obtain⟨ln,pm,r,h1,rfl,I,h4,h5⟩:=u hw;rw[h1,h5,EA (p:=fun y:cm=>bV (⟨.ofNat (tm+1),.ofNat row.length⟩:cm).ints y.ints) (bP.2 Z) fun y hy=>jC.2 fun he=>?_]
  ·simp_all
  have aa:y=(⟨.ofNat (tm+1),.ofNat row.length⟩:cm):=by
   have:bV y.ints (⟨.ofNat (tm+1),.ofNat row.length⟩:cm).ints=true:=bP.2 he.symm;rw[cm.same] at this;exact bP.1 this
  grind
 obtain⟨r,m⟩:=cF (show loc<g.order.length by rw[rg.order];exact A);rw[fT e1 m]
 by_cases hw:br e=true/\e.loc.toNat=loc
 ·obtain⟨ln,pm,r',h1,rfl,I,h4,h5⟩:=u hw.1
  grind [C5,List.take_append_drop]
 have G:(iW g tm e fr pl row frow).order[loc]? =some r:=by
  show(Gf g.order e ⟨.ofNat (tm+1),.ofNat row.length⟩ pl)[loc]? =_;rw[EL fun h1 C=>hw ⟨h1,C⟩,m]
 rw[fT e2 G,filter_all<|F loc r m]
theorem ru {α β:Type} (f:α->β) {l:List α} (h:(l.map f).Nodup):l.Nodup:=List.Pairwise.of_map f (fun _ _ hh e=>hh (congrArg f e)) h
theorem zx {α:Type}:∀{l m:List α},l.Nodup->(∀x∈l,x∈m)->m.length<=l.length->l.Perm m
 | [],m,_,_,h=>by simp_all
 | x::l,m,b,d,h=>by
  rw[List.nodup_cons] at b;obtain⟨i,hi⟩:=gO_ (d x<|mS_ ..);have hp:=jh hi;have hlen:=hp.length_eq;rw[List.length_cons] at hlen h;refine(List.Perm.cons x<|zx (l:=l) (m:=m.eraseIdx i) b.2 (fun y hy=>?_) oM).trans hp.symm
  grind
theorem Bm {α:Type}:∀{l m:List α},l.Nodup->(∀x∈l,x∈m)->l.length<=m.length
 | [],_,_,_=>Nat.zero_le _
 | x::l,m,b,d=>by
  rw[List.nodup_cons] at b;obtain⟨i,hi⟩:=gO_ (d x<|mS_ ..);have hp:=jh hi;have hlen:=hp.length_eq;rw[List.length_cons] at hlen⊢
  have:=Bm (l:=l) (m:=m.eraseIdx i) b.2 fun y hy=>by
   grind
  omega
def ff (loc:Int):List cq->Nat
 | []=>0
 | e::l=>(bif (bif br e then bD e.loc loc else false) then 1 else 0)+ff loc l
def gf (loc:Int):List (List cq)->Nat
 | []=>0
 | l::r=>ff loc l+gf loc r
def pM (loc:Int) (p:List Int×Int):Bool:=bD p.2 loc
theorem oD {loc:Int} {t:Nat}:∀{l:List cq} {n:Nat},((eV t l n).filter<|pM loc).length=ff loc l
 | [],_=>rfl
 | e::l,n=>by
  show(List.filter (pM loc) (bif br e then([.ofNat (t+1),.ofNat n],e.loc)::eV t l (n+1) else eV t l (n+1))).length=(bif (bif br e then bD e.loc loc else false) then 1 else 0)+ff loc l;cases hw:br e with
  | false=>
   simp only[cond_false,nA_];exact oD
  | true=>
   simp only[cond_true];rw[List.filter_cons];show(if bD e.loc loc=true then _ else _:LM).length=_;cases he:bD e.loc loc with
   | true=>simp only[if_true,cond_true,List.length_cons];rw[oD];omega
   | false=>simp only[cond_false,nA_];rw[if_neg (by decide)];exact oD
theorem sf {loc:Int}:∀{ls:List (List cq)} {t:Nat},((fo ls t).filter<|pM loc).length=gf loc ls
 | [],_=>rfl
 | l::ls,t=>by
  show(List.filter (pM loc) (eV t l 0++fo ls (t+1))).length=ff loc l+gf loc ls;rw[List.filter_append,lA_,oD,sf]
theorem yB {t:Nat} {k:List Int} {v:Int}:∀{l:List cq} {n:Nat},(k,v)∈eV t l n↔∃i e,l[i]? =some e/\br e=true/\k= [.ofNat (t+1),.ofNat (n+i)]/\v=e.loc
 | [],n=>⟨fun h=>(by cases h),fun⟨i,e,h,_⟩=>by simp at h⟩
 | e::l,n=>by
  show(k,v)∈(bif br e then([.ofNat (t+1),.ofNat n],e.loc)::eV t l (n+1) else eV t l (n+1))↔_;have ih:=yB (t:=t) (k:=k) (v:=v) (l:=l) (n:=n+1)
  have up:(k,v)∈eV t l (n+1)↔∃i e',l[i]? =some e'/\br e'=true/\k= [.ofNat (t+1),.ofNat (n+(i+1))]/\v=e'.loc:=by
   grind
  have cons:(∃i e',(e::l)[i]? =some e'/\br e'=true/\k= [.ofNat (t+1),.ofNat (n+i)]/\v=e'.loc)↔(br e=true/\k= [.ofNat (t+1),.ofNat n]/\v=e.loc)∨∃i e',l[i]? =some e'/\br e'=true/\k= [.ofNat (t+1),.ofNat (n+(i+1))]/\v=e'.loc:=by
   constructor
   ·grind
   rintro (⟨b,d,h4⟩ | ⟨i,e',h1,b,d,h4⟩)
   ·exact⟨0,e,Z,b,d,h4⟩
   exact⟨i+1,e',by simpa using h1,b,d,h4⟩
  grind
theorem gW {k:List Int} {v:Int}:∀{ls:List (List cq)} {t:Nat},(k,v)∈fo ls t↔∃s i l e,ls[s]? =some l/\l[i]? =some e/\br e=true/\k= [.ofNat (t+s+1),.ofNat i]/\v=e.loc
 | [],t=>⟨fun h=>(by cases h),fun⟨s,i,l,e,h,_⟩=>by simp at h⟩
 | l::ls,t=>by
  show(k,v)∈eV t l 0++fo ls (t+1)↔_;rw[List.mem_append,yB,gW (ls:=ls)];constructor
  ·rintro (⟨i,e,h1,b,d,h4⟩ | ⟨s,i,l',e,h0,h1,b,d,h4⟩)
   ·exact⟨0,i,l,e,Z,h1,b,by rw[d,nA_],h4⟩
   exact⟨s+1,i,l',e,by simpa using h0,h1,b,by grind,h4⟩
  grind
theorem fQ {k:List Int} {v:Int}:∀{ls:List (List cm)} {loc:Nat},(k,v)∈gu ls loc↔∃ln r id,ls[ln]? =some r/\id∈r/\k=id.ints/\v= .ofNat (loc+ln)
 | [],loc=>⟨fun h=>(by cases h),fun⟨ln,r,id,h,_⟩=>by simp at h⟩
 | r::ls,loc=>by
  show(k,v)∈ec loc r++gu ls (loc+1)↔_;rw[List.mem_append,fQ (ls:=ls)];constructor
  ·rintro (h | ⟨ln,r',id,h1,b,d,h4⟩)
   ·obtain⟨id,h1,b⟩:=List.mem_map.1 h
    grind
   exact⟨ln+1,r',id,by simpa using h1,b,d,by grind⟩
  rintro ⟨ln,r',id,h1,b,d,h4⟩;cases ln with
  | zero=>
   have:r=r':=by simpa using h1
   subst this;exact .inl<|List.mem_map.2 ⟨id,b,by simp_all⟩
  | succ ln=>grind
theorem qH {loc:Nat} (r:List cm):(ec loc r).filter (pM (.ofNat loc))=ec loc r:=List.filter_eq_self.2 fun p hp=>by
 obtain⟨id,_,rfl⟩:=List.mem_map.1 hp;show bD (.ofNat loc) (.ofNat loc)=true;rw[ft];simp
theorem pE {loc x:Nat} (r:List cm) (h:loc≠x):(ec loc r).filter (pM (.ofNat x))= []:=List.filter_eq_nil_iff.2 fun p hp=>by
 obtain⟨id,_,rfl⟩:=List.mem_map.1 hp;show¬bD (.ofNat loc) (.ofNat x)=true;rw[ft];simp[h]
theorem tD {x:Nat}:∀{ls:List (List cm)} {loc ln:Nat} {r:List cm},ls[ln]? =some r->loc+ln=x->(gu ls loc).filter (pM (.ofNat x))=ec x r
 | [],_,_,_,h,_=>by simp at h
 | q::ls,loc,0,r,h,hx=>by
  have:q=r:=by simpa using h
  subst this;have hx:loc=x:=by omega
  subst hx;show(ec loc q++gu ls (loc+1)).filter _=_;rw[List.filter_append,qH]
  have:(gu ls (loc+1)).filter (pM (.ofNat loc))= []:=List.filter_eq_nil_iff.2 fun p hp=>by
   obtain⟨k,v⟩:=p;obtain⟨ln,r,id,_,_,_,rfl⟩:=fQ.1 hp;show¬bD (.ofNat (loc+1+ln)) (.ofNat loc)=true;rw[ft];simp;omega
  rw[this,List.append_nil]
 | q::ls,loc,ln+1,r,h,hx=>by
  show(ec loc q++gu ls (loc+1)).filter _=_;rw[List.filter_append,pE q oM,tD (ls:=ls) (loc:=loc+1) (ln:=ln) (by simpa using h) oM];rfl
def w5 (g:XG) (loc:Int) (id:cm):Bool:=
 bif (dR g id).isSome then(bif bD id.bX 0 then false else bif br (uU<|dR g id) then bD (uU<|dR g id).loc loc else false) else false
structure D9 (g:XG) (ln:Nat) (r:List cm):Prop where
 Nw:∀id∈r,w5 g (.ofNat ln) id=true
 nodup:r.Nodup
 Qe:r.length=gf (.ofNat ln) g.threads
theorem kA {x y:cm} (h:x.ints=y.ints):x=y:=by
 have:bV x.ints y.ints=true:=bP.2 h;rw[cm.same] at this;exact bP.1 this
theorem zc {g:XG} {ln:Nat} {id:cm}:w5 g (.ofNat ln) id=true↔(id.ints,Int.ofNat ln)∈fo g.threads 0:=by
 rw[gW];unfold w5;constructor
 ·intro h;cases b:dR g id with
  | none=>rw[b] at h;cases h
  | some e=>
   rw[b] at h;obtain⟨th,ix⟩:=id;have h:(bif bD th 0 then false else bif br e then bD e.loc (.ofNat ln) else false)=true:=h;cases h0:bD th 0 with
   | true=>rw[h0] at h;cases h
   | false=>
    rw[h0] at h;cases hw:br e with
    | false=>rw[hw] at h;cases h
    | true=>
     rw[hw] at h
     have hl:e.loc= .ofNat ln:=by
      have h:bD e.loc (.ofNat ln)=true:=h;rw[cR] at h;simp_all
     obtain⟨t,i,rfl,rfl,_,_,hp⟩:=Hy (by rw[b];rfl);cases t with
     | zero=>cases h0
     | succ t=>
      rw[ij] at b;cases d:g.threads[t]? with
      | none=>simp_all
      | some l=>
       rw[d] at b;exact⟨t,i,l,e,d,b,hw,by rw[nA_];rfl,hl.symm⟩
 rintro ⟨s,i,l,e,h1,m,u,h4,h5⟩;obtain⟨th,ix⟩:=id;rw[nA_] at h4;have h4: [th,ix]= [.ofNat (s+1),.ofNat i]:=h4;simp only[List.cons.injEq,and_true] at h4;obtain⟨rfl,rfl⟩:=h4;have he:dR g ⟨.ofNat (s+1),.ofNat i⟩=some e:=by rw[ij,h1];exact m
 rw[he];show(bif bD (.ofNat (s+1)) 0 then false else bif br e then bD e.loc (.ofNat ln) else false)=true;rw[show bD (.ofNat (s+1)) 0=false by rw[show(0:Int)= .ofNat 0 from Z,ft];simp,u,<-h5]
 grind [ft]
theorem j0 {ls:List (List cq)} {t:Nat}:(fo ls t).Nodup:=ru _ oj
theorem rC {loc:Nat} {r:List cm} (h:r.Nodup):(ec loc r).Nodup:=by
 grind [ec,kA]
theorem tE {g:XG} (A:∀(t:Nat) (l:List cq) (i:Nat) (e:cq),g.threads[t]? =some l->l[i]? =some e->br e=true->∃ln:Nat,e.loc= .ofNat ln/\ln<g.order.length):
  (∀(ln:Nat) (r:List cm),g.order[ln]? =some r->D9 g ln r)↔(fo g.threads 0).Perm (gu g.order 0):=by
 constructor
 ·intro h;refine zx j0 (fun p hp=>?_) ?_
  ·obtain⟨k,v⟩:=p;obtain⟨s,i,l,e,h1,F,G,h4,h5⟩:=gW.1 hp;obtain⟨ln,I,K⟩:=A s l i e h1 F G;obtain⟨r,u⟩:=cF K;have ho:=h ln r u
   have hq:(ec ln r).Perm ((fo g.threads 0).filter<|pM (.ofNat ln)):=by
    refine zx (rC ho.nodup) (fun q hq=>?_) ?_
    ·obtain⟨id,d,rfl⟩:=List.mem_map.1 hq;refine List.mem_filter.2 ⟨zc.1<|ho.Nw id d,?_⟩;show bD (.ofNat ln) (.ofNat ln)=true;rw[ft];simp
    rw[sf,<-ho.Qe];unfold ec;simp_all
   have hm:(k,v)∈ec ln r:=hq.mem_iff.2 (List.mem_filter.2 ⟨hp,by show bD v (.ofNat ln)=true;rw[h5,I,ft];simp⟩);obtain⟨id,d,he⟩:=List.mem_map.1 hm;cases he;exact fQ.2 ⟨ln,r,id,u,d,Z,by rw[nA_]⟩
  
  have key:∀(m:Nat) (ls:List (List cm)),(∀(ln:Nat) (r:List cm),ls[ln]? =some r->D9 g (m+ln) r)->((gu ls m).Nodup/\∀p∈gu ls m,p∈fo g.threads 0):=by
   intro m ls;induction ls generalizing m with
   | nil=>intro _;exact⟨List.nodup_nil,fun p hp=>by cases hp⟩
   | cons r ls ih=>
    intro hh
    obtain⟨L,M⟩:=ih (m+1) fun ln r' E=>by
     have:=hh (ln+1) r' (by simpa using E)
     grind
    have h0:=hh 0 r Z;rw[Nat.add_zero] at h0;refine⟨?_,fun p hp=>?_⟩
    ·show(ec m r++gu ls (m+1)).Nodup;rw[List.nodup_append];refine⟨rC h0.nodup,L,fun a Q b hb aa=>?_⟩;obtain⟨id,_,rfl⟩:=List.mem_map.1 Q
     grind [fQ]
    rcases List.mem_append.1 (show p∈ec m r++gu ls (m+1) from hp) with hp | hp
    ·obtain⟨id,d,rfl⟩:=List.mem_map.1 hp;exact zc.1<|h0.Nw id d
    exact M p hp
  obtain⟨R,T⟩:=key 0 g.order fun ln r u=>by simp_all
  exact Bm R T
 intro hp ln r u;have C:∀id∈r,(id.ints,Int.ofNat ln)∈fo g.threads 0:=fun id d=>hp.mem_iff.2 (fQ.2 ⟨ln,r,id,u,d,Z,by rw[nA_]⟩)
 have hf:=tD (x:=ln) (loc:=0) u (nA_ _);refine⟨fun id d=>zc.2 (C id d),?_,?_⟩
 ·grind [j0,ec,ru]
 have:=(hp.filter<|pM (.ofNat ln)).length_eq
 grind [sf,ec]
theorem j8 {g:XG} (h1:dV g=false) (b:¬dy g):cy g=2:=by
 have d:cy g≠0:=fun h=>b (eK.1 h)
 unfold cy at d⊢
 grind
theorem BT {g:XG} (h:da 4 (.ofNat g.threads.length)=true):dV g=true:=by unfold dV;rw[h];rfl
theorem BV {g:XG} (h:da 6 (.ofNat g.init.length)=true):dV g=true:=by
 grind [dV]
theorem BU {g:XG} {i:Nat} {x:List cq} (hx:g.threads[i]? =some x) (h:da 14 (.ofNat x.length)=true):dV g=true:=by
 grind [dV]
theorem DW {g:XG} {i:Nat} (h1:da 4 (.ofNat g.threads.length)=false) (h2:da 6 (.ofNat g.init.length)=false) (hi:g.threads.length<=i) (h3:∀(k:Nat) (l:List cq),k<i->g.threads[k]? =some l->da 14 (.ofNat l.length)=false):dV g=false:=by
 grind [dV,gO_]
theorem nt {g:XG} (h:dV g=true):cy g=3:=by unfold cy;rw[h];rfl
theorem Mh {a b:Int} (h:bD a b=true):a=b:=by rw[cR] at h;simp_all
theorem BD {e:cq} {n:Nat} (h:bE e (.ofNat n)=true) (hw:br e=true):∃ln:Nat,e.loc= .ofNat ln/\ln<n:=by
 unfold bE at h
 have hk:bD e.kind 4=false:=by
  grind [br,Mh]
 rw[hk] at h
 have key:(bif bW (da e.loc 0) then da e.loc (.ofNat n) else false)=true:=by
  simp_all
 cases h0:da e.loc 0 with
 | true=>rw[h0] at key;cases key
 | false=>
  rw[h0] at key;obtain⟨ln,hl⟩:=mF h0;rw[hl] at key;exact⟨ln,hl,aU key⟩
theorem It {g:XG} {t n:Nat} {e:cq} {q:cm} (h:wW g t n e q=true):bE e (.ofNat g.init.length)=true/\cz g ⟨.ofNat (t+1),.ofNat n⟩ q=true:=by
 unfold wW at h
 simp_all
theorem Iu {g:XG} {t n:Nat} {e:cq} {q:cm} (h1:bE e (.ofNat g.init.length)=true) (b:cz g ⟨.ofNat (t+1),.ofNat n⟩ q=true):wW g t n e q=true:=by
 unfold wW;rw[h1];exact b
theorem ny {loc:Int}:∀{l:List cq} {i:Nat} {x:cq},l[i]? =some x->ff loc (l.take (i+1))=ff loc (l.take i)+(bif (bif br x then bD x.loc loc else false) then 1 else 0)
 | [],_,_,h=>by simp at h
 | e::l,0,x,h=>by
  have:e=x:=by simpa using h
  subst this;show(bif (bif br e then bD e.loc loc else false) then 1 else 0)+ff loc []=0+_;rw[nA_];rfl
 | e::l,i+1,x,h=>by
  have h':l[i]? =some x:=by simpa using h
  show(bif (bif br e then bD e.loc loc else false) then 1 else 0)+ff loc (l.take (i+1))=(bif (bif br e then bD e.loc loc else false) then 1 else 0)+ff loc (l.take i)+_;rw[ny h',Nat.add_assoc]
theorem JZ {loc:Int} {l:List cq} {i:Nat} {x:cq} (h:l[i]? =some x) (h1:br x=true) (b:bD x.loc loc=true):ff loc (l.take (i+1))=ff loc (l.take i)+1:=by
 rw[ny h,h1,b];rfl
theorem Hn {loc:Int} {l:List cq} {i:Nat} {x:cq} (h:l[i]? =some x) (h1:br x=false∨bD x.loc loc=false):ff loc (l.take (i+1))=ff loc (l.take i):=by
 grind [ny]
theorem tg {loc:Int}:∀{ls:List (List cq)} {i:Nat} {x:List cq},ls[i]? =some x->gf loc (ls.take (i+1))=gf loc (ls.take i)+ff loc x
 | [],_,_,h=>by simp at h
 | l::ls,0,x,h=>by
  have:l=x:=by simpa using h
  subst this;show ff loc l+gf loc []=0+_;rw[nA_];rfl
 | l::ls,i+1,x,h=>by
  have h':ls[i]? =some x:=by simpa using h
  show ff loc l+gf loc (ls.take (i+1))=ff loc l+gf loc (ls.take i)+_;rw[tg h',Nat.add_assoc]
theorem sg {loc:Int}:∀{l:List cq},ff loc l<=l.length
 | []=>nR_ _
 | e::l=>by
  have:=sg (loc:=loc) (l:=l);show(bif (bif br e then bD e.loc loc else false) then 1 else 0)+ff loc l<=l.length+1;cases (bif br e then bD e.loc loc else false) with
  | true=>show 1+_<=_;omega
  | false=>show 0+_<=_;omega
theorem xA {loc:Int} {b:Nat}:∀{ls:List (List cq)},(∀l∈ls,l.length<=b)->gf loc ls<=ls.length*b
 | [],_=>Nat.zero_le _
 | l::ls,h=>by
  have h1:=h l (mS_ ..);have h2:=xA (loc:=loc) (ls:=ls) fun x hx=>h x (mC_ _ hx)
  grind [sg,gf,Nat.succ_mul]
theorem yX {loc:Int} {ls:List (List cq)} {i:Nat} (h1:ls.length<=4) (d:∀l∈ls,l.length<=14):gf loc (ls.take i)<=56:=by
 have h3:=xA (loc:=loc) (b:=14) (ls:=ls.take i) fun l hl=>d l (List.mem_of_mem_take hl)
 grind
theorem Im {α:Type} {l:List α} (h:l.Nodup) {i j:Nat} {a b:α} (aa:i<j) (ha:l[i]? =some a) (hb:l[j]? =some b):a≠b:=fun e=>by
 grind [List.pairwise_iff_getElem]
theorem Io {α:Type} {l:List α} (h:∀(i j:Nat) (a b:α),i<j->l[i]? =some a->l[j]? =some b->a≠b):l.Nodup:=
 List.pairwise_iff_getElem.2 fun i j h1 m d=>h i j _ _ d (gC h1) (gC m)
def NW:List (List cq)->Nat->List cm
 | [],_=>[]
 | r::l,t=>(List.range r.length).map (fun i=>(⟨.ofNat (t+1),.ofNat i⟩:cm))++NW l (t+1)
def Mn (g:XG):List cm:=(List.range g.init.length).map (fun i=>(⟨0,.ofNat i⟩:cm))++NW g.threads 0
def HU (g:XG) (i:Nat):cm:=((Mn g)[i]?).getD ⟨0,0⟩
def sl (g:XG) (i:Nat):cq:=uU (dR g<|HU g i)
def nV (g:XG):Nat:=(Mn g).length
section
variable {g:XG}
end
theorem EB {α:Type} {p:α->Bool}:∀{l:List α} {i n:Nat} {x:α},l[n]? =some x->p x=true->(∀k y,k<n->l[k]? =some y->p y=false)->fA p l i= .ofNat (i+n)
 | [],_,_,_,h,_,_=>by simp at h
 | y::l,i,0,x,h,hp,_=>by
  simp only[List.getElem?_cons_zero,oJ_] at h;subst h;unfold fA;rw[hp];rfl
 | y::l,i,n+1,x,h,hp,hb=>by
  unfold fA;rw[hb 0 y oM Z];have:=EB (i:=i+1) (l:=l) (n:=n) (by simpa using h) hp fun k z hk hz=>hb (k+1) z oM (by simpa using hz)
  show fA p l (i+1)=_;rw[this,show i+1+n=i+(n+1) by omega]
def QH (g:XG) (id:cm):cm:=((((g.from_[id.bX.toNat-1]?).getD [])[id.index.toNat]?).getD ⟨0,0⟩)
def rh (g:XG) (i:Nat):Int:=bif dw (sl g i) then fA (fun x:cm=>bV x.ints (QH g<|HU g i).ints) (Mn g) 0 else-1
def PI (g:XG) (loc:Int):List cm:=(g.order[loc.toNat]?).getD []
def zA (g:XG) (i:Nat):Int:=bif bD (HU g i).bX 0 then 0 else(let p:=fA (fun x:cm=>bV x.ints (HU g i).ints) (PI g (sl g i).loc) 0;bif da p 0 then-1 else wr .i64 (Int.add p 1))
def Og (g:XG):Rn:=fun i j=>bif (bif bD (HU g i).bX 0 then da 0 (HU g j).bX else false) then true else bif da 0 (HU g i).bX then(bif bD (HU g i).bX (HU g j).bX then da (HU g i).index (HU g j).index else false) else false
def OL (g:XG):Rn:=fun i j=>bif br (sl g i) then(bif br (sl g j) then(bif bD (sl g i).loc (sl g j).loc then da (zA g i) (zA g j) else false) else false) else false
def Pv (g:XG):Rn:=fun i j=>bif bW (bD (.ofNat i) (.ofNat j)) then(bif dw (sl g i) then OL g (rh g i).toNat j else false) else false
def NK (g:XG) (i:Nat):Bool:=bif bD (sl g i).order 3 then true else bif bD (sl g i).order 5 then true else bD (sl g i).order 6
def Ol (g:XG) (i:Nat):Bool:=bif bD (sl g i).order 4 then true else bif bD (sl g i).order 5 then true else bD (sl g i).order 6
inductive Sq (g:XG) (w:Nat):Nat->Prop where
 | base:Sq g w w
 | step {i f:Nat} (hi:i<nV g) (hk:bD (sl g i).kind 3=true) (hf:rh g i= .ofNat f) (h:Sq g w f):Sq g w i
open Classical in
def KJ (g:XG) (w:Nat):Nat->Bool:=fun k=>decide (Sq g w k)
theorem BK {g:XG} {w k:Nat}:KJ g w k=true↔Sq g w k:=by unfold KJ;simp
theorem A6 {e:cq} (h:bD e.kind 3=true):dw e=true:=by unfold dw;rw[h];cases bD e.kind 1<;>rfl
theorem Km {l:List (Nat×Nat)} {a b:Nat}:PE l a b=true↔(a,b)∈l:=by
 unfold PE;simp only[List.any_eq_true,bA_,beq_iff_eq];constructor
 ·rintro ⟨⟨x,y⟩,hm,h1,d⟩;cases h1;cases d;exact hm
 intro h;exact⟨(a,b),h,Z,Z⟩
end Go.Ev
namespace Go.Ev
variable [Env]
set_option maxRecDepth 20000
def Hr (g:XG) (w:Nat):Bool:=bif br (sl g w) then bW (bD (sl g w).order 1) else false
def Hp (g:XG) (w b:Nat):Bool:=bif dw (sl g b) then(bif bD (sl g b).order 1 then false else KJ g w (rh g b).toNat) else false
def Hq (g:XG) (w r:Nat):Bool:=bif Ol g r then(bif bD (.ofNat r) (.ofNat w) then true else bif bD (sl g r).kind 4 then Og g r w else false) else false
def Ho (g:XG) (b a:Nat):Bool:=bif NK g a then(bif bD (.ofNat a) (.ofNat b) then true else bif bD (sl g a).kind 4 then Og g b a else false) else false
def vh {α:Type} (c:Nat->Bool) (f:Nat->List α):Nat->List α
 | 0=>[]
 | k+1=>vh c f k++(bif c k then f k else [])
def l4 (g:XG) (b r k:Nat):List (Nat×Nat):=vh (Ho g b) (fun a=>[(r,a)]) k
def l3 (g:XG) (w b k:Nat):List (Nat×Nat):=vh (Hq g w) (fun r=>l4 g b r (nV g)) k
def l2 (g:XG) (w k:Nat):List (Nat×Nat):=vh (Hp g w) (fun b=>l3 g w b (nV g)) k
def l1 (g:XG) (k:Nat):List (Nat×Nat):=vh (Hr g) (fun w=>l2 g w (nV g)) k
theorem gN {α:Type} {c:Nat->Bool} {f:Nat->List α} {x:α}:∀{k:Nat},x∈vh c f k↔∃i,i<k/\c i=true/\x∈f i
 | 0=>⟨(fun h=>by cases h),fun⟨i,h,_⟩=>absurd h<|nZ_ _⟩
 | k+1=>by
  unfold vh;rw[List.mem_append,gN (k:=k)];constructor
  ·rintro (⟨i,h1,d,m⟩ | h)
   ·exact⟨i,by omega,d,m⟩
   cases u:c k with
   | false=>rw[u] at h;cases h
   | true=>rw[u] at h;exact⟨k,by omega,u,h⟩
  rintro ⟨i,h1,d,m⟩;rcases Nat.lt_or_ge i k with h | h
  ·exact .inl ⟨i,h,d,m⟩
  obtain rfl:i=k:=by omega
  exact .inr (by rw[d];exact m)
def OE (g:XG):Rn:=PE (l1 g<|nV g)
theorem Fc {g:XG} {r a:Nat}:OE g r a=true↔∃w b,w<nV g/\b<nV g/\r<nV g/\a<nV g/\Hr g w=true/\Hp g w b=true/\Hq g w r=true/\Ho g b a=true:=by
 unfold OE;rw[Km];unfold l1;rw[gN];constructor
 ·rintro ⟨w,hw,cw,h⟩;obtain⟨b,hb,cb,h⟩:=gN.1 h;obtain⟨r',d,cr,h⟩:=gN.1 h;obtain⟨a',m,ca,h⟩:=gN.1 h;cases List.mem_singleton.1 h;exact⟨w,b,hw,hb,d,m,cw,cb,cr,ca⟩
 rintro ⟨w,b,hw,hb,d,m,cw,cb,cr,ca⟩;exact⟨w,hw,cw,gN.2 ⟨b,hb,cb,gN.2 ⟨r,d,cr,gN.2 ⟨a,m,ca,List.mem_singleton.2 Z⟩⟩⟩⟩
section
variable {g:XG} {w b r a:Nat} {X Y0 Zv:List (Nat×Nat)}
end
end Go.Ev
namespace Go.Ev
variable [Env]
def DG (n:Nat) (R:Rn):Int:=fA (fun i=>G2 n R i i) (List.range n) 0
def Px (g:XG):Rn:=G2 (nV g) (OT [Og g,OE g])
theorem AX {α:Type} {p:α->Bool}:∀{l:List α} {i:Nat},da (fA p l i) 0= !(l.any p)
 | [],_=>rfl
 | x::l,i=>by
  unfold fA;rw[List.any_cons];cases hx:p x with
  | true=>rfl
  | false=>rw[Bool.false_or];exact AX
structure Pm (n:Nat) (p q:Nat->Nat):Prop where
 lt:∀t,t<n->p t<n
 Di:∀t,t<n->q t<n
 qp:∀t,t<n->q (p t)=t
 pq:∀t,t<n->p (q t)=t
theorem Pm.GG {n:Nat} {p q:Nat->Nat} (h:Pm n p q):Pm n q p:=⟨h.Di,h.lt,h.pq,h.qp⟩
def iO (p:Nat->Nat) (id:cm):cm:=match id.bX with | .ofNat (t+1)=>⟨.ofNat (p t+1),id.index⟩ | _=>id
def fO (p q:Nat->Nat) (g:XG):XG:=
 ⟨g.init,(List.range g.threads.length).map (fun j=>(g.threads[q j]?).getD []),(List.range g.threads.length).map (fun j=>((g.from_[q j]?).getD []).map (iO p)),g.order.map (·.map<|iO p)⟩
def tQ (n:Nat) (id:cm):Prop:=∃t:Nat,id.bX= .ofNat t/\t<=n
theorem rq {p:Nat->Nat} {t:Nat} {k:Int}:iO p ⟨.ofNat (t+1),k⟩=⟨.ofNat (p t+1),k⟩:=rfl
theorem tQ.case {n:Nat} {id:cm} (h:tQ n id):(∃k,id=⟨0,k⟩)∨∃t k,t<n/\id=⟨.ofNat (t+1),k⟩:=by
 obtain⟨t,h1,b⟩:=h;obtain⟨a,k⟩:=id;dsimp only at h1;subst h1;cases t with
 | zero=>exact .inl ⟨k,Z⟩
 | succ t=>exact .inr ⟨t,k,b,Z⟩
section
variable {n:Nat} {p q:Nat->Nat} {g:XG}
theorem rp (h:Pm n p q) {id:cm} (hi:tQ n id):iO q (iO p id)=id:=by
 rcases hi.case with ⟨k,rfl⟩ | ⟨t,k,b,rfl⟩
 ·rfl
 rw[rq,rq,h.qp t b]
theorem EH (h:Pm n p q) {a b:cm} (d:tQ n a) (hb:tQ n b) (e:iO p a=iO p b):a=b:=by rw[<-rp h d,e,rp h hb]
theorem ze {id:cm} {e:cq} (h:dR g id=some e):tQ g.threads.length id:=by
 obtain⟨a,k⟩:=id
 match a,k with
 | .ofNat 0,_=>exact⟨0,Z,Nat.zero_le _⟩
 | .ofNat (t+1),.ofNat k=>
  obtain⟨row,h1,_⟩:=Option.bind_eq_some_iff.1 (show(g.threads[t]?).bind (·[k]?)=some e from h)
  exact⟨t+1,Z,(gA.1 h1).1⟩
 | .ofNat (t+1),.negSucc k=>cases h
 | .negSucc t,_=>cases h
theorem uk (h:Pm g.threads.length p q) {t:Nat} (b:t<g.threads.length):(fO p q g).threads[p t]? =g.threads[t]?:=by
 show((List.range g.threads.length).map _)[p t]? =_;rw[gM_,List.getElem?_range<|h.lt t b];show some ((g.threads[q<|p t]?).getD [])=_;rw[h.qp t b,gC b];rfl
theorem fP:(fO p q g).threads.length=g.threads.length:=by show((List.range g.threads.length).map _).length=_;simp
theorem F8:(fO p q g).from_.length=g.threads.length:=by show((List.range g.threads.length).map _).length=_;simp
theorem Bf (h:Pm g.threads.length p q) (hl:g.from_.length=g.threads.length) {t:Nat} (b:t<g.threads.length):(fO p q g).from_[p t]? =(g.from_[t]?).map (·.map<|iO p):=by
 show((List.range g.threads.length).map _)[p t]? =_;rw[gM_,List.getElem?_range<|h.lt t b];show some (((g.from_[q<|p t]?).getD []).map<|iO p)=_;rw[h.qp t b,gC (by rw[hl];exact b)];rfl
theorem Mv (h:Pm g.threads.length p q) {id:cm} (hi:tQ g.threads.length id):dR (fO p q g) (iO p id)=dR g id:=by
 rcases hi.case with ⟨k,rfl⟩ | ⟨t,k,b,rfl⟩
 ·cases k<;>rfl
 rw[rq];cases k with
 | negSucc k=>rfl
 | ofNat k=>rw[ij,ij,uk h b]
theorem Dj (h:Pm g.threads.length p q) {j:Nat} {l:List cq} (hj:(fO p q g).threads[j]? =some l):∃t,t<g.threads.length/\j=p t/\g.threads[t]? =some l:=by
 have hlt:=(gA.1 hj).1;rw[fP] at hlt;refine⟨q j,h.Di j hlt,(h.pq j hlt).symm,?_⟩;rw[<-uk h (h.Di j hlt),h.pq j hlt];exact hj
theorem sH {t k:Nat} {e:cq} {f:cm} (h:wW g t k e f=true):bE e (.ofNat g.init.length)=true/\cz g ⟨.ofNat (t+1),.ofNat k⟩ f=true:=by
 unfold wW at h;cases h1:bE e (.ofNat g.init.length) with
 | false=>rw[h1] at h;cases h
 | true=>rw[h1] at h;exact⟨Z,h⟩
theorem mM {t k:Nat} {row:List cq} {e:cq} {f:cm} (h1:g.threads[t]? =some row) (m:row[k]? =some e) (h:cz g ⟨.ofNat (t+1),.ofNat k⟩ f=true):(dw e=false/\f=⟨0,0⟩)∨(dw e=true/\∃w,dR g f=some w/\f≠⟨.ofNat (t+1),.ofNat k⟩/\br w=true/\w.loc=e.loc/\w.write=e.read):=by
 have he:dR g ⟨.ofNat (t+1),.ofNat k⟩=some e:=by rw[ij,h1];exact m
 unfold cz at h;rw[he] at h;simp only[show uU (some e)=e from Z] at h;cases d:dw e with
 | false=>
  rw[d] at h;refine .inl ⟨Z,kA<|bP.1 (show bV f.ints (cm.mk 0 0).ints=true from h)⟩
 | true=>
  rw[d] at h;cases hf:dR g f with
  | none=>rw[hf] at h;cases h
  | some w=>
   rw[hf] at h;simp only[show uU (some w)=w from Z,Bool.not_true,cond_false,Option.isSome_some,cond_true] at h;refine .inr ⟨Z,w,Z,?_⟩;cases b:bV [f.bX,f.index] [Int.ofNat (t+1),Int.ofNat k] with
   | true=>rw[b] at h;cases h
   | false=>
    rw[b] at h;cases h4:br w with
    | false=>rw[h4] at h;cases h
    | true=>
     rw[h4] at h;cases h5:bD w.loc e.loc with
     | false=>rw[h5] at h;cases h
     | true=>
      rw[h5] at h;refine⟨fun e1=>jC.1 b (by rw[e1]),Z,?_,?_⟩
      ·rw[cR] at h5;exact of_decide_eq_true h5
      have h:bD w.write e.read=true:=h;rw[cR] at h;exact of_decide_eq_true h
theorem zG {t k:Nat} {row:List cq} {e:cq} {f:cm} (h1:g.threads[t]? =some row) (d:row[k]? =some e) (h:(dw e=false/\f=⟨0,0⟩)∨(dw e=true/\∃w,dR g f=some w/\f≠⟨.ofNat (t+1),.ofNat k⟩/\br w=true/\w.loc=e.loc/\w.write=e.read)):cz g ⟨.ofNat (t+1),.ofNat k⟩ f=true:=by
 have he:dR g ⟨.ofNat (t+1),.ofNat k⟩=some e:=by rw[ij,h1];exact d
 unfold cz;rw[he];simp only[show uU (some e)=e from Z];rcases h with ⟨b,rfl⟩ | ⟨b,w,hf,hne,hw,hl,hv⟩
 ·rw[b];exact bP.2 Z
 have m:bV [f.bX,f.index] [Int.ofNat (t+1),Int.ofNat k]=false:=jC.2 fun e1=>hne (kA e1)
 rw[b,hf];simp only[show uU (some w)=w from Z,Bool.not_true,cond_false,Option.isSome_some,cond_true,m,hw,hl,hv,fj]
theorem ug (b:dy g) {t:Nat} {f:List cm} (hf:g.from_[t]? =some f) {x:cm} (hx:x∈f):tQ g.threads.length x:=by
 obtain⟨l,hl⟩:=cF (show t<g.threads.length by rw[<-b.from_];exact(gA.1 hf).1);obtain⟨h1,d⟩:=b.rows t l f hl hf;obtain⟨k,hk⟩:=gO_ hx;obtain⟨e,he⟩:=cF (show k<l.length by rw[<-h1];exact(gA.1 hk).1);rcases mM hl he (sH<|d k e x he hk).2 with ⟨_,rfl⟩ | ⟨_,w,hw,_⟩
 ·exact⟨0,Z,Nat.zero_le _⟩
 exact ze hw
theorem sK (b:dy g) {ln:Nat} {r:List cm} (d:g.order[ln]? =some r) {x:cm} (hx:x∈r):∃(t k:Nat) (row:List cq) (e:cq),x=⟨.ofNat (t+1),.ofNat k⟩/\g.threads[t]? =some row/\row[k]? =some e/\br e=true/\e.loc= .ofNat ln:=by
 have h:(x.ints,Int.ofNat ln)∈gu g.order 0:=fQ.2 ⟨ln,r,x,d,hx,Z,by rw[nA_]⟩;obtain⟨t,k,row,e,h1,m,u,h4,h5⟩:=gW.1 (b.perm.mem_iff.2 h);rw[nA_] at h4;exact⟨t,k,row,e,kA h4,h1,m,u,h5.symm⟩
theorem jb (b:dy g) {ln:Nat} {r:List cm} (d:g.order[ln]? =some r) {x:cm} (hx:x∈r):tQ g.threads.length x:=by
 obtain⟨t,k,row,e,rfl,h1,_⟩:=sK b d hx;exact⟨t+1,Z,(gA.1 h1).1⟩
theorem Bd (b:dy g) (h:Pm g.threads.length p q):fO q p (fO p q g)=g:=by
 have e1:(List.range (fO p q g).threads.length).map (fun j=>((fO p q g).threads[p j]?).getD [])=g.threads:=by
  rw[fP];refine List.ext_getElem? fun j=>?_
  rw[gM_]
  by_cases hj:j<g.threads.length
  ·rw[List.getElem?_range hj];show some (((fO p q g).threads[p j]?).getD [])=_;rw[uk h hj,gC hj];rfl
  rw[gN_ (by simp;omega),gN_ oM];rfl
 have e2:(List.range (fO p q g).threads.length).map (fun j=>(((fO p q g).from_[p j]?).getD []).map (iO q))=g.from_:=by
  rw[fP];refine List.ext_getElem? fun j=>?_
  rw[gM_]
  by_cases hj:j<g.threads.length
  ·rw[List.getElem?_range hj];show some ((((fO p q g).from_[p j]?).getD []).map<|iO q)=_;obtain⟨f,hf⟩:=cF (show j<g.from_.length by rw[b.from_];exact hj);rw[Bf h b.from_ hj,hf];show some ((f.map<|iO p).map<|iO q)=_;rw[List.map_map];refine congrArg some ?_
   conv=>rhs;rw[<-List.map_id f]
   exact List.map_congr_left fun x hx=>rp h (ug b hf hx)
  rw[gN_ (by simp;omega),gN_ (by rw[b.from_];omega)];rfl
 have m:(g.order.map (·.map<|iO p)).map (·.map<|iO q)=g.order:=by
  rw[List.map_map]
  conv=>rhs;rw[<-List.map_id g.order]
  refine List.map_congr_left fun r u=>?_
  obtain⟨ln,d⟩:=gO_ u;show(r.map<|iO p).map (iO q)=r;rw[List.map_map]
  conv=>rhs;rw[<-List.map_id r]
  exact List.map_congr_left fun x hx=>rp h (jb b d hx)
 show(⟨g.init,_,_,(g.order.map (·.map<|iO p)).map (·.map<|iO q)⟩:XG)=g
 rw[e1,e2,m]
theorem Ge {ln:Nat}:∀{r:List cm},ec ln (r.map<|iO p)=(ec ln r).map fun x=>((iO p ⟨x.1.headD 0,(x.1.drop 1).headD 0⟩).ints,x.2):=by
 intro r;unfold ec;rw[List.map_map,List.map_map];rfl
theorem EK:∀{o:List (List cm)} {ln:Nat},gu (o.map (·.map<|iO p)) ln=(gu o ln).map fun x=>((iO p ⟨x.1.headD 0,(x.1.drop 1).headD 0⟩).ints,x.2)
 | [],_=>rfl
 | r::o,ln=>by
  show ec ln (r.map<|iO p)++gu (o.map (·.map<|iO p)) (ln+1)=(ec ln r++gu o (ln+1)).map _
  rw[List.map_append,Ge,EK]
theorem Ga (d:dy g) (h:Pm g.threads.length p q):dy (fO p q g):=by
 refine⟨by rw[fP];exact d.threads,d.init,fun j l hj=>?_,by rw[F8,fP],?_,fun j l f hj hf=>?_,?_⟩
 ·obtain⟨t,_,_,C⟩:=Dj h hj;exact d.short t l C
 ·show(g.order.map _).length=_;rw[lM_];exact d.order
 ·obtain⟨t,htn,rfl,C⟩:=Dj h hj;rw[Bf h d.from_ htn] at hf;obtain⟨T,K,rfl⟩:=oM_.1 hf;obtain⟨h1,A⟩:=d.rows t l T C K;refine⟨by rw[lM_];exact h1,fun k e x he hx=>?_⟩;rw[gM_] at hx;obtain⟨U,L,rfl⟩:=oM_.1 hx;obtain⟨m,h4⟩:=sH (A k e U he L);refine Iu m<|zG hj he ?_;rcases mM C he h4 with ⟨h5,rfl⟩ | ⟨h5,w,F,W,X⟩
  ·exact .inl ⟨h5,Z⟩
  refine .inr ⟨h5,w,by rw[Mv h<|ze F];exact F,fun e1=>W ?_,X⟩;exact EH h (ze F) ⟨t+1,Z,htn⟩ e1
 have M:(gu (fO p q g).order 0).Nodup:=by
  show(gu (g.order.map (·.map<|iO p)) 0).Nodup
  rw[EK];refine List.pairwise_map.2 ((d.perm.nodup_iff.1 j0).imp_of_mem fun {a b} ha hb hne e=>hne ?_);obtain⟨la,ra,ia,h1,A,m,h4⟩:=fQ.1 (show(a.1,a.2)∈gu g.order 0 from ha);obtain⟨lb,rb,ib,u,G,E,I⟩:=fQ.1 (show(b.1,b.2)∈gu g.order 0 from hb);obtain⟨a1,a2⟩:=a;obtain⟨b1,b2⟩:=b;dsimp only at m h4 E I;subst m;subst E;have e1:(iO p ia).ints=(iO p ib).ints:=congrArg Prod.fst e;have e2:a2=b2:=congrArg Prod.snd e;rw[EH h (jb d h1 A) (jb d u G)<|kA e1,e2]
 refine(List.perm_ext_iff_of_nodup j0 M).2 fun⟨a,v⟩=>?_
 have Q:∀{ln:Nat} {r:List cm},g.order[ln]? =some r->(fO p q g).order[ln]? =some (r.map<|iO p):=fun {ln r} hr=>by
  show(g.order.map _)[ln]? =_;rw[gM_,hr];rfl
 constructor
 ·intro hm;obtain⟨s,i,l,e,h1,A,m,h4,h5⟩:=gW.1 hm;obtain⟨t,htn,rfl,C⟩:=Dj h h1;have F:(([.ofNat (0+t+1),.ofNat i]:List Int),v)∈gu g.order 0:=d.perm.mem_iff.1 (gW.2 ⟨t,i,l,e,C,A,m,Z,h5⟩);obtain⟨ln,r,id,u,G,E,I⟩:=fQ.1 F;obtain rfl:(⟨.ofNat (t+1),.ofNat i⟩:cm)=id:=kA (by rw[<-E,nA_];rfl);refine fQ.2 ⟨ln,_,_,Q u,List.mem_map_of_mem G,?_,I⟩;rw[h4,nA_];rfl
 intro hm;obtain⟨ln,r,id,u,G,E,I⟩:=fQ.1 hm;have u:(g.order.map (·.map<|iO p))[ln]? =some r:=u
 rw[gM_] at u;obtain⟨r0,R,rfl⟩:=oM_.1 u;obtain⟨x,hx,rfl⟩:=List.mem_map.1 G;obtain⟨t,k,row,e,rfl,h1,A,m,h4⟩:=sK d R hx;have htn:=(gA.1 h1).1;refine gW.2 ⟨p t,k,row,e,by rw[uk h htn];exact h1,A,m,by rw[E,nA_];rfl,by rw[I,h4,nA_]⟩
end
section
variable {F10 F36:Int->List UInt8}
theorem qq {α β:Type} {f:α->List β} {k:Nat} (hk:∀x,(f x).length=k+1) (hf:∀x y,f x=f y->x=y):∀{l m:List α},l.flatMap f=m.flatMap f->l=m
 | [],[],_=>rfl
 | [],y::m,h=>by
  have:=congrArg List.length h;rw[List.flatMap_cons,lA_,hk,List.flatMap_nil,List.length_nil] at this;omega
 | x::l,[],h=>by
  have:=congrArg List.length h;rw[List.flatMap_cons,lA_,hk,List.flatMap_nil,List.length_nil] at this;omega
 | x::l,y::m,h=>by
  rw[List.flatMap_cons,List.flatMap_cons] at h;obtain⟨h1,b⟩:=List.append_inj h (by rw[hk,hk]);rw[hf x y h1,qq hk hf b]
def GZ (F10 F36:Int->List UInt8) (x:cq×cm):List (List UInt8):=[F10 x.1.kind,F10 x.1.loc,F10 x.1.order,F10 x.2.bX,F10 x.2.index,F36 x.1.read,F36 x.1.write]
def Ny (F10:Int->List UInt8) (id:cm):List (List UInt8):=[F10 id.bX,F10 id.index]
def zy (F10 F36:Int->List UInt8) (g:XG):List (List<|List UInt8):=(g.threads.zip g.from_).map (fun x=>(x.1.zip x.2).flatMap (GZ F10 F36))++g.order.map fun r=>r.flatMap (Ny F10)
def Fg (F10 F36:Int->List UInt8) (g:XG):List UInt8:=gh 44 (g.init.map F36)++jl 47 ((zy F10 F36 g).map<|gh 44)
theorem J2 (m:∀x y,F10 x=F10 y->x=y) (u:∀x y,F36 x=F36 y->x=y) (x y:cq×cm) (h:GZ F10 F36 x=GZ F10 F36 y):x=y:=by
 obtain⟨⟨a,b,c,d,e⟩,⟨f,i⟩⟩:=x;obtain⟨⟨a',b',c',d',e'⟩,⟨f',i'⟩⟩:=y;unfold GZ at h;simp only[List.cons.injEq,and_true] at h;obtain⟨h1,A,C,h4,h5,E,F⟩:=h;rw[m _ _ h1,m _ _ A,m _ _ C,m _ _ h4,m _ _ h5,u _ _ E,u _ _ F]
theorem Ke (b:∀x y,F10 x=F10 y->x=y) (x y:cm) (h:Ny F10 x=Ny F10 y):x=y:=by
 obtain⟨f,i⟩:=x;obtain⟨f',i'⟩:=y;unfold Ny at h;simp only[List.cons.injEq,and_true] at h;rw[b _ _ h.1,b _ _ h.2]
theorem map_inj {α β:Type} {f:α->β} (hf:∀x y,f x=f y->x=y):∀{l m:List α},l.map f=m.map f->l=m
 | [],[],_=>rfl
 | [],_::_,h=>by cases h
 | _::_,[],h=>by cases h
 | x::l,y::m,h=>by
  rw[List.map_cons,List.map_cons] at h;obtain⟨h1,b⟩:=List.cons.inj h;rw[hf x y h1,map_inj hf b]
theorem BH (m:∀x y,F10 x=F10 y->x=y) (A:∀x y,F36 x=F36 y->x=y):∀{a c:List (List cq)} {b d:List (List cm)},b.length=a.length->d.length=c.length->(∀(i:Nat) l f,a[i]? =some l->b[i]? =some f->f.length=l.length)->(∀(i:Nat) l f,c[i]? =some l->d[i]? =some f->f.length=l.length)->
  (a.zip b).map (fun x=>(x.1.zip x.2).flatMap (GZ F10 F36))=(c.zip d).map (fun x=>(x.1.zip x.2).flatMap (GZ F10 F36))->a=c/\b=d
 | [],[],[],[],_,_,_,_,_=>⟨Z,Z⟩
 | [],_::_,[],_::_,_,_,_,_,h=>by cases h
 | _::_,[],_::_,[],_,_,_,_,h=>by cases h
 | x::a,y::c,u::b,v::d,C,E,h1,G,h=>by
  rw[List.zip_cons_cons,List.zip_cons_cons,List.map_cons,List.map_cons] at h;obtain⟨F,I⟩:=List.cons.inj h;have F:(x.zip u).flatMap (GZ F10 F36)=(y.zip v).flatMap (GZ F10 F36):=F;have e:=qq (k:=6) (fun _=>Z) (J2 m A) F;have hu:=h1 0 x u Z Z;have hv:=G 0 y v Z Z
  have e1:x=y:=by
   have:=congrArg (List.map Prod.fst) e;rwa[List.map_fst_zip oM,List.map_fst_zip oM] at this
  have e2:u=v:=by
   have:=congrArg (List.map Prod.snd) e;rwa[List.map_snd_zip oM,List.map_snd_zip oM] at this
  obtain⟨K,L⟩:=BH m A (a:=a) (c:=c) (b:=b) (d:=d) (by simpa using C) (by simpa using E) (fun i l f hl hf=>h1 (i+1) l f (by simpa using hl) (by simpa using hf)) (fun i l f hl hf=>G (i+1) l f (by simpa using hl) (by simpa using hf)) I;exact⟨by rw[e1,K],by rw[e2,L]⟩
 | [],_,_::_,_,h,_,_,_,_=>by simp at h
 | _::_,_,[],_,h,_,_,_,_=>by simp at h
 | _,[],_,_::_,_,h,_,_,_=>by simp at h
 | _,_::_,_,[],_,h,_,_,_=>by simp at h
theorem GA (C:∀x y,F10 x=F10 y->x=y) (E:∀x y,F36 x=F36 y->x=y) (m:∀x,44∉F10 x/\47∉F10 x) (u:∀x,44∉F36 x/\47∉F36 x) {g g':XG} (F:dy g) (A:dy g') (hl:g.threads.length=g'.threads.length) (h:Fg F10 F36 g=Fg F10 F36 g'):g=g':=by
 have hp:∀g:XG,∀p∈zy F10 F36 g,∀w∈p,(44:UInt8)∉w/\(47:UInt8)∉w:=fun g p hp w hw=>by
  rcases List.mem_append.1 hp with hp | hp
  ·obtain⟨x,_,rfl⟩:=List.mem_map.1 hp;obtain⟨y,_,hy⟩:=List.mem_flatMap.1 hw;unfold GZ at hy;simp only[mQ_,List.not_mem_nil,or_false] at hy;rcases hy with rfl | rfl | rfl | rfl | rfl | rfl | rfl
   ·exact m _
   ·exact m _
   ·exact m _
   ·exact m _
   ·exact m _
   ·exact u _
   exact u _
  obtain⟨r,_,rfl⟩:=List.mem_map.1 hp;obtain⟨y,_,hy⟩:=List.mem_flatMap.1 hw;unfold Ny at hy;simp only[mQ_,List.not_mem_nil,or_false] at hy;rcases hy with rfl | rfl<;>exact m _
 have hi:∀g:XG,∀w∈g.init.map F36,(44:UInt8)∉w/\(47:UInt8)∉w:=fun g w hw=>by
  obtain⟨x,_,rfl⟩:=List.mem_map.1 hw;exact u x
 obtain⟨e1,e2⟩:=Ji (c:=(44:UInt8)) (d:=47) (by decide) (hi g) (hi g') (hp g) (hp g') h
 have hz:((g.threads.zip g.from_).map fun x=>(x.1.zip x.2).flatMap (GZ F10 F36)).length=((g'.threads.zip g'.from_).map fun x=>(x.1.zip x.2).flatMap (GZ F10 F36)).length:=by
  rw[lM_,lM_,List.length_zip,List.length_zip,F.from_,A.from_,hl]
 obtain⟨M,Q⟩:=List.append_inj e2 hz;obtain⟨K,L⟩:=BH C E F.from_ A.from_ (fun i l f G I=>(F.rows i l f G I).1) (fun i l f G I=>(A.rows i l f G I).1) M;have e7:=map_inj (fun x y=>qq (k:=1) (fun _=>Z) (Ke C)) Q;have e8:=map_inj E e1;obtain⟨a,b,c,d⟩:=g;obtain⟨a',b',c',d'⟩:=g';dsimp only at K L e7 e8;rw[K,L,e7,e8]
end
section
variable {P:Program} {G:Cx} {V:B} {K:KP} {L:Own}
theorem GU {α:Type} {m e:Nat} {R:α->List Y->Prop} {u:Y} {ts:Array TypeId} {t:TypeId} (A:H V K L) (hx:bI K m R [] u) (b:∀x vs,R x vs->bJ vs=true)
  (C:ts[0]? =some t) (hu:P.underlying t=some (.slice e)) (d:ql P e m=true) (E:de P ts[1]? =true):eI P V ts .aB u= .val .aB V:=by
 obtain⟨news,F,s2,I,s4⟩:=sS A hx b;unfold ql at d;split at d
 ·rename_i j hj;simp only[bA_] at d;obtain⟨M,T,U,W⟩:=d;have hm:j.size=m:=nB M;subst hm;have hz:((P.info? e).any fun j=>(j.zero.bind nQ).any fun z=>(bZ z).any fun cs=>Nat.beq (cW cs) j.size)=true:=by rw[hj];exact W
  unfold eI;rw[C];dsimp only;rw[hu];dsimp only;rw[hj] at hz⊢;dsimp only;rw[E,T,U];simp only[Bool.and_self,cond_true];rw[F];dsimp only;rw[I,show Nat.ble ([]:List α).length 1048576=true from Z,hz]
  simp_all
 cases d
theorem xY {α:Type} {m e:Nat} {R:α->List Y->Prop} {l l2:List α} {u U:Y} {M:Own} {ts:Array TypeId} {t:TypeId} (ho:dP m e R l u M) (aq:H V K (M++L))
  (hx:bI K m R l2 U) (d:∀x vs,R x vs->bJ vs=true) (W:l.length+l2.length<=1000000)
  (A:ts[0]? =some t) (hu:P.underlying t=some (.slice e)) (C:ql P e m=true) (E:de P ts[1]? =true):
  ∃V' u' M',eI P V ts u U= .val u' V'/\dP m e R (l++l2) u' M'/\H V' K (M'++L):=by
 rcases ho with ⟨rfl,rfl,rfl⟩ | ⟨b,c,cells,e',rfl,rfl,X,h4,h5,h6⟩
 ·cases l2 with
  | nil=>exact⟨V,_,[],GU aq hx d A hu C E,.inl ⟨Z,Z,Z⟩,aq⟩
  | cons a l2=>
   obtain⟨news,F,I,T⟩:=GV (P:=P) aq hx d (by simp at W⊢;omega) (by simp) A hu C E;exact⟨_,_,[(V.next,.row news e false)],F,.inr ⟨_,_,news,e,Z,Z,I,T,.inr ⟨Z,Z⟩,by simp at W⊢;omega⟩,aq.alloc (.row news e false)⟩
 obtain⟨V',b',c',news,e2,F,I,T,k4,k5⟩:=Ci (P:=P) aq hx d oM X oM h5 A hu C E;exact⟨V',_,[(b',.row (cells++news) e2 false)],F,Iy X h4 T k4 Z k5 oM,I⟩
theorem xX {α:Type} {m e:Nat} {R:α->List Y->Prop} {l l2:List α} {u d:Y} {M:Own} {bv ev:Nat} {cv:List Y} {ts:Array TypeId} {t:TypeId} (A:dP m e R l u M) (aq:H V K ((bv,.row cv ev false)::(M++L)))
  (hx:bI (K.add bv (.row cv ev false)) m R l2 d) (b:∀x vs,R x vs->bJ vs=true) (C:l.length+l2.length<=1000000)
  (E:ts[0]? =some t) (hu:P.underlying t=some (.slice e)) (F:ql P e m=true) (I:de P ts[1]? =true):
  ∃V' u' M',eI P V ts u d= .val u' V'/\dP m e R (l++l2) u' M'/\H V' K (M'++L):=by
 obtain⟨V',u',M',h1,T,h4⟩:=xY A aq.w8 hx b C E hu F I;exact⟨V',u',M',h1,T,h4.weaken<|KP.vA _ _ _⟩
theorem Kb {α:Type} {m b e:Nat} {ro:Bool} {R:α->List Y->Prop} {x:α} {vs:List Y} (hm:vs.length=m) (hR:R x vs) (hk:K b (.row vs e ro)):bI K m R [x] (.slice b 0 1 (.known 1)):=by
 refine .inr ⟨b,0,.known 1,vs,e,ro,Z,.inr ⟨1,Z,nR_ _⟩,hk,by simp[hm],by simp,fun i y hy=>?_⟩;cases i with
 | zero=>
  grind
 | succ i=>simp at hy
theorem fL {α:Type} {m b e:Nat} {R:α->List Y->Prop} {x:α} {vs:List Y} (hm:vs.length=m) (d:R x vs):bI (K.add b (.row vs e false)) m R [x] (.slice b 0 1 (.known 1)):=Kb hm d (.inr ⟨Z,Z⟩)
end
section
variable {P:Program} {G:Cx} {n:Nat} {t:D Y} {V:B} {K:KP} {L:Own} {Q:Ex->D Y->B->Prop} {ops:Array Oper} {o:Oper} {l:List Oper} {lp:List (Nat×List Nat)} {ix:Nat} {rc:List Nat}
theorem My {α:Type} {m e:Nat} {R:α->List Y->Prop} {la l2:List α} {u F:Y} {M:Own} {ty:TypeId} {cl:Call} {so xo:Operand} {t':Y->D Y} (T:dP m e R la u M) (U:H V K (M++L)) (hx:bI K m R l2 F) (b:∀x vs,R x vs->bJ vs=true) (W:la.length+l2.length<=1000000)
  (hw:bu ops t o=some true) (X:o.op= .call cl) (A:cl.callee= .builtin .append) (d:cl.args.toList= [so,xo]) (ht:cl.argTypes[0]? =some ty) (C:aY G t so=some u) (E:aY G t xo=some F) (hp:∀v,dc t n o.dst v=some (t' v))
  (h:∀(V':B) (u':Y) (M':Own),dP m e R (la++l2) u' M'->H V' K (M'++L)->bG P G ops n l (t' u') V' Q) (hu:P.underlying ty=some (.slice e):=by kernel_rfl) (ha:ql P e m=true:=by kernel_rfl) (I:de P cl.argTypes[1]? =true:=by kernel_rfl):bG P G ops n (o::l) t V Q:=by
 obtain⟨V',u',M',k1,k2,k3⟩:=xY (P:=P) T U hx b W ht hu ha I;refine S hw ?_ (hp _)<|h V' u' M' k2 k3;rw[X];exact kO A d C E I k1
theorem iA {α:Type} {m e:Nat} {R:α->List Y->Prop} {la l2:List α} {u F:Y} {M:Own} {bv ev:Nat} {cv:List Y} {ty:TypeId} {cl:Call} {so xo:Operand} {t':Y->D Y} (T:dP m e R la u M) (U:H V K ((bv,.row cv ev false)::(M++L))) (hx:bI (K.add bv (.row cv ev false)) m R l2 F) (b:∀x vs,R x vs->bJ vs=true) (W:la.length+l2.length<=1000000)
  (hw:bu ops t o=some true) (X:o.op= .call cl) (A:cl.callee= .builtin .append) (d:cl.args.toList= [so,xo]) (ht:cl.argTypes[0]? =some ty) (C:aY G t so=some u) (E:aY G t xo=some F) (hp:∀v,dc t n o.dst v=some (t' v))
  (h:∀(V':B) (u':Y) (M':Own),dP m e R (la++l2) u' M'->H V' K (M'++L)->bG P G ops n l (t' u') V' Q) (hu:P.underlying ty=some (.slice e):=by kernel_rfl) (ha:ql P e m=true:=by kernel_rfl) (I:de P cl.argTypes[1]? =true:=by kernel_rfl):bG P G ops n (o::l) t V Q:=by
 obtain⟨V',u',M',k1,k2,k3⟩:=xX (P:=P) T U hx b W ht hu ha I;refine S hw ?_ (hp _)<|h V' u' M' k2 k3;rw[X];exact kO A d C E I k1
theorem sL {α:Type} {m e:Nat} {R:α->List Y->Prop} {la l2:List α} {u I:Y} {M:Own} {bv ev:Nat} {cv:List Y} {ty:TypeId} {cl:Call} {so xo:Operand} {t':Y->D Y} (U:dP m e R la u M) (W:H V K ((bv,.row cv ev false)::(M++L))) (hx:bI (K.add bv (.row cv ev false)) m R l2 I) (b:∀x vs,R x vs->bJ vs=true) (X:la.length+l2.length<=1000000)
  (A:ops[ix]? =some o) (hw:bu ops t o=some true) (ho:o.op= .call cl) (C:cl.callee= .builtin .append) (d:cl.args.toList= [so,xo]) (ht:cl.argTypes[0]? =some ty) (E:aY G t so=some u) (F:aY G t xo=some I) (hp:∀v,dc t n o.dst v=some (t' v))
  (h:∀(V':B) (u':Y) (M':Own),dP m e R (la++l2) u' M'->H V' K (M'++L)->cY P G ops (t' u') V' rc=true/\cu P G ops n lp (t' u') V' Q) (hu:P.underlying ty=some (.slice e):=by kernel_rfl) (ha:ql P e m=true:=by kernel_rfl) (T:de P cl.argTypes[1]? =true:=by kernel_rfl):cu P G ops n ((ix,rc)::lp) t V Q:=by
 obtain⟨V',u',M',k1,k2,k3⟩:=xX (P:=P) U W hx b X ht hu ha T;refine nF A hw ?_ (hp _)<|h V' u' M' k2 k3;rw[ho];exact kO C d E F T k1
end
section
variable {P:Program} {G:Cx} {n:Nat} {t:D Y} {V:B} {K:KP} {L:Own} {Q:Ex->D Y->B->Prop} {ops:Array Oper} {o:Oper} {l:List Oper}
def kP (P:Program) (G:Cx) (b:Pos) (args:List Y) (V:B) (R:Y->B->Prop):Prop:=
 ∃(K:Nat) (v:Y) (V':B),(∀k,K<=k->kH (dF P G k) b args V= .ret v V')/\R v V'
theorem kP.mono {b:Pos} {args:List Y} {R R':Y->B->Prop} (h:kP P G b args V R) (hq:∀v V',R v V'->R' v V'):kP P G b args V R':=
 let ⟨K,v,V',h1,d⟩:=h;⟨K,v,V',h1,hq _ _ d⟩
def gO (st:LoopState) (tm:D Y) (m:Nat) (ps:List Nat) (sa bd:Code) (bm:Pos):bU:=.loop st none tm m ps sa bd bm
theorem HH {b bm:Pos} {args:List Y} {R:Y->B->Prop} {tm:D Y} {m:Nat} {ps:List Nat} {sa bd:Code} {t:D Y} (hl:V.m.get b=some (gO .ready tm m ps sa bd bm)) (hp:sN m ps args tm=some t)
  (h:Ev P G sa m t V fun e A d=>e= .normal/\d.m.get b=some (gO .ready tm m ps sa bd bm)/\Ev P G bd m A (d.setObj b<|gO .busy tm m ps sa bd bm) fun e _ u=>e= .normal/\u.m.get b=some (gO .busy tm m ps sa bd bm)/\R (.bool true) (u.setObj b<|gO .ready tm m ps sa bd bm)):kP P G b args V R:=by
 obtain⟨C,e1,A,d,h1,rfl,E,F,e2,t2,u,I,rfl,h4,h5⟩:=h;refine⟨max C F,.bool true,_,fun k hk=>?_,h5⟩;unfold kH;rw[hl];dsimp only[gO];rw[hp];dsimp only;rw[h1 [] (some b) k oM];dsimp only;rw[E];dsimp only[gO];have:=I [] (some b) k oM;unfold gO at this h4;rw[this];dsimp only[xR];simp only[cond_false];rw[h4];rfl
theorem Lk {ev:Operand->Option Y} {c:Call} {f:Operand} {b:Pos} {args:List Y} (d:c.callee= .value f) (hf:ev f=some (.yield b)) (m:sm ev c.args.toList=some args):dq P G ev V (.call c)= .round b args V:=by
 refine gz (by simp[kindOf,d]) ?_;simp only[eO,d,hf,m,uI]
theorem Kl {b:Pos} {args:List Y} {t':Y->D Y} {R:Y->B->Prop} (hw:bu ops t o=some true) (hv:dq P G (aY G t) V o.op= .round b args V) (hp:∀v,dc t n o.dst v=some (t' v))
  (m:kP P G b args V R) (h:∀v V',R v V'->bG P G ops n l (t' v) V' Q):bG P G ops n (o::l) t V Q:=by
 obtain⟨u,v,V',h1,A⟩:=m;obtain⟨C,e,E,F,I,h4⟩:=h v V' A;refine⟨max u C,e,E,F,fun d k hk=>?_,h4⟩;show gq P G (dF P G k) true ops n o t V (rv P G (dF P G k) ops n d l)=_;have e1:=h1 k oM;have e2:=I d k oM;unfold gq;rw[hw];dsimp only;rw[hv];dsimp only[jH];rw[e1];dsimp only;rw[hp];exact e2
def JA (P:Program) (G:Cx) (c:Code) (n:Nat) (t:D Y) (V:B) (Q:List DE->Ex->D Y->B->Prop):Prop:=
 ∃(K:Nat) (D_:List DE) (e:Ex) (t':D Y) (V':B),(∀d k,K<=k->dF P G k c t n d none V= .ok e t' (D_++d) V')/\Q D_ e t' V'
theorem sk {c:Code} {Q:List DE->Ex->D Y->B->Prop} (h:Ev P G c n t V (Q [])):JA P G c n t V Q:=by
 obtain⟨K,e,t',V',h1,b⟩:=h;exact⟨K,[],e,t',V',fun d k hk=>h1 d none k hk,b⟩
def Jj (P:Program) (G:Cx) (n:Nat) (b:Code) (Q:List DE->Ex->D Y->B->Prop) (D_:List DE) (e:Ex) (t:D Y) (V:B):Prop:=
 match e with
 | .normal=>JA P G b n t V fun D2=>Q (D2++D_)
 | e=>Q D_ e t V
theorem oI {a b:Code} {Q:List DE->Ex->D Y->B->Prop} (h:JA P G a n t V (Jj P G n b Q)):JA P G (.seq a b) n t V Q:=by
 obtain⟨K,D_,e,t',V',h1,m⟩:=h
 have step:∀d k,K<=k->dF P G (k+1) (.seq a b) t n d none V=tU (.ok e t' (D_++d) V') (fun t d V=>dF P G k b t n d none V):=fun d k hk=>by
  show tU (dF P G k a t n d none V) (fun t d V=>dF P G k b t n d none V)=_;rw[h1 d k hk]
 cases e with
 | normal=>
  obtain⟨u,A,e2,C,E,F,h4⟩:=m;refine⟨max K u+1,A++D_,e2,C,E,fun d k hk=>?_,h4⟩;obtain⟨j,rfl⟩:∃j,k=j+1:=⟨k-1,by omega⟩;rw[step d j oM,lQ_];exact F (D_++d) j oM
 | _=>
  refine⟨K+1,D_,_,t',V',fun d k hk=>?_,m⟩;obtain⟨j,rfl⟩:∃j,k=j+1:=⟨k-1,by omega⟩;rw[step d j oM];rfl
theorem ga {b:Code} {Q:List DE->Ex->D Y->B->Prop} {D_:List DE} (h:JA P G b n t V fun d=>Q (d++D_)):Jj P G n b Q D_ .normal t V:=h
theorem sV {b:Code} {Q:List DE->Ex->D Y->B->Prop} {D_:List DE} (h:Q D_ .ret t V):Jj P G n b Q D_ .ret t V:=h
theorem FL {id:Nat} {b:Code} {Q:List DE->Ex->D Y->B->Prop} (h:JA P G b n t V fun D_ e t' V'=>e= .normal/\Q D_ .normal t' V'):JA P G (.block id b) n t V Q:=by
 obtain⟨K,D_,e,t',V',h1,rfl,m⟩:=h;refine⟨K+1,D_,.normal,t',V',fun d k hk=>?_,m⟩;obtain⟨j,rfl⟩:∃j,k=j+1:=⟨k-1,by omega⟩;show qo id (dF P G j b t n d none V)=_;rw[h1 d j oM];rfl
theorem FM {g:Operand} {ps:Array Tmp} {sa bd:Code} {f:Nat} {fi ca:List Y} {Q:List DE->Ex->D Y->B->Prop} (aq:H V K L) (E:aY G t g=some (.func f fi ca)) (b:pD P f=true)
  (h:∀(bm bl:Pos) (A:B),H A K ((bl,gO .ready t n ps.toList sa bd bm)::(bm,.mark)::L)->aT P G f (fi++(.yield bl::ca)) A fun _ u=>u.m.get bl=some (gO .ready t n ps.toList sa bd bm)/\Q [.mark bm] .normal t (u.setObj bl<|gO .exhausted t n ps.toList sa bd bm)):JA P G (.rangeFunc g ps sa bd) n t V Q:=by
 obtain⟨F,v,u,h1,C,I⟩:=h V.next (V.alloc .mark).next ((V.alloc .mark).alloc<|gO .ready t n ps.toList sa bd V.next) ((aq.alloc .mark).alloc _);refine⟨F+1,[.mark V.next],.normal,t,_,fun d k hk=>?_,I⟩;obtain⟨j,rfl⟩:∃j,k=j+1:=⟨k-1,by omega⟩;show sO P G (dF P G j) g ps sa bd t n d none V=_;unfold sO vK;dsimp only;rw[E];dsimp only;rw[b,dv];have e1:=h1 j oM;unfold gO at e1 C;simp only[cond_true];rw[e1];dsimp only;unfold CE;rw[C];rfl
def NR (P:Program) (fn:Func) (R:Y->B->Prop) (D_:List DE) (e:Ex) (t:D Y) (V:B):Prop:=
 (e= .normal∨e= .ret)/\match D_ with
  | []=>∃v,dB P fn t V=some v/\R v V
  | [.mark b]=>V.m.get b=some .mark/\∃v,dB P fn t (V.setObj b .dead)=some v/\R v (V.setObj b .dead)
  | _=>False
theorem HB (u:Plain G) {f:Nat} {fn:Func} {c:Code} {args:List Y} {R:Y->B->Prop} (hf:P.funcs[f]? =some fn) (hb:fn.body=some c) (E:pL fn.ntmps args=some t)
  (h:JA P G c fn.ntmps t V (NR P fn R)) (hk:Nat.beq f HY=false:=by rfl) (hl:F5 f=false:=by rfl) (F:Gs f=false:=by rfl):aT P G f args V R:=by
 obtain⟨K,D_,e,t',V',h1,he,C⟩:=h
 have key:∃V'' v,(∀k,sC P G (dF P G k) D_ .ret V'=some (.ret,V''))/\dB P fn t' V''=some v/\R v V'':=by
  match D_,C with
  | [],⟨v,d,h4⟩=>exact⟨V',v,fun _=>Z,d,h4⟩
  | [.mark b],⟨d,v,h4,h5⟩=>
   refine⟨_,v,fun k=>?_,h4,h5⟩;show(match V'.m.get b with | some .mark=>some (Md.ret,V'.setObj b .dead) | _=>none)=_;rw[d]
 obtain⟨V'',v,d,h4,h5⟩:=key;refine⟨K,v,V'',fun k A=>?_,h5⟩;unfold js;rw[u.h1 _ _ _ F];dsimp only;rw[u.h2 _ _ hl];dsimp only;rw[u.h4];dsimp only;rw[u.h5 _ hk];simp only[cond_false];unfold kS;rw[hf];dsimp only;rw[hb,E];dsimp only;have:=h1 [] k A;rw[List.append_nil] at this;rw[this];rcases he with rfl | rfl<;>
 ·dsimp only;unfold w4;rw[d k];dsimp only;rw[h4]
theorem FN {b bm:Pos} {args:List Y} {R:Y->B->Prop} {tm:D Y} {m:Nat} {ps:List Nat} {sa bd:Code} {t:D Y} (aq:H V K ((b,gO .ready tm m ps sa bd bm)::L)) (hp:sN m ps args tm=some t)
  (h:Ev P G sa m t V fun e A C=>e= .normal/\∃d,H C K ((b,gO .ready tm m ps sa bd bm)::d)/\∀E,H E K ((b,gO .busy tm m ps sa bd bm)::d)->Ev P G bd m A E fun e _ F=>e= .normal/\∃u,H F K ((b,gO .busy tm m ps sa bd bm)::u)/\∀I,H I K ((b,gO .ready tm m ps sa bd bm)::u)->R (.bool true) I):kP P G b args V R:=by
 refine HH (aq.get 0 Z) hp<|h.mono fun e A C ⟨he,d,h1,T⟩=>⟨he,h1.get 0 Z,(T _<|h1.wz _).mono fun e _ F ⟨he,u,M,h4⟩=>⟨he,M.get 0 Z,h4 _<|M.wz _⟩⟩
theorem C1 {g:Operand} {ps:Array Tmp} {sa bd:Code} {f:Nat} {fi ca:List Y} {Q:List DE->Ex->D Y->B->Prop} (aq:H V K L) (F:aY G t g=some (.func f fi ca)) (d:pD P f=true)
  (h:∀(bm bl:Pos) (b:B),H b K ((bl,gO .ready t n ps.toList sa bd bm)::(bm,.mark)::L)->aT P G f (fi++(.yield bl::ca)) b fun _ A=>∃m u,H A m ((bl,gO .ready t n ps.toList sa bd bm)::u)/\∀C,H C m u->Q [.mark bm] .normal t C):JA P G (.rangeFunc g ps sa bd) n t V Q:=
 FM aq F d fun bm bl b h1=>(h bm bl b h1).mono fun _ A ⟨m,u,E,I⟩=>⟨E.get 0 Z,I _ (E.wz _).pop⟩
theorem FG {fn:Func} {R:Y->B->Prop} {bm:Pos} (aq:H V K ((bm,.mark)::L)) (h:∀V',H V' K L->∃v,dB P fn t V'=some v/\R v V'):NR P fn R [.mark bm] .ret t V:=
 ⟨.inr Z,aq.get 0 Z,h _ (aq.wz _).pop⟩
theorem H.wL {V0:B} {M d:Own} (h0:H V0 K (M++d)) (h:H V (K.qR M) L):H V K (M++L) where
 kept b o hb:=by
  obtain⟨h1,m,u⟩:=h.kept b o (.inl hb);refine⟨h1,m,fun e he=>?_⟩;rcases List.mem_append.1 he with he | he
  ·exact(h0.kept b o hb).2.2 e (List.mem_append_left _ he)
  exact u e he
 own e he:=by
  rcases List.mem_append.1 he with he | he
  ·exact⟨(h.kept e.1 e.2 (.inr he)).1,(h.kept e.1 e.2 (.inr he)).2.1⟩
  exact h.own e he
 ne:=List.pairwise_append.2 ⟨(List.pairwise_append.1 h0.ne).1,h.ne,fun a A b hb e=>(h.kept a.1 a.2 (.inr A)).2.2 b hb e.symm⟩
theorem Dw {α:Type} (M O_ L:List α) (x a b c:α):(M++x::a::b::c::(O_++L)).Perm (a::c::(O_++(x::b::(M++L)))):=by
 classical
 rw[List.perm_iff_count];intro y;simp only[List.count_append,List.count_cons];omega
end
section
variable {P:Program} {G:Cx} {V:B} {K:KP} {L:Own}
def RB (c:Nat) (vs:List Y):Prop:=vs= [.int .u8 (.ofNat c)]
def eW (s:List Nat):List Y:=s.map fun c=>.int .u8 (.ofNat c)
theorem RB.leaf (c:Nat) (vs:List Y) (h:RB c vs):bJ vs=true:=by cases h;rfl
theorem nr (s:List Nat):bJ (eW s)=true:=by
 refine qj fun v hv=>?_
 obtain⟨c,_,rfl⟩:=List.mem_map.1 hv;rfl
theorem kh (s:List Nat):(eW s).length=s.length:=by simp[eW]
theorem OB (V:B) (s:List Nat):iF V 1 (.str s)=some (s.length,eW s):=by
 show(bif Nat.beq 1 1 then some (cW s,xe (fun c=>Y.int .u8 (Int.ofNat c)) s) else none)=_;rw[bN,jW];rfl
theorem KL {V:B} {b e c:Nat} {ro:Bool} (hb:V.m.get b=some (.row [.int .u8 (.ofNat c)] e ro)):iF V 1 (.slice b 0 1 (.known 1))=some ([c].length,eW [c]):=by
 show(match V.m.get b with | some (.row cells _ _)=>bif Nat.ble (0+1*1) (cW cells) then some (1,takeN (dp cells 0) (1*1)) else none | _=>none)=_;rw[hb];rfl
def Cw (E:Nat) (s:List Nat) (u:Y) (M:Own):Prop:=(s= []/\u= .aB/\M= [])∨(s≠[]/\s.length<=1000000/\∃b,u= .slice b 0 s.length (.upto 1)/\M= [(b,.row (eW s) E false)])
theorem Cw.leaf {E:Nat} {s:List Nat} {u:Y} {M:Own} (h:Cw E s u M):bZ u=some [u]/\gn u=true:=by
 rcases h with ⟨_,rfl,_⟩ | ⟨_,_,b,rfl,_⟩<;>exact⟨rfl,rfl⟩
theorem Ha {e:Nat} {s w:List Nat} {u U:Y} {M:Own} {ts:Array TypeId} {t:TypeId} (E:Cw e s u M) (aq:H V K (M++L)) (d:iF V 1 U=some (w.length,eW w)) (W:s.length+w.length<=1000000)
  (F:ts[0]? =some t) (hu:P.underlying t=some (.slice e)) (A:ql P e 1=true) (I:de P ts[1]? =true):
  ∃V' u' M',eI P V ts u U= .val u' V'/\Cw e (s++w) u' M'/\H V' K (M'++L):=by
 unfold ql at A;split at A
 case h_2=>cases A
 rename_i j hj;simp only[bA_] at A;obtain⟨X,R,T,a4⟩:=A;have hm:j.size=1:=nB X;have hz:((P.info? e).any fun j=>(j.zero.bind nQ).any fun z=>(bZ z).any fun cs=>Nat.beq (cW cs) j.size)=true:=by rw[hj];exact a4
 have hw:Nat.ble w.length 1048576=true:=by rw[nE_];omega
 by_cases m:w= []
 ·subst m;refine⟨V,u,M,?_,by rw[List.append_nil];exact E,aq⟩;unfold eI;rw[F];dsimp only;rw[hu];dsimp only;rw[hj] at hz⊢;dsimp only;rw[I,R,T];simp only[Bool.and_self,cond_true,hm];rw[d];dsimp only;rw[nr,hw];rw[hz];rcases E with ⟨_,rfl,_⟩ | ⟨_,_,b,rfl,_⟩<;>rfl
 have C:Nat.beq w.length 0=false:=by
  cases w with
  | nil=>exact absurd Z m
  | cons x w=>rfl
 rcases E with ⟨rfl,rfl,rfl⟩ | ⟨hs,aa,b,rfl,rfl⟩
 ·refine⟨_,.slice V.next 0 w.length (.upto 1),[(V.next,.row (eW w) e false)],?_,.inr ⟨m,by simp at W⊢;omega,V.next,Z,Z⟩,aq.alloc (.row (eW w) e false)⟩;unfold eI;rw[F];dsimp only;rw[hu];dsimp only;rw[hj] at hz⊢;dsimp only;rw[I,R,T];simp only[Bool.and_self,cond_true,hm];rw[d];dsimp only;rw[nr,hw];rw[hz];simp only[Bool.and_self,cond_true,C,cond_false];rfl
 have hg:=aq.get 0 Z;refine⟨(V.drop b).alloc (.row (eW (s++w)) e false),.slice V.next 0 (s++w).length (.upto 1),[(V.next,.row (eW (s++w)) e false)],?_,.inr ⟨by simp[hs],by rw[lA_];omega,V.next,Z,Z⟩,H.zD aq _⟩;unfold eI;rw[F];dsimp only;rw[hu];dsimp only;rw[hj] at hz⊢;dsimp only;rw[I,R,T];simp only[Bool.and_self,cond_true,hm];rw[d];dsimp only;rw[nr,hw];rw[hz];have ab:1<=w.length:=by cases w with | nil=>exact absurd rfl m | cons x w=>simp
 simp only[Bool.and_self,cond_true,C,cond_false,hg,bN,kh];rw[show Nat.beq 1 1=true from Z,show Nat.ble s.length 1048576=true from by rw[nE_];omega,show Nat.ble (0+s.length*1+w.length) s.length=false from by rw[<-Bool.not_eq_true,nE_];omega,show Nat.ble (0+s.length*1) s.length=true from by rw[nE_];omega,Nat.beq_refl];simp only[Bool.and_self,cond_true,Bool.and_false,cond_false];unfold grow;rw[dv,cV,di,List.drop_zero,Nat.mul_one,<-kh s,List.take_length,kh,lA_];rw[show eW (s++w)=eW s++eW w from by simp[eW]];rfl
end
section
variable {P:Program} {G:Cx} {n:Nat} {t:D Y} {V:B} {K:KP} {L:Own} {Q:Ex->D Y->B->Prop} {ops:Array Oper} {o:Oper} {l:List Oper}
theorem Ir {e:Nat} {s w:List Nat} {u E:Y} {M:Own} {ty:TypeId} {cl:Call} {so xo:Operand} {t':Y->D Y} (I:Cw e s u M) (R:H V K (M++L)) (d:iF V 1 E=some (w.length,eW w)) (T:s.length+w.length<=1000000)
  (hw:bu ops t o=some true) (U:o.op= .call cl) (m:cl.callee= .builtin .append) (b:cl.args.toList= [so,xo]) (W:cl.argTypes[0]? =some ty) (A:aY G t so=some u) (C:aY G t xo=some E) (hp:∀v,dc t n o.dst v=some (t' v))
  (h:∀(V':B) (u':Y) (M':Own),Cw e (s++w) u' M'->H V' K (M'++L)->bG P G ops n l (t' u') V' Q) (hu:P.underlying ty=some (.slice e):=by kernel_rfl) (X:ql P e 1=true:=by kernel_rfl) (F:de P cl.argTypes[1]? =true:=by kernel_rfl):bG P G ops n (o::l) t V Q:=by
 obtain⟨V',u',M',k1,k2,k3⟩:=Ha (P:=P) I R d T W hu X F;refine S hw ?_ (hp _)<|h V' u' M' k2 k3;rw[U];exact kO m b A C F k1
end
section
variable {P:Program} {G:Cx} {ev:Operand->Option Y} {V:B}
theorem Ns {e:TypeId} {cs:List Y} (hz:(ew P e).bind bZ=some cs) (b:pf P e=true):dq P G ev V (.alloc e)= .val (.ptr V.next 0) (V.alloc (.own cs e)):=by
 exact pA (op:=.alloc e) (mk:=.ptr) (ob:=.own cs e) Z (by simp only[eF,hz,b,cond_true])
theorem jE {t:TypeId} {x:Operand} {b:Pos} {off:Nat} {cells:List Y} {e:Nat} {v:Y} (hx:ev x=some (.ptr b off)) (hb:V.m.get b=some (.own cells e)) (d:du P t=some none) (hv:nth cells off=some v):dq P G ev V (.load t x)= .val v V:=by
 refine ot Z ?_;simp only[eE,hx,hb,d,hv]
theorem wU {t:TypeId} {m:Nat} {x y:Operand} {b:Pos} {off:Nat} {v:Y} {cs cells cells':List Y} {e:Nat} (hx:ev x=some (.ptr b off)) (hy:ev y=some v) (A:bZ v=some cs) (hb:V.m.get b=some (.own cells e)) (hj:(P.info? t).map (·.size)=some m) (hl:cs.length=m) (hle:off+m<=cells.length) (d:bJ cs=true) (C:dj cs cells off=cells'):
  dq P G ev V (.store t x y)= .skip (V.setObj b (.own cells' e)):=by
 subst C;obtain⟨j,u,rfl⟩:=oM_.1 hj;refine gz Z ?_
 have h1:(Nat.beq (cW cs) j.size && Nat.ble (off+j.size) (cW cells) && bJ cs)=true:=by
  rw[bA_,bA_,Nat.beq_eq,nE_,bN,bN];exact⟨⟨hl,hle⟩,d⟩
 simp only[eO,hx,hy,sT,A,hb,u,h1,cond_true]
theorem Fs {s d:TypeId} {x:Operand} {v:Y} (h:eE P ev V (.convert s d x)=some v) (hk:kindOf P (.convert s d x)= .read):dq P G ev V (.convert s d x)= .val v V:=ot hk h
theorem IQ {s d t:TypeId} {x:Operand} {b:Nat} {cells:List Y} {e:Nat} {j:TypeInfo} (u:P.underlying s=some (.pointer t)) (hd:P.underlying d=some .unsafePointer) (hj:P.info? t=some j) (hz:Nat.beq j.size 0=false) (hx:ev x=some (.ptr b 0)) (hb:V.m.get b=some (.own cells e)) (hl:1<=cells.length):
  eE P ev V (.convert s d x)=some (.ptr b 0):=by
 simp only[eE,u,hd,hj,hz,hx,mJ,hb,bN,cond_false];rw[show Nat.ble (Nat.succ 0) cells.length=true from by rw[nE_];exact hl];rfl
theorem IP {s d u:TypeId} {x:Operand} {b:Nat} {cells:List Y} {e:Nat} (A:P.underlying s=some .unsafePointer) (hd:P.underlying d=some (.pointer u)) (hj:(P.info? u).isSome=true) (hx:ev x=some (.ptr b 0)) (hb:V.m.get b=some (.own cells e)) (hl:liesAt P P.depth e (cells.length/P.cellsOf e) 0 u 1=true):
  eE P ev V (.convert s d x)=some (.ptr b 0):=by
 simp only[eE,A,hd,hj,cond_true,mJ,hx,hb,bN,hl]
theorem Ln {c:Call} {f:Operand} {g:Nat} {v:Y} (b:c.callee= .value f) (hf:ev f=some (.func g [] [])) (d:sm ev c.args.toList=some [v]) (m:pD P g=false) (u:G.ov g=true) (A:isNe P g=true):dq P G ev V (.call c)= .val v V:=by
 refine gz (by simp[kindOf,b]) ?_;simp only[eO,b,hf,d,uI,m,u,A,cond_true,cond_false];rfl
theorem tP {c:Call} {x:Operand} {u v:Y} (b:c.callee= .builtin .unsafeSliceData) (d:c.args.toList= [x]) (hx:ev x=some u) (hd:xF u=some v):dq P G ev V (.call c)= .val v V:=by
 refine gz (by simp[kindOf,b]) ?_;have he:sm ev [x]=some [u]:=by unfold sm bY;simp only[hx]
 simp only[eO,b,d,he,hd]
theorem yE {c:Call} {x y:Operand} {p n:Y} {s:List Nat} {V':B} (b:c.callee= .builtin .unsafeString) (d:c.args.toList= [x,y]) (hx:ev x=some p) (hy:ev y=some n) (h:wN P V c.argTypes[0]? p n=some (s,V')):dq P G ev V (.call c)= .val (.str s) V':=by
 refine gz (by simp[kindOf,b]) ?_;have he:sm ev [x,y]=some [p,n]:=by unfold sm bY;simp only[hx,hy]
 simp only[eO,b,d,he,h]
theorem qu:∀(s:List Nat),(∀c∈s,c<=255)->bY qX (eW s)=some s
 | [],_=>rfl
 | c::s,h=>by
  have h1:qX (.int .u8 (.ofNat c))=some c:=by
   show(bif Nat.ble c 255 then some c else none)=_;rw[show Nat.ble c 255=true from by rw[nE_];exact h c<|mS_ ..];rfl
  have h2:=qu s fun c b=>h c (mC_ _ b)
  show bY qX (.int .u8 (.ofNat c)::eW s)=_;unfold bY at h2⊢;dsimp only;rw[h1,h2]
theorem KU {b E tp:Nat} {s:List Nat} {ro:Bool} (hu:P.underlying tp=some (.pointer E)) (u:P.cellsOf E=1) (hb:V.m.get b=some (.row (eW s) E false)) (A:s≠[]) (hl:s.length<=1000000) (d:∀c∈s,c<=255):
  wN P V (some tp) (.ptr b 0) (.int .i64 (.ofNat s.length))=some (s,V.setObj b (.row (eW s) E true)):=by
 have h0:Nat.beq s.length 0=false:=by cases s with | nil=>exact absurd rfl A | cons x s=>rfl
 unfold wN;dsimp only;rw[h0,hu,hb];simp only[cond_false,u,Nat.beq_refl,Bool.true_and,bN,kh];rw[show Nat.ble (0+s.length) s.length=true from by rw[nE_];omega,show Nat.ble s.length 1152921504606846976=true from by rw[nE_];omega];simp only[Bool.and_self,cond_true,cV,di,List.drop_zero];rw[<-kh s,List.take_length,qu s d]
theorem yR {kk kl:IntKind} {lo hi:Operand} {k h n cap:Nat} (b:ev lo=some (.int kk (.ofNat k))) (d:ev hi=some (.int kl (.ofNat h))) (hk:k<=h) (hh:h<=cap):cU ev n cap (some lo) (some hi)=some (k,h):=by
 have hb:dS ev hi cap=some h:=by
  unfold dS;rw[d];dsimp only;rw[show Nat.ble h cap=true from by rw[nE_];exact hh];rfl
 have m:dS ev lo h=some k:=by
  unfold dS;rw[b];dsimp only;rw[show Nat.ble k h=true from by rw[nE_];exact hk];rfl
 unfold cU;dsimp only;rw[hb];dsimp only;rw[m]
theorem Cm {t:TypeId} {x lo hi:Operand} {s:List Nat} {k h:Nat} {kk kl:IntKind} (m:P.underlying t=some .string) (hx:ev x=some (.str s)) (b:ev lo=some (.int kk (.ofNat k))) (d:ev hi=some (.int kl (.ofNat h))) (hk:k<=h) (hh:h<=s.length):
  dq P G ev V (.slice t x (some lo) (some hi) none)= .val (.str ((s.drop k).take (h-k))) V:=by
 refine bK Z ?_;simp only[cS,kL,m,hx,bN,yR (n:=s.length) b d hk hh,cV,di]
end
end Go.Ev
namespace Go.Ev
def eM (b n:Nat):List Nat:=if h:n<b∨b<2 then [n] else eM b (n/b)++[n%b]
termination_by n
decreasing_by
 have h:¬(n<b∨b<2):=h;exact Nat.div_lt_self oM oM
def Lw (b:Nat) (l:List Nat):Nat:=l.foldl (fun a d=>a*b+d) 0
theorem uX {b:Nat}:∀(n:Nat),Lw b (eM b n)=n:=by
 intro n;induction n using Nat.strongRecOn with
 | _ n ih=>
  unfold eM;split
  ·show 0*b+n=n;omega
  rename_i h;have h1:=ih (n/b) (Nat.div_lt_self oM oM);unfold Lw at h1⊢;rw[List.foldl_append,h1];show n/b*b+n%b=n;exact Nat.div_add_mod' n b
theorem FE {b n m:Nat} (h:eM b n=eM b m):n=m:=by rw[<-uX (b:=b) n,h,uX]
theorem Hu {b:Nat} (hb:2<=b):∀(n:Nat),∀d∈eM b n,d<b:=by
 intro n;induction n using Nat.strongRecOn with
 | _ n ih=>
  intro d hd;unfold eM at hd;split at hd
  ·rename_i h;have:=List.mem_singleton.1 hd;omega
  rename_i h;rcases List.mem_append.1 hd with hd | hd
  ·exact ih (n/b) (Nat.div_lt_self oM oM) d hd
  have:=List.mem_singleton.1 hd;rw[this];exact Nat.mod_lt _ oM
theorem CX {b n:Nat}:eM b n≠[]:=by
 unfold eM;split
 ·exact List.cons_ne_nil _ _
 exact List.append_ne_nil_of_right_ne_nil _<|List.cons_ne_nil _ _
def nc (d:Nat):UInt8:=UInt8.ofNat (if d<10 then 48+d else 87+d)
theorem gD {d:Nat} (h:d<36):(nc d).toNat=if d<10 then 48+d else 87+d:=by
 unfold nc;rw[UInt8.toNat_ofNat'];split<;>omega
theorem Hj {d e:Nat} (hd:d<36) (he:e<36) (h:nc d=nc e):d=e:=by
 have:=congrArg UInt8.toNat h;rw[gD hd,gD he] at this;split at this<;>split at this<;>omega
theorem Ef {d:Nat} (h:d<36):nc d≠44/\nc d≠45/\nc d≠47:=by
 refine⟨fun e=>?_,fun e=>?_,fun e=>?_⟩<;>
 ·have:=congrArg UInt8.toNat e;rw[gD h] at this;split at this<;>simp at this<;>omega
theorem vI:∀{l m:List Nat},(∀d∈l,d<36)->(∀d∈m,d<36)->l.map nc=m.map nc->l=m
 | [],[],_,_,_=>rfl
 | [],_::_,_,_,h=>by cases h
 | _::_,[],_,_,h=>by cases h
 | x::l,y::m,hl,hm,h=>by
  rw[List.map_cons,List.map_cons] at h;obtain⟨h1,u⟩:=List.cons.inj h;rw[Hj (hl x<|mS_ ..) (hm y<|mS_ ..) h1,vI (fun d hd=>hl d (mC_ _ hd)) (fun d hd=>hm d (mC_ _ hd)) u]
def tS (b:Nat) (z:Int):List UInt8:=if z<0 then 45::(eM b (-z).toNat).map nc else(eM b z.toNat).map nc
section
variable {b:Nat}
theorem y9 (u:2<=b) (m:b<=36) (n:Nat):∀d∈eM b n,d<36:=fun d hd=>Nat.lt_of_lt_of_le (Hu u n d hd) m
theorem AO (A:2<=b) (u:b<=36) (x y:Int) (h:tS b x=tS b y):x=y:=by
 have C:∀(n m:Nat),(eM b n).map nc≠45::(eM b m).map nc:=fun n m e=>by
  cases hd:eM b n with
  | nil=>exact CX hd
  | cons d l=>
   rw[hd,List.map_cons] at e;exact(Ef<|y9 A u n d (by rw[hd];exact mS_ ..)).2.1 (List.cons.inj e).1
 have hi:∀(n m:Nat),(eM b n).map nc=(eM b m).map nc->n=m:=fun n m e=>FE (vI (y9 A u n) (y9 A u m) e)
 unfold tS at h;split at h<;>split at h
 ·have:=hi _ _ (List.cons.inj h).2;omega
 ·exact absurd h.symm<|C _ _
 ·exact absurd h<|C _ _
 have:=hi _ _ h;omega
theorem Et (A:2<=b) (u:b<=36) (x:Int):44∉tS b x/\47∉tS b x:=by
 have m:∀(n:Nat) (c:UInt8),c∈(eM b n).map nc->c≠44/\c≠47:=fun n c C=>by
  obtain⟨d,hd,rfl⟩:=List.mem_map.1 C;have:=Ef (y9 A u n d hd);exact⟨this.1,this.2.2⟩
 unfold tS;split
 ·refine⟨fun h=>?_,fun h=>?_⟩<;>rcases mQ_.1 h with h | h
  ·exact absurd h (by decide)
  ·exact(m _ _ h).1 Z
  ·exact absurd h (by decide)
  exact(m _ _ h).2 Z
 exact⟨fun h=>(m _ _ h).1 Z,fun h=>(m _ _ h).2 Z⟩
end
end Go.Ev
namespace Go.Ev
variable [Env]
def NP:List Nat->Nat->Option Nat
 | [],n=>some n
 | c::r,n=>if 48<=c/\c<=57 then NP r (10*n+(c-48)) else none
def Oj (s:List Nat):Option Nat:=if s.length=0∨4<s.length∨(1<s.length/\s[0]? =some 48) then none else NP s 0
def qN (b:Bool):Int:=bif b then 1 else 0
def Mb (f:BitVec 64->BitVec 64->BitVec 64) (a b:Int):Int:=wr .i64 (IntKind.u64.wrap (f (BitVec.ofInt 64<|wr .u64 a)<|BitVec.ofInt 64<|wr .u64 b).toNat)
def PH (op a:Int):Int:=bif bD op 3 then wr .i64 (wr .u64<|Int.sub 0<|wr .u64 a) else qN (bD a 0)
def P2 (op a b:Int):Int:=
 bif bD op 5 then qN (bif bW (bD a 0) then true else bW (bD b 0)) else
 bif bD op 6 then qN (bif bW (bD a 0) then bW (bD b 0) else false) else
 bif bD op 7 then qN (bD a b) else
 bif bD op 8 then qN (bW<|bD a b) else
 bif bD op 9 then qN (da a b) else
 bif bD op 10 then qN (bW<|da b a) else
 bif bD op 11 then Mb (· ||| ·) a b else
 bif bD op 12 then Mb (· ^^^ ·) a b else
 bif bD op 13 then Mb (· &&& ·) a b else
 bif bD op 14 then wr .i64 (wr .u64<|Int.add (wr .u64 a)<|wr .u64 b) else
 bif bD op 15 then wr .i64 (wr .u64<|Int.sub (wr .u64 a)<|wr .u64 b) else
 wr .i64 (wr .u64<|Int.mul (wr .u64 a)<|wr .u64 b)
def QD (op:Int) (l:List Int):Int×Int:=
 bif (bif (bif bD op 3 then true else bD op 4) then bD (.ofNat l.length) 1 else false) then(PH op ((l[0]?).getD 0),0) else
 bif (bif (bif bW (da op 5) then bW (da 16 op) else false) then bD (.ofNat l.length) 2 else false) then(P2 op ((l[0]?).getD 0) ((l[1]?).getD 0),0) else(0,2)
def QE (op:Int) (l:List Int):Int:=(QD op l).1
def Lx (dA:List Int):Nat->XE->Int
 | 0,_=>0
 | k+1,.mk op num name kids=>bif bD op 1 then num else bif bD op 2 then(dA[(Oj name).getD 0]?).getD 0 else QE op (kids.map<|Lx dA k)
def N3 (op:Int):Int:=bif (bif bD op 3 then true else bD op 4) then 1 else 2
def wv (dA:Int):Nat->XE->Bool
 | 0,_=>false
 | k+1,.mk op num name kids=>
  bif bD op 1 then(bif bW (da num 0) then(bif w6 name [] then bD (.ofNat kids.length) 0 else false) else false) else
  bif bD op 2 then(match Oj name with | some n=>(bif da (.ofNat n) dA then(bif bD num 0 then bD (.ofNat kids.length) 0 else false) else false) | none=>false) else
  bif (bif (bif bD op 3 then true else bD op 4) then false else(bif da op 5 then true else da 16 op)) then false else
  bif (bif bW (bD num 0) then true else bif bW (w6 name []) then true else bW (bD (.ofNat kids.length)<|N3 op)) then false else
  kids.all (wv dA k)
def I4 (f:XE->Int->Option Int):List XE->Int->Option Int
 | [],m=>some m
 | x::r,m=>(f x m).bind (I4 f r)
def I3:Nat->XE->Int->Int->Option Int
 | 0,_,_,_=>none
 | k+1,.mk _ _ _ kids,deep,size=>bif (bif da 2000 (wr .i64<|Int.add size 1) then true else da 32 deep) then none else I4 (fun x m=>I3 k x (wr .i64<|Int.add deep 1) m) kids (wr .i64<|Int.add size 1)
structure ox where
 EV:Bool
 loc:Bool
 order:Bool
 to:Bool
 exprs:Nat
def zO:List ox:=[⟨false,false,false,false,0⟩,⟨true,false,false,false,1⟩,⟨true,true,true,false,0⟩,⟨false,true,true,false,1⟩,⟨true,true,true,false,2⟩,⟨true,true,true,false,1⟩,⟨true,true,true,false,1⟩,⟨false,false,true,false,0⟩,⟨false,false,false,false,1⟩,⟨false,false,false,false,1⟩,⟨false,false,false,true,0⟩,⟨false,false,false,true,1⟩,⟨false,false,false,false,0⟩,⟨false,false,false,false,0⟩]
def fI (n least most:Int) (must:Bool):Bool:=bif must then(bif bW (da n least) then da n most else false) else bD n 0
def um (dA nins:Int) (k:Nat) (x:XI) (h:ox):Bool:=
 bif bW (fI x.EV 0 dA h.EV) then false else bif bW (fI x.loc 0 6 h.loc) then false else bif bW (fI x.order 1 7 h.order) then false else bif bW (fI x.to 0 nins h.to) then false else
 bif bW (bD (.ofNat x.exprs.length) (.ofNat h.exprs)) then false else x.exprs.all (wv dA k)
def sQ (dA nins:Int) (k:Nat) (x:XI):Bool:=
 bif da x.kind 1 then false else bif da 13 x.kind then false else
 match zO[x.kind.toNat]? with
 | some h=>um dA nins k x h
 | none=>false
def I5 (k:Nat) (x:XI):Bool:=x.exprs.all fun e=>(I3 k e 1 0).isSome
def zl (x:XI):Bool:=bif bD x.kind 10 then true else bif bD x.kind 12 then true else bD x.kind 13
def mE (k:Nat) (c:XC):Int:=
 bif da 16 c.dA then 3 else bif da 4000 (.ofNat c.ins.length) then 3 else
 bif bW (c.ins.all<|I5 k) then 3 else
 bif da c.dA 0 then 2 else bif bD (.ofNat c.ins.length) 0 then 2 else
 bif bW (c.ins.all<|sQ c.dA (.ofNat c.ins.length) k) then 2 else
 match c.ins[c.ins.length-1]? with
 | some x=>bif zl x then 0 else 2
 | none=>2
def xU (x:XI) (at_:Nat):List Int:=
 bif bD x.kind 10 then [x.to] else bif bD x.kind 11 then [.ofNat (at_+1),x.to] else bif bD x.kind 12 then [] else bif bD x.kind 13 then [] else [.ofNat (at_+1)]
def nP (c:XC) (i:Nat):List Nat:=match c.ins[i]? with | some x=>(xU x i).map Int.toNat | none=>[]
structure DS where
 st:List Nat
 gone:List Nat
 out:List Nat
 path:List Nat
def Eh (nx:Nat->List Nat) (s:DS) (at_:Nat):Option DS:=
 let g:=(s.gone[at_]?).getD 0
 match(nx at_)[g]? with
 | none=>some {s with st:=s.st.set at_ 2,out:=s.out++[at_],path:=s.path.dropLast}
 | some to=>
  let s':={s with gone:=s.gone.set at_ (g+1)}
  if(s.st[to]?).getD 0=2 then some s' else if(s.st[to]?).getD 0=1 then none else some {s' with st:=s.st.set to 1,path:=s.path++[to]}
def OM (nx:Nat->List Nat):Nat->DS->Option (List Nat)
 | 0,_=>none
 | f+1,s=>match s.path.getLast? with
  | none=>some s.out
  | some at_=>(Eh nx s at_).bind (OM nx f)
def JC (n:Nat):DS:=⟨(List.replicate n 0).set 0 1,List.replicate n 0,[],[0]⟩
def total (nx:Nat->List Nat) (n:Nat):Nat:=((List.range n).map fun i=>(nx i).length).sum
def zw (c:XC):Option (List Nat):=OM (nP c) (2*total (nP c) c.ins.length+2) (JC c.ins.length)
def rf (k:Nat) (c:XC):Bool:=bif bW (bD (mE k c) 0) then false else(zw c).isSome
structure OK (nx:Nat->List Nat) (n:Nat) (s:DS):Prop where
 OD:s.st.length=n
 xO:s.gone.length=n
 gone:∀(i g:Nat),s.gone[i]? =some g->g<=(nx i).length
 path:∀i∈s.path,i<n/\s.st[i]? =some 1
 out:∀i∈s.out,i<n
 nodup:s.path.Nodup
 fresh:∀(i g:Nat),s.st[i]? =some 0->s.gone[i]? =some g->g=0
 done:∀(i:Nat),s.st[i]? =some 2->i∈s.out
 sP:∀(k i:Nat),s.out[k]? =some i->∀to∈nx i,∃k',k'<k/\s.out[k']? =some to
 ways:∀(j p g:Nat),s.path[j]? =some p->s.gone[p]? =some g->∀(m to:Nat),m<g->(nx p)[m]? =some to->to∈s.out∨s.path[j+1]? =some to
 zero:0∈s.out∨0∈s.path
 size:∀(i g:Nat),s.st[i]? =some g->g<=2
def pX (nx:Nat->List Nat) (n:Nat) (s:DS):Nat:=2*(total nx n-s.gone.sum)+s.path.length
section
variable {nx:Nat->List Nat} {n:Nat} {s s':DS}
theorem Fb:∀{l:List Nat} {i g g':Nat},l[i]? =some g->(l.set i g').sum+g=l.sum+g'
 | [],_,_,_,h=>by simp at h
 | x::l,0,g,g',h=>by
  simp only[List.getElem?_cons_zero,oJ_] at h;subst h;simp only[List.set_cons_zero,List.sum_cons];omega
 | x::l,i+1,g,g',h=>by
  have:=Fb (l:=l) (i:=i) (g:=g) (g':=g') (by simpa using h);simp only[List.set_cons_succ,List.sum_cons];omega
theorem E9 {f:Nat->Nat}:∀(l:List Nat) (k:Nat),(∀i g,l[i]? =some g->g<=f (k+i))->l.sum<=((List.range' k l.length).map f).sum
 | [],_,_=>by simp
 | x::l,k,h=>by
  have h0:=h 0 x Z;have:=E9 l (k+1) (fun i g b=>by have:=h (i+1) g (by simpa using b);rwa[show k+1+i=k+(i+1) by omega]);simp only[List.length_cons,List.range'_succ,List.map_cons,List.sum_cons]
  grind
theorem Mg (b:0<n):OK nx n (JC n) where
 OD:=by simp[JC]
 xO:=by simp[JC]
 gone i g hg:=by
  have:g=0:=by
   have:=gB_ hg;exact eR_ this
  omega
 path i hi:=by
  obtain rfl:i=0:=by simpa [JC] using hi
  exact⟨b,by simp[JC,b]⟩
 out i hi:=by simp[JC] at hi
 nodup:=by simp[JC]
 fresh i g _ hg:=eR_ (gB_ hg)
 done i hi:=by
  exfalso;have hi:((List.replicate n 0).set 0 1)[i]? =some 2:=hi
  grind
 sP k i hk:=by simp[JC] at hk
 ways j p g hj hg m to hm:=by
  have:g=0:=eR_ (gB_ hg);omega
 zero:=.inr (by simp[JC])
 size i g hg:=by
  have hi:((List.replicate n 0).set 0 1)[i]? =some g:=hg
  grind
theorem Il {l:List Nat} {a:Nat} {P:List Nat} (h:l.Nodup) (hl:l=P++[a]) {j:Nat} (hj:l[j]? =some a):j=P.length:=by
 grind
theorem Hx (h:OK nx n s) (ak:∀i,i<n->∀to∈nx i,to<n) {a:Nat} (ha:s.path.getLast? =some a) (A:Eh nx s a=some s'):OK nx n s'/\pX nx n s'+1<=pX nx n s/\s'.out.length+pX nx n s'<=s.out.length+pX nx n s:=by
 obtain⟨P,Q⟩:=List.getLast?_eq_some_iff.1 ha;have R:a∈s.path:=by rw[Q];simp
 obtain⟨T,aq⟩:=h.path a R;obtain⟨g,U⟩:∃g,s.gone[a]? =some g:=⟨_,gC (by rw[h.xO];exact T)⟩
 have av:∀i∈P,i≠a:=fun i hi hh=>by
  have:=h.nodup;grind
 have am:s.path[P.length]? =some a:=by rw[Q];simp
 have aE:s.path[P.length+1]? =none:=by rw[Q];simp
 unfold Eh at A;rw[U] at A;simp only[Option.getD_some] at A;cases C:(nx a)[g]? with
 | none=>
  rw[C] at A;simp only[oJ_] at A;subst A;have hle:(nx a).length<=g:=List.getElem?_eq_none_iff.1 C;have K:s.path.dropLast=P:=by rw[Q];simp
  refine⟨⟨by simp[h.OD],h.xO,h.gone,?_,?_,?_,?_,?_,?_,?_,?_,?_⟩,?_,?_⟩
  ·intro i hi;have hi:i∈P:=by simp_all
   have:=h.path i (by rw[Q];simp[hi])
   grind
  ·intro i hi;rcases List.mem_append.1 hi with hi | hi
   ·exact h.out i hi
   simp_all
  ·show s.path.dropLast.Nodup;rw[K];have:=h.nodup;grind
  ·intro i g' h1 L
   by_cases e:i=a
   ·grind
   have h1:(s.st.set a 2)[i]? =some 0:=h1;rw[List.getElem?_set_ne (fun x=>e x.symm)] at h1;exact h.fresh i g' h1 L
  ·intro i hi;show i∈s.out++[a]
   by_cases e:i=a
   ·subst e;simp
   have hi:(s.st.set a 2)[i]? =some 2:=hi;rw[List.getElem?_set_ne (fun x=>e x.symm)] at hi;exact List.mem_append_left _<|h.done i hi
  ·intro k i hk to G;have hk:(s.out++[a])[k]? =some i:=hk;show∃k',k'<k/\(s.out++[a])[k']? =some to
   by_cases W:k<s.out.length
   ·rw[gL_ W] at hk;obtain⟨k',h1,L⟩:=h.sP k i hk to G;exact⟨k',h1,by grind⟩
   have hlt':=(gA.1 hk).1;simp only[lA_,List.length_singleton] at hlt';obtain rfl:k=s.out.length:=by omega
   have an:i=a:=by simpa using hk.symm
   subst an;obtain⟨m,hm⟩:=gO_ G;have hm':=(gA.1 hm).1;rcases h.ways _ _ _ am U m to oM hm with h1 | h1
   ·grind [gO_]
   simp_all
  ·intro j p g' hj d m to hm u;have hj:s.path.dropLast[j]? =some p:=hj;rw[K] at hj;have hjl:=(gA.1 hj).1;show to∈s.out++[a]∨s.path.dropLast[j+1]? =some to;rcases h.ways j p g' (by grind) d m to hm u with h1 | h1
   ·simp_all
   grind
  ·show 0∈s.out++[a]∨0∈s.path.dropLast;rw[K];rcases h.zero with h1 | h1
   ·simp_all
   grind
  ·intro i g' hi;have hi:(s.st.set a 2)[i]? =some g':=hi;rw[List.getElem?_set] at hi;split at hi
   ·simp_all
   exact h.size i g' hi
  ·grind [pX]
  grind [pX]
 | some to=>
  rw[C] at A;dsimp only at A;have a0:g<(nx a).length:=(gA.1 C).1;have X:to<n:=ak a T to (gB_ C);obtain⟨v,hv⟩:∃v,s.st[to]? =some v:=⟨_,gC (by rw[h.OD];exact X)⟩;rw[hv] at A;simp only[Option.getD_some] at A
  have E:∀(i g':Nat),(s.gone.set a (g+1))[i]? =some g'->g'<=(nx i).length:=fun i g' hi=>by
   rw[List.getElem?_set] at hi;split at hi
   ·grind
   exact h.gone i g' hi
  have hsum:=Fb (l:=s.gone) (i:=a) (g:=g) (g':=g+1) U
  have W:(s.gone.set a (g+1)).sum<=total nx n:=by
   have:=E9 (f:=fun i=>(nx i).length) (s.gone.set a (g+1)) 0 (fun i g' d=>by simp_all);rw[List.length_set,h.xO] at this;unfold total;rwa[List.range_eq_range']
  have b:∀(p g':Nat),p≠a->(s.gone.set a (g+1))[p]? =some g'->s.gone[p]? =some g':=fun p g' hp d=>by
   grind
  have F:∀(g':Nat),(s.gone.set a (g+1))[a]? =some g'->g'=g+1:=fun g' d=>by
   grind
  split at A
  ·rename_i aa;subst aa;simp only[oJ_] at A;subst A;refine⟨⟨h.OD,by simp[h.xO],E,h.path,h.out,h.nodup,?_,h.done,h.sP,?_,h.zero,h.size⟩,?_,?_⟩
   ·intro i g' h1 L;refine h.fresh i g' h1<|b i g' (fun e=>?_) L
    simp_all
   ·intro j p g' hj d m to' hm u
    by_cases hp:p=a
    ·subst hp;obtain rfl:=F g' d
     by_cases M:m<g
     ·exact h.ways j p g hj U m to' M u
     obtain rfl:m=g:=by omega
     rw[C] at u;cases u;exact .inl<|h.done _ hv
    exact h.ways j p g' hj (b p g' hp d) m to' hm u
   ·unfold pX;dsimp only;omega
   unfold pX;dsimp only;omega
  split at A
  ·cases A
  rename_i aa a1;simp only[oJ_] at A;subst A;have ao:v=0:=by have:=h.size to v hv;omega
  subst ao;have ab:to∉s.path:=fun hh=>by have:=(h.path to hh).2;simp_all
  have ap:to≠a:=fun e=>ab (by rw[e];exact R)
  have I:∀i,i≠to->(s.st.set to 1)[i]? =s.st[i]?:=fun i hi=>List.getElem?_set_ne (fun e=>hi e.symm)
  refine⟨⟨by simp[h.OD],by simp[h.xO],E,?_,h.out,?_,?_,?_,h.sP,?_,?_,?_⟩,?_,?_⟩
  ·intro i hi;rcases List.mem_append.1 hi with hi | hi
   ·obtain⟨h1,L⟩:=h.path i hi
    grind
   grind
  ·show(s.path++[to]).Nodup;refine List.nodup_append.2 ⟨h.nodup,by simp,fun x hx y hy=>?_⟩
   grind
  ·intro i g' h1 L
   by_cases e:i=to
   ·grind
   have h1b:(s.st.set to 1)[i]? =some 0:=h1;rw[I i e] at h1b;refine h.fresh i g' h1b<|b i g' (fun e=>?_) L
   simp_all
  ·intro i hi
   by_cases e:i=to
   ·grind
   have hi:(s.st.set to 1)[i]? =some 2:=hi;rw[I i e] at hi;exact h.done i hi
  ·intro j p g' hj d m to' hm u;have ac:(s.path++[to])[j]? =some p:=hj;clear hj;have hj:=ac;clear ac;show to'∈s.out∨(s.path++[to])[j+1]? =some to'
   by_cases hjl:j<s.path.length
   ·rw[gL_ hjl] at hj
    by_cases hp:p=a
    ·subst hp;obtain rfl:=F g' d;have hjP:=Il h.nodup Q hj
     by_cases M:m<g
     ·rcases h.ways j p g hj U m to' M u with h1 | h1
      ·exact .inl h1
      simp_all
     grind
    rcases h.ways j p g' hj (b p g' hp d) m to' hm u with h1 | h1
    ·exact .inl h1
    grind
   have hlt':=(gA.1 hj).1;simp only[lA_,List.length_singleton] at hlt';obtain rfl:j=s.path.length:=by omega
   have au:to=p:=by simpa using hj
   subst au;have:=h.fresh to g' hv (b to g' ap d);omega
  ·rcases h.zero with h1 | h1
   ·exact .inl h1
   grind
  ·intro i g' hi;have hi:(s.st.set to 1)[i]? =some g':=hi;rw[List.getElem?_set] at hi;split at hi
   ·grind
   exact h.size i g' hi
  ·grind [pX]
  grind [pX]
structure uA (nx:Nat->List Nat) (n:Nat) (out:List Nat):Prop where
 ML:∀(k i:Nat),out[k]? =some i->∀to∈nx i,∃k',k'<k/\out[k']? =some to
 zero:0∈out
 lt:∀i∈out,i<n
theorem uQ (b:∀i,i<n->∀to∈nx i,to<n):∀{f:Nat} {s:DS} {out:List Nat},OK nx n s->OM nx f s=some out->uA nx n out
 | 0,_,_,_,h=>by cases h
 | f+1,s,out,hw,h=>by
  unfold OM at h;cases hl:s.path.getLast? with
  | none=>
   rw[hl] at h;simp only[oJ_] at h;subst h;have:s.path= []:=List.getLast?_eq_none_iff.1 hl;exact⟨hw.sP,by rcases hw.zero with h1 | h1;exact h1;rw[this] at h1;simp at h1,hw.out⟩
  | some a=>
   rw[hl] at h;dsimp only at h;cases hd:Eh nx s a with
   | none=>rw[hd] at h;cases h
   | some s'=>rw[hd] at h;exact uQ b (Hx hw b hl hd).1 h
end
structure TS where
 at_:Nat
 dA:List Int
 events:List cq
 asked:Nat
 fin:Int
 asks:Bool
def uY (k:Nat) (dA:List Int) (x:XI) (i:Nat):Int:=((x.exprs[i]?).map<|Lx dA k).getD 0
def mX (k:Nat) (x:XI) (s:TS):TS×Bool:=
 bif bD x.kind 1 then({s with dA:=s.dA.set x.EV.toNat (uY k s.dA x 0),at_:=s.at_+1},true) else
 bif bD x.kind 3 then({s with events:=s.events++[⟨2,x.loc,x.order,0,uY k s.dA x 0⟩],at_:=s.at_+1},true) else
 bif bD x.kind 7 then({s with events:=s.events++[⟨4,0,x.order,0,0⟩],at_:=s.at_+1},true) else
 bif bD x.kind 8 then(bif bD (uY k s.dA x 0) 0 then({s with fin:=2},false) else({s with at_:=s.at_+1},true)) else
 bif bD x.kind 9 then(bif bD (uY k s.dA x 0) 0 then({s with fin:=3},false) else({s with at_:=s.at_+1},true)) else
 bif bD x.kind 10 then({s with at_:=x.to.toNat},true) else
 bif bD x.kind 11 then(bif bD (uY k s.dA x 0) 0 then({s with at_:=x.to.toNat},true) else({s with at_:=s.at_+1},true)) else
 bif bD x.kind 12 then({s with fin:=4},false) else
 bif bD x.kind 13 then({s with fin:=1},false) else
 ({s with asks:=true},false)
def eU (k:Nat) (c:XC) (s:TS):TS×Bool:=match c.ins[s.at_]? with | some x=>mX k x s | none=>(s,false)
def Ml (k:Nat) (c:XC):Nat->TS->TS
 | 0,s=>s
 | f+1,s=>bif (eU k c s).2 then Ml k c f (eU k c s).1 else(eU k c s).1
def Eu (c:XC):Nat:=((zw c).getD []).length
def yO (k:Nat) (c:XC):TS:=Ml k c (Eu c) ⟨0,List.replicate c.dA.toNat 0,[],0,0,false⟩
structure yG where
 kind:Int
 loc:Int
 order:Int
 a:Int
 b:Int
def yG.ints (x:yG):List Int:=[x.kind,x.loc,x.order,x.a,x.b]
def Pn (k:Nat) (x:XI) (dA:List Int):yG:=⟨x.kind,x.loc,x.order,uY k dA x 0,uY k dA x 1⟩
def r9 (k:Nat) (c:XC) (s:TS):yG:=match c.ins[s.at_]? with | some x=>Pn k x s.dA | none=>⟨0,0,0,0,0⟩
def eS (a:yG) (v:Int):cq:=
 bif bD a.kind 2 then⟨1,a.loc,a.order,v,0⟩ else
 bif bD a.kind 4 then(bif bD v a.a then⟨3,a.loc,a.order,v,a.b⟩ else⟨1,a.loc,a.order,v,0⟩) else
 bif bD a.kind 5 then⟨3,a.loc,a.order,v,wr .i64<|wr .u64<|Int.add (wr .u64 v)<|wr .u64 a.a⟩ else
 bif bD a.kind 6 then⟨3,a.loc,a.order,v,a.a⟩ else⟨0,0,0,0,0⟩
def Oi (c:XC) (s:TS):Nat:=match c.ins[s.at_]? with | some x=>x.EV.toNat | none=>0
def Ao (k:Nat) (c:XC) (s:TS) (v:Int):TS:=
 {s with events:=s.events++[eS (r9 k c s) v],dA:=s.dA.set (Oi c s) v,asked:=s.asked+1,at_:=s.at_+1,asks:=false}
def fH (k:Nat) (c:XC) (s:TS) (v:Int):TS:=Ml k c (Eu c) (Ao k c s v)
def pH (k:Nat) (c:XC):List Int->TS->TS
 | [],s=>s
 | v::r,s=>bif s.asks then pH k c r (fH k c s v) else s
def dO (l:List cq):List Int:=(l.filter dw).map cq.read
def mN (k:Nat) (c:XC) (a:List Int):TS:=pH k c a (yO k c)
def AL (s:TS) (l:List cq):Bool:=bif da (.ofNat s.events.length) (.ofNat l.length) then false else bV (s.events.take l.length) l
def uK (k:Nat) (c:XC):Int:=bif rf k c then 0 else bif bW (bD (mE k c) 0) then mE k c else 2
structure sZ where
 event:cq
 ask:yG
 fin:Int
def Bl:cq:=⟨0,0,0,0,0⟩
def vN:yG:=⟨0,0,0,0,0⟩
def Ij:sZ:=⟨Bl,vN,0⟩
def Bk (k:Nat) (c:XC) (s:TS) (l:List cq):sZ×Int:=
 bif bW (AL s l) then(Ij,2) else
 match s.events[l.length]? with
 | some e=>(⟨e,vN,0⟩,0)
 | none=>bif s.asks then(⟨Bl,r9 k c s,0⟩,0) else(⟨Bl,vN,s.fin⟩,0)
def ep (k:Nat) (c:XC) (l:List cq):sZ×Int:=
 bif bW (bD (uK k c) 0) then(Ij,uK k c) else Bk k c (mN k c<|dO l) l
structure lA (k:Nat) (c:XC):Prop where
 Qp:0<=c.dA
 PS:c.dA<=16
 len:c.ins.length<=4000
 pos:0<c.ins.length
 right:∀x∈c.ins,sQ c.dA (.ofNat c.ins.length) k x=true
 last:∀x,c.ins[c.ins.length-1]? =some x->zl x=true
theorem Mf {k:Nat} {c:XC} (h:mE k c=0):lA k c:=by
 unfold mE at h;cases h1:da 16 c.dA with
 | true=>rw[h1] at h;cases h
 | false=>
 rw[h1] at h;cases b:da 4000 (.ofNat c.ins.length) with
 | true=>rw[b] at h;cases h
 | false=>
 rw[b] at h;cases d:bW (c.ins.all<|I5 k) with
 | true=>rw[d] at h;cases h
 | false=>
 rw[d] at h;cases h4:da c.dA 0 with
 | true=>rw[h4] at h;cases h
 | false=>
 rw[h4] at h;cases h5:bD (.ofNat c.ins.length) 0 with
 | true=>rw[h5] at h;cases h
 | false=>
 rw[h5] at h;cases h6:bW (c.ins.all<|sQ c.dA (.ofNat c.ins.length) k) with
 | true=>rw[h6] at h;cases h
 | false=>
 rw[h6] at h;simp only[cond_false] at h;rw[eP,decide_eq_false_iff_not] at h1 b h4;have b:¬(4000:Int)<(c.ins.length:Int):=b
 have hp:0<c.ins.length:=by
  grind
 refine⟨by omega,by omega,by omega,hp,fun x hx=>?_,fun x hx=>?_⟩
 ·have h6:=bF h6
  simp_all
 grind
theorem x8 {dA nins:Int} {k:Nat} {x:XI} (h:sQ dA nins k x=true):∃(n:Nat) (sh:ox),x.kind= .ofNat n/\1<=n/\n<=13/\zO[n]? =some sh/\um dA nins k x sh=true:=by
 unfold sQ at h;cases h1:da x.kind 1 with
 | true=>rw[h1] at h;cases h
 | false=>
 rw[h1] at h;cases b:da 13 x.kind with
 | true=>rw[b] at h;cases h
 | false=>
 rw[b] at h;simp only[cond_false] at h;rw[eP,decide_eq_false_iff_not] at h1 b
 grind
theorem Cc {n least most:Int} (h:fI n least most true=true):least<=n/\n<most:=by
 unfold fI at h;simp only[cond_true] at h;cases h1:da n least with
 | true=>rw[h1] at h;cases h
 | false=>
 rw[h1] at h;have h:da n most=true:=h;rw[eP,decide_eq_false_iff_not] at h1;rw[eP,decide_eq_true_iff] at h;omega
structure JJ (dA nins:Int) (k:Nat) (x:XI) (sh:ox):Prop where
 EV:fI x.EV 0 dA sh.EV=true
 loc:fI x.loc 0 6 sh.loc=true
 order:fI x.order 1 7 sh.order=true
 to:fI x.to 0 nins sh.to=true
 exprs:x.exprs.length=sh.exprs
 all:∀e∈x.exprs,wv dA k e=true
theorem DF {dA nins:Int} {k:Nat} {x:XI} {sh:ox} (h:um dA nins k x sh=true):JJ dA nins k x sh:=by
 unfold um at h;cases h1:fI x.EV 0 dA sh.EV with
 | false=>rw[h1] at h;cases h
 | true=>
 cases b:fI x.loc 0 6 sh.loc with
 | false=>rw[h1,b] at h;cases h
 | true=>
 cases d:fI x.order 1 7 sh.order with
 | false=>rw[h1,b,d] at h;cases h
 | true=>
 cases h4:fI x.to 0 nins sh.to with
 | false=>rw[h1,b,d,h4] at h;cases h
 | true=>
 rw[h1,b,d,h4] at h;have h:(bif bW (bD (.ofNat x.exprs.length) (.ofNat sh.exprs)) then false else x.exprs.all (wv dA k))=true:=h;cases h5:bD (.ofNat x.exprs.length) (.ofNat sh.exprs) with
 | false=>rw[h5] at h;cases h
 | true=>
 rw[h5] at h;have h:x.exprs.all (wv dA k)=true:=h;rw[ft,decide_eq_true_iff] at h5;exact⟨h1,b,d,h4,h5,aE_.1 h⟩
theorem Ki {k:Nat} {c:XC} (h:lA k c):∀i,i<c.ins.length->∀to∈nP c i,to<c.ins.length:=by
 intro i hi to b;unfold nP at b;rw[gC hi] at b;dsimp only at b;have hx:=h.right c.ins[i] (List.getElem_mem hi);have hl:=h.last;generalize aa:c.ins[i]=x at b hx;obtain⟨n,sh,C,E,A,u,hr⟩:=x8 hx;have hr:=DF hr;have hto':=hr.to
 have d:i+1<c.ins.length∨zl x=true:=by
  grind
 unfold xU at b;unfold zl at d;rw[C] at b d;have key:∀m:Nat,m=n->(∀y,(sh.to=true->0<=y/\y<(c.ins.length:Int))->y=x.to->True):=fun _ _ _ _ _=>trivial
 have tole:sh.to=true->0<=x.to/\x.to<(c.ins.length:Int):=fun e=>by rw[e] at hto';exact Cc hto'
 match n,E,A with
 | 1,_,_ | 2,_,_ | 3,_,_ | 4,_,_ | 5,_,_ | 6,_,_ | 7,_,_ | 8,_,_ | 9,_,_=>
  have e:to=i+1:=List.mem_singleton.1 (show to∈[i+1] from b);rcases d with e1 | e1
  ·omega
  cases e1
 | 10,_,_=>
  have e:to=x.to.toNat:=List.mem_singleton.1 (show to∈[x.to.toNat] from b);have:=tole (by cases u;rfl);omega
 | 11,_,_=>
  have e:to=i+1∨to=x.to.toNat:=by grind
  have:=tole (by cases u;rfl);rcases e with e | e
  ·rcases d with e1 | e1
   ·omega
   cases e1
  omega
 | 12,_,_ | 13,_,_=>exact absurd (show to∈([]:List Nat) from b) (by simp)
theorem zh {k:Nat} {c:XC} (h:rf k c=true):lA k c/\∃out,zw c=some out/\uA (nP c) c.ins.length out:=by
 unfold rf at h;cases h1:bD (mE k c) 0 with
 | false=>rw[h1] at h;cases h
 | true=>
  rw[h1] at h;have h:(zw c).isSome=true:=h;have hc:=Mf (Lv h1);obtain⟨out,b⟩:=Option.isSome_iff_exists.1 h;exact⟨hc,out,b,uQ (Ki hc) (Mg hc.pos) b⟩
theorem D4 {n:Nat} (h:n<=9223372036854775807):wr .i64 (Int.ofNat n)= .ofNat n:=by
 show(bif Nat.ble n 9223372036854775807 then _ else _)=_
 grind [nE_]
def Ah:Nat->XE->Prop
 | 0,_=>False
 | k+1,.mk _ _ name kids=>name.length<=9223372036854775807/\∀y∈kids,Ah k y
def NI (s:List Nat) (vs:List Y):Prop:=vs= [.str s]
end Go.Ev
namespace Go.Ev
section
variable [Env] {H_:Type}
def Fit (P:Program):Nat->TypeId->DataW H_->Prop
  | 0,_,_=>False
  | fuel+1,t,d=>
    match P.underlying t with
    | some .bool=>∃b,d= .lit (.bool b)
    | some (.int k)=>∃n,d= .lit (.int k n)
    | some .string=>∃s,d= .lit (.string s)/\s.length<=maxLen
    | some (.slice e)=>d= .nil∨∃elems spare,d= .slice elems spare/\∀x∈elems,Fit P fuel e x
    | some (.struct fs)=>∃parts,d= .agg parts/\parts.length=fs.size/\∀(i:Nat) (f:Field) (x:DataW H_),fs[i]? =some f->parts[i]? =some x->Fit P fuel f.type x
    | _=>True
theorem Bb {α β:Type} {f:α->Option β}:∀{l:List α} {ys:List β},l.mapM f=some ys->ys.length=l.length/\∀(i:Nat) (x:α),l[i]? =some x->∃y,ys[i]? =some y/\f x=some y
  | [],ys,h=>by simp_all
  | a::l,ys,h=>by
    simp only[List.mapM_cons,Option.bind_eq_bind,Option.bind_eq_some_iff,Option.pure_def,oJ_] at h;obtain⟨y,h1,r,b,rfl⟩:=h;obtain⟨k1,k2⟩:=Bb b
    grind
variable {enc:TypeId×Value->H_} {P:Program} {w:World}
theorem kY:∀(fuel:Nat) (t:TypeId) (cs:List Value) (d:DataW H_) (p:List MemPlace),DataW.trod enc P w 0 (fun _=>true) true fuel t cs=some (d,p)->Fit P fuel t d
  | 0,_,_,_,_,h=>by simp[DataW.trod] at h
  | fuel+1,t,cs,d,p,h=>by
    have ih:=kY fuel;unfold Fit;cases hu:P.underlying t with
    | none=>trivial
    | some u=>
      unfold DataW.trod at h;rw[hu] at h;cases u with
      | bool=>
        split at h<;>first | (rename_i he;cases he;done) | skip
        all_goals first
          | (cases h;exact⟨_,Z⟩)
          | cases h
      | int k=>
        split at h<;>first | (rename_i he;cases he;done) | skip
        all_goals first
          | (rename_i A m n he
             cases he;split at h
             · cases h;exact⟨_,Z⟩
             · cases h)
          | cases h
      | string=>
        split at h<;>first | (rename_i he;cases he;done) | skip
        all_goals first
          | (split at h
             · rename_i C;cases h;exact⟨_,Z,by rw[Array.length_toList];exact C⟩
             · cases h)
          | cases h
      | struct fs=>
        dsimp only at h⊢;split at h
        · obtain⟨xs,E,hx⟩:=oM_.1 h
          have hd:d= .agg (xs.map (·.1)):=by have:=congrArg Prod.fst hx;simpa using this.symm
          obtain⟨A,m⟩:=Bb E;refine⟨_,hd,by simpa using A,fun i f x hf b=>?_⟩;obtain⟨y,hy,F⟩:=m i f (by rw[aT_];exact hf);rw[gM_,hy] at b;cases b;exact ih _ _ _ y.2 F
        · cases h
      | slice e=>
        split at h<;>first | (rename_i he;cases he;done) | skip
        · cases h;exact .inl Z
        · rename_i e' a len cap he
          cases he;dsimp only at h;rw[if_pos Z] at h;split at h
          · obtain⟨elems,I,K⟩:=Option.bind_eq_some_iff.1 h
            obtain⟨rest,_,hd⟩:=oM_.1 K;have hd:d= .slice (elems.map (·.1)) (rest.map (·.1)):=by have:=congrArg Prod.fst hd;simpa using this.symm
            refine .inr ⟨_,_,hd,fun x hx=>?_⟩;obtain⟨y,hy,rfl⟩:=List.mem_map.1 hx;obtain⟨i,hi⟩:=gO_ hy;obtain⟨A,m⟩:=kD I;obtain⟨j,_,hj⟩:=m i y hi;obtain⟨c,_,L⟩:=Option.bind_eq_some_iff.1 hj;exact ih _ _ _ y.2 L
          · cases h
        all_goals cases h
      | _=>trivial
end
section
variable [Env] {P:Program} {G:Cx}
def rY (V:B):KP:=fun b o=>b<V.next/\V.m.get b=some o
theorem H.of (V:B):H V (rY V) []:=⟨fun b o h=>⟨h.1,h.2,fun e he=>by cases he⟩,fun e he=>(by cases he),List.Pairwise.nil⟩
theorem gi.Ob {w w':World} {O O':Ren} {V V':B} (h:dY O V w O' V' w') (u:hJ V):gi w w':=
  ⟨h.os,h.out,h.tape,h.size,fun r d=>h.frame r d fun⟨b,o,l,h1,m,_⟩=>by rw[u b o h1] at m;cases m⟩
theorem tb (hm:P.follows .mixedOrders=true) (b:wX P G) {O:Ren} {V:B} {w:World} {f:Nat} {args:List Y} {xs:Array Value} {R:Y->B->Prop} (hi:Inv O V w) (d:GR O G) (m:hJ V) (hx:cA O args xs.toList) (h:aT P G f args V R):
    Calls P f xs w fun e w'=>∃v x V' O',e= .returned x/\gi w w'/\VR O' v x/\R v V':=by
  obtain⟨K,v,V',h1,u⟩:=h;exact nG (fuel:=K) hm b (h1 K<|nR_ _) hi d hx fun O' w' x _ st hv=>⟨v,x,V',O',Z,gi.Ob st m,hv,u⟩
theorem hJ.leaf:hJ V0:=fun b o h=>by
  have:(D.leaf:D bU).get b=some o:=h;rw[D.iq] at this;cases this
theorem cT.fresh {O:Ren} {V:B} {w:World} (hi:Inv O V w) {b:Nat} {o:bU} (h:V.m.get b=some o):b<V.next:=by
  rcases Nat.lt_or_ge b V.next with h' | h'
  · exact h'
  · rw[(hi.fresh b h').2] at h;cases h
end
end Go.Ev
namespace Go.Ev
variable [Env]
open Go.Proofs Go.Shelf Go.RowKit Go.Lib Go.Sort
def KH:bU->Option bU
 | .row c e _=>some (.row c e true)
 | .own c e=>some (.row c e true)
 | _=>none
def IW (V:B) (b:Nat):Nat->D bU
 | 0=>.leaf
 | n+1=>if n=b then IW V b n else match(V.m.get n).bind KH with
  | some o=>(IW V b n).put (some o) n
  | none=>IW V b n
def JG (V:B) (b:Nat):B:=⟨V.next,IW V b V.next⟩
theorem zI (V:B) (b:Nat):∀n i:Nat,(IW V b n).get i=if i<n/\i≠b then(V.m.get i).bind KH else none
 | 0,i=>by
  show(D.leaf:D bU).get i=_;rw[D.iq,if_neg oM]
 | n+1,i=>by
  have ih:=zI V b n i;unfold IW
  by_cases hb:n=b
  ·rw[if_pos hb,ih]
   by_cases h:i<n/\i≠b
   ·rw[if_pos h,if_pos ⟨by omega,h.2⟩]
   rw[if_neg h,if_neg oM]
  rw[if_neg hb]
  by_cases hi:i=n
  ·subst hi;rw[if_pos ⟨by omega,hb⟩];cases hg:(V.m.get i).bind KH with
   | some o=>dsimp only;exact D.cN _ _ _
   | none=>dsimp only;rw[ih,if_neg oM]
  have key:(match(V.m.get n).bind KH with | some o=>(IW V b n).put (some o) n | none=>IW V b n).get i=(IW V b n).get i:=by
   cases (V.m.get n).bind KH with
   | some o=>exact D.cK _ _ _ _ hi
   | none=>rfl
  rw[key,ih]
  by_cases h:i<n/\i≠b
  ·rw[if_pos h,if_pos ⟨by omega,h.2⟩]
  rw[if_neg h,if_neg oM]
theorem zH {V:B} {b i:Nat} {o:bU} (h:(JG V b).m.get i=some o):i≠b/\∃o',V.m.get i=some o'/\KH o'=some o:=by
 have d:(IW V b V.next).get i=some o:=h;rw[zI] at d;split at d
 ·rename_i u;obtain⟨o',A,h4⟩:=Option.bind_eq_some_iff.1 d;exact⟨u.2,o',A,h4⟩
 cases d
theorem MO {o o':bU} (h:KH o=some o'):o'.ro=true:=by
 cases o<;>first | (cases h;rfl) | cases h
theorem Ov {O:Ren} {l:Loc} {o o':bU} {x:Obj} (h:KH o=some o') (hx:fm O l o x):fm O l o' x:=by
 cases o with
 | row c e ro=>
  cases h;obtain⟨c',fr,h1,b,d,h4,_⟩:=hx;exact⟨c',fr,h1,b,d,h4,fun h=>by cases h⟩
 | own c e=>
  cases h;obtain⟨_,c',fr,h1,b,d,h4,_⟩:=hx;exact⟨c',fr,h1,b,d,h4,fun h=>by cases h⟩
 | _=>cases h
theorem uo (V:B) (b:Nat):hJ (JG V b):=fun i o h=>by
 obtain⟨_,o',_,d⟩:=zH h;exact MO d
theorem Inv.JG {O:Ren} {V:B} {w W:World} (hi:Inv O V w) {b:Pos} {l:Loc} {o:bU} (hb:V.m.get b=some o) (A:o.ro=false) (hl:O b=some l)
  (I:w.heap.size<=W.heap.size) (hw:∀r:Nat,r<w.heap.size->r≠l.cH->W.heap[r]? =w.heap[r]?):Inv O (JG V b) W:=by
 have E:∀r:Nat,r<Env.n0->r≠l.cH:=fun r d e=>hi.mb.no r d ⟨b,o,l,hb,A,hl,e.symm⟩
 refine⟨⟨fun b' F=>?_,fun b' l' h=>Nat.lt_of_lt_of_le (hi.cH b' l' h) I,fun b' o' l' h1 u=>?_,fun b' b'' o' o'' l' l'' h1 u _ _ _ _=>⟨uo _ _ _ _ h1,uo _ _ _ _ u⟩⟩,⟨Nat.le_trans hi.mb.size I,fun r d=>?_,fun r d ⟨b',o',l',h1,u,_⟩=>by rw[uo _ _ _ _ h1] at u;cases u⟩⟩
 ·have hf:=hi.fresh b' F;refine⟨hf.1,?_⟩;cases hq:(Go.Ev.JG V b).m.get b' with
  | none=>rfl
  | some q=>
   obtain⟨_,o',C,_⟩:=zH hq;rw[hf.2] at C;cases C
 ·obtain⟨hne,K,C,h4⟩:=zH h1;obtain⟨x,hx,d⟩:=hi.obj b' K l' C u
  have G:l'.cH≠l.cH:=fun e=>by
   have:=(hi.inj b' b K o l' l C hb u hl e hne).2;rw[A] at this;cases this
  exact⟨x,by rw[hw _ (hi.cH b' l' u) G];exact hx,Ov h4 d⟩
 rw[hw r (Nat.lt_of_lt_of_le d hi.mb.size)<|E r d];exact hi.mb.same r d
theorem gi.grown {W w':World} (h:gi W w'):∃q os',w'=Go.Sort.grow (W.drewN q) os':=by
 refine⟨w'.drawn-W.drawn,w'.heap.extract W.heap.size w'.heap.size,?_⟩
 have e1:W.heap++w'.heap.extract W.heap.size w'.heap.size=w'.heap:=by
  apply Array.ext_getElem?;intro i
  by_cases hi:i<W.heap.size
  ·rw[Array.getElem?_append_left hi,h.same i hi]
  rw[Array.getElem?_append_right oM,Array.getElem?_extract]
  by_cases h2:i<w'.heap.size
  ·rw[if_pos oM];congr 1;omega
  rw[if_neg oM];simp[h2]
 have hd:=h.out.2;have h1:=h.out.1;have h2:=h.os;have h3:=h.tape;obtain⟨heap,tape,drawn,os,output⟩:=w';dsimp only at h1 h2 h3 hd e1;subst h1 h2 h3;unfold Go.Sort.grow World.drewN;dsimp only;rw[e1,Nat.add_sub_cancel' hd]
def ej (k:Nat) (cells:List Y) {n:Nat} (d:Array (Fin (n+1))):List Y:=
 (List.range (d.size*k)).map (fun t=>cells.getD ((d[t/k]!).val*k+t%k) .any)++cells.drop (d.size*k)
def Ei (k:Nat) (cells:List Y) (i:Nat):Y:=.agg ((cells.drop (i*k)).take k)
def Ag (P:Program) (G0:Cx) (k g:Nat) (V:B) (b:Nat) (cells:List Y) (n:Nat) (cf:Fin (n+1)->Fin (n+1)->Int):Prop:=
 SWO (ltOf cf)/\∀x y:Fin (n+1),aT P G0 g [Ei k cells x.val,Ei k cells y.val] (JG V b) fun v _=>v= .int .i64 (cf x y)
def iE {n:Nat} (cf:Fin (n+1)->Fin (n+1)->Int):Array (Fin (n+1)):=
 pdq (ltOf cf) (Array.ofFn (fun i:Fin (n+1)=>i)) 0 (n+1) (Lib.bitLen (n+1)) true true
def Hi (c:nj):Bool:=match c with | .known _=>true | .upto _=>true | .least _ _=>false
open Classical in
def rL (P:Program) (G0:Cx) (F k:Nat) (gs:Nat->Bool) (f:Nat) (args:List Y) (V:B):Option (Y×B):=
 if f=F then
  match args with
  | [.aB,_]=>some (.tuple [],V)
  | [.slice b 0 (n+1) c,.func g [] []]=>
   match V.m.get b with
   | some (.row cells e false)=>
    if h:((n+1)*k<=cells.length/\n+1<4611686018427387904/\gs g=true/\Hi c=true/\bJ (cells.take ((n+1)*k))=true)/\∃cf,Ag P G0 k g V b cells n cf then
     some (.tuple [],V.setObj b (.row (ej k cells<|iE<|Classical.choose h.2) e false))
    else none
   | _=>none
  | _=>none
 else none
section
variable {P:Program} {G0:Cx}
theorem cA.sub {O:Ren} {cells:List Y} {ys:List Value} {i k:Nat} (hl:i+k<=cells.length) (hy:ys.length=k) (h:∀j,j<k->∃v y,cells[i+j]? =some v/\ys[j]? =some y/\VR O v y):cA O ((cells.drop i).take k) ys:=by
 refine cA.Dr (by simp;omega) fun j v hv=>?_
 rw[List.getElem?_take] at hv;split at hv
 ·rename_i hj;rw[List.getElem?_drop] at hv;obtain⟨v',y,h1,b,d⟩:=h j hj;rw[h1] at hv;cases hv;exact⟨y,b,d⟩
 cases hv
theorem IC {α:Type} [Inhabited α] (lt:α->α->Bool) (hO:SWO lt) (d:Array α):(pdq lt d 0 d.size (Lib.bitLen d.size) true true).size=d.size:=
 (pdq_sorts lt hO d 0 d.size (Lib.bitLen d.size) true true (Nat.zero_le _) (nR_ _)<|Or.inl Z).1.1
theorem rM {n:Nat} {cf:Fin (n+1)->Fin (n+1)->Int} (hO:SWO (ltOf cf)):(iE cf).size=n+1:=by
 have:=IC (ltOf cf) hO (Array.ofFn (fun i:Fin (n+1)=>i));rw[Array.size_ofFn] at this;exact this
theorem HT {n:Nat} (x:Fin (n+1)):(Array.ofFn (fun i:Fin (n+1)=>i))[x.val]! =x:=by
 rw[getElem!_pos _ _ (by simp[x.isLt])];simp
theorem wA (hm:P.follows .mixedOrders=true) (hC:wX P G0) {φ:Go.Shelf.Ren} (L:SlLaysF0.n6 P φ) {k:Nat} (hk:0<k) (aE:∀w,(isAgg (φ.t 24)).run P w= .ok true w) (zE:∀w,(Go.sizeOf (φ.t 24)).run P w= .ok k w) {gs:Nat->Bool}
  (eg:∀g,gs g=true->∀args w,(callFunc g args).run P w= .ok (.enter g args) w) {f:Nat} {args:List Y} {V V':B} {v:Y} (h:rL P G0 (φ.f 6) k gs f args V=some (v,V')) (O:Ren) (w:World) (xs:Array Value) (hi:Inv O V w) (hg:GR O G0) (hx:cA O args xs.toList):
  Calls P f xs w fun e w'=>∃x O',e= .returned x/\VR O' v x/\Inv O' V' w'/\dY O V w O' V' w':=by
 unfold rL at h;split at h
 case isFalse=>cases h
 rename_i hf;subst hf;split at h
 ·
  cases h;rename_i u;obtain⟨x1,r1,e1,h1,h2⟩:=hx.cons_inv;obtain⟨x2,r2,e2,h3,h4⟩:=h2.cons_inv;obtain rfl:=h4.dE;subst e2;have R:xs= #[x1,x2]:=by apply Array.toList_inj.1;rw[e1]
  subst R;simp only[VR] at h1;subst h1;refine(AnyF.slices_SortFunc_none L none 0 x2 w).mono fun e w' ⟨he,hw⟩=>?_
  subst hw;exact⟨_,O,he,by simp only[VR];exact⟨#[],Z,cA.nil⟩,hi,dY.refl _ _ _⟩
 ·rename_i b n c g;split at h
  case h_2=>cases h
  rename_i cells e hb;split at h
  case isFalse=>cases h
  rename_i hc;cases h;obtain⟨⟨hlen,hn,a0,ak,T⟩,U⟩:=hc;have hch:Ag P G0 k g V b cells n (Classical.choose U):=Classical.choose_spec U;generalize Classical.choose U=cf at hch⊢;obtain⟨hO,am⟩:=hch;obtain⟨x1,r1,e1,h1,h2⟩:=hx.cons_inv;obtain⟨x2,r2,e2,h3,h4⟩:=h2.cons_inv;obtain rfl:=h4.dE;subst e2;have R:xs= #[x1,x2]:=by apply Array.toList_inj.1;rw[e1]
  subst R
  have a1:x2= .func (.func g) #[] #[]:=by
   simp only[VR] at h3;obtain⟨fi,ca,h5,M,h7⟩:=h3;rw[h5,show fi= #[] from by apply Array.toList_inj.1;rw[M.dE],show ca= #[] from by apply Array.toList_inj.1;rw[h7.dE]]
  subst a1
  have a2:∃l cp,O b=some l/\x1= .slice (some ⟨l.cH,l.sh,none⟩) (n+1) cp:=by
   cases c with
   | known c=>simp only[VR] at h1;obtain⟨l,h5,M⟩:=h1;exact⟨l,c,h5,M⟩
   | upto sz=>
    simp only[VR] at h1;obtain⟨l,h5,M⟩:=h1;rcases M with ⟨c,M,_⟩ | ⟨M,_⟩
    ·exact⟨l,c,h5,M⟩
    omega
   | least a sz=>cases ak
  obtain⟨l,cp,hl,rfl⟩:=a2;obtain⟨c,fr,W,a3,a4,an,ao⟩:=hi.row hb hl
  have A:∀t,t<(n+1)*k->∃u y,cells[t]? =some u/\c[l.sh+t]? =some y/\VR O u y/\y.oneCell'=true:=fun t C=>by
   have X:t<cells.length:=by omega
   obtain⟨y,a5,ap⟩:=an t cells[t] (gC X);refine⟨_,y,gC X,a5,ap,jV (kf T cells[t] ?_) ap⟩;have:(cells.take ((n+1)*k))[t]? =some cells[t]:=by rw[List.getElem?_take,if_pos C];exact gC X
   exact gB_ this
  let enc:Fin (n+1)->List Value:=fun x=>(List.range k).map fun j=>c[l.sh+(x.val*k+j)]!
  have E:∀x,(enc x).length=k:=fun x=>by simp[enc]
  have aa:∀(x:Fin (n+1)) j,j<k->x.val*k+j<(n+1)*k:=fun x j hj=>by
   have:(x.val+1)*k<=(n+1)*k:=nM_ _ (by have:=x.isLt;omega);rw[Nat.add_mul,Nat.one_mul] at this;omega
  have F:∀(x:Fin (n+1)) j,j<k->∃u y,cells[x.val*k+j]? =some u/\(enc x)[j]? =some y/\VR O u y/\y.oneCell'=true:=fun x j hj=>by
   obtain⟨u,y,Q,G,k3,k4⟩:=A _ (aa x j hj);refine⟨u,y,Q,?_,k3,k4⟩;simp only[enc,gM_,List.getElem?_range hj,Option.map_some];rw[getElem!_def,G]
  have h1c:∀x,∀v∈enc x,v.oneCell'=true:=fun x v hv=>by
   obtain⟨j,hj,a9⟩:=List.getElem_of_mem hv;rw[E] at hj;obtain⟨u,y,_,G,_,k4⟩:=F x j hj;rw[gC (by rw[E];exact hj),a9] at G;cases G;exact k4
  have I:∀(d:Array (Fin (n+1))) t,t<d.size*k->(flatK enc k d)[t]! =c[l.sh+((d[t/k]!).val*k+t%k)]!:=fun d t C=>by
   rw[get_flatK _ _ _ _ C];have K:t%k<k:=Nat.mod_lt _ hk;show((List.range k).map _)[t%k]! =_;rw[getElem!_pos _ _ (by simp[K])];simp
  have hH:HoldsK enc k w l.cH l.sh (Array.ofFn (fun i:Fin (n+1)=>i)):=fun t C=>by
   rw[size_flatK,Array.size_ofFn] at C;obtain⟨u,y,Q,G,k3,k4⟩:=A t C;have hdiv:t/k<n+1:=Nat.div_lt_of_lt_mul (by rw[Nat.mul_comm];exact C);refine⟨?_,frozen?_of_heap W _<|ao Z _ oM⟩;rw[cell?_of_heap W,I _ _ (by rw[Array.size_ofFn];exact C)];rw[show(Array.ofFn (fun i:Fin (n+1)=>i))[t/k]! =⟨t/k,hdiv⟩ from HT ⟨t/k,hdiv⟩];dsimp only;rw[Nat.div_add_mod' t k,G,getElem!_def,G];rfl
  have hblk:=hi.cH b l hl
  have hW:∀(m:Nat) (os:Array Obj) (dk:Array (Fin (n+1))),Inv O (JG V b) (sortWorldK enc k w l.cH l.sh m dk os):=fun m os dk=>by
   refine hi.JG hb Z hl ?_ fun r hr hne=>?_
   ·show w.heap.size<=((w.heap.modify l.cH _)++os).size;simp
   show((w.heap.modify l.cH _)++os)[r]? =_;rw[Array.getElem?_append_left (by simpa using hr),Array.getElem?_modify,if_neg<|Ne.symm hne]
  have ab:CmpLays P g #[] enc k cf l.cH l.sh (Array.ofFn (fun i:Fin (n+1)=>i)).size w:=fun m os dk _ x y=>by
   have hv:∀z:Fin (n+1),VR O (Ei k cells z.val) (.agg (enc z).toArray):=fun z=>by
    unfold Ei;simp only[VR];refine⟨_,Z,cA.sub ?_ (E z) fun j hj=>?_⟩
    ·have:=aa z (k-1) oM;omega
    obtain⟨u,y,Q,G,k3,_⟩:=F z j hj;exact⟨u,y,Q,G,k3⟩
   refine(tb hm hC (hW m os dk) hg (uo _ _) (cA.cons (hv x)<|cA.cons (hv y) cA.nil)<|am x y).mono fun e w' ⟨v,z,_,O',he,bb,aq,bd⟩=>?_
   subst bd;simp only[VR] at aq;subst aq;exact⟨he,bb.grown⟩
  have au:(Array.ofFn (fun i:Fin (n+1)=>i)).size=n+1:=Array.size_ofFn;have hcall:=AnyQ.slices_SortFunc_eq L k aE zE enc E h1c cf hO g #[] l.cH l.sh cp (Array.ofFn (fun i:Fin (n+1)=>i)) w (eg g a0) ab hH hblk (by rw[au];exact hn);rw[au] at hcall;refine hcall.mono fun e' w' ⟨he,nd,os,be⟩=>?_
  subst be;change e'=_ at he;have hds:=rM hO;change∃x O',e'= .returned x/\VR O' (.tuple []) x/\Inv O' (V.setObj b (.row (ej k cells<|iE cf) e false)) (sortWorldK enc k w l.cH l.sh nd (iE cf) os)/\dY O V w O' (V.setObj b (.row (ej k cells<|iE cf) e false)) (sortWorldK enc k w l.cH l.sh nd (iE cf) os);generalize iE cf=d at hds⊢;refine⟨_,O,he,by simp only[VR];exact⟨#[],Z,cA.nil⟩,?_⟩
  let w1:World:=putRowK enc k (Sort.ahead w nd) l.cH l.sh d
  have bi:w1.heap[l.cH]? =some (.cells (putCells id l.sh (flatK enc k d) c) e fr):=by
   show(w.heap.modify l.cH _)[l.cH]? =_;rw[Array.getElem?_modify,if_pos Z,W];rfl
  have ac:(ej k cells d).length=cells.length:=by
   unfold ej;rw[lA_,lM_,List.length_range,lD_,hds];omega
  have av:fm O l (.row (ej k cells d) e false) (.cells (putCells id l.sh (flatK enc k d) c) e fr):=by
   refine⟨_,fr,Z,by unfold putCells;rw[Array.size_mapIdx];exact a3,by rw[ac];exact a4,fun t u hu=>?_,ao⟩;unfold putCells;rw[Array.getElem?_mapIdx,size_flatK,hds]
   by_cases C:t<(n+1)*k
   ·have hdiv:t/k<n+1:=Nat.div_lt_of_lt_mul (by rw[Nat.mul_comm];exact C);have K:t%k<k:=Nat.mod_lt _ hk;obtain⟨u',y,Q,G,k3,_⟩:=A _ (aa (d[t/k]!) (t%k) K);obtain⟨_,y0,_,bk,_,_⟩:=A t C
    have bl:u=u':=by
     unfold ej at hu;rw[hds,gL_ (by rw[lM_,List.length_range];exact C),gM_,List.getElem?_range C] at hu;simp only[Option.map_some,oJ_] at hu;rw[<-hu,List.getD_eq_getElem?_getD,Q];rfl
    subst bl;refine⟨y,?_,k3⟩;rw[bk];simp only[Option.map_some,id];rw[if_pos ⟨by omega,by omega⟩,Nat.add_sub_cancel_left,I d t (by rw[hds];exact C),getElem!_def,G]
   have bm:cells[t]? =some u:=by
    unfold ej at hu;rw[hds,gR_ (by rw[lM_,List.length_range];omega),lM_,List.length_range,List.getElem?_drop] at hu;rwa[Nat.add_sub_cancel' oM] at hu
   obtain⟨y,Q,G⟩:=an t u bm;refine⟨y,?_,G⟩;rw[Q];simp only[Option.map_some];rw[if_neg oM]
  have hch:=hi.change (w':=w1) (o':=.row (ej k cells d) e false) hb hl Z Z bi av (fun r hr=>by
   show(w.heap.modify l.cH _)[r]? =_;rw[Array.getElem?_modify,if_neg<|Ne.symm hr]) (by show(w.heap.modify l.cH _).size=_;simp) Z Z ⟨Z,Nat.le_add_right _ _⟩
  have bo:gi w1 (Go.Sort.grow w1 os):=⟨Z,⟨Z,nR_ _⟩,Z,by show w1.heap.size<=(w1.heap++os).size;rw[Array.size_append];omega,fun r hr=>by show(w1.heap++os)[r]? =_;rw[Array.getElem?_append_left hr]⟩;obtain⟨i2,s2⟩:=bo.inv hch.1;exact⟨i2,hch.2.trans s2⟩
 cases h
end
end Go.Ev
namespace Go.Ev
variable [Env]
open Go.Proofs Go.Sort
section
variable {V:B} {K K':KP} {L:Own}
open Classical in
theorem H.Du (h:H V K' L) (hle:KP.le K K'):∃M,H V K (M++L)/\KP.le K' (K.qR M):=by
 have key:∀n,∃M:Own,(∀e∈M,K' e.1 e.2/\(∀o,¬K e.1 o)/\e.1<n)/\M.Pairwise (fun a b=>a.1≠b.1)/\∀b o,b<n->K' b o->K b o∨(b,o)∈M:=by
  intro n;induction n with
  | zero=>exact⟨[],(fun e he=>by cases he),List.Pairwise.nil,fun b o hb=>absurd hb (nZ_ _)⟩
  | succ n ih=>
   obtain⟨M,h1,A,C⟩:=ih
   by_cases hk:(∃o,K' n o)/\∀o,¬K n o
   ·obtain⟨⟨o,m⟩,I⟩:=hk;refine⟨(n,o)::M,fun e he=>?_,List.pairwise_cons.2 ⟨fun e he=>fun hh=>by have:=(h1 e he).2.2;have hh:n=e.1:=hh;omega,A⟩,fun b o' hb d=>?_⟩
    ·rcases mQ_.1 he with rfl | he
     ·exact⟨m,I,Nat.lt_succ_self _⟩
     obtain⟨a,b,c⟩:=h1 e he;exact⟨a,b,Nat.lt_succ_of_lt c⟩
    by_cases u:b=n
    ·subst u;have e1:=(h.kept _ _ m).2.1;have e2:=(h.kept _ _ d).2.1;rw[e1] at e2;cases e2;exact .inr<|mS_ ..
    rcases C b o' oM d with h4 | h4
    ·exact .inl h4
    exact .inr<|mC_ _ h4
   refine⟨M,fun e he=>let ⟨a,b,c⟩:=h1 e he;⟨a,b,Nat.lt_succ_of_lt c⟩,A,fun b o' hb d=>?_⟩
   by_cases u:b=n
   ·subst u;have:∃o,K b o:=Classical.byContradiction fun hh=>hk ⟨⟨o',d⟩,fun o m=>hh ⟨o,m⟩⟩
    obtain⟨o,m⟩:=this;have e1:=(h.kept _ _<|hle _ _ m).2.1;have e2:=(h.kept _ _ d).2.1;rw[e1] at e2;cases e2;exact .inl m
   exact C b o' oM d
 obtain⟨M,h1,A,C⟩:=key V.next;refine⟨M,⟨fun b o hb=>?_,fun e he=>?_,?_⟩,fun b o hb=>?_⟩
 ·obtain⟨E,F,Q⟩:=h.kept b o (hle _ _ hb);refine⟨E,F,fun e he=>?_⟩;rcases List.mem_append.1 he with he | he
  ·exact fun hh=>(h1 e he).2.1 o (hh ▸ hb)
  exact Q e he
 ·rcases List.mem_append.1 he with he | he
  ·obtain⟨E,F,_⟩:=h.kept _ _ (h1 e he).1;exact⟨E,F⟩
  exact h.own e he
 ·refine List.pairwise_append.2 ⟨A,h.ne,fun a R b hb=>fun hh=>(h.kept _ _ (h1 a R).1).2.2 b hb hh.symm⟩
 rcases C b o (h.kept _ _ hb).1 hb with h4 | h4
 ·exact .inl h4
 exact .inr h4
theorem H.frame {V0:B} {b:KP} (h0:H V0 K L) (hle:KP.le b K):
  ∃N_,H V0 b (N_++L)/\∀(V:B) (m:KP) (d:Own),KP.le b m->H V m (N_++d)->∃M,H V K (M++d)/\KP.le m (b.qR M):=by
 obtain⟨N_,h1,u⟩:=h0.Du hle;refine⟨N_,h1,fun V m d A h4=>?_⟩;obtain⟨M,h5,C⟩:=h4.Du A;refine⟨M,?_,C⟩;have E:H V b (N_++(M++d)):=h5.perm (by rw[<-lQ_,<-lQ_];exact(List.perm_append_comm).append_right d);exact(H.keeps E).weaken u
end
def KP.ro (K:KP):KP:=fun b o=>∃o',K b o'/\KH o'=some o
theorem H.ro {V:B} {K:KP} {L:Own} {b:Nat} {o:bU} (h:H V K ((b,o)::L)):H (JG V b) K.ro [] where
 kept b' o' hb:=by
  obtain⟨m,h1,u⟩:=hb;obtain⟨d,A,C⟩:=h.kept b' m h1;refine⟨d,?_,fun e he=>by cases he⟩;show(IW V b V.next).get b'=some o';rw[zI,if_pos ⟨d,fun e=>C _ (mS_ ..) e.symm⟩,A];exact u
 own e he:=by cases he
 ne:=List.Pairwise.nil
theorem bI.ro {α:Type} {K:KP} {m:Nat} {R:α->List Y->Prop} {l:List α} {v:Y} (h:bI K m R l v):bI K.ro m R l v:=by
 rcases h with h | ⟨b,off,c,cells,e,ro,h1,d,u,h4⟩
 ·exact .inl h
 exact .inr ⟨b,off,c,cells,e,true,h1,d,⟨_,u,Z⟩,h4⟩
theorem bI.PV {α:Type} {K:KP} {m n:Nat} {R:α->List Y->Prop} {l:List (List α)} {v:Y} (h:bI K n (RL K m R) l v):bI K.ro n (RL K.ro m R) l v:=by
 rcases h with h | ⟨b,off,c,cells,e,ro,h1,d,u,h4,h5,A⟩
 ·exact .inl h
 exact .inr ⟨b,off,c,cells,e,true,h1,d,⟨_,u,Z⟩,h4,h5,fun i x hx=>let ⟨v,e,h⟩:=A i x hx;⟨v,e,h.ro⟩⟩
theorem dC.ro {K:KP} {g:XG} {a b c d:Y} (h:dC K g a b c d):dC K.ro g a b c d:=⟨h.init.ro,h.threads.PV,h.from_.PV,h.order.PV⟩
theorem xj {m:Nat} {cells:List Y} {n:Nat} {d:Array (Fin (n+1))} (hm:0<m) (hd:d.size=n+1) (hl:cells.length=(n+1)*m) {i:Nat} (hi:i<n+1):
  ((ej m cells d).drop (i*m)).take m=(cells.drop ((d[i]!).val*m)).take m:=by
 have hx:(d[i]!).val<n+1:=(d[i]!).isLt;have b:(i+1)*m<=(n+1)*m:=nM_ _ hi;have u:((d[i]!).val+1)*m<=(n+1)*m:=nM_ _ hx;rw[Nat.add_mul,Nat.one_mul] at b u;refine List.ext_getElem? fun j=>?_
 rw[List.getElem?_take,List.getElem?_take]
 by_cases hj:j<m
 ·rw[if_pos hj,if_pos hj,List.getElem?_drop,List.getElem?_drop];unfold ej;rw[hd,gL_ (by rw[lM_,List.length_range];omega),gM_,List.getElem?_range oM];have e1:(i*m+j)/m=i:=by rw[Nat.mul_comm,Nat.mul_add_div hm,Nat.div_eq_of_lt hj];rfl
  have e2:(i*m+j)%m=j:=by rw[Nat.mul_comm,Nat.mul_add_mod,Nat.mod_eq_of_lt hj]
  simp only[Option.map_some,e1,e2];rw[List.getD_eq_getElem?_getD,gC oM];rfl
 rw[if_neg hj,if_neg hj]
section
variable {P:Program} {G G0:Cx}
theorem HD {f:Nat} {args:List Y} {V V':B} {v:Y} {R:Y->B->Prop} (hk:G.w9 f args V=some (v,V')) (h:R v V'):aT P G f args V R:=by
 refine⟨0,v,V',fun k _=>?_,h⟩;unfold js;rw[hk]
theorem El {α:Type} {m E f g:Nat} {gs:Nat->Bool} {R:α->List Y->Prop} {c:α->α->Int} (hm:0<m) (hO:SWO (fun x y=>decide (c x y<0))) (hS:∀a s,G.w9 f a s=rL P G0 f m gs f a s) (ab:gs g=true)
  (F:∀x vs,R x vs->bJ vs=true) {l:List α} {u:Y} {M L:Own} {V:B} {K:KP} (h:dP m E R l u M) (hne:l≠[]∨u= .aB) (aq:H V K (M++L))
  (T:∀σ2,H σ2 K.ro []->∀x y vx vy,R x vx->R y vy->aT P G0 g [.agg vx,.agg vy] σ2 fun v _=>v= .int .i64 (c x y)):
  aT P G f [u,.func g [] []] V fun v V'=>v= .tuple []/\∃l' M',l'.Perm l/\l'.Pairwise (fun x y=>decide (c y x<0)=false)/\dP m E R l' u M'/\H V' K (M'++L):=by
 rcases h with ⟨rfl,rfl,rfl⟩ | ⟨b,cp,cells,e,rfl,rfl,U,h4,h5,h6⟩
 ·refine HD (v:=.tuple []) (V':=V) (by rw[hS];unfold rL;rw[if_pos Z]) ⟨Z,[],[],List.Perm.refl _,List.Pairwise.nil,.inl ⟨Z,Z,Z⟩,aq⟩
 obtain⟨n,hn⟩:∃n,l.length=n+1:=by
  rcases hne with hne | hne
  ·cases l with
   | nil=>exact absurd Z hne
   | cons x l=>exact⟨l.length,Z⟩
  cases hne
 rw[hn] at U h5 h6⊢;have hb:V.m.get b=some (.row cells e false):=aq.get 0 Z
 let xs:Fin (n+1)->α:=fun i=>l[i.val]'(by rw[hn];exact i.isLt)
 have C:∀i:Fin (n+1),l[i.val]? =some (xs i):=fun i=>gC _
 let cf:Fin (n+1)->Fin (n+1)->Int:=fun i j=>c (xs i) (xs j)
 have I:∀i j,ltOf cf i j=decide (c (xs i) (xs j)<0):=fun i j=>Z
 have Q:SWO (ltOf cf):=⟨fun x=>by rw[I];exact hO.irrefl _,fun x y z h1 h2=>by rw[I] at*;exact hO.trans _ _ _ h1 h2,fun x y z h1 h2=>by rw[I] at*;exact hO.ntrans _ _ _ h1 h2⟩;have W:H (JG V b) K.ro []:=aq.ro;have hC:Ag P G0 m g V b cells n cf:=⟨Q,fun x y=>T _ W _ _ _ _ (h4 _ _<|C x) (h4 _ _<|C y)⟩;have X:Hi cp=true:=by rcases h5 with rfl | ⟨rfl,_⟩<;>rfl
 have ac:bJ (cells.take ((n+1)*m))=true:=by
  rw[<-U,List.take_length]
  have key:∀v∈cells,gn v=true:=fun v hv=>by
   obtain⟨t,ht,hv⟩:=List.getElem_of_mem hv;have hq:t/m<n+1:=Nat.div_lt_of_lt_mul (by rw[Nat.mul_comm,<-U];exact ht);have h7:=F _ _ (h4 _ _<|C ⟨t/m,hq⟩);refine kf h7 v<|gB_ (i:=t%m) ?_;rw[List.getElem?_take,if_pos<|Nat.mod_lt _ hm,List.getElem?_drop,Nat.div_add_mod',gC ht,hv]
  exact qj key
 have A:((n+1)*m<=cells.length/\n+1<4611686018427387904/\gs g=true/\Hi cp=true/\bJ (cells.take ((n+1)*m))=true)/\∃cf,Ag P G0 m g V b cells n cf:=⟨⟨by omega,by omega,ab,X,ac⟩,cf,hC⟩
 have hk:G.w9 f [.slice b 0 (n+1) cp,.func g [] []] V=some (.tuple [],V.setObj b (.row (ej m cells<|iE<|Classical.choose A.2) e false)):=by
  rw[hS];unfold rL;rw[if_pos Z];simp only[hb];rw[dif_pos A]
 have ak:Ag P G0 m g V b cells n (Classical.choose A.2):=Classical.choose_spec A.2
 have aa:Classical.choose A.2=cf:=by
  funext i j;obtain⟨k1,v1,s1,e1,r1⟩:=ak.2 i j;obtain⟨k2,v2,s2,e2,r2⟩:=hC.2 i j;have a1:=e1 (max k1 k2) oM;have a2:=e2 (max k1 k2) oM;rw[a1] at a2;cases a2;have r3:=r1.symm.trans r2;injection r3
 rw[aa] at hk;have hsz:=rM Q;have hsorts:=pdq_sorts (ltOf cf) Q (Array.ofFn (fun i:Fin (n+1)=>i)) 0 (n+1) (Lib.bitLen (n+1)) true true (Nat.zero_le _) (by rw[Array.size_ofFn];exact nR_ _) (Or.inl Z);change PermIn 0 (n+1) _ (iE cf)/\SortedIn (ltOf cf) 0 (n+1) (iE cf) at hsorts;generalize iE cf=d at hk hsz hsorts;obtain⟨⟨_,_,hp⟩,hs⟩:=hsorts
 have am:d.toList.Perm (List.ofFn fun i:Fin (n+1)=>i):=by
  have e1:d.extract 0 (n+1)=d:=by have:=Array.extract_size (xs:=d);rwa[hsz] at this
  have e2:(Array.ofFn (fun i:Fin (n+1)=>i)).extract 0 (n+1)=Array.ofFn (fun i:Fin (n+1)=>i):=by
   have:=Array.extract_size (xs:=Array.ofFn (fun i:Fin (n+1)=>i));rwa[Array.size_ofFn] at this
  rw[e1,e2] at hp;simpa using hp
 refine HD hk ⟨Z,d.toList.map xs,[(b,.row (ej m cells d) e false)],?_,?_,?_,aq.wz _⟩
 ·refine(am.map xs).trans ?_
  have:(List.ofFn fun i:Fin (n+1)=>i).map xs=l:=by
   refine List.ext_getElem? fun i=>?_
   rw[gM_,List.getElem?_ofFn]
   by_cases hi:i<n+1
   ·rw[dif_pos hi];exact(C ⟨i,hi⟩).symm
   rw[dif_neg hi,gN_ oM];rfl
  rw[this]
 ·refine List.pairwise_map.2<|List.pairwise_iff_getElem.2 fun i j hi hj an=>?_;have ao:i<d.size:=by simpa using hi
  have ap:j<d.size:=by simpa using hj
  have:=hs i j (Nat.zero_le _) an oM;rw[getElem!_pos _ j ap,getElem!_pos _ i ao] at this;exact this
 have hlen:(d.toList.map xs).length=n+1:=by rw[lM_,Array.length_toList,hsz]
 refine .inr ⟨b,cp,ej m cells d,e,by rw[hlen],Z,?_,fun i x hx=>?_,by rw[hlen];exact h5,by rw[hlen];omega⟩
 ·unfold ej;rw[lA_,lM_,List.length_range,lD_,hsz,hlen,U];omega
 have hi:i<n+1:=by rw[<-hlen];exact(gA.1 hx).1
 rw[xj hm hsz U hi];refine h4 _ _ ?_;rw[C (d[i]!)];rw[gM_,aT_,aG_ oM] at hx;rw[getElem!_pos _ i oM];exact hx
end
end Go.Ev
namespace Go.Ev
variable {α:Type}
structure qO (c:α->α->Int) (P:α->Prop):Prop where
 zero:∀x y,P x->P y->(c x y=0↔x=y)
 neg:∀x y,P x->P y->(c x y<0↔0<c y x)
 trans:∀x y z,P x->P y->P z->c x y<0->c y z<0->c x z<0
def r5 (c:α->α->Int) (l:List α):Prop:=l.Pairwise fun x y=>c x y<0
def jx (c:α->α->Int):List α->α->List α
 | [],x=>[x]
 | y::l,x=>if c y x<0 then y::jx c l x else if c y x=0 then y::l else x::y::l
def oh (c:α->α->Int) (l:List α):List α:=l.foldl (jx c) []
def jt (c:α->α->Int):α->List α->List α
 | _,[]=>[]
 | p,x::l=>if c x p=0 then jt c x l else x::jt c x l
def cC (c:α->α->Int):List α->List α
 | []=>[]
 | x::l=>x::jt c x l
section
variable {c:α->α->Int} {P:α->Prop}
theorem qO.Mq (h:qO c P) {x:α} (hx:P x):¬c x x<0:=by
 rw[(h.zero x x hx hx).2 Z];omega
theorem k9 (h:qO c P):∀{l m:List α},(∀x∈l,P x)->(∀x∈m,P x)->r5 c l->r5 c m->(∀x,x∈l↔x∈m)->l=m
 | [],[],_,_,_,_,_=>rfl
 | [],y::m,_,_,_,_,he=>by cases (he y).2 (mS_ ..)
 | x::l,[],_,_,_,_,he=>by cases (he x).1 (mS_ ..)
 | x::l,y::m,hl,hm,il,im,he=>by
  obtain⟨d,A⟩:=List.pairwise_cons.1 il;obtain⟨u,C⟩:=List.pairwise_cons.1 im;have px:=hl x (mS_ ..);have py:=hm y (mS_ ..)
  have b:x=y:=by
   rcases mQ_.1 ((he x).1<|mS_ ..) with e | hx
   ·exact e
   rcases mQ_.1 ((he y).2<|mS_ ..) with e | hy
   ·exact e.symm
   exact absurd (h.trans x y x px py px (d y hy)<|u x hx)<|h.Mq px
  subst b
  have:l=m:=k9 h (fun z hz=>hl z (mC_ _ hz)) (fun z hz=>hm z (mC_ _ hz)) A C fun z=>by
   constructor
   ·intro hz;rcases mQ_.1 ((he z).1<|mC_ _ hz) with e | hz'
    ·subst e;exact absurd (d z hz)<|h.Mq px
    exact hz'
   intro hz;rcases mQ_.1 ((he z).2<|mC_ _ hz) with e | hz'
   ·subst e;exact absurd (u z hz)<|h.Mq px
   exact hz'
  rw[this]
theorem ri (h:qO c P):∀{l:List α} {x z:α},(∀y∈l,P y)->P x->(z∈jx c l x↔z=x∨z∈l)
 | [],x,z,_,_=>by unfold jx;simp
 | y::l,x,z,hl,hx=>by
  have py:=hl y (mS_ ..);unfold jx;split
  ·rw[mQ_,ri h (fun w hw=>hl w (mC_ _ hw)) hx,mQ_];exact⟨fun h=>by rcases h with h | h | h<;>simp[h],fun h=>by rcases h with h | h | h<;>simp[h]⟩
  split
  ·rename_i h0;have e:=(h.zero y x py hx).1 h0;subst e;constructor
   ·exact .inr
   rintro (rfl | h)
   ·exact mS_ ..
   exact h
  rw[mQ_]
theorem xP (h:qO c P):∀{l:List α} {x:α},(∀y∈l,P y)->P x->r5 c l->r5 c (jx c l x)
 | [],x,_,_,_=>List.pairwise_singleton ..
 | y::l,x,hl,hx,hi=>by
  obtain⟨u,A⟩:=List.pairwise_cons.1 hi;have py:=hl y (mS_ ..);have b:∀w∈l,P w:=fun w hw=>hl w (mC_ _ hw)
  unfold jx;split
  ·rename_i m;refine List.pairwise_cons.2 ⟨fun z hz=>?_,xP h b hx A⟩;rcases (ri h b hx).1 hz with rfl | hz
   ·exact m
   exact u z hz
  split
  ·exact hi
  rename_i h1 h2;have d:c x y<0:=(h.neg x y hx py).2 oM;refine List.pairwise_cons.2 ⟨fun z hz=>?_,hi⟩;rcases mQ_.1 hz with rfl | hz
  ·exact d
  exact h.trans x y z hx py (b z hz) d<|u z hz
theorem LA (h:qO c P):∀{l a:List α},(∀x∈l,P x)->(∀x∈a,P x)->r5 c a->r5 c (l.foldl (jx c) a)/\(∀z,z∈l.foldl (jx c) a↔z∈a∨z∈l)
 | [],a,_,_,hi=>⟨hi,fun z=>by simp⟩
 | x::l,a,hl,b,hi=>by
  have px:=hl x (mS_ ..)
  have d:∀z∈jx c a x,P z:=fun z hz=>by
   rcases (ri h b px).1 hz with rfl | hz
   ·exact px
   exact b z hz
  obtain⟨h1,m⟩:=LA h (l:=l) (a:=jx c a x) (fun z hz=>hl z (mC_ _ hz)) d (xP h b px hi);refine⟨h1,fun z=>?_⟩;show z∈l.foldl (jx c) (jx c a x)↔_;rw[m,ri h b px,mQ_];constructor
  ·rintro ((h | h) | h)<;>simp[h]
  rintro (h | h | h)<;>simp[h]
theorem kM (h:qO c P) {l:List α} (hl:∀x∈l,P x):r5 c (oh c l)/\∀z,z∈oh c l↔z∈l:=by
 obtain⟨h1,b⟩:=LA h (l:=l) (a:=[]) hl (fun _ hx=>by cases hx) List.Pairwise.nil;exact⟨h1,fun z=>by show z∈l.foldl (jx c) []↔_;rw[b];simp⟩
def CB (c:α->α->Int) (l:List α):Prop:=l.Pairwise fun x y=>¬c y x<0
theorem AE (h:qO c P):∀{l:List α} {p:α},P p->(∀x∈l,P x)->CB c (p::l)->r5 c (p::jt c p l)/\∀z,z∈p::jt c p l↔z∈p::l
 | [],p,_,_,_=>⟨List.pairwise_singleton ..,fun z=>Iff.rfl⟩
 | x::l,p,hp,hl,C=>by
  obtain⟨E,F⟩:=List.pairwise_cons.1 C;have px:=hl x (mS_ ..);have b:∀w∈l,P w:=fun w hw=>hl w (mC_ _ hw)
  obtain⟨m,u⟩:=AE h px b F;unfold jt;split
  ·rename_i h0;have e:=(h.zero x p px hp).1 h0;subst e;refine⟨m,fun z=>?_⟩;rw[u,mQ_,mQ_];constructor
   ·rintro (h | h)<;>simp[h]
   rintro (h | h)
   ·exact .inl h
   exact mQ_.1 h
  rename_i h0
  have d:c p x<0:=by
   have hn:¬c x p<0:=E x (mS_ ..);exact(h.neg p x hp px).2 oM
  refine⟨List.pairwise_cons.2 ⟨fun z hz=>?_,m⟩,fun z=>?_⟩
  ·rcases mQ_.1 hz with rfl | hz
   ·exact d
   have A:P z:=by
    rcases mQ_.1 ((u z).1<|mC_ _ hz) with rfl | h
    ·exact px
    exact b z h
   exact h.trans p x z hp px A d ((List.pairwise_cons.1 m).1 z hz)
  rw[mQ_,u,mQ_,mQ_,mQ_]
theorem CT (h:qO c P) {l:List α} (hl:∀x∈l,P x) (b:CB c l):r5 c (cC c l)/\∀z,z∈cC c l↔z∈l:=by
 cases l with
 | nil=>exact⟨List.Pairwise.nil,fun z=>Iff.rfl⟩
 | cons x l=>exact AE h (hl x<|mS_ ..) (fun z hz=>hl z (mC_ _ hz)) b
theorem zQ (h:qO c P) {l s:List α} (hl:∀x∈l,P x) (hp:s.Perm l) (u:CB c s):cC c s=oh c l:=by
 have b:∀x∈s,P x:=fun x hx=>hl x (hp.mem_iff.1 hx)
 obtain⟨A,d⟩:=CT h b u;obtain⟨C,m⟩:=kM h hl;exact k9 h (fun x hx=>b x ((d x).1 hx)) (fun x hx=>hl x ((m x).1 hx)) A C fun z=>by rw[d,m,hp.mem_iff]
end
end Go.Ev
namespace Go.Ev
variable [Env]
theorem iT:qO dD fun _=>True where
 zero x y _ _:=⟨qZ,fun h=>by subst h;exact oB x⟩
 neg x y _ _:=by have:=Bv.nm x y;omega
 trans x y z _ _ _ h1 h2:=by
  have a1:=Bv.nm x y;have a2:=Bv.nm y z;have a3:=Bv.nm x z;have t:=Bv.trans x y z oM oM;refine Classical.byContradiction fun hn=>?_
  have h0:dD x z=0:=by omega
  have e:=qZ h0;subst e;omega
theorem Jd {α:Type} {c:α->α->Int} (h:qO c fun _=>True):Sort.SWO fun x y=>decide (c x y<0) where
 irrefl x:=decide_eq_false (h.Mq trivial)
 trans x y z h1 h2:=decide_eq_true (h.trans x y z trivial trivial trivial (of_decide_eq_true h1)<|of_decide_eq_true h2)
 ntrans x y z h1 h2:=decide_eq_false fun d=>by
  have n1:=of_decide_eq_false h1;have n2:=of_decide_eq_false h2
  have ge:∀a b:α,¬c a b<0->a=b∨c b a<0:=fun a b hn=>by
   by_cases h0:c a b=0
   ·exact .inl ((h.zero a b trivial trivial).1 h0)
   exact .inr ((h.neg b a trivial trivial).2 oM)
  rcases ge x y n1 with e | e1
  ·subst e;exact n2 d
  rcases ge y z n2 with e | e2
  ·subst e;exact n1 d
  exact h.Mq trivial<|h.trans x z x trivial trivial trivial d<|h.trans z y x trivial trivial trivial e2 e1
end Go.Ev
namespace Go.Ev
section
variable {H_:Type}
def lK:DataW H_->Int
 | .lit (.int _ n)=>n
 | _=>0
def N7:DataW H_->List Nat
 | .lit (.string s)=>s.map UInt8.toNat
 | _=>[]
def ei:DataW H_->List (DataW H_)
 | .slice l _=>l
 | _=>[]
def bT (d:DataW H_) (i:Nat):DataW H_:=
 match d with
 | .agg ps=>ps.getD i .nil
 | _=>.nil
def GD:Nat->DataW H_->XE
 | 0,_=>.mk 0 0 [] []
 | 1,_=>.mk 0 0 [] []
 | k+2,d=>.mk (lK<|bT d 0) (lK<|bT d 1) (N7<|bT d 2) ((ei<|bT d 3).map<|GD k)
def Nd (k:Nat) (d:DataW H_):XI:=⟨lK<|bT d 0,lK<|bT d 1,lK<|bT d 2,lK<|bT d 3,lK<|bT d 4,(ei<|bT d 5).map<|GD k⟩
def Nc (k:Nat) (d:DataW H_):XC:=⟨lK<|bT d 0,(ei<|bT d 1).map<|Nd k⟩
end
section
variable [Env] {H_:Type} {P:Program} {V:B}
def wV (n:Int):Prop:=-9223372036854775808<=n/\n<=9223372036854775807
theorem fM {fuel:Nat} {t:TypeId} {d:DataW H_} {vs:List Y} {k:IntKind} (hu:P.underlying t=some (.int k)) (hf:Fit P fuel t d) (hd:cT P V fuel t d vs):vs= [.int k<|lK d]/\(Lit.int k<|lK d).wf=true:=by
 cases fuel with
 | zero=>exact hf.elim
 | succ fuel=>
  unfold Fit at hf;rw[hu] at hf;obtain⟨n,rfl⟩:=hf;unfold cT at hd;rw[hu] at hd;obtain⟨_,b,rfl⟩:=hd;exact⟨Z,b⟩
theorem M8 {fuel:Nat} {t:TypeId} {d:DataW H_} {vs:List Y} (hu:P.underlying t=some .string) (hf:Fit P fuel t d) (hd:cT P V fuel t d vs):vs= [.str<|N7 d]:=by
 cases fuel with
 | zero=>exact hf.elim
 | succ fuel=>
  unfold Fit at hf;rw[hu] at hf;obtain⟨n,rfl,_⟩:=hf;unfold cT at hd;rw[hu] at hd;exact hd.2
theorem eR {α:Type} {fuel:Nat} {t e:TypeId} {m:Nat} {d:DataW H_} {vs:List Y} (F:DataW H_->α) (R:α->List Y->Prop) (hu:P.underlying t=some (.slice e)) (hm:P.cellsOf e=m) (h1:1<=m) (A:∀(b:Nat) (o:bU),V.m.get b=some o->b<V.next) (hf:Fit P (fuel+1) t d) (hd:cT P V (fuel+1) t d vs)
  (hR:∀x vs,Fit P fuel e x->cT P V fuel e x vs->R (F x) vs):∃v,vs= [v]/\bI (rY V) m R ((ei d).map F) v:=by
 unfold Fit at hf;rw[hu] at hf;dsimp only at hf;unfold cT at hd;rw[hu] at hd;rcases hf with rfl | ⟨elems,spare,rfl,aa⟩
 ·dsimp only at hd;exact⟨_,hd,.inl ⟨Z,Z⟩⟩
 dsimp only at hd;rw[hm] at hd;obtain⟨b,c,cells,e',rfl,C,u,E,G,k6⟩:=hd h1;refine⟨_,Z,.inr ⟨b,0,c,cells,e',true,by rw[show(ei<|DataW.slice elems spare).map F=elems.map F from Z,lM_],?_,⟨A b _ u,u⟩,?_,?_,fun i x hx=>?_⟩⟩
 ·rw[show(ei<|DataW.slice elems spare).map F=elems.map F from Z,lM_];rcases E with rfl | rfl
  ·exact .inr ⟨_,Z,Nat.le_add_right _ _⟩
  exact .inl Z
 ·rw[show(ei<|DataW.slice elems spare).map F=elems.map F from Z,lM_,G,nA_];exact nR_ _
 ·rw[show(ei<|DataW.slice elems spare).map F=elems.map F from Z,lM_];exact C
 rw[show(ei<|DataW.slice elems spare).map F=elems.map F from Z,gM_,oM_] at hx
 grind
theorem fZ {fuel:Nat} {t:TypeId} {fs:Array Field} {d:DataW H_} {vs:List Y} {m:Nat} (hu:P.underlying t=some (.struct fs)) (hc:P.cellsOf t=m) (ht:oi P fs.toList 0=some m) (hf:Fit P (fuel+1) t d) (hd:cT P V (fuel+1) t d vs):
  vs.length=m/\∀(i:Nat) (f:Field),fs[i]? =some f->Fit P fuel f.type (bT d i)/\cT P V fuel f.type (bT d i) ((vs.drop f.offset).take<|P.cellsOf f.type):=by
 unfold Fit at hf;rw[hu] at hf;dsimp only at hf;obtain⟨parts,rfl,hn,aa⟩:=hf;unfold cT at hd
 grind [bT]
theorem bI.mV {α:Type} {K:KP} {m:Nat} {R R':α->List Y->Prop} {l:List α} {v:Y} (h:bI K m R l v) (b:∀x vs,R x vs->R' x vs):bI K m R' l v:=h.mono (KP.le_refl K) b
theorem gX.up {K:KP}:∀{k:Nat} {x:XE} {vs:List Y},gX K k x vs->gX K (k+1) x vs
 | 0,x,_,h=>by cases x;exact h.elim
 | k+1,.mk op num name kids,vs,h=>by
  obtain⟨v,rfl,hk⟩:=h;exact⟨v,Z,hk.mV fun x vs h=>gX.up h⟩
end
theorem FB {H_:Type} {enc:TypeId×Value->H_} {P:Program} {w w':World} {sp:Nat->Bool} (d:∀r:Nat,r<w.heap.size->w'.heap[r]? =w.heap[r]?) {fuel:Nat} {t:TypeId} {cs:List Value} {x:DataW H_×List MemPlace}
  (h:DataW.trod enc P w 0 sp true fuel t cs=some x):DataW.trod enc P w' 0 sp true fuel t cs=some x:=by
 refine DataW.trod_carry fuel t cs x h fun p hp=>?_
 have hlt:=DataW.trod_lt fuel t cs x h p hp;cases p with
 | cell b off=>
  show w'.cell? ⟨b,off,none⟩=w.cell? ⟨b,off,none⟩;unfold World.cell?;rw[d b hlt]
 | map b=>exact d b hlt
theorem qY {H_:Type} {enc:TypeId×Value->H_} {P:Program} {w w':World} {sp:Nat->Bool} (b:∀r:Nat,r<w.heap.size->w'.heap[r]? =w.heap[r]?):∀{ts:List TypeId} {vs:List Value} {ds:List (DataW H_)} {ps:List MemPlace},
  DataW.TrodAll enc P w 0 sp true ts vs ds ps->DataW.TrodAll enc P w' 0 sp true ts vs ds ps
 | [],[],[],_,h=>h
 | _::_,_::_,_::_,_,⟨p,q,⟨n,h1⟩,d,e⟩=>⟨p,q,⟨n,FB b h1⟩,qY b d,e⟩
theorem By {H_:Type} {enc:TypeId×Value->H_} {P:Program} (hl:laidOutB P=true) (hm:mapsRowed P=true) (hz:((List.range P.types.size).all fun t=>match P.underlying t with | some (.slice e)=>decide (0<P.cellsOf e) | _=>true)=true) {w w':World} (hk:gi w w') {ts:List TypeId} {vs:List Value} {ds:List (DataW H_)} {ps:List MemPlace}
  (d:(ts.all fun t=>decide (t<P.types.size))=true) (h:DataW.TrodAll enc P w 0 (fun _=>true) true ts vs ds ps) {sp:Nat->Bool} (b:∀p∈ps,sp p.block=true):DataW.TrodAll enc P w' 0 sp true ts vs ds ps:=
 qY hk.same (h.respare (kids_rows hl hm) (slices_full_of P hz) (fun t m=>of_decide_eq_true (aE_.1 d t m)) b)
end Go.Ev
namespace Go.Ev
variable [Env]
open Go.Proofs
set_option maxRecDepth 4000
set_option maxHeartbeats 8000000
theorem Lc {G:Cx} (hG:Plain G) {K:KP} {l1 l2:List Int} {U W:Y} {V:B} {L:Own} (aq:H V K L) (h1:bI K 1 (dG) l1 U) (X:bI K 1 (dG) l2 W)
     :aT Tryz.prog G 45 [U,W] V fun v V'=>v= .bool (bV l1 l2)/\H V' K L:=by
  refine Qf hG Tryz.func45 Z<|OV 9 Z<|S Z (QZ h1 Z Z Z (e:=2) Z) Z<|vQ 1 Z<|S Z (QZ X Z Z Z (e:=2) Z) Z<|PM 3 Z<|aC Z (fun d=>?_) (fun d=>?_)
  · skip
    refine PL 7 Z ?_;exact ay Z Z ⟨by first | rw[dN<|cd d] | (rw[ef u A (by simpa only[q9] using cd C)]) | rw[dn (cQ<|bF d) (bx E) b],aq⟩
  · skip
    refine aG<|OU 7 Z ?_;obtain⟨LL1,aq,hLL1⟩:=aq.named;refine ba ([4,5]++rg 11 15) (fun j t V=>∃(i:Nat),j+i=l1.length/\(∀k,k<i->l1[k]? =l2[k]?)/\t.get 5=some (.int .i64 (.ofNat i))/\H V K LL1) (l1.length) ⟨0,Z,fun k hk=>absurd hk (nZ_ _),Z,aq⟩ ?_;clear aq;intro j4 t V an hI;obtain⟨i,hj,b,T,aq⟩:=hI;subst hLL1;obtain⟨oo,rfl⟩:=an.q1 T Z;refine OV 5 Z<|S Z (QZ h1 Z Z Z (e:=2) Z) Z<|PM 3 Z<|aC Z (fun E=>?_) (fun E=>?_)
    · skip
      refine Nz 5 Z<|aX (l:=zp [0,1,2,3,4,5,6,7,8]) J J<|Qm 2 Z ?_;obtain⟨am,u,F⟩:=cO E;refine QR (e:=2) (m:=1) h1 u Z Z Z Z Z (fun ao aa I ab M=>?_);obtain rfl:=M;refine al Z Z (Q4 aq I Z Z) Z<|Qm 2 Z ?_;obtain⟨ap,A⟩:=cF (show _<l2.length from by rw[<-cQ (bF d)];exact F);refine QR (e:=2) (m:=1) X A Z Z Z Z Z (fun au ac Q ak R=>?_);obtain rfl:=R;refine al Z Z (Q4 aq Q Z Z) Z<|PQ 3 Z<|aC Z (fun C=>?_) (fun C=>?_)
      · skip
        refine Qk 6 Z<|aK<|az<|bp<|aK<|az (?_);exact ay Z Z ⟨by first | rw[dN<|cd d] | (rw[ef u A (by simpa only[q9] using cd C)]) | rw[dn (cQ<|bF d) (bx E) b],aq⟩
      · skip
        refine aG<|aH<|Qj 5 Z<|aL ⟨j4-1,by omega,oF,i+1,by omega,gQ b u A (by simpa only[q9] using bF C),cI<|aZ (by have:=h1.bM;omega),aq⟩
    · skip
      refine OW 3 Z<|aN<|Qk 6 Z ?_;exact ay Z Z ⟨by first | rw[dN<|cd d] | (rw[ef u A (by simpa only[q9] using cd C)]) | rw[dn (cQ<|bF d) (bx E) b],aq⟩
theorem Jl {G:Cx} (hG:Plain G) {K:KP} {l1 l2:List cq} {X v2:Y} {V:B} {L:Own} (aq:H V K L) (h1:bI K 5 (qQ) l1 X) (h2:bI K 5 (qQ) l2 v2)
     :aT Tryz.prog G 46 [X,v2] V fun v V'=>v= .bool (bV l1 l2)/\H V' K L:=by
  refine Qf hG Tryz.func46 Z<|OV 9 Z<|S Z (QZ h1 Z Z Z (e:=92) Z) Z<|vQ 1 Z<|S Z (QZ h2 Z Z Z (e:=92) Z) Z<|PM 3 Z<|aC Z (fun d=>?_) (fun d=>?_)
  · skip
    refine PL 7 Z ?_;exact ay Z Z ⟨by first | rw[dN<|cd d] | (rw[ef u A (by exact(cq.same (x:=F) (y:=I)).symm.trans<|cd C)]) | rw[dn (cQ<|bF d) (bx E) b],aq⟩
  · skip
    refine aG<|OU 7 Z ?_;obtain⟨LL1,aq,hLL1⟩:=aq.named;refine ba ([4,5]++rg 11 15) (fun j t V=>∃(i:Nat),j+i=l1.length/\(∀k,k<i->l1[k]? =l2[k]?)/\t.get 5=some (.int .i64 (.ofNat i))/\H V K LL1) (l1.length) ⟨0,Z,fun k hk=>absurd hk (nZ_ _),Z,aq⟩ ?_;clear aq;intro j4 t V an hI;obtain⟨i,hj,b,W,aq⟩:=hI;subst hLL1;obtain⟨oo,rfl⟩:=an.q1 W Z;refine OV 5 Z<|S Z (QZ h1 Z Z Z (e:=92) Z) Z<|PM 3 Z<|aC Z (fun E=>?_) (fun E=>?_)
    · skip
      refine Nz 5 Z<|aX (l:=zp [0,1,2,3,4,5,6,7,8]) J J<|Qm 2 Z ?_;obtain⟨F,u,M⟩:=cO E;refine QR (e:=92) (m:=5) h1 u Z Z Z Z Z (fun am aa Q ab R=>?_);obtain rfl:=R;refine al Z Z (Q5 aq Q Z Z) Z<|Qm 2 Z ?_;obtain⟨I,A⟩:=cF (show _<l2.length from by rw[<-cQ (bF d)];exact M);refine QR (e:=92) (m:=5) h2 A Z Z Z Z Z (fun ao ac T ak U=>?_);obtain rfl:=U;refine al Z Z (Q5 aq T Z Z) Z<|al Z Z (Fq (n:=5) (ca:=[_,_,_,_,_]) (cb:=[_,_,_,_,_]) J Z Z Z Z) Z<|PQ 2 Z<|aC Z (fun C=>?_) (fun C=>?_)
      · skip
        refine Qk 6 Z<|aK<|az<|bp<|aK<|az (?_);exact ay Z Z ⟨by first | rw[dN<|cd d] | (rw[ef u A (by exact(cq.same (x:=F) (y:=I)).symm.trans<|cd C)]) | rw[dn (cQ<|bF d) (bx E) b],aq⟩
      · skip
        refine aG<|aH<|Qj 5 Z<|aL ⟨j4-1,by omega,oF,i+1,by omega,gQ b u A (by exact(cq.same (x:=F) (y:=I)).symm.trans<|bF C),cI<|aZ (by have:=h1.bM;omega),aq⟩
    · skip
      refine OW 3 Z<|aN<|Qk 6 Z ?_;exact ay Z Z ⟨by first | rw[dN<|cd d] | (rw[ef u A (by exact(cq.same (x:=F) (y:=I)).symm.trans<|cd C)]) | rw[dn (cQ<|bF d) (bx E) b],aq⟩
theorem LY {G:Cx} (hG:Plain G) {K:KP} {l1 l2:List cm} {X v2:Y} {V:B} {L:Own} (aq:H V K L) (h1:bI K 2 (nh) l1 X) (h2:bI K 2 (nh) l2 v2)
     :aT Tryz.prog G 47 [X,v2] V fun v V'=>v= .bool (bV l1 l2)/\H V' K L:=by
  refine Qf hG Tryz.func47 Z<|OV 9 Z<|S Z (QZ h1 Z Z Z (e:=59) Z) Z<|vQ 1 Z<|S Z (QZ h2 Z Z Z (e:=59) Z) Z<|PM 3 Z<|aC Z (fun d=>?_) (fun d=>?_)
  · skip
    refine PL 7 Z ?_;exact ay Z Z ⟨by first | rw[dN<|cd d] | (rw[ef u A (by exact(cm.same (x:=F) (y:=I)).symm.trans<|cd C)]) | rw[dn (cQ<|bF d) (bx E) b],aq⟩
  · skip
    refine aG<|OU 7 Z ?_;obtain⟨LL1,aq,hLL1⟩:=aq.named;refine ba ([4,5]++rg 11 15) (fun j t V=>∃(i:Nat),j+i=l1.length/\(∀k,k<i->l1[k]? =l2[k]?)/\t.get 5=some (.int .i64 (.ofNat i))/\H V K LL1) (l1.length) ⟨0,Z,fun k hk=>absurd hk (nZ_ _),Z,aq⟩ ?_;clear aq;intro j4 t V an hI;obtain⟨i,hj,b,W,aq⟩:=hI;subst hLL1;obtain⟨oo,rfl⟩:=an.q1 W Z;refine OV 5 Z<|S Z (QZ h1 Z Z Z (e:=59) Z) Z<|PM 3 Z<|aC Z (fun E=>?_) (fun E=>?_)
    · skip
      refine Nz 5 Z<|aX (l:=zp [0,1,2,3,4,5,6,7,8]) J J<|Qm 2 Z ?_;obtain⟨F,u,M⟩:=cO E;refine QR (e:=59) (m:=2) h1 u Z Z Z Z Z (fun am aa Q ab R=>?_);obtain rfl:=R;refine al Z Z (Q5 aq Q Z Z) Z<|Qm 2 Z ?_;obtain⟨I,A⟩:=cF (show _<l2.length from by rw[<-cQ (bF d)];exact M);refine QR (e:=59) (m:=2) h2 A Z Z Z Z Z (fun ao ac T ak U=>?_);obtain rfl:=U;refine al Z Z (Q5 aq T Z Z) Z<|al Z Z (Fq (n:=2) (ca:=[_,_]) (cb:=[_,_]) J Z Z Z Z) Z<|PQ 2 Z<|aC Z (fun C=>?_) (fun C=>?_)
      · skip
        refine Qk 6 Z<|aK<|az<|bp<|aK<|az (?_);exact ay Z Z ⟨by first | rw[dN<|cd d] | (rw[ef u A (by exact(cm.same (x:=F) (y:=I)).symm.trans<|cd C)]) | rw[dn (cQ<|bF d) (bx E) b],aq⟩
      · skip
        refine aG<|aH<|Qj 5 Z<|aL ⟨j4-1,by omega,oF,i+1,by omega,gQ b u A (by exact(cm.same (x:=F) (y:=I)).symm.trans<|bF C),cI<|aZ (by have:=h1.bM;omega),aq⟩
    · skip
      refine OW 3 Z<|aN<|Qk 6 Z ?_;exact ay Z Z ⟨by first | rw[dN<|cd d] | (rw[ef u A (by exact(cm.same (x:=F) (y:=I)).symm.trans<|cd C)]) | rw[dn (cQ<|bF d) (bx E) b],aq⟩
theorem KZ {G:Cx} (hG:Plain G) {K:KP} {g1 d:XG} {a1 b1 c1 d1 a2 b2 c2 d2:Y} {V:B} {L:Own} (aq:H V K L) (h1:dC K g1 a1 b1 c1 d1) (h2:dC K d a2 b2 c2 d2):
  aT Tryz.prog G 16 [.agg [a1,b1,c1,d1],.agg [a2,b2,c2,d2]] V fun v V'=>v= .bool (bV g1 d)/\H V' K L:=by
 obtain⟨b7,U,W,X⟩:=h1;obtain⟨b8,aE,a0,a3⟩:=h2;refine Qf hG Tryz.func16 Z<|PK 2 Z<|kp aq Z (cL Z Z) (fun V b1 aq=>?_);refine kp aq Z (cL Z Z) (fun V b2 aq=>?_);refine Oh 6 Z<|Qn aq 4 [0,1,0,0] Z Z<|bh Z (QV Z Z Z) (fun _=>Z) (Lc hG aq b7 b8) (fun V aq=>?_);refine S Z (dX Z) Z<|ky Z (N Z) (fun b=>?_) (fun b=>?_)
 ·refine OZ 36 Z ?_;exact ay Z Z ⟨cB (by have u:bV g1.init d.init=false:=(by simpa using b);rw[lj];simp only[u,Bool.and_true,Bool.true_and,Bool.and_false,Bool.false_and]),aq.pop.pop⟩
 refine Qn aq 2 [1,1] Z Z<|S Z (QZ U Z Z Z (e:=64) Z) Z<|Qn aq 2 [1,0] Z Z<|S Z (QZ aE Z Z Z (e:=64) Z) Z<|Ql 2 Z<|ky Z (N Z) (fun A=>?_) (fun A=>?_)
 ·refine OZ 27 Z ?_;exact ay Z Z ⟨cB (by have u:bV g1.init d.init=true:=(by simpa using b);have e1:=dN (cd A);rw[lj];simp only[u,e1,Bool.and_true,Bool.true_and,Bool.and_false,Bool.false_and]),aq.pop.pop⟩
 refine Qn aq 2 [2,1] Z Z<|S Z (QZ W Z Z Z (e:=57) Z) Z<|Qn aq 2 [2,0] Z Z<|S Z (QZ a0 Z Z Z (e:=57) Z) Z<|Ql 2 Z<|ky Z (N Z) (fun C=>?_) (fun C=>?_)
 ·refine OZ 18 Z ?_;exact ay Z Z ⟨cB (by have u:bV g1.init d.init=true:=(by simpa using b);have e2:=dN (cd C);rw[lj];simp only[u,e2,Bool.and_true,Bool.true_and,Bool.and_false,Bool.false_and]),aq.pop.pop⟩
 refine Qn aq 2 [3,1] Z Z<|S Z (QZ X Z Z Z (e:=57) Z) Z<|Qn aq 2 [3,0] Z Z<|S Z (QZ a3 Z Z Z (e:=57) Z) Z<|PM 4 Z<|aC Z (fun aa=>?_) (fun aa=>?_)
 ·refine PL 7 Z ?_;exact ay Z Z ⟨cB (by have u:bV g1.init d.init=true:=(by simpa using b);have e3:=dN (cd aa);rw[lj];simp only[u,e3,Bool.and_true,Bool.true_and,Bool.and_false,Bool.false_and]),aq.pop.pop⟩
 refine aG<|OU 7 Z ?_;obtain⟨LL1,aq,hLL1⟩:=aq.named;refine ba ([4,5]++rg 41 19) (fun j t V=>∃(i:Nat),j+i=g1.threads.length/\(∀k,k<i->g1.threads[k]? =d.threads[k]?)/\t.get 5=some (.int .i64 (.ofNat i))/\H V K LL1) (g1.threads.length) ⟨0,Z,fun k hk=>absurd hk (nZ_ _),Z,aq⟩ ?_;clear aq;intro j4 t V an hI;obtain⟨i,c4,ab,b9,aq⟩:=hI;subst hLL1;obtain⟨oo,rfl⟩:=an.q1 b9 Z;refine Pa aq 6 [1,1] Z Z<|S Z (QZ U Z Z Z (e:=64) Z) Z<|PM 3 Z<|aC Z (fun E=>?_) (fun E=>?_)
 ·refine Nz 5 Z<|aX (l:=zp [0,1,2,3,4,5,6,7,8,9,10,11]) J J<|Qo aq 3 [1,1] Z Z ?_;obtain⟨c5,F,a4⟩:=cO E;refine QR (e:=64) (m:=1) U F Z Z Z Z Z (fun c7 ce a5 ch a9=>?_);have hr51':=a9;obtain⟨c8,rfl,bb⟩:=hr51';refine al Z Z (Q4 aq a5 Z Z) Z<|Qo aq 3 [1,0] Z Z ?_;obtain⟨c9,I⟩:=cF (show _<d.threads.length from by rw[<-cQ (bF A)];exact a4);refine QR (e:=64) (m:=1) aE I Z Z Z Z Z (fun dd ci bd ck be=>?_);have hr56':=be;obtain⟨df,rfl,bi⟩:=hr56';refine al Z Z (Q4 aq bd Z Z) Z<|fe Z Z (QV Z Z Z) (fun _=>Z) (Jl hG aq bb bi) (fun V aq=>?_);refine⟨bq,?_⟩;refine al Z Z (dX Z) Z<|PQ 2 Z<|aC Z (fun am=>?_) (fun am=>?_)
  ·refine Qk 6 Z<|aK<|az<|bp<|aK<|az (?_);exact ay Z Z ⟨cB (by have u:bV g1.init d.init=true:=(by simpa using b);have e1:=ef F I (by simpa using am);rw[lj];simp only[u,e1,Bool.and_true,Bool.true_and,Bool.and_false,Bool.false_and]),aq.pop.pop⟩
  refine aG<|aH<|Qj 5 Z<|aL ⟨j4-1,by omega,oF,i+1,by omega,gQ ab F I (by simpa using am),cI<|aZ (by have:=U.bM;omega),aq⟩
 refine OW 3 Z<|aN<|OU 7 Z ?_;obtain⟨LL2,aq,hLL2⟩:=aq.named;refine ba ([4,6]++rg 60 19) (fun j t V=>∃(i2:Nat),j+i2=g1.from_.length/\(∀k,k<i2->g1.from_[k]? =d.from_[k]?)/\t.get 6=some (.int .i64 (.ofNat i2))/\H V K LL2) (g1.from_.length) ⟨0,Z,fun k hk=>absurd hk (nZ_ _),Z,aq⟩ ?_;clear aq;intro j9 t V an hI;obtain⟨i2,dk,ao,ca,aq⟩:=hI;subst hLL2;obtain⟨oo,rfl⟩:=an.q1 ca Z;refine Pa aq 6 [2,1] Z Z<|S Z (QZ W Z Z Z (e:=57) Z) Z<|PM 3 Z<|aC Z (fun ac=>?_) (fun ac=>?_)
 ·refine Nz 5 Z<|aX (l:=zp [0,1,2,3,4,5,6,7,8,9,10,11]) J J<|Qo aq 3 [2,1] Z Z ?_;obtain⟨dl,M,bk⟩:=cO ac;refine QR (e:=57) (m:=1) W M Z Z Z Z Z (fun dm cn bl cp bm=>?_);have hr70':=bm;obtain⟨dr,rfl,bo⟩:=hr70';refine al Z Z (Q4 aq bl Z Z) Z<|Qo aq 3 [2,0] Z Z ?_;obtain⟨ds,Q⟩:=cF (show _<d.from_.length from by rw[<-cQ (bF C)];exact bk);refine QR (e:=57) (m:=1) a0 Q Z Z Z Z Z (fun dx cr bs cs bt=>?_);have hr75':=bt;obtain⟨dA,rfl,bv⟩:=hr75';refine al Z Z (Q4 aq bs Z Z) Z<|fe Z Z (QV Z Z Z) (fun _=>Z) (LY hG aq bo bv) (fun V aq=>?_);refine⟨bq,?_⟩;refine al Z Z (dX Z) Z<|PQ 2 Z<|aC Z (fun ap=>?_) (fun ap=>?_)
  ·refine Qk 6 Z<|aK<|az<|bp<|aK<|az (?_);exact ay Z Z ⟨cB (by have u:bV g1.init d.init=true:=(by simpa using b);have e1:=dn (cQ<|bF A) (bx E) ab;have e2:=ef M Q (by simpa using ap);rw[lj];simp only[u,e1,e2,Bool.and_true,Bool.true_and,Bool.and_false,Bool.false_and]),aq.pop.pop⟩
  refine aG<|aH<|Qj 5 Z<|aL ⟨j9-1,by omega,oF,i2+1,by omega,gQ ao M Q (by simpa using ap),cI<|aZ (by have:=W.bM;omega),aq⟩
 refine OW 3 Z<|aN<|OU 7 Z ?_;obtain⟨LL3,aq,hLL3⟩:=aq.named;refine ba ([4,7]++rg 79 19) (fun j t V=>∃(i3:Nat),j+i3=g1.order.length/\(∀k,k<i3->g1.order[k]? =d.order[k]?)/\t.get 7=some (.int .i64 (.ofNat i3))/\H V K LL3) (g1.order.length) ⟨0,Z,fun k hk=>absurd hk (nZ_ _),Z,aq⟩ ?_;clear aq;intro cb t V an hI;obtain⟨i3,cv,ak,cc,aq⟩:=hI;subst hLL3;obtain⟨oo,rfl⟩:=an.q1 cc Z;refine Pa aq 6 [3,1] Z Z<|S Z (QZ X Z Z Z (e:=57) Z) Z<|PM 3 Z<|aC Z (fun au=>?_) (fun au=>?_)
 ·refine Nz 5 Z<|aX (l:=zp [0,1,2,3,4,5,6,7,8,9,10,11]) J J<|Qo aq 3 [3,1] Z Z ?_;obtain⟨d0,R,bw⟩:=cO au;refine QR (e:=57) (m:=1) X R Z Z Z Z Z (fun d3 cw bX cx b0=>?_);have hr89':=b0;obtain⟨d4,rfl,b3⟩:=hr89';refine al Z Z (Q4 aq bX Z Z) Z<|Qo aq 3 [3,0] Z Z ?_;obtain⟨d5,T⟩:=cF (show _<d.order.length from by rw[<-cQ (bF aa)];exact bw);refine QR (e:=57) (m:=1) a3 T Z Z Z Z Z (fun d6 c0 b4 c3 b5=>?_);have hr94':=b5;obtain⟨d7,rfl,b6⟩:=hr94';refine al Z Z (Q4 aq b4 Z Z) Z<|fe Z Z (QV Z Z Z) (fun _=>Z) (LY hG aq b3 b6) (fun V aq=>?_);refine⟨bq,?_⟩;refine al Z Z (dX Z) Z<|PQ 2 Z<|aC Z (fun av=>?_) (fun av=>?_)
  ·refine Qk 6 Z<|aK<|az<|bp<|aK<|az (?_);exact ay Z Z ⟨cB (by have u:bV g1.init d.init=true:=(by simpa using b);have e1:=dn (cQ<|bF A) (bx E) ab;have e2:=dn (cQ<|bF C) (bx ac) ao;have e3:=ef R T (by simpa using av);rw[lj];simp only[u,e1,e2,e3,Bool.and_true,Bool.true_and,Bool.and_false,Bool.false_and]),aq.pop.pop⟩
  refine aG<|aH<|Qj 5 Z<|aL ⟨cb-1,by omega,oF,i3+1,by omega,gQ ak R T (by simpa using av),cI<|aZ (by have:=X.bM;omega),aq⟩
 refine OW 3 Z<|aN<|Qk 6 Z ?_;exact ay Z Z ⟨cB (by have u:bV g1.init d.init=true:=(by simpa using b);have e1:=dn (cQ<|bF A) (bx E) ab;have e2:=dn (cQ<|bF C) (bx ac) ao;have e3:=dn (cQ<|bF aa) (bx au) ak;rw[lj];simp only[u,e1,e2,e3,Bool.and_true,Bool.true_and,Bool.and_false,Bool.false_and]),aq.pop.pop⟩
theorem Fl {G:Cx} (d:Plain G) {K:KP} (e:cq) {V:B} {L:Own} (aq:H V K L):aT Tryz.prog G 108 [.agg<|ints e.ints] V fun v V'=>v= .bool (dw e)/\H V' K L:=by
 refine Qf d Tryz.func108 Z<|PK 2 Z<|kp aq Z (cL Z Z) (fun V b1 aq=>?_);refine OY 5 Z<|Qn aq 3 [0,0] Z Z<|ky Z (N Z) (fun b=>?_) (fun b=>?_)
 ·refine PN 8 Z ?_;exact ay Z Z ⟨cB (by unfold dw;simp only[b,ct,cf]),aq.pop⟩
 refine PR aq 8 [0,0] Z Z ?_;exact ay Z Z ⟨cB (by unfold dw;simp only[b,ct,cf]),aq.pop⟩
theorem rV {G:Cx} (d:Plain G) {K:KP} (e:cq) {V:B} {L:Own} (aq:H V K L):aT Tryz.prog G 109 [.agg<|ints e.ints] V fun v V'=>v= .bool (br e)/\H V' K L:=by
 refine Qf d Tryz.func109 Z<|PK 2 Z<|kp aq Z (cL Z Z) (fun V b1 aq=>?_);refine OY 5 Z<|Qn aq 3 [0,0] Z Z<|ky Z (N Z) (fun b=>?_) (fun b=>?_)
 ·refine PN 8 Z ?_;exact ay Z Z ⟨cB (by unfold br;simp only[b,ct,cf]),aq.pop⟩
 refine PR aq 8 [0,0] Z Z ?_;exact ay Z Z ⟨cB (by unfold br;simp only[b,ct,cf]),aq.pop⟩
theorem Fj {G:Cx} (hG:Plain G) {K:KP} {g:XG} {a b c d:Y} (h:dC K g a b c d) (th ix:Int) {V:B} {L:Own} (aq:H V K L):aT Tryz.prog G 110 [.agg [a,b,c,d],.agg [.int .i64 th,.int .i64 ix]] V fun v V'=>v= .tuple [.agg<|ints (uU<|dR g ⟨th,ix⟩).ints,.bool (dR g ⟨th,ix⟩).isSome]/\H V' K L:=by
 have h':=h;obtain⟨hi,R,hf,ho⟩:=h';refine Qf hG Tryz.func110 Z<|PK 2 Z<|kp aq Z (cL Z Z) (fun V b1 aq=>?_);refine kp aq Z (cL Z Z) (fun V b2 aq=>?_);refine kp aq Z (Q0 (cs:=[iZ,iZ,iZ,iZ,iZ])) (fun V b3 aq=>?_);refine Oh 6 Z<|Qn aq 3 [0,1] Z Z<|ky Z (N Z) (fun h9=>?_) (fun h9=>?_)
 ·refine OY 17 Z (S Z (QU (places:=[(0,1),(1,1),(2,1),(3,1),(4,1)]) (zero:=[iZ,iZ,iZ,iZ,iZ]) (cs:=[_,_,_,_,_]) Z) Z<|db aq Z (Q6 Z Z Z aq.g0 (m:=5) Z Z (cells':=[_,_,_,_,_]) Z) Z (fun V aq=>?_));refine OZ 5 Z ?_;exact eN Z Z aq.g0 (m:=5) J Z Z ⟨by rw[sj h9];rfl,aq.pop.pop.pop⟩
 refine Qn aq 4 [0,1,1,2] Z Z<|S Z (QZ R Z Z Z (e:=64) Z) Z<|Ql 2 Z<|ky Z (N Z) (fun A=>?_) (fun A=>?_)
 ·refine OY 9 Z (S Z (QU (places:=[(0,1),(1,1),(2,1),(3,1),(4,1)]) (zero:=[iZ,iZ,iZ,iZ,iZ]) (cs:=[_,_,_,_,_]) Z) Z<|db aq Z (Q6 Z Z Z aq.g0 (m:=5) Z Z (cells':=[_,_,_,_,_]) Z) Z (fun V aq=>?_));refine OZ 5 Z ?_;exact eN Z Z aq.g0 (m:=5) J Z Z ⟨by rw[AI A];rfl,aq.pop.pop.pop⟩
 refine Qn aq 4 [1,1] Z Z<|PM 2 Z<|aC Z (fun I=>?_) (fun I=>?_)
 ·refine PK 2 Z (S Z (QU (places:=[(0,1),(1,1),(2,1),(3,1),(4,1)]) (zero:=[iZ,iZ,iZ,iZ,iZ]) (cs:=[_,_,_,_,_]) Z) Z<|db aq Z (Q6 Z Z Z aq.g0 (m:=5) Z Z (cells':=[_,_,_,_,_]) Z) Z (fun V aq=>?_));refine OZ 5 Z ?_;exact eN Z Z aq.g0 (m:=5) J Z Z ⟨by rw[oH I];rfl,aq.pop.pop.pop⟩
 obtain⟨tn,rfl⟩:=mF h9;obtain⟨ixn,rfl⟩:=mF I;refine aG<|Pa aq 6 [0,1] Z Z<|PM 2 Z<|aC Z (fun C=>?_) (fun C=>?_)
 ·obtain rfl:tn=0:=by rw[cR] at C;simpa using C
  refine Pa aq 7 [1,1,0,2] Z Z<|S Z (QZ hi Z Z Z (e:=2) Z) Z<|PM 3 Z<|aC Z (fun M=>?_) (fun M=>?_)
  ·refine PK 2 Z (S Z (QU (places:=[(0,1),(1,1),(2,1),(3,1),(4,1)]) (zero:=[iZ,iZ,iZ,iZ,iZ]) (cs:=[_,_,_,_,_]) Z) Z<|db aq Z (Q6 Z Z Z aq.g0 (m:=5) Z Z (cells':=[_,_,_,_,_]) Z) Z (fun V aq=>?_));refine PN 4 Z<|az<|az (?_);exact eN Z Z aq.g0 (m:=5) J Z Z ⟨by rw[show dR g _=none from by show(g.init[ixn]?).map _=_;rw[gN_<|ik M];rfl];rfl,aq.pop.pop.pop⟩
  refine aG<|ad<|ai<|aX (l:=zp [0,1,2,3,4,5,6,7,8,9,10]) J J<|Qo aq 6 [1,1,0,2,1,1] Z Z ?_;obtain⟨a3,E⟩:=cF (iy M);refine QR (e:=2) (m:=1) hi E Z Z Z Z Z (fun a4 ao T ap U=>?_);obtain rfl:=U;refine al Z Z (Q4 aq T Z Z) Z (al Z Z (QU (places:=[(0,1),(1,1),(2,1),(3,1),(4,1)]) (zero:=[iZ,iZ,iZ,iZ,iZ]) (cs:=[_,_,_,_,_]) Z) Z<|vW aq Z Z (Q6 Z Z Z aq.g0 (m:=5) Z Z (cells':=[_,_,_,_,_]) Z) Z (fun V aq=>?_));refine⟨bq,?_⟩;refine PQ 3 Z<|PL 2 Z ?_;exact eN Z Z aq.g0 (m:=5) J Z Z ⟨by rw[show dR g _=some _ from by show(g.init[ixn]?).map _=_;rw[E];rfl];rfl,aq.pop.pop.pop⟩
 obtain⟨tm,rfl⟩:=E8 C;refine aG<|ad<|ai<|ai<|aX (l:=zp [0,1,2,3,4,5,6,7,8,9,10]) J J<|Qo aq 7 [1,1,1,2,0,1] Z Z ?_;obtain⟨a5,u⟩:=cF (show tm<g.threads.length from by have:=l8 A;omega);refine QR (e:=64) (m:=1) R u Z Z Z Z (cI<|gy (by have:=l8 A;have:=R.bM;omega)) (fun a9 au W av X=>?_);have hr49':=X;obtain⟨bb,rfl,aa⟩:=hr49';refine al Z Z (Q4 aq W Z Z) Z<|al Z Z (QZ aa Z Z Z (e:=92) Z) Z<|PQ 3 Z<|aC Z (fun Q=>?_) (fun Q=>?_)
 ·refine PK 2 Z (S Z (QU (places:=[(0,1),(1,1),(2,1),(3,1),(4,1)]) (zero:=[iZ,iZ,iZ,iZ,iZ]) (cs:=[_,_,_,_,_]) Z) Z<|db aq Z (Q6 Z Z Z aq.g0 (m:=5) Z Z (cells':=[_,_,_,_,_]) Z) Z (fun V aq=>?_));refine OZ 5 Z ?_;exact eN Z Z aq.g0 (m:=5) J Z Z ⟨by rw[show dR g _=none from by show(g.threads[tm]?).bind _=_;rw[u];exact gN_<|ik Q];rfl,aq.pop.pop.pop⟩
 refine aG<|ad<|ai<|aX (l:=zp [0,1,2,3,4,5,6,7,8,9,10,11,12]) J J<|Qo aq 5 [1,2,0,1] Z Z<|QR (e:=64) (m:=1) R u Z Z Z Z (cI<|gy (by have:=l8 A;have:=R.bM;omega)) (fun bd aE ab a0 ac=>?_);have hr59':=ac;obtain⟨be,rfl,ak⟩:=hr59';refine al Z Z (Q4 aq ab Z Z) Z<|Qo aq 2 [1,1] Z Z ?_;obtain⟨bi,F⟩:=cF (iy Q);refine QR (e:=92) (m:=5) ak F Z Z Z Z Z (fun bk a1 am a2 an=>?_);obtain rfl:=an;refine al Z Z (Q5 aq am Z Z) Z<|vW aq Z Z (Q6 Z Z Z aq.g0 (m:=5) Z Z (cells':=[_,_,_,_,_]) Z) Z (fun V aq=>?_);refine⟨bq,?_⟩;refine PQ 3 Z<|aD ?_;exact eN Z Z aq.g0 (m:=5) J Z Z ⟨by rw[show dR g _=some _ from by show(g.threads[tm]?).bind _=_;rw[u];exact F];rfl,aq.pop.pop.pop⟩
theorem z7 {G:Cx} (Q:Plain G) {K:KP} (e:cq) (n:Int) {V:B} {L:Own} (aq:H V K L):aT Tryz.prog G 65 [.agg<|ints e.ints,.int .i64 n] V fun v V'=>v= .bool (bE e n)/\H V' K L:=by
 refine Qf Q Tryz.func65 Z<|PK 2 Z<|kp aq Z (cL Z Z) (fun V b1 aq=>?_);refine Oh 6 Z<|Qn aq 3 [0,0] Z Z<|ky Z (N Z) (fun I=>?_) (fun I=>?_)
 ·refine OZ 24 Z ?_;exact ay Z Z ⟨cB (by unfold bE bW;simp only[I,ct,cf]),aq.pop⟩
 refine Qn aq 4 [0,0] Z Z<|ky Z (N Z) (fun b=>?_) (fun b=>?_)
 ·refine OZ 19 Z ?_;exact ay Z Z ⟨cB (by unfold bE bW;simp only[I,b,ct,cf]),aq.pop⟩
 refine Qn aq 4 [2,0] Z Z<|ky Z (N Z) (fun m=>?_) (fun m=>?_)
 ·refine OZ 14 Z ?_;exact ay Z Z ⟨cB (by unfold bE bW;simp only[I,b,m,ct,cf]),aq.pop⟩
 refine Qn aq 4 [2,0] Z Z<|PM 2 Z<|aC Z (fun u=>?_) (fun u=>?_)
 ·refine PL 7 Z ?_;exact ay Z Z ⟨cB (by unfold bE bW;simp only[I,b,m,u,ct,cf]),aq.pop⟩
 refine aG<|OV 3 Z<|S Z (QY Z aq.g0 (n:=5) (vs:=[_,_,_,_,_]) Z) Z<|bh Z (QV Z Z Z) (fun _=>Z) (Fl Q _ aq) (fun V aq=>?_);refine S Z (dX Z) Z<|ky Z (N Z) (fun C=>?_) (fun C=>?_)
 ·refine Qn aq 4 [3,0] Z Z<|ky Z (N Z) (fun M=>?_) (fun M=>?_)
  ·refine OZ 19 Z ?_;exact ay Z Z ⟨cB (by unfold bE bW;simp only[I,b,m,u,C,M,ct,cf]),aq.pop⟩
  refine S Z (QY Z aq.g0 (n:=5) (vs:=[_,_,_,_,_]) Z) Z<|bh Z (QV Z Z Z) (fun _=>Z) (rV Q _ aq) (fun V aq=>?_);refine S Z (dX Z) Z<|ky Z (N Z) (fun A=>?_) (fun A=>?_)
  ·refine Qn aq 5 [4,0] Z Z<|PM 2 Z<|aC Z (fun F=>?_) (fun F=>?_)
   ·refine PL 7 Z ?_;exact ay Z Z ⟨cB (by unfold bE bW;simp only[I,b,m,u,C,M,A,F,ct,cf]),aq.pop⟩
   refine aG<|Pa aq 6 [0,0] Z Z<|PM 2 Z<|aC Z (fun d=>?_) (fun d=>?_)
   ·refine PK 2 Z<|PR aq 7 [1,0] Z Z<|az (?_);exact ay Z Z ⟨cB (by unfold bE bW;simp only[I,b,m,u,C,M,A,F,d,ct,cf]),aq.pop⟩
   refine aG<|PK 2 Z<|Qn aq 3 [1,0] Z Z<|ky Z (N Z) (fun E=>?_) (fun E=>?_)
   ·refine PR aq 9 [1,0] Z Z ?_;exact ay Z Z ⟨cB (by unfold bE bW;simp only[I,b,m,u,C,M,A,F,d,E,ct,cf]),aq.pop⟩
   refine PN 9 Z ?_;exact ay Z Z ⟨cB (by unfold bE bW;simp only[I,b,m,u,C,M,A,F,d,E,ct,cf]),aq.pop⟩
  refine PM 8 Z<|aG<|Pa aq 6 [0,0] Z Z<|PM 2 Z<|aC Z (fun d=>?_) (fun d=>?_)
  ·refine PK 2 Z<|PR aq 7 [1,0] Z Z<|az (?_);exact ay Z Z ⟨cB (by unfold bE bW;simp only[I,b,m,u,C,M,A,d,ct,cf]),aq.pop⟩
  refine aG<|PK 2 Z<|Qn aq 3 [1,0] Z Z<|ky Z (N Z) (fun E=>?_) (fun E=>?_)
  ·refine PR aq 9 [1,0] Z Z ?_;exact ay Z Z ⟨cB (by unfold bE bW;simp only[I,b,m,u,C,M,A,d,E,ct,cf]),aq.pop⟩
  refine PN 9 Z ?_;exact ay Z Z ⟨cB (by unfold bE bW;simp only[I,b,m,u,C,M,A,d,E,ct,cf]),aq.pop⟩
 refine Ql 5 Z<|S Z (QY Z aq.g0 (n:=5) (vs:=[_,_,_,_,_]) Z) Z<|bh Z (QV Z Z Z) (fun _=>Z) (rV Q _ aq) (fun V aq=>?_);refine S Z (dX Z) Z<|ky Z (N Z) (fun A=>?_) (fun A=>?_)
 ·refine Qn aq 5 [4,0] Z Z<|PM 2 Z<|aC Z (fun F=>?_) (fun F=>?_)
  ·refine PL 7 Z ?_;exact ay Z Z ⟨cB (by unfold bE bW;simp only[I,b,m,u,C,A,F,ct,cf]),aq.pop⟩
  refine aG<|Pa aq 6 [0,0] Z Z<|PM 2 Z<|aC Z (fun d=>?_) (fun d=>?_)
  ·refine PK 2 Z<|PR aq 7 [1,0] Z Z<|az (?_);exact ay Z Z ⟨cB (by unfold bE bW;simp only[I,b,m,u,C,A,F,d,ct,cf]),aq.pop⟩
  refine aG<|PK 2 Z<|Qn aq 3 [1,0] Z Z<|ky Z (N Z) (fun E=>?_) (fun E=>?_)
  ·refine PR aq 9 [1,0] Z Z ?_;exact ay Z Z ⟨cB (by unfold bE bW;simp only[I,b,m,u,C,A,F,d,E,ct,cf]),aq.pop⟩
  refine PN 9 Z ?_;exact ay Z Z ⟨cB (by unfold bE bW;simp only[I,b,m,u,C,A,F,d,E,ct,cf]),aq.pop⟩
 refine PM 8 Z<|aG<|Pa aq 6 [0,0] Z Z<|PM 2 Z<|aC Z (fun d=>?_) (fun d=>?_)
 ·refine PK 2 Z<|PR aq 7 [1,0] Z Z<|az (?_);exact ay Z Z ⟨cB (by unfold bE bW;simp only[I,b,m,u,C,A,d,ct,cf]),aq.pop⟩
 refine aG<|PK 2 Z<|Qn aq 3 [1,0] Z Z<|ky Z (N Z) (fun E=>?_) (fun E=>?_)
 ·refine PR aq 9 [1,0] Z Z ?_;exact ay Z Z ⟨cB (by unfold bE bW;simp only[I,b,m,u,C,A,d,E,ct,cf]),aq.pop⟩
 refine PN 9 Z ?_;exact ay Z Z ⟨cB (by unfold bE bW;simp only[I,b,m,u,C,A,d,E,ct,cf]),aq.pop⟩
theorem Ca {G:Cx} (I:Plain G) {K:KP} {g:XG} {a b c d:Y} (h:dC K g a b c d) (th ix fth fix_:Int) {V:B} {L:Own} (aq:H V K L):aT Tryz.prog G 66 [.agg [a,b,c,d],.agg [.int .i64 th,.int .i64 ix],.agg [.int .i64 fth,.int .i64 fix_]] V fun v V'=>v= .bool (cz g ⟨th,ix⟩ ⟨fth,fix_⟩)/\H V' K L:=by
 have h':=h;obtain⟨hi,ht,hf,ho⟩:=h';refine Qf I Tryz.func66 Z<|PK 2 Z<|kp aq Z (cL Z Z) (fun V b1 aq=>?_);refine kp aq Z (cL Z Z) (fun V b2 aq=>?_);refine kp aq Z (cL Z Z) (fun V b3 aq=>?_);refine OY 5 Z<|S Z (QY Z (aq.get 2 Z) (n:=4) (vs:=[_,_,_,_]) Z) Z<|S Z (QY Z aq.g1 (n:=2) (vs:=[_,_]) Z) Z<|bh Z (QV Z Z Z) (fun _=>Z) (Fj I h _ _ aq) (fun V aq=>?_);refine Ql 3 Z<|kp aq Z (Q0 (cs:=[iZ,iZ,iZ,iZ,iZ])) (fun V b4 aq=>?_);refine db aq Z (Q6 Z Z Z aq.g0 (m:=5) Z Z (cells':=[_,_,_,_,_]) Z) Z (fun V aq=>?_);refine Oh 6 Z<|S Z (QY Z aq.g0 (n:=5) (vs:=[_,_,_,_,_]) Z) Z<|bh Z (QV Z Z Z) (fun _=>Z) (Fl I _ aq) (fun V aq=>?_);refine S Z (dX Z) Z<|PM 2 Z<|aC Z (fun u=>?_) (fun u=>?_)
 ·refine PK 2 Z (S Z (QY Z aq.g1 (n:=2) (vs:=[_,_]) Z) Z (S Z (QU (places:=[(0,1),(1,1)]) (zero:=[iZ,iZ]) (cs:=[_,_]) Z) Z<|S Z (Jt (n:=2) (ca:=[_,_]) (cb:=[_,_]) J Z Z Z Z) Z<|OZ 5 Z ?_));exact ay Z Z ⟨cB (by unfold cz;simp only[u,ct,cf]),aq.pop.pop.pop.pop⟩
 refine aG<|PK 2 Z<|S Z (QY Z (aq.get 3 Z) (n:=4) (vs:=[_,_,_,_]) Z) Z<|S Z (QY Z aq.g1 (n:=2) (vs:=[_,_]) Z) Z<|bh Z (QV Z Z Z) (fun _=>Z) (Fj I h _ _ aq) (fun V aq=>?_);refine Ql 3 Z<|kp aq Z (Q0 (cs:=[iZ,iZ,iZ,iZ,iZ])) (fun V b5 aq=>?_);refine db aq Z (Q6 Z Z Z aq.g0 (m:=5) Z Z (cells':=[_,_,_,_,_]) Z) Z (fun V aq=>?_);refine OY 6 Z<|ky Z (N Z) (fun A=>?_) (fun A=>?_)
 ·refine S Z (QY Z (aq.get 2 Z) (n:=2) (vs:=[_,_]) Z) Z<|S Z (QY Z (aq.get 3 Z) (n:=2) (vs:=[_,_]) Z) Z<|S Z (Fq (n:=2) (ca:=[_,_]) (cb:=[_,_]) J Z Z Z Z) Z<|vQ 1 Z<|ky Z (N Z) (fun C=>?_) (fun C=>?_)
  ·refine S Z (QY Z aq.g0 (n:=5) (vs:=[_,_,_,_,_]) Z) Z<|bh Z (QV Z Z Z) (fun _=>Z) (rV I _ aq) (fun V aq=>?_);refine vQ 1 Z<|ky Z (N Z) (fun E=>?_) (fun E=>?_)
   ·refine Qn aq 6 [1,0,1,1] Z Z<|ky Z (N Z) (fun F=>?_) (fun F=>?_)
    ·refine PR aq 10 [4,0,3,1] Z Z ?_;exact ay Z Z ⟨cB (by unfold cz;simp only[u,A,C,E,F,ct,cf]),aq.pop.pop.pop.pop.pop⟩
    refine PN 10 Z ?_;exact ay Z Z ⟨cB (by unfold cz;simp only[u,A,C,E,F,ct,cf]),aq.pop.pop.pop.pop.pop⟩
   refine PN 17 Z ?_;exact ay Z Z ⟨cB (by unfold cz;simp only[u,A,C,E,ct,cf]),aq.pop.pop.pop.pop.pop⟩
  refine PN 21 Z ?_;exact ay Z Z ⟨cB (by unfold cz;simp only[u,A,C,ct,cf]),aq.pop.pop.pop.pop.pop⟩
 refine PN 26 Z ?_;exact ay Z Z ⟨cB (by unfold cz;simp only[u,A,ct,cf]),aq.pop.pop.pop.pop.pop⟩
theorem uj:Ct Tryz.prog 148 59 3 2:=⟨by kernel_rfl,by kernel_rfl,by kernel_rfl,by kernel_rfl,fun k hk=>by
 match k,hk with
 | [a,b],_=>
  show iv Tryz.prog 59 (.agg<|ints [a,b])=true
  kernel_rfl⟩
theorem JU {ls:List (List cm)} {m1 m b:LM} {i d:Nat} {l:List cm} {x:cm} (h1:lE ls 0 m1=lE (ls.drop i) i b) (hx:ls[i]? =some l) (u:jR i l b=jR i (l.drop d) m) (hy:l[d]? =some x) (h:(eT m x.ints).isSome=false):lE ls 0 m1=none:=by
 rw[h1,cD hx];show(jR i l b).bind _=none;rw[u,cD hy];show(bif (eT m x.ints).isSome then _ else none).bind _=none;rw[h];rfl
theorem JV {ls:List (List cm)} {m1 m b:LM} {i d:Nat} {l:List cm} {x:cm} (h1:lE ls 0 m1=lE (ls.drop i) i b) (hx:ls[i]? =some l) (u:jR i l b=jR i (l.drop d) m) (hy:l[d]? =some x) (h:(eT m x.ints).isSome=true) (h':bD ((eT m x.ints).getD 0) (.ofNat i)=false):lE ls 0 m1=none:=by
 rw[h1,cD hx];show(jR i l b).bind _=none;rw[u,cD hy];show(bif (eT m x.ints).isSome then(bif bD ((eT m x.ints).getD 0) (.ofNat i) then _ else none) else none).bind _=none;rw[h,h'];rfl
theorem z8 {G:Cx} (hG:Plain G) {K:KP} {g:XG} {a b c d:Y} (h:dC K g a b c d) {V:B} {L:Own} (aq:H V K L):aT Tryz.prog G 67 [.agg [a,b,c,d]] V fun v V'=>v= .bool (dZ g)/\H V' K L:=by
 have h':=h;obtain⟨hi,ht,hf,ho⟩:=h';refine Qf hG Tryz.func67 Z<|PK 2 Z<|kp aq Z (cL Z Z) (fun V b1 aq=>?_);refine OY 5 Z<|LN aq Z yD (fun _=>Z) (fun V b2 aq=>?_);refine Oh 6 Z (Qn aq 2 [1,1] Z Z (S Z (QZ ht Z Z Z (e:=64) Z) Z (OX 4 Z (ba (rg 4 4++rg 18 23) (fun j t V=>∃(i:Nat) (es:List dU) (ck:Nat) (m:LM),j+i=g.threads.length/\eD 2 es m/\nf g.threads 0 []=nf (g.threads.drop i) i m/\t.get 18=some (.int .i64 (.ofNat i))/\H V K ((b2,.map es ck)::(b1,.row [a,b,c,d] 27 false)::L)) (g.threads.length) ⟨0,[],0,[],Z,.nil,Z,Z,aq⟩ ?_))));clear aq;intro j3 t V an hI;obtain⟨i,es,ck,m,ce,hm,ab,a1,aq⟩:=hI;obtain⟨oo,rfl⟩:=an.q1 a1 Z;refine PJ 6 Z<|aC Z (fun ac=>?_) (fun ac=>?_)
 ·refine NA 7 Z ?_;obtain⟨M,aa,bt⟩:=cO ac;refine QQ (e:=64) (m:=1) ht aa Z Z Z Z (fun ch bv a2 bw a3=>?_);have hr21':=a3;obtain⟨ci,rfl,C⟩:=hr21';refine S Z (Q4 aq a2 Z Z) Z<|OY 7 Z<|S Z (QZ C Z Z Z (e:=92) Z) Z<|vQ 1 Z ?_;generalize ak:m=m0 at hm ab;clear ak;refine OX 3 Z (ba ([6,7]++rg 25 15) (fun j t V=>∃(u:Nat) (es:List dU) (ck:Nat) (m:LM),j+u=M.length/\eD 2 es m/\pC i M 0 m0=pC i (M.drop u) u m/\t.get 25=some (.int .i64 (.ofNat u))/\H V K ((b2,.map es ck)::(b1,.row [a,b,c,d] 27 false)::L)) (M.length) ⟨0,es,ck,m0,Z,hm,Z,Z,aq⟩ ?_);clear aq;intro j6 t V an hI;obtain⟨u,es,ck,m,cn,hm,am,a4,aq⟩:=hI;obtain⟨oo,rfl⟩:=an.q1 a4 Z;refine PJ 6 Z<|aC Z (fun ao=>?_) (fun ao=>?_)
  ·refine NA 7 Z ?_;obtain⟨ap,Q,bX⟩:=cO ao;refine QQ (e:=92) (m:=5) C Q Z Z Z Z (fun cp b0 a5 b4 a9=>?_);obtain rfl:=a9;refine S Z (Q5 aq a5 Z Z) Z<|kp aq Z (Q0 (cs:=[iZ,iZ,iZ,iZ,iZ])) (fun V b3 aq=>?_);refine vQ 1 Z<|db aq Z (Q6 Z Z Z aq.g0 (m:=5) Z Z (cells':=[_,_,_,_,_]) Z) Z (fun V aq=>?_);refine OY 4 Z<|S Z (QY Z aq.g0 (n:=5) (vs:=[_,_,_,_,_]) Z) Z<|bh Z (QV Z Z Z) (fun _=>Z) (rV hG _ aq) (fun V aq=>?_);refine PM 2 Z<|aC Z (fun au=>?_) (fun au=>?_)
   ·refine ah Z (Ql 4 Z (S Z (QU (places:=[(0,1),(1,1)]) (zero:=[iZ,iZ]) (cs:=[_,_]) Z) Z<|Qn aq 2 [1,0] Z Z<|Gc uj hm aq (k:=[_,_]) Z Z Z Z Z Z Z (fun V es ck aq hm=>?_)));replace hm:=(show eD 2 es (nO m [Int.ofNat (i+1),Int.ofNat u] ap.loc) from by rw[<-aZ (i:=i) (by have:=ht.bM;omega)];exact hm);refine af<|aH<|Qj 4 Z ?_;have aq:=aq.pop;refine aL ⟨j6-1,by omega,oF,u+1,es,ck,_,by omega,hm,by rw[am,cD Q];show pC i _ (u+1) (vu i m u ap)=_;unfold vu;rw[au];rfl,cI<|aZ (by have:=C.bM;omega),aq⟩
   refine aG<|aH<|Qj 4 Z ?_;have aq:=aq.pop;refine aL ⟨j6-1,by omega,oF,u+1,es,ck,_,by omega,hm,by rw[am,cD Q];show pC i _ (u+1) (vu i m u ap)=_;unfold vu;rw[au];rfl,cI<|aZ (by have:=C.bM;omega),aq⟩
  refine OW 3 Z<|aN<|aH<|Qj 4 Z<|aL ⟨j3-1,by omega,oF,i+1,es,ck,m,by omega,hm,by rw[ab,cD aa];show nf _ (i+1) (pC i M 0 m0)=_;rw[am,eZ<|bx ao];rfl,cI<|aZ (by have:=ht.bM;omega),aq⟩
 refine OW 3 Z<|aN<|Pa aq 5 [3,1] Z Z<|S Z (QZ ho Z Z Z (e:=57) Z) Z<|vQ 1 Z ?_;have U:nf g.threads 0 []=m:=by rw[ab,eZ<|bx ac];rfl
 generalize bm:m=m1 at hm U;clear bm;refine OX 3 Z (ba ([2,8,9,11,12,13]++rg 44 28) (fun j t V=>∃(i:Nat) (es:List dU) (ck:Nat) (m:LM),j+i=g.order.length/\eD 2 es m/\lE g.order 0 m1=lE (g.order.drop i) i m/\t.get 44=some (.int .i64 (.ofNat i))/\H V K ((b2,.map es ck)::(b1,.row [a,b,c,d] 27 false)::L)) (g.order.length) ⟨0,es,ck,m1,Z,hm,Z,Z,aq⟩ ?_);clear aq;intro bo t V an hI;obtain⟨i,es,ck,m,b5,hm,A,bb,aq⟩:=hI;obtain⟨oo,rfl⟩:=an.q1 bb Z;refine PJ 6 Z<|aC Z (fun av=>?_) (fun av=>?_)
 ·refine NA 7 Z ?_;obtain⟨R,E,b6⟩:=cO av;refine QQ (e:=57) (m:=1) ho E Z Z Z Z (fun cr b7 bd b8 be=>?_);have hr47':=be;obtain⟨cv,rfl,T⟩:=hr47';refine S Z (Q4 aq bd Z Z) Z<|OY 7 Z<|S Z (QZ T Z Z Z (e:=59) Z) Z<|vQ 1 Z ?_;generalize ak:m=m0 at hm A;clear ak;refine OX 3 Z (ba ([2,11,12,13]++rg 51 20) (fun j t V=>∃(u:Nat) (es:List dU) (ck:Nat) (m:LM),j+u=R.length/\eD 2 es m/\jR i R m0=jR i (R.drop u) m/\t.get 51=some (.int .i64 (.ofNat u))/\H V K ((b2,.map es ck)::(b1,.row [a,b,c,d] 27 false)::L)) (R.length) ⟨0,es,ck,m0,Z,hm,Z,Z,aq⟩ ?_);clear aq;intro bs t V an hI;obtain⟨u,es,ck,m,b9,hm,F,bi,aq⟩:=hI;obtain⟨oo,rfl⟩:=an.q1 bi Z;refine PJ 6 Z<|aC Z (fun aE=>?_) (fun aE=>?_)
  ·refine NA 6 Z ?_;obtain⟨W,I,ca⟩:=cO aE;refine QQ (e:=59) (m:=2) T I Z Z Z Z (fun cw cb bk cc bl=>?_);obtain rfl:=bl;refine S Z (Q5 aq bk Z Z) Z<|kp aq Z (Q0 (cs:=[iZ,iZ])) (fun V b3 aq=>?_);refine db aq Z (Q6 Z Z Z aq.g0 (m:=2) Z Z (cells':=[_,_]) Z) Z (fun V aq=>?_);refine Oh 6 Z<|S Z (QY Z aq.g0 (n:=2) (vs:=[_,_]) Z) Z<|S Z (Jv uj hm aq.g1 (k:=[_,_]) Z Z Z) Z<|OY 10 Z<|S Z (dX Z) Z<|ky Z (N Z) (fun X=>?_) (fun X=>?_)
   ·refine PN 13 Z<|az<|aK<|az<|bp<|aK<|aK<|az<|bp<|aK<|az (?_);exact ay Z Z ⟨cB (by unfold dZ;rw[show lE g.order 0 (nf g.threads 0 [])=none from by rw[U];exact JU A E F I<|vO X]),aq.pop.pop.pop⟩
   refine PM 6 Z<|aC Z (fun a0=>?_) (fun a0=>?_)
   ·refine Qk 6 Z<|az<|aK<|az<|bp<|aK<|aK<|az<|bp<|aK<|az (?_);exact ay Z Z ⟨cB (by unfold dZ;rw[show lE g.order 0 (nf g.threads 0 [])=none from by rw[U];exact JV A E F I (jN X)<|cd a0]),aq.pop.pop.pop⟩
   refine aG<|ad<|ah Z<|vQ 1 Z<|S Z (QY Z aq.g0 (n:=2) (vs:=[_,_]) Z) Z<|Gb uj hm aq (k:=[_,_]) Z Z Z Z Z Z Z Z Z (fun V es aq hm=>?_);refine af<|aH<|Qj 4 Z ?_;have aq:=aq.pop;refine aL ⟨bs-1,by omega,oF,u+1,es,ck,_,by omega,hm,by rw[F,cD I];show(bif (eT m W.ints).isSome then _ else none)=_;rw[show(eT m W.ints).isSome=true from jN X];show(bif bD ((eT m W.ints).getD 0) (Int.ofNat i) then _ else none)=_;rw[show bD ((eT m W.ints).getD 0) (Int.ofNat i)=true from bF a0];rfl,cI<|aZ (by have:=T.bM;omega),aq⟩
  refine OW 3 Z<|aN<|aH<|Qj 4 Z<|aL ⟨bo-1,by omega,oF,i+1,es,ck,m,by omega,hm,by rw[A,cD E];show(jR i R m0).bind _=_;rw[F,eZ<|bx aE];rfl,cI<|aZ (by have:=ho.bM;omega),aq⟩
 refine OW 3 Z<|aN<|PK 3 Z<|S Z (Ju uj hm aq.g0 Z Z Z Z) Z<|PN 5 Z ?_;exact ay Z Z ⟨cB (by unfold dZ;rw[show lE g.order 0 (nf g.threads 0 [])=some m from by rw[U];exact by rw[A,eZ<|bx av];rfl]),aq.pop.pop⟩
theorem D0 {G:Cx} (b:Plain G) {K:KP} {l:List cq} {v:Y} (h:bI K 5 qQ l v) {V:B} {L:Own} (aq:H V K L):aT Tryz.prog G 107 [v] V fun v V'=>v= .bool (da 14 (.ofNat l.length))/\H V' K L:=by
 refine Qf b Tryz.func107 Z<|PK 8 Z<|S Z (QZ h Z Z Z (e:=92) Z) Z<|PN 5 Z ?_;exact ay Z Z ⟨Z,aq⟩
theorem zX {G:Cx} (Q:Plain G) {K:KP} {l:List (List cq)} {v:Y} {p:List cq->Bool} (h:bI K 1 (RL K 5 qQ) l v) {V:B} {L:Own} (aq:H V K L)
  (A:∀x u V L,H V K L->RL K 5 qQ x [u]->aT Tryz.prog G 107 [u] V fun v V'=>v= .bool (p x)/\H V' K L):aT Tryz.prog G 142 [v,.func 107 [] []] V fun v V'=>v= .int .i64 (fA p l 0)/\H V' K L:=by
 refine Qf Q Tryz.func142 Z<|OV 9 Z<|S Z (QZ h Z Z Z (e:=64) Z) Z<|OX 4 Z ?_;obtain⟨LL1,aq,hLL1⟩:=aq.named;refine ba ([4,5]++rg 8 11) (fun j t V=>∃(i:Nat),j+i=l.length/\fA p l 0=fA p (l.drop i) i/\t.get 8=some (.int .i64 (.ofNat i))/\H V K LL1) (l.length) ⟨0,Z,Z,Z,aq⟩ ?_;clear aq;intro R t V an T;obtain⟨i,hj,he,I,aq⟩:=T;subst hLL1;obtain⟨oo,rfl⟩:=an.q1 I Z;refine PJ 6 Z<|aC Z (fun M=>?_) (fun M=>?_)
 ·refine NA 15 Z ?_;obtain⟨C,b,aa⟩:=cO M;refine QQ (e:=64) (m:=1) h b Z Z Z Z (fun am ab F ac d=>?_);have hr14':=d;obtain⟨ao,rfl,ak⟩:=hr14';refine S Z (Q4 aq F Z Z) Z<|bh Z (QV Z Z Z) (fun _=>Z) (A C _ _ _ aq d) (fun V aq=>?_);refine PM 2 Z<|aC Z (fun E=>?_) (fun E=>?_)
  ·refine Qk 7 Z<|aK<|az<|bp<|aK<|az (?_);exact ay Z Z ⟨cJ (by symm;rw[he,cD b];show(bif p C then _ else _)=_;rw[E];rfl),aq⟩
  refine aG<|aH<|Qj 4 Z<|aL ⟨R-1,by omega,oF,i+1,by omega,by rw[he,cD b];show(bif p C then _ else _)=_;rw[E];rfl,cI<|aZ (by have:=h.bM;omega),aq⟩
 refine OW 3 Z<|aN<|Qk 6 Z ?_;exact ay Z Z ⟨cJ (by symm;rw[he,eZ<|bx M];rfl),aq⟩
theorem tW {G:Cx} (b:Plain G) {K:KP} {l:List (List cq)} {v:Y} (h:bI K 1 (RL K 5 qQ) l v) {V:B} {L:Own} (aq:H V K L):aT Tryz.prog G 106 [v,.func 107 [] []] V fun v V'=>v= .bool (l.any fun x=>da 14 (.ofNat x.length))/\H V' K L:=by
 refine Qf b Tryz.func106 Z (PK 9 Z (bh Z (QV Z Z Z) (fun _=>Z) (zX b h aq (p:=fun x=>da 14 (.ofNat x.length)) fun x u V L aq d=>by obtain⟨w,hw,hk⟩:=d;cases hw;exact D0 b hk aq) (fun V aq=>?_)));refine PN 5 Z ?_;exact ay Z Z ⟨cB<|AW _ _,aq⟩
theorem GS {G:Cx} (A:Plain G) {K:KP} {g:XG} {a b c d:Y} (h:dC K g a b c d) {V:B} {L:Own} (aq:H V K L):aT Tryz.prog G 64 [.agg [a,b,c,d]] V fun v V'=>v= .bool (dV g)/\H V' K L:=by
 have h':=h;obtain⟨hi,C,hf,ho⟩:=h';refine Qf A Tryz.func64 Z<|PK 2 Z<|kp aq Z (cL Z Z) (fun V b1 aq=>?_);refine OY 5 Z<|Qn aq 2 [1,0] Z Z<|S Z (QZ C Z Z Z (e:=64) Z) Z<|vQ 1 Z<|ky Z (N Z) (fun u=>?_) (fun u=>?_)
 ·refine PN 14 Z ?_;exact ay Z Z ⟨cB (by unfold dV;simp only[u,ct,cf]),aq.pop⟩
 refine Qn aq 2 [0,0] Z Z<|S Z (QZ hi Z Z Z (e:=2) Z) Z<|Ql 2 Z<|ky Z (N Z) (fun m=>?_) (fun m=>?_)
 ·refine PN 8 Z ?_;exact ay Z Z ⟨cB (by unfold dV;simp only[u,m,ct,cf]),aq.pop⟩
 refine Qn aq 2 [1,0] Z Z<|bh Z (QV Z Z Z) (fun _=>Z) (tW A C aq) (fun V aq=>?_);refine PN 5 Z ?_;exact ay Z Z ⟨cB (by unfold dV;simp only[u,m,ct,cf]),aq.pop⟩
theorem KV {G:Cx} (hG:Plain G) {K:KP} {g:XG} {a b c d:Y} (h:dC K g a b c d) {V:B} {L:Own} (aq:H V K L):aT Tryz.prog G 36 [.agg [a,b,c,d]] V fun v V'=>v= .int .i64 (cy g)/\H V' K L:=by
 have h':=h;obtain⟨hi,ht,hf,ho⟩:=h';refine Qf hG Tryz.func36 Z<|PK 2 Z<|kp aq Z (cL Z Z) (fun V b1 aq=>?_);refine Oh 6 Z<|S Z (QY Z aq.g0 (n:=4) (vs:=[_,_,_,_]) Z) Z<|bh Z (QV Z Z Z) (fun _=>Z) (GS hG h aq) (fun V aq=>?_);refine PM 2 Z<|aC Z (fun h8=>?_) (fun h8=>?_)
 ·refine PL 7 Z ?_;exact ay Z Z ⟨cJ (by symm;unfold cy;rw[h8];rfl),aq.pop⟩
 refine aG<|Pa aq 5 [2,0] Z Z<|S Z (QZ hf Z Z Z (e:=57) Z) Z<|Qn aq 2 [1,0] Z Z<|S Z (QZ ht Z Z Z (e:=64) Z) Z<|vQ 1 Z<|ky Z (N Z) (fun E=>?_) (fun E=>?_)
 ·refine OZ 18 Z ?_;exact ay Z Z ⟨cJ (by symm;unfold cy;rw[h8,cd E];rfl),aq.pop⟩
 refine Qn aq 2 [3,0] Z Z<|S Z (QZ ho Z Z Z (e:=57) Z) Z<|Qn aq 2 [0,0] Z Z<|S Z (QZ hi Z Z Z (e:=2) Z) Z<|PM 4 Z<|aC Z (fun M=>?_) (fun M=>?_)
 ·refine PL 7 Z ?_;exact ay Z Z ⟨cJ (by symm;unfold cy;rw[h8,bF E,cd M];rfl),aq.pop⟩
 refine aG<|Pa aq 5 [1,0] Z Z<|S Z (QZ ht Z Z Z (e:=64) Z) Z<|OX 4 Z ?_;obtain⟨LL1,aq,hLL1⟩:=aq.named;refine ba (rg 2 5++rg 28 46) (fun j t V=>∃(i:Nat),j+i=g.threads.length/\jP g g.threads g.from_ 0=jP g (g.threads.drop i) (g.from_.drop i) i/\t.get 28=some (.int .i64 (.ofNat i))/\H V K LL1) (g.threads.length) ⟨0,Z,Z,Z,aq⟩ ?_;clear aq;intro j6 t V an hI;obtain⟨i,b7,aa,av,aq⟩:=hI;subst hLL1;obtain⟨oo,rfl⟩:=an.q1 av Z;refine PJ 6 Z<|aC Z (fun ac=>?_) (fun ac=>?_)
 ·refine NA 7 Z ?_;obtain⟨u,F,aE⟩:=cO ac;refine QQ (e:=64) (m:=1) ht F Z Z Z Z (fun b8 bo a0 bs a1=>?_);have hr31':=a1;obtain⟨b9,rfl,U⟩:=hr31';refine S Z (Q4 aq a0 Z Z) Z<|Oh 7 Z<|Qn aq 3 [2,0] Z Z ?_;obtain⟨A,C⟩:=cF (show i<g.from_.length from by rw[cQ<|bF E];exact aE);refine QQ (e:=57) (m:=1) hf C Z Z Z Z (fun ca bt a2 bv a3=>?_);have hr36':=a3;obtain⟨cb,rfl,a4⟩:=hr36';refine S Z (Q4 aq a2 Z Z) Z<|S Z (QZ a4 Z Z Z (e:=59) Z) Z<|vQ 1 Z<|S Z (QZ U Z Z Z (e:=92) Z) Z<|PM 3 Z<|aC Z (fun Q=>?_) (fun Q=>?_)
  ·refine Qk 6 Z<|az<|aK<|az<|bp<|aK<|az (?_);exact ay Z Z ⟨cJ (by symm;unfold cy;rw[h8,bF E,bF M,show jP g g.threads g.from_ 0=false from by rw[aa,cD F,cD C];show(bif bD _ _ then _ else false)=false;rw[cd Q];rfl];rfl),aq.pop⟩
  refine aG<|PK 3 Z<|S Z (QZ U Z Z Z (e:=92) Z) Z<|OX 4 Z ?_;obtain⟨LL2,aq,hLL2⟩:=aq.named;refine ba ([2,5,6]++rg 44 29) (fun j t V=>∃(R:Nat),j+R=u.length/\oa g i u A 0=oa g i (u.drop R) (A.drop R) R/\t.get 44=some (.int .i64 (.ofNat R))/\H V K LL2) (u.length) ⟨0,Z,Z,Z,aq⟩ ?_;clear aq;intro bm t V an hI;obtain⟨R,bw,W,a5,aq⟩:=hI;subst hLL2;obtain⟨oo,rfl⟩:=an.q1 a5 Z;refine PJ 6 Z<|aC Z (fun ao=>?_) (fun ao=>?_)
  ·refine NA 7 Z ?_;obtain⟨ab,X,am⟩:=cO ao;refine QQ (e:=92) (m:=5) U X Z Z Z Z (fun cc bX a9 b0 bb=>?_);obtain rfl:=bb;refine S Z (Q5 aq a9 Z Z) Z<|kp aq Z (Q0 (cs:=[iZ,iZ,iZ,iZ,iZ])) (fun V b2 aq=>?_);refine vQ 1 Z<|db aq Z (Q6 Z Z Z aq.g0 (m:=5) Z Z (cells':=[_,_,_,_,_]) Z) Z (fun V aq=>?_);refine PM 2 Z<|ai<|aX (l:=zp [0,1,2,3,4,5,6,7,8,9,10,11,12,13,14,15,16,17,18,19,20,21,22]) J J<|al Z Z (QY Z aq.g0 (n:=5) (vs:=[_,_,_,_,_]) Z) Z<|Qo aq 2 [0,1] Z Z<|al Z Z (QZ hi Z Z Z (e:=2) Z) Z<|fe Z Z (QV Z Z Z) (fun _=>Z) (z7 hG _ _ aq) (fun V aq=>?_);refine⟨bq,?_⟩;refine al Z Z (dX Z) Z<|oU Z Z (N Z) (fun _=>Z) (fun ak=>?_) (fun ak=>?_)
   ·refine PQ 24 Z<|aD<|aK<|az<|bp<|aK<|aK<|az<|bp<|aK<|az (?_);exact ay Z Z ⟨cJ (by symm;unfold cy;rw[h8,bF E,bF M,show jP g g.threads g.from_ 0=false from by rw[aa,cD F,cD C];show(bif bD _ _ then(bif oa g i u A 0 then _ else false) else false)=false;rw[bF Q,show oa g i u A 0=false from by rw[W];obtain⟨T,I⟩:=cF (show R<A.length from by rw[cQ<|bF Q];exact am);rw[cD X,cD I];show(bif wW g i R ab T then _ else false)=false;rw[show wW g i R ab T=false from by unfold wW;rw[vO ak];rfl];rfl];rfl];rfl),aq.pop.pop⟩
   refine al Z Z (QY Z aq.g1 (n:=4) (vs:=[_,_,_,_]) Z) Z (Qm 3 Z (al Z Z (QU (places:=[(0,1),(1,1)]) (zero:=[iZ,iZ]) (cs:=[_,_]) Z) Z<|Qo aq 3 [2,1] Z Z<|QR (e:=57) (m:=1) hf C Z Z Z Z Z (fun ce b3 bd b4 be=>?_)));have hr64':=be;obtain⟨ch,rfl,bi⟩:=hr64';refine al Z Z (Q4 aq bd Z Z) Z<|wQ 1 Z ?_;obtain⟨T,I⟩:=cF (show R<A.length from by rw[cQ<|bF Q];exact am);refine QR (e:=59) (m:=2) bi I Z Z Z Z Z (fun ci b5 bk b6 bl=>?_);obtain rfl:=bl;refine al Z Z (Q5 aq bk Z Z) Z<|fe Z Z (QV Z Z Z) (fun _=>Z) (Ca hG h _ _ _ _ aq) (fun V aq=>?_);refine⟨bq,?_⟩;refine al Z Z (dX Z) Z<|PQ 3 Z<|aC Z (fun ap=>?_) (fun ap=>?_)
   ·refine Qk 6 Z<|aK<|az<|bp<|aK<|aK<|az<|bp<|aK<|az (?_);exact ay Z Z ⟨cJ (by symm;unfold cy;rw[h8,bF E,bF M,show jP g g.threads g.from_ 0=false from by rw[aa,cD F,cD C];show(bif bD _ _ then(bif oa g i u A 0 then _ else false) else false)=false;rw[bF Q,show oa g i u A 0=false from by rw[W];rw[cD X,cD I];show(bif wW g i R ab T then _ else false)=false;rw[show wW g i R ab T=false from by unfold wW;rw[jN ak,<-aZ (i:=i) (by have:=ht.bM;omega)];exact vO ap];rfl];rfl];rfl),aq.pop.pop⟩
   refine aG<|aH<|Qj 4 Z ?_;have aq:=aq.pop;refine aL ⟨bm-1,by omega,oF,R+1,by omega,by rw[W,cD X,cD I];show(bif wW g i R ab T then _ else false)=_;rw[show wW g i R ab T=true from by unfold wW;rw[jN ak,<-aZ (i:=i) (by have:=ht.bM;omega)];exact jN ap];rfl,cI<|aZ (by have:=U.bM;omega),aq⟩
  refine OW 3 Z<|aN<|aH<|Qj 4 Z<|aL ⟨j6-1,by omega,oF,i+1,by omega,by rw[aa,cD F,cD C];show(bif bD _ _ then(bif oa g i u A 0 then _ else false) else false)=_;rw[bF Q,show oa g i u A 0=true from by rw[W,eZ<|bx ao];rfl];rfl,cI<|aZ (by have:=ht.bM;omega),aq⟩
 refine OW 3 Z<|aN<|OV 3 Z<|S Z (QY Z aq.g0 (n:=4) (vs:=[_,_,_,_]) Z) Z<|bh Z (QV Z Z Z) (fun _=>Z) (z8 hG h aq) (fun V aq=>?_);refine S Z (dX Z) Z<|PM 2 Z<|aC Z (fun au=>?_) (fun au=>?_)
 ·refine PL 7 Z ?_;exact ay Z Z ⟨cJ (by symm;unfold cy;rw[h8,bF E,bF M,show jP g g.threads g.from_ 0=true from by rw[aa,eZ<|bx ac];rfl,vO au];rfl),aq.pop⟩
 refine PL 8 Z ?_;exact ay Z Z ⟨cJ (by symm;unfold cy;rw[h8,bF E,bF M,show jP g g.threads g.from_ 0=true from by rw[aa,eZ<|bx ac];rfl,jN au];rfl),aq.pop⟩
theorem RL.mono {α:Type} {K K':KP} (hk:KP.le K K') {m:Nat} {R:α->List Y->Prop} {l:List α} {vs:List Y} (h:RL K m R l vs):RL K' m R l vs:=let ⟨v,h1,b⟩:=h;⟨v,h1,b.mono hk fun _ _ h=>h⟩
theorem dC.mono {K K':KP} (hk:KP.le K K') {g:XG} {a b c d:Y} (h:dC K g a b c d):dC K' g a b c d:=
 ⟨h.init.mono hk fun _ _ h=>h,h.threads.mono hk fun _ _ h=>h.mono hk,h.from_.mono hk fun _ _ h=>h.mono hk,h.order.mono hk fun _ _ h=>h.mono hk⟩
theorem tN {G:Cx} (b:Plain G) {K:KP} (x:Int) {V:B} {L:Own} (aq:H V K L):aT Tryz.prog G 143 [.int .i64 x] V fun v V'=>v= .bool false/\H V' K L:=by
 refine Qf b Tryz.func143 Z<|Qk 14 Z ?_;exact ay Z Z ⟨cB<|LK x,aq⟩
theorem yu {G:Cx} (m:Plain G) {K:KP} (x y:Int) {V:B} {L:Own} (aq:H V K L):aT Tryz.prog G 114 [.int .i64 x,.int .i64 y] V fun v V'=>v= .int .i64 (eh x y)/\H V' K L:=by
 refine Qf m Tryz.func114 Z<|PK 8 Z<|bh Z (QV Z Z Z) (fun _=>Z) (tN m _ aq) (fun V aq=>?_);refine OY 6 Z<|bh Z (QV Z Z Z) (fun _=>Z) (tN m _ aq) (fun V aq=>?_);refine Oh 27 Z<|PM 2 Z<|aC Z (fun b=>?_) (fun b=>?_)
 ·refine PL 7 Z ?_;exact ay Z Z ⟨cJ (by unfold eh;rw[b];rfl),aq⟩
 refine aG<|PJ 8 Z<|aC Z (fun d=>?_) (fun d=>?_)
 ·refine PL 7 Z ?_;exact ay Z Z ⟨cJ (by unfold eh;rw[b,d];rfl),aq⟩
 refine PL 8 Z ?_;exact ay Z Z ⟨cJ (by unfold eh;rw[b,d];rfl),aq⟩
theorem GN {G:Cx} (m:Plain G) {K:KP} {x y:Int} {p q:Y} (b:cX K p [.int .i64 x]) (d:cX K q [.int .i64 y]) {V:B} {L:Own} (aq:H V K L):aT Tryz.prog G 113 [p,q] V fun v V'=>v= .int .i64 (eh x y)/\H V' K L:=by
 refine Qf m Tryz.func113 Z<|PK 7 Z<|S Z (Q4 aq b Z Z) Z<|S Z (Q4 aq d Z Z) Z<|bh Z (QV Z Z Z) (fun _=>Z) (yu m _ _ aq) (fun V aq=>?_);refine PN 4 Z ?_;exact ay Z Z ⟨Z,aq⟩
theorem qa {G:Cx} (m:Plain G) {K:KP} {x y:Int} {b d e1 e2:Nat} (h1:K b (.row [.int .i64 x] e1 false)) (u:K d (.row [.int .i64 y] e2 false)):tR Tryz.prog G K (eh x y) [.func 113 [] [.ptr b 0,.ptr d 0]]:=⟨113,_,Z,by kernel_rfl,fun V L aq=>GN m (fg h1) (fg u) aq⟩
theorem gx {G:Cx} (m:Plain G) {K:KP} (x y:Int) {V:B} {L:Own} (aq:H V K L):aT Tryz.prog G 78 [.int .i64 x,.int .i64 y] V fun v V'=>∃b d,v= .func 113 [] [.ptr b 0,.ptr d 0]/\H V' K ((d,.row [.int .i64 y] 3 false)::(b,.row [.int .i64 x] 3 false)::L):=by
 refine Qf m Tryz.func78 Z<|PK 2 Z<|kp aq Z (cL Z Z) (fun V b aq=>?_);refine kp aq Z (cL Z Z) (fun V d aq=>?_);refine PN 10 Z ?_;exact ay Z Z ⟨_,_,Z,aq⟩
theorem qg {G:Cx} (b:Plain G) {K:KP} (x:Int) {V:B} {L:Own} (aq:H V K L):aT Tryz.prog G 145 [.int .i64 x] V fun v V'=>v= .bool false/\H V' K L:=by
 refine Qf b Tryz.func145 Z<|Qk 14 Z ?_;exact ay Z Z ⟨cB<|LK x,aq⟩
theorem tL {G:Cx} (m:Plain G) {K:KP} (x y:Int) {V:B} {L:Own} (aq:H V K L):aT Tryz.prog G 120 [.int .i64 x,.int .i64 y] V fun v V'=>v= .int .i64 (eh x y)/\H V' K L:=by
 refine Qf m Tryz.func120 Z<|PK 8 Z<|bh Z (QV Z Z Z) (fun _=>Z) (qg m _ aq) (fun V aq=>?_);refine OY 6 Z<|bh Z (QV Z Z Z) (fun _=>Z) (qg m _ aq) (fun V aq=>?_);refine Oh 27 Z<|PM 2 Z<|aC Z (fun b=>?_) (fun b=>?_)
 ·refine PL 7 Z ?_;exact ay Z Z ⟨cJ (by unfold eh;rw[b];rfl),aq⟩
 refine aG<|PJ 8 Z<|aC Z (fun d=>?_) (fun d=>?_)
 ·refine PL 7 Z ?_;exact ay Z Z ⟨cJ (by unfold eh;rw[b,d];rfl),aq⟩
 refine PL 8 Z ?_;exact ay Z Z ⟨cJ (by unfold eh;rw[b,d];rfl),aq⟩
theorem B7 {G:Cx} (m:Plain G) {K:KP} {x y:Int} {p q:Y} (b:cX K p [.int .i64 x]) (d:cX K q [.int .i64 y]) {V:B} {L:Own} (aq:H V K L):aT Tryz.prog G 159 [p,q] V fun v V'=>v= .int .i64 (eh x y)/\H V' K L:=by
 refine Qf m Tryz.func159 Z<|PK 7 Z<|S Z (Q4 aq b Z Z) Z<|S Z (Q4 aq d Z Z) Z<|bh Z (QV Z Z Z) (fun _=>Z) (tL m _ _ aq) (fun V aq=>?_);refine PN 4 Z ?_;exact ay Z Z ⟨Z,aq⟩
theorem IU {G:Cx} (m:Plain G) {K:KP} {x y:Int} {b d e1 e2:Nat} (h1:K b (.row [.int .i64 x] e1 false)) (u:K d (.row [.int .i64 y] e2 false)):tR Tryz.prog G K (eh x y) [.func 159 [] [.ptr b 0,.ptr d 0]]:=⟨159,_,Z,by kernel_rfl,fun V L aq=>B7 m (fg h1) (fg u) aq⟩
theorem wP {G:Cx} (m:Plain G) {K:KP} (x y:Int) {V:B} {L:Own} (aq:H V K L):aT Tryz.prog G 144 [.int .i64 x,.int .i64 y] V fun v V'=>∃b d,v= .func 159 [] [.ptr b 0,.ptr d 0]/\H V' K ((d,.row [.int .i64 y] 2 false)::(b,.row [.int .i64 x] 2 false)::L):=by
 refine Qf m Tryz.func144 Z<|PK 2 Z<|kp aq Z (cL Z Z) (fun V b aq=>?_);refine kp aq Z (cL Z Z) (fun V d aq=>?_);refine PN 10 Z ?_;exact ay Z Z ⟨_,_,Z,aq⟩
theorem pw {G:Cx} (R:Plain G) {K:KP} {l:List Int} {v:Y} {V:B} {L:Own} (aq:H V K L) (h:bI K 1 (tR Tryz.prog G K) l v):aT Tryz.prog G 77 [v] V fun v V'=>v= .int .i64 (Ae l)/\H V' K L:=by
 refine Qf R Tryz.func77 Z<|OV 9 Z<|S Z (QZ h Z Z Z (e:=115) Z) Z<|OX 4 Z ?_;obtain⟨LL1,aq,hLL1⟩:=aq.named;refine ba ([2,4,5]++rg 8 10) (fun j t V=>∃(i:Nat),j+i=l.length/\Ae l=Ae (l.drop i)/\t.get 8=some (.int .i64 (.ofNat i))/\H V K LL1) (l.length) ⟨0,Z,Z,Z,aq⟩ ?_;clear aq;intro T t V an U;obtain⟨i,am,u,M,aq⟩:=U;subst hLL1;obtain⟨oo,rfl⟩:=an.q1 M Z;refine PJ 6 Z<|aC Z (fun Q=>?_) (fun Q=>?_)
 ·refine NA 6 Z ?_;obtain⟨E,b,aa⟩:=cO Q;refine QQ (e:=115) (m:=1) h b Z Z Z Z (fun ao ab F ac I=>?_);obtain⟨f10,ak,rfl,A,d⟩:=I;refine S Z (Q4 aq F Z Z) Z<|OY 6 Z<|bh Z (aR Z Z Z A) (fun _=>Z) (d _ _ aq) (fun V aq=>?_);refine PM 9 Z<|aC Z (fun C=>?_) (fun C=>?_)
  ·refine Qk 7 Z<|aK<|az<|bp<|aK<|az (?_);exact ay Z Z ⟨cJ (by symm;rw[u,cD b];show(bif bD E 0 then _ else _)=_;rw[cd C];rfl),aq⟩
  refine aG<|aH<|Qj 4 Z<|aL ⟨T-1,by omega,oF,i+1,by omega,by rw[u,cD b];show(bif bD E 0 then _ else _)=_;rw[bF C];rfl,cI<|aZ (by have:=h.bM;omega),aq⟩
 refine OW 3 Z<|aN<|Qk 6 Z ?_;exact ay Z Z ⟨cJ (by symm;rw[u,eZ<|bx Q];rfl),aq⟩
theorem wO {G:Cx} (b:Plain G) {K:KP} (x y:cq) {V:B} {L:Own} (aq:H V K L):aT Tryz.prog G 116 [.agg [.int .i64 x.kind,.int .i64 x.loc,.int .i64 x.order,.int .i64 x.read,.int .i64 x.write],.agg [.int .i64 y.kind,.int .i64 y.loc,.int .i64 y.order,.int .i64 y.read,.int .i64 y.write]] V fun v V'=>v= .int .i64 (mU x y)/\H V' K L:=by
 refine Qf b Tryz.func116 Z<|PK 2 Z<|kp aq Z (cL Z Z) (fun V b1 aq=>?_);refine kp aq Z (cL Z Z) (fun V b2 aq=>?_);refine PM 3 Z (ai (aX (l:=[(0,[]),(1,[]),(2,[]),(3,[]),(5,[]),(6,[]),(7,[]),(8,[]),(10,[]),(11,[]),(12,[]),(13,[]),(15,[]),(16,[]),(17,[]),(18,[]),(20,[]),(21,[]),(22,[]),(23,[]),(4,[6,8,11,13,16,18,21,23]),(9,[11,13,16,18,21,23]),(14,[16,18,21,23]),(19,[21,23]),(24,[]),(25,[]),(26,[]),(27,[])]) J J<|Qo aq 20 [0,1,0,0,1,1,1,0,2,1,2,0,3,1,3,0,4,1,4,0] Z Z<|fl Z Z (QV Z Z Z) (fun _=>Z) (gx b _ _ aq) ?_));rintro _ V ⟨C,E,rfl,aq⟩;refine⟨(aV (a7 Z Z Z Z Z (QX Z (aq.get 3 Z) Z)<|cZ _ _)<|aV (a7 Z Z Z Z Z (QX Z (aq.get 2 Z) Z)<|cZ _ _)<|aV (a7 Z Z Z Z Z (QX Z (aq.get 3 Z) Z)<|cZ _ _)<|aV (a7 Z Z Z Z Z (QX Z (aq.get 2 Z) Z)<|cZ _ _)<|aV (a7 Z Z Z Z Z (QX Z (aq.get 3 Z) Z)<|cZ _ _)<|aV (a7 Z Z Z Z Z (QX Z (aq.get 2 Z) Z)<|cZ _ _)<|aV (a7 Z Z Z Z Z (QX Z (aq.get 3 Z) Z)<|cZ _ _)<|aV (a7 Z Z Z Z Z (QX Z (aq.get 2 Z) Z)<|cZ _ _) bq),?_⟩;refine fl Z Z (QV Z Z Z) (fun _=>Z) (gx b _ _ aq) ?_;rintro _ V ⟨F,I,rfl,aq⟩;refine⟨(aV (a7 Z Z Z Z Z (QX Z (aq.get 5 Z) Z)<|cZ _ _)<|aV (a7 Z Z Z Z Z (QX Z (aq.get 4 Z) Z)<|cZ _ _)<|aV (a7 Z Z Z Z Z (QX Z (aq.get 5 Z) Z)<|cZ _ _)<|aV (a7 Z Z Z Z Z (QX Z (aq.get 4 Z) Z)<|cZ _ _)<|aV (a7 Z Z Z Z Z (QX Z (aq.get 5 Z) Z)<|cZ _ _)<|aV (a7 Z Z Z Z Z (QX Z (aq.get 4 Z) Z)<|cZ _ _) bq),?_⟩;refine fl Z Z (QV Z Z Z) (fun _=>Z) (gx b _ _ aq) ?_;rintro _ V ⟨Q,R,rfl,aq⟩;refine⟨(aV (a7 Z Z Z Z Z (QX Z (aq.get 7 Z) Z)<|cZ _ _)<|aV (a7 Z Z Z Z Z (QX Z (aq.get 6 Z) Z)<|cZ _ _)<|aV (a7 Z Z Z Z Z (QX Z (aq.get 7 Z) Z)<|cZ _ _)<|aV (a7 Z Z Z Z Z (QX Z (aq.get 6 Z) Z)<|cZ _ _) bq),?_⟩;refine fl Z Z (QV Z Z Z) (fun _=>Z) (wP b _ _ aq) ?_;rintro _ V ⟨T,d,rfl,aq⟩;refine⟨(aV (a7 Z Z Z Z Z (QX Z (aq.get 9 Z) Z)<|cZ _ _)<|aV (a7 Z Z Z Z Z (QX Z (aq.get 8 Z) Z)<|cZ _ _) bq),?_⟩;refine fl Z Z (QV Z Z Z) (fun _=>Z) (wP b _ _ aq) ?_;rintro _ V ⟨u,A,rfl,aq⟩;refine⟨bq,?_⟩;refine tT aq Z Z (cM (e:=115) (m:=1) (z:=[.nilFunc]) (cs:=[.func 113 [] [.ptr C 0,.ptr E 0],.func 113 [] [.ptr F 0,.ptr I 0],.func 113 [] [.ptr Q 0,.ptr R 0],.func 159 [] [.ptr T 0,.ptr d 0],.func 159 [] [.ptr u 0,.ptr A 0]]) J J J J (by rfl)) (fun _=>Z) (fun V aa aq=>?_);have hq:=aq.keeps (M:=[_,_,_,_,_,_,_,_,_,_,_,_,_])
 refine fe Z Z (QV Z Z Z) (fun _=>Z) (my<|pw b hq<|eG.slice (eG.cons (qa b (KP.bS 10 Z)<|KP.bS 9 Z)<|eG.cons (qa b (KP.bS 8 Z)<|KP.bS 7 Z)<|eG.cons (qa b (KP.bS 6 Z)<|KP.bS 5 Z)<|eG.cons (IU b (KP.bS 4 Z)<|KP.bS 3 Z)<|eG.cons (IU b (KP.bS 2 Z)<|KP.bS 1 Z) eG.nil) (KP.bS 0 Z) Z (nR_ _) (by decide)) (fun V aq=>?_);clear hq;refine⟨bq,?_⟩;refine PQ 3 Z<|aD ?_;exact ay Z Z ⟨Z,aq⟩
theorem BZ {G:Cx} (b:Plain G) {K:KP} (x y:cm) {V:B} {L:Own} (aq:H V K L):aT Tryz.prog G 119 [.agg [.int .i64 x.bX,.int .i64 x.index],.agg [.int .i64 y.bX,.int .i64 y.index]] V fun v V'=>v= .int .i64 (nu x y)/\H V' K L:=by
 refine Qf b Tryz.func119 Z<|PK 2 Z<|kp aq Z (cL Z Z) (fun V b1 aq=>?_);refine kp aq Z (cL Z Z) (fun V b2 aq=>?_);refine PM 3 Z (ai (aX (l:=[(0,[]),(1,[]),(2,[]),(3,[]),(5,[]),(6,[]),(7,[]),(8,[]),(4,[6,8]),(9,[]),(10,[]),(11,[]),(12,[])]) J J<|Qo aq 8 [0,1,0,0,1,1,1,0] Z Z<|fl Z Z (QV Z Z Z) (fun _=>Z) (gx b _ _ aq) ?_));rintro _ V ⟨d,u,rfl,aq⟩;refine⟨(aV (a7 Z Z Z Z Z (QX Z (aq.get 3 Z) Z)<|cZ _ _)<|aV (a7 Z Z Z Z Z (QX Z (aq.get 2 Z) Z)<|cZ _ _) bq),?_⟩;refine fl Z Z (QV Z Z Z) (fun _=>Z) (gx b _ _ aq) ?_;rintro _ V ⟨A,C,rfl,aq⟩;refine⟨bq,?_⟩;refine tT aq Z Z (cM (e:=115) (m:=1) (z:=[.nilFunc]) (cs:=[.func 113 [] [.ptr d 0,.ptr u 0],.func 113 [] [.ptr A 0,.ptr C 0]]) J J J J (by rfl)) (fun _=>Z) (fun V b7 aq=>?_);have hq:=aq.keeps (M:=[_,_,_,_,_,_,_]);refine fe Z Z (QV Z Z Z) (fun _=>Z) (my<|pw b hq<|eG.slice (eG.cons (qa b (KP.bS 4 Z)<|KP.bS 3 Z)<|eG.cons (qa b (KP.bS 2 Z)<|KP.bS 1 Z) eG.nil) (KP.bS 0 Z) Z (nR_ _) (by decide)) (fun V aq=>?_);clear hq;refine⟨bq,?_⟩;refine PQ 3 Z<|aD ?_;exact ay Z Z ⟨Z,aq⟩
end Go.Ev
namespace Go.Ev
variable [Env]
section
variable {α:Type} {c:α->α->Int}
theorem uM:∀(l:List α) (p x:α),jt c p (l++[x])=jt c p l++(if c x ((p::l).getLast (by simp))=0 then [] else [x])
 | [],p,x=>by
  show(if c x p=0 then [] else [x])=_;rfl
 | y::l,p,x=>by
  have ih:=uM l y x;show(if c y p=0 then jt c y (l++[x]) else y::jt c y (l++[x]))=(if c y p=0 then jt c y l else y::jt c y l)++_;rw[ih,List.getLast_cons<|List.cons_ne_nil _ _];split<;>simp
theorem q8 {l:List α} {i:Nat} {x y:α} (hy:l[i]? =some y) (hx:l[i+1]? =some x):cC c (l.take (i+2))=cC c (l.take (i+1))++(if c x y=0 then [] else [x]):=by
 cases l with
 | nil=>simp at hy
 | cons p l=>
  have d:l[i]? =some x:=by simpa using hx
  have e1:l.take (i+1)=l.take i++[x]:=by rw[List.take_add_one,d];rfl
  rw[show i+2=(i+1)+1 from Z,List.take_succ_cons,List.take_succ_cons];show p::jt c p (l.take (i+1))=p::(jt c p (l.take i)++_);refine congrArg (p::·) ?_
  have hq:=uM (c:=c) (l.take i) p x;rw[<-e1] at hq
  have b:(p::l.take i).getLast (by simp)=y:=by
   rw[List.getLast_eq_getElem];have hi:i<=l.length:=by have:=(gA.1 d).1;omega
   have m:(p::l.take i)[i]? =some y:=by rw[<-List.take_succ_cons,List.getElem?_take,if_pos oM];exact hy
   obtain⟨h3,h4⟩:=gA.1 m;rw[<-h4];congr 1;simp only[List.length_cons,lT_];omega
  rw[b] at hq;rw[e1];rw[e1] at hq;exact hq
theorem q7:∀(l:List α) (p:α),(jt c p l).length<=l.length
 | [],_=>nR_ _
 | y::l,p=>by
  have:=q7 l y;show(if c y p=0 then jt c y l else y::jt c y l).length<=_;split<;>simp<;>omega
theorem nz (l:List α):(cC c l).length<=l.length:=by
 cases l with
 | nil=>exact nR_ _
 | cons p l=>exact Nat.succ_le_succ (q7 l p)
theorem IJ {A l:List α} {x:α} (b:A.length<l.length):(A++l.drop A.length).set A.length x=(A++[x])++l.drop (A++[x]).length:=by
 rw[List.set_append_right _ _<|nR_ _,Nat.sub_self,List.drop_eq_getElem_cons b,List.set_cons_zero,lQ_,lA_];rfl
end
def XG.nil:XG:=⟨[],[],[],[]⟩
theorem dC.zero {K:KP}:dC K XG.nil .aB .aB .aB .aB:=⟨.inl ⟨Z,Z⟩,.inl ⟨Z,Z⟩,.inl ⟨Z,Z⟩,.inl ⟨Z,Z⟩⟩
structure mZ (K:KP) (ls:List XG) (cells:List Y):Prop where
 len:cells.length=ls.length*4
 at_:∀(i:Nat) (x:XG),ls[i]? =some x->∃a b c d,(cells.drop (i*4)).take 4= [a,b,c,d]/\dC K x a b c d
def RG (K:KP) (g:XG) (vs:List Y):Prop:=∃a b c d,vs= [a,b,c,d]/\dC K g a b c d
theorem RG.mono {K K':KP} (hk:KP.le K K') {g:XG} {vs:List Y} (h:RG K g vs):RG K' g vs:=by
 obtain⟨a,b,c,d,h1,m⟩:=h;exact⟨a,b,c,d,h1,m.mono hk⟩
theorem RG.leaf {K:KP} (g:XG) (vs:List Y) (h:RG K g vs):bJ vs=true:=by
 obtain⟨a,b,c,d,rfl,m⟩:=h;exact ar m.init.leaf.2<|ar m.threads.leaf.2<|ar m.from_.leaf.2<|ar m.order.leaf.2 aS
section
variable {K:KP} {ls:List XG} {cells:List Y}
theorem mZ.mono {K':KP} (h:mZ K ls cells) (hk:KP.le K K'):mZ K' ls cells:=⟨h.len,fun i x hx=>let ⟨a,b,c,d,h1,m⟩:=h.at_ i x hx;⟨a,b,c,d,h1,m.mono hk⟩⟩
theorem mZ.rd (h:mZ K ls cells) {i:Nat} {x:XG} (hx:ls[i]? =some x) {off:Nat} (m:off=i*4):∃a b c d,(cells.drop off).take 4= [a,b,c,d]/\dC K x a b c d/\off+4<=cells.length:=by
 subst m;obtain⟨a,b,c,d,h1,u⟩:=h.at_ i x hx;refine⟨a,b,c,d,h1,u,?_⟩;have:=(gA.1 hx).1;rw[h.len];omega
theorem mZ.wr (h:mZ K ls cells) {i:Nat} {x:XG} (hi:i<ls.length) {a b c d:Y} (A:dC K x a b c d) {off:Nat} (C:off=i*4):mZ K (ls.set i x) (dj [a,b,c,d] cells off):=by
 subst C;have hl:i*4+ [a,b,c,d].length<=cells.length:=by rw[h.len];show i*4+4<=_;omega
 have hs:=pg [a,b,c,d] cells (i*4) hl;rw[hs];have h4: [a,b,c,d].length=4:=rfl;rw[h4];have m:(cells.take (i*4)).length=i*4:=by rw[lT_];have:i*4+4<=cells.length:=hl;omega
 refine⟨by rw[List.length_set,lA_,lA_,m,lD_,h4,h.len];omega,fun j y hy=>?_⟩
 by_cases e:i=j
 ·subst e;rw[List.getElem?_set_self hi] at hy;cases hy;refine⟨a,b,c,d,?_,A⟩;rw[lQ_,List.drop_append,m,Nat.sub_self,List.drop_of_length_le oM];rfl
 rw[List.getElem?_set_ne e] at hy;obtain⟨a',b',c',d',h1,E⟩:=h.at_ j y hy;refine⟨a',b',c',d',?_,E⟩;rw[<-h1];refine List.ext_getElem? fun t=>?_
 rw[List.getElem?_take,List.getElem?_take]
 by_cases u:t<4
 ·rw[if_pos u,if_pos u,List.getElem?_drop,List.getElem?_drop]
  by_cases hj:j<i
  ·rw[lQ_,gL_ (by rw[m];omega),List.getElem?_take,if_pos oM]
  rw[lQ_,gR_ (by rw[m];omega),gR_ (by rw[m,h4];omega),m,h4,List.getElem?_drop];congr 1;omega
 rw[if_neg u,if_neg u]
theorem mZ.QC (h:mZ K ls cells) {k:Nat} (hk:k<=ls.length) {off:Nat} (A:off=k*4) {zs:List Y} (hz:zs=List.replicate ((ls.length-k)*4) .aB):mZ K (ls.take k++List.replicate (ls.length-k) XG.nil) (dj zs cells off):=by
 subst A hz;have hl:k*4+(List.replicate ((ls.length-k)*4) Y.aB).length=cells.length:=by rw[h.len,List.length_replicate,<-Nat.add_mul];congr 1;omega
 rw[pg _ cells (k*4) oM,hl,List.drop_length,List.append_nil];have b:(cells.take (k*4)).length=k*4:=by rw[lT_];omega
 have m:(List.replicate ((ls.length-k)*4) Y.aB).length=(ls.length-k)*4:=List.length_replicate;refine⟨by rw[lA_,lA_,b,m,lT_,List.length_replicate,<-Nat.add_mul];congr 1;omega,fun j y hy=>?_⟩;have u:(ls.take k).length=k:=by rw[lT_];omega
 by_cases hj:j<k
 ·rw[gL_ oM,List.getElem?_take,if_pos hj] at hy;obtain⟨a',b',c',d',h1,C⟩:=h.at_ j y hy;refine⟨a',b',c',d',?_,C⟩;rw[<-h1];refine List.ext_getElem? fun t=>?_
  rw[List.getElem?_take,List.getElem?_take]
  by_cases d:t<4
  ·rw[if_pos d,if_pos d,List.getElem?_drop,List.getElem?_drop,gL_ (by rw[b];omega),List.getElem?_take,if_pos oM]
  rw[if_neg d,if_neg d]
 rw[gR_ oM,u,List.getElem?_replicate] at hy;split at hy
 ·rename_i aa;cases hy;refine⟨.aB,.aB,.aB,.aB,?_,dC.zero⟩;rw[List.drop_append,b,List.drop_of_length_le (by rw[b];omega),List.nil_append,List.drop_replicate,List.take_replicate];rw[Nat.min_eq_left oM];rfl
 cases hy
theorem mZ.lJ (h:mZ K ls cells) {b e n:Nat} {c:nj} (hb:K b (.row cells e false)) (hn:n<=ls.length) (m:D6 4 n c) (hl:ls.length<=1048576):bI K 4 (RG K) (ls.take n) (.slice b 0 n c):=by
 have hlen:(ls.take n).length=n:=by rw[lT_];omega
 refine .inr ⟨b,0,c,cells,e,false,by rw[hlen],by rw[hlen];exact m,hb,by rw[hlen,h.len];omega,by rw[hlen];omega,fun i x hx=>?_⟩;have hi:i<n:=by rw[<-hlen];exact(gA.1 hx).1
 rw[List.getElem?_take,if_pos hi] at hx;rw[nA_];obtain⟨a,b,c,d,h1,u⟩:=h.at_ i x hx;exact⟨a,b,c,d,h1,u⟩
theorem dP.PW {E:Nat} {u:Y} {M:Own} (h:dP 4 E (RG K) ls u M) (hne:ls≠[]):∃b c e cells,u= .slice b 0 ls.length c/\M= [(b,.row cells e false)]/\mZ K ls cells/\(c= .known ls.length∨c= .upto 4)/\ls.length<=1048576:=by
 rcases h with ⟨h,_⟩ | ⟨b,c,cells,e,h1,m,A,h4,h5,C⟩
 ·exact absurd h hne
 refine⟨b,c,e,cells,h1,m,⟨A,fun i x hx=>?_⟩,?_,C⟩
 ·obtain⟨a,b,c,d,e1,e2⟩:=h4 i x hx;exact⟨a,b,c,d,e1,e2⟩
 rcases h5 with h5 | ⟨h5,_⟩
 ·exact .inl h5
 exact .inr h5
end
section
variable {P:Program} {G:Cx} {ev:Operand->Option Y} {V:B} {K:KP} {L:Own}
theorem mw {kk:IntKind} {lo:Operand} {k n cap:Nat} (b:ev lo=some (.int kk (.ofNat k))) (hk:k<=n):cU ev n cap (some lo) none=some (k,n):=by
 have hb:dS ev lo n=some k:=by
  unfold dS;rw[b];dsimp only;rw[show Nat.ble k n=true from by rw[nE_];exact hk];rfl
 unfold cU;dsimp only;rw[hb]
theorem Nq {t e sz b n k:Nat} {kk:IntKind} {c:nj} {x lo:Operand} (m:P.underlying t=some (.slice e)) (hj:(P.info? e).map (·.size)=some sz) (u:c= .known n∨c= .upto sz) (hx:ev x=some (.slice b 0 n c)) (d:ev lo=some (.int kk (.ofNat k))) (hk:k<n):
  ∃c',dq P G ev V (.slice t x (some lo) none none)= .val (.slice b (0+k*sz) (n-k) c') V:=by
 rcases u with rfl | rfl
 ·exact⟨_,Ck m hj hx (mw d oM) hk⟩
 exact⟨_,Cl m hj hx<|mw d oM⟩
theorem Ll {t e b off n:Nat} {c:Call} {cp:nj} {x:Operand} {cells zs:List Y} {z:Y} {e':Nat} (E:c.callee= .builtin .clear) (F:c.argTypes[0]? =some t) (I:c.args.toList= [x]) (hu:P.underlying t=some (.slice e)) (hz:(ew P e)=some z) (u:bZ z=some zs)
  (hx:ev x=some (.slice b off n cp)) (M:n≠0) (hb:V.m.get b=some (.row cells e' false)) (d:bJ (dK zs n)=true) (h1:1<=zs.length) (hl:off+(dK zs n).length<=cells.length):
  dq P G ev V (.call c)= .val (.tuple []) (V.setObj b (.row (dj (dK zs n) cells off) e' false)):=by
 refine gz (by simp[kindOf,E]) ?_
 have he:sm ev [x]=some [.slice b off n cp]:=by
  unfold sm bY;simp only[hx]
 have A:se P V c.argTypes (.slice b off n cp)=some (V.setObj b (.row (dj (dK zs n) cells off) e' false)):=by
  unfold se;rw[F];dsimp only;rw[hu];dsimp only;have C:Nat.beq n 0=false:=by cases n with | zero=>exact absurd rfl M | succ n=>rfl
  rw[C,hz];simp only[Option.bind_some,u,hb,cond_false,d,Bool.true_and,bN];rw[show Nat.ble 1 zs.length=true from by rw[nE_];exact h1,show Nat.ble (off+(dK zs n).length) cells.length=true from by rw[nE_];exact hl];rfl
 simp only[eO,E,I,he,A]
theorem uH {kk:IntKind} {hi:Operand} {k n cap:Nat} (b:ev hi=some (.int kk (.ofNat k))) (hk:k<=cap):cU ev n cap none (some hi)=some (0,k):=by
 have hb:dS ev hi cap=some k:=by
  unfold dS;rw[b];dsimp only;rw[show Nat.ble k cap=true from by rw[nE_];exact hk];rfl
 unfold cU;dsimp only;rw[hb]
theorem Qa {t e sz b n k:Nat} {kk:IntKind} {c:nj} {x hi:Operand} (m:P.underlying t=some (.slice e)) (hj:(P.info? e).map (·.size)=some sz) (u:c= .known n∨c= .upto sz) (hx:ev x=some (.slice b 0 n c)) (d:ev hi=some (.int kk (.ofNat k))) (hk:k<=n) (A:0<n):
  dq P G ev V (.slice t x none (some hi) none)= .val (.slice b 0 k c) V:=by
 rcases u with rfl | rfl
 ·have h:=Ck (P:=P) (G:=G) (V:=V) m hj hx (uH d hk) A;rw[Nat.zero_mul,Nat.add_zero,Nat.sub_zero,Nat.sub_zero] at h;exact h
 have h:=Cl (P:=P) (G:=G) (V:=V) m hj hx (uH d hk);rw[Nat.zero_mul,Nat.add_zero,Nat.sub_zero] at h;exact h
end
section
variable {P:Program} {G:Cx} {n:Nat} {t:D Y} {V:B} {K:KP} {L:Own} {Q:Ex->D Y->B->Prop} {ops:Array Oper} {o:Oper} {l:List Oper}
theorem Is {ty e sz b len k:Nat} {kk:IntKind} {c:nj} {xo lo:Operand} {t':Y->D Y} (hw:bu ops t o=some true) (u:o.op= .slice ty xo (some lo) none none) (A:P.underlying ty=some (.slice e)) (hj:(P.info? e).map (·.size)=some sz) (C:c= .known len∨c= .upto sz)
  (hx:aY G t xo=some (.slice b 0 len c)) (d:aY G t lo=some (.int kk (.ofNat k))) (hk:k<len) (hp:∀v,dc t n o.dst v=some (t' v)) (h:∀c',bG P G ops n l (t' (.slice b (0+k*sz) (len-k) c')) V Q):bG P G ops n (o::l) t V Q:=by
 obtain⟨c',m⟩:=Nq (G:=G) (V:=V) A hj C hx d hk;exact S hw (by rw[u];exact m) (hp _)<|h c'
theorem Mz {b:Nat} {ob':bU} {L':Own} {v:Y} {t':D Y} (d:H V K L) (hu:kb b ob' L L') (hw:bu ops t o=some true) (hv:dq P G (aY G t) V o.op= .val v (V.setObj b ob')) (hp:dc t n o.dst v=some t')
  (h:∀V',H V' K L'->bG P G ops n l t' V' Q):bG P G ops n (o::l) t V Q:=S hw hv hp (h _<|d.P3 hu)
end
theorem mz {x y:Int} (h:bD x y=true):x=y:=by rw[cR] at h;simpa using h
theorem mA {x y:Int} (h:bD x y=false):x≠y:=by rw[cR] at h;simpa using h
theorem yN {α:Type} {A l:List α} {i:Nat} {x:α} (hx:l[i]? =some x) (h:A.length<=i):(A++l.drop A.length)[i]? =some x:=by
 rw[gR_ h,List.getElem?_drop,Nat.add_sub_cancel' h];exact hx
theorem yY {α:Type} {c:α->α->Int} {l:List α} (h:2<=l.length):cC c (l.take (0+1))=l.take (0+1):=by
 cases l with
 | nil=>simp at h
 | cons x l=>rfl
theorem y6 {α:Type} {A l:List α} (h:A.length<=l.length):(A++l.drop A.length).length=l.length:=by rw[lA_,lD_];omega
theorem Jf {α:Type} {A l:List α}:(A++l.drop A.length).take A.length=A:=by simp
end Go.Ev
namespace Go.Ev
section
def dg (d:Nat):Nat:=(nc d).toNat
def ss (m:Nat):List Nat:=(eM 36 m).map dg
def fmtS (b:Nat) (z:Int):List Nat:=(tS b z).map UInt8.toNat
theorem vk (b m:Nat):fmtS b (.ofNat m)=(eM b m).map dg:=by
 unfold fmtS tS;rw[if_neg (by simp)];rw[List.map_map];rfl
theorem HK {b m:Nat} (h:0<m):fmtS b (-(m:Int))=45::(eM b m).map dg:=by
 unfold fmtS tS;rw[if_pos oM,List.map_cons,List.map_map,Int.neg_neg];rfl
theorem vj {m:Nat} (h:m<36):ss m= [dg m]:=by
 unfold ss eM;rw[dif_pos (.inl h)];rfl
theorem xL {m:Nat} (h:36<=m):ss m=ss (m/36)++[dg (m%36)]:=by
 unfold ss;rw[eM,dif_neg oM,List.map_append];rfl
theorem Eg {d:Nat} (h:d<36):dg d<=255:=by
 unfold dg;have:=(nc d).toNat_lt;omega
def y8:List Nat:=[48,49,50,51,52,53,54,55,56,57,97,98,99,100,101,102,103,104,105,106,107,108,109,110,111,112,113,114,115,116,117,118,119,120,121,122]
theorem ue {d:Nat} (h:d<36):y8[d]? =some (dg d):=by
 have key:∀d<36,y8[d]? =some (if d<10 then 48+d else 87+d):=by decide
 unfold dg;rw[gD h,key d h]
def DL:List Nat:=(List.range 100).flatMap fun n=>[48+n/10,48+n%10]
theorem I7 {n:Nat} (h:n<10):(y8.drop n).take (n+1-n)=fmtS 10 (.ofNat n):=by
 rw[vk];unfold eM;rw[dif_pos (.inl h)];have key:∀n<10,(y8.drop n).take (n+1-n)= [48+n]:=by decide
 rw[key n h];show _= [dg n];unfold dg;rw[gD oM,if_pos h]
theorem I6 {n:Nat} (h:n<100) (h2:10<=n):(DL.drop (n*2)).take (n*2+2-n*2)=fmtS 10 (.ofNat n):=by
 rw[vk];unfold eM;rw[dif_neg oM];unfold eM;rw[dif_pos (.inl oM)];have key:∀n<100,(DL.drop (n*2)).take (n*2+2-n*2)= [48+n/10,48+n%10]:=by decide+kernel
 rw[key n h];show _= [dg (n/10),dg (n%10)];unfold dg;rw[gD oM,gD oM,if_pos oM,if_pos oM]
end
variable [Env]
def g8 (c:Nat):Y:=.int .u8 (.ofNat c)
section
variable {P:Program} {G:Cx} {ev:Operand->Option Y} {V:B}
theorem LR {k:Bool} {t:TypeId} {m:Nat} (h:m<2 ^ 64):qn P k .quo t (.int .u64 (.ofNat m)) (.int .u64 (.ofNat 36))=some (.int .u64 (.ofNat (m/36))):=by
 show some (Y.int .u64<|wr .u64<|Int.ofNat (m/36))=_;rw[Lj<|Nat.lt_of_le_of_lt (Nat.div_le_self _ _) h]
theorem LJ {k:Bool} {t:TypeId} {m:Nat} (h:m<2 ^ 64):qn P k .mul t (.int .u64 (.ofNat (m/36))) (.int .u64 (.ofNat 36))=some (.int .u64 (.ofNat (m/36*36))):=by
 show some (Y.int .u64<|wr .u64<|Int.ofNat (m/36*36))=_;rw[Lj<|Nat.lt_of_le_of_lt (Nat.div_mul_le_self _ _) h]
theorem LU {k:Bool} {t:TypeId} {m:Nat} (h:m<2 ^ 64):qn P k .sub t (.int .u64 (.ofNat m)) (.int .u64 (.ofNat (m/36*36)))=some (.int .u64 (.ofNat (m%36))):=by
 show some (Y.int .u64<|wr .u64<|Int.sub (.ofNat m) (.ofNat (m/36*36)))=_
 have e:Int.sub (.ofNat m) (.ofNat (m/36*36))= .ofNat (m%36):=by
  show(m:Int)-((m/36*36:Nat):Int)=((m%36:Nat):Int);omega
 rw[e,Lj oM]
theorem Ad {s d:TypeId} {x:Operand} {j k:IntKind} {n m:Int} (hk:kindOf P (.convert s d x)= .pure) (b:P.underlying s=some (.int j)) (hd:P.underlying d=some (.int k)) (hx:ev x=some (.int j n)) (hw:wr k n=m):dq P G ev V (.convert s d x)= .val (.int k m) V:=by
 rw[<-hw];exact Jr hk b hd hx
theorem wT {t e b n i sz:Nat} {kk:IntKind} {x lo:Operand} (u:P.underlying t=some (.array n e)) (hj:(P.info? e).map (·.size)=some sz) (hx:ev x=some (.ptr b 0)) (d:ev lo=some (.int kk (.ofNat i))) (hi:i<n):
  dq P G ev V (.slice t x (some lo) none none)= .val (.slice b (0+i*sz) (n-i) (.known (n-i))) V:=by
 obtain⟨j,m,rfl⟩:=oM_.1 hj;refine bK Z ?_;have hb:=mw (ev:=ev) (n:=n) (cap:=n) d (Nat.le_of_lt hi)
 have hne:Nat.beq n i=false:=by
  cases h:Nat.beq n i with
  | false=>rfl
  | true=>have:=nB h;omega
 simp only[cS,kL,u,hx,cutAt,hb,cut,m,hne,cond_false]
theorem Ft {s d e b e' i n:Nat} {a:List Nat} {c:nj} {x:Operand} (C:P.underlying s=some (.slice e)) (he:P.underlying e=some (.int .u8)) (hd:P.underlying d=some .string) (hk:kindOf P (.convert s d x)= .read) (hx:ev x=some (.slice b (0+i*1) (n-i) c)) (hn:a.length=n) (hi:i<n) (hb:V.m.get b=some (.row (a.map g8) e' false)) (u:∀c∈a,c<=255):
  dq P G ev V (.convert s d x)= .val (.str<|a.drop i) V:=by
 refine ot hk ?_
 have h0:Nat.beq (n-i) 0=false:=by
  cases h:Nat.beq (n-i) 0 with
  | false=>rfl
  | true=>have:=nB h;omega
 have hl:Nat.ble (0+i*1+(n-i)) (a.map g8).length=true:=by rw[nE_,lM_];omega
 have A:((a.map g8).drop (0+i*1)).take (n-i)=eW (a.drop i):=by
  rw[nA_,Nat.mul_one,<-List.map_drop,tL_ (by simp;omega)];rfl
 simp only[eE,C,hd,he,hx,h0,hb,cond_false,bN,hl,cond_true,cV,di,A,qu _ (fun c E=>u c (List.mem_of_mem_drop E))]
end
end Go.Ev
namespace Go.Ev
variable [Env]
theorem I0 {n:Nat}:∀{l:List Nat},l.Nodup->(∀x∈l,x<n)->l.length<=n:=by
  induction n with
  | zero=>
    intro l _ h;cases l with
    | nil=>exact nR_ _
    | cons x l=>exact absurd (h x<|mS_ ..) (nZ_ _)
  | succ n ih=>
    intro l b h
    by_cases hm:n∈l
    · have h1:=ih (l:=l.erase n) (b.erase n) fun x hx=>by
        have h2:=h x (List.mem_of_mem_erase hx);have d:x≠n:=(b.mem_erase_iff.1 hx).1;omega
      rw[List.length_erase_of_mem hm] at h1;omega
    · have:=ih (l:=l) b fun x hx=>by
        have h2:=h x hx;have d:x≠n:=fun e=>hm (e ▸ hx)
        omega
      omega
theorem L8 {n:Nat} {l:List Nat} (b:l.Nodup) (h:∀x∈l,x<n) (hl:l.length=n) {v:Nat} (hv:v<n):v∈l:=by
  refine Classical.byContradiction fun hm=>?_
  have:=I0 (l:=v::l) (List.nodup_cons.2 ⟨hm,b⟩) fun x hx=>by
    rcases mQ_.1 hx with rfl | hx
    · exact hv
    · exact h x hx
  rw[List.length_cons] at this;omega
structure hZ (cls:List Int) (n:Nat) (ps:List Int):Prop where
  len:ps.length=n
  nd:ps.Nodup
  at_:∀(i:Nat) (x:Int),ps[i]? =some x->∃v:Nat,x= .ofNat (v+1)/\v<n/\cls[v+1]? =cls[i+1]?
theorem hZ.pm {cls:List Int} {n:Nat} {ps:List Int} (h:hZ cls n ps):∃p q:Nat->Nat,Pm n p q/\(∀i,i<n->ps[i]? =some (.ofNat (p i+1)))/\∀i,i<n->cls[p i+1]? =cls[i+1]?:=by
  have hp:∀i,∃v:Nat,i<n->ps[i]? =some (.ofNat (v+1))/\v<n/\cls[v+1]? =cls[i+1]?:=fun i=>by
    by_cases hi:i<n
    · obtain⟨x,hx⟩:=cF (show i<ps.length by rw[h.len];exact hi)
      obtain⟨v,rfl,h1,h2⟩:=h.at_ i x hx;exact⟨v,fun _=>⟨hx,h1,h2⟩⟩
    · exact⟨0,fun h=>absurd h hi⟩
  let p:Nat->Nat:=fun i=>Classical.choose (hp i)
  have d:∀i,i<n->ps[i]? =some (.ofNat (p i+1))/\p i<n/\cls[p i+1]? =cls[i+1]?:=fun i=>Classical.choose_spec (hp i)
  have u:∀i j,i<n->j<n->p i=p j->i=j:=fun i j hi hj e=>by
    have h1:=(d i hi).1;have h2:=(d j hj).1;rw[<-e] at h2;exact(List.getElem?_inj (by rw[h.len];exact hi) h.nd).1<|h1.trans h2.symm
  have hq:∀v,∃i:Nat,v<n->i<n/\p i=v:=fun v=>by
    by_cases hv:v<n
    · have:=L8 (l:=(List.range n).map p) (n:=n) (List.pairwise_map.2<|List.nodup_range.imp_of_mem fun {a b} A hb hne e=>hne (u a b (List.mem_range.1 A) (List.mem_range.1 hb) e))
        (fun x hx=>by
          obtain⟨i,hi,rfl⟩:=List.mem_map.1 hx;exact(d i<|List.mem_range.1 hi).2.1) (by simp) hv
      obtain⟨i,hi,e⟩:=List.mem_map.1 this;exact⟨i,fun _=>⟨List.mem_range.1 hi,e⟩⟩
    · exact⟨0,fun h=>absurd h hv⟩
  let q:Nat->Nat:=fun v=>Classical.choose (hq v)
  have m:∀v,v<n->q v<n/\p (q v)=v:=fun v=>Classical.choose_spec (hq v)
  refine⟨p,q,⟨fun i hi=>(d i hi).2.1,fun v hv=>(m v hv).1,fun i hi=>?_,fun v hv=>(m v hv).2⟩,fun i hi=>(d i hi).1,fun i hi=>(d i hi).2.2⟩;have h1:=(d i hi).2.1;exact u _ _ (m _ h1).1 hi (m _ h1).2
def qc (rc:List Bool->List Int->List (List Int)×List Int) (cls:List Int) (t:Nat) (tk:List Bool) (s:List (List Int)×List Int) (to:Nat):List (List Int)×List Int:=
  bif (bif (tk[to]?).getD false then true else bW (bD ((cls[to]?).getD 0) ((cls[t]?).getD 0))) then s else(s.1++(rc (tk.set to true)<|s.2.set (t-1) (.ofNat to)).1,(rc (tk.set to true)<|s.2.set (t-1) (.ofNat to)).2)
def gd (cls:List Int) (n:Nat):Nat->Nat->List Bool->List Int->List (List Int)×List Int
  | 0,_,_,p=>([p],p)
  | f+1,t,tk,p=>((List.range n).map (· +1)).foldl (qc (gd cls n f (t+1)) cls t tk) ([],p)
structure G5 (cls:List Int) (n t:Nat) (tk:List Bool) (p:List Int):Prop where
  len:p.length=n
  Nb:n<tk.length
  nd:(p.take (t-1)).Nodup
  at_:∀(i:Nat) (x:Int),i<t-1->p[i]? =some x->∃v:Nat,x= .ofNat (v+1)/\v<n/\cls[v+1]? =cls[i+1]?
  tk:∀(i:Nat) (v:Nat),i<t-1->p[i]? =some (.ofNat (v+1))->(tk[v+1]?).getD false=true
section
variable {cls:List Int} {n:Nat}
theorem BR (K:cls.length=n+1):∀(f t:Nat) (tk:List Bool) (p:List Int),1<=t->t+f=n+1->G5 cls n t tk p->(∀x∈(gd cls n f t tk p).1,hZ cls n x)/\(gd cls n f t tk p).2.length=n/\(gd cls n f t tk p).2.take (t-1)=p.take (t-1)
  | 0,t,tk,p,L,G,h=>by
    have e:t-1=n:=by omega
    refine⟨fun x hx=>?_,h.len,Z⟩;obtain rfl:x=p:=List.mem_singleton.1 hx;have hnd:=h.nd;rw[e,tL_ (by rw[h.len];exact nR_ _)] at hnd;refine⟨h.len,hnd,fun i y hy=>h.at_ i y ?_ hy⟩;have:=(gA.1 hy).1;rw[h.len] at this;omega
  | f+1,t,tk,p,L,G,h=>by
    have key:∀(l:List Nat),(∀x∈l,1<=x/\x<=n)->∀(s:List (List Int)×List Int),(∀x∈s.1,hZ cls n x)->s.2.length=n->s.2.take (t-1)=p.take (t-1)->
        (∀x∈(l.foldl (qc (gd cls n f (t+1)) cls t tk) s).1,hZ cls n x)/\(l.foldl (qc (gd cls n f (t+1)) cls t tk) s).2.length=n/\(l.foldl (qc (gd cls n f (t+1)) cls t tk) s).2.take (t-1)=p.take (t-1):=by
      intro l;induction l with
      | nil=>intro _ s h1 A m;exact⟨h1,A,m⟩
      | cons to l ih=>
        intro hl s h1 A m;obtain⟨aa,ab⟩:=hl to (mS_ ..)
        refine ih (fun x hx=>hl x (mC_ _ hx)) (qc (gd cls n f (t+1)) cls t tk s to) ?_ ?_ ?_<;>unfold qc<;>
          cases hk:(tk[to]?).getD false with
          | true=>first | exact h1 | exact A | exact m
          | false=>
            simp only[cond_false];cases hq:bD ((cls[to]?).getD 0) ((cls[t]?).getD 0) with
            | false=>first | exact h1 | exact A | exact m
            | true=>
              simp only[show bW true=false from Z,cond_false]
              have C:∀i,i<t-1->s.2[i]? =p[i]?:=fun i hi=>by
                have:(s.2.take (t-1))[i]? =(p.take (t-1))[i]?:=by rw[m]
                rwa[List.getElem?_take_of_lt hi,List.getElem?_take_of_lt hi] at this
              have u:t-1<s.2.length:=by rw[A];omega
              have I:G5 cls n (t+1) (tk.set to true) (s.2.set (t-1) (.ofNat to)):=by
                have d:∀i,i<t+1-1->i=t-1∨i<t-1:=fun i hi=>by omega
                refine⟨by rw[List.length_set];exact A,by rw[List.length_set];exact h.Nb,?_,fun i x hi hx=>?_,fun i v hi hx=>?_⟩
                · rw[show t+1-1=t-1+1 by omega,List.take_add_one,List.take_set_of_le<|nR_ _,List.getElem?_set_self u,m]
                  refine List.nodup_append.2 ⟨h.nd,List.nodup_cons.2 ⟨(fun h=>by cases h),List.nodup_nil⟩,fun a E b hb e=>?_⟩;have hb:b= .ofNat to:=List.mem_singleton.1 hb;subst e;subst hb;obtain⟨i,hi⟩:=gO_ E
                  have F:i<t-1:=by
                    have:=(gA.1 hi).1;rw[lT_] at this;omega
                  rw[List.getElem?_take_of_lt F] at hi;have:=h.tk i (to-1) F (by rw[show to-1+1=to by omega];exact hi);rw[show to-1+1=to by omega,hk] at this;cases this
                · rcases d i hi with rfl | hi
                  · rw[List.getElem?_set_self u] at hx
                    cases hx;refine⟨to-1,by rw[show to-1+1=to by omega],by omega,?_⟩;rw[show to-1+1=to by omega,show t-1+1=t by omega];obtain⟨a,E⟩:=cF (show to<cls.length by omega);obtain⟨b,hb⟩:=cF (show t<cls.length by omega);rw[E,hb] at hq⊢;rw[cR] at hq;exact congrArg some<|of_decide_eq_true hq
                  · rw[List.getElem?_set_ne oM,C i hi] at hx
                    exact h.at_ i x hi hx
                · rcases d i hi with rfl | hi
                  · rw[List.getElem?_set_self u] at hx
                    have e:to=v+1:=iJ_ (Option.some.inj hx);rw[<-e,List.getElem?_set_self (by have:=h.Nb;omega)];rfl
                  · rw[List.getElem?_set_ne oM,C i hi] at hx
                    have h5:=h.tk i v hi hx
                    by_cases e:to=v+1
                    · rw[<-e,List.getElem?_set_self (by have:=h.Nb;omega)];rfl
                    · rw[List.getElem?_set_ne e];exact h5
              obtain⟨M,Q,R⟩:=BR K f (t+1) (tk.set to true) (s.2.set (t-1) (.ofNat to)) oM oM I
              first
              | exact fun x hx=>by
                  rcases List.mem_append.1 hx with hx | hx
                  · exact h1 x hx
                  · exact M x hx
              | exact Q
              | (have e:List.take (t-1) (List.take (t+1-1) (gd cls n f (t+1) (tk.set to true) (s.2.set (t-1) (.ofNat to))).2)=List.take (t-1) (List.take (t+1-1) (s.2.set (t-1) (.ofNat to))):=by rw[R]
                 rw[List.take_take,List.take_take,Nat.min_eq_left oM,List.take_set_of_le<|nR_ _,m] at e;exact e)
    exact key _ (fun x hx=>by
      obtain⟨a,E,rfl⟩:=List.mem_map.1 hx;have:=List.mem_range.1 E;omega) ([],p) (fun x hx=>by cases hx) h.len Z
def eu (cls:List Int) (n f t:Nat) (tk:List Bool) (p:List Int) (i:Nat):List (List Int)×List Int:=((List.range i).map (· +1)).foldl (qc (gd cls n f (t+1)) cls t tk) ([],p)
theorem zT {f t:Nat} {tk:List Bool} {p:List Int}:gd cls n (f+1) t tk p=eu cls n f t tk p n:=rfl
theorem qM {f t:Nat} {tk:List Bool} {p:List Int}:eu cls n f t tk p 0=([],p):=rfl
theorem wG {f t i:Nat} {tk:List Bool} {p:List Int}:eu cls n f t tk p (i+1)=qc (gd cls n f (t+1)) cls t tk (eu cls n f t tk p i) (i+1):=by
  unfold eu;rw[List.range_succ,List.map_append,List.foldl_append];rfl
theorem fR {f t i:Nat} {tk:List Bool} {p:List Int} (h:(bif (tk[i+1]?).getD false then true else bW (bD ((cls[i+1]?).getD 0) ((cls[t]?).getD 0)))=true):eu cls n f t tk p (i+1)=eu cls n f t tk p i:=by rw[wG];unfold qc;rw[h];rfl
theorem iG {f t i:Nat} {tk:List Bool} {p:List Int} (h:(bif (tk[i+1]?).getD false then true else bW (bD ((cls[i+1]?).getD 0) ((cls[t]?).getD 0)))=false):eu cls n f t tk p (i+1)=((eu cls n f t tk p i).1++(gd cls n f (t+1) (tk.set (i+1) true) ((eu cls n f t tk p i).2.set (t-1) (.ofNat (i+1)))).1,(gd cls n f (t+1) (tk.set (i+1) true) ((eu cls n f t tk p i).2.set (t-1) (.ofNat (i+1)))).2):=by rw[wG];unfold qc;rw[h];rfl
theorem pj:∀(f t:Nat) (tk:List Bool) (p:List Int),(gd cls n f t tk p).2.length=p.length/\(gd cls n f t tk p).1.length<=n ^ f
  | 0,_,_,p=>⟨Z,nR_ _⟩
  | f+1,t,tk,p=>by
    have key:∀i,(eu cls n f t tk p i).2.length=p.length/\(eu cls n f t tk p i).1.length<=i*n ^ f:=by
      intro i;induction i with
      | zero=>exact⟨Z,by simp[qM]⟩
      | succ i ih=>
        cases h:(bif (tk[i+1]?).getD false then true else bW (bD ((cls[i+1]?).getD 0) ((cls[t]?).getD 0))) with
        | true=>
          rw[fR h];exact⟨ih.1,Nat.le_trans ih.2<|nM_ _ oM⟩
        | false=>
          rw[iG h];obtain⟨h1,b⟩:=pj f (t+1) (tk.set (i+1) true) ((eu cls n f t tk p i).2.set (t-1) (.ofNat (i+1)));refine⟨by rw[h1,List.length_set];exact ih.1,?_⟩;rw[lA_,Nat.add_mul,Nat.one_mul];exact Nat.add_le_add ih.2 b
    obtain⟨h1,b⟩:=key n;rw[zT];exact⟨h1,by rw[Nat.pow_succ,Nat.mul_comm];exact b⟩
theorem yj {f t i:Nat} {tk:List Bool} {p:List Int}:(eu cls n f t tk p i).2.length=p.length:=by
  induction i with
  | zero=>rfl
  | succ i ih=>
    cases h:(bif (tk[i+1]?).getD false then true else bW (bD ((cls[i+1]?).getD 0) ((cls[t]?).getD 0))) with
    | true=>rw[fR h];exact ih
    | false=>rw[iG h,(pj f (t+1) _ _).1,List.length_set];exact ih
theorem Gw {f t i:Nat} {tk:List Bool} {p:List Int}:(eu cls n f t tk p i).1.length<=i*n ^ f:=by
  induction i with
  | zero=>simp[qM]
  | succ i ih=>
    cases h:(bif (tk[i+1]?).getD false then true else bW (bD ((cls[i+1]?).getD 0) ((cls[t]?).getD 0))) with
    | true=>rw[fR h];exact Nat.le_trans ih<|nM_ _ oM
    | false=>
      rw[iG h,lA_,Nat.add_mul,Nat.one_mul];exact Nat.add_le_add ih (pj f (t+1) _ _).2
theorem Gy {f t i a:Nat} {tk:List Bool} {p:List Int} (hi:i+1<=n) (h:a+n ^ (f+1)<=256):a+(eu cls n f t tk p i).1.length+n ^ f<=256:=by
  have h1:=Gw (cls:=cls) (n:=n) (f:=f) (t:=t) (i:=i) (tk:=tk) (p:=p);have b:(i+1)*n ^ f<=n*n ^ f:=nM_ _ hi;rw[Nat.add_mul,Nat.one_mul] at b;rw[Nat.pow_succ,Nat.mul_comm] at h;omega
def iB (l:List XC) (cls:List Int):List (List Int):=(gd cls l.length l.length 1 (List.replicate 5 false)<|List.replicate l.length 0).1
theorem sM {l:List XC} {cls:List Int} (b:cls.length=l.length+1) (h4:l.length<=4):(∀x∈iB l cls,hZ cls l.length x)/\(iB l cls).length<=256:=by
  refine⟨(BR b l.length 1 _ _ (nR_ _) oM ⟨by simp,by simp;omega,by simp,fun i x hi=>by omega,fun i v hi=>by omega⟩).1,?_⟩;have:=(pj (cls:=cls) (n:=l.length) l.length 1 (List.replicate 5 false)<|List.replicate l.length 0).2;refine Nat.le_trans this<|Nat.le_trans (Nat.pow_le_pow_left h4 _)<|Nat.pow_le_pow_right oM h4
end
section
variable {cls:List Int} {n:Nat}
theorem yq:∀(f t:Nat) (tk:List Bool) (p:List Int),1<=t->(gd cls n f t tk p).2.take (t-1)=p.take (t-1)
 | 0,_,_,_,_=>rfl
 | f+1,t,tk,p,ht=>by
  have key:∀i,(eu cls n f t tk p i).2.take (t-1)=p.take (t-1):=by
   intro i;induction i with
   | zero=>rfl
   | succ i ih=>
    cases h:(bif (tk[i+1]?).getD false then true else bW (bD ((cls[i+1]?).getD 0) ((cls[t]?).getD 0))) with
    | true=>rw[fR h];exact ih
    | false=>
     rw[iG h];have h1:=yq f (t+1) (tk.set (i+1) true) ((eu cls n f t tk p i).2.set (t-1) (.ofNat (i+1))) oM;have h2:=congrArg (List.take (t-1)) h1;rw[List.take_take,List.take_take,Nat.min_eq_left oM,List.take_set_of_le<|nR_ _] at h2;rw[<-ih];exact h2
  exact key n
theorem Gx {f t i:Nat} {tk:List Bool} {p:List Int}:(eu cls n f t tk p i).2.take (t-1)=p.take (t-1):=by
 induction i with
 | zero=>rfl
 | succ i ih=>
  cases h:(bif (tk[i+1]?).getD false then true else bW (bD ((cls[i+1]?).getD 0) ((cls[t]?).getD 0))) with
  | true=>rw[fR h];exact ih
  | false=>
   rw[iG h];have h1:=yq (cls:=cls) (n:=n) f (t+1) (tk.set (i+1) true) ((eu cls n f t tk p i).2.set (t-1) (.ofNat (i+1))) oM;have h2:=congrArg (List.take (t-1)) h1;rw[List.take_take,List.take_take,Nat.min_eq_left oM,List.take_set_of_le<|nR_ _] at h2;rw[<-ih];exact h2
theorem wF {f t i j:Nat} {tk:List Bool} {p x:List Int} (h:x∈(eu cls n f t tk p i).1) (aa:i<=j):x∈(eu cls n f t tk p j).1:=by
 induction j with
 | zero=>
  obtain rfl:i=0:=by omega
  exact h
 | succ j ih=>
  rcases Nat.lt_or_ge j i with hh | hh
  ·obtain rfl:i=j+1:=by omega
   exact h
  have:=ih hh;cases hk:(bif (tk[j+1]?).getD false then true else bW (bD ((cls[j+1]?).getD 0) ((cls[t]?).getD 0))) with
  | true=>rw[fR hk];exact this
  | false=>rw[iG hk];exact List.mem_append_left _ this
theorem yl (I:cls.length=n+1):∀(f t:Nat) (tk:List Bool) (p ps:List Int),1<=t->t+f=n+1->hZ cls n ps->p.length=n->n<tk.length->p.take (t-1)=ps.take (t-1)->
  (∀v:Nat,(tk[v+1]?).getD false=true->Int.ofNat (v+1)∈ps.take (t-1))->ps∈(gd cls n f t tk p).1
 | 0,t,tk,p,ps,K,u,b,hp,_,he,_=>by
  rw[tL_ oM,tL_ (by rw[b.len];omega)] at he;exact List.mem_singleton.2 he.symm
 | f+1,t,tk,p,ps,K,u,b,hp,A,he,hk=>by
  obtain⟨x,hx⟩:=cF (show t-1<ps.length by rw[b.len];omega);obtain⟨v,rfl,hv,m⟩:=b.at_ (t-1) x hx;rw[show t-1+1=t by omega] at m
  have d:(tk[v+1]?).getD false=false:=by
   cases hh:(tk[v+1]?).getD false with
   | false=>rfl
   | true=>
    obtain⟨i,hi⟩:=gO_ (hk v hh)
    have C:i<t-1:=by
     have:=(gA.1 hi).1;rw[lT_] at this;omega
    rw[List.getElem?_take_of_lt C] at hi;have:=(List.getElem?_inj (by rw[b.len];omega) b.nd).1 (hi.trans hx.symm);omega
  have E:(bif (tk[v+1]?).getD false then true else bW (bD ((cls[v+1]?).getD 0) ((cls[t]?).getD 0)))=false:=by
   rw[d,m,fj];rfl
  refine wF (i:=v+1) ?_ hv;rw[iG E];refine List.mem_append_right _ ?_;have hlen:(eu cls n f t tk p v).2.length=n:=by rw[yj,hp]
  have F:t-1<(eu cls n f t tk p v).2.length:=by rw[hlen];omega
  have G:Int.ofNat (v+1)∈ps.take (t+1-1):=by
   rw[show t+1-1=t-1+1 by omega,List.take_add_one,hx];exact List.mem_append_right _<|List.mem_singleton.2 Z
  refine yl I f (t+1) (tk.set (v+1) true) _ ps oM oM b (by rw[List.length_set];exact hlen) (by rw[List.length_set];exact A) ?_ fun w hw=>?_
  ·rw[show t+1-1=t-1+1 by omega,List.take_add_one,List.take_add_one,List.take_set_of_le<|nR_ _,List.getElem?_set_self F,Gx,he,hx]
  by_cases e:v=w
  ·subst e;exact G
  rw[List.getElem?_set_ne oM] at hw;have:=hk w hw;rw[show t+1-1=t-1+1 by omega,List.take_add_one];exact List.mem_append_left _ this
theorem vY {l:List XC} {ps:List Int} (b:cls.length=l.length+1) (h4:l.length<=4) (h:hZ cls l.length ps):ps∈iB l cls:=by
 refine yl b l.length 1 _ _ ps (nR_ _) oM h (by simp) (by simp;omega) (by simp) fun v hv=>?_
 rw[List.getElem?_replicate] at hv;split at hv
 ·exact Bool.noConfusion (show false=true from hv)
 exact Bool.noConfusion (show false=true from hv)
theorem vZ {l:List XC} {ps:List Int} (b:cls.length=l.length+1) (h4:l.length<=4):ps∈iB l cls↔hZ cls l.length ps:=⟨(sM b h4).1 ps,vY b h4⟩
end
section
variable {g:XG} {p q p' q':Nat->Nat} {cls:List Int}
theorem Bg (id:cm):iO p' (iO p id)=iO (fun i=>p' (p i)) id:=by
 obtain⟨th,k⟩:=id
 match th with
 | .ofNat 0=>rfl
 | .ofNat (t+1)=>rfl
 | .negSucc t=>rfl
theorem Be (h:Pm g.threads.length p q) (h':Pm g.threads.length p' q'):fO p' q' (fO p q g)=fO (fun i=>p' (p i)) (fun j=>q (q' j)) g:=by
 have e1:(List.range (fO p q g).threads.length).map (fun j=>((fO p q g).threads[q' j]?).getD [])=(List.range g.threads.length).map (fun j=>(g.threads[q<|q' j]?).getD []):=by
  rw[fP];refine List.map_congr_left fun j hj=>?_
  have hj:=h'.Di j (List.mem_range.1 hj);show(((List.range g.threads.length).map fun j=>(g.threads[q j]?).getD [])[q' j]?).getD []=_;rw[gM_,List.getElem?_range hj];rfl
 have e2:(List.range (fO p q g).threads.length).map (fun j=>(((fO p q g).from_[q' j]?).getD []).map (iO p'))=(List.range g.threads.length).map (fun j=>((g.from_[q<|q' j]?).getD []).map (iO fun i=>p' (p i))):=by
  rw[fP];refine List.map_congr_left fun j hj=>?_
  have hj:=h'.Di j (List.mem_range.1 hj);show((((List.range g.threads.length).map fun j=>((g.from_[q j]?).getD []).map (iO p))[q' j]?).getD []).map (iO p')=_;rw[gM_,List.getElem?_range hj];show(((g.from_[q<|q' j]?).getD []).map<|iO p).map (iO p')=_;rw[List.map_map];exact List.map_congr_left fun x _=>Bg x
 have b:(g.order.map (·.map<|iO p)).map (·.map<|iO p')=g.order.map (·.map<|iO fun i=>p' (p i)):=by
  rw[List.map_map];refine List.map_congr_left fun r _=>?_
  show(r.map<|iO p).map (iO p')=_;rw[List.map_map];exact List.map_congr_left fun x _=>Bg x
 show(⟨g.init,_,_,(g.order.map (·.map<|iO p)).map (·.map<|iO p')⟩:XG)=_
 rw[e1,e2,b];rfl
theorem Pm.comp {n:Nat} (h:Pm n p q) (h':Pm n p' q'):Pm n (fun i=>p' (p i)) fun j=>q (q' j):=
 ⟨fun t b=>h'.lt _ (h.lt t b),fun t b=>h.Di _ (h'.Di t b),fun t b=>by rw[h'.qp _<|h.lt t b,h.qp t b],fun t b=>by rw[h.pq _<|h'.Di t b,h'.pq t b]⟩
theorem Pm.self {n:Nat}:Pm n (fun i=>i) fun i=>i:=⟨fun _ h=>h,fun _ h=>h,fun _ _=>Z,fun _ _=>Z⟩
theorem F7 (b:dy g) (h:Pm g.threads.length p q) (h':Pm g.threads.length p' q') (he:∀i,i<g.threads.length->p i=p' i):fO p q g=fO p' q' g:=by
 have hq:∀j,j<g.threads.length->q j=q' j:=fun j hj=>by
  have h1:=h'.Di j hj;have u:p (q' j)=j:=by rw[he _ h1];exact h'.pq j hj
  have h3:=h.qp _ h1;rw[u] at h3;exact h3
 have hi:∀{id:cm},tQ g.threads.length id->iO p id=iO p' id:=fun {id} d=>by
  rcases d.case with ⟨k,rfl⟩ | ⟨t,k,A,rfl⟩
  ·rfl
  rw[rq,rq,he t A]
 have e1:(List.range g.threads.length).map (fun j=>(g.threads[q j]?).getD [])=(List.range g.threads.length).map (fun j=>(g.threads[q' j]?).getD []):=
  List.map_congr_left fun j hj=>by rw[hq j<|List.mem_range.1 hj]
 have e2:(List.range g.threads.length).map (fun j=>((g.from_[q j]?).getD []).map (iO p))=(List.range g.threads.length).map (fun j=>((g.from_[q' j]?).getD []).map (iO p')):=
  List.map_congr_left fun j hj=>by
   rw[hq j<|List.mem_range.1 hj];refine List.map_congr_left fun x hx=>?_
   obtain⟨f,hf⟩:=cF (show q' j<g.from_.length by rw[b.from_];exact h'.Di j<|List.mem_range.1 hj);rw[hf] at hx;exact hi<|ug b hf hx
 have C:g.order.map (·.map<|iO p)=g.order.map (·.map<|iO p'):=
  List.map_congr_left fun r E=>by
   obtain⟨ln,m⟩:=gO_ E;exact List.map_congr_left fun x hx=>hi (jb b m hx)
 unfold fO;rw[e1,e2,C]
def fh (cls:List Int) (g x:XG):Prop:=∃p q:Nat->Nat,Pm g.threads.length p q/\(∀i,i<g.threads.length->cls[p i+1]? =cls[i+1]?)/\x=fO p q g
theorem fh.self (b:dy g):fh cls g g:=by
 refine⟨fun i=>i,fun i=>i,Pm.self,fun _ _=>Z,?_⟩;have h1:=Bd b (Pm.self (n:=g.threads.length));rw[Be Pm.self Pm.self] at h1;exact h1.symm
theorem fh.len {x:XG} (h:fh cls g x):x.threads.length=g.threads.length:=by
 obtain⟨p,q,_,_,rfl⟩:=h;exact fP
theorem fh.right {x:XG} (b:dy g) (h:fh cls g x):dy x:=by
 obtain⟨p,q,h1,_,rfl⟩:=h;exact Ga b h1
theorem fh.GG {x:XG} (b:dy g) (h:fh cls g x):fh cls x g:=by
 obtain⟨p,q,h1,d,rfl⟩:=h;refine⟨q,p,by rw[fP];exact h1.GG,fun i hi=>?_,(Bd b h1).symm⟩;rw[fP] at hi;have:=d _ (h1.Di i hi);rw[h1.pq i hi] at this;exact this.symm
theorem fh.next {x y:XG} (h:fh cls g x) (h':fh cls x y):fh cls g y:=by
 obtain⟨p,q,h1,m,rfl⟩:=h;obtain⟨p',q',b,d,rfl⟩:=h';rw[fP] at b d;exact⟨_,_,h1.comp b,fun i hi=>by rw[d _<|h1.lt i hi,m i hi],Be h1 b⟩
theorem fh.same {x:XG} (b:dy g) (h:fh cls g x) (y:XG):fh cls g y↔fh cls x y:=⟨fun k=>(h.GG b).next k,fun k=>h.next k⟩
theorem fh.of {ps:List Int} (h:hZ cls g.threads.length ps):∃p q:Nat->Nat,Pm g.threads.length p q/\(∀i,i<g.threads.length->ps[i]? =some (.ofNat (p i+1)))/\fh cls g (fO p q g):=by
 obtain⟨p,q,h1,b,d⟩:=h.pm;exact⟨p,q,h1,b,p,q,h1,d,Z⟩
theorem Gh (m:∀i,i<g.threads.length->cls[p i+1]? =cls[i+1]?) (h:Pm g.threads.length p q):hZ cls g.threads.length ((List.range g.threads.length).map fun i=>Int.ofNat (p i+1)):=by
 refine⟨by simp,?_,fun i x hx=>?_⟩
 ·refine List.pairwise_map.2<|List.nodup_range.imp_of_mem fun {a b} u hb hne e=>hne ?_;have e:p a=p b:=by have:=iJ_ e;omega
  have h1:=h.qp a (List.mem_range.1 u);rw[e,h.qp b<|List.mem_range.1 hb] at h1;exact h1.symm
 rw[gM_] at hx;obtain⟨j,hj,rfl⟩:=oM_.1 hx;obtain⟨hl,d⟩:=gA.1 hj;rw[List.getElem_range] at d;subst d;have hi:i<g.threads.length:=by simpa using hl
 exact⟨p i,Z,h.lt i hi,m i hi⟩
theorem fh.told {x:XG} {l:List XC} (u:dy g) (hl:l.length=g.threads.length) (m:cls.length=l.length+1):fh cls g x↔∃ps∈iB l cls,∃p q:Nat->Nat,Pm g.threads.length p q/\(∀i,i<g.threads.length->ps[i]? =some (.ofNat (p i+1)))/\x=fO p q g:=by
 have h4:l.length<=4:=by rw[hl];exact u.threads
 constructor
 ·rintro ⟨p,q,h1,b,A⟩;have hp:=Gh (cls:=cls) b h1;rw[<-hl] at hp;refine⟨_,vY m h4 hp,p,q,h1,fun i hi=>?_,A⟩;rw[gM_,hl,List.getElem?_range hi];rfl
 rintro ⟨ps,d,p,q,h1,b,rfl⟩;have hp:=(vZ m h4).1 d;rw[hl] at hp;refine⟨p,q,h1,fun i hi=>?_,Z⟩;obtain⟨v,e,_,hv⟩:=hp.at_ i _ (b i hi);have:p i=v:=by have:=iJ_ e;omega
 rw[this];exact hv
end
section
variable {g:XG} {cls:List Int} {l:List XC}
def pF (ps:List Int) (i:Nat):Nat:=((ps[i]?).getD 0).toNat-1
def qF (ps:List Int) (j:Nat):Nat:=(fA (fun x=>bD x (.ofNat (j+1))) ps 0).toNat
def Mw (ps:List Int) (g:XG):XG:=fO (pF ps) (qF ps) g
theorem Iz {n:Nat} {ps:List Int} (h:hZ cls n ps):Pm n (pF ps) (qF ps)/\∀i,i<n->ps[i]? =some (.ofNat (pF ps i+1)):=by
 obtain⟨p,q,h1,d,_⟩:=h.pm;have hp:∀i,i<n->pF ps i=p i:=fun i hi=>by unfold pF;rw[d i hi];rfl
 have hq:∀j,j<n->qF ps j=q j:=fun j hj=>by
  unfold qF;have h3:=d _ (h1.Di j hj);rw[h1.pq j hj] at h3
  have:=EB (p:=fun x=>bD x (.ofNat (j+1))) (l:=ps) (i:=0) h3 (fj _) fun k y hk hy=>by
   cases he:bD y (.ofNat (j+1)) with
   | false=>rfl
   | true=>
    rw[cR] at he;have he:y= .ofNat (j+1):=of_decide_eq_true he;subst he;have:=(List.getElem?_inj (gA.1 hy).1 h.nd).1 (hy.trans h3.symm);omega
  rw[this,nA_];rfl
 refine⟨⟨fun t b=>by rw[hp t b];exact h1.lt t b,fun t b=>by rw[hq t b];exact h1.Di t b,fun t b=>by rw[hp t b,hq _<|h1.lt t b];exact h1.qp t b,fun t b=>by rw[hq t b,hp _<|h1.Di t b];exact h1.pq t b⟩,fun i hi=>by rw[hp i hi];exact d i hi⟩
theorem Mx (b:dy g) {ps:List Int} {p q:Nat->Nat} (h:hZ cls g.threads.length ps) (h1:Pm g.threads.length p q) (d:∀i,i<g.threads.length->ps[i]? =some (.ofNat (p i+1))):fO p q g=Mw ps g:=by
 obtain⟨m,u⟩:=Iz h;refine F7 b h1 m fun i hi=>?_
 have:=(d i hi).symm.trans (u i hi);have:=iJ_ (Option.some.inj this);omega
def jy (l:List XC) (cls:List Int) (g:XG):List XG:=oh dD ((iB l cls).map fun ps=>Mw ps g)
structure jL (l:List XC) (cls:List Int) (g:XG):Prop where
 right:dy g
 len:l.length=g.threads.length
 cls:cls.length=l.length+1
theorem jk (h:jL l cls g) {x:XG}:x∈jy l cls g↔fh cls g x:=by
 unfold jy;rw[(kM iT fun _ _=>trivial).2,List.mem_map,fh.told h.right h.len h.cls]
 have d:∀ps∈iB l cls,hZ cls g.threads.length ps:=fun ps b=>by
  have:=(vZ h.cls (by rw[h.len];exact h.right.threads)).1 b;rwa[h.len] at this
 constructor
 ·rintro ⟨ps,b,rfl⟩;obtain⟨m,u⟩:=Iz (d ps b);exact⟨ps,b,pF ps,qF ps,m,u,Z⟩
 rintro ⟨ps,b,p,q,h1,A,rfl⟩;exact⟨ps,b,(Mx h.right (d ps b) h1 A).symm⟩
theorem rz:r5 dD (jy l cls g):=(kM iT fun _ _=>trivial).1
theorem jL.next (h:jL l cls g) {x:XG} (hx:fh cls g x):jL l cls x:=⟨hx.right h.right,by rw[hx.len];exact h.len,h.cls⟩
theorem mf (h:jL l cls g) {x:XG} (hx:fh cls g x):jy l cls x=jy l cls g:=
 k9 iT (fun _ _=>trivial) (fun _ _=>trivial) rz rz fun y=>by rw[jk<|h.next hx,jk h,hx.same h.right]
theorem vS (h:jL l cls g):g∈jy l cls g:=(jk h).2 (fh.self h.right)
theorem rB (h:jL l cls g):∃x r,jy l cls g=x::r:=by
 cases b:jy l cls g with
 | nil=>have:=vS h;rw[b] at this;cases this
 | cons x r=>exact⟨x,r,Z⟩
theorem Gd (h:jL l cls g) {k:Nat} {x:XG} (hx:(jy l cls g)[k]? =some x):(∃r,jy l cls x=x::r)↔k=0:=by
 have b:fh cls g x:=(jk h).1 (gB_ hx);rw[mf h b];constructor
 ·rintro ⟨r,m⟩
  match k,hx with
  | 0,_=>rfl
  | k+1,hx=>
   have hi:r5 dD (jy l cls g):=rz;rw[m] at hi hx;have:=(List.pairwise_cons.1 hi).1 x (gB_ (by simpa using hx));exact absurd this<|iT.Mq trivial
 rintro rfl;cases d:jy l cls g with
 | nil=>rw[d] at hx;cases hx
 | cons y r=>
  rw[d] at hx;cases hx;exact⟨r,Z⟩
end
def f10 (x:Int):List Nat:=fmtS 10 x++[44]
def f36 (x:Int):List Nat:=fmtS 36 x++[44]
def Nx (x:cq×cm):List Nat:=[x.1.kind,x.1.loc,x.1.order,x.2.bX,x.2.index].flatMap f10++[x.1.read,x.1.write].flatMap f36
def tV (x:List cq×List cm):List Nat:=47::(x.1.zip x.2).flatMap Nx
def NV (x:cm):List Nat:=[x.bX,x.index].flatMap f10
def Ds (r:List cm):List Nat:=47::r.flatMap NV
def mY (g:XG):List Nat:=g.init.flatMap f36++(g.threads.zip g.from_).flatMap tV++g.order.flatMap Ds
theorem sF (l:List (List UInt8)):(gh 44 l).map UInt8.toNat=l.flatMap fun w=>w.map UInt8.toNat++[44]:=by
 unfold gh;rw[List.map_flatMap];refine congrArg (fun f=>l.flatMap f) ?_;funext w;rw[List.map_append];rfl
theorem wH (g:XG):mY g=(Fg (tS 10) (tS 36) g).map UInt8.toNat:=by
 unfold mY Fg jl;rw[List.map_append,sF,List.flatMap_map,List.map_flatMap,List.flatMap_map,lQ_];refine congr (congrArg _ Z) ?_;unfold zy;rw[List.flatMap_append,List.flatMap_map,List.flatMap_map];refine congr (congrArg _<|congrArg (fun f=>List.flatMap f _) ?_)<|congrArg (fun f=>List.flatMap f _) ?_
 ·funext x;show tV x=47::(gh 44 _).map UInt8.toNat;rw[sF,List.flatMap_assoc];unfold tV;refine congrArg (fun f=>47::List.flatMap f _) ?_;funext y;unfold Nx GZ f10 f36 fmtS;simp only[List.flatMap_cons,List.flatMap_nil,List.append_nil,lQ_]
 funext r;show Ds r=47::(gh 44 _).map UInt8.toNat;rw[sF,List.flatMap_assoc];unfold Ds;refine congrArg (fun f=>47::List.flatMap f _) ?_;funext y;unfold NV Ny f10 fmtS;simp only[List.flatMap_cons,List.flatMap_nil,List.append_nil,lQ_]
theorem toNat_inj:∀{l m:List UInt8},l.map UInt8.toNat=m.map UInt8.toNat->l=m
 | [],[],_=>rfl
 | [],_::_,h=>by cases h
 | _::_,[],h=>by cases h
 | x::l,y::m,h=>by
  rw[List.map_cons,List.map_cons] at h;obtain⟨h1,b⟩:=List.cons.inj h;rw[UInt8.toNat_inj.1 h1,toNat_inj b]
theorem GB {g g':XG} (d:dy g) (b:dy g') (hl:g.threads.length=g'.threads.length) (h:mY g=mY g'):g=g':=by
 rw[wH,wH] at h;exact GA (AO oM oM) (AO oM oM) (Et oM oM) (Et oM oM) d b hl<|toNat_inj h
def Sm (x:Int):Prop:=∃m:Nat,x= .ofNat m/\m<100
theorem E4 {x:Int} (h:0<=x) (h2:x<100):Sm x:=⟨x.toNat,by show x=(x.toNat:Int);omega,by omega⟩
theorem OA {e:cq} {n:Int} (hn:n<=6) (h:bE e n=true):Sm e.kind/\Sm e.loc/\Sm e.order:=by
 unfold bE at h;simp only[eP,cR] at h
 by_cases h1:e.kind<1
 ·rw[decide_eq_true h1] at h;cases h
 rw[decide_eq_false h1] at h
 by_cases b:4<e.kind
 ·rw[decide_eq_true b] at h;cases h
 rw[decide_eq_false b] at h
 by_cases d:e.order<1
 ·rw[decide_eq_true d] at h;cases h
 rw[decide_eq_false d] at h
 by_cases h4:6<e.order
 ·rw[decide_eq_true h4] at h;cases h
 rw[decide_eq_false h4] at h;refine⟨E4 oM oM,?_,E4 oM oM⟩;simp only[cond_false] at h;generalize (bif !dw e then bW (decide (e.read=0)) else false)=u at h;generalize (bif !br e then bW (decide (e.write=0)) else false)=A at h;cases u with
 | true=>cases h
 | false=>
  cases A with
  | true=>cases h
  | false=>
   simp only[cond_false] at h
   by_cases h5:e.kind=4
   ·rw[decide_eq_true h5] at h;have:e.loc=0:=of_decide_eq_true h;exact E4 oM oM
   rw[decide_eq_false h5] at h
   by_cases m:e.loc<0
   ·rw[decide_eq_true m] at h;cases h
   rw[decide_eq_false m] at h;have:e.loc<n:=of_decide_eq_true h;exact E4 oM oM
theorem Oz {g:XG} (b:dy g) {id:cm} {w:cq} (h:dR g id=some w):Sm id.bX/\Sm id.index:=by
 obtain⟨t,k⟩:=id;have h1:=b.threads;have h2:=b.init
 match t,k,h with
 | .ofNat 0,.ofNat i,h=>
  have h:(g.init[i]?).map (fun v=>(⟨2,i,1,0,v⟩:cq))=some w:=h;obtain⟨v,hv,_⟩:=oM_.1 h;have:=(gA.1 hv).1;exact⟨⟨0,Z,by omega⟩,⟨i,Z,by omega⟩⟩
 | .ofNat (t+1),.ofNat i,h=>
  have h:(g.threads[t]?).bind (·[i]?)=some w:=h
  obtain⟨l,hl,hi⟩:=Option.bind_eq_some_iff.1 h;have h3:=(gA.1 hl).1;have h4:=(gA.1 hi).1;have h5:=b.short t l hl;exact⟨⟨t+1,Z,by omega⟩,⟨i,Z,by omega⟩⟩
theorem I2 {g:XG} (b:dy g) {t i:Nat} {l:List cq} {f:List cm} {e:cq} {x:cm} (hl:g.threads[t]? =some l) (hf:g.from_[t]? =some f) (he:l[i]? =some e) (hx:f[i]? =some x):∀z∈[e.kind,e.loc,e.order,x.bX,x.index],Sm z:=by
 have hok:=sH ((b.rows t l f hl hf).2 i e x he hx);obtain⟨h1,d,m⟩:=OA (by have:=b.init;show((g.init.length:Nat):Int)<=6;omega) hok.1
 have h4:Sm x.bX/\Sm x.index:=by
  rcases mM hl he hok.2 with ⟨_,rfl⟩ | ⟨_,w,hw,_⟩
  ·exact⟨⟨0,Z,by omega⟩,⟨0,Z,by omega⟩⟩
  exact Oz b hw
 intro z hz;simp only[mQ_,List.not_mem_nil,or_false] at hz;rcases hz with rfl | rfl | rfl | rfl | rfl
 ·exact h1
 ·exact d
 ·exact m
 ·exact h4.1
 exact h4.2
theorem MT {g:XG} (b:dy g) {ln:Nat} {r:List cm} (d:g.order[ln]? =some r) {x:cm} (hx:x∈r):∀z∈[x.bX,x.index],Sm z:=by
 obtain⟨t,k,row,e,rfl,h1,m,_⟩:=sK b d hx;have h3:=(gA.1 h1).1;have h4:=(gA.1 m).1;have h5:=b.short t row h1;have h6:=b.threads;intro z hz;simp only[mQ_,List.not_mem_nil,or_false] at hz;rcases hz with rfl | rfl
 ·exact⟨t+1,Z,by omega⟩
 exact⟨k,Z,by omega⟩
structure r8 (g:XG):Prop where
 init:∀x∈g.init,wV x
 ev:∀(t:Nat) (l:List cq),g.threads[t]? =some l->∀e∈l,wV e.read/\wV e.write
theorem r8.mv {g:XG} (h:r8 g) (p q:Nat->Nat):r8 (fO p q g):=by
 refine⟨h.init,fun t l hl e he=>?_⟩;have hl:((List.range g.threads.length).map fun j=>(g.threads[q j]?).getD [])[t]? =some l:=hl;rw[gM_] at hl;obtain⟨j,_,hj⟩:=oM_.1 hl;cases b:g.threads[q j]? with
 | none=>rw[b] at hj;subst hj;cases he
 | some l'=>rw[b] at hj;subst hj;exact h.ev _ _ b e he
def kC (l:List XC) (t:Nat) (cl:List Int):Bool:=match l[((cl[0]?).getD 0).toNat-1]?,l[t]? with | some a,some b=>bV a b | _,_=>false
def yU (l:List XC) (s:List (List Int)) (t:Nat):List (List Int):=
 bif da (fA (kC l t) s 0) 0 then s++[[.ofNat (t+1)]] else s.set (fA (kC l t) s 0).toNat ((s[(fA (kC l t) s 0).toNat]?).getD []++[.ofNat (t+1)])
def gk (l:List XC):Nat->List (List Int)
 | 0=>[]
 | t+1=>yU l (gk l t) t
def fy (l:List XC):List (List Int):=gk l l.length
structure JI (l:List XC) (t:Nat) (cl:List Int):Prop where
 ne:cl≠[]
 at_:∃h c,h<t/\cl[0]? =some (Int.ofNat (h+1))/\l[h]? =some c/\∀x∈cl,∃v,v<t/\x=Int.ofNat (v+1)/\l[v]? =some c
theorem JI.mono {l:List XC} {t t':Nat} {cl:List Int} (h:JI l t cl) (ht:t<=t'):JI l t' cl:=by
 obtain⟨h0,h1,c,h2,d,h4,h5⟩:=h;exact⟨h0,h1,c,by omega,d,h4,fun x hx=>by obtain⟨v,a,b⟩:=h5 x hx;exact⟨v,by omega,b⟩⟩
theorem sy {α:Type} {p:α->Bool}:∀{l:List α} {i:Nat},da (fA p l i) 0=false->∃(j:Nat) (x:α),fA p l i= .ofNat (i+j)/\l[j]? =some x/\p x=true
 | [],_,h=>by cases h
 | x::l,i,h=>by
  unfold fA at h⊢;cases hx:p x with
  | true=>exact⟨0,x,Z,Z,hx⟩
  | false=>
   rw[hx] at h;obtain⟨j,y,h1,b,d⟩:=sy (l:=l) (i:=i+1) h;exact⟨j+1,y,by show fA p l (i+1)=_;rw[h1,show i+1+j=i+(j+1) by omega],by simpa using b,d⟩
structure D7 (l:List XC) (t:Nat) (s:List (List Int)):Prop where
 all:∀cl∈s,JI l t cl
 Qg:∀v,v<t->∃cl∈s,Int.ofNat (v+1)∈cl
 len:s.length<=t
theorem yV {l:List XC}:∀{t:Nat},t<=l.length->D7 l t (gk l t)
 | 0,_=>⟨(fun cl h=>by cases h),fun v hv=>absurd hv (nZ_ _),nR_ _⟩
 | t+1,ht=>by
  have ih:=yV (l:=l) (t:=t) oM;obtain⟨c,A⟩:=cF (show t<l.length by omega);show D7 l (t+1) (yU l (gk l t) t);unfold yU;cases hi:da (fA (kC l t) (gk l t) 0) 0 with
  | true=>
   simp only[cond_true];refine⟨fun cl hm=>?_,fun v hv=>?_,by rw[lA_];have:=ih.len;simp only[List.length_singleton];omega⟩
   ·rcases List.mem_append.1 hm with hm | hm
    ·exact(ih.all cl hm).mono oM
    rw[List.mem_singleton.1 hm];exact⟨by simp,t,c,by omega,Z,A,fun x hx=>⟨t,by omega,List.mem_singleton.1 hx,A⟩⟩
   by_cases e:v=t
   ·exact⟨[.ofNat (t+1)],List.mem_append_right _<|List.mem_singleton.2 Z,by rw[e];exact List.mem_singleton.2 Z⟩
   obtain⟨cl,h1,m⟩:=ih.Qg v oM;exact⟨cl,List.mem_append_left _ h1,m⟩
  | false=>
   obtain⟨j,cl,h1,m,u⟩:=sy hi;rw[nA_] at h1;simp only[cond_false];rw[h1];show D7 l (t+1) ((gk l t).set j (((gk l t)[j]?).getD []++[.ofNat (t+1)]));rw[m];show D7 l (t+1) ((gk l t).set j (cl++[.ofNat (t+1)]));have hjl:=(gA.1 m).1;refine⟨fun cl' hm=>?_,fun v hv=>?_,by rw[List.length_set];have:=ih.len;omega⟩
   ·obtain⟨i,d⟩:=gO_ hm
    by_cases e:j=i
    ·subst e;rw[List.getElem?_set_self hjl] at d;cases d;obtain⟨h4,hh,c',h5,E,F,I⟩:=ih.all cl (gB_ m)
     have C:c'=c:=by
      unfold kC at u;rw[E,A] at u;have u:(match l[hh+1-1]?,some c with | some a,some b=>bV a b | _,_=>false)=true:=u;rw[Nat.add_sub_cancel,F] at u;exact bP.1 u
     subst C;refine⟨by simp,hh,c',by omega,?_,F,fun x hx=>?_⟩
     ·cases cl with
      | nil=>exact absurd Z h4
      | cons y r=>exact E
     rcases List.mem_append.1 hx with hx | hx
     ·obtain⟨v,a,b⟩:=I x hx;exact⟨v,by omega,b⟩
     exact⟨t,by omega,List.mem_singleton.1 hx,A⟩
    rw[List.getElem?_set_ne e] at d;exact(ih.all cl'<|gB_ d).mono oM
   by_cases e:v=t
   ·refine⟨_,gB_ (List.getElem?_set_self hjl),by rw[e];exact List.mem_append_right _<|List.mem_singleton.2 Z⟩
   obtain⟨cl',K,G⟩:=ih.Qg v oM;obtain⟨i,d⟩:=gO_ K
   by_cases e2:j=i
   ·subst e2;rw[m] at d;cases d;exact⟨_,gB_ (List.getElem?_set_self hjl),List.mem_append_left _ G⟩
   exact⟨cl',gB_ (i:=i) (by rw[List.getElem?_set_ne e2];exact d),G⟩
def pG (i:Nat) (a:List Int) (cl:List Int):List Int:=cl.foldl (fun a x=>a.set x.toNat (.ofNat i)) a
def jA:List (List Int)->Nat->List Int->List Int
 | [],_,a=>a
 | cl::s,i,a=>jA s (i+1) (pG i a cl)
def lF (l:List XC):List Int:=jA (fy l) 0 (List.replicate (l.length+1) 0)
theorem rF {i:Nat}:∀{cl a:List Int},(pG i a cl).length=a.length
 | [],_=>rfl
 | x::cl,a=>by
  show(pG i (a.set x.toNat (.ofNat i)) cl).length=_;rw[rF,List.length_set]
theorem oX:∀{s:List (List Int)} {i:Nat} {a:List Int},(jA s i a).length=a.length
 | [],_,_=>rfl
 | cl::s,i,a=>by
  show(jA s (i+1)<|pG i a cl).length=_;rw[oX,rF]
theorem lU {l:List XC}:(lF l).length=l.length+1:=by unfold lF;rw[oX,List.length_replicate]
def zn:List Int->List Int->Int
 | x::l,y::m=>bif bD (eh x y) 0 then zn l m else eh x y
 | _,_=>0
def cE (A B_:List Int) (c:Int):Prop:=∀l m,zn (A++l) (B_++m)=bif bD c 0 then zn l m else c
theorem cE.nil:cE [] [] 0:=fun _ _=>Z
theorem cE.one (x y:Int):cE [x] [y] (eh x y):=fun _ _=>Z
theorem cE.app {A B_ A' B':List Int} {c c':Int} (h:cE A B_ c) (h':c=0->cE A' B' c'):cE (A++A') (B_++B') (bif bD c 0 then c' else c):=fun l m=>by
 rw[lQ_,lQ_,h];simp only[xd]
 by_cases b:c=0
 ·simp only[b,if_true];rw[h' b];simp only[xd]
 omega
theorem cE.rows {α:Type} {enc:α->List Int} {c:α->α->Int}:∀{ls ms:List α},ls.length=ms.length->(∀(i:Nat) (x y:α),ls[i]? =some x->ms[i]? =some y->cE (enc x) (enc y) (c x y))->cE (ls.flatMap enc) (ms.flatMap enc) (dz c ls ms)
 | [],[],_,_=>cE.nil
 | [],_::_,h,_=>by cases h
 | _::_,[],h,_=>by cases h
 | x::ls,y::ms,h,b=>by
  rw[List.flatMap_cons,List.flatMap_cons];exact(b 0 x y Z Z).app fun _=>cE.rows (by simpa using h) fun i x y h1 d=>b (i+1) x y (by simpa using h1) (by simpa using d)
theorem cE.fz {A B_ A' B':List Int} {c:Int} {l:List Int} (h:cE A B_ c) (h':c=0->cE A' B' (Ae l)):cE (A++A') (B_++B') (Ae (c::l)):=h.app h'
theorem nM:∀{a b:List Int},a.length=b.length->cE a b (dz eh a b)
 | [],[],_=>cE.nil
 | [],_::_,h=>by cases h
 | _::_,[],h=>by cases h
 | x::a,y::b,h=>(cE.one x y).app fun _=>nM (by simpa using h)
theorem F2 (x y:cq):cE x.ints y.ints (mU x y):=
 (cE.one x.kind y.kind).fz (B':=[y.loc,y.order,y.read,y.write]) (A':=[x.loc,x.order,x.read,x.write]) fun _=>
 (cE.one x.loc y.loc).fz (B':=[y.order,y.read,y.write]) (A':=[x.order,x.read,x.write]) fun _=>
 (cE.one x.order y.order).fz (B':=[y.read,y.write]) (A':=[x.read,x.write]) fun _=>
 (cE.one x.read y.read).fz (B':=[y.write]) (A':=[x.write]) fun _=>
 (cE.one x.write y.write).fz (A':=[]) (B':=[]) fun _=>cE.nil
theorem F3 (x y:cm):cE x.ints y.ints (nu x y):=
 (cE.one x.bX y.bX).fz (B':=[y.index]) (A':=[x.index]) fun _=>(cE.one x.index y.index).fz (A':=[]) (B':=[]) fun _=>cE.nil
theorem iV {α:Type} {a b:List α} (h:gF a b=0):a.length=b.length:=iJ_ (ud h)
def jI (r:List cm):List Int:=.ofNat r.length::r.flatMap cm.ints
theorem vD (x y:List cm):cE (jI x) (jI y) (gE x y):=by
 have h:=(cE.one (.ofNat x.length) (.ofNat y.length)).fz (A':=x.flatMap cm.ints++[]) (B':=y.flatMap cm.ints++[]) (l:=[dz nu x y]) fun h=>
  (cE.rows (enc:=cm.ints) (c:=nu) (iV h) fun _ x y _ _=>F3 x y).fz (A':=[]) (B':=[]) (l:=[]) fun _=>cE.nil
 rw[List.append_nil,List.append_nil] at h;exact h
def lh (g:XG):List Int:=
 [.ofNat g.threads.length]++(g.threads.map (fun r=>Int.ofNat r.length)++(g.threads.flatMap (fun r=>r.flatMap cq.ints)++([.ofNat g.from_.length]++(g.from_.flatMap jI++([.ofNat g.order.length]++(g.order.flatMap jI++([.ofNat g.init.length]++(g.init++[]))))))))
theorem AD {α:Type} {f:α->Int}:∀{a b:List α},dz eh (a.map f) (b.map f)=dz (fun x y=>eh (f x) (f y)) a b
 | [],[]=>rfl
 | [],_::_=>rfl
 | _::_,[]=>rfl
 | x::a,y::b=>by
  show(bif bD (eh (f x)<|f y) 0 then dz eh (a.map f) (b.map f) else eh (f x) (f y))=(bif bD (eh (f x)<|f y) 0 then dz (fun x y=>eh (f x) (f y)) a b else eh (f x) (f y));rw[AD]
theorem xy {α:Type} {c:α->α->Int}:∀{a b:List α},dz c a b=0->∀(i:Nat) (x y:α),a[i]? =some x->b[i]? =some y->c x y=0
 | [],_,_,i,x,y,h,_=>by simp at h
 | _::_,[],_,i,x,y,_,h=>by simp at h
 | p::a,q::b,h,i,x,y,h1,d=>by
  have h:(bif bD (c p q) 0 then dz c a b else c p q)=0:=h;rw[xd] at h;split at h
  ·rename_i m;cases i with
   | zero=>
    have e1:p=x:=by simpa using h1
    have e2:q=y:=by simpa using d
    subst e1 e2;exact m
   | succ i=>exact xy h i x y (by simpa using h1) (by simpa using d)
  contradiction
theorem H8 (a b:XG):cE (lh a) (lh b) (dD a b):=
 (cE.one _ _).fz fun h1=>
 cE.fz (c:=dz gF a.threads b.threads) (by
  have:=nM (a:=a.threads.map fun r=>Int.ofNat r.length) (b:=b.threads.map fun r=>Int.ofNat r.length) (by rw[lM_,lM_];exact iV h1);rw[AD] at this;exact this) fun d=>
 cE.fz (c:=dz (dz mU) a.threads b.threads) (cE.rows (iV h1) fun i x y hx hy=>cE.rows (iV<|xy d i x y hx hy) fun _ e f _ _=>F2 e f) fun _=>
 (cE.one _ _).fz fun h4=>
 cE.fz (c:=dz gE a.from_ b.from_) (cE.rows (iV h4) fun _ x y _ _=>vD x y) fun _=>
 (cE.one _ _).fz fun m=>
 cE.fz (c:=dz gE a.order b.order) (cE.rows (iV m) fun _ x y _ _=>vD x y) fun _=>
 (cE.one _ _).fz fun u=>
 cE.fz (c:=dz eh a.init b.init) (nM<|iV u) fun _=>cE.nil
theorem zo (a b:XG):zn (lh a) (lh b)=dD a b:=by
 have h:=H8 a b [] [];rw[List.append_nil,List.append_nil] at h;rw[h];show(bif bD (dD a b) 0 then 0 else dD a b)=_;rw[xd];split<;>omega
end Go.Ev
end
