/- Part of the proof: an evaluator of the model's code, rules for walks on it, walks. Without conditions. -/
import Derived.Test.YtmeiccifbpehaaaGreatDoorEb
import Derived.ReadAgain
import Derived.ProofKit
import Derived.Test.YtmeiccifbpehaaaGreatDoorProg
import Derived.KernelRfl
set_option linter.unusedSectionVars false
set_option linter.unusedVariables false
set_option linter.unusedSimpArgs false
noncomputable section
set_option maxHeartbeats 8000000
set_option maxRecDepth 4000
open Go.Proofs
namespace Go.Ev
variable [Env] {ix th:Int} {e j:Nat}
def dq (e:bW):Bool:=bif bD e.kind 1 then true else bD e.kind 3
def bQ (e:bW):Bool:=bif bD e.kind 2 then true else bD e.kind 3
def bT (b:Bool):Bool:=bif b then false else true
def cj (e:bW) (n:Int):Bool:=
 bif cW e.kind 1 then false else bif cW 4 e.kind then false else bif cW e.order 1 then false else bif cW 6 e.order then false else
 bif (bif (!dq e) then bT (bD e.read 0) else false) then false else bif (bif (!bQ e) then bT (bD e.write 0) else false) then false else
 bif bD e.kind 4 then bD e.loc 0 else bif bT (cW e.loc 0) then cW e.loc n else false
def gf (g:XG) (id:bV):Option bW:=
 match id.bM,id.index with
 | .ofNat 0,.ofNat i=>(g.init[i]?).map fun v=>⟨2,i,1,0,v⟩
 | .ofNat (t+1),.ofNat i=>(g.threads[t]?).bind (·[i]?)
 | _,_=>none
def xw (x:Option bW):bW:=x.getD ⟨0,0,0,0,0⟩
theorem KK {g:XG} (h:cW th 0=true):gf g ⟨th,ix⟩=none:=by
 rw[eQ,decide_eq_true_iff] at h;cases th with
 | ofNat t=>grind
 | negSucc t=>rfl
theorem KL {g:XG} (h:cW ix 0=true):gf g ⟨th,ix⟩=none:=by
 rw[eQ,decide_eq_true_iff] at h;cases ix with
 | ofNat t=>grind
 | negSucc t=>cases th with
  | ofNat n=>cases n<;>rfl
  | negSucc n=>rfl
theorem Nv {g:XG} (h:cW (.ofNat g.threads.length) th=true):gf g ⟨th,ix⟩=none:=by
 rw[eQ,decide_eq_true_iff] at h;cases th with
 | negSucc t=>rfl
 | ofNat t=>
  have h:g.threads.length<t:=Int.ofNat_lt.1 h;cases t with
  | zero=>omega
  | succ t=>
   cases ix with
   | negSucc n=>rfl
   | ofNat n=>
    show(g.threads[t]?).bind _=none
    grind
theorem HB {n:Int} (h:cW n 0=false):∃m:Nat,n= .ofNat m:=by
 rw[eQ,decide_eq_false_iff_not] at h;cases n with
 | ofNat m=>exact⟨m,Z⟩
 | negSucc m=>omega
theorem Sd {n:Nat} (h:bD (.ofNat n) 0=false):∃m:Nat,n=m+1:=by
 cases n with
 | zero=>cases h
 | succ m=>exact⟨m,Z⟩
theorem gy {t:Nat} (h:t<=9223372036854775807):wr .i64 (Int.sub (.ofNat (t+1)) 1)= .ofNat t:=by
 have e:Int.sub (.ofNat (t+1)) 1= .ofNat t:=by
  grind
 rw[e];show(bif Nat.ble t 9223372036854775807 then _ else _)=_
 grind [nE_]
theorem zx {a b:Nat} (h:cW (.ofNat a) (.ofNat b)=false):b<=a:=bI h
theorem mK {a b:Nat} (h:(bif cW (.ofNat a) (.ofNat b) then false else true)=false):a<b:=aS (dg h)
theorem mE {a b:Nat} (h:(bif cW (.ofNat a) (.ofNat b) then false else true)=true):b<=a:=bI (eb h)
section
variable {P:Program} {G:Cx} {n:Nat} {t:PT Y} {V:D} {Q:Ex->PT Y->D->Prop}
theorem DB {fn:Func} {k ty b m:Nat} {ro:Bool} {cells:List Y} {v:Y} (u:fn.results.toList= [.cell j ty,.tmp k]) (h1:t.get j=some (.ptr b 0)) (hm:V.m.get b=some (.row cells e ro)) (A:dE P ty=some (some m)) (hn:cells.length=m) (C:t.get k=some v):ec P fn t V=some (.tuple [.agg cells,v]):=by
 unfold ec;rw[u]
 have e1:gj P t V (.cell j ty)=some (Y.agg cells):=by
  show(match t.get (posOf j) with
   | some (.ptr b off)=>match V.m.get b with
    | some (.row cells _ _)=>match dE P ty with
     | some (some n)=>bif Nat.ble (off+n) (dt cells) then some (Y.agg<|takeN (dZ cells off) n) else none
     | some none=>nth cells off
     | none=>none
    | _=>none
   | _=>none)=_
  rw[show t.get (posOf j)=some (.ptr b 0) from h1];dsimp only;rw[hm];dsimp only;rw[A];dsimp only;rw[cC,hn,nA_,show Nat.ble m m=true by simp_all,dT,eB,List.drop_zero,<-hn,List.take_length];rfl
 have e2:gj P t V (.tmp k)=some v:=C
 have:cX (gj P t V) [.cell j ty,.tmp k]=some [Y.agg cells,v]:=by
  unfold cX;simp only[e1,e2]
 rw[this]
theorem eL {fn:Func} {R:Y->D->Prop} {k ty b m:Nat} {ro:Bool} {cells:List Y} {v:Y} (u:fn.results.toList= [.cell j ty,.tmp k]) (h1:t.get j=some (.ptr b 0)) (hm:V.m.get b=some (.row cells e ro)) (A:dE P ty=some (some m)) (hn:cells.length=m) (C:t.get k=some v) (E:R (.tuple [.agg cells,v]) V):G6 P fn R .ret t V:=
 ⟨.inr Z,_,DB u h1 hm A hn C,E⟩
end
end Go.Ev
namespace Go.Ev
variable [Env]
def gn (g:XG) (id from_:bV):Bool:=
 bif !dq (xw<|gf g id) then dv [from_.bM,from_.index] [0,0] else
 bif (gf g from_).isSome then
  bif (bif dv [from_.bM,from_.index] [id.bM,id.index] then false else true) then
   bif bQ (xw<|gf g from_) then
    bif bD (xw<|gf g from_).loc (xw<|gf g id).loc then bD (xw<|gf g from_).write (xw<|gf g id).read else false
   else false
  else false
 else false
def jU (g:XG):Bool:=bif cW 4 (.ofNat g.threads.length) then true else bif cW 6 (.ofNat g.init.length) then true else g.threads.any fun l=>cW 14 (.ofNat l.length)
end Go.Ev
namespace Go.Ev
variable [Env] {fs:Array Field} {es:List eC} {ck kn:Nat} {ko mo xo:Operand} {et kt:TypeId}
abbrev LM:=List (List Int×Int)
inductive fy (n:Nat):List eC->LM->Prop
 | nil:fy n [] []
 | cons {e:eC} {k:List Int} {v:Int} {es:List eC} {m:LM}:k.length=n->e.key= .agg (ints k)->e.val= .int .i64 v->fy n es m->fy n (e::es) ((k,v)::m)
def qK:LM->List Int->Nat->Option (Nat×Int)
 | [],_,_=>none
 | (k',v)::m,k,i=>bif dv k k' then some (i,v) else qK m k (i+1)
def fU (m:LM) (k:List Int):Option Int:=(qK m k 0).map (·.2)
def qL (m:LM) (k:List Int) (v:Int):LM:=
 match qK m k 0 with
 | some (i,_)=>m.set i (k,v)
 | none=>m++[(k,v)]
def lD (m:LM) (k:List Int):LM:=
 match qK m k 0 with
 | some (i,_)=>m.eraseIdx i
 | none=>m
theorem fy.length {n:Nat} {es:List eC} {m:LM} (h:fy n es m):es.length=m.length:=by
 induction h with
 | nil=>rfl
 | cons _ _ _ _ ih=>simp[ih]
theorem fy.set {n:Nat} {es:List eC} {m:LM} (h:fy n es m) {e:eC} {k:List Int} {v:Int} (h1:k.length=n) (u:e.key= .agg (ints k)) (h3:e.val= .int .i64 v):∀i,fy n (es.set i e) (m.set i (k,v)):=by
 induction h with
 | nil=>intro i;exact .nil
 | cons a b c d ih=>
  intro i;cases i with
  | zero=>exact .cons h1 u h3 d
  | succ i=>exact .cons a b c (ih i)
theorem fy.snoc {n:Nat} {m:LM} (h:fy n es m) {e:eC} {k:List Int} {v:Int} (h1:k.length=n) (u:e.key= .agg (ints k)) (h3:e.val= .int .i64 v):fy n (es++[e]) (m++[(k,v)]):=by
 induction h with
 | nil=>exact .cons h1 u h3 .nil
 | cons a b c d ih=>exact .cons a b c ih
theorem fy.erase {n:Nat} {m:LM} (h:fy n es m):∀i,fy n (es.eraseIdx i) (m.eraseIdx i):=by
 induction h with
 | nil=>intro i;exact .nil
 | cons a b c d ih=>
  intro i;cases i with
  | zero=>exact d
  | succ i=>exact .cons a b c (ih i)
theorem fy.at {n:Nat} {m:LM} (h:fy n es m):∀{i:Nat} {k:List Int} {v:Int},m[i]? =some (k,v)->∃e,es[i]? =some e/\k.length=n/\e.key= .agg (ints k):=by
 induction h with
 | nil=>simp_all
 | cons a b c d ih=>
  grind
theorem yD:∀(es:List eC) (i:Nat),yC es i=es.eraseIdx i
 | [],_=>rfl
 | _::_,0=>rfl
 | e::es,i+1=>by
  show e::yC es i=e::es.eraseIdx i;rw[yD es i]
theorem rP:∀{m:LM} {k:List Int} {i j:Nat} {v:Int},qK m k i=some (j,v)->i<=j/\m[j-i]? =some (k,v)
 | [],k,i,j,v,h=>by cases h
 | (k',v')::m,k,i,j,v,h=>by
  have h':(bif dv k k' then some (i,v') else qK m k (i+1))=some (j,v):=h;cases u:dv k k' with
  | true=>
   grind [eh]
  | false=>
   rw[u] at h';obtain⟨h1,h2⟩:=rP h'
   grind
theorem nD:∀(xs:List Int),oc (ints xs) (ints xs)=true
 | []=>rfl
 | x::xs=>by
  have e:tf (.int .i64 x) (.int .i64 x)=some true:=by
   show(bif uj .i64 .i64 then some (bD x x) else none)=some true;rw[dS];simp[uj]
  show(match tf (.int .i64 x) (.int .i64 x) with | some true=>oc (ints xs) (ints xs) | _=>false)=true;rw[e];exact nD xs
section
variable {P:Program}
theorem yW {t:TypeId} {n:Nat} (hu:P.underlying t=some (.struct fs)) (u:jy P t n=true) {k:List Int} (hk:k.length=n) {m:LM} (h:fy n es m):∀i,nr P t (.agg<|ints k) es i=some ((qK m k i).map fun x=>(x.1,.int .i64 x.2)):=by
 induction h with
 | nil=>intro i;rfl
 | @cons e k' v es m a b c d ih=>
  intro i
  have hq:lh P t (.agg<|ints k) e.key=some (dv k k'):=by
   unfold lh;rw[hu,b];exact ui u hk a
  show(match lh P t (.agg<|ints k) e.key with
   | some true=>some (some (i,e.val))
   | some false=>nr P t (.agg<|ints k) es (i+1)
   | none=>none)=some (Option.map _ (bif dv k k' then some (i,v) else qK m k (i+1)))
  grind
structure Gz (P:Program) (t kt et:TypeId) (n:Nat):Prop where
 ty:P.underlying t=some (.map kt et)
 plain:plainKey P kt=true
 ints:jy P kt n=true
 zero:fx P et=some (.int .i64 0)
 shape:∀k:List Int,k.length=n->jL P kt (.agg<|Go.Ev.ints k)=true
theorem iV {t:TypeId} {n:Nat} (h:jy P t n=true):∃fs,P.underlying t=some (.struct fs):=by
 grind [jy,structOf,oT]
variable {G:Cx} {ev:Operand->Option Y} {V:D}
theorem P9 {t:TypeId} {n:Nat} (u:Gz P t kt et n) {b:Nat} {m:LM} (hm:fy n es m) (hb:V.m.get b=some (.map es ck)) {k:List Int} {v:Int} (hk:k.length=n) (h1:ev mo=some (.map b)) (C:ev ko=some (.agg<|ints k)) (h3:ev xo=some (.int .i64 v)):
  ∃es' ck',dM P G ev V (.mapUpdate t mo ko xo)= .skip (V.setObj b (.map es' ck'))/\fy n es' (qL m k v):=by
 obtain⟨fs,hu⟩:=iV u.ints;have hf:=yW hu u.ints hk hm 0
 have key:∃es' ck',kS P V t (.map b) (.agg<|ints k) (.int .i64 v)=some (V.setObj b (.map es' ck'))/\fy n es' (qL m k v):=by
  unfold kS qL;rw[u.ty];dsimp only;rw[hb];dsimp only;rw[u.plain,u.shape k hk];simp only[Bool.and_self,cond_true];rw[hf];cases hl:qK m k 0 with
  | none=>exact⟨_,_,Z,by rw[dU];exact hm.snoc hk Z Z⟩
  | some x=>
   obtain⟨i,v0⟩:=x;have hi:=(rP hl).2;rw[Nat.sub_zero] at hi;obtain⟨e,he,_,A⟩:=hm.at hi;simp only[Option.map_some];rw[fL,he];dsimp only;have E:sameKey e.key (.agg<|ints k)=true:=by rw[A];exact nD k
   rw[E];exact⟨_,_,Z,by unfold we;rw[r6];exact hm.set (e:={key:=.agg<|ints k,val:=.int .i64 v,born:=e.born}) hk Z Z i⟩
 obtain⟨es',ck',F,h5⟩:=key;refine⟨es',ck',jV Z ?_,h5⟩;simp only[fX,h1,C,h3,F]
theorem P0 {t:TypeId} {n:Nat} (u:Gz P t kt et n) {b:Nat} {m:LM} (hm:fy n es m) (hb:V.m.get b=some (.map es ck)) {k:List Int} (hk:k.length=n) (h1:ev mo=some (.map b)) (A:ev ko=some (.agg<|ints k)):
  dM P G ev V (.lookup t mo ko true)= .val (.tuple [.int .i64 ((fU m k).getD 0),.bool (fU m k).isSome]) V:=by
 obtain⟨fs,hu⟩:=iV u.ints;have hf:=yW hu u.ints hk hm 0;refine AE Z ?_;simp only[gG,u.ty,A,h1,hb,u.plain,u.shape k hk,Bool.and_self,cond_true,hf,u.zero];unfold fU;cases qK m k 0 with
 | none=>rfl
 | some x=>rfl
theorem PY {c:Call} {t:TypeId} {n:Nat} (u:Gz P t kt et n) {b:Nat} {m:LM} (hm:fy n es m) (hb:V.m.get b=some (.map es ck)) {k:List Int} (hk:k.length=n) (hc:c.callee= .builtin .delete) (A:c.argTypes[0]? =some t) (C:c.args.toList= [mo,ko]) (h1:ev mo=some (.map b)) (E:ev ko=some (.agg<|ints k)):
  ∃es',dM P G ev V (.call c)= .val (.tuple []) (V.setObj b (.map es' ck))/\fy n es' (lD m k):=by
 obtain⟨fs,hu⟩:=iV u.ints;have hf:=yW hu u.ints hk hm 0
 have key:∃es',rH P V c.argTypes (.map b) (.agg<|ints k)=some (V.setObj b (.map es' ck))/\fy n es' (lD m k):=by
  unfold rH lD;rw[A];dsimp only;rw[u.ty];dsimp only;rw[hb];dsimp only;rw[u.plain,u.shape k hk];simp only[Bool.and_self,cond_true];rw[hf];cases hl:qK m k 0 with
  | none=>grind
  | some x=>
   obtain⟨i,v0⟩:=x;exact⟨_,Z,by rw[yD];exact hm.erase i⟩
 obtain⟨es',F,h5⟩:=key;refine⟨es',jV (by simp[kindOf,hc]) ?_,h5⟩
 have he:mB ev [mo,ko]=some [.map b,.agg<|ints k]:=by
  unfold mB cX;simp only[h1,E]
 simp only[fX,hc,C,he,F]
theorem PZ {c:Call} {t:TypeId} {n:Nat} (u:Gz P t kt et n) {b:Nat} {m:LM} (hm:fy n es m) (hb:V.m.get b=some (.map es ck)) (hc:c.callee= .builtin .len) (A:c.argTypes[0]? =some t) (C:c.args.toList= [mo]) (h1:ev mo=some (.map b)):
  dM P G ev V (.call c)= .val (.int .i64 (.ofNat m.length)) V:=by
 refine AE (by simp[kindOf,hc,isMap,A,u.ty]) ?_;simp only[gG,hc,A,C,u.ty,h1,hb,cC,hm.length]
end
section
variable {P:Program} {G:Cx} {n:Nat} {t:PT Y} {V:D} {K:KP} {L:Own} {Q:Ex->PT Y->D->Prop} {ops:Array Oper} {o:Oper} {l:List Oper}
theorem S3 (u:H V K L) {t':Nat->PT Y} (hw:bH ops t o=some true) (hv:dM P G (bA G t) V o.op= .val (.map V.next) (V.alloc (.map [] 0))) (hp:∀b,dA t n o.dst (.map b)=some (t' b))
  (h:∀(V':D) (b:Nat),H V' K ((b,.map [] 0)::L)->bL P G ops n l (t' b) V' Q):bL P G ops n (o::l) t V Q:=
 S hw hv (hp _) (h _ _<|u.alloc _)
theorem CJ {ev:Operand->Option Y} {ty:TypeId}:dM P G ev V (.makeMap ty none)= .val (.map V.next) (V.alloc (.map [] 0)):=by
 exact vn (op:=.makeMap ty none) (mk:=.map) (ob:=.map [] 0) Z Z
theorem LA {ty:TypeId} (A:Gz P ty kt et kn) {b:Nat} {m:LM} {x:Nat×cd} (hm:fy kn es m) (u:H V K (x::(b,.map es ck)::L)) {k:List Int} {v:Int} {t':PT Y} (hk:k.length=kn) (hw:bH ops t o=some true) (C:o.op= .mapUpdate ty mo ko xo)
  (h1:bA G t mo=some (.map b)) (E:bA G t ko=some (.agg<|ints k)) (h3:bA G t xo=some (.int .i64 v)) (hp:dA t n o.dst unit=some t')
  (h:∀V' es' ck',H V' K (x::(b,.map es' ck')::L)->fy kn es' (qL m k v)->bL P G ops n l t' V' Q):bL P G ops n (o::l) t V Q:=by
 obtain⟨es',ck',e1,e2⟩:=P9 (G:=G) A hm (u.get 1 Z) hk h1 E h3;exact iu hw (by rw[C];exact e1) hp<|h _ _ _ (u.R9 _) e2
theorem Lz {c:Call} {ty:TypeId} (A:Gz P ty kt et kn) {b:Nat} {m:LM} {x:Nat×cd} (hm:fy kn es m) (u:H V K (x::(b,.map es ck)::L)) {k:List Int} {t':PT Y} (hk:k.length=kn) (hw:bH ops t o=some true) (C:o.op= .call c)
  (hc:c.callee= .builtin .delete) (E:c.argTypes[0]? =some ty) (F:c.args.toList= [mo,ko]) (h1:bA G t mo=some (.map b)) (I:bA G t ko=some (.agg<|ints k)) (hp:dA t n o.dst (.tuple [])=some t')
  (h:∀V' es',H V' K (x::(b,.map es' ck)::L)->fy kn es' (lD m k)->bL P G ops n l t' V' Q):bL P G ops n (o::l) t V Q:=by
 obtain⟨es',e1,e2⟩:=PY (G:=G) A hm (u.get 1 Z) hk hc E F h1 I;exact S hw (by rw[C];exact e1) hp<|h _ _ (u.R9 _) e2
end
end Go.Ev
namespace Go.Ev
variable [Env] {α:Type}
def zm (t:Nat) (m:LM) (n:Nat) (e:bW):LM:=bif bQ e then qL m [.ofNat (t+1),.ofNat n] e.loc else m
def sk (t:Nat):List bW->Nat->LM->LM
 | [],_,m=>m
 | e::l,n,m=>sk t l (n+1) (zm t m n e)
def pW:List (List bW)->Nat->LM->LM
 | [],_,m=>m
 | l::r,t,m=>pW r (t+1) (sk t l 0 m)
def lJ (loc:Nat):List bV->LM->Option LM
 | [],m=>some m
 | id::l,m=>bif (fU m id.ints).isSome then(bif bD ((fU m id.ints).getD 0) (.ofNat loc) then lJ loc l (lD m id.ints) else none) else none
def nG:List (List bV)->Nat->LM->Option LM
 | [],_,m=>some m
 | l::r,loc,m=>(lJ loc l m).bind (nG r (loc+1))
def eY (g:XG):Bool:=
 match nG g.order 0 (pW g.threads 0 []) with
 | some m=>bD (.ofNat m.length) 0
 | none=>false
theorem cT {l:List α} {i:Nat} {x:α} (h:l[i]? =some x):l.drop i=x::l.drop (i+1):=by
 grind [zj_]
theorem eK {l:List α} {i:Nat} (h:l.length<=i):l.drop i= []:=List.drop_eq_nil_of_le h
end Go.Ev
namespace Go.Ev
theorem sL {b:Bool} (h:(!b)=true):b=false:=by cases b<;>simp_all
theorem mM {b:Bool} (h:(!b)=false):b=true:=by cases b<;>simp_all
end Go.Ev
namespace Go.Ev
variable [Env]
def fK {α:Type} (p:α->Bool):List α->Nat->Int
 | [],_=>-1
 | x::r,i=>bif p x then .ofNat i else fK p r (i+1)
theorem zk {α:Type} {p:α->Bool}:∀(l:List α) (i:Nat),(bif cW (fK p l i) 0 then false else true)=l.any p
 | [],_=>rfl
 | x::r,i=>by
  show(bif cW (bif p x then .ofNat i else fK p r (i+1)) 0 then false else true)=_;rw[List.any_cons];cases p x with
  | true=>rfl
  | false=>exact zk r (i+1)
def Ea (g:XG) (t n:Nat) (e:bW) (f:bV):Bool:=bif cj e (.ofNat g.init.length) then gn g ⟨.ofNat (t+1),.ofNat n⟩ f else false
def q8 (g:XG) (t:Nat):List bW->List bV->Nat->Bool
 | e::l,f::q,n=>bif Ea g t n e f then q8 g t l q (n+1) else false
 | [],_,_=>true
 | _::_,[],_=>false
def lE (g:XG):List (List bW)->List (List bV)->Nat->Bool
 | l::r,f::q,t=>bif bD (.ofNat f.length) (.ofNat l.length) then(bif q8 g t l f 0 then lE g r q (t+1) else false) else false
 | [],_,_=>true
 | _::_,[],_=>false
def eu (g:XG):Int:=
 bif jU g then 3 else bif bD (.ofNat g.from_.length) (.ofNat g.threads.length) then(bif bD (.ofNat g.order.length) (.ofNat g.init.length) then(bif lE g g.threads g.from_ 0 then(bif eY g then 0 else 2) else 2) else 2) else 2
end Go.Ev
namespace Go.Ev
variable [Env] {α:Type} {ts:Array TypeId} {cl:Call} {cells1:List Y} {e e1:Nat} {so xo:Operand} {ev:Operand->Option Y} {X v2:Y} {R:α->List Y->Prop}
theorem Ao:∀(l:List Y) (off:Nat),dp [] l off=l
 | [],_=>rfl
 | x::l,0=>rfl
 | x::l,off+1=>by
  show x::dp [] l off=x::l;rw[Ao l off]
def qc (P:Program) (e:TypeId) (m:Nat):Bool:=
 match P.info? e with
 | some j=>Nat.beq j.size m && (Nat.ble 1 j.size && (Nat.ble j.bytes 65536 && ((j.zero.bind qM).any fun z=>(cE z).any fun cs=>Nat.beq (dt cs) j.size)))
 | none=>false
theorem wv:∀(l r:List Y),cg l=true->cg r=true->cg (l++r)=true
 | [],r,_,h=>h
 | v::l,r,h,h'=>by
  have h1:(bif eX v then cg l else false)=true:=h;cases hv:eX v with
  | false=>rw[hv] at h1;cases h1
  | true=>rw[hv] at h1;exact aj hv<|wv l r h1 h'
theorem wV {m:Nat}:∀(n:Nat) (cells:List Y),cells.length=n*m->(∀i,i<n->cg ((cells.drop (i*m)).take m)=true)->cg cells=true
 | 0,cells,h,_=>by
  rw[Nat.zero_mul] at h;rw[eN_ h];rfl
 | n+1,cells,h,hh=>by
  have e:cells=cells.take m++cells.drop m:=(List.take_append_drop m cells).symm;rw[Nat.succ_mul] at h;rw[e];refine wv _ _ (by have:=hh 0 oM;grind) (wV (m:=m) n (cells.drop m) (by grind) fun i hi=>?_)
  grind [Nat.succ_mul,zl_]
section
variable {P:Program} {G:Cx} {V:D} {K:KP} {L:Own}
theorem oN {m:Nat} {l:List α} {v:Y} (O:H V K L) (h:bG K m R l v) (u:∀x vs,R x vs->cg vs=true):
  ∃news,lV V m v=some (l.length,news)/\news.length=l.length*m/\cg news=true/\∀(i:Nat) (x:α),l[i]? =some x->R x ((news.drop (i*m)).take m):=by
 rcases h with ⟨rfl,rfl⟩ | ⟨b,off,c,cells,e,ro,rfl,h2,h3,h4,h5,h6⟩
 ·exact⟨[],Z,(Nat.zero_mul m).symm,Z,fun i x hx=>by simp at hx⟩
 have C:∀(i:Nat) (x:α),l[i]? =some x->R x ((((cells.drop off).take (l.length*m)).drop (i*m)).take m):=fun i x hx=>by
  have A:i<l.length:=(gA.1 hx).1;have hle:(i+1)*m<=l.length*m:=nM_ _ A
  grind [List.drop_take,zl_]
 have hn:((cells.drop off).take (l.length*m)).length=l.length*m:=by grind
 refine⟨(cells.drop off).take (l.length*m),?_,hn,wV l.length _ hn fun i hi=>u _ _ (C i l[i]<|gC hi),C⟩;unfold lV;dsimp only;rw[O.bJ h3]
 grind [cC,nE_,dT,eB]
theorem AA {m:Nat} {l2:List α} {b u:Nat} {c:oY} {t:TypeId} (M:H V K ((b,.row cells1 e1 false)::L)) (hx:bG K m R l2 v2) (F:∀x vs,R x vs->cg vs=true) (hn:l2.length<=1048576)
  (I:cells1.length=u*m) (aa:u<=1048576) (N:c= .known u∨(c= .upto m/\e1=e)) (ht:ts[0]? =some t) (hu:P.underlying t=some (.slice e)) (T:qc P e m=true) (h2:dN P ts[1]? =true):
  ∃V' b' c' news e',fI P V ts (.slice b 0 u c) v2= .val (.slice b' 0 (u+l2.length) c') V'/\H V' K ((b',.row (cells1++news) e' false)::L)/\news.length=l2.length*m/\(∀(i:Nat) (x:α),l2[i]? =some x->R x ((news.drop (i*m)).take m))/\(c'= .known (u+l2.length)∨(c'= .upto m/\e'=e)):=by
 obtain⟨news,s1,s2,s3,X⟩:=oN M hx F;unfold qc at T;split at T
 ·rename_i j hj;simp only[bA_] at T;obtain⟨a1,a2,a3,a4⟩:=T;have hm:j.size=m:=nB a1;subst hm;have hz:((P.info? e).any fun j=>(j.zero.bind qM).any fun z=>(cE z).any fun cs=>Nat.beq (dt cs) j.size)=true:=by rw[hj];exact a4
  have hb:=M.get 0 Z;unfold fI;rw[ht];dsimp only;rw[hu];dsimp only;rw[hj];dsimp only;rw[h2,a2,a3];simp only[Bool.and_self,cond_true];rw[s1];dsimp only;rw[hj] at hz;rw[s3,show Nat.ble l2.length 1048576=true by simp_all,hz];simp only[Bool.and_self,cond_true];have hle:Nat.ble (0+u*j.size) (dt cells1)=true:=by rw[nE_,cC,I];omega
  have C:takeN (dZ cells1 0) (u*j.size)=cells1:=by grind [dT,eB]
  have E:Nat.ble u 1048576=true:=by simp_all
  rcases N with rfl | ⟨rfl,rfl⟩
  ·dsimp only
   by_cases h0:l2.length=0
   ·have A:news= []:=eN_ (by simp_all);subst A;rw[h0,show Nat.ble (u+0) u=true by simp_all];simp only[cond_true];rw[hb];dsimp only;rw[show Nat.ble (0+u*j.size+dt []) (dt cells1)=true by rw[nE_,cC,cC,I];simp];simp only[cond_true];refine⟨_,b,.known u,[],e1,Z,?_,by simp,X,.inl Z⟩;rw[Ao,zk_];exact M.nU _
   have:Nat.ble (u+l2.length) u=false:=by
    grind [nE_]
   rw[this];simp only[cond_false];rw[hb];dsimp only;rw[hle,E,C,dU];simp only[Bool.and_self,cond_true];refine⟨_,_,_,news,e,Z,?_,s2,X,.inr ⟨Z,Z⟩⟩;exact((M.alloc _).perm<|List.Perm.swap ..).pop
  dsimp only
  by_cases h0:l2.length=0
  ·have A:news= []:=eN_ (by simp_all);subst A;rw[h0];exact⟨_,b,.upto j.size,[],e1,Z,by simp_all,by simp,X,.inr ⟨Z,Z⟩⟩
  have:Nat.beq l2.length 0=false:=by
   grind [nB]
  rw[this,Nat.beq_refl,E];simp only[Bool.and_self,cond_true,cond_false];rw[hb];dsimp only
  have W:Nat.ble (0+u*j.size+dt news) (dt cells1)=false:=by
   cases hh:Nat.ble (0+u*j.size+dt news) (dt cells1) with
   | false=>rfl
   | true=>
    rw[nE_,cC,cC,I,s2] at hh;have h1:1<=j.size:=by simp_all
    have:1<=l2.length*j.size:=Nat.mul_pos oM h1;omega
  rw[W,Bool.and_false];simp only[cond_false];rw[hle,Nat.beq_refl,C,dU];simp only[Bool.and_self,cond_true];exact⟨_,_,_,news,e1,Z,M.Dz _,s2,X,.inr ⟨Z,Z⟩⟩
 cases T
end
section
variable {P:Program} {G:Cx} {n:Nat} {t:PT Y} {V:D} {K:KP} {L:Own} {Q:Ex->PT Y->D->Prop} {ops:Array Oper} {o:Oper} {l:List Oper}
theorem gq {s x:Y} {r:HR} (hc:cl.callee= .builtin .append) (A:cl.args.toList= [so,xo]) (h1:ev so=some s) (C:ev xo=some x) (u:dN P cl.argTypes[1]? =true) (h:fI P V cl.argTypes s x=r):dM P G ev V (.call cl)=r:=by
 refine jV (by simp[kindOf,hc]) ?_
 have he:mB ev [so,xo]=some [s,x]:=by
  unfold mB cX;simp only[h1,C]
 simp only[fX,hc,A,he,u,cond_true];exact h
theorem zJ {m:Nat} {l2:List α} {b u:Nat} {A:List Y} {c:oY} {ty:TypeId} {t':Y->PT Y} (hs:H V K ((b,.row A e1 false)::L)) (hx:bG K m R l2 X) (C:∀x vs,R x vs->cg vs=true) (hn:l2.length<=1048576)
  (I:A.length=u*m) (M:u<=1048576) (F:c= .known u∨(c= .upto m/\e1=e)) (hw:bH ops t o=some true) (ho:o.op= .call cl) (N:cl.callee= .builtin .append) (E:cl.args.toList= [so,xo]) (ht:cl.argTypes[0]? =some ty) (hu:P.underlying ty=some (.slice e)) (ha:qc P e m=true) (h2:dN P cl.argTypes[1]? =true)
  (T:bA G t so=some (.slice b 0 u c)) (W:bA G t xo=some X) (hp:∀v,dA t n o.dst v=some (t' v))
  (h:∀(V':D) (b':Nat) (c':oY) (news:List Y) (e':Nat),H V' K ((b',.row (A++news) e' false)::L)->news.length=l2.length*m->(∀(i:Nat) (x:α),l2[i]? =some x->R x ((news.drop (i*m)).take m))->(c'= .known (u+l2.length)∨(c'= .upto m/\e'=e))->bL P G ops n l (t' (.slice b' 0 (u+l2.length) c')) V' Q):bL P G ops n (o::l) t V Q:=by
 obtain⟨V',b',c',news,e',k1,k2,k3,k4,k5⟩:=AA (P:=P) hs hx C hn I M F ht hu ha h2;refine S hw ?_ (hp _)<|h V' b' c' news e' k2 k3 k4 k5;rw[ho];exact gq N E T W h2 k1
end
end Go.Ev
namespace Go.Ev
variable [Env]
section
variable {P:Program} {G:Cx} {n:Nat} {t:PT Y} {V:D} {K:KP} {L:Own} {Q:Ex->PT Y->D->Prop} {ops:Array Oper} {o:Oper} {l:List Oper}
end
theorem lI {g:XG} (h:eu g=0):g.threads.length<=4/\g.init.length<=6/\(∀l∈g.threads,l.length<=14)/\g.from_.length=g.threads.length/\g.order.length=g.init.length/\lE g g.threads g.from_ 0=true/\eY g=true:=by
 unfold eu at h;cases h1:jU g with
 | true=>rw[h1] at h;cases h
 | false=>
  rw[h1] at h;simp only[cond_false] at h;cases u:bD (.ofNat g.from_.length) (.ofNat g.threads.length) with
  | false=>rw[u] at h;cases h
  | true=>
   rw[u] at h;simp only[cond_true] at h;cases h3:bD (.ofNat g.order.length) (.ofNat g.init.length) with
   | false=>rw[h3] at h;cases h
   | true=>
    rw[h3] at h;simp only[cond_true] at h;cases A:lE g g.threads g.from_ 0 with
    | false=>rw[A] at h;cases h
    | true=>
     rw[A] at h;simp only[cond_true] at h;cases h5:eY g with
     | false=>rw[h5] at h;cases h
     | true=>
      unfold jU at h1;cases C:cW 4 (.ofNat g.threads.length) with
      | true=>simp_all
      | false=>
       rw[C] at h1;simp only[cond_false] at h1;cases E:cW 6 (.ofNat g.init.length) with
       | true=>simp_all
       | false=>
        rw[E] at h1;simp only[cond_false] at h1;refine⟨bI (a:=4) C,bI (a:=6) E,fun l hl=>?_,qI u,qI h3,Z,Z⟩;have:=List.any_eq_false.1 h1 l hl;exact bI (a:=14) (by simpa using this)
theorem SD {a b:Nat} (h:a+b<=9223372036854775807):wr .i64 (Int.add (.ofNat a) (.ofNat b))= .ofNat (a+b):=by
 show(bif Nat.ble (a+b) 9223372036854775807 then _ else _)=_
 grind [nE_]
end Go.Ev
namespace Go.Ev
variable [Env]
theorem UX {a:Int} (h:bD a 0=true):a=0:=by rw[dS] at h;simp_all
theorem D5 {a b:Nat} (h:b<=a) (h':a<=9223372036854775807):wr .i64 (Int.sub (.ofNat a) (.ofNat b))= .ofNat (a-b):=by
 have e:Int.sub (.ofNat a) (.ofNat b)= .ofNat (a-b):=by
  grind
 rw[e];show(bif Nat.ble (a-b) 9223372036854775807 then _ else _)=_
 grind [nE_]
end Go.Ev
namespace Go.Ev
variable [Env]
variable {α:Type} {parts:Array (Nat×Operand)} {cs:List Y} {e:Nat} {ev:Operand->Option Y} {M:Own}
section
variable {V:D} {K K':KP} {L:Own}
theorem H.weaken (h:H V K' L) (hk:KP.le K K'):H V K L where
 kept b o hb:=h.kept b o (hk b o hb)
 own:=h.own
 ne:=h.ne
def KP.gw (K:KP) (M:Own):KP:=fun b o=>K b o∨(b,o)∈M
theorem KP.cR (K:KP) (M:Own):KP.le K (K.gw M):=fun _ _ h=>.inl h
theorem KP.cu (k:Nat) {b:Nat} {o:cd} (h:M[k]? =some (b,o)):K.gw M b o:=.inr (gB_ h)
theorem H.keeps {M:Own} (h:H V K (M++L)):H V (K.gw M) L where
 kept b o hb:=by
  rcases hb with hb | hb
  ·exact h.cF.kept b o hb
  obtain⟨h1,u⟩:=h.own _ (List.mem_append_left _ hb);exact⟨h1,u,fun e he hh=>(List.pairwise_append.1 h.ne).2.2 _ hb e he hh.symm⟩
 own e he:=h.own e (List.mem_append_right _ he)
 ne:=(List.pairwise_append.1 h.ne).2.1
theorem gx {b:Nat} {ro:Bool} {cells:List Y} (h:K b (.row cells e ro)):eT K (.ptr b 0) cells:=⟨b,0,cells,e,ro,Z,h,by omega,by simp⟩
end
section
variable {P:Program} {G:Cx} {K K':KP}
def xq (P:Program) (G:Cx) (K:KP) (n:Int) (vs:List Y):Prop:=
 ∃(f:Nat) (ca:List Y),vs= [.func f [] ca]/\lz P f=true/\∀(V:D) (L:Own),H V K L->aW P G f ca V fun v V'=>v= .int .i64 n/\H V' K L
def fE (P:Program) (G:Cx) (K:KP) (l:List Int) (cells:List Y):Prop:=l.length=cells.length/\∀(i:Nat) (x:Int),l[i]? =some x->∃c,cells[i]? =some c/\xq P G K x [c]
theorem fE.nil:fE P G K [] []:=⟨Z,fun i x h=>by simp at h⟩
theorem fE.cons {x:Int} {l:List Int} {c:Y} {cells:List Y} (h:xq P G K x [c]) (u:fE P G K l cells):fE P G K (x::l) (c::cells):=by
 refine⟨by simp[u.1],fun i y hy=>?_⟩;cases i with
 | zero=>simp_all
 | succ i=>exact u.2 i y (by simpa using hy)
theorem fE.slice {l:List Int} {cells:List Y} (h:fE P G K l cells) {b e n c:Nat} (hk:K b (.row cells e false)) (hn:l.length=n) (hc:n<=c) (hl:n<=9223372036854775807):bG K 1 (xq P G K) l (.slice b 0 n (.known c)):=by
 subst hn;refine .inr ⟨b,0,_,cells,e,false,Z,.inr ⟨_,Z,hc⟩,hk,by rw[h.1];omega,hl,fun i x hx=>?_⟩;obtain⟨c,hc,u⟩:=h.2 i x hx
 have:(cells.drop (0+i*1)).take 1= [c]:=by
  obtain⟨aa,rfl⟩:=gA.1 hc
  grind [zj_]
 rw[this];exact u
theorem mi {f:Nat} {args:List Y} {V:D} {L:Own} {u:Y} (h:aW P G f args V fun v V'=>v=u/\H V' (K.gw M) L):aW P G f args V fun v V'=>v=u/\H V' K L:=
 h.mono fun _ _ ⟨a,b⟩=>⟨a,b.weaken<|K.cR M⟩
theorem cM {V:D} {t e:TypeId} {len m:Nat} {z:List Y} (A:P.underlying t=some (.slice e)) (hj:(P.info? e).map (·.size)=some m) (C:(fx P e).bind cE=some z)
  (hb:(Nat.beq (dt z) m && Nat.ble (len*m) 16777216 && Nat.ble 1 m)=true) (hf:ka (fun i=>some (i*m,m)) ev parts.toList (ew z len)=some cs):dM P G ev V (.buildSlice t len parts)= .val (.slice V.next 0 len (.known len)) (V.alloc (.row cs e false)):=by
 refine vn (mk:=.slice len len) Z ?_;obtain⟨j,u,rfl⟩:=oM_.1 hj;simp only[fV,A,u,C,hb,cond_true,hf]
end
section
variable {P:Program} {G:Cx} {n:Nat} {t:PT Y} {V:D} {K:KP} {L:Own} {Q:Ex->PT Y->D->Prop} {ops:Array Oper} {o:Oper} {l:List Oper} {ix:Nat} {lp:List (Nat×List Nat)}
end
theorem dF (k:IntKind) (n:Int):dV (.int k n) (.int k n)=true:=by
 unfold Go.Ev.dV;exact im k n
theorem bG.dV {α:Type} {K:KP} {m:Nat} {R:α->List Y->Prop} {l:List α} {v:Y} (h:bG K m R l v):Go.Ev.dV v v=true:=by
 have hb:=h.pj;rcases h with ⟨_,rfl⟩ | ⟨b,off,c,cells,e,ro,rfl,hc,_⟩<;>exact hb
def ff (x y:Int):Int:=bif cW x y then-1 else bif cW y x then 1 else 0
def D7:List Int->Int
 | []=>0
 | x::l=>bif bD x 0 then D7 l else x
def eo {α:Type} (c:α->α->Int):List α->List α->Int
 | [],[]=>0
 | [],_::_=>-1
 | _::_,[]=>1
 | x::l,y::m=>bif bD (c x y) 0 then eo c l m else c x y
theorem S1 (n:Int):(bif bD n n then false else true)=false:=by rw[dS];simp
theorem oj {c:α->α->Int}:∀{l m:List α} {i:Nat} {x:α},l[i]? =some x->m.length<=i->eo c (l.drop i) (m.drop i)=1:=by
 intro l m i x h hm;rw[cT h,eK hm];rfl
theorem oi {c:α->α->Int} {l m:List α} {i:Nat} (h:l.length<=i) (hm:i<=l.length) (hl:l.length<m.length):eo c (l.drop i) (m.drop i)= -1:=by
 obtain⟨y,hy⟩:=da (show i<m.length by omega);rw[eK h,cT hy];rfl
theorem qm {c:α->α->Int} {l m:List α} {i:Nat} (h:l.length<=i) (hl:m.length<=l.length):eo c (l.drop i) (m.drop i)=0:=by
 rw[eK h,eK oM];rfl
theorem om {c:α->α->Int} {l m:List α} {i:Nat} {x y:α} (hx:l[i]? =some x) (hy:m[i]? =some y) (h:bD (c x y) 0=true):eo c (l.drop i) (m.drop i)=eo c (l.drop (i+1)) (m.drop (i+1)):=by
 rw[cT hx,cT hy];show(bif bD (c x y) 0 then _ else _)=_;rw[h];rfl
theorem oq {c:α->α->Int} {l m:List α} {i:Nat} {x y:α} (hx:l[i]? =some x) (hy:m[i]? =some y) (h:bD (c x y) 0=false):eo c (l.drop i) (m.drop i)=c x y:=by
 rw[cT hx,cT hy];show(bif bD (c x y) 0 then _ else _)=_;rw[h];rfl
def iY {α:Type} (a b:List α):Int:=ff (.ofNat a.length) (.ofNat b.length)
def ql (a b:bV):Int:=D7 [ff a.bM b.bM,ff a.index b.index]
def pQ (a b:bW):Int:=D7 [ff a.kind b.kind,ff a.loc b.loc,ff a.order b.order,ff a.read b.read,ff a.write b.write]
def iX (a b:List bV):Int:=D7 [iY a b,eo ql a b]
def ml (a b:XG):Int:=D7 [iY a.threads b.threads,eo iY a.threads b.threads,eo (eo pQ) a.threads b.threads,iY a.from_ b.from_,eo iX a.from_ b.from_,iY a.order b.order,eo iX a.order b.order,iY a.init b.init,eo ff a.init b.init]
end Go.Ev
namespace Go.Ev
variable [Env] {e:Nat}
def cO {α:Type} (m E:Nat) (R:α->List Y->Prop) (l:List α) (u:Y) (M:Own):Prop:=
 (l= []/\u= .aw/\M= [])∨∃(b:Nat) (c:oY) (cells:List Y) (e:Nat),u= .slice b 0 l.length c/\M= [(b,.row cells e false)]/\cells.length=l.length*m/\(∀(i:Nat) (x:α),l[i]? =some x->R x ((cells.drop (i*m)).take m))/\(c= .known l.length∨(c= .upto m/\e=E))/\l.length<=1048576
inductive fq {α:Type} (m E:Nat) (R:α->List Y->Prop):List (List α)->List Y->Own->Prop
 | nil:fq m E R [] [] []
 | snoc {ls:List (List α)} {us:List Y} {M M1:Own} {l:List α} {u:Y}:fq m E R ls us M->cO m E R l u M1->fq m E R (ls++[l]) (us++[u]) (M1++M)
section
variable {α:Type} {m E:Nat} {R:α->List Y->Prop} {l:List α} {u:Y} {M:Own} {K:KP} {ls:List (List α)} {us:List Y}
theorem cO.leaf (h:cO m E R l u M):cE u=some [u]/\eX u=true:=by
 rcases h with ⟨_,rfl,_⟩ | ⟨b,c,cells,e,rfl,_⟩<;>exact⟨rfl,rfl⟩
theorem cO.gB (h:cO m E R l u M) (hk:∀e∈M,K e.1 e.2):bG K m R l u:=by
 rcases h with ⟨h1,A,_⟩ | ⟨b,c,cells,e,rfl,rfl,h3,h4,h5,h6⟩
 ·exact .inl ⟨h1,A⟩
 refine .inr ⟨b,0,c,cells,e,false,Z,?_,hk _<|mS_ ..,by omega,by omega,fun i x hx=>by simp_all⟩;rcases h5 with h5 | h5
 ·exact .inr ⟨_,h5,nR_ _⟩
 exact .inl h5.1
theorem fq.length (h:fq m E R ls us M):us.length=ls.length:=by
 induction h with
 | nil=>rfl
 | snoc _ _ ih=>simp[ih]
theorem fq.at (h:fq m E R ls us M):∀{i:Nat} {l:List α},ls[i]? =some l->∃u M1 A B_,us[i]? =some u/\cO m E R l u M1/\M=A++(M1++B_)/\∀l' u' C,cO m E R l' u' C->fq m E R (ls.set i l') (us.set i u') (A++(C++B_)):=by
 induction h with
 | nil=>simp_all
 | @snoc ls us M M1 l u h h1 ih=>
  intro i x hx;have hl:=h.length
  by_cases hi:i<ls.length
  ·rw[gL_ hi] at hx;obtain⟨F,I,A,B_,k1,N,rfl,T⟩:=ih hx;refine⟨F,I,M1++A,B_,by grind,N,by simp,fun l' u' M' h'=>?_⟩;rw[List.set_append_left _ _ hi,List.set_append_left _ _ oM,lQ_];exact .snoc (T l' u' M' h') h1
  have hlt:=(gA.1 hx).1;rw[lA_,zq_] at hlt;obtain rfl:i=ls.length:=by omega
  rw[gR_<|nR_ _,Nat.sub_self] at hx;simp only[zm_,oJ_] at hx;subst hx;refine⟨u,M1,[],M,by simp_all,h1,Z,fun l' u' M' h'=>?_⟩;rw[List.set_append_right _ _<|nR_ _,List.set_append_right _ _ oM,hl,Nat.sub_self];exact fq.snoc (M1:=M') (M:=M) h h'
theorem fq.each (h:fq m E R ls us M) (hk:∀e∈M,K e.1 e.2):∀(i:Nat) (l:List α),ls[i]? =some l->∃u,us[i]? =some u/\bG K m R l u:=by
 intro i l hl;obtain⟨u,M1,A,B_,h1,C,rfl,_⟩:=h.at hl;exact⟨u,h1,C.gB fun e he=>hk e (by simp[he])⟩
theorem fq.gB (h:fq m E R ls us M) (hk:∀e∈M,K e.1 e.2) {b n:Nat} (hb:K b (.row us e false)) (hn:n=ls.length) (hl:ls.length<=1048576):bG K 1 (RL K m R) ls (.slice b 0 n (.known n)):=by
 subst hn;refine .inr ⟨b,0,_,us,e,false,Z,.inr ⟨_,Z,nR_ _⟩,hb,by rw[h.length];omega,by omega,fun i x hx=>?_⟩;obtain⟨u,h1,A⟩:=h.each hk i x hx;refine⟨u,?_,A⟩;obtain⟨aa,rfl⟩:=gA.1 h1
 grind [zj_]
end
section
variable {V:D} {K:KP} {L M:Own} {b:Nat} {o:cd}
theorem H.NT (h:H V K (M++(b,o)::L)):V.m.get b=some o:=(h.own (b,o) (by simp)).2
theorem H.Ia (h:H V K (M++(b,o)::L)) (o':cd):H (V.setObj b o') K (M++(b,o')::L):=((h.perm List.perm_middle).nU o').perm List.perm_middle.symm
theorem jh (v:Y):∀n,ew [v] n=List.replicate n v
 | 0=>rfl
 | n+1=>by
  show gV [v] (ew [v] n)=_;rw[dU,jh v n];rfl
theorem JO {us:List Y} {u v:Y} {n i:Nat} (hu:us.length=i) (hi:i<n):dp [u] (us++List.replicate (n-i) v) (0+i*1)=(us++[u])++List.replicate (n-(i+1)) v:=by
 obtain⟨k,hk⟩:∃k,n-i=k+1:=⟨n-i-1,by omega⟩;rw[hk,show n-(i+1)=k by omega,show 0+i*1=us.length by omega,ju _ _ _ (by simp),List.take_left,zq_,<-zl_,List.drop_left,List.replicate_succ];rfl
end
section
variable {P:Program} {G:Cx} {ev:Operand->Option Y} {V:D}
theorem gT {t w n:Nat} {k k':IntKind} {z:List Y} {lo co:Operand} (C:P.underlying t=some (.slice e)) (hw:(P.info? e).map (·.bytes)=some w) (F:(fx P e).bind cE=some z)
  (A:((P.info? e).any fun j=>Nat.beq (dt z) j.size && Nat.ble 1 j.size)=true) (hl:ev lo=some (.int k (.ofNat n))) (hc:ev co=some (.int k' (.ofNat n))) (hn:w*n<=1048576) (aa:n<=1048576):
  dM P G ev V (.makeSlice t lo co)= .val (.slice V.next 0 n (.known n)) (V.alloc (.row (ew z n) e false)):=by
 refine vn (mk:=.slice n n) Z ?_;obtain⟨j,hj,rfl⟩:=oM_.1 hw;rw[hj] at A;simp only[Option.any_some,bA_] at A;simp only[fV,C,hl,hc,hj,F];rw[A.1,A.2,show Nat.ble n n=true by simp_all,show Nat.ble (j.bytes*n) 1048576=true by simp_all,show Nat.ble n 1048576=true by simp_all];rfl
end
theorem dB.leaf:∀x vs,dB x vs->cg vs=true:=fun _ _ h=>by cases h;rfl
theorem iN.leaf:∀x vs,iN x vs->cg vs=true:=fun _ _ h=>by cases h;rfl
theorem fj.leaf:∀x vs,fj x vs->cg vs=true:=fun _ _ h=>by cases h;rfl
end Go.Ev
namespace Go.Ev
variable [Env] {e j:Nat}
inductive lq (b:Nat) (o':cd):Own->Own->Prop
 | here {o:cd} {L:Own}:lq b o' ((b,o)::L) ((b,o')::L)
 | there {x:Nat×cd} {L L':Own}:lq b o' L L'->lq b o' (x::L) (x::L')
 | dz {M L L':Own}:lq b o' L L'->lq b o' (M++L) (M++L')
section
variable {V:D} {K:KP} {L L':Own} {b:Nat} {o':cd}
theorem lq.Yn (h:lq b o' L L'):∃A B_ o,L=A++(b,o)::B_/\L'=A++(b,o')::B_:=by
 induction h with
 | here=>exact⟨[],_,_,Z,Z⟩
 | @there x L L' h ih=>grind
 | @dz M L L' h ih=>grind
theorem H.Wv (h:H V K L) (hu:lq b o' L L'):H (V.setObj b o') K L':=by
 obtain⟨A,B_,o,rfl,rfl⟩:=hu.Yn;exact h.Ia o'
theorem H.sub (h:H V K L) (A:L'.Sublist L):H V K L' where
 kept b o hb:=let ⟨h1,C,h3⟩:=h.kept b o hb;⟨h1,C,fun e he=>h3 e (A.subset he)⟩
 own e he:=h.own e (A.subset he)
 ne:=h.ne.sublist A
theorem fR {M L L':Own} (h:L'.Sublist L):(M++L').Sublist (M++L):=(List.append_sublist_append_left M).2 h
end
section
variable {P:Program} {G:Cx} {n:Nat} {t:PT Y} {V:D} {K:KP} {L:Own} {Q:Ex->PT Y->D->Prop} {ops:Array Oper} {o:Oper} {l:List Oper} {i:Nat} {rc:List Nat} {lp:List (Nat×List Nat)}
theorem fM {b:Nat} {ob':cd} {L':Own} {t':PT Y} (A:H V K L) (hu:lq b ob' L L') (hw:bH ops t o=some true) (hv:dM P G (bA G t) V o.op= .skip (V.setObj b ob')) (hp:dA t n o.dst unit=some t')
  (h:∀V',H V' K L'->bL P G ops n l t' V' Q):bL P G ops n (o::l) t V Q:=iu hw hv hp (h _<|A.Wv hu)
theorem fD {b:Nat} {ob':cd} {L':Own} {t':PT Y} (C:H V K L) (hu:lq b ob' L L') (A:ops[i]? =some o) (hw:bH ops t o=some true) (hv:dM P G (bA G t) V o.op= .skip (V.setObj b ob')) (hp:dA t n o.dst unit=some t')
  (h:∀V',H V' K L'->(dw P G ops t' V' rc=true/\cS P G ops n lp t' V' Q)):cS P G ops n ((i,rc)::lp) t V Q:=jG A hw hv hp (h _<|C.Wv hu)
end
section
variable {P:Program} {t:PT Y} {V:D}
theorem AU {fn:Func} {ty b m:Nat} {ro:Bool} {cells:List Y} (A:fn.results.toList= [.cell j ty]) (h1:t.get j=some (.ptr b 0)) (hm:V.m.get b=some (.row cells e ro)) (C:dE P ty=some (some m)) (hn:cells.length=m):ec P fn t V=some (.agg cells):=by
 unfold ec;rw[A]
 have e1:gj P t V (.cell j ty)=some (Y.agg cells):=by
  show(match t.get (posOf j) with
   | some (.ptr b off)=>match V.m.get b with
    | some (.row cells _ _)=>match dE P ty with
     | some (some n)=>bif Nat.ble (off+n) (dt cells) then some (Y.agg<|takeN (dZ cells off) n) else none
     | some none=>nth cells off
     | none=>none
    | _=>none
   | _=>none)=_
  rw[show t.get (posOf j)=some (.ptr b 0) from h1];dsimp only;rw[hm];dsimp only;rw[C];dsimp only;rw[cC,hn,nA_,show Nat.ble m m=true by simp_all,dT,eB,List.drop_zero,<-hn,List.take_length];rfl
 have:cX (gj P t V) [.cell j ty]=some [Y.agg cells]:=by
  unfold cX;simp only[e1]
 rw[this]
theorem dy {fn:Func} {R:Y->D->Prop} {ty b m:Nat} {ro:Bool} {cells:List Y} (A:fn.results.toList= [.cell j ty]) (h1:t.get j=some (.ptr b 0)) (hm:V.m.get b=some (.row cells e ro)) (C:dE P ty=some (some m)) (hn:cells.length=m) (F:R (.agg cells) V):G6 P fn R .ret t V:=
 ⟨.inr Z,_,AU A h1 hm C hn,F⟩
end
end Go.Ev
namespace Go.Ev
variable [Env] {e:Nat}
theorem Fx {α:Type} {m E:Nat} {R:α->List Y->Prop} {l1 l2:List α} {A news:List Y} {b:Nat} {c:oY} {n:Nat} (aa:A.length=l1.length*m) (h1:∀(i:Nat) (x:α),l1[i]? =some x->R x ((A.drop (i*m)).take m)) (ab:news.length=l2.length*m) (h2:∀(i:Nat) (x:α),l2[i]? =some x->R x ((news.drop (i*m)).take m))
  (hn:n=l1.length+l2.length) (hc:c= .known n∨(c= .upto m/\e=E)) (hle:n<=1048576):cO m E R (l1++l2) (.slice b 0 n c) [(b,.row (A++news) e false)]:=by
 subst hn;refine .inr ⟨b,c,_,e,by simp_all,Z,by grind,fun i x hx=>?_,by simp_all,by simp_all⟩
 by_cases hi:i<l1.length
 ·rw[gL_ hi] at hx;have hle:(i+1)*m<=l1.length*m:=nM_ _ hi
  grind
 grind [nM_,List.drop_append,List.drop_eq_nil_of_le,Nat.sub_mul]
def lX (g:XG) (loc:Int):List bV:=
 bif bD (eu g) 0 then(bif cW loc 0 then [] else match g.order[loc.toNat]? with | some l=>⟨0,loc⟩::l | none=>[]) else []
theorem Az {g:XG} {loc:Nat} {l:List bV} (hc:bD (eu g) 0=true) (h:g.order[loc]? =some l):lX g (.ofNat loc)=⟨0,.ofNat loc⟩::l:=by
 have e:(Int.ofNat loc).toNat=loc:=rfl;have e2:cW (.ofNat loc) 0=false:=by rw[show(0:Int)= .ofNat 0 from Z,gL];simp
 unfold lX
 simp_all
end Go.Ev
namespace Go.Ev
variable [Env] {x y:Operand}
theorem V8 {P:Program} {G:Cx} {ev:Operand->Option Y} {V:D} {c:Call} {a b:Int} {k:IntKind} (hc:c.callee= .builtin .min) (A:c.args.toList= [x,y]) (hx:ev x=some (.int k a)) (hy:ev y=some (.int k b)):dM P G ev V (.call c)= .val (.int k (bif cW b a then b else a)) V:=by
 refine bK (by simp[kindOf,hc]) ?_;have e:uj k k=true:=by cases k<;>rfl
 simp only[dH,hc,A,hx,hy,TX,e,cond_true]
end Go.Ev
namespace Go.Ev
variable [Env]
section
variable {P:Program} {G:Cx}
end
variable {α:Type} {ts:Array TypeId} {cl:Call} {cap e:Nat} {so x:Operand} {lo:Option Operand} {ob:cd} {R:α->List Y->Prop}
def qj (l:List bV):List Y:=l.flatMap fun x=>ints x.ints
theorem nh (x:bV) (l:List bV):qj (x::l)=ints x.ints++qj l:=rfl
theorem sx:∀(l:List bV),(qj l).length=l.length*2
 | []=>rfl
 | x::l=>by
  rw[nh,lA_,sx l,zc_];show 2+_=_;omega
theorem wD:∀(l:List bV) (i:Nat),(qj l).drop (i*2)=qj (l.drop i)
 | l,0=>by simp
 | [],i+1=>by simp[qj]
 | x::l,i+1=>by
  rw[List.drop_succ_cons,<-wD l i,nh,show(i+1)*2=(ints x.ints).length+i*2 by show _=2+_;omega,<-zl_,List.drop_left]
theorem Ky {l:List bV} {i:Nat} {x:bV} (h:l[i]? =some x):fj x (((qj l).drop (i*2)).take 2):=by
 rw[wD,cT h,nh,show(2:Nat)=(ints x.ints).length from Z,List.take_left];rfl
section
variable {P:Program} {G:Cx} {ev:Operand->Option Y} {V:D}
theorem GM {hi:Operand} {k:IntKind} {h' len:Nat} (h:ev hi=some (.int k (.ofNat h'))) (hl:h'<=cap):dQ ev len cap none (some hi)=some (0,h'):=by
 simp only[dQ,fu,h,show Nat.ble h' cap=true by simp_all,cond_true]
theorem Gp {t sz b off len l h:Nat} {hi:Option Operand} (A:P.underlying t=some (.slice e)) (hj:(P.info? e).map (·.size)=some sz) (hx:ev x=some (.slice b off len (.known cap))) (hb:dQ ev len cap lo hi=some (l,h)) (hl:l<cap):
  dM P G ev V (.slice t x lo hi none)= .val (.slice b (off+l*sz) (h-l) (.known (cap-l))) V:=by
 refine bK Z ?_;obtain⟨j,u,rfl⟩:=oM_.1 hj
 have:Nat.beq cap l=false:=by
  grind [nB]
 simp only[dH,pH,A,hx,cutAt,hb,cut,u,this,cond_false]
theorem Gq {t sz b off len l h:Nat} {hi:Option Operand} (A:P.underlying t=some (.slice e)) (hj:(P.info? e).map (·.size)=some sz) (hx:ev x=some (.slice b off len (.upto sz))) (hb:dQ ev len len lo hi=some (l,h)):
  dM P G ev V (.slice t x lo hi none)= .val (.slice b (off+l*sz) (h-l) (.upto sz)) V:=by
 refine bK Z ?_;obtain⟨j,u,rfl⟩:=oM_.1 hj;simp only[dH,pH,A,hx,hb,u,Nat.beq_refl,cond_true]
theorem UN {ds:Operand} {ty sz b off len n QU e':Nat} {c:oY} {v:Y} {news cells cells':List Y} (hc:cl.callee= .builtin .copy) (E:cl.args.toList= [ds,so]) (F:cl.argTypes[0]? =some ty) (hu:P.underlying ty=some (.slice e)) (hj:(P.info? e).map (·.size)=some sz)
  (I:ev ds=some (.slice b off len c)) (M:ev so=some v) (u:lV V sz v=some (n,news)) (A:Nat.min n len=QU) (aa:1<=QU) (hb:V.m.get b=some (.row cells e' false)) (hl:cg (news.take (QU*sz))=true) (ab:1<=sz)
  (hle:off+(news.take (QU*sz)).length<=cells.length) (N:dp (news.take (QU*sz)) cells off=cells'):dM P G ev V (.call cl)= .val (.int .i64 (.ofNat QU)) (V.setObj b (.row cells' e' false)):=by
 refine jV (by simp[kindOf,hc]) ?_;obtain⟨j,C,rfl⟩:=oM_.1 hj
 have he:mB ev [ds,so]=some [.slice b off len c,v]:=by
  unfold mB cX;simp only[I,M]
 have h0:Nat.beq QU 0=false:=by
  grind [nB]
 subst N;simp only[fX,hc,E,he,wG,F,hu,C,u,A,h0,cond_false,hb,dT,hl,cC,show Nat.ble 1 j.size=true by simp_all,show Nat.ble (off+(news.take (QU*j.size)).length) cells.length=true by simp_all,Bool.and_self,cond_true]
end
section
variable {P:Program} {G:Cx} {ev:Operand->Option Y} {V:D}
end
section
variable {P:Program} {G:Cx} {n:Nat} {t:PT Y} {V:D} {K:KP} {L:Own} {Q:Ex->PT Y->D->Prop} {ops:Array Oper} {o:Oper} {l:List Oper}
theorem T0 (u:H V K L) {k sz:Nat} {t':Nat->PT Y} (hw:bH ops t o=some true) (hv:dM P G (bA G t) V o.op= .val (.slice V.next 0 k (.upto sz)) (V.alloc ob)) (hp:∀b,dA t n o.dst (.slice b 0 k (.upto sz))=some (t' b))
  (h:∀(V':D) (b:Nat),H V' K ((b,ob)::L)->bL P G ops n l (t' b) V' Q):bL P G ops n (o::l) t V Q:=
 S hw hv (hp _) (h _ _<|u.alloc ob)
end
section
variable {P:Program} {G:Cx} {V:D} {K:KP} {L:Own}
theorem wo {m:Nat} {l2:List α} {C:Y} {t:TypeId} (F:H V K L) (hx:bG K m R l2 C) (u:∀x vs,R x vs->cg vs=true) (hn:l2.length<=1048576) (aa:1<=l2.length)
  (I:ts[0]? =some t) (hu:P.underlying t=some (.slice e)) (A:qc P e m=true) (M:dN P ts[1]? =true):
  ∃news,fI P V ts .aw C= .val (.slice V.next 0 l2.length (.upto m)) (V.alloc (.row news e false))/\news.length=l2.length*m/\∀(i:Nat) (x:α),l2[i]? =some x->R x ((news.drop (i*m)).take m):=by
 obtain⟨news,N,T,W,X⟩:=oN F hx u;refine⟨news,?_,T,X⟩;unfold qc at A;split at A
 ·rename_i j hj;simp only[bA_] at A;obtain⟨a1,a2,a3,a4⟩:=A;have hm:j.size=m:=nB a1;subst hm;have E:((P.info? e).any fun j=>(j.zero.bind qM).any fun z=>(cE z).any fun cs=>Nat.beq (dt cs) j.size)=true:=by rw[hj];exact a4
  have h0:Nat.beq l2.length 0=false:=by
   grind [nB]
  unfold fI;rw[I];dsimp only;rw[hu];dsimp only;rw[hj] at E⊢;dsimp only;rw[M,a2,a3];simp only[Bool.and_self,cond_true];rw[N];dsimp only;rw[W,show Nat.ble l2.length 1048576=true by simp_all,E];simp only[Bool.and_self,cond_true,h0,cond_false];rfl
 cases A
end
section
variable {P:Program} {G:Cx} {n:Nat} {t:PT Y} {V:D} {K:KP} {L:Own} {Q:Ex->PT Y->D->Prop} {ops:Array Oper} {o:Oper} {l:List Oper}
end
section
variable {V:D} {K:KP} {L:Own} {b:Nat} {o:cd}
end
end Go.Ev
namespace Go.Ev
section
variable {H_:Type}
def xx:DataW H_->Int
 | .lit (.int _ n)=>n
 | _=>0
def Vn:DataW H_->List Nat
 | .lit (.string s)=>s.map UInt8.toNat
 | _=>[]
def ku:DataW H_->List (DataW H_)
 | .slice l _=>l
 | _=>[]
def eR (d:DataW H_) (i:Nat):DataW H_:=
 match d with
 | .agg ps=>ps.getD i .nil
 | _=>.nil
def Mn:Nat->DataW H_->XE
 | 0,_=>.mk 0 0 [] []
 | 1,_=>.mk 0 0 [] []
 | k+2,d=>.mk (xx<|eR d 0) (xx<|eR d 1) (Vn<|eR d 2) ((ku<|eR d 3).map<|Mn k)
def Uz (k:Nat) (d:DataW H_):XI:=⟨xx<|eR d 0,xx<|eR d 1,xx<|eR d 2,xx<|eR d 3,xx<|eR d 4,(ku<|eR d 5).map<|Mn k⟩
def Sg (k:Nat) (d:DataW H_):XC:=⟨xx<|eR d 0,(ku<|eR d 1).map<|Uz k⟩
end
section
variable [Env] {H_:Type} {P:Program} {V:D}
theorem px {fuel:Nat} {t:TypeId} {d:DataW H_} {vs:List Y} {k:IntKind} (hu:P.underlying t=some (.int k)) (hf:Fit P fuel t d) (u:eG P V fuel t d vs):vs= [.int k<|xx d]/\(Lit.int k<|xx d).wf=true:=by
 cases fuel with
 | zero=>exact hf.elim
 | succ fuel=>
  unfold Fit at hf;rw[hu] at hf;obtain⟨n,rfl⟩:=hf;unfold eG at u;rw[hu] at u;obtain⟨_,A,rfl⟩:=u;exact⟨Z,A⟩
theorem Uw {fuel:Nat} {t:TypeId} {d:DataW H_} {vs:List Y} (hu:P.underlying t=some .string) (hf:Fit P fuel t d) (u:eG P V fuel t d vs):vs= [.str<|Vn d]:=by
 cases fuel with
 | zero=>exact hf.elim
 | succ fuel=>
  unfold Fit at hf;rw[hu] at hf;obtain⟨n,rfl,_⟩:=hf;unfold eG at u;rw[hu] at u;exact u.2
theorem rh {α:Type} {fuel:Nat} {t e:TypeId} {m:Nat} {d:DataW H_} {vs:List Y} (F:DataW H_->α) (R:α->List Y->Prop) (hu:P.underlying t=some (.slice e)) (hm:P.cellsOf e=m) (h1:1<=m) (hn:∀(b:Nat) (o:cd),V.m.get b=some o->b<V.next) (hf:Fit P (fuel+1) t d) (u:eG P V (fuel+1) t d vs)
  (hR:∀x vs,Fit P fuel e x->eG P V fuel e x vs->R (F x) vs):∃v,vs= [v]/\bG (Bg V) m R ((ku d).map F) v:=by
 unfold Fit at hf;rw[hu] at hf;dsimp only at hf;unfold eG at u;rw[hu] at u;rcases hf with rfl | ⟨elems,spare,rfl,aa⟩
 ·dsimp only at u;exact⟨_,u,.inl ⟨Z,Z⟩⟩
 dsimp only at u;rw[hm] at u;obtain⟨b,c,cells,e',rfl,C,A,E,G,k6⟩:=u h1;refine⟨_,Z,.inr ⟨b,0,c,cells,e',true,by rw[show(ku<|DataW.slice elems spare).map F=elems.map F from Z,lM_],?_,⟨hn b _ A,A⟩,?_,?_,fun i x hx=>?_⟩⟩
 ·rw[show(ku<|DataW.slice elems spare).map F=elems.map F from Z,lM_];rcases E with rfl | rfl
  ·exact .inr ⟨_,Z,Nat.le_add_right _ _⟩
  exact .inl Z
 ·rw[show(ku<|DataW.slice elems spare).map F=elems.map F from Z,lM_,G,nA_];exact nR_ _
 ·rw[show(ku<|DataW.slice elems spare).map F=elems.map F from Z,lM_];exact C
 rw[show(ku<|DataW.slice elems spare).map F=elems.map F from Z,gM_,oM_] at hx
 grind
theorem r9 {fuel:Nat} {t:TypeId} {fs:Array Field} {d:DataW H_} {vs:List Y} {m:Nat} (hu:P.underlying t=some (.struct fs)) (hc:P.cellsOf t=m) (ht:rj P fs.toList 0=some m) (hf:Fit P (fuel+1) t d) (u:eG P V (fuel+1) t d vs):
  vs.length=m/\∀(i:Nat) (f:Field),fs[i]? =some f->Fit P fuel f.type (eR d i)/\eG P V fuel f.type (eR d i) ((vs.drop f.offset).take<|P.cellsOf f.type):=by
 unfold Fit at hf;rw[hu] at hf;dsimp only at hf;obtain⟨parts,rfl,hn,aa⟩:=hf;unfold eG at u
 grind [eR]
theorem bG.jN {α:Type} {K:KP} {m:Nat} {R R':α->List Y->Prop} {l:List α} {v:Y} (h:bG K m R l v) (u:∀x vs,R x vs->R' x vs):bG K m R' l v:=h.mono (KP.le_refl K) u
theorem kV.up {K:KP}:∀{k:Nat} {x:XE} {vs:List Y},kV K k x vs->kV K (k+1) x vs
 | 0,x,_,h=>by cases x;exact h.elim
 | k+1,.mk op num name kids,vs,h=>by
  obtain⟨v,rfl,hk⟩:=h;exact⟨v,Z,hk.jN fun x vs h=>kV.up h⟩
end
end Go.Ev
namespace Go.Ev
variable [Env]
variable {G:Cx} {K:KP} {V:D} {L:Own} {g:XG}
theorem J9 (A:Plain G) (e:bW) (O:H V K L):Ca G K L 215 [.agg<|ints e.ints] V <| .bool (dq e):=by
 refine XD A Tryz.func215 Z<|Xb 2 Z<|kb O (cL Z Z) (fun V b1 O=>?_);refine Wu O 8 [0,0] Z Z<|ky Z (an Z) (fun u=>?_) (fun u=>?_)
 ·refine Xf 8 Z ?_;exact az Z Z ⟨cB (by unfold dq;simp only[u,ct,cf]),O.pop⟩
 refine Xi O 8 [0,0] Z Z ?_;exact az Z Z ⟨cB (by unfold dq;simp only[u,ct,cf]),O.pop⟩
theorem vk (A:Plain G) (e:bW) (O:H V K L):Ca G K L 216 [.agg<|ints e.ints] V <| .bool (bQ e):=by
 refine XD A Tryz.func216 Z<|Xb 2 Z<|kb O (cL Z Z) (fun V b1 O=>?_);refine Wu O 8 [0,0] Z Z<|ky Z (an Z) (fun u=>?_) (fun u=>?_)
 ·refine Xf 8 Z ?_;exact az Z Z ⟨cB (by unfold bQ;simp only[u,ct,cf]),O.pop⟩
 refine Xi O 8 [0,0] Z Z ?_;exact az Z Z ⟨cB (by unfold bQ;simp only[u,ct,cf]),O.pop⟩
theorem J8 (hG:Plain G) {a b c d:Y} (h:eS K g a b c d) (th ix:Int) (O:H V K L):Ca G K L 217 [.agg [a,b,c,d],.agg [.int .i64 th,.int .i64 ix]] V <| .tuple [.agg<|ints (xw<|gf g ⟨th,ix⟩).ints,.bool (gf g ⟨th,ix⟩).isSome]:=by
 have h':=h;obtain⟨hi,Q,hf,ho⟩:=h';refine XD hG Tryz.func217 Z<|Xb 2 Z<|kb O (cL Z Z) (fun V b1 O=>?_);refine kb O (cL Z Z) (fun V b2 O=>?_);refine kb O (Yy (cs:=[iZ,iZ,iZ,iZ,iZ])) (fun V b3 O=>?_);refine VF O 9 [0,1] Z Z<|ky Z (an Z) (fun h9=>?_) (fun h9=>?_)
 ·refine Wo 17 Z (S Z (Yt (places:=[(0,1),(1,1),(2,1),(3,1),(4,1)]) (zero:=[iZ,iZ,iZ,iZ,iZ]) (cs:=[_,_,_,_,_]) Z) Z<|ks O (YD Z Z Z O.g0 Z) (fun V O=>?_));refine Wq 5 Z ?_;exact eL Z Z O.g0 (m:=5) B Z Z ⟨by rw[KK h9];rfl,O.pop.pop.pop⟩
 refine XS O 4 [0,1,1,2] Z Z<|S Z (Yx Q Z Z Z (e:=41) Z) Z<|XP 2 Z<|ky Z (an Z) (fun A=>?_) (fun A=>?_)
 ·refine Wo 9 Z (S Z (Yt (places:=[(0,1),(1,1),(2,1),(3,1),(4,1)]) (zero:=[iZ,iZ,iZ,iZ,iZ]) (cs:=[_,_,_,_,_]) Z) Z<|ks O (YD Z Z Z O.g0 Z) (fun V O=>?_));refine Wq 5 Z ?_;exact eL Z Z O.g0 (m:=5) B Z Z ⟨by rw[Nv A];rfl,O.pop.pop.pop⟩
 refine XS O 4 [1,1] Z Z<|Xd 2 Z<|aG Z (fun I=>?_) (fun I=>?_)
 ·refine Xb 2 Z (S Z (Yt (places:=[(0,1),(1,1),(2,1),(3,1),(4,1)]) (zero:=[iZ,iZ,iZ,iZ,iZ]) (cs:=[_,_,_,_,_]) Z) Z<|ks O (YD Z Z Z O.g0 Z) (fun V O=>?_));refine Wq 5 Z ?_;exact eL Z Z O.g0 (m:=5) B Z Z ⟨by rw[KL I];rfl,O.pop.pop.pop⟩
 obtain⟨tn,rfl⟩:=HB h9;obtain⟨ixn,rfl⟩:=HB I;refine VD 5 Z<|XS O 3 [0,1] Z Z<|Xd 2 Z<|aG Z (fun C=>?_) (fun C=>?_)
 ·obtain rfl:tn=0:=by rw[dS] at C;simpa using C
  refine Wt O 7 [1,1,0,2] Z Z<|S Z (Yx hi Z Z Z (e:=2) Z) Z<|Xd 3 Z<|aG Z (fun M=>?_) (fun M=>?_)
  ·refine Xb 2 Z (S Z (Yt (places:=[(0,1),(1,1),(2,1),(3,1),(4,1)]) (zero:=[iZ,iZ,iZ,iZ,iZ]) (cs:=[_,_,_,_,_]) Z) Z<|ks O (YD Z Z Z O.g0 Z) (fun V O=>?_));refine Xf 4 Z<|aA<|aA (?_);exact eL Z Z O.g0 (m:=5) B Z Z ⟨by rw[show gf g _=none from by show(g.init[ixn]?).map _=_;rw[gN_<|mE M];rfl];rfl,O.pop.pop.pop⟩
  refine Wj 3 Z<|aU (l:=zp [0,1,2,3,4,5,6,7,8,9,10]) B B<|XT O 6 [1,1,0,2,1,1] Z Z ?_;obtain⟨a4,E⟩:=da (mK M);refine Yq (e:=2) (m:=1) hi E Z Z Z Z Z (fun a5 aq R ar T=>?_);obtain rfl:=T;refine ah Z Z (Yz O R Z Z) Z (ah Z Z (Yt (places:=[(0,1),(1,1),(2,1),(3,1),(4,1)]) (zero:=[iZ,iZ,iZ,iZ,iZ]) (cs:=[_,_,_,_,_]) Z) Z<|pB O Z Z (YD Z Z Z O.g0 Z) Z (fun V O=>?_));refine⟨aY,?_⟩;refine Xh 4 Z<|aA (?_);exact eL Z Z O.g0 (m:=5) B Z Z ⟨by rw[show gf g _=some _ from by show(g.init[ixn]?).map _=_;rw[E];rfl];rfl,O.pop.pop.pop⟩
 obtain⟨tm,rfl⟩:=Sd C;refine Wj 3 Z<|ai<|aU (l:=zp [0,1,2,3,4,5,6,7,8,9,10]) B B<|XT O 7 [1,1,1,2,0,1] Z Z ?_;obtain⟨a9,u⟩:=da (show tm<g.threads.length from by have:=zx A;omega);refine Yq (e:=41) (m:=1) Q u Z Z Z Z (cI<|gy (by have:=zx A;have:=Q.cQ;omega)) (fun ba ax W aE X=>?_);have hr49':=X;obtain⟨bb,rfl,aa⟩:=hr49';refine ah Z Z (Yz O W Z Z) Z<|ah Z Z (Yx aa Z Z Z (e:=40) Z) Z<|Xg 3 Z<|aG Z (fun N=>?_) (fun N=>?_)
 ·refine Xb 2 Z (S Z (Yt (places:=[(0,1),(1,1),(2,1),(3,1),(4,1)]) (zero:=[iZ,iZ,iZ,iZ,iZ]) (cs:=[_,_,_,_,_]) Z) Z<|ks O (YD Z Z Z O.g0 Z) (fun V O=>?_));refine Wq 5 Z ?_;exact eL Z Z O.g0 (m:=5) B Z Z ⟨by rw[show gf g _=none from by show(g.threads[tm]?).bind _=_;rw[u];exact gN_<|mE N];rfl,O.pop.pop.pop⟩
 refine Wj 3 Z<|aU (l:=zp [0,1,2,3,4,5,6,7,8,9,10,11,12]) B B<|XT O 5 [1,2,0,1] Z Z<|Yq (e:=41) (m:=1) Q u Z Z Z Z (cI<|gy (by have:=zx A;have:=Q.cQ;omega)) (fun bc a0 ab a1 ac=>?_);have hr59':=ac;obtain⟨bd,rfl,am⟩:=hr59';refine ah Z Z (Yz O ab Z Z) Z<|XT O 2 [1,1] Z Z ?_;obtain⟨be,F⟩:=da (mK N);refine Yq (e:=40) (m:=5) am F Z Z Z Z Z (fun bf a2 ao a3 ap=>?_);obtain rfl:=ap;refine ah Z Z (YA O ao Z Z) Z<|pB O Z Z (YD Z Z Z O.g0 Z) Z (fun V O=>?_);refine⟨aY,?_⟩;refine Xh 4 Z ?_;exact eL Z Z O.g0 (m:=5) B Z Z ⟨by rw[show gf g _=some _ from by show(g.threads[tm]?).bind _=_;rw[u];exact F];rfl,O.pop.pop.pop⟩
theorem DY (T:Plain G) (e:bW) (n:Int) (O:H V K L):Ca G K L 205 [.agg<|ints e.ints,.int .i64 n] V <| .bool (cj e n):=by
 refine XD T Tryz.func205 Z<|Xb 2 Z<|kb O (cL Z Z) (fun V b1 O=>?_);refine VF O 9 [0,0] Z Z<|ky Z (an Z) (fun Q=>?_) (fun Q=>?_)
 ·refine Wq 24 Z ?_;exact az Z Z ⟨cB (by unfold cj bT;simp only[Q,ct,cf]),O.pop⟩
 refine XS O 4 [0,0] Z Z<|ky Z (an Z) (fun u=>?_) (fun u=>?_)
 ·refine Wq 19 Z ?_;exact az Z Z ⟨cB (by unfold cj bT;simp only[Q,u,ct,cf]),O.pop⟩
 refine XS O 4 [2,0] Z Z<|ky Z (an Z) (fun C=>?_) (fun C=>?_)
 ·refine Wq 14 Z ?_;exact az Z Z ⟨cB (by unfold cj bT;simp only[Q,u,C,ct,cf]),O.pop⟩
 refine XS O 4 [2,0] Z Z<|Xd 2 Z<|aG Z (fun E=>?_) (fun E=>?_)
 ·refine Xc 7 Z ?_;exact az Z Z ⟨cB (by unfold cj bT;simp only[Q,u,C,E,ct,cf]),O.pop⟩
 refine VD 5 Z<|S Z (YG Z O.g0 Z) Z<|kx (Yu Z Z Z) (J9 T _ O) (fun V O=>?_);refine S Z (ek Z) Z<|ky Z (an Z) (fun I=>?_) (fun I=>?_)
 ·refine XS O 4 [3,0] Z Z<|ky Z (an Z) (fun R=>?_) (fun R=>?_)
  ·refine Wq 19 Z ?_;exact az Z Z ⟨cB (by unfold cj bT;simp only[Q,u,C,E,I,R,ct,cf]),O.pop⟩
  refine S Z (YG Z O.g0 Z) Z<|kx (Yu Z Z Z) (vk T _ O) (fun V O=>?_);refine S Z (ek Z) Z<|ky Z (an Z) (fun F=>?_) (fun F=>?_)
  ·refine XS O 5 [4,0] Z Z<|Xd 2 Z<|aG Z (fun N=>?_) (fun N=>?_)
   ·refine Xc 7 Z ?_;exact az Z Z ⟨cB (by unfold cj bT;simp only[Q,u,C,E,I,R,F,N,ct,cf]),O.pop⟩
   refine VD 5 Z<|XS O 3 [0,0] Z Z<|Xd 2 Z<|aG Z (fun A=>?_) (fun A=>?_)
   ·refine Xb 2 Z<|Xi O 7 [1,0] Z Z<|aA (?_);exact az Z Z ⟨cB (by unfold cj bT;simp only[Q,u,C,E,I,R,F,N,A,ct,cf]),O.pop⟩
   refine Wk 4 Z<|XS O 3 [1,0] Z Z<|ky Z (an Z) (fun M=>?_) (fun M=>?_)
   ·refine Xi O 9 [1,0] Z Z ?_;exact az Z Z ⟨cB (by unfold cj bT;simp only[Q,u,C,E,I,R,F,N,A,M,ct,cf]),O.pop⟩
   refine Xf 9 Z ?_;exact az Z Z ⟨cB (by unfold cj bT;simp only[Q,u,C,E,I,R,F,N,A,M,ct,cf]),O.pop⟩
  refine Xd 8 Z<|VD 5 Z<|XS O 3 [0,0] Z Z<|Xd 2 Z<|aG Z (fun A=>?_) (fun A=>?_)
  ·refine Xb 2 Z<|Xi O 7 [1,0] Z Z<|aA (?_);exact az Z Z ⟨cB (by unfold cj bT;simp only[Q,u,C,E,I,R,F,A,ct,cf]),O.pop⟩
  refine Wk 4 Z<|XS O 3 [1,0] Z Z<|ky Z (an Z) (fun M=>?_) (fun M=>?_)
  ·refine Xi O 9 [1,0] Z Z ?_;exact az Z Z ⟨cB (by unfold cj bT;simp only[Q,u,C,E,I,R,F,A,M,ct,cf]),O.pop⟩
  refine Xf 9 Z ?_;exact az Z Z ⟨cB (by unfold cj bT;simp only[Q,u,C,E,I,R,F,A,M,ct,cf]),O.pop⟩
 refine XP 5 Z<|S Z (YG Z O.g0 Z) Z<|kx (Yu Z Z Z) (vk T _ O) (fun V O=>?_);refine S Z (ek Z) Z<|ky Z (an Z) (fun F=>?_) (fun F=>?_)
 ·refine XS O 5 [4,0] Z Z<|Xd 2 Z<|aG Z (fun N=>?_) (fun N=>?_)
  ·refine Xc 7 Z ?_;exact az Z Z ⟨cB (by unfold cj bT;simp only[Q,u,C,E,I,F,N,ct,cf]),O.pop⟩
  refine VD 5 Z<|XS O 3 [0,0] Z Z<|Xd 2 Z<|aG Z (fun A=>?_) (fun A=>?_)
  ·refine Xb 2 Z<|Xi O 7 [1,0] Z Z<|aA (?_);exact az Z Z ⟨cB (by unfold cj bT;simp only[Q,u,C,E,I,F,N,A,ct,cf]),O.pop⟩
  refine Wk 4 Z<|XS O 3 [1,0] Z Z<|ky Z (an Z) (fun M=>?_) (fun M=>?_)
  ·refine Xi O 9 [1,0] Z Z ?_;exact az Z Z ⟨cB (by unfold cj bT;simp only[Q,u,C,E,I,F,N,A,M,ct,cf]),O.pop⟩
  refine Xf 9 Z ?_;exact az Z Z ⟨cB (by unfold cj bT;simp only[Q,u,C,E,I,F,N,A,M,ct,cf]),O.pop⟩
 refine Xd 8 Z<|VD 5 Z<|XS O 3 [0,0] Z Z<|Xd 2 Z<|aG Z (fun A=>?_) (fun A=>?_)
 ·refine Xb 2 Z<|Xi O 7 [1,0] Z Z<|aA (?_);exact az Z Z ⟨cB (by unfold cj bT;simp only[Q,u,C,E,I,F,A,ct,cf]),O.pop⟩
 refine Wk 4 Z<|XS O 3 [1,0] Z Z<|ky Z (an Z) (fun M=>?_) (fun M=>?_)
 ·refine Xi O 9 [1,0] Z Z ?_;exact az Z Z ⟨cB (by unfold cj bT;simp only[Q,u,C,E,I,F,A,M,ct,cf]),O.pop⟩
 refine Xf 9 Z ?_;exact az Z Z ⟨cB (by unfold cj bT;simp only[Q,u,C,E,I,F,A,M,ct,cf]),O.pop⟩
theorem Gh (I:Plain G) {a b c d:Y} (h:eS K g a b c d) (th ix fth fix_:Int) (O:H V K L):Ca G K L 206 [.agg [a,b,c,d],.agg [.int .i64 th,.int .i64 ix],.agg [.int .i64 fth,.int .i64 fix_]] V <| .bool (gn g ⟨th,ix⟩ ⟨fth,fix_⟩):=by
 have h':=h;obtain⟨hi,ht,hf,ho⟩:=h';refine XD I Tryz.func206 Z<|Xb 2 Z<|kb O (cL Z Z) (fun V b1 O=>?_);refine kb O (cL Z Z) (fun V b2 O=>?_);refine kb O (cL Z Z) (fun V b3 O=>?_);refine Wo 5 Z<|S Z (YF Z (O.get 2 Z) Z) Z<|S Z (YE Z O.g1 Z) Z<|kx (Yu Z Z Z) (J8 I h _ _ O) (fun V O=>?_);refine XP 3 Z<|kb O (Yy (cs:=[iZ,iZ,iZ,iZ,iZ])) (fun V b4 O=>?_);refine ks O (YD Z Z Z O.g0 Z) (fun V O=>?_);refine VE 6 Z<|S Z (YG Z O.g0 Z) Z<|kx (Yu Z Z Z) (J9 I _ O) (fun V O=>?_);refine S Z (ek Z) Z<|Xd 2 Z<|aG Z (fun u=>?_) (fun u=>?_)
 ·refine Xb 2 Z (S Z (YE Z O.g1 Z) Z (S Z (Yt (places:=[(0,1),(1,1)]) (zero:=[iZ,iZ]) (cs:=[_,_]) Z) Z<|S Z (Tk (n:=2) (ca:=[_,_]) (cb:=[_,_]) B Z Z Z Z) Z<|Wq 5 Z ?_));exact az Z Z ⟨cB (by unfold gn;simp only[u,ct,cf]),O.pop.pop.pop.pop⟩
 refine Wk 4 Z<|S Z (YF Z (O.get 3 Z) Z) Z<|S Z (YE Z O.g1 Z) Z<|kx (Yu Z Z Z) (J8 I h _ _ O) (fun V O=>?_);refine XP 3 Z<|kb O (Yy (cs:=[iZ,iZ,iZ,iZ,iZ])) (fun V b5 O=>?_);refine ks O (YD Z Z Z O.g0 Z) (fun V O=>?_);refine Wo 6 Z<|ky Z (an Z) (fun A=>?_) (fun A=>?_)
 ·refine S Z (YE Z (O.get 2 Z) Z) Z<|S Z (YE Z (O.get 3 Z) Z) Z<|S Z (Qa (n:=2) (ca:=[_,_]) (cb:=[_,_]) B Z Z Z Z) Z<|vQ 1 Z<|ky Z (an Z) (fun C=>?_) (fun C=>?_)
  ·refine S Z (YG Z O.g0 Z) Z<|kx (Yu Z Z Z) (vk I _ O) (fun V O=>?_);refine vQ 1 Z<|ky Z (an Z) (fun E=>?_) (fun E=>?_)
   ·refine XS O 6 [1,0,1,1] Z Z<|ky Z (an Z) (fun F=>?_) (fun F=>?_)
    ·refine Xi O 10 [4,0,3,1] Z Z ?_;exact az Z Z ⟨cB (by unfold gn;simp only[u,A,C,E,F,ct,cf]),O.pop.pop.pop.pop.pop⟩
    refine Xf 10 Z ?_;exact az Z Z ⟨cB (by unfold gn;simp only[u,A,C,E,F,ct,cf]),O.pop.pop.pop.pop.pop⟩
   refine Xf 17 Z ?_;exact az Z Z ⟨cB (by unfold gn;simp only[u,A,C,E,ct,cf]),O.pop.pop.pop.pop.pop⟩
  refine Xf 21 Z ?_;exact az Z Z ⟨cB (by unfold gn;simp only[u,A,C,ct,cf]),O.pop.pop.pop.pop.pop⟩
 refine Xf 26 Z ?_;exact az Z Z ⟨cB (by unfold gn;simp only[u,A,ct,cf]),O.pop.pop.pop.pop.pop⟩
variable {m1:LM} {ls:List (List bV)}
theorem rQ:Gz Tryz.prog 244 89 3 2:=⟨by kernel_rfl,by kernel_rfl,by kernel_rfl,by kernel_rfl,fun k hk=>by
 match k,hk with
 | [a,b],_=>
  show jL Tryz.prog 89 (.agg<|ints [a,b])=true
  kernel_rfl⟩
theorem QP {m u:LM} {i A:Nat} {l:List bV} {x:bV} (h1:nG ls 0 m1=nG (ls.drop i) i u) (hx:ls[i]? =some l) (C:lJ i l u=lJ i (l.drop A) m) (hy:l[A]? =some x) (h:(fU m x.ints).isSome=false):nG ls 0 m1=none:=by
 rw[h1,cT hx];show(lJ i l u).bind _=none;rw[C,cT hy];show(bif (fU m x.ints).isSome then _ else none).bind _=none;rw[h];rfl
theorem QQ {m u:LM} {i A:Nat} {l:List bV} {x:bV} (h1:nG ls 0 m1=nG (ls.drop i) i u) (hx:ls[i]? =some l) (C:lJ i l u=lJ i (l.drop A) m) (hy:l[A]? =some x) (h:(fU m x.ints).isSome=true) (h':bD ((fU m x.ints).getD 0) (.ofNat i)=false):nG ls 0 m1=none:=by
 rw[h1,cT hx];show(lJ i l u).bind _=none;rw[C,cT hy];show(bif (fU m x.ints).isSome then(bif bD ((fU m x.ints).getD 0) (.ofNat i) then _ else none) else none).bind _=none;rw[h,h'];rfl
theorem DZ (hG:Plain G) {a b c d:Y} (h:eS K g a b c d) (O:H V K L):Ca G K L 207 [.agg [a,b,c,d]] V <| .bool (eY g):=by
 have h':=h;obtain⟨hi,ht,hf,ho⟩:=h';refine XD hG Tryz.func207 Z<|Xb 2 Z<|kb O (cL Z Z) (fun V b1 O=>?_);refine Wo 5 Z<|S3 O Z CJ (fun _=>Z) (fun V b2 O=>?_);refine VF O 8 [1,1] Z Z (S Z (Yx ht Z Z Z (e:=41) Z) Z (Wm 4 Z (bq (rg 4 4++rg 18 23) (fun j t V=>∃(i:Nat) (es:List eC) (ck:Nat) (m:LM),j+i=g.threads.length/\fy 2 es m/\pW g.threads 0 []=pW (g.threads.drop i) i m/\t.get 18=some (nI i)/\H V K ((b2,.map es ck)::(b1,.row [a,b,c,d] 34 false)::L)) (g.threads.length) ⟨0,[],0,[],Z,.nil,Z,Z,O⟩ ?_)));clear O;intro j3 t V ar hI;obtain⟨i,es,ck,m,b5,hm,ab,a2,O⟩:=hI;obtain⟨oo,rfl⟩:=ar.q1 a2 Z;refine Xa 6 Z<|aG Z (fun ac=>?_) (fun ac=>?_)
 ·refine UY 7 Z ?_;obtain⟨M,aa,bo⟩:=dh ac;refine Yp (e:=41) (m:=1) ht aa Z Z Z Z (fun b6 bp a3 bs a4=>?_);have hr21':=a4;obtain⟨b7,rfl,C⟩:=hr21';refine S Z (Yz O a3 Z Z) Z<|Wo 7 Z<|S Z (Yx C Z Z Z (e:=40) Z) Z<|vQ 1 Z ?_;generalize am:m=m0 at hm ab;clear am;refine Wm 3 Z (bq ([6,7]++rg 25 15) (fun j t V=>∃(u:Nat) (es:List eC) (ck:Nat) (m:LM),j+u=M.length/\fy 2 es m/\sk i M 0 m0=sk i (M.drop u) u m/\t.get 25=some (nI u)/\H V K ((b2,.map es ck)::(b1,.row [a,b,c,d] 34 false)::L)) (M.length) ⟨0,es,ck,m0,Z,hm,Z,Z,O⟩ ?_);clear O;intro j6 t V ar hI;obtain⟨u,es,ck,m,b8,hm,ao,a5,O⟩:=hI;obtain⟨oo,rfl⟩:=ar.q1 a5 Z;refine Xa 6 Z<|aG Z (fun ap=>?_) (fun ap=>?_)
  ·refine UY 7 Z ?_;obtain⟨aq,N,bt⟩:=dh ap;refine Yp (e:=40) (m:=5) C N Z Z Z Z (fun b9 bv a9 bw ba=>?_);obtain rfl:=ba;refine S Z (YA O a9 Z Z) Z<|kb O (Yy (cs:=[iZ,iZ,iZ,iZ,iZ])) (fun V b3 O=>?_);refine vQ 1 Z<|ks O (YD Z Z Z O.g0 Z) (fun V O=>?_);refine Wo 4 Z<|S Z (YG Z O.g0 Z) Z<|kx (Yu Z Z Z) (vk hG _ O) (fun V O=>?_);refine Xd 2 Z<|aG Z (fun ax=>?_) (fun ax=>?_)
   ·refine XL 5 Z (S Z (Yt (places:=[(0,1),(1,1)]) (zero:=[iZ,iZ]) (cs:=[_,_]) Z) Z<|XS O 2 [1,0] Z Z<|LA rQ hm O (k:=[_,_]) Z Z Z Z Z Z Z (fun V es ck O hm=>?_));replace hm:=(show fy 2 es (qL m [Int.ofNat (i+1),Int.ofNat u] aq.loc) from by rw[<-a6 (i:=i) (by have:=ht.cQ;omega)];exact hm);refine ae<|aD<|XK 4 Z ?_;have O:=O.pop;refine aJ ⟨j6-1,by omega,oF,u+1,es,ck,_,by omega,hm,by rw[ao,cT N];show sk i _ (u+1) (zm i m u aq)=_;unfold zm;rw[ax];rfl,cI<|a6 (by have:=C.cQ;omega),O⟩
   refine aH<|aD<|XK 4 Z ?_;have O:=O.pop;refine aJ ⟨j6-1,by omega,oF,u+1,es,ck,_,by omega,hm,by rw[ao,cT N];show sk i _ (u+1) (zm i m u aq)=_;unfold zm;rw[ax];rfl,cI<|a6 (by have:=C.cQ;omega),O⟩
  refine Wl 3 Z<|aQ<|aD<|XK 4 Z<|aJ ⟨j3-1,by omega,oF,i+1,es,ck,m,by omega,hm,by rw[ab,cT aa];show pW _ (i+1) (sk i M 0 m0)=_;rw[ao,eK<|bI ap];rfl,cI<|a6 (by have:=ht.cQ;omega),O⟩
 refine Wl 3 Z<|aQ<|Wt O 5 [3,1] Z Z<|S Z (Yx ho Z Z Z (e:=57) Z) Z<|vQ 1 Z ?_;have T:pW g.threads 0 []=m:=by rw[ab,eK<|bI ac];rfl
 generalize bi:m=m1 at hm T;clear bi;refine Wm 3 Z (bq ([2,8,9,11,12,13]++rg 44 28) (fun j t V=>∃(i:Nat) (es:List eC) (ck:Nat) (m:LM),j+i=g.order.length/\fy 2 es m/\nG g.order 0 m1=nG (g.order.drop i) i m/\t.get 44=some (nI i)/\H V K ((b2,.map es ck)::(b1,.row [a,b,c,d] 34 false)::L)) (g.order.length) ⟨0,es,ck,m1,Z,hm,Z,Z,O⟩ ?_);clear O;intro bl t V ar hI;obtain⟨i,es,ck,m,bE,hm,A,bb,O⟩:=hI;obtain⟨oo,rfl⟩:=ar.q1 bb Z;refine Xa 6 Z<|aG Z (fun aE=>?_) (fun aE=>?_)
 ·refine UY 7 Z ?_;obtain⟨Q,E,bF⟩:=dh aE;refine Yp (e:=57) (m:=1) ho E Z Z Z Z (fun ca bM bc bR bd=>?_);have hr47':=bd;obtain⟨cb,rfl,R⟩:=hr47';refine S Z (Yz O bc Z Z) Z<|Wo 7 Z<|S Z (Yx R Z Z Z (e:=89) Z) Z<|vQ 1 Z ?_;generalize am:m=m0 at hm A;clear am;refine Wm 3 Z (bq ([2,11,12,13]++rg 51 20) (fun j t V=>∃(u:Nat) (es:List eC) (ck:Nat) (m:LM),j+u=Q.length/\fy 2 es m/\lJ i Q m0=lJ i (Q.drop u) m/\t.get 51=some (nI u)/\H V K ((b2,.map es ck)::(b1,.row [a,b,c,d] 34 false)::L)) (Q.length) ⟨0,es,ck,m0,Z,hm,Z,Z,O⟩ ?_);clear O;intro bm t V ar hI;obtain⟨u,es,ck,m,bS,hm,F,be,O⟩:=hI;obtain⟨oo,rfl⟩:=ar.q1 be Z;refine Xa 6 Z<|aG Z (fun a0=>?_) (fun a0=>?_)
  ·refine UY 6 Z ?_;obtain⟨W,I,bY⟩:=dh a0;refine Yp (e:=89) (m:=2) R I Z Z Z Z (fun cc b0 bf b4 bg=>?_);obtain rfl:=bg;refine S Z (YA O bf Z Z) Z<|kb O (Yy (cs:=[iZ,iZ])) (fun V b3 O=>?_);refine ks O (YB Z Z Z O.g0 Z) (fun V O=>?_);refine VE 6 Z<|S Z (YE Z O.g0 Z) Z<|S Z (P0 rQ hm O.g1 (k:=[_,_]) Z Z Z) Z<|Wo 10 Z<|S Z (ek Z) Z<|ky Z (an Z) (fun X=>?_) (fun X=>?_)
   ·refine Xf 13 Z<|aA<|aI<|aA<|bP<|aI<|aI<|aA<|bP<|aI<|aA (?_);exact az Z Z ⟨cB (by unfold eY;rw[show nG g.order 0 (pW g.threads 0 [])=none from by rw[T];exact QP A E F I<|sL X]),O.pop.pop.pop⟩
   refine Xd 6 Z<|aG Z (fun a1=>?_) (fun a1=>?_)
   ·refine XN 6 Z<|aA<|aI<|aA<|bP<|aI<|aI<|aA<|bP<|aI<|aA (?_);exact az Z Z ⟨cB (by unfold eY;rw[show nG g.order 0 (pW g.threads 0 [])=none from by rw[T];exact QQ A E F I (mM X)<|eb a1]),O.pop.pop.pop⟩
   refine aH<|XL 2 Z<|S Z (YE Z O.g0 Z) Z<|Lz rQ hm O (k:=[_,_]) Z Z Z Z Z Z Z Z Z (fun V es O hm=>?_);refine ae<|aD<|XK 4 Z ?_;have O:=O.pop;refine aJ ⟨bm-1,by omega,oF,u+1,es,ck,_,by omega,hm,by rw[F,cT I];show(bif (fU m W.ints).isSome then _ else none)=_;rw[show(fU m W.ints).isSome=true from mM X];show(bif bD ((fU m W.ints).getD 0) (Int.ofNat i) then _ else none)=_;rw[show bD ((fU m W.ints).getD 0) (Int.ofNat i)=true from dg a1];rfl,cI<|a6 (by have:=R.cQ;omega),O⟩
  refine Wl 3 Z<|aQ<|aD<|XK 4 Z<|aJ ⟨bl-1,by omega,oF,i+1,es,ck,m,by omega,hm,by rw[A,cT E];show(lJ i Q m0).bind _=_;rw[F,eK<|bI a0];rfl,cI<|a6 (by have:=ho.cQ;omega),O⟩
 refine Wl 3 Z<|aQ<|Xb 3 Z<|S Z (PZ rQ hm O.g0 Z Z Z Z) Z<|Xf 5 Z ?_;exact az Z Z ⟨cB (by unfold eY;rw[show nG g.order 0 (pW g.threads 0 [])=some m from by rw[T];exact by rw[A,eK<|bI aE];rfl]),O.pop.pop⟩
theorem Ix (u:Plain G) {l:List bW} {v:Y} (h:bG K 5 iN l v) (O:H V K L):Ca G K L 214 [v] V <| .bool (cW 14 (.ofNat l.length)):=by
 refine XD u Tryz.func214 Z<|Xb 8 Z<|S Z (Yx h Z Z Z (e:=40) Z) Z<|Xf 5 Z ?_;exact az Z Z ⟨Z,O⟩
theorem DQ (R:Plain G) {l:List (List bW)} {v:Y} {p:List bW->Bool} (h:bG K 1 (RL K 5 iN) l v) (O:H V K L)
  (E:∀x u V L,H V K L->RL K 5 iN x [u]->EC G 214 [u] V fun v V'=>v= .bool (p x)/\H V' K L):EC G 219 [v,.func 214 [] []] V fun v V'=>v= .int .i64 (fK p l 0)/\H V' K L:=by
 refine XD R Tryz.func219 Z<|Wi 9 Z<|S Z (Yx h Z Z Z (e:=41) Z) Z<|Wm 4 Z ?_;obtain⟨LL1,O,hLL1⟩:=O.named;refine bq ([4,5]++rg 8 11) (fun j t V=>∃(i:Nat),j+i=l.length/\fK p l 0=fK p (l.drop i) i/\t.get 8=some (nI i)/\H V K LL1) (l.length) ⟨0,Z,Z,Z,O⟩ ?_;clear O;intro T t V ar W;obtain⟨i,hj,he,N,O⟩:=W;subst hLL1;obtain⟨oo,rfl⟩:=ar.q1 N Z;refine Xa 6 Z<|aG Z (fun Q=>?_) (fun Q=>?_)
 ·refine UY 15 Z ?_;obtain⟨F,A,aa⟩:=dh Q;refine Yp (e:=41) (m:=1) h A Z Z Z Z (fun ao ab M ac C=>?_);have hr14':=C;obtain⟨ap,rfl,am⟩:=hr14';refine S Z (Yz O M Z Z) Z<|kx (Yu Z Z Z) (E F _ _ _ O C) (fun V O=>?_);refine Xd 2 Z<|aG Z (fun I=>?_) (fun I=>?_)
  ·refine XN 7 Z<|aI<|aA<|bP<|aI<|aA (?_);exact az Z Z ⟨cJ (by symm;rw[he,cT A];show(bif p F then _ else _)=_;rw[I];rfl),O⟩
  refine aH<|aD<|XK 4 Z<|aJ ⟨T-1,by omega,oF,i+1,by omega,by rw[he,cT A];show(bif p F then _ else _)=_;rw[I];rfl,cI<|a6 (by have:=h.cQ;omega),O⟩
 refine Wl 3 Z<|aQ<|XN 6 Z ?_;exact az Z Z ⟨cJ (by symm;rw[he,eK<|bI Q];rfl),O⟩
theorem xC (A:Plain G) {l:List (List bW)} {v:Y} (h:bG K 1 (RL K 5 iN) l v) (O:H V K L):EC G 213 [v,.func 214 [] []] V fun v V'=>v= .bool (l.any fun x=>cW 14 (.ofNat x.length))/\H V' K L:=by
 refine XD A Tryz.func213 Z (Xb 9 Z (kx (Yu Z Z Z) (DQ A h O (p:=fun x=>cW 14 (.ofNat x.length)) fun x u V L O C=>by obtain⟨w,hw,hk⟩:=C;cases hw;exact Ix A hk O) (fun V O=>?_)));refine Xf 5 Z ?_;exact az Z Z ⟨cB<|zk _ _,O⟩
theorem MB (C:Plain G) {a b c d:Y} (h:eS K g a b c d) (O:H V K L):Ca G K L 204 [.agg [a,b,c,d]] V <| .bool (jU g):=by
 have h':=h;obtain⟨hi,E,hf,ho⟩:=h';refine XD C Tryz.func204 Z<|Xb 2 Z<|kb O (cL Z Z) (fun V b1 O=>?_);refine Wu O 7 [1,0] Z Z<|S Z (Yx E Z Z Z (e:=41) Z) Z<|vQ 1 Z<|ky Z (an Z) (fun A=>?_) (fun A=>?_)
 ·refine Xf 14 Z ?_;exact az Z Z ⟨cB (by unfold jU;simp only[A,ct,cf]),O.pop⟩
 refine XS O 2 [0,0] Z Z<|S Z (Yx hi Z Z Z (e:=2) Z) Z<|XP 2 Z<|ky Z (an Z) (fun u=>?_) (fun u=>?_)
 ·refine Xf 8 Z ?_;exact az Z Z ⟨cB (by unfold jU;simp only[A,u,ct,cf]),O.pop⟩
 refine XS O 2 [1,0] Z Z<|kx (Yu Z Z Z) (xC C E O) (fun V O=>?_);refine Xf 5 Z ?_;exact az Z Z ⟨cB (by unfold jU;simp only[A,u,ct,cf]),O.pop⟩
theorem Sm (hG:Plain G) {a b c d:Y} (h:eS K g a b c d) (O:H V K L):Ca G K L 181 [.agg [a,b,c,d]] V <| .int .i64 (eu g):=by
 have h':=h;obtain⟨hi,ht,hf,ho⟩:=h';refine XD hG Tryz.func181 Z<|Xb 2 Z<|kb O (cL Z Z) (fun V b1 O=>?_);refine VE 6 Z<|S Z (YF Z O.g0 Z) Z<|kx (Yu Z Z Z) (MB hG h O) (fun V O=>?_);refine Xd 2 Z<|aG Z (fun h8=>?_) (fun h8=>?_)
 ·refine Xc 7 Z ?_;exact az Z Z ⟨cJ (by symm;unfold eu;rw[h8];rfl),O.pop⟩
 refine VD 5 Z<|XS O 2 [2,0] Z Z<|S Z (Yx hf Z Z Z (e:=57) Z) Z<|XS O 2 [1,0] Z Z<|S Z (Yx ht Z Z Z (e:=41) Z) Z<|vQ 1 Z<|ky Z (an Z) (fun E=>?_) (fun E=>?_)
 ·refine Wq 18 Z ?_;exact az Z Z ⟨cJ (by symm;unfold eu;rw[h8,eb E];rfl),O.pop⟩
 refine XS O 2 [3,0] Z Z<|S Z (Yx ho Z Z Z (e:=57) Z) Z<|XS O 2 [0,0] Z Z<|S Z (Yx hi Z Z Z (e:=2) Z) Z<|Xd 4 Z<|aG Z (fun M=>?_) (fun M=>?_)
 ·refine Xc 7 Z ?_;exact az Z Z ⟨cJ (by symm;unfold eu;rw[h8,dg E,eb M];rfl),O.pop⟩
 refine VD 5 Z<|XS O 2 [1,0] Z Z<|S Z (Yx ht Z Z Z (e:=41) Z) Z<|Wm 4 Z ?_;obtain⟨LL1,O,hLL1⟩:=O.named;refine bq (rg 2 5++rg 28 46) (fun j t V=>∃(i:Nat),j+i=g.threads.length/\lE g g.threads g.from_ 0=lE g (g.threads.drop i) (g.from_.drop i) i/\t.get 28=some (nI i)/\H V K LL1) (g.threads.length) ⟨0,Z,Z,Z,O⟩ ?_;clear O;intro j6 t V ar hI;obtain⟨i,bR,aa,aE,O⟩:=hI;subst hLL1;obtain⟨oo,rfl⟩:=ar.q1 aE Z;refine Xa 6 Z<|aG Z (fun ac=>?_) (fun ac=>?_)
 ·refine UY 7 Z ?_;obtain⟨u,F,a0⟩:=dh ac;refine Yp (e:=41) (m:=1) ht F Z Z Z Z (fun bS bl a1 bm a2=>?_);have hr31':=a2;obtain⟨bY,rfl,T⟩:=hr31';refine S Z (Yz O a1 Z Z) Z<|VF O 10 [2,0] Z Z ?_;obtain⟨A,C⟩:=da (show i<g.from_.length from by rw[qI<|dg E];exact a0);refine Yp (e:=57) (m:=1) hf C Z Z Z Z (fun b0 bo a3 bp a4=>?_);have hr36':=a4;obtain⟨b3,rfl,a5⟩:=hr36';refine S Z (Yz O a3 Z Z) Z<|S Z (Yx a5 Z Z Z (e:=89) Z) Z<|vQ 1 Z<|S Z (Yx T Z Z Z (e:=40) Z) Z<|Xd 3 Z<|aG Z (fun N=>?_) (fun N=>?_)
  ·refine XN 6 Z<|aA<|aI<|aA<|bP<|aI<|aA (?_);exact az Z Z ⟨cJ (by symm;unfold eu;rw[h8,dg E,dg M,show lE g g.threads g.from_ 0=false from by rw[aa,cT F,cT C];show(bif bD _ _ then _ else false)=false;rw[eb N];rfl];rfl),O.pop⟩
  refine Wk 5 Z<|S Z (Yx T Z Z Z (e:=40) Z) Z<|Wm 4 Z ?_;obtain⟨LL2,O,hLL2⟩:=O.named;refine bq ([2,5,6]++rg 44 29) (fun j t V=>∃(Q:Nat),j+Q=u.length/\q8 g i u A 0=q8 g i (u.drop Q) (A.drop Q) Q/\t.get 44=some (nI Q)/\H V K LL2) (u.length) ⟨0,Z,Z,Z,O⟩ ?_;clear O;intro bi t V ar hI;obtain⟨Q,bs,W,a9,O⟩:=hI;subst hLL2;obtain⟨oo,rfl⟩:=ar.q1 a9 Z;refine Xa 6 Z<|aG Z (fun ap=>?_) (fun ap=>?_)
  ·refine UY 7 Z ?_;obtain⟨ab,X,ao⟩:=dh ap;refine Yp (e:=40) (m:=5) T X Z Z Z Z (fun b4 bt ba bv bb=>?_);obtain rfl:=bb;refine S Z (YA O ba Z Z) Z<|kb O (Yy (cs:=[iZ,iZ,iZ,iZ,iZ])) (fun V b2 O=>?_);refine vQ 1 Z<|ks O (YD Z Z Z O.g0 Z) (fun V O=>?_);refine Wn 3 Z<|aU (l:=zp [0,1,2,3,4,5,6,7,8,9,10,11,12,13,14,15,16,17,18,19,20,21,22]) B B<|ah Z Z (YG Z O.g0 Z) Z<|XT O 2 [0,1] Z Z<|ah Z Z (Yx hi Z Z Z (e:=2) Z) Z<|dO Z Z (Yu Z Z Z) (fun _=>Z) (DY hG _ _ O) (fun V O=>?_);refine⟨aY,?_⟩;refine ah Z Z (ek Z) Z<|gO Z Z (an Z) (fun _=>Z) (fun am=>?_) (fun am=>?_)
   ·refine Xh 25 Z<|aI<|aA<|bP<|aI<|aI<|aA<|bP<|aI<|aA (?_);exact az Z Z ⟨cJ (by symm;unfold eu;rw[h8,dg E,dg M,show lE g g.threads g.from_ 0=false from by rw[aa,cT F,cT C];show(bif bD _ _ then(bif q8 g i u A 0 then _ else false) else false)=false;rw[dg N,show q8 g i u A 0=false from by rw[W];obtain⟨R,I⟩:=da (show Q<A.length from by rw[qI<|dg N];exact ao);rw[cT X,cT I];show(bif Ea g i Q ab R then _ else false)=false;rw[show Ea g i Q ab R=false from by unfold Ea;rw[sL am];rfl];rfl];rfl];rfl),O.pop.pop⟩
   refine ah Z Z (YF Z O.g1 Z) Z (XQ 3 Z (ah Z Z (Yt (places:=[(0,1),(1,1)]) (zero:=[iZ,iZ]) (cs:=[_,_]) Z) Z<|XT O 3 [2,1] Z Z<|Yq (e:=57) (m:=1) hf C Z Z Z Z Z (fun b5 bw bc bE bd=>?_)));have hr64':=bd;obtain⟨b6,rfl,be⟩:=hr64';refine ah Z Z (Yz O bc Z Z) Z<|wQ 1 Z ?_;obtain⟨R,I⟩:=da (show Q<A.length from by rw[qI<|dg N];exact ao);refine Yq (e:=89) (m:=2) be I Z Z Z Z Z (fun b7 bF bf bM bg=>?_);obtain rfl:=bg;refine ah Z Z (YA O bf Z Z) Z<|dO Z Z (Yu Z Z Z) (fun _=>Z) (Gh hG h _ _ _ _ O) (fun V O=>?_);refine⟨aY,?_⟩;refine ah Z Z (ek Z) Z<|Xg 3 Z<|aG Z (fun aq=>?_) (fun aq=>?_)
   ·refine XN 6 Z<|aI<|aA<|bP<|aI<|aI<|aA<|bP<|aI<|aA (?_);exact az Z Z ⟨cJ (by symm;unfold eu;rw[h8,dg E,dg M,show lE g g.threads g.from_ 0=false from by rw[aa,cT F,cT C];show(bif bD _ _ then(bif q8 g i u A 0 then _ else false) else false)=false;rw[dg N,show q8 g i u A 0=false from by rw[W];rw[cT X,cT I];show(bif Ea g i Q ab R then _ else false)=false;rw[show Ea g i Q ab R=false from by unfold Ea;rw[mM am,<-a6 (i:=i) (by have:=ht.cQ;omega)];exact sL aq];rfl];rfl];rfl),O.pop.pop⟩
   refine aH<|aD<|XK 4 Z ?_;have O:=O.pop;refine aJ ⟨bi-1,by omega,oF,Q+1,by omega,by rw[W,cT X,cT I];show(bif Ea g i Q ab R then _ else false)=_;rw[show Ea g i Q ab R=true from by unfold Ea;rw[mM am,<-a6 (i:=i) (by have:=ht.cQ;omega)];exact mM aq];rfl,cI<|a6 (by have:=T.cQ;omega),O⟩
  refine Wl 3 Z<|aQ<|aD<|XK 4 Z<|aJ ⟨j6-1,by omega,oF,i+1,by omega,by rw[aa,cT F,cT C];show(bif bD _ _ then(bif q8 g i u A 0 then _ else false) else false)=_;rw[dg N,show q8 g i u A 0=true from by rw[W,eK<|bI ap];rfl];rfl,cI<|a6 (by have:=ht.cQ;omega),O⟩
 refine Wl 3 Z<|aQ<|Wi 3 Z<|S Z (YF Z O.g0 Z) Z<|kx (Yu Z Z Z) (DZ hG h O) (fun V O=>?_);refine S Z (ek Z) Z<|Xd 2 Z<|aG Z (fun ax=>?_) (fun ax=>?_)
 ·refine Xc 7 Z ?_;exact az Z Z ⟨cJ (by symm;unfold eu;rw[h8,dg E,dg M,show lE g g.threads g.from_ 0=true from by rw[aa,eK<|bI ac];rfl,sL ax];rfl),O.pop⟩
 refine Xc 8 Z ?_;exact az Z Z ⟨cJ (by symm;unfold eu;rw[h8,dg E,dg M,show lE g g.threads g.from_ 0=true from by rw[aa,eK<|bI ac];rfl,mM ax];rfl),O.pop⟩
variable {e1 e2:Nat}
theorem RL.mono {α:Type} {K K':KP} (hk:KP.le K K') {m:Nat} {R:α->List Y->Prop} {l:List α} {vs:List Y} (h:RL K m R l vs):RL K' m R l vs:=let ⟨v,h1,u⟩:=h;⟨v,h1,u.mono hk fun _ _ h=>h⟩
theorem eS.mono {K K':KP} (hk:KP.le K K') {a b c d:Y} (h:eS K g a b c d):eS K' g a b c d:=
 ⟨h.init.mono hk fun _ _ h=>h,h.threads.mono hk fun _ _ h=>h.mono hk,h.from_.mono hk fun _ _ h=>h.mono hk,h.order.mono hk fun _ _ h=>h.mono hk⟩
theorem xi (u:Plain G) (x:Int) (O:H V K L):Ca G K L 120 [.int .i64 x] V <| .bool false:=by
 refine XD u Tryz.func120 Z<|XN 14 Z ?_;exact az Z Z ⟨cB<|S1 x,O⟩
theorem Cy (C:Plain G) (x y:Int) (O:H V K L):Ca G K L 91 [.int .i64 x,.int .i64 y] V <| .int .i64 (ff x y):=by
 refine XD C Tryz.func91 Z<|Xb 8 Z<|kx (Yu Z Z Z) (xi C _ O) (fun V O=>?_);refine Wo 6 Z<|kx (Yu Z Z Z) (xi C _ O) (fun V O=>?_);refine Wn 29 Z<|aG Z (fun u=>?_) (fun u=>?_)
 ·refine Xc 7 Z ?_;exact az Z Z ⟨cJ (by unfold ff;rw[u];rfl),O⟩
 refine Wj 10 Z<|aG Z (fun A=>?_) (fun A=>?_)
 ·refine Xc 7 Z ?_;exact az Z Z ⟨cJ (by unfold ff;rw[u,A];rfl),O⟩
 refine Xc 8 Z ?_;exact az Z Z ⟨cJ (by unfold ff;rw[u,A];rfl),O⟩
theorem MA (C:Plain G) {x y:Int} {p q:Y} (u:eT K p [.int .i64 x]) (A:eT K q [.int .i64 y]) (O:H V K L):Ca G K L 90 [p,q] V <| .int .i64 (ff x y):=by
 refine XD C Tryz.func90 Z<|Xb 7 Z<|S Z (Yz O u Z Z) Z<|S Z (Yz O A Z Z) Z<|kx (Yu Z Z Z) (Cy C _ _ O) (fun V O=>?_);refine Xf 4 Z ?_;exact az Z Z ⟨Z,O⟩
theorem sO (C:Plain G) {x y:Int} {u A:Nat} (h1:K u (.row [.int .i64 x] e1 false)) (E:K A (.row [.int .i64 y] e2 false)):xq Tryz.prog G K (ff x y) [.func 90 [] [.ptr u 0,.ptr A 0]]:=⟨90,_,Z,by kernel_rfl,fun V L O=>MA C (gx h1) (gx E) O⟩
theorem iU (C:Plain G) (x y:Int) (O:H V K L):EC G 48 [.int .i64 x,.int .i64 y] V fun v V'=>∃u A,v= .func 90 [] [.ptr u 0,.ptr A 0]/\H V' K ((A,.row [.int .i64 y] 3 false)::(u,.row [.int .i64 x] 3 false)::L):=by
 refine XD C Tryz.func48 Z<|Xb 2 Z<|kb O (cL Z Z) (fun V u O=>?_);refine kb O (cL Z Z) (fun V A O=>?_);refine Xf 10 Z ?_;exact az Z Z ⟨_,_,Z,O⟩
theorem sS (u:Plain G) (x:Int) (O:H V K L):Ca G K L 122 [.int .i64 x] V <| .bool false:=by
 refine XD u Tryz.func122 Z<|XN 14 Z ?_;exact az Z Z ⟨cB<|S1 x,O⟩
theorem xg (C:Plain G) (x y:Int) (O:H V K L):Ca G K L 97 [.int .i64 x,.int .i64 y] V <| .int .i64 (ff x y):=by
 refine XD C Tryz.func97 Z<|Xb 8 Z<|kx (Yu Z Z Z) (sS C _ O) (fun V O=>?_);refine Wo 6 Z<|kx (Yu Z Z Z) (sS C _ O) (fun V O=>?_);refine Wn 29 Z<|aG Z (fun u=>?_) (fun u=>?_)
 ·refine Xc 7 Z ?_;exact az Z Z ⟨cJ (by unfold ff;rw[u];rfl),O⟩
 refine Wj 10 Z<|aG Z (fun A=>?_) (fun A=>?_)
 ·refine Xc 7 Z ?_;exact az Z Z ⟨cJ (by unfold ff;rw[u,A];rfl),O⟩
 refine Xc 8 Z ?_;exact az Z Z ⟨cJ (by unfold ff;rw[u,A];rfl),O⟩
theorem Gf (C:Plain G) {x y:Int} {p q:Y} (u:eT K p [.int .i64 x]) (A:eT K q [.int .i64 y]) (O:H V K L):Ca G K L 153 [p,q] V <| .int .i64 (ff x y):=by
 refine XD C Tryz.func153 Z<|Xb 7 Z<|S Z (Yz O u Z Z) Z<|S Z (Yz O A Z Z) Z<|kx (Yu Z Z Z) (xg C _ _ O) (fun V O=>?_);refine Xf 4 Z ?_;exact az Z Z ⟨Z,O⟩
theorem Pe (C:Plain G) {x y:Int} {u A:Nat} (h1:K u (.row [.int .i64 x] e1 false)) (E:K A (.row [.int .i64 y] e2 false)):xq Tryz.prog G K (ff x y) [.func 153 [] [.ptr u 0,.ptr A 0]]:=⟨153,_,Z,by kernel_rfl,fun V L O=>Gf C (gx h1) (gx E) O⟩
theorem Aw (C:Plain G) (x y:Int) (O:H V K L):EC G 121 [.int .i64 x,.int .i64 y] V fun v V'=>∃u A,v= .func 153 [] [.ptr u 0,.ptr A 0]/\H V' K ((A,.row [.int .i64 y] 2 false)::(u,.row [.int .i64 x] 2 false)::L):=by
 refine XD C Tryz.func121 Z<|Xb 2 Z<|kb O (cL Z Z) (fun V u O=>?_);refine kb O (cL Z Z) (fun V A O=>?_);refine Xf 10 Z ?_;exact az Z Z ⟨_,_,Z,O⟩
theorem sd (T:Plain G) {l:List Int} {v:Y} (O:H V K L) (h:bG K 1 (xq Tryz.prog G K) l v):Ca G K L 47 [v] V <| .int .i64 (D7 l):=by
 refine XD T Tryz.func47 Z<|Wi 9 Z<|S Z (Yx h Z Z Z (e:=103) Z) Z<|Wm 4 Z ?_;obtain⟨LL1,O,hLL1⟩:=O.named;refine bq ([2,4,5]++rg 8 10) (fun j t V=>∃(i:Nat),j+i=l.length/\D7 l=D7 (l.drop i)/\t.get 8=some (nI i)/\H V K LL1) (l.length) ⟨0,Z,Z,Z,O⟩ ?_;clear O;intro W t V ar X;obtain⟨i,ao,C,Q,O⟩:=X;subst hLL1;obtain⟨oo,rfl⟩:=ar.q1 Q Z;refine Xa 6 Z<|aG Z (fun R=>?_) (fun R=>?_)
 ·refine UY 6 Z ?_;obtain⟨I,u,aa⟩:=dh R;refine Yp (e:=103) (m:=1) h u Z Z Z Z (fun ap ab M ac N=>?_);obtain⟨aq,am,rfl,E,A⟩:=N;refine S Z (Yz O M Z Z) Z<|Wo 6 Z<|bk Z (aP Z Z Z E) (fun _=>Z) (A _ _ O) (fun V O=>?_);refine Xd 9 Z<|aG Z (fun F=>?_) (fun F=>?_)
  ·refine XN 7 Z<|aI<|aA<|bP<|aI<|aA (?_);exact az Z Z ⟨cJ (by symm;rw[C,cT u];show(bif bD I 0 then _ else _)=_;rw[eb F];rfl),O⟩
  refine aH<|aD<|XK 4 Z<|aJ ⟨W-1,by omega,oF,i+1,by omega,by rw[C,cT u];show(bif bD I 0 then _ else _)=_;rw[dg F];rfl,cI<|a6 (by have:=h.cQ;omega),O⟩
 refine Wl 3 Z<|aQ<|XN 6 Z ?_;exact az Z Z ⟨cJ (by symm;rw[C,eK<|bI R];rfl),O⟩
theorem Av (u:Plain G) (x y:bW) (O:H V K L):Ca G K L 93 [.agg [.int .i64 x.kind,.int .i64 x.loc,.int .i64 x.order,.int .i64 x.read,.int .i64 x.write],.agg [.int .i64 y.kind,.int .i64 y.loc,.int .i64 y.order,.int .i64 y.read,.int .i64 y.write]] V <| .int .i64 (pQ x y):=by
 refine XD u Tryz.func93 Z<|Xb 2 Z<|kb O (cL Z Z) (fun V b1 O=>?_);refine kb O (cL Z Z) (fun V b2 O=>?_);refine Wn 4 Z (aU (l:=[(0,[]),(1,[]),(2,[]),(3,[]),(5,[]),(6,[]),(7,[]),(8,[]),(10,[]),(11,[]),(12,[]),(13,[]),(15,[]),(16,[]),(17,[]),(18,[]),(20,[]),(21,[]),(22,[]),(23,[]),(4,[6,8,11,13,16,18,21,23]),(9,[11,13,16,18,21,23]),(14,[16,18,21,23]),(19,[21,23]),(24,[]),(25,[]),(26,[]),(27,[])]) B B<|XT O 20 [0,1,0,0,1,1,1,0,2,1,2,0,3,1,3,0,4,1,4,0] Z Z<|fC Z Z (Yu Z Z Z) (fun _=>Z) (iU u _ _ O) ?_);rintro _ V ⟨F,I,rfl,O⟩;refine⟨(bx (bC Z Z Z Z Z (Yw Z (O.get 3 Z) Z)<|dF _ _)<|bx (bC Z Z Z Z Z (Yw Z (O.get 2 Z) Z)<|dF _ _)<|bx (bC Z Z Z Z Z (Yw Z (O.get 3 Z) Z)<|dF _ _)<|bx (bC Z Z Z Z Z (Yw Z (O.get 2 Z) Z)<|dF _ _)<|bx (bC Z Z Z Z Z (Yw Z (O.get 3 Z) Z)<|dF _ _)<|bx (bC Z Z Z Z Z (Yw Z (O.get 2 Z) Z)<|dF _ _)<|bx (bC Z Z Z Z Z (Yw Z (O.get 3 Z) Z)<|dF _ _)<|bx (bC Z Z Z Z Z (Yw Z (O.get 2 Z) Z)<|dF _ _) aY),?_⟩;refine fC Z Z (Yu Z Z Z) (fun _=>Z) (iU u _ _ O) ?_;rintro _ V ⟨N,Q,rfl,O⟩;refine⟨(bx (bC Z Z Z Z Z (Yw Z (O.get 5 Z) Z)<|dF _ _)<|bx (bC Z Z Z Z Z (Yw Z (O.get 4 Z) Z)<|dF _ _)<|bx (bC Z Z Z Z Z (Yw Z (O.get 5 Z) Z)<|dF _ _)<|bx (bC Z Z Z Z Z (Yw Z (O.get 4 Z) Z)<|dF _ _)<|bx (bC Z Z Z Z Z (Yw Z (O.get 5 Z) Z)<|dF _ _)<|bx (bC Z Z Z Z Z (Yw Z (O.get 4 Z) Z)<|dF _ _) aY),?_⟩;refine fC Z Z (Yu Z Z Z) (fun _=>Z) (iU u _ _ O) ?_;rintro _ V ⟨R,T,rfl,O⟩;refine⟨(bx (bC Z Z Z Z Z (Yw Z (O.get 7 Z) Z)<|dF _ _)<|bx (bC Z Z Z Z Z (Yw Z (O.get 6 Z) Z)<|dF _ _)<|bx (bC Z Z Z Z Z (Yw Z (O.get 7 Z) Z)<|dF _ _)<|bx (bC Z Z Z Z Z (Yw Z (O.get 6 Z) Z)<|dF _ _) aY),?_⟩;refine fC Z Z (Yu Z Z Z) (fun _=>Z) (Aw u _ _ O) ?_;rintro _ V ⟨W,A,rfl,O⟩;refine⟨(bx (bC Z Z Z Z Z (Yw Z (O.get 9 Z) Z)<|dF _ _)<|bx (bC Z Z Z Z Z (Yw Z (O.get 8 Z) Z)<|dF _ _) aY),?_⟩;refine fC Z Z (Yu Z Z Z) (fun _=>Z) (Aw u _ _ O) ?_;rintro _ V ⟨C,E,rfl,O⟩;refine⟨aY,?_⟩;refine nN O Z Z (cM (e:=103) (m:=1) (z:=[.nilFunc]) (cs:=[.func 90 [] [.ptr F 0,.ptr I 0],.func 90 [] [.ptr N 0,.ptr Q 0],.func 90 [] [.ptr R 0,.ptr T 0],.func 153 [] [.ptr W 0,.ptr A 0],.func 153 [] [.ptr C 0,.ptr E 0]]) B B B B (by rfl)) (fun _=>Z) (fun V aa O=>?_);have hq:=O.keeps (M:=[_,_,_,_,_,_,_,_,_,_,_,_,_])
 refine dO Z Z (Yu Z Z Z) (fun _=>Z) (mi<|sd u hq<|fE.slice (fE.cons (sO u (KP.cu 10 Z)<|KP.cu 9 Z)<|fE.cons (sO u (KP.cu 8 Z)<|KP.cu 7 Z)<|fE.cons (sO u (KP.cu 6 Z)<|KP.cu 5 Z)<|fE.cons (Pe u (KP.cu 4 Z)<|KP.cu 3 Z)<|fE.cons (Pe u (KP.cu 2 Z)<|KP.cu 1 Z) fE.nil) (KP.cu 0 Z) Z (nR_ _) (by decide)) (fun V O=>?_);clear hq;refine⟨aY,?_⟩;refine Xh 4 Z ?_;exact az Z Z ⟨Z,O⟩
theorem Ge (u:Plain G) (x y:bV) (O:H V K L):Ca G K L 96 [.agg [.int .i64 x.bM,.int .i64 x.index],.agg [.int .i64 y.bM,.int .i64 y.index]] V <| .int .i64 (ql x y):=by
 refine XD u Tryz.func96 Z<|Xb 2 Z<|kb O (cL Z Z) (fun V b1 O=>?_);refine kb O (cL Z Z) (fun V b2 O=>?_);refine Wn 4 Z (aU (l:=[(0,[]),(1,[]),(2,[]),(3,[]),(5,[]),(6,[]),(7,[]),(8,[]),(4,[6,8]),(9,[]),(10,[]),(11,[]),(12,[])]) B B<|XT O 8 [0,1,0,0,1,1,1,0] Z Z<|fC Z Z (Yu Z Z Z) (fun _=>Z) (iU u _ _ O) ?_);rintro _ V ⟨A,C,rfl,O⟩;refine⟨(bx (bC Z Z Z Z Z (Yw Z (O.get 3 Z) Z)<|dF _ _)<|bx (bC Z Z Z Z Z (Yw Z (O.get 2 Z) Z)<|dF _ _) aY),?_⟩;refine fC Z Z (Yu Z Z Z) (fun _=>Z) (iU u _ _ O) ?_;rintro _ V ⟨E,F,rfl,O⟩;refine⟨aY,?_⟩;refine nN O Z Z (cM (e:=103) (m:=1) (z:=[.nilFunc]) (cs:=[.func 90 [] [.ptr A 0,.ptr C 0],.func 90 [] [.ptr E 0,.ptr F 0]]) B B B B (by rfl)) (fun _=>Z) (fun V b7 O=>?_);have hq:=O.keeps (M:=[_,_,_,_,_,_,_]);refine dO Z Z (Yu Z Z Z) (fun _=>Z) (mi<|sd u hq<|fE.slice (fE.cons (sO u (KP.cu 4 Z)<|KP.cu 3 Z)<|fE.cons (sO u (KP.cu 2 Z)<|KP.cu 1 Z) fE.nil) (KP.cu 0 Z) Z (nR_ _) (by decide)) (fun V O=>?_);clear hq;refine⟨aY,?_⟩;refine Xh 4 Z ?_;exact az Z Z ⟨Z,O⟩
variable {kk:IntKind} {zs:List Y} {cap e:Nat} {x xo:Operand} {cp:oY}
section
variable {P:Program} {G:Cx} {ev:Operand->Option Y} {V:D} {K:KP} {L:Own}
theorem tW {lo:Operand} {k n:Nat} (u:ev lo=some (.int kk (.ofNat k))) (hk:k<=n):dQ ev n cap (some lo) none=some (k,n):=by
 have hb:fu ev lo n=some k:=by
  unfold fu;rw[u];dsimp only;rw[show Nat.ble k n=true from by rw[nE_];exact hk];rfl
 unfold dQ;dsimp only;rw[hb]
theorem UO {t sz b n k:Nat} {c:oY} {lo:Operand} (A:P.underlying t=some (.slice e)) (hj:(P.info? e).map (·.size)=some sz) (hc:c= .known n∨c= .upto sz) (hx:ev x=some (.slice b 0 n c)) (u:ev lo=some (.int kk (.ofNat k))) (hk:k<n):
  ∃c',dM P G ev V (.slice t x (some lo) none none)= .val (.slice b (0+k*sz) (n-k) c') V:=by
 rcases hc with rfl | rfl
 ·exact⟨_,Gp A hj hx (tW u oM) hk⟩
 exact⟨_,Gq A hj hx<|tW u oM⟩
theorem SI {t b off n:Nat} {c:Call} {cells:List Y} {z:Y} {e':Nat} (hc:c.callee= .builtin .clear) (F:c.argTypes[0]? =some t) (I:c.args.toList= [x]) (hu:P.underlying t=some (.slice e)) (M:(fx P e)=some z) (A:cE z=some zs)
  (hx:ev x=some (.slice b off n cp)) (hn:n≠0) (hb:V.m.get b=some (.row cells e' false)) (u:cg (ew zs n)=true) (h1:1<=zs.length) (hl:off+(ew zs n).length<=cells.length):
  dM P G ev V (.call c)= .val (.tuple []) (V.setObj b (.row (dp (ew zs n) cells off) e' false)):=by
 refine jV (by simp[kindOf,hc]) ?_
 have he:mB ev [x]=some [.slice b off n cp]:=by
  unfold mB cX;simp only[hx]
 have C:vG P V c.argTypes (.slice b off n cp)=some (V.setObj b (.row (dp (ew zs n) cells off) e' false)):=by
  unfold vG;rw[F];dsimp only;rw[hu];dsimp only;have E:Nat.beq n 0=false:=by cases n with | zero=>exact absurd rfl hn | succ n=>rfl
  rw[E,M];simp only[Option.bind_some,A,hb,cond_false,u,zp_,cC];rw[show Nat.ble 1 zs.length=true from by rw[nE_];exact h1,show Nat.ble (off+(ew zs n).length) cells.length=true from by rw[nE_];exact hl];rfl
 simp only[fX,hc,I,he,C]
theorem yr {hi:Operand} {k n:Nat} (u:ev hi=some (.int kk (.ofNat k))) (hk:k<=cap):dQ ev n cap none (some hi)=some (0,k):=by
 have hb:fu ev hi cap=some k:=by
  unfold fu;rw[u];dsimp only;rw[show Nat.ble k cap=true from by rw[nE_];exact hk];rfl
 unfold dQ;dsimp only;rw[hb]
theorem Xw {t sz b n k:Nat} {c:oY} {hi:Operand} (A:P.underlying t=some (.slice e)) (hj:(P.info? e).map (·.size)=some sz) (hc:c= .known n∨c= .upto sz) (hx:ev x=some (.slice b 0 n c)) (u:ev hi=some (.int kk (.ofNat k))) (hk:k<=n) (hn:0<n):
  dM P G ev V (.slice t x none (some hi) none)= .val (.slice b 0 k c) V:=by
 rcases hc with rfl | rfl
 ·have h:=Gp (P:=P) (G:=G) (V:=V) A hj hx (yr u hk) hn;rw[Nat.zero_mul,Nat.add_zero,Nat.sub_zero,Nat.sub_zero] at h;exact h
 have h:=Gq (P:=P) (G:=G) (V:=V) A hj hx (yr u hk);rw[Nat.zero_mul,Nat.add_zero,Nat.sub_zero] at h;exact h
end
section
variable {P:Program} {G:Cx} {n:Nat} {t:PT Y} {V:D} {K:KP} {L:Own} {Q:Ex->PT Y->D->Prop} {ops:Array Oper} {o:Oper} {l:List Oper}
theorem OA {ty sz b len k:Nat} {c:oY} {lo:Operand} {t':Y->PT Y} (hw:bH ops t o=some true) (C:o.op= .slice ty xo (some lo) none none) (E:P.underlying ty=some (.slice e)) (hj:(P.info? e).map (·.size)=some sz) (hc:c= .known len∨c= .upto sz)
  (hx:bA G t xo=some (.slice b 0 len c)) (u:bA G t lo=some (.int kk (.ofNat k))) (hk:k<len) (hp:∀v,dA t n o.dst v=some (t' v)) (h:∀c',bL P G ops n l (t' (.slice b (0+k*sz) (len-k) c')) V Q):bL P G ops n (o::l) t V Q:=by
 obtain⟨c',A⟩:=UO (G:=G) (V:=V) E hj hc hx u hk;exact S hw (by rw[C];exact A) (hp _)<|h c'
theorem T2 {b:Nat} {ob':cd} {L':Own} {v:Y} {t':PT Y} (u:H V K L) (hu:lq b ob' L L') (hw:bH ops t o=some true) (hv:dM P G (bA G t) V o.op= .val v (V.setObj b ob')) (hp:dA t n o.dst v=some t')
  (h:∀V',H V' K L'->bL P G ops n l t' V' Q):bL P G ops n (o::l) t V Q:=S hw hv hp (h _<|u.Wv hu)
end
end Go.Ev
namespace Go.Ev
variable [Env] {α:Type} {ts:Array TypeId} {G:Cx} {cv us:List Y} {E bv e:Nat} {x:Operand} {ev:Operand->Option Y} {P:Program} {R:α->List Y->Prop}
inductive bu (X:Own):Own->Own->Prop
 | here {L:Own}:bu X (X++L) L
 | there {y:Nat×cd} {L L0:Own}:bu X L L0->bu X (y::L) (y::L0)
 | dz {M L L0:Own}:bu X L L0->bu X (M++L) (M++L0)
theorem bu.perm {X L L0:Own} (h:bu X L L0):L.Perm (X++L0):=by
 induction h with
 | here=>simp_all
 | @there y L L0 _ ih=>exact(List.Perm.cons y ih).trans List.perm_middle.symm
 | @dz M L L0 _ ih=>
  refine(List.Perm.append_left M ih).trans ?_
  grind [List.Perm.append_right,List.perm_append_comm]
theorem bu.Jk {X A B_ L:Own}:bu X ((A++(X++B_))++L) ((A++B_)++L):=by
 rw[lQ_,lQ_,lQ_];exact .dz .here
section
variable {V:D} {K:KP} {L L0 X:Own}
theorem H.pull (h:H V K L) (hi:bu X L L0):H V K (X++L0):=h.perm hi.perm
theorem H.push (h:H V K (X++L0)) (hi:bu X L L0):H V K L:=h.perm hi.perm.symm
theorem w0 {m:Nat} {l l2:List α} {u I:Y} {M:Own} {ev:Nat} {t:TypeId} (W:cO m e R l u M) (O:H V K ((bv,.row cv ev false)::(M++L)))
  (hx:bG (K.add bv (.row cv ev false)) m R l2 I) (A:∀x vs,R x vs->cg vs=true) (hn:l2.length<=1000) (C:1<=l2.length) (hl:l.length<=1000000)
  (N:ts[0]? =some t) (hu:P.underlying t=some (.slice e)) (Q:qc P e m=true) (T:dN P ts[1]? =true):
  ∃V' u' M',fI P V ts u I= .val u' V'/\cO m e R (l++l2) u' M'/\H V' K (M'++L):=by
 have hk:=O.tx;rcases W with ⟨rfl,rfl,rfl⟩ | ⟨b,c,cells,e',rfl,rfl,h3,h4,h5,h6⟩
 ·obtain⟨news,E,F,G⟩:=wo (P:=P) hk hx A oM C N hu Q T;exact⟨_,_,[(V.next,.row news e false)],E,.inr ⟨_,_,news,e,Z,Z,F,G,.inr ⟨Z,Z⟩,by grind⟩,((hk.alloc (.row news e false)).weaken<|KP.zw _ _ _)⟩
 obtain⟨V',b',c',news,e2,E,F,G,k4,k5⟩:=AA (P:=P) hk hx A oM h3 oM h5 N hu Q T;exact⟨V',_,[(b',.row (cells++news) e2 false)],E,Fx h3 h4 G k4 Z k5 oM,F.weaken<|KP.zw _ _ _⟩
end
def Vg (g:XG) (tm:Nat) (e:bW) (fr:bV) (pl:Nat) (row:List bW) (frow:List bV) (orow:List bV) (loc:Nat):XG:=
 {init:=g.init,threads:=g.threads.set tm (row++[e]),from_:=g.from_.set tm (frow++[fr]),order:=bif bQ e then g.order.set loc (orow.take pl++⟨.ofNat (tm+1),.ofNat row.length⟩::orow.drop pl) else g.order}
def WJ (g:XG) (th:Int) (e:bW) (fr:bV) (pl:Int):Option XG×Int:=
 bif !bD (eu g) 0 then(none,2) else
 bif cW th 1 then(none,9) else
 bif cW (.ofNat g.threads.length) th then(none,9) else
 match g.threads[th.toNat-1]?,g.from_[th.toNat-1]? with
 | some row,some frow=>
  bif !cW (.ofNat row.length) 14 then(none,3) else
  bif (bif bQ e then(bif cW pl 1 then true else cW (.ofNat (lX g e.loc).length) pl) else !bD pl 0) then(none,2) else
  let g':=Vg g (th.toNat-1) e fr (pl.toNat-1) row frow ((g.order[e.loc.toNat]?).getD []) e.loc.toNat
  bif bD (eu g') 0 then(some g',0) else(none,2)
 | _,_=>(none,9)
theorem D6 {V:D} {m:Nat} {l:List α} {u:Y} {M:Own} {c:Call} {t e:TypeId} (h:cO m E R l u M) (hc:c.callee= .builtin .len) (A:c.argTypes[0]? =some t) (C:c.args.toList= [x]) (hu:P.underlying t=some (.slice e)) (hx:ev x=some u):
  dM P G ev V (.call c)= .val (.int .i64 (.ofNat l.length)) V:=
 aZ (K:=fun b o=>(b,o)∈M) (h.gB fun e he=>he) hc A C hu hx
theorem IV (b o l c:Nat):dV (.slice b o l (.known c)) (.slice b o l (.known c))=true:=by
 unfold dV;show(dV.beqP b b && Nat.beq o o && Nat.beq l l && dV.beqC (.known c) (.known c))=true
 grind [dV.beqP,Nat.beq_refl,dV.beqC]
theorem pJ {u:Y} {i:Nat} (h:i<us.length):dp [u] us (0+i*1)=us.set i u:=by
 rw[show 0+i*1=i by omega,ju _ _ _ (by grind),zq_,List.set_eq_take_append_cons_drop,if_pos h,lQ_];rfl
theorem Dr {m:LM} {k:List Int} (h:(fU m k).isSome=true):(lD m k).length+1=m.length:=by
 unfold fU at h;unfold lD;cases u:qK m k 0 with
 | none=>rw[u] at h;cases h
 | some p=>
  obtain⟨j,v⟩:=p;have h1:=(rP u).2
  grind
theorem wE {loc:Nat}:∀{l:List bV} {m m':LM},lJ loc l m=some m'->m'.length+l.length=m.length
 | [],m,m',h=>by cases h;rfl
 | id::l,m,m',h=>by
  have h':(bif (fU m id.ints).isSome then(bif bD ((fU m id.ints).getD 0) (.ofNat loc) then lJ loc l (lD m id.ints) else none) else none)=some m':=h;cases u:(fU m id.ints).isSome with
  | false=>rw[u] at h';cases h'
  | true=>
   rw[u] at h';cases he:bD ((fU m id.ints).getD 0) (.ofNat loc) with
   | false=>rw[he] at h';cases h'
   | true=>
    rw[he] at h';have h1:=wE (l:=l) h';have h2:=Dr u;rw[zc_];omega
theorem wF:∀{ls:List (List bV)} {loc:Nat} {m m':LM},nG ls loc m=some m'->∀l∈ls,l.length<=m.length
 | [],_,_,_,_,l,hl=>by cases hl
 | r::ls,loc,m,m',h,l,hl=>by
  have h':(lJ loc r m).bind (nG ls (loc+1))=some m':=h;cases u:lJ loc r m with
  | none=>simp_all
  | some m1=>
   rw[u] at h';have h1:=wE u;rcases mQ_.1 hl with rfl | hl
   ·omega
   have:=wF (ls:=ls) h' l hl;omega
theorem Ff {t:Nat} {m:LM} {n:Nat} {e:bW}:(zm t m n e).length<=m.length+1:=by
 unfold zm;cases bQ e with
 | false=>simp_all
 | true=>
  show(qL m _ _).length<=_;unfold qL
  grind
theorem wS {t:Nat}:∀{l:List bW} {n:Nat} {m:LM},(sk t l n m).length<=m.length+l.length
 | [],_,_=>nR_ _
 | e::l,n,m=>by
  have h1:=wS (t:=t) (l:=l) (n:=n+1) (m:=zm t m n e);have h2:=Ff (t:=t) (m:=m) (n:=n) (e:=e);show(sk t l (n+1)<|zm t m n e).length<=_;rw[zc_];omega
theorem wT:∀{ls:List (List bW)} {t:Nat} {m:LM},(∀l∈ls,l.length<=14)->(pW ls t m).length<=m.length+14*ls.length
 | [],_,_,_=>by simp[pW]
 | l::ls,t,m,h=>by
  have h1:=wT (ls:=ls) (t:=t+1) (m:=sk t l 0 m) fun x hx=>h x (mC_ _ hx)
  have h2:=wS (t:=t) (l:=l) (n:=0) (m:=m);have h3:=h l (mS_ ..);show(pW ls (t+1)<|sk t l 0 m).length<=_;rw[zc_];omega
theorem oE {g:XG} (h:eu g=0):∀l∈g.order,l.length<=56:=by
 intro l hl;obtain⟨b1,b2,u,b4,b5,b6,A⟩:=lI h;unfold eY at A;cases hc:nG g.order 0 (pW g.threads 0 []) with
 | none=>simp_all
 | some m=>
  have h1:=wF hc l hl;have h2:=wT (ls:=g.threads) (t:=0) (m:=[]) u
  grind
end Go.Ev
namespace Go.Ev
variable [Env]
theorem Ad {g:XG}:∀{ts:List (List bW)} {fs:List (List bV)} {i:Nat},lE g ts fs i=true->fs.length=ts.length->(∀l∈ts,l.length<=14)->∀f∈fs,f.length<=14
 | [],fs,_,_,hl,_,f,hf=>by
  rw[eN_ hl] at hf;cases hf
 | x::ts,[],_,_,hl,_,f,hf=>by cases hf
 | x::ts,y::fs,i,h,hl,hb,f,hf=>by
  have h':(bif bD (.ofNat y.length) (.ofNat x.length) then(bif q8 g i x y 0 then lE g ts fs (i+1) else false) else false)=true:=h;cases he:bD (.ofNat y.length) (.ofNat x.length) with
  | false=>rw[he] at h';cases h'
  | true=>
   rw[he] at h';cases u:q8 g i x y 0 with
   | false=>rw[u] at h';cases h'
   | true=>
    rw[u] at h';have e1:=qI he;have e2:=hb x (mS_ ..);rcases mQ_.1 hf with rfl | hf
    ·omega
    exact Ad (ts:=ts) (fs:=fs) h' (by simpa using hl) (fun l hl=>hb l (mC_ _ hl)) f hf
end Go.Ev
namespace Go.Ev
variable [Env]
end Go.Ev
namespace Go.Ev
variable [Env]
section
variable {V σ0:D} {K:KP} {L M:Own}
theorem H.Sj (h0:H σ0 K (M++L)) (h:H V (K.gw M) L):H V K (M++L) where
 kept b o hb:=by
  obtain⟨h1,u,h3⟩:=h.kept b o (.inl hb);refine⟨h1,u,fun e he=>?_⟩;rcases List.mem_append.1 he with he | he
  ·exact(h0.kept b o hb).2.2 e (List.mem_append_left _ he)
  exact h3 e he
 own e he:=by
  rcases List.mem_append.1 he with he | he
  ·exact⟨(h.kept e.1 e.2 (.inr he)).1,(h.kept e.1 e.2 (.inr he)).2.1⟩
  exact h.own e he
 ne:=h0.ne
end
end Go.Ev
namespace Go.Ev
variable [Env]
inductive ya:Own->Own->Own->Prop
 | base {L:Own}:ya L [] L
 | there {x:Nat×cd} {LL M L:Own}:ya LL M L->ya (x::LL) (x::M) L
 | dz {A LL M L:Own}:ya LL M L->ya (A++LL) (A++M) L
end Go.Ev
namespace Go.Ev
variable [Env]
variable {α:Type}
theorem Oj (x:Int):cW x x=false:=by
 cases x with
 | ofNat n=>rw[gL];simp
 | negSucc n=>
  cases h:cW (.negSucc n) (.negSucc n) with
  | false=>rfl
  | true=>
   have:Nat.blt n n=true:=h
   simp_all
theorem rE (x:Int):ff x x=0:=by unfold ff;rw[Oj];rfl
theorem kq {α:Type} {c:α->α->Int} (h:∀x,c x x=0):∀l,eo c l l=0
 | []=>rfl
 | x::l=>by
  show(bif bD (c x x) 0 then eo c l l else c x x)=0;rw[h x];exact kq h l
theorem qC:∀(l:List Int),(∀x∈l,x=0)->D7 l=0
 | [],_=>rfl
 | x::l,h=>by
  show(bif bD x 0 then D7 l else x)=0;rw[h x<|mS_ ..];exact qC l fun y hy=>h y (mC_ _ hy)
theorem GS (x:bV):ql x x=0:=qC _ fun y hy=>by simp only[rE,mQ_,List.not_mem_nil,or_false,or_self] at hy;exact hy
theorem GQ (x:bW):pQ x x=0:=qC _ fun y hy=>by simp only[rE,mQ_,List.not_mem_nil,or_false,or_self] at hy;exact hy
theorem qn (l:List α):iY l l=0:=rE _
theorem EI (l:List bV):iX l l=0:=qC _ fun y hy=>by simp only[qn,kq GS,mQ_,List.not_mem_nil,or_false,or_self] at hy;exact hy
theorem Kz (g:XG):ml g g=0:=qC _ fun y hy=>by
 simp only[qn,kq EI,kq (c:=iY) qn,kq<|kq GQ,kq rE,mQ_,List.not_mem_nil,or_false,or_self] at hy;exact hy
theorem mA {g:XG} {t i:Nat}:gf g ⟨.ofNat (t+1),.ofNat i⟩=(g.threads[t]?).bind (·[i]?):=rfl
def ij (t:Nat):List bW->Nat->LM
 | [],_=>[]
 | e::l,n=>bif bQ e then([.ofNat (t+1),.ofNat n],e.loc)::ij t l (n+1) else ij t l (n+1)
def jz:List (List bW)->Nat->LM
 | [],_=>[]
 | l::r,t=>ij t l 0++jz r (t+1)
theorem BU {k:List Int}:∀{m:LM} {i:Nat},(∀p∈m,p.1≠k)->qK m k i=none
 | [],_,_=>rfl
 | (k',v)::m,i,h=>by
  show(bif dv k k' then some (i,v) else qK m k (i+1))=none
  have:dv k k'=false:=by
   cases hh:dv k k' with
   | false=>rfl
   | true=>exact absurd (eh.1 hh).symm (h (k',v)<|mS_ ..)
  rw[this];exact BU fun p hp=>h p (mC_ _ hp)
theorem zn {t:Nat}:∀{l:List bW} {n:Nat} {m:LM},(∀p∈m,∀k,n<=k->p.1≠[.ofNat (t+1),.ofNat k])->sk t l n m=m++ij t l n
 | [],_,m,_=>by simp[sk,ij]
 | e::l,n,m,h=>by
  show sk t l (n+1) (zm t m n e)=m++(bif bQ e then _ else _);unfold zm;cases hw:bQ e with
  | false=>exact zn fun p hp k hk=>h p hp k oM
  | true=>
   show sk t l (n+1) (qL m [.ofNat (t+1),.ofNat n] e.loc)=m++_
   have hp:qL m [.ofNat (t+1),.ofNat n] e.loc=m++[([.ofNat (t+1),.ofNat n],e.loc)]:=by
    unfold qL;rw[BU fun p hp=>h p hp n (nR_ _)]
   rw[hp,zn (l:=l) (n:=n+1) fun p hp k hk=>?_,lQ_]
   ·rfl
   grind
theorem l7 {t:Nat}:∀{l:List bW} {n:Nat},∀p∈ij t l n,∃k,p.1= [.ofNat (t+1),.ofNat k]/\n<=k
 | [],_,p,h=>by cases h
 | e::l,n,p,h=>by
  have h':p∈(bif bQ e then([.ofNat (t+1),.ofNat n],e.loc)::ij t l (n+1) else ij t l (n+1)):=h;cases hw:bQ e with
  | false=>
   rw[hw] at h';obtain⟨k,h1,u⟩:=l7 (l:=l) p h';exact⟨k,h1,by omega⟩
  | true=>
   rw[hw] at h';rcases mQ_.1 h' with rfl | h'
   ·exact⟨n,Z,nR_ _⟩
   obtain⟨k,h1,u⟩:=l7 (l:=l) p h';exact⟨k,h1,by omega⟩
theorem Fg:∀{ls:List (List bW)} {t:Nat} {m:LM},(∀p∈m,∀s k,t<=s->p.1≠[.ofNat (s+1),.ofNat k])->pW ls t m=m++jz ls t
 | [],_,m,_=>by simp[pW,jz]
 | l::ls,t,m,h=>by
  show pW ls (t+1) (sk t l 0 m)=m++(ij t l 0++jz ls (t+1));rw[zn fun p hp k _=>h p hp t k (nR_ _),Fg (ls:=ls) (t:=t+1) fun p hp s k hs=>?_,lQ_];rcases List.mem_append.1 hp with hp | hp
  ·grind
  obtain⟨k',h1,_⟩:=l7 p hp
  grind
theorem wU {ls:List (List bW)}:pW ls 0 []=jz ls 0:=by
 rw[Fg fun p hp=>by cases hp];rfl
def jO (loc:Nat) (l:List bV):LM:=l.map fun id=>(id.ints,.ofNat loc)
def sl:List (List bV)->Nat->LM
 | [],_=>[]
 | r::ls,loc=>jO loc r++sl ls (loc+1)
theorem nJ {α:Type}:∀{m:List α} {j:Nat} {x:α},m[j]? =some x->m.Perm (x::m.eraseIdx j)
 | [],_,_,h=>by simp at h
 | y::m,0,x,h=>by
  have:y=x:=by simpa using h
  subst this;exact List.Perm.refl _
 | y::m,j+1,x,h=>by
  have h':m[j]? =some x:=by simpa using h
  exact(List.Perm.cons y<|nJ h').trans (List.Perm.swap x y _)
theorem zC {m:LM} {k:List Int} {v:Int} (h:fU m k=some v):m.Perm ((k,v)::lD m k):=by
 unfold fU at h;unfold lD;cases u:qK m k 0 with
 | none=>rw[u] at h;cases h
 | some p=>
  obtain⟨j,w⟩:=p;rw[u] at h;have hw:w=v:=by simpa using h
  subst hw;exact nJ (rP u).2
theorem Bv {loc:Nat}:∀{l:List bV} {m m':LM},lJ loc l m=some m'->m.Perm (jO loc l++m')
 | [],m,m',h=>by cases h;exact List.Perm.refl _
 | id::l,m,m',h=>by
  have h':(bif (fU m id.ints).isSome then(bif bD ((fU m id.ints).getD 0) (.ofNat loc) then lJ loc l (lD m id.ints) else none) else none)=some m':=h;cases u:fU m id.ints with
  | none=>rw[u] at h';cases h'
  | some v=>
   rw[u] at h';have h'':(bif bD v (.ofNat loc) then lJ loc l (lD m id.ints) else none)=some m':=h';cases he:bD v (.ofNat loc) with
   | false=>rw[he] at h'';cases h''
   | true=>
    rw[he] at h'';rw[dS] at he;have hv:v= .ofNat loc:=of_decide_eq_true he;subst hv;exact(zC u).trans (List.Perm.cons _<|Bv (l:=l) h'')
theorem Bw:∀{ls:List (List bV)} {loc:Nat} {m m':LM},nG ls loc m=some m'->m.Perm (sl ls loc++m')
 | [],_,m,m',h=>by cases h;exact List.Perm.refl _
 | r::ls,loc,m,m',h=>by
  have h':(lJ loc r m).bind (nG ls (loc+1))=some m':=h;cases u:lJ loc r m with
  | none=>rw[u] at h';cases h'
  | some m1=>
   rw[u] at h';refine(Bv u).trans ?_;show(jO loc r++m1).Perm ((jO loc r++sl ls (loc+1))++m');rw[lQ_];exact List.Perm.append_left _<|Bw (ls:=ls) h'
theorem HH {g:XG} (h:eY g=true):(jz g.threads 0).Perm (sl g.order 0):=by
 unfold eY at h;cases hc:nG g.order 0 (pW g.threads 0 []) with
 | none=>rw[hc] at h;cases h
 | some m=>
  rw[hc] at h
  have h0:m= []:=by
   have h1:bD (.ofNat m.length) (.ofNat 0)=true:=h;rw[gd] at h1
   simp_all
  have:=Bw hc;rw[h0,zk_,wU] at this;exact this
theorem Fl {k:List Int} {v:Int}:∀{m:LM} {i:Nat},(m.map (·.1)).Nodup->(k,v)∈m->∃j,qK m k i=some (j,v)
 | (k',w)::m,i,hn,h=>by
  rw[List.map_cons,List.nodup_cons] at hn;show∃j,(bif dv k k' then some (i,w) else qK m k (i+1))=some (j,v);rcases mQ_.1 h with h1 | h1
  ·cases h1;rw[eh.2 Z];exact⟨i,Z⟩
  have:dv k k'=false:=by
   cases hh:dv k k' with
   | false=>rfl
   | true=>
    have e:=eh.1 hh
    simp_all
  rw[this];exact Fl (m:=m) hn.2 h1
theorem IX {loc:Nat}:∀{l:List bV} {m rest:LM},m.Perm (jO loc l++rest)->(m.map (·.1)).Nodup->∃m',lJ loc l m=some m'/\m'.Perm rest/\(m'.map (·.1)).Nodup
 | [],m,rest,h,hn=>⟨m,Z,h,hn⟩
 | id::l,m,rest,h,hn=>by
  have u:(id.ints,Int.ofNat loc)∈m:=h.mem_iff.2 (mS_ ..);obtain⟨j,hj⟩:=Fl (i:=0) hn u;have E:fU m id.ints=some (.ofNat loc):=by unfold fU;rw[hj];rfl
  have hp:=zC E;have A:(lD m id.ints).Perm (jO loc l++rest):=List.Perm.cons_inv (hp.symm.trans h)
  have C:((lD m id.ints).map (·.1)).Nodup:=by
   have:=(hp.map (·.1)).nodup_iff.1 hn
   rw[List.map_cons,List.nodup_cons] at this;exact this.2
  obtain⟨m',h1,F,h3⟩:=IX (l:=l) A C;refine⟨m',?_,F,h3⟩;show(bif (fU m id.ints).isSome then(bif bD ((fU m id.ints).getD 0) (.ofNat loc) then lJ loc l (lD m id.ints) else none) else none)=some m';have he:bD (.ofNat loc) (.ofNat loc)=true:=by rw[gd];simp
  rw[E];show(bif bD (.ofNat loc) (.ofNat loc) then lJ loc l (lD m id.ints) else none)=some m';rw[he];exact h1
theorem IY:∀{ls:List (List bV)} {loc:Nat} {m:LM},m.Perm (sl ls loc)->(m.map (·.1)).Nodup->nG ls loc m=some []
 | [],_,m,h,_=>by rw[show m= [] from h.eq_nil];rfl
 | r::ls,loc,m,h,hn=>by
  obtain⟨m',h1,u,h3⟩:=IX (l:=r) (rest:=sl ls (loc+1)) h hn;show(lJ loc r m).bind (nG ls (loc+1))=some [];rw[h1];exact IY (ls:=ls) u h3
theorem rq {t:Nat}:∀{l:List bW} {n:Nat},((ij t l n).map (·.1)).Nodup
 | [],_=>List.nodup_nil
 | e::l,n=>by
  show((bif bQ e then([.ofNat (t+1),.ofNat n],e.loc)::ij t l (n+1) else ij t l (n+1):LM).map (·.1)).Nodup
  cases bQ e with
  | false=>exact rq (l:=l)
  | true=>
   show(([Int.ofNat (t+1),Int.ofNat n],e.loc).1::(ij t l (n+1)).map (·.1)).Nodup
   rw[List.nodup_cons];refine⟨fun h=>?_,rq (l:=l)⟩;obtain⟨p,hp,he⟩:=zn_.1 h;obtain⟨k,h1,h2⟩:=l7 p hp
   grind
theorem CE:∀{ls:List (List bW)} {t:Nat},∀p∈jz ls t,∃s k,p.1= [.ofNat (s+1),.ofNat k]/\t<=s
 | [],_,p,h=>by cases h
 | l::ls,t,p,h=>by
  have h':p∈ij t l 0++jz ls (t+1):=h;rcases List.mem_append.1 h' with h' | h'
  ·obtain⟨k,h1,_⟩:=l7 p h';exact⟨t,k,h1,nR_ _⟩
  obtain⟨s,k,h1,h2⟩:=CE (ls:=ls) p h';exact⟨s,k,h1,by omega⟩
theorem rp:∀{ls:List (List bW)} {t:Nat},((jz ls t).map (·.1)).Nodup
 | [],_=>List.nodup_nil
 | l::ls,t=>by
  show((ij t l 0++jz ls (t+1)).map (·.1)).Nodup
  rw[List.map_append,List.nodup_append];refine⟨rq,rp (ls:=ls),fun a u b hb aa=>?_⟩;obtain⟨p,hp,rfl⟩:=zn_.1 u;obtain⟨q,hq,rfl⟩:=zn_.1 hb;obtain⟨k,h1,_⟩:=l7 p hp;obtain⟨s,k',h3,h4⟩:=CE q hq
  grind
theorem qY {g:XG}:eY g=true↔(jz g.threads 0).Perm (sl g.order 0):=by
 refine⟨HH,fun h=>?_⟩;unfold eY;rw[wU,IY h rp];rfl
theorem uM {g:XG} {t:Nat}:∀{l:List bW} {f:List bV} {n:Nat},f.length=l.length->(q8 g t l f n=true↔∀i e q,l[i]? =some e->f[i]? =some q->Ea g t (n+i) e q=true)
 | [],f,n,h=>⟨fun _ i e q h1=>by simp at h1,fun _=>Z⟩
 | x::l,[],n,h=>by cases h
 | x::l,y::f,n,h=>by
  have hl:f.length=l.length:=by simpa using h
  show(bif Ea g t n x y then q8 g t l f (n+1) else false)=true↔_;constructor
  ·intro hh i e q h1 u;cases A:Ea g t n x y with
   | false=>rw[A] at hh;cases hh
   | true=>
    rw[A] at hh;cases i with
    | zero=>
     have e1:x=e:=by simpa using h1
     have e2:y=q:=by simpa using u
     subst e1 e2;exact A
    | succ i=>
     have:=(uM hl).1 hh i e q (by simpa using h1) (by simpa using u);rwa[show n+1+i=n+(i+1) by omega] at this
  intro hh;rw[show Ea g t n x y=true from hh 0 x y Z Z];refine(uM hl).2 fun i e q h1 u=>?_
  have:=hh (i+1) e q (by simpa using h1) (by simpa using u);rwa[show n+(i+1)=n+1+i by omega] at this
theorem rZ {g:XG}:∀{ls:List (List bW)} {fs:List (List bV)} {t:Nat},fs.length=ls.length->(lE g ls fs t=true↔∀i l f,ls[i]? =some l->fs[i]? =some f->f.length=l.length/\∀j e q,l[j]? =some e->f[j]? =some q->Ea g (t+i) j e q=true)
 | [],f,n,h=>⟨fun _ i e q h1=>by simp at h1,fun _=>Z⟩
 | x::l,[],n,h=>by cases h
 | x::l,y::f,t,h=>by
  have hl:f.length=l.length:=by simpa using h
  show(bif bD (.ofNat y.length) (.ofNat x.length) then(bif q8 g t x y 0 then lE g l f (t+1) else false) else false)=true↔_;constructor
  ·intro hh i e q h1 C;cases he:bD (.ofNat y.length) (.ofNat x.length) with
   | false=>rw[he] at hh;cases hh
   | true=>
    rw[he] at hh;cases E:q8 g t x y 0 with
    | false=>rw[E] at hh;cases hh
    | true=>
     rw[E] at hh;cases i with
     | zero=>
      have e1:x=e:=by simpa using h1
      have e2:y=q:=by simpa using C
      subst e1 e2;refine⟨qI he,fun j w z u A=>?_⟩;have:=(uM<|qI he).1 E j w z u A;rwa[nA_] at this
     | succ i=>
      have:=(rZ hl).1 hh i e q (by simpa using h1) (by simpa using C);rwa[show t+1+i=t+(i+1) by omega] at this
  intro hh;obtain⟨h1,C⟩:=hh 0 x y Z Z;rw[show bD (.ofNat y.length) (.ofNat x.length)=true by rw[gd];simp[h1]];rw[show q8 g t x y 0=true from(uM h1).2 fun i e q u A=>by have:=C i e q u A;rwa[nA_]];refine(rZ hl).2 fun i e q u A=>?_
  have:=hh (i+1) e q (by simpa using u) (by simpa using A);rwa[show t+(i+1)=t+1+i by omega] at this
structure eE (g:XG):Prop where
 threads:g.threads.length<=4
 init:g.init.length<=6
 short:∀(i:Nat) (l:List bW),g.threads[i]? =some l->l.length<=14
 from_:g.from_.length=g.threads.length
 order:g.order.length=g.init.length
 rows:∀(i:Nat) (l:List bW) (f:List bV),g.threads[i]? =some l->g.from_[i]? =some f->f.length=l.length/\∀(j:Nat) (e:bW) (q:bV),l[j]? =some e->f[j]? =some q->Ea g i j e q=true
 perm:(jz g.threads 0).Perm (sl g.order 0)
theorem hJ {g:XG}:eu g=0↔eE g:=by
 constructor
 ·intro h;obtain⟨E,F,G,C,I,K,L⟩:=lI h;refine⟨E,F,fun i l hl=>G l (gB_ hl),C,I,fun i l f u A=>?_,qY.1 L⟩;have:=(rZ C).1 K i l f u A
  simp_all
 intro h;unfold eu
 have h1:jU g=false:=by
  unfold jU;rw[show cW 4 (.ofNat g.threads.length)=false by rw[show(4:Int)= .ofNat 4 from Z,gL];have:=h.threads;simp;omega];rw[show cW 6 (.ofNat g.init.length)=false by rw[show(6:Int)= .ofNat 6 from Z,gL];have:=h.init;simp;omega];show(g.threads.any fun l=>cW 14 (.ofNat l.length))=false;rw[List.any_eq_false];intro l hl;obtain⟨i,hi⟩:=gO_ hl;have:=h.short i l hi;rw[show(14:Int)= .ofNat 14 from Z,gL];simp;omega
 rw[h1];rw[show bD (.ofNat g.from_.length) (.ofNat g.threads.length)=true by rw[gd];simp[h.from_]];rw[show bD (.ofNat g.order.length) (.ofNat g.init.length)=true by rw[gd];simp[h.order]];rw[show lE g g.threads g.from_ 0=true from(rZ h.from_).2 fun i l f u A=>by have:=h.rows i l f u A;rwa[nA_]];rw[qY.2 h.perm];rfl
theorem kY (x:Int):bD x x=true:=by rw[dS];simp
theorem ja (x y:Int):(x<y/\ff x y= -1)∨(x=y/\ff x y=0)∨(y<x/\ff x y=1):=by
 grind [ff,eQ]
structure Bh {α:Type} (c:α->α->Int):Prop where
 qb:∀x y,c y x= -c x y
 small:∀x y,-1<=c x y/\c x y<=1
 trans:∀x y z,c x y<=0->c y z<=0->c x z<=0
theorem uG:Bh ff where
 qb x y:=by rcases ja x y with ⟨h,e⟩ | ⟨h,e⟩ | ⟨h,e⟩<;>rcases ja y x with ⟨h',e'⟩ | ⟨h',e'⟩ | ⟨h',e'⟩<;>omega
 small x y:=by rcases ja x y with ⟨h,e⟩ | ⟨h,e⟩ | ⟨h,e⟩<;>omega
 trans x y z:=by rcases ja x y with ⟨h,e⟩ | ⟨h,e⟩ | ⟨h,e⟩<;>rcases ja y z with ⟨h',e'⟩ | ⟨h',e'⟩ | ⟨h',e'⟩<;>rcases ja x z with ⟨u,e2⟩ | ⟨u,e2⟩ | ⟨u,e2⟩<;>omega
theorem Bh.pull {α β:Type} {c:α->α->Int} (h:Bh c) (f:β->α):Bh fun x y=>c (f x) (f y):=⟨fun x y=>h.qb _ _,fun x y=>h.small _ _,fun x y z=>h.trans _ _ _⟩
theorem AR (a b:Int):(bif bD a 0 then b else a)=if a=0 then b else a:=by
 rw[dS]
 simp_all
theorem Bh.lex {α:Type} {c d:α->α->Int} (hc:Bh c) (u:Bh d):Bh fun x y=>bif bD (c x y) 0 then d x y else c x y where
 qb x y:=by
  have h1:=hc.qb x y;have h2:=u.qb x y;simp only[AR];omega
 small x y:=by
  have h1:=hc.small x y;have h2:=u.small x y
  grind
 trans x y z:=by
  have a1:=hc.qb x y;have a2:=hc.qb y z;have a3:=hc.qb x z;have t1:=hc.trans x y z;have t2:=hc.trans z y x;have t3:=hc.trans y z x;have t4:=hc.trans z x y;have t5:=hc.trans y x z;have t6:=hc.trans x z y;have td:=u.trans x y z;simp only[AR];omega
theorem Bh.fz {c:α->α->Int} {l:α->α->List Int} (hc:Bh c) (h:Bh fun x y=>D7 (l x y)):Bh fun x y=>D7 (c x y::l x y):=hc.lex h
theorem pre_nil:Bh fun _ _:α=>D7 []:=⟨fun _ _=>Z,fun _ _=>⟨by decide,by decide⟩,fun _ _ _ _ _=>by decide⟩
theorem zU {α:Type} {c:α->α->Int} (hc:Bh c):Bh (eo c) where
 qb:=by
  intro l;induction l with
  | nil=>intro m;cases m<;>rfl
  | cons x l ih=>
   intro m;cases m with
   | nil=>rfl
   | cons y m=>
    show(bif bD (c y x) 0 then eo c m l else c y x)= -(bif bD (c x y) 0 then eo c l m else c x y);have h1:=hc.qb x y;have h2:=ih m;simp only[AR];omega
 small:=by
  intro l;induction l with
  | nil=>
   intro m;cases m with
   | nil=>exact(by decide:(-1:Int)<=0/\(0:Int)<=1)
   | cons y m=>exact(by decide:(-1:Int)<=-1/\(-1:Int)<=1)
  | cons x l ih=>
   intro m;cases m with
   | nil=>exact(by decide:(-1:Int)<=1/\(1:Int)<=1)
   | cons y m=>
    show-1<=(bif bD (c x y) 0 then eo c l m else c x y)/\(bif bD (c x y) 0 then eo c l m else c x y)<=1;have h1:=hc.small x y
    grind
 trans:=by
  intro l;induction l with
  | nil=>intro m n _ _;cases n<;>first | exact(by decide:(0:Int)<=0) | exact(by decide:(-1:Int)<=0)
  | cons x l ih=>
   intro m n;cases m with
   | nil=>intro h;exact absurd (show(1:Int)<=0 from h) (by decide)
   | cons y m=>
    cases n with
    | nil=>intro _ h;exact absurd (show(1:Int)<=0 from h) (by decide)
    | cons z n=>
     show(bif bD (c x y) 0 then eo c l m else c x y)<=0->(bif bD (c y z) 0 then eo c m n else c y z)<=0->(bif bD (c x z) 0 then eo c l n else c x z)<=0;have a1:=hc.qb x y;have a2:=hc.qb y z;have a3:=hc.qb x z;have t1:=hc.trans x y z;have t2:=hc.trans z y x;have t3:=hc.trans y z x;have t4:=hc.trans z x y;have t5:=hc.trans y x z;have t6:=hc.trans x z y;have td:=ih m n;simp only[AR];omega
theorem rV:Bh (iY (α:=α)):=uG.pull fun l:List α=>.ofNat l.length
theorem Ul:Bh ql:=(uG.pull bV.bM).fz ((uG.pull bV.index).fz pre_nil)
theorem Uk:Bh pQ:=(uG.pull bW.kind).fz ((uG.pull bW.loc).fz ((uG.pull bW.order).fz ((uG.pull bW.read).fz ((uG.pull bW.write).fz pre_nil))))
theorem JC:Bh iX:=rV.fz ((zU Ul).fz pre_nil)
theorem FG:Bh ml:=
 (rV.pull XG.threads).fz (((zU rV).pull XG.threads).fz (((zU<|zU Uk).pull XG.threads).fz ((rV.pull XG.from_).fz (((zU JC).pull XG.from_).fz ((rV.pull XG.order).fz (((zU JC).pull XG.order).fz ((rV.pull XG.init).fz (((zU uG).pull XG.init).fz pre_nil))))))))
theorem xI {x y:Int} (h:ff x y=0):x=y:=by rcases ja x y with ⟨h',e⟩ | ⟨h',e⟩ | ⟨h',e⟩<;>omega
theorem ib {x:Int} {l:List Int} (h:D7 (x::l)=0):x=0/\D7 l=0:=by
 have h:(bif bD x 0 then D7 l else x)=0:=h;rw[AR] at h;omega
theorem C2 {α:Type} {c:α->α->Int} (hc:∀x y,c x y=0->x=y):∀{l m:List α},eo c l m=0->l=m
 | [],[],_=>rfl
 | [],_::_,h=>absurd (show(-1:Int)=0 from h) (by decide)
 | _::_,[],h=>absurd (show(1:Int)=0 from h) (by decide)
 | x::l,y::m,h=>by
  have h:(bif bD (c x y) 0 then eo c l m else c x y)=0:=h;rw[AR] at h;split at h
  ·rename_i h1;rw[hc x y h1,C2 hc h]
  contradiction
theorem Nk (x y:bV) (h:ql x y=0):x=y:=by
 obtain⟨h1,h⟩:=ib h;obtain⟨h2,h⟩:=ib h;cases x;cases y
 grind [xI]
theorem Nj (x y:bW) (h:pQ x y=0):x=y:=by
 obtain⟨h1,h⟩:=ib h;obtain⟨h2,h⟩:=ib h;obtain⟨h3,h⟩:=ib h;obtain⟨h4,h⟩:=ib h;obtain⟨h5,h⟩:=ib h;cases x;cases y
 grind [xI]
theorem KA (x y:List bV) (h:iX x y=0):x=y:=by
 obtain⟨_,h⟩:=ib h;obtain⟨u,_⟩:=ib h;exact C2 Nk u
theorem IZ {x y:XG} (h:ml x y=0):x=y:=by
 obtain⟨_,h⟩:=ib h;obtain⟨_,h⟩:=ib h;obtain⟨h3,h⟩:=ib h;obtain⟨_,h⟩:=ib h;obtain⟨h5,h⟩:=ib h;obtain⟨_,h⟩:=ib h;obtain⟨h7,h⟩:=ib h;obtain⟨_,h⟩:=ib h;obtain⟨h9,_⟩:=ib h;cases x;cases y
 grind [C2,Nj,KA,xI]
variable {nins:Int} {j:Nat} {c:XC}
def tc:List Nat->Nat->Option Nat
 | [],n=>some n
 | c::r,n=>if 48<=c/\c<=57 then tc r (10*n+(c-48)) else none
def pE (s:List Nat):Option Nat:=if s.length=0∨4<s.length∨(1<s.length/\s[0]? =some 48) then none else tc s 0
theorem ud {s:List Nat} {i c n:Nat} (h:s[i]? =some c) (hc:¬(48<=c/\c<=57)):tc (s.drop i) n=none:=by
 rw[cT h];show(if _ then _ else _)=_;rw[if_neg hc]
theorem yG {s:List Nat} {i c n:Nat} (h:s[i]? =some c) (hc:48<=c/\c<=57):tc (s.drop i) n=tc (s.drop (i+1)) (10*n+(c-48)):=by
 rw[cT h];show(if _ then _ else _)=_;rw[if_pos hc]
theorem yF {s:List Nat} {i n:Nat} (h:s.length<=i):tc (s.drop i) n=some n:=by rw[eK h];rfl
theorem eqv {a b:Int} (h:bD a b=true):a=b:=by rw[dS] at h;simp_all
def rm (b:Bool):Int:=bif b then 1 else 0
def Tx (f:BitVec 64->BitVec 64->BitVec 64) (a b:Int):Int:=wr .i64 (IntKind.u64.wrap (f (BitVec.ofInt 64<|wr .u64 a)<|BitVec.ofInt 64<|wr .u64 b).toNat)
def LC (op a:Int):Int:=bif bD op 3 then wr .i64 (wr .u64<|Int.sub 0<|wr .u64 a) else rm (bD a 0)
def pM (op a b:Int):Int:=
 bif bD op 5 then rm (bif bT (bD a 0) then true else bT (bD b 0)) else
 bif bD op 6 then rm (bif bT (bD a 0) then bT (bD b 0) else false) else
 bif bD op 7 then rm (bD a b) else
 bif bD op 8 then rm (bT<|bD a b) else
 bif bD op 9 then rm (cW a b) else
 bif bD op 10 then rm (bT<|cW b a) else
 bif bD op 11 then Tx (· ||| ·) a b else
 bif bD op 12 then Tx (· ^^^ ·) a b else
 bif bD op 13 then Tx (· &&& ·) a b else
 bif bD op 14 then wr .i64 (wr .u64<|Int.add (wr .u64 a)<|wr .u64 b) else
 bif bD op 15 then wr .i64 (wr .u64<|Int.sub (wr .u64 a)<|wr .u64 b) else
 wr .i64 (wr .u64<|Int.mul (wr .u64 a)<|wr .u64 b)
def te (op:Int) (l:List Int):Int×Int:=
 bif (bif (bif bD op 3 then true else bD op 4) then bD (.ofNat l.length) 1 else false) then(LC op ((l[0]?).getD 0),0) else
 bif (bif (bif bT (cW op 5) then bT (cW 16 op) else false) then bD (.ofNat l.length) 2 else false) then(pM op ((l[0]?).getD 0) ((l[1]?).getD 0),0) else(0,2)
def XB (op:Int) (l:List Int):Int:=(te op l).1
def ou (bE:List Int):Nat->XE->Int
 | 0,_=>0
 | k+1,.mk op num name kids=>bif bD op 1 then num else bif bD op 2 then(bE[(pE name).getD 0]?).getD 0 else XB op (kids.map<|ou bE k)
def fT (op:Int):Int:=bif (bif bD op 3 then true else bD op 4) then 1 else 2
def gH (bE:Int):Nat->XE->Bool
 | 0,_=>false
 | k+1,.mk op num name kids=>
  bif bD op 1 then(bif bT (cW num 0) then(bif wL name [] then bD (.ofNat kids.length) 0 else false) else false) else
  bif bD op 2 then(match pE name with | some n=>(bif cW (.ofNat n) bE then(bif bD num 0 then bD (.ofNat kids.length) 0 else false) else false) | none=>false) else
  bif (bif (bif bD op 3 then true else bD op 4) then false else(bif cW op 5 then true else cW 16 op)) then false else
  bif (bif bT (bD num 0) then true else bif bT (wL name []) then true else bT (bD (.ofNat kids.length)<|fT op)) then false else
  kids.all (gH bE k)
def kJ (f:XE->Int->Option Int):List XE->Int->Option Int
 | [],m=>some m
 | x::r,m=>(f x m).bind (kJ f r)
def tL:Nat->XE->Int->Int->Option Int
 | 0,_,_,_=>none
 | k+1,.mk _ _ _ kids,deep,size=>bif (bif cW 2000 (wr .i64<|Int.add size 1) then true else cW 32 deep) then none else kJ (fun x m=>tL k x (wr .i64<|Int.add deep 1) m) kids (wr .i64<|Int.add size 1)
theorem xc {f:XE->Int->Option Int} {l:List XE} {i:Nat} {m:Int} {x:XE} (hx:l[i]? =some x) (h:(f x m).isSome=false):kJ f (l.drop i) m=none:=by
 rw[cT hx];show(f x m).bind _=none
 simp_all
theorem F1 {f:XE->Int->Option Int} {l:List XE} {i:Nat} {m s:Int} {x:XE} (hx:l[i]? =some x) (h:f x m=some s):kJ f (l.drop i) m=kJ f (l.drop (i+1)) s:=by
 rw[cT hx];show(f x m).bind _=_;rw[h];rfl
theorem Al {f:XE->Int->Option Int} {l:List XE} {i:Nat} {m:Int} (h:l.length<=i):kJ f (l.drop i) m=some m:=by rw[eK h];rfl
structure kN where
 z6:Bool
 loc:Bool
 order:Bool
 to:Bool
 exprs:Nat
def nw:List kN:=[⟨false,false,false,false,0⟩,⟨true,false,false,false,1⟩,⟨true,true,true,false,0⟩,⟨false,true,true,false,1⟩,⟨true,true,true,false,2⟩,⟨true,true,true,false,1⟩,⟨true,true,true,false,1⟩,⟨false,false,true,false,0⟩,⟨false,false,false,false,1⟩,⟨false,false,false,false,1⟩,⟨false,false,false,true,0⟩,⟨false,false,false,true,1⟩,⟨false,false,false,false,0⟩,⟨false,false,false,false,0⟩]
def eF (n least most:Int) (must:Bool):Bool:=bif must then(bif bT (cW n least) then cW n most else false) else bD n 0
def ig (bE nins:Int) (k:Nat) (x:XI) (h:kN):Bool:=
 bif bT (eF x.z6 0 bE h.z6) then false else bif bT (eF x.loc 0 6 h.loc) then false else bif bT (eF x.order 1 7 h.order) then false else bif bT (eF x.to 0 nins h.to) then false else
 bif bT (bD (.ofNat x.exprs.length) (.ofNat h.exprs)) then false else x.exprs.all (gH bE k)
def iB (bE nins:Int) (k:Nat) (x:XI):Bool:=
 bif cW x.kind 1 then false else bif cW 13 x.kind then false else
 match nw[x.kind.toNat]? with
 | some h=>ig bE nins k x h
 | none=>false
def Am (k:Nat) (x:XI):Bool:=x.exprs.all fun e=>(tL k e 1 0).isSome
def lA (x:XI):Bool:=bif bD x.kind 10 then true else bif bD x.kind 12 then true else bD x.kind 13
def dJ (k:Nat) (c:XC):Int:=
 bif cW 16 c.bE then 3 else bif cW 4000 (.ofNat c.ins.length) then 3 else
 bif bT (c.ins.all<|Am k) then 3 else
 bif cW c.bE 0 then 2 else bif bD (.ofNat c.ins.length) 0 then 2 else
 bif bT (c.ins.all<|iB c.bE (.ofNat c.ins.length) k) then 2 else
 match c.ins[c.ins.length-1]? with
 | some x=>bif lA x then 0 else 2
 | none=>2
def fA (x:XI) (at_:Nat):List Int:=
 bif bD x.kind 10 then [x.to] else bif bD x.kind 11 then [.ofNat (at_+1),x.to] else bif bD x.kind 12 then [] else bif bD x.kind 13 then [] else [.ofNat (at_+1)]
def du (c:XC) (i:Nat):List Nat:=match c.ins[i]? with | some x=>(fA x i).map Int.toNat | none=>[]
structure DS where
 st:List Nat
 gone:List Nat
 out:List Nat
 path:List Nat
def my (nx:Nat->List Nat) (s:DS) (at_:Nat):Option DS:=
 let g:=(s.gone[at_]?).getD 0
 match(nx at_)[g]? with
 | none=>some {s with st:=s.st.set at_ 2,out:=s.out++[at_],path:=s.path.dropLast}
 | some to=>
  let s':={s with gone:=s.gone.set at_ (g+1)}
  if(s.st[to]?).getD 0=2 then some s' else if(s.st[to]?).getD 0=1 then none else some {s' with st:=s.st.set to 1,path:=s.path++[to]}
def C7 (nx:Nat->List Nat):Nat->DS->Option (List Nat)
 | 0,_=>none
 | f+1,s=>match s.path.getLast? with
  | none=>some s.out
  | some at_=>(my nx s at_).bind (C7 nx f)
def EM (n:Nat):DS:=⟨(List.replicate n 0).set 0 1,List.replicate n 0,[],[0]⟩
def total (nx:Nat->List Nat) (n:Nat):Nat:=((List.range n).map fun i=>(nx i).length).sum
def eV (c:XC):Option (List Nat):=C7 (du c) (2*total (du c) c.ins.length+2) (EM c.ins.length)
def kZ (k:Nat) (c:XC):Bool:=bif bT (bD (dJ k c) 0) then false else(eV c).isSome
structure UR (nx:Nat->List Nat) (n:Nat) (s:DS):Prop where
 Qt:s.st.length=n
 uw:s.gone.length=n
 gone:∀(i g:Nat),s.gone[i]? =some g->g<=(nx i).length
 path:∀i∈s.path,i<n/\s.st[i]? =some 1
 out:∀i∈s.out,i<n
 nodup:s.path.Nodup
 fresh:∀(i g:Nat),s.st[i]? =some 0->s.gone[i]? =some g->g=0
 done:∀(i:Nat),s.st[i]? =some 2->i∈s.out
 zZ:∀(k i:Nat),s.out[k]? =some i->∀to∈nx i,∃k',k'<k/\s.out[k']? =some to
 ways:∀(j p g:Nat),s.path[j]? =some p->s.gone[p]? =some g->∀(m to:Nat),m<g->(nx p)[m]? =some to->to∈s.out∨s.path[j+1]? =some to
 zero:0∈s.out∨0∈s.path
 size:∀(i g:Nat),s.st[i]? =some g->g<=2
def jn (nx:Nat->List Nat) (n:Nat) (s:DS):Nat:=2*(total nx n-s.gone.sum)+s.path.length
section
variable {nx:Nat->List Nat} {n:Nat} {s s':DS}
theorem JX:∀{l:List Nat} {i g g':Nat},l[i]? =some g->(l.set i g').sum+g=l.sum+g'
 | [],_,_,_,h=>by simp at h
 | x::l,0,g,g',h=>by
  simp only[zm_,oJ_] at h;subst h;simp only[List.set_cons_zero,List.sum_cons];omega
 | x::l,i+1,g,g',h=>by
  have:=JX (l:=l) (i:=i) (g:=g) (g':=g') (by simpa using h);simp only[List.set_cons_succ,List.sum_cons];omega
theorem JW {f:Nat->Nat}:∀(l:List Nat) (k:Nat),(∀i g,l[i]? =some g->g<=f (k+i))->l.sum<=((List.range' k l.length).map f).sum
 | [],_,_=>by simp
 | x::l,k,h=>by
  have h0:=h 0 x Z;have:=JW l (k+1) (fun i g u=>by have:=h (i+1) g (by simpa using u);rwa[show k+1+i=k+(i+1) by omega]);simp only[zc_,List.range'_succ,List.map_cons,List.sum_cons]
  grind
theorem C9 (hn:0<n):UR nx n (EM n) where
 Qt:=by simp[EM]
 uw:=by simp[EM]
 gone i g hg:=by
  have:g=0:=by
   have:=gB_ hg;exact eR_ this
  omega
 path i hi:=by
  obtain rfl:i=0:=by simpa [EM] using hi
  exact⟨hn,by simp[EM,hn]⟩
 out i hi:=by simp[EM] at hi
 nodup:=by simp[EM]
 fresh i g _ hg:=eR_ (gB_ hg)
 done i hi:=by
  exfalso;have hi:((List.replicate n 0).set 0 1)[i]? =some 2:=hi
  grind
 zZ k i hk:=by simp[EM] at hk
 ways j p g hj hg m to hm:=by
  have:g=0:=eR_ (gB_ hg);omega
 zero:=.inr (by simp[EM])
 size i g hg:=by
  have hi:((List.replicate n 0).set 0 1)[i]? =some g:=hg
  grind
theorem Oc:jn nx n (EM n)=2*total nx n+1:=by
 have:(EM n).gone.sum=0:=by
  have:∀m,(List.replicate m 0).sum=0:=by simp_all
  exact this n
 unfold jn;rw[this];rfl
theorem Ox {l:List Nat} {a:Nat} {P:List Nat} (h:l.Nodup) (hl:l=P++[a]) (hj:l[j]? =some a):j=P.length:=by
 grind
theorem qu (h:UR nx n s) (ap:∀i,i<n->∀to∈nx i,to<n) {a:Nat} (ha:s.path.getLast? =some a) (E:my nx s a=some s'):UR nx n s'/\jn nx n s'+1<=jn nx n s/\s'.out.length+jn nx n s'<=s.out.length+jn nx n s:=by
 obtain⟨P,R⟩:=List.getLast?_eq_some_iff.1 ha;have T:a∈s.path:=by rw[R];simp
 obtain⟨W,O⟩:=h.path a T;obtain⟨g,X⟩:∃g,s.gone[a]? =some g:=⟨_,gC (by rw[h.uw];exact W)⟩
 have a1:∀i∈P,i≠a:=fun i hi hh=>by
  have:=h.nodup;grind
 have aq:s.path[P.length]? =some a:=by rw[R];simp
 have a2:s.path[P.length+1]? =none:=by rw[R];simp
 unfold my at E;rw[X] at E;simp only[Option.getD_some] at E;cases F:(nx a)[g]? with
 | none=>
  rw[F] at E;simp only[oJ_] at E;subst E;have hle:(nx a).length<=g:=List.getElem?_eq_none_iff.1 F;have M:s.path.dropLast=P:=by rw[R];simp
  refine⟨⟨by simp[h.Qt],h.uw,h.gone,?_,?_,?_,?_,?_,?_,?_,?_,?_⟩,?_,?_⟩
  ·intro i hi;have hi:i∈P:=by simp_all
   have:=h.path i (by rw[R];simp[hi])
   grind
  ·intro i hi;rcases List.mem_append.1 hi with hi | hi
   ·exact h.out i hi
   simp_all
  ·show s.path.dropLast.Nodup;rw[M];have:=h.nodup;grind
  ·intro i g' h1 N
   by_cases e:i=a
   ·grind
   have h1:(s.st.set a 2)[i]? =some 0:=h1;rw[List.getElem?_set_ne (fun x=>e x.symm)] at h1;exact h.fresh i g' h1 N
  ·intro i hi;show i∈s.out++[a]
   by_cases e:i=a
   ·subst e;simp
   have hi:(s.st.set a 2)[i]? =some 2:=hi;rw[List.getElem?_set_ne (fun x=>e x.symm)] at hi;exact List.mem_append_left _<|h.done i hi
  ·intro k i hk to K;have hk:(s.out++[a])[k]? =some i:=hk;show∃k',k'<k/\(s.out++[a])[k']? =some to
   by_cases aa:k<s.out.length
   ·rw[gL_ aa] at hk;obtain⟨k',h1,N⟩:=h.zZ k i hk to K;exact⟨k',h1,by grind⟩
   have hlt':=(gA.1 hk).1;simp only[lA_,zq_] at hlt';obtain rfl:k=s.out.length:=by omega
   have ar:i=a:=by simpa using hk.symm
   subst ar;obtain⟨m,hm⟩:=gO_ K;have hm':=(gA.1 hm).1;rcases h.ways _ _ _ aq X m to oM hm with h1 | h1
   ·grind [gO_]
   simp_all
  ·intro j p g' hj A m to hm C;have hj:s.path.dropLast[j]? =some p:=hj;rw[M] at hj;have hjl:=(gA.1 hj).1;show to∈s.out++[a]∨s.path.dropLast[j+1]? =some to;rcases h.ways j p g' (by grind) A m to hm C with h1 | h1
   ·simp_all
   grind
  ·show 0∈s.out++[a]∨0∈s.path.dropLast;rw[M];rcases h.zero with h1 | h1
   ·simp_all
   grind
  ·intro i g' hi;have hi:(s.st.set a 2)[i]? =some g':=hi;rw[List.getElem?_set] at hi;split at hi
   ·simp_all
   exact h.size i g' hi
  ·grind [jn]
  grind [jn]
 | some to=>
  rw[F] at E;dsimp only at E;have a3:g<(nx a).length:=(gA.1 F).1;have ab:to<n:=ap a W to (gB_ F);obtain⟨v,hv⟩:∃v,s.st[to]? =some v:=⟨_,gC (by rw[h.Qt];exact ab)⟩;rw[hv] at E;simp only[Option.getD_some] at E
  have G:∀(i g':Nat),(s.gone.set a (g+1))[i]? =some g'->g'<=(nx i).length:=fun i g' hi=>by
   rw[List.getElem?_set] at hi;split at hi
   ·grind
   exact h.gone i g' hi
  have hsum:=JX (l:=s.gone) (i:=a) (g:=g) (g':=g+1) X
  have aa:(s.gone.set a (g+1)).sum<=total nx n:=by
   have:=JW (f:=fun i=>(nx i).length) (s.gone.set a (g+1)) 0 (fun i g' A=>by simp_all);rw[zg_,h.uw] at this;unfold total;rwa[List.range_eq_range']
  have u:∀(p g':Nat),p≠a->(s.gone.set a (g+1))[p]? =some g'->s.gone[p]? =some g':=fun p g' hp A=>by
   grind
  have I:∀(g':Nat),(s.gone.set a (g+1))[a]? =some g'->g'=g+1:=fun g' A=>by
   grind
  split at E
  ·rename_i ac;subst ac;simp only[oJ_] at E;subst E;refine⟨⟨h.Qt,by simp[h.uw],G,h.path,h.out,h.nodup,?_,h.done,h.zZ,?_,h.zero,h.size⟩,?_,?_⟩
   ·intro i g' h1 N;refine h.fresh i g' h1<|u i g' (fun e=>?_) N
    simp_all
   ·intro j p g' hj A m to' hm C
    by_cases hp:p=a
    ·subst hp;obtain rfl:=I g' A
     by_cases Q:m<g
     ·exact h.ways j p g hj X m to' Q C
     obtain rfl:m=g:=by omega
     rw[F] at C;cases C;exact .inl<|h.done _ hv
    exact h.ways j p g' hj (u p g' hp A) m to' hm C
   ·unfold jn;dsimp only;omega
   unfold jn;dsimp only;omega
  split at E
  ·cases E
  rename_i ac a4;simp only[oJ_] at E;subst E;have ax:v=0:=by have:=h.size to v hv;omega
  subst ax;have am:to∉s.path:=fun hh=>by have:=(h.path to hh).2;simp_all
  have aE:to≠a:=fun e=>am (by rw[e];exact T)
  have L:∀i,i≠to->(s.st.set to 1)[i]? =s.st[i]?:=fun i hi=>List.getElem?_set_ne (fun e=>hi e.symm)
  refine⟨⟨by simp[h.Qt],by simp[h.uw],G,?_,h.out,?_,?_,?_,h.zZ,?_,?_,?_⟩,?_,?_⟩
  ·intro i hi;rcases List.mem_append.1 hi with hi | hi
   ·obtain⟨h1,N⟩:=h.path i hi
    grind
   grind
  ·show(s.path++[to]).Nodup;refine List.nodup_append.2 ⟨h.nodup,by simp,fun x hx y hy=>?_⟩
   grind
  ·intro i g' h1 N
   by_cases e:i=to
   ·grind
   have h1b:(s.st.set to 1)[i]? =some 0:=h1;rw[L i e] at h1b;refine h.fresh i g' h1b<|u i g' (fun e=>?_) N
   simp_all
  ·intro i hi
   by_cases e:i=to
   ·grind
   have hi:(s.st.set to 1)[i]? =some 2:=hi;rw[L i e] at hi;exact h.done i hi
  ·intro j p g' hj A m to' hm C;have ao:(s.path++[to])[j]? =some p:=hj;clear hj;have hj:=ao;clear ao;show to'∈s.out∨(s.path++[to])[j+1]? =some to'
   by_cases hjl:j<s.path.length
   ·rw[gL_ hjl] at hj
    by_cases hp:p=a
    ·subst hp;obtain rfl:=I g' A;have hjP:=Ox h.nodup R hj
     by_cases Q:m<g
     ·rcases h.ways j p g hj X m to' Q C with h1 | h1
      ·exact .inl h1
      simp_all
     grind
    rcases h.ways j p g' hj (u p g' hp A) m to' hm C with h1 | h1
    ·exact .inl h1
    grind
   have hlt':=(gA.1 hj).1;simp only[lA_,zq_] at hlt';obtain rfl:j=s.path.length:=by omega
   have a0:to=p:=by simpa using hj
   subst a0;have:=h.fresh to g' hv (u to g' aE A);omega
  ·rcases h.zero with h1 | h1
   ·exact .inl h1
   grind
  ·intro i g' hi;have hi:(s.st.set to 1)[i]? =some g':=hi;rw[List.getElem?_set] at hi;split at hi
   ·grind
   exact h.size i g' hi
  ·grind [jn]
  grind [jn]
structure ft (nx:Nat->List Nat) (n:Nat) (out:List Nat):Prop where
 H2:∀(k i:Nat),out[k]? =some i->∀to∈nx i,∃k',k'<k/\out[k']? =some to
 zero:0∈out
 lt:∀i∈out,i<n
theorem ta (u:∀i,i<n->∀to∈nx i,to<n):∀{f:Nat} {s:DS} {out:List Nat},UR nx n s->C7 nx f s=some out->ft nx n out
 | 0,_,_,_,h=>by cases h
 | f+1,s,out,hw,h=>by
  unfold C7 at h;cases hl:s.path.getLast? with
  | none=>
   rw[hl] at h;simp only[oJ_] at h;subst h;have:s.path= []:=List.getLast?_eq_none_iff.1 hl;exact⟨hw.zZ,by rcases hw.zero with h1 | h1;exact h1;rw[this] at h1;simp at h1,hw.out⟩
  | some a=>
   rw[hl] at h;dsimp only at h;cases A:my nx s a with
   | none=>rw[A] at h;cases h
   | some s'=>rw[A] at h;exact ta u (qu hw u hl A).1 h
end
structure TS where
 at_:Nat
 bE:List Int
 events:List bW
 asked:Nat
 fin:Int
 asks:Bool
def jH (k:Nat) (bE:List Int) (x:XI) (i:Nat):Int:=((x.exprs[i]?).map<|ou bE k).getD 0
def gk (k:Nat) (x:XI) (s:TS):TS×Bool:=
 bif bD x.kind 1 then({s with bE:=s.bE.set x.z6.toNat (jH k s.bE x 0),at_:=s.at_+1},true) else
 bif bD x.kind 3 then({s with events:=s.events++[⟨2,x.loc,x.order,0,jH k s.bE x 0⟩],at_:=s.at_+1},true) else
 bif bD x.kind 7 then({s with events:=s.events++[⟨4,0,x.order,0,0⟩],at_:=s.at_+1},true) else
 bif bD x.kind 8 then(bif bD (jH k s.bE x 0) 0 then({s with fin:=2},false) else({s with at_:=s.at_+1},true)) else
 bif bD x.kind 9 then(bif bD (jH k s.bE x 0) 0 then({s with fin:=3},false) else({s with at_:=s.at_+1},true)) else
 bif bD x.kind 10 then({s with at_:=x.to.toNat},true) else
 bif bD x.kind 11 then(bif bD (jH k s.bE x 0) 0 then({s with at_:=x.to.toNat},true) else({s with at_:=s.at_+1},true)) else
 bif bD x.kind 12 then({s with fin:=4},false) else
 bif bD x.kind 13 then({s with fin:=1},false) else
 ({s with asks:=true},false)
def cK (k:Nat) (c:XC) (s:TS):TS×Bool:=match c.ins[s.at_]? with | some x=>gk k x s | none=>(s,false)
def vo (k:Nat) (c:XC):Nat->TS->TS
 | 0,s=>s
 | f+1,s=>bif (cK k c s).2 then vo k c f (cK k c s).1 else(cK k c s).1
def iL (c:XC):Nat:=((eV c).getD []).length
def jE (k:Nat) (c:XC):TS:=vo k c (iL c) ⟨0,List.replicate c.bE.toNat 0,[],0,0,false⟩
structure AI where
 kind:Int
 loc:Int
 order:Int
 a:Int
 b:Int
def AI.ints (x:AI):List Int:=[x.kind,x.loc,x.order,x.a,x.b]
def MW (k:Nat) (x:XI) (bE:List Int):AI:=⟨x.kind,x.loc,x.order,jH k bE x 0,jH k bE x 1⟩
def pU (k:Nat) (c:XC) (s:TS):AI:=match c.ins[s.at_]? with | some x=>MW k x s.bE | none=>⟨0,0,0,0,0⟩
def fm (a:AI) (v:Int):bW:=
 bif bD a.kind 2 then⟨1,a.loc,a.order,v,0⟩ else
 bif bD a.kind 4 then(bif bD v a.a then⟨3,a.loc,a.order,v,a.b⟩ else⟨1,a.loc,a.order,v,0⟩) else
 bif bD a.kind 5 then⟨3,a.loc,a.order,v,wr .i64<|wr .u64<|Int.add (wr .u64 v)<|wr .u64 a.a⟩ else
 bif bD a.kind 6 then⟨3,a.loc,a.order,v,a.a⟩ else⟨0,0,0,0,0⟩
def pd (a:AI):Int:=bif bD a.kind 2 then 0 else bif bD a.kind 4 then 0 else bif bD a.kind 5 then 0 else bif bD a.kind 6 then 0 else 2
def S7 (c:XC) (s:TS):Nat:=match c.ins[s.at_]? with | some x=>x.z6.toNat | none=>0
def eJ (k:Nat) (c:XC) (s:TS) (v:Int):TS:=
 {s with events:=s.events++[fm (pU k c s) v],bE:=s.bE.set (S7 c s) v,asked:=s.asked+1,at_:=s.at_+1,asks:=false}
def fo (k:Nat) (c:XC) (s:TS) (v:Int):TS:=vo k c (iL c) (eJ k c s v)
def nP (k:Nat) (c:XC):List Int->TS->TS
 | [],s=>s
 | v::r,s=>bif s.asks then nP k c r (fo k c s v) else s
def jg (l:List bW):List Int:=(l.filter dq).map bW.read
def eM (k:Nat) (c:XC) (a:List Int):TS:=nP k c a (jE k c)
def SS (s:TS) (l:List bW):Bool:=bif cW (.ofNat s.events.length) (.ofNat l.length) then false else dv (s.events.take l.length) l
def qk (k:Nat) (c:XC):Int:=bif kZ k c then 0 else bif bT (bD (dJ k c) 0) then dJ k c else 2
structure Bi where
 event:bW
 ask:AI
 fin:Int
def TY:bW:=⟨0,0,0,0,0⟩
def Ou:AI:=⟨0,0,0,0,0⟩
def Ov:Bi:=⟨TY,Ou,0⟩
def Vq (k:Nat) (c:XC) (s:TS) (l:List bW):Bi×Int:=
 bif bT (SS s l) then(Ov,2) else
 match s.events[l.length]? with
 | some e=>(⟨e,Ou,0⟩,0)
 | none=>bif s.asks then(⟨TY,pU k c s,0⟩,0) else(⟨TY,Ou,s.fin⟩,0)
def zH (k:Nat) (c:XC) (l:List bW):Bi×Int:=
 bif bT (bD (qk k c) 0) then(Ov,qk k c) else Vq k c (eM k c<|jg l) l
structure eO (k:Nat) (c:XC):Prop where
 Pb:0<=c.bE
 H5:c.bE<=16
 len:c.ins.length<=4000
 pos:0<c.ins.length
 right:∀x∈c.ins,iB c.bE (.ofNat c.ins.length) k x=true
 last:∀x,c.ins[c.ins.length-1]? =some x->lA x=true
theorem nH {k:Nat} (h:dJ k c=0):eO k c:=by
 unfold dJ at h;cases h1:cW 16 c.bE with
 | true=>rw[h1] at h;cases h
 | false=>
 rw[h1] at h;cases u:cW 4000 (.ofNat c.ins.length) with
 | true=>rw[u] at h;cases h
 | false=>
 rw[u] at h;cases h3:bT (c.ins.all<|Am k) with
 | true=>rw[h3] at h;cases h
 | false=>
 rw[h3] at h;cases A:cW c.bE 0 with
 | true=>rw[A] at h;cases h
 | false=>
 rw[A] at h;cases h5:bD (.ofNat c.ins.length) 0 with
 | true=>rw[h5] at h;cases h
 | false=>
 rw[h5] at h;cases h6:bT (c.ins.all<|iB c.bE (.ofNat c.ins.length) k) with
 | true=>rw[h6] at h;cases h
 | false=>
 rw[h6] at h;simp only[cond_false] at h;rw[eQ,decide_eq_false_iff_not] at h1 u A;have u:¬(4000:Int)<(c.ins.length:Int):=u
 have hp:0<c.ins.length:=by
  grind
 refine⟨by omega,by omega,by omega,hp,fun x hx=>?_,fun x hx=>?_⟩
 ·have h6:=dg h6
  simp_all
 grind
theorem js {bE:Int} {k:Nat} {x:XI} (h:iB bE nins k x=true):∃(n:Nat) (sh:kN),x.kind= .ofNat n/\1<=n/\n<=13/\nw[n]? =some sh/\ig bE nins k x sh=true:=by
 unfold iB at h;cases h1:cW x.kind 1 with
 | true=>rw[h1] at h;cases h
 | false=>
 rw[h1] at h;cases u:cW 13 x.kind with
 | true=>rw[u] at h;cases h
 | false=>
 rw[u] at h;simp only[cond_false] at h;rw[eQ,decide_eq_false_iff_not] at h1 u
 grind
theorem nA {n least most:Int} (h:eF n least most true=true):least<=n/\n<most:=by
 unfold eF at h;simp only[cond_true] at h;cases h1:cW n least with
 | true=>rw[h1] at h;cases h
 | false=>
 rw[h1] at h;have h:cW n most=true:=h;rw[eQ,decide_eq_false_iff_not] at h1;rw[eQ,decide_eq_true_iff] at h;omega
structure Qw (bE nins:Int) (k:Nat) (x:XI) (sh:kN):Prop where
 z6:eF x.z6 0 bE sh.z6=true
 loc:eF x.loc 0 6 sh.loc=true
 order:eF x.order 1 7 sh.order=true
 to:eF x.to 0 nins sh.to=true
 exprs:x.exprs.length=sh.exprs
 all:∀e∈x.exprs,gH bE k e=true
theorem kH {bE:Int} {k:Nat} {x:XI} {sh:kN} (h:ig bE nins k x sh=true):Qw bE nins k x sh:=by
 unfold ig at h;cases h1:eF x.z6 0 bE sh.z6 with
 | false=>rw[h1] at h;cases h
 | true=>
 cases u:eF x.loc 0 6 sh.loc with
 | false=>rw[h1,u] at h;cases h
 | true=>
 cases h3:eF x.order 1 7 sh.order with
 | false=>rw[h1,u,h3] at h;cases h
 | true=>
 cases A:eF x.to 0 nins sh.to with
 | false=>rw[h1,u,h3,A] at h;cases h
 | true=>
 rw[h1,u,h3,A] at h;have h:(bif bT (bD (.ofNat x.exprs.length) (.ofNat sh.exprs)) then false else x.exprs.all (gH bE k))=true:=h;cases h5:bD (.ofNat x.exprs.length) (.ofNat sh.exprs) with
 | false=>rw[h5] at h;cases h
 | true=>
 rw[h5] at h;have h:x.exprs.all (gH bE k)=true:=h;rw[gd,decide_eq_true_iff] at h5;exact⟨h1,u,h3,A,h5,aE_.1 h⟩
theorem uC {k:Nat} (h:eO k c):∀i,i<c.ins.length->∀to∈du c i,to<c.ins.length:=by
 intro i hi to u;unfold du at u;rw[gC hi] at u;dsimp only at u;have hx:=h.right c.ins[i] (List.getElem_mem hi);have hl:=h.last;generalize aa:c.ins[i]=x at u hx;obtain⟨n,sh,hn,F,E,C,hr⟩:=js hx;have hr:=kH hr;have hto':=hr.to
 have A:i+1<c.ins.length∨lA x=true:=by
  grind
 unfold fA at u;unfold lA at A;rw[hn] at u A;have key:∀m:Nat,m=n->(∀y,(sh.to=true->0<=y/\y<(c.ins.length:Int))->y=x.to->True):=fun _ _ _ _ _=>trivial
 have tole:sh.to=true->0<=x.to/\x.to<(c.ins.length:Int):=fun e=>by rw[e] at hto';exact nA hto'
 match n,F,E with
 | 1,_,_ | 2,_,_ | 3,_,_ | 4,_,_ | 5,_,_ | 6,_,_ | 7,_,_ | 8,_,_ | 9,_,_=>
  have e:to=i+1:=List.mem_singleton.1 (show to∈[i+1] from u);rcases A with e1 | e1
  ·omega
  cases e1
 | 10,_,_=>
  have e:to=x.to.toNat:=List.mem_singleton.1 (show to∈[x.to.toNat] from u);have:=tole (by cases C;rfl);omega
 | 11,_,_=>
  have e:to=i+1∨to=x.to.toNat:=by grind
  have:=tole (by cases C;rfl);rcases e with e | e
  ·rcases A with e1 | e1
   ·omega
   cases e1
  omega
 | 12,_,_ | 13,_,_=>exact absurd (show to∈([]:List Nat) from u) (by simp)
variable {ts:Array TypeId} {Zv cv vs:List Y} {bv e:Nat} {x y:Operand} {v2:Y}
section
variable {P:Program} {G:Cx} {ev:Operand->Option Y} {V:D} {K:KP} {L:Own}
theorem kU {t:TypeId} {i:Operand} {s:List Nat} {n c:Nat} {k:IntKind} (A:P.underlying t=some .string) (hx:ev x=some (.str s)) (hi:ev i=some (.int k (.ofNat n))) (hc:s[n]? =some c):dM P G ev V (.index t x i)= .val (.int .u8 (.ofNat c)) V:=by
 refine bK Z ?_;simp only[dH,A,hx,hi,fL,hc]
theorem lk {t n m off:Nat} {b:Pos} {i:Operand} {k:IntKind} (A:P.underlying t=some (.array n e)) (hj:(P.info? e).map (·.size)=some m) (hx:ev x=some (.ptr b off)) (hi:ev i=some (.int k (.ofNat j))) (hn:j<n):dM P G ev V (.indexAddr t x i)= .val (.ptr b (off+j*m)) V:=by
 refine bK Z ?_;obtain⟨q,hq,rfl⟩:=oM_.1 hj;simp only[dH,A,hx,hi,hq,show Nat.ble (Nat.succ j) n=true by rw[nE_];exact hn,cond_true]
theorem cV {b:Pos} {off:Nat} (hx:ev x=some (.ptr b off)):dM P G ev V (.nilCheck x)= .val (.ptr b off) V:=bK Z (by simp only[dH,hx])
theorem dY {p:Y} (hp:eT K p vs) (hx:ev x=some p):dM P G ev V (.nilCheck x)= .val p V:=by
 obtain⟨b,off,_,_,_,rfl,_⟩:=hp;exact cV hx
theorem Tl {c:Call} {a b:Int} {k:IntKind} (hc:c.callee= .builtin .max) (A:c.args.toList= [x,y]) (hx:ev x=some (.int k a)) (hy:ev y=some (.int k b)):dM P G ev V (.call c)= .val (.int k (bif cW a b then b else a)) V:=by
 refine bK (by simp[kindOf,hc]) ?_;have e:uj k k=true:=by cases k<;>rfl
 simp only[dH,hc,A,hx,hy,TW,e,cond_true]
theorem gM {α:Type} {f:α->Y} {l:List α} {i off:Nat} {x:α} (h:l[i]? =some x) (A:off=i):nth (l.map f) off=some (f x):=by
 subst A;rw[fL,gM_,h];rfl
theorem ei {α:Type} {f:α->Y} {l:List α} {i off:Nat} {v:α} (h:i<l.length) (ho:off=i):dp [f v] (l.map f) off=(l.set i v).map f:=by
 grind [pJ,List.map_set]
theorem gp {α:Type} {f:α->Y} (v:α) (n:Nat):ew [f v] n=(List.replicate n v).map f:=by rw[jh,List.map_replicate]
end
def mX {α:Type} (m E:Nat) (R:α->List Y->Prop) (l:List α) (u:Y) (M:Own):Prop:=
 (l= []/\u= .aw/\M= [])∨∃(b:Nat) (c:oY) (cells:List Y) (e:Nat),u= .slice b 0 l.length c/\M= [(b,.row cells e false)]/\l.length*m<=cells.length/\(∀(i:Nat) (x:α),l[i]? =some x->R x ((cells.drop (i*m)).take m))/\((∃n,c= .known n/\l.length<=n/\n*m<=cells.length)∨(c= .upto m/\e=E))/\l.length<=1048576
section
variable {α:Type} {m E:Nat} {R:α->List Y->Prop} {l:List α} {u:Y} {M:Own} {K:KP}
theorem cO.W5 (h:cO m E R l u M):mX m E R l u M:=by
 rcases h with h | ⟨b,c,cells,e,h1,A,h3,C,h5,F⟩
 ·exact .inl h
 refine .inr ⟨b,c,cells,e,h1,A,by omega,C,?_,F⟩
 grind
theorem mX.gB (h:mX m E R l u M) (hk:∀e∈M,K e.1 e.2):bG K m R l u:=by
 rcases h with ⟨h1,A,_⟩ | ⟨b,c,cells,e,rfl,rfl,h3,h4,h5,h6⟩
 ·exact .inl ⟨h1,A⟩
 refine .inr ⟨b,0,c,cells,e,false,Z,?_,hk _<|mS_ ..,by omega,by omega,fun i x hx=>by simp_all⟩;rcases h5 with ⟨n,h5,C,_⟩ | h5
 ·exact .inr ⟨_,h5,C⟩
 exact .inl h5.1
theorem AD {P:Program} {G:Cx} {ev:Operand->Option Y} {V:D} {c:Call} {t e:TypeId} (h:mX m E R l u M) (hc:c.callee= .builtin .len) (A:c.argTypes[0]? =some t) (C:c.args.toList= [x]) (hu:P.underlying t=some (.slice e)) (hx:ev x=some u):
  dM P G ev V (.call c)= .val (.int .i64 (.ofNat l.length)) V:=
 aZ (K:=fun b o=>(b,o)∈M) (h.gB fun e he=>he) hc A C hu hx
end
section
variable {α:Type} {m E:Nat} {R:α->List Y->Prop}
theorem Bl {l l2:List α} {cells news:List Y} (hl:l.length*m<=cells.length) (h1:∀(i:Nat) (x:α),l[i]? =some x->R x ((cells.drop (i*m)).take m)) (hn:news.length=l2.length*m) (C:∀(i:Nat) (x:α),l2[i]? =some x->R x ((news.drop (i*m)).take m)):
  ∀(i:Nat) (x:α),(l++l2)[i]? =some x->R x (((cells.take (l.length*m)++(news++Zv)).drop (i*m)).take m):=by
 intro i x hx;have F:(cells.take (l.length*m)).length=l.length*m:=by simp_all
 by_cases hi:i<l.length
 ·rw[gL_ hi] at hx;have hle:(i+1)*m<=l.length*m:=nM_ _ hi
  grind [List.drop_take]
 rw[gR_ oM] at hx;have hlt:=(gA.1 hx).1;have hle:l.length*m<=i*m:=nM_ _ oM;have A:(i-l.length+1)*m<=l2.length*m:=nM_ _ hlt;rw[Nat.succ_mul] at A;rw[List.drop_append,List.drop_eq_nil_of_le oM,List.nil_append,F,<-Nat.sub_mul,List.drop_append_of_le_length oM,List.take_append_of_le_length (by grind)];exact C _ x hx
section
variable {P:Program} {K:KP} {L:Own}
theorem qP {l l2:List α} {u:Y} {M:Own} {ev:Nat} {t:TypeId} {V:D} (ho:mX m e R l u M) (O:H V K ((bv,.row cv ev false)::(M++L)))
  (hx:bG (K.add bv (.row cv ev false)) m R l2 v2) (A:∀x vs,R x vs->cg vs=true) (hn:l2.length<=1000) (T:1<=l2.length) (hl:l.length<=1000000)
  (ht:ts[0]? =some t) (hu:P.underlying t=some (.slice e)) (Q:qc P e m=true) (h2:dN P ts[1]? =true):
  ∃V' u' M',fI P V ts u v2= .val u' V'/\mX m e R (l++l2) u' M'/\H V' K (M'++L):=by
 have hk:=O.tx;have C:H V K (M++L):=hk.weaken (KP.zw _ _ _);rcases ho with ⟨rfl,rfl,rfl⟩ | ⟨b,c,cells,e',rfl,rfl,h3,h4,h5,h6⟩
 ·obtain⟨news,k1,k2,k3⟩:=wo (P:=P) hk hx A oM T ht hu Q h2;exact⟨_,_,[(V.next,.row news e false)],k1,.inr ⟨_,_,news,e,Z,Z,by simp_all,k3,.inr ⟨Z,Z⟩,by grind⟩,((hk.alloc (.row news e false)).weaken<|KP.zw _ _ _)⟩
 obtain⟨news,s1,s2,s3,s4⟩:=oN hk hx A;unfold qc at Q;split at Q
 ·rename_i j hj;simp only[bA_] at Q;obtain⟨a1,a2,a3,a4⟩:=Q;have hm:j.size=m:=nB a1;subst hm;have hz:((P.info? e).any fun j=>(j.zero.bind qM).any fun z=>(cE z).any fun cs=>Nat.beq (dt cs) j.size)=true:=by rw[hj];exact a4
  have hb:=C.get 0 Z;have hlen:(l++l2).length=l.length+l2.length:=lA_;have hmul:(l.length+l2.length)*j.size=l.length*j.size+l2.length*j.size:=Nat.add_mul ..;unfold fI;rw[ht];dsimp only;rw[hu];dsimp only;rw[hj];dsimp only;rw[h2,a2,a3];simp only[Bool.and_self,cond_true];rw[s1];dsimp only;rw[hj] at hz;rw[s3,show Nat.ble l2.length 1048576=true by rw[nE_];omega,hz];simp only[Bool.and_self,cond_true];have hle:Nat.ble (0+l.length*j.size) (dt cells)=true:=by rw[nE_,cC];omega
  have F:takeN (dZ cells 0) (l.length*j.size)=cells.take (l.length*j.size):=by rw[dT,eB,List.drop_zero]
  have W:Nat.ble l.length 1048576=true:=by simp_all
  have hA:(cells.take (l.length*j.size)).length=l.length*j.size:=by simp_all
  have ab:l.length*j.size+news.length<=cells.length->dp news cells (0+l.length*j.size)=cells.take (l.length*j.size)++(news++cells.drop (l.length*j.size+news.length)):=fun hh=>by
   rw[nA_,ju _ _ _ oM,lQ_]
  have X:l.length*j.size+news.length<=cells.length->∀c',((∃n,c'=oY.known n/\(l++l2).length<=n/\n*j.size<=cells.length)∨(c'=oY.upto j.size/\e'=e))->mX j.size e R (l++l2) (.slice b 0 (l.length+l2.length) c') [(b,.row (dp news cells (0+l.length*j.size)) e' false)]:=fun hh c' N=>by
   have ac:(dp news cells (0+l.length*j.size)).length=cells.length:=by
    grind
   refine .inr ⟨b,c',_,e',by rw[hlen],Z,by simp_all,?_,by rw[ac];exact N,by rw[hlen];omega⟩;rw[ab hh];exact Bl h3 h4 s2 s4
  have aa:mX j.size e R (l++l2) (.slice V.next 0 (l.length+l2.length) (.upto j.size)) [(V.next,.row (cells.take (l.length*j.size)++news) e false)]:=by
   refine .inr ⟨_,_,_,e,by rw[hlen],Z,by simp_all,?_,.inr ⟨Z,Z⟩,by rw[hlen];omega⟩;have:=Bl (Zv:=[]) h3 h4 s2 s4
   simp_all
  rcases h5 with ⟨n,rfl,h7,h8⟩ | ⟨rfl,rfl⟩
  ·dsimp only;cases hc:Nat.ble (l.length+l2.length) n with
   | true=>
    have N:l.length+l2.length<=n:=by simp_all
    have I:l.length*j.size+news.length<=cells.length:=by
     have:(l.length+l2.length)*j.size<=n*j.size:=nM_ _ N;rw[s2];omega
    simp only[cond_true];rw[hb];dsimp only;rw[show Nat.ble (0+l.length*j.size+dt news) (dt cells)=true by rw[nE_,cC,cC];omega];simp only[cond_true];exact⟨_,_,[(b,_)],Z,X I _ (.inl ⟨n,Z,by rw[hlen];exact N,h8⟩),C.nU _⟩
   | false=>
    simp only[cond_false];rw[hb];dsimp only;rw[hle,W,F,dU];simp only[Bool.and_self,cond_true];exact⟨_,_,[(V.next,_)],Z,aa,((C.alloc _).perm<|List.Perm.swap ..).pop⟩
  dsimp only
  have:Nat.beq l2.length 0=false:=by
   grind [nB]
  rw[this,Nat.beq_refl,W];simp only[Bool.and_self,cond_true,cond_false];rw[hb];dsimp only;cases hf:(Nat.ble 1 l.length && Nat.ble (0+l.length*j.size+dt news) (dt cells)) with
  | true=>
   have I:l.length*j.size+news.length<=cells.length:=by
    rw[bA_,nE_,nE_,cC,cC] at hf;omega
   simp only[cond_true];exact⟨_,_,[(b,_)],Z,X I _ (.inr ⟨Z,Z⟩),C.nU _⟩
  | false=>
   simp only[cond_false];rw[hle,Nat.beq_refl,F,dU];simp only[Bool.and_self,cond_true];exact⟨_,_,[(V.next,_)],Z,aa,C.Dz _⟩
 cases Q
end
end
variable {G:Cx} {K:KP} {V:D} {L:Own} {g:XG}
theorem vj (C:Plain G) (n le mo:Int) (mu:Bool) (O:H V K L):Ca G K L 133 [.int .i64 n,.int .i64 le,.int .i64 mo,.bool mu] V <| .bool (eF n le mo mu):=by
 refine XD C Tryz.func133 Z<|Wi 9 Z<|S Z (ek Z) Z<|Xd 2 Z<|aG Z (fun u=>?_) (fun u=>?_)
 ·have h10b:=eb u;refine Xc 9 Z ?_;exact az Z Z ⟨cB (by unfold eF bT;simp only[h10b,ct,cf]),O⟩
 have h10b:=dg u;refine Wk 7 Z<|ky Z (an Z) (fun A=>?_) (fun A=>?_)
 ·refine Xf 8 Z ?_;exact az Z Z ⟨cB (by unfold eF bT;simp only[h10b,A,ct,cf]),O⟩
 refine Xf 8 Z ?_;exact az Z Z ⟨cB (by unfold eF bT;simp only[h10b,A,ct,cf]),O⟩
theorem O9 {c:Nat} (h:cW (.ofNat c) 48=true):¬(48<=c/\c<=57):=by have:c<48:=aS (b:=48) h;omega
theorem O8 {c:Nat} (h:cW 57 (.ofNat c)=true):¬(48<=c/\c<=57):=by have:57<c:=aS (a:=57) h;omega
theorem rX {c:Nat} (h:cW (.ofNat c) 48=false) (h':cW 57 (.ofNat c)=false):48<=c/\c<=57:=by have:48<=c:=bI (b:=48) h;have:c<=57:=bI (a:=57) h';omega
theorem Pa {c m:Nat} (h:48<=c/\c<=57) (hm:m<=100000):wr .i64 (Int.add (wr .i64<|Int.mul 10 (.ofNat m))<|wr .i64<|wr .u8<|Int.sub (.ofNat c) 48)= .ofNat (10*m+(c-48)):=by
 have e1:Int.sub (.ofNat c) 48= .ofNat (c-48):=by show(c:Int)-48=((c-48:Nat):Int);omega
 have e2:Int.mul 10 (.ofNat m)= .ofNat (10*m):=rfl
 have A:wr .u8 (.ofNat (c-48))= .ofNat (c-48):=by
  show(bif Nat.ble (c-48) 255 then _ else _)=_;rw[show Nat.ble (c-48) 255=true by rw[nE_];omega];rfl
 have u:∀q:Nat,q<=9223372036854775807->wr .i64 (.ofNat q)= .ofNat q:=fun q hq=>by
  show(bif Nat.ble q 9223372036854775807 then _ else _)=_;rw[show Nat.ble q 9223372036854775807=true by rw[nE_];exact hq];rfl
 rw[e1,e2,A,u _ oM,u _ oM];show wr .i64 (.ofNat (10*m+(c-48)))=_;exact u _ oM
theorem Dy {s:List Nat} (h:s.length=0∨4<s.length∨(1<s.length/\s[0]? =some 48)):pE s=none:=by unfold pE;rw[if_pos h]
theorem oI {s:List Nat} (h:¬(s.length=0∨4<s.length∨(1<s.length/\s[0]? =some 48))):pE s=tc s 0:=by unfold pE;rw[if_neg h]
def VG (o:Option Nat):Int:=.ofNat (o.getD 0)
theorem HZ:∀i,i<=4->10 ^ i<=10000:=by decide
theorem Iw (hG:Plain G) (s:List Nat) (O:H V K L):Ca G K L 157 [.str s] V <| .tuple [.int .i64<|VG<|pE s,.bool (pE s).isSome]:=by
 refine XD hG Tryz.func157 Z<|Wi 10 Z<|S Z (mW Z Z Z B Z) Z<|vQ 1 Z<|ky Z (an Z) (fun X=>?_) (fun X=>?_)
 ·refine Wq 25 Z ?_;exact db Z Z Z ⟨by rw[Dy (.inl (by have:=UX X;rw[<-cC];exact iJ_ this))];rfl,O⟩
 refine vQ 1 Z<|S Z (mW Z Z Z B Z) Z<|XP 2 Z<|ky Z (an Z) (fun M=>?_) (fun M=>?_)
 ·refine Wq 20 Z ?_;exact db Z Z Z ⟨by rw[Dy (.inr (.inl (by rw[<-cC];exact aS (a:=4) M)))];rfl,O⟩
 refine vQ 1 Z<|S Z (mW Z Z Z B Z) Z<|vQ 1 Z<|ky Z (an Z) (fun N=>?_) (fun N=>?_)
 ·refine vQ 1 Z ?_;obtain⟨aa,F⟩:=da (show 0<s.length from by have:=aS (a:=1) N;rw[cC] at this;omega);refine S Z (kU B Z Z F) Z<|Xd 5 Z<|aG Z (fun Q=>?_) (fun Q=>?_)
  ·refine Xc 8 Z ?_;exact db Z Z Z ⟨by rw[Dy (.inr (.inr ⟨by rw[<-cC];exact aS (a:=1) N,by rw[F];exact congrArg some<|iJ_<|eqv Q⟩))];rfl,O⟩
  refine Wk 4 Z ?_;have hl4:dt s<=4:=bI (a:=4) M
  have hne:¬(s.length=0∨4<s.length∨(1<s.length/\s[0]? =some 48)):=by
   have hl4:=hl4;rw[cC] at hl4;have h9z:s.length≠0:=fun e=>by rw[cC,e] at X;cases X
   rintro (e | e | ⟨_,e⟩)
   ·exact h9z e
   ·omega
   rw[F] at e;cases e;cases Q
  refine VE 7 Z<|S Z (mW Z Z Z B Z) Z<|Wm 4 Z ?_;obtain⟨LL1,O,hLL1⟩:=O.named;refine bq (rg 2 4++rg 26 22) (fun j t V=>∃(i m:Nat),j+i=dt s/\tc s 0=tc (s.drop i) m/\m<10 ^ i/\i<=4/\t.get 4=some (nI m)/\t.get 26=some (nI i)/\H V K LL1) (dt s) ⟨0,0,Z,Z,Nat.one_pos,Nat.zero_le _,Z,Z,O⟩ ?_;clear O;intro j5 t V ar hI;obtain⟨i,m,hj,he,hm,R,T,I,O⟩:=hI;subst hLL1;obtain⟨oo,rfl⟩:=ar.q2 T I Z;refine Xa 6 Z<|aG Z (fun A=>?_) (fun A=>?_)
  ·refine UY 8 Z<|VE 7 Z ?_;obtain⟨W,u⟩:=da (show i<s.length from by have:=aS A;rwa[cC] at this);refine S Z (kU B Z Z u) Z<|vQ 1 Z<|ky Z (an Z) (fun C=>?_) (fun C=>?_)
   ·refine Xf 15 Z<|aA<|aI<|aA<|bP<|aI<|aA (?_);exact db Z Z Z ⟨by rw[oI hne,he,ud u<|O9 C];rfl,O⟩
   refine XP 2 Z<|S Z (kU B Z Z u) Z<|Xd 4 Z<|aG Z (fun E=>?_) (fun E=>?_)
   ·refine XN 7 Z<|aA<|aI<|aA<|bP<|aI<|aA (?_);exact db Z Z Z ⟨by rw[oI hne,he,ud u<|O8 E];rfl,O⟩
   refine aH<|XL 5 Z<|S Z (kU B Z Z u) Z<|vQ 1 Z ?_;refine S Z (iC (j:=.u8) (k:=.i64) B B B Z) Z ?_;refine XO 3 Z (aD (XK 4 Z (aJ ⟨j5-1,by have:=aS A;omega,oF,i+1,10*m+(W-48),by have:=aS A;omega,he.trans<|yG u<|rX C E,by have:=rX C E;rw[Nat.pow_succ];omega,by have:=aS A;have:=hl4;omega,cI<|Pa (rX C E) (by have:=HZ i R;omega),cI<|a6 oM,O⟩)))
  refine Wl 3 Z<|aQ<|XN 8 Z ?_;exact db Z Z Z ⟨by rw[oI hne,he,yF (by have:=bI A;rwa[cC] at this)];rfl,O⟩
 refine Xd 8 Z<|Wk 4 Z ?_;have hl4:dt s<=4:=bI (a:=4) M
 have hne:¬(s.length=0∨4<s.length∨(1<s.length/\s[0]? =some 48)):=by
  have hl4:=hl4;rw[cC] at hl4;have h9z:s.length≠0:=fun e=>by rw[cC,e] at X;cases X
  have h18z:¬(1<s.length):=by have:=bI (a:=1) N;rw[cC] at this;omega
  omega
 refine VE 7 Z<|S Z (mW Z Z Z B Z) Z<|Wm 4 Z ?_;obtain⟨LL2,O,hLL2⟩:=O.named;refine bq (rg 2 4++rg 26 22) (fun j t V=>∃(i m:Nat),j+i=dt s/\tc s 0=tc (s.drop i) m/\m<10 ^ i/\i<=4/\t.get 4=some (nI m)/\t.get 26=some (nI i)/\H V K LL2) (dt s) ⟨0,0,Z,Z,Nat.one_pos,Nat.zero_le _,Z,Z,O⟩ ?_;clear O;intro j5 t V ar hI;obtain⟨i,m,hj,he,hm,R,T,I,O⟩:=hI;subst hLL2;obtain⟨oo,rfl⟩:=ar.q2 T I Z;refine Xa 6 Z<|aG Z (fun A=>?_) (fun A=>?_)
 ·refine UY 8 Z<|VE 7 Z ?_;obtain⟨W,u⟩:=da (show i<s.length from by have:=aS A;rwa[cC] at this);refine S Z (kU B Z Z u) Z<|vQ 1 Z<|ky Z (an Z) (fun C=>?_) (fun C=>?_)
  ·refine Xf 15 Z<|aA<|aI<|aA<|bP<|aI<|aA (?_);exact db Z Z Z ⟨by rw[oI hne,he,ud u<|O9 C];rfl,O⟩
  refine XP 2 Z<|S Z (kU B Z Z u) Z<|Xd 4 Z<|aG Z (fun E=>?_) (fun E=>?_)
  ·refine XN 7 Z<|aA<|aI<|aA<|bP<|aI<|aA (?_);exact db Z Z Z ⟨by rw[oI hne,he,ud u<|O8 E];rfl,O⟩
  refine aH<|XL 5 Z<|S Z (kU B Z Z u) Z<|vQ 1 Z ?_;refine S Z (iC (j:=.u8) (k:=.i64) B B B Z) Z ?_;refine XO 3 Z (aD (XK 4 Z (aJ ⟨j5-1,by have:=aS A;omega,oF,i+1,10*m+(W-48),by have:=aS A;omega,he.trans<|yG u<|rX C E,by have:=rX C E;rw[Nat.pow_succ];omega,by have:=aS A;have:=hl4;omega,cI<|Pa (rX C E) (by have:=HZ i R;omega),cI<|a6 oM,O⟩)))
 refine Wl 3 Z<|aQ<|XN 8 Z ?_;exact db Z Z Z ⟨by rw[oI hne,he,yF (by have:=bI A;rwa[cC] at this)];rfl,O⟩
theorem Sv (hG:Plain G):∀(k:Nat) (x:XE) (vs:List Y) (p:Y),eT K p vs->vs.length=4->kV K k x vs->∀(deep size:Int) (N e1:Nat) (V:D) (L:Own),H V K ((N,.row [.int .i64 size] e1 false)::L)->
  EC G 105 [p,.int .i64 deep,.ptr N 0] V fun v V'=>∃s',v= .bool (tL k x deep size).isSome/\H V' K ((N,.row [.int .i64 s'] e1 false)::L)/\∀s,tL k x deep size=some s->s'=s:=by
 intro k;induction k with
 | zero=>intro x vs p _ _ h;cases x;exact h.elim
 | succ k ih=>
 intro x vs p hp hl h deep size N e1 V L O;obtain⟨op,num,name,kids⟩:=x;obtain⟨v,rfl,hk⟩:=h;obtain⟨F,hF⟩:∃F:XE->Int->Option Int,F=fun x m=>tL k x (wr .i64<|Int.add deep 1) m:=⟨_,Z⟩
 have hS:tL (k+1) (.mk op num name kids) deep size=bif (bif cW 2000 (wr .i64<|Int.add size 1) then true else cW 32 deep) then none else kJ F kids (wr .i64<|Int.add size 1):=by rw[hF];rfl
 rw[hS];clear hS;refine XD hG Tryz.func105 Z<|Xb 8 Z<|S Z (cV Z) Z<|XS O 2 [0] Z Z<|S Z (cV Z) Z<|ks O (UM Z Z Z O.g0 (m:=1) Z Z (cells':=[_]) Z) (fun V O=>?_);refine VE 6 Z<|S Z (cV Z) Z<|XS O 2 [0] Z Z<|ky Z (an Z) (fun u=>?_) (fun u=>?_)
 ·refine Wq 13 Z ?_;exact az Z Z ⟨_,by rw[u];rfl,O,fun s A=>by rw[u] at A;cases A⟩
 refine Xd 5 Z<|aG Z (fun C=>?_) (fun C=>?_)
 ·refine Xc 7 Z ?_;exact az Z Z ⟨_,by rw[u,C];rfl,O,fun s A=>by rw[u,C] at A;cases A⟩
 refine VD 6 Z<|S Z (dY hp Z) Z<|bU hp Z Z Z (k:=3) B (lb Z) (fun _=>Z) (fun ap Q=>?_);refine S Z (Yz O Q Z Z) Z (S Z (Yx hk Z Z Z (e:=75) Z) Z (Wm 4 Z (bq ([6,7]++rg 26 15) (fun j t V=>∃(i:Nat) (m:Int),j+i=kids.length/\kJ F kids (wr .i64<|Int.add size 1)=kJ F (kids.drop i) m/\t.get 26=some (nI i)/\H V K ((N,.row [.int .i64 m] e1 false)::L)) (kids.length) ⟨0,_,Z,Z,Z,O⟩ ?_)));clear O;intro j5 t V ar hI;obtain⟨i,m,hj,he,R,O⟩:=hI;obtain⟨oo,rfl⟩:=ar.q1 R Z;refine Xa 6 Z<|aG Z (fun I=>?_) (fun I=>?_)
 ·refine UY 13 Z<|S Z (dY hp Z) Z<|bU hp Z Z Z (k:=3) B (lb Z) (fun _=>Z) (fun aq T=>?_);refine S Z (Yz O T Z Z) Z<|vQ 1 Z ?_;obtain⟨W,E,am⟩:=dh I;refine Yp (e:=75) (m:=4) hk E Z Z Z Z (fun ax ao X aa ab=>?_);have hr34raw:=ab;refine XP 3 Z<|kw (Yu Z Z Z) (ih W _ _ X aa hr34raw _ _ _ _ _ _ O) ?_;rintro _ V ⟨m2,rfl,O,ac⟩;refine S Z (ek Z) Z<|Xd 2 Z<|aG Z (fun M=>?_) (fun M=>?_)
  ·refine XN 6 Z<|aI<|aA<|bP<|aI<|aA (?_);exact az Z Z ⟨_,by rw[u,C];show _=Y.bool (kJ F kids _).isSome;rw[he,xc E (by rw[hF];exact eb M)];rfl,O,fun s A=>by rw[u,C] at A;rw[show kJ F kids _=none from by rw[he];exact xc E (by rw[hF];exact eb M)] at A;cases A⟩
  refine aH (aD (XK 4 Z (aJ ⟨j5-1,by omega,oF,i+1,m2,by omega,(by obtain⟨s,A⟩:=ze_.1 (dg M);rw[he,F1 E (show F W m=some s from by rw[hF];exact A),ac s A]),cI<|a6 (by have:=hk.cQ;omega),O⟩)))
 refine Wl 3 Z<|aQ<|XN 6 Z ?_;exact az Z Z ⟨_,by rw[u,C];show _=Y.bool (kJ F kids _).isSome;rw[he,Al<|bI I];rfl,O,fun s A=>by rw[u,C] at A;rw[show kJ F kids _=some m from by rw[he];exact Al<|bI I] at A;cases A;rfl⟩
theorem Gg (hG:Plain G) (bE:Int):∀(k:Nat) (x:XE) (vs:List Y) (p:Y),eT K p vs->vs.length=4->kV K k x vs->∀(V:D) (L:Own),H V K L->Ca G K L 134 [p,.int .i64 bE] V (.bool<|gH bE k x):=by
 intro k;induction k with
 | zero=>intro x vs p _ _ h;cases x;exact h.elim
 | succ k ih=>
 intro x vs p hp hl h V L O;obtain⟨op,num,name,kids⟩:=x;obtain⟨v,rfl,hk⟩:=h
 have hS:gH bE (k+1) (.mk op num name kids)=bif bD op 1 then(bif bT (cW num 0) then(bif wL name [] then bD (.ofNat kids.length) 0 else false) else false) else
  bif bD op 2 then(bif (pE name).isSome then(bif cW (VG<|pE name) bE then(bif bD num 0 then bD (.ofNat kids.length) 0 else false) else false) else false) else
  bif (bif (bif bD op 3 then true else bD op 4) then false else(bif cW op 5 then true else cW 16 op)) then false else
  bif (bif bT (bD num 0) then true else bif bT (wL name []) then true else bT (bD (.ofNat kids.length)<|fT op)) then false else
  kids.all (gH bE k):=by show(bif bD op 1 then _ else bif bD op 2 then(match pE name with | some n=>_ | none=>false) else _)=_;cases pE name<;>rfl
 rw[hS];clear hS;have T:wL name (List.map UInt8.toNat (ByteArray.mk #[]).data.toList)=wL name []:=rfl;refine XD hG Tryz.func134 Z<|Xa 11 Z<|aK<|Xb 3 Z<|S Z (dY hp Z) Z<|bU hp Z Z Z (k:=0) B (lb Z) (fun _=>Z) (fun bY bi=>?_);refine S Z (Yz O bi Z Z) Z<|Xd 4 Z<|aG Z (fun R=>?_) (fun R=>?_)
 ·refine Xb 3 Z<|S Z (dY hp Z) Z<|bU hp Z Z Z (k:=1) B (lb Z) (fun _=>Z) (fun b0 bl=>?_);refine S Z (Yz O bl Z Z) Z<|vQ 1 Z<|ky Z (an Z) (fun a5=>?_) (fun a5=>?_)
  ·refine vQ 1 Z<|S Z (dY hp Z) Z<|bU hp Z Z Z (k:=2) B (lb Z) (fun _=>Z) (fun b1 bm=>?_);refine S Z (Yz O bm Z Z) Z<|XP 2 Z<|ky Z (an Z) (fun bf=>?_) (fun bf=>?_)
   ·refine vQ 1 Z<|S Z (dY hp Z) Z<|bU hp Z Z Z (k:=3) B (lb Z) (fun _=>Z) (fun b2 bo=>?_);refine S Z (Yz O bo Z Z) Z<|S Z (Yx hk Z Z Z (e:=75) Z) Z<|Xf 6 Z<|aI<|aA (?_);exact az Z Z ⟨cB (by simp only[bT,fT];(try rw[<-T]);simp only[R,a5,bf,ct,cf]<;>rfl),O⟩
   refine Xf 11 Z<|aI<|aA (?_);exact az Z Z ⟨cB (by simp only[bT,fT];(try rw[<-T]);simp only[R,a5,bf,ct,cf]<;>rfl),O⟩
  refine Xf 18 Z<|aI<|aA (?_);exact az Z Z ⟨cB (by simp only[bT,fT];(try rw[<-T]);simp only[R,a5,ct,cf]<;>rfl),O⟩
 refine Xb 3 Z<|S Z (dY hp Z) Z<|bU hp Z Z Z (k:=0) B (lb Z) (fun _=>Z) (fun b3 bp=>?_);refine S Z (Yz O bp Z Z) Z<|Xd 4 Z<|aG Z (fun E=>?_) (fun E=>?_)
 ·refine Xb 3 Z<|S Z (dY hp Z) Z<|bU hp Z Z Z (k:=2) B (lb Z) (fun _=>Z) (fun b4 bs=>?_);refine S Z (Yz O bs Z Z) Z<|kx (Yu Z Z Z) (Iw hG _ O) (fun V O=>?_);refine Wo 10 Z<|ky Z (an Z) (fun a1=>?_) (fun a1=>?_)
  ·refine XP 4 Z<|ky Z (an Z) (fun a9=>?_) (fun a9=>?_)
   ·refine vQ 1 Z<|S Z (dY hp Z) Z<|bU hp Z Z Z (k:=1) B (lb Z) (fun _=>Z) (fun b5 bt=>?_);refine S Z (Yz O bt Z Z) Z<|XP 2 Z<|ky Z (an Z) (fun bg=>?_) (fun bg=>?_)
    ·refine vQ 1 Z<|S Z (dY hp Z) Z<|bU hp Z Z Z (k:=3) B (lb Z) (fun _=>Z) (fun b6 bv=>?_);refine S Z (Yz O bv Z Z) Z<|S Z (Yx hk Z Z Z (e:=75) Z) Z<|Xf 6 Z<|aI<|aA (?_);exact az Z Z ⟨cB (by simp only[bT,fT];(try rw[<-T]);simp only[R,E,a1,a9,bg,ct,cf]<;>rfl),O⟩
    refine Xf 11 Z<|aI<|aA (?_);exact az Z Z ⟨cB (by simp only[bT,fT];(try rw[<-T]);simp only[R,E,a1,a9,bg,ct,cf]<;>rfl),O⟩
   refine Xf 18 Z<|aI<|aA (?_);exact az Z Z ⟨cB (by simp only[bT,fT];(try rw[<-T]);simp only[R,E,a1,a9,ct,cf]<;>rfl),O⟩
  refine Xf 23 Z<|aI<|aA (?_);exact az Z Z ⟨cB (by simp only[bT,fT];(try rw[<-T]);simp only[R,E,a1,ct,cf]<;>rfl),O⟩
 refine Xb 3 Z<|S Z (dY hp Z) Z<|bU hp Z Z Z (k:=0) B (lb Z) (fun _=>Z) (fun b7 bw=>?_);refine S Z (Yz O bw Z Z) Z<|vQ 1 Z<|ky Z (an Z) (fun I=>?_) (fun I=>?_)
 ·refine Wp 14 Z<|Wi 4 Z<|S Z (dY hp Z) Z<|bU hp Z Z Z (k:=1) B (lb Z) (fun _=>Z) (fun bF aq=>?_);refine S Z (Yz O aq Z Z) Z<|vQ 1 Z<|ky Z (an Z) (fun u=>?_) (fun u=>?_)
  ·refine Wq 25 Z ?_;exact az Z Z ⟨cB (by simp only[bT,fT];(try rw[<-T]);simp only[R,E,I,u,ct,cf]<;>rfl),O⟩
  refine vQ 1 Z<|S Z (dY hp Z) Z<|bU hp Z Z Z (k:=2) B (lb Z) (fun _=>Z) (fun ba W=>?_);refine S Z (Yz O W Z Z) Z<|XP 2 Z<|ky Z (an Z) (fun A=>?_) (fun A=>?_)
  ·refine Wq 18 Z ?_;exact az Z Z ⟨cB (by simp only[bT,fT];(try rw[<-T]);simp only[R,E,I,u,A,ct,cf]<;>rfl),O⟩
  refine vQ 1 Z<|S Z (dY hp Z) Z<|bU hp Z Z Z (k:=3) B (lb Z) (fun _=>Z) (fun bb X=>?_);refine S Z (Yz O X Z Z) Z<|S Z (Yx hk Z Z Z (e:=75) Z) Z<|Xd 5 Z<|aG Z (fun F=>?_) (fun F=>?_)
  ·refine Xc 7 Z ?_;exact az Z Z ⟨cB (by simp only[bT,fT];(try rw[<-T]);simp only[R,E,I,u,A,F,ct,cf]<;>rfl),O⟩
  refine VD 6 Z<|S Z (dY hp Z) Z<|bU hp Z Z Z (k:=3) B (lb Z) (fun _=>Z) (fun bc aa=>?_);refine S Z (Yz O aa Z Z) Z<|S Z (Yx hk Z Z Z (e:=75) Z) Z<|Wm 4 Z ?_;obtain⟨LL1,O,hLL1⟩:=O.named;refine bq ([4,8]++rg 122 13) (fun j t V=>∃(i:Nat),j+i=kids.length/\(kids.take i).all (gH bE k)=true/\t.get 122=some (nI i)/\H V K LL1) (kids.length) ⟨0,Z,Z,Z,O⟩ ?_;clear O;intro a2 t V ar hI;obtain⟨i,hj,ha,ab,O⟩:=hI;subst hLL1;obtain⟨oo,rfl⟩:=ar.q1 ab Z;refine Xa 6 Z<|aG Z (fun M=>?_) (fun M=>?_)
  ·refine UY 13 Z<|S Z (dY hp Z) Z<|bU hp Z Z Z (k:=3) B (lb Z) (fun _=>Z) (fun bd ac=>?_);refine S Z (Yz O ac Z Z) Z<|vQ 1 Z ?_;obtain⟨ax,C,a3⟩:=dh M;refine Yp (e:=75) (m:=4) hk C Z Z Z Z (fun be a4 am ao ap=>?_);have hr130raw:=ap;refine vQ 1 Z<|kx (Yu Z Z Z) (ih ax _ _ am ao hr130raw _ _ O) (fun V O=>?_);refine S Z (ek Z) Z<|Xd 2 Z<|aG Z (fun N=>?_) (fun N=>?_)
   ·refine XN 6 Z<|aI<|aA<|bP<|aI<|aA (?_);exact az Z Z ⟨cB (by rw[mb C<|eb N];simp only[bT,fT];(try rw[<-T]);simp only[R,E,I,u,A,F,ct,cf]<;>rfl),O⟩
   refine aH<|aD<|XK 4 Z<|aJ ⟨a2-1,by omega,oF,i+1,by omega,iO ha C<|dg N,cI<|a6 (by have:=hk.cQ;omega),O⟩
  refine Wl 3 Z<|aQ<|XN 6 Z ?_;exact az Z Z ⟨cB (by rw[fH ha<|bI M];simp only[bT,fT];(try rw[<-T]);simp only[R,E,I,u,A,F,ct,cf]<;>rfl),O⟩
 refine vQ 1 Z<|S Z (dY hp Z) Z<|bU hp Z Z Z (k:=0) B (lb Z) (fun _=>Z) (fun b8 bM=>?_);refine S Z (Yz O bM Z Z) Z<|Xd 5 Z<|aG Z (fun Q=>?_) (fun Q=>?_)
 ·refine XK 3 Z<|aD<|Wi 4 Z<|S Z (dY hp Z) Z<|bU hp Z Z Z (k:=1) B (lb Z) (fun _=>Z) (fun bF aq=>?_);refine S Z (Yz O aq Z Z) Z<|vQ 1 Z<|ky Z (an Z) (fun u=>?_) (fun u=>?_)
  ·refine Wq 25 Z ?_;exact az Z Z ⟨cB (by simp only[bT,fT];(try rw[<-T]);simp only[R,E,I,Q,u,ct,cf]<;>rfl),O⟩
  refine vQ 1 Z<|S Z (dY hp Z) Z<|bU hp Z Z Z (k:=2) B (lb Z) (fun _=>Z) (fun ba W=>?_);refine S Z (Yz O W Z Z) Z<|XP 2 Z<|ky Z (an Z) (fun A=>?_) (fun A=>?_)
  ·refine Wq 18 Z ?_;exact az Z Z ⟨cB (by simp only[bT,fT];(try rw[<-T]);simp only[R,E,I,Q,u,A,ct,cf]<;>rfl),O⟩
  refine vQ 1 Z<|S Z (dY hp Z) Z<|bU hp Z Z Z (k:=3) B (lb Z) (fun _=>Z) (fun bb X=>?_);refine S Z (Yz O X Z Z) Z<|S Z (Yx hk Z Z Z (e:=75) Z) Z<|Xd 5 Z<|aG Z (fun F=>?_) (fun F=>?_)
  ·refine Xc 7 Z ?_;exact az Z Z ⟨cB (by simp only[bT,fT];(try rw[<-T]);simp only[R,E,I,Q,u,A,F,ct,cf]<;>rfl),O⟩
  refine VD 6 Z<|S Z (dY hp Z) Z<|bU hp Z Z Z (k:=3) B (lb Z) (fun _=>Z) (fun bc aa=>?_);refine S Z (Yz O aa Z Z) Z<|S Z (Yx hk Z Z Z (e:=75) Z) Z<|Wm 4 Z ?_;obtain⟨LL2,O,hLL2⟩:=O.named;refine bq ([4,8]++rg 122 13) (fun j t V=>∃(i:Nat),j+i=kids.length/\(kids.take i).all (gH bE k)=true/\t.get 122=some (nI i)/\H V K LL2) (kids.length) ⟨0,Z,Z,Z,O⟩ ?_;clear O;intro a2 t V ar hI;obtain⟨i,hj,ha,ab,O⟩:=hI;subst hLL2;obtain⟨oo,rfl⟩:=ar.q1 ab Z;refine Xa 6 Z<|aG Z (fun M=>?_) (fun M=>?_)
  ·refine UY 13 Z<|S Z (dY hp Z) Z<|bU hp Z Z Z (k:=3) B (lb Z) (fun _=>Z) (fun bd ac=>?_);refine S Z (Yz O ac Z Z) Z<|vQ 1 Z ?_;obtain⟨ax,C,a3⟩:=dh M;refine Yp (e:=75) (m:=4) hk C Z Z Z Z (fun be a4 am ao ap=>?_);have hr130raw:=ap;refine vQ 1 Z<|kx (Yu Z Z Z) (ih ax _ _ am ao hr130raw _ _ O) (fun V O=>?_);refine S Z (ek Z) Z<|Xd 2 Z<|aG Z (fun N=>?_) (fun N=>?_)
   ·refine XN 6 Z<|aI<|aA<|bP<|aI<|aA (?_);exact az Z Z ⟨cB (by rw[mb C<|eb N];simp only[bT,fT];(try rw[<-T]);simp only[R,E,I,Q,u,A,F,ct,cf]<;>rfl),O⟩
   refine aH<|aD<|XK 4 Z<|aJ ⟨a2-1,by omega,oF,i+1,by omega,iO ha C<|dg N,cI<|a6 (by have:=hk.cQ;omega),O⟩
  refine Wl 3 Z<|aQ<|XN 6 Z ?_;exact az Z Z ⟨cB (by rw[fH ha<|bI M];simp only[bT,fT];(try rw[<-T]);simp only[R,E,I,Q,u,A,F,ct,cf]<;>rfl),O⟩
 refine Xb 3 Z<|S Z (dY hp Z) Z<|bU hp Z Z Z (k:=0) B (lb Z) (fun _=>Z) (fun b9 bR=>?_);refine S Z (Yz O bR Z Z) Z<|vQ 1 Z<|ky Z (an Z) (fun aE=>?_) (fun aE=>?_)
 ·refine Xf 16 Z<|aI<|aA (?_);exact az Z Z ⟨cB (by simp only[bT,fT];(try rw[<-T]);simp only[R,E,I,Q,aE,ct,cf]<;>rfl),O⟩
 refine vQ 1 Z<|S Z (dY hp Z) Z<|bU hp Z Z Z (k:=0) B (lb Z) (fun _=>Z) (fun ca bS=>?_);refine S Z (Yz O bS Z Z) Z<|Xd 5 Z<|aG Z (fun a0=>?_) (fun a0=>?_)
 ·refine XN 6 Z<|aI<|aA (?_);exact az Z Z ⟨cB (by simp only[bT,fT];(try rw[<-T]);simp only[R,E,I,Q,aE,a0,ct,cf]<;>rfl),O⟩
 refine aH<|aD<|Wi 4 Z<|S Z (dY hp Z) Z<|bU hp Z Z Z (k:=1) B (lb Z) (fun _=>Z) (fun bF aq=>?_);refine S Z (Yz O aq Z Z) Z<|vQ 1 Z<|ky Z (an Z) (fun u=>?_) (fun u=>?_)
 ·refine Wq 25 Z ?_;exact az Z Z ⟨cB (by simp only[bT,fT];(try rw[<-T]);simp only[R,E,I,Q,aE,a0,u,ct,cf]<;>rfl),O⟩
 refine vQ 1 Z<|S Z (dY hp Z) Z<|bU hp Z Z Z (k:=2) B (lb Z) (fun _=>Z) (fun ba W=>?_);refine S Z (Yz O W Z Z) Z<|XP 2 Z<|ky Z (an Z) (fun A=>?_) (fun A=>?_)
 ·refine Wq 18 Z ?_;exact az Z Z ⟨cB (by simp only[bT,fT];(try rw[<-T]);simp only[R,E,I,Q,aE,a0,u,A,ct,cf]<;>rfl),O⟩
 refine vQ 1 Z<|S Z (dY hp Z) Z<|bU hp Z Z Z (k:=3) B (lb Z) (fun _=>Z) (fun bb X=>?_);refine S Z (Yz O X Z Z) Z<|S Z (Yx hk Z Z Z (e:=75) Z) Z<|Xd 5 Z<|aG Z (fun F=>?_) (fun F=>?_)
 ·refine Xc 7 Z ?_;exact az Z Z ⟨cB (by simp only[bT,fT];(try rw[<-T]);simp only[R,E,I,Q,aE,a0,u,A,F,ct,cf]<;>rfl),O⟩
 refine VD 6 Z<|S Z (dY hp Z) Z<|bU hp Z Z Z (k:=3) B (lb Z) (fun _=>Z) (fun bc aa=>?_);refine S Z (Yz O aa Z Z) Z<|S Z (Yx hk Z Z Z (e:=75) Z) Z<|Wm 4 Z ?_;obtain⟨LL3,O,hLL3⟩:=O.named;refine bq ([4,8]++rg 122 13) (fun j t V=>∃(i:Nat),j+i=kids.length/\(kids.take i).all (gH bE k)=true/\t.get 122=some (nI i)/\H V K LL3) (kids.length) ⟨0,Z,Z,Z,O⟩ ?_;clear O;intro a2 t V ar hI;obtain⟨i,hj,ha,ab,O⟩:=hI;subst hLL3;obtain⟨oo,rfl⟩:=ar.q1 ab Z;refine Xa 6 Z<|aG Z (fun M=>?_) (fun M=>?_)
 ·refine UY 13 Z<|S Z (dY hp Z) Z<|bU hp Z Z Z (k:=3) B (lb Z) (fun _=>Z) (fun bd ac=>?_);refine S Z (Yz O ac Z Z) Z<|vQ 1 Z ?_;obtain⟨ax,C,a3⟩:=dh M;refine Yp (e:=75) (m:=4) hk C Z Z Z Z (fun be a4 am ao ap=>?_);have hr130raw:=ap;refine vQ 1 Z<|kx (Yu Z Z Z) (ih ax _ _ am ao hr130raw _ _ O) (fun V O=>?_);refine S Z (ek Z) Z<|Xd 2 Z<|aG Z (fun N=>?_) (fun N=>?_)
  ·refine XN 6 Z<|aI<|aA<|bP<|aI<|aA (?_);exact az Z Z ⟨cB (by rw[mb C<|eb N];simp only[bT,fT];(try rw[<-T]);simp only[R,E,I,Q,aE,a0,u,A,F,ct,cf]<;>rfl),O⟩
  refine aH<|aD<|XK 4 Z<|aJ ⟨a2-1,by omega,oF,i+1,by omega,iO ha C<|dg N,cI<|a6 (by have:=hk.cQ;omega),O⟩
 refine Wl 3 Z<|aQ<|XN 6 Z ?_;exact az Z Z ⟨cB (by rw[fH ha<|bI M];simp only[bT,fT];(try rw[<-T]);simp only[R,E,I,Q,aE,a0,u,A,F,ct,cf]<;>rfl),O⟩
def Ic (h:kN):List Y:=[.bool h.z6,.bool h.loc,.bool h.order,.bool h.to,nI h.exprs]
def DJ:List Y:=nw.flatMap Ic
structure sf (G:Cx) (K:KP):Prop where
 gl:Nat.ble 1 G.gl=true
 sh:∃e ro,K (posOf 0) (.row DJ e ro)
theorem sf.mono {K K':KP} (h:sf G K) (hk:KP.le K K'):sf G K':=⟨h.gl,let ⟨e,ro,hh⟩:=h.sh;⟨e,ro,hk _ _ hh⟩⟩
theorem na {b c:Bool} (h:(!b)=c):(bif b then false else true)=c:=by cases b<;>exact h
theorem VT {n:Nat} {h:kN} (hh:nw[n]? =some h):List.take 5 (List.drop (0+n*5) DJ)=Ic h:=by
 have hn:n<14:=(gA.1 hh).1
 match n,hn with
 | 0,_ | 1,_ | 2,_ | 3,_ | 4,_ | 5,_ | 6,_ | 7,_ | 8,_ | 9,_ | 10,_ | 11,_ | 12,_ | 13,_=>cases hh;rfl
theorem VU {x:Int} (h1:cW x 1=false) (u:cW 13 x=false):∃(n:Nat) (h:kN),x= .ofNat n/\n<14/\nw[n]? =some h:=by
 rw[eQ,decide_eq_false_iff_not] at h1 u;refine⟨x.toNat,nw[x.toNat]'(by show x.toNat<14;omega),by show x=((x.toNat:Nat):Int);omega,by omega,gC _⟩
theorem LS {bE:Int} {k n:Nat} {x:XI} {h:kN} (h1:cW x.kind 1=false) (u:cW 13 x.kind=false) (hn:x.kind= .ofNat n) (hh:nw[n]? =some h):iB bE nins k x=ig bE nins k x h:=by
 unfold iB;rw[h1,u,hn];show(match nw[n]? with | some h=>_ | none=>false)=_;rw[hh]
theorem Re {t:PT Y} {g:Nat} (h:Nat.ble (Nat.succ g) G.gl=true):bA G t (.global g)=some (.ptr (posOf g) 0):=by
 show(bif Nat.ble (Nat.succ g) G.gl then _ else _)=_;rw[h];rfl
theorem Su (T:Plain G) (W:sf G K) {k:Nat} {x:XI} {v:Y} {p:Y} (hi:bG K 6 (jA K k) c.ins v) (hp:eT K p vs) (h:jA K k x vs) (O:H V K L):
  Ca G K L 106 [.agg [.int .i64 c.bE,v],p] V <| .bool (iB c.bE (.ofNat c.ins.length) k x):=by
 obtain⟨w,rfl,hk⟩:=h;refine XD T Tryz.func106 Z<|Xb 2 Z<|kb O (cL Z Z) (fun V b1 O=>?_);refine VE 7 Z<|S Z (dY hp Z) Z<|bU hp Z Z Z (k:=0) B (lb Z) (fun _=>Z) (fun p9 a9=>?_);refine S Z (Yz O a9 Z Z) Z<|vQ 1 Z<|ky Z (an Z) (fun E=>?_) (fun E=>?_)
 ·refine Wq 16 Z ?_;exact az Z Z ⟨cB (by unfold iB;rw[E];rfl),O.pop⟩
 refine vQ 1 Z<|S Z (dY hp Z) Z<|bU hp Z Z Z (k:=0) B (lb Z) (fun _=>Z) (fun bd X=>?_);refine S Z (Yz O X Z Z) Z<|Xd 4 Z<|aG Z (fun N=>?_) (fun N=>?_)
 ·refine Xc 7 Z ?_;exact az Z Z ⟨cB (by unfold iB;rw[E,show cW 13 x.kind=true from N];rfl),O.pop⟩
 have h17x:cW 13 x.kind=false:=N;refine Wk 5 Z<|S Z (dY hp Z) Z<|bU hp Z Z Z (k:=0) B (lb Z) (fun _=>Z) (fun be aa=>?_);refine S Z (Yz O aa Z Z) Z ?_;obtain⟨kn,sh,ab,ba,ac⟩:=VU E h17x;obtain⟨eg,rog,am⟩:=W.sh;have hRX:=LS (bE:=c.bE) (nins:=.ofNat c.ins.length) (k:=k) E h17x ab ac;refine S Z (lk (n:=14) (e:=200) (m:=5) B B (Re W.gl) (show _=some (Y.int .i64 (.ofNat kn)) from cI ab) ba) Z<|S Z (bh Z (O.bJ am) (n:=5) (vs:=Ic sh) B (by show 0+kn*5+5<=70;omega)<|VT ac) Z (kb O (Yy (cs:=[.bool false,.bool false,.bool false,.bool false,iZ])) (fun V b2 O=>?_));refine ks O (YD Z Z Z O.g0 Z) (fun V O=>?_);refine Wn 3 Z<|ai<|aU (l:=zp [0,1,2,3,4,5,6,7,8,9,10,11,12,13,14,15,16,17,18,19,20,21,22,23,24,25,26,27,28,29,30,31,32,33,34,35,36,37,38,39,40,41,42]) B B<|wQ 1 Z<|ah Z Z (dY hp Z) Z<|fb hp Z Z Z Z (k:=1) B (lb Z) (fun _=>Z) (fun bf ao=>?_);refine ah Z Z (Yz O ao Z Z) Z<|XT O 4 [0,1,0,0] Z Z<|dO Z Z (Yu Z Z Z) (fun _=>Z) (vj T _ _ _ _ O) (fun V O=>?_);refine⟨aY,?_⟩;refine ah Z Z (ek Z) Z<|gO Z Z (an Z) (fun _=>Z) (fun u=>?_) (fun u=>?_)
 ·refine Xh 41 Z<|aA (?_);exact az Z Z ⟨cB (by rw[hRX];unfold ig;simp only[bT];simp only[na u,ct,cf]<;>rfl),O.pop.pop⟩
 refine wQ 1 Z<|ah Z Z (dY hp Z) Z<|fb hp Z Z Z Z (k:=2) B (lb Z) (fun _=>Z) (fun bg ap=>?_);refine ah Z Z (Yz O ap Z Z) Z<|XT O 2 [1,0] Z Z<|dO Z Z (Yu Z Z Z) (fun _=>Z) (vj T _ _ _ _ O) (fun V O=>?_);refine⟨aY,?_⟩;refine ah Z Z (ek Z) Z<|wQ 1 Z<|gO Z Z (an Z) (fun _=>Z) (fun A=>?_) (fun A=>?_)
 ·refine Xh 31 Z<|aA (?_);exact az Z Z ⟨cB (by rw[hRX];unfold ig;simp only[bT];simp only[na u,na A,ct,cf]<;>rfl),O.pop.pop⟩
 refine wQ 1 Z<|ah Z Z (dY hp Z) Z<|fb hp Z Z Z Z (k:=3) B (lb Z) (fun _=>Z) (fun bi aq=>?_);refine ah Z Z (Yz O aq Z Z) Z<|XT O 2 [2,0] Z Z<|dO Z Z (Yu Z Z Z) (fun _=>Z) (vj T _ _ _ _ O) (fun V O=>?_);refine⟨aY,?_⟩;refine ah Z Z (ek Z) Z<|wQ 1 Z<|gO Z Z (an Z) (fun _=>Z) (fun C=>?_) (fun C=>?_)
 ·refine Xh 21 Z<|aA (?_);exact az Z Z ⟨cB (by rw[hRX];unfold ig;simp only[bT];simp only[na u,na A,na C,ct,cf]<;>rfl),O.pop.pop⟩
 refine wQ 1 Z<|ah Z Z (dY hp Z) Z<|fb hp Z Z Z Z (k:=4) B (lb Z) (fun _=>Z) (fun bl ax=>?_);refine ah Z Z (Yz O ax Z Z) Z<|XT O 2 [1,1] Z Z<|ah Z Z (Yx hi Z Z Z (e:=78) Z) Z<|XT O 2 [3,0] Z Z<|dO Z Z (Yu Z Z Z) (fun _=>Z) (vj T _ _ _ _ O) (fun V O=>?_);refine⟨aY,?_⟩;refine ah Z Z (ek Z) Z<|Xg 3 Z<|aG Z (fun F=>?_) (fun F=>?_)
 ·refine Xc 7 Z ?_;exact az Z Z ⟨cB (by rw[hRX];unfold ig;simp only[bT];simp only[na u,na A,na C,na F,ct,cf]<;>rfl),O.pop.pop⟩
 refine Wj 3 Z<|ai<|aU (l:=zp [0,1,2,3,4,5,6,7]) B B<|wQ 1 Z<|ah Z Z (dY hp Z) Z<|fb hp Z Z Z Z (k:=5) B (lb Z) (fun _=>Z) (fun bm aE=>?_);refine ah Z Z (Yz O aE Z Z) Z<|ah Z Z (Yx hk Z Z Z (e:=75) Z) Z<|XT O 3 [4,0] Z Z<|Xg 2 Z<|aG Z (fun M=>?_) (fun M=>?_)
 ·refine Xc 7 Z ?_;exact az Z Z ⟨cB (by rw[hRX];unfold ig;simp only[bT];simp only[na u,na A,na C,na F,M,ct,cf]<;>rfl),O.pop.pop⟩
 refine VD 6 Z<|S Z (dY hp Z) Z<|bU hp Z Z Z (k:=5) B (lb Z) (fun _=>Z) (fun bo a0=>?_);refine S Z (Yz O a0 Z Z) Z<|S Z (Yx hk Z Z Z (e:=75) Z) Z<|Wm 4 Z ?_;obtain⟨LL1,O,hLL1⟩:=O.named;refine bq ([4,6]++rg 81 14) (fun j t V=>∃(i:Nat),j+i=x.exprs.length/\(x.exprs.take i).all (gH c.bE k)=true/\t.get 81=some (nI i)/\H V K LL1) (x.exprs.length) ⟨0,Z,Z,Z,O⟩ ?_;clear O;intro j9 t V ar hI;obtain⟨i,hj,ha,a1,O⟩:=hI;subst hLL1;obtain⟨oo,rfl⟩:=ar.q1 a1 Z;refine Xa 6 Z<|aG Z (fun Q=>?_) (fun Q=>?_)
 ·refine UY 8 Z<|Wn 3 Z<|aU (l:=zp [0,1,2,3,4,5,6,7,8,9]) B B<|wQ 1 Z<|ah Z Z (dY hp Z) Z<|fb hp Z Z Z Z (k:=5) B (lb Z) (fun _=>Z) (fun bp a2=>?_);refine ah Z Z (Yz O a2 Z Z) Z<|wQ 1 Z ?_;obtain⟨bs,I,bb⟩:=dh Q;refine Yq (e:=75) (m:=4) hk I Z Z Z Z Z (fun bt bc a3 a4 a5=>?_);have hr89rawx:=a5;refine XT O 2 [0,1] Z Z<|dO Z Z (Yu Z Z Z) (fun _=>Z) (Gg T _ _ _ _ _ a3 a4 hr89rawx _ _ O) (fun V O=>?_);refine⟨aY,?_⟩;refine ah Z Z (ek Z) Z<|Xg 2 Z<|aG Z (fun R=>?_) (fun R=>?_)
  ·refine XN 6 Z<|aI<|aA<|bP<|aI<|aA (?_);exact az Z Z ⟨cB (by rw[hRX];unfold ig;rw[mb I<|sL R];simp only[bT];simp only[na u,na A,na C,na F,M,ct,cf]<;>rfl),O.pop.pop⟩
  refine aH<|aD<|XK 4 Z<|aJ ⟨j9-1,by omega,oF,i+1,by omega,iO ha I<|mM R,cI<|a6 (by have:=hk.cQ;omega),O⟩
 refine Wl 3 Z<|aQ<|XN 6 Z ?_;exact az Z Z ⟨cB (by rw[hRX];unfold ig;rw[fH ha<|bI Q];simp only[bT];simp only[na u,na A,na C,na F,M,ct,cf]<;>rfl),O.pop.pop⟩
theorem wk (hG:Plain G) (bp:sf G K) {k:Nat} {v:Y} (hi:bG K 6 (jA K k) c.ins v) (O:H V K L):
  Ca G K L 70 [.agg [.int .i64 c.bE,v]] V <| .int .i64 (dJ k c):=by
 refine XD hG Tryz.func70 Z<|Xb 2 Z<|kb O (cL Z Z) (fun V b1 O=>?_);refine VF O 9 [0,0] Z Z<|ky Z (an Z) (fun u=>?_) (fun u=>?_)
 ·refine Wq 15 Z ?_;exact az Z Z ⟨cJ (by symm;unfold dJ;rw[u];rfl),O.pop⟩
 refine XS O 2 [1,0] Z Z<|S Z (Yx hi Z Z Z (e:=78) Z) Z<|Xd 4 Z<|aG Z (fun aq=>?_) (fun aq=>?_)
 ·refine Xc 7 Z ?_;exact az Z Z ⟨cJ (by symm;unfold dJ;rw[u,show cW 4000 (.ofNat c.ins.length)=true from aq];rfl),O.pop⟩
 have h15x:cW 4000 (.ofNat c.ins.length)=false:=aq;refine VD 5 Z<|XS O 2 [1,0] Z Z<|S Z (Yx hi Z Z Z (e:=78) Z) Z<|Wm 4 Z ?_;obtain⟨LL1,O,hLL1⟩:=O.named;refine bq (rg 2 4++rg 19 25) (fun j t V=>∃(i:Nat),j+i=c.ins.length/\(c.ins.take i).all (Am k)=true/\t.get 19=some (nI i)/\H V K LL1) (c.ins.length) ⟨0,Z,Z,Z,O⟩ ?_;clear O;intro j4 t V ar hI;obtain⟨i,ca,C,a3,O⟩:=hI;subst hLL1;obtain⟨oo,rfl⟩:=ar.q1 a3 Z;refine Xa 6 Z<|aG Z (fun A=>?_) (fun A=>?_)
 ·refine UY 12 Z<|XS O 3 [1,0] Z Z ?_;obtain⟨Q,M,bt⟩:=dh A;refine Yp (e:=78) (m:=6) hi M Z Z Z Z (fun cb bv a4 bw ab=>?_);have hr25rawx:=ab;have hr25':=ab;obtain⟨cc,rfl,ac⟩:=hr25';refine bU a4 Z Z Z (k:=5) B (lb Z) (fun _=>Z) (fun ce a5=>?_);refine S Z (Yz O a5 Z Z) Z<|S Z (Yx ac Z Z Z (e:=75) Z) Z<|Wm 4 Z ?_;obtain⟨LL2,O,hLL2⟩:=O.named;refine bq ([2,4,5]++rg 29 14) (fun j t V=>∃(i2:Nat),j+i2=Q.exprs.length/\(Q.exprs.take i2).all (fun e=>(tL k e 1 0).isSome)=true/\t.get 29=some (nI i2)/\H V K LL2) (Q.exprs.length) ⟨0,Z,Z,Z,O⟩ ?_;clear O;intro j7 t V ar hI;obtain⟨i2,ch,a9,ba,O⟩:=hI;subst hLL2;obtain⟨oo,rfl⟩:=ar.q1 ba Z;refine Xa 6 Z<|aG Z (fun ax=>?_) (fun ax=>?_)
  ·refine UY 12 Z<|kb O (Yy (cs:=[iZ])) (fun V b2 O=>?_);refine ks O (UM Z Z Z O.g0 (m:=1) Z Z (cells':=[_]) Z) (fun V O=>?_);refine Wu O 7 [1,1] Z Z<|Yp (e:=78) (m:=6) hi M Z Z Z Z (fun ci bF bb bM am=>?_);have hr35rawx:=am;have hr35':=am;obtain⟨ck,rfl,bc⟩:=hr35';refine bU bb Z Z Z (k:=5) B (lb Z) (fun _=>Z) (fun cl bd=>?_);refine S Z (Yz O bd Z Z) Z<|vQ 1 Z ?_;obtain⟨cn,R,bR⟩:=dh ax;refine Yp (e:=75) (m:=4) bc R Z Z Z Z (fun co bS be bf bg=>?_);have hr39rawx:=bg;refine kw (Yu Z Z Z) (Sv hG _ _ _ _ be bf hr39rawx _ _ _ _ _ _ O) ?_;rintro _ V ⟨m2,rfl,O,cp⟩;refine S Z (ek Z) Z<|Xd 2 Z<|aG Z (fun aE=>?_) (fun aE=>?_)
   ·refine XN 6 Z<|aI<|aA<|bP<|aI<|aI<|aA<|bP<|aI<|aA (?_);exact az Z Z ⟨cJ (by symm;unfold dJ;rw[u,show cW 4000 (.ofNat c.ins.length)=false from h15x,mb M (show Am k Q=false from mb R (sL aE))];rfl),O.pop.pop⟩
   refine aH<|aD<|XK 4 Z ?_;have O:=O.pop;refine aJ ⟨j7-1,by omega,oF,i2+1,by omega,iO a9 R<|mM aE,cI<|a6 (by have:=ac.cQ;omega),O⟩
  refine Wl 3 Z<|aQ<|aD<|XK 4 Z<|aJ ⟨j4-1,by omega,oF,i+1,by omega,iO C M (show Am k Q=true from fH a9 (bI ax)),cI<|a6 (by have:=hi.cQ;omega),O⟩
 refine Wl 3 Z<|aQ<|Wt O 6 [0,0] Z Z<|ky Z (an Z) (fun E=>?_) (fun E=>?_)
 ·refine Wq 15 Z ?_;exact az Z Z ⟨cJ (by symm;unfold dJ;rw[u,show cW 4000 (.ofNat c.ins.length)=false from h15x,fH C<|bI A,E];rfl),O.pop⟩
 refine XS O 2 [1,0] Z Z<|S Z (Yx hi Z Z Z (e:=78) Z) Z<|Xd 4 Z<|aG Z (fun a0=>?_) (fun a0=>?_)
 ·refine Xc 7 Z ?_;exact az Z Z ⟨cJ (by symm;unfold dJ;rw[u,show cW 4000 (.ofNat c.ins.length)=false from h15x,fH C<|bI A,E,show bD (.ofNat c.ins.length) 0=true from a0];rfl),O.pop⟩
 have h52x:bD (.ofNat c.ins.length) 0=false:=a0;refine VD 5 Z<|XS O 2 [1,0] Z Z<|S Z (Yx hi Z Z Z (e:=78) Z) Z<|Wm 4 Z ?_;obtain⟨LL3,O,hLL3⟩:=O.named;refine bq ([2,6]++rg 56 11) (fun j t V=>∃(i:Nat),j+i=c.ins.length/\(c.ins.take i).all (iB c.bE (.ofNat c.ins.length) k)=true/\t.get 56=some (nI i)/\H V K LL3) (c.ins.length) ⟨0,Z,Z,Z,O⟩ ?_;clear O;intro bs t V ar hI;obtain⟨i,bY,F,bi,O⟩:=hI;subst hLL3;obtain⟨oo,rfl⟩:=ar.q1 bi Z;refine Xa 6 Z<|aG Z (fun N=>?_) (fun N=>?_)
 ·refine UY 8 Z<|Wn 3 Z<|aU (l:=zp [0,1,2,3,4,5,6]) B B<|ah Z Z (YE Z O.g0 Z) Z<|XT O 3 [1,0] Z Z ?_;obtain⟨cr,T,b0⟩:=dh N;refine Yq (e:=78) (m:=6) hi T Z Z Z Z Z (fun cv b3 bl b4 ao=>?_);have hr63rawx:=ao;have hr63':=ao;obtain⟨cw,rfl,b5⟩:=hr63';refine dO Z Z (Yu Z Z Z) (fun _=>Z) (Su hG bp hi bl hr63rawx O) (fun V O=>?_);refine⟨aY,?_⟩;refine ah Z Z (ek Z) Z<|Xg 2 Z<|aG Z (fun a1=>?_) (fun a1=>?_)
  ·refine XN 6 Z<|aI<|aA<|bP<|aI<|aA (?_);exact az Z Z ⟨cJ (by symm;unfold dJ;rw[u,show cW 4000 (.ofNat c.ins.length)=false from h15x,fH C<|bI A,E,show bD (.ofNat c.ins.length) 0=false from h52x,mb T<|sL a1];rfl),O.pop⟩
  refine aH<|aD<|XK 4 Z<|aJ ⟨bs-1,by omega,oF,i+1,by omega,iO F T<|mM a1,cI<|a6 (by have:=hi.cQ;omega),O⟩
 refine Wl 3 Z<|aQ<|Wt O 7 [1,0,1,0] Z Z<|S Z (Yx hi Z Z Z (e:=78) Z) Z<|vQ 1 Z ?_;have b6:0<c.ins.length:=by rcases Nat.eq_zero_or_pos c.ins.length with e | e;rw[e] at h52x;cases h52x;exact e
 obtain⟨X,I⟩:=da (show c.ins.length-1<c.ins.length from by omega);refine Yp (e:=78) (m:=6) hi I Z Z Z (cI<|D5 (b:=1) oM hi.cQ) (fun cx b7 bm b8 ap=>?_);have hr73rawx:=ap;have hr73':=ap;obtain⟨c0,rfl,b9⟩:=hr73';refine bU bm Z Z Z (k:=0) B (lb Z) (fun _=>Z) (fun c1 bo=>?_);refine S Z (Yz O bo Z Z) Z<|Wm 3 Z<|Wi 3 Z<|ky Z (aB Z Z Z) (fun W=>?_) (fun W=>?_)
 ·refine Wq 13 Z<|aI<|aA (?_);exact az Z Z ⟨cJ (by symm;unfold dJ;rw[u,show cW 4000 (.ofNat c.ins.length)=false from h15x,fH C<|bI A,E,show bD (.ofNat c.ins.length) 0=false from h52x,fH F<|bI N,I];show(bif lA X then(0:Int) else 2)=_;unfold lA;rw[W];rfl),O.pop⟩
 refine Wo 6 Z<|ky Z (aB Z Z Z) (fun aa=>?_) (fun aa=>?_)
 ·refine Wq 13 Z<|aI<|aA (?_);exact az Z Z ⟨cJ (by symm;unfold dJ;rw[u,show cW 4000 (.ofNat c.ins.length)=false from h15x,fH C<|bI A,E,show bD (.ofNat c.ins.length) 0=false from h52x,fH F<|bI N,I];show(bif lA X then(0:Int) else 2)=_;unfold lA;rw[W,aa];rfl),O.pop⟩
 refine Xe 5 Z<|ky Z (aB Z Z Z) (fun a2=>?_) (fun a2=>?_)
 ·refine Xf 10 Z<|aI<|aA (?_);exact az Z Z ⟨cJ (by symm;unfold dJ;rw[u,show cW 4000 (.ofNat c.ins.length)=false from h15x,fH C<|bI A,E,show bD (.ofNat c.ins.length) 0=false from h52x,fH F<|bI N,I];show(bif lA X then(0:Int) else 2)=_;unfold lA;rw[W,aa,a2];rfl),O.pop⟩
 refine Wp 6 Z<|XN 6 Z ?_;exact az Z Z ⟨cJ (by symm;unfold dJ;rw[u,show cW 4000 (.ofNat c.ins.length)=false from h15x,fH C<|bI A,E,show bD (.ofNat c.ins.length) 0=false from h52x,fH F<|bI N,I];show(bif lA X then(0:Int) else 2)=_;unfold lA;rw[W,aa,a2];rfl),O.pop⟩
variable {A B_:List Int}
def Dn:List Int->List Int->Int
 | x::l,y::m=>bif bD (ff x y) 0 then Dn l m else ff x y
 | _,_=>0
def dj (A B_:List Int) (c:Int):Prop:=∀l m,Dn (A++l) (B_++m)=bif bD c 0 then Dn l m else c
theorem dj.nil:dj [] [] 0:=fun _ _=>Z
theorem dj.one (x y:Int):dj [x] [y] (ff x y):=fun _ _=>Z
theorem dj.app {A' B':List Int} {c c':Int} (h:dj A B_ c) (h':c=0->dj A' B' c'):dj (A++A') (B_++B') (bif bD c 0 then c' else c):=fun l m=>by
 rw[lQ_,lQ_,h];simp only[AR]
 by_cases hc:c=0
 ·simp only[hc,if_true];rw[h' hc];simp only[AR]
 omega
theorem dj.rows {α:Type} {enc:α->List Int} {c:α->α->Int}:∀{ls ms:List α},ls.length=ms.length->(∀(i:Nat) (x y:α),ls[i]? =some x->ms[i]? =some y->dj (enc x) (enc y) (c x y))->dj (ls.flatMap enc) (ms.flatMap enc) (eo c ls ms)
 | [],[],_,_=>dj.nil
 | [],_::_,h,_=>by cases h
 | _::_,[],h,_=>by cases h
 | x::ls,y::ms,h,hc=>by
  rw[List.flatMap_cons,List.flatMap_cons];exact(hc 0 x y Z Z).app fun _=>dj.rows (by simpa using h) fun i x y h1 u=>hc (i+1) x y (by simpa using h1) (by simpa using u)
theorem dj.fz {A' B':List Int} {c:Int} {l:List Int} (h:dj A B_ c) (h':c=0->dj A' B' (D7 l)):dj (A++A') (B_++B') (D7 (c::l)):=h.app h'
theorem qJ:∀{a b:List Int},a.length=b.length->dj a b (eo ff a b)
 | [],[],_=>dj.nil
 | [],_::_,h=>by cases h
 | _::_,[],h=>by cases h
 | x::a,y::b,h=>(dj.one x y).app fun _=>qJ (by simpa using h)
theorem Ls (x y:bW):dj x.ints y.ints (pQ x y):=
 (dj.one x.kind y.kind).fz (B':=[y.loc,y.order,y.read,y.write]) (A':=[x.loc,x.order,x.read,x.write]) fun _=>
 (dj.one x.loc y.loc).fz (B':=[y.order,y.read,y.write]) (A':=[x.order,x.read,x.write]) fun _=>
 (dj.one x.order y.order).fz (B':=[y.read,y.write]) (A':=[x.read,x.write]) fun _=>
 (dj.one x.read y.read).fz (B':=[y.write]) (A':=[x.write]) fun _=>
 (dj.one x.write y.write).fz (A':=[]) (B':=[]) fun _=>dj.nil
theorem Lt (x y:bV):dj x.ints y.ints (ql x y):=
 (dj.one x.bM y.bM).fz (B':=[y.index]) (A':=[x.index]) fun _=>(dj.one x.index y.index).fz (A':=[]) (B':=[]) fun _=>dj.nil
theorem kr {a b:List α} (h:iY a b=0):a.length=b.length:=iJ_ (xI h)
def eI (r:List bV):List Int:=.ofNat r.length::r.flatMap bV.ints
theorem zA (x y:List bV):dj (eI x) (eI y) (iX x y):=by
 have h:=(dj.one (.ofNat x.length) (.ofNat y.length)).fz (A':=x.flatMap bV.ints++[]) (B':=y.flatMap bV.ints++[]) (l:=[eo ql x y]) fun h=>
  (dj.rows (enc:=bV.ints) (c:=ql) (kr h) fun _ x y _ _=>Lt x y).fz (A':=[]) (B':=[]) (l:=[]) fun _=>dj.nil
 rw[zk_,zk_] at h;exact h
def nt (g:XG):List Int:=
 [.ofNat g.threads.length]++(g.threads.map (fun r=>Int.ofNat r.length)++(g.threads.flatMap (fun r=>r.flatMap bW.ints)++([.ofNat g.from_.length]++(g.from_.flatMap eI++([.ofNat g.order.length]++(g.order.flatMap eI++([.ofNat g.init.length]++(g.init++[]))))))))
theorem EJ {α:Type} {f:α->Int}:∀{a b:List α},eo ff (a.map f) (b.map f)=eo (fun x y=>ff (f x) (f y)) a b
 | [],[]=>rfl
 | [],_::_=>rfl
 | _::_,[]=>rfl
 | x::a,y::b=>by
  show(bif bD (ff (f x)<|f y) 0 then eo ff (a.map f) (b.map f) else ff (f x) (f y))=(bif bD (ff (f x)<|f y) 0 then eo (fun x y=>ff (f x) (f y)) a b else ff (f x) (f y));rw[EJ]
theorem Bx {α:Type} {c:α->α->Int}:∀{a b:List α},eo c a b=0->∀(i:Nat) (x y:α),a[i]? =some x->b[i]? =some y->c x y=0
 | [],_,_,i,x,y,h,_=>by simp at h
 | _::_,[],_,i,x,y,_,h=>by simp at h
 | p::a,q::b,h,i,x,y,h1,u=>by
  have h:(bif bD (c p q) 0 then eo c a b else c p q)=0:=h;rw[AR] at h;split at h
  ·rename_i hc;cases i with
   | zero=>
    have e1:p=x:=by simpa using h1
    have e2:q=y:=by simpa using u
    subst e1 e2;exact hc
   | succ i=>exact Bx h i x y (by simpa using h1) (by simpa using u)
  contradiction
theorem Og (a b:XG):dj (nt a) (nt b) (ml a b):=
 (dj.one _ _).fz fun h1=>
 dj.fz (c:=eo iY a.threads b.threads) (by
  have:=qJ (a:=a.threads.map fun r=>Int.ofNat r.length) (b:=b.threads.map fun r=>Int.ofNat r.length) (by rw[lM_,lM_];exact kr h1);rw[EJ] at this;exact this) fun u=>
 dj.fz (c:=eo (eo pQ) a.threads b.threads) (dj.rows (kr h1) fun i x y hx hy=>dj.rows (kr<|Bx u i x y hx hy) fun _ e f _ _=>Ls e f) fun _=>
 (dj.one _ _).fz fun A=>
 dj.fz (c:=eo iX a.from_ b.from_) (dj.rows (kr A) fun _ x y _ _=>zA x y) fun _=>
 (dj.one _ _).fz fun C=>
 dj.fz (c:=eo iX a.order b.order) (dj.rows (kr C) fun _ x y _ _=>zA x y) fun _=>
 (dj.one _ _).fz fun E=>
 dj.fz (c:=eo ff a.init b.init) (qJ<|kr E) fun _=>dj.nil
theorem Dp (a b:XG):Dn (nt a) (nt b)=ml a b:=by
 have h:=Og a b [] [];rw[zk_,zk_] at h;rw[h];show(bif bD (ml a b) 0 then 0 else ml a b)=_;rw[AR];split<;>omega
variable {E:Nat}
theorem ints_at {xs:List Int} {i:Nat} {x:Int} (h:xs[i]? =some x):(ints xs)[i]? =some (.int .i64 x):=by
 unfold ints;simp_all
theorem eA {xs:List Int} {vb:Nat} (h:K vb (.row (ints xs) e false)) (hn:xs.length<=1000):bG K 1 dB xs (.slice vb 0 xs.length (.known xs.length)):=by
 refine .inr ⟨vb,0,_,_,e,false,Z,.inr ⟨_,Z,nR_ _⟩,h,?_,by omega,fun i x hx=>?_⟩
 ·unfold ints;simp_all
 rw[Nat.mul_one,nA_,cT<|ints_at hx];rfl
theorem gg {α β:Type} {f:α->List β}:∀{l:List α} {i:Nat} {x:α},l[i]? =some x->(l.take (i+1)).flatMap f=(l.take i).flatMap f++f x
 | [],_,_,h=>by simp at h
 | y::l,0,x,h=>by
  have:y=x:=by simpa using h
  subst this;simp
 | y::l,i+1,x,h=>by
  have h':l[i]? =some x:=by simpa using h
  show(y::l.take (i+1)).flatMap f=(y::l.take i).flatMap f++f x;rw[List.flatMap_cons,List.flatMap_cons,gg h',lQ_]
theorem map_take {α β:Type} {f:α->β} {l:List α} {i:Nat} {x:α} (h:l[i]? =some x):(l.take (i+1)).map f=(l.take i).map f++[f x]:=by
 rw[zb_,h,List.map_append];rfl
theorem oG {xs:List Int} {b:Nat} (hn:xs.length<=1000):cO 1 E dB xs (.slice b 0 xs.length (.known xs.length)) [(b,.row (ints xs) e false)]:=by
 refine .inr ⟨b,_,_,e,Z,Z,?_,fun i x hx=>?_,.inl Z,by omega⟩
 ·unfold ints;simp_all
 rw[Nat.mul_one,cT<|ints_at hx];rfl
structure XZ (g:XG):Prop where
 t:g.threads.length<=4
 r:∀l∈g.threads,l.length<=14
 f:g.from_.length<=4
 fr:∀l∈g.from_,l.length<=14
 o:g.order.length<=6
 XJ:∀l∈g.order,l.length<=56
 i:g.init.length<=6
variable {nx:Nat->List Nat} {R:α->List Y->Prop}
abbrev gI (n:Nat):Y:=.int .i64 (.ofNat n)
abbrev gS (n:Nat):Y:=.int .u8 (.ofNat n)
section
variable {V:D} {K:KP} {A M L:Own} {x:Nat×cd}
theorem H.front (h:H V K (A++(M++L))):H V K (M++(A++L)):=h.perm (List.perm_append_comm_assoc A M L)
theorem H.Hm (h:H V K (x::(A++(M++L)))):H V K (x::(M++(A++L))):=h.perm ((List.perm_append_comm_assoc A M L).cons x)
end
theorem mX.Ta {m:Nat} {l:List α} {u:Y} {M:Own} (h:mX m E R l u M) {k:Nat} (hk:k<=l.length):
  ∃u',mX m E R (l.take k) u' M/\∀{P:Program} {ev:Operand->Option Y} {t:TypeId} {x hi:Operand} {kk:IntKind},P.underlying t=some (.slice E)->(P.info? E).map (·.size)=some m->ev x=some u->ev hi=some (.int kk (.ofNat k))->pH P ev t x none (some hi) none=some u':=by
 rcases h with ⟨rfl,rfl,rfl⟩ | ⟨b,c,cells,e,rfl,rfl,h3,h4,h5,h6⟩
 ·refine⟨.aw,.inl ⟨List.take_nil,Z,Z⟩,fun {P ev t x hi kk} hu hj hx hh=>?_⟩;obtain⟨j,C,rfl⟩:=oM_.1 hj;obtain rfl:k=0:=by simpa using hk
  have:dQ ev 0 0 none (some hi)=some (0,0):=GM hh (nR_ _);simp only[pH,hu,hx,C,this]
 have hl:(l.take k).length=k:=by simp_all
 have F:∀(i:Nat) (x:α),(l.take k)[i]? =some x->R x ((cells.drop (i*m)).take m):=fun i x hi=>by
  grind
 have hle:k*m<=cells.length:=Nat.le_trans (nM_ _ hk) h3;rcases h5 with ⟨n,rfl,h7,G⟩ | ⟨rfl,rfl⟩
 ·refine⟨.slice b 0 k (.known n),.inr ⟨b,.known n,cells,e,by rw[hl],Z,by rw[hl];exact hle,F,.inl ⟨n,Z,by rw[hl];omega,G⟩,by rw[hl];omega⟩,fun {P ev t x hi kk} hu hj hx hh=>?_⟩;obtain⟨j,C,rfl⟩:=oM_.1 hj;have:dQ ev l.length n none (some hi)=some (0,k):=GM hh oM;simp only[pH,hu,hx,cutAt,this,cut,C]
  simp_all
 refine⟨.slice b 0 k (.upto m),.inr ⟨b,.upto m,cells,e,by rw[hl],Z,by rw[hl];exact hle,F,.inr ⟨Z,Z⟩,by rw[hl];omega⟩,fun {P ev t x hi kk} hu hj hx hh=>?_⟩;obtain⟨j,C,rfl⟩:=oM_.1 hj;have:dQ ev l.length l.length none (some hi)=some (0,k):=GM hh hk;simp only[pH,hu,hx,this,C,show Nat.beq j.size j.size=true from Nat.beq_refl _,cond_true,Nat.zero_mul,Nat.sub_zero,Nat.add_zero]
theorem mX.cQ {m:Nat} {l:List α} {u:Y} {M:Own} (h:mX m E R l u M):l.length<=1048576:=by
 rcases h with ⟨rfl,_⟩ | ⟨_,_,_,_,_,_,_,_,_,h⟩
 ·exact Nat.zero_le _
 exact h
theorem OB {l:List Nat} {i n:Nat} (h:l[i]? =some n):(l.map Int.ofNat)[i]? =some (.ofNat n):=by simp_all
theorem jM (l:List Nat):(l.map Int.ofNat).length=l.length:=lM_ ..
theorem Rm {l:List Nat} {a:Nat} (h:l.getLast? =some a):l[l.length-1]? =some a:=by grind
theorem Ml (l:List Nat):(l.map Int.ofNat).take (l.length-1)=l.dropLast.map Int.ofNat:=by rw[List.dropLast_eq_take,List.map_take]
theorem Fs (x:XI) (a:Nat):(fA x a).length<=2:=by
 grind [fA]
where
 cond_ind2 {a b:List Int} (c:Bool) (h1:a.length<=2) (h0:b.length<=2):(bif c then a else b).length<=2:=by grind
theorem vT {a:Nat} {x:XI} (h:c.ins[a]? =some x):(du c a).length=(fA x a).length:=by unfold du;rw[h];simp
theorem On {a g:Nat} {x:XI} {to:Int} (h:c.ins[a]? =some x) (ht:(fA x a)[g]? =some to):(du c a)[g]? =some to.toNat:=by
 grind [du]
theorem Oo {a g:Nat} {x:XI} (h:c.ins[a]? =some x) (u:(fA x a).length<=g):(du c a)[g]? =none:=by
 rw[List.getElem?_eq_none_iff,vT h];exact u
theorem vS {k:Nat} (hc:eO k c) {a g:Nat} {x:XI} {to:Int} (h:c.ins[a]? =some x) (E:(fA x a)[g]? =some to):∃t:Nat,to= .ofNat t/\t<c.ins.length/\(du c a)[g]? =some t:=by
 have hlt:=(gA.1 h).1;have hN:=On h E;have hm:=uC hc a hlt _ (gB_ hN);refine⟨to.toNat,?_,hm,hN⟩;have hx:=hc.right x (gB_ h);obtain⟨n,sh,hn,F,C,u,G⟩:=js hx;have hto:=(kH G).to;have hmem:=gB_ E;unfold fA at hmem;rw[hn] at hmem;have tole:sh.to=true->0<=x.to/\x.to<(c.ins.length:Int):=fun e=>by rw[e] at hto;exact nA hto
 have nn:∀y:Int,0<=y->y= .ofNat y.toNat:=fun y hy=>by grind
 match n,F,C with
 | 1,_,_ | 2,_,_ | 3,_,_ | 4,_,_ | 5,_,_ | 6,_,_ | 7,_,_ | 8,_,_ | 9,_,_=>
  have e:to= .ofNat (a+1):=List.mem_singleton.1 (show to∈[Int.ofNat (a+1)] from hmem);rw[e];rfl
 | 10,_,_=>
  have e:to=x.to:=List.mem_singleton.1 (show to∈[x.to] from hmem);have:=tole (by cases u;rfl)
  grind
 | 11,_,_=>
  have e:to= .ofNat (a+1)∨to=x.to:=by grind
  have:=tole (by cases u;rfl)
  grind
 | 12,_,_ | 13,_,_=>exact absurd (show to∈([]:List Int) from hmem) (by simp)
theorem Ga:total (du c) c.ins.length<=2*c.ins.length:=by
 have h:∀(l:List Nat),(l.map fun i=>(du c i).length).sum<=2*l.length:=by
  intro l;induction l with
  | nil=>simp
  | cons i l ih=>
   grind [du,Fs]
 have:=h (List.range c.ins.length);rwa[List.length_range] at this
theorem QZ {f:Nat} {s:DS} (h:s.path.length=0):C7 nx (f+1) s=some s.out:=by
 unfold C7
 simp_all
theorem yE {f a:Nat} {s s':DS} (h:s.path.getLast? =some a) (hd:my nx s a=some s'):C7 nx (f+1) s=C7 nx f s':=by
 conv=>lhs;unfold C7
 simp_all
theorem Np {f a:Nat} {s:DS} (h:s.path.getLast? =some a) (hd:my nx s a=none):C7 nx (f+1) s=none:=by
 conv=>lhs;unfold C7
 simp_all
theorem KF {s:DS} {a g:Nat} (hg:s.gone[a]? =some g) (hn:(nx a)[g]? =none):my nx s a=some {s with st:=s.st.set a 2,out:=s.out++[a],path:=s.path.dropLast}:=by
 unfold my;simp_all
theorem G5 {s:DS} {a g to:Nat} (hg:s.gone[a]? =some g) (hn:(nx a)[g]? =some to) (hv:s.st[to]? =some 2):my nx s a=some {s with gone:=s.gone.set a (g+1)}:=by
 grind [my]
theorem G3 {s:DS} {a g to:Nat} (hg:s.gone[a]? =some g) (hn:(nx a)[g]? =some to) (hv:s.st[to]? =some 1):my nx s a=none:=by
 grind [my]
theorem G4 {s:DS} {a g to v:Nat} (hg:s.gone[a]? =some g) (hn:(nx a)[g]? =some to) (hv:s.st[to]? =some v) (h2:v≠2) (h1:v≠1):my nx s a=some {s with gone:=s.gone.set a (g+1),st:=s.st.set to 1,path:=s.path++[to]}:=by
 unfold my;simp_all
theorem Ha {a b:Nat} (h:bD (.ofNat a) (.ofNat b)=false):a≠b:=fun e=>by rw[e,gd] at h;simp at h
theorem xh (N:Plain G) {k:Nat} {x:XI} {a:Nat} (I:a<9223372036854775807) (h:jA K k x vs) (O:H V K L):
  EC G 123 [.agg vs,nI a] V fun v V'=>∃M,cO 1 3 dB (fA x a) v M/\H V' K (M++L):=by
 obtain⟨w,rfl,hk⟩:=h;refine XD N Tryz.func123 Z<|Xb 2 Z<|kb O (cL Z Z) (fun V b1 O=>?_);refine VF O 8 [0,0] Z Z<|Wm 3 Z<|Xb 2 Z<|ky Z (aB Z Z Z) (fun E=>?_) (fun E=>?_)
 ·refine Wu O 8 [4,0] Z Z<|gE O Z (cM (e:=3) (m:=1) (z:=[iZ]) (cs:=[_]) B B B B<|bn Z Z Z Z cD) (fun _=>Z) (fun V F O=>?_);refine Xf 4 Z<|aI<|aA (?_);exact az Z Z ⟨[(F,_)],by unfold fA;rw[E];exact oG (xs:=[x.to]) (by simp),O.sub (.cons_cons _ (.cons _ (.refl _)))⟩
 refine Wo 6 Z<|ky Z (aB Z Z Z) (fun u=>?_) (fun u=>?_)
 ·refine Wo 7 Z<|S Z (aB Z Z (show _=some (Y.int .i64 (.ofNat (a+1))) from cI (a6 I))) Z<|XS O 2 [4,0] Z Z<|gE O Z (cM (e:=3) (m:=1) (z:=[iZ]) (cs:=[_,_]) B B B B<|bn Z Z Z Z<|bn Z Z Z Z cD) (fun _=>Z) (fun V F O=>?_);refine Xf 4 Z<|aI<|aA (?_);exact az Z Z ⟨[(F,_)],by unfold fA;rw[E,u];exact oG (xs:=[.ofNat (a+1),x.to]) (by simp),O.sub (.cons_cons _ (.cons _ (.refl _)))⟩
 refine VE 7 Z<|ky Z (aB Z Z Z) (fun A=>?_) (fun A=>?_)
 ·refine Wq 13 Z<|aI<|aA (?_);exact az Z Z ⟨[],.inl ⟨by unfold fA;rw[E,u,A];rfl,Z,Z⟩,O.pop⟩
 refine Xe 5 Z<|ky Z (aB Z Z Z) (fun C=>?_) (fun C=>?_)
 ·refine Xf 10 Z<|aI<|aA (?_);exact az Z Z ⟨[],.inl ⟨by unfold fA;rw[E,u,A,C];rfl,Z,Z⟩,O.pop⟩
 refine Wp 6 Z<|Xb 3 Z<|S Z (aB Z Z (show _=some (Y.int .i64 (.ofNat (a+1))) from cI (a6 I))) Z<|gE O Z (cM (e:=3) (m:=1) (z:=[iZ]) (cs:=[_]) B B B B<|bn Z Z Z Z cD) (fun _=>Z) (fun V F O=>?_);refine Xf 4 Z ?_;exact az Z Z ⟨[(F,_)],by unfold fA;rw[E,u,A,C];exact oG (xs:=[.ofNat (a+1)]) (by simp),O.sub (.cons_cons _ (.cons _ (.refl _)))⟩
theorem UI (u:Plain G) (x y:Int) (O:H V K L):Ca G K L 101 [.int .i64 x,.int .i64 y] V <| .bool false:=by
 refine XD u Tryz.func101 Z<|XN 11 Z ?_;exact az Z Z ⟨Z,O⟩
theorem Gi (hG:Plain G) {k:Nat} (hc:eO k c) {v:Y} (hi:bG K 6 (jA K k) c.ins v) (O:H V K L):
  EC G 100 [.agg [.int .i64 c.bE,v],.func 101 [] []] V fun v V'=>∃u M,v= .tuple [u,.bool (eV c).isSome]/\mX 1 3 dB (((eV c).getD []).map .ofNat) u M/\H V' K (M++L):=by
 have hN:∀i,i<c.ins.length->∀to∈du c i,to<c.ins.length:=uC hc;have hlen:=hc.len;have hpos:=hc.pos;have htot:=Ga (c:=c);obtain⟨N,ba⟩:∃N,N=2*total (du c) c.ins.length+2:=⟨_,Z⟩;have hO:eV c=C7 (du c) N (EM c.ins.length):=by rw[ba];rfl
 refine XD hG Tryz.func100 Z<|Xb 2 Z<|kb O (cL Z Z) (fun V b1 O=>?_);refine Wu O 8 [1,0] Z Z<|S Z (Yx hi Z Z Z (e:=78) Z) Z<|gE O Z (gT (e:=5) (w:=1) (z:=[gS 0]) B B B B Z Z oM oM) (fun _=>Z) (fun V b2 O=>?_);rw[gp (f:=gS)] at O;refine Wu O 7 [1,1] Z Z<|S Z (Yx hi Z Z Z (e:=78) Z) Z<|gE O Z (gT (e:=3) (w:=8) (z:=[gI 0]) B B B B Z Z oM oM) (fun _=>Z) (fun V b3 O=>?_);rw[gp (f:=gI)] at O;refine Wo 11 Z (S Z (dP (e:=5) (m:=1) B B Z Z hpos) Z (fM O (.there .here) Z (aL Z Z Z O.g1 (m:=1) B Z (by rw[lM_];simp;omega) Z (cells':=((List.replicate c.ins.length 0).set 0 1).map (gS))<|ei (f:=gS) (v:=1) (by simp;omega) (by first | omega | rfl)) Z (fun V O=>?_)));refine VE 5 Z<|gE O Z (cM (e:=3) (m:=1) (z:=[iZ]) (cs:=[_]) B B B B<|bn Z Z Z Z cD) (fun _=>Z) (fun V b4 O=>?_);refine Wm 4 Z (bq ([4,5]++rg 8 5++rg 24 71) (fun j t V=>∃(s:DS) (u9 u8:Y) (Mp Mo:Own),UR (du c) c.ins.length s/\jn (du c) c.ins.length s<=j/\s.out.length+jn (du c) c.ins.length s<=N/\C7 (du c) N (EM c.ins.length)=C7 (du c) (j+1) s/\mX 1 3 dB (s.out.map .ofNat) u8 Mo/\mX 1 3 dB (s.path.map .ofNat) u9 Mp/\t.get 8=some (u8)/\t.get 9=some (u9)/\H V K (Mo++(Mp++((b3,.row (s.gone.map gI) 3 false)::(b2,.row (s.st.map gS) 5 false)::(b1,.row [.int .i64 c.bE,v] 49 false)::L)))) ((N-1)) ⟨EM c.ins.length,_,.aw,[(b4,.row [gI 0] 3 false)],[],C9 hpos,by rw[Oc];omega,by rw[Oc];have:(EM c.ins.length).out.length=0:=rfl;omega,by rw[show N-1+1=N from by omega],.inl ⟨Z,Z,Z⟩,(oG (xs:=[0]) (by simp)).W5,Z,Z,O⟩ ?_);clear O;intro j6 t V ar hI;obtain⟨s,u9,u8,Mp,Mo,hw,ab,bS,he,hOut,hP,bb,bc,O⟩:=hI;obtain⟨oo,rfl⟩:=ar.q2 bb bc Z;refine Wi 4 Z<|S Z (AD hP Z Z Z (e:=3) B Z) Z<|ky Z (aB Z Z Z) (fun ac=>?_) (fun ac=>?_)
 ·refine Xd 3 Z<|aH<|ad<|aK<|Xb 4 Z<|S Z (AD hP Z Z Z (e:=3) B Z) Z<|vQ 1 Z ?_;have ax:0<s.path.length:=by have:=aS (a:=0) ac;rwa[jM] at this
  obtain⟨a,C⟩:∃a,s.path.getLast? =some a:=by cases hq:s.path.getLast? with | none=>(rw[List.getLast?_eq_none_iff.1 hq] at ax;exact absurd ax<|Nat.lt_irrefl _) | some a=>exact⟨a,rfl⟩
  have hla':=Rm C;obtain⟨A,bp⟩:=hw.path a (gB_ hla');obtain⟨g,W⟩:∃g,s.gone[a]? =some g:=⟨_,gC (by rw[hw.uw];exact A)⟩;obtain⟨aE,E⟩:=da A;have bY:s.path.length<=jn (du c) c.ins.length s:=by unfold jn;omega
  refine Yp (e:=3) (m:=1) (hP.gB (K:=K.gw Mp) fun y hy=>.inr hy) (OB hla') Z Z Z (cI ((congrArg (fun q=>wr .i64 (Int.sub (.ofNat q) 1))<|jM s.path).trans<|D5 (b:=1) oM oM)) (fun b0 bs a0 bt a1=>?_);obtain rfl:=a1;refine S Z (Yz (O.cF.keeps) a0 Z Z) Z<|Wu O 6 [1] Z Z<|S Z (Yw Z O.cF.cF.pop.pop.g0 Z) Z<|vQ 1 Z<|Yp (e:=78) (m:=6) hi E Z Z Z Z (fun b6 bv a2 bw X=>?_);have hr36raw:=X;have hr36':=X;obtain⟨b7,rfl,bF⟩:=hr36';refine S Z (YA O a2 Z Z) Z<|vQ 1 Z<|kw (Yu Z Z Z) (xh hG oM hr36raw O) ?_;rintro b8 V ⟨bd,hM39,O⟩;replace O:=O.keeps;have hS39:=hM39.gB (K:=K.gw bd) fun y hy=>.inr hy
  refine VE 8 Z<|S Z (dP (e:=3) (m:=1) B B Z Z A) Z<|S Z (av Z O.cF.cF.g0 B<|gM W (by first | omega | rfl)) Z<|vQ 1 Z<|S Z (Yx hS39 Z Z Z (e:=3) Z) Z<|Xd 3 Z<|aG Z (fun am=>?_) (fun am=>?_)
  ·refine Xb 4 Z (S Z (dP (e:=5) (m:=1) B B Z Z A) Z (fM O (.dz (.dz (.there .here))) Z (aL Z Z Z O.cF.cF.pop.g0 (m:=1) B Z (by rw[lM_];rw[hw.Qt];omega) Z (cells':=((s.st).set a 2).map (gS))<|ei (f:=gS) (v:=2) (by rw[hw.Qt];exact A) (by first | omega | rfl)) Z (fun V O=>?_)));refine Wo 6 Z<|gE O Z (cM (e:=3) (m:=1) (z:=[iZ]) (cs:=[_]) B B B B<|bn Z Z Z Z cD) (fun _=>Z) (fun V b5 O=>?_);obtain⟨V,be,bf,F,hOut2,O⟩:=qP (P:=Tryz.prog) (ts:= #[148,148]) (t:=148) (e:=3) (l2:=[Int.ofNat a]) hOut O (eA (xs:=[Int.ofNat a]) (.inr ⟨Z,Z⟩) (by simp)) dB.leaf (by simp) (by simp) (by rw[jM];omega) Z B B B;rw[show s.out.map Int.ofNat++[Int.ofNat a]=(s.out++[a]).map Int.ofNat from by rw[List.map_append];rfl] at hOut2;refine S Z (gq Z Z Z Z B F) Z<|Wo 7 Z<|S Z (AD hP Z Z Z (e:=3) B Z) Z<|vQ 1 Z ?_;obtain⟨bg,hP2,bi⟩:=hP.Ta (k:=s.path.length-1) (by rw[jM];omega);rw[Ml] at hP2;refine S Z (bK Z<|bi B B Z (show _=some (Y.int .i64 (.ofNat (s.path.length-1))) from cI ((congrArg (fun q=>wr .i64 (Int.sub (.ofNat q) 1))<|jM s.path).trans<|D5 (b:=1) oM oM))) Z<|Ws 5 Z<|aQ ?_;replace O:=O.weaken (KP.cR _ _);have hd:=KF W (Oo E (by have:=iJ_ (eqv am);omega));obtain⟨I,a3,a4⟩:=qu hw hN C hd;refine aJ ⟨j6-1,by have:1<=j6:=(by unfold jn at ab;omega);omega,oF,_,bg,be,Mp,bf,I,by omega,by omega,by rw[he,show j6+1=(j6-1+1)+1 from by omega];exact yE C hd,hOut2,hP2,Z,Z,O⟩
  refine Wk 7 Z<|S Z (dP (e:=3) (m:=1) B B Z Z A) Z<|S Z (av Z O.cF.cF.g0 B<|gM W (by first | omega | rfl)) Z ?_;have bl:g<(fA aE a).length:=by have h1:=hw.gone a g W;rw[vT E] at h1;have:=Ha am;omega
  obtain⟨b9,aa⟩:=da bl;obtain⟨to,rfl,Q,ao⟩:=vS hc E aa;obtain⟨sv,hv⟩:∃sv,s.st[to]? =some sv:=⟨_,gC (by rw[hw.Qt];exact Q)⟩;refine Yp (e:=3) (m:=1) hS39 aa Z Z Z Z (fun ca bM a5 bR a9=>?_);obtain rfl:=a9;refine S Z (Yz O a5 Z Z) Z<|Wo 7 Z<|S Z (dP (e:=3) (m:=1) B B Z Z A) Z<|S Z (av Z O.cF.cF.g0 B<|gM W (by first | omega | rfl)) Z<|vQ 1 Z<|S Z (dP (e:=3) (m:=1) B B Z Z A) Z ?_;refine fM O (.dz (.dz .here)) Z (aL Z Z (show _=some [gI (g+1)] from congrArg (fun z=>some [Y.int .i64 z]) (a6 (by have h1:=hw.gone a g W;rw[vT E] at h1;have:=Fs aE a;omega))) O.cF.cF.g0 (m:=1) B Z (by rw[lM_];rw[hw.uw];omega) Z (cells':=((s.gone).set a (g+1)).map (gI)) (ei (f:=gI) (v:=(g+1)) (by rw[hw.uw];exact A) (by first | omega | rfl))) Z (fun V O=>?_);refine VE 8 Z<|kx (Yu Z Z Z) (UI hG _ _ O) (fun V O=>?_);refine XP 3 Z<|S Z (dP (e:=5) (m:=1) B B Z Z Q) Z<|S Z (av Z O.cF.cF.pop.g0 B<|gM hv (by first | omega | rfl)) Z<|Xd 4 Z<|aG Z (fun ap=>?_) (fun ap=>?_)
  ·refine bz<|aT<|aQ ?_;replace O:=O.weaken (KP.cR _ _);have hd:=G5 W ao (by rw[hv];exact congrArg some<|iJ_<|eqv ap);obtain⟨I,a3,a4⟩:=qu hw hN C hd;refine aJ ⟨j6-1,by have:1<=j6:=(by unfold jn at ab;omega);omega,oF,_,u9,u8,Mp,Mo,I,by omega,by omega,by rw[he,show j6+1=(j6-1+1)+1 from by omega];exact yE C hd,hOut,hP,Z,Z,O⟩
  refine VD 7 Z<|S Z (dP (e:=5) (m:=1) B B Z Z Q) Z<|S Z (av Z O.cF.cF.pop.g0 B<|gM hv (by first | omega | rfl)) Z<|Xd 3 Z<|aG Z (fun aq=>?_) (fun aq=>?_)
  ·refine XN 7 Z<|aA<|aI<|bP<|aI<|aA (?_);have R:eV c=none:=by rw[hO,he];exact Np C<|G3 W ao (by rw[hv];exact congrArg some<|iJ_<|eqv aq)
   replace O:=O.weaken (KP.cR _ _);exact db Z Z Z ⟨_,[],by rw[R];rfl,by rw[R];exact .inl ⟨Z,Z,Z⟩,O.cF.cF.pop.pop.pop⟩
  refine Wk 6 Z (S Z (dP (e:=5) (m:=1) B B Z Z Q) Z (fM O (.dz (.dz (.there .here))) Z (aL Z Z Z O.cF.cF.pop.g0 (m:=1) B Z (by rw[lM_];rw[hw.Qt];omega) Z (cells':=((s.st).set to 1).map (gS))<|ei (f:=gS) (v:=1) (by rw[hw.Qt];exact Q) (by first | omega | rfl)) Z (fun V O=>?_)));refine Xe 5 Z<|gE O Z (cM (e:=3) (m:=1) (z:=[iZ]) (cs:=[_]) B B B B<|bn Z Z Z Z cD) (fun _=>Z) (fun V b5 O=>?_);replace O:=O.Hm;obtain⟨V,bm,bo,F,hP2,O⟩:=qP (P:=Tryz.prog) (ts:= #[148,148]) (t:=148) (e:=3) (l2:=[Int.ofNat to]) hP O (eA (xs:=[Int.ofNat to]) (.inr ⟨Z,Z⟩) (by simp)) dB.leaf (by simp) (by simp) (by rw[jM];omega) Z B B B;replace O:=O.front;rw[show s.path.map Int.ofNat++[Int.ofNat to]=(s.path++[to]).map Int.ofNat from by rw[List.map_append];rfl] at hP2;refine S Z (gq Z Z Z Z B F) Z<|XO 2 Z<|aD ?_;replace O:=O.weaken (KP.cR _ _);have hd:=G4 W ao hv (Ha (b:=2) ap) (Ha (b:=1) aq);obtain⟨I,a3,a4⟩:=qu hw hN C hd;refine aJ ⟨j6-1,by have:1<=j6:=(by unfold jn at ab;omega);omega,oF,_,bm,u8,bo,Mo,I,by omega,by omega,by rw[he,show j6+1=(j6-1+1)+1 from by omega];exact yE C hd,hOut,hP2,Z,Z,O⟩
 refine Ws 5 Z<|aV<|aQ<|XN 8 Z ?_;have T:eV c=some s.out:=by rw[hO,he];exact QZ (by have:=bI (a:=0) ac;rw[jM] at this;omega)
 exact db Z Z Z ⟨u8,Mo,by rw[T];rfl,by rw[T];exact hOut,O.sub<|fR (.trans (.cons _ (.cons _ (.cons _ (.refl _))))<|List.sublist_append_right _ _)⟩
theorem Iu (A:Plain G) (C:sf G K) {k:Nat} {v:Y} (hi:bG K 6 (jA K k) c.ins v) (O:H V K L):
  Ca G K L 62 [.agg [.int .i64 c.bE,v]] V <| .bool (kZ k c):=by
 refine XD A Tryz.func62 Z<|Xb 2 Z<|kb O (cL Z Z) (fun V b1 O=>?_);refine VE 6 Z<|S Z (YE Z O.g0 Z) Z<|kx (Yu Z Z Z) (wk A C hi O) (fun V O=>?_);refine Xd 3 Z<|aG Z (fun u=>?_) (fun u=>?_)
 ·refine Xc 7 Z ?_;exact az Z Z ⟨cB (by unfold kZ;rw[show bT (bD (dJ k c) 0)=true from u];rfl),O.pop⟩
 have E:dJ k c=0:=eqv (dg u);refine Wk 4 Z<|S Z (YE Z O.g0 Z) Z<|kw (Yu Z Z Z) (Gi A (nH E) hi O) ?_;rintro _ V ⟨aa,ab,rfl,hM10,O⟩;refine Xf 14 Z ?_;exact az Z Z ⟨cB (by unfold kZ;rw[show bT (bD (dJ k c) 0)=false from u];rfl),O.cF.pop⟩
def yc (x:Int):Int:=bif (bif (bif cW x 2 then false else true) then(bif cW 7 x then false else true) else false) then 1 else 0
theorem UE (A:Plain G) (x:Int) (O:H V K L):Ca G K L 99 [.int .i64 x] V <| .int .i64 (yc x):=by
 refine XD A Tryz.func99 Z<|Wi 10 Z<|ky Z (an Z) (fun h5=>?_) (fun h5=>?_)
 ·refine Xd 5 Z<|aG Z (fun u=>?_) (fun u=>?_)
  ·refine Xc 7 Z ?_;exact az Z Z ⟨cJ (by unfold yc;simp only[h5,u,ct,cf]),O⟩
  refine Xc 8 Z ?_;exact az Z Z ⟨cJ (by unfold yc;simp only[h5,u,ct,cf]),O⟩
 refine Wq 14 Z ?_;exact az Z Z ⟨cJ (by unfold yc;simp only[h5,ct,cf]),O⟩
abbrev gZ (n:Int):Y:=.int .i64 n
def xA (fr:List Int):List Int->Int->Int
 | [],m=>m
 | t::r,m=>xA fr r (bif cW m ((fr[t.toNat]?).getD 0) then(fr[t.toNat]?).getD 0 else m)
def uB (c:XC) (fr:List Int) (a:Nat):List Int:=match c.ins[a]? with | some x=>fr.set a (wr .i64<|Int.add (yc x.kind)<|xA fr (fA x a) 0) | none=>fr
def jo (c:XC):List Nat->List Int->List Int
 | [],fr=>fr
 | a::r,fr=>jo c r (uB c fr a)
def pT (k:Nat) (c:XC):Int:=
 bif bT (bD (dJ k c) 0) then-1 else match eV c with | some out=>((jo c out<|List.replicate c.ins.length 0)[0]?).getD 0 | none=>-1
theorem Lx (c:XC) (fr:List Int) (a:Nat):(uB c fr a).length=fr.length:=by unfold uB;cases c.ins[a]?<;>simp
theorem BX {c:XC}:∀{l:List Nat} {fr:List Int},(jo c l fr).length=fr.length
 | [],_=>rfl
 | a::l,fr=>by show(jo c l<|uB c fr a).length=_;rw[BX,Lx]
theorem Om {l:List Nat} {i a:Nat} {fr:List Int} (h:l[i]? =some a):jo c (l.drop i) fr=jo c (l.drop (i+1)) (uB c fr a):=by rw[cT h];rfl
theorem Rp {fr l:List Int} {i:Nat} {t:Int} {m:Int} (h:l[i]? =some t):xA fr (l.drop i) m=xA fr (l.drop (i+1)) (bif cW m ((fr[t.toNat]?).getD 0) then(fr[t.toNat]?).getD 0 else m):=by rw[cT h];rfl
theorem UH (hG:Plain G) (a4:sf G K) {k:Nat} {v:Y} (hi:bG K 6 (jA K k) c.ins v) (O:H V K L):
  EC G 98 [.agg [.int .i64 c.bE,v],.func 99 [] []] V fun v V'=>v= .int .i64 (pT k c)/\H V' K L:=by
 refine XD hG Tryz.func98 Z<|Xb 2 Z<|kb O (cL Z Z) (fun V b1 O=>?_);refine VE 6 Z<|S Z (YE Z O.g0 Z) Z<|kx (Yu Z Z Z) (wk hG a4 hi O) (fun V O=>?_);refine Xd 3 Z<|aG Z (fun F=>?_) (fun F=>?_)
 ·refine Xc 7 Z ?_;exact az Z Z ⟨cJ (by unfold pT;rw[show bT (bD (dJ k c) 0)=true from F];rfl),O.pop⟩
 have C:dJ k c=0:=eqv (dg F);refine Wk 4 Z<|S Z (YE Z O.g0 Z) Z<|kw (Yu Z Z Z) (Gi hG (nH C) hi O) ?_;rintro _ V ⟨a5,M17,rfl,hM17,O⟩;refine VE 11 Z<|ky Z (ek Z) (fun T=>?_) (fun T=>?_)
 ·refine Wq 10 Z ?_;exact az Z Z ⟨cJ (by unfold pT;rw[show bT (bD (dJ k c) 0)=false from F];show _=(match eV c with | some out=>_ | none=>_);rw[show eV c=none from by have:=sL T;cases hq:eV c with | none=>rfl | some q=>(rw[hq] at this;cases this)]),O.cF.pop⟩
 refine Xd 3 Z<|Wk 4 Z ?_;obtain⟨out,I⟩:=ze_.1 (mM T);have hR:=ta (uC<|nH C) (C9 (nH C).pos) (show C7 _ _ _=some out from I);have hlen:=(nH C).len;have hpos:=(nH C).pos;rw[I] at hM17;replace hM17:mX 1 3 dB (out.map Int.ofNat) a5 M17:=hM17;refine S Z (Yv 1 Z) Z<|S Z (Yw Z O.cF.g0 Z) Z<|S Z (Yx hi Z Z Z (e:=78) Z) Z<|gE O Z (gT (e:=3) (w:=8) (z:=[gZ 0]) B B B B Z Z oM oM) (fun _=>Z) (fun V b2 O=>?_);rw[gp (f:=gZ)] at O;refine VE 7 Z (S Z (AD hM17 Z Z Z (e:=3) B Z) Z (Wm 4 Z (bq ([9,10,12]++rg 29 37) (fun j t V=>∃(i:Nat) (fr:List Int),j+i=out.length/\fr.length=c.ins.length/\jo c out (List.replicate c.ins.length 0)=jo c (out.drop i) fr/\t.get 29=some (nI i)/\H V K ((b2,.row (fr.map gZ) 3 false)::(M17++(b1,.row [.int .i64 c.bE,v] 49 false)::L))) (out.length) ⟨0,_,Z,by simp,Z,Z,O⟩ ?_)));clear O;intro j8 t V ar hI;obtain⟨i,fr,bv,a9,aa,ab,O⟩:=hI;obtain⟨oo,rfl⟩:=ar.q1 ab Z;refine Xb 2 Z ?_;skip;refine ky Z (aB Z Z Z) (fun E=>?_) (fun E=>?_)
 ·refine Wn 7 Z<|aK<|Xb 2 Z ?_;obtain⟨a,W⟩:=da (show i<out.length from by have:=aS E;rwa[jM] at this);have han:=hR.lt a (gB_ W);obtain⟨u,A⟩:=da han;refine Yp (e:=3) (m:=1) (hM17.gB (K:=K.gw M17) fun y hy=>.inr hy) (OB W) Z Z Z Z (fun bw bc ac bd am=>?_);obtain rfl:=am;refine S Z (Yz (O.pop.keeps) ac Z Z) Z<|VF O 12 [1] Z Z<|S Z (Yw Z O.pop.cF.g0 Z) Z<|vQ 1 Z<|Yp (e:=78) (m:=6) hi A Z Z Z Z (fun bF be ao bf N=>?_);have hr36raw:=N;have hr36':=N;obtain⟨bM,rfl,bg⟩:=hr36';refine S Z (YA O ao Z Z) Z<|vQ 1 Z<|kw (Yu Z Z Z) (xh hG oM hr36raw O) ?_;rintro bR V ⟨ap,hM39,O⟩;replace O:=O.keeps;have hS39:=hM39.gB (K:=K.gw ap) fun y hy=>.inr hy
  refine S Z (Yx hS39 Z Z Z (e:=3) Z) Z<|Wm 4 Z ?_;obtain⟨LL2,O,hLL2⟩:=O.named;refine bq ([10,12]++rg 41 11) (fun j t V=>∃(i2:Nat) (m:Int),j+i2=(fA u a).length/\xA fr (fA u a) 0=xA fr ((fA u a).drop i2) m/\t.get 10=some (.int .i64 m)/\t.get 41=some (nI i2)/\H V (K.gw ap) LL2) ((fA u a).length) ⟨0,0,Z,Z,Z,Z,O⟩ ?_;clear O;intro ba t V ar hI;obtain⟨i2,m,bi,Q,aq,ax,O⟩:=hI;subst hLL2;obtain⟨oo,rfl⟩:=ar.q2 aq ax Z;refine Xb 2 Z<|ky Z (aB Z Z Z) (fun X=>?_) (fun X=>?_)
  ·refine Wn 7 Z<|aK<|Xb 2 Z ?_;obtain⟨bS,M,bl⟩:=dh X;refine Yp (e:=3) (m:=1) hS39 M Z Z Z Z (fun bY bm aE bo a0=>?_);obtain rfl:=a0;obtain⟨to,rfl,bb,b0⟩:=vS (nH C) A M;obtain⟨y,hy⟩:=da (show to<fr.length from by omega);refine S Z (Yz O aE Z Z) Z<|Xe 7 Z<|S Z (dP (e:=3) (m:=1) B B Z Z bb) Z<|S Z (av Z O.g0 B<|gM hy (by first | omega | rfl)) Z<|S Z (Tl Z Z Z Z) Z<|XO 2 Z<|aD<|XK 4 Z<|aJ ⟨ba-1,by omega,oF,i2+1,_,by omega,by rw[Q,Rp M,show(Int.ofNat to).toNat=to from Z,hy];rfl,Z,cI<|a6 (by have:=hS39.cQ;omega),O⟩
  refine Wn 4 Z<|Wl 3 Z<|aQ<|ad<|af Z ?_;replace O:=O.weaken (KP.cR _ _);refine XS O 4 [1] Z Z<|S Z (Yw Z O.pop.cF.g0 Z) Z<|vQ 1 Z<|Yp (e:=78) (m:=6) hi A Z Z Z Z (fun b3 bp a1 bs R=>?_);have hr58raw:=R;have hr58':=R;obtain⟨b4,rfl,bt⟩:=hr58';refine bU a1 Z Z Z (k:=0) B (lb Z) (fun _=>Z) (fun b5 a2=>?_);refine S Z (Yz O a2 Z Z) Z<|kx (Yu Z Z Z) (UE hG _ O) (fun V O=>?_);refine XP 2 Z (S Z (dP (e:=3) (m:=1) B B Z Z han) Z (fM O .here Z (aL Z Z Z O.g0 (m:=1) B Z (by rw[lM_];omega) Z (cells':=((fr).set a<|wr .i64<|Int.add (yc u.kind) m).map (gZ)) (ei (f:=gZ) (v:=(wr .i64<|Int.add (yc u.kind) m)) oM (by first | omega | rfl))) Z (fun V O=>?_)));refine ae<|aD<|XK 4 Z ?_;refine aJ ⟨j8-1,by have:=aS E;rw[jM] at this;omega,oF,i+1,_,by have:=aS E;rw[jM] at this;omega,by rw[zg_];exact a9,by rw[aa,Om W];unfold uB;rw[A];show jo c _ (fr.set a<|wr .i64<|Int.add (yc u.kind)<|xA fr (fA u a) 0)=_;rw[show xA fr (fA u a) 0=m from by rw[Q,eK<|bI X];rfl],cI<|a6 (by have:=aS E;have:=hM17.cQ;omega),O⟩
 refine Wn 4 Z<|Wl 3 Z<|aQ<|Xb 3 Z ?_;obtain⟨y0,a3⟩:=da (show 0<fr.length from by omega);refine S Z (dP (e:=3) (m:=1) B B Z Z hpos) Z<|S Z (av Z O.g0 B<|gM a3 (by first | omega | rfl)) Z<|Xf 4 Z ?_;exact az Z Z ⟨cJ (by unfold pT;rw[show bT (bD (dJ k c) 0)=false from F];show _=(match eV c with | some out=>_ | none=>_);rw[I];show _=((jo c out<|List.replicate c.ins.length 0)[0]?).getD 0;rw[aa,eK (by have:=bI E;rwa[jM] at this)];show y0=(fr[0]?).getD 0;rw[a3];rfl),O.pop.cF.pop⟩
theorem Au (A:Plain G) (u:sf G K) {k:Nat} {v:Y} (hi:bG K 6 (jA K k) c.ins v) (O:H V K L):
  Ca G K L 61 [.agg [.int .i64 c.bE,v]] V <| .int .i64 (pT k c):=by
 refine XD A Tryz.func61 Z<|Xb 2 Z<|kb O (cL Z Z) (fun V b1 O=>?_);refine Wo 5 Z<|S Z (YE Z O.g0 Z) Z<|kx (Yu Z Z Z) (UH A u hi O) (fun V O=>?_);refine Xf 4 Z ?_;exact az Z Z ⟨Z,O.pop⟩
variable {ev:Operand->Option Y} {P:Program}
theorem SH {s d:TypeId} {l:List Nat} (hk:kindOf P (.convert s d x)= .kg) (u:P.underlying s=some .string) (A:P.underlying d=some (.slice e)) (he:P.underlying e=some (.int .u8)) (hc:Nat.beq (P.cellsOf e) 1=true) (hx:ev x=some (.str l)):
  dM P G ev V (.convert s d x)= .val (.slice V.next 0 (dt l) (.upto 1)) (V.alloc (.row (l.map gS) e true)):=by
 refine jV hk ?_;have hm:AT (fun c=>Y.int .u8 (Int.ofNat c)) l=l.map gS:=lP _ _;simp only[fX,hx,mh,u,A,he,hc,cond_true,hm]
theorem Nq {s:List Nat} {i m c n:Nat} (h:tc (s.drop i) m=some n) (hc:s[i]? =some c):(48<=c/\c<=57)/\tc (s.drop (i+1)) (10*m+(c-48))=some n:=by
 grind [yG,ud]
theorem O6 {s:List Nat} {n:Nat} (h:pE s=some n):0<s.length/\s.length<=4/\tc s 0=some n:=by
 grind [pE]
theorem TC {c m:Nat} (h:48<=c/\c<=57) (hm:m<=100000):wr .i64 (Int.add (wr .i64<|Int.mul (.ofNat m) 10)<|wr .i64<|wr .u8<|Int.sub (.ofNat c) 48)= .ofNat (10*m+(c-48)):=by
 have e1:Int.sub (.ofNat c) 48= .ofNat (c-48):=by grind
 have e2:Int.mul (.ofNat m) 10= .ofNat (10*m):=by grind
 have A:wr .u8 (.ofNat (c-48))= .ofNat (c-48):=by
  show(bif Nat.ble (c-48) 255 then _ else _)=_
  grind [nE_]
 have u:∀q:Nat,q<=9223372036854775807->wr .i64 (.ofNat q)= .ofNat q:=fun q hq=>by
  show(bif Nat.ble q 9223372036854775807 then _ else _)=_
  grind [nE_]
 rw[e1,e2,A,u _ oM,u _ oM];show wr .i64 (.ofNat (10*m+(c-48)))=_;exact u _ oM
theorem TB {c:Nat} (h:48<=c/\c<=57):cW 9 (wr .u8<|Int.sub (.ofNat c) 48)=false:=by
 have e1:Int.sub (.ofNat c) 48= .ofNat (c-48):=by grind
 have w1:wr .u8 (.ofNat (c-48))= .ofNat (c-48):=by
  show(bif Nat.ble (c-48) 255 then _ else _)=_
  grind [nE_]
 grind [eQ]
def qz {α:Type} (f:α->Int) (l:List α) (i:Nat):List Int:=(l.take i).map f++List.replicate (l.length-i) 0
theorem Hf (f:α->Int) (l:List α):qz f l 0=List.replicate l.length 0:=by unfold qz;simp
theorem KW {f:α->Int} {l:List α} {i:Nat} (h:l.length<=i):qz f l i=l.map f:=by unfold qz;rw[tL_ h,show l.length-i=0 by omega];simp
theorem BF {f:α->Int} {l:List α} {i:Nat} (h:i<=l.length):(qz f l i).length=l.length:=by grind [qz]
theorem KX {f:α->Int} {l:List α} {i:Nat} {x:α} (h:l[i]? =some x):(qz f l i).set i (f x)=qz f l (i+1):=by
 have hlt:=(gA.1 h).1;unfold qz;have u:((l.take i).map f).length=i:=by grind
 rw[List.set_append_right _ _ oM,u,Nat.sub_self,show l.length-i=(l.length-(i+1))+1 by omega,List.replicate_succ,List.set_cons_zero,zb_,h,List.map_append];simp
variable {rn:Int} {name:List Nat} {tb:Nat} {regv:Y}
theorem lW (u:Plain G) (b:Bool) (O:H V K L):Ca G K L 180 [.bool b] V <| .int .i64 (rm b):=by
 refine XD u Tryz.func180 Z<|Xa 11 Z<|aG Z (fun h3=>?_) (fun h3=>?_)
 ·refine Xc 7 Z ?_;exact az Z Z ⟨by rw[h3];rfl,O⟩
 refine Xc 8 Z ?_;exact az Z Z ⟨by rw[h3];rfl,O⟩
theorem Ti (A:Plain G) (op a:Int) (O:H V K L):Ca G K L 160 [.int .i64 op,.int .i64 a] V <| .int .i64 (LC op a):=by
 refine XD A Tryz.func160 Z<|Xa 12 Z<|aG Z (fun u=>?_) (fun u=>?_)
 ·refine Xb 3 Z ?_;refine S Z (iC (j:=.i64) (k:=.u64) B B B Z) Z ?_;refine vQ 1 Z ?_;refine S Z (iC (j:=.u64) (k:=.i64) B B B Z) Z ?_;refine Wq 5 Z ?_;exact az Z Z ⟨cJ (by unfold LC;rw[u];rfl),O⟩
 refine Wk 6 Z<|kx (Yu Z Z Z) (lW A _ O) (fun V O=>?_);refine Xf 4 Z ?_;exact az Z Z ⟨cJ (by unfold LC;rw[u];rfl),O⟩
theorem PQ (R:Plain G) (op a b:Int) (O:H V K L):Ca G K L 161 [.int .i64 op,.int .i64 a,.int .i64 b] V <| .int .i64 (pM op a b):=by
 refine XD R Tryz.func161 Z<|Xb 8 Z ?_;refine S Z (iC (j:=.i64) (k:=.u64) B B B Z) Z ?_;refine vQ 1 Z ?_;refine S Z (iC (j:=.i64) (k:=.u64) B B B Z) Z ?_;refine Wn 10 Z<|aK<|Xb 2 Z<|ky Z (aB Z Z Z) (fun u=>?_) (fun u=>?_)
 ·refine Wo 8 Z<|ky Z (an Z) (fun W=>?_) (fun W=>?_)
  ·refine XP 3 Z<|kx (Yu Z Z Z) (lW R _ O) (fun V O=>?_);refine Xf 4 Z<|aI<|aA (?_);exact az Z Z ⟨cJ (by unfold pM;simp only[u,ct,cf];simp only[bT];simp only[W,ct,cf]),O⟩
  refine XP 3 Z<|kx (Yu Z Z Z) (lW R _ O) (fun V O=>?_);refine Xf 4 Z<|aI<|aA (?_);exact az Z Z ⟨cJ (by unfold pM;simp only[u,ct,cf];simp only[bT];simp only[W,ct,cf]),O⟩
 refine Wo 6 Z<|ky Z (aB Z Z Z) (fun A=>?_) (fun A=>?_)
 ·refine Wo 8 Z<|ky Z (an Z) (fun X=>?_) (fun X=>?_)
  ·refine XP 3 Z<|kx (Yu Z Z Z) (lW R _ O) (fun V O=>?_);refine Xf 4 Z<|aI<|aA (?_);exact az Z Z ⟨cJ (by unfold pM;simp only[u,A,ct,cf];simp only[bT];simp only[X,ct,cf]),O⟩
  refine XP 3 Z<|kx (Yu Z Z Z) (lW R _ O) (fun V O=>?_);refine Xf 4 Z<|aI<|aA (?_);exact az Z Z ⟨cJ (by unfold pM;simp only[u,A,ct,cf];simp only[bT];simp only[X,ct,cf]),O⟩
 refine Wo 6 Z<|ky Z (aB Z Z Z) (fun C=>?_) (fun C=>?_)
 ·refine Wo 9 Z<|kx (Yu Z Z Z) (lW R _ O) (fun V O=>?_);refine Xf 4 Z<|aI<|aA (?_);exact az Z Z ⟨cJ (by unfold pM;simp only[u,A,C,ct,cf]<;>rfl),O⟩
 refine Wo 6 Z<|ky Z (aB Z Z Z) (fun E=>?_) (fun E=>?_)
 ·refine Wo 9 Z<|kx (Yu Z Z Z) (lW R _ O) (fun V O=>?_);refine Xf 4 Z<|aI<|aA (?_);exact az Z Z ⟨cJ (by unfold pM;simp only[u,A,C,E,ct,cf]<;>rfl),O⟩
 refine Wo 6 Z<|ky Z (aB Z Z Z) (fun F=>?_) (fun F=>?_)
 ·refine Wo 9 Z<|kx (Yu Z Z Z) (lW R _ O) (fun V O=>?_);refine Xf 4 Z<|aI<|aA (?_);exact az Z Z ⟨cJ (by unfold pM;simp only[u,A,C,E,F,ct,cf]<;>rfl),O⟩
 refine Wo 6 Z<|ky Z (aB Z Z Z) (fun I=>?_) (fun I=>?_)
 ·refine Wo 9 Z<|kx (Yu Z Z Z) (lW R _ O) (fun V O=>?_);refine Xf 4 Z<|aI<|aA (?_);exact az Z Z ⟨cJ (by unfold pM;simp only[u,A,C,E,F,I,ct,cf]<;>rfl),O⟩
 refine Wo 6 Z<|ky Z (aB Z Z Z) (fun M=>?_) (fun M=>?_)
 ·refine Wo 9 Z ?_;refine S Z (iC (j:=.u64) (k:=.i64) B B B Z) Z ?_;refine Xf 4 Z<|aI<|aA (?_);exact az Z Z ⟨cJ (by unfold pM;simp only[u,A,C,E,F,I,M,ct,cf]<;>rfl),O⟩
 refine Wo 6 Z<|ky Z (aB Z Z Z) (fun N=>?_) (fun N=>?_)
 ·refine Wo 9 Z ?_;refine S Z (iC (j:=.u64) (k:=.i64) B B B Z) Z ?_;refine Xf 4 Z<|aI<|aA (?_);exact az Z Z ⟨cJ (by unfold pM;simp only[u,A,C,E,F,I,M,N,ct,cf]<;>rfl),O⟩
 refine Wo 6 Z<|ky Z (aB Z Z Z) (fun Q=>?_) (fun Q=>?_)
 ·refine Wo 9 Z ?_;refine S Z (iC (j:=.u64) (k:=.i64) B B B Z) Z ?_;refine Xf 4 Z<|aI<|aA (?_);exact az Z Z ⟨cJ (by unfold pM;simp only[u,A,C,E,F,I,M,N,Q,ct,cf]<;>rfl),O⟩
 refine Wo 6 Z<|ky Z (aB Z Z Z) (fun T=>?_) (fun T=>?_)
 ·refine Wo 9 Z ?_;refine S Z (iC (j:=.u64) (k:=.i64) B B B Z) Z ?_;refine Xf 4 Z<|aI<|aA (?_);exact az Z Z ⟨cJ (by unfold pM;simp only[u,A,C,E,F,I,M,N,Q,T,ct,cf]<;>rfl),O⟩
 refine Wo 6 Z<|ky Z (aB Z Z Z) (fun aa=>?_) (fun aa=>?_)
 ·refine Wo 9 Z ?_;refine S Z (iC (j:=.u64) (k:=.i64) B B B Z) Z ?_;refine Xf 4 Z<|aI<|aA (?_);exact az Z Z ⟨cJ (by unfold pM;simp only[u,A,C,E,F,I,M,N,Q,T,aa,ct,cf]<;>rfl),O⟩
 refine Wp 6 Z<|Xb 5 Z ?_;refine S Z (iC (j:=.u64) (k:=.i64) B B B Z) Z ?_;refine Xf 4 Z ?_;exact az Z Z ⟨cJ (by unfold pM;simp only[u,A,C,E,F,I,M,N,Q,T,aa,ct,cf]<;>rfl),O⟩
theorem Xv (hG:Plain G) {l:List Int} {v:Y} (hl:bG K 1 dB l v) (op:Int) (O:H V K L):Ca G K L 140 [.int .i64 op,v] V <| .tuple [.int .i64 (te op l).1,.int .i64 (te op l).2]:=by
 refine XD hG Tryz.func140 Z<|Xa 7 Z<|aK<|Xb 4 Z<|ky Z (an Z) (fun W=>?_) (fun W=>?_)
 ·refine XP 5 Z<|S Z (Yx hl Z Z Z (e:=2) Z) Z<|Xd 5 Z<|aG Z (fun X=>?_) (fun X=>?_)
  ·refine Xb 4 Z ?_;obtain⟨ax,M⟩:=da (show 0<l.length from by have:=iJ_ (eqv (b:=.ofNat 1) X);omega);refine Yp (e:=2) (m:=1) hl M Z Z Z Z (fun a4 aE aa a0 ab=>?_);obtain rfl:=ab;refine S Z (Yz O aa Z Z) Z<|kx (Yu Z Z Z) (Ti hG _ _ O) (fun V O=>?_);refine Xf 5 Z<|aI<|aA (?_);exact db Z Z Z ⟨by rw[show te op l=(LC op ax,0) from by unfold te;simp only[bT];simp only[W,X,ct];rw[M]<;>rfl],O⟩
  refine Xb 4 Z<|ky Z (an Z) (fun u=>?_) (fun u=>?_)
  ·refine XP 3 Z<|ky Z (an Z) (fun A=>?_) (fun A=>?_)
   ·refine vQ 1 Z<|S Z (Yx hl Z Z Z (e:=2) Z) Z<|Xd 5 Z<|aG Z (fun C=>?_) (fun C=>?_)
    ·refine ai<|aU (l:=zp [0,1,2,3,4,5,6,7,8,9]) B B<|XQ 2 Z ?_;have a1:l.length=2:=iJ_ (eqv (b:=.ofNat 2) C);obtain⟨ac,E⟩:=da (show 0<l.length from by omega);obtain⟨am,F⟩:=da (show 1<l.length from by omega);refine Yq (e:=2) (m:=1) hl E Z Z Z Z Z (fun a2 ao N ap Q=>?_);obtain rfl:=Q;refine ah Z Z (Yz O N Z Z) Z<|wQ 1 Z<|Yq (e:=2) (m:=1) hl F Z Z Z Z Z (fun a3 aq R ar T=>?_);obtain rfl:=T;refine ah Z Z (Yz O R Z Z) Z<|dO Z Z (Yu Z Z Z) (fun _=>Z) (PQ hG _ _ _ O) (fun V O=>?_);refine⟨aY,?_⟩;refine Xh 5 Z<|aI<|aA (?_);exact db Z Z Z ⟨by rw[show te op l=(pM op ac am,0) from by unfold te;simp only[bT];simp only[W,X,u,A,C,ct,cf];rw[E,F]<;>rfl],O⟩
    refine aH<|aD<|XN 7 Z ?_;exact db Z Z Z ⟨by rw[show te op l=(0,2) from by unfold te;simp only[bT];simp only[W,X,u,A,C,ct,cf]]<;>rfl,O⟩
   refine Wp 10 Z<|XN 7 Z ?_;exact db Z Z Z ⟨by rw[show te op l=(0,2) from by unfold te;simp only[bT];simp only[W,X,u,A,ct,cf]]<;>rfl,O⟩
  refine Wp 14 Z<|XN 7 Z ?_;exact db Z Z Z ⟨by rw[show te op l=(0,2) from by unfold te;simp only[bT];simp only[W,X,u,ct,cf]]<;>rfl,O⟩
 refine XP 3 Z<|ky Z (an Z) (fun I=>?_) (fun I=>?_)
 ·refine vQ 1 Z<|S Z (Yx hl Z Z Z (e:=2) Z) Z<|Xd 5 Z<|aG Z (fun X=>?_) (fun X=>?_)
  ·refine Xb 4 Z ?_;obtain⟨ax,M⟩:=da (show 0<l.length from by have:=iJ_ (eqv (b:=.ofNat 1) X);omega);refine Yp (e:=2) (m:=1) hl M Z Z Z Z (fun a4 aE aa a0 ab=>?_);obtain rfl:=ab;refine S Z (Yz O aa Z Z) Z<|kx (Yu Z Z Z) (Ti hG _ _ O) (fun V O=>?_);refine Xf 5 Z<|aI<|aA (?_);exact db Z Z Z ⟨by rw[show te op l=(LC op ax,0) from by unfold te;simp only[bT];simp only[W,I,X,ct];rw[M]<;>rfl],O⟩
  refine Xb 4 Z<|ky Z (an Z) (fun u=>?_) (fun u=>?_)
  ·refine XP 3 Z<|ky Z (an Z) (fun A=>?_) (fun A=>?_)
   ·refine vQ 1 Z<|S Z (Yx hl Z Z Z (e:=2) Z) Z<|Xd 5 Z<|aG Z (fun C=>?_) (fun C=>?_)
    ·refine ai<|aU (l:=zp [0,1,2,3,4,5,6,7,8,9]) B B<|XQ 2 Z ?_;have a1:l.length=2:=iJ_ (eqv (b:=.ofNat 2) C);obtain⟨ac,E⟩:=da (show 0<l.length from by omega);obtain⟨am,F⟩:=da (show 1<l.length from by omega);refine Yq (e:=2) (m:=1) hl E Z Z Z Z Z (fun a2 ao N ap Q=>?_);obtain rfl:=Q;refine ah Z Z (Yz O N Z Z) Z<|wQ 1 Z<|Yq (e:=2) (m:=1) hl F Z Z Z Z Z (fun a3 aq R ar T=>?_);obtain rfl:=T;refine ah Z Z (Yz O R Z Z) Z<|dO Z Z (Yu Z Z Z) (fun _=>Z) (PQ hG _ _ _ O) (fun V O=>?_);refine⟨aY,?_⟩;refine Xh 5 Z<|aI<|aA (?_);exact db Z Z Z ⟨by rw[show te op l=(pM op ac am,0) from by unfold te;simp only[bT];simp only[W,I,X,u,A,C,ct,cf];rw[E,F]<;>rfl],O⟩
    refine aH<|aD<|XN 7 Z ?_;exact db Z Z Z ⟨by rw[show te op l=(0,2) from by unfold te;simp only[bT];simp only[W,I,X,u,A,C,ct,cf]]<;>rfl,O⟩
   refine Wp 10 Z<|XN 7 Z ?_;exact db Z Z Z ⟨by rw[show te op l=(0,2) from by unfold te;simp only[bT];simp only[W,I,X,u,A,ct,cf]]<;>rfl,O⟩
  refine Wp 14 Z<|XN 7 Z ?_;exact db Z Z Z ⟨by rw[show te op l=(0,2) from by unfold te;simp only[bT];simp only[W,I,X,u,ct,cf]]<;>rfl,O⟩
 refine Wo 12 Z<|ky Z (an Z) (fun u=>?_) (fun u=>?_)
 ·refine XP 3 Z<|ky Z (an Z) (fun A=>?_) (fun A=>?_)
  ·refine vQ 1 Z<|S Z (Yx hl Z Z Z (e:=2) Z) Z<|Xd 5 Z<|aG Z (fun C=>?_) (fun C=>?_)
   ·refine ai<|aU (l:=zp [0,1,2,3,4,5,6,7,8,9]) B B<|XQ 2 Z ?_;have a1:l.length=2:=iJ_ (eqv (b:=.ofNat 2) C);obtain⟨ac,E⟩:=da (show 0<l.length from by omega);obtain⟨am,F⟩:=da (show 1<l.length from by omega);refine Yq (e:=2) (m:=1) hl E Z Z Z Z Z (fun a2 ao N ap Q=>?_);obtain rfl:=Q;refine ah Z Z (Yz O N Z Z) Z<|wQ 1 Z<|Yq (e:=2) (m:=1) hl F Z Z Z Z Z (fun a3 aq R ar T=>?_);obtain rfl:=T;refine ah Z Z (Yz O R Z Z) Z<|dO Z Z (Yu Z Z Z) (fun _=>Z) (PQ hG _ _ _ O) (fun V O=>?_);refine⟨aY,?_⟩;refine Xh 5 Z<|aI<|aA (?_);exact db Z Z Z ⟨by rw[show te op l=(pM op ac am,0) from by unfold te;simp only[bT];simp only[W,I,u,A,C,ct,cf];rw[E,F]<;>rfl],O⟩
   refine aH<|aD<|XN 7 Z ?_;exact db Z Z Z ⟨by rw[show te op l=(0,2) from by unfold te;simp only[bT];simp only[W,I,u,A,C,ct,cf]]<;>rfl,O⟩
  refine Wp 10 Z<|XN 7 Z ?_;exact db Z Z Z ⟨by rw[show te op l=(0,2) from by unfold te;simp only[bT];simp only[W,I,u,A,ct,cf]]<;>rfl,O⟩
 refine Wp 14 Z<|XN 7 Z ?_;exact db Z Z Z ⟨by rw[show te op l=(0,2) from by unfold te;simp only[bT];simp only[W,I,u,ct,cf]]<;>rfl,O⟩
theorem UF (hG:Plain G) {s:List Nat} {n:Nat} (hs:pE s=some n) (O:H V K L):Ca G K L 158 [.str s] V <| .tuple [nI n,.nilIface]:=by
 obtain⟨W,ao,C⟩:=O6 hs;have ap:dt s=s.length:=cC s;obtain⟨c0,A⟩:=da W;have hd0:=(Nq (i:=0) C A).1;refine XD hG Tryz.func158 Z<|Xb 9 Z<|S Z (mW Z Z Z B Z) Z<|VE 18 Z<|ky Z (an Z) (fun F=>?_) (fun F=>?_)
 ·refine Xd 7 Z<|aG Z (fun I=>?_) (fun I=>?_)
  ·refine Wi 10 Z<|S Z (kU B Z Z A) Z<|vQ 1 Z<|ky Z (an Z) (fun M=>?_) (fun M=>?_)
   ·exact absurd (iJ_<|eqv (b:=.ofNat 45) M) oM
   refine vQ 1 Z<|S Z (kU B Z Z A) Z<|Xd 4 Z<|aG Z (fun N=>?_) (fun N=>?_)
   ·exact absurd (iJ_<|eqv (b:=.ofNat 43) N) oM
   refine VD 11 Z<|T0 O Z (SH (e:=5) B B B B B Z) (fun _=>Z) (fun V b1 O=>?_);refine S Z (CI Z Z Z (e:=5) B Z) Z<|Wm 4 Z ?_;obtain⟨LL1,O,hLL1⟩:=O.named;refine bq ([2,3,6,8]++rg 49 15) (fun j t V=>∃(i m:Nat),j+i=dt s/\tc (s.drop i) m=some n/\m<10 ^ i/\i<=4/\t.get 6=some (nI m)/\t.get 49=some (nI i)/\H V K LL1) (dt s) ⟨0,0,Z,C,Nat.one_pos,Nat.zero_le _,Z,Z,O⟩ ?_;clear O;intro X t V ar hI;obtain⟨i,m,hj,he,hm,aa,ab,Q,O⟩:=hI;subst hLL1;obtain⟨oo,rfl⟩:=ar.q2 ab Q Z;refine Xa 6 Z<|aG Z (fun u=>?_) (fun u=>?_)
   ·refine UY 6 Z ?_;obtain⟨ac,E⟩:=da (show i<s.length from by have:=aS u;omega);obtain⟨hd,am⟩:=Nq he E;refine S Z (dP (e:=5) (m:=1) B B Z Z<|aS u) Z<|S Z (av Z O.g0 B<|gM E (by first | omega | rfl)) Z<|Wn 17 Z<|aG Z (fun R=>?_) (fun R=>?_)
    ·exact absurd (R.symm.trans<|TB hd) (by decide)
    refine aH<|XL 4 Z ?_;refine S Z (iC (j:=.u8) (k:=.i64) B B B Z) Z ?_;refine XO 3 Z (aD (XK 4 Z (aJ ⟨X-1,by have:=aS u;omega,oF,i+1,10*m+(ac-48),by have:=aS u;omega,am,by rw[Nat.pow_succ];omega,by have:=aS u;omega,cI<|TC hd (by have:=HZ i aa;omega),cI<|a6 oM,O⟩)))
   refine Wl 3 Z<|aQ<|Wi 4 Z<|S Z (kU B Z Z A) Z<|Xd 3 Z<|aG Z (fun T=>?_) (fun T=>?_)
   ·exact absurd (iJ_<|eqv (b:=.ofNat 45) T) oM
   refine Xc 10 Z<|aA (?_);exact db Z Z Z ⟨by rw[show m=n from by rw[yF (by have:=bI u;omega)] at he;exact zs_ he],O.pop⟩
  exact absurd (bI (b:=19) I) oM
 exact absurd (bI (a:=0) F) oM
theorem UD (u:Plain G) {s:List Nat} {n:Nat} (A:pE s=some n) (O:H V K L):Ca G K L 139 [.str s] V <| .tuple [nI n,.nilIface]:=by
 refine XD u Tryz.func139 Z<|Xb 9 Z<|kx (Yu Z Z Z) (UF u A O) (fun V O=>?_);refine VE 11 Z ?_;refine S Z (bK (v:=.bool false) Z B) Z ?_;refine Wq 13 Z ?_;exact db Z Z Z ⟨Z,O⟩
theorem FO {bE:Int} {k:Nat} {op num:Int} {kids:List XE} (h:gH bE (k+1) (.mk op num name kids)=true) (h1:bD op 1=false) (A:bD op 2=false):kids.length<=2/\∀x∈kids,gH bE k x=true:=by
 unfold gH at h;rw[h1,A] at h;simp only[cf] at h;generalize aa:(bif (bif bD op 3 then true else bD op 4) then false else(bif cW op 5 then true else cW 16 op))=C at h;cases C with
 | true=>cases h
 | false=>
  simp only[cf] at h;generalize u:(bif bT (bD num 0) then true else bif bT (wL name []) then true else bT (bD (.ofNat kids.length)<|fT op))=E at h;cases E with
  | true=>cases h
  | false=>
   simp only[cf] at h;refine⟨?_,aE_.1 h⟩;cases e1:bT (bD num 0) with
   | true=>rw[e1] at u;cases u
   | false=>
   cases e2:bT (wL name []) with
   | true=>rw[e1,e2] at u;cases u
   | false=>
   rw[e1,e2] at u;have h3:(kids.length:Int)=fT op:=eqv (dg u);have h4:fT op<=2:=by unfold fT;generalize (bif bD op 3 then true else bD op 4)=q;cases q<;>decide
   omega
theorem H6 {bE:Int} {k:Nat} {op num:Int} {kids:List XE} (h:gH bE (k+1) (.mk op num name kids)=true) (h1:bD op 1=false) (A:bD op 2=true):∃n,pE name=some n/\(n:Int)<bE:=by
 unfold gH at h;rw[h1,A] at h;simp only[cf,ct] at h;cases u:pE name with
 | none=>rw[u] at h;cases h
 | some n=>
  rw[u] at h;dsimp only at h;refine⟨n,Z,?_⟩;cases hl:cW (.ofNat n) bE with
  | false=>rw[hl] at h;cases h
  | true=>rw[eQ,decide_eq_true_iff] at hl;exact hl
theorem DX (hG:Plain G) {bE:List Int} (a2:rn<=bE.length) (R:bG K 1 dB bE regv) {et:Nat} {ro:Bool} {c0 c1 c2 c4 c5 c6 c7:Y} (ht:K tb (.row [c0,c1,c2,regv,c4,c5,c6,c7] et ro)):
  ∀(k:Nat) (x:XE) (vs:List Y),kV K k x vs->gH rn k x=true->∀(V:D) (L:Own),H V K L->Ca G K L 109 [.ptr tb 0,.agg vs] V (.int .i64<|ou bE k x):=by
 intro k;induction k with
 | zero=>intro x vs h;cases x;exact h.elim
 | succ k ih=>
 intro x vs h hr V L O;obtain⟨op,num,name,kids⟩:=x;obtain⟨v,rfl,hk⟩:=h;have hS:ou bE (k+1) (.mk op num name kids)=bif bD op 1 then num else bif bD op 2 then(bE[(pE name).getD 0]?).getD 0 else XB op (kids.map<|ou bE k):=rfl;rw[hS];clear hS;obtain⟨F,hF⟩:∃F:XE->Int,F=ou bE k:=⟨_,Z⟩;rw[<-hF];refine XD hG Tryz.func109 Z<|Xb 2 Z<|kb O (cL Z Z) (fun V b1 O=>?_);refine VF O 8 [0,0] Z Z<|Wm 3 Z<|Xb 2 Z<|ky Z (aB Z Z Z) (fun A=>?_) (fun A=>?_)
 ·refine Xi O 12 [1,0] Z Z<|aI<|aA (?_);exact az Z Z ⟨cJ (by rw[A];rfl),O.pop⟩
 refine Wo 6 Z<|ky Z (aB Z Z Z) (fun C=>?_) (fun C=>?_)
 ·refine Wu O 8 [2,0] Z Z ?_;obtain⟨rg,T,ap⟩:=H6 hr A C;refine kx (Yu Z Z Z) (UD hG T O) (fun V O=>?_);refine Wo 10 Z<|S Z (cV Z) Z<|S Z (Yv 3 Z) Z<|S Z (Yw Z (O.bJ ht) Z) Z<|vQ 1 Z ?_;obtain⟨am,N⟩:=da (show rg<bE.length from by omega);refine Yp (e:=2) (m:=1) R N Z Z Z Z (fun a3 aq W ax X=>?_);obtain rfl:=X;refine S Z (Yz O W Z Z) Z<|Xf 4 Z<|aI<|aA (?_);exact az Z Z ⟨cJ (by rw[A,C,T];show am=(bE[rg]?).getD 0;rw[N];rfl),O.pop⟩
 refine Wp 6 Z<|Xb 2 Z<|XS O 2 [3,0] Z Z<|S Z (Yx hk Z Z Z (e:=75) Z) Z ?_;obtain⟨a4,ao⟩:=FO hr A C;refine gE O Z (gT (e:=2) (w:=8) (z:=[gZ 0]) B B B B Z Z oM oM) (fun _=>Z) (fun V b2 O=>?_);rw[gp (f:=gZ)] at O;rw[<-Hf F kids] at O;refine VF O 8 [3,1] Z Z (S Z (Yx hk Z Z Z (e:=75) Z) Z (Wm 4 Z (bq ([8,9]++rg 40 12) (fun j t V=>∃(i:Nat),j+i=kids.length/\t.get 40=some (nI i)/\H V K ((b2,.row ((qz F kids i).map gZ) 2 false)::(b1,.row [.int .i64 op,.int .i64 num,.str name,v] 75 false)::L)) (kids.length) ⟨0,Z,Z,O⟩ ?_)));clear O;intro j9 t V ar hI;obtain⟨i,a5,aa,O⟩:=hI;obtain⟨oo,rfl⟩:=ar.q1 aa Z;refine Xb 2 Z<|ky Z (aB Z Z Z) (fun u=>?_) (fun u=>?_)
 ·refine Wn 7 Z<|aK<|Xb 3 Z ?_;obtain⟨E,I,aE⟩:=dh u;refine Yp (e:=75) (m:=4) hk I Z Z Z Z (fun a9 a0 ab a1 Q=>?_);have hr43raw:=Q;obtain⟨ba,bb,bc,bd,rfl,ac⟩:=Q.shape;refine S Z (YA O ab Z Z) Z<|kb O (cA (cs:=[iZ,iZ,.str [],.aw]) B B) (fun V b3 O=>?_);refine vQ 1 Z<|bO O Z (UM Z Z Z O.g0 (m:=4) Z (aj Z<|aj Z<|aj Z<|aj ac.leaf.2 aC) (cells':=[_,_,_,_]) Z) Z (fun V O=>?_);refine Xe 6 Z<|S Z (YF Z O.g0 Z) Z<|kx (Yu Z Z Z) (ih E _ hr43raw (ao E<|gB_ I) _ _ O) (fun V O=>?_);refine S Z (dP (e:=2) (m:=1) B B Z Z<|aS u) Z ?_;refine fM O (.there .here) Z (aL Z Z (show _=some [gZ<|F E] from by rw[hF];rfl) O.g1 (m:=1) B Z (by rw[lM_];rw[BF (by have:=aS u;omega)];have:=aS u;omega) Z (cells':=((qz F kids i).set i<|F E).map (gZ)) (ei (f:=gZ) (v:=(F E)) (by rw[BF (by have:=aS u;omega)];exact aS u) (by first | omega | rfl))) Z (fun V O=>?_);rw[KX I] at O;refine ae<|aD<|XK 4 Z ?_;have O:=O.pop;refine aJ ⟨j9-1,by omega,oF,i+1,by omega,cI<|a6 (by have:=hk.cQ;omega),O⟩
 refine Wn 4 Z<|Wl 3 Z<|aQ<|Xb 2 Z<|XS O 3 [0,1] Z Z ?_;rw[KW<|bI u] at O;have hq:=O.keeps (M:=[_]);refine bk Z (aP Z Z (show _=some [Y.int .i64 op,Y.slice b2 0 (kids.map F).length (.known (kids.map F).length)] from by rw[lM_];rfl) B) (fun _=>Z) (mi<|Xv hG (eA (xs:=kids.map F) (KP.cu 0 Z) (by rw[lM_];omega)) op hq) (fun V O=>?_);clear hq;refine Xf 14 Z ?_;exact az Z Z ⟨cJ (by rw[A,C];rfl),O.pop⟩
variable {M:Own}
theorem kV.mono {K K':KP} (hk:KP.le K K'):∀{k:Nat} {x:XE} {vs:List Y},kV K k x vs->kV K' k x vs
 | 0,x,_,h=>by cases x;exact h.elim
 | k+1,.mk _ _ _ _,_,⟨v,h1,u⟩=>⟨v,h1,u.mono hk fun _ _ h=>kV.mono hk h⟩
theorem jA.mono {K K':KP} (hk:KP.le K K') {k:Nat} {x:XI} {vs:List Y} (h:jA K k x vs):jA K' k x vs:=let ⟨v,h1,u⟩:=h;⟨v,h1,u.mono hk fun _ _ h=>h.mono hk⟩
theorem sg.mono {K K':KP} (hk:KP.le K K') {k:Nat} {x:XC} {vs:List Y} (h:sg K k x vs):sg K' k x vs:=let ⟨v,h1,u⟩:=h;⟨v,h1,u.mono hk fun _ _ h=>h.mono hk⟩
theorem GU {K':KP} (hk:KP.le K K') {k:Nat} {l:List XI} {v:Y} (h:bG K 6 (jA K k) l v):bG K' 6 (jA K' k) l v:=h.mono hk fun _ _ h=>h.mono hk
theorem kz {K':KP} (hk:KP.le K K') {k:Nat} {l:List XE} {v:Y} (h:bG K 4 (kV K k) l v):bG K' 4 (kV K' k) l v:=h.mono hk fun _ _ h=>h.mono hk
theorem lZ {f:Nat} {args:List Y} {u:Y} (h0:H V K (M++L)) (h:aW P G f args V fun v V'=>v=u/\H V' (K.gw M) L):aW P G f args V fun v V'=>v=u/\H V' K (M++L):=
 h.mono fun _ _ ⟨a,b⟩=>⟨a,h0.Sj b⟩
theorem qf (b o:Nat):dV (.ptr b o) (.ptr b o)=true:=by
 unfold dV;show(dV.beqP b b && Nat.beq o o)=true
 grind [dV.beqP,Nat.beq_refl]
abbrev J4 (c:XC) (cv:Y) (s:TS) (rb:Nat) (ev:Y):List Y:=[.int .i64 c.bE,cv,.int .i64 (.ofNat s.at_),.slice rb 0 s.bE.length (.known s.bE.length),ev,.int .i64 (.ofNat s.asked),.int .i64 s.fin,.bool s.asks]
theorem uq {bE:Int} {k n:Nat} {x:XI} (h:iB bE nins k x=true) (hn:x.kind= .ofNat n) (h1:n=1∨n=3∨n=4∨n=5∨n=6∨n=8∨n=9∨n=11):∃e,x.exprs[0]? =some e/\gH bE k e=true:=by
 obtain⟨m,sh,hm,_,_,u,hr⟩:=js h;have hr:=kH hr;have:m=n:=iJ_ (hm.symm.trans hn);subst this
 have hl:0<x.exprs.length:=by
  rw[hr.exprs];rcases h1 with h1 | h1 | h1 | h1 | h1 | h1 | h1 | h1<;>subst h1<;>cases u<;>decide
 exact⟨x.exprs[0],gC hl,hr.all _<|List.getElem_mem hl⟩
theorem O7 {bE:Int} {k n:Nat} {x:XI} (h:iB bE nins k x=true) (hn:x.kind= .ofNat n) (h1:n=1∨n=2∨n=4∨n=5∨n=6):∃r:Nat,x.z6= .ofNat r/\(r:Int)<bE:=by
 obtain⟨m,sh,hm,_,_,u,hr⟩:=js h;have hr:=kH hr;have:m=n:=iJ_ (hm.symm.trans hn);subst this
 have A:sh.z6=true:=by
  rcases h1 with h1 | h1 | h1 | h1 | h1<;>subst h1<;>cases u<;>rfl
 have:=hr.z6;rw[A] at this;obtain⟨w1,w2⟩:=nA this;exact⟨x.z6.toNat,by grind,by omega⟩
theorem Td {bE:Int} {m k n:Nat} {x:XI} (h:iB bE (.ofNat m) k x=true) (hn:x.kind= .ofNat n) (h1:n=10∨n=11):∃r:Nat,x.to= .ofNat r/\r<m:=by
 obtain⟨q,sh,hm,_,_,u,hr⟩:=js h;have hr:=kH hr;have:q=n:=iJ_ (hm.symm.trans hn);subst this;have C:sh.to=true:=by rcases h1 with h1 | h1<;>subst h1<;>cases u<;>rfl
 have:=hr.to;rw[C] at this;obtain⟨w1,A⟩:=nA this;have A:x.to<(m:Int):=A;exact⟨x.to.toNat,by grind,by omega⟩
theorem fw {k i:Nat} {bE:List Int} {x:XI} {e:XE} (h:x.exprs[i]? =some e):jH k bE x i=ou bE k e:=by unfold jH;rw[h];rfl
theorem uo {k i:Nat} {bE:List Int} {x:XI} (h:x.exprs.length<=i):jH k bE x i=0:=by unfold jH;simp_all
theorem cG {P:α->Prop} {a b:α} (c:Bool) (h1:P a) (h0:P b):P (bif c then a else b):=by grind
theorem fg {P:α->Prop} {a b:α} (c:Bool) (h1:c=true->P a) (h0:c=false->P b):P (bif c then a else b):=by grind
theorem tI (a b:List bW):jg (a++b)=jg a++jg b:=by unfold jg;simp_all
theorem LQ {e:bW} (h:dq e=false):jg [e]= []:=by unfold jg;simp_all
theorem H3 {e:bW} (h:dq e=true):jg [e]= [e.read]:=by unfold jg;simp_all
def Grown (s s':TS):Prop:=(∃ext,s'.events=s.events++ext/\jg ext= [])/\s'.asked=s.asked
theorem Grown.refl (s:TS):Grown s s:=⟨⟨[],by simp,Z⟩,Z⟩
theorem Grown.trans {s s' s'':TS} (h:Grown s s') (h':Grown s' s''):Grown s s'':=by
 obtain⟨⟨x,h1,u⟩,h3⟩:=h;obtain⟨⟨y,k1,A⟩,C⟩:=h';exact⟨⟨x++y,by simp_all,by rw[tI,u,A];rfl⟩,by rw[C,h3]⟩
theorem F5 (k:Nat) (x:XI) (s:TS):Grown s (gk k x s).1:=by
 obtain⟨P,A⟩:∃P:TS×Bool->Prop,P=fun r=>Grown s r.1:=⟨_,Z⟩
 have h0:∀(r:TS×Bool),r.1.events=s.events->r.1.asked=s.asked->P r:=fun r h1 u=>by rw[A];exact⟨⟨[],by rw[h1];simp,Z⟩,u⟩
 have hw:∀(r:TS×Bool) (e:bW),dq e=false->r.1.events=s.events++[e]->r.1.asked=s.asked->P r:=fun r e h1 u h3=>by rw[A];exact⟨⟨[e],u,LQ h1⟩,h3⟩
 have:P (gk k x s):=by
  unfold gk;refine cG _ (h0 _ Z Z)<|cG _ (hw _ _ Z Z Z)<|cG _ (hw _ _ Z Z Z)<|cG _ (cG _ (h0 _ Z Z)<|h0 _ Z Z)<|cG _ (cG _ (h0 _ Z Z)<|h0 _ Z Z)<|cG _ (h0 _ Z Z)<|cG _ (cG _ (h0 _ Z Z)<|h0 _ Z Z)<|cG _ (h0 _ Z Z)<|cG _ (h0 _ Z Z)<|h0 _ Z Z
 simp_all
theorem xd (k:Nat) (c:XC) (s:TS):Grown s (cK k c s).1:=by
 grind [cK,Grown.refl,F5]
theorem rM (k:Nat) (c:XC):∀(f:Nat) (s:TS),Grown s (vo k c f s)
 | 0,s=>Grown.refl s
 | f+1,s=>by
  show Grown s (bif (cK k c s).2 then vo k c f (cK k c s).1 else(cK k c s).1);exact cG (P:=Grown s) _ ((xd k c s).trans<|rM k c f _)<|xd k c s
def iI (c:XC) (s:TS):Prop:=s.asks=true->∃x,c.ins[s.at_]? =some x/\(x.kind=2∨x.kind=4∨x.kind=5∨x.kind=6)
theorem Im {k:Nat} {x:XI} {s:TS} {bE:Int} (hx:iB bE nins k x=true) (hs:s.asks=false):(gk k x s).1.asks=true->(gk k x s).1.at_=s.at_/\(x.kind=2∨x.kind=4∨x.kind=5∨x.kind=6)/\(gk k x s).2=false:=by
 obtain⟨n,sh,hn,n1,aa,_,_⟩:=js hx;obtain⟨P,hP⟩:∃P:TS×Bool->Prop,P=fun r=>r.1.asks=true->r.1.at_=s.at_/\(x.kind=2∨x.kind=4∨x.kind=5∨x.kind=6)/\r.2=false:=⟨_,Z⟩
 have ab:∀r:TS×Bool,r.1.asks=s.asks->P r:=fun r h1=>by simp_all
 have ne:∀m:Int,bD x.kind m=false->x.kind≠m:=fun m h e=>by rw[e,kY] at h;cases h
 have:P (gk k x s):=by
  unfold gk
  grind
 simp_all
theorem Cr {k:Nat} (hc:eO k c) {s:TS} (u:s.asks=false):iI c (cK k c s).1/\((cK k c s).2=true->(cK k c s).1.asks=false):=by
 unfold cK;cases hx:c.ins[s.at_]? with
 | none=>exact⟨fun h=>(by simp_all),fun h=>(by cases h)⟩
 | some x=>
  have h:=Im (k:=k) (hc.right x (gB_ hx)) u;refine⟨fun ha=>?_,fun h2=>?_⟩
  ·simp_all
  simp_all
theorem Di {k:Nat} {c:XC} (hc:eO k c):∀(f:Nat) (s:TS),s.asks=false->iI c (vo k c f s)
 | 0,s,u=>fun h=>by rw[show s.asks=true from h] at u;cases u
 | f+1,s,u=>by
  have h:=Cr hc u;show iI c (bif (cK k c s).2 then vo k c f (cK k c s).1 else(cK k c s).1);cases A:(cK k c s).2 with
  | true=>exact Di hc f _ (h.2 A)
  | false=>exact h.1
theorem pg {k:Nat} (hc:eO k c):iI c (jE k c):=Di hc _ _ Z
theorem qa {k:Nat} (hc:eO k c) (s:TS) (v:Int):iI c (fo k c s v):=Di hc _ _ Z
theorem AJ {a:AI} {v:Int} (h:a.kind=2∨a.kind=4∨a.kind=5∨a.kind=6):dq (fm a v)=true/\(fm a v).read=v:=by
 unfold fm;rcases h with h | h | h | h<;>rw[h]
 ·exact⟨Z,Z⟩
 ·exact cG (P:=fun e:bW=>dq e=true/\e.read=v) (bD v a.a) ⟨Z,Z⟩ ⟨Z,Z⟩
 ·exact⟨Z,Z⟩
 exact⟨Z,Z⟩
theorem Ki {k:Nat} {s:TS} (h:iI c s) (u:s.asks=true):((pU k c s).kind=2∨(pU k c s).kind=4∨(pU k c s).kind=5∨(pU k c s).kind=6):=by
 obtain⟨x,hx,hk⟩:=h u;unfold pU;rw[hx];exact hk
theorem AK {k:Nat} {s:TS} (h:iI c s) (u:s.asks=true) (v:Int):∃ext,(fo k c s v).events=s.events++fm (pU k c s) v::ext/\jg (fm (pU k c s) v::ext)= [v]:=by
 obtain⟨⟨ext,h1,A⟩,_⟩:=rM k c (iL c) (eJ k c s v);obtain⟨C,E⟩:=AJ (v:=v) (Ki (k:=k) h u);refine⟨ext,?_,?_⟩
 ·unfold fo;rw[h1];show(s.events++[_])++ext=_
  simp_all
 rw[show fm (pU k c s) v::ext= [fm (pU k c s) v]++ext from Z,tI,H3 C,A,E];rfl
theorem tK {k:Nat} {c:XC} (hc:eO k c):∀(A:List Int) (s:TS),iI c s->iI c (nP k c A s)/\∃ext m,(nP k c A s).events=s.events++ext/\jg ext=A.take m/\((nP k c A s).asks=true->A.length<=m)
 | [],s,h=>⟨h,[],0,by show s.events=_;simp,Z,fun _=>nR_ _⟩
 | v::r,s,h=>by
  show iI c (bif s.asks then nP k c r (fo k c s v) else s)/\∃ext m,(bif s.asks then nP k c r (fo k c s v) else s).events=s.events++ext/\jg ext=(v::r).take m/\((bif s.asks then nP k c r (fo k c s v) else s).asks=true->(v::r).length<=m);cases u:s.asks with
  | false=>exact⟨h,[],0,by simp_all,Z,fun h'=>by simp_all⟩
  | true=>
   obtain⟨e1,h1,C⟩:=AK (k:=k) h u v;obtain⟨q,ext,m,h3,E,h5⟩:=tK hc r _ (qa hc s v);refine⟨q,fm (pU k c s) v::e1++ext,m+1,?_,?_,fun h'=>?_⟩
   ·simp_all
   ·rw[tI,C,E];rfl
   simp_all
def SO (k:Nat) (c:XC) (l:List bW):Prop:=kZ k c=true/\SS (eM k c<|jg l) l=true
theorem H.bZ (h:H V K (M++L)):∃u,KP.le K u/\(∀e∈M,u e.1 e.2)/\H V u L:=⟨K.gw M,KP.cR _ _,fun e he=>.inr he,h.keeps⟩
theorem I7 {nx:Nat->List Nat} {n:Nat} (u:∀i,i<n->∀to∈nx i,to<n):∀{f:Nat} {s:DS} {out:List Nat},UR nx n s->C7 nx f s=some out->out.length<=s.out.length+jn nx n s
 | 0,_,_,_,h=>by cases h
 | f+1,s,out,hw,h=>by
  unfold C7 at h;cases hl:s.path.getLast? with
  | none=>
   simp_all
  | some a=>
   rw[hl] at h;dsimp only at h;cases A:my nx s a with
   | none=>rw[A] at h;cases h
   | some s'=>
    rw[A] at h;obtain⟨h1,_,h3⟩:=qu hw u hl A;have:=I7 u h1 h;omega
theorem rS {k:Nat} (hc:eO k c) {out:List Nat} (h:eV c=some out):out.length<=16001:=by
 have:=I7 (uC hc) (C9 hc.pos) (show C7 _ _ _=some out from h);rw[Oc] at this;have h1:(EM c.ins.length).out.length=0:=rfl;have h2:=Ga (c:=c);have h3:=hc.len;omega
theorem pL {k:Nat} {s:TS} {x:XI} (hx:c.ins[s.at_]? =some x) (h:(cK k c s).2=true):(cK k c s).1.at_∈du c s.at_:=by
 obtain⟨P,C⟩:∃P:TS×Bool->Prop,P=fun r=>r.2=true->r.1.at_∈du c s.at_:=⟨_,Z⟩
 have E:du c s.at_=(fA x s.at_).map Int.toNat:=by unfold du;rw[hx]
 have A:∀r:TS×Bool,r.2=false->P r:=fun r h1=>by simp_all
 have u:(bD x.kind 10=false)->(bD x.kind 12=false)->(bD x.kind 13=false)->∀r:TS×Bool,r.1.at_=s.at_+1->P r:=fun h0 h2 h3 r h1=>by
  grind [fA]
 have ne:∀(a b:Int),bD x.kind a=true->a≠b->bD x.kind b=false:=fun a b h h'=>by
  rw[dS,decide_eq_true_iff] at h;rw[dS,decide_eq_false_iff_not,h];exact h'
 have:P (cK k c s):=by
  unfold cK;rw[hx];dsimp only;unfold gk
  refine fg _ (fun e=>u (ne _ _ e (by decide)) (ne _ _ e (by decide)) (ne _ _ e (by decide)) _ Z) fun e1=>fg _ (fun e=>u (ne _ _ e (by decide)) (ne _ _ e (by decide)) (ne _ _ e (by decide)) _ Z) fun e3=>fg _ (fun e=>u (ne _ _ e (by decide)) (ne _ _ e (by decide)) (ne _ _ e (by decide)) _ Z) fun e7=>
   fg _ (fun e=>cG _ (A _ Z) (u (ne _ _ e (by decide)) (ne _ _ e (by decide)) (ne _ _ e (by decide)) _ Z)) fun e8=>fg _ (fun e=>cG _ (A _ Z) (u (ne _ _ e (by decide)) (ne _ _ e (by decide)) (ne _ _ e (by decide)) _ Z)) fun e9=>
   fg _ (fun e=>?_) fun aa=>fg _ (fun e=>cG _ ?_ (u (ne _ _ e (by decide)) (ne _ _ e (by decide)) (ne _ _ e (by decide)) _ Z)) fun ab=>fg _ (fun _=>A _ Z) fun ac=>fg _ (fun _=>A _ Z) fun am=>A _ Z
  ·rw[C];intro _;rw[E];unfold fA;rw[e];simp
  grind [fA]
 simp_all
theorem r8 {k:Nat} {s:TS}:(cK k c s).1.bE.length=s.bE.length/\(cK k c s).1.events.length<=s.events.length+1:=by
 obtain⟨P,hP⟩:∃P:TS×Bool->Prop,P=fun r=>r.1.bE.length=s.bE.length/\r.1.events.length<=s.events.length+1:=⟨_,Z⟩
 have h0:∀r:TS×Bool,r.1.bE=s.bE->r.1.events=s.events->P r:=fun r h1 u=>by simp_all
 have h1:∀(r:TS×Bool) (e:bW),r.1.bE=s.bE->r.1.events=s.events++[e]->P r:=fun r e h1 u=>by simp_all
 have:P (cK k c s):=by
  unfold cK;cases hx:c.ins[s.at_]? with
  | none=>exact h0 _ Z Z
  | some x=>
   dsimp only;unfold gk
   grind
 simp_all
structure Ya (c:XC) (s:TS):Prop where
 at_:s.at_<c.ins.length
 bE:s.bE.length=c.bE.toNat
 events:s.events.length<=1000000
theorem results_none {fn:Func} {t:PT Y} (u:fn.results.toList= []):ec P fn t V=some (.tuple []):=by
 unfold ec;rw[u];rfl
theorem nk {fn:Func} {R:Y->D->Prop} {t:PT Y} (u:fn.results.toList= []) (A:R (.tuple []) V):G6 P fn R .normal t V:=⟨.inl Z,_,results_none u,A⟩
variable {b1 bi bt e1 e2:Nat} {Me:Own} {N T X:Y}
theorem BM {x:bW} {vb:Nat} (u:K vb (.row (ints x.ints) e false)):bG K 5 iN [x] (.slice vb 0 1 (.known 1)):=
 .inr ⟨vb,0,_,_,e,false,Z,.inr ⟨_,Z,nR_ _⟩,u,by show 0+1*5<=5;omega,by show 1<=_;omega,fun i y hi=>by
  cases i with
  | zero=>simp only[zm_,oJ_] at hi;subst hi;rfl
  | succ i=>simp at hi⟩
theorem vh (W:Plain G) {bE:List Int} (C:rn<=bE.length) (u:bG K 1 dB bE regv) {et k:Nat} {ro E F:Bool} {c1 c2 c4 c5 c6 c7 i0 i1 i2 i3 i4 w:Y} (ht:K tb (.row [X,c1,c2,regv,c4,c5,c6,c7] et ro)) (I:K bt (.row [.ptr tb 0] e1 E))
  (M:K bi (.row [i0,i1,i2,i3,i4,w] e2 F)) {es:List XE} {N:XE} (hw:bG K 4 (kV K k) es w) (Q:es[0]? =some N) (R:gH rn k N=true) {V:D} {L:Own} (O:H V K L):Ca G K L 135 [.ptr bt 0,.ptr bi 0] V <| .int .i64 (ou bE k N):=by
 refine XD W Tryz.func135 Z<|Xa 6 Z<|aU (l:=zp [0,1,2,3,4,5,6]) B B<|ah Z Z (Yw Z (O.bJ I) Z) Z<|ah Z Z (Yv 5 Z) Z<|ah Z Z (Yw Z (O.bJ M) Z) Z<|Yq (e:=75) (m:=4) hw Q Z Z Z Z Z (fun p6 aa T ab A=>?_);have hr6raw:=A;obtain⟨o6,n6,s6,v6,rfl,ac⟩:=A.shape;refine ah Z Z (YA O T Z Z) Z<|dO Z Z (Yu Z Z Z) (fun _=>Z) (DX W C u ht _ _ _ hr6raw R _ _ O) (fun V O=>?_);refine⟨aY,?_⟩;refine Xh 4 Z ?_;exact az Z Z ⟨Z,O⟩
theorem Iv (R:Plain G) {u et:Nat} {A:Bool} {E F I M c6 Q:Y} (C:K bt (.row [.ptr u 0] e1 A)) (to:Int) (O:H V K ((u,.row [E,F,T,I,M,N,c6,Q] et false)::L)):
  EC G 136 [.int .i64 to,.ptr bt 0] V fun v V'=>v= .bool true/\H V' K ((u,.row [E,F,.int .i64 to,I,M,N,c6,Q] et false)::L):=by
 refine XD R Tryz.func136 Z<|Xb 7 Z<|S Z (Yw Z (O.bJ C) Z) Z<|vQ 1 Z<|S Z (cV Z) Z<|S Z (Yv 2 Z) Z<|ks O (UM Z Z Z O.g0 (m:=1) Z Z (cells':=[_,_,_,_,_,_,_,_]) Z) (fun V O=>?_);refine Xf 8 Z ?_;exact az Z Z ⟨Z,O⟩
theorem DW (T:Plain G) {u et:Nat} {A:Bool} {E F I M Q c6 R:Y} (C:K bt (.row [.ptr u 0] e1 A)) (to:Int) (O:H V K ((u,.row [E,F,I,M,N,Q,c6,R] et false)::L)):
  EC G 137 [.int .i64 to,.ptr bt 0] V fun v V'=>v= .bool false/\H V' K ((u,.row [E,F,I,M,N,Q,.int .i64 to,R] et false)::L):=by
 refine XD T Tryz.func137 Z<|Xb 7 Z<|S Z (Yw Z (O.bJ C) Z) Z<|vQ 1 Z<|S Z (cV Z) Z<|S Z (Yv 6 Z) Z<|ks O (UM Z Z Z O.g0 (m:=1) Z Z (cells':=[_,_,_,_,_,_,_,_]) Z) (fun V O=>?_);refine Xf 8 Z ?_;exact az Z Z ⟨Z,O⟩
theorem Th (R:Plain G) {F T et bon:Nat} {I N:Bool} {W c3 c4 c5 c6 c7:Y} {o2:cd} (u:K bt (.row [.ptr F 0] e1 I)) (C:K bon (.row [.func 136 [] [.ptr bt 0]] e2 N)) (e:bW) {es:List bW} (hO:cO 5 40 iN es c4 Me) (hlen:es.length<=1000000) {at_:Nat} (aa:at_<1000000)
  (O:H V K ((F,.row [W,X,nI at_,c3,c4,c5,c6,c7] et false)::(T,o2)::(Me++L))):
  EC G 138 [.agg [.int .i64 e.kind,.int .i64 e.loc,.int .i64 e.order,.int .i64 e.read,.int .i64 e.write],.ptr bt 0,.ptr bon 0] V fun v V'=>∃ev' Me',v= .bool true/\cO 5 40 iN (es++[e]) ev' Me'/\H V' K ((F,.row [W,X,nI (at_+1),c3,ev',c5,c6,c7] et false)::(T,o2)::(Me'++L)):=by
 refine XD R Tryz.func138 Z<|Xb 2 Z<|kb O (cL Z Z) (fun V b3 O=>?_);refine Wn 4 Z (aU (l:=[(0,[]),(1,[]),(2,[]),(3,[]),(4,[]),(5,[]),(6,[]),(7,[0]),(8,[]),(9,[]),(10,[])]) B B<|ah Z Z (Yw Z (O.bJ u) Z) Z<|ah Z Z (Yw Z (O.bJ u) Z) Z<|ah Z Z (cV Z) Z<|XT O 2 [4,1] Z Z<|ah Z Z (YG Z O.g0 Z) Z<|nN O Z Z (cM (e:=40) (m:=5) (z:=[iZ,iZ,iZ,iZ,iZ]) (cs:=[_,_,_,_,_]) B B B B<|bn Z Z Z Z cD) (fun _=>Z) (fun V b4 O=>?_));replace O:=O.Hm (A:=[_,_,_]);obtain⟨V,Q,Me2,E,hO2,O⟩:=w0 (P:=Tryz.prog) (ts:= #[41,41]) (t:=41) (e:=40) hO O (BM (x:=e) (.inr ⟨Z,Z⟩)) iN.leaf (by simp) (by simp) oM Z B B B;replace O:=O.front (A:=Me2) (M:=[_,_,_]);refine np Z Z (gq Z Z Z Z B E) Z ?_;refine⟨(bx (bC Z Z Z Z Z (Yw Z (O.bJ u) Z)<|qf _ _) aY),?_⟩;refine ah Z Z (cV Z) Z<|ah Z Z (Yv 4 Z) Z<|HO O Z Z (aL Z Z hO2.leaf.1 O.g1 (m:=1) B Z (lb Z) (aj hO2.leaf.2 aC) (cells':=[_,_,_,_,_,_,_,_]) Z) Z (fun V O=>?_);refine⟨aY,?_⟩;refine Xg 2 Z<|ai<|aU (l:=zp [0,1,2,3,4,5,6,7]) B B ?_;replace O:=O.pop;refine ah Z Z (Yw Z (O.bJ C) Z) Z<|ah Z Z (Yw Z (O.bJ u) Z) Z<|ah Z Z (cV Z) Z<|XT O 2 [2,0] Z Z<|ah Z Z (aB Z Z (show _=some (Y.int .i64 (.ofNat (at_+1))) from cI (a6 oM))) Z<|dO Z Z (Yu Z Z Z) (fun _=>Z) (Iv R u _ O) (fun V O=>?_);refine⟨aY,?_⟩;refine Xh 4 Z ?_;exact az Z Z ⟨Q,Me2,Z,hO2,O⟩
theorem PN (Q:Plain G) {k:Nat} (hc:eO k c) {cv:Y} (hi:bG K 6 (jA K k) c.ins cv) {s:TS} (hs:Ya c s) (bi:s.events.length<=900000) {b2:Nat} {ev:Y} (hO:cO 5 40 iN s.events ev Me)
  (O:H V K ((b1,.row (J4 c cv s b2 ev) 85 false)::(b2,.row (s.bE.map gZ) 2 false)::(Me++L))):
  EC G 107 [.ptr b1 0] V fun v V'=>∃ev' Me',v= .bool (cK k c s).2/\cO 5 40 iN (cK k c s).1.events ev' Me'/\H V' K ((b1,.row (J4 c cv (cK k c s).1 b2 ev') 85 false)::(b2,.row ((cK k c s).1.bE.map gZ) 2 false)::(Me'++L)):=by
 have hlen:=hc.len;have hat:=hs.at_;obtain⟨x,hx⟩:=da hat;have hrx:=hc.right x (gB_ hx);have ao:c.bE<=s.bE.length:=by have:=hs.bE;have:=hc.Pb;omega
 have R:s.bE.length<=1000:=by have:=hs.bE;have:=hc.H5;omega
 have E:cK k c s=gk k x s:=by unfold cK;rw[hx]
 refine XD Q Tryz.func107 Z<|Xb 2 Z<|kb O (cL Z Z) (fun V b3 O=>?_);refine Wn 4 Z<|aU (l:=zp [0,1,2,3,4,5,6,7,8,9,10,11,12]) B B<|ah Z Z (Yw Z O.g0 Z) Z<|ah Z Z (cV Z) Z<|XT O 4 [0,1,1,0] Z Z<|ah Z Z (cV Z) Z<|XT O 2 [2,1] Z Z<|Yq (e:=78) (m:=6) hi hx Z Z Z Z Z (fun bp bl be bm ax=>?_);have hr17raw:=ax;have hr17':=ax;obtain⟨bs,rfl,aE⟩:=hr17';refine ah Z Z (YA O be Z Z) Z<|w6 O Z Z (Yy (cs:=[iZ,iZ,iZ,iZ,iZ,.aw])) (fun _=>Z) (fun V b4 O=>?_);refine pB O Z Z (UM Z Z Z O.g0 (m:=6) Z (aj Z<|aj Z<|aj Z<|aj Z<|aj Z<|aj aE.leaf.2 aC) (cells':=[_,_,_,_,_,_]) Z) Z (fun V O=>?_);refine⟨aY,?_⟩;refine Xg 8 Z<|Xb 3 Z<|kb O (Yy (cs:=[.nilFunc])) (fun V b5 O=>?_);refine ks O (UM Z Z Z O.g0 (m:=1) Z Z (cells':=[_]) Z) (fun V O=>?_);refine VE 17 Z ?_;obtain⟨K1,hle,X,O⟩:=O.bZ (M:=[_,_,_]);have hbon:=X _ (.head _);have hbi:=X _ (.tail _ (.head _));have hbt:=X _ (.tail _ (.tail _ (.head _)));clear X;dsimp only at hbon hbi hbt;have hw1:=kz hle aE;refine S Z (Yv 0 Z) Z<|S Z (Yw Z (O.bJ hbi) Z) Z<|Wm 3 Z<|Xb 2 Z<|ky Z (aB Z Z Z) (fun A=>?_) (fun A=>?_)
 ·refine Wn 5 Z (aU (l:=[(0,[]),(1,[]),(2,[]),(3,[]),(4,[]),(5,[]),(6,[]),(7,[0,3,5]),(8,[]),(9,[])]) B B<|ah Z Z (Yw Z (O.bJ hbt) Z) Z<|ah Z Z (cV Z) Z<|XT O 3 [3,0,1] Z Z<|ah Z Z (Yw Z (O.bJ hbi) Z) Z<|wQ 1 Z ?_);obtain⟨a0,ap,a1⟩:=uq hrx (eqv (b:=.ofNat 1) A) oM;have hq:=O.keeps (M:=[_,_]);refine dO Z Z (Yu Z Z Z) (fun _=>Z) (lZ (M:=[_,_]) O<|vh Q (rn:=c.bE) ao (eA (xs:=s.bE) (KP.cu 1 Z) R) (KP.cu 0 Z) (KP.cR _ _ _ _ hbt) (KP.cR _ _ _ _ hbi) (kz (KP.cR _ _) hw1) ap a1 hq) (fun V O=>?_);clear hq;have hV34:=(fw (k:=k) (bE:=s.bE) ap).symm;refine⟨(bx (bC Z Z Z Z Z (Yw Z (O.bJ hbt) Z)<|qf _ _)<|bx (bC Z Z Z Z Z (Yw Z O.g0 Z)<|IV _ _ _ _)<|bx (bC Z Z Z Z Z (Yw Z (O.bJ hbi) Z)<|dF _ _) aY),?_⟩;obtain⟨rg,bf,bo⟩:=O7 hrx (eqv (b:=.ofNat 1) A) oM;refine ah Z Z (dP (e:=2) (m:=1) B B Z (show _=some (Y.int .i64 (.ofNat rg)) from cI bf) oM) Z (fD O (.there .here) Z Z (aL Z Z Z O.g1 (m:=1) B Z (by rw[lM_];omega) Z (cells':=((s.bE).set rg<|ou s.bE k a0).map (gZ)) (ei (f:=gZ) (v:=(ou s.bE k a0)) oM (by first | omega | rfl))) Z (fun V O=>?_));refine⟨aY,?_⟩;refine Xg 2 Z<|ai<|aU (l:=zp [0,1,2,3,4,5,6,7]) B B<|ah Z Z (Yw Z (O.bJ hbon) Z) Z<|ah Z Z (Yw Z (O.bJ hbt) Z) Z<|ah Z Z (cV Z) Z<|XT O 2 [2,0] Z Z<|ah Z Z (aB Z Z (show _=some (Y.int .i64 (.ofNat (s.at_+1))) from cI (a6 oM))) Z<|dO Z Z (Yu Z Z Z) (fun _=>Z) (Iv Q hbt _ O) (fun V O=>?_);refine⟨aY,?_⟩;refine Xh 4 Z<|aI<|aA (?_);have u:cK k c s=({s with bE:=s.bE.set x.z6.toNat (ou s.bE k a0),at_:=s.at_+1},true):=by rw[E];unfold gk;simp only[A,fw ap,ct,cf]
  have O:=O.weaken hle;refine az Z Z ⟨ev,Me,by rw[u],by rw[u];exact hO,?_⟩;rw[u];show H _ _ ((b1,.row [_,_,_,.slice b2 0 (s.bE.set x.z6.toNat _).length (.known (s.bE.set x.z6.toNat _).length),_,_,_,_] 85 false)::(b2,.row ((s.bE.set x.z6.toNat _).map gZ) 2 false)::_);rw[zg_,bf];exact O
 refine Wo 6 Z<|ky Z (aB Z Z Z) (fun C=>?_) (fun C=>?_)
 ·refine Wn 5 Z (aU (l:=[(0,[]),(1,[]),(2,[]),(3,[]),(4,[]),(5,[]),(6,[2,4]),(7,[]),(8,[]),(9,[])]) B B<|XT O 2 [2] Z Z<|ah Z Z (Yw Z (O.bJ hbi) Z) Z<|ah Z Z (Yv 3 Z) Z<|ah Z Z (Yw Z (O.bJ hbi) Z) Z<|wQ 1 Z ?_);obtain⟨bg,aq,a2⟩:=uq hrx (eqv (b:=.ofNat 3) C) oM;have hq:=O.keeps (M:=[_,_]);refine dO Z Z (Yu Z Z Z) (fun _=>Z) (lZ (M:=[_,_]) O<|vh Q (rn:=c.bE) ao (eA (xs:=s.bE) (KP.cu 1 Z) R) (KP.cu 0 Z) (KP.cR _ _ _ _ hbt) (KP.cR _ _ _ _ hbi) (kz (KP.cR _ _) hw1) aq a2 hq) (fun V O=>?_);clear hq;have hV51:=(fw (k:=k) (bE:=s.bE) aq).symm;refine⟨(bx (bC Z Z Z Z Z (Yw Z (O.bJ hbi) Z)<|dF _ _)<|bx (bC Z Z Z Z Z (Yw Z (O.bJ hbi) Z)<|dF _ _) aY),?_⟩;refine ah Z Z (Yt (places:=[(0,1),(1,1),(2,1),(3,1),(4,1)]) (zero:=[iZ,iZ,iZ,iZ,iZ]) (cs:=[_,_,_,_,_]) Z) Z<|fC Z Z (Yu Z Z Z) (fun _=>Z) (Th Q hbt hbon ⟨2,x.loc,x.order,0,ou s.bE k bg⟩ hO oM oM O) ?_;rintro _ V ⟨a3,Me2,rfl,hO2,O⟩;refine⟨aY,?_⟩;refine Xh 4 Z<|aI<|aA (?_);have u:cK k c s=({s with events:=s.events++[⟨2,x.loc,x.order,0,ou s.bE k bg⟩],at_:=s.at_+1},true):=by rw[E];unfold gk;simp only[A,C,fw aq,ct,cf]
  have O:=O.weaken hle;exact az Z Z ⟨a3,Me2,by rw[u],by rw[u];exact hO2,by rw[u];exact O⟩
 refine Wo 6 Z<|ky Z (aB Z Z Z) (fun F=>?_) (fun F=>?_)
 ·refine Wu O 8 [3] Z Z (S Z (Yw Z (O.bJ hbi) Z) Z (S Z (Yt (places:=[(0,1),(1,1),(2,1),(3,1),(4,1)]) (zero:=[iZ,iZ,iZ,iZ,iZ]) (cs:=[_,_,_,_,_]) Z) Z<|kw (Yu Z Z Z) (Th Q hbt hbon ⟨4,0,x.order,0,0⟩ hO oM oM O) ?_));rintro _ V ⟨a3,Me2,rfl,hO2,O⟩;refine Xf 4 Z<|aI<|aA (?_);have u:cK k c s=({s with events:=s.events++[⟨4,0,x.order,0,0⟩],at_:=s.at_+1},true):=by rw[E];unfold gk;simp only[A,C,F,ct,cf]
  have O:=O.weaken hle;exact az Z Z ⟨a3,Me2,by rw[u],by rw[u];exact hO2,by rw[u];exact O⟩
 refine Wo 6 Z<|ky Z (aB Z Z Z) (fun I=>?_) (fun I=>?_)
 ·refine VE 8 Z ?_;obtain⟨bt,aa,a4⟩:=uq hrx (eqv (b:=.ofNat 8) I) oM;have hq:=O.keeps (M:=[_,_]);refine kx (Yu Z Z Z) (lZ (M:=[_,_]) O<|vh Q (rn:=c.bE) ao (eA (xs:=s.bE) (KP.cu 1 Z) R) (KP.cu 0 Z) (KP.cR _ _ _ _ hbt) (KP.cR _ _ _ _ hbi) (kz (KP.cR _ _) hw1) aa a4 hq) (fun V O=>?_);clear hq;have hV64:=(fw (k:=k) (bE:=s.bE) aa).symm;refine Xd 3 Z<|aG Z (fun a5=>?_) (fun a5=>?_)
  ·refine Xb 3 Z<|kx (Yu Z Z Z) (DW Q hbt _ O) (fun V O=>?_);refine Xf 4 Z<|aA<|aI<|aA (?_);have u:cK k c s=({s with fin:=2},false):=by rw[E];unfold gk;simp only[A,C,F,I,fw aa,a5,ct,cf]
   have O:=O.weaken hle;exact az Z Z ⟨ev,Me,by rw[u],by rw[u];exact hO,by rw[u];exact O⟩
  refine Wj 3 Z<|aU (l:=zp [0,1,2,3,4,5,6,7]) B B<|ah Z Z (Yw Z (O.bJ hbon) Z) Z<|ah Z Z (Yw Z (O.bJ hbt) Z) Z<|ah Z Z (cV Z) Z<|XT O 2 [2,0] Z Z<|ah Z Z (aB Z Z (show _=some (Y.int .i64 (.ofNat (s.at_+1))) from cI (a6 oM))) Z<|dO Z Z (Yu Z Z Z) (fun _=>Z) (Iv Q hbt _ O) (fun V O=>?_);refine⟨aY,?_⟩;refine Xh 4 Z<|aI<|aA (?_);have u:cK k c s=({s with at_:=s.at_+1},true):=by rw[E];unfold gk;simp only[A,C,F,I,fw aa,a5,ct,cf]
  have O:=O.weaken hle;exact az Z Z ⟨ev,Me,by rw[u],by rw[u];exact hO,by rw[u];exact O⟩
 refine Wo 6 Z<|ky Z (aB Z Z Z) (fun N=>?_) (fun N=>?_)
 ·refine VE 8 Z ?_;obtain⟨bv,ab,a9⟩:=uq hrx (eqv (b:=.ofNat 9) N) oM;have hq:=O.keeps (M:=[_,_]);refine kx (Yu Z Z Z) (lZ (M:=[_,_]) O<|vh Q (rn:=c.bE) ao (eA (xs:=s.bE) (KP.cu 1 Z) R) (KP.cu 0 Z) (KP.cR _ _ _ _ hbt) (KP.cR _ _ _ _ hbi) (kz (KP.cR _ _) hw1) ab a9 hq) (fun V O=>?_);clear hq;have hV78:=(fw (k:=k) (bE:=s.bE) ab).symm;refine Xd 3 Z<|aG Z (fun ba=>?_) (fun ba=>?_)
  ·refine Xb 3 Z<|kx (Yu Z Z Z) (DW Q hbt _ O) (fun V O=>?_);refine Xf 4 Z<|aA<|aI<|aA (?_);have u:cK k c s=({s with fin:=3},false):=by rw[E];unfold gk;simp only[A,C,F,I,N,fw ab,ba,ct,cf]
   have O:=O.weaken hle;exact az Z Z ⟨ev,Me,by rw[u],by rw[u];exact hO,by rw[u];exact O⟩
  refine Wj 3 Z<|aU (l:=zp [0,1,2,3,4,5,6,7]) B B<|ah Z Z (Yw Z (O.bJ hbon) Z) Z<|ah Z Z (Yw Z (O.bJ hbt) Z) Z<|ah Z Z (cV Z) Z<|XT O 2 [2,0] Z Z<|ah Z Z (aB Z Z (show _=some (Y.int .i64 (.ofNat (s.at_+1))) from cI (a6 oM))) Z<|dO Z Z (Yu Z Z Z) (fun _=>Z) (Iv Q hbt _ O) (fun V O=>?_);refine⟨aY,?_⟩;refine Xh 4 Z<|aI<|aA (?_);have u:cK k c s=({s with at_:=s.at_+1},true):=by rw[E];unfold gk;simp only[A,C,F,I,N,fw ab,ba,ct,cf]
  have O:=O.weaken hle;exact az Z Z ⟨ev,Me,by rw[u],by rw[u];exact hO,by rw[u];exact O⟩
 refine Wo 6 Z<|ky Z (aB Z Z Z) (fun T=>?_) (fun T=>?_)
 ·refine Wo 6 Z<|S Z (Yw Z (O.bJ hbon) Z) Z<|S Z (Yv 4 Z) Z<|S Z (Yw Z (O.bJ hbi) Z) Z<|kx (Yu Z Z Z) (Iv Q hbt _ O) (fun V O=>?_);refine Xf 4 Z<|aI<|aA (?_);have u:cK k c s=({s with at_:=x.to.toNat},true):=by rw[E];unfold gk;simp only[A,C,F,I,N,T,ct,cf]
  have O:=O.weaken hle;refine az Z Z ⟨ev,Me,by rw[u],by rw[u];exact hO,?_⟩;rw[u];obtain⟨rt,bb,_⟩:=Td hrx (eqv (b:=.ofNat 10) T) oM;rw[bb] at O⊢;exact O
 refine Wo 6 Z<|ky Z (aB Z Z Z) (fun W=>?_) (fun W=>?_)
 ·refine VE 8 Z ?_;obtain⟨bw,ac,bc⟩:=uq hrx (eqv (b:=.ofNat 11) W) oM;have hq:=O.keeps (M:=[_,_]);refine kx (Yu Z Z Z) (lZ (M:=[_,_]) O<|vh Q (rn:=c.bE) ao (eA (xs:=s.bE) (KP.cu 1 Z) R) (KP.cu 0 Z) (KP.cR _ _ _ _ hbt) (KP.cR _ _ _ _ hbi) (kz (KP.cR _ _) hw1) ac bc hq) (fun V O=>?_);clear hq;have hV98:=(fw (k:=k) (bE:=s.bE) ac).symm;refine Xd 3 Z<|aG Z (fun bd=>?_) (fun bd=>?_)
  ·refine Xb 2 Z<|S Z (Yw Z (O.bJ hbon) Z) Z<|S Z (Yv 4 Z) Z<|S Z (Yw Z (O.bJ hbi) Z) Z<|kx (Yu Z Z Z) (Iv Q hbt _ O) (fun V O=>?_);refine Xf 4 Z<|aA<|aI<|aA (?_);have u:cK k c s=({s with at_:=x.to.toNat},true):=by rw[E];unfold gk;simp only[A,C,F,I,N,T,W,fw ac,bd,ct,cf]
   have O:=O.weaken hle;refine az Z Z ⟨ev,Me,by rw[u],by rw[u];exact hO,?_⟩;rw[u];obtain⟨rt,bb,_⟩:=Td hrx (eqv (b:=.ofNat 11) W) oM;rw[bb] at O⊢;exact O
  refine Wj 3 Z<|aU (l:=zp [0,1,2,3,4,5,6,7]) B B<|ah Z Z (Yw Z (O.bJ hbon) Z) Z<|ah Z Z (Yw Z (O.bJ hbt) Z) Z<|ah Z Z (cV Z) Z<|XT O 2 [2,0] Z Z<|ah Z Z (aB Z Z (show _=some (Y.int .i64 (.ofNat (s.at_+1))) from cI (a6 oM))) Z<|dO Z Z (Yu Z Z Z) (fun _=>Z) (Iv Q hbt _ O) (fun V O=>?_);refine⟨aY,?_⟩;refine Xh 4 Z<|aI<|aA (?_);have u:cK k c s=({s with at_:=s.at_+1},true):=by rw[E];unfold gk;simp only[A,C,F,I,N,T,W,fw ac,bd,ct,cf]
  have O:=O.weaken hle;exact az Z Z ⟨ev,Me,by rw[u],by rw[u];exact hO,by rw[u];exact O⟩
 refine Wo 6 Z<|ky Z (aB Z Z Z) (fun am=>?_) (fun am=>?_)
 ·refine Wo 7 Z<|kx (Yu Z Z Z) (DW Q hbt _ O) (fun V O=>?_);refine Xf 4 Z<|aI<|aA (?_);have u:cK k c s=({s with fin:=4},false):=by rw[E];unfold gk;simp only[A,C,F,I,N,T,W,am,ct,cf]
  have O:=O.weaken hle;exact az Z Z ⟨ev,Me,by rw[u],by rw[u];exact hO,by rw[u];exact O⟩
 refine Wo 6 Z<|ky Z (aB Z Z Z) (fun ar=>?_) (fun ar=>?_)
 ·refine Wo 7 Z<|kx (Yu Z Z Z) (DW Q hbt _ O) (fun V O=>?_);refine Xf 4 Z<|aI<|aA (?_);have u:cK k c s=({s with fin:=1},false):=by rw[E];unfold gk;simp only[A,C,F,I,N,T,W,am,ar,ct,cf]
  have O:=O.weaken hle;exact az Z Z ⟨ev,Me,by rw[u],by rw[u];exact hO,by rw[u];exact O⟩
 refine Wp 6 Z<|Xb 2 Z<|S Z (Yw Z (O.bJ hbt) Z) Z<|S Z (cV Z) Z<|S Z (Yv 7 Z) Z<|ks O (UM Z Z Z O.g0 (m:=1) Z Z (cells':=[_,_,_,_,_,_,_,_]) Z) (fun V O=>?_);refine Xf 8 Z ?_;have u:cK k c s=({s with asks:=true},false):=by rw[E];unfold gk;simp only[A,C,F,I,N,T,W,am,ar,ct,cf]
 have O:=O.weaken hle;exact az Z Z ⟨ev,Me,by rw[u],by rw[u];exact hO,by rw[u];exact O⟩
variable {q:Nat}
structure CM (c:XC) (out:List Nat) (s:TS):Prop where
 at_:s.at_∈out
 bE:s.bE.length=c.bE.toNat
theorem Il {k:Nat} {s:TS} (h:(cK k c s).2=false):(cK k c s).1.at_=s.at_:=by
 obtain⟨P,hP⟩:∃P:TS×Bool->Prop,P=fun r=>r.2=false->r.1.at_=s.at_:=⟨_,Z⟩
 have hy:∀r:TS×Bool,r.2=true->P r:=fun r h1=>by simp_all
 have hn:∀r:TS×Bool,r.1.at_=s.at_->P r:=fun r h1=>by simp_all
 have:P (cK k c s):=by
  unfold cK;cases hx:c.ins[s.at_]? with
  | none=>exact hn _ Z
  | some x=>
   dsimp only;unfold gk
   grind
 simp_all
theorem CM.lt {c:XC} {out:List Nat} {s:TS} (h:CM c out s) (u:ft (du c) c.ins.length out):s.at_<c.ins.length:=u.lt _ h.at_
theorem CM.step {k:Nat} {out:List Nat} {s:TS} (h:CM c out s) (u:ft (du c) c.ins.length out):CM c out (cK k c s).1:=by
 refine⟨?_,by rw[r8.1];exact h.bE⟩;cases hb:(cK k c s).2 with
 | false=>rw[Il hb];exact h.at_
 | true=>
  obtain⟨x,hx⟩:=da (h.lt u);obtain⟨q,hq⟩:=gO_ h.at_;obtain⟨q',_,aa⟩:=u.H2 q _ hq _ (pL hx hb)
  grind
theorem Hn {k:Nat} {c:XC} {out:List Nat} (u:ft (du c) c.ins.length out):∀{f:Nat} {s:TS},CM c out s->CM c out (vo k c f s)/\(vo k c f s).events.length<=s.events.length+f
 | 0,s,h=>⟨h,nR_ _⟩
 | f+1,s,h=>by
  have h1:=h.step (k:=k) u;have h2:=(r8 (k:=k) (c:=c) (s:=s)).2;obtain⟨h3,h4⟩:=Hn (k:=k) u (f:=f) h1;show CM c out (bif (cK k c s).2 then vo k c f (cK k c s).1 else(cK k c s).1)/\(bif (cK k c s).2 then vo k c f (cK k c s).1 else(cK k c s).1).events.length<=_
  grind
theorem Jg {k:Nat} {s:TS} (hj:1<=j) (h:(cK k c s).2=true):vo k c j s=vo k c (j-1) (cK k c s).1:=by
 obtain⟨i,rfl⟩:∃i,j=i+1:=⟨j-1,by omega⟩;show(bif (cK k c s).2 then _ else _)=_;rw[h];rfl
theorem NU {k:Nat} {s:TS} (hj:1<=j) (h:(cK k c s).2=false):vo k c j s=(cK k c s).1:=by
 obtain⟨i,rfl⟩:∃i,j=i+1:=⟨j-1,by omega⟩;show(bif (cK k c s).2 then _ else _)=_;rw[h];rfl
theorem Co {k:Nat} {out:List Nat} {s:TS} {x:XI} (u:ft (du c) c.ins.length out) (hx:c.ins[s.at_]? =some x) (hq:out[q]? =some s.at_) (h:(cK k c s).2=true):∃q',q'<q/\out[q']? =some (cK k c s).1.at_:=u.H2 q _ hq _ (pL hx h)
def pK (c:XC):TS:=⟨0,List.replicate c.bE.toNat 0,[],0,0,false⟩
theorem F3 {out:List Nat} (u:ft (du c) c.ins.length out):CM c out (pK c):=⟨u.zero,List.length_replicate ..⟩
theorem Kj {k:Nat} {out:List Nat} (A:eV c=some out) (u:ft (du c) c.ins.length out):CM c out (jE k c)/\(jE k c).events.length<=out.length:=by
 obtain⟨h1,C⟩:=Hn (k:=k) u (f:=iL c) (F3 u);have:iL c=out.length:=by unfold iL;rw[A];rfl
 refine⟨h1,?_⟩;have h3:(pK c).events.length=0:=rfl;rw[h3,this] at C;show(vo k c (iL c)<|pK c).events.length<=_;rw[this];omega
theorem wy {k:Nat} (hc:eO k c) {out:List Nat} (A:ft (du c) c.ins.length out) {s:TS} (h:CM c out s) (C:iI c s) (E:s.asks=true) (v:Int):CM c out (eJ k c s v):=by
 refine⟨?_,by show(s.bE.set _ _).length=_;rw[zg_];exact h.bE⟩;obtain⟨x,hx,hk⟩:=C E;obtain⟨q,hq⟩:=gO_ h.at_
 have:s.at_+1∈du c s.at_:=by
  unfold du;rw[hx];dsimp only;unfold fA;rcases hk with hk | hk | hk | hk<;>rw[hk]<;>show s.at_+1∈[s.at_+1]<;>simp
 obtain⟨q',_,u⟩:=A.H2 q _ hq _ this;exact gB_ u
theorem GG {k:Nat} (hc:eO k c) {out:List Nat} (A:eV c=some out) (u:ft (du c) c.ins.length out) {s:TS} (h:CM c out s) (C:iI c s) (E:s.asks=true) (v:Int):
  CM c out (fo k c s v)/\(fo k c s v).events.length<=s.events.length+1+out.length/\(fo k c s v).asked=s.asked+1:=by
 obtain⟨h1,h2⟩:=Hn (k:=k) u (f:=iL c) (wy hc u h C E v);have hf:iL c=out.length:=by unfold iL;rw[A];rfl
 refine⟨h1,?_,(rM k c (iL c)<|eJ k c s v).2⟩
 grind [eJ,fo]
theorem Pl {k:Nat} {i:Nat} {v:Int} {s:TS} (h:A[i]? =some v) (u:s.asks=true):nP k c (A.drop i) s=nP k c (A.drop (i+1)) (fo k c s v):=by
 rw[cT h];show(bif s.asks then _ else _)=_;rw[u];rfl
theorem R6 {k:Nat} {i:Nat} {v:Int} {s:TS} (h:A[i]? =some v) (u:s.asks=false):nP k c (A.drop i) s=s:=by
 rw[cT h];show(bif s.asks then _ else _)=_;rw[u];rfl
theorem Pk {k:Nat} {i:Nat} {s:TS} (h:A.length<=i):nP k c (A.drop i) s=s:=by rw[eK h];rfl
theorem V5 (hG:Plain G) {k:Nat} {cv:Y} (hi:bG K 6 (jA K k) c.ins cv) {at_:Nat} {bE:List Int} (T:c.bE<=bE.length) {x:XI} (hx:c.ins[at_]? =some x) (ap:iB c.bE (.ofNat c.ins.length) k x=true) (E:bG K 1 dB bE regv) {et:Nat} {ro:Bool} {c0 c4 c5 c6 c7:Y} (X:K tb (.row [c0,cv,nI at_,regv,c4,c5,c6,c7] et ro))
  {V:D} {L:Own} (O:H V K L):Ca G K L 73 [.ptr tb 0] V <| .agg (ints (MW k x bE).ints):=by
 obtain⟨_,sh,_,_,_,_,aq⟩:=js ap;have hall:=(kH aq).all;refine XD hG Tryz.func73 Z<|Xb 2 Z<|kb O (Yy (cs:=[iZ,iZ,iZ,iZ,iZ])) (fun V b1 O=>?_);refine Wn 3 Z<|aU (l:=zp [0,1,2,3,4,5,6,7,8,9,10,11,12]) B B<|wQ 1 Z<|ah Z Z (cV Z) Z<|XT O 2 [0,1] Z Z<|ah Z Z (Yw Z (O.bJ X) Z) Z<|wQ 1 Z<|ah Z Z (cV Z) Z<|ah Z Z (Yv 2 Z) Z<|ah Z Z (Yw Z (O.bJ X) Z) Z<|Yq (e:=78) (m:=6) hi hx Z Z Z Z Z (fun bb a3 aa a4 Q=>?_);have hr14raw:=Q;have hr14':=Q;obtain⟨bc,rfl,u⟩:=hr14';refine ah Z Z (YA O aa Z Z) Z<|w6 O Z Z (Yy (cs:=[iZ,iZ,iZ,iZ,iZ,.aw])) (fun _=>Z) (fun V b2 O=>?_);refine pB O Z Z (UM Z Z Z O.g0 (m:=6) Z (aj Z<|aj Z<|aj Z<|aj Z<|aj Z<|aj u.leaf.2 aC) (cells':=[_,_,_,_,_,_]) Z) Z (fun V O=>?_);refine⟨aY,?_⟩;refine Xg 2 Z (Xb 2 Z (XS O 6 [0,0,2,0,3,0] Z Z (S Z (Yt (places:=[(0,1),(1,1),(2,1),(3,1),(4,1)]) (zero:=[iZ,iZ,iZ,iZ,iZ]) (cs:=[_,_,_,_,_]) Z) Z<|kb O (Yy (cs:=[iZ,iZ,iZ,iZ,iZ])) (fun V b3 O=>?_))));refine ks O (YD Z Z Z O.g0 Z) (fun V O=>?_);refine VF O 7 [5,1] Z Z<|S Z (Yx u Z Z Z (e:=75) Z) Z<|Xd 3 Z<|aG Z (fun N=>?_) (fun N=>?_)
 ·refine XR O 4 [5,1] Z Z ?_;obtain⟨ar,I⟩:=da (show 0<x.exprs.length from aS (a:=0) N);refine Yp (e:=75) (m:=4) u I Z Z Z Z (fun bd a5 ab a9 R=>?_);have hr30raw:=R;obtain⟨be,bf,bg,bi,rfl,ba⟩:=R.shape;refine S Z (YA O ab Z Z) Z<|kx (Yu Z Z Z) (DX hG T E X _ _ _ hr30raw (hall ar<|gB_ I) _ _ O) (fun V O=>?_);refine S Z (Yv 3 Z) Z<|ks O (UM Z Z Z O.g0 (m:=1) Z Z (cells':=[_,_,_,_,_]) Z) (fun V O=>?_);refine VF O 7 [5,1] Z Z<|S Z (Yx u Z Z Z (e:=75) Z) Z<|Xd 3 Z<|aG Z (fun F=>?_) (fun F=>?_)
  ·refine XR O 4 [5,1] Z Z ?_;obtain⟨W,A⟩:=da (show 1<x.exprs.length from aS (a:=1) F);refine Yp (e:=75) (m:=4) u A Z Z Z Z (fun ax ac M am C=>?_);have hr41raw:=C;obtain⟨aE,a0,a1,a2,rfl,ao⟩:=C.shape;refine S Z (YA O M Z Z) Z<|kx (Yu Z Z Z) (DX hG T E X _ _ _ hr41raw (hall W<|gB_ A) _ _ O) (fun V O=>?_);refine S Z (Yv 4 Z) Z<|ks O (UM Z Z Z O.g0 (m:=1) Z Z (cells':=[_,_,_,_,_]) Z) (fun V O=>?_);refine Wo 4 Z<|S Z (YG Z O.g0 Z) Z<|pz O Z (YD Z Z Z (O.get 2 Z) Z) Z (fun V O=>?_);refine Xf 3 Z ?_;exact dy Z Z (O.get 2 Z) (m:=5) B Z ⟨by show Y.agg [.int .i64 x.kind,.int .i64 x.loc,.int .i64 x.order,_,_]=Y.agg [.int .i64 x.kind,.int .i64 x.loc,.int .i64 x.order,.int .i64<|jH k bE x 0,.int .i64<|jH k bE x 1];rw[fw I,fw A]<;>rfl,O.pop.pop.pop⟩
  refine Wk 4 Z<|S Z (YG Z O.g0 Z) Z<|pz O Z (YD Z Z Z (O.get 2 Z) Z) Z (fun V O=>?_);refine Xf 3 Z ?_;exact dy Z Z (O.get 2 Z) (m:=5) B Z ⟨by show Y.agg [.int .i64 x.kind,.int .i64 x.loc,.int .i64 x.order,_,_]=Y.agg [.int .i64 x.kind,.int .i64 x.loc,.int .i64 x.order,.int .i64<|jH k bE x 0,.int .i64<|jH k bE x 1];rw[fw I,uo<|bI (a:=1) F]<;>rfl,O.pop.pop.pop⟩
 refine VD 5 Z<|XS O 2 [5,1] Z Z<|S Z (Yx u Z Z Z (e:=75) Z) Z<|Xd 3 Z<|aG Z (fun F=>?_) (fun F=>?_)
 ·refine XR O 4 [5,1] Z Z ?_;obtain⟨W,A⟩:=da (show 1<x.exprs.length from aS (a:=1) F);refine Yp (e:=75) (m:=4) u A Z Z Z Z (fun ax ac M am C=>?_);have hr41raw:=C;obtain⟨aE,a0,a1,a2,rfl,ao⟩:=C.shape;refine S Z (YA O M Z Z) Z<|kx (Yu Z Z Z) (DX hG T E X _ _ _ hr41raw (hall W<|gB_ A) _ _ O) (fun V O=>?_);refine S Z (Yv 4 Z) Z<|ks O (UM Z Z Z O.g0 (m:=1) Z Z (cells':=[_,_,_,_,_]) Z) (fun V O=>?_);refine Wo 4 Z<|S Z (YG Z O.g0 Z) Z<|pz O Z (YD Z Z Z (O.get 2 Z) Z) Z (fun V O=>?_);refine Xf 3 Z ?_;exact dy Z Z (O.get 2 Z) (m:=5) B Z ⟨by show Y.agg [.int .i64 x.kind,.int .i64 x.loc,.int .i64 x.order,_,_]=Y.agg [.int .i64 x.kind,.int .i64 x.loc,.int .i64 x.order,.int .i64<|jH k bE x 0,.int .i64<|jH k bE x 1];rw[uo<|bI (a:=0) N,fw A]<;>rfl,O.pop.pop.pop⟩
 refine Wk 4 Z<|S Z (YG Z O.g0 Z) Z<|pz O Z (YD Z Z Z (O.get 2 Z) Z) Z (fun V O=>?_);refine Xf 3 Z ?_;exact dy Z Z (O.get 2 Z) (m:=5) B Z ⟨by show Y.agg [.int .i64 x.kind,.int .i64 x.loc,.int .i64 x.order,_,_]=Y.agg [.int .i64 x.kind,.int .i64 x.loc,.int .i64 x.order,.int .i64<|jH k bE x 0,.int .i64<|jH k bE x 1];rw[uo<|bI (a:=0) N,uo<|bI (a:=1) F]<;>rfl,O.pop.pop.pop⟩
theorem PI (I:Plain G) (a:AI) (vv:Int) (O:H V K L):Ca G K L 108 [.agg [.int .i64 a.kind,.int .i64 a.loc,.int .i64 a.order,.int .i64 a.a,.int .i64 a.b],.int .i64 vv] V <| .tuple [.agg<|ints (fm a vv).ints,.int .i64<|pd a]:=by
 refine XD I Tryz.func108 Z<|Xb 2 Z<|kb O (cL Z Z) (fun V b1 O=>?_);refine kb O (Yy (cs:=[iZ,iZ,iZ,iZ,iZ])) (fun V b2 O=>?_);refine Wu O 10 [1,1,2,1] Z Z (S Z (Yt (places:=[(0,1),(1,1),(2,1),(3,1),(4,1)]) (zero:=[iZ,iZ,iZ,iZ,iZ]) (cs:=[_,_,_,_,_]) Z) Z<|kb O (Yy (cs:=[iZ,iZ,iZ,iZ,iZ])) (fun V b3 O=>?_));refine ks O (YD Z Z Z O.g0 Z) (fun V O=>?_);refine VF O 7 [0,2] Z Z<|Wm 3 Z<|Xb 2 Z<|ky Z (aB Z Z Z) (fun u=>?_) (fun u=>?_)
 ·refine Xe 5 Z<|S Z (Yv 0 Z) Z<|ks O (UM Z Z Z O.g0 (m:=1) Z Z (cells':=[_,_,_,_,_]) Z) (fun V O=>?_);refine ae<|aD<|Xb 2 Z<|S Z (YG Z O.g0 Z) Z<|gF O Z (YD Z Z Z O.g1 Z) Z (fun V O=>?_);refine Xf 4 Z ?_;exact eL Z Z O.g1 (m:=5) B Z Z ⟨by unfold fm pd;simp only[u,ct,cf]<;>rfl,O.pop.pop.pop⟩
 refine Wo 6 Z<|ky Z (aB Z Z Z) (fun A=>?_) (fun A=>?_)
 ·refine Wu O 10 [3,2] Z Z<|Xd 2 Z<|aG Z (fun E=>?_) (fun E=>?_)
  ·refine XR O 4 [4,2,4] Z Z<|ks O (UM Z Z Z O.g0 (m:=1) Z Z (cells':=[_,_,_,_,_]) Z) (fun V O=>?_);refine ae<|aD<|Xb 2 Z<|S Z (YG Z O.g0 Z) Z<|gF O Z (YD Z Z Z O.g1 Z) Z (fun V O=>?_);refine Xf 4 Z ?_;exact eL Z Z O.g1 (m:=5) B Z Z ⟨by unfold fm pd;simp only[u,A,E,ct,cf]<;>rfl,O.pop.pop.pop⟩
  refine XR O 2 [0] Z Z<|ks O (UM Z Z Z O.g0 (m:=1) Z Z (cells':=[_,_,_,_,_]) Z) (fun V O=>?_);refine ae<|aD<|Xb 2 Z<|S Z (YG Z O.g0 Z) Z<|gF O Z (YD Z Z Z O.g1 Z) Z (fun V O=>?_);refine Xf 4 Z ?_;exact eL Z Z O.g1 (m:=5) B Z Z ⟨by unfold fm pd;simp only[u,A,E,ct,cf]<;>rfl,O.pop.pop.pop⟩
 refine Wo 6 Z<|ky Z (aB Z Z Z) (fun C=>?_) (fun C=>?_)
 ·refine Xe 6 Z ?_;refine S Z (iC (j:=.i64) (k:=.u64) B B B Z) Z ?_;refine XS O 2 [3,2] Z Z ?_;refine S Z (iC (j:=.i64) (k:=.u64) B B B Z) Z ?_;refine vQ 1 Z ?_;refine S Z (iC (j:=.u64) (k:=.i64) B B B Z) Z ?_;refine S Z (Yv 4 Z) Z<|ks O (UM Z Z Z O.g0 (m:=1) Z Z (cells':=[_,_,_,_,_]) Z) (fun V O=>?_);refine ae<|aD<|Xb 2 Z<|S Z (YG Z O.g0 Z) Z<|gF O Z (YD Z Z Z O.g1 Z) Z (fun V O=>?_);refine Xf 4 Z ?_;exact eL Z Z O.g1 (m:=5) B Z Z ⟨by unfold fm pd;simp only[u,A,C,ct,cf]<;>rfl,O.pop.pop.pop⟩
 refine Wo 6 Z<|ky Z (aB Z Z Z) (fun F=>?_) (fun F=>?_)
 ·refine Xe 5 Z<|XS O 3 [3,2,4] Z Z<|ks O (UM Z Z Z O.g0 (m:=1) Z Z (cells':=[_,_,_,_,_]) Z) (fun V O=>?_);refine ae<|aD<|Xb 2 Z<|S Z (YG Z O.g0 Z) Z<|gF O Z (YD Z Z Z O.g1 Z) Z (fun V O=>?_);refine Xf 4 Z ?_;exact eL Z Z O.g1 (m:=5) B Z Z ⟨by unfold fm pd;simp only[u,A,C,F,ct,cf]<;>rfl,O.pop.pop.pop⟩
 refine Wo 6 Z (S Z (Yt (places:=[(0,1),(1,1),(2,1),(3,1),(4,1)]) (zero:=[iZ,iZ,iZ,iZ,iZ]) (cs:=[_,_,_,_,_]) Z) Z<|gF O Z (YD Z Z Z O.g1 Z) Z (fun V O=>?_));refine Xf 4 Z<|aI<|aA (?_);exact eL Z Z O.g1 (m:=5) B Z Z ⟨by unfold fm pd;simp only[u,A,C,F,ct,cf]<;>rfl,O.pop.pop.pop⟩
theorem Ss (A:Plain G) (u:sf G K) {k:Nat} {v:Y} (hi:bG K 6 (jA K k) c.ins v) (O:H V K L):
  Ca G K L 31 [.agg [.int .i64 c.bE,v]] V <| .int .i64 (qk k c):=by
 refine XD A Tryz.func31 Z<|Xb 2 Z<|kb O (cL Z Z) (fun V b1 O=>?_);refine VE 6 Z<|S Z (YE Z O.g0 Z) Z<|kx (Yu Z Z Z) (Iu A u hi O) (fun V O=>?_);refine Xd 2 Z<|aG Z (fun h5=>?_) (fun h5=>?_)
 ·refine Xc 7 Z ?_;exact az Z Z ⟨cJ (by unfold qk;rw[h5];rfl),O.pop⟩
 refine VD 5 Z<|S Z (YE Z O.g0 Z) Z<|kx (Yu Z Z Z) (wk A u hi O) (fun V O=>?_);refine Xd 9 Z<|aG Z (fun C=>?_) (fun C=>?_)
 ·refine Xc 8 Z ?_;exact az Z Z ⟨cJ (by unfold qk;rw[h5,show bT (bD (dJ k c) 0)=true from C];rfl),O.pop⟩
 refine Xc 8 Z ?_;exact az Z Z ⟨cJ (by unfold qk;rw[h5,show bT (bD (dJ k c) 0)=false from C];rfl),O.pop⟩
variable {od:List Nat}
theorem Sr (X:Plain G) {k:Nat} (hc:eO k c) (ho:eV c=some od) (E:ft (du c) c.ins.length od) {cv:Y} (hi:bG K 6 (jA K k) c.ins cv) (O:H V K L):
  EC G 71 [.agg [.int .i64 c.bE,cv]] V fun v V'=>∃tb rb ev Me,v= .ptr tb 0/\cO 5 40 iN (jE k c).events ev Me/\H V' K ((tb,.row (J4 c cv (jE k c) rb ev) 85 false)::(rb,.row ((jE k c).bE.map gZ) 2 false)::(Me++L)):=by
 have I:c.bE= .ofNat c.bE.toNat:=by have:=hc.Pb;show c.bE=((c.bE.toNat:Nat):Int);omega
 have aa:c.bE.toNat<=16:=by have:=hc.H5;omega
 have hol:=rS hc ho;have T:iL c=od.length:=by unfold iL;rw[ho];rfl
 have hlen:=hc.len;have hB0:jE k c=vo k c od.length (pK c):=by unfold jE;rw[T];rfl
 refine XD X Tryz.func71 Z<|Xb 2 Z<|kb O (cL Z Z) (fun V b1 O=>?_);refine Wn 4 Z<|aU (l:=zp [0,1,2,3,4,5,6]) B B<|ah Z Z (YE Z O.g0 Z) Z<|XT O 2 [0,0] Z Z<|nN O Z Z (gT (e:=2) (w:=8) (z:=[gZ 0]) B B B B (show _=some (Y.int .i64 (.ofNat c.bE.toNat)) from cI I) (show _=some (Y.int .i64 (.ofNat c.bE.toNat)) from cI I) oM oM) (fun _=>Z) (fun V F O=>?_);rw[gp (f:=gZ)] at O;refine ah Z Z (Yt (places:=[(0,2),(2,1),(3,1),(4,1),(5,1),(6,1),(7,1)]) (zero:=[iZ,.aw,iZ,.aw,.aw,iZ,iZ,.bool false]) (cs:=[_,_,_,_,_,_,_,_]) Z) Z<|w6 O Z Z (cL Z Z) (fun _=>Z) (fun V R O=>?_);refine wQ 1 Z ?_;replace O:H V K ((R,.row (J4 c cv (pK c) F .aw) 85 false)::(F,.row ((pK c).bE.map gZ) 2 false)::([]++(b1,.row [.int .i64 c.bE,cv] 49 false)::L)):=by show H V K ((R,.row [_,_,_,.slice F 0 (List.replicate c.bE.toNat (0:Int)).length (.known (List.replicate c.bE.toNat (0:Int)).length),_,_,_,_] 85 false)::_);rw[List.length_replicate];exact O
 refine Xg 2 Z (ai (aK (bq [10,11] (fun j t V=>∃(s:TS) (ev:Y) (Me:Own),CM c od s/\s.events.length+j<=od.length/\(∃q,od[q]? =some s.at_/\q<j)/\vo k c od.length (pK c)=vo k c j s/\cO 5 40 iN s.events ev Me/\H V K ((R,.row (J4 c cv s F ev) 85 false)::(F,.row (s.bE.map gZ) 2 false)::(Me++(b1,.row [.int .i64 c.bE,cv] 49 false)::L))) (od.length) ⟨pK c,.aw,[],F3 E,by show 0+_<=_;omega,(gO_ E.zero).imp fun q hq=>⟨hq,(gA.1 hq).1⟩,Z,.inl ⟨Z,Z,Z⟩,O⟩ ?_)));clear O;intro j2 t V ar hI;obtain⟨s,ev,Me,u,hB,M,he,hO,O⟩:=hI;obtain⟨oo,rfl⟩:=ar.q0 Z;refine Wi 4 Z ?_;obtain⟨q,hq,ab⟩:=M;refine kw (Yu Z Z Z) (PN X hc hi ⟨u.lt E,u.bE,by omega⟩ oM hO O) ?_;rintro _ V ⟨N,Me2,rfl,hO2,O⟩;refine Xd 2 Z<|aG Z (fun A=>?_) (fun A=>?_)
 ·refine aH<|XK 3 Z ?_;obtain⟨xs,W⟩:=da (u.lt E);obtain⟨q2,M,Q⟩:=Co E W hq A;have hel:=(r8 (k:=k) (c:=c) (s:=s)).2;refine aJ ⟨j2-1,by omega,oP Z<|oP Z<|oP Z<|oP Z<|oR _ _,_,N,Me2,u.step E,by omega,⟨q2,Q,by omega⟩,he.trans<|Jg oM A,hO2,O⟩
 have C:jE k c=(cK k c s).1:=by rw[hB0,he];exact NU oM A
 refine Wl 3 Z<|aQ<|XN 7 Z ?_;exact az Z Z ⟨R,F,N,Me2,Z,by rw[C];exact hO2,by rw[C];exact O.sub (.cons_cons _ (.cons_cons _<|fR (.cons _ (.refl _))))⟩
variable {va:Y}
theorem PK (hG:Plain G) {k:Nat} (hc:eO k c) (ho:eV c=some od) (hR:ft (du c) c.ins.length od) {cv:Y} (hi:bG K 6 (jA K k) c.ins cv) {u:TS} (F:CM c od u) (R:iI c u) (hs:u.asks=true) (bb:u.events.length<=880000) (bc:u.asked<=1000000) (vv:Int) {I:Nat} {aa:Y} {Me0:Own} (hO:cO 5 40 iN u.events aa Me0)
  (O:H V K ((b1,.row (J4 c cv u I aa) 85 false)::(I,.row (u.bE.map gZ) 2 false)::(Me0++L))):
  EC G 72 [.ptr b1 0,.int .i64 vv] V fun v V'=>∃ev' Me',cO 5 40 iN (fo k c u vv).events ev' Me'/\H V' K ((b1,.row (J4 c cv (fo k c u vv) I ev') 85 false)::(I,.row ((fo k c u vv).bE.map gZ) 2 false)::(Me'++L)):=by
 have hol:=rS hc ho;have ax:iL c=od.length:=by unfold iL;rw[ho];rfl
 have hlen:=hc.len;have hat:=F.lt hR;obtain⟨x,hx,aE⟩:=R hs;have hrx:=hc.right x (gB_ hx);have a0:c.bE<=u.bE.length:=by have:=F.bE;have:=hc.Pb;omega
 have ab:u.bE.length<=1000:=by have:=F.bE;have:=hc.H5;omega
 have X:∃kn:Nat,x.kind= .ofNat kn/\(kn=2∨kn=4∨kn=5∨kn=6):=by
  rcases aE with e | e | e | e
  ·exact⟨2,e,by omega⟩
  ·exact⟨4,e,by omega⟩
  ·exact⟨5,e,by omega⟩
  exact⟨6,e,by omega⟩
 obtain⟨kn,X,bd⟩:=X;obtain⟨rg,ac,a4⟩:=O7 hrx X oM;obtain⟨A,hA⟩:∃A,A=MW k x u.bE:=⟨_,Z⟩;obtain⟨E,hE⟩:∃E,E=fm A vv:=⟨_,Z⟩;have a1:pU k c u=A:=by unfold pU;rw[hx,hA]
 have hS1:eJ k c u vv= {u with events:=u.events++[E],bE:=u.bE.set rg vv,asked:=u.asked+1,at_:=u.at_+1,asks:=false}:=by
  unfold eJ S7;rw[hx];dsimp only;rw[a1,<-hE,show x.z6.toNat=rg from by rw[ac];rfl]
 have hB0:fo k c u vv=vo k c od.length (eJ k c u vv):=by unfold fo;rw[ax]
 have hin1:=wy hc hR F R hs vv;refine XD hG Tryz.func72 Z<|Xb 3 Z ?_;have hq:=O.keeps (M:=[_,_]);refine kx (Yu Z Z Z) (lZ (M:=[_,_]) O<|V5 hG (GU (KP.cR _ _) hi) a0 hx hrx (eA (xs:=u.bE) (KP.cu 1 Z) ab) (KP.cu 0 Z) hq) (fun V O=>?_);clear hq;rw[<-hA];refine vQ 1 Z<|kx (Yu Z Z Z) (PI hG A vv O) (fun V O=>?_);rw[<-hE];refine XP 3 Z<|kb O (Yy (cs:=[iZ,iZ,iZ,iZ,iZ])) (fun V b3 O=>?_);refine ks O (YD Z Z Z O.g0 Z) (fun V O=>?_);refine Wn 4 Z<|aU (l:=zp [0,1,2,3,4,5,6,7,8,9,10]) B B<|XQ 2 Z<|ah Z Z (cV Z) Z<|XT O 2 [4,1] Z Z<|ah Z Z (YG Z O.g0 Z) Z<|nN O Z Z (cM (e:=40) (m:=5) (z:=[iZ,iZ,iZ,iZ,iZ]) (cs:=[_,_,_,_,_]) B B B B<|bn Z Z Z Z cD) (fun _=>Z) (fun V b4 O=>?_);replace O:=O.Hm (A:=[_,_,_]);obtain⟨V,C,Me2,am,hO2,O⟩:=w0 (P:=Tryz.prog) (ts:= #[41,41]) (t:=41) (e:=40) hO O (BM (x:=E) (.inr ⟨Z,Z⟩)) iN.leaf (by simp) (by simp) oM Z B B B;replace O:=O.front (A:=Me2) (M:=[_,_,_]);refine np Z Z (gq Z Z Z Z B am) Z ?_;refine⟨aY,?_⟩;refine ah Z Z (cV Z) Z<|ah Z Z (Yv 4 Z) Z<|HO O Z Z (aL Z Z hO2.leaf.1 O.g1 (m:=1) B Z (lb Z) (aj hO2.leaf.2 aC) (cells':=[_,_,_,_,_,_,_,_]) Z) Z (fun V O=>?_);refine⟨aY,?_⟩;refine Xg 2 Z<|ai<|aU (l:=zp [0,1,2,3,4,5,6,7,8,9,10,11,12,13,14,15,16,17,18]) B B ?_;replace O:=O.pop;refine wQ 1 Z<|ah Z Z (cV Z) Z<|XT O 3 [3,0] Z Z<|ah Z Z (cV Z) Z<|XT O 4 [0,1,0] Z Z<|ah Z Z (cV Z) Z<|XT O 2 [2,0] Z Z<|Yq (e:=78) (m:=6) hi hx Z Z Z Z Z (fun be a5 ao a9 T=>?_);have hr36raw:=T;have hr36':=T;obtain⟨bf,rfl,ba⟩:=hr36';refine fb ao Z Z Z Z (k:=1) B (lb Z) (fun _=>Z) (fun bg ap=>?_);refine ah Z Z (Yz O ap Z Z) Z (wQ 1 Z (ah Z Z (dP (e:=2) (m:=1) B B Z (show _=some (Y.int .i64 (.ofNat rg)) from cI ac) oM) Z (fD O (.there .here) Z Z (aL Z Z Z O.g1 (m:=1) B Z (by rw[lM_];omega) Z (cells':=((u.bE).set rg vv).map (gZ))<|ei (f:=gZ) (v:=vv) oM (by first | omega | rfl)) Z (fun V O=>?_))));refine⟨aY,?_⟩;refine Xg 2 Z<|Xb 3 Z<|S Z (cV Z) Z<|XS O 2 [5,0] Z Z<|S Z (aB Z Z (show _=some (Y.int .i64 (.ofNat (u.asked+1))) from cI (a6 oM))) Z<|S Z (cV Z) Z<|S Z (Yv 5 Z) Z<|ks O (UM Z Z Z O.g0 (m:=1) Z Z (cells':=[_,_,_,_,_,_,_,_]) Z) (fun V O=>?_)
 refine Wo 5 Z<|S Z (cV Z) Z<|XS O 2 [2,0] Z Z<|S Z (aB Z Z (show _=some (Y.int .i64 (.ofNat (u.at_+1))) from cI (a6 oM))) Z<|S Z (cV Z) Z<|S Z (Yv 2 Z) Z<|ks O (UM Z Z Z O.g0 (m:=1) Z Z (cells':=[_,_,_,_,_,_,_,_]) Z) (fun V O=>?_);refine Wo 5 Z<|S Z (cV Z) Z<|S Z (Yv 7 Z) Z<|ks O (UM Z Z Z O.g0 (m:=1) Z Z (cells':=[_,_,_,_,_,_,_,_]) Z) (fun V O=>?_);replace O:H V K ((b1,.row (J4 c cv (eJ k c u vv) I C) 85 false)::(I,.row ((eJ k c u vv).bE.map gZ) 2 false)::(Me2++L)):=by rw[hS1];show H V K ((b1,.row [_,_,_,.slice I 0 (u.bE.set rg vv).length (.known (u.bE.set rg vv).length),_,_,_,_] 85 false)::_);rw[zg_];exact O
 refine Wm 3 Z (bq [58,59] (fun j t V=>∃(s:TS) (ev:Y) (Me:Own),CM c od s/\s.events.length+j<=u.events.length+1+od.length/\(∃q,od[q]? =some s.at_/\q<j)/\vo k c od.length (eJ k c u vv)=vo k c j s/\cO 5 40 iN s.events ev Me/\H V K ((b1,.row (J4 c cv s I ev) 85 false)::(I,.row (s.bE.map gZ) 2 false)::(Me++L))) (od.length) ⟨eJ k c u vv,C,Me2,hin1,by rw[hS1];show(u.events++[E]).length+_<=_;rw[lA_];show u.events.length+1+_<=_;omega,(gO_ hin1.at_).imp fun q hq=>⟨hq,(gA.1 hq).1⟩,Z,by rw[hS1];exact hO2,O⟩ ?_);clear O;intro j6 t V ar hI;obtain⟨s,ev,Me,N,hB,a2,he,hO,O⟩:=hI;obtain⟨oo,rfl⟩:=ar.q0 Z;refine Wi 4 Z ?_;obtain⟨q,hq,bi⟩:=a2;refine kw (Yu Z Z Z) (PN hG hc hi ⟨N.lt hR,N.bE,by omega⟩ oM hO O) ?_;rintro _ V ⟨C,Me2,rfl,hO2,O⟩;refine Xd 2 Z<|aG Z (fun Q=>?_) (fun Q=>?_)
 ·refine aH<|XK 3 Z ?_;obtain⟨xs,a3⟩:=da (N.lt hR);obtain⟨q2,bl,aq⟩:=Co hR a3 hq Q;have hel:=(r8 (k:=k) (c:=c) (s:=s)).2;refine aJ ⟨j6-1,by omega,oP Z<|oP Z<|oP Z<|oP Z<|oR _ _,_,C,Me2,N.step hR,by omega,⟨q2,aq,by omega⟩,he.trans<|Jg oM Q,hO2,O⟩
 have W:fo k c u vv=(cK k c s).1:=by rw[hB0,he];exact NU oM Q
 refine Wl 3 Z<|aQ ?_;exact nk Z ⟨C,Me2,by rw[W];exact hO2,by rw[W];exact O⟩
theorem Tj (hG:Plain G) {k:Nat} (hc:eO k c) (M:eV c=some od) (X:ft (du c) c.ins.length od) {cv:Y} (hi:bG K 6 (jA K k) c.ins cv) (hA:bG K 1 dB A va) (ap:A.length<=50) (O:H V K L):
  EC G 33 [.agg [.int .i64 c.bE,cv],va] V fun v V'=>∃tb rb ev Me,v= .ptr tb 0/\cO 5 40 iN (eM k c A).events ev Me/\H V' K ((tb,.row (J4 c cv (eM k c A) rb ev) 85 false)::(rb,.row ((eM k c A).bE.map gZ) 2 false)::(Me++L))/\CM c od (eM k c A):=by
 have hol:=rS hc M;have hb:=Kj (k:=k) M X;refine XD hG Tryz.func33 Z<|Xb 2 Z<|kb O (cL Z Z) (fun V b1 O=>?_);refine Wo 5 Z<|S Z (YE Z O.g0 Z) Z<|kw (Yu Z Z Z) (Sr hG hc M X hi O) ?_;rintro _ V ⟨b2,b3,aa,Me0,rfl,hO0,O⟩;refine VE 7 Z (S Z (Yx hA Z Z Z (e:=2) Z) Z (Wm 4 Z (bq ([7]++rg 12 13) (fun j t V=>∃(i:Nat) (s:TS) (ev:Y) (Me:Own),j+i=A.length/\CM c od s/\iI c s/\s.events.length<=(i+1)*16002/\s.asked<=i/\nP k c A (jE k c)=nP k c (A.drop i) s/\cO 5 40 iN s.events ev Me/\t.get 12=some (nI i)/\H V K ((b2,.row (J4 c cv s b3 ev) 85 false)::(b3,.row (s.bE.map gZ) 2 false)::(Me++(b1,.row [.int .i64 c.bE,cv] 49 false)::L))) (A.length) ⟨0,jE k c,aa,Me0,Z,hb.1,pg hc,by omega,by have:=(rM k c (iL c)<|pK c).2;exact Nat.le_of_eq this,Z,hO0,Z,O⟩ ?_)));clear O;intro j3 t V ar hI;obtain⟨i,s,ev,Me,aq,E,N,ax,aE,he,hO,Q,O⟩:=hI;obtain⟨oo,rfl⟩:=ar.q1 Q Z;refine Xa 6 Z<|aG Z (fun F=>?_) (fun F=>?_)
 ·refine UY 6 Z ?_;obtain⟨R,C,ac⟩:=dh F;refine Yp (e:=2) (m:=1) hA C Z Z Z Z (fun a0 am T ao W=>?_);obtain rfl:=W;refine S Z (Yz O T Z Z) Z<|VE 7 Z<|S Z (cV Z) Z<|XS O 2 [7,0] Z Z<|ky Z (ek Z) (fun I=>?_) (fun I=>?_)
  ·refine Ws 5 Z<|iE Z<|aT<|aV<|aQ<|XN 7 Z ?_;have u:eM k c A=s:=by unfold eM;rw[he];exact R6 C<|sL I
   exact az Z Z ⟨b2,b3,ev,Me,Z,by rw[u];exact hO,by rw[u];exact O.sub (.cons_cons _ (.cons_cons _<|fR (.cons _ (.refl _)))),by rw[u];exact E⟩
  have h20x:=I;refine Xd 3 Z (aH (XL 3 Z (kw (Yu Z Z Z) (PK hG hc M X hi E N (mM h20x) (by have:=aS F;have:(i+1)*16002<=50*16002:=nM_ _ oM;omega) oM R hO O) ?_)));rintro _ V ⟨ab,Me2,hO2,O⟩;refine ae<|aD<|XK 4 Z ?_;obtain⟨k1,k2,k3⟩:=GG hc M X E N (mM h20x) R;refine aJ ⟨j3-1,by omega,oF,i+1,_,ab,Me2,by omega,k1,qa hc _ _,by rw[Nat.add_mul];omega,by rw[k3];omega,he.trans<|Pl C<|mM h20x,hO2,cI<|a6 (by have:=hA.cQ;omega),O⟩
 refine Wl 3 Z<|aQ<|XN 7 Z ?_;have u:eM k c A=s:=by unfold eM;rw[he];exact Pk<|bI F
 exact az Z Z ⟨b2,b3,ev,Me,Z,by rw[u];exact hO,by rw[u];exact O.sub (.cons_cons _ (.cons_cons _<|fR (.cons _ (.refl _)))),by rw[u];exact E⟩
theorem yq {k:Nat} {s:TS} (h:iI c s) (u:s.asks=true) (v:Int):(eJ k c s v).at_∈du c s.at_:=by
 obtain⟨x,hx,hk⟩:=h u;show s.at_+1∈du c s.at_;unfold du;rw[hx];show _∈(fA x s.at_).map Int.toNat
 have:fA x s.at_= [.ofNat (s.at_+1)]:=by
  unfold fA;rcases hk with hk | hk | hk | hk<;>rw[hk]<;>rfl
 rw[this];simp
def xy (f:Nat->Nat) (l:List Nat) (m:Nat):Nat:=l.foldl (fun m t=>max m (f t)) m
theorem xR {f:Nat->Nat} {B_:Nat}:∀{l:List Nat} {m:Nat},m<=B_->(∀t∈l,f t<=B_)->xy f l m<=B_
 | [],_,hm,_=>hm
 | a::l,m,hm,h=>xR (l:=l) (Nat.max_le.2 ⟨hm,h a<|mS_ ..⟩) (fun t u=>h t (mC_ _ u))
theorem Fj {f:Nat->Nat}:∀{l:List Nat} {m:Nat},m<=xy f l m
 | [],_=>nR_ _
 | a::l,m=>Nat.le_trans (Nat.le_max_left _ _) (Fj (l:=l))
theorem xO {f:Nat->Nat}:∀{l:List Nat} {m t:Nat},t∈l->f t<=xy f l m
 | a::l,m,t,h=>by
  rcases mQ_.1 h with rfl | h
  ·exact Nat.le_trans (Nat.le_max_right _ _)<|Fj (l:=l)
  exact xO (l:=l) h
theorem Hz {f g:Nat->Nat} {l l':List Nat} (h:∀t,t∈l↔t∈l') (hf:∀t∈l,f t=g t):xy f l 0=xy g l' 0:=by
 refine Nat.le_antisymm (xR (Nat.zero_le _) fun t u=>?_)<|xR (Nat.zero_le _) fun t u=>?_
 ·rw[hf t u];exact xO ((h t).1 u)
 rw[<-hf t ((h t).2 u)];exact xO ((h t).2 u)
inductive Reach (nx:Nat->List Nat):Nat->Prop
 | zero:Reach nx 0
 | step {i t:Nat}:Reach nx i->t∈nx i->Reach nx t
def Ll (w:Nat->Nat) (nx:Nat->List Nat):Nat->Nat->Nat
 | 0,_=>0
 | k+1,i=>xy (Ll w nx k) (nx i) 0+w i
theorem Fi {w:Nat->Nat} {nx:Nat->List Nat} {n:Nat} {out:List Nat} (u:ft nx n out):∀(q i:Nat),out[q]? =some i->∀k,q<k->Ll w nx k i=Ll w nx (q+1) i:=by
 intro q;induction q using Nat.strongRecOn with
 | _ q ih=>
  intro i hi k hk;obtain⟨k,rfl⟩:∃m,k=m+1:=⟨k-1,by omega⟩;show xy _ _ _+_=xy _ _ _+_;rw[Hz (fun t=>Iff.rfl) (fun t A=>?_)];obtain⟨q',h1,h2⟩:=u.H2 q i hi t A
  grind
section
variable {nx:Nat->List Nat} {w:Nat->Nat} {r:Nat->Bool} {n:Nat}
end
section
variable {nx dx:Nat->List Nat} {w:Nat->Nat} {r:Nat->Bool} {n:Nat} {out:List Nat} {F H_:Nat->Nat}
end
structure Xy (nx:Nat->List Nat) (s:DS):Prop where
 open_:∀i:Nat,s.st[i]? =some 1->i∈s.path
 Yg:∀(j a b:Nat),s.path[j]? =some a->s.path[j+1]? =some b->b∈nx a
 reach:∀i∈s.path,Reach nx i
structure X7 (nx:Nat->List Nat) (n:Nat) (o:List Bool) (st:List Nat):Prop where
 len:o.length=n
 reach:∀i:Nat,o[i]? =some true->Reach nx i
 zero:o[0]? =some true
 Ys:∀i∈st,i<n/\o[i]? =some true
 closed:∀i:Nat,o[i]? =some true->i∈st∨∀t∈nx i,o[t]? =some true
structure X8 (nx:Nat->List Nat) (n:Nat) (o:List Bool) (st:List Nat) (a m:Nat) (dl:List Nat):Prop where
 len:o.length=n
 reach:∀i:Nat,o[i]? =some true->Reach nx i
 zero:o[0]? =some true
 Ys:∀i∈st,i<n/\o[i]? =some true
 at_:o[a]? =some true
 closed:∀i:Nat,o[i]? =some true->i∈st∨i=a∨∀t∈nx i,o[t]? =some true
 done:∀(q t:Nat),q<m->dl[q]? =some t->o[t]? =some true
section
variable {nx:Nat->List Nat} {n:Nat} {o:List Bool} {st:List Nat} {a m t:Nat} {dl:List Nat}
end
theorem IB {n:Nat} (h:n<=9223372036854775807):wr .i64 (Int.ofNat n)= .ofNat n:=by
 show(bif Nat.ble n 9223372036854775807 then _ else _)=_
 grind [nE_]
theorem Rq (a b:Nat):(bif cW (.ofNat a) (.ofNat b) then(.ofNat b:Int) else .ofNat a)= .ofNat (max a b):=by
 cases h:cW (.ofNat a) (.ofNat b) with
 | true=>have:=aS h;grind
 | false=>grind [bI,Nat.max_eq_left]
end Go.Ev
end
