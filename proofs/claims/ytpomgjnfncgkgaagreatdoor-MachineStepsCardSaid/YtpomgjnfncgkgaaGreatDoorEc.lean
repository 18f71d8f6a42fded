/- Part of the proof: an evaluator of the model's code, rules for walks on it, walks. Without conditions. -/
import Derived.Test.YtpomgjnfncgkgaaGreatDoorEb
import Derived.Test.YtpomgjnfncgkgaaGreatDoorProg
import Derived.KernelRfl
set_option linter.unusedSectionVars false
set_option linter.unusedVariables false
set_option linter.unusedSimpArgs false
noncomputable section
namespace Go.Ev
variable [Env]
abbrev LM:=List (List Int×Int)
inductive ft (n:Nat):List fC->LM->Prop
 | nil:ft n [] []
 | cons {e:fC} {k:List Int} {v:Int} {es:List fC} {m:LM}:k.length=n->e.key= .agg (ints k)->e.val= .int .i64 v->ft n es m->ft n (e::es) ((k,v)::m)
def p7:LM->List Int->Nat->Option (Nat×Int)
 | [],_,_=>none
 | (k',v)::m,k,i=>bif dk k k' then some (i,v) else p7 m k (i+1)
def gg (m:LM) (k:List Int):Option Int:=(p7 m k 0).map (·.2)
def p8 (m:LM) (k:List Int) (v:Int):LM:=
 match p7 m k 0 with
 | some (i,_)=>m.set i (k,v)
 | none=>m++[(k,v)]
def lK (m:LM) (k:List Int):LM:=
 match p7 m k 0 with
 | some (i,_)=>m.eraseIdx i
 | none=>m
theorem ft.length {n:Nat} {es:List fC} {m:LM} (h:ft n es m):es.length=m.length:=by
 induction h with
 | nil=>rfl
 | cons _ _ _ _ ih=>simp[ih]
theorem ft.set {n:Nat} {es:List fC} {m:LM} (h:ft n es m) {e:fC} {k:List Int} {v:Int} (h1:k.length=n) (h2:e.key= .agg (ints k)) (u:e.val= .int .i64 v):∀i,ft n (es.set i e) (m.set i (k,v)):=by
 induction h with
 | nil=>intro i;exact .nil
 | cons a b c d ih=>
  intro i;cases i with
  | zero=>exact .cons h1 h2 u d
  | succ i=>exact .cons a b c (ih i)
theorem ft.snoc {n:Nat} {es:List fC} {m:LM} (h:ft n es m) {e:fC} {k:List Int} {v:Int} (h1:k.length=n) (h2:e.key= .agg (ints k)) (u:e.val= .int .i64 v):ft n (es++[e]) (m++[(k,v)]):=by
 induction h with
 | nil=>exact .cons h1 h2 u .nil
 | cons a b c d ih=>exact .cons a b c ih
theorem ft.erase {n:Nat} {es:List fC} {m:LM} (h:ft n es m):∀i,ft n (es.eraseIdx i) (m.eraseIdx i):=by
 induction h with
 | nil=>intro i;exact .nil
 | cons a b c d ih=>
  intro i;cases i with
  | zero=>exact d
  | succ i=>exact .cons a b c (ih i)
theorem ft.at {n:Nat} {es:List fC} {m:LM} (h:ft n es m):∀{i:Nat} {k:List Int} {v:Int},m[i]?=some (k,v)->∃e,es[i]?=some e/\k.length=n/\e.key= .agg (ints k):=by
 induction h with
 | nil=>intro i k v u;simp at u
 | cons a b c d ih=>
  intro i k v u;cases i with
  | zero=>simp at u;obtain⟨rfl,rfl⟩:=u;exact⟨_,Z,a,b⟩
  | succ i=>simpa using ih (by simpa using u)
theorem wb:∀(es:List fC) (i:Nat),wa es i=es.eraseIdx i
 | [],_=>rfl
 | _::_,0=>rfl
 | e::es,i+1=>by
  show e::wa es i=e::es.eraseIdx i;rw[wb es i]
theorem qS:∀{m:LM} {k:List Int} {i j:Nat} {v:Int},p7 m k i=some (j,v)->i<=j/\m[j-i]?=some (k,v)
 | [],k,i,j,v,h=>by cases h
 | (k',v')::m,k,i,j,v,h=>by
  have h':(bif dk k k' then some (i,v') else p7 m k (i+1))=some (j,v):=h;cases u:dk k k' with
  | true=>
   rw[u] at h';cases h';rw[dc] at u;subst u;simp
  | false=>
   rw[u] at h';obtain⟨h1,h2⟩:=qS h';refine⟨by omega,?_⟩;rw[show j-i=j-(i+1)+1 by omega];simpa using h2
theorem rB:∀(xs:List Int),pL (ints xs) (ints xs)=true
 | []=>rfl
 | x::xs=>by
  have e:sa (.int .i64 x) (.int .i64 x)=some true:=by
   show(bif r9 .i64 .i64 then some (I x x) else none)=some true;rw[dF];simp[r9]
  show(match sa (.int .i64 x) (.int .i64 x) with | some true=>pL (ints xs) (ints xs) | _=>false)=true;rw[e];exact rB xs
section
variable {P:Program}
theorem wu {t:TypeId} {fs:Array Field} {n:Nat} (hu:P.underlying t=some (.struct fs)) (u:jL P t n=true) {k:List Int} (hk:k.length=n) {es:List fC} {m:LM} (h:ft n es m):∀i,pr P t (.agg<|ints k) es i=some ((p7 m k i).map fun x=>(x.1,.int .i64 x.2)):=by
 induction h with
 | nil=>intro i;rfl
 | @cons e k' v es m a b c d ih=>
  intro i
  have hq:py P t (.agg<|ints k) e.key=some (dk k k'):=by
   unfold py;rw[hu,b];exact wi u hk a
  show(match py P t (.agg<|ints k) e.key with
   | some true=>some (some (i,e.val))
   | some false=>pr P t (.agg<|ints k) es (i+1)
   | none=>none)=some (Option.map _ (bif dk k k' then some (i,v) else p7 m k (i+1)))
  rw[hq];cases dk k k' with
  | true=>rw[c];rfl
  | false=>exact ih (i+1)
structure C4 (P:Program) (t kt et:TypeId) (n:Nat):Prop where
 ty:P.underlying t=some (.map kt et)
 plain:plainKey P kt=true
 ints:jL P kt n=true
 zero:fB P et=some (.int .i64 0)
 shape:∀k:List Int,k.length=n->mI P kt (.agg<|Go.Ev.ints k)=true
theorem lI {t:TypeId} {n:Nat} (h:jL P t n=true):∃fs,P.underlying t=some (.struct fs):=by
 unfold jL at h;split at h
 ·rename_i fs u;unfold structOf at u;rw[ow] at u;split at u
  ·rename_i fs' hu;exact⟨_,hu⟩
  cases u
 cases h
variable {G:Cx} {ev:Operand->Option V} {U:D}
theorem J5 {t kt et:TypeId} {n:Nat} (u:C4 P t kt et n) {b:Nat} {es:List fC} {ck:Nat} {m:LM} (hm:ft n es m) (hb:U.m.get b=some (.map es ck)) {mo ko xo:Operand} {k:List Int} {v:Int} (hk:k.length=n) (h1:ev mo=some (.map b)) (h2:ev ko=some (.agg<|ints k)) (A:ev xo=some (.int .i64 v)):
  ∃es' ck',dW P G ev U (.mapUpdate t mo ko xo)= .skip (U.setObj b (.map es' ck'))/\ft n es' (p8 m k v):=by
 obtain⟨fs,hu⟩:=lI u.ints;have hf:=wu hu u.ints hk hm 0
 have key:∃es' ck',nq P U t (.map b) (.agg<|ints k) (.int .i64 v)=some (U.setObj b (.map es' ck'))/\ft n es' (p8 m k v):=by
  unfold nq p8;rw[u.ty];dsimp only;rw[hb];dsimp only;rw[u.plain,u.shape k hk];simp only[Bool.and_self,cond_true];rw[hf];cases hl:p7 m k 0 with
  | none=>exact⟨_,_,Z,by rw[dV];exact hm.snoc hk Z Z⟩
  | some x=>
   obtain⟨i,v0⟩:=x;have hi:=(qS hl).2;rw[Nat.sub_zero] at hi;obtain⟨e,he,_,z⟩:=hm.at hi;simp only[Option.map_some];rw[eF,he];dsimp only;have C:sameKey e.key (.agg<|ints k)=true:=by rw[z];exact rB k
   rw[C];exact⟨_,_,Z,by unfold Aq;rw[ud];exact hm.set (e:={key:=.agg<|ints k,val:=.int .i64 v,born:=e.born}) hk Z Z i⟩
 obtain⟨es',ck',h4,h5⟩:=key;refine⟨es',ck',kZ Z ?_,h5⟩;simp only[gz,h1,h2,A,h4]
theorem J4 {t kt et:TypeId} {n:Nat} (u:C4 P t kt et n) {b:Nat} {es:List fC} {ck:Nat} {m:LM} (hm:ft n es m) (hb:U.m.get b=some (.map es ck)) {mo ko:Operand} {k:List Int} (hk:k.length=n) (h1:ev mo=some (.map b)) (h2:ev ko=some (.agg<|ints k)):
  dW P G ev U (.lookup t mo ko true)= .val (.tuple [.int .i64 ((gg m k).getD 0),.bool (gg m k).isSome]) U:=by
 obtain⟨fs,hu⟩:=lI u.ints;have hf:=wu hu u.ints hk hm 0;refine AN Z ?_;simp only[gW,u.ty,h2,h1,hb,u.plain,u.shape k hk,Bool.and_self,cond_true,hf,u.zero];unfold gg;cases p7 m k 0 with
 | none=>rfl
 | some x=>rfl
theorem J1 {c:Call} {t kt et:TypeId} {n:Nat} (u:C4 P t kt et n) {b:Nat} {es:List fC} {ck:Nat} {m:LM} (hm:ft n es m) (hb:U.m.get b=some (.map es ck)) {mo ko:Operand} {k:List Int} (hk:k.length=n) (hc:c.callee= .builtin .delete) (z:c.argTypes[0]?=some t) (A:c.args.toList= [mo,ko]) (h1:ev mo=some (.map b)) (h2:ev ko=some (.agg<|ints k)):
  ∃es',dW P G ev U (.call c)= .val (.tuple []) (U.setObj b (.map es' ck))/\ft n es' (lK m k):=by
 obtain⟨fs,hu⟩:=lI u.ints;have hf:=wu hu u.ints hk hm 0
 have key:∃es',qH P U c.argTypes (.map b) (.agg<|ints k)=some (U.setObj b (.map es' ck))/\ft n es' (lK m k):=by
  unfold qH lK;rw[z];dsimp only;rw[u.ty];dsimp only;rw[hb];dsimp only;rw[u.plain,u.shape k hk];simp only[Bool.and_self,cond_true];rw[hf];cases hl:p7 m k 0 with
  | none=>exact⟨_,Z,hm⟩
  | some x=>
   obtain⟨i,v0⟩:=x;exact⟨_,Z,by rw[wb];exact hm.erase i⟩
 obtain⟨es',h4,h5⟩:=key;refine⟨es',kZ (by simp[kindOf,hc]) ?_,h5⟩
 have he:tN ev [mo,ko]=some [.map b,.agg<|ints k]:=by
  unfold tN cW;simp only[h1,h2]
 simp only[gz,hc,A,he,h4]
theorem J3 {c:Call} {t kt et:TypeId} {n:Nat} (u:C4 P t kt et n) {b:Nat} {es:List fC} {ck:Nat} {m:LM} (hm:ft n es m) (hb:U.m.get b=some (.map es ck)) {mo:Operand} (hc:c.callee= .builtin .len) (z:c.argTypes[0]?=some t) (A:c.args.toList= [mo]) (h1:ev mo=some (.map b)):
  dW P G ev U (.call c)= .val (.int .i64 (.ofNat m.length)) U:=by
 refine AN (by simp[kindOf,hc,isMap,z,u.ty]) ?_;simp only[gW,hc,z,A,u.ty,h1,hb,bK,hm.length]
end
section
variable {P:Program} {G:Cx} {n:Nat} {t:N V} {U:D} {K:KP} {L:Own} {Q:Ex->N V->D->Prop} {ops:Array Oper} {o:Oper} {l:List Oper}
theorem Od (u:J U K L) {t':Nat->N V} (hw:bM ops t o=some true) (hv:dW P G (bE G t) U o.op= .val (.map U.next) (U.alloc (.map [] 0))) (hp:∀b,dI t n o.dst (.map b)=some (t' b))
  (h:∀(U':D) (b:Nat),J U' K ((b,.map [] 0)::L)->bP P G ops n l (t' b) U' Q):bP P G ops n (o::l) t U Q:=
 O hw hv (hp _) (h _ _<|u.alloc _)
theorem Hz {ev:Operand->Option V} {ty:TypeId}:dW P G ev U (.makeMap ty none)= .val (.map U.next) (U.alloc (.map [] 0)):=by
 exact tz (op:=.makeMap ty none) (mk:=.map) (ob:=.map [] 0) Z Z
theorem G8 {ty kt et:TypeId} {kn:Nat} (z:C4 P ty kt et kn) {b:Nat} {es:List fC} {ck:Nat} {m:LM} {x:Nat×cG} (hm:ft kn es m) (u:J U K (x::(b,.map es ck)::L)) {mo ko xo:Operand} {k:List Int} {v:Int} {t':N V} (hk:k.length=kn) (hw:bM ops t o=some true) (A:o.op= .mapUpdate ty mo ko xo)
  (h1:bE G t mo=some (.map b)) (h2:bE G t ko=some (.agg<|ints k)) (C:bE G t xo=some (.int .i64 v)) (hp:dI t n o.dst unit=some t')
  (h:∀U' es' ck',J U' K (x::(b,.map es' ck')::L)->ft kn es' (p8 m k v)->bP P G ops n l t' U' Q):bP P G ops n (o::l) t U Q:=by
 obtain⟨es',ck',e1,E⟩:=J5 (G:=G) z hm (u.get 1 Z) hk h1 h2 C;exact iO hw (by rw[A];exact e1) hp<|h _ _ _ (u.Lr _) E
theorem G7 {c:Call} {ty kt et:TypeId} {kn:Nat} (z:C4 P ty kt et kn) {b:Nat} {es:List fC} {ck:Nat} {m:LM} {x:Nat×cG} (hm:ft kn es m) (u:J U K (x::(b,.map es ck)::L)) {mo ko:Operand} {k:List Int} {t':N V} (hk:k.length=kn) (hw:bM ops t o=some true) (A:o.op= .call c)
  (hc:c.callee= .builtin .delete) (C:c.argTypes[0]?=some ty) (E:c.args.toList= [mo,ko]) (h1:bE G t mo=some (.map b)) (h2:bE G t ko=some (.agg<|ints k)) (hp:dI t n o.dst (.tuple [])=some t')
  (h:∀U' es',J U' K (x::(b,.map es' ck)::L)->ft kn es' (lK m k)->bP P G ops n l t' U' Q):bP P G ops n (o::l) t U Q:=by
 obtain⟨es',e1,F⟩:=J1 (G:=G) z hm (u.get 1 Z) hk hc C E h1 h2;exact O hw (by rw[A];exact e1) hp<|h _ _ (u.Lr _) F
end
end Go.Ev
namespace Go.Ev
variable [Env]
def wL (t:Nat) (m:LM) (n:Nat) (e:db):LM:=bif bq e then p8 m [.ofNat (t+1),.ofNat n] e.loc else m
def rm (t:Nat):List db->Nat->LM->LM
 | [],_,m=>m
 | e::l,n,m=>rm t l (n+1) (wL t m n e)
def pD:List (List db)->Nat->LM->LM
 | [],_,m=>m
 | l::r,t,m=>pD r (t+1) (rm t l 0 m)
def lQ (loc:Nat):List dw->LM->Option LM
 | [],m=>some m
 | id::l,m=>bif (gg m id.ints).isSome then(bif I ((gg m id.ints).getD 0) (.ofNat loc) then lQ loc l (lK m id.ints) else none) else none
def nw:List (List dw)->Nat->LM->Option LM
 | [],_,m=>some m
 | l::r,loc,m=>(lQ loc l m).bind (nw r (loc+1))
def eB (g:XG):Bool:=
 match nw g.order 0 (pD g.threads 0 []) with
 | some m=>I (.ofNat m.length) 0
 | none=>false
theorem cR {α:Type} {l:List α} {i:Nat} {x:α} (h:l[i]?=some x):l.drop i=x::l.drop (i+1):=by
 obtain⟨u,hx⟩:=gA.1 h;rw[List.drop_eq_getElem_cons u,hx]
theorem fO {α:Type} {l:List α} {i:Nat} (h:l.length<=i):l.drop i= []:=List.drop_eq_nil_of_le h
end Go.Ev
namespace Go.Ev
theorem kA {b:Bool} (h:(!b)=true):b=false:=by cases b<;>simp_all
theorem eV {b:Bool} (h:(!b)=false):b=true:=by cases b<;>simp_all
end Go.Ev
namespace Go.Ev
variable [Env]
def tS {α:Type} (p:α->Bool):List α->Nat->Int
 | [],_=>-1
 | x::r,i=>bif p x then .ofNat i else tS p r (i+1)
theorem wK {α:Type} {p:α->Bool}:∀(l:List α) (i:Nat),(bif bU (tS p l i) 0 then false else true)=l.any p
 | [],_=>rfl
 | x::r,i=>by
  show(bif bU (bif p x then .ofNat i else tS p r (i+1)) 0 then false else true)=_;rw[List.any_cons];cases p x with
  | true=>rfl
  | false=>exact wK r (i+1)
def yf (g:XG) (t n:Nat) (e:db) (f:dw):Bool:=bif bW e (.ofNat g.init.length) then dJ g ⟨.ofNat (t+1),.ofNat n⟩ f else false
def qo (g:XG) (t:Nat):List db->List dw->Nat->Bool
 | e::l,f::q,n=>bif yf g t n e f then qo g t l q (n+1) else false
 | [],_,_=>true
 | _::_,[],_=>false
def lu (g:XG):List (List db)->List (List dw)->Nat->Bool
 | l::r,f::q,t=>bif I (.ofNat f.length) (.ofNat l.length) then(bif qo g t l f 0 then lu g r q (t+1) else false) else false
 | [],_,_=>true
 | _::_,[],_=>false
def cd (g:XG):Int:=
 bif eK g then 3 else bif I (.ofNat g.from_.length) (.ofNat g.threads.length) then(bif I (.ofNat g.order.length) (.ofNat g.init.length) then(bif lu g g.threads g.from_ 0 then(bif eB g then 0 else 2) else 2) else 2) else 2
theorem xD:∀(l:List V) (off:Nat),dG [] l off=l
 | [],_=>rfl
 | x::l,0=>rfl
 | x::l,off+1=>by
  show x::dG [] l off=x::l;rw[xD l off]
def pK (P:Program) (e:TypeId) (m:Nat):Bool:=
 match P.info? e with
 | some j=>Nat.beq j.size m && (Nat.ble 1 j.size && (Nat.ble j.bytes 65536 && ((j.zero.bind qb).any fun z=>(cS z).any fun cs=>Nat.beq (cX cs) j.size)))
 | none=>false
theorem uq:∀(l r:List V),cD l=true->cD r=true->cD (l++r)=true
 | [],r,_,h=>h
 | v::l,r,h,h'=>by
  have h1:(bif iB v then cD l else false)=true:=h;cases hv:iB v with
  | false=>rw[hv] at h1;cases h1
  | true=>rw[hv] at h1;exact ah hv<|uq l r h1 h'
theorem uN {m:Nat}:∀(n:Nat) (cells:List V),cells.length=n*m->(∀i,i<n->cD ((cells.drop (i*m)).take m)=true)->cD cells=true
 | 0,cells,h,_=>by
  rw[Nat.zero_mul] at h;rw[eN_ h];rfl
 | n+1,cells,h,u=>by
  have e:cells=cells.take m++cells.drop m:=(List.take_append_drop m cells).symm;rw[Nat.succ_mul] at h;rw[e];refine uq _ _ (by have:=u 0 B;rwa[Nat.zero_mul,List.drop_zero] at this) (uN (m:=m) n (cells.drop m) (by rw[lD_];omega) fun i hi=>?_);have:=u (i+1) B;rwa[show(i+1)*m=m+i*m by rw[Nat.succ_mul,Nat.add_comm],<-List.drop_drop] at this
section
variable {P:Program} {G:Cx} {U:D} {K:KP} {L:Own}
theorem om {α:Type} {m:Nat} {R:α->List V->Prop} {l:List α} {v:V} (aq:J U K L) (h:bR K m R l v) (u:∀x vs,R x vs->cD vs=true):
  ∃news,kV U m v=some (l.length,news)/\news.length=l.length*m/\cD news=true/\∀(i:Nat) (x:α),l[i]?=some x->R x ((news.drop (i*m)).take m):=by
 rcases h with ⟨rfl,rfl⟩ | ⟨b,off,c,cells,e,ro,rfl,h2,C,h4,h5,E⟩
 ·exact⟨[],Z,(Nat.zero_mul m).symm,Z,fun i x hx=>by simp at hx⟩
 have A:∀(i:Nat) (x:α),l[i]?=some x->R x ((((cells.drop off).take (l.length*m)).drop (i*m)).take m):=fun i x hx=>by
  have z:i<l.length:=(gA.1 hx).1;have hle:(i+1)*m<=l.length*m:=nM_ _ z;rw[Nat.succ_mul] at hle;rw[List.drop_take,List.take_take,Nat.min_eq_left B,List.drop_drop];exact E i x hx
 have hn:((cells.drop off).take (l.length*m)).length=l.length*m:=by rw[lT_,lD_];omega
 refine⟨(cells.drop off).take (l.length*m),?_,hn,uN l.length _ hn fun i hi=>u _ _ (A i l[i]<|gC hi),A⟩;unfold kV;dsimp only;rw[aq.fq C];dsimp only;rw[bK,show Nat.ble (off+l.length*m) cells.length=true by rw[nE_];exact h4,du,dO];rfl
theorem xR {α:Type} {m e:Nat} {R:α->List V->Prop} {l2:List α} {v2:V} {b len1 e1:Nat} {fM:List V} {c:pH} {ts:Array TypeId} {t:TypeId} (M:J U K ((b,.row fM e1 false)::L)) (hx:bR K m R l2 v2) (F:∀x vs,R x vs->cD vs=true) (hn:l2.length<=1048576)
  (C:fM.length=len1*m) (ab:len1<=1048576) (W:c= .known len1∨(c= .upto m/\e1=e)) (ht:ts[0]?=some t) (hu:P.underlying t=some (.slice e)) (X:pK P e m=true) (h2:dt P ts[1]?=true):
  ∃U' b' c' news e',fX P U ts (.slice b 0 len1 c) v2= .val (.slice b' 0 (len1+l2.length) c') U'/\J U' K ((b',.row (fM++news) e' false)::L)/\news.length=l2.length*m/\(∀(i:Nat) (x:α),l2[i]?=some x->R x ((news.drop (i*m)).take m))/\(c'= .known (len1+l2.length)∨(c'= .upto m/\e'=e)):=by
 obtain⟨news,s1,s2,s3,s4⟩:=om M hx F;unfold pK at X;split at X
 ·rename_i j hj;simp only[bA_] at X;obtain⟨a1,a2,a3,a4⟩:=X;have hm:j.size=m:=nB a1;subst hm;have hz:((P.info? e).any fun j=>(j.zero.bind qb).any fun z=>(cS z).any fun cs=>Nat.beq (cX cs) j.size)=true:=by rw[hj];exact a4
  have hb:=M.get 0 Z;unfold fX;rw[ht];dsimp only;rw[hu];dsimp only;rw[hj];dsimp only;rw[h2,a2,a3];simp only[Bool.and_self,cond_true];rw[s1];dsimp only;rw[hj] at hz;rw[s3,show Nat.ble l2.length 1048576=true by rw[nE_];exact hn,hz];simp only[Bool.and_self,cond_true];have hle:Nat.ble (0+len1*j.size) (cX fM)=true:=by rw[nE_,bK,C];omega
  have A:takeN (dS fM 0) (len1*j.size)=fM:=by rw[du,dO,List.drop_zero,<-C,List.take_length]
  have E:Nat.ble len1 1048576=true:=by rw[nE_];exact ab
  rcases W with rfl | ⟨rfl,rfl⟩
  ·dsimp only
   by_cases h0:l2.length=0
   ·have u:news= []:=eN_ (by rw[s2,h0,Nat.zero_mul]);subst u;rw[h0,show Nat.ble (len1+0) len1=true by rw[nE_];exact nR_ _];simp only[cond_true];rw[hb];dsimp only;rw[show Nat.ble (0+len1*j.size+cX []) (cX fM)=true by rw[nE_,bK,bK,C];simp];simp only[cond_true];refine⟨_,b,.known len1,[],e1,Z,?_,by simp,s4,.inl Z⟩;rw[xD,List.append_nil];exact M.pf _
   have:Nat.ble (len1+l2.length) len1=false:=by
    cases hh:Nat.ble (len1+l2.length) len1 with
    | false=>rfl
    | true=>rw[nE_] at hh;omega
   rw[this];simp only[cond_false];rw[hb];dsimp only;rw[hle,E,A,dV];simp only[Bool.and_self,cond_true];refine⟨_,_,_,news,e,Z,?_,s2,s4,.inr ⟨Z,Z⟩⟩;exact((M.alloc _).perm<|List.Perm.swap ..).pop
  dsimp only
  by_cases h0:l2.length=0
  ·have u:news= []:=eN_ (by rw[s2,h0,Nat.zero_mul]);subst u;rw[h0];exact⟨_,b,.upto j.size,[],e1,Z,by rw[List.append_nil];exact M,by simp,s4,.inr ⟨Z,Z⟩⟩
  have:Nat.beq l2.length 0=false:=by
   cases hh:Nat.beq l2.length 0 with
   | false=>rfl
   | true=>exact absurd (nB hh) h0
  rw[this,Nat.beq_refl,E];simp only[Bool.and_self,cond_true,cond_false];rw[hb];dsimp only
  have aa:Nat.ble (0+len1*j.size+cX news) (cX fM)=false:=by
   cases hh:Nat.ble (0+len1*j.size+cX news) (cX fM) with
   | false=>rfl
   | true=>
    rw[nE_,bK,bK,C,s2] at hh;have h1:1<=j.size:=by simpa [nE_] using a2
    have:1<=l2.length*j.size:=Nat.mul_pos B h1;omega
  rw[aa,Bool.and_false];simp only[cond_false];rw[hle,Nat.beq_refl,A,dV];simp only[Bool.and_self,cond_true];exact⟨_,_,_,news,e1,Z,M.xq _,s2,s4,.inr ⟨Z,Z⟩⟩
 cases X
end
section
variable {P:Program} {G:Cx} {n:Nat} {t:N V} {U:D} {K:KP} {L:Own} {Q:Ex->N V->D->Prop} {ops:Array Oper} {o:Oper} {l:List Oper}
theorem dM {ev:Operand->Option V} {cl:Call} {so xo:Operand} {s x:V} {r:HR} (hc:cl.callee= .builtin .append) (z:cl.args.toList= [so,xo]) (h1:ev so=some s) (h2:ev xo=some x) (u:dt P cl.argTypes[1]?=true) (h:fX P U cl.argTypes s x=r):dW P G ev U (.call cl)=r:=by
 refine kZ (by simp[kindOf,hc]) ?_
 have he:tN ev [so,xo]=some [s,x]:=by
  unfold tN cW;simp only[h1,h2]
 simp only[gz,hc,z,he,u,cond_true];exact h
theorem n9 {α:Type} {m e:Nat} {R:α->List V->Prop} {l2:List α} {X:V} {b len1 e1:Nat} {fM:List V} {c:pH} {ty:TypeId} {cl:Call} {so xo:Operand} {t':V->N V} (hs:J U K ((b,.row fM e1 false)::L)) (hx:bR K m R l2 X) (u:∀x vs,R x vs->cD vs=true) (hn:l2.length<=1048576)
  (C:fM.length=len1*m) (E:len1<=1048576) (A:c= .known len1∨(c= .upto m/\e1=e)) (hw:bM ops t o=some true) (ho:o.op= .call cl) (F:cl.callee= .builtin .append) (z:cl.args.toList= [so,xo]) (ht:cl.argTypes[0]?=some ty) (hu:P.underlying ty=some (.slice e)) (ha:pK P e m=true) (h2:dt P cl.argTypes[1]?=true)
  (M:bE G t so=some (.slice b 0 len1 c)) (W:bE G t xo=some X) (hp:∀v,dI t n o.dst v=some (t' v))
  (h:∀(U':D) (b':Nat) (c':pH) (news:List V) (e':Nat),J U' K ((b',.row (fM++news) e' false)::L)->news.length=l2.length*m->(∀(i:Nat) (x:α),l2[i]?=some x->R x ((news.drop (i*m)).take m))->(c'= .known (len1+l2.length)∨(c'= .upto m/\e'=e))->bP P G ops n l (t' (.slice b' 0 (len1+l2.length) c')) U' Q):bP P G ops n (o::l) t U Q:=by
 obtain⟨U',b',c',news,e',k1,k2,k3,k4,k5⟩:=xR (P:=P) hs hx u hn C E A ht hu ha h2;refine O hw ?_ (hp _)<|h U' b' c' news e' k2 k3 k4 k5;rw[ho];exact dM F z M W h2 k1
end
end Go.Ev
namespace Go.Ev
variable [Env]
section
variable {P:Program} {G:Cx} {n:Nat} {t:N V} {U:D} {K:KP} {L:Own} {Q:Ex->N V->D->Prop} {ops:Array Oper} {o:Oper} {l:List Oper}
theorem xy {α:Type} {m e k:Nat} {kk:IntKind} {R:α->List V->Prop} {la:List α} {v:V} {ty:TypeId} {ev:Operand->Option V} {xo hi:Operand} (h:bR K m R la v) (hk:k<=la.length) (hu:P.underlying ty=some (.slice e)) (hj:(P.info? e).map (·.size)=some m) (hx:ev xo=some v) (C:ev hi=some (.int kk (.ofNat k))):
  ∃w,fo P ev ty xo none (some hi) none=some w/\bR K m R (la.take k) w:=by
 cases hq:P.info? e with
 | none=>rw[hq] at hj;cases hj
 | some j=>
 rw[hq] at hj;have hj:j.size=m:=by simpa using hj
 subst hj;have hlen:(la.take k).length=k:=by rw[lT_];omega
 have hb:∀y,k<=y->eI ev hi y=some k:=fun y hy=>by
  unfold eI;rw[C];dsimp only;rw[show Nat.ble k y=true by rw[nE_];exact hy];rfl
 rcases h with ⟨rfl,rfl⟩ | ⟨b,off,c,cells,e',ro,rfl,h2,E,h4,h5,F⟩
 ·have z:k=0:=by simpa using hk
  subst z;refine⟨.ax,?_,.inl ⟨by simp,Z⟩⟩;unfold fo;rw[hu,hx];dsimp only;unfold da;dsimp only;rw[hb 0<|nR_ _,hq]
 have fin:∀c',LU j.size k c'->bR K j.size R (la.take k) (.slice b off k c'):=fun c' A=>by
  refine .inr ⟨b,off,c',cells,e',ro,by rw[hlen],by rw[hlen];exact A,E,?_,by rw[hlen];omega,fun i x u=>?_⟩
  ·rw[hlen];have:k*j.size<=la.length*j.size:=nM_ _ hk;omega
  rw[List.getElem?_take] at u;split at u
  ·exact F i x u
  cases u
 rcases h2 with rfl | ⟨cp,rfl,aa⟩
 ·refine⟨.slice b off k (.upto j.size),?_,fin _ (.inl Z)⟩;unfold fo;rw[hu,hx];dsimp only;unfold da;dsimp only;rw[hb _ hk,hq];dsimp only;rw[Nat.beq_refl,Nat.zero_mul,Nat.add_zero,Nat.sub_zero];rfl
 refine⟨.slice b off k (.known cp),?_,fin _ (.inr ⟨cp,Z,by omega⟩)⟩;unfold fo;rw[hu,hx];dsimp only;unfold cutAt da;dsimp only;rw[hb _ B];dsimp only;unfold cut;rw[hq];dsimp only;rw[Nat.sub_zero,Nat.sub_zero,Nat.zero_mul,Nat.add_zero];cases Nat.beq cp 0<;>rfl
theorem G9 {α:Type} {m e k:Nat} {kk:IntKind} {R:α->List V->Prop} {la:List α} {v:V} {ty:TypeId} {xo hi:Operand} {t':V->N V} (h:bR K m R la v) (hk:k<=la.length) (hw:bM ops t o=some true) (u:o.op= .slice ty xo none (some hi) none)
  (hu:P.underlying ty=some (.slice e)) (hj:(P.info? e).map (·.size)=some m) (hx:bE G t xo=some v) (z:bE G t hi=some (.int kk (.ofNat k))) (hp:∀v,dI t n o.dst v=some (t' v))
  (hc:∀w,bR K m R (la.take k) w->bP P G ops n l (t' w) U Q):bP P G ops n (o::l) t U Q:=by
 obtain⟨w,h1,h2⟩:=xy (P:=P) h hk hu hj hx z;refine O hw ?_ (hp w)<|hc w h2;rw[u];exact bn Z h1
end
theorem cK {g:XG} (h:cd g=0):g.threads.length<=4/\g.init.length<=6/\(∀l∈g.threads,l.length<=14)/\g.from_.length=g.threads.length/\g.order.length=g.init.length/\lu g g.threads g.from_ 0=true/\eB g=true:=by
 unfold cd at h;cases h1:eK g with
 | true=>rw[h1] at h;cases h
 | false=>
  rw[h1] at h;simp only[cond_false] at h;cases h2:I (.ofNat g.from_.length) (.ofNat g.threads.length) with
  | false=>rw[h2] at h;cases h
  | true=>
   rw[h2] at h;simp only[cond_true] at h;cases u:I (.ofNat g.order.length) (.ofNat g.init.length) with
   | false=>rw[u] at h;cases h
   | true=>
    rw[u] at h;simp only[cond_true] at h;cases h4:lu g g.threads g.from_ 0 with
    | false=>rw[h4] at h;cases h
    | true=>
     rw[h4] at h;simp only[cond_true] at h;cases h5:eB g with
     | false=>rw[h5] at h;cases h
     | true=>
      unfold eK at h1;cases z:bU 4 (.ofNat g.threads.length) with
      | true=>rw[z] at h1;cases h1
      | false=>
       rw[z] at h1;simp only[cond_false] at h1;cases k2:bU 6 (.ofNat g.init.length) with
       | true=>rw[k2] at h1;cases h1
       | false=>
        rw[k2] at h1;simp only[cond_false] at h1;refine⟨bC (a:=4) z,bC (a:=6) k2,fun l hl=>?_,dB h2,dB u,Z,Z⟩;have:=List.any_eq_false.1 h1 l hl;exact bC (a:=14) (by simpa using this)
theorem F4 {a b:Nat} (h:a+b<=9223372036854775807):wr .i64 (Int.add (.ofNat a) (.ofNat b))= .ofNat (a+b):=by
 show(bif Nat.ble (a+b) 9223372036854775807 then _ else _)=_;rw[show Nat.ble (a+b) 9223372036854775807=true by rw[nE_];exact h];rfl
def nM {α:Type} (ls:List (List α)):Nat:=(ls.map List.length).sum
def Dq (g:XG):Nat:=bif I (cd g) 0 then g.init.length+nM g.threads else 0
end Go.Ev
namespace Go.Ev
variable [Env]
theorem sH {a:Int} (h:I a 0=true):a=0:=by rw[dF] at h;exact of_decide_eq_true h
theorem kY {a b:Nat} (h:b<=a) (h':a<=9223372036854775807):wr .i64 (Int.sub (.ofNat a) (.ofNat b))= .ofNat (a-b):=by
 have e:Int.sub (.ofNat a) (.ofNat b)= .ofNat (a-b):=by
  show((a:Nat):Int)-(b:Int)=((a-b:Nat):Int);omega
 rw[e];show(bif Nat.ble (a-b) 9223372036854775807 then _ else _)=_;rw[show Nat.ble (a-b) 9223372036854775807=true by rw[nE_];omega];rfl
theorem Ii {g:XG} {th ix:Int} (h:(fh g ⟨th,ix⟩).isSome=true):∃t i:Nat,th= .ofNat t/\ix= .ofNat i/\t<=g.threads.length/\(t=0->i<g.init.length)/\∀m,t=m+1->∃l,g.threads[m]?=some l/\i<l.length:=by
 cases th with
 | negSucc t=>cases h
 | ofNat t=>cases ix with
  | negSucc i=>cases t<;>cases h
  | ofNat i=>
   refine⟨t,i,Z,Z,?_,?_,?_⟩
   ·cases t with
    | zero=>exact Nat.zero_le _
    | succ t=>
     have h:((g.threads[t]?).bind (·[i]?)).isSome=true:=h
     cases hl:g.threads[t]? with
     | none=>rw[hl] at h;cases h
     | some l=>exact(gA.1 hl).1
   ·rintro rfl;have h:((g.init[i]?).map fun v=>(⟨2,i,1,0,v⟩:db)).isSome=true:=h;cases hl:g.init[i]? with
    | none=>rw[hl] at h;cases h
    | some l=>exact(gA.1 hl).1
   rintro m rfl;have h:((g.threads[m]?).bind (·[i]?)).isSome=true:=h
   cases hl:g.threads[m]? with
   | none=>rw[hl] at h;cases h
   | some l=>
    rw[hl] at h;have h:(l[i]?).isSome=true:=h;refine⟨l,Z,?_⟩;cases u:l[i]? with
    | none=>rw[u] at h;cases h
    | some x=>exact(gA.1 u).1
section
variable {U:D} {K K':KP} {L:Own}
theorem J.weaken (h:J U K' L) (hk:KP.le K K'):J U K L where
 kept b o hb:=h.kept b o (hk b o hb)
 own:=h.own
 ne:=h.ne
def KP.ic (K:KP) (M:Own):KP:=fun b o=>K b o∨(b,o)∈M
theorem KP.bX (K:KP) (M:Own):KP.le K (K.ic M):=fun _ _ h=>.inl h
theorem KP.gF {M:Own} (k:Nat) {b:Nat} {o:cG} (h:M[k]?=some (b,o)):K.ic M b o:=.inr (gB_ h)
theorem J.keeps {M:Own} (h:J U K (M++L)):J U (K.ic M) L where
 kept b o hb:=by
  rcases hb with hb | hb
  ·exact h.aQ.kept b o hb
  obtain⟨h1,h2⟩:=h.own _ (List.mem_append_left _ hb);exact⟨h1,h2,fun e he u=>(List.pairwise_append.1 h.ne).2.2 _ hb e he u.symm⟩
 own e he:=h.own e (List.mem_append_right _ he)
 ne:=(List.pairwise_append.1 h.ne).2.1
end
section
variable {P:Program} {G:Cx} {K K':KP}
def Mn (P:Program) (G:Cx) (K:KP) (n:Int) (vs:List V):Prop:=
 ∃(f:Nat) (ca:List V),vs= [.func f [] ca]/\zV P f=true/\∀(U:D) (L:Own),J U K L->bk P G f ca U fun v U'=>v= .int .i64 n/\J U' K L
def vE (P:Program) (G:Cx) (K:KP) (l:List Int) (cells:List V):Prop:=l.length=cells.length/\∀(i:Nat) (x:Int),l[i]?=some x->∃c,cells[i]?=some c/\Mn P G K x [c]
theorem vE.nil:vE P G K [] []:=⟨Z,fun i x h=>by simp at h⟩
theorem vE.cons {x:Int} {l:List Int} {c:V} {cells:List V} (h:Mn P G K x [c]) (u:vE P G K l cells):vE P G K (x::l) (c::cells):=by
 refine⟨by simp[u.1],fun i y hy=>?_⟩;cases i with
 | zero=>simp only[List.getElem?_cons_zero,oJ_] at hy;subst hy;exact⟨c,Z,h⟩
 | succ i=>exact u.2 i y (by simpa using hy)
theorem vE.slice {l:List Int} {cells:List V} (h:vE P G K l cells) {b e n c:Nat} (hk:K b (.row cells e false)) (hn:l.length=n) (hc:n<=c) (hl:n<=9223372036854775807):bR K 1 (Mn P G K) l (.slice b 0 n (.known c)):=by
 subst hn;refine .inr ⟨b,0,_,cells,e,false,Z,.inr ⟨_,Z,hc⟩,hk,by rw[h.1];omega,hl,fun i x hx=>?_⟩;obtain⟨c,hc,z⟩:=h.2 i x hx
 have:(cells.drop (0+i*1)).take 1= [c]:=by
  obtain⟨u,rfl⟩:=gA.1 hc;rw[show 0+i*1=i from by omega,List.drop_eq_getElem_cons u];rfl
 rw[this];exact z
theorem Dj {f:Nat} {args:List V} {U:D} {M L:Own} {u:V} (h:bk P G f args U fun v U'=>v=u/\J U' (K.ic M) L):bk P G f args U fun v U'=>v=u/\J U' K L:=
 h.mono fun _ _ ⟨a,b⟩=>⟨a,b.weaken<|K.bX M⟩
theorem bY {ev:Operand->Option V} {U:D} {t e:TypeId} {len m:Nat} {parts:Array (Nat×Operand)} {z cs:List V} (A:P.underlying t=some (.slice e)) (hj:(P.info? e).map (·.size)=some m) (C:(fB P e).bind cS=some z)
  (hb:(Nat.beq (cX z) m && Nat.ble (len*m) 16777216 && Nat.ble 1 m)=true) (hf:kx (fun i=>some (i*m,m)) ev parts.toList (fp z len)=some cs):dW P G ev U (.buildSlice t len parts)= .val (.slice U.next 0 len (.known len)) (U.alloc (.row cs e false)):=by
 refine tz (mk:=.slice len len) Z ?_;obtain⟨j,u,rfl⟩:=oM_.1 hj;simp only[gi,A,u,C,hb,cond_true,hf]
end
section
variable {P:Program} {G:Cx} {n:Nat} {t:N V} {U:D} {K:KP} {L:Own} {Q:Ex->N V->D->Prop} {ops:Array Oper} {o:Oper} {l:List Oper} {ix:Nat} {lp:List (Nat×List Nat)}
end
theorem jk (k:IntKind) (n:Int):dX (.int k n) (.int k n)=true:=by
 unfold Go.Ev.dX;exact fL k n
theorem Bi (s:List Nat):dX (.str s) (.str s)=true:=by
 unfold Go.Ev.dX;exact sB s
theorem bR.dX {α:Type} {K:KP} {m:Nat} {R:α->List V->Prop} {l:List α} {v:V} (h:bR K m R l v):Go.Ev.dX v v=true:=by
 have hb:=h.fD;rcases h with ⟨_,rfl⟩ | ⟨b,off,c,cells,e,ro,rfl,hc,_⟩<;>exact hb
def Mw (x y:Int):Int:=bif bU x y then-1 else bif bU y x then 1 else 0
def NZ {α:Type} (c:α->α->Int):List α->List α->Int
 | [],[]=>0
 | [],_::_=>-1
 | _::_,[]=>1
 | x::l,y::m=>bif I (c x y) 0 then NZ c l m else c x y
def cQ {α:Type} (m E:Nat) (R:α->List V->Prop) (l:List α) (u:V) (M:Own):Prop:=
 (l= []/\u= .ax/\M= [])∨∃(b:Nat) (c:pH) (cells:List V) (e:Nat),u= .slice b 0 l.length c/\M= [(b,.row cells e false)]/\cells.length=l.length*m/\(∀(i:Nat) (x:α),l[i]?=some x->R x ((cells.drop (i*m)).take m))/\(c= .known l.length∨(c= .upto m/\e=E))/\l.length<=1048576
inductive fH {α:Type} (m E:Nat) (R:α->List V->Prop):List (List α)->List V->Own->Prop
 | nil:fH m E R [] [] []
 | snoc {ls:List (List α)} {us:List V} {M M1:Own} {l:List α} {u:V}:fH m E R ls us M->cQ m E R l u M1->fH m E R (ls++[l]) (us++[u]) (M1++M)
section
variable {α:Type} {m E:Nat} {R:α->List V->Prop} {l:List α} {u:V} {M:Own} {K:KP} {ls:List (List α)} {us:List V}
theorem cQ.leaf (h:cQ m E R l u M):cS u=some [u]/\iB u=true:=by
 rcases h with ⟨_,rfl,_⟩ | ⟨b,c,cells,e,rfl,_⟩<;>exact⟨rfl,rfl⟩
theorem cQ.kq (h:cQ m E R l u M) (hk:∀e∈M,K e.1 e.2):bR K m R l u:=by
 rcases h with ⟨h1,h2,_⟩ | ⟨b,c,cells,e,rfl,rfl,h3,h4,h5,h6⟩
 ·exact .inl ⟨h1,h2⟩
 refine .inr ⟨b,0,c,cells,e,false,Z,?_,hk _<|mS_ ..,by omega,by omega,fun i x hx=>by rw[nA_];exact h4 i x hx⟩;rcases h5 with h5 | h5
 ·exact .inr ⟨_,h5,nR_ _⟩
 exact .inl h5.1
theorem fH.length (h:fH m E R ls us M):us.length=ls.length:=by
 induction h with
 | nil=>rfl
 | snoc _ _ ih=>simp[ih]
theorem fH.at (h:fH m E R ls us M):∀{i:Nat} {l:List α},ls[i]?=some l->∃u M1 A B_,us[i]?=some u/\cQ m E R l u M1/\M=A++(M1++B_)/\∀l' u' z,cQ m E R l' u' z->fH m E R (ls.set i l') (us.set i u') (A++(z++B_)):=by
 induction h with
 | nil=>intro i l h;simp at h
 | @snoc ls us M M1 l u h h1 ih=>
  intro i x hx;have hl:=h.length
  by_cases hi:i<ls.length
  ·rw[gL_ hi] at hx;obtain⟨C,F,A,B_,W,k2,rfl,X⟩:=ih hx;refine⟨C,F,M1++A,B_,by rw[gL_ B];exact W,k2,by simp,fun l' u' M' h'=>?_⟩;rw[List.set_append_left _ _ hi,List.set_append_left _ _ B,lQ_];exact .snoc (X l' u' M' h') h1
  have hlt:=(gA.1 hx).1;rw[lA_,List.length_singleton] at hlt;obtain rfl:i=ls.length:=by omega
  rw[gR_<|nR_ _,Nat.sub_self] at hx;simp only[List.getElem?_cons_zero,oJ_] at hx;subst hx;refine⟨u,M1,[],M,by rw[gR_ B,hl,Nat.sub_self];rfl,h1,Z,fun l' u' M' h'=>?_⟩;rw[List.set_append_right _ _<|nR_ _,List.set_append_right _ _ B,hl,Nat.sub_self];exact fH.snoc (M1:=M') (M:=M) h h'
theorem fH.each (h:fH m E R ls us M) (hk:∀e∈M,K e.1 e.2):∀(i:Nat) (l:List α),ls[i]?=some l->∃u,us[i]?=some u/\bR K m R l u:=by
 intro i l hl;obtain⟨u,M1,A,B_,h1,h2,rfl,_⟩:=h.at hl;exact⟨u,h1,h2.kq fun e he=>hk e (by simp[he])⟩
theorem fH.kq (h:fH m E R ls us M) (hk:∀e∈M,K e.1 e.2) {b e n:Nat} (hb:K b (.row us e false)) (hn:n=ls.length) (hl:ls.length<=1048576):bR K 1 (RL K m R) ls (.slice b 0 n (.known n)):=by
 subst hn;refine .inr ⟨b,0,_,us,e,false,Z,.inr ⟨_,Z,nR_ _⟩,hb,by rw[h.length];omega,by omega,fun i x hx=>?_⟩;obtain⟨u,h1,h2⟩:=h.each hk i x hx;refine⟨u,?_,h2⟩;obtain⟨z,rfl⟩:=gA.1 h1;rw[show 0+i*1=i from by omega,List.drop_eq_getElem_cons z];rfl
end
section
variable {U:D} {K:KP} {L M:Own} {b:Nat} {o:cG}
theorem J.Iy (h:J U K (M++(b,o)::L)):U.m.get b=some o:=(h.own (b,o) (by simp)).2
theorem J.En (h:J U K (M++(b,o)::L)) (o':cG):J (U.setObj b o') K (M++(b,o')::L):=((h.perm List.perm_middle).pf o').perm List.perm_middle.symm
theorem ph (v:V):∀n,fp [v] n=List.replicate n v
 | 0=>rfl
 | n+1=>by
  show ie [v] (fp [v] n)=_;rw[dV,ph v n];rfl
theorem FL {us:List V} {u v:V} {n i:Nat} (hu:us.length=i) (hi:i<n):dG [u] (us++List.replicate (n-i) v) (0+i*1)=(us++[u])++List.replicate (n-(i+1)) v:=by
 obtain⟨k,hk⟩:∃k,n-i=k+1:=⟨n-i-1,by omega⟩;rw[hk,show n-(i+1)=k by omega,show 0+i*1=us.length by omega,oo _ _ _ (by simp),List.take_left,List.length_singleton,<-List.drop_drop,List.drop_left,List.replicate_succ];rfl
end
section
variable {P:Program} {G:Cx} {ev:Operand->Option V} {U:D}
theorem k9 {t e w n:Nat} {k k':IntKind} {z:List V} {lo co:Operand} (F:P.underlying t=some (.slice e)) (hw:(P.info? e).map (·.bytes)=some w) (W:(fB P e).bind cS=some z)
  (A:((P.info? e).any fun j=>Nat.beq (cX z) j.size && Nat.ble 1 j.size)=true) (hl:ev lo=some (.int k (.ofNat n))) (hc:ev co=some (.int k' (.ofNat n))) (hn:w*n<=1048576) (C:n<=1048576):
  dW P G ev U (.makeSlice t lo co)= .val (.slice U.next 0 n (.known n)) (U.alloc (.row (fp z n) e false)):=by
 refine tz (mk:=.slice n n) Z ?_;obtain⟨j,hj,rfl⟩:=oM_.1 hw;rw[hj] at A;simp only[Option.any_some,bA_] at A;simp only[gi,F,hl,hc,hj,W];rw[A.1,A.2,show Nat.ble n n=true by rw[nE_];exact nR_ _,show Nat.ble (j.bytes*n) 1048576=true by rw[nE_];exact hn,show Nat.ble n 1048576=true by rw[nE_];exact C];rfl
end
theorem dy.leaf:∀x vs,dy x vs->cD vs=true:=fun _ _ h=>by cases h;rfl
theorem iU.leaf:∀x vs,iU x vs->cD vs=true:=fun _ _ h=>by cases h;rfl
theorem iV.leaf:∀x vs,iV x vs->cD vs=true:=fun _ _ h=>by cases h;rfl
end Go.Ev
namespace Go.Ev
variable [Env]
inductive ns (b:Nat) (o':cG):Own->Own->Prop
 | here {o:cG} {L:Own}:ns b o' ((b,o)::L) ((b,o')::L)
 | there {x:Nat×cG} {L L':Own}:ns b o' L L'->ns b o' (x::L) (x::L')
 | cM {M L L':Own}:ns b o' L L'->ns b o' (M++L) (M++L')
section
variable {U:D} {K:KP} {L L':Own} {b:Nat} {o':cG}
theorem ns.Qq (h:ns b o' L L'):∃A B_ o,L=A++(b,o)::B_/\L'=A++(b,o')::B_:=by
 induction h with
 | here=>exact⟨[],_,_,Z,Z⟩
 | @there x L L' h ih=>obtain⟨A,B_,o,rfl,rfl⟩:=ih;exact⟨x::A,B_,o,Z,Z⟩
 | @cM M L L' h ih=>obtain⟨A,B_,o,rfl,rfl⟩:=ih;exact⟨M++A,B_,o,by simp,by simp⟩
theorem J.P5 (h:J U K L) (hu:ns b o' L L'):J (U.setObj b o') K L':=by
 obtain⟨A,B_,o,rfl,rfl⟩:=hu.Qq;exact h.En o'
theorem J.sub (h:J U K L) (z:L'.Sublist L):J U K L' where
 kept b o hb:=let ⟨h1,h2,A⟩:=h.kept b o hb;⟨h1,h2,fun e he=>A e (z.subset he)⟩
 own e he:=h.own e (z.subset he)
 ne:=h.ne.sublist z
theorem dH {M L L':Own} (h:L'.Sublist L):(M++L').Sublist (M++L):=(List.append_sublist_append_left M).2 h
end
section
variable {P:Program} {G:Cx} {n:Nat} {t:N V} {U:D} {K:KP} {L:Own} {Q:Ex->N V->D->Prop} {ops:Array Oper} {o:Oper} {l:List Oper} {i:Nat} {rc:List Nat} {lp:List (Nat×List Nat)}
theorem cC {b:Nat} {ob':cG} {L':Own} {t':N V} (z:J U K L) (hu:ns b ob' L L') (hw:bM ops t o=some true) (hv:dW P G (bE G t) U o.op= .skip (U.setObj b ob')) (hp:dI t n o.dst unit=some t')
  (h:∀U',J U' K L'->bP P G ops n l t' U' Q):bP P G ops n (o::l) t U Q:=iO hw hv hp (h _<|z.P5 hu)
theorem gD {b:Nat} {ob':cG} {L':Own} {t':N V} (A:J U K L) (hu:ns b ob' L L') (z:ops[i]?=some o) (hw:bM ops t o=some true) (hv:dW P G (bE G t) U o.op= .skip (U.setObj b ob')) (hp:dI t n o.dst unit=some t')
  (h:∀U',J U' K L'->(dn P G ops t' U' rc=true/\cE P G ops n lp t' U' Q)):cE P G ops n ((i,rc)::lp) t U Q:=oN z hw hv hp (h _<|A.P5 hu)
end
section
variable {P:Program} {t:N V} {U:D}
theorem yg {fn:Func} {j ty b m e:Nat} {ro:Bool} {cells:List V} (z:fn.results.toList= [.cell j ty]) (h1:t.get j=some (.ptr b 0)) (hm:U.m.get b=some (.row cells e ro)) (A:dU P ty=some (some m)) (hn:cells.length=m):fm P fn t U=some (.agg cells):=by
 unfold fm;rw[z]
 have e1:g9 P t U (.cell j ty)=some (V.agg cells):=by
  show(match t.get (posOf j) with
   | some (.ptr b off)=>match U.m.get b with
    | some (.row cells _ _)=>match dU P ty with
     | some (some n)=>bif Nat.ble (off+n) (cX cells) then some (V.agg<|takeN (dS cells off) n) else none
     | some none=>nth cells off
     | none=>none
    | _=>none
   | _=>none)=_
  rw[show t.get (posOf j)=some (.ptr b 0) from h1];dsimp only;rw[hm];dsimp only;rw[A];dsimp only;rw[bK,hn,nA_,show Nat.ble m m=true by rw[nE_];exact nR_ _,du,dO,List.drop_zero,<-hn,List.take_length];rfl
 have:cW (g9 P t U) [.cell j ty]=some [V.agg cells]:=by
  unfold cW;simp only[e1]
 rw[this]
theorem eL {fn:Func} {R:V->D->Prop} {j ty b m e:Nat} {ro:Bool} {cells:List V} (z:fn.results.toList= [.cell j ty]) (h1:t.get j=some (.ptr b 0)) (hm:U.m.get b=some (.row cells e ro)) (A:dU P ty=some (some m)) (hn:cells.length=m) (C:R (.agg cells) U):BB P fn R .ret t U:=
 ⟨.inr Z,_,yg z h1 hm A hn,C⟩
end
end Go.Ev
namespace Go.Ev
variable [Env]
theorem qf {α:Type} {m E:Nat} {R:α->List V->Prop} {l1 l2:List α} {fM news:List V} {b e:Nat} {c:pH} {n:Nat} (z:fM.length=l1.length*m) (h1:∀(i:Nat) (x:α),l1[i]?=some x->R x ((fM.drop (i*m)).take m)) (A:news.length=l2.length*m) (h2:∀(i:Nat) (x:α),l2[i]?=some x->R x ((news.drop (i*m)).take m))
  (hn:n=l1.length+l2.length) (hc:c= .known n∨(c= .upto m/\e=E)) (hle:n<=1048576):cQ m E R (l1++l2) (.slice b 0 n c) [(b,.row (fM++news) e false)]:=by
 subst hn;refine .inr ⟨b,c,_,e,by rw[lA_],Z,by rw[lA_,lA_,z,A,Nat.add_mul],fun i x hx=>?_,by rw[lA_];exact hc,by rw[lA_];exact hle⟩
 by_cases hi:i<l1.length
 ·rw[gL_ hi] at hx;have hle:(i+1)*m<=l1.length*m:=nM_ _ hi;rw[Nat.succ_mul] at hle;rw[List.drop_append_of_le_length B,List.take_append_of_le_length (by rw[lD_];omega)];exact h1 i x hx
 rw[gR_ B] at hx;have hle:l1.length*m<=i*m:=nM_ _ B;rw[List.drop_append,List.drop_eq_nil_of_le B,List.nil_append,z,<-Nat.sub_mul];exact h2 _ x hx
def cu (g:XG) (loc:Int):List dw:=
 bif I (cd g) 0 then(bif bU loc 0 then [] else match g.order[loc.toNat]? with | some l=>⟨0,loc⟩::l | none=>[]) else []
theorem po {g:XG} {loc:Int} (h:I (cd g) 0=false):cu g loc= []:=by unfold cu;rw[h];rfl
theorem qA {g:XG} {loc:Int} (h:bU loc 0=true):cu g loc= []:=by unfold cu;rw[h];cases I (cd g) 0<;>rfl
theorem qz {g:XG} {loc:Nat} (h:g.order.length<=loc):cu g (.ofNat loc)= []:=by
 unfold cu;cases I (cd g) 0 with
 | false=>rfl
 | true=>
  cases bU (.ofNat loc) 0 with
  | true=>rfl
  | false=>
   show(match g.order[(Int.ofNat loc).toNat]? with | some l=>_ | none=>_)=_;rw[show(Int.ofNat loc).toNat=loc from Z,gN_ h]
theorem ez {g:XG} {loc:Nat} {l:List dw} (hc:I (cd g) 0=true) (h:g.order[loc]?=some l):cu g (.ofNat loc)=⟨0,.ofNat loc⟩::l:=by
 have e:(Int.ofNat loc).toNat=loc:=rfl;have z:bU (.ofNat loc) 0=false:=by rw[show(0:Int)= .ofNat 0 from Z,lX];simp
 unfold cu;rw[hc,z,e,h];rfl
end Go.Ev
namespace Go.Ev
variable [Env]
theorem qB {P:Program} {G:Cx} {ev:Operand->Option V} {U:D} {c:Call} {x y:Operand} {a b:Int} {k:IntKind} (hc:c.callee= .builtin .min) (z:c.args.toList= [x,y]) (hx:ev x=some (.int k a)) (hy:ev y=some (.int k b)):dW P G ev U (.call c)= .val (.int k (bif bU b a then b else a)) U:=by
 refine bn (by simp[kindOf,hc]) ?_;have e:r9 k k=true:=by cases k<;>rfl
 simp only[di,hc,z,hx,hy,Nc,e,cond_true]
section
variable {P:Program} {G:Cx}
def vd (P:Program) (G:Cx) (f:Nat) (args:List V) (U:D) (R:V->D->Prop):Prop:=
 ∃(K:Nat) (v:V) (U':D),(∀k,K<=k->lj P G (ew P G k) f args U= .ret v U')/\R v U'
theorem BF {f:Nat} {fn:Func} {c:Code} {args:List V} {U:D} {R:V->D->Prop} {t:N V} (hf:P.funcs[f]?=some fn) (hb:fn.body=some c) (u:ry fn.ntmps args=some t)
  (h:Ev P G c fn.ntmps t U (BB P fn R)):vd P G f args U R:=by
 obtain⟨K,e,t',U',h1,he,v,h2,z⟩:=h;refine⟨K,v,U',fun k hk=>?_,z⟩;unfold lj;rw[hf];dsimp only;rw[hb,u];dsimp only;rw[h1 k hk];rcases he with rfl | rfl<;>
 ·dsimp only;unfold x8;rw[show wP P G (ew P G k) [] .ret U'=some (.ret,U') from Z];dsimp only;rw[h2]
theorem EY {f:Nat} {args:List V} {U:D} {k:Nat} (z:G.HB f args U=none) (A:G.HD f args=none) (u:G.stop f args U=none) (C:G.fk f=true):
  mw P G (ew P G k) f args U=sj (pX P G (ew P G k) f args U):=by
 unfold mw;rw[z];dsimp only;rw[A];dsimp only;rw[u];dsimp only;rw[C];rfl
theorem sK {f:Nat} {args:List V} {U:D} {R:V->D->Prop} (u:Plain G) (z:G.fk f=true) (he:∀ih,pX P G ih f args U=lj P G ih f args U) (h:vd P G f args U R) (hl:DY f=false:=by rfl):bk P G f args U R:=by
 obtain⟨K,v,U',h1,h2⟩:=h;refine⟨K,v,U',fun k hk=>?_,h2⟩;rw[EY (u.h1 _ _ _) (u.h2 _ _ hl) (u.h4 _ _ _) z,he,h1 k hk];rfl
theorem oL:∀(l:List Int),kS (ints l) (ints l)=true
 | []=>rfl
 | x::l=>by
  show(bif (r9 .i64 .i64 && I x x) then kS (ints l) (ints l) else false)=true;rw[oL l,dF];simp[r9]
theorem oB:∀(l:List Int),eH (ints l)=true
 | []=>rfl
 | x::l=>by
  show(bif mD (.int .i64 x) then eH (ints l) else false)=true;rw[oB l];rfl
theorem uM:∀(l:List Int),(ints l).length=l.length
 | []=>rfl
 | x::l=>by show(ints l).length+1=l.length+1;rw[uM l]
theorem wz {vb ve e sz z n1:Nat} {vc rs:List Int} {c:pH} {A:D} {u:List V} {ok:pH->Nat->Bool} (C:ok c n1=true) (E:z≠vb) (h1:A.m.get z=some (.row u e false)) (h2:A.m.get vb=some (.row (ints vc) ve false)) (F:1<=n1) (hl:n1*sz<=u.length) (K:u.take (n1*sz)=ints rs):
  qN vb (ints vc) ve e sz (.ret (.slice z 0 n1 c) A) ok=some (n1,ints rs):=by
 have L:kg z vb=false:=by
  unfold kg;cases M:Nat.beq z vb with
  | false=>rfl
  | true=>exact absurd (nB M) E
 unfold qN;dsimp only;rw[h1,h2];dsimp only;rw[C,L,oL,Nat.beq_refl,Nat.beq_refl,show Nat.ble 1 n1=true by rw[nE_];exact F,bK,nA_,show Nat.ble (n1*sz) u.length=true by rw[nE_];exact hl,du,dO,List.drop_zero,K,oB];rfl
theorem Il {f:Nat} {U:D} {R:V->D->Prop} (C:Plain G) (E:G.fk f=true) {b n sz i vb mc e ve:Nat} {cells:List V} {vc rs:List Int} {n1:Nat} (hn:1<=n) (hi:i<n) (F:b≠vb) (hb:U.m.get b=some (.row cells e false)) (K:U.m.get vb=some (.row (ints vc) ve false)) (hc:n*sz<=cells.length)
  (A:1<=n1) (aa:rs.length=n1*sz)
  (h1:vd P G f [.slice b 0 n (.known n),.int .i64 (.ofNat i),.slice vb 0 1 (.known mc)] (fc U b (.row cells e false) vb (.row (ints vc) ve false)) fun v U'=>∃z u,v= .slice z 0 n1 (.upto sz)/\z≠vb/\U'.m.get z=some (.row u e false)/\U'.m.get vb=some (.row (ints vc) ve false)/\n1*sz<=u.length/\u.take (n1*sz)=ints rs)
  (h2:vd P G f [.slice b 0 n (.least (Nat.succ n) sz),.int .i64 (.ofNat i),.slice vb 0 1 (.known mc)] (fc U b (.row (cells.take (n*sz)++List.replicate sz .any) e false) vb (.row (ints vc) ve false)) fun v U'=>∃z a u,v= .slice z 0 n1 (.least a sz)/\n1<=a/\z≠vb/\U'.m.get z=some (.row u e false)/\U'.m.get vb=some (.row (ints vc) ve false)/\n1*sz<=u.length/\u.take (n1*sz)=ints rs)
  (Q:R (.slice U.next 0 n1 (.upto sz)) ((U.drop b).alloc (.row (ints rs) e false))) (hl:DY f=false:=by rfl):bk P G f [.slice b 0 n (.upto sz),.int .i64 (.ofNat i),.slice vb 0 1 (.known mc)] U R:=by
 obtain⟨W,v1,σ1,X,z,u,rfl,g1,g2,g3,g4,g5⟩:=h1;obtain⟨K2,v2,σ2,k2,b2,a,ab,rfl,f0,f1,f2,f3,f4,f5⟩:=h2;refine⟨max W K2,_,_,fun k hk=>?_,Q⟩;rw[EY (C.h1 _ _ _) (C.h2 _ _ hl) (C.h4 _ _ _) E]
 have e:pX P G (ew P G k) f [.slice b 0 n (.upto sz),.int .i64 (.ofNat i),.slice vb 0 1 (.known mc)] U= .ret (.slice U.next 0 n1 (.upto sz)) ((U.drop b).alloc (.row (ints rs) e false)):=by
  have L:atEnd [.slice b 0 n (.upto sz),.int .i64 (.ofNat i),.slice vb 0 1 (.known mc)]=false:=by
   show Nat.beq i n=false;cases M:Nat.beq i n with
   | false=>rfl
   | true=>exact absurd (nB M) B
  have hs:kg b vb=false:=by
   unfold kg;cases M:Nat.beq b vb with
   | false=>rfl
   | true=>exact absurd (nB M) F
  unfold pX;rw[L];simp only[cond_false];unfold Fb;dsimp only;rw[hb,K];dsimp only;rw[hs,show Nat.ble 1 n=true by rw[nE_];exact hn,show mD (.int .i64 (.ofNat i))=true from Z,oB,bK,nA_,show Nat.ble (n*sz) cells.length=true by rw[nE_];exact hc];rw[dV,du,s8,X k B,k2 k B];rw[wz (by show Nat.beq sz sz=true;exact Nat.beq_refl _) g1 g2 g3 A g4 g5,wz (by show(Nat.beq sz sz && Nat.ble n1 a)=true;rw[Nat.beq_refl,show Nat.ble n1 a=true by rw[nE_];exact f0];rfl) f1 f2 f3 A f4 f5];dsimp only;rw[show Nat.beq n1 n1=true from Nat.beq_refl n1,oL];rfl
 rw[e];rfl
end
def de (l:List dw):List V:=l.flatMap fun x=>ints x.ints
theorem gq (x:dw) (l:List dw):de (x::l)=ints x.ints++de l:=rfl
theorem r5 (l r:List dw):de (l++r)=de l++de r:=List.flatMap_append
theorem ed:∀(l:List dw),(de l).length=l.length*2
 | []=>rfl
 | x::l=>by
  rw[gq,lA_,ed l,List.length_cons];show 2+_=_;omega
theorem pM:∀(l:List dw) (i:Nat),(de l).drop (i*2)=de (l.drop i)
 | l,0=>by simp
 | [],i+1=>by simp[de]
 | x::l,i+1=>by
  rw[List.drop_succ_cons,<-pM l i,gq,show(i+1)*2=(ints x.ints).length+i*2 by show _=2+_;omega,<-List.drop_drop,List.drop_left]
theorem uy:∀(l:List dw) (i:Nat),(de l).take (i*2)=de (l.take i)
 | l,0=>by simp[de]
 | [],i+1=>by simp[de]
 | x::l,i+1=>by
  rw[List.take_succ_cons,gq,gq,<-uy l i,show(i+1)*2=(ints x.ints).length+i*2 by show _=2+_;omega,List.take_length_add_append]
theorem lN:∀(l:List Int),cD (ints l)=true
 | []=>rfl
 | x::l=>ah Z (lN l)
theorem na (l:List dw):de l=ints (l.flatMap dw.ints):=by
 induction l with
 | nil=>rfl
 | cons x l ih=>rw[gq,ih,List.flatMap_cons];simp[ints]
theorem ux (l:List dw):cD (de l)=true:=by rw[na];exact lN _
theorem yC:∀(l:List dw) (cells:List V),cells.length=l.length*2->(∀(i:Nat) (x:dw),l[i]?=some x->iV x ((cells.drop (i*2)).take 2))->cells=de l
 | [],cells,h,_=>eN_ h
 | x::l,cells,h,u=>by
  rw[List.length_cons] at h;have h0:cells.take 2=ints x.ints:=by have:=u 0 x Z;simpa [iV] using this
  rw[gq,<-h0,<-yC l (cells.drop 2) (by rw[lD_];omega) (fun i y hy=>by have:=u (i+1) y (by simpa using hy);rwa[show(i+1)*2=2+i*2 by omega,<-List.drop_drop] at this),List.take_append_drop]
theorem Gg {l:List dw} {i:Nat} {x:dw} (h:l[i]?=some x):iV x (((de l).drop (i*2)).take 2):=by
 rw[pM,cR h,gq,show(2:Nat)=(ints x.ints).length from Z,List.take_left];rfl
theorem ug {A X Zv:List V} {off:Nat} (u:off=A.length) (hz:X.length<=Zv.length):dG X (A++Zv) off=A++(X++Zv.drop X.length):=by
 subst u;rw[oo _ _ _ (by rw[lA_];omega),List.take_left,<-List.drop_drop,List.drop_left,lQ_]
theorem Fh {A X B_ Zv:List V} {off:Nat} (u:off=A.length+X.length) (hz:Zv.length=B_.length):dG B_ (A++(X++Zv)) off=A++(X++B_):=by
 rw[<-lQ_,ug (by rw[lA_];exact u) B,List.drop_eq_nil_of_le B,List.append_nil,lQ_]
theorem KZ {A X B_ C:List V} {off:Nat} (u:off=A.length) (hc:X.length=C.length):dG X (A++(C++B_)) off=A++(X++B_):=by
 rw[ug u (by rw[lA_];omega),hc,List.drop_left]
section
variable {P:Program} {G:Cx} {ev:Operand->Option V} {U:D}
theorem lC {lo:Operand} {k:IntKind} {l len cap:Nat} (h:ev lo=some (.int k (.ofNat l))) (hl:l<=len):da ev len cap (some lo) none=some (l,len):=by
 simp only[da,eI,h,show Nat.ble l len=true by rw[nE_];exact hl,cond_true]
theorem oH {hi:Operand} {k:IntKind} {h' len cap:Nat} (h:ev hi=some (.int k (.ofNat h'))) (hl:h'<=cap):da ev len cap none (some hi)=some (0,h'):=by
 simp only[da,eI,h,show Nat.ble h' cap=true by rw[nE_];exact hl,cond_true]
theorem xT {t e sz b off len cap l h:Nat} {x:Operand} {lo hi:Option Operand} (z:P.underlying t=some (.slice e)) (hj:(P.info? e).map (·.size)=some sz) (hx:ev x=some (.slice b off len (.known cap))) (hb:da ev len cap lo hi=some (l,h)) (hl:l<cap):
  dW P G ev U (.slice t x lo hi none)= .val (.slice b (off+l*sz) (h-l) (.known (cap-l))) U:=by
 refine bn Z ?_;obtain⟨j,u,rfl⟩:=oM_.1 hj
 have:Nat.beq cap l=false:=by
  cases A:Nat.beq cap l with
  | false=>rfl
  | true=>exact absurd (nB A) B
 simp only[di,fo,z,hx,cutAt,hb,cut,u,this,cond_false]
theorem J7 {t e sz b off cap:Nat} {k:IntKind} {x lo:Operand} (z:P.underlying t=some (.slice e)) (hj:(P.info? e).map (·.size)=some sz) (hx:ev x=some (.slice b off cap (.known cap))) (hb:ev lo=some (.int k (.ofNat cap))):
  dW P G ev U (.slice t x (some lo) none none)= .val (.slice b off 0 (.known 0)) U:=by
 refine bn Z ?_;obtain⟨j,u,rfl⟩:=oM_.1 hj;have:Nat.beq cap cap=true:=Nat.beq_refl cap;simp only[di,fo,z,hx,cutAt,lC hb<|nR_ cap,cut,u,this,cond_true,Nat.sub_self]
theorem J8 {t e sz:Nat} {k:IntKind} {x lo:Operand} (z:P.underlying t=some (.slice e)) (hj:(P.info? e).map (·.size)=some sz) (hx:ev x=some .ax) (hb:ev lo=some (.int k (.ofNat 0))):
  dW P G ev U (.slice t x (some lo) none none)= .val .ax U:=by
 refine bn Z ?_;obtain⟨j,u,rfl⟩:=oM_.1 hj;simp only[di,fo,z,hx,lC hb<|nR_ 0,u]
theorem xU {t e sz b off len l h:Nat} {x:Operand} {lo hi:Option Operand} (z:P.underlying t=some (.slice e)) (hj:(P.info? e).map (·.size)=some sz) (hx:ev x=some (.slice b off len (.upto sz))) (hb:da ev len len lo hi=some (l,h)):
  dW P G ev U (.slice t x lo hi none)= .val (.slice b (off+l*sz) (h-l) (.upto sz)) U:=by
 refine bn Z ?_;obtain⟨j,u,rfl⟩:=oM_.1 hj;simp only[di,fo,z,hx,hb,u,Nat.beq_refl,cond_true]
theorem oy {t e sz b off len a l h:Nat} {x:Operand} {lo hi:Option Operand} (z:P.underlying t=some (.slice e)) (hj:(P.info? e).map (·.size)=some sz) (hx:ev x=some (.slice b off len (.least a sz))) (hb:da ev len a lo hi=some (l,h)) (h1:len<=a) (h2:l+1<=a):
  dW P G ev U (.slice t x lo hi none)= .val (.slice b (off+l*sz) (h-l) (.least (a-l) sz)) U:=by
 refine bn Z ?_;obtain⟨j,u,rfl⟩:=oM_.1 hj;simp only[di,fo,z,hx,hb,u,Nat.beq_refl,show Nat.ble len a=true by rw[nE_];exact h1,show Nat.ble (Nat.succ l) a=true by rw[nE_];exact h2,Bool.and_self,cond_true]
theorem vy {b off len sz e:Nat} {c:pH} {ro:Bool} {cells:List V} (hb:U.m.get b=some (.row cells e ro)) (hl:off+len*sz<=cells.length):kV U sz (.slice b off len c)=some (len,(cells.drop off).take (len*sz)):=by
 simp only[kV,hb,bK,show Nat.ble (off+len*sz) cells.length=true by rw[nE_];exact hl,cond_true,du,dO]
theorem AM {cl:Call} {ds so:Operand} {ty e sz b off len n C0 e':Nat} {c:pH} {v:V} {news cells cells':List V} (hc:cl.callee= .builtin .copy) (E:cl.args.toList= [ds,so]) (F:cl.argTypes[0]?=some ty) (hu:P.underlying ty=some (.slice e)) (hj:(P.info? e).map (·.size)=some sz)
  (M:ev ds=some (.slice b off len c)) (R:ev so=some v) (u:kV U sz v=some (n,news)) (z:Nat.min n len=C0) (aa:1<=C0) (hb:U.m.get b=some (.row cells e' false)) (hl:cD (news.take (C0*sz))=true) (A:1<=sz)
  (hle:off+(news.take (C0*sz)).length<=cells.length) (W:dG (news.take (C0*sz)) cells off=cells'):dW P G ev U (.call cl)= .val (.int .i64 (.ofNat C0)) (U.setObj b (.row cells' e' false)):=by
 refine kZ (by simp[kindOf,hc]) ?_;obtain⟨j,C,rfl⟩:=oM_.1 hj
 have he:tN ev [ds,so]=some [.slice b off len c,v]:=by
  unfold tN cW;simp only[M,R]
 have h0:Nat.beq C0 0=false:=by
  cases X:Nat.beq C0 0 with
  | false=>rfl
  | true=>exact absurd (nB X) B
 subst W;simp only[gz,hc,E,he,rE,F,hu,C,u,z,h0,cond_false,hb,du,hl,bK,show Nat.ble 1 j.size=true by rw[nE_];exact A,show Nat.ble (off+(news.take (C0*j.size)).length) cells.length=true by rw[nE_];exact hle,Bool.and_self,cond_true]
theorem Hy {cl:Call} {so no:Operand} {ty A e sz b len cp n e' w:Nat} {k2:IntKind} {cells zs:List V} (hc:cl.callee= .builtin .append) (M:cl.args.toList= [so,no]) (R:cl.argTypes[0]?=some ty) (C:cl.argTypes[1]?=some A) (hu:P.underlying ty=some (.slice e)) (u:P.underlying A=some (.int k2)) (hj:(P.info? e).map (·.size)=some sz) (hw:(P.info? e).map (·.bytes)=some w) (W:(fB P e).bind cS=some zs)
  (X:ev so=some (.slice b 0 len (.known cp))) (hn:ev no=some (.int .i64 (.ofNat n))) (hb:U.m.get b=some (.row cells e' false)) (h1:cp<len+n) (h2:1<=n) (h3:n<=1048576) (h4:len<=1048576) (h5:1<=sz) (h6:w<=65536) (h7:zs.length=sz) (h8:len*sz<=cells.length) {m:Nat} (hm:len+n=m):
  dW P G ev U (.call cl)= .val (.slice U.next 0 m (.upto sz)) (U.alloc (.row (cells.take (len*sz)++fp zs n) e false)):=by
 refine kZ (by simp[kindOf,hc]) ?_;obtain⟨j,z,rfl⟩:=oM_.1 hj;rw[z] at hw;have hw:j.bytes=w:=by simpa using hw
 subst hm
 have he:tN ev [so,no]=some [.slice b 0 len (.known cp),.int .i64 (.ofNat n)]:=by
  unfold tN cW;simp only[X,hn]
 have E:dt P (some A)=false:=by simp only[dt,u]
 have F:Nat.ble (len+n) cp=false:=by
  cases hh:Nat.ble (len+n) cp with
  | false=>rfl
  | true=>rw[nE_] at hh;omega
 have e1:Nat.ble n 1048576=true:=by rw[nE_];exact h3
 have e2:Nat.ble 1 n=true:=by rw[nE_];exact h2
 have e3:Nat.ble 1 j.size=true:=by rw[nE_];exact h5
 have e4:Nat.ble j.bytes 65536=true:=by rw[nE_,hw];exact h6
 have e5:Nat.beq (cX zs) j.size=true:=by rw[bK,h7];exact Nat.beq_refl _
 have e6:Nat.ble (0+len*j.size) (cX cells)=true:=by rw[nE_,bK];omega
 have e7:Nat.ble len 1048576=true:=by rw[nE_];exact h4
 simp only[gz,hc,M,he,E,cond_false,oD,R,C,hu,u,z,W,e1,e2,e3,e4,e5,Bool.and_self,cond_true,F,hb,e6,e7,grow,dV,du,dO,List.drop_zero]
end
section
variable {P:Program} {G:Cx} {ev:Operand->Option V} {U:D}
theorem EL {cl:Call} {g b b' off off' n n' e e':Nat} {c c':pH} {cells cells':List V} {x y:Operand} (hc:cl.callee= .value (.func g)) (M:cl.args.toList= [x,y]) (z:zV P g=false) (A:G.ov g=true) (C:isNe P g=false) (hx:ev x=some (.slice b off n c)) (hy:ev y=some (.slice b' off' n' c')) (hf:ev (.func g)=some (.func g [] []))
  (h1:U.m.get b=some (.row cells e false)) (h2:U.m.get b'=some (.row cells' e' false)) (hb:b≠b') (E:lk c=true) (u:lk c'=true) (hl:1<=cells'.length):dW P G ev U (.call cl)= .val (.bool false) U:=by
 refine kZ (by simp[kindOf,hc]) ?_
 have he:tN ev [x,y]=some [.slice b off n c,.slice b' off' n' c']:=by
  unfold tN cW;simp only[hx,hy]
 have R:kg b b'=false:=by
  unfold kg;cases W:Nat.beq b b' with
  | false=>rfl
  | true=>exact absurd (nB W) hb
 have F:ie ([]:List V) (ie [.slice b off n c,.slice b' off' n' c'] [])= [.slice b off n c,.slice b' off' n' c']:=rfl;simp only[gz,hc,hf,M,he,yA,z,A,C,cond_true,cond_false,F,oc,h1,h2,R,E,u,bK,show Nat.ble 1 cells'.length=true by rw[nE_];exact hl,Bool.and_self]
theorem Mh {cl:Call} {ty e:TypeId} {x:Operand} {v r:V} (hc:cl.callee= .builtin .cap) (u:cl.argTypes[0]?=some ty) (z:cl.args.toList= [x]) (hu:P.underlying ty=some (.slice e)) (hx:ev x=some v) (h:Mv v=some r):dW P G ev U (.call cl)= .val r U:=by
 refine bn (by simp[kindOf,hc]) ?_;simp only[di,hc,u,z,hu,hx,h]
end
section
variable {P:Program} {G:Cx} {n:Nat} {t:N V} {U:D} {K:KP} {L:Own} {Q:Ex->N V->D->Prop} {ops:Array Oper} {o:Oper} {l:List Oper}
theorem Ja (u:J U K L) {ob:cG} {k sz:Nat} {t':Nat->N V} (hw:bM ops t o=some true) (hv:dW P G (bE G t) U o.op= .val (.slice U.next 0 k (.upto sz)) (U.alloc ob)) (hp:∀b,dI t n o.dst (.slice b 0 k (.upto sz))=some (t' b))
  (h:∀(U':D) (b:Nat),J U' K ((b,ob)::L)->bP P G ops n l (t' b) U' Q):bP P G ops n (o::l) t U Q:=
 O hw hv (hp _) (h _ _<|u.alloc ob)
end
section
variable {P:Program} {G:Cx} {U:D} {K:KP} {L:Own}
theorem rf {α:Type} {m e:Nat} {R:α->List V->Prop} {l2:List α} {C:V} {ts:Array TypeId} {t:TypeId} (F:J U K L) (hx:bR K m R l2 C) (u:∀x vs,R x vs->cD vs=true) (hn:l2.length<=1048576) (aa:1<=l2.length)
  (M:ts[0]?=some t) (hu:P.underlying t=some (.slice e)) (A:pK P e m=true) (h2:dt P ts[1]?=true):
  ∃news,fX P U ts .ax C= .val (.slice U.next 0 l2.length (.upto m)) (U.alloc (.row news e false))/\news.length=l2.length*m/\∀(i:Nat) (x:α),l2[i]?=some x->R x ((news.drop (i*m)).take m):=by
 obtain⟨news,W,X,s3,s4⟩:=om F hx u;refine⟨news,?_,X,s4⟩;unfold pK at A;split at A
 ·rename_i j hj;simp only[bA_] at A;obtain⟨a1,a2,a3,a4⟩:=A;have hm:j.size=m:=nB a1;subst hm;have E:((P.info? e).any fun j=>(j.zero.bind qb).any fun z=>(cS z).any fun cs=>Nat.beq (cX cs) j.size)=true:=by rw[hj];exact a4
  have h0:Nat.beq l2.length 0=false:=by
   cases hh:Nat.beq l2.length 0 with
   | false=>rfl
   | true=>exact absurd (nB hh) B
  unfold fX;rw[M];dsimp only;rw[hu];dsimp only;rw[hj] at E⊢;dsimp only;rw[h2,a2,a3];simp only[Bool.and_self,cond_true];rw[W];dsimp only;rw[s3,show Nat.ble l2.length 1048576=true by rw[nE_];exact hn,E];simp only[Bool.and_self,cond_true,h0,cond_false];rfl
 cases A
end
section
variable {P:Program} {G:Cx} {n:Nat} {t:N V} {U:D} {K:KP} {L:Own} {Q:Ex->N V->D->Prop} {ops:Array Oper} {o:Oper} {l:List Oper}
theorem G3 {α:Type} {m e:Nat} {R:α->List V->Prop} {l2:List α} {M:V} {ty:TypeId} {cl:Call} {so xo:Operand} {t':V->N V} (W:J U K L) (hx:bR K m R l2 M) (u:∀x vs,R x vs->cD vs=true) (hn:l2.length<=1048576) (A:1<=l2.length)
  (hw:bM ops t o=some true) (X:o.op= .call cl) (C:cl.callee= .builtin .append) (z:cl.args.toList= [so,xo]) (ht:cl.argTypes[0]?=some ty) (hu:P.underlying ty=some (.slice e)) (ha:pK P e m=true) (h2:dt P cl.argTypes[1]?=true)
  (E:bE G t so=some .ax) (F:bE G t xo=some M) (hp:∀v,dI t n o.dst v=some (t' v))
  (h:∀(U':D) (b':Nat) (news:List V),J U' K ((b',.row news e false)::L)->news.length=l2.length*m->(∀(i:Nat) (x:α),l2[i]?=some x->R x ((news.drop (i*m)).take m))->bP P G ops n l (t' (.slice b' 0 l2.length (.upto m))) U' Q):bP P G ops n (o::l) t U Q:=by
 obtain⟨news,k1,k2,k3⟩:=rf (P:=P) W hx u hn A ht hu ha h2;refine O hw ?_ (hp _)<|h _ U.next news (W.alloc _) k2 k3;rw[X];exact dM C z E F h2 k1
end
section
variable {U:D} {K:KP} {L:Own} {b:Nat} {o:cG}
def KP.sub (K:KP) (b:Nat):KP:=fun b' o'=>K b' o'/\b'≠b
theorem J.Ns (h:J U K L) (hk:K b o):J U (K.sub b) ((b,o)::L) where
 kept b' o' hb:=by
  obtain⟨h1,h2,z⟩:=h.kept b' o' hb.1;refine⟨h1,h2,fun e he=>?_⟩;rcases mQ_.1 he with rfl | he
  ·exact fun u=>hb.2 u.symm
  exact z e he
 own e he:=by
  rcases mQ_.1 he with rfl | he
  ·exact⟨(h.kept b o hk).1,(h.kept b o hk).2.1⟩
  exact h.own e he
 ne:=List.pairwise_cons.2 ⟨fun e he u=>(h.kept b o hk).2.2 e he u.symm,h.ne⟩
theorem J.Nl {U0:D} {z:Own} (h0:J U0 K z) (hk:K b o) (h:J U (K.sub b) ((b,o)::L)):J U K L:=
 h.iu.weaken fun b' o' hb=>by
  by_cases u:b'=b
  ·subst u;have e1:=(h0.kept _ _ hb).2.1;rw[(h0.kept _ _ hk).2.1] at e1;cases e1;exact .inr ⟨Z,Z⟩
  exact .inl ⟨hb,u⟩
theorem J.two {b b':Nat} {o o' o1 aa:cG} (hb:b<U.next) (z:b'<U.next) (u:b≠b'):J (fc U b o b' o') (fun _ _=>False) [(b,o),(b',o')] where
 kept _ _ h:=h.elim
 own e he:=by
  rcases mQ_.1 he with rfl | he
  ·exact⟨hb,by show((N.leaf.put (some o) b).put (some o') b').get b=_;rw[N.dv _ _ _ _ u];exact N.dA _ _ _⟩
  rcases mQ_.1 he with rfl | he
  ·exact⟨z,N.dA _ _ _⟩
  cases he
 ne:=List.pairwise_cons.2 ⟨fun e he=>(by rw[List.mem_singleton] at he;subst he;exact u),List.pairwise_singleton ..⟩
end
inductive ep (X:Own):Own->Own->Prop
 | here {L:Own}:ep X (X++L) L
 | there {y:Nat×cG} {L L0:Own}:ep X L L0->ep X (y::L) (y::L0)
 | cM {M L L0:Own}:ep X L L0->ep X (M++L) (M++L0)
theorem ep.perm {X L L0:Own} (h:ep X L L0):L.Perm (X++L0):=by
 induction h with
 | here=>exact List.Perm.refl _
 | @there y L L0 _ ih=>exact(List.Perm.cons y ih).trans List.perm_middle.symm
 | @cM M L L0 _ ih=>
  refine(List.Perm.append_left M ih).trans ?_;rw[<-lQ_,<-lQ_];exact List.Perm.append_right _ List.perm_append_comm
theorem ep.nh {X A B_ L:Own}:ep X ((A++(X++B_))++L) ((A++B_)++L):=by
 rw[lQ_,lQ_,lQ_];exact .cM .here
section
variable {U:D} {K:KP} {L L0 X:Own}
theorem J.pull (h:J U K L) (hi:ep X L L0):J U K (X++L0):=h.perm hi.perm
theorem J.push (h:J U K (X++L0)) (hi:ep X L L0):J U K L:=h.perm hi.perm.symm
theorem fJ {P:Program} {α:Type} {m e:Nat} {R:α->List V->Prop} {l l2:List α} {u F:V} {M:Own} {bv ev:Nat} {cv:List V} {ts:Array TypeId} {t:TypeId} (ho:cQ m e R l u M) (aq:J U K ((bv,.row cv ev false)::(M++L)))
  (hx:bR (K.add bv (.row cv ev false)) m R l2 F) (z:∀x vs,R x vs->cD vs=true) (hn:l2.length<=1000) (A:1<=l2.length) (hl:l.length<=1000000)
  (G:ts[0]?=some t) (hu:P.underlying t=some (.slice e)) (Q:pK P e m=true) (h2:dt P ts[1]?=true):
  ∃U' u' M',fX P U ts u F= .val u' U'/\cQ m e R (l++l2) u' M'/\J U' K (M'++L):=by
 have hk:=aq.iu;rcases ho with ⟨rfl,rfl,rfl⟩ | ⟨b,c,cells,e',rfl,rfl,W,h4,h5,h6⟩
 ·obtain⟨news,C,k2,E⟩:=rf (P:=P) hk hx z B A G hu Q h2;exact⟨_,_,[(U.next,.row news e false)],C,.inr ⟨_,_,news,e,Z,Z,k2,E,.inr ⟨Z,Z⟩,by show l2.length<=_;omega⟩,((hk.alloc (.row news e false)).weaken<|KP.se _ _ _)⟩
 obtain⟨U',b',c',news,e2,C,k2,E,k4,k5⟩:=xR (P:=P) hk hx z B W B h5 G hu Q h2;exact⟨U',_,[(b',.row (cells++news) e2 false)],C,qf W h4 E k4 Z k5 B,k2.weaken<|KP.se _ _ _⟩
end
def BQ (g:XG) (tm:Nat) (e:db) (fr:dw) (pl:Nat) (row:List db) (frow:List dw) (orow:List dw) (loc:Nat):XG:=
 {init:=g.init,threads:=g.threads.set tm (row++[e]),from_:=g.from_.set tm (frow++[fr]),order:=bif bq e then g.order.set loc (orow.take pl++⟨.ofNat (tm+1),.ofNat row.length⟩::orow.drop pl) else g.order}
def gf (g:XG) (th:Int) (e:db) (fr:dw) (pl:Int):Option XG×Int:=
 bif !I (cd g) 0 then(none,2) else
 bif bU th 1 then(none,9) else
 bif bU (.ofNat g.threads.length) th then(none,9) else
 match g.threads[th.toNat-1]?,g.from_[th.toNat-1]? with
 | some row,some frow=>
  bif !bU (.ofNat row.length) 14 then(none,3) else
  bif (bif bq e then(bif bU pl 1 then true else bU (.ofNat (cu g e.loc).length) pl) else !I pl 0) then(none,2) else
  let g':=BQ g (th.toNat-1) e fr (pl.toNat-1) row frow ((g.order[e.loc.toNat]?).getD []) e.loc.toNat
  bif I (cd g') 0 then(some g',0) else(none,2)
 | _,_=>(none,9)
theorem xS {P:Program} {G:Cx} {ev:Operand->Option V} {U:D} {α:Type} {m E:Nat} {R:α->List V->Prop} {l:List α} {u:V} {M:Own} {c:Call} {t e:TypeId} {x:Operand} (h:cQ m E R l u M) (hc:c.callee= .builtin .len) (z:c.argTypes[0]?=some t) (A:c.args.toList= [x]) (hu:P.underlying t=some (.slice e)) (hx:ev x=some u):
  dW P G ev U (.call c)= .val (.int .i64 (.ofNat l.length)) U:=
 aW (K:=fun b o=>(b,o)∈M) (h.kq fun e he=>he) hc z A hu hx
theorem qF (b o l c:Nat):dX (.slice b o l (.known c)) (.slice b o l (.known c))=true:=by
 unfold dX;show(dX.beqP b b && Nat.beq o o && Nat.beq l l && dX.beqC (.known c) (.known c))=true;rw[show dX.beqP b b=true from Nat.beq_refl b,show dX.beqC (.known c) (.known c)=true from Nat.beq_refl c,Nat.beq_refl,Nat.beq_refl];rfl
theorem fW {us:List V} {u:V} {i:Nat} (h:i<us.length):dG [u] us (0+i*1)=us.set i u:=by
 rw[show 0+i*1=i by omega,oo _ _ _ (by rw[List.length_singleton];omega),List.length_singleton,List.set_eq_take_append_cons_drop,if_pos h,lQ_];rfl
theorem qj {n:Int} (h:bU n 1=false):∃m:Nat,n= .ofNat (m+1):=by
 cases n with
 | negSucc k=>cases h
 | ofNat k=>
  have:1<=k:=bC (a:=k) (b:=1) h;exact⟨k-1,by rw[Nat.sub_add_cancel this]⟩
theorem zY {m:LM} {k:List Int} (h:(gg m k).isSome=true):(lK m k).length+1=m.length:=by
 unfold gg at h;unfold lK;cases u:p7 m k 0 with
 | none=>rw[u] at h;cases h
 | some p=>
  obtain⟨j,v⟩:=p;have h1:=(qS u).2;have hj:j<m.length:=(gA.1 h1).1;dsimp only;rw[List.length_eraseIdx_of_lt hj];omega
theorem uA {loc:Nat}:∀{l:List dw} {m m':LM},lQ loc l m=some m'->m'.length+l.length=m.length
 | [],m,m',h=>by cases h;rfl
 | id::l,m,m',h=>by
  have h':(bif (gg m id.ints).isSome then(bif I ((gg m id.ints).getD 0) (.ofNat loc) then lQ loc l (lK m id.ints) else none) else none)=some m':=h;cases u:(gg m id.ints).isSome with
  | false=>rw[u] at h';cases h'
  | true=>
   rw[u] at h';cases he:I ((gg m id.ints).getD 0) (.ofNat loc) with
   | false=>rw[he] at h';cases h'
   | true=>
    rw[he] at h';have h1:=uA (l:=l) h';have h2:=zY u;rw[List.length_cons];omega
theorem uB:∀{ls:List (List dw)} {loc:Nat} {m m':LM},nw ls loc m=some m'->∀l∈ls,l.length<=m.length
 | [],_,_,_,_,l,hl=>by cases hl
 | r::ls,loc,m,m',h,l,hl=>by
  have h':(lQ loc r m).bind (nw ls (loc+1))=some m':=h;cases u:lQ loc r m with
  | none=>rw[u] at h';cases h'
  | some m1=>
   rw[u] at h';have h1:=uA u;rcases mQ_.1 hl with rfl | hl
   ·omega
   have:=uB (ls:=ls) h' l hl;omega
theorem BV {t:Nat} {m:LM} {n:Nat} {e:db}:(wL t m n e).length<=m.length+1:=by
 unfold wL;cases bq e with
 | false=>show m.length<=_;omega
 | true=>
  show(p8 m _ _).length<=_;unfold p8;split
  ·rw[List.length_set];omega
  rw[lA_];exact nR_ _
theorem uJ {t:Nat}:∀{l:List db} {n:Nat} {m:LM},(rm t l n m).length<=m.length+l.length
 | [],_,_=>nR_ _
 | e::l,n,m=>by
  have h1:=uJ (t:=t) (l:=l) (n:=n+1) (m:=wL t m n e);have h2:=BV (t:=t) (m:=m) (n:=n) (e:=e);show(rm t l (n+1)<|wL t m n e).length<=_;rw[List.length_cons];omega
theorem uK:∀{ls:List (List db)} {t:Nat} {m:LM},(∀l∈ls,l.length<=14)->(pD ls t m).length<=m.length+14*ls.length
 | [],_,_,_=>by simp[pD]
 | l::ls,t,m,h=>by
  have h1:=uK (ls:=ls) (t:=t+1) (m:=rm t l 0 m) fun x hx=>h x (mC_ _ hx)
  have h2:=uJ (t:=t) (l:=l) (n:=0) (m:=m);have h3:=h l (mS_ ..);show(pD ls (t+1)<|rm t l 0 m).length<=_;rw[List.length_cons];omega
theorem j0 {g:XG} (h:cd g=0):∀l∈g.order,l.length<=56:=by
 intro l hl;obtain⟨b1,b2,z,b4,b5,b6,u⟩:=cK h;unfold eB at u;cases hc:nw g.order 0 (pD g.threads 0 []) with
 | none=>rw[hc] at u;cases u
 | some m=>
  have h1:=uB hc l hl;have h2:=uK (ls:=g.threads) (t:=0) (m:=[]) z;have h3:([]:LM).length=0:=rfl;omega
end Go.Ev
namespace Go.Ev
variable [Env]
theorem mS {g:XG}:∀{ts:List (List db)} {fs:List (List dw)} {i:Nat},lu g ts fs i=true->fs.length=ts.length->(∀l∈ts,l.length<=14)->∀f∈fs,f.length<=14
 | [],fs,_,_,hl,_,f,hf=>by
  rw[eN_ hl] at hf;cases hf
 | x::ts,[],_,_,hl,_,f,hf=>by cases hf
 | x::ts,y::fs,i,h,hl,hb,f,hf=>by
  have h':(bif I (.ofNat y.length) (.ofNat x.length) then(bif qo g i x y 0 then lu g ts fs (i+1) else false) else false)=true:=h;cases he:I (.ofNat y.length) (.ofNat x.length) with
  | false=>rw[he] at h';cases h'
  | true=>
   rw[he] at h';cases u:qo g i x y 0 with
   | false=>rw[u] at h';cases h'
   | true=>
    rw[u] at h';have e1:=dB he;have e2:=hb x (mS_ ..);rcases mQ_.1 hf with rfl | hf
    ·omega
    exact mS (ts:=ts) (fs:=fs) h' (by simpa using hl) (fun l hl=>hb l (mC_ _ hl)) f hf
end Go.Ev
namespace Go.Ev
variable [Env]
theorem AX {g:XG} {th pl:Int} {e:db} {fr:dw} (h:I (cd g) 0=false):gf g th e fr pl=(none,2):=by unfold gf;rw[h];rfl
theorem AY {g:XG} {th pl:Int} {e:db} {fr:dw} (h:I (cd g) 0=true) (h1:bU th 1=true):gf g th e fr pl=(none,9):=by unfold gf;rw[h,h1];rfl
theorem AW {g:XG} {th pl:Int} {e:db} {fr:dw} (h:I (cd g) 0=true) (h1:bU th 1=false) (h2:bU (.ofNat g.threads.length) th=true):gf g th e fr pl=(none,9):=by unfold gf;rw[h,h1,h2];rfl
def cT (g:XG) (e:db) (pl:Int):Bool:=bif bq e then(bif bU pl 1 then true else bU (.ofNat (cu g e.loc).length) pl) else !I pl 0
def eE (g:XG) (tm:Nat) (e:db) (fr:dw) (pl:Int) (row:List db) (frow:List dw):XG:=BQ g tm e fr (pl.toNat-1) row frow ((g.order[e.loc.toNat]?).getD []) e.loc.toNat
theorem kO {g:XG} {tm:Nat} {pl:Int} {e:db} {fr:dw} {row:List db} {frow:List dw} (h:I (cd g) 0=true) (hx:g.threads[tm]?=some row) (hf:g.from_[tm]?=some frow):
  gf g (.ofNat (tm+1)) e fr pl=bif !bU (.ofNat row.length) 14 then(none,3) else bif cT g e pl then(none,2) else bif I (cd<|eE g tm e fr pl row frow) 0 then(some<|eE g tm e fr pl row frow,0) else(none,2):=by
 have aa:tm<g.threads.length:=(gA.1 hx).1;have h1:bU (.ofNat (tm+1)) 1=false:=by rw[show(1:Int)= .ofNat 1 from Z,lX];simp
 have h2:bU (.ofNat g.threads.length) (.ofNat (tm+1))=false:=by rw[lX];simp;omega
 have e1:(Int.ofNat (tm+1)).toNat-1=tm:=rfl;unfold gf;rw[h,h1,h2];simp only[Bool.not_true,cond_false,e1,hx,hf];rfl
end Go.Ev
namespace Go.Ev
variable [Env]
theorem xP {g:XG} {loc:Int} (h:1<=(cu g loc).length):∃(ln:Nat) (r:List dw),loc= .ofNat ln/\g.order[ln]?=some r/\(cu g loc).length=r.length+1:=by
 cases hc:I (cd g) 0 with
 | false=>rw[po hc] at h;cases h
 | true=>
  cases hl:bU loc 0 with
  | true=>rw[qA hl] at h;cases h
  | false=>
   obtain⟨ln,rfl⟩:=iQ hl;cases u:g.order[ln]? with
   | none=>
    rw[qz (List.getElem?_eq_none_iff.1 u)] at h;cases h
   | some r=>exact⟨ln,r,Z,u,by rw[ez hc u];rfl⟩
section
variable {U U0:D} {K:KP} {L M:Own}
theorem J.tk (h0:J U0 K (M++L)) (h:J U (K.ic M) L):J U K (M++L) where
 kept b o hb:=by
  obtain⟨h1,h2,u⟩:=h.kept b o (.inl hb);refine⟨h1,h2,fun e he=>?_⟩;rcases List.mem_append.1 he with he | he
  ·exact(h0.kept b o hb).2.2 e (List.mem_append_left _ he)
  exact u e he
 own e he:=by
  rcases List.mem_append.1 he with he | he
  ·exact⟨(h.kept e.1 e.2 (.inr he)).1,(h.kept e.1 e.2 (.inr he)).2.1⟩
  exact h.own e he
 ne:=h0.ne
end
end Go.Ev
namespace Go.Ev
variable [Env]
inductive oz:Own->Own->Own->Prop
 | base {L:Own}:oz L [] L
 | there {x:Nat×cG} {LL M L:Own}:oz LL M L->oz (x::LL) (x::M) L
 | cM {A LL M L:Own}:oz LL M L->oz (A++LL) (A++M) L
theorem oz.eq {LL M L:Own} (h:oz LL M L):LL=M++L:=by
 induction h with
 | base=>rfl
 | there _ ih=>rw[ih];rfl
 | cM _ ih=>rw[ih,lQ_]
theorem J.app {U:D} {K:KP} {LL M L:Own} (h:J U K LL) (u:oz LL M L):J U K (M++L):=by rw[<-u.eq];exact h
theorem J.CN {U:D} {K:KP} {LL M L:Own} (h:J U K (M++L)) (u:oz LL M L):J U K LL:=by rw[u.eq];exact h
theorem sP {g:XG} {tm ln pm:Nat} {e:db} {fr:dw} {row:List db} {frow orow:List dw} (hw:bq e=true) (hl:e.loc= .ofNat ln) (u:g.order[ln]?=some orow):
  eE g tm e fr (.ofNat (pm+1)) row frow= {init:=g.init,threads:=g.threads.set tm (row++[e]),from_:=g.from_.set tm (frow++[fr]),order:=g.order.set ln (orow.take pm++⟨.ofNat (tm+1),.ofNat row.length⟩::orow.drop pm)}:=by
 have e1:(Int.ofNat (pm+1)).toNat-1=pm:=rfl;have z:(Int.ofNat ln).toNat=ln:=rfl;unfold eE BQ;rw[hw,hl,e1,z,u];rfl
theorem vt {g:XG} {tm:Nat} {pl:Int} {e:db} {fr:dw} {row:List db} {frow:List dw} (hw:bq e=false):
  eE g tm e fr pl row frow= {init:=g.init,threads:=g.threads.set tm (row++[e]),from_:=g.from_.set tm (frow++[fr]),order:=g.order}:=by
 unfold eE BQ;rw[hw];rfl
theorem Gv {g:XG} {i:Nat}:fh g ⟨.ofNat 0,.ofNat i⟩=(g.init[i]?).map fun v=>⟨2,i,1,0,v⟩:=rfl
theorem pT {g:XG} {t i:Nat}:fh g ⟨.ofNat (t+1),.ofNat i⟩=(g.threads[t]?).bind (·[i]?):=rfl
theorem Ik {g g':XG} {tm:Nat} {row:List db} {e w:db} {id:dw} (A:g.threads[tm]?=some row) (hi:g'.init=g.init) (C:g'.threads=g.threads.set tm (row++[e])) (h:fh g id=some w):fh g' id=some w:=by
 obtain⟨th,ix⟩:=id;cases ix with
 | negSucc k=>rw[qI (by rw[eP];simp)] at h;cases h
 | ofNat i=>
  cases th with
  | negSucc k=>rw[tL (by rw[eP];simp)] at h;cases h
  | ofNat t=>
   cases t with
   | zero=>rw[Gv] at h⊢;rw[hi];exact h
   | succ t=>
    rw[pT] at h⊢;rw[C,List.getElem?_set]
    by_cases u:tm=t
    ·subst u;have z:tm<g.threads.length:=(gA.1 A).1;rw[if_pos Z,if_pos z];rw[A] at h;have h':row[i]?=some w:=h;show(row++[e])[i]?=some w;rw[gL_ (gA.1 h').1];exact h'
    rw[if_neg u];exact h
theorem Ij {g g':XG} {tm:Nat} {row:List db} {e:db} (z:g.threads[tm]?=some row) (A:g'.threads=g.threads.set tm (row++[e])):fh g' ⟨.ofNat (tm+1),.ofNat row.length⟩=some e:=by
 have u:tm<g.threads.length:=(gA.1 z).1;rw[pT,A,List.getElem?_set,if_pos Z,if_pos u];show(row++[e])[row.length]?=some e;rw[gR_<|nR_ _,Nat.sub_self];rfl
def gh (t:Nat):List db->Nat->LM
 | [],_=>[]
 | e::l,n=>bif bq e then([.ofNat (t+1),.ofNat n],e.loc)::gh t l (n+1) else gh t l (n+1)
def gQ:List (List db)->Nat->LM
 | [],_=>[]
 | l::r,t=>gh t l 0++gQ r (t+1)
theorem yU {k:List Int}:∀{m:LM} {i:Nat},(∀p∈m,p.1≠k)->p7 m k i=none
 | [],_,_=>rfl
 | (k',v)::m,i,h=>by
  show(bif dk k k' then some (i,v) else p7 m k (i+1))=none
  have:dk k k'=false:=by
   cases u:dk k k' with
   | false=>rfl
   | true=>exact absurd (dc.1 u).symm (h (k',v)<|mS_ ..)
  rw[this];exact yU fun p hp=>h p (mC_ _ hp)
theorem wM {t:Nat}:∀{l:List db} {n:Nat} {m:LM},(∀p∈m,∀k,n<=k->p.1≠[.ofNat (t+1),.ofNat k])->rm t l n m=m++gh t l n
 | [],_,m,_=>by simp[rm,gh]
 | e::l,n,m,h=>by
  show rm t l (n+1) (wL t m n e)=m++(bif bq e then _ else _);unfold wL;cases hw:bq e with
  | false=>exact wM fun p hp k hk=>h p hp k B
  | true=>
   show rm t l (n+1) (p8 m [.ofNat (t+1),.ofNat n] e.loc)=m++_
   have hp:p8 m [.ofNat (t+1),.ofNat n] e.loc=m++[([.ofNat (t+1),.ofNat n],e.loc)]:=by
    unfold p8;rw[yU fun p hp=>h p hp n (nR_ _)]
   rw[hp,wM (l:=l) (n:=n+1) fun p hp k hk=>?_,lQ_]
   ·rfl
   rcases List.mem_append.1 hp with hp | hp
   ·exact h p hp k B
   rw[List.mem_singleton] at hp;subst hp;intro he;simp only[List.cons.injEq,and_true,true_and] at he;have:n=k:=iJ_ he;omega
theorem mm {t:Nat}:∀{l:List db} {n:Nat},∀p∈gh t l n,∃k,p.1= [.ofNat (t+1),.ofNat k]/\n<=k
 | [],_,p,h=>by cases h
 | e::l,n,p,h=>by
  have h':p∈(bif bq e then([.ofNat (t+1),.ofNat n],e.loc)::gh t l (n+1) else gh t l (n+1)):=h;cases hw:bq e with
  | false=>
   rw[hw] at h';obtain⟨k,h1,h2⟩:=mm (l:=l) p h';exact⟨k,h1,by omega⟩
  | true=>
   rw[hw] at h';rcases mQ_.1 h' with rfl | h'
   ·exact⟨n,Z,nR_ _⟩
   obtain⟨k,h1,h2⟩:=mm (l:=l) p h';exact⟨k,h1,by omega⟩
theorem BW:∀{ls:List (List db)} {t:Nat} {m:LM},(∀p∈m,∀s k,t<=s->p.1≠[.ofNat (s+1),.ofNat k])->pD ls t m=m++gQ ls t
 | [],_,m,_=>by simp[pD,gQ]
 | l::ls,t,m,h=>by
  show pD ls (t+1) (rm t l 0 m)=m++(gh t l 0++gQ ls (t+1));rw[wM fun p hp k _=>h p hp t k (nR_ _),BW (ls:=ls) (t:=t+1) fun p hp s k hs=>?_,lQ_];rcases List.mem_append.1 hp with hp | hp
  ·exact h p hp s k B
  obtain⟨k',h1,_⟩:=mm p hp;rw[h1];intro he;simp only[List.cons.injEq,and_true] at he;have:t+1=s+1:=iJ_ he.1;omega
theorem uL {ls:List (List db)}:pD ls 0 []=gQ ls 0:=by
 rw[BW fun p hp=>by cases hp];rfl
def fS (loc:Nat) (l:List dw):LM:=l.map fun id=>(id.ints,.ofNat loc)
def lZ:List (List dw)->Nat->LM
 | [],_=>[]
 | r::ls,loc=>fS loc r++lZ ls (loc+1)
theorem kT {α:Type}:∀{m:List α} {j:Nat} {x:α},m[j]?=some x->m.Perm (x::m.eraseIdx j)
 | [],_,_,h=>by simp at h
 | y::m,0,x,h=>by
  have:y=x:=by simpa using h
  subst this;exact List.Perm.refl _
 | y::m,j+1,x,h=>by
  have h':m[j]?=some x:=by simpa using h
  exact(List.Perm.cons y<|kT h').trans (List.Perm.swap x y _)
theorem wT {m:LM} {k:List Int} {v:Int} (h:gg m k=some v):m.Perm ((k,v)::lK m k):=by
 unfold gg at h;unfold lK;cases u:p7 m k 0 with
 | none=>rw[u] at h;cases h
 | some p=>
  obtain⟨j,w⟩:=p;rw[u] at h;have hw:w=v:=by simpa using h
  subst hw;exact kT (qS u).2
theorem yD {loc:Nat}:∀{l:List dw} {m m':LM},lQ loc l m=some m'->m.Perm (fS loc l++m')
 | [],m,m',h=>by cases h;exact List.Perm.refl _
 | id::l,m,m',h=>by
  have h':(bif (gg m id.ints).isSome then(bif I ((gg m id.ints).getD 0) (.ofNat loc) then lQ loc l (lK m id.ints) else none) else none)=some m':=h;cases u:gg m id.ints with
  | none=>rw[u] at h';cases h'
  | some v=>
   rw[u] at h';have h'':(bif I v (.ofNat loc) then lQ loc l (lK m id.ints) else none)=some m':=h';cases he:I v (.ofNat loc) with
   | false=>rw[he] at h'';cases h''
   | true=>
    rw[he] at h'';rw[dF] at he;have hv:v= .ofNat loc:=of_decide_eq_true he;subst hv;exact(wT u).trans (List.Perm.cons _<|yD (l:=l) h'')
theorem yE:∀{ls:List (List dw)} {loc:Nat} {m m':LM},nw ls loc m=some m'->m.Perm (lZ ls loc++m')
 | [],_,m,m',h=>by cases h;exact List.Perm.refl _
 | r::ls,loc,m,m',h=>by
  have h':(lQ loc r m).bind (nw ls (loc+1))=some m':=h;cases u:lQ loc r m with
  | none=>rw[u] at h';cases h'
  | some m1=>
   rw[u] at h';refine(yD u).trans ?_;show(fS loc r++m1).Perm ((fS loc r++lZ ls (loc+1))++m');rw[lQ_];exact List.Perm.append_left _<|yE (ls:=ls) h'
theorem Eg {g:XG} (h:eB g=true):(gQ g.threads 0).Perm (lZ g.order 0):=by
 unfold eB at h;cases hc:nw g.order 0 (pD g.threads 0 []) with
 | none=>rw[hc] at h;cases h
 | some m=>
  rw[hc] at h
  have h0:m= []:=by
   have h1:I (.ofNat m.length) (.ofNat 0)=true:=h;rw[fv] at h1;exact eN_<|of_decide_eq_true h1
  have:=yE hc;rw[h0,List.append_nil,uL] at this;exact this
theorem B3 {k:List Int} {v:Int}:∀{m:LM} {i:Nat},(m.map (·.1)).Nodup->(k,v)∈m->∃j,p7 m k i=some (j,v)
 | (k',w)::m,i,hn,h=>by
  rw[List.map_cons,List.nodup_cons] at hn;show∃j,(bif dk k k' then some (i,w) else p7 m k (i+1))=some (j,v);rcases mQ_.1 h with h1 | h1
  ·cases h1;rw[dc.2 Z];exact⟨i,Z⟩
  have:dk k k'=false:=by
   cases u:dk k k' with
   | false=>rfl
   | true=>
    have e:=dc.1 u;subst e;exact(hn.1<|List.mem_map.2 ⟨(k,v),h1,Z⟩).elim
  rw[this];exact B3 (m:=m) hn.2 h1
theorem E3 {loc:Nat}:∀{l:List dw} {m rest:LM},m.Perm (fS loc l++rest)->(m.map (·.1)).Nodup->∃m',lQ loc l m=some m'/\m'.Perm rest/\(m'.map (·.1)).Nodup
 | [],m,rest,h,hn=>⟨m,Z,h,hn⟩
 | id::l,m,rest,h,hn=>by
  have u:(id.ints,Int.ofNat loc)∈m:=h.mem_iff.2 (mS_ ..);obtain⟨j,hj⟩:=B3 (i:=0) hn u;have C:gg m id.ints=some (.ofNat loc):=by unfold gg;rw[hj];rfl
  have hp:=wT C;have z:(lK m id.ints).Perm (fS loc l++rest):=List.Perm.cons_inv (hp.symm.trans h)
  have A:((lK m id.ints).map (·.1)).Nodup:=by
   have:=(hp.map (·.1)).nodup_iff.1 hn
   rw[List.map_cons,List.nodup_cons] at this;exact this.2
  obtain⟨m',h1,h2,E⟩:=E3 (l:=l) z A;refine⟨m',?_,h2,E⟩;show(bif (gg m id.ints).isSome then(bif I ((gg m id.ints).getD 0) (.ofNat loc) then lQ loc l (lK m id.ints) else none) else none)=some m';have he:I (.ofNat loc) (.ofNat loc)=true:=by rw[fv];simp
  rw[C];show(bif I (.ofNat loc) (.ofNat loc) then lQ loc l (lK m id.ints) else none)=some m';rw[he];exact h1
theorem E4:∀{ls:List (List dw)} {loc:Nat} {m:LM},m.Perm (lZ ls loc)->(m.map (·.1)).Nodup->nw ls loc m=some []
 | [],_,m,h,_=>by rw[show m= [] from h.eq_nil];rfl
 | r::ls,loc,m,h,hn=>by
  obtain⟨m',h1,h2,u⟩:=E3 (l:=r) (rest:=lZ ls (loc+1)) h hn;show(lQ loc r m).bind (nw ls (loc+1))=some [];rw[h1];exact E4 (ls:=ls) h2 u
theorem qy {t:Nat}:∀{l:List db} {n:Nat},((gh t l n).map (·.1)).Nodup
 | [],_=>List.nodup_nil
 | e::l,n=>by
  show((bif bq e then([.ofNat (t+1),.ofNat n],e.loc)::gh t l (n+1) else gh t l (n+1):LM).map (·.1)).Nodup
  cases bq e with
  | false=>exact qy (l:=l)
  | true=>
   show(([Int.ofNat (t+1),Int.ofNat n],e.loc).1::(gh t l (n+1)).map (·.1)).Nodup
   rw[List.nodup_cons];refine⟨fun h=>?_,qy (l:=l)⟩;obtain⟨p,hp,he⟩:=List.mem_map.1 h;obtain⟨k,h1,h2⟩:=mm p hp;rw[h1] at he;simp only[List.cons.injEq,and_true,true_and] at he;have:k=n:=iJ_ he;omega
theorem zo:∀{ls:List (List db)} {t:Nat},∀p∈gQ ls t,∃s k,p.1= [.ofNat (s+1),.ofNat k]/\t<=s
 | [],_,p,h=>by cases h
 | l::ls,t,p,h=>by
  have h':p∈gh t l 0++gQ ls (t+1):=h;rcases List.mem_append.1 h' with h' | h'
  ·obtain⟨k,h1,_⟩:=mm p h';exact⟨t,k,h1,nR_ _⟩
  obtain⟨s,k,h1,h2⟩:=zo (ls:=ls) p h';exact⟨s,k,h1,by omega⟩
theorem qx:∀{ls:List (List db)} {t:Nat},((gQ ls t).map (·.1)).Nodup
 | [],_=>List.nodup_nil
 | l::ls,t=>by
  show((gh t l 0++gQ ls (t+1)).map (·.1)).Nodup
  rw[List.map_append,List.nodup_append];refine⟨qy,qx (ls:=ls),fun a z b hb u=>?_⟩;obtain⟨p,hp,rfl⟩:=List.mem_map.1 z;obtain⟨q,hq,rfl⟩:=List.mem_map.1 hb;obtain⟨k,h1,_⟩:=mm p hp;obtain⟨s,k',A,h4⟩:=zo q hq;rw[h1,A] at u;simp only[List.cons.injEq,and_true] at u;have:t+1=s+1:=iJ_ u.1;omega
theorem qm {g:XG}:eB g=true↔(gQ g.threads 0).Perm (lZ g.order 0):=by
 refine⟨Eg,fun h=>?_⟩;unfold eB;rw[uL,E4 h qx];rfl
theorem s9 {g:XG} {t:Nat}:∀{l:List db} {f:List dw} {n:Nat},f.length=l.length->(qo g t l f n=true↔∀i e q,l[i]?=some e->f[i]?=some q->yf g t (n+i) e q=true)
 | [],f,n,h=>⟨fun _ i e q h1=>by simp at h1,fun _=>Z⟩
 | x::l,[],n,h=>by cases h
 | x::l,y::f,n,h=>by
  have hl:f.length=l.length:=by simpa using h
  show(bif yf g t n x y then qo g t l f (n+1) else false)=true↔_;constructor
  ·intro u i e q h1 h2;cases z:yf g t n x y with
   | false=>rw[z] at u;cases u
   | true=>
    rw[z] at u;cases i with
    | zero=>
     have e1:x=e:=by simpa using h1
     have A:y=q:=by simpa using h2
     subst e1 A;exact z
    | succ i=>
     have:=(s9 hl).1 u i e q (by simpa using h1) (by simpa using h2);rwa[show n+1+i=n+(i+1) by omega] at this
  intro u;rw[show yf g t n x y=true from u 0 x y Z Z];refine(s9 hl).2 fun i e q h1 h2=>?_
  have:=u (i+1) e q (by simpa using h1) (by simpa using h2);rwa[show n+(i+1)=n+1+i by omega] at this
theorem qZ {g:XG}:∀{ls:List (List db)} {fs:List (List dw)} {t:Nat},fs.length=ls.length->(lu g ls fs t=true↔∀i l f,ls[i]?=some l->fs[i]?=some f->f.length=l.length/\∀j e q,l[j]?=some e->f[j]?=some q->yf g (t+i) j e q=true)
 | [],f,n,h=>⟨fun _ i e q h1=>by simp at h1,fun _=>Z⟩
 | x::l,[],n,h=>by cases h
 | x::l,y::f,t,h=>by
  have hl:f.length=l.length:=by simpa using h
  show(bif I (.ofNat y.length) (.ofNat x.length) then(bif qo g t x y 0 then lu g l f (t+1) else false) else false)=true↔_;constructor
  ·intro u i e q h1 h2;cases he:I (.ofNat y.length) (.ofNat x.length) with
   | false=>rw[he] at u;cases u
   | true=>
    rw[he] at u;cases C:qo g t x y 0 with
    | false=>rw[C] at u;cases u
    | true=>
     rw[C] at u;cases i with
     | zero=>
      have e1:x=e:=by simpa using h1
      have E:y=q:=by simpa using h2
      subst e1 E;refine⟨dB he,fun j w z A k2=>?_⟩;have:=(s9<|dB he).1 C j w z A k2;rwa[nA_] at this
     | succ i=>
      have:=(qZ hl).1 u i e q (by simpa using h1) (by simpa using h2);rwa[show t+1+i=t+(i+1) by omega] at this
  intro u;obtain⟨h1,h2⟩:=u 0 x y Z Z;rw[show I (.ofNat y.length) (.ofNat x.length)=true by rw[fv];simp[h1]];rw[show qo g t x y 0=true from(s9 h1).2 fun i e q A k2=>by have:=h2 i e q A k2;rwa[nA_]];refine(qZ hl).2 fun i e q A k2=>?_
  have:=u (i+1) e q (by simpa using A) (by simpa using k2);rwa[show t+(i+1)=t+1+i by omega] at this
structure yu (g:XG):Prop where
 threads:g.threads.length<=4
 init:g.init.length<=6
 short:∀(i:Nat) (l:List db),g.threads[i]?=some l->l.length<=14
 from_:g.from_.length=g.threads.length
 order:g.order.length=g.init.length
 rows:∀(i:Nat) (l:List db) (f:List dw),g.threads[i]?=some l->g.from_[i]?=some f->f.length=l.length/\∀(j:Nat) (e:db) (q:dw),l[j]?=some e->f[j]?=some q->yf g i j e q=true
 perm:(gQ g.threads 0).Perm (lZ g.order 0)
theorem im {g:XG}:cd g=0↔yu g:=by
 constructor
 ·intro h;obtain⟨A,C,E,z,F,G,K⟩:=cK h;refine⟨A,C,fun i l hl=>E l (gB_ hl),z,F,fun i l f u k2=>?_,qm.1 K⟩;have:=(qZ z).1 G i l f u k2;rwa[nA_] at this
 intro h;unfold cd
 have h1:eK g=false:=by
  unfold eK;rw[show bU 4 (.ofNat g.threads.length)=false by rw[show(4:Int)= .ofNat 4 from Z,lX];have:=h.threads;simp;omega];rw[show bU 6 (.ofNat g.init.length)=false by rw[show(6:Int)= .ofNat 6 from Z,lX];have:=h.init;simp;omega];show(g.threads.any fun l=>bU 14 (.ofNat l.length))=false;rw[List.any_eq_false];intro l hl;obtain⟨i,hi⟩:=gO_ hl;have:=h.short i l hi;rw[show(14:Int)= .ofNat 14 from Z,lX];simp;omega
 rw[h1];rw[show I (.ofNat g.from_.length) (.ofNat g.threads.length)=true by rw[fv];simp[h.from_]];rw[show I (.ofNat g.order.length) (.ofNat g.init.length)=true by rw[fv];simp[h.order]];rw[show lu g g.threads g.from_ 0=true from(qZ h.from_).2 fun i l f u k2=>by have:=h.rows i l f u k2;rwa[nA_]];rw[qm.2 h.perm];rfl
def Ha (o:List (List dw)) (e:db) (id:dw) (pl:Int):List (List dw):=
 bif bq e then o.set e.loc.toNat (((o[e.loc.toNat]?).getD []).take (pl.toNat-1)++id::((o[e.loc.toNat]?).getD []).drop (pl.toNat-1)) else o
theorem mg {g:XG} {tm:Nat} {e:db} {fr:dw} {pl:Int} {row:List db} {frow:List dw}:eE g tm e fr pl row frow=⟨g.init,g.threads.set tm (row++[e]),g.from_.set tm (frow++[fr]),Ha g.order e ⟨.ofNat (tm+1),.ofNat row.length⟩ pl⟩:=rfl
theorem lP {g:XG} {e:db} {pl:Int} (h:cT g e pl=false) (hw:bq e=true):∃(ln:Nat) (r:List dw),e.loc= .ofNat ln/\g.order[ln]?=some r/\(cu g e.loc).length=r.length+1:=by
 unfold cT at h;rw[hw] at h;have h:(bif bU pl 1 then true else bU (.ofNat (cu g e.loc).length) pl)=false:=h;cases h1:bU pl 1 with
 | true=>rw[h1] at h;cases h
 | false=>
  rw[h1] at h;obtain⟨m,rfl⟩:=qj h1;have h2:bU (.ofNat (cu g e.loc).length) (.ofNat (m+1))=false:=h;have:=bC h2;exact xP B
theorem jS {g a:XG} {th pl:Int} {e:db} {fr:dw} (h:gf g th e fr pl=(some a,0)):cd g=0/\∃tm row frow,th= .ofNat (tm+1)/\g.threads[tm]?=some row/\g.from_[tm]?=some frow/\bU (.ofNat row.length) 14=true/\cT g e pl=false/\a=eE g tm e fr pl row frow/\cd a=0:=by
 cases hc:I (cd g) 0 with
 | false=>rw[AX hc] at h;cases h
 | true=>
  refine⟨sH hc,?_⟩;cases h1:bU th 1 with
  | true=>rw[AY hc h1] at h;cases h
  | false=>
   cases h2:bU (.ofNat g.threads.length) th with
   | true=>rw[AW hc h1 h2] at h;cases h
   | false=>
    obtain⟨tm,rfl⟩:=qj h1;have A:tm<g.threads.length:=by have:=bC h2;omega
    obtain⟨row,z⟩:=cm A;obtain⟨frow,u⟩:=cm (show tm<g.from_.length by rw[(cK<|sH hc).2.2.2.1];exact A);rw[kO hc z u] at h;cases C:bU (.ofNat row.length) 14 with
    | false=>rw[C] at h;cases h
    | true=>
     rw[C] at h;rcases Bool.eq_false_or_eq_true (cT g e pl) with h4 | h4
     ·rw[h4] at h;cases h
     rw[h4] at h;cases h5:I (cd<|eE g tm e fr pl row frow) 0 with
     | false=>rw[h5] at h;cases h
     | true=>
      rw[h5] at h;have E:(some<|eE g tm e fr pl row frow,(0:Int))=(some a,0):=h;have F:eE g tm e fr pl row frow=a:=by cases E;rfl
      subst F;exact⟨tm,row,frow,Z,z,u,C,h4,Z,sH h5⟩
theorem FB {o:List (List dw)} {e:db} {id:dw} {pl:Int} {k:Nat} (h:bq e=true->e.loc.toNat≠k):(Ha o e id pl)[k]?=o[k]?:=by
 unfold Ha;cases hw:bq e with
 | false=>rfl
 | true=>exact List.getElem?_set_ne (h hw)
theorem fP (x:Int):I x x=true:=by rw[dF];simp
structure O6 {α:Type} (c:α->α->Int):Prop where
 O8:∀x y,c y x= -c x y
 small:∀x y,-1<=c x y/\c x y<=1
 trans:∀x y z,c x y<=0->c y z<=0->c x z<=0
theorem O6.pull {α β:Type} {c:α->α->Int} (h:O6 c) (f:β->α):O6 fun x y=>c (f x) (f y):=⟨fun x y=>h.O8 _ _,fun x y=>h.small _ _,fun x y z=>h.trans _ _ _⟩
theorem N9 (a b:Int):(bif I a 0 then b else a)=if a=0 then b else a:=by
 rw[dF]
 by_cases h:a=0<;>simp[h]
theorem nm {α:Type} {l:List α} {ls:List (List α)}:nM (l::ls)=l.length+nM ls:=by unfold nM;simp
theorem zt {t:Nat}:∀{l:List db} {n:Nat},∀p∈gh t l n,∃k,p.1= [.ofNat (t+1),.ofNat (n+k)]/\k<l.length
 | [],_,p,h=>by cases h
 | e::l,n,p,h=>by
  have h':p∈(bif bq e then([.ofNat (t+1),.ofNat n],e.loc)::gh t l (n+1) else gh t l (n+1)):=h
  have key:p∈gh t l (n+1)->∃k,p.1= [.ofNat (t+1),.ofNat (n+k)]/\k<(e::l).length:=fun h=>by
   obtain⟨k,h1,h2⟩:=zt (l:=l) p h;exact⟨k+1,by rw[h1,show n+1+k=n+(k+1) by omega],by rw[List.length_cons];omega⟩
  cases hw:bq e with
  | false=>rw[hw] at h';exact key h'
  | true=>
   rw[hw] at h';rcases mQ_.1 h' with rfl | h'
   ·exact⟨0,Z,by rw[List.length_cons];omega⟩
   exact key h'
theorem zq:∀{ls:List (List db)} {t:Nat},∀p∈gQ ls t,∃(s k:Nat) (l:List db),p.1= [.ofNat (t+s+1),.ofNat k]/\ls[s]?=some l/\k<l.length
 | [],_,p,h=>by cases h
 | l::ls,t,p,h=>by
  have h':p∈gh t l 0++gQ ls (t+1):=h;rcases List.mem_append.1 h' with h' | h'
  ·obtain⟨k,h1,h2⟩:=zt p h';exact⟨0,k,l,by rw[h1,nA_],Z,h2⟩
  obtain⟨s,k,l',h1,h2,u⟩:=zq (ls:=ls) p h';exact⟨s+1,k,l',by rw[h1,show t+1+s+1=t+(s+1)+1 by omega],by simpa using h2,u⟩
theorem w3:∀{ls:List (List dw)} {loc ln:Nat} {r:List dw} {x:dw},ls[ln]?=some r->x∈r->(x.ints,Int.ofNat (loc+ln))∈lZ ls loc
 | [],_,_,_,_,h,_=>by simp at h
 | l::ls,loc,0,r,x,h,hx=>by
  have:l=r:=by simpa using h
  subst this;exact List.mem_append_left _<|List.mem_map.2 ⟨x,hx,Z⟩
 | l::ls,loc,ln+1,r,x,h,hx=>by
  have h':ls[ln]?=some r:=by simpa using h
  have:=w3 (loc:=loc+1) h' hx;rw[show loc+1+ln=loc+(ln+1) by omega] at this;exact List.mem_append_right _ this
theorem Lc {g:XG} (h:yu g) {tm ln:Nat} {row:List db} {r:List dw} (z:g.threads[tm]?=some row) (A:g.order[ln]?=some r):(⟨.ofNat (tm+1),.ofNat row.length⟩:dw)∉r:=fun hx=>by
 have h1:=h.perm.mem_iff.2 (w3 (loc:=0) A hx);obtain⟨s,k,l,h2,u,h4⟩:=zq _ h1;rw[show 0+s+1=s+1 by omega] at h2;have h2: [Int.ofNat (tm+1),Int.ofNat row.length]= [.ofNat (s+1),.ofNat k]:=h2;simp only[List.cons.injEq,and_true] at h2;have e1:tm+1=s+1:=iJ_ h2.1;have e2:row.length=k:=iJ_ h2.2;obtain rfl:tm=s:=by omega
 rw[z] at u;cases u;omega
theorem xJ {α:Type}:∀{ls:List (List α)} {tm:Nat} {row:List α} {e:α},ls[tm]?=some row->nM (ls.set tm (row++[e]))=nM ls+1
 | [],_,_,_,h=>by simp at h
 | l::ls,0,row,e,h=>by
  have:l=row:=by simpa using h
  subst this;show nM ((l++[e])::ls)=_;rw[nm,nm,lA_,List.length_singleton];omega
 | l::ls,tm+1,row,e,h=>by
  have h':ls[tm]?=some row:=by simpa using h
  show nM (l::ls.set tm (row++[e]))=_;rw[nm,nm,xJ h'];omega
def Ec (id:dw) (y:dw):Bool:= !(dk y.ints id.ints)
theorem IW {id y:dw} (h:y≠id):Ec id y=true:=by
 unfold Ec;rw[dw.same,mV.2 h];rfl
theorem Fg {α:Type} {p:α->Bool} {x:α} (hx:p x=true):∀{a b:List α} {i:Nat},(∀y∈a,p y=false)->tS p (a++x::b) i= .ofNat (i+a.length)
 | [],b,i,_=>by
  show(bif p x then Int.ofNat i else _)=_;rw[hx];rfl
 | y::a,b,i,h=>by
  show(bif p y then Int.ofNat i else tS p (a++x::b) (i+1))=_;rw[h y<|mS_ ..];show tS p (a++x::b) (i+1)=_;rw[Fg hx fun z u=>h z (mC_ _ u),List.length_cons,show i+1+a.length=i+(a.length+1) by omega]
theorem filter_all {id:dw} {l:List dw} (h:id∉l):l.filter (Ec id)=l:=List.filter_eq_self.2 fun y hy=>IW fun e=>h (e ▸ hy)
theorem DG {id:dw} {a b:List dw} (u:id∉a) (hb:id∉b):(a++id::b).filter (Ec id)=a++b:=by
 have h:Ec id id=false:=by unfold Ec;rw[dw.same,dc.2 Z];rfl
 rw[List.filter_append,List.filter_cons,h,filter_all u,filter_all hb];rfl
theorem F7 {g h:XG} {th pl:Int} {e:db} {fr:dw} (Q:gf g th e fr pl=(some h,0)):∃(tm:Nat) (row:List db),th= .ofNat (tm+1)/\g.threads[tm]?=some row/\cd g=0/\cd h=0/\fh h ⟨.ofNat (tm+1),.ofNat row.length⟩=some e/\Dq h=Dq g+1/\
  (bU 0 pl=true->bq e=true/\tS (fun y=>dk (⟨.ofNat (tm+1),.ofNat row.length⟩:dw).ints y.ints) (cu h e.loc) 0=pl)/\(∀id w,fh g id=some w->fh h id=some w)/\
  ∀loc:Nat,loc<g.init.length->(cu h (.ofNat loc)).filter (Ec ⟨.ofNat (tm+1),.ofNat row.length⟩)=cu g (.ofNat loc):=by
 obtain⟨K,tm,row,frow,rfl,C,q1,l1,u,rfl,ch⟩:=jS Q;have rg:=im.1 K;have e1:I (cd g) 0=true:=by rw[K];rfl
 have L:I (cd<|eE g tm e fr pl row frow) 0=true:=by rw[ch];rfl
 have z:∀(ln:Nat) (r:List dw),g.order[ln]?=some r->(⟨.ofNat (tm+1),.ofNat row.length⟩:dw)∉(⟨0,.ofNat ln⟩:dw)::r:=fun ln r A hm=>by
  rcases mQ_.1 hm with hm | hm
  ·have:=congrArg dw.ia hm;exact absurd (show Int.ofNat (tm+1)= .ofNat 0 from this) (fun h=>by cases h)
  exact Lc rg C A hm
 have E:bq e=true->∃(ln pm:Nat) (r:List dw),e.loc= .ofNat ln/\pl= .ofNat (pm+1)/\g.order[ln]?=some r/\pm<=r.length/\cu (eE g tm e fr pl row frow) (.ofNat ln)=(⟨0,.ofNat ln⟩::r.take pm)++⟨.ofNat (tm+1),.ofNat row.length⟩::r.drop pm:=fun hw=>by
  obtain⟨ln,r,h1,h2,F⟩:=lP u hw;unfold cT at u;rw[hw] at u;have u:(bif bU pl 1 then true else bU (.ofNat (cu g e.loc).length) pl)=false:=u;cases h4:bU pl 1 with
  | true=>rw[h4] at u;cases u
  | false=>
   rw[h4] at u;obtain⟨pm,rfl⟩:=qj h4;have h5:bU (.ofNat (cu g e.loc).length) (.ofNat (pm+1))=false:=u;have h6:=bC h5;refine⟨ln,pm,r,h1,Z,h2,by omega,?_⟩
   have M:(eE g tm e fr (.ofNat (pm+1)) row frow).order[ln]?=some (r.take pm++⟨.ofNat (tm+1),.ofNat row.length⟩::r.drop pm):=by
    rw[sP hw h1 h2];show(g.order.set ln _)[ln]?=_;rw[List.getElem?_set_self (gA.1 h2).1]
   rw[ez L M];rfl
 refine⟨tm,row,Z,C,K,ch,Ij C Z,?_,fun hp=>?_,fun id w hw=>Ik C Z Z hw,fun loc G=>?_⟩
 ·unfold Dq;rw[e1,L];show g.init.length+nM (g.threads.set tm (row++[e]))=g.init.length+nM g.threads+1;rw[xJ C];omega
 ·have hw:bq e=true:=by
   cases hw:bq e with
   | true=>rfl
   | false=>
    unfold cT at u;rw[hw] at u;have u:(!I pl 0)=false:=u;have:=sH (eV u);subst this;cases hp
  refine⟨hw,?_⟩;obtain⟨ln,pm,r,h1,rfl,F,h4,h5⟩:=E hw;rw[h1,h5,Fg (p:=fun y:dw=>dk (⟨.ofNat (tm+1),.ofNat row.length⟩:dw).ints y.ints) (dc.2 Z) fun y hy=>mV.2 fun he=>?_]
  ·rw[List.length_cons,lT_,Nat.min_eq_left h4,nA_]
  have hy':y=(⟨.ofNat (tm+1),.ofNat row.length⟩:dw):=by
   have:dk y.ints (⟨.ofNat (tm+1),.ofNat row.length⟩:dw).ints=true:=dc.2 he.symm;rw[dw.same] at this;exact dc.1 this
  subst hy';refine z ln r F ?_;rcases mQ_.1 hy with hy | hy
  ·exact mQ_.2 (.inl hy)
  exact mC_ _<|List.mem_of_mem_take hy
 obtain⟨r,A⟩:=cm (show loc<g.order.length by rw[rg.order];exact G);rw[ez e1 A]
 by_cases hw:bq e=true/\e.loc.toNat=loc
 ·obtain⟨ln,pm,r',h1,rfl,F,h4,h5⟩:=E hw.1;have hl:ln=loc:=by have:=hw.2;rw[h1] at this;exact this
  subst hl;rw[A] at F;cases F;have hn:=z ln r A;rw[h5,DG (fun hm=>hn ?_) (fun hm=>hn (mC_ _<|List.mem_of_mem_drop hm))]
  ·show⟨0,.ofNat ln⟩::(r.take pm++r.drop pm)=_;rw[List.take_append_drop]
  rcases mQ_.1 hm with hm | hm
  ·exact mQ_.2 (.inl hm)
  exact mC_ _<|List.mem_of_mem_take hm
 have M:(eE g tm e fr pl row frow).order[loc]?=some r:=by
  show(Ha g.order e ⟨.ofNat (tm+1),.ofNat row.length⟩ pl)[loc]?=_;rw[FB fun h1 h2=>hw ⟨h1,h2⟩,A]
 rw[ez L M,filter_all<|z loc r A]
def ny:List Nat->Nat->Option Nat
 | [],n=>some n
 | c::r,n=>if 48<=c/\c<=57 then ny r (10*n+(c-48)) else none
def iG (s:List Nat):Option Nat:=if s.length=0∨4<s.length∨(1<s.length/\s[0]?=some 48) then none else ny s 0
theorem lS {s:List Nat} {i c n:Nat} (h:s[i]?=some c) (hc:¬(48<=c/\c<=57)):ny (s.drop i) n=none:=by
 rw[cR h];show(if _ then _ else _)=_;rw[if_neg hc]
theorem pQ {s:List Nat} {i c n:Nat} (h:s[i]?=some c) (hc:48<=c/\c<=57):ny (s.drop i) n=ny (s.drop (i+1)) (10*n+(c-48)):=by
 rw[cR h];show(if _ then _ else _)=_;rw[if_pos hc]
theorem pP {s:List Nat} {i n:Nat} (h:s.length<=i):ny (s.drop i) n=some n:=by rw[fO h];rfl
theorem eqv {a b:Int} (h:I a b=true):a=b:=by rw[dF] at h;exact of_decide_eq_true h
def pj (b:Bool):Int:=bif b then 1 else 0
def HM (f:BitVec 64->BitVec 64->BitVec 64) (a b:Int):Int:=wr .i64 (IntKind.u64.wrap (f (BitVec.ofInt 64<|wr .u64 a)<|BitVec.ofInt 64<|wr .u64 b).toNat)
def pE (op a:Int):Int:=bif I op 3 then wr .i64 (wr .u64<|Int.sub 0<|wr .u64 a) else pj (I a 0)
def iA (op a b:Int):Int:=
 bif I op 5 then pj (bif aX (I a 0) then true else aX (I b 0)) else
 bif I op 6 then pj (bif aX (I a 0) then aX (I b 0) else false) else
 bif I op 7 then pj (I a b) else
 bif I op 8 then pj (aX<|I a b) else
 bif I op 9 then pj (bU a b) else
 bif I op 10 then pj (aX<|bU b a) else
 bif I op 11 then HM (· ||| ·) a b else
 bif I op 12 then HM (· ^^^ ·) a b else
 bif I op 13 then HM (· &&& ·) a b else
 bif I op 14 then wr .i64 (wr .u64<|Int.add (wr .u64 a)<|wr .u64 b) else
 bif I op 15 then wr .i64 (wr .u64<|Int.sub (wr .u64 a)<|wr .u64 b) else
 wr .i64 (wr .u64<|Int.mul (wr .u64 a)<|wr .u64 b)
def jl (op:Int) (l:List Int):Int×Int:=
 bif (bif (bif I op 3 then true else I op 4) then I (.ofNat l.length) 1 else false) then(pE op ((l[0]?).getD 0),0) else
 bif (bif (bif aX (bU op 5) then aX (bU 16 op) else false) then I (.ofNat l.length) 2 else false) then(iA op ((l[0]?).getD 0) ((l[1]?).getD 0),0) else(0,2)
def Pe (op:Int) (l:List Int):Int:=(jl op l).1
def eJ (aY:List Int):Nat->XE->Int
 | 0,_=>0
 | k+1,.mk op num name kids=>bif I op 1 then num else bif I op 2 then(aY[(iG name).getD 0]?).getD 0 else Pe op (kids.map<|eJ aY k)
def fQ (op:Int):Int:=bif (bif I op 3 then true else I op 4) then 1 else 2
def ea (aY:Int):Nat->XE->Bool
 | 0,_=>false
 | k+1,.mk op num name kids=>
  bif I op 1 then(bif aX (bU num 0) then(bif gL name [] then I (.ofNat kids.length) 0 else false) else false) else
  bif I op 2 then(match iG name with | some n=>(bif bU (.ofNat n) aY then(bif I num 0 then I (.ofNat kids.length) 0 else false) else false) | none=>false) else
  bif (bif (bif I op 3 then true else I op 4) then false else(bif bU op 5 then true else bU 16 op)) then false else
  bif (bif aX (I num 0) then true else bif aX (gL name []) then true else aX (I (.ofNat kids.length)<|fQ op)) then false else
  kids.all (ea aY k)
def iy (f:XE->Int->Option Int):List XE->Int->Option Int
 | [],m=>some m
 | x::r,m=>(f x m).bind (iy f r)
def lH:Nat->XE->Int->Int->Option Int
 | 0,_,_,_=>none
 | k+1,.mk _ _ _ kids,deep,size=>bif (bif bU 2000 (wr .i64<|Int.add size 1) then true else bU 32 deep) then none else iy (fun x m=>lH k x (wr .i64<|Int.add deep 1) m) kids (wr .i64<|Int.add size 1)
theorem uW {f:XE->Int->Option Int} {l:List XE} {i:Nat} {m:Int} {x:XE} (hx:l[i]?=some x) (h:(f x m).isSome=false):iy f (l.drop i) m=none:=by
 rw[cR hx];show(f x m).bind _=none;rw[Option.isSome_eq_false_iff.1 h |> Option.isNone_iff_eq_none.1];rfl
theorem Cz {f:XE->Int->Option Int} {l:List XE} {i:Nat} {m s:Int} {x:XE} (hx:l[i]?=some x) (h:f x m=some s):iy f (l.drop i) m=iy f (l.drop (i+1)) s:=by
 rw[cR hx];show(f x m).bind _=_;rw[h];rfl
theorem xA {f:XE->Int->Option Int} {l:List XE} {i:Nat} {m:Int} (h:l.length<=i):iy f (l.drop i) m=some m:=by rw[fO h];rfl
structure kN where
 pc:Bool
 loc:Bool
 order:Bool
 to:Bool
 exprs:Nat
def ja:List kN:=[⟨false,false,false,false,0⟩,⟨true,false,false,false,1⟩,⟨true,true,true,false,0⟩,⟨false,true,true,false,1⟩,⟨true,true,true,false,2⟩,⟨true,true,true,false,1⟩,⟨true,true,true,false,1⟩,⟨false,false,true,false,0⟩,⟨false,false,false,false,1⟩,⟨false,false,false,false,1⟩,⟨false,false,false,true,0⟩,⟨false,false,false,true,1⟩,⟨false,false,false,false,0⟩,⟨false,false,false,false,0⟩]
def fG (n least most:Int) (must:Bool):Bool:=bif must then(bif aX (bU n least) then bU n most else false) else I n 0
def gE (aY nins:Int) (k:Nat) (x:XI) (h:kN):Bool:=
 bif aX (fG x.pc 0 aY h.pc) then false else bif aX (fG x.loc 0 6 h.loc) then false else bif aX (fG x.order 1 7 h.order) then false else bif aX (fG x.to 0 nins h.to) then false else
 bif aX (I (.ofNat x.exprs.length) (.ofNat h.exprs)) then false else x.exprs.all (ea aY k)
def fF (aY nins:Int) (k:Nat) (x:XI):Bool:=
 bif bU x.kind 1 then false else bif bU 13 x.kind then false else
 match ja[x.kind.toNat]? with
 | some h=>gE aY nins k x h
 | none=>false
def uf (k:Nat) (x:XI):Bool:=x.exprs.all fun e=>(lH k e 1 0).isSome
def gk (x:XI):Bool:=bif I x.kind 10 then true else bif I x.kind 12 then true else I x.kind 13
def dq (k:Nat) (c:XC):Int:=
 bif bU 16 c.aY then 3 else bif bU 4000 (.ofNat c.ins.length) then 3 else
 bif aX (c.ins.all<|uf k) then 3 else
 bif bU c.aY 0 then 2 else bif I (.ofNat c.ins.length) 0 then 2 else
 bif aX (c.ins.all<|fF c.aY (.ofNat c.ins.length) k) then 2 else
 match c.ins[c.ins.length-1]? with
 | some x=>bif gk x then 0 else 2
 | none=>2
def gN (x:XI) (at_:Nat):List Int:=
 bif I x.kind 10 then [x.to] else bif I x.kind 11 then [.ofNat (at_+1),x.to] else bif I x.kind 12 then [] else bif I x.kind 13 then [] else [.ofNat (at_+1)]
def dj (c:XC) (i:Nat):List Nat:=match c.ins[i]? with | some x=>(gN x i).map Int.toNat | none=>[]
structure DS where
 st:List Nat
 gone:List Nat
 out:List Nat
 path:List Nat
def ku (nx:Nat->List Nat) (s:DS) (at_:Nat):Option DS:=
 let g:=(s.gone[at_]?).getD 0
 match(nx at_)[g]? with
 | none=>some {s with st:=s.st.set at_ 2,out:=s.out++[at_],path:=s.path.dropLast}
 | some to=>
  let s':={s with gone:=s.gone.set at_ (g+1)}
  if(s.st[to]?).getD 0=2 then some s' else if(s.st[to]?).getD 0=1 then none else some {s' with st:=s.st.set to 1,path:=s.path++[to]}
def xV (nx:Nat->List Nat):Nat->DS->Option (List Nat)
 | 0,_=>none
 | f+1,s=>match s.path.getLast? with
  | none=>some s.out
  | some at_=>(ku nx s at_).bind (xV nx f)
def x7 (n:Nat):DS:=⟨(List.replicate n 0).set 0 1,List.replicate n 0,[],[0]⟩
def total (nx:Nat->List Nat) (n:Nat):Nat:=((List.range n).map fun i=>(nx i).length).sum
def fT (c:XC):Option (List Nat):=xV (dj c) (2*total (dj c) c.ins.length+2) (x7 c.ins.length)
def jn (k:Nat) (c:XC):Bool:=bif aX (I (dq k c) 0) then false else(fT c).isSome
structure LV (nx:Nat->List Nat) (n:Nat) (s:DS):Prop where
 FP:s.st.length=n
 rJ:s.gone.length=n
 gone:∀(i g:Nat),s.gone[i]?=some g->g<=(nx i).length
 path:∀i∈s.path,i<n/\s.st[i]?=some 1
 out:∀i∈s.out,i<n
 nodup:s.path.Nodup
 fresh:∀(i g:Nat),s.st[i]?=some 0->s.gone[i]?=some g->g=0
 done:∀(i:Nat),s.st[i]?=some 2->i∈s.out
 mR:∀(k i:Nat),s.out[k]?=some i->∀to∈nx i,∃k',k'<k/\s.out[k']?=some to
 ways:∀(j p g:Nat),s.path[j]?=some p->s.gone[p]?=some g->∀(m to:Nat),m<g->(nx p)[m]?=some to->to∈s.out∨s.path[j+1]?=some to
 zero:0∈s.out∨0∈s.path
 size:∀(i g:Nat),s.st[i]?=some g->g<=2
def jr (nx:Nat->List Nat) (n:Nat) (s:DS):Nat:=2*(total nx n-s.gone.sum)+s.path.length
section
variable {nx:Nat->List Nat} {n:Nat} {s s':DS}
theorem FU:∀{l:List Nat} {i g g':Nat},l[i]?=some g->(l.set i g').sum+g=l.sum+g'
 | [],_,_,_,h=>by simp at h
 | x::l,0,g,g',h=>by
  simp only[List.getElem?_cons_zero,oJ_] at h;subst h;simp only[List.set_cons_zero,List.sum_cons];omega
 | x::l,i+1,g,g',h=>by
  have:=FU (l:=l) (i:=i) (g:=g) (g':=g') (by simpa using h);simp only[List.set_cons_succ,List.sum_cons];omega
theorem FT {f:Nat->Nat}:∀(l:List Nat) (k:Nat),(∀i g,l[i]?=some g->g<=f (k+i))->l.sum<=((List.range' k l.length).map f).sum
 | [],_,_=>by simp
 | x::l,k,h=>by
  have h0:=h 0 x Z;have:=FT l (k+1) (fun i g u=>by have:=h (i+1) g (by simpa using u);rwa[show k+1+i=k+(i+1) by omega]);simp only[List.length_cons,List.range'_succ,List.map_cons,List.sum_cons];rw[Nat.add_zero] at h0;omega
theorem wg (hn:0<n):LV nx n (x7 n) where
 FP:=by simp[x7]
 rJ:=by simp[x7]
 gone i g hg:=by
  have:g=0:=by
   have:=gB_ hg;exact eR_ this
  omega
 path i hi:=by
  obtain rfl:i=0:=by simpa [x7] using hi
  exact⟨hn,by simp[x7,hn]⟩
 out i hi:=by simp[x7] at hi
 nodup:=by simp[x7]
 fresh i g _ hg:=eR_ (gB_ hg)
 done i hi:=by
  exfalso;have hi:((List.replicate n 0).set 0 1)[i]?=some 2:=hi;rw[List.getElem?_set] at hi;split at hi
  ·split at hi
   ·simp at hi
   simp at hi
  have:=eR_ (gB_ hi);omega
 mR k i hk:=by simp[x7] at hk
 ways j p g hj hg m to hm:=by
  have:g=0:=eR_ (gB_ hg);omega
 zero:=.inr (by simp[x7])
 size i g hg:=by
  have hi:((List.replicate n 0).set 0 1)[i]?=some g:=hg;rw[List.getElem?_set] at hi;split at hi
  ·split at hi
   ·simp at hi;omega
   simp at hi
  have:=eR_ (gB_ hi);omega
theorem Fq:jr nx n (x7 n)=2*total nx n+1:=by
 have:(x7 n).gone.sum=0:=by
  have:∀m,(List.replicate m 0).sum=0:=by intro m;induction m<;>simp_all [List.replicate_succ]
  exact this n
 unfold jr;rw[this];rfl
theorem I5 {l:List Nat} {a:Nat} {P:List Nat} (h:l.Nodup) (hl:l=P++[a]) {j:Nat} (hj:l[j]?=some a):j=P.length:=by
 subst hl;rcases Nat.lt_trichotomy j P.length with u | heq | hgt
 ·rw[gL_ u] at hj;have:=(List.nodup_append.1 h).2.2 _ (gB_ hj) a (by simp);exact absurd Z this
 ·exact heq
 have:=(gA.1 hj).1;simp at this;omega
theorem nU (h:LV nx n s) (aI:∀i,i<n->∀to∈nx i,to<n) {a:Nat} (ha:s.path.getLast?=some a) (C:ku nx s a=some s'):LV nx n s'/\jr nx n s'+1<=jr nx n s/\s'.out.length+jr nx n s'<=s.out.length+jr nx n s:=by
 obtain⟨P,L⟩:=List.getLast?_eq_some_iff.1 ha;have ab:a∈s.path:=by rw[L];simp
 obtain⟨M,aq⟩:=h.path a ab;obtain⟨g,hg⟩:∃g,s.gone[a]?=some g:=⟨_,gC (by rw[h.rJ];exact M)⟩
 have aY:∀i∈P,i≠a:=fun i hi hh=>by
  have:=h.nodup;rw[L] at this;exact(List.nodup_append.1 this).2.2 i hi a (by simp) hh
 have ac:s.path[P.length]?=some a:=by rw[L];simp
 have am:s.path[P.length+1]?=none:=by rw[L];simp
 unfold ku at C;rw[hg] at C;simp only[Option.getD_some] at C;cases F:(nx a)[g]? with
 | none=>
  rw[F] at C;simp only[oJ_] at C;subst C;have hle:(nx a).length<=g:=List.getElem?_eq_none_iff.1 F;have G:s.path.dropLast=P:=by rw[L];simp
  refine⟨⟨by simp[h.FP],h.rJ,h.gone,?_,?_,?_,?_,?_,?_,?_,?_,?_⟩,?_,?_⟩
  ·intro i hi;have hi:i∈P:=by rw[<-G];exact hi
   have:=h.path i (by rw[L];simp[hi]);refine⟨this.1,?_⟩;rw[List.getElem?_set_ne (fun e=>aY i hi e.symm)];exact this.2
  ·intro i hi;rcases List.mem_append.1 hi with hi | hi
   ·exact h.out i hi
   obtain rfl:=List.mem_singleton.1 hi;exact M
  ·show s.path.dropLast.Nodup;rw[G];have:=h.nodup;rw[L] at this;exact(List.nodup_append.1 this).1
  ·intro i g' h1 h2
   by_cases e:i=a
   ·subst e;have h1:(s.st.set i 2)[i]?=some 0:=h1;rw[List.getElem?_set_self (by rw[h.FP];exact M)] at h1;simp at h1
   have h1:(s.st.set a 2)[i]?=some 0:=h1;rw[List.getElem?_set_ne (fun x=>e x.symm)] at h1;exact h.fresh i g' h1 h2
  ·intro i hi;show i∈s.out++[a]
   by_cases e:i=a
   ·subst e;simp
   have hi:(s.st.set a 2)[i]?=some 2:=hi;rw[List.getElem?_set_ne (fun x=>e x.symm)] at hi;exact List.mem_append_left _<|h.done i hi
  ·intro k i hk to X;have hk:(s.out++[a])[k]?=some i:=hk;show∃k',k'<k/\(s.out++[a])[k']?=some to
   by_cases ao:k<s.out.length
   ·rw[gL_ ao] at hk;obtain⟨k',h1,h2⟩:=h.mR k i hk to X;exact⟨k',h1,by rw[gL_ B];exact h2⟩
   have hlt':=(gA.1 hk).1;simp only[lA_,List.length_singleton] at hlt';obtain rfl:k=s.out.length:=by omega
   have a0:i=a:=by simpa using hk.symm
   subst a0;obtain⟨m,hm⟩:=gO_ X;have hm':=(gA.1 hm).1;rcases h.ways _ _ _ ac hg m to B hm with h1 | h1
   ·obtain⟨k',h2⟩:=gO_ h1;have h3:=(gA.1 h2).1;exact⟨k',h3,by rw[gL_ h3];exact h2⟩
   rw[am] at h1;cases h1
  ·intro j p g' hj u m to hm A;have hj:s.path.dropLast[j]?=some p:=hj;rw[G] at hj;have hjl:=(gA.1 hj).1;show to∈s.out++[a]∨s.path.dropLast[j+1]?=some to;rcases h.ways j p g' (by rw[L,gL_ hjl];exact hj) u m to hm A with h1 | h1
   ·exact .inl<|List.mem_append_left _ h1
   by_cases e:j+1<P.length
   ·refine .inr ?_;rw[G];rwa[L,gL_ e] at h1
   obtain e:j+1=P.length:=by omega
   rw[e,ac] at h1;cases h1;exact .inl (by simp)
  ·show 0∈s.out++[a]∨0∈s.path.dropLast;rw[G];rcases h.zero with h1 | h1
   ·exact .inl<|List.mem_append_left _ h1
   rw[L] at h1;rcases List.mem_append.1 h1 with h1 | h1
   ·exact .inr h1
   exact .inl<|List.mem_append_right _ h1
  ·intro i g' hi;have hi:(s.st.set a 2)[i]?=some g':=hi;rw[List.getElem?_set] at hi;split at hi
   ·split at hi
    ·simp at hi;omega
    simp at hi
   exact h.size i g' hi
  ·unfold jr;show 2*(total nx n-s.gone.sum)+s.path.dropLast.length+1<=_;rw[G,L];simp;omega
  unfold jr;show(s.out++[a]).length+(2*(total nx n-s.gone.sum)+s.path.dropLast.length)<=_;rw[G,L];simp;omega
 | some to=>
  rw[F] at C;dsimp only at C;have a4:g<(nx a).length:=(gA.1 F).1;have E:to<n:=aI a M to (gB_ F);obtain⟨v,hv⟩:∃v,s.st[to]?=some v:=⟨_,gC (by rw[h.FP];exact E)⟩;rw[hv] at C;simp only[Option.getD_some] at C
  have K:∀(i g':Nat),(s.gone.set a (g+1))[i]?=some g'->g'<=(nx i).length:=fun i g' hi=>by
   rw[List.getElem?_set] at hi;split at hi
   ·rename_i e;subst e;split at hi
    ·simp at hi;omega
    simp at hi
   exact h.gone i g' hi
  have hsum:=FU (l:=s.gone) (i:=a) (g:=g) (g':=g+1) hg
  have ao:(s.gone.set a (g+1)).sum<=total nx n:=by
   have:=FT (f:=fun i=>(nx i).length) (s.gone.set a (g+1)) 0 (fun i g' u=>by rw[nA_];exact K i g' u);rw[List.length_set,h.rJ] at this;unfold total;rwa[List.range_eq_range']
  have z:∀(p g':Nat),p≠a->(s.gone.set a (g+1))[p]?=some g'->s.gone[p]?=some g':=fun p g' hp u=>by
   rwa[List.getElem?_set_ne (fun e=>hp e.symm)] at u
  have Q:∀(g':Nat),(s.gone.set a (g+1))[a]?=some g'->g'=g+1:=fun g' u=>by
   rw[List.getElem?_set_self (by rw[h.rJ];exact M)] at u;simpa using u.symm
  split at C
  ·rename_i ap;subst ap;simp only[oJ_] at C;subst C;refine⟨⟨h.FP,by simp[h.rJ],K,h.path,h.out,h.nodup,?_,h.done,h.mR,?_,h.zero,h.size⟩,?_,?_⟩
   ·intro i g' h1 h2;refine h.fresh i g' h1<|z i g' (fun e=>?_) h2;subst e;rw[aq] at h1;simp at h1
   ·intro j p g' hj u m to' hm A
    by_cases hp:p=a
    ·subst hp;obtain rfl:=Q g' u
     by_cases aa:m<g
     ·exact h.ways j p g hj hg m to' aa A
     obtain rfl:m=g:=by omega
     rw[F] at A;cases A;exact .inl<|h.done _ hv
    exact h.ways j p g' hj (z p g' hp u) m to' hm A
   ·unfold jr;dsimp only;omega
   unfold jr;dsimp only;omega
  split at C
  ·cases C
  rename_i ap a5;simp only[oJ_] at C;subst C;have a1:v=0:=by have:=h.size to v hv;omega
  subst a1;have R:to∉s.path:=fun hh=>by have:=(h.path to hh).2;rw[hv] at this;simp at this
  have a2:to≠a:=fun e=>R (by rw[e];exact ab)
  have W:∀i,i≠to->(s.st.set to 1)[i]?=s.st[i]?:=fun i hi=>List.getElem?_set_ne (fun e=>hi e.symm)
  refine⟨⟨by simp[h.FP],by simp[h.rJ],K,?_,h.out,?_,?_,?_,h.mR,?_,?_,?_⟩,?_,?_⟩
  ·intro i hi;rcases List.mem_append.1 hi with hi | hi
   ·obtain⟨h1,h2⟩:=h.path i hi;exact⟨h1,by show(s.st.set to 1)[i]?=_;rw[W i (fun e=>R (by rw[<-e];exact hi))];exact h2⟩
   obtain rfl:=List.mem_singleton.1 hi;exact⟨E,List.getElem?_set_self (by rw[h.FP];exact E)⟩
  ·show(s.path++[to]).Nodup;refine List.nodup_append.2 ⟨h.nodup,by simp,fun x hx y hy=>?_⟩;obtain rfl:=List.mem_singleton.1 hy;exact fun e=>R (by rw[<-e];exact hx)
  ·intro i g' h1 h2
   by_cases e:i=to
   ·subst e;have h1:(s.st.set i 1)[i]?=some 0:=h1;rw[List.getElem?_set_self (by rw[h.FP];exact E)] at h1;simp at h1
   have h1b:(s.st.set to 1)[i]?=some 0:=h1;rw[W i e] at h1b;refine h.fresh i g' h1b<|z i g' (fun e=>?_) h2;rw[e,aq] at h1b;simp at h1b
  ·intro i hi
   by_cases e:i=to
   ·subst e;have hi:(s.st.set i 1)[i]?=some 2:=hi;rw[List.getElem?_set_self (by rw[h.FP];exact E)] at hi;simp at hi
   have hi:(s.st.set to 1)[i]?=some 2:=hi;rw[W i e] at hi;exact h.done i hi
  ·intro j p g' hj u m to' hm A;have ar:(s.path++[to])[j]?=some p:=hj;clear hj;have hj:=ar;clear ar;show to'∈s.out∨(s.path++[to])[j+1]?=some to'
   by_cases hjl:j<s.path.length
   ·rw[gL_ hjl] at hj
    by_cases hp:p=a
    ·subst hp;obtain rfl:=Q g' u;have hjP:=I5 h.nodup L hj
     by_cases aa:m<g
     ·rcases h.ways j p g hj hg m to' aa A with h1 | h1
      ·exact .inl h1
      rw[hjP,am] at h1;cases h1
     obtain rfl:m=g:=by omega
     rw[F] at A;cases A;refine .inr ?_;rw[hjP,show P.length+1=s.path.length by rw[L];simp];simp
    rcases h.ways j p g' hj (z p g' hp u) m to' hm A with h1 | h1
    ·exact .inl h1
    have:=(gA.1 h1).1;exact .inr (by rw[gL_ this];exact h1)
   have hlt':=(gA.1 hj).1;simp only[lA_,List.length_singleton] at hlt';obtain rfl:j=s.path.length:=by omega
   have a3:to=p:=by simpa using hj
   subst a3;have:=h.fresh to g' hv (z to g' a2 u);omega
  ·rcases h.zero with h1 | h1
   ·exact .inl h1
   exact .inr<|List.mem_append_left _ h1
  ·intro i g' hi;have hi:(s.st.set to 1)[i]?=some g':=hi;rw[List.getElem?_set] at hi;split at hi
   ·split at hi
    ·simp at hi;omega
    simp at hi
   exact h.size i g' hi
  ·unfold jr;simp only[lA_,List.length_singleton];omega
  unfold jr;simp only[lA_,List.length_singleton];omega
structure fg (nx:Nat->List Nat) (n:Nat) (out:List Nat):Prop where
 Ae:∀(k i:Nat),out[k]?=some i->∀to∈nx i,∃k',k'<k/\out[k']?=some to
 zero:0∈out
 lt:∀i∈out,i<n
theorem r8 (u:∀i,i<n->∀to∈nx i,to<n):∀{f:Nat} {s:DS} {out:List Nat},LV nx n s->xV nx f s=some out->fg nx n out
 | 0,_,_,_,h=>by cases h
 | f+1,s,out,hw,h=>by
  unfold xV at h;cases hl:s.path.getLast? with
  | none=>
   rw[hl] at h;simp only[oJ_] at h;subst h;have:s.path= []:=List.getLast?_eq_none_iff.1 hl;exact⟨hw.mR,by rcases hw.zero with h1 | h1;exact h1;rw[this] at h1;simp at h1,hw.out⟩
  | some a=>
   rw[hl] at h;dsimp only at h;cases z:ku nx s a with
   | none=>rw[z] at h;cases h
   | some s'=>rw[z] at h;exact r8 u (nU hw u hl z).1 h
end
structure TS where
 at_:Nat
 aY:List Int
 events:List db
 asked:Nat
 fin:Int
 asks:Bool
def fI (k:Nat) (aY:List Int) (x:XI) (i:Nat):Int:=((x.exprs[i]?).map<|eJ aY k).getD 0
def dL (k:Nat) (x:XI) (s:TS):TS×Bool:=
 bif I x.kind 1 then({s with aY:=s.aY.set x.pc.toNat (fI k s.aY x 0),at_:=s.at_+1},true) else
 bif I x.kind 3 then({s with events:=s.events++[⟨2,x.loc,x.order,0,fI k s.aY x 0⟩],at_:=s.at_+1},true) else
 bif I x.kind 7 then({s with events:=s.events++[⟨4,0,x.order,0,0⟩],at_:=s.at_+1},true) else
 bif I x.kind 8 then(bif I (fI k s.aY x 0) 0 then({s with fin:=2},false) else({s with at_:=s.at_+1},true)) else
 bif I x.kind 9 then(bif I (fI k s.aY x 0) 0 then({s with fin:=3},false) else({s with at_:=s.at_+1},true)) else
 bif I x.kind 10 then({s with at_:=x.to.toNat},true) else
 bif I x.kind 11 then(bif I (fI k s.aY x 0) 0 then({s with at_:=x.to.toNat},true) else({s with at_:=s.at_+1},true)) else
 bif I x.kind 12 then({s with fin:=4},false) else
 bif I x.kind 13 then({s with fin:=1},false) else
 ({s with asks:=true},false)
def cj (k:Nat) (c:XC) (s:TS):TS×Bool:=match c.ins[s.at_]? with | some x=>dL k x s | none=>(s,false)
def vj (k:Nat) (c:XC):Nat->TS->TS
 | 0,s=>s
 | f+1,s=>bif (cj k c s).2 then vj k c f (cj k c s).1 else(cj k c s).1
def jo (c:XC):Nat:=((fT c).getD []).length
def jT (k:Nat) (c:XC):TS:=vj k c (jo c) ⟨0,List.replicate c.aY.toNat 0,[],0,0,false⟩
structure rj where
 kind:Int
 loc:Int
 order:Int
 a:Int
 b:Int
def rj.ints (x:rj):List Int:=[x.kind,x.loc,x.order,x.a,x.b]
def xZ (k:Nat) (x:XI) (aY:List Int):rj:=⟨x.kind,x.loc,x.order,fI k aY x 0,fI k aY x 1⟩
def lh (k:Nat) (c:XC) (s:TS):rj:=match c.ins[s.at_]? with | some x=>xZ k x s.aY | none=>⟨0,0,0,0,0⟩
def bL (a:rj) (v:Int):db:=
 bif I a.kind 2 then⟨1,a.loc,a.order,v,0⟩ else
 bif I a.kind 4 then(bif I v a.a then⟨3,a.loc,a.order,v,a.b⟩ else⟨1,a.loc,a.order,v,0⟩) else
 bif I a.kind 5 then⟨3,a.loc,a.order,v,wr .i64<|wr .u64<|Int.add (wr .u64 v)<|wr .u64 a.a⟩ else
 bif I a.kind 6 then⟨3,a.loc,a.order,v,a.a⟩ else⟨0,0,0,0,0⟩
def gY (a:rj):Int:=bif I a.kind 2 then 0 else bif I a.kind 4 then 0 else bif I a.kind 5 then 0 else bif I a.kind 6 then 0 else 2
def FH (c:XC) (s:TS):Nat:=match c.ins[s.at_]? with | some x=>x.pc.toNat | none=>0
def eA (k:Nat) (c:XC) (s:TS) (v:Int):TS:=
 {s with events:=s.events++[bL (lh k c s) v],aY:=s.aY.set (FH c s) v,asked:=s.asked+1,at_:=s.at_+1,asks:=false}
def dY (k:Nat) (c:XC) (s:TS) (v:Int):TS:=vj k c (jo c) (eA k c s v)
def jR (k:Nat) (c:XC):List Int->TS->TS
 | [],s=>s
 | v::r,s=>bif s.asks then jR k c r (dY k c s v) else s
def dg (l:List db):List Int:=(l.filter dD).map db.read
def gx (k:Nat) (c:XC) (a:List Int):TS:=jR k c a (jT k c)
def pw (s:TS) (l:List db):Bool:=bif bU (.ofNat s.events.length) (.ofNat l.length) then false else dk (s.events.take l.length) l
def fE (k:Nat) (c:XC):Int:=bif jn k c then 0 else bif aX (I (dq k c) 0) then dq k c else 2
structure ji where
 event:db
 ask:rj
 fin:Int
def lr:db:=⟨0,0,0,0,0⟩
def gw:rj:=⟨0,0,0,0,0⟩
def tV:ji:=⟨lr,gw,0⟩
def iD (k:Nat) (c:XC) (s:TS) (l:List db):ji×Int:=
 bif aX (pw s l) then(tV,2) else
 match s.events[l.length]? with
 | some e=>(⟨e,gw,0⟩,0)
 | none=>bif s.asks then(⟨lr,lh k c s,0⟩,0) else(⟨lr,gw,s.fin⟩,0)
def bI (k:Nat) (c:XC) (l:List db):ji×Int:=
 bif aX (I (fE k c) 0) then(tV,fE k c) else iD k c (gx k c<|dg l) l
structure eX (k:Nat) (c:XC):Prop where
 za:0<=c.aY
 xr:c.aY<=16
 len:c.ins.length<=4000
 pos:0<c.ins.length
 right:∀x∈c.ins,fF c.aY (.ofNat c.ins.length) k x=true
 last:∀x,c.ins[c.ins.length-1]?=some x->gk x=true
theorem Dn {k:Nat} {c:XC} (h:dq k c=0):eX k c:=by
 unfold dq at h;cases h1:bU 16 c.aY with
 | true=>rw[h1] at h;cases h
 | false=>
 rw[h1] at h;cases h2:bU 4000 (.ofNat c.ins.length) with
 | true=>rw[h2] at h;cases h
 | false=>
 rw[h2] at h;cases u:aX (c.ins.all<|uf k) with
 | true=>rw[u] at h;cases h
 | false=>
 rw[u] at h;cases h4:bU c.aY 0 with
 | true=>rw[h4] at h;cases h
 | false=>
 rw[h4] at h;cases h5:I (.ofNat c.ins.length) 0 with
 | true=>rw[h5] at h;cases h
 | false=>
 rw[h5] at h;cases h6:aX (c.ins.all<|fF c.aY (.ofNat c.ins.length) k) with
 | true=>rw[h6] at h;cases h
 | false=>
 rw[h6] at h;simp only[cond_false] at h;rw[eP,decide_eq_false_iff_not] at h1 h2 h4;have h2:¬(4000:Int)<(c.ins.length:Int):=h2
 have hp:0<c.ins.length:=by
  rw[dF,decide_eq_false_iff_not] at h5;rcases Nat.eq_zero_or_pos c.ins.length with e | e
  ·exact absurd (by rw[e];rfl) h5
  exact e
 refine⟨by omega,by omega,by omega,hp,fun x hx=>?_,fun x hx=>?_⟩
 ·have h6:=bj h6;exact aE_.1 h6 x hx
 rw[hx] at h;dsimp only at h;cases z:gk x with
 | true=>rfl
 | false=>rw[z] at h;cases h
theorem iY {aY nins:Int} {k:Nat} {x:XI} (h:fF aY nins k x=true):∃(n:Nat) (sh:kN),x.kind= .ofNat n/\1<=n/\n<=13/\ja[n]?=some sh/\gE aY nins k x sh=true:=by
 unfold fF at h;cases h1:bU x.kind 1 with
 | true=>rw[h1] at h;cases h
 | false=>
 rw[h1] at h;cases h2:bU 13 x.kind with
 | true=>rw[h2] at h;cases h
 | false=>
 rw[h2] at h;simp only[cond_false] at h;rw[eP,decide_eq_false_iff_not] at h1 h2;obtain⟨n,hn⟩:∃n:Nat,x.kind= .ofNat n:=⟨x.kind.toNat,by show x.kind=(x.kind.toNat:Int);omega⟩;rw[hn] at h h1 h2;have h1:¬(n:Int)<1:=h1;have h2:¬(13:Int)<(n:Int):=h2;have e:(Int.ofNat n).toNat=n:=rfl;rw[e] at h;cases u:ja[n]? with
 | none=>rw[u] at h;cases h
 | some sh=>rw[u] at h;exact⟨n,sh,hn,by omega,by omega,u,h⟩
theorem lA {n least most:Int} (h:fG n least most true=true):least<=n/\n<most:=by
 unfold fG at h;simp only[cond_true] at h;cases h1:bU n least with
 | true=>rw[h1] at h;cases h
 | false=>
 rw[h1] at h;have h:bU n most=true:=h;rw[eP,decide_eq_false_iff_not] at h1;rw[eP,decide_eq_true_iff] at h;omega
structure Kd (aY nins:Int) (k:Nat) (x:XI) (sh:kN):Prop where
 pc:fG x.pc 0 aY sh.pc=true
 loc:fG x.loc 0 6 sh.loc=true
 order:fG x.order 1 7 sh.order=true
 to:fG x.to 0 nins sh.to=true
 exprs:x.exprs.length=sh.exprs
 all:∀e∈x.exprs,ea aY k e=true
theorem hJ {aY nins:Int} {k:Nat} {x:XI} {sh:kN} (h:gE aY nins k x sh=true):Kd aY nins k x sh:=by
 unfold gE at h;cases h1:fG x.pc 0 aY sh.pc with
 | false=>rw[h1] at h;cases h
 | true=>
 cases h2:fG x.loc 0 6 sh.loc with
 | false=>rw[h1,h2] at h;cases h
 | true=>
 cases u:fG x.order 1 7 sh.order with
 | false=>rw[h1,h2,u] at h;cases h
 | true=>
 cases h4:fG x.to 0 nins sh.to with
 | false=>rw[h1,h2,u,h4] at h;cases h
 | true=>
 rw[h1,h2,u,h4] at h;have h:(bif aX (I (.ofNat x.exprs.length) (.ofNat sh.exprs)) then false else x.exprs.all (ea aY k))=true:=h;cases h5:I (.ofNat x.exprs.length) (.ofNat sh.exprs) with
 | false=>rw[h5] at h;cases h
 | true=>
 rw[h5] at h;have h:x.exprs.all (ea aY k)=true:=h;rw[fv,decide_eq_true_iff] at h5;exact⟨h1,h2,u,h4,h5,aE_.1 h⟩
theorem sT {k:Nat} {c:XC} (h:eX k c):∀i,i<c.ins.length->∀to∈dj c i,to<c.ins.length:=by
 intro i hi to u;unfold dj at u;rw[gC hi] at u;dsimp only at u;have hx:=h.right c.ins[i] (List.getElem_mem hi);have hl:=h.last;generalize C:c.ins[i]=x at u hx;obtain⟨n,sh,hn,n1,E,A,hr⟩:=iY hx;have hr:=hJ hr;have hto':=hr.to
 have z:i+1<c.ins.length∨gk x=true:=by
  by_cases e:i+1<c.ins.length
  ·exact .inl e
  refine .inr<|hl x ?_;rw[show c.ins.length-1=i by omega,gC hi,C]
 unfold gN at u;unfold gk at z;rw[hn] at u z;have key:∀m:Nat,m=n->(∀y,(sh.to=true->0<=y/\y<(c.ins.length:Int))->y=x.to->True):=fun _ _ _ _ _=>trivial
 have tole:sh.to=true->0<=x.to/\x.to<(c.ins.length:Int):=fun e=>by rw[e] at hto';exact lA hto'
 match n,n1,E with
 | 1,_,_ | 2,_,_ | 3,_,_ | 4,_,_ | 5,_,_ | 6,_,_ | 7,_,_ | 8,_,_ | 9,_,_=>
  have e:to=i+1:=List.mem_singleton.1 (show to∈[i+1] from u);rcases z with e1 | e1
  ·omega
  cases e1
 | 10,_,_=>
  have e:to=x.to.toNat:=List.mem_singleton.1 (show to∈[x.to.toNat] from u);have:=tole (by cases A;rfl);omega
 | 11,_,_=>
  have e:to=i+1∨to=x.to.toNat:=by have h2:to∈[i+1,x.to.toNat]:=u;simpa using h2
  have:=tole (by cases A;rfl);rcases e with e | e
  ·rcases z with e1 | e1
   ·omega
   cases e1
  omega
 | 12,_,_ | 13,_,_=>exact absurd (show to∈([]:List Nat) from u) (by simp)
theorem qL {k:Nat} {c:XC} (h:jn k c=true):eX k c/\∃out,fT c=some out/\fg (dj c) c.ins.length out:=by
 unfold jn at h;cases h1:I (dq k c) 0 with
 | false=>rw[h1] at h;cases h
 | true=>
  rw[h1] at h;have h:(fT c).isSome=true:=h;have hc:=Dn (sH h1);obtain⟨out,u⟩:=Option.isSome_iff_exists.1 h;exact⟨hc,out,u,r8 (sT hc) (wg hc.pos) u⟩
def cU:Nat->XE->Nat
 | 0,_=>0
 | k+1,.mk _ _ _ kids=>(kids.map<|cU k).sum+1
def m4 (l:List Nat):Nat:=l.foldl max 0
def fN:Nat->XE->Nat
 | 0,_=>0
 | k+1,.mk _ _ _ kids=>m4 (kids.map<|fN k)+1
theorem foldl_max:∀(l:List Nat) (m:Nat),l.foldl max m=max m (m4 l)
 | [],m=>by show m=max m 0;omega
 | a::l,m=>by
  show l.foldl max (max m a)=max m (l.foldl max<|max 0 a);rw[foldl_max l<|max m a,foldl_max l<|max 0 a];omega
theorem GZ (a:Nat) (l:List Nat):m4 (a::l)=max a (m4 l):=by
 show l.foldl max (max 0 a)=_;rw[foldl_max];omega
theorem G0 (a:Nat) (l:List Nat):m4 (l++[a])=max (m4 l) a:=by unfold m4;rw[List.foldl_append];rfl
theorem AL {n:Nat} (h:n<=9223372036854775807):wr .i64 (Int.ofNat n)= .ofNat n:=by
 show(bif Nat.ble n 9223372036854775807 then _ else _)=_;rw[show Nat.ble n 9223372036854775807=true by rw[nE_];exact h];rfl
theorem Qi {a b c:Bool}:(bif a then b else c)=true↔(a=true->b=true)/\(a=false->c=true):=by cases a<;>simp
theorem Oc {a:Bool}:aX a=true↔a=false:=by cases a<;>simp[aX]
theorem Qr {a:Bool}:aX a=false↔a=true:=by cases a<;>simp[aX]
theorem Qj {a b:Int}:I a b=true↔a=b:=by rw[dF];simp
theorem E8 {a b:Int}:I a b=false↔¬a=b:=by rw[dF];simp
theorem L3 {a b:Int}:bU a b=true↔a<b:=by rw[eP];simp
theorem B1 {a b:Int}:bU a b=false↔b<=a:=by rw[eP];simp
theorem Hl {k:Nat} {x:XE}:1<=cU (k+1) x:=by cases x;show 1<=_+1;omega
theorem zd {f:XE->Int->Option Int} {g:XE->Nat} {q:XE->Bool}:∀(l:List XE) (m:Nat),m<=2000->(∀x∈l,∀m:Nat,m<=2000->f x (.ofNat m)=if m+g x<=2000/\q x=true then some (.ofNat (m+g x)) else none)->
  iy f l (.ofNat m)=if m+(l.map g).sum<=2000/\l.all q=true then some (.ofNat (m+(l.map g).sum)) else none
 | [],m,hm,_=>by rw[if_pos ⟨by simpa using hm,Z⟩];rfl
 | x::l,m,hm,h=>by
  show(f x (.ofNat m)).bind (iy f l)=_;rw[h x (mS_ ..) m hm];simp only[List.map_cons,List.sum_cons,List.all_cons]
  by_cases h1:m+g x<=2000/\q x=true
  ·rw[if_pos h1];show iy f l (.ofNat (m+g x))=_;rw[zd l (m+g x) h1.1 (fun y hy=>h y (mC_ _ hy)),h1.2,Nat.add_assoc];simp
  rw[if_neg h1,if_neg]
  ·rfl
  rintro ⟨a,b⟩;simp only[bA_] at b;exact h1 ⟨by omega,b.1⟩
theorem z6 {l:List Nat} {B_:Nat}:m4 l<=B_↔∀x∈l,x<=B_:=by
 induction l with
 | nil=>simp[m4]
 | cons a l ih=>rw[GZ,Nat.max_le,ih];simp
def jc:Nat->XE->Prop
 | 0,_=>False
 | k+1,.mk _ _ name kids=>name.length<=9223372036854775807/\∀y∈kids,jc k y
theorem zc:∀(k:Nat) (x:XE) (d m:Nat),jc k x->m<=2000->d<=33->lH k x (.ofNat d) (.ofNat m)=if m+cU k x<=2000/\Nat.ble (d+fN k x) 33=true then some (.ofNat (m+cU k x)) else none
 | 0,x,_,_,h,_,_=>h.elim
 | k+1,.mk op num name kids,d,m,hf,hm,hd=>by
  show(bif (bif bU 2000 (wr .i64<|Int.add (.ofNat m) 1) then true else bU 32 (.ofNat d)) then none else iy (fun x m=>lH k x (wr .i64<|Int.add (.ofNat d) 1) m) kids (wr .i64<|Int.add (.ofNat m) 1))=_;rw[show Int.add (.ofNat m) 1= .ofNat (m+1) from Z,show Int.add (.ofNat d) 1= .ofNat (d+1) from Z,AL B,AL B];rw[show cU (k+1) (.mk op num name kids)=(kids.map<|cU k).sum+1 from Z,show fN (k+1) (.mk op num name kids)=m4 (kids.map<|fN k)+1 from Z]
  by_cases h1:2000<m+1
  ·rw[show bU 2000 (.ofNat (m+1))=true from L3.2 (by show(2000:Int)<((m+1:Nat):Int);omega)];rw[if_neg (by rintro ⟨a,_⟩;omega)];rfl
  rw[show bU 2000 (.ofNat (m+1))=false from B1.2 (by show((m+1:Nat):Int)<=2000;omega)]
  by_cases h2:32<d
  ·rw[show bU 32 (.ofNat d)=true from L3.2 (by show(32:Int)<(d:Int);omega)];rw[if_neg (by rintro ⟨_,a⟩;have:=Nat.le_of_ble_eq_true a;omega)];rfl
  rw[show bU 32 (.ofNat d)=false from B1.2 (by show(d:Int)<=32;omega)];show iy _ kids (.ofNat (m+1))=_;rw[zd (g:=cU k) (q:=fun x=>Nat.ble (d+1+fN k x) 33) kids (m+1) B (fun x hx m' u=>zc k x (d+1) m' (hf.2 x hx) u B)]
  have e:(kids.all fun x=>Nat.ble (d+1+fN k x) 33)=Nat.ble (d+(m4 (kids.map<|fN k)+1)) 33:=by
   rw[Bool.eq_iff_iff];simp only[aE_,nE_];constructor
   ·intro h
    have:m4 (kids.map<|fN k)<=32-d:=z6.2 fun y hy=>by
     obtain⟨x,hx,rfl⟩:=List.mem_map.1 hy;have:=h x hx;omega
    omega
   intro h x hx;have:=z6.1 (nR_<|m4<|kids.map<|fN k) _ (List.mem_map_of_mem hx);omega
  rw[e,show m+1+(kids.map<|cU k).sum=m+((kids.map<|cU k).sum+1) by omega]
def gV (k:Nat) (x:XE):Bool:=bif Nat.blt 2000 (cU k x) then true else Nat.blt 32 (fN k x)
theorem xB {k:Nat} {x:XE} (h:jc k x):(lH k x 1 0).isSome=aX (gV k x):=by
 rw[show lH k x 1 0=lH k x (.ofNat 1) (.ofNat 0) from Z,zc k x 1 0 h B B];unfold gV
 by_cases h1:2000<cU k x
 ·rw[if_neg B,show Nat.blt 2000 (cU k x)=true from by rw[Nat.blt_eq];exact h1];rfl
 rw[show Nat.blt 2000 (cU k x)=false from by rw[Bool.eq_false_iff];intro h;rw[Nat.blt_eq] at h;omega]
 by_cases h2:32<fN k x
 ·rw[if_neg (by rintro ⟨_,a⟩;have:=Nat.le_of_ble_eq_true a;omega),show Nat.blt 32 (fN k x)=true from by rw[Nat.blt_eq];exact h2];rfl
 rw[if_pos ⟨by omega,by rw[nE_];omega⟩,show Nat.blt 32 (fN k x)=false from by rw[Bool.eq_false_iff];intro h;rw[Nat.blt_eq] at h;omega];rfl
theorem AK {n:Int} (h:-9223372036854775808<=n) (h2:n<=9223372036854775807):wr .i64 n=n:=by
 cases n with
 | ofNat n=>exact AL (by have:(n:Int)<=9223372036854775807:=h2;omega)
 | negSucc n=>
  show(bif Nat.ble (n+1) 9223372036854775808 then _ else _)=_;rw[show Nat.ble (n+1) 9223372036854775808=true by rw[nE_];omega];rfl
theorem IF {name:List Nat} {m:Int} (hn:name.length<=9223372036854775807) (h0:0<=m) (h1:m<=100):uH name m=m-1-((name.length/20:Nat):Int):=by
 unfold uH;have e:Int.tdiv (.ofNat<|cX name) 20=((name.length/20:Nat):Int):=by rw[bK];rfl
 have hd:name.length/20<=461168601842738790:=by omega
 rw[e,show Int.sub m 1=m-1 from Z,AK (n:=m-1) B B,AK (n:=((name.length/20:Nat):Int)) B B];exact AK (n:=m-1-((name.length/20:Nat):Int)) B B
theorem BU {f:XE->Int->Int} {g:XE->Nat}:∀(l:List XE) (m:Int),m<=100->(∀x∈l,∀m,0<=m->m<=100->f x m<=m/\(0<=f x m->(g x:Int)+f x m<=m))->lq f l m<=m/\(0<=lq f l m->(((l.map g).sum:Nat):Int)+lq f l m<=m)
 | [],m,_,_=>⟨Int.le_refl _,fun _=>by show((0:Nat):Int)+m<=m;omega⟩
 | x::l,m,hm,h=>by
  show(bif bU m 0 then m else lq f l (f x m))<=m/\(0<=(bif bU m 0 then m else lq f l (f x m))->_+(bif bU m 0 then m else lq f l (f x m))<=m);cases hl:bU m 0 with
  | true=>
   rw[eP,decide_eq_true_iff] at hl;exact⟨Int.le_refl _,fun h=>by have h:0<=m:=h;omega⟩
  | false=>
   rw[eP,decide_eq_false_iff_not] at hl;obtain⟨h1,h2⟩:=h x (mS_ ..) m B hm;obtain⟨h3,h4⟩:=BU l (f x m) B (fun y hy=>h y (mC_ _ hy));simp only[cond_false,List.map_cons,List.sum_cons];exact⟨by omega,fun h5=>by have:=h4 h5;have:=h2 B;push_cast;omega⟩
theorem BT:∀(k:Nat) (x:XE) (m:Int),jc k x->0<=m->m<=100->px k x m<=m/\(0<=px k x m->(cU k x:Int)+px k x m<=m)
 | 0,_,_,h,_,_=>h.elim
 | k+1,.mk op num name kids,m,hf,h0,h1=>by
  have e:=IF hf.1 h0 h1;have hd:0<=((name.length/20:Nat):Int):=Int.natCast_nonneg _;obtain⟨h3,h4⟩:=BU (f:=px k) (g:=cU k) kids (uH name m) B (fun x hx m h0 h1=>BT k x m (hf.2 x hx) h0 h1);show lq (px k) kids (uH name m)<=m/\(0<=lq (px k) kids (uH name m)->(((kids.map<|cU k).sum+1:Nat):Int)+lq (px k) kids (uH name m)<=m);exact⟨by omega,fun h5=>by have:=h4 h5;push_cast;omega⟩
theorem DX {k:Nat} {x:XE} (hf:jc k x) (h:wS k x 60=true):cU k x<=60:=by
 unfold wS at h;have h:=bT h;rw[eP,decide_eq_false_iff_not] at h;have:=(BT k x 60 hf B B).2 B;omega
def zX (c:Nat):Bool:=bif (bif aX (bU (.ofNat c) 97) then aX (bU 122 (.ofNat c)) else false) then true else bif aX (bU (.ofNat c) 65) then aX (bU 90 (.ofNat c)) else false
def Gn (c:Nat):Bool:=bif aX (bU (.ofNat c) 48) then aX (bU 57 (.ofNat c)) else false
def sG (first:Bool) (c:Nat):Bool:=bif zX c then true else bif first then false else bif Gn c then true else aX (aX<|I (.ofNat c) 95)
def dK:Bool->List Nat->Bool
 | _,[]=>true
 | f,c::r=>bif sG f c then dK false r else false
def pz:List (List Nat):=[[115,104,97,114,101,100],[112,108,97,105,110],[116,104,114,101,97,100],[105,102],[101,108,115,101],[119,104,105,108,101],[108,111,97,100],[115,116,111,114,101],[99,97,115],[97,100,100],[115,119,97,112],[102,101,110,99,101],[97,115,115,117,109,101],[97,115,115,101,114,116],[110,97],[114,108,120],[97,99,113],[114,101,108],[97,114],[115,99]]
def isKey (s:List Nat):Bool:=pz.any fun k=>gL k s
def km (s:List Nat):Bool:=bif dK true s then(bif gL s [] then false else aX (isKey s)) else false
theorem r7 {s:List Nat} {i c:Nat} (h:s[i]?=some c) (hc:sG (I (.ofNat i) 0) c=true):dK (I (.ofNat i) 0) (s.drop i)=dK (I (.ofNat (i+1)) 0) (s.drop (i+1)):=by
 rw[cR h];show(bif sG _ c then dK false _ else false)=_;rw[hc,show I (.ofNat (i+1)) 0=false from by rw[dF];exact decide_eq_false (by intro e;have:((i+1:Nat):Int)=0:=e;omega)];rfl
theorem vV {s:List Nat} {i c:Nat} (h:s[i]?=some c) (hc:sG (I (.ofNat i) 0) c=false):dK (I (.ofNat i) 0) (s.drop i)=false:=by
 rw[cR h];show(bif sG _ c then dK false _ else false)=_;rw[hc];rfl
theorem Gh {s:List Nat} {i:Nat} (h:s.length<=i):dK (I (.ofNat i) 0) (s.drop i)=true:=by rw[fO h];rfl
def fZ (s:List Nat) (vs:List V):Prop:=vs= [.str s]
theorem tf {α:Type} {f:α->Nat} {l:List α} {i:Nat} {x:α} (h:l[i]?=some x):((l.take (i+1)).map f).sum=((l.take i).map f).sum+f x:=by
 rw[List.take_add_one,h];simp
theorem IU {α:Type} {f:α->Nat} {l:List α} {i:Nat} {x:α} (h:l[i]?=some x):m4 ((l.take (i+1)).map f)=max (m4 ((l.take i).map f)) (f x):=by
 rw[List.take_add_one,h,List.map_append];exact G0 _ _
theorem EC {α:Type} {f:α->Nat} {l:List α} {i:Nat}:((l.take i).map f).sum<=(l.map f).sum:=by
 have:(l.map f).sum=((l.take i).map f).sum+((l.drop i).map f).sum:=by rw[<-List.sum_append,<-List.map_append,List.take_append_drop]
 omega
theorem ma {α:Type} {f:α->Nat} {l:List α} {i:Nat} {x:α} (h:l[i]?=some x):f x<=(l.map f).sum:=by
 have h1:=tf (f:=f) h;have h2:=EC (f:=f) (l:=l) (i:=i+1);omega
theorem Fv (a b:Nat):(bif bU (.ofNat a) (.ofNat b) then(.ofNat b:Int) else .ofNat a)= .ofNat (max a b):=by
 cases h:bU (.ofNat a) (.ofNat b) with
 | true=>have:=bu h;show Int.ofNat b=_;rw[Nat.max_eq_right B]
 | false=>have:=bC h;show Int.ofNat a=_;rw[Nat.max_eq_left B]
theorem yJ:∀(k:Nat) (x:XE),fN k x<=cU k x
 | 0,_=>nR_ _
 | k+1,.mk op num name kids=>by
  show m4 (kids.map<|fN k)+1<=(kids.map<|cU k).sum+1;refine Nat.succ_le_succ<|z6.2 fun y hy=>?_;obtain⟨x,hx,rfl⟩:=List.mem_map.1 hy;obtain⟨i,hi⟩:=gO_ hx;exact Nat.le_trans (yJ k x)<|ma hi
theorem By:∀{s:List Nat} {m n:Nat},ny s m=some n->∀c∈s,48<=c/\c<=57
 | [],_,_,_,c,hc=>by simp at hc
 | a::s,m,n,h,c,hc=>by
  unfold ny at h;split at h
  ·rename_i u;rcases mQ_.1 hc with rfl | hc
   ·exact u
   exact By h c hc
  cases h
theorem uz:∀{s:List Nat},(∀c∈s,48<=c/\c<=57)->dK false s=true
 | [],_=>rfl
 | a::s,h=>by
  have ha:=h a (mS_ ..);unfold dK
  have h1:zX a=false:=by
   unfold zX;rw[L3.2 (show(Int.ofNat a)<97 by show(a:Int)<97;omega),L3.2 (show(Int.ofNat a)<65 by show(a:Int)<65;omega)];rfl
  have h2:Gn a=true:=by
   unfold Gn;rw[B1.2 (show 48<=(Int.ofNat a) by show 48<=(a:Int);omega),B1.2 (show(Int.ofNat a)<=57 by show(a:Int)<=57;omega)];rfl
  have:sG false a=true:=by unfold sG;rw[h1,h2];rfl
  rw[this];exact uz fun c hc=>h c (mC_ _ hc)
theorem Hf {s:List Nat} {n:Nat} (h:iG s=some n):km (114::s)=true/\s≠[]:=by
 unfold iG at h;split at h
 ·cases h
 rename_i hn;have hd:=By h;have u:s≠[]:=fun e=>hn (.inl (by rw[e];rfl))
 refine⟨?_,u⟩;obtain⟨a,r,rfl⟩:=List.exists_cons_of_ne_nil u;have ha:=hd a (mS_ ..);unfold km;rw[show dK true (114::a::r)=true from(by show(bif sG true 114 then dK false (a::r) else false)=true;rw[show sG true 114=true from Z,uz hd];rfl),mB,show decide (114::a::r= [])=false from by simp]
 have:isKey (114::a::r)=false:=by
  unfold isKey;rw[Bool.eq_false_iff];intro hk;obtain⟨x,hx,he⟩:=List.any_eq_true.1 hk;rw[mB] at he;have he:=of_decide_eq_true he;subst he;simp only[pz,mQ_,List.cons.injEq,List.not_mem_nil,or_false] at hx;omega
 rw[this];rfl
theorem CW:km []=false:=by unfold km;rw[show gL [] []=true from by rw[mB];simp];rfl
theorem NH:km [48]=false:=by
 unfold km;rw[show dK true [48]=false from Z];rfl
def jQ (s:List Nat):Int:=match iG s with | some n=>.ofNat n | none=>-1
def js (op:Int) (name:List Nat):List Nat:=bif I op 2 then(match iG name with | some _=>114::name | none=>[48]) else name
def fR:Nat->XE->XE
 | 0,x=>x
 | k+1,.mk op num name kids=>.mk op num (js op name) (kids.map<|fR k)
def rK (op:Int):Int:=bif (bif I op 1 then true else I op 2) then 0 else bif (bif I op 3 then true else I op 4) then 1 else bif (bif aX (bU op 5) then aX (bU 16 op) else false) then 2 else-1
def dQ (op num:Int) (name:List Nat) (n:Nat):Bool:=
 bif aX (I (rK op) (.ofNat n)) then false else bif (bif I op 2 then aX (km name) else km name) then false else
 bif (bif aX (I op 2) then aX (gL name []) else false) then false else bif bU num 0 then false else bif (bif aX (I op 1) then aX (I num 0) else false) then false else true
def ec:Nat->XE->Bool
 | 0,_=>false
 | k+1,.mk op num name kids=>bif dQ op num name kids.length then kids.all (ec k) else false
def oI (k:Nat) (x:XE):Int:=bif gV k x then 3 else bif ec k x then 0 else 2
def fU:Nat->XE->List (List Nat)
 | 0,_=>[]
 | k+1,.mk op _ name kids=>(bif (bif I op 2 then aX (gL name []) else false) then [name] else [])++(kids.map<|fU k).flatten
theorem qu:∀(k:Nat) (x:XE),cU k (fR k x)=cU k x
 | 0,_=>rfl
 | k+1,.mk op num name kids=>by
  show((kids.map<|fR k).map<|cU k).sum+1=(kids.map<|cU k).sum+1;rw[List.map_map];exact congrArg (fun l=>l.sum+1)<|List.map_congr_left fun x _=>qu k x
theorem uE:∀(k:Nat) (x:XE),fN k (fR k x)=fN k x
 | 0,_=>rfl
 | k+1,.mk op num name kids=>by
  show m4 ((kids.map<|fR k).map<|fN k)+1=m4 (kids.map<|fN k)+1;rw[List.map_map];exact congrArg (fun l=>m4 l+1)<|List.map_congr_left fun x _=>uE k x
theorem B6 (k:Nat) (x:XE):gV k (fR k x)=gV k x:=by unfold gV;rw[qu,uE]
theorem iN {a b:Int} (h:a≠b):I a b=false:=by rw[dF];exact decide_eq_false h
theorem wk {s:List Nat} (h:gL s []=true):s= []:=by rw[mB] at h;exact of_decide_eq_true h
theorem El (aY:Int) (k:Nat) (op num:Int) (name:List Nat) (kids:List XE):ea aY (k+1) (.mk op num name kids)=(bif (bif dQ op num (js op name) kids.length then(bif (bif I op 2 then aX (gL name []) else false) then [name] else []).all (fun s=>bU (jQ s) aY) else false) then kids.all (ea aY k) else false):=by
 have hlen:I 0 (.ofNat kids.length)=I (.ofNat kids.length) 0:=by rw[dF,dF];exact decide_eq_decide.2 eq_comm
 have z:I (.ofNat kids.length) 0=true->kids.all (ea aY k)=true:=fun h=>by
  have:kids.length=0:=iJ_ (eqv h);rw[eN_ this];rfl
 by_cases h1:op=1
 ·subst h1;show(bif aX (bU num 0) then(bif gL name [] then I (.ofNat kids.length) 0 else false) else false)=(bif (bif (bif aX (I 0 (.ofNat kids.length)) then false else bif km name then false else bif aX (gL name []) then false else bif bU num 0 then false else true) then true else false) then kids.all (ea aY k) else false);rw[hlen];cases hl:I (.ofNat kids.length) 0 with
  | false=>cases bU num 0<;>cases gL name []<;>rfl
  | true=>
   rw[z hl];cases E:gL name [] with
   | false=>cases bU num 0<;>cases km name<;>rfl
   | true=>rw[wk E,CW];cases bU num 0<;>rfl
 by_cases h2:op=2
 ·subst h2;show(match iG name with | some n=>(bif bU (.ofNat n) aY then(bif I num 0 then I (.ofNat kids.length) 0 else false) else false) | none=>false)=(bif (bif (bif aX (I 0 (.ofNat kids.length)) then false else bif aX (km (match iG name with | some _=>114::name | none=>[48])) then false else bif bU num 0 then false else bif aX (I num 0) then false else true) then(bif aX (gL name []) then [name] else []).all (fun s=>bU (jQ s) aY) else false) then kids.all (ea aY k) else false);rw[hlen];cases R:iG name with
  | none=>
   dsimp only;rw[NH];cases I (.ofNat kids.length) 0<;>rfl
  | some n=>
   dsimp only;obtain⟨hw,L⟩:=Hf R;have F:jQ name= .ofNat n:=by unfold jQ;rw[R]
   rw[hw,show gL name []=false from by rw[mB];exact decide_eq_false L];show _=(bif (bif _ then([name].all fun s=>bU (jQ s) aY) else false) then _ else false);simp only[List.all_cons,List.all_nil,Bool.and_true,F];cases hl:I (.ofNat kids.length) 0 with
   | false=>cases bU (.ofNat n) aY<;>cases I num 0<;>rfl
   | true=>
    rw[z hl];cases K:I num 0 with
    | false=>cases bU (.ofNat n) aY<;>cases bU num 0<;>rfl
    | true=>rw[eqv K];cases bU (.ofNat n) aY<;>rfl
 have e1:=iN h1;have e2:=iN h2;have A:js op name=name:=by unfold js;rw[e2];rfl
 have W:(bif (bif I op 2 then aX (gL name []) else false) then [name] else []).all (fun s=>bU (jQ s) aY)=true:=by rw[e2];rfl
 rw[A,W];show(bif I op 1 then _ else bif I op 2 then _ else _)=_;unfold dQ rK fQ;rw[e1,e2];simp only[cond_false];have u:gL name []=true->km name=false:=fun h=>by rw[wk h];exact CW
 have K:I num 0=true->bU num 0=false:=fun h=>by rw[eqv h];rfl
 have G:∀n:Nat,I (-1) (.ofNat n)=false:=fun n=>iN (by intro h;have:(-1:Int)=(n:Int):=h;omega)
 have M:I 1 (.ofNat kids.length)=I (.ofNat kids.length) 1:=by rw[dF,dF];exact decide_eq_decide.2 eq_comm
 have Q:I 2 (.ofNat kids.length)=I (.ofNat kids.length) 2:=by rw[dF,dF];exact decide_eq_decide.2 eq_comm
 cases aa:(bif I op 3 then true else I op 4) with
 | true=>
  simp only[cond_true,cond_false,M];cases E:gL name [] with
  | false=>cases I (.ofNat kids.length) 1<;>cases I num 0<;>cases km name<;>cases bU num 0<;>rfl
  | true=>
   rw[u E];cases C:I num 0 with
   | false=>cases I (.ofNat kids.length) 1<;>cases bU num 0<;>rfl
   | true=>rw[K C];cases I (.ofNat kids.length) 1<;>cases kids.all (ea aY k)<;>rfl
 | false=>
  cases h5:bU op 5 with
  | true=>simp only[cond_true,cond_false,G,show aX true=false from Z,show aX false=true from Z]
  | false=>
  cases ab:bU 16 op with
  | true=>simp only[cond_true,cond_false,aX,G]
  | false=>
   simp only[cond_true,cond_false,Q,show aX false=true from Z];cases E:gL name [] with
   | false=>cases I (.ofNat kids.length) 2<;>cases I num 0<;>cases km name<;>cases bU num 0<;>rfl
   | true=>
    rw[u E];cases C:I num 0 with
    | false=>cases I (.ofNat kids.length) 2<;>cases bU num 0<;>rfl
    | true=>rw[K C];cases I (.ofNat kids.length) 2<;>cases kids.all (ea aY k)<;>rfl
theorem qn (aY:Int):∀(k:Nat) (x:XE),(bif ec k (fR k x) then(fU k x).all (fun s=>bU (jQ s) aY) else false)=ea aY k x
 | 0,_=>rfl
 | k+1,.mk op num name kids=>by
  have u:(bif (kids.map<|fR k).all (ec k) then((kids.map<|fU k).flatten).all (fun s=>bU (jQ s) aY) else false)=kids.all (ea aY k):=by
   rw[Bool.eq_iff_iff];rw[Qi];constructor
   ·intro h
    have h1:(kids.map<|fR k).all (ec k)=true:=by
     cases A:(kids.map<|fR k).all (ec k) with
     | true=>rfl
     | false=>exact absurd (h.2 A) Bool.false_ne_true
    have h2:=aE_.1 (h.1 h1);refine aE_.2 fun x hx=>?_
    rw[<-qn aY k x,show ec k (fR k x)=true from aE_.1 h1 _ (List.mem_map_of_mem hx)];exact aE_.2 fun s z=>h2 s (List.mem_flatten.2 ⟨_,List.mem_map_of_mem hx,z⟩)
   intro h;have h:=aE_.1 h
   have C:∀x∈kids,ec k (fR k x)=true/\(fU k x).all (fun s=>bU (jQ s) aY)=true:=fun x hx=>by
    have:=h x hx;rw[<-qn aY k x] at this;cases A:ec k (fR k x) with
    | true=>rw[A] at this;exact⟨Z,this⟩
    | false=>rw[A] at this;cases this
   refine⟨fun _=>aE_.2 fun s z=>?_,fun h1=>?_⟩
   ·obtain⟨l,hl,z⟩:=List.mem_flatten.1 z;obtain⟨x,hx,rfl⟩:=List.mem_map.1 hl;exact aE_.1 (C x hx).2 s z
   rw[aE_.2 fun y hy=>by obtain⟨x,hx,rfl⟩:=List.mem_map.1 hy;exact(C x hx).1] at h1;cases h1
  have key:ea aY (k+1) (.mk op num name kids)=(bif (bif dQ op num (js op name) kids.length then(bif (bif I op 2 then aX (gL name []) else false) then [name] else []).all (fun s=>bU (jQ s) aY) else false) then kids.all (ea aY k) else false):=El aY k op num name kids;show(bif (bif dQ op num (js op name) (kids.map<|fR k).length then(kids.map<|fR k).all (ec k) else false) then((bif (bif I op 2 then aX (gL name []) else false) then [name] else [])++(kids.map<|fU k).flatten).all (fun s=>bU (jQ s) aY) else false)=_;rw[lM_,List.all_append,key,<-u];cases dQ op num (js op name) kids.length<;>cases (kids.map<|fR k).all (ec k)<;>cases (bif (bif I op 2 then aX (gL name []) else false) then [name] else []).all (fun s=>bU (jQ s) aY)<;>rfl
def gy (kind:Int):Int:=
 bif I kind 1 then 1 else bif I kind 3 then 1 else bif I kind 5 then 1 else bif I kind 6 then 1 else bif I kind 8 then 1 else bif I kind 9 then 1 else bif I kind 11 then 1 else bif I kind 4 then 2 else
 bif I kind 2 then 0 else bif I kind 7 then 0 else bif I kind 10 then 0 else bif I kind 12 then 0 else bif I kind 13 then 0 else-1
def rk (kind:Int):Bool:=bif I kind 2 then true else bif I kind 3 then true else bif I kind 4 then true else bif I kind 5 then true else I kind 6
def lz (kind:Int):Bool:=bif I kind 1 then true else bif rk kind then aX (I kind 3) else false
def AO (a b:Bool):Bool:=bif a then aX b else b
def mM (aY:Int) (k:Nat) (e:XE):Bool:=bif I (oI k<|fR k e) 0 then(fU k e).all (fun s=>bU (jQ s) aY) else false
def sX (kind:Int):Bool:=bif rk kind then true else I kind 7
def Lv (kind:Int):Bool:=bif I kind 10 then true else I kind 11
def pq (x:XI):Bool:=
 bif aX (I (gy x.kind) (.ofNat x.exprs.length)) then true else bif AO (sX x.kind) (bif aX (bU x.order 1) then aX (bU 6 x.order) else false) then true else bif aX (sX x.kind) then aX (I x.order 0) else false
def m7 (aY:Int) (x:XI):Bool:=
 bif (bif lz x.kind then(bif bU x.pc 0 then true else aX (bU x.pc aY)) else false) then true else
 bif (bif aX (lz x.kind) then aX (I x.pc 0) else false) then true else
 bif (bif rk x.kind then(bif bU x.loc 0 then true else aX (bU x.loc 6)) else false) then true else
 bif aX (rk x.kind) then aX (I x.loc 0) else false
def vN (nins:Int) (x:XI):Bool:=
 bif (bif Lv x.kind then(bif bU x.to 0 then true else aX (bU x.to nins)) else false) then true else bif aX (Lv x.kind) then aX (I x.to 0) else false
def gK (aY nins:Int) (k:Nat) (x:XI):Bool:=bif pq x then false else bif m7 aY x then false else bif vN nins x then false else x.exprs.all (mM aY k)
theorem y7 {aY:Int} {k:Nat} {e:XE} (h:gV k e=false):mM aY k e=ea aY k e:=by
 unfold mM oI;rw[B6,h,<-qn aY k e];cases ec k (fR k e)<;>rfl
theorem Bz {aY nins:Int} {k:Nat} {x:XI} (h:∀e∈x.exprs,gV k e=false):gK aY nins k x=fF aY nins k x:=by
 have G:x.exprs.all (mM aY k)=x.exprs.all (ea aY k):=by
  rw[Bool.eq_iff_iff,aE_,aE_];exact⟨fun h2 e he=>by rw[<-y7 (h e he)];exact h2 e he,fun h2 e he=>by rw[y7<|h e he];exact h2 e he⟩
 unfold gK;rw[G]
 by_cases hk:1<=x.kind/\x.kind<=13
 ·have R:∃sh,ja[x.kind.toNat]?=some sh/\fF aY nins k x=gE aY nins k x sh/\(sh.pc=lz x.kind/\sh.loc=rk x.kind/\sh.order=sX x.kind/\sh.to=Lv x.kind/\Int.ofNat sh.exprs=gy x.kind):=by
   have hn:∃n:Nat,x.kind= .ofNat n/\1<=n/\n<=13:=⟨x.kind.toNat,by show x.kind=((x.kind.toNat:Nat):Int);omega,by omega,by omega⟩;obtain⟨n,hn,h1,h2⟩:=hn
   have X:fF aY nins k x=match ja[x.kind.toNat]? with | some h=>gE aY nins k x h | none=>false:=by
    unfold fF;rw[B1.2 hk.1,B1.2 hk.2];rfl
   rw[X,hn];have:n=1∨n=2∨n=3∨n=4∨n=5∨n=6∨n=7∨n=8∨n=9∨n=10∨n=11∨n=12∨n=13:=by omega
   rcases this with rfl | rfl | rfl | rfl | rfl | rfl | rfl | rfl | rfl | rfl | rfl | rfl | rfl<;>exact⟨_,rfl,rfl,rfl,rfl,rfl,rfl,rfl⟩
  obtain⟨sh,_,hr,h1,h2,h3,h4,h5⟩:=R;rw[hr];unfold gE pq m7 vN fG AO;rw[h1,h2,h3,h4,show I (.ofNat x.exprs.length) (.ofNat sh.exprs)=I (gy x.kind) (.ofNat x.exprs.length) from by rw[dF,dF,h5];exact decide_eq_decide.2 eq_comm]
  have o7:bU x.order 7=aX (bU 6 x.order):=by
   rw[Bool.eq_iff_iff,L3,Oc,B1];omega
  have W:I x.order 0=true->bU x.order 1=true:=by rw[Qj,L3];omega
  rw[o7];generalize x.exprs.all (ea aY k)=A;generalize I (gy x.kind) (.ofNat x.exprs.length)=B_;generalize lz x.kind=S0;generalize rk x.kind=C;generalize sX x.kind=D_;generalize Lv x.kind=T0;generalize bU x.pc 0=u;generalize bU x.pc aY=z;generalize I x.pc 0=E;generalize bU x.loc 0=F;generalize bU x.loc 6=l1;generalize I x.loc 0=l2;generalize bU x.to 0=L;generalize bU x.to nins=M;generalize I x.to 0=Q;generalize bU 6 x.order=K;revert W;generalize bU x.order 1=q1;generalize I x.order 0=q0;intro W;have eS:(bif (bif S0 then(bif u then true else aX z) else false) then true else bif aX S0 then aX E else false)=aX (bif S0 then(bif aX u then z else false) else E):=by cases S0<;>cases u<;>cases z<;>cases E<;>rfl
  have eC:(bif (bif C then(bif F then true else aX l1) else false) then true else bif aX C then aX l2 else false)=aX (bif C then(bif aX F then l1 else false) else l2):=by cases C<;>cases F<;>cases l1<;>cases l2<;>rfl
  have eT:(bif (bif T0 then(bif L then true else aX M) else false) then true else bif aX T0 then aX Q else false)=aX (bif T0 then(bif aX L then M else false) else Q):=by cases T0<;>cases L<;>cases M<;>cases Q<;>rfl
  have eD:(bif (bif D_ then aX (bif aX q1 then aX K else false) else(bif aX q1 then aX K else false)) then true else bif aX D_ then aX q0 else false)=aX (bif D_ then(bif aX q1 then aX K else false) else q0):=by
   cases D_<;>cases q0<;>cases q1<;>cases K<;>first | rfl | (exact absurd (W rfl) (by decide))
  have eSC:(bif (bif S0 then(bif u then true else aX z) else false) then true else bif (bif aX S0 then aX E else false) then true else bif (bif C then(bif F then true else aX l1) else false) then true else bif aX C then aX l2 else false)=
    (bif (bif (bif S0 then(bif u then true else aX z) else false) then true else bif aX S0 then aX E else false) then true else(bif (bif C then(bif F then true else aX l1) else false) then true else bif aX C then aX l2 else false)):=by
   generalize (bif (bif C then(bif F then true else aX l1) else false) then true else bif aX C then aX l2 else false)=Zv;cases S0<;>cases u<;>cases z<;>cases E<;>rfl
  rw[eSC,eS,eC,eT,eD];generalize (bif S0 then(bif aX u then z else false) else E)=vS;generalize (bif C then(bif aX F then l1 else false) else l2)=vC;generalize (bif T0 then(bif aX L then M else false) else Q)=vT;generalize (bif D_ then(bif aX q1 then aX K else false) else q0)=vD;cases vS<;>cases vC<;>cases vT<;>cases vD<;>cases B_<;>rfl
 have hx:fF aY nins k x=false:=by
  unfold fF;cases h1:bU x.kind 1 with
  | true=>rfl
  | false=>
   cases h2:bU 13 x.kind with
   | true=>rfl
   | false=>exact absurd ⟨B1.1 h1,B1.1 h2⟩ hk
 have hb:pq x=true:=by
  have he:gy x.kind= -1:=by
   unfold gy;rw[iN (b:=1) B,iN (b:=3) B,iN (b:=5) B,iN (b:=6) B,iN (b:=8) B,iN (b:=9) B,iN (b:=11) B,iN (b:=4) B,iN (b:=2) B,iN (b:=7) B,iN (b:=10) B,iN (b:=12) B,iN (b:=13) B];rfl
  unfold pq;rw[he,iN (a:=-1) (b:=.ofNat x.exprs.length) (by intro h;have:(-1:Int)=(x.exprs.length:Int):=h;omega)];rfl
 rw[hx,hb];rfl
def gJ (k:Nat) (c:XC):Int:=
 bif (bif bU 16 c.aY then true else bU 4000 (.ofNat c.ins.length)) then 3 else
 bif c.ins.any (fun x=>x.exprs.any (gV k)) then 3 else
 bif (bif bU c.aY 0 then true else I (.ofNat c.ins.length) 0) then 2 else
 bif aX (c.ins.all<|gK c.aY (.ofNat c.ins.length) k) then 2 else
 match c.ins[c.ins.length-1]? with
 | some x=>bif gk x then 0 else 2
 | none=>2
def mn (k:Nat) (c:XC):Prop:=∀x∈c.ins,∀e∈x.exprs,jc k e
theorem gU {k:Nat} {c:XC} (hf:mn k c):gJ k c=dq k c:=by
 have h1:c.ins.all (uf k)=aX (c.ins.any fun x=>x.exprs.any (gV k)):=by
  rw[Bool.eq_iff_iff,Oc,aE_,List.any_eq_false];refine⟨fun h x hx=>?_,fun h x hx=>?_⟩
  ·rw[Bool.not_eq_true,List.any_eq_false];intro e he;have:=aE_.1 (h x hx) e he;rw[xB<|hf x hx e he,Oc] at this;rw[this];decide
  have h2:=h x hx;rw[Bool.not_eq_true,List.any_eq_false] at h2;refine aE_.2 fun e he=>?_
  rw[xB<|hf x hx e he,Oc];exact Bool.eq_false_iff.2<|h2 e he
 unfold gJ dq;rw[h1];cases u:(c.ins.any fun x=>x.exprs.any (gV k)) with
 | true=>cases bU 16 c.aY<;>cases bU 4000 (.ofNat c.ins.length)<;>rfl
 | false=>
  have h2:c.ins.all (gK c.aY (.ofNat c.ins.length) k)=c.ins.all (fF c.aY (.ofNat c.ins.length) k):=by
   have:∀x∈c.ins,gK c.aY (.ofNat c.ins.length) k x=fF c.aY (.ofNat c.ins.length) k x:=fun x hx=>Bz fun e he=>by
    have:=List.any_eq_false.1 u x hx;rw[Bool.not_eq_true,List.any_eq_false] at this;exact Bool.eq_false_iff.2<|this e he
   rw[Bool.eq_iff_iff,aE_,aE_];exact⟨fun h x hx=>by rw[<-this x hx];exact h x hx,fun h x hx=>by rw[this x hx];exact h x hx⟩
  rw[h2];cases bU 16 c.aY<;>cases bU 4000 (.ofNat c.ins.length)<;>cases bU c.aY 0<;>cases I (.ofNat c.ins.length) 0<;>rfl
section
variable {P:Program} {G:Cx} {n:Nat} {t:N V} {U:D} {K:KP} {L:Own} {Q:Ex->N V->D->Prop} {ops:Array Oper} {o:Oper} {i:Nat} {rc:List Nat} {l:List (Nat×List Nat)}
theorem tM {t':N V} (hi:ops[i]?=some o) (hw:bM ops t o=some false) (hp:dI t n o.dst unit=some t') (h:dn P G ops t' U rc=true/\cE P G ops n l t' U Q):cE P G ops n ((i,rc)::l) t U Q:=by
 obtain⟨u,K,e,z,A,h1,h2⟩:=h;refine⟨K,e,z,A,fun k hk=>?_,h2⟩
 show(match ops[i]? with
  | some o=>ju P G (ew P G k) false ops n o t U (fun t' U'=>bif dn P G ops t' U' rc then ke P G (ew P G k) ops n [] l t' U' else .err 86)
  | none=>.err 87)=_
 rw[hi];unfold ju;dsimp only;rw[hw];dsimp only;rw[hp];dsimp only;rw[u];exact h1 k hk
end
section
variable {P:Program} {G:Cx} {ev:Operand->Option V} {U:D} {K:KP} {L:Own}
theorem fw {t:TypeId} {x i:Operand} {s:List Nat} {n c:Nat} {k:IntKind} (z:P.underlying t=some .string) (hx:ev x=some (.str s)) (hi:ev i=some (.int k (.ofNat n))) (hc:s[n]?=some c):dW P G ev U (.index t x i)= .val (.int .u8 (.ofNat c)) U:=by
 refine bn Z ?_;simp only[di,z,hx,hi,eF,hc]
theorem tA {t e n m j off:Nat} {b:Pos} {x i:Operand} {k:IntKind} (z:P.underlying t=some (.array n e)) (hj:(P.info? e).map (·.size)=some m) (hx:ev x=some (.ptr b off)) (hi:ev i=some (.int k (.ofNat j))) (hn:j<n):dW P G ev U (.indexAddr t x i)= .val (.ptr b (off+j*m)) U:=by
 refine bn Z ?_;obtain⟨q,hq,rfl⟩:=oM_.1 hj;simp only[di,z,hx,hi,hq,show Nat.ble (Nat.succ j) n=true by rw[nE_];exact hn,cond_true]
theorem eW {x:Operand} {b:Pos} {off:Nat} (hx:ev x=some (.ptr b off)):dW P G ev U (.nilCheck x)= .val (.ptr b off) U:=bn Z (by simp only[di,hx])
theorem dN {x:Operand} {p:V} {vs:List V} (hp:ib K p vs) (hx:ev x=some p):dW P G ev U (.nilCheck x)= .val p U:=by
 obtain⟨b,off,_,_,_,rfl,_⟩:=hp;exact eW hx
theorem Mi {c:Call} {x y:Operand} {a b:Int} {k:IntKind} (hc:c.callee= .builtin .max) (z:c.args.toList= [x,y]) (hx:ev x=some (.int k a)) (hy:ev y=some (.int k b)):dW P G ev U (.call c)= .val (.int k (bif bU a b then b else a)) U:=by
 refine bn (by simp[kindOf,hc]) ?_;have e:r9 k k=true:=by cases k<;>rfl
 simp only[di,hc,z,hx,hy,Nb,e,cond_true]
theorem jZ {α:Type} {f:α->V} {l:List α} {i off:Nat} {x:α} (h:l[i]?=some x) (z:off=i):nth (l.map f) off=some (f x):=by
 subst z;rw[eF,gM_,h];rfl
theorem fb {α:Type} {f:α->V} {l:List α} {i off:Nat} {v:α} (h:i<l.length) (z:off=i):dG [f v] (l.map f) off=(l.set i v).map f:=by
 subst z;have:=fW (us:=l.map f) (u:=f v) (i:=off) (by rw[lM_];exact h);rw[show 0+off*1=off by omega] at this;rw[this,List.map_set]
theorem iT {α:Type} {f:α->V} (v:α) (n:Nat):fp [f v] n=(List.replicate n v).map f:=by rw[ph,List.map_replicate]
end
def nt {α:Type} (m E:Nat) (R:α->List V->Prop) (l:List α) (u:V) (M:Own):Prop:=
 (l= []/\u= .ax/\M= [])∨∃(b:Nat) (c:pH) (cells:List V) (e:Nat),u= .slice b 0 l.length c/\M= [(b,.row cells e false)]/\l.length*m<=cells.length/\(∀(i:Nat) (x:α),l[i]?=some x->R x ((cells.drop (i*m)).take m))/\((∃n,c= .known n/\l.length<=n/\n*m<=cells.length)∨(c= .upto m/\e=E))/\l.length<=1048576
section
variable {α:Type} {m E:Nat} {R:α->List V->Prop} {l:List α} {u:V} {M:Own} {K:KP}
theorem cQ.Oi (h:cQ m E R l u M):nt m E R l u M:=by
 rcases h with h | ⟨b,c,cells,e,h1,h2,h3,h4,h5,z⟩
 ·exact .inl h
 refine .inr ⟨b,c,cells,e,h1,h2,by omega,h4,?_,z⟩;rcases h5 with h5 | h5
 ·exact .inl ⟨_,h5,nR_ _,by omega⟩
 exact .inr h5
theorem nt.kq (h:nt m E R l u M) (hk:∀e∈M,K e.1 e.2):bR K m R l u:=by
 rcases h with ⟨h1,h2,_⟩ | ⟨b,c,cells,e,rfl,rfl,h3,h4,h5,h6⟩
 ·exact .inl ⟨h1,h2⟩
 refine .inr ⟨b,0,c,cells,e,false,Z,?_,hk _<|mS_ ..,by omega,by omega,fun i x hx=>by rw[nA_];exact h4 i x hx⟩;rcases h5 with ⟨n,h5,z,_⟩ | h5
 ·exact .inr ⟨_,h5,z⟩
 exact .inl h5.1
theorem uj {P:Program} {G:Cx} {ev:Operand->Option V} {U:D} {c:Call} {t e:TypeId} {x:Operand} (h:nt m E R l u M) (hc:c.callee= .builtin .len) (z:c.argTypes[0]?=some t) (A:c.args.toList= [x]) (hu:P.underlying t=some (.slice e)) (hx:ev x=some u):
  dW P G ev U (.call c)= .val (.int .i64 (.ofNat l.length)) U:=
 aW (K:=fun b o=>(b,o)∈M) (h.kq fun e he=>he) hc z A hu hx
theorem nt.take (h:nt m E R l u M) {P:Program} {ev:Operand->Option V} {t:TypeId} {x hi:Operand} {kk:IntKind} {k:Nat} (hk:k<=l.length) (hu:P.underlying t=some (.slice E)) (hj:(P.info? E).map (·.size)=some m) (hx:ev x=some u) (A:ev hi=some (.int kk (.ofNat k))):
  ∃u',fo P ev t x none (some hi) none=some u'/\nt m E R (l.take k) u' M:=by
 obtain⟨j,z,rfl⟩:=oM_.1 hj;rcases h with ⟨rfl,rfl,rfl⟩ | ⟨b,c,cells,e,rfl,rfl,F,h4,h5,h6⟩
 ·obtain rfl:k=0:=by simpa using hk
  refine⟨.ax,?_,.inl ⟨Z,Z,Z⟩⟩;have:da ev 0 0 none (some hi)=some (0,0):=oH A (nR_ _);simp only[fo,hu,hx,z,this]
 have hl:(l.take k).length=k:=by rw[lT_];omega
 have C:∀(i:Nat) (x:α),(l.take k)[i]?=some x->R x ((cells.drop (i*j.size)).take j.size):=fun i x hi=>by
  rw[List.getElem?_take] at hi;split at hi
  ·exact h4 i x hi
  cases hi
 have hle:k*j.size<=cells.length:=Nat.le_trans (nM_ _ hk) F;rcases h5 with ⟨n,rfl,h7,Q⟩ | ⟨rfl,rfl⟩
 ·refine⟨.slice b 0 k (.known n),?_,.inr ⟨b,.known n,cells,e,by rw[hl],Z,by rw[hl];exact hle,C,.inl ⟨n,Z,by rw[hl];omega,Q⟩,by rw[hl];omega⟩⟩;have:da ev l.length n none (some hi)=some (0,k):=oH A B;simp only[fo,hu,hx,cutAt,this,cut,z];cases hn:Nat.beq n 0 with
  | true=>simp
  | false=>simp
 refine⟨.slice b 0 k (.upto j.size),?_,.inr ⟨b,.upto j.size,cells,e,by rw[hl],Z,by rw[hl];exact hle,C,.inr ⟨Z,Z⟩,by rw[hl];omega⟩⟩;have:da ev l.length l.length none (some hi)=some (0,k):=oH A hk;simp only[fo,hu,hx,this,z,show Nat.beq j.size j.size=true from Nat.beq_refl _,cond_true,Nat.zero_mul,Nat.sub_zero,Nat.add_zero]
end
section
variable {α:Type} {m E:Nat} {R:α->List V->Prop}
theorem yy {l l2:List α} {cells news Zv:List V} (hl:l.length*m<=cells.length) (h1:∀(i:Nat) (x:α),l[i]?=some x->R x ((cells.drop (i*m)).take m)) (hn:news.length=l2.length*m) (h2:∀(i:Nat) (x:α),l2[i]?=some x->R x ((news.drop (i*m)).take m)):
  ∀(i:Nat) (x:α),(l++l2)[i]?=some x->R x (((cells.take (l.length*m)++(news++Zv)).drop (i*m)).take m):=by
 intro i x hx;have A:(cells.take (l.length*m)).length=l.length*m:=by rw[lT_];omega
 by_cases hi:i<l.length
 ·rw[gL_ hi] at hx;have hle:(i+1)*m<=l.length*m:=nM_ _ hi;rw[Nat.succ_mul] at hle;rw[List.drop_append_of_le_length B,List.take_append_of_le_length (by rw[lD_];omega),List.drop_take,List.take_take,Nat.min_eq_left B];exact h1 i x hx
 rw[gR_ B] at hx;have hlt:=(gA.1 hx).1;have hle:l.length*m<=i*m:=nM_ _ B;have z:(i-l.length+1)*m<=l2.length*m:=nM_ _ hlt;rw[Nat.succ_mul] at z;rw[List.drop_append,List.drop_eq_nil_of_le B,List.nil_append,A,<-Nat.sub_mul,List.drop_append_of_le_length B,List.take_append_of_le_length (by rw[lD_];omega)];exact h2 _ x hx
section
variable {P:Program} {K:KP} {L:Own}
theorem qg {l l2:List α} {u v2:V} {M:Own} {bv ev e:Nat} {cv:List V} {ts:Array TypeId} {t:TypeId} {U:D} (ho:nt m e R l u M) (aq:J U K ((bv,.row cv ev false)::(M++L)))
  (hx:bR (K.add bv (.row cv ev false)) m R l2 v2) (A:∀x vs,R x vs->cD vs=true) (hn:l2.length<=1000) (aa:1<=l2.length) (hl:l.length<=1000000)
  (ht:ts[0]?=some t) (hu:P.underlying t=some (.slice e)) (X:pK P e m=true) (h2:dt P ts[1]?=true):
  ∃U' u' M',fX P U ts u v2= .val u' U'/\nt m e R (l++l2) u' M'/\J U' K (M'++L):=by
 have hk:=aq.iu;have C:J U K (M++L):=hk.weaken (KP.se _ _ _);rcases ho with ⟨rfl,rfl,rfl⟩ | ⟨b,c,cells,e',rfl,rfl,h3,h4,h5,h6⟩
 ·obtain⟨news,k1,k2,k3⟩:=rf (P:=P) hk hx A B aa ht hu X h2;exact⟨_,_,[(U.next,.row news e false)],k1,.inr ⟨_,_,news,e,Z,Z,by rw[k2];exact nR_ _,k3,.inr ⟨Z,Z⟩,by show l2.length<=_;omega⟩,((hk.alloc (.row news e false)).weaken<|KP.se _ _ _)⟩
 obtain⟨news,s1,s2,s3,s4⟩:=om hk hx A;unfold pK at X;split at X
 ·rename_i j hj;simp only[bA_] at X;obtain⟨a1,a2,a3,a4⟩:=X;have hm:j.size=m:=nB a1;subst hm;have hz:((P.info? e).any fun j=>(j.zero.bind qb).any fun z=>(cS z).any fun cs=>Nat.beq (cX cs) j.size)=true:=by rw[hj];exact a4
  have hb:=C.get 0 Z;have hlen:(l++l2).length=l.length+l2.length:=lA_;have hmul:(l.length+l2.length)*j.size=l.length*j.size+l2.length*j.size:=Nat.add_mul ..;unfold fX;rw[ht];dsimp only;rw[hu];dsimp only;rw[hj];dsimp only;rw[h2,a2,a3];simp only[Bool.and_self,cond_true];rw[s1];dsimp only;rw[hj] at hz;rw[s3,show Nat.ble l2.length 1048576=true by rw[nE_];omega,hz];simp only[Bool.and_self,cond_true];have hle:Nat.ble (0+l.length*j.size) (cX cells)=true:=by rw[nE_,bK];omega
  have F:takeN (dS cells 0) (l.length*j.size)=cells.take (l.length*j.size):=by rw[du,dO,List.drop_zero]
  have ab:Nat.ble l.length 1048576=true:=by rw[nE_];omega
  have hA:(cells.take (l.length*j.size)).length=l.length*j.size:=by rw[lT_];omega
  have ac:l.length*j.size+news.length<=cells.length->dG news cells (0+l.length*j.size)=cells.take (l.length*j.size)++(news++cells.drop (l.length*j.size+news.length)):=fun hh=>by
   rw[nA_,oo _ _ _ B,lQ_]
  have am:l.length*j.size+news.length<=cells.length->∀c',((∃n,c'=pH.known n/\(l++l2).length<=n/\n*j.size<=cells.length)∨(c'=pH.upto j.size/\e'=e))->nt j.size e R (l++l2) (.slice b 0 (l.length+l2.length) c') [(b,.row (dG news cells (0+l.length*j.size)) e' false)]:=fun hh c' W=>by
   have ao:(dG news cells (0+l.length*j.size)).length=cells.length:=by
    rw[ac hh];simp only[lA_,lT_,lD_];omega
   refine .inr ⟨b,c',_,e',by rw[hlen],Z,by rw[ao,hlen,hmul];omega,?_,by rw[ao];exact W,by rw[hlen];omega⟩;rw[ac hh];exact yy h3 h4 s2 s4
  have ap:nt j.size e R (l++l2) (.slice U.next 0 (l.length+l2.length) (.upto j.size)) [(U.next,.row (cells.take (l.length*j.size)++news) e false)]:=by
   refine .inr ⟨_,_,_,e,by rw[hlen],Z,by rw[hlen,hmul,lA_,hA];omega,?_,.inr ⟨Z,Z⟩,by rw[hlen];omega⟩;have:=yy (Zv:=[]) h3 h4 s2 s4;rwa[List.append_nil] at this
  rcases h5 with ⟨n,rfl,h7,h8⟩ | ⟨rfl,rfl⟩
  ·dsimp only;cases hc:Nat.ble (l.length+l2.length) n with
   | true=>
    have W:l.length+l2.length<=n:=by simpa [nE_] using hc
    have Q:l.length*j.size+news.length<=cells.length:=by
     have:(l.length+l2.length)*j.size<=n*j.size:=nM_ _ W;rw[s2];omega
    simp only[cond_true];rw[hb];dsimp only;rw[show Nat.ble (0+l.length*j.size+cX news) (cX cells)=true by rw[nE_,bK,bK];omega];simp only[cond_true];exact⟨_,_,[(b,_)],Z,am Q _ (.inl ⟨n,Z,by rw[hlen];exact W,h8⟩),C.pf _⟩
   | false=>
    simp only[cond_false];rw[hb];dsimp only;rw[hle,ab,F,dV];simp only[Bool.and_self,cond_true];exact⟨_,_,[(U.next,_)],Z,ap,((C.alloc _).perm<|List.Perm.swap ..).pop⟩
  dsimp only
  have:Nat.beq l2.length 0=false:=by
   cases hh:Nat.beq l2.length 0 with
   | false=>rfl
   | true=>exact absurd (nB hh) B
  rw[this,Nat.beq_refl,ab];simp only[Bool.and_self,cond_true,cond_false];rw[hb];dsimp only;cases hf:(Nat.ble 1 l.length && Nat.ble (0+l.length*j.size+cX news) (cX cells)) with
  | true=>
   have Q:l.length*j.size+news.length<=cells.length:=by
    rw[bA_,nE_,nE_,bK,bK] at hf;omega
   simp only[cond_true];exact⟨_,_,[(b,_)],Z,am Q _ (.inr ⟨Z,Z⟩),C.pf _⟩
  | false=>
   simp only[cond_false];rw[hle,Nat.beq_refl,F,dV];simp only[Bool.and_self,cond_true];exact⟨_,_,[(U.next,_)],Z,ap,C.xq _⟩
 cases X
end
end
end Go.Ev
namespace Go.Ev
variable [Env]
open Go.Proofs
set_option maxRecDepth 4000
set_option maxHeartbeats 8000000
theorem tw {G:Cx} (A:Plain G) {K:KP} (n le mo:Int) (mu:Bool) {U:D} {L:Own} (aq:J U K L):bk Tryz.prog G 217 [.int .i64 n,.int .i64 le,.int .i64 mo,.bool mu] U fun v U'=>v= .bool (fG n le mo mu)/\J U' K L:=by
 refine PS A Tryz.func217 Z<|OI 9 Z<|O Z (cV Z) Z<|Pv 2 Z<|aE Z (fun u=>?_) (fun u=>?_)
 ·have h10b:=bT u;refine Pu 9 Z ?_;exact aA Z Z ⟨cB (by unfold fG aX;simp only[h10b,ct,cf]),aq⟩
 have h10b:=bj u;refine OK 7 Z<|ky Z (an Z) (fun z=>?_) (fun z=>?_)
 ·refine Px 8 Z ?_;exact aA Z Z ⟨cB (by unfold fG aX;simp only[h10b,z,ct,cf]),aq⟩
 refine Px 8 Z ?_;exact aA Z Z ⟨cB (by unfold fG aX;simp only[h10b,z,ct,cf]),aq⟩
theorem Aj {c:Nat} (h:bU (.ofNat c) 48=true):¬(48<=c/\c<=57):=by have:c<48:=bu (b:=48) h;omega
theorem Ai {c:Nat} (h:bU 57 (.ofNat c)=true):¬(48<=c/\c<=57):=by have:57<c:=bu (a:=57) h;omega
theorem jy {c:Nat} (h:bU (.ofNat c) 48=false) (h':bU 57 (.ofNat c)=false):48<=c/\c<=57:=by have:48<=c:=bC (b:=48) h;have:c<=57:=bC (a:=57) h';omega
theorem Js {c m:Nat} (h:48<=c/\c<=57) (hm:m<=100000):wr .i64 (Int.add (wr .i64<|Int.mul 10 (.ofNat m))<|wr .i64<|wr .u8<|Int.sub (.ofNat c) 48)= .ofNat (10*m+(c-48)):=by
 have e1:Int.sub (.ofNat c) 48= .ofNat (c-48):=by show(c:Int)-48=((c-48:Nat):Int);omega
 have z:Int.mul 10 (.ofNat m)= .ofNat (10*m):=rfl
 have A:wr .u8 (.ofNat (c-48))= .ofNat (c-48):=by
  show(bif Nat.ble (c-48) 255 then _ else _)=_;rw[show Nat.ble (c-48) 255=true by rw[nE_];omega];rfl
 have u:∀q:Nat,q<=9223372036854775807->wr .i64 (.ofNat q)= .ofNat q:=fun q hq=>by
  show(bif Nat.ble q 9223372036854775807 then _ else _)=_;rw[show Nat.ble q 9223372036854775807=true by rw[nE_];exact hq];rfl
 rw[e1,z,A,u _ B,u _ B];show wr .i64 (.ofNat (10*m+(c-48)))=_;exact u _ B
theorem qX {s:List Nat} (h:s.length=0∨4<s.length∨(1<s.length/\s[0]?=some 48)):iG s=none:=by unfold iG;rw[if_pos h]
theorem ig {s:List Nat} (h:¬(s.length=0∨4<s.length∨(1<s.length/\s[0]?=some 48))):iG s=ny s 0:=by unfold iG;rw[if_neg h]
def Ov (o:Option Nat):Int:=.ofNat (o.getD 0)
theorem xj:∀i,i<=4->10 ^ i<=10000:=by decide
theorem EI {G:Cx} (hG:Plain G) {K:KP} (s:List Nat) {U:D} {L:Own} (aq:J U K L):bk Tryz.prog G 253 [.str s] U fun v U'=>v= .tuple [.int .i64<|Ov<|iG s,.bool (iG s).isSome]/\J U' K L:=by
 refine PS hG Tryz.func253 Z<|OI 10 Z<|O Z (ij Z Z Z Y Z) Z<|vQ 1 Z<|ky Z (an Z) (fun h9=>?_) (fun h9=>?_)
 ·refine OQ 25 Z ?_;exact bV Z Z Z ⟨by rw[qX (.inl (by have:=sH h9;rw[<-bK];exact iJ_ this))];rfl,aq⟩
 refine vQ 1 Z<|O Z (ij Z Z Z Y Z) Z<|PZ 2 Z<|ky Z (an Z) (fun Q=>?_) (fun Q=>?_)
 ·refine OQ 20 Z ?_;exact bV Z Z Z ⟨by rw[qX (.inr (.inl (by rw[<-bK];exact bu (a:=4) Q)))];rfl,aq⟩
 refine vQ 1 Z<|O Z (ij Z Z Z Y Z) Z<|vQ 1 Z<|ky Z (an Z) (fun R=>?_) (fun R=>?_)
 ·refine vQ 1 Z ?_;obtain⟨ac,F⟩:=cm (show 0<s.length from by have:=bu (a:=1) R;rw[bK] at this;omega);refine O Z (fw Y Z Z F) Z<|Pv 5 Z<|aE Z (fun W=>?_) (fun W=>?_)
  ·refine Pu 8 Z ?_;exact bV Z Z Z ⟨by rw[qX (.inr (.inr ⟨by rw[<-bK];exact bu (a:=1) R,by rw[F];exact congrArg some<|iJ_<|eqv W⟩))];rfl,aq⟩
  refine OK 4 Z ?_;have hl4:cX s<=4:=bC (a:=4) Q
  have E:¬(s.length=0∨4<s.length∨(1<s.length/\s[0]?=some 48)):=by
   have hl4:=hl4;rw[bK] at hl4;have h9z:s.length≠0:=fun e=>by rw[bK,e] at h9;cases h9
   rintro (e | e | ⟨_,e⟩)
   ·exact h9z e
   ·omega
   rw[F] at e;cases e;cases W
  refine On 7 Z<|O Z (ij Z Z Z Y Z) Z<|OM 4 Z ?_;obtain⟨LL1,aq,hLL1⟩:=aq.named;refine bp (rg 2 4++rg 26 22) (fun j t U=>∃(i m:Nat),j+i=cX s/\ny s 0=ny (s.drop i) m/\m<10 ^ i/\i<=4/\t.get 4=some (.int .i64 (.ofNat m))/\t.get 26=some (.int .i64 (.ofNat i))/\J U K LL1) (cX s) ⟨0,0,Z,Z,Nat.one_pos,Nat.zero_le _,Z,Z,aq⟩ ?_;clear aq;intro j5 t U ar hI;obtain⟨i,m,hj,he,hm,X,aa,M,aq⟩:=hI;subst hLL1;obtain⟨oo,rfl⟩:=ar.q2 aa M Z;refine Ps 6 Z<|aE Z (fun z=>?_) (fun z=>?_)
  ·refine NO 11 Z<|Pt 4 Z ?_;obtain⟨ab,u⟩:=cm (show i<s.length from by have:=bu z;rwa[bK] at this);refine O Z (fw Y Z Z u) Z<|vQ 1 Z<|ky Z (an Z) (fun A=>?_) (fun A=>?_)
   ·refine Px 15 Z<|aw<|aF<|aw<|bz<|aF<|aw (?_);exact bV Z Z Z ⟨by rw[ig E,he,lS u<|Aj A];rfl,aq⟩
   refine PZ 2 Z<|O Z (fw Y Z Z u) Z<|Pv 4 Z<|aE Z (fun C=>?_) (fun C=>?_)
   ·refine PX 7 Z<|aw<|aF<|aw<|bz<|aF<|aw (?_);exact bV Z Z Z ⟨by rw[ig E,he,lS u<|Ai C];rfl,aq⟩
   refine aG<|ad<|ai Z<|PZ 4 Z<|O Z (fw Y Z Z u) Z<|vQ 1 Z ?_;refine O Z (ek (j:=.u8) (k:=.i64) Y Y Y Z) Z ?_;refine PY 3 Z (aJ (PW 4 Z (aO ⟨j5-1,by have:=bu z;omega,oF,i+1,10*m+(ab-48),by have:=bu z;omega,he.trans<|pQ u<|jy A C,by have:=jy A C;rw[Nat.pow_succ];omega,by have:=bu z;have:=hl4;omega,cI<|Js (jy A C) (by have:=xj i X;omega),cI<|bg B,aq⟩)))
  refine OL 3 Z<|aT<|PX 8 Z ?_;exact bV Z Z Z ⟨by rw[ig E,he,pP (by have:=bC z;rwa[bK] at this)];rfl,aq⟩
 refine Oo 12 Z ?_;have hl4:cX s<=4:=bC (a:=4) Q
 have E:¬(s.length=0∨4<s.length∨(1<s.length/\s[0]?=some 48)):=by
  have hl4:=hl4;rw[bK] at hl4;have h9z:s.length≠0:=fun e=>by rw[bK,e] at h9;cases h9
  have h18z:¬(1<s.length):=by have:=bC (a:=1) R;rw[bK] at this;omega
  omega
 refine On 7 Z<|O Z (ij Z Z Z Y Z) Z<|OM 4 Z ?_;obtain⟨LL2,aq,hLL2⟩:=aq.named;refine bp (rg 2 4++rg 26 22) (fun j t U=>∃(i m:Nat),j+i=cX s/\ny s 0=ny (s.drop i) m/\m<10 ^ i/\i<=4/\t.get 4=some (.int .i64 (.ofNat m))/\t.get 26=some (.int .i64 (.ofNat i))/\J U K LL2) (cX s) ⟨0,0,Z,Z,Nat.one_pos,Nat.zero_le _,Z,Z,aq⟩ ?_;clear aq;intro j5 t U ar hI;obtain⟨i,m,hj,he,hm,X,aa,M,aq⟩:=hI;subst hLL2;obtain⟨oo,rfl⟩:=ar.q2 aa M Z;refine Ps 6 Z<|aE Z (fun z=>?_) (fun z=>?_)
 ·refine NO 11 Z<|Pt 4 Z ?_;obtain⟨ab,u⟩:=cm (show i<s.length from by have:=bu z;rwa[bK] at this);refine O Z (fw Y Z Z u) Z<|vQ 1 Z<|ky Z (an Z) (fun A=>?_) (fun A=>?_)
  ·refine Px 15 Z<|aw<|aF<|aw<|bz<|aF<|aw (?_);exact bV Z Z Z ⟨by rw[ig E,he,lS u<|Aj A];rfl,aq⟩
  refine PZ 2 Z<|O Z (fw Y Z Z u) Z<|Pv 4 Z<|aE Z (fun C=>?_) (fun C=>?_)
  ·refine PX 7 Z<|aw<|aF<|aw<|bz<|aF<|aw (?_);exact bV Z Z Z ⟨by rw[ig E,he,lS u<|Ai C];rfl,aq⟩
  refine aG<|ad<|ai Z<|PZ 4 Z<|O Z (fw Y Z Z u) Z<|vQ 1 Z ?_;refine O Z (ek (j:=.u8) (k:=.i64) Y Y Y Z) Z ?_;refine PY 3 Z (aJ (PW 4 Z (aO ⟨j5-1,by have:=bu z;omega,oF,i+1,10*m+(ab-48),by have:=bu z;omega,he.trans<|pQ u<|jy A C,by have:=jy A C;rw[Nat.pow_succ];omega,by have:=bu z;have:=hl4;omega,cI<|Js (jy A C) (by have:=xj i X;omega),cI<|bg B,aq⟩)))
 refine OL 3 Z<|aT<|PX 8 Z ?_;exact bV Z Z Z ⟨by rw[ig E,he,pP (by have:=bC z;rwa[bK] at this)];rfl,aq⟩
end Go.Ev
namespace Go.Ev
variable [Env]
def M6:List Int->List Int->Int
 | x::l,y::m=>bif I (Mw x y) 0 then M6 l m else Mw x y
 | _,_=>0
def kC (A B_:List Int) (c:Int):Prop:=∀l m,M6 (A++l) (B_++m)=bif I c 0 then M6 l m else c
theorem kC.nil:kC [] [] 0:=fun _ _=>Z
theorem kC.one (x y:Int):kC [x] [y] (Mw x y):=fun _ _=>Z
theorem kC.app {A B_ A' B':List Int} {c c':Int} (h:kC A B_ c) (h':c=0->kC A' B' c'):kC (A++A') (B_++B') (bif I c 0 then c' else c):=fun l m=>by
 rw[lQ_,lQ_,h];simp only[N9]
 by_cases hc:c=0
 ·simp only[hc,if_true];rw[h' hc];simp only[N9]
 simp only[hc,if_false]
theorem kC.rows {α:Type} {enc:α->List Int} {c:α->α->Int}:∀{ls ms:List α},ls.length=ms.length->(∀(i:Nat) (x y:α),ls[i]?=some x->ms[i]?=some y->kC (enc x) (enc y) (c x y))->kC (ls.flatMap enc) (ms.flatMap enc) (NZ c ls ms)
 | [],[],_,_=>kC.nil
 | [],_::_,h,_=>by cases h
 | _::_,[],h,_=>by cases h
 | x::ls,y::ms,h,hc=>by
  rw[List.flatMap_cons,List.flatMap_cons];exact(hc 0 x y Z Z).app fun _=>kC.rows (by simpa using h) fun i x y h1 h2=>hc (i+1) x y (by simpa using h1) (by simpa using h2)
theorem ints_at {xs:List Int} {i:Nat} {x:Int} (h:xs[i]?=some x):(ints xs)[i]?=some (.int .i64 x):=by
 unfold ints;rw[gM_,h];rfl
theorem fK {K:KP} {xs:List Int} {vb e:Nat} (h:K vb (.row (ints xs) e false)) (hn:xs.length<=1000):bR K 1 dy xs (.slice vb 0 xs.length (.known xs.length)):=by
 refine .inr ⟨vb,0,_,_,e,false,Z,.inr ⟨_,Z,nR_ _⟩,h,?_,by omega,fun i x hx=>?_⟩
 ·unfold ints;rw[lM_];omega
 rw[Nat.mul_one,nA_,cR<|ints_at hx];rfl
theorem map_take {α β:Type} {f:α->β} {l:List α} {i:Nat} {x:α} (h:l[i]?=some x):(l.take (i+1)).map f=(l.take i).map f++[f x]:=by
 rw[List.take_add_one,h,List.map_append];rfl
theorem gO {xs:List Int} {b e E:Nat} (hn:xs.length<=1000):cQ 1 E dy xs (.slice b 0 xs.length (.known xs.length)) [(b,.row (ints xs) e false)]:=by
 refine .inr ⟨b,_,_,e,Z,Z,?_,fun i x hx=>?_,.inl Z,by omega⟩
 ·unfold ints;rw[lM_];omega
 rw[Nat.mul_one,cR<|ints_at hx];rfl
structure P9 (g:XG):Prop where
 t:g.threads.length<=4
 r:∀l∈g.threads,l.length<=14
 f:g.from_.length<=4
 fr:∀l∈g.from_,l.length<=14
 o:g.order.length<=6
 QI:∀l∈g.order,l.length<=56
 i:g.init.length<=6
abbrev gI (n:Nat):V:=.int .i64 (.ofNat n)
abbrev gS (n:Nat):V:=.int .u8 (.ofNat n)
section
variable {U:D} {K:KP} {A M L:Own} {x:Nat×cG}
theorem J.front (h:J U K (A++(M++L))):J U K (M++(A++L)):=h.perm (List.perm_append_comm_assoc A M L)
theorem J.DL (h:J U K (x::(A++(M++L)))):J U K (x::(M++(A++L))):=h.perm ((List.perm_append_comm_assoc A M L).cons x)
theorem J.behind (h:J U K (x::(M++L))):J U K (M++x::L):=h.perm List.perm_middle.symm
theorem J.ahead (h:J U K (M++x::L)):J U K (x::(M++L)):=h.perm List.perm_middle
end
theorem nt.L8 {α:Type} {m E:Nat} {R:α->List V->Prop} {l:List α} {u:V} {M:Own} (h:nt m E R l u M) {k:Nat} (hk:k<=l.length):
  ∃u',nt m E R (l.take k) u' M/\∀{P:Program} {ev:Operand->Option V} {t:TypeId} {x hi:Operand} {kk:IntKind},P.underlying t=some (.slice E)->(P.info? E).map (·.size)=some m->ev x=some u->ev hi=some (.int kk (.ofNat k))->fo P ev t x none (some hi) none=some u':=by
 rcases h with ⟨rfl,rfl,rfl⟩ | ⟨b,c,cells,e,rfl,rfl,G,h4,h5,h6⟩
 ·refine⟨.ax,.inl ⟨List.take_nil,Z,Z⟩,fun {P ev t x hi kk} hu hj hx C=>?_⟩;obtain⟨j,z,rfl⟩:=oM_.1 hj;obtain rfl:k=0:=by simpa using hk
  have:da ev 0 0 none (some hi)=some (0,0):=oH C (nR_ _);simp only[fo,hu,hx,z,this]
 have hl:(l.take k).length=k:=by rw[lT_];omega
 have F:∀(i:Nat) (x:α),(l.take k)[i]?=some x->R x ((cells.drop (i*m)).take m):=fun i x hi=>by
  rw[List.getElem?_take] at hi;split at hi
  ·exact h4 i x hi
  cases hi
 have hle:k*m<=cells.length:=Nat.le_trans (nM_ _ hk) G;rcases h5 with ⟨n,rfl,h7,Q⟩ | ⟨rfl,rfl⟩
 ·refine⟨.slice b 0 k (.known n),.inr ⟨b,.known n,cells,e,by rw[hl],Z,by rw[hl];exact hle,F,.inl ⟨n,Z,by rw[hl];omega,Q⟩,by rw[hl];omega⟩,fun {P ev t x hi kk} hu hj hx C=>?_⟩;obtain⟨j,z,rfl⟩:=oM_.1 hj;have:da ev l.length n none (some hi)=some (0,k):=oH C B;simp only[fo,hu,hx,cutAt,this,cut,z];cases hn:Nat.beq n 0 with
  | true=>simp
  | false=>simp
 refine⟨.slice b 0 k (.upto m),.inr ⟨b,.upto m,cells,e,by rw[hl],Z,by rw[hl];exact hle,F,.inr ⟨Z,Z⟩,by rw[hl];omega⟩,fun {P ev t x hi kk} hu hj hx C=>?_⟩;obtain⟨j,z,rfl⟩:=oM_.1 hj;have:da ev l.length l.length none (some hi)=some (0,k):=oH C hk;simp only[fo,hu,hx,this,z,show Nat.beq j.size j.size=true from Nat.beq_refl _,cond_true,Nat.zero_mul,Nat.sub_zero,Nat.add_zero]
theorem nt.bG {α:Type} {m E:Nat} {R:α->List V->Prop} {l:List α} {u:V} {M:Own} (h:nt m E R l u M):l.length<=1048576:=by
 rcases h with ⟨rfl,_⟩ | ⟨_,_,_,_,_,_,_,_,_,h⟩
 ·exact Nat.zero_le _
 exact h
theorem Jb {l:List Nat} {i n:Nat} (h:l[i]?=some n):(l.map Int.ofNat)[i]?=some (.ofNat n):=by rw[gM_,h];rfl
theorem iC (l:List Nat):(l.map Int.ofNat).length=l.length:=lM_ ..
theorem Fp {l:List Nat} {a:Nat} (h:l.getLast?=some a):l[l.length-1]?=some a:=by rw[<-List.getLast?_eq_getElem?];exact h
theorem zh (l:List Nat):(l.map Int.ofNat).take (l.length-1)=l.dropLast.map Int.ofNat:=by rw[List.dropLast_eq_take,List.map_take]
theorem Ca (x:XI) (a:Nat):(gN x a).length<=2:=by
 unfold gN;exact cond_ind2 _ (by simp)<|cond_ind2 _ (by simp)<|cond_ind2 _ (by simp)<|cond_ind2 _ (by simp) (by simp)
where
 cond_ind2 {a b:List Int} (c:Bool) (h1:a.length<=2) (h0:b.length<=2):(bif c then a else b).length<=2:=by cases c;exact h0;exact h1
theorem qT {c:XC} {a:Nat} {x:XI} (h:c.ins[a]?=some x):(dj c a).length=(gN x a).length:=by unfold dj;rw[h];simp
theorem IX {c:XC} {a g:Nat} {x:XI} {to:Int} (h:c.ins[a]?=some x) (u:(gN x a)[g]?=some to):(dj c a)[g]?=some to.toNat:=by
 unfold dj;rw[h];show((gN x a).map Int.toNat)[g]?=_;rw[gM_,u];rfl
theorem IY {c:XC} {a g:Nat} {x:XI} (h:c.ins[a]?=some x) (u:(gN x a).length<=g):(dj c a)[g]?=none:=by
 rw[List.getElem?_eq_none_iff,qT h];exact u
theorem y6 {k:Nat} {c:XC} (hc:eX k c) {a g:Nat} {x:XI} {to:Int} (h:c.ins[a]?=some x) (C:(gN x a)[g]?=some to):∃t:Nat,to= .ofNat t/\t<c.ins.length/\(dj c a)[g]?=some t:=by
 have hlt:=(gA.1 h).1;have hN:=IX h C;have hm:=sT hc a hlt _ (gB_ hN);refine⟨to.toNat,?_,hm,hN⟩;have hx:=hc.right x (gB_ h);obtain⟨n,sh,hn,n1,z,u,E⟩:=iY hx;have hto:=(hJ E).to;have hmem:=gB_ C;unfold gN at hmem;rw[hn] at hmem;have tole:sh.to=true->0<=x.to/\x.to<(c.ins.length:Int):=fun e=>by rw[e] at hto;exact lA hto
 have nn:∀y:Int,0<=y->y= .ofNat y.toNat:=fun y hy=>by show y=((y.toNat:Nat):Int);omega
 match n,n1,z with
 | 1,_,_ | 2,_,_ | 3,_,_ | 4,_,_ | 5,_,_ | 6,_,_ | 7,_,_ | 8,_,_ | 9,_,_=>
  have e:to= .ofNat (a+1):=List.mem_singleton.1 (show to∈[Int.ofNat (a+1)] from hmem);rw[e];rfl
 | 10,_,_=>
  have e:to=x.to:=List.mem_singleton.1 (show to∈[x.to] from hmem);have:=tole (by cases u;rfl);rw[e];exact nn _ this.1
 | 11,_,_=>
  have e:to= .ofNat (a+1)∨to=x.to:=by have h2:to∈[Int.ofNat (a+1),x.to]:=hmem;simpa using h2
  have:=tole (by cases u;rfl);rcases e with e | e
  ·rw[e];rfl
  rw[e];exact nn _ this.1
 | 12,_,_ | 13,_,_=>exact absurd (show to∈([]:List Int) from hmem) (by simp)
theorem CM {c:XC}:total (dj c) c.ins.length<=2*c.ins.length:=by
 have h:∀(l:List Nat),(l.map fun i=>(dj c i).length).sum<=2*l.length:=by
  intro l;induction l with
  | nil=>simp
  | cons i l ih=>
   simp only[List.map_cons,List.sum_cons,List.length_cons]
   have:(dj c i).length<=2:=by
    cases hx:c.ins[i]? with
    | none=>unfold dj;rw[hx];simp
    | some x=>rw[qT hx];exact Ca x i
   omega
 have:=h (List.range c.ins.length);rwa[List.length_range] at this
theorem KD {nx:Nat->List Nat} {f:Nat} {s:DS} (h:s.path.length=0):xV nx (f+1) s=some s.out:=by
 unfold xV;rw[eN_ h];rfl
theorem wc {nx:Nat->List Nat} {f a:Nat} {s s':DS} (h:s.path.getLast?=some a) (u:ku nx s a=some s'):xV nx (f+1) s=xV nx f s':=by
 conv=>lhs;unfold xV
 rw[h];dsimp only;rw[u];rfl
theorem H6 {nx:Nat->List Nat} {f a:Nat} {s:DS} (h:s.path.getLast?=some a) (u:ku nx s a=none):xV nx (f+1) s=none:=by
 conv=>lhs;unfold xV
 rw[h];dsimp only;rw[u];rfl
theorem Gr {nx:Nat->List Nat} {s:DS} {a g:Nat} (u:s.gone[a]?=some g) (hn:(nx a)[g]?=none):ku nx s a=some {s with st:=s.st.set a 2,out:=s.out++[a],path:=s.path.dropLast}:=by
 unfold ku;rw[u];simp only[Option.getD_some];rw[hn]
theorem Dy {nx:Nat->List Nat} {s:DS} {a g to:Nat} (u:s.gone[a]?=some g) (hn:(nx a)[g]?=some to) (hv:s.st[to]?=some 2):ku nx s a=some {s with gone:=s.gone.set a (g+1)}:=by
 unfold ku;rw[u];simp only[Option.getD_some];rw[hn];dsimp only;rw[hv];rfl
theorem Dw {nx:Nat->List Nat} {s:DS} {a g to:Nat} (u:s.gone[a]?=some g) (hn:(nx a)[g]?=some to) (hv:s.st[to]?=some 1):ku nx s a=none:=by
 unfold ku;rw[u];simp only[Option.getD_some];rw[hn];dsimp only;rw[hv];rfl
theorem Dx {nx:Nat->List Nat} {s:DS} {a g to v:Nat} (u:s.gone[a]?=some g) (hn:(nx a)[g]?=some to) (hv:s.st[to]?=some v) (h2:v≠2) (h1:v≠1):ku nx s a=some {s with gone:=s.gone.set a (g+1),st:=s.st.set to 1,path:=s.path++[to]}:=by
 unfold ku;rw[u];simp only[Option.getD_some];rw[hn];dsimp only;rw[hv];simp only[Option.getD_some];rw[if_neg h2,if_neg h1]
theorem DC {a b:Nat} (h:I (.ofNat a) (.ofNat b)=false):a≠b:=fun e=>by rw[e,fv] at h;simp at h
theorem LQ {P:Program} {G:Cx} {ev:Operand->Option V} {U:D} {s d:TypeId} {e:Nat} {x:Operand} {l:List Nat} (hk:kindOf P (.convert s d x)= .jW) (u:P.underlying s=some .string) (z:P.underlying d=some (.slice e)) (he:P.underlying e=some (.int .u8)) (hc:Nat.beq (P.cellsOf e) 1=true) (hx:ev x=some (.str l)):
  dW P G ev U (.convert s d x)= .val (.slice U.next 0 (cX l) (.upto 1)) (U.alloc (.row (l.map gS) e true)):=by
 refine kZ hk ?_;have hm:yd (fun c=>V.int .u8 (Int.ofNat c)) l=l.map gS:=lY _ _;simp only[gz,hx,mr,u,z,he,hc,cond_true,hm]
theorem H7 {s:List Nat} {i m c n:Nat} (h:ny (s.drop i) m=some n) (hc:s[i]?=some c):(48<=c/\c<=57)/\ny (s.drop (i+1)) (10*m+(c-48))=some n:=by
 by_cases u:48<=c/\c<=57
 ·exact⟨u,by rw[<-pQ hc u];exact h⟩
 rw[lS hc u] at h;cases h
theorem xp {s:List Nat} {n:Nat} (h:iG s=some n):0<s.length/\s.length<=4/\ny s 0=some n:=by
 unfold iG at h;split at h
 ·cases h
 rename_i hh;exact⟨by omega,by omega,h⟩
theorem H8 {c m:Nat} (h:48<=c/\c<=57) (hm:m<=100000):wr .i64 (Int.add (wr .i64<|Int.mul (.ofNat m) 10)<|wr .i64<|wr .u8<|Int.sub (.ofNat c) 48)= .ofNat (10*m+(c-48)):=by
 have e1:Int.sub (.ofNat c) 48= .ofNat (c-48):=by show(c:Int)-48=((c-48:Nat):Int);omega
 have z:Int.mul (.ofNat m) 10= .ofNat (10*m):=by show(m:Int)*10=((10*m:Nat):Int);omega
 have A:wr .u8 (.ofNat (c-48))= .ofNat (c-48):=by
  show(bif Nat.ble (c-48) 255 then _ else _)=_;rw[show Nat.ble (c-48) 255=true by rw[nE_];omega];rfl
 have u:∀q:Nat,q<=9223372036854775807->wr .i64 (.ofNat q)= .ofNat q:=fun q hq=>by
  show(bif Nat.ble q 9223372036854775807 then _ else _)=_;rw[show Nat.ble q 9223372036854775807=true by rw[nE_];exact hq];rfl
 rw[e1,z,A,u _ B,u _ B];show wr .i64 (.ofNat (10*m+(c-48)))=_;exact u _ B
theorem ML {c:Nat} (h:48<=c/\c<=57):bU 9 (wr .u8<|Int.sub (.ofNat c) 48)=false:=by
 have e1:Int.sub (.ofNat c) 48= .ofNat (c-48):=by show(c:Int)-48=((c-48:Nat):Int);omega
 have u:wr .u8 (.ofNat (c-48))= .ofNat (c-48):=by
  show(bif Nat.ble (c-48) 255 then _ else _)=_;rw[show Nat.ble (c-48) 255=true by rw[nE_];omega];rfl
 rw[e1,u,eP,decide_eq_false_iff_not];show¬(9:Int)<((c-48:Nat):Int);omega
def nf {α:Type} (f:α->Int) (l:List α) (i:Nat):List Int:=(l.take i).map f++List.replicate (l.length-i) 0
theorem wq {α:Type} (f:α->Int) (l:List α):nf f l 0=List.replicate l.length 0:=by unfold nf;simp
theorem yN {α:Type} {f:α->Int} {l:List α} {i:Nat} (h:l.length<=i):nf f l i=l.map f:=by unfold nf;rw[tL_ h,show l.length-i=0 by omega];simp
theorem qK {α:Type} {f:α->Int} {l:List α} {i:Nat} (h:i<=l.length):(nf f l i).length=l.length:=by unfold nf;rw[lA_,lM_,lT_,List.length_replicate];omega
theorem yO {α:Type} {f:α->Int} {l:List α} {i:Nat} {x:α} (h:l[i]?=some x):(nf f l i).set i (f x)=nf f l (i+1):=by
 have hlt:=(gA.1 h).1;unfold nf;have u:((l.take i).map f).length=i:=by rw[lM_,lT_];omega
 rw[List.set_append_right _ _ B,u,Nat.sub_self,show l.length-i=(l.length-(i+1))+1 by omega,List.replicate_succ,List.set_cons_zero,List.take_add_one,h,List.map_append];simp
theorem J.Ie {U:D} {K:KP} {x y:Nat×cG} {L:Own} (h:J U K (x::y::L)):J U K (x::L):=(h.perm<|List.Perm.swap ..).pop
theorem ey.mono {K K':KP} (hk:KP.le K K'):∀{k:Nat} {x:XE} {vs:List V},ey K k x vs->ey K' k x vs
 | 0,x,_,h=>by cases x;exact h.elim
 | k+1,.mk _ _ _ _,_,⟨v,h1,h2⟩=>⟨v,h1,h2.mono hk fun _ _ h=>ey.mono hk h⟩
theorem iI.mono {K K':KP} (hk:KP.le K K') {k:Nat} {x:XI} {vs:List V} (h:iI K k x vs):iI K' k x vs:=let ⟨v,h1,h2⟩:=h;⟨v,h1,h2.mono hk fun _ _ h=>h.mono hk⟩
theorem mY.mono {K K':KP} (hk:KP.le K K') {k:Nat} {x:XC} {vs:List V} (h:mY K k x vs):mY K' k x vs:=let ⟨v,h1,h2⟩:=h;⟨v,h1,h2.mono hk fun _ _ h=>h.mono hk⟩
theorem oJ {K K':KP} (hk:KP.le K K') {k:Nat} {l:List XI} {v:V} (h:bR K 6 (iI K k) l v):bR K' 6 (iI K' k) l v:=h.mono hk fun _ _ h=>h.mono hk
theorem kG {K K':KP} (hk:KP.le K K') {k:Nat} {l:List XE} {v:V} (h:bR K 4 (ey K k) l v):bR K' 4 (ey K' k) l v:=h.mono hk fun _ _ h=>h.mono hk
theorem kE {P:Program} {G:Cx} {f:Nat} {args:List V} {U:D} {K:KP} {M L:Own} {u:V} (h0:J U K (M++L)) (h:bk P G f args U fun v U'=>v=u/\J U' (K.ic M) L):bk P G f args U fun v U'=>v=u/\J U' K (M++L):=
 h.mono fun _ _ ⟨a,b⟩=>⟨a,h0.tk b⟩
theorem Bh (b o:Nat):dX (.ptr b o) (.ptr b o)=true:=by
 unfold dX;show(dX.beqP b b && Nat.beq o o)=true;rw[show dX.beqP b b=true from Nat.beq_refl b,Nat.beq_refl];rfl
abbrev HE (c:XC) (cv:V) (s:TS) (rb:Nat) (ev:V):List V:=[.int .i64 c.aY,cv,.int .i64 (.ofNat s.at_),.slice rb 0 s.aY.length (.known s.aY.length),ev,.int .i64 (.ofNat s.asked),.int .i64 s.fin,.bool s.asks]
theorem lV {aY nins:Int} {k n:Nat} {x:XI} (h:fF aY nins k x=true) (hn:x.kind= .ofNat n) (h1:n=1∨n=3∨n=4∨n=5∨n=6∨n=8∨n=9∨n=11):∃e,x.exprs[0]?=some e/\ea aY k e=true:=by
 obtain⟨m,sh,hm,_,_,u,hr⟩:=iY h;have hr:=hJ hr;have:m=n:=iJ_ (hm.symm.trans hn);subst this
 have hl:0<x.exprs.length:=by
  rw[hr.exprs];rcases h1 with h1 | h1 | h1 | h1 | h1 | h1 | h1 | h1<;>subst h1<;>cases u<;>decide
 exact⟨x.exprs[0],gC hl,hr.all _<|List.getElem_mem hl⟩
theorem Ah {aY nins:Int} {k n:Nat} {x:XI} (h:fF aY nins k x=true) (hn:x.kind= .ofNat n) (h1:n=1∨n=2∨n=4∨n=5∨n=6):∃r:Nat,x.pc= .ofNat r/\(r:Int)<aY:=by
 obtain⟨m,sh,hm,_,_,u,hr⟩:=iY h;have hr:=hJ hr;have:m=n:=iJ_ (hm.symm.trans hn);subst this
 have z:sh.pc=true:=by
  rcases h1 with h1 | h1 | h1 | h1 | h1<;>subst h1<;>cases u<;>rfl
 have:=hr.pc;rw[z] at this;obtain⟨w1,w2⟩:=lA this;exact⟨x.pc.toNat,by show x.pc=((x.pc.toNat:Nat):Int);omega,by omega⟩
theorem FV {aY:Int} {m k n:Nat} {x:XI} (h:fF aY (.ofNat m) k x=true) (hn:x.kind= .ofNat n) (h1:n=10∨n=11):∃r:Nat,x.to= .ofNat r/\r<m:=by
 obtain⟨q,sh,hm,_,_,u,hr⟩:=iY h;have hr:=hJ hr;have:q=n:=iJ_ (hm.symm.trans hn);subst this;have A:sh.to=true:=by rcases h1 with h1 | h1<;>subst h1<;>cases u<;>rfl
 have:=hr.to;rw[A] at this;obtain⟨w1,z⟩:=lA this;have z:x.to<(m:Int):=z;exact⟨x.to.toNat,by show x.to=((x.to.toNat:Nat):Int);omega,by omega⟩
theorem fj {k i:Nat} {aY:List Int} {x:XI} {e:XE} (h:x.exprs[i]?=some e):fI k aY x i=eJ aY k e:=by unfold fI;rw[h];rfl
theorem sL {k i:Nat} {aY:List Int} {x:XI} (h:x.exprs.length<=i):fI k aY x i=0:=by unfold fI;rw[gN_ h];rfl
end Go.Ev
namespace Go.Ev
variable [Env]
open Go.Proofs
set_option maxRecDepth 4000
set_option maxHeartbeats 8000000
theorem MI {G:Cx} (M:Plain G) {K:KP} (op:Int) {U:D} {L:Own} (aq:J U K L):bk Tryz.prog G 260 [.int .i64 op] U fun v U'=>v= .int .i64 (rK op)/\J U' K L:=by
 refine PS M Tryz.func260 Z<|OH 7 Z<|Pt 4 Z<|ky Z (an Z) (fun C=>?_) (fun C=>?_)
 ·refine Px 13 Z<|aF<|aw (?_);exact aA Z Z ⟨cJ (by unfold rK aX;simp only[C,ct,cf]<;>rfl),aq⟩
 refine Pv 6 Z<|aE Z (fun E=>?_) (fun E=>?_)
 ·refine PX 6 Z<|aF<|aw (?_);exact aA Z Z ⟨cJ (by unfold rK aX;simp only[C,E,ct,cf]<;>rfl),aq⟩
 refine Pt 4 Z<|ky Z (an Z) (fun u=>?_) (fun u=>?_)
 ·refine Px 13 Z<|aF<|aw (?_);exact aA Z Z ⟨cJ (by unfold rK aX;simp only[C,E,u,ct,cf]<;>rfl),aq⟩
 refine Pv 6 Z<|aE Z (fun z=>?_) (fun z=>?_)
 ·refine PX 6 Z<|aF<|aw (?_);exact aA Z Z ⟨cJ (by unfold rK aX;simp only[C,E,u,z,ct,cf]<;>rfl),aq⟩
 refine Pt 4 Z<|ky Z (an Z) (fun A=>?_) (fun A=>?_)
 ·refine Pv 6 Z<|aE Z (fun F=>?_) (fun F=>?_)
  ·refine PX 6 Z<|aF<|aw (?_);exact aA Z Z ⟨cJ (by unfold rK aX;simp only[C,E,u,z,A,F,ct,cf]<;>rfl),aq⟩
  refine aG<|aJ<|PX 6 Z ?_;exact aA Z Z ⟨cJ (by unfold rK aX;simp only[C,E,u,z,A,F,ct,cf]<;>rfl),aq⟩
 refine OP 9 Z<|PX 6 Z ?_;exact aA Z Z ⟨cJ (by unfold rK aX;simp only[C,E,u,z,A,ct,cf]<;>rfl),aq⟩
theorem H0 {G:Cx} (A:Plain G) {K:KP} (c:Nat) {U:D} {L:Own} (aq:J U K L):bk Tryz.prog G 283 [.int .u8 (.ofNat c)] U fun v U'=>v= .bool (zX c)/\J U' K L:=by
 refine PS A Tryz.func283 Z<|Pt 9 Z<|ky Z (an Z) (fun h5=>?_) (fun h5=>?_)
 ·refine PZ 3 Z<|ky Z (an Z) (fun z=>?_) (fun z=>?_)
  ·refine Px 11 Z ?_;exact aA Z Z ⟨congrArg (V.bool) (by unfold zX aX;simp only[h5,z,ct,cf]<;>rfl),aq⟩
  refine PZ 2 Z<|ky Z (an Z) (fun u=>?_) (fun u=>?_)
  ·refine Px 8 Z ?_;exact aA Z Z ⟨congrArg (V.bool) (by unfold zX aX;simp only[h5,z,u,ct,cf]<;>rfl),aq⟩
  refine Px 8 Z ?_;exact aA Z Z ⟨congrArg (V.bool) (by unfold zX aX;simp only[h5,z,u,ct,cf]<;>rfl),aq⟩
 refine PZ 6 Z<|ky Z (an Z) (fun u=>?_) (fun u=>?_)
 ·refine Px 8 Z ?_;exact aA Z Z ⟨congrArg (V.bool) (by unfold zX aX;simp only[h5,u,ct,cf]<;>rfl),aq⟩
 refine Px 8 Z ?_;exact aA Z Z ⟨congrArg (V.bool) (by unfold zX aX;simp only[h5,u,ct,cf]<;>rfl),aq⟩
theorem Kx {G:Cx} (u:Plain G) {K:KP} (c:Nat) {U:D} {L:Own} (aq:J U K L):bk Tryz.prog G 284 [.int .u8 (.ofNat c)] U fun v U'=>v= .bool (Gn c)/\J U' K L:=by
 refine PS u Tryz.func284 Z<|Pt 9 Z<|ky Z (an Z) (fun h5=>?_) (fun h5=>?_)
 ·refine Px 7 Z ?_;exact aA Z Z ⟨congrArg (V.bool) (by unfold Gn aX;simp only[h5,ct,cf]<;>rfl),aq⟩
 refine Px 7 Z ?_;exact aA Z Z ⟨congrArg (V.bool) (by unfold Gn aX;simp only[h5,ct,cf]<;>rfl),aq⟩
theorem ll {G:Cx} (C:Plain G) {K:KP} (x:Int) {U:D} {L:Own} (aq:J U K L):bk Tryz.prog G 230 [.int .i64 x] U fun v U'=>v= .bool (rk x)/\J U' K L:=by
 refine PS C Tryz.func230 Z<|Pt 9 Z<|ky Z (an Z) (fun h5=>?_) (fun h5=>?_)
 ·refine Px 19 Z ?_;exact aA Z Z ⟨congrArg (V.bool) (by unfold rk;simp only[h5,ct,cf]<;>rfl),aq⟩
 refine PZ 3 Z<|ky Z (an Z) (fun A=>?_) (fun A=>?_)
 ·refine Px 15 Z ?_;exact aA Z Z ⟨congrArg (V.bool) (by unfold rk;simp only[h5,A,ct,cf]<;>rfl),aq⟩
 refine PZ 3 Z<|ky Z (an Z) (fun u=>?_) (fun u=>?_)
 ·refine Px 11 Z ?_;exact aA Z Z ⟨congrArg (V.bool) (by unfold rk;simp only[h5,A,u,ct,cf]<;>rfl),aq⟩
 refine PZ 3 Z<|ky Z (an Z) (fun z=>?_) (fun z=>?_)
 ·refine Px 7 Z ?_;exact aA Z Z ⟨congrArg (V.bool) (by unfold rk;simp only[h5,A,u,z,ct,cf]<;>rfl),aq⟩
 refine Px 7 Z ?_;exact aA Z Z ⟨congrArg (V.bool) (by unfold rk;simp only[h5,A,u,z,ct,cf]<;>rfl),aq⟩
theorem Ky {G:Cx} (hG:Plain G) {K:KP} (x:Int) {U:D} {L:Own} (aq:J U K L):bk Tryz.prog G 231 [.int .i64 x] U fun v U'=>v= .int .i64 (gy x)/\J U' K L:=by
 refine PS hG Tryz.func231 Z<|OH 12 Z<|OI 3 Z<|ky Z (az Z Z Z) (fun h5=>?_) (fun h5=>?_)
 ·refine OQ 13 Z<|aF<|aw (?_);exact aA Z Z ⟨cJ (by unfold gy;simp only[h5,ct,cf]<;>rfl),aq⟩
 refine OO 6 Z<|ky Z (az Z Z Z) (fun E=>?_) (fun E=>?_)
 ·refine OQ 13 Z<|aF<|aw (?_);exact aA Z Z ⟨cJ (by unfold gy;simp only[h5,E,ct,cf]<;>rfl),aq⟩
 refine OO 6 Z<|ky Z (az Z Z Z) (fun F=>?_) (fun F=>?_)
 ·refine OQ 13 Z<|aF<|aw (?_);exact aA Z Z ⟨cJ (by unfold gy;simp only[h5,E,F,ct,cf]<;>rfl),aq⟩
 refine OO 6 Z<|ky Z (az Z Z Z) (fun Q=>?_) (fun Q=>?_)
 ·refine OQ 13 Z<|aF<|aw (?_);exact aA Z Z ⟨cJ (by unfold gy;simp only[h5,E,F,Q,ct,cf]<;>rfl),aq⟩
 refine OO 6 Z<|ky Z (az Z Z Z) (fun R=>?_) (fun R=>?_)
 ·refine OQ 13 Z<|aF<|aw (?_);exact aA Z Z ⟨cJ (by unfold gy;simp only[h5,E,F,Q,R,ct,cf]<;>rfl),aq⟩
 refine OO 6 Z<|ky Z (az Z Z Z) (fun u=>?_) (fun u=>?_)
 ·refine OQ 13 Z<|aF<|aw (?_);exact aA Z Z ⟨cJ (by unfold gy;simp only[h5,E,F,Q,R,u,ct,cf]<;>rfl),aq⟩
 refine Pw 5 Z<|ky Z (az Z Z Z) (fun z=>?_) (fun z=>?_)
 ·refine Px 10 Z<|aF<|aw (?_);exact aA Z Z ⟨cJ (by unfold gy;simp only[h5,E,F,Q,R,u,z,ct,cf]<;>rfl),aq⟩
 refine OO 6 Z<|ky Z (az Z Z Z) (fun A=>?_) (fun A=>?_)
 ·refine Px 10 Z<|aF<|aw (?_);exact aA Z Z ⟨cJ (by unfold gy;simp only[h5,E,F,Q,R,u,z,A,ct,cf]<;>rfl),aq⟩
 refine On 7 Z<|ky Z (az Z Z Z) (fun C=>?_) (fun C=>?_)
 ·refine OQ 13 Z<|aF<|aw (?_);exact aA Z Z ⟨cJ (by unfold gy;simp only[h5,E,F,Q,R,u,z,A,C,ct,cf]<;>rfl),aq⟩
 refine OO 6 Z<|ky Z (az Z Z Z) (fun M=>?_) (fun M=>?_)
 ·refine OQ 13 Z<|aF<|aw (?_);exact aA Z Z ⟨cJ (by unfold gy;simp only[h5,E,F,Q,R,u,z,A,C,M,ct,cf]<;>rfl),aq⟩
 refine OO 6 Z<|ky Z (az Z Z Z) (fun W=>?_) (fun W=>?_)
 ·refine OQ 13 Z<|aF<|aw (?_);exact aA Z Z ⟨cJ (by unfold gy;simp only[h5,E,F,Q,R,u,z,A,C,M,W,ct,cf]<;>rfl),aq⟩
 refine OO 6 Z<|ky Z (az Z Z Z) (fun X=>?_) (fun X=>?_)
 ·refine OQ 13 Z<|aF<|aw (?_);exact aA Z Z ⟨cJ (by unfold gy;simp only[h5,E,F,Q,R,u,z,A,C,M,W,X,ct,cf]<;>rfl),aq⟩
 refine Pw 5 Z<|ky Z (az Z Z Z) (fun aa=>?_) (fun aa=>?_)
 ·refine Px 10 Z<|aF<|aw (?_);exact aA Z Z ⟨cJ (by unfold gy;simp only[h5,E,F,Q,R,u,z,A,C,M,W,X,aa,ct,cf]<;>rfl),aq⟩
 refine OP 6 Z<|PX 6 Z ?_;exact aA Z Z ⟨cJ (by unfold gy;simp only[h5,E,F,Q,R,u,z,A,C,M,W,X,aa,ct,cf]<;>rfl),aq⟩
theorem Dt {G:Cx} (z:Plain G) {K:KP} (x:Int) {U:D} {L:Own} (aq:J U K L):bk Tryz.prog G 232 [.int .i64 x] U fun v U'=>v= .bool (lz x)/\J U' K L:=by
 refine PS z Tryz.func232 Z<|Pt 9 Z<|ky Z (an Z) (fun h5=>?_) (fun h5=>?_)
 ·refine Px 11 Z ?_;exact aA Z Z ⟨congrArg (V.bool) (by unfold lz aX;simp only[h5,ct,cf]<;>rfl),aq⟩
 refine vQ 1 Z<|bf Z (Qz Z Z Z) (fun _=>Z) (ll z _ aq) (fun U aq=>?_);refine ky Z (an Z) (fun u=>?_) (fun u=>?_)
 ·refine Px 8 Z ?_;exact aA Z Z ⟨congrArg (V.bool) (by unfold lz aX;simp only[h5,u,ct,cf]<;>rfl),aq⟩
 refine Px 8 Z ?_;exact aA Z Z ⟨congrArg (V.bool) (by unfold lz aX;simp only[h5,u,ct,cf]<;>rfl),aq⟩
theorem IL {K:KP} {b e:Nat} (h:K b (.row (pz.map V.str) e false)):bR K 1 fZ pz (.slice b 0 20 (.known 20)):=by
 refine .inr ⟨b,0,.known 20,_,e,false,Z,.inr ⟨20,Z,by decide⟩,h,by decide,by decide,fun i x hx=>?_⟩;rw[nA_,Nat.mul_one];have:(pz.map V.str)[i]?=some (.str x):=by rw[gM_,hx];rfl
 rw[cR this];rfl
theorem MH {G:Cx} (u:Plain G) {K:KP} {U:D} {L:Own} (aq:J U K L):bk Tryz.prog G 287 [] U fun v U'=>∃M,bR (K.ic M) 1 fZ pz v/\J U' K (M++L):=by
 refine PS u Tryz.func287 Z<|Pt 7 Z<|gT aq Z (bY (e:=9) (m:=1) (z:=[.str []]) (cs:=pz.map V.str) Y Y Y Y (by rfl)) (fun _=>Z) (fun U A aq=>?_);refine Px 4 Z ?_;exact aA Z Z ⟨[(A,.row (pz.map V.str) 9 false)],IL (.inr (.head _)),aq⟩
theorem MJ {G:Cx} (R:Plain G) {K:KP} (s:List Nat) {U:D} {L:Own} (aq:J U K L):bk Tryz.prog G 285 [.str s] U fun v U'=>v= .int .i64 (bif isKey s then 2 else 1)/\J U' K L:=by
 refine PS R Tryz.func285 Z<|Pt 7 Z<|cH Z (Qz Z Z Z) (fun _=>Z) (MH R aq) ?_;rintro u U ⟨M,hk,aq⟩;replace aq:=aq.keeps;have am:pz.length=20:=rfl;refine Om 10 Z ?_;obtain⟨LL1,aq,hLL1⟩:=aq.named;refine bp ([2,4]++rg 6 12) (fun j t U=>∃(i:Nat),j+i=pz.length/\(pz.take i).any (fun k=>gL k s)=false/\t.get 4=some (.int .i64 (.ofNat i))/\J U (K.ic M) LL1) (pz.length) ⟨0,Z,Z,Z,aq⟩ ?_;clear aq;intro X t U ar hI;obtain⟨i,hj,W,F,aq⟩:=hI;subst hLL1;obtain⟨oo,rfl⟩:=ar.q1 F Z;refine OI 5 Z<|O Z (QD hk Z Z Z (e:=9) Z) Z<|Pv 3 Z<|aE Z (fun Q=>?_) (fun Q=>?_)
 ·refine NP 8 Z ?_;obtain⟨ao,z,aa⟩:=cL Q;refine Qu (e:=9) (m:=1) hk z Z Z Z Z (fun ap ab C ac E=>?_);obtain rfl:=E;refine O Z (QF aq C Z Z) Z<|Pv 4 Z<|aE Z (fun A=>?_) (fun A=>?_)
  ·refine PX 6 Z<|aF<|aw<|bz<|aF<|aw (?_);exact aA Z Z ⟨cJ (by rw[show isKey s=true from Dd z A];rfl),aq.weaken<|KP.bX _ _⟩
  refine aG<|aJ<|PW 5 Z<|aO ⟨X-1,by omega,oF,i+1,by omega,vL W z A,cI<|bg B,aq⟩
 refine OL 3 Z<|aT<|PX 6 Z ?_;exact aA Z Z ⟨cJ (by rw[show isKey s=false from lO W (bC Q)];rfl),aq.weaken<|KP.bX _ _⟩
theorem LY {s:List Nat} {U:D} {K:KP} {L:Own} (h:dK true s=false) (aq:J U K L):∃m,V.tuple [T,.bool false]= .tuple [.int .i64 m,.bool (bif dK true s then aX (gL s []) else false)]/\(gL s []=false->dK true s=true->m=bif isKey s then 2 else 1)/\J U K L:=by
 rw[h];exact⟨_,Z,(fun _ h=>by cases h),aq⟩
theorem My {s:List Nat} {U:D} {K:KP} {L:Own} (h:gL s []=true) (aq:J U K L):∃m,V.tuple [T,.bool false]= .tuple [.int .i64 m,.bool (bif dK true s then aX (gL s []) else false)]/\(gL s []=false->dK true s=true->m=bif isKey s then 2 else 1)/\J U K L:=by
 rw[h];exact⟨_,(by cases dK true s<;>rfl),(fun h=>by cases h),aq⟩
theorem Mz {s:List Nat} {U:D} {K:KP} {L:Own} (hc:dK true s=true) (h:gL s []=false) (aq:J U K L):∃m,V.tuple [.int .i64 (bif isKey s then 2 else 1),.bool true]= .tuple [.int .i64 m,.bool (bif dK true s then aX (gL s []) else false)]/\(gL s []=false->dK true s=true->m=bif isKey s then 2 else 1)/\J U K L:=by
 rw[h,hc];exact⟨_,Z,fun _ _=>Z,aq⟩
theorem Kw {G:Cx} (Q:Plain G) {K:KP} (s:List Nat) (hlen:s.length<=9223372036854775807) {U:D} {L:Own} (aq:J U K L):bk Tryz.prog G 275 [.str s] U fun v U'=>∃m,v= .tuple [.int .i64 m,.bool (bif dK true s then aX (gL s []) else false)]/\(gL s []=false->dK true s=true->m=bif isKey s then 2 else 1)/\J U' K L:=by
 refine PS Q Tryz.func275 Z<|OH 13 Z ?_;obtain⟨LL1,aq,hLL1⟩:=aq.named;refine bp (rg 2 31) (fun j t U=>∃(i:Nat),j+i=cX s/\dK true s=dK (I (.ofNat i) 0) (s.drop i)/\t.get 4=some (.int .i64 (.ofNat i))/\J U K LL1) (cX s) ⟨0,Z,Z,Z,aq⟩ ?_;clear aq;intro R t U ar X;obtain⟨i,hj,he,W,aq⟩:=X;subst hLL1;obtain⟨oo,rfl⟩:=ar.q1 W Z;refine OI 5 Z<|O Z (ij Z Z Z Y Z) Z<|Pv 3 Z<|aE Z (fun A=>?_) (fun A=>?_)
 ·refine NP 8 Z ?_;obtain⟨aa,u⟩:=cm (show i<s.length from by have:=bu A;rwa[bK] at this);refine O Z (fw Y Z Z u) Z<|Fz Z (Qz Z Z Z) (fun _=>Z) (H0 Q _ aq) (fun z U aq=>?_) (fun z U aq=>?_)
  ·refine O Z (cV Z) Z (OP 22 Z (PW 5 Z (aO ⟨R-1,by have:=bu A;omega,oF,i+1,by have:=bu A;omega,he.trans<|r7 u (by unfold sG aX;simp only[z,ct,cf]<;>rfl),cI<|bg (by have:=bu A;rw[bK] at this;omega),aq⟩)))
  refine O Z (cV Z) Z<|PZ 3 Z<|ky Z (an Z) (fun C=>?_) (fun C=>?_)
  ·refine Px 23 Z<|aF<|aw<|bz<|aF<|aw (?_);exact bV Z Z Z<|LY (he.trans<|vV u (by unfold sG aX;simp only[z,C,ct,cf]<;>rfl)) aq
  refine PZ 2 Z<|O Z (fw Y Z Z u) Z<|Fz Z (Qz Z Z Z) (fun _=>Z) (Kx Q _ aq) (fun E U aq=>?_) (fun E U aq=>?_)
  ·refine O Z (cV Z) Z (OP 13 Z (PW 5 Z (aO ⟨R-1,by have:=bu A;omega,oF,i+1,by have:=bu A;omega,he.trans<|r7 u (by unfold sG aX;simp only[z,C,E,ct,cf]<;>rfl),cI<|bg (by have:=bu A;rw[bK] at this;omega),aq⟩)))
  refine O Z (cV Z) Z<|PZ 3 Z<|O Z (fw Y Z Z u) Z<|Pv 6 Z<|aE Z (fun F=>?_) (fun F=>?_)
  ·refine PX 7 Z<|aF<|aw<|bz<|aF<|aw (?_);exact bV Z Z Z<|LY (he.trans<|vV u (by unfold sG aX;simp only[z,C,E,F,ct,cf]<;>rfl)) aq
  refine aG (aJ (PW 5 Z (aO ⟨R-1,by have:=bu A;omega,oF,i+1,by have:=bu A;omega,he.trans<|r7 u (by unfold sG aX;simp only[z,C,E,F,ct,cf]<;>rfl),cI<|bg (by have:=bu A;rw[bK] at this;omega),aq⟩)))
 refine OL 3 Z<|aT<|Ps 7 Z<|aE Z (fun M=>?_) (fun M=>?_)
 ·refine Pu 8 Z ?_;exact bV Z Z Z<|My M aq
 refine OK 5 Z<|bf Z (Qz Z Z Z) (fun _=>Z) (MJ Q _ aq) (fun U aq=>?_);refine Px 5 Z ?_;exact bV Z Z Z<|Mz (he.trans<|Gh (by have:=bC A;rwa[bK] at this)) M aq
theorem JY {s:List Nat} {m:Int} (h:(bif dK true s then aX (gL s []) else false)=true) (hm:gL s []=false->dK true s=true->m=bif isKey s then 2 else 1):I m 1=km s:=by
 have h1:dK true s=true:=by cases hc:dK true s with | true=>rfl | false=>rw[hc] at h;cases h
 have h2:gL s []=false:=by rw[h1] at h;exact Oc.1 h
 rw[hm h2 h1];unfold km;rw[h1,h2];cases isKey s<;>rfl
theorem LP {s:List Nat} (h:(bif dK true s then aX (gL s []) else false)=false):false=km s:=by
 unfold km;cases hc:dK true s with
 | false=>rfl
 | true=>
  rw[hc] at h;rw[show gL s []=true from Qr.1 h];rfl
theorem MF {G:Cx} (z:Plain G) {K:KP} (s:List Nat) (hlen:s.length<=9223372036854775807) {U:D} {L:Own} (aq:J U K L):bk Tryz.prog G 261 [.str s] U fun v U'=>v= .bool (km s)/\J U' K L:=by
 refine PS z Tryz.func261 Z<|Pt 8 Z<|cH Z (Qz Z Z Z) (fun _=>Z) (Kw z _ hlen aq) ?_;rintro _ U ⟨m,rfl,hm,aq⟩;refine OO 10 Z<|ky Z (an Z) (fun u=>?_) (fun u=>?_)
 ·refine Px 7 Z ?_;exact aA Z Z ⟨cB<|JY u hm,aq⟩
 refine Px 7 Z ?_;exact aA Z Z ⟨cB<|LP u,aq⟩
theorem MK {G:Cx} (R:Plain G) {K:KP}:∀(k:Nat) (x:XE) (vs:List V),ey K k x vs->cU k x<=1000000->∀(U:D) (L:Own),J U K L->bk Tryz.prog G 227 [.agg vs] U fun v U'=>v= .int .i64 (.ofNat<|cU k x)/\J U' K L:=by
 intro k;induction k with
 | zero=>intro x vs h;cases x;exact h.elim
 | succ k ih=>
 intro x vs W Q U L aq;obtain⟨op,num,name,kids⟩:=x;obtain⟨v,rfl,hk⟩:=W;have Q:(kids.map<|cU k).sum+1<=1000000:=Q;refine PS R Tryz.func227 Z<|Pt 2 Z<|kp aq Z (cz Z Z) (fun U b1 aq=>?_);refine Om 15 Z ?_;obtain⟨LL1,aq,hLL1⟩:=aq.named;refine bp (rg 3 17) (fun j t U=>∃(i m:Nat),j+i=kids.length/\m=((kids.take i).map<|cU k).sum+1/\t.get 3=some (.int .i64 (.ofNat m))/\t.get 4=some (.int .i64 (.ofNat i))/\J U K LL1) (kids.length) ⟨0,1,Z,Z,Z,Z,aq⟩ ?_;clear aq;intro X t U ar hI;obtain⟨i,m,hj,hm,C,E,aq⟩:=hI;subst hLL1;obtain⟨oo,rfl⟩:=ar.q2 C E Z;refine OU aq 6 [3,0] Z Z<|O Z (QD hk Z Z Z (e:=82) Z) Z<|Pv 3 Z<|aE Z (fun F=>?_) (fun F=>?_)
 ·refine Oq aq 9 [3,0] Z Z ?_;obtain⟨M,u,aa⟩:=cL F;have hz16:=ma (f:=cU k) u;have hy16:=EC (f:=cU k) (l:=kids) (i:=i+1);rw[tf u] at hy16;refine Qu (e:=82) (m:=4) hk u Z Z Z Z (fun ao ab A ac z=>?_);obtain⟨ap,aI,aY,a0,rfl,am⟩:=z.shape;refine O Z (QG aq A Z Z) Z<|bf Z (Qz Z Z Z) (fun _=>Z) (ih _ _ z B _ _ aq) (fun U aq=>?_);refine PY 3 Z<|aJ<|PW 5 Z<|aO ⟨X-1,by omega,oF,i+1,m+cU k M,by omega,by rw[tf u];omega,cI<|F4 B,cI<|bg (by have:=hk.bG;omega),aq⟩
 refine OL 3 Z<|aT<|PX 7 Z ?_;exact aA Z Z ⟨cJ<|congrArg Int.ofNat (by show m=(kids.map<|cU k).sum+1;rw[hm,tL_<|bC F]),aq.pop⟩
theorem MG {G:Cx} (R:Plain G) {K:KP}:∀(k:Nat) (x:XE) (vs:List V),ey K k x vs->cU k x<=1000000->∀(U:D) (L:Own),J U K L->bk Tryz.prog G 228 [.agg vs] U fun v U'=>v= .int .i64 (.ofNat<|fN k x)/\J U' K L:=by
 intro k;induction k with
 | zero=>intro x vs h;cases x;exact h.elim
 | succ k ih=>
 intro x vs W Q U L aq;obtain⟨op,num,name,kids⟩:=x;obtain⟨v,rfl,hk⟩:=W;have Q:(kids.map<|cU k).sum+1<=1000000:=Q;refine PS R Tryz.func228 Z<|Pt 2 Z<|kp aq Z (cz Z Z) (fun U b1 aq=>?_);refine Om 15 Z ?_;obtain⟨LL1,aq,hLL1⟩:=aq.named;refine bp (rg 3 17) (fun j t U=>∃(i m:Nat),j+i=kids.length/\m=m4 ((kids.take i).map<|fN k)/\t.get 3=some (.int .i64 (.ofNat m))/\t.get 4=some (.int .i64 (.ofNat i))/\J U K LL1) (kids.length) ⟨0,0,Z,Z,Z,Z,aq⟩ ?_;clear aq;intro X t U ar hI;obtain⟨i,m,hj,hm,C,E,aq⟩:=hI;subst hLL1;obtain⟨oo,rfl⟩:=ar.q2 C E Z;refine OU aq 6 [3,0] Z Z<|O Z (QD hk Z Z Z (e:=82) Z) Z<|Pv 3 Z<|aE Z (fun F=>?_) (fun F=>?_)
 ·refine Oq aq 9 [3,0] Z Z ?_;obtain⟨M,u,aa⟩:=cL F;have hz16:=ma (f:=cU k) u;refine Qu (e:=82) (m:=4) hk u Z Z Z Z (fun ao ab A ac z=>?_);obtain⟨ap,aI,aY,a0,rfl,am⟩:=z.shape;refine O Z (QG aq A Z Z) Z<|bf Z (Qz Z Z Z) (fun _=>Z) (ih _ _ z B _ _ aq) (fun U aq=>?_);refine O Z (Mi Z Z Z Z) Z<|PY 2 Z<|aJ<|PW 5 Z<|aO ⟨X-1,by omega,oF,i+1,max m<|fN k M,by omega,by rw[IU u,<-hm],cI<|Fv _ _,cI<|bg (by have:=hk.bG;omega),aq⟩
 refine OL 3 Z<|aT<|PX 8 Z ?_;exact aA Z Z ⟨cJ (by show wr .i64 (Int.add (.ofNat m) (.ofNat 1))= .ofNat (m4 (kids.map<|fN k)+1);rw[hm,tL_<|bC F];exact F4 (by have:=yJ (k+1) (.mk op num name kids);have e:fN (k+1) (.mk op num name kids)=m4 (kids.map<|fN k)+1:=rfl;have e2:cU (k+1) (.mk op num name kids)=(kids.map<|cU k).sum+1:=rfl;omega)),aq.pop⟩
theorem H3 {G:Cx} (hG:Plain G) {K:KP}:∀(k:Nat) (x:XE) (vs:List V),ey K k x vs->jc k x->∀(U:D) (L:Own),J U K L->bk Tryz.prog G 229 [.agg vs] U fun v U'=>v= .bool (ec k x)/\J U' K L:=by
 intro k;induction k with
 | zero=>intro x vs h;cases x;exact h.elim
 | succ k ih=>
 intro x vs hE hF U L aq;obtain⟨op,num,name,kids⟩:=x;obtain⟨v,rfl,hk⟩:=hE;refine PS hG Tryz.func229 Z<|Pt 2 Z<|kp aq Z (cz Z Z) (fun U b1 aq=>?_);refine ON 4 Z (ak (aS (l:=[(0,[]),(1,[]),(3,[]),(4,[]),(5,[]),(2,[4]),(6,[]),(7,[]),(8,[]),(9,[]),(10,[]),(11,[]),(12,[]),(13,[9]),(14,[]),(15,[]),(16,[]),(17,[]),(18,[]),(19,[]),(20,[]),(21,[]),(22,[]),(23,[]),(24,[]),(25,[]),(26,[]),(27,[]),(28,[]),(29,[]),(30,[]),(31,[]),(32,[]),(33,[]),(34,[]),(35,[]),(36,[]),(37,[]),(38,[]),(39,[]),(40,[])]) Y Y<|P4 aq 4 [0,0,3,0] Z Z<|al Z Z (QD hk Z Z Z (e:=82) Z) Z<|cA Z Z (Qz Z Z Z) (fun _=>Z) (MI hG _ aq) (fun U aq=>?_)));refine⟨(bB (bN Z Z Z Z Z (QB Z aq.g0 Z) hk.dX) aV),?_⟩;refine wQ 1 Z<|dZ Z Z (an Z) (fun _=>Z) (fun A=>?_) (fun A=>?_)
 ·refine P1 5 Z<|tM Z Z Z ⟨(bB (JJ Z Z) aV),?_⟩;refine OT 37 Z ?_;exact aA Z Z ⟨cB (by show _=(bif dQ op num name kids.length then kids.all (ec k) else false);rw[show dQ op num name kids.length=false from by unfold dQ aX;simp only[A,ct,cf]<;>rfl];rfl),aq.pop⟩
 refine P4 aq 5 [0,0,2,0] Z Z<|cA Z Z (Qz Z Z Z) (fun _=>Z) (MF hG _ hF.1 aq) (fun U aq=>?_);refine⟨(bB (bN Z Z Z Z Z (QB Z aq.g0 Z)<|jk _ _) aV),?_⟩;refine P1 2 Z<|dZ Z Z (an Z) (fun _=>Z) (fun C=>?_) (fun C=>?_)
 ·refine OT 34 Z ?_;exact aA Z Z ⟨cB (by show _=(bif dQ op num name kids.length then kids.all (ec k) else false);rw[show dQ op num name kids.length=false from by unfold dQ aX;simp only[A,C,ct,cf]<;>rfl];rfl),aq.pop⟩
 refine P4 aq 3 [0,0] Z Z<|dZ Z Z (an Z) (fun _=>Z) (fun Q=>?_) (fun Q=>?_)
 ·refine P4 aq 5 [2,0] Z Z<|dZ Z Z (an Z) (fun _=>Z) (fun aa=>?_) (fun aa=>?_)
  ·refine OT 24 Z ?_;exact aA Z Z ⟨cB (by show _=(bif dQ op num name kids.length then kids.all (ec k) else false);rw[show dQ op num name kids.length=false from by unfold dQ aX;simp only[A,C,Q,show(bif gL name [] then false else true)=true from aa,ct,cf]<;>rfl];rfl),aq.pop⟩
  refine P4 aq 4 [1,0] Z Z<|dZ Z Z (an Z) (fun _=>Z) (fun E=>?_) (fun E=>?_)
  ·refine OT 19 Z ?_;exact aA Z Z ⟨cB (by show _=(bif dQ op num name kids.length then kids.all (ec k) else false);rw[show dQ op num name kids.length=false from by unfold dQ aX;simp only[A,C,Q,show(bif gL name [] then false else true)=false from aa,E,ct,cf]<;>rfl];rfl),aq.pop⟩
  refine P4 aq 3 [0,0] Z Z<|dZ Z Z (an Z) (fun _=>Z) (fun R=>?_) (fun R=>?_)
  ·refine P4 aq 5 [1,0] Z Z<|Py 2 Z<|aE Z (fun X=>?_) (fun X=>?_)
   ·refine Pu 7 Z ?_;exact aA Z Z ⟨cB (by show _=(bif dQ op num name kids.length then kids.all (ec k) else false);rw[show dQ op num name kids.length=false from by unfold dQ aX;simp only[A,C,Q,show(bif gL name [] then false else true)=false from aa,E,R,X,ct,cf]<;>rfl];rfl),aq.pop⟩
   refine Ok 9 Z ?_;obtain⟨LL1,aq,hLL1⟩:=aq.named;refine bp ([2,3]++rg 45 14) (fun j t U=>∃(i:Nat),j+i=kids.length/\(kids.take i).all (ec k)=true/\t.get 3=some (.int .i64 (.ofNat i))/\J U K LL1) (kids.length) ⟨0,Z,Z,Z,aq⟩ ?_;clear aq;intro j4 t U ar hI;obtain⟨i,hj,ha,ab,aq⟩:=hI;subst hLL1;obtain⟨oo,rfl⟩:=ar.q1 ab Z;refine OU aq 6 [3,0] Z Z<|O Z (QD hk Z Z Z (e:=82) Z) Z<|Pv 3 Z<|aE Z (fun F=>?_) (fun F=>?_)
   ·refine NQ aq 9 [3,0] Z Z ?_;obtain⟨aI,u,ac⟩:=cL F;refine Qu (e:=82) (m:=4) hk u Z Z Z Z (fun aY am W ao z=>?_);obtain⟨a0,a1,a2,a3,rfl,ap⟩:=z.shape;refine O Z (QG aq W Z Z) Z<|bf Z (Qz Z Z Z) (fun _=>Z) (ih _ _ z (hF.2 _<|gB_ u) _ _ aq) (fun U aq=>?_);refine O Z (cV Z) Z<|Pv 2 Z<|aE Z (fun M=>?_) (fun M=>?_)
    ·refine PX 6 Z<|aF<|aw<|bz<|aF<|aw (?_);exact aA Z Z ⟨cB (by show _=(bif dQ op num name kids.length then kids.all (ec k) else false);rw[show dQ op num name kids.length=true from by unfold dQ aX;simp only[A,C,Q,show(bif gL name [] then false else true)=false from aa,E,R,X,ct,cf]<;>rfl];rw[gG u<|bT M];rfl),aq.pop⟩
    refine aG<|aJ<|PW 5 Z<|aO ⟨j4-1,by omega,oF,i+1,by omega,eR ha u<|bj M,cI<|bg (by have:=hk.bG;omega),aq⟩
   refine OL 3 Z<|aT<|PX 6 Z ?_;exact aA Z Z ⟨cB (by show _=(bif dQ op num name kids.length then kids.all (ec k) else false);rw[show dQ op num name kids.length=true from by unfold dQ aX;simp only[A,C,Q,show(bif gL name [] then false else true)=false from aa,E,R,X,ct,cf]<;>rfl];rw[dR ha<|bC F];rfl),aq.pop⟩
  refine Py 8 Z<|Ok 9 Z ?_;obtain⟨LL2,aq,hLL2⟩:=aq.named;refine bp ([2,3]++rg 45 14) (fun j t U=>∃(i:Nat),j+i=kids.length/\(kids.take i).all (ec k)=true/\t.get 3=some (.int .i64 (.ofNat i))/\J U K LL2) (kids.length) ⟨0,Z,Z,Z,aq⟩ ?_;clear aq;intro j4 t U ar hI;obtain⟨i,hj,ha,ab,aq⟩:=hI;subst hLL2;obtain⟨oo,rfl⟩:=ar.q1 ab Z;refine OU aq 6 [3,0] Z Z<|O Z (QD hk Z Z Z (e:=82) Z) Z<|Pv 3 Z<|aE Z (fun F=>?_) (fun F=>?_)
  ·refine NQ aq 9 [3,0] Z Z ?_;obtain⟨aI,u,ac⟩:=cL F;refine Qu (e:=82) (m:=4) hk u Z Z Z Z (fun aY am W ao z=>?_);obtain⟨a0,a1,a2,a3,rfl,ap⟩:=z.shape;refine O Z (QG aq W Z Z) Z<|bf Z (Qz Z Z Z) (fun _=>Z) (ih _ _ z (hF.2 _<|gB_ u) _ _ aq) (fun U aq=>?_);refine O Z (cV Z) Z<|Pv 2 Z<|aE Z (fun M=>?_) (fun M=>?_)
   ·refine PX 6 Z<|aF<|aw<|bz<|aF<|aw (?_);exact aA Z Z ⟨cB (by show _=(bif dQ op num name kids.length then kids.all (ec k) else false);rw[show dQ op num name kids.length=true from by unfold dQ aX;simp only[A,C,Q,show(bif gL name [] then false else true)=false from aa,E,R,ct,cf]<;>rfl];rw[gG u<|bT M];rfl),aq.pop⟩
   refine aG<|aJ<|PW 5 Z<|aO ⟨j4-1,by omega,oF,i+1,by omega,eR ha u<|bj M,cI<|bg (by have:=hk.bG;omega),aq⟩
  refine OL 3 Z<|aT<|PX 6 Z ?_;exact aA Z Z ⟨cB (by show _=(bif dQ op num name kids.length then kids.all (ec k) else false);rw[show dQ op num name kids.length=true from by unfold dQ aX;simp only[A,C,Q,show(bif gL name [] then false else true)=false from aa,E,R,ct,cf]<;>rfl];rw[dR ha<|bC F];rfl),aq.pop⟩
 refine P4 aq 10 [1,0] Z Z<|dZ Z Z (an Z) (fun _=>Z) (fun E=>?_) (fun E=>?_)
 ·refine OT 19 Z ?_;exact aA Z Z ⟨cB (by show _=(bif dQ op num name kids.length then kids.all (ec k) else false);rw[show dQ op num name kids.length=false from by unfold dQ aX;simp only[A,C,Q,E,ct,cf]<;>rfl];rfl),aq.pop⟩
 refine P4 aq 3 [0,0] Z Z<|dZ Z Z (an Z) (fun _=>Z) (fun R=>?_) (fun R=>?_)
 ·refine P4 aq 5 [1,0] Z Z<|Py 2 Z<|aE Z (fun X=>?_) (fun X=>?_)
  ·refine Pu 7 Z ?_;exact aA Z Z ⟨cB (by show _=(bif dQ op num name kids.length then kids.all (ec k) else false);rw[show dQ op num name kids.length=false from by unfold dQ aX;simp only[A,C,Q,E,R,X,ct,cf]<;>rfl];rfl),aq.pop⟩
  refine Ok 9 Z ?_;obtain⟨LL3,aq,hLL3⟩:=aq.named;refine bp ([2,3]++rg 45 14) (fun j t U=>∃(i:Nat),j+i=kids.length/\(kids.take i).all (ec k)=true/\t.get 3=some (.int .i64 (.ofNat i))/\J U K LL3) (kids.length) ⟨0,Z,Z,Z,aq⟩ ?_;clear aq;intro j4 t U ar hI;obtain⟨i,hj,ha,ab,aq⟩:=hI;subst hLL3;obtain⟨oo,rfl⟩:=ar.q1 ab Z;refine OU aq 6 [3,0] Z Z<|O Z (QD hk Z Z Z (e:=82) Z) Z<|Pv 3 Z<|aE Z (fun F=>?_) (fun F=>?_)
  ·refine NQ aq 9 [3,0] Z Z ?_;obtain⟨aI,u,ac⟩:=cL F;refine Qu (e:=82) (m:=4) hk u Z Z Z Z (fun aY am W ao z=>?_);obtain⟨a0,a1,a2,a3,rfl,ap⟩:=z.shape;refine O Z (QG aq W Z Z) Z<|bf Z (Qz Z Z Z) (fun _=>Z) (ih _ _ z (hF.2 _<|gB_ u) _ _ aq) (fun U aq=>?_);refine O Z (cV Z) Z<|Pv 2 Z<|aE Z (fun M=>?_) (fun M=>?_)
   ·refine PX 6 Z<|aF<|aw<|bz<|aF<|aw (?_);exact aA Z Z ⟨cB (by show _=(bif dQ op num name kids.length then kids.all (ec k) else false);rw[show dQ op num name kids.length=true from by unfold dQ aX;simp only[A,C,Q,E,R,X,ct,cf]<;>rfl];rw[gG u<|bT M];rfl),aq.pop⟩
   refine aG<|aJ<|PW 5 Z<|aO ⟨j4-1,by omega,oF,i+1,by omega,eR ha u<|bj M,cI<|bg (by have:=hk.bG;omega),aq⟩
  refine OL 3 Z<|aT<|PX 6 Z ?_;exact aA Z Z ⟨cB (by show _=(bif dQ op num name kids.length then kids.all (ec k) else false);rw[show dQ op num name kids.length=true from by unfold dQ aX;simp only[A,C,Q,E,R,X,ct,cf]<;>rfl];rw[dR ha<|bC F];rfl),aq.pop⟩
 refine Py 8 Z<|Ok 9 Z ?_;obtain⟨LL4,aq,hLL4⟩:=aq.named;refine bp ([2,3]++rg 45 14) (fun j t U=>∃(i:Nat),j+i=kids.length/\(kids.take i).all (ec k)=true/\t.get 3=some (.int .i64 (.ofNat i))/\J U K LL4) (kids.length) ⟨0,Z,Z,Z,aq⟩ ?_;clear aq;intro j4 t U ar hI;obtain⟨i,hj,ha,ab,aq⟩:=hI;subst hLL4;obtain⟨oo,rfl⟩:=ar.q1 ab Z;refine OU aq 6 [3,0] Z Z<|O Z (QD hk Z Z Z (e:=82) Z) Z<|Pv 3 Z<|aE Z (fun F=>?_) (fun F=>?_)
 ·refine NQ aq 9 [3,0] Z Z ?_;obtain⟨aI,u,ac⟩:=cL F;refine Qu (e:=82) (m:=4) hk u Z Z Z Z (fun aY am W ao z=>?_);obtain⟨a0,a1,a2,a3,rfl,ap⟩:=z.shape;refine O Z (QG aq W Z Z) Z<|bf Z (Qz Z Z Z) (fun _=>Z) (ih _ _ z (hF.2 _<|gB_ u) _ _ aq) (fun U aq=>?_);refine O Z (cV Z) Z<|Pv 2 Z<|aE Z (fun M=>?_) (fun M=>?_)
  ·refine PX 6 Z<|aF<|aw<|bz<|aF<|aw (?_);exact aA Z Z ⟨cB (by show _=(bif dQ op num name kids.length then kids.all (ec k) else false);rw[show dQ op num name kids.length=true from by unfold dQ aX;simp only[A,C,Q,E,R,ct,cf]<;>rfl];rw[gG u<|bT M];rfl),aq.pop⟩
  refine aG<|aJ<|PW 5 Z<|aO ⟨j4-1,by omega,oF,i+1,by omega,eR ha u<|bj M,cI<|bg (by have:=hk.bG;omega),aq⟩
 refine OL 3 Z<|aT<|PX 6 Z ?_;exact aA Z Z ⟨cB (by show _=(bif dQ op num name kids.length then kids.all (ec k) else false);rw[show dQ op num name kids.length=true from by unfold dQ aX;simp only[A,C,Q,E,R,ct,cf]<;>rfl];rw[dR ha<|bC F];rfl),aq.pop⟩
theorem uD {G:Cx} (C:Plain G) {K:KP} {k:Nat} {x:XE} {vs:List V} (E:ey K k x vs) (M:jc k x) (F:cU k x<=1000000) {U:D} {L:Own} (aq:J U K L):bk Tryz.prog G 169 [.agg vs] U fun v U'=>v= .int .i64 (oI k x)/\J U' K L:=by
 obtain⟨o0,n0,s0,v0,rfl,hk⟩:=E.shape;have l1:∀{a b:Nat},bU (.ofNat b) (.ofNat a)=Nat.blt b a:=fun {a b}=>by rw[Bool.eq_iff_iff,L3,Nat.blt_eq];exact Int.ofNat_lt
 refine PS C Tryz.func169 Z<|Pt 2 Z<|kp aq Z (cz Z Z) (fun U b1 aq=>?_);refine On 6 Z<|O Z (QC Z aq.g0 (n:=4) (vs:=[_,_,_,_]) Z) Z<|bf Z (Qz Z Z Z) (fun _=>Z) (MK C _ _ _ E F _ _ aq) (fun U aq=>?_);refine vQ 1 Z<|ky Z (an Z) (fun A=>?_) (fun A=>?_)
 ·refine OQ 14 Z ?_;exact aA Z Z ⟨cJ (by unfold oI gV;rw[<-l1 (a:=cU k x),show bU (.ofNat 2000) (.ofNat<|cU k x)=true from A]<;>rfl),aq.pop⟩
 refine O Z (QC Z aq.g0 (n:=4) (vs:=[_,_,_,_]) Z) Z<|bf Z (Qz Z Z Z) (fun _=>Z) (MG C _ _ _ E F _ _ aq) (fun U aq=>?_);refine Pv 4 Z<|aE Z (fun u=>?_) (fun u=>?_)
 ·refine Pu 7 Z ?_;exact aA Z Z ⟨cJ (by unfold oI gV;rw[<-l1 (a:=cU k x),<-l1 (a:=fN k x),show bU (.ofNat 2000) (.ofNat<|cU k x)=false from A,show bU (.ofNat 32) (.ofNat<|fN k x)=true from u]<;>rfl),aq.pop⟩
 refine Ol 5 Z<|O Z (QC Z aq.g0 (n:=4) (vs:=[_,_,_,_]) Z) Z<|bf Z (Qz Z Z Z) (fun _=>Z) (H3 C _ _ _ E M _ _ aq) (fun U aq=>?_);refine O Z (cV Z) Z<|Pv 2 Z<|aE Z (fun z=>?_) (fun z=>?_)
 ·refine Pu 7 Z ?_;exact aA Z Z ⟨cJ (by unfold oI gV;rw[<-l1 (a:=cU k x),<-l1 (a:=fN k x),show bU (.ofNat 2000) (.ofNat<|cU k x)=false from A,show bU (.ofNat 32) (.ofNat<|fN k x)=false from u,show ec k x=false from bT z]<;>rfl),aq.pop⟩
 refine Pu 8 Z ?_;exact aA Z Z ⟨cJ (by unfold oI gV;rw[<-l1 (a:=cU k x),<-l1 (a:=fN k x),show bU (.ofNat 2000) (.ofNat<|cU k x)=false from A,show bU (.ofNat 32) (.ofNat<|fN k x)=false from u,show ec k x=true from bj z]<;>rfl),aq.pop⟩
theorem E7 {c m:Nat} (h:48<=c/\c<=57) (hm:m<=100000):wr .i64 (Int.add (wr .i64<|Int.mul (.ofNat m) (.ofNat 10))<|wr .i64<|wr .u8<|Int.sub (.ofNat c) (.ofNat 48))= .ofNat (10*m+(c-48)):=H8 h hm
theorem HX {G:Cx} (hG:Plain G) {K:KP} (s:List Nat) {U:D} {L:Own} (aq:J U K L):bk Tryz.prog G 235 [.str s] U fun v U'=>v= .int .i64 (jQ s)/\J U' K L:=by
 refine PS hG Tryz.func235 Z<|OI 10 Z<|ky Z (an Z) (fun h7=>?_) (fun h7=>?_)
 ·refine OQ 24 Z ?_;exact aA Z Z ⟨cJ (by unfold jQ;rw[qX (.inl (by rw[show s= [] from wk h7];rfl))]),aq⟩
 refine vQ 1 Z<|O Z (ij Z Z Z Y Z) Z<|PZ 2 Z<|ky Z (an Z) (fun M=>?_) (fun M=>?_)
 ·refine OQ 19 Z ?_;exact aA Z Z ⟨cJ (by unfold jQ;rw[qX (.inr (.inl (by rw[<-bK];exact bu (a:=4) M)))]),aq⟩
 refine vQ 1 Z<|O Z (ij Z Z Z Y Z) Z<|vQ 1 Z<|ky Z (an Z) (fun Q=>?_) (fun Q=>?_)
 ·refine vQ 1 Z ?_;obtain⟨ac,F⟩:=cm (show 0<s.length from by have:=bu (a:=1) Q;rw[bK] at this;omega);refine O Z (fw Y Z Z F) Z<|Pv 5 Z<|aE Z (fun R=>?_) (fun R=>?_)
  ·refine Pu 7 Z ?_;exact aA Z Z ⟨cJ (by unfold jQ;rw[qX (.inr (.inr ⟨by rw[<-bK];exact bu (a:=1) Q,by rw[F];exact congrArg some<|iJ_<|eqv R⟩))]),aq⟩
  refine OK 4 Z ?_;have hl4:cX s<=4:=bC (a:=4) M
  have E:¬(s.length=0∨4<s.length∨(1<s.length/\s[0]?=some 48)):=by
   have hl4:=hl4;rw[bK] at hl4;have h9z:s.length≠0:=fun e=>by rw[eN_ e] at h7;cases h7
   rintro (e | e | ⟨_,e⟩)
   ·exact h9z e
   ·omega
   rw[F] at e;cases e;cases R
  refine Om 10 Z ?_;obtain⟨LL1,aq,hLL1⟩:=aq.named;refine bp ([2,3,4]++rg 22 24) (fun j t U=>∃(i m:Nat),j+i=cX s/\ny s 0=ny (s.drop i) m/\m<10 ^ i/\i<=4/\t.get 3=some (.int .i64 (.ofNat m))/\t.get 4=some (.int .i64 (.ofNat i))/\J U K LL1) (cX s) ⟨0,0,Z,Z,Nat.one_pos,Nat.zero_le _,Z,Z,aq⟩ ?_;clear aq;intro j5 t U ar hI;obtain⟨i,m,hj,he,hm,W,X,aa,aq⟩:=hI;subst hLL1;obtain⟨oo,rfl⟩:=ar.q2 X aa Z;refine OI 5 Z<|O Z (ij Z Z Z Y Z) Z<|Pv 3 Z<|aE Z (fun z=>?_) (fun z=>?_)
  ·refine NO 5 Z<|Pt 4 Z ?_;obtain⟨ab,u⟩:=cm (show i<s.length from by have:=bu z;rwa[bK] at this);refine O Z (fw Y Z Z u) Z<|vQ 1 Z<|ky Z (an Z) (fun A=>?_) (fun A=>?_)
   ·refine Px 14 Z<|aw<|aF<|aw<|bz<|aF<|aw (?_);exact aA Z Z ⟨cJ (by unfold jQ;rw[ig E,he,lS u<|Aj A]),aq⟩
   refine PZ 2 Z<|O Z (fw Y Z Z u) Z<|Pv 4 Z<|aE Z (fun C=>?_) (fun C=>?_)
   ·refine PX 6 Z<|aw<|aF<|aw<|bz<|aF<|aw (?_);exact aA Z Z ⟨cJ (by unfold jQ;rw[ig E,he,lS u<|Ai C]),aq⟩
   refine aG<|ad<|ai Z<|PZ 4 Z<|O Z (fw Y Z Z u) Z<|vQ 1 Z ?_;refine O Z (ek (j:=.u8) (k:=.i64) Y Y Y Z) Z ?_;refine PY 3 Z (aJ (PW 5 Z (aO ⟨j5-1,by have:=bu z;omega,oF,i+1,10*m+(ab-48),by have:=bu z;omega,he.trans<|pQ u<|jy A C,by have:=jy A C;rw[Nat.pow_succ];omega,by have:=bu z;have:=hl4;omega,cI<|E7 (jy A C) (by have:=xj i W;omega),cI<|bg B,aq⟩)))
  refine OL 3 Z<|aT<|PX 7 Z ?_;exact aA Z Z ⟨cJ (by unfold jQ;rw[ig E,he,pP (by have:=bC z;rwa[bK] at this)]),aq⟩
 refine Oo 12 Z ?_;have hl4:cX s<=4:=bC (a:=4) M
 have E:¬(s.length=0∨4<s.length∨(1<s.length/\s[0]?=some 48)):=by
  have hl4:=hl4;rw[bK] at hl4;have h9z:s.length≠0:=fun e=>by rw[eN_ e] at h7;cases h7
  have h18z:¬(1<s.length):=by have:=bC (a:=1) Q;rw[bK] at this;omega
  omega
 refine Om 10 Z ?_;obtain⟨LL2,aq,hLL2⟩:=aq.named;refine bp ([2,3,4]++rg 22 24) (fun j t U=>∃(i m:Nat),j+i=cX s/\ny s 0=ny (s.drop i) m/\m<10 ^ i/\i<=4/\t.get 3=some (.int .i64 (.ofNat m))/\t.get 4=some (.int .i64 (.ofNat i))/\J U K LL2) (cX s) ⟨0,0,Z,Z,Nat.one_pos,Nat.zero_le _,Z,Z,aq⟩ ?_;clear aq;intro j5 t U ar hI;obtain⟨i,m,hj,he,hm,W,X,aa,aq⟩:=hI;subst hLL2;obtain⟨oo,rfl⟩:=ar.q2 X aa Z;refine OI 5 Z<|O Z (ij Z Z Z Y Z) Z<|Pv 3 Z<|aE Z (fun z=>?_) (fun z=>?_)
 ·refine NO 5 Z<|Pt 4 Z ?_;obtain⟨ab,u⟩:=cm (show i<s.length from by have:=bu z;rwa[bK] at this);refine O Z (fw Y Z Z u) Z<|vQ 1 Z<|ky Z (an Z) (fun A=>?_) (fun A=>?_)
  ·refine Px 14 Z<|aw<|aF<|aw<|bz<|aF<|aw (?_);exact aA Z Z ⟨cJ (by unfold jQ;rw[ig E,he,lS u<|Aj A]),aq⟩
  refine PZ 2 Z<|O Z (fw Y Z Z u) Z<|Pv 4 Z<|aE Z (fun C=>?_) (fun C=>?_)
  ·refine PX 6 Z<|aw<|aF<|aw<|bz<|aF<|aw (?_);exact aA Z Z ⟨cJ (by unfold jQ;rw[ig E,he,lS u<|Ai C]),aq⟩
  refine aG<|ad<|ai Z<|PZ 4 Z<|O Z (fw Y Z Z u) Z<|vQ 1 Z ?_;refine O Z (ek (j:=.u8) (k:=.i64) Y Y Y Z) Z ?_;refine PY 3 Z (aJ (PW 5 Z (aO ⟨j5-1,by have:=bu z;omega,oF,i+1,10*m+(ab-48),by have:=bu z;omega,he.trans<|pQ u<|jy A C,by have:=jy A C;rw[Nat.pow_succ];omega,by have:=bu z;have:=hl4;omega,cI<|E7 (jy A C) (by have:=xj i W;omega),cI<|bg B,aq⟩)))
 refine OL 3 Z<|aT<|PX 7 Z ?_;exact aA Z Z ⟨cJ (by unfold jQ;rw[ig E,he,pP (by have:=bC z;rwa[bK] at this)]),aq⟩
end Go.Ev
namespace Go.Ev
variable [Env]
section
variable {P:Program} {G:Cx} {U:D} {K:KP} {L:Own}
theorem Hx {α:Type} {m e:Nat} {R:α->List V->Prop} {C:V} {ts:Array TypeId} {t:TypeId} (F:J U K L) (hx:bR K m R [] C) (u:∀x vs,R x vs->cD vs=true)
  (M:ts[0]?=some t) (hu:P.underlying t=some (.slice e)) (A:pK P e m=true) (h2:dt P ts[1]?=true):fX P U ts .ax C= .val .ax U:=by
 obtain⟨news,W,s2,X,s4⟩:=om F hx u;unfold pK at A;split at A
 ·rename_i j hj;simp only[bA_] at A;obtain⟨a1,a2,a3,a4⟩:=A;have hm:j.size=m:=nB a1;subst hm;have E:((P.info? e).any fun j=>(j.zero.bind qb).any fun z=>(cS z).any fun cs=>Nat.beq (cX cs) j.size)=true:=by rw[hj];exact a4
  unfold fX;rw[M];dsimp only;rw[hu];dsimp only;rw[hj] at E⊢;dsimp only;rw[h2,a2,a3];simp only[Bool.and_self,cond_true];rw[W];dsimp only;rw[X,show Nat.ble ([]:List α).length 1048576=true from Z,E];simp only[Bool.and_self,cond_true];rfl
 cases A
theorem tY {α:Type} {m e:Nat} {R:α->List V->Prop} {l l2:List α} {u W:V} {M:Own} {ts:Array TypeId} {t:TypeId} (ho:cQ m e R l u M) (aq:J U K (M++L))
  (hx:bR K m R l2 W) (z:∀x vs,R x vs->cD vs=true) (hn:l.length+l2.length<=1000000)
  (A:ts[0]?=some t) (hu:P.underlying t=some (.slice e)) (C:pK P e m=true) (h2:dt P ts[1]?=true):
  ∃U' u' M',fX P U ts u W= .val u' U'/\cQ m e R (l++l2) u' M'/\J U' K (M'++L):=by
 rcases ho with ⟨rfl,rfl,rfl⟩ | ⟨b,c,cells,e',rfl,rfl,X,h4,h5,h6⟩
 ·cases l2 with
  | nil=>exact⟨U,_,[],Hx aq hx z A hu C h2,.inl ⟨Z,Z,Z⟩,aq⟩
  | cons a l2=>
   obtain⟨news,E,k2,F⟩:=rf (P:=P) aq hx z (by simp at hn⊢;omega) (by simp) A hu C h2;exact⟨_,_,[(U.next,.row news e false)],E,.inr ⟨_,_,news,e,Z,Z,k2,F,.inr ⟨Z,Z⟩,by simp at hn⊢;omega⟩,aq.alloc (.row news e false)⟩
 obtain⟨U',b',c',news,e2,E,k2,F,k4,k5⟩:=xR (P:=P) aq hx z B X B h5 A hu C h2;exact⟨U',_,[(b',.row (cells++news) e2 false)],E,qf X h4 F k4 Z k5 B,k2⟩
theorem y9 {α:Type} {m e:Nat} {R:α->List V->Prop} {l l2:List α} {u A:V} {M:Own} {bv ev:Nat} {cv:List V} {ts:Array TypeId} {t:TypeId} (C:cQ m e R l u M) (aq:J U K ((bv,.row cv ev false)::(M++L)))
  (hx:bR (K.add bv (.row cv ev false)) m R l2 A) (z:∀x vs,R x vs->cD vs=true) (hn:l.length+l2.length<=1000000)
  (E:ts[0]?=some t) (hu:P.underlying t=some (.slice e)) (F:pK P e m=true) (h2:dt P ts[1]?=true):
  ∃U' u' M',fX P U ts u A= .val u' U'/\cQ m e R (l++l2) u' M'/\J U' K (M'++L):=by
 obtain⟨U',u',M',h1,W,h4⟩:=tY C aq.iu hx z hn E hu F h2;exact⟨U',u',M',h1,W,h4.weaken<|KP.se _ _ _⟩
theorem zU {α:Type} {m b e:Nat} {ro:Bool} {R:α->List V->Prop} {x:α} {vs:List V} (hm:vs.length=m) (u:R x vs) (hk:K b (.row vs e ro)):bR K m R [x] (.slice b 0 1 (.known 1)):=by
 refine .inr ⟨b,0,.known 1,vs,e,ro,Z,.inr ⟨1,Z,nR_ _⟩,hk,by simp[hm],by simp,fun i y hy=>?_⟩;cases i with
 | zero=>
  simp only[List.getElem?_cons_zero,oJ_] at hy;subst hy;rw[Nat.zero_mul,Nat.add_zero,List.drop_zero,tL_ B];exact u
 | succ i=>simp at hy
theorem eU {α:Type} {m b e:Nat} {R:α->List V->Prop} {x:α} {vs:List V} (hm:vs.length=m) (u:R x vs):bR (K.add b (.row vs e false)) m R [x] (.slice b 0 1 (.known 1)):=zU hm u (.inr ⟨Z,Z⟩)
theorem Au {α:Type} {m e k:Nat} {kk:IntKind} {R:α->List V->Prop} {la:List α} {v:V} {ty:TypeId} {ev:Operand->Option V} {xo lo:Operand} (h:bR K m R la v) (hk:k<=la.length) (hu:P.underlying ty=some (.slice e)) (hj:(P.info? e).map (·.size)=some m) (hx:ev xo=some v) (E:ev lo=some (.int kk (.ofNat k))):
  ∃w,fo P ev ty xo (some lo) none none=some w/\bR K m R (la.drop k) w:=by
 cases hq:P.info? e with
 | none=>rw[hq] at hj;cases hj
 | some j=>
 rw[hq] at hj;have hj:j.size=m:=by simpa using hj
 subst hj;have hlen:(la.drop k).length=la.length-k:=lD_ ..
 have hb:∀y,k<=y->eI ev lo y=some k:=fun y hy=>by
  unfold eI;rw[E];dsimp only;rw[show Nat.ble k y=true by rw[nE_];exact hy];rfl
 rcases h with ⟨rfl,rfl⟩ | ⟨b,off,c,cells,e',ro,rfl,h2,z,h4,h5,F⟩
 ·obtain rfl:k=0:=by simpa using hk
  refine⟨.ax,?_,.inl ⟨Z,Z⟩⟩;unfold fo;rw[hu,hx];dsimp only;unfold da;dsimp only;rw[hb 0<|nR_ _,hq]
 have hle:k*j.size<=la.length*j.size:=nM_ _ hk;have aa:(la.length-k)*j.size=la.length*j.size-k*j.size:=Nat.sub_mul ..
 have C:∀(i:Nat) (x:α),(la.drop k)[i]?=some x->R x ((cells.drop (off+k*j.size+i*j.size)).take j.size):=fun i x u=>by
  rw[List.getElem?_drop] at u;have:=F (k+i) x u;rwa[Nat.add_mul,<-Nat.add_assoc] at this
 rcases h2 with rfl | ⟨cp,rfl,ab⟩
 ·refine⟨.slice b (off+k*j.size) (la.length-k) (.upto j.size),?_,.inr ⟨b,_,_,cells,e',ro,by rw[hlen],.inl Z,z,by rw[hlen];omega,by rw[hlen];omega,C⟩⟩;unfold fo;rw[hu,hx];dsimp only;unfold da;dsimp only;rw[hb _ hk,hq];dsimp only;rw[Nat.beq_refl];rfl
 refine⟨.slice b (bif Nat.beq cp k then off else off+k*j.size) (la.length-k) (.known (cp-k)),?_,?_⟩
 ·unfold fo;rw[hu,hx];dsimp only;unfold cutAt da;dsimp only;rw[hb _ B];dsimp only;unfold cut;rw[hq]
 cases A:Nat.beq cp k with
 | false=>exact .inr ⟨b,_,_,cells,e',ro,by rw[hlen];rfl,.inr ⟨cp-k,Z,by rw[hlen];omega⟩,z,by rw[hlen];omega,by rw[hlen];omega,C⟩
 | true=>
  have e1:=nB A;have M:la.drop k= []:=List.drop_eq_nil_of_le B;rw[M];exact .inr ⟨b,off,_,cells,e',ro,by rw[show la.length-k=0 by omega];rfl,.inr ⟨cp-k,Z,by simp⟩,z,by simp;omega,by simp,fun i x u=>by simp at u⟩
end
section
variable {P:Program} {G:Cx} {n:Nat} {t:N V} {U:D} {K:KP} {L:Own} {Q:Ex->N V->D->Prop} {ops:Array Oper} {o:Oper} {l:List Oper} {lp:List (Nat×List Nat)} {ix:Nat} {rc:List Nat}
theorem qh {α:Type} {m e k:Nat} {kk:IntKind} {R:α->List V->Prop} {la:List α} {v:V} {ty:TypeId} {xo lo:Operand} {t':V->N V} (h:bR K m R la v) (hk:k<=la.length) (u:ops[ix]?=some o) (hw:bM ops t o=some true) (z:o.op= .slice ty xo (some lo) none none)
  (hu:P.underlying ty=some (.slice e)) (hj:(P.info? e).map (·.size)=some m) (hx:bE G t xo=some v) (A:bE G t lo=some (.int kk (.ofNat k))) (hp:∀v,dI t n o.dst v=some (t' v))
  (hc:∀w,bR K m R (la.drop k) w->cE P G ops n lp (t' w) U Q):cE P G ops n ((ix,[])::lp) t U Q:=by
 obtain⟨w,h1,h2⟩:=Au (P:=P) h hk hu hj hx A;refine al u hw ?_ (hp w)<|hc w h2;rw[z];exact bn Z h1
theorem tZ {α:Type} {m e k:Nat} {kk:IntKind} {R:α->List V->Prop} {la:List α} {v:V} {ty:TypeId} {xo hi:Operand} {t':V->N V} (h:bR K m R la v) (hk:k<=la.length) (u:ops[ix]?=some o) (hw:bM ops t o=some true) (z:o.op= .slice ty xo none (some hi) none)
  (hu:P.underlying ty=some (.slice e)) (hj:(P.info? e).map (·.size)=some m) (hx:bE G t xo=some v) (A:bE G t hi=some (.int kk (.ofNat k))) (hp:∀v,dI t n o.dst v=some (t' v))
  (hc:∀w,bR K m R (la.take k) w->cE P G ops n lp (t' w) U Q):cE P G ops n ((ix,[])::lp) t U Q:=by
 obtain⟨w,h1,h2⟩:=xy (P:=P) h hk hu hj hx A;refine al u hw ?_ (hp w)<|hc w h2;rw[z];exact bn Z h1
theorem tW {α:Type} {m e:Nat} {R:α->List V->Prop} {la l2:List α} {u W:V} {M:Own} {ty:TypeId} {cl:Call} {so xo:Operand} {t':V->N V} (X:cQ m e R la u M) (hs:J U K (M++L)) (hx:bR K m R l2 W) (z:∀x vs,R x vs->cD vs=true) (hn:la.length+l2.length<=1000000)
  (hw:bM ops t o=some true) (ho:o.op= .call cl) (C:cl.callee= .builtin .append) (A:cl.args.toList= [so,xo]) (ht:cl.argTypes[0]?=some ty) (E:bE G t so=some u) (F:bE G t xo=some W) (hp:∀v,dI t n o.dst v=some (t' v))
  (h:∀(U':D) (u':V) (M':Own),cQ m e R (la++l2) u' M'->J U' K (M'++L)->bP P G ops n l (t' u') U' Q) (hu:P.underlying ty=some (.slice e):=by kernel_rfl) (ha:pK P e m=true:=by kernel_rfl) (h2:dt P cl.argTypes[1]?=true:=by kernel_rfl):bP P G ops n (o::l) t U Q:=by
 obtain⟨U',u',M',k1,k2,k3⟩:=tY (P:=P) X hs hx z hn ht hu ha h2;refine O hw ?_ (hp _)<|h U' u' M' k2 k3;rw[ho];exact dM C A E F h2 k1
theorem sk {α:Type} {m e:Nat} {R:α->List V->Prop} {la l2:List α} {u W:V} {M:Own} {bv ev:Nat} {cv:List V} {ty:TypeId} {cl:Call} {so xo:Operand} {t':V->N V} (X:cQ m e R la u M) (hs:J U K ((bv,.row cv ev false)::(M++L))) (hx:bR (K.add bv (.row cv ev false)) m R l2 W) (z:∀x vs,R x vs->cD vs=true) (hn:la.length+l2.length<=1000000)
  (hw:bM ops t o=some true) (ho:o.op= .call cl) (C:cl.callee= .builtin .append) (A:cl.args.toList= [so,xo]) (ht:cl.argTypes[0]?=some ty) (E:bE G t so=some u) (F:bE G t xo=some W) (hp:∀v,dI t n o.dst v=some (t' v))
  (h:∀(U':D) (u':V) (M':Own),cQ m e R (la++l2) u' M'->J U' K (M'++L)->bP P G ops n l (t' u') U' Q) (hu:P.underlying ty=some (.slice e):=by kernel_rfl) (ha:pK P e m=true:=by kernel_rfl) (h2:dt P cl.argTypes[1]?=true:=by kernel_rfl):bP P G ops n (o::l) t U Q:=by
 obtain⟨U',u',M',k1,k2,k3⟩:=y9 (P:=P) X hs hx z hn ht hu ha h2;refine O hw ?_ (hp _)<|h U' u' M' k2 k3;rw[ho];exact dM C A E F h2 k1
theorem kL {α:Type} {m e:Nat} {R:α->List V->Prop} {la l2:List α} {u X:V} {M:Own} {ty:TypeId} {cl:Call} {so xo:Operand} {t':V->N V} (hr:cQ m e R la u M) (hs:J U K (M++L)) (hx:bR K m R l2 X) (z:∀x vs,R x vs->cD vs=true) (hn:la.length+l2.length<=1000000)
  (C:ops[ix]?=some o) (hw:bM ops t o=some true) (ho:o.op= .call cl) (E:cl.callee= .builtin .append) (A:cl.args.toList= [so,xo]) (ht:cl.argTypes[0]?=some ty) (F:bE G t so=some u) (W:bE G t xo=some X) (hp:∀v,dI t n o.dst v=some (t' v))
  (h:∀(U':D) (u':V) (M':Own),cQ m e R (la++l2) u' M'->J U' K (M'++L)->dn P G ops (t' u') U' rc=true/\cE P G ops n lp (t' u') U' Q) (hu:P.underlying ty=some (.slice e):=by kernel_rfl) (ha:pK P e m=true:=by kernel_rfl) (h2:dt P cl.argTypes[1]?=true:=by kernel_rfl):cE P G ops n ((ix,rc)::lp) t U Q:=by
 obtain⟨U',u',M',k1,k2,k3⟩:=tY (P:=P) hr hs hx z hn ht hu ha h2;refine eM C hw ?_ (hp _)<|h U' u' M' k2 k3;rw[ho];exact dM E A F W h2 k1
theorem mN {α:Type} {m e:Nat} {R:α->List V->Prop} {la l2:List α} {u X:V} {M:Own} {bv ev:Nat} {cv:List V} {ty:TypeId} {cl:Call} {so xo:Operand} {t':V->N V} (hr:cQ m e R la u M) (hs:J U K ((bv,.row cv ev false)::(M++L))) (hx:bR (K.add bv (.row cv ev false)) m R l2 X) (z:∀x vs,R x vs->cD vs=true) (hn:la.length+l2.length<=1000000)
  (C:ops[ix]?=some o) (hw:bM ops t o=some true) (ho:o.op= .call cl) (E:cl.callee= .builtin .append) (A:cl.args.toList= [so,xo]) (ht:cl.argTypes[0]?=some ty) (F:bE G t so=some u) (W:bE G t xo=some X) (hp:∀v,dI t n o.dst v=some (t' v))
  (h:∀(U':D) (u':V) (M':Own),cQ m e R (la++l2) u' M'->J U' K (M'++L)->dn P G ops (t' u') U' rc=true/\cE P G ops n lp (t' u') U' Q) (hu:P.underlying ty=some (.slice e):=by kernel_rfl) (ha:pK P e m=true:=by kernel_rfl) (h2:dt P cl.argTypes[1]?=true:=by kernel_rfl):cE P G ops n ((ix,rc)::lp) t U Q:=by
 obtain⟨U',u',M',k1,k2,k3⟩:=y9 (P:=P) hr hs hx z hn ht hu ha h2;refine eM C hw ?_ (hp _)<|h U' u' M' k2 k3;rw[ho];exact dM E A F W h2 k1
end
theorem cy {α:Type} {P:α->Prop} {a b:α} (c:Bool) (h1:P a) (h0:P b):P (bif c then a else b):=by cases c;exact h0;exact h1
theorem eu {α:Type} {P:α->Prop} {a b:α} (c:Bool) (h1:c=true->P a) (h0:c=false->P b):P (bif c then a else b):=by cases c;exact h0 Z;exact h1 Z
theorem iS (a b:List db):dg (a++b)=dg a++dg b:=by unfold dg;rw[List.filter_append,List.map_append]
theorem ub {e:db} (h:dD e=false):dg [e]= []:=by unfold dg;rw[List.filter_cons,h];rfl
theorem sr {e:db} (h:dD e=true):dg [e]= [e.read]:=by unfold dg;rw[List.filter_cons,h];rfl
theorem Ck {l:List db} (h:dg l= []):∀e∈l,dD e=false:=by
 intro e he;cases u:dD e with
 | false=>rfl
 | true=>
  have:e.read∈dg l:=List.mem_map_of_mem (List.mem_filter.2 ⟨he,u⟩);rw[h] at this;cases this
def Grown (s s':TS):Prop:=(∃ext,s'.events=s.events++ext/\dg ext= [])/\s'.asked=s.asked
theorem Grown.refl (s:TS):Grown s s:=⟨⟨[],by simp,Z⟩,Z⟩
theorem Grown.trans {s s' s'':TS} (h:Grown s s') (h':Grown s' s''):Grown s s'':=by
 obtain⟨⟨x,h1,h2⟩,u⟩:=h;obtain⟨⟨y,z,k2⟩,A⟩:=h';exact⟨⟨x++y,by rw[z,h1,lQ_],by rw[iS,h2,k2];rfl⟩,by rw[A,u]⟩
theorem CB (k:Nat) (x:XI) (s:TS):Grown s (dL k x s).1:=by
 obtain⟨P,u⟩:∃P:TS×Bool->Prop,P=fun r=>Grown s r.1:=⟨_,Z⟩
 have h0:∀(r:TS×Bool),r.1.events=s.events->r.1.asked=s.asked->P r:=fun r h1 h2=>by rw[u];exact⟨⟨[],by rw[h1];simp,Z⟩,h2⟩
 have hw:∀(r:TS×Bool) (e:db),dD e=false->r.1.events=s.events++[e]->r.1.asked=s.asked->P r:=fun r e h1 h2 z=>by rw[u];exact⟨⟨[e],h2,ub h1⟩,z⟩
 have:P (dL k x s):=by
  unfold dL;refine cy _ (h0 _ Z Z)<|cy _ (hw _ _ Z Z Z)<|cy _ (hw _ _ Z Z Z)<|cy _ (cy _ (h0 _ Z Z)<|h0 _ Z Z)<|cy _ (cy _ (h0 _ Z Z)<|h0 _ Z Z)<|cy _ (h0 _ Z Z)<|cy _ (cy _ (h0 _ Z Z)<|h0 _ Z Z)<|cy _ (h0 _ Z Z)<|cy _ (h0 _ Z Z)<|h0 _ Z Z
 rw[u] at this;exact this
theorem qv (k:Nat) (c:XC) (s:TS):Grown s (cj k c s).1:=by
 unfold cj;cases c.ins[s.at_]? with
 | none=>exact Grown.refl s
 | some x=>exact CB k x s
theorem n7 (k:Nat) (c:XC):∀(f:Nat) (s:TS),Grown s (vj k c f s)
 | 0,s=>Grown.refl s
 | f+1,s=>by
  show Grown s (bif (cj k c s).2 then vj k c f (cj k c s).1 else(cj k c s).1);exact cy (P:=Grown s) _ ((qv k c s).trans<|n7 k c f _)<|qv k c s
def lJ (c:XC) (s:TS):Prop:=s.asks=true->∃x,c.ins[s.at_]?=some x/\(x.kind=2∨x.kind=4∨x.kind=5∨x.kind=6)
theorem Et {k:Nat} {x:XI} {s:TS} {aY nins:Int} (hx:fF aY nins k x=true) (G:s.asks=false):(dL k x s).1.asks=true->(dL k x s).1.at_=s.at_/\(x.kind=2∨x.kind=4∨x.kind=5∨x.kind=6)/\(dL k x s).2=false:=by
 obtain⟨n,sh,hn,n1,aa,_,_⟩:=iY hx;obtain⟨P,z⟩:∃P:TS×Bool->Prop,P=fun r=>r.1.asks=true->r.1.at_=s.at_/\(x.kind=2∨x.kind=4∨x.kind=5∨x.kind=6)/\r.2=false:=⟨_,Z⟩
 have u:∀r:TS×Bool,r.1.asks=s.asks->P r:=fun r h1=>by rw[z];intro h2;rw[h1,G] at h2;cases h2
 have ne:∀m:Int,I x.kind m=false->x.kind≠m:=fun m h e=>by rw[e,fP] at h;cases h
 have:P (dL k x s):=by
  unfold dL
  refine eu _ (fun _=>u _ Z) fun e1=>eu _ (fun _=>u _ Z) fun K=>eu _ (fun _=>u _ Z) fun L=>eu _ (fun _=>cy _ (u _ Z) (u _ Z)) fun M=>eu _ (fun _=>cy _ (u _ Z) (u _ Z)) fun Q=>
   eu _ (fun _=>u _ Z) fun A=>eu _ (fun _=>cy _ (u _ Z) (u _ Z)) fun C=>eu _ (fun _=>u _ Z) fun E=>eu _ (fun _=>u _ Z) fun F=>?_
  rw[z];refine fun _=>⟨Z,?_,Z⟩
  have h1:=ne _ e1;have h3:=ne _ K;have h7:=ne _ L;have h8:=ne _ M;have h9:=ne _ Q;have h10:=ne _ A;have h11:=ne _ C;have h12:=ne _ E;have h13:=ne _ F;have ab:x.kind=(n:Int):=hn;omega
 rw[z] at this;exact this
theorem uh {k:Nat} {c:XC} (hc:eX k c) {s:TS} (u:s.asks=false):lJ c (cj k c s).1/\((cj k c s).2=true->(cj k c s).1.asks=false):=by
 unfold cj;cases hx:c.ins[s.at_]? with
 | none=>exact⟨fun h=>(by rw[show s.asks=true from h] at u;cases u),fun h=>(by cases h)⟩
 | some x=>
  have h:=Et (k:=k) (hc.right x (gB_ hx)) u;refine⟨fun z=>?_,fun h2=>?_⟩
  ·obtain⟨h1,h2,_⟩:=h z;exact⟨x,by rw[show(dL k x s).1.at_=s.at_ from h1];exact hx,h2⟩
  cases z:(dL k x s).1.asks with
  | false=>rfl
  | true=>have:=(h z).2.2;rw[show(dL k x s).2=true from h2] at this;cases this
theorem zT {k:Nat} {c:XC} (hc:eX k c):∀(f:Nat) (s:TS),s.asks=false->lJ c (vj k c f s)
 | 0,s,u=>fun h=>by rw[show s.asks=true from h] at u;cases u
 | f+1,s,u=>by
  have h:=uh hc u;show lJ c (bif (cj k c s).2 then vj k c f (cj k c s).1 else(cj k c s).1);cases h2:(cj k c s).2 with
  | true=>exact zT hc f _ (h.2 h2)
  | false=>exact h.1
theorem vO {k:Nat} {c:XC} (hc:eX k c):lJ c (jT k c):=zT hc _ _ Z
theorem uv {k:Nat} {c:XC} (hc:eX k c) (s:TS) (v:Int):lJ c (dY k c s v):=zT hc _ _ Z
theorem kP {a:rj} {v:Int} (h:a.kind=2∨a.kind=4∨a.kind=5∨a.kind=6):dD (bL a v)=true/\(bL a v).read=v:=by
 unfold bL;rcases h with h | h | h | h<;>rw[h]
 ·exact⟨Z,Z⟩
 ·exact cy (P:=fun e:db=>dD e=true/\e.read=v) (I v a.a) ⟨Z,Z⟩ ⟨Z,Z⟩
 ·exact⟨Z,Z⟩
 exact⟨Z,Z⟩
theorem qE {k:Nat} {c:XC} {s:TS} (h:lJ c s) (u:s.asks=true):((lh k c s).kind=2∨(lh k c s).kind=4∨(lh k c s).kind=5∨(lh k c s).kind=6):=by
 obtain⟨x,hx,hk⟩:=h u;unfold lh;rw[hx];exact hk
theorem rv {k:Nat} {c:XC} {s:TS} (h:lJ c s) (u:s.asks=true) (v:Int):∃ext,(dY k c s v).events=s.events++bL (lh k c s) v::ext/\dg (bL (lh k c s) v::ext)= [v]:=by
 obtain⟨⟨ext,h1,h2⟩,_⟩:=n7 k c (jo c) (eA k c s v);obtain⟨z,A⟩:=kP (v:=v) (qE (k:=k) h u);refine⟨ext,?_,?_⟩
 ·unfold dY;rw[h1];show(s.events++[_])++ext=_;rw[lQ_];rfl
 rw[show bL (lh k c s) v::ext= [bL (lh k c s) v]++ext from Z,iS,sr z,h2,A];rfl
theorem xx {k:Nat} {c:XC} (hc:eX k c):∀(A:List Int) (s:TS),lJ c s->lJ c (jR k c A s)/\∃ext m,(jR k c A s).events=s.events++ext/\dg ext=A.take m/\((jR k c A s).asks=true->A.length<=m)
 | [],s,h=>⟨h,[],0,by show s.events=_;simp,Z,fun _=>nR_ _⟩
 | v::r,s,h=>by
  show lJ c (bif s.asks then jR k c r (dY k c s v) else s)/\∃ext m,(bif s.asks then jR k c r (dY k c s v) else s).events=s.events++ext/\dg ext=(v::r).take m/\((bif s.asks then jR k c r (dY k c s v) else s).asks=true->(v::r).length<=m);cases u:s.asks with
  | false=>exact⟨h,[],0,by show s.events=_;simp,Z,fun h'=>by rw[show s.asks=true from h'] at u;cases u⟩
  | true=>
   obtain⟨e1,h1,h2⟩:=rv (k:=k) h u v;obtain⟨q,ext,m,z,h4,h5⟩:=xx hc r _ (uv hc s v);refine⟨q,bL (lh k c s) v::e1++ext,m+1,?_,?_,fun h'=>?_⟩
   ·show(jR k c r<|dY k c s v).events=_;rw[z,h1,lQ_]
   ·rw[iS,h2,h4];rfl
   have:=h5 h';simp only[List.length_cons];omega
theorem zb {k:Nat} {c:XC} (v:Int):∀(A:List Int) (s:TS),jR k c (A++[v]) s=bif (jR k c A s).asks then dY k c (jR k c A s) v else jR k c A s
 | [],s=>rfl
 | a::r,s=>by
  show(bif s.asks then jR k c (r++[v]) (dY k c s a) else s)=bif (bif s.asks then jR k c r (dY k c s a) else s).asks then dY k c (bif s.asks then jR k c r (dY k c s a) else s) v else(bif s.asks then jR k c r (dY k c s a) else s);cases u:s.asks with
  | false=>simp only[cond_false];rw[u];rfl
  | true=>simp only[cond_true];exact zb v r _
theorem pd {k:Nat} {c:XC} (hc:eX k c) (A:List Int):lJ c (gx k c A)/\∃m,dg (gx k c A).events=A.take m/\((gx k c A).asks=true->A.length<=m):=by
 obtain⟨h,ext,m,h1,h2,u⟩:=xx hc A (jT k c) (vO hc);obtain⟨⟨e0,h4,h5⟩,_⟩:=n7 k c (jo c) ⟨0,List.replicate c.aY.toNat 0,[],0,0,false⟩;refine⟨h,m,?_,u⟩;unfold gx;rw[h1,iS,h2];have:(jT k c).events= []++e0:=h4;rw[this,List.nil_append,h5];rfl
theorem nW {s:TS} {l:List db}:pw s l=true↔∃rest,s.events=l++rest:=by
 unfold pw;constructor
 ·intro h;cases h1:bU (.ofNat s.events.length) (.ofNat l.length) with
  | true=>rw[h1] at h;cases h
  | false=>
   rw[h1] at h;have h:dk (s.events.take l.length) l=true:=h;rw[dc] at h;exact⟨s.events.drop l.length,by conv=>lhs;rw[<-List.take_append_drop l.length s.events,h]⟩
 rintro ⟨rest,h⟩;rw[h,lX,show decide ((l++rest).length<l.length)=false by simp];show dk _ _=true;rw[dc,List.take_left]
def nP (k:Nat) (c:XC) (l:List db):Prop:=jn k c=true/\pw (gx k c<|dg l) l=true
theorem Ek {k:Nat} {c:XC} (hc:eX k c) {l rest:List db} (h:(gx k c<|dg l).events=l++rest):dg rest= []:=by
 obtain⟨_,m,h1,_⟩:=pd hc (dg l);rw[h,iS] at h1;have:=congrArg List.length h1;rw[lA_,lT_] at this;exact List.length_eq_zero_iff.1 B
theorem Iv {k:Nat} {c:XC} (h:jn k c=true):nP k c []:=⟨h,nW.2 ⟨_,Z⟩⟩
theorem DI {k:Nat} {c:XC} {l:List db} {e:db} (h:nP k c l) (he:(gx k c<|dg l).events[l.length]?=some e):nP k c (l++[e])/\dD e=false:=by
 obtain⟨hf,h⟩:=h;have hc:=(qL hf).1;obtain⟨rest,u⟩:=nW.1 h;have hq:=Ek hc u;rw[u,gR_<|nR_ _,Nat.sub_self] at he;cases rest with
 | nil=>cases he
 | cons e' r=>
  simp only[List.getElem?_cons_zero,oJ_] at he;subst he;have hne:=Ck hq e' (mS_ ..);refine⟨⟨hf,?_⟩,hne⟩;rw[iS,ub hne,List.append_nil];exact nW.2 ⟨r,by rw[u];simp⟩
theorem BJ {k:Nat} {c:XC} {l:List db} (h:nP k c l) (he:(gx k c<|dg l).events[l.length]?=none) (u:(gx k c<|dg l).asks=true) (v:Int):nP k c (l++[bL (lh k c<|gx k c<|dg l) v]):=by
 obtain⟨hf,h⟩:=h;have hc:=(qL hf).1;obtain⟨rest,z⟩:=nW.1 h
 have hl:rest= []:=by
  rw[z,List.getElem?_eq_none_iff,lA_] at he;exact List.length_eq_zero_iff.1 B
 subst hl;rw[List.append_nil] at z;have hk:=(pd hc<|dg l).1;obtain⟨A,C⟩:=kP (v:=v) (qE (k:=k) hk u);refine⟨hf,?_⟩;rw[iS,sr A,C]
 have e1:gx k c (dg l++[v])=dY k c (gx k c<|dg l) v:=by
  unfold gx at u⊢;rw[zb,u];rfl
 rw[e1];obtain⟨ext,h1,_⟩:=rv (k:=k) hk u v;exact nW.2 ⟨ext,by rw[h1,z];simp⟩
theorem jD {k:Nat} {c:XC}:I (fE k c) 0=jn k c:=by
 unfold fE;cases h:jn k c with
 | true=>rfl
 | false=>
  simp only[cond_false];cases h1:I (dq k c) 0 with
  | true=>rfl
  | false=>exact h1
theorem kI {k:Nat} {c:XC} {l:List db}:(bI k c l).2=0↔nP k c l:=by
 unfold bI nP;rw[jD];cases hf:jn k c with
 | false=>
  refine⟨fun h=>?_,fun h=>(by cases h.1)⟩;have h:fE k c=0:=h;have:=jD (k:=k) (c:=c);rw[h,hf] at this;cases this
 | true=>
  show(iD k c (gx k c<|dg l) l).2=0↔_;unfold iD;cases ht:pw (gx k c<|dg l) l with
  | false=>exact⟨fun h=>(by cases h),fun h=>(by cases h.2)⟩
  | true=>
   refine⟨fun _=>⟨Z,Z⟩,fun _=>?_⟩;simp only[aX,cond_true,cond_false];cases (gx k c<|dg l).events[l.length]? with
   | some e=>rfl
   | none=>cases (gx k c<|dg l).asks<;>rfl
theorem qa {k:Nat} {c:XC} {l:List db} (h:(bI k c l).2=0):
  (∃e,bI k c l=(⟨e,gw,0⟩,0)/\nP k c (l++[e])/\dD e=false)∨
  (∃a,bI k c l=(⟨lr,a,0⟩,0)/\(a.kind=2∨a.kind=4∨a.kind=5∨a.kind=6)/\∀v,nP k c (l++[bL a v]))∨
  (∃n,bI k c l=(⟨lr,gw,n⟩,0)):=by
 have hF:=kI.1 h;obtain⟨hf,u⟩:=hF;have hc:=(qL hf).1;unfold bI;rw[jD,hf];show(∃e,iD k c (gx k c<|dg l) l=_/\_)∨_;simp only[aX,cond_true,cond_false];unfold iD;rw[u];simp only[aX,cond_true,cond_false];cases he:(gx k c<|dg l).events[l.length]? with
 | some e=>
  obtain⟨h1,h2⟩:=DI ⟨hf,u⟩ he;exact .inl ⟨e,Z,h1,h2⟩
 | none=>
  cases z:(gx k c<|dg l).asks with
  | true=>exact .inr (.inl ⟨_,Z,qE (pd hc _).1 z,fun v=>BJ ⟨hf,u⟩ he z v⟩)
  | false=>exact .inr (.inr ⟨_,Z⟩)
theorem sU {α β:Type} (f:α->β) {l:List α} (h:(l.map f).Nodup):l.Nodup:=List.Pairwise.of_map f (fun _ _ u e=>u (congrArg f e)) h
theorem Aa {α:Type}:∀{l m:List α},l.Nodup->(∀x∈l,x∈m)->m.length<=l.length->l.Perm m
 | [],m,_,_,h=>by rw[eN_<|Nat.le_zero.1 h]
 | x::l,m,hn,u,h=>by
  rw[List.nodup_cons] at hn;obtain⟨i,hi⟩:=gO_ (u x<|mS_ ..);have hp:=kT hi;have hlen:=hp.length_eq;rw[List.length_cons] at hlen h;refine(List.Perm.cons x<|Aa (l:=l) (m:=m.eraseIdx i) hn.2 (fun y hy=>?_) B).trans hp.symm;have hy':=hp.mem_iff.1 (u y<|mC_ _ hy);rcases mQ_.1 hy' with rfl | hy'
  ·exact absurd hy hn.1
  exact hy'
theorem Cb {α:Type}:∀{l m:List α},l.Nodup->(∀x∈l,x∈m)->l.length<=m.length
 | [],_,_,_=>Nat.zero_le _
 | x::l,m,hn,u=>by
  rw[List.nodup_cons] at hn;obtain⟨i,hi⟩:=gO_ (u x<|mS_ ..);have hp:=kT hi;have hlen:=hp.length_eq;rw[List.length_cons] at hlen⊢
  have:=Cb (l:=l) (m:=m.eraseIdx i) hn.2 fun y hy=>by
   have hy':=hp.mem_iff.1 (u y<|mC_ _ hy);rcases mQ_.1 hy' with rfl | hy'
   ·exact absurd hy hn.1
   exact hy'
  omega
def gj (loc:Int):List db->Nat
 | []=>0
 | e::l=>(bif (bif bq e then I e.loc loc else false) then 1 else 0)+gj loc l
def jf (loc:Int):List (List db)->Nat
 | []=>0
 | l::r=>gj loc l+jf loc r
def rz (loc:Int) (p:List Int×Int):Bool:=I p.2 loc
theorem qG {loc:Int} {t:Nat}:∀{l:List db} {n:Nat},((gh t l n).filter<|rz loc).length=gj loc l
 | [],_=>rfl
 | e::l,n=>by
  show(List.filter (rz loc) (bif bq e then([.ofNat (t+1),.ofNat n],e.loc)::gh t l (n+1) else gh t l (n+1))).length=(bif (bif bq e then I e.loc loc else false) then 1 else 0)+gj loc l;cases hw:bq e with
  | false=>
   simp only[cond_false,nA_];exact qG
  | true=>
   simp only[cond_true];rw[List.filter_cons];show(if I e.loc loc=true then _ else _:LM).length=_;cases he:I e.loc loc with
   | true=>simp only[if_true,cond_true,List.length_cons];rw[qG];omega
   | false=>simp only[cond_false,nA_];rw[if_neg (by decide)];exact qG
theorem tI {loc:Int}:∀{ls:List (List db)} {t:Nat},((gQ ls t).filter<|rz loc).length=jf loc ls
 | [],_=>rfl
 | l::ls,t=>by
  show(List.filter (rz loc) (gh t l 0++gQ ls (t+1))).length=gj loc l+jf loc ls;rw[List.filter_append,lA_,qG,tI]
theorem zr {t:Nat} {k:List Int} {v:Int}:∀{l:List db} {n:Nat},(k,v)∈gh t l n↔∃i e,l[i]?=some e/\bq e=true/\k= [.ofNat (t+1),.ofNat (n+i)]/\v=e.loc
 | [],n=>⟨fun h=>(by cases h),fun⟨i,e,h,_⟩=>by simp at h⟩
 | e::l,n=>by
  show(k,v)∈(bif bq e then([.ofNat (t+1),.ofNat n],e.loc)::gh t l (n+1) else gh t l (n+1))↔_;have ih:=zr (t:=t) (k:=k) (v:=v) (l:=l) (n:=n+1)
  have up:(k,v)∈gh t l (n+1)↔∃i e',l[i]?=some e'/\bq e'=true/\k= [.ofNat (t+1),.ofNat (n+(i+1))]/\v=e'.loc:=by
   rw[ih];constructor
   ·rintro ⟨i,e',h1,h2,u,h4⟩;exact⟨i,e',h1,h2,by rw[u,show n+1+i=n+(i+1) by omega],h4⟩
   rintro ⟨i,e',h1,h2,u,h4⟩;exact⟨i,e',h1,h2,by rw[u,show n+1+i=n+(i+1) by omega],h4⟩
  have cons:(∃i e',(e::l)[i]?=some e'/\bq e'=true/\k= [.ofNat (t+1),.ofNat (n+i)]/\v=e'.loc)↔(bq e=true/\k= [.ofNat (t+1),.ofNat n]/\v=e.loc)∨∃i e',l[i]?=some e'/\bq e'=true/\k= [.ofNat (t+1),.ofNat (n+(i+1))]/\v=e'.loc:=by
   constructor
   ·rintro ⟨i,e',h1,h2,u,h4⟩;cases i with
    | zero=>
     have:e=e':=by simpa using h1
     subst this;exact .inl ⟨h2,u,h4⟩
    | succ i=>exact .inr ⟨i,e',by simpa using h1,h2,u,h4⟩
   rintro (⟨h2,u,h4⟩ | ⟨i,e',h1,h2,u,h4⟩)
   ·exact⟨0,e,Z,h2,u,h4⟩
   exact⟨i+1,e',by simpa using h1,h2,u,h4⟩
  rw[cons];cases hw:bq e with
  | false=>
   simp only[cond_false];rw[up];exact⟨.inr,fun h=>by rcases h with ⟨h,_⟩ | h;cases h;exact h⟩
  | true=>
   simp only[cond_true,mQ_,Prod.mk.injEq,true_and];rw[up]
theorem re {k:List Int} {v:Int}:∀{ls:List (List db)} {t:Nat},(k,v)∈gQ ls t↔∃s i l e,ls[s]?=some l/\l[i]?=some e/\bq e=true/\k= [.ofNat (t+s+1),.ofNat i]/\v=e.loc
 | [],t=>⟨fun h=>(by cases h),fun⟨s,i,l,e,h,_⟩=>by simp at h⟩
 | l::ls,t=>by
  show(k,v)∈gh t l 0++gQ ls (t+1)↔_;rw[List.mem_append,zr,re (ls:=ls)];constructor
  ·rintro (⟨i,e,h1,h2,u,h4⟩ | ⟨s,i,l',e,h0,h1,h2,u,h4⟩)
   ·exact⟨0,i,l,e,Z,h1,h2,by rw[u,nA_],h4⟩
   exact⟨s+1,i,l',e,by simpa using h0,h1,h2,by rw[u,show t+1+s+1=t+(s+1)+1 by omega],h4⟩
  rintro ⟨s,i,l',e,h0,h1,h2,u,h4⟩;cases s with
  | zero=>
   have:l=l':=by simpa using h0
   subst this;exact .inl ⟨i,e,h1,h2,by rw[u,nA_],h4⟩
  | succ s=>exact .inr ⟨s,i,l',e,by simpa using h0,h1,h2,by rw[u,show t+1+s+1=t+(s+1)+1 by omega],h4⟩
theorem qd {k:List Int} {v:Int}:∀{ls:List (List dw)} {loc:Nat},(k,v)∈lZ ls loc↔∃ln r id,ls[ln]?=some r/\id∈r/\k=id.ints/\v= .ofNat (loc+ln)
 | [],loc=>⟨fun h=>(by cases h),fun⟨ln,r,id,h,_⟩=>by simp at h⟩
 | r::ls,loc=>by
  show(k,v)∈fS loc r++lZ ls (loc+1)↔_;rw[List.mem_append,qd (ls:=ls)];constructor
  ·rintro (h | ⟨ln,r',id,h1,h2,u,h4⟩)
   ·obtain⟨id,h1,h2⟩:=List.mem_map.1 h;cases h2;exact⟨0,r,id,Z,h1,Z,Z⟩
   exact⟨ln+1,r',id,by simpa using h1,h2,u,by rw[h4,show loc+1+ln=loc+(ln+1) by omega]⟩
  rintro ⟨ln,r',id,h1,h2,u,h4⟩;cases ln with
  | zero=>
   have:r=r':=by simpa using h1
   subst this;exact .inl<|List.mem_map.2 ⟨id,h2,by rw[u,h4,Nat.add_zero]⟩
  | succ ln=>exact .inr ⟨ln,r',id,by simpa using h1,h2,u,by rw[h4,show loc+1+ln=loc+(ln+1) by omega]⟩
theorem sl {loc:Nat} (r:List dw):(fS loc r).filter (rz (.ofNat loc))=fS loc r:=List.filter_eq_self.2 fun p hp=>by
 obtain⟨id,_,rfl⟩:=List.mem_map.1 hp;show I (.ofNat loc) (.ofNat loc)=true;rw[fv];simp
theorem rp {loc x:Nat} (r:List dw) (h:loc≠x):(fS loc r).filter (rz (.ofNat x))= []:=List.filter_eq_nil_iff.2 fun p hp=>by
 obtain⟨id,_,rfl⟩:=List.mem_map.1 hp;show¬I (.ofNat loc) (.ofNat x)=true;rw[fv];simp[h]
theorem uR {x:Nat}:∀{ls:List (List dw)} {loc ln:Nat} {r:List dw},ls[ln]?=some r->loc+ln=x->(lZ ls loc).filter (rz (.ofNat x))=fS x r
 | [],_,_,_,h,_=>by simp at h
 | q::ls,loc,0,r,h,hx=>by
  have:q=r:=by simpa using h
  subst this;have hx:loc=x:=by omega
  subst hx;show(fS loc q++lZ ls (loc+1)).filter _=_;rw[List.filter_append,sl]
  have:(lZ ls (loc+1)).filter (rz (.ofNat loc))= []:=List.filter_eq_nil_iff.2 fun p hp=>by
   obtain⟨k,v⟩:=p;obtain⟨ln,r,id,_,_,_,rfl⟩:=qd.1 hp;show¬I (.ofNat (loc+1+ln)) (.ofNat loc)=true;rw[fv];simp;omega
  rw[this,List.append_nil]
 | q::ls,loc,ln+1,r,h,hx=>by
  show(fS loc q++lZ ls (loc+1)).filter _=_;rw[List.filter_append,rp q B,uR (ls:=ls) (loc:=loc+1) (ln:=ln) (by simpa using h) B];rfl
def x9 (g:XG) (loc:Int) (id:dw):Bool:=
 bif (fh g id).isSome then(bif I id.ia 0 then false else bif bq (AP<|fh g id) then I (AP<|fh g id).loc loc else false) else false
structure EP (g:XG) (ln:Nat) (r:List dw):Prop where
 NM:∀id∈r,x9 g (.ofNat ln) id=true
 nodup:r.Nodup
 C0:r.length=jf (.ofNat ln) g.threads
theorem BX {x y:dw} (h:x.ints=y.ints):x=y:=by
 have:dk x.ints y.ints=true:=dc.2 h;rw[dw.same] at this;exact dc.1 this
theorem zN {g:XG} {ln:Nat} {id:dw}:x9 g (.ofNat ln) id=true↔(id.ints,Int.ofNat ln)∈gQ g.threads 0:=by
 rw[re];unfold x9;constructor
 ·intro h;cases u:fh g id with
  | none=>rw[u] at h;cases h
  | some e=>
   rw[u] at h;obtain⟨th,ix⟩:=id;have h:(bif I th 0 then false else bif bq e then I e.loc (.ofNat ln) else false)=true:=h;cases h0:I th 0 with
   | true=>rw[h0] at h;cases h
   | false=>
    rw[h0] at h;cases hw:bq e with
    | false=>rw[hw] at h;cases h
    | true=>
     rw[hw] at h
     have hl:e.loc= .ofNat ln:=by
      have h:I e.loc (.ofNat ln)=true:=h;rw[dF] at h;exact of_decide_eq_true h
     obtain⟨t,i,rfl,rfl,_,_,hp⟩:=Ii (by rw[u];rfl);cases t with
     | zero=>cases h0
     | succ t=>
      rw[pT] at u;cases z:g.threads[t]? with
      | none=>rw[z] at u;cases u
      | some l=>
       rw[z] at u;exact⟨t,i,l,e,z,u,hw,by rw[nA_];rfl,hl.symm⟩
 rintro ⟨s,i,l,e,h1,h2,A,h4,h5⟩;obtain⟨th,ix⟩:=id;rw[nA_] at h4;have h4: [th,ix]= [.ofNat (s+1),.ofNat i]:=h4;simp only[List.cons.injEq,and_true] at h4;obtain⟨rfl,rfl⟩:=h4;have he:fh g ⟨.ofNat (s+1),.ofNat i⟩=some e:=by rw[pT,h1];exact h2
 rw[he];show(bif I (.ofNat (s+1)) 0 then false else bif bq e then I e.loc (.ofNat ln) else false)=true;rw[show I (.ofNat (s+1)) 0=false by rw[show(0:Int)= .ofNat 0 from Z,fv];simp,A,<-h5];show I (.ofNat ln) (.ofNat ln)=true;rw[fv];simp
theorem tx {ls:List (List db)} {t:Nat}:(gQ ls t).Nodup:=sU _ qx
theorem sY {loc:Nat} {r:List dw} (h:r.Nodup):(fS loc r).Nodup:=by
 unfold fS;refine List.Pairwise.map _ (fun a b u he=>u ?_) h;exact BX (Prod.mk.inj he).1
theorem uS {g:XG} (A:∀(t:Nat) (l:List db) (i:Nat) (e:db),g.threads[t]?=some l->l[i]?=some e->bq e=true->∃ln:Nat,e.loc= .ofNat ln/\ln<g.order.length):
  (∀(ln:Nat) (r:List dw),g.order[ln]?=some r->EP g ln r)↔(gQ g.threads 0).Perm (lZ g.order 0):=by
 constructor
 ·intro h;refine Aa tx (fun p hp=>?_) ?_
  ·obtain⟨k,v⟩:=p;obtain⟨s,i,l,e,h1,h2,L,h4,h5⟩:=re.1 hp;obtain⟨ln,M,Q⟩:=A s l i e h1 h2 L;obtain⟨r,z⟩:=cm Q;have ho:=h ln r z
   have hq:(fS ln r).Perm ((gQ g.threads 0).filter<|rz (.ofNat ln)):=by
    refine Aa (sY ho.nodup) (fun q hq=>?_) ?_
    ·obtain⟨id,u,rfl⟩:=List.mem_map.1 hq;refine List.mem_filter.2 ⟨zN.1<|ho.NM id u,?_⟩;show I (.ofNat ln) (.ofNat ln)=true;rw[fv];simp
    rw[tI,<-ho.C0];unfold fS;rw[lM_];exact nR_ _
   have hm:(k,v)∈fS ln r:=hq.mem_iff.2 (List.mem_filter.2 ⟨hp,by show I v (.ofNat ln)=true;rw[h5,M,fv];simp⟩);obtain⟨id,u,he⟩:=List.mem_map.1 hm;cases he;exact qd.2 ⟨ln,r,id,z,u,Z,by rw[nA_]⟩
  
  have key:∀(m:Nat) (ls:List (List dw)),(∀(ln:Nat) (r:List dw),ls[ln]?=some r->EP g (m+ln) r)->((lZ ls m).Nodup/\∀p∈lZ ls m,p∈gQ g.threads 0):=by
   intro m ls;induction ls generalizing m with
   | nil=>intro _;exact⟨List.nodup_nil,fun p hp=>by cases hp⟩
   | cons r ls ih=>
    intro K
    obtain⟨R,W⟩:=ih (m+1) fun ln r' E=>by
     have:=K (ln+1) r' (by simpa using E);rwa[show m+(ln+1)=m+1+ln by omega] at this
    have h0:=K 0 r Z;rw[Nat.add_zero] at h0;refine⟨?_,fun p hp=>?_⟩
    ·show(fS m r++lZ ls (m+1)).Nodup;rw[List.nodup_append];refine⟨sY h0.nodup,R,fun a X b hb F=>?_⟩;obtain⟨id,_,rfl⟩:=List.mem_map.1 X;subst F;obtain⟨ln,r',id',_,_,_,h4⟩:=qd.1 hb;have:m=m+1+ln:=iJ_ h4;omega
    rcases List.mem_append.1 (show p∈fS m r++lZ ls (m+1) from hp) with hp | hp
    ·obtain⟨id,u,rfl⟩:=List.mem_map.1 hp;exact zN.1<|h0.NM id u
    exact W p hp
  obtain⟨k1,k2⟩:=key 0 g.order fun ln r z=>by rw[nA_];exact h ln r z
  exact Cb k1 k2
 intro hp ln r z;have C:∀id∈r,(id.ints,Int.ofNat ln)∈gQ g.threads 0:=fun id u=>hp.mem_iff.2 (qd.2 ⟨ln,r,id,z,u,Z,by rw[nA_]⟩)
 have hf:=uR (x:=ln) (loc:=0) z (nA_ _);refine⟨fun id u=>zN.2 (C id u),?_,?_⟩
 ·have hn:(lZ g.order 0).Nodup:=hp.nodup_iff.1 tx;have G:(fS ln r).Nodup:=by rw[<-hf];exact hn.filter _
  exact sU _ G
 have:=(hp.filter<|rz (.ofNat ln)).length_eq;rw[tI,hf] at this;rw[this];unfold fS;rw[lM_]
theorem mf {g:XG} (h1:eK g=false) (h2:¬yu g):cd g=2:=by
 have u:cd g≠0:=fun h=>h2 (im.1 h)
 unfold cd at u⊢;rw[h1] at u⊢;simp only[cond_false] at u⊢;generalize I (.ofNat g.from_.length) (.ofNat g.threads.length)=a at u⊢;generalize I (.ofNat g.order.length) (.ofNat g.init.length)=b at u⊢;generalize lu g g.threads g.from_ 0=c at u⊢;generalize eB g=d at u⊢;cases a<;>cases b<;>cases c<;>cases d<;>first | rfl | exact absurd rfl u
theorem CJ {g:XG} (h:bU 4 (.ofNat g.threads.length)=true):eK g=true:=by unfold eK;rw[h];rfl
theorem CL {g:XG} (h:bU 6 (.ofNat g.init.length)=true):eK g=true:=by
 unfold eK;rw[h];cases bU 4 (.ofNat g.threads.length)<;>rfl
theorem CK {g:XG} {i:Nat} {x:List db} (hx:g.threads[i]?=some x) (h:bU 14 (.ofNat x.length)=true):eK g=true:=by
 unfold eK;rw[show(g.threads.any fun l=>bU 14 (.ofNat l.length))=true from List.any_eq_true.2 ⟨x,gB_ hx,h⟩];cases bU 4 (.ofNat g.threads.length)<;>cases bU 6 (.ofNat g.init.length)<;>rfl
theorem ED {g:XG} {i:Nat} (h1:bU 4 (.ofNat g.threads.length)=false) (h2:bU 6 (.ofNat g.init.length)=false) (hi:g.threads.length<=i) (u:∀(k:Nat) (l:List db),k<i->g.threads[k]?=some l->bU 14 (.ofNat l.length)=false):eK g=false:=by
 unfold eK;rw[h1,h2];show(g.threads.any fun l=>bU 14 (.ofNat l.length))=false;rw[List.any_eq_false];intro l hl;obtain⟨k,hk⟩:=gO_ hl;have:=(gA.1 hk).1;rw[u k l B hk];simp
theorem pN {g:XG} (h:eK g=true):cd g=3:=by unfold cd;rw[h];rfl
theorem MN {a b:Int} (h:I a b=true):a=b:=by rw[dF] at h;exact of_decide_eq_true h
theorem Cr {e:db} {n:Nat} (h:bW e (.ofNat n)=true) (hw:bq e=true):∃ln:Nat,e.loc= .ofNat ln/\ln<n:=by
 unfold bW at h
 have hk:I e.kind 4=false:=by
  unfold bq at hw;cases h4:I e.kind 4 with
  | false=>rfl
  | true=>
   have:=MN h4;rw[this] at hw;exact absurd hw (by decide)
 rw[hk] at h
 have key:(bif aX (bU e.loc 0) then bU e.loc (.ofNat n) else false)=true:=by
  revert h;generalize (bif aX (bU e.loc 0) then bU e.loc (.ofNat n) else false)=q;cases bU e.kind 1<;>cases bU 4 e.kind<;>cases bU e.order 1<;>cases bU 6 e.order<;>cases (bif (!dD e) then aX (I e.read 0) else false)<;>cases (bif (!bq e) then aX (I e.write 0) else false)<;>intro h<;>first | exact h | cases h
 cases h0:bU e.loc 0 with
 | true=>rw[h0] at key;cases key
 | false=>
  rw[h0] at key;obtain⟨ln,hl⟩:=iQ h0;rw[hl] at key;exact⟨ln,hl,bu key⟩
theorem Jd {g:XG} {t n:Nat} {e:db} {q:dw} (h:yf g t n e q=true):bW e (.ofNat g.init.length)=true/\dJ g ⟨.ofNat (t+1),.ofNat n⟩ q=true:=by
 unfold yf at h;cases h1:bW e (.ofNat g.init.length) with
 | false=>rw[h1] at h;cases h
 | true=>rw[h1] at h;exact⟨Z,h⟩
theorem Nd {g:XG} {t n:Nat} {e:db} {q:dw} (h1:bW e (.ofNat g.init.length)=true) (h2:dJ g ⟨.ofNat (t+1),.ofNat n⟩ q=true):yf g t n e q=true:=by
 unfold yf;rw[h1];exact h2
theorem pO {loc:Int}:∀{l:List db} {i:Nat} {x:db},l[i]?=some x->gj loc (l.take (i+1))=gj loc (l.take i)+(bif (bif bq x then I x.loc loc else false) then 1 else 0)
 | [],_,_,h=>by simp at h
 | e::l,0,x,h=>by
  have:e=x:=by simpa using h
  subst this;show(bif (bif bq e then I e.loc loc else false) then 1 else 0)+gj loc []=0+_;rw[nA_];rfl
 | e::l,i+1,x,h=>by
  have h':l[i]?=some x:=by simpa using h
  show(bif (bif bq e then I e.loc loc else false) then 1 else 0)+gj loc (l.take (i+1))=(bif (bif bq e then I e.loc loc else false) then 1 else 0)+gj loc (l.take i)+_;rw[pO h',Nat.add_assoc]
theorem Kt {loc:Int} {l:List db} {i:Nat} {x:db} (h:l[i]?=some x) (h1:bq x=true) (h2:I x.loc loc=true):gj loc (l.take (i+1))=gj loc (l.take i)+1:=by
 rw[pO h,h1,h2];rfl
theorem HP {loc:Int} {l:List db} {i:Nat} {x:db} (h:l[i]?=some x) (h1:bq x=false∨I x.loc loc=false):gj loc (l.take (i+1))=gj loc (l.take i):=by
 rw[pO h];rcases h1 with h1 | h1
 ·rw[h1];rfl
 rw[h1];cases bq x<;>rfl
theorem uC {loc:Int}:∀{ls:List (List db)} {i:Nat} {x:List db},ls[i]?=some x->jf loc (ls.take (i+1))=jf loc (ls.take i)+gj loc x
 | [],_,_,h=>by simp at h
 | l::ls,0,x,h=>by
  have:l=x:=by simpa using h
  subst this;show gj loc l+jf loc []=0+_;rw[nA_];rfl
 | l::ls,i+1,x,h=>by
  have h':ls[i]?=some x:=by simpa using h
  show gj loc l+jf loc (ls.take (i+1))=gj loc l+jf loc (ls.take i)+_;rw[uC h',Nat.add_assoc]
theorem tJ {loc:Int}:∀{l:List db},gj loc l<=l.length
 | []=>nR_ _
 | e::l=>by
  have:=tJ (loc:=loc) (l:=l);show(bif (bif bq e then I e.loc loc else false) then 1 else 0)+gj loc l<=l.length+1;cases (bif bq e then I e.loc loc else false) with
  | true=>show 1+_<=_;omega
  | false=>show 0+_<=_;omega
theorem yF {loc:Int} {b:Nat}:∀{ls:List (List db)},(∀l∈ls,l.length<=b)->jf loc ls<=ls.length*b
 | [],_=>Nat.zero_le _
 | l::ls,h=>by
  have h1:=h l (mS_ ..);have h2:=yF (loc:=loc) (ls:=ls) fun x hx=>h x (mC_ _ hx)
  have h3:=tJ (loc:=loc) (l:=l);show gj loc l+jf loc ls<=(ls.length+1)*b;rw[Nat.succ_mul];omega
theorem zK {loc:Int} {ls:List (List db)} {i:Nat} (h1:ls.length<=4) (h2:∀l∈ls,l.length<=14):jf loc (ls.take i)<=56:=by
 have h3:=yF (loc:=loc) (b:=14) (ls:=ls.take i) fun l hl=>h2 l (List.mem_of_mem_take hl)
 have h4:(ls.take i).length<=4:=by rw[lT_];omega
 have h5:(ls.take i).length*14<=4*14:=nM_ _ h4;omega
theorem I6 {α:Type} {l:List α} (h:l.Nodup) {i j:Nat} {a b:α} (u:i<j) (z:l[i]?=some a) (hb:l[j]?=some b):a≠b:=fun e=>by
 obtain⟨h1,h2⟩:=gA.1 z;obtain⟨A,h4⟩:=gA.1 hb;have:=List.pairwise_iff_getElem.1 h i j h1 A u;rw[h2,h4] at this;exact this e
theorem I7 {α:Type} {l:List α} (h:∀(i j:Nat) (a b:α),i<j->l[i]?=some a->l[j]?=some b->a≠b):l.Nodup:=
 List.pairwise_iff_getElem.2 fun i j h1 h2 u=>h i j _ _ u (gC h1) (gC h2)
def jq (g:XG) (loc:Int):Int:=match(cu g loc).getLast? with | none=>0 | some id=>(AP<|fh g id).write
def pV (k:Nat):List XC->List (List db)->Option (List Int)
 | [],_=>some []
 | _::_,[]=>none
 | c::l,r::g=>bif I (bI k c r).2 0 then(pV k l g).map fun e=>(bI k c r).1.fin::e else none
def fl (k:Nat) (l:List XC) (g:XG):Option (List Int):=
 bif aX (I (cd g) 0) then none else bif aX (I (.ofNat l.length) (.ofNat g.threads.length)) then none else pV k l g.threads
def lL (g:XG):List Int->Nat->Bool
 | [],_=>true
 | v::r,i=>bif aX (I v<|jq g (.ofNat i)) then false else lL g r (i+1)
def jm (k:Nat) (l:List XC) (m:List Int) (g:XG):Option (List Int):=
 match fl k l g with
 | none=>none
 | some e=>bif aX (I (.ofNat m.length) (.ofNat g.init.length)) then none else bif lL g m 0 then some e else none
def yc (k:Nat) (l:List XC) (m:List Int) (g:XG):Bool:=(jm k l m g).isSome
structure XM where
 mem:List Int
 g:XG
structure xX where
 vq:db
 fr:dw
 place:Int
 mem:List Int
def nF (n:ji):Int:=bif aX (I n.ask.kind 0) then n.ask.loc else n.event.loc
def fz (n:ji) (m:List Int) (g:XG):xX:=
 bif I n.event.kind 4 then⟨n.event,⟨0,0⟩,0,m⟩ else
 let all:=cu g (nF n)
 let vq:=bif aX (I n.ask.kind 0) then bL n.ask ((m[(nF n).toNat]?).getD 0) else n.event
 let fr:=bif aX (I n.ask.kind 0) then(all.getLast?).getD ⟨0,0⟩ else⟨0,0⟩
 bif aX (I vq.kind 1) then⟨vq,fr,.ofNat all.length,m.set (nF n).toNat vq.write⟩ else⟨vq,fr,0,m⟩
def ef (n:ji) (g:XG):Bool:=bif aX (I n.event.kind 4) then(bif bU (nF n) 0 then true else aX (bU (nF n) (.ofNat g.init.length))) else false
def jP (k:Nat) (c:XC) (row:List db) (g:XG):Int:=
 bif aX (I (bI k c row).2 0) then(bI k c row).2 else
 bif aX (I (bI k c row).1.fin 0) then 10 else
 bif aX (bU (.ofNat row.length) 14) then 3 else
 bif ef (bI k c row).1 g then 2 else 0
def we (p:xX) (th:Int) (g:XG):Option XM×Int:=
 match gf g th p.vq p.fr p.place with
 | (some g',e)=>(some ⟨p.mem,g'⟩,e)
 | (none,e)=>(none,e)
def eG (k:Nat) (l:List XC) (r:XM) (t:Nat):Option XM×Int:=
 match l[t]?,r.g.threads[t]? with
 | some c,some row=>bif aX (I (jP k c row r.g) 0) then(none,jP k c row r.g) else we (fz (bI k c row).1 r.mem r.g) (.ofNat (t+1)) r.g
 | _,_=>(none,2)
structure tC (k:Nat) (l:List XC) (r:XM):Prop where
 Gi:cd r.g=0
 len:r.g.threads.length=l.length
 mem:r.mem.length=r.g.init.length
 last:∀i:Nat,i<r.g.init.length->r.mem[i]?=some (jq r.g (.ofNat i))
 fits:∀(t:Nat) (c:XC) (row:List db),l[t]?=some c->r.g.threads[t]?=some row->nP k c row
theorem wv {k:Nat}:∀{l:List XC} {g:List (List db)},l.length=g.length->(∀(t:Nat) (c:XC) (row:List db),l[t]?=some c->g[t]?=some row->nP k c row)->∃e,pV k l g=some e/\e.length=l.length
 | [],_,_,_=>⟨[],Z,Z⟩
 | _::_,[],h,_=>by simp at h
 | c::l,r::g,h,hf=>by
  obtain⟨e,he,hl⟩:=wv (k:=k) (l:=l) (g:=g) (by simpa using h) (fun t c row h1 h2=>hf (t+1) c row (by simpa using h1) (by simpa using h2));have:=kI.2 (hf 0 c r Z Z);refine⟨(bI k c r).1.fin::e,?_,?_⟩
  ·unfold pV;rw[this,he];rfl
  simp[hl]
theorem B9 {g:XG}:∀{m:List Int} {i:Nat},(∀j v,m[j]?=some v->v=jq g (.ofNat (i+j)))->lL g m i=true
 | [],_,_=>rfl
 | v::r,i,h=>by
  have h0:=h 0 v Z;rw[Nat.add_zero] at h0;unfold lL;rw[h0,fP];exact B9 fun j v hv=>by have:=h (j+1) v (by simpa using hv);rwa[show i+1+j=i+(j+1) by omega]
theorem tC.is {k:Nat} {l:List XC} {r:XM} (h:tC k l r):yc k l r.mem r.g=true:=by
 obtain⟨e,he,_⟩:=wv (k:=k) (l:=l) (g:=r.g.threads) h.len.symm h.fits;unfold yc jm fl;rw[h.Gi,h.len,fP,he];simp only[show aX (I 0 0)=false from Z,show aX true=false from Z,cond_false];rw[h.mem,B9 fun j v hv=>?_]
 ·simp only[fP,aX,cond_true,cond_false];rfl
 have hj:=(gA.1 hv).1;have:=h.last j (by rw[<-h.mem];exact hj);rw[hv] at this;rw[nA_];exact Option.some.inj this
theorem Jg {g:XG} (h:yu g) {ln:Nat} {r:List dw} {id:dw} (u:g.order[ln]?=some r) (hm:id∈r):∃w,fh g id=some w:=by
 have h1:=h.perm.mem_iff.2 (w3 (loc:=0) u hm);obtain⟨s,i,l,e,z,k2,_,A,_⟩:=re.1 h1;have e1:id=⟨.ofNat (s+1),.ofNat i⟩:=BX (by rw[A,nA_];rfl);subst e1;exact⟨e,by rw[pT,z];exact k2⟩
theorem KX {g:XG} {ln:Nat} (h:ln<g.init.length):∃w,fh g ⟨0,.ofNat ln⟩=some w:=by
 refine⟨⟨2,ln,1,0,g.init[ln]⟩,?_⟩;show(g.init[ln]?).map _=_;rw[gC h];rfl
theorem sR {g:XG} (hc:cd g=0) {ln:Nat} {r:List dw} (u:g.order[ln]?=some r):jq g (.ofNat ln)=(AP<|fh g ((r.getLast?).getD ⟨0,.ofNat ln⟩)).write:=by
 unfold jq;rw[ez (by rw[hc];rfl) u];cases h:r.getLast? with
 | none=>rw[List.getLast?_eq_none_iff.1 h];rfl
 | some x=>
  obtain⟨P,rfl⟩:=List.getLast?_eq_some_iff.1 h;rw[<-List.cons_append,List.getLast?_append];rfl
theorem g8 {g:XG} (hc:cd g=0) {ln:Nat} (h:ln<g.init.length):∃r,g.order[ln]?=some r:=cm (by rw[(im.1 hc).order];exact h)
theorem GO {g g':XG} (hc:cd g=0) (u:cd g'=0) (hold:∀id w,fh g id=some w->fh g' id=some w) {ln:Nat} (h:ln<g.init.length) (A:g'.order[ln]?=g.order[ln]?):jq g' (.ofNat ln)=jq g (.ofNat ln):=by
 obtain⟨r,z⟩:=g8 hc h;rw[sR hc z,sR u (by rw[A];exact z)]
 have:∃w,fh g ((r.getLast?).getD ⟨0,.ofNat ln⟩)=some w:=by
  cases hl:r.getLast? with
  | none=>exact KX h
  | some x=>exact Jg (im.1 hc) z (List.mem_of_getLast? hl)
 obtain⟨w,hw⟩:=this;rw[hw,hold _ _ hw]
theorem HI {g g':XG} {th pl:Int} {e:db} {fr:dw} (h:gf g th e fr pl=(some g',0)):g'.init=g.init:=by
 obtain⟨_,tm,row,frow,_,_,_,_,_,rfl,_⟩:=jS h;rfl
theorem Ki {g g':XG} {tm:Nat} {pl:Int} {e:db} {fr:dw} (h:gf g (.ofNat (tm+1)) e fr pl=(some g',0)):∃row,g.threads[tm]?=some row/\g'.threads=g.threads.set tm (row++[e]):=by
 obtain⟨_,t2,row,frow,u,h1,_,_,_,rfl,_⟩:=jS h;have:tm=t2:=by have:=iJ_ u;omega
 subst this;exact⟨row,h1,by rw[mg]⟩
theorem F8 {g g':XG} {th pl:Int} {e:db} {fr:dw} (h:gf g th e fr pl=(some g',0)) {ln:Nat} (hl:bq e=true->e.loc≠ .ofNat ln):g'.order[ln]?=g.order[ln]?:=by
 obtain⟨_,tm,row,frow,_,_,_,_,hp,rfl,_⟩:=jS h;rw[mg];refine FB fun hw=>?_
 obtain⟨l2,r,h1,_⟩:=lP hp hw;have:=hl hw;rw[h1] at this⊢;exact fun e=>this (by rw[<-e];rfl)
theorem C9 {g g':XG} {tm ln:Nat} {e:db} {fr:dw} {r:List dw} (u:g.order[ln]?=some r) (h:gf g (.ofNat (tm+1)) e fr (.ofNat (r.length+1))=(some g',0)) (hw:bq e=true) (hl:e.loc= .ofNat ln):∃row,g.threads[tm]?=some row/\g'.order[ln]?=some (r++[⟨.ofNat (tm+1),.ofNat row.length⟩]):=by
 obtain⟨_,t2,row,frow,z,h1,_,_,_,rfl,_⟩:=jS h;have:tm=t2:=by have:=iJ_ z;omega
 subst this;refine⟨row,h1,?_⟩;rw[mg];show(Ha g.order e _ _)[ln]?=_;unfold Ha;rw[hw,hl];have hlt:=(gA.1 u).1;simp only[cond_true];rw[show(Int.ofNat ln).toNat=ln from Z,u];rw[List.getElem?_set_self hlt];show some (List.take ((Int.ofNat (r.length+1)).toNat-1) r++_::List.drop ((Int.ofNat (r.length+1)).toNat-1) r)=_;rw[show(Int.ofNat (r.length+1)).toNat-1=r.length from Z,List.take_length,List.drop_length]
theorem nj {n:ji} {m:List Int} {g:XG} (h:I n.event.kind 4=true):fz n m g=⟨n.event,⟨0,0⟩,0,m⟩:=by unfold fz;rw[h];rfl
theorem uu {a:rj} {v:Int} (h:a.kind=2∨a.kind=4∨a.kind=5∨a.kind=6):(bL a v).loc=a.loc/\(dD (bL a v)=true):=by
 refine⟨?_,(kP h).1⟩;unfold bL;rcases h with h | h | h | h<;>rw[h]
 ·rfl
 ·exact cy (P:=fun e:db=>e.loc=a.loc) (I v a.a) Z Z
 ·rfl
 rfl
structure C7 (k:Nat) (l:List XC) (r:XM) (t:Nat) (c:XC) (row:List db) (p:xX) (r':XM):Prop where
 code:l[t]?=some c
 rowAt:r.g.threads[t]?=some row
 err:jP k c row r.g=0
 jB:p=fz (bI k c row).1 r.mem r.g
 add:gf r.g (.ofNat (t+1)) p.vq p.fr p.place=(some r'.g,0)
 mem:r'.mem=p.mem
theorem JA {k:Nat} {l:List XC} {r r':XM} {t:Nat} (h:eG k l r t=(some r',0)):∃c row p,C7 k l r t c row p r':=by
 unfold eG at h;cases h1:l[t]? with
 | none=>rw[h1] at h;cases h
 | some c=>
 cases h2:r.g.threads[t]? with
 | none=>rw[h1,h2] at h;cases h
 | some row=>
 rw[h1,h2] at h;dsimp only at h;cases u:I (jP k c row r.g) 0 with
 | false=>rw[u] at h;cases h
 | true=>
  rw[u] at h;have h:we (fz (bI k c row).1 r.mem r.g) (.ofNat (t+1)) r.g=(some r',0):=h;unfold we at h;cases h4:gf r.g (.ofNat (t+1)) (fz (bI k c row).1 r.mem r.g).vq (fz (bI k c row).1 r.mem r.g).fr (fz (bI k c row).1 r.mem r.g).place with
  | mk o e=>
   rw[h4] at h;cases o with
   | none=>cases h
   | some g'=>
    simp only[Prod.mk.injEq,oJ_] at h;obtain⟨rfl,rfl⟩:=h;exact⟨c,row,_,h1,h2,sH u,Z,h4,Z⟩
theorem C7.step {k:Nat} {l:List XC} {r r':XM} {t:Nat} {c:XC} {row:List db} {p:xX} (h:C7 k l r t c row p r'):eG k l r t=(some r',0):=by
 unfold eG;rw[h.code,h.rowAt];dsimp only;rw[h.err,<-h.jB];show we p _ _=_;unfold we;rw[h.add];dsimp only;obtain⟨m,g⟩:=r';have:=h.mem;dsimp only at this;subst this;rfl
theorem Gu {k:Nat} {c:XC} {row:List db} {g:XG} (h:jP k c row g=0):(bI k c row).2=0/\(bI k c row).1.fin=0/\row.length<14/\ef (bI k c row).1 g=false:=by
 unfold jP at h;cases h1:I (bI k c row).2 0 with
 | false=>
  rw[h1] at h;have h:(bI k c row).2=0:=h;rw[h] at h1;cases h1
 | true=>
 rw[h1] at h;cases h2:I (bI k c row).1.fin 0 with
 | false=>rw[h2] at h;cases h
 | true=>
 rw[h2] at h;cases u:bU (.ofNat row.length) 14 with
 | false=>rw[u] at h;cases h
 | true=>
 rw[u] at h;cases h4:ef (bI k c row).1 g with
 | true=>rw[h4] at h;cases h
 | false=>exact⟨sH h1,sH h2,bu (b:=14) u,Z⟩
theorem me {n:ji} {g:XG} (h:ef n g=false) (hk:I n.event.kind 4=false):∃ln:Nat,nF n= .ofNat ln/\ln<g.init.length:=by
 unfold ef at h;rw[hk] at h;have h:(bif bU (nF n) 0 then true else aX (bU (nF n) (.ofNat g.init.length)))=false:=h;cases h1:bU (nF n) 0 with
 | true=>rw[h1] at h;cases h
 | false=>
  rw[h1] at h;obtain⟨ln,hl⟩:=iQ h1;rw[hl] at h⊢;exact⟨ln,Z,bu<|bj h⟩
theorem rP {g g':XG} {th:Int} {e:db} {fr:dw} {ln:Nat} (h:gf g th e fr (.ofNat (cu g (.ofNat ln)).length)=(some g',0)) (hl:ln<g.init.length):bq e=true:=by
 obtain⟨hc,_,_,_,_,_,_,_,hb,_,_⟩:=jS h;unfold cT at hb;obtain⟨o,u⟩:=g8 hc hl;cases hw:bq e with
 | true=>rfl
 | false=>rw[hw,ez (by rw[hc];rfl) u] at hb;cases hb
structure C5 (k:Nat) (c:XC) (row:List db) (r:XM) (p:xX):Prop where
 fits:nP k c (row++[p.vq])
 look:I (bI k c row).1.event.kind 4=false->∃ln:Nat,ln<r.g.init.length/\nF (bI k c row).1= .ofNat ln/\p.vq.loc= .ofNat ln/\p.vq.kind≠4
 cases:(p.vq.kind=4/\p.mem=r.mem/\p.place=0)∨∃ln:Nat,ln<r.g.init.length/\p.vq.loc= .ofNat ln/\p.vq.kind≠4/\((bq p.vq=false/\p.mem=r.mem/\p.place=0)∨(bq p.vq=true/\p.mem=r.mem.set ln p.vq.write/\p.place= .ofNat (cu r.g (.ofNat ln)).length))
theorem Fo {e:db} {n:Int} (h:I e.kind n=false):e.kind≠n:=fun u=>by rw[u,fP] at h;cases h
theorem Lm {k:Nat} {c:XC} {row:List db} {r:XM} {th:Int} {g':XG} (h:jP k c row r.g=0) (u:gf r.g th (fz (bI k c row).1 r.mem r.g).vq (fz (bI k c row).1 r.mem r.g).fr (fz (bI k c row).1 r.mem r.g).place=(some g',0)):C5 k c row r (fz (bI k c row).1 r.mem r.g):=by
 obtain⟨h1,h2,h3,h4⟩:=Gu h;rcases qa h1 with ⟨e,he,hf,M⟩ | ⟨a,Q,hk,hf⟩ | ⟨n,hn⟩
 ·have key:∀p:xX,fz (bI k c row).1 r.mem r.g=p->C5 k c row r p:=by
   rw[he] at h4 u⊢;intro p hp;rw[hp] at u;dsimp only at h4;cases h5:I e.kind 4 with
   | true=>
    rw[nj h5] at hp;subst hp;exact⟨hf,fun L=>(by rw[he] at L;dsimp only at L;rw[h5] at L;cases L),.inl ⟨MN h5,Z,Z⟩⟩
   | false=>
    obtain⟨ln,hl,z⟩:=me h4 h5;have G:e.loc= .ofNat ln:=hl;unfold fz at hp;rw[hl] at hp;dsimp only at hp;rw[h5,show I gw.kind 0=true from Z] at hp;simp only[show aX true=false from Z,cond_false] at hp;cases F:I e.kind 1 with
    | true=>
     have:dD e=true:=by unfold dD;rw[F];rfl
     rw[this] at M;cases M
    | false=>
     rw[F] at hp;simp only[show aX false=true from Z,cond_true] at hp;subst hp;exact⟨hf,fun _=>⟨ln,z,by rw[he];exact hl,G,Fo h5⟩,.inr ⟨ln,z,G,Fo h5,.inr ⟨rP u z,Z,Z⟩⟩⟩
  exact key _ Z
 ·have key:∀p:xX,fz (bI k c row).1 r.mem r.g=p->C5 k c row r p:=by
   rw[Q] at h4 u⊢;intro p hp;rw[hp] at u;have K:I a.kind 0=false:=by rcases hk with e | e | e | e<;>rw[e]<;>rfl
   have R:nF ⟨lr,a,0⟩=a.loc:=by unfold nF;dsimp only;rw[K];rfl
   obtain⟨ln,hl,z⟩:=me h4 Z;unfold fz at hp;rw[hl] at hp;dsimp only at hp;rw[K,show I lr.kind 4=false from Z] at hp;simp only[show aX false=true from Z,cond_true,cond_false] at hp;have C:∀v,(bL a v).loc= .ofNat ln:=fun v=>by rw[(uu hk).1,<-R,hl]
   have E:∀v,(bL a v).kind≠4:=fun v W=>by
    have h5:=(kP (v:=v) hk).1;unfold dD at h5;rw[W] at h5;cases h5
   generalize hv:(r.mem[(Int.ofNat ln).toNat]?).getD 0=v at hp;have A:nF (bI k c row).1= .ofNat ln:=by rw[Q];exact hl
   cases F:I (bL a v).kind 1 with
   | true=>
    rw[F] at hp;simp only[show aX true=false from Z,cond_false] at hp;subst hp;refine⟨hf v,fun _=>⟨ln,z,A,C v,E v⟩,.inr ⟨ln,z,C v,E v,.inl ⟨?_,Z,Z⟩⟩⟩;show bq (bL a v)=false;unfold bq;rw[MN F];rfl
   | false=>
    rw[F] at hp;simp only[show aX false=true from Z,cond_true] at hp;subst hp;exact⟨hf v,fun _=>⟨ln,z,A,C v,E v⟩,.inr ⟨ln,z,C v,E v,.inr ⟨rP u z,Z,Z⟩⟩⟩
  exact key _ Z
 rw[hn] at h4 u;exfalso;obtain⟨ln,hl,z⟩:=me h4 Z;obtain⟨hc,_,_,_,_,_,_,_,hp,_,_⟩:=jS u;have hp:(!I (.ofNat (cu r.g<|nF ⟨lr,gw,n⟩).length) 0)=false:=hp;obtain⟨q,hq⟩:=g8 hc z;rw[hl,ez (by rw[hc];rfl) hq] at hp;cases hp
theorem tC.step {k:Nat} {l:List XC} {r r':XM} {t:Nat} (h:tC k l r) (hs:eG k l r t=(some r',0)):tC k l r'/\r'.g.init=r.g.init:=by
 obtain⟨c,row,p,hp⟩:=JA hs;have hadd:=hp.add;rw[hp.jB] at hadd;have hok:=Lm hp.err hadd;rw[<-hp.jB] at hok hadd;obtain⟨tm,row',ht,W,E,u,G,_,_,hold,_⟩:=F7 hadd;have hi:=HI hadd;obtain⟨A,K,L⟩:=Ki hadd;rw[hp.rowAt] at K;cases K;have hlen:r'.g.threads.length=l.length:=by rw[L,List.length_set];exact h.len
 have Q:tm=t:=by have:=iJ_ ht;omega
 subst Q;rw[hp.rowAt] at W;cases W;refine⟨⟨u,hlen,?_,fun i z=>?_,fun X c2 A h1 h2=>?_⟩,hi⟩
 ·rw[hp.mem,hi,<-h.mem];rcases hok.cases with ⟨_,e,_⟩ | ⟨ln,_,_,_,⟨_,e,_⟩ | ⟨_,e,_⟩⟩<;>rw[e]
  rw[List.length_set]
 ·rw[hi] at z;rw[hp.mem];have same:(bq p.vq=true->p.vq.loc≠ .ofNat i)->jq r'.g (.ofNat i)=jq r.g (.ofNat i):=fun hw=>GO E u hold z (F8 hadd hw)
  rcases hok.cases with ⟨e1,e,_⟩ | ⟨ln,M,C,_,⟨e1,e,_⟩ | ⟨hw,e,epl⟩⟩
  ·rw[e,same (fun hw=>by unfold bq at hw;rw[e1] at hw;cases hw)];exact h.last i z
  ·rw[e,same (fun hw=>by rw[e1] at hw;cases hw)];exact h.last i z
  rw[e]
  by_cases F:ln=i
  ·subst F;rw[List.getElem?_set_self (by rw[h.mem];exact M)];obtain⟨q,hq⟩:=g8 E M;have R:p.place= .ofNat (q.length+1):=by rw[epl,ez (by rw[E];rfl) hq];rfl
   rw[R] at hadd;obtain⟨aa,h3,ho⟩:=C9 hq hadd hw C;rw[hp.rowAt] at h3;cases h3;rw[sR u ho,List.getLast?_append];show some p.vq.write=some (AP<|fh r'.g ⟨.ofNat (tm+1),.ofNat row.length⟩).write;rw[G];rfl
  rw[List.getElem?_set_ne F,same (fun _=>by rw[C];exact fun e=>F (iJ_ e))];exact h.last i z
 rw[L] at h2
 by_cases e:tm=X
 ·subst e;rw[List.getElem?_set_self (gA.1 hp.rowAt).1] at h2;rw[hp.code] at h1;cases h1;cases h2;exact hok.fits
 rw[List.getElem?_set_ne e] at h2;exact h.fits X c2 A h1 h2
theorem tC.start {k:Nat} {l:List XC} {init:List Int} (hl:l.length<=4) (hi:init.length<=6) (hf:∀c∈l,jn k c=true):tC k l ⟨init,⟨init,List.replicate l.length [],List.replicate l.length [],List.replicate init.length []⟩⟩:=by
 have hw:∀n t,gQ (List.replicate n []) t= []:=by
  intro n;induction n with
  | zero=>intro t;rfl
  | succ n ih=>intro t;show gh t [] 0++gQ (List.replicate n []) (t+1)= [];rw[ih];rfl
 have z:∀n t,lZ (List.replicate n []) t= []:=by
  intro n;induction n with
  | zero=>intro t;rfl
  | succ n ih=>intro t;show fS t []++lZ (List.replicate n []) (t+1)= [];rw[ih];rfl
 have A:yu ⟨init,List.replicate l.length [],List.replicate l.length [],List.replicate init.length []⟩:=by
  refine⟨by simpa using hl,hi,fun i x hx=>?_,by simp,by simp,fun i x f hx hf=>?_,?_⟩
  ·have:=eR_ (gB_ hx);subst this;exact Nat.zero_le _
  ·have h1:=eR_ (gB_ hx);have h2:=eR_ (gB_ hf);subst h1;subst h2;exact⟨Z,fun j e q he=>by simp at he⟩
  show(gQ (List.replicate l.length []) 0).Perm (lZ (List.replicate init.length []) 0);rw[hw,z]
 have hc:=im.2 A;refine⟨hc,by simp,Z,fun i u=>?_,fun t c row h1 h2=>?_⟩
 ·have hq:(List.replicate init.length ([]:List dw))[i]?=some []:=by
   rw[gC (by simpa using u)];simp
  rw[sR hc hq];show init[i]?=some (AP ((init[i]?).map fun v=>(⟨2,i,1,0,v⟩:db))).write;rw[gC u];rfl
 have h3:=eR_ (gB_ h2);subst h3;exact Iv<|hf c<|gB_ h1
theorem J.fy {U:D} {K:KP} {M L:Own} (h:J U K (M++L)):∃u,KP.le K u/\(∀e∈M,u e.1 e.2)/\J U u L:=⟨K.ic M,KP.bX _ _,fun e he=>.inr he,h.keeps⟩
theorem E6 {nx:Nat->List Nat} {n:Nat} (u:∀i,i<n->∀to∈nx i,to<n):∀{f:Nat} {s:DS} {out:List Nat},LV nx n s->xV nx f s=some out->out.length<=s.out.length+jr nx n s
 | 0,_,_,_,h=>by cases h
 | f+1,s,out,hw,h=>by
  unfold xV at h;cases hl:s.path.getLast? with
  | none=>
   rw[hl] at h;simp only[oJ_] at h;subst h;omega
  | some a=>
   rw[hl] at h;dsimp only at h;cases z:ku nx s a with
   | none=>rw[z] at h;cases h
   | some s'=>
    rw[z] at h;obtain⟨h1,_,h3⟩:=nU hw u hl z;have:=E6 u h1 h;omega
theorem qU {k:Nat} {c:XC} (hc:eX k c) {out:List Nat} (h:fT c=some out):out.length<=16001:=by
 have:=E6 (sT hc) (wg hc.pos) (show xV _ _ _=some out from h);rw[Fq] at this;have h1:(x7 c.ins.length).out.length=0:=rfl;have h2:=CM (c:=c);have h3:=hc.len;omega
theorem xF {k:Nat} {c:XC} {s:TS} {x:XI} (hx:c.ins[s.at_]?=some x) (h:(cj k c s).2=true):(cj k c s).1.at_∈dj c s.at_:=by
 obtain⟨P,A⟩:∃P:TS×Bool->Prop,P=fun r=>r.2=true->r.1.at_∈dj c s.at_:=⟨_,Z⟩
 have C:dj c s.at_=(gN x s.at_).map Int.toNat:=by unfold dj;rw[hx]
 have z:∀r:TS×Bool,r.2=false->P r:=fun r h1=>by rw[A];intro h2;rw[h1] at h2;cases h2
 have u:(I x.kind 10=false)->(I x.kind 12=false)->(I x.kind 13=false)->∀r:TS×Bool,r.1.at_=s.at_+1->P r:=fun h0 h2 E r h1=>by
  rw[A];intro _;rw[h1,C];unfold gN;rw[h0,h2,E];cases I x.kind 11<;>simp
 have ne:∀(a b:Int),I x.kind a=true->a≠b->I x.kind b=false:=fun a b h h'=>by
  rw[dF,decide_eq_true_iff] at h;rw[dF,decide_eq_false_iff_not,h];exact h'
 have:P (cj k c s):=by
  unfold cj;rw[hx];dsimp only;unfold dL
  refine eu _ (fun e=>u (ne _ _ e (by decide)) (ne _ _ e (by decide)) (ne _ _ e (by decide)) _ Z) fun e1=>eu _ (fun e=>u (ne _ _ e (by decide)) (ne _ _ e (by decide)) (ne _ _ e (by decide)) _ Z) fun e3=>eu _ (fun e=>u (ne _ _ e (by decide)) (ne _ _ e (by decide)) (ne _ _ e (by decide)) _ Z) fun e7=>
   eu _ (fun e=>cy _ (z _ Z) (u (ne _ _ e (by decide)) (ne _ _ e (by decide)) (ne _ _ e (by decide)) _ Z)) fun e8=>eu _ (fun e=>cy _ (z _ Z) (u (ne _ _ e (by decide)) (ne _ _ e (by decide)) (ne _ _ e (by decide)) _ Z)) fun e9=>
   eu _ (fun e=>?_) fun aa=>eu _ (fun e=>cy _ ?_ (u (ne _ _ e (by decide)) (ne _ _ e (by decide)) (ne _ _ e (by decide)) _ Z)) fun ab=>eu _ (fun _=>z _ Z) fun ac=>eu _ (fun _=>z _ Z) fun am=>z _ Z
  ·rw[A];intro _;rw[C];unfold gN;rw[e];simp
  rw[A];intro _;rw[C];unfold gN;rw[ne _ 10 e (by decide),e];simp
 rw[A] at this;exact this h
theorem q7 {k:Nat} {c:XC} {s:TS}:(cj k c s).1.aY.length=s.aY.length/\(cj k c s).1.events.length<=s.events.length+1:=by
 obtain⟨P,u⟩:∃P:TS×Bool->Prop,P=fun r=>r.1.aY.length=s.aY.length/\r.1.events.length<=s.events.length+1:=⟨_,Z⟩
 have h0:∀r:TS×Bool,r.1.aY=s.aY->r.1.events=s.events->P r:=fun r h1 h2=>by rw[u];dsimp only;rw[h1,h2];exact⟨Z,by omega⟩
 have h1:∀(r:TS×Bool) (e:db),r.1.aY=s.aY->r.1.events=s.events++[e]->P r:=fun r e h1 h2=>by rw[u];dsimp only;rw[h1,h2];exact⟨Z,by simp⟩
 have:P (cj k c s):=by
  unfold cj;cases hx:c.ins[s.at_]? with
  | none=>exact h0 _ Z Z
  | some x=>
   dsimp only;unfold dL;refine cy _ (by rw[u];exact⟨List.length_set ..,by dsimp only;omega⟩) (cy _ (h1 _ _ Z Z)<|cy _ (h1 _ _ Z Z)<|cy _ (cy _ (h0 _ Z Z)<|h0 _ Z Z)<|cy _ (cy _ (h0 _ Z Z)<|h0 _ Z Z)<|cy _ (h0 _ Z Z)<|cy _ (cy _ (h0 _ Z Z)<|h0 _ Z Z)<|cy _ (h0 _ Z Z)<|cy _ (h0 _ Z Z)<|h0 _ Z Z)
 rw[u] at this;exact this
structure Qd (c:XC) (s:TS):Prop where
 at_:s.at_<c.ins.length
 aY:s.aY.length=c.aY.toNat
 events:s.events.length<=1000000
theorem results_none {P:Program} {fn:Func} {t:N V} {U:D} (u:fn.results.toList= []):fm P fn t U=some (.tuple []):=by
 unfold fm;rw[u];rfl
theorem BC {P:Program} {fn:Func} {R:V->D->Prop} {t:N V} {U:D} (u:fn.results.toList= []) (z:R (.tuple []) U):BB P fn R .normal t U:=⟨.inl Z,_,results_none u,z⟩
structure vm (c:XC) (out:List Nat) (s:TS):Prop where
 at_:s.at_∈out
 aY:s.aY.length=c.aY.toNat
theorem su {k:Nat} {c:XC} {s:TS} (h:(cj k c s).2=false):(cj k c s).1.at_=s.at_:=by
 obtain⟨P,u⟩:∃P:TS×Bool->Prop,P=fun r=>r.2=false->r.1.at_=s.at_:=⟨_,Z⟩
 have hy:∀r:TS×Bool,r.2=true->P r:=fun r h1=>by rw[u];intro h2;rw[h1] at h2;cases h2
 have hn:∀r:TS×Bool,r.1.at_=s.at_->P r:=fun r h1=>by rw[u];exact fun _=>h1
 have:P (cj k c s):=by
  unfold cj;cases hx:c.ins[s.at_]? with
  | none=>exact hn _ Z
  | some x=>
   dsimp only;unfold dL;exact cy _ (hy _ Z)<|cy _ (hy _ Z)<|cy _ (hy _ Z)<|cy _ (cy _ (hn _ Z)<|hy _ Z)<|cy _ (cy _ (hn _ Z)<|hy _ Z)<|cy _ (hy _ Z)<|cy _ (cy _ (hy _ Z)<|hy _ Z)<|cy _ (hn _ Z)<|cy _ (hn _ Z)<|hn _ Z
 rw[u] at this;exact this h
theorem vm.lt {c:XC} {out:List Nat} {s:TS} (h:vm c out s) (u:fg (dj c) c.ins.length out):s.at_<c.ins.length:=u.lt _ h.at_
theorem vm.step {k:Nat} {c:XC} {out:List Nat} {s:TS} (h:vm c out s) (z:fg (dj c) c.ins.length out):vm c out (cj k c s).1:=by
 refine⟨?_,by rw[q7.1];exact h.aY⟩;cases hb:(cj k c s).2 with
 | false=>rw[su hb];exact h.at_
 | true=>
  obtain⟨x,hx⟩:=cm (h.lt z);obtain⟨q,hq⟩:=gO_ h.at_;obtain⟨q',_,u⟩:=z.Ae q _ hq _ (xF hx hb);exact gB_ u
theorem DM {k:Nat} {c:XC} {out:List Nat} (u:fg (dj c) c.ins.length out):∀{f:Nat} {s:TS},vm c out s->vm c out (vj k c f s)/\(vj k c f s).events.length<=s.events.length+f
 | 0,s,h=>⟨h,nR_ _⟩
 | f+1,s,h=>by
  have h1:=h.step (k:=k) u;have h2:=(q7 (k:=k) (c:=c) (s:=s)).2;obtain⟨z,h4⟩:=DM (k:=k) u (f:=f) h1;show vm c out (bif (cj k c s).2 then vj k c f (cj k c s).1 else(cj k c s).1)/\(bif (cj k c s).2 then vj k c f (cj k c s).1 else(cj k c s).1).events.length<=_;cases (cj k c s).2 with
  | true=>exact⟨z,by simp only[cond_true];omega⟩
  | false=>exact⟨h1,by simp only[cond_false];omega⟩
theorem sO {k:Nat} {c:XC} {j:Nat} {s:TS} (hj:1<=j) (h:(cj k c s).2=true):vj k c j s=vj k c (j-1) (cj k c s).1:=by
 obtain⟨i,rfl⟩:∃i,j=i+1:=⟨j-1,by omega⟩;show(bif (cj k c s).2 then _ else _)=_;rw[h];rfl
theorem wE {k:Nat} {c:XC} {j:Nat} {s:TS} (hj:1<=j) (h:(cj k c s).2=false):vj k c j s=(cj k c s).1:=by
 obtain⟨i,rfl⟩:∃i,j=i+1:=⟨j-1,by omega⟩;show(bif (cj k c s).2 then _ else _)=_;rw[h];rfl
theorem oe {k:Nat} {c:XC} {out:List Nat} {s:TS} {x:XI} {q:Nat} (u:fg (dj c) c.ins.length out) (hx:c.ins[s.at_]?=some x) (hq:out[q]?=some s.at_) (h:(cj k c s).2=true):∃q',q'<q/\out[q']?=some (cj k c s).1.at_:=u.Ae q _ hq _ (xF hx h)
def hU (c:XC):TS:=⟨0,List.replicate c.aY.toNat 0,[],0,0,false⟩
theorem xE {c:XC} {out:List Nat} (u:fg (dj c) c.ins.length out):vm c out (hU c):=⟨u.zero,List.length_replicate ..⟩
theorem F9 {k:Nat} {c:XC} {out:List Nat} (z:fT c=some out) (u:fg (dj c) c.ins.length out):vm c out (jT k c)/\(jT k c).events.length<=out.length:=by
 obtain⟨h1,h2⟩:=DM (k:=k) u (f:=jo c) (xE u);have:jo c=out.length:=by unfold jo;rw[z];rfl
 refine⟨h1,?_⟩;have A:(hU c).events.length=0:=rfl;rw[A,this] at h2;show(vj k c (jo c)<|hU c).events.length<=_;rw[this];omega
theorem pJ {k:Nat} {c:XC} (hc:eX k c) {out:List Nat} (z:fg (dj c) c.ins.length out) {s:TS} (h:vm c out s) (A:lJ c s) (C:s.asks=true) (v:Int):vm c out (eA k c s v):=by
 refine⟨?_,by show(s.aY.set _ _).length=_;rw[List.length_set];exact h.aY⟩;obtain⟨x,hx,hk⟩:=A C;obtain⟨q,hq⟩:=gO_ h.at_
 have:s.at_+1∈dj c s.at_:=by
  unfold dj;rw[hx];dsimp only;unfold gN;rcases hk with hk | hk | hk | hk<;>rw[hk]<;>show s.at_+1∈[s.at_+1]<;>simp
 obtain⟨q',_,u⟩:=z.Ae q _ hq _ this;exact gB_ u
theorem Dc {k:Nat} {c:XC} (hc:eX k c) {out:List Nat} (z:fT c=some out) (u:fg (dj c) c.ins.length out) {s:TS} (h:vm c out s) (A:lJ c s) (C:s.asks=true) (v:Int):
  vm c out (dY k c s v)/\(dY k c s v).events.length<=s.events.length+1+out.length/\(dY k c s v).asked=s.asked+1:=by
 obtain⟨h1,h2⟩:=DM (k:=k) u (f:=jo c) (pJ hc u h A C v);have hf:jo c=out.length:=by unfold jo;rw[z];rfl
 refine⟨h1,?_,(n7 k c (jo c)<|eA k c s v).2⟩;have:(eA k c s v).events.length=s.events.length+1:=by show(s.events++[_]).length=_;simp
 rw[this,hf] at h2;unfold dY;rw[hf];exact h2
theorem jG {es:List db} {i:Nat} {e:db} (h:es[i]?=some e):dg (es.take (i+1))=dg (es.take i)++(bif dD e then [e.read] else []):=by
 rw[List.take_add_one,h,iS];show dg _++dg [e]=_;cases u:dD e with
 | true=>rw[sr u];rfl
 | false=>rw[ub u];rfl
theorem mj (es:List db):(dg es).length<=es.length:=by unfold dg;rw[lM_];exact List.length_filter_le ..
theorem Jx {k:Nat} {c:XC} {A:List Int} {i:Nat} {v:Int} {s:TS} (h:A[i]?=some v) (u:s.asks=true):jR k c (A.drop i) s=jR k c (A.drop (i+1)) (dY k c s v):=by
 rw[cR h];show(bif s.asks then _ else _)=_;rw[u];rfl
theorem Lq {k:Nat} {c:XC} {A:List Int} {i:Nat} {v:Int} {s:TS} (h:A[i]?=some v) (u:s.asks=false):jR k c (A.drop i) s=s:=by
 rw[cR h];show(bif s.asks then _ else _)=_;rw[u];rfl
theorem Jv {k:Nat} {c:XC} {A:List Int} {i:Nat} {s:TS} (h:A.length<=i):jR k c (A.drop i) s=s:=by rw[fO h];rfl
def yY (n:ji):List V:=ints n.event.ints++ints n.ask.ints++[.int .i64 n.fin]
def vf (m:List Int) (x0 x1 x2 x3 x4 x5:Int):Prop:=[x0,x1,x2,x3,x4,x5]=m++List.replicate (6-m.length) 0
abbrev c6 (x0 x1 x2 x3 x4 x5:Int) (a b c d:V):List V:=[.int .i64 x0,.int .i64 x1,.int .i64 x2,.int .i64 x3,.int .i64 x4,.int .i64 x5,a,b,c,d]
abbrev NI:List V:=[.int .i64 0,.int .i64 0,.int .i64 0,.int .i64 0,.int .i64 0,.int .i64 0,.ax,.ax,.ax,.ax]
theorem vf.le {m:List Int} {u z A C E F:Int} (h:vf m u z A C E F):m.length<=6:=by
 have:=congrArg List.length h;rw[lA_,List.length_replicate] at this;have e: [u,z,A,C,E,F].length=6:=rfl;omega
theorem vf.at_ {m:List Int} {u z A C E F:Int} (h:vf m u z A C E F) {a b c d:V} {ln:Nat} (hl:ln<m.length):∃y,m[ln]?=some y/\nth (c6 u z A C E F a b c d) (0+ln*1)=some (.int .i64 y):=by
 have h6:=h.le;obtain⟨y,hy⟩:=cm hl;have: [u,z,A,C,E,F][ln]?=some y:=by rw[show [u,z,A,C,E,F]=_ from h,gL_ hl];exact hy
 refine⟨y,hy,?_⟩;rw[eF,Nat.mul_one,nA_];have G:ln<6:=by omega
 match ln,G with
 | 0,_ | 1,_ | 2,_ | 3,_ | 4,_ | 5,_=>cases this;rfl
theorem vf.set {m:List Int} {u z A C E F:Int} (h:vf m u z A C E F) {a b c d:V} {ln:Nat} (hl:ln<m.length) (v:Int):∃L M Q R W y5,dG [.int .i64 v] (c6 u z A C E F a b c d) (0+ln*1)=c6 L M Q R W y5 a b c d/\vf (m.set ln v) L M Q R W y5:=by
 have h6:=h.le;have G: [u,z,A,C,E,F].set ln v=m.set ln v++List.replicate (6-(m.set ln v).length) 0:=by rw[show [u,z,A,C,E,F]=_ from h,List.set_append_left _ _ hl,List.length_set]
 have K:ln<6:=by omega
 match ln,K with
 | 0,_=>exact⟨v,z,A,C,E,F,Z,G⟩
 | 1,_=>exact⟨u,v,A,C,E,F,Z,G⟩
 | 2,_=>exact⟨u,z,v,C,E,F,Z,G⟩
 | 3,_=>exact⟨u,z,A,v,E,F,Z,G⟩
 | 4,_=>exact⟨u,z,A,C,v,F,Z,G⟩
 | 5,_=>exact⟨u,z,A,C,E,v,Z,G⟩
theorem kM {k:Nat} {l:List XC} {r:XM} {t:Nat} {c:XC} {row:List db} (h1:l[t]?=some c) (h2:r.g.threads[t]?=some row) {e:Int} (h:jP k c row r.g=e) (he:I e 0=false):eG k l r t=(none,e):=by
 unfold eG;rw[h1,h2];dsimp only;rw[h,he];rfl
theorem oq {k:Nat} {l:List XC} {r:XM} {t:Nat} {c:XC} {row:List db} (h1:l[t]?=some c) (h2:r.g.threads[t]?=some row) (h:jP k c row r.g=0) {p:xX} (hp:fz (bI k c row).1 r.mem r.g=p):eG k l r t=we p (.ofNat (t+1)) r.g:=by
 unfold eG;rw[h1,h2];dsimp only;rw[h,hp];rfl
end Go.Ev
namespace Go.Ev
variable [Env]
theorem xH {P:Program} {G:Cx} {t:N V} {U:D} {ops:Array Oper} {o:Oper} {i k b e n:Nat} {cs:List V} (hi:ops[i]?=some o) (hw:bM ops t o=some true) (u:o.dst=some k) (z:t.get k=some (.slice b 0 n (.known n))) (hk:kindOf P o.op= .alloc) (A:gi P (bE G t) o.op=some (.row cs e false,.slice n n)) (hm:U.m.get b=some (.row cs e false)) (hb:dX.beqL cs cs=true):jh P G ops t U i=true:=by
 unfold jh;rw[hi];dsimp only;rw[hw];dsimp only;rw[u];dsimp only;rw[show t.get (posOf k)=some (.slice b 0 n (.known n)) from z];dsimp only;rw[hk];dsimp only;simp only[A,hm,hb,Nat.beq_refl,Bool.and_self]
end Go.Ev
end
