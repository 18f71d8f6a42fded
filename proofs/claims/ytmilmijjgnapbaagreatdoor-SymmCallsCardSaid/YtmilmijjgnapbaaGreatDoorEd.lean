/- Part of the proof: an evaluator of the model's code, rules for walks on it, walks. Without conditions. -/
import Derived.Test.YtmilmijjgnapbaaGreatDoorEc
import Derived.Test.YtmilmijjgnapbaaGreatDoorEb
import Derived.Test.YtmilmijjgnapbaaGreatDoorProg
import Derived.KernelRfl
set_option linter.unusedSectionVars false
set_option linter.unusedVariables false
set_option linter.unusedSimpArgs false
noncomputable section
namespace Go.Ev
variable [Env]
def f10 (x:Int):List Nat:=fmtS 10 x++[44]
def f36 (x:Int):List Nat:=fmtS 36 x++[44]
def PI (x:cU×cQ):List Nat:=[x.1.kind,x.1.loc,x.1.order,x.2.cq,x.2.index].flatMap f10++[x.1.read,x.1.write].flatMap f36
def uT (x:List cU×List cQ):List Nat:=47::(x.1.zip x.2).flatMap PI
def Qc (x:cQ):List Nat:=[x.cq,x.index].flatMap f10
def EN (r:List cQ):List Nat:=47::r.flatMap Qc
def nW (g:XG):List Nat:=g.init.flatMap f36++(g.threads.zip g.from_).flatMap uT++g.order.flatMap EN
theorem tA (l:List (List UInt8)):(gW 44 l).map UInt8.toNat=l.flatMap fun w=>w.map UInt8.toNat++[44]:=by
 unfold gW;rw[List.map_flatMap];refine congrArg (fun f=>l.flatMap f) ?_;funext w;rw[List.map_append];rfl
theorem xC (g:XG):nW g=(GU (uR 10) (uR 36) g).map UInt8.toNat:=by
 unfold nW GU jV;rw[List.map_append,tA,List.flatMap_map,List.map_flatMap,List.flatMap_map,lQ_];refine congr (congrArg _ Z) ?_;unfold AA;rw[List.flatMap_append,List.flatMap_map,List.flatMap_map];refine congr (congrArg _<|congrArg (fun f=>List.flatMap f _) ?_)<|congrArg (fun f=>List.flatMap f _) ?_
 ·funext x;show uT x=47::(gW 44 _).map UInt8.toNat;rw[tA,List.flatMap_assoc];unfold uT;refine congrArg (fun f=>47::List.flatMap f _) ?_;funext y;unfold PI Iy f10 f36 fmtS;simp only[List.flatMap_cons,List.flatMap_nil,List.append_nil,lQ_]
 funext r;show EN r=47::(gW 44 _).map UInt8.toNat;rw[tA,List.flatMap_assoc];unfold EN;refine congrArg (fun f=>47::List.flatMap f _) ?_;funext y;unfold Qc PJ f10 fmtS;simp only[List.flatMap_cons,List.flatMap_nil,List.append_nil,lQ_]
theorem toNat_inj:∀{l m:List UInt8},l.map UInt8.toNat=m.map UInt8.toNat->l=m
 | [],[],_=>rfl
 | [],_::_,h=>by cases h
 | _::_,[],h=>by cases h
 | x::l,y::m,h=>by
  rw[List.map_cons,List.map_cons] at h;obtain⟨h1,b⟩:=List.cons.inj h;rw[UInt8.toNat_inj.1 h1,toNat_inj b]
theorem Ih {g g':XG} (d:eb g) (b:eb g') (hl:g.threads.length=g'.threads.length) (h:nW g=nW g'):g=g':=by
 rw[xC,xC] at h;exact Ig (BV oM oM) (BV oM oM) (FZ oM oM) (FZ oM oM) d b hl<|toNat_inj h
def Sm (x:Int):Prop:=∃m:Nat,x= .ofNat m/\m<100
theorem GG {x:Int} (h:0<=x) (h2:x<100):Sm x:=⟨x.toNat,by show x=(x.toNat:Int);omega,by omega⟩
theorem QP {e:cU} {n:Int} (hn:n<=6) (h:bQ e n=true):Sm e.kind/\Sm e.loc/\Sm e.order:=by
 unfold bQ at h;simp only[eM,dv] at h
 by_cases h1:e.kind<1
 ·rw[decide_eq_true h1] at h;cases h
 rw[decide_eq_false h1] at h
 by_cases b:4<e.kind
 ·rw[decide_eq_true b] at h;cases h
 rw[decide_eq_false b] at h
 by_cases d:e.order<1
 ·rw[decide_eq_true d] at h;cases h
 rw[decide_eq_false d] at h
 by_cases h4:6<e.order
 ·rw[decide_eq_true h4] at h;cases h
 rw[decide_eq_false h4] at h;refine⟨GG oM oM,?_,GG oM oM⟩;simp only[cond_false] at h;generalize (bif !dR e then cC (decide (e.read=0)) else false)=u at h;generalize (bif !bH e then cC (decide (e.write=0)) else false)=A at h;cases u with
 | true=>cases h
 | false=>
  cases A with
  | true=>cases h
  | false=>
   simp only[cond_false] at h
   by_cases h5:e.kind=4
   ·rw[decide_eq_true h5] at h;have:e.loc=0:=of_decide_eq_true h;exact GG oM oM
   rw[decide_eq_false h5] at h
   by_cases m:e.loc<0
   ·rw[decide_eq_true m] at h;cases h
   rw[decide_eq_false m] at h;have:e.loc<n:=of_decide_eq_true h;exact GG oM oM
theorem QO {g:XG} (b:eb g) {id:cQ} {w:cU} (h:ez g id=some w):Sm id.cq/\Sm id.index:=by
 obtain⟨t,k⟩:=id;have h1:=b.threads;have h2:=b.init
 match t,k,h with
 | .ofNat 0,.ofNat i,h=>
  have h:(g.init[i]?).map (fun v=>(⟨2,i,1,0,v⟩:cU))=some w:=h;obtain⟨v,hv,_⟩:=oM_.1 h;have:=(gA.1 hv).1;exact⟨⟨0,Z,by omega⟩,⟨i,Z,by omega⟩⟩
 | .ofNat (t+1),.ofNat i,h=>
  have h:(g.threads[t]?).bind (·[i]?)=some w:=h
  obtain⟨l,hl,hi⟩:=Option.bind_eq_some_iff.1 h;have h3:=(gA.1 hl).1;have h4:=(gA.1 hi).1;have h5:=b.short t l hl;exact⟨⟨t+1,Z,by omega⟩,⟨i,Z,by omega⟩⟩
theorem KQ {g:XG} (b:eb g) {t i:Nat} {l:List cU} {f:List cQ} {e:cU} {x:cQ} (hl:g.threads[t]? =some l) (hf:g.from_[t]? =some f) (he:l[i]? =some e) (hx:f[i]? =some x):∀z∈[e.kind,e.loc,e.order,x.cq,x.index],Sm z:=by
 have hok:=tE ((b.rows t l f hl hf).2 i e x he hx);obtain⟨h1,d,m⟩:=QP (by have:=b.init;show((g.init.length:Nat):Int)<=6;omega) hok.1
 have h4:Sm x.cq/\Sm x.index:=by
  rcases nE hl he hok.2 with ⟨_,rfl⟩ | ⟨_,w,hw,_⟩
  ·exact⟨⟨0,Z,by omega⟩,⟨0,Z,by omega⟩⟩
  exact QO b hw
 intro z hz;simp only[mQ_,List.not_mem_nil,or_false] at hz;rcases hz with rfl | rfl | rfl | rfl | rfl
 ·exact h1
 ·exact d
 ·exact m
 ·exact h4.1
 exact h4.2
theorem Ph {g:XG} (b:eb g) {ln:Nat} {r:List cQ} (d:g.order[ln]? =some r) {x:cQ} (hx:x∈r):∀z∈[x.cq,x.index],Sm z:=by
 obtain⟨t,k,row,e,rfl,h1,m,_⟩:=tG b d hx;have h3:=(gA.1 h1).1;have h4:=(gA.1 m).1;have h5:=b.short t row h1;have h6:=b.threads;intro z hz;simp only[mQ_,List.not_mem_nil,or_false] at hz;rcases hz with rfl | rfl
 ·exact⟨t+1,Z,by omega⟩
 exact⟨k,Z,by omega⟩
structure Dx (g:XG):Prop where
 init:∀x∈g.init,xN x
 ev:∀(t:Nat) (l:List cU),g.threads[t]? =some l->∀e∈l,xN e.read/\xN e.write
theorem Dx.mv {g:XG} (h:Dx g) (p q:Nat->Nat):Dx (gu p q g):=by
 refine⟨h.init,fun t l hl e he=>?_⟩;have hl:((List.range g.threads.length).map fun j=>(g.threads[q j]?).getD [])[t]? =some l:=hl;rw[gM_] at hl;obtain⟨j,_,hj⟩:=oM_.1 hl;cases b:g.threads[q j]? with
 | none=>rw[b] at hj;subst hj;cases he
 | some l'=>rw[b] at hj;subst hj;exact h.ev _ _ b e he
def gn (l:List XC) (t:Nat) (cl:List Int):Bool:=match l[((cl[0]?).getD 0).toNat-1]?,l[t]? with | some a,some b=>bW a b | _,_=>false
def vN (l:List XC) (s:List (List Int)) (t:Nat):List (List Int):=
 bif dy (fx (gn l t) s 0) 0 then s++[[.ofNat (t+1)]] else s.set (fx (gn l t) s 0).toNat ((s[(fx (gn l t) s 0).toNat]?).getD []++[.ofNat (t+1)])
def eC (l:List XC):Nat->List (List Int)
 | 0=>[]
 | t+1=>vN l (eC l t) t
def fe (l:List XC):List (List Int):=eC l l.length
structure IC (l:List XC) (t:Nat) (cl:List Int):Prop where
 ne:cl≠[]
 at_:∃h c,h<t/\cl[0]? =some (Int.ofNat (h+1))/\l[h]? =some c/\∀x∈cl,∃v,v<t/\x=Int.ofNat (v+1)/\l[v]? =some c
theorem IC.mono {l:List XC} {t t':Nat} {cl:List Int} (h:IC l t cl) (ht:t<=t'):IC l t' cl:=by
 obtain⟨h0,h1,c,h2,d,h4,h5⟩:=h;exact⟨h0,h1,c,by omega,d,h4,fun x hx=>by obtain⟨v,a,b⟩:=h5 x hx;exact⟨v,by omega,b⟩⟩
theorem pV {α:Type} {p:α->Bool}:∀{l:List α} {i:Nat},dy (fx p l i) 0=false->∃(j:Nat) (x:α),fx p l i= .ofNat (i+j)/\l[j]? =some x/\p x=true
 | [],_,h=>by cases h
 | x::l,i,h=>by
  unfold fx at h⊢;cases hx:p x with
  | true=>exact⟨0,x,Z,Z,hx⟩
  | false=>
   rw[hx] at h;obtain⟨j,y,h1,b,d⟩:=pV (l:=l) (i:=i+1) h;exact⟨j+1,y,by show fx p l (i+1)=_;rw[h1,show i+1+j=i+(j+1) by omega],by simpa using b,d⟩
structure Fz (l:List XC) (t:Nat) (s:List (List Int)):Prop where
 all:∀cl∈s,IC l t cl
 Ra:∀v,v<t->∃cl∈s,Int.ofNat (v+1)∈cl
 len:s.length<=t
theorem ll {l:List XC}:∀{t:Nat},t<=l.length->Fz l t (eC l t)
 | 0,_=>⟨(fun cl h=>by cases h),fun v hv=>absurd hv (nZ_ _),nR_ _⟩
 | t+1,ht=>by
  have ih:=ll (l:=l) (t:=t) oM;obtain⟨c,hc⟩:=bZ (show t<l.length by omega);show Fz l (t+1) (vN l (eC l t) t);unfold vN;cases hi:dy (fx (gn l t) (eC l t) 0) 0 with
  | true=>
   simp only[cond_true];refine⟨fun cl hm=>?_,fun v hv=>?_,by rw[lA_];have:=ih.len;simp only[List.length_singleton];omega⟩
   ·rcases List.mem_append.1 hm with hm | hm
    ·exact(ih.all cl hm).mono oM
    rw[List.mem_singleton.1 hm];exact⟨by simp,t,c,by omega,Z,hc,fun x hx=>⟨t,by omega,List.mem_singleton.1 hx,hc⟩⟩
   by_cases e:v=t
   ·exact⟨[.ofNat (t+1)],List.mem_append_right _<|List.mem_singleton.2 Z,by rw[e];exact List.mem_singleton.2 Z⟩
   obtain⟨cl,h1,m⟩:=ih.Ra v oM;exact⟨cl,List.mem_append_left _ h1,m⟩
  | false=>
   obtain⟨j,cl,h1,m,u⟩:=pV hi;rw[nA_] at h1;simp only[cond_false];rw[h1];show Fz l (t+1) ((eC l t).set j (((eC l t)[j]?).getD []++[.ofNat (t+1)]));rw[m];show Fz l (t+1) ((eC l t).set j (cl++[.ofNat (t+1)]));have hjl:=(gA.1 m).1;refine⟨fun cl' hm=>?_,fun v hv=>?_,by rw[List.length_set];have:=ih.len;omega⟩
   ·obtain⟨i,d⟩:=gO_ hm
    by_cases e:j=i
    ·subst e;rw[List.getElem?_set_self hjl] at d;cases d;obtain⟨h4,hh,c',h5,C,E,G⟩:=ih.all cl (gB_ m)
     have A:c'=c:=by
      unfold gn at u;rw[C,hc] at u;have u:(match l[hh+1-1]?,some c with | some a,some b=>bW a b | _,_=>false)=true:=u;rw[Nat.add_sub_cancel,E] at u;exact bR.1 u
     subst A;refine⟨by simp,hh,c',by omega,?_,E,fun x hx=>?_⟩
     ·cases cl with
      | nil=>exact absurd Z h4
      | cons y r=>exact C
     rcases List.mem_append.1 hx with hx | hx
     ·obtain⟨v,a,b⟩:=G x hx;exact⟨v,by omega,b⟩
     exact⟨t,by omega,List.mem_singleton.1 hx,hc⟩
    rw[List.getElem?_set_ne e] at d;exact(ih.all cl'<|gB_ d).mono oM
   by_cases e:v=t
   ·refine⟨_,gB_ (List.getElem?_set_self hjl),by rw[e];exact List.mem_append_right _<|List.mem_singleton.2 Z⟩
   obtain⟨cl',I,F⟩:=ih.Ra v oM;obtain⟨i,d⟩:=gO_ I
   by_cases e2:j=i
   ·subst e2;rw[m] at d;cases d;exact⟨_,gB_ (List.getElem?_set_self hjl),List.mem_append_left _ F⟩
   exact⟨cl',gB_ (i:=i) (by rw[List.getElem?_set_ne e2];exact d),F⟩
def lL (i:Nat) (a:List Int) (cl:List Int):List Int:=cl.foldl (fun a x=>a.set x.toNat (.ofNat i)) a
def ik:List (List Int)->Nat->List Int->List Int
 | [],_,a=>a
 | cl::s,i,a=>ik s (i+1) (lL i a cl)
def jy (l:List XC):List Int:=ik (fe l) 0 (List.replicate (l.length+1) 0)
theorem oZ {i:Nat}:∀{cl a:List Int},(lL i a cl).length=a.length
 | [],_=>rfl
 | x::cl,a=>by
  show(lL i (a.set x.toNat (.ofNat i)) cl).length=_;rw[oZ,List.length_set]
theorem qb:∀{s:List (List Int)} {i:Nat} {a:List Int},(ik s i a).length=a.length
 | [],_,_=>rfl
 | cl::s,i,a=>by
  show(ik s (i+1)<|lL i a cl).length=_;rw[qb,oZ]
theorem gz {l:List XC}:(jy l).length=l.length+1:=by unfold jy;rw[qb,List.length_replicate]
theorem Gs {i v:Nat}:∀{cl a:List Int},v<a.length->(∀x∈cl,∃w:Nat,x= .ofNat w)->(Int.ofNat v∈cl->(lL i a cl)[v]? =some (.ofNat i))/\(Int.ofNat v∉cl->(lL i a cl)[v]? =a[v]?)
 | [],a,_,_=>⟨(fun h=>by cases h),fun _=>Z⟩
 | x::cl,a,hv,hx=>by
  obtain⟨w,rfl⟩:=hx x (mS_ ..);obtain⟨h1,b⟩:=Gs (i:=i) (v:=v) (cl:=cl) (a:=a.set w (.ofNat i)) (by rw[List.length_set];exact hv) fun y hy=>hx y (mC_ _ hy)
  have e:lL i a (.ofNat w::cl)=lL i (a.set w (.ofNat i)) cl:=rfl;rw[e];refine⟨fun hm=>?_,fun hm=>?_⟩
  ·by_cases hc:Int.ofNat v∈cl
   ·exact h1 hc
   rw[b hc];rcases mQ_.1 hm with hm | hm
   ·rw[iJ_ hm,List.getElem?_set_self (by rw[<-iJ_ hm];exact hv)]
   exact absurd hm hc
  rw[b fun hc=>hm (mC_ _ hc),List.getElem?_set_ne fun e=>hm (by rw[e];exact mS_ ..)]
theorem xd {v:Nat}:∀{s:List (List Int)} {i:Nat} {a:List Int},v<a.length->(∀cl∈s,∀x∈cl,∃w:Nat,x= .ofNat w)->(∃j cl,s[j]? =some cl/\Int.ofNat v∈cl/\(ik s i a)[v]? =some (.ofNat (i+j)))∨((∀cl∈s,Int.ofNat v∉cl)/\(ik s i a)[v]? =a[v]?)
 | [],_,_,_,_=>.inr ⟨(fun cl h=>by cases h),Z⟩
 | cl::s,i,a,hv,hx=>by
  obtain⟨h1,m⟩:=Gs (i:=i) hv (hx cl<|mS_ ..);show(∃j cl',(cl::s)[j]? =some cl'/\Int.ofNat v∈cl'/\(ik s (i+1)<|lL i a cl)[v]? =some (.ofNat (i+j)))∨((∀cl'∈cl::s,Int.ofNat v∉cl')/\(ik s (i+1)<|lL i a cl)[v]? =a[v]?);rcases xd (s:=s) (i:=i+1) (a:=lL i a cl) (by rw[oZ];exact hv) fun c hc=>hx c (mC_ _ hc) with ⟨j,c',d,b,u⟩ | ⟨d,b⟩
  ·exact .inl ⟨j+1,c',by simpa using d,b,by rw[u,show i+1+j=i+(j+1) by omega]⟩
  by_cases hm:Int.ofNat v∈cl
  ·exact .inl ⟨0,cl,Z,hm,by rw[b,h1 hm];rfl⟩
  refine .inr ⟨fun c hc=>?_,by rw[b,m hm]⟩;rcases mQ_.1 hc with rfl | hc
  ·exact hm
  exact d c hc
theorem IX {l:List XC} {a b:Nat} (F:a<l.length) (hb:b<l.length) (h:(jy l)[a+1]? =(jy l)[b+1]?):l[a]? =l[b]?:=by
 have hok:=ll (l:=l) (nR_ _)
 have d:∀cl∈eC l l.length,∀x∈cl,∃w:Nat,x= .ofNat w:=fun cl u x hx=>by
  obtain⟨_,hh,c,_,_,_,m⟩:=hok.all cl u;obtain⟨v,_,e,_⟩:=m x hx;exact⟨v+1,e⟩
 have key:∀v,v<l.length->∃j cl,(eC l l.length)[j]? =some cl/\Int.ofNat (v+1)∈cl/\(jy l)[v+1]? =some (.ofNat j):=fun v hv=>by
  rcases xd (v:=v+1) (s:=fe l) (i:=0) (a:=List.replicate (l.length+1) 0) (by rw[List.length_replicate];omega) d with ⟨j,cl,A,G,I⟩ | ⟨A,_⟩
  ·exact⟨j,cl,A,G,by rw[<-nA_ j];exact I⟩
  obtain⟨cl,h1,K⟩:=hok.Ra v hv;exact absurd K<|A cl h1
 obtain⟨i,ci,C,L,M⟩:=key a F;obtain⟨j,cj,E,Q,R⟩:=key b hb;rw[M,R] at h;obtain rfl:i=j:=iJ_ (Option.some.inj h);rw[C] at E;obtain rfl:ci=cj:=Option.some.inj E;obtain⟨_,hh,c,_,_,_,m⟩:=hok.all ci (gB_ C);obtain⟨v,_,e1,e2⟩:=m _ L;obtain⟨w,_,T,U⟩:=m _ Q;rw[show a=v by have:=iJ_ e1;omega,show b=w by have:=iJ_ T;omega,e2,U]
def Ap:List Int->List Int->Int
 | x::l,y::m=>bif bM (eK x y) 0 then Ap l m else eK x y
 | _,_=>0
def cX (A B_:List Int) (c:Int):Prop:=∀l m,Ap (A++l) (B_++m)=bif bM c 0 then Ap l m else c
theorem cX.nil:cX [] [] 0:=fun _ _=>Z
theorem cX.one (x y:Int):cX [x] [y] (eK x y):=fun _ _=>Z
theorem cX.app {A B_ A' B':List Int} {c c':Int} (h:cX A B_ c) (h':c=0->cX A' B' c'):cX (A++A') (B_++B') (bif bM c 0 then c' else c):=fun l m=>by
 rw[lQ_,lQ_,h];simp only[x7]
 by_cases hc:c=0
 ·simp only[hc,if_true];rw[h' hc];simp only[x7]
 omega
theorem cX.rows {α:Type} {enc:α->List Int} {c:α->α->Int}:∀{ls ms:List α},ls.length=ms.length->(∀(i:Nat) (x y:α),ls[i]? =some x->ms[i]? =some y->cX (enc x) (enc y) (c x y))->cX (ls.flatMap enc) (ms.flatMap enc) (dS c ls ms)
 | [],[],_,_=>cX.nil
 | [],_::_,h,_=>by cases h
 | _::_,[],h,_=>by cases h
 | x::ls,y::ms,h,hc=>by
  rw[List.flatMap_cons,List.flatMap_cons];exact(hc 0 x y Z Z).app fun _=>cX.rows (by simpa using h) fun i x y h1 b=>hc (i+1) x y (by simpa using h1) (by simpa using b)
theorem cX.fz {A B_ A' B':List Int} {c:Int} {l:List Int} (h:cX A B_ c) (h':c=0->cX A' B' (Bj l)):cX (A++A') (B_++B') (Bj (c::l)):=h.app h'
theorem oO:∀{a b:List Int},a.length=b.length->cX a b (dS eK a b)
 | [],[],_=>cX.nil
 | [],_::_,h=>by cases h
 | _::_,[],h=>by cases h
 | x::a,y::b,h=>(cX.one x y).app fun _=>oO (by simpa using h)
theorem HG (x y:cU):cX x.ints y.ints (nO x y):=
 (cX.one x.kind y.kind).fz (B':=[y.loc,y.order,y.read,y.write]) (A':=[x.loc,x.order,x.read,x.write]) fun _=>
 (cX.one x.loc y.loc).fz (B':=[y.order,y.read,y.write]) (A':=[x.order,x.read,x.write]) fun _=>
 (cX.one x.order y.order).fz (B':=[y.read,y.write]) (A':=[x.read,x.write]) fun _=>
 (cX.one x.read y.read).fz (B':=[y.write]) (A':=[x.write]) fun _=>
 (cX.one x.write y.write).fz (A':=[]) (B':=[]) fun _=>cX.nil
theorem HH (x y:cQ):cX x.ints y.ints (ou x y):=
 (cX.one x.cq y.cq).fz (B':=[y.index]) (A':=[x.index]) fun _=>(cX.one x.index y.index).fz (A':=[]) (B':=[]) fun _=>cX.nil
theorem jK {α:Type} {a b:List α} (h:iC a b=0):a.length=b.length:=iJ_ (va h)
def kB (r:List cQ):List Int:=.ofNat r.length::r.flatMap cQ.ints
theorem wE (x y:List cQ):cX (kB x) (kB y) (iB x y):=by
 have h:=(cX.one (.ofNat x.length) (.ofNat y.length)).fz (A':=x.flatMap cQ.ints++[]) (B':=y.flatMap cQ.ints++[]) (l:=[dS ou x y]) fun h=>
  (cX.rows (enc:=cQ.ints) (c:=ou) (jK h) fun _ x y _ _=>HH x y).fz (A':=[]) (B':=[]) (l:=[]) fun _=>cX.nil
 rw[List.append_nil,List.append_nil] at h;exact h
def ma (g:XG):List Int:=
 [.ofNat g.threads.length]++(g.threads.map (fun r=>Int.ofNat r.length)++(g.threads.flatMap (fun r=>r.flatMap cU.ints)++([.ofNat g.from_.length]++(g.from_.flatMap kB++([.ofNat g.order.length]++(g.order.flatMap kB++([.ofNat g.init.length]++(g.init++[]))))))))
theorem BJ {α:Type} {f:α->Int}:∀{a b:List α},dS eK (a.map f) (b.map f)=dS (fun x y=>eK (f x) (f y)) a b
 | [],[]=>rfl
 | [],_::_=>rfl
 | _::_,[]=>rfl
 | x::a,y::b=>by
  show(bif bM (eK (f x)<|f y) 0 then dS eK (a.map f) (b.map f) else eK (f x) (f y))=(bif bM (eK (f x)<|f y) 0 then dS (fun x y=>eK (f x) (f y)) a b else eK (f x) (f y));rw[BJ]
theorem yt {α:Type} {c:α->α->Int}:∀{a b:List α},dS c a b=0->∀(i:Nat) (x y:α),a[i]? =some x->b[i]? =some y->c x y=0
 | [],_,_,i,x,y,h,_=>by simp at h
 | _::_,[],_,i,x,y,_,h=>by simp at h
 | p::a,q::b,h,i,x,y,h1,d=>by
  have h:(bif bM (c p q) 0 then dS c a b else c p q)=0:=h;rw[x7] at h;split at h
  ·rename_i hc;cases i with
   | zero=>
    have e1:p=x:=by simpa using h1
    have e2:q=y:=by simpa using d
    subst e1 e2;exact hc
   | succ i=>exact yt h i x y (by simpa using h1) (by simpa using d)
  contradiction
theorem JO (a b:XG):cX (ma a) (ma b) (dQ a b):=
 (cX.one _ _).fz fun h1=>
 cX.fz (c:=dS iC a.threads b.threads) (by
  have:=oO (a:=a.threads.map fun r=>Int.ofNat r.length) (b:=b.threads.map fun r=>Int.ofNat r.length) (by rw[lM_,lM_];exact jK h1);rw[BJ] at this;exact this) fun d=>
 cX.fz (c:=dS (dS nO) a.threads b.threads) (cX.rows (jK h1) fun i x y hx hy=>cX.rows (jK<|yt d i x y hx hy) fun _ e f _ _=>HG e f) fun _=>
 (cX.one _ _).fz fun h4=>
 cX.fz (c:=dS iB a.from_ b.from_) (cX.rows (jK h4) fun _ x y _ _=>wE x y) fun _=>
 (cX.one _ _).fz fun m=>
 cX.fz (c:=dS iB a.order b.order) (cX.rows (jK m) fun _ x y _ _=>wE x y) fun _=>
 (cX.one _ _).fz fun u=>
 cX.fz (c:=dS eK a.init b.init) (oO<|jK u) fun _=>cX.nil
theorem Aq (a b:XG):Ap (ma a) (ma b)=dQ a b:=by
 have h:=JO a b [] [];rw[List.append_nil,List.append_nil] at h;rw[h];show(bif bM (dQ a b) 0 then 0 else dQ a b)=_;rw[x7];split<;>omega
theorem ints_at {xs:List Int} {i:Nat} {x:Int} (h:xs[i]? =some x):(ints xs)[i]? =some (.int .i64 x):=by
 unfold ints;simp_all
theorem fF {K:KP} {xs:List Int} {vb e:Nat} (h:K vb (.row (ints xs) e false)) (hn:xs.length<=1000):bG K 1 cH xs (.slice vb 0 xs.length (.known xs.length)):=by
 refine .inr ⟨vb,0,_,_,e,false,Z,.inr ⟨_,Z,nR_ _⟩,h,?_,by omega,fun i x hx=>?_⟩
 ·unfold ints;simp_all
 rw[Nat.mul_one,nA_,cz<|ints_at hx];rfl
theorem iF {α β:Type} {f:α->List β} {b:Nat}:∀{l:List α},(∀x∈l,(f x).length<=b)->(l.flatMap f).length<=l.length*b
 | [],_=>Nat.zero_le _
 | x::l,h=>by
  have h1:=h x (mS_ ..);have h2:=iF (l:=l) fun y hy=>h y (mC_ _ hy)
  rw[List.flatMap_cons,lA_,List.length_cons,Nat.succ_mul];omega
theorem fI {α β:Type} {f:α->List β}:∀{l:List α} {i:Nat} {x:α},l[i]? =some x->(l.take (i+1)).flatMap f=(l.take i).flatMap f++f x
 | [],_,_,h=>by simp at h
 | y::l,0,x,h=>by
  have:y=x:=by simpa using h
  subst this;simp
 | y::l,i+1,x,h=>by
  have h':l[i]? =some x:=by simpa using h
  show(y::l.take (i+1)).flatMap f=(y::l.take i).flatMap f++f x;rw[List.flatMap_cons,List.flatMap_cons,fI h',lQ_]
theorem map_take {α β:Type} {f:α->β} {l:List α} {i:Nat} {x:α} (h:l[i]? =some x):(l.take (i+1)).map f=(l.take i).map f++[f x]:=by
 rw[List.take_add_one,h,List.map_append];rfl
theorem HT {xs:List Int} {b e E:Nat} (hn:xs.length<=1000):cS 1 E cH xs (.slice b 0 xs.length (.known xs.length)) [(b,.row (ints xs) e false)]:=by
 refine .inr ⟨b,_,_,e,Z,Z,?_,fun i x hx=>?_,.inl Z,by omega⟩
 ·unfold ints;simp_all
 rw[Nat.mul_one,cz<|ints_at hx];rfl
structure Oh (g:XG):Prop where
 t:g.threads.length<=4
 r:∀l∈g.threads,l.length<=14
 f:g.from_.length<=4
 fr:∀l∈g.from_,l.length<=14
 o:g.order.length<=6
 Qs:∀l∈g.order,l.length<=56
 i:g.init.length<=6
theorem NQ {g:XG} (h:bY g=0):Oh g:=by
 obtain⟨d,m,b,u,b5,A,b7⟩:=fW h;exact⟨d,b,by omega,xq A u b,by omega,sk h,m⟩
theorem Qf (e:cU):e.ints.length<=5:=nR_ _
theorem Qe (e:cQ):e.ints.length<=2:=nR_ _
theorem Ql {g:XG} (h:Oh g) (i:Nat):((g.threads.take i).map fun r=>Int.ofNat r.length).length<=4:=by rw[lM_,lT_];have:=h.t;omega
theorem NZ {r:List cU} (h:r.length<=14) (i:Nat):((r.take i).flatMap cU.ints).length<=70:=by
 have h1:=iF (f:=cU.ints) (b:=5) (l:=r.take i) fun x _=>Qf x
 grind
theorem NY {g:XG} (h:Oh g) (i:Nat):((g.threads.take i).flatMap fun r=>r.flatMap cU.ints).length<=280:=by
 have h1:=iF (f:=fun r:List cU=>r.flatMap cU.ints) (b:=70) (l:=g.threads.take i) fun x hx=>by
  have:=NZ (h.r x<|List.mem_of_mem_take hx) x.length
  simp_all
 have h2:(g.threads.take i).length<=4:=by rw[lT_];have:=h.t;omega
 omega
theorem Ao {r:List cQ} {b:Nat} (h:r.length<=b) (i:Nat):((r.take i).flatMap cQ.ints).length<=b*2:=by
 have h1:=iF (f:=cQ.ints) (b:=2) (l:=r.take i) fun x _=>Qe x
 grind
theorem pX {ls:List (List cQ)} {n b:Nat} (hn:ls.length<=n) (h:∀l∈ls,l.length<=b) (i:Nat):((ls.take i).flatMap kB).length<=n*(b*2+1):=by
 have h1:=iF (f:=kB) (b:=b*2+1) (l:=ls.take i) fun x hx=>by
  have:=Ao (h x<|List.mem_of_mem_take hx) x.length;rw[List.take_length] at this;show(x.flatMap cQ.ints).length+1<=_;omega
 have d:(ls.take i).length<=n:=by grind
 have h3:(ls.take i).length*(b*2+1)<=n*(b*2+1):=nM_ _ d;omega
section
variable {V:N} {K:KP} {A M L:Own} {x:Nat×cu}
theorem St.front (h:St V K (A++(M++L))):St V K (M++(A++L)):=h.perm (List.perm_append_comm_assoc A M L)
theorem St.behind (h:St V K (x::(M++L))):St V K (M++x::L):=h.perm List.perm_middle.symm
theorem St.ahead (h:St V K (M++x::L)):St V K (x::(M++L)):=h.perm List.perm_middle
end
theorem mI.N9 {α:Type} {m E:Nat} {R:α->List J->Prop} {l:List α} {u:J} {M:Own} (h:mI m E R l u M) {k:Nat} (hk:k<=l.length):
  ∃u',mI m E R (l.take k) u' M/\∀{P:Program} {ev:Operand->Option J} {t:TypeId} {x hi:Operand} {kk:IntKind},P.underlying t=some (.slice E)->(P.info? E).map (·.size)=some m->ev x=some u->ev hi=some (.int kk (.ofNat k))->fy P ev t x none (some hi) none=some u':=by
 rcases h with ⟨rfl,rfl,rfl⟩ | ⟨b,c,cells,e,rfl,rfl,F,h4,h5,h6⟩
 ·refine⟨.au,.inl ⟨List.take_nil,Z,Z⟩,fun {P ev t x hi kk} hu hj hx hh=>?_⟩;obtain⟨j,d,rfl⟩:=oM_.1 hj;obtain rfl:k=0:=by simpa using hk
  have:cO ev 0 0 none (some hi)=some (0,0):=sX hh (nR_ _);simp only[fy,hu,hx,d,this]
 have hl:(l.take k).length=k:=by simp_all
 have C:∀(i:Nat) (x:α),(l.take k)[i]? =some x->R x ((cells.drop (i*m)).take m):=fun i x hi=>by
  grind
 have hle:k*m<=cells.length:=Nat.le_trans (nM_ _ hk) F;rcases h5 with ⟨n,rfl,h7,G⟩ | ⟨rfl,rfl⟩
 ·refine⟨.slice b 0 k (.known n),.inr ⟨b,.known n,cells,e,by rw[hl],Z,by rw[hl];exact hle,C,.inl ⟨n,Z,by rw[hl];omega,G⟩,by rw[hl];omega⟩,fun {P ev t x hi kk} hu hj hx hh=>?_⟩;obtain⟨j,d,rfl⟩:=oM_.1 hj;have:cO ev l.length n none (some hi)=some (0,k):=sX hh oM;simp only[fy,hu,hx,cutAt,this,cut,d]
  simp_all
 refine⟨.slice b 0 k (.upto m),.inr ⟨b,.upto m,cells,e,by rw[hl],Z,by rw[hl];exact hle,C,.inr ⟨Z,Z⟩,by rw[hl];omega⟩,fun {P ev t x hi kk} hu hj hx hh=>?_⟩;obtain⟨j,d,rfl⟩:=oM_.1 hj;have:cO ev l.length l.length none (some hi)=some (0,k):=sX hh hk;simp only[fy,hu,hx,this,d,show Nat.beq j.size j.size=true from Nat.beq_refl _,cond_true,Nat.zero_mul,Nat.sub_zero,Nat.add_zero]
theorem mI.bK {α:Type} {m E:Nat} {R:α->List J->Prop} {l:List α} {u:J} {M:Own} (h:mI m E R l u M):l.length<=1048576:=by
 rcases h with ⟨rfl,_⟩ | ⟨_,_,_,_,_,_,_,_,_,h⟩
 ·exact Nat.zero_le _
 exact h
theorem gY.mono {K K':KP} (hk:KP.le K K'):∀{k:Nat} {x:XE} {vs:List J},gY K k x vs->gY K' k x vs
 | 0,x,_,h=>by cases x;exact h.elim
 | k+1,.mk _ _ _ _,_,⟨v,h1,b⟩=>⟨v,h1,b.mono hk fun _ _ h=>gY.mono hk h⟩
theorem rO.mono {K K':KP} (hk:KP.le K K') {k:Nat} {x:XI} {vs:List J} (h:rO K k x vs):rO K' k x vs:=let ⟨v,h1,b⟩:=h;⟨v,h1,b.mono hk fun _ _ h=>h.mono hk⟩
theorem gf.mono {K K':KP} (hk:KP.le K K') {k:Nat} {x:XC} {vs:List J} (h:gf K k x vs):gf K' k x vs:=let ⟨v,h1,b⟩:=h;⟨v,h1,b.mono hk fun _ _ h=>h.mono hk⟩
theorem eJ {α:Type} {P:α->Prop} {a b:α} (c:Bool) (h1:P a) (h0:P b):P (bif c then a else b):=by grind
theorem gJ {α:Type} {P:α->Prop} {a b:α} (c:Bool) (h1:c=true->P a) (h0:c=false->P b):P (bif c then a else b):=by grind
theorem iI (a b:List cU):ek (a++b)=ek a++ek b:=by unfold ek;simp_all
theorem zb {e:cU} (h:dR e=false):ek [e]= []:=by unfold ek;simp_all
theorem xj {e:cU} (h:dR e=true):ek [e]= [e.read]:=by unfold ek;simp_all
theorem CO {l:List cU} (h:ek l= []):∀e∈l,dR e=false:=by
 intro e he;cases b:dR e with
 | false=>rfl
 | true=>
  have:e.read∈ek l:=List.mem_map_of_mem (List.mem_filter.2 ⟨he,b⟩)
  simp_all
def Grown (s s':TS):Prop:=(∃ext,s'.events=s.events++ext/\ek ext= [])/\s'.asked=s.asked
theorem Grown.refl (s:TS):Grown s s:=⟨⟨[],by simp,Z⟩,Z⟩
theorem Grown.trans {s s' s'':TS} (h:Grown s s') (h':Grown s' s''):Grown s s'':=by
 obtain⟨⟨x,h1,b⟩,d⟩:=h;obtain⟨⟨y,k1,m⟩,u⟩:=h';exact⟨⟨x++y,by simp_all,by rw[iI,b,m];rfl⟩,by rw[u,d]⟩
theorem C6 (k:Nat) (x:XI) (s:TS):Grown s (nU k x s).1:=by
 obtain⟨P,d⟩:∃P:TS×Bool->Prop,P=fun r=>Grown s r.1:=⟨_,Z⟩
 have h0:∀(r:TS×Bool),r.1.events=s.events->r.1.asked=s.asked->P r:=fun r h1 b=>by rw[d];exact⟨⟨[],by rw[h1];simp,Z⟩,b⟩
 have hw:∀(r:TS×Bool) (e:cU),dR e=false->r.1.events=s.events++[e]->r.1.asked=s.asked->P r:=fun r e h1 b m=>by rw[d];exact⟨⟨[e],b,zb h1⟩,m⟩
 have:P (nU k x s):=by
  unfold nU;refine eJ _ (h0 _ Z Z)<|eJ _ (hw _ _ Z Z Z)<|eJ _ (hw _ _ Z Z Z)<|eJ _ (eJ _ (h0 _ Z Z)<|h0 _ Z Z)<|eJ _ (eJ _ (h0 _ Z Z)<|h0 _ Z Z)<|eJ _ (h0 _ Z Z)<|eJ _ (eJ _ (h0 _ Z Z)<|h0 _ Z Z)<|eJ _ (h0 _ Z Z)<|eJ _ (h0 _ Z Z)<|h0 _ Z Z
 simp_all
theorem uH (k:Nat) (c:XC) (s:TS):Grown s (fC k c s).1:=by
 grind [fC,Grown.refl,C6]
theorem tl (k:Nat) (c:XC):∀(f:Nat) (s:TS),Grown s (OD k c f s)
 | 0,s=>Grown.refl s
 | f+1,s=>by
  show Grown s (bif (fC k c s).2 then OD k c f (fC k c s).1 else(fC k c s).1);exact eJ (P:=Grown s) _ ((uH k c s).trans<|tl k c f _)<|uH k c s
def oe (c:XC) (s:TS):Prop:=s.asks=true->∃x,c.ins[s.at_]? =some x/\(x.kind=2∨x.kind=4∨x.kind=5∨x.kind=6)
theorem Fi {k:Nat} {x:XI} {s:TS} {dT nins:Int} (hx:tM dT nins k x=true) (hs:s.asks=false):(nU k x s).1.asks=true->(nU k x s).1.at_=s.at_/\(x.kind=2∨x.kind=4∨x.kind=5∨x.kind=6)/\(nU k x s).2=false:=by
 obtain⟨n,sh,hn,n1,aa,_,_⟩:=zc hx;obtain⟨P,hP⟩:∃P:TS×Bool->Prop,P=fun r=>r.1.asks=true->r.1.at_=s.at_/\(x.kind=2∨x.kind=4∨x.kind=5∨x.kind=6)/\r.2=false:=⟨_,Z⟩
 have ab:∀r:TS×Bool,r.1.asks=s.asks->P r:=fun r h1=>by simp_all
 have ne:∀m:Int,bM x.kind m=false->x.kind≠m:=fun m h e=>by rw[e,ey] at h;cases h
 have:P (nU k x s):=by
  unfold nU
  grind
 simp_all
theorem H8 {k:Nat} {c:XC} (hc:mj k c) {s:TS} (b:s.asks=false):oe c (fC k c s).1/\((fC k c s).2=true->(fC k c s).1.asks=false):=by
 unfold fC;cases hx:c.ins[s.at_]? with
 | none=>exact⟨fun h=>(by simp_all),fun h=>(by cases h)⟩
 | some x=>
  have h:=Fi (k:=k) (hc.right x (gB_ hx)) b;refine⟨fun ha=>?_,fun h2=>?_⟩
  ·simp_all
  simp_all
theorem Aj {k:Nat} {c:XC} (hc:mj k c):∀(f:Nat) (s:TS),s.asks=false->oe c (OD k c f s)
 | 0,s,b=>fun h=>by rw[show s.asks=true from h] at b;cases b
 | f+1,s,b=>by
  have h:=H8 hc b;show oe c (bif (fC k c s).2 then OD k c f (fC k c s).1 else(fC k c s).1);cases d:(fC k c s).2 with
  | true=>exact Aj hc f _ (h.2 d)
  | false=>exact h.1
theorem DV {k:Nat} {c:XC} (hc:mj k c):oe c (zP k c):=Aj hc _ _ Z
theorem Bu {k:Nat} {c:XC} (hc:mj k c) (s:TS) (v:Int):oe c (gm k c s v):=Aj hc _ _ Z
theorem jS {a:xR} {v:Int} (h:a.kind=2∨a.kind=4∨a.kind=5∨a.kind=6):dR (fA a v)=true/\(fA a v).read=v:=by
 unfold fA;rcases h with h | h | h | h<;>rw[h]
 ·exact⟨Z,Z⟩
 ·exact eJ (P:=fun e:cU=>dR e=true/\e.read=v) (bM v a.a) ⟨Z,Z⟩ ⟨Z,Z⟩
 ·exact⟨Z,Z⟩
 exact⟨Z,Z⟩
theorem sU {k:Nat} {c:XC} {s:TS} (h:oe c s) (b:s.asks=true):((rS k c s).kind=2∨(rS k c s).kind=4∨(rS k c s).kind=5∨(rS k c s).kind=6):=by
 obtain⟨x,hx,hk⟩:=h b;unfold rS;rw[hx];exact hk
theorem qz {k:Nat} {c:XC} {s:TS} (h:oe c s) (b:s.asks=true) (v:Int):∃ext,(gm k c s v).events=s.events++fA (rS k c s) v::ext/\ek (fA (rS k c s) v::ext)= [v]:=by
 obtain⟨⟨ext,h1,d⟩,_⟩:=tl k c (F0 c) (Bv k c s v);obtain⟨m,u⟩:=jS (v:=v) (sU (k:=k) h b);refine⟨ext,?_,?_⟩
 ·unfold gm;rw[h1];show(s.events++[_])++ext=_
  simp_all
 rw[show fA (rS k c s) v::ext= [fA (rS k c s) v]++ext from Z,iI,xj m,d,u];rfl
theorem xr {k:Nat} {c:XC} (hc:mj k c):∀(A:List Int) (s:TS),oe c s->oe c (qx k c A s)/\∃ext m,(qx k c A s).events=s.events++ext/\ek ext=A.take m/\((qx k c A s).asks=true->A.length<=m)
 | [],s,h=>⟨h,[],0,by show s.events=_;simp,Z,fun _=>nR_ _⟩
 | v::r,s,h=>by
  show oe c (bif s.asks then qx k c r (gm k c s v) else s)/\∃ext m,(bif s.asks then qx k c r (gm k c s v) else s).events=s.events++ext/\ek ext=(v::r).take m/\((bif s.asks then qx k c r (gm k c s v) else s).asks=true->(v::r).length<=m);cases b:s.asks with
  | false=>exact⟨h,[],0,by simp_all,Z,fun h'=>by simp_all⟩
  | true=>
   obtain⟨e1,h1,d⟩:=qz (k:=k) h b v;obtain⟨q,ext,m,h3,h4,h5⟩:=xr hc r _ (Bu hc s v);refine⟨q,fA (rS k c s) v::e1++ext,m+1,?_,?_,fun h'=>?_⟩
   ·simp_all
   ·rw[iI,d,h4];rfl
   simp_all
theorem zd {k:Nat} {c:XC} (v:Int):∀(A:List Int) (s:TS),qx k c (A++[v]) s=bif (qx k c A s).asks then gm k c (qx k c A s) v else qx k c A s
 | [],s=>rfl
 | a::r,s=>by
  show(bif s.asks then qx k c (r++[v]) (gm k c s a) else s)=bif (bif s.asks then qx k c r (gm k c s a) else s).asks then gm k c (bif s.asks then qx k c r (gm k c s a) else s) v else(bif s.asks then qx k c r (gm k c s a) else s);cases ha:s.asks with
  | false=>simp_all
  | true=>simp only[cond_true];exact zd v r _
theorem rL {k:Nat} {c:XC} (hc:mj k c) (A:List Int):oe c (nG k c A)/\∃m,ek (nG k c A).events=A.take m/\((nG k c A).asks=true->A.length<=m):=by
 obtain⟨h,ext,m,h1,h2,h3⟩:=xr hc A (zP k c) (DV hc);obtain⟨⟨e0,h4,h5⟩,_⟩:=tl k c (F0 c) ⟨0,List.replicate c.dT.toNat 0,[],0,0,false⟩
 grind [nG,iI,zP]
theorem mS {s:TS} {l:List cU}:BS s l=true↔∃rest,s.events=l++rest:=by
 grind [BS,bR,List.take_append_drop,gM]
def nM (k:Nat) (c:XC) (l:List cU):Prop:=qK k c=true/\BS (nG k c<|ek l) l=true
theorem E3 {k:Nat} {c:XC} (hc:mj k c) {l rest:List cU} (h:(nG k c<|ek l).events=l++rest):ek rest= []:=by
 obtain⟨_,m,h1,_⟩:=rL hc (ek l);rw[h,iI] at h1;have:=congrArg List.length h1
 grind [List.length_eq_zero_iff]
theorem Jo {k:Nat} {c:XC} (h:qK k c=true):nM k c []:=⟨h,mS.2 ⟨_,Z⟩⟩
theorem Es {k:Nat} {c:XC} {l:List cU} {e:cU} (h:nM k c l) (he:(nG k c<|ek l).events[l.length]? =some e):nM k c (l++[e])/\dR e=false:=by
 obtain⟨hf,h⟩:=h;have hc:=(Ah hf).1;obtain⟨rest,b⟩:=mS.1 h;have hq:=E3 hc b;rw[b,gR_<|nR_ _,Nat.sub_self] at he;cases rest with
 | nil=>cases he
 | cons e' r=>
  simp only[List.getElem?_cons_zero,oJ_] at he;subst he;have hne:=CO hq e' (mS_ ..);refine⟨⟨hf,?_⟩,hne⟩;rw[iI,zb hne,List.append_nil];exact mS.2 ⟨r,by rw[b];simp⟩
theorem BT {k:Nat} {c:XC} {l:List cU} (h:nM k c l) (he:(nG k c<|ek l).events[l.length]? =none) (b:(nG k c<|ek l).asks=true) (v:Int):nM k c (l++[fA (rS k c<|nG k c<|ek l) v]):=by
 obtain⟨hf,h⟩:=h;have hc:=(Ah hf).1;obtain⟨rest,d⟩:=mS.1 h
 have hl:rest= []:=by
  simp_all
 subst hl;rw[List.append_nil] at d;have hk:=(rL hc<|ek l).1;obtain⟨m,u⟩:=jS (v:=v) (sU (k:=k) hk b);refine⟨hf,?_⟩;rw[iI,xj m,u]
 have e1:nG k c (ek l++[v])=gm k c (nG k c<|ek l) v:=by
  unfold nG at b⊢;rw[zd,b];rfl
 rw[e1];obtain⟨ext,h1,_⟩:=qz (k:=k) hk b v;exact mS.2 ⟨ext,by rw[h1,d];simp⟩
theorem oq {k:Nat} {c:XC}:bM (vL k c) 0=qK k c:=by
 unfold vL;cases h:qK k c with
 | true=>rfl
 | false=>
  simp only[cond_false];cases h1:bM (nu k c) 0 with
  | true=>rfl
  | false=>exact h1
theorem wN {k:Nat} {c:XC} {l:List cU}:(eP k c l).2=0↔nM k c l:=by
 unfold eP nM;rw[oq];cases hf:qK k c with
 | false=>
  refine⟨fun h=>?_,fun h=>(by cases h.1)⟩;have h:vL k c=0:=h;have:=oq (k:=k) (c:=c);rw[h,hf] at this;cases this
 | true=>
  show(CA k c (nG k c<|ek l) l).2=0↔_;unfold CA;cases ht:BS (nG k c<|ek l) l with
  | false=>exact⟨fun h=>(by cases h),fun h=>(by cases h.2)⟩
  | true=>
   refine⟨fun _=>⟨Z,Z⟩,fun _=>?_⟩;simp only[cC,cond_true,cond_false]
   grind
theorem Cz {k:Nat} {c:XC} {l:List cU} (h:(eP k c l).2=0):
  (∃e,eP k c l=(⟨e,uz,0⟩,0)/\nM k c (l++[e])/\dR e=false)∨
  (∃a,eP k c l=(⟨CB,a,0⟩,0)/\(a.kind=2∨a.kind=4∨a.kind=5∨a.kind=6)/\∀v,nM k c (l++[fA a v]))∨
  (∃n,eP k c l=(⟨CB,uz,n⟩,0)):=by
 have hF:=wN.1 h;obtain⟨hf,b⟩:=hF;have hc:=(Ah hf).1;unfold eP;rw[oq,hf];show(∃e,CA k c (nG k c<|ek l) l=_/\_)∨_;simp only[cC,cond_true,cond_false];unfold CA;rw[b];simp only[cC,cond_true,cond_false];cases he:(nG k c<|ek l).events[l.length]? with
 | some e=>
  obtain⟨h1,h2⟩:=Es ⟨hf,b⟩ he
  simp_all
 | none=>
  cases d:(nG k c<|ek l).asks with
  | true=>exact .inr (.inl ⟨_,Z,sU (rL hc _).1 d,fun v=>BT ⟨hf,b⟩ he d v⟩)
  | false=>simp_all
theorem St.cK {V:N} {K:KP} {M L:Own} (h:St V K (M++L)):∃b,KP.le K b/\(∀e∈M,b e.1 e.2)/\St V b L:=⟨K.ml M,KP.dX _ _,fun e he=>.inr he,h.keeps⟩
theorem Fg {k:Nat} {c:XC} {s:TS} {x:XI} (hx:c.ins[s.at_]? =some x) (h:(fC k c s).2=true):(fC k c s).1.at_∈oT c s.at_:=by
 obtain⟨P,u⟩:∃P:TS×Bool->Prop,P=fun r=>r.2=true->r.1.at_∈oT c s.at_:=⟨_,Z⟩
 have A:oT c s.at_=(yX x s.at_).map Int.toNat:=by unfold oT;rw[hx]
 have m:∀r:TS×Bool,r.2=false->P r:=fun r h1=>by simp_all
 have d:(bM x.kind 10=false)->(bM x.kind 12=false)->(bM x.kind 13=false)->∀r:TS×Bool,r.1.at_=s.at_+1->P r:=fun h0 h2 h3 r h1=>by
  grind [yX]
 have ne:∀(a b:Int),bM x.kind a=true->a≠b->bM x.kind b=false:=fun a b h h'=>by
  rw[dv,decide_eq_true_iff] at h;rw[dv,decide_eq_false_iff_not,h];exact h'
 have:P (fC k c s):=by
  unfold fC;rw[hx];dsimp only;unfold nU
  refine gJ _ (fun e=>d (ne _ _ e (by decide)) (ne _ _ e (by decide)) (ne _ _ e (by decide)) _ Z) fun e1=>gJ _ (fun e=>d (ne _ _ e (by decide)) (ne _ _ e (by decide)) (ne _ _ e (by decide)) _ Z) fun e3=>gJ _ (fun e=>d (ne _ _ e (by decide)) (ne _ _ e (by decide)) (ne _ _ e (by decide)) _ Z) fun e7=>
   gJ _ (fun e=>eJ _ (m _ Z) (d (ne _ _ e (by decide)) (ne _ _ e (by decide)) (ne _ _ e (by decide)) _ Z)) fun e8=>gJ _ (fun e=>eJ _ (m _ Z) (d (ne _ _ e (by decide)) (ne _ _ e (by decide)) (ne _ _ e (by decide)) _ Z)) fun e9=>
   gJ _ (fun e=>?_) fun aa=>gJ _ (fun e=>eJ _ ?_ (d (ne _ _ e (by decide)) (ne _ _ e (by decide)) (ne _ _ e (by decide)) _ Z)) fun ab=>gJ _ (fun _=>m _ Z) fun ac=>gJ _ (fun _=>m _ Z) fun ad=>m _ Z
  ·rw[u];intro _;rw[A];unfold yX;rw[e];simp
  grind [yX]
 simp_all
theorem H9 {k:Nat} {c:XC} {s:TS}:(fC k c s).1.dT.length=s.dT.length/\(fC k c s).1.events.length<=s.events.length+1:=by
 obtain⟨P,hP⟩:∃P:TS×Bool->Prop,P=fun r=>r.1.dT.length=s.dT.length/\r.1.events.length<=s.events.length+1:=⟨_,Z⟩
 have h0:∀r:TS×Bool,r.1.dT=s.dT->r.1.events=s.events->P r:=fun r h1 b=>by simp_all
 have h1:∀(r:TS×Bool) (e:cU),r.1.dT=s.dT->r.1.events=s.events++[e]->P r:=fun r e h1 b=>by simp_all
 have:P (fC k c s):=by
  unfold fC;cases hx:c.ins[s.at_]? with
  | none=>exact h0 _ Z Z
  | some x=>
   dsimp only;unfold nU
   grind
 simp_all
structure Tt (c:XC) (s:TS):Prop where
 at_:s.at_<c.ins.length
 dT:s.dT.length=c.dT.toNat
 events:s.events.length<=1000000
theorem results_none {P:Program} {fn:Func} {t:PT J} {V:N} (b:fn.results.toList= []):dU P fn t V=some (.tuple []):=by
 unfold dU;rw[b];rfl
theorem kf {P:Program} {fn:Func} {R:J->N->Prop} {t:PT J} {V:N} (b:fn.results.toList= []) (d:R (.tuple []) V):Ek P fn R .normal t V:=⟨.inl Z,_,results_none b,d⟩
structure PY (c:XC) (out:List Nat) (s:TS):Prop where
 at_:s.at_∈out
 dT:s.dT.length=c.dT.toNat
theorem Fh {k:Nat} {c:XC} {s:TS} (h:(fC k c s).2=false):(fC k c s).1.at_=s.at_:=by
 obtain⟨P,hP⟩:∃P:TS×Bool->Prop,P=fun r=>r.2=false->r.1.at_=s.at_:=⟨_,Z⟩
 have hy:∀r:TS×Bool,r.2=true->P r:=fun r h1=>by simp_all
 have b:∀r:TS×Bool,r.1.at_=s.at_->P r:=fun r h1=>by simp_all
 have:P (fC k c s):=by
  unfold fC;cases hx:c.ins[s.at_]? with
  | none=>exact b _ Z
  | some x=>
   dsimp only;unfold nU
   grind
 simp_all
theorem PY.lt {c:XC} {out:List Nat} {s:TS} (h:PY c out s) (b:vB (oT c) c.ins.length out):s.at_<c.ins.length:=b.lt _ h.at_
theorem PY.step {k:Nat} {c:XC} {out:List Nat} {s:TS} (h:PY c out s) (b:vB (oT c) c.ins.length out):PY c out (fC k c s).1:=by
 refine⟨?_,by rw[H9.1];exact h.dT⟩;cases hb:(fC k c s).2 with
 | false=>rw[Fh hb];exact h.at_
 | true=>
  obtain⟨x,hx⟩:=bZ (h.lt b);obtain⟨q,hq⟩:=gO_ h.at_;obtain⟨q',_,aa⟩:=b.Pb q _ hq _ (Fg hx hb)
  grind
inductive Reach (nx:Nat->List Nat):Nat->Prop
 | zero:Reach nx 0
 | step {i t:Nat}:Reach nx i->t∈nx i->Reach nx t
theorem Reach.tL {nx:Nat->List Nat} {n:Nat} {out:List Nat} (b:vB nx n out) {i:Nat} (h:Reach nx i):i∈out:=by
 induction h with
 | zero=>exact b.zero
 | step _ d ih=>
  obtain⟨q,hq⟩:=gO_ ih;obtain⟨q',_,h'⟩:=b.Pb q _ hq _ d
  grind
section
variable {nx:Nat->List Nat} {w:Nat->Nat} {r:Nat->Bool} {n:Nat}
end
section
variable {nx dx:Nat->List Nat} {w:Nat->Nat} {r:Nat->Bool} {n:Nat} {out:List Nat} {F H_:Nat->Nat}
end
structure Sy (nx:Nat->List Nat) (s:DS):Prop where
 open_:∀i:Nat,s.st[i]? =some 1->i∈s.path
 S5:∀(j a b:Nat),s.path[j]? =some a->s.path[j+1]? =some b->b∈nx a
 reach:∀i∈s.path,Reach nx i
abbrev gB (b:Bool):J:=.bool b
structure PW (nx:Nat->List Nat) (n:Nat) (o:List Bool) (st:List Nat):Prop where
 len:o.length=n
 reach:∀i:Nat,o[i]? =some true->Reach nx i
 zero:o[0]? =some true
 Nj:∀i∈st,i<n/\o[i]? =some true
 closed:∀i:Nat,o[i]? =some true->i∈st∨∀t∈nx i,o[t]? =some true
structure DK (nx:Nat->List Nat) (n:Nat) (o:List Bool) (st:List Nat) (a m:Nat) (dl:List Nat):Prop where
 len:o.length=n
 reach:∀i:Nat,o[i]? =some true->Reach nx i
 zero:o[0]? =some true
 Nj:∀i∈st,i<n/\o[i]? =some true
 at_:o[a]? =some true
 closed:∀i:Nat,o[i]? =some true->i∈st∨i=a∨∀t∈nx i,o[t]? =some true
 done:∀(q t:Nat),q<m->dl[q]? =some t->o[t]? =some true
section
variable {nx:Nat->List Nat} {n:Nat} {o:List Bool} {st:List Nat} {a m t:Nat} {dl:List Nat}
theorem PW.pop (h:PW nx n o st) (ha:st.getLast? =some a):DK nx n o st.dropLast a 0 dl where
 len:=h.len
 reach:=h.reach
 zero:=h.zero
 Nj i hi:=h.Nj i ((List.dropLast_sublist _).subset hi)
 at_:=(h.Nj a (by grind)).2
 closed i hi:=by
  rcases h.closed i hi with h1 | h1
  ·grind [List.getLast?_eq_some_iff]
  simp_all
 done q t hq:=absurd hq (nZ_ _)
theorem DK.skip (h:DK nx n o st a m dl) (ht:dl[m]? =some t) (ho:o[t]? =some true):DK nx n o st a (m+1) dl where
 len:=h.len
 reach:=h.reach
 zero:=h.zero
 Nj:=h.Nj
 at_:=h.at_
 closed:=h.closed
 done q t' hq h':=by
  by_cases e:q=m
  ·simp_all
  exact h.done q t' oM h'
theorem sx {i:Nat} (hi:o[i]? =some true):(o.set t true)[i]? =some true:=by
 grind
theorem DK.mark (h:DK nx n o st a m dl) (d:dl[m]? =some t) (u:t∈nx a) (b:t<n):DK nx n (o.set t true) (st++[t]) a (m+1) dl where
 len:=by rw[List.length_set];exact h.len
 reach i hi:=by
  rw[List.getElem?_set] at hi;split at hi
  ·rename_i e;subst e;exact .step (h.reach a h.at_) u
  exact h.reach i hi
 zero:=sx h.zero
 Nj i hi:=by
  rcases List.mem_append.1 hi with hi | hi
  ·exact⟨(h.Nj i hi).1,sx (h.Nj i hi).2⟩
  obtain rfl:=List.mem_singleton.1 hi;exact⟨b,by rw[List.getElem?_set,if_pos Z,if_pos (by rw[h.len];exact b)]⟩
 at_:=sx h.at_
 closed i hi:=by
  rw[List.getElem?_set] at hi;split at hi
  ·simp_all
  rcases h.closed i hi with h1 | h1 | h1
  ·simp_all
  ·exact .inr (.inl h1)
  grind
 done q t' hq h':=by
  by_cases e:q=m
  ·subst e;rw[d] at h';cases h';rw[List.getElem?_set,if_pos Z,if_pos (by rw[h.len];exact b)]
  exact sx<|h.done q t' oM h'
end
end Go.Ev
namespace Go.Ev
variable [Env]
open Go.Proofs
set_option maxRecDepth 4000
set_option maxHeartbeats 8000000
def Pg (h:pH):List J:=[.bool h.Gx,.bool h.loc,.bool h.order,.bool h.to,.int .i64 (.ofNat h.exprs)]
def Nh:List J:=AQ.flatMap Pg
structure Oj (G:Cx) (K:KP):Prop where
 gl:Nat.ble 1 G.gl=true
 sh:∃e ro,K (posOf 0) (.row Nh e ro)
theorem Oj.mono {G:Cx} {K K':KP} (h:Oj G K) (hk:KP.le K K'):Oj G K':=⟨h.gl,let ⟨e,ro,hh⟩:=h.sh;⟨e,ro,hk _ _ hh⟩⟩
abbrev gZ (n:Int):J:=.int .i64 n
abbrev tU (bk pr:Nat) (tk:List Bool) (p:List Int) (L:Own):Own:=(bk,.row (tk.map gB) 101 false)::(pr,.row (p.map gZ) 3 false)::L
theorem Lt {t:Nat} (h1:1<=t) (h:t<=1000):wr .i64 (Int.sub (.ofNat t) 1)= .ofNat (t-1):=by
 obtain⟨s,rfl⟩:∃s,t=s+1:=⟨t-1,by omega⟩;exact fP oM
theorem KJ {tk:List Bool} {i:Nat} (h:tk[i]? =some false):(tk.set i true).set i false=tk:=by
 refine List.ext_getElem? fun j=>?_
 by_cases e:i=j
 ·subst e;have hl:=(gA.1 h).1;rw[List.getElem?_set_self (by rw[List.length_set];exact hl),h]
 rw[List.getElem?_set_ne e,List.getElem?_set_ne e]
theorem Pz {G:Cx} (hG:Plain G) {K:KP} {n m:Nat} {l:List XC} {lv cv:J} {cls:List Int} (hl:bG K 2 (gf K m) l lv) (a4:l.length=n) (a5:n<=4) (hc:bG K 1 cH cls cv) (a9:cls.length=n+1)
  {pl py pp pc pT:J} {b Q F:Nat} (W:dz K pl [lv]) (ap:dz K py [.yield b]) (X:dz K pp [.slice Q 0 n (.known n)]) (ab:dz K pc [cv]) (av:dz K pT [.func 63 [] [pl,py,pp,.ptr F 0,pc,pT]])
  {T:List (List Int)} {I:List (List Int)->Own->Prop} (hY:∀(acc:List (List Int)) (p:List Int) (tk:List Bool) (L:Own) (V:N),I acc L->acc.length+1<=256->p.length=n->p∈T->St V K (tU F Q tk p L)->lT Tryz.prog G b [.slice Q 0 n (.known n)] V fun v V'=>v= .bool true/\∃L',I (acc++[p]) L'/\St V' K (tU F Q tk p L')):
  ∀(f th:Nat) (tk:List Bool) (p:List Int) (acc:List (List Int)) (L:Own) (V:N),th+f=n+1->1<=th->p.length=n->tk.length=5->I acc L->acc.length+n ^ f<=256->(∀x∈(gF cls n f th tk p).1,x∈T)->St V K (tU F Q tk p L)->
   aW Tryz.prog G 63 [.int .i64 (.ofNat th),pl,py,pp,.ptr F 0,pc,pT] V fun v V'=>v= .bool true/\∃L',I (acc++(gF cls n f th tk p).1) L'/\St V' K (tU F Q tk (gF cls n f th tk p).2 L'):=by
 intro f;induction f with
 | zero=>
  intro th tk p acc L V ax ht hp ac hI hb hT aq;refine aY hG Tryz.func63 Z (t:=((((((PT.leaf.put (some (.int .i64 (.ofNat th))) 0).put (some (pl)) 1).put (some (py)) 2).put (some (pp)) 3).put (some (.ptr F 0)) 4).put (some (pc)) 5).put (some (pT)) 6) (by rfl) ?_;refine H ?_;refine ah Z ?_;refine Y Z (ak Z) Z ?_;refine af ?_;refine B ?_;refine H ?_;refine H ?_;refine ah Z ?_;refine Y Z (D Z) Z ?_;refine Y Z (aN aq W Z S Z) Z ?_;refine Y Z (aO hl Z Z Z (e:=63) S Z) Z ?_;refine Y Z (aC Z Z Z) Z ?_;refine af ?_;refine B ?_;refine aD Z (fun M=>?_) (fun M=>?_)
  ·refine H ?_;refine ah Z ?_;refine Y Z (aN aq ap Z S Z) Z ?_;refine Y Z (aN aq X Z S Z) Z ?_;refine MD Z (NB Z Z Z) (fun _=>Z) (hY acc p tk L _ hI hb hp (hT p<|List.mem_singleton.2 Z) aq) ?_;rintro _ V ⟨rfl,L2,hI,aq⟩;refine Y Z (ak Z) Z ?_;refine af ?_;refine B ?_;refine aF ?_;refine ay (?_);exact aA Z Z ⟨Z,L2,hI,aq⟩
  exact absurd (bC M) oM
 | succ f ih=>
  intro th tk p acc L V ax ht hp ac hI hb hT aq;refine aY hG Tryz.func63 Z (t:=((((((PT.leaf.put (some (.int .i64 (.ofNat th))) 0).put (some (pl)) 1).put (some (py)) 2).put (some (pp)) 3).put (some (.ptr F 0)) 4).put (some (pc)) 5).put (some (pT)) 6) (by rfl) ?_;refine H ?_;refine ah Z ?_;refine Y Z (ak Z) Z ?_;refine af ?_;refine B ?_;refine H ?_;refine H ?_;refine ah Z ?_;refine Y Z (D Z) Z ?_;refine Y Z (aN aq W Z S Z) Z ?_;refine Y Z (aO hl Z Z Z (e:=63) S Z) Z ?_;refine Y Z (aC Z Z Z) Z ?_;refine af ?_;refine B ?_;refine aD Z (fun M=>?_) (fun M=>?_)
  ·exact absurd (aS M) oM
  refine aG ?_;refine B ?_;refine H ?_;refine H ?_;refine ah Z ?_;refine Y Z (ak Z) Z ?_;refine af ?_;refine B ?_;refine aI ?_;refine a6 [8,9,10,18,19,20,21,22,23,24,25,26,27,28,29,30,31,32,33,34,35,36,37,38,39,40,41,42,43,44,45,46,47,48,49,50,51,52] (fun j t V=>∃(i:Nat) (R:Own),(I (acc++(eu cls n f th tk p i).1) R/\j+i=n)/\t.get 9=some (.int .i64 (.ofNat (i+1)))/\St V K (tU F Q tk (eu cls n f th tk p i).2 R)) (n) ⟨0,L,⟨by rw[rM,List.append_nil];exact hI,Z⟩,Z,aq⟩ ?_;clear aq;intro j4 t V an hI;obtain⟨i,R,⟨hI1,bb⟩,aa,aq⟩:=hI;replace an:=an.bS Z Z;obtain⟨o8,o9,bd,be,bf,bi,bk,bl,an⟩:=an;replace an:=an.bS Z Z;obtain⟨bm,bo,br,bs,bt,bv,bw,b0,an⟩:=an;replace an:=an.bS Z Z;obtain⟨b3,b4,b5,b6,b7,b8,b9,ca,an⟩:=an;replace an:=an.bS Z Z;obtain⟨cb,cc,ce,cg,ch,ci,cj,ck,an⟩:=an;replace an:=an.mQ Z;obtain⟨cn,cp,cq,cr,an⟩:=an;replace an:=an.eh Z;obtain⟨cs,an⟩:=an;replace an:=an.eh Z;obtain⟨cw,an⟩:=an;obtain rfl:=an.nil;clear an;replace aa:o9=some _:=aa;subst aa;refine H ?_;refine H ?_;refine ah Z ?_;refine Y Z (D Z) Z ?_;refine Y Z (aN aq W Z S Z) Z ?_;refine Y Z (aO hl Z Z Z (e:=63) S Z) Z ?_;refine Y Z (aC Z Z Z) Z ?_;refine af ?_;refine B ?_;refine aD Z (fun A=>?_) (fun A=>?_)
  ·refine aG ?_;refine B ?_;refine H ?_;refine aI ?_;refine H ?_;refine H ?_;refine aU (l:=[(0,[]),(1,[]),(2,[]),(3,[]),(4,[]),(5,[]),(6,[]),(7,[]),(8,[]),(9,[]),(10,[]),(11,[]),(12,[]),(13,[])]) S S ?_;refine aj Z Z (D Z) Z ?_;have ad:i+1<=n:=by have:=bC (bL A);omega
   obtain⟨xk,C⟩:=bZ (show i+1<tk.length by omega);have aE:(eu cls n f th tk p i).2.length=n:=by rw[tR];exact hp
   refine aj Z Z (kr (n:=5) (e:=4) (m:=1) S S Z Z oM) Z ?_;refine aj Z Z (aw Z (aq.get 0 Z) S<|MC C (by first | omega | rfl)) Z ?_;refine jo Z Z (D Z) (fun _=>Z) (fun E=>?_) (fun E=>?_)
   ·refine aB Z Z Z ?_;refine aB Z Z Z ?_;refine aB Z Z Z ?_;refine aB Z Z Z ?_;refine aB Z Z Z ?_;refine aB Z Z Z ?_;refine aB Z Z Z ?_;refine aB Z Z Z ?_;refine aB Z Z Z ?_;refine aj Z Z (aJ Z Z) Z ?_;refine a8 ?_;refine B ?_;refine bj Z ?_;refine ba ?_;refine aP ?_;refine aM ?_;refine B ?_;refine ah Z ?_;refine Y Z (D Z) Z ?_;refine Y Z (aC Z Z Z) Z ?_;refine Y Z (ak Z) Z ?_;refine af ?_;have hE:=fM (cls:=cls) (f:=f) (t:=th) (p:=p) (n:=n) (i:=i) (tk:=tk) (by rw[C,show xk=true from E];rfl);replace aq:St V K (tU F Q tk (eu cls n f th tk p (i+1)).2 R):=by rw[hE];exact aq
    refine aL ⟨j4-1,(by have:=bC (bL A);omega),(by(iterate 59 refine bc.put Z ?_);exact bc.refl _ _),i+1,R,⟨by rw[hE];exact hI1,by omega⟩,congrArg (fun z=>some (J.int .i64 z))<|aX oM,aq⟩
   refine aj Z Z (aN aq ab Z S Z) Z ?_;refine aj Z Z (D Z) Z ?_;obtain⟨cx,d⟩:=bZ (show i+1<cls.length by omega);refine bV (e:=3) (m:=1) hc d Z Z Z S S Z Z (fun _=>Z) (fun c0 a0 ai a1 al=>?_);obtain rfl:=al;refine aj Z Z (aN aq ai Z S Z) Z ?_;refine aj Z Z (aN aq ab Z S Z) Z ?_;refine aj Z Z (D Z) Z ?_;obtain⟨c1,u⟩:=bZ (show th<cls.length by omega);refine bV (e:=3) (m:=1) hc u Z Z Z S S Z Z (fun _=>Z) (fun c2 a2 am a3 ao=>?_);obtain rfl:=ao;refine aj Z Z (aN aq am Z S Z) Z ?_;refine aj Z Z (aC Z Z Z) Z ?_;refine aj Z Z (aJ Z Z) Z ?_;refine a8 ?_;refine B ?_;refine aD Z (fun U=>?_) (fun U=>?_)
   ·refine ba ?_;refine aP ?_;refine aM ?_;refine B ?_;refine ah Z ?_;refine Y Z (D Z) Z ?_;refine Y Z (aC Z Z Z) Z ?_;refine Y Z (ak Z) Z ?_;refine af ?_;have hE:=fM (cls:=cls) (f:=f) (t:=th) (p:=p) (n:=n) (i:=i) (tk:=tk) (by rw[C,show xk=false from E,d,u];exact U);replace aq:St V K (tU F Q tk (eu cls n f th tk p (i+1)).2 R):=by rw[hE];exact aq
    refine aL ⟨j4-1,(by have:=bC (bL A);omega),(by(iterate 59 refine bc.put Z ?_);exact bc.refl _ _),i+1,R,⟨by rw[hE];exact hI1,by omega⟩,congrArg (fun z=>some (J.int .i64 z))<|aX oM,aq⟩
   refine aG ?_;refine B ?_;refine H ?_;refine aU (l:=[(0,[]),(1,[]),(2,[]),(3,[]),(4,[]),(5,[]),(6,[1]),(7,[]),(8,[])]) S S ?_;refine aj Z Z (D Z) Z ?_;refine aj Z Z (aN aq X Z S Z) Z ?_;refine aj Z Z (D Z) Z ?_;refine aj Z Z (aC (v:=.int .i64 (.ofNat (th-1))) Z Z<|congrArg (fun z=>some (J.int .i64 z))<|Lt ht oM) Z ?_;refine aj Z Z (D Z) Z ?_;refine aj Z Z (kr (n:=5) (e:=4) (m:=1) S S Z Z oM) Z ?_;refine jP aq .here Z Z (bg Z Z Z (aq.get 0 Z) (m:=1) S Z (by rw[lM_];omega) (ar Z aQ) (cells':=((tk).set (i+1) true).map (gB))<|fZ (f:=gB) (v:=true) oM (by first | omega | rfl)) Z (fun V aq=>?_);refine⟨(aZ (bh Z Z Z Z Z (aN aq X Z S Z)<|pL _ _ _ _) aV),?_⟩;refine aj Z Z (iY (e:=3) (m:=1) S S Z Z oM) Z ?_;refine jP aq (.there .here) Z Z (bg Z Z Z (aq.get 1 Z) (m:=1) S Z (by rw[lM_];omega) (ar Z aQ) (cells':=(((eu cls n f th tk p i).2).set (th-1) (.ofNat (i+1))).map (gZ)) (fZ (f:=gZ) (v:=(.ofNat (i+1))) oM (by first | omega | rfl))) Z (fun V aq=>?_);refine⟨aV,?_⟩;refine a8 ?_;refine B ?_;refine H ?_;refine ah Z ?_;refine Y Z (aN aq av Z S Z) Z ?_;refine Y Z (D Z) Z ?_;refine Y Z (aC (v:=.int .i64 (.ofNat (th+1))) Z Z<|congrArg (fun z=>some (J.int .i64 z))<|aX oM) Z ?_;refine cR Z (aT Z Z Z S) (fun _=>Z) (ih (th+1) (tk.set (i+1) true) ((eu cls n f th tk p i).2.set (th-1) (.ofNat (i+1))) (acc++(eu cls n f th tk p i).1) R _ oM oM (by rw[List.length_set];exact aE) (by rw[List.length_set];exact ac) hI1 (by rw[lA_];exact Ic ad hb) (fun x hx=>hT x (xA (j:=n) (i:=i+1) (by rw[ir (f:=f) (p:=p) (n:=n) (show(bif (tk[i+1]?).getD false then true else cC (bM ((cls[i+1]?).getD 0) ((cls[th]?).getD 0)))=false by rw[C,show xk=false from E,d,u];exact U)];exact List.mem_append_right _ hx) ad)) aq) ?_;rintro _ V ⟨rfl,L2,hI2,aq⟩;refine Y Z (ak Z) Z ?_;refine af ?_;refine B ?_;refine H ?_;refine ah Z ?_;refine Y Z (D Z) Z ?_;refine Y Z (kr (n:=5) (e:=4) (m:=1) S S Z Z oM) Z ?_;refine gj aq .here Z (bg Z Z Z (aq.get 0 Z) (m:=1) S Z (by rw[lM_];rw[List.length_set];omega) (ar Z aQ) (cells':=((tk.set (i+1) true).set (i+1) false).map (gB))<|fZ (f:=gB) (v:=false) (by rw[List.length_set];omega) (by first | omega | rfl)) Z (fun V aq=>?_);rw[KJ (by rw[C,show xk=false from E])] at aq;refine af ?_;refine B ?_;refine H ?_;refine ah Z ?_;refine Y Z (D Z) Z ?_;refine Y Z (dV Z) Z ?_;refine af ?_;refine B ?_;refine bz Z ?_;refine aG ?_;refine aH ?_;refine B ?_;refine ah Z ?_;refine Y Z (D Z) Z ?_;refine Y Z (aC Z Z Z) Z ?_
   refine Y Z (ak Z) Z ?_;refine af ?_;have hE:=ir (f:=f) (p:=p) (n:=n) (show(bif (tk[i+1]?).getD false then true else cC (bM ((cls[i+1]?).getD 0) ((cls[th]?).getD 0)))=false by rw[C,show xk=false from E,d,u];exact U);replace aq:St V K (tU F Q tk (eu cls n f th tk p (i+1)).2 L2):=by rw[hE];exact aq
   refine aL ⟨j4-1,(by have:=bC (bL A);omega),(by(iterate 75 refine bc.put Z ?_);exact bc.refl _ _),i+1,L2,⟨by rw[hE,<-lQ_];exact hI2,by omega⟩,congrArg (fun z=>some (J.int .i64 z))<|aX oM,aq⟩
  refine ba ?_;refine aP ?_;refine aR ?_;refine aM ?_;refine B ?_;refine H ?_;refine ah Z ?_;refine Y Z (ak Z) Z ?_;refine af ?_;refine B ?_;refine aF ?_;have hi:eu cls n f th tk p n=eu cls n f th tk p i:=by rw[show i=n by have:=aS (a7 A);omega]
  exact aA Z Z ⟨Z,R,by rw[vt,hi];exact hI1,by rw[vt,hi];exact aq⟩
theorem HY {α:Type} (a b c d e:α) (L:List α):(a::b::c::d::e::L).Perm (a::c::e::b::d::L):=.cons a ((List.Perm.swap c b _).trans (.cons c<|Qu b d e L))
theorem dz.one {K:KP} {b e:Nat} {v:J} {ro:Bool} (hk:K b (.row [v] e ro)):dz K (.ptr b 0) [v]:=⟨b,0,[v],e,ro,Z,hk,nR_ _,Z⟩
theorem Lq {G:Cx} (Q:Plain G) {K:KP} {m:Nat} {l:List XC} {lv cv:J} {cls:List Int} (hl:bG K 2 (gf K m) l lv) (d:l.length<=4) (hc:bG K 1 cH cls cv) (C:cls.length=l.length+1)
  {pl pc:J} {b:Nat} (A:dz K pl [lv]) (E:dz K pc [cv])
  {I:List (List Int)->Own->Prop} (hY:∀(K':KP) (M:Own) (acc:List (List Int)) (p:List Int) (u:Nat) (L:Own) (V:N),KP.le K K'->I acc L->acc.length+1<=256->p.length=l.length->p∈gV l cls->St V K' (M++(u,.row (p.map gZ) 3 false)::L)->lT Tryz.prog G b [.slice u 0 l.length (.known l.length)] V fun v V'=>v= .bool true/\∃L',I (acc++[p]) L'/\St V' K' (M++(u,.row (p.map gZ) 3 false)::L'))
  {L:Own} (F:I [] L) {V:N} (aq:St V K L):
  aW Tryz.prog G 62 [.yield b,pl,pc] V fun _ V'=>∃L',I (gV l cls) L'/\St V' K L':=by
 refine aY Q Tryz.func62 Z (t:=((PT.leaf.put (some (.yield b)) 0).put (some (pl)) 1).put (some (pc)) 2) (by rfl) ?_;refine H ?_;refine ah Z ?_;refine bJ aq Z (cG Z Z) (fun _=>Z) (fun V u aq=>?_);refine af ?_;refine B ?_;refine H ?_;refine ah Z ?_;refine Y Z (aN aq A Z S Z) Z ?_;refine Y Z (aO hl Z Z Z (e:=63) S Z) Z ?_;refine gw aq Z (vw (e:=3) (w:=8) (z:=[gZ 0]) S S S S Z Z oM oM) (fun _=>Z) (fun V R aq=>?_);rw[xE (f:=gZ)] at aq;refine bJ aq Z (dG (cs:=[.au]) S S) (fun _=>Z) (fun V U aq=>?_);refine cF aq Z (bg Z Z Z (aq.get 0 Z) (m:=1) S Z (Nat.le_of_ble_eq_true Z) (ar Z aQ) (cells':=[_]) Z) Z (fun V aq=>?_);refine af ?_;refine B ?_;refine H ?_;refine ah Z ?_;refine bJ aq Z (dG (cs:=[.bool false,.bool false,.bool false,.bool false,.bool false]) S S) (fun _=>Z) (fun V W aq=>?_);refine af ?_;refine B ?_;refine H ?_;refine ah Z ?_;refine bJ aq Z (dG (cs:=[.nilFunc]) S S) (fun _=>Z) (fun V X aq=>?_);refine af ?_;refine B ?_;refine H ?_;refine ah Z ?_;refine Y Z (bD Z Z) Z ?_;refine cF aq Z (bg Z Z Z (aq.get 0 Z) (m:=1) S Z (Nat.le_of_ble_eq_true Z) (ar Z aQ) (cells':=[_]) Z) Z (fun V aq=>?_);refine af ?_;refine B ?_;refine ah Z ?_;refine Y Z (aw Z (aq.get 0 Z) S Z) Z ?_;replace aq:=(aq.perm<|HY ..).rD.rD.rD;have hK:=KP.le_trans (KP.wC K X (.row [.func 63 [] [pl,.ptr u 0,.ptr U 0,.ptr W 0,pc,.ptr X 0]] 102 false)) (KP.le_trans (KP.wC _ U (.row [.slice R 0 l.length (.known l.length)] 28 false))<|KP.wC _ u (.row [.yield b] 73 false));refine cR Z (aT Z Z Z S) (fun _=>Z) (Pz Q (hl.mono hK fun _ _ h=>h.mono hK) Z d (hc.mono hK fun _ _ h=>h) C (A.mono hK) (.one (.inr ⟨Z,Z⟩)) (.one (.inl (.inr ⟨Z,Z⟩))) (E.mono hK) (.one (.inl (.inl (.inr ⟨Z,Z⟩)))) (I:=I) (T:=gV l cls) (fun acc p tk L V F hb hp hm aq=>hY _ [(W,.row (tk.map gB) 101 false)] acc p R L V hK F hb hp hm aq) l.length 1 (List.replicate 5 false) (List.replicate l.length 0) [] L _ oM (nR_ _) (by simp) Z F (by rw[show([]:List (List Int)).length=0 from Z,nA_];exact Nat.le_trans (Nat.pow_le_pow_left d _)<|Nat.pow_le_pow_right oM d) (fun x hx=>hx) aq) ?_;rintro _ V ⟨rfl,L2,hI2,aq⟩;refine af ?_;exact kf Z ⟨L2,hI2,(aq.pop.pop).weaken hK⟩
theorem sK {G:Cx} (hG:Plain G) {K:KP} {k1 k2:Nat} {l1 l2:List XE} {v1 v2:J} {V:N} {L:Own} (aq:St V K L) (h1:bG K 4 (gY K k1) l1 v1) (h2:bG K 4 (gY K k2) l2 v2)
  (Q:∀x y vx vy V L,St V K L->gY K k1 x vx->gY K k2 y vy->aW Tryz.prog G 112 [.agg vx,.agg vy] V fun v V'=>v= .bool (bW x y)/\St V' K L):
  aW Tryz.prog G 111 [v1,v2,.func 112 [] []] V fun v V'=>v= .bool (bW l1 l2)/\St V' K L:=by
 refine aY hG Tryz.func111 Z (t:=((PT.leaf.put (some (v1)) 0).put (some (v2)) 1).put (some (.func 112 [] [])) 2) (by rfl) ?_;refine H ?_;refine ah Z ?_;refine Y Z (ak Z) Z ?_;refine af ?_;refine B ?_;refine H ?_;refine H ?_;refine ah Z ?_;refine Y Z (D Z) Z ?_;refine Y Z (aO h1 Z Z Z (e:=100) S Z) Z ?_;refine Y Z (D Z) Z ?_;refine Y Z (aO h2 Z Z Z (e:=100) S Z) Z ?_;refine Y Z (aC Z Z Z) Z ?_;refine af ?_;refine B ?_;refine aD Z (fun d=>?_) (fun d=>?_)
 ·refine H ?_;refine ah Z ?_;refine Y Z (ak Z) Z ?_;refine af ?_;refine B ?_;refine aF ?_;refine ay (?_);exact aA Z Z ⟨by first | rw[dE<|bL d] | rw[dw u A (by simpa using C)] | rw[dh (cN<|a7 d) (bC E) b],aq⟩
 refine aG ?_;refine B ?_;refine H ?_;refine H ?_;refine ah Z ?_;refine Y Z (D Z) Z ?_;refine Y Z (aO h1 Z Z Z (e:=100) S Z) Z ?_;refine Y Z (D Z) Z ?_;refine af ?_;refine B ?_;refine aI ?_;obtain⟨LL1,aq,hLL1⟩:=aq.named;refine a6 [6,7,8,9,17,18,19,20,21,22,23,24,25,26,27,28,29,30,31] (fun j t V=>∃(i:Nat),j+i=l1.length/\(∀k,k<i->l1[k]? =l2[k]?)/\t.get 17=some (.int .i64 (.ofNat i))/\St V K LL1) (l1.length) ⟨0,Z,fun k hk=>absurd hk (nZ_ _),Z,aq⟩ ?_;clear aq;intro j4 t V an hI;obtain⟨i,hj,b,F,aq⟩:=hI;subst hLL1;replace an:=an.bS Z Z;obtain⟨o6,o7,o8,o9,aa,ao,ap,ab,an⟩:=an;replace an:=an.bS Z Z;obtain⟨av,ax,aE,ac,a0,a1,a2,a3,an⟩:=an;replace an:=an.eh Z;obtain⟨a4,an⟩:=an;replace an:=an.eh Z;obtain⟨a5,an⟩:=an;replace an:=an.eh Z;obtain⟨a9,an⟩:=an;obtain rfl:=an.nil;clear an;replace F:aa=some _:=F;subst F;refine H ?_;refine ah Z ?_;refine Y Z (aC Z Z Z) Z ?_;refine af ?_;refine B ?_;refine H ?_;refine aD Z (fun E=>?_) (fun E=>?_)
 ·refine aG ?_;refine B ?_;refine H ?_;refine aI ?_;refine H ?_;refine ah Z ?_;refine Y Z (D Z) Z ?_;obtain⟨bb,u,R⟩:=cL E;refine cm (e:=100) (m:=4) h1 u Z Z S S Z Z (fun _=>Z) (fun bd ad T ai I=>?_);obtain⟨ab,be,bf,bi,rfl,U⟩:=I.shape;refine Y Z (bE aq T Z S Z) Z ?_;refine bJ aq Z (dG (cs:=[.int .i64 0,.int .i64 0,.str [],.au]) S S) (fun _=>Z) (fun V b1 aq=>?_);refine Y Z (ak Z) Z ?_;refine cF aq Z (bg Z Z Z (aq.get 0 Z) (m:=4) S Z (Nat.le_of_ble_eq_true Z) (ar Z<|ar Z<|ar Z<|ar U.leaf.2 aQ) (cells':=[_,_,_,_]) Z) Z (fun V aq=>?_);refine af ?_;refine B ?_;refine H ?_;refine ah Z ?_;refine Y Z (D Z) Z ?_;refine Y Z (D Z) Z ?_;obtain⟨bk,A⟩:=bZ (show _<l2.length from by rw[<-cN (a7 d)];exact R);refine cm (e:=100) (m:=4) h2 A Z Z S S Z Z (fun _=>Z) (fun bl al W am M=>?_);obtain⟨ac,bm,bo,br,rfl,X⟩:=M.shape;refine Y Z (bE aq W Z S Z) Z ?_;refine bJ aq Z (dG (cs:=[.int .i64 0,.int .i64 0,.str [],.au]) S S) (fun _=>Z) (fun V b2 aq=>?_);refine cF aq Z (bg Z Z Z (aq.get 0 Z) (m:=4) S Z (Nat.le_of_ble_eq_true Z) (ar Z<|ar Z<|ar Z<|ar X.leaf.2 aQ) (cells':=[_,_,_,_]) Z) Z (fun V aq=>?_);refine af ?_;refine B ?_;refine H ?_;refine ah Z ?_;refine Y Z (D Z) Z ?_;refine Y Z (bp Z (aq.get 1 Z) (n:=4) (vs:=[_,_,_,_]) S (Nat.le_of_ble_eq_true Z) Z) Z ?_;refine Y Z (bp Z (aq.get 0 Z) (n:=4) (vs:=[_,_,_,_]) S (Nat.le_of_ble_eq_true Z) Z) Z ?_;refine bB Z (aT Z Z Z S) (fun _=>Z) (Q _ _ _ _ _ _ aq I M) (fun V aq=>?_);refine Y Z (dV Z) Z ?_;refine af ?_;refine B ?_;refine aD Z (fun C=>?_) (fun C=>?_)
  ·refine H ?_;refine ah Z ?_;refine Y Z (ak Z) Z ?_;refine af ?_;refine B ?_;refine aF ?_;refine aK<|ay<|bq<|aK<|ay (?_);exact aA Z Z ⟨by first | rw[dE<|bL d] | rw[dw u A (by simpa using C)] | rw[dh (cN<|a7 d) (bC E) b],aq.pop.pop⟩
  refine aG ?_;refine aH ?_;refine B ?_;refine ah Z ?_;refine Y Z (aC Z Z Z) Z ?_;refine Y Z (D Z) Z ?_;refine af ?_;have aq:=aq.pop;have aq:=aq.pop;refine aL ⟨j4-1,by omega,(by(iterate 37 refine bc.put Z ?_);exact bc.refl _ _),i+1,by omega,fo b u A (by simpa using C),congrArg (fun z=>some (J.int .i64 z))<|aX (by have:=h1.bK;omega),aq⟩
 refine ba ?_;refine aP ?_;refine aR ?_;refine aM ?_;refine B ?_;refine H ?_;refine ah Z ?_;refine Y Z (ak Z) Z ?_;refine af ?_;refine B ?_;refine aF ?_;exact aA Z Z ⟨by first | rw[dE<|bL d] | rw[dw u A (by simpa using C)] | rw[dh (cN<|a7 d) (bC E) b],aq⟩
theorem AX {G:Cx} (hG:Plain G) {K:KP} {k1 k2:Nat} {l1 l2:List XI} {v1 v2:J} {V:N} {L:Own} (aq:St V K L) (h1:bG K 6 (rO K k1) l1 v1) (h2:bG K 6 (rO K k2) l2 v2)
  (Q:∀x y vx vy V L,St V K L->rO K k1 x vx->rO K k2 y vy->aW Tryz.prog G 75 [.agg vx,.agg vy] V fun v V'=>v= .bool (bW x y)/\St V' K L):
  aW Tryz.prog G 74 [v1,v2,.func 75 [] []] V fun v V'=>v= .bool (bW l1 l2)/\St V' K L:=by
 refine aY hG Tryz.func74 Z (t:=((PT.leaf.put (some (v1)) 0).put (some (v2)) 1).put (some (.func 75 [] [])) 2) (by rfl) ?_;refine H ?_;refine ah Z ?_;refine Y Z (ak Z) Z ?_;refine af ?_;refine B ?_;refine H ?_;refine H ?_;refine ah Z ?_;refine Y Z (D Z) Z ?_;refine Y Z (aO h1 Z Z Z (e:=97) S Z) Z ?_;refine Y Z (D Z) Z ?_;refine Y Z (aO h2 Z Z Z (e:=97) S Z) Z ?_;refine Y Z (aC Z Z Z) Z ?_;refine af ?_;refine B ?_;refine aD Z (fun d=>?_) (fun d=>?_)
 ·refine H ?_;refine ah Z ?_;refine Y Z (ak Z) Z ?_;refine af ?_;refine B ?_;refine aF ?_;refine ay (?_);exact aA Z Z ⟨by first | rw[dE<|bL d] | rw[dw u A (by simpa using C)] | rw[dh (cN<|a7 d) (bC E) b],aq⟩
 refine aG ?_;refine B ?_;refine H ?_;refine H ?_;refine ah Z ?_;refine Y Z (D Z) Z ?_;refine Y Z (aO h1 Z Z Z (e:=97) S Z) Z ?_;refine Y Z (D Z) Z ?_;refine af ?_;refine B ?_;refine aI ?_;obtain⟨LL1,aq,hLL1⟩:=aq.named;refine a6 [6,7,8,9,17,18,19,20,21,22,23,24,25,26,27,28,29,30,31] (fun j t V=>∃(i:Nat),j+i=l1.length/\(∀k,k<i->l1[k]? =l2[k]?)/\t.get 17=some (.int .i64 (.ofNat i))/\St V K LL1) (l1.length) ⟨0,Z,fun k hk=>absurd hk (nZ_ _),Z,aq⟩ ?_;clear aq;intro j4 t V an hI;obtain⟨i,hj,b,F,aq⟩:=hI;subst hLL1;replace an:=an.bS Z Z;obtain⟨o6,o7,o8,o9,aa,al,am,ao,an⟩:=an;replace an:=an.bS Z Z;obtain⟨ap,av,ax,aE,a0,a1,a2,a3,an⟩:=an;replace an:=an.eh Z;obtain⟨a4,an⟩:=an;replace an:=an.eh Z;obtain⟨a5,an⟩:=an;replace an:=an.eh Z;obtain⟨a9,an⟩:=an;obtain rfl:=an.nil;clear an;replace F:aa=some _:=F;subst F;refine H ?_;refine ah Z ?_;refine Y Z (aC Z Z Z) Z ?_;refine af ?_;refine B ?_;refine H ?_;refine aD Z (fun E=>?_) (fun E=>?_)
 ·refine aG ?_;refine B ?_;refine H ?_;refine aI ?_;refine H ?_;refine ah Z ?_;refine Y Z (D Z) Z ?_;obtain⟨bb,u,R⟩:=cL E;refine cm (e:=97) (m:=6) h1 u Z Z S S Z Z (fun _=>Z) (fun bd ab T ac I=>?_);have hr20':=I;obtain⟨be,rfl,U⟩:=hr20';refine Y Z (bE aq T Z S Z) Z ?_;refine bJ aq Z (dG (cs:=[.int .i64 0,.int .i64 0,.int .i64 0,.int .i64 0,.int .i64 0,.au]) S S) (fun _=>Z) (fun V b1 aq=>?_);refine Y Z (ak Z) Z ?_;refine cF aq Z (bg Z Z Z (aq.get 0 Z) (m:=6) S Z (Nat.le_of_ble_eq_true Z) (ar Z<|ar Z<|ar Z<|ar Z<|ar Z<|ar U.leaf.2 aQ) (cells':=[_,_,_,_,_,_]) Z) Z (fun V aq=>?_);refine af ?_;refine B ?_;refine H ?_;refine ah Z ?_;refine Y Z (D Z) Z ?_;refine Y Z (D Z) Z ?_;obtain⟨bf,A⟩:=bZ (show _<l2.length from by rw[<-cN (a7 d)];exact R);refine cm (e:=97) (m:=6) h2 A Z Z S S Z Z (fun _=>Z) (fun bi ad W ai M=>?_);have hr24':=M;obtain⟨bk,rfl,X⟩:=hr24';refine Y Z (bE aq W Z S Z) Z ?_;refine bJ aq Z (dG (cs:=[.int .i64 0,.int .i64 0,.int .i64 0,.int .i64 0,.int .i64 0,.au]) S S) (fun _=>Z) (fun V b2 aq=>?_);refine cF aq Z (bg Z Z Z (aq.get 0 Z) (m:=6) S Z (Nat.le_of_ble_eq_true Z) (ar Z<|ar Z<|ar Z<|ar Z<|ar Z<|ar X.leaf.2 aQ) (cells':=[_,_,_,_,_,_]) Z) Z (fun V aq=>?_);refine af ?_;refine B ?_;refine H ?_;refine ah Z ?_;refine Y Z (D Z) Z ?_;refine Y Z (bp Z (aq.get 1 Z) (n:=6) (vs:=[_,_,_,_,_,_]) S (Nat.le_of_ble_eq_true Z) Z) Z ?_;refine Y Z (bp Z (aq.get 0 Z) (n:=6) (vs:=[_,_,_,_,_,_]) S (Nat.le_of_ble_eq_true Z) Z) Z ?_;refine bB Z (aT Z Z Z S) (fun _=>Z) (Q _ _ _ _ _ _ aq I M) (fun V aq=>?_);refine Y Z (dV Z) Z ?_;refine af ?_;refine B ?_;refine aD Z (fun C=>?_) (fun C=>?_)
  ·refine H ?_;refine ah Z ?_;refine Y Z (ak Z) Z ?_;refine af ?_;refine B ?_;refine aF ?_;refine aK<|ay<|bq<|aK<|ay (?_);exact aA Z Z ⟨by first | rw[dE<|bL d] | rw[dw u A (by simpa using C)] | rw[dh (cN<|a7 d) (bC E) b],aq.pop.pop⟩
  refine aG ?_;refine aH ?_;refine B ?_;refine ah Z ?_;refine Y Z (aC Z Z Z) Z ?_;refine Y Z (D Z) Z ?_;refine af ?_;have aq:=aq.pop;have aq:=aq.pop;refine aL ⟨j4-1,by omega,(by(iterate 37 refine bc.put Z ?_);exact bc.refl _ _),i+1,by omega,fo b u A (by simpa using C),congrArg (fun z=>some (J.int .i64 z))<|aX (by have:=h1.bK;omega),aq⟩
 refine ba ?_;refine aP ?_;refine aR ?_;refine aM ?_;refine B ?_;refine H ?_;refine ah Z ?_;refine Y Z (ak Z) Z ?_;refine af ?_;refine B ?_;refine aF ?_;exact aA Z Z ⟨by first | rw[dE<|bL d] | rw[dw u A (by simpa using C)] | rw[dh (cN<|a7 d) (bC E) b],aq⟩
theorem Fq {G:Cx} (F:Plain G) {K:KP}:∀(A u:Nat) (x y:XE) (vx vy:List J),gY K A x vx->gY K u y vy->∀(V:N) (L:Own),St V K L->aW Tryz.prog G 112 [.agg vx,.agg vy] V fun v V'=>v= .bool (bW x y)/\St V' K L:=by
 intro A;induction A with
 | zero=>intro u x y vx vy h;cases x;exact h.elim
 | succ A ih=>
 intro u x y vx vy h h' V L aq;cases u with
 | zero=>cases y;exact h'.elim
 | succ u=>
 obtain⟨o1,n1,s1,aa⟩:=x;obtain⟨o2,n2,s2,ab⟩:=y;obtain⟨v1,rfl,C⟩:=h;obtain⟨v2,rfl,E⟩:=h';refine aY F Tryz.func112 Z (t:=(PT.leaf.put (some (.agg _)) 0).put (some (.agg _)) 1) (by rfl) ?_;refine H ?_;refine ah Z ?_;refine bJ aq Z (cG Z Z) (fun _=>Z) (fun V b1 aq=>?_);refine bJ aq Z (cG Z Z) (fun _=>Z) (fun V b2 aq=>?_);refine Y Z (ak Z) Z ?_;refine af ?_;refine B ?_;refine H ?_;refine ah Z ?_;refine Y Z (az Z (k:=0) S) Z ?_;refine Y Z (aw Z (aq.get 1 Z) S Z) Z ?_;refine Y Z (az Z (k:=0) S) Z ?_;refine Y Z (aw Z (aq.get 0 Z) S Z) Z ?_;refine Y Z (aC Z Z Z) Z ?_;refine bx Z (D Z) (fun _=>Z) (fun b=>?_) (fun b=>?_)
 ·refine Y Z (az Z (k:=1) S) Z ?_;refine Y Z (aw Z (aq.get 1 Z) S Z) Z ?_;refine Y Z (az Z (k:=1) S) Z ?_;refine Y Z (aw Z (aq.get 0 Z) S Z) Z ?_;refine Y Z (aC Z Z Z) Z ?_;refine Y Z (aJ Z Z) Z ?_;refine bx Z (D Z) (fun _=>Z) (fun d=>?_) (fun d=>?_)
  ·refine Y Z (az Z (k:=2) S) Z ?_;refine Y Z (aw Z (aq.get 1 Z) S Z) Z ?_;refine Y Z (az Z (k:=2) S) Z ?_;refine Y Z (aw Z (aq.get 0 Z) S Z) Z ?_;refine Y Z (aC Z Z Z) Z ?_;refine Y Z (aJ Z Z) Z ?_;refine bx Z (D Z) (fun _=>Z) (fun m=>?_) (fun m=>?_)
   ·refine Y Z (az Z (k:=3) S) Z ?_;refine Y Z (aw Z (aq.get 1 Z) S Z) Z ?_;refine Y Z (az Z (k:=3) S) Z ?_;refine Y Z (aw Z (aq.get 0 Z) S Z) Z ?_;refine bB Z (aT Z Z Z S) (fun _=>Z) (sK F aq C E (fun x y vx vy V L aq hx hy=>ih _ x y vx vy hx hy V L aq)) (fun V aq=>?_);refine Y Z (aJ Z Z) Z ?_;refine Y Z (ak Z) Z ?_;refine af ?_;refine B ?_;refine aF ?_;exact aA Z Z ⟨by rw[jW];simp only[b,d,m,Bool.true_and,Bool.false_and],aq.pop.pop⟩
   refine ae Z Z ?_;refine ae Z Z ?_;refine ae Z Z ?_;refine ae Z Z ?_;refine ae Z Z ?_;refine Y Z (aJ Z Z) Z ?_;refine Y Z (ak Z) Z ?_;refine af ?_;refine B ?_;refine aF ?_;exact aA Z Z ⟨by rw[jW];simp only[b,d,m,Bool.true_and,Bool.false_and],aq.pop.pop⟩
  refine ae Z Z ?_;refine ae Z Z ?_;refine ae Z Z ?_;refine ae Z Z ?_;refine ae Z Z ?_;refine Y Z (aJ Z Z) Z ?_;refine Y Z (D Z) Z ?_;refine ae Z Z ?_;refine ae Z Z ?_;refine ae Z Z ?_;refine ae Z Z ?_;refine ae Z Z ?_;refine Y Z (aJ Z Z) Z ?_;refine Y Z (ak Z) Z ?_;refine af ?_;refine B ?_;refine aF ?_;exact aA Z Z ⟨by rw[jW];simp only[b,d,Bool.true_and,Bool.false_and],aq.pop.pop⟩
 refine ae Z Z ?_;refine ae Z Z ?_;refine ae Z Z ?_;refine ae Z Z ?_;refine ae Z Z ?_;refine Y Z (aJ Z Z) Z ?_;refine Y Z (D Z) Z ?_;refine ae Z Z ?_;refine ae Z Z ?_;refine ae Z Z ?_;refine ae Z Z ?_;refine ae Z Z ?_;refine Y Z (aJ Z Z) Z ?_;refine Y Z (D Z) Z ?_;refine ae Z Z ?_;refine ae Z Z ?_;refine ae Z Z ?_;refine ae Z Z ?_;refine ae Z Z ?_;refine Y Z (aJ Z Z) Z ?_;refine Y Z (ak Z) Z ?_;refine af ?_;refine B ?_;refine aF ?_;exact aA Z Z ⟨by rw[jW];simp only[b,Bool.true_and,Bool.false_and],aq.pop.pop⟩
theorem Ir {G:Cx} (C:Plain G) {K:KP} {I M:Nat} {x y:XI} {vx vy:List J} {V:N} {L:Own} (aq:St V K L) (h:rO K I x vx) (h':rO K M y vy):aW Tryz.prog G 75 [.agg vx,.agg vy] V fun v V'=>v= .bool (bW x y)/\St V' K L:=by
 have h1:=h;have h1':=h';obtain⟨v1,rfl,E⟩:=h1;obtain⟨v2,rfl,F⟩:=h1';refine aY C Tryz.func75 Z (t:=(PT.leaf.put (some (.agg _)) 0).put (some (.agg _)) 1) (by rfl) ?_;refine H ?_;refine ah Z ?_;refine bJ aq Z (cG Z Z) (fun _=>Z) (fun V b1 aq=>?_);refine bJ aq Z (cG Z Z) (fun _=>Z) (fun V b2 aq=>?_);refine Y Z (ak Z) Z ?_;refine af ?_;refine B ?_;refine H ?_;refine ah Z ?_;refine Y Z (az Z (k:=0) S) Z ?_;refine Y Z (aw Z (aq.get 1 Z) S Z) Z ?_;refine Y Z (az Z (k:=0) S) Z ?_;refine Y Z (aw Z (aq.get 0 Z) S Z) Z ?_;refine Y Z (aC Z Z Z) Z ?_;refine bx Z (D Z) (fun _=>Z) (fun b=>?_) (fun b=>?_)
 ·refine Y Z (az Z (k:=1) S) Z ?_;refine Y Z (aw Z (aq.get 1 Z) S Z) Z ?_;refine Y Z (az Z (k:=1) S) Z ?_;refine Y Z (aw Z (aq.get 0 Z) S Z) Z ?_;refine Y Z (aC Z Z Z) Z ?_;refine Y Z (aJ Z Z) Z ?_;refine bx Z (D Z) (fun _=>Z) (fun d=>?_) (fun d=>?_)
  ·refine Y Z (az Z (k:=2) S) Z ?_;refine Y Z (aw Z (aq.get 1 Z) S Z) Z ?_;refine Y Z (az Z (k:=2) S) Z ?_;refine Y Z (aw Z (aq.get 0 Z) S Z) Z ?_;refine Y Z (aC Z Z Z) Z ?_;refine Y Z (aJ Z Z) Z ?_;refine bx Z (D Z) (fun _=>Z) (fun m=>?_) (fun m=>?_)
   ·refine Y Z (az Z (k:=3) S) Z ?_;refine Y Z (aw Z (aq.get 1 Z) S Z) Z ?_;refine Y Z (az Z (k:=3) S) Z ?_;refine Y Z (aw Z (aq.get 0 Z) S Z) Z ?_;refine Y Z (aC Z Z Z) Z ?_;refine Y Z (aJ Z Z) Z ?_;refine bx Z (D Z) (fun _=>Z) (fun u=>?_) (fun u=>?_)
    ·refine Y Z (az Z (k:=4) S) Z ?_;refine Y Z (aw Z (aq.get 1 Z) S Z) Z ?_;refine Y Z (az Z (k:=4) S) Z ?_;refine Y Z (aw Z (aq.get 0 Z) S Z) Z ?_;refine Y Z (aC Z Z Z) Z ?_;refine Y Z (aJ Z Z) Z ?_;refine bx Z (D Z) (fun _=>Z) (fun A=>?_) (fun A=>?_)
     ·refine Y Z (az Z (k:=5) S) Z ?_;refine Y Z (aw Z (aq.get 1 Z) S Z) Z ?_;refine Y Z (az Z (k:=5) S) Z ?_;refine Y Z (aw Z (aq.get 0 Z) S Z) Z ?_;refine bB Z (aT Z Z Z S) (fun _=>Z) (sK C aq E F (fun x y vx vy V L aq hx hy=>Fq C _ _ x y vx vy hx hy V L aq)) (fun V aq=>?_);refine Y Z (aJ Z Z) Z ?_;refine Y Z (ak Z) Z ?_;refine af ?_;refine B ?_;refine aF ?_;exact aA Z Z ⟨by rw[gp];simp only[b,d,m,u,A,Bool.true_and,Bool.false_and],aq.pop.pop⟩
     refine ae Z Z ?_;refine ae Z Z ?_;refine ae Z Z ?_;refine ae Z Z ?_;refine ae Z Z ?_;refine Y Z (aJ Z Z) Z ?_;refine Y Z (ak Z) Z ?_;refine af ?_;refine B ?_;refine aF ?_;exact aA Z Z ⟨by rw[gp];simp only[b,d,m,u,A,Bool.true_and,Bool.false_and],aq.pop.pop⟩
    refine ae Z Z ?_;refine ae Z Z ?_;refine ae Z Z ?_;refine ae Z Z ?_;refine ae Z Z ?_;refine Y Z (aJ Z Z) Z ?_;refine Y Z (D Z) Z ?_;refine ae Z Z ?_;refine ae Z Z ?_;refine ae Z Z ?_;refine ae Z Z ?_;refine ae Z Z ?_;refine Y Z (aJ Z Z) Z ?_;refine Y Z (ak Z) Z ?_;refine af ?_;refine B ?_;refine aF ?_;exact aA Z Z ⟨by rw[gp];simp only[b,d,m,u,Bool.true_and,Bool.false_and],aq.pop.pop⟩
   refine ae Z Z ?_;refine ae Z Z ?_;refine ae Z Z ?_;refine ae Z Z ?_;refine ae Z Z ?_;refine Y Z (aJ Z Z) Z ?_;refine Y Z (D Z) Z ?_;refine ae Z Z ?_;refine ae Z Z ?_;refine ae Z Z ?_;refine ae Z Z ?_;refine ae Z Z ?_;refine Y Z (aJ Z Z) Z ?_;refine Y Z (D Z) Z ?_;refine ae Z Z ?_;refine ae Z Z ?_;refine ae Z Z ?_;refine ae Z Z ?_;refine ae Z Z ?_;refine Y Z (aJ Z Z) Z ?_;refine Y Z (ak Z) Z ?_;refine af ?_;refine B ?_;refine aF ?_;exact aA Z Z ⟨by rw[gp];simp only[b,d,m,Bool.true_and,Bool.false_and],aq.pop.pop⟩
  refine ae Z Z ?_;refine ae Z Z ?_;refine ae Z Z ?_;refine ae Z Z ?_;refine ae Z Z ?_;refine Y Z (aJ Z Z) Z ?_;refine Y Z (D Z) Z ?_;refine ae Z Z ?_;refine ae Z Z ?_;refine ae Z Z ?_;refine ae Z Z ?_;refine ae Z Z ?_;refine Y Z (aJ Z Z) Z ?_;refine Y Z (D Z) Z ?_;refine ae Z Z ?_;refine ae Z Z ?_;refine ae Z Z ?_;refine ae Z Z ?_;refine ae Z Z ?_;refine Y Z (aJ Z Z) Z ?_;refine Y Z (D Z) Z ?_;refine ae Z Z ?_;refine ae Z Z ?_;refine ae Z Z ?_;refine ae Z Z ?_;refine ae Z Z ?_;refine Y Z (aJ Z Z) Z ?_;refine Y Z (ak Z) Z ?_;refine af ?_;refine B ?_;refine aF ?_;exact aA Z Z ⟨by rw[gp];simp only[b,d,Bool.true_and,Bool.false_and],aq.pop.pop⟩
 refine ae Z Z ?_;refine ae Z Z ?_;refine ae Z Z ?_;refine ae Z Z ?_;refine ae Z Z ?_;refine Y Z (aJ Z Z) Z ?_;refine Y Z (D Z) Z ?_;refine ae Z Z ?_;refine ae Z Z ?_;refine ae Z Z ?_;refine ae Z Z ?_;refine ae Z Z ?_;refine Y Z (aJ Z Z) Z ?_;refine Y Z (D Z) Z ?_;refine ae Z Z ?_;refine ae Z Z ?_;refine ae Z Z ?_;refine ae Z Z ?_;refine ae Z Z ?_;refine Y Z (aJ Z Z) Z ?_;refine Y Z (D Z) Z ?_;refine ae Z Z ?_;refine ae Z Z ?_;refine ae Z Z ?_;refine ae Z Z ?_;refine ae Z Z ?_;refine Y Z (aJ Z Z) Z ?_;refine Y Z (D Z) Z ?_;refine ae Z Z ?_;refine ae Z Z ?_;refine ae Z Z ?_;refine ae Z Z ?_;refine ae Z Z ?_;refine Y Z (aJ Z Z) Z ?_;refine Y Z (ak Z) Z ?_;refine af ?_;refine B ?_;refine aF ?_;exact aA Z Z ⟨by rw[gp];simp only[b,Bool.true_and,Bool.false_and],aq.pop.pop⟩
theorem Px {G:Cx} (d:Plain G) {K:KP} {A C:Nat} {x y:XC} {vx vy:List J} {V:N} {L:Own} (aq:St V K L) (h:gf K A x vx) (h':gf K C y vy):aW Tryz.prog G 42 [.agg vx,.agg vy] V fun v V'=>v= .bool (bW x y)/\St V' K L:=by
 have h1:=h;have h1':=h';obtain⟨v1,rfl,m⟩:=h1;obtain⟨v2,rfl,u⟩:=h1';refine aY d Tryz.func42 Z (t:=(PT.leaf.put (some (.agg _)) 0).put (some (.agg _)) 1) (by rfl) ?_;refine H ?_;refine ah Z ?_;refine bJ aq Z (cG Z Z) (fun _=>Z) (fun V b1 aq=>?_);refine bJ aq Z (cG Z Z) (fun _=>Z) (fun V b2 aq=>?_);refine Y Z (ak Z) Z ?_;refine af ?_;refine B ?_;refine H ?_;refine ah Z ?_;refine Y Z (az Z (k:=0) S) Z ?_;refine Y Z (aw Z (aq.get 1 Z) S Z) Z ?_;refine Y Z (az Z (k:=0) S) Z ?_;refine Y Z (aw Z (aq.get 0 Z) S Z) Z ?_;refine Y Z (aC Z Z Z) Z ?_;refine bx Z (D Z) (fun _=>Z) (fun b=>?_) (fun b=>?_)
 ·refine Y Z (az Z (k:=1) S) Z ?_;refine Y Z (aw Z (aq.get 1 Z) S Z) Z ?_;refine Y Z (az Z (k:=1) S) Z ?_;refine Y Z (aw Z (aq.get 0 Z) S Z) Z ?_;refine bB Z (aT Z Z Z S) (fun _=>Z) (AX d aq m u (fun x y vx vy V L aq hx hy=>Ir d aq hx hy)) (fun V aq=>?_);refine Y Z (aJ Z Z) Z ?_;refine Y Z (ak Z) Z ?_;refine af ?_;refine B ?_;refine aF ?_;exact aA Z Z ⟨by rw[iw];simp only[b,Bool.true_and,Bool.false_and],aq.pop.pop⟩
 refine ae Z Z ?_;refine ae Z Z ?_;refine ae Z Z ?_;refine ae Z Z ?_;refine ae Z Z ?_;refine Y Z (aJ Z Z) Z ?_;refine Y Z (ak Z) Z ?_;refine af ?_;refine B ?_;refine aF ?_;exact aA Z Z ⟨by rw[iw];simp only[b,Bool.true_and,Bool.false_and],aq.pop.pop⟩
end Go.Ev
namespace Go.Ev
variable [Env]
def r7 (g:XG) (loc:Int):Int:=match(ed g loc).getLast? with | none=>0 | some id=>(vW<|ez g id).write
def FY (k:Nat):List XC->List (List cU)->Option (List Int)
 | [],_=>some []
 | _::_,[]=>none
 | c::l,r::g=>bif bM (eP k c r).2 0 then(FY k l g).map fun e=>(eP k c r).1.fin::e else none
def NR (k:Nat) (l:List XC) (g:XG):Option (List Int):=
 bif cC (bM (bY g) 0) then none else bif cC (bM (.ofNat l.length) (.ofNat g.threads.length)) then none else FY k l g.threads
def Gb (g:XG):List Int->Nat->Bool
 | [],_=>true
 | v::r,i=>bif cC (bM v<|r7 g (.ofNat i)) then false else Gb g r (i+1)
def NM (k:Nat) (l:List XC) (m:List Int) (g:XG):Option (List Int):=
 match NR k l g with
 | none=>none
 | some e=>bif cC (bM (.ofNat m.length) (.ofNat g.init.length)) then none else bif Gb g m 0 then some e else none
def SD (k:Nat) (l:List XC) (m:List Int) (g:XG):Bool:=(NM k l m g).isSome
structure XM where
 mem:List Int
 g:XG
structure DI where
 yD:cU
 fr:cQ
 place:Int
 mem:List Int
def r9 (n:tV):Int:=bif cC (bM n.ask.kind 0) then n.ask.loc else n.event.loc
def kH (n:tV) (m:List Int) (g:XG):DI:=
 bif bM n.event.kind 4 then⟨n.event,⟨0,0⟩,0,m⟩ else
 let all:=ed g (r9 n)
 let yD:=bif cC (bM n.ask.kind 0) then fA n.ask ((m[(r9 n).toNat]?).getD 0) else n.event
 let fr:=bif cC (bM n.ask.kind 0) then(all.getLast?).getD ⟨0,0⟩ else⟨0,0⟩
 bif cC (bM yD.kind 1) then⟨yD,fr,.ofNat all.length,m.set (r9 n).toNat yD.write⟩ else⟨yD,fr,0,m⟩
def vH (n:tV) (g:XG):Bool:=bif cC (bM n.event.kind 4) then(bif dy (r9 n) 0 then true else cC (dy (r9 n) (.ofNat g.init.length))) else false
def Em (k:Nat) (c:XC) (row:List cU) (g:XG):Int:=
 bif cC (bM (eP k c row).2 0) then(eP k c row).2 else
 bif cC (bM (eP k c row).1.fin 0) then 10 else
 bif cC (dy (.ofNat row.length) 14) then 3 else
 bif vH (eP k c row).1 g then 2 else 0
def P6 (p:DI) (th:Int) (g:XG):Option XM×Int:=
 match ng g th p.yD p.fr p.place with
 | (some g',e)=>(some ⟨p.mem,g'⟩,e)
 | (none,e)=>(none,e)
def C7 (k:Nat) (l:List XC) (r:XM) (t:Nat):Option XM×Int:=
 match l[t]?,r.g.threads[t]? with
 | some c,some row=>bif cC (bM (Em k c row r.g) 0) then(none,Em k c row r.g) else P6 (kH (eP k c row).1 r.mem r.g) (.ofNat (t+1)) r.g
 | _,_=>(none,2)
structure DD (k:Nat) (l:List XC) (r:XM):Prop where
 S1:bY r.g=0
 len:r.g.threads.length=l.length
 mem:r.mem.length=r.g.init.length
 last:∀i:Nat,i<r.g.init.length->r.mem[i]? =some (r7 r.g (.ofNat i))
 fits:∀(t:Nat) (c:XC) (row:List cU),l[t]? =some c->r.g.threads[t]? =some row->nM k c row
theorem wg {k:Nat}:∀{l:List XC} {g:List (List cU)},l.length=g.length->(∀(t:Nat) (c:XC) (row:List cU),l[t]? =some c->g[t]? =some row->nM k c row)->∃e,FY k l g=some e/\e.length=l.length
 | [],_,_,_=>⟨[],Z,Z⟩
 | _::_,[],h,_=>by simp at h
 | c::l,r::g,h,hf=>by
  obtain⟨e,he,hl⟩:=wg (k:=k) (l:=l) (g:=g) (by simpa using h) (fun t c row h1 b=>hf (t+1) c row (by simpa using h1) (by simpa using b));have:=wN.2 (hf 0 c r Z Z);refine⟨(eP k c r).1.fin::e,?_,?_⟩
  ·unfold FY;rw[this,he];rfl
  simp[hl]
theorem Co {g:XG}:∀{m:List Int} {i:Nat},(∀j v,m[j]? =some v->v=r7 g (.ofNat (i+j)))->Gb g m i=true
 | [],_,_=>rfl
 | v::r,i,h=>by
  have h0:=h 0 v Z;rw[Nat.add_zero] at h0;unfold Gb;rw[h0,ey];exact Co fun j v hv=>by have:=h (j+1) v (by simpa using hv);rwa[show i+1+j=i+(j+1) by omega]
theorem DD.is {k:Nat} {l:List XC} {r:XM} (h:DD k l r):SD k l r.mem r.g=true:=by
 obtain⟨e,he,_⟩:=wg (k:=k) (l:=l) (g:=r.g.threads) h.len.symm h.fits;unfold SD NM NR;rw[h.S1,h.len,ey,he];simp only[show cC (bM 0 0)=false from Z,show cC true=false from Z,cond_false];rw[h.mem,Co fun j v hv=>?_]
 ·simp only[ey,cC,cond_true,cond_false];rfl
 have hj:=(gA.1 hv).1;have:=h.last j (by rw[<-h.mem];exact hj)
 simp_all
theorem Ki {g:XG} (h:eb g) {ln:Nat} {r:List cQ} {id:cQ} (b:g.order[ln]? =some r) (hm:id∈r):∃w,ez g id=some w:=by
 have h1:=h.perm.mem_iff.2 (wV (loc:=0) b hm);obtain⟨s,i,l,e,d,m,_,u,_⟩:=iX.1 h1;have e1:id=⟨.ofNat (s+1),.ofNat i⟩:=lE (by rw[u,nA_];rfl);subst e1;exact⟨e,by rw[jf,d];exact m⟩
theorem Mu {g:XG} {ln:Nat} (h:ln<g.init.length):∃w,ez g ⟨0,.ofNat ln⟩=some w:=by
 refine⟨⟨2,ln,1,0,g.init[ln]⟩,?_⟩;show(g.init[ln]?).map _=_
 simp_all
theorem r8 {g:XG} (hc:bY g=0) {ln:Nat} {r:List cQ} (b:g.order[ln]? =some r):r7 g (.ofNat ln)=(vW<|ez g ((r.getLast?).getD ⟨0,.ofNat ln⟩)).write:=by
 unfold r7;rw[gG (by rw[hc];rfl) b]
 grind
theorem nA {g:XG} (hc:bY g=0) {ln:Nat} (h:ln<g.init.length):∃r,g.order[ln]? =some r:=bZ (by rw[(ei.1 hc).order];exact h)
theorem HB {g g':XG} (hc:bY g=0) (b:bY g'=0) (hold:∀id w,ez g id=some w->ez g' id=some w) {ln:Nat} (h:ln<g.init.length) (m:g'.order[ln]? =g.order[ln]?):r7 g' (.ofNat ln)=r7 g (.ofNat ln):=by
 obtain⟨r,d⟩:=nA hc h;rw[r8 hc d,r8 b (by rw[m];exact d)]
 have:∃w,ez g ((r.getLast?).getD ⟨0,.ofNat ln⟩)=some w:=by
  cases hl:r.getLast? with
  | none=>exact Mu h
  | some x=>exact Ki (ei.1 hc) d (List.mem_of_getLast? hl)
 grind
theorem IJ {g g':XG} {th pl:Int} {e:cU} {fr:cQ} (h:ng g th e fr pl=(some g',0)):g'.init=g.init:=by
 obtain⟨_,tm,row,frow,_,_,_,_,_,rfl,_⟩:=kZ h;rfl
theorem LU {g g':XG} {tm:Nat} {pl:Int} {e:cU} {fr:cQ} (h:ng g (.ofNat (tm+1)) e fr pl=(some g',0)):∃row,g.threads[tm]? =some row/\g'.threads=g.threads.set tm (row++[e]):=by
 obtain⟨_,t2,row,frow,ht,h1,_,_,_,rfl,_⟩:=kZ h
 grind [tq]
theorem Hc {g g':XG} {th pl:Int} {e:cU} {fr:cQ} (h:ng g th e fr pl=(some g',0)) {ln:Nat} (hl:bH e=true->e.loc≠ .ofNat ln):g'.order[ln]? =g.order[ln]?:=by
 obtain⟨_,tm,row,frow,_,_,_,_,hp,rfl,_⟩:=kZ h
 grind [tq,Gh,rT]
theorem DN {g g':XG} {tm ln:Nat} {e:cU} {fr:cQ} {r:List cQ} (b:g.order[ln]? =some r) (h:ng g (.ofNat (tm+1)) e fr (.ofNat (r.length+1))=(some g',0)) (hw:bH e=true) (hl:e.loc= .ofNat ln):∃row,g.threads[tm]? =some row/\g'.order[ln]? =some (r++[⟨.ofNat (tm+1),.ofNat row.length⟩]):=by
 obtain⟨_,t2,row,frow,ht,h1,_,_,_,rfl,_⟩:=kZ h;have:tm=t2:=by grind
 subst this;refine⟨row,h1,?_⟩;rw[tq];show(HS g.order e _ _)[ln]? =_;unfold HS;rw[hw,hl];have hlt:=(gA.1 b).1
 simp_all
theorem CK {n:tV} {m:List Int} {g:XG} (h:bM n.event.kind 4=true):kH n m g=⟨n.event,⟨0,0⟩,0,m⟩:=by unfold kH;rw[h];rfl
theorem Bt {a:xR} {v:Int} (h:a.kind=2∨a.kind=4∨a.kind=5∨a.kind=6):(fA a v).loc=a.loc/\(dR (fA a v)=true):=by
 refine⟨?_,(jS h).1⟩;unfold fA;rcases h with h | h | h | h<;>rw[h]
 ·rfl
 ·exact eJ (P:=fun e:cU=>e.loc=a.loc) (bM v a.a) Z Z
 ·rfl
 rfl
structure DM (k:Nat) (l:List XC) (r:XM) (t:Nat) (c:XC) (row:List cU) (p:DI) (r':XM):Prop where
 code:l[t]? =some c
 rowAt:r.g.threads[t]? =some row
 err:Em k c row r.g=0
 km:p=kH (eP k c row).1 r.mem r.g
 add:ng r.g (.ofNat (t+1)) p.yD p.fr p.place=(some r'.g,0)
 mem:r'.mem=p.mem
theorem KX {k:Nat} {l:List XC} {r r':XM} {t:Nat} (h:C7 k l r t=(some r',0)):∃c row p,DM k l r t c row p r':=by
 unfold C7 at h;cases h1:l[t]? with
 | none=>rw[h1] at h;cases h
 | some c=>
 cases d:r.g.threads[t]? with
 | none=>simp_all
 | some row=>
 rw[h1,d] at h;dsimp only at h;cases b:bM (Em k c row r.g) 0 with
 | false=>rw[b] at h;cases h
 | true=>
  rw[b] at h;have h:P6 (kH (eP k c row).1 r.mem r.g) (.ofNat (t+1)) r.g=(some r',0):=h;unfold P6 at h;cases h4:ng r.g (.ofNat (t+1)) (kH (eP k c row).1 r.mem r.g).yD (kH (eP k c row).1 r.mem r.g).fr (kH (eP k c row).1 r.mem r.g).place with
  | mk o e=>
   rw[h4] at h;cases o with
   | none=>cases h
   | some g'=>
    simp only[Prod.mk.injEq,oJ_] at h;obtain⟨rfl,rfl⟩:=h;exact⟨c,row,_,h1,d,NN b,Z,h4,Z⟩
theorem DM.step {k:Nat} {l:List XC} {r r':XM} {t:Nat} {c:XC} {row:List cU} {p:DI} (h:DM k l r t c row p r'):C7 k l r t=(some r',0):=by
 unfold C7;rw[h.code,h.rowAt];dsimp only;rw[h.err,<-h.km];show P6 p _ _=_;unfold P6;rw[h.add];dsimp only;obtain⟨m,g⟩:=r';have:=h.mem
 simp_all
theorem Hp {k:Nat} {c:XC} {row:List cU} {g:XG} (h:Em k c row g=0):(eP k c row).2=0/\(eP k c row).1.fin=0/\row.length<14/\vH (eP k c row).1 g=false:=by
 unfold Em at h;cases h1:bM (eP k c row).2 0 with
 | false=>
  rw[h1] at h;have h:(eP k c row).2=0:=h;rw[h] at h1;cases h1
 | true=>
 rw[h1] at h;cases d:bM (eP k c row).1.fin 0 with
 | false=>rw[d] at h;cases h
 | true=>
 rw[d] at h;cases m:dy (.ofNat row.length) 14 with
 | false=>rw[m] at h;cases h
 | true=>
 rw[m] at h;cases h4:vH (eP k c row).1 g with
 | true=>rw[h4] at h;cases h
 | false=>exact⟨NN h1,NN d,aS (b:=14) m,Z⟩
theorem sV {n:tV} {g:XG} (h:vH n g=false) (hk:bM n.event.kind 4=false):∃ln:Nat,r9 n= .ofNat ln/\ln<g.init.length:=by
 unfold vH at h;rw[hk] at h;have h:(bif dy (r9 n) 0 then true else cC (dy (r9 n) (.ofNat g.init.length)))=false:=h;cases h1:dy (r9 n) 0 with
 | true=>rw[h1] at h;cases h
 | false=>
  rw[h1] at h;obtain⟨ln,hl⟩:=nv h1;rw[hl] at h⊢;exact⟨ln,Z,aS<|a7 h⟩
theorem qW {g g':XG} {th:Int} {e:cU} {fr:cQ} {ln:Nat} (h:ng g th e fr (.ofNat (ed g (.ofNat ln)).length)=(some g',0)) (hl:ln<g.init.length):bH e=true:=by
 obtain⟨hc,_,_,_,_,_,_,_,hb,_,_⟩:=kZ h;unfold ka at hb;obtain⟨o,b⟩:=nA hc hl;cases hw:bH e with
 | true=>rfl
 | false=>rw[hw,gG (by rw[hc];rfl) b] at hb;cases hb
structure DJ (k:Nat) (c:XC) (row:List cU) (r:XM) (p:DI):Prop where
 fits:nM k c (row++[p.yD])
 look:bM (eP k c row).1.event.kind 4=false->∃ln:Nat,ln<r.g.init.length/\r9 (eP k c row).1= .ofNat ln/\p.yD.loc= .ofNat ln/\p.yD.kind≠4
 cases:(p.yD.kind=4/\p.mem=r.mem/\p.place=0)∨∃ln:Nat,ln<r.g.init.length/\p.yD.loc= .ofNat ln/\p.yD.kind≠4/\((bH p.yD=false/\p.mem=r.mem/\p.place=0)∨(bH p.yD=true/\p.mem=r.mem.set ln p.yD.write/\p.place= .ofNat (ed r.g (.ofNat ln)).length))
theorem F9 {e:cU} {n:Int} (h:bM e.kind n=false):e.kind≠n:=fun hh=>by rw[hh,ey] at h;cases h
theorem MV {k:Nat} {c:XC} {row:List cU} {r:XM} {th:Int} {g':XG} (h:Em k c row r.g=0) (b:ng r.g th (kH (eP k c row).1 r.mem r.g).yD (kH (eP k c row).1 r.mem r.g).fr (kH (eP k c row).1 r.mem r.g).place=(some g',0)):DJ k c row r (kH (eP k c row).1 r.mem r.g):=by
 obtain⟨h1,h2,h3,h4⟩:=Hp h;rcases Cz h1 with ⟨e,he,hf,hr⟩ | ⟨a,G,hk,hf⟩ | ⟨n,I⟩
 ·have key:∀p:DI,kH (eP k c row).1 r.mem r.g=p->DJ k c row r p:=by
   rw[he] at h4 b⊢;intro p hp;rw[hp] at b;dsimp only at h4;cases h5:bM e.kind 4 with
   | true=>
    rw[CK h5] at hp;subst hp;exact⟨hf,fun hh=>(by simp_all),.inl ⟨OA h5,Z,Z⟩⟩
   | false=>
    obtain⟨ln,hl,d⟩:=sV h4 h5;have C:e.loc= .ofNat ln:=hl;unfold kH at hp;rw[hl] at hp;dsimp only at hp;rw[h5,show bM uz.kind 0=true from Z] at hp;simp only[show cC true=false from Z,cond_false] at hp;cases F:bM e.kind 1 with
    | true=>
     grind [dR]
    | false=>
     rw[F] at hp;simp only[show cC false=true from Z,cond_true] at hp;subst hp;exact⟨hf,fun _=>⟨ln,d,by rw[he];exact hl,C,F9 h5⟩,.inr ⟨ln,d,C,F9 h5,.inr ⟨qW b d,Z,Z⟩⟩⟩
  exact key _ Z
 ·have key:∀p:DI,kH (eP k c row).1 r.mem r.g=p->DJ k c row r p:=by
   rw[G] at h4 b⊢;intro p hp;rw[hp] at b;have E:bM a.kind 0=false:=by rcases hk with e | e | e | e<;>rw[e]<;>rfl
   have K:r9 ⟨CB,a,0⟩=a.loc:=by unfold r9;dsimp only;rw[E];rfl
   obtain⟨ln,hl,d⟩:=sV h4 Z;unfold kH at hp;rw[hl] at hp;dsimp only at hp;rw[E,show bM CB.kind 4=false from Z] at hp;simp only[show cC false=true from Z,cond_true,cond_false] at hp;have u:∀v,(fA a v).loc= .ofNat ln:=fun v=>by rw[(Bt hk).1,<-K,hl]
   have A:∀v,(fA a v).kind≠4:=fun v L=>by
    have h5:=(jS (v:=v) hk).1;unfold dR at h5;rw[L] at h5;cases h5
   generalize hv:(r.mem[(Int.ofNat ln).toNat]?).getD 0=v at hp;have m:r9 (eP k c row).1= .ofNat ln:=by rw[G];exact hl
   cases F:bM (fA a v).kind 1 with
   | true=>
    rw[F] at hp;simp only[show cC true=false from Z,cond_false] at hp;subst hp;refine⟨hf v,fun _=>⟨ln,d,m,u v,A v⟩,.inr ⟨ln,d,u v,A v,.inl ⟨?_,Z,Z⟩⟩⟩
    grind [bH,OA]
   | false=>
    rw[F] at hp;simp only[show cC false=true from Z,cond_true] at hp;subst hp;exact⟨hf v,fun _=>⟨ln,d,m,u v,A v⟩,.inr ⟨ln,d,u v,A v,.inr ⟨qW b d,Z,Z⟩⟩⟩
  exact key _ Z
 rw[I] at h4 b;exfalso;obtain⟨ln,hl,d⟩:=sV h4 Z;obtain⟨hc,_,_,_,_,_,_,_,hp,_,_⟩:=kZ b;have hp:(!bM (.ofNat (ed r.g<|r9 ⟨CB,uz,n⟩).length) 0)=false:=hp;obtain⟨q,hq⟩:=nA hc d;rw[hl,gG (by rw[hc];rfl) hq] at hp;cases hp
theorem DD.step {k:Nat} {l:List XC} {r r':XM} {t:Nat} (h:DD k l r) (R:C7 k l r t=(some r',0)):DD k l r'/\r'.g.init=r.g.init:=by
 obtain⟨c,row,p,hp⟩:=KX R;have hadd:=hp.add;rw[hp.km] at hadd;have hok:=MV hp.err hadd;rw[<-hp.km] at hok hadd;obtain⟨tm,row',ht,M,u,d,aa,_,_,hold,_⟩:=Hb hadd;have hi:=IJ hadd;obtain⟨m,A,C⟩:=LU hadd;rw[hp.rowAt] at A;cases A;have hlen:r'.g.threads.length=l.length:=by rw[C,List.length_set];exact h.len
 have K:tm=t:=by grind
 subst K;rw[hp.rowAt] at M;cases M;refine⟨⟨d,hlen,?_,fun i b=>?_,fun Q T m h1 E=>?_⟩,hi⟩
 ·rw[hp.mem,hi,<-h.mem];rcases hok.cases with ⟨_,e,_⟩ | ⟨ln,_,_,_,⟨_,e,_⟩ | ⟨_,e,_⟩⟩<;>rw[e]
  rw[List.length_set]
 ·rw[hi] at b;rw[hp.mem];have same:(bH p.yD=true->p.yD.loc≠ .ofNat i)->r7 r'.g (.ofNat i)=r7 r.g (.ofNat i):=fun hw=>HB u d hold b (Hc hadd hw)
  rcases hok.cases with ⟨e1,e,_⟩ | ⟨ln,F,G,_,⟨e1,e,_⟩ | ⟨hw,e,epl⟩⟩
  ·rw[e,same (fun hw=>by unfold bH at hw;rw[e1] at hw;cases hw)];exact h.last i b
  ·rw[e,same (fun hw=>by simp_all)];exact h.last i b
  rw[e]
  by_cases I:ln=i
  ·subst I;rw[List.getElem?_set_self (by rw[h.mem];exact F)];obtain⟨q,hq⟩:=nA u F;have L:p.place= .ofNat (q.length+1):=by rw[epl,gG (by rw[u];rfl) hq];rfl
   rw[L] at hadd;obtain⟨ab,U,ho⟩:=DN hq hadd hw G;rw[hp.rowAt] at U
   grind [r8,List.getLast?_append,vW]
  rw[List.getElem?_set_ne I,same (fun _=>by grind)];exact h.last i b
 rw[C] at E
 by_cases e:tm=Q
 ·subst e;rw[List.getElem?_set_self (gA.1 hp.rowAt).1] at E;rw[hp.code] at h1;cases h1;cases E;exact hok.fits
 rw[List.getElem?_set_ne e] at E;exact h.fits Q T m h1 E
theorem DD.start {k:Nat} {l:List XC} {init:List Int} (hl:l.length<=4) (hi:init.length<=6) (hf:∀c∈l,qK k c=true):DD k l ⟨init,⟨init,List.replicate l.length [],List.replicate l.length [],List.replicate init.length []⟩⟩:=by
 have hw:∀n t,fU (List.replicate n []) t= []:=by
  intro n;induction n with
  | zero=>intro t;rfl
  | succ n ih=>grind [fD,fU]
 have ho:∀n t,ij (List.replicate n []) t= []:=by
  intro n;induction n with
  | zero=>intro t;rfl
  | succ n ih=>grind [eH,ij]
 have d:eb ⟨init,List.replicate l.length [],List.replicate l.length [],List.replicate init.length []⟩:=by
  refine⟨by simpa using hl,hi,fun i x hx=>?_,by simp,by simp,fun i x f hx hf=>?_,?_⟩
  ·grind
  ·grind
  simp_all
 have hc:=ei.2 d;refine⟨hc,by simp,Z,fun i b=>?_,fun t c row h1 h2=>?_⟩
 ·have hq:(List.replicate init.length ([]:List cQ))[i]? =some []:=by
   simp_all
  rw[r8 hc hq];show init[i]? =some (vW ((init[i]?).map fun v=>(⟨2,i,1,0,v⟩:cU))).write;rw[gC b];rfl
 grind [Jo]
def DG (m:List Int) (x0 x1 x2 x3 x4 x5:Int):Prop:=[x0,x1,x2,x3,x4,x5]=m++List.replicate (6-m.length) 0
abbrev c6 (x0 x1 x2 x3 x4 x5:Int) (a b c d:J):List J:=[.int .i64 x0,.int .i64 x1,.int .i64 x2,.int .i64 x3,.int .i64 x4,.int .i64 x5,a,b,c,d]
theorem DG.le {m:List Int} {b d u A C E:Int} (h:DG m b d u A C E):m.length<=6:=by
 have:=congrArg List.length h;rw[lA_,List.length_replicate] at this;have e: [b,d,u,A,C,E].length=6:=rfl;omega
theorem DG.at_ {m:List Int} {u A C E F G:Int} (h:DG m u A C E F G) {a b c d:J} {ln:Nat} (hl:ln<m.length):∃y,m[ln]? =some y/\nth (c6 u A C E F G a b c d) (0+ln*1)=some (.int .i64 y):=by
 have h6:=h.le;obtain⟨y,hy⟩:=bZ hl;have: [u,A,C,E,F,G][ln]? =some y:=by rw[show [u,A,C,E,F,G]=_ from h,gL_ hl];exact hy
 refine⟨y,hy,?_⟩;rw[eU,Nat.mul_one,nA_]
 grind
theorem DG.set {m:List Int} {u A C E F G:Int} (h:DG m u A C E F G) {a b c d:J} {ln:Nat} (hl:ln<m.length) (v:Int):∃L M Q R T y5,dB [.int .i64 v] (c6 u A C E F G a b c d) (0+ln*1)=c6 L M Q R T y5 a b c d/\DG (m.set ln v) L M Q R T y5:=by
 have h6:=h.le;have I: [u,A,C,E,F,G].set ln v=m.set ln v++List.replicate (6-(m.set ln v).length) 0:=by rw[show [u,A,C,E,F,G]=_ from h,List.set_append_left _ _ hl,List.length_set]
 have K:ln<6:=by omega
 match ln,K with
 | 0,_=>exact⟨v,A,C,E,F,G,Z,I⟩
 | 1,_=>exact⟨u,v,C,E,F,G,Z,I⟩
 | 2,_=>exact⟨u,A,v,E,F,G,Z,I⟩
 | 3,_=>exact⟨u,A,C,v,F,G,Z,I⟩
 | 4,_=>exact⟨u,A,C,E,v,G,Z,I⟩
 | 5,_=>exact⟨u,A,C,E,F,v,Z,I⟩
end Go.Ev
namespace Go.Ev
variable [Env]
theorem tZ {P:Program} {ev:Operand->Option J} {t e w n:Nat} {k k':IntKind} {z:List J} {lo co:Operand} (d:P.underlying t=some (.slice e)) (hw:(P.info? e).map (·.bytes)=some w) (hz:(eQ P e).bind cd=some z)
  (b:((P.info? e).any fun j=>Nat.beq (di z) j.size && Nat.ble 1 j.size)=true) (hl:ev lo=some (.int k (.ofNat n))) (hc:ev co=some (.int k' (.ofNat n))) (hn:w*n<=1048576) (aa:n<=1048576):
  eZ P ev (.makeSlice t lo co)=some (.row (ec z n) e false,.slice n n):=by
 obtain⟨j,hj,rfl⟩:=oM_.1 hw;rw[hj] at b;simp only[Option.any_some,bA_] at b;simp only[eZ,d,hl,hc,hj,hz];rw[b.1,b.2,show Nat.ble n n=true by simp_all,show Nat.ble (j.bytes*n) 1048576=true by simp_all,show Nat.ble n 1048576=true by simp_all];rfl
theorem xx {P:Program} {G:Cx} {t:PT J} {V:N} {ops:Array Oper} {o:Oper} {i k b e n:Nat} {cs:List J} (hi:ops[i]? =some o) (hw:bF ops t o=some true) (hd:o.dst=some k) (hg:t.get k=some (.slice b 0 n (.known n))) (hk:kindOf P o.op= .alloc) (ha:eZ P (bn G t) o.op=some (.row cs e false,.slice n n)) (hm:V.m.get b=some (.row cs e false)) (hb:dL.beqL cs cs=true):jQ P G ops t V i=true:=by
 unfold jQ
 simp_all
theorem By (n:Nat):dL.beqL (List.replicate n J.au) (List.replicate n J.au)=true:=by
 induction n with
 | zero=>rfl
 | succ n ih=>rw[List.replicate_succ];exact cZ Z ih
theorem PX.leaf:∀x vs,PX x vs->bO vs=true:=fun _ _ h=>by cases h;rfl
theorem cS.rD {α:Type} {m E:Nat} {R:α->List J->Prop} {l:List α} {u:J} {M:Own} {K:KP} (h:cS m E R l u M):bG (K.ml M) m R l u:=h.gS fun _ he=>.inr he
theorem cS.jC {α:Type} {m E:Nat} {R R':α->List J->Prop} {l:List α} {u:J} {M:Own} (h:cS m E R l u M) (d:∀x vs,R x vs->R' x vs):cS m E R' l u M:=by
 rcases h with h | ⟨b,c,cells,e,h1,A,C,h4,h5⟩
 ·exact .inl h
 exact .inr ⟨b,c,cells,e,h1,A,C,fun i x hx=>d x _ (h4 i x hx),h5⟩
theorem gY.leaf {K:KP} {k:Nat}:∀x vs,gY K k x vs->bO vs=true:=fun x vs h=>by
 obtain⟨o,n,s,v,rfl,hk⟩:=h.shape;exact ar Z<|ar Z<|ar Z<|ar hk.leaf.2 aQ
theorem cS.empty {α:Type} {m E b e:Nat} {R:α->List J->Prop}:cS m E R ([]:List α) (.slice b 0 0 (.known 0)) [(b,.row [] e false)]:=.inr ⟨b,.known 0,[],e,Z,Z,by simp,fun i x h=>by simp at h,.inl Z,by simp⟩
theorem cS.nil {α:Type} {m E:Nat} {R:α->List J->Prop}:cS m E R ([]:List α) .au []:=.inl ⟨Z,Z,Z⟩
theorem zL {P:Program} {ev:Operand->Option J} {t e:TypeId} {len m:Nat} {parts:Array (Nat×Operand)} {z cs:List J} (d:P.underlying t=some (.slice e)) (hj:(P.info? e).map (·.size)=some m) (hz:(eQ P e).bind cd=some z)
  (hb:(Nat.beq (di z) m && Nat.ble (len*m) 16777216 && Nat.ble 1 m)=true) (hf:jA (fun i=>some (i*m,m)) ev parts.toList (ec z len)=some cs):eZ P ev (.buildSlice t len parts)=some (.row cs e false,.slice len len):=by
 obtain⟨j,b,rfl⟩:=oM_.1 hj;simp only[eZ,d,b,hz,hb,cond_true,hf]
end Go.Ev
namespace Go.Ev
variable [Env]
open Go.Proofs
set_option maxRecDepth 4000
set_option maxHeartbeats 8000000
def RV (u:J) (vs:List J):Prop:=vs= [u]/\cd u=some [u]/\fJ u=true
theorem RV.leaf:∀x vs,RV x vs->bO vs=true:=fun u _ h=>by
 obtain⟨rfl,_,b⟩:=h;exact ar b aQ
section
variable {m E E2:Nat} {K:KP} {us:List J} {u:J} {O_:Own}
theorem nF (h:cS 1 E RV us u O_) (hne:us≠[]):∃b c e,u= .slice b 0 us.length c/\O_= [(b,.row us e false)]/\(c= .known us.length∨(c= .upto 1/\e=E))/\us.length<=1048576:=by
 rcases h with ⟨rfl,_,_⟩ | ⟨b,c,cells,e,rfl,rfl,h3,h4,h5,d⟩
 ·exact absurd Z hne
 refine⟨b,c,e,Z,?_,h5,d⟩
 have:cells=us:=by
  refine List.ext_getElem oM fun i h1 A=>?_
  have h:=(h4 i us[i]<|gC A).1;rw[Nat.mul_one,List.drop_eq_getElem_cons h1] at h;exact(List.cons.inj h).1
 rw[this]
theorem vr {b e n:Nat} {c:nL} (d:us.length=n) (hc:c= .known n∨(c= .upto 1/\e=E)) (hl:n<=1048576) (A:∀u∈us,cd u=some [u]/\fJ u=true):cS 1 E RV us (.slice b 0 n c) [(b,.row us e false)]:=by
 subst d
 exact .inr ⟨b,c,us,e,Z,Z,(Nat.mul_one _).symm,fun i x h=>by
  obtain⟨h1,C⟩:=gA.1 h;refine⟨?_,A x<|gB_ h⟩;rw[Nat.mul_one,List.drop_eq_getElem_cons h1,C];rfl,hc,hl⟩
variable {α:Type} {R:α->List J->Prop} {ls:List (List α)} {I:Own}
theorem eI.NW (h:eI m E R ls us I):∀u∈us,cd u=some [u]/\fJ u=true:=by
 induction h with
 | nil=>intro u h;cases h
 | snoc _ h1 ih=>
  intro u h;rcases List.mem_append.1 h with h | h
  ·exact ih u h
  rw[List.mem_singleton.1 h];exact h1.leaf
theorem tN (h:eI m E R ls us I) (A:cS 1 E2 RV us u O_) (F:∀e∈I,K e.1 e.2) (C:∀e∈O_,K e.1 e.2):bG K 1 (RL K m R) ls u:=by
 rcases h':us with _ | ⟨x,r⟩
 ·have hl:=h.length;rcases A with ⟨_,rfl,_⟩ | ⟨b,c,cells,e,rfl,rfl,h3,h4,h5,G⟩
  ·rw[h'] at hl;exact .inl ⟨eN_ hl.symm,Z⟩
  have hz:ls= []:=by rw[h'] at hl;exact eN_ hl.symm
  subst hz;refine .inr ⟨b,0,c,cells,e,false,by rw[h'];rfl,?_,C _ (.head _),by simp,by simp,fun i x hx=>by simp at hx⟩;rw[h'] at h5;rcases h5 with rfl | ⟨rfl,_⟩
  ·exact .inr ⟨_,Z,nR_ _⟩
  exact .inl Z
 obtain⟨b,c,e,rfl,rfl,h5,G⟩:=nF A (by rw[h'];exact fun e=>by cases e);have hl:=h.length;refine .inr ⟨b,0,c,us,e,false,by rw[hl],?_,C _ (.head _),by omega,by omega,fun i x hx=>?_⟩
 ·rcases h5 with rfl | ⟨rfl,_⟩
  ·rw[hl];exact .inr ⟨_,Z,nR_ _⟩
  exact .inl Z
 obtain⟨u,q1,q2⟩:=h.each F i x hx;refine⟨u,?_,q2⟩;obtain⟨d,rfl⟩:=gA.1 q1;rw[show 0+i*1=i from by omega,List.drop_eq_getElem_cons d];rfl
end
theorem Nx {G:Cx} (hG:Plain G) {K:KP} {k:Nat} {l:List XC} {lv:J} (hl:bG K 2 (gf K k) l lv) {pl pc cv:J} (C:dz K pl [lv]) {c a:XC} {vc:List J} (F:dz K pc vc) (M:vc.length=2) (Q:gf K k c vc) {cl:List Int} (T:bG K 1 cH cl cv) {h:Nat} (U:cl[0]? =some (Int.ofNat (h+1))) (b:l[h]? =some a) {V:N} {L:Own} (aq:St V K L):
  aW Tryz.prog G 41 [cv,pl,pc] V fun v V'=>v= .bool (bW a c)/\St V' K L:=by
 have hh:=(gA.1 b).1;have hll:=hl.bK;refine aY hG Tryz.func41 Z (t:=((PT.leaf.put (some (cv)) 0).put (some (pl)) 1).put (some (pc)) 2) (by rfl) ?_;refine H ?_;refine ah Z ?_;refine Y Z (ak Z) Z ?_;refine af ?_;refine B ?_;refine H ?_;refine aU (l:=[(0,[]),(1,[]),(2,[]),(3,[]),(4,[]),(5,[]),(6,[]),(7,[]),(8,[]),(9,[])]) S S ?_;refine aj Z Z (aN aq C Z S Z) Z ?_;refine aj Z Z (D Z) Z ?_;refine bV (e:=3) (m:=1) T U Z Z Z S S Z Z (fun _=>Z) (fun p7 ad W ai X=>?_);obtain rfl:=X;refine aj Z Z (aN aq W Z S Z) Z ?_;refine aj Z Z (aC (v:=.int .i64 (.ofNat h)) Z Z<|congrArg (fun z=>some (J.int .i64 z))<|fP oM) Z ?_;refine bV (e:=63) (m:=2) hl b Z Z Z S S Z Z (fun _=>Z) (fun al aa A ab d=>?_);have hr10':=d;obtain⟨am,rfl,ac⟩:=hr10';refine aj Z Z (bE aq A Z S Z) Z ?_;refine aj Z Z (bE aq F Z S M) Z ?_;refine dZ Z Z (aT Z Z Z S) (fun _=>Z) (Px hG aq d Q) (fun V aq=>?_);refine⟨aV,?_⟩;refine aj Z Z (ak Z) Z ?_;refine a8 ?_;refine B ?_;refine aF ?_;exact aA Z Z ⟨Z,aq⟩
theorem AZ {G:Cx} (W:Plain G) {K:KP} {ls:List (List Int)} {v pl pc:J} {p:List Int->Bool} (h:bG K 1 (RL K 1 cH) ls v) {V:N} {L:Own} (aq:St V K L)
  (d:∀x u V L,x∈ls->St V K L->bG K 1 cH x u->aW Tryz.prog G 41 [u,pl,pc] V fun v V'=>v= .bool (p x)/\St V' K L):
  aW Tryz.prog G 43 [v,.func 41 [] [pl,pc]] V fun v V'=>v= .int .i64 (fx p ls 0)/\St V' K L:=by
 refine aY W Tryz.func43 Z (t:=(PT.leaf.put (some (v)) 0).put (some (.func 41 [] [pl,pc])) 1) (by rfl) ?_;refine H ?_;refine ah Z ?_;refine Y Z (ak Z) Z ?_;refine af ?_;refine B ?_;refine H ?_;refine H ?_;refine ah Z ?_;refine Y Z (D Z) Z ?_;refine Y Z (aO h Z Z Z (e:=28) S Z) Z ?_;refine Y Z (D Z) Z ?_;refine af ?_;refine B ?_;refine aI ?_;obtain⟨LL1,aq,hLL1⟩:=aq.named;refine a6 [4,5,8,9,10,11,12,13,14,15,16,17,18] (fun j t V=>∃(i:Nat),j+i=ls.length/\fx p ls 0=fx p (ls.drop i) i/\t.get 8=some (.int .i64 (.ofNat i))/\St V K LL1) (ls.length) ⟨0,Z,Z,Z,aq⟩ ?_;clear aq;intro X t V an hI;obtain⟨i,hj,he,A,aq⟩:=hI;subst hLL1;replace an:=an.bS Z Z;obtain⟨o4,o5,o8,o9,ad,ai,al,am,an⟩:=an;replace an:=an.mQ Z;obtain⟨ao,ap,av,ax,an⟩:=an;replace an:=an.eh Z;obtain⟨aE,an⟩:=an;obtain rfl:=an.nil;clear an;replace A:o8=some _:=A;subst A;refine H ?_;refine ah Z ?_;refine Y Z (aC Z Z Z) Z ?_;refine af ?_;refine B ?_;refine H ?_;refine aD Z (fun U=>?_) (fun U=>?_)
 ·refine aG ?_;refine B ?_;refine H ?_;refine aI ?_;refine H ?_;refine ah Z ?_;refine Y Z (D Z) Z ?_;refine Y Z (ak Z) Z ?_;refine af ?_;refine B ?_;refine H ?_;refine ah Z ?_;refine Y Z (D Z) Z ?_;refine Y Z (D Z) Z ?_;refine Y Z (D Z) Z ?_;obtain⟨C,b,aa⟩:=cL U;refine cm (e:=28) (m:=1) h b Z Z S S Z Z (fun _=>Z) (fun a0 ab M ac Q=>?_);have hr14':=Q;obtain⟨a1,rfl,T⟩:=hr14';refine Y Z (aN aq M Z S Z) Z ?_;refine bB Z (aT Z Z Z S) (fun _=>Z) (d C _ _ _ (gB_ b) aq T) (fun V aq=>?_);refine af ?_;refine B ?_;refine aD Z (fun F=>?_) (fun F=>?_)
  ·refine H ?_;refine ah Z ?_;refine Y Z (D Z) Z ?_;refine Y Z (ak Z) Z ?_;refine af ?_;refine B ?_;refine aF ?_;refine aK<|ay<|bq<|aK<|ay (?_);exact aA Z Z ⟨congrArg (J.int .i64) (by symm;rw[he,cz b];show(bif p C then _ else _)=_;rw[F];rfl),aq⟩
  refine aG ?_;refine aH ?_;refine B ?_;refine ah Z ?_;refine Y Z (aC Z Z Z) Z ?_;refine Y Z (D Z) Z ?_;refine af ?_;refine aL ⟨X-1,by omega,(by(iterate 24 refine bc.put Z ?_);exact bc.refl _ _),i+1,by omega,by rw[he,cz b];show(bif p C then _ else _)=_;rw[F];rfl,congrArg (fun z=>some (J.int .i64 z))<|aX (by have:=h.bK;omega),aq⟩
 refine ba ?_;refine aP ?_;refine aR ?_;refine aM ?_;refine B ?_;refine H ?_;refine ah Z ?_;refine Y Z (ak Z) Z ?_;refine af ?_;refine B ?_;refine aF ?_;exact aA Z Z ⟨congrArg (J.int .i64) (by symm;rw[he,ff<|bC U];rfl),aq⟩
theorem wG {l:List XC} {t h:Nat} {c a:XC} {cl:List Int} (h1:cl[0]? =some (Int.ofNat (h+1))) (d:l[h]? =some a) (m:l[t]? =some c):gn l t cl=bW a c:=by
 unfold gn;rw[h1];show(match l[h+1-1]?,l[t]? with | some a,some b=>bW a b | _,_=>false)=_;rw[Nat.add_sub_cancel,d,m]
theorem FJ {l:List XC} {t j:Nat} {cl:List Int} (h1:fx (gn l t) (eC l t) 0= .ofNat j) (b:(eC l t)[j]? =some cl):eC l (t+1)=(eC l t).set j (cl++[.ofNat (t+1)]):=by
 show vN l (eC l t) t=_;unfold vN;rw[h1,show dy (.ofNat j) 0=false from by rw[show(0:Int)= .ofNat 0 from Z,gM];simp];show(eC l t).set j (((eC l t)[j]?).getD []++[.ofNat (t+1)])=_;rw[b];rfl
theorem BH {l:List XC} {t:Nat} (h:dy (fx (gn l t) (eC l t) 0) 0=true):eC l (t+1)=eC l t++[[.ofNat (t+1)]]:=by
 show vN l (eC l t) t=_;unfold vN;rw[h];rfl
theorem sZ {l:List XC}:∀{t:Nat},∀cl∈eC l t,cl.length<=t
 | 0,cl,h=>by cases h
 | t+1,cl,h=>by
  have ih:=sZ (l:=l) (t:=t);have h:cl∈vN l (eC l t) t:=h;unfold vN at h;cases hi:dy (fx (gn l t) (eC l t) 0) 0 with
  | true=>
   rw[hi] at h;rcases List.mem_append.1 (show cl∈eC l t++[[Int.ofNat (t+1)]] from h) with h | h
   ·have:=ih cl h;omega
   rw[List.mem_singleton.1 h];exact Nat.succ_le_succ<|Nat.zero_le _
  | false=>
   rw[hi] at h;have h:cl∈(eC l t).set (fx (gn l t) (eC l t) 0).toNat (((eC l t)[(fx (gn l t) (eC l t) 0).toNat]?).getD []++[Int.ofNat (t+1)]):=h;rcases List.mem_or_eq_of_mem_set h with h | h
   ·have:=ih cl h;omega
   rw[h,lA_];show _+1<=t+1;cases b:(eC l t)[(fx (gn l t) (eC l t) 0).toNat]? with
   | none=>exact Nat.succ_le_succ (Nat.zero_le _)
   | some x=>exact Nat.succ_le_succ (ih x<|gB_ b)
theorem Gi {b E:Nat} {x:Int}:cS 1 E cH [x] (.slice b 0 1 (.known 1)) [(b,.row [.int .i64 x] E false)]:=.inr ⟨b,.known 1,_,E,Z,Z,Z,fun i y h=>by
 cases i with
 | zero=>cases h;rfl
 | succ i=>simp at h,.inl Z,by simp⟩
theorem zq {G:Cx} (hG:Plain G) {K:KP} {k:Nat} {l:List XC} {lv:J} (hl:bG K 2 (gf K k) l lv) (bl:l.length<=4) {V:N} {L:Own} (aq:St V K L):
  aW Tryz.prog G 14 [lv] V fun v V'=>∃us F C,cS 1 28 RV us v F/\eI 1 3 cH (fe l) us C/\St V' K ((F++C)++L):=by
 refine aY hG Tryz.func14 Z (t:=PT.leaf.put (some (lv)) 0) (by rfl) ?_;refine H ?_;refine ah Z ?_;refine bJ aq Z (cG Z hl.leaf.1) (fun _=>Z) (fun V b1 aq=>?_);obtain⟨K1,I,d,aq⟩:=aq.cK (M:=[_]);have ac:dz K1 (.ptr b1 0) [lv]:=.one (d _ (.head _));clear d;replace hl:=hl.mono I fun _ _ h=>h.mono I
 refine Y Z (ak Z) Z ?_;refine af ?_;refine B ?_;refine H ?_;refine H ?_;refine ah Z ?_;refine Y Z (aN aq ac Z S Z) Z ?_;refine Y Z (aO hl Z Z Z (e:=63) S Z) Z ?_;refine Y Z (aC Z Z Z) Z ?_;refine af ?_;refine B ?_;refine aD Z (fun am=>?_) (fun am=>?_)
 ·exact absurd (aS (a:=4) am) oM
 refine aG ?_;refine B ?_;refine H ?_;refine ah Z ?_;refine Y Z (ak Z) Z ?_;refine af ?_;refine B ?_;refine H ?_;refine H ?_;refine ah Z ?_;refine Y Z (aN aq ac Z S Z) Z ?_;refine Y Z (aO hl Z Z Z (e:=63) S Z) Z ?_;refine Y Z (D Z) Z ?_;refine af ?_;refine B ?_;refine aI ?_;refine a6 [3,4,5,6,7,13,14,15,16,17,18,19,20,21,22,23,24,25,26,27,28,29,30,31,32,33,34,35,36,37,38,39,40,41] (fun j t V=>∃(i:Nat) (u:J) (us:List J) (F C:Own),(j+i=l.length/\cS 1 28 RV us u F/\eI 1 3 cH (eC l i) us C)/\t.get 3=some (u)/\t.get 13=some (.int .i64 (.ofNat i))/\St V K1 ((F++C)++L)) (l.length) ⟨0,.au,[],[],[],⟨Z,.inl ⟨Z,Z,Z⟩,.nil⟩,Z,Z,aq⟩ ?_;clear aq;intro j5 t V an W;obtain⟨i,u,us,F,C,⟨bm,hO,W⟩,ad,Q,aq⟩:=W;replace an:=an.bS Z Z;obtain⟨o3,o4,o5,o6,o7,a1,br,bs,an⟩:=an;replace an:=an.bS Z Z;obtain⟨bt,bv,bw,b0,b3,b4,b5,b6,an⟩:=an;replace an:=an.bS Z Z;obtain⟨b7,b9,ca,cb,cc,ce,cg,ch,an⟩:=an;replace an:=an.bS Z Z;obtain⟨ci,cj,ck,cn,cp,cq,cr,cv,an⟩:=an;replace an:=an.eh Z;obtain⟨cw,an⟩:=an;replace an:=an.eh Z;obtain⟨cx,an⟩:=an;obtain rfl:=an.nil;clear an;replace ad:o3=some _:=ad;subst ad;replace Q:a1=some _:=Q;subst Q;refine H ?_;refine ah Z ?_;refine Y Z (aC Z Z Z) Z ?_;refine af ?_;refine B ?_;refine H ?_;refine aD Z (fun T=>?_) (fun T=>?_)
 ·refine aG ?_;refine B ?_;refine H ?_;refine aI ?_;refine H ?_;refine ah Z ?_;refine Y Z (D Z) Z ?_;obtain⟨ai,aa,bf⟩:=cL T;refine cm (e:=63) (m:=2) hl aa Z Z S S Z Z (fun _=>Z) (fun c0 bi ao bk ab=>?_);have hr16':=ab;obtain⟨ap,rfl,av⟩:=hr16';refine Y Z (bE aq ao Z S Z) Z ?_;refine bJ aq Z (dG (cs:=[.int .i64 0,.au]) S S) (fun _=>Z) (fun V b2 aq=>?_);refine Y Z (ak Z) Z ?_;refine cF aq Z (bg Z Z Z (aq.get 0 Z) (m:=2) S Z (Nat.le_of_ble_eq_true Z) (ar Z<|ar av.leaf.2 aQ) (cells':=[_,_]) Z) Z (fun V aq=>?_);obtain⟨K2,b,d,aq⟩:=aq.cK (M:=[_]);have a2:dz K2 (.ptr b2 0) [.int .i64 ai.dT,ap]:=⟨b2,0,_,_,false,Z,d _ (.head _),Nat.le_of_ble_eq_true Z,Z⟩;clear d;have a3:gf K2 k ai [.int .i64 ai.dT,ap]:=ab.mono b;have hl2:=hl.mono b fun _ _ h=>h.mono b;have hpl2:=ac.mono b
  refine af ?_;refine B ?_;refine H ?_;refine ah Z ?_;refine Y Z (bD Z Z) Z ?_;refine Y Z (ak Z) Z ?_;refine af ?_;refine B ?_;refine H ?_;refine ah Z ?_;refine Y Z (D Z) Z ?_;refine Y Z (D Z) Z ?_;have hrl:=tN (K:=K2.ml (F++C)) W hO (fun e he=>.inr (List.mem_append_right _ he)) (fun e he=>.inr (List.mem_append_left _ he));have hle3:=KP.dX K2 (F++C)
  refine bB Z (aT Z Z Z S) (fun _=>Z) ((AZ hG (p:=gn l i) hrl aq.keeps fun x u V L hm aq hu=>by
    obtain⟨hne,h,c,hlt,h0,ax,_⟩:=(ll (l:=l) (t:=i) oM).all x hm;rw[wG h0 ax aa];exact Nx hG (hl2.mono hle3 fun _ _ h=>h.mono hle3) (hpl2.mono hle3) (a2.mono hle3) Z (a3.mono hle3) hu h0 ax aq).mono fun _ _ hh=>⟨hh.1,St.vu aq hh.2⟩) (fun V aq=>?_)
  refine Y Z (ak Z) Z ?_;refine af ?_;refine B ?_;refine H ?_;refine ah Z ?_;refine Y Z (D Z) Z ?_;refine Y Z (aC Z Z Z) Z ?_;refine af ?_;refine B ?_;refine aD Z (fun al=>?_) (fun al=>?_)
  ·refine ah Z ?_;refine Y Z (D Z) Z ?_;refine Y Z (D Z) Z ?_;refine Y Z (D Z) Z ?_;refine Y Z (D Z) Z ?_;have a4:dy (fx (gn l i) (eC l i) 0) 0=false:=bL al;obtain⟨q,cl,hq,U,_⟩:=pV a4;rw[nA_] at hq;have hul:=W.length;have hql:=(gA.1 U).1;obtain⟨bo,co,eo,rfl,rfl,a5,a9⟩:=nF hO (fun e=>by rw[e] at hul;simp at hul;omega);obtain⟨ut,Mt,A,B_,aE,bb,bd,a0⟩:=W.at U;subst bd;have hlt:=(gA.1 aE).1;replace aq:St V K2 ((bo,.row us eo false)::((A++(Mt++B_))++L)):=aq;refine Y Z (iY (e:=28) (m:=1) Z S Z (congrArg (fun z=>some (J.int .i64 z)) hq) hlt) Z ?_;refine Y Z (aw Z (aq.get 0 Z) S (by rw[eU,show 0+q*1=q from by omega];exact aE)) Z ?_;refine Y Z (D Z) Z ?_;refine Y Z (aC (v:=.int .i64 (.ofNat (i+1))) Z Z<|congrArg (fun z=>some (J.int .i64 z))<|aX oM) Z ?_;replace aq:=aq.pull (X:=Mt) (.there .yO);refine gw aq Z (bN (e:=3) (m:=1) (z:=[.int .i64 0]) (cs:=[_]) S S S S<|bA Z Z Z Z bI) (fun _=>Z) (fun V b8 aq=>?_);refine fY (R:=cH) (m:=1) (e:=3) bb aq (ej (m:=1) Z Z) cH.leaf (by have:=sZ (l:=l) (t:=i) _ (gB_ U);simp;omega) Z Z Z Z Z Z Z (fun _=>Z) (fun V u9 M9 hO9 aq=>?_);replace aq:=aq.push (X:=M9) (L:=(bo,.row us eo false)::((A++(M9++B_))++L)) (.there .yO);refine Y Z (iY (e:=28) (m:=1) Z S Z (congrArg (fun z=>some (J.int .i64 z)) hq) hlt) Z ?_;refine gj aq .here Z (kx Z Z hO9.leaf.1 (aq.get 0 Z) (m:=1) S Z oM<|ar hO9.leaf.2 Z) Z (fun V aq=>?_);rw[iK hlt] at aq;have hI2:=a0 _ _ _ hO9;rw[<-FJ hq U] at hI2;have hO2:cS 1 28 RV (us.set q u9) (.slice bo 0 us.length co) [(bo,.row (us.set q u9) eo false)]:=vr List.length_set a5 a9 hI2.NW;replace aq:=aq.weaken b;refine af ?_;refine aH ?_;refine B ?_;refine ah Z ?_;refine Y Z (aC Z Z Z) Z ?_;refine Y Z (D Z) Z ?_;refine af ?_;refine aL ⟨j5-1,(by have:=aS T;omega),(by(iterate 61 refine bc.put Z ?_);exact bc.refl _ _),i+1,_,_,_,_,⟨by omega,hO2,hI2⟩,Z,congrArg (fun z=>some (J.int .i64 z))<|aX oM,aq⟩
  refine ah Z ?_;refine Y Z (D Z) Z ?_;refine Y Z (D Z) Z ?_;refine Y Z (aC (v:=.int .i64 (.ofNat (i+1))) Z Z<|congrArg (fun z=>some (J.int .i64 z))<|aX oM) Z ?_;have hnew:=BH (a7 al);replace aq:St V K2 (F++(C++L)):=by rw[<-lQ_];exact aq
  refine gw aq Z (bN (e:=3) (m:=1) (z:=[.int .i64 0]) (cs:=[_]) S S S S<|bA Z Z Z Z bI) (fun _=>Z) (fun V E aq=>?_);have hO38:cS 1 3 cH [Int.ofNat (i+1)] (.slice E 0 1 (.known 1)) [(E,.row [.int .i64 (.ofNat (i+1))] 3 false)]:=Gi;replace aq:St V K2 (F++(((E,.row [.int .i64 (.ofNat (i+1))] 3 false)::C)++L)):=aq.perm (by exact List.perm_middle.symm);refine gw aq Z (bN (e:=28) (m:=1) (z:=[.au]) (cs:=[_]) S S S S<|bA Z Z Z Z bI) (fun _=>Z) (fun V c1 aq=>?_);refine fY (R:=RV) (m:=1) (e:=28) hO aq (ej (m:=1) Z ⟨Z,Z,Z⟩) RV.leaf (by have:=W.length;have:=(ll (l:=l) (t:=i) oM).len;simp;omega) Z Z Z Z Z Z Z (fun _=>Z) (fun V c2 be hO40 aq=>?_);have hI2:eI 1 3 cH (eC l (i+1)) (us++[.slice E 0 1 (.known 1)]) ((E,.row [.int .i64 (.ofNat (i+1))] 3 false)::C):=by rw[hnew];exact .snoc W hO38
  replace aq:St V K2 ((be++((E,.row [.int .i64 (.ofNat (i+1))] 3 false)::C))++L):=by rw[lQ_];exact aq
  replace aq:=aq.weaken b;refine Y Z (ak Z) Z ?_;refine af ?_;refine aH ?_;refine B ?_;refine ah Z ?_;refine Y Z (aC Z Z Z) Z ?_;refine Y Z (D Z) Z ?_;refine af ?_;refine aL ⟨j5-1,(by have:=aS T;omega),(by(iterate 57 refine bc.put Z ?_);exact bc.refl _ _),i+1,_,_,_,_,⟨by omega,hO40,hI2⟩,Z,congrArg (fun z=>some (J.int .i64 z))<|aX oM,aq⟩
 refine ba ?_;refine aP ?_;refine aR ?_;refine aM ?_;refine B ?_;refine H ?_;refine ah Z ?_;refine Y Z (D Z) Z ?_;refine Y Z (ak Z) Z ?_;refine af ?_;refine B ?_;refine aF ?_;exact aA Z Z ⟨us,F,C,hO,by unfold fe;rw[<-show i=l.length by have:=bC T;omega];exact W,aq.weaken I⟩
theorem H0 {i v q:Nat} {cl a:List Int} (h:cl[q]? =some (Int.ofNat v)):lL i a (cl.take (q+1))=(lL i a<|cl.take q).set v (.ofNat i):=by
 unfold lL;rw[List.take_add_one,h,List.foldl_append];rfl
theorem y9 {cl:List Int}:∀{s:List (List Int)} {i:Nat} {a:List Int},ik (s++[cl]) i a=lL (i+s.length) (ik s i a) cl
 | [],_,_=>rfl
 | c::s,i,a=>by
  show ik (s++[cl]) (i+1) (lL i a c)=lL (i+(s.length+1)) (ik s (i+1)<|lL i a c) cl;rw[y9,show i+1+s.length=i+(s.length+1) by omega]
theorem EY {s:List (List Int)} {i:Nat} {cl a:List Int} (h:s[i]? =some cl):ik (s.take (i+1)) 0 a=lL i (ik (s.take i) 0 a) cl:=by
 have hl:=(gA.1 h).1;rw[List.take_add_one,h];show ik (s.take i++[cl]) 0 a=_;rw[y9,lT_,nA_,Nat.min_eq_left oM]
theorem wq {K:KP} {l:List Int} {b e n:Nat} (hk:K b (.row (l.map gZ) e false)) (d:l.length=n) (hl:n<=1000):bG K 1 cH l (.slice b 0 n (.known n)):=by
 subst d;refine .inr ⟨b,0,.known l.length,_,e,false,Z,.inr ⟨_,Z,nR_ _⟩,hk,by simp,by omega,fun i x hx=>?_⟩;have h1:=(gA.1 hx).1;have m:(l.map gZ)[i]? =some (gZ x):=by rw[gM_,hx];rfl
 obtain⟨u,h4⟩:=gA.1 m;rw[nA_,Nat.mul_one,List.drop_eq_getElem_cons u,h4];rfl
theorem G2 {G:Cx} (hG:Plain G) {K:KP} {k:Nat} {l:List XC} {lv:J} (hl:bG K 2 (gf K k) l lv) (am:l.length<=4) {V:N} {L:Own} (aq:St V K L):
  aW Tryz.prog G 33 [lv] V fun v V'=>∃K' pl pc cv,v= .func 62 [] [pl,pc]/\KP.le K K'/\dz K' pl [lv]/\dz K' pc [cv]/\bG K' 1 cH (jy l) cv/\St V' K' L:=by
 refine aY hG Tryz.func33 Z (t:=PT.leaf.put (some (lv)) 0) (by rfl) ?_;refine H ?_;refine ah Z ?_;refine bJ aq Z (cG Z hl.leaf.1) (fun _=>Z) (fun V b1 aq=>?_);obtain⟨K1,A,b,aq⟩:=aq.cK (M:=[_]);have X:dz K1 (.ptr b1 0) [lv]:=.one (b _ (.head _));clear b;replace hl:=hl.mono A fun _ _ h=>h.mono A
 refine Y Z (ak Z) Z ?_;refine af ?_;refine B ?_;refine H ?_;refine ah Z ?_;refine Y Z (aN aq X Z S Z) Z ?_;refine Y Z (aO hl Z Z Z (e:=63) S Z) Z ?_;refine Y Z (aC (v:=.int .i64 (.ofNat (l.length+1))) Z Z<|congrArg (fun z=>some (J.int .i64 z))<|aX oM) Z ?_;refine gw aq Z (vw (e:=3) (w:=8) (z:=[gZ 0]) S S S S Z Z oM oM) (fun _=>Z) (fun V u aq=>?_);rw[xE (f:=gZ)] at aq;refine bJ aq Z (dG (cs:=[.au]) S S) (fun _=>Z) (fun V b3 aq=>?_);refine cF aq Z (bg Z Z Z (aq.get 0 Z) (m:=1) S Z (Nat.le_of_ble_eq_true Z) (ar Z aQ) (cells':=[_]) Z) Z (fun V aq=>?_);refine af ?_;refine B ?_;refine H ?_;refine H ?_;refine ah Z ?_;refine Y Z (aN aq X Z S Z) Z ?_;refine cR Z (aT Z Z Z S) (fun _=>Z) (zq hG hl am aq) ?_;rintro bk V ⟨us,O1,I1,hO,hI,aq⟩;obtain⟨K2,U,b,aq⟩:=aq.cK (M:=O1++I1);have hcs:=tN (K:=K2) hI hO (fun e he=>b e (List.mem_append_right _ he)) (fun e he=>b e (List.mem_append_left _ he));clear b;have hco:=ll (l:=l) (nR_ _);refine Y Z (aO hcs Z Z Z (e:=28) S Z) Z ?_;refine Y Z (D Z) Z ?_;refine af ?_;refine B ?_;refine aI ?_;refine a6 [4,5,7,15,16,17,18,19,20,21,22,23,24,25,26,27,28,29,30,31] (fun j t V=>∃(i:Nat),j+i=(fe l).length/\t.get 15=some (.int .i64 (.ofNat i))/\St V K2 ((b3,.row [.slice u 0 (l.length+1) (.known (l.length+1))] 28 false)::(u,.row ((ik ((fe l).take i) 0<|List.replicate (l.length+1) 0).map gZ) 3 false)::L)) ((fe l).length) ⟨0,Z,Z,aq⟩ ?_;clear aq;intro j3 t V an hI;obtain⟨i,bl,C,aq⟩:=hI;replace an:=an.bS Z Z;obtain⟨o4,o5,o7,ao,bm,bo,br,bs,an⟩:=an;replace an:=an.bS Z Z;obtain⟨bt,bv,aa,ap,av,ax,aE,a0,an⟩:=an;replace an:=an.mQ Z;obtain⟨a1,a2,a3,bw,an⟩:=an;obtain rfl:=an.nil;clear an;replace C:ao=some _:=C;subst C;refine H ?_;refine ah Z ?_;refine Y Z (aC Z Z Z) Z ?_;refine af ?_;refine B ?_;refine H ?_;refine aD Z (fun R=>?_) (fun R=>?_)
 ·refine aG ?_;refine B ?_;refine H ?_;refine aI ?_;refine H ?_;refine ah Z ?_;refine Y Z (D Z) Z ?_;obtain⟨d,E,a9⟩:=cL R;refine cm (e:=28) (m:=1) hcs E Z Z S S Z Z (fun _=>Z) (fun b0 bb ab bd ac=>?_);have hr18':=ac;obtain⟨b4,rfl,F⟩:=hr18';refine Y Z (aN aq ab Z S Z) Z ?_;refine Y Z (ak Z) Z ?_;refine Y Z (ak Z) Z ?_;refine af ?_;refine B ?_;refine H ?_;refine ah Z ?_;refine Y Z (D Z) Z ?_;refine Y Z (aO F Z Z Z (e:=3) S Z) Z ?_;replace aq:St V K2 ((b3,.row [.slice u 0 (l.length+1) (.known (l.length+1))] 28 false)::(u,.row ((lL i (ik ((fe l).take i) 0<|List.replicate (l.length+1) 0)<|d.take 0).map gZ) 3 false)::L):=aq;refine Y Z (D Z) Z ?_;refine af ?_;refine B ?_;refine aI ?_;refine a6 [7,22,23,24,25,26,27,28,29,30] (fun j t V=>∃(q:Nat),j+q=d.length/\t.get 22=some (.int .i64 (.ofNat q))/\St V K2 ((b3,.row [.slice u 0 (l.length+1) (.known (l.length+1))] 28 false)::(u,.row ((lL i (ik ((fe l).take i) 0<|List.replicate (l.length+1) 0)<|d.take q).map gZ) 3 false)::L)) (d.length) ⟨0,Z,Z,aq⟩ ?_;clear aq;intro j6 t V an hI;obtain⟨q,b5,I,aq⟩:=hI;replace an:=an.bS Z Z;obtain⟨o7,aa,ap,av,ax,aE,a0,a1,an⟩:=an;replace an:=an.eh Z;obtain⟨a2,an⟩:=an;replace an:=an.eh Z;obtain⟨a3,an⟩:=an;obtain rfl:=an.nil;clear an;replace I:aa=some _:=I;subst I;refine H ?_;refine ah Z ?_;refine Y Z (aC Z Z Z) Z ?_;refine af ?_;refine B ?_;refine H ?_;refine aD Z (fun T=>?_) (fun T=>?_)
  ·refine aG ?_;refine B ?_;refine H ?_;refine aI ?_;refine H ?_;refine ah Z ?_;obtain⟨a4,Q,be⟩:=cL T;refine cm (e:=3) (m:=1) F Q Z Z S S Z Z (fun _=>Z) (fun b6 bf ad bi ai=>?_);obtain rfl:=ai;refine Y Z (aN aq ad Z S Z) Z ?_;refine Y Z (ak Z) Z ?_;refine af ?_;refine B ?_;refine ah Z ?_;obtain⟨_,_,_,_,_,_,al⟩:=hco.all d (gB_ E);obtain⟨w,hw,a5,_⟩:=al a4 (gB_ Q);subst a5;refine Y Z (aw Z (aq.get 0 Z) S Z) Z ?_;refine Y Z (D Z) Z ?_;refine Y Z (D Z) Z ?_;refine Y Z (iY (e:=3) (m:=1) S S Z Z oM) Z ?_;refine gj aq (.there .here) Z (bg Z Z Z (aq.get 1 Z) (m:=1) S Z (by rw[lM_];rw[oZ,qb,List.length_replicate];omega) (ar Z aQ) (cells':=((lL i (ik ((fe l).take i) 0<|List.replicate (l.length+1) 0)<|d.take q).set (w+1) (.ofNat i)).map (gZ)) (fZ (f:=gZ) (v:=(.ofNat i)) (by rw[oZ,qb,List.length_replicate];omega) (by first | omega | rfl))) Z (fun V aq=>?_);refine af ?_;refine aH ?_;refine B ?_;refine ah Z ?_;refine Y Z (aC Z Z Z) Z ?_;refine Y Z (D Z) Z ?_;refine af ?_;replace aq:St V K2 ((b3,.row [.slice u 0 (l.length+1) (.known (l.length+1))] 28 false)::(u,.row ((lL i (ik ((fe l).take i) 0<|List.replicate (l.length+1) 0)<|d.take (q+1)).map gZ) 3 false)::L):=by rw[H0 Q];exact aq
   refine aL ⟨j6-1,(by have:=aS T;omega),(by(iterate 20 refine bc.put Z ?_);exact bc.refl _ _),q+1,by omega,congrArg (fun z=>some (J.int .i64 z))<|aX (by have:=F.bK;omega),aq⟩
  refine ba ?_;refine aP ?_;refine aR ?_;refine aM ?_;refine aH ?_;refine B ?_;refine ah Z ?_;refine Y Z (aC Z Z Z) Z ?_;refine Y Z (D Z) Z ?_;refine af ?_;replace aq:St V K2 ((b3,.row [.slice u 0 (l.length+1) (.known (l.length+1))] 28 false)::(u,.row ((ik ((fe l).take (i+1)) 0<|List.replicate (l.length+1) 0).map gZ) 3 false)::L):=by rw[EY E,<-tL_ (l:=d) (i:=q) (by have:=bC T;omega)];exact aq
  refine aL ⟨j3-1,(by have:=aS R;omega),(by(iterate 42 refine bc.put Z ?_);exact bc.refl _ _),i+1,by omega,congrArg (fun z=>some (J.int .i64 z))<|aX (by have:=hcs.bK;omega),aq⟩
 refine ba ?_;refine aP ?_;refine aR ?_;refine aM ?_;refine B ?_;refine H ?_;refine ah Z ?_;refine Y Z (bD Z Z) Z ?_;refine Y Z (ak Z) Z ?_;refine af ?_;refine B ?_;refine aF ?_;replace aq:St V K2 ((b3,.row [.slice u 0 (l.length+1) (.known (l.length+1))] 28 false)::(u,.row ((jy l).map gZ) 3 false)::L):=by unfold jy;rw[<-tL_ (l:=fe l) (i:=i) (by have:=bC R;omega)];exact aq
 obtain⟨K3,W,b,aq⟩:=aq.cK (M:=[_,_]) (L:=L);exact aA Z Z ⟨K3,_,_,_,Z,KP.le_trans A<|KP.le_trans U W,X.mono<|KP.le_trans U W,.one<|b _ (.head _),wq (b _ (.tail _ (.head _))) gz oM,aq⟩
theorem Lj {G:Cx} (E:Plain G) {K:KP} {l:List Int} {v:J} (h:bG K 1 cH l v) (F:l.length<=1048576) {V:N} {L:Own} (aq:St V K L):aW Tryz.prog G 34 [v] V fun u V'=>∃M,cS 1 3 cH l u M/\St V' K (M++L):=by
 have h0:=h;rcases h0 with ⟨rfl,rfl⟩ | ⟨b,off,c,cells,e,ro,rfl,_⟩
 ·refine aY E Tryz.func34 Z (t:=PT.leaf.put (some (.au)) 0) (by rfl) ?_;refine H ?_;refine ah Z ?_;refine Y Z (ak Z) Z ?_;refine af ?_;refine B ?_;refine H ?_;refine H ?_;refine ah Z ?_;refine Y Z (D Z) Z ?_;refine Y Z (aC Z Z Z) Z ?_;refine af ?_;refine B ?_;refine bj Z ?_;refine H ?_;refine ah Z ?_;refine Y Z (ak Z) Z ?_;refine af ?_;refine B ?_;refine aF ?_;refine ay (?_);exact aA Z Z ⟨[],.inl ⟨Z,Z,Z⟩,aq⟩
 refine aY E Tryz.func34 Z (t:=PT.leaf.put (some (.slice b off l.length c)) 0) (by rfl) ?_;refine H ?_;refine ah Z ?_;refine Y Z (ak Z) Z ?_;refine af ?_;refine B ?_;refine H ?_;refine H ?_;refine ah Z ?_;refine Y Z (D Z) Z ?_;refine Y Z (aC Z Z Z) Z ?_;refine af ?_;refine B ?_;refine bz Z ?_;refine aG ?_;refine B ?_;refine H ?_;refine ah Z ?_;refine gw aq Z (bN (e:=3) (m:=1) (z:=[.int .i64 0]) (cs:=[]) S S S S bI) (fun _=>Z) (fun V Q aq=>?_);replace aq:St V _ ([(Q,.row [] 3 false)]++_):=aq;refine Y Z (D Z) Z ?_;refine wR (R:=cH) (m:=1) (e:=3) aq h cH.leaf F (by simp) (by decide) (.inl Z) Z Z Z Z Z S S S Z Z (fun _=>Z) (fun V I T news e2 aq d A C=>?_);refine Y Z (ak Z) Z ?_;refine af ?_;refine B ?_;refine aF ?_;exact aA Z Z ⟨[(I,.row ([]++news) e2 false)],.inr ⟨I,T,news,e2,by rw[nA_],Z,d,A,by simpa using C,F⟩,aq⟩
theorem Im {G:Cx} (E:Plain G) {K:KP} {l:List Int} {v:J} (h:bG K 1 cH l v) (F:l.length<=1048576) {V:N} {L:Own} (aq:St V K L):aW Tryz.prog G 70 [v] V fun u V'=>∃M,cS 1 2 cH l u M/\St V' K (M++L):=by
 have h0:=h;rcases h0 with ⟨rfl,rfl⟩ | ⟨b,off,c,cells,e,ro,rfl,_⟩
 ·refine aY E Tryz.func70 Z (t:=PT.leaf.put (some (.au)) 0) (by rfl) ?_;refine H ?_;refine ah Z ?_;refine Y Z (ak Z) Z ?_;refine af ?_;refine B ?_;refine H ?_;refine H ?_;refine ah Z ?_;refine Y Z (D Z) Z ?_;refine Y Z (aC Z Z Z) Z ?_;refine af ?_;refine B ?_;refine bj Z ?_;refine H ?_;refine ah Z ?_;refine Y Z (ak Z) Z ?_;refine af ?_;refine B ?_;refine aF ?_;refine ay (?_);exact aA Z Z ⟨[],.inl ⟨Z,Z,Z⟩,aq⟩
 refine aY E Tryz.func70 Z (t:=PT.leaf.put (some (.slice b off l.length c)) 0) (by rfl) ?_;refine H ?_;refine ah Z ?_;refine Y Z (ak Z) Z ?_;refine af ?_;refine B ?_;refine H ?_;refine H ?_;refine ah Z ?_;refine Y Z (D Z) Z ?_;refine Y Z (aC Z Z Z) Z ?_;refine af ?_;refine B ?_;refine bz Z ?_;refine aG ?_;refine B ?_;refine H ?_;refine ah Z ?_;refine gw aq Z (bN (e:=2) (m:=1) (z:=[.int .i64 0]) (cs:=[]) S S S S bI) (fun _=>Z) (fun V Q aq=>?_);replace aq:St V _ ([(Q,.row [] 2 false)]++_):=aq;refine Y Z (D Z) Z ?_;refine wR (R:=cH) (m:=1) (e:=2) aq h cH.leaf F (by simp) (by decide) (.inl Z) Z Z Z Z Z S S S Z Z (fun _=>Z) (fun V I T news e2 aq d A C=>?_);refine Y Z (ak Z) Z ?_;refine af ?_;refine B ?_;refine aF ?_;exact aA Z Z ⟨[(I,.row ([]++news) e2 false)],.inr ⟨I,T,news,e2,by rw[nA_],Z,d,A,by simpa using C,F⟩,aq⟩
theorem Lh {G:Cx} (E:Plain G) {K:KP} {l:List cU} {v:J} (h:bG K 5 nX l v) (F:l.length<=1048576) {V:N} {L:Own} (aq:St V K L):aW Tryz.prog G 71 [v] V fun u V'=>∃M,cS 5 92 nX l u M/\St V' K (M++L):=by
 have h0:=h;rcases h0 with ⟨rfl,rfl⟩ | ⟨b,off,c,cells,e,ro,rfl,_⟩
 ·refine aY E Tryz.func71 Z (t:=PT.leaf.put (some (.au)) 0) (by rfl) ?_;refine H ?_;refine ah Z ?_;refine Y Z (ak Z) Z ?_;refine af ?_;refine B ?_;refine H ?_;refine H ?_;refine ah Z ?_;refine Y Z (D Z) Z ?_;refine Y Z (aC Z Z Z) Z ?_;refine af ?_;refine B ?_;refine bj Z ?_;refine H ?_;refine ah Z ?_;refine Y Z (ak Z) Z ?_;refine af ?_;refine B ?_;refine aF ?_;refine ay (?_);exact aA Z Z ⟨[],.inl ⟨Z,Z,Z⟩,aq⟩
 refine aY E Tryz.func71 Z (t:=PT.leaf.put (some (.slice b off l.length c)) 0) (by rfl) ?_;refine H ?_;refine ah Z ?_;refine Y Z (ak Z) Z ?_;refine af ?_;refine B ?_;refine H ?_;refine H ?_;refine ah Z ?_;refine Y Z (D Z) Z ?_;refine Y Z (aC Z Z Z) Z ?_;refine af ?_;refine B ?_;refine bz Z ?_;refine aG ?_;refine B ?_;refine H ?_;refine ah Z ?_;refine gw aq Z (bN (e:=92) (m:=5) (z:=[.int .i64 0,.int .i64 0,.int .i64 0,.int .i64 0,.int .i64 0]) (cs:=[]) S S S S bI) (fun _=>Z) (fun V Q aq=>?_);replace aq:St V _ ([(Q,.row [] 92 false)]++_):=aq;refine Y Z (D Z) Z ?_;refine wR (R:=nX) (m:=5) (e:=92) aq h nX.leaf F (by simp) (by decide) (.inl Z) Z Z Z Z Z S S S Z Z (fun _=>Z) (fun V I T news e2 aq d A C=>?_);refine Y Z (ak Z) Z ?_;refine af ?_;refine B ?_;refine aF ?_;exact aA Z Z ⟨[(I,.row ([]++news) e2 false)],.inr ⟨I,T,news,e2,by rw[nA_],Z,d,A,by simpa using C,F⟩,aq⟩
theorem HX {α:Type} (O_ I N_ R:List α) (e a c x b:α):(e::((a::c::((O_++I)++(x::b::R)))++N_)).Perm (e::(O_++(a::c::((N_++I)++(x::b::R))))):=by
 classical
 rw[List.perm_iff_count];intro y;simp only[List.count_append,List.count_cons];omega
theorem ET {α:Type} (O_ I M L:List α) (a c x b:α):(a::(O_++(c::(I++(x::b::(M++L)))))).Perm (M++x::a::b::c::((O_++I)++L)):=by
 classical
 rw[List.perm_iff_count];intro y;simp only[List.count_append,List.count_cons];omega
def PU (bl bm bv:Nat) (lo:cu) (L:Own) (acc:List (List Int)) (L':Own):Prop:=
 ∃us u O1 I1,cS 1 28 RV us u O1/\eI 1 3 cH acc us I1/\L'=(bl,lo)::(bm,.mark)::(bv,.row [u] 34 false)::((O1++I1)++L)
theorem Nw {G:Cx} (T:Plain G) {K:KP} {k:Nat} {l:List XC} {lv:J} (hl:bG K 2 (gf K k) l lv) (E:l.length<=4) {V:N} {L:Own} (aq:St V K L):
  aW Tryz.prog G 9 [lv] V fun v V'=>∃K' u,v= .tuple [u,.int .i64 0]/\KP.le K K'/\bG K' 1 (RL K' 1 cH) (gV l<|jy l) u/\St V' K' L:=by
 refine vY T Tryz.func9 Z (t:=PT.leaf.put (some lv) 0) (by rfl) ?_;refine gL<|jL ?_;refine ah Z ?_;refine Y Z (ak Z) Z ?_;refine Y Z (ak Z) Z ?_;refine af ?_;refine ep ?_;refine gL<|jL ?_;refine H ?_;refine ah Z ?_;refine Y Z (D Z) Z ?_;refine Y Z (aO hl Z Z Z (e:=63) S Z) Z ?_;refine Y Z (aC Z Z Z) Z ?_;refine af ?_;refine B ?_;refine aD Z (fun h8=>absurd (aS (a:=4) h8) oM) (fun h8=>?_);refine aG ?_;refine ep ?_;refine gL<|jL ?_;refine ah Z ?_;refine bJ aq Z (dG (cs:=[.au]) S S) (fun _=>Z) (fun V b1 aq=>?_);refine af ?_;refine ep ?_;refine gL<|gL<|jL ?_;refine ah Z ?_;refine Y Z (D Z) Z ?_;refine cR Z (aT Z Z Z S) (fun _=>Z) (G2 T hl E aq) ?_;rintro _ V ⟨K1,pl,pc,cv,rfl,d,W,aa,ab,aq⟩;refine af ?_;refine ep ?_;refine yG<|vX aq Z S fun bm bl V aq=>?_;refine(Lq T (hl.mono d fun _ _ h=>h.mono d) E ab gz W aa (I:=PU bl bm b1 _ L) (fun K' M acc p b2 L' V hle C hb hp _ aq=>?_) ⟨[],.au,[],[],.inl ⟨Z,Z,Z⟩,.nil,Z⟩ aq).mono fun _ V ⟨L',⟨us,u,O1,U,hO,C,hL⟩,aq⟩=>?_
 ·obtain⟨us,u,O1,U,hO,C,rfl⟩:=C;replace aq:=aq.perm (wZ M (O1++U) L _ _ _ _);refine yH aq Z ?_;refine ah Z ?_;refine Y Z (ak Z) Z ?_;refine af ?_;refine⟨Z,_,aq,fun V aq=>?_⟩;refine aI ?_;refine aU (l:=[(0,[]),(1,[]),(2,[0]),(3,[]),(4,[]),(5,[])]) S S ?_;refine aj Z Z (aw Z (aq.get 1 Z) S Z) Z ?_;refine aj Z Z (D Z) Z ?_;obtain⟨X,aq,hX⟩:=aq.named
  have hz:bG (K'.ml X) 1 cH p (.slice b2 0 l.length (.known l.length)):=by
   rw[<-hX];exact wq (b:=b2) (e:=3) (.inr (.tail _ (.tail _<|List.mem_append_right _ (.head _)))) hp oM
  rw[<-List.append_nil X] at aq;refine eW Z Z (aT Z Z Z S) (fun _=>Z) (Lj T hz oM aq.keeps) ?_;rintro ac V ⟨ad,hM14,F⟩;replace aq:=aq.sG F;rw[List.append_nil] at aq;subst hX;refine⟨aZ (bh Z Z Z Z Z (aw Z (aq.get 1 Z) S Z) (hO.rD (K:=fun _ _=>False)).dL) aV,?_⟩;refine lJ aq Z Z (bN (e:=28) (m:=1) (z:=[.au]) (cs:=[_]) S S S S<|bA Z Z hM14.leaf.1 Z bI) (fun _=>Z) (fun V al aq=>?_);replace aq:=aq.perm (HX ..);refine lI (R:=RV) (m:=1) (e:=28) hO aq (ej (m:=1) Z ⟨Z,hM14.leaf⟩) RV.leaf (by have:=C.length;simp;omega) Z Z Z Z Z Z Z Z (fun _=>Z) (fun V u16 ai hO16 aq=>?_);refine⟨aV,?_⟩;refine jP aq (.gX (.there .here)) Z Z (bg Z Z hO16.leaf.1 (aq.bX.get 1 Z) (m:=1) S Z (Nat.le_of_ble_eq_true Z) (ar hO16.leaf.2 aQ) (cells':=[_]) Z) Z (fun V aq=>?_);refine⟨aV,?_⟩;refine a8 ?_;refine aH ?_;exact⟨Z,_,aq.perm List.perm_middle,fun V aq=>⟨Z,_,⟨us++[ac],u16,ai,ad++U,hO16,.snoc C hM14,Z⟩,aq.perm<|ET ..⟩⟩
 subst hL;refine⟨K1,_,aq,fun V aq=>⟨Z,ep<|jL ?_⟩⟩;refine H ?_;refine ah Z ?_;refine Y Z (aw Z (aq.get 1 Z) S Z) Z ?_;refine Y Z (ak Z) Z ?_;refine Y Z (ak Z) Z ?_;refine af ?_;refine B ?_;refine aF ?_;refine yF (bm:=bm) aq fun V aq=>⟨_,eA Z Z Z,?_⟩
 obtain⟨K2,Q,A,aq⟩:=aq.pop.cK (M:=O1++U);exact⟨K2,u,Z,KP.le_trans d Q,tN C hO (fun e he=>A e (List.mem_append_right _ he)) (fun e he=>A e (List.mem_append_left _ he)),aq⟩
end Go.Ev
namespace Go.Ev
variable [Env]
structure Iw (g g':XG) (θ:Nat->Nat):Prop where
 lt:∀i,i<nV g->θ i<nV g'
 inj:∀i j,i<nV g->j<nV g->θ i=θ j->i=j
 ev:∀i,i<nV g->ta g' (θ i)=ta g i
 po:∀i j,i<nV g->j<nV g->Qw g' (θ i) (θ j)=Qw g i j
 from_:∀i,i<nV g->dR (ta g i)=true->∃f,f<nV g/\rY g i= .ofNat f/\rY g' (θ i)= .ofNat (θ f)
 place:∀i,i<nV g->AB g' (θ i)=AB g i
section
variable {g g':XG} {θ:Nat->Nat} (h:Iw g g' θ)
include h
theorem Iw.eq (i j:Nat) (hi:i<nV g) (hj:j<nV g):bM (.ofNat (θ i)) (.ofNat (θ j))=bM (.ofNat i) (.ofNat j):=by
 rw[dv,dv,Bool.eq_iff_iff,decide_eq_true_iff,decide_eq_true_iff];constructor
 ·intro e;rw[h.inj i j hi hj<|iJ_ e]
 intro e;rw[iJ_ e]
theorem Iw.NT (i:Nat) (hi:i<nV g) (b:dR (ta g i)=true):(rY g i).toNat<nV g/\(rY g' (θ i)).toNat=θ (rY g i).toNat:=by
 obtain⟨f,h1,d,m⟩:=h.from_ i hi b;rw[d,m];exact⟨h1,Z⟩
theorem Iw.co (i j:Nat) (hi:i<nV g) (hj:j<nV g):Q5 g' (θ i) (θ j)=Q5 g i j:=by
 unfold Q5;rw[h.ev i hi,h.ev j hj,h.place i hi,h.place j hj]
theorem Iw.fr (i j:Nat) (hi:i<nV g) (hj:j<nV g):RK g' (θ i) (θ j)=RK g i j:=by
 unfold RK;rw[h.eq i j hi hj,h.ev i hi];cases b:dR (ta g i) with
 | false=>rfl
 | true=>
  obtain⟨h1,d⟩:=h.NT i hi b;rw[d,h.co _ _ h1 hj]
theorem Iw.tc {R R':Rn} (b:∀i j,i<nV g->j<nV g->R i j=true->R' (θ i) (θ j)=true) {i j:Nat} (d:Tc (nV g) R i j):Tc (nV g') R' (θ i) (θ j):=by
 induction d with
 | one hi hj m=>exact .one (h.lt _ hi) (h.lt _ hj) (b _ _ hi hj m)
 | step _ _ h1 u=>exact .step h1 u
theorem Iw.IB {R R':Rn} (b:∀i j,i<nV g->j<nV g->R i j=true->R' (θ i) (θ j)=true) (i j:Nat) (d:Go.Ev.IB (nV g) R i j=true):Go.Ev.IB (nV g') R' (θ i) (θ j)=true:=GS.2 (h.tc b<|GS.1 d)
theorem Iw.sq {w k:Nat} (hw:w<nV g) (d:Sq g w k):k<nV g/\Sq g' (θ w) (θ k):=by
 induction d with
 | base=>exact⟨hw,.base⟩
 | step hi hk hf _ ih=>
  refine⟨hi,.step (h.lt _ hi) (by rw[h.ev _ hi];exact hk) (f:=θ _) ?_ ih.2⟩;obtain⟨f,h1,b,m⟩:=h.from_ _ hi (Cj hk);rw[hf] at b;rw[m,iJ_ b]
theorem Iw.sw (i j:Nat) (F:QU g i j=true):QU g' (θ i) (θ j)=true:=by
 obtain⟨w,b,hw,hb,hi,hj,u,d,A,C⟩:=GO.1 F;refine GO.2 ⟨θ w,θ b,h.lt w hw,h.lt b hb,h.lt i hi,h.lt j hj,?_,?_,?_,?_⟩
 ·unfold I7 at u⊢;rw[h.ev w hw];exact u
 ·unfold I5 at d⊢;rw[h.ev b hb];cases m:dR (ta g b) with
  | false=>rw[m] at d;cases d
  | true=>
   rw[m] at d;cases E:bM (ta g b).order 1 with
   | true=>rw[E] at d;cases d
   | false=>
    rw[E] at d;obtain⟨h1,G⟩:=h.NT b hb m;show Ng g' (θ w) (rY g' (θ b)).toNat=true;rw[G];exact C1.2 (h.sq hw<|C1.1 d).2
 ·unfold I6 QC at A⊢;rw[h.ev i hi,h.eq i w hi hw,h.po i w hi hw];exact A
 unfold I4 PZ at C⊢;rw[h.ev j hj,h.eq j b hj hb,h.po b j hb hj];exact C
theorem Iw.or {A A' B_ B':Rn} (d:∀i j,i<nV g->j<nV g->A i j=true->A' (θ i) (θ j)=true) (m:∀i j,i<nV g->j<nV g->B_ i j=true->B' (θ i) (θ j)=true) (i j:Nat) (hi:i<nV g) (hj:j<nV g) (b:Rf [A,B_] i j=true):Rf [A',B'] (θ i) (θ j)=true:=by
 unfold Rf at b⊢;simp only[List.any_cons,List.any_nil,Bool.or_false,Bool.or_eq_true] at b⊢;rcases b with h1 | h1
 ·exact .inl<|d i j hi hj h1
 exact .inr<|m i j hi hj h1
theorem Iw.round {R R':Rn} (b:∀i j,i<nV g->j<nV g->R i j=true->R' (θ i) (θ j)=true) (hb:cC (dy (E5 (nV g) R) 0)=true):cC (dy (E5 (nV g') R') 0)=true:=by
 unfold E5 at hb⊢;rw[Cb] at hb⊢;have hb:(List.range<|nV g).any (fun i=>Go.Ev.IB (nV g) R i i)=true:=by revert hb;cases (List.range<|nV g).any (fun i=>Go.Ev.IB (nV g) R i i)<;>simp[cC]
 have:(List.range<|nV g').any (fun i=>Go.Ev.IB (nV g') R' i i)=true:=by
  obtain⟨i,hi,d⟩:=List.any_eq_true.1 hb;exact List.any_eq_true.2 ⟨θ i,List.mem_range.2<|h.lt i<|List.mem_range.1 hi,h.IB b i i d⟩
 rw[this];rfl
theorem Iw.hb (i j:Nat) (_:i<nV g) (_:j<nV g) (b:RN g i j=true):RN g' (θ i) (θ j)=true:=by
 unfold RN at b⊢;exact h.IB (h.or (fun i j hi hj b=>by rw[h.po i j hi hj];exact b) fun i j _ _ b=>h.sw i j b) i j b
end
section
variable {p q:Nat->Nat} {g:XG}
end
end Go.Ev
namespace Go.Ev
variable [Env]
open Go.Proofs
set_option maxRecDepth 4000
set_option maxHeartbeats 8000000
theorem Ll {G:Cx} (M:Plain G) {K:KP} {l:List Int} {v:J} (h:bG K 1 cH l v) (x:Int) {V:N} {L:Own} (aq:St V K L):
  aW Tryz.prog G 68 [v,.int .i64 x] V fun u V'=>u= .int .i64 (fx (fun y=>bM x y) l 0)/\St V' K L:=by
 refine aY M Tryz.func68 Z (t:=(PT.leaf.put (some (v)) 0).put (some (.int .i64 x)) 1) (by rfl) ?_;refine H ?_;refine ah Z ?_;refine Y Z (ak Z) Z ?_;refine af ?_;refine B ?_;refine H ?_;refine H ?_;refine ah Z ?_;refine Y Z (D Z) Z ?_;refine Y Z (aO h Z Z Z (e:=3) S Z) Z ?_;refine Y Z (D Z) Z ?_;refine af ?_;refine B ?_;refine aI ?_;obtain⟨LL1,aq,hLL1⟩:=aq.named;refine a6 [4,5,8,9,10,11,12,13,14,15,16,17,18] (fun j t V=>∃(i:Nat),j+i=l.length/\fx (fun y=>bM x y) l 0=fx (fun y=>bM x y) (l.drop i) i/\t.get 8=some (.int .i64 (.ofNat i))/\St V K LL1) (l.length) ⟨0,Z,Z,Z,aq⟩ ?_;clear aq;intro Q t V an R;obtain⟨i,hj,he,d,aq⟩:=R;subst hLL1;replace an:=an.bS Z Z;obtain⟨o4,o5,T,o9,ad,ai,al,am,an⟩:=an;replace an:=an.mQ Z;obtain⟨ao,ap,av,ax,an⟩:=an;replace an:=an.eh Z;obtain⟨aE,an⟩:=an;obtain rfl:=an.nil;clear an;replace d:T=some _:=d;subst d;refine H ?_;refine ah Z ?_;refine Y Z (aC Z Z Z) Z ?_;refine af ?_;refine B ?_;refine H ?_;refine aD Z (fun I=>?_) (fun I=>?_)
 ·refine aG ?_;refine B ?_;refine H ?_;refine aI ?_;refine H ?_;refine ah Z ?_;refine Y Z (D Z) Z ?_;refine Y Z (ak Z) Z ?_;refine af ?_;refine B ?_;refine H ?_;refine ah Z ?_;refine Y Z (D Z) Z ?_;refine Y Z (D Z) Z ?_;refine Y Z (D Z) Z ?_;obtain⟨C,b,aa⟩:=cL I;refine cm (e:=3) (m:=1) h b Z Z S S Z Z (fun _=>Z) (fun a0 ab E ac F=>?_);obtain rfl:=F;refine Y Z (aN aq E Z S Z) Z ?_;refine Y Z (aC Z Z Z) Z ?_;refine af ?_;refine B ?_;refine aD Z (fun A=>?_) (fun A=>?_)
  ·refine H ?_;refine ah Z ?_;refine Y Z (D Z) Z ?_;refine Y Z (ak Z) Z ?_;refine af ?_;refine B ?_;refine aF ?_;refine aK<|ay<|bq<|aK<|ay (?_);exact aA Z Z ⟨congrArg (J.int .i64) (by symm;rw[he,cz b];show(bif bM x C then _ else _)=_;rw[A];rfl),aq⟩
  refine aG ?_;refine aH ?_;refine B ?_;refine ah Z ?_;refine Y Z (aC Z Z Z) Z ?_;refine Y Z (D Z) Z ?_;refine af ?_;refine aL ⟨Q-1,by omega,(by(iterate 24 refine bc.put Z ?_);exact bc.refl _ _),i+1,by omega,by rw[he,cz b];show(bif bM x C then _ else _)=_;rw[A];rfl,congrArg (fun z=>some (J.int .i64 z))<|aX (by have:=h.bK;omega),aq⟩
 refine ba ?_;refine aP ?_;refine aR ?_;refine aM ?_;refine B ?_;refine H ?_;refine ah Z ?_;refine Y Z (ak Z) Z ?_;refine af ?_;refine B ?_;refine aF ?_;exact aA Z Z ⟨congrArg (J.int .i64) (by symm;rw[he,ff<|bC I];rfl),aq⟩
theorem De {G:Cx} (b:Plain G) {K:KP} {l:List Int} {v:J} (h:bG K 1 cH l v) (x:Int) {V:N} {L:Own} (aq:St V K L):
  aW Tryz.prog G 37 [v,.int .i64 x] V fun u V'=>u= .bool (l.any fun y=>bM x y)/\St V' K L:=by
 refine aY b Tryz.func37 Z (t:=(PT.leaf.put (some (v)) 0).put (some (.int .i64 x)) 1) (by rfl) ?_;refine H ?_;refine ah Z ?_;refine Y Z (ak Z) Z ?_;refine af ?_;refine B ?_;refine H ?_;refine ah Z ?_;refine Y Z (D Z) Z ?_;refine Y Z (D Z) Z ?_;refine bB Z (aT Z Z Z S) (fun _=>Z) (Ll b h x aq) (fun V aq=>?_);refine Y Z (aC Z Z Z) Z ?_;refine Y Z (ak Z) Z ?_;refine af ?_;refine B ?_;refine aF ?_;exact aA Z Z ⟨congrArg J.bool<|wx _ _,aq⟩
theorem fG {α:Type} {l:List α} {i:Nat} {x:α} (h:l[i]? =some x):l.take (i+1)=l.take i++[x]:=by rw[List.take_add_one,h];rfl
def lR (ps:List Int) (id:cQ):cQ:=bif dy 0 id.cq then⟨(ps[id.cq.toNat-1]?).getD 0,id.index⟩ else id
def Ol (n:Nat) (id:cQ):Prop:=dy 0 id.cq=true->∃t:Nat,id.cq= .ofNat (t+1)/\t<n
theorem G1 {G:Cx} (hG:Plain G) {K:KP} {ps:List Int} {pv pp:J} (hp:bG K 1 cH ps pv) (ad:dz K pp [pv]) {l:List cQ} {v:J} (h:bG K 2 kz l v) (ai:∀x∈l,Ol ps.length x) (a2:l.length<=1000) {V:N} {L:Own} (aq:St V K L):
  aW Tryz.prog G 69 [v,pp] V fun u V'=>∃M,cS 2 59 kz (l.map<|lR ps) u M/\St V' K (M++L):=by
 refine aY hG Tryz.func69 Z (t:=(PT.leaf.put (some (v)) 0).put (some (pp)) 1) (by rfl) ?_;refine H ?_;refine ah Z ?_;refine Y Z (ak Z) Z ?_;refine af ?_;refine B ?_;refine H ?_;refine ah Z ?_;refine Y Z (ak Z) Z ?_;refine af ?_;refine B ?_;refine H ?_;refine H ?_;refine ah Z ?_;refine Y Z (D Z) Z ?_;refine Y Z (aO h Z Z Z (e:=59) S Z) Z ?_;refine Y Z (D Z) Z ?_;refine af ?_;refine B ?_;refine aI ?_;refine a6 [4,6,9,10,11,12,13,14,15,16,17,18,19,20,21,22,23,24,25,26,27] (fun j t V=>∃(i:Nat) (u:J) (M:Own),(j+i=l.length/\cS 2 59 kz ((l.take i).map<|lR ps) u M)/\t.get 4=some (u)/\t.get 9=some (.int .i64 (.ofNat i))/\St V K (M++L)) (l.length) ⟨0,.au,[],⟨Z,.inl ⟨Z,Z,Z⟩⟩,Z,Z,aq⟩ ?_;clear aq;intro j3 t V an hI;obtain⟨i,u,M,⟨a3,hO⟩,I,Q,aq⟩:=hI;replace an:=an.bS Z Z;obtain⟨o4,o6,o9,a4,a5,a9,bb,bd,an⟩:=an;replace an:=an.bS Z Z;obtain⟨be,bf,bi,bk,bl,bm,bo,br,an⟩:=an;replace an:=an.mQ Z;obtain⟨bs,bt,bv,bw,an⟩:=an;replace an:=an.eh Z;obtain⟨b0,an⟩:=an;obtain rfl:=an.nil;clear an;replace I:o4=some _:=I;subst I;replace Q:o9=some _:=Q;subst Q;refine H ?_;refine ah Z ?_;refine Y Z (aC Z Z Z) Z ?_;refine af ?_;refine B ?_;refine H ?_;refine aD Z (fun A=>?_) (fun A=>?_)
 ·refine aG ?_;refine B ?_;refine H ?_;refine aI ?_;refine H ?_;refine ah Z ?_;obtain⟨b,d,av⟩:=cL A;refine cm (e:=59) (m:=2) h d Z Z S S Z Z (fun _=>Z) (fun b2 ax X aE aa=>?_);obtain rfl:=aa;refine Y Z (bE aq X Z S Z) Z ?_;refine bJ aq Z (dG (cs:=[.int .i64 0,.int .i64 0]) S S) (fun _=>Z) (fun V b1 aq=>?_);refine cF aq Z (bg Z Z Z (aq.get 0 Z) (m:=2) S Z (Nat.le_of_ble_eq_true Z) (ar Z<|ar Z aQ) (cells':=[_,_]) Z) Z (fun V aq=>?_);refine af ?_;refine B ?_;refine H ?_;refine H ?_;refine ah Z ?_;refine Y Z (az Z (k:=0) S) Z ?_;refine Y Z (aw Z (aq.get 0 Z) S Z) Z ?_;refine Y Z (aC Z Z Z) Z ?_;refine af ?_;refine B ?_;refine aD Z (fun C=>?_) (fun C=>?_)
  ·refine ah Z ?_;refine Y Z (aN aq ad Z S Z) Z ?_;refine Y Z (az Z (k:=0) S) Z ?_;refine Y Z (aw Z (aq.get 0 Z) S Z) Z ?_;obtain⟨T,E,U⟩:=ai _ (gB_ d) C;obtain⟨al,F⟩:=bZ U;refine Y Z (aC (v:=.int .i64 (.ofNat T)) Z Z (by rw[E];exact congrArg (fun z=>some (J.int .i64 z))<|fP (by have:=hp.bK;omega))) Z ?_;refine cm (e:=3) (m:=1) hp F Z Z S S Z Z (fun _=>Z) (fun b3 a0 ab a1 ac=>?_);obtain rfl:=ac;refine Y Z (aN aq ab Z S Z) Z ?_;refine Y Z (az Z (k:=0) S) Z ?_;refine cF aq Z (bg Z Z Z (aq.get 0 Z) (m:=1) S Z (Nat.le_of_ble_eq_true Z) (ar Z aQ) (cells':=[_,_]) Z) Z (fun V aq=>?_);refine af ?_;refine B ?_;refine ah Z ?_;refine Y Z (D Z) Z ?_;refine Y Z (bp Z (aq.get 0 Z) (n:=2) (vs:=[_,_]) S (Nat.le_of_ble_eq_true Z) Z) Z ?_;refine gw aq Z (bN (e:=59) (m:=2) (z:=[.int .i64 0,.int .i64 0]) (cs:=[_,_]) S S S S<|bA Z Z Z Z bI) (fun _=>Z) (fun V am aq=>?_);replace aq:=aq.perm (List.Perm.cons _ (List.perm_middle.symm));have W:lR ps b=⟨al,b.index⟩:=by unfold lR;rw[show dy 0 b.cq=true from C];simp only[cond_true];rw[E,show(Int.ofNat (T+1)).toNat-1=T from Z,F];rfl
   refine fY (R:=kz) (m:=2) (e:=59) hO aq (ej (m:=2) Z (show kz (lR ps b) _ from by rw[W];rfl)) kz.leaf (by rw[lM_,lT_];simp;omega) Z Z Z Z Z Z Z (fun _=>Z) (fun V ao ap hO26 aq=>?_);replace aq:=aq.perm List.perm_middle;replace aq:=aq.pop;refine Y Z (ak Z) Z ?_;refine af ?_;refine aH ?_;refine B ?_;refine ah Z ?_;refine Y Z (aC Z Z Z) Z ?_;refine Y Z (D Z) Z ?_;refine af ?_;refine aL ⟨j3-1,(by have:=aS A;omega),(by(iterate 42 refine bc.put Z ?_);exact bc.refl _ _),i+1,_,_,⟨by omega,by rw[fG d,List.map_append];exact hO26⟩,Z,congrArg (fun z=>some (J.int .i64 z))<|aX (by have:=h.bK;omega),aq⟩
  refine aG ?_;refine B ?_;refine ah Z ?_;refine Y Z (D Z) Z ?_;refine Y Z (bp Z (aq.get 0 Z) (n:=2) (vs:=[_,_]) S (Nat.le_of_ble_eq_true Z) Z) Z ?_;refine gw aq Z (bN (e:=59) (m:=2) (z:=[.int .i64 0,.int .i64 0]) (cs:=[_,_]) S S S S<|bA Z Z Z Z bI) (fun _=>Z) (fun V am aq=>?_);replace aq:=aq.perm (List.Perm.cons _ (List.perm_middle.symm));have W:lR ps b=⟨b.cq,b.index⟩:=by unfold lR;rw[show dy 0 b.cq=false from C];rfl
  refine fY (R:=kz) (m:=2) (e:=59) hO aq (ej (m:=2) Z (show kz (lR ps b) _ from by rw[W];rfl)) kz.leaf (by rw[lM_,lT_];simp;omega) Z Z Z Z Z Z Z (fun _=>Z) (fun V ao ap hO26 aq=>?_);replace aq:=aq.perm List.perm_middle;replace aq:=aq.pop;refine Y Z (ak Z) Z ?_;refine af ?_;refine aH ?_;refine B ?_;refine ah Z ?_;refine Y Z (aC Z Z Z) Z ?_;refine Y Z (D Z) Z ?_;refine af ?_;refine aL ⟨j3-1,(by have:=aS A;omega),(by(iterate 35 refine bc.put Z ?_);exact bc.refl _ _),i+1,_,_,⟨by omega,by rw[fG d,List.map_append];exact hO26⟩,Z,congrArg (fun z=>some (J.int .i64 z))<|aX (by have:=h.bK;omega),aq⟩
 refine ba ?_;refine aP ?_;refine aR ?_;refine aM ?_;refine B ?_;refine H ?_;refine ah Z ?_;refine Y Z (D Z) Z ?_;refine Y Z (ak Z) Z ?_;refine af ?_;refine B ?_;refine aF ?_;exact aA Z Z ⟨M,by rw[<-tL_ (l:=l) (i:=i) (by have:=bC A;omega)];exact hO,aq⟩
section
variable {α:Type} {m:Nat} {R:α->List J->Prop} {rs:List (List α)} {us:List J} {K K':KP}
def Rows (K:KP) (m:Nat) (R:α->List J->Prop) (rs:List (List α)) (us:List J):Prop:=us.length=rs.length/\∀(i:Nat) (r:List α),rs[i]? =some r->∃u,us[i]? =some u/\bG K m R r u
theorem Rows.mono (h:Rows K m R rs us) (hk:KP.le K K'):Rows K' m R rs us:=⟨h.1,fun i r b=>by obtain⟨u,h1,d⟩:=h.2 i r b;exact⟨u,h1,d.mono hk fun _ _ h=>h⟩⟩
theorem Rows.Qq {n:Nat}:Rows K m R (List.replicate n []) (List.replicate n .au):=⟨by simp,fun i r b=>by
 have h1:=(gA.1 b).1;rw[List.length_replicate] at h1;rw[List.getElem?_replicate,if_pos h1] at b;cases b;exact⟨.au,by rw[List.getElem?_replicate,if_pos h1],.inl ⟨Z,Z⟩⟩⟩
theorem Rows.set (h:Rows K m R rs us) {i:Nat} {r:List α} {u:J} (d:bG K m R r u):Rows K m R (rs.set i r) (us.set i u):=⟨by rw[List.length_set,List.length_set];exact h.1,fun j r' b=>by
 by_cases e:i=j
 ·subst e;have h1:=(gA.1 b).1;rw[List.length_set] at h1;rw[List.getElem?_set_self h1] at b;cases b;exact⟨u,List.getElem?_set_self (by rw[h.1];exact h1),d⟩
 rw[List.getElem?_set_ne e] at b⊢;exact h.2 j r' b⟩
theorem Rows.snoc (h:Rows K m R rs us) {r:List α} {u:J} (A:bG K m R r u):Rows K m R (rs++[r]) (us++[u]):=⟨by rw[lA_,lA_,h.1];rfl,fun j r' b=>by
 by_cases e:j<rs.length
 ·rw[gL_ e] at b;obtain⟨u',h1,d⟩:=h.2 j r' b;exact⟨u',by rw[gL_ (by rw[h.1];exact e)];exact h1,d⟩
 have h1:=(gA.1 b).1;rw[lA_] at h1;have d:j=rs.length:=by simp only[List.length_singleton] at h1;omega
 subst d;rw[gR_<|nR_ _,Nat.sub_self] at b;cases b;exact⟨u,by rw[gR_ (by rw[h.1];exact nR_ _),h.1,Nat.sub_self];rfl,A⟩⟩
theorem Rows.gS (h:Rows K m R rs us) {b e n:Nat} {c:nL} (hk:K b (.row us e false)) (A:us.length=n) (hc:c= .known n∨c= .upto 1) (hl:n<=1048576):bG K 1 (RL K m R) rs (.slice b 0 n c):=by
 subst A;refine .inr ⟨b,0,c,us,e,false,by rw[h.1],?_,hk,by rw[h.1];omega,by rw[<-h.1];omega,fun i r C=>?_⟩
 ·rcases hc with rfl | rfl
  ·exact .inr ⟨_,by rw[h.1],nR_ _⟩
  exact .inl Z
 obtain⟨u,h1,E⟩:=h.2 i r C;obtain⟨d,rfl⟩:=gA.1 h1;refine⟨us[i],?_,E⟩;rw[show 0+i*1=i from by omega,List.drop_eq_getElem_cons d];rfl
theorem pe {E:Nat} {u:J} {O_:Own} (h:Rows K m R rs us) (d:cS 1 E RV us u O_) (A:∀e∈O_,K e.1 e.2):bG K 1 (RL K m R) rs u:=by
 by_cases hz:us= []
 ·have h1:rs= []:=eN_ (by rw[<-h.1,hz];rfl);subst hz;subst h1;rcases d with ⟨_,rfl,_⟩ | ⟨b,c,cells,e,rfl,rfl,h3,h4,h5,C⟩
  ·exact .inl ⟨Z,Z⟩
  refine .inr ⟨b,0,c,cells,e,false,Z,?_,A _ (.head _),by simp,by simp,fun i x hx=>by simp at hx⟩;rcases h5 with rfl | ⟨rfl,_⟩
  ·exact .inr ⟨_,Z,nR_ _⟩
  exact .inl Z
 obtain⟨b,c,e,rfl,rfl,h5,C⟩:=nF d hz;exact h.gS (A _ (.head _)) Z (h5.imp id And.left) C
end
def Cv {α:Type} (q:Nat->Nat) (rows:List (List α)) (n i:Nat):List (List α):=(List.range n).map fun j=>if q j<i then(rows[q j]?).getD [] else []
theorem Cy {α:Type} {q:Nat->Nat} {rows:List (List α)} {n:Nat}:Cv q rows n 0=List.replicate n []:=by
 unfold Cv;refine List.eq_replicate_iff.2 ⟨by simp,fun b hb=>?_⟩;obtain⟨j,_,rfl⟩:=List.mem_map.1 hb;exact if_neg<|nZ_ _
theorem Cw {α:Type} {p q:Nat->Nat} {rows:List (List α)} {n i:Nat} {r:List α} (h:Pm n p q) (hi:i<n) (b:rows[i]? =some r):Cv q rows n (i+1)=(Cv q rows n i).set (p i) r:=by
 unfold Cv;refine List.ext_getElem? fun j=>?_
 by_cases hj:j<n
 ·rw[gM_,List.getElem?_range hj]
  by_cases e:p i=j
  ·subst e;rw[List.getElem?_set_self (by simpa using h.lt i hi)];show some (if q (p i)<i+1 then(rows[q<|p i]?).getD [] else [])=_;rw[h.qp i hi,if_pos<|Nat.lt_succ_self i,b];rfl
  rw[List.getElem?_set_ne e,gM_,List.getElem?_range hj];show some (if q j<i+1 then _ else _)=some (if q j<i then _ else _);have hne:q j≠i:=fun e2=>e (by rw[<-e2,h.pq j hj])
  by_cases hq:q j<i
  ·rw[if_pos hq,if_pos oM]
  rw[if_neg hq,if_neg oM]
 rw[gN_ (by simp;omega),gN_ (by simp;omega)]
theorem Ge {α:Type} {p q:Nat->Nat} {rows:List (List α)} {n:Nat} (h:Pm n p q):Cv q rows n n=(List.range n).map fun j=>(rows[q j]?).getD []:=by
 unfold Cv;exact List.map_congr_left fun j hj=>by rw[if_pos<|h.Bk j<|List.mem_range.1 hj]
theorem JW {n:Nat} {p q:Nat->Nat} {ps:List Int} (h:Pm n p q) (b:∀i,i<n->ps[i]? =some (.ofNat (p i+1))) {id:cQ} (d:uP n id):lR ps id=jD p id:=by
 rcases d.case with ⟨k,rfl⟩ | ⟨t,k,u,rfl⟩
 ·rfl
 unfold lR;rw[show dy 0 (Int.ofNat (t+1))=true from by rw[show(0:Int)= .ofNat 0 from Z,gM];simp];show(⟨(ps[t]?).getD 0,k⟩:cQ)=_;rw[b t u];rfl
theorem vg {n:Nat} {id:cQ} (b:uP n id):Ol n id:=fun hl=>by
 rcases b.case with ⟨k,rfl⟩ | ⟨t,k,d,rfl⟩
 ·cases hl
 exact⟨t,Z,d⟩
theorem yV {g:XG} {p q:Nat->Nat} {ps:List Int} (u:eb g) (h:Pm g.threads.length p q) (b:∀i,i<g.threads.length->ps[i]? =some (.ofNat (p i+1))):
  gu p q g=⟨g.init,Cv q g.threads g.threads.length g.threads.length,Cv q (g.from_.map (·.map<|lR ps)) g.threads.length g.threads.length,g.order.map (·.map<|lR ps)⟩:=by
 rw[Ge h,Ge h]
 have e1:g.order.map (·.map<|lR ps)=g.order.map (·.map<|jD p):=List.map_congr_left fun r A=>by
  obtain⟨ln,d⟩:=gO_ A;exact List.map_congr_left fun x hx=>JW h b (iH u d hx)
 have e2:((List.range g.threads.length).map fun j=>((g.from_.map (·.map<|lR ps))[q j]?).getD [])=(List.range g.threads.length).map fun j=>((g.from_[q j]?).getD []).map (jD p):=List.map_congr_left fun j hj=>by
  rw[gM_];cases hf:g.from_[q j]? with
  | none=>rfl
  | some f=>exact List.map_congr_left fun x hx=>JW h b (rZ u hf hx)
 rw[e1,e2];rfl
def KP.Ix (K' K:KP):KP:=fun b o=>K' b o/\∀o',¬K b o'
theorem KP.gy {d m K:KP} (h:KP.le d m):KP.le (d.Ix K) (m.Ix K):=fun b o hb=>⟨h b o hb.1,hb.2⟩
theorem KP.Ov {K' K:KP}:KP.le (K'.Ix K) K':=fun _ _ h=>h.1
theorem St.mU {V:N} {Kc K0:KP} {M L:Own} (h:St V Kc (M++L)) (hk:KP.le K0 Kc):∃b,KP.le Kc b/\(∀e∈M,(b.Ix K0) e.1 e.2)/\St V b L:=
 ⟨Kc.ml M,KP.dX _ _,fun e he=>⟨.inr he,fun o' d=>(h.kept _ _<|hk _ _ d).2.2 e (List.mem_append_left _ he) Z⟩,h.keeps⟩
theorem MP {α:Type} (M O_ L:List α) (e a b:α):(e::(M++(a::(O_++(b::L))))).Perm (e::(O_++(M++(a::b::L)))):=by
 classical
 rw[List.perm_iff_count];intro y;simp only[List.count_append,List.count_cons];omega
theorem Kp {α:Type} (M O_ L:List α) (a b:α):(O_++(M++(a::b::L))).Perm (M++(a::(O_++(b::L)))):=by
 classical
 rw[List.perm_iff_count];intro y;simp only[List.count_append,List.count_cons];omega
theorem Kq {α:Type} (M N_ L:List α) (a b c d:α):(M++(N_++(a::b::c::d::L))).Perm ((M++N_)++(a::b::c::d::L)):=by rw[lQ_]
theorem EV {α:Type} (a b c d:α) (L:List α):(a::b::c::d::L).Perm (b::c::a::d::L):=(List.Perm.swap b a _).trans (.cons b<|List.Perm.swap c a _)
theorem Kn {α:Type} (O_ L:List α) (a b:α):(a::(O_++(b::L))).Perm (O_++(b::a::L)):=by
 classical
 rw[List.perm_iff_count];intro y;simp only[List.count_append,List.count_cons];omega
theorem Lr {G:Cx} (hG:Plain G) {K:KP} {g:XG} {a b c d:J} (hg:dj K g a b c d) (hR:eb g) {ps:List Int} {pv:J} (hp:bG K 1 cH ps pv) {p q:Nat->Nat} (h:Pm g.threads.length p q) (hlen:ps.length=g.threads.length) (a0:∀i,i<g.threads.length->ps[i]? =some (.ofNat (p i+1))) {V:N} {L:Own} (aq:St V K L):
  aW Tryz.prog G 38 [.agg [a,b,c,d],pv] V fun v V'=>∃K' a' b' c' d',v= .agg [a',b',c',d']/\KP.le K K'/\dj (K'.Ix K) (gu p q g) a' b' c' d'/\St V' K' L:=by
 have hck:=ei.2 hR;obtain⟨bo,cp,br,bs,cq,cr,cv⟩:=fW hck;obtain⟨N_,hN⟩:∃N_,N_=g.threads.length:=⟨_,Z⟩;have Q:ps.length=N_:=by rw[hlen,hN]
 have cw:g.from_.length=N_:=by rw[bs,hN]
 rw[<-hN] at h a0 bo;refine aY hG Tryz.func38 Z (t:=(PT.leaf.put (some (.agg [a,b,c,d])) 0).put (some (pv)) 1) (by rfl) ?_;refine H ?_;refine ah Z ?_;refine bJ aq Z (cG Z Z) (fun _=>Z) (fun V b1 aq=>?_);refine bJ aq Z (cG Z hp.leaf.1) (fun _=>Z) (fun V b2 aq=>?_);obtain⟨K1,F,u,aq⟩:=aq.cK (M:=[_,_]);have a2:K1 b1 (.row [a,b,c,d] 27 false):=u _ (.tail _ (.head _));have T:dz K1 (.ptr b2 0) [pv]:=.one (u _ (.head _));clear u;have hg1:=hg.mono F;have hp1:=hp.mono F fun _ _ h=>h
 refine bJ aq Z (dG (cs:=[.au,.au,.au,.au]) S S) (fun _=>Z) (fun V b3 aq=>?_);refine af ?_;refine B ?_;refine H ?_;refine ah Z ?_;refine Y Z (bD Z Z) Z ?_;refine Y Z (ak Z) Z ?_;refine af ?_;refine B ?_;refine H ?_;refine aU (l:=[(0,[]),(1,[]),(3,[]),(4,[]),(5,[]),(6,[]),(7,[]),(8,[]),(10,[]),(2,[3,5,6,8,10]),(9,[]),(11,[])]) S S ?_;refine aj Z Z (az Z (k:=0) S) Z ?_;refine aj Z Z (aw Z (aq.eS a2) S Z) Z ?_;refine aj Z Z (aN aq T Z S Z) Z ?_;refine aj Z Z (aO hp1 Z Z Z (e:=3) S Z) Z ?_;refine lJ aq Z Z (vw (n:=N_) (e:=64) (w:=24) (z:=[.au]) S S S S (show _=some (J.int .i64 (.ofNat N_)) from by rw[<-Q];rfl) (show _=some (J.int .i64 (.ofNat N_)) from by rw[<-Q];rfl) oM oM) (fun _=>Z) (fun V b4 aq=>?_);rw[jR] at aq;refine aj Z Z (aN aq T Z S Z) Z ?_;refine aj Z Z (aO hp1 Z Z Z (e:=3) S Z) Z ?_;refine lJ aq Z Z (vw (n:=N_) (e:=57) (w:=24) (z:=[.au]) S S S S (show _=some (J.int .i64 (.ofNat N_)) from by rw[<-Q];rfl) (show _=some (J.int .i64 (.ofNat N_)) from by rw[<-Q];rfl) oM oM) (fun _=>Z) (fun V b5 aq=>?_);rw[jR] at aq;refine Gk aq Z Z (dG (cs:=[.au,.au,.au,.au]) S S) (fun _=>Z) (fun V b6 aq=>?_);refine eW Z Z (aT Z Z Z S) (fun _=>Z) (Im hG hg1.init oM aq) ?_;rintro a3 V ⟨bt,hM13,aq⟩;refine⟨(aZ (bh Z Z Z Z Z (aN aq T Z S Z) hp1.dL)<|aZ (xx Z Z Z Z Z ((tZ (n:=N_) (e:=64) (w:=24) (z:=[.au]) S S S S (show _=some (J.int .i64 (.ofNat N_)) from by rw[<-Q];rfl) (show _=some (J.int .i64 (.ofNat N_)) from by rw[<-Q];rfl) oM oM).trans (by rw[jR])) (aq.bX.pop.pop.get 0 Z)<|By _)<|aZ (bh Z Z Z Z Z (aN aq T Z S Z) hp1.dL)<|aZ (xx Z Z Z Z Z ((tZ (n:=N_) (e:=57) (w:=24) (z:=[.au]) S S S S (show _=some (J.int .i64 (.ofNat N_)) from by rw[<-Q];rfl) (show _=some (J.int .i64 (.ofNat N_)) from by rw[<-Q];rfl) oM oM).trans (by rw[jR])) (aq.bX.pop.get 0 Z)<|By _)<|aZ (zh Z Z Z Z Z (cs:=[.au,.au,.au,.au]) (e:=27) S (aq.bX.get 0 Z) S) aV),?_⟩;refine aj Z Z (dC (places:=[(0,1),(1,1),(2,1),(3,1)]) (zero:=[.au,.au,.au,.au]) (cs:=[_,_,_,_]) S S S (bA Z Z hM13.leaf.1 Z<|bA Z Z Z Z<|bA Z Z Z Z bI) S) Z ?_
 refine jP aq (.gX .here) Z Z (bg Z Z Z (aq.bX.get 0 Z) (m:=4) S Z (Nat.le_of_ble_eq_true Z) (ar hM13.leaf.2<|ar Z<|ar Z<|ar Z aQ) (cells':=[_,_,_,_]) Z) Z (fun V aq=>?_);refine⟨aV,?_⟩;obtain⟨K2,C,u,aq⟩:=aq.mU (M:=bt) (K0:=K) F;have hi13:=hM13.gS (K:=K2.Ix K) u;clear u;have hb2:=C _ _ a2;have hg2:=hg1.mono C;have hpp2:=T.mono C;have hp2:=hp1.mono C fun _ _ h=>h
 refine a8 ?_;refine B ?_;refine H ?_;refine H ?_;refine ah Z ?_;refine Y Z (az Z (k:=1) S) Z ?_;refine Y Z (aw Z (aq.eS hb2) S Z) Z ?_;refine Y Z (aO hg2.threads Z Z Z (e:=64) S Z) Z ?_;refine Y Z (D Z) Z ?_;refine af ?_;refine B ?_;refine aI ?_;refine a6 [7,24,25,26,27,28,29,30,31,32,33,34,35,36,37,38,39,40,41,42,43,44,45,46,47,48,49,50,51,52,53,54,55,56] (fun j t V=>∃(i:Nat) (K3:KP) (usT usF:List J),(j+i=N_/\KP.le K2 K3/\Rows (K3.Ix K) 5 nX (Cv q g.threads N_ i) usT/\Rows (K3.Ix K) 2 kz (Cv q (g.from_.map (·.map<|lR ps)) N_ i) usF)/\t.get 24=some (.int .i64 (.ofNat i))/\St V K3 ((b6,.row [a3,.slice b4 0 N_ (.known N_),.slice b5 0 N_ (.known N_),.au] 27 false)::(b5,.row usF 57 false)::(b4,.row usT 64 false)::(b3,.row [.au,.au,.au,.au] 27 false)::L)) (N_) ⟨0,K2,List.replicate N_ .au,List.replicate N_ .au,⟨Z,KP.le_refl _,by rw[Cy];exact Rows.Qq,by rw[Cy];exact Rows.Qq⟩,Z,aq⟩ ?_
 clear aq;intro j4 t V an hI;obtain⟨i,K3,usT,usF,⟨cx,A,hT,hF⟩,aa,aq⟩:=hI;replace an:=an.bS Z Z;obtain⟨o7,bv,c0,c1,c2,c3,c4,c5,an⟩:=an;replace an:=an.bS Z Z;obtain⟨c7,c8,c9,dd,df,dk,dl,dm,an⟩:=an;replace an:=an.bS Z Z;obtain⟨dn,dr,ds,dx,dT,d0,d1,d2,an⟩:=an;replace an:=an.bS Z Z;obtain⟨d3,d4,d5,d6,d7,d8,d9,ee,an⟩:=an;replace an:=an.eh Z;obtain⟨ef,an⟩:=an;replace an:=an.eh Z;obtain⟨eg,an⟩:=an;obtain rfl:=an.nil;clear an;replace aa:bv=some _:=aa;subst aa;refine H ?_;refine ah Z ?_;have hb3:=A _ _ hb2;have hg3:=hg2.mono A;have hpp3:=hpp2.mono A;have hp3:=hp2.mono A fun _ _ h=>h
 refine Y Z (aC Z Z Z) Z ?_;refine af ?_;refine B ?_;refine H ?_;refine aD Z (fun a1=>?_) (fun a1=>?_)
 ·refine aG ?_;refine B ?_;refine H ?_;refine aI ?_;refine H ?_;refine ah Z ?_;have X:i<N_:=by have:=aS a1;omega
  obtain⟨row,U⟩:=bZ (show i<g.threads.length by omega);obtain⟨fr,al⟩:=bZ (show i<g.from_.length by omega);have hpsi:=a0 i X;have hpi:=h.lt i X;have a4:usT.length=N_:=by rw[hT.1];unfold Cv;simp
  have a5:usF.length=N_:=by rw[hF.1];unfold Cv;simp
  refine Y Z (D Z) Z ?_;refine Y Z (ak Z) Z ?_;refine af ?_;refine B ?_;refine aU (l:=[(0,[]),(1,[]),(2,[]),(3,[]),(4,[]),(5,[]),(6,[]),(7,[]),(8,[]),(9,[]),(10,[]),(11,[]),(12,[]),(13,[]),(14,[]),(15,[]),(16,[]),(17,[]),(18,[]),(20,[]),(21,[]),(22,[]),(23,[]),(24,[]),(25,[]),(19,[1,2,5,8,9,12,22,25]),(26,[1,2,5,8,9,12]),(27,[]),(28,[8]),(29,[]),(30,[])]) S S ?_;refine aj Z Z (az Z (k:=1) S) Z ?_;refine aj Z Z (aw Z (aq.get 0 Z) S Z) Z ?_;refine aj Z Z (aN aq hpp3 Z S Z) Z ?_;refine aj Z Z (D Z) Z ?_;refine bV (e:=3) (m:=1) hp3 hpsi Z Z Z S S Z Z (fun _=>Z) (fun el ca ab cb a9=>?_);obtain rfl:=a9;refine aj Z Z (aN aq ab Z S Z) Z ?_;refine aj Z Z (aC (v:=.int .i64 (.ofNat<|p i)) Z Z<|congrArg (fun z=>some (J.int .i64 z))<|fP oM) Z ?_;refine aj Z Z (az Z (k:=2) S) Z ?_;refine aj Z Z (aw Z (aq.get 0 Z) S Z) Z ?_;refine aj Z Z (aN aq hpp3 Z S Z) Z ?_;refine aj Z Z (D Z) Z ?_;refine bV (e:=3) (m:=1) hp3 hpsi Z Z Z S S Z Z (fun _=>Z) (fun em cc ac hl38 bb=>?_);obtain rfl:=bb;refine aj Z Z (aN aq ac Z S Z) Z ?_;refine aj Z Z (aC (v:=.int .i64 (.ofNat<|p i)) Z Z<|congrArg (fun z=>some (J.int .i64 z))<|fP oM) Z ?_;refine aj Z Z (az Z (k:=1) S) Z ?_;refine aj Z Z (aw Z (aq.eS hb3) S Z) Z ?_;refine aj Z Z (D Z) Z ?_;refine bV (e:=64) (m:=1) hg3.threads U Z Z Z S S Z Z (fun _=>Z) (fun en ce bd cg be=>?_);have hr44':=be;obtain⟨eo,rfl,bf⟩:=hr44';refine aj Z Z (aN aq bd Z S Z) Z ?_;refine aj Z Z (D Z) Z ?_;refine aj Z Z (az Z (k:=2) S) Z ?_;refine aj Z Z (aw Z (aq.eS hb3) S Z) Z ?_;refine aj Z Z (D Z) Z ?_;refine bV (e:=57) (m:=1) hg3.from_ al Z Z Z S S Z Z (fun _=>Z) (fun er ch ap ci bi=>?_);have hr51':=bi;obtain⟨es,rfl,av⟩:=hr51';refine aj Z Z (aN aq ap Z S Z) Z ?_;refine eW Z Z (aT Z Z Z S) (fun _=>Z) (Lh hG bf (by have:=br _ (gB_ U);omega) aq) ?_;rintro et V ⟨bw,hM46,aq⟩
  refine⟨(aZ (bh Z Z Z Z Z (aw Z (aq.bX.get 0 Z) S Z)<|pL _ _ _ _)<|aZ (bh Z Z Z Z Z (aN aq hpp3 Z S Z) hp3.dL)<|aZ (bh Z Z Z Z Z (aN aq ab Z S Z)<|dD _ _)<|aZ (bh Z Z Z Z Z (aw Z (aq.bX.get 0 Z) S Z)<|pL _ _ _ _)<|aZ (bh Z Z Z Z Z (aN aq hpp3 Z S Z) hp3.dL)<|aZ (bh Z Z Z Z Z (aN aq ac Z S Z)<|dD _ _)<|aZ (bh Z Z Z Z Z (aw Z (aq.eS hb3) S Z) hg3.from_.dL)<|aZ (bh Z Z Z Z Z (aN aq ap Z S Z) av.dL) aV),?_⟩;refine eW Z Z (aT Z Z Z S) (fun _=>Z) (G1 hG hp3 hpp3 av (fun x hx=>by rw[Q];exact vg (by rw[hN];exact rZ hR al hx)) (by have:=hR.rows i row fr U al;have:=hR.short i row U;omega) aq) ?_;rintro ev V ⟨b0,hM53,aq⟩;refine⟨(aZ (bh Z Z Z Z Z (aw Z (aq.bX.bX.get 0 Z) S Z)<|pL _ _ _ _)<|aZ (bh Z Z Z Z Z (aN aq hpp3 Z S Z) hp3.dL)<|aZ (bh Z Z Z Z Z (aN aq ab Z S Z)<|dD _ _)<|aZ (bh Z Z Z Z Z (aw Z (aq.bX.bX.get 0 Z) S Z)<|pL _ _ _ _)<|aZ (bh Z Z Z Z Z (aN aq hpp3 Z S Z) hp3.dL)<|aZ (bh Z Z Z Z Z (aN aq ac Z S Z)<|dD _ _) aV),?_⟩;refine aj Z Z (iY (e:=64) (m:=1) Z S Z Z (show p i<N_ from hpi)) Z ?_;refine jP aq (.gX (.gX (.there (.there .here)))) Z Z (kx Z Z hM46.leaf.1 (aq.bX.bX.pop.pop.get 0 Z) (m:=1) S Z oM<|ar hM46.leaf.2 Z) Z (fun V aq=>?_);refine⟨(aZ (bh Z Z Z Z Z (aw Z (aq.bX.bX.get 0 Z) S Z)<|pL _ _ _ _) aV),?_⟩;rw[iK oM] at aq;refine aj Z Z (iY (e:=57) (m:=1) Z S Z Z (show p i<N_ from hpi)) Z ?_;refine jP aq (.gX (.gX (.there .here))) Z Z (kx Z Z hM53.leaf.1 (aq.bX.bX.pop.get 0 Z) (m:=1) S Z oM<|ar hM53.leaf.2 Z) Z (fun V aq=>?_);refine⟨aV,?_⟩;rw[iK oM] at aq;refine a8 ?_;refine aH ?_;refine B ?_;refine ah Z ?_;replace aq:=aq.perm (Kq ..);obtain⟨K4,ad,u,aq⟩:=aq.mU (M:=b0++bw) (K0:=K) (KP.le_trans F<|KP.le_trans C A);have hs46:=hM46.gS (K:=K4.Ix K) fun e he=>u e (List.mem_append_right _ he);have hs53:=hM53.gS (K:=K4.Ix K) fun e he=>u e (List.mem_append_left _ he);clear u
  refine Y Z (aC (v:=.int .i64 (.ofNat (i+1))) Z Z<|congrArg (fun z=>some (J.int .i64 z))<|aX oM) Z ?_;refine Y Z (D Z) Z ?_;refine af ?_;refine aL ⟨j4-1,oM,(by(iterate 68 refine bc.put Z ?_);exact bc.refl _ _),i+1,K4,_,_,⟨by omega,KP.le_trans A ad,by rw[Cw h X U];exact(hT.mono<|KP.gy ad).set hs46,by rw[Cw h X (show(g.from_.map (·.map<|lR ps))[i]? =some (fr.map<|lR ps) from by rw[gM_,al];rfl)];exact(hF.mono<|KP.gy ad).set hs53⟩,Z,aq⟩
 refine ba ?_;refine aP ?_;refine aR ?_;refine aM ?_;refine B ?_;refine H ?_;refine H ?_;refine ah Z ?_;have X:i=N_:=by have:=bC a1;omega
 have a4:usT.length=N_:=by rw[hT.1];unfold Cv;simp
 have a5:usF.length=N_:=by rw[hF.1];unfold Cv;simp
 replace aq:=aq.perm (EV ..);obtain⟨K5,E,u,aq⟩:=aq.mU (M:=[_,_]) (K0:=K) (KP.le_trans F<|KP.le_trans C A);have hTs:=(hT.mono<|KP.gy E).gS (u _ (.tail _ (.head _))) a4 (.inl Z) oM;have hFs:=(hF.mono<|KP.gy E).gS (u _ (.head _)) a5 (.inl Z) oM;clear u;have hb5:=E _ _ hb3;have hg5:=hg3.mono E;have hpp5:=hpp3.mono E;have hp5:=hp3.mono E fun _ _ h=>h
 refine Y Z (az Z (k:=3) S) Z ?_;refine Y Z (aw Z (aq.eS hb5) S Z) Z ?_;refine Y Z (aO hg5.order Z Z Z (e:=57) S Z) Z ?_;refine Y Z (D Z) Z ?_;refine af ?_;refine B ?_;refine aI ?_;refine a6 [9,60,61,62,63,64,65,66,67,68,69,70,71,72] (fun j t V=>∃(i:Nat) (K6:KP) (us:List J) (uO:J) (O_:Own),(j+i=g.order.length/\KP.le K5 K6/\cS 1 57 RV us uO O_/\Rows (K6.Ix K) 2 kz ((g.order.take i).map (·.map<|lR ps)) us)/\t.get 60=some (.int .i64 (.ofNat i))/\St V K6 ((b6,.row [a3,.slice b4 0 N_ (.known N_),.slice b5 0 N_ (.known N_),uO] 27 false)::(O_++((b3,.row [.au,.au,.au,.au] 27 false)::L)))) (g.order.length) ⟨0,K5,[],.au,[],⟨Z,KP.le_refl _,.inl ⟨Z,Z,Z⟩,⟨Z,fun i r hr=>by simp at hr⟩⟩,Z,aq⟩ ?_
 clear aq;intro j9 t V an hI;obtain⟨i2,K6,us,uO,O_,⟨ex,I,hO,am⟩,ai,aq⟩:=hI;replace an:=an.bS Z Z;obtain⟨o9,b7,e0,e3,e4,e5,e6,e7,an⟩:=an;replace an:=an.mQ Z;obtain⟨e8,e9,fd,fi,an⟩:=an;replace an:=an.eh Z;obtain⟨fk,an⟩:=an;replace an:=an.eh Z;obtain⟨fs,an⟩:=an;obtain rfl:=an.nil;clear an;replace ai:b7=some _:=ai;subst ai;refine H ?_;refine ah Z ?_;have hb6:=I _ _ hb5;have hg6:=hg5.mono I;have hpp6:=hpp5.mono I;have hp6:=hp5.mono I fun _ _ h=>h
 refine Y Z (aC Z Z Z) Z ?_;refine af ?_;refine B ?_;refine H ?_;refine aD Z (fun ao=>?_) (fun ao=>?_)
 ·refine aG ?_;refine B ?_;refine H ?_;refine aI ?_;refine H ?_;refine ah Z ?_;obtain⟨fv,W,cj⟩:=cL ao;refine cm (e:=57) (m:=1) hg6.order W Z Z S S Z Z (fun _=>Z) (fun f0 ck bk cn bl=>?_);have hr62':=bl;obtain⟨f1,rfl,bm⟩:=hr62';refine Y Z (aN aq bk Z S Z) Z ?_;refine Y Z (ak Z) Z ?_;refine af ?_;refine B ?_;refine aU (l:=[(0,[]),(1,[]),(2,[]),(3,[]),(4,[1]),(5,[]),(6,[]),(7,[]),(8,[])]) S S ?_;refine aj Z Z (az Z (k:=3) S) Z ?_;refine aj Z Z (aw Z (aq.get 0 Z) S Z) Z ?_;refine aj Z Z (D Z) Z ?_;refine aj Z Z (D Z) Z ?_;refine eW Z Z (aT Z Z Z S) (fun _=>Z) (G1 hG hp6 hpp6 bm (fun x hx=>by rw[Q];exact vg (by rw[hN];exact iH hR W hx)) (by have:=sk hck _ (gB_ W);omega) aq) ?_;rintro f2 V ⟨b8,hM68,aq⟩;refine⟨(aZ (bh Z Z Z Z Z (aw Z (aq.bX.get 0 Z) S Z) (hO.rD (K:=fun _ _=>False)).dL) aV),?_⟩;refine lJ aq Z Z (bN (e:=57) (m:=1) (z:=[.au]) (cs:=[_]) S S S S<|bA Z Z hM68.leaf.1 Z bI) (fun _=>Z) (fun V f3 aq=>?_);replace aq:=aq.perm (MP ..);refine lI (R:=RV) (m:=1) (e:=57) hO aq (ej (m:=1) Z ⟨Z,hM68.leaf⟩) RV.leaf (by rw[am.1,lM_,lT_];simp;omega) Z Z Z Z Z Z Z Z (fun _=>Z) (fun V f4 f5 hO70 aq=>?_);refine⟨aV,?_⟩;refine aj Z Z (az Z (k:=3) S) Z ?_;refine jP aq (.gX (.gX .here)) Z Z (bg Z Z hO70.leaf.1 (aq.bX.bX.get 0 Z) (m:=1) S Z (Nat.le_of_ble_eq_true Z) (ar hO70.leaf.2 aQ) (cells':=[_,_,_,_]) Z) Z (fun V aq=>?_);refine⟨aV,?_⟩;refine a8 ?_;refine aH ?_;refine B ?_;refine ah Z ?_;replace aq:=aq.perm (Kp ..);obtain⟨K7,ax,u,aq⟩:=aq.mU (M:=b8) (K0:=K) (KP.le_trans F<|KP.le_trans C<|KP.le_trans A<|KP.le_trans E I);have hs68:=hM68.gS (K:=K7.Ix K) u;clear u;refine Y Z (aC (v:=.int .i64 (.ofNat (i2+1))) Z Z<|congrArg (fun z=>some (J.int .i64 z))<|aX (by have:=hg6.order.bK;omega)) Z ?_;refine Y Z (D Z) Z ?_;refine af ?_;refine aL ⟨j9-1,(by have:=aS ao;omega),(by(iterate 28 refine bc.put Z ?_);exact bc.refl _ _),i2+1,K7,_,_,_,⟨by omega,KP.le_trans I ax,hO70,by rw[fG W,List.map_append];exact(am.mono<|KP.gy ax).snoc hs68⟩,Z,aq⟩
 refine ba ?_;refine aP ?_;refine aR ?_;refine aM ?_;refine B ?_;refine H ?_;refine ah Z ?_;refine Y Z (bp Z (aq.get 0 Z) (n:=4) (vs:=[_,_,_,_]) S (Nat.le_of_ble_eq_true Z) Z) Z ?_;refine gj aq (.there (.gX .here)) Z (bg Z Z Z (aq.pop.bX.get 0 Z) (m:=4) S Z (Nat.le_of_ble_eq_true Z) (ar hi13.leaf.2<|ar Z<|ar Z<|ar hO.leaf.2 aQ) (cells':=[_,_,_,_]) Z) Z (fun V aq=>?_);refine af ?_;refine B ?_;refine aF ?_;have b9:g.order.length<=i2:=by have:=bC ao;omega
 rw[tL_ b9] at am;replace aq:=aq.perm (Kn ..);obtain⟨K8,aE,u,aq⟩:=aq.mU (M:=O_) (K0:=K) (KP.le_trans F<|KP.le_trans C<|KP.le_trans A<|KP.le_trans E I);have hOs:=pe (am.mono<|KP.gy aE) hO u;clear u;have hl38:=KP.le_trans I aE;have hl58:=KP.le_trans E hl38;have hl28:=KP.le_trans A hl58;subst X;exact⟨.inr Z,_,iq Z Z (aq.get 0 Z) (m:=4) S Z,K8,_,_,_,_,Z,KP.le_trans F<|KP.le_trans C hl28,by subst hN;rw[yV hR h a0];exact⟨hi13.mono (KP.gy hl28) fun _ _ h=>h,hTs.mono (KP.gy hl38) fun _ _ h=>h.mono (KP.gy hl38),hFs.mono (KP.gy hl38) fun _ _ h=>h.mono (KP.gy hl38),hOs⟩,aq.pop.pop⟩
theorem Ko {n:Nat} {p q:Nat->Nat} {ps:List Int} (h:Pm n p q) (b:∀i,i<n->ps[i]? =some (.ofNat (p i+1))) {t:Nat} (d:t<n):(ps.any fun y=>bM (.ofNat (t+1)) y)=true:=by
 refine List.any_eq_true.2 ⟨_,gB_<|b (q t)<|h.Bk t d,?_⟩;rw[h.pq t d,ey]
section
variable {H_:Type} {V:N}
theorem F2 (C:∀(b:Nat) (o:cu),V.m.get b=some o->b<V.next):∀(fuel:Nat) (d:DataW H_) (vs:List J),Fit Tryz.prog fuel 100 d->dq Tryz.prog V fuel 100 d vs->gY (pI V) fuel (Ii fuel d) vs
 | 0,_,_,hf,_=>hf.elim
 | 1,d,vs,hf,hd=>by
  obtain⟨_,h⟩:=gO (m:=4) Tryz.underlying100 S S hf hd;exact(h 0 _ Z).1.elim
 | fuel+2,d,vs,hf,hd=>by
  obtain⟨hl,h⟩:=gO (m:=4) Tryz.underlying100 S S hf hd
  obtain⟨a,b,c,e,rfl⟩:∃a b c e,vs= [a,b,c,e]:=by
   match vs,hl with
   | [a,b,c,e],_=>exact⟨a,b,c,e,Z⟩
  obtain⟨E,F⟩:Fit Tryz.prog _ 3 (cD d 0)/\dq Tryz.prog V _ 3 (cD d 0) (([a,b,c,e].drop 0).take<|Tryz.prog.cellsOf 3):=h 0 _ Z;obtain⟨G,I⟩:Fit Tryz.prog _ 2 (cD d 1)/\dq Tryz.prog V _ 2 (cD d 1) (([a,b,c,e].drop 1).take<|Tryz.prog.cellsOf 2):=h 1 _ Z;obtain⟨K,L⟩:Fit Tryz.prog _ 9 (cD d 2)/\dq Tryz.prog V _ 9 (cD d 2) (([a,b,c,e].drop 2).take<|Tryz.prog.cellsOf 9):=h 2 _ Z;obtain⟨M,Q⟩:Fit Tryz.prog _ 95 (cD d 3)/\dq Tryz.prog V _ 95 (cD d 3) (([a,b,c,e].drop 3).take<|Tryz.prog.cellsOf 95):=h 3 _ Z;have R:Tryz.prog.cellsOf 3=1:=by kernel_rfl
  have T:Tryz.prog.cellsOf 2=1:=by kernel_rfl
  have U:Tryz.prog.cellsOf 9=1:=by kernel_rfl
  have u:Tryz.prog.cellsOf 95=1:=by kernel_rfl
  have e0:=(gi Tryz.underlying3 E F).1;have e1:=(gi Tryz.underlying2 G I).1;have e2:=Pp Tryz.underlying9 K L;obtain⟨v,A,W⟩:=fh (m:=4) (Ii fuel) (gY (pI V) fuel) Tryz.underlying95 S (by decide) C M Q fun x vs hf hd=>F2 C fuel x vs hf hd
  rw[R] at e0;rw[T] at e1;rw[U] at e2;rw[u] at A;simp only[List.drop_zero,List.take_succ_cons,List.take_zero,List.drop_succ_cons,List.cons.injEq,and_true] at e0 e1 e2 A;subst e0;subst e1;subst e2;subst A;show∃w,_= [_,_,_,w]/\bG (pI V) 4 (gY (pI V) (fuel+1)) ((eL<|cD d 3).map<|Ii fuel) w;exact⟨_,Z,W.jC fun x vs h=>gY.up h⟩
theorem Mo (C:∀(b:Nat) (o:cu),V.m.get b=some o->b<V.next) (fuel:Nat) (d:DataW H_) (vs:List J) (hf:Fit Tryz.prog (fuel+2) 97 d) (hd:dq Tryz.prog V (fuel+2) 97 d vs):rO (pI V) fuel (Pt fuel d) vs:=by
 obtain⟨hl,h⟩:=gO (m:=6) Tryz.underlying97 S S hf hd
 obtain⟨a,b,c,e,g,i,rfl⟩:∃a b c e g i,vs= [a,b,c,e,g,i]:=by
  match vs,hl with
  | [a,b,c,e,g,i],_=>exact⟨a,b,c,e,g,i,Z⟩
 obtain⟨E,F⟩:Fit Tryz.prog _ 3 (cD d 0)/\dq Tryz.prog V _ 3 (cD d 0) (([a,b,c,e,g,i].drop 0).take<|Tryz.prog.cellsOf 3):=h 0 _ Z;obtain⟨G,I⟩:Fit Tryz.prog _ 3 (cD d 1)/\dq Tryz.prog V _ 3 (cD d 1) (([a,b,c,e,g,i].drop 1).take<|Tryz.prog.cellsOf 3):=h 1 _ Z;obtain⟨K,L⟩:Fit Tryz.prog _ 3 (cD d 2)/\dq Tryz.prog V _ 3 (cD d 2) (([a,b,c,e,g,i].drop 2).take<|Tryz.prog.cellsOf 3):=h 2 _ Z;obtain⟨M,Q⟩:Fit Tryz.prog _ 3 (cD d 3)/\dq Tryz.prog V _ 3 (cD d 3) (([a,b,c,e,g,i].drop 3).take<|Tryz.prog.cellsOf 3):=h 3 _ Z;obtain⟨R,T⟩:Fit Tryz.prog _ 3 (cD d 4)/\dq Tryz.prog V _ 3 (cD d 4) (([a,b,c,e,g,i].drop 4).take<|Tryz.prog.cellsOf 3):=h 4 _ Z;obtain⟨U,W⟩:Fit Tryz.prog _ 95 (cD d 5)/\dq Tryz.prog V _ 95 (cD d 5) (([a,b,c,e,g,i].drop 5).take<|Tryz.prog.cellsOf 95):=h 5 _ Z;have X:Tryz.prog.cellsOf 3=1:=by kernel_rfl
 have u:Tryz.prog.cellsOf 95=1:=by kernel_rfl
 have e0:=(gi Tryz.underlying3 E F).1;have e1:=(gi Tryz.underlying3 G I).1;have e2:=(gi Tryz.underlying3 K L).1;have e3:=(gi Tryz.underlying3 M Q).1;have e4:=(gi Tryz.underlying3 R T).1;obtain⟨v,A,hs⟩:=fh (m:=4) (Ii fuel) (gY (pI V) fuel) Tryz.underlying95 S (by decide) C U W fun x vs hf hd=>F2 C fuel x vs hf hd
 rw[X] at e0 e1 e2 e3 e4;rw[u] at A;simp only[List.drop_zero,List.take_succ_cons,List.take_zero,List.drop_succ_cons,List.cons.injEq,and_true] at e0 e1 e2 e3 e4 A;subst e0;subst e1;subst e2;subst e3;subst e4;subst A;exact⟨_,Z,hs⟩
theorem Mn (A:∀(b:Nat) (o:cu),V.m.get b=some o->b<V.next) (fuel:Nat) (d:DataW H_) (vs:List J) (hf:Fit Tryz.prog (fuel+4) 63 d) (hd:dq Tryz.prog V (fuel+4) 63 d vs):gf (pI V) fuel (Ps fuel d) vs:=by
 obtain⟨hl,h⟩:=gO (m:=2) Tryz.underlying63 S S hf hd
 obtain⟨a,b,rfl⟩:∃a b,vs= [a,b]:=by
  match vs,hl with
  | [a,b],_=>exact⟨a,b,Z⟩
 obtain⟨C,E⟩:Fit Tryz.prog _ 3 (cD d 0)/\dq Tryz.prog V _ 3 (cD d 0) (([a,b].drop 0).take<|Tryz.prog.cellsOf 3):=h 0 _ Z;obtain⟨F,G⟩:Fit Tryz.prog _ 61 (cD d 1)/\dq Tryz.prog V _ 61 (cD d 1) (([a,b].drop 1).take<|Tryz.prog.cellsOf 61):=h 1 _ Z;have I:Tryz.prog.cellsOf 3=1:=by kernel_rfl
 have u:Tryz.prog.cellsOf 61=1:=by kernel_rfl
 have e0:=(gi Tryz.underlying3 C E).1;obtain⟨v,e1,K⟩:=fh (m:=6) (Pt fuel) (rO (pI V) fuel) Tryz.underlying61 S (by decide) A F G fun x vs hf hd=>Mo A fuel x vs hf hd
 rw[I] at e0;rw[u] at e1;simp only[List.drop_zero,List.take_succ_cons,List.take_zero,List.drop_succ_cons,List.cons.injEq,and_true] at e0 e1;subst e0;subst e1;exact⟨_,Z,K⟩
theorem Ju (u:∀(b:Nat) (o:cu),V.m.get b=some o->b<V.next) (fuel:Nat) (d:DataW H_) (vs:List J) (hf:Fit Tryz.prog (fuel+5) 22 d) (hd:dq Tryz.prog V (fuel+5) 22 d vs):∃v,vs= [v]/\bG (pI V) 2 (gf (pI V) fuel) ((eL d).map<|Ps fuel) v:=
 fh (m:=2) (Ps fuel) (gf (pI V) fuel) Tryz.underlying22 S (by decide) u hf hd fun x vs hf hd=>Mn u fuel x vs hf hd
def xF (d:DataW H_):cQ:=⟨lS<|cD d 0,lS<|cD d 1⟩
def qT (d:DataW H_):cU:=⟨lS<|cD d 0,lS<|cD d 1,lS<|cD d 2,lS<|cD d 3,lS<|cD d 4⟩
def Ij (d:DataW H_):XG:=⟨(eL<|cD d 0).map lS,(eL<|cD d 1).map fun r=>(eL r).map qT,(eL<|cD d 2).map fun r=>(eL r).map xF,(eL<|cD d 3).map fun r=>(eL r).map xF⟩
theorem O0 {fuel:Nat} {d:DataW H_} {vs:List J} (hf:Fit Tryz.prog (fuel+2) 59 d) (hd:dq Tryz.prog V (fuel+2) 59 d vs):kz (xF d) vs:=by
 obtain⟨hl,h⟩:=gO (m:=2) Tryz.underlying59 S S hf hd
 obtain⟨a,b,rfl⟩:∃a b,vs= [a,b]:=by
  match vs,hl with
  | [a,b],_=>exact⟨a,b,Z⟩
 obtain⟨u,A⟩:Fit Tryz.prog _ 3 (cD d 0)/\dq Tryz.prog V _ 3 (cD d 0) (([a,b].drop 0).take<|Tryz.prog.cellsOf 3):=h 0 _ Z;obtain⟨C,E⟩:Fit Tryz.prog _ 3 (cD d 1)/\dq Tryz.prog V _ 3 (cD d 1) (([a,b].drop 1).take<|Tryz.prog.cellsOf 3):=h 1 _ Z;have F:Tryz.prog.cellsOf 3=1:=by kernel_rfl
 have e0:=(gi Tryz.underlying3 u A).1;have e1:=(gi Tryz.underlying3 C E).1;rw[F] at e0 e1;simp only[List.drop_zero,List.take_succ_cons,List.take_zero,List.drop_succ_cons,List.cons.injEq,and_true] at e0 e1;subst e0;subst e1;rfl
theorem OZ {fuel:Nat} {d:DataW H_} {vs:List J} (hf:Fit Tryz.prog (fuel+2) 92 d) (hd:dq Tryz.prog V (fuel+2) 92 d vs):nX (qT d) vs:=by
 obtain⟨hl,h⟩:=gO (m:=5) Tryz.underlying92 S S hf hd
 obtain⟨a,b,c,e,g,rfl⟩:∃a b c e g,vs= [a,b,c,e,g]:=by
  match vs,hl with
  | [a,b,c,e,g],_=>exact⟨a,b,c,e,g,Z⟩
 obtain⟨u,A⟩:Fit Tryz.prog _ 3 (cD d 0)/\dq Tryz.prog V _ 3 (cD d 0) (([a,b,c,e,g].drop 0).take<|Tryz.prog.cellsOf 3):=h 0 _ Z;obtain⟨C,E⟩:Fit Tryz.prog _ 3 (cD d 1)/\dq Tryz.prog V _ 3 (cD d 1) (([a,b,c,e,g].drop 1).take<|Tryz.prog.cellsOf 3):=h 1 _ Z;obtain⟨F,G⟩:Fit Tryz.prog _ 3 (cD d 2)/\dq Tryz.prog V _ 3 (cD d 2) (([a,b,c,e,g].drop 2).take<|Tryz.prog.cellsOf 3):=h 2 _ Z;obtain⟨I,K⟩:Fit Tryz.prog _ 2 (cD d 3)/\dq Tryz.prog V _ 2 (cD d 3) (([a,b,c,e,g].drop 3).take<|Tryz.prog.cellsOf 2):=h 3 _ Z;obtain⟨L,M⟩:Fit Tryz.prog _ 2 (cD d 4)/\dq Tryz.prog V _ 2 (cD d 4) (([a,b,c,e,g].drop 4).take<|Tryz.prog.cellsOf 2):=h 4 _ Z;have Q:Tryz.prog.cellsOf 3=1:=by kernel_rfl
 have R:Tryz.prog.cellsOf 2=1:=by kernel_rfl
 have e0:=(gi Tryz.underlying3 u A).1;have e1:=(gi Tryz.underlying3 C E).1;have e2:=(gi Tryz.underlying3 F G).1;have e3:=(gi Tryz.underlying2 I K).1;have e4:=(gi Tryz.underlying2 L M).1;rw[Q] at e0 e1 e2;rw[R] at e3 e4;simp only[List.drop_zero,List.take_succ_cons,List.take_zero,List.drop_succ_cons,List.cons.injEq,and_true] at e0 e1 e2 e3 e4;subst e0;subst e1;subst e2;subst e3;subst e4;rfl
theorem yN (u:∀(b:Nat) (o:cu),V.m.get b=some o->b<V.next) {fuel:Nat} {d:DataW H_} {vs:List J} (hf:Fit Tryz.prog (fuel+5) 27 d) (hd:dq Tryz.prog V (fuel+5) 27 d vs):∃a b c e,vs= [a,b,c,e]/\dj (pI V) (Ij d) a b c e:=by
 obtain⟨hl,h⟩:=gO (m:=4) Tryz.underlying27 S S hf hd
 obtain⟨a,b,c,e,rfl⟩:∃a b c e,vs= [a,b,c,e]:=by
  match vs,hl with
  | [a,b,c,e],_=>exact⟨a,b,c,e,Z⟩
 obtain⟨I,K⟩:Fit Tryz.prog _ 23 (cD d 0)/\dq Tryz.prog V _ 23 (cD d 0) (([a,b,c,e].drop 0).take<|Tryz.prog.cellsOf 23):=h 0 _ Z;obtain⟨L,M⟩:Fit Tryz.prog _ 24 (cD d 1)/\dq Tryz.prog V _ 24 (cD d 1) (([a,b,c,e].drop 1).take<|Tryz.prog.cellsOf 24):=h 1 _ Z;obtain⟨Q,R⟩:Fit Tryz.prog _ 25 (cD d 2)/\dq Tryz.prog V _ 25 (cD d 2) (([a,b,c,e].drop 2).take<|Tryz.prog.cellsOf 25):=h 2 _ Z;obtain⟨T,U⟩:Fit Tryz.prog _ 25 (cD d 3)/\dq Tryz.prog V _ 25 (cD d 3) (([a,b,c,e].drop 3).take<|Tryz.prog.cellsOf 25):=h 3 _ Z;have A:Tryz.prog.cellsOf 23=1:=by kernel_rfl
 have C:Tryz.prog.cellsOf 24=1:=by kernel_rfl
 have E:Tryz.prog.cellsOf 25=1:=by kernel_rfl
 have W:Tryz.prog.cellsOf 2=1:=by kernel_rfl
 obtain⟨v0,F,h0⟩:=fh (m:=1) lS cH Tryz.underlying23 W (by decide) u I K fun x vs hf hd=>(gi Tryz.underlying2 hf hd).1
 have rowE:∀(x:DataW H_) (vs:List J),Fit Tryz.prog (fuel+3) 64 x->dq Tryz.prog V (fuel+3) 64 x vs->RL (pI V) 5 nX ((eL x).map qT) vs:=fun x vs hf hd=>
  fh (m:=5) qT nX Tryz.underlying64 S (by decide) u hf hd fun x vs hf hd=>OZ hf hd
 have rowI:∀(x:DataW H_) (vs:List J),Fit Tryz.prog (fuel+3) 57 x->dq Tryz.prog V (fuel+3) 57 x vs->RL (pI V) 2 kz ((eL x).map xF) vs:=fun x vs hf hd=>
  fh (m:=2) xF kz Tryz.underlying57 S (by decide) u hf hd fun x vs hf hd=>O0 hf hd
 obtain⟨v1,e1,h1⟩:=fh (m:=1) (fun r=>(eL r).map qT) (RL (pI V) 5 nX) Tryz.underlying24 S (by decide) u L M rowE;obtain⟨v2,e2,X⟩:=fh (m:=1) (fun r=>(eL r).map xF) (RL (pI V) 2 kz) Tryz.underlying25 S (by decide) u Q R rowI;obtain⟨v3,G,h3⟩:=fh (m:=1) (fun r=>(eL r).map xF) (RL (pI V) 2 kz) Tryz.underlying25 S (by decide) u T U rowI;rw[A] at F;rw[C] at e1;rw[E] at e2 G;simp only[List.drop_zero,List.take_succ_cons,List.take_zero,List.drop_succ_cons,List.cons.injEq,and_true] at F e1 e2 G;subst F;subst e1;subst e2;subst G;exact⟨_,_,_,_,Z,h0,h1,X,h3⟩
theorem Bn.up:∀{k:Nat} {x:XE},Bn k x->Bn (k+1) x
 | 0,_,h=>h.elim
 | _+1,.mk _ _ _ _,⟨h1,b⟩=>⟨h1,fun y hy=>Bn.up (b y hy)⟩
theorem pU {α:Type} {K:KP} {m:Nat} {R:α->List J->Prop} {l:List α} {v:J} (h:bG K m R l v):∀x∈l,∃vs,R x vs:=fun x hx=>by
 obtain⟨i,hi⟩:=gO_ hx;obtain⟨_,_,_,vs,_,_,_,_,b⟩:=h.at hi;exact⟨vs,b⟩
theorem Ez {fuel:Nat} {d:DataW H_} {vs:List J} {t:TypeId} (hu:Tryz.prog.underlying t=some (.int .i64)) (hf:Fit Tryz.prog fuel t d) (hd:dq Tryz.prog V fuel t d vs):xN (lS d):=by
 have h:=(gi hu hf hd).2;simp[Lit.wf,IntKind.min,IntKind.max,IntKind.signed,IntKind.bits] at h;exact h
theorem Nc {fuel:Nat} {d:DataW H_} {vs:List J} (hf:Fit Tryz.prog (fuel+2) 92 d) (hd:dq Tryz.prog V (fuel+2) 92 d vs):xN (qT d).read/\xN (qT d).write:=by
 obtain⟨hl,h⟩:=gO (m:=5) Tryz.underlying92 S S hf hd;obtain⟨b,u⟩:Fit Tryz.prog _ 2 (cD d 3)/\dq Tryz.prog V _ 2 (cD d 3) _:=h 3 _ Z;obtain⟨A,C⟩:Fit Tryz.prog _ 2 (cD d 4)/\dq Tryz.prog V _ 2 (cD d 4) _:=h 4 _ Z;exact⟨Ez Tryz.underlying2 b u,Ez Tryz.underlying2 A C⟩
theorem Pc (u:∀(b:Nat) (o:cu),V.m.get b=some o->b<V.next) {fuel:Nat} {d:DataW H_} {vs:List J} (hf:Fit Tryz.prog (fuel+5) 27 d) (hd:dq Tryz.prog V (fuel+5) 27 d vs):Dx (Ij d):=by
 obtain⟨hl,h⟩:=gO (m:=4) Tryz.underlying27 S S hf hd;obtain⟨A,C⟩:Fit Tryz.prog _ 23 (cD d 0)/\dq Tryz.prog V _ 23 (cD d 0) _:=h 0 _ Z;obtain⟨E,F⟩:Fit Tryz.prog _ 24 (cD d 1)/\dq Tryz.prog V _ 24 (cD d 1) _:=h 1 _ Z;obtain⟨v0,_,h0⟩:=fh (m:=1) lS (fun x _=>xN x) Tryz.underlying23 S (by decide) u A C fun x vs hf hd=>Ez Tryz.underlying2 hf hd
 have rowE:∀(x:DataW H_) (vs:List J),Fit Tryz.prog (fuel+3) 64 x->dq Tryz.prog V (fuel+3) 64 x vs->∀e∈(eL x).map qT,xN e.read/\xN e.write:=fun x vs hf hd e he=>by
  obtain⟨_,_,G⟩:=fh (m:=5) qT (fun e _=>xN e.read/\xN e.write) Tryz.underlying64 S (by decide) u hf hd fun x vs hf hd=>Nc hf hd
  obtain⟨_,h⟩:=pU G e he;exact h
 obtain⟨v1,_,h1⟩:=fh (m:=1) (fun r=>(eL r).map qT) (fun r _=>∀e∈r,xN e.read/\xN e.write) Tryz.underlying24 S (by decide) u E F rowE;refine⟨fun x hx=>?_,fun t l hl e he=>?_⟩
 ·obtain⟨_,h⟩:=pU h0 x hx;exact h
 obtain⟨_,h⟩:=pU h1 l (gB_ hl);exact h e he
theorem Jv (u:∀(b:Nat) (o:cu),V.m.get b=some o->b<V.next) {fuel:Nat} {d:DataW H_} {vs:List J} (hf:Fit Tryz.prog (fuel+6) 29 d) (hd:dq Tryz.prog V (fuel+6) 29 d vs):∃v,vs= [v]/\bG (pI V) 4 (RG<|pI V) ((eL d).map Ij) v:=
 fh (m:=4) Ij (RG<|pI V) Tryz.underlying29 S (by decide) u hf hd fun x vs hf hd=>yN u hf hd
theorem Nd (u:∀(b:Nat) (o:cu),V.m.get b=some o->b<V.next) {fuel:Nat} {d:DataW H_} {vs:List J} (hf:Fit Tryz.prog (fuel+6) 29 d) (hd:dq Tryz.prog V (fuel+6) 29 d vs):∀g∈(eL d).map Ij,Dx g:=by
 obtain⟨_,_,A⟩:=fh (m:=4) Ij (fun g _=>Dx g) Tryz.underlying29 S (by decide) u hf hd fun x vs hf hd=>Pc u hf hd
 exact fun g C=>by obtain⟨_,h⟩:=pU A g C;exact h
end
section
variable {H_:Type} {enc:TypeId×Value->H_} {w:World}
def nN (w:World) (v:Value):Prop:=v= .slice none 0 0∨∃(a:Addr) (len cap:Nat) (c:Array Value) (e:TypeId) (fr:Nat×Nat),v= .slice (some a) len cap/\w.heap[a.block]? =some (.cells c e fr)
theorem oU {base:Nat} {t e:TypeId} {v:Value} (hu:Tryz.prog.underlying t=some (.slice e)) (b:Cell.okWide Tryz.prog w .any base t v):nN w v:=by
 unfold Cell.okWide at b;rw[hu] at b;dsimp only at b;unfold Cell.ok at b;rw[hu] at b;cases v with
 | slice a len cap=>
  cases a with
  | none=>
   try dsimp only at b
   split at b<;>first | (rename_i he;cases he;done) | skip
   all_goals first
    | (rename_i he;cases he;exact .inl Z)
    | (rename_i h1 m;cases m;done)
    | exact b.elim
  | some a=>
   obtain⟨_,_,_,aa,row,cells,d,_⟩:=b;unfold World.shape? at d;split at d
   ·rename_i c e fr hh;exact .inr ⟨a,len,cap,c,e,fr,Z,hh⟩
   cases d
 | _=>exact b.elim
theorem BY {base:Nat} {v:Value} (b:Value.okWide Tryz.prog w .any base 27 v):∃c:Array Value,v= .agg c/\c.size=4/\∀v∈c.toList,nN w v:=by
 unfold Value.okWide at b;rw[Tryz.underlying27] at b;obtain⟨c,rfl,m,ts,C,_,d⟩:=b;have m:c.size=4:=m.trans S;have A:Tryz.prog.cellTypes Tryz.prog.depth 27=some [23,24,25,25]:=by kernel_rfl
 rw[A] at C;cases C;refine⟨c,Z,m,fun v hv=>?_⟩;obtain⟨i,hi⟩:=gO_ hv;rw[aT_] at hi;have aa:i<4:=by rw[<-m];exact(aS_.1 hi).1
 obtain⟨u,hu,b⟩:=d i v hi;obtain rfl | rfl | rfl | rfl:i=0∨i=1∨i=2∨i=3:=by omega
 ·obtain rfl:(23:Nat)=u:=by simpa using hu
  exact oU Tryz.underlying23 b
 ·obtain rfl:(24:Nat)=u:=by simpa using hu
  exact oU Tryz.underlying24 b
 ·obtain rfl:(25:Nat)=u:=by simpa using hu
  exact oU Tryz.underlying25 b
 obtain rfl:(25:Nat)=u:=by simpa using hu
 exact oU Tryz.underlying25 b
theorem trodAll_cons {P:Program} {ts:List TypeId} {t:TypeId} {vs:List Value} {ds:List (DataW H_)} {ps:List MemPlace} {sp:Nat->Bool} (h:DataW.TrodAll enc P w 0 sp true (t::ts) vs ds ps):
  ∃v vs' d ds',vs=v::vs'/\ds=d::ds'/\(∃n p,DataW.trod enc P w 0 sp true n t v.cells.toList=some (d,p))/\∃q,DataW.TrodAll enc P w 0 sp true ts vs' ds' q:=by
 match vs,ds,h with
 | v::vs',d::ds',⟨p,q,⟨n,h1⟩,b,_⟩=>exact⟨v,vs',d,ds',Z,Z,⟨n,p,h1⟩,q,b⟩
theorem trodAll_nil {P:Program} {vs:List Value} {ds:List (DataW H_)} {ps:List MemPlace} {sp:Nat->Bool} (h:DataW.TrodAll enc P w 0 sp true [] vs ds ps):vs= []/\ds= []:=by
 match vs,ds,h with
 | [],[],_=>exact⟨Z,Z⟩
end
theorem LC {P:Program} {G:Cx} {ev:Operand->Option J} {V:N} {t u r:TypeId} {x y:Operand} {b:Nat} (hu:P.underlying t=some (.pointer u)) (hi:(P.info? u).isSome=true) (hx:ev x=some (.ptr b 0)) (hy:ev y=some (.ptr b 0)):dM P G ev V (.binOp .neq t x y r)= .val (.bool false) V:=by
 refine aC hx hy ?_;simp only[q8,Hd,q7,lr,DA,hu,Nat.beq_refl,hi,Bool.and_self,cond_true]
def NK (bb:Nat) (pa:J):Prop:=pa= .nilPtr∨pa= .ptr bb 0
theorem uK {G:Cx} (d:Plain G) (b:G.ov 151=true) {K:KP} {bb:Nat} {pa u:J} (hp:NK bb pa) {V:N} {L:Own} (aq:St V K ((bb,.own [pa,u] 128)::L)):
  aW Tryz.prog G 131 [.ptr bb 0] V fun v V'=>v= .tuple []/\St V' K ((bb,.own [.ptr bb 0,u] 128)::L):=by
 refine aY d Tryz.func131 Z (t:=PT.leaf.put (some (.ptr bb 0)) 0) (by rfl) ?_;refine H ?_;refine ah Z ?_;refine Y Z (D Z) Z ?_;refine Y Z (sP Z) Z ?_;refine Y Z (az Z (k:=0) S) Z ?_;refine Y Z (ku Z (aq.get 0 Z) S Z) Z ?_;rcases hp with rfl | rfl
 ·refine Y Z (aC (v:=.bool true) Z Z S) Z ?_;refine af ?_;refine B ?_;refine bj Z ?_;refine ah Z ?_;refine Y Z (D Z) Z ?_;refine Y Z (D Z) Z ?_;refine Y Z (G7 (KD (t:=128) S S (j:=Tryz.t128) Z S Z (aq.get 0 Z)<|Nat.le_of_ble_eq_true Z) S) Z ?_;refine Y Z (NF Z Z Z S b S) Z ?_;refine Y Z (G7 (KC (u:=128) S S S Z (aq.get 0 Z) S) S) Z ?_;refine Y Z (sP Z) Z ?_;refine Y Z (az Z (k:=0) S) Z ?_;refine gj aq .here Z (xM Z Z Z (aq.get 0 Z) (m:=1) S Z (Nat.le_of_ble_eq_true Z) (ar Z aQ) (cells':=[_,_]) Z) Z (fun V aq=>?_);refine af ?_;exact kf Z ⟨Z,aq⟩
 refine Y Z (aC (v:=.bool false) Z Z S) Z ?_;refine af ?_;refine B ?_;refine bz Z ?_;refine H ?_;refine ah Z ?_;refine Y Z (D Z) Z ?_;refine Y Z (sP Z) Z ?_;refine Y Z (az Z (k:=0) S) Z ?_;refine Y Z (ku Z (aq.get 0 Z) S Z) Z ?_;refine Y Z (D Z) Z ?_;refine Y Z (LC (u:=128) S S Z Z) Z ?_;refine af ?_;refine B ?_;refine bz Z ?_;refine aG ?_;exact kf Z ⟨Z,aq⟩
def yf (bb:Nat) (s:List Nat) (B_:Own):Prop:=∃pa u M,NK bb pa/\DH 5 s u M/\B_=(bb,.own [pa,u] 128)::M
theorem IQ (b o l:Nat):dL (.slice b o l (.upto 1)) (.slice b o l (.upto 1))=true:=by
 show(Nat.beq b b && Nat.beq o o && Nat.beq l l && Nat.beq 1 1)=true;simp only[Nat.beq_refl,Bool.and_self]
theorem mi {G:Cx} (E:Plain G) (b:G.ov 151=true) {K:KP} {bb:Nat} {s:List Nat} {B_:Own} (F:yf bb s B_) (hn:s.length<=900000) (c:Nat) {V:N} {L:Own} (aq:St V K (B_++L)):
  aW Tryz.prog G 95 [.ptr bb 0,.int .u8 (.ofNat c)] V fun v V'=>∃B',yf bb (s++[c]) B'/\St V' K (B'++L):=by
 obtain⟨pa,u,M,hp,hO,rfl⟩:=F;refine aY E Tryz.func95 Z (t:=(PT.leaf.put (some (.ptr bb 0)) 0).put (some (.int .u8 (.ofNat c))) 1) (by rfl) ?_;refine H ?_;refine ah Z ?_;refine Y Z (ak Z) Z ?_;refine af ?_;refine B ?_;refine H ?_;refine ah Z ?_;refine Y Z (D Z) Z ?_;refine cR Z (aT Z Z Z S) (fun _=>Z) (uK E b hp aq) ?_;rintro _ V ⟨rfl,aq⟩;refine af ?_;refine B ?_;refine H ?_;refine ah Z ?_;refine Y Z (D Z) Z ?_;refine Y Z (D Z) Z ?_;refine Y Z (sP Z) Z ?_;refine Y Z (az Z (k:=1) S) Z ?_;refine Y Z (ku Z (aq.get 0 Z) S Z) Z ?_;refine Y Z (D Z) Z ?_;refine gw aq Z (bN (e:=5) (m:=1) (z:=[.int .u8 0]) (cs:=[_]) S S S S<|bA Z Z Z Z bI) (fun _=>Z) (fun V d aq=>?_);replace aq:St V K ((d,.row [.int .u8 (.ofNat c)] 5 false)::(M++((bb,.own [.ptr bb 0,u] 128)::L))):=aq.perm (.cons _ List.perm_middle.symm);refine J6 (e:=5) (w:=[c]) hO aq.rD (Ni<|aq.get 0 Z) (by simp;omega) Z Z Z Z Z Z Z (fun _=>Z) (fun V A C hO14 aq=>?_);replace aq:=aq.weaken (KP.wC _ _ _);refine Y Z (sP Z) Z ?_;refine Y Z (az Z (k:=1) S) Z ?_;refine gj aq (.gX .here) Z (xM Z Z hO14.leaf.1 (aq.bX.get 0 Z) (m:=1) S Z (Nat.le_of_ble_eq_true Z) (ar hO14.leaf.2 aQ) (cells':=[_,_]) Z) Z (fun V aq=>?_);refine af ?_;refine B ?_;refine H ?_;refine ah Z ?_;refine Y Z (ak Z) Z ?_;refine af ?_;refine B ?_;refine aF ?_;exact aA Z Z ⟨_,⟨_,A,C,.inr Z,hO14,Z⟩,aq.perm List.perm_middle⟩
theorem qU {G:Cx} (C:Plain G) (b:G.ov 151=true) {K:KP} {bb:Nat} {s:List Nat} {B_:Own} (E:yf bb s B_) (w:List Nat) (hn:s.length+w.length<=900000) {V:N} {L:Own} (aq:St V K (B_++L)):
  aW Tryz.prog G 93 [.ptr bb 0,.str w] V fun v V'=>∃B',yf bb (s++w) B'/\St V' K (B'++L):=by
 obtain⟨pa,u,M,hp,hO,rfl⟩:=E;refine aY C Tryz.func93 Z (t:=(PT.leaf.put (some (.ptr bb 0)) 0).put (some (.str w)) 1) (by rfl) ?_;refine H ?_;refine ah Z ?_;refine Y Z (ak Z) Z ?_;refine Y Z (ak Z) Z ?_;refine af ?_;refine B ?_;refine H ?_;refine ah Z ?_;refine Y Z (D Z) Z ?_;refine cR Z (aT Z Z Z S) (fun _=>Z) (uK C b hp aq) ?_;rintro _ V ⟨rfl,aq⟩;refine af ?_;refine B ?_;refine H ?_;refine ah Z ?_;refine Y Z (D Z) Z ?_;refine Y Z (D Z) Z ?_;refine Y Z (sP Z) Z ?_;refine Y Z (az Z (k:=1) S) Z ?_;refine Y Z (ku Z (aq.get 0 Z) S Z) Z ?_;refine Y Z (D Z) Z ?_;replace aq:St V K (M++((bb,.own [.ptr bb 0,u] 128)::L)):=aq.perm List.perm_middle.symm;refine J6 (e:=5) (w:=w) hO aq (QQ _ w) oM Z Z Z Z Z Z Z (fun _=>Z) (fun V d A hO14 aq=>?_);refine Y Z (sP Z) Z ?_;refine Y Z (az Z (k:=1) S) Z ?_;refine gj aq (.gX .here) Z (xM Z Z hO14.leaf.1 (aq.bX.get 0 Z) (m:=1) S Z (Nat.le_of_ble_eq_true Z) (ar hO14.leaf.2 aQ) (cells':=[_,_]) Z) Z (fun V aq=>?_);refine af ?_;refine B ?_;refine H ?_;refine ah Z ?_;refine Y Z (D Z) Z ?_;refine Y Z (Dt Z Z Z S Z) Z ?_;refine Y Z (ak Z) Z ?_;refine Y Z (ak Z) Z ?_;refine af ?_;refine B ?_;refine aF ?_;exact vT Z Z Z ⟨_,⟨_,d,A,.inr Z,hO14,Z⟩,aq.perm List.perm_middle⟩
theorem Il {G:Cx} (I:Plain G) {K:KP} {bb:Nat} {s:List Nat} {B_:Own} (Q:yf bb s B_) (A:∀c∈s,c<=255) {V:N} {L:Own} (aq:St V K (B_++L)):
  aW Tryz.prog G 98 [.ptr bb 0] V fun v V'=>v= .str s/\St V' K L:=by
 obtain⟨pa,u,M,hp,hO,rfl⟩:=Q;refine aY I Tryz.func98 Z (t:=PT.leaf.put (some (.ptr bb 0)) 0) (by rfl) ?_;refine H ?_;refine ah Z ?_;refine Y Z (ak Z) Z ?_;refine af ?_;refine B ?_;refine H ?_;refine aU (l:=[(0,[]),(1,[]),(2,[]),(3,[]),(5,[]),(6,[]),(7,[]),(8,[]),(9,[]),(4,[8]),(10,[]),(11,[])]) S S ?_;refine aj Z Z (D Z) Z ?_;refine aj Z Z (sP Z) Z ?_;refine aj Z Z (az Z (k:=1) S) Z ?_;refine aj Z Z (ku Z (aq.get 0 Z) S Z) Z ?_;refine aj Z Z (D Z) Z ?_;refine aj Z Z (sP Z) Z ?_;refine aj Z Z (az Z (k:=1) S) Z ?_;refine aj Z Z (ku Z (aq.get 0 Z) S Z) Z ?_;rcases hO with ⟨rfl,rfl,rfl⟩ | ⟨F,C,b,rfl,rfl⟩
 ·refine aj Z Z (aO (R:=RB) (m:=1) (l:=[]) (K:=K) (.inl ⟨Z,Z⟩) Z Z Z (e:=5) S Z) Z ?_;refine kg Z Z (uN Z Z Z Z) Z ⟨aZ (bh Z Z Z Z Z (ku Z (aq.get 0 Z) S Z) Z) aV,?_⟩;refine aj Z Z (zG Z Z Z Z (by rfl)) Z ?_;refine aj Z Z (ak Z) Z ?_;refine a8 ?_;refine B ?_;refine aF ?_;exact aA Z Z ⟨Z,aq.pop⟩
 refine aj Z Z (G5 Z Z Z (e:=5) S Z) Z ?_
 have d:yB (.slice b 0 s.length (.upto 1))=some (.ptr b 0):=by
  show(bif Nat.ble 1 s.length then some (J.ptr b 0) else none)=_;rw[show Nat.ble 1 s.length=true from by rw[nE_];cases s with | nil=>exact absurd rfl F | cons x s=>simp];rfl
 refine kg Z Z (uN Z Z Z d) Z ⟨aZ (bh Z Z Z Z Z (ku Z (aq.get 0 Z) S Z)<|IQ _ _ _) aV,?_⟩;have hset:=aq.KI (.row (fE s) 5 true);refine aj Z Z (zG Z Z Z Z<|Nn (E:=5) (ro:=false) S S (aq.get 1 Z) F C A) Z ?_;refine aj Z Z (ak Z) Z ?_;refine a8 ?_;refine B ?_;refine aF ?_;exact aA Z Z ⟨Z,hset.pop.pop⟩
theorem pC {i:Nat} (h:1<=i) (h2:i<=1000):wr .i64 (Int.sub (.ofNat i) 1)= .ofNat (i-1):=by
 obtain⟨j,rfl⟩:∃j,i=j+1:=⟨i-1,by omega⟩;exact fP oM
theorem FW {m i:Nat} (h:36<=m) (hm:m<36 ^ (i-52)):54<=i:=by
 refine Classical.byContradiction fun hn=>?_
 have h1:36 ^ (i-52)<=36 ^ 1:=Nat.pow_le_pow_right oM oM;omega
theorem FV {m i:Nat} (hi:54<=i) (hm:m<36 ^ (i-52)):m/36<36 ^ (i-1-52):=by
 have e:i-52=(i-1-52)+1:=by omega
 rw[e,Nat.pow_succ] at hm;exact Nat.div_lt_of_lt_mul (by rw[Nat.mul_comm];exact hm)
theorem FX:∀c∈List.replicate 65 (0:Nat),c<=255:=fun c hc=>by rw[(List.mem_replicate.1 hc).2];omega
theorem wc {a:List Nat} {i v:Nat} (h:∀c∈a,c<=255) (hv:v<=255):∀c∈a.set i v,c<=255:=fun c hc=>by
 rcases List.mem_or_eq_of_mem_set hc with hc | rfl
 ·exact h c hc
 exact hv
theorem wb {a:List Nat} {i v:Nat} (h:0<i/\i<=a.length):(a.set (i-1) v).drop (i-1)=v::a.drop i:=by
 obtain⟨j,rfl⟩:∃j,i=j+1:=⟨i-1,by omega⟩;rw[Nat.add_sub_cancel,List.drop_eq_getElem_cons (by rw[List.length_set];omega),List.getElem_set_self,List.drop_set_of_lt oM]
theorem Af {a:List Nat} {i v:Nat} (h:0<i/\i<=a.length):(a.set (i-1) v).drop (i-1)= [v]++a.drop i:=wb h
theorem QZ {G:Cx} (b:Plain G) {K:KP} {V:N} {L:Own} (aq:St V K L):aW Tryz.prog G 163 [.int .i64 36] V fun v V'=>v= .bool false/\St V' K L:=by
 refine aY b Tryz.func163 Z (t:=PT.leaf.put (some (.int .i64 36)) 0) (by rfl) ?_;refine H ?_;refine ah Z ?_;refine Y Z (ak Z) Z ?_;refine af ?_;refine B ?_;refine H ?_;refine ah Z ?_;refine Y Z (D Z) Z ?_;refine Y Z (D Z) Z ?_;refine Y Z (aC (v:=.int .i64 35) Z Z S) Z ?_;refine Y Z (aC (v:=.int .i64 32) Z Z S) Z ?_;refine Y Z (aC (v:=.bool false) Z Z S) Z ?_;refine Y Z (ak Z) Z ?_;refine af ?_;refine B ?_;refine aF ?_;exact aA Z Z ⟨Z,aq⟩
theorem Nz {G:Cx} (d:Plain G) {K:KP} {m:Nat} (hm:m<100) {V:N} {L:Own} (aq:St V K L):aW Tryz.prog G 152 [.int .i64 (.ofNat m)] V fun v V'=>v= .str (fmtS 10 (.ofNat m))/\St V' K L:=by
 refine aY d Tryz.func152 Z (t:=PT.leaf.put (some (.int .i64 (.ofNat m))) 0) (by rfl) ?_;refine H ?_;refine ah Z ?_;refine Y Z (ak Z) Z ?_;refine af ?_;refine B ?_;refine H ?_;refine H ?_;refine ah Z ?_;refine Y Z (D Z) Z ?_;refine Y Z (aC Z Z Z) Z ?_;refine af ?_;refine B ?_;refine aD Z (fun h4=>?_) (fun h4=>?_)
 ·refine H ?_;refine ah Z ?_;refine Y Z (D Z) Z ?_;refine Y Z (D Z) Z ?_;refine Y Z (aC (v:=.int .i64 (.ofNat (m+1))) Z Z<|congrArg (fun z=>some (J.int .i64 z))<|aX oM) Z ?_;refine Y Z (Dw (s:=z6) (k:=m) (h:=m+1) S S Z Z oM (by have:=aS (b:=10) h4;show m+1<=36;omega)) Z ?_;refine Y Z (ak Z) Z ?_;refine af ?_;refine B ?_;refine aF ?_;refine ay ?_;exact aA Z Z ⟨by rw[KW<|aS (b:=10) h4],aq⟩
 refine aG ?_;refine B ?_;refine H ?_;refine ah Z ?_;refine Y Z (D Z) Z ?_;refine Y Z (aC (v:=.int .i64 (.ofNat (m*2))) Z Z<|congrArg (fun z=>some (J.int .i64 z))<|Fx (n:=m*2) oM) Z ?_;refine Y Z (D Z) Z ?_;refine Y Z (aC (v:=.int .i64 (.ofNat (m*2))) Z Z<|congrArg (fun z=>some (J.int .i64 z))<|Fx (n:=m*2) oM) Z ?_;refine Y Z (aC (v:=.int .i64 (.ofNat (m*2+2))) Z Z<|congrArg (fun z=>some (J.int .i64 z))<|Fx (n:=m*2+2) oM) Z ?_;refine Y Z (Dw (s:=Fb) (k:=m*2) (h:=m*2+2) S S Z Z oM (by show m*2+2<=200;omega)) Z ?_;refine Y Z (ak Z) Z ?_;refine af ?_;refine B ?_;refine aF ?_;exact aA Z Z ⟨by rw[KV hm<|bC (b:=10) h4],aq⟩
theorem QY {G:Cx} (hG:Plain G) {K:KP} {U:Nat} (hU:U<2 ^ 64) {V:N} {L:Own} (aq:St V K L):aW Tryz.prog G 155 [.au,.int .u64 (.ofNat U),.int .i64 36,.bool false,.bool false] V fun v V'=>v= .tuple [.au,.str<|tg U]/\St V' K L:=by
 refine aY hG Tryz.func155 Z (t:=((((PT.leaf.put (some (.au)) 0).put (some (.int .u64 (.ofNat U))) 1).put (some (.int .i64 36)) 2).put (some (.bool false)) 3).put (some (.bool false)) 4) (by rfl) ?_;refine H ?_;refine ah Z ?_;refine Y Z (ak Z) Z ?_;refine Y Z (ak Z) Z ?_;refine af ?_;refine B ?_;refine H ?_;refine H ?_;refine ah Z ?_;refine Y Z (D Z) Z ?_;refine Y Z (aC Z Z Z) Z ?_;refine bx Z (D Z) (fun _=>Z) (fun I=>?_) (fun I=>?_)
 ·exact absurd I (by decide)
 refine Y Z (D Z) Z ?_;refine Y Z (aC Z Z Z) Z ?_;refine Y Z (aJ Z Z) Z ?_;refine bx Z (D Z) (fun _=>Z) (fun M=>?_) (fun M=>?_)
 ·exact absurd M (by decide)
 refine Y Z (D Z) Z ?_;refine Y Z (aC Z Z Z) Z ?_;refine Y Z (aJ Z Z) Z ?_;refine af ?_;refine B ?_;refine aD Z (fun Q=>?_) (fun Q=>?_)
 ·exact absurd Q (by decide)
 refine aG ?_;refine B ?_;refine H ?_;refine ah Z ?_;refine bJ aq Z (dG (cs:=(List.replicate 65 (0:Nat)).map g8) S S) (fun _=>Z) (fun V b1 aq=>?_);refine af ?_;refine B ?_;refine H ?_;refine ah Z ?_;refine Y Z (ak Z) Z ?_;refine af ?_;refine B ?_;refine H ?_;refine H ?_;refine ah Z ?_;refine Y Z (D Z) Z ?_;refine af ?_;refine B ?_;refine bz Z ?_;refine aG ?_;refine B ?_;refine H ?_;refine H ?_;refine ah Z ?_;refine Y Z (D Z) Z ?_;refine bB Z (aT Z Z Z S) (fun _=>Z) (QZ hG aq) (fun V aq=>?_);refine af ?_;refine B ?_;refine bz Z ?_;refine H ?_;refine ah Z ?_;refine Y Z (D Z) Z ?_;refine Y Z (Bi (j:=.i64) (k:=.u64) (m:=.ofNat 36) S S S Z S) Z ?_;refine Y Z (ak Z) Z ?_;refine af ?_;refine B ?_;refine H ?_;refine aI ?_;refine a6 [1,13,18,66,67,68,69,70,71,72,73,74,75,76,77,78,79,80,81,82] (fun j t V=>∃(i m:Nat) (a:List Nat),(j=m/\53<=i/\i<=65/\m<=U/\m<36 ^ (i-52)/\a.length=65/\(∀c∈a,c<=255)/\tg U=tg m++a.drop i)/\t.get 1=some (.int .u64 (.ofNat m))/\t.get 13=some (.int .i64 (.ofNat i))/\St V K ((b1,.row (a.map g8) 197 false)::L)) (U) ⟨65,U,List.replicate 65 0,⟨Z,by omega,nR_ _,nR_ _,Nat.lt_of_lt_of_le hU (by decide),Z,FX,by rw[List.drop_eq_nil_of_le (by simp),List.append_nil]⟩,Z,Z,aq⟩ ?_;clear aq;intro ai t V an hI;obtain⟨i,m,a,⟨hj,ac,ad,X,R,aa,d,T⟩,E,u,aq⟩:=hI;replace an:=an.bS Z Z;obtain⟨o1,ab,al,am,ao,ap,av,ax,an⟩:=an;replace an:=an.bS Z Z;obtain⟨aE,a0,a1,a2,a3,a4,a5,a9,an⟩:=an;replace an:=an.mQ Z;obtain⟨bb,bd,be,bf,an⟩:=an;obtain rfl:=an.nil;clear an;replace E:o1=some _:=E;subst E;replace u:ab=some _:=u;subst u;refine H ?_;refine H ?_;refine ah Z ?_;refine Y Z (D Z) Z ?_;refine Y Z (D Z) Z ?_;refine Y Z (aC Z Z Z) Z ?_;refine af ?_;refine B ?_;refine aD Z (fun F=>?_) (fun F=>?_)
 ·refine aG ?_;refine B ?_;refine aI ?_;refine H ?_;refine ah Z ?_;have W:36<=m:=bC (a:=m) (b:=36) (bL F);have A:m<2 ^ 64:=by omega
  have hi2:=FW W R;refine Y Z (D Z) Z ?_;refine Y Z (aC (v:=.int .i64 (.ofNat (i-1))) Z Z<|congrArg (fun z=>some (J.int .i64 z))<|pC oM oM) Z ?_;refine Y Z (ak Z) Z ?_;refine af ?_;refine B ?_;refine H ?_;refine ah Z ?_;refine Y Z (D Z) Z ?_;refine Y Z (D Z) Z ?_;refine Y Z (aC (v:=.int .u64 (.ofNat (m/36))) Z Z<|N6 A) Z ?_;refine Y Z (ak Z) Z ?_;refine af ?_;refine B ?_;refine H ?_;refine ah Z ?_;refine Y Z (D Z) Z ?_;refine Y Z (D Z) Z ?_;refine Y Z (D Z) Z ?_;refine Y Z (D Z) Z ?_;refine Y Z (aC (v:=.int .u64 (.ofNat (m/36*36))) Z Z<|N0 A) Z ?_;refine Y Z (aC (v:=.int .u64 (.ofNat (m%36))) Z Z<|N8 A) Z ?_;refine Y Z (vz (s:=z6) (n:=m%36) (c:=dg (m%36)) S S Z<|vd<|Nat.mod_lt _ oM) Z ?_;refine Y Z (kr (n:=65) (e:=5) (m:=1) S S Z Z oM) Z ?_;refine gj aq .here Z (bg Z Z Z (aq.get 0 Z) (m:=1) S Z (by rw[lM_];omega) (ar Z aQ) (cells':=((a).set (i-1)<|dg (m%36)).map (g8)) (fZ (f:=g8) (v:=(dg (m%36))) oM (by first | omega | rfl))) Z (fun V aq=>?_);refine af ?_;refine B ?_;refine ah Z ?_;refine Y Z (D Z) Z ?_;refine Y Z (ak Z) Z ?_;refine af ?_;refine aH ?_;refine aL ⟨m/36,oM,(by(iterate 40 refine bc.put Z ?_);exact bc.refl _ _),i-1,m/36,_,⟨Z,by omega,by omega,Nat.le_trans (Nat.div_le_self _ _) X,FV hi2 R,by rw[List.length_set];exact aa,wc d<|FL<|Nat.mod_lt _ oM,by rw[T,yJ W,lQ_,Af oM]⟩,Z,Z,aq⟩
 refine ba ?_;refine aP ?_;refine aR ?_;refine aM ?_;refine B ?_;refine H ?_;refine ah Z ?_;have C:m<36:=aS (a:=m) (b:=36) (a7 F);refine Y Z (D Z) Z ?_;refine Y Z (aC (v:=.int .i64 (.ofNat (i-1))) Z Z<|congrArg (fun z=>some (J.int .i64 z))<|pC oM oM) Z ?_;refine Y Z (ak Z) Z ?_;refine af ?_;refine B ?_;refine ah Z ?_;refine Y Z (D Z) Z ?_;refine Y Z (D Z) Z ?_;refine Y Z (vz (s:=z6) (n:=m) (c:=dg (m)) S S Z<|vd (C)) Z ?_;refine Y Z (kr (n:=65) (e:=5) (m:=1) S S Z Z oM) Z ?_;refine gj aq .here Z (bg Z Z Z (aq.get 0 Z) (m:=1) S Z (by rw[lM_];omega) (ar Z aQ) (cells':=((a).set (i-1)<|dg m).map (g8)) (fZ (f:=g8) (v:=(dg m)) oM (by first | omega | rfl))) Z (fun V aq=>?_);refine af ?_;refine B ?_;refine H ?_;refine H ?_;refine ah Z ?_;refine Y Z (D Z) Z ?_;refine af ?_;refine B ?_;refine bz Z ?_;refine aG ?_;refine B ?_;refine H ?_;refine H ?_;refine ah Z ?_;refine Y Z (D Z) Z ?_;refine af ?_;refine B ?_;refine bz Z ?_;refine aG ?_;refine B ?_;refine H ?_;refine ah Z ?_;refine Y Z (D Z) Z ?_;refine Y Z (xL (n:=65) (e:=5) (sz:=1) (i:=(i-1)) S S Z Z oM) Z ?_;refine Y Z (G8 (e:=5) (i:=(i-1)) (n:=65) S S S S Z (by simp;omega) oM (aq.get 0 Z)<|wc d<|FL C) Z ?_;refine Y Z (ak Z) Z ?_;refine af ?_;refine B ?_;refine aF ?_;exact vT Z Z Z ⟨by rw[wb oM,T,wi C];rfl,aq.pop⟩
theorem QX {G:Cx} (hG:Plain G) {K:KP} {U:Nat} (hU:U<2 ^ 64) {X:Int} (aa:wr .u64 (Int.sub 0 X)= .ofNat U) {V:N} {L:Own} (aq:St V K L):aW Tryz.prog G 155 [.au,.int .u64 X,.int .i64 36,.bool true,.bool false] V fun v V'=>v= .tuple [.au,.str (45::tg U)]/\St V' K L:=by
 refine aY hG Tryz.func155 Z (t:=((((PT.leaf.put (some (.au)) 0).put (some (.int .u64 X)) 1).put (some (.int .i64 36)) 2).put (some (.bool true)) 3).put (some (.bool false)) 4) (by rfl) ?_;refine H ?_;refine ah Z ?_;refine Y Z (ak Z) Z ?_;refine Y Z (ak Z) Z ?_;refine af ?_;refine B ?_;refine H ?_;refine H ?_;refine ah Z ?_;refine Y Z (D Z) Z ?_;refine Y Z (aC Z Z Z) Z ?_;refine bx Z (D Z) (fun _=>Z) (fun I=>?_) (fun I=>?_)
 ·exact absurd I (by decide)
 refine Y Z (D Z) Z ?_;refine Y Z (aC Z Z Z) Z ?_;refine Y Z (aJ Z Z) Z ?_;refine bx Z (D Z) (fun _=>Z) (fun M=>?_) (fun M=>?_)
 ·exact absurd M (by decide)
 refine Y Z (D Z) Z ?_;refine Y Z (aC Z Z Z) Z ?_;refine Y Z (aJ Z Z) Z ?_;refine af ?_;refine B ?_;refine aD Z (fun Q=>?_) (fun Q=>?_)
 ·exact absurd Q (by decide)
 refine aG ?_;refine B ?_;refine H ?_;refine ah Z ?_;refine bJ aq Z (dG (cs:=(List.replicate 65 (0:Nat)).map g8) S S) (fun _=>Z) (fun V b1 aq=>?_);refine af ?_;refine B ?_;refine H ?_;refine ah Z ?_;refine Y Z (ak Z) Z ?_;refine af ?_;refine B ?_;refine H ?_;refine H ?_;refine ah Z ?_;refine Y Z (D Z) Z ?_;refine af ?_;refine B ?_;refine bj Z ?_;refine ah Z ?_;refine Y Z (D Z) Z ?_;refine Y Z ((show dM Tryz.prog G _ V _= .val (.int .u64 (.ofNat U)) V from by rw[<-aa];exact bD Z Z)) Z ?_;refine Y Z (ak Z) Z ?_;refine af ?_;refine B ?_;refine H ?_;refine H ?_;refine ah Z ?_;refine Y Z (D Z) Z ?_;refine bB Z (aT Z Z Z S) (fun _=>Z) (QZ hG aq) (fun V aq=>?_);refine af ?_;refine B ?_;refine bz Z ?_;refine H ?_;refine ah Z ?_;refine Y Z (D Z) Z ?_;refine Y Z (Bi (j:=.i64) (k:=.u64) (m:=.ofNat 36) S S S Z S) Z ?_;refine Y Z (ak Z) Z ?_;refine af ?_;refine B ?_;refine H ?_;refine aI ?_;refine a6 [1,13,18,66,67,68,69,70,71,72,73,74,75,76,77,78,79,80,81,82] (fun j t V=>∃(i m:Nat) (a:List Nat),(j=m/\53<=i/\i<=65/\m<=U/\m<36 ^ (i-52)/\a.length=65/\(∀c∈a,c<=255)/\tg U=tg m++a.drop i)/\t.get 1=some (.int .u64 (.ofNat m))/\t.get 13=some (.int .i64 (.ofNat i))/\St V K ((b1,.row (a.map g8) 197 false)::L)) (U) ⟨65,U,List.replicate 65 0,⟨Z,by omega,nR_ _,nR_ _,Nat.lt_of_lt_of_le hU (by decide),Z,FX,by rw[List.drop_eq_nil_of_le (by simp),List.append_nil]⟩,Z,Z,aq⟩ ?_;clear aq;intro am t V an hI;obtain⟨i,m,a,⟨hj,ai,al,ab,R,ac,d,T⟩,E,u,aq⟩:=hI;replace an:=an.bS Z Z;obtain⟨o1,ad,ao,ap,av,ax,aE,a0,an⟩:=an;replace an:=an.bS Z Z;obtain⟨a1,a2,a3,a4,a5,a9,bb,bd,an⟩:=an;replace an:=an.mQ Z;obtain⟨be,bf,bi,bk,an⟩:=an;obtain rfl:=an.nil;clear an;replace E:o1=some _:=E;subst E;replace u:ad=some _:=u;subst u;refine H ?_;refine H ?_;refine ah Z ?_;refine Y Z (D Z) Z ?_;refine Y Z (D Z) Z ?_;refine Y Z (aC Z Z Z) Z ?_;refine af ?_;refine B ?_;refine aD Z (fun F=>?_) (fun F=>?_)
 ·refine aG ?_;refine B ?_;refine aI ?_;refine H ?_;refine ah Z ?_;have W:36<=m:=bC (a:=m) (b:=36) (bL F);have A:m<2 ^ 64:=by omega
  have hi2:=FW W R;refine Y Z (D Z) Z ?_;refine Y Z (aC (v:=.int .i64 (.ofNat (i-1))) Z Z<|congrArg (fun z=>some (J.int .i64 z))<|pC oM oM) Z ?_;refine Y Z (ak Z) Z ?_;refine af ?_;refine B ?_;refine H ?_;refine ah Z ?_;refine Y Z (D Z) Z ?_;refine Y Z (D Z) Z ?_;refine Y Z (aC (v:=.int .u64 (.ofNat (m/36))) Z Z<|N6 A) Z ?_;refine Y Z (ak Z) Z ?_;refine af ?_;refine B ?_;refine H ?_;refine ah Z ?_;refine Y Z (D Z) Z ?_;refine Y Z (D Z) Z ?_;refine Y Z (D Z) Z ?_;refine Y Z (D Z) Z ?_;refine Y Z (aC (v:=.int .u64 (.ofNat (m/36*36))) Z Z<|N0 A) Z ?_;refine Y Z (aC (v:=.int .u64 (.ofNat (m%36))) Z Z<|N8 A) Z ?_;refine Y Z (vz (s:=z6) (n:=m%36) (c:=dg (m%36)) S S Z<|vd<|Nat.mod_lt _ oM) Z ?_;refine Y Z (kr (n:=65) (e:=5) (m:=1) S S Z Z oM) Z ?_;refine gj aq .here Z (bg Z Z Z (aq.get 0 Z) (m:=1) S Z (by rw[lM_];omega) (ar Z aQ) (cells':=((a).set (i-1)<|dg (m%36)).map (g8)) (fZ (f:=g8) (v:=(dg (m%36))) oM (by first | omega | rfl))) Z (fun V aq=>?_);refine af ?_;refine B ?_;refine ah Z ?_;refine Y Z (D Z) Z ?_;refine Y Z (ak Z) Z ?_;refine af ?_;refine aH ?_;refine aL ⟨m/36,oM,(by(iterate 40 refine bc.put Z ?_);exact bc.refl _ _),i-1,m/36,_,⟨Z,by omega,by omega,Nat.le_trans (Nat.div_le_self _ _) ab,FV hi2 R,by rw[List.length_set];exact ac,wc d<|FL<|Nat.mod_lt _ oM,by rw[T,yJ W,lQ_,Af oM]⟩,Z,Z,aq⟩
 refine ba ?_;refine aP ?_;refine aR ?_;refine aM ?_;refine B ?_;refine H ?_;refine ah Z ?_;have C:m<36:=aS (a:=m) (b:=36) (a7 F);refine Y Z (D Z) Z ?_;refine Y Z (aC (v:=.int .i64 (.ofNat (i-1))) Z Z<|congrArg (fun z=>some (J.int .i64 z))<|pC oM oM) Z ?_;refine Y Z (ak Z) Z ?_;refine af ?_;refine B ?_;refine ah Z ?_;refine Y Z (D Z) Z ?_;refine Y Z (D Z) Z ?_;refine Y Z (vz (s:=z6) (n:=m) (c:=dg (m)) S S Z<|vd (C)) Z ?_;refine Y Z (kr (n:=65) (e:=5) (m:=1) S S Z Z oM) Z ?_;refine gj aq .here Z (bg Z Z Z (aq.get 0 Z) (m:=1) S Z (by rw[lM_];omega) (ar Z aQ) (cells':=((a).set (i-1)<|dg m).map (g8)) (fZ (f:=g8) (v:=(dg m)) oM (by first | omega | rfl))) Z (fun V aq=>?_);refine af ?_;refine B ?_;refine H ?_;refine H ?_;refine ah Z ?_;refine Y Z (D Z) Z ?_;refine af ?_;refine B ?_;refine bj Z ?_;refine H ?_;refine ah Z ?_;refine Y Z (D Z) Z ?_;refine Y Z (aC (v:=.int .i64 (.ofNat ((i-1)-1))) Z Z<|congrArg (fun z=>some (J.int .i64 z))<|pC oM oM) Z ?_;refine Y Z (ak Z) Z ?_;refine af ?_;refine B ?_;refine ah Z ?_;refine Y Z (D Z) Z ?_;refine Y Z (kr (n:=65) (e:=5) (m:=1) S S Z Z oM) Z ?_;refine gj aq .here Z (bg Z Z Z (aq.get 0 Z) (m:=1) S Z (by rw[lM_];rw[List.length_set];omega) (ar Z aQ) (cells':=(((a).set (i-1)<|dg m).set (i-1-1) 45).map (g8))<|fZ (f:=g8) (v:=45) (by rw[List.length_set];omega) (by first | omega | rfl)) Z (fun V aq=>?_);refine af ?_;refine B ?_;refine H ?_;refine H ?_;refine ah Z ?_;refine Y Z (D Z) Z ?_;refine af ?_;refine B ?_;refine bz Z ?_;refine aG ?_;refine B ?_;refine H ?_;refine ah Z ?_;refine Y Z (D Z) Z ?_;refine Y Z (xL (n:=65) (e:=5) (sz:=1) (i:=(i-1-1)) S S Z Z oM) Z ?_;refine Y Z (G8 (e:=5) (i:=(i-1-1)) (n:=65) S S S S Z (by simp;omega) oM (aq.get 0 Z)<|wc (wc d<|FL C) oM) Z ?_;refine Y Z (ak Z) Z ?_;refine af ?_;refine B ?_;refine aF ?_;exact vT Z Z Z ⟨by rw[Af (by rw[List.length_set];omega),wb oM,T,wi C];rfl,aq.pop⟩
theorem Ob {G:Cx} (hG:Plain G) {K:KP} {g:Nat} {c:List cU->List cU->Int} (ab:qv Tryz.prog g=true) {l1 l2:List (List cU)} {v1 v2:J} {V:N} {L:Own} (aq:St V K L) (h1:bG K 1 (RL K 5 nX) l1 v1) (h2:bG K 1 (RL K 5 nX) l2 v2)
  (E:∀x y u w V L,St V K L->bG K 5 nX x u->bG K 5 nX y w->aW Tryz.prog G g [u,w] V fun v V'=>v= .int .i64 (c x y)/\St V' K L):
  aW Tryz.prog G 80 [v1,v2,.func g [] []] V fun v V'=>v= .int .i64 (dS c l1 l2)/\St V' K L:=by
 refine SC hG Tryz.func80 Z<|Rh 9 Z<|Y Z (To h1 Z Z Z (e:=64) Z) Z<|Rj 4 Z ?_;obtain⟨LL1,aq,hLL1⟩:=aq.named;refine a6 (rg 6 5++rg 13 21) (fun j t V=>∃(i:Nat),j+i=l1.length/\dS c l1 l2=dS c (l1.drop i) (l2.drop i)/\t.get 13=some (.int .i64 (.ofNat i))/\St V K LL1) (l1.length) ⟨0,Z,Z,Z,aq⟩ ?_;clear aq;intro j2 t V an hI;obtain⟨i,ao,d,Q,aq⟩:=hI;subst hLL1;obtain⟨oo,rfl⟩:=an.q1 Q Z;refine R4 6 Z<|aD Z (fun C=>?_) (fun C=>?_)
 ·refine PL 7 Z ?_;obtain⟨ap,b,ac⟩:=cL C;refine Tg (e:=64) (m:=1) h1 b Z Z Z Z (fun av ad R ai T=>?_);have hr16':=T;obtain⟨ax,rfl,U⟩:=hr16';refine Y Z (Tq aq R Z Z) Z<|Qz 9 Z<|Y Z (To h2 Z Z Z (e:=64) Z) Z<|R7 3 Z<|aD Z (fun F=>?_) (fun F=>?_)
  ·refine SG 6 Z<|ay<|aK<|ay<|bq<|aK<|ay (?_);exact aA Z Z ⟨cJ (by symm;rw[d];exact mM b<|jg F),aq⟩
  refine aG<|R5 4 Z ?_;obtain⟨aE,A⟩:=bZ (jm F);refine Tg (e:=64) (m:=1) h2 A Z Z Z Z (fun a0 al W am X=>?_);have hr24':=X;obtain⟨a1,rfl,aa⟩:=hr24';refine Y Z (Tq aq W Z Z) Z<|Rk 8 Z<|bB Z (aT Z Z Z ab) (fun _=>Z) (E _ _ _ _ _ _ aq U aa) (fun V aq=>?_);refine R7 9 Z<|aD Z (fun I=>?_) (fun I=>?_)
  ·refine SG 7 Z<|aK<|ay<|bq<|aK<|ay (?_);exact aA Z Z ⟨cJ (by symm;rw[d];exact mO b A<|bL I),aq⟩
  refine aG<|aH<|SF 4 Z<|aL ⟨j2-1,by omega,oF,i+1,by omega,d.trans<|mN b A<|a7 I,cI<|aX (by have:=h1.bK;omega),aq⟩
 refine Ri 3 Z<|aM<|Rh 4 Z<|Y Z (To h1 Z Z Z (e:=64) Z) Z<|vQ 1 Z<|Y Z (To h2 Z Z Z (e:=64) Z) Z<|R7 3 Z<|aD Z (fun M=>?_) (fun M=>?_)
 ·refine R6 7 Z ?_;exact aA Z Z ⟨cJ (by symm;rw[d];exact mL (bC C) oM<|aS M),aq⟩
 refine R6 8 Z ?_;exact aA Z Z ⟨cJ (by symm;rw[d];exact ow (bC C)<|bC M),aq⟩
theorem Oc {G:Cx} (hG:Plain G) {K:KP} {g:Nat} {c:List cQ->List cQ->Int} (ab:qv Tryz.prog g=true) {l1 l2:List (List cQ)} {v1 v2:J} {V:N} {L:Own} (aq:St V K L) (h1:bG K 1 (RL K 2 kz) l1 v1) (h2:bG K 1 (RL K 2 kz) l2 v2)
  (E:∀x y u w V L,St V K L->bG K 2 kz x u->bG K 2 kz y w->aW Tryz.prog G g [u,w] V fun v V'=>v= .int .i64 (c x y)/\St V' K L):
  aW Tryz.prog G 85 [v1,v2,.func g [] []] V fun v V'=>v= .int .i64 (dS c l1 l2)/\St V' K L:=by
 refine SC hG Tryz.func85 Z<|Rh 9 Z<|Y Z (To h1 Z Z Z (e:=57) Z) Z<|Rj 4 Z ?_;obtain⟨LL1,aq,hLL1⟩:=aq.named;refine a6 (rg 6 5++rg 13 21) (fun j t V=>∃(i:Nat),j+i=l1.length/\dS c l1 l2=dS c (l1.drop i) (l2.drop i)/\t.get 13=some (.int .i64 (.ofNat i))/\St V K LL1) (l1.length) ⟨0,Z,Z,Z,aq⟩ ?_;clear aq;intro j2 t V an hI;obtain⟨i,ao,d,Q,aq⟩:=hI;subst hLL1;obtain⟨oo,rfl⟩:=an.q1 Q Z;refine R4 6 Z<|aD Z (fun C=>?_) (fun C=>?_)
 ·refine PL 7 Z ?_;obtain⟨ap,b,ac⟩:=cL C;refine Tg (e:=57) (m:=1) h1 b Z Z Z Z (fun av ad R ai T=>?_);have hr16':=T;obtain⟨ax,rfl,U⟩:=hr16';refine Y Z (Tq aq R Z Z) Z<|Qz 9 Z<|Y Z (To h2 Z Z Z (e:=57) Z) Z<|R7 3 Z<|aD Z (fun F=>?_) (fun F=>?_)
  ·refine SG 6 Z<|ay<|aK<|ay<|bq<|aK<|ay (?_);exact aA Z Z ⟨cJ (by symm;rw[d];exact mM b<|jg F),aq⟩
  refine aG<|R5 4 Z ?_;obtain⟨aE,A⟩:=bZ (jm F);refine Tg (e:=57) (m:=1) h2 A Z Z Z Z (fun a0 al W am X=>?_);have hr24':=X;obtain⟨a1,rfl,aa⟩:=hr24';refine Y Z (Tq aq W Z Z) Z<|Rk 8 Z<|bB Z (aT Z Z Z ab) (fun _=>Z) (E _ _ _ _ _ _ aq U aa) (fun V aq=>?_);refine R7 9 Z<|aD Z (fun I=>?_) (fun I=>?_)
  ·refine SG 7 Z<|aK<|ay<|bq<|aK<|ay (?_);exact aA Z Z ⟨cJ (by symm;rw[d];exact mO b A<|bL I),aq⟩
  refine aG<|aH<|SF 4 Z<|aL ⟨j2-1,by omega,oF,i+1,by omega,d.trans<|mN b A<|a7 I,cI<|aX (by have:=h1.bK;omega),aq⟩
 refine Ri 3 Z<|aM<|Rh 4 Z<|Y Z (To h1 Z Z Z (e:=57) Z) Z<|vQ 1 Z<|Y Z (To h2 Z Z Z (e:=57) Z) Z<|R7 3 Z<|aD Z (fun M=>?_) (fun M=>?_)
 ·refine R6 7 Z ?_;exact aA Z Z ⟨cJ (by symm;rw[d];exact mL (bC C) oM<|aS M),aq⟩
 refine R6 8 Z ?_;exact aA Z Z ⟨cJ (by symm;rw[d];exact ow (bC C)<|bC M),aq⟩
theorem QV {G:Cx} (hG:Plain G) {K:KP} {g:Nat} {c:cU->cU->Int} (W:qv Tryz.prog g=true) {l1 l2:List (cU)} {v1 v2:J} {V:N} {L:Own} (aq:St V K L) (h1:bG K 5 (nX) l1 v1) (X:bG K 5 (nX) l2 v2)
  (C:∀x y V L,St V K L->aW Tryz.prog G g [.agg<|ints x.ints,.agg<|ints y.ints] V fun v V'=>v= .int .i64 (c x y)/\St V' K L):
  aW Tryz.prog G 115 [v1,v2,.func g [] []] V fun v V'=>v= .int .i64 (dS c l1 l2)/\St V' K L:=by
 refine SC hG Tryz.func115 Z<|Rh 9 Z<|Y Z (To h1 Z Z Z (e:=92) Z) Z<|Rj 4 Z ?_;obtain⟨LL1,aq,hLL1⟩:=aq.named;refine a6 (rg 6 5++rg 13 21) (fun j t V=>∃(i:Nat),j+i=l1.length/\dS c l1 l2=dS c (l1.drop i) (l2.drop i)/\t.get 13=some (.int .i64 (.ofNat i))/\St V K LL1) (l1.length) ⟨0,Z,Z,Z,aq⟩ ?_;clear aq;intro j2 t V an hI;obtain⟨i,al,d,M,aq⟩:=hI;subst hLL1;obtain⟨oo,rfl⟩:=an.q1 M Z;refine R4 6 Z<|aD Z (fun A=>?_) (fun A=>?_)
 ·refine PL 7 Z ?_;obtain⟨am,b,aa⟩:=cL A;refine Tg (e:=92) (m:=5) h1 b Z Z Z Z (fun ao ab Q ac R=>?_);obtain rfl:=R;refine Y Z (Tr aq Q Z Z) Z<|kp aq Z (Tp (cs:=[iZ,iZ,iZ,iZ,iZ])) (fun V b1 aq=>?_);refine vQ 1 Z<|cF aq Z (Ts Z Z Z aq.g0 (m:=5) Z Z (cells':=[_,_,_,_,_]) Z) Z (fun V aq=>?_);refine Qz 7 Z<|Y Z (To X Z Z Z (e:=92) Z) Z<|R7 3 Z<|aD Z (fun E=>?_) (fun E=>?_)
  ·refine SG 6 Z<|ay<|aK<|ay<|bq<|aK<|ay (?_);exact aA Z Z ⟨cJ (by symm;rw[d];exact mM b<|jg E),aq.pop⟩
  refine aG<|R5 4 Z ?_;obtain⟨ap,u⟩:=bZ (jm E);refine Tg (e:=92) (m:=5) X u Z Z Z Z (fun av ad T ai U=>?_);obtain rfl:=U;refine Y Z (Tr aq T Z Z) Z<|kp aq Z (Tp (cs:=[iZ,iZ,iZ,iZ,iZ])) (fun V b2 aq=>?_);refine cF aq Z (Ts Z Z Z aq.g0 (m:=5) Z Z (cells':=[_,_,_,_,_]) Z) Z (fun V aq=>?_);refine Rk 5 Z<|Y Z (Tn Z aq.g1 (n:=5) (vs:=[_,_,_,_,_]) Z) Z<|Y Z (Tn Z aq.g0 (n:=5) (vs:=[_,_,_,_,_]) Z) Z<|bB Z (aT Z Z Z W) (fun _=>Z) (C _ _ _ _ aq) (fun V aq=>?_);refine R7 9 Z<|aD Z (fun F=>?_) (fun F=>?_)
  ·refine SG 7 Z<|aK<|ay<|bq<|aK<|ay (?_);exact aA Z Z ⟨cJ (by symm;rw[d];exact mO b u<|bL F),aq.pop.pop⟩
  refine aG<|aH<|SF 4 Z ?_;have aq:=aq.pop;have aq:=aq.pop;refine aL ⟨j2-1,by omega,oF,i+1,by omega,d.trans<|mN b u<|a7 F,cI<|aX (by have:=h1.bK;omega),aq⟩
 refine Ri 3 Z<|aM<|Rh 4 Z<|Y Z (To h1 Z Z Z (e:=92) Z) Z<|vQ 1 Z<|Y Z (To X Z Z Z (e:=92) Z) Z<|R7 3 Z<|aD Z (fun I=>?_) (fun I=>?_)
 ·refine R6 7 Z ?_;exact aA Z Z ⟨cJ (by symm;rw[d];exact mL (bC A) oM<|aS I),aq⟩
 refine R6 8 Z ?_;exact aA Z Z ⟨cJ (by symm;rw[d];exact ow (bC A)<|bC I),aq⟩
theorem QW {G:Cx} (hG:Plain G) {K:KP} {g:Nat} {c:cQ->cQ->Int} (W:qv Tryz.prog g=true) {l1 l2:List (cQ)} {v1 v2:J} {V:N} {L:Own} (aq:St V K L) (h1:bG K 2 (kz) l1 v1) (X:bG K 2 (kz) l2 v2)
  (C:∀x y V L,St V K L->aW Tryz.prog G g [.agg<|ints x.ints,.agg<|ints y.ints] V fun v V'=>v= .int .i64 (c x y)/\St V' K L):
  aW Tryz.prog G 118 [v1,v2,.func g [] []] V fun v V'=>v= .int .i64 (dS c l1 l2)/\St V' K L:=by
 refine SC hG Tryz.func118 Z<|Rh 9 Z<|Y Z (To h1 Z Z Z (e:=59) Z) Z<|Rj 4 Z ?_;obtain⟨LL1,aq,hLL1⟩:=aq.named;refine a6 (rg 6 5++rg 13 21) (fun j t V=>∃(i:Nat),j+i=l1.length/\dS c l1 l2=dS c (l1.drop i) (l2.drop i)/\t.get 13=some (.int .i64 (.ofNat i))/\St V K LL1) (l1.length) ⟨0,Z,Z,Z,aq⟩ ?_;clear aq;intro j2 t V an hI;obtain⟨i,al,d,M,aq⟩:=hI;subst hLL1;obtain⟨oo,rfl⟩:=an.q1 M Z;refine R4 6 Z<|aD Z (fun A=>?_) (fun A=>?_)
 ·refine PL 7 Z ?_;obtain⟨am,b,aa⟩:=cL A;refine Tg (e:=59) (m:=2) h1 b Z Z Z Z (fun ao ab Q ac R=>?_);obtain rfl:=R;refine Y Z (Tr aq Q Z Z) Z<|kp aq Z (Tp (cs:=[iZ,iZ])) (fun V b1 aq=>?_);refine vQ 1 Z<|cF aq Z (Ts Z Z Z aq.g0 (m:=2) Z Z (cells':=[_,_]) Z) Z (fun V aq=>?_);refine Qz 7 Z<|Y Z (To X Z Z Z (e:=59) Z) Z<|R7 3 Z<|aD Z (fun E=>?_) (fun E=>?_)
  ·refine SG 6 Z<|ay<|aK<|ay<|bq<|aK<|ay (?_);exact aA Z Z ⟨cJ (by symm;rw[d];exact mM b<|jg E),aq.pop⟩
  refine aG<|R5 4 Z ?_;obtain⟨ap,u⟩:=bZ (jm E);refine Tg (e:=59) (m:=2) X u Z Z Z Z (fun av ad T ai U=>?_);obtain rfl:=U;refine Y Z (Tr aq T Z Z) Z<|kp aq Z (Tp (cs:=[iZ,iZ])) (fun V b2 aq=>?_);refine cF aq Z (Ts Z Z Z aq.g0 (m:=2) Z Z (cells':=[_,_]) Z) Z (fun V aq=>?_);refine Rk 5 Z<|Y Z (Tn Z aq.g1 (n:=2) (vs:=[_,_]) Z) Z<|Y Z (Tn Z aq.g0 (n:=2) (vs:=[_,_]) Z) Z<|bB Z (aT Z Z Z W) (fun _=>Z) (C _ _ _ _ aq) (fun V aq=>?_);refine R7 9 Z<|aD Z (fun F=>?_) (fun F=>?_)
  ·refine SG 7 Z<|aK<|ay<|bq<|aK<|ay (?_);exact aA Z Z ⟨cJ (by symm;rw[d];exact mO b u<|bL F),aq.pop.pop⟩
  refine aG<|aH<|SF 4 Z ?_;have aq:=aq.pop;have aq:=aq.pop;refine aL ⟨j2-1,by omega,oF,i+1,by omega,d.trans<|mN b u<|a7 F,cI<|aX (by have:=h1.bK;omega),aq⟩
 refine Ri 3 Z<|aM<|Rh 4 Z<|Y Z (To h1 Z Z Z (e:=59) Z) Z<|vQ 1 Z<|Y Z (To X Z Z Z (e:=59) Z) Z<|R7 3 Z<|aD Z (fun I=>?_) (fun I=>?_)
 ·refine R6 7 Z ?_;exact aA Z Z ⟨cJ (by symm;rw[d];exact mL (bC A) oM<|aS I),aq⟩
 refine R6 8 Z ?_;exact aA Z Z ⟨cJ (by symm;rw[d];exact ow (bC A)<|bC I),aq⟩
theorem No {G:Cx} (W:Plain G) {K:KP} {l1 l2:List (Int)} {X v2:J} {V:N} {L:Own} (aq:St V K L) (h1:bG K 1 (cH) l1 X) (U:bG K 1 (cH) l2 v2):
  aW Tryz.prog G 89 [X,v2] V fun v V'=>v= .int .i64 (dS eK l1 l2)/\St V' K L:=by
 refine SC W Tryz.func89 Z<|Rh 9 Z<|Y Z (To h1 Z Z Z (e:=2) Z) Z<|Rj 4 Z ?_;obtain⟨LL1,aq,hLL1⟩:=aq.named;refine a6 (rg 4 5++rg 11 20) (fun j t V=>∃(i:Nat),j+i=l1.length/\dS eK l1 l2=dS eK (l1.drop i) (l2.drop i)/\t.get 11=some (.int .i64 (.ofNat i))/\St V K LL1) (l1.length) ⟨0,Z,Z,Z,aq⟩ ?_;clear aq;intro j2 t V an hI;obtain⟨i,al,d,I,aq⟩:=hI;subst hLL1;obtain⟨oo,rfl⟩:=an.q1 I Z;refine R4 6 Z<|aD Z (fun A=>?_) (fun A=>?_)
 ·refine PL 7 Z ?_;obtain⟨am,b,aa⟩:=cL A;refine Tg (e:=2) (m:=1) h1 b Z Z Z Z (fun ao ab M ac Q=>?_);obtain rfl:=Q;refine Y Z (Tq aq M Z Z) Z<|Qz 9 Z<|Y Z (To U Z Z Z (e:=2) Z) Z<|R7 3 Z<|aD Z (fun C=>?_) (fun C=>?_)
  ·refine SG 6 Z<|ay<|aK<|ay<|bq<|aK<|ay (?_);exact aA Z Z ⟨cJ (by symm;rw[d];exact mM b<|jg C),aq⟩
  refine aG<|R5 4 Z ?_;obtain⟨ap,u⟩:=bZ (jm C);refine Tg (e:=2) (m:=1) U u Z Z Z Z (fun av ad R ai T=>?_);obtain rfl:=T;refine Y Z (Tq aq R Z Z) Z<|Rk 7 Z<|bB Z (Tk Z Z Z) (fun _=>Z) (uJ W _ _ aq) (fun V aq=>?_);refine R7 9 Z<|aD Z (fun E=>?_) (fun E=>?_)
  ·refine SG 7 Z<|aK<|ay<|bq<|aK<|ay (?_);exact aA Z Z ⟨cJ (by symm;rw[d];exact mO b u<|bL E),aq⟩
  refine aG<|aH<|SF 4 Z<|aL ⟨j2-1,by omega,oF,i+1,by omega,d.trans<|mN b u<|a7 E,cI<|aX (by have:=h1.bK;omega),aq⟩
 refine Ri 3 Z<|aM<|Rh 4 Z<|Y Z (To h1 Z Z Z (e:=2) Z) Z<|vQ 1 Z<|Y Z (To U Z Z Z (e:=2) Z) Z<|R7 3 Z<|aD Z (fun F=>?_) (fun F=>?_)
 ·refine R6 7 Z ?_;exact aA Z Z ⟨cJ (by symm;rw[d];exact mL (bC A) oM<|aS F),aq⟩
 refine R6 8 Z ?_;exact aA Z Z ⟨cJ (by symm;rw[d];exact ow (bC A)<|bC F),aq⟩
theorem Bc {G:Cx} (b:Plain G) {K:KP} {l1 l2:List cU} {d m:J} {V:N} {L:Own} (aq:St V K L) (h1:bG K 5 nX l1 d) (u:bG K 5 nX l2 m):aW Tryz.prog G 81 [d,m] V fun v V'=>v= .int .i64 (iC l1 l2)/\St V' K L:=by
 refine SC b Tryz.func81 Z<|R5 8 Z<|Y Z (To h1 Z Z Z (e:=92) Z) Z<|vQ 1 Z<|Y Z (To u Z Z Z (e:=92) Z) Z<|bB Z (Tk Z Z Z) (fun _=>Z) (zr b _ _ aq) (fun V aq=>?_);refine R8 4 Z ?_;exact aA Z Z ⟨Z,aq⟩
theorem uV {G:Cx} (b:Plain G) {K:KP} {l1 l2:List cU} {d m:J} {V:N} {L:Own} (aq:St V K L) (h1:bG K 5 nX l1 d) (u:bG K 5 nX l2 m):aW Tryz.prog G 83 [d,m] V fun v V'=>v= .int .i64 (dS nO l1 l2)/\St V' K L:=by
 refine SC b Tryz.func83 Z<|R5 9 Z<|bB Z (Tk Z Z Z) (fun _=>Z) (QV b (g:=116) (c:=nO) S aq h1 u (fun _ _ _ _ aq=>xI b _ _ aq)) (fun V aq=>?_);refine R8 4 Z ?_;exact aA Z Z ⟨Z,aq⟩
theorem Sv {G:Cx} (b:Plain G) {K:KP} {l1 l2:List cQ} {u A p q:J} (h1:bG K 2 kz l1 u) (C:bG K 2 kz l2 A) (d:dz K p [u]) (m:dz K q [A]) {V:N} {L:Own} (aq:St V K L):aW Tryz.prog G 117 [p,q] V fun v V'=>v= .int .i64 (dS ou l1 l2)/\St V' K L:=by
 refine SC b Tryz.func117 Z<|R5 7 Z<|Y Z (Tq aq d Z Z) Z<|Y Z (Tq aq m Z Z) Z<|bB Z (Tk Z Z Z) (fun _=>Z) (QW b (g:=119) (c:=ou) S aq h1 C (fun _ _ _ _ aq=>Dj b _ _ aq)) (fun V aq=>?_);refine R8 4 Z ?_;exact aA Z Z ⟨Z,aq⟩
theorem QI {G:Cx} (E:Plain G) {K:KP} {m u e1 e2:Nat} {A C:J} (b:K m (.row [A] e1 false)) (d:K u (.row [C] e2 false)) {l1 l2:List cQ} (h1:bG K 2 kz l1 A) (F:bG K 2 kz l2 C):uQ Tryz.prog G K (dS ou l1 l2) [.func 117 [] [.ptr m 0,.ptr u 0]]:=⟨117,_,Z,by kernel_rfl,fun V L aq=>Sv E h1 F (fO b) (fO d) aq⟩
theorem sM {G:Cx} (b:Plain G) {K:KP} {l1 l2:List cQ} {u A:J} {V:N} {L:Own} (aq:St V K L) (h1:bG K 2 kz l1 u) (d:bG K 2 kz l2 A):aW Tryz.prog G 86 [u,A] V fun v V'=>v= .int .i64 (iB l1 l2)/\St V' K L:=by
 refine SC b Tryz.func86 Z<|R5 2 Z<|kp aq Z (cG Z h1.leaf.1) (fun V C aq=>?_);refine kp aq Z (cG Z d.leaf.1) (fun V E aq=>?_);refine Rk 5 Z<|Y Z (Tm Z aq.g1 Z) Z<|Y Z (To h1 Z Z Z (e:=59) Z) Z<|Y Z (Tm Z aq.g0 Z) Z<|Y Z (To d Z Z Z (e:=59) Z) Z<|cR Z (Tk Z Z Z) (fun _=>Z) (iv b _ _ aq) ?_;rintro _ V ⟨F,I,rfl,aq⟩;refine vQ 1 Z<|gw aq Z (bN (e:=115) (m:=1) (z:=[.nilFunc]) (cs:=[.func 113 [] [.ptr F 0,.ptr I 0],.func 117 [] [.ptr C 0,.ptr E 0]]) S S S S (by rfl)) (fun _=>Z) (fun V b5 aq=>?_);have hq:=aq.keeps (M:=[_,_,_,_,_]);refine bB Z (Tk Z Z Z) (fun _=>Z) (nm<|qm b hq<|fc.slice (fc.cons (qP b (KP.cA 2 Z)<|KP.cA 1 Z)<|fc.cons (QI b (KP.cA 4 Z) (KP.cA 3 Z) (h1.mono (KP.dX _ _) fun _ _ h=>h)<|d.mono (KP.dX _ _) fun _ _ h=>h) fc.nil) (KP.cA 0 Z) Z (nR_ _) (by decide)) (fun V aq=>?_);clear hq;refine R8 4 Z ?_;exact aA Z Z ⟨Z,aq⟩
theorem Sn {G:Cx} (b:Plain G) {K:KP} {g1 F:XG} {I M Q R T U W X:J} (h1:dj K g1 I M Q R) (h2:dj K F T U W X) {p q:J} (d:dz K p [I,M,Q,R]) (m:dz K q [T,U,W,X]) {V:N} {L:Own} (aq:St V K L):aW Tryz.prog G 79 [p,q] V fun v V'=>v= .int .i64 (dS iC g1.threads F.threads)/\St V' K L:=by
 have h1':=h1;obtain⟨aa,u,ab,ac⟩:=h1';have h2':=h2;obtain⟨ad,A,ai,al⟩:=h2';refine SC b Tryz.func79 Z<|R5 7 Z<|fg d Z Z Z (k:=1) S (lb Z) (fun _=>Z) (fun p3 C=>?_);refine Y Z (Tq aq C Z Z) Z<|fg m Z Z Z (k:=1) S (lb Z) (fun _=>Z) (fun p5 E=>?_);refine Y Z (Tq aq E Z Z) Z<|bB Z (Tk Z Z Z) (fun _=>Z) (Ob b (g:=81) (c:=iC) S aq u A (fun _ _ _ _ _ _ aq hx hy=>Bc b aq hx hy)) (fun V aq=>?_);refine R8 4 Z ?_;exact aA Z Z ⟨Z,aq⟩
theorem QD {G:Cx} (U:Plain G) {K:KP} {m u e1 e2:Nat} {g1 A:XG} {C E F I M Q R T:J} (b:K m (.row [C,E,F,I] e1 false)) (d:K u (.row [M,Q,R,T] e2 false)) (h1:dj K g1 C E F I) (W:dj K A M Q R T):uQ Tryz.prog G K (dS iC g1.threads A.threads) [.func 79 [] [.ptr m 0,.ptr u 0]]:=⟨79,_,Z,by kernel_rfl,fun V L aq=>Sn U h1 W (fO b) (fO d) aq⟩
theorem Sp {G:Cx} (b:Plain G) {K:KP} {g1 F:XG} {I M Q R T U W X:J} (h1:dj K g1 I M Q R) (h2:dj K F T U W X) {p q:J} (d:dz K p [I,M,Q,R]) (m:dz K q [T,U,W,X]) {V:N} {L:Own} (aq:St V K L):aW Tryz.prog G 82 [p,q] V fun v V'=>v= .int .i64 (dS (dS nO) g1.threads F.threads)/\St V' K L:=by
 have h1':=h1;obtain⟨aa,u,ab,ac⟩:=h1';have h2':=h2;obtain⟨ad,A,ai,al⟩:=h2';refine SC b Tryz.func82 Z<|R5 7 Z<|fg d Z Z Z (k:=1) S (lb Z) (fun _=>Z) (fun p3 C=>?_);refine Y Z (Tq aq C Z Z) Z<|fg m Z Z Z (k:=1) S (lb Z) (fun _=>Z) (fun p5 E=>?_);refine Y Z (Tq aq E Z Z) Z<|bB Z (Tk Z Z Z) (fun _=>Z) (Ob b (g:=83) (c:=dS nO) S aq u A (fun _ _ _ _ _ _ aq hx hy=>uV b aq hx hy)) (fun V aq=>?_);refine R8 4 Z ?_;exact aA Z Z ⟨Z,aq⟩
theorem QE {G:Cx} (U:Plain G) {K:KP} {m u e1 e2:Nat} {g1 A:XG} {C E F I M Q R T:J} (b:K m (.row [C,E,F,I] e1 false)) (d:K u (.row [M,Q,R,T] e2 false)) (h1:dj K g1 C E F I) (W:dj K A M Q R T):uQ Tryz.prog G K (dS (dS nO) g1.threads A.threads) [.func 82 [] [.ptr m 0,.ptr u 0]]:=⟨82,_,Z,by kernel_rfl,fun V L aq=>Sp U h1 W (fO b) (fO d) aq⟩
theorem Sr {G:Cx} (b:Plain G) {K:KP} {g1 F:XG} {I M Q R T U W X:J} (h1:dj K g1 I M Q R) (h2:dj K F T U W X) {p q:J} (d:dz K p [I,M,Q,R]) (m:dz K q [T,U,W,X]) {V:N} {L:Own} (aq:St V K L):aW Tryz.prog G 84 [p,q] V fun v V'=>v= .int .i64 (dS iB g1.from_ F.from_)/\St V' K L:=by
 have h1':=h1;obtain⟨aa,ab,u,ac⟩:=h1';have h2':=h2;obtain⟨ad,ai,A,al⟩:=h2';refine SC b Tryz.func84 Z<|R5 7 Z<|fg d Z Z Z (k:=2) S (lb Z) (fun _=>Z) (fun p3 C=>?_);refine Y Z (Tq aq C Z Z) Z<|fg m Z Z Z (k:=2) S (lb Z) (fun _=>Z) (fun p5 E=>?_);refine Y Z (Tq aq E Z Z) Z<|bB Z (Tk Z Z Z) (fun _=>Z) (Oc b (g:=86) (c:=iB) S aq u A (fun _ _ _ _ _ _ aq hx hy=>sM b aq hx hy)) (fun V aq=>?_);refine R8 4 Z ?_;exact aA Z Z ⟨Z,aq⟩
theorem QF {G:Cx} (U:Plain G) {K:KP} {m u e1 e2:Nat} {g1 A:XG} {C E F I M Q R T:J} (b:K m (.row [C,E,F,I] e1 false)) (d:K u (.row [M,Q,R,T] e2 false)) (h1:dj K g1 C E F I) (W:dj K A M Q R T):uQ Tryz.prog G K (dS iB g1.from_ A.from_) [.func 84 [] [.ptr m 0,.ptr u 0]]:=⟨84,_,Z,by kernel_rfl,fun V L aq=>Sr U h1 W (fO b) (fO d) aq⟩
theorem Ss {G:Cx} (b:Plain G) {K:KP} {g1 F:XG} {I M Q R T U W X:J} (h1:dj K g1 I M Q R) (h2:dj K F T U W X) {p q:J} (d:dz K p [I,M,Q,R]) (m:dz K q [T,U,W,X]) {V:N} {L:Own} (aq:St V K L):aW Tryz.prog G 87 [p,q] V fun v V'=>v= .int .i64 (dS iB g1.order F.order)/\St V' K L:=by
 have h1':=h1;obtain⟨aa,ab,ac,u⟩:=h1';have h2':=h2;obtain⟨ad,ai,al,A⟩:=h2';refine SC b Tryz.func87 Z<|R5 7 Z<|fg d Z Z Z (k:=3) S (lb Z) (fun _=>Z) (fun p3 C=>?_);refine Y Z (Tq aq C Z Z) Z<|fg m Z Z Z (k:=3) S (lb Z) (fun _=>Z) (fun p5 E=>?_);refine Y Z (Tq aq E Z Z) Z<|bB Z (Tk Z Z Z) (fun _=>Z) (Oc b (g:=86) (c:=iB) S aq u A (fun _ _ _ _ _ _ aq hx hy=>sM b aq hx hy)) (fun V aq=>?_);refine R8 4 Z ?_;exact aA Z Z ⟨Z,aq⟩
theorem QG {G:Cx} (U:Plain G) {K:KP} {m u e1 e2:Nat} {g1 A:XG} {C E F I M Q R T:J} (b:K m (.row [C,E,F,I] e1 false)) (d:K u (.row [M,Q,R,T] e2 false)) (h1:dj K g1 C E F I) (W:dj K A M Q R T):uQ Tryz.prog G K (dS iB g1.order A.order) [.func 87 [] [.ptr m 0,.ptr u 0]]:=⟨87,_,Z,by kernel_rfl,fun V L aq=>Ss U h1 W (fO b) (fO d) aq⟩
theorem Su {G:Cx} (E:Plain G) {K:KP} {g1 F:XG} {I M Q R T U W X:J} (h1:dj K g1 I M Q R) (h2:dj K F T U W X) {p q:J} (b:dz K p [I,M,Q,R]) (d:dz K q [T,U,W,X]) {V:N} {L:Own} (aq:St V K L):aW Tryz.prog G 88 [p,q] V fun v V'=>v= .int .i64 (dS eK g1.init F.init)/\St V' K L:=by
 have h1':=h1;obtain⟨m,aa,ab,ac⟩:=h1';have h2':=h2;obtain⟨u,ad,ai,al⟩:=h2';refine SC E Tryz.func88 Z<|R5 7 Z<|fg b Z Z Z (k:=0) S (lb Z) (fun _=>Z) (fun p3 A=>?_);refine Y Z (Tq aq A Z Z) Z<|fg d Z Z Z (k:=0) S (lb Z) (fun _=>Z) (fun p5 C=>?_);refine Y Z (Tq aq C Z Z) Z<|bB Z (Tk Z Z Z) (fun _=>Z) (No E aq m u) (fun V aq=>?_);refine R8 4 Z ?_;exact aA Z Z ⟨Z,aq⟩
theorem QH {G:Cx} (U:Plain G) {K:KP} {m u e1 e2:Nat} {g1 A:XG} {C E F I M Q R T:J} (b:K m (.row [C,E,F,I] e1 false)) (d:K u (.row [M,Q,R,T] e2 false)) (h1:dj K g1 C E F I) (W:dj K A M Q R T):uQ Tryz.prog G K (dS eK g1.init A.init) [.func 88 [] [.ptr m 0,.ptr u 0]]:=⟨88,_,Z,by kernel_rfl,fun V L aq=>Su U h1 W (fO b) (fO d) aq⟩
theorem ql {G:Cx} (b:Plain G) {K:KP} {g1 X:XG} {a1 A c1 d1 a2 C c2 d2:J} (h1:dj K g1 a1 A c1 d1) (I:dj K X a2 C c2 d2) {V:N} {L:Own} (aq:St V K L):aW Tryz.prog G 49 [.agg [a1,A,c1,d1],.agg [a2,C,c2,d2]] V fun v V'=>v= .int .i64 (dQ g1 X)/\St V' K L:=by
 have h1':=h1;obtain⟨d,T,Q,E⟩:=h1';have h2':=I;obtain⟨u,U,R,F⟩:=h2';refine SC b Tryz.func49 Z<|R5 2 Z<|kp aq Z (cG Z Z) (fun V A aq=>?_);refine kp aq Z (cG Z Z) (fun V C aq=>?_);refine R7 3 Z (H (aU (l:=[(0,[]),(1,[]),(2,[]),(3,[]),(4,[]),(5,[]),(7,[]),(8,[]),(9,[]),(10,[]),(11,[]),(12,[]),(13,[]),(14,[]),(16,[]),(17,[]),(18,[]),(19,[]),(20,[]),(21,[]),(22,[]),(24,[]),(25,[]),(26,[]),(27,[]),(28,[]),(29,[]),(30,[]),(32,[]),(6,[10,13,18,21,26,29]),(15,[18,21,26,29]),(23,[26,29]),(31,[]),(33,[]),(34,[]),(35,[])]) S S<|SN aq 2 [1,1] Z Z<|aj Z Z (To T Z Z Z (e:=64) Z) Z<|SN aq 2 [1,0] Z Z<|aj Z Z (To U Z Z Z (e:=64) Z) Z<|SN aq 4 [2,1] Z Z<|aj Z Z (To Q Z Z Z (e:=57) Z) Z<|SN aq 2 [2,0] Z Z<|aj Z Z (To R Z Z Z (e:=57) Z) Z<|SN aq 3 [3,1] Z Z<|aj Z Z (To E Z Z Z (e:=57) Z) Z<|SN aq 2 [3,0] Z Z ?_));refine aj Z Z (To F Z Z Z (e:=57) Z) Z<|SN aq 3 [0,1] Z Z<|aj Z Z (To d Z Z Z (e:=2) Z) Z<|SN aq 2 [0,0] Z Z<|aj Z Z (To u Z Z Z (e:=2) Z) Z<|wQ 1 Z<|eW Z Z (Tk Z Z Z) (fun _=>Z) (iv b _ _ aq) ?_;rintro _ V ⟨b3,b4,rfl,aq⟩;refine⟨(aZ (bh Z Z Z Z Z (Tm Z (aq.get 3 Z) Z) Q.dL)<|aZ (bh Z Z Z Z Z (Tm Z (aq.get 2 Z) Z) R.dL)<|aZ (bh Z Z Z Z Z (Tm Z (aq.get 3 Z) Z) E.dL)<|aZ (bh Z Z Z Z Z (Tm Z (aq.get 2 Z) Z) F.dL)<|aZ (bh Z Z Z Z Z (Tm Z (aq.get 3 Z) Z) d.dL)<|aZ (bh Z Z Z Z Z (Tm Z (aq.get 2 Z) Z) u.dL) aV),?_⟩;refine eW Z Z (Tk Z Z Z) (fun _=>Z) (iv b _ _ aq) ?_;rintro _ V ⟨b5,b6,rfl,aq⟩;refine⟨(aZ (bh Z Z Z Z Z (Tm Z (aq.get 5 Z) Z) E.dL)<|aZ (bh Z Z Z Z Z (Tm Z (aq.get 4 Z) Z) F.dL)<|aZ (bh Z Z Z Z Z (Tm Z (aq.get 5 Z) Z) d.dL)<|aZ (bh Z Z Z Z Z (Tm Z (aq.get 4 Z) Z) u.dL) aV),?_⟩;refine eW Z Z (Tk Z Z Z) (fun _=>Z) (iv b _ _ aq) ?_;rintro _ V ⟨b7,b8,rfl,aq⟩;refine⟨(aZ (bh Z Z Z Z Z (Tm Z (aq.get 7 Z) Z) d.dL)<|aZ (bh Z Z Z Z Z (Tm Z (aq.get 6 Z) Z) u.dL) aV),?_⟩;refine eW Z Z (Tk Z Z Z) (fun _=>Z) (iv b _ _ aq) ?_;rintro _ V ⟨b9,W,rfl,aq⟩;refine⟨aV,?_⟩;refine lJ aq Z Z (bN (e:=115) (m:=1) (z:=[.nilFunc]) (cs:=[.func 113 [] [.ptr b3 0,.ptr b4 0],.func 79 [] [.ptr A 0,.ptr C 0],.func 82 [] [.ptr A 0,.ptr C 0],.func 113 [] [.ptr b5 0,.ptr b6 0],.func 84 [] [.ptr A 0,.ptr C 0],.func 113 [] [.ptr b7 0,.ptr b8 0],.func 87 [] [.ptr A 0,.ptr C 0],.func 113 [] [.ptr b9 0,.ptr W 0],.func 88 [] [.ptr A 0,.ptr C 0]]) S S S S (by rfl)) (fun _=>Z) (fun V aa aq=>?_);have hq:=aq.keeps (M:=[_,_,_,_,_,_,_,_,_,_,_])
 refine dZ Z Z (Tk Z Z Z) (fun _=>Z) (nm<|qm b hq<|fc.slice (fc.cons (qP b (KP.cA 8 Z)<|KP.cA 7 Z)<|fc.cons (QD b (KP.cA 10 Z) (KP.cA 9 Z) (h1.mono<|KP.dX _ _)<|I.mono<|KP.dX _ _)<|fc.cons (QE b (KP.cA 10 Z) (KP.cA 9 Z) (h1.mono<|KP.dX _ _)<|I.mono<|KP.dX _ _)<|fc.cons (qP b (KP.cA 6 Z)<|KP.cA 5 Z)<|fc.cons (QF b (KP.cA 10 Z) (KP.cA 9 Z) (h1.mono<|KP.dX _ _)<|I.mono<|KP.dX _ _)<|fc.cons (qP b (KP.cA 4 Z)<|KP.cA 3 Z)<|fc.cons (QG b (KP.cA 10 Z) (KP.cA 9 Z) (h1.mono<|KP.dX _ _)<|I.mono<|KP.dX _ _)<|fc.cons (qP b (KP.cA 2 Z)<|KP.cA 1 Z)<|fc.cons (QH b (KP.cA 10 Z) (KP.cA 9 Z) (h1.mono<|KP.dX _ _)<|I.mono<|KP.dX _ _) fc.nil) (KP.cA 0 Z) Z (nR_ _) (by decide)) (fun V aq=>?_);clear hq;refine⟨aV,?_⟩;refine R9 3 Z<|aF ?_;exact aA Z Z ⟨Z,aq⟩
theorem mf:∀n:Nat,ec [.au,.au,.au,.au] n=List.replicate (n*4) .au
 | 0=>rfl
 | n+1=>by
  show [.au,.au,.au,.au]++ec [.au,.au,.au,.au] n=_;rw[mf n,Nat.add_mul,Nat.one_mul,Nat.add_comm,<-List.replicate_append_replicate];rfl
theorem tY:∀n:Nat,bO (List.replicate n .au)=true
 | 0=>rfl
 | n+1=>ar Z (tY n)
theorem xU {α:Type} {c:α->α->Int} {l:List α} (h:l.length<2):cW c l=l:=by
 match l,h with
 | [],_=>rfl
 | [x],_=>rfl
 | _::_::_,h=>simp at h;omega
theorem fb {α:Type} {l:List α} {i:Nat} {x:α} (h:l[i]? =some x):l.take (i+1)=l.take i++[x]:=by rw[List.take_add_one,h];rfl
theorem G4 {G:Cx} (I:Plain G) {K:KP} {g1 M:XG} {m b u A C d E F:J} (h1:dj K g1 m b u A) (Q:dj K M C d E F) {V:N} {L:Own} (aq:St V K L):
  aW Tryz.prog G 48 [.agg [m,b,u,A],.agg [C,d,E,F]] V fun v V'=>v= .bool (bM (dQ g1 M) 0)/\St V' K L:=by
 refine aY I Tryz.func48 Z (t:=(PT.leaf.put (some (.agg [m,b,u,A])) 0).put (some (.agg [C,d,E,F])) 1) (by rfl) ?_;refine H ?_;refine ah Z ?_;refine bJ aq Z (cG Z Z) (fun _=>Z) (fun V b aq=>?_);refine bJ aq Z (cG Z Z) (fun _=>Z) (fun V d aq=>?_);refine Y Z (ak Z) Z ?_;refine af ?_;refine B ?_;refine H ?_;refine ah Z ?_;refine Y Z (bp Z (aq.get 1 Z) (n:=4) (vs:=[_,_,_,_]) S (Nat.le_of_ble_eq_true Z) Z) Z ?_;refine Y Z (bp Z (aq.get 0 Z) (n:=4) (vs:=[_,_,_,_]) S (Nat.le_of_ble_eq_true Z) Z) Z ?_;refine bB Z (aT Z Z Z S) (fun _=>Z) (ql I h1 Q aq) (fun V aq=>?_);refine Y Z (aC Z Z Z) Z ?_;refine Y Z (ak Z) Z ?_;refine af ?_;refine B ?_;refine aF ?_;exact aA Z Z ⟨Z,aq.pop.pop⟩
theorem Io {G:Cx} (hG:Plain G) {K:KP} {ls:List XG} {cells:List J} (hr:nY K ls cells) (hn:ls.length<=1048576) {b e:Nat} {c:nL} (hc:c= .known ls.length∨c= .upto 4) {V:N} {L:Own} (aq:St V K ((b,.row cells e false)::L)):
  aW Tryz.prog G 51 [.slice b 0 ls.length c,.func 48 [] []] V fun v V'=>∃c' cells' ts,v= .slice b 0 (cW dQ ls).length c'/\Bl 4 (cW dQ ls).length c'/\nY K (cW dQ ls++ts) cells'/\(cW dQ ls++ts).length<=1048576/\St V' K ((b,.row cells' e false)::L):=by
 have F:∀k,k<=ls.length->Bl 4 k c:=fun k hk=>hc.elim (fun h=>.inr ⟨_,h,hk⟩) .inl
 refine aY hG Tryz.func51 Z (t:=(PT.leaf.put (some (.slice b 0 ls.length c)) 0).put (some (.func 48 [] [])) 1) (by rfl) ?_;refine H ?_;refine ah Z ?_;refine Y Z (ak Z) Z ?_;refine af ?_;refine B ?_;refine H ?_;refine H ?_;refine ah Z ?_;refine Y Z (D Z) Z ?_;refine Y Z (G5 Z Z Z (e:=27) S Z) Z ?_;refine Y Z (aC Z Z Z) Z ?_;refine af ?_;refine B ?_;refine aD Z (fun Q=>?_) (fun Q=>?_)
 ·refine H ?_;refine ah Z ?_;refine Y Z (D Z) Z ?_;refine Y Z (ak Z) Z ?_;refine af ?_;refine B ?_;refine aF ?_;refine ay (?_);have R:cW dQ ls=ls:=xU (by have:=aS (b:=2) Q;omega);exact aA Z Z ⟨c,cells,[],by rw[R],F _ (by rw[R];exact nR_ _),by rw[R,List.append_nil];exact hr,by rw[R,List.append_nil];exact hn,aq⟩
 refine aG ?_;refine B ?_;refine H ?_;refine H ?_;refine ah Z ?_;refine Y Z (ak Z) Z ?_;refine af ?_;refine B ?_;refine aI ?_;refine a6 [4,5,6,7,12,13,14,15,16,17,18,19,20,21,22,23,24,25,26,27,28,29,30,31,32,33,34,35,36,37,38,39,40,41,42,43,44,45,46,47,48,49,50,51,52,53,54,55,56,57,58,59,60,61,62,63,64] (fun j t V=>∃(k:Nat),(j+(k+1)=ls.length/\cW dQ (ls.take (k+1))=ls.take (k+1))/\t.get 5=some (.int .i64 (.ofNat (k+1)))/\St V K ((b,.row cells e false)::L)) (ls.length-1) ⟨0,⟨by have:=bC (b:=2) Q;omega,zX<|bC (b:=2) Q⟩,Z,aq⟩ ?_;clear aq;intro j4 t V an hI;obtain⟨k,⟨cr,u⟩,C,aq⟩:=hI;replace an:=an.bS Z Z;obtain⟨o4,o5,o6,o7,cs,cv,cw,cx,an⟩:=an;replace an:=an.bS Z Z;obtain⟨c0,c7,c8,c9,dd,df,dk,dl,an⟩:=an;replace an:=an.bS Z Z;obtain⟨dm,dn,dr,ds,dx,dT,d0,d6,an⟩:=an;replace an:=an.bS Z Z;obtain⟨al,am,ao,ap,av,ax,aE,a0,an⟩:=an;replace an:=an.bS Z Z;obtain⟨a9,bb,bd,be,bf,bi,bk,bl,an⟩:=an;replace an:=an.bS Z Z;obtain⟨bm,bo,br,bs,bt,bv,bw,b0,an⟩:=an;replace an:=an.bS Z Z;obtain⟨b6,b7,b8,d7,d8,d9,ee,ef,an⟩:=an;replace an:=an.eh Z;obtain⟨eg,an⟩:=an;obtain rfl:=an.nil;clear an;replace C:o5=some _:=C;subst C;refine H ?_;refine H ?_;refine ah Z ?_;refine Y Z (D Z) Z ?_;refine Y Z (D Z) Z ?_;refine Y Z (G5 Z Z Z (e:=27) S Z) Z ?_;refine Y Z (aC Z Z Z) Z ?_;refine af ?_;refine B ?_;refine aD Z (fun T=>?_) (fun T=>?_)
 ·refine aG ?_;refine B ?_;refine H ?_;refine aI ?_;refine H ?_;refine aU (l:=[(0,[]),(1,[]),(2,[]),(3,[]),(4,[]),(5,[]),(6,[]),(7,[]),(8,[]),(9,[]),(10,[])]) S S ?_;have W:k+1<ls.length:=aS T;obtain⟨x,hx⟩:=bZ W;obtain⟨y,hy⟩:=bZ (show k<ls.length by omega);have hs:=rX (c:=dQ) hy hx;refine aj Z Z (D Z) Z ?_;refine aj Z Z (D Z) Z ?_;refine aj Z Z (D Z) Z ?_;refine aj Z Z (iY (e:=27) (m:=4) S S Z Z W) Z ?_;obtain⟨a1,b1,c1,d1,b9,ca,cb⟩:=hr.rd hx (off:=0+(k+1)*4) oM;refine aj Z Z (bp Z (aq.get 0 Z) (n:=4) S cb b9) Z ?_;refine aj Z Z (D Z) Z ?_;refine aj Z Z (D Z) Z ?_;refine aj Z Z (aC (v:=.int .i64 (.ofNat k)) Z Z<|congrArg (fun z=>some (J.int .i64 z))<|fP oM) Z ?_;refine aj Z Z (iY (e:=27) (m:=4) S S Z Z (show k<ls.length by omega)) Z ?_;obtain⟨a2,b2,c2,d2,cc,ce,cg⟩:=hr.rd hy (off:=0+k*4) oM;refine aj Z Z (bp Z (aq.get 0 Z) (n:=4) S cg cc) Z ?_;refine dZ Z Z (aT Z Z Z S) (fun _=>Z) (G4 hG ca ce aq) (fun V aq=>?_);refine⟨aV,?_⟩;refine a8 ?_;refine B ?_;refine aD Z (fun I=>?_) (fun I=>?_)
  ·refine H ?_;refine ah Z ?_;refine Y Z (D Z) Z ?_;refine Y Z (D Z) Z ?_;refine J7 Z Z (e:=27) (sz:=4) (k:=k+1) S S hc Z Z W (fun _=>Z) fun c2=>?_
   refine Y Z (ak Z) Z ?_;refine af ?_;refine B ?_;refine H ?_;refine H ?_;refine ah Z ?_;refine Y Z (ak Z) Z ?_;refine af ?_;refine B ?_;refine aI ?_;refine a6 [5,7,32,33,34,35,36,37,38,39,40,41,42,43,44,45,46,47,48,49,50,51,52,53,54,55,56,57,58] (fun j t V=>∃(d:Nat) (cells2:List J),(j+(d+1)=ls.length-(k+1)/\(cW dQ<|ls.take (k+1+(d+1))).length<=k+1+d/\nY K ((cW dQ<|ls.take (k+1+(d+1)))++ls.drop (cW dQ<|ls.take (k+1+(d+1))).length) cells2)/\t.get 5=some (.int .i64 (.ofNat (cW dQ<|ls.take (k+1+(d+1))).length))/\t.get 7=some (.int .i64 (.ofNat (d+1)))/\St V K ((b,.row cells2 e false)::L)) (ls.length-(k+1)-1) ⟨0,cells,⟨by omega,(by rw[show k+1+(0+1)=k+2 from Z,hs,u,if_pos<|lZ I,List.append_nil,lT_,Nat.min_eq_left oM];omega),by rw[show k+1+(0+1)=k+2 from Z,hs,u,if_pos<|lZ I,List.append_nil,lT_,Nat.min_eq_left oM,List.take_append_drop];exact hr⟩,(by rw[show k+1+(0+1)=k+2 from Z,hs,u,if_pos<|lZ I,List.append_nil,lT_,Nat.min_eq_left oM];rfl),Z,aq⟩ ?_;clear aq;intro j9 t V an hI;obtain⟨d,cells2,⟨el,ab,E⟩,C,X,aq⟩:=hI;replace an:=an.bS Z Z;obtain⟨o5,o7,al,am,ao,ap,av,ax,an⟩:=an;replace an:=an.bS Z Z;obtain⟨aE,a0,a9,bb,bd,be,bf,bi,an⟩:=an;replace an:=an.bS Z Z;obtain⟨bk,bl,bm,bo,br,bs,bt,bv,an⟩:=an;replace an:=an.mQ Z;obtain⟨bw,b0,b6,b7,an⟩:=an;replace an:=an.eh Z;obtain⟨b8,an⟩:=an;obtain rfl:=an.nil;clear an;replace C:o5=some _:=C;subst C;replace X:o7=some _:=X;subst X;refine H ?_;refine H ?_;refine ah Z ?_;refine Y Z (D Z) Z ?_;refine Y Z (D Z) Z ?_;refine Y Z (G5 Z Z Z (e:=27) S Z) Z ?_;refine Y Z (aC Z Z Z) Z ?_;refine af ?_;refine B ?_;refine aD Z (fun M=>?_) (fun M=>?_)
   ·refine aG ?_;refine B ?_;refine H ?_;refine aI ?_;refine H ?_;refine aU (l:=[(0,[]),(1,[]),(2,[]),(3,[]),(4,[]),(5,[]),(6,[]),(7,[]),(8,[]),(9,[]),(10,[]),(11,[])]) S S ?_;have U:d+1<ls.length-(k+1):=aS M;obtain⟨x,hx⟩:=bZ (show k+1+d+1<ls.length by omega);obtain⟨y,hy⟩:=bZ (show k+1+d<ls.length by omega);have hs:(cW dQ<|ls.take (k+1+(d+1+1)))=(cW dQ<|ls.take (k+1+(d+1)))++(if dQ x y=0 then [] else [x]):=rX hy hx;refine aj Z Z (D Z) Z ?_;refine aj Z Z (D Z) Z ?_;refine aj Z Z (D Z) Z ?_;refine aj Z Z (iY (e:=27) (m:=4) S S Z Z U) Z ?_;obtain⟨a3,b3,c3,d3,ch,ci,cj⟩:=E.rd (zO (A:=(cW dQ<|ls.take (k+1+(d+1)))) hx oM) (off:=0+(k+1)*4+(d+1)*4) oM;refine aj Z Z (bp Z (aq.get 0 Z) (n:=4) S cj ch) Z ?_;refine aj Z Z (D Z) Z ?_;refine aj Z Z (D Z) Z ?_;refine aj Z Z (aC (v:=.int .i64 (.ofNat d)) Z Z<|congrArg (fun z=>some (J.int .i64 z))<|fP oM) Z ?_;refine aj Z Z (iY (e:=27) (m:=4) S S Z Z (show d<ls.length-(k+1) by omega)) Z ?_;obtain⟨a4,b4,c4,d4,ck,cn,cp⟩:=E.rd (zO (A:=(cW dQ<|ls.take (k+1+(d+1)))) hy oM) (off:=0+(k+1)*4+d*4) oM;refine aj Z Z (bp Z (aq.get 0 Z) (n:=4) S cp ck) Z ?_;refine dZ Z Z (aT Z Z Z S) (fun _=>Z) (G4 hG ci cn aq) (fun V aq=>?_);refine⟨aV,?_⟩;refine aj Z Z (dV Z) Z ?_;refine a8 ?_;refine B ?_;refine aD Z (fun aa=>?_) (fun aa=>?_)
    ·have hA3:(cW dQ<|ls.take (k+1+(d+1+1)))=(cW dQ<|ls.take (k+1+(d+1)))++[x]:=by rw[hs,if_neg<|fX<|bL aa]
     refine H ?_;refine ah Z ?_;refine Y Z (D Z) Z ?_;refine Y Z (D Z) Z ?_;refine Y Z (D Z) Z ?_;refine Y Z (D Z) Z ?_;refine Y Z (iY (e:=27) (m:=4) S S Z Z U) Z ?_;obtain⟨a5,b5,c5,d5,C,ac,cq⟩:=E.rd (zO (A:=(cW dQ<|ls.take (k+1+(d+1)))) hx oM) (off:=0+(k+1)*4+(d+1)*4) oM;refine Y Z (bp Z (aq.get 0 Z) (n:=4) S cq C) Z ?_;refine Y Z (iY (e:=27) (m:=4) S S Z Z (show(cW dQ<|ls.take (k+1+(d+1))).length<ls.length by omega)) Z ?_;refine gj aq .here Z (kx Z Z Z (aq.get 0 Z) (m:=4) S Z (by have:=E.len;rw[zZ oM] at this;omega)<|RG.leaf _ _ ⟨_,_,_,_,Z,ac⟩) Z (fun V aq=>?_);have hr3:=E.wr (i:=(cW dQ<|ls.take (k+1+(d+1))).length) (x:=x) (by rw[zZ oM];omega) ac (off:=0+(cW dQ<|ls.take (k+1+(d+1))).length*4) oM;rw[Ku oM,<-hA3] at hr3;refine af ?_;refine B ?_;refine ah Z ?_;refine Y Z (D Z) Z ?_;refine Y Z (aC (v:=.int .i64 (.ofNat ((cW dQ<|ls.take (k+1+(d+1))).length+1))) Z Z<|congrArg (fun z=>some (J.int .i64 z))<|aX oM) Z ?_;refine Y Z (ak Z) Z ?_;refine af ?_;refine aH ?_;refine B ?_;refine ah Z ?_;refine Y Z (D Z) Z ?_;refine Y Z (aC (v:=.int .i64 (.ofNat ((d+1)+1))) Z Z<|congrArg (fun z=>some (J.int .i64 z))<|aX oM) Z ?_;refine Y Z (ak Z) Z ?_;refine af ?_;refine aL ⟨j9-1,(by have:=aS M;omega),(by(iterate 58 refine bc.put Z ?_);exact bc.refl _ _),d+1,_,⟨by omega,by rw[hA3,lA_,List.length_singleton];omega,hr3⟩,(by rw[hA3,lA_];rfl),Z,aq⟩
    have hA3:(cW dQ<|ls.take (k+1+(d+1+1)))=(cW dQ<|ls.take (k+1+(d+1))):=by rw[hs,if_pos<|lZ<|a7 aa,List.append_nil]
    have hr3:nY K ((cW dQ<|ls.take (k+1+(d+1+1)))++ls.drop (cW dQ<|ls.take (k+1+(d+1+1))).length) cells2:=by rw[hA3];exact E
    refine aG ?_;refine aH ?_;refine B ?_;refine ah Z ?_;refine Y Z (D Z) Z ?_;refine Y Z (aC (v:=.int .i64 (.ofNat ((d+1)+1))) Z Z<|congrArg (fun z=>some (J.int .i64 z))<|aX oM) Z ?_;refine Y Z (ak Z) Z ?_;refine af ?_;refine aL ⟨j9-1,(by have:=aS M;omega),(by(iterate 48 refine bc.put Z ?_);exact bc.refl _ _),d+1,_,⟨by omega,by rw[hA3];omega,hr3⟩,(by rw[hA3];rfl),Z,aq⟩
   refine ba ?_;refine aP ?_;refine aR ?_;refine aM ?_;refine B ?_;refine H ?_;refine ah Z ?_;refine Y Z (D Z) Z ?_;refine Y Z (D Z) Z ?_;refine J7 Z Z (e:=27) (sz:=4) (k:=(cW dQ<|ls.take (k+1+(d+1))).length) S S hc Z Z oM (fun _=>Z) fun c3=>?_
   have hcl:=zZ (A:=(cW dQ<|ls.take (k+1+(d+1)))) (l:=ls) oM;have hl2:=E.len;rw[hcl] at hl2;refine OP aq .here Z (NC (zs:=[.au,.au,.au,.au]) (z:=.agg [.au,.au,.au,.au]) Z Z Z (e:=27) S S Z Z oM (aq.get 0 Z) (by rw[mf];exact tY _) (Nat.le_of_ble_eq_true Z) (by rw[mf,List.length_replicate];omega)) Z (fun V aq=>?_);have hr4:=E.S2 (k:=(cW dQ<|ls.take (k+1+(d+1))).length) (by rw[hcl];omega) (off:=0+(cW dQ<|ls.take (k+1+(d+1))).length*4) oM (zs:=ec [.au,.au,.au,.au] (ls.length-(cW dQ<|ls.take (k+1+(d+1))).length)) (by rw[mf,hcl]);rw[Lc,hcl] at hr4;refine af ?_;refine B ?_;refine H ?_;refine ah Z ?_;refine Y Z (D Z) Z ?_;refine Y Z (D Z) Z ?_;have ad:ls.take (k+1+(d+1))=ls:=tL_ (by have:=bC M;omega);refine Y Z (Sw (e:=27) (sz:=4) S S hc Z Z oM oM) Z ?_;refine Y Z (ak Z) Z ?_;refine af ?_;refine B ?_;refine aF ?_;refine aK<|ay<|bq<|aK<|ay (?_);rw[ad] at hr4 ab aq⊢;exact aA Z Z ⟨c,_,_,Z,F _<|oz ls,hr4,by rw[lA_,List.length_replicate];have:=oz (c:=dQ) ls;omega,aq⟩
  refine aG ?_;refine aH ?_;refine B ?_;refine ah Z ?_;refine Y Z (D Z) Z ?_;refine Y Z (aC (v:=.int .i64 (.ofNat ((k+1)+1))) Z Z<|congrArg (fun z=>some (J.int .i64 z))<|aX oM) Z ?_;refine Y Z (ak Z) Z ?_;refine af ?_;refine aL ⟨j4-1,(by have:=aS T;omega),(by(iterate 75 refine bc.put Z ?_);exact bc.refl _ _),k+1,⟨by omega,by rw[show k+1+1=k+2 from Z,hs,u,if_neg<|fX I];exact(fb hx).symm⟩,Z,aq⟩
 refine ba ?_;refine aP ?_;refine aR ?_;refine aM ?_;refine B ?_;refine H ?_;refine ah Z ?_;refine Y Z (D Z) Z ?_;refine Y Z (ak Z) Z ?_;refine af ?_;refine B ?_;refine aF ?_;have ai:ls.take (k+1)=ls:=tL_ (by have:=bC T;omega);rw[ai] at u;exact aA Z Z ⟨c,cells,[],by rw[u],F _ (by rw[u];exact nR_ _),by rw[u,List.append_nil];exact hr,by rw[u,List.append_nil];exact hn,aq⟩
theorem JP (m:Nat):dy (.ofNat m) 0=false:=by rw[eM];simp
theorem Lu (z:Int):wr .u64 z=z%18446744073709551616:=by
 rw[Dp];simp[IntKind.wrap,IntKind.bits,IntKind.signed]
theorem Pu {G:Cx} (b:Plain G) {K:KP} {m:Nat} (hm:m<100) {V:N} {L:Own} (aq:St V K L):aW Tryz.prog G 133 [.int .i64 (.ofNat m),.int .i64 10] V fun v V'=>v= .str (fmtS 10 (.ofNat m))/\St V' K L:=by
 refine aY b Tryz.func133 Z (t:=(PT.leaf.put (some (.int .i64 (.ofNat m))) 0).put (some (.int .i64 10)) 1) (by rfl) ?_;refine H ?_;refine ah Z ?_;refine Y Z (ak Z) Z ?_;refine af ?_;refine B ?_;refine H ?_;refine H ?_;refine ah Z ?_;refine Y Z (D Z) Z ?_;refine Y Z (aC (v:=.bool true) Z Z S) Z ?_;refine af ?_;refine B ?_;refine bj Z ?_;refine H ?_;refine H ?_;refine ah Z ?_;refine Y Z (D Z) Z ?_;refine Y Z (aC (v:=.bool true) Z Z (by show some (J.bool (bif dy (.ofNat m) 0 then false else true))=_;rw[JP];rfl)) Z ?_;refine Y Z (D Z) Z ?_;refine Y Z (D Z) Z ?_;refine Y Z (aC (v:=.bool true) Z Z (by show some (J.bool<|dy (.ofNat m) (.ofNat 100))=_;rw[gM,decide_eq_true hm])) Z ?_;refine Y Z (aJ Z Z) Z ?_;refine af ?_;refine B ?_;refine bj Z ?_;refine H ?_;refine ah Z ?_;refine Y Z (D Z) Z ?_;refine bB Z (aT Z Z Z S) (fun _=>Z) (Nz b hm aq) (fun V aq=>?_);refine Y Z (ak Z) Z ?_;refine af ?_;refine B ?_;refine aF ?_;refine ay<|ay (?_);exact aA Z Z ⟨Z,aq⟩
theorem Nq {G:Cx} (b:Plain G) {K:KP} {U:Nat} (d:U<2 ^ 64) {V:N} {L:Own} (aq:St V K L):aW Tryz.prog G 133 [.int .i64 (.ofNat U),.int .i64 36] V fun v V'=>v= .str (tg U)/\St V' K L:=by
 refine aY b Tryz.func133 Z (t:=(PT.leaf.put (some (.int .i64 (.ofNat U))) 0).put (some (.int .i64 36)) 1) (by rfl) ?_;refine H ?_;refine ah Z ?_;refine Y Z (ak Z) Z ?_;refine af ?_;refine B ?_;refine H ?_;refine H ?_;refine ah Z ?_;refine Y Z (D Z) Z ?_;refine Y Z (aC (v:=.bool false) Z Z S) Z ?_;refine af ?_;refine B ?_;refine bz Z ?_;refine aG ?_;refine B ?_;refine H ?_;refine ah Z ?_;refine Y Z (D Z) Z ?_;refine Y Z (Bi (j:=.i64) (k:=.u64) (m:=.ofNat U) S S S Z<|NA d) Z ?_;refine Y Z (D Z) Z ?_;refine Y Z (D Z) Z ?_;refine Y Z (aC (v:=.bool false) Z Z (by show some (J.bool<|dy (.ofNat U) 0)=_;rw[JP])) Z ?_;refine bB Z (aT Z Z Z S) (fun _=>Z) (QY b d aq) (fun V aq=>?_);refine Y Z (D Z) Z ?_;refine Y Z (bD Z Z) Z ?_;refine Y Z (bD Z Z) Z ?_;refine Y Z (ak Z) Z ?_;refine Y Z (ak Z) Z ?_;refine af ?_;refine B ?_;refine H ?_;refine ah Z ?_;refine Y Z (D Z) Z ?_;refine Y Z (ak Z) Z ?_;refine af ?_;refine B ?_;refine aF ?_;exact aA Z Z ⟨Z,aq⟩
theorem Np {G:Cx} (b:Plain G) {K:KP} {U:Nat} (d:U<2 ^ 64) (h0:0<U) {V:N} {L:Own} (aq:St V K L):aW Tryz.prog G 133 [.int .i64 (-((U:Nat):Int)),.int .i64 36] V fun v V'=>v= .str (45::tg U)/\St V' K L:=by
 refine aY b Tryz.func133 Z (t:=(PT.leaf.put (some (.int .i64 (-((U:Nat):Int)))) 0).put (some (.int .i64 36)) 1) (by rfl) ?_;refine H ?_;refine ah Z ?_;refine Y Z (ak Z) Z ?_;refine af ?_;refine B ?_;refine H ?_;refine H ?_;refine ah Z ?_;refine Y Z (D Z) Z ?_;refine Y Z (aC (v:=.bool false) Z Z S) Z ?_;refine af ?_;refine B ?_;refine bz Z ?_;refine aG ?_;refine B ?_;refine H ?_;refine ah Z ?_;refine Y Z (D Z) Z ?_;refine Y Z (Lv (j:=.i64) (k:=.u64) S S S Z) Z ?_;refine Y Z (D Z) Z ?_;refine Y Z (D Z) Z ?_;refine Y Z (aC (v:=.bool true) Z Z (by show some (J.bool (dy (-((U:Nat):Int)) 0))=_;rw[eM,decide_eq_true oM])) Z ?_;refine bB Z (aT Z Z Z S) (fun _=>Z) (QX (U:=U) b d (by rw[Lu,Lu];show(0-(-(U:Int))%18446744073709551616)%18446744073709551616=(U:Int);omega) aq) (fun V aq=>?_);refine Y Z (D Z) Z ?_;refine Y Z (bD Z Z) Z ?_;refine Y Z (bD Z Z) Z ?_;refine Y Z (ak Z) Z ?_;refine Y Z (ak Z) Z ?_;refine af ?_;refine B ?_;refine H ?_;refine ah Z ?_;refine Y Z (D Z) Z ?_;refine Y Z (ak Z) Z ?_;refine af ?_;refine B ?_;refine aF ?_;exact aA Z Z ⟨Z,aq⟩
theorem Pv {G:Cx} (d:Plain G) {K:KP} {z:Int} (hz:xN z) {V:N} {L:Own} (aq:St V K L):aW Tryz.prog G 133 [.int .i64 z,.int .i64 36] V fun v V'=>v= .str (fmtS 36 z)/\St V' K L:=by
 obtain⟨h1,m⟩:=hz
 by_cases h:z<0
 ·obtain⟨U,b⟩:∃U:Nat,z= -((U:Nat):Int):=⟨z.natAbs,by omega⟩;subst b;rw[Jp oM];exact Np d oM oM aq
 obtain⟨U,b⟩:∃U:Nat,z=Int.ofNat U:=⟨z.toNat,by show z=(z.toNat:Int);omega⟩;subst b;rw[wj];exact Nq d (by have:((U:Nat):Int)<=9223372036854775807:=m;omega) aq
theorem Ns {G:Cx} (b:Plain G) {K:KP} {m:Nat} (hm:m<100) {V:N} {L:Own} (aq:St V K L):aW Tryz.prog G 132 [.int .i64 (.ofNat m)] V fun v V'=>v= .str (fmtS 10 (.ofNat m))/\St V' K L:=by
 refine aY b Tryz.func132 Z (t:=PT.leaf.put (some (.int .i64 (.ofNat m))) 0) (by rfl) ?_;refine H ?_;refine ah Z ?_;refine Y Z (ak Z) Z ?_;refine af ?_;refine B ?_;refine H ?_;refine ah Z ?_;refine Y Z (D Z) Z ?_;refine bB Z (aT Z Z Z S) (fun _=>Z) (Pu b hm aq) (fun V aq=>?_);refine Y Z (ak Z) Z ?_;refine af ?_;refine B ?_;refine aF ?_;exact aA Z Z ⟨Z,aq⟩
theorem Ip {G:Cx} (b:Plain G) {K:KP} {z:Int} (hz:xN z) {V:N} {L:Own} (aq:St V K L):aW Tryz.prog G 97 [.int .i64 z,.int .i64 36] V fun v V'=>v= .str (fmtS 36 z)/\St V' K L:=by
 refine aY b Tryz.func97 Z (t:=(PT.leaf.put (some (.int .i64 z)) 0).put (some (.int .i64 36)) 1) (by rfl) ?_;refine H ?_;refine ah Z ?_;refine Y Z (ak Z) Z ?_;refine af ?_;refine B ?_;refine H ?_;refine ah Z ?_;refine Y Z (D Z) Z ?_;refine Y Z (D Z) Z ?_;refine bB Z (aT Z Z Z S) (fun _=>Z) (Pv b hz aq) (fun V aq=>?_);refine Y Z (ak Z) Z ?_;refine af ?_;refine B ?_;refine aF ?_;exact aA Z Z ⟨Z,aq⟩
theorem Pw {G:Cx} (b:Plain G) (d:∀a s,G.x6 94 a s=none) {K:KP} {m:Nat} (hm:m<100) {V:N} {L:Own} (aq:St V K L):aW Tryz.prog G 94 [.int .i64 (.ofNat m)] V fun v V'=>v= .str (fmtS 10 (.ofNat m))/\St V' K L:=by
 refine FQ (d _ _) (b.h2 _ _ Z) (b.h4 _ _ _) (b.h5 _ Z) Tryz.func94 Z (t:=PT.leaf.put (some (.int .i64 (.ofNat m))) 0) (by rfl) ?_;refine H ?_;refine ah Z ?_;refine Y Z (ak Z) Z ?_;refine af ?_;refine B ?_;refine H ?_;refine ah Z ?_;refine Y Z (D Z) Z ?_;refine bB Z (aT Z Z Z S) (fun _=>Z) (Ns b hm aq) (fun V aq=>?_);refine Y Z (ak Z) Z ?_;refine af ?_;refine B ?_;refine aF ?_;exact⟨.inr Z,_,uF Z Z,Z,aq⟩
theorem GH {x:Int} (h:∃m:Nat,x= .ofNat m/\m<100):xN x:=by
 obtain⟨m,rfl,hm⟩:=h;exact⟨by show(-9223372036854775808:Int)<=(m:Int);omega,by show(m:Int)<=_;omega⟩
theorem yE {b:Nat} (hb:2<=b):∀(k n:Nat),n<b ^ (k+1)->(ft b n).length<=k+1
 | 0,n,h=>by unfold ft;rw[dif_pos (.inl (by simpa using h))];exact nR_ _
 | k+1,n,h=>by
  unfold ft;split
  ·exact Nat.succ_le_succ<|Nat.zero_le _
  rw[lA_];have:=yE hb k (n/b) (Nat.div_lt_of_lt_mul (by rw[Nat.mul_comm,<-Nat.pow_succ];exact h));show(ft b (n/b)).length+1<=_;omega
theorem pS (b:Nat) (z:Int) (h:(b=10∨b=36)/\xN z):(fmtS b z).length<=65:=by
 obtain⟨hb,h1,h2⟩:=h;have key:∀n:Nat,n<=9223372036854775808->(ft b n).length<=63+1:=fun n d=>yE (by rcases hb with rfl | rfl<;>omega) 63 n (Nat.lt_of_le_of_lt d (by rcases hb with rfl | rfl<;>decide))
 unfold fmtS uR;split
 ·rw[lM_,List.length_cons,lM_];have:=key (-z).toNat oM;omega
 rw[lM_,lM_];have:=key z.toNat oM;omega
theorem Of {G:Cx} (E:Plain G) (C:G.ov 151=true) (I:∀a s,G.x6 94 a s=none) {K:KP} {l:List Int} {v:J} (hl:bG K 1 cH l v) (hc:∀x∈l,∃m:Nat,x= .ofNat m/\m<100) (aa:l.length<=100) {bb:Nat} {s:List Nat} {B_:Own} (W:yf bb s B_) (hn:s.length<=800000) {V:N} {L:Own} (aq:St V K (B_++L)):
  aW Tryz.prog G 92 [v,.ptr bb 0] V fun u V'=>∃B',yf bb (s++l.flatMap fun x=>fmtS 10 x++[44]) B'/\St V' K (B'++L):=by
 refine aY E Tryz.func92 Z (t:=(PT.leaf.put (some (v)) 0).put (some (.ptr bb 0)) 1) (by rfl) ?_;refine H ?_;refine ah Z ?_;refine Y Z (D Z) Z ?_;refine Y Z (aO hl Z Z Z (e:=3) S Z) Z ?_;refine Y Z (D Z) Z ?_;refine af ?_;refine B ?_;refine aI ?_;refine a6 [4,7,8,9,10,11,12,13,14,15] (fun j t V=>∃(i:Nat) (F:Own),(j+i=l.length/\yf bb (s++(l.take i).flatMap (fun x=>fmtS 10 x++[44])) F/\(s++(l.take i).flatMap (fun x=>fmtS 10 x++[44])).length<=800000+i*100)/\t.get 7=some (.int .i64 (.ofNat i))/\St V K (F++L)) (l.length) ⟨0,_,⟨Z,by rw[List.take_zero,List.flatMap_nil,List.append_nil];exact W,by rw[List.take_zero,List.flatMap_nil,List.append_nil];omega⟩,Z,aq⟩ ?_;clear aq;intro X t V an hI;obtain⟨i,F,⟨ab,hB1,M⟩,d,aq⟩:=hI;replace an:=an.bS Z Z;obtain⟨o4,o7,o8,o9,ac,ad,ai,al,an⟩:=an;replace an:=an.eh Z;obtain⟨am,an⟩:=an;replace an:=an.eh Z;obtain⟨ao,an⟩:=an;obtain rfl:=an.nil;clear an;replace d:o7=some _:=d;subst d;refine H ?_;refine ah Z ?_;refine Y Z (aC Z Z Z) Z ?_;refine af ?_;refine B ?_;refine H ?_;refine aD Z (fun A=>?_) (fun A=>?_)
 ·refine aG ?_;refine B ?_;refine H ?_;refine aI ?_;refine H ?_;refine ah Z ?_;obtain⟨x9,b,ap⟩:=cL A;refine cm (e:=3) (m:=1) hl b Z Z S S Z Z (fun _=>Z) (fun p9 av Q ax R=>?_);obtain rfl:=R;refine Y Z (aN aq Q Z S Z) Z ?_;refine Y Z (ak Z) Z ?_;refine af ?_;refine B ?_;refine H ?_;refine ah Z ?_;refine Y Z (D Z) Z ?_;have hr9x:(10=10∨10=36)/\xN x9:=⟨by omega,GH<|hc x9<|gB_ b⟩;obtain⟨m,hm,T⟩:=hc x9 (gB_ b);refine bB Z (aT Z Z Z S) (fun _=>Z) (by have q:=Pw E I T aq;rw[<-hm] at q;exact q) (fun V aq=>?_);refine cR Z (aT Z Z Z S) (fun _=>Z) (qU E C hB1 (fmtS 10 x9) (by have:=pS 10 x9 hr9x;omega) aq) ?_;rintro _ V ⟨B2,hB2,aq⟩;refine af ?_;refine B ?_;refine ah Z ?_;have hfl:=pS 10 x9 hr9x;refine cR Z (aT Z Z Z S) (fun _=>Z) (mi E C hB2 (by rw[lA_];omega) 44 aq) ?_;rintro _ V ⟨U,hB3,aq⟩;refine af ?_;refine aH ?_;refine B ?_;refine ah Z ?_;refine Y Z (aC Z Z Z) Z ?_;refine Y Z (D Z) Z ?_;refine af ?_;refine aL ⟨X-1,(by have:=aS A;omega),(by(iterate 20 refine bc.put Z ?_);exact bc.refl _ _),i+1,U,⟨by have:=aS A;omega,by rw[fb b,List.flatMap_append,<-lQ_];show yf bb (_++((fmtS 10 x9++[44])++[])) U;rw[List.append_nil,<-lQ_];exact hB3,by rw[fb b,List.flatMap_append,<-lQ_,lA_];show _+((fmtS 10 x9++[44])++[]).length<=_;simp only[List.append_nil,lA_,List.length_cons,List.length_nil] at M⊢;omega⟩,congrArg (fun z=>some (J.int .i64 z))<|aX (by have:=aS A;omega),aq⟩
 refine ba ?_;refine aP ?_;refine aR ?_;refine aM ?_;exact kf Z ⟨F,by rw[tL_<|bC A] at hB1;exact hB1,aq⟩
theorem Oe {G:Cx} (E:Plain G) (C:G.ov 151=true) {K:KP} {l:List Int} {v:J} (hl:bG K 1 cH l v) (hc:∀x∈l,xN x) (aa:l.length<=100) {bb:Nat} {s:List Nat} {B_:Own} (T:yf bb s B_) (hn:s.length<=800000) {V:N} {L:Own} (aq:St V K (B_++L)):
  aW Tryz.prog G 96 [v,.ptr bb 0] V fun u V'=>∃B',yf bb (s++l.flatMap fun x=>fmtS 36 x++[44]) B'/\St V' K (B'++L):=by
 refine aY E Tryz.func96 Z (t:=(PT.leaf.put (some (v)) 0).put (some (.ptr bb 0)) 1) (by rfl) ?_;refine H ?_;refine ah Z ?_;refine Y Z (D Z) Z ?_;refine Y Z (aO hl Z Z Z (e:=2) S Z) Z ?_;refine Y Z (D Z) Z ?_;refine af ?_;refine B ?_;refine aI ?_;refine a6 [4,7,8,9,10,11,12,13,14,15] (fun j t V=>∃(i:Nat) (F:Own),(j+i=l.length/\yf bb (s++(l.take i).flatMap (fun x=>fmtS 36 x++[44])) F/\(s++(l.take i).flatMap (fun x=>fmtS 36 x++[44])).length<=800000+i*100)/\t.get 7=some (.int .i64 (.ofNat i))/\St V K (F++L)) (l.length) ⟨0,_,⟨Z,by rw[List.take_zero,List.flatMap_nil,List.append_nil];exact T,by rw[List.take_zero,List.flatMap_nil,List.append_nil];omega⟩,Z,aq⟩ ?_;clear aq;intro U t V an W;obtain⟨i,F,⟨ab,hB1,I⟩,d,aq⟩:=W;replace an:=an.bS Z Z;obtain⟨o4,X,o8,o9,ac,ad,ai,al,an⟩:=an;replace an:=an.eh Z;obtain⟨am,an⟩:=an;replace an:=an.eh Z;obtain⟨ao,an⟩:=an;obtain rfl:=an.nil;clear an;replace d:X=some _:=d;subst d;refine H ?_;refine ah Z ?_;refine Y Z (aC Z Z Z) Z ?_;refine af ?_;refine B ?_;refine H ?_;refine aD Z (fun A=>?_) (fun A=>?_)
 ·refine aG ?_;refine B ?_;refine H ?_;refine aI ?_;refine H ?_;refine ah Z ?_;obtain⟨x9,b,ap⟩:=cL A;refine cm (e:=2) (m:=1) hl b Z Z S S Z Z (fun _=>Z) (fun p9 av M ax Q=>?_);obtain rfl:=Q;refine Y Z (aN aq M Z S Z) Z ?_;refine Y Z (ak Z) Z ?_;refine af ?_;refine B ?_;refine H ?_;refine ah Z ?_;refine Y Z (D Z) Z ?_;have hr9x:(36=10∨36=36)/\xN x9:=⟨by omega,hc x9<|gB_ b⟩;refine bB Z (aT Z Z Z S) (fun _=>Z) (Ip E (hc x9<|gB_ b) aq) (fun V aq=>?_);refine cR Z (aT Z Z Z S) (fun _=>Z) (qU E C hB1 (fmtS 36 x9) (by have:=pS 36 x9 hr9x;omega) aq) ?_;rintro _ V ⟨B2,hB2,aq⟩;refine af ?_;refine B ?_;refine ah Z ?_;have hfl:=pS 36 x9 hr9x;refine cR Z (aT Z Z Z S) (fun _=>Z) (mi E C hB2 (by rw[lA_];omega) 44 aq) ?_;rintro _ V ⟨R,hB3,aq⟩;refine af ?_;refine aH ?_;refine B ?_;refine ah Z ?_;refine Y Z (aC Z Z Z) Z ?_;refine Y Z (D Z) Z ?_;refine af ?_;refine aL ⟨U-1,(by have:=aS A;omega),(by(iterate 20 refine bc.put Z ?_);exact bc.refl _ _),i+1,R,⟨by have:=aS A;omega,by rw[fb b,List.flatMap_append,<-lQ_];show yf bb (_++((fmtS 36 x9++[44])++[])) R;rw[List.append_nil,<-lQ_];exact hB3,by rw[fb b,List.flatMap_append,<-lQ_,lA_];show _+((fmtS 36 x9++[44])++[]).length<=_;simp only[List.append_nil,lA_,List.length_cons,List.length_nil] at I⊢;omega⟩,congrArg (fun z=>some (J.int .i64 z))<|aX (by have:=aS A;omega),aq⟩
 refine ba ?_;refine aP ?_;refine aR ?_;refine aM ?_;exact kf Z ⟨F,by rw[tL_<|bC A] at hB1;exact hB1,aq⟩
theorem Le (g:XG):∀c∈nW g,c<=255:=by
 intro c hc;rw[xC] at hc;obtain⟨u,_,rfl⟩:=List.mem_map.1 hc;have:=u.toNat_lt;omega
theorem FT {l:List Int} (h:∀x∈l,Sm x):(l.flatMap f10).length<=l.length*66:=iF fun x hx=>by
 unfold f10;have:=pS 10 x ⟨.inl Z,GH<|h x hx⟩;rw[lA_];simp;omega
theorem FU {l:List Int} (h:∀x∈l,xN x):(l.flatMap f36).length<=l.length*66:=iF fun x hx=>by
 unfold f36;have:=pS 36 x ⟨.inr Z,h x hx⟩;rw[lA_];simp;omega
theorem LF {α β:Type} {l:List α} {m:List β} {i:Nat} {x:α} {y:β} (h1:l[i]? =some x) (b:m[i]? =some y):(l.zip m)[i]? =some (x,y):=by
 rw[List.getElem?_zip_eq_some];exact⟨h1,b⟩
theorem l7 {α β:Type} {f:α->List β} {l:List α} {i:Nat} {x:α} (h:l[i]? =some x):(l.take (i+1)).flatMap f=(l.take i).flatMap f++f x:=fI h
theorem PA {G:Cx} (hG:Plain G) (Q:G.ov 151=true) (a4:∀a s,G.x6 94 a s=none) {K:KP} {g:XG} (hR:eb g) (X:Dx g) {a b c d:J} (hg:dj K g a b c d) {V:N} {L:Own} (aq:St V K L):
  aW Tryz.prog G 53 [.agg [a,b,c,d]] V fun v V'=>v= .str (nW g)/\St V' K L:=by
 have hF:=NQ (ei.2 hR);have cb:(g.threads.zip g.from_).length=g.threads.length:=by rw[List.length_zip,hR.from_];omega
 refine aY hG Tryz.func53 Z (t:=PT.leaf.put (some (.agg [a,b,c,d])) 0) (by rfl) ?_;refine H ?_;refine ah Z ?_;refine bJ aq Z (cG Z Z) (fun _=>Z) (fun V b1 aq=>?_);obtain⟨K1,av,ax,aq⟩:=aq.cK (M:=[_]);have aa:K1 b1 (.row [a,b,c,d] 27 false):=ax _ (.head _);clear ax;have hg1:=hg.mono av;refine Y Z (ak Z) Z ?_;refine af ?_;refine B ?_;refine H ?_;refine ah Z ?_;refine bJ aq Z (PD (cs:=[.nilPtr,.au]) S S) (fun _=>Z) (fun V bb aq=>?_);obtain⟨B0,hB0e⟩:∃B0:Own,B0= [(bb,.own [.nilPtr,.au] 128)]:=⟨_,Z⟩;have hB0:yf bb [] B0:=⟨_,_,[],.inl Z,.inl ⟨Z,Z,Z⟩,hB0e⟩;replace aq:St V K1 (B0++L):=by rw[hB0e];exact aq
 refine af ?_;refine B ?_;refine H ?_;refine ah Z ?_;refine Y Z (bD Z Z) Z ?_;refine Y Z (ak Z) Z ?_;refine af ?_;refine B ?_;refine H ?_;refine ah Z ?_;refine Y Z (bD Z Z) Z ?_;refine Y Z (ak Z) Z ?_;refine af ?_;refine B ?_;refine H ?_;refine ah Z ?_;refine Y Z (D Z) Z ?_;refine Y Z (az Z (k:=0) S) Z ?_;refine Y Z (aw Z (aq.eS aa) S Z) Z ?_;refine cR Z (aT Z Z Z S) (fun _=>Z) (Oe hG Q hg1.init (X.init) (by have:=hF.i;omega) hB0 (by simp) aq) ?_;rintro _ V ⟨B1,hB1,aq⟩;have hB1:yf bb (g.init.flatMap f36) B1:=hB1;have cc:(g.init.flatMap f36).length<=400:=by have h1:=FU X.init;have h2:=hF.i;omega
 refine af ?_;refine B ?_;refine H ?_;refine H ?_;refine ah Z ?_;refine Y Z (az Z (k:=1) S) Z ?_;refine Y Z (aw Z (aq.eS aa) S Z) Z ?_;refine Y Z (aO hg1.threads Z Z Z (e:=64) S Z) Z ?_;refine Y Z (D Z) Z ?_;refine af ?_;refine B ?_;refine aI ?_;refine a6 [6,7,8,9,23,24,25,26,27,28,29,30,31,32,33,34,35,36,37,38,39,40,41,42,43,44,45,46,47,48,49,50,51,52,53,54,55,56,57,58,59,60,61,62,63,64,65,66,67,68,69,70,71] (fun j t V=>∃(i:Nat) (B2:Own),(j+i=g.threads.length/\yf bb (g.init.flatMap f36++((g.threads.zip g.from_).take i).flatMap uT) B2/\(g.init.flatMap f36++((g.threads.zip g.from_).take i).flatMap uT).length<=400+i*7000)/\t.get 23=some (.int .i64 (.ofNat i))/\St V K1 (B2++L)) (g.threads.length) ⟨0,_,⟨Z,by rw[List.take_zero,List.flatMap_nil,List.append_nil];exact hB1,by rw[List.take_zero,List.flatMap_nil,List.append_nil];exact cc⟩,Z,aq⟩ ?_;clear aq;intro j6 t V an X;obtain⟨i,B2,⟨g5,hB2,ce⟩,ab,aq⟩:=X;replace an:=an.bS Z Z;obtain⟨o6,o7,o8,o9,cg,g6,g7,g9,an⟩:=an;replace an:=an.bS Z Z;obtain⟨ha,hk,hn,ho,a5,ch,ci,cj,an⟩:=an;replace an:=an.bS Z Z;obtain⟨ck,cn,cp,cr,cv,cw,cx,c0,an⟩:=an;replace an:=an.bS Z Z;obtain⟨c1,c2,c3,c4,c5,c7,c8,c9,an⟩:=an;replace an:=an.bS Z Z;obtain⟨dd,df,dk,dl,dm,dn,dr,ds,an⟩:=an;replace an:=an.bS Z Z;obtain⟨dx,dT,d0,d1,d2,d3,d4,d5,an⟩:=an;replace an:=an.mQ Z;obtain⟨d6,d7,d8,d9,an⟩:=an;replace an:=an.eh Z;obtain⟨hr,an⟩:=an;obtain rfl:=an.nil;clear an;replace ab:cg=some _:=ab;subst ab;refine H ?_;refine ah Z ?_;refine Y Z (aC Z Z Z) Z ?_;refine af ?_;refine B ?_;refine H ?_;refine aD Z (fun A=>?_) (fun A=>?_)
 ·refine aG ?_;refine B ?_;refine H ?_;refine aI ?_;refine H ?_;refine ah Z ?_;refine Y Z (D Z) Z ?_;obtain⟨x26,ac,fk⟩:=cL A;refine cm (e:=64) (m:=1) hg1.threads ac Z Z S S Z Z (fun _=>Z) (fun hs fs a9 fv bd=>?_);have hr26':=bd;obtain⟨ht,rfl,ad⟩:=hr26';refine Y Z (aN aq a9 Z S Z) Z ?_;refine Y Z (ak Z) Z ?_;refine Y Z (ak Z) Z ?_;refine af ?_;refine B ?_;refine H ?_;refine ah Z ?_;refine cR Z (aT Z Z Z S) (fun _=>Z) (mi hG Q hB2 (by have:=hF.t;have:=aS A;omega) 47 aq) ?_;rintro _ V ⟨B2b,hB2b,aq⟩;refine af ?_;refine B ?_;refine H ?_;refine ah Z ?_;obtain⟨row,a1⟩:∃row,row=x26:=⟨_,Z⟩;rw[<-a1] at ac ad;have hrow:=ac;obtain⟨fr,R⟩:=bZ (show i<g.from_.length by rw[hR.from_];exact aS A);have hz:=LF hrow R;have hr14:=hF.r row (gB_ hrow);have hfl:=(hR.rows i row fr hrow R).1;have hthr:=hF.t;have hithr:=aS A;refine Y Z (D Z) Z ?_;refine Y Z (aO ad Z Z Z (e:=92) S Z) Z ?_;refine Y Z (D Z) Z ?_;refine af ?_;refine B ?_;refine aI ?_;refine a6 [8,9,31,32,33,34,35,36,37,38,39,40,41,42,43,44,45,46,47,48,49,50,51,52,53,54,55,56,57,58,59,60,61,62,63,64,65,66,67,68,69,70] (fun j t V=>∃(q:Nat) (B3:Own),(j+q=row.length/\yf bb (g.init.flatMap f36++((g.threads.zip g.from_).take i).flatMap uT++[47]++((row.zip fr).take q).flatMap PI) B3/\(g.init.flatMap f36++((g.threads.zip g.from_).take i).flatMap uT++[47]++((row.zip fr).take q).flatMap PI).length<=401+i*7000+q*470)/\t.get 31=some (.int .i64 (.ofNat q))/\St V K1 (B3++L)) (row.length) ⟨0,_,⟨Z,by rw[List.take_zero,List.flatMap_nil,List.append_nil];exact hB2b,by rw[List.take_zero,List.flatMap_nil,List.append_nil,lA_];simp only[List.length_cons,List.length_nil];omega⟩,Z,aq⟩ ?_;clear aq;intro ee t V an X;obtain⟨q,B3,⟨f0,hB3,a2⟩,ai,aq⟩:=X;replace an:=an.bS Z Z;obtain⟨o8,o9,a5,ch,ci,cj,ck,cn,an⟩:=an;replace an:=an.bS Z Z;obtain⟨cp,cr,cv,cw,cx,c0,c1,c2,an⟩:=an;replace an:=an.bS Z Z;obtain⟨c3,c4,c5,c7,c8,c9,dd,df,an⟩:=an;replace an:=an.bS Z Z;obtain⟨dk,dl,dm,dn,dr,ds,dx,dT,an⟩:=an;replace an:=an.bS Z Z;obtain⟨d0,d1,d2,d3,d4,d5,d6,d7,an⟩:=an;replace an:=an.eh Z;obtain⟨d8,an⟩:=an;replace an:=an.eh Z;obtain⟨d9,an⟩:=an;obtain rfl:=an.nil;clear an;replace ai:a5=some _:=ai;subst ai;refine H ?_;refine ah Z ?_;refine Y Z (aC Z Z Z) Z ?_;refine af ?_;refine B ?_;refine H ?_;refine aD Z (fun T=>?_) (fun T=>?_)
  ·refine aG ?_;refine B ?_;refine H ?_;refine aI ?_;refine H ?_;refine ah Z ?_;refine Y Z (D Z) Z ?_;obtain⟨u,C,f1⟩:=cL T;refine cm (e:=92) (m:=5) ad C Z Z S S Z Z (fun _=>Z) (fun hu f2 be f3 bf=>?_);obtain rfl:=bf;refine Y Z (bE aq be Z S Z) Z ?_;refine bJ aq Z (dG (cs:=[.int .i64 0,.int .i64 0,.int .i64 0,.int .i64 0,.int .i64 0]) S S) (fun _=>Z) (fun V b2 aq=>?_);refine Y Z (ak Z) Z ?_;refine cF aq Z (bg Z Z Z (aq.get 0 Z) (m:=5) S Z (Nat.le_of_ble_eq_true Z) (ar Z<|ar Z<|ar Z<|ar Z<|ar Z aQ) (cells':=[_,_,_,_,_]) Z) Z (fun V aq=>?_);refine af ?_;refine B ?_;refine H ?_;refine aU (l:=[(0,[]),(1,[]),(2,[]),(3,[]),(4,[]),(5,[]),(6,[]),(7,[]),(8,[]),(9,[]),(10,[]),(11,[]),(12,[]),(13,[]),(14,[]),(15,[]),(16,[]),(17,[]),(18,[]),(19,[]),(20,[]),(21,[]),(22,[]),(23,[]),(24,[]),(25,[]),(26,[])]) S S ?_;have hq14r:=aS T;obtain⟨xid,E⟩:=bZ (show q<fr.length by rw[hfl];exact hq14r);have hz2:=LF C E;refine aj Z Z (D Z) Z ?_;refine aj Z Z (az Z (k:=0) S) Z ?_;refine aj Z Z (aw Z (aq.get 0 Z) S Z) Z ?_;refine aj Z Z (az Z (k:=1) S) Z ?_;refine aj Z Z (aw Z (aq.get 0 Z) S Z) Z ?_;refine aj Z Z (az Z (k:=2) S) Z ?_;refine aj Z Z (aw Z (aq.get 0 Z) S Z) Z ?_;refine aj Z Z (az Z (k:=2) S) Z ?_;refine aj Z Z (aw Z (aq.eS aa) S Z) Z ?_;refine aj Z Z (D Z) Z ?_;refine bV (e:=57) (m:=1) hg1.from_ R Z Z Z S S Z Z (fun _=>Z) (fun hw f4 bi f5 bk=>?_);have hr46':=bk;obtain⟨hA,rfl,bl⟩:=hr46';refine aj Z Z (aN aq bi Z S Z) Z ?_;refine aj Z Z (D Z) Z ?_;refine bV (e:=59) (m:=2) bl E Z Z Z S S Z Z (fun _=>Z) (fun hB f6 bm f7 bo=>?_);obtain rfl:=bo;refine mX bm Z Z Z Z (k:=0) S (Nat.le_of_ble_eq_true Z) (fun _=>Z) (fun hC br=>?_);refine aj Z Z (aN aq br Z S Z) Z ?_;refine aj Z Z (az Z (k:=2) S) Z ?_;refine aj Z Z (aw Z (aq.eS aa) S Z) Z ?_;refine aj Z Z (D Z) Z ?_;refine bV (e:=57) (m:=1) hg1.from_ R Z Z Z S S Z Z (fun _=>Z) (fun hD f8 bs f9 bt=>?_);have hr55':=bt;obtain⟨hE,rfl,bv⟩:=hr55';refine aj Z Z (aN aq bs Z S Z) Z ?_;refine aj Z Z (D Z) Z ?_;refine bV (e:=59) (m:=2) bv E Z Z Z S S Z Z (fun _=>Z) (fun hH gc bw ge b0=>?_);obtain rfl:=b0
   refine mX bw Z Z Z Z (k:=1) S (Nat.le_of_ble_eq_true Z) (fun _=>Z) (fun hK b3=>?_);refine aj Z Z (aN aq b3 Z S Z) Z ?_;refine lJ aq Z Z (bN (e:=3) (m:=1) (z:=[.int .i64 0]) (cs:=[_,_,_,_,_]) S S S S<|bA Z Z Z Z<|bA Z Z Z Z<|bA Z Z Z Z<|bA Z Z Z Z<|bA Z Z Z Z bI) (fun _=>Z) (fun V ef aq=>?_);replace aq:=St.keeps (M:=[_]) aq;have hks:=KP.dX K1 [(ef,.row (ints [u.kind,u.loc,u.order,xid.cq,xid.index]) 3 false)];replace aq:=aq.pull (.there .here);refine eW Z Z (aT Z Z Z S) (fun _=>Z) (Of hG Q a4 (fF (xs:=[u.kind,u.loc,u.order,xid.cq,xid.index]) (.inr (.head _)) (by simp)) (KQ hR hrow R C E) (by simp) hB3 oM aq) ?_;rintro _ V ⟨B4,hB4,aq⟩;replace aq:=aq.weaken hks;refine⟨aV,?_⟩;refine a8 ?_;refine B ?_;refine ah Z ?_;refine Y Z (D Z) Z ?_;refine Y Z (az Z (k:=3) S) Z ?_;refine Y Z (aw Z (aq.bX.get 0 Z) S Z) Z ?_;refine Y Z (az Z (k:=4) S) Z ?_;refine Y Z (aw Z (aq.bX.get 0 Z) S Z) Z ?_;refine gw aq Z (bN (e:=2) (m:=1) (z:=[.int .i64 0]) (cs:=[_,_]) S S S S<|bA Z Z Z Z<|bA Z Z Z Z bI) (fun _=>Z) (fun V eg aq=>?_);replace aq:=St.keeps (M:=[_]) aq;have hks2:=KP.dX K1 [(eg,.row (ints [u.read,u.write]) 2 false)];have hev:=X.ev _ _ hrow _ (gB_ C);have h5:=FT (KQ hR hrow R C E);have h5l: [u.kind,u.loc,u.order,xid.cq,xid.index].length=5:=rfl
   have b4:∀x∈[u.read,u.write],xN x:=fun x hx=>by
    rcases mQ_.1 hx with rfl | hx
    ·exact hev.1
    rcases mQ_.1 hx with rfl | hx
    ·exact hev.2
    cases hx
   have h6:=FU b4;have h6l: [u.read,u.write].length=2:=rfl;have h7:(PI (u,xid)).length<=462:=by show(List.flatMap f10 [u.kind,u.loc,u.order,xid.cq,xid.index]++List.flatMap f36 [u.read,u.write]).length<=462;rw[lA_];omega
   refine cR Z (aT Z Z Z S) (fun _=>Z) (Oe hG Q (fF (xs:=[u.read,u.write]) (.inr (.head _)) (by simp)) b4 (by simp) hB4 (by rw[lA_];show _+(List.flatMap f10 _).length<=_;omega) aq) ?_;rintro _ V ⟨B5,hB5,aq⟩;replace aq:=aq.weaken hks2;refine af ?_;refine aH ?_;refine B ?_;refine ah Z ?_;replace aq:=aq.sub (gP (.cons _ (.refl _)));refine Y Z (aC (v:=.int .i64 (.ofNat (q+1))) Z Z<|congrArg (fun z=>some (J.int .i64 z))<|aX oM) Z ?_;refine Y Z (D Z) Z ?_;refine af ?_;refine aL ⟨ee-1,(by have:=aS T;omega),(by(iterate 84 refine bc.put Z ?_);exact bc.refl _ _),q+1,B5,⟨by have:=aS T;omega,by rw[l7 hz2,<-lQ_];show yf bb (_++(_++_)) B5;rw[<-lQ_];exact hB5,by rw[l7 hz2,<-lQ_,lA_];omega⟩,Z,aq⟩
  refine ba ?_;refine aP ?_;refine aR ?_;refine aM ?_;refine aH ?_;refine B ?_;refine ah Z ?_;have aE:(row.zip fr).take q=row.zip fr:=tL_ (by rw[List.length_zip,hfl];have:=bC T;omega);have hq14b:q<=14:=by omega
  refine Y Z (aC (v:=.int .i64 (.ofNat (i+1))) Z Z<|congrArg (fun z=>some (J.int .i64 z))<|aX oM) Z ?_;refine Y Z (D Z) Z ?_;refine af ?_;refine aL ⟨j6-1,(by have:=aS A;omega),(by(iterate 108 refine bc.put Z ?_);exact bc.refl _ _),i+1,B3,⟨by have:=aS A;omega,by rw[l7 hz,<-lQ_];rw[aE,lQ_] at hB3;exact hB3,by rw[l7 hz,<-lQ_,lA_];show _+(47::(row.zip fr).flatMap PI).length<=_;rw[aE] at a2;rw[lA_,lA_] at a2;simp only[List.length_cons,List.length_nil] at a2⊢;omega⟩,Z,aq⟩
 refine ba ?_;refine aP ?_;refine aR ?_;refine aM ?_;refine B ?_;refine H ?_;refine H ?_;refine ah Z ?_;have el:g.threads.length<=i:=bC A;rw[tL_ (by rw[cb];exact el)] at hB2 ce;have hthr:=hF.t;have hl2b:(g.init.flatMap f36++(g.threads.zip g.from_).flatMap uT).length<=30000:=by omega
 refine Y Z (az Z (k:=3) S) Z ?_;refine Y Z (aw Z (aq.eS aa) S Z) Z ?_;refine Y Z (aO hg1.order Z Z Z (e:=57) S Z) Z ?_;refine Y Z (D Z) Z ?_;refine af ?_;refine B ?_;refine aI ?_;refine a6 [11,13,75,76,77,78,79,80,81,82,83,84,85,86,87,88,89,90,91,92,93,94] (fun j t V=>∃(i3:Nat) (B6:Own),(j+i3=g.order.length/\yf bb (g.init.flatMap f36++(g.threads.zip g.from_).flatMap uT++(g.order.take i3).flatMap EN) B6/\(g.init.flatMap f36++(g.threads.zip g.from_).flatMap uT++(g.order.take i3).flatMap EN).length<=30000+i3*9000)/\t.get 75=some (.int .i64 (.ofNat i3))/\St V K1 (B6++L)) (g.order.length) ⟨0,_,⟨Z,by rw[List.take_zero,List.flatMap_nil,List.append_nil];exact hB2,by rw[List.take_zero,List.flatMap_nil,List.append_nil];exact hl2b⟩,Z,aq⟩ ?_;clear aq;intro em t V an X;obtain⟨i3,B6,⟨gl,hB6,hL⟩,al,aq⟩:=X;replace an:=an.bS Z Z;obtain⟨hM,en,eo,hN,hO,hP,hQ,hS,an⟩:=an;replace an:=an.bS Z Z;obtain⟨hT,b5,er,es,et,ex,e0,e3,an⟩:=an;replace an:=an.mQ Z;obtain⟨e4,e5,e6,e7,an⟩:=an;replace an:=an.eh Z;obtain⟨e8,an⟩:=an;replace an:=an.eh Z;obtain⟨hU,an⟩:=an;obtain rfl:=an.nil;clear an;replace al:eo=some _:=al;subst al;refine H ?_;refine ah Z ?_;refine Y Z (aC Z Z Z) Z ?_;refine af ?_;refine B ?_;refine H ?_;refine aD Z (fun F=>?_) (fun F=>?_)
 ·refine aG ?_;refine B ?_;refine H ?_;refine aI ?_;refine H ?_;refine ah Z ?_;obtain⟨x77,am,gr⟩:=cL F;refine cm (e:=57) (m:=1) hg1.order am Z Z S S Z Z (fun _=>Z) (fun hV gs b6 gt b7=>?_);have hr77':=b7;obtain⟨hW,rfl,ao⟩:=hr77';refine Y Z (aN aq b6 Z S Z) Z ?_;refine Y Z (ak Z) Z ?_;refine af ?_;refine B ?_;refine H ?_;refine ah Z ?_;refine cR Z (aT Z Z Z S) (fun _=>Z) (mi hG Q hB6 (by have:=hF.o;have:=aS F;omega) 47 aq) ?_;rintro _ V ⟨B6b,hB6b,aq⟩;refine af ?_;refine B ?_;refine H ?_;refine ah Z ?_;obtain⟨od,b8⟩:∃od,od=x77:=⟨_,Z⟩;rw[<-b8] at am ao;have hod:=am;have ho56:=hF.Qs od (gB_ hod);have hoi:=aS F;have hol:=hF.o;refine Y Z (D Z) Z ?_;refine Y Z (aO ao Z Z Z (e:=59) S Z) Z ?_;refine Y Z (D Z) Z ?_;refine af ?_;refine B ?_;refine aI ?_;refine a6 [13,82,83,84,85,86,87,88,89,90,91,92,93] (fun j t V=>∃(q:Nat) (B8:Own),(j+q=od.length/\yf bb (g.init.flatMap f36++(g.threads.zip g.from_).flatMap uT++(g.order.take i3).flatMap EN++[47]++(od.take q).flatMap Qc) B8/\(g.init.flatMap f36++(g.threads.zip g.from_).flatMap uT++(g.order.take i3).flatMap EN++[47]++(od.take q).flatMap Qc).length<=30001+i3*9000+q*140)/\t.get 82=some (.int .i64 (.ofNat q))/\St V K1 (B8++L)) (od.length) ⟨0,_,⟨Z,by rw[List.take_zero,List.flatMap_nil,List.append_nil];exact hB6b,by rw[List.take_zero,List.flatMap_nil,List.append_nil,lA_];simp only[List.length_cons,List.length_nil];omega⟩,Z,aq⟩ ?_;clear aq;intro e9 t V an X;obtain⟨q,B8,⟨gv,hB8,a3⟩,ap,aq⟩:=X;replace an:=an.bS Z Z;obtain⟨en,b5,er,es,et,ex,e0,e3,an⟩:=an;replace an:=an.mQ Z;obtain⟨e4,e5,e6,e7,an⟩:=an;replace an:=an.eh Z;obtain⟨e8,an⟩:=an;obtain rfl:=an.nil;clear an;replace ap:b5=some _:=ap;subst ap;refine H ?_;refine ah Z ?_;refine Y Z (aC Z Z Z) Z ?_;refine af ?_;refine B ?_;refine H ?_;refine aD Z (fun U=>?_) (fun U=>?_)
  ·refine aG ?_;refine B ?_;refine H ?_;refine aI ?_;refine H ?_;refine ah Z ?_;obtain⟨W,I,g2⟩:=cL U;refine cm (e:=59) (m:=2) ao I Z Z S S Z Z (fun _=>Z) (fun hX g3 b9 g4 ca=>?_);obtain rfl:=ca;refine Y Z (bE aq b9 Z S Z) Z ?_;refine bJ aq Z (dG (cs:=[.int .i64 0,.int .i64 0]) S S) (fun _=>Z) (fun V b2 aq=>?_);refine cF aq Z (bg Z Z Z (aq.get 0 Z) (m:=2) S Z (Nat.le_of_ble_eq_true Z) (ar Z<|ar Z aQ) (cells':=[_,_]) Z) Z (fun V aq=>?_);refine af ?_;refine B ?_;refine ah Z ?_;refine Y Z (D Z) Z ?_;refine Y Z (az Z (k:=0) S) Z ?_;refine Y Z (aw Z (aq.get 0 Z) S Z) Z ?_;refine Y Z (az Z (k:=1) S) Z ?_;refine Y Z (aw Z (aq.get 0 Z) S Z) Z ?_;refine gw aq Z (bN (e:=3) (m:=1) (z:=[.int .i64 0]) (cs:=[_,_]) S S S S<|bA Z Z Z Z<|bA Z Z Z Z bI) (fun _=>Z) (fun V fd aq=>?_);replace aq:=St.keeps (M:=[_]) aq;have hks:=KP.dX K1 [(fd,.row (ints [W.cq,W.index]) 3 false)];replace aq:=aq.pull (.there .here);have hsm:=Ph hR hod (gB_ I);have h5:=FT hsm;have h5l: [W.cq,W.index].length=2:=rfl;refine cR Z (aT Z Z Z S) (fun _=>Z) (Of hG Q a4 (fF (xs:=[W.cq,W.index]) (.inr (.head _)) (by simp)) hsm (by simp) hB8 oM aq) ?_;rintro _ V ⟨B9,hB9,aq⟩;replace aq:=aq.weaken hks;refine af ?_;refine aH ?_;refine B ?_;refine ah Z ?_;replace aq:=aq.sub (gP (.cons _ (.refl _)));refine Y Z (aC (v:=.int .i64 (.ofNat (q+1))) Z Z<|congrArg (fun z=>some (J.int .i64 z))<|aX (by have:=aS U;omega)) Z ?_;refine Y Z (D Z) Z ?_;refine af ?_;refine aL ⟨e9-1,(by have:=aS U;omega),(by(iterate 26 refine bc.put Z ?_);exact bc.refl _ _),q+1,B9,⟨by have:=aS U;omega,by rw[l7 I,<-lQ_];exact hB9,by rw[l7 I,<-lQ_,lA_];show _+(List.flatMap f10 _).length<=_;omega⟩,Z,aq⟩
  refine ba ?_;refine aP ?_;refine aR ?_;refine aM ?_;refine aH ?_;refine B ?_;refine ah Z ?_;have a0:od.take q=od:=tL_ (bC U);have hq24b:q<=56:=by omega
  refine Y Z (aC (v:=.int .i64 (.ofNat (i3+1))) Z Z<|congrArg (fun z=>some (J.int .i64 z))<|aX oM) Z ?_;refine Y Z (D Z) Z ?_;refine af ?_;refine aL ⟨em-1,(by have:=aS F;omega),(by(iterate 46 refine bc.put Z ?_);exact bc.refl _ _),i3+1,B8,⟨by have:=aS F;omega,by rw[l7 hod,<-lQ_];rw[a0,lQ_] at hB8;exact hB8,by rw[l7 hod,<-lQ_,lA_];show _+(47::od.flatMap Qc).length<=_;rw[a0] at a3;rw[lA_,lA_] at a3;simp only[List.length_cons,List.length_nil] at a3⊢;omega⟩,Z,aq⟩
 refine ba ?_;refine aP ?_;refine aR ?_;refine aM ?_;refine B ?_;refine H ?_;refine ah Z ?_;have fi:g.order.length<=i3:=bC F;rw[tL_ fi] at hB6;refine bB Z (aT Z Z Z S) (fun _=>Z) (Il hG (s:=nW g) hB6 (Le g) aq) (fun V aq=>?_);refine Y Z (ak Z) Z ?_;refine af ?_;refine B ?_;refine aF ?_;exact aA Z Z ⟨Z,aq.weaken av⟩
def KM (M:Own):KP:=fun b o=>(b,o)∈M
theorem KM.RW {M N_:Own}:KP.le (KM N_) (KM (M++N_)):=fun _ _ h=>List.mem_append_right _ h
theorem KM.RT {M N_:Own}:KP.le (KM M) (KM (M++N_)):=fun _ _ h=>List.mem_append_left _ h
theorem KM.dX {M:Own} {K:KP}:KP.le (KM M) (K.ml M):=fun _ _ h=>.inr h
theorem MT {α:Type} (O_ M L:List α) (a b c x:α):(a::b::(O_++(x::c::(M++L)))).Perm ([x]++(a::b::(O_++(c::(M++L))))):=by
 classical
 rw[List.perm_iff_count];intro y;simp only[List.count_append,List.count_cons,List.count_nil];omega
theorem MQ {α:Type} (O_ I N_ M L:List α) (e a b c x:α):(e::([x]++(N_++(a::b::((O_++I)++(c::(M++L))))))).Perm (e::(O_++(a::b::x::c::((N_++I)++(M++L))))):=by
 classical
 rw[List.perm_iff_count];intro y;simp only[List.count_append,List.count_cons,List.count_nil];omega
theorem MR {α:Type} (O_ I M L:List α) (a b c x:α):(a::(O_++(b::x::c::(I++(M++L))))).Perm (M++x::a::c::b::((O_++I)++L)):=by
 classical
 rw[List.perm_iff_count];intro y;simp only[List.count_append,List.count_cons];omega
theorem MS {α:Type} (O_ I L:List α) (a b:α):(a::b::((O_++I)++L)).Perm (I++(O_++(a::b::L))):=by
 classical
 rw[List.perm_iff_count];intro y;simp only[List.count_append,List.count_cons];omega
def Ru (g:XG) (bl bm bv:Nat) (lo:cu) (L:Own) (acc:List (List Int)) (L':Own):Prop:=
 ∃u O1 I1,cS 4 27 (RG<|KM I1) (acc.map fun ps=>JU ps g) u O1/\L'=(bl,lo)::(bm,.mark)::(bv,.row [u] 29 false)::((O1++I1)++L)
def eV (l:List XC) (g:XG):Int:=if 4<l.length then 3 else if bY g≠0∨l.length≠g.threads.length then 2 else 0
def lH (l:List XC) (g:XG):List XG:=if eV l g=0 then sf l (jy l) g else []
structure PE (G G0:Cx):Prop where
 p:Plain G
 p0:Plain G0
 k1:∀a s,G.x6 50 a s=sA Tryz.prog G0 50 4 (fun g=>Nat.beq g 49) 50 a s
 k2:∀a s,G.x6 54 a s=sA Tryz.prog G0 54 5 (fun g=>Nat.beq g 55) 54 a s
theorem w2 {l:List XC} {g:XG} (h:og l (jy l) g):gV l (jy l)≠[]:=fun e=>by
 obtain⟨x,r,hx⟩:=wU h;unfold sf at hx;rw[e] at hx;cases hx
theorem fl {x y:Int} (h:cC (bM x y)=false):x=y:=lZ (a7 h)
theorem Bb {G G0:Cx} (hS:PE G G0) {K:KP} {k:Nat} {l:List XC} {lv:J} (hl:bG K 2 (gf K k) l lv) {g:XG} {a b c d:J} (hg:dj K g a b c d) {V:N} {L:Own} (aq:St V K L):
  aW Tryz.prog G 19 [lv,.agg [a,b,c,d]] V fun v V'=>∃K' u,v= .tuple [u,.int .i64<|eV l g]/\KP.le K K'/\bG K' 4 (RG K') (lH l g) u/\St V' K' L:=by
 have hG:=hS.p;refine vY hG Tryz.func19 Z (t:=(PT.leaf.put (some lv) 0).put (some (.agg [a,b,c,d])) 1) (by rfl) ?_;refine gL<|jL ?_;refine ah Z ?_;refine bJ aq Z (cG Z Z) (fun _=>Z) (fun V b1 aq=>?_);obtain⟨K1,A,C,aq⟩:=aq.cK (M:=[_]);have aa:dz K1 (.ptr b1 0) [a,b,c,d]:=⟨b1,0,_,_,false,Z,C _ (.head _),Nat.le_of_ble_eq_true Z,Z⟩;clear C;have hl1:=hl.mono A fun _ _ h=>h.mono A;have hg1:=hg.mono A
 refine Y Z (ak Z) Z ?_;refine Y Z (ak Z) Z ?_;refine af ?_;refine ep ?_;refine gL<|jL ?_;refine H ?_;refine ah Z ?_;refine Y Z (D Z) Z ?_;refine Y Z (aO hl1 Z Z Z (e:=63) S Z) Z ?_;refine Y Z (aC Z Z Z) Z ?_;refine af ?_;refine B ?_;refine aD Z (fun ab=>?_) (fun ab=>?_)
 ·have Q:eV l g=3:=by unfold eV;rw[if_pos<|aS (a:=4) ab]
  refine H ?_;refine ah Z ?_;refine Y Z (ak Z) Z ?_;refine Y Z (ak Z) Z ?_;refine af ?_;refine B ?_;refine aF ?_;refine qk ⟨.inr Z,_,eA Z Z Z,K1,.au,by rw[Q],A,.inl ⟨by unfold lH;rw[Q,if_neg (by decide)],Z⟩,aq⟩
 have ac:l.length<=4:=bC (a:=4) ab;refine aG ?_;refine ep ?_;refine gL<|jL ?_;refine H ?_;refine ah Z ?_;refine Y Z (bE aq aa Z S Z) Z ?_;refine bB Z (aT Z Z Z S) (fun _=>Z) (GW hG hg1 aq) (fun V aq=>?_);refine bx Z (aC Z Z Z) (fun _=>Z) (fun ad=>?_) (fun ad=>?_)
 ·have Q:eV l g=2:=by unfold eV;rw[if_neg oM,if_pos (.inl<|fX<|bL ad)]
  refine Y Z (D Z) Z ?_
  iterate 6 refine ae Z Z ?_
  refine Y Z (aJ Z Z) Z ?_;refine af ?_;refine B ?_;refine bj Z ?_;refine H ?_;refine ah Z ?_;refine Y Z (ak Z) Z ?_;refine Y Z (ak Z) Z ?_;refine af ?_;refine B ?_;refine aF ?_;refine qk ⟨.inr Z,_,eA Z Z Z,K1,.au,by rw[Q],A,.inl ⟨by unfold lH;rw[Q,if_neg (by decide)],Z⟩,aq⟩
 have ap:bY g=0:=fl ad;have hR:=ei.1 ap;refine Y Z (D Z) Z ?_;refine Y Z (D Z) Z ?_;refine Y Z (aO hl1 Z Z Z (e:=63) S Z) Z ?_;refine fg aa Z Z Z (k:=1) S (Nat.le_of_ble_eq_true Z) (fun _=>Z) (fun b0 av=>?_);refine Y Z (aN aq av Z S Z) Z ?_;refine Y Z (aO hg1.threads Z Z Z (e:=64) S Z) Z ?_;refine Y Z (aC Z Z Z) Z ?_;refine Y Z (aJ Z Z) Z ?_;refine af ?_;refine B ?_;refine aD Z (fun ai=>?_) (fun ai=>?_)
 ·have Q:eV l g=2:=by unfold eV;rw[if_neg oM,if_pos (.inr fun e=>fX (bL ai) (by rw[e]))]
  refine H ?_;refine ah Z ?_;refine Y Z (ak Z) Z ?_;refine Y Z (ak Z) Z ?_;refine af ?_;refine B ?_;refine aF ?_;refine qk ⟨.inr Z,_,eA Z Z Z,K1,.au,by rw[Q],A,.inl ⟨by unfold lH;rw[Q,if_neg (by decide)],Z⟩,aq⟩
 have U:l.length=g.threads.length:=iJ_ (fl ai);have Q:eV l g=0:=by unfold eV;rw[if_neg oM,if_neg (fun h=>h.elim (fun h=>h ap) (fun h=>h U))]
 have ax:og l (jy l) g:=⟨hR,U,gz⟩;refine aG ?_;refine ep ?_;refine gL<|jL ?_;refine ah Z ?_;refine bJ aq Z (dG (cs:=[.au]) S S) (fun _=>Z) (fun V bv aq=>?_);refine af ?_;refine ep ?_;refine gL<|gL<|jL ?_;refine ah Z ?_;refine Y Z (D Z) Z ?_;refine cR Z (aT Z Z Z S) (fun _=>Z) (G2 hG hl1 ac aq) ?_;rintro _ V ⟨K2,pl,pc,cv,rfl,E,a9,bb,bd,aq⟩;have hg2:=hg1.mono E;have hp2:=aa.mono E;refine af ?_;refine ep ?_;refine yG<|vX aq Z S fun bm bl V aq=>?_;refine(Lq hG (hl1.mono E fun _ _ h=>h.mono E) ac bd gz a9 bb (I:=Ru g bl bm bv _ L) (fun K' M acc p b2 L' V hle hI hb hp be aq=>?_) ⟨.au,[],[],.inl ⟨Z,Z,Z⟩,Z⟩ aq).mono fun _ V ⟨L',⟨u,O1,W,hO,hL⟩,aq⟩=>?_
 ·obtain⟨u,O1,W,hO,rfl⟩:=hI;have hPO:=(y7 gz ac).1 p be;rw[U] at hPO;obtain⟨bf,bi⟩:=nQ hPO;replace aq:=aq.perm (wZ M (O1++W) L _ _ _ _);refine yH aq Z ?_;refine ah Z ?_;refine Y Z (ak Z) Z ?_;refine af ?_;refine⟨Z,_,aq,fun V aq=>?_⟩;refine aI ?_;refine aU (l:=[(0,[]),(1,[]),(2,[]),(3,[0]),(4,[]),(5,[]),(6,[])]) S S ?_;refine aj Z Z (aw Z (aq.get 1 Z) S Z) Z ?_;refine aj Z Z (bE aq (hp2.mono hle) Z S Z) Z ?_;refine aj Z Z (D Z) Z ?_;have h0:=aq.perm (MT (O1++W) M L _ _ _ _);have hlex:=KP.dX K' [(b2,.row (p.map gZ) 3 false)]
  have hz:bG (K'.ml [(b2,.row (p.map gZ) 3 false)]) 1 cH p (.slice b2 0 l.length (.known l.length)):=by
   exact wq (b:=b2) (e:=3) (.inr (.head _)) hp oM
  refine eW Z Z (aT Z Z Z S) (fun _=>Z) (Lr hG (hg2.mono<|KP.le_trans hle hlex) hR hz bf (by rw[hp,U]) bi h0.keeps) ?_;rintro _ V ⟨K3,a3,b3,c3,d3,rfl,T,al,aE⟩;obtain⟨N_,a0,hN⟩:=aE.EP T;replace al:dj (KM N_) (JU p g) a3 b3 c3 d3:=dj.mono (fun b o h=>(hN b o h.1).elim (fun h'=>absurd h' (h.2 o)) id) al;have aq:=h0.sG a0;have bk:V.m.get bv=some (.row [u] 29 false):=(St.bX (M:=N_) aq.pop).get 1 Z;refine⟨aZ (bh Z Z Z Z Z (aw Z bk S Z) (hO.rD (K:=fun _ _=>False)).dL) aV,?_⟩;refine lJ aq Z Z (bN (e:=27) (m:=4) (z:=[.au,.au,.au,.au]) (cs:=[_,_,_,_]) S S S S<|bA Z Z Z Z bI) (fun _=>Z) (fun V b4 aq=>?_);replace aq:=aq.perm (MQ O1 W N_ M L _ _ _ _ _);refine lI (R:=RG<|KM (N_++W)) (m:=4) (e:=27) (hO.jC fun _ _ h=>h.mono KM.RW) aq (ej (m:=4) (x:=JU p g) Z ⟨_,_,_,_,Z,al.mono KM.RT⟩) RG.leaf (by rw[lM_];simp;omega) Z Z Z Z Z Z Z Z (fun _=>Z) (fun V br bs hO31 aq=>?_);refine⟨aV,?_⟩;refine jP aq (.gX (.there .here)) Z Z (bg Z Z hO31.leaf.1 (aq.bX.get 1 Z) (m:=1) S Z (Nat.le_of_ble_eq_true Z) (ar hO31.leaf.2 aQ) (cells':=[_]) Z) Z (fun V aq=>?_);refine⟨aV,?_⟩;refine a8 ?_;refine aH ?_;exact⟨Z,_,aq.perm List.perm_middle,fun V aq=>⟨Z,_,⟨br,bs,N_++W,by rw[List.map_append];exact hO31,Z⟩,aq.perm<|MR ..⟩⟩
 subst hL;refine⟨K2,_,aq,fun V aq=>⟨Z,ep<|jL ?_⟩⟩;refine H ?_;refine ah Z ?_;refine Y Z (ak Z) Z ?_;refine af ?_;refine B ?_;refine H ?_;refine ah Z ?_;refine Y Z (aw Z (aq.get 1 Z) S Z) Z ?_;obtain⟨K3,T,C,aq⟩:=(aq.perm<|MS O1 W L _ _).cK (M:=W);have hO3:cS 4 27 (RG K3) ((gV l<|jy l).map fun ps=>JU ps g) u O1:=hO.jC fun _ _ h=>h.mono fun b o hb=>C (b,o) hb
 clear C;refine cR Z (aT Z Z Z S) (fun _=>Z) (FR (m:=4) (c:=dQ) oM (La ru) hS.k1 Z RG.leaf hO3 (.inl (by intro e;exact w2 ax<|List.map_eq_nil_iff.1 e)) aq fun σ2 h2 x y vx vy hx hy=>?_) ?_
 ·obtain⟨a1,b1,c1,d1,rfl,hx⟩:=hx;obtain⟨a2,b2,c2,d2,rfl,hy⟩:=hy;exact(ql hS.p0 hx.ro hy.ro h2).mono fun _ _ h=>h.1
 rintro _ V ⟨rfl,gs,M2,F,bt,hO4,aq⟩;refine af ?_;refine B ?_;have hne:gs≠[]:=fun e=>by rw[e] at F;exact w2 ax<|List.map_eq_nil_iff.1 F.symm.eq_nil
 obtain⟨bo,co,eo,cells,rfl,rfl,a4,bw,hlen⟩:=hO4.Se hne;refine H ?_;refine ah Z ?_;refine Y Z (aw Z (aq.get 2 Z) S Z) Z ?_;refine Y Z (D Z) Z ?_;refine cR Z (aT Z Z Z S) (fun _=>Z) (Io hG a4 hlen bw aq) ?_;rintro _ V ⟨c',cells',ts,rfl,a5,am,an,aq⟩;refine Y Z (ak Z) Z ?_;refine Y Z (ak Z) Z ?_;refine af ?_;refine B ?_;refine aF ?_;obtain⟨K4,X,C,aq⟩:=aq.cK (M:=[_]);refine yF (bm:=bm) aq fun V aq=>⟨_,eA Z Z Z,K4,_,by rw[Q],KP.le_trans A<|KP.le_trans E<|KP.le_trans T X,?_,aq.pop⟩
 have ao:cW dQ gs=lH l g:=by
  unfold lH;rw[if_pos Q];exact AT ru (fun _ _=>trivial) F<|bt.imp fun h=>of_decide_eq_false h
 have hfin:=(am.mono X).gS (C _ (.head _)) (n:=(cW dQ gs).length) (by rw[lA_];omega) a5 an;rw[List.take_left'] at hfin
 ·rw[ao] at hfin⊢;exact hfin
 rfl
end Go.Ev
namespace Go.Ev
variable [Env]
section
variable {α β:Type}
theorem Lb {lt:β->β->Bool} (h:Sort.SWO lt) (f:α->β):Sort.SWO fun x y=>lt (f x) (f y):=
 ⟨fun x=>h.irrefl _,fun x y z=>h.trans _ _ _,fun x y z=>h.ntrans _ _ _⟩
variable {c:α->α->Int}
end
section
variable {l:List XC} {cls:List Int}
def An (l:List XC) (cls:List Int) (g:XG):XG:=((sf l cls g).head?).getD g
theorem JM {g:XG} (h:og l cls g):An l cls g∈sf l cls g:=by
 obtain⟨x,r,e⟩:=wU h;unfold An;rw[e];exact mS_ ..
end
end Go.Ev
namespace Go.Ev
variable [Env]
open Go.Proofs
set_option maxRecDepth 4000
set_option maxHeartbeats 8000000
structure SU (g:XG) (u1:J) (M1:Own) (b2:Nat) (us2:List J) (M2:Own) (b3:Nat) (us3:List J) (M3:Own) (b4:Nat) (us4:List J) (M4:Own):Prop where
 init:cS 1 2 cH g.init u1 M1
 threads:eI 5 92 nX g.threads us2 M2
 from_:eI 2 59 kz g.from_ us3 M3
 order:eI 2 59 kz g.order us4 M4
theorem Dm {G:Cx} (d:Plain G) {K:KP} (e:cU) {V:N} {L:Own} (aq:St V K L):aW Tryz.prog G 100 [.agg<|ints e.ints] V fun v V'=>v= .bool (dR e)/\St V' K L:=by
 refine SC d Tryz.func100 Z<|R5 2 Z<|kp aq Z (cG Z Z) (fun V b1 aq=>?_);refine Rk 5 Z<|SK aq 3 [0,0] Z Z<|ky Z (D Z) (fun b=>?_) (fun b=>?_)
 ·refine R8 8 Z ?_;exact aA Z Z ⟨cB (by unfold dR;simp only[b,ct,cf]),aq.pop⟩
 refine Sa aq 8 [0,0] Z Z ?_;exact aA Z Z ⟨cB (by unfold dR;simp only[b,ct,cf]),aq.pop⟩
theorem nf {G:Cx} (d:Plain G) {K:KP} (e:cU) {V:N} {L:Own} (aq:St V K L):aW Tryz.prog G 101 [.agg<|ints e.ints] V fun v V'=>v= .bool (bH e)/\St V' K L:=by
 refine SC d Tryz.func101 Z<|R5 2 Z<|kp aq Z (cG Z Z) (fun V b1 aq=>?_);refine Rk 5 Z<|SK aq 3 [0,0] Z Z<|ky Z (D Z) (fun b=>?_) (fun b=>?_)
 ·refine R8 8 Z ?_;exact aA Z Z ⟨cB (by unfold bH;simp only[b,ct,cf]),aq.pop⟩
 refine Sa aq 8 [0,0] Z Z ?_;exact aA Z Z ⟨cB (by unfold bH;simp only[b,ct,cf]),aq.pop⟩
theorem xK {G:Cx} (hG:Plain G) {K:KP} {g:XG} {a b c d:J} (h:dj K g a b c d) (th ix:Int) {V:N} {L:Own} (aq:St V K L):aW Tryz.prog G 102 [.agg [a,b,c,d],.agg [.int .i64 th,.int .i64 ix]] V fun v V'=>v= .tuple [.agg<|ints (vW<|ez g ⟨th,ix⟩).ints,.bool (ez g ⟨th,ix⟩).isSome]/\St V' K L:=by
 have h':=h;obtain⟨hi,U,hf,ho⟩:=h';refine SC hG Tryz.func102 Z<|R5 2 Z<|kp aq Z (cG Z Z) (fun V b1 aq=>?_);refine kp aq Z (cG Z Z) (fun V b2 aq=>?_);refine kp aq Z (Tp (cs:=[iZ,iZ,iZ,iZ,iZ])) (fun V b3 aq=>?_);refine Qz 6 Z<|SK aq 3 [0,1] Z Z<|R7 2 Z<|aD Z (fun T=>?_) (fun T=>?_)
 ·refine Ro aq 6 [1,1] Z Z<|ky Z (D Z) (fun C=>?_) (fun C=>?_)
  ·refine Rk 12 Z (Y Z (Tj (places:=[(0,1),(1,1),(2,1),(3,1),(4,1)]) (zero:=[iZ,iZ,iZ,iZ,iZ]) (cs:=[_,_,_,_,_]) Z) Z<|cF aq Z (Ts Z Z Z aq.g0 (m:=5) Z Z (cells':=[_,_,_,_,_]) Z) Z (fun V aq=>?_));refine R8 4 Z<|ay<|ay (?_);exact fu Z Z aq.g0 (m:=5) S Z Z ⟨by rw[pQ C];rfl,aq.pop.pop.pop⟩
  refine SK aq 4 [1,1,0,2] Z Z<|Y Z (To hi Z Z Z (e:=2) Z) Z<|R7 4 Z<|aD Z (fun I=>?_) (fun I=>?_)
  ·obtain⟨ixn,rfl⟩:=nv C;obtain rfl:th=0:=by rw[dv] at T;simpa using T
   refine R5 2 Z (Y Z (Tj (places:=[(0,1),(1,1),(2,1),(3,1),(4,1)]) (zero:=[iZ,iZ,iZ,iZ,iZ]) (cs:=[_,_,_,_,_]) Z) Z<|cF aq Z (Ts Z Z Z aq.g0 (m:=5) Z Z (cells':=[_,_,_,_,_]) Z) Z (fun V aq=>?_));refine R8 4 Z<|ay<|ay (?_);exact fu Z Z aq.g0 (m:=5) S Z Z ⟨by rw[show ez g _=none from by show(g.init[ixn]?).map _=_;rw[gN_<|jg I];rfl];rfl,aq.pop.pop.pop⟩
  obtain⟨ixn,rfl⟩:=nv C;obtain rfl:th=0:=by rw[dv] at T;simpa using T
  refine aG<|B<|H<|aU (l:=zp [0,1,2,3,4,5,6,7,8,9,10]) S S<|SN aq 6 [1,1,0,2,1,1] Z Z ?_;obtain⟨a3,E⟩:=bZ (jm I);refine Th (e:=2) (m:=1) hi E Z Z Z Z Z (fun a4 ao W ap X=>?_);obtain rfl:=X;refine aj Z Z (Tq aq W Z Z) Z (aj Z Z (Tj (places:=[(0,1),(1,1),(2,1),(3,1),(4,1)]) (zero:=[iZ,iZ,iZ,iZ,iZ]) (cs:=[_,_,_,_,_]) Z) Z<|tI aq Z Z (Ts Z Z Z aq.g0 (m:=5) Z Z (cells':=[_,_,_,_,_]) Z) Z (fun V aq=>?_));refine⟨aV,?_⟩;refine R9 3 Z<|R6 2 Z ?_;exact fu Z Z aq.g0 (m:=5) S Z Z ⟨by rw[show ez g _=some _ from by show(g.init[ixn]?).map _=_;rw[E];rfl];rfl,aq.pop.pop.pop⟩
 refine aG<|B<|H<|H<|aU (l:=zp [0,1,2,3,4,5,6,7,8,9,10,11,12,13,14,15,16,17,18,19,20,21,22,23,24,25,26,27,28]) S S<|SN aq 3 [0,1] Z Z<|jo Z Z (D Z) (fun _=>Z) (fun M=>?_) (fun M=>?_)
 ·refine R9 28 Z (R5 2 Z (Y Z (Tj (places:=[(0,1),(1,1),(2,1),(3,1),(4,1)]) (zero:=[iZ,iZ,iZ,iZ,iZ]) (cs:=[_,_,_,_,_]) Z) Z<|cF aq Z (Ts Z Z Z aq.g0 (m:=5) Z Z (cells':=[_,_,_,_,_]) Z) Z (fun V aq=>?_)));refine Rl 5 Z ?_;exact fu Z Z aq.g0 (m:=5) S Z Z ⟨by rw[s9 M];rfl,aq.pop.pop.pop⟩
 refine SN aq 4 [0,1,1,2] Z Z<|aj Z Z (To U Z Z Z (e:=64) Z) Z<|SJ 2 Z<|jo Z Z (D Z) (fun _=>Z) (fun A=>?_) (fun A=>?_)
 ·refine R9 20 Z (R5 2 Z (Y Z (Tj (places:=[(0,1),(1,1),(2,1),(3,1),(4,1)]) (zero:=[iZ,iZ,iZ,iZ,iZ]) (cs:=[_,_,_,_,_]) Z) Z<|cF aq Z (Ts Z Z Z aq.g0 (m:=5) Z Z (cells':=[_,_,_,_,_]) Z) Z (fun V aq=>?_)));refine Rl 5 Z ?_;exact fu Z Z aq.g0 (m:=5) S Z Z ⟨by rw[BP A];rfl,aq.pop.pop.pop⟩
 refine SN aq 4 [1,1] Z Z<|jo Z Z (D Z) (fun _=>Z) (fun Q=>?_) (fun Q=>?_)
 ·refine R9 15 Z (R5 2 Z (Y Z (Tj (places:=[(0,1),(1,1),(2,1),(3,1),(4,1)]) (zero:=[iZ,iZ,iZ,iZ,iZ]) (cs:=[_,_,_,_,_]) Z) Z<|cF aq Z (Ts Z Z Z aq.g0 (m:=5) Z Z (cells':=[_,_,_,_,_]) Z) Z (fun V aq=>?_)));refine Rl 5 Z ?_;exact fu Z Z aq.g0 (m:=5) S Z Z ⟨by rw[pQ Q];rfl,aq.pop.pop.pop⟩
 refine SN aq 7 [1,1,1,2,0,1] Z Z ?_;obtain⟨tn,rfl⟩:=nv M;obtain⟨tm,rfl⟩:=GK T;obtain⟨ixn,rfl⟩:=nv Q;obtain⟨a5,u⟩:=bZ (show tm<g.threads.length from by have:=mV A;omega);refine Th (e:=64) (m:=1) U u Z Z Z Z (cI<|fP (by have:=mV A;have:=U.bK;omega)) (fun a9 av aa ax ab=>?_);have hr54':=ab;obtain⟨bb,rfl,ac⟩:=hr54';refine aj Z Z (Tq aq aa Z Z) Z<|aj Z Z (To ac Z Z Z (e:=92) Z) Z<|R9 4 Z<|aD Z (fun R=>?_) (fun R=>?_)
 ·refine R5 2 Z (Y Z (Tj (places:=[(0,1),(1,1),(2,1),(3,1),(4,1)]) (zero:=[iZ,iZ,iZ,iZ,iZ]) (cs:=[_,_,_,_,_]) Z) Z<|cF aq Z (Ts Z Z Z aq.g0 (m:=5) Z Z (cells':=[_,_,_,_,_]) Z) Z (fun V aq=>?_));refine Rl 5 Z ?_;exact fu Z Z aq.g0 (m:=5) S Z Z ⟨by rw[show ez g _=none from by show(g.threads[tm]?).bind _=_;rw[u];exact gN_<|jg R];rfl,aq.pop.pop.pop⟩
 refine aG<|B<|H<|aU (l:=zp [0,1,2,3,4,5,6,7,8,9,10,11,12]) S S<|SN aq 5 [1,2,0,1] Z Z<|Th (e:=64) (m:=1) U u Z Z Z Z (cI<|fP (by have:=mV A;have:=U.bK;omega)) (fun bd aE ad a0 ai=>?_);have hr65':=ai;obtain⟨be,rfl,al⟩:=hr65';refine aj Z Z (Tq aq ad Z Z) Z<|SN aq 2 [1,1] Z Z ?_;obtain⟨bf,F⟩:=bZ (jm R);refine Th (e:=92) (m:=5) al F Z Z Z Z Z (fun bi a1 am a2 an=>?_);obtain rfl:=an;refine aj Z Z (Tr aq am Z Z) Z<|tI aq Z Z (Ts Z Z Z aq.g0 (m:=5) Z Z (cells':=[_,_,_,_,_]) Z) Z (fun V aq=>?_);refine⟨aV,?_⟩;refine R9 3 Z<|aF ?_;exact fu Z Z aq.g0 (m:=5) S Z Z ⟨by rw[show ez g _=some _ from by show(g.threads[tm]?).bind _=_;rw[u];exact F];rfl,aq.pop.pop.pop⟩
end Go.Ev
end
