/- Part of the proof: an evaluator of the model's code, rules for walks on it, walks. Without conditions. -/
import Derived.Test.YtmilmijjgnapbaaGreatEc
import Derived.Test.YtmilmijjgnapbaaGreatEb
import Derived.KernelRfl
import Derived.Test.YtmilmijjgnapbaaGreatProg
set_option linter.unusedSectionVars false
set_option linter.unusedVariables false
set_option linter.unusedSimpArgs false
noncomputable section
namespace Go.Ev
variable [Env]
def dg:Nat->XE->Nat
 | 0,_=>0
 | k+1,.mk _ _ _ kids=>(kids.map<|dg k).sum+1
def mL (l:List Nat):Nat:=l.foldl max 0
def fD:Nat->XE->Nat
 | 0,_=>0
 | k+1,.mk _ _ _ kids=>mL (kids.map<|fD k)+1
theorem foldl_max:∀(l:List Nat) (m:Nat),l.foldl max m=max m (mL l)
 | [],m=>by show m=max m 0;omega
 | a::l,m=>by
  show l.foldl max (max m a)=max m (l.foldl max<|max 0 a);rw[foldl_max l<|max m a,foldl_max l<|max 0 a];omega
theorem Ic (a:Nat) (l:List Nat):mL (a::l)=max a (mL l):=by
 show l.foldl max (max 0 a)=_;rw[foldl_max];omega
theorem Ie (a:Nat) (l:List Nat):mL (l++[a])=max (mL l) a:=by unfold mL;simp_all
theorem BB {n:Nat} (h:n<=9223372036854775807):wr .i64 (Int.ofNat n)= .ofNat n:=by
 show(bif Nat.ble n 9223372036854775807 then _ else _)=_
 grind [nE_]
theorem Tj {a b c:Bool}:(bif a then b else c)=true↔(a=true->b=true)/\(a=false->c=true):=by cases a<;>simp
theorem Q1 {a:Bool}:bh a=true↔a=false:=by cases a<;>simp[bh]
theorem Tu {a:Bool}:bh a=false↔a=true:=by cases a<;>simp[bh]
theorem Tm {a b:Int}:H a b=true↔a=b:=by rw[cW];simp
theorem Gh {a b:Int}:H a b=false↔¬a=b:=by rw[cW];simp
theorem OH {a b:Int}:b9 a b=true↔a<b:=by rw[fm];simp
theorem Mv {a b:Int}:b9 a b=false↔b<=a:=by rw[fm];simp
theorem IL {k:Nat} {x:XE}:1<=dg (k+1) x:=by cases x;show 1<=_+1;omega
theorem zW {f:XE->Int->Option Int} {g:XE->Nat} {q:XE->Bool}:∀(l:List XE) (m:Nat),m<=2000->(∀x∈l,∀m:Nat,m<=2000->f x (.ofNat m)=if m+g x<=2000/\q x=true then some (.ofNat (m+g x)) else none)->
  sI f l (.ofNat m)=if m+(l.map g).sum<=2000/\l.all q=true then some (.ofNat (m+(l.map g).sum)) else none
 | [],m,hm,_=>by rw[if_pos ⟨by simpa using hm,Z⟩];rfl
 | x::l,m,hm,h=>by
  show(f x (.ofNat m)).bind (sI f l)=_;rw[h x (mS_ ..) m hm];simp only[List.map_cons,List.sum_cons,List.all_cons]
  by_cases h1:m+g x<=2000/\q x=true
  ·rw[if_pos h1];show sI f l (.ofNat (m+g x))=_;rw[zW l (m+g x) h1.1 (fun y j=>h y (mC_ _ j)),h1.2,Nat.add_assoc];simp
  grind
theorem AL {l:List Nat} {B:Nat}:mL l<=B↔∀x∈l,x<=B:=by
 induction l with
 | nil=>simp[mL]
 | cons a l ih=>rw[Ic,Nat.max_le,ih];simp
def iF:Nat->XE->Prop
 | 0,_=>False
 | k+1,.mk _ _ name kids=>name.length<=9223372036854775807/\∀y∈kids,iF k y
theorem zV:∀(k:Nat) (x:XE) (d m:Nat),iF k x->m<=2000->d<=33->sH k x (.ofNat d) (.ofNat m)=if m+dg k x<=2000/\Nat.ble (d+fD k x) 33=true then some (.ofNat (m+dg k x)) else none
 | 0,x,_,_,h,_,_=>h.elim
 | k+1,.mk op num name kids,d,m,hf,hm,hd=>by
  show(bif (bif b9 2000 (wr .i64<|Int.add (.ofNat m) 1) then true else b9 32 (.ofNat d)) then none else sI (fun x m=>sH k x (wr .i64<|Int.add (.ofNat d) 1) m) kids (wr .i64<|Int.add (.ofNat m) 1))=_;rw[show Int.add (.ofNat m) 1= .ofNat (m+1) from Z,show Int.add (.ofNat d) 1= .ofNat (d+1) from Z,BB oM,BB oM];rw[show dg (k+1) (.mk op num name kids)=(kids.map<|dg k).sum+1 from Z,show fD (k+1) (.mk op num name kids)=mL (kids.map<|fD k)+1 from Z]
  by_cases h1:2000<m+1
  ·rw[show b9 2000 (.ofNat (m+1))=true from OH.2 (by grind)]
   grind
  rw[show b9 2000 (.ofNat (m+1))=false from Mv.2 (by grind)]
  by_cases h2:32<d
  ·rw[show b9 32 (.ofNat d)=true from OH.2 (by grind)];rw[if_neg (by rintro ⟨_,a⟩;have:=Nat.le_of_ble_eq_true a;omega)];rfl
  rw[show b9 32 (.ofNat d)=false from Mv.2 (by grind)];show sI _ kids (.ofNat (m+1))=_;rw[zW (g:=dg k) (q:=fun x=>Nat.ble (d+1+fD k x) 33) kids (m+1) oM (fun x hx m' j=>zV k x (d+1) m' (hf.2 x hx) j oM)]
  have e:(kids.all fun x=>Nat.ble (d+1+fD k x) 33)=Nat.ble (d+(mL (kids.map<|fD k)+1)) 33:=by
   rw[Bool.eq_iff_iff];simp only[aE_,nE_];constructor
   ·intro h
    have:mL (kids.map<|fD k)<=32-d:=AL.2 fun y hy=>by
     grind
    omega
   intro h x hx;have:=AL.1 (nR_<|mL<|kids.map<|fD k) _ (List.mem_map_of_mem hx);omega
  grind
def gp (k:Nat) (x:XE):Bool:=bif Nat.blt 2000 (dg k x) then true else Nat.blt 32 (fD k x)
theorem yB {k:Nat} {x:XE} (h:iF k x):(sH k x 1 0).isSome=bh (gp k x):=by
 rw[show sH k x 1 0=sH k x (.ofNat 1) (.ofNat 0) from Z,zV k x 1 0 h oM oM];unfold gp
 by_cases h1:2000<dg k x
 ·rw[if_neg oM,show Nat.blt 2000 (dg k x)=true from by simp_all];rfl
 rw[show Nat.blt 2000 (dg k x)=false from by rw[Bool.eq_false_iff];simp_all]
 by_cases h2:32<fD k x
 ·rw[if_neg (by rintro ⟨_,a⟩;have:=Nat.le_of_ble_eq_true a;omega),show Nat.blt 32 (fD k x)=true from by simp_all];rfl
 rw[if_pos ⟨by omega,by rw[nE_];omega⟩,show Nat.blt 32 (fD k x)=false from by rw[Bool.eq_false_iff];simp_all];rfl
theorem BA {n:Int} (h:-9223372036854775808<=n) (h2:n<=9223372036854775807):wr .i64 n=n:=by
 cases n with
 | ofNat n=>grind [BB]
 | negSucc n=>
  show(bif Nat.ble (n+1) 9223372036854775808 then _ else _)=_
  grind [nE_]
theorem Kp {name:List Nat} {m:Int} (hn:name.length<=9223372036854775807) (h0:0<=m) (h1:m<=100):Cz name m=m-1-((name.length/20:Nat):Int):=by
 unfold Cz;have e:Int.tdiv (.ofNat<|du name) 20=((name.length/20:Nat):Int):=by rw[bY];rfl
 have hd:name.length/20<=461168601842738790:=by omega
 rw[e,show Int.sub m 1=m-1 from Z,BA (n:=m-1) oM oM,BA (n:=((name.length/20:Nat):Int)) oM oM]
 grind [BA]
theorem CB {f:XE->Int->Int} {g:XE->Nat}:∀(l:List XE) (m:Int),m<=100->(∀x∈l,∀m,0<=m->m<=100->f x m<=m/\(0<=f x m->(g x:Int)+f x m<=m))->mZ f l m<=m/\(0<=mZ f l m->(((l.map g).sum:Nat):Int)+mZ f l m<=m)
 | [],m,_,_=>⟨Int.le_refl _,fun _=>by show((0:Nat):Int)+m<=m;omega⟩
 | x::l,m,hm,h=>by
  show(bif b9 m 0 then m else mZ f l (f x m))<=m/\(0<=(bif b9 m 0 then m else mZ f l (f x m))->_+(bif b9 m 0 then m else mZ f l (f x m))<=m);cases hl:b9 m 0 with
  | true=>
   rw[fm,decide_eq_true_iff] at hl
   grind
  | false=>
   rw[fm,decide_eq_false_iff_not] at hl;obtain⟨h1,h2⟩:=h x (mS_ ..) m oM hm;obtain⟨h3,h4⟩:=CB l (f x m) oM (fun y j=>h y (mC_ _ j))
   grind
theorem CA:∀(k:Nat) (x:XE) (m:Int),iF k x->0<=m->m<=100->rM k x m<=m/\(0<=rM k x m->(dg k x:Int)+rM k x m<=m)
 | 0,_,_,h,_,_=>h.elim
 | k+1,.mk op num name kids,m,hf,h0,h1=>by
  have e:=Kp hf.1 h0 h1;have hd:0<=((name.length/20:Nat):Int):=Int.natCast_nonneg _;obtain⟨h3,h4⟩:=CB (f:=rM k) (g:=dg k) kids (Cz name m) oM (fun x hx m h0 h1=>CA k x m (hf.2 x hx) h0 h1)
  grind [rM,dg]
theorem E3 {k:Nat} {x:XE} (hf:iF k x) (h:xO k x 60=true):dg k x<=60:=by
 unfold xO at h;have h:=bW h;rw[fm,decide_eq_false_iff_not] at h;have:=(CA k x 60 hf oM oM).2 oM;omega
def AH (c:Nat):Bool:=bif (bif bh (b9 (.ofNat c) 97) then bh (b9 122 (.ofNat c)) else false) then true else bif bh (b9 (.ofNat c) 65) then bh (b9 90 (.ofNat c)) else false
def HD (c:Nat):Bool:=bif bh (b9 (.ofNat c) 48) then bh (b9 57 (.ofNat c)) else false
def v8 (first:Bool) (c:Nat):Bool:=bif AH c then true else bif first then false else bif HD c then true else bh (bh<|H (.ofNat c) 95)
def dP:Bool->List Nat->Bool
 | _,[]=>true
 | f,c::r=>bif v8 f c then dP false r else false
def pk:List (List Nat):=[[115,104,97,114,101,100],[112,108,97,105,110],[116,104,114,101,97,100],[105,102],[101,108,115,101],[119,104,105,108,101],[108,111,97,100],[115,116,111,114,101],[99,97,115],[97,100,100],[115,119,97,112],[102,101,110,99,101],[97,115,115,117,109,101],[97,115,115,101,114,116],[110,97],[114,108,120],[97,99,113],[114,101,108],[97,114],[115,99]]
def isKey (s:List Nat):Bool:=pk.any fun k=>gK k s
def jY (s:List Nat):Bool:=bif dP true s then(bif gK s [] then false else bh (isKey s)) else false
theorem sl {s:List Nat} {i c:Nat} (h:s[i]?=some c) (hc:v8 (H (.ofNat i) 0) c=true):dP (H (.ofNat i) 0) (s.drop i)=dP (H (.ofNat (i+1)) 0) (s.drop (i+1)):=by
 rw[cu h]
 grind [dP,cW]
theorem wW {s:List Nat} {i c:Nat} (h:s[i]?=some c) (hc:v8 (H (.ofNat i) 0) c=false):dP (H (.ofNat i) 0) (s.drop i)=false:=by
 rw[cu h]
 grind [dP]
theorem Hu {s:List Nat} {i:Nat} (h:s.length<=i):dP (H (.ofNat i) 0) (s.drop i)=true:=by rw[eF h];rfl
def fJ (s:List Nat) (vs:List U):Prop:=vs= [.str s]
theorem tR {α:Type} {f:α->Nat} {l:List α} {i:Nat} {x:α} (h:l[i]?=some x):((l.take (i+1)).map f).sum=((l.take i).map f).sum+f x:=by
 rw[List.take_add_one,h];simp
theorem KJ {α:Type} {f:α->Nat} {l:List α} {i:Nat} {x:α} (h:l[i]?=some x):mL ((l.take (i+1)).map f)=max (mL ((l.take i).map f)) (f x):=by
 grind [List.take_add_one,Ie]
theorem FM {α:Type} {f:α->Nat} {l:List α} {i:Nat}:((l.take i).map f).sum<=(l.map f).sum:=by
 grind [List.take_append_drop]
theorem lK {α:Type} {f:α->Nat} {l:List α} {i:Nat} {x:α} (h:l[i]?=some x):f x<=(l.map f).sum:=by
 have h1:=tR (f:=f) h;have h2:=FM (f:=f) (l:=l) (i:=i+1);omega
theorem Gw (a b:Nat):(bif b9 (.ofNat a) (.ofNat b) then(.ofNat b:Int) else .ofNat a)= .ofNat (max a b):=by
 cases h:b9 (.ofNat a) (.ofNat b) with
 | true=>have:=bc h;grind
 | false=>grind [bA,Nat.max_eq_left]
theorem zi:∀(k:Nat) (x:XE),fD k x<=dg k x
 | 0,_=>nR_ _
 | k+1,.mk op num name kids=>by
  show mL (kids.map<|fD k)+1<=(kids.map<|dg k).sum+1;refine Nat.succ_le_succ<|AL.2 fun y j=>?_;obtain⟨x,hx,rfl⟩:=List.mem_map.1 j;obtain⟨i,hi⟩:=gO_ hx;exact Nat.le_trans (zi k x)<|lK hi
theorem Cb:∀{s:List Nat} {m n:Nat},sX s m=some n->∀c∈s,48<=c/\c<=57
 | [],_,_,_,c,hc=>by simp at hc
 | a::s,m,n,h,c,hc=>by
  unfold sX at h;split at h
  ·rename_i j;rcases mQ_.1 hc with rfl | hc
   ·exact j
   exact Cb h c hc
  cases h
theorem vr:∀{s:List Nat},(∀c∈s,48<=c/\c<=57)->dP false s=true
 | [],_=>rfl
 | a::s,h=>by
  have ha:=h a (mS_ ..);unfold dP
  have h1:AH a=false:=by
   unfold AH;rw[OH.2 (show(Int.ofNat a)<97 by show(a:Int)<97;omega),OH.2 (show(Int.ofNat a)<65 by show(a:Int)<65;omega)];rfl
  have j:HD a=true:=by
   unfold HD;rw[Mv.2 (show 48<=(Int.ofNat a) by show 48<=(a:Int);omega),Mv.2 (show(Int.ofNat a)<=57 by show(a:Int)<=57;omega)];rfl
  have:v8 false a=true:=by unfold v8;rw[h1,j];rfl
  rw[this];exact vr fun c hc=>h c (mC_ _ hc)
theorem IE {s:List Nat} {n:Nat} (h:ld s=some n):jY (114::s)=true/\s≠[]:=by
 unfold ld at h;split at h
 ·cases h
 rename_i m;have hd:=Cb h;have j:s≠[]:=fun e=>m (.inl (by rw[e];rfl))
 refine⟨?_,j⟩;obtain⟨a,r,rfl⟩:=List.exists_cons_of_ne_nil j;have ha:=hd a (mS_ ..);unfold jY;rw[show dP true (114::a::r)=true from(by show(bif v8 true 114 then dP false (a::r) else false)=true;rw[show v8 true 114=true from Z,vr hd];rfl),lk,show decide (114::a::r= [])=false from by simp]
 have:isKey (114::a::r)=false:=by
  unfold isKey;rw[Bool.eq_false_iff];intro hk;obtain⟨x,hx,he⟩:=List.any_eq_true.1 hk;rw[lk] at he;have he:=of_decide_eq_true he;subst he;simp only[pk,mQ_,List.cons.injEq,List.not_mem_nil,or_false] at hx;omega
 rw[this];rfl
theorem DL:jY []=false:=by grind [jY,lk]
theorem Qi:jY [48]=false:=by
 unfold jY;rw[show dP true [48]=false from Z];rfl
def jF (s:List Nat):Int:=match ld s with | some n=>.ofNat n | none=>-1
def iS (op:Int) (name:List Nat):List Nat:=bif H op 2 then(match ld name with | some _=>114::name | none=>[48]) else name
def fF:Nat->XE->XE
 | 0,x=>x
 | k+1,.mk op num name kids=>.mk op num (iS op name) (kids.map<|fF k)
def rN (op:Int):Int:=bif (bif H op 1 then true else H op 2) then 0 else bif (bif H op 3 then true else H op 4) then 1 else bif (bif bh (b9 op 5) then bh (b9 16 op) else false) then 2 else-1
def dV (op num:Int) (name:List Nat) (n:Nat):Bool:=
 bif bh (H (rN op) (.ofNat n)) then false else bif (bif H op 2 then bh (jY name) else jY name) then false else
 bif (bif bh (H op 2) then bh (gK name []) else false) then false else bif b9 num 0 then false else bif (bif bh (H op 1) then bh (H num 0) else false) then false else true
def ej:Nat->XE->Bool
 | 0,_=>false
 | k+1,.mk op num name kids=>bif dV op num name kids.length then kids.all (ej k) else false
def oy (k:Nat) (x:XE):Int:=bif gp k x then 3 else bif ej k x then 0 else 2
def fI:Nat->XE->List (List Nat)
 | 0,_=>[]
 | k+1,.mk op _ name kids=>(bif (bif H op 2 then bh (gK name []) else false) then [name] else [])++(kids.map<|fI k).flatten
theorem qt:∀(k:Nat) (x:XE),dg k (fF k x)=dg k x
 | 0,_=>rfl
 | k+1,.mk op num name kids=>by
  show((kids.map<|fF k).map<|dg k).sum+1=(kids.map<|dg k).sum+1;rw[List.map_map];exact congrArg (fun l=>l.sum+1)<|List.map_congr_left fun x _=>qt k x
theorem vA:∀(k:Nat) (x:XE),fD k (fF k x)=fD k x
 | 0,_=>rfl
 | k+1,.mk op num name kids=>by
  show mL ((kids.map<|fF k).map<|fD k)+1=mL (kids.map<|fD k)+1;rw[List.map_map];exact congrArg (fun l=>mL l+1)<|List.map_congr_left fun x _=>vA k x
theorem CO (k:Nat) (x:XE):gp k (fF k x)=gp k x:=by unfold gp;rw[qt,vA]
theorem ie {a b:Int} (h:a≠b):H a b=false:=by rw[cW];simp_all
theorem xj {s:List Nat} (h:gK s []=true):s= []:=by rw[lk] at h;simp_all
theorem Fv (br:Int) (k:Nat) (op num:Int) (name:List Nat) (kids:List XE):fo br (k+1) (.mk op num name kids)=(bif (bif dV op num (iS op name) kids.length then(bif (bif H op 2 then bh (gK name []) else false) then [name] else []).all (fun s=>b9 (jF s) br) else false) then kids.all (fo br k) else false):=by
 have hlen:H 0 (.ofNat kids.length)=H (.ofNat kids.length) 0:=by rw[cW,cW];grind
 have m:H (.ofNat kids.length) 0=true->kids.all (fo br k)=true:=fun h=>by
  grind [eqv]
 by_cases h1:op=1
 ·subst h1;show(bif bh (b9 num 0) then(bif gK name [] then H (.ofNat kids.length) 0 else false) else false)=(bif (bif (bif bh (H 0 (.ofNat kids.length)) then false else bif jY name then false else bif bh (gK name []) then false else bif b9 num 0 then false else true) then true else false) then kids.all (fo br k) else false);rw[hlen];cases hl:H (.ofNat kids.length) 0 with
  | false=>cases b9 num 0<;>cases gK name []<;>rfl
  | true=>
   rw[m hl];cases w:gK name [] with
   | false=>cases b9 num 0<;>cases jY name<;>rfl
   | true=>rw[xj w,DL];cases b9 num 0<;>rfl
 by_cases G:op=2
 ·subst G;show(match ld name with | some n=>(bif b9 (.ofNat n) br then(bif H num 0 then H (.ofNat kids.length) 0 else false) else false) | none=>false)=(bif (bif (bif bh (H 0 (.ofNat kids.length)) then false else bif bh (jY (match ld name with | some _=>114::name | none=>[48])) then false else bif b9 num 0 then false else bif bh (H num 0) then false else true) then(bif bh (gK name []) then [name] else []).all (fun s=>b9 (jF s) br) else false) then kids.all (fo br k) else false);rw[hlen];cases I:ld name with
  | none=>
   dsimp only;rw[Qi];cases H (.ofNat kids.length) 0<;>rfl
  | some n=>
   dsimp only;obtain⟨hw,aa⟩:=IE I;have z:jF name= .ofNat n:=by unfold jF;rw[I]
   rw[hw,show gK name []=false from by rw[lk];simp_all];show _=(bif (bif _ then([name].all fun s=>b9 (jF s) br) else false) then _ else false);simp only[List.all_cons,List.all_nil,Bool.and_true,z];cases hl:H (.ofNat kids.length) 0 with
   | false=>cases b9 (.ofNat n) br<;>cases H num 0<;>rfl
   | true=>
    rw[m hl];cases C:H num 0 with
    | false=>cases b9 (.ofNat n) br<;>cases b9 num 0<;>rfl
    | true=>rw[eqv C];cases b9 (.ofNat n) br<;>rfl
 have e1:=ie h1;have e2:=ie G;have u:iS op name=name:=by unfold iS;rw[e2];rfl
 have K:(bif (bif H op 2 then bh (gK name []) else false) then [name] else []).all (fun s=>b9 (jF s) br)=true:=by rw[e2];rfl
 rw[u,K];show(bif H op 1 then _ else bif H op 2 then _ else _)=_;unfold dV rN zC;rw[e1,e2];simp only[cond_false];have j:gK name []=true->jY name=false:=fun h=>by rw[xj h];exact DL
 have C:H num 0=true->b9 num 0=false:=fun h=>by rw[eqv h];rfl
 have A:∀n:Nat,H (-1) (.ofNat n)=false:=fun n=>ie (by simp_all)
 have E:H 1 (.ofNat kids.length)=H (.ofNat kids.length) 1:=by rw[cW,cW];grind
 have F:H 2 (.ofNat kids.length)=H (.ofNat kids.length) 2:=by rw[cW,cW];grind
 cases ab:(bif H op 3 then true else H op 4) with
 | true=>
  simp only[cond_true,cond_false,E];cases w:gK name [] with
  | false=>cases H (.ofNat kids.length) 1<;>cases H num 0<;>cases jY name<;>cases b9 num 0<;>rfl
  | true=>
   rw[j w];cases B:H num 0 with
   | false=>cases H (.ofNat kids.length) 1<;>cases b9 num 0<;>rfl
   | true=>rw[C B];cases H (.ofNat kids.length) 1<;>cases kids.all (fo br k)<;>rfl
 | false=>
  cases h5:b9 op 5 with
  | true=>simp only[cond_true,cond_false,A,show bh true=false from Z,show bh false=true from Z]
  | false=>
  cases ac:b9 16 op with
  | true=>simp only[cond_true,cond_false,bh,A]
  | false=>
   simp only[cond_true,cond_false,F,show bh false=true from Z];cases w:gK name [] with
   | false=>cases H (.ofNat kids.length) 2<;>cases H num 0<;>cases jY name<;>cases b9 num 0<;>rfl
   | true=>
    rw[j w];cases B:H num 0 with
    | false=>cases H (.ofNat kids.length) 2<;>cases b9 num 0<;>rfl
    | true=>grind
theorem qn (br:Int):∀(k:Nat) (x:XE),(bif ej k (fF k x) then(fI k x).all (fun s=>b9 (jF s) br) else false)=fo br k x
 | 0,_=>rfl
 | k+1,.mk op num name kids=>by
  have j:(bif (kids.map<|fF k).all (ej k) then((kids.map<|fI k).flatten).all (fun s=>b9 (jF s) br) else false)=kids.all (fo br k):=by
   rw[Bool.eq_iff_iff];rw[Tj];constructor
   ·intro h
    have h1:(kids.map<|fF k).all (ej k)=true:=by
     cases u:(kids.map<|fF k).all (ej k) with
     | true=>rfl
     | false=>exact absurd (h.2 u) Bool.false_ne_true
    have h2:=aE_.1 (h.1 h1);refine aE_.2 fun x hx=>?_
    rw[<-qn br k x,show ej k (fF k x)=true from aE_.1 h1 _ (List.mem_map_of_mem hx)];exact aE_.2 fun s m=>h2 s (List.mem_flatten.2 ⟨_,List.mem_map_of_mem hx,m⟩)
   intro h;have h:=aE_.1 h
   have w:∀x∈kids,ej k (fF k x)=true/\(fI k x).all (fun s=>b9 (jF s) br)=true:=fun x hx=>by
    have:=h x hx;rw[<-qn br k x] at this;cases u:ej k (fF k x) with
    | true=>rw[u] at this;exact⟨Z,this⟩
    | false=>rw[u] at this;cases this
   refine⟨fun _=>aE_.2 fun s m=>?_,fun h1=>?_⟩
   ·obtain⟨l,hl,m⟩:=List.mem_flatten.1 m;obtain⟨x,hx,rfl⟩:=List.mem_map.1 hl;exact aE_.1 (w x hx).2 s m
   rw[aE_.2 fun y z=>by obtain⟨x,hx,rfl⟩:=List.mem_map.1 z;exact(w x hx).1] at h1;cases h1
  have key:fo br (k+1) (.mk op num name kids)=(bif (bif dV op num (iS op name) kids.length then(bif (bif H op 2 then bh (gK name []) else false) then [name] else []).all (fun s=>b9 (jF s) br) else false) then kids.all (fo br k) else false):=Fv br k op num name kids;show(bif (bif dV op num (iS op name) (kids.map<|fF k).length then(kids.map<|fF k).all (ej k) else false) then((bif (bif H op 2 then bh (gK name []) else false) then [name] else [])++(kids.map<|fI k).flatten).all (fun s=>b9 (jF s) br) else false)=_;rw[lM_,List.all_append,key,<-j];cases dV op num (iS op name) kids.length<;>cases (kids.map<|fF k).all (ej k)<;>cases (bif (bif H op 2 then bh (gK name []) else false) then [name] else []).all (fun s=>b9 (jF s) br)<;>rfl
def fW (kind:Int):Int:=
 bif H kind 1 then 1 else bif H kind 3 then 1 else bif H kind 5 then 1 else bif H kind 6 then 1 else bif H kind 8 then 1 else bif H kind 9 then 1 else bif H kind 11 then 1 else bif H kind 4 then 2 else
 bif H kind 2 then 0 else bif H kind 7 then 0 else bif H kind 10 then 0 else bif H kind 12 then 0 else bif H kind 13 then 0 else-1
def rq (kind:Int):Bool:=bif H kind 2 then true else bif H kind 3 then true else bif H kind 4 then true else bif H kind 5 then true else H kind 6
def lf (kind:Int):Bool:=bif H kind 1 then true else bif rq kind then bh (H kind 3) else false
def BD (a b:Bool):Bool:=bif a then bh b else b
def mq (br:Int) (k:Nat) (e:XE):Bool:=bif H (oy k<|fF k e) 0 then(fI k e).all (fun s=>b9 (jF s) br) else false
def tx (kind:Int):Bool:=bif rq kind then true else H kind 7
def Od (kind:Int):Bool:=bif H kind 10 then true else H kind 11
def pe (x:XI):Bool:=
 bif bh (H (fW x.kind) (.ofNat x.exprs.length)) then true else bif BD (tx x.kind) (bif bh (b9 x.order 1) then bh (b9 6 x.order) else false) then true else bif bh (tx x.kind) then bh (H x.order 0) else false
def mQ (br:Int) (x:XI):Bool:=
 bif (bif lf x.kind then(bif b9 x.qY 0 then true else bh (b9 x.qY br)) else false) then true else
 bif (bif bh (lf x.kind) then bh (H x.qY 0) else false) then true else
 bif (bif rq x.kind then(bif b9 x.loc 0 then true else bh (b9 x.loc 6)) else false) then true else
 bif bh (rq x.kind) then bh (H x.loc 0) else false
def wR (nins:Int) (x:XI):Bool:=
 bif (bif Od x.kind then(bif b9 x.to 0 then true else bh (b9 x.to nins)) else false) then true else bif bh (Od x.kind) then bh (H x.to 0) else false
def gg (br nins:Int) (k:Nat) (x:XI):Bool:=bif pe x then false else bif mQ br x then false else bif wR nins x then false else x.exprs.all (mq br k)
theorem Io {br:Int} {k:Nat} {e:XE} (h:gp k e=false):mq br k e=fo br k e:=by
 unfold mq oy;rw[CO,h,<-qn br k e];cases ej k (fF k e)<;>rfl
theorem Cg {br nins:Int} {k:Nat} {x:XI} (h:∀e∈x.exprs,gp k e=false):gg br nins k x=im br nins k x:=by
 have j:x.exprs.all (mq br k)=x.exprs.all (fo br k):=by
  rw[Bool.eq_iff_iff,aE_,aE_]
  grind [Io]
 unfold gg;rw[j]
 by_cases hk:1<=x.kind/\x.kind<=13
 ·have u:∃sh,oU[x.kind.toNat]?=some sh/\im br nins k x=m7 br nins k x sh/\(sh.qY=lf x.kind/\sh.loc=rq x.kind/\sh.order=tx x.kind/\sh.to=Od x.kind/\Int.ofNat sh.exprs=fW x.kind):=by
   have w:∃n:Nat,x.kind= .ofNat n/\1<=n/\n<=13:=⟨x.kind.toNat,by grind,by omega,by omega⟩;obtain⟨n,w,h1,M⟩:=w
   have R:im br nins k x=match oU[x.kind.toNat]? with | some h=>m7 br nins k x h | none=>false:=by
    unfold im;rw[Mv.2 hk.1,Mv.2 hk.2];rfl
   rw[R,w];have:n=1∨n=2∨n=3∨n=4∨n=5∨n=6∨n=7∨n=8∨n=9∨n=10∨n=11∨n=12∨n=13:=by omega
   rcases this with rfl | rfl | rfl | rfl | rfl | rfl | rfl | rfl | rfl | rfl | rfl | rfl | rfl<;>exact⟨_,rfl,rfl,rfl,rfl,rfl,rfl,rfl⟩
  obtain⟨sh,_,W,h1,M,X,h4,h5⟩:=u;rw[W];unfold m7 pe mQ wR gH BD;rw[h1,M,X,h4,show H (.ofNat x.exprs.length) (.ofNat sh.exprs)=H (fW x.kind) (.ofNat x.exprs.length) from by rw[cW,cW,h5];grind]
  have o7:b9 x.order 7=bh (b9 6 x.order):=by
   rw[Bool.eq_iff_iff,OH,Q1,Mv];omega
  have Q:H x.order 0=true->b9 x.order 1=true:=by rw[Tm,OH];omega
  rw[o7];generalize x.exprs.all (fo br k)=A;generalize H (fW x.kind) (.ofNat x.exprs.length)=B;generalize lf x.kind=S;generalize rq x.kind=C;generalize tx x.kind=D_;generalize Od x.kind=T;generalize b9 x.qY 0=z;generalize b9 x.qY br=E;generalize H x.qY 0=F;generalize b9 x.loc 0=G;generalize b9 x.loc 6=l1;generalize H x.loc 0=l2;generalize b9 x.to 0=I;generalize b9 x.to nins=K;generalize H x.to 0=L;generalize b9 6 x.order=m;revert Q;generalize b9 x.order 1=q1;generalize H x.order 0=q0;intro Q;have eS:(bif (bif S then(bif z then true else bh E) else false) then true else bif bh S then bh F else false)=bh (bif S then(bif bh z then E else false) else F):=by cases S<;>cases z<;>cases E<;>cases F<;>rfl
  have eC:(bif (bif C then(bif G then true else bh l1) else false) then true else bif bh C then bh l2 else false)=bh (bif C then(bif bh G then l1 else false) else l2):=by cases C<;>cases G<;>cases l1<;>cases l2<;>rfl
  have eT:(bif (bif T then(bif I then true else bh K) else false) then true else bif bh T then bh L else false)=bh (bif T then(bif bh I then K else false) else L):=by cases T<;>cases I<;>cases K<;>cases L<;>rfl
  have eD:(bif (bif D_ then bh (bif bh q1 then bh m else false) else(bif bh q1 then bh m else false)) then true else bif bh D_ then bh q0 else false)=bh (bif D_ then(bif bh q1 then bh m else false) else q0):=by
   cases D_<;>cases q0<;>cases q1<;>cases m<;>first | rfl | simp_all
  grind
 have hx:im br nins k x=false:=by
  grind [im,Mv]
 have hb:pe x=true:=by
  have he:fW x.kind= -1:=by
   unfold fW;rw[ie (b:=1) oM,ie (b:=3) oM,ie (b:=5) oM,ie (b:=6) oM,ie (b:=8) oM,ie (b:=9) oM,ie (b:=11) oM,ie (b:=4) oM,ie (b:=2) oM,ie (b:=7) oM,ie (b:=10) oM,ie (b:=12) oM,ie (b:=13) oM];rfl
  unfold pe;rw[he,ie (a:=-1) (b:=.ofNat x.exprs.length) (by simp_all)];rfl
 rw[hx,hb];rfl
def gf (k:Nat) (c:XC):Int:=
 bif (bif b9 16 c.br then true else b9 4000 (.ofNat c.ins.length)) then 3 else
 bif c.ins.any (fun x=>x.exprs.any (gp k)) then 3 else
 bif (bif b9 c.br 0 then true else H (.ofNat c.ins.length) 0) then 2 else
 bif bh (c.ins.all<|gg c.br (.ofNat c.ins.length) k) then 2 else
 match c.ins[c.ins.length-1]? with
 | some x=>bif kx x then 0 else 2
 | none=>2
def lV (k:Nat) (c:XC):Prop:=∀x∈c.ins,∀e∈x.exprs,iF k e
theorem gn {k:Nat} {c:XC} (hf:lV k c):gf k c=eY k c:=by
 have h1:c.ins.all (FD k)=bh (c.ins.any fun x=>x.exprs.any (gp k)):=by
  rw[Bool.eq_iff_iff,Q1,aE_,List.any_eq_false];refine⟨fun h x hx=>?_,fun h x hx=>?_⟩
  ·rw[Bool.not_eq_true,List.any_eq_false];intro e he;have:=aE_.1 (h x hx) e he;rw[yB<|hf x hx e he,Q1] at this;rw[this];decide
  have h2:=h x hx;rw[Bool.not_eq_true,List.any_eq_false] at h2;refine aE_.2 fun e he=>?_
  rw[yB<|hf x hx e he,Q1]
  simp_all
 unfold gf eY;rw[h1];cases ha:(c.ins.any fun x=>x.exprs.any (gp k)) with
 | true=>cases b9 16 c.br<;>cases b9 4000 (.ofNat c.ins.length)<;>rfl
 | false=>
  have h2:c.ins.all (gg c.br (.ofNat c.ins.length) k)=c.ins.all (im c.br (.ofNat c.ins.length) k):=by
   have:∀x∈c.ins,gg c.br (.ofNat c.ins.length) k x=im c.br (.ofNat c.ins.length) k x:=fun x hx=>Cg fun e he=>by
    grind
   grind
  rw[h2];cases b9 16 c.br<;>cases b9 4000 (.ofNat c.ins.length)<;>cases b9 c.br 0<;>cases H (.ofNat c.ins.length) 0<;>rfl
section
variable {P:Program} {G:Cx} {V:aE} {K:KP} {L:Own}
theorem I7 {α:Type} {m e:Nat} {R:α->List U->Prop} {A:U} {ts:Array TypeId} {t:TypeId} (C:D V K L) (hx:bL K m R [] A) (u:∀x vs,R x vs->cP vs=true)
  (E:ts[0]?=some t) (hu:P.underlying t=some (.slice e)) (w:r6 P e m=true) (F:dU P ts[1]?=true):fO P V ts .az A= .val .az V:=by
 obtain⟨news,I,s2,M,s4⟩:=ri C hx u;unfold r6 at w;split at w
 ·rename_i j hj;simp only[bA_] at w;obtain⟨S,T,W,X⟩:=w;have hm:j.size=m:=nB S;subst hm;have B:((P.info? e).any fun j=>(j.zero.bind p6).any fun z=>(cU z).any fun cs=>Nat.beq (du cs) j.size)=true:=by rw[hj];exact X
  unfold fO;rw[E];dsimp only;rw[hu];dsimp only;rw[hj] at B⊢;dsimp only;rw[F,T,W];simp only[Bool.and_self,cond_true];rw[I];dsimp only;rw[M,show Nat.ble ([]:List α).length 1048576=true from Z,B]
  simp_all
 cases w
theorem uL {α:Type} {m e:Nat} {R:α->List U->Prop} {l l2:List α} {u F:U} {M:Own} {ts:Array TypeId} {t:TypeId} (T:cZ m e R l u M) (ar:D V K (M++L))
  (hx:bL K m R l2 F) (j:∀x vs,R x vs->cP vs=true) (I:l.length+l2.length<=1000000)
  (w:ts[0]?=some t) (hu:P.underlying t=some (.slice e)) (z:r6 P e m=true) (A:dU P ts[1]?=true):
  ∃V' u' M',fO P V ts u F= .val u' V'/\cZ m e R (l++l2) u' M'/\D V' K (M'++L):=by
 rcases T with ⟨rfl,rfl,rfl⟩ | ⟨b,c,cells,e',rfl,rfl,S,h4,h5,h6⟩
 ·cases l2 with
  | nil=>exact⟨V,_,[],I7 ar hx j w hu z A,.inl ⟨Z,Z,Z⟩,ar⟩
  | cons a l2=>
   obtain⟨news,B,C,E⟩:=z9 (P:=P) ar hx j (by simp at I⊢;omega) (by simp) w hu z A;exact⟨_,_,[(V.next,.row news e false)],B,.inr ⟨_,_,news,e,Z,Z,C,E,.inr ⟨Z,Z⟩,by simp at I⊢;omega⟩,ar.alloc (.row news e false)⟩
 obtain⟨V',b',c',news,W,B,C,E,X,k5⟩:=DM (P:=P) ar hx j oM S oM h5 w hu z A;exact⟨V',_,[(b',.row (cells++news) W false)],B,Ld S h4 E X Z k5 oM,C⟩
theorem zN {α:Type} {m e:Nat} {R:α->List U->Prop} {l l2:List α} {u w:U} {M:Own} {bv ev:Nat} {cv:List U} {ts:Array TypeId} {t:TypeId} (z:cZ m e R l u M) (ar:D V K ((bv,.row cv ev false)::(M++L)))
  (hx:bL (K.add bv (.row cv ev false)) m R l2 w) (j:∀x vs,R x vs->cP vs=true) (A:l.length+l2.length<=1000000)
  (B:ts[0]?=some t) (hu:P.underlying t=some (.slice e)) (C:r6 P e m=true) (E:dU P ts[1]?=true):
  ∃V' u' M',fO P V ts u w= .val u' V'/\cZ m e R (l++l2) u' M'/\D V' K (M'++L):=by
 obtain⟨V',u',M',h1,F,h4⟩:=uL z ar.jE hx j A B hu C E;exact⟨V',u',M',h1,F,h4.weaken<|KP.pU _ _ _⟩
theorem AB {α:Type} {m b e:Nat} {ro:Bool} {R:α->List U->Prop} {x:α} {vs:List U} (hm:vs.length=m) (hR:R x vs) (hk:K b (.row vs e ro)):bL K m R [x] (.slice b 0 1 (.known 1)):=by
 refine .inr ⟨b,0,.known 1,vs,e,ro,Z,.inr ⟨1,Z,nR_ _⟩,hk,by simp[hm],by simp,fun i y j=>?_⟩;cases i with
 | zero=>
  grind
 | succ i=>simp at j
theorem di {α:Type} {m b e:Nat} {R:α->List U->Prop} {x:α} {vs:List U} (hm:vs.length=m) (j:R x vs):bL (K.add b (.row vs e false)) m R [x] (.slice b 0 1 (.known 1)):=AB hm j (.inr ⟨Z,Z⟩)
theorem Bi {α:Type} {m e k:Nat} {kk:IntKind} {R:α->List U->Prop} {la:List α} {v:U} {ty:TypeId} {ev:Operand->Option U} {xo lo:Operand} (h:bL K m R la v) (hk:k<=la.length) (hu:P.underlying ty=some (.slice e)) (hj:(P.info? e).map (·.size)=some m) (hx:ev xo=some v) (C:ev lo=some (.int kk (.ofNat k))):
  ∃w,gF P ev ty xo (some lo) none none=some w/\bL K m R (la.drop k) w:=by
 cases hq:P.info? e with
 | none=>simp_all
 | some j=>
 rw[hq] at hj;have hj:j.size=m:=by simpa using hj
 subst hj;have hlen:(la.drop k).length=la.length-k:=lD_ ..
 have hb:∀y,k<=y->fh ev lo y=some k:=fun y hy=>by
  unfold fh;rw[C]
  grind [nE_]
 rcases h with ⟨rfl,rfl⟩ | ⟨b,off,c,cells,e',ro,rfl,E,z,h4,h5,h6⟩
 ·obtain rfl:k=0:=by simpa using hk
  refine⟨.az,?_,.inl ⟨Z,Z⟩⟩;unfold gF;rw[hu,hx];dsimp only;unfold dE
  simp_all
 have hle:k*j.size<=la.length*j.size:=nM_ _ hk;have aa:(la.length-k)*j.size=la.length*j.size-k*j.size:=Nat.sub_mul ..
 have B:∀(i:Nat) (x:α),(la.drop k)[i]?=some x->R x ((cells.drop (off+k*j.size+i*j.size)).take j.size):=fun i x u=>by
  grind
 rcases E with rfl | ⟨cp,rfl,ab⟩
 ·refine⟨.slice b (off+k*j.size) (la.length-k) (.upto j.size),?_,.inr ⟨b,_,_,cells,e',ro,by rw[hlen],.inl Z,z,by rw[hlen];omega,by rw[hlen];omega,B⟩⟩
  grind [gF,dE,Nat.beq_refl]
 refine⟨.slice b (bif Nat.beq cp k then off else off+k*j.size) (la.length-k) (.known (cp-k)),?_,?_⟩
 ·unfold gF;rw[hu,hx];dsimp only;unfold cutAt dE
  grind [cut]
 cases A:Nat.beq cp k with
 | false=>exact .inr ⟨b,_,_,cells,e',ro,by rw[hlen];rfl,.inr ⟨cp-k,Z,by rw[hlen];omega⟩,z,by rw[hlen];omega,by rw[hlen];omega,B⟩
 | true=>
  have e1:=nB A;have F:la.drop k= []:=List.drop_eq_nil_of_le oM;rw[F];exact .inr ⟨b,off,_,cells,e',ro,by grind,.inr ⟨cp-k,Z,by simp⟩,z,by simp;omega,by simp,fun i x u=>by simp at u⟩
end
section
variable {P:Program} {G:Cx} {n:Nat} {t:PT U} {V:aE} {K:KP} {L:Own} {Q:Ex->PT U->aE->Prop} {ops:Array Oper} {o:Oper} {l:List Oper} {lp:List (Nat×List Nat)} {ix:Nat} {rc:List Nat}
theorem vR {α:Type} {m e k:Nat} {kk:IntKind} {R:α->List U->Prop} {la:List α} {v:U} {ty:TypeId} {xo lo:Operand} {t':U->PT U} (h:bL K m R la v) (hk:k<=la.length) (j:ops[ix]?=some o) (hw:bM ops t o=some true) (u:o.op= .slice ty xo (some lo) none none)
  (hu:P.underlying ty=some (.slice e)) (hj:(P.info? e).map (·.size)=some m) (hx:bB G t xo=some v) (z:bB G t lo=some (.int kk (.ofNat k))) (hp:∀v,dJ t n o.dst v=some (t' v))
  (hc:∀w,bL K m R (la.drop k) w->cm P G ops n lp (t' w) V Q):cm P G ops n ((ix,[])::lp) t V Q:=by
 obtain⟨w,h1,A⟩:=Bi (P:=P) h hk hu hj hx z;refine ai j hw ?_ (hp w)<|hc w A;rw[u];exact bU Z h1
theorem zO {α:Type} {m e k:Nat} {kk:IntKind} {R:α->List U->Prop} {la:List α} {v:U} {ty:TypeId} {xo hi:Operand} {t':U->PT U} (h:bL K m R la v) (hk:k<=la.length) (j:ops[ix]?=some o) (hw:bM ops t o=some true) (u:o.op= .slice ty xo none (some hi) none)
  (hu:P.underlying ty=some (.slice e)) (hj:(P.info? e).map (·.size)=some m) (hx:bB G t xo=some v) (z:bB G t hi=some (.int kk (.ofNat k))) (hp:∀v,dJ t n o.dst v=some (t' v))
  (hc:∀w,bL K m R (la.take k) w->cm P G ops n lp (t' w) V Q):cm P G ops n ((ix,[])::lp) t V Q:=by
 obtain⟨w,h1,A⟩:=FC (P:=P) h hk hu hj hx z;refine ai j hw ?_ (hp w)<|hc w A;rw[u];exact bU Z h1
theorem xY {α:Type} {m e:Nat} {R:α->List U->Prop} {la l2:List α} {u C:U} {M:Own} {ty:TypeId} {cl:Call} {so xo:Operand} {t':U->PT U} (F:cZ m e R la u M) (I:D V K (M++L)) (hx:bL K m R l2 C) (j:∀x vs,R x vs->cP vs=true) (S:la.length+l2.length<=1000000)
  (hw:bM ops t o=some true) (T:o.op= .call cl) (z:cl.callee= .builtin .append) (w:cl.args.toList= [so,xo]) (W:cl.argTypes[0]?=some ty) (A:bB G t so=some u) (B:bB G t xo=some C) (hp:∀v,dJ t n o.dst v=some (t' v))
  (h:∀(V':aE) (u':U) (M':Own),cZ m e R (la++l2) u' M'->D V' K (M'++L)->bS P G ops n l (t' u') V' Q) (hu:P.underlying ty=some (.slice e):=by kernel_rfl) (X:r6 P e m=true:=by kernel_rfl) (E:dU P cl.argTypes[1]?=true:=by kernel_rfl):bS P G ops n (o::l) t V Q:=by
 obtain⟨V',u',M',k1,k2,k3⟩:=uL (P:=P) F I hx j S W hu X E;refine Y hw ?_ (hp _)<|h V' u' M' k2 k3;rw[T];exact kI z w A B E k1
theorem fH {α:Type} {m e:Nat} {R:α->List U->Prop} {la l2:List α} {u C:U} {M:Own} {bv ev:Nat} {cv:List U} {ty:TypeId} {cl:Call} {so xo:Operand} {t':U->PT U} (F:cZ m e R la u M) (I:D V K ((bv,.row cv ev false)::(M++L))) (hx:bL (K.add bv (.row cv ev false)) m R l2 C) (j:∀x vs,R x vs->cP vs=true) (S:la.length+l2.length<=1000000)
  (hw:bM ops t o=some true) (T:o.op= .call cl) (z:cl.callee= .builtin .append) (w:cl.args.toList= [so,xo]) (W:cl.argTypes[0]?=some ty) (A:bB G t so=some u) (B:bB G t xo=some C) (hp:∀v,dJ t n o.dst v=some (t' v))
  (h:∀(V':aE) (u':U) (M':Own),cZ m e R (la++l2) u' M'->D V' K (M'++L)->bS P G ops n l (t' u') V' Q) (hu:P.underlying ty=some (.slice e):=by kernel_rfl) (X:r6 P e m=true:=by kernel_rfl) (E:dU P cl.argTypes[1]?=true:=by kernel_rfl):bS P G ops n (o::l) t V Q:=by
 obtain⟨V',u',M',k1,k2,k3⟩:=zN (P:=P) F I hx j S W hu X E;refine Y hw ?_ (hp _)<|h V' u' M' k2 k3;rw[T];exact kI z w A B E k1
theorem uM {α:Type} {m e:Nat} {R:α->List U->Prop} {la l2:List α} {u E:U} {M:Own} {ty:TypeId} {cl:Call} {so xo:Operand} {t':U->PT U} (I:cZ m e R la u M) (S:D V K (M++L)) (hx:bL K m R l2 E) (j:∀x vs,R x vs->cP vs=true) (T:la.length+l2.length<=1000000)
  (z:ops[ix]?=some o) (hw:bM ops t o=some true) (W:o.op= .call cl) (A:cl.callee= .builtin .append) (w:cl.args.toList= [so,xo]) (X:cl.argTypes[0]?=some ty) (B:bB G t so=some u) (C:bB G t xo=some E) (hp:∀v,dJ t n o.dst v=some (t' v))
  (h:∀(V':aE) (u':U) (M':Own),cZ m e R (la++l2) u' M'->D V' K (M'++L)->dk P G ops (t' u') V' rc=true/\cm P G ops n lp (t' u') V' Q) (hu:P.underlying ty=some (.slice e):=by kernel_rfl) (ha:r6 P e m=true:=by kernel_rfl) (F:dU P cl.argTypes[1]?=true:=by kernel_rfl):cm P G ops n ((ix,rc)::lp) t V Q:=by
 obtain⟨V',u',M',k1,k2,k3⟩:=uL (P:=P) I S hx j T X hu ha F;refine vE z hw ?_ (hp _)<|h V' u' M' k2 k3;rw[W];exact kI A w B C F k1
theorem mu {α:Type} {m e:Nat} {R:α->List U->Prop} {la l2:List α} {u E:U} {M:Own} {bv ev:Nat} {cv:List U} {ty:TypeId} {cl:Call} {so xo:Operand} {t':U->PT U} (I:cZ m e R la u M) (S:D V K ((bv,.row cv ev false)::(M++L))) (hx:bL (K.add bv (.row cv ev false)) m R l2 E) (j:∀x vs,R x vs->cP vs=true) (T:la.length+l2.length<=1000000)
  (z:ops[ix]?=some o) (hw:bM ops t o=some true) (W:o.op= .call cl) (A:cl.callee= .builtin .append) (w:cl.args.toList= [so,xo]) (X:cl.argTypes[0]?=some ty) (B:bB G t so=some u) (C:bB G t xo=some E) (hp:∀v,dJ t n o.dst v=some (t' v))
  (h:∀(V':aE) (u':U) (M':Own),cZ m e R (la++l2) u' M'->D V' K (M'++L)->dk P G ops (t' u') V' rc=true/\cm P G ops n lp (t' u') V' Q) (hu:P.underlying ty=some (.slice e):=by kernel_rfl) (ha:r6 P e m=true:=by kernel_rfl) (F:dU P cl.argTypes[1]?=true:=by kernel_rfl):cm P G ops n ((ix,rc)::lp) t V Q:=by
 obtain⟨V',u',M',k1,k2,k3⟩:=zN (P:=P) I S hx j T X hu ha F;refine vE z hw ?_ (hp _)<|h V' u' M' k2 k3;rw[W];exact kI A w B C F k1
end
def tf (g:XG) (loc:Int):Int:=match(dv g loc).getLast? with | none=>0 | some id=>(mK<|dn g id).write
def rL (k:Nat):List XC->List (List db)->Option (List Int)
 | [],_=>some []
 | _::_,[]=>none
 | c::l,r::g=>bif H (dQ k c r).2 0 then(rL k l g).map fun e=>(dQ k c r).1.fin::e else none
def kV (k:Nat) (l:List XC) (g:XG):Option (List Int):=
 bif bh (H (cV g) 0) then none else bif bh (H (.ofNat l.length) (.ofNat g.threads.length)) then none else rL k l g.threads
def Gx (g:XG):List Int->Nat->Bool
 | [],_=>true
 | v::r,i=>bif bh (H v<|tf g (.ofNat i)) then false else Gx g r (i+1)
def OD (k:Nat) (l:List XC) (m:List Int) (g:XG):Option (List Int):=
 match kV k l g with
 | none=>none
 | some e=>bif bh (H (.ofNat m.length) (.ofNat g.init.length)) then none else bif Gx g m 0 then some e else none
def SR (k:Nat) (l:List XC) (m:List Int) (g:XG):Bool:=(OD k l m g).isSome
structure XM where
 mem:List Int
 g:XG
structure DY where
 zk:db
 fr:cY
 place:Int
 mem:List Int
def tl (n:pD):Int:=bif bh (H n.ask.kind 0) then n.ask.loc else n.event.loc
def lz (n:pD) (m:List Int) (g:XG):DY:=
 bif H n.event.kind 4 then⟨n.event,⟨0,0⟩,0,m⟩ else
 let all:=dv g (tl n)
 let zk:=bif bh (H n.ask.kind 0) then ea n.ask ((m[(tl n).toNat]?).getD 0) else n.event
 let fr:=bif bh (H n.ask.kind 0) then(all.getLast?).getD ⟨0,0⟩ else⟨0,0⟩
 bif bh (H zk.kind 1) then⟨zk,fr,.ofNat all.length,m.set (tl n).toNat zk.write⟩ else⟨zk,fr,0,m⟩
def wS (n:pD) (g:XG):Bool:=bif bh (H n.event.kind 4) then(bif b9 (tl n) 0 then true else bh (b9 (tl n) (.ofNat g.init.length))) else false
def EI (k:Nat) (c:XC) (row:List db) (g:XG):Int:=
 bif bh (H (dQ k c row).2 0) then(dQ k c row).2 else
 bif bh (H (dQ k c row).1.fin 0) then 10 else
 bif bh (b9 (.ofNat row.length) 14) then 3 else
 bif wS (dQ k c row).1 g then 2 else 0
def QK (p:DY) (th:Int) (g:XG):Option XM×Int:=
 match oq g th p.zk p.fr p.place with
 | (some g',e)=>(some ⟨p.mem,g'⟩,e)
 | (none,e)=>(none,e)
def Dv (k:Nat) (l:List XC) (r:XM) (t:Nat):Option XM×Int:=
 match l[t]?,r.g.threads[t]? with
 | some c,some row=>bif bh (H (EI k c row r.g) 0) then(none,EI k c row r.g) else QK (lz (dQ k c row).1 r.mem r.g) (.ofNat (t+1)) r.g
 | _,_=>(none,2)
structure BJ (k:Nat) (l:List XC) (r:XM):Prop where
 Tk:cV r.g=0
 len:r.g.threads.length=l.length
 mem:r.mem.length=r.g.init.length
 last:∀i:Nat,i<r.g.init.length->r.mem[i]?=some (tf r.g (.ofNat i))
 fits:∀(t:Nat) (c:XC) (row:List db),l[t]?=some c->r.g.threads[t]?=some row->pd k c row
theorem xq {k:Nat}:∀{l:List XC} {g:List (List db)},l.length=g.length->(∀(t:Nat) (c:XC) (row:List db),l[t]?=some c->g[t]?=some row->pd k c row)->∃e,rL k l g=some e/\e.length=l.length
 | [],_,_,_=>⟨[],Z,Z⟩
 | _::_,[],h,_=>by simp at h
 | c::l,r::g,h,hf=>by
  obtain⟨e,he,hl⟩:=xq (k:=k) (l:=l) (g:=g) (by simpa using h) (fun t c row h1 j=>hf (t+1) c row (by simpa using h1) (by simpa using j));have:=xW.2 (hf 0 c r Z Z);refine⟨(dQ k c r).1.fin::e,?_,?_⟩
  ·unfold rL;rw[this,he];rfl
  simp[hl]
theorem CQ {g:XG}:∀{m:List Int} {i:Nat},(∀j v,m[j]?=some v->v=tf g (.ofNat (i+j)))->Gx g m i=true
 | [],_,_=>rfl
 | v::r,i,h=>by
  have h0:=h 0 v Z;rw[Nat.add_zero] at h0;unfold Gx;rw[h0,dL];exact CQ fun j v hv=>by have:=h (j+1) v (by simpa using hv);rwa[show i+1+j=i+(j+1) by omega]
theorem BJ.is {k:Nat} {l:List XC} {r:XM} (h:BJ k l r):SR k l r.mem r.g=true:=by
 obtain⟨e,he,_⟩:=xq (k:=k) (l:=l) (g:=r.g.threads) h.len.symm h.fits;unfold SR OD kV;rw[h.Tk,h.len,dL,he];simp only[show bh (H 0 0)=false from Z,show bh true=false from Z,cond_false];rw[h.mem,CQ fun j v hv=>?_]
 ·simp only[dL,bh,cond_true,cond_false];rfl
 have hj:=(gA.1 hv).1;have:=h.last j (by rw[<-h.mem];exact hj)
 simp_all
theorem Lc {g:XG} (h:dO g) {ln:Nat} {r:List cY} {id:cY} (j:g.order[ln]?=some r) (hm:id∈r):∃w,dn g id=some w:=by
 have h1:=h.perm.mem_iff.2 (x8 (loc:=0) j hm);obtain⟨s,i,l,e,m,u,_,z,_⟩:=jB.1 h1;have e1:id=⟨.ofNat (s+1),.ofNat i⟩:=jM (by rw[z,nA_];rfl);subst e1;exact⟨e,by rw[gh,m];exact u⟩
theorem Ny {g:XG} {ln:Nat} (h:ln<g.init.length):∃w,dn g ⟨0,.ofNat ln⟩=some w:=by
 refine⟨⟨2,ln,1,0,g.init[ln]⟩,?_⟩;show(g.init[ln]?).map _=_
 simp_all
theorem tg {g:XG} (hc:cV g=0) {ln:Nat} {r:List cY} (j:g.order[ln]?=some r):tf g (.ofNat ln)=(mK<|dn g ((r.getLast?).getD ⟨0,.ofNat ln⟩)).write:=by
 unfold tf;rw[fX (by rw[hc];rfl) j]
 grind
theorem mr {g:XG} (hc:cV g=0) {ln:Nat} (h:ln<g.init.length):∃r,g.order[ln]?=some r:=cL (by rw[(ef.1 hc).order];exact h)
theorem H3 {g g':XG} (hc:cV g=0) (j:cV g'=0) (hold:∀id w,dn g id=some w->dn g' id=some w) {ln:Nat} (h:ln<g.init.length) (u:g'.order[ln]?=g.order[ln]?):tf g' (.ofNat ln)=tf g (.ofNat ln):=by
 obtain⟨r,m⟩:=mr hc h;rw[tg hc m,tg j (by rw[u];exact m)]
 have:∃w,dn g ((r.getLast?).getD ⟨0,.ofNat ln⟩)=some w:=by
  cases hl:r.getLast? with
  | none=>exact Ny h
  | some x=>exact Lc (ef.1 hc) m (List.mem_of_getLast? hl)
 grind
theorem Jk {g g':XG} {th pl:Int} {e:db} {fr:cY} (h:oq g th e fr pl=(some g',0)):g'.init=g.init:=by
 obtain⟨_,tm,row,frow,_,_,_,_,_,rfl,_⟩:=lX h;rfl
theorem MH {g g':XG} {tm:Nat} {pl:Int} {e:db} {fr:cY} (h:oq g (.ofNat (tm+1)) e fr pl=(some g',0)):∃row,g.threads[tm]?=some row/\g'.threads=g.threads.set tm (row++[e]):=by
 obtain⟨_,t2,row,frow,ht,h1,_,_,_,rfl,_⟩:=lX h
 grind [uA]
theorem Hm {g g':XG} {th pl:Int} {e:db} {fr:cY} (h:oq g th e fr pl=(some g',0)) {ln:Nat} (hl:bI e=true->e.loc≠ .ofNat ln):g'.order[ln]?=g.order[ln]?:=by
 obtain⟨_,tm,row,frow,_,_,_,_,hp,rfl,_⟩:=lX h
 grind [uA,GF,sS]
theorem Ec {g g':XG} {tm ln:Nat} {e:db} {fr:cY} {r:List cY} (j:g.order[ln]?=some r) (h:oq g (.ofNat (tm+1)) e fr (.ofNat (r.length+1))=(some g',0)) (hw:bI e=true) (hl:e.loc= .ofNat ln):∃row,g.threads[tm]?=some row/\g'.order[ln]?=some (r++[⟨.ofNat (tm+1),.ofNat row.length⟩]):=by
 obtain⟨_,t2,row,frow,ht,h1,_,_,_,rfl,_⟩:=lX h;have:tm=t2:=by grind
 subst this;refine⟨row,h1,?_⟩;rw[uA];show(Is g.order e _ _)[ln]?=_;unfold Is;rw[hw,hl];have hlt:=(gA.1 j).1
 simp_all
theorem Da {n:pD} {m:List Int} {g:XG} (h:H n.event.kind 4=true):lz n m g=⟨n.event,⟨0,0⟩,0,m⟩:=by unfold lz;rw[h];rfl
theorem BP {a:sN} {v:Int} (h:a.kind=2∨a.kind=4∨a.kind=5∨a.kind=6):(ea a v).loc=a.loc/\(cN (ea a v)=true):=by
 refine⟨?_,(kJ h).1⟩;unfold ea;rcases h with h | h | h | h<;>rw[h]
 ·rfl
 ·exact eZ (P:=fun e:db=>e.loc=a.loc) (H v a.a) Z Z
 ·rfl
 rfl
structure Ea (k:Nat) (l:List XC) (r:XM) (t:Nat) (c:XC) (row:List db) (p:DY) (r':XM):Prop where
 code:l[t]?=some c
 rowAt:r.g.threads[t]?=some row
 err:EI k c row r.g=0
 jQ:p=lz (dQ k c row).1 r.mem r.g
 add:oq r.g (.ofNat (t+1)) p.zk p.fr p.place=(some r'.g,0)
 mem:r'.mem=p.mem
theorem LN {k:Nat} {l:List XC} {r r':XM} {t:Nat} (h:Dv k l r t=(some r',0)):∃c row p,Ea k l r t c row p r':=by
 unfold Dv at h;cases h1:l[t]? with
 | none=>rw[h1] at h;cases h
 | some c=>
 cases m:r.g.threads[t]? with
 | none=>simp_all
 | some row=>
 rw[h1,m] at h;dsimp only at h;cases j:H (EI k c row r.g) 0 with
 | false=>rw[j] at h;cases h
 | true=>
  rw[j] at h;have h:QK (lz (dQ k c row).1 r.mem r.g) (.ofNat (t+1)) r.g=(some r',0):=h;unfold QK at h;cases h4:oq r.g (.ofNat (t+1)) (lz (dQ k c row).1 r.mem r.g).zk (lz (dQ k c row).1 r.mem r.g).fr (lz (dQ k c row).1 r.mem r.g).place with
  | mk o e=>
   rw[h4] at h;cases o with
   | none=>cases h
   | some g'=>
    simp only[Prod.mk.injEq,oJ_] at h;obtain⟨rfl,rfl⟩:=h;exact⟨c,row,_,h1,m,JU j,Z,h4,Z⟩
theorem Ea.step {k:Nat} {l:List XC} {r r':XM} {t:Nat} {c:XC} {row:List db} {p:DY} (h:Ea k l r t c row p r'):Dv k l r t=(some r',0):=by
 unfold Dv;rw[h.code,h.rowAt];dsimp only;rw[h.err,<-h.jQ];show QK p _ _=_;unfold QK;rw[h.add];dsimp only;obtain⟨m,g⟩:=r';have:=h.mem
 simp_all
theorem HH {k:Nat} {c:XC} {row:List db} {g:XG} (h:EI k c row g=0):(dQ k c row).2=0/\(dQ k c row).1.fin=0/\row.length<14/\wS (dQ k c row).1 g=false:=by
 unfold EI at h;cases h1:H (dQ k c row).2 0 with
 | false=>
  rw[h1] at h;have h:(dQ k c row).2=0:=h;rw[h] at h1;cases h1
 | true=>
 rw[h1] at h;cases j:H (dQ k c row).1.fin 0 with
 | false=>rw[j] at h;cases h
 | true=>
 rw[j] at h;cases m:b9 (.ofNat row.length) 14 with
 | false=>rw[m] at h;cases h
 | true=>
 rw[m] at h;cases h4:wS (dQ k c row).1 g with
 | true=>rw[h4] at h;cases h
 | false=>exact⟨JU h1,JU j,bc (b:=14) m,Z⟩
theorem uj {n:pD} {g:XG} (h:wS n g=false) (hk:H n.event.kind 4=false):∃ln:Nat,tl n= .ofNat ln/\ln<g.init.length:=by
 unfold wS at h;rw[hk] at h;have h:(bif b9 (tl n) 0 then true else bh (b9 (tl n) (.ofNat g.init.length)))=false:=h;cases h1:b9 (tl n) 0 with
 | true=>rw[h1] at h;cases h
 | false=>
  rw[h1] at h;obtain⟨ln,hl⟩:=kA h1;rw[hl] at h⊢;exact⟨ln,Z,bc<|bK h⟩
theorem rY {g g':XG} {th:Int} {e:db} {fr:cY} {ln:Nat} (h:oq g th e fr (.ofNat (dv g (.ofNat ln)).length)=(some g',0)) (hl:ln<g.init.length):bI e=true:=by
 obtain⟨hc,_,_,_,_,_,_,_,hb,_,_⟩:=lX h;unfold kQ at hb;obtain⟨o,j⟩:=mr hc hl;cases hw:bI e with
 | true=>rfl
 | false=>rw[hw,fX (by rw[hc];rfl) j] at hb;cases hb
structure DZ (k:Nat) (c:XC) (row:List db) (r:XM) (p:DY):Prop where
 fits:pd k c (row++[p.zk])
 look:H (dQ k c row).1.event.kind 4=false->∃ln:Nat,ln<r.g.init.length/\tl (dQ k c row).1= .ofNat ln/\p.zk.loc= .ofNat ln/\p.zk.kind≠4
 cases:(p.zk.kind=4/\p.mem=r.mem/\p.place=0)∨∃ln:Nat,ln<r.g.init.length/\p.zk.loc= .ofNat ln/\p.zk.kind≠4/\((bI p.zk=false/\p.mem=r.mem/\p.place=0)∨(bI p.zk=true/\p.mem=r.mem.set ln p.zk.write/\p.place= .ofNat (dv r.g (.ofNat ln)).length))
theorem Gt {e:db} {n:Int} (h:H e.kind n=false):e.kind≠n:=fun j=>by rw[j,dL] at h;cases h
theorem NU {k:Nat} {c:XC} {row:List db} {r:XM} {th:Int} {g':XG} (h:EI k c row r.g=0) (j:oq r.g th (lz (dQ k c row).1 r.mem r.g).zk (lz (dQ k c row).1 r.mem r.g).fr (lz (dQ k c row).1 r.mem r.g).place=(some g',0)):DZ k c row r (lz (dQ k c row).1 r.mem r.g):=by
 obtain⟨h1,h2,h3,h4⟩:=HH h;rcases CY h1 with ⟨e,he,hf,hr⟩ | ⟨a,E,hk,hf⟩ | ⟨n,F⟩
 ·have key:∀p:DY,lz (dQ k c row).1 r.mem r.g=p->DZ k c row r p:=by
   rw[he] at h4 j⊢;intro p hp;rw[hp] at j;dsimp only at h4;cases h5:H e.kind 4 with
   | true=>
    rw[Da h5] at hp;subst hp;exact⟨hf,fun hh=>(by simp_all),.inl ⟨Pp h5,Z,Z⟩⟩
   | false=>
    obtain⟨ln,hl,m⟩:=uj h4 h5;have A:e.loc= .ofNat ln:=hl;unfold lz at hp;rw[hl] at hp;dsimp only at hp;rw[h5,show H k9.kind 0=true from Z] at hp;simp only[show bh true=false from Z,cond_false] at hp;cases C:H e.kind 1 with
    | true=>
     grind [cN]
    | false=>
     rw[C] at hp;simp only[show bh false=true from Z,cond_true] at hp;subst hp;exact⟨hf,fun _=>⟨ln,m,by rw[he];exact hl,A,Gt h5⟩,.inr ⟨ln,m,A,Gt h5,.inr ⟨rY j m,Z,Z⟩⟩⟩
  exact key _ Z
 ·have key:∀p:DY,lz (dQ k c row).1 r.mem r.g=p->DZ k c row r p:=by
   rw[E] at h4 j⊢;intro p hp;rw[hp] at j;have B:H a.kind 0=false:=by rcases hk with e | e | e | e<;>rw[e]<;>rfl
   have G:tl ⟨yU,a,0⟩=a.loc:=by unfold tl;dsimp only;rw[B];rfl
   obtain⟨ln,hl,m⟩:=uj h4 Z;unfold lz at hp;rw[hl] at hp;dsimp only at hp;rw[B,show H yU.kind 4=false from Z] at hp;simp only[show bh false=true from Z,cond_true,cond_false] at hp;have w:∀v,(ea a v).loc= .ofNat ln:=fun v=>by rw[(BP hk).1,<-G,hl]
   have z:∀v,(ea a v).kind≠4:=fun v I=>by
    have h5:=(kJ (v:=v) hk).1;unfold cN at h5;rw[I] at h5;cases h5
   generalize hv:(r.mem[(Int.ofNat ln).toNat]?).getD 0=v at hp;have u:tl (dQ k c row).1= .ofNat ln:=by rw[E];exact hl
   cases C:H (ea a v).kind 1 with
   | true=>
    rw[C] at hp;simp only[show bh true=false from Z,cond_false] at hp;subst hp;refine⟨hf v,fun _=>⟨ln,m,u,w v,z v⟩,.inr ⟨ln,m,w v,z v,.inl ⟨?_,Z,Z⟩⟩⟩
    grind [bI,Pp]
   | false=>
    rw[C] at hp;simp only[show bh false=true from Z,cond_true] at hp;subst hp;exact⟨hf v,fun _=>⟨ln,m,u,w v,z v⟩,.inr ⟨ln,m,w v,z v,.inr ⟨rY j m,Z,Z⟩⟩⟩
  exact key _ Z
 rw[F] at h4 j;exfalso;obtain⟨ln,hl,m⟩:=uj h4 Z;obtain⟨hc,_,_,_,_,_,_,_,hp,_,_⟩:=lX j;have hp:(!H (.ofNat (dv r.g<|tl ⟨yU,k9,n⟩).length) 0)=false:=hp;obtain⟨q,hq⟩:=mr hc m;rw[hl,fX (by rw[hc];rfl) hq] at hp;cases hp
theorem BJ.step {k:Nat} {l:List XC} {r r':XM} {t:Nat} (h:BJ k l r) (M:Dv k l r t=(some r',0)):BJ k l r'/\r'.g.init=r.g.init:=by
 obtain⟨c,row,p,hp⟩:=LN M;have hadd:=hp.add;rw[hp.jQ] at hadd;have hok:=NU hp.err hadd;rw[<-hp.jQ] at hok hadd;obtain⟨tm,row',ht,K,w,m,aa,_,_,hold,_⟩:=Hl hadd;have hi:=Jk hadd;obtain⟨u,z,A⟩:=MH hadd;rw[hp.rowAt] at z;cases z;have hlen:r'.g.threads.length=l.length:=by rw[A,List.length_set];exact h.len
 have G:tm=t:=by grind
 subst G;rw[hp.rowAt] at K;cases K;refine⟨⟨m,hlen,?_,fun i j=>?_,fun L Q u h1 B=>?_⟩,hi⟩
 ·rw[hp.mem,hi,<-h.mem];rcases hok.cases with ⟨_,e,_⟩ | ⟨ln,_,_,_,⟨_,e,_⟩ | ⟨_,e,_⟩⟩<;>rw[e]
  rw[List.length_set]
 ·rw[hi] at j;rw[hp.mem];have same:(bI p.zk=true->p.zk.loc≠ .ofNat i)->tf r'.g (.ofNat i)=tf r.g (.ofNat i):=fun hw=>H3 w m hold j (Hm hadd hw)
  rcases hok.cases with ⟨e1,e,_⟩ | ⟨ln,C,E,_,⟨e1,e,_⟩ | ⟨hw,e,epl⟩⟩
  ·rw[e,same (fun hw=>by unfold bI at hw;rw[e1] at hw;cases hw)];exact h.last i j
  ·rw[e,same (fun hw=>by simp_all)];exact h.last i j
  rw[e]
  by_cases F:ln=i
  ·subst F;rw[List.getElem?_set_self (by rw[h.mem];exact C)];obtain⟨q,hq⟩:=mr w C;have I:p.place= .ofNat (q.length+1):=by rw[epl,fX (by rw[w];rfl) hq];rfl
   rw[I] at hadd;obtain⟨ab,R,ho⟩:=Ec hq hadd hw E;rw[hp.rowAt] at R
   grind [tg,List.getLast?_append,mK]
  rw[List.getElem?_set_ne F,same (fun _=>by grind)];exact h.last i j
 rw[A] at B
 by_cases e:tm=L
 ·subst e;rw[List.getElem?_set_self (gA.1 hp.rowAt).1] at B;rw[hp.code] at h1;cases h1;cases B;exact hok.fits
 rw[List.getElem?_set_ne e] at B;exact h.fits L Q u h1 B
theorem BJ.start {k:Nat} {l:List XC} {init:List Int} (hl:l.length<=4) (hi:init.length<=6) (hf:∀c∈l,kW k c=true):BJ k l ⟨init,⟨init,List.replicate l.length [],List.replicate l.length [],List.replicate init.length []⟩⟩:=by
 have hw:∀n t,gu (List.replicate n []) t= []:=by
  intro n;induction n with
  | zero=>intro t;rfl
  | succ n ih=>grind [fL,gu]
 have ho:∀n t,iU (List.replicate n []) t= []:=by
  intro n;induction n with
  | zero=>intro t;rfl
  | succ n ih=>grind [eX,iU]
 have m:dO ⟨init,List.replicate l.length [],List.replicate l.length [],List.replicate init.length []⟩:=by
  refine⟨by simpa using hl,hi,fun i x hx=>?_,by simp,by simp,fun i x f hx hf=>?_,?_⟩
  ·grind
  ·grind
  simp_all
 have hc:=ef.2 m;refine⟨hc,by simp,Z,fun i j=>?_,fun t c row h1 h2=>?_⟩
 ·have hq:(List.replicate init.length ([]:List cY))[i]?=some []:=by
   simp_all
  rw[tg hc hq];show init[i]?=some (mK ((init[i]?).map fun v=>(⟨2,i,1,0,v⟩:db))).write;rw[gC j];rfl
 grind [Ke]
def DX (m:List Int) (x0 x1 x2 x3 x4 x5:Int):Prop:=[x0,x1,x2,x3,x4,x5]=m++List.replicate (6-m.length) 0
abbrev c6 (x0 x1 x2 x3 x4 x5:Int) (a b c d:U):List U:=[.int .i64 x0,.int .i64 x1,.int .i64 x2,.int .i64 x3,.int .i64 x4,.int .i64 x5,a,b,c,d]
theorem DX.le {m:List Int} {j u w z A B:Int} (h:DX m j u w z A B):m.length<=6:=by
 have:=congrArg List.length h;rw[lA_,List.length_replicate] at this;have e: [j,u,w,z,A,B].length=6:=rfl;omega
theorem DX.at_ {m:List Int} {j u w z A B:Int} (h:DX m j u w z A B) {a b c d:U} {ln:Nat} (hl:ln<m.length):∃y,m[ln]?=some y/\nth (c6 j u w z A B a b c d) (0+ln*1)=some (.int .i64 y):=by
 have h6:=h.le;obtain⟨y,C⟩:=cL hl;have: [j,u,w,z,A,B][ln]?=some y:=by rw[show [j,u,w,z,A,B]=_ from h,gL_ hl];exact C
 refine⟨y,C,?_⟩;rw[fG,Nat.mul_one,nA_]
 grind
theorem DX.set {m:List Int} {j u w z A B:Int} (h:DX m j u w z A B) {a b c d:U} {ln:Nat} (hl:ln<m.length) (v:Int):∃F G I K L y5,ed [.int .i64 v] (c6 j u w z A B a b c d) (0+ln*1)=c6 F G I K L y5 a b c d/\DX (m.set ln v) F G I K L y5:=by
 have h6:=h.le;have C: [j,u,w,z,A,B].set ln v=m.set ln v++List.replicate (6-(m.set ln v).length) 0:=by rw[show [j,u,w,z,A,B]=_ from h,List.set_append_left _ _ hl,List.length_set]
 have E:ln<6:=by omega
 match ln,E with
 | 0,_=>exact⟨v,u,w,z,A,B,Z,C⟩
 | 1,_=>exact⟨j,v,w,z,A,B,Z,C⟩
 | 2,_=>exact⟨j,u,v,z,A,B,Z,C⟩
 | 3,_=>exact⟨j,u,w,v,A,B,Z,C⟩
 | 4,_=>exact⟨j,u,w,z,v,B,Z,C⟩
 | 5,_=>exact⟨j,u,w,z,A,v,Z,C⟩
end Go.Ev
namespace Go.Ev
variable [Env]
theorem vm {P:Program} {ev:Operand->Option U} {t e w n:Nat} {k k':IntKind} {z:List U} {lo co:Operand} (u:P.underlying t=some (.slice e)) (hw:(P.info? e).map (·.bytes)=some w) (A:(fl P e).bind cU=some z)
  (m:((P.info? e).any fun j=>Nat.beq (du z) j.size && Nat.ble 1 j.size)=true) (hl:ev lo=some (.int k (.ofNat n))) (hc:ev co=some (.int k' (.ofNat n))) (hn:w*n<=1048576) (aa:n<=1048576):
  fy P ev (.makeSlice t lo co)=some (.row (fp z n) e false,.slice n n):=by
 obtain⟨j,hj,rfl⟩:=oM_.1 hw;rw[hj] at m;simp only[Option.any_some,bA_] at m;simp only[fy,u,hl,hc,hj,A];rw[m.1,m.2,show Nat.ble n n=true by simp_all,show Nat.ble (j.bytes*n) 1048576=true by simp_all,show Nat.ble n 1048576=true by simp_all];rfl
theorem tQ {P:Program} {G:Cx} {t:PT U} {V:aE} {ops:Array Oper} {o:Oper} {i k b e n:Nat} {cs:List U} (hi:ops[i]?=some o) (hw:bM ops t o=some true) (hd:o.dst=some k) (hg:t.get k=some (.slice b 0 n (.known n))) (hk:kindOf P o.op= .alloc) (ha:fy P (bB G t) o.op=some (.row cs e false,.slice n n)) (hm:V.m.get b=some (.row cs e false)) (hb:eh.beqL cs cs=true):ji P G ops t V i=true:=by
 unfold ji
 simp_all
theorem BW (n:Nat):eh.beqL (List.replicate n U.az) (List.replicate n U.az)=true:=by
 induction n with
 | zero=>rfl
 | succ n ih=>rw[List.replicate_succ];exact cR Z ih
theorem fJ.leaf:∀x vs,fJ x vs->cP vs=true:=fun _ _ h=>by cases h;rfl
theorem nP {α β:Type} {f:α->List β} {l:List α} {i:Nat} {x:α} (h:l[i]?=some x):((l.take (i+1)).map f).flatten=((l.take i).map f).flatten++f x:=by
 rw[List.take_add_one,h];simp
theorem xr {α β:Type} {f:α->List β} {g:α->Nat}:∀(l:List α),(∀x∈l,(f x).length<=g x)->(l.map f).flatten.length<=(l.map g).sum
 | [],_=>nR_ _
 | x::l,h=>by
  have:=xr (f:=f) l (fun y j=>h y (mC_ _ j))
  grind
theorem qk:∀(k:Nat) (x:XE),(fI k x).length<=dg k x
 | 0,_=>nR_ _
 | k+1,.mk op num name kids=>by
  show((bif (bif H op 2 then bh (gK name []) else false) then [name] else [])++(kids.map<|fI k).flatten).length<=(kids.map<|dg k).sum+1
  have h1:(bif (bif H op 2 then bh (gK name []) else false) then [name] else []).length<=1:=by
   cases (bif H op 2 then bh (gK name []) else false)<;>simp
  have h2:=xr (f:=fI k) (g:=dg k) kids (fun x _=>qk k x);rw[lA_];omega
theorem uS {k:Nat} {op num:Int} {name:List Nat} {kids:List XE} {i:Nat} {x:XE} (h:kids[i]?=some x):((bif (bif H op 2 then bh (gK name []) else false) then [name] else [])++((kids.take i).map<|fI k).flatten).length+(fI k x).length<=dg (k+1) (.mk op num name kids):=by
 have h1:(bif (bif H op 2 then bh (gK name []) else false) then [name] else []).length<=1:=by
  grind
 have h2:=xr (f:=fI k) (g:=dg k) (kids.take i) (fun x _=>qk k x);have h3:=qk k x;have h4:=tR (f:=dg k) h
 grind [FM,dg]
theorem cZ.jE {α:Type} {m E:Nat} {R:α->List U->Prop} {l:List α} {u:U} {M:Own} {K:KP} (h:cZ m E R l u M):bL (K.g9 M) m R l u:=h.jK fun _ he=>.inr he
theorem cZ.zG {α:Type} {m E:Nat} {R R':α->List U->Prop} {l:List α} {u:U} {M:Own} (h:cZ m E R l u M) (j:∀x vs,R x vs->R' x vs):cZ m E R' l u M:=by
 rcases h with h | ⟨b,c,cells,e,h1,w,z,h4,h5⟩
 ·exact .inl h
 exact .inr ⟨b,c,cells,e,h1,w,z,fun i x hx=>j x _ (h4 i x hx),h5⟩
theorem eH.leaf {K:KP} {k:Nat}:∀x vs,eH K k x vs->cP vs=true:=fun x vs h=>by
 obtain⟨o,n,s,v,rfl,hk⟩:=h.shape;exact aj Z<|aj Z<|aj Z<|aj hk.leaf.2 aI
theorem cZ.empty {α:Type} {m E b e:Nat} {R:α->List U->Prop}:cZ m E R ([]:List α) (.slice b 0 0 (.known 0)) [(b,.row [] e false)]:=.inr ⟨b,.known 0,[],e,Z,Z,by simp,fun i x h=>by simp at h,.inl Z,by simp⟩
theorem cZ.nil {α:Type} {m E:Nat} {R:α->List U->Prop}:cZ m E R ([]:List α) .az []:=.inl ⟨Z,Z,Z⟩
theorem KP.add_get (K:KP) (b:Nat) (o:cD):K.add b o b o:=.inr ⟨Z,Z⟩
theorem CI {V:aE} {K:KP} {L:Own} {b e:Nat} {vs:List U} (ar:D V K ((b,.row vs e false)::L)):∃j,KP.le K j/\j b (.row vs e false)/\D V j L:=⟨_,KP.pU _ _ _,KP.add_get _ _ _,ar.jE⟩
def Oa (v:U):List U:=[.int .i64 0,.str [],.str [],.int .i64 0,v,.az,.az]
def Rq (v:U) (_:Unit) (vs:List U):Prop:=vs=Oa v
theorem Ob {P:Program} {k:Bool} {t:TypeId} {s:List Nat} {n:Nat} (h:ld s=some n):r8 P k .add t (.str [114]) (.str s)=some (.str (114::s)):=by
 obtain⟨_,h4,_⟩:=Dh h;show(bif Nat.ble (du [114]+du s) 1152921504606846976 then some (U.str<|gL [114] s) else none)=_;rw[bY,bY,show Nat.ble ([114].length+s.length) 1152921504606846976=true by rw[nE_];grind];rfl
theorem GA {s:List Nat} (h:(bif b9 (jF s) 0 then false else true)=true):∃n,ld s=some n:=by
 unfold jF at h;cases j:ld s with
 | none=>rw[j] at h;cases h
 | some n=>exact⟨n,Z⟩
theorem NH {s:List Nat} (h:(bif b9 (jF s) 0 then false else true)=false):ld s=none:=by
 grind [jF,Mv]
theorem sQ {P:Program} {ev:Operand->Option U} {t e:TypeId} {len m:Nat} {parts:Array (Nat×Operand)} {z cs:List U} (w:P.underlying t=some (.slice e)) (hj:(P.info? e).map (·.size)=some m) (A:(fl P e).bind cU=some z)
  (hb:(Nat.beq (du z) m && Nat.ble (len*m) 16777216 && Nat.ble 1 m)=true) (hf:jI (fun i=>some (i*m,m)) ev parts.toList (fp z len)=some cs):fy P ev (.buildSlice t len parts)=some (.row cs e false,.slice len len):=by
 obtain⟨j,u,rfl⟩:=oM_.1 hj;simp only[fy,w,u,A,hb,cond_true,hf]
theorem Ig {α:Type} {l o:List α} {i k:Nat} {x y:α} (hm:∀s,s∈o↔s∈l.take i) (h1:o[k]?=some y) (h2:l[i]?=some x) (e:y=x):∀s,s∈o↔s∈l.take (i+1):=fun s=>by
 grind [List.take_add_one]
theorem Gy {α:Type} {l o:List α} {i k:Nat} {x:α} (hm:∀s,s∈o↔s∈l.take i) (h2:l[i]?=some x):∀s,s∈(([]++o.take k)++[x])++o.drop k↔s∈l.take (i+1):=fun s=>by
 grind [List.take_add_one,List.take_append_drop]
theorem Gu {α:Type} {o:List α} {k i:Nat} {x:α} (h:o.length<=i) (hk:k<=o.length):((([]++o.take k)++[x])++o.drop k).length<=i+1:=by
 grind
end Go.Ev
namespace Go.Ev
variable [Env]
open Go.Proofs
set_option maxRecDepth 4000
set_option maxHeartbeats 8000000
def RV (u:U) (vs:List U):Prop:=vs= [u]/\cU u=some [u]/\iH u=true
theorem RV.leaf:∀x vs,RV x vs->cP vs=true:=fun u _ h=>by
 obtain⟨rfl,_,j⟩:=h;exact aj j aI
section
variable {m E E2:Nat} {K:KP} {us:List U} {u:U} {O_:Own}
theorem Bc (h:cZ 1 E RV us u O_) (j:us≠[]):∃b c e,u= .slice b 0 us.length c/\O_= [(b,.row us e false)]/\(c= .known us.length∨(c= .upto 1/\e=E))/\us.length<=1048576:=by
 rcases h with ⟨rfl,_,_⟩ | ⟨b,c,cells,e,rfl,rfl,h3,h4,h5,w⟩
 ·exact absurd Z j
 refine⟨b,c,e,Z,?_,h5,w⟩
 have:cells=us:=by
  refine List.ext_getElem oM fun i h1 z=>?_
  have h:=(h4 i us[i]<|gC z).1;rw[Nat.mul_one,List.drop_eq_getElem_cons h1] at h;exact(List.cons.inj h).1
 rw[this]
theorem N6 {b e n:Nat} {c:uc} (j:us.length=n) (hc:c= .known n∨(c= .upto 1/\e=E)) (hl:n<=1048576) (w:∀u∈us,cU u=some [u]/\iH u=true):cZ 1 E RV us (.slice b 0 n c) [(b,.row us e false)]:=by
 subst j
 exact .inr ⟨b,c,us,e,Z,Z,(Nat.mul_one _).symm,fun i x h=>by
  obtain⟨h1,z⟩:=gA.1 h;refine⟨?_,w x<|gB_ h⟩;rw[Nat.mul_one,List.drop_eq_getElem_cons h1,z];rfl,hc,hl⟩
variable {α:Type} {R:α->List U->Prop} {ls:List (List α)} {I:Own}
theorem g8.QX (h:g8 m E R ls us I):∀u∈us,cU u=some [u]/\iH u=true:=by
 induction h with
 | nil=>intro u h;cases h
 | snoc _ h1 ih=>
  intro u h;rcases List.mem_append.1 h with h | h
  ·exact ih u h
  rw[List.mem_singleton.1 h];exact h1.leaf
theorem Fw (h:g8 m E R ls us I) (w:cZ 1 E2 RV us u O_) (A:∀e∈I,K e.1 e.2) (z:∀e∈O_,K e.1 e.2):bL K 1 (RL K m R) ls u:=by
 rcases h':us with _ | ⟨x,r⟩
 ·have hl:=h.length;rcases w with ⟨_,rfl,_⟩ | ⟨b,c,cells,e,rfl,rfl,h3,h4,h5,B⟩
  ·rw[h'] at hl;exact .inl ⟨eN_ hl.symm,Z⟩
  have C:ls= []:=by rw[h'] at hl;exact eN_ hl.symm
  subst C;refine .inr ⟨b,0,c,cells,e,false,by rw[h'];rfl,?_,z _ (.head _),by simp,by simp,fun i x hx=>by simp at hx⟩;rw[h'] at h5;rcases h5 with rfl | ⟨rfl,_⟩
  ·exact .inr ⟨_,Z,nR_ _⟩
  exact .inl Z
 obtain⟨b,c,e,rfl,rfl,h5,B⟩:=Bc w (by rw[h'];exact fun e=>by cases e);have hl:=h.length;refine .inr ⟨b,0,c,us,e,false,by rw[hl],?_,z _ (.head _),by omega,by omega,fun i x hx=>?_⟩
 ·rcases h5 with rfl | ⟨rfl,_⟩
  ·rw[hl];exact .inr ⟨_,Z,nR_ _⟩
  exact .inl Z
 obtain⟨u,q1,q2⟩:=h.each A i x hx;refine⟨u,?_,q2⟩;obtain⟨j,rfl⟩:=gA.1 q1;rw[show 0+i*1=i from by omega,List.drop_eq_getElem_cons j];rfl
end
theorem On {G:Cx} (X:Plain G) {K:KP} {k:Nat} {l:List XC} {lv:U} (hl:bL K 2 (lW K k) l lv) {pl pc cv:U} (B:eL K pl [lv]) {c a:XC} {vc:List U} (C:eL K pc vc) (F:vc.length=2) (M:lW K k c vc) {cl:List Int} (Q:bL K 1 eu cl cv) {h:Nat} (S:cl[0]?=some (Int.ofNat (h+1))) (j:l[h]?=some a) {V:aE} {L:Own} (ar:D V K L):
  bu Tryz.prog G 34 [cv,pl,pc] V fun v V'=>v= .bool (bQ a c)/\D V' K L:=by
 have hh:=(gA.1 j).1;have hll:=hl.bO;refine bn X Tryz.func34 Z (t:=((PT.leaf.put (some (cv)) 0).put (some (pl)) 1).put (some (pc)) 2) (by rfl) ?_;refine al ?_;refine ah Z ?_;refine Y Z (ak Z) Z ?_;refine af ?_;refine ad ?_;refine al ?_;refine aU (l:=[(0,[]),(1,[]),(2,[]),(3,[]),(4,[]),(5,[]),(6,[]),(7,[]),(8,[]),(9,[])]) O O ?_;refine ai Z Z (aN ar B Z O Z) Z ?_;refine ai Z Z (aq Z) Z ?_;refine bV (e:=3) (m:=1) Q S Z Z Z O O Z Z (fun _=>Z) (fun p7 am T an W=>?_);obtain rfl:=W;refine ai Z Z (aN ar T Z O Z) Z ?_;refine ai Z Z (ax (v:=.int .i64 (.ofNat h)) Z Z<|congrArg (fun z=>some (U.int .i64 z))<|gW oM) Z ?_;refine bV (e:=55) (m:=2) hl j Z Z Z O O Z Z (fun _=>Z) (fun ao aa A ab w=>?_);have hr10':=w;obtain⟨ap,rfl,ac⟩:=hr10';refine ai Z Z (bN ar A Z O Z) Z ?_;refine ai Z Z (bN ar C Z O F) Z ?_;refine eB Z Z (aV Z Z Z O) (fun _=>Z) (Qd X ar w M) (fun V ar=>?_);refine⟨ba,?_⟩;refine ai Z Z (ak Z) Z ?_;refine aX ?_;refine ad ?_;refine aF ?_;exact aB Z Z ⟨Z,ar⟩
theorem Bs {G:Cx} (W:Plain G) {K:KP} {ls:List (List Int)} {v pl pc:U} {p:List Int->Bool} (h:bL K 1 (RL K 1 eu) ls v) {V:aE} {L:Own} (ar:D V K L)
  (A:∀x u V L,x∈ls->D V K L->bL K 1 eu x u->bu Tryz.prog G 34 [u,pl,pc] V fun v V'=>v= .bool (p x)/\D V' K L):
  bu Tryz.prog G 36 [v,.func 34 [] [pl,pc]] V fun v V'=>v= .int .i64 (ew p ls 0)/\D V' K L:=by
 refine bn W Tryz.func36 Z (t:=(PT.leaf.put (some (v)) 0).put (some (.func 34 [] [pl,pc])) 1) (by rfl) ?_;refine al ?_;refine ah Z ?_;refine Y Z (ak Z) Z ?_;refine af ?_;refine ad ?_;refine al ?_;refine al ?_;refine ah Z ?_;refine Y Z (aq Z) Z ?_;refine Y Z (aZ h Z Z Z (e:=36) O Z) Z ?_;refine Y Z (aq Z) Z ?_;refine af ?_;refine ad ?_;refine aJ ?_;obtain⟨LL1,ar,hLL1⟩:=ar.named;refine bf [4,5,8,9,10,11,12,13,14,15,16,17,18] (fun j t V=>∃(i:Nat),j+i=ls.length/\ew p ls 0=ew p (ls.drop i) i/\t.get 8=some (.int .i64 (.ofNat i))/\D V K LL1) (ls.length) ⟨0,Z,Z,Z,ar⟩ ?_;clear ar;intro X t V an hI;obtain⟨i,hj,he,B,ar⟩:=hI;subst hLL1;replace an:=an.bH Z Z;obtain⟨o4,o5,o8,o9,am,ao,ap,a0,an⟩:=an;replace an:=an.jD Z;obtain⟨a1,a2,a3,a4,an⟩:=an;replace an:=an.dz Z;obtain⟨a5,an⟩:=an;obtain rfl:=an.nil;clear an;replace B:o8=some _:=B;subst B;refine al ?_;refine ah Z ?_;refine Y Z (ax Z Z Z) Z ?_;refine af ?_;refine ad ?_;refine al ?_;refine aD Z (fun T=>?_) (fun T=>?_)
 ·refine aG ?_;refine ad ?_;refine al ?_;refine aJ ?_;refine al ?_;refine ah Z ?_;refine Y Z (aq Z) Z ?_;refine Y Z (ak Z) Z ?_;refine af ?_;refine ad ?_;refine al ?_;refine ah Z ?_;refine Y Z (aq Z) Z ?_;refine Y Z (aq Z) Z ?_;refine Y Z (aq Z) Z ?_;obtain⟨C,w,aa⟩:=cK T;refine bT (e:=36) (m:=1) h w Z Z O O Z Z (fun _=>Z) (fun a6 ab M ac Q=>?_);have hr14':=Q;obtain⟨a7,rfl,S⟩:=hr14';refine Y Z (aN ar M Z O Z) Z ?_;refine bz Z (aV Z Z Z O) (fun _=>Z) (A C _ _ _ (gB_ w) ar S) (fun V ar=>?_);refine af ?_;refine ad ?_;refine aD Z (fun F=>?_) (fun F=>?_)
  ·refine al ?_;refine ah Z ?_;refine Y Z (aq Z) Z ?_;refine Y Z (ak Z) Z ?_;refine af ?_;refine ad ?_;refine aF ?_;refine aK<|aA<|bD<|aK<|aA (?_);exact aB Z Z ⟨congrArg (U.int .i64) (by symm;rw[he,cu w];show(bif p C then _ else _)=_;rw[F];rfl),ar⟩
  refine aG ?_;refine aC ?_;refine ad ?_;refine ah Z ?_;refine Y Z (ax Z Z Z) Z ?_;refine Y Z (aq Z) Z ?_;refine af ?_;refine aH ⟨X-1,by omega,(by(iterate 24 refine aT.put Z ?_);exact aT.refl _ _),i+1,by omega,by rw[he,cu w];show(bif p C then _ else _)=_;rw[F];rfl,congrArg (fun z=>some (U.int .i64 z))<|aW (by have:=h.bO;omega),ar⟩
 refine bg ?_;refine aO ?_;refine aS ?_;refine aL ?_;refine ad ?_;refine al ?_;refine ah Z ?_;refine Y Z (ak Z) Z ?_;refine af ?_;refine ad ?_;refine aF ?_;exact aB Z Z ⟨congrArg (U.int .i64) (by symm;rw[he,eF<|bA T];rfl),ar⟩
theorem KF {l:List XC} {t h:Nat} {c a:XC} {cl:List Int} (h1:cl[0]?=some (Int.ofNat (h+1))) (j:l[h]?=some a) (m:l[t]?=some c):ml l t cl=bQ a c:=by
 unfold ml;rw[h1];show(match l[h+1-1]?,l[t]? with | some a,some b=>bQ a b | _,_=>false)=_;rw[Nat.add_sub_cancel,j,m]
theorem MU {l:List XC} {t j:Nat} {cl:List Int} (h1:ew (ml l t) (iw l t) 0= .ofNat j) (m:(iw l t)[j]?=some cl):iw l (t+1)=(iw l t).set j (cl++[.ofNat (t+1)]):=by
 show Am l (iw l t) t=_;unfold Am;rw[h1,show b9 (.ofNat j) 0=false from by rw[show(0:Int)= .ofNat 0 from Z,jO];simp];show(iw l t).set j (((iw l t)[j]?).getD []++[.ofNat (t+1)])=_;rw[m];rfl
theorem Jv {l:List XC} {t:Nat} (h:b9 (ew (ml l t) (iw l t) 0) 0=true):iw l (t+1)=iw l t++[[.ofNat (t+1)]]:=by
 show Am l (iw l t) t=_;unfold Am;rw[h];rfl
theorem zc {l:List XC}:∀{t:Nat},∀cl∈iw l t,cl.length<=t
 | 0,cl,h=>by cases h
 | t+1,cl,h=>by
  have ih:=zc (l:=l) (t:=t);have h:cl∈Am l (iw l t) t:=h;unfold Am at h;cases hi:b9 (ew (ml l t) (iw l t) 0) 0 with
  | true=>
   rw[hi] at h;rcases List.mem_append.1 (show cl∈iw l t++[[Int.ofNat (t+1)]] from h) with h | h
   ·have:=ih cl h;omega
   rw[List.mem_singleton.1 h];exact Nat.succ_le_succ<|Nat.zero_le _
  | false=>
   rw[hi] at h;have h:cl∈(iw l t).set (ew (ml l t) (iw l t) 0).toNat (((iw l t)[(ew (ml l t) (iw l t) 0).toNat]?).getD []++[Int.ofNat (t+1)]):=h;rcases List.mem_or_eq_of_mem_set h with h | h
   ·have:=ih cl h;omega
   rw[h,lA_];show _+1<=t+1;cases j:(iw l t)[(ew (ml l t) (iw l t) 0).toNat]? with
   | none=>exact Nat.succ_le_succ (Nat.zero_le _)
   | some x=>exact Nat.succ_le_succ (ih x<|gB_ j)
theorem NP {b E:Nat} {x:Int}:cZ 1 E eu [x] (.slice b 0 1 (.known 1)) [(b,.row [.int .i64 x] E false)]:=.inr ⟨b,.known 1,_,E,Z,Z,Z,fun i y h=>by
 cases i with
 | zero=>cases h;rfl
 | succ i=>simp at h,.inl Z,by simp⟩
theorem I2 {G:Cx} (hG:Plain G) {K:KP} {k:Nat} {l:List XC} {lv:U} (hl:bL K 2 (lW K k) l lv) (bs:l.length<=4) {V:aE} {L:Own} (ar:D V K L):
  bu Tryz.prog G 16 [lv] V fun v V'=>∃us I E,cZ 1 36 RV us v I/\g8 1 3 eu (gd l) us E/\D V' K ((I++E)++L):=by
 refine bn hG Tryz.func16 Z (t:=PT.leaf.put (some (lv)) 0) (by rfl) ?_;refine al ?_;refine ah Z ?_;refine bG ar Z (cC Z hl.leaf.1) (fun _=>Z) (fun V b1 ar=>?_);obtain⟨K1,Q,C,ar⟩:=ar.cq (M:=[_]);have ac:eL K1 (.ptr b1 0) [lv]:=.one (C _ (.head _));clear C;replace hl:=hl.mono Q fun _ _ h=>h.mono Q
 refine Y Z (ak Z) Z ?_;refine af ?_;refine ad ?_;refine al ?_;refine al ?_;refine ah Z ?_;refine Y Z (aN ar ac Z O Z) Z ?_;refine Y Z (aZ hl Z Z Z (e:=55) O Z) Z ?_;refine Y Z (ax Z Z Z) Z ?_;refine af ?_;refine ad ?_;refine aD Z (fun a0=>?_) (fun a0=>?_)
 ·exact absurd (bc (a:=4) a0) oM
 refine aG ?_;refine ad ?_;refine al ?_;refine ah Z ?_;refine Y Z (ak Z) Z ?_;refine af ?_;refine ad ?_;refine al ?_;refine al ?_;refine ah Z ?_;refine Y Z (aN ar ac Z O Z) Z ?_;refine Y Z (aZ hl Z Z Z (e:=55) O Z) Z ?_;refine Y Z (aq Z) Z ?_;refine af ?_;refine ad ?_;refine aJ ?_;refine bf [3,4,5,6,7,13,14,15,16,17,18,19,20,21,22,23,24,25,26,27,28,29,30,31,32,33,34,35,36,37,38,39,40,41] (fun j t V=>∃(i:Nat) (u:U) (us:List U) (I E:Own),(j+i=l.length/\cZ 1 36 RV us u I/\g8 1 3 eu (iw l i) us E)/\t.get 3=some (u)/\t.get 13=some (.int .i64 (.ofNat i))/\D V K1 ((I++E)++L)) (l.length) ⟨0,.az,[],[],[],⟨Z,.inl ⟨Z,Z,Z⟩,.nil⟩,Z,Z,ar⟩ ?_;clear ar;intro j5 t V an hI;obtain⟨i,u,us,I,E,⟨bt,hO,hI⟩,am,S,ar⟩:=hI;replace an:=an.bH Z Z;obtain⟨o3,o4,o5,o6,o7,a7,bv,bw,an⟩:=an;replace an:=an.bH Z Z;obtain⟨b0,b3,b4,b5,b6,b7,ca,cb,an⟩:=an;replace an:=an.bH Z Z;obtain⟨cc,ce,cg,ch,ci,cj,ck,cn,an⟩:=an;replace an:=an.bH Z Z;obtain⟨cp,cr,cv,cw,cx,cy,c0,c1,an⟩:=an;replace an:=an.dz Z;obtain⟨c2,an⟩:=an;replace an:=an.dz Z;obtain⟨c3,an⟩:=an;obtain rfl:=an.nil;clear an;replace am:o3=some _:=am;subst am;replace S:a7=some _:=S;subst S;refine al ?_;refine ah Z ?_;refine Y Z (ax Z Z Z) Z ?_;refine af ?_;refine ad ?_;refine al ?_;refine aD Z (fun T=>?_) (fun T=>?_)
 ·refine aG ?_;refine ad ?_;refine al ?_;refine aJ ?_;refine al ?_;refine ah Z ?_;refine Y Z (aq Z) Z ?_;obtain⟨ao,aa,bm⟩:=cK T;refine bT (e:=55) (m:=2) hl aa Z Z O O Z Z (fun _=>Z) (fun c4 bp a1 bq ab=>?_);have hr16':=ab;obtain⟨a2,rfl,a3⟩:=hr16';refine Y Z (bN ar a1 Z O Z) Z ?_;refine bG ar Z (cQ (cs:=[.int .i64 0,.az]) O O) (fun _=>Z) (fun V b2 ar=>?_);refine Y Z (ak Z) Z ?_;refine bZ ar Z (aR Z Z Z (ar.get 0 Z) (m:=2) O Z (Nat.le_of_ble_eq_true Z) (aj Z<|aj a3.leaf.2 aI) (cells':=[_,_]) Z) Z (fun V ar=>?_);obtain⟨K2,w,C,ar⟩:=ar.cq (M:=[_]);have a8:eL K2 (.ptr b2 0) [.int .i64 ao.br,a2]:=⟨b2,0,_,_,false,Z,C _ (.head _),Nat.le_of_ble_eq_true Z,Z⟩;clear C;have a9:lW K2 k ao [.int .i64 ao.br,a2]:=ab.mono w;have hl2:=hl.mono w fun _ _ h=>h.mono w;have hpl2:=ac.mono w
  refine af ?_;refine ad ?_;refine al ?_;refine ah Z ?_;refine Y Z (bU Z Z) Z ?_;refine Y Z (ak Z) Z ?_;refine af ?_;refine ad ?_;refine al ?_;refine ah Z ?_;refine Y Z (aq Z) Z ?_;refine Y Z (aq Z) Z ?_;have hrl:=Fw (K:=K2.g9 (I++E)) hI hO (fun e he=>.inr (List.mem_append_right _ he)) (fun e he=>.inr (List.mem_append_left _ he));have hle3:=KP.dj K2 (I++E)
  refine bz Z (aV Z Z Z O) (fun _=>Z) ((Bs hG (p:=ml l i) hrl ar.keeps fun x u V L hm ar hu=>by
    obtain⟨c5,h,c,hlt,h0,a4,_⟩:=(w4 (l:=l) (t:=i) oM).all x hm;rw[KF h0 a4 aa];exact On hG (hl2.mono hle3 fun _ _ h=>h.mono hle3) (hpl2.mono hle3) (a8.mono hle3) Z (a9.mono hle3) hu h0 a4 ar).mono fun _ _ hh=>⟨hh.1,D.Ha ar hh.2⟩) (fun V ar=>?_)
  refine Y Z (ak Z) Z ?_;refine af ?_;refine ad ?_;refine al ?_;refine ah Z ?_;refine Y Z (aq Z) Z ?_;refine Y Z (ax Z Z Z) Z ?_;refine af ?_;refine ad ?_;refine aD Z (fun ap=>?_) (fun ap=>?_)
  ·refine ah Z ?_;refine Y Z (aq Z) Z ?_;refine Y Z (aq Z) Z ?_;refine Y Z (aq Z) Z ?_;refine Y Z (aq Z) Z ?_;have bb:b9 (ew (ml l i) (iw l i) 0) 0=false:=bW ap;obtain⟨q,cl,hq,W,_⟩:=uB bb;rw[nA_] at hq;have hul:=hI.length;have hql:=(gA.1 W).1;obtain⟨bo,co,eo,rfl,rfl,bd,be⟩:=Bc hO (fun e=>by rw[e] at hul;simp at hul;omega);obtain⟨ut,Mt,A,B,a5,bi,bk,a6⟩:=hI.at W;subst bk;have hlt:=(gA.1 a5).1;replace ar:D V K2 ((bo,.row us eo false)::((A++(Mt++B))++L)):=ar;refine Y Z (fS (e:=36) (m:=1) Z O Z (congrArg (fun z=>some (U.int .i64 z)) hq) hlt) Z ?_;refine Y Z (aw Z (ar.get 0 Z) O (by rw[fG,show 0+q*1=q from by omega];exact a5)) Z ?_;refine Y Z (aq Z) Z ?_;refine Y Z (ax (v:=.int .i64 (.ofNat (i+1))) Z Z<|congrArg (fun z=>some (U.int .i64 z))<|aW oM) Z ?_;replace ar:=ar.pull (X:=Mt) (.there .OG);refine fe ar Z (bP (e:=3) (m:=1) (z:=[.int .i64 0]) (cs:=[_]) O O O O<|bj Z Z Z Z bF) (fun _=>Z) (fun V b8 ar=>?_);refine fH (R:=eu) (m:=1) (e:=3) bi ar (di (m:=1) Z Z) eu.leaf (by have:=zc (l:=l) (t:=i) _ (gB_ W);simp;omega) Z Z Z Z Z Z Z (fun _=>Z) (fun V u9 M9 hO9 ar=>?_);replace ar:=ar.push (X:=M9) (L:=(bo,.row us eo false)::((A++(M9++B))++L)) (.there .OG);refine Y Z (fS (e:=36) (m:=1) Z O Z (congrArg (fun z=>some (U.int .i64 z)) hq) hlt) Z ?_;refine dX ar .here Z (ub Z Z hO9.leaf.1 (ar.get 0 Z) (m:=1) O Z oM<|aj hO9.leaf.2 Z) Z (fun V ar=>?_);rw[oX hlt] at ar;have hI2:=a6 _ _ _ hO9;rw[<-MU hq W] at hI2;have hO2:cZ 1 36 RV (us.set q u9) (.slice bo 0 us.length co) [(bo,.row (us.set q u9) eo false)]:=N6 List.length_set bd be hI2.QX;replace ar:=ar.weaken w;refine af ?_;refine aC ?_;refine ad ?_;refine ah Z ?_;refine Y Z (ax Z Z Z) Z ?_;refine Y Z (aq Z) Z ?_;refine af ?_;refine aH ⟨j5-1,(by have:=bc T;omega),(by(iterate 61 refine aT.put Z ?_);exact aT.refl _ _),i+1,_,_,_,_,⟨by omega,hO2,hI2⟩,Z,congrArg (fun z=>some (U.int .i64 z))<|aW oM,ar⟩
  refine ah Z ?_;refine Y Z (aq Z) Z ?_;refine Y Z (aq Z) Z ?_;refine Y Z (ax (v:=.int .i64 (.ofNat (i+1))) Z Z<|congrArg (fun z=>some (U.int .i64 z))<|aW oM) Z ?_;have hnew:=Jv (bK ap);replace ar:D V K2 (I++(E++L)):=by rw[<-lQ_];exact ar
  refine fe ar Z (bP (e:=3) (m:=1) (z:=[.int .i64 0]) (cs:=[_]) O O O O<|bj Z Z Z Z bF) (fun _=>Z) (fun V F ar=>?_);have hO38:cZ 1 3 eu [Int.ofNat (i+1)] (.slice F 0 1 (.known 1)) [(F,.row [.int .i64 (.ofNat (i+1))] 3 false)]:=NP;replace ar:D V K2 (I++(((F,.row [.int .i64 (.ofNat (i+1))] 3 false)::E)++L)):=ar.perm (by exact List.perm_middle.symm);refine fe ar Z (bP (e:=36) (m:=1) (z:=[.az]) (cs:=[_]) O O O O<|bj Z Z Z Z bF) (fun _=>Z) (fun V c7 ar=>?_);refine fH (R:=RV) (m:=1) (e:=36) hO ar (di (m:=1) Z ⟨Z,Z,Z⟩) RV.leaf (by have:=hI.length;have:=(w4 (l:=l) (t:=i) oM).len;simp;omega) Z Z Z Z Z Z Z (fun _=>Z) (fun V c8 bl hO40 ar=>?_);have hI2:g8 1 3 eu (iw l (i+1)) (us++[.slice F 0 1 (.known 1)]) ((F,.row [.int .i64 (.ofNat (i+1))] 3 false)::E):=by rw[hnew];exact .snoc hI hO38
  replace ar:D V K2 ((bl++((F,.row [.int .i64 (.ofNat (i+1))] 3 false)::E))++L):=by rw[lQ_];exact ar
  replace ar:=ar.weaken w;refine Y Z (ak Z) Z ?_;refine af ?_;refine aC ?_;refine ad ?_;refine ah Z ?_;refine Y Z (ax Z Z Z) Z ?_;refine Y Z (aq Z) Z ?_;refine af ?_;refine aH ⟨j5-1,(by have:=bc T;omega),(by(iterate 57 refine aT.put Z ?_);exact aT.refl _ _),i+1,_,_,_,_,⟨by omega,hO40,hI2⟩,Z,congrArg (fun z=>some (U.int .i64 z))<|aW oM,ar⟩
 refine bg ?_;refine aO ?_;refine aS ?_;refine aL ?_;refine ad ?_;refine al ?_;refine ah Z ?_;refine Y Z (aq Z) Z ?_;refine Y Z (ak Z) Z ?_;refine af ?_;refine ad ?_;refine aF ?_;exact aB Z Z ⟨us,I,E,hO,by unfold gd;rw[<-show i=l.length by have:=bA T;omega];exact hI,ar.weaken Q⟩
theorem IB {i v q:Nat} {cl a:List Int} (h:cl[q]?=some (Int.ofNat v)):my i a (cl.take (q+1))=(my i a<|cl.take q).set v (.ofNat i):=by
 unfold my;rw[List.take_add_one,h,List.foldl_append];rfl
theorem zQ {cl:List Int}:∀{s:List (List Int)} {i:Nat} {a:List Int},iV (s++[cl]) i a=my (i+s.length) (iV s i a) cl
 | [],_,_=>rfl
 | c::s,i,a=>by
  show iV (s++[cl]) (i+1) (my i a c)=my (i+(s.length+1)) (iV s (i+1)<|my i a c) cl;rw[zQ,show i+1+s.length=i+(s.length+1) by omega]
theorem Fl {s:List (List Int)} {i:Nat} {cl a:List Int} (h:s[i]?=some cl):iV (s.take (i+1)) 0 a=my i (iV (s.take i) 0 a) cl:=by
 have hl:=(gA.1 h).1;rw[List.take_add_one,h];show iV (s.take i++[cl]) 0 a=_;rw[zQ,lT_,nA_,Nat.min_eq_left oM]
theorem xD {K:KP} {l:List Int} {b e n:Nat} (hk:K b (.row (l.map gZ) e false)) (j:l.length=n) (hl:n<=1000):bL K 1 eu l (.slice b 0 n (.known n)):=by
 subst j;refine .inr ⟨b,0,.known l.length,_,e,false,Z,.inr ⟨_,Z,nR_ _⟩,hk,by simp,by omega,fun i x hx=>?_⟩;have h1:=(gA.1 hx).1;have m:(l.map gZ)[i]?=some (gZ x):=by rw[gM_,hx];rfl
 obtain⟨u,h4⟩:=gA.1 m;rw[nA_,Nat.mul_one,List.drop_eq_getElem_cons u,h4];rfl
theorem Oq {G:Cx} (hG:Plain G) {K:KP} {k:Nat} {l:List XC} {lv:U} (hl:bL K 2 (lW K k) l lv) (a1:l.length<=4) {V:aE} {L:Own} (ar:D V K L):
  bu Tryz.prog G 21 [lv] V fun v V'=>∃K' pl pc cv,v= .func 41 [] [pl,pc]/\KP.le K K'/\eL K' pl [lv]/\eL K' pc [cv]/\bL K' 1 eu (w0 l) cv/\D V' K' L:=by
 refine bn hG Tryz.func21 Z (t:=PT.leaf.put (some (lv)) 0) (by rfl) ?_;refine al ?_;refine ah Z ?_;refine bG ar Z (cC Z hl.leaf.1) (fun _=>Z) (fun V b1 ar=>?_);obtain⟨K1,C,u,ar⟩:=ar.cq (M:=[_]);have aa:eL K1 (.ptr b1 0) [lv]:=.one (u _ (.head _));clear u;replace hl:=hl.mono C fun _ _ h=>h.mono C
 refine Y Z (ak Z) Z ?_;refine af ?_;refine ad ?_;refine al ?_;refine ah Z ?_;refine Y Z (aN ar aa Z O Z) Z ?_;refine Y Z (aZ hl Z Z Z (e:=55) O Z) Z ?_;refine Y Z (ax (v:=.int .i64 (.ofNat (l.length+1))) Z Z<|congrArg (fun z=>some (U.int .i64 z))<|aW oM) Z ?_;refine fe ar Z (lM (e:=3) (w:=8) (z:=[gZ 0]) O O O O Z Z oM oM) (fun _=>Z) (fun V B ar=>?_);rw[jk (f:=gZ)] at ar;refine bG ar Z (cQ (cs:=[.az]) O O) (fun _=>Z) (fun V b3 ar=>?_);refine bZ ar Z (aR Z Z Z (ar.get 0 Z) (m:=1) O Z (Nat.le_of_ble_eq_true Z) (aj Z aI) (cells':=[_]) Z) Z (fun V ar=>?_);refine af ?_;refine ad ?_;refine al ?_;refine al ?_;refine ah Z ?_;refine Y Z (aN ar aa Z O Z) Z ?_;refine cM Z (aV Z Z Z O) (fun _=>Z) (I2 hG hl a1 ar) ?_;rintro bq V ⟨us,O1,I1,hO,hI,ar⟩;obtain⟨K2,W,u,ar⟩:=ar.cq (M:=O1++I1);have hcs:=Fw (K:=K2) hI hO (fun e he=>u e (List.mem_append_right _ he)) (fun e he=>u e (List.mem_append_left _ he));clear u;have hco:=w4 (l:=l) (nR_ _);refine Y Z (aZ hcs Z Z Z (e:=36) O Z) Z ?_;refine Y Z (aq Z) Z ?_;refine af ?_;refine ad ?_;refine aJ ?_;refine bf [4,5,7,15,16,17,18,19,20,21,22,23,24,25,26,27,28,29,30,31] (fun j t V=>∃(i:Nat),j+i=(gd l).length/\t.get 15=some (.int .i64 (.ofNat i))/\D V K2 ((b3,.row [.slice B 0 (l.length+1) (.known (l.length+1))] 36 false)::(B,.row ((iV ((gd l).take i) 0<|List.replicate (l.length+1) 0).map gZ) 3 false)::L)) ((gd l).length) ⟨0,Z,Z,ar⟩ ?_;clear ar;intro j3 t V an hI;obtain⟨i,br,E,ar⟩:=hI;replace an:=an.bH Z Z;obtain⟨o4,o5,o7,a2,bs,bt,bv,bw,an⟩:=an;replace an:=an.bH Z Z;obtain⟨b0,b4,ab,a3,a4,a5,a6,a7,an⟩:=an;replace an:=an.jD Z;obtain⟨a8,a9,bb,b5,an⟩:=an;obtain rfl:=an.nil;clear an;replace E:a2=some _:=E;subst E;refine al ?_;refine ah Z ?_;refine Y Z (ax Z Z Z) Z ?_;refine af ?_;refine ad ?_;refine al ?_;refine aD Z (fun S=>?_) (fun S=>?_)
 ·refine aG ?_;refine ad ?_;refine al ?_;refine aJ ?_;refine al ?_;refine ah Z ?_;refine Y Z (aq Z) Z ?_;obtain⟨A,F,bi⟩:=cK S;refine bT (e:=36) (m:=1) hcs F Z Z O O Z Z (fun _=>Z) (fun b6 bk ac bl am=>?_);have hr18':=am;obtain⟨b7,rfl,I⟩:=hr18';refine Y Z (aN ar ac Z O Z) Z ?_;refine Y Z (ak Z) Z ?_;refine Y Z (ak Z) Z ?_;refine af ?_;refine ad ?_;refine al ?_;refine ah Z ?_;refine Y Z (aq Z) Z ?_;refine Y Z (aZ I Z Z Z (e:=3) O Z) Z ?_;replace ar:D V K2 ((b3,.row [.slice B 0 (l.length+1) (.known (l.length+1))] 36 false)::(B,.row ((my i (iV ((gd l).take i) 0<|List.replicate (l.length+1) 0)<|A.take 0).map gZ) 3 false)::L):=ar;refine Y Z (aq Z) Z ?_;refine af ?_;refine ad ?_;refine aJ ?_;refine bf [7,22,23,24,25,26,27,28,29,30] (fun j t V=>∃(q:Nat),j+q=A.length/\t.get 22=some (.int .i64 (.ofNat q))/\D V K2 ((b3,.row [.slice B 0 (l.length+1) (.known (l.length+1))] 36 false)::(B,.row ((my i (iV ((gd l).take i) 0<|List.replicate (l.length+1) 0)<|A.take q).map gZ) 3 false)::L)) (A.length) ⟨0,Z,Z,ar⟩ ?_;clear ar;intro j6 t V an hI;obtain⟨q,b8,Q,ar⟩:=hI;replace an:=an.bH Z Z;obtain⟨o7,ab,a3,a4,a5,a6,a7,a8,an⟩:=an;replace an:=an.dz Z;obtain⟨a9,an⟩:=an;replace an:=an.dz Z;obtain⟨bb,an⟩:=an;obtain rfl:=an.nil;clear an;replace Q:ab=some _:=Q;subst Q;refine al ?_;refine ah Z ?_;refine Y Z (ax Z Z Z) Z ?_;refine af ?_;refine ad ?_;refine al ?_;refine aD Z (fun T=>?_) (fun T=>?_)
  ·refine aG ?_;refine ad ?_;refine al ?_;refine aJ ?_;refine al ?_;refine ah Z ?_;obtain⟨bd,R,bm⟩:=cK T;refine bT (e:=3) (m:=1) I R Z Z O O Z Z (fun _=>Z) (fun ca bo ao bp ap=>?_);obtain rfl:=ap;refine Y Z (aN ar ao Z O Z) Z ?_;refine Y Z (ak Z) Z ?_;refine af ?_;refine ad ?_;refine ah Z ?_;obtain⟨_,_,_,_,_,_,a0⟩:=hco.all A (gB_ F);obtain⟨w,hw,be,_⟩:=a0 bd (gB_ R);subst be;refine Y Z (aw Z (ar.get 0 Z) O Z) Z ?_;refine Y Z (aq Z) Z ?_;refine Y Z (aq Z) Z ?_;refine Y Z (fS (e:=3) (m:=1) O O Z Z oM) Z ?_;refine dX ar (.there .here) Z (aR Z Z Z (ar.get 1 Z) (m:=1) O Z (by rw[lM_];rw[qi,qV,List.length_replicate];omega) (aj Z aI) (cells':=((my i (iV ((gd l).take i) 0<|List.replicate (l.length+1) 0)<|A.take q).set (w+1) (.ofNat i)).map (gZ)) (eK (f:=gZ) (v:=(.ofNat i)) (by rw[qi,qV,List.length_replicate];omega) (by first | omega | rfl))) Z (fun V ar=>?_);refine af ?_;refine aC ?_;refine ad ?_;refine ah Z ?_;refine Y Z (ax Z Z Z) Z ?_;refine Y Z (aq Z) Z ?_;refine af ?_;replace ar:D V K2 ((b3,.row [.slice B 0 (l.length+1) (.known (l.length+1))] 36 false)::(B,.row ((my i (iV ((gd l).take i) 0<|List.replicate (l.length+1) 0)<|A.take (q+1)).map gZ) 3 false)::L):=by rw[IB R];exact ar
   refine aH ⟨j6-1,(by have:=bc T;omega),(by(iterate 20 refine aT.put Z ?_);exact aT.refl _ _),q+1,by omega,congrArg (fun z=>some (U.int .i64 z))<|aW (by have:=I.bO;omega),ar⟩
  refine bg ?_;refine aO ?_;refine aS ?_;refine aL ?_;refine aC ?_;refine ad ?_;refine ah Z ?_;refine Y Z (ax Z Z Z) Z ?_;refine Y Z (aq Z) Z ?_;refine af ?_;replace ar:D V K2 ((b3,.row [.slice B 0 (l.length+1) (.known (l.length+1))] 36 false)::(B,.row ((iV ((gd l).take (i+1)) 0<|List.replicate (l.length+1) 0).map gZ) 3 false)::L):=by rw[Fl F,<-tL_ (l:=A) (i:=q) (by have:=bA T;omega)];exact ar
  refine aH ⟨j3-1,(by have:=bc S;omega),(by(iterate 42 refine aT.put Z ?_);exact aT.refl _ _),i+1,by omega,congrArg (fun z=>some (U.int .i64 z))<|aW (by have:=hcs.bO;omega),ar⟩
 refine bg ?_;refine aO ?_;refine aS ?_;refine aL ?_;refine ad ?_;refine al ?_;refine ah Z ?_;refine Y Z (bU Z Z) Z ?_;refine Y Z (ak Z) Z ?_;refine af ?_;refine ad ?_;refine aF ?_;replace ar:D V K2 ((b3,.row [.slice B 0 (l.length+1) (.known (l.length+1))] 36 false)::(B,.row ((w0 l).map gZ) 3 false)::L):=by unfold w0;rw[<-tL_ (l:=gd l) (i:=i) (by have:=bA S;omega)];exact ar
 obtain⟨K3,X,u,ar⟩:=ar.cq (M:=[_,_]) (L:=L);exact aB Z Z ⟨K3,_,_,_,Z,KP.le_trans C<|KP.le_trans W X,aa.mono<|KP.le_trans W X,.one<|u _ (.head _),xD (u _ (.tail _ (.head _))) w3 oM,ar⟩
theorem Ma {G:Cx} (B:Plain G) {K:KP} {l:List Int} {v:U} (h:bL K 1 eu l v) (C:l.length<=1048576) {V:aE} {L:Own} (ar:D V K L):bu Tryz.prog G 22 [v] V fun u V'=>∃M,cZ 1 3 eu l u M/\D V' K (M++L):=by
 have h0:=h;rcases h0 with ⟨rfl,rfl⟩ | ⟨b,off,c,cells,e,ro,rfl,_⟩
 ·refine bn B Tryz.func22 Z (t:=PT.leaf.put (some (.az)) 0) (by rfl) ?_;refine al ?_;refine ah Z ?_;refine Y Z (ak Z) Z ?_;refine af ?_;refine ad ?_;refine al ?_;refine al ?_;refine ah Z ?_;refine Y Z (aq Z) Z ?_;refine Y Z (ax Z Z Z) Z ?_;refine af ?_;refine ad ?_;refine aM Z ?_;refine al ?_;refine ah Z ?_;refine Y Z (ak Z) Z ?_;refine af ?_;refine ad ?_;refine aF ?_;refine aA (?_);exact aB Z Z ⟨[],.inl ⟨Z,Z,Z⟩,ar⟩
 refine bn B Tryz.func22 Z (t:=PT.leaf.put (some (.slice b off l.length c)) 0) (by rfl) ?_;refine al ?_;refine ah Z ?_;refine Y Z (ak Z) Z ?_;refine af ?_;refine ad ?_;refine al ?_;refine al ?_;refine ah Z ?_;refine Y Z (aq Z) Z ?_;refine Y Z (ax Z Z Z) Z ?_;refine af ?_;refine ad ?_;refine aQ Z ?_;refine aG ?_;refine ad ?_;refine al ?_;refine ah Z ?_;refine fe ar Z (bP (e:=3) (m:=1) (z:=[.int .i64 0]) (cs:=[]) O O O O bF) (fun _=>Z) (fun V I ar=>?_);replace ar:D V _ ([(I,.row [] 3 false)]++_):=ar;refine Y Z (aq Z) Z ?_;refine xZ (R:=eu) (m:=1) (e:=3) ar h eu.leaf C (by simp) (by decide) (.inl Z) Z Z Z Z Z O O O Z Z (fun _=>Z) (fun V E Q news F ar j w A=>?_);refine Y Z (ak Z) Z ?_;refine af ?_;refine ad ?_;refine aF ?_;exact aB Z Z ⟨[(E,.row ([]++news) F false)],.inr ⟨E,Q,news,F,by rw[nA_],Z,j,w,by simpa using A,C⟩,ar⟩
theorem I3 {G:Cx} (B:Plain G) {K:KP} {l:List Int} {v:U} (h:bL K 1 eu l v) (C:l.length<=1048576) {V:aE} {L:Own} (ar:D V K L):bu Tryz.prog G 52 [v] V fun u V'=>∃M,cZ 1 2 eu l u M/\D V' K (M++L):=by
 have h0:=h;rcases h0 with ⟨rfl,rfl⟩ | ⟨b,off,c,cells,e,ro,rfl,_⟩
 ·refine bn B Tryz.func52 Z (t:=PT.leaf.put (some (.az)) 0) (by rfl) ?_;refine al ?_;refine ah Z ?_;refine Y Z (ak Z) Z ?_;refine af ?_;refine ad ?_;refine al ?_;refine al ?_;refine ah Z ?_;refine Y Z (aq Z) Z ?_;refine Y Z (ax Z Z Z) Z ?_;refine af ?_;refine ad ?_;refine aM Z ?_;refine al ?_;refine ah Z ?_;refine Y Z (ak Z) Z ?_;refine af ?_;refine ad ?_;refine aF ?_;refine aA (?_);exact aB Z Z ⟨[],.inl ⟨Z,Z,Z⟩,ar⟩
 refine bn B Tryz.func52 Z (t:=PT.leaf.put (some (.slice b off l.length c)) 0) (by rfl) ?_;refine al ?_;refine ah Z ?_;refine Y Z (ak Z) Z ?_;refine af ?_;refine ad ?_;refine al ?_;refine al ?_;refine ah Z ?_;refine Y Z (aq Z) Z ?_;refine Y Z (ax Z Z Z) Z ?_;refine af ?_;refine ad ?_;refine aQ Z ?_;refine aG ?_;refine ad ?_;refine al ?_;refine ah Z ?_;refine fe ar Z (bP (e:=2) (m:=1) (z:=[.int .i64 0]) (cs:=[]) O O O O bF) (fun _=>Z) (fun V I ar=>?_);replace ar:D V _ ([(I,.row [] 2 false)]++_):=ar;refine Y Z (aq Z) Z ?_;refine xZ (R:=eu) (m:=1) (e:=2) ar h eu.leaf C (by simp) (by decide) (.inl Z) Z Z Z Z Z O O O Z Z (fun _=>Z) (fun V E Q news F ar j w A=>?_);refine Y Z (ak Z) Z ?_;refine af ?_;refine ad ?_;refine aF ?_;exact aB Z Z ⟨[(E,.row ([]++news) F false)],.inr ⟨E,Q,news,F,by rw[nA_],Z,j,w,by simpa using A,C⟩,ar⟩
theorem L9 {G:Cx} (B:Plain G) {K:KP} {l:List db} {v:U} (h:bL K 5 mJ l v) (C:l.length<=1048576) {V:aE} {L:Own} (ar:D V K L):bu Tryz.prog G 53 [v] V fun u V'=>∃M,cZ 5 59 mJ l u M/\D V' K (M++L):=by
 have h0:=h;rcases h0 with ⟨rfl,rfl⟩ | ⟨b,off,c,cells,e,ro,rfl,_⟩
 ·refine bn B Tryz.func53 Z (t:=PT.leaf.put (some (.az)) 0) (by rfl) ?_;refine al ?_;refine ah Z ?_;refine Y Z (ak Z) Z ?_;refine af ?_;refine ad ?_;refine al ?_;refine al ?_;refine ah Z ?_;refine Y Z (aq Z) Z ?_;refine Y Z (ax Z Z Z) Z ?_;refine af ?_;refine ad ?_;refine aM Z ?_;refine al ?_;refine ah Z ?_;refine Y Z (ak Z) Z ?_;refine af ?_;refine ad ?_;refine aF ?_;refine aA (?_);exact aB Z Z ⟨[],.inl ⟨Z,Z,Z⟩,ar⟩
 refine bn B Tryz.func53 Z (t:=PT.leaf.put (some (.slice b off l.length c)) 0) (by rfl) ?_;refine al ?_;refine ah Z ?_;refine Y Z (ak Z) Z ?_;refine af ?_;refine ad ?_;refine al ?_;refine al ?_;refine ah Z ?_;refine Y Z (aq Z) Z ?_;refine Y Z (ax Z Z Z) Z ?_;refine af ?_;refine ad ?_;refine aQ Z ?_;refine aG ?_;refine ad ?_;refine al ?_;refine ah Z ?_;refine fe ar Z (bP (e:=59) (m:=5) (z:=[.int .i64 0,.int .i64 0,.int .i64 0,.int .i64 0,.int .i64 0]) (cs:=[]) O O O O bF) (fun _=>Z) (fun V I ar=>?_);replace ar:D V _ ([(I,.row [] 59 false)]++_):=ar;refine Y Z (aq Z) Z ?_;refine xZ (R:=mJ) (m:=5) (e:=59) ar h mJ.leaf C (by simp) (by decide) (.inl Z) Z Z Z Z Z O O O Z Z (fun _=>Z) (fun V E Q news F ar j w A=>?_);refine Y Z (ak Z) Z ?_;refine af ?_;refine ad ?_;refine aF ?_;exact aB Z Z ⟨[(E,.row ([]++news) F false)],.inr ⟨E,Q,news,F,by rw[nA_],Z,j,w,by simpa using A,C⟩,ar⟩
theorem Iw {α:Type} (O_ I N_ R:List α) (e a c x b:α):(e::((a::c::((O_++I)++(x::b::R)))++N_)).Perm (e::(O_++(a::c::((N_++I)++(x::b::R))))):=by
 classical
 rw[List.perm_iff_count];intro y;simp only[List.count_append,List.count_cons];omega
theorem Fg {α:Type} (O_ I M L:List α) (a c x b:α):(a::(O_++(c::(I++(x::b::(M++L)))))).Perm (M++x::a::b::c::((O_++I)++L)):=by
 classical
 rw[List.perm_iff_count];intro y;simp only[List.count_append,List.count_cons];omega
def Qy (bl bm bv:Nat) (lo:cD) (L:Own) (acc:List (List Int)) (L':Own):Prop:=
 ∃us u O1 I1,cZ 1 36 RV us u O1/\g8 1 3 eu acc us I1/\L'=(bl,lo)::(bm,.mark)::(bv,.row [u] 33 false)::((O1++I1)++L)
theorem Om {G:Cx} (F:Plain G) {K:KP} {k:Nat} {l:List XC} {lv:U} (hl:bL K 2 (lW K k) l lv) (B:l.length<=4) {V:aE} {L:Own} (ar:D V K L):
  bu Tryz.prog G 8 [lv] V fun v V'=>∃K' u,v= .tuple [u,.int .i64 0]/\KP.le K K'/\bL K' 1 (RL K' 1 eu) (yc l<|w0 l) u/\D V' K' L:=by
 refine JZ F Tryz.func8 Z (t:=PT.leaf.put (some lv) 0) (by rfl) ?_;refine s8<|xl ?_;refine ah Z ?_;refine Y Z (ak Z) Z ?_;refine Y Z (ak Z) Z ?_;refine af ?_;refine jW ?_;refine s8<|xl ?_;refine al ?_;refine ah Z ?_;refine Y Z (aq Z) Z ?_;refine Y Z (aZ hl Z Z Z (e:=55) O Z) Z ?_;refine Y Z (ax Z Z Z) Z ?_;refine af ?_;refine ad ?_;refine aD Z (fun h8=>absurd (bc (a:=4) h8) oM) (fun h8=>?_);refine aG ?_;refine jW ?_;refine s8<|xl ?_;refine ah Z ?_;refine bG ar Z (cQ (cs:=[.az]) O O) (fun _=>Z) (fun V b1 ar=>?_);refine af ?_;refine jW ?_;refine s8<|s8<|xl ?_;refine ah Z ?_;refine Y Z (aq Z) Z ?_;refine cM Z (aV Z Z Z O) (fun _=>Z) (Oq F hl B ar) ?_;rintro _ V ⟨K1,pl,pc,cv,rfl,j,T,W,aa,ar⟩;refine af ?_;refine jW ?_;refine HJ<|EJ ar Z O fun bm bl V ar=>?_;refine(Qf F (hl.mono j fun _ _ h=>h.mono j) B aa w3 T W (I:=Qy bl bm b1 _ L) (fun K' M acc p b2 L' V hle A hb hp ar=>?_) ⟨[],.az,[],[],.inl ⟨Z,Z,Z⟩,.nil,Z⟩ ar).mono fun _ V ⟨L',⟨us,u,O1,Q,S,A,hL⟩,ar⟩=>?_
 ·obtain⟨us,u,O1,Q,S,A,rfl⟩:=A;replace ar:=ar.perm (Fh M (O1++Q) L _ _ _ _);refine HL ar Z ?_;refine ah Z ?_;refine Y Z (ak Z) Z ?_;refine af ?_;refine⟨Z,_,ar,fun V ar=>?_⟩;refine aJ ?_;refine aU (l:=[(0,[]),(1,[]),(2,[0]),(3,[]),(4,[]),(5,[])]) O O ?_;refine ai Z Z (aw Z (ar.get 1 Z) O Z) Z ?_;refine ai Z Z (aq Z) Z ?_;obtain⟨X,ar,hX⟩:=ar.named
  have hz:bL (K'.g9 X) 1 eu p (.slice b2 0 l.length (.known l.length)):=by
   rw[<-hX];exact xD (b:=b2) (e:=3) (.inr (.tail _ (.tail _<|List.mem_append_right _ (.head _)))) hp oM
  rw[<-List.append_nil X] at ar;refine fB Z Z (aV Z Z Z O) (fun _=>Z) (Ma F hz oM ar.keeps) ?_;rintro ab V ⟨ac,hM14,C⟩;replace ar:=ar.L8 C;rw[List.append_nil] at ar;subst hX;refine⟨bx (bC Z Z Z Z Z (aw Z (ar.get 1 Z) O Z) (S.jE (K:=fun _ _=>False)).eh) ba,?_⟩;refine qc ar Z Z (bP (e:=36) (m:=1) (z:=[.az]) (cs:=[_]) O O O O<|bj Z Z hM14.leaf.1 Z bF) (fun _=>Z) (fun V an ar=>?_);replace ar:=ar.perm (Iw ..);refine mu (R:=RV) (m:=1) (e:=36) S ar (di (m:=1) Z ⟨Z,hM14.leaf⟩) RV.leaf (by have:=A.length;simp;omega) Z Z Z Z Z Z Z Z (fun _=>Z) (fun V u16 am hO16 ar=>?_);refine⟨ba,?_⟩;refine gD ar (.dN (.there .here)) Z Z (aR Z Z hO16.leaf.1 (ar.bR.get 1 Z) (m:=1) O Z (Nat.le_of_ble_eq_true Z) (aj hO16.leaf.2 aI) (cells':=[_]) Z) Z (fun V ar=>?_);refine⟨ba,?_⟩;refine aX ?_;refine aC ?_;exact⟨Z,_,ar.perm List.perm_middle,fun V ar=>⟨Z,_,⟨us++[ab],u16,am,ac++Q,hO16,.snoc A hM14,Z⟩,ar.perm<|Fg ..⟩⟩
 subst hL;refine⟨K1,_,ar,fun V ar=>⟨Z,jW<|xl ?_⟩⟩;refine al ?_;refine ah Z ?_;refine Y Z (aw Z (ar.get 1 Z) O Z) Z ?_;refine Y Z (ak Z) Z ?_;refine Y Z (ak Z) Z ?_;refine af ?_;refine ad ?_;refine aF ?_;refine HF (bm:=bm) ar fun V ar=>⟨_,vT Z Z Z,?_⟩
 obtain⟨K2,E,w,ar⟩:=ar.pop.cq (M:=O1++Q);exact⟨K2,u,Z,KP.le_trans j E,Fw A S (fun e he=>w e (List.mem_append_right _ he)) (fun e he=>w e (List.mem_append_left _ he)),ar⟩
end Go.Ev
namespace Go.Ev
variable [Env]
structure BI (g g':XG) (θ:Nat->Nat):Prop where
 lt:∀i,i<nV g->θ i<nV g'
 inj:∀i j,i<nV g->j<nV g->θ i=θ j->i=j
 ev:∀i,i<nV g->fg g' (θ i)=fg g i
 po:∀i j,i<nV g->j<nV g->rR g' (θ i) (θ j)=rR g i j
 from_:∀i,i<nV g->cN (fg g i)=true->∃f,f<nV g/\iG g i= .ofNat f/\iG g' (θ i)= .ofNat (θ f)
 place:∀i,i<nV g->oQ g' (θ i)=oQ g i
section
variable {g g':XG} {θ:Nat->Nat} (h:BI g g' θ)
include h
theorem BI.eq (i j:Nat) (hi:i<nV g) (hj:j<nV g):H (.ofNat (θ i)) (.ofNat (θ j))=H (.ofNat i) (.ofNat j):=by
 rw[cW,cW,Bool.eq_iff_iff,decide_eq_true_iff,decide_eq_true_iff];constructor
 ·intro e;rw[h.inj i j hi hj<|iJ_ e]
 intro e;rw[iJ_ e]
theorem BI.OE (i:Nat) (hi:i<nV g) (j:cN (fg g i)=true):(iG g i).toNat<nV g/\(iG g' (θ i)).toNat=θ (iG g i).toNat:=by
 obtain⟨f,h1,m,u⟩:=h.from_ i hi j;rw[m,u];exact⟨h1,Z⟩
theorem BI.rf (i j:Nat) (hi:i<nV g) (hj:j<nV g) (m:BF g i j=true):BF g' (θ i) (θ j)=true:=by
 unfold BF at m⊢;cases hb:cN (fg g j) with
 | false=>
  have:iG g j= -1:=by unfold iG;rw[hb];rfl
  rw[this] at m;cases m
 | true=>
  obtain⟨f,h1,u,w⟩:=h.from_ j hj hb;rw[u] at m;rw[w,h.eq f i h1 hi];exact m
theorem BI.co (i j:Nat) (hi:i<nV g) (hj:j<nV g):Ao g' (θ i) (θ j)=Ao g i j:=by
 unfold Ao;rw[h.ev i hi,h.ev j hj,h.place i hi,h.place j hj]
theorem BI.fr (i j:Nat) (hi:i<nV g) (hj:j<nV g):DT g' (θ i) (θ j)=DT g i j:=by
 unfold DT;rw[h.eq i j hi hj,h.ev i hi];cases m:cN (fg g i) with
 | false=>rfl
 | true=>
  obtain⟨h1,u⟩:=h.OE i hi m;rw[u,h.co _ _ h1 hj]
theorem BI.tc {R R':Rn} (m:∀i j,i<nV g->j<nV g->R i j=true->R' (θ i) (θ j)=true) {i j:Nat} (u:Tc (nV g) R i j):Tc (nV g') R' (θ i) (θ j):=by
 induction u with
 | one hi hj w=>exact .one (h.lt _ hi) (h.lt _ hj) (m _ _ hi hj w)
 | step _ _ h1 z=>exact .step h1 z
theorem BI.sM {R R':Rn} (m:∀i j,i<nV g->j<nV g->R i j=true->R' (θ i) (θ j)=true) (i j:Nat) (u:Go.Ev.sM (nV g) R i j=true):Go.Ev.sM (nV g') R' (θ i) (θ j)=true:=wD.2 (h.tc m<|wD.1 u)
theorem BI.sq {w k:Nat} (hw:w<nV g) (m:Sq g w k):k<nV g/\Sq g' (θ w) (θ k):=by
 induction m with
 | base=>exact⟨hw,.base⟩
 | step hi hk hf _ ih=>
  refine⟨hi,.step (h.lt _ hi) (by rw[h.ev _ hi];exact hk) (f:=θ _) ?_ ih.2⟩;obtain⟨f,h1,j,u⟩:=h.from_ _ hi (pS hk);rw[hf] at j;rw[u,iJ_ j]
theorem BI.sw (i j:Nat) (E:LW g i j=true):LW g' (θ i) (θ j)=true:=by
 obtain⟨w,b,hw,hb,hi,hj,z,m,A,B⟩:=Bl.1 E;refine Bl.2 ⟨θ w,θ b,h.lt w hw,h.lt b hb,h.lt i hi,h.lt j hj,?_,?_,?_,?_⟩
 ·unfold pf at z⊢;rw[h.ev w hw];exact z
 ·unfold kT at m⊢;rw[h.ev b hb];cases u:cN (fg g b) with
  | false=>rw[u] at m;cases m
  | true=>
   rw[u] at m;cases C:H (fg g b).order 1 with
   | true=>rw[C] at m;cases m
   | false=>
    rw[C] at m;obtain⟨h1,F⟩:=h.OE b hb u;show uT g' (θ w) (iG g' (θ b)).toNat=true;rw[F];exact tK.2 (h.sq hw<|tK.1 m).2
 ·unfold jH Fs at A⊢;rw[h.ev i hi,h.eq i w hi hw,h.po i w hi hw];exact A
 unfold fP Eb at B⊢;rw[h.ev j hj,h.eq j b hj hb,h.po b j hb hj];exact B
theorem BI.or {A A' B B':Rn} (u:∀i j,i<nV g->j<nV g->A i j=true->A' (θ i) (θ j)=true) (w:∀i j,i<nV g->j<nV g->B i j=true->B' (θ i) (θ j)=true) (i j:Nat) (hi:i<nV g) (hj:j<nV g) (m:qa [A,B] i j=true):qa [A',B'] (θ i) (θ j)=true:=by
 unfold qa at m⊢;simp only[List.any_cons,List.any_nil,Bool.or_false,Bool.or_eq_true] at m⊢;rcases m with h1 | h1
 ·exact .inl<|u i j hi hj h1
 exact .inr<|w i j hi hj h1
theorem BI.round {R R':Rn} (m:∀i j,i<nV g->j<nV g->R i j=true->R' (θ i) (θ j)=true) (hb:bh (b9 (nw (nV g) R) 0)=true):bh (b9 (nw (nV g') R') 0)=true:=by
 unfold nw at hb⊢;rw[xI] at hb⊢;have hb:(List.range<|nV g).any (fun i=>Go.Ev.sM (nV g) R i i)=true:=by revert hb;cases (List.range<|nV g).any (fun i=>Go.Ev.sM (nV g) R i i)<;>simp[bh]
 have:(List.range<|nV g').any (fun i=>Go.Ev.sM (nV g') R' i i)=true:=by
  obtain⟨i,hi,u⟩:=List.any_eq_true.1 hb;exact List.any_eq_true.2 ⟨θ i,List.mem_range.2<|h.lt i<|List.mem_range.1 hi,h.sM m i i u⟩
 rw[this];rfl
theorem BI.hb (i j:Nat) (_:i<nV g) (_:j<nV g) (m:EU g i j=true):EU g' (θ i) (θ j)=true:=by
 unfold EU at m⊢;exact h.sM (h.or (fun i j hi hj m=>by rw[h.po i j hi hj];exact m) fun i j _ _ m=>h.sw i j m) i j m
theorem BI.QM (i j:Nat) (_:i<nV g) (_:j<nV g) (m:sZ g i j=true):sZ g' (θ i) (θ j)=true:=by
 unfold sZ at m⊢;refine h.sM (fun i j hi hj m=>?_) i j m;unfold qa at m⊢;simp only[List.any_cons,List.any_nil,Bool.or_false,Bool.or_eq_true] at m⊢;rcases m with h1 | h1 | h1
 ·exact .inl<|h.rf i j hi hj h1
 ·exact .inr (.inl (by rw[h.co i j hi hj];exact h1))
 exact .inr (.inr (by rw[h.fr i j hi hj];exact h1))
theorem BI.Tl (hb:MY g=true):MY g'=true:=by
 unfold MY at hb⊢;obtain⟨⟨a,b⟩,hm,w⟩:=List.any_eq_true.1 hb;obtain⟨m,j,u⟩:=nX.1 hm;unfold ug mH at u;rw[bA_] at u;refine List.any_eq_true.2 ⟨(θ a,θ b),nX.2 ⟨h.lt a m,h.lt b j,?_⟩,?_⟩
 ·unfold ug mH;rw[bA_];exact⟨h.hb a b m j u.1,h.QM b a j m u.2⟩
 show bh (H (.ofNat (θ a)) (.ofNat (θ b)))=true;rw[h.eq a b m j];exact w
theorem BI.QE {x:Int} (hu:bh (b9 (DF g) 0)=true->bh (b9 (DF g') 0)=true) (hb:eI g x=true):eI g' x=true:=by
 unfold eI at hb⊢;cases u:H x 2 with
 | true=>rw[u] at hb;exact hu hb
 | false=>
 rw[u] at hb;cases w:H x 3 with
 | true=>rw[w] at hb;exact h.round (fun i j hi hj m=>by
   unfold GN at m⊢;exact h.sM (h.or (fun i j hi hj m=>by rw[h.po i j hi hj];exact m) h.rf) i j m) hb
 | false=>
 rw[w] at hb;cases h4:H x 4 with
 | true=>rw[h4] at hb;exact h.round h.hb hb
 | false=>
 rw[h4] at hb;cases z:H x 6 with
 | true=>
  rw[z] at hb;refine h.round (fun i j hi hj m=>?_) hb;unfold Jl qa at m⊢;simp only[List.any_cons,List.any_nil,Bool.or_false,Bool.or_eq_true] at m⊢;rcases m with h1 | h1 | h1 | h1
  ·exact .inl (by rw[h.po i j hi hj];exact h1)
  ·exact .inr (.inl<|h.rf i j hi hj h1)
  ·exact .inr (.inr (.inl (by rw[h.co i j hi hj];exact h1)))
  exact .inr (.inr (.inr (by rw[h.fr i j hi hj];exact h1)))
 | false=>
 rw[z] at hb;cases h5:H x 5 with
 | true=>rw[h5] at hb;exact h.Tl hb
 | false=>rw[h5] at hb;cases hb
end
section
variable {p q:Nat->Nat} {g:XG}
theorem AF {n:Nat} (h:Pm n p q) {id:cY} (j:nG n id):∀{l:List cY} {k:Nat},(∀x∈l,nG n x)->ew (fun x:cY=>bQ x.ints (jb p id).ints) (l.map<|jb p) k=ew (fun x:cY=>bQ x.ints id.ints) l k
 | [],_,_=>rfl
 | x::l,k,hl=>by
  have e:bQ (jb p x).ints (jb p id).ints=bQ x.ints id.ints:=by
   rw[Bool.eq_iff_iff,cz,cz];constructor
   ·intro e;rw[wz h (hl x<|mS_ ..) j<|jM e]
   intro e;rw[jM e]
  show(bif bQ (jb p x).ints (jb p id).ints then Int.ofNat k else ew _ (l.map<|jb p) (k+1))=bif bQ x.ints id.ints then Int.ofNat k else ew _ l (k+1);rw[e,AF h j fun y m=>hl y (mC_ _ m)]
theorem nR {n:Nat} (_h:Pm n p q) {id:cY} (j:nG n id):H (jb p id).cy 0=H id.cy 0/\b9 0 (jb p id).cy=b9 0 id.cy:=by
 rcases j.case with ⟨k,rfl⟩ | ⟨t,k,ht,rfl⟩
 ·exact⟨Z,Z⟩
 refine⟨Z,?_⟩;rw[oJ];show b9 (.ofNat 0) (.ofNat (p t+1))=b9 (.ofNat 0) (.ofNat (t+1));rw[jO,jO];simp
theorem KL (j:dO g) (h:Pm g.threads.length p q) {t:Nat} {k:Int} (m:t<g.threads.length):Jb (fA p q g) (jb p ⟨.ofNat (t+1),k⟩)=jb p (Jb g ⟨.ofNat (t+1),k⟩):=by
 rw[oJ];unfold Jb;show((((fA p q g).from_[p t]?).getD [])[k.toNat]?).getD ⟨0,0⟩=jb p ((((g.from_[t]?).getD [])[k.toNat]?).getD ⟨0,0⟩);rw[xU h j.from_ m];obtain⟨f,hf⟩:=cL (show t<g.from_.length by rw[j.from_];exact m);rw[hf];show((f.map<|jb p)[k.toNat]?).getD ⟨0,0⟩=jb p ((f[k.toNat]?).getD ⟨0,0⟩);rw[gM_];cases f[k.toNat]?<;>rfl
theorem CW (ln:Nat):(fA p q g).order[ln]?=(g.order[ln]?).map (·.map<|jb p):=by show(g.order.map _)[ln]?=_;rw[gM_]
theorem pQ {i:Nat} (hi:i<nV g):∃e,dn g (fM g i)=some e/\fg g i=e/\0<=(fM g i).index/\nG g.threads.length (fM g i):=by
 rcases jL hi with ⟨x,v,h1,j,m⟩ | ⟨t,k,row,e,h1,j,m,h4⟩
 ·have:dn g (fM g i)=some ⟨2,.ofNat x,1,0,v⟩:=by
   rw[h1];show(g.init[x]?).map _=_;rw[j];rfl
  exact⟨_,this,m,by rw[h1];exact Int.natCast_nonneg x,s7 this⟩
 have:dn g (fM g i)=some e:=by rw[h1,gh,j];exact m
 exact⟨_,this,h4,by rw[h1];exact Int.natCast_nonneg k,s7 this⟩
theorem NB (w:dO g) (h:Pm g.threads.length p q):∃θ,BI g (fA p q g) θ:=by
 have hex:∀i,∃j,i<nV g->j<nV (fA p q g)/\fM (fA p q g) j=jb p (fM g i):=by
  intro i
  by_cases hi:i<nV g
  ·obtain⟨e,h1,_,z,h4⟩:=pQ hi;have h5:dn (fA p q g) (jb p<|fM g i)=some e:=by rw[uH h h4];exact h1
   have G:0<=(jb p<|fM g i).index:=by
    rcases h4.case with ⟨k,e⟩ | ⟨t,k,_,e⟩<;>rw[e] at z⊢<;>exact z
   obtain⟨j,hj⟩:=gO_ (AE h5 G);have hlt:=(gA.1 hj).1;refine⟨j,fun _=>⟨hlt,?_⟩⟩;have:=eJ (g:=fA p q g) hlt;rw[hj] at this;exact(Option.some.inj this).symm
  exact⟨0,fun h=>absurd h hi⟩
 let θ:Nat->Nat:=fun i=>Classical.choose (hex i)
 have hθ:∀i,i<nV g->θ i<nV (fA p q g)/\fM (fA p q g) (θ i)=jb p (fM g i):=fun i=>Classical.choose_spec (hex i)
 have m:∀i,i<nV g->fg (fA p q g) (θ i)=fg g i:=fun i hi=>by
  obtain⟨_,_,_,_,h4⟩:=pQ hi;unfold fg;rw[(hθ i hi).2,uH h h4]
 have u:∀i j,i<nV g->j<nV g->θ i=θ j->i=j:=fun i j hi hj e=>by
  obtain⟨_,_,_,_,h4⟩:=pQ hi;obtain⟨_,_,_,_,A⟩:=pQ hj;have e1:jb p (fM g i)=jb p (fM g j):=by rw[<-(hθ i hi).2,<-(hθ j hj).2,e]
  have e2:=wz h h4 A e1;have a1:=eJ hi;have a2:=eJ hj;rw[<-e2] at a2;exact AD a1 a2
 refine⟨θ,fun i hi=>(hθ i hi).1,u,m,fun i j hi hj=>?_,fun i hi B=>?_,fun i hi=>?_⟩
 ·obtain⟨_,_,_,_,h4⟩:=pQ hi;obtain⟨_,_,_,_,A⟩:=pQ hj;unfold rR;rw[(hθ i hi).2,(hθ j hj).2,(nR h h4).1,(nR h h4).2,(nR h A).2];rcases h4.case with ⟨k,e⟩ | ⟨t,k,I,e⟩<;>rcases A.case with ⟨k',e'⟩ | ⟨t',k',C,e'⟩<;>rw[e,e']
  ·rfl
  ·rfl
  ·rfl
  rw[oJ,oJ];dsimp only
  have:H (.ofNat (p t+1)) (.ofNat (p t'+1))=H (.ofNat (t+1)) (.ofNat (t'+1)):=by
   rw[cW,cW,Bool.eq_iff_iff,decide_eq_true_iff,decide_eq_true_iff];constructor
   ·intro e;have e:=iJ_ e;have:q (p t)=q (p t'):=by rw[show p t=p t' by omega]
    rw[h.qp t I,h.qp t' C] at this;rw[this]
   intro e;have e:=iJ_ e;rw[show t=t' by omega]
  rw[this]
 ·obtain⟨f,h1,K,z,h4,h5,G⟩:=td w hi B;refine⟨f,h1,K,?_⟩;have E:cN (fg (fA p q g) (θ i))=true:=by rw[m i hi];exact B
  obtain⟨f',L,M,Q,_⟩:=td (lQ w h) (hθ i hi).1 E;rw[M];refine congrArg Int.ofNat ?_
  have F:fM (fA p q g) f'=fM (fA p q g) (θ f):=by
   rw[Q,(hθ i hi).2,(hθ f h1).2,z];rcases jL hi with ⟨x,v,_,_,R⟩ | ⟨t,k,row,e,e1,e2,_,_⟩
   ·rw[R] at B;exact Bool.noConfusion (show false=true from B)
   rw[e1];exact KL w h (gA.1 e2).1
  have a1:=eJ L;have a2:=eJ (hθ f h1).1;rw[<-F] at a2;exact AD a1 a2
 obtain⟨_,_,_,_,h4⟩:=pQ hi;unfold oQ;rw[(hθ i hi).2,(nR h h4).1,m i hi]
 have:ew (fun x:cY=>bQ x.ints (jb p<|fM g i).ints) (Iq (fA p q g) (fg g i).loc) 0=ew (fun x:cY=>bQ x.ints (fM g i).ints) (Iq g (fg g i).loc) 0:=by
  unfold Iq;rw[CW];cases S:g.order[(fg g i).loc.toNat]? with
  | none=>rfl
  | some r=>exact AF h h4 fun x hx=>jd w S hx
 rw[this]
theorem zH (j:dO g) (h:Pm g.threads.length p q) (loc:Int):dv (fA p q g) loc=(dv g loc).map (jb p)/\∀x∈dv g loc,nG g.threads.length x:=by
 unfold dv;rw[ef.2 j,ef.2<|lQ j h];simp only[dL,cond_true];cases hl:b9 loc 0 with
 | true=>exact⟨Z,fun x hx=>by cases hx⟩
 | false=>
  simp only[cond_false];rw[CW];cases m:g.order[loc.toNat]? with
  | none=>exact⟨Z,fun x hx=>by cases hx⟩
  | some r=>
   refine⟨Z,fun x hx=>?_⟩;rcases mQ_.1 hx with rfl | hx
   ·exact⟨0,Z,Nat.zero_le _⟩
   exact jd j m hx
theorem CX (m:dO g) (h:Pm g.threads.length p q) {id:cY} (j:nG g.threads.length id):nv (fA p q g) (jb p id)=nv g id:=by
 unfold nv;rw[uH h j,(zH m h _).1,AF h j (zH m h _).2]
theorem PJ (j:dO g) (h:Pm g.threads.length p q) (hb:bh (b9 (DF g) 0)=true):bh (b9 (DF<|fA p q g) 0)=true:=by
 unfold DF at hb⊢;rw[xI] at hb⊢;have hb:(ij g).any (nJ g)=true:=by revert hb;cases (ij g).any (nJ g)<;>simp[bh]
 have:(ij<|fA p q g).any (nJ<|fA p q g)=true:=by
  obtain⟨id,hm,hb⟩:=List.any_eq_true.1 hb;obtain⟨i,hi⟩:=gO_ hm;have hlt:=(gA.1 hi).1;have m:id=fM g i:=by have:=eJ hlt;rw[hi] at this;exact Option.some.inj this
  obtain⟨e,h1,_,u,h4⟩:=pQ hlt;rw[<-m] at h1 u h4;have h5:dn (fA p q g) (jb p id)=some e:=by rw[uH h h4];exact h1
  have B:0<=(jb p id).index:=by rcases h4.case with ⟨k,e⟩ | ⟨t,k,_,e⟩<;>rw[e] at u⊢<;>exact u
  refine List.any_eq_true.2 ⟨jb p id,AE h5 B,?_⟩;unfold nJ at hb⊢;rw[(nR h h4).1,uH h h4,CX j h h4];rcases h4.case with ⟨k,e⟩ | ⟨t,k,A,e⟩
  ·rw[e] at hb;cases hb
  have w:nG g.threads.length (Jb g id):=by
   rw[e];unfold Jb;show nG _ ((((g.from_[t]?).getD [])[k.toNat]?).getD ⟨0,0⟩);obtain⟨f,hf⟩:=cL (show t<g.from_.length by rw[j.from_];exact A);rw[hf];show nG _ ((f[k.toNat]?).getD ⟨0,0⟩);cases hk:f[k.toNat]? with
   | none=>exact⟨0,Z,Nat.zero_le _⟩
   | some x=>exact wu j hf (gB_ hk)
  have z:Jb (fA p q g) (jb p id)=jb p (Jb g id):=by rw[e];exact KL j h A
  rw[z,CX j h w];exact hb
 rw[this];rfl
theorem CV (j:dO g) (h:Pm g.threads.length p q) {x:Int} (hb:eI g x=true):eI (fA p q g) x=true:=by
 obtain⟨θ,hi⟩:=NB j h;exact hi.QE (PJ j h) hb
theorem PK (j:dO g) (h:Pm g.threads.length p q) (m:Int):uZ m (fA p q g)=uZ m g:=by
 unfold uZ;rw[ef.2 j,ef.2<|lQ j h]
 have:∀x,eI (fA p q g) x=eI g x:=fun x=>by
  rw[Bool.eq_iff_iff];refine⟨fun hb=>?_,CV j h⟩;have h':Pm (fA p q g).threads.length q p:=by rw[iR];exact h.L5
  have:=CV (lQ j h) h' hb;rw[CS j h] at this;exact this
 rw[show eI (fA p q g)=eI g from funext this]
end
end Go.Ev
namespace Go.Ev
variable [Env]
open Go.Proofs
set_option maxRecDepth 4000
set_option maxHeartbeats 8000000
theorem Mc {G:Cx} (M:Plain G) {K:KP} {l:List Int} {v:U} (h:bL K 1 eu l v) (x:Int) {V:aE} {L:Own} (ar:D V K L):
  bu Tryz.prog G 50 [v,.int .i64 x] V fun u V'=>u= .int .i64 (ew (fun y=>H x y) l 0)/\D V' K L:=by
 refine bn M Tryz.func50 Z (t:=(PT.leaf.put (some (v)) 0).put (some (.int .i64 x)) 1) (by rfl) ?_;refine al ?_;refine ah Z ?_;refine Y Z (ak Z) Z ?_;refine af ?_;refine ad ?_;refine al ?_;refine al ?_;refine ah Z ?_;refine Y Z (aq Z) Z ?_;refine Y Z (aZ h Z Z Z (e:=3) O Z) Z ?_;refine Y Z (aq Z) Z ?_;refine af ?_;refine ad ?_;refine aJ ?_;obtain⟨LL1,ar,hLL1⟩:=ar.named;refine bf [4,5,8,9,10,11,12,13,14,15,16,17,18] (fun j t V=>∃(i:Nat),j+i=l.length/\ew (fun y=>H x y) l 0=ew (fun y=>H x y) (l.drop i) i/\t.get 8=some (.int .i64 (.ofNat i))/\D V K LL1) (l.length) ⟨0,Z,Z,Z,ar⟩ ?_;clear ar;intro Q t V an R;obtain⟨i,hj,he,A,ar⟩:=R;subst hLL1;replace an:=an.bH Z Z;obtain⟨o4,o5,S,o9,am,ao,ap,a0,an⟩:=an;replace an:=an.jD Z;obtain⟨a1,a2,a3,a4,an⟩:=an;replace an:=an.dz Z;obtain⟨a5,an⟩:=an;obtain rfl:=an.nil;clear an;replace A:S=some _:=A;subst A;refine al ?_;refine ah Z ?_;refine Y Z (ax Z Z Z) Z ?_;refine af ?_;refine ad ?_;refine al ?_;refine aD Z (fun I=>?_) (fun I=>?_)
 ·refine aG ?_;refine ad ?_;refine al ?_;refine aJ ?_;refine al ?_;refine ah Z ?_;refine Y Z (aq Z) Z ?_;refine Y Z (ak Z) Z ?_;refine af ?_;refine ad ?_;refine al ?_;refine ah Z ?_;refine Y Z (aq Z) Z ?_;refine Y Z (aq Z) Z ?_;refine Y Z (aq Z) Z ?_;obtain⟨C,w,aa⟩:=cK I;refine bT (e:=3) (m:=1) h w Z Z O O Z Z (fun _=>Z) (fun a6 ab E ac F=>?_);obtain rfl:=F;refine Y Z (aN ar E Z O Z) Z ?_;refine Y Z (ax Z Z Z) Z ?_;refine af ?_;refine ad ?_;refine aD Z (fun B=>?_) (fun B=>?_)
  ·refine al ?_;refine ah Z ?_;refine Y Z (aq Z) Z ?_;refine Y Z (ak Z) Z ?_;refine af ?_;refine ad ?_;refine aF ?_;refine aK<|aA<|bD<|aK<|aA (?_);exact aB Z Z ⟨congrArg (U.int .i64) (by symm;rw[he,cu w];show(bif H x C then _ else _)=_;rw[B];rfl),ar⟩
  refine aG ?_;refine aC ?_;refine ad ?_;refine ah Z ?_;refine Y Z (ax Z Z Z) Z ?_;refine Y Z (aq Z) Z ?_;refine af ?_;refine aH ⟨Q-1,by omega,(by(iterate 24 refine aT.put Z ?_);exact aT.refl _ _),i+1,by omega,by rw[he,cu w];show(bif H x C then _ else _)=_;rw[B];rfl,congrArg (fun z=>some (U.int .i64 z))<|aW (by have:=h.bO;omega),ar⟩
 refine bg ?_;refine aO ?_;refine aS ?_;refine aL ?_;refine ad ?_;refine al ?_;refine ah Z ?_;refine Y Z (ak Z) Z ?_;refine af ?_;refine ad ?_;refine aF ?_;exact aB Z Z ⟨congrArg (U.int .i64) (by symm;rw[he,eF<|bA I];rfl),ar⟩
theorem DG {G:Cx} (j:Plain G) {K:KP} {l:List Int} {v:U} (h:bL K 1 eu l v) (x:Int) {V:aE} {L:Own} (ar:D V K L):
  bu Tryz.prog G 25 [v,.int .i64 x] V fun u V'=>u= .bool (l.any fun y=>H x y)/\D V' K L:=by
 refine bn j Tryz.func25 Z (t:=(PT.leaf.put (some (v)) 0).put (some (.int .i64 x)) 1) (by rfl) ?_;refine al ?_;refine ah Z ?_;refine Y Z (ak Z) Z ?_;refine af ?_;refine ad ?_;refine al ?_;refine ah Z ?_;refine Y Z (aq Z) Z ?_;refine Y Z (aq Z) Z ?_;refine bz Z (aV Z Z Z O) (fun _=>Z) (Mc j h x ar) (fun V ar=>?_);refine Y Z (ax Z Z Z) Z ?_;refine Y Z (ak Z) Z ?_;refine af ?_;refine ad ?_;refine aF ?_;exact aB Z Z ⟨congrArg U.bool<|xH _ _,ar⟩
theorem uY {α:Type} {l:List α} {i:Nat} {x:α} (h:l[i]?=some x):l.take (i+1)=l.take i++[x]:=by rw[List.take_add_one,h];rfl
def BE (ps:List Int) (id:cY):cY:=bif b9 0 id.cy then⟨(ps[id.cy.toNat-1]?).getD 0,id.index⟩ else id
def Qw (n:Nat) (id:cY):Prop:=b9 0 id.cy=true->∃t:Nat,id.cy= .ofNat (t+1)/\t<n
theorem He {G:Cx} (hG:Plain G) {K:KP} {ps:List Int} {pv pp:U} (hp:bL K 1 eu ps pv) (am:eL K pp [pv]) {l:List cY} {v:U} (h:bL K 2 nH l v) (ao:∀x∈l,Qw ps.length x) (a8:l.length<=1000) {V:aE} {L:Own} (ar:D V K L):
  bu Tryz.prog G 51 [v,pp] V fun u V'=>∃M,cZ 2 51 nH (l.map<|BE ps) u M/\D V' K (M++L):=by
 refine bn hG Tryz.func51 Z (t:=(PT.leaf.put (some (v)) 0).put (some (pp)) 1) (by rfl) ?_;refine al ?_;refine ah Z ?_;refine Y Z (ak Z) Z ?_;refine af ?_;refine ad ?_;refine al ?_;refine ah Z ?_;refine Y Z (ak Z) Z ?_;refine af ?_;refine ad ?_;refine al ?_;refine al ?_;refine ah Z ?_;refine Y Z (aq Z) Z ?_;refine Y Z (aZ h Z Z Z (e:=51) O Z) Z ?_;refine Y Z (aq Z) Z ?_;refine af ?_;refine ad ?_;refine aJ ?_;refine bf [4,6,9,10,11,12,13,14,15,16,17,18,19,20,21,22,23,24,25,26,27] (fun j t V=>∃(i:Nat) (u:U) (M:Own),(j+i=l.length/\cZ 2 51 nH ((l.take i).map<|BE ps) u M)/\t.get 4=some (u)/\t.get 9=some (.int .i64 (.ofNat i))/\D V K (M++L)) (l.length) ⟨0,.az,[],⟨Z,.inl ⟨Z,Z,Z⟩⟩,Z,Z,ar⟩ ?_;clear ar;intro j3 t V an hI;obtain⟨i,u,M,⟨a9,hO⟩,I,Q,ar⟩:=hI;replace an:=an.bH Z Z;obtain⟨o4,o6,o9,bb,bd,be,bi,bk,an⟩:=an;replace an:=an.bH Z Z;obtain⟨bl,bm,bo,bp,bq,br,bs,bt,an⟩:=an;replace an:=an.jD Z;obtain⟨bv,bw,b0,b2,an⟩:=an;replace an:=an.dz Z;obtain⟨b3,an⟩:=an;obtain rfl:=an.nil;clear an;replace I:o4=some _:=I;subst I;replace Q:o9=some _:=Q;subst Q;refine al ?_;refine ah Z ?_;refine Y Z (ax Z Z Z) Z ?_;refine af ?_;refine ad ?_;refine al ?_;refine aD Z (fun B=>?_) (fun B=>?_)
 ·refine aG ?_;refine ad ?_;refine al ?_;refine aJ ?_;refine al ?_;refine ah Z ?_;obtain⟨w,A,a3⟩:=cK B;refine bT (e:=51) (m:=2) h A Z Z O O Z Z (fun _=>Z) (fun b4 a4 X a5 aa=>?_);obtain rfl:=aa;refine Y Z (bN ar X Z O Z) Z ?_;refine bG ar Z (cQ (cs:=[.int .i64 0,.int .i64 0]) O O) (fun _=>Z) (fun V b1 ar=>?_);refine bZ ar Z (aR Z Z Z (ar.get 0 Z) (m:=2) O Z (Nat.le_of_ble_eq_true Z) (aj Z<|aj Z aI) (cells':=[_,_]) Z) Z (fun V ar=>?_);refine af ?_;refine ad ?_;refine al ?_;refine al ?_;refine ah Z ?_;refine Y Z (av Z (k:=0) O) Z ?_;refine Y Z (aw Z (ar.get 0 Z) O Z) Z ?_;refine Y Z (ax Z Z Z) Z ?_;refine af ?_;refine ad ?_;refine aD Z (fun C=>?_) (fun C=>?_)
  ·refine ah Z ?_;refine Y Z (aN ar am Z O Z) Z ?_;refine Y Z (av Z (k:=0) O) Z ?_;refine Y Z (aw Z (ar.get 0 Z) O Z) Z ?_;obtain⟨S,E,T⟩:=ao _ (gB_ A) C;obtain⟨ap,F⟩:=cL T;refine Y Z (ax (v:=.int .i64 (.ofNat S)) Z Z (by rw[E];exact congrArg (fun z=>some (U.int .i64 z))<|gW (by have:=hp.bO;omega))) Z ?_;refine bT (e:=3) (m:=1) hp F Z Z O O Z Z (fun _=>Z) (fun b5 a6 ab a7 ac=>?_);obtain rfl:=ac;refine Y Z (aN ar ab Z O Z) Z ?_;refine Y Z (av Z (k:=0) O) Z ?_;refine bZ ar Z (aR Z Z Z (ar.get 0 Z) (m:=1) O Z (Nat.le_of_ble_eq_true Z) (aj Z aI) (cells':=[_,_]) Z) Z (fun V ar=>?_);refine af ?_;refine ad ?_;refine ah Z ?_;refine Y Z (aq Z) Z ?_;refine Y Z (aY Z (ar.get 0 Z) (n:=2) (vs:=[_,_]) O (Nat.le_of_ble_eq_true Z) Z) Z ?_;refine fe ar Z (bP (e:=51) (m:=2) (z:=[.int .i64 0,.int .i64 0]) (cs:=[_,_]) O O O O<|bj Z Z Z Z bF) (fun _=>Z) (fun V a0 ar=>?_);replace ar:=ar.perm (List.Perm.cons _ (List.perm_middle.symm));have W:BE ps w=⟨ap,w.index⟩:=by unfold BE;rw[show b9 0 w.cy=true from C];simp only[cond_true];rw[E,show(Int.ofNat (S+1)).toNat-1=S from Z,F];rfl
   refine fH (R:=nH) (m:=2) (e:=51) hO ar (di (m:=2) Z (show nH (BE ps w) _ from by rw[W];rfl)) nH.leaf (by rw[lM_,lT_];simp;omega) Z Z Z Z Z Z Z (fun _=>Z) (fun V a1 a2 hO26 ar=>?_);replace ar:=ar.perm List.perm_middle;replace ar:=ar.pop;refine Y Z (ak Z) Z ?_;refine af ?_;refine aC ?_;refine ad ?_;refine ah Z ?_;refine Y Z (ax Z Z Z) Z ?_;refine Y Z (aq Z) Z ?_;refine af ?_;refine aH ⟨j3-1,(by have:=bc B;omega),(by(iterate 42 refine aT.put Z ?_);exact aT.refl _ _),i+1,_,_,⟨by omega,by rw[uY A,List.map_append];exact hO26⟩,Z,congrArg (fun z=>some (U.int .i64 z))<|aW (by have:=h.bO;omega),ar⟩
  refine aG ?_;refine ad ?_;refine ah Z ?_;refine Y Z (aq Z) Z ?_;refine Y Z (aY Z (ar.get 0 Z) (n:=2) (vs:=[_,_]) O (Nat.le_of_ble_eq_true Z) Z) Z ?_;refine fe ar Z (bP (e:=51) (m:=2) (z:=[.int .i64 0,.int .i64 0]) (cs:=[_,_]) O O O O<|bj Z Z Z Z bF) (fun _=>Z) (fun V a0 ar=>?_);replace ar:=ar.perm (List.Perm.cons _ (List.perm_middle.symm));have W:BE ps w=⟨w.cy,w.index⟩:=by unfold BE;rw[show b9 0 w.cy=false from C];rfl
  refine fH (R:=nH) (m:=2) (e:=51) hO ar (di (m:=2) Z (show nH (BE ps w) _ from by rw[W];rfl)) nH.leaf (by rw[lM_,lT_];simp;omega) Z Z Z Z Z Z Z (fun _=>Z) (fun V a1 a2 hO26 ar=>?_);replace ar:=ar.perm List.perm_middle;replace ar:=ar.pop;refine Y Z (ak Z) Z ?_;refine af ?_;refine aC ?_;refine ad ?_;refine ah Z ?_;refine Y Z (ax Z Z Z) Z ?_;refine Y Z (aq Z) Z ?_;refine af ?_;refine aH ⟨j3-1,(by have:=bc B;omega),(by(iterate 35 refine aT.put Z ?_);exact aT.refl _ _),i+1,_,_,⟨by omega,by rw[uY A,List.map_append];exact hO26⟩,Z,congrArg (fun z=>some (U.int .i64 z))<|aW (by have:=h.bO;omega),ar⟩
 refine bg ?_;refine aO ?_;refine aS ?_;refine aL ?_;refine ad ?_;refine al ?_;refine ah Z ?_;refine Y Z (aq Z) Z ?_;refine Y Z (ak Z) Z ?_;refine af ?_;refine ad ?_;refine aF ?_;exact aB Z Z ⟨M,by rw[<-tL_ (l:=l) (i:=i) (by have:=bA B;omega)];exact hO,ar⟩
section
variable {α:Type} {m:Nat} {R:α->List U->Prop} {rs:List (List α)} {us:List U} {K K':KP}
def Rows (K:KP) (m:Nat) (R:α->List U->Prop) (rs:List (List α)) (us:List U):Prop:=us.length=rs.length/\∀(i:Nat) (r:List α),rs[i]?=some r->∃u,us[i]?=some u/\bL K m R r u
theorem Rows.mono (h:Rows K m R rs us) (hk:KP.le K K'):Rows K' m R rs us:=⟨h.1,fun i r j=>by obtain⟨u,h1,w⟩:=h.2 i r j;exact⟨u,h1,w.mono hk fun _ _ h=>h⟩⟩
theorem Rows.Q2 {n:Nat}:Rows K m R (List.replicate n []) (List.replicate n .az):=⟨by simp,fun i r j=>by
 have h1:=(gA.1 j).1;rw[List.length_replicate] at h1;rw[List.getElem?_replicate,if_pos h1] at j;cases j;exact⟨.az,by rw[List.getElem?_replicate,if_pos h1],.inl ⟨Z,Z⟩⟩⟩
theorem Rows.set (h:Rows K m R rs us) {i:Nat} {r:List α} {u:U} (z:bL K m R r u):Rows K m R (rs.set i r) (us.set i u):=⟨by rw[List.length_set,List.length_set];exact h.1,fun j r' w=>by
 by_cases e:i=j
 ·subst e;have h1:=(gA.1 w).1;rw[List.length_set] at h1;rw[List.getElem?_set_self h1] at w;cases w;exact⟨u,List.getElem?_set_self (by rw[h.1];exact h1),z⟩
 rw[List.getElem?_set_ne e] at w⊢;exact h.2 j r' w⟩
theorem Rows.snoc (h:Rows K m R rs us) {r:List α} {u:U} (A:bL K m R r u):Rows K m R (rs++[r]) (us++[u]):=⟨by rw[lA_,lA_,h.1];rfl,fun j r' w=>by
 by_cases e:j<rs.length
 ·rw[gL_ e] at w;obtain⟨u',h1,z⟩:=h.2 j r' w;exact⟨u',by rw[gL_ (by rw[h.1];exact e)];exact h1,z⟩
 have h1:=(gA.1 w).1;rw[lA_] at h1;have z:j=rs.length:=by simp only[List.length_singleton] at h1;omega
 subst z;rw[gR_<|nR_ _,Nat.sub_self] at w;cases w;exact⟨u,by rw[gR_ (by rw[h.1];exact nR_ _),h.1,Nat.sub_self];rfl,A⟩⟩
theorem Rows.jK (h:Rows K m R rs us) {b e n:Nat} {c:uc} (hk:K b (.row us e false)) (w:us.length=n) (hc:c= .known n∨c= .upto 1) (hl:n<=1048576):bL K 1 (RL K m R) rs (.slice b 0 n c):=by
 subst w;refine .inr ⟨b,0,c,us,e,false,by rw[h.1],?_,hk,by rw[h.1];omega,by rw[<-h.1];omega,fun i r z=>?_⟩
 ·rcases hc with rfl | rfl
  ·exact .inr ⟨_,by rw[h.1],nR_ _⟩
  exact .inl Z
 obtain⟨u,h1,A⟩:=h.2 i r z;obtain⟨j,rfl⟩:=gA.1 h1;refine⟨us[i],?_,A⟩;rw[show 0+i*1=i from by omega,List.drop_eq_getElem_cons j];rfl
theorem P4 {E:Nat} {u:U} {O_:Own} (h:Rows K m R rs us) (w:cZ 1 E RV us u O_) (z:∀e∈O_,K e.1 e.2):bL K 1 (RL K m R) rs u:=by
 by_cases j:us= []
 ·have h1:rs= []:=eN_ (by rw[<-h.1,j];rfl);subst j;subst h1;rcases w with ⟨_,rfl,_⟩ | ⟨b,c,cells,e,rfl,rfl,h3,h4,h5,A⟩
  ·exact .inl ⟨Z,Z⟩
  refine .inr ⟨b,0,c,cells,e,false,Z,?_,z _ (.head _),by simp,by simp,fun i x hx=>by simp at hx⟩;rcases h5 with rfl | ⟨rfl,_⟩
  ·exact .inr ⟨_,Z,nR_ _⟩
  exact .inl Z
 obtain⟨b,c,e,rfl,rfl,h5,A⟩:=Bc w j;exact h.jK (z _ (.head _)) Z (h5.imp id And.left) A
end
def E6 {α:Type} (q:Nat->Nat) (rows:List (List α)) (n i:Nat):List (List α):=(List.range n).map fun j=>if q j<i then(rows[q j]?).getD [] else []
theorem CU {α:Type} {q:Nat->Nat} {rows:List (List α)} {n:Nat}:E6 q rows n 0=List.replicate n []:=by
 unfold E6;refine List.eq_replicate_iff.2 ⟨by simp,fun b hb=>?_⟩;obtain⟨j,_,rfl⟩:=List.mem_map.1 hb;exact if_neg<|nZ_ _
theorem CT {α:Type} {p q:Nat->Nat} {rows:List (List α)} {n i:Nat} {r:List α} (h:Pm n p q) (hi:i<n) (u:rows[i]?=some r):E6 q rows n (i+1)=(E6 q rows n i).set (p i) r:=by
 unfold E6;refine List.ext_getElem? fun j=>?_
 by_cases hj:j<n
 ·rw[gM_,List.getElem?_range hj]
  by_cases e:p i=j
  ·subst e;rw[List.getElem?_set_self (by simpa using h.lt i hi)];show some (if q (p i)<i+1 then(rows[q<|p i]?).getD [] else [])=_;rw[h.qp i hi,if_pos<|Nat.lt_succ_self i,u];rfl
  rw[List.getElem?_set_ne e,gM_,List.getElem?_range hj];show some (if q j<i+1 then _ else _)=some (if q j<i then _ else _);have aa:q j≠i:=fun w=>e (by rw[<-w,h.pq j hj])
  by_cases hq:q j<i
  ·rw[if_pos hq,if_pos oM]
  rw[if_neg hq,if_neg oM]
 rw[gN_ (by simp;omega),gN_ (by simp;omega)]
theorem Gz {α:Type} {p q:Nat->Nat} {rows:List (List α)} {n:Nat} (h:Pm n p q):E6 q rows n n=(List.range n).map fun j=>(rows[q j]?).getD []:=by
 unfold E6;exact List.map_congr_left fun j hj=>by rw[if_pos<|h.Qq j<|List.mem_range.1 hj]
theorem KK {n:Nat} {p q:Nat->Nat} {ps:List Int} (h:Pm n p q) (j:∀i,i<n->ps[i]?=some (.ofNat (p i+1))) {id:cY} (u:nG n id):BE ps id=jb p id:=by
 rcases u.case with ⟨k,rfl⟩ | ⟨t,k,w,rfl⟩
 ·rfl
 unfold BE;rw[show b9 0 (Int.ofNat (t+1))=true from by rw[show(0:Int)= .ofNat 0 from Z,jO];simp];show(⟨(ps[t]?).getD 0,k⟩:cY)=_;rw[j t w];rfl
theorem Gn {n:Nat} {id:cY} (j:nG n id):Qw n id:=fun hl=>by
 rcases j.case with ⟨k,rfl⟩ | ⟨t,k,u,rfl⟩
 ·cases hl
 exact⟨t,Z,u⟩
theorem Ii {g:XG} {p q:Nat->Nat} {ps:List Int} (z:dO g) (h:Pm g.threads.length p q) (u:∀i,i<g.threads.length->ps[i]?=some (.ofNat (p i+1))):
  fA p q g=⟨g.init,E6 q g.threads g.threads.length g.threads.length,E6 q (g.from_.map (·.map<|BE ps)) g.threads.length g.threads.length,g.order.map (·.map<|BE ps)⟩:=by
 rw[Gz h,Gz h]
 have e1:g.order.map (·.map<|BE ps)=g.order.map (·.map<|jb p):=List.map_congr_left fun r A=>by
  obtain⟨ln,w⟩:=gO_ A;exact List.map_congr_left fun x hx=>KK h u (jd z w hx)
 have B:((List.range g.threads.length).map fun j=>((g.from_.map (·.map<|BE ps))[q j]?).getD [])=(List.range g.threads.length).map fun j=>((g.from_[q j]?).getD []).map (jb p):=List.map_congr_left fun j hj=>by
  rw[gM_];cases hf:g.from_[q j]? with
  | none=>rfl
  | some f=>exact List.map_congr_left fun x hx=>KK h u (wu z hf hx)
 rw[e1,B];rfl
theorem Ol {G:Cx} (X:Plain G) {K:KP} {l1 l2:List Int} {S T:U} {V:aE} {L:Own} (ar:D V K L) (h1:bL K 1 (eu) l1 S) (W:bL K 1 (eu) l2 T)
     :bu Tryz.prog G 27 [S,T] V fun v V'=>v= .bool (bQ l1 l2)/\D V' K L:=by
  refine SQ X Tryz.func27 Z<|Ry 9 Z<|Y Z (TF h1 Z Z Z (e:=2) Z) Z<|vQ 1 Z<|Y Z (TF W Z Z Z (e:=2) Z) Z<|So 3 Z<|aD Z (fun w=>?_) (fun w=>?_)
  · skip
    refine Sn 7 Z ?_;exact aB Z Z ⟨by first | rw[eE<|bW w] | (rw[eR z A (by simpa only[s5] using bW B)]) | rw[dS (dC<|bK w) (bA C) u],ar⟩
  · skip
    refine Q7 9 Z ?_;obtain⟨LL1,ar,hLL1⟩:=ar.named;refine bf ([4,5]++rg 11 15) (fun j t V=>∃(i:Nat),j+i=l1.length/\(∀k,k<i->l1[k]?=l2[k]?)/\t.get 5=some (.int .i64 (.ofNat i))/\D V K LL1) (l1.length) ⟨0,Z,fun k hk=>absurd hk (nZ_ _),Z,ar⟩ ?_;clear ar;intro j4 t V an hI;obtain⟨i,hj,u,R,ar⟩:=hI;subst hLL1;obtain⟨oo,rfl⟩:=an.q1 R Z;refine Ry 5 Z<|Y Z (TF h1 Z Z Z (e:=2) Z) Z<|So 3 Z<|aD Z (fun C=>?_) (fun C=>?_)
    · skip
      refine Qr 5 Z<|aU (l:=zp [0,1,2,3,4,5,6,7,8]) O O<|S0 2 Z ?_;obtain⟨ao,z,E⟩:=cK C;refine Tx (e:=2) (m:=1) h1 z Z Z Z Z Z (fun ap aa F ab I=>?_);obtain rfl:=I;refine ai Z Z (TH ar F Z Z) Z<|S0 2 Z ?_;obtain⟨a0,A⟩:=cL (show _<l2.length from by rw[<-dC (bK w)];exact E);refine Tx (e:=2) (m:=1) W A Z Z Z Z Z (fun a1 ac M am Q=>?_);obtain rfl:=Q;refine ai Z Z (TH ar M Z Z) Z<|Ss 3 Z<|aD Z (fun B=>?_) (fun B=>?_)
      · skip
        refine SW 6 Z<|aK<|aA<|bD<|aK<|aA (?_);exact aB Z Z ⟨by first | rw[eE<|bW w] | (rw[eR z A (by simpa only[s5] using bW B)]) | rw[dS (dC<|bK w) (bA C) u],ar⟩
      · skip
        refine aG<|aC<|SV 5 Z<|aH ⟨j4-1,by omega,oF,i+1,by omega,iC u z A (by simpa only[s5] using bK B),cI<|aW (by have:=h1.bO;omega),ar⟩
    · skip
      refine RC 3 Z<|aL<|SW 6 Z ?_;exact aB Z Z ⟨by first | rw[eE<|bW w] | (rw[eR z A (by simpa only[s5] using bW B)]) | rw[dS (dC<|bK w) (bA C) u],ar⟩
theorem Mb {G:Cx} (hG:Plain G) {K:KP} {l1 l2:List db} {W X:U} {V:aE} {L:Own} (ar:D V K L) (h1:bL K 5 (mJ) l1 W) (h2:bL K 5 (mJ) l2 X)
     :bu Tryz.prog G 28 [W,X] V fun v V'=>v= .bool (bQ l1 l2)/\D V' K L:=by
  refine SQ hG Tryz.func28 Z<|Ry 9 Z<|Y Z (TF h1 Z Z Z (e:=59) Z) Z<|vQ 1 Z<|Y Z (TF h2 Z Z Z (e:=59) Z) Z<|So 3 Z<|aD Z (fun w=>?_) (fun w=>?_)
  · skip
    refine Sn 7 Z ?_;exact aB Z Z ⟨by first | rw[eE<|bW w] | (rw[eR z A (by exact(db.same (x:=E) (y:=F)).symm.trans<|bW B)]) | rw[dS (dC<|bK w) (bA C) u],ar⟩
  · skip
    refine Q7 9 Z ?_;obtain⟨LL1,ar,hLL1⟩:=ar.named;refine bf ([4,5]++rg 11 15) (fun j t V=>∃(i:Nat),j+i=l1.length/\(∀k,k<i->l1[k]?=l2[k]?)/\t.get 5=some (.int .i64 (.ofNat i))/\D V K LL1) (l1.length) ⟨0,Z,fun k hk=>absurd hk (nZ_ _),Z,ar⟩ ?_;clear ar;intro j4 t V an hI;obtain⟨i,hj,u,T,ar⟩:=hI;subst hLL1;obtain⟨oo,rfl⟩:=an.q1 T Z;refine Ry 5 Z<|Y Z (TF h1 Z Z Z (e:=59) Z) Z<|So 3 Z<|aD Z (fun C=>?_) (fun C=>?_)
    · skip
      refine Qr 5 Z<|aU (l:=zp [0,1,2,3,4,5,6,7,8]) O O<|S0 2 Z ?_;obtain⟨E,z,I⟩:=cK C;refine Tx (e:=59) (m:=5) h1 z Z Z Z Z Z (fun ao aa M ab Q=>?_);obtain rfl:=Q;refine ai Z Z (TI ar M Z Z) Z<|S0 2 Z ?_;obtain⟨F,A⟩:=cL (show _<l2.length from by rw[<-dC (bK w)];exact I);refine Tx (e:=59) (m:=5) h2 A Z Z Z Z Z (fun ap ac R am S=>?_);obtain rfl:=S;refine ai Z Z (TI ar R Z Z) Z<|ai Z Z (DN (n:=5) (ca:=[_,_,_,_,_]) (cb:=[_,_,_,_,_]) O Z Z Z Z) Z<|Ss 2 Z<|aD Z (fun B=>?_) (fun B=>?_)
      · skip
        refine SW 6 Z<|aK<|aA<|bD<|aK<|aA (?_);exact aB Z Z ⟨by first | rw[eE<|bW w] | (rw[eR z A (by exact(db.same (x:=E) (y:=F)).symm.trans<|bW B)]) | rw[dS (dC<|bK w) (bA C) u],ar⟩
      · skip
        refine aG<|aC<|SV 5 Z<|aH ⟨j4-1,by omega,oF,i+1,by omega,iC u z A (by exact(db.same (x:=E) (y:=F)).symm.trans<|bK B),cI<|aW (by have:=h1.bO;omega),ar⟩
    · skip
      refine RC 3 Z<|aL<|SW 6 Z ?_;exact aB Z Z ⟨by first | rw[eE<|bW w] | (rw[eR z A (by exact(db.same (x:=E) (y:=F)).symm.trans<|bW B)]) | rw[dS (dC<|bK w) (bA C) u],ar⟩
theorem OU {G:Cx} (hG:Plain G) {K:KP} {l1 l2:List cY} {W X:U} {V:aE} {L:Own} (ar:D V K L) (h1:bL K 2 (nH) l1 W) (h2:bL K 2 (nH) l2 X)
     :bu Tryz.prog G 29 [W,X] V fun v V'=>v= .bool (bQ l1 l2)/\D V' K L:=by
  refine SQ hG Tryz.func29 Z<|Ry 9 Z<|Y Z (TF h1 Z Z Z (e:=51) Z) Z<|vQ 1 Z<|Y Z (TF h2 Z Z Z (e:=51) Z) Z<|So 3 Z<|aD Z (fun w=>?_) (fun w=>?_)
  · skip
    refine Sn 7 Z ?_;exact aB Z Z ⟨by first | rw[eE<|bW w] | (rw[eR z A (by exact(cY.same (x:=E) (y:=F)).symm.trans<|bW B)]) | rw[dS (dC<|bK w) (bA C) u],ar⟩
  · skip
    refine Q7 9 Z ?_;obtain⟨LL1,ar,hLL1⟩:=ar.named;refine bf ([4,5]++rg 11 15) (fun j t V=>∃(i:Nat),j+i=l1.length/\(∀k,k<i->l1[k]?=l2[k]?)/\t.get 5=some (.int .i64 (.ofNat i))/\D V K LL1) (l1.length) ⟨0,Z,fun k hk=>absurd hk (nZ_ _),Z,ar⟩ ?_;clear ar;intro j4 t V an hI;obtain⟨i,hj,u,T,ar⟩:=hI;subst hLL1;obtain⟨oo,rfl⟩:=an.q1 T Z;refine Ry 5 Z<|Y Z (TF h1 Z Z Z (e:=51) Z) Z<|So 3 Z<|aD Z (fun C=>?_) (fun C=>?_)
    · skip
      refine Qr 5 Z<|aU (l:=zp [0,1,2,3,4,5,6,7,8]) O O<|S0 2 Z ?_;obtain⟨E,z,I⟩:=cK C;refine Tx (e:=51) (m:=2) h1 z Z Z Z Z Z (fun ao aa M ab Q=>?_);obtain rfl:=Q;refine ai Z Z (TI ar M Z Z) Z<|S0 2 Z ?_;obtain⟨F,A⟩:=cL (show _<l2.length from by rw[<-dC (bK w)];exact I);refine Tx (e:=51) (m:=2) h2 A Z Z Z Z Z (fun ap ac R am S=>?_);obtain rfl:=S;refine ai Z Z (TI ar R Z Z) Z<|ai Z Z (DN (n:=2) (ca:=[_,_]) (cb:=[_,_]) O Z Z Z Z) Z<|Ss 2 Z<|aD Z (fun B=>?_) (fun B=>?_)
      · skip
        refine SW 6 Z<|aK<|aA<|bD<|aK<|aA (?_);exact aB Z Z ⟨by first | rw[eE<|bW w] | (rw[eR z A (by exact(cY.same (x:=E) (y:=F)).symm.trans<|bW B)]) | rw[dS (dC<|bK w) (bA C) u],ar⟩
      · skip
        refine aG<|aC<|SV 5 Z<|aH ⟨j4-1,by omega,oF,i+1,by omega,iC u z A (by exact(cY.same (x:=E) (y:=F)).symm.trans<|bK B),cI<|aW (by have:=h1.bO;omega),ar⟩
    · skip
      refine RC 3 Z<|aL<|SW 6 Z ?_;exact aB Z Z ⟨by first | rw[eE<|bW w] | (rw[eR z A (by exact(cY.same (x:=E) (y:=F)).symm.trans<|bW B)]) | rw[dS (dC<|bK w) (bA C) u],ar⟩
theorem Oj {G:Cx} (hG:Plain G) {K:KP} {g1 w:XG} {a1 b1 c1 d1 a2 b2 c2 d2:U} {V:aE} {L:Own} (ar:D V K L) (h1:gY K g1 a1 b1 c1 d1) (h2:gY K w a2 b2 c2 d2):
  bu Tryz.prog G 11 [.agg [a1,b1,c1,d1],.agg [a2,b2,c2,d2]] V fun v V'=>v= .bool (bQ g1 w)/\D V' K L:=by
 obtain⟨b5,S,T,W⟩:=h1;obtain⟨b6,a4,a5,a6⟩:=h2;refine SQ hG Tryz.func11 Z<|Sm 2 Z<|kp ar Z (cC Z Z) (fun V b1 ar=>?_);refine kp ar Z (cC Z Z) (fun V b2 ar=>?_);refine Rb ar 10 [0,1,0,0] Z Z<|bz Z (TB Z Z Z) (fun _=>Z) (Ol hG ar b5 b6) (fun V ar=>?_);refine Y Z (da Z) Z<|ky Z (aq Z) (fun u=>?_) (fun u=>?_)
 ·refine RG 36 Z ?_;exact aB Z Z ⟨cB (by have z:bQ g1.init w.init=false:=(by simpa using u);rw[m9];simp only[z,Bool.and_true,Bool.true_and,Bool.and_false,Bool.false_and]),ar.pop.pop⟩
 refine S2 ar 2 [1,1] Z Z<|Y Z (TF S Z Z Z (e:=56) Z) Z<|S2 ar 2 [1,0] Z Z<|Y Z (TF a4 Z Z Z (e:=56) Z) Z<|SY 2 Z<|ky Z (aq Z) (fun A=>?_) (fun A=>?_)
 ·refine RG 27 Z ?_;exact aB Z Z ⟨cB (by have z:bQ g1.init w.init=true:=(by simpa using u);have e1:=eE (bW A);rw[m9];simp only[z,e1,Bool.and_true,Bool.true_and,Bool.and_false,Bool.false_and]),ar.pop.pop⟩
 refine S2 ar 2 [2,1] Z Z<|Y Z (TF T Z Z Z (e:=49) Z) Z<|S2 ar 2 [2,0] Z Z<|Y Z (TF a5 Z Z Z (e:=49) Z) Z<|SY 2 Z<|ky Z (aq Z) (fun B=>?_) (fun B=>?_)
 ·refine RG 18 Z ?_;exact aB Z Z ⟨cB (by have z:bQ g1.init w.init=true:=(by simpa using u);have e2:=eE (bW B);rw[m9];simp only[z,e2,Bool.and_true,Bool.true_and,Bool.and_false,Bool.false_and]),ar.pop.pop⟩
 refine S2 ar 2 [3,1] Z Z<|Y Z (TF W Z Z Z (e:=49) Z) Z<|S2 ar 2 [3,0] Z Z<|Y Z (TF a6 Z Z Z (e:=49) Z) Z<|So 4 Z<|aD Z (fun X=>?_) (fun X=>?_)
 ·refine Sn 7 Z ?_;exact aB Z Z ⟨cB (by have z:bQ g1.init w.init=true:=(by simpa using u);have e3:=eE (bW X);rw[m9];simp only[z,e3,Bool.and_true,Bool.true_and,Bool.and_false,Bool.false_and]),ar.pop.pop⟩
 refine Q7 9 Z ?_;obtain⟨LL1,ar,hLL1⟩:=ar.named;refine bf ([4,5]++rg 41 19) (fun j t V=>∃(i:Nat),j+i=g1.threads.length/\(∀k,k<i->g1.threads[k]?=w.threads[k]?)/\t.get 5=some (.int .i64 (.ofNat i))/\D V K LL1) (g1.threads.length) ⟨0,Z,fun k hk=>absurd hk (nZ_ _),Z,ar⟩ ?_;clear ar;intro j4 t V an hI;obtain⟨i,cx,aa,b7,ar⟩:=hI;subst hLL1;obtain⟨oo,rfl⟩:=an.q1 b7 Z;refine RJ ar 6 [1,1] Z Z<|Y Z (TF S Z Z Z (e:=56) Z) Z<|So 3 Z<|aD Z (fun C=>?_) (fun C=>?_)
 ·refine Qr 5 Z<|aU (l:=zp [0,1,2,3,4,5,6,7,8,9,10,11]) O O<|S3 ar 3 [1,1] Z Z ?_;obtain⟨cy,E,a7⟩:=cK C;refine Tx (e:=56) (m:=1) S E Z Z Z Z Z (fun c0 cc a8 ce a9=>?_);have hr51':=a9;obtain⟨c3,rfl,bb⟩:=hr51';refine ai Z Z (TH ar a8 Z Z) Z<|S3 ar 3 [1,0] Z Z ?_;obtain⟨c4,F⟩:=cL (show _<w.threads.length from by rw[<-dC (bK A)];exact a7);refine Tx (e:=56) (m:=1) a4 F Z Z Z Z Z (fun c5 cg bd ch be=>?_);have hr56':=be;obtain⟨c7,rfl,bi⟩:=hr56';refine ai Z Z (TH ar bd Z Z) Z<|eB Z Z (TB Z Z Z) (fun _=>Z) (Mb hG ar bb bi) (fun V ar=>?_);refine⟨ba,?_⟩;refine ai Z Z (da Z) Z<|Ss 2 Z<|aD Z (fun am=>?_) (fun am=>?_)
  ·refine SW 6 Z<|aK<|aA<|bD<|aK<|aA (?_);exact aB Z Z ⟨cB (by have z:bQ g1.init w.init=true:=(by simpa using u);have e1:=eR E F (by simpa using am);rw[m9];simp only[z,e1,Bool.and_true,Bool.true_and,Bool.and_false,Bool.false_and]),ar.pop.pop⟩
  refine aG<|aC<|SV 5 Z<|aH ⟨j4-1,by omega,oF,i+1,by omega,iC aa E F (by simpa using am),cI<|aW (by have:=S.bO;omega),ar⟩
 refine RC 3 Z<|aL<|Rx 7 Z ?_;obtain⟨LL2,ar,hLL2⟩:=ar.named;refine bf ([4,6]++rg 60 19) (fun j t V=>∃(i2:Nat),j+i2=g1.from_.length/\(∀k,k<i2->g1.from_[k]?=w.from_[k]?)/\t.get 6=some (.int .i64 (.ofNat i2))/\D V K LL2) (g1.from_.length) ⟨0,Z,fun k hk=>absurd hk (nZ_ _),Z,ar⟩ ?_;clear ar;intro j9 t V an hI;obtain⟨i2,c8,ao,b8,ar⟩:=hI;subst hLL2;obtain⟨oo,rfl⟩:=an.q1 b8 Z;refine RJ ar 6 [2,1] Z Z<|Y Z (TF T Z Z Z (e:=49) Z) Z<|So 3 Z<|aD Z (fun ab=>?_) (fun ab=>?_)
 ·refine Qr 5 Z<|aU (l:=zp [0,1,2,3,4,5,6,7,8,9,10,11]) O O<|S3 ar 3 [2,1] Z Z ?_;obtain⟨c9,I,bk⟩:=cK ab;refine Tx (e:=49) (m:=1) T I Z Z Z Z Z (fun dd ci bl cj bm=>?_);have hr70':=bm;obtain⟨df,rfl,bo⟩:=hr70';refine ai Z Z (TH ar bl Z Z) Z<|S3 ar 3 [2,0] Z Z ?_;obtain⟨dl,M⟩:=cL (show _<w.from_.length from by rw[<-dC (bK B)];exact bk);refine Tx (e:=49) (m:=1) a5 M Z Z Z Z Z (fun dm ck bp cn bq=>?_);have hr75':=bq;obtain⟨dr,rfl,br⟩:=hr75';refine ai Z Z (TH ar bp Z Z) Z<|eB Z Z (TB Z Z Z) (fun _=>Z) (OU hG ar bo br) (fun V ar=>?_);refine⟨ba,?_⟩;refine ai Z Z (da Z) Z<|Ss 2 Z<|aD Z (fun ap=>?_) (fun ap=>?_)
  ·refine SW 6 Z<|aK<|aA<|bD<|aK<|aA (?_);exact aB Z Z ⟨cB (by have z:bQ g1.init w.init=true:=(by simpa using u);have e1:=dS (dC<|bK A) (bA C) aa;have e2:=eR I M (by simpa using ap);rw[m9];simp only[z,e1,e2,Bool.and_true,Bool.true_and,Bool.and_false,Bool.false_and]),ar.pop.pop⟩
  refine aG<|aC<|SV 5 Z<|aH ⟨j9-1,by omega,oF,i2+1,by omega,iC ao I M (by simpa using ap),cI<|aW (by have:=T.bO;omega),ar⟩
 refine RC 3 Z<|aL<|Rx 7 Z ?_;obtain⟨LL3,ar,hLL3⟩:=ar.named;refine bf ([4,7]++rg 79 19) (fun j t V=>∃(i3:Nat),j+i3=g1.order.length/\(∀k,k<i3->g1.order[k]?=w.order[k]?)/\t.get 7=some (.int .i64 (.ofNat i3))/\D V K LL3) (g1.order.length) ⟨0,Z,fun k hk=>absurd hk (nZ_ _),Z,ar⟩ ?_;clear ar;intro ca t V an hI;obtain⟨i3,cp,ac,cb,ar⟩:=hI;subst hLL3;obtain⟨oo,rfl⟩:=an.q1 cb Z;refine RJ ar 6 [3,1] Z Z<|Y Z (TF W Z Z Z (e:=49) Z) Z<|So 3 Z<|aD Z (fun a0=>?_) (fun a0=>?_)
 ·refine Qr 5 Z<|aU (l:=zp [0,1,2,3,4,5,6,7,8,9,10,11]) O O<|S3 ar 3 [3,1] Z Z ?_;obtain⟨ds,Q,bs⟩:=cK a0;refine Tx (e:=49) (m:=1) W Q Z Z Z Z Z (fun dx cr bt cs bv=>?_);have hr89':=bv;obtain⟨d0,rfl,bw⟩:=hr89';refine ai Z Z (TH ar bt Z Z) Z<|S3 ar 3 [3,0] Z Z ?_;obtain⟨d3,R⟩:=cL (show _<w.order.length from by rw[<-dC (bK X)];exact bs);refine Tx (e:=49) (m:=1) a6 R Z Z Z Z Z (fun d4 cv b0 cw b3=>?_);have hr94':=b3;obtain⟨d5,rfl,b4⟩:=hr94';refine ai Z Z (TH ar b0 Z Z) Z<|eB Z Z (TB Z Z Z) (fun _=>Z) (OU hG ar bw b4) (fun V ar=>?_);refine⟨ba,?_⟩;refine ai Z Z (da Z) Z<|Ss 2 Z<|aD Z (fun a3=>?_) (fun a3=>?_)
  ·refine SW 6 Z<|aK<|aA<|bD<|aK<|aA (?_);exact aB Z Z ⟨cB (by have z:bQ g1.init w.init=true:=(by simpa using u);have e1:=dS (dC<|bK A) (bA C) aa;have e2:=dS (dC<|bK B) (bA ab) ao;have e3:=eR Q R (by simpa using a3);rw[m9];simp only[z,e1,e2,e3,Bool.and_true,Bool.true_and,Bool.and_false,Bool.false_and]),ar.pop.pop⟩
  refine aG<|aC<|SV 5 Z<|aH ⟨ca-1,by omega,oF,i3+1,by omega,iC ac Q R (by simpa using a3),cI<|aW (by have:=W.bO;omega),ar⟩
 refine RC 3 Z<|aL<|SW 6 Z ?_;exact aB Z Z ⟨cB (by have z:bQ g1.init w.init=true:=(by simpa using u);have e1:=dS (dC<|bK A) (bA C) aa;have e2:=dS (dC<|bK B) (bA ab) ao;have e3:=dS (dC<|bK X) (bA a0) ac;rw[m9];simp only[z,e1,e2,e3,Bool.and_true,Bool.true_and,Bool.and_false,Bool.false_and]),ar.pop.pop⟩
theorem Hf {G:Cx} (m:Plain G) {K:KP} (e:db) {V:aE} {L:Own} (ar:D V K L):bu Tryz.prog G 65 [.agg<|ints e.ints] V fun v V'=>v= .bool (cN e)/\D V' K L:=by
 refine SQ m Tryz.func65 Z<|Sm 2 Z<|kp ar Z (cC Z Z) (fun V b1 ar=>?_);refine RM ar 8 [0,0] Z Z<|ky Z (aq Z) (fun j=>?_) (fun j=>?_)
 ·refine Sr 8 Z ?_;exact aB Z Z ⟨cB (by unfold cN;simp only[j,ct,cf]),ar.pop⟩
 refine Sx ar 8 [0,0] Z Z ?_;exact aB Z Z ⟨cB (by unfold cN;simp only[j,ct,cf]),ar.pop⟩
theorem tY {G:Cx} (m:Plain G) {K:KP} (e:db) {V:aE} {L:Own} (ar:D V K L):bu Tryz.prog G 66 [.agg<|ints e.ints] V fun v V'=>v= .bool (bI e)/\D V' K L:=by
 refine SQ m Tryz.func66 Z<|Sm 2 Z<|kp ar Z (cC Z Z) (fun V b1 ar=>?_);refine RM ar 8 [0,0] Z Z<|ky Z (aq Z) (fun j=>?_) (fun j=>?_)
 ·refine Sr 8 Z ?_;exact aB Z Z ⟨cB (by unfold bI;simp only[j,ct,cf]),ar.pop⟩
 refine Sx ar 8 [0,0] Z Z ?_;exact aB Z Z ⟨cB (by unfold bI;simp only[j,ct,cf]),ar.pop⟩
theorem Hd {G:Cx} (hG:Plain G) {K:KP} {g:XG} {a b c d:U} (h:gY K g a b c d) (th ix:Int) {V:aE} {L:Own} (ar:D V K L):bu Tryz.prog G 67 [.agg [a,b,c,d],.agg [.int .i64 th,.int .i64 ix]] V fun v V'=>v= .tuple [.agg<|ints (mK<|dn g ⟨th,ix⟩).ints,.bool (dn g ⟨th,ix⟩).isSome]/\D V' K L:=by
 have h':=h;obtain⟨hi,F,hf,ho⟩:=h';refine SQ hG Tryz.func67 Z<|Sm 2 Z<|kp ar Z (cC Z Z) (fun V b1 ar=>?_);refine kp ar Z (cC Z Z) (fun V b2 ar=>?_);refine kp ar Z (TG (cs:=[N,N,N,N,N])) (fun V b3 ar=>?_);refine Rb ar 9 [0,1] Z Z<|ky Z (aq Z) (fun h9=>?_) (fun h9=>?_)
 ·refine RE 17 Z (Y Z (TA (places:=[(0,1),(1,1),(2,1),(3,1),(4,1)]) (zero:=[N,N,N,N,N]) (cs:=[_,_,_,_,_]) Z) Z<|bZ ar Z (TJ Z Z Z ar.g0 (m:=5) Z Z (cells':=[_,_,_,_,_]) Z) Z (fun V ar=>?_));refine RG 5 Z ?_;exact cA Z Z ar.g0 (m:=5) O Z Z ⟨by rw[uu h9];rfl,ar.pop.pop.pop⟩
 refine S2 ar 4 [0,1,1,2] Z Z<|Y Z (TF F Z Z Z (e:=56) Z) Z<|SY 2 Z<|ky Z (aq Z) (fun u=>?_) (fun u=>?_)
 ·refine RE 9 Z (Y Z (TA (places:=[(0,1),(1,1),(2,1),(3,1),(4,1)]) (zero:=[N,N,N,N,N]) (cs:=[_,_,_,_,_]) Z) Z<|bZ ar Z (TJ Z Z Z ar.g0 (m:=5) Z Z (cells':=[_,_,_,_,_]) Z) Z (fun V ar=>?_));refine RG 5 Z ?_;exact cA Z Z ar.g0 (m:=5) O Z Z ⟨by rw[Cl u];rfl,ar.pop.pop.pop⟩
 refine Sw ar 6 [1,1] Z Z<|aD Z (fun B=>?_) (fun B=>?_)
 ·refine Sm 2 Z (Y Z (TA (places:=[(0,1),(1,1),(2,1),(3,1),(4,1)]) (zero:=[N,N,N,N,N]) (cs:=[_,_,_,_,_]) Z) Z<|bZ ar Z (TJ Z Z Z ar.g0 (m:=5) Z Z (cells':=[_,_,_,_,_]) Z) Z (fun V ar=>?_));refine RG 5 Z ?_;exact cA Z Z ar.g0 (m:=5) O Z Z ⟨by rw[qI B];rfl,ar.pop.pop.pop⟩
 obtain⟨tn,rfl⟩:=kA h9;obtain⟨ixn,rfl⟩:=kA B;refine Rz 3 Z<|Sm 2 Z<|Sw ar 5 [0,1] Z Z<|aD Z (fun w=>?_) (fun w=>?_)
 ·obtain rfl:tn=0:=by rw[cW] at w;simpa using w
  refine RJ ar 7 [1,1,0,2] Z Z<|Y Z (TF hi Z Z Z (e:=2) Z) Z<|So 3 Z<|aD Z (fun C=>?_) (fun C=>?_)
  ·refine Sm 2 Z (Y Z (TA (places:=[(0,1),(1,1),(2,1),(3,1),(4,1)]) (zero:=[N,N,N,N,N]) (cs:=[_,_,_,_,_]) Z) Z<|bZ ar Z (TJ Z Z Z ar.g0 (m:=5) Z Z (cells':=[_,_,_,_,_]) Z) Z (fun V ar=>?_));refine Sr 4 Z<|aA<|aA (?_);exact cA Z Z ar.g0 (m:=5) O Z Z ⟨by rw[show dn g _=none from by show(g.init[ixn]?).map _=_;rw[gN_<|pO C];rfl];rfl,ar.pop.pop.pop⟩
  refine Rz 3 Z<|aU (l:=zp [0,1,2,3,4,5,6,7,8,9,10]) O O<|S3 ar 6 [1,1,0,2,1,1] Z Z ?_;obtain⟨a3,z⟩:=cL (pZ C);refine Tx (e:=2) (m:=1) hi z Z Z Z Z Z (fun a4 ac I am M=>?_);obtain rfl:=M;refine ai Z Z (TH ar I Z Z) Z (ai Z Z (TA (places:=[(0,1),(1,1),(2,1),(3,1),(4,1)]) (zero:=[N,N,N,N,N]) (cs:=[_,_,_,_,_]) Z) Z<|iM ar Z Z (TJ Z Z Z ar.g0 (m:=5) Z Z (cells':=[_,_,_,_,_]) Z) Z (fun V ar=>?_));refine⟨ba,?_⟩;refine RI 5 Z ?_;exact cA Z Z ar.g0 (m:=5) O Z Z ⟨by rw[show dn g _=some _ from by show(g.init[ixn]?).map _=_;rw[z];rfl];rfl,ar.pop.pop.pop⟩
 obtain⟨tm,rfl⟩:=G5 w;refine Rz 3 Z<|al<|aU (l:=zp [0,1,2,3,4,5,6,7,8,9,10]) O O<|S3 ar 7 [1,1,1,2,0,1] Z Z ?_;obtain⟨a5,j⟩:=cL (show tm<g.threads.length from by have:=nQ u;omega);refine Tx (e:=56) (m:=1) F j Z Z Z Z (cI<|gW (by have:=nQ u;have:=F.bO;omega)) (fun a6 an Q ao R=>?_);have hr49':=R;obtain⟨a7,rfl,S⟩:=hr49';refine ai Z Z (TH ar Q Z Z) Z<|ai Z Z (TF S Z Z Z (e:=59) Z) Z<|Ss 3 Z<|aD Z (fun E=>?_) (fun E=>?_)
 ·refine Sm 2 Z (Y Z (TA (places:=[(0,1),(1,1),(2,1),(3,1),(4,1)]) (zero:=[N,N,N,N,N]) (cs:=[_,_,_,_,_]) Z) Z<|bZ ar Z (TJ Z Z Z ar.g0 (m:=5) Z Z (cells':=[_,_,_,_,_]) Z) Z (fun V ar=>?_));refine RG 5 Z ?_;exact cA Z Z ar.g0 (m:=5) O Z Z ⟨by rw[show dn g _=none from by show(g.threads[tm]?).bind _=_;rw[j];exact gN_<|pO E];rfl,ar.pop.pop.pop⟩
 refine Rz 3 Z<|aU (l:=zp [0,1,2,3,4,5,6,7,8,9,10,11,12]) O O<|S3 ar 5 [1,2,0,1] Z Z<|Tx (e:=56) (m:=1) F j Z Z Z Z (cI<|gW (by have:=nQ u;have:=F.bO;omega)) (fun a8 ap T a0 W=>?_);have hr59':=W;obtain⟨a9,rfl,X⟩:=hr59';refine ai Z Z (TH ar T Z Z) Z<|S3 ar 2 [1,1] Z Z ?_;obtain⟨bb,A⟩:=cL (pZ E);refine Tx (e:=59) (m:=5) X A Z Z Z Z Z (fun bd a1 aa a2 ab=>?_);obtain rfl:=ab;refine ai Z Z (TI ar aa Z Z) Z<|iM ar Z Z (TJ Z Z Z ar.g0 (m:=5) Z Z (cells':=[_,_,_,_,_]) Z) Z (fun V ar=>?_);refine⟨ba,?_⟩;refine Su 4 Z ?_;exact cA Z Z ar.g0 (m:=5) O Z Z ⟨by rw[show dn g _=some _ from by show(g.threads[tm]?).bind _=_;rw[j];exact A];rfl,ar.pop.pop.pop⟩
theorem Bw {G:Cx} (I:Plain G) {K:KP} (e:db) (n:Int) {V:aE} {L:Own} (ar:D V K L):bu Tryz.prog G 47 [.agg<|ints e.ints,.int .i64 n] V fun v V'=>v= .bool (bX e n)/\D V' K L:=by
 refine SQ I Tryz.func47 Z<|Sm 2 Z<|kp ar Z (cC Z Z) (fun V b1 ar=>?_);refine Rb ar 9 [0,0] Z Z<|ky Z (aq Z) (fun E=>?_) (fun E=>?_)
 ·refine RG 24 Z ?_;exact aB Z Z ⟨cB (by unfold bX bh;simp only[E,ct,cf]),ar.pop⟩
 refine S2 ar 4 [0,0] Z Z<|ky Z (aq Z) (fun j=>?_) (fun j=>?_)
 ·refine RG 19 Z ?_;exact aB Z Z ⟨cB (by unfold bX bh;simp only[E,j,ct,cf]),ar.pop⟩
 refine S2 ar 4 [2,0] Z Z<|ky Z (aq Z) (fun u=>?_) (fun u=>?_)
 ·refine RG 14 Z ?_;exact aB Z Z ⟨cB (by unfold bX bh;simp only[E,j,u,ct,cf]),ar.pop⟩
 refine Sw ar 6 [2,0] Z Z<|aD Z (fun w=>?_) (fun w=>?_)
 ·refine Sn 7 Z ?_;exact aB Z Z ⟨cB (by unfold bX bh;simp only[E,j,u,w,ct,cf]),ar.pop⟩
 refine Rz 3 Z<|Sm 2 Z<|Y Z (TE Z ar.g0 (n:=5) (vs:=[_,_,_,_,_]) Z) Z<|bz Z (TB Z Z Z) (fun _=>Z) (Hf I _ ar) (fun V ar=>?_);refine Y Z (da Z) Z<|ky Z (aq Z) (fun A=>?_) (fun A=>?_)
 ·refine S2 ar 4 [3,0] Z Z<|ky Z (aq Z) (fun F=>?_) (fun F=>?_)
  ·refine RG 19 Z ?_;exact aB Z Z ⟨cB (by unfold bX bh;simp only[E,j,u,w,A,F,ct,cf]),ar.pop⟩
  refine Y Z (TE Z ar.g0 (n:=5) (vs:=[_,_,_,_,_]) Z) Z<|bz Z (TB Z Z Z) (fun _=>Z) (tY I _ ar) (fun V ar=>?_);refine Y Z (da Z) Z<|ky Z (aq Z) (fun z=>?_) (fun z=>?_)
  ·refine Sw ar 7 [4,0] Z Z<|aD Z (fun C=>?_) (fun C=>?_)
   ·refine Sn 7 Z ?_;exact aB Z Z ⟨cB (by unfold bX bh;simp only[E,j,u,w,A,F,z,C,ct,cf]),ar.pop⟩
   refine Rz 3 Z<|Sm 2 Z<|Sw ar 5 [0,0] Z Z<|aD Z (fun m=>?_) (fun m=>?_)
   ·refine Sv ar 10 [1,0] Z Z ?_;exact aB Z Z ⟨cB (by unfold bX bh;simp only[E,j,u,w,A,F,z,C,m,ct,cf]),ar.pop⟩
   refine RK ar 7 [1,0] Z Z<|ky Z (aq Z) (fun B=>?_) (fun B=>?_)
   ·refine Sx ar 9 [1,0] Z Z ?_;exact aB Z Z ⟨cB (by unfold bX bh;simp only[E,j,u,w,A,F,z,C,m,B,ct,cf]),ar.pop⟩
   refine Sr 9 Z ?_;exact aB Z Z ⟨cB (by unfold bX bh;simp only[E,j,u,w,A,F,z,C,m,B,ct,cf]),ar.pop⟩
  refine So 8 Z<|Rz 3 Z<|Sm 2 Z<|Sw ar 5 [0,0] Z Z<|aD Z (fun m=>?_) (fun m=>?_)
  ·refine Sv ar 10 [1,0] Z Z ?_;exact aB Z Z ⟨cB (by unfold bX bh;simp only[E,j,u,w,A,F,z,m,ct,cf]),ar.pop⟩
  refine RK ar 7 [1,0] Z Z<|ky Z (aq Z) (fun B=>?_) (fun B=>?_)
  ·refine Sx ar 9 [1,0] Z Z ?_;exact aB Z Z ⟨cB (by unfold bX bh;simp only[E,j,u,w,A,F,z,m,B,ct,cf]),ar.pop⟩
  refine Sr 9 Z ?_;exact aB Z Z ⟨cB (by unfold bX bh;simp only[E,j,u,w,A,F,z,m,B,ct,cf]),ar.pop⟩
 refine SY 5 Z<|Y Z (TE Z ar.g0 (n:=5) (vs:=[_,_,_,_,_]) Z) Z<|bz Z (TB Z Z Z) (fun _=>Z) (tY I _ ar) (fun V ar=>?_);refine Y Z (da Z) Z<|ky Z (aq Z) (fun z=>?_) (fun z=>?_)
 ·refine Sw ar 7 [4,0] Z Z<|aD Z (fun C=>?_) (fun C=>?_)
  ·refine Sn 7 Z ?_;exact aB Z Z ⟨cB (by unfold bX bh;simp only[E,j,u,w,A,z,C,ct,cf]),ar.pop⟩
  refine Rz 3 Z<|Sm 2 Z<|Sw ar 5 [0,0] Z Z<|aD Z (fun m=>?_) (fun m=>?_)
  ·refine Sv ar 10 [1,0] Z Z ?_;exact aB Z Z ⟨cB (by unfold bX bh;simp only[E,j,u,w,A,z,C,m,ct,cf]),ar.pop⟩
  refine RK ar 7 [1,0] Z Z<|ky Z (aq Z) (fun B=>?_) (fun B=>?_)
  ·refine Sx ar 9 [1,0] Z Z ?_;exact aB Z Z ⟨cB (by unfold bX bh;simp only[E,j,u,w,A,z,C,m,B,ct,cf]),ar.pop⟩
  refine Sr 9 Z ?_;exact aB Z Z ⟨cB (by unfold bX bh;simp only[E,j,u,w,A,z,C,m,B,ct,cf]),ar.pop⟩
 refine So 8 Z<|Rz 3 Z<|Sm 2 Z<|Sw ar 5 [0,0] Z Z<|aD Z (fun m=>?_) (fun m=>?_)
 ·refine Sv ar 10 [1,0] Z Z ?_;exact aB Z Z ⟨cB (by unfold bX bh;simp only[E,j,u,w,A,z,m,ct,cf]),ar.pop⟩
 refine RK ar 7 [1,0] Z Z<|ky Z (aq Z) (fun B=>?_) (fun B=>?_)
 ·refine Sx ar 9 [1,0] Z Z ?_;exact aB Z Z ⟨cB (by unfold bX bh;simp only[E,j,u,w,A,z,m,B,ct,cf]),ar.pop⟩
 refine Sr 9 Z ?_;exact aB Z Z ⟨cB (by unfold bX bh;simp only[E,j,u,w,A,z,m,B,ct,cf]),ar.pop⟩
theorem DJ {G:Cx} (B:Plain G) {K:KP} {g:XG} {a b c d:U} (h:gY K g a b c d) (th ix fth fix_:Int) {V:aE} {L:Own} (ar:D V K L):bu Tryz.prog G 48 [.agg [a,b,c,d],.agg [.int .i64 th,.int .i64 ix],.agg [.int .i64 fth,.int .i64 fix_]] V fun v V'=>v= .bool (de g ⟨th,ix⟩ ⟨fth,fix_⟩)/\D V' K L:=by
 have h':=h;obtain⟨hi,ht,hf,ho⟩:=h';refine SQ B Tryz.func48 Z<|Sm 2 Z<|kp ar Z (cC Z Z) (fun V b1 ar=>?_);refine kp ar Z (cC Z Z) (fun V b2 ar=>?_);refine kp ar Z (cC Z Z) (fun V b3 ar=>?_);refine RE 5 Z<|Y Z (TE Z (ar.get 2 Z) (n:=4) (vs:=[_,_,_,_]) Z) Z<|Y Z (TE Z ar.g1 (n:=2) (vs:=[_,_]) Z) Z<|bz Z (TB Z Z Z) (fun _=>Z) (Hd B h _ _ ar) (fun V ar=>?_);refine SY 3 Z<|kp ar Z (TG (cs:=[N,N,N,N,N])) (fun V b4 ar=>?_);refine bZ ar Z (TJ Z Z Z ar.g0 (m:=5) Z Z (cells':=[_,_,_,_,_]) Z) Z (fun V ar=>?_);refine Q9 6 Z<|Y Z (TE Z ar.g0 (n:=5) (vs:=[_,_,_,_,_]) Z) Z<|bz Z (TB Z Z Z) (fun _=>Z) (Hf B _ ar) (fun V ar=>?_);refine Y Z (da Z) Z<|So 2 Z<|aD Z (fun j=>?_) (fun j=>?_)
 ·refine Sm 2 Z (Y Z (TE Z ar.g1 (n:=2) (vs:=[_,_]) Z) Z (Y Z (TA (places:=[(0,1),(1,1)]) (zero:=[N,N]) (cs:=[_,_]) Z) Z<|Y Z (Aa (n:=2) (ca:=[_,_]) (cb:=[_,_]) O Z Z Z Z) Z<|RG 5 Z ?_));exact aB Z Z ⟨cB (by unfold de;simp only[j,ct,cf]),ar.pop.pop.pop.pop⟩
 refine RB 4 Z<|Y Z (TE Z (ar.get 3 Z) (n:=4) (vs:=[_,_,_,_]) Z) Z<|Y Z (TE Z ar.g1 (n:=2) (vs:=[_,_]) Z) Z<|bz Z (TB Z Z Z) (fun _=>Z) (Hd B h _ _ ar) (fun V ar=>?_);refine SY 3 Z<|kp ar Z (TG (cs:=[N,N,N,N,N])) (fun V b5 ar=>?_);refine bZ ar Z (TJ Z Z Z ar.g0 (m:=5) Z Z (cells':=[_,_,_,_,_]) Z) Z (fun V ar=>?_);refine RE 6 Z<|ky Z (aq Z) (fun u=>?_) (fun u=>?_)
 ·refine Y Z (TE Z (ar.get 2 Z) (n:=2) (vs:=[_,_]) Z) Z<|Y Z (TE Z (ar.get 3 Z) (n:=2) (vs:=[_,_]) Z) Z<|Y Z (DN (n:=2) (ca:=[_,_]) (cb:=[_,_]) O Z Z Z Z) Z<|vQ 1 Z<|ky Z (aq Z) (fun w=>?_) (fun w=>?_)
  ·refine Y Z (TE Z ar.g0 (n:=5) (vs:=[_,_,_,_,_]) Z) Z<|bz Z (TB Z Z Z) (fun _=>Z) (tY B _ ar) (fun V ar=>?_);refine vQ 1 Z<|ky Z (aq Z) (fun z=>?_) (fun z=>?_)
   ·refine S2 ar 6 [1,0,1,1] Z Z<|ky Z (aq Z) (fun A=>?_) (fun A=>?_)
    ·refine Sx ar 10 [4,0,3,1] Z Z ?_;exact aB Z Z ⟨cB (by unfold de;simp only[j,u,w,z,A,ct,cf]),ar.pop.pop.pop.pop.pop⟩
    refine Sr 10 Z ?_;exact aB Z Z ⟨cB (by unfold de;simp only[j,u,w,z,A,ct,cf]),ar.pop.pop.pop.pop.pop⟩
   refine Sr 17 Z ?_;exact aB Z Z ⟨cB (by unfold de;simp only[j,u,w,z,ct,cf]),ar.pop.pop.pop.pop.pop⟩
  refine Sr 21 Z ?_;exact aB Z Z ⟨cB (by unfold de;simp only[j,u,w,ct,cf]),ar.pop.pop.pop.pop.pop⟩
 refine Sr 26 Z ?_;exact aB Z Z ⟨cB (by unfold de;simp only[j,u,ct,cf]),ar.pop.pop.pop.pop.pop⟩
theorem wy:DW Tryz.prog 129 51 3 2:=⟨by kernel_rfl,by kernel_rfl,by kernel_rfl,by kernel_rfl,fun k hk=>by
 match k,hk with
 | [a,b],_=>
  show mj Tryz.prog 51 (.agg<|ints [a,b])=true
  kernel_rfl⟩
theorem MS {ls:List (List cY)} {m1 m j:LM} {i u:Nat} {l:List cY} {x:cY} (h1:nm ls 0 m1=nm (ls.drop i) i j) (hx:ls[i]?=some l) (w:lD i l j=lD i (l.drop u) m) (z:l[u]?=some x) (h:(fK m x.ints).isSome=false):nm ls 0 m1=none:=by
 rw[h1,cu hx];show(lD i l j).bind _=none;rw[w,cu z];show(bif (fK m x.ints).isSome then _ else none).bind _=none;rw[h];rfl
theorem MT {ls:List (List cY)} {m1 m j:LM} {i u:Nat} {l:List cY} {x:cY} (h1:nm ls 0 m1=nm (ls.drop i) i j) (hx:ls[i]?=some l) (w:lD i l j=lD i (l.drop u) m) (z:l[u]?=some x) (h:(fK m x.ints).isSome=true) (h':H ((fK m x.ints).getD 0) (.ofNat i)=false):nm ls 0 m1=none:=by
 rw[h1,cu hx];show(lD i l j).bind _=none;rw[w,cu z];show(bif (fK m x.ints).isSome then(bif H ((fK m x.ints).getD 0) (.ofNat i) then _ else none) else none).bind _=none;rw[h,h'];rfl
theorem Bx {G:Cx} (hG:Plain G) {K:KP} {g:XG} {a b c d:U} (h:gY K g a b c d) {V:aE} {L:Own} (ar:D V K L):bu Tryz.prog G 49 [.agg [a,b,c,d]] V fun v V'=>v= .bool (eV g)/\D V' K L:=by
 have h':=h;obtain⟨hi,ht,hf,ho⟩:=h';refine SQ hG Tryz.func49 Z<|Sm 2 Z<|kp ar Z (cC Z Z) (fun V b1 ar=>?_);refine RE 5 Z<|Q3 ar Z I8 (fun _=>Z) (fun V b2 ar=>?_);refine Rb ar 8 [1,1] Z Z (Y Z (TF ht Z Z Z (e:=56) Z) Z (RD 4 Z (bf (rg 4 4++rg 18 23) (fun j t V=>∃(i:Nat) (es:List fw) (ck:Nat) (m:LM),j+i=g.threads.length/\fj 2 es m/\pA g.threads 0 []=pA (g.threads.drop i) i m/\t.get 18=some (.int .i64 (.ofNat i))/\D V K ((b2,.map es ck)::(b1,.row [a,b,c,d] 27 false)::L)) (g.threads.length) ⟨0,[],0,[],Z,.nil,Z,Z,ar⟩ ?_)));clear ar;intro j3 t V an W;obtain⟨i,es,ck,m,cb,hm,X,a3,ar⟩:=W;obtain⟨oo,rfl⟩:=an.q1 a3 Z;refine Sl 6 Z<|aD Z (fun aa=>?_) (fun aa=>?_)
 ·refine Qs 7 Z ?_;obtain⟨E,T,bp⟩:=cK aa;refine Tw (e:=56) (m:=1) ht T Z Z Z Z (fun cc bq a4 br a5=>?_);have hr21':=a5;obtain⟨ce,rfl,z⟩:=hr21';refine Y Z (TH ar a4 Z Z) Z<|RE 7 Z<|Y Z (TF z Z Z Z (e:=59) Z) Z<|vQ 1 Z ?_;generalize ab:m=m0 at hm X;clear ab;refine RD 3 Z (bf ([6,7]++rg 25 15) (fun j t V=>∃(u:Nat) (es:List fw) (ck:Nat) (m:LM),j+u=E.length/\fj 2 es m/\rv i E 0 m0=rv i (E.drop u) u m/\t.get 25=some (.int .i64 (.ofNat u))/\D V K ((b2,.map es ck)::(b1,.row [a,b,c,d] 27 false)::L)) (E.length) ⟨0,es,ck,m0,Z,hm,Z,Z,ar⟩ ?_);clear ar;intro j6 t V an W;obtain⟨u,es,ck,m,cg,hm,ac,a6,ar⟩:=W;obtain⟨oo,rfl⟩:=an.q1 a6 Z;refine Sl 6 Z<|aD Z (fun am=>?_) (fun am=>?_)
  ·refine Qs 7 Z ?_;obtain⟨ao,F,bs⟩:=cK am;refine Tw (e:=59) (m:=5) z F Z Z Z Z (fun ch bt a7 bv a8=>?_);obtain rfl:=a8;refine Y Z (TI ar a7 Z Z) Z<|kp ar Z (TG (cs:=[N,N,N,N,N])) (fun V b3 ar=>?_);refine vQ 1 Z<|bZ ar Z (TJ Z Z Z ar.g0 (m:=5) Z Z (cells':=[_,_,_,_,_]) Z) Z (fun V ar=>?_);refine RE 4 Z<|Y Z (TE Z ar.g0 (n:=5) (vs:=[_,_,_,_,_]) Z) Z<|bz Z (TB Z Z Z) (fun _=>Z) (tY hG _ ar) (fun V ar=>?_);refine So 2 Z<|aD Z (fun ap=>?_) (fun ap=>?_)
   ·refine ah Z (SY 4 Z (Y Z (TA (places:=[(0,1),(1,1)]) (zero:=[N,N]) (cs:=[_,_]) Z) Z<|S2 ar 2 [1,0] Z Z<|Im wy hm ar (k:=[_,_]) Z Z Z Z Z Z Z (fun V es ck ar hm=>?_)));replace hm:=(show fj 2 es (pY m [Int.ofNat (i+1),Int.ofNat u] ao.loc) from by rw[<-aW (i:=i) (by have:=ht.bO;omega)];exact hm);refine af<|aC<|SV 4 Z ?_;have ar:=ar.pop;refine aH ⟨j6-1,by omega,oF,u+1,es,ck,_,by omega,hm,by rw[ac,cu F];show rv i _ (u+1) (xJ i m u ao)=_;unfold xJ;rw[ap];rfl,cI<|aW (by have:=z.bO;omega),ar⟩
   refine aG<|aC<|SV 4 Z ?_;have ar:=ar.pop;refine aH ⟨j6-1,by omega,oF,u+1,es,ck,_,by omega,hm,by rw[ac,cu F];show rv i _ (u+1) (xJ i m u ao)=_;unfold xJ;rw[ap];rfl,cI<|aW (by have:=z.bO;omega),ar⟩
  refine RC 3 Z<|aL<|aC<|SV 4 Z<|aH ⟨j3-1,by omega,oF,i+1,es,ck,m,by omega,hm,by rw[X,cu T];show pA _ (i+1) (rv i E 0 m0)=_;rw[ac,eF<|bA am];rfl,cI<|aW (by have:=ht.bO;omega),ar⟩
 refine RC 3 Z<|aL<|RJ ar 5 [3,1] Z Z<|Y Z (TF ho Z Z Z (e:=49) Z) Z<|vQ 1 Z ?_;have Q:pA g.threads 0 []=m:=by rw[X,eF<|bA aa];rfl
 generalize bl:m=m1 at hm Q;clear bl;refine RD 3 Z (bf ([2,8,9,11,12,13]++rg 44 28) (fun j t V=>∃(i:Nat) (es:List fw) (ck:Nat) (m:LM),j+i=g.order.length/\fj 2 es m/\nm g.order 0 m1=nm (g.order.drop i) i m/\t.get 44=some (.int .i64 (.ofNat i))/\D V K ((b2,.map es ck)::(b1,.row [a,b,c,d] 27 false)::L)) (g.order.length) ⟨0,es,ck,m1,Z,hm,Z,Z,ar⟩ ?_);clear ar;intro bm t V an W;obtain⟨i,es,ck,m,bw,hm,w,a9,ar⟩:=W;obtain⟨oo,rfl⟩:=an.q1 a9 Z;refine Sl 6 Z<|aD Z (fun a0=>?_) (fun a0=>?_)
 ·refine Qs 7 Z ?_;obtain⟨I,A,b0⟩:=cK a0;refine Tw (e:=49) (m:=1) ho A Z Z Z Z (fun ci b4 bb b5 bd=>?_);have hr47':=bd;obtain⟨cj,rfl,M⟩:=hr47';refine Y Z (TH ar bb Z Z) Z<|RE 7 Z<|Y Z (TF M Z Z Z (e:=51) Z) Z<|vQ 1 Z ?_;generalize ab:m=m0 at hm w;clear ab;refine RD 3 Z (bf ([2,11,12,13]++rg 51 20) (fun j t V=>∃(u:Nat) (es:List fw) (ck:Nat) (m:LM),j+u=I.length/\fj 2 es m/\lD i I m0=lD i (I.drop u) m/\t.get 51=some (.int .i64 (.ofNat u))/\D V K ((b2,.map es ck)::(b1,.row [a,b,c,d] 27 false)::L)) (I.length) ⟨0,es,ck,m0,Z,hm,Z,Z,ar⟩ ?_);clear ar;intro bo t V an W;obtain⟨u,es,ck,m,b6,hm,B,be,ar⟩:=W;obtain⟨oo,rfl⟩:=an.q1 be Z;refine Sl 6 Z<|aD Z (fun a1=>?_) (fun a1=>?_)
  ·refine Qs 6 Z ?_;obtain⟨R,C,b7⟩:=cK a1;refine Tw (e:=51) (m:=2) M C Z Z Z Z (fun cn b8 bi ca bk=>?_);obtain rfl:=bk;refine Y Z (TI ar bi Z Z) Z<|kp ar Z (TG (cs:=[N,N])) (fun V b3 ar=>?_);refine bZ ar Z (TJ Z Z Z ar.g0 (m:=2) Z Z (cells':=[_,_]) Z) Z (fun V ar=>?_);refine Q9 6 Z<|Y Z (TE Z ar.g0 (n:=2) (vs:=[_,_]) Z) Z<|Y Z (Mn wy hm ar.g1 (k:=[_,_]) Z Z Z) Z<|RE 10 Z<|Y Z (da Z) Z<|ky Z (aq Z) (fun S=>?_) (fun S=>?_)
   ·refine Sr 13 Z<|aA<|aK<|aA<|bD<|aK<|aK<|aA<|bD<|aK<|aA (?_);exact aB Z Z ⟨cB (by unfold eV;rw[show nm g.order 0 (pA g.threads 0 [])=none from by rw[Q];exact MS w A B C<|vM S]),ar.pop.pop.pop⟩
   refine So 6 Z<|aD Z (fun a2=>?_) (fun a2=>?_)
   ·refine SW 6 Z<|aA<|aK<|aA<|bD<|aK<|aK<|aA<|bD<|aK<|aA (?_);exact aB Z Z ⟨cB (by unfold eV;rw[show nm g.order 0 (pA g.threads 0 [])=none from by rw[Q];exact MT w A B C (kh S)<|bW a2]),ar.pop.pop.pop⟩
   refine aG<|ad<|ah Z<|vQ 1 Z<|Y Z (TE Z ar.g0 (n:=2) (vs:=[_,_]) Z) Z<|Il wy hm ar (k:=[_,_]) Z Z Z Z Z Z Z Z Z (fun V es ar hm=>?_);refine af<|aC<|SV 4 Z ?_;have ar:=ar.pop;refine aH ⟨bo-1,by omega,oF,u+1,es,ck,_,by omega,hm,by rw[B,cu C];show(bif (fK m R.ints).isSome then _ else none)=_;rw[show(fK m R.ints).isSome=true from kh S];show(bif H ((fK m R.ints).getD 0) (Int.ofNat i) then _ else none)=_;rw[show H ((fK m R.ints).getD 0) (Int.ofNat i)=true from bK a2];rfl,cI<|aW (by have:=M.bO;omega),ar⟩
  refine RC 3 Z<|aL<|aC<|SV 4 Z<|aH ⟨bm-1,by omega,oF,i+1,es,ck,m,by omega,hm,by rw[w,cu A];show(lD i I m0).bind _=_;rw[B,eF<|bA a1];rfl,cI<|aW (by have:=ho.bO;omega),ar⟩
 refine RC 3 Z<|aL<|Sm 3 Z<|Y Z (Mm wy hm ar.g0 Z Z Z Z) Z<|Sr 5 Z ?_;exact aB Z Z ⟨cB (by unfold eV;rw[show nm g.order 0 (pA g.threads 0 [])=some m from by rw[Q];exact by rw[w,eF<|bA a0];rfl]),ar.pop.pop⟩
theorem FU {G:Cx} (j:Plain G) {K:KP} {l:List db} {v:U} (h:bL K 5 mJ l v) {V:aE} {L:Own} (ar:D V K L):bu Tryz.prog G 64 [v] V fun v V'=>v= .bool (b9 14 (.ofNat l.length))/\D V' K L:=by
 refine SQ j Tryz.func64 Z<|Sm 8 Z<|Y Z (TF h Z Z Z (e:=59) Z) Z<|Sr 5 Z ?_;exact aB Z Z ⟨Z,ar⟩
theorem Bt {G:Cx} (M:Plain G) {K:KP} {l:List (List db)} {v:U} {p:List db->Bool} (h:bL K 1 (RL K 5 mJ) l v) {V:aE} {L:Own} (ar:D V K L)
  (A:∀x u V L,D V K L->RL K 5 mJ x [u]->bu Tryz.prog G 64 [u] V fun v V'=>v= .bool (p x)/\D V' K L):bu Tryz.prog G 87 [v,.func 64 [] []] V fun v V'=>v= .int .i64 (ew p l 0)/\D V' K L:=by
 refine SQ M Tryz.func87 Z<|Ry 9 Z<|Y Z (TF h Z Z Z (e:=56) Z) Z<|RD 4 Z ?_;obtain⟨LL1,ar,hLL1⟩:=ar.named;refine bf ([4,5]++rg 8 11) (fun j t V=>∃(i:Nat),j+i=l.length/\ew p l 0=ew p (l.drop i) i/\t.get 8=some (.int .i64 (.ofNat i))/\D V K LL1) (l.length) ⟨0,Z,Z,Z,ar⟩ ?_;clear ar;intro Q t V an R;obtain⟨i,hj,he,F,ar⟩:=R;subst hLL1;obtain⟨oo,rfl⟩:=an.q1 F Z;refine Sl 6 Z<|aD Z (fun I=>?_) (fun I=>?_)
 ·refine Qs 15 Z ?_;obtain⟨B,w,aa⟩:=cK I;refine Tw (e:=56) (m:=1) h w Z Z Z Z (fun ao ab E ac z=>?_);have hr14':=z;obtain⟨ap,rfl,am⟩:=hr14';refine Y Z (TH ar E Z Z) Z<|bz Z (TB Z Z Z) (fun _=>Z) (A B _ _ _ ar z) (fun V ar=>?_);refine So 2 Z<|aD Z (fun C=>?_) (fun C=>?_)
  ·refine SW 7 Z<|aK<|aA<|bD<|aK<|aA (?_);exact aB Z Z ⟨cJ (by symm;rw[he,cu w];show(bif p B then _ else _)=_;rw[C];rfl),ar⟩
  refine aG<|aC<|SV 4 Z<|aH ⟨Q-1,by omega,oF,i+1,by omega,by rw[he,cu w];show(bif p B then _ else _)=_;rw[C];rfl,cI<|aW (by have:=h.bO;omega),ar⟩
 refine RC 3 Z<|aL<|SW 6 Z ?_;exact aB Z Z ⟨cJ (by symm;rw[he,eF<|bA I];rfl),ar⟩
theorem wb {G:Cx} (j:Plain G) {K:KP} {l:List (List db)} {v:U} (h:bL K 1 (RL K 5 mJ) l v) {V:aE} {L:Own} (ar:D V K L):bu Tryz.prog G 63 [v,.func 64 [] []] V fun v V'=>v= .bool (l.any fun x=>b9 14 (.ofNat x.length))/\D V' K L:=by
 refine SQ j Tryz.func63 Z (Sm 9 Z (bz Z (TB Z Z Z) (fun _=>Z) (Bt j h ar (p:=fun x=>b9 14 (.ofNat x.length)) fun x u V L ar m=>by obtain⟨w,hw,hk⟩:=m;cases hw;exact FU j hk ar) (fun V ar=>?_)));refine Sr 5 Z ?_;exact aB Z Z ⟨cB<|xH _ _,ar⟩
theorem I6 {G:Cx} (u:Plain G) {K:KP} {g:XG} {a b c d:U} (h:gY K g a b c d) {V:aE} {L:Own} (ar:D V K L):bu Tryz.prog G 46 [.agg [a,b,c,d]] V fun v V'=>v= .bool (eU g)/\D V' K L:=by
 have h':=h;obtain⟨hi,w,hf,ho⟩:=h';refine SQ u Tryz.func46 Z<|Sm 2 Z<|kp ar Z (cC Z Z) (fun V b1 ar=>?_);refine RM ar 7 [1,0] Z Z<|Y Z (TF w Z Z Z (e:=56) Z) Z<|vQ 1 Z<|ky Z (aq Z) (fun m=>?_) (fun m=>?_)
 ·refine Sr 14 Z ?_;exact aB Z Z ⟨cB (by unfold eU;simp only[m,ct,cf]),ar.pop⟩
 refine S2 ar 2 [0,0] Z Z<|Y Z (TF hi Z Z Z (e:=2) Z) Z<|SY 2 Z<|ky Z (aq Z) (fun j=>?_) (fun j=>?_)
 ·refine Sr 8 Z ?_;exact aB Z Z ⟨cB (by unfold eU;simp only[m,j,ct,cf]),ar.pop⟩
 refine S2 ar 2 [1,0] Z Z<|bz Z (TB Z Z Z) (fun _=>Z) (wb u w ar) (fun V ar=>?_);refine Sr 5 Z ?_;exact aB Z Z ⟨cB (by unfold eU;simp only[m,j,ct,cf]),ar.pop⟩
theorem Oi {G:Cx} (hG:Plain G) {K:KP} {g:XG} {a b c d:U} (h:gY K g a b c d) {V:aE} {L:Own} (ar:D V K L):bu Tryz.prog G 24 [.agg [a,b,c,d]] V fun v V'=>v= .int .i64 (cV g)/\D V' K L:=by
 have h':=h;obtain⟨hi,ht,hf,ho⟩:=h';refine SQ hG Tryz.func24 Z<|Sm 2 Z<|kp ar Z (cC Z Z) (fun V b1 ar=>?_);refine Q9 6 Z<|Y Z (TE Z ar.g0 (n:=4) (vs:=[_,_,_,_]) Z) Z<|bz Z (TB Z Z Z) (fun _=>Z) (I6 hG h ar) (fun V ar=>?_);refine So 2 Z<|aD Z (fun X=>?_) (fun X=>?_)
 ·refine Sn 7 Z ?_;exact aB Z Z ⟨cJ (by symm;unfold cV;rw[X];rfl),ar.pop⟩
 refine Rz 3 Z<|Sm 2 Z<|S2 ar 2 [2,0] Z Z<|Y Z (TF hf Z Z Z (e:=49) Z) Z<|S2 ar 2 [1,0] Z Z<|Y Z (TF ht Z Z Z (e:=56) Z) Z<|vQ 1 Z<|ky Z (aq Z) (fun A=>?_) (fun A=>?_)
 ·refine RG 18 Z ?_;exact aB Z Z ⟨cJ (by symm;unfold cV;rw[X,bW A];rfl),ar.pop⟩
 refine S2 ar 2 [3,0] Z Z<|Y Z (TF ho Z Z Z (e:=49) Z) Z<|S2 ar 2 [0,0] Z Z<|Y Z (TF hi Z Z Z (e:=2) Z) Z<|So 4 Z<|aD Z (fun E=>?_) (fun E=>?_)
 ·refine Sn 7 Z ?_;exact aB Z Z ⟨cJ (by symm;unfold cV;rw[X,bK A,bW E];rfl),ar.pop⟩
 refine Rz 3 Z<|Sm 2 Z<|S2 ar 2 [1,0] Z Z<|Y Z (TF ht Z Z Z (e:=56) Z) Z<|RD 4 Z ?_;obtain⟨LL1,ar,hLL1⟩:=ar.named;refine bf (rg 2 5++rg 28 46) (fun j t V=>∃(i:Nat),j+i=g.threads.length/\m8 g g.threads g.from_ 0=m8 g (g.threads.drop i) (g.from_.drop i) i/\t.get 28=some (.int .i64 (.ofNat i))/\D V K LL1) (g.threads.length) ⟨0,Z,Z,Z,ar⟩ ?_;clear ar;intro j6 t V an hI;obtain⟨i,b4,T,a0,ar⟩:=hI;subst hLL1;obtain⟨oo,rfl⟩:=an.q1 a0 Z;refine Sl 6 Z<|aD Z (fun aa=>?_) (fun aa=>?_)
 ·refine Qs 7 Z ?_;obtain⟨u,B,a1⟩:=cK aa;refine Tw (e:=56) (m:=1) ht B Z Z Z Z (fun b5 bm a2 bo a3=>?_);have hr31':=a3;obtain⟨b6,rfl,Q⟩:=hr31';refine Y Z (TH ar a2 Z Z) Z<|Rb ar 10 [2,0] Z Z ?_;obtain⟨w,z⟩:=cL (show i<g.from_.length from by rw[dC<|bK A];exact a1);refine Tw (e:=49) (m:=1) hf z Z Z Z Z (fun b7 bp a4 bq a5=>?_);have hr36':=a5;obtain⟨b8,rfl,a6⟩:=hr36';refine Y Z (TH ar a4 Z Z) Z<|Y Z (TF a6 Z Z Z (e:=51) Z) Z<|vQ 1 Z<|Y Z (TF Q Z Z Z (e:=59) Z) Z<|So 3 Z<|aD Z (fun F=>?_) (fun F=>?_)
  ·refine SW 6 Z<|aA<|aK<|aA<|bD<|aK<|aA (?_);exact aB Z Z ⟨cJ (by symm;unfold cV;rw[X,bK A,bK E,show m8 g g.threads g.from_ 0=false from by rw[T,cu B,cu z];show(bif H _ _ then _ else false)=false;rw[bW F];rfl];rfl),ar.pop⟩
  refine RB 5 Z<|Y Z (TF Q Z Z Z (e:=59) Z) Z<|RD 4 Z ?_;obtain⟨LL2,ar,hLL2⟩:=ar.named;refine bf ([2,5,6]++rg 44 29) (fun j t V=>∃(I:Nat),j+I=u.length/\sF g i u w 0=sF g i (u.drop I) (w.drop I) I/\t.get 44=some (.int .i64 (.ofNat I))/\D V K LL2) (u.length) ⟨0,Z,Z,Z,ar⟩ ?_;clear ar;intro bl t V an hI;obtain⟨I,br,R,a7,ar⟩:=hI;subst hLL2;obtain⟨oo,rfl⟩:=an.q1 a7 Z;refine Sl 6 Z<|aD Z (fun am=>?_) (fun am=>?_)
  ·refine Qs 7 Z ?_;obtain⟨W,S,ac⟩:=cK am;refine Tw (e:=59) (m:=5) Q S Z Z Z Z (fun ca bs a8 bt a9=>?_);obtain rfl:=a9;refine Y Z (TI ar a8 Z Z) Z<|kp ar Z (TG (cs:=[N,N,N,N,N])) (fun V b2 ar=>?_);refine vQ 1 Z<|bZ ar Z (TJ Z Z Z ar.g0 (m:=5) Z Z (cells':=[_,_,_,_,_]) Z) Z (fun V ar=>?_);refine So 2 Z<|al<|aU (l:=zp [0,1,2,3,4,5,6,7,8,9,10,11,12,13,14,15,16,17,18,19,20,21,22]) O O<|ai Z Z (TE Z ar.g0 (n:=5) (vs:=[_,_,_,_,_]) Z) Z<|S3 ar 2 [0,1] Z Z<|ai Z Z (TF hi Z Z Z (e:=2) Z) Z<|eB Z Z (TB Z Z Z) (fun _=>Z) (Bw hG _ _ ar) (fun V ar=>?_);refine⟨ba,?_⟩;refine ai Z Z (da Z) Z<|eg Z Z (aq Z) (fun _=>Z) (fun ab=>?_) (fun ab=>?_)
   ·refine Su 25 Z<|aK<|aA<|bD<|aK<|aK<|aA<|bD<|aK<|aA (?_);exact aB Z Z ⟨cJ (by symm;unfold cV;rw[X,bK A,bK E,show m8 g g.threads g.from_ 0=false from by rw[T,cu B,cu z];show(bif H _ _ then(bif sF g i u w 0 then _ else false) else false)=false;rw[bK F,show sF g i u w 0=false from by rw[R];obtain⟨M,C⟩:=cL (show I<w.length from by rw[dC<|bK F];exact ac);rw[cu S,cu C];show(bif wB g i I W M then _ else false)=false;rw[show wB g i I W M=false from by unfold wB;rw[vM ab];rfl];rfl];rfl];rfl),ar.pop.pop⟩
   refine ai Z Z (TE Z ar.g1 (n:=4) (vs:=[_,_,_,_]) Z) Z (S0 3 Z (ai Z Z (TA (places:=[(0,1),(1,1)]) (zero:=[N,N]) (cs:=[_,_]) Z) Z<|S3 ar 3 [2,1] Z Z<|Tx (e:=49) (m:=1) hf z Z Z Z Z Z (fun cb bv bb bw bd=>?_)));have hr64':=bd;obtain⟨cc,rfl,be⟩:=hr64';refine ai Z Z (TH ar bb Z Z) Z<|wQ 1 Z ?_;obtain⟨M,C⟩:=cL (show I<w.length from by rw[dC<|bK F];exact ac);refine Tx (e:=51) (m:=2) be C Z Z Z Z Z (fun ce b0 bi b3 bk=>?_);obtain rfl:=bk;refine ai Z Z (TI ar bi Z Z) Z<|eB Z Z (TB Z Z Z) (fun _=>Z) (DJ hG h _ _ _ _ ar) (fun V ar=>?_);refine⟨ba,?_⟩;refine ai Z Z (da Z) Z<|Ss 3 Z<|aD Z (fun ao=>?_) (fun ao=>?_)
   ·refine SW 6 Z<|aK<|aA<|bD<|aK<|aK<|aA<|bD<|aK<|aA (?_);exact aB Z Z ⟨cJ (by symm;unfold cV;rw[X,bK A,bK E,show m8 g g.threads g.from_ 0=false from by rw[T,cu B,cu z];show(bif H _ _ then(bif sF g i u w 0 then _ else false) else false)=false;rw[bK F,show sF g i u w 0=false from by rw[R];rw[cu S,cu C];show(bif wB g i I W M then _ else false)=false;rw[show wB g i I W M=false from by unfold wB;rw[kh ab,<-aW (i:=i) (by have:=ht.bO;omega)];exact vM ao];rfl];rfl];rfl),ar.pop.pop⟩
   refine aG<|aC<|SV 4 Z ?_;have ar:=ar.pop;refine aH ⟨bl-1,by omega,oF,I+1,by omega,by rw[R,cu S,cu C];show(bif wB g i I W M then _ else false)=_;rw[show wB g i I W M=true from by unfold wB;rw[kh ab,<-aW (i:=i) (by have:=ht.bO;omega)];exact kh ao];rfl,cI<|aW (by have:=Q.bO;omega),ar⟩
  refine RC 3 Z<|aL<|aC<|SV 4 Z<|aH ⟨j6-1,by omega,oF,i+1,by omega,by rw[T,cu B,cu z];show(bif H _ _ then(bif sF g i u w 0 then _ else false) else false)=_;rw[bK F,show sF g i u w 0=true from by rw[R,eF<|bA am];rfl];rfl,cI<|aW (by have:=ht.bO;omega),ar⟩
 refine RC 3 Z<|aL<|Ry 3 Z<|Y Z (TE Z ar.g0 (n:=4) (vs:=[_,_,_,_]) Z) Z<|bz Z (TB Z Z Z) (fun _=>Z) (Bx hG h ar) (fun V ar=>?_);refine Y Z (da Z) Z<|So 2 Z<|aD Z (fun ap=>?_) (fun ap=>?_)
 ·refine Sn 7 Z ?_;exact aB Z Z ⟨cJ (by symm;unfold cV;rw[X,bK A,bK E,show m8 g g.threads g.from_ 0=true from by rw[T,eF<|bA aa];rfl,vM ap];rfl),ar.pop⟩
 refine Sn 8 Z ?_;exact aB Z Z ⟨cJ (by symm;unfold cV;rw[X,bK A,bK E,show m8 g g.threads g.from_ 0=true from by rw[T,eF<|bA aa];rfl,kh ap];rfl),ar.pop⟩
theorem RL.mono {α:Type} {K K':KP} (hk:KP.le K K') {m:Nat} {R:α->List U->Prop} {l:List α} {vs:List U} (h:RL K m R l vs):RL K' m R l vs:=let ⟨v,h1,j⟩:=h;⟨v,h1,j.mono hk fun _ _ h=>h⟩
theorem gY.mono {K K':KP} (hk:KP.le K K') {g:XG} {a b c d:U} (h:gY K g a b c d):gY K' g a b c d:=
 ⟨h.init.mono hk fun _ _ h=>h,h.threads.mono hk fun _ _ h=>h.mono hk,h.from_.mono hk fun _ _ h=>h.mono hk,h.order.mono hk fun _ _ h=>h.mono hk⟩
theorem NS {α:Type} (M O_ L:List α) (e a b:α):(e::(M++(a::(O_++(b::L))))).Perm (e::(O_++(M++(a::b::L)))):=by
 classical
 rw[List.perm_iff_count];intro y;simp only[List.count_append,List.count_cons];omega
theorem Lk {α:Type} (M O_ L:List α) (a b:α):(O_++(M++(a::b::L))).Perm (M++(a::(O_++(b::L)))):=by
 classical
 rw[List.perm_iff_count];intro y;simp only[List.count_append,List.count_cons];omega
theorem Ll {α:Type} (M N_ L:List α) (a b c d:α):(M++(N_++(a::b::c::d::L))).Perm ((M++N_)++(a::b::c::d::L)):=by rw[lQ_]
theorem Fi {α:Type} (a b c d:α) (L:List α):(a::b::c::d::L).Perm (b::c::a::d::L):=(List.Perm.swap b a _).trans (.cons b<|List.Perm.swap c a _)
theorem Lh {α:Type} (O_ L:List α) (a b:α):(a::(O_++(b::L))).Perm (O_++(b::a::L)):=by
 classical
 rw[List.perm_iff_count];intro y;simp only[List.count_append,List.count_cons];omega
theorem Qg {G:Cx} (hG:Plain G) {K:KP} {g:XG} {a b c d:U} (hg:gY K g a b c d) (hR:dO g) {ps:List Int} {pv:U} (hp:bL K 1 eu ps pv) {p q:Nat->Nat} (h:Pm g.threads.length p q) (hlen:ps.length=g.threads.length) (a5:∀i,i<g.threads.length->ps[i]?=some (.ofNat (p i+1))) {V:aE} {L:Own} (ar:D V K L):
  bu Tryz.prog G 26 [.agg [a,b,c,d],pv] V fun v V'=>∃K' a' b' c' d',v= .agg [a',b',c',d']/\KP.le K K'/\gY K' (fA p q g) a' b' c' d'/\D V' K' L:=by
 have hck:=ef.2 hR;obtain⟨br,cv,bs,bt,cw,cx,cy⟩:=gz hck;obtain⟨N_,hN⟩:∃N_,N_=g.threads.length:=⟨_,Z⟩;have B:ps.length=N_:=by rw[hlen,hN]
 have c0:g.from_.length=N_:=by rw[bt,hN]
 rw[<-hN] at h a5 br;refine bn hG Tryz.func26 Z (t:=(PT.leaf.put (some (.agg [a,b,c,d])) 0).put (some (pv)) 1) (by rfl) ?_;refine al ?_;refine ah Z ?_;refine bG ar Z (cC Z Z) (fun _=>Z) (fun V b1 ar=>?_);refine bG ar Z (cC Z hp.leaf.1) (fun _=>Z) (fun V b2 ar=>?_);obtain⟨K1,W,u,ar⟩:=ar.cq (M:=[_,_]);have a7:K1 b1 (.row [a,b,c,d] 27 false):=u _ (.tail _ (.head _));have F:eL K1 (.ptr b2 0) [pv]:=.one (u _ (.head _));clear u;have hg1:=hg.mono W;have hp1:=hp.mono W fun _ _ h=>h
 refine bG ar Z (cQ (cs:=[.az,.az,.az,.az]) O O) (fun _=>Z) (fun V b3 ar=>?_);refine af ?_;refine ad ?_;refine al ?_;refine ah Z ?_;refine Y Z (bU Z Z) Z ?_;refine Y Z (ak Z) Z ?_;refine af ?_;refine ad ?_;refine al ?_;refine aU (l:=[(0,[]),(1,[]),(3,[]),(4,[]),(5,[]),(6,[]),(7,[]),(8,[]),(10,[]),(2,[3,5,6,8,10]),(9,[]),(11,[])]) O O ?_;refine ai Z Z (av Z (k:=0) O) Z ?_;refine ai Z Z (aw Z (ar.eN a7) O Z) Z ?_;refine ai Z Z (aN ar F Z O Z) Z ?_;refine ai Z Z (aZ hp1 Z Z Z (e:=3) O Z) Z ?_;refine qc ar Z Z (lM (n:=N_) (e:=56) (w:=24) (z:=[.az]) O O O O (show _=some (U.int .i64 (.ofNat N_)) from by rw[<-B];rfl) (show _=some (U.int .i64 (.ofNat N_)) from by rw[<-B];rfl) oM oM) (fun _=>Z) (fun V b4 ar=>?_);rw[kH] at ar;refine ai Z Z (aN ar F Z O Z) Z ?_;refine ai Z Z (aZ hp1 Z Z Z (e:=3) O Z) Z ?_;refine qc ar Z Z (lM (n:=N_) (e:=49) (w:=24) (z:=[.az]) O O O O (show _=some (U.int .i64 (.ofNat N_)) from by rw[<-B];rfl) (show _=some (U.int .i64 (.ofNat N_)) from by rw[<-B];rfl) oM oM) (fun _=>Z) (fun V b5 ar=>?_);rw[kH] at ar;refine qd ar Z Z (cQ (cs:=[.az,.az,.az,.az]) O O) (fun _=>Z) (fun V b6 ar=>?_);refine fB Z Z (aV Z Z Z O) (fun _=>Z) (I3 hG hg1.init oM ar) ?_;rintro a8 V ⟨bv,hM13,ar⟩;refine⟨(bx (bC Z Z Z Z Z (aN ar F Z O Z) hp1.eh)<|bx (tQ Z Z Z Z Z ((vm (n:=N_) (e:=56) (w:=24) (z:=[.az]) O O O O (show _=some (U.int .i64 (.ofNat N_)) from by rw[<-B];rfl) (show _=some (U.int .i64 (.ofNat N_)) from by rw[<-B];rfl) oM oM).trans (by rw[kH])) (ar.bR.pop.pop.get 0 Z)<|BW _)<|bx (bC Z Z Z Z Z (aN ar F Z O Z) hp1.eh)<|bx (tQ Z Z Z Z Z ((vm (n:=N_) (e:=49) (w:=24) (z:=[.az]) O O O O (show _=some (U.int .i64 (.ofNat N_)) from by rw[<-B];rfl) (show _=some (U.int .i64 (.ofNat N_)) from by rw[<-B];rfl) oM oM).trans (by rw[kH])) (ar.bR.pop.get 0 Z)<|BW _)<|bx (iE Z Z Z Z Z (cs:=[.az,.az,.az,.az]) (e:=27) O (ar.bR.get 0 Z) O) ba),?_⟩;refine ai Z Z (cH (places:=[(0,1),(1,1),(2,1),(3,1)]) (zero:=[.az,.az,.az,.az]) (cs:=[_,_,_,_]) O O O (bj Z Z hM13.leaf.1 Z<|bj Z Z Z Z<|bj Z Z Z Z bF) O) Z ?_
 refine gD ar (.dN .here) Z Z (aR Z Z Z (ar.bR.get 0 Z) (m:=4) O Z (Nat.le_of_ble_eq_true Z) (aj hM13.leaf.2<|aj Z<|aj Z<|aj Z aI) (cells':=[_,_,_,_]) Z) Z (fun V ar=>?_);refine⟨ba,?_⟩;obtain⟨K2,I,u,ar⟩:=ar.cq (M:=bv);have hi13:=hM13.jK (K:=K2) u;clear u;have hb2:=I _ _ a7;have hg2:=hg1.mono I;have hpp2:=F.mono I;have hp2:=hp1.mono I fun _ _ h=>h
 refine aX ?_;refine ad ?_;refine al ?_;refine al ?_;refine ah Z ?_;refine Y Z (av Z (k:=1) O) Z ?_;refine Y Z (aw Z (ar.eN hb2) O Z) Z ?_;refine Y Z (aZ hg2.threads Z Z Z (e:=56) O Z) Z ?_;refine Y Z (aq Z) Z ?_;refine af ?_;refine ad ?_;refine aJ ?_;refine bf [7,24,25,26,27,28,29,30,31,32,33,34,35,36,37,38,39,40,41,42,43,44,45,46,47,48,49,50,51,52,53,54,55,56] (fun j t V=>∃(i:Nat) (K3:KP) (usT usF:List U),(j+i=N_/\KP.le K2 K3/\Rows K3 5 mJ (E6 q g.threads N_ i) usT/\Rows K3 2 nH (E6 q (g.from_.map (·.map<|BE ps)) N_ i) usF)/\t.get 24=some (.int .i64 (.ofNat i))/\D V K3 ((b6,.row [a8,.slice b4 0 N_ (.known N_),.slice b5 0 N_ (.known N_),.az] 27 false)::(b5,.row usF 49 false)::(b4,.row usT 56 false)::(b3,.row [.az,.az,.az,.az] 27 false)::L)) (N_) ⟨0,K2,List.replicate N_ .az,List.replicate N_ .az,⟨Z,KP.le_refl _,by rw[CU];exact Rows.Q2,by rw[CU];exact Rows.Q2⟩,Z,ar⟩ ?_
 clear ar;intro j4 t V an hI;obtain⟨i,K3,usT,usF,⟨c1,C,hT,hF⟩,X,ar⟩:=hI;replace an:=an.bH Z Z;obtain⟨o7,bw,c2,c3,c4,c5,c7,c8,an⟩:=an;replace an:=an.bH Z Z;obtain⟨c9,dd,df,dl,dm,dr,ds,dx,an⟩:=an;replace an:=an.bH Z Z;obtain⟨d0,d1,d2,d3,d4,d5,d6,d7,an⟩:=an;replace an:=an.bH Z Z;obtain⟨d8,d9,ee,el,em,en,eo,er,an⟩:=an;replace an:=an.dz Z;obtain⟨es,an⟩:=an;replace an:=an.dz Z;obtain⟨et,an⟩:=an;obtain rfl:=an.nil;clear an;replace X:bw=some _:=X;subst X;refine al ?_;refine ah Z ?_;have hb3:=C _ _ hb2;have hg3:=hg2.mono C;have hpp3:=hpp2.mono C;have hp3:=hp2.mono C fun _ _ h=>h
 refine Y Z (ax Z Z Z) Z ?_;refine af ?_;refine ad ?_;refine al ?_;refine aD Z (fun a6=>?_) (fun a6=>?_)
 ·refine aG ?_;refine ad ?_;refine al ?_;refine aJ ?_;refine al ?_;refine ah Z ?_;have T:i<N_:=by have:=bc a6;omega
  obtain⟨row,Q⟩:=cL (show i<g.threads.length by omega);obtain⟨fr,ao⟩:=cL (show i<g.from_.length by omega);have hpsi:=a5 i T;have hpi:=h.lt i T;have a9:usT.length=N_:=by rw[hT.1];unfold E6;simp
  have bb:usF.length=N_:=by rw[hF.1];unfold E6;simp
  refine Y Z (aq Z) Z ?_;refine Y Z (ak Z) Z ?_;refine af ?_;refine ad ?_;refine aU (l:=[(0,[]),(1,[]),(2,[]),(3,[]),(4,[]),(5,[]),(6,[]),(7,[]),(8,[]),(9,[]),(10,[]),(11,[]),(12,[]),(13,[]),(14,[]),(15,[]),(16,[]),(17,[]),(18,[]),(20,[]),(21,[]),(22,[]),(23,[]),(24,[]),(25,[]),(19,[1,2,5,8,9,12,22,25]),(26,[1,2,5,8,9,12]),(27,[]),(28,[8]),(29,[]),(30,[])]) O O ?_;refine ai Z Z (av Z (k:=1) O) Z ?_;refine ai Z Z (aw Z (ar.get 0 Z) O Z) Z ?_;refine ai Z Z (aN ar hpp3 Z O Z) Z ?_;refine ai Z Z (aq Z) Z ?_;refine bV (e:=3) (m:=1) hp3 hpsi Z Z Z O O Z Z (fun _=>Z) (fun ev cc aa ce bd=>?_);obtain rfl:=bd;refine ai Z Z (aN ar aa Z O Z) Z ?_;refine ai Z Z (ax (v:=.int .i64 (.ofNat<|p i)) Z Z<|congrArg (fun z=>some (U.int .i64 z))<|gW oM) Z ?_;refine ai Z Z (av Z (k:=2) O) Z ?_;refine ai Z Z (aw Z (ar.get 0 Z) O Z) Z ?_;refine ai Z Z (aN ar hpp3 Z O Z) Z ?_;refine ai Z Z (aq Z) Z ?_;refine bV (e:=3) (m:=1) hp3 hpsi Z Z Z O O Z Z (fun _=>Z) (fun ex cg ab hl38 be=>?_);obtain rfl:=be;refine ai Z Z (aN ar ab Z O Z) Z ?_;refine ai Z Z (ax (v:=.int .i64 (.ofNat<|p i)) Z Z<|congrArg (fun z=>some (U.int .i64 z))<|gW oM) Z ?_;refine ai Z Z (av Z (k:=1) O) Z ?_;refine ai Z Z (aw Z (ar.eN hb3) O Z) Z ?_;refine ai Z Z (aq Z) Z ?_;refine bV (e:=56) (m:=1) hg3.threads Q Z Z Z O O Z Z (fun _=>Z) (fun eC ch bi ci bk=>?_);have hr44':=bk;obtain⟨eS,rfl,bl⟩:=hr44';refine ai Z Z (aN ar bi Z O Z) Z ?_;refine ai Z Z (aq Z) Z ?_;refine ai Z Z (av Z (k:=2) O) Z ?_;refine ai Z Z (aw Z (ar.eN hb3) O Z) Z ?_;refine ai Z Z (aq Z) Z ?_;refine bV (e:=49) (m:=1) hg3.from_ ao Z Z Z O O Z Z (fun _=>Z) (fun eT cj a1 ck bm=>?_);have hr51':=bm;obtain⟨e0,rfl,a2⟩:=hr51';refine ai Z Z (aN ar a1 Z O Z) Z ?_;refine fB Z Z (aV Z Z Z O) (fun _=>Z) (L9 hG bl (by have:=bs _ (gB_ Q);omega) ar) ?_;rintro e2 V ⟨b0,hM46,ar⟩
  refine⟨(bx (bC Z Z Z Z Z (aw Z (ar.bR.get 0 Z) O Z)<|qD _ _ _ _)<|bx (bC Z Z Z Z Z (aN ar hpp3 Z O Z) hp3.eh)<|bx (bC Z Z Z Z Z (aN ar aa Z O Z)<|ez _ _)<|bx (bC Z Z Z Z Z (aw Z (ar.bR.get 0 Z) O Z)<|qD _ _ _ _)<|bx (bC Z Z Z Z Z (aN ar hpp3 Z O Z) hp3.eh)<|bx (bC Z Z Z Z Z (aN ar ab Z O Z)<|ez _ _)<|bx (bC Z Z Z Z Z (aw Z (ar.eN hb3) O Z) hg3.from_.eh)<|bx (bC Z Z Z Z Z (aN ar a1 Z O Z) a2.eh) ba),?_⟩;refine fB Z Z (aV Z Z Z O) (fun _=>Z) (He hG hp3 hpp3 a2 (fun x hx=>by rw[B];exact Gn (by rw[hN];exact wu hR ao hx)) (by have:=hR.rows i row fr Q ao;have:=hR.short i row Q;omega) ar) ?_;rintro e3 V ⟨b7,hM53,ar⟩;refine⟨(bx (bC Z Z Z Z Z (aw Z (ar.bR.bR.get 0 Z) O Z)<|qD _ _ _ _)<|bx (bC Z Z Z Z Z (aN ar hpp3 Z O Z) hp3.eh)<|bx (bC Z Z Z Z Z (aN ar aa Z O Z)<|ez _ _)<|bx (bC Z Z Z Z Z (aw Z (ar.bR.bR.get 0 Z) O Z)<|qD _ _ _ _)<|bx (bC Z Z Z Z Z (aN ar hpp3 Z O Z) hp3.eh)<|bx (bC Z Z Z Z Z (aN ar ab Z O Z)<|ez _ _) ba),?_⟩;refine ai Z Z (fS (e:=56) (m:=1) Z O Z Z (show p i<N_ from hpi)) Z ?_;refine gD ar (.dN (.dN (.there (.there .here)))) Z Z (ub Z Z hM46.leaf.1 (ar.bR.bR.pop.pop.get 0 Z) (m:=1) O Z oM<|aj hM46.leaf.2 Z) Z (fun V ar=>?_);refine⟨(bx (bC Z Z Z Z Z (aw Z (ar.bR.bR.get 0 Z) O Z)<|qD _ _ _ _) ba),?_⟩;rw[oX oM] at ar;refine ai Z Z (fS (e:=49) (m:=1) Z O Z Z (show p i<N_ from hpi)) Z ?_;refine gD ar (.dN (.dN (.there .here))) Z Z (ub Z Z hM53.leaf.1 (ar.bR.bR.pop.get 0 Z) (m:=1) O Z oM<|aj hM53.leaf.2 Z) Z (fun V ar=>?_);refine⟨ba,?_⟩;rw[oX oM] at ar;refine aX ?_;refine aC ?_;refine ad ?_;refine ah Z ?_;replace ar:=ar.perm (Ll ..);obtain⟨K4,ac,u,ar⟩:=ar.cq (M:=b7++b0);have hs46:=hM46.jK (K:=K4) fun e he=>u e (List.mem_append_right _ he);have hs53:=hM53.jK (K:=K4) fun e he=>u e (List.mem_append_left _ he);clear u
  refine Y Z (ax (v:=.int .i64 (.ofNat (i+1))) Z Z<|congrArg (fun z=>some (U.int .i64 z))<|aW oM) Z ?_;refine Y Z (aq Z) Z ?_;refine af ?_;refine aH ⟨j4-1,oM,(by(iterate 68 refine aT.put Z ?_);exact aT.refl _ _),i+1,K4,_,_,⟨by omega,KP.le_trans C ac,by rw[CT h T Q];exact(hT.mono ac).set hs46,by rw[CT h T (show(g.from_.map (·.map<|BE ps))[i]?=some (fr.map<|BE ps) from by rw[gM_,ao];rfl)];exact(hF.mono ac).set hs53⟩,Z,ar⟩
 refine bg ?_;refine aO ?_;refine aS ?_;refine aL ?_;refine ad ?_;refine al ?_;refine al ?_;refine ah Z ?_;have T:i=N_:=by have:=bA a6;omega
 have a9:usT.length=N_:=by rw[hT.1];unfold E6;simp
 have bb:usF.length=N_:=by rw[hF.1];unfold E6;simp
 replace ar:=ar.perm (Fi ..);obtain⟨K5,A,u,ar⟩:=ar.cq (M:=[_,_]);have hTs:=(hT.mono A).jK (u _ (.tail _ (.head _))) a9 (.inl Z) oM;have hFs:=(hF.mono A).jK (u _ (.head _)) bb (.inl Z) oM;clear u;have hb5:=A _ _ hb3;have hg5:=hg3.mono A;have hpp5:=hpp3.mono A;have hp5:=hp3.mono A fun _ _ h=>h
 refine Y Z (av Z (k:=3) O) Z ?_;refine Y Z (aw Z (ar.eN hb5) O Z) Z ?_;refine Y Z (aZ hg5.order Z Z Z (e:=49) O Z) Z ?_;refine Y Z (aq Z) Z ?_;refine af ?_;refine ad ?_;refine aJ ?_;refine bf [9,60,61,62,63,64,65,66,67,68,69,70,71,72] (fun j t V=>∃(i:Nat) (K6:KP) (us:List U) (uO:U) (O_:Own),(j+i=g.order.length/\KP.le K5 K6/\cZ 1 49 RV us uO O_/\Rows K6 2 nH ((g.order.take i).map (·.map<|BE ps)) us)/\t.get 60=some (.int .i64 (.ofNat i))/\D V K6 ((b6,.row [a8,.slice b4 0 N_ (.known N_),.slice b5 0 N_ (.known N_),uO] 27 false)::(O_++((b3,.row [.az,.az,.az,.az] 27 false)::L)))) (g.order.length) ⟨0,K5,[],.az,[],⟨Z,KP.le_refl _,.inl ⟨Z,Z,Z⟩,⟨Z,fun i r hr=>by simp at hr⟩⟩,Z,ar⟩ ?_
 clear ar;intro j9 t V an hI;obtain⟨i2,K6,us,uO,O_,⟨e4,E,hO,ap⟩,am,ar⟩:=hI;replace an:=an.bH Z Z;obtain⟨o9,b8,e5,e7,e8,e9,fd,fi,an⟩:=an;replace an:=an.jD Z;obtain⟨fk,fs,fv,f0,an⟩:=an;replace an:=an.dz Z;obtain⟨f1,an⟩:=an;replace an:=an.dz Z;obtain⟨f2,an⟩:=an;obtain rfl:=an.nil;clear an;replace am:b8=some _:=am;subst am;refine al ?_;refine ah Z ?_;have hb6:=E _ _ hb5;have hg6:=hg5.mono E;have hpp6:=hpp5.mono E;have hp6:=hp5.mono E fun _ _ h=>h
 refine Y Z (ax Z Z Z) Z ?_;refine af ?_;refine ad ?_;refine al ?_;refine aD Z (fun a0=>?_) (fun a0=>?_)
 ·refine aG ?_;refine ad ?_;refine al ?_;refine aJ ?_;refine al ?_;refine ah Z ?_;obtain⟨f3,S,cn⟩:=cK a0;refine bT (e:=49) (m:=1) hg6.order S Z Z O O Z Z (fun _=>Z) (fun f4 cp bo cr bp=>?_);have hr62':=bp;obtain⟨f5,rfl,bq⟩:=hr62';refine Y Z (aN ar bo Z O Z) Z ?_;refine Y Z (ak Z) Z ?_;refine af ?_;refine ad ?_;refine aU (l:=[(0,[]),(1,[]),(2,[]),(3,[]),(4,[1]),(5,[]),(6,[]),(7,[]),(8,[])]) O O ?_;refine ai Z Z (av Z (k:=3) O) Z ?_;refine ai Z Z (aw Z (ar.get 0 Z) O Z) Z ?_;refine ai Z Z (aq Z) Z ?_;refine ai Z Z (aq Z) Z ?_;refine fB Z Z (aV Z Z Z O) (fun _=>Z) (He hG hp6 hpp6 bq (fun x hx=>by rw[B];exact Gn (by rw[hN];exact jd hR S hx)) (by have:=C5 hck _ (gB_ S);omega) ar) ?_;rintro f6 V ⟨ca,hM68,ar⟩;refine⟨(bx (bC Z Z Z Z Z (aw Z (ar.bR.get 0 Z) O Z) (hO.jE (K:=fun _ _=>False)).eh) ba),?_⟩;refine qc ar Z Z (bP (e:=49) (m:=1) (z:=[.az]) (cs:=[_]) O O O O<|bj Z Z hM68.leaf.1 Z bF) (fun _=>Z) (fun V f7 ar=>?_);replace ar:=ar.perm (NS ..);refine mu (R:=RV) (m:=1) (e:=49) hO ar (di (m:=1) Z ⟨Z,hM68.leaf⟩) RV.leaf (by rw[ap.1,lM_,lT_];simp;omega) Z Z Z Z Z Z Z Z (fun _=>Z) (fun V f8 f9 hO70 ar=>?_);refine⟨ba,?_⟩;refine ai Z Z (av Z (k:=3) O) Z ?_;refine gD ar (.dN (.dN .here)) Z Z (aR Z Z hO70.leaf.1 (ar.bR.bR.get 0 Z) (m:=1) O Z (Nat.le_of_ble_eq_true Z) (aj hO70.leaf.2 aI) (cells':=[_,_,_,_]) Z) Z (fun V ar=>?_);refine⟨ba,?_⟩;refine aX ?_;refine aC ?_;refine ad ?_;refine ah Z ?_;replace ar:=ar.perm (Lk ..);obtain⟨K7,a3,u,ar⟩:=ar.cq (M:=ca);have hs68:=hM68.jK (K:=K7) u;clear u;refine Y Z (ax (v:=.int .i64 (.ofNat (i2+1))) Z Z<|congrArg (fun z=>some (U.int .i64 z))<|aW (by have:=hg6.order.bO;omega)) Z ?_;refine Y Z (aq Z) Z ?_;refine af ?_;refine aH ⟨j9-1,(by have:=bc a0;omega),(by(iterate 28 refine aT.put Z ?_);exact aT.refl _ _),i2+1,K7,_,_,_,⟨by omega,KP.le_trans E a3,hO70,by rw[uY S,List.map_append];exact(ap.mono a3).snoc hs68⟩,Z,ar⟩
 refine bg ?_;refine aO ?_;refine aS ?_;refine aL ?_;refine ad ?_;refine al ?_;refine ah Z ?_;refine Y Z (aY Z (ar.get 0 Z) (n:=4) (vs:=[_,_,_,_]) O (Nat.le_of_ble_eq_true Z) Z) Z ?_;refine dX ar (.there (.dN .here)) Z (aR Z Z Z (ar.pop.bR.get 0 Z) (m:=4) O Z (Nat.le_of_ble_eq_true Z) (aj hi13.leaf.2<|aj Z<|aj Z<|aj hO.leaf.2 aI) (cells':=[_,_,_,_]) Z) Z (fun V ar=>?_);refine af ?_;refine ad ?_;refine aF ?_;have cb:g.order.length<=i2:=by have:=bA a0;omega
 rw[tL_ cb] at ap;replace ar:=ar.perm (Lh ..);obtain⟨K8,a4,u,ar⟩:=ar.cq (M:=O_);have hOs:=P4 (ap.mono a4) hO u;clear u;have hl38:=KP.le_trans E a4;have hl58:=KP.le_trans A hl38;have hl28:=KP.le_trans C hl58;subst T;exact⟨.inr Z,_,rT Z Z (ar.get 0 Z) (m:=4) O Z,K8,_,_,_,_,Z,KP.le_trans W<|KP.le_trans I hl28,by subst hN;rw[Ii hR h a5];exact⟨hi13.mono hl28 fun _ _ h=>h,hTs.mono hl38 fun _ _ h=>h.mono hl38,hFs.mono hl38 fun _ _ h=>h.mono hl38,hOs⟩,ar.pop.pop⟩
theorem Lj {n:Nat} {p q:Nat->Nat} {ps:List Int} (h:Pm n p q) (j:∀i,i<n->ps[i]?=some (.ofNat (p i+1))) {t:Nat} (m:t<n):(ps.any fun y=>H (.ofNat (t+1)) y)=true:=by
 refine List.any_eq_true.2 ⟨_,gB_<|j (q t)<|h.Qq t m,?_⟩;rw[h.pq t m,dL]
theorem Mf {G:Cx} (M:Plain G) {K:KP} {g:XG} {a b c d:U} (Q:gY K g a b c d) (S:dO g) {ps:List Int} {pv:U} (hp:bL K 1 eu ps pv) {p q:Nat->Nat} (h:Pm g.threads.length p q) (hlen:ps.length=g.threads.length) (B:∀i,i<g.threads.length->ps[i]?=some (.ofNat (p i+1))) {V:aE} {L:Own} (ar:D V K L):
  bu Tryz.prog G 10 [.agg [a,b,c,d],pv] V fun v V'=>∃K' a' b' c' d',v= .tuple [.agg [a',b',c',d'],.int .i64 0]/\KP.le K K'/\gY K' (fA p q g) a' b' c' d'/\D V' K' L:=by
 have hck:=ef.2 S;refine bn M Tryz.func10 Z (t:=(PT.leaf.put (some (.agg [a,b,c,d])) 0).put (some (pv)) 1) (by rfl) ?_;refine al ?_;refine ah Z ?_;refine bG ar Z (cC Z Z) (fun _=>Z) (fun V b1 ar=>?_);refine bG ar Z (cQ (cs:=[.az,.az,.az,.az]) O O) (fun _=>Z) (fun V b2 ar=>?_);refine Y Z (ak Z) Z ?_;refine af ?_;refine ad ?_;refine al ?_;refine al ?_;refine ah Z ?_;refine Y Z (aY Z (ar.get 1 Z) (n:=4) (vs:=[_,_,_,_]) O (Nat.le_of_ble_eq_true Z) Z) Z ?_;refine bz Z (aV Z Z Z O) (fun _=>Z) (by have q:=Oi M Q ar;rw[hck] at q;exact q) (fun V ar=>?_);refine Y Z (ax Z Z Z) Z ?_;refine aP Z (aq Z) (fun _=>Z) (fun C=>?_) (fun C=>?_)
 ·exact absurd C (by decide)
 refine Y Z (aq Z) Z ?_;refine Y Z (aZ hp Z Z Z (e:=3) O Z) Z ?_;refine Y Z (av Z (k:=1) O) Z ?_;refine Y Z (aw Z (ar.get 1 Z) O Z) Z ?_;refine Y Z (aZ Q.threads Z Z Z (e:=56) O Z) Z ?_;refine Y Z (ax Z Z Z) Z ?_;refine Y Z (ay Z Z) Z ?_;refine af ?_;refine ad ?_;refine aD Z (fun E=>?_) (fun E=>?_)
 ·exact absurd (bW E) (by rw[hlen,dL];decide)
 refine aG ?_;refine ad ?_;refine al ?_;refine al ?_;refine ah Z ?_;refine Y Z (aq Z) Z ?_;refine Y Z (aZ hp Z Z Z (e:=3) O Z) Z ?_;refine Y Z (aq Z) Z ?_;refine af ?_;refine ad ?_;refine aJ ?_;obtain⟨LL1,ar,hLL1⟩:=ar.named;refine bf [5,6,21,22,23,24,25,26,27,28,29,30] (fun j t V=>∃(i:Nat),j+i=ps.length/\t.get 21=some (.int .i64 (.ofNat i))/\D V K LL1) (ps.length) ⟨0,Z,Z,ar⟩ ?_;clear ar;intro T t V an W;obtain⟨i,aa,w,ar⟩:=W;subst hLL1;replace an:=an.bH Z Z;obtain⟨o5,o6,R,ab,ac,am,ao,ap,an⟩:=an;replace an:=an.jD Z;obtain⟨a0,a2,a3,a4,an⟩:=an;obtain rfl:=an.nil;clear an;replace w:R=some _:=w;subst w;refine al ?_;refine ah Z ?_;refine Y Z (ax Z Z Z) Z ?_;refine af ?_;refine ad ?_;refine al ?_;refine aD Z (fun u=>?_) (fun u=>?_)
 ·refine aG ?_;refine ad ?_;refine al ?_;refine aJ ?_;refine al ?_;refine ah Z ?_;refine Y Z (aq Z) Z ?_;refine Y Z (ak Z) Z ?_;refine af ?_;refine ad ?_;refine al ?_;refine ah Z ?_;refine Y Z (aq Z) Z ?_;refine Y Z (aq Z) Z ?_;refine Y Z (ax (v:=.int .i64 (.ofNat (i+1))) Z Z<|congrArg (fun z=>some (U.int .i64 z))<|aW (by have:=hp.bO;have:=bc u;omega)) Z ?_;refine bz Z (aV Z Z Z O) (fun _=>Z) (DG M hp (.ofNat (i+1)) ar) (fun V ar=>?_);refine Y Z (da Z) Z ?_;refine af ?_;refine ad ?_;refine aD Z (fun F=>?_) (fun F=>?_)
  ·exact absurd F (by rw[Lj h B (by rw[<-hlen];exact bc u)];decide)
  refine aG ?_;refine aC ?_;refine ad ?_;refine ah Z ?_;refine Y Z (ax Z Z Z) Z ?_;refine Y Z (aq Z) Z ?_;refine af ?_;refine aH ⟨T-1,(by have:=bc u;omega),(by(iterate 22 refine aT.put Z ?_);exact aT.refl _ _),i+1,by have:=bc u;omega,congrArg (fun z=>some (U.int .i64 z))<|aW (by have:=hp.bO;have:=bc u;omega),ar⟩
 refine bg ?_;refine aO ?_;refine aS ?_;refine aL ?_;refine ad ?_;refine al ?_;refine ah Z ?_;refine Y Z (aY Z (ar.get 1 Z) (n:=4) (vs:=[_,_,_,_]) O (Nat.le_of_ble_eq_true Z) Z) Z ?_;refine Y Z (aq Z) Z ?_;refine cM Z (aV Z Z Z O) (fun _=>Z) (Qg M Q S hp h hlen B ar) ?_;rintro _ V ⟨X,a1,b1_,c1,d1,rfl,I,A,ar⟩;refine bZ ar Z (aR Z Z Z (ar.get 0 Z) (m:=4) O Z (Nat.le_of_ble_eq_true Z) (aj A.init.leaf.2<|aj A.threads.leaf.2<|aj A.from_.leaf.2<|aj A.order.leaf.2 aI) (cells':=[_,_,_,_]) Z) Z (fun V ar=>?_);refine Y Z (ak Z) Z ?_;refine af ?_;refine ad ?_;refine aF ?_;exact⟨.inr Z,_,tF Z Z (ar.get 0 Z) (m:=4) O Z Z,X,_,_,_,_,Z,I,A,ar.pop.pop⟩
theorem qX {G:Cx} (W:Plain G) {K:KP} {n:Nat} (hn:n<=64) {R:Rn} {v:U} (h:bL K 1 RU (bJ n R) v) {V:aE} {L:Own} (ar:D V K L):
  bu Tryz.prog G 93 [.agg [.int .i64 (.ofNat n),v]] V fun u V'=>u= .int .i64 0/\D V' K L:=by
 have hlen:=cF n R;refine SQ W Tryz.func93 Z<|Sm 2 Z<|kp ar Z (cC Z Z) (fun V b1 ar=>?_);refine Rb ar 9 [0,0] Z Z<|ky Z (aq Z) (fun T=>?_) (fun T=>?_)
 ·exact Bool.noConfusion (show false=true from T)
 refine S2 ar 4 [0,0] Z Z<|ky Z (aq Z) (fun B=>?_) (fun B=>?_)
 ·exact absurd (bc (a:=64) (b:=n) B) oM
 refine S2 ar 2 [1,0] Z Z<|Y Z (TF h Z Z Z (e:=164) Z) Z<|Sw ar 6 [0,0] Z Z<|aD Z (fun C=>?_) (fun C=>?_)
 ·exact absurd C (by rw[hlen,dL];decide)
 refine Q7 9 Z ?_;obtain⟨LL1,ar,hLL1⟩:=ar.named;refine bf ([2,3,4]++rg 21 22) (fun j t V=>∃(i:Nat),j+i=n/\t.get 3=some (.int .i64 (.ofNat i))/\D V K LL1) (n) ⟨0,Z,Z,ar⟩ ?_;clear ar;intro X t V an M;obtain⟨i,ac,Q,ar⟩:=M;subst hLL1;obtain⟨oo,rfl⟩:=an.q1 Q Z;refine RJ ar 7 [0,0] Z Z<|So 2 Z<|aD Z (fun w=>?_) (fun w=>?_)
 ·refine Qt ar 9 [0,0] Z Z<|RD 3 Z ?_;obtain⟨LL2,ar,hLL2⟩:=ar.named;refine bf ([2,4]++rg 29 14) (fun j t V=>∃(z:Nat),n<=z/\j+z=64/\t.get 4=some (.int .i64 (.ofNat z))/\D V K LL2) (64-n) ⟨n,nR_ _,by omega,Z,ar⟩ ?_;clear ar;intro j7 t V an M;obtain⟨z,am,ao,S,ar⟩:=M;subst hLL2;obtain⟨oo,rfl⟩:=an.q1 S Z;refine Sl 7 Z<|aD Z (fun A=>?_) (fun A=>?_)
  ·refine Qt ar 9 [1,0] Z Z<|Tw (e:=164) (m:=1) h (ek<|bc w) Z Z Z Z (fun ap aa E ab F=>?_);obtain rfl:=F;refine Y Z (TH ar E Z Z) Z<|vQ 1 Z<|Y Z (iX (j:=z) oM O O O Z) Z<|So 5 Z<|aD Z (fun I=>?_) (fun I=>?_)
   ·exact absurd ((rX (x:=cS n<|R i) (j:=z) (by have:=bc (b:=64) A;omega)).symm.trans I) (by rw[dt,decide_eq_false oM];exact fun e=>Bool.noConfusion (show false=true from e))
   refine aG<|aC<|SV 5 Z ?_;have hlp:=bc (b:=64) A;refine aH ⟨j7-1,by omega,oF,z+1,by omega,by omega,cI<|aW oM,ar⟩
  refine RC 3 Z<|aL<|aC<|SV 5 Z ?_;have hlp:=bc w;refine aH ⟨X-1,by omega,oF,i+1,by omega,cI<|aW oM,ar⟩
 refine RC 3 Z<|aL<|SW 6 Z ?_;exact aB Z Z ⟨Z,ar.pop⟩
theorem yr {G:Cx} (A:Plain G) {K:KP} {n:Nat} (hn:n<=64) {V:aE} {L:Own} (ar:D V K L):
  bu Tryz.prog G 97 [.int .i64 (.ofNat n)] V fun u V'=>∃b,u= .agg [.int .i64 (.ofNat n),.slice b 0 n (.known n)]/\D V' K ((b,.row ((bJ n fun _ _=>false).map gU) 164 false)::L):=by
 refine SQ A Tryz.func97 Z<|Sm 2 Z<|kp ar Z (TG (cs:=[N,.az])) (fun V b1 ar=>?_);refine Q9 7 Z<|ky Z (aq Z) (fun h5=>?_) (fun h5=>?_)
 ·exact Bool.noConfusion (show false=true from h5)
 refine So 5 Z<|aD Z (fun j=>?_) (fun j=>?_)
 ·exact absurd (bc (a:=64) (b:=n) j) oM
 refine RB 6 Z<|fe ar Z (lM (e:=164) (w:=8) (z:=[gU 0]) O O O O Z Z oM oM) (fun _=>Z) (fun V B ar=>?_);rw[jk (f:=gU)] at ar;refine Y Z (TA (places:=[(0,1),(1,1)]) (zero:=[N,.az]) (cs:=[_,_]) Z) Z<|gS ar Z (TJ Z Z Z ar.g1 (m:=2) Z Z (cells':=[_,_]) Z) Z (fun V ar=>?_);refine Sr 3 Z ?_;rw[Fz] at ar;exact eM Z Z ar.g1 (m:=2) O Z ⟨B,Z,ar.sub (.cons_cons _ (.cons _ (.refl _)))⟩
theorem AT {G:Cx} (hG:Plain G) {K:KP} {n:Nat} (hn:n<=64) {l:List Rn} {v:U} (w:bL K 2 (Jf K n) l v) (hp:0<l.length) {V:aE} {L:Own} (ar:D V K L):
  bu Tryz.prog G 96 [v] V fun u V'=>u= .bool true/\D V' K L:=by
 obtain⟨x0,h0x⟩:=cL hp;refine SQ hG Tryz.func96 Z<|Rx 12 Z ?_;obtain⟨LL1,ar,hLL1⟩:=ar.named;refine bf (rg 2 26) (fun j t V=>∃(i:Nat),j+i=l.length/\t.get 3=some (.int .i64 (.ofNat i))/\D V K LL1) (l.length) ⟨0,Z,Z,ar⟩ ?_;clear ar;intro j2 t V an hI;obtain⟨i,a5,aa,ar⟩:=hI;subst hLL1;obtain⟨oo,rfl⟩:=an.q1 aa Z;refine Ry 5 Z<|Y Z (TF w Z Z Z (e:=110) Z) Z<|So 3 Z<|aD Z (fun X=>?_) (fun X=>?_)
 ·refine Qr 5 Z<|aU (l:=zp [0,1,2,3,4,5,6,7,8,9,10,11,12,13,14,15,16,17]) O O<|S0 2 Z ?_;obtain⟨a6,z,ab⟩:=cK X;refine Tx (e:=110) (m:=2) w z Z Z Z Z Z (fun a7 ac A am B=>?_);have hr12':=B;obtain⟨a8,rfl,C⟩:=hr12';refine ai Z Z (TI ar A Z Z) Z<|eB Z Z (TB Z Z Z) (fun _=>Z) (qX hG hn C ar) (fun V ar=>?_);refine⟨ba,?_⟩;refine wQ 1 Z<|eg Z Z (aq Z) (fun _=>Z) (fun E=>?_) (fun E=>?_)
  ·exact absurd E (by first | decide | (rw[dL];decide))
  refine S0 2 Z ?_;obtain⟨a9,F,ao⟩:=cK X;refine Tx (e:=110) (m:=2) w F Z Z Z Z Z (fun bb ap I a0 M=>?_);have hr19':=M;obtain⟨bd,rfl,a1⟩:=hr19';refine eQ I Z Z Z Z (k:=0) O (lb Z) (fun _=>Z) (fun be Q=>?_);refine ai Z Z (TH ar Q Z Z) Z<|wQ 1 Z<|Tx (e:=110) (m:=2) w h0x Z Z Z Z Z (fun bi a2 R a3 S=>?_);have hr23':=S;obtain⟨bk,rfl,a4⟩:=hr23';refine eQ R Z Z Z Z (k:=0) O (lb Z) (fun _=>Z) (fun bl T=>?_);refine ai Z Z (TH ar T Z Z) Z<|Ss 4 Z<|aD Z (fun W=>?_) (fun W=>?_)
  ·exact absurd W (by first | decide | (rw[dL];decide))
  refine aG<|aC<|SV 5 Z ?_;have hlp:=bc X;refine aH ⟨j2-1,by omega,oF,i+1,by omega,cI<|aW (by have:=w.bO;omega),ar⟩
 refine RC 3 Z<|aL<|Sm 3 Z<|Y Z (TF w Z Z Z (e:=110) Z) Z<|Sr 5 Z ?_;exact aB Z Z ⟨cB (show Nat.ble 1 l.length=true by rw[nE_];exact hp),ar⟩
theorem Fp {G:Cx} (hG:Plain G) {K:KP} {n:Nat} (X:n<=64) {l:List Rn} {v:U} (A:bL K 2 (Jf K n) l v) (hp:0<l.length) {V:aE} {L:Own} (ar:D V K L):
  bu Tryz.prog G 72 [v] V fun u V'=>∃b,u= .agg [.int .i64 (.ofNat n),.slice b 0 n (.known n)]/\D V' K ((b,.row ((bJ n<|qa l).map gU) 164 false)::L):=by
 obtain⟨x0,h0x⟩:=cL hp;refine SQ hG Tryz.func72 Z<|Sm 2 Z<|kp ar Z (TG (cs:=[N,.az])) (fun V b1 ar=>?_);refine Q9 6 Z<|bz Z (TB Z Z Z) (fun _=>Z) (AT hG X A hp ar) (fun V ar=>?_);refine Y Z (da Z) Z<|So 3 Z<|RB 5 Z<|Tw (e:=110) (m:=2) A h0x Z Z Z Z (fun a5 ao B ap C=>?_);have hr11':=C;obtain⟨a6,rfl,a0⟩:=hr11';refine dy B Z Z Z (k:=0) O (lb Z) (fun _=>Z) (fun a7 E=>?_);refine Y Z (TH ar E Z Z) Z<|cM Z (TB Z Z Z) (fun _=>Z) (yr hG X ar) ?_;rintro _ V ⟨F,rfl,ar⟩;refine kp ar Z (TG (cs:=[N,.az])) (fun V b3 ar=>?_);refine bZ ar Z (TJ Z Z Z ar.g0 (m:=2) Z Z (cells':=[_,_]) Z) Z (fun V ar=>?_);refine Q9 5 Z ?_;rw[<-NN (l:=l)] at ar;refine RD 4 Z (bf ([4,5]++rg 15 30) (fun j t V=>∃(k:Nat),j+k=l.length/\t.get 4=some (.int .i64 (.ofNat k))/\D V K ((b3,.row [.int .i64 (.ofNat n),.slice F 0 n (.known n)] 110 false)::(F,.row ((bJ n<|qa<|l.take k).map gU) 164 false)::(b1,.row [N,.az] 110 false)::L)) (l.length) ⟨0,Z,Z,ar⟩ ?_);clear ar;intro j5 t V an hI;obtain⟨k,a8,aa,ar⟩:=hI;obtain⟨oo,rfl⟩:=an.q1 aa Z;refine Ry 5 Z<|Y Z (TF A Z Z Z (e:=110) Z) Z<|So 3 Z<|aD Z (fun w=>?_) (fun w=>?_)
 ·refine Qs 6 Z ?_;obtain⟨R,hR,a9⟩:=cK w;rw[<-Lb (R:=R)] at ar;refine RD 4 Z (bf ([5]++rg 21 24) (fun j t V=>∃(i:Nat),j+i=n/\t.get 5=some (.int .i64 (.ofNat i))/\D V K ((b3,.row [.int .i64 (.ofNat n),.slice F 0 n (.known n)] 110 false)::(F,.row ((bJ n<|Ip (qa<|l.take k) R i).map gU) 164 false)::(b1,.row [N,.az] 110 false)::L)) (n) ⟨0,Z,Z,ar⟩ ?_);clear ar;intro j8 t V an hI;obtain⟨i,bb,ab,ar⟩:=hI;obtain⟨oo,rfl⟩:=an.q1 ab Z;refine RJ ar 7 [0,0] Z Z<|So 2 Z<|aD Z (fun z=>?_) (fun z=>?_)
  ·refine Q7 4 Z<|aU (l:=zp [0,1,2,3,4,5,6,7,8,9,10,11,12,13,14,15,16,17,18]) O O ?_;have hin:=bc z;refine S3 ar 6 [1,0,1,0] Z Z<|ai Z Z (fS (e:=164) (m:=1) O O Z Z hin) Z<|ai Z Z (aw Z ar.g1 O<|jP (ek hin) (by first | omega | rfl)) Z<|S0 2 Z<|Tx (e:=110) (m:=2) A hR Z Z Z Z Z (fun bd a1 I a2 M=>?_);have hr37':=M;obtain⟨be,rfl,Q⟩:=hr37';refine eQ I Z Z Z Z (k:=1) O (lb Z) (fun _=>Z) (fun bi S=>?_);refine ai Z Z (TH ar S Z Z) Z<|wQ 1 Z<|Tx (e:=164) (m:=1) Q (ek hin) Z Z Z Z Z (fun bk a3 T a4 W=>?_);obtain rfl:=W;refine ai Z Z (TH ar T Z Z) Z (ai Z Z (ax (v:=.int .u64 (.ofNat<|cS n ((Ip (qa<|l.take k) R i) i) ||| cS n (R i))) Z Z<|L7 (gy X _)<|gy X _) Z<|ai Z Z (fS (e:=164) (m:=1) O O Z Z hin) Z ?_);refine gD ar (.there .here) Z Z (aR Z Z Z ar.g1 (m:=1) O Z (by rw[lM_];rw[cF];omega) Z (cells':=((bJ n<|Ip (qa<|l.take k) R i).set i<|cS n ((Ip (qa<|l.take k) R i) i) ||| cS n (R i)).map (gU)) (eK (f:=gU) (v:=(cS n ((Ip (qa<|l.take k) R i) i) ||| cS n (R i))) (by rw[cF];exact hin) (by first | omega | rfl))) Z (fun V ar=>?_);refine⟨ba,?_⟩;rw[NO] at ar;refine aX<|aC<|SV 5 Z<|aH ⟨j8-1,by omega,oF,i+1,by omega,cI<|aW oM,ar⟩
  refine RC 3 Z<|aL<|aC<|SV 5 Z ?_;have hlp:=bc w;have ac:i=n:=by have:=bA z;omega
  subst ac;rw[La hR] at ar;refine aH ⟨j5-1,by omega,oF,k+1,by omega,cI<|aW (by have:=A.bO;omega),ar⟩
 refine RC 3 Z<|aL<|Sm 2 Z<|Y Z (TE Z ar.g0 (n:=2) (vs:=[_,_]) Z) Z<|sA ar Z (TJ Z Z Z (ar.get 2 Z) (m:=2) Z Z (cells':=[_,_]) Z) Z (fun V ar=>?_);refine Sr 3 Z ?_;have am:l.take k=l:=tL_ (bA w);rw[am] at ar;exact eM Z Z (ar.get 2 Z) (m:=2) O Z ⟨F,Z,ar.sub (.cons _ (.cons_cons _ (.cons _ (.refl _))))⟩
theorem Pq {a b:Nat} (h:H (.ofNat a) (.ofNat b)=true):a=b:=by
 rw[fc] at h;simpa using h
theorem Jm {n i:Nat} {A B:Rn} (j:∀q,q<i->(bJ n A)[q]?=(bJ n B)[q]?) (h:n<=i):bJ n A=bJ n B:=by
 refine List.ext_getElem? fun q=>?_
 by_cases hq:q<n
 ·exact j q oM
 rw[gN_ (by rw[cF];omega),gN_ (by rw[cF];omega)]
theorem PY {G:Cx} (X:Plain G) {K:KP} {n:Nat} (hn:n<=64) {A:Rn} {va:U} (T:bL K 1 RU (bJ n A) va) {B:Rn} {vb:U} (hb:bL K 1 RU (bJ n B) vb) {V:aE} {L:Own} (ar:D V K L):
  bu Tryz.prog G 95 [.agg [.int .i64 (.ofNat n),va],.agg [.int .i64 (.ofNat n),vb]] V fun u V'=>(∃q,u= .bool q/\(q=true->bJ n A=bJ n B)/\(q=false->bJ n A≠bJ n B))/\D V' K L:=by
 have hlA:=cF n A;have hlB:=cF n B;refine SQ X Tryz.func95 Z<|Sm 2 Z<|kp ar Z (cC Z Z) (fun V b1 ar=>?_);refine kp ar Z (cC Z Z) (fun V b2 ar=>?_);refine Rb ar 11 [0,1,0,0] Z Z<|ky Z (aq Z) (fun F=>?_) (fun F=>?_)
 ·exact absurd F (by rw[dL];decide)
 refine S2 ar 2 [1,1] Z Z<|Y Z (TF T Z Z Z (e:=164) Z) Z<|S2 ar 2 [1,0] Z Z<|Y Z (TF hb Z Z Z (e:=164) Z) Z<|So 4 Z<|aD Z (fun I=>?_) (fun I=>?_)
 ·exact absurd I (by rw[hlA,hlB,dL];decide)
 refine Q7 9 Z ?_;obtain⟨LL1,ar,hLL1⟩:=ar.named;refine bf ([4,5]++rg 20 18) (fun j t V=>∃(i:Nat),j+i=n/\(∀q,q<i->(bJ n A)[q]?=(bJ n B)[q]?)/\t.get 5=some (.int .i64 (.ofNat i))/\D V K LL1) (n) ⟨0,Z,fun q hq=>absurd hq (nZ_ _),Z,ar⟩ ?_;clear ar;intro j4 t V an hI;obtain⟨i,ao,C,W,ar⟩:=hI;subst hLL1;obtain⟨oo,rfl⟩:=an.q1 W Z;refine RJ ar 6 [1,1] Z Z<|Y Z (TF T Z Z Z (e:=164) Z) Z<|So 3 Z<|aD Z (fun z=>?_) (fun z=>?_)
 ·refine Qr 5 Z<|aU (l:=zp [0,1,2,3,4,5,6,7,8,9,10]) O O ?_;have w:i<n:=by have:=bc z;omega
  refine S3 ar 3 [1,1] Z Z<|Tx (e:=164) (m:=1) T (ek w) Z Z Z Z Z (fun ap aa M ab Q=>?_);obtain rfl:=Q;refine ai Z Z (TH ar M Z Z) Z<|S3 ar 3 [1,0] Z Z<|Tx (e:=164) (m:=1) hb (ek w) Z Z Z Z Z (fun a0 ac R am S=>?_);obtain rfl:=S;refine ai Z Z (TH ar R Z Z) Z<|Ss 3 Z<|aD Z (fun E=>?_) (fun E=>?_)
  ·refine SW 6 Z<|aK<|aA<|bD<|aK<|aA (?_);exact aB Z Z ⟨⟨_,Z,(fun e=>by cases e),fun _ e=>absurd (bW E) (by rw[show cS n (A i)=cS n (B i) from Option.some.inj ((ek w).symm.trans (by rw[e];exact ek w)),dL];decide)⟩,ar.pop.pop⟩
  refine aG<|aC<|SV 5 Z ?_;have hlp:=bc z;refine aH ⟨j4-1,by omega,oF,i+1,by omega,fun q hq=>by rcases Nat.lt_or_ge q i with h1 | h1;(exact C q h1);(obtain rfl:q=i:=by omega);rw[ek w,ek w];exact congrArg some<|Pq<|bK E,cI<|aW oM,ar⟩
 refine RC 3 Z<|aL<|Sm 2 Z<|Y Z (TE Z ar.g1 (n:=2) (vs:=[_,_]) Z) Z<|bz Z (TB Z Z Z) (fun _=>Z) (qX X hn T ar) (fun V ar=>?_);refine Sr 5 Z ?_;exact aB Z Z ⟨⟨_,Z,(fun _=>Jm C (by have:=bA z;omega)),fun e=>by cases e⟩,ar.pop.pop⟩
theorem Rd {G:Cx} (R:Plain G) {K:KP} {n:Nat} (Q:n<=64) {A:Rn} {va:U} (ha:bL K 1 RU (bJ n A) va) {B:Rn} {vb:U} (hb:bL K 1 RU (bJ n B) vb) {V:aE} {L:Own} (ar:D V K L):
  bu Tryz.prog G 78 [.agg [.int .i64 (.ofNat n),va],.agg [.int .i64 (.ofNat n),vb]] V fun u V'=>∃X b,KP.le K X/\u= .agg [.int .i64 (.ofNat n),.slice b 0 n (.known n)]/\D V' X ((b,.row ((bJ n<|ug A B).map gU) 164 false)::L):=by
 refine SQ R Tryz.func78 Z<|Sm 2 Z<|kp ar Z (cC Z Z) (fun V b1 ar=>?_);refine kp ar Z (cC Z Z) (fun V b2 ar=>?_);refine kp ar Z (TG (cs:=[N,.az])) (fun V b3 ar=>?_);refine Q9 5 Z<|Y Z (TE Z (ar.get 2 Z) (n:=2) (vs:=[_,_]) Z) Z<|Y Z (TE Z ar.g1 (n:=2) (vs:=[_,_]) Z) Z<|fe ar Z (bP (e:=110) (m:=2) (z:=[N,.az]) (cs:=[_,_,_,_]) O O O O<|bj Z Z Z Z<|bj Z Z Z Z bF) (fun _=>Z) (fun V C ar=>?_);have hk9:=ar.jE;have hle9:=KP.pU K C (.row [.int .i64 (.ofNat n),va,.int .i64 (.ofNat n),vb] 110 false);have hs9:=tE (n:=n) (b:=C) (e:=110) (ro:=false) (.inr ⟨Z,Z⟩:(K.add C (.row [.int .i64 (.ofNat n),va,.int .i64 (.ofNat n),vb] 110 false)) C (.row [.int .i64 (.ofNat n),va,.int .i64 (.ofNat n),vb] 110 false)) (ha.mono hle9 fun _ _ h=>h) (hb.mono hle9 fun _ _ h=>h);replace ha:=ha.mono hle9 fun _ _ h=>h;replace hb:=hb.mono hle9 fun _ _ h=>h
 refine bz Z (TB Z Z Z) (fun _=>Z) (AT R Q hs9 (Nat.succ_pos _) hk9) (fun V ar=>?_);refine Y Z (da Z) Z<|So 3 Z<|RK ar 6 [0,2] Z Z<|cM Z (TB Z Z Z) (fun _=>Z) (yr R Q ar) ?_;rintro _ V ⟨S,rfl,ar⟩;refine kp ar Z (TG (cs:=[N,.az])) (fun V b6 ar=>?_);refine bZ ar Z (TJ Z Z Z ar.g0 (m:=2) Z Z (cells':=[_,_]) Z) Z (fun V ar=>?_);refine Q9 5 Z ?_;rw[<-Ho (A:=A) (B:=B)] at ar;refine RD 4 Z (bf ([6]++rg 16 21) (fun j t V=>∃(i:Nat),j+i=n/\t.get 6=some (.int .i64 (.ofNat i))/\D V (K.add C (.row [.int .i64 (.ofNat n),va,.int .i64 (.ofNat n),vb] 110 false)) ((b6,.row [.int .i64 (.ofNat n),.slice S 0 n (.known n)] 110 false)::(S,.row ((bJ n<|Ae A B i).map gU) 164 false)::(b3,.row [N,.az] 110 false)::(b2,.row [.int .i64 (.ofNat n),vb] 110 false)::(b1,.row [.int .i64 (.ofNat n),va] 110 false)::L)) (n) ⟨0,Z,Z,ar⟩ ?_);clear ar;intro j5 t V an hI;obtain⟨i,ao,T,ar⟩:=hI;obtain⟨oo,rfl⟩:=an.q1 T Z;refine RJ ar 7 [0,0] Z Z<|So 2 Z<|aD Z (fun w=>?_) (fun w=>?_)
 ·refine Q7 4 Z<|aU (l:=zp [0,1,2,3,4,5,6,7,8,9,10,11,12,13,14,15]) O O ?_;have hin:=bc w;refine S3 ar 6 [1,0,1,4] Z Z<|Tx (e:=164) (m:=1) ha (ek hin) Z Z Z Z Z (fun ap aa E ab F=>?_);obtain rfl:=F;refine ai Z Z (TH ar E Z Z) Z<|S3 ar 3 [1,3] Z Z<|Tx (e:=164) (m:=1) hb (ek hin) Z Z Z Z Z (fun a0 ac I am M=>?_);obtain rfl:=M;refine ai Z Z (TH ar I Z Z) Z (ai Z Z (ax (v:=.int .u64 (.ofNat<|cS n (A i) &&& cS n (B i))) Z Z<|Rp (gy Q _)<|gy Q _) Z (ai Z Z (fS (e:=164) (m:=1) O O Z Z hin) Z (gD ar (.there .here) Z Z (aR Z Z Z ar.g1 (m:=1) O Z (by rw[lM_];rw[cF];omega) Z (cells':=((bJ n<|Ae A B i).set i<|cS n (A i) &&& cS n (B i)).map (gU)) (eK (f:=gU) (v:=(cS n (A i) &&& cS n (B i))) (by rw[cF];exact hin) (by first | omega | rfl))) Z (fun V ar=>?_))));refine⟨ba,?_⟩;rw[Jn] at ar;refine aX<|aC<|SV 5 Z<|aH ⟨j5-1,by omega,oF,i+1,by omega,cI<|aW oM,ar⟩
 refine RC 3 Z<|aL<|Sm 2 Z<|Y Z (TE Z ar.g0 (n:=2) (vs:=[_,_]) Z) Z<|sA ar Z (TJ Z Z Z (ar.get 2 Z) (m:=2) Z Z (cells':=[_,_]) Z) Z (fun V ar=>?_);refine Sr 3 Z ?_;have W:i=n:=by have:=bA w;omega
 subst W;rw[Hn] at ar;exact eM Z Z (ar.get 2 Z) (m:=2) O Z ⟨_,S,hle9,Z,ar.sub (.cons _ (.cons_cons _ (.cons _ (.cons _ (.cons _ (.refl _))))))⟩
theorem P1 {G:Cx} (Q:Plain G) {K:KP} {n:Nat} (S:n<=64) {A:Rn} {va:U} (ha:bL K 1 RU (bJ n A) va) {V:aE} {L:Own} (ar:D V K L):
  bu Tryz.prog G 79 [.agg [.int .i64 (.ofNat n),va]] V fun u V'=>∃b,u= .agg [.int .i64 (.ofNat n),.slice b 0 n (.known n)]/\D V' K ((b,.row ((bJ n<|mH A).map gU) 164 false)::L):=by
 refine SQ Q Tryz.func79 Z<|Sm 2 Z<|kp ar Z (cC Z Z) (fun V b1 ar=>?_);refine kp ar Z (TG (cs:=[N,.az])) (fun V b2 ar=>?_);refine Q9 5 Z<|Y Z (TE Z ar.g1 (n:=2) (vs:=[_,_]) Z) Z<|bz Z (TB Z Z Z) (fun _=>Z) (qX Q S ha ar) (fun V ar=>?_);refine So 3 Z<|aD Z (fun h8=>?_) (fun h8=>?_)
 ·exact absurd h8 (by decide)
 refine RK ar 6 [0,1] Z Z<|cM Z (TB Z Z Z) (fun _=>Z) (yr Q S ar) ?_;rintro _ V ⟨F,rfl,ar⟩;refine kp ar Z (TG (cs:=[N,.az])) (fun V b4 ar=>?_);refine bZ ar Z (TJ Z Z Z ar.g0 (m:=2) Z Z (cells':=[_,_]) Z) Z (fun V ar=>?_);refine Q9 5 Z ?_;rw[<-FP (R:=A)] at ar;refine RD 4 Z (bf ([4,5]++rg 13 35) (fun j t V=>∃(i:Nat),j+i=n/\t.get 4=some (.int .i64 (.ofNat i))/\D V K ((b4,.row [.int .i64 (.ofNat n),.slice F 0 n (.known n)] 110 false)::(F,.row ((bJ n<|jA A i 0).map gU) 164 false)::(b2,.row [N,.az] 110 false)::(b1,.row [.int .i64 (.ofNat n),va] 110 false)::L)) (n) ⟨0,Z,Z,ar⟩ ?_);clear ar;intro j5 t V an T;obtain⟨i,ac,W,ar⟩:=T;obtain⟨oo,rfl⟩:=an.q1 W Z;refine RJ ar 7 [0,3] Z Z<|So 2 Z<|aD Z (fun z=>?_) (fun z=>?_)
 ·refine Q7 9 Z (aJ (bf ([5]++rg 19 29) (fun j t V=>∃(q:Nat),j+q=n/\t.get 5=some (.int .i64 (.ofNat q))/\D V K ((b4,.row [.int .i64 (.ofNat n),.slice F 0 n (.known n)] 110 false)::(F,.row ((bJ n<|jA A i q).map gU) 164 false)::(b2,.row [N,.az] 110 false)::(b1,.row [.int .i64 (.ofNat n),va] 110 false)::L)) (n) ⟨0,Z,Z,ar⟩ ?_));clear ar;intro j8 t V an T;obtain⟨q,am,X,ar⟩:=T;obtain⟨oo,rfl⟩:=an.q1 X Z;refine RJ ar 7 [0,3] Z Z<|So 2 Z<|aD Z (fun B=>?_) (fun B=>?_)
  ·refine Qs 6 Z ?_;have hin:=bc z;have hqn:=bc B;refine S2 ar 3 [1,3] Z Z<|Tw (e:=164) (m:=1) ha (ek hin) Z Z Z Z (fun ao aa I ab M=>?_);obtain rfl:=M;refine Y Z (TH ar I Z Z) Z<|vQ 1 Z<|Y Z (iX (j:=q) oM O O O Z) Z<|So 5 Z<|aD Z (fun C=>?_) (fun C=>?_)
   ·have w:A i q=true:=by have e:=(rX (x:=cS n<|A i) (j:=q) oM).symm.trans C;rw[dt,decide_eq_true hqn,Bool.true_and] at e;exact e
    refine aU (l:=zp [0,1,2,3,4,5,6,7,8,9,10,11,12,13]) O O (S3 ar 6 [1,0,1,0] Z Z (ai Z Z (fS (e:=164) (m:=1) O O Z Z hqn) Z (ai Z Z (aw Z ar.g1 O<|jP (ek hqn) (by first | omega | rfl)) Z (wQ 1 Z (ai Z Z (iX (j:=i) oM O O O Z) Z (ai Z Z (ax (v:=.int .u64 (.ofNat (2 ^ i))) Z Z<|G9 oM) Z (ai Z Z (ax (v:=.int .u64 (.ofNat<|cS n (jA A i q q) ||| 2 ^ i)) Z Z<|L7 (gy S _)<|Nat.pow_lt_pow_right oM oM) Z (ai Z Z (fS (e:=164) (m:=1) O O Z Z hqn) Z (gD ar (.there .here) Z Z (aR Z Z Z ar.g1 (m:=1) O Z (by rw[lM_];rw[cF];omega) Z (cells':=((bJ n<|jA A i q).set q<|cS n (jA A i q q) ||| 2 ^ i).map (gU)) (eK (f:=gU) (v:=(cS n (jA A i q q) ||| 2 ^ i)) (by rw[cF];exact hqn) (by first | omega | rfl))) Z (fun V ar=>?_))))))))));refine⟨ba,?_⟩;rw[I0 hin w] at ar;refine aX<|aC<|SV 5 Z<|aH ⟨j8-1,by omega,oF,q+1,by omega,cI<|aW oM,ar⟩
   have w:A i q=false:=by have e:=(rX (x:=cS n<|A i) (j:=q) oM).symm.trans C;rw[dt,decide_eq_true hqn,Bool.true_and] at e;exact e
   refine aG<|aC<|SV 5 Z ?_;rw[L6 w] at ar;refine aH ⟨j8-1,by omega,oF,q+1,by omega,cI<|aW oM,ar⟩
  refine RC 3 Z<|aL<|aC<|SV 5 Z ?_;have hlp:=bc z;have E:q=n:=by have:=bA B;omega
  subst E;rw[IZ] at ar;refine aH ⟨j5-1,by omega,oF,i+1,by omega,cI<|aW oM,ar⟩
 refine RC 3 Z<|aL<|Sm 2 Z<|Y Z (TE Z ar.g0 (n:=2) (vs:=[_,_]) Z) Z<|sA ar Z (TJ Z Z Z (ar.get 2 Z) (m:=2) Z Z (cells':=[_,_]) Z) Z (fun V ar=>?_);refine Sr 3 Z ?_;have E:i=n:=by have:=bA z;omega
 subst E;rw[FO] at ar;exact eM Z Z (ar.get 2 Z) (m:=2) O Z ⟨F,Z,ar.sub (.cons _ (.cons_cons _ (.cons _ (.cons _ (.refl _)))))⟩
theorem Ew {n:Nat} {T A B:Rn} (h:bJ n T=bJ n A):bJ n (mU n T B)=bJ n (mU n A B):=by
 refine cE fun a c m _=>?_
 unfold mU;rw[Bool.eq_iff_iff];simp only[List.any_eq_true,List.mem_range,bA_];constructor
 ·rintro ⟨b,hb,h1,j⟩;exact⟨b,hb,(nZ h m hb).symm.trans h1,j⟩
 rintro ⟨b,hb,h1,j⟩;exact⟨b,hb,(nZ h m hb).trans h1,j⟩
theorem PZ {G:Cx} (hG:Plain G) {K:KP} {n:Nat} (hn:n<=64) {A B:Rn} {v:U} (hs:bL K 2 (Jf K n) [A,B] v) {V:aE} {L:Own} (ar:D V K L):
  bu Tryz.prog G 94 [v] V fun u V'=>∃F b,KP.le K F/\u= .agg [.int .i64 (.ofNat n),.slice b 0 n (.known n)]/\D V' F ((b,.row ((bJ n<|mU n A B).map gU) 164 false)::L):=by
 have h0x:([A,B]:List Rn)[0]?=some A:=rfl;refine SQ hG Tryz.func94 Z<|Sm 2 Z<|kp ar Z (TG (cs:=[N,.az])) (fun V b1 ar=>?_);refine Q9 6 Z<|bz Z (TB Z Z Z) (fun _=>Z) (AT hG hn hs (Nat.succ_pos _) ar) (fun V ar=>?_);refine Y Z (da Z) Z<|So 3 Z<|RB 5 Z<|Tw (e:=110) (m:=2) hs h0x Z Z Z Z (fun bp bd aa be ab=>?_);have hr13':=ab;obtain⟨br,rfl,ac⟩:=hr13';refine Y Z (TI ar aa Z Z) Z<|fe ar Z (bP (e:=110) (m:=2) (z:=[N,.az]) (cs:=[_,_]) O O O O<|bj Z Z Z Z bF) (fun _=>Z) (fun V b2 ar=>?_);obtain⟨F,w,I,ar⟩:=D.cq (M:=[_]) ar;have hs15:=GX (n:=n) (I _<|mS_ ..) (ac.mono w fun _ _ h=>h);replace hs:=hs.mono w fun _ _ h=>h.mono w
 refine cM Z (TB Z Z Z) (fun _=>Z) (Fp hG hn hs15 (Nat.succ_pos _) ar) ?_;rintro _ V ⟨b3,rfl,ar⟩;refine kp ar Z (TG (cs:=[N,.az])) (fun V b4 ar=>?_);refine bZ ar Z (TJ Z Z Z ar.g0 (m:=2) Z Z (cells':=[_,_]) Z) Z (fun V ar=>?_);refine Q9 5 Z ?_;replace ar:=ar.pull (.there<|cX.here (X:=[_]));refine RD 4 Z (bf (rg 4 4++rg 17 50) (fun j t V=>∃(k bq:Nat) (T:Rn),j+k=2/\((k=1/\bJ n T=bJ n A)∨(k=2/\bJ n T=bJ n (mU n A B)))/\t.get 4=some (.int .i64 (.ofNat k))/\D V F ((bq,.row ((bJ n T).map gU) 164 false)::(b4,.row [.int .i64 (.ofNat n),.slice bq 0 n (.known n)] 110 false)::(b1,.row [N,.az] 110 false)::L)) (1) ⟨1,b3,qa [A],Z,.inl ⟨Z,cE fun a b _ _=>by unfold qa;simp⟩,Z,ar⟩ ?_);clear ar;intro j5 t V an hI;obtain⟨k,bq,T,bs,hT,a4,ar⟩:=hI;obtain⟨oo,rfl⟩:=an.q1 a4 Z;refine Ry 5 Z<|Y Z (TF hs Z Z Z (e:=110) Z) Z<|So 3 Z<|aD Z (fun Q=>?_) (fun Q=>?_)
 ·refine Qs 6 Z ?_;have hk2:=bc (a:=k) (b:=2) Q;obtain⟨a5,a6⟩:k=1/\bJ n T=bJ n A:=by rcases hT with h | h;exact h;omega
  have a7:([A,B]:List Rn)[k]?=some B:=by rw[a5];rfl
  refine S2 ar 2 [0,1] Z Z<|cM Z (TB Z Z Z) (fun _=>Z) (yr hG hn ar) ?_;rintro _ V ⟨b5,rfl,ar⟩;refine kp ar Z (TG (cs:=[N,.az])) (fun V b6 ar=>?_);refine bZ ar Z (TJ Z Z Z ar.g0 (m:=2) Z Z (cells':=[_,_]) Z) Z (fun V ar=>?_);refine Q9 5 Z ?_;rw[<-Eu (A:=T) (B:=B)] at ar;refine RD 4 Z (bf ([6,7]++rg 26 40) (fun j t V=>∃(i:Nat),j+i=n/\t.get 6=some (.int .i64 (.ofNat i))/\D V F ((b6,.row [.int .i64 (.ofNat n),.slice b5 0 n (.known n)] 110 false)::(b5,.row ((bJ n<|jm n T B i 0).map gU) 164 false)::(bq,.row ((bJ n T).map gU) 164 false)::(b4,.row [.int .i64 (.ofNat n),.slice bq 0 n (.known n)] 110 false)::(b1,.row [N,.az] 110 false)::L)) (n) ⟨0,Z,Z,ar⟩ ?_);clear ar;intro j9 t V an hI;obtain⟨i,bt,a8,ar⟩:=hI;obtain⟨oo,rfl⟩:=an.q1 a8 Z;refine RJ ar 7 [0,3] Z Z<|So 2 Z<|aD Z (fun E=>?_) (fun E=>?_)
  ·refine Q7 9 Z (aJ (bf ([7]++rg 32 34) (fun j t V=>∃(q:Nat),j+q=n/\t.get 7=some (.int .i64 (.ofNat q))/\D V F ((b6,.row [.int .i64 (.ofNat n),.slice b5 0 n (.known n)] 110 false)::(b5,.row ((bJ n<|jm n T B i q).map gU) 164 false)::(bq,.row ((bJ n T).map gU) 164 false)::(b4,.row [.int .i64 (.ofNat n),.slice bq 0 n (.known n)] 110 false)::(b1,.row [N,.az] 110 false)::L)) (n) ⟨0,Z,Z,ar⟩ ?_));clear ar;intro am t V an hI;obtain⟨q,bi,a9,ar⟩:=hI;obtain⟨oo,rfl⟩:=an.q1 a9 Z;refine RJ ar 7 [0,3] Z Z<|So 2 Z<|aD Z (fun R=>?_) (fun R=>?_)
   ·refine Qs 6 Z ?_;have hin:=bc E;have hqn:=bc R;refine S2 ar 3 [1,3] Z Z<|Y Z (fS (e:=164) (m:=1) O O Z Z hin) Z<|Y Z (aw Z (ar.get 2 Z) O<|jP (ek hin) (by first | omega | rfl)) Z<|vQ 1 Z<|Y Z (iX (j:=q) oM O O O Z) Z<|So 5 Z<|aD Z (fun S=>?_) (fun S=>?_)
    ·have C:T i q=true:=by have e:=(rX (x:=cS n<|T i) (j:=q) oM).symm.trans S;rw[dt,decide_eq_true hqn,Bool.true_and] at e;exact e
     refine aU (l:=zp [0,1,2,3,4,5,6,7,8,9,10,11,12,13,14,15,16,17,18]) O O<|S3 ar 6 [1,0,1,0] Z Z<|ai Z Z (fS (e:=164) (m:=1) O O Z Z hin) Z<|ai Z Z (aw Z ar.g1 O<|jP (ek hin) (by first | omega | rfl)) Z<|S0 2 Z<|Tx (e:=110) (m:=2) hs a7 Z Z Z Z Z (fun bv bk ao bl ap=>?_);have hr58':=ap;obtain⟨bw,rfl,a0⟩:=hr58';refine eQ ao Z Z Z Z (k:=1) O (lb Z) (fun _=>Z) (fun b0 a1=>?_);refine ai Z Z (TH ar a1 Z Z) Z<|wQ 1 Z<|Tx (e:=164) (m:=1) a0 (ek hqn) Z Z Z Z Z (fun b7 bm a2 bo a3=>?_);obtain rfl:=a3;refine ai Z Z (TH ar a2 Z Z) Z (ai Z Z (ax (v:=.int .u64 (.ofNat<|cS n (jm n T B i q i) ||| cS n (B q))) Z Z<|L7 (gy hn _)<|gy hn _) Z<|ai Z Z (fS (e:=164) (m:=1) O O Z Z hin) Z ?_);refine gD ar (.there .here) Z Z (aR Z Z Z ar.g1 (m:=1) O Z (by rw[lM_];rw[cF];omega) Z (cells':=((bJ n<|jm n T B i q).set i<|cS n (jm n T B i q i) ||| cS n (B q)).map (gU)) (eK (f:=gU) (v:=(cS n (jm n T B i q i) ||| cS n (B q))) (by rw[cF];exact hin) (by first | omega | rfl))) Z (fun V ar=>?_);refine⟨ba,?_⟩;rw[Hy C] at ar;refine aX<|aC<|SV 5 Z<|aH ⟨am-1,by omega,oF,q+1,by omega,cI<|aW oM,ar⟩
    have C:T i q=false:=by have e:=(rX (x:=cS n<|T i) (j:=q) oM).symm.trans S;rw[dt,decide_eq_true hqn,Bool.true_and] at e;exact e
    refine aG<|aC<|SV 5 Z ?_;rw[JC C] at ar;refine aH ⟨am-1,by omega,oF,q+1,by omega,cI<|aW oM,ar⟩
   refine RC 3 Z<|aL<|aC<|SV 5 Z ?_;have hlp:=bc E;have W:q=n:=by have:=bA R;omega
   subst W;rw[Hx] at ar;refine aH ⟨j9-1,by omega,oF,i+1,by omega,cI<|aW oM,ar⟩
  refine RC 3 Z<|aL<|ad<|ah Z<|Y Z (TE Z ar.g0 (n:=2) (vs:=[_,_]) Z) Z<|PL ar Z (TJ Z Z Z (ar.get 3 Z) (m:=2) Z Z (cells':=[_,_]) Z) Z (fun V ar=>?_);replace ar:=ar.sub (.cons _ (.cons_cons _ (.cons _ (.cons_cons _ (.cons_cons _ (.refl _))))));refine af<|aC<|SV 5 Z ?_;have W:i=n:=by have:=bA E;omega
  subst W;rw[Et] at ar;refine aH ⟨j5-1,by omega,oF,k+1,b5,mU i T B,by omega,.inr ⟨by omega,Ew a6⟩,cI<|aW oM,ar⟩
 refine RC 3 Z<|aL<|Sm 2 Z<|Y Z (TE Z ar.g1 (n:=2) (vs:=[_,_]) Z) Z<|sA ar Z (TJ Z Z Z (ar.get 2 Z) (m:=2) Z Z (cells':=[_,_]) Z) Z (fun V ar=>?_);refine Sr 3 Z ?_;have bb:bJ n T=bJ n (mU n A B):=by have:=bA (a:=k) (b:=2) Q;rcases hT with h | h;omega;exact h.2
 rw[bb] at ar;exact eM Z Z (ar.get 2 Z) (m:=2) O Z ⟨F,bq,w,Z,ar.sub (.cons_cons _ (.cons _ (.cons _ (.refl _))))⟩
theorem I9.congr {n:Nat} {R S T:Rn} (h:I9 n R S) (he:bJ n S=bJ n T):I9 n R T:=
 ⟨fun i j hi hj m=>(nZ he hi hj).symm.trans (h.low i j hi hj m),fun i j hi hj u=>h.high i j hi hj ((nZ he hi hj).trans u)⟩
theorem AS {G:Cx} (hG:Plain G) {K:KP} {n:Nat} (hn:n<=64) {A:Rn} {va:U} (ha:bL K 1 RU (bJ n A) va) {V:aE} {L:Own} (ar:D V K L):
  bu Tryz.prog G 71 [.agg [.int .i64 (.ofNat n),va]] V fun v V'=>∃K1 u,KP.le K K1/\v= .agg [.int .i64 (.ofNat n),u]/\bL K1 1 RU (bJ n<|sM n A) u/\D V' K1 L:=by
 refine SQ hG Tryz.func71 Z<|Sm 2 Z<|kp ar Z (cC Z Z) (fun V b1 ar=>?_);refine kp ar Z (TG (cs:=[N,.az])) (fun V b2 ar=>?_);refine Q9 5 Z<|Y Z (TE Z ar.g1 (n:=2) (vs:=[_,_]) Z) Z<|bz Z (TB Z Z Z) (fun _=>Z) (qX hG hn ha ar) (fun V ar=>?_);refine So 3 Z<|aD Z (fun h7=>?_) (fun h7=>?_)
 ·exact absurd h7 (by decide)
 refine RB 4 Z<|Y Z (TE Z ar.g1 (n:=2) (vs:=[_,_]) Z) Z<|fe ar Z (bP (e:=110) (m:=2) (z:=[N,.az]) (cs:=[_,_]) O O O O<|bj Z Z Z Z bF) (fun _=>Z) (fun V b3 ar=>?_);obtain⟨K1,E,I,ar⟩:=D.cq (M:=[_]) ar;have hs1:=GX (n:=n) (I _<|mS_ ..) (ha.mono E fun _ _ h=>h);refine cM Z (TB Z Z Z) (fun _=>Z) (Fp hG hn hs1 (Nat.succ_pos _) ar) ?_;rintro _ V ⟨c1,rfl,ar⟩;obtain⟨K2,ao,Q,ar⟩:=D.cq (M:=[_]) ar;have hT:=fE (Q _<|mS_ ..) (cF n<|qa [A]) oM;refine kp ar Z (TG (cs:=[N,.az])) (fun V b4 ar=>?_);refine bZ ar Z (TJ Z Z Z ar.g0 (m:=2) Z (aj Z<|aj hT.leaf.2 aI) (cells':=[_,_]) Z) Z (fun V ar=>?_);refine RD 3 Z (bf ([4]++rg 12 12) (fun j t V=>∃(T:Rn) (u:U) (K2:KP),KP.le K K2/\I9 n A T/\bL K2 1 RU (bJ n T) u/\n*n<=Hw n T+j/\D V K2 ((b4,.row [.int .i64 (.ofNat n),u] 110 false)::(b2,.row [N,.az] 110 false)::(b1,.row [.int .i64 (.ofNat n),va] 110 false)::L)) (n*n) ⟨qa [A],_,K2,KP.le_trans E ao,(I9.refl n A).congr (cE fun a b _ _=>by unfold qa;simp),hT,Nat.le_add_left _ _,ar⟩ ?_);clear ar;intro j4 t V an hI;obtain⟨T,u,K2,F,hM,hT,a3,ar⟩:=hI;obtain⟨oo,rfl⟩:=an.q0 Z;refine aJ (al (aU (l:=[(0,[]),(1,[]),(2,[]),(3,[]),(7,[]),(4,[0,7]),(5,[]),(6,[7]),(8,[])]) O O<|ai Z Z (TE Z ar.g0 (n:=2) (vs:=[_,_]) Z) Z<|ai Z Z (TE Z ar.g0 (n:=2) (vs:=[_,_]) Z) Z<|ai Z Z (TE Z ar.g0 (n:=2) (vs:=[_,_]) Z) Z<|qc ar Z Z (bP (e:=110) (m:=2) (z:=[N,.az]) (cs:=[_,_,_,_]) O O O O<|bj Z Z Z Z<|bj Z Z Z Z bF) (fun _=>Z) (fun V b5 ar=>?_)));refine qd ar Z Z (TG (cs:=[N,.az])) (fun _=>Z) (fun V b6 ar=>?_);replace ar:=ar.pull (.there<|cX.here (X:=[_]));obtain⟨K3,B,W,ar⟩:=D.cq (M:=[_]) ar;have hs3:=tE (n:=n) (W _<|mS_ ..) (hT.mono B fun _ _ h=>h) (hT.mono B fun _ _ h=>h);refine fB Z Z (TB Z Z Z) (fun _=>Z) (PZ hG hn hs3 ar) ?_;rintro _ V ⟨K3b,c3,hle3b,rfl,ar⟩;obtain⟨K4,ap,aa,ar⟩:=D.cq (M:=[_]) ar;have h16:=fE (aa _<|mS_ ..) (cF n<|mU n T T) oM;have hle34:=KP.le_trans B (KP.le_trans hle3b ap);replace hT:=hT.mono hle34 fun _ _ h=>h
 refine⟨(bx (bC Z Z Z Z Z (TE Z ar.g1 (n:=2) (vs:=[_,_]) Z)<|iP<|cR (fq _ _)<|cR hT.lh gM)<|bx (iE Z Z Z Z Z (cs:=[N,.az]) (e:=110) O ar.g0 O) ba),?_⟩;refine qc ar Z Z (bP (e:=110) (m:=2) (z:=[N,.az]) (cs:=[_,_,_,_]) O O O O<|bj Z Z Z Z<|bj Z Z Z Z bF) (fun _=>Z) (fun V b7 ar=>?_);obtain⟨K5,w,ab,ar⟩:=D.cq (M:=[_]) ar;have hs5:=tE (n:=n) (ab _<|mS_ ..) (hT.mono w fun _ _ h=>h) (h16.mono w fun _ _ h=>h);refine fB Z Z (TB Z Z Z) (fun _=>Z) (Fp hG hn hs5 (Nat.succ_pos _) ar) ?_;rintro _ V ⟨c5,rfl,ar⟩;obtain⟨K6,C,ac,ar⟩:=D.cq (M:=[_]) ar;have h18:=fE (ac _<|mS_ ..) (cF n<|qa [T,mU n T T]) oM;replace hT:=hT.mono (KP.le_trans w C) fun _ _ h=>h
 refine⟨(bx (iE Z Z Z Z Z (cs:=[N,.az]) (e:=110) O ar.g0 O) ba),?_⟩;refine iM ar Z Z (TJ Z Z Z ar.g0 (m:=2) Z (aj Z<|aj h18.leaf.2 aI) (cells':=[_,_]) Z) Z (fun V ar=>?_);refine⟨ba,?_⟩;refine Ss 2 Z<|Ry 3 Z<|Y Z (TE Z ar.g0 (n:=2) (vs:=[_,_]) Z) Z<|Y Z (TE Z ar.g1 (n:=2) (vs:=[_,_]) Z) Z<|cM Z (TB Z Z Z) (fun _=>Z) (PY hG hn h18 hT ar) ?_;rintro _ V ⟨⟨a4,rfl,a1,a2⟩,ar⟩;refine So 2 Z<|aD Z (fun am=>?_) (fun am=>?_)
 ·refine Sm 2 Z<|Y Z (TE Z ar.g1 (n:=2) (vs:=[_,_]) Z) Z<|sA ar Z (TJ Z Z Z (ar.get 2 Z) (m:=2) Z (aj Z<|aj hT.leaf.2 aI) (cells':=[_,_]) Z) Z (fun V ar=>?_);refine Sr 3 Z<|aA<|aK<|bD<|aK (?_);have a0:bJ n (IM n T)=bJ n T:=by rw[<-OP];exact a1 am
  rw[hM.fix a0] at hT;exact eM Z Z (ar.get 2 Z) (m:=2) O Z ⟨K6,_,KP.le_trans F<|KP.le_trans hle34<|KP.le_trans w C,Z,hT,ar.pop.pop.pop.pop⟩
 refine aG<|ad<|ah Z<|Y Z (TE Z ar.g0 (n:=2) (vs:=[_,_]) Z) Z<|gS ar Z (TJ Z Z Z ar.g1 (m:=2) Z (aj Z<|aj h18.leaf.2 aI) (cells':=[_,_]) Z) Z (fun V ar=>?_);replace ar:=ar.sub (.cons _ (.cons_cons _ (.cons_cons _ (.cons_cons _ (.refl _)))));refine af<|aC ?_;have hne:=a2 am;rw[OP] at hne h18;have hlt:=MW (n:=n) (S:=T) (R:=IM n T) (fun a b _ _ h=>LJ h) (fun e=>hne e.symm);have hmx:=MV n (IM n T);refine aH ⟨j4-1,by omega,oF,IM n T,_,K6,KP.le_trans F<|KP.le_trans hle34<|KP.le_trans w C,hM.sq,h18,by omega,ar⟩
theorem Re {G:Cx} (M:Plain G) {K:KP} {n:Nat} (R:n<=64) {A:Rn} {va:U} (Q:bL K 1 RU (bJ n A) va) {i q:Nat} (hi:i<n) (hq:q<n) {V:aE} {L:Own} (ar:D V K L):
  bu Tryz.prog G 105 [.agg [.int .i64 (.ofNat n),va],.int .i64 (.ofNat i),.int .i64 (.ofNat q)] V fun u V'=>u= .bool (A i q)/\D V' K L:=by
 refine SQ M Tryz.func105 Z<|Sm 2 Z<|kp ar Z (cC Z Z) (fun V b1 ar=>?_);refine RE 5 Z<|Y Z (TE Z ar.g0 (n:=2) (vs:=[_,_]) Z) Z<|bz Z (TB Z Z Z) (fun _=>Z) (qX M R Q ar) (fun V ar=>?_);refine vQ 1 Z<|ky Z (aq Z) (fun w=>?_) (fun w=>?_)
 ·refine SY 3 Z<|ky Z (aq Z) (fun z=>?_) (fun z=>?_)
  ·refine S2 ar 5 [0,0] Z Z<|ky Z (aq Z) (fun B=>?_) (fun B=>?_)
   ·refine SY 3 Z<|ky Z (aq Z) (fun C=>?_) (fun C=>?_)
    ·refine S2 ar 5 [0,0] Z Z<|ky Z (aq Z) (fun E=>?_) (fun E=>?_)
     ·refine S2 ar 3 [1,0] Z Z<|Tw (e:=164) (m:=1) Q (ek hi) Z Z Z Z (fun ac aa F ab I=>?_);obtain rfl:=I;refine Y Z (TH ar F Z Z) Z<|vQ 1 Z<|Y Z (iX (j:=q) oM O O O Z) Z<|Sr 8 Z ?_;exact aB Z Z ⟨cB ((rX (x:=cS n<|A i) (j:=q) oM).trans (by rw[dt,decide_eq_true hq,Bool.true_and])),ar.pop⟩
     exact absurd (bA E) oM
    exact Bool.noConfusion (show true=false from C)
   exact absurd (bA B) oM
  exact Bool.noConfusion (show true=false from z)
 exact absurd w (by decide)
theorem IC {G:Cx} (hG:Plain G) {K:KP} {n:Nat} (hn:n<=64) {l:List (Nat×Nat)} {v:U} (W:bL K 2 RP l v) (X:∀p∈l,p.1<n/\p.2<n) {V:aE} {L:Own} (ar:D V K L):
  bu Tryz.prog G 73 [.int .i64 (.ofNat n),v] V fun u V'=>∃b,u= .agg [.int .i64 (.ofNat n),.slice b 0 n (.known n)]/\D V' K ((b,.row ((bJ n<|C2 l).map gU) 164 false)::L):=by
 refine SQ hG Tryz.func73 Z<|Sm 2 Z<|kp ar Z (TG (cs:=[N,.az])) (fun V b1 ar=>?_);refine RE 5 Z<|cM Z (TB Z Z Z) (fun _=>Z) (yr hG hn ar) ?_;rintro _ V ⟨b2,rfl,ar⟩;refine kp ar Z (TG (cs:=[N,.az])) (fun V b3 ar=>?_);refine bZ ar Z (TJ Z Z Z ar.g0 (m:=2) Z Z (cells':=[_,_]) Z) Z (fun V ar=>?_);refine Q9 5 Z ?_;rw[show bJ n (fun _ _=>false)=bJ n (C2<|l.take 0) from cE fun a b _ _=>by unfold C2;simp] at ar;refine RD 4 Z (bf ([6,7,8]++rg 11 47) (fun j t V=>∃(k:Nat),j+k=l.length/\t.get 6=some (.int .i64 (.ofNat k))/\D V K ((b3,.row [.int .i64 (.ofNat n),.slice b2 0 n (.known n)] 110 false)::(b2,.row ((bJ n<|C2<|l.take k).map gU) 164 false)::(b1,.row [N,.az] 110 false)::L)) (l.length) ⟨0,Z,Z,ar⟩ ?_);clear ar;intro j3 t V an hI;obtain⟨k,a1,aa,ar⟩:=hI;obtain⟨oo,rfl⟩:=an.q1 aa Z;refine Ry 5 Z<|Y Z (TF W Z Z Z (e:=138) Z) Z<|So 3 Z<|aD Z (fun w=>?_) (fun w=>?_)
 ·refine Qr 5 Z<|aU (l:=zp [0,1,2,3,4,5,6,7,8,9,10,11]) O O ?_;obtain⟨⟨pa,pb⟩,z,a2⟩:=cK w;obtain⟨A,ab⟩:pa<n/\pb<n:=X _ (gB_ z);refine S0 2 Z<|Tx (e:=138) (m:=2) W z Z Z Z Z Z (fun a3 am B ao C=>?_);obtain rfl:=C;refine qS B Z Z Z Z (nn:=2) (e:=3) (m:=1) (j:=0) Z O O (by decide) (lb Z) (fun _=>Z) (fun a4 E=>?_);refine ai Z Z (TH ar E Z Z) Z<|S0 2 Z<|Tx (e:=138) (m:=2) W z Z Z Z Z Z (fun a5 ap F a0 I=>?_);obtain rfl:=I;refine qS F Z Z Z Z (nn:=2) (e:=3) (m:=1) (j:=1) Z O O (by decide) (lb Z) (fun _=>Z) (fun a6 M=>?_);refine ai Z Z (TH ar M Z Z) Z<|Ss 4 Z<|Sm 4 Z<|ky Z (aq Z) (fun Q=>?_) (fun Q=>?_)
  ·refine S2 ar 5 [0,0] Z Z<|ky Z (aq Z) (fun R=>?_) (fun R=>?_)
   ·refine SY 3 Z<|ky Z (aq Z) (fun S=>?_) (fun S=>?_)
    ·refine Sw ar 7 [0,0] Z Z<|aD Z (fun T=>?_) (fun T=>?_)
     ·refine aU (l:=zp [0,1,2,3,4,5,6,7,8,9,10,11,12,13]) O O (S3 ar 6 [1,0,1,0] Z Z (ai Z Z (fS (e:=164) (m:=1) O O Z Z A) Z (ai Z Z (aw Z ar.g1 O<|jP (ek A) (by first | omega | rfl)) Z (wQ 1 Z (ai Z Z (iX (j:=pb) oM O O O Z) Z (ai Z Z (ax (v:=.int .u64 (.ofNat (2 ^ pb))) Z Z<|G9 oM) Z (ai Z Z (ax (v:=.int .u64 (.ofNat<|cS n (C2 (l.take k) pa) ||| 2 ^ pb)) Z Z<|L7 (gy hn _)<|Nat.pow_lt_pow_right oM oM) Z<|ai Z Z (fS (e:=164) (m:=1) O O Z Z A) Z ?_)))))));refine gD ar (.there .here) Z Z (aR Z Z Z ar.g1 (m:=1) O Z (by rw[lM_];rw[cF];omega) Z (cells':=((bJ n<|C2<|l.take k).set pa<|cS n (C2 (l.take k) pa) ||| 2 ^ pb).map (gU)) (eK (f:=gU) (v:=(cS n (C2 (l.take k) pa) ||| 2 ^ pb)) (by rw[cF];exact A) (by first | omega | rfl))) Z (fun V ar=>?_);refine⟨ba,?_⟩;rw[NJ z ab] at ar;refine aX<|aC<|SV 5 Z ?_;have hlp:=bc w;refine aH ⟨j3-1,by omega,oF,k+1,by omega,cI<|aW (by have:=W.bO;omega),ar⟩
     exact absurd (bA T) oM
    exact Bool.noConfusion (show true=false from S)
   exact absurd (bA R) oM
  exact Bool.noConfusion (show true=false from Q)
 refine RC 3 Z<|aL<|Sm 2 Z<|Y Z (TE Z ar.g0 (n:=2) (vs:=[_,_]) Z) Z<|sA ar Z (TJ Z Z Z (ar.get 2 Z) (m:=2) Z Z (cells':=[_,_]) Z) Z (fun V ar=>?_);refine Sr 3 Z ?_;have ac:l.take k=l:=tL_ (bA w);rw[ac] at ar;exact eM Z Z (ar.get 2 Z) (m:=2) O Z ⟨b2,Z,ar.sub (.cons _ (.cons_cons _ (.cons _ (.refl _))))⟩
theorem NZ {G:Cx} (hG:Plain G) {K:KP} {n:Nat} (hn:n<=64) {A:Rn} {va:U} (ha:bL K 1 RU (bJ n A) va) {V:aE} {L:Own} (ar:D V K L):
  bu Tryz.prog G 77 [.agg [.int .i64 (.ofNat n),va]] V fun u V'=>∃M,cZ 2 138 RP (jf n A) u M/\D V' K (M++L):=by
 refine SQ hG Tryz.func77 Z<|Sm 2 Z<|kp ar Z (cC Z Z) (fun V b1 ar=>?_);refine Q8 15 Z (bf (rg 3 36) (fun j t V=>∃(i:Nat) (u:U) (M:Own),j+i=n/\cZ 2 138 RP (eO n A i 0) u M/\t.get 3=some (u)/\t.get 4=some (.int .i64 (.ofNat i))/\D V K (M++(b1,.row [.int .i64 (.ofNat n),va] 110 false)::L)) (n) ⟨0,_,[],Z,(show cZ 2 138 RP (eO n A 0 0) .az [] from .inl ⟨by unfold eO;simp,Z,Z⟩),Z,Z,ar⟩ ?_);clear ar;intro j3 t V an hI;obtain⟨i,u,M,a1,hO,C,ab,ar⟩:=hI;obtain⟨oo,rfl⟩:=an.q2 C ab Z;refine RJ ar 5 [0] Z Z<|Y Z (TD Z ar.bR.g0 Z) Z<|vQ 1 Z<|ky Z (aq Z) (fun B=>?_) (fun B=>?_)
 ·refine Y Z (TE Z ar.bR.g0 (n:=2) (vs:=[_,_]) Z) Z<|bz Z (TB Z Z Z) (fun _=>Z) (qX hG hn ha ar) (fun V ar=>?_);refine So 4 Z<|aD Z (fun Q=>?_) (fun Q=>?_)
  ·refine Q7 9 Z (aJ (bf ([3,5]++rg 17 22) (fun j t V=>∃(q:Nat) (S:U) (T:Own),j+q=n/\cZ 2 138 RP (eO n A i q) S T/\t.get 3=some (S)/\t.get 5=some (.int .i64 (.ofNat q))/\D V K (T++(b1,.row [.int .i64 (.ofNat n),va] 110 false)::L)) (n) ⟨0,u,M,Z,hO,Z,Z,ar⟩ ?_));clear ar;intro j6 t V an hI;obtain⟨q,S,T,a2,hO2,C,ac,ar⟩:=hI;obtain⟨oo,rfl⟩:=an.q2 C ac Z;refine RJ ar 5 [0] Z Z<|Y Z (TD Z ar.bR.g0 Z) Z<|So 3 Z<|aD Z (fun E=>?_) (fun E=>?_)
   ·refine Qs 6 Z ?_;have hin:=bc B;have hqn:=bc E;refine Y Z (TC 1 Z) Z<|Y Z (TD Z ar.bR.g0 Z) Z<|vQ 1 Z<|Tw (e:=164) (m:=1) ha (ek hin) Z Z Z Z (fun a3 ap W a0 aa=>?_);obtain rfl:=aa;refine Y Z (TH ar W Z Z) Z<|vQ 1 Z<|Y Z (iX (j:=q) oM O O O Z) Z<|So 5 Z<|aD Z (fun F=>?_) (fun F=>?_)
    ·have w:A i q=true:=by have e:=(rX (x:=cS n<|A i) (j:=q) oM).symm.trans F;rw[dt,decide_eq_true hqn,Bool.true_and] at e;exact e
     refine ah Z<|SY 3 Z<|Y Z (mI (e:=3) (n:=2) (m:=1) (zero:=[N,N]) (cs:=[_,_]) O O O Z) Z<|fe ar Z (bP (e:=138) (m:=2) (z:=[N,N]) (cs:=[_,_]) O O O O<|bj Z Z Z Z bF) (fun _=>Z) (fun V b2 ar=>?_);replace ar:=ar.pull (.there .here);replace ar:=ar.pull (.dN<|cX.here (X:=[_]));refine fH (R:=RP) (m:=2) (e:=138) hO2 ar (di (m:=2) Z (show RP (i,q) [.int .i64 (.ofNat i),.int .i64 (.ofNat q)] from Z)) RP.leaf (by have:=kD (n:=n) (R:=A) (i:=i) (q:=q);have:i*n<=64*64:=Nat.mul_le_mul oM hn;show _+1<=_;omega) Z Z Z Z Z Z Z (fun _=>Z) (fun V am ao hO38 ar=>?_);refine SX 2 Z<|aC<|SV 5 Z<|aH ⟨j6-1,by omega,oF,q+1,am,ao,by omega,(kF w ▸ hO38),Z,cI<|aW oM,ar⟩
    have w:A i q=false:=by have e:=(rX (x:=cS n<|A i) (j:=q) oM).symm.trans F;rw[dt,decide_eq_true hqn,Bool.true_and] at e;exact e
    refine aG<|aC<|SV 5 Z<|aH ⟨j6-1,by omega,oF,q+1,S,T,by omega,(lR w ▸ hO2),Z,cI<|aW oM,ar⟩
   refine RC 3 Z<|aL<|aC<|SV 5 Z ?_;have hlp:=bc B;have I:q=n:=by have:=bA E;omega
   subst I;refine aH ⟨j3-1,by omega,oF,i+1,S,T,by omega,(kE ▸ hO2),Z,cI<|aW oM,ar⟩
  exact absurd Q (by decide)
 refine RH 9 Z<|aS<|aL<|SW 7 Z ?_;have I:i=n:=by have:=bA B;omega
 subst I;rw[qe] at hO;exact aB Z Z ⟨M,hO,ar.sub<|ec (.cons _ (.refl _))⟩
end Go.Ev
namespace Go.Ev
variable [Env]
def R1 (n:pD):Bool:=bh (H n.ask.kind 0)
def eD (n:pD) (m:List Int):db:=bif R1 n then ea n.ask ((m[n.ask.loc.toNat]?).getD 0) else n.event
theorem IG {g:XG} (hchk:cV g=0) {e:db} (h:bX e (.ofNat g.init.length)=true) (hw:bI e=true):∃(ln:Nat) (r:List cY),e.loc= .ofNat ln/\g.order[ln]?=some r/\(dv g e.loc).length=r.length+1:=by
 unfold bX at h
 have h4:H e.kind 4=false:=by
  grind [bI,eqv]
 rw[h4] at h
 have key:(bif bh (b9 e.loc 0) then b9 e.loc (.ofNat g.init.length) else false)=true:=by
  simp_all
 cases h0:b9 e.loc 0 with
 | true=>rw[h0] at key;cases key
 | false=>
  rw[h0] at key;obtain⟨ln,hl⟩:=kA h0;rw[hl] at key;have j:ln<g.init.length:=bc key;obtain⟨r,m⟩:=mr hchk j;exact⟨ln,r,hl,m,by rw[hl,fX (by rw[hchk];rfl) m];rfl⟩
section
variable {g:XG} {tm:Nat} {row:List db} {frow:List cY} (hchk:cV g=0) (hx:g.threads[tm]?=some row) (hf:g.from_[tm]?=some frow) (hlen:b9 (.ofNat row.length) 14=true) {e:db} {fr:cY} {pl:Int}
include hchk hx hf hlen
end
section
variable {k:Nat} {l:List XC} {r:XM} {t:Nat} {c:XC} {row:List db} (hinv:BJ k l r) (hc:l[t]?=some c) (hrow:r.g.threads[t]?=some row)
include hinv hc hrow
end
end Go.Ev
namespace Go.Ev
variable [Env]
open Go.Proofs
set_option maxRecDepth 4000
set_option maxHeartbeats 8000000
structure Td (g:XG) (u1:U) (M1:Own) (b2:Nat) (us2:List U) (M2:Own) (b3:Nat) (us3:List U) (M3:Own) (b4:Nat) (us4:List U) (M4:Own):Prop where
 init:cZ 1 2 eu g.init u1 M1
 threads:g8 5 59 mJ g.threads us2 M2
 from_:g8 2 51 nH g.from_ us3 M3
 order:g8 2 51 nH g.order us4 M4
theorem DK {G:Cx} (m:Plain G) {K:KP} (e:db) {V:aE} {L:Own} (ar:D V K L):bu Tryz.prog G 38 [.agg<|ints e.ints] V fun v V'=>v= .bool (cN e)/\D V' K L:=by
 refine SQ m Tryz.func38 Z<|Sm 2 Z<|kp ar Z (cC Z Z) (fun V b1 ar=>?_);refine RM ar 8 [0,0] Z Z<|ky Z (aq Z) (fun j=>?_) (fun j=>?_)
 ·refine Sr 8 Z ?_;exact aB Z Z ⟨cB (by unfold cN;simp only[j,ct,cf]),ar.pop⟩
 refine Sx ar 8 [0,0] Z Z ?_;exact aB Z Z ⟨cB (by unfold cN;simp only[j,ct,cf]),ar.pop⟩
theorem lT {G:Cx} (m:Plain G) {K:KP} (e:db) {V:aE} {L:Own} (ar:D V K L):bu Tryz.prog G 39 [.agg<|ints e.ints] V fun v V'=>v= .bool (bI e)/\D V' K L:=by
 refine SQ m Tryz.func39 Z<|Sm 2 Z<|kp ar Z (cC Z Z) (fun V b1 ar=>?_);refine RM ar 8 [0,0] Z Z<|ky Z (aq Z) (fun j=>?_) (fun j=>?_)
 ·refine Sr 8 Z ?_;exact aB Z Z ⟨cB (by unfold bI;simp only[j,ct,cf]),ar.pop⟩
 refine Sx ar 8 [0,0] Z Z ?_;exact aB Z Z ⟨cB (by unfold bI;simp only[j,ct,cf]),ar.pop⟩
theorem tX {G:Cx} (hG:Plain G) {K:KP} {g:XG} {a b c d:U} (h:gY K g a b c d) (th ix:Int) {V:aE} {L:Own} (ar:D V K L):bu Tryz.prog G 40 [.agg [a,b,c,d],.agg [.int .i64 th,.int .i64 ix]] V fun v V'=>v= .tuple [.agg<|ints (mK<|dn g ⟨th,ix⟩).ints,.bool (dn g ⟨th,ix⟩).isSome]/\D V' K L:=by
 have h':=h;obtain⟨hi,M,hf,ho⟩:=h';refine SQ hG Tryz.func40 Z<|Sm 2 Z<|kp ar Z (cC Z Z) (fun V b1 ar=>?_);refine kp ar Z (cC Z Z) (fun V b2 ar=>?_);refine kp ar Z (TG (cs:=[N,N,N,N,N])) (fun V b3 ar=>?_);refine Rb ar 9 [0,1] Z Z<|So 2 Z<|aD Z (fun I=>?_) (fun I=>?_)
 ·refine RJ ar 6 [1,1] Z Z<|ky Z (aq Z) (fun w=>?_) (fun w=>?_)
  ·refine RE 12 Z (Y Z (TA (places:=[(0,1),(1,1),(2,1),(3,1),(4,1)]) (zero:=[N,N,N,N,N]) (cs:=[_,_,_,_,_]) Z) Z<|bZ ar Z (TJ Z Z Z ar.g0 (m:=5) Z Z (cells':=[_,_,_,_,_]) Z) Z (fun V ar=>?_));refine Sr 4 Z<|aA<|aA (?_);exact cA Z Z ar.g0 (m:=5) O Z Z ⟨by rw[qI w];rfl,ar.pop.pop.pop⟩
  refine S2 ar 4 [1,1,0,2] Z Z<|Y Z (TF hi Z Z Z (e:=2) Z) Z<|So 4 Z<|aD Z (fun B=>?_) (fun B=>?_)
  ·obtain⟨ixn,rfl⟩:=kA w;obtain rfl:th=0:=by rw[cW] at I;simpa using I
   refine Sm 2 Z (Y Z (TA (places:=[(0,1),(1,1),(2,1),(3,1),(4,1)]) (zero:=[N,N,N,N,N]) (cs:=[_,_,_,_,_]) Z) Z<|bZ ar Z (TJ Z Z Z ar.g0 (m:=5) Z Z (cells':=[_,_,_,_,_]) Z) Z (fun V ar=>?_));refine Sr 4 Z<|aA<|aA (?_);exact cA Z Z ar.g0 (m:=5) O Z Z ⟨by rw[show dn g _=none from by show(g.init[ixn]?).map _=_;rw[gN_<|pO B];rfl];rfl,ar.pop.pop.pop⟩
  obtain⟨ixn,rfl⟩:=kA w;obtain rfl:th=0:=by rw[cW] at I;simpa using I
  refine Rz 3 Z<|aU (l:=zp [0,1,2,3,4,5,6,7,8,9,10]) O O<|S3 ar 6 [1,1,0,2,1,1] Z Z ?_;obtain⟨a5,z⟩:=cL (pZ B);refine Tx (e:=2) (m:=1) hi z Z Z Z Z Z (fun a6 an Q ao R=>?_);obtain rfl:=R;refine ai Z Z (TH ar Q Z Z) Z (ai Z Z (TA (places:=[(0,1),(1,1),(2,1),(3,1),(4,1)]) (zero:=[N,N,N,N,N]) (cs:=[_,_,_,_,_]) Z) Z<|iM ar Z Z (TJ Z Z Z ar.g0 (m:=5) Z Z (cells':=[_,_,_,_,_]) Z) Z (fun V ar=>?_));refine⟨ba,?_⟩;refine RI 5 Z ?_;exact cA Z Z ar.g0 (m:=5) O Z Z ⟨by rw[show dn g _=some _ from by show(g.init[ixn]?).map _=_;rw[z];rfl];rfl,ar.pop.pop.pop⟩
 refine Rz 3 Z<|al<|aU (l:=zp [0,1,2,3,4,5,6,7,8,9,10,11,12,13,14,15,16,17,18,19,20,21,22,23,24,25,26,27,28]) O O<|S3 ar 3 [0,1] Z Z<|eg Z Z (aq Z) (fun _=>Z) (fun C=>?_) (fun C=>?_)
 ·refine Ss 28 Z (Sm 2 Z (Y Z (TA (places:=[(0,1),(1,1),(2,1),(3,1),(4,1)]) (zero:=[N,N,N,N,N]) (cs:=[_,_,_,_,_]) Z) Z<|bZ ar Z (TJ Z Z Z ar.g0 (m:=5) Z Z (cells':=[_,_,_,_,_]) Z) Z (fun V ar=>?_)));refine RG 5 Z ?_;exact cA Z Z ar.g0 (m:=5) O Z Z ⟨by rw[uu C];rfl,ar.pop.pop.pop⟩
 refine S3 ar 4 [0,1,1,2] Z Z<|ai Z Z (TF M Z Z Z (e:=56) Z) Z<|S0 2 Z<|eg Z Z (aq Z) (fun _=>Z) (fun u=>?_) (fun u=>?_)
 ·refine Ss 20 Z (Sm 2 Z (Y Z (TA (places:=[(0,1),(1,1),(2,1),(3,1),(4,1)]) (zero:=[N,N,N,N,N]) (cs:=[_,_,_,_,_]) Z) Z<|bZ ar Z (TJ Z Z Z ar.g0 (m:=5) Z Z (cells':=[_,_,_,_,_]) Z) Z (fun V ar=>?_)));refine RG 5 Z ?_;exact cA Z Z ar.g0 (m:=5) O Z Z ⟨by rw[Cl u];rfl,ar.pop.pop.pop⟩
 refine S3 ar 4 [1,1] Z Z<|eg Z Z (aq Z) (fun _=>Z) (fun E=>?_) (fun E=>?_)
 ·refine Ss 15 Z (Sm 2 Z (Y Z (TA (places:=[(0,1),(1,1),(2,1),(3,1),(4,1)]) (zero:=[N,N,N,N,N]) (cs:=[_,_,_,_,_]) Z) Z<|bZ ar Z (TJ Z Z Z ar.g0 (m:=5) Z Z (cells':=[_,_,_,_,_]) Z) Z (fun V ar=>?_)));refine RG 5 Z ?_;exact cA Z Z ar.g0 (m:=5) O Z Z ⟨by rw[qI E];rfl,ar.pop.pop.pop⟩
 refine S3 ar 7 [1,1,1,2,0,1] Z Z ?_;obtain⟨tn,rfl⟩:=kA C;obtain⟨tm,rfl⟩:=G5 I;obtain⟨ixn,rfl⟩:=kA E;obtain⟨a7,j⟩:=cL (show tm<g.threads.length from by have:=nQ u;omega);refine Tx (e:=56) (m:=1) M j Z Z Z Z (cI<|gW (by have:=nQ u;have:=M.bO;omega)) (fun a8 ap S a0 T=>?_);have hr54':=T;obtain⟨a9,rfl,W⟩:=hr54';refine ai Z Z (TH ar S Z Z) Z<|ai Z Z (TF W Z Z Z (e:=59) Z) Z<|Ss 4 Z<|aD Z (fun F=>?_) (fun F=>?_)
 ·refine Sm 2 Z (Y Z (TA (places:=[(0,1),(1,1),(2,1),(3,1),(4,1)]) (zero:=[N,N,N,N,N]) (cs:=[_,_,_,_,_]) Z) Z<|bZ ar Z (TJ Z Z Z ar.g0 (m:=5) Z Z (cells':=[_,_,_,_,_]) Z) Z (fun V ar=>?_));refine RG 5 Z ?_;exact cA Z Z ar.g0 (m:=5) O Z Z ⟨by rw[show dn g _=none from by show(g.threads[tm]?).bind _=_;rw[j];exact gN_<|pO F];rfl,ar.pop.pop.pop⟩
 refine Rz 3 Z<|aU (l:=zp [0,1,2,3,4,5,6,7,8,9,10,11,12]) O O<|S3 ar 5 [1,2,0,1] Z Z<|Tx (e:=56) (m:=1) M j Z Z Z Z (cI<|gW (by have:=nQ u;have:=M.bO;omega)) (fun bb a1 X a2 aa=>?_);have hr65':=aa;obtain⟨bd,rfl,ab⟩:=hr65';refine ai Z Z (TH ar X Z Z) Z<|S3 ar 2 [1,1] Z Z ?_;obtain⟨be,A⟩:=cL (pZ F);refine Tx (e:=59) (m:=5) ab A Z Z Z Z Z (fun bi a3 ac a4 am=>?_);obtain rfl:=am;refine ai Z Z (TI ar ac Z Z) Z<|iM ar Z Z (TJ Z Z Z ar.g0 (m:=5) Z Z (cells':=[_,_,_,_,_]) Z) Z (fun V ar=>?_);refine⟨ba,?_⟩;refine Su 4 Z ?_;exact cA Z Z ar.g0 (m:=5) O Z Z ⟨by rw[show dn g _=some _ from by show(g.threads[tm]?).bind _=_;rw[j];exact A];rfl,ar.pop.pop.pop⟩
theorem Bv {G:Cx} (hG:Plain G) {K:KP} {g:XG} {a b c d:U} (h:gY K g a b c d) (mo:Int) {V:aE} {L:Own} (ar:D V K L):bu Tryz.prog G 6 [.agg [a,b,c,d],.int .i64 mo] V fun v V'=>∃q,v= .bool q/\D V' K L:=by
 have h':=h;obtain⟨hi,ht,hf,S⟩:=h';refine SQ hG Tryz.func6 Z<|Sm 2 Z<|kp ar Z (cC Z Z) (fun V b1 ar=>?_);refine RM ar 9 [0,0] Z Z<|Y Z (TF hi Z Z Z (e:=2) Z) Z<|Y Z (qz Z Z Z Z) Z<|S2 ar 4 [1,0] Z Z<|Y Z (TF ht Z Z Z (e:=56) Z) Z<|Y Z (qz Z Z Z Z) Z<|S2 ar 5 [2,0] Z Z<|Y Z (TF hf Z Z Z (e:=49) Z) Z<|Y Z (qz Z Z Z Z) Z<|S2 ar 5 [3,0] Z Z<|Y Z (TF S Z Z Z (e:=49) Z) Z<|Y Z (qz Z Z Z Z) Z<|Q8 11 Z ?_;obtain⟨LL1,ar,hLL1⟩:=ar.named;refine bf ([5,6]++rg 36 23) (fun j t V=>∃(i:Nat) (m:Int),j+i=g.threads.length/\t.get 5=some (.int .i64 m)/\t.get 6=some (.int .i64 (.ofNat i))/\D V K LL1) (g.threads.length) ⟨0,_,Z,Z,Z,ar⟩ ?_;clear ar;intro j3 t V an T;obtain⟨i,m,br,B,bd,ar⟩:=T;subst hLL1;obtain⟨oo,rfl⟩:=an.q2 B bd Z;refine RJ ar 6 [1,0] Z Z<|Y Z (TF ht Z Z Z (e:=56) Z) Z<|vQ 1 Z<|ky Z (aq Z) (fun a3=>?_) (fun a3=>?_)
 ·refine So 6 Z<|aD Z (fun be=>?_) (fun be=>?_)
  ·refine Ra ar 11 [1,0] Z Z ?_;obtain⟨bs,a4,bo⟩:=cK a3;refine Tw (e:=56) (m:=1) ht a4 Z Z Z Z (fun bt bp a5 bq a6=>?_);have hr54':=a6;obtain⟨bv,rfl,a7⟩:=hr54';refine Y Z (TH ar a5 Z Z) Z<|Y Z (TF a7 Z Z Z (e:=59) Z) Z<|Y Z (qz Z Z Z Z) Z<|SX 3 Z<|aC<|SV 5 Z<|aH ⟨j3-1,by omega,oF,i+1,_,by omega,Z,cI<|aW (by have:=ht.bO;omega),ar⟩
  refine RC 3 Z<|aL<|Rx 7 Z ?_;obtain⟨LL2,ar,hLL2⟩:=ar.named;refine bf ([5,7]++rg 59 24) (fun j t V=>∃(i:Nat) (m:Int),j+i=g.from_.length/\t.get 5=some (.int .i64 m)/\t.get 7=some (.int .i64 (.ofNat i))/\D V K LL2) (g.from_.length) ⟨0,_,Z,Z,Z,ar⟩ ?_;clear ar;intro j7 t V an T;obtain⟨i,m,bi,B,a1,ar⟩:=T;subst hLL2;obtain⟨oo,rfl⟩:=an.q2 B a1 Z;refine RJ ar 6 [2,0] Z Z<|Y Z (TF hf Z Z Z (e:=49) Z) Z<|vQ 1 Z<|ky Z (aq Z) (fun W=>?_) (fun W=>?_)
  ·refine So 7 Z<|aD Z (fun a2=>?_) (fun a2=>?_)
   ·refine Ra ar 11 [2,0] Z Z ?_;obtain⟨bk,X,a8⟩:=cK W;refine Tw (e:=49) (m:=1) hf X Z Z Z Z (fun bl a9 aa bb ab=>?_);have hr78':=ab;obtain⟨bm,rfl,ac⟩:=hr78';refine Y Z (TH ar aa Z Z) Z<|Y Z (TF ac Z Z Z (e:=51) Z) Z<|Y Z (qz Z Z Z Z) Z<|SX 3 Z<|aC<|SV 5 Z<|aH ⟨j7-1,by omega,oF,i+1,_,by omega,Z,cI<|aW (by have:=hf.bO;omega),ar⟩
   refine RC 3 Z<|aL<|Rx 7 Z ?_;obtain⟨LL3,ar,hLL3⟩:=ar.named;refine bf ([5,8]++rg 83 24) (fun j t V=>∃(i:Nat) (m:Int),j+i=g.order.length/\t.get 5=some (.int .i64 m)/\t.get 8=some (.int .i64 (.ofNat i))/\D V K LL3) (g.order.length) ⟨0,_,Z,Z,Z,ar⟩ ?_;clear ar;intro E t V an T;obtain⟨i,m,am,B,F,ar⟩:=T;subst hLL3;obtain⟨oo,rfl⟩:=an.q2 B F Z;refine RJ ar 6 [3,0] Z Z<|Y Z (TF S Z Z Z (e:=49) Z) Z<|vQ 1 Z<|ky Z (aq Z) (fun C=>?_) (fun C=>?_)
   ·refine So 7 Z<|aD Z (fun I=>?_) (fun I=>?_)
    ·refine Ra ar 11 [3,0] Z Z ?_;obtain⟨ao,u,M⟩:=cK C;refine Tw (e:=49) (m:=1) S u Z Z Z Z (fun ap Q w R z=>?_);have hr102':=z;obtain⟨a0,rfl,A⟩:=hr102';refine Y Z (TH ar w Z Z) Z<|Y Z (TF A Z Z Z (e:=51) Z) Z<|Y Z (qz Z Z Z Z) Z<|SX 3 Z<|aC<|SV 5 Z<|aH ⟨E-1,by omega,oF,i+1,_,by omega,Z,cI<|aW (by have:=S.bO;omega),ar⟩
    refine RC 3 Z<|aL<|SW 10 Z ?_;exact aB Z Z ⟨_,Z,ar.pop⟩
   refine RH 10 Z<|aS<|aL<|SW 10 Z ?_;exact aB Z Z ⟨_,Z,ar.pop⟩
  refine RH 10 Z<|aS<|aL<|Rx 7 Z ?_;obtain⟨LL4,ar,hLL4⟩:=ar.named;refine bf ([5,8]++rg 83 24) (fun j t V=>∃(i:Nat) (m:Int),j+i=g.order.length/\t.get 5=some (.int .i64 m)/\t.get 8=some (.int .i64 (.ofNat i))/\D V K LL4) (g.order.length) ⟨0,_,Z,Z,Z,ar⟩ ?_;clear ar;intro E t V an T;obtain⟨i,m,am,B,F,ar⟩:=T;subst hLL4;obtain⟨oo,rfl⟩:=an.q2 B F Z;refine RJ ar 6 [3,0] Z Z<|Y Z (TF S Z Z Z (e:=49) Z) Z<|vQ 1 Z<|ky Z (aq Z) (fun C=>?_) (fun C=>?_)
  ·refine So 7 Z<|aD Z (fun I=>?_) (fun I=>?_)
   ·refine Ra ar 11 [3,0] Z Z ?_;obtain⟨ao,u,M⟩:=cK C;refine Tw (e:=49) (m:=1) S u Z Z Z Z (fun ap Q w R z=>?_);have hr102':=z;obtain⟨a0,rfl,A⟩:=hr102';refine Y Z (TH ar w Z Z) Z<|Y Z (TF A Z Z Z (e:=51) Z) Z<|Y Z (qz Z Z Z Z) Z<|SX 3 Z<|aC<|SV 5 Z<|aH ⟨E-1,by omega,oF,i+1,_,by omega,Z,cI<|aW (by have:=S.bO;omega),ar⟩
   refine RC 3 Z<|aL<|SW 10 Z ?_;exact aB Z Z ⟨_,Z,ar.pop⟩
  refine RH 10 Z<|aS<|aL<|SW 10 Z ?_;exact aB Z Z ⟨_,Z,ar.pop⟩
 refine RH 9 Z<|aS<|aL<|Rx 7 Z ?_;obtain⟨LL5,ar,hLL5⟩:=ar.named;refine bf ([5,7]++rg 59 24) (fun j t V=>∃(i:Nat) (m:Int),j+i=g.from_.length/\t.get 5=some (.int .i64 m)/\t.get 7=some (.int .i64 (.ofNat i))/\D V K LL5) (g.from_.length) ⟨0,_,Z,Z,Z,ar⟩ ?_;clear ar;intro j7 t V an T;obtain⟨i,m,bi,B,a1,ar⟩:=T;subst hLL5;obtain⟨oo,rfl⟩:=an.q2 B a1 Z;refine RJ ar 6 [2,0] Z Z<|Y Z (TF hf Z Z Z (e:=49) Z) Z<|vQ 1 Z<|ky Z (aq Z) (fun W=>?_) (fun W=>?_)
 ·refine So 7 Z<|aD Z (fun a2=>?_) (fun a2=>?_)
  ·refine Ra ar 11 [2,0] Z Z ?_;obtain⟨bk,X,a8⟩:=cK W;refine Tw (e:=49) (m:=1) hf X Z Z Z Z (fun bl a9 aa bb ab=>?_);have hr78':=ab;obtain⟨bm,rfl,ac⟩:=hr78';refine Y Z (TH ar aa Z Z) Z<|Y Z (TF ac Z Z Z (e:=51) Z) Z<|Y Z (qz Z Z Z Z) Z<|SX 3 Z<|aC<|SV 5 Z<|aH ⟨j7-1,by omega,oF,i+1,_,by omega,Z,cI<|aW (by have:=hf.bO;omega),ar⟩
  refine RC 3 Z<|aL<|Rx 7 Z ?_;obtain⟨LL6,ar,hLL6⟩:=ar.named;refine bf ([5,8]++rg 83 24) (fun j t V=>∃(i:Nat) (m:Int),j+i=g.order.length/\t.get 5=some (.int .i64 m)/\t.get 8=some (.int .i64 (.ofNat i))/\D V K LL6) (g.order.length) ⟨0,_,Z,Z,Z,ar⟩ ?_;clear ar;intro E t V an T;obtain⟨i,m,am,B,F,ar⟩:=T;subst hLL6;obtain⟨oo,rfl⟩:=an.q2 B F Z;refine RJ ar 6 [3,0] Z Z<|Y Z (TF S Z Z Z (e:=49) Z) Z<|vQ 1 Z<|ky Z (aq Z) (fun C=>?_) (fun C=>?_)
  ·refine So 7 Z<|aD Z (fun I=>?_) (fun I=>?_)
   ·refine Ra ar 11 [3,0] Z Z ?_;obtain⟨ao,u,M⟩:=cK C;refine Tw (e:=49) (m:=1) S u Z Z Z Z (fun ap Q w R z=>?_);have hr102':=z;obtain⟨a0,rfl,A⟩:=hr102';refine Y Z (TH ar w Z Z) Z<|Y Z (TF A Z Z Z (e:=51) Z) Z<|Y Z (qz Z Z Z Z) Z<|SX 3 Z<|aC<|SV 5 Z<|aH ⟨E-1,by omega,oF,i+1,_,by omega,Z,cI<|aW (by have:=S.bO;omega),ar⟩
   refine RC 3 Z<|aL<|SW 10 Z ?_;exact aB Z Z ⟨_,Z,ar.pop⟩
  refine RH 10 Z<|aS<|aL<|SW 10 Z ?_;exact aB Z Z ⟨_,Z,ar.pop⟩
 refine RH 10 Z<|aS<|aL<|Rx 7 Z ?_;obtain⟨LL7,ar,hLL7⟩:=ar.named;refine bf ([5,8]++rg 83 24) (fun j t V=>∃(i:Nat) (m:Int),j+i=g.order.length/\t.get 5=some (.int .i64 m)/\t.get 8=some (.int .i64 (.ofNat i))/\D V K LL7) (g.order.length) ⟨0,_,Z,Z,Z,ar⟩ ?_;clear ar;intro E t V an T;obtain⟨i,m,am,B,F,ar⟩:=T;subst hLL7;obtain⟨oo,rfl⟩:=an.q2 B F Z;refine RJ ar 6 [3,0] Z Z<|Y Z (TF S Z Z Z (e:=49) Z) Z<|vQ 1 Z<|ky Z (aq Z) (fun C=>?_) (fun C=>?_)
 ·refine So 7 Z<|aD Z (fun I=>?_) (fun I=>?_)
  ·refine Ra ar 11 [3,0] Z Z ?_;obtain⟨ao,u,M⟩:=cK C;refine Tw (e:=49) (m:=1) S u Z Z Z Z (fun ap Q w R z=>?_);have hr102':=z;obtain⟨a0,rfl,A⟩:=hr102';refine Y Z (TH ar w Z Z) Z<|Y Z (TF A Z Z Z (e:=51) Z) Z<|Y Z (qz Z Z Z Z) Z<|SX 3 Z<|aC<|SV 5 Z<|aH ⟨E-1,by omega,oF,i+1,_,by omega,Z,cI<|aW (by have:=S.bO;omega),ar⟩
  refine RC 3 Z<|aL<|SW 10 Z ?_;exact aB Z Z ⟨_,Z,ar.pop⟩
 refine RH 10 Z<|aS<|aL<|SW 10 Z ?_;exact aB Z Z ⟨_,Z,ar.pop⟩
theorem Nw {x y:cY}:bQ [x.cy,x.index] [y.cy,y.index]=bQ x y:=cY.same
theorem Oo {G:Cx} (I:Plain G) {K:KP} {g:XG} {a b c d:U} (h:gY K g a b c d) (e:db) {V:aE} {L:Own} (ar:D V K L):bu Tryz.prog G 18 [.agg [a,b,c,d],.agg<|ints e.ints] V fun v V'=>v= .bool (bX e (.ofNat g.init.length))/\D V' K L:=by
 have h':=h;obtain⟨hi,ht,hf,ho⟩:=h';refine SQ I Tryz.func18 Z<|Sm 2 Z<|kp ar Z (cC Z Z) (fun V b1 ar=>?_);refine kp ar Z (cC Z Z) (fun V b2 ar=>?_);refine Rb ar 9 [0,0] Z Z<|ky Z (aq Z) (fun E=>?_) (fun E=>?_)
 ·refine RG 44 Z ?_;exact aB Z Z ⟨cB (by unfold bX bh;simp only[E,ct,cf]),ar.pop.pop⟩
 refine S2 ar 4 [0,0] Z Z<|ky Z (aq Z) (fun j=>?_) (fun j=>?_)
 ·refine RG 39 Z ?_;exact aB Z Z ⟨cB (by unfold bX bh;simp only[E,j,ct,cf]),ar.pop.pop⟩
 refine S2 ar 4 [2,0] Z Z<|ky Z (aq Z) (fun u=>?_) (fun u=>?_)
 ·refine RG 34 Z ?_;exact aB Z Z ⟨cB (by unfold bX bh;simp only[E,j,u,ct,cf]),ar.pop.pop⟩
 refine S2 ar 4 [2,0] Z Z<|ky Z (aq Z) (fun w=>?_) (fun w=>?_)
 ·refine RG 29 Z ?_;exact aB Z Z ⟨cB (by unfold bX bh;simp only[E,j,u,w,ct,cf]),ar.pop.pop⟩
 refine Y Z (TE Z ar.g0 (n:=5) (vs:=[_,_,_,_,_]) Z) Z<|bz Z (TB Z Z Z) (fun _=>Z) (DK I _ ar) (fun V ar=>?_);refine Y Z (da Z) Z<|ky Z (aq Z) (fun A=>?_) (fun A=>?_)
 ·refine S2 ar 5 [3,0] Z Z<|ky Z (aq Z) (fun F=>?_) (fun F=>?_)
  ·refine RG 19 Z ?_;exact aB Z Z ⟨cB (by unfold bX bh;simp only[E,j,u,w,A,F,ct,cf]),ar.pop.pop⟩
  refine Y Z (TE Z ar.g0 (n:=5) (vs:=[_,_,_,_,_]) Z) Z<|bz Z (TB Z Z Z) (fun _=>Z) (lT I _ ar) (fun V ar=>?_);refine Y Z (da Z) Z<|ky Z (aq Z) (fun z=>?_) (fun z=>?_)
  ·refine Sw ar 7 [4,0] Z Z<|aD Z (fun C=>?_) (fun C=>?_)
   ·refine Sn 7 Z ?_;exact aB Z Z ⟨cB (by unfold bX bh;simp only[E,j,u,w,A,F,z,C,ct,cf]),ar.pop.pop⟩
   refine Rz 3 Z<|Sm 2 Z<|Sw ar 5 [0,0] Z Z<|aD Z (fun m=>?_) (fun m=>?_)
   ·refine Sv ar 10 [1,0] Z Z ?_;exact aB Z Z ⟨cB (by unfold bX bh;simp only[E,j,u,w,A,F,z,C,m,ct,cf]),ar.pop.pop⟩
   refine RK ar 7 [1,0] Z Z<|ky Z (aq Z) (fun B=>?_) (fun B=>?_)
   ·refine S2 ar 4 [1,0,0,1] Z Z<|Y Z (TF hi Z Z Z (e:=2) Z) Z<|Sr 6 Z ?_;exact aB Z Z ⟨cB (by unfold bX bh;simp only[E,j,u,w,A,F,z,C,m,B,ct,cf]),ar.pop.pop⟩
   refine Sr 11 Z ?_;exact aB Z Z ⟨cB (by unfold bX bh;simp only[E,j,u,w,A,F,z,C,m,B,ct,cf]),ar.pop.pop⟩
  refine So 8 Z<|Rz 3 Z<|Sm 2 Z<|Sw ar 5 [0,0] Z Z<|aD Z (fun m=>?_) (fun m=>?_)
  ·refine Sv ar 10 [1,0] Z Z ?_;exact aB Z Z ⟨cB (by unfold bX bh;simp only[E,j,u,w,A,F,z,m,ct,cf]),ar.pop.pop⟩
  refine RK ar 7 [1,0] Z Z<|ky Z (aq Z) (fun B=>?_) (fun B=>?_)
  ·refine S2 ar 4 [1,0,0,1] Z Z<|Y Z (TF hi Z Z Z (e:=2) Z) Z<|Sr 6 Z ?_;exact aB Z Z ⟨cB (by unfold bX bh;simp only[E,j,u,w,A,F,z,m,B,ct,cf]),ar.pop.pop⟩
  refine Sr 11 Z ?_;exact aB Z Z ⟨cB (by unfold bX bh;simp only[E,j,u,w,A,F,z,m,B,ct,cf]),ar.pop.pop⟩
 refine SY 6 Z<|Y Z (TE Z ar.g0 (n:=5) (vs:=[_,_,_,_,_]) Z) Z<|bz Z (TB Z Z Z) (fun _=>Z) (lT I _ ar) (fun V ar=>?_);refine Y Z (da Z) Z<|ky Z (aq Z) (fun z=>?_) (fun z=>?_)
 ·refine Sw ar 7 [4,0] Z Z<|aD Z (fun C=>?_) (fun C=>?_)
  ·refine Sn 7 Z ?_;exact aB Z Z ⟨cB (by unfold bX bh;simp only[E,j,u,w,A,z,C,ct,cf]),ar.pop.pop⟩
  refine Rz 3 Z<|Sm 2 Z<|Sw ar 5 [0,0] Z Z<|aD Z (fun m=>?_) (fun m=>?_)
  ·refine Sv ar 10 [1,0] Z Z ?_;exact aB Z Z ⟨cB (by unfold bX bh;simp only[E,j,u,w,A,z,C,m,ct,cf]),ar.pop.pop⟩
  refine RK ar 7 [1,0] Z Z<|ky Z (aq Z) (fun B=>?_) (fun B=>?_)
  ·refine S2 ar 4 [1,0,0,1] Z Z<|Y Z (TF hi Z Z Z (e:=2) Z) Z<|Sr 6 Z ?_;exact aB Z Z ⟨cB (by unfold bX bh;simp only[E,j,u,w,A,z,C,m,B,ct,cf]),ar.pop.pop⟩
  refine Sr 11 Z ?_;exact aB Z Z ⟨cB (by unfold bX bh;simp only[E,j,u,w,A,z,C,m,B,ct,cf]),ar.pop.pop⟩
 refine So 8 Z<|Rz 3 Z<|Sm 2 Z<|Sw ar 5 [0,0] Z Z<|aD Z (fun m=>?_) (fun m=>?_)
 ·refine Sv ar 10 [1,0] Z Z ?_;exact aB Z Z ⟨cB (by unfold bX bh;simp only[E,j,u,w,A,z,m,ct,cf]),ar.pop.pop⟩
 refine RK ar 7 [1,0] Z Z<|ky Z (aq Z) (fun B=>?_) (fun B=>?_)
 ·refine S2 ar 4 [1,0,0,1] Z Z<|Y Z (TF hi Z Z Z (e:=2) Z) Z<|Sr 6 Z ?_;exact aB Z Z ⟨cB (by unfold bX bh;simp only[E,j,u,w,A,z,m,B,ct,cf]),ar.pop.pop⟩
 refine Sr 11 Z ?_;exact aB Z Z ⟨cB (by unfold bX bh;simp only[E,j,u,w,A,z,m,B,ct,cf]),ar.pop.pop⟩
theorem I5 {G:Cx} (B:Plain G) {K:KP} {g:XG} {a b c d:U} (h:gY K g a b c d) (th ix C E:Int) {V:aE} {L:Own} (ar:D V K L):bu Tryz.prog G 19 [.agg [a,b,c,d],.agg [.int .i64 th,.int .i64 ix],.agg [.int .i64 C,.int .i64 E]] V fun v V'=>v= .bool (de g ⟨th,ix⟩ ⟨C,E⟩)/\D V' K L:=by
 have h':=h;obtain⟨hi,ht,hf,ho⟩:=h';refine SQ B Tryz.func19 Z<|Sm 2 Z<|kp ar Z (cC Z Z) (fun V b1 ar=>?_);refine kp ar Z (cC Z Z) (fun V b2 ar=>?_);refine kp ar Z (cC Z Z) (fun V b3 ar=>?_);refine RE 5 Z<|Y Z (TE Z (ar.get 2 Z) (n:=4) (vs:=[_,_,_,_]) Z) Z<|Y Z (TE Z ar.g1 (n:=2) (vs:=[_,_]) Z) Z<|bz Z (TB Z Z Z) (fun _=>Z) (tX B h _ _ ar) (fun V ar=>?_);refine SY 3 Z<|kp ar Z (TG (cs:=[N,N,N,N,N])) (fun V b4 ar=>?_);refine bZ ar Z (TJ Z Z Z ar.g0 (m:=5) Z Z (cells':=[_,_,_,_,_]) Z) Z (fun V ar=>?_);refine Q9 6 Z<|Y Z (TE Z ar.g0 (n:=5) (vs:=[_,_,_,_,_]) Z) Z<|bz Z (TB Z Z Z) (fun _=>Z) (DK B _ ar) (fun V ar=>?_);refine Y Z (da Z) Z<|So 2 Z<|aD Z (fun j=>?_) (fun j=>?_)
 ·refine Sm 2 Z (Y Z (TE Z ar.g1 (n:=2) (vs:=[_,_]) Z) Z (Y Z (TA (places:=[(0,1),(1,1)]) (zero:=[N,N]) (cs:=[_,_]) Z) Z<|Y Z (Aa (n:=2) (ca:=[_,_]) (cb:=[_,_]) O Z Z Z Z) Z<|RG 5 Z ?_));exact aB Z Z ⟨cB (by unfold de;simp only[j,ct,cf]),ar.pop.pop.pop.pop⟩
 refine RB 4 Z<|Y Z (TE Z (ar.get 3 Z) (n:=4) (vs:=[_,_,_,_]) Z) Z<|Y Z (TE Z ar.g1 (n:=2) (vs:=[_,_]) Z) Z<|bz Z (TB Z Z Z) (fun _=>Z) (tX B h _ _ ar) (fun V ar=>?_);refine SY 3 Z<|kp ar Z (TG (cs:=[N,N,N,N,N])) (fun V b5 ar=>?_);refine bZ ar Z (TJ Z Z Z ar.g0 (m:=5) Z Z (cells':=[_,_,_,_,_]) Z) Z (fun V ar=>?_);refine RE 6 Z<|ky Z (aq Z) (fun u=>?_) (fun u=>?_)
 ·refine Y Z (TE Z (ar.get 2 Z) (n:=2) (vs:=[_,_]) Z) Z<|Y Z (TE Z (ar.get 3 Z) (n:=2) (vs:=[_,_]) Z) Z<|Y Z (DN (n:=2) (ca:=[_,_]) (cb:=[_,_]) O Z Z Z Z) Z<|vQ 1 Z<|ky Z (aq Z) (fun w=>?_) (fun w=>?_)
  ·refine Y Z (TE Z ar.g0 (n:=5) (vs:=[_,_,_,_,_]) Z) Z<|bz Z (TB Z Z Z) (fun _=>Z) (lT B _ ar) (fun V ar=>?_);refine vQ 1 Z<|ky Z (aq Z) (fun z=>?_) (fun z=>?_)
   ·refine S2 ar 6 [1,0,1,1] Z Z<|ky Z (aq Z) (fun A=>?_) (fun A=>?_)
    ·refine Sx ar 10 [4,0,3,1] Z Z ?_;exact aB Z Z ⟨cB (by unfold de;simp only[j,u,w,z,A,ct,cf]),ar.pop.pop.pop.pop.pop⟩
    refine Sr 10 Z ?_;exact aB Z Z ⟨cB (by unfold de;simp only[j,u,w,z,A,ct,cf]),ar.pop.pop.pop.pop.pop⟩
   refine Sr 17 Z ?_;exact aB Z Z ⟨cB (by unfold de;simp only[j,u,w,z,ct,cf]),ar.pop.pop.pop.pop.pop⟩
  refine Sr 21 Z ?_;exact aB Z Z ⟨cB (by unfold de;simp only[j,u,w,ct,cf]),ar.pop.pop.pop.pop.pop⟩
 refine Sr 26 Z ?_;exact aB Z Z ⟨cB (by unfold de;simp only[j,u,ct,cf]),ar.pop.pop.pop.pop.pop⟩
theorem FT {G:Cx} (hG:Plain G) {K:KP} {g:XG} {a b c d:U} (h:gY K g a b c d) {ln:Nat} {A:List cY} (a7:g.order[ln]?=some A) (hT:g.threads.length<=4) (hR:∀l∈g.threads,l.length<=14) {V:aE} {L:Own} (ar:D V K L):bu Tryz.prog G 20 [.agg [a,b,c,d],.int .i64 (.ofNat ln)] V fun v V'=>∃q,v= .bool q/\(q=true↔F3 g ln A)/\D V' K L:=by
 have h':=h;obtain⟨hi,ht,hf,I⟩:=h';refine SQ hG Tryz.func20 Z<|Sm 2 Z<|kp ar Z (cC Z Z) (fun V b1 ar=>?_);refine Q8 15 Z ?_;obtain⟨LL1,ar,hLL1⟩:=ar.named;refine bf ([5,6,7]++rg 13 41) (fun j t V=>∃(i1:Nat),j+i1=g.threads.length/\t.get 5=some (.int .i64 (.ofNat<|iI (.ofNat ln)<|g.threads.take i1))/\t.get 6=some (.int .i64 (.ofNat i1))/\D V K LL1) (g.threads.length) ⟨0,Z,Z,Z,ar⟩ ?_;clear ar;intro j3 t V an hI;obtain⟨i1,d5,ac,cc,ar⟩:=hI;subst hLL1;obtain⟨oo,rfl⟩:=an.q2 ac cc Z;refine RJ ar 6 [1,0] Z Z<|Y Z (TF ht Z Z Z (e:=56) Z) Z<|So 3 Z<|aD Z (fun am=>?_) (fun am=>?_)
 ·refine Qs 6 Z ?_;obtain⟨xa,Q,hi_xa⟩:=cK am;refine RD 4 Z ?_;obtain⟨LL2,ar,hLL2⟩:=ar.named;refine bf ([5,7]++rg 20 34) (fun j t V=>∃(i2:Nat),j+i2=xa.length/\t.get 5=some (.int .i64 (.ofNat (iI (.ofNat ln) (g.threads.take i1)+fU (.ofNat ln) (xa.take i2))))/\t.get 7=some (.int .i64 (.ofNat i2))/\D V K LL2) (xa.length) ⟨0,Z,Z,Z,ar⟩ ?_;clear ar;intro j6 t V an hI;obtain⟨i2,d6,ac,ce,ar⟩:=hI;subst hLL2;obtain⟨oo,rfl⟩:=an.q2 ac ce Z;refine RJ ar 7 [1,0] Z Z<|Tw (e:=56) (m:=1) ht Q Z Z Z Z (fun d7 cw a8 cx a9=>?_);have hr24':=a9;obtain⟨d8,rfl,F⟩:=hr24';refine Y Z (TH ar a8 Z Z) Z<|Y Z (TF F Z Z Z (e:=59) Z) Z<|So 3 Z<|aD Z (fun ao=>?_) (fun ao=>?_)
  ·refine Qt ar 9 [1,0] Z Z<|Tw (e:=56) (m:=1) ht Q Z Z Z Z (fun d9 c0 bb c1 bd=>?_);have hr33':=bd;obtain⟨ee,rfl,be⟩:=hr33';refine Y Z (TH ar bb Z Z) Z<|vQ 1 Z ?_;obtain⟨el,B,c2⟩:=cK ao;refine Tw (e:=59) (m:=5) be B Z Z Z Z (fun em c3 bi c4 bk=>?_);obtain rfl:=bk;refine Y Z (TI ar bi Z Z) Z<|bz Z (TB Z Z Z) (fun _=>Z) (lT hG _ ar) (fun V ar=>?_);refine ky Z (aq Z) (fun ap=>?_) (fun ap=>?_)
   ·refine S2 ar 3 [1,0] Z Z<|Tw (e:=56) (m:=1) ht Q Z Z Z Z (fun en c5 bl c7 bm=>?_);have hr43':=bm;obtain⟨eo,rfl,bo⟩:=hr43';refine Y Z (TH ar bl Z Z) Z<|vQ 1 Z<|Tw (e:=59) (m:=5) bo B Z Z Z Z (fun er c8 bp c9 bq=>?_);obtain rfl:=bq;refine dy bp Z Z Z (k:=1) O (lb Z) (fun _=>Z) (fun es br=>?_);refine Y Z (TH ar br Z Z) Z<|So 5 Z<|aD Z (fun a0=>?_) (fun a0=>?_)
    ·refine SV 5 Z (aC (SV 5 Z (aH ⟨j6-1,by omega,oF,i2+1,by omega,(cI ((aW (by have h1:=An (loc:=.ofNat ln) (i:=i1) hT hR;have h2:=uq (loc:=.ofNat ln) (l:=xa.take i2);have h3:=hR _ (gB_ Q);rw[lT_] at h2;omega)).trans (by rw[MX B ap a0];rfl))),cI<|aW (by have:=F.bO;omega),ar⟩)))
    refine aG<|aC<|SV 5 Z<|aH ⟨j6-1,by omega,oF,i2+1,by omega,(by rw[Jz (loc:=.ofNat ln) B (.inr a0)];exact Z),cI<|aW (by have:=F.bO;omega),ar⟩
   refine RF 17 Z<|SV 5 Z<|aH ⟨j6-1,by omega,oF,i2+1,by omega,(by rw[Jz (loc:=.ofNat ln) B (.inl ap)];exact Z),cI<|aW (by have:=F.bO;omega),ar⟩
  rw[tL_<|bA ao];refine RC 3 Z<|aL<|aC<|SV 5 Z<|aH ⟨j3-1,by omega,oF,i1+1,by omega,(by rw[vw Q];exact Z),cI<|aW (by have:=ht.bO;omega),ar⟩
 rw[tL_<|bA am];refine RC 3 Z<|aL<|Sm 2 Z<|S2 ar 3 [3,0] Z Z<|Tw (e:=49) (m:=1) I a7 Z Z Z Z (fun et dd bs df bt=>?_);have hr57':=bt;obtain⟨ev,rfl,z⟩:=hr57';refine Y Z (TH ar bs Z Z) Z<|Q8 10 Z ?_;obtain⟨LL3,ar,hLL3⟩:=ar.named;refine bf ([4]++rg 9 4++rg 59 50) (fun j t V=>∃(i:Nat),j+i=A.length/\(∀(k:Nat) (x:cY),k<i->A[k]?=some x->yQ g (.ofNat ln) x=true/\∀(R:Nat) (y:cY),R<k->A[R]?=some y->y≠x)/\t.get 9=some (.int .i64 (.ofNat i))/\D V K LL3) (A.length) ⟨0,Z,fun k x hk=>absurd hk (nZ_ _),Z,ar⟩ ?_;clear ar;intro cg t V an hI;obtain⟨i,dl,S,ch,ar⟩:=hI;subst hLL3;obtain⟨oo,rfl⟩:=an.q1 ch Z;refine Ry 5 Z<|Y Z (TF z Z Z Z (e:=51) Z) Z<|So 3 Z<|aD Z (fun aa=>?_) (fun aa=>?_)
 ·refine Qr 5 Z (aU (l:=[(0,[]),(1,[]),(2,[]),(3,[]),(4,[]),(9,[]),(5,[9]),(6,[]),(7,[]),(8,[]),(10,[]),(11,[])]) O O<|ai Z Z (TE Z ar.g0 (n:=4) (vs:=[_,_,_,_]) Z) Z<|S0 2 Z ?_);obtain⟨u,w,dm⟩:=cK aa;refine Tx (e:=51) (m:=2) z w Z Z Z Z Z (fun ex dr bv ds bw=>?_);obtain rfl:=bw;refine ai Z Z (TI ar bv Z Z) Z<|qd ar Z Z (TG (cs:=[N,N,N,N,N])) (fun _=>Z) (fun V b2 ar=>?_);refine eB Z Z (TB Z Z Z) (fun _=>Z) (tX hG h _ _ ar) (fun V ar=>?_);refine⟨(bx (iE Z Z Z Z Z (cs:=[N,N,N,N,N]) (e:=59) O ar.g0 O) ba),?_⟩;refine S0 3 Z<|iM ar Z Z (TJ Z Z Z ar.g0 (m:=5) Z Z (cells':=[_,_,_,_,_]) Z) Z (fun V ar=>?_);refine⟨ba,?_⟩;refine Ss 3 Z<|Ry 4 Z<|Y Z (da Z) Z<|ky Z (aq Z) (fun M=>?_) (fun M=>?_)
  ·refine Sr 27 Z<|aA<|aK<|aA<|bD<|aK<|aA (?_);exact aB Z Z ⟨_,Z,⟨(fun T=>by cases T),fun I=>absurd (I.Qo u<|gB_ w) (by unfold yQ;rw[show(dn g u).isSome=false from vM M];exact Bool.false_ne_true)⟩,ar.pop.pop⟩
  refine SY 2 Z<|Tw (e:=51) (m:=2) z w Z Z Z Z (fun eC dx b0 d0 b3=>?_);obtain rfl:=b3;refine dy b0 Z Z Z (k:=0) O (lb Z) (fun _=>Z) (fun eS b4=>?_);refine Y Z (TH ar b4 Z Z) Z<|SY 2 Z<|ky Z (aq Z) (fun W=>?_) (fun W=>?_)
  ·refine Sr 19 Z<|aA<|aK<|aA<|bD<|aK<|aA (?_);exact aB Z Z ⟨_,Z,⟨(fun T=>by cases T),fun I=>absurd (I.Qo u<|gB_ w) (by unfold yQ;rw[show(dn g u).isSome=true from kh M,show H u.cy 0=true from W];exact Bool.false_ne_true)⟩,ar.pop.pop⟩
  refine Y Z (TE Z ar.g0 (n:=5) (vs:=[_,_,_,_,_]) Z) Z<|bz Z (TB Z Z Z) (fun _=>Z) (lT hG _ ar) (fun V ar=>?_);refine Y Z (da Z) Z<|vQ 1 Z<|ky Z (aq Z) (fun ab=>?_) (fun ab=>?_)
  ·refine Sr 14 Z<|aA<|aK<|aA<|bD<|aK<|aA (?_);exact aB Z Z ⟨_,Z,⟨(fun T=>by cases T),fun I=>absurd (I.Qo u<|gB_ w) (by unfold yQ;rw[show(dn g u).isSome=true from kh M,show H u.cy 0=false from W,show bI (mK<|dn g u)=false from vM ab];exact Bool.false_ne_true)⟩,ar.pop.pop⟩
  refine Sw ar 7 [1,0] Z Z<|aD Z (fun a1=>?_) (fun a1=>?_)
  ·refine SW 6 Z<|aA<|aK<|aA<|bD<|aK<|aA (?_);exact aB Z Z ⟨_,Z,⟨(fun T=>by cases T),fun I=>absurd (I.Qo u<|gB_ w) (by unfold yQ;rw[show(dn g u).isSome=true from kh M,show H u.cy 0=false from W,show bI (mK<|dn g u)=true from kh ab,show H (mK<|dn g u).loc (.ofNat ln)=false from bW a1];exact Bool.false_ne_true)⟩,ar.pop.pop⟩
  have b5:yQ g (.ofNat ln) u=true:=by unfold yQ;rw[show(dn g u).isSome=true from kh M,show H u.cy 0=false from W,show bI (mK<|dn g u)=true from kh ab];exact bK a1
  refine RB 5 Z<|RD 3 Z ?_;obtain⟨LL4,ar,hLL4⟩:=ar.named;refine bf ([4,12]++rg 95 14) (fun j t V=>∃(i3:Nat),j+i3=i/\(∀(R:Nat) (y:cY),R<i3->A[R]?=some y->y≠u)/\t.get 12=some (.int .i64 (.ofNat i3))/\D V K LL4) (i) ⟨0,Z,fun R y hk=>absurd hk (nZ_ _),Z,ar⟩ ?_;clear ar;intro ci t V an hI;obtain⟨i3,d1,b6,b7,ar⟩:=hI;subst hLL4;obtain⟨oo,rfl⟩:=an.q1 b7 Z;refine Sl 8 Z<|aD Z (fun C=>?_) (fun C=>?_)
  ·refine Qr 5 Z<|aU (l:=zp [0,1,2,3,4,5,6,7,8]) O O<|S0 2 Z ?_;obtain⟨d2,E⟩:=cL (show i3<A.length from by have:=bc C;omega);refine Tx (e:=51) (m:=2) z E Z Z Z Z Z (fun d3 cj a2 ck a3=>?_);obtain rfl:=a3;refine ai Z Z (TI ar a2 Z Z) Z<|S0 2 Z<|Tx (e:=51) (m:=2) z w Z Z Z Z Z (fun d4 cn a4 cp a5=>?_);obtain rfl:=a5;refine ai Z Z (TI ar a4 Z Z) Z<|ai Z Z (Aa (n:=2) (ca:=[_,_]) (cb:=[_,_]) O Z Z Z Z) Z<|Ss 2 Z<|aD Z (fun X=>?_) (fun X=>?_)
   ·refine SW 6 Z<|aK<|aA<|bD<|aK<|aK<|aA<|bD<|aK<|aA (?_);exact aB Z Z ⟨_,Z,⟨(fun T=>by cases T),fun I=>absurd (cz.1<|Nw.symm.trans X) (KU I.nodup (bc C) E w)⟩,ar.pop.pop⟩
   refine aG (aC (SV 5 Z (aH ⟨ci-1,by have:=bc C;omega,oF,i3+1,by have:=bc C;omega,fun R y hk hy=>(by by_cases a6:R=i3;(subst a6;rw[E] at hy;cases hy;exact fun he=>absurd X (by rw[he,cz.2 Z];decide));exact b6 R y oM hy),cI<|aW (by have:=z.bO;have:=bc C;omega),ar⟩)))
  refine RC 3 Z<|aL<|aC<|SV 5 Z ?_;have ar:=ar.pop;refine aH ⟨cg-1,by omega,oF,i+1,by omega,fun k x hk hx=>(by by_cases a6:k=i;(subst a6;rw[w] at hx;cases hx;exact⟨b5,fun R y eT hy=>b6 R y (by have:=bA C;omega) hy⟩);exact S k x oM hx),cI<|aW (by have:=z.bO;omega),ar⟩
 refine RC 3 Z<|aL<|Sm 3 Z<|Y Z (TF z Z Z Z (e:=51) Z) Z<|Sr 6 Z ?_;exact aB Z Z ⟨_,Z,⟨fun T=>⟨fun id cr=>(by obtain⟨k,hk⟩:=gO_ cr;exact(S k id (by have:=(gA.1 hk).1;have:=bA aa;omega) hk).1),KV fun k m x y cv hx hy=>(S m y (by have:=(gA.1 hy).1;have:=bA aa;omega) hy).2 k x cv hx,(by have b8:H (.ofNat A.length) (.ofNat<|iI (.ofNat ln) g.threads)=true:=T;rw[fc] at b8;exact of_decide_eq_true b8)⟩,fun I=>(by show H (.ofNat A.length) (.ofNat<|iI (.ofNat ln) g.threads)=true;rw[fc,I.SO];exact decide_eq_true Z)⟩,ar.pop⟩
theorem lS {G:Cx} (hG:Plain G) {K:KP} {g:XG} {a b c d:U} (h:gY K g a b c d) {V:aE} {L:Own} (ar:D V K L):bu Tryz.prog G 7 [.agg [a,b,c,d]] V fun v V'=>v= .int .i64 (cV g)/\D V' K L:=by
 have h':=h;obtain⟨hi,C,hf,ho⟩:=h';refine SQ hG Tryz.func7 Z<|Sm 2 Z<|kp ar Z (cC Z Z) (fun V b1 ar=>?_);refine Rb ar 8 [1,0] Z Z<|Y Z (TF C Z Z Z (e:=56) Z) Z<|vQ 1 Z<|ky Z (aq Z) (fun ap=>?_) (fun ap=>?_)
 ·refine RG 15 Z ?_;exact aB Z Z ⟨cJ (by rw[pG<|DB ap]),ar.pop⟩
 refine S2 ar 2 [0,0] Z Z<|Y Z (TF hi Z Z Z (e:=2) Z) Z<|So 4 Z<|aD Z (fun a0=>?_) (fun a0=>?_)
 ·refine Sn 7 Z ?_;exact aB Z Z ⟨cJ (by rw[pG<|DD a0]),ar.pop⟩
 refine Q7 9 Z ?_;obtain⟨LL1,ar,hLL1⟩:=ar.named;refine bf ([2,3]++rg 19 14) (fun j t V=>∃(i:Nat),j+i=g.threads.length/\(∀(k:Nat) (l:List db),k<i->g.threads[k]?=some l->b9 14 (.ofNat l.length)=false)/\t.get 3=some (.int .i64 (.ofNat i))/\D V K LL1) (g.threads.length) ⟨0,Z,fun k x hk=>absurd hk (nZ_ _),Z,ar⟩ ?_;clear ar;intro j4 t V an hI;obtain⟨i,e4,E,cx,ar⟩:=hI;subst hLL1;obtain⟨oo,rfl⟩:=an.q1 cx Z;refine RJ ar 6 [1,0] Z Z<|Y Z (TF C Z Z Z (e:=56) Z) Z<|So 3 Z<|aD Z (fun a1=>?_) (fun a1=>?_)
 ·refine Qt ar 9 [1,0] Z Z ?_;obtain⟨e5,aa,d2⟩:=cK a1;refine Tw (e:=56) (m:=1) C aa Z Z Z Z (fun e7 d3 b0 d4 b2=>?_);have hr29':=b2;obtain⟨e8,rfl,b3⟩:=hr29';refine Y Z (TH ar b0 Z Z) Z<|Y Z (TF b3 Z Z Z (e:=59) Z) Z<|So 3 Z<|aD Z (fun be=>?_) (fun be=>?_)
  ·refine SW 6 Z<|aK<|aA<|bD<|aK<|aA (?_);exact aB Z Z ⟨cJ (by rw[pG<|DC aa be]),ar.pop⟩
  refine aG (aC (SV 5 Z (aH ⟨j4-1,by omega,oF,i+1,by omega,fun k l hk hl=>(by by_cases F:k=i;(subst F;rw[aa] at hl;cases hl;exact be);exact E k l oM hl),cI<|aW (by have:=C.bO;omega),ar⟩)))
 have hTL:=FN (i:=i) ap a0 (bA a1) E;have hT:g.threads.length<=4:=bA (a:=4) (by exact ap);have hR:∀l∈g.threads,l.length<=14:=fun l hl=>by obtain⟨k,hk⟩:=gO_ hl;exact bA (a:=14) (E k l (by have:=(gA.1 hk).1;have:=bA a1;omega) hk)
 refine RC 3 Z<|aL<|RJ ar 5 [2,0] Z Z<|Y Z (TF hf Z Z Z (e:=49) Z) Z<|S2 ar 2 [1,0] Z Z<|Y Z (TF C Z Z Z (e:=56) Z) Z<|vQ 1 Z<|ky Z (aq Z) (fun T=>?_) (fun T=>?_)
 ·refine RG 18 Z ?_;exact aB Z Z ⟨cJ (by rw[lO hTL fun B=>absurd T (by rw[B.from_,dL];decide)]),ar.pop⟩
 refine S2 ar 2 [3,0] Z Z<|Y Z (TF ho Z Z Z (e:=49) Z) Z<|S2 ar 2 [0,0] Z Z<|Y Z (TF hi Z Z Z (e:=2) Z) Z<|So 4 Z<|aD Z (fun W=>?_) (fun W=>?_)
 ·refine Sn 7 Z ?_;exact aB Z Z ⟨cJ (by rw[lO hTL fun B=>absurd W (by rw[B.order,dL];decide)]),ar.pop⟩
 refine Q7 9 Z ?_;obtain⟨LL2,ar,hLL2⟩:=ar.named;refine bf ([2,4,5]++rg 49 41) (fun j t V=>∃(i:Nat),j+i=g.threads.length/\(∀(k:Nat) (x:List db) (y:List cY),k<i->g.threads[k]?=some x->g.from_[k]?=some y->y.length=x.length/\∀(m:Nat) (e:db),x[m]?=some e->bX e (.ofNat g.init.length)=true)/\t.get 4=some (.int .i64 (.ofNat i))/\D V K LL2) (g.threads.length) ⟨0,Z,fun k x y hk=>absurd hk (nZ_ _),Z,ar⟩ ?_;clear ar;intro c0 t V an hI;obtain⟨i,d5,a6,c1,ar⟩:=hI;subst hLL2;obtain⟨oo,rfl⟩:=an.q1 c1 Z;refine RJ ar 6 [1,0] Z Z<|Y Z (TF C Z Z Z (e:=56) Z) Z<|So 3 Z<|aD Z (fun a2=>?_) (fun a2=>?_)
 ·refine Qr 5 Z<|al<|aU (l:=zp [0,1,2,3,4,5,6,7,8,9,10,11,12]) O O<|S3 ar 3 [2,0] Z Z ?_;obtain⟨c2,Q⟩:=cL (show i<g.from_.length from by have:=dC (bK T);have:=bc a2;omega);refine Tx (e:=49) (m:=1) hf Q Z Z Z Z Z (fun e9 d6 b4 d7 b5=>?_);have hr59':=b5;obtain⟨fd,rfl,b6⟩:=hr59';refine ai Z Z (TH ar b4 Z Z) Z<|ai Z Z (TF b6 Z Z Z (e:=51) Z) Z<|S3 ar 3 [1,0] Z Z ?_;obtain⟨bi,w,d8⟩:=cK a2;refine Tx (e:=56) (m:=1) C w Z Z Z Z Z (fun fi d9 b7 ee b8=>?_);have hr65':=b8;obtain⟨fk,rfl,a7⟩:=hr65';refine ai Z Z (TH ar b7 Z Z) Z<|ai Z Z (TF a7 Z Z Z (e:=59) Z) Z<|Ss 3 Z<|aD Z (fun bk=>?_) (fun bk=>?_)
  ·refine SW 6 Z<|aA<|aK<|aA<|bD<|aK<|aA (?_);exact aB Z Z ⟨cJ (by rw[lO hTL fun B=>absurd bk (by rw[(B.rows i _ _ w Q).1,dL];decide)]),ar.pop⟩
  refine RB 5 Z<|RD 3 Z ?_;obtain⟨LL3,ar,hLL3⟩:=ar.named;refine bf ([2,5]++rg 69 21) (fun j t V=>∃(i2:Nat),j+i2=bi.length/\(∀(m:Nat) (e:db),m<i2->bi[m]?=some e->bX e (.ofNat g.init.length)=true)/\t.get 5=some (.int .i64 (.ofNat i2))/\D V K LL3) (bi.length) ⟨0,Z,fun k x hk=>absurd hk (nZ_ _),Z,ar⟩ ?_;clear ar;intro c3 t V an hI;obtain⟨i2,el,ca,c4,ar⟩:=hI;subst hLL3;obtain⟨oo,rfl⟩:=an.q1 c4 Z;refine RJ ar 7 [1,0] Z Z<|Tw (e:=56) (m:=1) C w Z Z Z Z (fun fs em cb en cc=>?_);have hr73':=cc;obtain⟨fv,rfl,ce⟩:=hr73';refine Y Z (TH ar cb Z Z) Z<|Y Z (TF ce Z Z Z (e:=59) Z) Z<|So 3 Z<|aD Z (fun bl=>?_) (fun bl=>?_)
  ·refine Qr 5 Z<|aU (l:=zp [0,1,2,3,4,5,6,7,8,9,10]) O O<|ai Z Z (TE Z ar.g0 (n:=4) (vs:=[_,_,_,_]) Z) Z<|S3 ar 3 [1,0] Z Z<|Tx (e:=56) (m:=1) C w Z Z Z Z Z (fun f0 eo cg er ch=>?_);have hr83':=ch;obtain⟨f1,rfl,ci⟩:=hr83';refine ai Z Z (TH ar cg Z Z) Z<|wQ 1 Z ?_;obtain⟨f2,ab,cj⟩:=cK bl;refine Tx (e:=59) (m:=5) ci ab Z Z Z Z Z (fun f3 es ck et cn=>?_);obtain rfl:=cn;refine ai Z Z (TI ar ck Z Z) Z<|eB Z Z (TB Z Z Z) (fun _=>Z) (Oo hG h _ ar) (fun V ar=>?_);refine⟨ba,?_⟩;refine ai Z Z (da Z) Z<|Ss 2 Z<|aD Z (fun a3=>?_) (fun a3=>?_)
   ·refine SW 6 Z<|aK<|aA<|bD<|aK<|aK<|aA<|bD<|aK<|aA (?_);exact aB Z Z ⟨cJ (by rw[lO hTL fun B=>by obtain⟨r1,r2⟩:=B.rows i _ _ w Q;obtain⟨y,hy⟩:=cL (show i2<c2.length from by rw[r1];exact cj);have:=(KY<|r2 i2 _ _ ab hy).1;rw[this] at a3;cases a3]),ar.pop⟩
   refine aG (aC (SV 5 Z (aH ⟨c3-1,by omega,oF,i2+1,by omega,fun m e hm he=>(by by_cases bm:m=i2;(subst bm;rw[ab] at he;cases he;exact kh a3);exact ca m e oM he),cI<|aW (by have:=a7.bO;omega),ar⟩)))
  refine RC 3 Z (aL (aC (SV 5 Z (aH ⟨c0-1,by omega,oF,i+1,by omega,fun k x y hk h1 R=>(by by_cases F:k=i;(subst F;rw[w] at h1;rw[Q] at R;cases h1;cases R;exact⟨dC<|bK bk,fun m e hm=>ca m e (by have:=(gA.1 hm).1;have:=bA bl;omega) hm⟩);exact a6 k x y oM h1 R),cI<|aW (by have:=C.bO;omega),ar⟩))))
 have hrows:=a6;have hi11:=bA a2;have hlen:∀(k:Nat) (x:List db) (y:List cY),g.threads[k]?=some x->g.from_[k]?=some y->y.length=x.length/\∀(m:Nat) (e:db),x[m]?=some e->bX e (.ofNat g.init.length)=true:=fun k x y h1 R=>hrows k x y (by have:=(gA.1 h1).1;omega) h1 R
 have a8:∀(t:Nat) (l:List db) (m:Nat) (e:db),g.threads[t]?=some l->l[m]?=some e->bI e=true->∃ln:Nat,e.loc= .ofNat ln/\ln<g.order.length:=fun t l m e h1 R h3=>by
  obtain⟨y,hy⟩:=cL (show t<g.from_.length from by have:=dC (bK T);have:=(gA.1 h1).1;omega);obtain⟨ln,k1,k2⟩:=Dl ((hlen t l y h1 hy).2 m e R) h3;exact⟨ln,k1,by have:=dC (bK W);omega⟩
 refine RC 3 Z<|aL<|Rx 7 Z ?_;obtain⟨LL4,ar,hLL4⟩:=ar.named;refine bf ([2,6,7]++rg 90 32) (fun j t V=>∃(X:Nat),j+X=g.threads.length/\(∀(k:Nat) (x:List db) (y:List cY),k<X->g.threads[k]?=some x->g.from_[k]?=some y->∀(m:Nat) (f:cY),m<x.length->y[m]?=some f->de g ⟨.ofNat (k+1),.ofNat m⟩ f=true)/\t.get 6=some (.int .i64 (.ofNat X))/\D V K LL4) (g.threads.length) ⟨0,Z,fun k x y hk=>absurd hk (nZ_ _),Z,ar⟩ ?_;clear ar;intro c5 t V an hI;obtain⟨X,ev,a9,c7,ar⟩:=hI;subst hLL4;obtain⟨oo,rfl⟩:=an.q1 c7 Z;refine RJ ar 6 [1,0] Z Z<|Y Z (TF C Z Z Z (e:=56) Z) Z<|So 3 Z<|aD Z (fun bo=>?_) (fun bo=>?_)
 ·refine Qs 6 Z ?_;obtain⟨xb,a4,hi_xb⟩:=cK bo;refine RD 4 Z ?_;obtain⟨LL5,ar,hLL5⟩:=ar.named;refine bf ([2,7]++rg 97 25) (fun j t V=>∃(i5:Nat),j+i5=xb.length/\(∀(y:List cY) (m:Nat) (f:cY),m<i5->g.from_[X]?=some y->y[m]?=some f->de g ⟨.ofNat (X+1),.ofNat m⟩ f=true)/\t.get 7=some (.int .i64 (.ofNat i5))/\D V K LL5) (xb.length) ⟨0,Z,fun y m f hm=>absurd hm (nZ_ _),Z,ar⟩ ?_;clear ar;intro c8 t V an hI;obtain⟨i5,ex,cp,c9,ar⟩:=hI;subst hLL5;obtain⟨oo,rfl⟩:=an.q1 c9 Z;refine RJ ar 7 [1,0] Z Z<|Tw (e:=56) (m:=1) C a4 Z Z Z Z (fun eC dd bp df bq=>?_);have hr101':=bq;obtain⟨eS,rfl,ac⟩:=hr101';refine Y Z (TH ar bp Z Z) Z<|Y Z (TF ac Z Z Z (e:=59) Z) Z<|So 3 Z<|aD Z (fun u=>?_) (fun u=>?_)
  ·refine Qr 5 Z (aU (l:=zp [0,1,2,3,4,5,6,7,8,9,10,11,12,13,14]) O O (ai Z Z (TE Z ar.g0 (n:=4) (vs:=[_,_,_,_]) Z) Z (S0 3 Z (ai Z Z (TA (places:=[(0,1),(1,1)]) (zero:=[N,N]) (cs:=[_,_]) Z) Z<|S3 ar 3 [2,0] Z Z ?_))));obtain⟨cr,A⟩:=cL (show X<g.from_.length from by have:=dC (bK T);omega);obtain⟨xc,dl⟩:=cL (bc u);refine Tx (e:=49) (m:=1) hf A Z Z Z Z Z (fun eT dm br dr bs=>?_);have hr115':=bs;obtain⟨e0,rfl,bt⟩:=hr115';refine ai Z Z (TH ar br Z Z) Z<|wQ 1 Z ?_;obtain⟨bb,I⟩:=cL (show i5<cr.length from by rw[(hlen X _ _ a4 A).1];exact bc u);refine Tx (e:=51) (m:=2) bt I Z Z Z Z Z (fun e2 ds bv dx bw=>?_);obtain rfl:=bw;refine ai Z Z (TI ar bv Z Z) Z<|eB Z Z (TB Z Z Z) (fun _=>Z) (I5 hG h _ _ _ _ ar) (fun V ar=>?_);refine⟨ba,?_⟩;refine ai Z Z (da Z) Z<|Ss 2 Z<|aD Z (fun am=>?_) (fun am=>?_)
   ·refine SW 6 Z<|aK<|aA<|bD<|aK<|aK<|aA<|bD<|aK<|aA (?_);exact aB Z Z ⟨cJ (by rw[lO hTL fun B=>by obtain⟨r1,r2⟩:=B.rows X _ _ a4 A;have:=(KY<|r2 i5 _ _ dl I).2;have e:de g ⟨wr .i64<|Int.add (.ofNat X) (.ofNat 1),.ofNat i5⟩ ⟨bb.cy,bb.index⟩=true:=(by rw[aW (by have:=C.bO;omega)];exact this);exact absurd ((vM am).symm.trans e) (by decide)]),ar.pop⟩
   refine aG<|aC<|SV 5 Z ?_;refine aH ⟨c8-1,by have:=bc u;omega,oF,i5+1,by have:=bc u;omega,fun y m f hm hy hf=>(by by_cases bm:m=i5;(subst bm;rw[A] at hy;cases hy;rw[I] at hf;cases hf;have hq:=kh am;rw[<-aW (i:=X) (by have:=C.bO;omega)];exact hq);exact cp y m f oM hy hf),cI<|aW (by have:=ac.bO;have:=bc u;omega),ar⟩
  refine RC 3 Z (aL (aC (SV 5 Z (aH ⟨c5-1,by omega,oF,X+1,by omega,fun k x y hk h1 R m f hm hf=>(by by_cases F:k=X;(subst F;rw[a4] at h1;cases h1;exact cp y m f (by have:=bA u;omega) R hf);exact a9 k x y oM h1 R m f hm hf),cI<|aW (by have:=C.bO;omega),ar⟩))))
 have hsrcs:=a9;have hi21:=bA bo;refine RC 3 Z<|aL<|Rx 7 Z ?_;obtain⟨LL6,ar,hLL6⟩:=ar.named;refine bf ([2,8]++rg 122 11) (fun j t V=>∃(i8:Nat),j+i8=g.init.length/\(∀(k:Nat) (r:List cY),k<i8->g.order[k]?=some r->F3 g k r)/\t.get 8=some (.int .i64 (.ofNat i8))/\D V K LL6) (g.init.length) ⟨0,Z,fun k x hk=>absurd hk (nZ_ _),Z,ar⟩ ?_;clear ar;intro d0 t V an hI;obtain⟨i8,e3,bd,d1,ar⟩:=hI;subst hLL6;obtain⟨oo,rfl⟩:=an.q1 d1 Z;refine RJ ar 6 [0,0] Z Z<|Y Z (TF hi Z Z Z (e:=2) Z) Z<|So 3 Z<|aD Z (fun z=>?_) (fun z=>?_)
 ·refine Qs 6 Z<|Y Z (TE Z ar.g0 (n:=4) (vs:=[_,_,_,_]) Z) Z<|vQ 1 Z ?_;obtain⟨cv,M⟩:=cL (show i8<g.order.length from by have:=dC (bK W);have:=bc z;omega);refine cM Z (TB Z Z Z) (fun _=>Z) (FT hG h M hT hR ar) ?_;rintro _ V ⟨cw,rfl,ao,ar⟩;refine Y Z (da Z) Z<|So 2 Z<|aD Z (fun S=>?_) (fun S=>?_)
  ·refine SW 6 Z<|aK<|aA<|bD<|aK<|aA (?_);exact aB Z Z ⟨cJ (by rw[lO hTL fun B=>by have hq:cw=true:=ao.2 ((vP a8).2 B.perm i8 cv M);rw[hq] at S;cases S]),ar.pop⟩
  refine aG (aC (SV 5 Z (aH ⟨d0-1,by have:=bc z;omega,oF,i8+1,by have:=bc z;omega,fun k r hk B=>(by by_cases F:k=i8;(subst F;rw[M] at B;cases B;exact ao.1<|kh S);exact bd k r oM B),cI<|aW (by have:=hi.bO;have:=bc z;omega),ar⟩)))
 have a5:dO g:=⟨hT,bA (a:=6) (by exact a0),fun k l hl=>hR l (gB_ hl),dC<|bK T,dC<|bK W,fun k l f h1 R=>⟨(hlen k l f h1 R).1,fun m e q h3 h4=>KZ ((hlen k l f h1 R).2 m e h3) (hsrcs k l f (by have:=(gA.1 h1).1;omega) h1 R m q (gA.1 h3).1 h4)⟩,(vP a8).1 fun k r B=>bd k r (by have:=(gA.1 B).1;have:=dC (bK W);have:=bA z;omega) B⟩;refine RC 3 Z<|aL<|SW 6 Z ?_;exact aB Z Z ⟨cJ (by rw[ef.2 a5]),ar.pop⟩
structure px (K:KP) (g:XG) (b:Nat) (va vb vc vd iv ev:U):Prop where
 row:K b (.row [va,vb,vc,vd,iv,ev,.int .i64 (.ofNat<|nV g)] 136 false)
 gr:gY K g va vb vc vd
 ids:bL K 2 nH (ij g) iv
 nL:bL K 5 mJ (EL g) ev
theorem px.mono {K K':KP} {g:XG} {b:Nat} {va vb vc vd iv ev:U} (h:px K g b va vb vc vd iv ev) (hk:KP.le K K'):px K' g b va vb vc vd iv ev:=⟨hk _ _ h.row,h.gr.mono hk,h.ids.mono hk fun _ _ h=>h,h.nL.mono hk fun _ _ h=>h⟩
theorem AW {G:Cx} (F:Plain G) {K:KP} {g:XG} {b:Nat} {va vb vc vd iv ev:U} (hv:px K g b va vb vc vd iv ev) {i:Nat} (hi:i<nV g) {V:aE} {L:Own} (ar:D V K L):
  bu Tryz.prog G 100 [.ptr b 0,.int .i64 (.ofNat i)] V fun u V'=>u= .bool (cN<|fg g i)/\D V' K L:=by
 refine SQ F Tryz.func100 Z<|Sm 8 Z<|Y Z (dK Z) Z<|Y Z (TC 5 Z) Z<|Y Z (TD Z (ar.eN hv.row) Z) Z<|vQ 1 Z<|Tw (e:=59) (m:=5) hv.nL (fV hi) Z Z Z Z (fun an aa w ab z=>?_);obtain rfl:=z;refine dy w Z Z Z (k:=0) O (lb Z) (fun _=>Z) (fun ao A=>?_);refine Y Z (TH ar A Z Z) Z<|vQ 1 Z<|ky Z (aq Z) (fun j=>?_) (fun j=>?_)
 ·refine Sr 14 Z ?_;exact aB Z Z ⟨cB (by unfold cN;simp only[j,ct,cf]<;>rfl),ar⟩
 refine vQ 1 Z<|Y Z (dK Z) Z<|Y Z (TC 5 Z) Z<|Y Z (TD Z (ar.eN hv.row) Z) Z<|vQ 1 Z<|Tw (e:=59) (m:=5) hv.nL (fV hi) Z Z Z Z (fun ap ac B am C=>?_);obtain rfl:=C;refine dy B Z Z Z (k:=0) O (lb Z) (fun _=>Z) (fun a0 E=>?_);refine Y Z (TH ar E Z Z) Z<|Sr 6 Z ?_;exact aB Z Z ⟨cB (by unfold cN;simp only[j,ct,cf]<;>rfl),ar⟩
theorem yt {G:Cx} (F:Plain G) {K:KP} {g:XG} {b:Nat} {va vb vc vd iv ev:U} (hv:px K g b va vb vc vd iv ev) {i:Nat} (hi:i<nV g) {V:aE} {L:Own} (ar:D V K L):
  bu Tryz.prog G 98 [.ptr b 0,.int .i64 (.ofNat i)] V fun u V'=>u= .bool (bI<|fg g i)/\D V' K L:=by
 refine SQ F Tryz.func98 Z<|Sm 8 Z<|Y Z (dK Z) Z<|Y Z (TC 5 Z) Z<|Y Z (TD Z (ar.eN hv.row) Z) Z<|vQ 1 Z<|Tw (e:=59) (m:=5) hv.nL (fV hi) Z Z Z Z (fun an aa w ab z=>?_);obtain rfl:=z;refine dy w Z Z Z (k:=0) O (lb Z) (fun _=>Z) (fun ao A=>?_);refine Y Z (TH ar A Z Z) Z<|vQ 1 Z<|ky Z (aq Z) (fun j=>?_) (fun j=>?_)
 ·refine Sr 14 Z ?_;exact aB Z Z ⟨cB (by unfold bI;simp only[j,ct,cf]<;>rfl),ar⟩
 refine vQ 1 Z<|Y Z (dK Z) Z<|Y Z (TC 5 Z) Z<|Y Z (TD Z (ar.eN hv.row) Z) Z<|vQ 1 Z<|Tw (e:=59) (m:=5) hv.nL (fV hi) Z Z Z Z (fun ap ac B am C=>?_);obtain rfl:=C;refine dy B Z Z Z (k:=0) O (lb Z) (fun _=>Z) (fun a0 E=>?_);refine Y Z (TH ar E Z Z) Z<|Sr 6 Z ?_;exact aB Z Z ⟨cB (by unfold bI;simp only[j,ct,cf]<;>rfl),ar⟩
theorem ON {G:Cx} (C:Plain G) {K:KP} {g:XG} {b:Nat} {va vb vc vd iv ev:U} (hv:px K g b va vb vc vd iv ev) {i:Nat} (hi:i<nV g) {V:aE} {L:Own} (ar:D V K L):
  bu Tryz.prog G 103 [.ptr b 0,.int .i64 (.ofNat i)] V fun u V'=>u= .bool (Eb g i)/\D V' K L:=by
 refine SQ C Tryz.func103 Z<|Sm 8 Z<|Y Z (dK Z) Z<|Y Z (TC 5 Z) Z<|Y Z (TD Z (ar.eN hv.row) Z) Z<|vQ 1 Z<|Tw (e:=59) (m:=5) hv.nL (fV hi) Z Z Z Z (fun ac aa z ab A=>?_);obtain rfl:=A;refine dy z Z Z Z (k:=2) O (lb Z) (fun _=>Z) (fun am B=>?_);refine Y Z (TH ar B Z Z) Z<|RE 7 Z<|ky Z (aq Z) (fun j=>?_) (fun j=>?_)
 ·refine Sr 11 Z ?_;exact aB Z Z ⟨cB (by unfold Eb;simp only[j,ct,cf]<;>rfl),ar⟩
 refine SY 3 Z<|ky Z (aq Z) (fun w=>?_) (fun w=>?_)
 ·refine Sr 7 Z ?_;exact aB Z Z ⟨cB (by unfold Eb;simp only[j,w,ct,cf]<;>rfl),ar⟩
 refine Sr 7 Z ?_;exact aB Z Z ⟨cB (by unfold Eb;simp only[j,w,ct,cf]<;>rfl),ar⟩
theorem Ri {G:Cx} (C:Plain G) {K:KP} {g:XG} {b:Nat} {va vb vc vd iv ev:U} (hv:px K g b va vb vc vd iv ev) {i:Nat} (hi:i<nV g) {V:aE} {L:Own} (ar:D V K L):
  bu Tryz.prog G 102 [.ptr b 0,.int .i64 (.ofNat i)] V fun u V'=>u= .bool (Fs g i)/\D V' K L:=by
 refine SQ C Tryz.func102 Z<|Sm 8 Z<|Y Z (dK Z) Z<|Y Z (TC 5 Z) Z<|Y Z (TD Z (ar.eN hv.row) Z) Z<|vQ 1 Z<|Tw (e:=59) (m:=5) hv.nL (fV hi) Z Z Z Z (fun ac aa z ab A=>?_);obtain rfl:=A;refine dy z Z Z Z (k:=2) O (lb Z) (fun _=>Z) (fun am B=>?_);refine Y Z (TH ar B Z Z) Z<|RE 7 Z<|ky Z (aq Z) (fun j=>?_) (fun j=>?_)
 ·refine Sr 11 Z ?_;exact aB Z Z ⟨cB (by unfold Fs;simp only[j,ct,cf]<;>rfl),ar⟩
 refine SY 3 Z<|ky Z (aq Z) (fun w=>?_) (fun w=>?_)
 ·refine Sr 7 Z ?_;exact aB Z Z ⟨cB (by unfold Fs;simp only[j,w,ct,cf]<;>rfl),ar⟩
 refine Sr 7 Z ?_;exact aB Z Z ⟨cB (by unfold Fs;simp only[j,w,ct,cf]<;>rfl),ar⟩
theorem AU {G:Cx} (hG:Plain G) {K:KP} {g:XG} {b:Nat} {va vb vc vd iv ev:U} (hv:px K g b va vb vc vd iv ev) (hR:dO g) {i:Nat} (hi:i<nV g) {V:aE} {L:Own} (ar:D V K L):
  bu Tryz.prog G 101 [.ptr b 0,.int .i64 (.ofNat i)] V fun u V'=>u= .int .i64 (iG g i)/\D V' K L:=by
 have hvl:=p4 hR;refine SQ hG Tryz.func101 Z<|Ry 10 Z<|bz Z (TB Z Z Z) (fun _=>Z) (AW hG hv hi ar) (fun V ar=>?_);refine Y Z (da Z) Z<|So 2 Z<|aD Z (fun z=>?_) (fun z=>?_)
 ·refine Sn 7 Z ?_;exact aB Z Z ⟨cJ (by unfold iG;rw[show cN (fg g i)=false from by revert z;cases cN (fg g i)<;>simp];rfl),ar⟩
 refine Rz 3 Z<|aU (l:=zp [0,1,2,3,4,5,6,7,8,9,10,11,12,13,14,15,16,17,18,19,20,21,22,23,24,25,26,27]) O O ?_;have A:cN (fg g i)=true:=by revert z;cases cN (fg g i)<;>simp
 obtain⟨tt,kk,row,e,frow,q,E,F,bd,be,B,hq,I,_⟩:=Kj hR hi A;refine wQ 1 Z<|ai Z Z (dK Z) Z<|S3 ar 2 [0,2] Z Z<|ai Z Z (TD Z (ar.eN hv.row) Z) Z<|wQ 1 Z<|ai Z Z (dK Z) Z<|ai Z Z (TC 4 Z) Z<|ai Z Z (TD Z (ar.eN hv.row) Z) Z<|wQ 1 Z<|Tx (e:=51) (m:=2) hv.ids (eJ hi) Z Z Z Z Z (fun bi a1 M a2 Q=>?_);obtain rfl:=Q;refine eQ M Z Z Z Z (k:=0) O (lb Z) (fun _=>Z) (fun bk R=>?_);refine ai Z Z (TH ar R Z Z) Z (ai Z Z (ax (v:=.int .i64 (.ofNat tt)) Z Z (by rw[E];exact cI (gW (by have:=hR.threads;have:=(gA.1 F).1;omega)))) Z<|Tx (e:=49) (m:=1) hv.gr.from_ B Z Z Z Z Z (fun bl a3 S a4 T=>?_));have hr25':=T;obtain⟨bm,rfl,W⟩:=hr25';refine ai Z Z (TH ar S Z Z) Z<|wQ 1 Z<|ai Z Z (dK Z) Z<|ai Z Z (TC 4 Z) Z<|ai Z Z (TD Z (ar.eN hv.row) Z) Z<|wQ 1 Z<|Tx (e:=51) (m:=2) hv.ids (eJ hi) Z Z Z Z Z (fun bo a5 X a6 aa=>?_);obtain rfl:=aa;refine eQ X Z Z Z Z (k:=1) O (lb Z) (fun _=>Z) (fun bp ab=>?_);refine ai Z Z (TH ar ab Z Z) Z<|Tx (e:=51) (m:=2) W hq Z Z Z Z (cI<|congrArg cY.index E) (fun bq a7 ac a8 am=>?_);obtain rfl:=am;refine ai Z Z (TI ar ac Z Z) Z<|qd ar Z Z (TG (cs:=[N,N])) (fun _=>Z) (fun V b1 ar=>?_);refine iM ar Z Z (TJ Z Z Z ar.g0 (m:=2) Z Z (cells':=[_,_]) Z) Z (fun V ar=>?_);refine⟨ba,?_⟩;refine Ss 2 Z<|Rx 7 Z ?_;obtain⟨LL1,ar,hLL1⟩:=ar.named;refine bf ([4,6]++rg 37 18) (fun j t V=>∃(k:Nat),j+k=nV g/\ew (fun x:cY=>bQ x.ints q.ints) (ij g) 0=ew (fun x:cY=>bQ x.ints q.ints) ((ij g).drop k) k/\t.get 6=some (.int .i64 (.ofNat k))/\D V K LL1) (nV g) ⟨0,Z,Z,Z,ar⟩ ?_;clear ar;intro j5 t V an hI;obtain⟨k,br,he,a0,ar⟩:=hI;subst hLL1;obtain⟨oo,rfl⟩:=an.q1 a0 Z;refine Ry 5 Z<|Y Z (dK Z) Z<|Y Z (TC 6 Z) Z<|Y Z (TD Z (ar.eN hv.row) Z) Z<|So 3 Z<|aD Z (fun w=>?_) (fun w=>?_)
 ·refine Qr 5 Z<|aU (l:=zp [0,1,2,3,4,5,6,7,8]) O O<|wQ 1 Z<|ai Z Z (dK Z) Z<|ai Z Z (TC 4 Z) Z<|ai Z Z (TD Z (ar.eN hv.row) Z) Z<|wQ 1 Z<|Tx (e:=51) (m:=2) hv.ids (eJ<|bc w) Z Z Z Z Z (fun bs a9 ao bb ap=>?_);obtain rfl:=ap;refine ai Z Z (TI ar ao Z Z) Z<|ai Z Z (TE Z ar.g0 (n:=2) (vs:=[_,_]) Z) Z<|ai Z Z (Aa (n:=2) (ca:=[_,_]) (cb:=[_,_]) O Z Z Z Z) Z<|Ss 2 Z<|aD Z (fun C=>?_) (fun C=>?_)
  ·refine SW 7 Z<|aK<|aA<|bD<|aK<|aA (?_);exact aB Z Z ⟨cJ (by symm;unfold iG;rw[A,I];show ew (fun x:cY=>bQ x.ints q.ints) (ij g) 0=_;rw[he,cu<|eJ<|bc w];show(bif bQ (fM g k).ints q.ints then _ else _)=_;rw[show bQ (fM g k).ints q.ints=true from C];rfl),ar.pop⟩
  refine aG<|aC<|SV 5 Z ?_;have hlp:=bc w;refine aH ⟨j5-1,by have:=bc w;omega,oF,k+1,by omega,by rw[he,cu<|eJ hlp];show(bif bQ (fM g k).ints q.ints then _ else _)=_;rw[show bQ (fM g k).ints q.ints=false from C];rfl,cI<|aW oM,ar⟩
 refine RC 3 Z<|aL<|SW 6 Z ?_;exact aB Z Z ⟨cJ (by symm;unfold iG;rw[A,I];show ew (fun x:cY=>bQ x.ints q.ints) (ij g) 0=_;rw[he,eF<|bA w];rfl),ar.pop⟩
theorem Qj {g:XG} (m:dO g) {i:Nat} (hi:i<nV g) (hw:bI (fg g i)=true):∃(ln:Nat) (r:List cY),(fg g i).loc= .ofNat ln/\g.order[ln]?=some r/\Iq g (fg g i).loc=r:=by
 have key:∃ln:Nat,(fg g i).loc= .ofNat ln/\ln<g.order.length:=by
  rcases jL hi with ⟨x,v,h1,j,u⟩ | ⟨t,k,row,e,h1,j,u,h4⟩
  ·exact⟨x,by rw[u],by rw[m.order];exact(gA.1 j).1⟩
  obtain⟨frow,w⟩:∃frow,g.from_[t]?=some frow:=⟨_,gC (by rw[m.from_];exact(gA.1 j).1)⟩;obtain⟨hl,z⟩:=m.rows t row frow j w;obtain⟨q,hq⟩:∃q,frow[k]?=some q:=⟨_,gC (by rw[hl];exact(gA.1 u).1)⟩;have hoke:=z k e q u hq;unfold wB at hoke
  have A:bX e (.ofNat g.init.length)=true:=by
   revert hoke;cases bX e (.ofNat g.init.length)<;>intro hoke
   ·exact Bool.noConfusion (show false=true from hoke)
   rfl
  obtain⟨ln,r,h5,B,_⟩:=IG (ef.2 m) A (by rw[<-h4];exact hw);exact⟨ln,by rw[h4];exact h5,(gA.1 B).1⟩
 obtain⟨ln,h1,j⟩:=key;exact⟨ln,g.order[ln],h1,gC j,by unfold Iq;rw[h1];show(g.order[ln]?).getD []=_;rw[gC j];rfl⟩
theorem GV {G:Cx} (hG:Plain G) {K:KP} {g:XG} {b:Nat} {va vb vc vd iv ev:U} (hv:px K g b va vb vc vd iv ev) (hR:dO g) {i:Nat} (hi:i<nV g) (hw:bI (fg g i)=true) {V:aE} {L:Own} (ar:D V K L):
  bu Tryz.prog G 117 [.ptr b 0,.int .i64 (.ofNat i)] V fun u V'=>u= .int .i64 (oQ g i)/\D V' K L:=by
 have hvl:=p4 hR;obtain⟨ln,r,ao,hr,F⟩:=Qj hR hi hw;refine SQ hG Tryz.func117 Z<|Ry 9 Z<|Y Z (dK Z) Z<|Y Z (TC 4 Z) Z<|Y Z (TD Z (ar.eN hv.row) Z) Z<|vQ 1 Z<|Tw (e:=51) (m:=2) hv.ids (eJ hi) Z Z Z Z (fun bd a0 I a1 M=>?_);obtain rfl:=M;refine dy I Z Z Z (k:=0) O (lb Z) (fun _=>Z) (fun be Q=>?_);refine Y Z (TH ar Q Z Z) Z<|So 3 Z<|aD Z (fun C=>?_) (fun C=>?_)
 ·refine Sn 7 Z ?_;exact aB Z Z ⟨cJ (by unfold oQ;rw[show H (fM g i).cy 0=true from C];rfl),ar⟩
 refine Rz 3 Z<|aU (l:=zp [0,1,2,3,4,5,6,7,8,9,10,11,12,13,14,15]) O O<|wQ 1 Z<|ai Z Z (dK Z) Z<|S3 ar 2 [0,3] Z Z<|ai Z Z (TD Z (ar.eN hv.row) Z) Z<|wQ 1 Z<|ai Z Z (dK Z) Z<|ai Z Z (TC 5 Z) Z<|ai Z Z (TD Z (ar.eN hv.row) Z) Z<|wQ 1 Z<|Tx (e:=59) (m:=5) hv.nL (fV hi) Z Z Z Z Z (fun bi a2 R a3 S=>?_);obtain rfl:=S;refine eQ R Z Z Z Z (k:=1) O (lb Z) (fun _=>Z) (fun bk T=>?_);refine ai Z Z (TH ar T Z Z) Z<|Tx (e:=49) (m:=1) hv.gr.order hr Z Z Z Z (cI ao) (fun bl a4 W a5 X=>?_);have hr29':=X;obtain⟨bm,rfl,w⟩:=hr29';refine ai Z Z (TH ar W Z Z) Z<|Ss 3 Z<|Rx 7 Z ?_;obtain⟨LL1,ar,hLL1⟩:=ar.named;refine bf ([4,6]++rg 31 20) (fun j t V=>∃(k:Nat),j+k=r.length/\ew (fun x:cY=>bQ x.ints (fM g i).ints) r 0=ew (fun x:cY=>bQ x.ints (fM g i).ints) (r.drop k) k/\t.get 6=some (.int .i64 (.ofNat k))/\D V K LL1) (r.length) ⟨0,Z,Z,Z,ar⟩ ?_;clear ar;intro j5 t V an hI;obtain⟨k,bo,he,ap,ar⟩:=hI;subst hLL1;obtain⟨oo,rfl⟩:=an.q1 ap Z;refine Ry 5 Z<|Y Z (TF w Z Z Z (e:=51) Z) Z<|So 3 Z<|aD Z (fun z=>?_) (fun z=>?_)
 ·refine Qr 5 Z<|aU (l:=zp [0,1,2,3,4,5,6,7,8,9,10,11]) O O<|S0 2 Z ?_;obtain⟨A,B,a6⟩:=cK z;refine Tx (e:=51) (m:=2) w B Z Z Z Z Z (fun bp a7 aa a8 ab=>?_);obtain rfl:=ab;refine ai Z Z (TI ar aa Z Z) Z<|wQ 1 Z<|ai Z Z (dK Z) Z<|ai Z Z (TC 4 Z) Z<|ai Z Z (TD Z (ar.eN hv.row) Z) Z<|wQ 1 Z<|Tx (e:=51) (m:=2) hv.ids (eJ hi) Z Z Z Z Z (fun bq a9 ac bb am=>?_);obtain rfl:=am;refine ai Z Z (TI ar ac Z Z) Z<|ai Z Z (Aa (n:=2) (ca:=[_,_]) (cb:=[_,_]) O Z Z Z Z) Z<|Ss 2 Z<|aD Z (fun E=>?_) (fun E=>?_)
  ·refine SW 8 Z<|aK<|aA<|bD<|aK<|aA (?_);exact aB Z Z ⟨cJ (by symm;unfold oQ;rw[show H (fM g i).cy 0=false from C,F];show(let p:=ew (fun x:cY=>bQ x.ints (fM g i).ints) r 0;bif b9 p 0 then-1 else wr .i64 (Int.add p 1))=_;rw[he,cu B,show ew (fun x:cY=>bQ x.ints (fM g i).ints) (A::r.drop (k+1)) k= .ofNat k from by show(bif bQ A.ints (fM g i).ints then _ else _)=_;rw[show bQ A.ints (fM g i).ints=true from E];rfl];rfl),ar⟩
  refine aG<|aC<|SV 5 Z ?_;have hlp:=bc z;refine aH ⟨j5-1,by have:=bc z;omega,oF,k+1,by omega,by rw[he,cu B];show(bif bQ A.ints (fM g i).ints then _ else _)=_;rw[show bQ A.ints (fM g i).ints=false from E];rfl,cI<|aW (by have:=w.bO;omega),ar⟩
 refine RC 3 Z<|aL<|SW 6 Z ?_;exact aB Z Z ⟨cJ (by symm;unfold oQ;rw[show H (fM g i).cy 0=false from C,F];show(let p:=ew (fun x:cY=>bQ x.ints (fM g i).ints) r 0;bif b9 p 0 then-1 else wr .i64 (Int.add p 1))=_;rw[he,eF<|bA z];rfl),ar⟩
theorem N4 {G:Cx} (I:Plain G) {K:KP} {g:XG} {b:Nat} {va vb vc vd iv ev:U} (hv:px K g b va vb vc vd iv ev) {i q:Nat} (hi:i<nV g) (hq:q<nV g) {V:aE} {L:Own} (ar:D V K L):
  bu Tryz.prog G 89 [.ptr b 0,.int .i64 (.ofNat i),.int .i64 (.ofNat q)] V fun u V'=>u= .bool (rR g i q)/\D V' K L:=by
 refine SQ I Tryz.func89 Z (Sl 6 Z (aU (l:=[(0,[]),(1,[]),(2,[]),(3,[]),(4,[]),(5,[]),(6,[]),(7,[]),(8,[]),(9,[]),(10,[]),(11,[]),(12,[]),(13,[]),(14,[]),(15,[]),(16,[10,13]),(17,[])]) O O<|wQ 1 Z<|ai Z Z (dK Z) Z<|ai Z Z (TC 4 Z) Z<|ai Z Z (TD Z (ar.eN hv.row) Z) Z<|wQ 1 Z<|Tx (e:=51) (m:=2) hv.ids (eJ hi) Z Z Z Z Z (fun an aa C ab E=>?_)));obtain rfl:=E;refine ai Z Z (TI ar C Z Z) Z<|wQ 1 Z<|ai Z Z (dK Z) Z<|ai Z Z (TC 4 Z) Z<|ai Z Z (TD Z (ar.eN hv.row) Z) Z<|wQ 1 Z<|Tx (e:=51) (m:=2) hv.ids (eJ hq) Z Z Z Z Z (fun ao ac B am F=>?_);obtain rfl:=F;refine ai Z Z (TI ar B Z Z) Z<|qd ar Z Z (TG (cs:=[N,N])) (fun _=>Z) (fun V b1 ar=>?_);refine qd ar Z Z (TG (cs:=[N,N])) (fun _=>Z) (fun V b2 ar=>?_);refine oN ar Z Z (TJ Z Z Z ar.g1 (m:=2) Z Z (cells':=[_,_]) Z) Z (fun V ar=>?_);refine⟨(bx (bC Z Z Z Z Z (TD Z (ar.eN hv.row) Z) hv.ids.eh)<|bx (bC Z Z Z Z Z (TI ar B Z Z)<|iP<|cR (fq _ _)<|cR (fq _ _) gM) ba),?_⟩;refine iM ar Z Z (TJ Z Z Z ar.g0 (m:=2) Z Z (cells':=[_,_]) Z) Z (fun V ar=>?_);refine⟨ba,?_⟩;refine Ss 2 Z<|Sm 2 Z<|S2 ar 3 [0,1] Z Z<|ky Z (aq Z) (fun w=>?_) (fun w=>?_)
 ·refine S2 ar 4 [0,0] Z Z<|ky Z (aq Z) (fun A=>?_) (fun A=>?_)
  ·refine Sr 22 Z ?_;exact aB Z Z ⟨cB (by unfold rR;simp only[w,A,ct,cf]<;>rfl),ar.pop.pop⟩
  refine S2 ar 3 [0,1] Z Z<|ky Z (aq Z) (fun j=>?_) (fun j=>?_)
  ·refine S2 ar 6 [0,1,0,0] Z Z<|ky Z (aq Z) (fun z=>?_) (fun z=>?_)
   ·refine Sx ar 11 [1,1,1,0] Z Z ?_;exact aB Z Z ⟨cB (by unfold rR;simp only[w,A,j,z,ct,cf]<;>rfl),ar.pop.pop⟩
   refine Sr 11 Z ?_;exact aB Z Z ⟨cB (by unfold rR;simp only[w,A,j,z,ct,cf]<;>rfl),ar.pop.pop⟩
  refine Sr 18 Z ?_;exact aB Z Z ⟨cB (by unfold rR;simp only[w,A,j,ct,cf]<;>rfl),ar.pop.pop⟩
 refine S2 ar 8 [0,1] Z Z<|ky Z (aq Z) (fun j=>?_) (fun j=>?_)
 ·refine S2 ar 6 [0,1,0,0] Z Z<|ky Z (aq Z) (fun z=>?_) (fun z=>?_)
  ·refine Sx ar 11 [1,1,1,0] Z Z ?_;exact aB Z Z ⟨cB (by unfold rR;simp only[w,j,z,ct,cf]<;>rfl),ar.pop.pop⟩
  refine Sr 11 Z ?_;exact aB Z Z ⟨cB (by unfold rR;simp only[w,j,z,ct,cf]<;>rfl),ar.pop.pop⟩
 refine Sr 18 Z ?_;exact aB Z Z ⟨cB (by unfold rR;simp only[w,j,ct,cf]<;>rfl),ar.pop.pop⟩
theorem Sz {G:Cx} (j:Plain G) {K:KP} {g:XG} {b:Nat} {va vb vc vd iv ev:U} (hv:px K g b va vb vc vd iv ev) (m:dO g) {i q:Nat} (hi:i<nV g) (hq:q<nV g) {V:aE} {L:Own} (ar:D V K L):
  bu Tryz.prog G 90 [.ptr b 0,.int .i64 (.ofNat i),.int .i64 (.ofNat q)] V fun u V'=>u= .bool (BF g i q)/\D V' K L:=by
 refine SQ j Tryz.func90 Z<|Sm 9 Z<|bz Z (TB Z Z Z) (fun _=>Z) (AU j hv m hq ar) (fun V ar=>?_);refine Sr 6 Z ?_;exact aB Z Z ⟨cB (by unfold BF;simp only[ct,cf]<;>rfl),ar⟩
theorem Rh {G:Cx} (X:Plain G) {K:KP} {g:XG} {b:Nat} {va vb vc vd iv ev:U} (hv:px K g b va vb vc vd iv ev) {i q:Nat} (hi:i<nV g) (hq:q<nV g) {V:aE} {L:Own} (ar:D V K L):
  bu Tryz.prog G 69 [.ptr b 0,.int .i64 (.ofNat i),.int .i64 (.ofNat q)] V fun u V'=>u= .bool (yT g i q)/\D V' K L:=by
 refine SQ X Tryz.func69 Z<|Sl 6 Z<|aU (l:=zp [0,1,2,3,4,5,6,7,8,9,10,11,12,13,14,15,16,17,18,19,20,21,22,23,24,25,26,27,28,29,30,31,32,33,34,35,36,37,38,39,40,41,42,43,44]) O O<|S0 3 Z<|eg Z Z (aq Z) (fun _=>Z) (fun j=>?_) (fun j=>?_)
 ·refine wQ 1 Z<|ai Z Z (dK Z) Z<|ai Z Z (TC 5 Z) Z<|ai Z Z (TD Z (ar.eN hv.row) Z) Z<|wQ 1 Z<|Tx (e:=59) (m:=5) hv.nL (fV hi) Z Z Z Z Z (fun a1 aa A ab B=>?_);obtain rfl:=B;refine eQ A Z Z Z Z (k:=0) O (lb Z) (fun _=>Z) (fun a2 C=>?_);refine ai Z Z (TH ar C Z Z) Z<|S0 2 Z<|eg Z Z (aq Z) (fun _=>Z) (fun w=>?_) (fun w=>?_)
  ·refine wQ 1 Z<|ai Z Z (dK Z) Z<|ai Z Z (TC 5 Z) Z<|ai Z Z (TD Z (ar.eN hv.row) Z) Z<|wQ 1 Z<|Tx (e:=59) (m:=5) hv.nL (fV hq) Z Z Z Z Z (fun a3 ac E am F=>?_);obtain rfl:=F;refine eQ E Z Z Z Z (k:=0) O (lb Z) (fun _=>Z) (fun a4 I=>?_);refine ai Z Z (TH ar I Z Z) Z<|S0 2 Z<|eg Z Z (aq Z) (fun _=>Z) (fun z=>?_) (fun z=>?_)
   ·refine wQ 1 Z<|ai Z Z (dK Z) Z<|ai Z Z (TC 5 Z) Z<|ai Z Z (TD Z (ar.eN hv.row) Z) Z<|wQ 1 Z<|Tx (e:=59) (m:=5) hv.nL (fV hi) Z Z Z Z Z (fun a5 an M ao Q=>?_);obtain rfl:=Q;refine eQ M Z Z Z Z (k:=1) O (lb Z) (fun _=>Z) (fun a6 R=>?_);refine ai Z Z (TH ar R Z Z) Z<|wQ 1 Z<|ai Z Z (dK Z) Z<|ai Z Z (TC 5 Z) Z<|ai Z Z (TD Z (ar.eN hv.row) Z) Z<|wQ 1 Z<|Tx (e:=59) (m:=5) hv.nL (fV hq) Z Z Z Z Z (fun a7 ap S a0 T=>?_);obtain rfl:=T;refine eQ S Z Z Z Z (k:=1) O (lb Z) (fun _=>Z) (fun a8 W=>?_);refine ai Z Z (TH ar W Z Z) Z<|Su 6 Z ?_;exact aB Z Z ⟨cB (by unfold yT bh;simp only[j,w,z,ct,cf]<;>rfl),ar⟩
   refine Su 22 Z ?_;exact aB Z Z ⟨cB (by unfold yT bh;simp only[j,w,z,ct,cf]<;>rfl),ar⟩
  refine Su 33 Z ?_;exact aB Z Z ⟨cB (by unfold yT bh;simp only[j,w,ct,cf]<;>rfl),ar⟩
 refine Su 44 Z ?_;exact aB Z Z ⟨cB (by unfold yT bh;simp only[j,ct,cf]<;>rfl),ar⟩
theorem Rg {G:Cx} (A:Plain G) {K:KP} {g:XG} {b:Nat} {va vb vc vd iv ev:U} (hv:px K g b va vb vc vd iv ev) (Q:dO g) {i q:Nat} (hi:i<nV g) (hq:q<nV g) {V:aE} {L:Own} (ar:D V K L):
  bu Tryz.prog G 91 [.ptr b 0,.int .i64 (.ofNat i),.int .i64 (.ofNat q)] V fun u V'=>u= .bool (Ao g i q)/\D V' K L:=by
 refine SQ A Tryz.func91 Z<|Sl 6 Z<|aU (l:=zp [0,1,2,3,4,5,6,7,8,9,10,11,12,13,14,15,16,17,18,19,20,21,22,23,24,25,26,27,28,29,31,32,30,33,34,35,36]) O O<|S0 2 Z<|GH Z Z (TB Z Z Z) (fun _=>Z) (yt A hv hi ar) (fun z V ar=>?_) (fun z V ar=>?_)
 ·refine⟨ba,?_⟩;refine S0 3 Z<|GH Z Z (TB Z Z Z) (fun _=>Z) (yt A hv hq ar) (fun j V ar=>?_) (fun j V ar=>?_)
  ·refine⟨ba,?_⟩;refine S0 3 Z<|ai Z Z (dK Z) Z<|ai Z Z (TC 5 Z) Z<|ai Z Z (TD Z (ar.eN hv.row) Z) Z<|wQ 1 Z<|Tx (e:=59) (m:=5) hv.nL (fV hi) Z Z Z Z Z (fun an aa B ab C=>?_);obtain rfl:=C;refine eQ B Z Z Z Z (k:=1) O (lb Z) (fun _=>Z) (fun ao E=>?_);refine ai Z Z (TH ar E Z Z) Z<|wQ 1 Z<|ai Z Z (dK Z) Z<|ai Z Z (TC 5 Z) Z<|ai Z Z (TD Z (ar.eN hv.row) Z) Z<|wQ 1 Z<|Tx (e:=59) (m:=5) hv.nL (fV hq) Z Z Z Z Z (fun ap ac F am I=>?_);obtain rfl:=I;refine eQ F Z Z Z Z (k:=1) O (lb Z) (fun _=>Z) (fun a0 M=>?_);refine ai Z Z (TH ar M Z Z) Z<|S0 2 Z<|eg Z Z (aq Z) (fun _=>Z) (fun w=>?_) (fun w=>?_)
   ·refine S0 4 Z<|eB Z Z (TB Z Z Z) (fun _=>Z) (GV A hv Q hi z ar) (fun V ar=>?_);refine⟨ba,?_⟩;refine eB Z Z (TB Z Z Z) (fun _=>Z) (GV A hv Q hq j ar) (fun V ar=>?_);refine⟨ba,?_⟩;refine Su 6 Z ?_;exact aB Z Z ⟨cB (by unfold Ao;simp only[z,j,w,ct,cf]<;>rfl),ar⟩
   refine Su 12 Z ?_;exact aB Z Z ⟨cB (by unfold Ao;simp only[z,j,w,ct,cf]<;>rfl),ar⟩
  refine⟨ba,?_⟩;refine Su 33 Z ?_;exact aB Z Z ⟨cB (by unfold Ao;simp only[z,j,ct,cf]<;>rfl),ar⟩
 refine⟨ba,?_⟩;refine Su 37 Z ?_;exact aB Z Z ⟨cB (by unfold Ao;simp only[z,ct,cf]<;>rfl),ar⟩
theorem Sy {G:Cx} (z:Plain G) {K:KP} {g:XG} {b:Nat} {va vb vc vd iv ev:U} (hv:px K g b va vb vc vd iv ev) (A:dO g) {i q:Nat} (hi:i<nV g) (hq:q<nV g) {V:aE} {L:Own} (ar:D V K L):
  bu Tryz.prog G 92 [.ptr b 0,.int .i64 (.ofNat i),.int .i64 (.ofNat q)] V fun u V'=>u= .bool (DT g i q)/\D V' K L:=by
 refine SQ z Tryz.func92 Z<|Sm 10 Z<|ky Z (aq Z) (fun j=>?_) (fun j=>?_)
 ·refine SY 2 Z<|ga Z (TB Z Z Z) (fun _=>Z) (AW z hv hi ar) (fun m V ar=>?_) (fun m V ar=>?_)
  ·refine SY 5 Z ?_;obtain⟨f,hf,w,_⟩:=td A hi m;refine bz Z (TB Z Z Z) (fun _=>Z) (by have q:=AU z hv A hi ar;rw[w] at q;exact q) (fun V ar=>?_);refine vQ 1 Z<|bz Z (TB Z Z Z) (fun _=>Z) (Rg z hv A hf hq ar) (fun V ar=>?_);have B:(iG g i).toNat=f:=by rw[w];rfl
   refine Sr 5 Z ?_;exact aB Z Z ⟨cB (by unfold DT bh;simp only[j,m,ct,cf,B]<;>rfl),ar⟩
  refine Sr 13 Z ?_;exact aB Z Z ⟨cB (by unfold DT bh;simp only[j,m,ct,cf]<;>rfl),ar⟩
 refine Sr 16 Z ?_;exact aB Z Z ⟨cB (by unfold DT bh;simp only[j,ct,cf]<;>rfl),ar⟩
end Go.Ev
end
