/- Part of the proof: an evaluator of the model's code, rules for walks on it, walks. Without conditions. -/
import Derived.Test.YtnchkcbckgcejaaGreatDoorEb
import Derived.KernelRfl
import Init
import Derived.Sort.AssemblyPlain
set_option linter.unusedSectionVars false
set_option linter.unusedVariables false
set_option linter.unusedSimpArgs false
noncomputable section
set_option maxHeartbeats 8000000
set_option maxRecDepth 4000
open Go.Proofs
namespace Go.Ev
variable [Env]
variable {G:Cx} {K:KP} {O:aB} {L:Own} {g:XG}
theorem IQ (u:Plain G) (e:cm) (ar:H O K L):Ca G K L 266 [.agg<|ints e.ints] O <| .bool (cz e):=by
 refine V9 u Tryz.func266 Z<|Vw 2 Z<|kb ar (cH Z Z) (fun O b1 ar=>?_);refine UQ ar 8 [0,0] Z Z<|ky Z (an Z) (fun d=>?_) (fun d=>?_)
 ·refine VA 8 Z ?_;exact aA Z Z ⟨cB (by unfold cz;simp only[d,ct,cf]),ar.pop⟩
 refine VG ar 8 [0,0] Z Z ?_;exact aA Z Z ⟨cB (by unfold cz;simp only[d,ct,cf]),ar.pop⟩
theorem uB (u:Plain G) (e:cm) (ar:H O K L):Ca G K L 267 [.agg<|ints e.ints] O <| .bool (bz e):=by
 refine V9 u Tryz.func267 Z<|Vw 2 Z<|kb ar (cH Z Z) (fun O b1 ar=>?_);refine UQ ar 8 [0,0] Z Z<|ky Z (an Z) (fun d=>?_) (fun d=>?_)
 ·refine VA 8 Z ?_;exact aA Z Z ⟨cB (by unfold bz;simp only[d,ct,cf]),ar.pop⟩
 refine VG ar 8 [0,0] Z Z ?_;exact aA Z Z ⟨cB (by unfold bz;simp only[d,ct,cf]),ar.pop⟩
theorem IP (hG:Plain G) {a b c d:V} (h:dS K g a b c d) (th ix:Int) (ar:H O K L):Ca G K L 268 [.agg [a,b,c,d],.agg [.int .i64 th,.int .i64 ix]] O <| .tuple [.agg<|ints (nf<|dV g ⟨th,ix⟩).ints,.bool (dV g ⟨th,ix⟩).isSome]:=by
 have h':=h;obtain⟨hi,N,hf,ho⟩:=h';refine V9 hG Tryz.func268 Z<|Vw 2 Z<|kb ar (cH Z Z) (fun O b1 ar=>?_);refine kb ar (cH Z Z) (fun O b2 ar=>?_);refine kb ar (W6 (cs:=[D,D,D,D,D])) (fun O b3 ar=>?_);refine TF ar 9 [0,1] Z Z<|ky Z (an Z) (fun h9=>?_) (fun h9=>?_)
 ·refine UK 17 Z (J Z (W1 (places:=[(0,1),(1,1),(2,1),(3,1),(4,1)]) (zero:=[D,D,D,D,D]) (cs:=[_,_,_,_,_]) Z) Z<|ks ar (Xb Z Z Z ar.g0 Z) (fun O ar=>?_));refine UM 5 Z ?_;exact cV Z Z ar.g0 (m:=5) U Z Z ⟨by rw[AD h9];rfl,ar.pop.pop.pop⟩
 refine Wk ar 4 [0,1,1,2] Z Z<|J Z (W5 N Z Z Z (e:=25) Z) Z<|Wh 2 Z<|ky Z (an Z) (fun z=>?_) (fun z=>?_)
 ·refine UK 9 Z (J Z (W1 (places:=[(0,1),(1,1),(2,1),(3,1),(4,1)]) (zero:=[D,D,D,D,D]) (cs:=[_,_,_,_,_]) Z) Z<|ks ar (Xb Z Z Z ar.g0 Z) (fun O ar=>?_));refine UM 5 Z ?_;exact cV Z Z ar.g0 (m:=5) U Z Z ⟨by rw[D0 z];rfl,ar.pop.pop.pop⟩
 refine VF ar 6 [1,1] Z Z<|aG Z (fun E=>?_) (fun E=>?_)
 ·refine Vw 2 Z (J Z (W1 (places:=[(0,1),(1,1),(2,1),(3,1),(4,1)]) (zero:=[D,D,D,D,D]) (cs:=[_,_,_,_,_]) Z) Z<|ks ar (Xb Z Z Z ar.g0 Z) (fun O ar=>?_));refine UM 5 Z ?_;exact cV Z Z ar.g0 (m:=5) U Z Z ⟨by rw[uL E];rfl,ar.pop.pop.pop⟩
 obtain⟨tn,rfl⟩:=nG h9;obtain⟨ixn,rfl⟩:=nG E;refine UF 3 Z<|VE ar 5 [0,1] Z Z<|Vy 2 Z<|aG Z (fun A=>?_) (fun A=>?_)
 ·obtain rfl:tn=0:=by rw[cK] at A;simpa using A
  refine UO ar 7 [1,1,0,2] Z Z<|J Z (W5 hi Z Z Z (e:=2) Z) Z<|Vy 3 Z<|aG Z (fun I=>?_) (fun I=>?_)
  ·refine Vw 2 Z (J Z (W1 (places:=[(0,1),(1,1),(2,1),(3,1),(4,1)]) (zero:=[D,D,D,D,D]) (cs:=[_,_,_,_,_]) Z) Z<|ks ar (Xb Z Z Z ar.g0 Z) (fun O ar=>?_));refine VA 4 Z<|aH<|aH (?_);exact cV Z Z ar.g0 (m:=5) U Z Z ⟨by rw[show dV g _=none from by show(g.init[ixn]?).map _=_;rw[gN_<|iQ I];rfl];rfl,ar.pop.pop.pop⟩
  refine UF 3 Z<|aL (l:=zp [0,1,2,3,4,5,6,7,8,9,10]) U U<|Wl ar 6 [1,1,0,2,1,1] Z Z ?_;obtain⟨a4,B⟩:=dc (iS I);refine WW (e:=2) (m:=1) hi B Z Z Z Z Z (fun a5 am Q ao R=>?_);obtain rfl:=R;refine ah Z Z (W7 ar Q Z Z) Z (ah Z Z (W1 (places:=[(0,1),(1,1),(2,1),(3,1),(4,1)]) (zero:=[D,D,D,D,D]) (cs:=[_,_,_,_,_]) Z) Z<|ia ar Z Z (Xb Z Z Z ar.g0 Z) Z (fun O ar=>?_));refine⟨aT,?_⟩;refine VC 4 Z<|aH (?_);exact cV Z Z ar.g0 (m:=5) U Z Z ⟨by rw[show dV g _=some _ from by show(g.init[ixn]?).map _=_;rw[B];rfl];rfl,ar.pop.pop.pop⟩
 obtain⟨tm,rfl⟩:=IE A;refine UF 3 Z<|al<|aL (l:=zp [0,1,2,3,4,5,6,7,8,9,10]) U U<|Wl ar 7 [1,1,1,2,0,1] Z Z ?_;obtain⟨a9,u⟩:=dc (show tm<g.threads.length from by have:=oo z;omega);refine WW (e:=25) (m:=1) N u Z Z Z Z (cI<|fD (by have:=oo z;have:=N.cS;omega)) (fun ba ap S aE T=>?_);have hr49':=T;obtain⟨bb,rfl,W⟩:=hr49';refine ah Z Z (W7 ar S Z Z) Z<|ah Z Z (W5 W Z Z Z (e:=38) Z) Z<|VB 3 Z<|aG Z (fun M=>?_) (fun M=>?_)
 ·refine Vw 2 Z (J Z (W1 (places:=[(0,1),(1,1),(2,1),(3,1),(4,1)]) (zero:=[D,D,D,D,D]) (cs:=[_,_,_,_,_]) Z) Z<|ks ar (Xb Z Z Z ar.g0 Z) (fun O ar=>?_));refine UM 5 Z ?_;exact cV Z Z ar.g0 (m:=5) U Z Z ⟨by rw[show dV g _=none from by show(g.threads[tm]?).bind _=_;rw[u];exact gN_<|iQ M];rfl,ar.pop.pop.pop⟩
 refine UF 3 Z<|aL (l:=zp [0,1,2,3,4,5,6,7,8,9,10,11,12]) U U<|Wl ar 5 [1,2,0,1] Z Z<|WW (e:=25) (m:=1) N u Z Z Z Z (cI<|fD (by have:=oo z;have:=N.cS;omega)) (fun bc a0 X a1 aa=>?_);have hr59':=aa;obtain⟨bd,rfl,ab⟩:=hr59';refine ah Z Z (W7 ar X Z Z) Z<|Wl ar 2 [1,1] Z Z ?_;obtain⟨be,C⟩:=dc (iS M);refine WW (e:=38) (m:=5) ab C Z Z Z Z Z (fun bf a2 ac a3 ak=>?_);obtain rfl:=ak;refine ah Z Z (W8 ar ac Z Z) Z<|ia ar Z Z (Xb Z Z Z ar.g0 Z) Z (fun O ar=>?_);refine⟨aT,?_⟩;refine VC 4 Z ?_;exact cV Z Z ar.g0 (m:=5) U Z Z ⟨by rw[show dV g _=some _ from by show(g.threads[tm]?).bind _=_;rw[u];exact C];rfl,ar.pop.pop.pop⟩
theorem Dd (Q:Plain G) (e:cm) (n:Int) (ar:H O K L):Ca G K L 253 [.agg<|ints e.ints,.int .i64 n] O <| .bool (bY e n):=by
 refine V9 Q Tryz.func253 Z<|Vw 2 Z<|kb ar (cH Z Z) (fun O b1 ar=>?_);refine TF ar 9 [0,0] Z Z<|ky Z (an Z) (fun M=>?_) (fun M=>?_)
 ·refine UM 24 Z ?_;exact aA Z Z ⟨cB (by unfold bY cL;simp only[M,ct,cf]),ar.pop⟩
 refine Wk ar 4 [0,0] Z Z<|ky Z (an Z) (fun d=>?_) (fun d=>?_)
 ·refine UM 19 Z ?_;exact aA Z Z ⟨cB (by unfold bY cL;simp only[M,d,ct,cf]),ar.pop⟩
 refine Wk ar 4 [2,0] Z Z<|ky Z (an Z) (fun z=>?_) (fun z=>?_)
 ·refine UM 14 Z ?_;exact aA Z Z ⟨cB (by unfold bY cL;simp only[M,d,z,ct,cf]),ar.pop⟩
 refine VF ar 6 [2,0] Z Z<|aG Z (fun A=>?_) (fun A=>?_)
 ·refine Vx 7 Z ?_;exact aA Z Z ⟨cB (by unfold bY cL;simp only[M,d,z,A,ct,cf]),ar.pop⟩
 refine UF 3 Z<|Vw 2 Z<|J Z (Xe Z ar.g0 Z) Z<|kx (W2 Z Z Z) (IQ Q _ ar) (fun O ar=>?_);refine J Z (dW Z) Z<|ky Z (an Z) (fun C=>?_) (fun C=>?_)
 ·refine Wk ar 4 [3,0] Z Z<|ky Z (an Z) (fun N=>?_) (fun N=>?_)
  ·refine UM 19 Z ?_;exact aA Z Z ⟨cB (by unfold bY cL;simp only[M,d,z,A,C,N,ct,cf]),ar.pop⟩
  refine J Z (Xe Z ar.g0 Z) Z<|kx (W2 Z Z Z) (uB Q _ ar) (fun O ar=>?_);refine J Z (dW Z) Z<|ky Z (an Z) (fun B=>?_) (fun B=>?_)
  ·refine VF ar 7 [4,0] Z Z<|aG Z (fun I=>?_) (fun I=>?_)
   ·refine Vx 7 Z ?_;exact aA Z Z ⟨cB (by unfold bY cL;simp only[M,d,z,A,C,N,B,I,ct,cf]),ar.pop⟩
   refine UF 3 Z<|VE ar 5 [0,0] Z Z<|Vy 2 Z<|aG Z (fun u=>?_) (fun u=>?_)
   ·refine VE ar 6 [1,0] Z Z<|UM 4 Z ?_;exact aA Z Z ⟨cB (by unfold bY cL;simp only[M,d,z,A,C,N,B,I,u,ct,cf]),ar.pop⟩
   refine UP ar 7 [1,0] Z Z<|ky Z (an Z) (fun E=>?_) (fun E=>?_)
   ·refine VG ar 9 [1,0] Z Z ?_;exact aA Z Z ⟨cB (by unfold bY cL;simp only[M,d,z,A,C,N,B,I,u,E,ct,cf]),ar.pop⟩
   refine VA 9 Z ?_;exact aA Z Z ⟨cB (by unfold bY cL;simp only[M,d,z,A,C,N,B,I,u,E,ct,cf]),ar.pop⟩
  refine Vy 8 Z<|UF 3 Z<|VE ar 5 [0,0] Z Z<|Vy 2 Z<|aG Z (fun u=>?_) (fun u=>?_)
  ·refine VE ar 6 [1,0] Z Z<|UM 4 Z ?_;exact aA Z Z ⟨cB (by unfold bY cL;simp only[M,d,z,A,C,N,B,u,ct,cf]),ar.pop⟩
  refine UP ar 7 [1,0] Z Z<|ky Z (an Z) (fun E=>?_) (fun E=>?_)
  ·refine VG ar 9 [1,0] Z Z ?_;exact aA Z Z ⟨cB (by unfold bY cL;simp only[M,d,z,A,C,N,B,u,E,ct,cf]),ar.pop⟩
  refine VA 9 Z ?_;exact aA Z Z ⟨cB (by unfold bY cL;simp only[M,d,z,A,C,N,B,u,E,ct,cf]),ar.pop⟩
 refine Wh 5 Z<|J Z (Xe Z ar.g0 Z) Z<|kx (W2 Z Z Z) (uB Q _ ar) (fun O ar=>?_);refine J Z (dW Z) Z<|ky Z (an Z) (fun B=>?_) (fun B=>?_)
 ·refine VF ar 7 [4,0] Z Z<|aG Z (fun I=>?_) (fun I=>?_)
  ·refine Vx 7 Z ?_;exact aA Z Z ⟨cB (by unfold bY cL;simp only[M,d,z,A,C,B,I,ct,cf]),ar.pop⟩
  refine UF 3 Z<|VE ar 5 [0,0] Z Z<|Vy 2 Z<|aG Z (fun u=>?_) (fun u=>?_)
  ·refine VE ar 6 [1,0] Z Z<|UM 4 Z ?_;exact aA Z Z ⟨cB (by unfold bY cL;simp only[M,d,z,A,C,B,I,u,ct,cf]),ar.pop⟩
  refine UP ar 7 [1,0] Z Z<|ky Z (an Z) (fun E=>?_) (fun E=>?_)
  ·refine VG ar 9 [1,0] Z Z ?_;exact aA Z Z ⟨cB (by unfold bY cL;simp only[M,d,z,A,C,B,I,u,E,ct,cf]),ar.pop⟩
  refine VA 9 Z ?_;exact aA Z Z ⟨cB (by unfold bY cL;simp only[M,d,z,A,C,B,I,u,E,ct,cf]),ar.pop⟩
 refine Vy 8 Z<|UF 3 Z<|VE ar 5 [0,0] Z Z<|Vy 2 Z<|aG Z (fun u=>?_) (fun u=>?_)
 ·refine VE ar 6 [1,0] Z Z<|UM 4 Z ?_;exact aA Z Z ⟨cB (by unfold bY cL;simp only[M,d,z,A,C,B,u,ct,cf]),ar.pop⟩
 refine UP ar 7 [1,0] Z Z<|ky Z (an Z) (fun E=>?_) (fun E=>?_)
 ·refine VG ar 9 [1,0] Z Z ?_;exact aA Z Z ⟨cB (by unfold bY cL;simp only[M,d,z,A,C,B,u,E,ct,cf]),ar.pop⟩
 refine VA 9 Z ?_;exact aA Z Z ⟨cB (by unfold bY cL;simp only[M,d,z,A,C,B,u,E,ct,cf]),ar.pop⟩
theorem Fs (E:Plain G) {a b c d:V} (h:dS K g a b c d) (th ix fth fix_:Int) (ar:H O K L):Ca G K L 254 [.agg [a,b,c,d],.agg [.int .i64 th,.int .i64 ix],.agg [.int .i64 fth,.int .i64 fix_]] O <| .bool (dO g ⟨th,ix⟩ ⟨fth,fix_⟩):=by
 have h':=h;obtain⟨hi,ht,hf,ho⟩:=h';refine V9 E Tryz.func254 Z<|Vw 2 Z<|kb ar (cH Z Z) (fun O b1 ar=>?_);refine kb ar (cH Z Z) (fun O b2 ar=>?_);refine kb ar (cH Z Z) (fun O b3 ar=>?_);refine UK 5 Z<|J Z (Xd Z (ar.get 2 Z) Z) Z<|J Z (Xc Z ar.g1 Z) Z<|kx (W2 Z Z Z) (IP E h _ _ ar) (fun O ar=>?_);refine Wh 3 Z<|kb ar (W6 (cs:=[D,D,D,D,D])) (fun O b4 ar=>?_);refine ks ar (Xb Z Z Z ar.g0 Z) (fun O ar=>?_);refine TE 6 Z<|J Z (Xe Z ar.g0 Z) Z<|kx (W2 Z Z Z) (IQ E _ ar) (fun O ar=>?_);refine J Z (dW Z) Z<|Vy 2 Z<|aG Z (fun u=>?_) (fun u=>?_)
 ·refine Vw 2 Z (J Z (Xc Z ar.g1 Z) Z (J Z (W1 (places:=[(0,1),(1,1)]) (zero:=[D,D]) (cs:=[_,_]) Z) Z<|J Z (zF (n:=2) (ca:=[_,_]) (cb:=[_,_]) U Z Z Z Z) Z<|UM 5 Z ?_));exact aA Z Z ⟨cB (by unfold dO;simp only[u,ct,cf]),ar.pop.pop.pop.pop⟩
 refine UG 4 Z<|J Z (Xd Z (ar.get 3 Z) Z) Z<|J Z (Xc Z ar.g1 Z) Z<|kx (W2 Z Z Z) (IP E h _ _ ar) (fun O ar=>?_);refine Wh 3 Z<|kb ar (W6 (cs:=[D,D,D,D,D])) (fun O b5 ar=>?_);refine ks ar (Xb Z Z Z ar.g0 Z) (fun O ar=>?_);refine UK 6 Z<|ky Z (an Z) (fun z=>?_) (fun z=>?_)
 ·refine J Z (Xc Z (ar.get 2 Z) Z) Z<|J Z (Xc Z (ar.get 3 Z) Z) Z<|J Z (zH (n:=2) (ca:=[_,_]) (cb:=[_,_]) U Z Z Z Z) Z<|vQ 1 Z<|ky Z (an Z) (fun A=>?_) (fun A=>?_)
  ·refine J Z (Xe Z ar.g0 Z) Z<|kx (W2 Z Z Z) (uB E _ ar) (fun O ar=>?_);refine vQ 1 Z<|ky Z (an Z) (fun B=>?_) (fun B=>?_)
   ·refine Wk ar 6 [1,0,1,1] Z Z<|ky Z (an Z) (fun C=>?_) (fun C=>?_)
    ·refine VG ar 10 [4,0,3,1] Z Z ?_;exact aA Z Z ⟨cB (by unfold dO;simp only[u,z,A,B,C,ct,cf]),ar.pop.pop.pop.pop.pop⟩
    refine VA 10 Z ?_;exact aA Z Z ⟨cB (by unfold dO;simp only[u,z,A,B,C,ct,cf]),ar.pop.pop.pop.pop.pop⟩
   refine VA 17 Z ?_;exact aA Z Z ⟨cB (by unfold dO;simp only[u,z,A,B,ct,cf]),ar.pop.pop.pop.pop.pop⟩
  refine VA 21 Z ?_;exact aA Z Z ⟨cB (by unfold dO;simp only[u,z,A,ct,cf]),ar.pop.pop.pop.pop.pop⟩
 refine VA 26 Z ?_;exact aA Z Z ⟨cB (by unfold dO;simp only[u,z,ct,cf]),ar.pop.pop.pop.pop.pop⟩
end Go.Ev
namespace Go.Ev
variable [Env] {fs:Array Field} {es:List eP} {ck kn:Nat} {ko mo xo:Operand} {et kt:TypeId}
abbrev LM:=List (List Int×Int)
inductive fK (n:Nat):List eP->LM->Prop
 | nil:fK n [] []
 | cons {e:eP} {k:List Int} {v:Int} {es:List eP} {m:LM}:k.length=n->e.key= .agg (ints k)->e.val= .int .i64 v->fK n es m->fK n (e::es) ((k,v)::m)
def qm:LM->List Int->Nat->Option (Nat×Int)
 | [],_,_=>none
 | (k',v)::m,k,i=>bif cC k k' then some (i,v) else qm m k (i+1)
def fW (m:LM) (k:List Int):Option Int:=(qm m k 0).map (·.2)
def qn (m:LM) (k:List Int) (v:Int):LM:=
 match qm m k 0 with
 | some (i,_)=>m.set i (k,v)
 | none=>m++[(k,v)]
def lq (m:LM) (k:List Int):LM:=
 match qm m k 0 with
 | some (i,_)=>m.eraseIdx i
 | none=>m
theorem fK.length {n:Nat} {es:List eP} {m:LM} (h:fK n es m):es.length=m.length:=by
 induction h with
 | nil=>rfl
 | cons _ _ _ _ ih=>simp[ih]
theorem fK.set {n:Nat} {es:List eP} {m:LM} (h:fK n es m) {e:eP} {k:List Int} {v:Int} (h1:k.length=n) (u:e.key= .agg (ints k)) (z:e.val= .int .i64 v):∀i,fK n (es.set i e) (m.set i (k,v)):=by
 induction h with
 | nil=>intro i;exact .nil
 | cons a b c d ih=>
  intro i;cases i with
  | zero=>exact .cons h1 u z d
  | succ i=>exact .cons a b c (ih i)
theorem fK.snoc {n:Nat} {m:LM} (h:fK n es m) {e:eP} {k:List Int} {v:Int} (h1:k.length=n) (u:e.key= .agg (ints k)) (z:e.val= .int .i64 v):fK n (es++[e]) (m++[(k,v)]):=by
 induction h with
 | nil=>exact .cons h1 u z .nil
 | cons a b c d ih=>exact .cons a b c ih
theorem fK.erase {n:Nat} {m:LM} (h:fK n es m):∀i,fK n (es.eraseIdx i) (m.eraseIdx i):=by
 induction h with
 | nil=>intro i;exact .nil
 | cons a b c d ih=>
  intro i;cases i with
  | zero=>exact d
  | succ i=>exact .cons a b c (ih i)
theorem fK.at {n:Nat} {m:LM} (h:fK n es m):∀{i:Nat} {k:List Int} {v:Int},m[i]? =some (k,v)->∃e,es[i]? =some e/\k.length=n/\e.key= .agg (ints k):=by
 induction h with
 | nil=>simp_all
 | cons a b c d ih=>
  grind
theorem xK:∀(es:List eP) (i:Nat),xJ es i=es.eraseIdx i
 | [],_=>rfl
 | _::_,0=>rfl
 | e::es,i+1=>by
  show e::xJ es i=e::es.eraseIdx i;rw[xK es i]
theorem ri:∀{m:LM} {k:List Int} {i j:Nat} {v:Int},qm m k i=some (j,v)->i<=j/\m[j-i]? =some (k,v)
 | [],k,i,j,v,h=>by cases h
 | (k',v')::m,k,i,j,v,h=>by
  have h':(bif cC k k' then some (i,v') else qm m k (i+1))=some (j,v):=h;cases d:cC k k' with
  | true=>
   grind [dt]
  | false=>
   rw[d] at h';obtain⟨h1,h2⟩:=ri h'
   grind
theorem ny:∀(xs:List Int),nR (ints xs) (ints xs)=true
 | []=>rfl
 | x::xs=>by
  have e:sN (.int .i64 x) (.int .i64 x)=some true:=by
   show(bif uE .i64 .i64 then some (F x x) else none)=some true;rw[cK];simp[uE]
  show(match sN (.int .i64 x) (.int .i64 x) with | some true=>nR (ints xs) (ints xs) | _=>false)=true;rw[e];exact ny xs
section
variable {P:Program}
theorem xX {t:TypeId} {n:Nat} (hu:P.underlying t=some (.struct fs)) (u:jD P t n=true) {k:List Int} (hk:k.length=n) {m:LM} (h:fK n es m):∀i,nh P t (.agg<|ints k) es i=some ((qm m k i).map fun x=>(x.1,.int .i64 x.2)):=by
 induction h with
 | nil=>intro i;rfl
 | @cons e k' v es m a b c d ih=>
  intro i
  have hq:kV P t (.agg<|ints k) e.key=some (cC k k'):=by
   unfold kV;rw[hu,b];exact tE u hk a
  show(match kV P t (.agg<|ints k) e.key with
   | some true=>some (some (i,e.val))
   | some false=>nh P t (.agg<|ints k) es (i+1)
   | none=>none)=some (Option.map _ (bif cC k k' then some (i,v) else qm m k (i+1)))
  grind
structure FK (P:Program) (t kt et:TypeId) (n:Nat):Prop where
 ty:P.underlying t=some (.map kt et)
 plain:plainKey P kt=true
 ints:jD P kt n=true
 zero:fJ P et=some (.int .i64 0)
 shape:∀k:List Int,k.length=n->jP P kt (.agg<|Go.Ev.ints k)=true
theorem ja {t:TypeId} {n:Nat} (h:jD P t n=true):∃fs,P.underlying t=some (.struct fs):=by
 grind [jD,structOf,oH]
variable {G:Cx} {ev:Operand->Option V} {O:aB}
theorem Ob {t:TypeId} {n:Nat} (hT:FK P t kt et n) {b:Nat} {m:LM} (hm:fK n es m) (hb:O.m.get b=some (.map es ck)) {k:List Int} {v:Int} (hk:k.length=n) (h1:ev mo=some (.map b)) (u:ev ko=some (.agg<|ints k)) (z:ev xo=some (.int .i64 v)):
  ∃es' ck',eo P G ev O (.mapUpdate t mo ko xo)= .skip (O.setObj b (.map es' ck'))/\fK n es' (qn m k v):=by
 obtain⟨fs,hu⟩:=ja hT.ints;have hf:=xX hu hT.ints hk hm 0
 have key:∃es' ck',kM P O t (.map b) (.agg<|ints k) (.int .i64 v)=some (O.setObj b (.map es' ck'))/\fK n es' (qn m k v):=by
  unfold kM qn;rw[hT.ty];dsimp only;rw[hb];dsimp only;rw[hT.plain,hT.shape k hk];simp only[Bool.and_self,cond_true];rw[hf];cases hl:qm m k 0 with
  | none=>exact⟨_,_,Z,by rw[ep];exact hm.snoc hk Z Z⟩
  | some x=>
   obtain⟨i,v0⟩:=x;have hi:=(ri hl).2;rw[Nat.sub_zero] at hi;obtain⟨e,he,_,d⟩:=hm.at hi;simp only[Option.map_some];rw[fY,he];dsimp only;have A:sameKey e.key (.agg<|ints k)=true:=by rw[d];exact ny k
   rw[A];exact⟨_,_,Z,by unfold vo;rw[rG];exact hm.set (e:={key:=.agg<|ints k,val:=.int .i64 v,born:=e.born}) hk Z Z i⟩
 obtain⟨es',ck',B,h5⟩:=key;refine⟨es',ck',lQ Z ?_,h5⟩;simp only[gD,h1,u,z,B]
theorem Oa {t:TypeId} {n:Nat} (hT:FK P t kt et n) {b:Nat} {m:LM} (hm:fK n es m) (hb:O.m.get b=some (.map es ck)) {k:List Int} (hk:k.length=n) (h1:ev mo=some (.map b)) (d:ev ko=some (.agg<|ints k)):
  eo P G ev O (.lookup t mo ko true)= .val (.tuple [.int .i64 ((fW m k).getD 0),.bool (fW m k).isSome]) O:=by
 obtain⟨fs,hu⟩:=ja hT.ints;have hf:=xX hu hT.ints hk hm 0;refine zI Z ?_;simp only[gE,hT.ty,d,h1,hb,hT.plain,hT.shape k hk,Bool.and_self,cond_true,hf,hT.zero];unfold fW;cases qm m k 0 with
 | none=>rfl
 | some x=>rfl
theorem N8 {c:Call} {t:TypeId} {n:Nat} (hT:FK P t kt et n) {b:Nat} {m:LM} (hm:fK n es m) (hb:O.m.get b=some (.map es ck)) {k:List Int} (hk:k.length=n) (d:c.callee= .builtin .delete) (u:c.argTypes[0]? =some t) (z:c.args.toList= [mo,ko]) (h1:ev mo=some (.map b)) (A:ev ko=some (.agg<|ints k)):
  ∃es',eo P G ev O (.call c)= .val (.tuple []) (O.setObj b (.map es' ck))/\fK n es' (lq m k):=by
 obtain⟨fs,hu⟩:=ja hT.ints;have hf:=xX hu hT.ints hk hm 0
 have key:∃es',qX P O c.argTypes (.map b) (.agg<|ints k)=some (O.setObj b (.map es' ck))/\fK n es' (lq m k):=by
  unfold qX lq;rw[u];dsimp only;rw[hT.ty];dsimp only;rw[hb];dsimp only;rw[hT.plain,hT.shape k hk];simp only[Bool.and_self,cond_true];rw[hf];cases hl:qm m k 0 with
  | none=>grind
  | some x=>
   obtain⟨i,v0⟩:=x;exact⟨_,Z,by rw[xK];exact hm.erase i⟩
 obtain⟨es',B,h5⟩:=key;refine⟨es',lQ (by simp[kindOf,d]) ?_,h5⟩
 have he:jv ev [mo,ko]=some [.map b,.agg<|ints k]:=by
  unfold jv dv;simp only[h1,A]
 simp only[gD,d,z,he,B]
theorem N9 {c:Call} {t:TypeId} {n:Nat} (hT:FK P t kt et n) {b:Nat} {m:LM} (hm:fK n es m) (hb:O.m.get b=some (.map es ck)) (d:c.callee= .builtin .len) (u:c.argTypes[0]? =some t) (z:c.args.toList= [mo]) (h1:ev mo=some (.map b)):
  eo P G ev O (.call c)= .val (.int .i64 (.ofNat m.length)) O:=by
 refine zI (by simp[kindOf,d,isMap,u,hT.ty]) ?_;simp only[gE,d,u,z,hT.ty,h1,hb,db,hm.length]
end
section
variable {P:Program} {G:Cx} {n:Nat} {t:PT V} {O:aB} {K:KP} {L:Own} {Q:Ex->PT V->aB->Prop} {ops:Array Oper} {o:Oper} {l:List Oper}
theorem QT (d:H O K L) {t':Nat->PT V} (hw:bR ops t o=some true) (hv:eo P G (bI G t) O o.op= .val (.map O.next) (O.alloc (.map [] 0))) (hp:∀b,dE t n o.dst (.map b)=some (t' b))
  (h:∀(O':aB) (b:Nat),H O' K ((b,.map [] 0)::L)->bZ P G ops n l (t' b) O' Q):bZ P G ops n (o::l) t O Q:=
 J hw hv (hp _) (h _ _<|d.alloc _)
theorem Bz {ev:Operand->Option V} {ty:TypeId}:eo P G ev O (.makeMap ty none)= .val (.map O.next) (O.alloc (.map [] 0)):=by
 exact uD (op:=.makeMap ty none) (mk:=.map) (ob:=.map [] 0) Z Z
theorem JV {ty:TypeId} (hT:FK P ty kt et kn) {b:Nat} {m:LM} {x:Nat×cN} (hm:fK kn es m) (d:H O K (x::(b,.map es ck)::L)) {k:List Int} {v:Int} {t':PT V} (hk:k.length=kn) (hw:bR ops t o=some true) (u:o.op= .mapUpdate ty mo ko xo)
  (h1:bI G t mo=some (.map b)) (z:bI G t ko=some (.agg<|ints k)) (A:bI G t xo=some (.int .i64 v)) (hp:dE t n o.dst unit=some t')
  (h:∀O' es' ck',H O' K (x::(b,.map es' ck')::L)->fK kn es' (qn m k v)->bZ P G ops n l t' O' Q):bZ P G ops n (o::l) t O Q:=by
 obtain⟨es',ck',e1,e2⟩:=Ob (G:=G) hT hm (d.get 1 Z) hk h1 z A;exact iq hw (by rw[u];exact e1) hp<|h _ _ _ (d.P9 _) e2
theorem JU {c:Call} {ty:TypeId} (hT:FK P ty kt et kn) {b:Nat} {m:LM} {x:Nat×cN} (hm:fK kn es m) (d:H O K (x::(b,.map es ck)::L)) {k:List Int} {t':PT V} (hk:k.length=kn) (hw:bR ops t o=some true) (u:o.op= .call c)
  (z:c.callee= .builtin .delete) (A:c.argTypes[0]? =some ty) (B:c.args.toList= [mo,ko]) (h1:bI G t mo=some (.map b)) (C:bI G t ko=some (.agg<|ints k)) (hp:dE t n o.dst (.tuple [])=some t')
  (h:∀O' es',H O' K (x::(b,.map es' ck)::L)->fK kn es' (lq m k)->bZ P G ops n l t' O' Q):bZ P G ops n (o::l) t O Q:=by
 obtain⟨es',e1,e2⟩:=N8 (G:=G) hT hm (d.get 1 Z) hk z A B h1 C;exact J hw (by rw[u];exact e1) hp<|h _ _ (d.P9 _) e2
end
end Go.Ev
namespace Go.Ev
variable [Env] {α:Type}
def yu (t:Nat) (m:LM) (n:Nat) (e:cm):LM:=bif bz e then qn m [.ofNat (t+1),.ofNat n] e.loc else m
def rO (t:Nat):List cm->Nat->LM->LM
 | [],_,m=>m
 | e::l,n,m=>rO t l (n+1) (yu t m n e)
def pI:List (List cm)->Nat->LM->LM
 | [],_,m=>m
 | l::r,t,m=>pI r (t+1) (rO t l 0 m)
def lD (loc:Nat):List bS->LM->Option LM
 | [],m=>some m
 | id::l,m=>bif (fW m id.ints).isSome then(bif F ((fW m id.ints).getD 0) (.ofNat loc) then lD loc l (lq m id.ints) else none) else none
def nC:List (List bS)->Nat->LM->Option LM
 | [],_,m=>some m
 | l::r,loc,m=>(lD loc l m).bind (nC r (loc+1))
def fm (g:XG):Bool:=
 match nC g.order 0 (pI g.threads 0 []) with
 | some m=>F (.ofNat m.length) 0
 | none=>false
theorem cQ {l:List α} {i:Nat} {x:α} (h:l[i]? =some x):l.drop i=x::l.drop (i+1):=by
 grind [zj_]
theorem eU {l:List α} {i:Nat} (h:l.length<=i):l.drop i= []:=List.drop_eq_nil_of_le h
end Go.Ev
namespace Go.Ev
theorem yM {b:Bool} (h:(!b)=true):b=false:=by cases b<;>simp_all
theorem my {b:Bool} (h:(!b)=false):b=true:=by cases b<;>simp_all
end Go.Ev
namespace Go.Ev
variable [Env]
def eR {α:Type} (p:α->Bool):List α->Nat->Int
 | [],_=>-1
 | x::r,i=>bif p x then .ofNat i else eR p r (i+1)
theorem Ei {α:Type} {p:α->Bool}:∀(l:List α) (i:Nat),(bif dH (eR p l i) 0 then false else true)=l.any p
 | [],_=>rfl
 | x::r,i=>by
  show(bif dH (bif p x then .ofNat i else eR p r (i+1)) 0 then false else true)=_;rw[List.any_cons];cases p x with
  | true=>rfl
  | false=>exact Ei r (i+1)
def yP (g:XG) (t n:Nat) (e:cm) (f:bS):Bool:=bif bY e (.ofNat g.init.length) then dO g ⟨.ofNat (t+1),.ofNat n⟩ f else false
def qH (g:XG) (t:Nat):List cm->List bS->Nat->Bool
 | e::l,f::q,n=>bif yP g t n e f then qH g t l q (n+1) else false
 | [],_,_=>true
 | _::_,[],_=>false
def lr (g:XG):List (List cm)->List (List bS)->Nat->Bool
 | l::r,f::q,t=>bif F (.ofNat f.length) (.ofNat l.length) then(bif qH g t l f 0 then lr g r q (t+1) else false) else false
 | [],_,_=>true
 | _::_,[],_=>false
def ec (g:XG):Int:=
 bif fj g then 3 else bif F (.ofNat g.from_.length) (.ofNat g.threads.length) then(bif F (.ofNat g.order.length) (.ofNat g.init.length) then(bif lr g g.threads g.from_ 0 then(bif fm g then 0 else 2) else 2) else 2) else 2
end Go.Ev
namespace Go.Ev
variable [Env]
variable {G:Cx} {K:KP} {O:aB} {L:Own} {g:XG} {m1:LM} {ls:List (List bS)}
theorem rj:FK Tryz.prog 267 87 3 2:=⟨by kernel_rfl,by kernel_rfl,by kernel_rfl,by kernel_rfl,fun k hk=>by
 match k,hk with
 | [a,b],_=>
  show jP Tryz.prog 87 (.agg<|ints [a,b])=true
  kernel_rfl⟩
theorem OK {m d:LM} {i u:Nat} {l:List bS} {x:bS} (h1:nC ls 0 m1=nC (ls.drop i) i d) (hx:ls[i]? =some l) (z:lD i l d=lD i (l.drop u) m) (hy:l[u]? =some x) (h:(fW m x.ints).isSome=false):nC ls 0 m1=none:=by
 rw[h1,cQ hx];show(lD i l d).bind _=none;rw[z,cQ hy];show(bif (fW m x.ints).isSome then _ else none).bind _=none;rw[h];rfl
theorem OL {m d:LM} {i u:Nat} {l:List bS} {x:bS} (h1:nC ls 0 m1=nC (ls.drop i) i d) (hx:ls[i]? =some l) (z:lD i l d=lD i (l.drop u) m) (hy:l[u]? =some x) (h:(fW m x.ints).isSome=true) (h':F ((fW m x.ints).getD 0) (.ofNat i)=false):nC ls 0 m1=none:=by
 rw[h1,cQ hx];show(lD i l d).bind _=none;rw[z,cQ hy];show(bif (fW m x.ints).isSome then(bif F ((fW m x.ints).getD 0) (.ofNat i) then _ else none) else none).bind _=none;rw[h,h'];rfl
theorem De (hG:Plain G) {a b c d:V} (h:dS K g a b c d) (ar:H O K L):Ca G K L 255 [.agg [a,b,c,d]] O <| .bool (fm g):=by
 have h':=h;obtain⟨hi,ht,hf,ho⟩:=h';refine V9 hG Tryz.func255 Z<|Vw 2 Z<|kb ar (cH Z Z) (fun O b1 ar=>?_);refine UK 5 Z<|QT ar Z Bz (fun _=>Z) (fun O b2 ar=>?_);refine TF ar 8 [1,1] Z Z (J Z (W5 ht Z Z Z (e:=25) Z) Z (UI 4 Z (bk (rg 4 4++rg 18 23) (fun j t O=>∃(i:Nat) (es:List eP) (ck:Nat) (m:LM),j+i=g.threads.length/\fK 2 es m/\pI g.threads 0 []=pI (g.threads.drop i) i m/\t.get 18=some (nI i)/\H O K ((b2,.map es ck)::(b1,.row [a,b,c,d] 52 false)::L)) (g.threads.length) ⟨0,[],0,[],Z,.nil,Z,Z,ar⟩ ?_)));clear ar;intro j3 t O ak X;obtain⟨i,es,ck,m,b9,hm,aa,a3,ar⟩:=X;obtain⟨oo,rfl⟩:=ak.q1 a3 Z;refine Vv 6 Z<|aG Z (fun ab=>?_) (fun ab=>?_)
 ·refine SF 7 Z ?_;obtain⟨I,W,bp⟩:=di ab;refine WV (e:=25) (m:=1) ht W Z Z Z Z (fun ca bq a4 bs a5=>?_);have hr21':=a5;obtain⟨cb,rfl,A⟩:=hr21';refine J Z (W7 ar a4 Z Z) Z<|UK 7 Z<|J Z (W5 A Z Z Z (e:=38) Z) Z<|vQ 1 Z ?_;generalize ac:m=m0 at hm aa;clear ac;refine UI 3 Z (bk ([6,7]++rg 25 15) (fun j t O=>∃(u:Nat) (es:List eP) (ck:Nat) (m:LM),j+u=I.length/\fK 2 es m/\rO i I 0 m0=rO i (I.drop u) u m/\t.get 25=some (nI u)/\H O K ((b2,.map es ck)::(b1,.row [a,b,c,d] 52 false)::L)) (I.length) ⟨0,es,ck,m0,Z,hm,Z,Z,ar⟩ ?_);clear ar;intro j6 t O ak X;obtain⟨u,es,ck,m,cc,hm,am,a9,ar⟩:=X;obtain⟨oo,rfl⟩:=ak.q1 a9 Z;refine Vv 6 Z<|aG Z (fun ao=>?_) (fun ao=>?_)
  ·refine SF 7 Z ?_;obtain⟨ap,M,bt⟩:=di ao;refine WV (e:=38) (m:=5) A M Z Z Z Z (fun cd bv ba bw bb=>?_);obtain rfl:=bb;refine J Z (W8 ar ba Z Z) Z<|kb ar (W6 (cs:=[D,D,D,D,D])) (fun O b3 ar=>?_);refine vQ 1 Z<|ks ar (Xb Z Z Z ar.g0 Z) (fun O ar=>?_);refine UK 4 Z<|J Z (Xe Z ar.g0 Z) Z<|kx (W2 Z Z Z) (uB hG _ ar) (fun O ar=>?_);refine Vy 2 Z<|aG Z (fun aE=>?_) (fun aE=>?_)
   ·refine We 5 Z (J Z (W1 (places:=[(0,1),(1,1)]) (zero:=[D,D]) (cs:=[_,_]) Z) Z<|Wk ar 2 [1,0] Z Z<|JV rj hm ar (k:=[_,_]) Z Z Z Z Z Z Z (fun O es ck ar hm=>?_));replace hm:=(show fK 2 es (qn m [Int.ofNat (i+1),Int.ofNat u] ap.loc) from by rw[<-aX (i:=i) (by have:=ht.cS;omega)];exact hm);refine af<|az<|Wd 4 Z ?_;have ar:=ar.pop;refine aD ⟨j6-1,by omega,oF,u+1,es,ck,_,by omega,hm,by rw[am,cQ M];show rO i _ (u+1) (yu i m u ap)=_;unfold yu;rw[aE];rfl,cI<|aX (by have:=A.cS;omega),ar⟩
   refine aI<|az<|Wd 4 Z ?_;have ar:=ar.pop;refine aD ⟨j6-1,by omega,oF,u+1,es,ck,_,by omega,hm,by rw[am,cQ M];show rO i _ (u+1) (yu i m u ap)=_;unfold yu;rw[aE];rfl,cI<|aX (by have:=A.cS;omega),ar⟩
  refine UH 3 Z<|aN<|az<|Wd 4 Z<|aD ⟨j3-1,by omega,oF,i+1,es,ck,m,by omega,hm,by rw[aa,cQ W];show pI _ (i+1) (rO i I 0 m0)=_;rw[am,eU<|bK ao];rfl,cI<|aX (by have:=ht.cS;omega),ar⟩
 refine UH 3 Z<|aN<|UO ar 5 [3,1] Z Z<|J Z (W5 ho Z Z Z (e:=42) Z) Z<|vQ 1 Z ?_;have R:pI g.threads 0 []=m:=by rw[aa,eU<|bK ab];rfl
 generalize bl:m=m1 at hm R;clear bl;refine UI 3 Z (bk ([2,8,9,11,12,13]++rg 44 28) (fun j t O=>∃(i:Nat) (es:List eP) (ck:Nat) (m:LM),j+i=g.order.length/\fK 2 es m/\nC g.order 0 m1=nC (g.order.drop i) i m/\t.get 44=some (nI i)/\H O K ((b2,.map es ck)::(b1,.row [a,b,c,d] 52 false)::L)) (g.order.length) ⟨0,es,ck,m1,Z,hm,Z,Z,ar⟩ ?_);clear ar;intro bm t O ak X;obtain⟨i,es,ck,m,bD,hm,z,bc,ar⟩:=X;obtain⟨oo,rfl⟩:=ak.q1 bc Z;refine Vv 6 Z<|aG Z (fun a0=>?_) (fun a0=>?_)
 ·refine SF 7 Z ?_;obtain⟨N,B,bH⟩:=di a0;refine WV (e:=42) (m:=1) ho B Z Z Z Z (fun ce b0 bd b4 be=>?_);have hr47':=be;obtain⟨ch,rfl,Q⟩:=hr47';refine J Z (W7 ar bd Z Z) Z<|UK 7 Z<|J Z (W5 Q Z Z Z (e:=87) Z) Z<|vQ 1 Z ?_;generalize ac:m=m0 at hm z;clear ac;refine UI 3 Z (bk ([2,11,12,13]++rg 51 20) (fun j t O=>∃(u:Nat) (es:List eP) (ck:Nat) (m:LM),j+u=N.length/\fK 2 es m/\lD i N m0=lD i (N.drop u) m/\t.get 51=some (nI u)/\H O K ((b2,.map es ck)::(b1,.row [a,b,c,d] 52 false)::L)) (N.length) ⟨0,es,ck,m0,Z,hm,Z,Z,ar⟩ ?_);clear ar;intro bo t O ak X;obtain⟨u,es,ck,m,b5,hm,C,bf,ar⟩:=X;obtain⟨oo,rfl⟩:=ak.q1 bf Z;refine Vv 6 Z<|aG Z (fun a1=>?_) (fun a1=>?_)
  ·refine SF 6 Z ?_;obtain⟨S,E,b6⟩:=di a1;refine WV (e:=87) (m:=2) Q E Z Z Z Z (fun ci b7 bg b8 bi=>?_);obtain rfl:=bi;refine J Z (W8 ar bg Z Z) Z<|kb ar (W6 (cs:=[D,D])) (fun O b3 ar=>?_);refine ks ar (W9 Z Z Z ar.g0 Z) (fun O ar=>?_);refine TE 6 Z<|J Z (Xc Z ar.g0 Z) Z<|J Z (Oa rj hm ar.g1 (k:=[_,_]) Z Z Z) Z<|UK 10 Z<|J Z (dW Z) Z<|ky Z (an Z) (fun T=>?_) (fun T=>?_)
   ·refine VA 13 Z<|aH<|aP<|aH<|bX<|aP<|aP<|aH<|bX<|aP<|aH (?_);exact aA Z Z ⟨cB (by unfold fm;rw[show nC g.order 0 (pI g.threads 0 [])=none from by rw[R];exact OK z B C E<|yM T]),ar.pop.pop.pop⟩
   refine Vy 6 Z<|aG Z (fun a2=>?_) (fun a2=>?_)
   ·refine Wf 6 Z<|aH<|aP<|aH<|bX<|aP<|aP<|aH<|bX<|aP<|aH (?_);exact aA Z Z ⟨cB (by unfold fm;rw[show nC g.order 0 (pI g.threads 0 [])=none from by rw[R];exact OL z B C E (my T)<|cY a2]),ar.pop.pop.pop⟩
   refine aI<|We 2 Z<|J Z (Xc Z ar.g0 Z) Z<|JU rj hm ar (k:=[_,_]) Z Z Z Z Z Z Z Z Z (fun O es ar hm=>?_);refine af<|az<|Wd 4 Z ?_;have ar:=ar.pop;refine aD ⟨bo-1,by omega,oF,u+1,es,ck,_,by omega,hm,by rw[C,cQ E];show(bif (fW m S.ints).isSome then _ else none)=_;rw[show(fW m S.ints).isSome=true from my T];show(bif F ((fW m S.ints).getD 0) (Int.ofNat i) then _ else none)=_;rw[show F ((fW m S.ints).getD 0) (Int.ofNat i)=true from cD a2];rfl,cI<|aX (by have:=Q.cS;omega),ar⟩
  refine UH 3 Z<|aN<|az<|Wd 4 Z<|aD ⟨bm-1,by omega,oF,i+1,es,ck,m,by omega,hm,by rw[z,cQ B];show(lD i N m0).bind _=_;rw[C,eU<|bK a1];rfl,cI<|aX (by have:=ho.cS;omega),ar⟩
 refine UH 3 Z<|aN<|Vw 3 Z<|J Z (N9 rj hm ar.g0 Z Z Z Z) Z<|VA 5 Z ?_;exact aA Z Z ⟨cB (by unfold fm;rw[show nC g.order 0 (pI g.threads 0 [])=some m from by rw[R];exact by rw[z,eU<|bK a0];rfl]),ar.pop.pop⟩
theorem Ho (d:Plain G) {l:List cm} {v:V} (h:bO K 5 gG l v) (ar:H O K L):Ca G K L 265 [v] O <| .bool (dH 14 (.ofNat l.length)):=by
 refine V9 d Tryz.func265 Z<|Vw 8 Z<|J Z (W5 h Z Z Z (e:=38) Z) Z<|VA 5 Z ?_;exact aA Z Z ⟨Z,ar⟩
theorem Db (N:Plain G) {l:List (List cm)} {v:V} {p:List cm->Bool} (h:bO K 1 (RL K 5 gG) l v) (ar:H O K L)
  (A:∀x u O L,H O K L->RL K 5 gG x [u]->EC G 265 [u] O fun v O'=>v= .bool (p x)/\H O' K L):EC G 272 [v,.func 265 [] []] O fun v O'=>v= .int .i64 (eR p l 0)/\H O' K L:=by
 refine V9 N Tryz.func272 Z<|UE 9 Z<|J Z (W5 h Z Z Z (e:=25) Z) Z<|UI 4 Z ?_;obtain⟨LL1,ar,hLL1⟩:=ar.named;refine bk ([4,5]++rg 8 11) (fun j t O=>∃(i:Nat),j+i=l.length/\eR p l 0=eR p (l.drop i) i/\t.get 8=some (nI i)/\H O K LL1) (l.length) ⟨0,Z,Z,Z,ar⟩ ?_;clear ar;intro Q t O ak R;obtain⟨i,hj,he,I,ar⟩:=R;subst hLL1;obtain⟨oo,rfl⟩:=ak.q1 I Z;refine Vv 6 Z<|aG Z (fun M=>?_) (fun M=>?_)
 ·refine SF 15 Z ?_;obtain⟨B,d,aa⟩:=di M;refine WV (e:=25) (m:=1) h d Z Z Z Z (fun ao ab E ac z=>?_);have hr14':=z;obtain⟨ap,rfl,am⟩:=hr14';refine J Z (W7 ar E Z Z) Z<|kx (W2 Z Z Z) (A B _ _ _ ar z) (fun O ar=>?_);refine Vy 2 Z<|aG Z (fun C=>?_) (fun C=>?_)
  ·refine Wf 7 Z<|aP<|aH<|bX<|aP<|aH (?_);exact aA Z Z ⟨cJ (by symm;rw[he,cQ d];show(bif p B then _ else _)=_;rw[C];rfl),ar⟩
  refine aI<|az<|Wd 4 Z<|aD ⟨Q-1,by omega,oF,i+1,by omega,by rw[he,cQ d];show(bif p B then _ else _)=_;rw[C];rfl,cI<|aX (by have:=h.cS;omega),ar⟩
 refine UH 3 Z<|aN<|Wf 6 Z ?_;exact aA Z Z ⟨cJ (by symm;rw[he,eU<|bK M];rfl),ar⟩
theorem wE (d:Plain G) {l:List (List cm)} {v:V} (h:bO K 1 (RL K 5 gG) l v) (ar:H O K L):EC G 264 [v,.func 265 [] []] O fun v O'=>v= .bool (l.any fun x=>dH 14 (.ofNat x.length))/\H O' K L:=by
 refine V9 d Tryz.func264 Z (Vw 9 Z (kx (W2 Z Z Z) (Db d h ar (p:=fun x=>dH 14 (.ofNat x.length)) fun x u O L ar z=>by obtain⟨w,hw,hk⟩:=z;cases hw;exact Ho d hk ar) (fun O ar=>?_)));refine VA 5 Z ?_;exact aA Z Z ⟨cB<|Ei _ _,ar⟩
theorem Ky (A:Plain G) {a b c d:V} (h:dS K g a b c d) (ar:H O K L):Ca G K L 252 [.agg [a,b,c,d]] O <| .bool (fj g):=by
 have h':=h;obtain⟨hi,B,hf,ho⟩:=h';refine V9 A Tryz.func252 Z<|Vw 2 Z<|kb ar (cH Z Z) (fun O b1 ar=>?_);refine UQ ar 7 [1,0] Z Z<|J Z (W5 B Z Z Z (e:=25) Z) Z<|vQ 1 Z<|ky Z (an Z) (fun z=>?_) (fun z=>?_)
 ·refine VA 14 Z ?_;exact aA Z Z ⟨cB (by unfold fj;simp only[z,ct,cf]),ar.pop⟩
 refine Wk ar 2 [0,0] Z Z<|J Z (W5 hi Z Z Z (e:=2) Z) Z<|Wh 2 Z<|ky Z (an Z) (fun u=>?_) (fun u=>?_)
 ·refine VA 8 Z ?_;exact aA Z Z ⟨cB (by unfold fj;simp only[z,u,ct,cf]),ar.pop⟩
 refine Wk ar 2 [1,0] Z Z<|kx (W2 Z Z Z) (wE A B ar) (fun O ar=>?_);refine VA 5 Z ?_;exact aA Z Z ⟨cB (by unfold fj;simp only[z,u,ct,cf]),ar.pop⟩
theorem Ql (hG:Plain G) {a b c d:V} (h:dS K g a b c d) (ar:H O K L):Ca G K L 220 [.agg [a,b,c,d]] O <| .int .i64 (ec g):=by
 have h':=h;obtain⟨hi,ht,hf,ho⟩:=h';refine V9 hG Tryz.func220 Z<|Vw 2 Z<|kb ar (cH Z Z) (fun O b1 ar=>?_);refine TE 6 Z<|J Z (Xd Z ar.g0 Z) Z<|kx (W2 Z Z Z) (Ky hG h ar) (fun O ar=>?_);refine Vy 2 Z<|aG Z (fun h8=>?_) (fun h8=>?_)
 ·refine Vx 7 Z ?_;exact aA Z Z ⟨cJ (by symm;unfold ec;rw[h8];rfl),ar.pop⟩
 refine UF 3 Z<|VE ar 4 [2,0] Z Z<|J Z (W5 hf Z Z Z (e:=42) Z) Z<|Wk ar 2 [1,0] Z Z<|J Z (W5 ht Z Z Z (e:=25) Z) Z<|vQ 1 Z<|ky Z (an Z) (fun B=>?_) (fun B=>?_)
 ·refine UM 18 Z ?_;exact aA Z Z ⟨cJ (by symm;unfold ec;rw[h8,cY B];rfl),ar.pop⟩
 refine Wk ar 2 [3,0] Z Z<|J Z (W5 ho Z Z Z (e:=42) Z) Z<|Wk ar 2 [0,0] Z Z<|J Z (W5 hi Z Z Z (e:=2) Z) Z<|Vy 4 Z<|aG Z (fun I=>?_) (fun I=>?_)
 ·refine Vx 7 Z ?_;exact aA Z Z ⟨cJ (by symm;unfold ec;rw[h8,cD B,cY I];rfl),ar.pop⟩
 refine UF 3 Z<|VE ar 4 [1,0] Z Z<|J Z (W5 ht Z Z Z (e:=25) Z) Z<|UI 4 Z ?_;obtain⟨LL1,ar,hLL1⟩:=ar.named;refine bk (rg 2 5++rg 28 46) (fun j t O=>∃(i:Nat),j+i=g.threads.length/\lr g g.threads g.from_ 0=lr g (g.threads.drop i) (g.from_.drop i) i/\t.get 28=some (nI i)/\H O K LL1) (g.threads.length) ⟨0,Z,Z,Z,ar⟩ ?_;clear ar;intro j6 t O ak hI;obtain⟨i,b0,W,aE,ar⟩:=hI;subst hLL1;obtain⟨oo,rfl⟩:=ak.q1 aE Z;refine Vv 6 Z<|aG Z (fun aa=>?_) (fun aa=>?_)
 ·refine SF 7 Z ?_;obtain⟨u,C,a0⟩:=di aa;refine WV (e:=25) (m:=1) ht C Z Z Z Z (fun b3 bl a1 bm a2=>?_);have hr31':=a2;obtain⟨b4,rfl,R⟩:=hr31';refine J Z (W7 ar a1 Z Z) Z<|TF ar 10 [2,0] Z Z ?_;obtain⟨z,A⟩:=dc (show i<g.from_.length from by rw[ew<|cD B];exact a0);refine WV (e:=42) (m:=1) hf A Z Z Z Z (fun b5 bo a3 bp a4=>?_);have hr36':=a4;obtain⟨b6,rfl,a5⟩:=hr36';refine J Z (W7 ar a3 Z Z) Z<|J Z (W5 a5 Z Z Z (e:=87) Z) Z<|vQ 1 Z<|J Z (W5 R Z Z Z (e:=38) Z) Z<|Vy 3 Z<|aG Z (fun M=>?_) (fun M=>?_)
  ·refine Wf 6 Z<|aH<|aP<|aH<|bX<|aP<|aH (?_);exact aA Z Z ⟨cJ (by symm;unfold ec;rw[h8,cD B,cD I,show lr g g.threads g.from_ 0=false from by rw[W,cQ C,cQ A];show(bif F _ _ then _ else false)=false;rw[cY M];rfl];rfl),ar.pop⟩
  refine UG 5 Z<|J Z (W5 R Z Z Z (e:=38) Z) Z<|UI 4 Z ?_;obtain⟨LL2,ar,hLL2⟩:=ar.named;refine bk ([2,5,6]++rg 44 29) (fun j t O=>∃(N:Nat),j+N=u.length/\qH g i u z 0=qH g i (u.drop N) (z.drop N) N/\t.get 44=some (nI N)/\H O K LL2) (u.length) ⟨0,Z,Z,Z,ar⟩ ?_;clear ar;intro bi t O ak hI;obtain⟨N,bq,S,a9,ar⟩:=hI;subst hLL2;obtain⟨oo,rfl⟩:=ak.q1 a9 Z;refine Vv 6 Z<|aG Z (fun am=>?_) (fun am=>?_)
  ·refine SF 7 Z ?_;obtain⟨X,T,ac⟩:=di am;refine WV (e:=38) (m:=5) R T Z Z Z Z (fun b7 bs ba bt bb=>?_);obtain rfl:=bb;refine J Z (W8 ar ba Z Z) Z<|kb ar (W6 (cs:=[D,D,D,D,D])) (fun O b2 ar=>?_);refine vQ 1 Z<|ks ar (Xb Z Z Z ar.g0 Z) (fun O ar=>?_);refine UJ 3 Z<|aL (l:=zp [0,1,2,3,4,5,6,7,8,9,10,11,12,13,14,15,16,17,18,19,20,21,22]) U U<|ah Z Z (Xe Z ar.g0 Z) Z<|Wl ar 2 [0,1] Z Z<|ah Z Z (W5 hi Z Z Z (e:=2) Z) Z<|eL Z Z (W2 Z Z Z) (fun _=>Z) (Dd hG _ _ ar) (fun O ar=>?_);refine⟨aT,?_⟩;refine ah Z Z (dW Z) Z<|e8 Z Z (an Z) (fun _=>Z) (fun ab=>?_) (fun ab=>?_)
   ·refine VC 25 Z<|aP<|aH<|bX<|aP<|aP<|aH<|bX<|aP<|aH (?_);exact aA Z Z ⟨cJ (by symm;unfold ec;rw[h8,cD B,cD I,show lr g g.threads g.from_ 0=false from by rw[W,cQ C,cQ A];show(bif F _ _ then(bif qH g i u z 0 then _ else false) else false)=false;rw[cD M,show qH g i u z 0=false from by rw[S];obtain⟨Q,E⟩:=dc (show N<z.length from by rw[ew<|cD M];exact ac);rw[cQ T,cQ E];show(bif yP g i N X Q then _ else false)=false;rw[show yP g i N X Q=false from by unfold yP;rw[yM ab];rfl];rfl];rfl];rfl),ar.pop.pop⟩
   refine ah Z Z (Xd Z ar.g1 Z) Z (Wj 3 Z (ah Z Z (W1 (places:=[(0,1),(1,1)]) (zero:=[D,D]) (cs:=[_,_]) Z) Z<|Wl ar 3 [2,1] Z Z<|WW (e:=42) (m:=1) hf A Z Z Z Z Z (fun b8 bv bc bw bd=>?_)));have hr64':=bd;obtain⟨b9,rfl,be⟩:=hr64';refine ah Z Z (W7 ar bc Z Z) Z<|wQ 1 Z ?_;obtain⟨Q,E⟩:=dc (show N<z.length from by rw[ew<|cD M];exact ac);refine WW (e:=87) (m:=2) be E Z Z Z Z Z (fun ca bD bf bH bg=>?_);obtain rfl:=bg;refine ah Z Z (W8 ar bf Z Z) Z<|eL Z Z (W2 Z Z Z) (fun _=>Z) (Fs hG h _ _ _ _ ar) (fun O ar=>?_);refine⟨aT,?_⟩;refine ah Z Z (dW Z) Z<|VB 3 Z<|aG Z (fun ao=>?_) (fun ao=>?_)
   ·refine Wf 6 Z<|aP<|aH<|bX<|aP<|aP<|aH<|bX<|aP<|aH (?_);exact aA Z Z ⟨cJ (by symm;unfold ec;rw[h8,cD B,cD I,show lr g g.threads g.from_ 0=false from by rw[W,cQ C,cQ A];show(bif F _ _ then(bif qH g i u z 0 then _ else false) else false)=false;rw[cD M,show qH g i u z 0=false from by rw[S];rw[cQ T,cQ E];show(bif yP g i N X Q then _ else false)=false;rw[show yP g i N X Q=false from by unfold yP;rw[my ab,<-aX (i:=i) (by have:=ht.cS;omega)];exact yM ao];rfl];rfl];rfl),ar.pop.pop⟩
   refine aI<|az<|Wd 4 Z ?_;have ar:=ar.pop;refine aD ⟨bi-1,by omega,oF,N+1,by omega,by rw[S,cQ T,cQ E];show(bif yP g i N X Q then _ else false)=_;rw[show yP g i N X Q=true from by unfold yP;rw[my ab,<-aX (i:=i) (by have:=ht.cS;omega)];exact my ao];rfl,cI<|aX (by have:=R.cS;omega),ar⟩
  refine UH 3 Z<|aN<|az<|Wd 4 Z<|aD ⟨j6-1,by omega,oF,i+1,by omega,by rw[W,cQ C,cQ A];show(bif F _ _ then(bif qH g i u z 0 then _ else false) else false)=_;rw[cD M,show qH g i u z 0=true from by rw[S,eU<|bK am];rfl];rfl,cI<|aX (by have:=ht.cS;omega),ar⟩
 refine UH 3 Z<|aN<|UE 3 Z<|J Z (Xd Z ar.g0 Z) Z<|kx (W2 Z Z Z) (De hG h ar) (fun O ar=>?_);refine J Z (dW Z) Z<|Vy 2 Z<|aG Z (fun ap=>?_) (fun ap=>?_)
 ·refine Vx 7 Z ?_;exact aA Z Z ⟨cJ (by symm;unfold ec;rw[h8,cD B,cD I,show lr g g.threads g.from_ 0=true from by rw[W,eU<|bK aa];rfl,yM ap];rfl),ar.pop⟩
 refine Vx 8 Z ?_;exact aA Z Z ⟨cJ (by symm;unfold ec;rw[h8,cD B,cD I,show lr g g.threads g.from_ 0=true from by rw[W,eU<|bK aa];rfl,my ap];rfl),ar.pop⟩
end Go.Ev
namespace Go.Ev
variable [Env] {α:Type} {ts:Array TypeId} {cl:Call} {cells1:List V} {e e1:Nat} {so xo:Operand} {S X:V} {R:α->List V->Prop}
theorem zr:∀(l:List V) (off:Nat),dJ [] l off=l
 | [],_=>rfl
 | x::l,0=>rfl
 | x::l,off+1=>by
  show x::dJ [] l off=x::l;rw[zr l off]
def rN (P:Program) (e:TypeId) (m:Nat):Bool:=
 match P.info? e with
 | some j=>Nat.beq j.size m && (Nat.ble 1 j.size && (Nat.ble j.bytes 65536 && ((j.zero.bind qq).any fun z=>(cG z).any fun cs=>Nat.beq (dU cs) j.size)))
 | none=>false
theorem vC:∀(l r:List V),cM l=true->cM r=true->cM (l++r)=true
 | [],r,_,h=>h
 | v::l,r,h,h'=>by
  have h1:(bif eB v then cM l else false)=true:=h;cases hv:eB v with
  | false=>rw[hv] at h1;cases h1
  | true=>rw[hv] at h1;exact aj hv<|vC l r h1 h'
theorem v7 {m:Nat}:∀(n:Nat) (cells:List V),cells.length=n*m->(∀i,i<n->cM ((cells.drop (i*m)).take m)=true)->cM cells=true
 | 0,cells,h,_=>by
  rw[Nat.zero_mul] at h;rw[eN_ h];rfl
 | n+1,cells,h,hh=>by
  have e:cells=cells.take m++cells.drop m:=(List.take_append_drop m cells).symm;rw[Nat.succ_mul] at h;rw[e];refine vC _ _ (by have:=hh 0 oM;grind) (v7 (m:=m) n (cells.drop m) (by grind) fun i hi=>?_)
  grind [Nat.succ_mul,zl_]
section
variable {P:Program} {G:Cx} {O:aB} {K:KP} {L:Own}
theorem oB {m:Nat} {l:List α} {v:V} (ar:H O K L) (h:bO K m R l v) (d:∀x vs,R x vs->cM vs=true):
  ∃news,lN O m v=some (l.length,news)/\news.length=l.length*m/\cM news=true/\∀(i:Nat) (x:α),l[i]? =some x->R x ((news.drop (i*m)).take m):=by
 rcases h with ⟨rfl,rfl⟩ | ⟨b,off,c,cells,e,ro,rfl,h2,z,h4,h5,h6⟩
 ·exact⟨[],Z,(Nat.zero_mul m).symm,Z,fun i x hx=>by simp at hx⟩
 have u:∀(i:Nat) (x:α),l[i]? =some x->R x ((((cells.drop off).take (l.length*m)).drop (i*m)).take m):=fun i x hx=>by
  have hlt:i<l.length:=(gA.1 hx).1;have hle:(i+1)*m<=l.length*m:=nM_ _ hlt
  grind [List.drop_take,zl_]
 have hn:((cells.drop off).take (l.length*m)).length=l.length*m:=by grind
 refine⟨(cells.drop off).take (l.length*m),?_,hn,v7 l.length _ hn fun i hi=>d _ _ (u i l[i]<|gC hi),u⟩;unfold lN;dsimp only;rw[ar.cg z]
 grind [db,nE_,ej,eN]
theorem FB {m:Nat} {l2:List α} {b d:Nat} {c:rK} {t:TypeId} (I:H O K ((b,.row cells1 e1 false)::L)) (hx:bO K m R l2 X) (C:∀x vs,R x vs->cM vs=true) (hn:l2.length<=1048576)
  (E:cells1.length=d*m) (aa:d<=1048576) (M:c= .known d∨(c= .upto m/\e1=e)) (ht:ts[0]? =some t) (hu:P.underlying t=some (.slice e)) (N:rN P e m=true) (h2:ei P ts[1]? =true):
  ∃O' b' c' news e',gd P O ts (.slice b 0 d c) X= .val (.slice b' 0 (d+l2.length) c') O'/\H O' K ((b',.row (cells1++news) e' false)::L)/\news.length=l2.length*m/\(∀(i:Nat) (x:α),l2[i]? =some x->R x ((news.drop (i*m)).take m))/\(c'= .known (d+l2.length)∨(c'= .upto m/\e'=e)):=by
 obtain⟨news,s1,W,s3,T⟩:=oB I hx C;unfold rN at N;split at N
 ·rename_i j hj;simp only[bA_] at N;obtain⟨a1,a2,a3,a4⟩:=N;have hm:j.size=m:=nB a1;subst hm;have hz:((P.info? e).any fun j=>(j.zero.bind qq).any fun z=>(cG z).any fun cs=>Nat.beq (dU cs) j.size)=true:=by rw[hj];exact a4
  have hb:=I.get 0 Z;unfold gd;rw[ht];dsimp only;rw[hu];dsimp only;rw[hj];dsimp only;rw[h2,a2,a3];simp only[Bool.and_self,cond_true];rw[s1];dsimp only;rw[hj] at hz;rw[s3,show Nat.ble l2.length 1048576=true by simp_all,hz];simp only[Bool.and_self,cond_true];have hle:Nat.ble (0+d*j.size) (dU cells1)=true:=by rw[nE_,db,E];omega
  have A:takeN (eA cells1 0) (d*j.size)=cells1:=by grind [ej,eN]
  have B:Nat.ble d 1048576=true:=by simp_all
  rcases M with rfl | ⟨rfl,rfl⟩
  ·dsimp only
   by_cases h0:l2.length=0
   ·have u:news= []:=eN_ (by simp_all);subst u;rw[h0,show Nat.ble (d+0) d=true by simp_all];simp only[cond_true];rw[hb];dsimp only;rw[show Nat.ble (0+d*j.size+dU []) (dU cells1)=true by rw[nE_,db,db,E];simp];simp only[cond_true];refine⟨_,b,.known d,[],e1,Z,?_,by simp,T,.inl Z⟩;rw[zr,zk_];exact I.ui _
   have:Nat.ble (d+l2.length) d=false:=by
    grind [nE_]
   rw[this];simp only[cond_false];rw[hb];dsimp only;rw[hle,B,A,ep];simp only[Bool.and_self,cond_true];refine⟨_,_,_,news,e,Z,?_,W,T,.inr ⟨Z,Z⟩⟩;exact((I.alloc _).perm<|List.Perm.swap ..).pop
  dsimp only
  by_cases h0:l2.length=0
  ·have u:news= []:=eN_ (by simp_all);subst u;rw[h0];exact⟨_,b,.upto j.size,[],e1,Z,by simp_all,by simp,T,.inr ⟨Z,Z⟩⟩
  have:Nat.beq l2.length 0=false:=by
   grind [nB]
  rw[this,Nat.beq_refl,B];simp only[Bool.and_self,cond_true,cond_false];rw[hb];dsimp only
  have S:Nat.ble (0+d*j.size+dU news) (dU cells1)=false:=by
   cases hh:Nat.ble (0+d*j.size+dU news) (dU cells1) with
   | false=>rfl
   | true=>
    rw[nE_,db,db,E,W] at hh;have h1:1<=j.size:=by simp_all
    have:1<=l2.length*j.size:=Nat.mul_pos oM h1;omega
  rw[S,Bool.and_false];simp only[cond_false];rw[hle,Nat.beq_refl,A,ep];simp only[Bool.and_self,cond_true];exact⟨_,_,_,news,e1,Z,I.CK _,W,T,.inr ⟨Z,Z⟩⟩
 cases N
end
section
variable {P:Program} {G:Cx} {n:Nat} {t:PT V} {O:aB} {K:KP} {L:Own} {Q:Ex->PT V->aB->Prop} {ops:Array Oper} {o:Oper} {l:List Oper}
theorem kI {ev:Operand->Option V} {s x:V} {r:HR} (u:cl.callee= .builtin .append) (z:cl.args.toList= [so,xo]) (h1:ev so=some s) (A:ev xo=some x) (d:ei P cl.argTypes[1]? =true) (h:gd P O cl.argTypes s x=r):eo P G ev O (.call cl)=r:=by
 refine lQ (by simp[kindOf,u]) ?_
 have he:jv ev [so,xo]=some [s,x]:=by
  unfold jv dv;simp only[h1,A]
 simp only[gD,u,z,he,d,cond_true];exact h
theorem yO {m:Nat} {l2:List α} {b d:Nat} {u:List V} {c:rK} {ty:TypeId} {t':V->PT V} (W:H O K ((b,.row u e1 false)::L)) (hx:bO K m R l2 S) (z:∀x vs,R x vs->cM vs=true) (hn:l2.length<=1048576)
  (C:u.length=d*m) (E:d<=1048576) (B:c= .known d∨(c= .upto m/\e1=e)) (hw:bR ops t o=some true) (X:o.op= .call cl) (I:cl.callee= .builtin .append) (A:cl.args.toList= [so,xo]) (ht:cl.argTypes[0]? =some ty) (hu:P.underlying ty=some (.slice e)) (ha:rN P e m=true) (T:ei P cl.argTypes[1]? =true)
  (M:bI G t so=some (.slice b 0 d c)) (N:bI G t xo=some S) (hp:∀v,dE t n o.dst v=some (t' v))
  (h:∀(O':aB) (b':Nat) (c':rK) (news:List V) (e':Nat),H O' K ((b',.row (u++news) e' false)::L)->news.length=l2.length*m->(∀(i:Nat) (x:α),l2[i]? =some x->R x ((news.drop (i*m)).take m))->(c'= .known (d+l2.length)∨(c'= .upto m/\e'=e))->bZ P G ops n l (t' (.slice b' 0 (d+l2.length) c')) O' Q):bZ P G ops n (o::l) t O Q:=by
 obtain⟨O',b',c',news,e',k1,k2,k3,k4,k5⟩:=FB (P:=P) W hx z hn C E B ht hu ha T;refine J hw ?_ (hp _)<|h O' b' c' news e' k2 k3 k4 k5;rw[X];exact kI I A M N T k1
end
end Go.Ev
namespace Go.Ev
variable [Env] {α:Type} {kk:IntKind} {la:List α} {e:Nat} {xo:Operand} {R:α->List V->Prop}
section
variable {P:Program} {G:Cx} {n:Nat} {t:PT V} {O:aB} {K:KP} {L:Own} {Q:Ex->PT V->aB->Prop} {ops:Array Oper} {o:Oper} {l:List Oper}
theorem Hc {m k:Nat} {v:V} {ty:TypeId} {ev:Operand->Option V} {hi:Operand} (h:bO K m R la v) (hk:k<=la.length) (hu:P.underlying ty=some (.slice e)) (hj:(P.info? e).map (·.size)=some m) (hx:ev xo=some v) (hh:ev hi=some (.int kk (.ofNat k))):
  ∃w,jo P ev ty xo none (some hi) none=some w/\bO K m R (la.take k) w:=by
 cases hq:P.info? e with
 | none=>simp_all
 | some j=>
 rw[hq] at hj;have hj:j.size=m:=by simpa using hj
 subst hj;have hlen:(la.take k).length=k:=by simp_all
 have hb:∀y,k<=y->fG ev hi y=some k:=fun y hy=>by
  unfold fG;rw[hh]
  grind [nE_]
 rcases h with ⟨rfl,rfl⟩ | ⟨b,off,c,cells,e',ro,rfl,z,A,h4,h5,h6⟩
 ·have d:k=0:=by simpa using hk
  subst d;refine⟨.av,?_,.inl ⟨by simp,Z⟩⟩;unfold jo;rw[hu,hx];dsimp only;unfold dX
  simp_all
 have fin:∀c',QC j.size k c'->bO K j.size R (la.take k) (.slice b off k c'):=fun c' u=>by
  refine .inr ⟨b,off,c',cells,e',ro,by rw[hlen],by rw[hlen];exact u,A,?_,by rw[hlen];omega,fun i x aa=>?_⟩
  ·rw[hlen];have:k*j.size<=la.length*j.size:=nM_ _ hk;omega
  grind
 rcases z with rfl | ⟨cp,rfl,ab⟩
 ·refine⟨.slice b off k (.upto j.size),?_,fin _ (.inl Z)⟩;unfold jo;rw[hu,hx];dsimp only;unfold dX
  simp_all
 refine⟨.slice b off k (.known cp),?_,fin _ (.inr ⟨cp,Z,by omega⟩)⟩;unfold jo;rw[hu,hx];dsimp only;unfold cutAt dX;dsimp only;rw[hb _ oM];dsimp only;unfold cut
 simp_all
end
theorem iE {g:XG} (h:ec g=0):g.threads.length<=4/\g.init.length<=6/\(∀l∈g.threads,l.length<=14)/\g.from_.length=g.threads.length/\g.order.length=g.init.length/\lr g g.threads g.from_ 0=true/\fm g=true:=by
 unfold ec at h;cases h1:fj g with
 | true=>rw[h1] at h;cases h
 | false=>
  rw[h1] at h;simp only[cond_false] at h;cases d:F (.ofNat g.from_.length) (.ofNat g.threads.length) with
  | false=>rw[d] at h;cases h
  | true=>
   rw[d] at h;simp only[cond_true] at h;cases u:F (.ofNat g.order.length) (.ofNat g.init.length) with
   | false=>rw[u] at h;cases h
   | true=>
    rw[u] at h;simp only[cond_true] at h;cases z:lr g g.threads g.from_ 0 with
    | false=>rw[z] at h;cases h
    | true=>
     rw[z] at h;simp only[cond_true] at h;cases h5:fm g with
     | false=>rw[h5] at h;cases h
     | true=>
      unfold fj at h1;cases A:dH 4 (.ofNat g.threads.length) with
      | true=>simp_all
      | false=>
       rw[A] at h1;simp only[cond_false] at h1;cases B:dH 6 (.ofNat g.init.length) with
       | true=>simp_all
       | false=>
        rw[B] at h1;simp only[cond_false] at h1;refine⟨bK (a:=4) A,bK (a:=6) B,fun l hl=>?_,ew d,ew u,Z,Z⟩;have:=List.any_eq_false.1 h1 l hl;exact bK (a:=14) (by simpa using this)
end Go.Ev
namespace Go.Ev
variable [Env] {ix th:Int}
theorem Lm {a:Int} (h:F a 0=true):a=0:=by rw[cK] at h;simp_all
theorem Lp {g:XG} (h:(dV g ⟨th,ix⟩).isSome=true):∃t i:Nat,th= .ofNat t/\ix= .ofNat i/\t<=g.threads.length/\(t=0->i<g.init.length)/\∀m,t=m+1->∃l,g.threads[m]? =some l/\i<l.length:=by
 cases th with
 | negSucc t=>cases h
 | ofNat t=>cases ix with
  | negSucc i=>cases t<;>cases h
  | ofNat i=>
   refine⟨t,i,Z,Z,?_,?_,?_⟩
   ·cases t with
    | zero=>exact Nat.zero_le _
    | succ t=>
     have h:((g.threads[t]?).bind (·[i]?)).isSome=true:=h
     grind
   ·rintro rfl;have h:((g.init[i]?).map fun v=>(⟨2,i,1,0,v⟩:cm)).isSome=true:=h
    simp_all
   rintro m rfl;have h:((g.threads[m]?).bind (·[i]?)).isSome=true:=h
   grind
end Go.Ev
namespace Go.Ev
variable [Env]
variable {α:Type} {parts:Array (Nat×Operand)} {cs:List V} {e:Nat} {M:Own} {u:V} {c:α->α->Int}
section
variable {O:aB} {K K':KP} {L:Own}
theorem H.weaken (h:H O K' L) (hk:KP.le K K'):H O K L where
 kept b o hb:=h.kept b o (hk b o hb)
 own:=h.own
 ne:=h.ne
def KP.iO (K:KP) (M:Own):KP:=fun b o=>K b o∨(b,o)∈M
theorem KP.ey (K:KP) (M:Own):KP.le K (K.iO M):=fun _ _ h=>.inl h
theorem KP.da (k:Nat) {b:Nat} {o:cN} (h:M[k]? =some (b,o)):K.iO M b o:=.inr (gB_ h)
theorem H.keeps {M:Own} (h:H O K (M++L)):H O (K.iO M) L where
 kept b o hb:=by
  rcases hb with hb | hb
  ·exact h.bG.kept b o hb
  obtain⟨h1,d⟩:=h.own _ (List.mem_append_left _ hb);exact⟨h1,d,fun e he hh=>(List.pairwise_append.1 h.ne).2.2 _ hb e he hh.symm⟩
 own e he:=h.own e (List.mem_append_right _ he)
 ne:=(List.pairwise_append.1 h.ne).2.1
theorem gB {b:Nat} {ro:Bool} {cells:List V} (h:K b (.row cells e ro)):fc K (.ptr b 0) cells:=⟨b,0,cells,e,ro,Z,h,by omega,by simp⟩
end
section
variable {P:Program} {G:Cx} {K K':KP}
def wA (P:Program) (G:Cx) (K:KP) (n:Int) (vs:List V):Prop:=
 ∃(f:Nat) (ca:List V),vs= [.func f [] ca]/\lI P f=true/\∀(O:aB) (L:Own),H O K L->bh P G f ca O fun v O'=>v= .int .i64 n/\H O' K L
def fM (P:Program) (G:Cx) (K:KP) (l:List Int) (cells:List V):Prop:=l.length=cells.length/\∀(i:Nat) (x:Int),l[i]? =some x->∃c,cells[i]? =some c/\wA P G K x [c]
theorem fM.nil:fM P G K [] []:=⟨Z,fun i x h=>by simp at h⟩
theorem fM.cons {x:Int} {l:List Int} {c:V} {cells:List V} (h:wA P G K x [c]) (d:fM P G K l cells):fM P G K (x::l) (c::cells):=by
 refine⟨by simp[d.1],fun i y hy=>?_⟩;cases i with
 | zero=>simp_all
 | succ i=>exact d.2 i y (by simpa using hy)
theorem fM.slice {l:List Int} {cells:List V} (h:fM P G K l cells) {b e n c:Nat} (hk:K b (.row cells e false)) (hn:l.length=n) (d:n<=c) (hl:n<=9223372036854775807):bO K 1 (wA P G K) l (.slice b 0 n (.known c)):=by
 subst hn;refine .inr ⟨b,0,_,cells,e,false,Z,.inr ⟨_,Z,d⟩,hk,by rw[h.1];omega,hl,fun i x hx=>?_⟩;obtain⟨c,d,u⟩:=h.2 i x hx
 have:(cells.drop (0+i*1)).take 1= [c]:=by
  obtain⟨hlt,rfl⟩:=gA.1 d
  grind [zj_]
 rw[this];exact u
theorem oN {f:Nat} {args:List V} {O:aB} {L:Own} (h:bh P G f args O fun v O'=>v=u/\H O' (K.iO M) L):bh P G f args O fun v O'=>v=u/\H O' K L:=
 h.mono fun _ _ ⟨a,b⟩=>⟨a,b.weaken<|K.ey M⟩
theorem bN {ev:Operand->Option V} {O:aB} {t e:TypeId} {len m:Nat} {z:List V} (u:P.underlying t=some (.slice e)) (hj:(P.info? e).map (·.size)=some m) (hz:(fJ P e).bind cG=some z)
  (hb:(Nat.beq (dU z) m && Nat.ble (len*m) 16777216 && Nat.ble 1 m)=true) (hf:jK (fun i=>some (i*m,m)) ev parts.toList (e9 z len)=some cs):eo P G ev O (.buildSlice t len parts)= .val (.slice O.next 0 len (.known len)) (O.alloc (.row cs e false)):=by
 refine uD (mk:=.slice len len) Z ?_;obtain⟨j,d,rfl⟩:=oM_.1 hj;simp only[fP,u,d,hz,hb,cond_true,hf]
end
section
variable {P:Program} {G:Cx} {n:Nat} {t:PT V} {O:aB} {K:KP} {L:Own} {Q:Ex->PT V->aB->Prop} {ops:Array Oper} {o:Oper} {l:List Oper} {ix:Nat} {lp:List (Nat×List Nat)}
end
theorem cW (k:IntKind) (n:Int):dQ (.int k n) (.int k n)=true:=by
 unfold Go.Ev.dQ;exact fe k n
theorem bO.dQ {α:Type} {K:KP} {m:Nat} {R:α->List V->Prop} {l:List α} {v:V} (h:bO K m R l v):Go.Ev.dQ v v=true:=by
 have hb:=h.iK;rcases h with ⟨_,rfl⟩ | ⟨b,off,c,cells,e,ro,rfl,hc,_⟩<;>exact hb
def fu (x y:Int):Int:=bif dH x y then-1 else bif dH y x then 1 else 0
def Dp:List Int->Int
 | []=>0
 | x::l=>bif F x 0 then Dp l else x
def eD {α:Type} (c:α->α->Int):List α->List α->Int
 | [],[]=>0
 | [],_::_=>-1
 | _::_,[]=>1
 | x::l,y::m=>bif F (c x y) 0 then eD c l m else c x y
theorem QP (n:Int):(bif F n n then false else true)=false:=by rw[cK];simp
theorem nY:∀{l m:List α} {i:Nat} {x:α},l[i]? =some x->m.length<=i->eD c (l.drop i) (m.drop i)=1:=by
 intro l m i x h hm;rw[cQ h,eU hm];rfl
theorem nX {l m:List α} {i:Nat} (h:l.length<=i) (hm:i<=l.length) (hl:l.length<m.length):eD c (l.drop i) (m.drop i)= -1:=by
 obtain⟨y,hy⟩:=dc (show i<m.length by omega);rw[eU h,cQ hy];rfl
theorem pS {l m:List α} {i:Nat} (h:l.length<=i) (hl:m.length<=l.length):eD c (l.drop i) (m.drop i)=0:=by
 rw[eU h,eU oM];rfl
theorem nZ {l m:List α} {i:Nat} {x y:α} (hx:l[i]? =some x) (hy:m[i]? =some y) (h:F (c x y) 0=true):eD c (l.drop i) (m.drop i)=eD c (l.drop (i+1)) (m.drop (i+1)):=by
 rw[cQ hx,cQ hy];show(bif F (c x y) 0 then _ else _)=_;rw[h];rfl
theorem n9 {l m:List α} {i:Nat} {x y:α} (hx:l[i]? =some x) (hy:m[i]? =some y) (h:F (c x y) 0=false):eD c (l.drop i) (m.drop i)=c x y:=by
 rw[cQ hx,cQ hy];show(bif F (c x y) 0 then _ else _)=_;rw[h];rfl
def jd {α:Type} (a b:List α):Int:=fu (.ofNat a.length) (.ofNat b.length)
def pR (a b:bS):Int:=Dp [fu a.bH b.bH,fu a.index b.index]
def pB (a b:cm):Int:=Dp [fu a.kind b.kind,fu a.loc b.loc,fu a.order b.order,fu a.read b.read,fu a.write b.write]
def jc (a b:List bS):Int:=Dp [jd a b,eD pR a b]
def ik (a b:XG):Int:=Dp [jd a.threads b.threads,eD jd a.threads b.threads,eD (eD pB) a.threads b.threads,jd a.from_ b.from_,eD jc a.from_ b.from_,jd a.order b.order,eD jc a.order b.order,jd a.init b.init,eD fu a.init b.init]
variable {G:Cx} {K:KP} {O:aB} {L:Own} {g:XG} {e1 e2:Nat}
theorem RL.mono {α:Type} {K K':KP} (hk:KP.le K K') {m:Nat} {R:α->List V->Prop} {l:List α} {vs:List V} (h:RL K m R l vs):RL K' m R l vs:=let ⟨v,h1,d⟩:=h;⟨v,h1,d.mono hk fun _ _ h=>h⟩
theorem dS.mono {K K':KP} (hk:KP.le K K') {a b c d:V} (h:dS K g a b c d):dS K' g a b c d:=
 ⟨h.init.mono hk fun _ _ h=>h,h.threads.mono hk fun _ _ h=>h.mono hk,h.from_.mono hk fun _ _ h=>h.mono hk,h.order.mono hk fun _ _ h=>h.mono hk⟩
theorem wv (d:Plain G) (x:Int) (ar:H O K L):Ca G K L 127 [.int .i64 x] O <| .bool false:=by
 refine V9 d Tryz.func127 Z<|Wf 14 Z ?_;exact aA Z Z ⟨cB<|QP x,ar⟩
theorem Bp (z:Plain G) (x y:Int) (ar:H O K L):Ca G K L 97 [.int .i64 x,.int .i64 y] O <| .int .i64 (fu x y):=by
 refine V9 z Tryz.func97 Z<|Vw 8 Z<|kx (W2 Z Z Z) (wv z _ ar) (fun O ar=>?_);refine UK 6 Z<|kx (W2 Z Z Z) (wv z _ ar) (fun O ar=>?_);refine UJ 29 Z<|aG Z (fun d=>?_) (fun d=>?_)
 ·refine Vx 7 Z ?_;exact aA Z Z ⟨cJ (by unfold fu;rw[d];rfl),ar⟩
 refine UF 10 Z<|aG Z (fun u=>?_) (fun u=>?_)
 ·refine Vx 7 Z ?_;exact aA Z Z ⟨cJ (by unfold fu;rw[d,u];rfl),ar⟩
 refine Vx 8 Z ?_;exact aA Z Z ⟨cJ (by unfold fu;rw[d,u];rfl),ar⟩
theorem Kw (z:Plain G) {x y:Int} {p q:V} (d:fc K p [.int .i64 x]) (u:fc K q [.int .i64 y]) (ar:H O K L):Ca G K L 96 [p,q] O <| .int .i64 (fu x y):=by
 refine V9 z Tryz.func96 Z<|Vw 7 Z<|J Z (W7 ar d Z Z) Z<|J Z (W7 ar u Z Z) Z<|kx (W2 Z Z Z) (Bp z _ _ ar) (fun O ar=>?_);refine VA 4 Z ?_;exact aA Z Z ⟨Z,ar⟩
theorem sk (z:Plain G) {x y:Int} {d u:Nat} (h1:K d (.row [.int .i64 x] e1 false)) (A:K u (.row [.int .i64 y] e2 false)):wA Tryz.prog G K (fu x y) [.func 96 [] [.ptr d 0,.ptr u 0]]:=⟨96,_,Z,by kernel_rfl,fun O L ar=>Kw z (gB h1) (gB A) ar⟩
theorem iW (z:Plain G) (x y:Int) (ar:H O K L):EC G 45 [.int .i64 x,.int .i64 y] O fun v O'=>∃d u,v= .func 96 [] [.ptr d 0,.ptr u 0]/\H O' K ((u,.row [.int .i64 y] 3 false)::(d,.row [.int .i64 x] 3 false)::L):=by
 refine V9 z Tryz.func45 Z<|Vw 2 Z<|kb ar (cH Z Z) (fun O d ar=>?_);refine kb ar (cH Z Z) (fun O u ar=>?_);refine VA 10 Z ?_;exact aA Z Z ⟨_,_,Z,ar⟩
theorem sv (d:Plain G) (x:Int) (ar:H O K L):Ca G K L 129 [.int .i64 x] O <| .bool false:=by
 refine V9 d Tryz.func129 Z<|Wf 14 Z ?_;exact aA Z Z ⟨cB<|QP x,ar⟩
theorem wu (z:Plain G) (x y:Int) (ar:H O K L):Ca G K L 103 [.int .i64 x,.int .i64 y] O <| .int .i64 (fu x y):=by
 refine V9 z Tryz.func103 Z<|Vw 8 Z<|kx (W2 Z Z Z) (sv z _ ar) (fun O ar=>?_);refine UK 6 Z<|kx (W2 Z Z Z) (sv z _ ar) (fun O ar=>?_);refine UJ 29 Z<|aG Z (fun d=>?_) (fun d=>?_)
 ·refine Vx 7 Z ?_;exact aA Z Z ⟨cJ (by unfold fu;rw[d];rfl),ar⟩
 refine UF 10 Z<|aG Z (fun u=>?_) (fun u=>?_)
 ·refine Vx 7 Z ?_;exact aA Z Z ⟨cJ (by unfold fu;rw[d,u];rfl),ar⟩
 refine Vx 8 Z ?_;exact aA Z Z ⟨cJ (by unfold fu;rw[d,u];rfl),ar⟩
theorem Fq (z:Plain G) {x y:Int} {p q:V} (d:fc K p [.int .i64 x]) (u:fc K q [.int .i64 y]) (ar:H O K L):Ca G K L 159 [p,q] O <| .int .i64 (fu x y):=by
 refine V9 z Tryz.func159 Z<|Vw 7 Z<|J Z (W7 ar d Z Z) Z<|J Z (W7 ar u Z Z) Z<|kx (W2 Z Z Z) (wu z _ _ ar) (fun O ar=>?_);refine VA 4 Z ?_;exact aA Z Z ⟨Z,ar⟩
theorem Nn (z:Plain G) {x y:Int} {d u:Nat} (h1:K d (.row [.int .i64 x] e1 false)) (A:K u (.row [.int .i64 y] e2 false)):wA Tryz.prog G K (fu x y) [.func 159 [] [.ptr d 0,.ptr u 0]]:=⟨159,_,Z,by kernel_rfl,fun O L ar=>Fq z (gB h1) (gB A) ar⟩
theorem zB (z:Plain G) (x y:Int) (ar:H O K L):EC G 128 [.int .i64 x,.int .i64 y] O fun v O'=>∃d u,v= .func 159 [] [.ptr d 0,.ptr u 0]/\H O' K ((u,.row [.int .i64 y] 2 false)::(d,.row [.int .i64 x] 2 false)::L):=by
 refine V9 z Tryz.func128 Z<|Vw 2 Z<|kb ar (cH Z Z) (fun O d ar=>?_);refine kb ar (cH Z Z) (fun O u ar=>?_);refine VA 10 Z ?_;exact aA Z Z ⟨_,_,Z,ar⟩
theorem rI (Q:Plain G) {l:List Int} {v:V} (ar:H O K L) (h:bO K 1 (wA Tryz.prog G K) l v):Ca G K L 44 [v] O <| .int .i64 (Dp l):=by
 refine V9 Q Tryz.func44 Z<|UE 9 Z<|J Z (W5 h Z Z Z (e:=101) Z) Z<|UI 4 Z ?_;obtain⟨LL1,ar,hLL1⟩:=ar.named;refine bk ([2,4,5]++rg 8 10) (fun j t O=>∃(i:Nat),j+i=l.length/\Dp l=Dp (l.drop i)/\t.get 8=some (nI i)/\H O K LL1) (l.length) ⟨0,Z,Z,Z,ar⟩ ?_;clear ar;intro R t O ak S;obtain⟨i,ao,z,M,ar⟩:=S;subst hLL1;obtain⟨oo,rfl⟩:=ak.q1 M Z;refine Vv 6 Z<|aG Z (fun N=>?_) (fun N=>?_)
 ·refine SF 6 Z ?_;obtain⟨C,d,aa⟩:=di N;refine WV (e:=101) (m:=1) h d Z Z Z Z (fun ap ab E ac I=>?_);obtain⟨aE,am,rfl,A,u⟩:=I;refine J Z (W7 ar E Z Z) Z<|UK 6 Z<|bJ Z (aS Z Z Z A) (fun _=>Z) (u _ _ ar) (fun O ar=>?_);refine Vy 9 Z<|aG Z (fun B=>?_) (fun B=>?_)
  ·refine Wf 7 Z<|aP<|aH<|bX<|aP<|aH (?_);exact aA Z Z ⟨cJ (by symm;rw[z,cQ d];show(bif F C 0 then _ else _)=_;rw[cY B];rfl),ar⟩
  refine aI<|az<|Wd 4 Z<|aD ⟨R-1,by omega,oF,i+1,by omega,by rw[z,cQ d];show(bif F C 0 then _ else _)=_;rw[cD B];rfl,cI<|aX (by have:=h.cS;omega),ar⟩
 refine UH 3 Z<|aN<|Wf 6 Z ?_;exact aA Z Z ⟨cJ (by symm;rw[z,eU<|bK N];rfl),ar⟩
theorem zA (d:Plain G) (x y:cm) (ar:H O K L):Ca G K L 99 [.agg [.int .i64 x.kind,.int .i64 x.loc,.int .i64 x.order,.int .i64 x.read,.int .i64 x.write],.agg [.int .i64 y.kind,.int .i64 y.loc,.int .i64 y.order,.int .i64 y.read,.int .i64 y.write]] O <| .int .i64 (pB x y):=by
 refine V9 d Tryz.func99 Z<|Vw 2 Z<|kb ar (cH Z Z) (fun O b1 ar=>?_);refine kb ar (cH Z Z) (fun O b2 ar=>?_);refine UJ 4 Z (aL (l:=[(0,[]),(1,[]),(2,[]),(3,[]),(5,[]),(6,[]),(7,[]),(8,[]),(10,[]),(11,[]),(12,[]),(13,[]),(15,[]),(16,[]),(17,[]),(18,[]),(20,[]),(21,[]),(22,[]),(23,[]),(4,[6,8,11,13,16,18,21,23]),(9,[11,13,16,18,21,23]),(14,[16,18,21,23]),(19,[21,23]),(24,[]),(25,[]),(26,[]),(27,[])]) U U<|Wl ar 20 [0,1,0,0,1,1,1,0,2,1,2,0,3,1,3,0,4,1,4,0] Z Z<|ed Z Z (W2 Z Z Z) (fun _=>Z) (iW d _ _ ar) ?_);rintro _ O ⟨C,E,rfl,ar⟩;refine⟨(bj (bx Z Z Z Z Z (W4 Z (ar.get 3 Z) Z)<|cW _ _)<|bj (bx Z Z Z Z Z (W4 Z (ar.get 2 Z) Z)<|cW _ _)<|bj (bx Z Z Z Z Z (W4 Z (ar.get 3 Z) Z)<|cW _ _)<|bj (bx Z Z Z Z Z (W4 Z (ar.get 2 Z) Z)<|cW _ _)<|bj (bx Z Z Z Z Z (W4 Z (ar.get 3 Z) Z)<|cW _ _)<|bj (bx Z Z Z Z Z (W4 Z (ar.get 2 Z) Z)<|cW _ _)<|bj (bx Z Z Z Z Z (W4 Z (ar.get 3 Z) Z)<|cW _ _)<|bj (bx Z Z Z Z Z (W4 Z (ar.get 2 Z) Z)<|cW _ _) aT),?_⟩;refine ed Z Z (W2 Z Z Z) (fun _=>Z) (iW d _ _ ar) ?_;rintro _ O ⟨I,N,rfl,ar⟩;refine⟨(bj (bx Z Z Z Z Z (W4 Z (ar.get 5 Z) Z)<|cW _ _)<|bj (bx Z Z Z Z Z (W4 Z (ar.get 4 Z) Z)<|cW _ _)<|bj (bx Z Z Z Z Z (W4 Z (ar.get 5 Z) Z)<|cW _ _)<|bj (bx Z Z Z Z Z (W4 Z (ar.get 4 Z) Z)<|cW _ _)<|bj (bx Z Z Z Z Z (W4 Z (ar.get 5 Z) Z)<|cW _ _)<|bj (bx Z Z Z Z Z (W4 Z (ar.get 4 Z) Z)<|cW _ _) aT),?_⟩;refine ed Z Z (W2 Z Z Z) (fun _=>Z) (iW d _ _ ar) ?_;rintro _ O ⟨Q,R,rfl,ar⟩;refine⟨(bj (bx Z Z Z Z Z (W4 Z (ar.get 7 Z) Z)<|cW _ _)<|bj (bx Z Z Z Z Z (W4 Z (ar.get 6 Z) Z)<|cW _ _)<|bj (bx Z Z Z Z Z (W4 Z (ar.get 7 Z) Z)<|cW _ _)<|bj (bx Z Z Z Z Z (W4 Z (ar.get 6 Z) Z)<|cW _ _) aT),?_⟩;refine ed Z Z (W2 Z Z Z) (fun _=>Z) (zB d _ _ ar) ?_;rintro _ O ⟨S,u,rfl,ar⟩;refine⟨(bj (bx Z Z Z Z Z (W4 Z (ar.get 9 Z) Z)<|cW _ _)<|bj (bx Z Z Z Z Z (W4 Z (ar.get 8 Z) Z)<|cW _ _) aT),?_⟩;refine ed Z Z (W2 Z Z Z) (fun _=>Z) (zB d _ _ ar) ?_;rintro _ O ⟨A,B,rfl,ar⟩;refine⟨aT,?_⟩;refine gx ar Z Z (bN (e:=101) (m:=1) (z:=[.nilFunc]) (cs:=[.func 96 [] [.ptr C 0,.ptr E 0],.func 96 [] [.ptr I 0,.ptr N 0],.func 96 [] [.ptr Q 0,.ptr R 0],.func 159 [] [.ptr S 0,.ptr u 0],.func 159 [] [.ptr A 0,.ptr B 0]]) U U U U (by rfl)) (fun _=>Z) (fun O aa ar=>?_);have hq:=ar.keeps (M:=[_,_,_,_,_,_,_,_,_,_,_,_,_])
 refine eL Z Z (W2 Z Z Z) (fun _=>Z) (oN<|rI d hq<|fM.slice (fM.cons (sk d (KP.da 10 Z)<|KP.da 9 Z)<|fM.cons (sk d (KP.da 8 Z)<|KP.da 7 Z)<|fM.cons (sk d (KP.da 6 Z)<|KP.da 5 Z)<|fM.cons (Nn d (KP.da 4 Z)<|KP.da 3 Z)<|fM.cons (Nn d (KP.da 2 Z)<|KP.da 1 Z) fM.nil) (KP.da 0 Z) Z (nR_ _) (by decide)) (fun O ar=>?_);clear hq;refine⟨aT,?_⟩;refine VC 4 Z ?_;exact aA Z Z ⟨Z,ar⟩
theorem Fp (d:Plain G) (x y:bS) (ar:H O K L):Ca G K L 102 [.agg [.int .i64 x.bH,.int .i64 x.index],.agg [.int .i64 y.bH,.int .i64 y.index]] O <| .int .i64 (pR x y):=by
 refine V9 d Tryz.func102 Z<|Vw 2 Z<|kb ar (cH Z Z) (fun O b1 ar=>?_);refine kb ar (cH Z Z) (fun O b2 ar=>?_);refine UJ 4 Z (aL (l:=[(0,[]),(1,[]),(2,[]),(3,[]),(5,[]),(6,[]),(7,[]),(8,[]),(4,[6,8]),(9,[]),(10,[]),(11,[]),(12,[])]) U U<|Wl ar 8 [0,1,0,0,1,1,1,0] Z Z<|ed Z Z (W2 Z Z Z) (fun _=>Z) (iW d _ _ ar) ?_);rintro _ O ⟨u,A,rfl,ar⟩;refine⟨(bj (bx Z Z Z Z Z (W4 Z (ar.get 3 Z) Z)<|cW _ _)<|bj (bx Z Z Z Z Z (W4 Z (ar.get 2 Z) Z)<|cW _ _) aT),?_⟩;refine ed Z Z (W2 Z Z Z) (fun _=>Z) (iW d _ _ ar) ?_;rintro _ O ⟨B,C,rfl,ar⟩;refine⟨aT,?_⟩;refine gx ar Z Z (bN (e:=101) (m:=1) (z:=[.nilFunc]) (cs:=[.func 96 [] [.ptr u 0,.ptr A 0],.func 96 [] [.ptr B 0,.ptr C 0]]) U U U U (by rfl)) (fun _=>Z) (fun O b7 ar=>?_);have hq:=ar.keeps (M:=[_,_,_,_,_,_,_]);refine eL Z Z (W2 Z Z Z) (fun _=>Z) (oN<|rI d hq<|fM.slice (fM.cons (sk d (KP.da 4 Z)<|KP.da 3 Z)<|fM.cons (sk d (KP.da 2 Z)<|KP.da 1 Z) fM.nil) (KP.da 0 Z) Z (nR_ _) (by decide)) (fun O ar=>?_);clear hq;refine⟨aT,?_⟩;refine VC 4 Z ?_;exact aA Z Z ⟨Z,ar⟩
variable {z:Nat} {C X v1 v2:V}
theorem Q4 (hG:Plain G) {g:Nat} {c:List cm->List cm->Int} (aa:lI Tryz.prog g=true) {l1 l2:List (List cm)} (ar:H O K L) (h1:bO K 1 (RL K 5 gG) l1 v1) (h2:bO K 1 (RL K 5 gG) l2 v2)
  (C:∀x y u w O L,H O K L->bO K 5 gG x u->bO K 5 gG y w->EC G g [u,w] O fun v O'=>v= .int .i64 (c x y)/\H O' K L):
  EC G 47 [v1,v2,.func g [] []] O fun v O'=>v= .int .i64 (eD c l1 l2)/\H O' K L:=by
 refine V9 hG Tryz.func47 Z<|UE 9 Z<|J Z (W5 h1 Z Z Z (e:=25) Z) Z<|UI 4 Z ?_;obtain⟨LL1,ar,hLL1⟩:=ar.named;refine bk (rg 6 5++rg 13 21) (fun j t O=>∃(i:Nat),j+i=l1.length/\eD c l1 l2=eD c (l1.drop i) (l2.drop i)/\t.get 13=some (nI i)/\H O K LL1) (l1.length) ⟨0,Z,Z,Z,ar⟩ ?_;clear ar;intro j2 t O ak hI;obtain⟨i,aE,z,N,ar⟩:=hI;subst hLL1;obtain⟨oo,rfl⟩:=ak.q1 N Z;refine Vv 6 Z<|aG Z (fun B=>?_) (fun B=>?_)
 ·refine SF 7 Z ?_;obtain⟨a0,d,ab⟩:=di B;refine WV (e:=25) (m:=1) h1 d Z Z Z Z (fun a1 ac Q am R=>?_);have hr16':=R;obtain⟨a2,rfl,S⟩:=hr16';refine J Z (W7 ar Q Z Z) Z<|TE 9 Z<|J Z (W5 h2 Z Z Z (e:=25) Z) Z<|Vy 3 Z<|aG Z (fun E=>?_) (fun E=>?_)
  ·refine Wf 6 Z<|aH<|aP<|aH<|bX<|aP<|aH (?_);exact aA Z Z ⟨cJ (by symm;rw[z];exact nY d<|iQ E),ar⟩
  refine UG 6 Z ?_;obtain⟨a3,A⟩:=dc (iS E);refine WV (e:=25) (m:=1) h2 A Z Z Z Z (fun a4 ao T ap W=>?_);have hr24':=W;obtain⟨a5,rfl,X⟩:=hr24';refine J Z (W7 ar T Z Z) Z<|UK 8 Z<|bJ Z (aS Z Z Z aa) (fun _=>Z) (C _ _ _ _ _ _ ar S X) (fun O ar=>?_);refine Vy 9 Z<|aG Z (fun I=>?_) (fun I=>?_)
  ·refine Wf 7 Z<|aP<|aH<|bX<|aP<|aH (?_);exact aA Z Z ⟨cJ (by symm;rw[z];exact n9 d A<|cY I),ar⟩
  refine aI<|az<|Wd 4 Z<|aD ⟨j2-1,by omega,oF,i+1,by omega,z.trans<|nZ d A<|cD I,cI<|aX (by have:=h1.cS;omega),ar⟩
 refine UH 3 Z<|aN<|UE 4 Z<|J Z (W5 h1 Z Z Z (e:=25) Z) Z<|vQ 1 Z<|J Z (W5 h2 Z Z Z (e:=25) Z) Z<|Vy 3 Z<|aG Z (fun M=>?_) (fun M=>?_)
 ·refine Vx 7 Z ?_;exact aA Z Z ⟨cJ (by symm;rw[z];exact nX (bK B) oM<|aM M),ar⟩
 refine Vx 8 Z ?_;exact aA Z Z ⟨cJ (by symm;rw[z];exact pS (bK B)<|bK M),ar⟩
theorem Q5 (hG:Plain G) {g:Nat} {c:List bS->List bS->Int} (aa:lI Tryz.prog g=true) {l1 l2:List (List bS)} (ar:H O K L) (h1:bO K 1 (RL K 2 dK) l1 v1) (h2:bO K 1 (RL K 2 dK) l2 v2)
  (C:∀x y u w O L,H O K L->bO K 2 dK x u->bO K 2 dK y w->EC G g [u,w] O fun v O'=>v= .int .i64 (c x y)/\H O' K L):
  EC G 52 [v1,v2,.func g [] []] O fun v O'=>v= .int .i64 (eD c l1 l2)/\H O' K L:=by
 refine V9 hG Tryz.func52 Z<|UE 9 Z<|J Z (W5 h1 Z Z Z (e:=42) Z) Z<|UI 4 Z ?_;obtain⟨LL1,ar,hLL1⟩:=ar.named;refine bk (rg 6 5++rg 13 21) (fun j t O=>∃(i:Nat),j+i=l1.length/\eD c l1 l2=eD c (l1.drop i) (l2.drop i)/\t.get 13=some (nI i)/\H O K LL1) (l1.length) ⟨0,Z,Z,Z,ar⟩ ?_;clear ar;intro j2 t O ak hI;obtain⟨i,aE,z,N,ar⟩:=hI;subst hLL1;obtain⟨oo,rfl⟩:=ak.q1 N Z;refine Vv 6 Z<|aG Z (fun B=>?_) (fun B=>?_)
 ·refine SF 7 Z ?_;obtain⟨a0,d,ab⟩:=di B;refine WV (e:=42) (m:=1) h1 d Z Z Z Z (fun a1 ac Q am R=>?_);have hr16':=R;obtain⟨a2,rfl,S⟩:=hr16';refine J Z (W7 ar Q Z Z) Z<|TE 9 Z<|J Z (W5 h2 Z Z Z (e:=42) Z) Z<|Vy 3 Z<|aG Z (fun E=>?_) (fun E=>?_)
  ·refine Wf 6 Z<|aH<|aP<|aH<|bX<|aP<|aH (?_);exact aA Z Z ⟨cJ (by symm;rw[z];exact nY d<|iQ E),ar⟩
  refine UG 6 Z ?_;obtain⟨a3,A⟩:=dc (iS E);refine WV (e:=42) (m:=1) h2 A Z Z Z Z (fun a4 ao T ap W=>?_);have hr24':=W;obtain⟨a5,rfl,X⟩:=hr24';refine J Z (W7 ar T Z Z) Z<|UK 8 Z<|bJ Z (aS Z Z Z aa) (fun _=>Z) (C _ _ _ _ _ _ ar S X) (fun O ar=>?_);refine Vy 9 Z<|aG Z (fun I=>?_) (fun I=>?_)
  ·refine Wf 7 Z<|aP<|aH<|bX<|aP<|aH (?_);exact aA Z Z ⟨cJ (by symm;rw[z];exact n9 d A<|cY I),ar⟩
  refine aI<|az<|Wd 4 Z<|aD ⟨j2-1,by omega,oF,i+1,by omega,z.trans<|nZ d A<|cD I,cI<|aX (by have:=h1.cS;omega),ar⟩
 refine UH 3 Z<|aN<|UE 4 Z<|J Z (W5 h1 Z Z Z (e:=42) Z) Z<|vQ 1 Z<|J Z (W5 h2 Z Z Z (e:=42) Z) Z<|Vy 3 Z<|aG Z (fun M=>?_) (fun M=>?_)
 ·refine Vx 7 Z ?_;exact aA Z Z ⟨cJ (by symm;rw[z];exact nX (bK B) oM<|aM M),ar⟩
 refine Vx 8 Z ?_;exact aA Z Z ⟨cJ (by symm;rw[z];exact pS (bK B)<|bK M),ar⟩
theorem Uo (hG:Plain G) {g:Nat} {c:cm->cm->Int} (T:lI Tryz.prog g=true) {l1 l2:List (cm)} (ar:H O K L) (h1:bO K 5 (gG) l1 X) (W:bO K 5 (gG) l2 v2)
  (B:∀x y O L,H O K L->EC G g [.agg<|ints x.ints,.agg<|ints y.ints] O fun v O'=>v= .int .i64 (c x y)/\H O' K L):
  EC G 98 [X,v2,.func g [] []] O fun v O'=>v= .int .i64 (eD c l1 l2)/\H O' K L:=by
 refine V9 hG Tryz.func98 Z<|UE 9 Z<|J Z (W5 h1 Z Z Z (e:=38) Z) Z<|UI 4 Z ?_;obtain⟨LL1,ar,hLL1⟩:=ar.named;refine bk (rg 6 5++rg 13 21) (fun j t O=>∃(i:Nat),j+i=l1.length/\eD c l1 l2=eD c (l1.drop i) (l2.drop i)/\t.get 13=some (nI i)/\H O K LL1) (l1.length) ⟨0,Z,Z,Z,ar⟩ ?_;clear ar;intro j2 t O ak hI;obtain⟨i,ap,u,M,ar⟩:=hI;subst hLL1;obtain⟨oo,rfl⟩:=ak.q1 M Z;refine Vv 6 Z<|aG Z (fun A=>?_) (fun A=>?_)
 ·refine SF 7 Z ?_;obtain⟨aE,d,aa⟩:=di A;refine WV (e:=38) (m:=5) h1 d Z Z Z Z (fun a0 ab N ac Q=>?_);obtain rfl:=Q;refine J Z (W8 ar N Z Z) Z<|kb ar (W6 (cs:=[D,D,D,D,D])) (fun O b1 ar=>?_);refine vQ 1 Z<|ks ar (Xb Z Z Z ar.g0 Z) (fun O ar=>?_);refine TE 7 Z<|J Z (W5 W Z Z Z (e:=38) Z) Z<|Vy 3 Z<|aG Z (fun C=>?_) (fun C=>?_)
  ·refine Wf 6 Z<|aH<|aP<|aH<|bX<|aP<|aH (?_);exact aA Z Z ⟨cJ (by symm;rw[u];exact nY d<|iQ C),ar.pop⟩
  refine UG 6 Z ?_;obtain⟨a1,z⟩:=dc (iS C);refine WV (e:=38) (m:=5) W z Z Z Z Z (fun a2 am R ao S=>?_);obtain rfl:=S;refine J Z (W8 ar R Z Z) Z<|kb ar (W6 (cs:=[D,D,D,D,D])) (fun O b2 ar=>?_);refine ks ar (Xb Z Z Z ar.g0 Z) (fun O ar=>?_);refine UK 5 Z<|J Z (Xe Z ar.g1 Z) Z<|J Z (Xe Z ar.g0 Z) Z<|bJ Z (aS Z Z Z T) (fun _=>Z) (B _ _ _ _ ar) (fun O ar=>?_);refine Vy 9 Z<|aG Z (fun E=>?_) (fun E=>?_)
  ·refine Wf 7 Z<|aP<|aH<|bX<|aP<|aH (?_);exact aA Z Z ⟨cJ (by symm;rw[u];exact n9 d z<|cY E),ar.pop.pop⟩
  refine aI<|az<|Wd 4 Z ?_;have ar:=ar.pop;have ar:=ar.pop;refine aD ⟨j2-1,by omega,oF,i+1,by omega,u.trans<|nZ d z<|cD E,cI<|aX (by have:=h1.cS;omega),ar⟩
 refine UH 3 Z<|aN<|UE 4 Z<|J Z (W5 h1 Z Z Z (e:=38) Z) Z<|vQ 1 Z<|J Z (W5 W Z Z Z (e:=38) Z) Z<|Vy 3 Z<|aG Z (fun I=>?_) (fun I=>?_)
 ·refine Vx 7 Z ?_;exact aA Z Z ⟨cJ (by symm;rw[u];exact nX (bK A) oM<|aM I),ar⟩
 refine Vx 8 Z ?_;exact aA Z Z ⟨cJ (by symm;rw[u];exact pS (bK A)<|bK I),ar⟩
theorem Up (hG:Plain G) {g:Nat} {c:bS->bS->Int} (T:lI Tryz.prog g=true) {l1 l2:List (bS)} (ar:H O K L) (h1:bO K 2 (dK) l1 X) (W:bO K 2 (dK) l2 v2)
  (B:∀x y O L,H O K L->EC G g [.agg<|ints x.ints,.agg<|ints y.ints] O fun v O'=>v= .int .i64 (c x y)/\H O' K L):
  EC G 101 [X,v2,.func g [] []] O fun v O'=>v= .int .i64 (eD c l1 l2)/\H O' K L:=by
 refine V9 hG Tryz.func101 Z<|UE 9 Z<|J Z (W5 h1 Z Z Z (e:=87) Z) Z<|UI 4 Z ?_;obtain⟨LL1,ar,hLL1⟩:=ar.named;refine bk (rg 6 5++rg 13 21) (fun j t O=>∃(i:Nat),j+i=l1.length/\eD c l1 l2=eD c (l1.drop i) (l2.drop i)/\t.get 13=some (nI i)/\H O K LL1) (l1.length) ⟨0,Z,Z,Z,ar⟩ ?_;clear ar;intro j2 t O ak hI;obtain⟨i,ap,u,M,ar⟩:=hI;subst hLL1;obtain⟨oo,rfl⟩:=ak.q1 M Z;refine Vv 6 Z<|aG Z (fun A=>?_) (fun A=>?_)
 ·refine SF 7 Z ?_;obtain⟨aE,d,aa⟩:=di A;refine WV (e:=87) (m:=2) h1 d Z Z Z Z (fun a0 ab N ac Q=>?_);obtain rfl:=Q;refine J Z (W8 ar N Z Z) Z<|kb ar (W6 (cs:=[D,D])) (fun O b1 ar=>?_);refine vQ 1 Z<|ks ar (W9 Z Z Z ar.g0 Z) (fun O ar=>?_);refine TE 7 Z<|J Z (W5 W Z Z Z (e:=87) Z) Z<|Vy 3 Z<|aG Z (fun C=>?_) (fun C=>?_)
  ·refine Wf 6 Z<|aH<|aP<|aH<|bX<|aP<|aH (?_);exact aA Z Z ⟨cJ (by symm;rw[u];exact nY d<|iQ C),ar.pop⟩
  refine UG 6 Z ?_;obtain⟨a1,z⟩:=dc (iS C);refine WV (e:=87) (m:=2) W z Z Z Z Z (fun a2 am R ao S=>?_);obtain rfl:=S;refine J Z (W8 ar R Z Z) Z<|kb ar (W6 (cs:=[D,D])) (fun O b2 ar=>?_);refine ks ar (W9 Z Z Z ar.g0 Z) (fun O ar=>?_);refine UK 5 Z<|J Z (Xc Z ar.g1 Z) Z<|J Z (Xc Z ar.g0 Z) Z<|bJ Z (aS Z Z Z T) (fun _=>Z) (B _ _ _ _ ar) (fun O ar=>?_);refine Vy 9 Z<|aG Z (fun E=>?_) (fun E=>?_)
  ·refine Wf 7 Z<|aP<|aH<|bX<|aP<|aH (?_);exact aA Z Z ⟨cJ (by symm;rw[u];exact n9 d z<|cY E),ar.pop.pop⟩
  refine aI<|az<|Wd 4 Z ?_;have ar:=ar.pop;have ar:=ar.pop;refine aD ⟨j2-1,by omega,oF,i+1,by omega,u.trans<|nZ d z<|cD E,cI<|aX (by have:=h1.cS;omega),ar⟩
 refine UH 3 Z<|aN<|UE 4 Z<|J Z (W5 h1 Z Z Z (e:=87) Z) Z<|vQ 1 Z<|J Z (W5 W Z Z Z (e:=87) Z) Z<|Vy 3 Z<|aG Z (fun I=>?_) (fun I=>?_)
 ·refine Vx 7 Z ?_;exact aA Z Z ⟨cJ (by symm;rw[u];exact nX (bK A) oM<|aM I),ar⟩
 refine Vx 8 Z ?_;exact aA Z Z ⟨cJ (by symm;rw[u];exact pS (bK A)<|bK I),ar⟩
theorem Qm (T:Plain G) {l1 l2:List (Int)} {W:V} (ar:H O K L) (h1:bO K 1 (ek) l1 W) (S:bO K 1 (ek) l2 X):
  Ca G K L 56 [W,X] O <| .int .i64 (eD fu l1 l2):=by
 refine V9 T Tryz.func56 Z<|UE 9 Z<|J Z (W5 h1 Z Z Z (e:=2) Z) Z<|UI 4 Z ?_;obtain⟨LL1,ar,hLL1⟩:=ar.named;refine bk (rg 4 5++rg 11 20) (fun j t O=>∃(i:Nat),j+i=l1.length/\eD fu l1 l2=eD fu (l1.drop i) (l2.drop i)/\t.get 11=some (nI i)/\H O K LL1) (l1.length) ⟨0,Z,Z,Z,ar⟩ ?_;clear ar;intro j2 t O ak hI;obtain⟨i,ap,u,I,ar⟩:=hI;subst hLL1;obtain⟨oo,rfl⟩:=ak.q1 I Z;refine Vv 6 Z<|aG Z (fun A=>?_) (fun A=>?_)
 ·refine SF 7 Z ?_;obtain⟨aE,d,aa⟩:=di A;refine WV (e:=2) (m:=1) h1 d Z Z Z Z (fun a0 ab M ac N=>?_);obtain rfl:=N;refine J Z (W7 ar M Z Z) Z<|TE 9 Z<|J Z (W5 S Z Z Z (e:=2) Z) Z<|Vy 3 Z<|aG Z (fun B=>?_) (fun B=>?_)
  ·refine Wf 6 Z<|aH<|aP<|aH<|bX<|aP<|aH (?_);exact aA Z Z ⟨cJ (by symm;rw[u];exact nY d<|iQ B),ar⟩
  refine UG 6 Z ?_;obtain⟨a1,z⟩:=dc (iS B);refine WV (e:=2) (m:=1) S z Z Z Z Z (fun a2 am Q ao R=>?_);obtain rfl:=R;refine J Z (W7 ar Q Z Z) Z<|UK 7 Z<|kx (W2 Z Z Z) (wu T _ _ ar) (fun O ar=>?_);refine Vy 9 Z<|aG Z (fun C=>?_) (fun C=>?_)
  ·refine Wf 7 Z<|aP<|aH<|bX<|aP<|aH (?_);exact aA Z Z ⟨cJ (by symm;rw[u];exact n9 d z<|cY C),ar⟩
  refine aI<|az<|Wd 4 Z<|aD ⟨j2-1,by omega,oF,i+1,by omega,u.trans<|nZ d z<|cD C,cI<|aX (by have:=h1.cS;omega),ar⟩
 refine UH 3 Z<|aN<|UE 4 Z<|J Z (W5 h1 Z Z Z (e:=2) Z) Z<|vQ 1 Z<|J Z (W5 S Z Z Z (e:=2) Z) Z<|Vy 3 Z<|aG Z (fun E=>?_) (fun E=>?_)
 ·refine Vx 7 Z ?_;exact aA Z Z ⟨cJ (by symm;rw[u];exact nX (bK A) oM<|aM E),ar⟩
 refine Vx 8 Z ?_;exact aA Z Z ⟨cJ (by symm;rw[u];exact pS (bK A)<|bK E),ar⟩
theorem Dc (d:Plain G) {l1 l2:List cm} {z:V} (ar:H O K L) (h1:bO K 5 gG l1 u) (A:bO K 5 gG l2 z):Ca G K L 48 [u,z] O <| .int .i64 (jd l1 l2):=by
 refine V9 d Tryz.func48 Z<|Vw 8 Z<|J Z (W5 h1 Z Z Z (e:=38) Z) Z<|vQ 1 Z<|J Z (W5 A Z Z Z (e:=38) Z) Z<|kx (W2 Z Z Z) (Bp d _ _ ar) (fun O ar=>?_);refine VA 4 Z ?_;exact aA Z Z ⟨Z,ar⟩
theorem wF (d:Plain G) {l1 l2:List cm} {z:V} (ar:H O K L) (h1:bO K 5 gG l1 u) (A:bO K 5 gG l2 z):Ca G K L 50 [u,z] O <| .int .i64 (eD pB l1 l2):=by
 refine V9 d Tryz.func50 Z<|Vw 9 Z<|kx (W2 Z Z Z) (Uo d (g:=99) (c:=pB) U ar h1 A (fun _ _ _ _ ar=>zA d _ _ ar)) (fun O ar=>?_);refine VA 4 Z ?_;exact aA Z Z ⟨Z,ar⟩
theorem V3 (d:Plain G) {l1 l2:List bS} {A B p q:V} (h1:bO K 2 dK l1 A) (C:bO K 2 dK l2 B) (u:fc K p [A]) (z:fc K q [B]) (ar:H O K L):Ca G K L 100 [p,q] O <| .int .i64 (eD pR l1 l2):=by
 refine V9 d Tryz.func100 Z<|Vw 7 Z<|J Z (W7 ar u Z Z) Z<|J Z (W7 ar z Z Z) Z<|kx (W2 Z Z Z) (Up d (g:=102) (c:=pR) U ar h1 C (fun _ _ _ _ ar=>Fp d _ _ ar)) (fun O ar=>?_);refine VA 4 Z ?_;exact aA Z Z ⟨Z,ar⟩
theorem TW (E:Plain G) {A:Nat} {B:V} (d:K z (.row [B] e1 false)) (u:K A (.row [C] e2 false)) {l1 l2:List bS} (h1:bO K 2 dK l1 B) (I:bO K 2 dK l2 C):wA Tryz.prog G K (eD pR l1 l2) [.func 100 [] [.ptr z 0,.ptr A 0]]:=⟨100,_,Z,by kernel_rfl,fun O L ar=>V3 E h1 I (gB d) (gB u) ar⟩
theorem uz (d:Plain G) {l1 l2:List bS} {A B:V} (ar:H O K L) (h1:bO K 2 dK l1 A) (u:bO K 2 dK l2 B):Ca G K L 53 [A,B] O <| .int .i64 (jc l1 l2):=by
 refine V9 d Tryz.func53 Z<|Vw 2 Z<|kb ar (cH Z h1.leaf.1) (fun O C ar=>?_);refine kb ar (cH Z u.leaf.1) (fun O E ar=>?_);refine UQ ar 6 [1] Z Z<|J Z (W5 h1 Z Z Z (e:=87) Z) Z<|J Z (W4 Z ar.g0 Z) Z<|J Z (W5 u Z Z Z (e:=87) Z) Z<|kw (W2 Z Z Z) (iW d _ _ ar) ?_;rintro _ O ⟨I,N,rfl,ar⟩;refine vQ 1 Z<|fh ar Z (bN (e:=101) (m:=1) (z:=[.nilFunc]) (cs:=[.func 96 [] [.ptr I 0,.ptr N 0],.func 100 [] [.ptr C 0,.ptr E 0]]) U U U U (by rfl)) (fun _=>Z) (fun O b5 ar=>?_);have hq:=ar.keeps (M:=[_,_,_,_,_]);refine kx (W2 Z Z Z) (oN<|rI d hq<|fM.slice (fM.cons (sk d (KP.da 2 Z)<|KP.da 1 Z)<|fM.cons (TW d (KP.da 4 Z) (KP.da 3 Z) (h1.mono (KP.ey _ _) fun _ _ h=>h)<|u.mono (KP.ey _ _) fun _ _ h=>h) fM.nil) (KP.da 0 Z) Z (nR_ _) (by decide)) (fun O ar=>?_);clear hq;refine VA 4 Z ?_;exact aA Z Z ⟨Z,ar⟩
variable {N S a1 a2 d1 d2:V}
theorem VY (d:Plain G) {g1 I:XG} {M Q R T W:V} (h1:dS K g1 M N Q R) (h2:dS K I S T W X) {p q:V} (u:fc K p [M,N,Q,R]) (z:fc K q [S,T,W,X]) (ar:H O K L):Ca G K L 46 [p,q] O <| .int .i64 (eD jd g1.threads I.threads):=by
 have h1':=h1;obtain⟨aa,A,ab,ac⟩:=h1';have h2':=h2;obtain⟨ak,B,am,ao⟩:=h2';refine V9 d Tryz.func46 Z<|Vw 7 Z<|de u Z Z Z (k:=1) U (lb Z) (fun _=>Z) (fun p3 C=>?_);refine J Z (W7 ar C Z Z) Z<|de z Z Z Z (k:=1) U (lb Z) (fun _=>Z) (fun p5 E=>?_);refine J Z (W7 ar E Z Z) Z<|kx (W2 Z Z Z) (Q4 d (g:=48) (c:=jd) U ar A B (fun _ _ _ _ _ _ ar hx hy=>Dc d ar hx hy)) (fun O ar=>?_);refine VA 4 Z ?_;exact aA Z Z ⟨Z,ar⟩
theorem TP (T:Plain G) {A:Nat} {g1 B:XG} {E I M Q R:V} (d:K z (.row [C,E,I,M] e1 false)) (u:K A (.row [N,Q,R,S] e2 false)) (h1:dS K g1 C E I M) (W:dS K B N Q R S):wA Tryz.prog G K (eD jd g1.threads B.threads) [.func 46 [] [.ptr z 0,.ptr A 0]]:=⟨46,_,Z,by kernel_rfl,fun O L ar=>VY T h1 W (gB d) (gB u) ar⟩
theorem VZ (d:Plain G) {g1 I:XG} {M Q R T W:V} (h1:dS K g1 M N Q R) (h2:dS K I S T W X) {p q:V} (u:fc K p [M,N,Q,R]) (z:fc K q [S,T,W,X]) (ar:H O K L):Ca G K L 49 [p,q] O <| .int .i64 (eD (eD pB) g1.threads I.threads):=by
 have h1':=h1;obtain⟨aa,A,ab,ac⟩:=h1';have h2':=h2;obtain⟨ak,B,am,ao⟩:=h2';refine V9 d Tryz.func49 Z<|Vw 7 Z<|de u Z Z Z (k:=1) U (lb Z) (fun _=>Z) (fun p3 C=>?_);refine J Z (W7 ar C Z Z) Z<|de z Z Z Z (k:=1) U (lb Z) (fun _=>Z) (fun p5 E=>?_);refine J Z (W7 ar E Z Z) Z<|kx (W2 Z Z Z) (Q4 d (g:=50) (c:=eD pB) U ar A B (fun _ _ _ _ _ _ ar hx hy=>wF d ar hx hy)) (fun O ar=>?_);refine VA 4 Z ?_;exact aA Z Z ⟨Z,ar⟩
theorem TQ (T:Plain G) {A:Nat} {g1 B:XG} {E I M Q R:V} (d:K z (.row [C,E,I,M] e1 false)) (u:K A (.row [N,Q,R,S] e2 false)) (h1:dS K g1 C E I M) (W:dS K B N Q R S):wA Tryz.prog G K (eD (eD pB) g1.threads B.threads) [.func 49 [] [.ptr z 0,.ptr A 0]]:=⟨49,_,Z,by kernel_rfl,fun O L ar=>VZ T h1 W (gB d) (gB u) ar⟩
theorem V0 (d:Plain G) {g1 I:XG} {M Q R T W:V} (h1:dS K g1 M N Q R) (h2:dS K I S T W X) {p q:V} (u:fc K p [M,N,Q,R]) (z:fc K q [S,T,W,X]) (ar:H O K L):Ca G K L 51 [p,q] O <| .int .i64 (eD jc g1.from_ I.from_):=by
 have h1':=h1;obtain⟨aa,ab,A,ac⟩:=h1';have h2':=h2;obtain⟨ak,am,B,ao⟩:=h2';refine V9 d Tryz.func51 Z<|Vw 7 Z<|de u Z Z Z (k:=2) U (lb Z) (fun _=>Z) (fun p3 C=>?_);refine J Z (W7 ar C Z Z) Z<|de z Z Z Z (k:=2) U (lb Z) (fun _=>Z) (fun p5 E=>?_);refine J Z (W7 ar E Z Z) Z<|kx (W2 Z Z Z) (Q5 d (g:=53) (c:=jc) U ar A B (fun _ _ _ _ _ _ ar hx hy=>uz d ar hx hy)) (fun O ar=>?_);refine VA 4 Z ?_;exact aA Z Z ⟨Z,ar⟩
theorem TT (T:Plain G) {A:Nat} {g1 B:XG} {E I M Q R:V} (d:K z (.row [C,E,I,M] e1 false)) (u:K A (.row [N,Q,R,S] e2 false)) (h1:dS K g1 C E I M) (W:dS K B N Q R S):wA Tryz.prog G K (eD jc g1.from_ B.from_) [.func 51 [] [.ptr z 0,.ptr A 0]]:=⟨51,_,Z,by kernel_rfl,fun O L ar=>V0 T h1 W (gB d) (gB u) ar⟩
theorem V1 (d:Plain G) {g1 I:XG} {M Q R T W:V} (h1:dS K g1 M N Q R) (h2:dS K I S T W X) {p q:V} (u:fc K p [M,N,Q,R]) (z:fc K q [S,T,W,X]) (ar:H O K L):Ca G K L 54 [p,q] O <| .int .i64 (eD jc g1.order I.order):=by
 have h1':=h1;obtain⟨aa,ab,ac,A⟩:=h1';have h2':=h2;obtain⟨ak,am,ao,B⟩:=h2';refine V9 d Tryz.func54 Z<|Vw 7 Z<|de u Z Z Z (k:=3) U (lb Z) (fun _=>Z) (fun p3 C=>?_);refine J Z (W7 ar C Z Z) Z<|de z Z Z Z (k:=3) U (lb Z) (fun _=>Z) (fun p5 E=>?_);refine J Z (W7 ar E Z Z) Z<|kx (W2 Z Z Z) (Q5 d (g:=53) (c:=jc) U ar A B (fun _ _ _ _ _ _ ar hx hy=>uz d ar hx hy)) (fun O ar=>?_);refine VA 4 Z ?_;exact aA Z Z ⟨Z,ar⟩
theorem TU (T:Plain G) {A:Nat} {g1 B:XG} {E I M Q R:V} (d:K z (.row [C,E,I,M] e1 false)) (u:K A (.row [N,Q,R,S] e2 false)) (h1:dS K g1 C E I M) (W:dS K B N Q R S):wA Tryz.prog G K (eD jc g1.order B.order) [.func 54 [] [.ptr z 0,.ptr A 0]]:=⟨54,_,Z,by kernel_rfl,fun O L ar=>V1 T h1 W (gB d) (gB u) ar⟩
theorem V2 (E:Plain G) {g1 I:XG} {M Q R T W:V} (h1:dS K g1 M N Q R) (h2:dS K I S T W X) {p q:V} (d:fc K p [M,N,Q,R]) (u:fc K q [S,T,W,X]) (ar:H O K L):Ca G K L 55 [p,q] O <| .int .i64 (eD fu g1.init I.init):=by
 have h1':=h1;obtain⟨z,aa,ab,ac⟩:=h1';have h2':=h2;obtain⟨A,ak,am,ao⟩:=h2';refine V9 E Tryz.func55 Z<|Vw 7 Z<|de d Z Z Z (k:=0) U (lb Z) (fun _=>Z) (fun p3 B=>?_);refine J Z (W7 ar B Z Z) Z<|de u Z Z Z (k:=0) U (lb Z) (fun _=>Z) (fun p5 C=>?_);refine J Z (W7 ar C Z Z) Z<|kx (W2 Z Z Z) (Qm E ar z A) (fun O ar=>?_);refine VA 4 Z ?_;exact aA Z Z ⟨Z,ar⟩
theorem TV (T:Plain G) {A:Nat} {g1 B:XG} {E I M Q R:V} (d:K z (.row [C,E,I,M] e1 false)) (u:K A (.row [N,Q,R,S] e2 false)) (h1:dS K g1 C E I M) (W:dS K B N Q R S):wA Tryz.prog G K (eD fu g1.init B.init) [.func 55 [] [.ptr z 0,.ptr A 0]]:=⟨55,_,Z,by kernel_rfl,fun O L ar=>V2 T h1 W (gB d) (gB u) ar⟩
theorem Ku (d:Plain G) {g1 X:XG} {B c1 c2:V} (h1:dS K g1 a1 B c1 d1) (N:dS K X a2 C c2 d2) (ar:H O K L):Ca G K L 18 [.agg [a1,B,c1,d1],.agg [a2,C,c2,d2]] O <| .int .i64 (ik g1 X):=by
 have h1':=h1;obtain⟨u,S,Q,E⟩:=h1';have h2':=N;obtain⟨A,T,R,I⟩:=h2';refine V9 d Tryz.func18 Z<|Vw 2 Z<|kb ar (cH Z Z) (fun O B ar=>?_);refine kb ar (cH Z Z) (fun O C ar=>?_);refine UJ 4 Z (aL (l:=[(0,[]),(1,[]),(2,[]),(3,[]),(4,[]),(5,[]),(7,[]),(8,[]),(9,[]),(10,[]),(11,[]),(12,[]),(13,[]),(14,[]),(16,[]),(17,[]),(18,[]),(19,[]),(20,[]),(21,[]),(22,[]),(24,[]),(25,[]),(26,[]),(27,[]),(28,[]),(29,[]),(30,[]),(32,[]),(6,[10,13,18,21,26,29]),(15,[18,21,26,29]),(23,[26,29]),(31,[]),(33,[]),(34,[]),(35,[])]) U U<|Wl ar 2 [1,1] Z Z<|ah Z Z (W5 S Z Z Z (e:=25) Z) Z<|Wl ar 2 [1,0] Z Z<|ah Z Z (W5 T Z Z Z (e:=25) Z) Z<|Wl ar 4 [2,1] Z Z<|ah Z Z (W5 Q Z Z Z (e:=42) Z) Z<|Wl ar 2 [2,0] Z Z<|ah Z Z (W5 R Z Z Z (e:=42) Z) Z<|Wl ar 3 [3,1] Z Z<|ah Z Z (W5 E Z Z Z (e:=42) Z) Z<|Wl ar 2 [3,0] Z Z<|ah Z Z (W5 I Z Z Z (e:=42) Z) Z ?_);refine Wl ar 3 [0,1] Z Z<|ah Z Z (W5 u Z Z Z (e:=2) Z) Z<|Wl ar 2 [0,0] Z Z<|ah Z Z (W5 A Z Z Z (e:=2) Z) Z<|wQ 1 Z<|ed Z Z (W2 Z Z Z) (fun _=>Z) (iW d _ _ ar) ?_;rintro _ O ⟨b3,b4,rfl,ar⟩;refine⟨(bj (bx Z Z Z Z Z (W4 Z (ar.get 3 Z) Z) Q.dQ)<|bj (bx Z Z Z Z Z (W4 Z (ar.get 2 Z) Z) R.dQ)<|bj (bx Z Z Z Z Z (W4 Z (ar.get 3 Z) Z) E.dQ)<|bj (bx Z Z Z Z Z (W4 Z (ar.get 2 Z) Z) I.dQ)<|bj (bx Z Z Z Z Z (W4 Z (ar.get 3 Z) Z) u.dQ)<|bj (bx Z Z Z Z Z (W4 Z (ar.get 2 Z) Z) A.dQ) aT),?_⟩;refine ed Z Z (W2 Z Z Z) (fun _=>Z) (iW d _ _ ar) ?_;rintro _ O ⟨b5,b6,rfl,ar⟩;refine⟨(bj (bx Z Z Z Z Z (W4 Z (ar.get 5 Z) Z) E.dQ)<|bj (bx Z Z Z Z Z (W4 Z (ar.get 4 Z) Z) I.dQ)<|bj (bx Z Z Z Z Z (W4 Z (ar.get 5 Z) Z) u.dQ)<|bj (bx Z Z Z Z Z (W4 Z (ar.get 4 Z) Z) A.dQ) aT),?_⟩;refine ed Z Z (W2 Z Z Z) (fun _=>Z) (iW d _ _ ar) ?_;rintro _ O ⟨b7,b8,rfl,ar⟩;refine⟨(bj (bx Z Z Z Z Z (W4 Z (ar.get 7 Z) Z) u.dQ)<|bj (bx Z Z Z Z Z (W4 Z (ar.get 6 Z) Z) A.dQ) aT),?_⟩;refine ed Z Z (W2 Z Z Z) (fun _=>Z) (iW d _ _ ar) ?_;rintro _ O ⟨b9,W,rfl,ar⟩;refine⟨aT,?_⟩;refine gx ar Z Z (bN (e:=101) (m:=1) (z:=[.nilFunc]) (cs:=[.func 96 [] [.ptr b3 0,.ptr b4 0],.func 46 [] [.ptr B 0,.ptr C 0],.func 49 [] [.ptr B 0,.ptr C 0],.func 96 [] [.ptr b5 0,.ptr b6 0],.func 51 [] [.ptr B 0,.ptr C 0],.func 96 [] [.ptr b7 0,.ptr b8 0],.func 54 [] [.ptr B 0,.ptr C 0],.func 96 [] [.ptr b9 0,.ptr W 0],.func 55 [] [.ptr B 0,.ptr C 0]]) U U U U (by rfl)) (fun _=>Z) (fun O aa ar=>?_);have hq:=ar.keeps (M:=[_,_,_,_,_,_,_,_,_,_,_])
 refine eL Z Z (W2 Z Z Z) (fun _=>Z) (oN<|rI d hq<|fM.slice (fM.cons (sk d (KP.da 8 Z)<|KP.da 7 Z)<|fM.cons (TP d (KP.da 10 Z) (KP.da 9 Z) (h1.mono<|KP.ey _ _)<|N.mono<|KP.ey _ _)<|fM.cons (TQ d (KP.da 10 Z) (KP.da 9 Z) (h1.mono<|KP.ey _ _)<|N.mono<|KP.ey _ _)<|fM.cons (sk d (KP.da 6 Z)<|KP.da 5 Z)<|fM.cons (TT d (KP.da 10 Z) (KP.da 9 Z) (h1.mono<|KP.ey _ _)<|N.mono<|KP.ey _ _)<|fM.cons (sk d (KP.da 4 Z)<|KP.da 3 Z)<|fM.cons (TU d (KP.da 10 Z) (KP.da 9 Z) (h1.mono<|KP.ey _ _)<|N.mono<|KP.ey _ _)<|fM.cons (sk d (KP.da 2 Z)<|KP.da 1 Z)<|fM.cons (TV d (KP.da 10 Z) (KP.da 9 Z) (h1.mono<|KP.ey _ _)<|N.mono<|KP.ey _ _) fM.nil) (KP.da 0 Z) Z (nR_ _) (by decide)) (fun O ar=>?_);clear hq;refine⟨aT,?_⟩;refine VC 4 Z ?_;exact aA Z Z ⟨Z,ar⟩
end Go.Ev
namespace Go.Ev
variable [Env] {e:Nat} {lo:Operand}
def cy {α:Type} (m E:Nat) (R:α->List V->Prop) (l:List α) (u:V) (M:Own):Prop:=
 (l= []/\u= .av/\M= [])∨∃(b:Nat) (c:rK) (cells:List V) (e:Nat),u= .slice b 0 l.length c/\M= [(b,.row cells e false)]/\cells.length=l.length*m/\(∀(i:Nat) (x:α),l[i]? =some x->R x ((cells.drop (i*m)).take m))/\(c= .known l.length∨(c= .upto m/\e=E))/\l.length<=1048576
inductive eX {α:Type} (m E:Nat) (R:α->List V->Prop):List (List α)->List V->Own->Prop
 | nil:eX m E R [] [] []
 | snoc {ls:List (List α)} {us:List V} {M M1:Own} {l:List α} {u:V}:eX m E R ls us M->cy m E R l u M1->eX m E R (ls++[l]) (us++[u]) (M1++M)
section
variable {α:Type} {m E:Nat} {R:α->List V->Prop} {l:List α} {u:V} {M:Own} {K:KP} {ls:List (List α)} {us:List V}
theorem cy.leaf (h:cy m E R l u M):cG u=some [u]/\eB u=true:=by
 rcases h with ⟨_,rfl,_⟩ | ⟨b,c,cells,e,rfl,_⟩<;>exact⟨rfl,rfl⟩
theorem cy.fg (h:cy m E R l u M) (hk:∀e∈M,K e.1 e.2):bO K m R l u:=by
 rcases h with ⟨h1,d,_⟩ | ⟨b,c,cells,e,rfl,rfl,h3,h4,h5,h6⟩
 ·exact .inl ⟨h1,d⟩
 refine .inr ⟨b,0,c,cells,e,false,Z,?_,hk _<|mS_ ..,by omega,by omega,fun i x hx=>by simp_all⟩;rcases h5 with h5 | h5
 ·exact .inr ⟨_,h5,nR_ _⟩
 exact .inl h5.1
theorem eX.length (h:eX m E R ls us M):us.length=ls.length:=by
 induction h with
 | nil=>rfl
 | snoc _ _ ih=>simp[ih]
theorem eX.at (h:eX m E R ls us M):∀{i:Nat} {l:List α},ls[i]? =some l->∃u M1 A B,us[i]? =some u/\cy m E R l u M1/\M=A++(M1++B)/\∀l' u' d,cy m E R l' u' d->eX m E R (ls.set i l') (us.set i u') (A++(d++B)):=by
 induction h with
 | nil=>simp_all
 | @snoc ls us M M1 l u h h1 ih=>
  intro i x hx;have hl:=h.length
  by_cases hi:i<ls.length
  ·rw[gL_ hi] at hx;obtain⟨z,C,A,B,k1,I,rfl,N⟩:=ih hx;refine⟨z,C,M1++A,B,by grind,I,by simp,fun l' u' M' h'=>?_⟩;rw[List.set_append_left _ _ hi,List.set_append_left _ _ oM,lQ_];exact .snoc (N l' u' M' h') h1
  have hlt:=(gA.1 hx).1;rw[lA_,zq_] at hlt;obtain rfl:i=ls.length:=by omega
  rw[gR_<|nR_ _,Nat.sub_self] at hx;simp only[zm_,oJ_] at hx;subst hx;refine⟨u,M1,[],M,by simp_all,h1,Z,fun l' u' M' h'=>?_⟩;rw[List.set_append_right _ _<|nR_ _,List.set_append_right _ _ oM,hl,Nat.sub_self];exact eX.snoc (M1:=M') (M:=M) h h'
theorem eX.each (h:eX m E R ls us M) (hk:∀e∈M,K e.1 e.2):∀(i:Nat) (l:List α),ls[i]? =some l->∃u,us[i]? =some u/\bO K m R l u:=by
 intro i l hl;obtain⟨u,M1,A,B,h1,d,rfl,_⟩:=h.at hl;exact⟨u,h1,d.fg fun e he=>hk e (by simp[he])⟩
theorem eX.fg (h:eX m E R ls us M) (hk:∀e∈M,K e.1 e.2) {b n:Nat} (hb:K b (.row us e false)) (hn:n=ls.length) (hl:ls.length<=1048576):bO K 1 (RL K m R) ls (.slice b 0 n (.known n)):=by
 subst hn;refine .inr ⟨b,0,_,us,e,false,Z,.inr ⟨_,Z,nR_ _⟩,hb,by rw[h.length];omega,by omega,fun i x hx=>?_⟩;obtain⟨u,h1,d⟩:=h.each hk i x hx;refine⟨u,?_,d⟩;obtain⟨hlt,rfl⟩:=gA.1 h1
 grind [zj_]
end
section
variable {O:aB} {K:KP} {L M:Own} {b:Nat} {o:cN}
theorem H.LO (h:H O K (M++(b,o)::L)):O.m.get b=some o:=(h.own (b,o) (by simp)).2
theorem H.Ha (h:H O K (M++(b,o)::L)) (o':cN):H (O.setObj b o') K (M++(b,o')::L):=((h.perm List.perm_middle).ui o').perm List.perm_middle.symm
theorem fL (v:V):∀n,e9 [v] n=List.replicate n v
 | 0=>rfl
 | n+1=>by
  show gS [v] (e9 [v] n)=_;rw[ep,fL v n];rfl
theorem Ix {us:List V} {u v:V} {n i:Nat} (hu:us.length=i) (hi:i<n):dJ [u] (us++List.replicate (n-i) v) (0+i*1)=(us++[u])++List.replicate (n-(i+1)) v:=by
 obtain⟨k,hk⟩:∃k,n-i=k+1:=⟨n-i-1,by omega⟩;rw[hk,show n-(i+1)=k by omega,show 0+i*1=us.length by omega,lZ _ _ _ (by simp),List.take_left,zq_,<-zl_,List.drop_left,List.replicate_succ];rfl
end
section
variable {P:Program} {G:Cx} {ev:Operand->Option V} {O:aB}
theorem ie {t w n:Nat} {k k':IntKind} {z:List V} {co:Operand} (A:P.underlying t=some (.slice e)) (hw:(P.info? e).map (·.bytes)=some w) (hz:(fJ P e).bind cG=some z)
  (d:((P.info? e).any fun j=>Nat.beq (dU z) j.size && Nat.ble 1 j.size)=true) (hl:ev lo=some (.int k (.ofNat n))) (B:ev co=some (.int k' (.ofNat n))) (hn:w*n<=1048576) (aa:n<=1048576):
  eo P G ev O (.makeSlice t lo co)= .val (.slice O.next 0 n (.known n)) (O.alloc (.row (e9 z n) e false)):=by
 refine uD (mk:=.slice n n) Z ?_;obtain⟨j,hj,rfl⟩:=oM_.1 hw;rw[hj] at d;simp only[Option.any_some,bA_] at d;simp only[fP,A,hl,B,hj,hz];rw[d.1,d.2,show Nat.ble n n=true by simp_all,show Nat.ble (j.bytes*n) 1048576=true by simp_all,show Nat.ble n 1048576=true by simp_all];rfl
end
theorem ek.leaf:∀x vs,ek x vs->cM vs=true:=fun _ _ h=>by cases h;rfl
theorem gG.leaf:∀x vs,gG x vs->cM vs=true:=fun _ _ h=>by cases h;rfl
theorem dK.leaf:∀x vs,dK x vs->cM vs=true:=fun _ _ h=>by cases h;rfl
end Go.Ev
namespace Go.Ev
variable [Env] {e j:Nat}
inductive l8 (b:Nat) (o':cN):Own->Own->Prop
 | here {o:cN} {L:Own}:l8 b o' ((b,o)::L) ((b,o')::L)
 | there {x:Nat×cN} {L L':Own}:l8 b o' L L'->l8 b o' (x::L) (x::L')
 | bV {M L L':Own}:l8 b o' L L'->l8 b o' (M++L) (M++L')
section
variable {O:aB} {K:KP} {L L':Own} {b:Nat} {o':cN}
theorem l8.WT (h:l8 b o' L L'):∃A B o,L=A++(b,o)::B/\L'=A++(b,o')::B:=by
 induction h with
 | here=>exact⟨[],_,_,Z,Z⟩
 | @there x L L' h ih=>grind
 | @bV M L L' h ih=>grind
theorem H.VX (h:H O K L) (hu:l8 b o' L L'):H (O.setObj b o') K L':=by
 obtain⟨A,B,o,rfl,rfl⟩:=hu.WT;exact h.Ha o'
theorem H.sub (h:H O K L) (d:L'.Sublist L):H O K L' where
 kept b o hb:=let ⟨h1,z,A⟩:=h.kept b o hb;⟨h1,z,fun e he=>A e (d.subset he)⟩
 own e he:=h.own e (d.subset he)
 ne:=h.ne.sublist d
theorem eb {M L L':Own} (h:L'.Sublist L):(M++L').Sublist (M++L):=(List.append_sublist_append_left M).2 h
end
section
variable {P:Program} {G:Cx} {n:Nat} {t:PT V} {O:aB} {K:KP} {L:Own} {Q:Ex->PT V->aB->Prop} {ops:Array Oper} {o:Oper} {l:List Oper} {i:Nat} {rc:List Nat} {lp:List (Nat×List Nat)}
theorem iM {b:Nat} {ob':cN} {L':Own} {t':PT V} (d:H O K L) (hu:l8 b ob' L L') (hw:bR ops t o=some true) (hv:eo P G (bI G t) O o.op= .skip (O.setObj b ob')) (hp:dE t n o.dst unit=some t')
  (h:∀O',H O' K L'->bZ P G ops n l t' O' Q):bZ P G ops n (o::l) t O Q:=iq hw hv hp (h _<|d.VX hu)
theorem eF {b:Nat} {ob':cN} {L':Own} {t':PT V} (z:H O K L) (hu:l8 b ob' L L') (d:ops[i]? =some o) (hw:bR ops t o=some true) (hv:eo P G (bI G t) O o.op= .skip (O.setObj b ob')) (hp:dE t n o.dst unit=some t')
  (h:∀O',H O' K L'->(dy P G ops t' O' rc=true/\cR P G ops n lp t' O' Q)):cR P G ops n ((i,rc)::lp) t O Q:=lG d hw hv hp (h _<|z.VX hu)
end
section
variable {P:Program} {t:PT V} {O:aB}
theorem zV {fn:Func} {ty b m:Nat} {ro:Bool} {cells:List V} (d:fn.results.toList= [.cell j ty]) (h1:t.get j=some (.ptr b 0)) (hm:O.m.get b=some (.row cells e ro)) (z:dT P ty=some (some m)) (hn:cells.length=m):e7 P fn t O=some (.agg cells):=by
 unfold e7;rw[d]
 have e1:gQ P t O (.cell j ty)=some (V.agg cells):=by
  show(match t.get (posOf j) with
   | some (.ptr b off)=>match O.m.get b with
    | some (.row cells _ _)=>match dT P ty with
     | some (some n)=>bif Nat.ble (off+n) (dU cells) then some (V.agg<|takeN (eA cells off) n) else none
     | some none=>nth cells off
     | none=>none
    | _=>none
   | _=>none)=_
  rw[show t.get (posOf j)=some (.ptr b 0) from h1];dsimp only;rw[hm];dsimp only;rw[z];dsimp only;rw[db,hn,nA_,show Nat.ble m m=true by simp_all,ej,eN,List.drop_zero,<-hn,List.take_length];rfl
 have:dv (gQ P t O) [.cell j ty]=some [V.agg cells]:=by
  unfold dv;simp only[e1]
 rw[this]
theorem dh {fn:Func} {R:V->aB->Prop} {ty b m:Nat} {ro:Bool} {cells:List V} (d:fn.results.toList= [.cell j ty]) (h1:t.get j=some (.ptr b 0)) (hm:O.m.get b=some (.row cells e ro)) (z:dT P ty=some (some m)) (hn:cells.length=m) (A:R (.agg cells) O):Ga P fn R .ret t O:=
 ⟨.inr Z,_,zV d h1 hm z hn,A⟩
end
end Go.Ev
namespace Go.Ev
variable [Env] {e:Nat}
theorem MH {α:Type} {m E:Nat} {R:α->List V->Prop} {l1 l2:List α} {d news:List V} {b:Nat} {c:rK} {n:Nat} (aa:d.length=l1.length*m) (h1:∀(i:Nat) (x:α),l1[i]? =some x->R x ((d.drop (i*m)).take m)) (ab:news.length=l2.length*m) (h2:∀(i:Nat) (x:α),l2[i]? =some x->R x ((news.drop (i*m)).take m))
  (hn:n=l1.length+l2.length) (hc:c= .known n∨(c= .upto m/\e=E)) (hle:n<=1048576):cy m E R (l1++l2) (.slice b 0 n c) [(b,.row (d++news) e false)]:=by
 subst hn;refine .inr ⟨b,c,_,e,by simp_all,Z,by grind,fun i x hx=>?_,by simp_all,by simp_all⟩
 by_cases hi:i<l1.length
 ·rw[gL_ hi] at hx;have hle:(i+1)*m<=l1.length*m:=nM_ _ hi
  grind
 grind [nM_,List.drop_append,List.drop_eq_nil_of_le,Nat.sub_mul]
def fq (g:XG) (loc:Int):List bS:=
 bif F (ec g) 0 then(bif dH loc 0 then [] else match g.order[loc.toNat]? with | some l=>⟨0,loc⟩::l | none=>[]) else []
theorem Dl {g:XG} {loc:Int} (h:F (ec g) 0=false):fq g loc= []:=by unfold fq;rw[h];rfl
theorem Fz {g:XG} {loc:Int} (h:dH loc 0=true):fq g loc= []:=by unfold fq;simp_all
theorem Fy {g:XG} {loc:Nat} (h:g.order.length<=loc):fq g (.ofNat loc)= []:=by
 unfold fq
 simp_all
theorem te {g:XG} {loc:Nat} {l:List bS} (hc:F (ec g) 0=true) (h:g.order[loc]? =some l):fq g (.ofNat loc)=⟨0,.ofNat loc⟩::l:=by
 have e:(Int.ofNat loc).toNat=loc:=rfl;have e2:dH (.ofNat loc) 0=false:=by rw[show(0:Int)= .ofNat 0 from Z,lK];simp
 unfold fq
 simp_all
end Go.Ev
namespace Go.Ev
variable [Env] {x:Operand}
theorem IW {P:Program} {G:Cx} {ev:Operand->Option V} {O:aB} {c:Call} {y:Operand} {a b:Int} {k:IntKind} (d:c.callee= .builtin .min) (z:c.args.toList= [x,y]) (hx:ev x=some (.int k a)) (hy:ev y=some (.int k b)):eo P G ev O (.call c)= .val (.int k (bif dH b a then b else a)) O:=by
 refine bU (by simp[kindOf,d]) ?_;have e:uE k k=true:=by cases k<;>rfl
 simp only[eh,d,z,hx,hy,RS,e,cond_true]
end Go.Ev
namespace Go.Ev
variable [Env]
variable {G:Cx} {K:KP} {O:aB} {L:Own} {g:XG} {ls:List (List bS)}
theorem Kt (C:Plain G) {l:List Int} {v:V} (h:bO K 1 ek l v) (hn:l.length<=1048576) (ar:H O K L):EC G 28 [v] O fun u O'=>∃M,cy 1 2 ek l u M/\H O' K (M++L):=by
 have h0:=h;rcases h0 with ⟨rfl,rfl⟩ | ⟨b,off,c,cells,e,ro,rfl,_⟩
 ·refine V9 C Tryz.func28 Z<|Wf 20 Z ?_;exact aA Z Z ⟨[],.inl ⟨Z,Z,Z⟩,ar⟩
 refine V9 C Tryz.func28 Z<|Vw 17 Z<|fh ar Z (bN (e:=2) (m:=1) (z:=[D]) (cs:=[]) U U U U (by rfl)) (fun _=>Z) (fun O b1 ar=>?_);refine vQ 1 Z<|yO (R:=ek) (m:=1) (e:=2) ar h ek.leaf hn (by simp) (by decide) (.inl Z) Z Z Z Z Z U U U Z Z (fun _=>Z) (fun O E I news e2 ar d A B=>?_);refine VA 4 Z ?_;exact aA Z Z ⟨[(E,.row ([]++news) e2 false)],.inr ⟨E,I,news,e2,by rw[nA_],Z,d,A,by simpa using B,hn⟩,ar⟩
theorem NS (C:Plain G) {l:List cm} {v:V} (h:bO K 5 gG l v) (hn:l.length<=1048576) (ar:H O K L):EC G 157 [v] O fun u O'=>∃M,cy 5 38 gG l u M/\H O' K (M++L):=by
 have h0:=h;rcases h0 with ⟨rfl,rfl⟩ | ⟨b,off,c,cells,e,ro,rfl,_⟩
 ·refine V9 C Tryz.func157 Z<|Wf 20 Z ?_;exact aA Z Z ⟨[],.inl ⟨Z,Z,Z⟩,ar⟩
 refine V9 C Tryz.func157 Z<|Vw 17 Z<|fh ar Z (bN (e:=38) (m:=5) (z:=[D,D,D,D,D]) (cs:=[]) U U U U (by rfl)) (fun _=>Z) (fun O b1 ar=>?_);refine vQ 1 Z<|yO (R:=gG) (m:=5) (e:=38) ar h gG.leaf hn (by simp) (by decide) (.inl Z) Z Z Z Z Z U U U Z Z (fun _=>Z) (fun O E I news e2 ar d A B=>?_);refine VA 4 Z ?_;exact aA Z Z ⟨[(E,.row ([]++news) e2 false)],.inr ⟨E,I,news,e2,by rw[nA_],Z,d,A,by simpa using B,hn⟩,ar⟩
theorem Fl (C:Plain G) {l:List bS} {v:V} (h:bO K 2 dK l v) (hn:l.length<=1048576) (ar:H O K L):EC G 84 [v] O fun u O'=>∃M,cy 2 87 dK l u M/\H O' K (M++L):=by
 have h0:=h;rcases h0 with ⟨rfl,rfl⟩ | ⟨b,off,c,cells,e,ro,rfl,_⟩
 ·refine V9 C Tryz.func84 Z<|Wf 20 Z ?_;exact aA Z Z ⟨[],.inl ⟨Z,Z,Z⟩,ar⟩
 refine V9 C Tryz.func84 Z<|Vw 17 Z<|fh ar Z (bN (e:=87) (m:=2) (z:=[D,D]) (cs:=[]) U U U U (by rfl)) (fun _=>Z) (fun O b1 ar=>?_);refine vQ 1 Z<|yO (R:=dK) (m:=2) (e:=87) ar h dK.leaf hn (by simp) (by decide) (.inl Z) Z Z Z Z Z U U U Z Z (fun _=>Z) (fun O E I news e2 ar d A B=>?_);refine VA 4 Z ?_;exact aA Z Z ⟨[(E,.row ([]++news) e2 false)],.inr ⟨E,I,news,e2,by rw[nA_],Z,d,A,by simpa using B,hn⟩,ar⟩
theorem Kv (W:Plain G) {ls:List (List cm)} {v:V} (h:bO K 1 (RL K 5 gG) ls v) (hn:ls.length<=1000) (R:∀l∈ls,l.length<=1048576) (ar:H O K L):
  EC G 120 [v] O fun u O'=>∃bo us M,u= .slice bo 0 ls.length (.known ls.length)/\eX 5 38 gG ls us M/\H O' K (M++(bo,.row us 25 false)::L):=by
 refine V9 W Tryz.func120 Z<|Vw 8 Z<|J Z (W5 h Z Z Z (e:=25) Z) Z<|fh ar Z (ie (n:=ls.length) (e:=25) (w:=24) (z:=[.av]) Z U U U Z Z oM oM) (fun _=>Z) (fun O bo ar=>?_);rw[fL] at ar;refine TE 7 Z (J Z (W5 h Z Z Z (e:=25) Z) Z (UI 4 Z (bk ([4,5]++rg 11 11) (fun j t O=>∃(i:Nat) (us:List V) (M:Own),j+i=ls.length/\eX 5 38 gG (ls.take i) us M/\t.get 11=some (nI i)/\H O K (M++(bo,.row (us++List.replicate (ls.length-i) V.av) 25 false)::L)) (ls.length) ⟨0,[],[],Z,.nil,Z,ar⟩ ?_)));clear ar;intro X t O ak hI;obtain⟨i,us,M,ac,hO,C,ar⟩:=hI;obtain⟨oo,rfl⟩:=ak.q1 C Z;refine Vv 6 Z<|aG Z (fun A=>?_) (fun A=>?_)
 ·refine SF 7 Z ?_;obtain⟨am,d,B⟩:=di A;refine WV (e:=25) (m:=1) h d Z Z Z Z (fun ao aa E ab I=>?_);have hr14':=I;obtain⟨ap,rfl,N⟩:=hr14';refine J Z (W7 ar E Z Z) Z<|Vz 8 Z<|kw (W2 Z Z Z) (NS W N (R _<|gB_ d) ar) ?_;rintro Q O ⟨S,hM19,ar⟩;refine J Z (eH (e:=25) (m:=1) Z U Z Z B) Z ?_;rw[<-lQ_] at ar;have T:us.length=i:=by rw[hO.length,lT_];omega
  refine iq Z (gn Z Z hM19.leaf.1 ar.LO (m:=1) U Z (by rw[lA_,List.length_replicate];omega)<|aj hM19.leaf.2 Z) Z ?_;rw[Ix T B];replace ar:=ar.Ha (.row (us++[Q]++List.replicate (ls.length-(i+1)) V.av) 25 false);refine af<|az<|Wd 4 Z<|aD ⟨X-1,by omega,oF,i+1,us++[Q],S++M,by omega,by rw[zb_,d];exact .snoc hO hM19,cI<|aX (by have:=h.cS;omega),ar⟩
 refine UH 3 Z<|aN<|Wf 7 Z ?_;exact aA Z Z ⟨bo,us,M,Z,by rwa[tL_<|bK A] at hO,by rwa[show ls.length-i=0 from by have:=bK A;omega,List.replicate_zero,zk_] at ar⟩
theorem Bq (W:Plain G) {v:V} (h:bO K 1 (RL K 2 dK) ls v) (hn:ls.length<=1000) (R:∀l∈ls,l.length<=1048576) (ar:H O K L):
  EC G 121 [v] O fun u O'=>∃bo us M,u= .slice bo 0 ls.length (.known ls.length)/\eX 2 87 dK ls us M/\H O' K (M++(bo,.row us 42 false)::L):=by
 refine V9 W Tryz.func121 Z<|Vw 8 Z<|J Z (W5 h Z Z Z (e:=42) Z) Z<|fh ar Z (ie (n:=ls.length) (e:=42) (w:=24) (z:=[.av]) Z U U U Z Z oM oM) (fun _=>Z) (fun O bo ar=>?_);rw[fL] at ar;refine TE 7 Z (J Z (W5 h Z Z Z (e:=42) Z) Z (UI 4 Z (bk ([4,5]++rg 11 11) (fun j t O=>∃(i:Nat) (us:List V) (M:Own),j+i=ls.length/\eX 2 87 dK (ls.take i) us M/\t.get 11=some (nI i)/\H O K (M++(bo,.row (us++List.replicate (ls.length-i) V.av) 42 false)::L)) (ls.length) ⟨0,[],[],Z,.nil,Z,ar⟩ ?_)));clear ar;intro X t O ak hI;obtain⟨i,us,M,ac,hO,C,ar⟩:=hI;obtain⟨oo,rfl⟩:=ak.q1 C Z;refine Vv 6 Z<|aG Z (fun A=>?_) (fun A=>?_)
 ·refine SF 7 Z ?_;obtain⟨am,d,B⟩:=di A;refine WV (e:=42) (m:=1) h d Z Z Z Z (fun ao aa E ab I=>?_);have hr14':=I;obtain⟨ap,rfl,N⟩:=hr14';refine J Z (W7 ar E Z Z) Z<|Vz 8 Z<|kw (W2 Z Z Z) (Fl W N (R _<|gB_ d) ar) ?_;rintro Q O ⟨S,hM19,ar⟩;refine J Z (eH (e:=42) (m:=1) Z U Z Z B) Z ?_;rw[<-lQ_] at ar;have T:us.length=i:=by rw[hO.length,lT_];omega
  refine iq Z (gn Z Z hM19.leaf.1 ar.LO (m:=1) U Z (by rw[lA_,List.length_replicate];omega)<|aj hM19.leaf.2 Z) Z ?_;rw[Ix T B];replace ar:=ar.Ha (.row (us++[Q]++List.replicate (ls.length-(i+1)) V.av) 42 false);refine af<|az<|Wd 4 Z<|aD ⟨X-1,by omega,oF,i+1,us++[Q],S++M,by omega,by rw[zb_,d];exact .snoc hO hM19,cI<|aX (by have:=h.cS;omega),ar⟩
 refine UH 3 Z<|aN<|Wf 7 Z ?_;exact aA Z Z ⟨bo,us,M,Z,by rwa[tL_<|bK A] at hO,by rwa[show ls.length-i=0 from by have:=bK A;omega,List.replicate_zero,zk_] at ar⟩
def Oo (g:XG):Prop:=g.init.length<=1000/\g.threads.length<=1000/\(∀l∈g.threads,l.length<=1048576)/\g.from_.length<=1000/\(∀l∈g.from_,l.length<=1048576)/\g.order.length<=1000/\(∀l∈g.order,l.length<=1048576)
structure SM (g:XG) (u1:V) (M1:Own) (b2:Nat) (us2:List V) (M2:Own) (b3:Nat) (us3:List V) (M3:Own) (b4:Nat) (us4:List V) (M4:Own):Prop where
 init:cy 1 2 ek g.init u1 M1
 threads:eX 5 38 gG g.threads us2 M2
 from_:eX 2 87 dK g.from_ us3 M3
 order:eX 2 87 dK g.order us4 M4
abbrev Ts (M1:Own) (b2:Nat) (us2:List V) (M2:Own) (b3:Nat) (us3:List V) (M3:Own) (b4:Nat) (us4:List V) (M4:Own) (L:Own):Own:=
 M4++(b4,.row us4 42 false)::(M3++(b3,.row us3 42 false)::(M2++(b2,.row us2 25 false)::(M1++L)))
abbrev Un (g:XG) (u1:V) (b2 b3 b4:Nat):List V:=[u1,.slice b2 0 g.threads.length (.known g.threads.length),.slice b3 0 g.from_.length (.known g.from_.length),.slice b4 0 g.order.length (.known g.order.length)]
theorem NU (z:Plain G) {a b c d:V} (h:dS K g a b c d) (u:Oo g) (ar:H O K L):
  EC G 82 [.agg [a,b,c,d]] O fun v O'=>∃Q M1 E A R I B S M C T,v= .agg (Un g Q E I M)/\SM g Q M1 E A R I B S M C T/\H O' K (Ts M1 E A R I B S M C T L):=by
 have h':=h;obtain⟨hi,W,hf,N⟩:=h';refine V9 z Tryz.func82 Z<|Vw 2 Z<|kb ar (cH Z Z) (fun O b1 ar=>?_);refine kb ar (W6 (cs:=[.av,.av,.av,.av])) (fun O E ar=>?_);refine UJ 3 Z (aL (l:=[(0,[]),(1,[]),(3,[]),(4,[]),(6,[]),(7,[]),(9,[]),(10,[]),(2,[4,7,10]),(5,[7,10]),(8,[10]),(11,[]),(12,[]),(13,[])]) U U<|Wl ar 8 [0,1,1,1,2,1,3,1] Z Z<|ed Z Z (W2 Z Z Z) (fun _=>Z) (Kt z hi (by have:=u.1;omega) ar) ?_);rintro u5 O ⟨M5,hM5,ar⟩;refine⟨(bj (bx Z Z Z Z Z (W4 Z ar.bG.pop.g0 Z) W.dQ)<|bj (bx Z Z Z Z Z (W4 Z ar.bG.pop.g0 Z) hf.dQ)<|bj (bx Z Z Z Z Z (W4 Z ar.bG.pop.g0 Z) N.dQ) aT),?_⟩;refine ed Z Z (W2 Z Z Z) (fun _=>Z) (Kv z W u.2.1 u.2.2.1 ar) ?_;rintro _ O ⟨I,ac,M8,rfl,hO8,ar⟩;refine⟨(bj (bx Z Z Z Z Z (W4 Z ar.bG.pop.bG.pop.g0 Z) hf.dQ)<|bj (bx Z Z Z Z Z (W4 Z ar.bG.pop.bG.pop.g0 Z) N.dQ) aT),?_⟩;refine ed Z Z (W2 Z Z Z) (fun _=>Z) (Bq z hf u.2.2.2.1 u.2.2.2.2.1 ar) ?_;rintro _ O ⟨M,aa,ak,rfl,hO11,ar⟩;refine⟨(bj (bx Z Z Z Z Z (W4 Z ar.bG.pop.bG.pop.bG.pop.g0 Z) N.dQ) aT),?_⟩;refine ed Z Z (W2 Z Z Z) (fun _=>Z) (Bq z N u.2.2.2.2.2.1 u.2.2.2.2.2.2 ar) ?_;rintro _ O ⟨b5,ab,am,rfl,hO14,ar⟩;refine⟨aT,?_⟩;refine ah Z Z (cE (places:=[(0,1),(1,1),(2,1),(3,1)]) (zero:=[.av,.av,.av,.av]) (cs:=[_,_,_,_]) U U U (aZ Z Z hM5.leaf.1 Z<|aZ Z Z Z Z<|aZ Z Z Z Z<|aZ Z Z Z Z bE) U) Z<|eF ar (.bV (.there (.bV (.there (.bV (.there (.bV .here))))))) Z Z (Sx Z Z Z ar.bG.pop.bG.pop.bG.pop.bG.g0 (m:=4) Z (aj hM5.leaf.2 Z) (cells':=[_,_,_,_]) Z) Z (fun O ar=>?_);refine⟨aT,?_⟩;refine VC 3 Z ?_;exact dh Z Z ar.bG.pop.bG.pop.bG.pop.bG.g0 (m:=4) U Z ⟨_,_,_,_,_,_,_,_,_,_,_,Z,⟨hM5,hO8,hO11,hO14⟩,ar.sub<|eb (.cons_cons _<|eb (.cons_cons _<|eb (.cons_cons _<|eb (.cons _ (.cons _ (.refl _))))))⟩
theorem Ft (u:Plain G) (e:cm) (ar:H O K L):Ca G K L 258 [.agg<|ints e.ints] O <| .bool (cz e):=by
 refine V9 u Tryz.func258 Z<|Vw 2 Z<|kb ar (cH Z Z) (fun O b1 ar=>?_);refine UQ ar 8 [0,0] Z Z<|ky Z (an Z) (fun d=>?_) (fun d=>?_)
 ·refine VA 8 Z ?_;exact aA Z Z ⟨cB (by unfold cz;simp only[d,ct,cf]),ar.pop⟩
 refine VG ar 8 [0,0] Z Z ?_;exact aA Z Z ⟨cB (by unfold cz;simp only[d,ct,cf]),ar.pop⟩
theorem l5 (u:Plain G) (e:cm) (ar:H O K L):Ca G K L 244 [.agg<|ints e.ints] O <| .bool (bz e):=by
 refine V9 u Tryz.func244 Z<|Vw 2 Z<|kb ar (cH Z Z) (fun O b1 ar=>?_);refine UQ ar 8 [0,0] Z Z<|ky Z (an Z) (fun d=>?_) (fun d=>?_)
 ·refine VA 8 Z ?_;exact aA Z Z ⟨cB (by unfold bz;simp only[d,ct,cf]),ar.pop⟩
 refine VG ar 8 [0,0] Z Z ?_;exact aA Z Z ⟨cB (by unfold bz;simp only[d,ct,cf]),ar.pop⟩
theorem uA (hG:Plain G) {a b c d:V} (h:dS K g a b c d) (th ix:Int) (ar:H O K L):Ca G K L 259 [.agg [a,b,c,d],.agg [.int .i64 th,.int .i64 ix]] O <| .tuple [.agg<|ints (nf<|dV g ⟨th,ix⟩).ints,.bool (dV g ⟨th,ix⟩).isSome]:=by
 have h':=h;obtain⟨hi,R,hf,ho⟩:=h';refine V9 hG Tryz.func259 Z<|Vw 2 Z<|kb ar (cH Z Z) (fun O b1 ar=>?_);refine kb ar (cH Z Z) (fun O b2 ar=>?_);refine kb ar (W6 (cs:=[D,D,D,D,D])) (fun O b3 ar=>?_);refine TF ar 9 [0,1] Z Z<|Vy 2 Z<|aG Z (fun Q=>?_) (fun Q=>?_)
 ·refine UO ar 6 [1,1] Z Z<|ky Z (an Z) (fun A=>?_) (fun A=>?_)
  ·refine UK 12 Z (J Z (W1 (places:=[(0,1),(1,1),(2,1),(3,1),(4,1)]) (zero:=[D,D,D,D,D]) (cs:=[_,_,_,_,_]) Z) Z<|ks ar (Xb Z Z Z ar.g0 Z) (fun O ar=>?_));refine VA 4 Z<|aH<|aH (?_);exact cV Z Z ar.g0 (m:=5) U Z Z ⟨by rw[uL A];rfl,ar.pop.pop.pop⟩
  refine Wk ar 4 [1,1,0,2] Z Z<|J Z (W5 hi Z Z Z (e:=2) Z) Z<|Vy 4 Z<|aG Z (fun E=>?_) (fun E=>?_)
  ·obtain⟨ixn,rfl⟩:=nG A;obtain rfl:th=0:=by rw[cK] at Q;simpa using Q
   refine Vw 2 Z (J Z (W1 (places:=[(0,1),(1,1),(2,1),(3,1),(4,1)]) (zero:=[D,D,D,D,D]) (cs:=[_,_,_,_,_]) Z) Z<|ks ar (Xb Z Z Z ar.g0 Z) (fun O ar=>?_));refine VA 4 Z<|aH<|aH (?_);exact cV Z Z ar.g0 (m:=5) U Z Z ⟨by rw[show dV g _=none from by show(g.init[ixn]?).map _=_;rw[gN_<|iQ E];rfl];rfl,ar.pop.pop.pop⟩
  obtain⟨ixn,rfl⟩:=nG A;obtain rfl:th=0:=by rw[cK] at Q;simpa using Q
  refine UF 3 Z<|aL (l:=zp [0,1,2,3,4,5,6,7,8,9,10]) U U<|Wl ar 6 [1,1,0,2,1,1] Z Z ?_;obtain⟨a9,B⟩:=dc (iS E);refine WW (e:=2) (m:=1) hi B Z Z Z Z Z (fun ba ap S aE T=>?_);obtain rfl:=T;refine ah Z Z (W7 ar S Z Z) Z (ah Z Z (W1 (places:=[(0,1),(1,1),(2,1),(3,1),(4,1)]) (zero:=[D,D,D,D,D]) (cs:=[_,_,_,_,_]) Z) Z<|ia ar Z Z (Xb Z Z Z ar.g0 Z) Z (fun O ar=>?_));refine⟨aT,?_⟩;refine VC 4 Z<|aH (?_);exact cV Z Z ar.g0 (m:=5) U Z Z ⟨by rw[show dV g _=some _ from by show(g.init[ixn]?).map _=_;rw[B];rfl];rfl,ar.pop.pop.pop⟩
 refine UF 3 Z<|al<|aL (l:=zp [0,1,2,3,4,5,6,7,8,9,10,11,12,13,14,15,16,17,18,19,20,21,22,23,24,25,26,27,28]) U U<|Wl ar 3 [0,1] Z Z<|e8 Z Z (an Z) (fun _=>Z) (fun I=>?_) (fun I=>?_)
 ·refine VB 28 Z (Vw 2 Z (J Z (W1 (places:=[(0,1),(1,1),(2,1),(3,1),(4,1)]) (zero:=[D,D,D,D,D]) (cs:=[_,_,_,_,_]) Z) Z<|ks ar (Xb Z Z Z ar.g0 Z) (fun O ar=>?_)));refine UM 5 Z ?_;exact cV Z Z ar.g0 (m:=5) U Z Z ⟨by rw[AD I];rfl,ar.pop.pop.pop⟩
 refine Wl ar 4 [0,1,1,2] Z Z<|ah Z Z (W5 R Z Z Z (e:=25) Z) Z<|Wj 2 Z<|e8 Z Z (an Z) (fun _=>Z) (fun z=>?_) (fun z=>?_)
 ·refine VB 20 Z (Vw 2 Z (J Z (W1 (places:=[(0,1),(1,1),(2,1),(3,1),(4,1)]) (zero:=[D,D,D,D,D]) (cs:=[_,_,_,_,_]) Z) Z<|ks ar (Xb Z Z Z ar.g0 Z) (fun O ar=>?_)));refine UM 5 Z ?_;exact cV Z Z ar.g0 (m:=5) U Z Z ⟨by rw[D0 z];rfl,ar.pop.pop.pop⟩
 refine Wl ar 4 [1,1] Z Z<|e8 Z Z (an Z) (fun _=>Z) (fun M=>?_) (fun M=>?_)
 ·refine VB 15 Z (Vw 2 Z (J Z (W1 (places:=[(0,1),(1,1),(2,1),(3,1),(4,1)]) (zero:=[D,D,D,D,D]) (cs:=[_,_,_,_,_]) Z) Z<|ks ar (Xb Z Z Z ar.g0 Z) (fun O ar=>?_)));refine UM 5 Z ?_;exact cV Z Z ar.g0 (m:=5) U Z Z ⟨by rw[uL M];rfl,ar.pop.pop.pop⟩
 refine Wl ar 7 [1,1,1,2,0,1] Z Z ?_;obtain⟨tn,rfl⟩:=nG I;obtain⟨tm,rfl⟩:=IE Q;obtain⟨ixn,rfl⟩:=nG M;obtain⟨bb,u⟩:=dc (show tm<g.threads.length from by have:=oo z;omega);refine WW (e:=25) (m:=1) R u Z Z Z Z (cI<|fD (by have:=oo z;have:=R.cS;omega)) (fun bc a0 W a1 X=>?_);have hr54':=X;obtain⟨bd,rfl,aa⟩:=hr54';refine ah Z Z (W7 ar W Z Z) Z<|ah Z Z (W5 aa Z Z Z (e:=38) Z) Z<|VB 4 Z<|aG Z (fun N=>?_) (fun N=>?_)
 ·refine Vw 2 Z (J Z (W1 (places:=[(0,1),(1,1),(2,1),(3,1),(4,1)]) (zero:=[D,D,D,D,D]) (cs:=[_,_,_,_,_]) Z) Z<|ks ar (Xb Z Z Z ar.g0 Z) (fun O ar=>?_));refine UM 5 Z ?_;exact cV Z Z ar.g0 (m:=5) U Z Z ⟨by rw[show dV g _=none from by show(g.threads[tm]?).bind _=_;rw[u];exact gN_<|iQ N];rfl,ar.pop.pop.pop⟩
 refine UF 3 Z<|aL (l:=zp [0,1,2,3,4,5,6,7,8,9,10,11,12]) U U<|Wl ar 5 [1,2,0,1] Z Z<|WW (e:=25) (m:=1) R u Z Z Z Z (cI<|fD (by have:=oo z;have:=R.cS;omega)) (fun be a2 ab a3 ac=>?_);have hr65':=ac;obtain⟨bf,rfl,ak⟩:=hr65';refine ah Z Z (W7 ar ab Z Z) Z<|Wl ar 2 [1,1] Z Z ?_;obtain⟨bg,C⟩:=dc (iS N);refine WW (e:=38) (m:=5) ak C Z Z Z Z Z (fun bi a4 am a5 ao=>?_);obtain rfl:=ao;refine ah Z Z (W8 ar am Z Z) Z<|ia ar Z Z (Xb Z Z Z ar.g0 Z) Z (fun O ar=>?_);refine⟨aT,?_⟩;refine VC 4 Z ?_;exact cV Z Z ar.g0 (m:=5) U Z Z ⟨by rw[show dV g _=some _ from by show(g.threads[tm]?).bind _=_;rw[u];exact C];rfl,ar.pop.pop.pop⟩
section
variable {P:Program} {G:Cx}
end
variable {α:Type} {ts:Array TypeId} {cl:Call} {cap e:Nat} {so:Operand} {R:α->List V->Prop}
def pP (l:List bS):List V:=l.flatMap fun x=>ints x.ints
theorem mZ (x:bS) (l:List bS):pP (x::l)=ints x.ints++pP l:=rfl
theorem rW:∀(l:List bS),(pP l).length=l.length*2
 | []=>rfl
 | x::l=>by
  rw[mZ,lA_,rW l,zc_];show 2+_=_;omega
theorem vH:∀(l:List bS) (i:Nat),(pP l).drop (i*2)=pP (l.drop i)
 | l,0=>by simp
 | [],i+1=>by simp[pP]
 | x::l,i+1=>by
  rw[List.drop_succ_cons,<-vH l i,mZ,show(i+1)*2=(ints x.ints).length+i*2 by show _=2+_;omega,<-zl_,List.drop_left]
theorem Jg {l:List bS} {i:Nat} {x:bS} (h:l[i]? =some x):dK x (((pP l).drop (i*2)).take 2):=by
 rw[vH,cQ h,mZ,show(2:Nat)=(ints x.ints).length from Z,List.take_left];rfl
section
variable {P:Program} {G:Cx} {ev:Operand->Option V} {O:aB}
theorem FU {hi:Operand} {k:IntKind} {h' len:Nat} (h:ev hi=some (.int k (.ofNat h'))) (hl:h'<=cap):dX ev len cap none (some hi)=some (0,h'):=by
 simp only[dX,fG,h,show Nat.ble h' cap=true by simp_all,cond_true]
theorem Sz {ds:Operand} {ty sz b off len n La e':Nat} {c:rK} {v:V} {news cells cells':List V} (A:cl.callee= .builtin .copy) (B:cl.args.toList= [ds,so]) (C:cl.argTypes[0]? =some ty) (hu:P.underlying ty=some (.slice e)) (hj:(P.info? e).map (·.size)=some sz)
  (hd:ev ds=some (.slice b off len c)) (E:ev so=some v) (d:lN O sz v=some (n,news)) (u:Nat.min n len=La) (aa:1<=La) (hb:O.m.get b=some (.row cells e' false)) (hl:cM (news.take (La*sz))=true) (ab:1<=sz)
  (hle:off+(news.take (La*sz)).length<=cells.length) (I:dJ (news.take (La*sz)) cells off=cells'):eo P G ev O (.call cl)= .val (.int .i64 (.ofNat La)) (O.setObj b (.row cells' e' false)):=by
 refine lQ (by simp[kindOf,A]) ?_;obtain⟨j,z,rfl⟩:=oM_.1 hj
 have he:jv ev [ds,so]=some [.slice b off len c,v]:=by
  unfold jv dv;simp only[hd,E]
 have h0:Nat.beq La 0=false:=by
  grind [nB]
 subst I;simp only[gD,A,B,he,vL,C,hu,z,d,u,h0,cond_false,hb,ej,hl,db,show Nat.ble 1 j.size=true by simp_all,show Nat.ble (off+(news.take (La*j.size)).length) cells.length=true by simp_all,Bool.and_self,cond_true]
end
section
variable {P:Program} {G:Cx} {ev:Operand->Option V} {O:aB}
end
section
variable {P:Program} {G:Cx} {n:Nat} {t:PT V} {O:aB} {K:KP} {L:Own} {Q:Ex->PT V->aB->Prop} {ops:Array Oper} {o:Oper} {l:List Oper}
end
section
variable {P:Program} {G:Cx} {O:aB} {K:KP} {L:Own}
theorem By {m:Nat} {l2:List α} {A:V} {t:TypeId} (B:H O K L) (hx:bO K m R l2 A) (d:∀x vs,R x vs->cM vs=true) (hn:l2.length<=1048576) (aa:1<=l2.length)
  (C:ts[0]? =some t) (hu:P.underlying t=some (.slice e)) (u:rN P e m=true) (E:ei P ts[1]? =true):
  ∃news,gd P O ts .av A= .val (.slice O.next 0 l2.length (.upto m)) (O.alloc (.row news e false))/\news.length=l2.length*m/\∀(i:Nat) (x:α),l2[i]? =some x->R x ((news.drop (i*m)).take m):=by
 obtain⟨news,I,M,N,S⟩:=oB B hx d;refine⟨news,?_,M,S⟩;unfold rN at u;split at u
 ·rename_i j hj;simp only[bA_] at u;obtain⟨T,W,X,a4⟩:=u;have hm:j.size=m:=nB T;subst hm;have hz:((P.info? e).any fun j=>(j.zero.bind qq).any fun z=>(cG z).any fun cs=>Nat.beq (dU cs) j.size)=true:=by rw[hj];exact a4
  have h0:Nat.beq l2.length 0=false:=by
   grind [nB]
  unfold gd;rw[C];dsimp only;rw[hu];dsimp only;rw[hj] at hz⊢;dsimp only;rw[E,W,X];simp only[Bool.and_self,cond_true];rw[I];dsimp only;rw[N,show Nat.ble l2.length 1048576=true by simp_all,hz];simp only[Bool.and_self,cond_true,h0,cond_false];rfl
 cases u
end
section
variable {P:Program} {G:Cx} {n:Nat} {t:PT V} {O:aB} {K:KP} {L:Own} {Q:Ex->PT V->aB->Prop} {ops:Array Oper} {o:Oper} {l:List Oper}
end
section
variable {O:aB} {K:KP} {L:Own} {b:Nat} {o:cN}
end
end Go.Ev
namespace Go.Ev
variable [Env] {α:Type} {G:Cx} {us:List V} {E:Nat} {x:Operand} {P:Program} {u:V} {R:α->List V->Prop}
inductive bu (X:Own):Own->Own->Prop
 | here {L:Own}:bu X (X++L) L
 | there {y:Nat×cN} {L L0:Own}:bu X L L0->bu X (y::L) (y::L0)
 | bV {M L L0:Own}:bu X L L0->bu X (M++L) (M++L0)
theorem bu.perm {X L L0:Own} (h:bu X L L0):L.Perm (X++L0):=by
 induction h with
 | here=>simp_all
 | @there y L L0 _ ih=>exact(List.Perm.cons y ih).trans List.perm_middle.symm
 | @bV M L L0 _ ih=>
  refine(List.Perm.append_left M ih).trans ?_
  grind [List.Perm.append_right,List.perm_append_comm]
theorem bu.AN {X A B L:Own}:bu X ((A++(X++B))++L) ((A++B)++L):=by
 rw[lQ_,lQ_,lQ_];exact .bV .here
section
variable {O:aB} {K:KP} {L L0 X:Own}
theorem H.pull (h:H O K L) (hi:bu X L L0):H O K (X++L0):=h.perm hi.perm
theorem H.push (h:H O K (X++L0)) (hi:bu X L L0):H O K L:=h.perm hi.perm.symm
end
def S5 (g:XG) (tm:Nat) (e:cm) (fr:bS) (pl:Nat) (row:List cm) (frow:List bS) (orow:List bS) (loc:Nat):XG:=
 {init:=g.init,threads:=g.threads.set tm (row++[e]),from_:=g.from_.set tm (frow++[fr]),order:=bif bz e then g.order.set loc (orow.take pl++⟨.ofNat (tm+1),.ofNat row.length⟩::orow.drop pl) else g.order}
def U4 (g:XG) (th:Int) (e:cm) (fr:bS) (pl:Int):Option XG×Int:=
 bif !F (ec g) 0 then(none,2) else
 bif dH th 1 then(none,9) else
 bif dH (.ofNat g.threads.length) th then(none,9) else
 match g.threads[th.toNat-1]?,g.from_[th.toNat-1]? with
 | some row,some frow=>
  bif !dH (.ofNat row.length) 14 then(none,3) else
  bif (bif bz e then(bif dH pl 1 then true else dH (.ofNat (fq g e.loc).length) pl) else !F pl 0) then(none,2) else
  let g':=S5 g (th.toNat-1) e fr (pl.toNat-1) row frow ((g.order[e.loc.toNat]?).getD []) e.loc.toNat
  bif F (ec g') 0 then(some g',0) else(none,2)
 | _,_=>(none,9)
theorem Dn {ev:Operand->Option V} {O:aB} {m:Nat} {l:List α} {M:Own} {c:Call} {t e:TypeId} (h:cy m E R l u M) (d:c.callee= .builtin .len) (z:c.argTypes[0]? =some t) (A:c.args.toList= [x]) (hu:P.underlying t=some (.slice e)) (hx:ev x=some u):
  eo P G ev O (.call c)= .val (.int .i64 (.ofNat l.length)) O:=
 a6 (K:=fun b o=>(b,o)∈M) (h.fg fun e he=>he) d z A hu hx
theorem HE (b o l c:Nat):dQ (.slice b o l (.known c)) (.slice b o l (.known c))=true:=by
 unfold dQ;show(dQ.beqP b b && Nat.beq o o && Nat.beq l l && dQ.beqC (.known c) (.known c))=true
 grind [dQ.beqP,Nat.beq_refl,dQ.beqC]
theorem mM {i:Nat} (h:i<us.length):dJ [u] us (0+i*1)=us.set i u:=by
 rw[show 0+i*1=i by omega,lZ _ _ _ (by grind),zq_,List.set_eq_take_append_cons_drop,if_pos h,lQ_];rfl
theorem Cq {m:LM} {k:List Int} (h:(fW m k).isSome=true):(lq m k).length+1=m.length:=by
 unfold fW at h;unfold lq;cases d:qm m k 0 with
 | none=>rw[d] at h;cases h
 | some p=>
  obtain⟨j,v⟩:=p;have h1:=(ri d).2
  grind
theorem vI {loc:Nat}:∀{l:List bS} {m m':LM},lD loc l m=some m'->m'.length+l.length=m.length
 | [],m,m',h=>by cases h;rfl
 | id::l,m,m',h=>by
  have h':(bif (fW m id.ints).isSome then(bif F ((fW m id.ints).getD 0) (.ofNat loc) then lD loc l (lq m id.ints) else none) else none)=some m':=h;cases d:(fW m id.ints).isSome with
  | false=>rw[d] at h';cases h'
  | true=>
   rw[d] at h';cases he:F ((fW m id.ints).getD 0) (.ofNat loc) with
   | false=>rw[he] at h';cases h'
   | true=>
    rw[he] at h';have h1:=vI (l:=l) h';have h2:=Cq d;rw[zc_];omega
theorem vJ:∀{ls:List (List bS)} {loc:Nat} {m m':LM},nC ls loc m=some m'->∀l∈ls,l.length<=m.length
 | [],_,_,_,_,l,hl=>by cases hl
 | r::ls,loc,m,m',h,l,hl=>by
  have h':(lD loc r m).bind (nC ls (loc+1))=some m':=h;cases d:lD loc r m with
  | none=>simp_all
  | some m1=>
   rw[d] at h';have h1:=vI d;rcases mQ_.1 hl with rfl | hl
   ·omega
   have:=vJ (ls:=ls) h' l hl;omega
theorem Em {t:Nat} {m:LM} {n:Nat} {e:cm}:(yu t m n e).length<=m.length+1:=by
 unfold yu;cases bz e with
 | false=>simp_all
 | true=>
  show(qn m _ _).length<=_;unfold qn
  grind
theorem vX {t:Nat}:∀{l:List cm} {n:Nat} {m:LM},(rO t l n m).length<=m.length+l.length
 | [],_,_=>nR_ _
 | e::l,n,m=>by
  have h1:=vX (t:=t) (l:=l) (n:=n+1) (m:=yu t m n e);have h2:=Em (t:=t) (m:=m) (n:=n) (e:=e);show(rO t l (n+1)<|yu t m n e).length<=_;rw[zc_];omega
theorem vY:∀{ls:List (List cm)} {t:Nat} {m:LM},(∀l∈ls,l.length<=14)->(pI ls t m).length<=m.length+14*ls.length
 | [],_,_,_=>by simp[pI]
 | l::ls,t,m,h=>by
  have h1:=vY (ls:=ls) (t:=t+1) (m:=rO t l 0 m) fun x hx=>h x (mC_ _ hx)
  have h2:=vX (t:=t) (l:=l) (n:=0) (m:=m);have h3:=h l (mS_ ..);show(pI ls (t+1)<|rO t l 0 m).length<=_;rw[zc_];omega
theorem mz {g:XG} (h:ec g=0):∀l∈g.order,l.length<=56:=by
 intro l hl;obtain⟨b1,b2,d,b4,b5,b6,u⟩:=iE h;unfold fm at u;cases z:nC g.order 0 (pI g.threads 0 []) with
 | none=>simp_all
 | some m=>
  have h1:=vJ z l hl;have h2:=vY (ls:=g.threads) (t:=0) (m:=[]) d
  grind
end Go.Ev
namespace Go.Ev
variable [Env]
theorem zk {g:XG}:∀{ts:List (List cm)} {fs:List (List bS)} {i:Nat},lr g ts fs i=true->fs.length=ts.length->(∀l∈ts,l.length<=14)->∀f∈fs,f.length<=14
 | [],fs,_,_,hl,_,f,hf=>by
  rw[eN_ hl] at hf;cases hf
 | x::ts,[],_,_,hl,_,f,hf=>by cases hf
 | x::ts,y::fs,i,h,hl,hb,f,hf=>by
  have h':(bif F (.ofNat y.length) (.ofNat x.length) then(bif qH g i x y 0 then lr g ts fs (i+1) else false) else false)=true:=h;cases he:F (.ofNat y.length) (.ofNat x.length) with
  | false=>rw[he] at h';cases h'
  | true=>
   rw[he] at h';cases d:qH g i x y 0 with
   | false=>rw[d] at h';cases h'
   | true=>
    rw[d] at h';have e1:=ew he;have e2:=hb x (mS_ ..);rcases mQ_.1 hf with rfl | hf
    ·omega
    exact zk (ts:=ts) (fs:=fs) h' (by simpa using hl) (fun l hl=>hb l (mC_ _ hl)) f hf
end Go.Ev
namespace Go.Ev
variable [Env]
end Go.Ev
namespace Go.Ev
variable [Env]
section
variable {O σ0:aB} {K:KP} {L M:Own}
theorem H.Qj (h0:H σ0 K (M++L)) (h:H O (K.iO M) L):H O K (M++L) where
 kept b o hb:=by
  obtain⟨h1,d,u⟩:=h.kept b o (.inl hb);refine⟨h1,d,fun e he=>?_⟩;rcases List.mem_append.1 he with he | he
  ·exact(h0.kept b o hb).2.2 e (List.mem_append_left _ he)
  exact u e he
 own e he:=by
  rcases List.mem_append.1 he with he | he
  ·exact⟨(h.kept e.1 e.2 (.inr he)).1,(h.kept e.1 e.2 (.inr he)).2.1⟩
  exact h.own e he
 ne:=h0.ne
end
end Go.Ev
namespace Go.Ev
variable [Env]
inductive xg:Own->Own->Own->Prop
 | base {L:Own}:xg L [] L
 | there {x:Nat×cN} {LL M L:Own}:xg LL M L->xg (x::LL) (x::M) L
 | bV {A LL M L:Own}:xg LL M L->xg (A++LL) (A++M) L
end Go.Ev
namespace Go.Ev
variable [Env]
variable {α:Type}
theorem Mp (x:Int):dH x x=false:=by
 cases x with
 | ofNat n=>rw[lK];simp
 | negSucc n=>
  cases h:dH (.negSucc n) (.negSucc n) with
  | false=>rfl
  | true=>
   have:Nat.blt n n=true:=h
   simp_all
theorem qV (x:Int):fu x x=0:=by unfold fu;rw[Mp];rfl
theorem kr {α:Type} {c:α->α->Int} (h:∀x,c x x=0):∀l,eD c l l=0
 | []=>rfl
 | x::l=>by
  show(bif F (c x x) 0 then eD c l l else c x x)=0;rw[h x];exact kr h l
theorem qf:∀(l:List Int),(∀x∈l,x=0)->Dp l=0
 | [],_=>rfl
 | x::l,h=>by
  show(bif F x 0 then Dp l else x)=0;rw[h x<|mS_ ..];exact qf l fun y hy=>h y (mC_ _ hy)
theorem F0 (x:bS):pR x x=0:=qf _ fun y hy=>by simp only[qV,mQ_,List.not_mem_nil,or_false,or_self] at hy;exact hy
theorem FZ (x:cm):pB x x=0:=qf _ fun y hy=>by simp only[qV,mQ_,List.not_mem_nil,or_false,or_self] at hy;exact hy
theorem pT (l:List α):jd l l=0:=qV _
theorem DV (l:List bS):jc l l=0:=qf _ fun y hy=>by simp only[pT,kr F0,mQ_,List.not_mem_nil,or_false,or_self] at hy;exact hy
theorem Jh (g:XG):ik g g=0:=qf _ fun y hy=>by
 simp only[pT,kr DV,kr (c:=jd) pT,kr<|kr FZ,kr qV,mQ_,List.not_mem_nil,or_false,or_self] at hy;exact hy
theorem jJ {g:XG} {t i:Nat}:dV g ⟨.ofNat (t+1),.ofNat i⟩=(g.threads[t]?).bind (·[i]?):=rfl
def ic (t:Nat):List cm->Nat->LM
 | [],_=>[]
 | e::l,n=>bif bz e then([.ofNat (t+1),.ofNat n],e.loc)::ic t l (n+1) else ic t l (n+1)
def gX:List (List cm)->Nat->LM
 | [],_=>[]
 | l::r,t=>ic t l 0++gX r (t+1)
theorem AS {k:List Int}:∀{m:LM} {i:Nat},(∀p∈m,p.1≠k)->qm m k i=none
 | [],_,_=>rfl
 | (k',v)::m,i,h=>by
  show(bif cC k k' then some (i,v) else qm m k (i+1))=none
  have:cC k k'=false:=by
   cases hh:cC k k' with
   | false=>rfl
   | true=>exact absurd (dt.1 hh).symm (h (k',v)<|mS_ ..)
  rw[this];exact AS fun p hp=>h p (mC_ _ hp)
theorem yw {t:Nat}:∀{l:List cm} {n:Nat} {m:LM},(∀p∈m,∀k,n<=k->p.1≠[.ofNat (t+1),.ofNat k])->rO t l n m=m++ic t l n
 | [],_,m,_=>by simp[rO,ic]
 | e::l,n,m,h=>by
  show rO t l (n+1) (yu t m n e)=m++(bif bz e then _ else _);unfold yu;cases hw:bz e with
  | false=>exact yw fun p hp k hk=>h p hp k oM
  | true=>
   show rO t l (n+1) (qn m [.ofNat (t+1),.ofNat n] e.loc)=m++_
   have hp:qn m [.ofNat (t+1),.ofNat n] e.loc=m++[([.ofNat (t+1),.ofNat n],e.loc)]:=by
    unfold qn;rw[AS fun p hp=>h p hp n (nR_ _)]
   rw[hp,yw (l:=l) (n:=n+1) fun p hp k hk=>?_,lQ_]
   ·rfl
   grind
theorem l6 {t:Nat}:∀{l:List cm} {n:Nat},∀p∈ic t l n,∃k,p.1= [.ofNat (t+1),.ofNat k]/\n<=k
 | [],_,p,h=>by cases h
 | e::l,n,p,h=>by
  have h':p∈(bif bz e then([.ofNat (t+1),.ofNat n],e.loc)::ic t l (n+1) else ic t l (n+1)):=h;cases hw:bz e with
  | false=>
   rw[hw] at h';obtain⟨k,h1,d⟩:=l6 (l:=l) p h';exact⟨k,h1,by omega⟩
  | true=>
   rw[hw] at h';rcases mQ_.1 h' with rfl | h'
   ·exact⟨n,Z,nR_ _⟩
   obtain⟨k,h1,d⟩:=l6 (l:=l) p h';exact⟨k,h1,by omega⟩
theorem En:∀{ls:List (List cm)} {t:Nat} {m:LM},(∀p∈m,∀s k,t<=s->p.1≠[.ofNat (s+1),.ofNat k])->pI ls t m=m++gX ls t
 | [],_,m,_=>by simp[pI,gX]
 | l::ls,t,m,h=>by
  show pI ls (t+1) (rO t l 0 m)=m++(ic t l 0++gX ls (t+1));rw[yw fun p hp k _=>h p hp t k (nR_ _),En (ls:=ls) (t:=t+1) fun p hp s k hs=>?_,lQ_];rcases List.mem_append.1 hp with hp | hp
  ·grind
  obtain⟨k',h1,_⟩:=l6 p hp
  grind
theorem vZ {ls:List (List cm)}:pI ls 0 []=gX ls 0:=by
 rw[En fun p hp=>by cases hp];rfl
def fT (loc:Nat) (l:List bS):LM:=l.map fun id=>(id.ints,.ofNat loc)
def nH:List (List bS)->Nat->LM
 | [],_=>[]
 | r::ls,loc=>fT loc r++nH ls (loc+1)
theorem kK {α:Type}:∀{m:List α} {j:Nat} {x:α},m[j]? =some x->m.Perm (x::m.eraseIdx j)
 | [],_,_,h=>by simp at h
 | y::m,0,x,h=>by
  have:y=x:=by simpa using h
  subst this;exact List.Perm.refl _
 | y::m,j+1,x,h=>by
  have h':m[j]? =some x:=by simpa using h
  exact(List.Perm.cons y<|kK h').trans (List.Perm.swap x y _)
theorem yD {m:LM} {k:List Int} {v:Int} (h:fW m k=some v):m.Perm ((k,v)::lq m k):=by
 unfold fW at h;unfold lq;cases d:qm m k 0 with
 | none=>rw[d] at h;cases h
 | some p=>
  obtain⟨j,w⟩:=p;rw[d] at h;have hw:w=v:=by simpa using h
  subst hw;exact kK (ri d).2
theorem Ap {loc:Nat}:∀{l:List bS} {m m':LM},lD loc l m=some m'->m.Perm (fT loc l++m')
 | [],m,m',h=>by cases h;exact List.Perm.refl _
 | id::l,m,m',h=>by
  have h':(bif (fW m id.ints).isSome then(bif F ((fW m id.ints).getD 0) (.ofNat loc) then lD loc l (lq m id.ints) else none) else none)=some m':=h;cases d:fW m id.ints with
  | none=>rw[d] at h';cases h'
  | some v=>
   rw[d] at h';have h'':(bif F v (.ofNat loc) then lD loc l (lq m id.ints) else none)=some m':=h';cases he:F v (.ofNat loc) with
   | false=>rw[he] at h'';cases h''
   | true=>
    rw[he] at h'';rw[cK] at he;have hv:v= .ofNat loc:=of_decide_eq_true he;subst hv;exact(yD d).trans (List.Perm.cons _<|Ap (l:=l) h'')
theorem Aq:∀{ls:List (List bS)} {loc:Nat} {m m':LM},nC ls loc m=some m'->m.Perm (nH ls loc++m')
 | [],_,m,m',h=>by cases h;exact List.Perm.refl _
 | r::ls,loc,m,m',h=>by
  have h':(lD loc r m).bind (nC ls (loc+1))=some m':=h;cases d:lD loc r m with
  | none=>rw[d] at h';cases h'
  | some m1=>
   rw[d] at h';refine(Ap d).trans ?_;show(fT loc r++m1).Perm ((fT loc r++nH ls (loc+1))++m');rw[lQ_];exact List.Perm.append_left _<|Aq (ls:=ls) h'
theorem GJ {g:XG} (h:fm g=true):(gX g.threads 0).Perm (nH g.order 0):=by
 unfold fm at h;cases d:nC g.order 0 (pI g.threads 0 []) with
 | none=>rw[d] at h;cases h
 | some m=>
  rw[d] at h
  have h0:m= []:=by
   have h1:F (.ofNat m.length) (.ofNat 0)=true:=h;rw[eW] at h1
   simp_all
  have:=Aq d;rw[h0,zk_,vZ] at this;exact this
theorem Er {k:List Int} {v:Int}:∀{m:LM} {i:Nat},(m.map (·.1)).Nodup->(k,v)∈m->∃j,qm m k i=some (j,v)
 | (k',w)::m,i,hn,h=>by
  rw[List.map_cons,List.nodup_cons] at hn;show∃j,(bif cC k k' then some (i,w) else qm m k (i+1))=some (j,v);rcases mQ_.1 h with h1 | h1
  ·cases h1;rw[dt.2 Z];exact⟨i,Z⟩
  have:cC k k'=false:=by
   cases hh:cC k k' with
   | false=>rfl
   | true=>
    have e:=dt.1 hh
    simp_all
  rw[this];exact Er (m:=m) hn.2 h1
theorem HI {loc:Nat}:∀{l:List bS} {m rest:LM},m.Perm (fT loc l++rest)->(m.map (·.1)).Nodup->∃m',lD loc l m=some m'/\m'.Perm rest/\(m'.map (·.1)).Nodup
 | [],m,rest,h,hn=>⟨m,Z,h,hn⟩
 | id::l,m,rest,h,hn=>by
  have d:(id.ints,Int.ofNat loc)∈m:=h.mem_iff.2 (mS_ ..);obtain⟨j,hj⟩:=Er (i:=0) hn d;have A:fW m id.ints=some (.ofNat loc):=by unfold fW;rw[hj];rfl
  have hp:=yD A;have u:(lq m id.ints).Perm (fT loc l++rest):=List.Perm.cons_inv (hp.symm.trans h)
  have z:((lq m id.ints).map (·.1)).Nodup:=by
   have:=(hp.map (·.1)).nodup_iff.1 hn
   rw[List.map_cons,List.nodup_cons] at this;exact this.2
  obtain⟨m',h1,B,C⟩:=HI (l:=l) u z;refine⟨m',?_,B,C⟩;show(bif (fW m id.ints).isSome then(bif F ((fW m id.ints).getD 0) (.ofNat loc) then lD loc l (lq m id.ints) else none) else none)=some m';have he:F (.ofNat loc) (.ofNat loc)=true:=by rw[eW];simp
  rw[A];show(bif F (.ofNat loc) (.ofNat loc) then lD loc l (lq m id.ints) else none)=some m';rw[he];exact h1
theorem HJ:∀{ls:List (List bS)} {loc:Nat} {m:LM},m.Perm (nH ls loc)->(m.map (·.1)).Nodup->nC ls loc m=some []
 | [],_,m,h,_=>by rw[show m= [] from h.eq_nil];rfl
 | r::ls,loc,m,h,hn=>by
  obtain⟨m',h1,d,u⟩:=HI (l:=r) (rest:=nH ls (loc+1)) h hn;show(lD loc r m).bind (nC ls (loc+1))=some [];rw[h1];exact HJ (ls:=ls) d u
theorem qO {t:Nat}:∀{l:List cm} {n:Nat},((ic t l n).map (·.1)).Nodup
 | [],_=>List.nodup_nil
 | e::l,n=>by
  show((bif bz e then([.ofNat (t+1),.ofNat n],e.loc)::ic t l (n+1) else ic t l (n+1):LM).map (·.1)).Nodup
  cases bz e with
  | false=>exact qO (l:=l)
  | true=>
   show(([Int.ofNat (t+1),Int.ofNat n],e.loc).1::(ic t l (n+1)).map (·.1)).Nodup
   rw[List.nodup_cons];refine⟨fun h=>?_,qO (l:=l)⟩;obtain⟨p,hp,he⟩:=zn_.1 h;obtain⟨k,h1,h2⟩:=l6 p hp
   grind
theorem Bv:∀{ls:List (List cm)} {t:Nat},∀p∈gX ls t,∃s k,p.1= [.ofNat (s+1),.ofNat k]/\t<=s
 | [],_,p,h=>by cases h
 | l::ls,t,p,h=>by
  have h':p∈ic t l 0++gX ls (t+1):=h;rcases List.mem_append.1 h' with h' | h'
  ·obtain⟨k,h1,_⟩:=l6 p h';exact⟨t,k,h1,nR_ _⟩
  obtain⟨s,k,h1,h2⟩:=Bv (ls:=ls) p h';exact⟨s,k,h1,by omega⟩
theorem qN:∀{ls:List (List cm)} {t:Nat},((gX ls t).map (·.1)).Nodup
 | [],_=>List.nodup_nil
 | l::ls,t=>by
  show((ic t l 0++gX ls (t+1)).map (·.1)).Nodup
  rw[List.map_append,List.nodup_append];refine⟨qO,qN (ls:=ls),fun a d b hb aa=>?_⟩;obtain⟨p,hp,rfl⟩:=zn_.1 d;obtain⟨q,hq,rfl⟩:=zn_.1 hb;obtain⟨k,h1,_⟩:=l6 p hp;obtain⟨s,k',h3,h4⟩:=Bv q hq
  grind
theorem qF {g:XG}:fm g=true↔(gX g.threads 0).Perm (nH g.order 0):=by
 refine⟨GJ,fun h=>?_⟩;unfold fm;rw[vZ,HJ h qN];rfl
theorem tY {g:XG} {t:Nat}:∀{l:List cm} {f:List bS} {n:Nat},f.length=l.length->(qH g t l f n=true↔∀i e q,l[i]? =some e->f[i]? =some q->yP g t (n+i) e q=true)
 | [],f,n,h=>⟨fun _ i e q h1=>by simp at h1,fun _=>Z⟩
 | x::l,[],n,h=>by cases h
 | x::l,y::f,n,h=>by
  have hl:f.length=l.length:=by simpa using h
  show(bif yP g t n x y then qH g t l f (n+1) else false)=true↔_;constructor
  ·intro hh i e q h1 d;cases u:yP g t n x y with
   | false=>rw[u] at hh;cases hh
   | true=>
    rw[u] at hh;cases i with
    | zero=>
     have e1:x=e:=by simpa using h1
     have e2:y=q:=by simpa using d
     subst e1 e2;exact u
    | succ i=>
     have:=(tY hl).1 hh i e q (by simpa using h1) (by simpa using d);rwa[show n+1+i=n+(i+1) by omega] at this
  intro hh;rw[show yP g t n x y=true from hh 0 x y Z Z];refine(tY hl).2 fun i e q h1 d=>?_
  have:=hh (i+1) e q (by simpa using h1) (by simpa using d);rwa[show n+(i+1)=n+1+i by omega] at this
theorem rD {g:XG}:∀{ls:List (List cm)} {fs:List (List bS)} {t:Nat},fs.length=ls.length->(lr g ls fs t=true↔∀i l f,ls[i]? =some l->fs[i]? =some f->f.length=l.length/\∀j e q,l[j]? =some e->f[j]? =some q->yP g (t+i) j e q=true)
 | [],f,n,h=>⟨fun _ i e q h1=>by simp at h1,fun _=>Z⟩
 | x::l,[],n,h=>by cases h
 | x::l,y::f,t,h=>by
  have hl:f.length=l.length:=by simpa using h
  show(bif F (.ofNat y.length) (.ofNat x.length) then(bif qH g t x y 0 then lr g l f (t+1) else false) else false)=true↔_;constructor
  ·intro hh i e q h1 A;cases he:F (.ofNat y.length) (.ofNat x.length) with
   | false=>rw[he] at hh;cases hh
   | true=>
    rw[he] at hh;cases B:qH g t x y 0 with
    | false=>rw[B] at hh;cases hh
    | true=>
     rw[B] at hh;cases i with
     | zero=>
      have e1:x=e:=by simpa using h1
      have e2:y=q:=by simpa using A
      subst e1 e2;refine⟨ew he,fun j w z d u=>?_⟩;have:=(tY<|ew he).1 B j w z d u;rwa[nA_] at this
     | succ i=>
      have:=(rD hl).1 hh i e q (by simpa using h1) (by simpa using A);rwa[show t+1+i=t+(i+1) by omega] at this
  intro hh;obtain⟨h1,A⟩:=hh 0 x y Z Z;rw[show F (.ofNat y.length) (.ofNat x.length)=true by rw[eW];simp[h1]];rw[show qH g t x y 0=true from(tY h1).2 fun i e q d u=>by have:=A i e q d u;rwa[nA_]];refine(rD hl).2 fun i e q d u=>?_
  have:=hh (i+1) e q (by simpa using d) (by simpa using u);rwa[show t+(i+1)=t+1+i by omega] at this
structure dC (g:XG):Prop where
 threads:g.threads.length<=4
 init:g.init.length<=6
 short:∀(i:Nat) (l:List cm),g.threads[i]? =some l->l.length<=14
 from_:g.from_.length=g.threads.length
 order:g.order.length=g.init.length
 rows:∀(i:Nat) (l:List cm) (f:List bS),g.threads[i]? =some l->g.from_[i]? =some f->f.length=l.length/\∀(j:Nat) (e:cm) (q:bS),l[j]? =some e->f[j]? =some q->yP g i j e q=true
 perm:(gX g.threads 0).Perm (nH g.order 0)
theorem fl {g:XG}:ec g=0↔dC g:=by
 constructor
 ·intro h;obtain⟨A,B,C,z,E,G,I⟩:=iE h;refine⟨A,B,fun i l hl=>C l (gB_ hl),z,E,fun i l f d u=>?_,qF.1 I⟩;have:=(rD z).1 G i l f d u
  simp_all
 intro h;unfold ec
 have h1:fj g=false:=by
  unfold fj;rw[show dH 4 (.ofNat g.threads.length)=false by rw[show(4:Int)= .ofNat 4 from Z,lK];have:=h.threads;simp;omega];rw[show dH 6 (.ofNat g.init.length)=false by rw[show(6:Int)= .ofNat 6 from Z,lK];have:=h.init;simp;omega];show(g.threads.any fun l=>dH 14 (.ofNat l.length))=false;rw[List.any_eq_false];intro l hl;obtain⟨i,hi⟩:=gO_ hl;have:=h.short i l hi;rw[show(14:Int)= .ofNat 14 from Z,lK];simp;omega
 rw[h1];rw[show F (.ofNat g.from_.length) (.ofNat g.threads.length)=true by rw[eW];simp[h.from_]];rw[show F (.ofNat g.order.length) (.ofNat g.init.length)=true by rw[eW];simp[h.order]];rw[show lr g g.threads g.from_ 0=true from(rD h.from_).2 fun i l f d u=>by have:=h.rows i l f d u;rwa[nA_]];rw[qF.2 h.perm];rfl
variable {c:α->α->Int}
theorem fR (x:Int):F x x=true:=by rw[cK];simp
theorem jf (x y:Int):(x<y/\fu x y= -1)∨(x=y/\fu x y=0)∨(y<x/\fu x y=1):=by
 grind [fu,dq]
structure z7 {α:Type} (c:α->α->Int):Prop where
 pM:∀x y,c y x= -c x y
 small:∀x y,-1<=c x y/\c x y<=1
 trans:∀x y z,c x y<=0->c y z<=0->c x z<=0
theorem tT:z7 fu where
 pM x y:=by rcases jf x y with ⟨h,e⟩ | ⟨h,e⟩ | ⟨h,e⟩<;>rcases jf y x with ⟨h',e'⟩ | ⟨h',e'⟩ | ⟨h',e'⟩<;>omega
 small x y:=by rcases jf x y with ⟨h,e⟩ | ⟨h,e⟩ | ⟨h,e⟩<;>omega
 trans x y z:=by rcases jf x y with ⟨h,e⟩ | ⟨h,e⟩ | ⟨h,e⟩<;>rcases jf y z with ⟨h',e'⟩ | ⟨h',e'⟩ | ⟨h',e'⟩<;>rcases jf x z with ⟨d,e2⟩ | ⟨d,e2⟩ | ⟨d,e2⟩<;>omega
theorem z7.pull {α β:Type} {c:α->α->Int} (h:z7 c) (f:β->α):z7 fun x y=>c (f x) (f y):=⟨fun x y=>h.pM _ _,fun x y=>h.small _ _,fun x y z=>h.trans _ _ _⟩
theorem zU (a b:Int):(bif F a 0 then b else a)=if a=0 then b else a:=by
 rw[cK]
 simp_all
theorem z7.lex {α:Type} {c d:α->α->Int} (u:z7 c) (hd:z7 d):z7 fun x y=>bif F (c x y) 0 then d x y else c x y where
 pM x y:=by
  have h1:=u.pM x y;have h2:=hd.pM x y;simp only[zU];omega
 small x y:=by
  have h1:=u.small x y;have h2:=hd.small x y
  grind
 trans x y z:=by
  have a1:=u.pM x y;have a2:=u.pM y z;have a3:=u.pM x z;have t1:=u.trans x y z;have t2:=u.trans z y x;have t3:=u.trans y z x;have t4:=u.trans z x y;have t5:=u.trans y x z;have t6:=u.trans x z y;have td:=hd.trans x y z;simp only[zU];omega
theorem z7.fz {l:α->α->List Int} (d:z7 c) (h:z7 fun x y=>Dp (l x y)):z7 fun x y=>Dp (c x y::l x y):=d.lex h
theorem pre_nil:z7 fun _ _:α=>Dp []:=⟨fun _ _=>Z,fun _ _=>⟨by decide,by decide⟩,fun _ _ _ _ _=>by decide⟩
theorem y4 {α:Type} {c:α->α->Int} (d:z7 c):z7 (eD c) where
 pM:=by
  intro l;induction l with
  | nil=>intro m;cases m<;>rfl
  | cons x l ih=>
   intro m;cases m with
   | nil=>rfl
   | cons y m=>
    show(bif F (c y x) 0 then eD c m l else c y x)= -(bif F (c x y) 0 then eD c l m else c x y);have h1:=d.pM x y;have h2:=ih m;simp only[zU];omega
 small:=by
  intro l;induction l with
  | nil=>
   intro m;cases m with
   | nil=>exact(by decide:(-1:Int)<=0/\(0:Int)<=1)
   | cons y m=>exact(by decide:(-1:Int)<=-1/\(-1:Int)<=1)
  | cons x l ih=>
   intro m;cases m with
   | nil=>exact(by decide:(-1:Int)<=1/\(1:Int)<=1)
   | cons y m=>
    show-1<=(bif F (c x y) 0 then eD c l m else c x y)/\(bif F (c x y) 0 then eD c l m else c x y)<=1;have h1:=d.small x y
    grind
 trans:=by
  intro l;induction l with
  | nil=>intro m n _ _;cases n<;>first | exact(by decide:(0:Int)<=0) | exact(by decide:(-1:Int)<=0)
  | cons x l ih=>
   intro m n;cases m with
   | nil=>intro h;exact absurd (show(1:Int)<=0 from h) (by decide)
   | cons y m=>
    cases n with
    | nil=>intro _ h;exact absurd (show(1:Int)<=0 from h) (by decide)
    | cons z n=>
     show(bif F (c x y) 0 then eD c l m else c x y)<=0->(bif F (c y z) 0 then eD c m n else c y z)<=0->(bif F (c x z) 0 then eD c l n else c x z)<=0;have a1:=d.pM x y;have a2:=d.pM y z;have a3:=d.pM x z;have t1:=d.trans x y z;have t2:=d.trans z y x;have t3:=d.trans y z x;have t4:=d.trans z x y;have t5:=d.trans y x z;have t6:=d.trans x z y;have td:=ih m n;simp only[zU];omega
theorem rq:z7 (jd (α:=α)):=tT.pull fun l:List α=>.ofNat l.length
theorem R5:z7 pR:=(tT.pull bS.bH).fz ((tT.pull bS.index).fz pre_nil)
theorem R4:z7 pB:=(tT.pull cm.kind).fz ((tT.pull cm.loc).fz ((tT.pull cm.order).fz ((tT.pull cm.read).fz ((tT.pull cm.write).fz pre_nil))))
theorem Il:z7 jc:=rq.fz ((y4 R5).fz pre_nil)
theorem EK:z7 ik:=
 (rq.pull XG.threads).fz (((y4 rq).pull XG.threads).fz (((y4<|y4 R4).pull XG.threads).fz ((rq.pull XG.from_).fz (((y4 Il).pull XG.from_).fz ((rq.pull XG.order).fz (((y4 Il).pull XG.order).fz ((rq.pull XG.init).fz (((y4 tT).pull XG.init).fz pre_nil))))))))
theorem wL {x y:Int} (h:fu x y=0):x=y:=by rcases jf x y with ⟨h',e⟩ | ⟨h',e⟩ | ⟨h',e⟩<;>omega
theorem hJ {x:Int} {l:List Int} (h:Dp (x::l)=0):x=0/\Dp l=0:=by
 have h:(bif F x 0 then Dp l else x)=0:=h;rw[zU] at h;omega
theorem BR {α:Type} {c:α->α->Int} (d:∀x y,c x y=0->x=y):∀{l m:List α},eD c l m=0->l=m
 | [],[],_=>rfl
 | [],_::_,h=>absurd (show(-1:Int)=0 from h) (by decide)
 | _::_,[],h=>absurd (show(1:Int)=0 from h) (by decide)
 | x::l,y::m,h=>by
  have h:(bif F (c x y) 0 then eD c l m else c x y)=0:=h;rw[zU] at h;split at h
  ·rename_i h1;rw[d x y h1,BR d h]
  contradiction
theorem K9 (x y:bS) (h:pR x y=0):x=y:=by
 obtain⟨h1,h⟩:=hJ h;obtain⟨h2,h⟩:=hJ h;cases x;cases y
 grind [wL]
theorem K8 (x y:cm) (h:pB x y=0):x=y:=by
 obtain⟨h1,h⟩:=hJ h;obtain⟨h2,h⟩:=hJ h;obtain⟨h3,h⟩:=hJ h;obtain⟨h4,h⟩:=hJ h;obtain⟨h5,h⟩:=hJ h;cases x;cases y
 grind [wL]
theorem Ji (x y:List bS) (h:jc x y=0):x=y:=by
 obtain⟨_,h⟩:=hJ h;obtain⟨d,_⟩:=hJ h;exact BR K9 d
theorem HK {x y:XG} (h:ik x y=0):x=y:=by
 obtain⟨_,h⟩:=hJ h;obtain⟨_,h⟩:=hJ h;obtain⟨h3,h⟩:=hJ h;obtain⟨_,h⟩:=hJ h;obtain⟨h5,h⟩:=hJ h;obtain⟨_,h⟩:=hJ h;obtain⟨h7,h⟩:=hJ h;obtain⟨_,h⟩:=hJ h;obtain⟨h9,_⟩:=hJ h;cases x;cases y
 grind [BR,K8,Ji,wL]
variable {j ln:Nat} {id:bS}
theorem oW {α β:Type} (f:α->β) {l:List α} (h:(l.map f).Nodup):l.Nodup:=List.Pairwise.of_map f (fun _ _ hh e=>hh (congrArg f e)) h
theorem CC {α:Type}:∀{l m:List α},l.Nodup->(∀x∈l,x∈m)->m.length<=l.length->l.Perm m
 | [],m,_,_,h=>by simp_all
 | x::l,m,hn,d,h=>by
  rw[List.nodup_cons] at hn;obtain⟨i,hi⟩:=gO_ (d x<|mS_ ..);have hp:=kK hi;have hlen:=hp.length_eq;rw[zc_] at hlen h;refine(List.Perm.cons x<|CC (l:=l) (m:=m.eraseIdx i) hn.2 (fun y hy=>?_) oM).trans hp.symm
  grind
theorem Eu {α:Type}:∀{l m:List α},l.Nodup->(∀x∈l,x∈m)->l.length<=m.length
 | [],_,_,_=>Nat.zero_le _
 | x::l,m,hn,d=>by
  rw[List.nodup_cons] at hn;obtain⟨i,hi⟩:=gO_ (d x<|mS_ ..);have hp:=kK hi;have hlen:=hp.length_eq;rw[zc_] at hlen⊢
  have:=Eu (l:=l) (m:=m.eraseIdx i) hn.2 fun y hy=>by
   grind
  omega
def gq (loc:Int):List cm->Nat
 | []=>0
 | e::l=>(bif (bif bz e then F e.loc loc else false) then 1 else 0)+gq loc l
def iL (loc:Int):List (List cm)->Nat
 | []=>0
 | l::r=>gq loc l+iL loc r
def rT (loc:Int) (p:List Int×Int):Bool:=F p.2 loc
theorem qW {loc:Int} {t:Nat}:∀{l:List cm} {n:Nat},((ic t l n).filter<|rT loc).length=gq loc l
 | [],_=>rfl
 | e::l,n=>by
  show(List.filter (rT loc) (bif bz e then([.ofNat (t+1),.ofNat n],e.loc)::ic t l (n+1) else ic t l (n+1))).length=(bif (bif bz e then F e.loc loc else false) then 1 else 0)+gq loc l;cases hw:bz e with
  | false=>
   simp only[cond_false,nA_];exact qW
  | true=>
   simp only[cond_true];rw[List.filter_cons];show(if F e.loc loc=true then _ else _:LM).length=_;cases he:F e.loc loc with
   | true=>simp only[if_true,cond_true,zc_];rw[qW];omega
   | false=>simp only[cond_false,nA_];rw[if_neg (by decide)];exact qW
theorem uI {loc:Int}:∀{ls:List (List cm)} {t:Nat},((gX ls t).filter<|rT loc).length=iL loc ls
 | [],_=>rfl
 | l::ls,t=>by
  show(List.filter (rT loc) (ic t l 0++gX ls (t+1))).length=gq loc l+iL loc ls;rw[List.filter_append,lA_,qW,uI]
theorem Bw {t:Nat} {k:List Int} {v:Int}:∀{l:List cm} {n:Nat},(k,v)∈ic t l n↔∃i e,l[i]? =some e/\bz e=true/\k= [.ofNat (t+1),.ofNat (n+i)]/\v=e.loc
 | [],n=>⟨fun h=>(by cases h),fun⟨i,e,h,_⟩=>by simp at h⟩
 | e::l,n=>by
  show(k,v)∈(bif bz e then([.ofNat (t+1),.ofNat n],e.loc)::ic t l (n+1) else ic t l (n+1))↔_;have ih:=Bw (t:=t) (k:=k) (v:=v) (l:=l) (n:=n+1)
  have up:(k,v)∈ic t l (n+1)↔∃i e',l[i]? =some e'/\bz e'=true/\k= [.ofNat (t+1),.ofNat (n+(i+1))]/\v=e'.loc:=by
   grind
  have cons:(∃i e',(e::l)[i]? =some e'/\bz e'=true/\k= [.ofNat (t+1),.ofNat (n+i)]/\v=e'.loc)↔(bz e=true/\k= [.ofNat (t+1),.ofNat n]/\v=e.loc)∨∃i e',l[i]? =some e'/\bz e'=true/\k= [.ofNat (t+1),.ofNat (n+(i+1))]/\v=e'.loc:=by
   constructor
   ·grind
   rintro (⟨d,u,z⟩ | ⟨i,e',h1,d,u,z⟩)
   ·exact⟨0,e,Z,d,u,z⟩
   exact⟨i+1,e',by simpa using h1,d,u,z⟩
  grind
theorem kH {k:List Int} {v:Int}:∀{ls:List (List cm)} {t:Nat},(k,v)∈gX ls t↔∃s i l e,ls[s]? =some l/\l[i]? =some e/\bz e=true/\k= [.ofNat (t+s+1),.ofNat i]/\v=e.loc
 | [],t=>⟨fun h=>(by cases h),fun⟨s,i,l,e,h,_⟩=>by simp at h⟩
 | l::ls,t=>by
  show(k,v)∈ic t l 0++gX ls (t+1)↔_;rw[List.mem_append,Bw,kH (ls:=ls)];constructor
  ·rintro (⟨i,e,h1,d,z,u⟩ | ⟨s,i,l',e,h0,h1,d,z,u⟩)
   ·exact⟨0,i,l,e,Z,h1,d,by rw[z,nA_],u⟩
   exact⟨s+1,i,l',e,by simpa using h0,h1,d,by grind,u⟩
  grind
theorem jS {k:List Int} {v:Int}:∀{ls:List (List bS)} {loc:Nat},(k,v)∈nH ls loc↔∃ln r id,ls[ln]? =some r/\id∈r/\k=id.ints/\v= .ofNat (loc+ln)
 | [],loc=>⟨fun h=>(by cases h),fun⟨ln,r,id,h,_⟩=>by simp at h⟩
 | r::ls,loc=>by
  show(k,v)∈fT loc r++nH ls (loc+1)↔_;rw[List.mem_append,jS (ls:=ls)];constructor
  ·rintro (h | ⟨ln,r',id,h1,d,u,z⟩)
   ·obtain⟨id,h1,d⟩:=zn_.1 h
    grind
   exact⟨ln+1,r',id,by simpa using h1,d,u,by grind⟩
  rintro ⟨ln,r',id,h1,d,u,z⟩;cases ln with
  | zero=>
   have:r=r':=by simpa using h1
   subst this;exact .inl<|zn_.2 ⟨id,d,by simp_all⟩
  | succ ln=>grind
theorem sW {loc:Nat} (r:List bS):(fT loc r).filter (rT (.ofNat loc))=fT loc r:=List.filter_eq_self.2 fun p hp=>by
 obtain⟨id,_,rfl⟩:=zn_.1 hp;show F (.ofNat loc) (.ofNat loc)=true;rw[eW];simp
theorem rQ {loc x:Nat} (r:List bS) (h:loc≠x):(fT loc r).filter (rT (.ofNat x))= []:=List.filter_eq_nil_iff.2 fun p hp=>by
 obtain⟨id,_,rfl⟩:=zn_.1 hp;show¬F (.ofNat loc) (.ofNat x)=true;rw[eW];simp[h]
theorem qu {x:Nat}:∀{ls:List (List bS)} {loc ln:Nat} {r:List bS},ls[ln]? =some r->loc+ln=x->(nH ls loc).filter (rT (.ofNat x))=fT x r
 | [],_,_,_,h,_=>by simp at h
 | q::ls,loc,0,r,h,hx=>by
  have:q=r:=by simpa using h
  subst this;have hx:loc=x:=by omega
  subst hx;show(fT loc q++nH ls (loc+1)).filter _=_;rw[List.filter_append,sW]
  have:(nH ls (loc+1)).filter (rT (.ofNat loc))= []:=List.filter_eq_nil_iff.2 fun p hp=>by
   obtain⟨k,v⟩:=p;obtain⟨ln,r,id,_,_,_,rfl⟩:=jS.1 hp;show¬F (.ofNat (loc+1+ln)) (.ofNat loc)=true;rw[eW];simp;omega
  rw[this,zk_]
 | q::ls,loc,ln+1,r,h,hx=>by
  show(fT loc q++nH ls (loc+1)).filter _=_;rw[List.filter_append,rQ q oM,qu (ls:=ls) (loc:=loc+1) (ln:=ln) (by simpa using h) oM];rfl
def zQ (g:XG) (loc:Int) (id:bS):Bool:=
 bif (dV g id).isSome then(bif F id.bH 0 then false else bif bz (nf<|dV g id) then F (nf<|dV g id).loc loc else false) else false
structure Hv (g:XG) (ln:Nat) (r:List bS):Prop where
 SD:∀id∈r,zQ g (.ofNat ln) id=true
 nodup:r.Nodup
 La:r.length=iL (.ofNat ln) g.threads
theorem om {x y:bS} (h:x.ints=y.ints):x=y:=by
 have:cC x.ints y.ints=true:=dt.2 h;rw[bS.same] at this;exact dt.1 this
theorem BY {g:XG}:zQ g (.ofNat ln) id=true↔(id.ints,Int.ofNat ln)∈gX g.threads 0:=by
 rw[kH];unfold zQ;constructor
 ·intro h;cases d:dV g id with
  | none=>rw[d] at h;cases h
  | some e=>
   rw[d] at h;obtain⟨th,ix⟩:=id;have h:(bif F th 0 then false else bif bz e then F e.loc (.ofNat ln) else false)=true:=h;cases h0:F th 0 with
   | true=>rw[h0] at h;cases h
   | false=>
    rw[h0] at h;cases hw:bz e with
    | false=>rw[hw] at h;cases h
    | true=>
     rw[hw] at h
     have hl:e.loc= .ofNat ln:=by
      have h:F e.loc (.ofNat ln)=true:=h;rw[cK] at h;simp_all
     obtain⟨t,i,rfl,rfl,_,_,hp⟩:=Lp (by rw[d];rfl);cases t with
     | zero=>cases h0
     | succ t=>
      rw[jJ] at d;cases z:g.threads[t]? with
      | none=>simp_all
      | some l=>
       rw[z] at d;exact⟨t,i,l,e,z,d,hw,by rw[nA_];rfl,hl.symm⟩
 rintro ⟨s,i,l,e,h1,A,B,u,h5⟩;obtain⟨th,ix⟩:=id;rw[nA_] at u;have u: [th,ix]= [.ofNat (s+1),.ofNat i]:=u;simp only[List.cons.injEq,and_true] at u;obtain⟨rfl,rfl⟩:=u;have he:dV g ⟨.ofNat (s+1),.ofNat i⟩=some e:=by rw[jJ,h1];exact A
 rw[he];show(bif F (.ofNat (s+1)) 0 then false else bif bz e then F e.loc (.ofNat ln) else false)=true;rw[show F (.ofNat (s+1)) 0=false by rw[show(0:Int)= .ofNat 0 from Z,eW];simp,B,<-h5]
 grind [eW]
theorem pz {ls:List (List cm)} {t:Nat}:(gX ls t).Nodup:=oW _ qN
theorem tR {loc:Nat} {r:List bS} (h:r.Nodup):(fT loc r).Nodup:=by
 grind [fT,om]
theorem wb {g:XG} (z:∀(t:Nat) (l:List cm) (i:Nat) (e:cm),g.threads[t]? =some l->l[i]? =some e->bz e=true->∃ln:Nat,e.loc= .ofNat ln/\ln<g.order.length):
  (∀(ln:Nat) (r:List bS),g.order[ln]? =some r->Hv g ln r)↔(gX g.threads 0).Perm (nH g.order 0):=by
 constructor
 ·intro h;refine CC pz (fun p hp=>?_) ?_
  ·obtain⟨k,v⟩:=p;obtain⟨s,i,l,e,h1,C,E,h4,h5⟩:=kH.1 hp;obtain⟨ln,G,I⟩:=z s l i e h1 C E;obtain⟨r,u⟩:=dc I;have ho:=h ln r u
   have hq:(fT ln r).Perm ((gX g.threads 0).filter<|rT (.ofNat ln)):=by
    refine CC (tR ho.nodup) (fun q hq=>?_) ?_
    ·obtain⟨id,d,rfl⟩:=zn_.1 hq;refine List.mem_filter.2 ⟨BY.1<|ho.SD id d,?_⟩;show F (.ofNat ln) (.ofNat ln)=true;rw[eW];simp
    rw[uI,<-ho.La];unfold fT;simp_all
   have hm:(k,v)∈fT ln r:=hq.mem_iff.2 (List.mem_filter.2 ⟨hp,by show F v (.ofNat ln)=true;rw[h5,G,eW];simp⟩);obtain⟨id,d,he⟩:=zn_.1 hm;cases he;exact jS.2 ⟨ln,r,id,u,d,Z,by rw[nA_]⟩
  
  have key:∀(m:Nat) (ls:List (List bS)),(∀(ln:Nat) (r:List bS),ls[ln]? =some r->Hv g (m+ln) r)->((nH ls m).Nodup/\∀p∈nH ls m,p∈gX g.threads 0):=by
   intro m ls;induction ls generalizing m with
   | nil=>intro _;exact⟨List.nodup_nil,fun p hp=>by cases hp⟩
   | cons r ls ih=>
    intro hh
    obtain⟨K,L⟩:=ih (m+1) fun ln r' B=>by
     have:=hh (ln+1) r' (by simpa using B)
     grind
    have h0:=hh 0 r Z;rw[Nat.add_zero] at h0;refine⟨?_,fun p hp=>?_⟩
    ·show(fT m r++nH ls (m+1)).Nodup;rw[List.nodup_append];refine⟨tR h0.nodup,K,fun a M b hb aa=>?_⟩;obtain⟨id,_,rfl⟩:=zn_.1 M
     grind [jS]
    rcases List.mem_append.1 (show p∈fT m r++nH ls (m+1) from hp) with hp | hp
    ·obtain⟨id,d,rfl⟩:=zn_.1 hp;exact BY.1<|h0.SD id d
    exact L p hp
  obtain⟨N,Q⟩:=key 0 g.order fun ln r u=>by simp_all
  exact Eu N Q
 intro hp ln r u;have A:∀id∈r,(id.ints,Int.ofNat ln)∈gX g.threads 0:=fun id d=>hp.mem_iff.2 (jS.2 ⟨ln,r,id,u,d,Z,by rw[nA_]⟩)
 have hf:=qu (x:=ln) (loc:=0) u (nA_ _);refine⟨fun id d=>BY.2 (A id d),?_,?_⟩
 ·grind [pz,fT,oW]
 have:=(hp.filter<|rT (.ofNat ln)).length_eq
 grind [uI,fT]
theorem lR {g:XG} (h1:fj g=false) (d:¬dC g):ec g=2:=by
 have u:ec g≠0:=fun h=>d (fl.1 h)
 unfold ec at u⊢
 grind
theorem Ff {g:XG} (h:dH 4 (.ofNat g.threads.length)=true):fj g=true:=by unfold fj;rw[h];rfl
theorem Fh {g:XG} (h:dH 6 (.ofNat g.init.length)=true):fj g=true:=by
 grind [fj]
theorem Fg {g:XG} {i:Nat} {x:List cm} (hx:g.threads[i]? =some x) (h:dH 14 (.ofNat x.length)=true):fj g=true:=by
 grind [fj]
theorem Hj {g:XG} {i:Nat} (h1:dH 4 (.ofNat g.threads.length)=false) (h2:dH 6 (.ofNat g.init.length)=false) (hi:g.threads.length<=i) (h3:∀(k:Nat) (l:List cm),k<i->g.threads[k]? =some l->dH 14 (.ofNat l.length)=false):fj g=false:=by
 grind [fj,gO_]
theorem pQ {g:XG} (h:fj g=true):ec g=3:=by unfold ec;rw[h];rfl
theorem Rt {a b:Int} (h:F a b=true):a=b:=by rw[cK] at h;simp_all
theorem EU {e:cm} {n:Nat} (h:bY e (.ofNat n)=true) (hw:bz e=true):∃ln:Nat,e.loc= .ofNat ln/\ln<n:=by
 unfold bY at h
 have hk:F e.kind 4=false:=by
  grind [bz,Rt]
 rw[hk] at h
 have key:(bif cL (dH e.loc 0) then dH e.loc (.ofNat n) else false)=true:=by
  simp_all
 cases h0:dH e.loc 0 with
 | true=>rw[h0] at key;cases key
 | false=>
  rw[h0] at key;obtain⟨ln,hl⟩:=nG h0;rw[hl] at key;exact⟨ln,hl,aM key⟩
theorem MA {g:XG} {t n:Nat} {e:cm} {q:bS} (h:yP g t n e q=true):bY e (.ofNat g.init.length)=true/\dO g ⟨.ofNat (t+1),.ofNat n⟩ q=true:=by
 unfold yP at h
 simp_all
theorem RV {g:XG} {t n:Nat} {e:cm} {q:bS} (h1:bY e (.ofNat g.init.length)=true) (d:dO g ⟨.ofNat (t+1),.ofNat n⟩ q=true):yP g t n e q=true:=by
 unfold yP;rw[h1];exact d
theorem pU {loc:Int}:∀{l:List cm} {i:Nat} {x:cm},l[i]? =some x->gq loc (l.take (i+1))=gq loc (l.take i)+(bif (bif bz x then F x.loc loc else false) then 1 else 0)
 | [],_,_,h=>by simp at h
 | e::l,0,x,h=>by
  have:e=x:=by simpa using h
  subst this;show(bif (bif bz e then F e.loc loc else false) then 1 else 0)+gq loc []=0+_;rw[nA_];rfl
 | e::l,i+1,x,h=>by
  have h':l[i]? =some x:=by simpa using h
  show(bif (bif bz e then F e.loc loc else false) then 1 else 0)+gq loc (l.take (i+1))=(bif (bif bz e then F e.loc loc else false) then 1 else 0)+gq loc (l.take i)+_;rw[pU h',Nat.add_assoc]
theorem OQ {loc:Int} {l:List cm} {i:Nat} {x:cm} (h:l[i]? =some x) (h1:bz x=true) (d:F x.loc loc=true):gq loc (l.take (i+1))=gq loc (l.take i)+1:=by
 rw[pU h,h1,d];rfl
theorem Ld {loc:Int} {l:List cm} {i:Nat} {x:cm} (h:l[i]? =some x) (h1:bz x=false∨F x.loc loc=false):gq loc (l.take (i+1))=gq loc (l.take i):=by
 grind [pU]
theorem vK {loc:Int}:∀{ls:List (List cm)} {i:Nat} {x:List cm},ls[i]? =some x->iL loc (ls.take (i+1))=iL loc (ls.take i)+gq loc x
 | [],_,_,h=>by simp at h
 | l::ls,0,x,h=>by
  have:l=x:=by simpa using h
  subst this;show gq loc l+iL loc []=0+_;rw[nA_];rfl
 | l::ls,i+1,x,h=>by
  have h':ls[i]? =some x:=by simpa using h
  show gq loc l+iL loc (ls.take (i+1))=gq loc l+iL loc (ls.take i)+_;rw[vK h',Nat.add_assoc]
theorem uJ {loc:Int}:∀{l:List cm},gq loc l<=l.length
 | []=>nR_ _
 | e::l=>by
  have:=uJ (loc:=loc) (l:=l);show(bif (bif bz e then F e.loc loc else false) then 1 else 0)+gq loc l<=l.length+1;cases (bif bz e then F e.loc loc else false) with
  | true=>show 1+_<=_;omega
  | false=>show 0+_<=_;omega
theorem As {loc:Int} {b:Nat}:∀{ls:List (List cm)},(∀l∈ls,l.length<=b)->iL loc ls<=ls.length*b
 | [],_=>Nat.zero_le _
 | l::ls,h=>by
  have h1:=h l (mS_ ..);have h2:=As (loc:=loc) (ls:=ls) fun x hx=>h x (mC_ _ hx)
  grind [uJ,iL,Nat.succ_mul]
theorem BS {loc:Int} {ls:List (List cm)} {i:Nat} (h1:ls.length<=4) (d:∀l∈ls,l.length<=14):iL loc (ls.take i)<=56:=by
 have h3:=As (loc:=loc) (b:=14) (ls:=ls.take i) fun l hl=>d l (List.mem_of_mem_take hl)
 grind
theorem yL {l:List α} (h:l.Nodup) {i:Nat} {a b:α} (aa:i<j) (ha:l[i]? =some a) (hb:l[j]? =some b):a≠b:=fun e=>by
 grind [List.pairwise_iff_getElem]
theorem Mx {l:List α} (h:∀(i j:Nat) (a b:α),i<j->l[i]? =some a->l[j]? =some b->a≠b):l.Nodup:=
 List.pairwise_iff_getElem.2 fun i j h1 u d=>h i j _ _ d (gC h1) (gC u)
variable {G:Cx} {K:KP} {O:aB} {L:Own} {g:XG}
theorem O9 {x y:bS}:cC [x.bH,x.index] [y.bH,y.index]=cC x y:=bS.same
theorem Qp (R:Plain G) {a b c d:V} (h:dS K g a b c d) (e:cm) (ar:H O K L):Ca G K L 239 [.agg [a,b,c,d],.agg<|ints e.ints] O <| .bool (bY e (.ofNat g.init.length)):=by
 have h':=h;obtain⟨hi,ht,hf,ho⟩:=h';refine V9 R Tryz.func239 Z<|Vw 2 Z<|kb ar (cH Z Z) (fun O b1 ar=>?_);refine kb ar (cH Z Z) (fun O b2 ar=>?_);refine TF ar 9 [0,0] Z Z<|ky Z (an Z) (fun N=>?_) (fun N=>?_)
 ·refine UM 44 Z ?_;exact aA Z Z ⟨cB (by unfold bY cL;simp only[N,ct,cf]),ar.pop.pop⟩
 refine Wk ar 4 [0,0] Z Z<|ky Z (an Z) (fun u=>?_) (fun u=>?_)
 ·refine UM 39 Z ?_;exact aA Z Z ⟨cB (by unfold bY cL;simp only[N,u,ct,cf]),ar.pop.pop⟩
 refine Wk ar 4 [2,0] Z Z<|ky Z (an Z) (fun A=>?_) (fun A=>?_)
 ·refine UM 34 Z ?_;exact aA Z Z ⟨cB (by unfold bY cL;simp only[N,u,A,ct,cf]),ar.pop.pop⟩
 refine Wk ar 4 [2,0] Z Z<|ky Z (an Z) (fun B=>?_) (fun B=>?_)
 ·refine UM 29 Z ?_;exact aA Z Z ⟨cB (by unfold bY cL;simp only[N,u,A,B,ct,cf]),ar.pop.pop⟩
 refine J Z (Xe Z ar.g0 Z) Z<|kx (W2 Z Z Z) (Ft R _ ar) (fun O ar=>?_);refine J Z (dW Z) Z<|ky Z (an Z) (fun E=>?_) (fun E=>?_)
 ·refine Wk ar 5 [3,0] Z Z<|ky Z (an Z) (fun Q=>?_) (fun Q=>?_)
  ·refine UM 19 Z ?_;exact aA Z Z ⟨cB (by unfold bY cL;simp only[N,u,A,B,E,Q,ct,cf]),ar.pop.pop⟩
  refine J Z (Xe Z ar.g0 Z) Z<|kx (W2 Z Z Z) (l5 R _ ar) (fun O ar=>?_);refine J Z (dW Z) Z<|ky Z (an Z) (fun C=>?_) (fun C=>?_)
  ·refine VF ar 7 [4,0] Z Z<|aG Z (fun M=>?_) (fun M=>?_)
   ·refine Vx 7 Z ?_;exact aA Z Z ⟨cB (by unfold bY cL;simp only[N,u,A,B,E,Q,C,M,ct,cf]),ar.pop.pop⟩
   refine UF 3 Z<|VE ar 5 [0,0] Z Z<|Vy 2 Z<|aG Z (fun z=>?_) (fun z=>?_)
   ·refine VE ar 6 [1,0] Z Z<|UM 4 Z ?_;exact aA Z Z ⟨cB (by unfold bY cL;simp only[N,u,A,B,E,Q,C,M,z,ct,cf]),ar.pop.pop⟩
   refine UP ar 7 [1,0] Z Z<|ky Z (an Z) (fun I=>?_) (fun I=>?_)
   ·refine Wk ar 4 [1,0,0,1] Z Z<|J Z (W5 hi Z Z Z (e:=2) Z) Z<|VA 6 Z ?_;exact aA Z Z ⟨cB (by unfold bY cL;simp only[N,u,A,B,E,Q,C,M,z,I,ct,cf]),ar.pop.pop⟩
   refine VA 11 Z ?_;exact aA Z Z ⟨cB (by unfold bY cL;simp only[N,u,A,B,E,Q,C,M,z,I,ct,cf]),ar.pop.pop⟩
  refine Vy 8 Z<|UF 3 Z<|VE ar 5 [0,0] Z Z<|Vy 2 Z<|aG Z (fun z=>?_) (fun z=>?_)
  ·refine VE ar 6 [1,0] Z Z<|UM 4 Z ?_;exact aA Z Z ⟨cB (by unfold bY cL;simp only[N,u,A,B,E,Q,C,z,ct,cf]),ar.pop.pop⟩
  refine UP ar 7 [1,0] Z Z<|ky Z (an Z) (fun I=>?_) (fun I=>?_)
  ·refine Wk ar 4 [1,0,0,1] Z Z<|J Z (W5 hi Z Z Z (e:=2) Z) Z<|VA 6 Z ?_;exact aA Z Z ⟨cB (by unfold bY cL;simp only[N,u,A,B,E,Q,C,z,I,ct,cf]),ar.pop.pop⟩
  refine VA 11 Z ?_;exact aA Z Z ⟨cB (by unfold bY cL;simp only[N,u,A,B,E,Q,C,z,I,ct,cf]),ar.pop.pop⟩
 refine Wh 6 Z<|J Z (Xe Z ar.g0 Z) Z<|kx (W2 Z Z Z) (l5 R _ ar) (fun O ar=>?_);refine J Z (dW Z) Z<|ky Z (an Z) (fun C=>?_) (fun C=>?_)
 ·refine VF ar 7 [4,0] Z Z<|aG Z (fun M=>?_) (fun M=>?_)
  ·refine Vx 7 Z ?_;exact aA Z Z ⟨cB (by unfold bY cL;simp only[N,u,A,B,E,C,M,ct,cf]),ar.pop.pop⟩
  refine UF 3 Z<|VE ar 5 [0,0] Z Z<|Vy 2 Z<|aG Z (fun z=>?_) (fun z=>?_)
  ·refine VE ar 6 [1,0] Z Z<|UM 4 Z ?_;exact aA Z Z ⟨cB (by unfold bY cL;simp only[N,u,A,B,E,C,M,z,ct,cf]),ar.pop.pop⟩
  refine UP ar 7 [1,0] Z Z<|ky Z (an Z) (fun I=>?_) (fun I=>?_)
  ·refine Wk ar 4 [1,0,0,1] Z Z<|J Z (W5 hi Z Z Z (e:=2) Z) Z<|VA 6 Z ?_;exact aA Z Z ⟨cB (by unfold bY cL;simp only[N,u,A,B,E,C,M,z,I,ct,cf]),ar.pop.pop⟩
  refine VA 11 Z ?_;exact aA Z Z ⟨cB (by unfold bY cL;simp only[N,u,A,B,E,C,M,z,I,ct,cf]),ar.pop.pop⟩
 refine Vy 8 Z<|UF 3 Z<|VE ar 5 [0,0] Z Z<|Vy 2 Z<|aG Z (fun z=>?_) (fun z=>?_)
 ·refine VE ar 6 [1,0] Z Z<|UM 4 Z ?_;exact aA Z Z ⟨cB (by unfold bY cL;simp only[N,u,A,B,E,C,z,ct,cf]),ar.pop.pop⟩
 refine UP ar 7 [1,0] Z Z<|ky Z (an Z) (fun I=>?_) (fun I=>?_)
 ·refine Wk ar 4 [1,0,0,1] Z Z<|J Z (W5 hi Z Z Z (e:=2) Z) Z<|VA 6 Z ?_;exact aA Z Z ⟨cB (by unfold bY cL;simp only[N,u,A,B,E,C,z,I,ct,cf]),ar.pop.pop⟩
 refine VA 11 Z ?_;exact aA Z Z ⟨cB (by unfold bY cL;simp only[N,u,A,B,E,C,z,I,ct,cf]),ar.pop.pop⟩
theorem Kx (E:Plain G) {a b c d:V} (h:dS K g a b c d) (th ix I M:Int) (ar:H O K L):Ca G K L 240 [.agg [a,b,c,d],.agg [.int .i64 th,.int .i64 ix],.agg [.int .i64 I,.int .i64 M]] O <| .bool (dO g ⟨th,ix⟩ ⟨I,M⟩):=by
 have h':=h;obtain⟨hi,ht,hf,ho⟩:=h';refine V9 E Tryz.func240 Z<|Vw 2 Z<|kb ar (cH Z Z) (fun O b1 ar=>?_);refine kb ar (cH Z Z) (fun O b2 ar=>?_);refine kb ar (cH Z Z) (fun O b3 ar=>?_);refine UK 5 Z<|J Z (Xd Z (ar.get 2 Z) Z) Z<|J Z (Xc Z ar.g1 Z) Z<|kx (W2 Z Z Z) (uA E h _ _ ar) (fun O ar=>?_);refine Wh 3 Z<|kb ar (W6 (cs:=[D,D,D,D,D])) (fun O b4 ar=>?_);refine ks ar (Xb Z Z Z ar.g0 Z) (fun O ar=>?_);refine TE 6 Z<|J Z (Xe Z ar.g0 Z) Z<|kx (W2 Z Z Z) (Ft E _ ar) (fun O ar=>?_);refine J Z (dW Z) Z<|Vy 2 Z<|aG Z (fun u=>?_) (fun u=>?_)
 ·refine Vw 2 Z (J Z (Xc Z ar.g1 Z) Z (J Z (W1 (places:=[(0,1),(1,1)]) (zero:=[D,D]) (cs:=[_,_]) Z) Z<|J Z (zF (n:=2) (ca:=[_,_]) (cb:=[_,_]) U Z Z Z Z) Z<|UM 5 Z ?_));exact aA Z Z ⟨cB (by unfold dO;simp only[u,ct,cf]),ar.pop.pop.pop.pop⟩
 refine UG 4 Z<|J Z (Xd Z (ar.get 3 Z) Z) Z<|J Z (Xc Z ar.g1 Z) Z<|kx (W2 Z Z Z) (uA E h _ _ ar) (fun O ar=>?_);refine Wh 3 Z<|kb ar (W6 (cs:=[D,D,D,D,D])) (fun O b5 ar=>?_);refine ks ar (Xb Z Z Z ar.g0 Z) (fun O ar=>?_);refine UK 6 Z<|ky Z (an Z) (fun z=>?_) (fun z=>?_)
 ·refine J Z (Xc Z (ar.get 2 Z) Z) Z<|J Z (Xc Z (ar.get 3 Z) Z) Z<|J Z (zH (n:=2) (ca:=[_,_]) (cb:=[_,_]) U Z Z Z Z) Z<|vQ 1 Z<|ky Z (an Z) (fun A=>?_) (fun A=>?_)
  ·refine J Z (Xe Z ar.g0 Z) Z<|kx (W2 Z Z Z) (l5 E _ ar) (fun O ar=>?_);refine vQ 1 Z<|ky Z (an Z) (fun B=>?_) (fun B=>?_)
   ·refine Wk ar 6 [1,0,1,1] Z Z<|ky Z (an Z) (fun C=>?_) (fun C=>?_)
    ·refine VG ar 10 [4,0,3,1] Z Z ?_;exact aA Z Z ⟨cB (by unfold dO;simp only[u,z,A,B,C,ct,cf]),ar.pop.pop.pop.pop.pop⟩
    refine VA 10 Z ?_;exact aA Z Z ⟨cB (by unfold dO;simp only[u,z,A,B,C,ct,cf]),ar.pop.pop.pop.pop.pop⟩
   refine VA 17 Z ?_;exact aA Z Z ⟨cB (by unfold dO;simp only[u,z,A,B,ct,cf]),ar.pop.pop.pop.pop.pop⟩
  refine VA 21 Z ?_;exact aA Z Z ⟨cB (by unfold dO;simp only[u,z,A,ct,cf]),ar.pop.pop.pop.pop.pop⟩
 refine VA 26 Z ?_;exact aA Z Z ⟨cB (by unfold dO;simp only[u,z,ct,cf]),ar.pop.pop.pop.pop.pop⟩
theorem Hn (hG:Plain G) {a b c d:V} (h:dS K g a b c d) {B:List bS} (a9:g.order[ln]? =some B) (hT:g.threads.length<=4) (hR:∀l∈g.threads,l.length<=14) (ar:H O K L):EC G 241 [.agg [a,b,c,d],nI ln] O fun v O'=>∃q,v= .bool q/\(q=true↔Hv g ln B)/\H O' K L:=by
 have h':=h;obtain⟨hi,ht,hf,N⟩:=h';refine V9 hG Tryz.func241 Z<|Vw 2 Z<|kb ar (cH Z Z) (fun O b1 ar=>?_);refine TD 15 Z ?_;obtain⟨LL1,ar,hLL1⟩:=ar.named;refine bk ([5,6,7]++rg 13 41) (fun j t O=>∃(i1:Nat),j+i1=g.threads.length/\t.get 5=some (nI<|iL (.ofNat ln)<|g.threads.take i1)/\t.get 6=some (nI i1)/\H O K LL1) (g.threads.length) ⟨0,Z,Z,Z,ar⟩ ?_;clear ar;intro j3 t O ak hI;obtain⟨i1,dx,ac,b7,ar⟩:=hI;subst hLL1;obtain⟨oo,rfl⟩:=ak.q2 ac b7 Z;refine UO ar 6 [1,0] Z Z<|J Z (W5 ht Z Z Z (e:=25) Z) Z<|Vy 3 Z<|aG Z (fun am=>?_) (fun am=>?_)
 ·refine SF 6 Z ?_;obtain⟨xa,R,hi_xa⟩:=di am;refine UI 4 Z ?_;obtain⟨LL2,ar,hLL2⟩:=ar.named;refine bk ([5,7]++rg 20 34) (fun j t O=>∃(i2:Nat),j+i2=xa.length/\t.get 5=some (nI (iL (.ofNat ln) (g.threads.take i1)+gq (.ofNat ln) (xa.take i2)))/\t.get 7=some (nI i2)/\H O K LL2) (xa.length) ⟨0,Z,Z,Z,ar⟩ ?_;clear ar;intro j6 t O ak hI;obtain⟨i2,d0,ac,b8,ar⟩:=hI;subst hLL2;obtain⟨oo,rfl⟩:=ak.q2 ac b8 Z;refine UO ar 7 [1,0] Z Z<|WV (e:=25) (m:=1) ht R Z Z Z Z (fun d1 co ba cp bb=>?_);have hr24':=bb;obtain⟨d2,rfl,M⟩:=hr24';refine J Z (W7 ar ba Z Z) Z<|J Z (W5 M Z Z Z (e:=38) Z) Z<|Vy 3 Z<|aG Z (fun ao=>?_) (fun ao=>?_)
  ·refine SF 6 Z<|Wk ar 3 [1,0] Z Z<|WV (e:=25) (m:=1) ht R Z Z Z Z (fun d3 cr bc cv bd=>?_);have hr33':=bd;obtain⟨d4,rfl,be⟩:=hr33';refine J Z (W7 ar bc Z Z) Z<|vQ 1 Z ?_;obtain⟨d5,C,cw⟩:=di ao;refine WV (e:=38) (m:=5) be C Z Z Z Z (fun d6 cx bf c0 bg=>?_);obtain rfl:=bg;refine J Z (W8 ar bf Z Z) Z<|kx (W2 Z Z Z) (l5 hG _ ar) (fun O ar=>?_);refine ky Z (an Z) (fun ap=>?_) (fun ap=>?_)
   ·refine Wk ar 3 [1,0] Z Z<|WV (e:=25) (m:=1) ht R Z Z Z Z (fun d7 c1 bi c2 bl=>?_);have hr43':=bl;obtain⟨d8,rfl,bm⟩:=hr43';refine J Z (W7 ar bi Z Z) Z<|vQ 1 Z<|WV (e:=38) (m:=5) bm C Z Z Z Z (fun d9 c3 bo c4 bp=>?_);obtain rfl:=bp;refine de bo Z Z Z (k:=1) U (lb Z) (fun _=>Z) (fun ea bq=>?_);refine J Z (W7 ar bq Z Z) Z<|Vy 5 Z<|aG Z (fun aE=>?_) (fun aE=>?_)
    ·refine Wd 5 Z (az (Wd 5 Z (aD ⟨j6-1,by omega,oF,i2+1,by omega,(cI ((aX (by have h1:=BS (loc:=.ofNat ln) (i:=i1) hT hR;have h2:=uJ (loc:=.ofNat ln) (l:=xa.take i2);have h3:=hR _ (gB_ R);rw[lT_] at h2;omega)).trans (by rw[OQ C ap aE];rfl))),cI<|aX (by have:=M.cS;omega),ar⟩)))
    refine aI<|az<|Wd 5 Z<|aD ⟨j6-1,by omega,oF,i2+1,by omega,(by rw[Ld (loc:=.ofNat ln) C (.inr aE)];exact Z),cI<|aX (by have:=M.cS;omega),ar⟩
   refine UL 17 Z<|Wd 5 Z<|aD ⟨j6-1,by omega,oF,i2+1,by omega,(by rw[Ld (loc:=.ofNat ln) C (.inl ap)];exact Z),cI<|aX (by have:=M.cS;omega),ar⟩
  rw[tL_<|bK ao];refine UH 3 Z<|aN<|az<|Wd 5 Z<|aD ⟨j3-1,by omega,oF,i1+1,by omega,(by rw[vK R];exact Z),cI<|aX (by have:=ht.cS;omega),ar⟩
 rw[tL_<|bK am];refine UH 3 Z<|aN<|VE ar 5 [3,0] Z Z<|WV (e:=42) (m:=1) N a9 Z Z Z Z (fun ee c5 bs c6 bt=>?_);have hr57':=bt;obtain⟨ef,rfl,A⟩:=hr57';refine J Z (W7 ar bs Z Z) Z<|TD 10 Z ?_;obtain⟨LL3,ar,hLL3⟩:=ar.named;refine bk ([4]++rg 9 4++rg 59 50) (fun j t O=>∃(i:Nat),j+i=B.length/\(∀(k:Nat) (x:bS),k<i->B[k]? =some x->zQ g (.ofNat ln) x=true/\∀(S:Nat) (y:bS),S<k->B[S]? =some y->y≠x)/\t.get 9=some (nI i)/\H O K LL3) (B.length) ⟨0,Z,fun k x hk=>absurd hk (nZ_ _),Z,ar⟩ ?_;clear ar;intro b9 t O ak hI;obtain⟨i,c7,T,cc,ar⟩:=hI;subst hLL3;obtain⟨oo,rfl⟩:=ak.q1 cc Z;refine UE 5 Z<|J Z (W5 A Z Z Z (e:=87) Z) Z<|Vy 3 Z<|aG Z (fun aa=>?_) (fun aa=>?_)
 ·refine SE 5 Z (aL (l:=[(0,[]),(1,[]),(2,[]),(3,[]),(4,[]),(9,[]),(5,[9]),(6,[]),(7,[]),(8,[]),(10,[]),(11,[])]) U U<|ah Z Z (Xd Z ar.g0 Z) Z<|Wj 2 Z ?_);obtain⟨u,z,c8⟩:=di aa;refine WW (e:=87) (m:=2) A z Z Z Z Z Z (fun eg c9 bv dd bw=>?_);obtain rfl:=bw;refine ah Z Z (W8 ar bv Z Z) Z<|pC ar Z Z (W6 (cs:=[D,D,D,D,D])) (fun _=>Z) (fun O b2 ar=>?_);refine eL Z Z (W2 Z Z Z) (fun _=>Z) (uA hG h _ _ ar) (fun O ar=>?_);refine⟨(bj (oD Z Z Z Z Z (cs:=[D,D,D,D,D]) (e:=38) U ar.g0 U) aT),?_⟩;refine Wj 3 Z<|ia ar Z Z (Xb Z Z Z ar.g0 Z) Z (fun O ar=>?_);refine⟨aT,?_⟩;refine VB 3 Z<|UE 4 Z<|J Z (dW Z) Z<|ky Z (an Z) (fun Q=>?_) (fun Q=>?_)
  ·refine VA 27 Z<|aH<|aP<|aH<|bX<|aP<|aH (?_);exact aA Z Z ⟨_,Z,⟨(fun hh=>by cases hh),fun N=>absurd (N.SD u<|gB_ z) (by unfold zQ;rw[show(dV g u).isSome=false from yM Q];exact Bool.false_ne_true)⟩,ar.pop.pop⟩
  refine Wh 2 Z<|WV (e:=87) (m:=2) A z Z Z Z Z (fun el df bD dk b0=>?_);obtain rfl:=b0;refine de bD Z Z Z (k:=0) U (lb Z) (fun _=>Z) (fun em b3=>?_);refine J Z (W7 ar b3 Z Z) Z<|Wh 2 Z<|ky Z (an Z) (fun W=>?_) (fun W=>?_)
  ·refine VA 19 Z<|aH<|aP<|aH<|bX<|aP<|aH (?_);exact aA Z Z ⟨_,Z,⟨(fun hh=>by cases hh),fun N=>absurd (N.SD u<|gB_ z) (by unfold zQ;rw[show(dV g u).isSome=true from my Q,show F u.bH 0=true from W];exact Bool.false_ne_true)⟩,ar.pop.pop⟩
  refine J Z (Xe Z ar.g0 Z) Z<|kx (W2 Z Z Z) (l5 hG _ ar) (fun O ar=>?_);refine J Z (dW Z) Z<|vQ 1 Z<|ky Z (an Z) (fun ab=>?_) (fun ab=>?_)
  ·refine VA 14 Z<|aH<|aP<|aH<|bX<|aP<|aH (?_);exact aA Z Z ⟨_,Z,⟨(fun hh=>by cases hh),fun N=>absurd (N.SD u<|gB_ z) (by unfold zQ;rw[show(dV g u).isSome=true from my Q,show F u.bH 0=false from W,show bz (nf<|dV g u)=false from yM ab];exact Bool.false_ne_true)⟩,ar.pop.pop⟩
  refine VF ar 7 [1,0] Z Z<|aG Z (fun a0=>?_) (fun a0=>?_)
  ·refine Wf 6 Z<|aH<|aP<|aH<|bX<|aP<|aH (?_);exact aA Z Z ⟨_,Z,⟨(fun hh=>by cases hh),fun N=>absurd (N.SD u<|gB_ z) (by unfold zQ;rw[show(dV g u).isSome=true from my Q,show F u.bH 0=false from W,show bz (nf<|dV g u)=true from my ab,show F (nf<|dV g u).loc (.ofNat ln)=false from cY a0];exact Bool.false_ne_true)⟩,ar.pop.pop⟩
  have b4:zQ g (.ofNat ln) u=true:=by unfold zQ;rw[show(dV g u).isSome=true from my Q,show F u.bH 0=false from W,show bz (nf<|dV g u)=true from my ab];exact cD a0
  refine UG 5 Z<|UI 3 Z ?_;obtain⟨LL4,ar,hLL4⟩:=ar.named;refine bk ([4,12]++rg 95 14) (fun j t O=>∃(i3:Nat),j+i3=i/\(∀(S:Nat) (y:bS),S<i3->B[S]? =some y->y≠u)/\t.get 12=some (nI i3)/\H O K LL4) (i) ⟨0,Z,fun S y hk=>absurd hk (nZ_ _),Z,ar⟩ ?_;clear ar;intro cd t O ak hI;obtain⟨i3,dl,hne,b5,ar⟩:=hI;subst hLL4;obtain⟨oo,rfl⟩:=ak.q1 b5 Z;refine Vv 8 Z<|aG Z (fun E=>?_) (fun E=>?_)
  ·refine SE 5 Z<|aL (l:=zp [0,1,2,3,4,5,6,7,8]) U U<|Wj 2 Z ?_;obtain⟨dm,I⟩:=dc (show i3<B.length from by have:=aM E;omega);refine WW (e:=87) (m:=2) A I Z Z Z Z Z (fun dr ce a1 ch a2=>?_);obtain rfl:=a2;refine ah Z Z (W8 ar a1 Z Z) Z<|Wj 2 Z<|WW (e:=87) (m:=2) A z Z Z Z Z Z (fun ds ci a3 ck a4=>?_);obtain rfl:=a4;refine ah Z Z (W8 ar a3 Z Z) Z<|ah Z Z (zF (n:=2) (ca:=[_,_]) (cb:=[_,_]) U Z Z Z Z) Z<|VB 2 Z<|aG Z (fun X=>?_) (fun X=>?_)
   ·refine Wf 6 Z<|aP<|aH<|bX<|aP<|aP<|aH<|bX<|aP<|aH (?_);exact aA Z Z ⟨_,Z,⟨(fun hh=>by cases hh),fun N=>absurd (dt.1<|O9.symm.trans X) (yL N.nodup (aM E) I z)⟩,ar.pop.pop⟩
   refine aI (az (Wd 5 Z (aD ⟨cd-1,by have:=aM E;omega,oF,i3+1,by have:=aM E;omega,fun S y hk hy=>(by by_cases a5:S=i3;(subst a5;rw[I] at hy;cases hy;exact fun he=>absurd X (by rw[he,dt.2 Z];decide));exact hne S y oM hy),cI<|aX (by have:=A.cS;have:=aM E;omega),ar⟩)))
  refine UH 3 Z<|aN<|az<|Wd 5 Z ?_;have ar:=ar.pop;refine aD ⟨b9-1,by omega,oF,i+1,by omega,fun k x hk hx=>(by by_cases a5:k=i;(subst a5;rw[z] at hx;cases hx;exact⟨b4,fun S y en hy=>hne S y (by have:=bK E;omega) hy⟩);exact T k x oM hx),cI<|aX (by have:=A.cS;omega),ar⟩
 refine UH 3 Z<|aN<|Vw 3 Z<|J Z (W5 A Z Z Z (e:=87) Z) Z<|VA 6 Z ?_;exact aA Z Z ⟨_,Z,⟨fun hh=>⟨fun id cl=>(by obtain⟨k,hk⟩:=gO_ cl;exact(T k id (by have:=(gA.1 hk).1;have:=bK aa;omega) hk).1),Mx fun k m x y cn hx hy=>(T m y (by have:=(gA.1 hy).1;have:=bK aa;omega) hy).2 k x cn hx,(by have b6:F (.ofNat B.length) (.ofNat<|iL (.ofNat ln) g.threads)=true:=hh;rw[eW] at b6;exact of_decide_eq_true b6)⟩,fun N=>(by show F (.ofNat B.length) (.ofNat<|iL (.ofNat ln) g.threads)=true;rw[eW,N.La];exact decide_eq_true Z)⟩,ar.pop⟩
theorem vw (hG:Plain G) {a b c d:V} (h:dS K g a b c d) (ar:H O K L):Ca G K L 195 [.agg [a,b,c,d]] O <| .int .i64 (ec g):=by
 have h':=h;obtain⟨hi,E,hf,ho⟩:=h';refine V9 hG Tryz.func195 Z<|Vw 2 Z<|kb ar (cH Z Z) (fun O b1 ar=>?_);refine TF ar 8 [1,0] Z Z<|J Z (W5 E Z Z Z (e:=25) Z) Z<|vQ 1 Z<|ky Z (an Z) (fun ap=>?_) (fun ap=>?_)
 ·refine UM 15 Z ?_;exact aA Z Z ⟨cJ (by rw[pQ<|Ff ap]),ar.pop⟩
 refine Wk ar 2 [0,0] Z Z<|J Z (W5 hi Z Z Z (e:=2) Z) Z<|Vy 4 Z<|aG Z (fun aE=>?_) (fun aE=>?_)
 ·refine Vx 7 Z ?_;exact aA Z Z ⟨cJ (by rw[pQ<|Fh aE]),ar.pop⟩
 refine TC 9 Z ?_;obtain⟨LL1,ar,hLL1⟩:=ar.named;refine bk ([2,3]++rg 19 14) (fun j t O=>∃(i:Nat),j+i=g.threads.length/\(∀(k:Nat) (l:List cm),k<i->g.threads[k]? =some l->dH 14 (.ofNat l.length)=false)/\t.get 3=some (nI i)/\H O K LL1) (g.threads.length) ⟨0,Z,fun k x hk=>absurd hk (nZ_ _),Z,ar⟩ ?_;clear ar;intro j4 t O ak hI;obtain⟨i,ex,I,cr,ar⟩:=hI;subst hLL1;obtain⟨oo,rfl⟩:=ak.q1 cr Z;refine UO ar 6 [1,0] Z Z<|J Z (W5 E Z Z Z (e:=25) Z) Z<|Vy 3 Z<|aG Z (fun a0=>?_) (fun a0=>?_)
 ·refine SF 6 Z<|Wk ar 3 [1,0] Z Z ?_;obtain⟨ez,aa,dr⟩:=di a0;refine WV (e:=25) (m:=1) E aa Z Z Z Z (fun e0 ds bD dx b0=>?_);have hr29':=b0;obtain⟨e3,rfl,b2⟩:=hr29';refine J Z (W7 ar bD Z Z) Z<|J Z (W5 b2 Z Z Z (e:=38) Z) Z<|Vy 3 Z<|aG Z (fun be=>?_) (fun be=>?_)
  ·refine Wf 6 Z<|aP<|aH<|bX<|aP<|aH (?_);exact aA Z Z ⟨cJ (by rw[pQ<|Fg aa be]),ar.pop⟩
  refine aI (az (Wd 5 Z (aD ⟨j4-1,by omega,oF,i+1,by omega,fun k l hk hl=>(by by_cases M:k=i;(subst M;rw[aa] at hl;cases hl;exact be);exact I k l oM hl),cI<|aX (by have:=E.cS;omega),ar⟩)))
 have hTL:=Hj (i:=i) ap aE (bK a0) I;have hT:g.threads.length<=4:=bK (a:=4) (by exact ap);have hR:∀l∈g.threads,l.length<=14:=fun l hl=>by obtain⟨k,hk⟩:=gO_ hl;exact bK (a:=14) (I k l (by have:=(gA.1 hk).1;have:=bK a0;omega) hk)
 refine UH 3 Z<|aN<|UO ar 5 [2,0] Z Z<|J Z (W5 hf Z Z Z (e:=42) Z) Z<|Wk ar 2 [1,0] Z Z<|J Z (W5 E Z Z Z (e:=25) Z) Z<|vQ 1 Z<|ky Z (an Z) (fun W=>?_) (fun W=>?_)
 ·refine UM 18 Z ?_;exact aA Z Z ⟨cJ (by rw[lR hTL fun C=>absurd W (by rw[C.from_,fR];decide)]),ar.pop⟩
 refine Wk ar 2 [3,0] Z Z<|J Z (W5 ho Z Z Z (e:=42) Z) Z<|Wk ar 2 [0,0] Z Z<|J Z (W5 hi Z Z Z (e:=2) Z) Z<|Vy 4 Z<|aG Z (fun X=>?_) (fun X=>?_)
 ·refine Vx 7 Z ?_;exact aA Z Z ⟨cJ (by rw[lR hTL fun C=>absurd X (by rw[C.order,fR];decide)]),ar.pop⟩
 refine TC 9 Z ?_;obtain⟨LL2,ar,hLL2⟩:=ar.named;refine bk ([2,4,5]++rg 49 41) (fun j t O=>∃(i:Nat),j+i=g.threads.length/\(∀(k:Nat) (x:List cm) (y:List bS),k<i->g.threads[k]? =some x->g.from_[k]? =some y->y.length=x.length/\∀(m:Nat) (e:cm),x[m]? =some e->bY e (.ofNat g.init.length)=true)/\t.get 4=some (nI i)/\H O K LL2) (g.threads.length) ⟨0,Z,fun k x y hk=>absurd hk (nZ_ _),Z,ar⟩ ?_;clear ar;intro cv t O ak hI;obtain⟨i,d0,a5,cw,ar⟩:=hI;subst hLL2;obtain⟨oo,rfl⟩:=ak.q1 cw Z;refine UO ar 6 [1,0] Z Z<|J Z (W5 E Z Z Z (e:=25) Z) Z<|Vy 3 Z<|aG Z (fun a1=>?_) (fun a1=>?_)
 ·refine SE 5 Z<|al<|aL (l:=zp [0,1,2,3,4,5,6,7,8,9,10,11,12]) U U<|Wl ar 3 [2,0] Z Z ?_;obtain⟨cx,R⟩:=dc (show i<g.from_.length from by have:=ew (cD W);have:=aM a1;omega);refine WW (e:=42) (m:=1) hf R Z Z Z Z Z (fun e4 d1 b3 d2 b4=>?_);have hr59':=b4;obtain⟨e5,rfl,b5⟩:=hr59';refine ah Z Z (W7 ar b3 Z Z) Z<|ah Z Z (W5 b5 Z Z Z (e:=87) Z) Z<|Wl ar 3 [1,0] Z Z ?_;obtain⟨bf,z,d3⟩:=di a1;refine WW (e:=25) (m:=1) E z Z Z Z Z Z (fun fd d4 b6 d5 b7=>?_);have hr65':=b7;obtain⟨fi,rfl,a9⟩:=hr65';refine ah Z Z (W7 ar b6 Z Z) Z<|ah Z Z (W5 a9 Z Z Z (e:=38) Z) Z<|VB 3 Z<|aG Z (fun bg=>?_) (fun bg=>?_)
  ·refine Wf 6 Z<|aH<|aP<|aH<|bX<|aP<|aH (?_);exact aA Z Z ⟨cJ (by rw[lR hTL fun C=>absurd bg (by rw[(C.rows i _ _ z R).1,fR];decide)]),ar.pop⟩
  refine UG 5 Z<|UI 3 Z ?_;obtain⟨LL3,ar,hLL3⟩:=ar.named;refine bk ([2,5]++rg 69 21) (fun j t O=>∃(i2:Nat),j+i2=bf.length/\(∀(m:Nat) (e:cm),m<i2->bf[m]? =some e->bY e (.ofNat g.init.length)=true)/\t.get 5=some (nI i2)/\H O K LL3) (bf.length) ⟨0,Z,fun k x hk=>absurd hk (nZ_ _),Z,ar⟩ ?_;clear ar;intro c0 t O ak hI;obtain⟨i2,d6,b8,c1,ar⟩:=hI;subst hLL3;obtain⟨oo,rfl⟩:=ak.q1 c1 Z;refine UO ar 7 [1,0] Z Z<|WV (e:=25) (m:=1) E z Z Z Z Z (fun fk d7 b9 d8 ca=>?_);have hr73':=ca;obtain⟨fs,rfl,cb⟩:=hr73';refine J Z (W7 ar b9 Z Z) Z<|J Z (W5 cb Z Z Z (e:=38) Z) Z<|Vy 3 Z<|aG Z (fun bi=>?_) (fun bi=>?_)
  ·refine SE 5 Z<|aL (l:=zp [0,1,2,3,4,5,6,7,8,9,10]) U U<|ah Z Z (Xd Z ar.g0 Z) Z<|Wl ar 3 [1,0] Z Z<|WW (e:=25) (m:=1) E z Z Z Z Z Z (fun fv d9 cc ea cd=>?_);have hr83':=cd;obtain⟨f0,rfl,ce⟩:=hr83';refine ah Z Z (W7 ar cc Z Z) Z<|wQ 1 Z ?_;obtain⟨f1,ab,ch⟩:=di bi;refine WW (e:=38) (m:=5) ce ab Z Z Z Z Z (fun f2 ee ci ef ck=>?_);obtain rfl:=ck;refine ah Z Z (W8 ar ci Z Z) Z<|eL Z Z (W2 Z Z Z) (fun _=>Z) (Qp hG h _ ar) (fun O ar=>?_);refine⟨aT,?_⟩;refine ah Z Z (dW Z) Z<|VB 2 Z<|aG Z (fun a2=>?_) (fun a2=>?_)
   ·refine Wf 6 Z<|aP<|aH<|bX<|aP<|aP<|aH<|bX<|aP<|aH (?_);exact aA Z Z ⟨cJ (by rw[lR hTL fun C=>by obtain⟨r1,r2⟩:=C.rows i _ _ z R;obtain⟨y,hy⟩:=dc (show i2<cx.length from by rw[r1];exact ch);have:=(MA<|r2 i2 _ _ ab hy).1;rw[this] at a2;cases a2]),ar.pop⟩
   refine aI (az (Wd 5 Z (aD ⟨c0-1,by omega,oF,i2+1,by omega,fun m e hm he=>(by by_cases bl:m=i2;(subst bl;rw[ab] at he;cases he;exact my a2);exact b8 m e oM he),cI<|aX (by have:=a9.cS;omega),ar⟩)))
  refine UH 3 Z (aN (az (Wd 5 Z (aD ⟨cv-1,by omega,oF,i+1,by omega,fun k x y hk h1 S=>(by by_cases M:k=i;(subst M;rw[z] at h1;rw[R] at S;cases h1;cases S;exact⟨ew<|cD bg,fun m e hm=>b8 m e (by have:=(gA.1 hm).1;have:=bK bi;omega) hm⟩);exact a5 k x y oM h1 S),cI<|aX (by have:=E.cS;omega),ar⟩))))
 have hrows:=a5;have hi11:=bK a1;have hlen:∀(k:Nat) (x:List cm) (y:List bS),g.threads[k]? =some x->g.from_[k]? =some y->y.length=x.length/\∀(m:Nat) (e:cm),x[m]? =some e->bY e (.ofNat g.init.length)=true:=fun k x y h1 S=>hrows k x y (by have:=(gA.1 h1).1;omega) h1 S
 have ba:∀(t:Nat) (l:List cm) (m:Nat) (e:cm),g.threads[t]? =some l->l[m]? =some e->bz e=true->∃ln:Nat,e.loc= .ofNat ln/\ln<g.order.length:=fun t l m e h1 S h3=>by
  obtain⟨y,hy⟩:=dc (show t<g.from_.length from by have:=ew (cD W);have:=(gA.1 h1).1;omega);obtain⟨ln,k1,k2⟩:=EU ((hlen t l y h1 hy).2 m e S) h3;exact⟨ln,k1,by have:=ew (cD X);omega⟩
 refine UH 3 Z<|aN<|UD 7 Z ?_;obtain⟨LL4,ar,hLL4⟩:=ar.named;refine bk ([2,6,7]++rg 90 32) (fun j t O=>∃(i4:Nat),j+i4=g.threads.length/\(∀(k:Nat) (x:List cm) (y:List bS),k<i4->g.threads[k]? =some x->g.from_[k]? =some y->∀(m:Nat) (f:bS),m<x.length->y[m]? =some f->dO g ⟨.ofNat (k+1),.ofNat m⟩ f=true)/\t.get 6=some (nI i4)/\H O K LL4) (g.threads.length) ⟨0,Z,fun k x y hk=>absurd hk (nZ_ _),Z,ar⟩ ?_;clear ar;intro c2 t O ak hI;obtain⟨i4,eg,bb,c3,ar⟩:=hI;subst hLL4;obtain⟨oo,rfl⟩:=ak.q1 c3 Z;refine UO ar 6 [1,0] Z Z<|J Z (W5 E Z Z Z (e:=25) Z) Z<|Vy 3 Z<|aG Z (fun bm=>?_) (fun bm=>?_)
 ·refine SF 6 Z ?_;obtain⟨xb,a3,hi_xb⟩:=di bm;refine UI 4 Z ?_;obtain⟨LL5,ar,hLL5⟩:=ar.named;refine bk ([2,7]++rg 97 25) (fun j t O=>∃(i5:Nat),j+i5=xb.length/\(∀(y:List bS) (m:Nat) (f:bS),m<i5->g.from_[i4]? =some y->y[m]? =some f->dO g ⟨.ofNat (i4+1),.ofNat m⟩ f=true)/\t.get 7=some (nI i5)/\H O K LL5) (xb.length) ⟨0,Z,fun y m f hm=>absurd hm (nZ_ _),Z,ar⟩ ?_;clear ar;intro c4 t O ak hI;obtain⟨i5,el,cl,c5,ar⟩:=hI;subst hLL5;obtain⟨oo,rfl⟩:=ak.q1 c5 Z;refine UO ar 7 [1,0] Z Z<|WV (e:=25) (m:=1) E a3 Z Z Z Z (fun em c6 bo c7 bp=>?_);have hr101':=bp;obtain⟨en,rfl,ac⟩:=hr101';refine J Z (W7 ar bo Z Z) Z<|J Z (W5 ac Z Z Z (e:=38) Z) Z<|Vy 3 Z<|aG Z (fun u=>?_) (fun u=>?_)
  ·refine SE 5 Z (aL (l:=zp [0,1,2,3,4,5,6,7,8,9,10,11,12,13,14]) U U (ah Z Z (Xd Z ar.g0 Z) Z (Wj 3 Z (ah Z Z (W1 (places:=[(0,1),(1,1)]) (zero:=[D,D]) (cs:=[_,_]) Z) Z<|Wl ar 3 [2,0] Z Z ?_))));obtain⟨cn,B⟩:=dc (show i4<g.from_.length from by have:=ew (cD W);omega);obtain⟨xc,c8⟩:=dc (aM u);refine WW (e:=42) (m:=1) hf B Z Z Z Z Z (fun er c9 bq dd bs=>?_);have hr115':=bs;obtain⟨es,rfl,bt⟩:=hr115';refine ah Z Z (W7 ar bq Z Z) Z<|wQ 1 Z ?_;obtain⟨bc,N⟩:=dc (show i5<cn.length from by rw[(hlen i4 _ _ a3 B).1];exact aM u);refine WW (e:=87) (m:=2) bt N Z Z Z Z Z (fun et df bv dk bw=>?_);obtain rfl:=bw;refine ah Z Z (W8 ar bv Z Z) Z<|eL Z Z (W2 Z Z Z) (fun _=>Z) (Kx hG h _ _ _ _ ar) (fun O ar=>?_);refine⟨aT,?_⟩;refine ah Z Z (dW Z) Z<|VB 2 Z<|aG Z (fun am=>?_) (fun am=>?_)
   ·refine Wf 6 Z<|aP<|aH<|bX<|aP<|aP<|aH<|bX<|aP<|aH (?_);exact aA Z Z ⟨cJ (by rw[lR hTL fun C=>by obtain⟨r1,r2⟩:=C.rows i4 _ _ a3 B;have:=(MA<|r2 i5 _ _ c8 N).2;have e:dO g ⟨wr .i64<|Int.add (.ofNat i4) (.ofNat 1),.ofNat i5⟩ ⟨bc.bH,bc.index⟩=true:=(by rw[aX (by have:=E.cS;omega)];exact this);exact absurd ((yM am).symm.trans e) (by decide)]),ar.pop⟩
   refine aI<|az<|Wd 5 Z ?_;refine aD ⟨c4-1,by have:=aM u;omega,oF,i5+1,by have:=aM u;omega,fun y m f hm hy hf=>(by by_cases bl:m=i5;(subst bl;rw[B] at hy;cases hy;rw[N] at hf;cases hf;have hq:=my am;rw[<-aX (i:=i4) (by have:=E.cS;omega)];exact hq);exact cl y m f oM hy hf),cI<|aX (by have:=ac.cS;have:=aM u;omega),ar⟩
  refine UH 3 Z (aN (az (Wd 5 Z (aD ⟨c2-1,by omega,oF,i4+1,by omega,fun k x y hk h1 S m f hm hf=>(by by_cases M:k=i4;(subst M;rw[a3] at h1;cases h1;exact cl y m f (by have:=bK u;omega) S hf);exact bb k x y oM h1 S m f hm hf),cI<|aX (by have:=E.cS;omega),ar⟩))))
 have hsrcs:=bb;have hi21:=bK bm;refine UH 3 Z<|aN<|UD 7 Z ?_;obtain⟨LL6,ar,hLL6⟩:=ar.named;refine bk ([2,8]++rg 122 11) (fun j t O=>∃(i8:Nat),j+i8=g.init.length/\(∀(k:Nat) (r:List bS),k<i8->g.order[k]? =some r->Hv g k r)/\t.get 8=some (nI i8)/\H O K LL6) (g.init.length) ⟨0,Z,fun k x hk=>absurd hk (nZ_ _),Z,ar⟩ ?_;clear ar;intro dl t O ak hI;obtain⟨i8,ev,bd,dm,ar⟩:=hI;subst hLL6;obtain⟨oo,rfl⟩:=ak.q1 dm Z;refine UO ar 6 [0,0] Z Z<|J Z (W5 hi Z Z Z (e:=2) Z) Z<|Vy 3 Z<|aG Z (fun A=>?_) (fun A=>?_)
 ·refine SF 6 Z<|J Z (Xd Z ar.g0 Z) Z<|vQ 1 Z ?_;obtain⟨co,Q⟩:=dc (show i8<g.order.length from by have:=ew (cD X);have:=aM A;omega);refine kw (W2 Z Z Z) (Hn hG h Q hT hR ar) ?_;rintro _ O ⟨cp,rfl,ao,ar⟩;refine J Z (dW Z) Z<|Vy 2 Z<|aG Z (fun T=>?_) (fun T=>?_)
  ·refine Wf 6 Z<|aP<|aH<|bX<|aP<|aH (?_);exact aA Z Z ⟨cJ (by rw[lR hTL fun C=>by have hq:cp=true:=ao.2 ((wb ba).2 C.perm i8 co Q);rw[hq] at T;cases T]),ar.pop⟩
  refine aI (az (Wd 5 Z (aD ⟨dl-1,by have:=aM A;omega,oF,i8+1,by have:=aM A;omega,fun k r hk C=>(by by_cases M:k=i8;(subst M;rw[Q] at C;cases C;exact ao.1<|my T);exact bd k r oM C),cI<|aX (by have:=hi.cS;have:=aM A;omega),ar⟩)))
 have a4:dC g:=⟨hT,bK (a:=6) (by exact aE),fun k l hl=>hR l (gB_ hl),ew<|cD W,ew<|cD X,fun k l f h1 S=>⟨(hlen k l f h1 S).1,fun m e q h3 h4=>RV ((hlen k l f h1 S).2 m e h3) (hsrcs k l f (by have:=(gA.1 h1).1;omega) h1 S m q (gA.1 h3).1 h4)⟩,(wb ba).1 fun k r C=>bd k r (by have:=(gA.1 C).1;have:=ew (cD X);have:=bK A;omega) C⟩;refine UH 3 Z<|aN<|Wf 6 Z ?_;exact aA Z Z ⟨cJ (by rw[fl.2 a4]),ar.pop⟩
end Go.Ev
namespace Go.Ev
variable {α β:Type}
def gM:Nat->List α->List (List α)
 | 0,_=>[[]]
 | n+1,l=>(List.range l.length).flatMap fun i=>match l[i]? with
  | some x=>(gM n (l.take i++l.drop (i+1))).map (x::·)
  | none=>[]
def uw (x:List α) (i j:Nat):List α:=
 match x[i]?,x[j]? with
 | some a,some b=>(x.set i b).set j a
 | _,_=>x
def mE (NQ:List α->List (List α)×List α) (n:Nat):Nat->Nat->List α->List (List α)×List α
 | 0,_,x=>([],x)
 | k+1,i,x=>
  let r:=NQ x
  let x2:=if i<n then uw r.2 (if(n+1)%2=0 then i else 0) n else r.2
  let q:=mE NQ n k (i+1) x2
  (r.1++q.1,q.2)
def eJ:Nat->List α->List (List α)×List α
 | 0,x=>([x],x)
 | n+1,x=>mE (eJ n) (n+1) (n+2) 0 x
def ft (x:List α):List (List α):=(eJ (x.length-1) x).1
theorem Kn (f:α->β) (x:List α) (i j:Nat):uw (x.map f) i j=(uw x i j).map f:=by
 unfold uw;rw[gM_,gM_];cases x[i]? with
 | none=>rfl
 | some a=>
  cases x[j]? with
  | none=>rfl
  | some b=>simp only[Option.map_some,List.map_set]
theorem EW (f:α->β) {t:List α->List (List α)×List α} {t':List β->List (List β)×List β} (h:∀x,t' (x.map f)=((t x).1.map (·.map f),(t x).2.map f)) (n:Nat):
  ∀(k i:Nat) (x:List α),mE t' n k i (x.map f)=((mE t n k i x).1.map (·.map f),(mE t n k i x).2.map f)
 | 0,_,x=>rfl
 | k+1,i,x=>by
  unfold mE;rw[h x];dsimp only
  have e:(if i<n then uw ((t x).2.map f) (if(n+1)%2=0 then i else 0) n else(t x).2.map f)=(if i<n then uw (t x).2 (if(n+1)%2=0 then i else 0) n else(t x).2).map f:=by
   split
   ·rw[Kn]
   rfl
  rw[e,EW f h n k (i+1),List.map_append]
theorem Bn (f:α->β):∀(n:Nat) (x:List α),eJ n (x.map f)=((eJ n x).1.map (·.map f),(eJ n x).2.map f)
 | 0,x=>rfl
 | n+1,x=>by
  unfold eJ;exact EW f (Bn f n) _ _ _ _
theorem AL (f:α->β) (x:List α):ft (x.map f)=(ft x).map (·.map f):=by
 unfold ft;rw[Bn,lM_]
theorem yS (f:α->β):∀(n:Nat) (l:List α),gM n (l.map f)=(gM n l).map (·.map f)
 | 0,_=>rfl
 | n+1,l=>by
  unfold gM;rw[lM_,List.map_flatMap];congr 1;funext i;rw[gM_];cases l[i]? with
  | none=>rfl
  | some x=>
   simp only[Option.map_some];rw[<-List.map_take,<-List.map_drop,<-List.map_append,yS f n,List.map_map,List.map_map];rfl
def xF (p:List Nat):Nat:=p.foldl (fun a d=>a*8+d) 0
def ta (k:Nat) (p:List Nat):Bool:=p.length == k && p.all (Nat.blt · 8)
theorem Ea:∀{p q:List Nat} {a b:Nat},p.length=q.length->(∀d∈p,d<8)->(∀d∈q,d<8)->p.foldl (fun a d=>a*8+d) a=q.foldl (fun a d=>a*8+d) b->a=b/\p=q
 | [],[],a,b,_,_,_,h=>⟨h,Z⟩
 | [],_::_,_,_,h,_,_,_=>by simp at h
 | _::_,[],_,_,h,_,_,_=>by simp at h
 | x::p,y::q,a,b,hl,hp,hq,h=>by
  have hx:=hp x (mS_ ..);have hy:=hq y (mS_ ..);obtain⟨h1,u⟩:=Ea (by simpa using hl) (fun d hd=>hp d (mC_ _ hd)) (fun d hd=>hq d (mC_ _ hd)) h;have h1:a*8+x=b*8+y:=h1;have z:a=b:=by omega
  have A:x=y:=by omega
  exact⟨z,by rw[A,u]⟩
theorem Av {k:Nat} {p q:List Nat} (hp:ta k p=true) (hq:ta k q=true) (h:xF p=xF q):p=q:=by
 unfold ta at hp hq;simp only[bA_,beq_iff_eq,aE_,Nat.blt_eq] at hp hq;exact(Ea (hp.1.trans hq.1.symm) hp.2 hq.2 h).2
def yH:List Nat->Nat->Option Nat
 | [],m=>some m
 | c::l,m=>bif m.testBit c then none else yH l (m ||| 2 ^ c)
theorem uX:∀{l:List Nat} {m r:Nat},yH l m=some r->l.Nodup/\(∀c∈l,m.testBit c=false)/\∀c,r.testBit c=true↔m.testBit c=true∨c∈l
 | [],m,r,h=>by cases h;exact⟨List.nodup_nil,(fun _ h=>by cases h),fun c=>(by simp)⟩
 | c::l,m,r,h=>by
  unfold yH at h;cases hm:m.testBit c with
  | true=>rw[hm] at h;cases h
  | false=>
   rw[hm] at h;obtain⟨h1,z,A⟩:=uX h
   have hb:∀d,(m ||| 2 ^ c).testBit d=true↔m.testBit d=true∨d=c:=fun d=>by
    rw[Nat.testBit_or,Bool.or_eq_true,Nat.testBit_two_pow,decide_eq_true_iff];exact⟨fun h=>h.imp id Eq.symm,fun h=>h.imp id Eq.symm⟩
   refine⟨List.nodup_cons.2 ⟨fun B=>?_,h1⟩,fun d hd=>?_,fun d=>?_⟩
   ·have:=z c B;have h4:=(hb c).2 (.inr Z);rw[this] at h4;cases h4
   ·rcases mQ_.1 hd with rfl | hd
    ·exact hm
    have:=z d hd;cases u:m.testBit d with
    | false=>rfl
    | true=>rw[(hb d).2 (.inl u)] at this;cases this
   rw[A,hb,mQ_];constructor
   ·rintro ((h | h) | h)<;>simp[h]
   rintro (h | h | h)<;>simp[h]
def qI (k:Nat):Bool:=
 let h:=ft (List.range k)
 let o:=gM k (List.range k)
 bif h.all (ta k) && o.all (ta k) then(match yH (h.map xF) 0,yH (o.map xF) 0 with
  | some a,some b=>Nat.beq a b
  | _,_=>false) else false
theorem E0 {k:Nat} (h:qI k=true):(ft<|List.range k).Nodup/\(gM k<|List.range k).Nodup/\∀p,p∈ft (List.range k)↔p∈gM k (List.range k):=by
 unfold qI at h;dsimp only at h;cases d:(ft<|List.range k).all (ta k) && (gM k<|List.range k).all (ta k) with
 | false=>rw[d] at h;cases h
 | true=>
  rw[d] at h;simp only[cond_true] at h;rw[bA_,aE_,aE_] at d;obtain⟨u,z⟩:=d;split at h
  ·rename_i a b A hb;have hab:=nB h;subst hab;obtain⟨B,_,m1⟩:=uX A;obtain⟨C,_,m2⟩:=uX hb
   have nod:∀{l:List (List Nat)},(l.map xF).Nodup->l.Nodup:=fun {l} hn=>by
    unfold List.Nodup at hn⊢;rw[List.pairwise_map] at hn;exact hn.imp fun h e=>h (congrArg _ e)
   have iff:∀c,c∈(ft<|List.range k).map xF↔c∈(gM k<|List.range k).map xF:=fun c=>by
    have h1:=m1 c;have h2:=m2 c;rw[Nat.zero_testBit] at h1 h2;simp only[zi_,false_or] at h1 h2;rw[<-h1,h2]
   refine⟨nod B,nod C,fun p=>⟨fun hp=>?_,fun hp=>?_⟩⟩
   ·obtain⟨q,hq,e⟩:=zn_.1 ((iff _).1<|zn_.2 ⟨p,hp,Z⟩);rw[Av (u p hp) (z q hq) e.symm];exact hq
   obtain⟨q,hq,e⟩:=zn_.1 ((iff _).2<|zn_.2 ⟨p,hp,Z⟩);rw[Av (z p hp) (u q hq) e.symm];exact hq
  cases h
theorem Ua:qI 0=true:=by kernel_rfl
theorem Ub:qI 1=true:=by kernel_rfl
theorem Uc:qI 2=true:=by kernel_rfl
theorem Ud:qI 3=true:=by kernel_rfl
theorem Ue:qI 4=true:=by kernel_rfl
theorem Uf:qI 5=true:=by kernel_rfl
theorem Ug:qI 6=true:=by kernel_rfl
end Go.Ev
namespace Go.Ev
theorem Uh:qI 7=true:=by kernel_rfl
end Go.Ev
namespace Go.Ev
variable {α β:Type}
theorem Bf {k:Nat} (h:k<=7):qI k=true:=by
 match k,h with
 | 0,_=>exact Ua
 | 1,_=>exact Ub
 | 2,_=>exact Uc
 | 3,_=>exact Ud
 | 4,_=>exact Ue
 | 5,_=>exact Uf
 | 6,_=>exact Ug
 | 7,_=>exact Uh
theorem DC:∀l:List α,l= []∨∃f:Nat->α,l=(List.range l.length).map f
 | []=>.inl Z
 | x::l=>.inr ⟨fun i=>(x::l).getD i x,by
  refine List.ext_getElem (by simp) fun i h1 h2=>?_
  simp only[List.getElem_map,List.getElem_range];rw[List.getD_eq_getElem?_getD,gC h1];rfl⟩
theorem LQ {l:List α} (h:l.length<=7) (p:List α):p∈ft l↔p∈gM l.length l:=by
 rcases DC l with rfl | ⟨f,hf⟩
 ·exact Iff.rfl
 obtain⟨_,_,hi⟩:=E0 (Bf h);rw[hf,AL,yS,lM_,List.length_range];simp only[zn_];exact⟨fun⟨q,hq,e⟩=>⟨q,(hi q).1 hq,e⟩,fun⟨q,hq,e⟩=>⟨q,(hi q).2 hq,e⟩⟩
theorem AU:∀{n:Nat} {l p:List α},l.length=n->p∈gM n l->p.Perm l
 | 0,l,p,hl,h=>by
  have e:l= []:=eN_ hl;have h:p∈[[]]:=h;rw[List.mem_singleton.1 h,e]
 | n+1,l,p,hl,h=>by
  unfold gM at h;obtain⟨i,hi,h⟩:=List.mem_flatMap.1 h;have hi:=List.mem_range.1 hi;rw[gC hi] at h;obtain⟨q,hq,rfl⟩:=zn_.1 h;have h1:=AU (n:=n) (by rw[lA_,lT_,lD_];omega) hq
  have u:l=l.take i++l[i]::l.drop (i+1):=by
   rw[<-zj_ hi,List.take_append_drop]
  have d:(l[i]::(l.take i++l.drop (i+1))).Perm (l.take i++l[i]::l.drop (i+1)):=List.perm_middle.symm;rw[<-u] at d;exact(h1.cons _).trans d
theorem GI {l:List α} (h:l.length<=7) (hn:l.Nodup):(gM l.length l).Nodup/\(ft l).Nodup:=by
 rcases DC l with rfl | ⟨f,hf⟩
 ·exact⟨by simp[gM],by simp[ft,eJ]⟩
 obtain⟨B,C,hi⟩:=E0 (Bf h)
 have inj:∀i j,i<l.length->j<l.length->f i=f j->i=j:=fun i j h1 u e=>by
  have g:∀i (h:i<l.length),l[i]=f i:=fun i h=>by
   have:l[i]? =((List.range l.length).map f)[i]?:=by rw[<-hf]
   rw[gC h,gM_,zr_ h] at this;exact zs_ this
  refine zo_ fun hne=>?_
  rcases Nat.lt_or_gt_of_ne hne with hlt | hlt
  ·exact List.pairwise_iff_getElem.1 hn i j h1 u hlt ((g i h1).trans<|e.trans (g j u).symm)
  exact List.pairwise_iff_getElem.1 hn j i u h1 hlt ((g j u).trans<|e.symm.trans (g i h1).symm)
 have z:∀p q:List Nat,(∀d∈p,d<l.length)->(∀d∈q,d<l.length)->p.map f=q.map f->p=q:=by
  intro p;induction p with
  | nil=>intro q _ _ e;cases q with
   | nil=>rfl
   | cons y q=>cases e
  | cons x p ih=>
   intro q h1 u e;cases q with
   | nil=>cases e
   | cons y q=>
    simp only[List.map_cons,List.cons.injEq] at e;rw[inj x y (h1 x<|mS_ ..) (u y<|mS_ ..) e.1,ih q (fun d hd=>h1 d (mC_ _ hd)) (fun d hd=>u d (mC_ _ hd)) e.2]
 have small:∀p∈gM l.length (List.range l.length),∀d∈p,d<l.length:=fun p hp d hd=>
  List.mem_range.1 ((AU (by rw[List.length_range]) hp).mem_iff.1 hd)
 have key:∀L:List (List Nat),L.Nodup->(∀p∈L,p∈gM l.length (List.range l.length))->(L.map (·.map f)).Nodup:=fun L A hm=>by
  unfold List.Nodup at A⊢;rw[List.pairwise_map];refine List.Pairwise.imp_of_mem ?_ A;intro a b E hb hne e;exact hne<|z a b (small a<|hm a E) (small b<|hm b hb) e
 rw[hf,AL,yS,lM_,List.length_range];exact⟨key _ C fun p h=>h,key _ B fun p h=>(hi p).1 h⟩
end Go.Ev
namespace Go.Ev
variable {α:Type}
structure BB (c:α->α->Int) (P:α->Prop):Prop where
 zero:∀x y,P x->P y->(c x y=0↔x=y)
 neg:∀x y,P x->P y->(c x y<0↔0<c y x)
 trans:∀x y z,P x->P y->P z->c x y<0->c y z<0->c x z<0
def FI (c:α->α->Int) (l:List α):Prop:=l.Pairwise fun x y=>c x y<0
def kU (c:α->α->Int):List α->α->List α
 | [],x=>[x]
 | y::l,x=>if c y x<0 then y::kU c l x else if c y x=0 then y::l else x::y::l
def iV (c:α->α->Int) (l:List α):List α:=l.foldl (kU c) []
section
variable {c:α->α->Int} {P:α->Prop}
theorem BB.Ta (h:BB c P) {x:α} (hx:P x):¬c x x<0:=by
 rw[(h.zero x x hx hx).2 Z];omega
theorem vV (h:BB c P):∀{l m:List α},(∀x∈l,P x)->(∀x∈m,P x)->FI c l->FI c m->(∀x,x∈l↔x∈m)->l=m
 | [],[],_,_,_,_,_=>rfl
 | [],y::m,_,_,_,_,he=>by cases (he y).2 (mS_ ..)
 | x::l,[],_,_,_,_,he=>by cases (he x).1 (mS_ ..)
 | x::l,y::m,hl,hm,il,im,he=>by
  obtain⟨u,B⟩:=List.pairwise_cons.1 il;obtain⟨A,C⟩:=List.pairwise_cons.1 im;have px:=hl x (mS_ ..);have py:=hm y (mS_ ..)
  have d:x=y:=by
   rcases mQ_.1 ((he x).1<|mS_ ..) with e | hx
   ·exact e
   rcases mQ_.1 ((he y).2<|mS_ ..) with e | hy
   ·exact e.symm
   exact absurd (h.trans x y x px py px (u y hy)<|A x hx)<|h.Ta px
  subst d
  have:l=m:=vV h (fun z hz=>hl z (mC_ _ hz)) (fun z hz=>hm z (mC_ _ hz)) B C fun z=>by
   constructor
   ·intro hz;rcases mQ_.1 ((he z).1<|mC_ _ hz) with e | hz'
    ·subst e;exact absurd (u z hz)<|h.Ta px
    exact hz'
   intro hz;rcases mQ_.1 ((he z).2<|mC_ _ hz) with e | hz'
   ·subst e;exact absurd (A z hz)<|h.Ta px
   exact hz'
  rw[this]
theorem tO (h:BB c P):∀{l:List α} {x z:α},(∀y∈l,P y)->P x->(z∈kU c l x↔z=x∨z∈l)
 | [],x,z,_,_=>by unfold kU;simp
 | y::l,x,z,hl,hx=>by
  have py:=hl y (mS_ ..);unfold kU;split
  ·rw[mQ_,tO h (fun w hw=>hl w (mC_ _ hw)) hx,mQ_];exact⟨fun h=>by rcases h with h | h | h<;>simp[h],fun h=>by rcases h with h | h | h<;>simp[h]⟩
  split
  ·rename_i h0;have e:=(h.zero y x py hx).1 h0;subst e;constructor
   ·exact .inr
   rintro (rfl | h)
   ·exact mS_ ..
   exact h
  rw[mQ_]
theorem AO (h:BB c P):∀{l:List α} {x:α},(∀y∈l,P y)->P x->FI c l->FI c (kU c l x)
 | [],x,_,_,_=>List.pairwise_singleton ..
 | y::l,x,hl,hx,hi=>by
  obtain⟨A,B⟩:=List.pairwise_cons.1 hi;have py:=hl y (mS_ ..);have d:∀w∈l,P w:=fun w hw=>hl w (mC_ _ hw)
  unfold kU;split
  ·rename_i hlt;refine List.pairwise_cons.2 ⟨fun z hz=>?_,AO h d hx B⟩;rcases (tO h d hx).1 hz with rfl | hz
   ·exact hlt
   exact A z hz
  split
  ·exact hi
  rename_i h1 h2;have u:c x y<0:=(h.neg x y hx py).2 oM;refine List.pairwise_cons.2 ⟨fun z hz=>?_,hi⟩;rcases mQ_.1 hz with rfl | hz
  ·exact u
  exact h.trans x y z hx py (d z hz) u<|A z hz
theorem QJ (h:BB c P):∀{l a:List α},(∀x∈l,P x)->(∀x∈a,P x)->FI c a->FI c (l.foldl (kU c) a)/\(∀z,z∈l.foldl (kU c) a↔z∈a∨z∈l)
 | [],a,_,_,hi=>⟨hi,fun z=>by simp⟩
 | x::l,a,hl,d,hi=>by
  have px:=hl x (mS_ ..)
  have u:∀z∈kU c a x,P z:=fun z hz=>by
   rcases (tO h d px).1 hz with rfl | hz
   ·exact px
   exact d z hz
  obtain⟨h1,A⟩:=QJ h (l:=l) (a:=kU c a x) (fun z hz=>hl z (mC_ _ hz)) u (AO h d px hi);refine⟨h1,fun z=>?_⟩;show z∈l.foldl (kU c) (kU c a x)↔_;rw[A,tO h d px,mQ_];constructor
  ·rintro ((h | h) | h)<;>simp[h]
  rintro (h | h | h)<;>simp[h]
theorem NA (h:BB c P) {l:List α} (hl:∀x∈l,P x):FI c (iV c l)/\∀z,z∈iV c l↔z∈l:=by
 obtain⟨h1,d⟩:=QJ h (l:=l) (a:=[]) hl (fun _ hx=>by cases hx) List.Pairwise.nil;exact⟨h1,fun z=>by show z∈l.foldl (kU c) []↔_;rw[d];simp⟩
end
end Go.Ev
namespace Go.Ev
variable [Env]
theorem xE:BB ik fun _=>True where
 zero x y _ _:=⟨HK,fun h=>by subst h;exact Jh x⟩
 neg x y _ _:=by have:=EK.pM x y;omega
 trans x y z _ _ _ h1 h2:=by
  have a1:=EK.pM x y;have a2:=EK.pM y z;have a3:=EK.pM x z;have t:=EK.trans x y z oM oM;refine zo_ fun hn=>?_
  have h0:ik x z=0:=by omega
  have e:=HK h0;subst e;omega
theorem Sn {α:Type} {c:α->α->Int} (h:BB c fun _=>True):Sort.SWO fun x y=>decide (c x y<0) where
 irrefl x:=decide_eq_false (h.Ta trivial)
 trans x y z h1 h2:=decide_eq_true (h.trans x y z trivial trivial trivial (of_decide_eq_true h1)<|of_decide_eq_true h2)
 ntrans x y z h1 h2:=decide_eq_false fun d=>by
  have n1:=of_decide_eq_false h1;have n2:=of_decide_eq_false h2
  have ge:∀a b:α,¬c a b<0->a=b∨c b a<0:=fun a b hn=>by
   by_cases h0:c a b=0
   ·exact .inl ((h.zero a b trivial trivial).1 h0)
   exact .inr ((h.neg b a trivial trivial).2 oM)
  rcases ge x y n1 with e | e1
  ·subst e;exact n2 d
  rcases ge y z n2 with e | e2
  ·subst e;exact n1 d
  exact h.Ta trivial<|h.trans x z x trivial trivial trivial d<|h.trans z y x trivial trivial trivial e2 e1
end Go.Ev
namespace Go.Ev
section
variable {β:Type}
def iU:List (List β)->List (List β)
 | []=>[[]]
 | o::r=>o.flatMap fun x=>(iU r).map (x::·)
def mS:List β->List (List β)->Prop
 | [],[]=>True
 | x::p,o::r=>x∈o/\mS p r
 | _,_=>False
theorem lV:∀{L:List (List β)} {p:List β},p∈iU L↔mS p L
 | [],p=>by
  cases p with
  | nil=>exact⟨fun _=>trivial,fun _=>List.mem_singleton.2 Z⟩
  | cons x p=>exact⟨fun h=>by have h:x::p∈[[]]:=h;simp at h,fun h=>h.elim⟩
 | o::r,p=>by
  show p∈(o.flatMap fun x=>(iU r).map (x::·))↔_
  rw[List.mem_flatMap];constructor
  ·rintro ⟨x,hx,h⟩;obtain⟨q,hq,rfl⟩:=zn_.1 h;exact⟨hx,lV.1 hq⟩
  intro h;cases p with
  | nil=>exact h.elim
  | cons x p=>exact⟨x,h.1,zn_.2 ⟨p,lV.2 h.2,Z⟩⟩
theorem mS.congr:∀{p:List β} {L M:List (List β)},L.length=M.length->(∀(i:Nat) (a b:List β),L[i]? =some a->M[i]? =some b->∀x,x∈a↔x∈b)->(mS p L↔mS p M)
 | [],[],[],_,_=>Iff.rfl
 | [],[],_::_,h,_=>by simp at h
 | [],_::_,[],h,_=>by simp at h
 | [],_::_,_::_,_,_=>Iff.rfl
 | _::_,[],[],_,_=>Iff.rfl
 | _::_,[],_::_,h,_=>by simp at h
 | _::_,_::_,[],h,_=>by simp at h
 | x::p,a::L,b::M,h,hm=>by
  show(x∈a/\mS p L)↔(x∈b/\mS p M);rw[hm 0 a b Z Z x,mS.congr (by simpa using h) fun i a b d hb=>hm (i+1) a b (by simpa using d) (by simpa using hb)]
theorem qB:∀{L:List (List β)},(∀o∈L,o.Nodup)->(iU L).Nodup
 | [],_=>by simp[iU]
 | o::r,h=>by
  have h1:=qB fun q hq=>h q (mC_ o hq)
  have h2:=h o (mS_ ..);show(o.flatMap fun x=>(iU r).map (x::·)).Nodup
  unfold List.Nodup at h1 h2⊢;rw[List.pairwise_flatMap];refine⟨fun x _=>?_,?_⟩
  ·rw[List.pairwise_map];exact h1.imp fun hne e=>hne (List.cons.inj e).2
  refine h2.imp fun hne p hp q hq e=>?_
  obtain⟨p',_,rfl⟩:=zn_.1 hp;obtain⟨q',_,rfl⟩:=zn_.1 hq;exact hne (List.cons.inj e).1
end
variable [Env]
theorem Ki {l C D_:List XG} (hp:l.Perm C) (d:l.Pairwise fun x y=>decide (ik y x<0)=false) (hn:C.Nodup) (hm:∀x,x∈C↔x∈D_):l=iV ik D_:=by
 obtain⟨h1,u⟩:=NA xE (l:=D_) fun _ _=>trivial
 have hl:l.Nodup:=hp.nodup_iff.2 hn;refine vV xE (fun _ _=>trivial) (fun _ _=>trivial) ?_ h1 fun x=>by rw[u,hp.mem_iff,hm]
 refine List.Pairwise.imp₂ (R:=fun x y=>decide (ik y x<0)=false) (S:=fun x y=>x≠y) (fun x y h hne=>?_) d hl;have h:¬ik y x<0:=of_decide_eq_false h;have h3:¬ik x y=0:=fun e=>hne ((xE.zero x y trivial trivial).1 e)
 have h4:=(xE.neg y x trivial trivial);have h5:¬0<ik x y:=fun e=>h (h4.2 e)
 omega
def pK (t:Nat):Nat->List cm->List (bS×cm)
 | _,[]=>[]
 | i,e::r=>(⟨.ofNat (t+1),.ofNat i⟩,e)::pK t (i+1) r
def qa:Nat->List (List cm)->List (bS×cm)
 | _,[]=>[]
 | t,r::l=>pK t 0 r++qa (t+1) l
def zC (threads:List (List cm)) (loc:Int):List (bS×cm):=(qa 0 threads).filter fun p=>bif bz p.2 then F p.2.loc loc else false
def iB (threads:List (List cm)):List (bS×cm):=(qa 0 threads).filter fun p=>cz p.2
def kX (init:List Int) (threads:List (List cm)) (r:bS×cm):List bS:=
 (bif F (init.getD r.2.loc.toNat 0) r.2.read then [⟨0,r.2.loc⟩] else [])++((zC threads r.2.loc).filter fun w=>bif cC w.1 r.1 then false else F w.2.write r.2.read).map (·.1)
def fU (F_:List (List bS)) (r s:bS):List (List bS):=F_.set (r.bH.toNat-1) ((F_.getD (r.bH.toNat-1) []).set r.index.toNat s)
def dj (F_:List (List bS)):List (bS×cm)->List bS->List (List bS)
 | r::rs,s::fs=>dj (fU F_ r.1 s) rs fs
 | _,_=>F_
def eS (threads:List (List cm)):List (List bS):=threads.map fun r=>r.map fun _=>⟨0,0⟩
def dR (init:List Int) (threads:List (List cm)):List (List bS):=(iB threads).map (kX init threads)
def eO (init:List Int) (threads:List (List cm)):List (List bS):=(List.range init.length).map fun x=>(zC threads (.ofNat x)).map (·.1)
def gV (ord:List bS->List (List bS)) (init:List Int) (threads:List (List cm)):List XG:=
 (iU<|dR init threads).flatMap fun fs=>(iU ((eO init threads).map ord)).map fun os=>⟨init,threads,dj (eS threads) (iB threads) fs,os⟩
theorem tZ {t:Nat}:∀{r:List cm} {i:Nat} {p:bS×cm},p∈pK t i r->p.1.bH= .ofNat (t+1)/\∃k,p.1.index= .ofNat (i+k)/\r[k]? =some p.2
 | [],_,_,h=>by cases h
 | e::r,i,p,h=>by
  rcases mQ_.1 h with rfl | h
  ·exact⟨Z,0,Z,Z⟩
  obtain⟨h1,k,d,u⟩:=tZ h;exact⟨h1,k+1,(by rw[d];show Int.ofNat _=Int.ofNat _;rw[show i+1+k=i+(k+1) from by omega]),u⟩
theorem qb:∀{l:List (List cm)} {t:Nat} {p:bS×cm},p∈qa t l->∃a k,p.1=⟨.ofNat (t+a+1),.ofNat k⟩/\∃r,l[a]? =some r/\r[k]? =some p.2
 | [],_,_,h=>by cases h
 | r::l,t,p,h=>by
  rcases List.mem_append.1 h with h | h
  ·obtain⟨h1,k,d,u⟩:=tZ h;refine⟨0,k,?_,r,Z,u⟩;obtain⟨⟨a,b⟩,e⟩:=p;dsimp only at h1 d;rw[h1,d,nA_]
  obtain⟨a,k,h1,r',d,u⟩:=qb h;exact⟨a+1,k,(by rw[h1,show t+1+a+1=t+(a+1)+1 by omega]),r',d,u⟩
theorem zj {t:Nat}:∀{r:List cm} {i:Nat},((pK t i r).map (·.1)).Nodup
 | [],_=>List.nodup_nil
 | e::r,i=>by
  refine List.nodup_cons.2 ⟨fun h=>?_,zj⟩;obtain⟨p,hp,h⟩:=zn_.1 h;obtain⟨_,k,d,_⟩:=tZ hp;rw[h] at d;have:i=i+1+k:=iJ_ d;omega
theorem oQ:∀{l:List (List cm)} {t:Nat},((qa t l).map (·.1)).Nodup
 | [],_=>List.nodup_nil
 | r::l,t=>by
  show((pK t 0 r++qa (t+1) l).map (·.1)).Nodup
  rw[List.map_append,List.nodup_append];refine⟨zj,oQ,fun x hx y hy e=>?_⟩;obtain⟨p,hp,rfl⟩:=zn_.1 hx;obtain⟨q,hq,rfl⟩:=zn_.1 hy;obtain⟨h1,_⟩:=tZ hp;obtain⟨a,k,d,_⟩:=qb hq;rw[e,d] at h1;have:t+1+a+1=t+1:=iJ_ h1;omega
theorem oU {p:bS×cm->Bool} {l:List (bS×cm)} (h:(l.map (·.1)).Nodup):((l.filter p).map (·.1)).Nodup:=by
 unfold List.Nodup at h⊢;rw[List.pairwise_map] at h⊢;exact h.filter _
theorem Ba {threads:List (List cm)}:((iB threads).map (·.1)).Nodup:=oU oQ
theorem Hr {init:List Int} {threads:List (List cm)}:∀o∈eO init threads,o.Nodup:=fun o d=>by
 obtain⟨x,_,rfl⟩:=zn_.1 d;exact oU oQ
theorem Hf {init:List Int} {threads:List (List cm)} (r:bS×cm):(kX init threads r).Nodup:=by
 unfold kX;rw[List.nodup_append];refine⟨?_,oU<|oU oQ,fun x hx y hy e=>?_⟩
 ·cases F (init.getD r.2.loc.toNat 0) r.2.read
  ·exact List.nodup_nil
  exact List.nodup_cons.2 ⟨List.not_mem_nil,List.nodup_nil⟩
 have d:x.bH=0:=by
  revert hx;cases F (init.getD r.2.loc.toNat 0) r.2.read
  ·intro h;cases h
  intro h;rw[List.mem_singleton.1 h]
 obtain⟨q,hq,rfl⟩:=zn_.1 hy;obtain⟨a,k,u,_⟩:=qb (List.mem_filter.1 (List.mem_filter.1 hq).1).1;rw[e,u] at d;have:(0+a+1:Nat)=0:=iJ_ d;omega
def uQ (F_:List (List bS)) (r:bS):Option bS:=((F_.getD (r.bH.toNat-1) [])[r.index.toNat]?)
def pF (F_:List (List bS)) (r:bS):Prop:=0<r.bH.toNat/\r.bH.toNat-1<F_.length/\r.index.toNat<(F_.getD (r.bH.toNat-1) []).length
theorem E3 {F_:List (List bS)} {r s:bS} (h:pF F_ r):uQ (fU F_ r s) r=some s:=by
 obtain⟨h0,h1,d⟩:=h;unfold uQ fU;rw[List.getD_eq_getElem?_getD,List.getElem?_set_self h1];simp only[Option.getD_some];exact List.getElem?_set_self d
theorem G8 {F_:List (List bS)} {r s q:bS} (hq:pF F_ q) (d:pF F_ r) (hne:¬(q.bH.toNat=r.bH.toNat/\q.index.toNat=r.index.toNat)):uQ (fU F_ r s) q=uQ F_ q:=by
 unfold uQ fU
 by_cases e:r.bH.toNat-1=q.bH.toNat-1
 ·have e2:q.bH.toNat=r.bH.toNat:=by have:=hq.1;have:=d.1;omega
  rw[e,List.getD_eq_getElem?_getD,List.getElem?_set_self (by rw[<-e];exact d.2.1)];simp only[Option.getD_some];rw[List.getElem?_set_ne (fun h=>hne ⟨e2,h.symm⟩)]
 rw[List.getD_eq_getElem?_getD,List.getElem?_set_ne e,<-List.getD_eq_getElem?_getD]
theorem gm {F_:List (List bS)} {r s q:bS} (hq:pF F_ q):pF (fU F_ r s) q:=by
 obtain⟨h0,h1,d⟩:=hq;unfold pF fU;refine⟨h0,by rw[zg_];exact h1,?_⟩
 by_cases e:r.bH.toNat-1=q.bH.toNat-1
 ·rw[e,List.getD_eq_getElem?_getD,List.getElem?_set_self h1];simp only[Option.getD_some,zg_];exact d
 rw[List.getD_eq_getElem?_getD,List.getElem?_set_ne e,<-List.getD_eq_getElem?_getD];exact d
def kZ (r:bS):Prop:=∃a k:Nat,r=⟨.ofNat (a+1),.ofNat k⟩
theorem kZ.eq {q r:bS} (hq:kZ q) (u:kZ r) (h:q.bH.toNat=r.bH.toNat/\q.index.toNat=r.index.toNat):q=r:=by
 obtain⟨a,k,rfl⟩:=hq;obtain⟨b,l,rfl⟩:=u;obtain⟨h1,d⟩:=h;have h1:a+1=b+1:=h1;have d:k=l:=d;rw[h1,d]
theorem qg:∀{rs:List (bS×cm)} {fs:List bS} {F_:List (List bS)} {q:bS},kZ q->pF F_ q->(∀r∈rs,kZ r.1/\pF F_ r.1)->q∉rs.map (·.1)->uQ (dj F_ rs fs) q=uQ F_ q
 | [],_,F_,q,_,_,_,_=>rfl
 | _::_,[],F_,q,_,_,_,_=>rfl
 | r::rs,s::fs,F_,q,u,hq,d,hn=>by
  show uQ (dj (fU F_ r.1 s) rs fs) q=_;obtain⟨g1,z⟩:=d r (mS_ ..)
  rw[qg u (gm hq) (fun x hx=>⟨(d x<|mC_ _ hx).1,gm (d x<|mC_ _ hx).2⟩) fun h=>hn (mC_ _ h),
   G8 hq z fun h=>hn (mQ_.2 (.inl<|u.eq g1 h))]
theorem x4:∀{rs:List (bS×cm)} {fs gs:List bS} {F_ G:List (List bS)},fs.length=rs.length->gs.length=rs.length->(rs.map (·.1)).Nodup->(∀r∈rs,kZ r.1/\pF F_ r.1/\pF G r.1)->
  dj F_ rs fs=dj G rs gs->fs=gs
 | [],[],[],_,_,_,_,_,_,_=>rfl
 | [],[],_::_,_,_,_,h,_,_,_=>by simp at h
 | [],_::_,_,_,_,h,_,_,_,_=>by simp at h
 | _::_,[],_,_,_,h,_,_,_,_=>by simp at h
 | _::_,_::_,[],_,_,_,h,_,_,_=>by simp at h
 | r::rs,s::fs,t::gs,F_,G,h1,B,hn,d,e=>by
  obtain⟨u,C⟩:=List.nodup_cons.1 hn;obtain⟨g1,z,A⟩:=d r (mS_ ..);have e:dj (fU F_ r.1 s) rs fs=dj (fU G r.1 t) rs gs:=e;have k1:=qg (fs:=fs) g1 (gm (s:=s) (r:=r.1) z) (fun x hx=>⟨(d x<|mC_ _ hx).1,gm (d x<|mC_ _ hx).2.1⟩) u;have k2:=qg (fs:=gs) g1 (gm (s:=t) (r:=r.1) A) (fun x hx=>⟨(d x<|mC_ _ hx).1,gm (d x<|mC_ _ hx).2.2⟩) u;rw[E3 z] at k1;rw[E3 A] at k2;have ar:s=t:=zs_ (k1.symm.trans ((congrArg (fun x=>uQ x r.1) e).trans k2));rw[ar,x4 (by simpa using h1) (by simpa using B) C (fun x hx=>⟨(d x<|mC_ _ hx).1,gm (d x<|mC_ _ hx).2.1,gm (d x<|mC_ _ hx).2.2⟩) e]
theorem mS.length {β:Type}:∀{p:List β} {L:List (List β)},mS p L->p.length=L.length
 | [],[],_=>rfl
 | [],_::_,h=>h.elim
 | _::_,[],h=>h.elim
 | _::p,_::L,h=>by rw[zc_,zc_,h.2.length]
theorem np {threads:List (List cm)}:∀r∈iB threads,kZ r.1/\pF (eS threads) r.1:=fun r u=>by
 obtain⟨a,k,h1,row,d,z⟩:=qb (List.mem_filter.1 u).1;rw[h1];refine⟨⟨0+a,k,Z⟩,?_⟩;have ha:=(gA.1 d).1;have hk:=(gA.1 z).1;have e:(Int.ofNat (0+a+1)).toNat-1=a:=by show(0+a+1)-1=a;omega
 refine⟨by show 0<0+a+1;omega,?_,?_⟩
 ·rw[e];unfold eS;rw[lM_];exact ha
 rw[e];unfold eS;rw[List.getD_eq_getElem?_getD,gM_,d];show k<(row.map _).length;rw[lM_];exact hk
theorem FX {init:List Int} {threads:List (List cm)} (h:∀o∈eO init threads,o.length<=7) (g:XG):g∈gV ft init threads↔g∈gV (fun l=>gM l.length l) init threads:=by
 unfold gV;simp only[List.mem_flatMap,zn_,lV]
 have key:∀os,mS os ((eO init threads).map ft)↔mS os ((eO init threads).map fun l=>gM l.length l):=fun os=>
  mS.congr (by rw[lM_,lM_]) fun i a b d hb x=>by
   rw[gM_] at d hb;cases hw:(eO init threads)[i]? with
   | none=>rw[hw] at d;cases d
   | some w=>
    rw[hw] at d hb;cases d;cases hb;exact LQ (h w<|gB_ hw) x
 simp only[key]
theorem DO {init:List Int} {threads:List (List cm)} (h:∀o∈eO init threads,o.length<=7):(gV ft init threads).Nodup:=by
 have z:(iU<|dR init threads).Nodup:=qB fun o d=>by
  obtain⟨r,_,rfl⟩:=zn_.1 d;exact Hf r
 have A:(iU ((eO init threads).map ft)).Nodup:=qB fun o d=>by
  obtain⟨w,hw,rfl⟩:=zn_.1 d;exact(GI (h w hw)<|Hr w hw).2
 unfold gV List.Nodup at*;rw[List.pairwise_flatMap];refine⟨fun fs _=>?_,?_⟩
 ·rw[List.pairwise_map];exact A.imp fun hne e=>hne (congrArg XG.order e)
 refine List.Pairwise.imp_of_mem ?_ z;intro fs gs hf B hne x hx y hy e;obtain⟨os,_,rfl⟩:=zn_.1 hx;obtain⟨os',_,rfl⟩:=zn_.1 hy;have l1:=(lV.1 hf).length;have l2:=(lV.1 B).length;unfold dR at l1 l2;rw[lM_] at l1 l2;exact hne<|x4 l1 l2 Ba (fun r u=>⟨(np r u).1,(np r u).2,(np r u).2⟩)<|congrArg XG.from_ e
def dI:List Nat->Nat->Nat
 | [],n=>n
 | b::l,n=>dI l (min (n*b) 16385)
theorem mL:∀{l m:List Nat} {n:Nat},dI (l++m) n=dI m (dI l n)
 | [],_,_=>rfl
 | b::l,m,n=>mL (l:=l)
theorem gk:∀{l:List Nat} {n:Nat},n<=16385->dI l n<=16385
 | [],_,h=>h
 | b::l,n,_=>gk (l:=l) oM
theorem Bg:∀{l:List Nat} {n m:Nat},n<=m->dI l n<=dI l m
 | [],_,_,h=>h
 | b::l,n,m,h=>Bg (l:=l) (by have:=nM_ b h;omega)
theorem w7:∀{l:List Nat} {n:Nat},n<=16385->(∀b∈l,1<=b)->n<=dI l n
 | [],_,_,_=>nR_ _
 | b::l,n,h,hb=>by
  have h1:=hb b (mS_ ..);have h2:n*1<=n*b:=Nat.mul_le_mul_left n h1;exact Nat.le_trans oM (w7 (l:=l) (n:=min (n*b) 16385) oM fun c d=>hb c (mC_ _ d))
theorem rF:∀{l:List Nat},dI l 0=0
 | []=>rfl
 | b::l=>by
  show dI l (min (0*b) 16385)=0;rw[Nat.zero_mul];exact rF
theorem sl:∀{l:List Nat} {n:Nat},1<=n->dI l n=0->0∈l
 | [],n,h,e=>by have e:n=0:=e;omega
 | b::l,n,h,e=>by
  cases b with
  | zero=>exact mS_ ..
  | succ b=>
   refine mC_ _ (sl (l:=l) (n:=min (n*(b+1)) 16385) ?_ e);have:1<=n*(b+1):=Nat.mul_pos h (Nat.succ_pos b);omega
def dP (k:Nat):List Nat:=(List.range k).map (· +1)
theorem Jw {k:Nat}:∀b∈dP k,1<=b:=fun b hb=>by
 obtain⟨i,_,rfl⟩:=zn_.1 hb;omega
theorem Jv {k n:Nat} (hk:8<=k) (h1:1<=n) (d:n<=16385):dI (dP k) n=16385:=by
 obtain⟨r,rfl⟩:∃r,k=8+r:=⟨k-8,by omega⟩
 have e:dP (8+r)=dP 8++(List.range r).map (fun i=>8+i+1):=by
  unfold dP;rw[List.range_add,List.map_append,List.map_map];rfl
 rw[e,mL];have u:dI (dP 8) 1=16385:=by decide
 have h4:16385<=dI (dP 8) n:=by rw[<-u];exact Bg h1
 have h5:=gk (l:=dP 8) d;have z:dI (dP 8) n=16385:=by omega
 rw[z]
 have h7:=w7 (l:=(List.range r).map (fun i=>8+i+1)) (n:=16385) (nR_ _) fun b hb=>by
  obtain⟨i,_,rfl⟩:=zn_.1 hb;omega
 have h8:=gk (l:=(List.range r).map (fun i=>8+i+1)) (n:=16385) (nR_ _);omega
def lP (srcs wrs:List (List bS)):Nat:=dI (wrs.flatMap fun w=>dP w.length) (dI (srcs.map List.length) 1)
theorem C0 {srcs wrs:List (List bS)}:lP srcs wrs<=16385:=gk (gk (by decide))
theorem uN {wrs:List (List bS)}:∀b∈(wrs.flatMap fun w=>dP w.length),1<=b:=fun b hb=>by
 obtain⟨w,_,hb⟩:=List.mem_flatMap.1 hb;exact Jw b hb
theorem vu {srcs wrs:List (List bS)} (h:lP srcs wrs=0):iU srcs= []:=by
 have h1:dI (srcs.map List.length) 1=0:=by
  have:=w7 (l:=wrs.flatMap fun w=>dP w.length) (n:=dI (srcs.map List.length) 1) (gk (by decide)) uN;unfold lP at h;omega
 have h2:=sl (nR_ 1) h1;obtain⟨o,d,he⟩:=zn_.1 h2;have he:o= []:=eN_ he;subst he;refine List.eq_nil_iff_forall_not_mem.2 fun p hp=>?_
 have h3:=lV.1 hp
 have key:∀{p:List bS} {L:List (List bS)},[]∈L->mS p L->False:=by
  intro p;induction p with
  | nil=>intro L hm h;cases L with
   | nil=>cases hm
   | cons _ _=>exact h.elim
  | cons x p ih=>
   intro L hm h;cases L with
   | nil=>cases hm
   | cons o L=>
    rcases mQ_.1 hm with e | hm
    ·rw[<-e] at h;exact absurd h.1 List.not_mem_nil
    exact ih hm h.2
 exact key d h3
theorem Fi {srcs wrs:List (List bS)} (h:lP srcs wrs<=16384) (h0:lP srcs wrs≠0):∀w∈wrs,w.length<=7:=fun w hw=>by
 refine zo_ fun hk=>?_
 obtain⟨a,b,rfl⟩:=List.append_of_mem hw;unfold lP at h h0;rw[List.flatMap_append,List.flatMap_cons,mL,mL] at h h0;have d:dI (srcs.map List.length) 1<=16385:=gk (by decide)
 have h1:dI (a.flatMap fun w=>dP w.length) (dI (srcs.map List.length) 1)≠0:=fun e=>by
  rw[e,rF,rF] at h0;exact h0 Z
 have h2:=gk (l:=a.flatMap fun w=>dP w.length) d;rw[Jv oM oM h2] at h;have h3:=w7 (l:=b.flatMap fun w=>dP w.length) (n:=16385) (nR_ _) uN;omega
theorem of_same [Env] {m:Int} {init:List Int} {threads:List (List cm)} (d:XG->Bool) (h:lP (dR init threads) (eO init threads)<=16384) (h0:lP (dR init threads) (eO init threads)≠0) {l:List XG}
  (hp:l.Perm ((gV ft init threads).filter d)) (u:l.Pairwise fun x y=>decide (ik y x<0)=false):l=iV ik ((gV (fun l=>gM l.length l) init threads).filter d):=by
 have h7:=Fi h h0;exact Ki hp u ((DO h7).filter _) fun x=>by rw[List.mem_filter,List.mem_filter,FX h7]
end Go.Ev
namespace Go.Ev
variable [Env]
variable {Zv:List V} {e j:Nat} {x:Operand}
section
variable {P:Program} {G:Cx} {ev:Operand->Option V} {O:aB} {K:KP} {L:Own}
theorem eV {t n m off:Nat} {b:Pos} {i:Operand} {k:IntKind} (d:P.underlying t=some (.array n e)) (hj:(P.info? e).map (·.size)=some m) (hx:ev x=some (.ptr b off)) (hi:ev i=some (.int k (.ofNat j))) (hn:j<n):eo P G ev O (.indexAddr t x i)= .val (.ptr b (off+j*m)) O:=by
 refine bU Z ?_;obtain⟨q,hq,rfl⟩:=oM_.1 hj;simp only[eh,d,hx,hi,hq,show Nat.ble (Nat.succ j) n=true by rw[nE_];exact hn,cond_true]
theorem cO {b:Pos} {off:Nat} (hx:ev x=some (.ptr b off)):eo P G ev O (.nilCheck x)= .val (.ptr b off) O:=bU Z (by simp only[eh,hx])
theorem iX {α:Type} {f:α->V} {l:List α} {i off:Nat} {x:α} (h:l[i]? =some x) (d:off=i):nth (l.map f) off=some (f x):=by
 subst d;rw[fY,gM_,h];rfl
theorem eZ {α:Type} {f:α->V} {l:List α} {i off:Nat} {v:α} (h:i<l.length) (ho:off=i):dJ [f v] (l.map f) off=(l.set i v).map f:=by
 grind [mM,List.map_set]
theorem kG {α:Type} {f:α->V} (v:α) (n:Nat):e9 [f v] n=(List.replicate n v).map f:=by rw[fL,List.map_replicate]
end
def sx {α:Type} (m E:Nat) (R:α->List V->Prop) (l:List α) (u:V) (M:Own):Prop:=
 (l= []/\u= .av/\M= [])∨∃(b:Nat) (c:rK) (cells:List V) (e:Nat),u= .slice b 0 l.length c/\M= [(b,.row cells e false)]/\l.length*m<=cells.length/\(∀(i:Nat) (x:α),l[i]? =some x->R x ((cells.drop (i*m)).take m))/\((∃n,c= .known n/\l.length<=n/\n*m<=cells.length)∨(c= .upto m/\e=E))/\l.length<=1048576
section
variable {α:Type} {m E:Nat} {R:α->List V->Prop} {l:List α} {u:V} {M:Own} {K:KP}
theorem sx.fg (h:sx m E R l u M) (hk:∀e∈M,K e.1 e.2):bO K m R l u:=by
 rcases h with ⟨h1,d,_⟩ | ⟨b,c,cells,e,rfl,rfl,h3,h4,h5,h6⟩
 ·exact .inl ⟨h1,d⟩
 refine .inr ⟨b,0,c,cells,e,false,Z,?_,hk _<|mS_ ..,by omega,by omega,fun i x hx=>by simp_all⟩;rcases h5 with ⟨n,h5,z,_⟩ | h5
 ·exact .inr ⟨_,h5,z⟩
 exact .inl h5.1
end
section
variable {α:Type} {m E:Nat} {R:α->List V->Prop}
theorem Ac {l l2:List α} {cells news:List V} (hl:l.length*m<=cells.length) (h1:∀(i:Nat) (x:α),l[i]? =some x->R x ((cells.drop (i*m)).take m)) (hn:news.length=l2.length*m) (z:∀(i:Nat) (x:α),l2[i]? =some x->R x ((news.drop (i*m)).take m)):
  ∀(i:Nat) (x:α),(l++l2)[i]? =some x->R x (((cells.take (l.length*m)++(news++Zv)).drop (i*m)).take m):=by
 intro i x hx;have A:(cells.take (l.length*m)).length=l.length*m:=by simp_all
 by_cases hi:i<l.length
 ·rw[gL_ hi] at hx;have hle:(i+1)*m<=l.length*m:=nM_ _ hi
  grind [List.drop_take]
 rw[gR_ oM] at hx;have hlt:=(gA.1 hx).1;have hle:l.length*m<=i*m:=nM_ _ oM;have d:(i-l.length+1)*m<=l2.length*m:=nM_ _ hlt;rw[Nat.succ_mul] at d;rw[List.drop_append,List.drop_eq_nil_of_le oM,List.nil_append,A,<-Nat.sub_mul,List.drop_append_of_le_length oM,List.take_append_of_le_length (by grind)];exact z _ x hx
section
variable {P:Program} {K:KP} {L:Own}
end
end
def S1:List Nat->Nat->Option Nat
 | [],n=>some n
 | c::r,n=>if 48<=c/\c<=57 then S1 r (10*n+(c-48)) else none
def TO (s:List Nat):Option Nat:=if s.length=0∨4<s.length∨(1<s.length/\s[0]? =some 48) then none else S1 s 0
theorem eqv {a b:Int} (h:F a b=true):a=b:=by rw[cK] at h;simp_all
def tb (b:Bool):Int:=bif b then 1 else 0
def Rl (f:BitVec 64->BitVec 64->BitVec 64) (a b:Int):Int:=wr .i64 (IntKind.u64.wrap (f (BitVec.ofInt 64<|wr .u64 a)<|BitVec.ofInt 64<|wr .u64 b).toNat)
def Vo (op a:Int):Int:=bif F op 3 then wr .i64 (wr .u64<|Int.sub 0<|wr .u64 a) else tb (F a 0)
def VW (op a b:Int):Int:=
 bif F op 5 then tb (bif cL (F a 0) then true else cL (F b 0)) else
 bif F op 6 then tb (bif cL (F a 0) then cL (F b 0) else false) else
 bif F op 7 then tb (F a b) else
 bif F op 8 then tb (cL<|F a b) else
 bif F op 9 then tb (dH a b) else
 bif F op 10 then tb (cL<|dH b a) else
 bif F op 11 then Rl (· ||| ·) a b else
 bif F op 12 then Rl (· ^^^ ·) a b else
 bif F op 13 then Rl (· &&& ·) a b else
 bif F op 14 then wr .i64 (wr .u64<|Int.add (wr .u64 a)<|wr .u64 b) else
 bif F op 15 then wr .i64 (wr .u64<|Int.sub (wr .u64 a)<|wr .u64 b) else
 wr .i64 (wr .u64<|Int.mul (wr .u64 a)<|wr .u64 b)
def WI (op:Int) (l:List Int):Int×Int:=
 bif (bif (bif F op 3 then true else F op 4) then F (.ofNat l.length) 1 else false) then(Vo op ((l[0]?).getD 0),0) else
 bif (bif (bif cL (dH op 5) then cL (dH 16 op) else false) then F (.ofNat l.length) 2 else false) then(VW op ((l[0]?).getD 0) ((l[1]?).getD 0),0) else(0,2)
def WJ (op:Int) (l:List Int):Int:=(WI op l).1
def QG (gy:List Int):Nat->XE->Int
 | 0,_=>0
 | k+1,.mk op num name kids=>bif F op 1 then num else bif F op 2 then(gy[(TO name).getD 0]?).getD 0 else WJ op (kids.map<|QG gy k)
def Tf (op:Int):Int:=bif (bif F op 3 then true else F op 4) then 1 else 2
def G5 (gy:Int):Nat->XE->Bool
 | 0,_=>false
 | k+1,.mk op num name kids=>
  bif F op 1 then(bif cL (dH num 0) then(bif AB name [] then F (.ofNat kids.length) 0 else false) else false) else
  bif F op 2 then(match TO name with | some n=>(bif dH (.ofNat n) gy then(bif F num 0 then F (.ofNat kids.length) 0 else false) else false) | none=>false) else
  bif (bif (bif F op 3 then true else F op 4) then false else(bif dH op 5 then true else dH 16 op)) then false else
  bif (bif cL (F num 0) then true else bif cL (AB name []) then true else cL (F (.ofNat kids.length)<|Tf op)) then false else
  kids.all (G5 gy k)
def Nz (f:XE->Int->Option Int):List XE->Int->Option Int
 | [],m=>some m
 | x::r,m=>(f x m).bind (Nz f r)
def Ny:Nat->XE->Int->Int->Option Int
 | 0,_,_,_=>none
 | k+1,.mk _ _ _ kids,deep,size=>bif (bif dH 2000 (wr .i64<|Int.add size 1) then true else dH 32 deep) then none else Nz (fun x m=>Ny k x (wr .i64<|Int.add deep 1) m) kids (wr .i64<|Int.add size 1)
structure wG where
 PN:Bool
 loc:Bool
 order:Bool
 to:Bool
 exprs:Nat
def IC:List wG:=[⟨false,false,false,false,0⟩,⟨true,false,false,false,1⟩,⟨true,true,true,false,0⟩,⟨false,true,true,false,1⟩,⟨true,true,true,false,2⟩,⟨true,true,true,false,1⟩,⟨true,true,true,false,1⟩,⟨false,false,true,false,0⟩,⟨false,false,false,false,1⟩,⟨false,false,false,false,1⟩,⟨false,false,false,true,0⟩,⟨false,false,false,true,1⟩,⟨false,false,false,false,0⟩,⟨false,false,false,false,0⟩]
def nu (n least most:Int) (must:Bool):Bool:=bif must then(bif cL (dH n least) then dH n most else false) else F n 0
def PR (gy nins:Int) (k:Nat) (x:XI) (h:wG):Bool:=
 bif cL (nu x.PN 0 gy h.PN) then false else bif cL (nu x.loc 0 6 h.loc) then false else bif cL (nu x.order 1 7 h.order) then false else bif cL (nu x.to 0 nins h.to) then false else
 bif cL (F (.ofNat x.exprs.length) (.ofNat h.exprs)) then false else x.exprs.all (G5 gy k)
def No (gy nins:Int) (k:Nat) (x:XI):Bool:=
 bif dH x.kind 1 then false else bif dH 13 x.kind then false else
 match IC[x.kind.toNat]? with
 | some h=>PR gy nins k x h
 | none=>false
def Sg (k:Nat) (x:XI):Bool:=x.exprs.all fun e=>(Ny k e 1 0).isSome
def Mf (x:XI):Bool:=bif F x.kind 10 then true else bif F x.kind 12 then true else F x.kind 13
def Cj (k:Nat) (c:XC):Int:=
 bif dH 16 c.gy then 3 else bif dH 4000 (.ofNat c.ins.length) then 3 else
 bif cL (c.ins.all<|Sg k) then 3 else
 bif dH c.gy 0 then 2 else bif F (.ofNat c.ins.length) 0 then 2 else
 bif cL (c.ins.all<|No c.gy (.ofNat c.ins.length) k) then 2 else
 match c.ins[c.ins.length-1]? with
 | some x=>bif Mf x then 0 else 2
 | none=>2
def To (x:XI) (at_:Nat):List Int:=
 bif F x.kind 10 then [x.to] else bif F x.kind 11 then [.ofNat (at_+1),x.to] else bif F x.kind 12 then [] else bif F x.kind 13 then [] else [.ofNat (at_+1)]
def QQ (c:XC) (i:Nat):List Nat:=match c.ins[i]? with | some x=>(To x i).map Int.toNat | none=>[]
structure DS where
 st:List Nat
 gone:List Nat
 out:List Nat
 path:List Nat
def S2 (nx:Nat->List Nat) (s:DS) (at_:Nat):Option DS:=
 let g:=(s.gone[at_]?).getD 0
 match(nx at_)[g]? with
 | none=>some {s with st:=s.st.set at_ 2,out:=s.out++[at_],path:=s.path.dropLast}
 | some to=>
  let s':={s with gone:=s.gone.set at_ (g+1)}
  if(s.st[to]?).getD 0=2 then some s' else if(s.st[to]?).getD 0=1 then none else some {s' with st:=s.st.set to 1,path:=s.path++[to]}
def V8 (nx:Nat->List Nat):Nat->DS->Option (List Nat)
 | 0,_=>none
 | f+1,s=>match s.path.getLast? with
  | none=>some s.out
  | some at_=>(S2 nx s at_).bind (V8 nx f)
def WK (n:Nat):DS:=⟨(List.replicate n 0).set 0 1,List.replicate n 0,[],[0]⟩
def total (nx:Nat->List Nat) (n:Nat):Nat:=((List.range n).map fun i=>(nx i).length).sum
def MG (c:XC):Option (List Nat):=V8 (QQ c) (2*total (QQ c) c.ins.length+2) (WK c.ins.length)
def LH (k:Nat) (c:XC):Bool:=bif cL (F (Cj k c) 0) then false else(MG c).isSome
structure Xg (nx:Nat->List Nat) (n:Nat) (s:DS):Prop where
 Xk:s.st.length=n
 Wa:s.gone.length=n
 gone:∀(i g:Nat),s.gone[i]? =some g->g<=(nx i).length
 path:∀i∈s.path,i<n/\s.st[i]? =some 1
 out:∀i∈s.out,i<n
 nodup:s.path.Nodup
 fresh:∀(i g:Nat),s.st[i]? =some 0->s.gone[i]? =some g->g=0
 done:∀(i:Nat),s.st[i]? =some 2->i∈s.out
 VK:∀(k i:Nat),s.out[k]? =some i->∀to∈nx i,∃k',k'<k/\s.out[k']? =some to
 ways:∀(j p g:Nat),s.path[j]? =some p->s.gone[p]? =some g->∀(m to:Nat),m<g->(nx p)[m]? =some to->to∈s.out∨s.path[j+1]? =some to
 zero:0∈s.out∨0∈s.path
 size:∀(i g:Nat),s.st[i]? =some g->g<=2
section
variable {nx:Nat->List Nat} {n:Nat} {s s':DS}
structure U1 (nx:Nat->List Nat) (n:Nat) (out:List Nat):Prop where
 WX:∀(k i:Nat),out[k]? =some i->∀to∈nx i,∃k',k'<k/\out[k']? =some to
 zero:0∈out
 lt:∀i∈out,i<n
end
structure TS where
 at_:Nat
 gy:List Int
 events:List cm
 asked:Nat
 fin:Int
 asks:Bool
def xV (k:Nat) (gy:List Int) (x:XI) (i:Nat):Int:=((x.exprs[i]?).map<|QG gy k).getD 0
def Uk (k:Nat) (x:XI) (s:TS):TS×Bool:=
 bif F x.kind 1 then({s with gy:=s.gy.set x.PN.toNat (xV k s.gy x 0),at_:=s.at_+1},true) else
 bif F x.kind 3 then({s with events:=s.events++[⟨2,x.loc,x.order,0,xV k s.gy x 0⟩],at_:=s.at_+1},true) else
 bif F x.kind 7 then({s with events:=s.events++[⟨4,0,x.order,0,0⟩],at_:=s.at_+1},true) else
 bif F x.kind 8 then(bif F (xV k s.gy x 0) 0 then({s with fin:=2},false) else({s with at_:=s.at_+1},true)) else
 bif F x.kind 9 then(bif F (xV k s.gy x 0) 0 then({s with fin:=3},false) else({s with at_:=s.at_+1},true)) else
 bif F x.kind 10 then({s with at_:=x.to.toNat},true) else
 bif F x.kind 11 then(bif F (xV k s.gy x 0) 0 then({s with at_:=x.to.toNat},true) else({s with at_:=s.at_+1},true)) else
 bif F x.kind 12 then({s with fin:=4},false) else
 bif F x.kind 13 then({s with fin:=1},false) else
 ({s with asks:=true},false)
def NH (k:Nat) (c:XC) (s:TS):TS×Bool:=match c.ins[s.at_]? with | some x=>Uk k x s | none=>(s,false)
def Vi (k:Nat) (c:XC):Nat->TS->TS
 | 0,s=>s
 | f+1,s=>bif (NH k c s).2 then Vi k c f (NH k c s).1 else(NH k c s).1
def QK (c:XC):Nat:=((MG c).getD []).length
def Rj (k:Nat) (c:XC):TS:=Vi k c (QK c) ⟨0,List.replicate c.gy.toNat 0,[],0,0,false⟩
structure I0 where
 kind:Int
 loc:Int
 order:Int
 a:Int
 b:Int
def U6 (k:Nat) (x:XI) (gy:List Int):I0:=⟨x.kind,x.loc,x.order,xV k gy x 0,xV k gy x 1⟩
def Re (k:Nat) (c:XC) (s:TS):I0:=match c.ins[s.at_]? with | some x=>U6 k x s.gy | none=>⟨0,0,0,0,0⟩
def Hx (a:I0) (v:Int):cm:=
 bif F a.kind 2 then⟨1,a.loc,a.order,v,0⟩ else
 bif F a.kind 4 then(bif F v a.a then⟨3,a.loc,a.order,v,a.b⟩ else⟨1,a.loc,a.order,v,0⟩) else
 bif F a.kind 5 then⟨3,a.loc,a.order,v,wr .i64<|wr .u64<|Int.add (wr .u64 v)<|wr .u64 a.a⟩ else
 bif F a.kind 6 then⟨3,a.loc,a.order,v,a.a⟩ else⟨0,0,0,0,0⟩
def TN (c:XC) (s:TS):Nat:=match c.ins[s.at_]? with | some x=>x.PN.toNat | none=>0
def KJ (k:Nat) (c:XC) (s:TS) (v:Int):TS:=
 {s with events:=s.events++[Hx (Re k c s) v],gy:=s.gy.set (TN c s) v,asked:=s.asked+1,at_:=s.at_+1,asks:=false}
def Ou (k:Nat) (c:XC) (s:TS) (v:Int):TS:=Vi k c (QK c) (KJ k c s v)
def TZ (k:Nat) (c:XC):List Int->TS->TS
 | [],s=>s
 | v::r,s=>bif s.asks then TZ k c r (Ou k c s v) else s
def Ni (l:List cm):List Int:=(l.filter cz).map cm.read
def T0 (k:Nat) (c:XC) (a:List Int):TS:=TZ k c a (Rj k c)
def QH (s:TS) (l:List cm):Bool:=bif dH (.ofNat s.events.length) (.ofNat l.length) then false else cC (s.events.take l.length) l
def KZ (k:Nat) (c:XC):Int:=bif LH k c then 0 else bif cL (F (Cj k c) 0) then Cj k c else 2
structure Aa where
 event:cm
 ask:I0
 fin:Int
def RT:cm:=⟨0,0,0,0,0⟩
def H4:I0:=⟨0,0,0,0,0⟩
def Mv:Aa:=⟨RT,H4,0⟩
def Tp (k:Nat) (c:XC) (s:TS) (l:List cm):Aa×Int:=
 bif cL (QH s l) then(Mv,2) else
 match s.events[l.length]? with
 | some e=>(⟨e,H4,0⟩,0)
 | none=>bif s.asks then(⟨RT,Re k c s,0⟩,0) else(⟨RT,H4,s.fin⟩,0)
def yJ (k:Nat) (c:XC) (l:List cm):Aa×Int:=
 bif cL (F (KZ k c) 0) then(Mv,KZ k c) else Tp k c (T0 k c<|Ni l) l
structure UU (k:Nat) (c:XC):Prop where
 Wm:0<=c.gy
 VM:c.gy<=16
 len:c.ins.length<=4000
 pos:0<c.ins.length
 right:∀x∈c.ins,No c.gy (.ofNat c.ins.length) k x=true
 last:∀x,c.ins[c.ins.length-1]? =some x->Mf x=true
structure Uu (gy nins:Int) (k:Nat) (x:XI) (sh:wG):Prop where
 PN:nu x.PN 0 gy sh.PN=true
 loc:nu x.loc 0 6 sh.loc=true
 order:nu x.order 1 7 sh.order=true
 to:nu x.to 0 nins sh.to=true
 exprs:x.exprs.length=sh.exprs
 all:∀e∈x.exprs,G5 gy k e=true
variable {α:Type} {B:List Int}
def Cm:List Int->List Int->Int
 | x::l,y::m=>bif F (fu x y) 0 then Cm l m else fu x y
 | _,_=>0
def dB (A B:List Int) (c:Int):Prop:=∀l m,Cm (A++l) (B++m)=bif F c 0 then Cm l m else c
theorem dB.nil:dB [] [] 0:=fun _ _=>Z
theorem dB.one (x y:Int):dB [x] [y] (fu x y):=fun _ _=>Z
theorem dB.app {A A' B':List Int} {c c':Int} (h:dB A B c) (h':c=0->dB A' B' c'):dB (A++A') (B++B') (bif F c 0 then c' else c):=fun l m=>by
 rw[lQ_,lQ_,h];simp only[zU]
 by_cases d:c=0
 ·simp only[d,if_true];rw[h' d];simp only[zU]
 omega
theorem dB.rows {α:Type} {enc:α->List Int} {c:α->α->Int}:∀{ls ms:List α},ls.length=ms.length->(∀(i:Nat) (x y:α),ls[i]? =some x->ms[i]? =some y->dB (enc x) (enc y) (c x y))->dB (ls.flatMap enc) (ms.flatMap enc) (eD c ls ms)
 | [],[],_,_=>dB.nil
 | [],_::_,h,_=>by cases h
 | _::_,[],h,_=>by cases h
 | x::ls,y::ms,h,d=>by
  rw[List.flatMap_cons,List.flatMap_cons];exact(d 0 x y Z Z).app fun _=>dB.rows (by simpa using h) fun i x y h1 u=>d (i+1) x y (by simpa using h1) (by simpa using u)
theorem dB.fz {A A' B':List Int} {c:Int} {l:List Int} (h:dB A B c) (h':c=0->dB A' B' (Dp l)):dB (A++A') (B++B') (Dp (c::l)):=h.app h'
theorem ql:∀{a b:List Int},a.length=b.length->dB a b (eD fu a b)
 | [],[],_=>dB.nil
 | [],_::_,h=>by cases h
 | _::_,[],h=>by cases h
 | x::a,y::b,h=>(dB.one x y).app fun _=>ql (by simpa using h)
theorem JP (x y:cm):dB x.ints y.ints (pB x y):=
 (dB.one x.kind y.kind).fz (B':=[y.loc,y.order,y.read,y.write]) (A':=[x.loc,x.order,x.read,x.write]) fun _=>
 (dB.one x.loc y.loc).fz (B':=[y.order,y.read,y.write]) (A':=[x.order,x.read,x.write]) fun _=>
 (dB.one x.order y.order).fz (B':=[y.read,y.write]) (A':=[x.read,x.write]) fun _=>
 (dB.one x.read y.read).fz (B':=[y.write]) (A':=[x.write]) fun _=>
 (dB.one x.write y.write).fz (A':=[]) (B':=[]) fun _=>dB.nil
theorem JQ (x y:bS):dB x.ints y.ints (pR x y):=
 (dB.one x.bH y.bH).fz (B':=[y.index]) (A':=[x.index]) fun _=>(dB.one x.index y.index).fz (A':=[]) (B':=[]) fun _=>dB.nil
theorem ku {a b:List α} (h:jd a b=0):a.length=b.length:=iJ_ (wL h)
def eY (r:List bS):List Int:=.ofNat r.length::r.flatMap bS.ints
theorem yC (x y:List bS):dB (eY x) (eY y) (jc x y):=by
 have h:=(dB.one (.ofNat x.length) (.ofNat y.length)).fz (A':=x.flatMap bS.ints++[]) (B':=y.flatMap bS.ints++[]) (l:=[eD pR x y]) fun h=>
  (dB.rows (enc:=bS.ints) (c:=pR) (ku h) fun _ x y _ _=>JQ x y).fz (A':=[]) (B':=[]) (l:=[]) fun _=>dB.nil
 rw[zk_,zk_] at h;exact h
def nk (g:XG):List Int:=
 [.ofNat g.threads.length]++(g.threads.map (fun r=>Int.ofNat r.length)++(g.threads.flatMap (fun r=>r.flatMap cm.ints)++([.ofNat g.from_.length]++(g.from_.flatMap eY++([.ofNat g.order.length]++(g.order.flatMap eY++([.ofNat g.init.length]++(g.init++[]))))))))
theorem DW {α:Type} {f:α->Int}:∀{a b:List α},eD fu (a.map f) (b.map f)=eD (fun x y=>fu (f x) (f y)) a b
 | [],[]=>rfl
 | [],_::_=>rfl
 | _::_,[]=>rfl
 | x::a,y::b=>by
  show(bif F (fu (f x)<|f y) 0 then eD fu (a.map f) (b.map f) else fu (f x) (f y))=(bif F (fu (f x)<|f y) 0 then eD (fun x y=>fu (f x) (f y)) a b else fu (f x) (f y));rw[DW]
theorem Ar {α:Type} {c:α->α->Int}:∀{a b:List α},eD c a b=0->∀(i:Nat) (x y:α),a[i]? =some x->b[i]? =some y->c x y=0
 | [],_,_,i,x,y,h,_=>by simp at h
 | _::_,[],_,i,x,y,_,h=>by simp at h
 | p::a,q::b,h,i,x,y,h1,d=>by
  have h:(bif F (c p q) 0 then eD c a b else c p q)=0:=h;rw[zU] at h;split at h
  ·rename_i u;cases i with
   | zero=>
    have e1:p=x:=by simpa using h1
    have e2:q=y:=by simpa using d
    subst e1 e2;exact u
   | succ i=>exact Ar h i x y (by simpa using h1) (by simpa using d)
  contradiction
theorem Mn (a b:XG):dB (nk a) (nk b) (ik a b):=
 (dB.one _ _).fz fun h1=>
 dB.fz (c:=eD jd a.threads b.threads) (by
  have:=ql (a:=a.threads.map fun r=>Int.ofNat r.length) (b:=b.threads.map fun r=>Int.ofNat r.length) (by rw[lM_,lM_];exact ku h1);rw[DW] at this;exact this) fun d=>
 dB.fz (c:=eD (eD pB) a.threads b.threads) (dB.rows (ku h1) fun i x y hx hy=>dB.rows (ku<|Ar d i x y hx hy) fun _ e f _ _=>JP e f) fun _=>
 (dB.one _ _).fz fun u=>
 dB.fz (c:=eD jc a.from_ b.from_) (dB.rows (ku u) fun _ x y _ _=>yC x y) fun _=>
 (dB.one _ _).fz fun z=>
 dB.fz (c:=eD jc a.order b.order) (dB.rows (ku z) fun _ x y _ _=>yC x y) fun _=>
 (dB.one _ _).fz fun A=>
 dB.fz (c:=eD fu a.init b.init) (ql<|ku A) fun _=>dB.nil
theorem Cn (a b:XG):Cm (nk a) (nk b)=ik a b:=by
 have h:=Mn a b [] [];rw[zk_,zk_] at h;rw[h];show(bif F (ik a b) 0 then 0 else ik a b)=_;rw[zU];split<;>omega
variable {K:KP} {E:Nat}
theorem ints_at {xs:List Int} {i:Nat} {x:Int} (h:xs[i]? =some x):(ints xs)[i]? =some (.int .i64 x):=by
 unfold ints;simp_all
theorem iG {xs:List Int} {vb:Nat} (h:K vb (.row (ints xs) e false)) (hn:xs.length<=1000):bO K 1 ek xs (.slice vb 0 xs.length (.known xs.length)):=by
 refine .inr ⟨vb,0,_,_,e,false,Z,.inr ⟨_,Z,nR_ _⟩,h,?_,by omega,fun i x hx=>?_⟩
 ·unfold ints;simp_all
 rw[Nat.mul_one,nA_,cQ<|ints_at hx];rfl
theorem gg {α β:Type} {f:α->List β}:∀{l:List α} {i:Nat} {x:α},l[i]? =some x->(l.take (i+1)).flatMap f=(l.take i).flatMap f++f x
 | [],_,_,h=>by simp at h
 | y::l,0,x,h=>by
  have:y=x:=by simpa using h
  subst this;simp
 | y::l,i+1,x,h=>by
  have h':l[i]? =some x:=by simpa using h
  show(y::l.take (i+1)).flatMap f=(y::l.take i).flatMap f++f x;rw[List.flatMap_cons,List.flatMap_cons,gg h',lQ_]
theorem map_take {α β:Type} {f:α->β} {l:List α} {i:Nat} {x:α} (h:l[i]? =some x):(l.take (i+1)).map f=(l.take i).map f++[f x]:=by
 rw[zb_,h,List.map_append];rfl
theorem vh {xs:List Int} {b:Nat} (hn:xs.length<=1000):cy 1 E ek xs (.slice b 0 xs.length (.known xs.length)) [(b,.row (ints xs) e false)]:=by
 refine .inr ⟨b,_,_,e,Z,Z,?_,fun i x hx=>?_,.inl Z,by omega⟩
 ·unfold ints;simp_all
 rw[Nat.mul_one,cQ<|ints_at hx];rfl
structure Wu (g:XG):Prop where
 t:g.threads.length<=4
 r:∀l∈g.threads,l.length<=14
 f:g.from_.length<=4
 fr:∀l∈g.from_,l.length<=14
 o:g.order.length<=6
 Vp:∀l∈g.order,l.length<=56
 i:g.init.length<=6
variable {u:V} {R:α->List V->Prop}
section
variable {O:aB} {K:KP} {A M L:Own} {x:Nat×cN}
end
theorem sx.Q1 {m:Nat} {l:List α} {M:Own} (h:sx m E R l u M) {k:Nat} (hk:k<=l.length):
  ∃u',sx m E R (l.take k) u' M/\∀{P:Program} {ev:Operand->Option V} {t:TypeId} {x hi:Operand} {kk:IntKind},P.underlying t=some (.slice E)->(P.info? E).map (·.size)=some m->ev x=some u->ev hi=some (.int kk (.ofNat k))->jo P ev t x none (some hi) none=some u':=by
 rcases h with ⟨rfl,rfl,rfl⟩ | ⟨b,c,cells,e,rfl,rfl,B,h4,h5,h6⟩
 ·refine⟨.av,.inl ⟨List.take_nil,Z,Z⟩,fun {P ev t x hi kk} hu hj hx hh=>?_⟩;obtain⟨j,d,rfl⟩:=oM_.1 hj;obtain rfl:k=0:=by simpa using hk
  have:dX ev 0 0 none (some hi)=some (0,0):=FU hh (nR_ _);simp only[jo,hu,hx,d,this]
 have hl:(l.take k).length=k:=by simp_all
 have z:∀(i:Nat) (x:α),(l.take k)[i]? =some x->R x ((cells.drop (i*m)).take m):=fun i x hi=>by
  grind
 have hle:k*m<=cells.length:=Nat.le_trans (nM_ _ hk) B;rcases h5 with ⟨n,rfl,h7,C⟩ | ⟨rfl,rfl⟩
 ·refine⟨.slice b 0 k (.known n),.inr ⟨b,.known n,cells,e,by rw[hl],Z,by rw[hl];exact hle,z,.inl ⟨n,Z,by rw[hl];omega,C⟩,by rw[hl];omega⟩,fun {P ev t x hi kk} hu hj hx hh=>?_⟩;obtain⟨j,d,rfl⟩:=oM_.1 hj;have:dX ev l.length n none (some hi)=some (0,k):=FU hh oM;simp only[jo,hu,hx,cutAt,this,cut,d]
  simp_all
 refine⟨.slice b 0 k (.upto m),.inr ⟨b,.upto m,cells,e,by rw[hl],Z,by rw[hl];exact hle,z,.inr ⟨Z,Z⟩,by rw[hl];omega⟩,fun {P ev t x hi kk} hu hj hx hh=>?_⟩;obtain⟨j,d,rfl⟩:=oM_.1 hj;have:dX ev l.length l.length none (some hi)=some (0,k):=FU hh hk;simp only[jo,hu,hx,this,d,show Nat.beq j.size j.size=true from Nat.beq_refl _,cond_true,Nat.zero_mul,Nat.sub_zero,Nat.add_zero]
theorem xr (b o:Nat):dQ (.ptr b o) (.ptr b o)=true:=by
 unfold dQ;show(dQ.beqP b b && Nat.beq o o)=true
 grind [dQ.beqP,Nat.beq_refl]
def QE (k:Nat) (c:XC) (l:List cm):Prop:=LH k c=true/\QH (T0 k c<|Ni l) l=true
variable {L M:Own} {P:Program} {O:aB}
theorem H.bF (h:H O K (M++L)):∃d,KP.le K d/\(∀e∈M,d e.1 e.2)/\H O d L:=⟨K.iO M,KP.ey _ _,fun e he=>.inr he,h.keeps⟩
structure Xi (c:XC) (s:TS):Prop where
 at_:s.at_<c.ins.length
 gy:s.gy.length=c.gy.toNat
 events:s.events.length<=1000000
theorem results_none {fn:Func} {t:PT V} (d:fn.results.toList= []):e7 P fn t O=some (.tuple []):=by
 unfold e7;rw[d];rfl
theorem vO {fn:Func} {R:V->aB->Prop} {t:PT V} (d:fn.results.toList= []) (u:R (.tuple []) O):Ga P fn R .normal t O:=⟨.inl Z,_,results_none d,u⟩
variable {ts:Array TypeId} {cl:Call} {kk:IntKind} {cv vs:List V} {la:List α} {bv:Nat} {lo so xo:Operand} {N:V}
section
variable {P:Program} {G:Cx} {O:aB} {K:KP} {L:Own}
theorem Bx {m:Nat} {A:V} {t:TypeId} (B:H O K L) (hx:bO K m R [] A) (d:∀x vs,R x vs->cM vs=true)
  (C:ts[0]? =some t) (hu:P.underlying t=some (.slice e)) (u:rN P e m=true) (E:ei P ts[1]? =true):gd P O ts .av A= .val .av O:=by
 obtain⟨news,I,s2,M,s4⟩:=oB B hx d;unfold rN at u;split at u
 ·rename_i j hj;simp only[bA_] at u;obtain⟨N,S,T,W⟩:=u;have hm:j.size=m:=nB N;subst hm;have hz:((P.info? e).any fun j=>(j.zero.bind qq).any fun z=>(cG z).any fun cs=>Nat.beq (dU cs) j.size)=true:=by rw[hj];exact W
  unfold gd;rw[C];dsimp only;rw[hu];dsimp only;rw[hj] at hz⊢;dsimp only;rw[E,S,T];simp only[Bool.and_self,cond_true];rw[I];dsimp only;rw[M,show Nat.ble ([]:List α).length 1048576=true from Z,hz]
  simp_all
 cases u
theorem vg {m:Nat} {l l2:List α} {t:TypeId} (T:cy m e R l u M) (ar:H O K (M++L))
  (hx:bO K m R l2 N) (d:∀x vs,R x vs->cM vs=true) (hn:l.length+l2.length<=1048576)
  (z:ts[0]? =some t) (hu:P.underlying t=some (.slice e)) (A:rN P e m=true) (B:ei P ts[1]? =true):
  ∃O' u' M',gd P O ts u N= .val u' O'/\cy m e R (l++l2) u' M'/\H O' K (M'++L):=by
 rcases T with ⟨rfl,rfl,rfl⟩ | ⟨b,c,cells,e',rfl,rfl,S,W,h5,h6⟩
 ·cases l2 with
  | nil=>exact⟨O,_,[],Bx ar hx d z hu A B,.inl ⟨Z,Z,Z⟩,ar⟩
  | cons a l2=>
   obtain⟨news,C,E,I⟩:=By (P:=P) ar hx d (by simp at hn⊢;omega) (by simp) z hu A B;exact⟨_,_,[(O.next,.row news e false)],C,.inr ⟨_,_,news,e,Z,Z,E,I,.inr ⟨Z,Z⟩,by simp at hn⊢;omega⟩,ar.alloc (.row news e false)⟩
 obtain⟨O',b',c',news,e2,C,E,I,X,k5⟩:=FB (P:=P) ar hx d oM S oM h5 z hu A B;exact⟨O',_,[(b',.row (cells++news) e2 false)],C,MH S W I X Z k5 oM,E⟩
theorem AZ {m:Nat} {l l2:List α} {z:V} {ev:Nat} {t:TypeId} (A:cy m e R l u M) (ar:H O K ((bv,.row cv ev false)::(M++L)))
  (hx:bO (K.add bv (.row cv ev false)) m R l2 z) (d:∀x vs,R x vs->cM vs=true) (hn:l.length+l2.length<=1048576)
  (B:ts[0]? =some t) (hu:P.underlying t=some (.slice e)) (C:rN P e m=true) (E:ei P ts[1]? =true):
  ∃O' u' M',gd P O ts u z= .val u' O'/\cy m e R (l++l2) u' M'/\H O' K (M'++L):=by
 obtain⟨O',u',M',h1,I,N⟩:=vg A ar.uT hx d hn B hu C E;exact⟨O',u',M',h1,I,N.weaken<|KP.Mh _ _ _⟩
theorem wN {m b:Nat} {ro:Bool} {x:α} (hm:vs.length=m) (hR:R x vs) (hk:K b (.row vs e ro)):bO K m R [x] (.slice b 0 1 (.known 1)):=by
 refine .inr ⟨b,0,.known 1,vs,e,ro,Z,.inr ⟨1,Z,nR_ _⟩,hk,by simp[hm],by simp,fun i y hy=>?_⟩;cases i with
 | zero=>
  grind
 | succ i=>simp at hy
theorem dn {m b:Nat} {x:α} (hm:vs.length=m) (d:R x vs):bO (K.add b (.row vs e false)) m R [x] (.slice b 0 1 (.known 1)):=wN hm d (.inr ⟨Z,Z⟩)
theorem uj {m k:Nat} {v:V} {ty:TypeId} {ev:Operand->Option V} (h:bO K m R la v) (hk:k<=la.length) (hu:P.underlying ty=some (.slice e)) (hj:(P.info? e).map (·.size)=some m) (hx:ev xo=some v) (hh:ev lo=some (.int kk (.ofNat k))):
  ∃w,jo P ev ty xo (some lo) none none=some w/\bO K m R (la.drop k) w:=by
 cases hq:P.info? e with
 | none=>simp_all
 | some j=>
 rw[hq] at hj;have hj:j.size=m:=by simpa using hj
 subst hj;have hlen:(la.drop k).length=la.length-k:=lD_ ..
 have hb:∀y,k<=y->fG ev lo y=some k:=fun y hy=>by
  unfold fG;rw[hh]
  grind [nE_]
 rcases h with ⟨rfl,rfl⟩ | ⟨b,off,c,cells,e',ro,rfl,B,u,h4,h5,h6⟩
 ·obtain rfl:k=0:=by simpa using hk
  refine⟨.av,?_,.inl ⟨Z,Z⟩⟩;unfold jo;rw[hu,hx];dsimp only;unfold dX
  simp_all
 have hle:k*j.size<=la.length*j.size:=nM_ _ hk;have aa:(la.length-k)*j.size=la.length*j.size-k*j.size:=Nat.sub_mul ..
 have A:∀(i:Nat) (x:α),(la.drop k)[i]? =some x->R x ((cells.drop (off+k*j.size+i*j.size)).take j.size):=fun i x d=>by
  grind
 rcases B with rfl | ⟨cp,rfl,ab⟩
 ·refine⟨.slice b (off+k*j.size) (la.length-k) (.upto j.size),?_,.inr ⟨b,_,_,cells,e',ro,by rw[hlen],.inl Z,u,by rw[hlen];omega,by rw[hlen];omega,A⟩⟩
  grind [jo,dX,Nat.beq_refl]
 refine⟨.slice b (bif Nat.beq cp k then off else off+k*j.size) (la.length-k) (.known (cp-k)),?_,?_⟩
 ·unfold jo;rw[hu,hx];dsimp only;unfold cutAt dX
  grind [cut]
 cases z:Nat.beq cp k with
 | false=>exact .inr ⟨b,_,_,cells,e',ro,by rw[hlen];rfl,.inr ⟨cp-k,Z,by rw[hlen];omega⟩,u,by rw[hlen];omega,by rw[hlen];omega,A⟩
 | true=>
  have e1:=nB z;have hd:la.drop k= []:=List.drop_eq_nil_of_le oM;rw[hd];exact .inr ⟨b,off,_,cells,e',ro,by grind,.inr ⟨cp-k,Z,by simp⟩,u,by simp;omega,by simp,fun i x d=>by simp at d⟩
end
section
variable {P:Program} {G:Cx} {n:Nat} {t:PT V} {O:aB} {K:KP} {L:Own} {Q:Ex->PT V->aB->Prop} {ops:Array Oper} {o:Oper} {l:List Oper} {lp:List (Nat×List Nat)} {ix:Nat} {rc:List Nat}
theorem qo {m k:Nat} {v:V} {ty:TypeId} {t':V->PT V} (h:bO K m R la v) (hk:k<=la.length) (hw:bR ops t o=some true) (d:o.op= .slice ty xo (some lo) none none)
  (hu:P.underlying ty=some (.slice e)) (hj:(P.info? e).map (·.size)=some m) (hx:bI G t xo=some v) (hh:bI G t lo=some (.int kk (.ofNat k))) (hp:∀v,dE t n o.dst v=some (t' v))
  (u:∀w,bO K m R (la.drop k) w->bZ P G ops n l (t' w) O Q):bZ P G ops n (o::l) t O Q:=by
 obtain⟨w,h1,z⟩:=uj (P:=P) h hk hu hj hx hh;refine J hw ?_ (hp w)<|u w z;rw[d];exact bU Z h1
theorem wc {m k:Nat} {v:V} {ty:TypeId} {t':V->PT V} (h:bO K m R la v) (hk:k<=la.length) (d:ops[ix]? =some o) (hw:bR ops t o=some true) (u:o.op= .slice ty xo (some lo) none none)
  (hu:P.underlying ty=some (.slice e)) (hj:(P.info? e).map (·.size)=some m) (hx:bI G t xo=some v) (hh:bI G t lo=some (.int kk (.ofNat k))) (hp:∀v,dE t n o.dst v=some (t' v))
  (z:∀w,bO K m R (la.drop k) w->cR P G ops n lp (t' w) O Q):cR P G ops n ((ix,[])::lp) t O Q:=by
 obtain⟨w,h1,A⟩:=uj (P:=P) h hk hu hj hx hh;refine ah d hw ?_ (hp w)<|z w A;rw[u];exact bU Z h1
theorem JY {m k:Nat} {v:V} {ty:TypeId} {hi:Operand} {t':V->PT V} (h:bO K m R la v) (hk:k<=la.length) (d:ops[ix]? =some o) (hw:bR ops t o=some true) (u:o.op= .slice ty xo none (some hi) none)
  (hu:P.underlying ty=some (.slice e)) (hj:(P.info? e).map (·.size)=some m) (hx:bI G t xo=some v) (hh:bI G t hi=some (.int kk (.ofNat k))) (hp:∀v,dE t n o.dst v=some (t' v))
  (z:∀w,bO K m R (la.take k) w->cR P G ops n lp (t' w) O Q):cR P G ops n ((ix,[])::lp) t O Q:=by
 obtain⟨w,h1,A⟩:=Hc (P:=P) h hk hu hj hx hh;refine ah d hw ?_ (hp w)<|z w A;rw[u];exact bU Z h1
theorem yN {m:Nat} {l2:List α} {E:V} {ty:TypeId} {t':V->PT V} (N:cy m e R la u M) (S:H O K (M++L)) (hx:bO K m R l2 E) (d:∀x vs,R x vs->cM vs=true) (hn:la.length+l2.length<=1048576)
  (hw:bR ops t o=some true) (T:o.op= .call cl) (A:cl.callee= .builtin .append) (z:cl.args.toList= [so,xo]) (W:cl.argTypes[0]? =some ty) (B:bI G t so=some u) (C:bI G t xo=some E) (hp:∀v,dE t n o.dst v=some (t' v))
  (h:∀(O':aB) (u':V) (M':Own),cy m e R (la++l2) u' M'->H O' K (M'++L)->bZ P G ops n l (t' u') O' Q) (hu:P.underlying ty=some (.slice e):=by kernel_rfl) (X:rN P e m=true:=by kernel_rfl) (I:ei P cl.argTypes[1]? =true:=by kernel_rfl):bZ P G ops n (o::l) t O Q:=by
 obtain⟨O',u',M',k1,k2,k3⟩:=vg (P:=P) N S hx d hn W hu X I;refine J hw ?_ (hp _)<|h O' u' M' k2 k3;rw[T];exact kI A z B C I k1
theorem fw {m:Nat} {l2:List α} {E:V} {ev:Nat} {ty:TypeId} {t':V->PT V} (N:cy m e R la u M) (S:H O K ((bv,.row cv ev false)::(M++L))) (hx:bO (K.add bv (.row cv ev false)) m R l2 E) (d:∀x vs,R x vs->cM vs=true) (hn:la.length+l2.length<=1048576)
  (hw:bR ops t o=some true) (T:o.op= .call cl) (A:cl.callee= .builtin .append) (z:cl.args.toList= [so,xo]) (W:cl.argTypes[0]? =some ty) (B:bI G t so=some u) (C:bI G t xo=some E) (hp:∀v,dE t n o.dst v=some (t' v))
  (h:∀(O':aB) (u':V) (M':Own),cy m e R (la++l2) u' M'->H O' K (M'++L)->bZ P G ops n l (t' u') O' Q) (hu:P.underlying ty=some (.slice e):=by kernel_rfl) (X:rN P e m=true:=by kernel_rfl) (I:ei P cl.argTypes[1]? =true:=by kernel_rfl):bZ P G ops n (o::l) t O Q:=by
 obtain⟨O',u',M',k1,k2,k3⟩:=AZ (P:=P) N S hx d hn W hu X I;refine J hw ?_ (hp _)<|h O' u' M' k2 k3;rw[T];exact kI A z B C I k1
theorem qx {m:Nat} {l2:List α} {I:V} {ty:TypeId} {t':V->PT V} (S:cy m e R la u M) (T:H O K (M++L)) (hx:bO K m R l2 I) (d:∀x vs,R x vs->cM vs=true) (hn:la.length+l2.length<=1048576)
  (A:ops[ix]? =some o) (hw:bR ops t o=some true) (W:o.op= .call cl) (B:cl.callee= .builtin .append) (z:cl.args.toList= [so,xo]) (X:cl.argTypes[0]? =some ty) (C:bI G t so=some u) (E:bI G t xo=some I) (hp:∀v,dE t n o.dst v=some (t' v))
  (h:∀(O':aB) (u':V) (M':Own),cy m e R (la++l2) u' M'->H O' K (M'++L)->dy P G ops (t' u') O' rc=true/\cR P G ops n lp (t' u') O' Q) (hu:P.underlying ty=some (.slice e):=by kernel_rfl) (ha:rN P e m=true:=by kernel_rfl) (N:ei P cl.argTypes[1]? =true:=by kernel_rfl):cR P G ops n ((ix,rc)::lp) t O Q:=by
 obtain⟨O',u',M',k1,k2,k3⟩:=vg (P:=P) S T hx d hn X hu ha N;refine pZ A hw ?_ (hp _)<|h O' u' M' k2 k3;rw[W];exact kI B z C E N k1
theorem gP {m:Nat} {l2:List α} {I:V} {ev:Nat} {ty:TypeId} {t':V->PT V} (S:cy m e R la u M) (T:H O K ((bv,.row cv ev false)::(M++L))) (hx:bO (K.add bv (.row cv ev false)) m R l2 I) (d:∀x vs,R x vs->cM vs=true) (hn:la.length+l2.length<=1048576)
  (A:ops[ix]? =some o) (hw:bR ops t o=some true) (W:o.op= .call cl) (B:cl.callee= .builtin .append) (z:cl.args.toList= [so,xo]) (X:cl.argTypes[0]? =some ty) (C:bI G t so=some u) (E:bI G t xo=some I) (hp:∀v,dE t n o.dst v=some (t' v))
  (h:∀(O':aB) (u':V) (M':Own),cy m e R (la++l2) u' M'->H O' K (M'++L)->dy P G ops (t' u') O' rc=true/\cR P G ops n lp (t' u') O' Q) (hu:P.underlying ty=some (.slice e):=by kernel_rfl) (ha:rN P e m=true:=by kernel_rfl) (N:ei P cl.argTypes[1]? =true:=by kernel_rfl):cR P G ops n ((ix,rc)::lp) t O Q:=by
 obtain⟨O',u',M',k1,k2,k3⟩:=AZ (P:=P) S T hx d hn X hu ha N;refine pZ A hw ?_ (hp _)<|h O' u' M' k2 k3;rw[W];exact kI B z C E N k1
end
variable {G:Cx} {g:XG}
def fH (m:Int):Bool:=bif F m 1 then true else F m 2
theorem Oy (d:Plain G) (m:Int) (ar:H O K L):Ca G K L 12 [.int .i64 m] O <| .bool (fH m):=by
 refine V9 d Tryz.func12 Z<|Vw 9 Z<|ky Z (an Z) (fun h5=>?_) (fun h5=>?_)
 ·refine VA 7 Z ?_;exact aA Z Z ⟨cB (by unfold fH;simp only[h5,ct,cf]),ar⟩
 refine VA 7 Z ?_;exact aA Z Z ⟨cB (by unfold fH;simp only[h5,ct,cf]),ar⟩
theorem ma (u:Plain G) (e:cm) (ar:H O K L):Ca G K L 30 [.agg [.int .i64 e.kind,.int .i64 e.loc,.int .i64 e.order,.int .i64 e.read,.int .i64 e.write]] O <| .bool (bz e):=by
 refine V9 u Tryz.func30 Z<|Vw 2 Z<|kb ar (cH Z Z) (fun O b1 ar=>?_);refine UQ ar 8 [0,0] Z Z<|ky Z (an Z) (fun d=>?_) (fun d=>?_)
 ·refine VA 8 Z ?_;exact aA Z Z ⟨cB (by unfold bz;simp only[d,ct,cf]),ar.pop⟩
 refine VG ar 8 [0,0] Z Z ?_;exact aA Z Z ⟨cB (by unfold bz;simp only[d,ct,cf]),ar.pop⟩
theorem wI (u:Plain G) (e:cm) (ar:H O K L):Ca G K L 34 [.agg [.int .i64 e.kind,.int .i64 e.loc,.int .i64 e.order,.int .i64 e.read,.int .i64 e.write]] O <| .bool (cz e):=by
 refine V9 u Tryz.func34 Z<|Vw 2 Z<|kb ar (cH Z Z) (fun O b1 ar=>?_);refine UQ ar 8 [0,0] Z Z<|ky Z (an Z) (fun d=>?_) (fun d=>?_)
 ·refine VA 8 Z ?_;exact aA Z Z ⟨cB (by unfold cz;simp only[d,ct,cf]),ar.pop⟩
 refine VG ar 8 [0,0] Z Z ?_;exact aA Z Z ⟨cB (by unfold cz;simp only[d,ct,cf]),ar.pop⟩
theorem cU (b:Bool):cL b= !b:=by cases b<;>rfl
theorem dG (e:cm) (n:Int):bY e n=decide (1<=e.kind/\e.kind<=4/\1<=e.order/\e.order<=6/\(¬(e.kind=1∨e.kind=3)->e.read=0)/\(¬(e.kind=2∨e.kind=3)->e.write=0)/\(e.kind=4->e.loc=0)/\(e.kind≠4->0<=e.loc/\e.loc<n)):=by
 unfold bY cz bz;simp only[cK,dq,cU];rw[zd_,decide_eq_true_iff]
 by_cases h1:e.kind<1
 ·simp only[h1,decide_true,ct];constructor
  ·intro h;cases h
  intro h;omega
 by_cases d:4<e.kind
 ·simp only[h1,d,decide_true,decide_false,ct,cf];constructor
  ·intro h;cases h
  intro h;omega
 by_cases u:e.order<1
 ·simp only[h1,d,u,decide_true,decide_false,ct,cf];constructor
  ·intro h;cases h
  intro h;omega
 by_cases z:6<e.order
 ·simp only[h1,d,u,z,decide_true,decide_false,ct,cf];constructor
  ·intro h;cases h
  intro h;omega
 have hk:e.kind=1∨e.kind=2∨e.kind=3∨e.kind=4:=by omega
 simp only[h1,d,u,z,decide_false,cf];rcases hk with hk | hk | hk | hk<;>simp[hk]<;>(try (by_cases h5:e.read=0<;>simp[h5]))<;>(try (by_cases A:e.write=0<;>simp[A]))<;>(try omega)
theorem Ox (R:Plain G) (e:cm) (n:Int) (ar:H O K L):Ca G K L 33 [.agg [.int .i64 e.kind,.int .i64 e.loc,.int .i64 e.order,.int .i64 e.read,.int .i64 e.write],.int .i64 n] O <| .bool (bY e n):=by
 refine V9 R Tryz.func33 Z<|Vw 2 Z<|kb ar (cH Z Z) (fun O b1 ar=>?_);refine TF ar 9 [2,0] Z Z<|ky Z (an Z) (fun E=>?_) (fun E=>?_)
 ·refine UM 14 Z ?_;exact aA Z Z ⟨cB (by rw[dG,zd_,decide_eq_true_iff];revert E;simp[cz,bz,cK,dq,cU]<;>(intros;omega)),ar.pop⟩
 refine VF ar 6 [2,0] Z Z<|aG Z (fun d=>?_) (fun d=>?_)
 ·refine Vx 7 Z ?_;exact aA Z Z ⟨cB (by rw[dG,zd_,decide_eq_true_iff];revert E d;simp[cz,bz,cK,dq,cU]<;>(intros;omega)),ar.pop⟩
 refine UF 3 Z<|VE ar 4 [0,0] Z Z<|UI 3 Z<|Vv 7 Z<|aG Z (fun u=>?_) (fun u=>?_)
 ·refine aI<|ad<|aG Z (fun h15x=>?_) (fun h15x=>?_)
  ·refine VE ar 5 [1,0] Z Z<|ky Z (an Z) (fun z=>?_) (fun z=>?_)
   ·refine Wk ar 5 [1,0] Z Z<|ky Z (an Z) (fun A=>?_) (fun A=>?_)
    ·refine J Z (Xe Z ar.g0 Z) Z<|kx (W2 Z Z Z) (wI R e ar) (fun O ar=>?_);refine ky Z (an Z) (fun C=>?_) (fun C=>?_)
     ·refine Wh 6 Z<|J Z (Xe Z ar.g0 Z) Z<|kx (W2 Z Z Z) (ma R e ar) (fun O ar=>?_);refine ky Z (an Z) (fun B=>?_) (fun B=>?_)
      ·refine VA 9 Z<|aP<|aH (?_);exact aA Z Z ⟨cB (by rw[dG,zd_,decide_eq_true_iff];revert E d u h15x z A C B;simp[cz,bz,cK,dq,cU]<;>(intros;omega)),ar.pop⟩
      refine VG ar 9 [4,0] Z Z<|aP<|aH (?_);exact aA Z Z ⟨cB (by rw[dG,zd_,decide_eq_true_iff];revert E d u h15x z A C B;simp[cz,bz,cK,dq,cU]<;>(intros;omega)),ar.pop⟩
     refine Wk ar 5 [3,0] Z Z<|ky Z (an Z) (fun M=>?_) (fun M=>?_)
     ·refine J Z (Xe Z ar.g0 Z) Z<|kx (W2 Z Z Z) (ma R e ar) (fun O ar=>?_);refine ky Z (an Z) (fun B=>?_) (fun B=>?_)
      ·refine VA 9 Z<|aP<|aH (?_);exact aA Z Z ⟨cB (by rw[dG,zd_,decide_eq_true_iff];revert E d u h15x z A C M B;simp[cz,bz,cK,dq,cU]<;>(intros;omega)),ar.pop⟩
      refine VG ar 9 [4,0] Z Z<|aP<|aH (?_);exact aA Z Z ⟨cB (by rw[dG,zd_,decide_eq_true_iff];revert E d u h15x z A C M B;simp[cz,bz,cK,dq,cU]<;>(intros;omega)),ar.pop⟩
     refine VA 12 Z<|aP<|aH (?_);exact aA Z Z ⟨cB (by rw[dG,zd_,decide_eq_true_iff];revert E d u h15x z A C M;simp[cz,bz,cK,dq,cU]<;>(intros;omega)),ar.pop⟩
    refine VA 21 Z<|aP<|aH (?_);exact aA Z Z ⟨cB (by rw[dG,zd_,decide_eq_true_iff];revert E d u h15x z A;simp[cz,bz,cK,dq,cU]<;>(intros;omega)),ar.pop⟩
   refine VA 27 Z<|aP<|aH (?_);exact aA Z Z ⟨cB (by rw[dG,zd_,decide_eq_true_iff];revert E d u h15x z;simp[cz,bz,cK,dq,cU]<;>(intros;omega)),ar.pop⟩
  refine Wc 6 Z<|aG Z (fun I=>?_) (fun I=>?_)
  ·refine VE ar 5 [1,0] Z Z<|ky Z (an Z) (fun N=>?_) (fun N=>?_)
   ·refine Wk ar 4 [3,0] Z Z<|ky Z (an Z) (fun Q=>?_) (fun Q=>?_)
    ·refine VG ar 8 [4,0] Z Z<|aP<|aH (?_);exact aA Z Z ⟨cB (by rw[dG,zd_,decide_eq_true_iff];revert E d u h15x I N Q;simp[cz,bz,cK,dq,cU]<;>(intros;omega)),ar.pop⟩
    refine VA 8 Z<|aP<|aH (?_);exact aA Z Z ⟨cB (by rw[dG,zd_,decide_eq_true_iff];revert E d u h15x I N Q;simp[cz,bz,cK,dq,cU]<;>(intros;omega)),ar.pop⟩
   refine VA 13 Z<|aP<|aH (?_);exact aA Z Z ⟨cB (by rw[dG,zd_,decide_eq_true_iff];revert E d u h15x I N;simp[cz,bz,cK,dq,cU]<;>(intros;omega)),ar.pop⟩
  refine aI<|az<|Wf 6 Z ?_;exact aA Z Z ⟨cB (by rw[dG,zd_,decide_eq_true_iff];revert E d u h15x I;simp[cz,bz,cK,dq,cU]<;>(intros;omega)),ar.pop⟩
 refine Wc 6 Z<|aG Z (fun h15x=>?_) (fun h15x=>?_)
 ·refine aI<|ad<|aG Z (fun h15xx=>?_) (fun h15xx=>?_)
  ·refine VE ar 5 [1,0] Z Z<|ky Z (an Z) (fun z=>?_) (fun z=>?_)
   ·refine Wk ar 5 [1,0] Z Z<|ky Z (an Z) (fun A=>?_) (fun A=>?_)
    ·refine J Z (Xe Z ar.g0 Z) Z<|kx (W2 Z Z Z) (wI R e ar) (fun O ar=>?_);refine ky Z (an Z) (fun C=>?_) (fun C=>?_)
     ·refine Wh 6 Z<|J Z (Xe Z ar.g0 Z) Z<|kx (W2 Z Z Z) (ma R e ar) (fun O ar=>?_);refine ky Z (an Z) (fun B=>?_) (fun B=>?_)
      ·refine VA 9 Z<|aP<|aH (?_);exact aA Z Z ⟨cB (by rw[dG,zd_,decide_eq_true_iff];revert E d u h15x h15xx z A C B;simp[cz,bz,cK,dq,cU]<;>(intros;omega)),ar.pop⟩
      refine VG ar 9 [4,0] Z Z<|aP<|aH (?_);exact aA Z Z ⟨cB (by rw[dG,zd_,decide_eq_true_iff];revert E d u h15x h15xx z A C B;simp[cz,bz,cK,dq,cU]<;>(intros;omega)),ar.pop⟩
     refine Wk ar 5 [3,0] Z Z<|ky Z (an Z) (fun M=>?_) (fun M=>?_)
     ·refine J Z (Xe Z ar.g0 Z) Z<|kx (W2 Z Z Z) (ma R e ar) (fun O ar=>?_);refine ky Z (an Z) (fun B=>?_) (fun B=>?_)
      ·refine VA 9 Z<|aP<|aH (?_);exact aA Z Z ⟨cB (by rw[dG,zd_,decide_eq_true_iff];revert E d u h15x h15xx z A C M B;simp[cz,bz,cK,dq,cU]<;>(intros;omega)),ar.pop⟩
      refine VG ar 9 [4,0] Z Z<|aP<|aH (?_);exact aA Z Z ⟨cB (by rw[dG,zd_,decide_eq_true_iff];revert E d u h15x h15xx z A C M B;simp[cz,bz,cK,dq,cU]<;>(intros;omega)),ar.pop⟩
     refine VA 12 Z<|aP<|aH (?_);exact aA Z Z ⟨cB (by rw[dG,zd_,decide_eq_true_iff];revert E d u h15x h15xx z A C M;simp[cz,bz,cK,dq,cU]<;>(intros;omega)),ar.pop⟩
    refine VA 21 Z<|aP<|aH (?_);exact aA Z Z ⟨cB (by rw[dG,zd_,decide_eq_true_iff];revert E d u h15x h15xx z A;simp[cz,bz,cK,dq,cU]<;>(intros;omega)),ar.pop⟩
   refine VA 27 Z<|aP<|aH (?_);exact aA Z Z ⟨cB (by rw[dG,zd_,decide_eq_true_iff];revert E d u h15x h15xx z;simp[cz,bz,cK,dq,cU]<;>(intros;omega)),ar.pop⟩
  refine Wc 6 Z<|aG Z (fun I=>?_) (fun I=>?_)
  ·refine VE ar 5 [1,0] Z Z<|ky Z (an Z) (fun N=>?_) (fun N=>?_)
   ·refine Wk ar 4 [3,0] Z Z<|ky Z (an Z) (fun Q=>?_) (fun Q=>?_)
    ·refine VG ar 8 [4,0] Z Z<|aP<|aH (?_);exact aA Z Z ⟨cB (by rw[dG,zd_,decide_eq_true_iff];revert E d u h15x h15xx I N Q;simp[cz,bz,cK,dq,cU]<;>(intros;omega)),ar.pop⟩
    refine VA 8 Z<|aP<|aH (?_);exact aA Z Z ⟨cB (by rw[dG,zd_,decide_eq_true_iff];revert E d u h15x h15xx I N Q;simp[cz,bz,cK,dq,cU]<;>(intros;omega)),ar.pop⟩
   refine VA 13 Z<|aP<|aH (?_);exact aA Z Z ⟨cB (by rw[dG,zd_,decide_eq_true_iff];revert E d u h15x h15xx I N;simp[cz,bz,cK,dq,cU]<;>(intros;omega)),ar.pop⟩
  refine aI<|az<|Wf 6 Z ?_;exact aA Z Z ⟨cB (by rw[dG,zd_,decide_eq_true_iff];revert E d u h15x h15xx I;simp[cz,bz,cK,dq,cU]<;>(intros;omega)),ar.pop⟩
 refine Wd 4 Z<|ad<|aG Z (fun h15xx=>?_) (fun h15xx=>?_)
 ·refine VE ar 5 [1,0] Z Z<|ky Z (an Z) (fun z=>?_) (fun z=>?_)
  ·refine Wk ar 5 [1,0] Z Z<|ky Z (an Z) (fun A=>?_) (fun A=>?_)
   ·refine J Z (Xe Z ar.g0 Z) Z<|kx (W2 Z Z Z) (wI R e ar) (fun O ar=>?_);refine ky Z (an Z) (fun C=>?_) (fun C=>?_)
    ·refine Wh 6 Z<|J Z (Xe Z ar.g0 Z) Z<|kx (W2 Z Z Z) (ma R e ar) (fun O ar=>?_);refine ky Z (an Z) (fun B=>?_) (fun B=>?_)
     ·refine VA 9 Z<|aP<|aH (?_);exact aA Z Z ⟨cB (by rw[dG,zd_,decide_eq_true_iff];revert E d u h15x h15xx z A C B;simp[cz,bz,cK,dq,cU]<;>(intros;omega)),ar.pop⟩
     refine VG ar 9 [4,0] Z Z<|aP<|aH (?_);exact aA Z Z ⟨cB (by rw[dG,zd_,decide_eq_true_iff];revert E d u h15x h15xx z A C B;simp[cz,bz,cK,dq,cU]<;>(intros;omega)),ar.pop⟩
    refine Wk ar 5 [3,0] Z Z<|ky Z (an Z) (fun M=>?_) (fun M=>?_)
    ·refine J Z (Xe Z ar.g0 Z) Z<|kx (W2 Z Z Z) (ma R e ar) (fun O ar=>?_);refine ky Z (an Z) (fun B=>?_) (fun B=>?_)
     ·refine VA 9 Z<|aP<|aH (?_);exact aA Z Z ⟨cB (by rw[dG,zd_,decide_eq_true_iff];revert E d u h15x h15xx z A C M B;simp[cz,bz,cK,dq,cU]<;>(intros;omega)),ar.pop⟩
     refine VG ar 9 [4,0] Z Z<|aP<|aH (?_);exact aA Z Z ⟨cB (by rw[dG,zd_,decide_eq_true_iff];revert E d u h15x h15xx z A C M B;simp[cz,bz,cK,dq,cU]<;>(intros;omega)),ar.pop⟩
    refine VA 12 Z<|aP<|aH (?_);exact aA Z Z ⟨cB (by rw[dG,zd_,decide_eq_true_iff];revert E d u h15x h15xx z A C M;simp[cz,bz,cK,dq,cU]<;>(intros;omega)),ar.pop⟩
   refine VA 21 Z<|aP<|aH (?_);exact aA Z Z ⟨cB (by rw[dG,zd_,decide_eq_true_iff];revert E d u h15x h15xx z A;simp[cz,bz,cK,dq,cU]<;>(intros;omega)),ar.pop⟩
  refine VA 27 Z<|aP<|aH (?_);exact aA Z Z ⟨cB (by rw[dG,zd_,decide_eq_true_iff];revert E d u h15x h15xx z;simp[cz,bz,cK,dq,cU]<;>(intros;omega)),ar.pop⟩
 refine Wc 6 Z<|aG Z (fun I=>?_) (fun I=>?_)
 ·refine VE ar 5 [1,0] Z Z<|ky Z (an Z) (fun N=>?_) (fun N=>?_)
  ·refine Wk ar 4 [3,0] Z Z<|ky Z (an Z) (fun Q=>?_) (fun Q=>?_)
   ·refine VG ar 8 [4,0] Z Z<|aP<|aH (?_);exact aA Z Z ⟨cB (by rw[dG,zd_,decide_eq_true_iff];revert E d u h15x h15xx I N Q;simp[cz,bz,cK,dq,cU]<;>(intros;omega)),ar.pop⟩
   refine VA 8 Z<|aP<|aH (?_);exact aA Z Z ⟨cB (by rw[dG,zd_,decide_eq_true_iff];revert E d u h15x h15xx I N Q;simp[cz,bz,cK,dq,cU]<;>(intros;omega)),ar.pop⟩
  refine VA 13 Z<|aP<|aH (?_);exact aA Z Z ⟨cB (by rw[dG,zd_,decide_eq_true_iff];revert E d u h15x h15xx I N;simp[cz,bz,cK,dq,cU]<;>(intros;omega)),ar.pop⟩
 refine aI<|az<|Wf 6 Z ?_;exact aA Z Z ⟨cB (by rw[dG,zd_,decide_eq_true_iff];revert E d u h15x h15xx I;simp[cz,bz,cK,dq,cU]<;>(intros;omega)),ar.pop⟩
theorem NZ {n:Nat} (h:n<=9223372036854775807):wr .i64 (Int.ofNat n)= .ofNat n:=by
 show(bif Nat.ble n 9223372036854775807 then _ else _)=_
 grind [nE_]
variable {srcs wrs:List (List bS)} {p1 p2 p3 p4:V}
theorem Dk {a b:Nat} (h:a*b<=9223372036854775807):wr .i64 (Int.mul (.ofNat a) (.ofNat b))= .ofNat (a*b):=NZ h
theorem Hz (d:Plain G) {a b:Nat} (u:a<=16385) (hb:b<=1000000) (ar:H O K L):Ca G K L 36 [nI a,nI b] O <| nI (min (a*b) 16385):=by
 have aa:a*b<=16385*1000000:=Nat.mul_le_mul u hb;refine V9 d Tryz.func36 Z (Vw 9 Z (J Z (ay (v:=nI (a*b)) Z Z<|cI<|Dk oM) Z<|J Z (IW Z Z Z Z) Z<|VA 4 Z ?_))
 exact aA Z Z ⟨cJ (by
   cases h:dH 16385 (.ofNat (a*b)) with
   | true=>
    have h:=aM (a:=16385) h;show(16385:Int)=_;rw[Nat.min_eq_right oM];rfl
   | false=>
    have h:=bK (a:=16385) h;show Int.ofNat (a*b)=_;rw[Nat.min_eq_left oM]),ar⟩
theorem rE {l:List Nat} {b n:Nat}:dI (l++[b]) n=min (dI l n*b) 16385:=by rw[mL];rfl
theorem oS (k:Nat):dP (k+1)=dP k++[k+1]:=by
 unfold dP;rw[List.range_succ,List.map_append];rfl
theorem tI {α β:Type} {f:α->List β} {l:List α} {i:Nat} {x:α} (h:l[i]? =some x):(l.take (i+1)).flatMap f=(l.take i).flatMap f++f x:=by
 rw[zb_,h,List.flatMap_append];simp
theorem Hy (hG:Plain G) {p0:V} (hs:bO K 1 (RL K 2 dK) srcs p3) (ho:bO K 1 (RL K 2 dK) wrs p4) (l0:eB p0=true) (l1:eB p1=true) (l2:eB p2=true) (bs:∀w∈srcs,w.length<=1000) (bo:∀w∈wrs,w.length<=1000) (ar:H O K L):
  Ca G K L 15 [.agg [p0,p1,p2,p3,p4]] O <| nI (lP srcs wrs):=by
 refine V9 hG Tryz.func15 Z<|Vw 2 Z<|kb ar (cH Z Z) (fun O b1 ar=>?_);refine TF ar 13 [3,0] Z Z<|J Z (W5 hs Z Z Z (e:=42) Z) Z<|UI 4 Z ?_;obtain⟨LL1,ar,hLL1⟩:=ar.named;refine bk ([3,5]++rg 12 9) (fun j t O=>∃(i:Nat),(j+i=srcs.length)/\t.get 3=some (nI<|dI ((srcs.take i).map List.length) 1)/\t.get 12=some (nI i)/\H O K LL1) (srcs.length) ⟨0,Z,Z,Z,ar⟩ ?_;clear ar;intro j3 t O ak N;obtain⟨i,ba,C,Q,ar⟩:=N;subst hLL1;obtain⟨oo,rfl⟩:=ak.q2 C Q Z;have am:(dI ((srcs.take i).map List.length) 1)<=16385:=gk (by decide);refine Vv 6 Z<|aG Z (fun A=>?_) (fun A=>?_)
 ·refine SF 6 Z ?_;obtain⟨ao,E,a0⟩:=di A;refine WV (e:=42) (m:=1) hs E Z Z Z Z (fun bb a1 R a2 S=>?_);have hr14':=S;obtain⟨bc,rfl,T⟩:=hr14';refine J Z (W7 ar R Z Z) Z (Vz 6 Z (J Z (W5 T Z Z Z (e:=87) Z) Z (kx (W2 Z Z Z) (Hz hG am (by have:=bs _ (gB_ E);omega) ar) (fun O ar=>?_))));refine Wg 2 Z<|az<|Wd 4 Z ?_;refine aD ⟨j3-1,(by have:=aM A;omega),oF,i+1,(by have:=aM A;omega),(congrArg (fun z=>some (V.int .i64 (.ofNat z))) (show min ((dI ((srcs.take i).map List.length) 1)*ao.length) 16385=dI ((srcs.take (i+1)).map List.length) 1 from by rw[zb_,E,List.map_append];exact rE.symm)),cI<|aX (by have:=aM A;have:=hs.cS;omega),ar⟩
 refine UH 3 Z<|aN<|UO ar 5 [4,0] Z Z<|J Z (W5 ho Z Z Z (e:=42) Z) Z<|UI 4 Z ?_;obtain⟨LL2,ar,hLL2⟩:=ar.named;refine bk ([3,7,8]++rg 24 15) (fun j t O=>∃(I:Nat),(j+I=wrs.length)/\t.get 3=some (nI<|dI ((wrs.take I).flatMap fun w=>dP w.length)<|dI (srcs.map List.length) 1)/\t.get 24=some (nI I)/\H O K LL2) (wrs.length) ⟨0,Z,(congrArg (fun z=>some (V.int .i64 (.ofNat z))) (show dI ((srcs.take i).map List.length) 1=dI ((wrs.take 0).flatMap fun w=>dP w.length) (dI (srcs.map List.length) 1) from by rw[tL_<|bK A];rfl)),Z,ar⟩ ?_;clear ar;intro j8 t O ak N;obtain⟨I,bd,C,W,ar⟩:=N;subst hLL2;obtain⟨oo,rfl⟩:=ak.q2 C W Z;refine Vv 6 Z<|aG Z (fun B=>?_) (fun B=>?_)
 ·refine SF 6 Z ?_;obtain⟨M,d,a3⟩:=di B;refine WV (e:=42) (m:=1) ho d Z Z Z Z (fun be a4 X a5 aa=>?_);have hr26':=aa;obtain⟨bf,rfl,ab⟩:=hr26';refine J Z (W7 ar X Z Z) Z<|UK 6 Z<|J Z (W5 ab Z Z Z (e:=87) Z) Z<|UI 4 Z ?_;obtain⟨LL3,ar,hLL3⟩:=ar.named;refine bk ([3,8]++rg 30 8) (fun j t O=>∃(q:Nat),(j+q=M.length)/\t.get 3=some (.int .i64 (.ofNat<|dI (dP q)<|dI ((wrs.take I).flatMap fun w=>dP w.length)<|dI (srcs.map List.length) 1))/\t.get 30=some (nI q)/\H O K LL3) (M.length) ⟨0,Z,Z,Z,ar⟩ ?_;clear ar;intro ap t O ak N;obtain⟨q,a9,C,ac,ar⟩:=N;subst hLL3;obtain⟨oo,rfl⟩:=ak.q2 C ac Z;have aE:(dI (dP q)<|dI ((wrs.take I).flatMap fun w=>dP w.length)<|dI (srcs.map List.length) 1)<=16385:=gk (gk<|gk (by decide));refine Vv 6 Z<|aG Z (fun u=>?_) (fun u=>?_)
  ·refine TC 10 Z (We 3 Z (J Z (ay (v:=nI (q+1)) Z Z (cI (aX (by have:=bo _ (gB_ d);have:=aM u;omega)))) Z (kx (W2 Z Z Z) (Hz hG aE (b:=q+1) (by have:=bo _ (gB_ d);have:=aM u;omega) ar) (fun O ar=>?_))));refine Wg 2 Z<|az<|Wd 4 Z ?_;refine aD ⟨ap-1,(by have:=aM u;omega),oF,q+1,(by have:=aM u;omega),(congrArg (fun z=>some (V.int .i64 (.ofNat z))) (show min ((dI (dP q)<|dI ((wrs.take I).flatMap fun w=>dP w.length)<|dI (srcs.map List.length) 1)*(q+1)) 16385=dI (dP (q+1)) (dI ((wrs.take I).flatMap fun w=>dP w.length)<|dI (srcs.map List.length) 1) from by rw[oS,rE])),cI (aX (by have:=aM u;have:=bo _ (gB_ d);omega)),ar⟩
  refine UH 3 Z<|aN<|az<|Wd 4 Z ?_;refine aD ⟨j8-1,(by have:=aM B;omega),oF,I+1,(by have:=aM B;omega),(congrArg (fun z=>some (V.int .i64 (.ofNat z))) (show(dI (dP q)<|dI ((wrs.take I).flatMap fun w=>dP w.length)<|dI (srcs.map List.length) 1)=dI ((wrs.take (I+1)).flatMap fun w=>dP w.length) (dI (srcs.map List.length) 1) from by rw[tI d,mL,show M.length=q by have:=bK u;omega])),cI<|aX (by have:=aM B;have:=ho.cS;omega),ar⟩
 refine UH 3 Z<|aN<|Wf 7 Z ?_;exact aA Z Z ⟨by rw[tL_<|bK B];rfl,ar.pop⟩
variable {vi vt:V}
def fX (init:List Int) (threads:List (List cm)):Int:=
 bif (bif dH 6 (.ofNat init.length) then true else dH 4 (.ofNat threads.length)) then 3 else bif threads.any (fun r=>dH 14 (.ofNat r.length)) then 3 else bif threads.any (fun r=>r.any fun e=>cL (bY e (.ofNat init.length))) then 2 else 0
theorem lB {p:α->Bool} {l:List α} {i:Nat} {x:α} (h:l[i]? =some x) (hp:p x=true):l.any p=true:=List.any_eq_true.2 ⟨x,gB_ h,hp⟩
theorem nQ {p:α->Bool} {l:List α} {i:Nat} {x:α} (h:l[i]? =some x) (h1:(l.take i).any p=false) (d:p x=false):(l.take (i+1)).any p=false:=by
 rw[zb_,h,List.any_append,h1,Bool.false_or];show(p x || false)=false;rw[d];rfl
theorem OA (hG:Plain G) {init:List Int} {threads:List (List cm)} (hi:bO K 1 ek init vi) (R:bO K 1 (RL K 5 gG) threads vt) (ar:H O K L):
  Ca G K L 13 [vi,vt] O <| .int .i64 (fX init threads):=by
 refine V9 hG Tryz.func13 Z<|UE 9 Z<|J Z (W5 hi Z Z Z (e:=2) Z) Z<|vQ 1 Z<|ky Z (an Z) (fun d=>?_) (fun d=>?_)
 ·refine UM 14 Z ?_;exact aA Z Z ⟨cJ (by unfold fX;rw[d];rfl),ar⟩
 refine vQ 1 Z<|J Z (W5 R Z Z Z (e:=25) Z) Z<|Vy 4 Z<|aG Z (fun B=>?_) (fun B=>?_)
 ·refine Vx 7 Z ?_;exact aA Z Z ⟨cJ (by unfold fX;rw[d,B];rfl),ar⟩
 refine UF 3 Z<|Vw 3 Z<|J Z (W5 R Z Z Z (e:=25) Z) Z<|UI 4 Z ?_;obtain⟨LL1,ar,hLL1⟩:=ar.named;refine bk ([4,6]++rg 21 8) (fun j t O=>∃(i:Nat),(j+i=threads.length/\(threads.take i).any (fun r:List cm=>dH 14 (.ofNat r.length))=false)/\t.get 21=some (nI i)/\H O K LL1) (threads.length) ⟨0,⟨Z,Z⟩,Z,ar⟩ ?_;clear ar;intro j4 t O ak X;obtain⟨i,⟨bq,aa⟩,ab,ar⟩:=X;subst hLL1;obtain⟨oo,rfl⟩:=ak.q1 ab Z;refine Vv 6 Z<|aG Z (fun u=>?_) (fun u=>?_)
 ·refine SF 6 Z ?_;obtain⟨bs,C,bb⟩:=di u;refine WV (e:=25) (m:=1) R C Z Z Z Z (fun bt bc ac bd am=>?_);have hr23':=am;obtain⟨bv,rfl,ao⟩:=hr23';refine J Z (W7 ar ac Z Z) Z<|UK 6 Z<|J Z (W5 ao Z Z Z (e:=38) Z) Z<|Vy 3 Z<|aG Z (fun S=>?_) (fun S=>?_)
  ·refine Wf 6 Z<|aP<|aH<|bX<|aP<|aH (?_);exact aA Z Z ⟨cJ (by unfold fX;rw[d,B,lB (p:=fun r:List cm=>dH 14 (.ofNat r.length)) C S];rfl),ar⟩
  refine aI (az (Wd 4 Z (aD ⟨j4-1,(by have:=aM u;omega),oF,i+1,⟨by have:=aM u;omega,nQ C aa S⟩,cI<|aX (by have:=aM u;have:=R.cS;omega),ar⟩)))
 refine UH 3 Z<|aN<|UE 3 Z ?_;have ap:threads.any (fun r:List cm=>dH 14 (.ofNat r.length))=false:=by rw[<-tL_ (bK u)];exact aa
 refine vQ 1 Z<|J Z (W5 R Z Z Z (e:=25) Z) Z<|UI 4 Z ?_;obtain⟨LL2,ar,hLL2⟩:=ar.named;refine bk ([4,8,10]++rg 31 17) (fun j t O=>∃(i2:Nat),(j+i2=threads.length/\(threads.take i2).any (fun r:List cm=>r.any fun e=>cL (bY e (.ofNat init.length)))=false)/\t.get 31=some (nI i2)/\H O K LL2) (threads.length) ⟨0,⟨Z,Z⟩,Z,ar⟩ ?_;clear ar;intro a5 t O ak X;obtain⟨i2,⟨be,N⟩,aE,ar⟩:=X;subst hLL2;obtain⟨oo,rfl⟩:=ak.q1 aE Z;refine Vv 6 Z<|aG Z (fun z=>?_) (fun z=>?_)
 ·refine SF 6 Z ?_;obtain⟨T,E,bf⟩:=di z;refine WV (e:=25) (m:=1) R E Z Z Z Z (fun bw bg a0 bi a1=>?_);have hr33':=a1;obtain⟨bD,rfl,I⟩:=hr33';refine J Z (W7 ar a0 Z Z) Z<|UK 6 Z<|J Z (W5 I Z Z Z (e:=38) Z) Z<|UI 4 Z ?_;obtain⟨LL3,ar,hLL3⟩:=ar.named;refine bk ([4,10]++rg 37 10) (fun j t O=>∃(q:Nat),(j+q=T.length/\(T.take q).any (fun e:cm=>cL (bY e (.ofNat init.length)))=false)/\t.get 37=some (nI q)/\H O K LL3) (T.length) ⟨0,⟨Z,Z⟩,Z,ar⟩ ?_;clear ar;intro a9 t O ak X;obtain⟨q,⟨bl,Q⟩,a2,ar⟩:=X;subst hLL3;obtain⟨oo,rfl⟩:=ak.q1 a2 Z;refine Vv 6 Z<|aG Z (fun A=>?_) (fun A=>?_)
  ·refine SF 6 Z ?_;obtain⟨ba,M,bm⟩:=di A;refine WV (e:=38) (m:=5) I M Z Z Z Z (fun bH bo a3 bp a4=>?_);obtain rfl:=a4;refine J Z (W8 ar a3 Z Z) Z<|kb ar (W6 (cs:=[D,D,D,D,D])) (fun O b1 ar=>?_);refine ks ar (Xb Z Z Z ar.g0 Z) (fun O ar=>?_);refine UK 4 Z<|J Z (Xe Z ar.g0 Z) Z<|vQ 1 Z<|J Z (W5 hi Z Z Z (e:=2) Z) Z<|kx (W2 Z Z Z) (Ox hG ba (.ofNat init.length) ar) (fun O ar=>?_);refine J Z (dW Z) Z<|Vy 2 Z<|aG Z (fun W=>?_) (fun W=>?_)
   ·refine Wf 6 Z<|aP<|aH<|bX<|aP<|aP<|aH<|bX<|aP<|aH (?_);exact aA Z Z ⟨cJ (by unfold fX;rw[d,B,ap,lB (p:=fun r:List cm=>r.any fun e=>cL (bY e (.ofNat init.length))) E<|lB M W];rfl),ar.pop⟩
   refine aI<|az<|Wd 4 Z ?_;have ar:=ar.pop;refine aD ⟨a9-1,(by have:=aM A;omega),oF,q+1,⟨by have:=aM A;omega,nQ M Q W⟩,cI<|aX (by have:=aM A;have:=I.cS;omega),ar⟩
  refine UH 3 Z (aN (az (Wd 4 Z (aD ⟨a5-1,(by have:=aM z;omega),oF,i2+1,⟨by have:=aM z;omega,nQ E N (by rw[<-tL_ (bK A)];exact Q)⟩,cI<|aX (by have:=aM z;have:=R.cS;omega),ar⟩))))
 refine UH 3 Z<|aN<|Wf 6 Z ?_;exact aA Z Z ⟨cJ (by unfold fX;rw[d,B,ap,<-tL_ (bK z),N];rfl),ar⟩
variable {ln:Nat}
def Th (g:XG) (loc:Int):Int:=match(fq g loc).getLast? with | none=>0 | some id=>(nf<|dV g id).write
structure XM where
 mem:List Int
 g:XG
structure Ra where
 F7:cm
 fr:bS
 place:Int
 mem:List Int
def JT (n:Aa):Int:=bif cL (F n.ask.kind 0) then n.ask.loc else n.event.loc
def TB (n:Aa) (m:List Int) (g:XG):Ra:=
 bif F n.event.kind 4 then⟨n.event,⟨0,0⟩,0,m⟩ else
 let all:=fq g (JT n)
 let F7:=bif cL (F n.ask.kind 0) then Hx n.ask ((m[(JT n).toNat]?).getD 0) else n.event
 let fr:=bif cL (F n.ask.kind 0) then(all.getLast?).getD ⟨0,0⟩ else⟨0,0⟩
 bif cL (F F7.kind 1) then⟨F7,fr,.ofNat all.length,m.set (JT n).toNat F7.write⟩ else⟨F7,fr,0,m⟩
def Ri (n:Aa) (g:XG):Bool:=bif cL (F n.event.kind 4) then(bif dH (JT n) 0 then true else cL (dH (JT n) (.ofNat g.init.length))) else false
def Vd (k:Nat) (c:XC) (row:List cm) (g:XG):Int:=
 bif cL (F (yJ k c row).2 0) then(yJ k c row).2 else
 bif cL (F (yJ k c row).1.fin 0) then 10 else
 bif cL (dH (.ofNat row.length) 14) then 3 else
 bif Ri (yJ k c row).1 g then 2 else 0
structure UX (k:Nat) (l:List XC) (r:XM):Prop where
 U7:ec r.g=0
 len:r.g.threads.length=l.length
 mem:r.mem.length=r.g.init.length
 last:∀i:Nat,i<r.g.init.length->r.mem[i]? =some (Th r.g (.ofNat i))
 fits:∀(t:Nat) (c:XC) (row:List cm),l[t]? =some c->r.g.threads[t]? =some row->QE k c row
theorem GL {g:XG} (d:ec g=0) (h:ln<g.init.length):∃r,g.order[ln]? =some r:=dc (by rw[(fl.1 d).order];exact h)
structure U2 (k:Nat) (l:List XC) (r:XM) (t:Nat) (c:XC) (row:List cm) (p:Ra) (r':XM):Prop where
 code:l[t]? =some c
 rowAt:r.g.threads[t]? =some row
 err:Vd k c row r.g=0
 lj:p=TB (yJ k c row).1 r.mem r.g
 add:U4 r.g (.ofNat (t+1)) p.F7 p.fr p.place=(some r'.g,0)
 mem:r'.mem=p.mem
structure U0 (k:Nat) (c:XC) (row:List cm) (r:XM) (p:Ra):Prop where
 fits:QE k c (row++[p.F7])
 look:F (yJ k c row).1.event.kind 4=false->∃ln:Nat,ln<r.g.init.length/\JT (yJ k c row).1= .ofNat ln/\p.F7.loc= .ofNat ln/\p.F7.kind≠4
 cases:(p.F7.kind=4/\p.mem=r.mem/\p.place=0)∨∃ln:Nat,ln<r.g.init.length/\p.F7.loc= .ofNat ln/\p.F7.kind≠4/\((bz p.F7=false/\p.mem=r.mem/\p.place=0)∨(bz p.F7=true/\p.mem=r.mem.set ln p.F7.write/\p.place= .ofNat (fq r.g (.ofNat ln)).length))
structure Xh (c:XC) (out:List Nat) (s:TS):Prop where
 at_:s.at_∈out
 gy:s.gy.length=c.gy.toNat
end Go.Ev
namespace Go.Ev
variable [Env] {α:Type} {K:KP} {e:Nat} {R:α->List V->Prop}
theorem JE {m b n:Nat} (h:K b (.row (List.replicate n .av) e false)) (hn:n<=1000000):bO K 1 (RL K m R) (List.replicate n []) (.slice b 0 n (.known n)):=by
 refine .inr ⟨b,0,_,_,e,false,by rw[List.length_replicate],.inr ⟨_,Z,by simp_all⟩,h,by simp,by grind,fun i x hx=>?_⟩;have hi:i<n:=by grind
 have hx':=eR_ (gB_ hx);subst hx';refine⟨.av,?_,.inl ⟨Z,Z⟩⟩
 grind
end Go.Ev
namespace Go.Ev
variable [Env] {ops:Array Oper} {G:Cx} {cs:List V} {e:Nat} {lo:Operand} {P:Program} {O:aB}
theorem mV {ev:Operand->Option V} {t w n:Nat} {k k':IntKind} {z:List V} {co:Operand} (u:P.underlying t=some (.slice e)) (hw:(P.info? e).map (·.bytes)=some w) (hz:(fJ P e).bind cG=some z)
  (d:((P.info? e).any fun j=>Nat.beq (dU z) j.size && Nat.ble 1 j.size)=true) (hl:ev lo=some (.int k (.ofNat n))) (A:ev co=some (.int k' (.ofNat n))) (hn:w*n<=1048576) (aa:n<=1048576):
  fP P ev (.makeSlice t lo co)=some (.row (e9 z n) e false,.slice n n):=by
 obtain⟨j,hj,rfl⟩:=oM_.1 hw;rw[hj] at d;simp only[Option.any_some,bA_] at d;simp only[fP,u,hl,A,hj,hz];rw[d.1,d.2,show Nat.ble n n=true by simp_all,show Nat.ble (j.bytes*n) 1048576=true by simp_all,show Nat.ble n 1048576=true by simp_all];rfl
theorem oC {t:PT V} {o:Oper} {i k b n:Nat} (hi:ops[i]? =some o) (hw:bR ops t o=some true) (hd:o.dst=some k) (hg:t.get k=some (.slice b 0 n (.known n))) (hk:kindOf P o.op= .alloc) (ha:fP P (bI G t) o.op=some (.row cs e false,.slice n n)) (hm:O.m.get b=some (.row cs e false)) (hb:dQ.beqL cs cs=true):kF P G ops t O i=true:=by
 unfold kF
 simp_all
theorem xu (n:Nat):dQ.beqL (List.replicate n V.av) (List.replicate n V.av)=true:=by
 induction n with
 | zero=>rfl
 | succ n ih=>rw[List.replicate_succ];exact cP Z ih
end Go.Ev
namespace Go.Ev
variable [Env]
variable {α:Type} {parts:Array (Nat×Operand)} {K:KP} {cs:List V} {E e:Nat} {M:Own} {P:Program} {u:V} {R:α->List V->Prop}
theorem cy.uT {m:Nat} {l:List α} (h:cy m E R l u M):bO (K.iO M) m R l u:=h.fg fun _ he=>.inr he
theorem cy.fS {m:Nat} {R':α->List V->Prop} {l:List α} (h:cy m E R l u M) (d:∀x vs,R x vs->R' x vs):cy m E R' l u M:=by
 rcases h with h | ⟨b,c,cells,e,h1,z,A,B,h5⟩
 ·exact .inl h
 exact .inr ⟨b,c,cells,e,h1,z,A,fun i x hx=>d x _ (B i x hx),h5⟩
theorem cy.empty {m b:Nat}:cy m E R ([]:List α) (.slice b 0 0 (.known 0)) [(b,.row [] e false)]:=.inr ⟨b,.known 0,[],e,Z,Z,by simp,fun i x h=>by simp at h,.inl Z,by simp⟩
theorem cy.nil {m:Nat}:cy m E R ([]:List α) .av []:=.inl ⟨Z,Z,Z⟩
theorem tv {ev:Operand->Option V} {t e:TypeId} {len m:Nat} {z:List V} (u:P.underlying t=some (.slice e)) (hj:(P.info? e).map (·.size)=some m) (hz:(fJ P e).bind cG=some z)
  (hb:(Nat.beq (dU z) m && Nat.ble (len*m) 16777216 && Nat.ble 1 m)=true) (hf:jK (fun i=>some (i*m,m)) ev parts.toList (e9 z len)=some cs):fP P ev (.buildSlice t len parts)=some (.row cs e false,.slice len len):=by
 obtain⟨j,d,rfl⟩:=oM_.1 hj;simp only[fP,u,d,hz,hb,cond_true,hf]
variable {G:Cx} {O:aB} {L:Own} {g:XG} {wrs:List (List bS)} {ln:Nat} {p1 p2 p3 p4:V} {id:bS}
def Uv (threads:List (List cm)) (w:bS):cm:=((threads.getD (w.bH.toNat-1) []).getD w.index.toNat ⟨0,0,0,0,0⟩)
def SI (threads:List (List cm)) (os:List bS):Prop:=∀w∈os,∃(t i:Nat) (row:List cm) (ev:cm),w=⟨.ofNat (t+1),.ofNat i⟩/\threads[t]? =some row/\row[i]? =some ev
def vq (threads:List (List cm)) (id:bS) (r:Int) (w:bS):Bool:=bif cC w id then false else F (Uv threads w).write r
def AG (v0:Int) (threads:List (List cm)) (os:List bS) (id:bS) (e:cm):List bS:=(bif F v0 e.read then [⟨0,e.loc⟩] else [])++os.filter (vq threads id e.read)
theorem sP {p:α->Bool} {l:List α} {i:Nat} {x:α} (h:l[i]? =some x) (hp:p x=true):(l.take (i+1)).filter p=(l.take i).filter p++[x]:=by
 rw[zb_,h,List.filter_append];show _++[x].filter p=_;rw[List.filter_cons_of_pos hp];rfl
theorem lT {p:α->Bool} {l:List α} {i:Nat} {x:α} (h:l[i]? =some x) (hp:p x=false):(l.take (i+1)).filter p=(l.take i).filter p:=by
 rw[zb_,h,List.filter_append];show _++[x].filter p=_;rw[List.filter_cons_of_neg (by rw[hp];decide)];simp
theorem xQ {threads:List (List cm)} {t i:Nat} {row:List cm} {e:cm} (h1:threads[t]? =some row) (d:row[i]? =some e):Uv threads ⟨.ofNat (t+1),.ofNat i⟩=e:=by
 unfold Uv;show(threads.getD t []).getD i _=e;rw[List.getD_eq_getElem?_getD,List.getD_eq_getElem?_getD,h1];show(row[i]?).getD _=e;rw[d];rfl
theorem CT {threads:List (List cm)} {w:bS} {r:Int} {b:Bool} (h1:(bif cC w.ints id.ints then false else true)=true) (d:F (Uv threads w).write r=b):vq threads id r w=b:=by
 unfold vq;rw[bS.same] at h1;rw[cY h1];exact d
theorem ND {threads:List (List cm)} {w:bS} {r:Int} (h1:(bif cC w.ints id.ints then false else true)=false):vq threads id r w=false:=by
 unfold vq;rw[bS.same] at h1;cases h:cC w id with
 | true=>rfl
 | false=>rw[h] at h1;cases h1
theorem Rg (hG:Plain G) {init:List Int} {threads:List (List cm)} {p0:V} (hi:bO K 1 ek init p0) (ht:bO K 1 (RL K 5 gG) threads p1) (ho:bO K 1 (RL K 2 dK) wrs p4) (l2:eB p2=true/\cG p2=some [p2]) (l3:eB p3=true/\cG p3=some [p3])
  (id:bS) (e:cm) {v0:Int} {os:List bS} (a3:e.loc= .ofNat ln) (bp:init[ln]? =some v0) (a9:wrs[ln]? =some os) (hT:SI threads os) (hb:os.length<=1000) {O:aB} {L:Own} (ar:H O K L):
  EC G 35 [.agg [p0,p1,p2,p3,p4],.agg [.int .i64 id.bH,.int .i64 id.index],.agg [.int .i64 e.kind,.int .i64 e.loc,.int .i64 e.order,.int .i64 e.read,.int .i64 e.write]] O fun v O'=>∃M,cy 2 87 dK (AG v0 threads os id e) v M/\H O' K (M++L):=by
 refine V9 hG Tryz.func35 Z<|Vw 2 Z<|kb ar (cH Z Z) (fun O b1 ar=>?_);refine kb ar (cH Z Z) (fun O b2 ar=>?_);refine kb ar (cH Z Z) (fun O b3 ar=>?_);refine UK 5 Z ?_;obtain⟨K1,C,S,ar⟩:=ar.bF (M:=[_,_,_]);have hB3:K1 b3 (.row [.int .i64 e.kind,.int .i64 e.loc,.int .i64 e.order,.int .i64 e.read,.int .i64 e.write] 38 false):=S _ (.head _);have hB2:K1 b2 (.row [.int .i64 id.bH,.int .i64 id.index] 87 false):=S _ (.tail _ (.head _));have hB1:K1 b1 (.row [p0,p1,p2,p3,p4] 45 false):=S _ (.tail _ (.tail _ (.head _)));clear S;replace hi:=hi.mono C fun _ _ h=>h;replace ht:=ht.mono C fun _ _ h=>h.mono C;replace ho:=ho.mono C fun _ _ h=>h.mono C
 refine UJ 4 Z<|al<|aL (l:=zp [0,1,2,3,4,5,6,7,8]) U U<|ah Z Z (W3 0 Z) Z<|ah Z Z (W4 Z (ar.cg hB1) Z) Z<|ah Z Z (W3 1 Z) Z<|ah Z Z (W4 Z (ar.cg hB3) Z) Z<|WW (e:=2) (m:=1) hi bp Z Z Z Z (by rw[a3];rfl) (fun ck ch ba ci bb=>?_);obtain rfl:=bb;refine ah Z Z (W7 ar ba Z Z) Z<|ah Z Z (W3 3 Z) Z<|ah Z Z (W4 Z (ar.cg hB3) Z) Z<|VB 3 Z<|aG Z (fun a4=>?_) (fun a4=>?_)
 ·refine We 2 Z (J Z (W3 1 Z) Z (J Z (W4 Z (ar.cg hB3) Z) Z (J Z (W1 (places:=[(0,1),(1,1)]) (zero:=[D,D]) (cs:=[_,_]) Z) Z<|fh ar Z (bN (e:=87) (m:=2) (z:=[D,D]) (cs:=[_,_]) U U U U<|aZ Z Z Z Z bE) (fun _=>Z) (fun O b4 ar=>?_))));refine fw (R:=dK) (m:=2) (e:=87) cy.nil (show H _ _ (_::([]++_)) from ar) (dn (m:=2) Z (show dK ⟨0,e.loc⟩ _ from Z)) dK.leaf (by simp) Z Z Z Z Z Z Z (fun _=>Z) (fun O bq M0 hO24 ar=>?_);refine TE 6 Z ?_;obtain⟨hd,T,hO0⟩:∃hd:List bS,(bif F v0 e.read then [⟨0,e.loc⟩] else [])=hd/\cy 2 87 dK (hd++((os.take 0).filter<|vq threads id e.read)) bq M0:=⟨_,Z,by rw[a4];exact hO24⟩;have bs:hd.length<=1:=by rw[<-T];cases F v0 e.read<;>simp
  refine J Z (W3 4 Z) Z<|J Z (W4 Z (ar.cg hB1) Z) Z<|J Z (W3 1 Z) Z<|J Z (W4 Z (ar.cg hB3) Z) Z<|WV (e:=42) (m:=1) ho a9 Z Z Z (by rw[a3];rfl) (fun bt bc W bd aa=>?_);have hr29':=aa;obtain⟨bv,rfl,I⟩:=hr29';refine J Z (W7 ar W Z Z) Z<|J Z (W5 I Z Z Z (e:=87) Z) Z<|UI 4 Z<|bk ([7,9]++rg 32 29) (fun j t O=>∃(i:Nat) (u:V) (M:Own),j+i=os.length/\cy 2 87 dK (hd++((os.take i).filter<|vq threads id e.read)) u M/\t.get 7=some (u)/\t.get 32=some (nI i)/\H O K1 (M++L)) (os.length) ⟨0,_,_,Z,hO0,Z,Z,ar⟩ ?_;clear ar;intro j5 t O ak hI;obtain⟨i,u,M,bw,hO,a5,ab,ar⟩:=hI;obtain⟨oo,rfl⟩:=ak.q2 a5 ab Z;refine Vv 6 Z<|aG Z (fun d=>?_) (fun d=>?_)
  ·refine SF 6 Z ?_;obtain⟨bD,A,be⟩:=di d;refine WV (e:=87) (m:=2) I A Z Z Z Z (fun b0 bf ac bg am=>?_);obtain rfl:=am;refine J Z (W8 ar ac Z Z) Z<|kb ar (W6 (cs:=[D,D])) (fun O b5 ar=>?_);refine ks ar (W9 Z Z Z ar.g0 Z) (fun O ar=>?_);refine UJ 3 Z<|aL (l:=zp [0,1,2,3,4,5,6,7,8,9,10,11,12,13,14,15,16,17,18,19]) U U ?_;obtain⟨tt,ii,row,ev,rfl,B,N⟩:=hT _ (gB_ A);refine ah Z Z (Xc Z ar.g0 Z) Z<|ah Z Z (Xc Z (ar.cg hB2) Z) Z<|ah Z Z (zH (n:=2) (ca:=[_,_]) (cb:=[_,_]) U Z Z Z Z) Z<|e8 Z Z (an Z) (fun _=>Z) (fun E=>?_) (fun E=>?_)
   ·refine ah Z Z (W3 1 Z) Z (ah Z Z (W4 Z (ar.cg hB1) Z) Z (Wl ar 2 [0,0] Z Z (ah Z Z (ay (v:=nI tt) Z Z (cI (fD (by have:=(gA.1 B).1;have:=ht.cS;omega)))) Z<|WW (e:=25) (m:=1) ht B Z Z Z Z Z (fun b7 bi ao bl ap=>?_))));have hr45':=ap;obtain⟨b8,rfl,aE⟩:=hr45';refine ah Z Z (W7 ar ao Z Z) Z<|Wl ar 2 [1,0] Z Z<|WW (e:=38) (m:=5) aE N Z Z Z Z Z (fun b9 bm a0 bo a1=>?_);obtain rfl:=a1;refine dN a0 Z Z Z Z (k:=4) U (lb Z) (fun _=>Z) (fun cc a2=>?_);refine ah Z Z (W7 ar a2 Z Z) Z<|ah Z Z (W3 3 Z) Z<|ah Z Z (W4 Z (ar.cg hB3) Z) Z<|VB 4 Z<|aG Z (fun Q=>?_) (fun Q=>?_)
    ·refine We 2 Z<|J Z (Xc Z ar.g0 Z) Z<|fh ar Z (bN (e:=87) (m:=2) (z:=[D,D]) (cs:=[_,_]) U U U U<|aZ Z Z Z Z bE) (fun _=>Z) (fun O b6 ar=>?_);replace ar:=ar.pull (.there (.there<|bu.here (X:=M)));replace ar:=ar.pull (.bV<|bu.here (X:=[_]));rw[za_] at ar;refine fw (R:=dK) (m:=2) (e:=87) hO ar (dn (m:=2) Z Z) dK.leaf (by have h1:=List.length_filter_le (vq threads id e.read) (os.take i);rw[lT_] at h1;simp only[lA_,zc_,List.length_nil];omega) Z Z Z Z Z Z Z (fun _=>Z) (fun O cd ce hO59 ar=>?_);refine Wg 2 Z<|az<|Wd 4 Z ?_;replace ar:=ar.pull (.bV<|bu.here (X:=[_]));rw[za_] at ar;have ar:=ar.pop;refine aD ⟨j5-1,(by have:=aM d;omega),oF,i+1,_,_,(by have:=aM d;omega),(by rw[sP A (CT (w:=⟨.ofNat (tt+1),.ofNat ii⟩) (id:=id) E (by rw[xQ B N];exact Q)),<-lQ_];exact hO59),Z,cI<|aX (by have:=aM d;omega),ar⟩
    refine aI<|az<|Wd 4 Z ?_;replace ar:=ar.pull (.there<|bu.here (X:=M));replace ar:=ar.pull (.bV<|bu.here (X:=[_]));rw[za_] at ar;have ar:=ar.pop;refine aD ⟨j5-1,(by have:=aM d;omega),oF,i+1,u,M,(by have:=aM d;omega),(by rw[lT A (CT (w:=⟨.ofNat (tt+1),.ofNat ii⟩) (id:=id) E (by rw[xQ B N];exact Q))];exact hO),Z,cI<|aX (by have:=aM d;omega),ar⟩
   refine VB 19 Z<|aI<|az<|Wd 4 Z ?_;replace ar:=ar.pull (.there<|bu.here (X:=M));replace ar:=ar.pull (.bV<|bu.here (X:=[_]));rw[za_] at ar;have ar:=ar.pop;refine aD ⟨j5-1,(by have:=aM d;omega),oF,i+1,u,M,(by have:=aM d;omega),(by rw[lT A (ND (w:=⟨.ofNat (tt+1),.ofNat ii⟩) (id:=id) E)];exact hO),Z,cI<|aX (by have:=aM d;omega),ar⟩
  refine UH 3 Z<|aN<|Wf 7 Z ?_;exact aA Z Z ⟨_,(by unfold AG;rw[T,<-tL_ (bK d)];exact hO),ar.weaken C⟩
 refine UF 3 Z<|Vw 2 Z ?_;obtain⟨hd,T,hO0⟩:∃hd:List bS,(bif F v0 e.read then [⟨0,e.loc⟩] else [])=hd/\cy 2 87 dK (hd++((os.take 0).filter<|vq threads id e.read)) .av []:=⟨_,Z,by rw[a4];exact cy.nil⟩;have bs:hd.length<=1:=by rw[<-T];cases F v0 e.read<;>simp
 refine J Z (W3 4 Z) Z<|J Z (W4 Z (ar.cg hB1) Z) Z<|J Z (W3 1 Z) Z<|J Z (W4 Z (ar.cg hB3) Z) Z<|WV (e:=42) (m:=1) ho a9 Z Z Z (by rw[a3];rfl) (fun bt bc W bd aa=>?_);have hr29':=aa;obtain⟨bv,rfl,I⟩:=hr29';refine J Z (W7 ar W Z Z) Z<|J Z (W5 I Z Z Z (e:=87) Z) Z<|UI 4 Z<|bk ([7,9]++rg 32 29) (fun j t O=>∃(i:Nat) (u:V) (M:Own),j+i=os.length/\cy 2 87 dK (hd++((os.take i).filter<|vq threads id e.read)) u M/\t.get 7=some (u)/\t.get 32=some (nI i)/\H O K1 (M++L)) (os.length) ⟨0,_,_,Z,hO0,Z,Z,ar⟩ ?_;clear ar;intro j5 t O ak hI;obtain⟨i,u,M,bw,hO,a5,ab,ar⟩:=hI;obtain⟨oo,rfl⟩:=ak.q2 a5 ab Z;refine Vv 6 Z<|aG Z (fun d=>?_) (fun d=>?_)
 ·refine SF 6 Z ?_;obtain⟨bD,A,be⟩:=di d;refine WV (e:=87) (m:=2) I A Z Z Z Z (fun b0 bf ac bg am=>?_);obtain rfl:=am;refine J Z (W8 ar ac Z Z) Z<|kb ar (W6 (cs:=[D,D])) (fun O b4 ar=>?_);refine ks ar (W9 Z Z Z ar.g0 Z) (fun O ar=>?_);refine UJ 3 Z<|aL (l:=zp [0,1,2,3,4,5,6,7,8,9,10,11,12,13,14,15,16,17,18,19]) U U ?_;obtain⟨tt,ii,row,ev,rfl,B,N⟩:=hT _ (gB_ A);refine ah Z Z (Xc Z ar.g0 Z) Z<|ah Z Z (Xc Z (ar.cg hB2) Z) Z<|ah Z Z (zH (n:=2) (ca:=[_,_]) (cb:=[_,_]) U Z Z Z Z) Z<|e8 Z Z (an Z) (fun _=>Z) (fun E=>?_) (fun E=>?_)
  ·refine ah Z Z (W3 1 Z) Z (ah Z Z (W4 Z (ar.cg hB1) Z) Z (Wl ar 2 [0,0] Z Z (ah Z Z (ay (v:=nI tt) Z Z (cI (fD (by have:=(gA.1 B).1;have:=ht.cS;omega)))) Z<|WW (e:=25) (m:=1) ht B Z Z Z Z Z (fun b7 bi ao bl ap=>?_))));have hr45':=ap;obtain⟨b8,rfl,aE⟩:=hr45';refine ah Z Z (W7 ar ao Z Z) Z<|Wl ar 2 [1,0] Z Z<|WW (e:=38) (m:=5) aE N Z Z Z Z Z (fun b9 bm a0 bo a1=>?_);obtain rfl:=a1;refine dN a0 Z Z Z Z (k:=4) U (lb Z) (fun _=>Z) (fun cc a2=>?_);refine ah Z Z (W7 ar a2 Z Z) Z<|ah Z Z (W3 3 Z) Z<|ah Z Z (W4 Z (ar.cg hB3) Z) Z<|VB 4 Z<|aG Z (fun Q=>?_) (fun Q=>?_)
   ·refine We 2 Z<|J Z (Xc Z ar.g0 Z) Z<|fh ar Z (bN (e:=87) (m:=2) (z:=[D,D]) (cs:=[_,_]) U U U U<|aZ Z Z Z Z bE) (fun _=>Z) (fun O b5 ar=>?_);replace ar:=ar.pull (.there (.there<|bu.here (X:=M)));replace ar:=ar.pull (.bV<|bu.here (X:=[_]));rw[za_] at ar;refine fw (R:=dK) (m:=2) (e:=87) hO ar (dn (m:=2) Z Z) dK.leaf (by have h1:=List.length_filter_le (vq threads id e.read) (os.take i);rw[lT_] at h1;simp only[lA_,zc_,List.length_nil];omega) Z Z Z Z Z Z Z (fun _=>Z) (fun O cd ce hO59 ar=>?_);refine Wg 2 Z<|az<|Wd 4 Z ?_;replace ar:=ar.pull (.bV<|bu.here (X:=[_]));rw[za_] at ar;have ar:=ar.pop;refine aD ⟨j5-1,(by have:=aM d;omega),oF,i+1,_,_,(by have:=aM d;omega),(by rw[sP A (CT (w:=⟨.ofNat (tt+1),.ofNat ii⟩) (id:=id) E (by rw[xQ B N];exact Q)),<-lQ_];exact hO59),Z,cI<|aX (by have:=aM d;omega),ar⟩
   refine aI<|az<|Wd 4 Z ?_;replace ar:=ar.pull (.there<|bu.here (X:=M));replace ar:=ar.pull (.bV<|bu.here (X:=[_]));rw[za_] at ar;have ar:=ar.pop;refine aD ⟨j5-1,(by have:=aM d;omega),oF,i+1,u,M,(by have:=aM d;omega),(by rw[lT A (CT (w:=⟨.ofNat (tt+1),.ofNat ii⟩) (id:=id) E (by rw[xQ B N];exact Q))];exact hO),Z,cI<|aX (by have:=aM d;omega),ar⟩
  refine VB 19 Z<|aI<|az<|Wd 4 Z ?_;replace ar:=ar.pull (.there<|bu.here (X:=M));replace ar:=ar.pull (.bV<|bu.here (X:=[_]));rw[za_] at ar;have ar:=ar.pop;refine aD ⟨j5-1,(by have:=aM d;omega),oF,i+1,u,M,(by have:=aM d;omega),(by rw[lT A (ND (w:=⟨.ofNat (tt+1),.ofNat ii⟩) (id:=id) E)];exact hO),Z,cI<|aX (by have:=aM d;omega),ar⟩
 refine UH 3 Z<|aN<|Wf 7 Z ?_;exact aA Z Z ⟨_,(by unfold AG;rw[T,<-tL_ (bK d)];exact hO),ar.weaken C⟩
end Go.Ev
end
