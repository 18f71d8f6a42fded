/- Part of the proof: an evaluator of the model's code, rules for walks on it, walks. Without conditions. -/
import Derived.CallsIn
import Derived.Laws.World
import Derived.KernelRfl
import Derived.Laws.AppendOwn
import Derived.Laws.Strings
import Derived.Great.BuildSlice
import Derived.Laws.Tables
import Derived.Laws.MakeOwn
import Derived.Laws.StructEq
import Derived.Laws.Small
import Derived.ChangeKeysEq
import Derived.LaidEql
import Derived.Lib.Strings
import Derived.Lib.Builder
import Derived.Lib.Overlaps
import Derived.Laws.IdiomStrings
import Derived.Lib.UnsafeStr
import Derived.Lib.ConvBytes
import Derived.RangeFuncNested
set_option linter.unusedSectionVars false
set_option linter.unusedVariables false
set_option linter.unusedSimpArgs false
noncomputable section
namespace Go.Ev
theorem gA:type_of% @List.getElem?_eq_some_iff:= @List.getElem?_eq_some_iff
theorem gB_:type_of% @List.mem_of_getElem?:= @List.mem_of_getElem?
theorem rA:type_of% @Result.andThen_ok:= @Result.andThen_ok
theorem gC:type_of% @List.getElem?_eq_getElem:= @List.getElem?_eq_getElem
theorem nB:type_of% @Nat.eq_of_beq_eq_true:= @Nat.eq_of_beq_eq_true
theorem bA_:type_of% @Bool.and_eq_true:= @Bool.and_eq_true
theorem sB_:type_of% @Sem.run_bind:= @Sem.run_bind
theorem sP_:type_of% @Sem.run_pure:= @Sem.run_pure
theorem nE_:type_of% @Nat.ble_eq:= @Nat.ble_eq
theorem lT_:type_of% @List.length_take:= @List.length_take
theorem oJ_:type_of% @Option.some.injEq:= @Option.some.injEq
theorem lA_:type_of% @List.length_append:= @List.length_append
theorem mC_:type_of% @List.mem_cons_of_mem:= @List.mem_cons_of_mem
theorem lM_:type_of% @List.length_map:= @List.length_map
theorem aT_:type_of% @Array.getElem?_toList:= @Array.getElem?_toList
theorem mS_:type_of% @List.mem_cons_self:= @List.mem_cons_self
theorem gM_:type_of% @List.getElem?_map:= @List.getElem?_map
theorem gL_:type_of% @List.getElem?_append_left:= @List.getElem?_append_left
theorem gO_:type_of% @List.getElem?_of_mem:= @List.getElem?_of_mem
theorem tL_:type_of% @List.take_of_length_le:= @List.take_of_length_le
theorem aE_:type_of% @List.all_eq_true:= @List.all_eq_true
theorem eN_:type_of% @List.eq_nil_of_length_eq_zero:= @List.eq_nil_of_length_eq_zero
theorem gN_:type_of% @List.getElem?_eq_none:= @List.getElem?_eq_none
theorem lD_:type_of% @List.length_drop:= @List.length_drop
theorem mQ_:type_of% @List.mem_cons:= @List.mem_cons
theorem nM_:type_of% @Nat.mul_le_mul_right:= @Nat.mul_le_mul_right
theorem oM_:type_of% @Option.map_eq_some_iff:= @Option.map_eq_some_iff
theorem lQ_:type_of% @List.append_assoc:= @List.append_assoc
theorem nZ_:type_of% @Nat.not_lt_zero:= @Nat.not_lt_zero
theorem nR_:type_of% @Nat.le_refl:= @Nat.le_refl
theorem nA_:type_of% @Nat.zero_add:= @Nat.zero_add
theorem iJ_:type_of% @Int.ofNat.inj:= @Int.ofNat.inj
theorem gR_:type_of% @List.getElem?_append_right:= @List.getElem?_append_right
theorem eR_:type_of% @List.eq_of_mem_replicate:= @List.eq_of_mem_replicate
theorem aG_:type_of% @Array.getElem?_eq_getElem:= @Array.getElem?_eq_getElem
theorem aS_:type_of% @Array.getElem?_eq_some_iff:= @Array.getElem?_eq_some_iff
theorem Z {α:Sort _} {a:α}:a=a:=rfl
theorem U {p:Prop} (h:p:=by kernel_rfl):p:=h
theorem oM {p:Prop} (h:p:=by omega):p:=h
abbrev Pos:=Nat
abbrev Pos.succ (p:Pos):Pos:=Nat.succ p
abbrev Pos.num (p:Pos):Nat:=p
theorem Pos.iu (p:Pos):p.succ.num=p.num+1:=rfl
abbrev posOf (n:Nat):Pos:=n
theorem qI {m n:Nat} (h:posOf m=posOf n):m=n:=h
structure jS (α:Type) where
 c0:α
 c1:α
 c2:α
 c3:α
 c4:α
 c5:α
 c6:α
 c7:α
 c8:α
 c9:α
 rO:α
 rP:α
 rQ:α
 rR:α
 rS:α
 rT:α
structure Dc (α:Type) where
 run:jS α->α
structure Dd (α:Type) where
 run:jS α->α->jS α
section
variable {α:Type}
def jE (n:Nat):Dc α:=(Bool.rec (motive:=fun _=>Dc α) (Bool.rec (motive:=fun _=>Dc α) (Bool.rec (motive:=fun _=>Dc α) (Bool.rec (motive:=fun _=>Dc α) ⟨fun t=>t.c0⟩ ⟨fun t=>t.c1⟩<|Nat.ble 1 n) (Bool.rec (motive:=fun _=>Dc α) ⟨fun t=>t.c2⟩ ⟨fun t=>t.c3⟩<|Nat.ble 3 n)<|Nat.ble 2 n) (Bool.rec (motive:=fun _=>Dc α) (Bool.rec (motive:=fun _=>Dc α) ⟨fun t=>t.c4⟩ ⟨fun t=>t.c5⟩<|Nat.ble 5 n) (Bool.rec (motive:=fun _=>Dc α) ⟨fun t=>t.c6⟩ ⟨fun t=>t.c7⟩<|Nat.ble 7 n)<|Nat.ble 6 n)<|Nat.ble 4 n) (Bool.rec (motive:=fun _=>Dc α) (Bool.rec (motive:=fun _=>Dc α) (Bool.rec (motive:=fun _=>Dc α) ⟨fun t=>t.c8⟩ ⟨fun t=>t.c9⟩<|Nat.ble 9 n) (Bool.rec (motive:=fun _=>Dc α) ⟨fun t=>t.rO⟩ ⟨fun t=>t.rP⟩<|Nat.ble 11 n)<|Nat.ble 10 n) (Bool.rec (motive:=fun _=>Dc α) (Bool.rec (motive:=fun _=>Dc α) ⟨fun t=>t.rQ⟩ ⟨fun t=>t.rR⟩<|Nat.ble 13 n) (Bool.rec (motive:=fun _=>Dc α) ⟨fun t=>t.rS⟩ ⟨fun t=>t.rT⟩<|Nat.ble 15 n)<|Nat.ble 14 n)<|Nat.ble 12 n)<|Nat.ble 8 n)
def xL (n:Nat):Dd α:=(Bool.rec (motive:=fun _=>Dd α) (Bool.rec (motive:=fun _=>Dd α) (Bool.rec (motive:=fun _=>Dd α) (Bool.rec (motive:=fun _=>Dd α) ⟨fun t v=>jS.rec (motive:=fun _=>jS α) (fun _ c1 c2 c3 c4 c5 c6 c7 c8 c9 rO rP rQ rR rS rT=>⟨v,c1,c2,c3,c4,c5,c6,c7,c8,c9,rO,rP,rQ,rR,rS,rT⟩) t⟩ ⟨fun t v=>jS.rec (motive:=fun _=>jS α) (fun c0 _ c2 c3 c4 c5 c6 c7 c8 c9 rO rP rQ rR rS rT=>⟨c0,v,c2,c3,c4,c5,c6,c7,c8,c9,rO,rP,rQ,rR,rS,rT⟩) t⟩<|Nat.ble 1 n) (Bool.rec (motive:=fun _=>Dd α) ⟨fun t v=>jS.rec (motive:=fun _=>jS α) (fun c0 c1 _ c3 c4 c5 c6 c7 c8 c9 rO rP rQ rR rS rT=>⟨c0,c1,v,c3,c4,c5,c6,c7,c8,c9,rO,rP,rQ,rR,rS,rT⟩) t⟩ ⟨fun t v=>jS.rec (motive:=fun _=>jS α) (fun c0 c1 c2 _ c4 c5 c6 c7 c8 c9 rO rP rQ rR rS rT=>⟨c0,c1,c2,v,c4,c5,c6,c7,c8,c9,rO,rP,rQ,rR,rS,rT⟩) t⟩<|Nat.ble 3 n)<|Nat.ble 2 n) (Bool.rec (motive:=fun _=>Dd α) (Bool.rec (motive:=fun _=>Dd α) ⟨fun t v=>jS.rec (motive:=fun _=>jS α) (fun c0 c1 c2 c3 _ c5 c6 c7 c8 c9 rO rP rQ rR rS rT=>⟨c0,c1,c2,c3,v,c5,c6,c7,c8,c9,rO,rP,rQ,rR,rS,rT⟩) t⟩ ⟨fun t v=>jS.rec (motive:=fun _=>jS α) (fun c0 c1 c2 c3 c4 _ c6 c7 c8 c9 rO rP rQ rR rS rT=>⟨c0,c1,c2,c3,c4,v,c6,c7,c8,c9,rO,rP,rQ,rR,rS,rT⟩) t⟩<|Nat.ble 5 n) (Bool.rec (motive:=fun _=>Dd α) ⟨fun t v=>jS.rec (motive:=fun _=>jS α) (fun c0 c1 c2 c3 c4 c5 _ c7 c8 c9 rO rP rQ rR rS rT=>⟨c0,c1,c2,c3,c4,c5,v,c7,c8,c9,rO,rP,rQ,rR,rS,rT⟩) t⟩ ⟨fun t v=>jS.rec (motive:=fun _=>jS α) (fun c0 c1 c2 c3 c4 c5 c6 _ c8 c9 rO rP rQ rR rS rT=>⟨c0,c1,c2,c3,c4,c5,c6,v,c8,c9,rO,rP,rQ,rR,rS,rT⟩) t⟩<|Nat.ble 7 n)<|Nat.ble 6 n)<|Nat.ble 4 n) (Bool.rec (motive:=fun _=>Dd α) (Bool.rec (motive:=fun _=>Dd α) (Bool.rec (motive:=fun _=>Dd α) ⟨fun t v=>jS.rec (motive:=fun _=>jS α) (fun c0 c1 c2 c3 c4 c5 c6 c7 _ c9 rO rP rQ rR rS rT=>⟨c0,c1,c2,c3,c4,c5,c6,c7,v,c9,rO,rP,rQ,rR,rS,rT⟩) t⟩ ⟨fun t v=>jS.rec (motive:=fun _=>jS α) (fun c0 c1 c2 c3 c4 c5 c6 c7 c8 _ rO rP rQ rR rS rT=>⟨c0,c1,c2,c3,c4,c5,c6,c7,c8,v,rO,rP,rQ,rR,rS,rT⟩) t⟩<|Nat.ble 9 n) (Bool.rec (motive:=fun _=>Dd α) ⟨fun t v=>jS.rec (motive:=fun _=>jS α) (fun c0 c1 c2 c3 c4 c5 c6 c7 c8 c9 _ rP rQ rR rS rT=>⟨c0,c1,c2,c3,c4,c5,c6,c7,c8,c9,v,rP,rQ,rR,rS,rT⟩) t⟩ ⟨fun t v=>jS.rec (motive:=fun _=>jS α) (fun c0 c1 c2 c3 c4 c5 c6 c7 c8 c9 rO _ rQ rR rS rT=>⟨c0,c1,c2,c3,c4,c5,c6,c7,c8,c9,rO,v,rQ,rR,rS,rT⟩) t⟩<|Nat.ble 11 n)<|Nat.ble 10 n) (Bool.rec (motive:=fun _=>Dd α) (Bool.rec (motive:=fun _=>Dd α) ⟨fun t v=>jS.rec (motive:=fun _=>jS α) (fun c0 c1 c2 c3 c4 c5 c6 c7 c8 c9 rO rP _ rR rS rT=>⟨c0,c1,c2,c3,c4,c5,c6,c7,c8,c9,rO,rP,v,rR,rS,rT⟩) t⟩ ⟨fun t v=>jS.rec (motive:=fun _=>jS α) (fun c0 c1 c2 c3 c4 c5 c6 c7 c8 c9 rO rP rQ _ rS rT=>⟨c0,c1,c2,c3,c4,c5,c6,c7,c8,c9,rO,rP,rQ,v,rS,rT⟩) t⟩<|Nat.ble 13 n) (Bool.rec (motive:=fun _=>Dd α) ⟨fun t v=>jS.rec (motive:=fun _=>jS α) (fun c0 c1 c2 c3 c4 c5 c6 c7 c8 c9 rO rP rQ rR _ rT=>⟨c0,c1,c2,c3,c4,c5,c6,c7,c8,c9,rO,rP,rQ,rR,v,rT⟩) t⟩ ⟨fun t v=>jS.rec (motive:=fun _=>jS α) (fun c0 c1 c2 c3 c4 c5 c6 c7 c8 c9 rO rP rQ rR rS _=>⟨c0,c1,c2,c3,c4,c5,c6,c7,c8,c9,rO,rP,rQ,rR,rS,v⟩) t⟩<|Nat.ble 15 n)<|Nat.ble 14 n)<|Nat.ble 12 n)<|Nat.ble 8 n)
theorem Hb {n:Nat} (h:n<16):n=0∨n=1∨n=2∨n=3∨n=4∨n=5∨n=6∨n=7∨n=8∨n=9∨n=10∨n=11∨n=12∨n=13∨n=14∨n=15:=by omega
theorem CK (n:Nat) (t:jS α) (v:α) (b:n<16):(jE n).run ((xL n).run t v)=v:=by
 rcases Hb b with rfl | rfl | rfl | rfl | rfl | rfl | rfl | rfl | rfl | rfl | rfl | rfl | rfl | rfl | rfl | rfl<;>rfl
theorem L2 (n:Nat) (t:jS α) (v u:α) (b:n<16):(xL n).run ((xL n).run t v) u=(xL n).run t u:=by
 rcases Hb b with rfl | rfl | rfl | rfl | rfl | rfl | rfl | rfl | rfl | rfl | rfl | rfl | rfl | rfl | rfl | rfl<;>rfl
theorem Ht (m n:Nat) (t:jS α) (v:α) (hm:m<16) (b:n<16) (h:m≠n):(jE m).run ((xL n).run t v)=(jE m).run t:=by
 rcases Hb hm with rfl | rfl | rfl | rfl | rfl | rfl | rfl | rfl | rfl | rfl | rfl | rfl | rfl | rfl | rfl | rfl<;>rcases Hb b with rfl | rfl | rfl | rfl | rfl | rfl | rfl | rfl | rfl | rfl | rfl | rfl | rfl | rfl | rfl | rfl<;>first | rfl | exact absurd rfl h
theorem Gb (m n:Nat) (t:jS α) (v:α) (hm:m<16) (b:n<16):(jE m).run ((xL n).run t v)=if m=n then v else(jE m).run t:=by
 by_cases h:m=n
 ·subst h;rw[if_pos Z,CK _ _ _ b]
 rw[if_neg h,Ht _ _ _ _ hm b h]
abbrev jf (α:Type):=jS (jS α)
def jI (t:jf α) (k:Nat):α:=(jE<|Nat.mod k 16).run ((jE<|Nat.div k 16).run t)
def pY (t:jf α) (k:Nat) (v:α):jf α:=(xL<|Nat.div k 16).run t ((xL<|Nat.mod k 16).run ((jE<|Nat.div k 16).run t) v)
theorem mb (t:jf α) (k j:Nat) (v:α) (hk:k<256) (hj:j<256):jI (pY t k v) j=if j=k then v else jI t j:=by
 have e:∀n m:Nat,Nat.mod n m=n%m:=fun _ _=>Z
 have e':∀n m:Nat,Nat.div n m=n/m:=fun _ _=>Z
 simp only[jI,pY,e,e'];rw[Gb _ _ _ _ oM oM]
 by_cases h1:j/16=k/16
 ·rw[if_pos h1,Gb _ _ _ _ oM oM]
  grind
 grind
theorem xj (t:jf α) (k:Nat) (v u:α) (hk:k<256):pY (pY t k v) k u=pY t k u:=by
 have h1:Nat.mod k 16<16:=Nat.mod_lt _ oM;have h2:Nat.div k 16<16:=Nat.div_lt_of_lt_mul hk
 grind [pY,CK,L2]
def jS.all (x:α):jS α:=⟨x,x,x,x,x,x,x,x,x,x,x,x,x,x,x,x⟩
def jf.all (x:α):jf α:=jS.all (jS.all x)
theorem Ga (n:Nat) (y:α) (b:n<16):(jE n).run (jS.all y)=y:=by
 rcases Hb b with rfl | rfl | rfl | rfl | rfl | rfl | rfl | rfl | rfl | rfl | rfl | rfl | rfl | rfl | rfl | rfl<;>rfl
theorem wC (x:α) (k:Nat) (hk:k<256):jI (jf.all x) k=x:=by
 have h1:Nat.mod k 16<16:=Nat.mod_lt _ oM;have b:Nat.div k 16<16:=Nat.div_lt_of_lt_mul hk;simp only[jI,jf.all,Ga _ _ h1,Ga _ _ b]
def s8 (v:Option α) (n:Nat):List (Option α)->List (Option α):=
 Nat.rec (motive:=fun _=>List (Option α)->List (Option α)) (fun l=>List.rec (motive:=fun _=>List<|Option α) [v] (fun _ r _=>v::r) l)
  (fun _ ih l=>List.rec (motive:=fun _=>List<|Option α) (none::ih []) (fun x r _=>x::ih r) l) n
def GZ (l:List (Option α)):Nat->Option α:=
 List.rec (motive:=fun _=>Nat->Option α) (fun _=>none) (fun x _ ih n=>Nat.rec (motive:=fun _=>Option α) x (fun m _=>ih m) n) l
theorem wD (v:Option α):∀(k:Nat) (l:List (Option α)) (j:Nat),GZ (s8 v k l) j=if j=k then v else GZ l j
 | 0,[],0=>rfl
 | 0,[],j+1=>by rw[if_neg oM];rfl
 | 0,x::r,0=>rfl
 | 0,x::r,j+1=>by rw[if_neg oM];rfl
 | k+1,[],0=>by rw[if_neg oM];rfl
 | k+1,[],j+1=>by
  show GZ (s8 v k []) j=_;rw[wD v k [] j]
  by_cases h:j=k
  ·simp_all
  rw[if_neg h,if_neg oM];rfl
 | k+1,x::r,0=>by rw[if_neg oM];rfl
 | k+1,x::r,j+1=>by
  show GZ (s8 v k r) j=_;rw[wD v k r j]
  by_cases h:j=k
  ·simp_all
  rw[if_neg h,if_neg oM];rfl
theorem xk (v u:Option α):∀(k:Nat) (l:List (Option α)),s8 u k (s8 v k l)=s8 u k l
 | 0,[]=>rfl
 | 0,x::r=>rfl
 | k+1,[]=>by
  show none::s8 u k (s8 v k [])=none::s8 u k [];rw[xk v u k []]
 | k+1,x::r=>by
  show x::s8 u k (s8 v k r)=x::s8 u k r;rw[xk v u k r]
structure PT (α:Type) where
 s:jf (Option α)
 m:jf (jf<|Option α)
 l:List (Option α)
def PT.leaf:PT α:=⟨jf.all none,jf.all<|jf.all none,[]⟩
def PT.GY (t:PT α) (p:Nat):Option α:=
 Bool.rec (motive:=fun _=>Option α) (Bool.rec (motive:=fun _=>Option α) (GZ t.l p) (jI (jI t.m<|Nat.div p 256)<|Nat.mod p 256)<|Nat.ble p 65535) (jI t.s p) (Nat.ble p 255)
def PT.Hn (o:Option α) (t:PT α) (p:Nat):PT α:=
 Bool.rec (motive:=fun _=>PT α) (Bool.rec (motive:=fun _=>PT α) (PT.rec (motive:=fun _=>PT α) (fun s m l=>⟨s,m,s8 o p l⟩) t)
  (PT.rec (motive:=fun _=>PT α) (fun s m l=>⟨s,pY m (Nat.div p 256)<|pY (jI m<|Nat.div p 256) (Nat.mod p 256) o,l⟩) t)<|Nat.ble p 65535)
  (PT.rec (motive:=fun _=>PT α) (fun s m l=>⟨pY s p o,m,l⟩) t) (Nat.ble p 255)
def PT.get (t:PT α) (p:Pos):Option α:=Nat.rec (motive:=fun _=>Option α) (t.GY 0) (fun m _=>t.GY (Nat.succ m)) p
def PT.put (o:Option α) (t:PT α) (p:Pos):PT α:=Nat.rec (motive:=fun _=>PT α) (t.Hn o 0) (fun m _=>t.Hn o (Nat.succ m)) p
theorem PT.get_eq (t:PT α) (p:Nat):t.get p=t.GY p:=by cases p<;>rfl
theorem PT.put_eq (o:Option α) (t:PT α) (p:Nat):t.put o p=t.Hn o p:=by cases p<;>rfl
theorem vD (m n:Nat):Nat.blt m n=true↔m<n:=by simp_all
theorem oj (m n:Nat):Nat.ble m n=true↔m<n+1:=by rw[nE_,Nat.lt_succ_iff]
theorem tH {m n:Nat} (h:¬m<n+1):Nat.ble m n=false:=by
 grind [oj]
theorem PT.pH (t:PT α) {p:Nat} (h:p<256):t.get p=jI t.s p:=by rw[PT.get_eq];unfold PT.GY;rw[(oj p 255).2 h]
theorem PT.yS (t:PT α) {p:Nat} (h:¬p<256) (h':p<65536):t.get p=jI (jI t.m<|Nat.div p 256) (Nat.mod p 256):=by
 rw[PT.get_eq];unfold PT.GY;rw[tH (n:=255) h,(oj p 65535).2 h']
theorem PT.yR (t:PT α) {p:Nat} (h:¬p<65536):t.get p=GZ t.l p:=by
 rw[PT.get_eq];unfold PT.GY;rw[tH (n:=255) oM,tH (n:=65535) h]
theorem PT.s9 (o:Option α) (s:jf (Option α)) (m:jf (jf<|Option α)) (l:List (Option α)) {p:Nat} (h:p<256):(PT.mk s m l).put o p=⟨pY s p o,m,l⟩:=by rw[PT.put_eq];unfold PT.Hn;rw[(oj p 255).2 h]
theorem PT.FZ (o:Option α) (s:jf (Option α)) (m:jf (jf<|Option α)) (l:List (Option α)) {p:Nat} (h:¬p<256) (h':p<65536):
  (PT.mk s m l).put o p=⟨s,pY m (Nat.div p 256)<|pY (jI m<|Nat.div p 256) (Nat.mod p 256) o,l⟩:=by
 rw[PT.put_eq];unfold PT.Hn;rw[tH (n:=255) h,(oj p 65535).2 h']
theorem PT.FY (o:Option α) (s:jf (Option α)) (m:jf (jf<|Option α)) (l:List (Option α)) {p:Nat} (h:¬p<65536):(PT.mk s m l).put o p=⟨s,m,s8 o p l⟩:=by
 rw[PT.put_eq];unfold PT.Hn;rw[tH (n:=255) oM,tH (n:=65535) h]
theorem PT.ma (p:Nat):(PT.leaf:PT α).get p=none:=by
 by_cases h1:p<256
 ·rw[PT.pH _ h1];exact wC _ _ h1
 by_cases b:p<65536
 ·rw[PT.yS _ h1 b];show jI (jI (jf.all<|jf.all none) _) _=none;have d:Nat.div p 256<256:=Nat.div_lt_of_lt_mul b;have hm:Nat.mod p 256<256:=Nat.mod_lt _ oM;rw[wC _ _ d,wC _ _ hm]
 rw[PT.yR _ b];rfl
theorem PT.lF (o:Option α) (t:PT α) (p q:Nat):(t.put o p).get q=if q=p then o else t.get q:=by
 cases t with
 | mk s m l=>
 by_cases h1:p<256
 ·rw[PT.s9 o s m l h1]
  by_cases b:q<256
  ·rw[PT.pH _ b,PT.pH _ b];exact mb s p q o h1 b
  rw[if_neg oM]
  grind [PT.yS,PT.yR]
 by_cases h3:p<65536
 ·rw[PT.FZ o s m l h1 h3]
  by_cases b:q<256
  ·rw[if_neg oM,PT.pH _ b,PT.pH _ b]
  by_cases h4:q<65536
  ·rw[PT.yS _ b h4,PT.yS _ b h4];have hp:Nat.div p 256<256:=Nat.div_lt_of_lt_mul h3;have hq:Nat.div q 256<256:=Nat.div_lt_of_lt_mul h4;have d:Nat.mod p 256<256:=Nat.mod_lt _ oM;have u:Nat.mod q 256<256:=Nat.mod_lt _ oM;show jI (jI (pY m (Nat.div p 256) _)<|Nat.div q 256) (Nat.mod q 256)=_;rw[mb _ _ _ _ hp hq]
   by_cases e:Nat.div q 256=Nat.div p 256
   ·rw[if_pos e,mb _ _ _ _ d u]
    by_cases w:Nat.mod q 256=Nat.mod p 256
    ·rw[if_pos w,if_pos];have f1:q/256=p/256:=e;have f2:q%256=p%256:=w;omega
    grind
   grind
  rw[if_neg oM,PT.yR _ h4,PT.yR _ h4]
 rw[PT.FY o s m l h3]
 by_cases b:q<256
 ·rw[if_neg oM,PT.pH _ b,PT.pH _ b]
 by_cases h4:q<65536
 ·rw[if_neg oM,PT.yS _ b h4,PT.yS _ b h4]
 rw[PT.yR _ h4,PT.yR _ h4];exact wD o p l q
theorem PT.dE (o:Option α) (t:PT α) (p:Pos):(t.put o p).get p=o:=by rw[PT.lF,if_pos Z]
theorem PT.dB (o:Option α) (t:PT α) (p q:Pos) (h:q≠p):(t.put o p).get q=t.get q:=by rw[PT.lF,if_neg h]
theorem PT.LN (o o':Option α) (t:PT α) (p:Nat):(t.put o p).put o' p=t.put o' p:=by
 cases t with
 | mk s m l=>
 by_cases h1:p<256
 ·rw[PT.s9 o s m l h1,PT.s9 _ _ _ _ h1,PT.s9 _ _ _ _ h1,xj _ _ _ _ h1]
 by_cases h3:p<65536
 ·have hp:Nat.div p 256<256:=Nat.div_lt_of_lt_mul h3;have b:Nat.mod p 256<256:=Nat.mod_lt _ oM;rw[PT.FZ o s m l h1 h3,PT.FZ _ _ _ _ h1 h3,PT.FZ _ _ _ _ h1 h3,xj _ _ _ _ hp,mb _ _ _ _ hp hp,if_pos Z,xj _ _ _ _ b]
 rw[PT.FY o s m l h3,PT.FY _ _ _ _ h3,PT.FY _ _ _ _ h3,xk]
end
section
variable {α β:Type}
def nth (l:List α):Nat->Option α:=
 List.rec (motive:=fun _=>Nat->Option α) (fun _=>none) (fun x _ ih n=>Nat.rec (motive:=fun _=>Option α) (some x) (fun m _=>ih m) n) l
theorem eU:∀(l:List α) (n:Nat),nth l n=l[n]?
 | [],_=>rfl
 | _::_,0=>rfl
 | _::l,n+1=>by
  show nth l n=_;rw[eU l n];simp
def EK (v:α) (l:List α):Nat->List α:=
 List.rec (motive:=fun _=>Nat->List α) (fun _=>[]) (fun x l ih n=>Nat.rec (motive:=fun _=>List α) (v::l) (fun m _=>x::ih m) n) l
theorem uf (v:α):∀(l:List α) (n:Nat),EK v l n=l.set n v
 | [],_=>rfl
 | _::_,0=>rfl
 | x::l,n+1=>by
  show x::EK v l n=_;rw[uf v l n];simp
def dU (l:List α):Nat->List α:=
 List.rec (motive:=fun _=>Nat->List α) (fun _=>[]) (fun x l ih n=>Nat.rec (motive:=fun _=>List α) (x::l) (fun m _=>ih m) n) l
theorem dQ:∀(l:List α) (n:Nat),dU l n=l.drop n
 | [],n=>by simp[dU]
 | _::_,0=>rfl
 | x::l,n+1=>by
  show dU l n=_;rw[dQ l n];simp
def takeN (l:List α):Nat->List α:=
 List.rec (motive:=fun _=>Nat->List α) (fun _=>[]) (fun x _ ih n=>Nat.rec (motive:=fun _=>List α) [] (fun m _=>x::ih m) n) l
theorem dp:∀(l:List α) (n:Nat),takeN l n=l.take n
 | [],n=>by simp[takeN]
 | _::_,0=>rfl
 | x::l,n+1=>by
  show x::takeN l n=_;rw[dp l n];simp
def dn (l:List α):Nat:=List.rec (motive:=fun _=>Nat) 0 (fun _ _ n=>Nat.succ n) l
theorem bN:∀(l:List α),dn l=l.length
 | []=>rfl
 | _::l=>by show Nat.succ (dn l)=_;rw[bN l];rfl
def gE (l m:List α):List α:=List.rec (motive:=fun _=>List α) m (fun x _ r=>x::r) l
theorem dX:∀(l m:List α),gE l m=l++m
 | [],_=>rfl
 | x::l,m=>by show x::gE l m=_;rw[dX l m];rfl
def ya (f:α->β) (l:List α):List β:=List.rec (motive:=fun _=>List β) [] (fun x _ r=>f x::r) l
theorem lG (f:α->β):∀(l:List α),ya f l=l.map f
 | []=>rfl
 | x::l=>by show f x::ya f l=_;rw[lG f l];rfl
def cQ (f:α->Option β) (l:List α):Option (List β):=
 List.rec (motive:=fun _=>Option<|List β) (some []) (fun x _ r=>
  Option.rec (motive:=fun _=>Option<|List β) none (fun y=>Option.rec (motive:=fun _=>Option<|List β) none (fun ys=>some (y::ys)) r)<|f x) l
theorem gO (f:α->Option β):cQ f []=some []:=rfl
theorem gq {f:α->Option β} {x:α} {l:List α} {ys:List β} (h:cQ f (x::l)=some ys):∃y r,f x=some y/\cQ f l=some r/\ys=y::r:=by
 have e:cQ f (x::l)=Option.rec (motive:=fun _=>Option<|List β) none (fun y=>Option.rec (motive:=fun _=>Option<|List β) none (fun ys=>some (y::ys)) (cQ f l)) (f x):=rfl;rw[e] at h;cases hx:f x with
 | none=>rw[hx] at h;cases h
 | some y=>
  rw[hx] at h;cases b:cQ f l with
  | none=>rw[b] at h;cases h
  | some r=>
   simp_all
end
 class Env where
 τ:Nat->Value
 n0:Nat
 h0:Array Obj
variable [Env]
inductive ql where
 | known (n:Nat)
 | upto (sz:Nat)
 | least (a sz:Nat)
 deriving Inhabited
inductive V where
 | bool (b:Bool)
 | int (k:IntKind) (n:Int)
 | str (s:List Nat)
 | nilPtr
 | ptr (b:Pos) (off:Nat)
 | av
 | slice (b:Pos) (off len:Nat) (cap:ql)
 | ig
 | map (b:Pos)
 | func (f:Nat) (first captured:List V)
 | yield (l:Pos)
 | nilFunc
 | iface (t:Nat) (v:V)
 | nilIface
 | agg (cs:List V)
 | tuple (vs:List V)
 | any
 | n9 (a:Nat)
 | tok (n:Nat)
 deriving Inhabited
structure Loc where
 dN:Nat
 sh:Nat
 cells:Nat
abbrev dg:=Pos->Option Loc
def gy (s:List Nat) (bs:ByteArray):Prop:=bs.data.toList.map UInt8.toNat=s
mutual
def VR (I:dg):V->Value->Prop
 | .bool b,x=>x= .bool b
 | .int k n,x=>x= .int k n
 | .str s,x=>∃bs,x= .string bs/\gy s bs
 | .nilPtr,x=>x= .pointer none
 | .ptr b off,x=>∃l,I b=some l/\x= .pointer (some ⟨l.dN,l.sh+off,none⟩)
 | .av,x=>x= .slice none 0 0
 | .slice b off len (.known c),x=>∃l,I b=some l/\x= .slice (some ⟨l.dN,l.sh+off,none⟩) len c
 | .slice b off len (.upto sz),x=>∃l,I b=some l/\
   ((∃c,x= .slice (some ⟨l.dN,l.sh+off,none⟩) len c/\len<=c/\off+c*sz=l.cells)∨(len=0/\∃a,x= .slice (some a) 0 0))
 | .slice b off len (.least a sz),x=>∃l,I b=some l/\∃c,x= .slice (some ⟨l.dN,l.sh+off,none⟩) len c/\a<=c/\off+c*sz=l.cells
 | .ig,x=>x= .map none
 | .map b,x=>∃l,I b=some l/\x= .map (some l.dN)
 | .func f fi ca,x=>∃fi' ca':Array Value,x= .func (.func f) fi' ca'/\dA I fi fi'.toList/\dA I ca ca'.toList
 | .yield b,x=>∃l,I b=some l/\x= .func (.yield l.dN) #[] #[]
 | .nilFunc,x=>x= .nilFunc
 | .iface t v,x=>∃y,x= .iface t y/\VR I v y
 | .nilIface,x=>x= .nilIface
 | .agg cs,x=>∃ys:Array Value,x= .agg ys/\dA I cs ys.toList
 | .tuple cs,x=>∃ys:Array Value,x= .tuple ys/\dA I cs ys.toList
 | .any,_=>True
 | .n9 a,x=>∃c:Nat,x= .int .i64 c/\a<=c
 | .tok n,x=>x=Env.τ n/\x.oneCell'=true
def dA (I:dg):List V->List Value->Prop
 | [],ys=>ys= []
 | c::cs,ys=>∃y r,ys=y::r/\VR I c y/\dA I cs r
end
def dg.le (I I':dg):Prop:=∀b l,I b=some l->I' b=some l
theorem dg.le_refl (I:dg):I.le I:=fun _ _ h=>h
theorem dg.le_trans {I I' I'':dg} (h:I.le I') (h':I'.le I''):I.le I'':=fun b l hb=>h' b l (h b l hb)
mutual
theorem VR.mono {I I':dg} (h:I.le I'):∀(v:V) (x:Value),VR I v x->VR I' v x
 | .bool b,x,hv=>by simpa only[VR] using hv
 | .int k n,x,hv=>by simpa only[VR] using hv
 | .str s,x,hv=>by simpa only[VR] using hv
 | .nilPtr,x,hv=>by simpa only[VR] using hv
 | .ptr b off,x,hv=>by simp only[VR] at hv⊢;obtain⟨l,h1,d⟩:=hv;exact⟨l,h b l h1,d⟩
 | .av,x,hv=>by simpa only[VR] using hv
 | .slice b off len (.known c),x,hv=>by simp only[VR] at hv⊢;obtain⟨l,h1,d⟩:=hv;exact⟨l,h b l h1,d⟩
 | .slice b off len (.upto sz),x,hv=>by simp only[VR] at hv⊢;obtain⟨l,h1,d⟩:=hv;exact⟨l,h b l h1,d⟩
 | .slice b off len (.least a sz),x,hv=>by simp only[VR] at hv⊢;obtain⟨l,h1,d⟩:=hv;exact⟨l,h b l h1,d⟩
 | .ig,x,hv=>by simpa only[VR] using hv
 | .map b,x,hv=>by simp only[VR] at hv⊢;obtain⟨l,h1,d⟩:=hv;exact⟨l,h b l h1,d⟩
 | .func f fi ca,x,hv=>by
  simp only[VR] at hv⊢;obtain⟨fi',ca',h1,d,h3⟩:=hv;exact⟨fi',ca',h1,dA.mono h fi _ d,dA.mono h ca _ h3⟩
 | .yield b,x,hv=>by simp only[VR] at hv⊢;obtain⟨l,h1,d⟩:=hv;exact⟨l,h b l h1,d⟩
 | .nilFunc,x,hv=>by simpa only[VR] using hv
 | .iface t v,x,hv=>by simp only[VR] at hv⊢;obtain⟨y,h1,d⟩:=hv;exact⟨y,h1,VR.mono h v y d⟩
 | .nilIface,x,hv=>by simpa only[VR] using hv
 | .agg cs,x,hv=>by simp only[VR] at hv⊢;obtain⟨y,h1,d⟩:=hv;exact⟨y,h1,dA.mono h cs _ d⟩
 | .tuple cs,x,hv=>by simp only[VR] at hv⊢;obtain⟨y,h1,d⟩:=hv;exact⟨y,h1,dA.mono h cs _ d⟩
 | .any,x,hv=>by simp only[VR]
 | .n9 a,x,hv=>by simpa only[VR] using hv
 | .tok n,x,hv=>by simpa only[VR] using hv
theorem dA.mono {I I':dg} (h:I.le I'):∀(vs:List V) (xs:List Value),dA I vs xs->dA I' vs xs
 | [],xs,hv=>by simpa only[dA] using hv
 | c::cs,xs,hv=>by
  simp only[dA] at hv⊢;obtain⟨y,r,h1,b,h3⟩:=hv;exact⟨y,r,h1,VR.mono h c y b,dA.mono h cs r h3⟩
end
theorem dA.nil {I:dg}:dA I [] []:=by simp only[dA]
theorem dA.cons {I:dg} {v:V} {x:Value} {vs:List V} {xs:List Value} (h:VR I v x) (hs:dA I vs xs):dA I (v::vs) (x::xs):=by
 simp only[dA];grind
theorem dA.cons_inv {I:dg} {v:V} {vs:List V} {ys:List Value} (h:dA I (v::vs) ys):∃x xs,ys=x::xs/\VR I v x/\dA I vs xs:=by
 simpa only[dA] using h
theorem dA.eV {I:dg} {ys:List Value} (h:dA I [] ys):ys= []:=by simpa only[dA] using h
theorem dA.length {I:dg}:∀{vs:List V} {xs:List Value},dA I vs xs->xs.length=vs.length
 | [],xs,h=>by rw[h.eV];rfl
 | v::vs,xs,h=>by
  obtain⟨x,r,rfl,_,b⟩:=h.cons_inv;simp[b.length]
theorem dA.get {I:dg}:∀{vs:List V} {xs:List Value},dA I vs xs->∀{i:Nat} {v:V},vs[i]?=some v->∃x,xs[i]?=some x/\VR I v x
 | [],xs,h,i,v,hv=>by simp at hv
 | c::vs,xs,h,0,v,hv=>by
  obtain⟨x,r,rfl,h1,b⟩:=h.cons_inv
  simp_all
 | c::vs,xs,h,i+1,v,hv=>by
  obtain⟨x,r,rfl,h1,b⟩:=h.cons_inv;simp at hv;simpa using b.get hv
theorem dA.Jn {I:dg}:∀{vs:List V} {xs:List Value},xs.length=vs.length->(∀(i:Nat) (v:V),vs[i]?=some v->∃x,xs[i]?=some x/\VR I v x)->dA I vs xs
 | [],[],_,_=>dA.nil
 | v::vs,[],hl,_=>by simp at hl
 | [],x::xs,hl,_=>by simp at hl
 | v::vs,x::xs,hl,h=>by
  refine dA.cons ?_<|dA.Jn (by simpa using hl) fun i u hu=>?_
  ·obtain⟨y,h1,b⟩:=h 0 v Z
   simp_all
  obtain⟨y,h1,b⟩:=h (i+1) u (by simpa using hu)
  simp_all
theorem dA.append {I:dg}:∀{vs us:List V} {xs ys:List Value},dA I vs xs->dA I us ys->dA I (vs++us) (xs++ys)
 | [],us,xs,ys,h,h'=>by rw[h.eV];exact h'
 | v::vs,us,xs,ys,h,h'=>by
  obtain⟨x,r,rfl,h1,b⟩:=h.cons_inv;exact dA.cons h1<|b.append h'
theorem dA.drop {I:dg}:∀{vs:List V} {xs:List Value},dA I vs xs->∀n,dA I (vs.drop n) (xs.drop n)
 | [],xs,h,n=>by rw[h.eV];simp;exact dA.nil
 | v::vs,xs,h,0=>h
 | v::vs,xs,h,n+1=>by
  obtain⟨x,r,rfl,h1,b⟩:=h.cons_inv;simpa using b.drop n
theorem dA.take {I:dg}:∀{vs:List V} {xs:List Value},dA I vs xs->∀n,dA I (vs.take n) (xs.take n)
 | [],xs,h,n=>by rw[h.eV];simp;exact dA.nil
 | v::vs,xs,h,0=>by simpa using dA.nil
 | v::vs,xs,h,n+1=>by
  obtain⟨x,r,rfl,h1,b⟩:=h.cons_inv;simpa using dA.cons h1 (b.take n)
theorem dA.set {I:dg}:∀{vs:List V} {xs:List Value},dA I vs xs->∀(n:Nat) {v:V} {x:Value},VR I v x->dA I (vs.set n v) (xs.set n x)
 | [],xs,h,n,_,_,_=>by rw[h.eV];simp;exact dA.nil
 | v::vs,xs,h,0,_,_,hv=>by
  obtain⟨x,r,rfl,h1,b⟩:=h.cons_inv;simpa using dA.cons hv b
 | v::vs,xs,h,n+1,_,_,hv=>by
  obtain⟨x,r,rfl,h1,b⟩:=h.cons_inv;simpa using dA.cons h1 (b.set n hv)
structure fC where
 key:V
 val:V
 born:Nat
 deriving Inhabited
inductive cN where
 | row (cells:List V) (elem:Nat) (ro:Bool)
 | own (cells:List V) (elem:Nat)
 | map (es:List fC) (clock:Nat)
 | iter (s:List Nat) (pos:Nat)
 | loop (state:LoopState) (pending:Option Code) (tmps:PT V) (n:Nat) (params:List Nat) (assign body:Code) (defers:Pos)
 | mark
 | dead
 deriving Inhabited
def cN.ro:cN->Bool
 | .row _ _ ro=>ro
 | _=>false
structure N where
 next:Pos
 m:PT cN
def TR (I:dg) (t:PT V) (n:Nat) (tmps:Array Value):Prop:=
 tmps.size=n/\∀k v,t.get (posOf k)=some v->k<n/\VR I v (tmps.getD k undef)
def jH (I:dg):List fC->List MapEntry->Prop
 | [],ys=>ys= []
 | e::es,ys=>∃y r,ys=y::r/\VR I e.key y.key/\VR I e.val y.val/\y.born=e.born/\jH I es r
def gK (I:dg) (l:Loc):cN->Obj->Prop
 | .row cells elem ro,x=>∃c fr,x= .cells c elem fr/\c.size=l.sh+l.cells/\cells.length<=l.cells/\
   (∀(i:Nat) (v:V),cells[i]?=some v->∃y,c[l.sh+i]?=some y/\VR I v y)/\(ro=false->∀j,l.sh<=j->¬(fr.1<=j/\j<fr.2))
 | .own cells elem,x=>(l.sh=0/\cells.length=l.cells)/\∃c fr,x= .cells c elem fr/\c.size=l.sh+l.cells/\cells.length<=l.cells/\
   (∀(i:Nat) (v:V),cells[i]?=some v->∃y,c[l.sh+i]?=some y/\VR I v y)/\(false=false->∀j,l.sh<=j->¬(fr.1<=j/\j<fr.2))
 | .map es clock,x=>∃es',x= .map es' clock/\jH I es es'.toList
 | .iter s pos,x=>∃bs,x= .stringIter bs pos/\gy s bs
 | .loop state pending tmps n params assign body defers,x=>∃fn tmps' l',x= .loop {state,pending,fn,tmps:=tmps',params:=params.toArray,assign,body,defers:=l'.dN}/\
   I defers=some l'/\TR I tmps n tmps'
 | .mark,x=>x= .deferred (some [])
 | .dead,_=>True
theorem TR.mono {I I':dg} (h:I.le I') {t:PT V} {n:Nat} {tmps:Array Value} (b:TR I t n tmps):TR I' t n tmps:=
 ⟨b.1,fun k v hv=>⟨(b.2 k v hv).1,VR.mono h _ _ (b.2 k v hv).2⟩⟩
theorem jH.mono {I I':dg} (h:I.le I'):∀{es:List fC} {ys:List MapEntry},jH I es ys->jH I' es ys
 | [],ys,he=>he
 | e::es,ys,he=>by
  obtain⟨y,r,h1,b,h3,h4,h5⟩:=he;exact⟨y,r,h1,VR.mono h _ _ b,VR.mono h _ _ h3,h4,jH.mono h h5⟩
theorem gK.mono {I I':dg} (h:I.le I') {l:Loc}:∀{o:cN} {x:Obj},gK I l o x->gK I' l o x
 | .row cells elem ro,x,d=>by
  obtain⟨c,fr,h1,u,h3,h4,h5⟩:=d;exact⟨c,fr,h1,u,h3,fun i v hv=>let ⟨y,a,b⟩:=h4 i v hv;⟨y,a,VR.mono h _ _ b⟩,h5⟩
 | .own cells elem,x,d=>by
  obtain⟨h0,c,fr,h1,u,h3,h4,h5⟩:=d;exact⟨h0,c,fr,h1,u,h3,fun i v hv=>let ⟨y,a,b⟩:=h4 i v hv;⟨y,a,VR.mono h _ _ b⟩,h5⟩
 | .map es clock,x,d=>let ⟨es',h1,u⟩:=d;⟨es',h1,jH.mono h u⟩
 | .iter s pos,x,d=>d
 | .loop ..,x,d=>let ⟨fn,tmps',l',h1,u,h3⟩:=d;⟨fn,tmps',l',h1,h _ _ u,TR.mono h h3⟩
 | .mark,x,d=>d
 | .dead,x,d=>d
structure zy (I:dg) (O:N) (w:World):Prop where
 fresh:∀b:Pos,O.next.num<=b.num->I b=none/\O.m.get b=none
 dN:∀b l,I b=some l->l.dN<w.heap.size
 obj:∀b o l,O.m.get b=some o->I b=some l->∃x,w.heap[l.dN]?=some x/\gK I l o x
 inj:∀b b' o o' l l',O.m.get b=some o->O.m.get b'=some o'->I b=some l->I b'=some l'->l.dN=l'.dN->b≠b'->o.ro=true/\o'.ro=true
def Wr (I:dg) (O:N) (r:Nat):Prop:=∃b o l,O.m.get b=some o/\o.ro=false/\I b=some l/\l.dN=r
structure Old (I:dg) (O:N) (w:World):Prop where
 size:Env.n0<=w.heap.size
 same:∀r:Nat,r<Env.n0->w.heap[r]?=Env.h0[r]?
 no:∀r:Nat,r<Env.n0->¬Wr I O r
def HX (w:World):Prop:=Env.n0<=w.heap.size/\∀r:Nat,r<Env.n0->w.heap[r]?=Env.h0[r]?
structure Inv (I:dg) (O:N) (w:World):Prop extends zy I O w where
 rB:Old I O w
structure eY (I:dg) (O:N) (w:World) (I':dg) (O':N) (w':World):Prop where
 ext:∀b:Pos,b.num<O.next.num->I' b=I b
 next:O.next.num<=O'.next.num
 size:w.heap.size<=w'.heap.size
 frame:∀r:Nat,r<w.heap.size->¬Wr I O r->w'.heap[r]?=w.heap[r]?
 wr:∀r:Nat,Wr I' O' r->r<w.heap.size->Wr I O r
 tape:w'.tape=w.tape
 os:w'.os=w.os
 out:w'.output=w.output
theorem eY.refl (I:dg) (O:N) (w:World):eY I O w I O w:=
 ⟨fun _ _=>Z,nR_ _,nR_ _,fun _ _ _=>Z,fun _ h _=>h,Z,Z,Z⟩
theorem eY.trans {I ρ₁ ρ₂:dg} {O σ₁ σ₂:N} {w w₁ w₂:World} (h:eY I O w ρ₁ σ₁ w₁) (h':eY ρ₁ σ₁ w₁ ρ₂ σ₂ w₂):eY I O w ρ₂ σ₂ w₂ where
 ext b hb:=(h'.ext b<|Nat.lt_of_lt_of_le hb h.next).trans (h.ext b hb)
 next:=Nat.le_trans h.next h'.next
 size:=Nat.le_trans h.size h'.size
 frame r hr hn:=(h'.frame r (Nat.lt_of_lt_of_le hr h.size) (fun hw=>hn (h.wr r hw hr))).trans (h.frame r hr hn)
 wr r hw hr:=h.wr r (h'.wr r hw<|Nat.lt_of_lt_of_le hr h.size) hr
 tape:=h'.tape.trans h.tape
 os:=h'.os.trans h.os
 out:=h'.out.trans h.out
theorem Old.of {I I':dg} {O O':N} {w w':World} (h:Old I O w) (st:eY I O w I' O' w'):Old I' O' w' where
 size:=Nat.le_trans h.size st.size
 same r hr:=(st.frame r (Nat.lt_of_lt_of_le hr h.size)<|h.no r hr).trans (h.same r hr)
 no r hr hw:=h.no r hr (st.wr r hw<|Nat.lt_of_lt_of_le hr h.size)
theorem Inv.of {I I':dg} {O O':N} {w w':World} (h:Inv I O w) (h':zy I' O' w'/\eY I O w I' O' w'):Inv I' O' w'/\eY I O w I' O' w':=⟨⟨h'.1,h.rB.of h'.2⟩,h'.2⟩
theorem Inv.Eo {I:dg} {O:N} {w:World} (h:Inv I O w) {b:Pos} {l:Loc} (hb:I b=some l):b.num<O.next.num:=by
 rcases Nat.lt_or_ge b.num O.next.num with h' | h'
 ·exact h'
 rw[(h.fresh b h').1] at hb;cases hb
theorem eY.le {I I':dg} {O O':N} {w w':World} (hi:Inv I O w) (h:eY I O w I' O' w'):I.le I':=fun b l hb=>by
 rw[h.ext b<|hi.Eo hb];exact hb
end Go.Ev
namespace Go.Ev
variable [Env]
section
variable {I:dg} {O:N} {w:World}
theorem Addr.add_eq (a:Addr) (n:Nat) (h:a.spot=none):a.add n=⟨a.block,a.off+n,none⟩:=by
 unfold Addr.add;split
 ·rename_i h0;subst h0;cases a;simp_all
 rfl
theorem cell?_of_heap {w:World} {r:Nat} {c:Array Value} {e:Nat} {fr:Nat×Nat} (h:w.heap[r]?=some (.cells c e fr)) (i:Nat):w.cell? ⟨r,i,none⟩=c[i]?:=by
 simp[World.cell?,h]
theorem frozen?_of_heap {w:World} {r:Nat} {c:Array Value} {e:Nat} {fr:Nat×Nat} (h:w.heap[r]?=some (.cells c e fr)) (i:Nat) (hn:¬(fr.1<=i/\i<fr.2)):w.frozen? ⟨r,i,none⟩=false:=by
 grind [World.frozen?]
theorem heap_setCell_same {w:World} {r:Nat} {c:Array Value} {e:Nat} {fr:Nat×Nat} (h:w.heap[r]?=some (.cells c e fr)) (i:Nat) (v:Value):
  (w.setCell ⟨r,i,none⟩ v).heap[r]?=some (.cells (c.setIfInBounds i v) e fr):=by
 simp[World.setCell,Array.getElem?_modify,h]
theorem heap_setCell_other (w:World) {r:Nat} (a:Addr) (v:Value) (h:r≠a.block):(w.setCell a v).heap[r]?=w.heap[r]?:=by
 simp[World.setCell,Array.getElem?_modify,Ne.symm h]
theorem Inv.row (hi:Inv I O w) {b:Pos} {l:Loc} {cells:List V} {e:Nat} {ro:Bool} (d:O.m.get b=some (.row cells e ro)) (hl:I b=some l):
  ∃(c:Array Value) (fr:Nat×Nat),w.heap[l.dN]?=some (.cells c e fr)/\c.size=l.sh+l.cells/\cells.length<=l.cells/\
   (∀(i:Nat) (v:V),cells[i]?=some v->∃y,c[l.sh+i]?=some y/\VR I v y)/\(ro=false->∀j,l.sh<=j->¬(fr.1<=j/\j<fr.2)):=by
 obtain⟨x,hx,c,fr,rfl,h2,h3,h4,h5⟩:=hi.obj b _ l d hl
 grind
theorem Inv.cell (hi:Inv I O w) {b:Pos} {l:Loc} {cells:List V} {e:Nat} {ro:Bool} (d:O.m.get b=some (.row cells e ro)) (hl:I b=some l)
  {i:Nat} {v:V} (hv:cells[i]?=some v):∃y,w.cell? ⟨l.dN,l.sh+i,none⟩=some y/\VR I v y:=by
 obtain⟨c,fr,h1,_,_,h4,_⟩:=hi.row d hl
 grind [cell?_of_heap]
theorem Inv.drew (hi:Inv I O w):Inv I O w.drew:=⟨⟨hi.fresh,hi.dN,hi.obj,hi.inj⟩,⟨hi.rB.size,hi.rB.same,hi.rB.no⟩⟩
theorem eY.drew (I:dg) (O:N) (w:World):eY I O w I O w.drew:=
 ⟨fun _ _=>Z,nR_ _,nR_ _,fun _ _ _=>Z,fun _ h _=>h,Z,Z,Z⟩
def N.alloc (O:N) (o:cN):N:={next:=O.next.succ,m:=O.m.put (some o) O.next}
def dg.with (I:dg) (b:Pos) (l:Loc):dg:=fun b'=>if b'=b then some l else I b'
theorem dg.cV (I:dg) (b:Pos) (l:Loc):I.with b l b=some l:=by simp[dg.with]
theorem dg.dV (I:dg) {b b':Pos} (l:Loc) (h:b'≠b):I.with b l b'=I b':=by simp[dg.with,h]
theorem Inv.vN (hi:Inv I O w) (l:Loc):I.le (I.with O.next l):=fun b l' hb=>by
 rw[dg.dV]; · exact hb
 intro e;subst e;rw[(hi.fresh _<|nR_ _).1] at hb;cases hb
theorem heap_alloc_old (w:World) (x:Obj) {r:Nat} (h:r<w.heap.size):(w.alloc x).heap[r]?=w.heap[r]?:=by
 show(w.heap.push x)[r]?=_
 grind
theorem heap_alloc_new (w:World) (x:Obj):(w.alloc x).heap[w.heap.size]?=some x:=by
 show(w.heap.push x)[w.heap.size]?=_;simp
theorem Inv.Dm (hi:Inv I O w) {o:cN} {x:Obj} {l:Loc} (hl:l.dN=w.heap.size) (K:gK I l o x):
  zy (I.with O.next l) (O.alloc o) (w.alloc x)/\eY I O w (I.with O.next l) (O.alloc o) (w.alloc x):=by
 have hle:=hi.vN l;have u:∀b l',b≠O.next->(I.with O.next l) b=some l'->I b=some l':=fun b l' hb h=>by rwa[dg.dV I l hb] at h
 have z:∀b,b≠O.next->(O.alloc o).m.get b=O.m.get b:=fun b hb=>PT.dB _ _ _ _ hb
 have A:(O.alloc o).m.get O.next=some o:=PT.dE _ _ _;have G:∀b:Pos,b.num<O.next.num->b≠O.next:=fun b hb e=>by simp_all
 constructor
 ·refine⟨fun b hb=>?_,fun b l' hb=>?_,fun b o' l' hb B=>?_,fun b b' o₁ o₂ l₁ l₂ h1 C h3 h4 h5 L=>?_⟩
  ·have aa:O.next.num+1<=b.num:=by simpa [N.alloc,Pos.iu] using hb
   have d:b≠O.next:=fun e=>by subst e;omega
   rw[dg.dV I l d,z b d];exact hi.fresh b oM
  ·simp only[World.size_alloc]
   by_cases d:b=O.next
   ·subst d;rw[dg.cV] at hb;cases hb;omega
   have:=hi.dN b l' (u b l' d hb);omega
  ·by_cases d:b=O.next
   ·subst d;rw[dg.cV] at B;rw[A] at hb;cases hb;cases B;exact⟨x,by rw[hl];exact heap_alloc_new w x,K.mono hle⟩
   rw[z b d] at hb;have h':=u b l' d B;obtain⟨y,hy,E⟩:=hi.obj b o' l' hb h';exact⟨y,by rw[heap_alloc_old w x<|hi.dN b l' h'];exact hy,E.mono hle⟩
  by_cases e1:b=O.next<;>by_cases F:b'=O.next
  ·simp_all
  ·subst e1;rw[dg.cV] at h3;cases h3;have:=hi.dN b' l₂ (u b' l₂ F h4);omega
  ·subst F;rw[dg.cV] at h4;cases h4;have:=hi.dN b l₁ (u b l₁ e1 h3);omega
  rw[z b e1] at h1;rw[z b' F] at C;exact hi.inj b b' o₁ o₂ l₁ l₂ h1 C (u b l₁ e1 h3) (u b' l₂ F h4) h5 L
 refine⟨fun b hb=>dg.dV I l (G b hb),by simp[N.alloc,Pos.iu],by simp,fun r E _=>heap_alloc_old w x E,?_,Z,Z,Z⟩;rintro r ⟨b,o',l',h1,C,h3,rfl⟩ E
 by_cases d:b=O.next
 ·subst d;rw[dg.cV] at h3;cases h3;omega
 rw[z b d] at h1;exact⟨b,o',l',h1,C,u b l' d h3,Z⟩
theorem Inv.alloc (hi:Inv I O w) {o:cN} {x:Obj} {l:Loc} (hl:l.dN=w.heap.size) (b:gK I l o x):
  Inv (I.with O.next l) (O.alloc o) (w.alloc x)/\eY I O w (I.with O.next l) (O.alloc o) (w.alloc x):=hi.of (hi.Dm hl b)
def N.setObj (O:N) (b:Pos) (o:cN):N:={O with m:=O.m.put (some o) b}
theorem Inv.BI (hi:Inv I O w) {b:Pos} {l:Loc} {o o':cN} {x:Obj} {w':World} (hb:O.m.get b=some o) (hl:I b=some l) (F:o.ro=false) (ab:o'.ro=false)
  (hw:w'.heap[l.dN]?=some x) (ho:gK I l o' x) (d:∀r,r≠l.dN->w'.heap[r]?=w.heap[r]?) (u:w'.heap.size=w.heap.size)
  (z:w'.tape=w.tape) (G:w'.os=w.os) (B:w'.output=w.output):
  zy I (O.setObj b o') w'/\eY I O w I (O.setObj b o') w':=by
 have C:∀b',b'≠b->(O.setObj b o').m.get b'=O.m.get b':=fun b' h=>PT.dB _ _ _ _ h
 have aa:(O.setObj b o').m.get b=some o':=PT.dE _ _ _
 have back:∀b₁ o₁,(O.setObj b o').m.get b₁=some o₁->∃o₂,O.m.get b₁=some o₂/\(o₁.ro=true↔o₂.ro=true):=fun b₁ o₁ h=>by
  grind
 constructor
 ·refine⟨fun b' K=>?_,fun b' l' L=>by rw[u];exact hi.dN b' l' L,fun b' o₁ l₁ h1 E=>?_,fun b₁ b₂ o₁ o₂ l₁ l₂ h1 E h3 h4 h5 W=>?_⟩
  ·have hf:=hi.fresh b' K
   grind
  ·by_cases e:b'=b
   ·simp_all
   rw[C b' e] at h1;obtain⟨y,hy,T⟩:=hi.obj b' o₁ l₁ h1 E
   have ac:l₁.dN≠l.dN:=fun M=>by
    have:=hi.inj b' b o₁ o l₁ l h1 hb E hl M e
    simp_all
   simp_all
  obtain⟨o₁',A,Q⟩:=back b₁ o₁ h1;obtain⟨R,S,am⟩:=back b₂ o₂ E;have:=hi.inj b₁ b₂ o₁' R l₁ l₂ A S h3 h4 h5 W
  simp_all
 refine⟨fun _ _=>Z,nR_ _,by omega,fun r T X=>d r (fun e=>X ⟨b,o,l,hb,F,hl,e.symm⟩),?_,z,G,B⟩;rintro r ⟨b₁,o₁,l₁,h1,E,h3,rfl⟩ T;obtain⟨o₁',A,Q⟩:=back b₁ o₁ h1;refine⟨b₁,o₁',l₁,A,?_,h3,Z⟩
 simp_all
theorem Inv.change (hi:Inv I O w) {b:Pos} {l:Loc} {o o':cN} {x:Obj} {w':World} (hb:O.m.get b=some o) (hl:I b=some l) (C:o.ro=false) (A:o'.ro=false)
  (hw:w'.heap[l.dN]?=some x) (F:gK I l o' x) (d:∀r,r≠l.dN->w'.heap[r]?=w.heap[r]?) (u:w'.heap.size=w.heap.size)
  (z:w'.tape=w.tape) (E:w'.os=w.os) (B:w'.output=w.output):
  Inv I (O.setObj b o') w'/\eY I O w I (O.setObj b o') w':=hi.of (hi.BI hb hl C A hw F d u z E B)
theorem Inv.zN (hi:Inv I O w) {b:Pos} {l:Loc} {o o':cN} {x:Obj} {w':World} (hb:O.m.get b=some o) (hl:I b=some l) (C:o.ro=false)
  (hw:w'.heap[l.dN]?=some x) (ho:gK I l o' x) (u:∀r,r≠l.dN->w'.heap[r]?=w.heap[r]?) (A:w'.heap.size=w.heap.size)
  (B:w'.tape=w.tape) (F:w'.os=w.os) (E:w'.output=w.output):
  zy I (O.setObj b o') w'/\eY I O w I (O.setObj b o') w':=by
 have d:∀b',b'≠b->(O.setObj b o').m.get b'=O.m.get b':=fun b' h=>PT.dB _ _ _ _ h
 have aa:(O.setObj b o').m.get b=some o':=PT.dE _ _ _
 have apart:∀b' o₁ l₁,b'≠b->O.m.get b'=some o₁->I b'=some l₁->l₁.dN≠l.dN:=fun b' o₁ l₁ e h1 z G=>by
  have:=hi.inj b' b o₁ o l₁ l h1 hb z hl G e
  simp_all
 constructor
 ·refine⟨fun b' K=>?_,fun b' l' L=>by rw[A];exact hi.dN b' l' L,fun b' o₁ l₁ h1 z=>?_,fun b₁ b₂ o₁ o₂ l₁ l₂ h1 z h3 h4 h5 Q=>?_⟩
  ·have hf:=hi.fresh b' K
   grind
  ·by_cases e:b'=b
   ·simp_all
   rw[d b' e] at h1;obtain⟨y,hy,M⟩:=hi.obj b' o₁ l₁ h1 z
   grind
  by_cases e1:b₁=b<;>by_cases R:b₂=b
  ·simp_all
  ·grind
  ·grind
  rw[d b₁ e1] at h1;rw[d b₂ R] at z;exact hi.inj b₁ b₂ o₁ o₂ l₁ l₂ h1 z h3 h4 h5 Q
 refine⟨fun _ _=>Z,nR_ _,by omega,fun r M S=>u r (fun e=>S ⟨b,o,l,hb,C,hl,e.symm⟩),?_,B,F,E⟩;rintro r ⟨b₁,o₁,l₁,h1,z,h3,rfl⟩ M
 by_cases e:b₁=b
 ·subst e;exact⟨b₁,o,l₁,hb,C,h3,Z⟩
 rw[d b₁ e] at h1;exact⟨b₁,o₁,l₁,h1,z,h3,Z⟩
theorem Inv.Fl (hi:Inv I O w) {b:Pos} {l:Loc} {o o':cN} {x:Obj} {w':World} (hb:O.m.get b=some o) (hl:I b=some l) (B:o.ro=false)
  (hw:w'.heap[l.dN]?=some x) (E:gK I l o' x) (d:∀r,r≠l.dN->w'.heap[r]?=w.heap[r]?) (u:w'.heap.size=w.heap.size)
  (z:w'.tape=w.tape) (C:w'.os=w.os) (A:w'.output=w.output):
  Inv I (O.setObj b o') w'/\eY I O w I (O.setObj b o') w':=hi.of (hi.zN hb hl B hw E d u z C A)
theorem Inv.JM (hi:Inv I O w) {b:Pos} {l:Loc} {o o':cN} (hb:O.m.get b=some o) (hl:I b=some l) (d:o.ro=false) (u:∀x,gK I l o x->gK I l o' x):
  Inv I (O.setObj b o') w/\eY I O w I (O.setObj b o') w:=by
 obtain⟨x,hx,z⟩:=hi.obj b o l hb hl;exact hi.Fl hb hl d hx (u x z) (fun _ _=>Z) Z Z Z Z
theorem gK.FR {l:Loc} {cells:List V} {e:Nat} {x:Obj} (h:gK I l (.own cells e) x):(l.sh=0/\cells.length=l.cells)/\gK I l (.row cells e false) x:=⟨h.1,h.2⟩
theorem gK.F7 {l:Loc} {cells:List V} {e:Nat} {x:Obj} (h0:l.sh=0/\cells.length=l.cells) (h:gK I l (.row cells e false) x):gK I l (.own cells e) x:=⟨h0,h⟩
theorem Inv.own (hi:Inv I O w) {b:Pos} {l:Loc} {cells:List V} {e:Nat} (hb:O.m.get b=some (.own cells e)) (hl:I b=some l):
  (l.sh=0/\cells.length=l.cells)/\Inv I (O.setObj b (.row cells e false)) w/\eY I O w I (O.setObj b (.row cells e false)) w:=by
 obtain⟨x,hx,d⟩:=hi.obj b _ l hb hl;exact⟨d.FR.1,hi.JM hb hl Z fun x hx=>hx.FR.2⟩
theorem Inv.setCell (hi:Inv I O w) {b:Pos} {l:Loc} {cells:List V} {e i:Nat} {v:V} {y:Value} (hb:O.m.get b=some (.row cells e false)) (hl:I b=some l)
  (aa:i<cells.length) (hv:VR I v y):
  Inv I (O.setObj b (.row (cells.set i v) e false)) (w.setCell ⟨l.dN,l.sh+i,none⟩ y)/\eY I O w I (O.setObj b (.row (cells.set i v) e false)) (w.setCell ⟨l.dN,l.sh+i,none⟩ y):=by
 obtain⟨c,fr,h1,d,h3,h4,h5⟩:=hi.row hb hl
 refine hi.change hb hl Z Z (heap_setCell_same h1 (l.sh+i) y) ⟨_,fr,Z,by simpa using d,by simpa using h3,fun j u hu=>?_,fun _=>h5 Z⟩
  (fun r z=>heap_setCell_other w _ _ z) (by simp) Z Z Z
 grind
def N.drop (O:N) (b:Pos):N:={O with m:=O.m.put none b}
theorem Inv.CA (hi:Inv I O w) {b:Pos} {l l':Loc} {cells cells':List V} {e:Nat} {x:Obj} {w':World} (hb:O.m.get b=some (.row cells e false)) (hl:I b=some l)
  (B:l'.dN=l.dN) (hw:w'.heap[l.dN]?=some x) (ho:gK I l' (.row cells' e false) x) (z:∀r,r≠l.dN->w'.heap[r]?=w.heap[r]?) (C:w'.heap.size=w.heap.size)
  (E:w'.tape=w.tape) (Q:w'.os=w.os) (L:w'.output=w.output):
  zy (I.with O.next l') ((O.drop b).alloc (.row cells' e false)) w'/\eY I O w (I.with O.next l') ((O.drop b).alloc (.row cells' e false)) w':=by
 have hle:=hi.vN l';have d:∀b l'',b≠O.next->(I.with O.next l') b=some l''->I b=some l'':=fun b l'' hb h=>by rwa[dg.dV I l' hb] at h
 have ac:b≠O.next:=fun e=>by subst e;rw[(hi.fresh _<|nR_ _).1] at hl;cases hl
 have R:∀b:Pos,b.num<O.next.num->b≠O.next:=fun b hb e=>by simp_all
 have F:((O.drop b).alloc (.row cells' e false)).m.get O.next=some (.row cells' e false):=PT.dE _ _ _
 have aa:∀b',b'≠O.next->((O.drop b).alloc (.row cells' e false)).m.get b'=if b'=b then none else O.m.get b':=fun b' h=>by
  show((O.m.put none b).put _ O.next).get b'=_;rw[PT.dB _ _ _ _ h,PT.lF]
 have rB:∀b' o',b'≠O.next->((O.drop b).alloc (.row cells' e false)).m.get b'=some o'->b'≠b/\O.m.get b'=some o':=fun b' o' W h=>by
  simp_all
 have apart:∀b' o' l'',b'≠b->O.m.get b'=some o'->I b'=some l''->l''.dN≠l.dN:=fun b' o' l'' G h1 A S=>by
  have:=hi.inj b' b o' _ l'' l h1 hb A hl S G;exact absurd this.2 (by simp[cN.ro])
 constructor
 ·refine⟨fun b' K=>?_,fun b' l'' M=>?_,fun b' o₁ l₁ h1 A=>?_,fun b₁ b₂ o₁ o₂ l₁ l₂ h1 A h3 h4 h5 h6=>?_⟩
  ·have ab:O.next.num+1<=b'.num:=by simpa [N.alloc,N.drop,Pos.iu] using K
   have G:b'≠O.next:=fun e=>by subst e;omega
   have hf:=hi.fresh b' oM
   grind [dg.dV]
  ·rw[C]
   by_cases e1:b'=O.next
   ·grind [dg.cV]
   exact hi.dN b' l''<|d b' l'' e1 M
  ·by_cases e1:b'=O.next
   ·subst e1;rw[F] at h1;rw[dg.cV] at A;cases h1;cases A;exact⟨x,by rw[B];exact hw,ho.mono hle⟩
   obtain⟨G,u⟩:=rB b' o₁ e1 h1;have h2':=d b' l₁ e1 A;obtain⟨y,hy,T⟩:=hi.obj b' o₁ l₁ u h2';exact⟨y,by grind,T.mono hle⟩
  by_cases e1:b₁=O.next<;>by_cases X:b₂=O.next
  ·simp_all
  ·grind [dg.cV]
  ·grind [dg.cV]
  obtain⟨_,u⟩:=rB b₁ o₁ e1 h1;obtain⟨_,h2'⟩:=rB b₂ o₂ X A;exact hi.inj b₁ b₂ o₁ o₂ l₁ l₂ u h2' (d b₁ l₁ e1 h3) (d b₂ l₂ X h4) h5 h6
 refine⟨fun b' K=>dg.dV I l' (R b' K),by simp[N.alloc,N.drop,Pos.iu],by omega,
  fun r T W=>z r (fun e'=>W ⟨b,_,l,hb,Z,hl,e'.symm⟩),?_,E,Q,L⟩
 rintro r ⟨b₁,o₁,l₁,h1,A,h3,rfl⟩ T
 by_cases e1:b₁=O.next
 ·subst e1;rw[dg.cV] at h3;cases h3;exact⟨b,_,l,hb,Z,hl,B.symm⟩
 obtain⟨_,u⟩:=rB b₁ o₁ e1 h1;exact⟨b₁,o₁,l₁,u,A,d b₁ l₁ e1 h3,Z⟩
theorem Inv.xr (hi:Inv I O w) {b:Pos} {l l':Loc} {cells cells':List V} {e:Nat} {x:Obj} {w':World} (hb:O.m.get b=some (.row cells e false)) (hl:I b=some l)
  (A:l'.dN=l.dN) (hw:w'.heap[l.dN]?=some x) (E:gK I l' (.row cells' e false) x) (d:∀r,r≠l.dN->w'.heap[r]?=w.heap[r]?) (u:w'.heap.size=w.heap.size)
  (z:w'.tape=w.tape) (C:w'.os=w.os) (B:w'.output=w.output):
  Inv (I.with O.next l') ((O.drop b).alloc (.row cells' e false)) w'/\eY I O w (I.with O.next l') ((O.drop b).alloc (.row cells' e false)) w':=hi.of (hi.CA hb hl A hw E d u z C B)
theorem Inv.BY (hi:Inv I O w) (b:Pos):zy I (O.drop b) w/\eY I O w I (O.drop b) w:=by
 have rB:∀b' o',(O.drop b).m.get b'=some o'->O.m.get b'=some o':=fun b' o' h=>by
  have h':(O.m.put none b).get b'=some o':=h
  grind [PT.lF]
 constructor
 ·refine⟨fun b' d=>⟨(hi.fresh b' d).1,?_⟩,hi.dN,fun b' o l h1 u=>hi.obj b' o l (rB b' o h1) u,fun b₁ b₂ o₁ o₂ l₁ l₂ h1 u=>hi.inj b₁ b₂ o₁ o₂ l₁ l₂ (rB b₁ o₁ h1) (rB b₂ o₂ u)⟩;show(O.m.put none b).get b'=none;rw[PT.lF];split
  ·rfl
  exact(hi.fresh b' d).2
 refine⟨fun _ _=>Z,nR_ _,nR_ _,fun _ _ _=>Z,?_,Z,Z,Z⟩;rintro r ⟨b₁,o₁,l₁,h1,u,h3,rfl⟩ hr;exact⟨b₁,o₁,l₁,rB b₁ o₁ h1,u,h3,Z⟩
theorem Inv.forget (hi:Inv I O w) (b:Pos):Inv I (O.drop b) w/\eY I O w I (O.drop b) w:=hi.of (hi.BY b)
end
def Mq (k:IntKind) (n:Int):Bool:=
 match k,n with
 | .i8,.ofNat a=>Nat.ble a 127 | .i8,.negSucc a=>Nat.ble a 127
 | .i16,.ofNat a=>Nat.ble a 32767 | .i16,.negSucc a=>Nat.ble a 32767
 | .i32,.ofNat a=>Nat.ble a 2147483647 | .i32,.negSucc a=>Nat.ble a 2147483647
 | .i64,.ofNat a=>Nat.ble a 9223372036854775807 | .i64,.negSucc a=>Nat.ble a 9223372036854775807
 | .u8,.ofNat a=>Nat.ble a 255 | .u16,.ofNat a=>Nat.ble a 65535
 | .u32,.ofNat a=>Nat.ble a 4294967295 | .u64,.ofNat a=>Nat.ble a 18446744073709551615
 | _,_=>false
def wr (k:IntKind) (n:Int):Int:=bif Mq k n then n else k.wrap n
def cq (x y:Int):Bool:=
 match x,y with
 | .ofNat a,.ofNat b=>Nat.ble (Nat.succ a) b
 | .negSucc _,.ofNat _=>true
 | .ofNat _,.negSucc _=>false
 | .negSucc a,.negSucc b=>Nat.ble (Nat.succ b) a
def H (x y:Int):Bool:=
 match x,y with
 | .ofNat a,.ofNat b=>Nat.beq a b
 | .negSucc a,.negSucc b=>Nat.beq a b
 | _,_=>false
def uE (s t:List Nat):Bool:=
 List.rec (motive:=fun _=>List Nat->Bool) (fun t=>List.rec (motive:=fun _=>Bool) true (fun _ _ _=>false) t)
  (fun x _ ih t=>List.rec (motive:=fun _=>Bool) false (fun y u _=>bif Nat.beq x y then ih u else false) t) s t
def KD (s t:List Nat):Bool:=
 List.rec (motive:=fun _=>List Nat->Bool) (fun t=>List.rec (motive:=fun _=>Bool) false (fun _ _ _=>true) t)
  (fun x _ ih t=>List.rec (motive:=fun _=>Bool) false (fun y u _=>bif Nat.ble (Nat.succ x) y then true else bif Nat.beq x y then ih u else false) t) s t
def sy:IntKind->IntKind->Bool
 | .i8,.i8 | .i16,.i16 | .i32,.i32 | .i64,.i64 | .u8,.u8 | .u16,.u16 | .u32,.u32 | .u64,.u64=>true
 | _,_=>false
def kb:Value->Option V
 | .bool b=>some (.bool b)
 | .int k n=>some (.int k n)
 | .string s=>some (.str<|s.data.toList.map UInt8.toNat)
 | .pointer none=>some .nilPtr
 | .slice none 0 0=>some .av
 | .map none=>some .ig
 | .nilFunc=>some .nilFunc
 | .nilIface=>some .nilIface
 | _=>none
def pP:Value->Option V
 | .agg cs=>(cQ kb cs.toList).map .agg
 | .tuple cs=>(cQ kb cs.toList).map .tuple
 | v=>kb v
def uH (P:Program) (t:TypeId):Option TypeInfo:=
 match nth P.types.toList t with
 | some i=>some i
 | none=>P.info? t
def oO (P:Program) (t:TypeId):Option TypeDesc:=
 match uH P t with
 | some {desc:=.named _ u,..}=>(uH P u).map (·.desc)
 | some i=>some i.desc
 | none=>none
theorem pJ (P:Program) (t:TypeId):uH P t=P.info? t:=by
 unfold uH;rw[eU,aT_];cases h:P.types[t]? with
 | none=>rfl
 | some i=>
  have hlt:=(aS_.1 h).1;unfold Tables.info?;rw[if_pos hlt,h]
theorem nW (P:Program) (t:TypeId):oO P t=P.underlying t:=by
 grind [oO,Program.underlying,pJ]
def dT (P:Program) (t:TypeId):Option (Option Nat):=
 match oO P t with
 | some (.struct _) | some (.array _ _)=>some (some (((uH P t).map (·.size)).getD 0))
 | some _=>some none
 | none=>none
theorem Bq (P:Program) (t:TypeId):dT P t=match P.underlying t with
 | some (.struct _) | some (.array _ _)=>some (some<|P.cellsOf t)
 | some _=>some none
 | none=>none:=by
 unfold dT;rw[nW,pJ];rfl
def df:V->Option (List V)
 | .agg cs=>some cs
 | .tuple _=>none
 | .any=>none
 | v=>some [v]
def lh:V->Bool
 | .agg _ | .tuple _ | .any=>false
 | _=>true
def cE (l:List V):Bool:=List.rec (motive:=fun _=>Bool) true (fun v _ r=>bif lh v then r else false) l
def lI (cs l:List V):List V:=
 List.rec (motive:=fun _=>List V->List V) (fun l=>l) (fun c _ ih l=>List.rec (motive:=fun _=>List V) [] (fun _ l _=>c::ih l) l) cs l
def dM (cs l:List V) (off:Nat):List V:=
 List.rec (motive:=fun _=>Nat->List V) (fun _=>[]) (fun x l ih off=>Nat.rec (motive:=fun _=>List V) (lI cs (x::l)) (fun m _=>x::ih m) off) l off
def FU (P:Program) (t:TypeId) (cs:List V) (off:Nat):Option V:=
 match dT P t with
 | some (some n)=>some (.agg<|takeN (dU cs off) n)
 | some none=>nth cs off
 | none=>none
def jM (place:Nat->Option (Nat×Nat)) (ev:Operand->Option V) (parts:List (Nat×Operand)) (cells:List V):Option (List V):=
 List.rec (motive:=fun _=>List V->Option (List V)) (fun cells=>some cells)
  (fun p _ ih cells=>
   match place p.1,(ev p.2).bind df with
   | some (off,size),some vs=>bif Nat.beq (dn vs) size && Nat.ble (off+size) (dn cells) then ih (dM vs cells off) else none
   | _,_=>none) parts cells
def fw (P:Program) (t:TypeId):Option V:=(P.info? t).bind fun i=>i.zero.bind pP
def fl (cs:List V) (n:Nat):List V:=Nat.rec (motive:=fun _=>List V) [] (fun _ r=>gE cs r) n
def structOf (P:Program) (t:TypeId):Option (Array Field):=
 match oO P t with
 | some (.struct fs)=>some fs
 | _=>none
def r4:V->V->Option Bool
 | .bool a,.bool b=>some (bif a then b else(bif b then false else true))
 | .int j a,.int k b=>bif sy j k then some (H a b) else none
 | .str a,.str b=>some (uE a b)
 | _,_=>none
def iO (P:Program) (fs:List Field) (xs ys:List V):Option Bool:=
 List.rec (motive:=fun _=>Option Bool) (some true)
  (fun f _ ih=>
   match P.underlying f.type,nth xs f.offset,nth ys f.offset with
   | some .bool,some (.bool a),some (.bool b)=>bif (bif a then b else(bif b then false else true)) then ih else some false
   | some (.int _),some (.int j a),some (.int k b)=>bif sy j k then(bif H a b then ih else some false) else none
   | some .string,some (.str a),some (.str b)=>bif uE a b then ih else some false
   | _,_,_=>none) fs
def lH (fs:List Field):Bool:=List.rec (motive:=fun _=>Bool) true (fun f _ r=>bif f.name == "_" then false else r) fs
def wj (xs ys:List V):Option Bool:=
 List.rec (motive:=fun _=>List V->Option Bool) (fun ys=>match ys with | []=>some true | _=>none)
  (fun x _ ih ys=>match x,ys with
   | .int j a,.int k b::r=>bif sy j k then(bif H a b then ih r else some false) else none
   | _,_=>none) xs ys
def r8 (P:Program) (e:TypeId):Bool:=
 match P.underlying e,P.info? e with
 | some (.int _),some i=>Nat.beq i.size 1
 | _,_=>false
def eqFields (P:Program) (fs:List Field) (xs ys:List V):Option Bool:=
 List.rec (motive:=fun _=>Option Bool) (some true)
  (fun f _ ih=>
   match P.underlying f.type,nth xs f.offset,nth ys f.offset with
   | some .bool,some (.bool a),some (.bool b)=>bif (bif a then b else(bif b then false else true)) then ih else some false
   | some (.int _),some (.int j a),some (.int k b)=>bif sy j k then(bif H a b then ih else some false) else none
   | some .string,some (.str a),some (.str b)=>bif uE a b then ih else some false
   | some (.struct gs),_,_=>bif P.stoodInHeld f.type || !lH gs.toList then none else match dT P f.type with
    | some (some n)=>match iO P gs.toList (takeN (dU xs f.offset) n) (takeN (dU ys f.offset) n) with
     | some true=>ih
     | some false=>some false
     | none=>none
    | _=>none
   | some (.array m e),_,_=>bif r8 P e then(match dT P f.type with
    | some (some n)=>bif Nat.beq n m && (Nat.beq (dn<|takeN (dU xs f.offset) n) m && Nat.beq (dn<|takeN (dU ys f.offset) n) m) then(match wj (takeN (dU xs f.offset) n) (takeN (dU ys f.offset) n) with
     | some true=>ih
     | some false=>some false
     | none=>none) else none
    | _=>none) else none
   | _,_,_=>none) fs
def DK (P:Program) (t:TypeId) (x y:V):Option Bool:=
 match x,y with
 | .agg xs,.agg ys=>
  match structOf P t with
  | some fs=>bif P.eqGuardType P.depth t || P.stoodInHeld t || !lH fs.toList then none else eqFields P fs.toList xs ys
  | none=>none
 | .nilPtr,.nilPtr=>match P.underlying t with | some (.pointer _)=>some true | _=>none
 | .ptr _ _,.nilPtr | .nilPtr,.ptr _ _=>match P.underlying t with | some (.pointer _)=>some false | _=>none
 | .ptr b o,.ptr b' o'=>match P.underlying t with | some (.pointer u)=>bif Nat.beq b b' && (Nat.beq o o' && (P.info? u).isSome) then some true else none | _=>none
 | .nilIface,.iface _ _ | .iface _ _,.nilIface=>match P.underlying t with | some (.interface _)=>some false | _=>none
 | .av,.av=>match P.underlying t with | some (.slice _)=>some true | _=>none
 | .slice _ _ _ _,.av | .av,.slice _ _ _ _=>match P.underlying t with | some (.slice _)=>some false | _=>none
 | .nilFunc,.nilFunc=>match P.underlying t with | some (.func _ _ _)=>some true | _=>none
 | .func _ _ _,.nilFunc | .nilFunc,.func _ _ _=>match P.underlying t with | some (.func _ _ _)=>some false | _=>none
 | .ig,.ig=>match P.underlying t with | some (.map _ _)=>some true | _=>none
 | .map _,.ig | .ig,.map _=>match P.underlying t with | some (.map _ _)=>some false | _=>none
 | _,_=>none
def mP (P:Program) (op:BinOp) (t:TypeId) (x y:V):Option V:=
 match op with
 | .eql=>match DK P t x y with | some b=>some (.bool b) | none=>none
 | .neq=>match DK P t x y with | some b=>some (.bool (bif b then false else true)) | none=>none
 | _=>none
def sF (P:Program) (op:BinOp) (t:TypeId) (x y:V):Option V:=
 match x,y with
 | .int k a,.int k' b=>
  match op with
  | .shl=>bif cq b 0 then none else some (.int k<|wr k (a*2 ^ (min b.toNat k.bits)))
  | .shr=>bif cq b 0 then none else some (.int k<|a.fdiv (2 ^ (min b.toNat k.bits)))
  | op=>
   bif sy k k' then
    match op with
    | .add=>some (.int k<|wr k<|Int.add a b)
    | .sub=>some (.int k<|wr k<|Int.sub a b)
    | .mul=>some (.int k<|wr k<|Int.mul a b)
    | .quo=>bif H b 0 then none else some (.int k<|wr k<|a.tdiv b)
    | .rem=>bif H b 0 then none else some (.int k<|a.tmod b)
    | .and=>some (.int k<|k.wrap (BitVec.ofInt k.bits a &&& BitVec.ofInt k.bits b).toNat)
    | .or=>some (.int k<|k.wrap (BitVec.ofInt k.bits a ||| BitVec.ofInt k.bits b).toNat)
    | .xor=>some (.int k<|k.wrap (BitVec.ofInt k.bits a ^^^ BitVec.ofInt k.bits b).toNat)
    | .andNot=>some (.int k<|k.wrap (BitVec.ofInt k.bits a &&& ~~~(BitVec.ofInt k.bits b)).toNat)
    | .eql=>some (.bool<|H a b)
    | .neq=>some (.bool (bif H a b then false else true))
    | .lss=>some (.bool<|cq a b)
    | .leq=>some (.bool (bif cq b a then false else true))
    | .gtr=>some (.bool<|cq b a)
    | .geq=>some (.bool (bif cq a b then false else true))
    | _=>none
   else none
 | .str a,.str b=>
  match op with
  | .add=>bif Nat.ble (dn a+dn b) 1152921504606846976 then some (.str<|gE a b) else none
  | .eql=>some (.bool<|uE a b)
  | .neq=>some (.bool (bif uE a b then false else true))
  | .lss=>some (.bool<|KD a b)
  | .gtr=>some (.bool<|KD b a)
  | .leq=>some (.bool (bif KD b a then false else true))
  | .geq=>some (.bool (bif KD a b then false else true))
  | _=>none
 | .bool a,.bool b=>
  match op,P.underlying t with
  | .eql,some .bool=>some (.bool (bif a then b else(bif b then false else true)))
  | .neq,some .bool=>some (.bool (bif a then(bif b then false else true) else b))
  | _,_=>none
 | x,y=>mP P op t x y
def fy (ev:Operand->Option V) (x:Operand) (y:Nat):Option Nat:=
 match ev x with
 | some (.int _ (.ofNat i))=>bif Nat.ble i y then some i else none
 | _=>none
def dh (ev:Operand->Option V) (len cap:Nat) (lo hi:Option Operand):Option (Nat×Nat):=
 match(match hi with | some h=>fy ev h cap | none=>some len) with
 | some h=>match(match lo with | some l=>fy ev l h | none=>some 0) with
  | some l=>some (l,h)
  | none=>none
 | none=>none
def cut (P:Program) (e:TypeId) (b:Pos) (off l h m:Nat):Option V:=
 match P.info? e with
 | some j=>some (.slice b (bif Nat.beq m l then off else off+l*j.size) (h-l) (.known (m-l)))
 | none=>none
def cutAt (P:Program) (ev:Operand->Option V) (e:TypeId) (b:Pos) (off len cap:Nat) (lo hi mx:Option Operand):Option V:=
 match mx with
 | none=>match dh ev len cap lo hi with
  | some (l,h)=>cut P e b off l h cap
  | none=>none
 | some x=>match fy ev x cap,hi with
  | some m,some _=>match dh ev m m lo hi with
   | some (l,h)=>cut P e b off l h m
   | none=>none
  | _,_=>none
def fQ (P:Program) (ev:Operand->Option V) (t:TypeId) (x:Operand) (lo hi mx:Option Operand):Option V:=
 match P.underlying t,ev x with
 | some (.slice e),some (.slice b off len (.known cap))=>cutAt P ev e b off len cap lo hi mx
 | some (.slice e),some (.slice b off len (.upto sz))=>
  match mx with
  | none=>match dh ev len len lo hi,P.info? e with
   | some (l,h),some j=>bif Nat.beq j.size sz then some (.slice b (off+l*sz) (h-l) (.upto sz)) else none
   | _,_=>none
  | some x=>bif Nat.beq len 0 then none else cutAt P ev e b off len len lo hi (some x)
 | some (.slice e),some (.slice b off len (.least a sz))=>
  match mx with
  | none=>match dh ev len a lo hi,P.info? e with
   | some (l,h),some j=>bif Nat.beq j.size sz && (Nat.ble len a && Nat.ble (Nat.succ l) a) then some (.slice b (off+l*sz) (h-l) (.least (a-l) sz)) else none
   | _,_=>none
  | some _=>none
 | some (.slice e),some .av=>
  match mx with
  | none=>match dh ev 0 0 lo hi,P.info? e with | some _,some _=>some .av | _,_=>none
  | some _=>none
 | some (.array n e),some (.ptr b off)=>cutAt P ev e b off n n lo hi mx
 | some (.pointer arr),some (.ptr b off)=>
  match P.underlying arr with
  | some (.array n e)=>cutAt P ev e b off n n lo hi mx
  | _=>none
 | some .string,some (.str s)=>
  match mx with
  | none=>match dh ev (dn s) (dn s) lo hi with
   | some (l,h)=>some (.str<|takeN (dU s l) (h-l))
   | none=>none
  | some _=>none
 | _,_=>none
def wP (P:Program) (t:TypeId) (x:V):Option Nat:=
 match P.underlying t,x with
 | some .string,.str s=>some (dn s)
 | some (.array n _),_=>some n
 | some (.slice _),.slice _ _ n _=>some n
 | some (.slice _),.av=>some 0
 | some (.map _ _),.ig=>some 0
 | _,_=>none
def MT:V->Option V
 | .slice _ _ _ (.known c)=>some (.int .i64<|Int.ofNat c)
 | .slice _ _ _ (.least a _)=>some (.n9 a)
 | .av=>some (.int .i64 0)
 | _=>none
def H6 (P:Program) (op:BinOp) (t:TypeId) (x y:V):Option V:=
 match y with
 | .n9 a=>match op,x with
  | .gtr,.int .i64 (.ofNat n)=>bif Nat.ble n a then some (.bool false) else none
  | _,_=>none
 | y=>sF P op t x y
def yV:Operand->Bool
 | .const _=>true
 | _=>false
def Je (P:Program) (o:BinOp) (t:TypeId) (k:Bool):Option V:=
 bif k then(match P.underlying t with
  | some (.interface _)=>match o with
   | .eql=>some (.bool true)
   | .neq=>some (.bool false)
   | _=>none
  | _=>none) else none
def sG (P:Program) (k:Bool) (o:BinOp) (t:TypeId) (x y:V):Option V:=
 match x with
 | .nilIface=>match y with
  | .nilIface=>Je P o t k
  | y=>H6 P o t .nilIface y
 | x=>H6 P o t x y
def lO (ev:Operand->Option V) (l:List Operand):Option (List V):=cQ ev l
def OT:V->V->Option V
 | .int k x,.int k' y=>bif sy k k' then some (.int k (bif cq y x then y else x)) else none
 | _,_=>none
def Ns:V->V->Option V
 | .int k x,.int k' y=>bif sy k k' then some (.int k (bif cq x y then y else x)) else none
 | _,_=>none
def dj (P:Program) (ev:Operand->Option V):Op->Option V
 | .move x | .assign x=>ev x
 | .pick c a b=>match ev c with | some (.bool true)=>ev a | some (.bool false)=>ev b | _=>none
 | .build t parts=>
  match P.underlying t,(fw P t).bind df with
  | some (.struct fs),some zero=>match cQ (fun f:Field=>(P.info? f.type).map fun j=>(f.offset,j.size)) fs.toList with
   | some places=>(jM (nth places) ev parts.toList zero).map .agg
   | none=>none
  | some (.array _ e),some zero=>match P.info? e with
   | some j=>(jM (fun i=>some (i*j.size,j.size)) ev parts.toList zero).map .agg
   | none=>none
  | _,_=>none
 | .nilCheck x=>match ev x with
  | some .nilPtr | some .nilIface | some .nilFunc | some (.yield _) | some .any | some (.tok _)=>none
  | v=>v
 | .binOp op t x y _=>match ev x,ev y with | some a,some b=>sG P (yV x || yV y) op t a b | _,_=>none
 | .unOp op _ x=>match op,ev x with
  | .not,some (.bool b)=>some (.bool (bif b then false else true))
  | .neg,some (.int k n)=>some (.int k<|wr k<|Int.sub 0 n)
  | .xor,some (.int k n)=>some (.int k<|k.wrap (BitVec.ofInt k.bits (if k.signed then-1 else k.max) ^^^ BitVec.ofInt k.bits n).toNat)
  | _,_=>none
 | .convert src dst x=>match P.underlying src,P.underlying dst,ev x with
  | some (.int _),some (.int k),some (.int _ n)=>some (.int k<|wr k n)
  | some .string,some .string,some (.str s)=>some (.str s)
  | _,_,_=>none
 | .makeInterface t x=>match P.underlying t,ev x with
  | some (.interface _),_=>none
  | some _,some v=>some (.iface t v)
  | _,_=>none
 | .makeFunc fn first captured=>match fn,lO ev first.toList,lO ev captured.toList with
  | .func f,some a,some b=>some (.func f a b)
  | _,_,_=>none
 | .slice t x lo hi mx=>fQ P ev t x lo hi mx
 | .fieldAddr s x i=>match structOf P s,ev x with
  | some fs,some (.ptr b off)=>match fs[i]? with
   | some f=>match P.info? f.type with
    | some j=>bif Nat.beq j.size 0 then none else some (.ptr b (off+f.offset))
    | none=>none
   | none=>none
  | _,_=>none
 | .field t x i=>match structOf P t,ev x with
  | some fs,some (.agg cs)=>match fs[i]? with
   | some f=>FU P f.type cs f.offset
   | none=>none
  | _,_=>none
 | .indexAddr t x i=>match P.underlying t,ev x,ev i with
  | some (.slice e),some (.slice b off len _),some (.int _ (.ofNat i))=>
   match P.info? e with
   | some j=>bif Nat.ble (Nat.succ i) len then some (.ptr b (off+i*j.size)) else none
   | none=>none
  | some (.array n e),some (.ptr b off),some (.int _ (.ofNat i))=>
   match P.info? e with
   | some j=>bif Nat.ble (Nat.succ i) n then some (.ptr b (off+i*j.size)) else none
   | none=>none
  | _,_,_=>none
 | .index t x i=>match P.underlying t,ev x,ev i with
  | some (.array n e),some (.agg cs),some (.int _ (.ofNat i))=>bif Nat.ble (Nat.succ i) n then(match P.info? e with | some j=>FU P e cs (i*j.size) | none=>none) else none
  | some .string,some (.str s),some (.int _ (.ofNat i))=>match nth s i with | some b=>some (.int .u8<|Int.ofNat b) | none=>none
  | _,_,_=>none
 | .extract x i=>match ev x with
  | some (.tuple vs)=>nth vs i
  | _=>none
 | .typeAssert x _ t ok=>match P.underlying t,ev x with
  | some (.interface _),_=>none
  | some _,some (.iface u v)=>bif Nat.beq u t then some (bif ok then .tuple [v,.bool true] else v) else(bif ok then(fw P t).map fun z=>.tuple [z,.bool false] else none)
  | some _,some .nilIface=>bif ok then(fw P t).map fun z=>.tuple [z,.bool false] else none
  | _,_=>none
 | .call c=>match c.callee with
  | .builtin .len=>match c.argTypes[0]?,c.args.toList with
   | some t,[x]=>match ev x with | some v=>(wP P t v).map fun n=>.int .i64 (Int.ofNat n) | none=>none
   | _,_=>none
  | .builtin .cap=>match c.argTypes[0]?,c.args.toList with
   | some t,[x]=>match P.underlying t,ev x with | some (.slice _),some v=>MT v | _,_=>none
   | _,_=>none
  | .builtin .min=>match c.args.toList with
   | [x,y]=>(match ev x,ev y with | some a,some b=>OT a b | _,_=>none)
   | _=>none
  | .builtin .max=>match c.args.toList with
   | [x,y]=>(match ev x,ev y with | some a,some b=>Ns a b | _,_=>none)
   | _=>none
  | _=>none
 | _=>none
def plainKey (P:Program) (t:TypeId):Bool:=
 match P.underlying t with
 | some (.int _) | some .string | some .bool=>true
 | some (.struct fs)=>fs.toList.all fun f=>match P.underlying f.type with
  | some (.int _) | some .string | some .bool=>true
  | some (.struct gs)=>gs.toList.all fun g=>match P.underlying g.type with
   | some (.int _) | some .string | some .bool=>true
   | _=>false
  | some (.array _ e)=>r8 P e
  | _=>false
 | _=>false
def oU (P:Program) (t:TypeId) (x y:V):Option Bool:=
 match P.underlying t,x,y with
 | some (.int _),.int j a,.int k b=>bif sy j k then some (H a b) else none
 | some .string,.str a,.str b=>some (uE a b)
 | some .bool,.bool a,.bool b=>some (bif a then b else(bif b then false else true))
 | some (.struct _),.agg xs,.agg ys=>DK P t (.agg xs) (.agg ys)
 | _,_,_=>none
def mi (P:Program) (t:TypeId) (x:V):Bool:=
 match P.underlying t,x with
 | some (.struct fs),.agg xs=>fs.toList.all fun f=>match P.underlying f.type with
  | some (.struct gs)=>match dT P f.type with
   | some (some n)=>gs.toList.all fun g=>(nth (takeN (dU xs f.offset) n) g.offset).isSome
   | _=>false
  | some (.array m _)=>match dT P f.type with
   | some (some n)=>Nat.beq n m && Nat.beq (dn<|takeN (dU xs f.offset) n) m
   | _=>false
  | _=>(nth xs f.offset).isSome
 | some (.struct _),_=>false
 | _,_=>true
def oT (P:Program) (t:TypeId) (k:V) (es:List fC):Nat->Option (Option (Nat×V)):=
 List.rec (motive:=fun _=>Nat->Option (Option (Nat×V))) (fun _=>some none)
  (fun e _ ih i=>match oU P t k e.key with
   | some true=>some (some (i,e.val))
   | some false=>ih (Nat.succ i)
   | none=>none) es
def sg (P:Program) (u:Option TypeId) (O:N) (x:Option V):Option V:=
 match x with
 | some (.ptr b off)=>match O.m.get b with
  | some (.own cells e)=>match u with
   | some u=>bif liesAt P P.depth e (dn cells/P.cellsOf e) off u 1 then some (.ptr b off) else none
   | none=>bif Nat.ble (Nat.succ off) (dn cells) then some (.ptr b off) else none
  | _=>none
 | _=>none
def yr:V->Option Nat
 | .int .u8 (.ofNat n)=>bif Nat.ble n 255 then some n else none
 | _=>none
def gp (P:Program) (ev:Operand->Option V) (O:N):Op->Option V
 | .load t x=>match ev x with
  | some (.ptr b off)=>match O.m.get b with
   | some (.row cells _ _)=>match dT P t with
    | some (some n)=>bif Nat.ble (off+n) (dn cells) then some (.agg<|takeN (dU cells off) n) else none
    | some none=>nth cells off
    | none=>none
   | some (.own cells _)=>match dT P t with
    | some (some n)=>bif Nat.ble (off+n) (dn cells) then some (.agg<|takeN (dU cells off) n) else none
    | some none=>nth cells off
    | none=>none
   | _=>none
  | _=>none
 | .lookup t x i ok=>match P.underlying t,ev i with
  | some (.map kt et),some k=>bif plainKey P kt && mi P kt k then
    match(match ev x with
     | some .ig=>some []
     | some (.map b)=>match O.m.get b with | some (.map es _)=>some es | _=>none
     | _=>none) with
    | some es=>match oT P kt k es 0,fw P et with
     | some (some (_,v)),some _=>some (bif ok then .tuple [v,.bool true] else v)
     | some none,some z=>some (bif ok then .tuple [z,.bool false] else z)
     | _,_=>none
    | none=>none
   else none
  | _,_=>none
 | .call c=>match c.callee with
  | .builtin .len=>match c.argTypes[0]?,c.args.toList with
   | some t,[x]=>match P.underlying t,ev x with
    | some (.map _ _),some (.map b)=>match O.m.get b with
     | some (.map es _)=>some (.int .i64<|Int.ofNat<|dn es)
     | _=>none
    | some (.map _ _),some .ig=>some (.int .i64 0)
    | _,_=>none
   | _,_=>none
  | _=>none
 | .convert src dst x=>match P.underlying src,P.underlying dst with
  | some (.slice e),some .string=>match P.underlying e,ev x with
   | some (.int .u8),some .av=>some (.str [])
   | some (.int .u8),some (.slice b off len _)=>bif Nat.beq len 0 then some (.str []) else match O.m.get b with
    | some (.row cells _ _)=>bif Nat.ble (off+len) (dn cells) then(match cQ yr (takeN (dU cells off) len) with | some s=>some (.str s) | none=>none) else none
    | _=>none
   | _,_=>none
  | some (.pointer t),some .unsafePointer=>match P.info? t with
   | some j=>bif Nat.beq j.size 0 then none else sg P none O (ev x)
   | none=>none
  | some .unsafePointer,some (.pointer u)=>bif (P.info? u).isSome then sg P (some u) O (ev x) else none
  | _,_=>none
 | _=>none
inductive Mk where
 | ptr
 | slice (len cap:Nat)
 | map
def Mk.of:Mk->Pos->V
 | .ptr,b=>.ptr b 0
 | .slice len cap,b=>.slice b 0 len (.known cap)
 | .map,b=>.map b
def tf (P:Program) (e:TypeId):Bool:=
 match P.underlying e with
 | some (.struct fs)=>match fs[0]? with
  | some f=>match P.underlying f.type with
   | some (.pointer t)=>Nat.beq t e
   | _=>false
  | none=>false
 | _=>false
def fP (P:Program) (ev:Operand->Option V):Op->Option (cN×Mk)
 | .alloc e=>match(fw P e).bind df with
  | some cs=>some (bif tf P e then .own cs e else .row cs e false,.ptr)
  | none=>none
 | .box e x=>match(ev x).bind df with
  | some cs=>some (.row cs e false,.ptr)
  | none=>none
 | .buildSlice t len parts=>match P.underlying t with
  | some (.slice e)=>match P.info? e,(fw P e).bind df with
   | some j,some z=>
    bif Nat.beq (dn z) j.size && Nat.ble (len*j.size) 16777216 && Nat.ble 1 j.size then
     match jM (fun i=>some (i*j.size,j.size)) ev parts.toList (fl z len) with
     | some cs=>some (.row cs e false,.slice len len)
     | none=>none
    else none
   | _,_=>none
  | _=>none
 | .makeSlice t l c=>match P.underlying t,ev l,ev c with
  | some (.slice e),some (.int _ (.ofNat l)),some (.int _ (.ofNat c))=>match P.info? e,(fw P e).bind df with
   | some j,some z=>
    bif Nat.ble l c && Nat.ble (j.bytes*c) 1048576 && Nat.ble c 1048576 && Nat.beq (dn z) j.size && Nat.ble 1 j.size then some (.row (fl z c) e false,.slice l c) else none
   | _,_=>none
  | _,_,_=>none
 | .makeMap _ none=>some (.map [] 0,.map)
 | .makeMap t (some r)=>match P.underlying t,ev r with
  | some (.map _ _),some (.int _ _)=>some (.map [] 0,.map)
  | _,_=>none
 | _=>none
theorem bx {c:Bool} {α:Type} {x y:α}:(bif c then x else y)=if c=true then x else y:=by cases c<;>rfl
theorem vh (k:IntKind) (n:Int) (h:Mq k n=true):k.wrap n=n:=by
 cases k<;>cases n with
 | ofNat a=>simp only[Mq,nE_] at h;simp only[IntKind.wrap,IntKind.bits,IntKind.signed];simp;omega
 | negSucc a=>first | (simp only[Mq,nE_] at h;simp only[IntKind.wrap,IntKind.bits,IntKind.signed];simp;omega) | (simp[Mq] at h)
theorem Gr (k:IntKind) (n:Int):wr k n=k.wrap n:=by
 grind [wr,vh]
theorem eu (x y:Int):cq x y=decide (x<y):=by
 cases x<;>cases y<;>simp only[cq]<;>(rw[Bool.eq_iff_iff];simp[nE_];try omega)
theorem dK (x y:Int):H x y=decide (x=y):=by
 cases x<;>cases y<;>simp only[H]<;>(rw[Bool.eq_iff_iff];simp;try omega)
theorem pB {j k:IntKind} (h:sy j k=true):j=k:=by cases j<;>cases k<;>first | rfl | (simp[sy] at h)
theorem wk:∀(s t:List Nat),uE s t=decide (s=t)
 | [],[]=>by simp[uE]
 | [],_::_=>by simp[uE]
 | _::_,[]=>by simp[uE]
 | x::s,y::t=>by
  show(bif Nat.beq x y then uE s t else false)=_;rw[wk s t,Bool.eq_iff_iff]
  simp_all
theorem I7:∀(s t:List UInt8),KD (s.map UInt8.toNat) (t.map UInt8.toNat)=Op.bytesLess s t
 | [],[]=>by simp[KD,Op.bytesLess]
 | [],_::_=>by simp[KD,Op.bytesLess]
 | _::_,[]=>by simp[KD,Op.bytesLess]
 | x::s,y::t=>by
  show(bif Nat.ble (Nat.succ x.toNat) y.toNat then true else bif Nat.beq x.toNat y.toNat then KD (s.map UInt8.toNat) (t.map UInt8.toNat) else false)=_;rw[I7 s t];simp only[Op.bytesLess]
  have e1:Nat.ble (Nat.succ x.toNat) y.toNat=decide (x<y):=by
   rw[Bool.eq_iff_iff,nE_];simp[UInt8.lt_iff_toNat_lt];omega
  have e2:Nat.beq x.toNat y.toNat=(x == y):=by
   rw[Bool.eq_iff_iff,Nat.beq_eq];simp[<-UInt8.toNat_inj]
  simp_all
theorem rz:∀{x y:List UInt8},x.map UInt8.toNat=y.map UInt8.toNat->x=y
 | [],[],_=>rfl
 | [],_::_,h=>by simp at h
 | _::_,[],h=>by simp at h
 | a::x,b::y,h=>by
  simp only[List.map_cons,List.cons.injEq] at h;rw[UInt8.toNat_inj.1 h.1,rz h.2]
theorem nR {s t:List Nat} {x y:ByteArray} (h:gy s x) (h':gy t y):uE s t=(x.toList == y.toList):=by
 unfold gy at h h';subst h;subst h';rw[wk,ByteArray.toList_eq,ByteArray.toList_eq,Bool.eq_iff_iff];simp only[decide_eq_true_eq,beq_iff_eq];exact⟨rz,fun h=>by rw[h]⟩
theorem zj {s t:List Nat} {x y:ByteArray} (h:gy s x) (h':gy t y):KD s t=Op.bytesLess x.toList y.toList:=by
 grind [gy,I7,ByteArray.toList_eq]
theorem iY {s:List Nat} {x:ByteArray} (h:gy s x):dn s=x.size:=by
 unfold gy at h;subst h;rw[bN,lM_,Array.length_toList];rfl
theorem info_of_underlying {P:Program} {t:TypeId} {d:TypeDesc} (h:P.underlying t=some d):∃i,P.info? t=some i:=by
 unfold Program.underlying at h
 grind
theorem rV {P:Program} {t:TypeId} {i:TypeInfo} (h:P.info? t=some i):P.cellsOf t=i.size:=by simp[Program.cellsOf,h]
theorem w7:∀(cs l:List V),cs.length<=l.length->lI cs l=cs++l.drop cs.length
 | [],l,_=>by simp[lI]
 | c::cs,[],h=>by simp at h
 | c::cs,x::l,h=>by
  show c::lI cs l=_;rw[w7 cs l (by simpa using h)];simp
theorem nO (cs:List V):∀(l:List V) (off:Nat),off+cs.length<=l.length->dM cs l off=l.take off++cs++l.drop (off+cs.length)
 | [],off,h=>by
  have:cs= []:=eN_ (by simp only[List.length_nil] at h;omega);subst this;simp[dM]
 | x::l,0,h=>by
  show lI cs (x::l)=_;rw[w7 _ _ (by simpa using h)];simp
 | x::l,off+1,h=>by
  show x::dM cs l off=_;rw[nO cs l off (by simp at h;omega)];rw[show off+1+cs.length=(off+cs.length)+1 by omega];simp
theorem rL:∀{l:List V},cE l=true->∀v∈l,lh v=true
 | [],_,v,hv=>by simp at hv
 | x::l,h,v,hv=>by
  have h':(bif lh x then cE l else false)=true:=h;cases hx:lh x with
  | false=>rw[hx] at h';simp at h'
  | true=>
   rw[hx] at h';cases hv with
   | head=>exact hx
   | tail _ hm=>exact rL h' v hm
theorem oB {I:dg} {v:V} {x:Value} (h:lh v=true) (hv:VR I v x):x.oneCell'=true:=by
 cases v with
 | slice b off len cap=>
  cases cap with
  | upto sz=>
   simp only[VR] at hv;rcases hv with ⟨l,_,⟨c,rfl,_⟩ | ⟨_,a,rfl⟩⟩<;>rfl
  | known c=>simp only[VR] at hv;obtain⟨l,_,rfl⟩:=hv;rfl
  | least a sz=>simp only[VR] at hv;obtain⟨l,_,c,rfl,_⟩:=hv;rfl
 | any=>simp[lh] at h
 | tok n=>simp only[VR] at hv;exact hv.2
 | _=>simp only[VR,lh] at hv h<;>first | (subst hv;rfl) | (obtain⟨_,rfl,_⟩:=hv;rfl) | (obtain⟨_,_,rfl⟩:=hv;rfl) | (obtain⟨_,_,rfl,_⟩:=hv;rfl) | simp_all
theorem oC {I:dg} {x:Value} {v:V} (h:kb x=some v):VR I v x:=by
 unfold kb at h;split at h<;>first | (cases h;first | (simp only[VR];done) | (simp only[VR];exact⟨_,Z,Z⟩)) | cases h
theorem m8 {I:dg}:∀{xs:List Value} {vs:List V},cQ kb xs=some vs->dA I vs xs
 | [],vs,h=>by rw[gO] at h;cases h;exact dA.nil
 | x::xs,vs,h=>by
  obtain⟨y,r,h1,b,rfl⟩:=gq h;exact dA.cons (oC h1)<|m8 b
theorem pQ {I:dg} {x:Value} {v:V} (h:pP x=some v):VR I v x:=by
 unfold pP at h;split at h
 ·rename_i cs;cases b:cQ kb cs.toList with
  | none=>rw[b] at h;cases h
  | some vs=>rw[b] at h;cases h;simp only[VR];exact⟨cs,Z,m8 b⟩
 ·rename_i cs;cases b:cQ kb cs.toList with
  | none=>rw[b] at h;cases h
  | some vs=>rw[b] at h;cases h;simp only[VR];exact⟨cs,Z,m8 b⟩
 exact oC h
theorem g9 {I:dg} {v:V} {x:Value} {cs:List V} (h:df v=some cs) (hv:VR I v x):dA I cs x.cells.toList:=by
 have leaf:lh v=true->cs= [v]->dA I cs x.cells.toList:=fun hl e=>by
  subst e;have hx:=oB hl hv;have e:x.cells.toList= [x]:=by cases x<;>first | rfl | (simp[Value.oneCell'] at hx)
  rw[e];exact dA.cons hv dA.nil
 cases v with
 | agg ds=>simp only[df,oJ_] at h;subst h;simp only[VR] at hv;obtain⟨ys,rfl,b⟩:=hv;exact b
 | tuple ds=>simp[df] at h
 | any=>simp[df] at h
 | _=>simp only[df,oJ_] at h;exact leaf Z h.symm
theorem mL {I:dg} {v:V} {x:Value} {cs:List V} (h:df v=some cs) (hv:VR I v x):x.cells.size=cs.length:=by
 have:=(g9 h hv).length;simpa using this
section
variable {P:Program} {I:dg} {O:N} {w:World}
def ER (I:dg) (ev:Operand->Option V) (f:Operand->Value) (op:Op):Prop:=∀x∈op.operands,∀v,ev x=some v->VR I v (f x)
theorem Inv.piece (hi:Inv I O w) {b:Pos} {l:Loc} {cells:List V} {e:Nat} {ro:Bool} (d:O.m.get b=some (.row cells e ro)) (hl:I b=some l) (off n:Nat) (hn:off+n<=cells.length):
  ∃ys:List Value,ys.length=n/\dA I ((cells.drop off).take n) ys/\∀(j:Nat) (y:Value),ys[j]?=some y->w.cell? ((⟨l.dN,l.sh+off,none⟩:Addr).add j)=some y:=by
 obtain⟨c,fr,h1,h2,h3,h4,_⟩:=hi.row d hl;refine⟨(c.toList.drop (l.sh+off)).take n,?_,dA.Jn ?_ ?_,?_⟩
 ·grind
 ·grind
 ·grind
 intro j y hy;rw[List.getElem?_take] at hy;split at hy
 ·rw[List.getElem?_drop,aT_] at hy;rw[Addr.add_eq _ _ Z,cell?_of_heap h1];exact hy
 cases hy
def Bp:TypeDesc->Bool
 | .struct _ | .array _ _=>true
 | _=>false
theorem fg {t:TypeId} {d:TypeDesc} (h:P.underlying t=some d):(isAgg t).run P w= .ok (Bp d) w:=by
 simp only[isAgg,sB_,run_underlying h,rA];cases d<;>rfl
theorem cu {t:TypeId} {i:TypeInfo} (h:P.info? t=some i):(sizeOf t).run P w= .ok i.size w:=by
 simp[sizeOf,typeInfo,h]
theorem rK {t:TypeId} {n:Nat} (h:dT P t=some (some n)):∃d i,P.underlying t=some d/\P.info? t=some i/\i.size=n/\Bp d=true:=by
 rw[Bq] at h;split at h
 ·rename_i fs hu;obtain⟨i,hi⟩:=info_of_underlying hu;simp only[oJ_] at h;rw[rV hi] at h;exact⟨_,i,hu,hi,h,Z⟩
 ·rename_i hu;obtain⟨i,hi⟩:=info_of_underlying hu;simp only[oJ_] at h;rw[rV hi] at h;exact⟨_,i,hu,hi,h,Z⟩
 ·simp at h
 simp at h
theorem vS {t:TypeId} (h:dT P t=some none):∃d i,P.underlying t=some d/\P.info? t=some i/\Bp d=false:=by
 rw[Bq] at h;split at h
 ·simp at h
 ·simp at h
 ·rename_i d h1 h2 hu;obtain⟨i,hi⟩:=info_of_underlying hu;refine⟨d,i,hu,hi,?_⟩;cases d<;>first | rfl | simp_all | simp_all
 simp at h
theorem nh (hi:Inv I O w) {b:Pos} {l:Loc} {off:Nat} {cells:List V} {e:Nat} {ro:Bool} (C:O.m.get b=some (.row cells e ro)) (hl:I b=some l) {t:TypeId} {v:V}
  (h:(match dT P t with
    | some (some n)=>bif Nat.ble (off+n) (dn cells) then some (.agg<|takeN (dU cells off) n) else none
    | some none=>nth cells off
    | none=>none)=some v):
  ∃x,(loadVar t ⟨l.dN,l.sh+off,none⟩).run P w= .ok x w/\VR I v x:=by
 cases z:dT P t with
 | none=>rw[z] at h;cases h
 | some o=>
  rw[z] at h;cases o with
  | some n=>
   obtain⟨d,i,hu,u,A,B⟩:=rK z;simp only[bx] at h;split at h
   ·rename_i hle;rw[nE_,bN] at hle;cases h;obtain⟨ys,hlen,aa,E⟩:=hi.piece C hl off n hle;refine⟨.agg ys.toArray,?_,?_⟩
    ·simp only[loadVar,sB_,fg hu,B,rA,if_true,cu u,A];rw[<-hlen,run_loadCells_list w _ ys E];rfl
    simp only[VR,dp,dQ]
    simp_all
   cases h
  | none=>
   obtain⟨d,i,hu,u,B⟩:=vS z;rw[eU] at h;obtain⟨y,hy,F⟩:=hi.cell C hl h;refine⟨y,?_,F⟩;simp only[loadVar,sB_,fg hu,B,rA,Bool.false_eq_true,if_false];rw[run_load,hy]
end
section
variable {P:Program} {I:dg} {O:N} {w:World}
def gH (l:List V) (k:Nat):List V->List V
 | []=>l
 | v::vs=>gH (l.set k v) (k+1) vs
theorem rF:∀(vs:List V) (l:List V) (k:Nat),(gH l k vs).length=l.length
 | [],_,_=>rfl
 | v::vs,l,k=>by rw[gH,rF vs];simp
theorem qb:∀(vs:List V) (x:V) (l:List V) (k:Nat),gH (x::l) (k+1) vs=x::gH l k vs
 | [],_,_,_=>rfl
 | v::vs,x,l,k=>by rw[gH,gH,List.set_cons_succ,qb vs]
theorem pS:∀(cs l:List V),cs.length<=l.length->lI cs l=gH l 0 cs
 | [],l,_=>by simp[lI,gH]
 | c::cs,[],h=>by simp at h
 | c::cs,x::l,h=>by
  show c::lI cs l=_;rw[pS cs l (by simpa using h),gH,List.set_cons_zero,qb]
theorem kD (cs:List V):∀(l:List V) (off:Nat),off+cs.length<=l.length->dM cs l off=gH l off cs
 | [],off,h=>by
  have:cs= []:=eN_ (by simp only[List.length_nil] at h;omega);subst this;simp[dM,gH]
 | x::l,0,h=>by
  show lI cs (x::l)=_;exact pS _ _ (by simpa using h)
 | x::l,off+1,h=>by
  show x::dM cs l off=_;rw[kD cs l off (by simp only[List.length_cons] at h;omega),qb]
theorem BX {off:Nat}:∀(vs:List V) (xs:List Value) (k:Nat) (l:List V) (ys:Array Value),dA I vs xs->dA I l ys.toList->
  dA I (gH l (off+k) vs) ((xs.zipIdx k).foldl (fun(cs:Array Value) (p:Value×Nat)=>cs.setIfInBounds (off+p.2) p.1) ys).toList
 | [],xs,k,l,ys,h,hl=>by rw[h.eV];exact hl
 | v::vs,xs,k,l,ys,h,hl=>by
  obtain⟨x,r,rfl,h1,b⟩:=h.cons_inv;simp only[List.zipIdx_cons,List.foldl_cons,gH];have:=BX (off:=off) vs r (k+1) (l.set (off+k) v) (ys.setIfInBounds (off+k) x) b (by simpa using hl.set (off+k) h1);simpa [Nat.add_assoc] using this
theorem ox {place place':Nat->Option (Nat×Nat)} (hp:∀i x,place i=some x->place' i=some x) {ev:Operand->Option V} {f:Operand->Value}:
  ∀(parts:List (Nat×Operand)) (cells cs:List V) (ys:Array Value),(∀p∈parts,∀v,ev p.2=some v->VR I v (f p.2))->dA I cells ys.toList->jM place ev parts cells=some cs->
   ∃zs:Array Value,Instr.fill place' ys (parts.map fun p=>(p.1,f p.2))=some zs/\dA I cs zs.toList
 | [],cells,cs,ys,_,u,h=>by
  simp only[jM,oJ_] at h;subst h;exact⟨ys,Z,u⟩
 | p::parts,cells,cs,ys,z,u,h=>by
  have h':(match place p.1,(ev p.2).bind df with
   | some (off,size),some vs=>bif Nat.beq (dn vs) size && Nat.ble (off+size) (dn cells) then jM place ev parts (dM vs cells off) else none
   | _,_=>none)=some cs:=h
  cases d:place p.1 with
  | none=>simp_all
  | some x=>
   obtain⟨off,size⟩:=x;cases hv:ev p.2 with
   | none=>simp_all
   | some v=>
    rw[d,hv] at h';simp only[Option.bind_some] at h';cases b:df v with
    | none=>simp_all
    | some vs=>
     rw[b] at h';simp only[bx] at h';split at h'
     ·rename_i hb;simp only[bA_,Nat.beq_eq,nE_,bN] at hb;obtain⟨ab,ac⟩:=hb;have hvr:=z p (by simp) v hv;have hcells:=g9 b hvr;have hsize:=mL b hvr;have aa:ys.size=cells.length:=by have:=u.length;simpa using this
      have hfold:=BX (off:=off) vs (f p.2).cells.toList 0 cells ys hcells u;rw[Nat.add_zero,<-kD vs cells off oM] at hfold;obtain⟨zs,h1,A⟩:=ox hp parts (dM vs cells off) cs _ (fun q hq=>z q (by simp[hq])) hfold h';refine⟨zs,?_,A⟩;rw[List.map_cons];simp only[Instr.fill,hp _ _ d];rw[if_neg]
      ·rw[<-h1];congr 1;rw[<-Array.foldl_toList];simp
      simp_all
     cases h'
theorem sC {α β:Type} {g:α->Option β}:∀{l:List α} {ys:List β},cQ g l=some ys->l.mapM g=some ys
 | [],ys,h=>by rw[gO] at h;cases h;rfl
 | x::l,ys,h=>by
  obtain⟨y,r,h1,b,rfl⟩:=gq h;simp[List.mapM_cons,h1,sC b]
theorem qk {t:TypeId} {z:V} (h:fw P t=some z):∃i x,P.info? t=some i/\i.zero=some x/\∀I:dg,VR I z x:=by
 unfold fw at h;cases hi:P.info? t with
 | none=>rw[hi] at h;cases h
 | some i=>
  rw[hi] at h;simp only[Option.bind_some] at h;cases b:i.zero with
  | none=>rw[b] at h;cases h
  | some x=>rw[b] at h;exact⟨i,x,Z,b,fun I=>pQ h⟩
theorem fR {t:TypeId} {cs:List V} (h:(fw P t).bind df=some cs):∃i x,P.info? t=some i/\i.zero=some x/\∀I:dg,dA I cs x.cells.toList:=by
 cases b:fw P t with
 | none=>rw[b] at h;cases h
 | some z=>
  grind [qk,g9]
theorem BB {ev:Operand->Option V} {f:Operand->Value} {t:TypeId} {parts:Array (Nat×Operand)} {v:V}
  (B:∀p∈parts.toList,∀v,ev p.2=some v->VR I v (f p.2)) (h:dj P ev (.build t parts)=some v):
  ∃x,(Instr.build t<|parts.map fun(i,x)=>(i,f x)).run P w= .ok x w/\VR I v x:=by
 simp only[dj] at h;cases hu:P.underlying t with
 | none=>rw[hu] at h;cases h
 | some d=>
  rw[hu] at h;cases C:(fw P t).bind df with
  | none=>simp_all
  | some zero=>
   rw[C] at h;obtain⟨it,z,b,hzero,u⟩:=fR C;cases d with
   | struct fs=>
    simp only at h;cases A:cQ (fun f:Field=>(P.info? f.type).map fun j=>(f.offset,j.size)) fs.toList with
    | none=>simp_all
    | some places=>
     rw[A] at h;dsimp only at h;cases hf:jM (nth places) ev parts.toList zero with
     | none=>rw[hf] at h;cases h
     | some cs=>
      rw[hf] at h;cases h;obtain⟨zs,h1,E⟩:=ox (place':=(places.toArray[·]?)) (fun i x hx=>by rw[eU] at hx;simpa using hx) parts.toList zero cs z.cells B (u I) hf
      refine⟨.agg zs,run_build w t _ zs ?_,by simp only[VR];simp_all⟩;simp only[Program.built,b,hu,hzero,sC A];simpa using h1
   | array n e=>
    simp only at h;cases hj:P.info? e with
    | none=>rw[hj] at h;cases h
    | some j=>
     rw[hj] at h;dsimp only at h;cases hf:jM (fun i=>some (i*j.size,j.size)) ev parts.toList zero with
     | none=>rw[hf] at h;cases h
     | some cs=>
      rw[hf] at h;cases h;obtain⟨zs,h1,E⟩:=ox (place':=fun i=>some (i*j.size,j.size)) (fun i x hx=>hx) parts.toList zero cs z.cells B (u I) hf;refine⟨.agg zs,run_build w t _ zs ?_,by simp only[VR];simp_all⟩;simp only[Program.built,b,hu,hzero,hj];simpa using h1
   | _=>cases h
theorem qM {cs:List V} {ys:List Value} (h:dA I cs ys) (r e:Nat):gK I ⟨r,0,cs.length⟩ (.row cs e false) (.cells ys.toArray e):=by
 refine⟨_,_,Z,by simpa using h.length,nR_ _,fun i v hv=>?_,fun _ j _ hj=>by simp at hj⟩;obtain⟨y,h1,h2⟩:=h.get hv
 simp_all
theorem jF {cs:List V} {ys:List Value} (h:dA I cs ys):∀n,dA I (fl cs n) ((List.replicate n ys).flatten)
 | 0=>(dA.nil:dA I [] [])
 | n+1=>by
  show dA I (gE cs<|fl cs n) _;rw[dX,List.replicate_succ,List.flatten_cons];exact h.append<|jF h n
theorem nr (cs:List V):∀n,(fl cs n).length=n*cs.length
 | 0=>by rw[Nat.zero_mul];rfl
 | n+1=>by
  show(gE cs<|fl cs n).length=_;rw[dX,lA_,nr cs n,Nat.succ_mul,Nat.add_comm]
theorem jN (ys:List Value):∀(n j:Nat),j<n*ys.length->((List.replicate n ys).flatten)[j]?=ys[j%ys.length]?
 | 0,j,h=>by simp at h
 | n+1,j,h=>by
  rw[List.replicate_succ,List.flatten_cons]
  by_cases hj:j<ys.length
  ·rw[gL_ hj,Nat.mod_eq_of_lt hj]
  rw[gR_ oM,jN ys n (j-ys.length) (by rw[Nat.succ_mul] at h;omega)];congr 1
  have h0:0<ys.length:=by
   rcases Nat.eq_zero_or_pos ys.length with h0 | h0
   ·rw[h0] at h;simp at h
   exact h0
  rw[Nat.mod_eq_sub_mod (by omega:j≥ys.length)]
theorem vH (z:Array Value) (n:Nat) (hz:0<z.size):((Array.range (n*z.size)).map (z[· %z.size]!))=((List.replicate n z.toList).flatten).toArray:=by
 apply Array.ext_getElem?;intro j;simp only[Array.getElem?_map,List.getElem?_toArray]
 by_cases hj:j<n*z.size
 ·grind [jN,Nat.mod_lt]
 simp_all
theorem uq {ev:Operand->Option V} {f:Operand->Value} {o:Oper} {ob:cN} {mk:Mk} (G:ER I ev f o.op) (h:fP P ev o.op=some (ob,mk)):
  ∃(x:Value) (ob':Obj) (n:Nat),(execOp f o).run P w= .ok (.value x) (w.alloc ob')/\ob.ro=false/\gK I ⟨w.heap.size,0,n⟩ ob ob'/\
   ∀(I':dg) (b:Pos),I' b=some ⟨w.heap.size,0,n⟩->VR I' (mk.of b) x:=by
 cases A:o.op with
 | alloc e=>
  rw[A] at h;simp only[fP] at h;cases C:(fw P e).bind df with
  | none=>rw[C] at h;cases h
  | some cs=>
   rw[C] at h;obtain⟨i,z,hi,hzero,u⟩:=fR C;cases hp:tf P e with
   | false=>
    rw[hp] at h;cases h;refine⟨.pointer<|some ⟨w.heap.size,0,none⟩,.cells z.cells e,cs.length,?_,Z,qM (u I) _ _,fun I' b hb=>by simp only[Mk.of,VR];simp_all⟩;simp[execOp,A,Instr.alloc,zeroValue,typeInfo,hi,hzero,newVar,newRow]
   | true=>
    rw[hp] at h;cases h;refine⟨.pointer<|some ⟨w.heap.size,0,none⟩,.cells z.cells e,cs.length,?_,Z,gK.F7 ⟨Z,Z⟩<|qM (u I) _ _,fun I' b hb=>by simp only[Mk.of,VR];simp_all⟩;simp[execOp,A,Instr.alloc,zeroValue,typeInfo,hi,hzero,newVar,newRow]
 | box e x=>
  rw[A] at h G;simp only[fP] at h;cases hv:ev x with
  | none=>rw[hv] at h;cases h
  | some v=>
   rw[hv] at h;dsimp only[Option.bind_some] at h;cases M:df v with
   | none=>rw[M] at h;cases h
   | some cs=>
    rw[M] at h;cases h;have hvr:=G x (by simp[Op.operands]) v hv;refine⟨.pointer<|some ⟨w.heap.size,0,none⟩,.cells (f x).cells e,cs.length,?_,Z,qM (g9 M hvr) _ _,fun I' b hb=>by simp only[Mk.of,VR];simp_all⟩;simp[execOp,A,Instr.box,newVar,newRow]
 | buildSlice t len parts=>
  rw[A] at h G;simp only[fP] at h;cases hu:P.underlying t with
  | none=>rw[hu] at h;cases h
  | some d=>
   rw[hu] at h;cases d with
   | slice e=>
    dsimp only at h;cases hj:P.info? e with
    | none=>rw[hj] at h;cases h
    | some j=>
     cases C:(fw P e).bind df with
     | none=>simp_all
     | some z=>
      rw[hj,C] at h;simp only[bx] at h;split at h
      ·rename_i hb;simp only[bA_,Nat.beq_eq,nE_,bN] at hb;obtain⟨⟨K,Q⟩,R⟩:=hb;cases hf:jM (fun i=>some (i*j.size,j.size)) ev parts.toList (fl z len) with
       | none=>rw[hf] at h;cases h
       | some cs=>
        rw[hf] at h;cases h;obtain⟨i,zv,hi,hzero,u⟩:=fR C;rw[hj] at hi;cases hi;have B:zv.cells.size=j.size:=by rw[<-K,<-(u I).length,Array.length_toList]
        have E:∀p∈parts.toList,∀v,ev p.2=some v->VR I v (f p.2):=fun p hp v hv=>G p.2 (by simp only[Op.operands,List.mem_toArray,List.mem_map];grind) v hv
        obtain⟨zs,h1,S⟩:=ox (place':=fun i=>some (i*j.size,j.size)) (fun i x hx=>hx) parts.toList (fl z len) cs ((List.replicate len zv.cells.toList).flatten).toArray E
         (by simpa using jF (u I) len) hf
        rw[<-vH zv.cells len oM,B] at h1;have aa:cs.length=zs.size:=by have:=S.length;simpa using this.symm
        by_cases L:len*j.size=0
        ·refine⟨.slice (some ⟨w.heap.size,0,none⟩) len len,.cells zs e,cs.length,?_,Z,by simpa using qM S w.heap.size e,fun I' b hb=>by simp only[Mk.of,VR];simp_all⟩;have T:(Array.map (fun x=>zv.cells[x%j.size]!)<|Array.range (len*j.size))= #[]:=by rw[L];simp
         rw[T] at h1;have W:∀g:Nat->Value,Array.map g (Array.range 0)= #[]:=fun g=>by simp
         simp[execOp,A,Instr.buildSlice,run_underlying hu,sizeOf,typeInfo,hj,L,W,h1,newRow]
        refine⟨.slice (some ⟨w.heap.size,0,none⟩) len len,.cells zs e,cs.length,?_,Z,by simpa using qM S w.heap.size e,fun I' b hb=>by simp only[Mk.of,VR];simp_all⟩;have hrun:=run_buildSlice (P:=P) w t e len (parts.map fun(i,x)=>(i,f x)) zs j zv hu hj hzero oM L (by simp_all)
        grind [execOp,sB_,rA,sP_]
      cases h
   | _=>cases h
 | makeSlice t l c=>
  rw[A] at h G;simp only[fP] at h;cases hu:P.underlying t with
  | none=>rw[hu] at h;cases h
  | some d=>
   rw[hu] at h;cases hl:ev l with
   | none=>simp_all
   | some vl=>
    cases M:ev c with
    | none=>simp_all
    | some vc=>
     rw[hl,M] at h;split at h
     ·rename_i e kl ln kc cn he X ab;cases he;cases X;cases ab;cases hj:P.info? e with
      | none=>rw[hj] at h;cases h
      | some j=>
       cases C:(fw P e).bind df with
       | none=>simp_all
       | some z=>
        rw[hj,C] at h;simp only[bx] at h;split at h
        ·rename_i hb;simp only[bA_,Nat.beq_eq,nE_,bN] at hb;obtain⟨⟨⟨⟨K,Q⟩,R⟩,ac⟩,ap⟩:=hb;cases h;obtain⟨i,zv,hi,hzero,u⟩:=fR C;rw[hj] at hi;cases hi;have B:zv.cells.size=j.size:=by rw[<-ac,<-(u I).length,Array.length_toList]
         have aq:f l= .int kl (Int.ofNat ln):=by have:=G l (by simp[Op.operands]) _ hl;simpa only[VR] using this
         have ar:f c= .int kc (Int.ofNat cn):=by have:=G c (by simp[Op.operands]) _ M;simpa only[VR] using this
         have am:(j.bytes:Int)*(Int.ofNat cn)<=281474976710656:=by
          grind
         have hrun:=run_make (P:=P) w t e j zv hu hj hzero kl kc (Int.ofNat ln) (Int.ofNat cn) (Int.natCast_nonneg _) (Int.ofNat_le.2 K) am (by grind)
         have F:madeCells zv.cells ((Int.ofNat cn).toNat*j.size)=((List.replicate cn zv.cells.toList).flatten).toArray:=by
          unfold madeCells;rw[show(Int.ofNat cn).toNat=cn from Z,<-B];exact vH zv.cells cn oM
         rw[F] at hrun;have hts:=jF (u I) cn
         refine⟨.slice (some ⟨w.heap.size,0,none⟩) ln cn,.cells ((List.replicate cn zv.cells.toList).flatten).toArray e,(fl z cn).length,?_,Z,qM hts _ _,
          fun I' b hb=>by simp only[Mk.of,VR];simp_all⟩
         grind [execOp,sB_,rA,sP_]
        cases h
     cases h
 | makeMap t r=>
  rw[A] at h;cases r with
  | some r=>
   simp only[fP] at h;split at h
   ·rename_i mk mv k n hu hr;simp only[oJ_,Prod.mk.injEq] at h;obtain⟨rfl,rfl⟩:=h;have ao:f r= .int k n:=by have:=G r (by rw[A];simp[Op.operands]) _ hr;simpa only[VR] using this
    refine⟨.map<|some w.heap.size,.map #[] 0,0,?_,Z,⟨#[],Z,Z⟩,fun I' b hb=>by simp only[Mk.of,VR];simp_all⟩;simp[execOp,A,Instr.makeMap,ao,run_underlying hu,asInt,asIntOf]
   cases h
  | none=>
   simp only[fP,oJ_,Prod.mk.injEq] at h;obtain⟨rfl,rfl⟩:=h;refine⟨.map<|some w.heap.size,.map #[] 0,0,?_,Z,⟨#[],Z,Z⟩,fun I' b hb=>by simp only[Mk.of,VR];simp_all⟩;simp[execOp,A,Instr.makeMap]
 | _=>rw[A] at h;simp[fP] at h
end
section
variable {P:Program} {I:dg} {w:World}
theorem pz (a b:Bool):(bif a then b else(bif b then false else true))=(a == b):=by grind
theorem Ij (a b:Bool):(bif a then(bif b then false else true) else b)=(a !=b):=by grind
theorem cond_not (b:Bool):(bif b then false else true)= !b:=by cases b<;>rfl
theorem lq {d:Nat}:∀(fs:List Field) (xs ys:List V) (cs ds:Array Value) (b:Bool),dA I xs cs.toList->dA I ys ds.toList->lH fs=true->iO P fs xs ys=some b->
  (Op.eqFields (d+1) cs ds fs).run P w= .ok b w
 | [],xs,ys,cs,ds,b,_,_,_,h=>by
  simp only[iO,oJ_] at h;subst h;simp[Op.eqFields]
 | f::fs,xs,ys,cs,ds,b,hx,hy,hn,h=>by
  have Q:(bif f.name == "_" then false else lH fs)=true:=hn
  have u:(f.name == "_")=false:=by
   simp_all
  rw[u] at Q;have B:f.name≠ "_" :=by simpa using u
  have h':(match P.underlying f.type,nth xs f.offset,nth ys f.offset with
   | some .bool,some (.bool a),some (.bool b)=>bif (bif a then b else(bif b then false else true)) then iO P fs xs ys else some false
   | some (.int _),some (.int j a),some (.int k b)=>bif sy j k then(bif H a b then iO P fs xs ys else some false) else none
   | some .string,some (.str a),some (.str b)=>bif uE a b then iO P fs xs ys else some false
   | _,_,_=>none)=some b:=h
  have ih:=lq (d:=d) fs xs ys cs ds
  have part {v:V} {cells:List V} {es:Array Value} (M:dA I cells es.toList) (T:nth cells f.offset=some v) (E:Bp (match P.underlying f.type with | some d=>d | none=>.invalid)=false) (hu:P.underlying f.type≠none):
    ∃y,(part f.type es f.offset).run P w= .ok y w/\VR I v y:=by
   rw[eU] at T;obtain⟨y,h1,h2⟩:=M.get T;cases C:P.underlying f.type with
   | none=>exact absurd C hu
   | some dd=>
    rw[C] at E;refine⟨y,?_,h2⟩;simp only[Go.part,sB_,fg C,E,rA,Bool.false_eq_true,if_false]
    simp_all
  split at h'
  ·rename_i W X u3 a b' e1 F G;obtain⟨y1,K,z⟩:=part hx F (by rw[e1];rfl) (by rw[e1];simp);obtain⟨y2,L,A⟩:=part hy G (by rw[e1];rfl) (by rw[e1];simp);simp only[VR] at z A;subst z;subst A;simp only[Op.eqFields,B,ne_eq,not_false_eq_true,if_true,sB_,K,L,rA,run_equalIn_bool w d f.type _ _ e1];rw[pz] at h';cases M:(a == b') with
   | true=>grind
   | false=>simp_all
  ·rename_i W X u3 kk j a k b' e1 F G;obtain⟨y1,K,z⟩:=part hx F (by rw[e1];rfl) (by rw[e1];simp);obtain⟨y2,L,A⟩:=part hy G (by rw[e1];rfl) (by rw[e1];simp);simp only[VR] at z A;subst z;subst A;cases hk:sy j k with
   | false=>simp_all
   | true=>
    rw[hk] at h';have:=pB hk;subst this;simp only[Op.eqFields,B,ne_eq,not_false_eq_true,if_true,sB_,K,L,rA,run_equalIn_int w d f.type _ _ _ _ e1];rw[dK] at h';cases M:decide (a=b') with
    | true=>grind
    | false=>simp_all
  ·rename_i W X u3 a b' e1 F G;obtain⟨y1,K,z⟩:=part hx F (by rw[e1];rfl) (by rw[e1];simp);obtain⟨y2,L,A⟩:=part hy G (by rw[e1];rfl) (by rw[e1];simp);simp only[VR] at z A;obtain⟨s1,rfl,R⟩:=z;obtain⟨s2,rfl,S⟩:=A;simp only[Op.eqFields,B,ne_eq,not_false_eq_true,if_true,sB_,K,L,rA,run_equalIn_string w d f.type _ _ e1];rw[nR R S] at h';cases M:(s1.toList == s2.toList) with
   | true=>grind
   | false=>simp_all
  cases h'
theorem np {t:TypeId} {fs:Array Field} (h:structOf P t=some fs):P.underlying t=some (.struct fs):=by
 grind [structOf,nW]
theorem uF {t:TypeId} {fs:Array Field} (h:P.underlying t=some (.struct fs)):P.fieldsOf t=fs:=by simp[Program.fieldsOf,h]
theorem wN {e:TypeId} (h:r8 P e=true):∃k i,P.underlying e=some (.int k)/\P.info? e=some i/\i.size=1:=by
 grind [r8,nB]
theorem nL {d:Nat} {e:TypeId} {k':IntKind} (he:P.underlying e=some (.int k')):∀(l1 l2:List V) (s:Nat) (u z:Array Value) (b:Bool),
  (∀(i:Nat) (v:V),l1[i]?=some v->∃y,u[s+i]?=some y/\VR I v y)->(∀(i:Nat) (v:V),l2[i]?=some v->∃y,z[s+i]?=some y/\VR I v y)->wj l1 l2=some b->
  (Op.eqItems (d+1) e 1 u z<|List.range' s l1.length).run P w= .ok b w
 | [],l2,s,u,z,b,_,_,h=>by
  cases l2 with
  | nil=>cases h;simp[Op.eqItems]
  | cons y r=>cases h
 | x::l1,l2,s,u,z,b,h1,A,h=>by
  cases l2 with
  | nil=>cases x<;>cases h
  | cons y r=>
   cases x<;>try (cases h;done)
   rename_i j a;cases y<;>try (cases h;done)
   rename_i k c;have h':(bif sy j k then(bif H a c then wj l1 r else some false) else none)=some b:=h;cases hk:sy j k with
   | false=>simp_all
   | true=>
   rw[hk] at h';have:=pB hk;subst this;obtain⟨y1,q1,B⟩:=h1 0 _ Z;obtain⟨y2,q2,C⟩:=A 0 _ Z;simp only[VR] at B C;subst B;subst C;simp only[Nat.add_zero] at q1 q2
   have p:∀(cs:Array Value) (v:Value),cs[s]?=some v->(part e cs (s*1)).run P w= .ok v w:=fun cs v hv=>by
    rw[Nat.mul_one];simp only[part,sB_,fg he,Bp,rA,Bool.false_eq_true,if_false,hv,sP_]
   simp only[List.length_cons,List.range'_succ,Op.eqItems,sB_,p u _ q1,p z _ q2,rA,run_equalIn_int w d e _ _ _ _ he];rw[dK] at h';have ih:=nL (d:=d) he l1 r (s+1) u z;cases E:decide (a=c) with
   | true=>
    rw[E] at h';have:=of_decide_eq_true E;subst this
    simpa using ih b (fun i v hv=>by have:=h1 (i+1) v (by simpa using hv);grind)
     (fun i v hv=>by have:=A (i+1) v (by simpa using hv);grind) (by simpa using h')
   | false=>
    simp_all
theorem gz {t:TypeId} {cs:List V} {ys:Array Value} {off n:Nat} (u:dT P t=some (some n)) (z:dA I cs ys.toList):∃c,(part t ys off).run P w= .ok (.agg c) w/\dA I (takeN (dU cs off) n) c.toList:=by
 obtain⟨d,i,hu,hi,b,A⟩:=rK u;refine⟨ys.extract off (off+n),?_,?_⟩
 ·simp only[part,sB_,fg hu,A,rA,if_true,cu hi,b,sP_]
 rw[dp,dQ,Array.toList_extract];have:=(z.drop off).take n
 simp_all
theorem mz {d:Nat}:∀(fs:List Field) (xs ys:List V) (cs ds:Array Value) (b:Bool),dA I xs cs.toList->dA I ys ds.toList->lH fs=true->eqFields P fs xs ys=some b->
  (Op.eqFields (d+1+1) cs ds fs).run P w= .ok b w
 | [],xs,ys,cs,ds,b,_,_,_,h=>by
  simp only[eqFields,oJ_] at h;subst h;simp[Op.eqFields]
 | f::fs,xs,ys,cs,ds,b,hx,hy,hn,h=>by
  have aa:(bif f.name == "_" then false else lH fs)=true:=hn
  have B:(f.name == "_")=false:=by
   simp_all
  rw[B] at aa;have C:f.name≠ "_" :=by simpa using B
  have h':(match P.underlying f.type,nth xs f.offset,nth ys f.offset with
   | some .bool,some (.bool a),some (.bool b)=>bif (bif a then b else(bif b then false else true)) then eqFields P fs xs ys else some false
   | some (.int _),some (.int j a),some (.int k b)=>bif sy j k then(bif H a b then eqFields P fs xs ys else some false) else none
   | some .string,some (.str a),some (.str b)=>bif uE a b then eqFields P fs xs ys else some false
   | some (.struct gs),_,_=>bif P.stoodInHeld f.type || !lH gs.toList then none else match dT P f.type with
    | some (some n)=>match iO P gs.toList (takeN (dU xs f.offset) n) (takeN (dU ys f.offset) n) with
     | some true=>eqFields P fs xs ys
     | some false=>some false
     | none=>none
    | _=>none
   | some (.array m e),_,_=>bif r8 P e then(match dT P f.type with
    | some (some n)=>bif Nat.beq n m && (Nat.beq (dn<|takeN (dU xs f.offset) n) m && Nat.beq (dn<|takeN (dU ys f.offset) n) m) then(match wj (takeN (dU xs f.offset) n) (takeN (dU ys f.offset) n) with
     | some true=>eqFields P fs xs ys
     | some false=>some false
     | none=>none) else none
    | _=>none) else none
   | _,_,_=>none)=some b:=h
  have ih:=mz (d:=d) fs xs ys cs ds
  have part {v:V} {cells:List V} {es:Array Value} (L:dA I cells es.toList) (hg:nth cells f.offset=some v) (u:Bp (match P.underlying f.type with | some d=>d | none=>.invalid)=false) (hu:P.underlying f.type≠none):
    ∃y,(part f.type es f.offset).run P w= .ok y w/\VR I v y:=by
   rw[eU] at hg;obtain⟨y,h1,h2⟩:=L.get hg;cases M:P.underlying f.type with
   | none=>exact absurd M hu
   | some dd=>
    rw[M] at u;refine⟨y,?_,h2⟩;simp only[Go.part,sB_,fg M,u,rA,Bool.false_eq_true,if_false]
    simp_all
  split at h'
  ·rename_i u1 u2 u3 a b' e1 S T;obtain⟨y1,F,z⟩:=part hx S (by rw[e1];rfl) (by rw[e1];simp);obtain⟨y2,G,A⟩:=part hy T (by rw[e1];rfl) (by rw[e1];simp);simp only[VR] at z A;subst z;subst A;simp only[Op.eqFields,C,ne_eq,not_false_eq_true,if_true,sB_,F,G,rA,run_equalIn_bool w (d+1) f.type _ _ e1];rw[pz] at h';cases L:(a == b') with
   | true=>grind
   | false=>simp_all
  ·rename_i u1 u2 u3 kk j a k b' e1 S T;obtain⟨y1,F,z⟩:=part hx S (by rw[e1];rfl) (by rw[e1];simp);obtain⟨y2,G,A⟩:=part hy T (by rw[e1];rfl) (by rw[e1];simp);simp only[VR] at z A;subst z;subst A;cases hk:sy j k with
   | false=>simp_all
   | true=>
    rw[hk] at h';have:=pB hk;subst this;simp only[Op.eqFields,C,ne_eq,not_false_eq_true,if_true,sB_,F,G,rA,run_equalIn_int w (d+1) f.type _ _ _ _ e1];rw[dK] at h';cases L:decide (a=b') with
    | true=>grind
    | false=>simp_all
  ·rename_i u1 u2 u3 a b' e1 S T;obtain⟨y1,F,z⟩:=part hx S (by rw[e1];rfl) (by rw[e1];simp);obtain⟨y2,G,A⟩:=part hy T (by rw[e1];rfl) (by rw[e1];simp);simp only[VR] at z A;obtain⟨s1,rfl,ab⟩:=z;obtain⟨s2,rfl,ac⟩:=A;simp only[Op.eqFields,C,ne_eq,not_false_eq_true,if_true,sB_,F,G,rA,run_equalIn_string w (d+1) f.type _ _ e1];rw[nR ab ac] at h';cases L:(s1.toList == s2.toList) with
   | true=>grind
   | false=>simp_all
  ·rename_i u1 u2 u3 gs e1;cases ar:P.stoodInHeld f.type with
   | true=>simp_all
   | false=>
   cases W:lH gs.toList with
   | false=>simp_all
   | true=>
   rw[ar,W] at h';simp only[Bool.not_true,Bool.or_false,cond_false] at h';cases u:dT P f.type with
   | none=>simp_all
   | some q=>
   cases q with
   | none=>simp_all
   | some n=>
   rw[u] at h';dsimp only at h';cases E:iO P gs.toList (takeN (dU xs f.offset) n) (takeN (dU ys f.offset) n) with
   | none=>simp_all
   | some bb=>
    rw[E] at h';obtain⟨Q,F,z⟩:=gz (P:=P) (w:=w) u hx (off:=f.offset);obtain⟨R,G,A⟩:=gz (P:=P) (w:=w) u hy (off:=f.offset);have hq:=lq (P:=P) (w:=w) (d:=d) gs.toList _ _ Q R bb z A W E
    have hE:(Op.equalIn (d+1+1) f.type (.agg Q) (.agg R)).run P w= .ok bb w:=by
     grind [run_equalIn_struct,uF]
    simp only[Op.eqFields,C,ne_eq,not_false_eq_true,if_true,sB_,F,G,rA,hE];cases bb with
    | true=>simp_all
    | false=>simp_all
  ·rename_i u1 u2 u3 m e e1;cases X:r8 P e with
   | false=>simp_all
   | true=>
   rw[X] at h';simp only[cond_true] at h';obtain⟨k,inf,he,K,am⟩:=wN X;cases u:dT P f.type with
   | none=>simp_all
   | some q=>
   cases q with
   | none=>simp_all
   | some n=>
   rw[u] at h';dsimp only at h';rw[bx] at h';split at h'
   case isFalse=>cases h'
   rename_i L;simp only[bA_,Nat.beq_eq,bN] at L;obtain⟨ap,ao,aq⟩:=L;cases E:wj (takeN (dU xs f.offset) n) (takeN (dU ys f.offset) n) with
   | none=>simp_all
   | some bb=>
    rw[E] at h';obtain⟨Q,F,z⟩:=gz (P:=P) (w:=w) u hx (off:=f.offset);obtain⟨R,G,A⟩:=gz (P:=P) (w:=w) u hy (off:=f.offset)
    have hq:=nL (P:=P) (w:=w) (I:=I) (d:=d) he _ _ 0 Q R bb (fun i v hv=>by obtain⟨y,a1,a2⟩:=z.get hv;simp_all)
     (fun i v hv=>by obtain⟨y,a1,a2⟩:=A.get hv;simp_all) E
    rw[ao] at hq
    have hE:(Op.equalIn (d+1+1) f.type (.agg Q) (.agg R)).run P w= .ok bb w:=by
     rw[run_equalIn_array w (d+1) Q R e1 K,rV K,am,List.range_eq_range'];exact hq
    simp only[Op.eqFields,C,ne_eq,not_false_eq_true,if_true,sB_,F,G,rA,hE];cases bb with
    | true=>simp_all
    | false=>simp_all
  cases h'
theorem cU (op:BinOp) (t:TypeId) (x y:Operand) (a b:Value) (h1:¬(a= .nilIface/\b= .nilIface)) (h2:¬(∃c d,a= .agg c/\b= .agg d)):(eqGuard op t x y a b).run P w= .ok () w:=by
 unfold eqGuard
 simp_all
end
section
variable {P:Program} {I:dg} {w:World}
theorem VR.iW {b:Pos} {off len:Nat} {cap:ql} {x:Value} (h:VR I (.slice b off len cap) x):∃a c,x= .slice (some a) len c:=by
  cases cap with
  | upto sz=>
    simp only[VR] at h
    grind
  | known c=>simp only[VR] at h;grind
  | least a sz=>simp only[VR] at h;grind
theorem pC {t:TypeId} {x y:V} {b:Bool} {a c:Value} (h:DK P t x y=some b) (hx:VR I x a) (hy:VR I y c) (op:BinOp) (xo yo:Operand):
    (eqGuard op t xo yo a c).run P w= .ok () w/\(Op.equal t a c).run P w= .ok b w:=by
  unfold DK at h;have aa:∀r:Result Bool,((Op.equalIn (9999+1) t a c).run P w=r)->(Op.equal t a c).run P w=r:=fun r h=>h
  have u:∀r:Result Bool,(∀d,(Op.equalIn (d+1) t a c).run P w=r)->(Op.equal t a c).run P w=r:=fun r h=>h 9999
  split at h
  ·
    rename_i xs ys;simp only[VR] at hx hy;obtain⟨cs,rfl,ab⟩:=hx;obtain⟨ds,rfl,ac⟩:=hy
    grind [structOf,np,run_eqGuard_agg,run_equalIn_struct,uF,mz]
  all_goals (try (cases h;done))
  all_goals (split at h)
  all_goals (try (cases h;done))
  all_goals (try (rename_i hu;cases h))
  all_goals first
    | (obtain⟨a',c',rfl⟩:=VR.iW hx
       simp only[VR] at hy;subst hy;refine⟨cU op t xo yo _ _ (by simp) (by simp),u _ (fun d=>?_)⟩;simp[Op.equalIn,run_underlying hu]
       done)
    | (obtain⟨a',c',rfl⟩:=VR.iW hy
       simp only[VR] at hx;subst hx;refine⟨cU op t xo yo _ _ (by simp) (by simp),u _ (fun d=>?_)⟩;simp[Op.equalIn,run_underlying hu]
       done)
    | (simp only[VR] at hx hy
       subst hx;subst hy;refine⟨cU op t xo yo _ _ (by simp) (by simp),u _ (fun d=>?_)⟩;simp[Op.equalIn,run_underlying hu]
       done)
    | (simp only[VR] at hx hy
       obtain⟨l,_,rfl⟩:=hx;subst hy;refine⟨cU op t xo yo _ _ (by simp) (by simp),u _ (fun d=>?_)⟩;simp[Op.equalIn,run_underlying hu]
       done)
    | (simp only[VR] at hx hy
       obtain⟨l,_,rfl⟩:=hy;subst hx;refine⟨cU op t xo yo _ _ (by simp) (by simp),u _ (fun d=>?_)⟩;simp[Op.equalIn,run_underlying hu]
       done)
    | (simp only[VR] at hx hy
       obtain⟨l,rfl,_⟩:=hx;subst hy;refine⟨cU op t xo yo _ _ (by simp) (by simp),u _ (fun d=>?_)⟩;simp[Op.equalIn,run_underlying hu]
       done)
    | (simp only[VR] at hx hy
       obtain⟨l,rfl,_⟩:=hy;subst hx;refine⟨cU op t xo yo _ _ (by simp) (by simp),u _ (fun d=>?_)⟩;simp[Op.equalIn,run_underlying hu]
       done)
    | (simp only[VR] at hx hy
       obtain⟨l,l',rfl,_⟩:=hx;subst hy;refine⟨cU op t xo yo _ _ (by simp) (by simp),u _ (fun d=>?_)⟩;simp[Op.equalIn,run_underlying hu]
       done)
    | (simp only[VR] at hx hy
       obtain⟨l,l',rfl,_⟩:=hy;subst hx;refine⟨cU op t xo yo _ _ (by simp) (by simp),u _ (fun d=>?_)⟩;simp[Op.equalIn,run_underlying hu]
       done)
    | (rename_i hu
       rw[bx] at h;split at h
       · rename_i A
         cases h;rw[bA_,bA_] at A;obtain⟨hb,ho,hi⟩:=A;have hb:=nB hb;have ho:=nB ho;subst hb;subst ho;obtain⟨j,hj⟩:=Option.isSome_iff_exists.1 hi;simp only[VR] at hx hy;obtain⟨l,hl,rfl⟩:=hx;obtain⟨l',z,rfl⟩:=hy;rw[hl] at z;cases z;refine⟨cU op t xo yo _ _ (by simp) (by simp),u _ (fun d=>?_)⟩;simp[Op.equalIn,run_underlying hu,sizeOf,typeInfo,hj,run_sameAddr_same]
       · cases h)
theorem nk {t:TypeId} {a c:Value} {b:Bool} (h:(Op.equal t a c).run P w= .ok b w)
    (d:∀k m k' m',¬(a= .int k m/\c= .int k' m')) (hf:∀k m k' m',¬(a= .float k m/\c= .float k' m')) (u:∀k m n k' m' n',¬(a= .complex k m n/\c= .complex k' m' n')) (z:∀s s',¬(a= .string s/\c= .string s')):
    (binOp .eql t a c).run P w= .ok (.bool b) w/\(binOp .neq t a c).run P w= .ok (.bool (!b)) w:=by
  constructor
  · unfold binOp
    split<;>first
      | (exact absurd ⟨rfl,rfl⟩<|d _ _ _ _)
      | (exact absurd ⟨rfl,rfl⟩<|hf _ _ _ _)
      | (exact absurd ⟨rfl,rfl⟩<|u _ _ _ _ _ _)
      | (exact absurd ⟨rfl,rfl⟩<|z _ _)
      | (simp only[sB_,h,rA,sP_];done)
      | (rename_i he;cases he)
      | (rename_i he _;cases he)
      | (rename_i he _ _;cases he)
      | (simp_all;done)
  · unfold binOp
    split<;>first
      | (exact absurd ⟨rfl,rfl⟩<|d _ _ _ _)
      | (exact absurd ⟨rfl,rfl⟩<|hf _ _ _ _)
      | (exact absurd ⟨rfl,rfl⟩<|u _ _ _ _ _ _)
      | (exact absurd ⟨rfl,rfl⟩<|z _ _)
      | (simp only[sB_,h,rA,sP_];done)
      | (rename_i he;cases he)
      | (rename_i he _;cases he)
      | (rename_i he _ _;cases he)
      | (simp_all;done)
end
section
variable {P:Program} {I:dg} {w:World}
theorem KN {op:BinOp} {t:TypeId} {k k':IntKind} {a b:Int} {v:V} (h:sF P op t (.int k a) (.int k' b)=some v):
  ∃x,(binOp op t (.int k a) (.int k' b)).run P w= .ok x w/\VR I v x:=by
 unfold sF at h;have vint:∀(j:IntKind) (n:Int),VR I (.int j n) (.int j n):=fun j n=>by simp only[VR]
 have vbool:∀(c:Bool),VR I (.bool c) (.bool c):=fun c=>by simp only[VR]
 by_cases u:op= .shl
 ·subst u;simp only[bx,eu,Gr] at h;split at h
  ·cases h
  rename_i hb;cases h;refine⟨.int k<|k.wrap (a*2 ^ min b.toNat k.bits),?_,vint _ _⟩;have d:¬b<0:=by simpa using hb
  simp[binOp,Op.shift,d]
 by_cases z:op= .shr
 ·subst z;simp only[bx,eu] at h;split at h
  ·cases h
  rename_i hb;cases h;refine⟨.int k<|a.fdiv (2 ^ min b.toNat k.bits),?_,vint _ _⟩;have d:¬b<0:=by simpa using hb
  simp[binOp,Op.shift,d]
 cases hk:sy k k' with
 | false=>simp_all
 | true=>
  have:=pB hk;subst this;cases op<;>first | exact absurd rfl u | exact absurd rfl z | skip
  all_goals simp only[hk,cond_true,bx,dK,eu,Gr,if_true] at h
  case add=>cases h;exact⟨.int k<|k.wrap (a+b),by simp[binOp,Op.intArith],vint _ _⟩
  case sub=>cases h;exact⟨.int k<|k.wrap (a-b),by simp[binOp,Op.intArith],vint _ _⟩
  case mul=>cases h;exact⟨.int k<|k.wrap (a*b),by simp[binOp,Op.intArith],vint _ _⟩
  case quo=>
   by_cases hb:b=0
   ·simp[hb] at h
   simp only[hb,decide_false,if_true,if_false,Bool.false_eq_true,eq_self,oJ_] at h;subst h;exact⟨.int k<|k.wrap<|a.tdiv b,by simp[binOp,Op.intDiv,hb],vint _ _⟩
  case rem=>
   by_cases hb:b=0
   ·simp[hb] at h
   simp only[hb,decide_false,if_true,if_false,Bool.false_eq_true,eq_self,oJ_] at h;subst h;exact⟨.int k<|a.tmod b,by simp[binOp,Op.intDiv,hb],vint _ _⟩
  case and=>cases h;exact⟨_,by simp only[binOp,ne_eq,not_true_eq_false,if_false];rfl,vint _ _⟩
  case or=>cases h;exact⟨_,by simp only[binOp,ne_eq,not_true_eq_false,if_false];rfl,vint _ _⟩
  case xor=>cases h;exact⟨_,by simp only[binOp,ne_eq,not_true_eq_false,if_false];rfl,vint _ _⟩
  case andNot=>cases h;exact⟨_,by simp only[binOp,ne_eq,not_true_eq_false,if_false];rfl,vint _ _⟩
  case eql=>cases h;exact⟨.bool (a == b),by simp[binOp,Op.intCmp],by grind⟩
  case neq=>
   cases h;refine⟨.bool (a !=b),by simp[binOp,Op.intCmp],?_⟩
   grind
  case lss=>cases h;exact⟨.bool<|decide (a<b),by simp[binOp,Op.intCmp],vbool _⟩
  case leq=>
   cases h;refine⟨.bool<|decide (a<=b),by simp[binOp,Op.intCmp],?_⟩
   grind
  case gtr=>cases h;exact⟨.bool<|decide (b<a),by simp[binOp,Op.intCmp],vbool _⟩
  case geq=>
   cases h;refine⟨.bool<|decide (b<=a),by simp[binOp,Op.intCmp],?_⟩
   grind
theorem KO {op:BinOp} {t:TypeId} {a b:List Nat} {x y:ByteArray} {v:V} (hx:gy a x) (hy:gy b y) (h:sF P op t (.str a) (.str b)=some v):
  ∃z,(binOp op t (.string x) (.string y)).run P w= .ok z w/\VR I v z:=by
 unfold sF at h;have lx:=iY hx;have ly:=iY hy;have e1:=nR hx hy;have e2:=zj hx hy;have e3:=zj hy hx
 have e4:∀s u:List UInt8,Op.bytesLess u s= !(Op.bytesLess s u || s == u):=by
  intro s;induction s with
  | nil=>intro u;cases u<;>simp[Op.bytesLess]
  | cons c s ih=>
   intro u;cases u with
   | nil=>simp[Op.bytesLess]
   | cons d u=>
    grind [Op.bytesLess]
 cases op<;>simp only[bx] at h<;>(try (cases h;done))
 case add=>
  split at h
  ·rename_i hb;cases h;rw[nE_,lx,ly] at hb
   refine⟨.string (x++y),?_,by
    simp only[VR];refine⟨_,Z,?_⟩;unfold gy at hx hy⊢;rw[dX,<-hx,<-hy];simp⟩
   have:¬(((x.size+y.size:Nat):Int)>IntKind.i64.max):=by
    have e:IntKind.i64.max=9223372036854775807:=by decide
    rw[e];omega
   simp only[binOp,Op.stringOp];rw[if_neg this];rfl
  cases h
 case eql=>cases h;exact⟨.bool (x.toList == y.toList),Z,by simp only[VR];rw[e1]⟩
 case neq=>cases h;exact⟨.bool (!(x.toList == y.toList)),Z,by grind [VR]⟩
 case lss=>cases h;exact⟨.bool<|Op.bytesLess x.toList y.toList,Z,by simp only[VR];rw[e2]⟩
 case leq=>
  cases h;refine⟨.bool (Op.bytesLess x.toList y.toList || x.toList == y.toList),Z,?_⟩
  grind [VR]
 case gtr=>
  cases h;refine⟨.bool (!(Op.bytesLess x.toList y.toList || x.toList == y.toList)),Z,?_⟩;simp only[VR];grind
 case geq=>
  cases h;refine⟨.bool (!(Op.bytesLess x.toList y.toList)),Z,?_⟩
  grind [VR]
theorem GA {op:BinOp} {t:TypeId} {x y v:V} {a c:Value} (hx:VR I x a) (hy:VR I y c) (h:sF P op t x y=some v) (xo yo:Operand):
  ∃z,(eqGuard op t xo yo a c).run P w= .ok () w/\(binOp op t a c).run P w= .ok z w/\VR I v z:=by
 have other:(∀k n,x≠ .int k n)->(∀s,x≠ .str s)->(∀b,x≠ .bool b)->x≠ .any->(∀a,x≠ .n9 a)->(∀a,x≠ .tok a)->
   ∃z,(eqGuard op t xo yo a c).run P w= .ok () w/\(binOp op t a c).run P w= .ok z w/\VR I v z:=by
  intro h1 d h3 h4 h5 F
  have h':mP P op t x y=some v:=by
   rw[<-h];unfold sF;split
   ·exact absurd Z<|h1 _ _
   ·exact absurd Z<|d _
   ·exact absurd Z<|h3 _
   rfl
  have u:(∀k m k' m',¬(a= .int k m/\c= .int k' m'))/\(∀k m k' m',¬(a= .float k m/\c= .float k' m'))/\(∀k m n k' m' n',¬(a= .complex k m n/\c= .complex k' m' n'))/\(∀s s',¬(a= .string s/\c= .string s')):=by
   cases x with
   | int k n=>exact absurd Z (h1 k n)
   | str s=>exact absurd Z (d s)
   | bool b=>exact absurd Z (h3 b)
   | any=>exact absurd Z h4
   | n9 a=>exact absurd Z (h5 a)
   | tok a=>exact absurd Z (F a)
   | slice b off len cap=>obtain⟨_,_,rfl⟩:=VR.iW hx;simp
   | _=>simp only[VR] at hx;first | (subst hx;simp;done) | (obtain⟨_,_,rfl⟩:=hx;simp;done) | (obtain⟨_,rfl,_⟩:=hx;simp;done) | (obtain⟨_,_,rfl,_⟩:=hx;simp;done)
  obtain⟨n1,B,C,E⟩:=u;cases op<;>(try (cases h';done))
  case eql=>
   dsimp only[mP] at h';cases hq:DK P t x y with
   | none=>rw[hq] at h';cases h'
   | some b=>
    rw[hq] at h';cases h';obtain⟨g1,A⟩:=pC (P:=P) (w:=w) hq hx hy .eql xo yo;exact⟨_,g1,(nk A n1 B C E).1,by simp only[VR]⟩
  case neq=>
   dsimp only[mP] at h';cases hq:DK P t x y with
   | none=>rw[hq] at h';cases h'
   | some b=>
    rw[hq] at h';cases h';obtain⟨g1,A⟩:=pC (P:=P) (w:=w) hq hx hy .neq xo yo;exact⟨_,g1,(nk A n1 B C E).2,by simp only[VR];rw[cond_not]⟩
 cases x with
 | int k n=>
  cases y with
  | int k' n'=>
   simp only[VR] at hx hy;subst hx;subst hy;obtain⟨z,h1,d⟩:=KN (I:=I) (w:=w) h;exact⟨z,cU op t xo yo _ _ (by simp) (by simp),h1,d⟩
  | _=>unfold sF at h;cases op<;>first | (simp[mP,DK] at h;done) | (cases h;done)
 | str s=>
  cases y with
  | str s'=>
   simp only[VR] at hx hy;obtain⟨x,rfl,hx⟩:=hx;obtain⟨y,rfl,hy⟩:=hy;obtain⟨z,h1,d⟩:=KO (I:=I) (w:=w) hx hy h;exact⟨z,cU op t xo yo _ _ (by simp) (by simp),h1,d⟩
  | _=>unfold sF at h;cases op<;>first | (simp[mP,DK] at h;done) | (cases h;done)
 | bool b=>
  cases y with
  | bool b'=>
   simp only[VR] at hx hy;subst hx;subst hy;unfold sF at h;refine(fun(hh:∃z,(binOp op t (.bool b) (.bool b')).run P w= .ok z w/\VR I v z)=>let ⟨z,h1,d⟩:=hh;⟨z,cU op t xo yo _ _ (by simp) (by simp),h1,d⟩) ?_;dsimp only at h;split at h
   ·rename_i hu;cases h;exact⟨_,run_eql_bool w t b b' hu,by simp only[VR];rw[pz]⟩
   ·rename_i hu;cases h;refine⟨_,run_neq_bool w t b b' hu,?_⟩;simp only[VR];rw[Ij];cases b<;>cases b'<;>rfl
   cases h
  | _=>unfold sF at h;cases op<;>first | (simp[mP,DK] at h;done) | (cases h;done)
 | any=>unfold sF at h;cases op<;>first | (simp[mP,DK] at h;done) | (cases h;done)
 | n9 a=>unfold sF at h;cases op<;>first | (simp[mP,DK] at h;done) | (cases h;done)
 | tok a=>unfold sF at h;cases op<;>first | (simp[mP,DK] at h;done) | (cases h;done)
 | _=>exact other (by simp) (by simp) (by simp) (by simp) (by simp) (by simp)
theorem Ds {op:BinOp} {t:TypeId} {x y v:V} {a c:Value} (hx:VR I x a) (hy:VR I y c) (h:H6 P op t x y=some v) (xo yo:Operand):
  ∃z,(eqGuard op t xo yo a c).run P w= .ok () w/\(binOp op t a c).run P w= .ok z w/\VR I v z:=by
 unfold H6 at h;split at h
 ·split at h
  ·rename_i u1 u2 n;simp only[bx] at h;split at h
   ·rename_i m hle;cases h;rw[nE_] at hle;simp only[VR] at hx hy;obtain⟨k,rfl,hk⟩:=hy;subst hx;have b:¬((k:Int)<Int.ofNat n):=by grind
    exact⟨.bool<|decide ((k:Int)<Int.ofNat n),cU .gtr t xo yo _ _ (by simp) (by simp),by simp[binOp,Op.intCmp],by simp only[VR,b,decide_false]⟩
   cases h
  cases h
 exact GA hx hy h xo yo
theorem Dt {op:BinOp} {t:TypeId} {x y v:V} {a c:Value} (hx:VR I x a) (hy:VR I y c) (xo yo:Operand) (h:sG P (yV xo || yV yo) op t x y=some v):
  ∃z,(eqGuard op t xo yo a c).run P w= .ok () w/\(binOp op t a c).run P w= .ok z w/\VR I v z:=by
 by_cases b:x= .nilIface/\y= .nilIface
 ·obtain⟨rfl,rfl⟩:=b;simp only[VR] at hx hy;subst hx;subst hy;have h:Je P op t (yV xo || yV yo)=some v:=h;unfold Je at h;rw[bx] at h;split at h
  ·rename_i hk
   have hg:(eqGuard op t xo yo .nilIface .nilIface).run P w= .ok () w:=by
    unfold eqGuard;cases xo<;>cases yo<;>first | exact absurd hk Bool.false_ne_true | (cases op<;>simp)
   split at h
   ·rename_i ms hu
    have heq:(Op.equal t .nilIface .nilIface).run P w= .ok true w:=by
     have:∀d,(Op.equalIn (d+1) t .nilIface .nilIface).run P w= .ok true w:=fun d=>by simp[Op.equalIn,run_underlying hu]
     exact this 9999
    have hb:=nk heq (fun k m k' m' h=>by cases h.1) (fun k m k' m' h=>by cases h.1) (fun k m n k' m' n' h=>by cases h.1) (fun s s' h=>by cases h.1)
    grind [VR]
   cases h
  cases h
 have h':H6 P op t x y=some v:=by
  cases x<;>first | exact h | (cases y<;>first | exact h | simp_all)
 exact Ds hx hy h' xo yo
end
section
variable {P:Program} {I:dg} {w:World}
theorem iM {ev:Operand->Option V} {f:Operand->Value} {x:Operand} {y i:Nat} (h:fy ev x y=some i) (hx:∀v,ev x=some v->VR I v (f x)) (code:BoundsCode):
  (Instr.sliceBound (f x) y code).run P w= .ok i w/\i<=y:=by
 unfold fy at h;split at h
 ·rename_i k j hv;simp only[bx] at h;split at h
  ·rename_i hb;cases h;rw[nE_] at hb;have hf:=hx _ hv;simp only[VR] at hf;rw[hf];refine⟨?_,hb⟩;have h2:(0:Int)<=Int.ofNat i/\Int.ofNat i<=(y:Int):=⟨Int.natCast_nonneg _,Int.ofNat_le.2 hb⟩;simp only[Instr.sliceBound,asIntOf,sB_,sP_,rA]
   simp_all
  cases h
 cases h
theorem g8 {ev:Operand->Option V} {f:Operand->Value} {len cap l h:Nat} {lo hi:Option Operand} (hb:dh ev len cap lo hi=some (l,h))
  (b:∀x,lo=some x->∀v,ev x=some v->VR I v (f x)) (u:∀x,hi=some x->∀v,ev x=some v->VR I v (f x)) (isSlice:Bool):
  (Instr.sliceBounds isSlice len cap (lo.map f) (hi.map f) none).run P w= .ok (l,h,cap) w/\l<=h/\(len<=cap->h<=cap):=by
 unfold dh at hb;cases hi with
 | none=>
  dsimp only at hb;cases lo with
  | none=>
   dsimp only at hb;cases hb;refine⟨?_,Nat.zero_le _,id⟩;simp[Instr.sliceBounds]
  | some x=>
   dsimp only at hb;cases hx:fy ev x len with
   | none=>simp_all
   | some l'=>
    rw[hx] at hb;cases hb;obtain⟨r,hle⟩:=iM (P:=P) (w:=w) hx (b x Z) .sliceB;refine⟨?_,hle,id⟩;simp[Instr.sliceBounds,r]
 | some y=>
  dsimp only at hb;cases hy:fy ev y cap with
  | none=>simp_all
  | some h'=>
   rw[hy] at hb;dsimp only at hb;obtain⟨r,hle⟩:=iM (P:=P) (w:=w) hy (u y Z) (if isSlice then .sliceAcap else .sliceAlen);cases lo with
   | none=>
    dsimp only at hb;cases hb;refine⟨?_,Nat.zero_le _,fun _=>hle⟩;simp[Instr.sliceBounds,r]
   | some x=>
    dsimp only at hb;cases hx:fy ev x h' with
    | none=>simp_all
    | some l'=>
     rw[hx] at hb;cases hb;obtain⟨z,d⟩:=iM (P:=P) (w:=w) hx (b x Z) .sliceB;refine⟨?_,d,fun _=>hle⟩;simp[Instr.sliceBounds,r,z]
theorem m9 {ev:Operand->Option V} {f:Operand->Value} {len cap l h m:Nat} {lo:Option Operand} {hi mx:Operand} (hm:fy ev mx cap=some m) (hb:dh ev m m lo (some hi)=some (l,h))
  (u:∀x,lo=some x->∀v,ev x=some v->VR I v (f x)) (z:∀v,ev hi=some v->VR I v (f hi)) (A:∀v,ev mx=some v->VR I v (f mx)) (isSlice:Bool):
  (Instr.sliceBounds isSlice len cap (lo.map f) (some<|f hi)<|some<|f mx).run P w= .ok (l,h,m) w/\l<=h/\h<=m/\m<=cap:=by
 obtain⟨B,b⟩:=iM (P:=P) (w:=w) hm A (if isSlice then .slice3Acap else .slice3Alen);unfold dh at hb;dsimp only at hb;cases hy:fy ev hi m with
 | none=>simp_all
 | some h'=>
  rw[hy] at hb;dsimp only at hb;obtain⟨r,hle⟩:=iM (P:=P) (w:=w) hy z .slice3B;cases lo with
  | none=>
   dsimp only at hb;cases hb;refine⟨?_,Nat.zero_le _,hle,b⟩;simp[Instr.sliceBounds,r,B]
  | some x=>
   dsimp only at hb;cases hx:fy ev x h' with
   | none=>simp_all
   | some l'=>
    rw[hx] at hb;cases hb;obtain⟨C,d⟩:=iM (P:=P) (w:=w) hx (u x Z) .slice3C;refine⟨?_,d,hle,b⟩;simp[Instr.sliceBounds,r,C,B]
theorem yE {e:TypeId} {b:Pos} {off lo hi m:Nat} {v:V} {l:Loc} (hl:I b=some l) (h:cut P e b off lo hi m=some v):
  ∃j,P.info? e=some j/\VR I v (.slice (some (if m=lo then(⟨l.dN,l.sh+off,none⟩:Addr) else(⟨l.dN,l.sh+off,none⟩:Addr).add (lo*j.size))) (hi-lo) (m-lo)):=by
 unfold cut at h;cases hj:P.info? e with
 | none=>rw[hj] at h;cases h
 | some j=>
  rw[hj] at h;cases h;refine⟨j,Z,?_⟩;simp only[VR];refine⟨l,hl,?_⟩;rw[Addr.add_eq _ _ Z]
  by_cases hm:m=lo
  ·simp_all
  have:Nat.beq m lo=false:=by
   grind [Nat.beq_eq]
  grind
section
variable {ev:Operand->Option V} {f:Operand->Value} {t:TypeId} {lo hi mx:Option Operand} {v:V}
theorem mO {e:TypeId} {b:Pos} {off len cap:Nat} {l:Loc} (hl:I b=some l) (h:cutAt P ev e b off len cap lo hi mx=some v) (isSlice:Bool)
  (d:∀x,lo=some x->∀v,ev x=some v->VR I v (f x)) (u:∀x,hi=some x->∀v,ev x=some v->VR I v (f x)) (z:∀x,mx=some x->∀v,ev x=some v->VR I v (f x)):
  ∃j l' h' m,(Instr.sliceBounds isSlice len cap (lo.map f) (hi.map f)<|mx.map f).run P w= .ok (l',h',m) w/\P.info? e=some j/\
   VR I v (.slice (some (if m=l' then(⟨l.dN,l.sh+off,none⟩:Addr) else(⟨l.dN,l.sh+off,none⟩:Addr).add (l'*j.size))) (h'-l') (m-l')):=by
 unfold cutAt at h;cases mx with
 | none=>
  dsimp only at h;cases hb:dh ev len cap lo hi with
  | none=>rw[hb] at h;cases h
  | some p=>
   obtain⟨l',h'⟩:=p;rw[hb] at h;obtain⟨r,_,_⟩:=g8 (P:=P) (w:=w) hb d u isSlice;obtain⟨j,hj,hv⟩:=yE hl h
   grind
 | some x=>
  dsimp only at h;cases hm:fy ev x cap with
  | none=>simp_all
  | some m=>
   cases hi with
   | none=>rw[hm] at h;cases h
   | some y=>
    rw[hm] at h;dsimp only at h;cases hb:dh ev m m lo (some y) with
    | none=>rw[hb] at h;cases h
    | some p=>
     obtain⟨l',h'⟩:=p;rw[hb] at h;obtain⟨r,_⟩:=m9 (P:=P) (w:=w) (len:=len) hm hb d (u y Z) (z x Z) isSlice;obtain⟨j,hj,hv⟩:=yE hl h
     grind
theorem jC {e:TypeId} {j:TypeInfo} {a:Addr} {len cap l h m:Nat} (hu:P.underlying t=some (.slice e)) (hj:P.info? e=some j) {lo hi mx:Option Value}
  (hb:(Instr.sliceBounds true len cap lo hi mx).run P w= .ok (l,h,m) w):
  (Instr.sliceAt t (.slice (some a) len cap) lo hi mx).run P w= .ok (.slice (some (if m=l then a else a.add (l*j.size))) (h-l) (m-l)) w:=by
 simp only[Instr.sliceAt,Instr.slice,sB_,run_underlying hu,rA,hb,cu hj,sP_];split<;>rfl
theorem zK {len a c l' h':Nat} (aa:a<=c) (hb:dh ev len a lo hi=some (l',h')):dh ev len c lo hi=some (l',h'):=by
 have up:∀y i,fy ev y a=some i->fy ev y c=some i:=by
  intro y i hy;unfold fy at hy⊢;split at hy
  ·rename_i k i' ab;simp only[bx] at hy⊢;split at hy
   ·rename_i hle;cases hy;rw[nE_] at hle;rw[if_pos (by rw[nE_];omega)]
   cases hy
  cases hy
 unfold dh at hb⊢
 grind
theorem CL {x:Operand} (h:fQ P ev t x lo hi mx=some v)
  (hx:∀v,ev x=some v->VR I v (f x)) (A:∀x,lo=some x->∀v,ev x=some v->VR I v (f x)) (B:∀x,hi=some x->∀v,ev x=some v->VR I v (f x)) (C:∀x,mx=some x->∀v,ev x=some v->VR I v (f x)):
  ∃z,(Instr.sliceAt t (f x) (lo.map f) (hi.map f)<|mx.map f).run P w= .ok z w/\VR I v z:=by
 unfold fQ at h;split at h
 ·rename_i e b off len cap hu d;have hv:=hx _ d;simp only[VR] at hv;obtain⟨l,hl,hf⟩:=hv;obtain⟨j,l',h',m,r,hj,G⟩:=mO (w:=w) hl h true A B C;rw[hf];exact⟨_,jC hu hj r,G⟩
 ·rename_i e b off len sz hu d;have hv:=hx _ d;cases mx with
  | none=>
   dsimp only at h;cases hb:dh ev len len lo hi with
   | none=>rw[hb] at h;cases h
   | some p=>
    obtain⟨l',h'⟩:=p;cases hj:P.info? e with
    | none=>simp_all
    | some j=>
     rw[hb,hj] at h;simp only[bx] at h;split at h
     ·rename_i F;rw[Nat.beq_eq] at F;cases h;obtain⟨r,hle,hle2⟩:=g8 (P:=P) (w:=w) hb A B true;have hle2:=hle2 (nR_ _)
      have wider:∀c,len<=c->(Instr.sliceBounds true len c (lo.map f) (hi.map f) none).run P w= .ok (l',h',c) w:=by
       intro c K
       have M:dh ev len c lo hi=some (l',h'):=by
        have up:∀y i,fy ev y len=some i->fy ev y c=some i:=by
         intro y i hy;unfold fy at hy⊢;split at hy
         ·rename_i k i' aa;simp only[bx] at hy⊢;split at hy
          ·rename_i hle;cases hy;rw[nE_] at hle;rw[if_pos (by rw[nE_];omega)]
          cases hy
         cases hy
        unfold dh at hb⊢
        grind
       exact(g8 (P:=P) (w:=w) M A B true).1
      simp only[VR] at hv;obtain⟨l,hl,⟨c,hf,K,u⟩ | ⟨E,a,hf⟩⟩:=hv
      ·rw[hf];refine⟨_,jC hu hj<|wider c K,?_⟩;simp only[VR];refine⟨l,hl,?_⟩
       by_cases Q:c=l'
       ·grind
       left;refine⟨c-l',?_,by omega,?_⟩
       ·rw[if_neg Q,Addr.add_eq _ _ Z,F,Nat.add_assoc]
       rw[<-u];have:c=l'+(c-l'):=by omega
       grind
      rw[hf];subst E;refine⟨_,jC hu hj<|wider 0<|nR_ _,?_⟩
      simp_all
     cases h
  | some m=>
   simp only[bx] at h;split at h
   ·cases h
   rename_i ab;simp only[VR] at hv;obtain⟨l,hl,⟨c,hf,K,u⟩ | ⟨E,a,hf⟩⟩:=hv
   ·
    obtain⟨j,l',h',m',r,hj,G⟩:=mO (w:=w) hl h true A B C
    have r':(Instr.sliceBounds true len c (lo.map f) (hi.map f)<|some<|f m).run P w= .ok (l',h',m') w:=by
     unfold cutAt at h;dsimp only at h;cases hm:fy ev m len with
     | none=>simp_all
     | some m0=>
      cases hi with
      | none=>rw[hm] at h;cases h
      | some y=>
       rw[hm] at h;dsimp only at h;cases hb:dh ev m0 m0 lo (some y) with
       | none=>rw[hb] at h;cases h
       | some p=>
        obtain⟨l0,h0⟩:=p
        have R:fy ev m c=some m0:=by
         unfold fy at hm⊢;split at hm
         ·simp only[bx] at hm⊢;split at hm
          ·rename_i hle;cases hm;rw[nE_] at hle;rw[if_pos (by rw[nE_];omega)]
          cases hm
         cases hm
        obtain⟨r1,_⟩:=m9 (P:=P) (w:=w) (len:=len) hm hb A (B y Z) (C m Z) true;obtain⟨r2,_⟩:=m9 (P:=P) (w:=w) (len:=len) R hb A (B y Z) (C m Z) true
        simp_all
    rw[hf];exact⟨_,jC hu hj r',G⟩
   simp_all
 ·rename_i e b off len a sz hu d;have hv:=hx _ d;simp only[VR] at hv;obtain⟨l,hl,c,hf,S,u⟩:=hv;cases mx with
  | some _=>cases h
  | none=>
   dsimp only at h;cases hb:dh ev len a lo hi with
   | none=>rw[hb] at h;cases h
   | some p=>
    obtain⟨l',h'⟩:=p;cases hj:P.info? e with
    | none=>simp_all
    | some j=>
     rw[hb,hj] at h;simp only[bx] at h;split at h
     ·rename_i K;cases h;simp only[bA_,Nat.beq_eq,nE_] at K;obtain⟨F,ac,am⟩:=K;obtain⟨r,hle,hle2⟩:=g8 (P:=P) (w:=w) (zK S hb) A B true;rw[hf];refine⟨_,jC hu hj r,?_⟩;simp only[VR];refine⟨l,hl,c-l',?_,by omega,?_⟩
      ·rw[if_neg oM,Addr.add_eq _ _ Z,F,Nat.add_assoc]
      rw[<-u];have:c=l'+(c-l'):=by omega
      grind
     cases h
 ·rename_i e hu d;have hv:=hx _ d;simp only[VR] at hv;cases mx with
  | some _=>cases h
  | none=>
   dsimp only at h;cases hb:dh ev 0 0 lo hi with
   | none=>rw[hb] at h;cases h
   | some p=>
    obtain⟨l',h'⟩:=p;cases L:P.info? e with
    | none=>simp_all
    | some je=>
    rw[hb,L] at h;cases h;obtain⟨r,hle,hle2⟩:=g8 (P:=P) (w:=w) hb A B true;have hle2:=hle2 (nR_ _);have:l'=0:=by omega
    have:h'=0:=by omega
    subst_vars
    rw[hv];refine⟨.slice none 0 0,?_,by simp only[VR]⟩;simp[Instr.sliceAt,Instr.slice,run_underlying hu,r,cu L]
 ·rename_i n e b off hu d;have hv:=hx _ d;simp only[VR] at hv;obtain⟨l,hl,hf⟩:=hv;obtain⟨j,l',h',m,r,hj,G⟩:=mO (w:=w) hl h false A B C;rw[hf];refine⟨_,?_,G⟩;simp only[Instr.sliceAt,sB_,run_underlying hu,rA,Instr.sureAddr,sP_,r,cu hj]
 ·rename_i arr b off hu d;have hv:=hx _ d;simp only[VR] at hv;obtain⟨l,hl,hf⟩:=hv;split at h
  ·rename_i n e T;obtain⟨j,l',h',m,r,hj,G⟩:=mO (w:=w) hl h false A B C;rw[hf];refine⟨_,?_,G⟩;simp only[Instr.sliceAt,Instr.slice,sB_,run_underlying hu,run_underlying T,asAddr,rA,sP_,r,cu hj]
  cases h
 ·rename_i s hu d;have hv:=hx _ d;simp only[VR] at hv;obtain⟨bs,hf,W⟩:=hv;cases mx with
  | some _=>cases h
  | none=>
   dsimp only at h;cases hb:dh ev (dn s) (dn s) lo hi with
   | none=>rw[hb] at h;cases h
   | some p=>
    obtain⟨l',h'⟩:=p;rw[hb] at h;cases h;rw[iY W] at hb;obtain⟨r,hle,hle2⟩:=g8 (P:=P) (w:=w) hb A B false;rw[hf];refine⟨.string<|bs.extract l' h',?_,?_⟩
    ·simp[Instr.sliceAt,Instr.slice,run_underlying hu,r]
    simp only[VR];refine⟨_,Z,?_⟩
    grind [gy,dp,dQ,Lib.extract_data,List.map_take,List.map_drop]
 cases h
end
end
section
variable {P:Program} {I:dg} {w:World}
theorem w9 {t:TypeId} {cs:List V} {ys:Array Value} {off:Nat} {v:V} (h:FU P t cs off=some v) (A:dA I cs ys.toList):∃y,(part t ys off).run P w= .ok y w/\VR I v y:=by
 unfold FU at h;split at h
 ·rename_i n b;cases h;obtain⟨d,i,hu,hi,u,z⟩:=rK b;refine⟨.agg<|ys.extract off (off+n),?_,?_⟩
  ·simp only[part,sB_,fg hu,z,rA,if_true,cu hi,u,sP_]
  simp only[VR];refine⟨_,Z,?_⟩;rw[dp,dQ,Array.toList_extract];have:=(A.drop off).take n
  simp_all
 ·rename_i b;obtain⟨d,i,hu,hi,z⟩:=vS b;rw[eU] at h;obtain⟨y,h1,B⟩:=A.get h;refine⟨y,?_,B⟩;have:ys[off]?=some y:=by simp_all
  simp only[part,sB_,fg hu,z,rA,Bool.false_eq_true,if_false,this,sP_]
 cases h
theorem gB {ev:Operand->Option V} {f:Operand->Value}:∀{l:List Operand} {vs:List V},cQ ev l=some vs->(∀x∈l,∀v,ev x=some v->VR I v (f x))->dA I vs (l.map f)
 | [],vs,h,_=>by rw[gO] at h;cases h;exact dA.nil
 | x::l,vs,h,b=>by
  obtain⟨y,r,h1,d,rfl⟩:=gq h;exact dA.cons (b x (by simp) y h1)<|gB d fun z u=>b z (by simp[u])
theorem G9 {t ty:TypeId} {x:V} {y:Value} {n:Nat} {ts:Array TypeId} (h:wP P t x=some n) (hx:VR I x y) (d:ts[0]?=some t):(Builtin.len_ ts ty #[y]).run P w= .ok (.int .i64<|Int.ofNat n) w:=by
 unfold wP at h;split at h
 ·rename_i s hu;cases h;simp only[VR] at hx;obtain⟨bs,rfl,u⟩:=hx;rw[iY u];simp[Builtin.len_,d,run_underlying hu,goInt]
 ·rename_i m e hu;cases h;simp[Builtin.len_,d,run_underlying hu,goInt]
 ·rename_i e b off m cap hu;cases h;obtain⟨a,c,rfl⟩:=VR.iW hx;simp[Builtin.len_,d,run_underlying hu,goInt]
 ·rename_i e hu;cases h;simp only[VR] at hx;subst hx;simp[Builtin.len_,d,run_underlying hu,goInt]
 ·rename_i k e hu;cases h;simp only[VR] at hx;subst hx;simp[Builtin.len_,d,run_underlying hu,goInt]
 cases h
theorem wW {x:V} {y:Value} (hx:VR I x y) (h:x≠ .nilPtr/\x≠ .nilIface/\x≠ .nilFunc/\(∀l,x≠ .yield l)/\x≠ .any/\(∀n,x≠ .tok n)) (f:Operand->Value) (o:Oper) (z:Operand) (d:o.op= .nilCheck z) (hf:f z=y):
  (execOp f o).run P w= .ok (.value y) w:=by
 have key:(y≠ .pointer none)/\y≠ .nilIface/\y≠ .nilFunc/\∀n a b,y≠ .func (.method n) a b:=by
  obtain⟨h1,u,h3,h4,h5,A⟩:=h;cases x with
  | tok n=>exact absurd Z (A n)
  | any=>exact absurd Z h5
  | nilPtr=>exact absurd Z h1
  | nilIface=>exact absurd Z u
  | nilFunc=>exact absurd Z h3
  | yield l=>exact absurd Z (h4 l)
  | slice b off len cap=>obtain⟨_,_,rfl⟩:=VR.iW hx;simp
  | _=>simp only[VR] at hx;first | (subst hx;simp;done) | (obtain⟨_,_,rfl⟩:=hx;simp;done) | (obtain⟨_,rfl,_⟩:=hx;simp;done) | (obtain⟨_,_,rfl,_⟩:=hx;simp;done)
 obtain⟨B,k2,C,E⟩:=key;simp only[execOp,d,hf,B,k2,C,E];rfl
theorem xi {ev:Operand->Option V} {f:Operand->Value} {o:Oper} {v:V} (B:ER I ev f o.op) (h:dj P ev o.op=some v):
  ∃x,(execOp f o).run P w= .ok (.value x) w/\VR I v x:=by
 cases E:o.op with
 | move x=>
  rw[E] at h B;exact⟨f x,by simp[execOp,E],B x (by simp[Op.operands]) v h⟩
 | assign x=>
  rw[E] at h B;exact⟨f x,by simp[execOp,E],B x (by simp[Op.operands]) v h⟩
 | pick c a b=>
  rw[E] at h B;simp only[dj] at h;split at h
  ·rename_i K;have:=B c (by simp[Op.operands]) _ K;simp only[VR] at this;exact⟨f a,by simp[execOp,E,this,asBool],B a (by simp[Op.operands]) v h⟩
  ·rename_i K;have:=B c (by simp[Op.operands]) _ K;simp only[VR] at this;exact⟨f b,by simp[execOp,E,this,asBool],B b (by simp[Op.operands]) v h⟩
  cases h
 | build t parts=>
  rw[E] at h B;obtain⟨x,h1,R⟩:=BB (I:=I) (w:=w) (f:=f) (fun p hp u hu=>B p.2 (by simp only[Op.operands,List.mem_toArray,List.mem_map];grind) u hu) h
  grind [execOp,sB_,rA,sP_]
 | nilCheck x=>
  rw[E] at h B;simp only[dj] at h;split at h
  ·cases h
  ·cases h
  ·cases h
  ·cases h
  ·cases h
  ·cases h
  rename_i n1 n2 n3 n4 n5 n6;have hv:=B x (by simp[Op.operands]) v h;exact⟨f x,wW hv ⟨fun e=>n1 (by rw[h,e]),fun e=>n2 (by rw[h,e]),fun e=>n3 (by rw[h,e]),(fun l e=>n4 l (by rw[h,e])),(fun e=>n5 (by rw[h,e])),fun k e=>n6 k (by rw[h,e])⟩ f o x E Z,hv⟩
 | binOp op t x y ty=>
  rw[E] at h B;simp only[dj] at h;split at h
  ·rename_i a b ha hb;obtain⟨z,h1,R,h3⟩:=Dt (P:=P) (w:=w) (B x (by simp[Op.operands]) a ha) (B y (by simp[Op.operands]) b hb) x y h
   grind [execOp,sB_,rA,sP_]
  cases h
 | unOp op t x=>
  rw[E] at h B;simp only[dj] at h;split at h
  ·rename_i b hb;cases h;have:=B x (by simp[Op.operands]) _ hb;simp only[VR] at this;exact⟨.bool (!b),by simp[execOp,E,this,Op.unary],by simp only[VR];rw[cond_not]⟩
  ·rename_i k n hb;cases h;have:=B x (by simp[Op.operands]) _ hb;simp only[VR] at this;refine⟨.int k<|k.wrap (0-n),?_,by simp only[VR];rw[Gr];rfl⟩
   grind [execOp,Op.unary,Op.intArith,sP_]
  ·rename_i k n hb;cases h;have:=B x (by simp[Op.operands]) _ hb;simp only[VR] at this;refine⟨.int k<|k.wrap (BitVec.ofInt k.bits (if k.signed then-1 else k.max) ^^^ BitVec.ofInt k.bits n).toNat,?_,by simp only[VR]⟩
   grind [execOp,Op.unary,Op.intBits,sP_]
  cases h
 | convert src dst x=>
  rw[E] at h B;simp only[dj] at h;split at h
  ·rename_i L M S k1 k k2 n e1 G e3;cases h;have:=B x (by simp[Op.operands]) _ e3;simp only[VR] at this;refine⟨.int k<|k.wrap n,?_,by simp only[VR];rw[Gr]⟩;simp[execOp,E,this,convert,run_underlying e1,run_underlying G,Conv.intToInt]
  ·rename_i L M S s e1 G e3;cases h;have hv:=B x (by simp[Op.operands]) _ e3;have hv':=hv;simp only[VR] at hv';obtain⟨bs,hf,T⟩:=hv';refine⟨f x,?_,hv⟩;rw[hf];simp[execOp,E,hf,convert,run_underlying e1,run_underlying G]
  cases h
 | makeInterface t x=>
  rw[E] at h B;simp only[dj] at h;split at h
  ·cases h
  ·rename_i L M d u hn e1 G;cases h;have hv:=B x (by simp[Op.operands]) _ G;refine⟨.iface t<|f x,?_,by simp only[VR];simp_all⟩;simp only[execOp,E,Instr.makeInterface,sB_,run_underlying e1,rA]
   simp_all
  cases h
 | makeFunc fn first captured=>
  rw[E] at h B;simp only[dj] at h;split at h
  ·rename_i L M S g a b e1 G;cases h;have ha:=gB (f:=f) e1 (fun x hx u hu=>B x (by grind [Op.operands]) u hu);have hb:=gB (f:=f) G (fun x hx u hu=>B x (by grind [Op.operands]) u hu);refine⟨.func (.func g) (first.map f)<|captured.map f,?_,by simp only[VR];exact⟨_,_,Z,by simpa using ha,by simpa using hb⟩⟩;simp[execOp,E,Instr.makeFunc]
  cases h
 | slice t x lo hi mx=>
  rw[E] at h B;obtain⟨z,h1,R⟩:=CL (P:=P) (w:=w) (f:=f) h (B x (by simp[Op.operands])) (fun y hy=>B y (by subst hy;simp[Op.operands])) (fun y hy=>B y (by subst hy;simp[Op.operands])) (fun y hy=>B y (by subst hy;simp[Op.operands]))
  grind [execOp,sB_,rA,sP_]
 | fieldAddr s x i=>
  rw[E] at h B;simp only[dj] at h;split at h
  ·rename_i fs b off T hx;have hv:=B x (by simp[Op.operands]) _ hx;simp only[VR] at hv;obtain⟨l,hl,hf⟩:=hv;split at h
   ·rename_i fd W;split at h
    ·rename_i j hj;simp only[bx] at h;split at h
     ·cases h
     rename_i aa;cases h;have hz:¬j.size=0:=fun e=>aa (by simp_all)
     refine⟨.pointer<|some ⟨l.dN,l.sh+(off+fd.offset),none⟩,?_,by simp only[VR];simp_all⟩;simp[execOp,E,Instr.fieldAt,run_underlying<|np T,W,hf,Instr.sureAddr,fieldPlace,cu hj,hz,Addr.add_eq,Nat.add_assoc]
    cases h
   cases h
  cases h
 | field t x i=>
  rw[E] at h B;simp only[dj] at h;split at h
  ·rename_i fs cs T hx;have hv:=B x (by simp[Op.operands]) _ hx;simp only[VR] at hv;obtain⟨ys,hf,K⟩:=hv;split at h
   ·rename_i fd W;obtain⟨y,h1,R⟩:=w9 (P:=P) (w:=w) h K;refine⟨y,?_,R⟩;simp[execOp,E,Instr.field,run_underlying<|np T,W,hf,asAgg,h1]
   cases h
  cases h
 | indexAddr t x i=>
  rw[E] at h B;simp only[dj] at h;split at h
  ·rename_i L M S e b off len cap k n hu hx hi;have hv:=B x (by simp[Op.operands]) _ hx;have hn:=B i (by simp[Op.operands]) _ hi;simp only[VR] at hn;split at h
   ·rename_i j hj;simp only[bx] at h;split at h
    ·rename_i F;cases h;rw[nE_] at F;have F:n<len:=F;have Q:(0:Int)<=Int.ofNat n/\Int.ofNat n<(len:Int):=⟨Int.natCast_nonneg _,Int.ofNat_lt.2 F⟩
     have go:∀(a:Addr) (c:Nat),f x= .slice (some a) len c->(execOp f o).run P w= .ok (.value (.pointer<|some<|a.add (n*j.size))) w:=by
      intro a c hf;simp only[execOp,E,Instr.indexAt,hn,hf,asIntOf,sB_,sP_,run_underlying hu,rA];rw[if_pos Q];simp[cu hj]
     cases cap with
     | known c=>
      simp only[VR] at hv;obtain⟨l,hl,hf⟩:=hv;refine⟨_,go _ _ hf,?_⟩;simp only[VR];exact⟨l,hl,by rw[Addr.add_eq _ _ Z,Nat.add_assoc]⟩
     | least a sz=>
      simp only[VR] at hv;obtain⟨l,hl,c,hf,_⟩:=hv;refine⟨_,go _ _ hf,?_⟩;simp only[VR];exact⟨l,hl,by rw[Addr.add_eq _ _ Z,Nat.add_assoc]⟩
     | upto sz=>
      simp only[VR] at hv;obtain⟨l,hl,⟨c,hf,_⟩ | ⟨h0,_⟩⟩:=hv
      ·refine⟨_,go _ _ hf,?_⟩;simp only[VR];exact⟨l,hl,by rw[Addr.add_eq _ _ Z,Nat.add_assoc]⟩
      omega
    cases h
   cases h
  ·rename_i L M S m e b off k n hu hx hi;have hv:=B x (by simp[Op.operands]) _ hx;have hn:=B i (by simp[Op.operands]) _ hi;simp only[VR] at hn hv;obtain⟨l,hl,hf⟩:=hv;split at h
   ·rename_i j hj;simp only[bx] at h;split at h
    ·rename_i F;cases h;rw[nE_] at F;have F:n<m:=F;have Q:(0:Int)<=Int.ofNat n/\Int.ofNat n<(m:Int):=⟨Int.natCast_nonneg _,Int.ofNat_lt.2 F⟩;refine⟨.pointer<|some ⟨l.dN,l.sh+(off+n*j.size),none⟩,?_,by simp only[VR];simp_all⟩;simp only[execOp,E,Instr.indexAt,hn,hf,asIntOf,sB_,sP_,run_underlying hu,rA,Instr.sureAddr];rw[if_pos Q];simp[cu hj,Addr.add_eq,Nat.add_assoc]
    cases h
   cases h
  cases h
 | index t x i=>
  rw[E] at h B;simp only[dj] at h;split at h
  ·rename_i L M S m e cs k n hu hx hi;have hv:=B x (by simp[Op.operands]) _ hx;have hn:=B i (by simp[Op.operands]) _ hi;simp only[VR] at hn hv;obtain⟨ys,hf,K⟩:=hv;simp only[bx] at h;split at h
   ·rename_i F;rw[nE_] at F;have F:n<m:=F;have Q:(0:Int)<=Int.ofNat n/\Int.ofNat n<(m:Int):=⟨Int.natCast_nonneg _,Int.ofNat_lt.2 F⟩;split at h
    ·rename_i j hj;obtain⟨y,h1,R⟩:=w9 (P:=P) (w:=w) h K;refine⟨y,?_,R⟩;simp only[execOp,E,Instr.index,hn,hf,asIntOf,sB_,sP_,run_underlying hu,rA];rw[if_pos Q];simp[cu hj,h1]
    cases h
   cases h
  ·rename_i L M S s k n hu hx hi;have hv:=B x (by simp[Op.operands]) _ hx;have hn:=B i (by simp[Op.operands]) _ hi;simp only[VR] at hn hv;obtain⟨bs,hf,T⟩:=hv;split at h
   ·rename_i c K;cases h;rw[eU] at K;unfold gy at T;rw[<-T,gM_] at K;cases hb:bs.data.toList[n]? with
    | none=>simp_all
    | some bt=>
     rw[hb] at K;cases K;have ab:bs[n]?=some bt:=by rw[<-hb,aT_];rfl
     refine⟨.int .u8 (bt.toNat:Int),?_,by simp only[VR];rfl⟩;have h0:(0:Int)<=Int.ofNat n:=Int.natCast_nonneg _;simp only[execOp,E,Instr.index,hn,hf,asIntOf,sB_,sP_,run_underlying hu,rA]
     simp_all
   cases h
  cases h
 | typeAssert x xt ty ok=>
  rw[E] at h B;simp only[dj] at h
  have zero:∀{v:V},((fw P ty).map fun z=>V.tuple [z,.bool false])=some v->∃z,(zeroValue ty).run P w= .ok z w/\VR I v (.tuple #[z,.bool false]):=fun {v} hz=>by
   cases hq:fw P ty with
   | none=>simp_all
   | some z=>
    rw[hq] at hz;cases hz;obtain⟨i,y,hi,hy,hv⟩:=qk hq;refine⟨y,by simp[zeroValue,typeInfo,hi,hy],?_⟩;simp only[VR];exact⟨_,Z,dA.cons (hv I)<|dA.cons (by simp only[VR]) dA.nil⟩
  split at h
  ·cases h
  ·rename_i L M d u v' hn e1 G;have hv:=B x (by simp[Op.operands]) _ G;simp only[VR] at hv;obtain⟨y,hf,hv⟩:=hv;rw[bx] at h;split at h
   ·rename_i hu;have:=nB hu;subst this;cases ok with
    | true=>
     simp only[cond_true] at h;cases h;refine⟨.tuple #[y,.bool true],?_,by simp only[VR];exact⟨_,Z,dA.cons hv<|dA.cons (by simp only[VR]) dA.nil⟩⟩;simp only[execOp,E,Instr.typeAssert,hf,sB_,run_underlying e1,rA]
     simp_all
    | false=>
     simp only[cond_false] at h;cases h;refine⟨y,?_,hv⟩;simp only[execOp,E,Instr.typeAssert,hf,sB_,run_underlying e1,rA]
     simp_all
   rename_i hu;have aa:¬u=ty:=fun e=>hu (by simp_all)
   cases ok with
   | true=>
    obtain⟨z,hz,X⟩:=zero h;refine⟨_,?_,X⟩;simp only[execOp,E,Instr.typeAssert,hf,sB_,run_underlying e1,rA]
    simp_all
   | false=>cases h
  ·rename_i L M d hn e1 G;have hv:=B x (by simp[Op.operands]) _ G;simp only[VR] at hv;cases ok with
   | true=>
    obtain⟨z,hz,X⟩:=zero h;refine⟨_,?_,X⟩;simp only[execOp,E,Instr.typeAssert,hv,sB_,run_underlying e1,rA]
    simp_all
   | false=>cases h
  cases h
 | extract x i=>
  rw[E] at h B;simp only[dj] at h;split at h
  ·rename_i vs hx;have hv:=B x (by simp[Op.operands]) _ hx;simp only[VR] at hv;obtain⟨ys,hf,K⟩:=hv;rw[eU] at h;obtain⟨y,h1,R⟩:=K.get h;have:ys[i]?=some y:=by simp_all
   exact⟨y,by simp[execOp,E,Instr.extract,hf,this],R⟩
  cases h
 | call c=>
  rw[E] at h B;simp only[dj] at h;split at h
  ·rename_i C;split at h
   ·rename_i L M t x e1 G;split at h
    ·rename_i u hu;cases hl:wP P t u with
     | none=>rw[hl] at h;cases h
     | some n=>
      rw[hl] at h;cases h;have A:c.args= #[x]:=by grind
      have hv:=B x (by simp[Op.operands,Call.operands,C,A]) u hu;refine⟨.int .i64<|Int.ofNat n,?_,by simp only[VR]⟩;have:=G9 (P:=P) (w:=w) (ty:=o.type) hl hv e1;simp[execOp,E,resolve,C,A,invoke,builtin,this]
    cases h
   cases h
  ·rename_i C;split at h
   ·rename_i L M t x e1 G;split at h
    ·rename_i S u4 e u hu hx;have A:c.args= #[x]:=by grind
     have hv:=B x (by simp[Op.operands,Call.operands,C,A]) u hx;unfold MT at h;split at h
     ·rename_i b off len k;cases h;simp only[VR] at hv;obtain⟨l,hl,hf⟩:=hv;refine⟨.int .i64<|Int.ofNat k,?_,by simp only[VR]⟩;simp[execOp,E,resolve,C,A,invoke,builtin,Builtin.cap_,e1,run_underlying hu,hf,goInt]
     ·rename_i b off len a sz;cases h;simp only[VR] at hv;obtain⟨l,hl,k,hf,hk,_⟩:=hv;refine⟨.int .i64<|Int.ofNat k,?_,by simp only[VR];grind⟩;simp[execOp,E,resolve,C,A,invoke,builtin,Builtin.cap_,e1,run_underlying hu,hf,goInt]
     ·cases h;simp only[VR] at hv;refine⟨.int .i64 0,?_,by simp only[VR]⟩;simp[execOp,E,resolve,C,A,invoke,builtin,Builtin.cap_,e1,run_underlying hu,hv,goInt]
     cases h
    cases h
   cases h
  ·rename_i C;split at h
   ·rename_i L x y G;split at h
    ·rename_i a b ha hb;have A:c.args= #[x,y]:=by grind
     have hva:=B x (by simp[Op.operands,Call.operands,C,A]) a ha;have hvb:=B y (by simp[Op.operands,Call.operands,C,A]) b hb;unfold OT at h;split at h
     ·rename_i k n k' m;simp only[VR] at hva hvb;simp only[bx] at h;split at h
      ·cases h;refine⟨.int k (if m<n then m else n),?_,by simp only[VR,eu,decide_eq_true_eq]⟩;simp[execOp,E,resolve,C,A,invoke,builtin,hva,hvb,run_min_int2]
      cases h
     cases h
    cases h
   cases h
  ·rename_i C;split at h
   ·rename_i L x y G;split at h
    ·rename_i a b ha hb;have A:c.args= #[x,y]:=by grind
     have hva:=B x (by simp[Op.operands,Call.operands,C,A]) a ha;have hvb:=B y (by simp[Op.operands,Call.operands,C,A]) b hb;unfold Ns at h;split at h
     ·rename_i k n k' m;simp only[VR] at hva hvb;simp only[bx] at h;split at h
      ·cases h;refine⟨.int k (if m>n then m else n),?_,by simp only[VR,eu,decide_eq_true_eq]⟩;simp[execOp,E,resolve,C,A,invoke,builtin,hva,hvb,run_max_int2]
      cases h
     cases h
    cases h
   cases h
  cases h
 | _=>rw[E] at h;simp[dj] at h
end
inductive HR where
 | val (v:V) (O:N)
 | skip (O:N)
 | enter (f:Nat) (args:List V) (O:N)
 | round (l:Pos) (args:List V) (O:N)
 | mr (v:V) (O:N)
 | err (n:Nat)
def xG (P:Program) (O:N) (t:TypeId) (x v:V):Option N:=
 match x,df v with
 | .ptr b off,some cs=>
  match O.m.get b,P.info? t with
  | some (.row cells e false),some j=>
   bif Nat.beq (dn cs) j.size && Nat.ble (off+j.size) (dn cells) && cE cs then some (O.setObj b (.row (dM cs cells off) e false)) else none
  | some (.own cells e),some j=>
   bif Nat.beq (dn cs) j.size && Nat.ble (off+j.size) (dn cells) && cE cs then some (O.setObj b (.own (dM cs cells off) e)) else none
  | _,_=>none
 | _,_=>none
def kC (O:N) (sz:Nat):V->Option (Nat×List V)
 | .av=>some (0,[])
 | .slice b off len _=>match O.m.get b with
  | some (.row cells _ _)=>bif Nat.ble (off+len*sz) (dn cells) then some (len,takeN (dU cells off) (len*sz)) else none
  | _=>none
 | .str s=>bif Nat.beq sz 1 then some (dn s,ya (fun c=>.int .u8 (Int.ofNat c)) s) else none
 | _=>none
def dC (P:Program) (t:Option TypeId):Bool:=
 match t with
 | some t=>match P.underlying t with
  | some (.slice _) | some .string=>true
  | _=>false
 | none=>true
def grow (O:N) (e:Nat) (cs:List V) (len sz:Nat):HR:=
 .val (.slice O.next 0 len (.upto sz)) (O.alloc (.row cs e false))
def fM (P:Program) (O:N) (ts:Array TypeId) (s x:V):HR:=
 match ts[0]? with
 | some t=>match P.underlying t with
  | some (.slice e)=>match P.info? e with
   | some j=>
    bif dC P ts[1]? && Nat.ble 1 j.size && Nat.ble j.bytes 65536 then
     match kC O j.size x with
     | some (n,news)=>
      bif cE news && Nat.ble n 1048576 && (P.info? e).any (fun j=>(j.zero.bind pP).any fun z=>(df z).any fun cs=>Nat.beq (dn cs) j.size) then
       match s with
       | .av=>bif Nat.beq n 0 then .val .av O else grow O e news n j.size
       | .slice b off len (.known c)=>
        bif Nat.ble (len+n) c then
         match O.m.get b with
         | some (.row cells e' false)=>
          bif Nat.ble (off+len*j.size+dn news) (dn cells) then .val (.slice b off (len+n) (.known c)) (O.setObj b (.row (dM news cells (off+len*j.size)) e' false)) else .err 21
         | _=>bif Nat.beq n 0 then .val (.slice b off len (.known c)) O else .err 22
        else match O.m.get b with
         | some (.row cells _ _)=>
          bif Nat.ble (off+len*j.size) (dn cells) && Nat.ble len 1048576 then grow O e (gE (takeN (dU cells off) (len*j.size)) news) (len+n) j.size else .err 23
         | _=>.err 24
       | .slice b off len (.upto sz)=>
        bif Nat.beq n 0 then .val (.slice b off len (.upto sz)) O else
        bif Nat.beq sz j.size && Nat.ble len 1048576 then
         match O.m.get b with
         | some (.row cells e' false)=>
          bif Nat.ble 1 len && Nat.ble (off+len*j.size+dn news) (dn cells) then
           .val (.slice b off (len+n) (.upto sz)) (O.setObj b (.row (dM news cells (off+len*j.size)) e' false))
          else bif Nat.ble (off+len*j.size) (dn cells) && Nat.beq e' e then grow (O.drop b) e (gE (takeN (dU cells off) (len*j.size)) news) (len+n) j.size else .err 25
         | _=>.err 26
        else .err 27
       | _=>.err 28
      else .err 29
     | none=>.err 30
    else .err 31
   | none=>.err 32
  | _=>.err 33
 | none=>.err 34
def n8 (P:Program) (O:N) (ts:Array TypeId) (s x:V):HR:=
 match ts[0]?,ts[1]? with
 | some t,some t2=>match P.underlying t,P.underlying t2 with
  | some (.slice e),some (.int _)=>match P.info? e,(fw P e).bind df,x with
   | some j,some zs,.int .i64 (.ofNat n)=>
    bif Nat.ble n 1048576 && (Nat.ble 1 n && (Nat.ble 1 j.size && (Nat.ble j.bytes 65536 && Nat.beq (dn zs) j.size))) then
     match s with
     | .av=>grow O e (fl zs n) n j.size
     | .slice b off len (.known c)=>
      bif Nat.ble (len+n) c then .err 37 else match O.m.get b with
       | some (.row cells _ _)=>bif Nat.ble (off+len*j.size) (dn cells) && Nat.ble len 1048576 then grow O e (gE (takeN (dU cells off) (len*j.size))<|fl zs n) (len+n) j.size else .err 23
       | _=>.err 24
     | _=>.err 38
    else .err 39
   | _,_,_=>.err 46
  | _,_=>.err 47
 | _,_=>.err 48
def rk (P:Program) (O:N) (ts:Array TypeId) (d x:V):HR:=
 match ts[0]? with
 | some t=>match P.underlying t with
  | some (.slice e)=>match P.info? e with
   | some j=>match kC O j.size x,d with
    | some (n,news),.slice b off len _=>
     bif Nat.beq (Nat.min n len) 0 then .val (.int .i64 0) O else
     match O.m.get b with
     | some (.row cells e' false)=>
      bif cE (takeN news (Nat.min n len*j.size)) && Nat.ble 1 j.size && Nat.ble (off+dn (takeN news (Nat.min n len*j.size))) (dn cells) then
       .val (.int .i64<|Int.ofNat<|Nat.min n len) (O.setObj b (.row (dM (takeN news (Nat.min n len*j.size)) cells off) e' false)) else .err 40
     | _=>.err 41
    | some (_,_),.av=>.val (.int .i64 0) O
    | _,_=>.err 42
   | none=>.err 43
  | _=>.err 44
 | none=>.err 45
def zO (P:Program) (O:N) (ts:Array TypeId) (x:V):Option N:=
 match ts[0]? with
 | some t=>match P.underlying t with
  | some (.slice e)=>match x with
   | .av=>some O
   | .slice b off len _=>bif Nat.beq len 0 then some O else
    match(fw P e).bind df,O.m.get b with
    | some zs,some (.row cells e' false)=>bif cE (fl zs len) && Nat.ble 1 (dn zs) && Nat.ble (off+dn (fl zs len)) (dn cells) then some (O.setObj b (.row (dM (fl zs len) cells off) e' false)) else none
    | _,_=>none
   | _=>none
  | _=>none
 | none=>none
def AG (e:fC) (es:List fC) (i:Nat):List fC:=EK e es i
def wb (es:List fC):Nat->List fC:=
 List.rec (motive:=fun _=>Nat->List fC) (fun _=>[]) (fun x l ih n=>Nat.rec (motive:=fun _=>List fC) l (fun m _=>x::ih m) n) es
def pk (xs ys:List V):Bool:=
 List.rec (motive:=fun _=>List V->Bool) (fun ys=>List.rec (motive:=fun _=>Bool) true (fun _ _ _=>false) ys)
  (fun x _ ih ys=>List.rec (motive:=fun _=>Bool) false (fun y r _=>match r4 x y with | some true=>ih r | _=>false) ys) xs ys
def sameKey (x y:V):Bool:=
 match x,y with
 | .agg xs,.agg ys=>pk xs ys
 | x,y=>match r4 x y with | some b=>b | none=>false
def mZ (P:Program) (O:N) (t:TypeId) (m k v:V):Option N:=
 match P.underlying t,m with
 | some (.map kt _),.map b=>match O.m.get b with
  | some (.map es clock)=>bif plainKey P kt && mi P kt k then
    match oT P kt k es 0 with
    | some (some (i,_))=>match nth es i with
     | some e=>bif sameKey e.key k then some (O.setObj b (.map (AG {key:=k,val:=v,born:=e.born} es i) clock)) else none
     | none=>none
    | some none=>some (O.setObj b (.map (gE es [{key:=k,val:=v,born:=clock}]) (clock+1)))
    | none=>none
   else none
  | _=>none
 | _,_=>none
def qq (P:Program) (O:N) (ts:Array TypeId) (m k:V):Option N:=
 match ts[0]? with
 | some t=>match P.underlying t,m with
  | some (.map kt _),.map b=>match O.m.get b with
   | some (.map es clock)=>bif plainKey P kt && mi P kt k then
     match oT P kt k es 0 with
     | some (some (i,_))=>some (O.setObj b (.map (wb es i) clock))
     | some none=>some (O.setObj b (.map es clock))
     | none=>none
    else none
   | _=>none
  | _,_=>none
 | none=>none
def Ae (P:Program) (f:Nat):Bool:=
 match P.funcs[f]? with
 | some fn=>fn.body.isSome && !(fn.name == "runtime.NumGoroutine")
 | none=>false
def kN:ql->Bool
 | .upto _=>false
 | _=>true
def jD (p q:Pos):Bool:=Nat.beq p q
def nH (O:N) (args:List V):Option V:=
 match args with
 | [.slice b off n cap,.slice b' off' n' cap']=>
  match O.m.get b,O.m.get b' with
  | some (.row _ _ false),some (.row cells' _ false)=>bif (bif jD b b' then false else true) && (kN cap && (kN cap' && Nat.ble 1 (dn cells'))) then some (.bool false) else none
  | _,_=>none
 | _=>none
def isNe (P:Program) (g:Nat):Bool:=
 match P.funcs[g]? with
 | some fn=>fn.name == "internal/abi.NoEscape"
 | none=>false
def yt (P:Program) (ov:Nat->Bool) (O:N) (f:V) (args:List V):HR:=
 match f with
 | .func g fi ca=>bif Ae P g then .enter g (gE fi<|gE args ca) O else bif ov g then(bif isNe P g then(match gE fi (gE args ca) with | [v]=>.val v O | _=>.err 53) else(match nH O (gE fi<|gE args ca) with | some v=>.val v O | none=>.err 52)) else .err 50
 | .yield l=>.round l args O
 | _=>.err 51
def Pf (len:Nat) (c:ql):Bool:=
 match c with
 | .known c=>Nat.ble 1 c
 | .upto _=>Nat.ble 1 len
 | .least a _=>Nat.ble 1 a
def Fv (x:V):Option V:=
 match x with
 | .av=>some .nilPtr
 | .slice b off len c=>bif Pf len c then some (.ptr b off) else none
 | _=>none
def Gk (P:Program) (O:N) (t:Option TypeId) (p n:V):Option (List Nat×N):=
 match n with
 | .int .i64 (.ofNat n)=>bif Nat.beq n 0 then(match t,p with
   | some _,.nilPtr=>some ([],O)
   | some _,.ptr _ _=>some ([],O)
   | _,_=>none) else
  match t,p with
  | some t,.ptr b off=>match P.underlying t,O.m.get b with
   | some (.pointer u),some (.row cells e false)=>bif Nat.beq e u && (Nat.beq (P.cellsOf u) 1 && (Nat.ble (off+n) (dn cells) && Nat.ble n 1152921504606846976)) then
     match cQ yr (takeN (dU cells off) n) with
     | some s=>some (s,O.setObj b (.row cells e true))
     | none=>none
    else none
   | _,_=>none
  | _,_=>none
 | _=>none
def lX (P:Program) (O:N) (src dst:TypeId) (x:V):HR:=
 match P.underlying src,P.underlying dst,x with
 | some .string,some (.slice e),.str s=>match P.underlying e with
  | some (.int .u8)=>bif Nat.beq (P.cellsOf e) 1 then .val (.slice O.next 0 (dn s) (.upto 1)) (O.alloc (.row (ya (fun c=>.int .u8 (Int.ofNat c)) s) e true)) else .err 26
  | _=>.err 25
 | _,_,_=>.err 24
def gf (P:Program) (ov:Nat->Bool) (ev:Operand->Option V) (O:N):Op->HR
 | .store t x y=>match ev x,ev y with
  | some a,some v=>match xG P O t a v with
   | some O'=>.skip O'
   | none=>.err 10
  | _,_=>.err 11
 | .mapUpdate t m k x=>match ev m,ev k,ev x with
  | some a,some b,some v=>match mZ P O t a b v with
   | some O'=>.skip O'
   | none=>.err 19
  | _,_,_=>.err 20
 | .insert t m k x=>match ev m,ev k,ev x with
  | some a,some b,some v=>match mZ P O t a b v with
   | some O'=>.skip O'
   | none=>.err 19
  | _,_,_=>.err 20
 | .call c=>match c.callee with
  | .value f=>match ev f,lO ev c.args.toList with
   | some g,some args=>yt P ov O g args
   | _,_=>.err 12
  | .builtin .append=>match lO ev c.args.toList with
   | some [s,x]=>bif dC P c.argTypes[1]? then fM P O c.argTypes s x else n8 P O c.argTypes s x
   | _=>.err 13
  | .builtin .delete=>match lO ev c.args.toList with
   | some [m,k]=>match qq P O c.argTypes m k with
    | some O'=>.val (.tuple []) O'
    | none=>.err 17
   | _=>.err 18
  | .builtin .copy=>match lO ev c.args.toList with
   | some [s,x]=>rk P O c.argTypes s x
   | _=>.err 14
  | .builtin .clear=>match lO ev c.args.toList with
   | some [x]=>match zO P O c.argTypes x with
    | some O'=>.val (.tuple []) O'
    | none=>.err 21
   | _=>.err 22
  | .builtin .unsafeSliceData=>match lO ev c.args.toList with
   | some [x]=>match Fv x with
    | some v=>.val v O
    | none=>.err 27
   | _=>.err 28
  | .builtin .unsafeString=>match lO ev c.args.toList with
   | some [p,n]=>match Gk P O c.argTypes[0]? p n with
    | some (s,O')=>.val (.str s) O'
    | none=>.err 29
   | _=>.err 30
  | _=>.err 15
 | .convert src dst x=>match ev x with
  | some v=>lX P O src dst v
  | none=>.err 23
 | .panic x=>match ev x with
  | some (.iface t v)=>.mr (.iface t v) O
  | _=>.err 32
 | _=>.err 16
section
variable {P:Program} {I:dg} {O:N} {w:World}
theorem N.nm (O:N) (b:Pos) (o o':cN):(O.setObj b o).setObj b o'=O.setObj b o':=by
 simp[N.setObj,PT.LN]
theorem N.me (O:N) (b:Pos) (o:cN):(O.setObj b o).m.get b=some o:=PT.dE _ _ _
theorem nQ {b:Pos} {l:Loc} {e:Nat} (hl:I b=some l):∀(vs:List V) (xs:List Value) (cells:List V) (off i:Nat) (O:N) (w:World),Inv I O w->O.m.get b=some (.row cells e false)->dA I vs xs->cE vs=true->
  off+i+vs.length<=cells.length->∀σ₀:N,O=σ₀.setObj b (.row cells e false)->
  ∃w',(storeCells ⟨l.dN,l.sh+off,none⟩ xs i).run P w= .ok () w'/\Inv I (σ₀.setObj b (.row (gH cells (off+i) vs) e false)) w'/\eY I O w I (σ₀.setObj b (.row (gH cells (off+i) vs) e false)) w'
 | [],xs,cells,off,i,O,w,hi,hb,hv,_,_,σ₀,hσ=>by
  rw[hv.eV];subst hσ;exact⟨w,by simp[storeCells],hi,eY.refl _ _ _⟩
 | v::vs,xs,cells,off,i,O,w,hi,hb,hv,d,hlen,σ₀,hσ=>by
  obtain⟨x,r,rfl,h1,G⟩:=hv.cons_inv;have ac:lh v=true:=rL d v (by simp)
  have A:cE vs=true:=by
   grind [cE]
  simp only[List.length_cons] at hlen;obtain⟨B,st⟩:=hi.setCell hb hl (i:=off+i) oM h1;have u:(O.setObj b (.row (cells.set (off+i) v) e false)).m.get b=some (.row (cells.set (off+i) v) e false):=N.me _ _ _;obtain⟨w',r',inv',st'⟩:=nQ hl vs r (cells.set (off+i) v) off (i+1) _ _ B u G A (by simp;omega) σ₀ (by rw[hσ,N.nm]);obtain⟨c,fr,z,am,ao,C,E⟩:=hi.row hb hl;refine⟨w',?_,?_,?_⟩
  ·have F:off+i<cells.length:=by omega
   obtain⟨y,hy,_⟩:=C (off+i) cells[off+i] (gC F);have aa:w.cell? ⟨l.dN,l.sh+off+i,none⟩=some y:=by rw[cell?_of_heap z,Nat.add_assoc];exact hy
   have ap:w.frozen? ⟨l.dN,l.sh+off+i,none⟩=false:=frozen?_of_heap z _ (E Z _ oM);have ab:(⟨l.dN,l.sh+off,none⟩:Addr).add i=⟨l.dN,l.sh+off+i,none⟩:=Addr.add_eq _ i Z
   grind [run_store,oB,storeCells,sB_,rA]
  ·simpa [gH,Nat.add_assoc] using inv'
  have:=st.trans st';simpa [gH,Nat.add_assoc] using this
theorem hY (hi:Inv I O w) {b:Pos} {l:Loc} {e:Nat} {cells vs:List V} {xs:List Value} {off:Nat} (hl:I b=some l) (hb:O.m.get b=some (.row cells e false)) (hv:dA I vs xs) (d:cE vs=true)
  (hlen:off+vs.length<=cells.length):
  ∃w',(storeCells ⟨l.dN,l.sh+off,none⟩ xs).run P w= .ok () w'/\Inv I (O.setObj b (.row (dM vs cells off) e false)) w'/\eY I O w I (O.setObj b (.row (dM vs cells off) e false)) w':=by
 have u:Inv I (O.setObj b (.row cells e false)) w/\eY I O w I (O.setObj b (.row cells e false)) w:=by
  obtain⟨c,fr,h1,z,h3,h4,h5⟩:=hi.row hb hl;exact hi.change hb hl Z Z h1 ⟨c,fr,Z,z,h3,h4,h5⟩ (fun _ _=>Z) Z Z Z Z
 obtain⟨w',r,inv,st⟩:=nQ (P:=P) hl vs xs cells off 0 _ w u.1 (N.me _ _ _) hv d oM O Z;rw[Nat.add_zero,<-kD vs cells off hlen] at inv st;exact⟨w',r,inv,u.2.trans st⟩
theorem CU (hi:Inv I O w) {t:TypeId} {x v:V} {y z:Value} {O':N} (h:xG P O t x v=some O') (hx:VR I x y) (hv:VR I v z):
  ∃w',(Instr.storeAt t y z).run P w= .ok () w'/\Inv I O' w'/\eY I O w I O' w':=by
 unfold xG at h;split at h
 ·rename_i u1 u2 b off cs d;split at h
  ·rename_i L M cells e j hb hj;simp only[bx] at h;split at h
   ·rename_i B;cases h;simp only[bA_,Nat.beq_eq,nE_,bN] at B;obtain⟨⟨E,F⟩,A⟩:=B;simp only[VR] at hx;obtain⟨l,hl,rfl⟩:=hx;obtain⟨w',r,inv,st⟩:=hY (P:=P) hi hl hb (g9 d hv) A (off:=off) oM;refine⟨w',?_,inv,st⟩;have hsz:=mL d hv;simp only[Instr.storeAt,Instr.sureAddr,storeVar,sB_,sP_,rA,cu hj]
    simp_all
   cases h
  ·rename_i L M cells e j hb hj;simp only[bx] at h;split at h
   ·rename_i B;cases h;simp only[bA_,Nat.beq_eq,nE_,bN] at B;obtain⟨⟨E,F⟩,A⟩:=B;simp only[VR] at hx;obtain⟨l,hl,rfl⟩:=hx;obtain⟨h0,G,K⟩:=hi.own hb hl;obtain⟨w',r,inv,st⟩:=hY (P:=P) G hl (N.me _ _ _) (g9 d hv) A (off:=off) oM;rw[N.nm] at inv st;have hlen:(dM cs cells off).length=cells.length:=by rw[kD _ _ _ oM,rF]
    obtain⟨u,C⟩:=inv.JM (N.me _ _ _) hl Z (fun x hx=>gK.F7 ⟨h0.1,by rw[hlen];exact h0.2⟩ hx);rw[N.nm] at u C;refine⟨w',?_,u,(K.trans st).trans C⟩;have hsz:=mL d hv;simp only[Instr.storeAt,Instr.sureAddr,storeVar,sB_,sP_,rA,cu hj]
    simp_all
   cases h
  cases h
 cases h
theorem oJ (hi:Inv I O w) {sz n:Nat} {x:V} {y:Value} {cs:List V} (h:kC O sz x=some (n,cs)) (hx:VR I x y):
  (Builtin.lenOf y).run P w= .ok n w/\cs.length=n*sz/\
   ∀k,k<=n->∃xs:List Value,dA I (cs.take (k*sz)) xs/\∀w',w'.heap=w.heap->(Builtin.firstCells sz k y).run P w'= .ok xs.toArray w':=by
 unfold kC at h;split at h
 ·cases h;simp only[VR] at hx;subst hx;refine⟨by simp[Builtin.lenOf],by simp,fun k hk=>⟨[],by simpa using dA.nil,fun w' _=>by simp[Builtin.firstCells]⟩⟩
 ·rename_i b off len cap;split at h
  ·rename_i cells e ro hb;simp only[bx] at h;split at h
   ·rename_i hle;cases h;rw[nE_,bN] at hle
    have full:∀(a:Addr) (c:Nat) (l:Loc),I b=some l->y= .slice (some a) n c->(a=⟨l.dN,l.sh+off,none⟩∨n=0)->
      (Builtin.lenOf y).run P w= .ok n w/\(takeN (dU cells off) (n*sz)).length=n*sz/\
       ∀k,k<=n->∃xs:List Value,dA I ((takeN (dU cells off) (n*sz)).take (k*sz)) xs/\∀w',w'.heap=w.heap->(Builtin.firstCells sz k y).run P w'= .ok xs.toArray w':=by
     intro a c l hl hy B;subst hy;refine⟨by simp[Builtin.lenOf],by rw[dp,dQ,lT_,lD_];omega,fun k hk=>?_⟩;have z:k*sz<=n*sz:=nM_ _ hk;rw[dp,dQ,List.take_take,Nat.min_eq_left z];rcases B with rfl | rfl
     ·obtain⟨ys,h1,h2,h3⟩:=hi.piece hb hl off (k*sz) oM
      grind [run_firstCells_some,World.cell?]
     have A:k=0:=by omega
     subst A;refine⟨[],by simpa using dA.nil,fun w' aa=>?_⟩
     grind [run_firstCells_some]
    cases cap with
    | known c=>
     simp only[VR] at hx
     grind
    | least a s=>
     simp only[VR] at hx
     grind
    | upto s=>
     simp only[VR] at hx
     grind
   cases h
  cases h
 ·rename_i s;simp only[bx] at h;split at h
  ·rename_i d;rw[Nat.beq_eq] at d;subst d;cases h;simp only[VR] at hx;obtain⟨bs,rfl,u⟩:=hx;rw[iY u,lG];unfold gy at u;refine⟨by simp[Builtin.lenOf],by rw[<-u];simp,fun k hk=>?_⟩;refine⟨(bs.data.toList.take k).map fun b=>Value.int .u8 b.toNat,?_,fun w' _=>?_⟩
   ·rw[<-u,List.map_map,<-List.map_take,Nat.mul_one];generalize (bs.data.toList.take k)=l;induction l with
    | nil=>exact dA.nil
    | cons c l ih=>exact dA.cons (by simp only[VR];rfl) ih
   simp only[Builtin.firstCells,sP_];congr 1;apply Array.toList_inj.1
   simp_all
  cases h
 cases h
end
section
variable {P:Program} {I:dg} {O:N} {w:World}
theorem Ha {α:Type} (l:List α) (k:Nat) (v:α) (vs:List α) (hk:k<l.length):
  (l.set k v).take (k+1)++vs++(l.set k v).drop (k+1+vs.length)=l.take k++(v::vs)++l.drop (k+(vs.length+1)):=by
 grind [List.drop_set_of_lt,List.take_succ_eq_append_getElem,List.take_set_of_le]
theorem mA {g o e:Nat} {fr:Nat×Nat}:∀(vs:List Value) (cur:Array Value) (i:Nat) (w:World),w.heap[g]?=some (.cells cur e fr)->o+i+vs.length<=cur.size->(∀v∈vs,v.oneCell'=true)->
  (∀j,o<=j->¬(fr.1<=j/\j<fr.2))->
  ∃w',(storeCells ⟨g,o,none⟩ vs i).run P w= .ok () w'/\w'.heap[g]?=some (.cells (cur.toList.take (o+i)++vs++cur.toList.drop (o+i+vs.length)).toArray e fr)/\
   (∀r,r≠g->w'.heap[r]?=w.heap[r]?)/\w'.heap.size=w.heap.size/\w'.tape=w.tape/\w'.os=w.os/\w'.output=w.output
 | [],cur,i,w,d,_,_,_=>by
  refine⟨w,by simp[storeCells],?_,fun _ _=>Z,Z,Z,Z,Z⟩;simpa using d
 | v::vs,cur,i,w,d,hl,h1,hf=>by
  simp only[List.length_cons] at hl;have z:o+i<cur.size:=by omega
  have aa:(⟨g,o,none⟩:Addr).add i=⟨g,o+i,none⟩:=Addr.add_eq _ i Z;have b:w.cell? ⟨g,o+i,none⟩=some cur[o+i]:=by rw[cell?_of_heap d];simp[z]
  have A:w.frozen? ⟨g,o+i,none⟩=false:=frozen?_of_heap d _ (hf _ oM)
  have ar:(store ⟨g,o+i,none⟩ v).run P w= .ok () (w.setCell ⟨g,o+i,none⟩ v):=by
   rw[run_store P w _ v _<|h1 v (by simp),b];simp[A]
  obtain⟨w',r,q1,q2,q3,q4,q5,C⟩:=mA vs (cur.setIfInBounds (o+i) v) (i+1) _ (heap_setCell_same d (o+i) v) (by simp;omega) (fun u hu=>h1 u (by simp[hu])) hf;refine⟨w',?_,?_,fun r B=>(q2 r B).trans (heap_setCell_other w _ v B),by rw[q3];simp,q4,q5,C⟩
  ·grind [storeCells,sB_,rA]
  grind [Ha]
theorem run_append_fits {ts:Array TypeId} {t ty e:TypeId} {j:TypeInfo} (B:ts[0]?=some t) (hu:P.underlying t=some (.slice e)) (hj:P.info? e=some j) (A:dC P ts[1]?=true)
  {base:Option Addr} {sLen sCap n:Nat} {y:Value} {news:List Value} (hlen:(Builtin.lenOf y).run P w= .ok n w) (b:(Builtin.firstCells j.size n y).run P w= .ok news.toArray w) (d:sLen+n<=sCap):
  (Builtin.append_ ts ty #[.slice base sLen sCap,y]).run P w=
   (Sem.run P (match base with | some a=>storeCells (a.add (sLen*j.size)) news | none=>pure ():Sem Unit) w).andThen fun _ w'=>.ok (.slice base (sLen+n) sCap) w':=by
 unfold dC at A;cases h1:ts[1]? with
 | none=>
  cases base<;>simp[Builtin.append_,B,h1,run_underlying hu,cu hj,hlen,d,b]
 | some u=>
  rw[h1] at A;dsimp only at A;split at A
  ·rename_i e' z;cases base<;>simp[Builtin.append_,B,h1,run_underlying hu,run_underlying z,cu hj,hlen,d,b]
  ·rename_i z;cases base<;>simp[Builtin.append_,B,h1,run_underlying hu,run_underlying z,cu hj,hlen,d,b]
  cases A
theorem nj {ts:Array TypeId} {t ty e:TypeId} {j:TypeInfo} (u:ts[0]?=some t) (hu:P.underlying t=some (.slice e)) (hj:P.info? e=some j) (z:dC P ts[1]?=true)
  {dN o:Nat} {sLen sCap n:Nat} {y:Value} {news:List Value} (hlen:(Builtin.lenOf y).run P w= .ok n w) (b:(Builtin.firstCells j.size n y).run P w= .ok news.toArray w) (d:sLen+n<=sCap):
  (Builtin.append_ ts ty #[.slice (some ⟨dN,o,none⟩) sLen sCap,y]).run P w=
   (Sem.run P (storeCells ⟨dN,o+sLen*j.size,none⟩ news) w).andThen fun _ w'=>.ok (.slice (some ⟨dN,o,none⟩) (sLen+n) sCap) w':=by
 rw[run_append_fits u hu hj z hlen b d];show(Sem.run P (storeCells ((⟨dN,o,none⟩:Addr).add (sLen*j.size)) news) w).andThen _=_;rw[Addr.add_eq _ _ Z]
theorem lf {ts:Array TypeId} {t ty e:TypeId} {j:TypeInfo} {z:Value} (G:ts[0]?=some t) (hu:P.underlying t=some (.slice e)) (hj:P.info? e=some j) (hzero:j.zero=some z) (F:dC P ts[1]?=true)
  {base:Option Addr} {sLen sCap n:Nat} {y:Value} {olds news:List Value} (hlen:(Builtin.lenOf y).run P w= .ok n w) (b:(Builtin.firstCells j.size n y).run P w.drew= .ok news.toArray w.drew)
  (hold:(Builtin.firstCells j.size sLen (.slice base sLen sCap)).run P w.drew= .ok olds.toArray w.drew) (B:sCap<sLen+n) (K:sLen+n<=4194304) (L:j.bytes<=65536) (aa:1<=j.size):
  ∃cap,sLen+n<=cap/\(Builtin.append_ ts ty #[.slice base sLen sCap,y]).run P w=
   .ok (.slice (some ⟨w.heap.size,0,none⟩) (sLen+n) cap) (w.drew.alloc (.cells (olds.toArray++news.toArray++Builtin.zeroCells z.cells (cap-(sLen+n))) e)):=by
 refine⟨grownCap w (sLen+n) sCap e,grownCap_ge _ _ _ _,?_⟩
 have ab:Builtin.nextslicecap (sLen+n) sCap*j.bytes<=281474976710656:=growslice_fits B (by
  have:(sLen+n)*j.bytes<=4194304*65536:=Nat.mul_le_mul K L;omega)
 have M:¬(sLen+n<=sCap):=by omega
 have d:IntKind.i64.max=9223372036854775807:=by decide
 have h1:¬(9223372036854775807<((sLen:Int)+(n:Int))):=by omega
 have C:¬(281474976710656<Builtin.nextslicecap (sLen+n) sCap*j.bytes):=by omega
 rw[Array.append_assoc];unfold dC at F;cases A:ts[1]? with
 | none=>
  simp[Builtin.append_,G,A,run_underlying hu,cu hj,typeInfo,hj,hlen,M,d,h1,C,hold,b,zeroValue,hzero,newRow,Question.forced,grownCap]
 | some u=>
  rw[A] at F;dsimp only at F;split at F
  ·rename_i e' E;simp[Builtin.append_,G,A,run_underlying hu,run_underlying E,cu hj,typeInfo,hj,hlen,M,d,h1,C,hold,b,zeroValue,hzero,newRow,Question.forced,grownCap]
  ·rename_i E;simp[Builtin.append_,G,A,run_underlying hu,run_underlying E,cu hj,typeInfo,hj,hlen,M,d,h1,C,hold,b,zeroValue,hzero,newRow,Question.forced,grownCap]
  cases F
theorem mf (hi:Inv I O w) {cs:List V} {olds news:List Value} {e sz len cap:Nat} {z:Value} (d:dA I cs (olds++news)) (hlen:cs.length=len*sz) (b:len<=cap) (u:z.cells.size=sz):
  Inv (I.with O.next ⟨w.heap.size,0,cap*sz⟩) (O.alloc (.row cs e false)) (w.drew.alloc (.cells (olds.toArray++news.toArray++Builtin.zeroCells z.cells (cap-len)) e))/\
  eY I O w (I.with O.next ⟨w.heap.size,0,cap*sz⟩) (O.alloc (.row cs e false)) (w.drew.alloc (.cells (olds.toArray++news.toArray++Builtin.zeroCells z.cells (cap-len)) e))/\
  VR (I.with O.next ⟨w.heap.size,0,cap*sz⟩) (.slice O.next 0 len (.upto sz)) (.slice (some ⟨w.heap.size,0,none⟩) len cap):=by
 have hlen2:=d.length;rw[hlen] at hlen2;have hle:len*sz<=cap*sz:=nM_ _ b
 have A:gK I ⟨w.heap.size,0,cap*sz⟩ (.row cs e false) (.cells (olds.toArray++news.toArray++Builtin.zeroCells z.cells (cap-len)) e):=by
  refine⟨_,_,Z,?_,by rw[hlen];exact hle,fun i v hv=>?_,fun _ j _ hj=>by simp at hj⟩
  ·have h1:olds.length+news.length=len*sz:=by simpa using hlen2
   simp only[Array.size_append,List.size_toArray,size_zeroCells,u,Nat.sub_mul,nA_];omega
  obtain⟨y,h1,h2⟩:=d.get hv
  grind
 obtain⟨inv,st⟩:=(hi.drew).alloc (l:=⟨w.heap.size,0,cap*sz⟩) Z A;refine⟨inv,(eY.drew I O w).trans st,?_⟩;simp only[VR];exact⟨_,dg.cV _ _ _,.inl ⟨cap,Z,b,by simp⟩⟩
theorem zI (hi:Inv I O w) {ts:Array TypeId} {ty:TypeId} {s x v:V} {ys yx:Value} {O':N} (h:fM P O ts s x= .val v O') (T:VR I s ys) (hx:VR I x yx):
  ∃z w' I',(Builtin.append_ ts ty #[ys,yx]).run P w= .ok z w'/\VR I' v z/\Inv I' O' w'/\eY I O w I' O' w':=by
 unfold fM at h;cases R:ts[0]? with
 | none=>rw[R] at h;cases h
 | some t=>
 rw[R] at h;dsimp only at h;split at h
 case h_2=>cases h
 rename_i e hu;cases hj:P.info? e with
 | none=>rw[hj] at h;cases h
 | some j=>
 rw[hj] at h;simp only[bx] at h;split at h
 case isFalse=>cases h
 rename_i hb;simp only[bA_,nE_] at hb;obtain⟨⟨W,X⟩,ap⟩:=hb;cases ao:kC O j.size x with
 | none=>simp_all
 | some p=>
 obtain⟨n,news⟩:=p;rw[ao] at h;dsimp only at h;split at h
 case isFalse=>cases h
 rename_i a3;simp only[bA_,nE_] at a3;obtain⟨⟨K,ca⟩,hzero⟩:=a3
 obtain⟨zv,aq,C⟩:∃zv,j.zero=some zv/\zv.cells.size=j.size:=by
  simp only[Option.any_some,Option.any_eq_true] at hzero;obtain⟨z,a4,cs,bo,a5⟩:=hzero;cases bq:j.zero with
  | none=>simp_all
  | some zv=>
   rw[bq] at a4;refine⟨zv,Z,?_⟩;rw[Nat.beq_eq,bN] at a5;rw[<-a5];exact mL bo<|pQ (I:=I) a4
 obtain⟨A,L,aa⟩:=oJ (P:=P) hi ao hx;obtain⟨xs,G,S⟩:=aa n (nR_ _);rw[<-L,List.take_length] at G;have aE:xs.length=n*j.size:=by rw[G.length,L]
 have hrun0:=S w Z;have hrund:=S w.drew Z;split at h
 ·
  simp only[VR] at T;subst T;split at h
  ·rename_i E;rw[Nat.beq_eq] at E;cases h;subst E;refine⟨.slice none 0 0,w,I,?_,by simp only[VR],hi,eY.refl _ _ _⟩;have:=run_append_fits (w:=w) (ty:=ty) (base:=none) (sLen:=0) (sCap:=0) R hu hj W A hrun0 (nR_ _);rw[this];rfl
  rename_i E;cases h
  have hn:0<n:=by
   grind [Nat.beq_eq]
  obtain⟨cap,F,hr⟩:=lf (w:=w) (ty:=ty) (base:=none) (sLen:=0) (sCap:=0) (olds:=[]) R hu hj aq W A hrund (by simp[Builtin.firstCells]) oM oM ap X;rw[nA_] at F hr;obtain⟨inv,st,hv⟩:=mf (e:=e) hi (olds:=[]) (news:=xs) (by simpa using G) L F C
  grind
 ·
  rename_i b off len c;simp only[VR] at T;obtain⟨l,hl,rfl⟩:=T;split at h
  ·rename_i B;rw[nE_] at B;have hr:=nj (w:=w) (ty:=ty) (dN:=l.dN) (o:=l.sh+off) R hu hj W A hrun0 B;split at h
   ·rename_i cells e' hb;split at h
    ·rename_i d;rw[nE_,bN,bN] at d;cases h;obtain⟨w',r,inv,st⟩:=hY (P:=P) hi hl hb G K (off:=off+len*j.size) oM;refine⟨.slice (some ⟨l.dN,l.sh+off,none⟩) (len+n) c,w',I,?_,?_,inv,st⟩
     ·rw[hr,Nat.add_assoc,r];rfl
     simp only[VR];simp_all
    cases h
   split at h
   ·rename_i E;rw[Nat.beq_eq] at E;cases h;subst E;refine⟨.slice (some ⟨l.dN,l.sh+off,none⟩) len c,w,I,?_,?_,hi,eY.refl _ _ _⟩
    ·have a0:xs= []:=eN_ oM;rw[hr,a0];simp[storeCells]
    simp only[VR];simp_all
   cases h
  rename_i B;rw[nE_] at B;split at h
  ·rename_i cells e' ro hb;split at h
   ·rename_i d;simp only[bA_,nE_,bN] at d;obtain⟨d,ab⟩:=d;unfold grow at h;cases h;obtain⟨ys,h1,h2,h3⟩:=hi.piece hb hl off (len*j.size) d
    have hold:(Builtin.firstCells j.size len (.slice (some ⟨l.dN,l.sh+off,none⟩) len c)).run P w.drew= .ok ys.toArray w.drew:=
     run_firstCells_some w.drew j.size len _ len c ys h1 (fun i v hv=>by simpa using h3 i v hv)
    obtain⟨cap,F,hr⟩:=lf (w:=w) (ty:=ty) R hu hj aq W A hrund hold oM oM ap X
    obtain⟨inv,st,hv⟩:=mf (e:=e) hi (olds:=ys) (news:=xs) (len:=len+n) (cs:=gE (takeN (dU cells off) (len*j.size)) news)
     (by rw[dX,dp,dQ];exact h2.append G) (by grind [dX,dp,dQ]) F C
    grind
   cases h
  cases h
 ·
  rename_i b off len sz;split at h
  ·rename_i E;rw[Nat.beq_eq] at E;cases h;subst E;have a0:xs= []:=eN_ oM;subst a0;have hs':=T;simp only[VR] at hs';obtain⟨l,hl,⟨c,hy,hc,_⟩ | ⟨h0,a,hy⟩⟩:=hs'
   ·refine⟨ys,w,I,?_,T,hi,eY.refl _ _ _⟩;rw[hy,run_append_fits (w:=w) (ty:=ty) R hu hj W A hrun0 oM];simp[storeCells]
   refine⟨ys,w,I,?_,T,hi,eY.refl _ _ _⟩;subst h0;rw[hy,run_append_fits (w:=w) (ty:=ty) R hu hj W A hrun0 oM];simp[storeCells]
  rename_i E
  have hn:0<n:=by
   grind [Nat.beq_eq]
  split at h
  ·rename_i Q;simp only[bA_,Nat.beq_eq,nE_] at Q;obtain⟨Q,ab⟩:=Q;subst Q;simp only[VR] at T;split at h
   ·rename_i cells e' hb;split at h
    ·
     rename_i d;simp only[bA_,nE_,bN] at d;obtain⟨cb,d⟩:=d;cases h;obtain⟨l,hl,⟨c,rfl,hc,ac⟩ | ⟨h0,_⟩⟩:=T
     ·obtain⟨cc,fr,_,_,br,_⟩:=hi.row hb hl
      have B:len+n<=c:=by
       have:(len+n)*j.size<=c*j.size:=by grind
       exact Nat.le_of_mul_le_mul_right this X
      have hr:=nj (w:=w) (ty:=ty) (dN:=l.dN) (o:=l.sh+off) R hu hj W A hrun0 B;obtain⟨w',r,inv,st⟩:=hY (P:=P) hi hl hb G K (off:=off+len*j.size) oM;refine⟨.slice (some ⟨l.dN,l.sh+off,none⟩) (len+n) c,w',I,?_,?_,inv,st⟩
      ·rw[hr,Nat.add_assoc,r];rfl
      simp only[VR];simp_all
     omega
    split at h
    ·
     rename_i d;simp only[bA_,nE_,Nat.beq_eq,bN] at d;obtain⟨d,he⟩:=d;subst he;unfold grow at h;cases h;obtain⟨l,hl,a1⟩:=T;obtain⟨olds,h1,h2,h3⟩:=hi.piece hb hl off (len*j.size) d;have ba:dA I (gE (takeN (dU cells off) (len*j.size)) news) (olds++xs):=by rw[dX,dp,dQ];exact h2.append G
     have bs:(gE (takeN (dU cells off) (len*j.size)) news).length=(len+n)*j.size:=by
      grind [dX,dp,dQ]
     have anew:∀(a:Addr) (c:Nat),ys= .slice (some a) len c->c<len+n->(a=⟨l.dN,l.sh+off,none⟩∨len=0)->
       ∃z w' I',(Builtin.append_ ts ty #[ys,yx]).run P w= .ok z w'/\VR I' (.slice (O.drop b).next 0 (len+n) (.upto j.size)) z/\
        Inv I' ((O.drop b).alloc (.row (gE (takeN (dU cells off) (len*j.size)) news) e' false)) w'/\eY I O w I' ((O.drop b).alloc (.row (gE (takeN (dU cells off) (len*j.size)) news) e' false)) w':=by
      intro a c hy ce ha;subst hy
      have hold:(Builtin.firstCells j.size len (.slice (some a) len c)).run P w.drew= .ok olds.toArray w.drew:=by
       rcases ha with rfl | rfl
       ·exact run_firstCells_some w.drew j.size len _ len c olds h1 (fun i v hv=>by simpa using h3 i v hv)
       have:olds= []:=eN_ (by rw[h1,Nat.zero_mul])
       grind [run_firstCells_some]
      obtain⟨cap,F,hr⟩:=lf (w:=w) (ty:=ty) R hu hj aq W A hrund hold oM oM ap X;obtain⟨bt,st'⟩:=hi.forget b;obtain⟨inv,st,hv⟩:=mf (e:=e') bt (olds:=olds) (news:=xs) (len:=len+n) ba bs F C;exact⟨_,_,_,hr,hv,inv,st'.trans st⟩
     rcases a1 with ⟨c,hy,hc,ac⟩ | ⟨h0,a,hy⟩
     ·by_cases B:len+n<=c
      ·
       subst hy;have hr:=nj (w:=w) (ty:=ty) (dN:=l.dN) (o:=l.sh+off) R hu hj W A hrun0 B;obtain⟨cc,fr,bb,bv,br,ch,be⟩:=hi.row hb hl;have hmul:(len+n)*j.size<=c*j.size:=nM_ _ B;have bw:(len+n)*j.size=len*j.size+n*j.size:=Nat.add_mul _ _ _
       have ar:=mA (P:=P) (o:=l.sh+off+len*j.size) xs cc 0 w bb oM (fun u hu=>by
        obtain⟨i,b0,b1⟩:=List.getElem_of_mem hu;have am:i<news.length:=by omega
        obtain⟨y,M,a2⟩:=G.get (gC am);rw[gC b0,b1] at M;cases M;exact oB (rL K _<|List.getElem_mem am) a2) (fun jj b2=>be Z jj oM)
       obtain⟨w',r,b3,b4,b5,b6,b7,b8⟩:=ar
       have inv:=hi.xr (l':=⟨l.dN,l.sh+off,l.cells-off⟩) (cells':=gE (takeN (dU cells off) (len*j.size)) news) hb hl Z b3
        ⟨_,fr,Z,by simp[bv];omega,by grind,fun i v hv=>by
         obtain⟨y,M,a2⟩:=ba.get hv;refine⟨y,?_,a2⟩;rw[List.getElem?_toArray];dsimp only;have bi:cc.toList.length=l.sh+l.cells:=by omega
         have am:i<(olds++xs).length:=(gA.1 M).1;rw[lA_,h1,aE] at am
         by_cases b9:i<len*j.size
         ·rw[gL_ (by rw[h1];exact b9)] at M;have:=h3 i y M;rw[Addr.add_eq _ _ Z,cell?_of_heap bb] at this;rw[lQ_,gL_ (by grind),List.getElem?_take,if_pos oM,aT_];exact this
         rw[gR_ (by rw[h1];omega),h1] at M;rw[lQ_,gR_ (by grind),lT_,bi]
         grind,fun _ jj b2=>be Z jj (by grind)⟩
        b4 b5 b6 b7 b8
       refine⟨.slice (some ⟨l.dN,l.sh+off,none⟩) (len+n) c,w',_,?_,?_,inv.1,inv.2⟩
       ·rw[hr,r];rfl
       simp only[VR,N.drop];refine⟨_,dg.cV _ _ _,.inl ⟨c,by simp,B,?_⟩⟩;simp only;omega
      simp_all
     simp_all
    cases h
   cases h
  cases h
 cases h
theorem nK {ts:Array TypeId} {t R ty e:TypeId} {k:IntKind} {j:TypeInfo} {z:Value} (S:ts[0]?=some t) (hu:P.underlying t=some (.slice e)) (hj:P.info? e=some j) (hzero:j.zero=some z) (F:ts[1]?=some R) (T:P.underlying R=some (.int k))
  {base:Option Addr} {sLen sCap n:Nat} {olds:List Value}
  (hold:(Builtin.firstCells j.size sLen (.slice base sLen sCap)).run P w.drew= .ok olds.toArray w.drew) (b:sCap<sLen+n) (G:sLen+n<=4194304) (d:n<=1048576) (K:1<=n) (u:j.bytes<=65536) (A:1<=j.size):
  ∃cap,sLen+n<=cap/\(Builtin.append_ ts ty #[.slice base sLen sCap,.int .i64<|Int.ofNat n]).run P w=
   .ok (.slice (some ⟨w.heap.size,0,none⟩) (sLen+n) cap) (w.drew.alloc (.cells (olds.toArray++(Builtin.zeroCells z.cells n).toList.toArray++Builtin.zeroCells z.cells (cap-(sLen+n))) e)):=by
 refine⟨grownCap w (sLen+n) sCap e,grownCap_ge _ _ _ _,?_⟩
 have aa:Builtin.nextslicecap (sLen+n) sCap*j.bytes<=281474976710656:=growslice_fits b (by
  have:(sLen+n)*j.bytes<=4194304*65536:=Nat.mul_le_mul G u;omega)
 have W:¬(sLen+n<=sCap):=by omega
 have B:IntKind.i64.max=9223372036854775807:=by decide
 have h1:¬(9223372036854775807<((sLen:Int)+(n:Int))):=by omega
 have L:¬(281474976710656<Builtin.nextslicecap (sLen+n) sCap*j.bytes):=by omega
 have hw:IntKind.i64.wrap (n:Int)=(n:Int):=vh .i64 (Int.ofNat n) (by simp only[Mq,nE_];omega);have C:¬((n:Int)<0):=by omega
 have E:¬(281474976710656<(n:Int)*(j.bytes:Int)):=by
  have:n*j.bytes<=1048576*65536:=Nat.mul_le_mul d u;omega
 have M:¬(n*j.size=0):=by
  have:1*1<=n*j.size:=Nat.mul_le_mul K A;omega
 have Q:¬(n=0∨j.size=0):=by omega
 rw[Array.append_assoc];simp[Builtin.append_,S,F,run_underlying hu,run_underlying T,cu hj,typeInfo,hj,asInt,asIntOf,hw,C,E,W,B,h1,L,hold,M,Q,zeroValue,hzero,newRow,Question.forced,grownCap]
theorem xW (hi:Inv I O w) {ts:Array TypeId} {ty:TypeId} {s x v:V} {ys yx:Value} {O':N} (h:n8 P O ts s x= .val v O') (S:VR I s ys) (hx:VR I x yx):
  ∃z w' I',(Builtin.append_ ts ty #[ys,yx]).run P w= .ok z w'/\VR I' v z/\Inv I' O' w'/\eY I O w I' O' w':=by
 unfold n8 at h;split at h
 case h_2=>cases h
 rename_i t t2 X G;split at h
 case h_2=>cases h
 rename_i e k hu hz;split at h
 case h_2=>cases h
 rename_i j zs n hj T;rw[bx] at h;split at h
 case isFalse=>cases h
 rename_i hb;simp only[bA_,nE_,Nat.beq_eq,bN] at hb;obtain⟨B,K,C,L,F⟩:=hb;obtain⟨i,zv,M,hzero,Q⟩:=fR T;rw[hj] at M;cases M;have E:zv.cells.size=zs.length:=by have:=(Q I).length;simpa using this
 have hts:=jF (Q I) n
 have A:(Builtin.zeroCells zv.cells n).toList=(List.replicate n zv.cells.toList).flatten:=by
  grind [vH,Builtin.zeroCells]
 rw[<-A] at hts;have W:(fl zs n).length=n*j.size:=by rw[nr,F]
 simp only[VR] at hx;subst hx;split at h
 ·simp only[VR] at S;subst S;unfold grow at h;cases h;obtain⟨cap,u,hr⟩:=nK (w:=w) (ty:=ty) (base:=none) (sLen:=0) (sCap:=0) (olds:=[]) X hu hj hzero G hz (by simp[Builtin.firstCells]) oM oM B K L C;rw[nA_] at u hr;obtain⟨inv,st,hv⟩:=mf (e:=e) hi (olds:=[]) (news:=(Builtin.zeroCells zv.cells n).toList) (by simpa using hts) W u (E.trans F)
  grind
 ·rename_i b off len c;simp only[VR] at S;obtain⟨l,hl,rfl⟩:=S;rw[bx] at h;split at h
  ·cases h
  rename_i R;rw[nE_] at R;split at h
  ·rename_i cells e' ro hb;rw[bx] at h;split at h
   ·rename_i d;simp only[bA_,nE_,bN] at d;obtain⟨d,aa⟩:=d;unfold grow at h;cases h;obtain⟨ys,h1,h2,h3⟩:=hi.piece hb hl off (len*j.size) d
    have hold:(Builtin.firstCells j.size len (.slice (some ⟨l.dN,l.sh+off,none⟩) len c)).run P w.drew= .ok ys.toArray w.drew:=
     run_firstCells_some w.drew j.size len _ len c ys h1 (fun i v hv=>by simpa using h3 i v hv)
    obtain⟨cap,u,hr⟩:=nK (w:=w) (ty:=ty) X hu hj hzero G hz hold oM oM B K L C
    obtain⟨inv,st,hv⟩:=mf (e:=e) hi (olds:=ys) (news:=(Builtin.zeroCells zv.cells n).toList) (len:=len+n) (cs:=gE (takeN (dU cells off) (len*j.size))<|fl zs n)
     (by rw[dX,dp,dQ];exact h2.append hts) (by grind [dX,dp,dQ]) u<|E.trans F
    grind
   cases h
  cases h
 cases h
end
section
variable {P:Program} {I:dg} {O:N} {w:World}
theorem DC (hi:Inv I O w) {ts:Array TypeId} {ty:TypeId} {s x v:V} {ys yx:Value} {O':N} (h:rk P O ts s x= .val v O') (L:VR I s ys) (hx:VR I x yx):
  ∃z w' I',(Builtin.copy_ ts ty #[ys,yx]).run P w= .ok z w'/\VR I' v z/\Inv I' O' w'/\eY I O w I' O' w':=by
 unfold rk at h;cases K:ts[0]? with
 | none=>rw[K] at h;cases h
 | some t=>
 rw[K] at h;dsimp only at h;split at h
 case h_2=>cases h
 rename_i e hu;cases hj:P.info? e with
 | none=>rw[hj] at h;cases h
 | some j=>
 rw[hj] at h;dsimp only at h;split at h
 ·rename_i n news b off len cap B;obtain⟨d,G,A⟩:=oJ (P:=P) hi B hx;obtain⟨xs,F,u⟩:=A (Nat.min n len) (Nat.min_le_left _ _);simp only[bx] at h;split at h
  ·rename_i h0;rw[Nat.beq_eq] at h0;cases h;rw[h0,Nat.zero_mul] at F;rw[h0] at u;have M:xs= []:=by have:=F.length;simpa using this
   subst M;obtain⟨a,c,rfl⟩:=VR.iW L;have hr:=u w Z;refine⟨.int .i64 0,w,I,?_,by simp only[VR],hi,eY.refl _ _ _⟩;simp[Builtin.copy_,K,run_underlying hu,d,cu hj,h0,hr,goInt,storeCells]
  rename_i h0;rw[Nat.beq_eq] at h0;split at h
  ·rename_i cells e' hb;split at h
   ·rename_i Q;simp only[bA_,nE_,bN] at Q;obtain⟨⟨C,aa⟩,E⟩:=Q;cases h;rw[dp] at E C
    have go:∀(l:Loc) (c:Nat),I b=some l->ys= .slice (some ⟨l.dN,l.sh+off,none⟩) len c->
      ∃z w' I',(Builtin.copy_ ts ty #[ys,yx]).run P w= .ok z w'/\VR I' (.int .i64<|Int.ofNat<|Nat.min n len) z/\
       Inv I' (O.setObj b (.row (dM (takeN news (Nat.min n len*j.size)) cells off) e' false)) w'/\eY I O w I' (O.setObj b (.row (dM (takeN news (Nat.min n len*j.size)) cells off) e' false)) w':=by
     intro l c hl hy;rw[dp];obtain⟨w',r,inv,st⟩:=hY (P:=P) hi hl hb F C (off:=off) E;refine⟨.int .i64<|Int.ofNat<|Nat.min n len,w',I,?_,by simp only[VR],inv,st⟩;subst hy;have hr:=u w Z;simp[Builtin.copy_,K,run_underlying hu,d,cu hj,hr,r,goInt]
    cases cap with
    | known c=>
     grind [VR]
    | least a sz=>
     grind [VR]
    | upto sz=>
     grind [VR]
   cases h
  cases h
 ·rename_i n news B;cases h;obtain⟨d,G,A⟩:=oJ (P:=P) hi B hx;obtain⟨xs,F,u⟩:=A 0 (Nat.zero_le _);simp only[VR] at L;subst L;refine⟨.int .i64 0,w,I,?_,by simp only[VR],hi,eY.refl _ _ _⟩;have hr:=u w Z;simp[Builtin.copy_,K,run_underlying hu,d,cu hj,hr,goInt]
 cases h
theorem BJ (hi:Inv I O w) {ts:Array TypeId} {ty:TypeId} {x:V} {ys:Value} {O':N} (h:zO P O ts x=some O') (B:VR I x ys):
  ∃w',(Builtin.clear_ ts ty #[ys]).run P w= .ok (.tuple #[]) w'/\Inv I O' w'/\eY I O w I O' w':=by
 unfold zO at h;cases C:ts[0]? with
 | none=>rw[C] at h;cases h
 | some t=>
 rw[C] at h;dsimp only at h;cases hu:P.underlying t with
 | none=>rw[hu] at h;cases h
 | some d=>
 rw[hu] at h;cases d with
 | slice e=>
  dsimp only at h;cases x with
  | av=>
   cases h;simp only[VR] at B;subst B;exact⟨w,by simp[Builtin.clear_,C,run_underlying hu],hi,eY.refl _ _ _⟩
  | slice b off len cap=>
   dsimp only at h;rw[bx] at h;split at h
   ·rename_i h0;have:=nB h0;subst this;cases h;obtain⟨a,c,rfl⟩:=VR.iW B;exact⟨w,by simp[Builtin.clear_,C,run_underlying hu],hi,eY.refl _ _ _⟩
   rename_i h0;rw[Nat.beq_eq] at h0;cases F:(fw P e).bind df with
   | none=>rw[F] at h;cases h
   | some zs=>
   rw[F] at h;cases hb:O.m.get b with
   | none=>rw[hb] at h;cases h
   | some o=>
   rw[hb] at h;cases o with
   | row cells e' ro=>
    cases ro with
    | true=>cases h
    | false=>
     dsimp only at h;rw[bx] at h;split at h
     ·rename_i K;simp only[bA_,nE_,bN] at K;obtain⟨⟨z,aa⟩,A⟩:=K;cases h;obtain⟨i,zv,G,hzero,E⟩:=fR F;have hts:=jF (E I) len;have ab:zv.cells.size=zs.length:=by have:=(E I).length;simpa using this
      have u:(Builtin.zeroCells zv.cells len).toList=(List.replicate len zv.cells.toList).flatten:=by
       grind [vH,Builtin.zeroCells]
      have go:∀(l:Loc) (c:Nat),I b=some l->ys= .slice (some ⟨l.dN,l.sh+off,none⟩) len c->
        ∃w',(Builtin.clear_ ts ty #[ys]).run P w= .ok (.tuple #[]) w'/\Inv I (O.setObj b (.row (dM (fl zs len) cells off) e' false)) w'/\eY I O w I (O.setObj b (.row (dM (fl zs len) cells off) e' false)) w':=by
       intro l c hl hy;subst hy;obtain⟨w',r,inv,st⟩:=hY (P:=P) hi hl hb hts z A;refine⟨w',?_,inv,st⟩;cases len with
       | zero=>exact absurd Z h0
       | succ n=>simp[Builtin.clear_,C,run_underlying hu,zeroValue,typeInfo,G,hzero,u,r]
      cases cap with
      | known c=>
       simp only[VR] at B
       grind
      | upto sz=>
       simp only[VR] at B
       grind
      | least a sz=>
       simp only[VR] at B
       grind
     cases h
   | _=>cases h
  | _=>cases h
 | _=>cases h
theorem Eb {g:Nat} {args:Array Value} (h:Ae P g=true):(callFunc g args).run P w= .ok (.enter g args) w:=by
 unfold Ae at h;cases hf:P.funcs[g]? with
 | none=>rw[hf] at h;cases h
 | some fn=>
  rw[hf] at h;simp only[bA_,Bool.not_eq_true'] at h;obtain⟨h1,u⟩:=h;have h3:fn.body.isNone=false:=by simp_all
  have b:¬fn.name= "runtime.NumGoroutine" :=by simpa using u
  have d:¬fn.body=none:=by grind
  simp[callFunc,hf,b,d]
inductive xV (P:Program) (I:dg) (O:N) (w:World):HR->Result Next->Prop
 | val {v:V} {O':N} {x:Value} {w':World} {I':dg} (hv:VR I' v x) (hi:Inv I' O' w') (st:eY I O w I' O' w'):xV P I O w (.val v O') (.ok (.value x) w')
 | skip {O':N} {w':World} {I':dg} (hi:Inv I' O' w') (st:eY I O w I' O' w'):xV P I O w (.skip O') (.ok .skip w')
 | enter {f:Nat} {args:List V} {xs:Array Value} (hv:dA I args xs.toList):xV P I O w (.enter f args O) (.ok (.enter f xs) w)
 | round {l:Pos} {args:List V} {xs:Array Value} {loc:Loc} {r:Result Next} (hv:dA I args xs.toList) (hl:I l=some loc) (hr:r=(Instr.yield loc.dN xs).run P w):xV P I O w (.round l args O) r
 | mr {v:V} {x:Value} (hv:VR I v x):xV P I O w (.mr v O) (.halt (.panic x) w)
def PR (P:Program) (g:Nat):Prop:=∃(fn:Func) (ts tr e:TypeId) (j:TypeInfo),P.funcs[g]?=some fn∧(fn.name == "runtime.NumGoroutine")=false∧fn.body.isNone=true∧Extern.findNext fn=none∧
 Extern.find fn=some (Extern.SlicesOverlaps.overlaps #[ts,ts] #[tr])/\P.underlying ts=some (.slice e)/\P.info? e=some j
def Q8 (P:Program) (g:Nat):Prop:=∃(fn:Func),P.funcs[g]?=some fn∧(fn.name == "runtime.NumGoroutine")=false∧fn.body.isNone=true∧Extern.findNext fn=none∧Extern.find fn=some Extern.AbiNoEscape.same
def rJ (P:Program) (g:Nat):Prop:=(isNe P g=false/\PR P g)∨(isNe P g=true/\Q8 P g)
theorem oH (p:Pos):jD p p=true:=Nat.beq_refl p
theorem VR.uW {b:Pos} {off len:Nat} {cap:ql} {x:Value} (d:kN cap=true) (h:VR I (.slice b off len cap) x):∃l c,I b=some l/\x= .slice (some ⟨l.dN,l.sh+off,none⟩) len c:=by
 cases cap with
 | upto sz=>simp[kN] at d
 | known c=>simp only[VR] at h;grind
 | least a sz=>simp only[VR] at h;grind
theorem w6 (hi:Inv I O w) {g:Nat} {args:List V} {xs:Array Value} {v:V} (Q:PR P g) (h:nH O args=some v) (hx:dA I args xs.toList):∃x,(callFunc g xs).run P w= .ok (.value x) w/\VR I v x:=by
 obtain⟨fn,ts,tr,e,j,g1,R,S,T,W,X,g7⟩:=Q;unfold nH at h;split at h
 ·rename_i b off n cap b' off' n' cap';split at h
  ·rename_i cells e1 cells' e2 hb d;cases C:((bif jD b b' then false else true) && (kN cap && (kN cap' && Nat.ble 1 (dn cells')))) with
   | false=>rw[C] at h;cases h
   | true=>
    rw[C] at h;simp only[cond_true,oJ_] at h;subst h;simp only[bA_,nE_,bN] at C;obtain⟨u,E,F,hlen⟩:=C;have z:b≠b':=fun e=>by subst e;rw[oH] at u;simp at u
    obtain⟨x1,r,e',h1,h2⟩:=hx.cons_inv;obtain⟨x2,r',rfl,h3,h4⟩:=h2.cons_inv;have:=h4.eV;subst this;obtain⟨l,c,hl,rfl⟩:=VR.uW E h1;obtain⟨l',c',A,rfl⟩:=VR.uW F h3;have G:xs= #[.slice (some ⟨l.dN,l.sh+off,none⟩) n c,.slice (some ⟨l'.dN,l'.sh+off',none⟩) n' c']:=by grind
    obtain⟨k,fr,K,k2,k3,k4,M⟩:=hi.row hb hl;obtain⟨k',fr',L,aa,ab,ac,am⟩:=hi.row d A
    have B:l.dN≠l'.dN:=fun e=>by
     have:=(hi.inj b b' _ _ l l' hb d hl A e z).1;cases this
    refine⟨.bool false,?_,by simp only[VR]⟩;rw[run_callFunc_extern g1 R S T W,G]
    rw[Lib.run_overlaps_apart w ts tr e X j.size (fun w=>cu g7) ⟨l.dN,l.sh+off,none⟩ ⟨l'.dN,l'.sh+off',none⟩ n c n' c' B e1 e2 k.size k'.size
     (by simp[World.shape?,K]) (by simp[World.shape?,L]) oM (frozen?_of_heap K _<|M Z _ oM) (frozen?_of_heap K _<|M Z _ oM)]
    rfl
  cases h
 cases h
theorem H9 {ov:Nat->Bool} (E:∀g,ov g=true->rJ P g) (hi:Inv I O w) {g:V} {args:List V} {y:Value} {xs:Array Value} {r:HR} (h:yt P ov O g args=r) (b:∀n,r≠ .err n) (A:VR I g y) (hx:dA I args xs.toList):
  xV P I O w r ((do let d <-Deferred.ofValue y xs;invoke d.target d.args:Sem Next).run P w):=by
 subst h;unfold yt at b⊢;cases g with
 | func f fi ca=>
  dsimp only at b⊢;cases C:Ae P f with
  | false=>
   rw[C] at b;simp only[cond_false] at b⊢;cases G:ov f with
   | false=>simp_all
   | true=>
    rw[G] at b;simp only[cond_true] at b⊢;cases Q:isNe P f with
    | true=>
     rw[Q] at b;simp only[cond_true] at b⊢;simp only[VR] at A;obtain⟨fi',ca',rfl,u,z⟩:=A;have B:dA I (gE fi<|gE args ca) (fi'++xs++ca').toList:=by rw[dX,dX];simpa using u.append (hx.append z)
     generalize gE fi (gE args ca)=l at b B⊢;cases l with
     | nil=>simp_all
     | cons v r=>
      cases r with
      | cons _ _=>simp_all
      | nil=>
       dsimp only;obtain⟨x,r',e,h1,R⟩:=B.cons_inv;have:=R.eV;subst this;have K:fi'++xs++ca'= #[x]:=by simp_all
       rcases E f G with ⟨h',_⟩ | ⟨_,fn,g1,S,T,W,X⟩
       ·simp_all
       have L:(callFunc f (fi'++xs++ca')).run P w= .ok (.value x) w:=by
        rw[run_callFunc_extern g1 S T W X,K,Lib.run_noEscape];rfl
       have:(do let d <-Deferred.ofValue (.func (.func f) fi' ca') xs;invoke d.target d.args:Sem Next).run P w= .ok (.value x) w:=by
        grind [Deferred.ofValue,invoke]
       rw[this];exact .val h1 hi<|eY.refl I O w
    | false=>
    rw[Q] at b;simp only[cond_false] at b⊢
    have F:PR P f:=by
     rcases E f G with ⟨_,h'⟩ | ⟨h',_⟩
     ·exact h'
     simp_all
    cases hq:nH O (gE fi<|gE args ca) with
    | none=>simp_all
    | some v=>
     simp only[VR] at A;obtain⟨fi',ca',rfl,u,z⟩:=A;obtain⟨x,L,M⟩:=w6 (xs:=fi'++xs++ca') hi F hq (by rw[dX,dX];simpa using u.append (hx.append z))
     have:(do let d <-Deferred.ofValue (.func (.func f) fi' ca') xs;invoke d.target d.args:Sem Next).run P w= .ok (.value x) w:=by
      grind [Deferred.ofValue,invoke]
     rw[this];exact .val M hi<|eY.refl I O w
  | true=>
   rw[C] at b;simp only[VR] at A;obtain⟨fi',ca',rfl,u,z⟩:=A;simp only[cond_true]
   have:(do let d <-Deferred.ofValue (.func (.func f) fi' ca') xs;invoke d.target d.args:Sem Next).run P w= .ok (.enter f (fi'++xs++ca')) w:=by
    simp[Deferred.ofValue,invoke,Eb C]
   rw[this,dX,dX];exact .enter (by simpa using u.append (hx.append z))
 | yield l=>
  dsimp only at b⊢;simp only[VR] at A;obtain⟨loc,hl,rfl⟩:=A;exact .round hx hl (by simp[Deferred.ofValue,invoke])
 | _=>simp_all
end
section
variable {P:Program} {I:dg} {O:N} {w:World}
def mw:TypeDesc->Bool
 | .int _ | .string | .bool=>true
 | _=>false
def Gs (P:Program) (u:TypeId):Prop:=(∃d,P.underlying u=some d/\mw d=true)∨(∃gs,P.underlying u=some (.struct gs)/\∀g∈gs.toList,∃d,P.underlying g.type=some d/\mw d=true)∨∃m e,P.underlying u=some (.array m e)/\r8 P e=true
theorem pW {t:TypeId} (h:plainKey P t=true):(∃d,P.underlying t=some d/\mw d=true)∨∃fs,P.underlying t=some (.struct fs)/\∀f∈fs.toList,Gs P f.type:=by
 unfold plainKey at h;split at h
 ·rename_i k hu;exact .inl ⟨_,hu,Z⟩
 ·rename_i hu;exact .inl ⟨_,hu,Z⟩
 ·rename_i hu;exact .inl ⟨_,hu,Z⟩
 ·rename_i fs hu;refine .inr ⟨fs,hu,fun f hf=>?_⟩;rw[aE_] at h;have:=h f hf;split at this
  ·rename_i k b;exact .inl ⟨_,b,Z⟩
  ·rename_i b;exact .inl ⟨_,b,Z⟩
  ·rename_i b;exact .inl ⟨_,b,Z⟩
  ·rename_i gs b;refine .inr (.inl ⟨gs,b,fun g z=>?_⟩);rw[aE_] at this;have:=this g z;split at this
   ·rename_i k u;exact⟨_,u,Z⟩
   ·rename_i u;exact⟨_,u,Z⟩
   ·rename_i u;exact⟨_,u,Z⟩
   cases this
  ·rename_i m e b;exact .inr (.inr ⟨m,e,b,this⟩)
  cases this
 cases h
theorem jn {t:TypeId} {d:TypeDesc} (hu:P.underlying t=some d) (b:mw d=true) (em:Bool) (n:Nat) (a:Value):(Instr.checkKey em (n+1) t a).run P w= .ok () w:=by
 simp only[Instr.checkKey,sB_,run_underlying hu,rA];cases d<;>first | (simp[mw] at b;done) | rfl
theorem rj {t:TypeId} {fs:Array Field} {ys:Array Value} (hu:P.underlying t=some (.struct fs)) (em:Bool) (n:Nat)
  (h:∀f∈fs.toList,∃y,(part f.type ys f.offset).run P w= .ok y w/\(Instr.checkKey em (n+1) f.type y).run P w= .ok () w):(Instr.checkKey em (n+1+1) t (.agg ys)).run P w= .ok () w:=by
 rw[Instr.checkKey];simp only[sB_,run_underlying hu,rA];rw[<-Array.forIn_toList];clear hu;generalize fs.toList=l at*;induction l with
 | nil=>simp
 | cons f l ih=>
  obtain⟨y,aa,ab⟩:=h f (by simp)
  simp_all
theorem xX {t e:TypeId} {m:Nat} {cs:Array Value} {i:TypeInfo} {k:IntKind} (hu:P.underlying t=some (.array m e)) (he:P.underlying e=some (.int k)) (hi:P.info? e=some i) (b:i.size=1) (hl:m<=cs.size) (em:Bool) (n:Nat):
  (Instr.checkKey em (n+1+1) t (.agg cs)).run P w= .ok () w:=by
 rw[Instr.checkKey];simp only[sB_,run_underlying hu,rA];simp only[Std.Legacy.Range.forIn_eq_forIn_range',Std.Legacy.Range.size,Nat.sub_zero,Nat.add_one_sub_one,Nat.div_one]
 have key:∀(l:Nat) (s:Nat),s+l<=cs.size->(forIn (List.range' s l) PUnit.unit fun i (_:PUnit)=>(do
   let z <-sizeOf e
   let v <-part e cs (i*z)
   Instr.checkKey em (n+1) e v
   pure (ForInStep.yield PUnit.unit):Sem (ForInStep PUnit))).run P w= .ok PUnit.unit w:=by
  intro l;induction l with
  | zero=>intro s _;simp
  | succ l ih=>
   intro s aa;have hv:cs[s]?=some cs[s]:=aG_ oM
   have p:(part e cs (s*1)).run P w= .ok cs[s] w:=by
    rw[Nat.mul_one];simp only[part,sB_,fg he,Bp,rA,Bool.false_eq_true,if_false,hv,sP_]
   simp only[List.range'_succ,List.forIn_cons,sB_,cu hi,b,p,rA,jn he Z,sP_]
   grind
 simp_all
theorem oW {u:TypeId} {d:TypeDesc} (hu:P.underlying u=some d) (B:mw d=true) {xs:List V} {ys:Array Value} (b:dA I xs ys.toList) {off:Nat} (C:(nth xs off).isSome=true):∃y,(part u ys off).run P w= .ok y w:=by
 obtain⟨v,hv⟩:=Option.isSome_iff_exists.1 C;rw[eU] at hv;obtain⟨y,hy,_⟩:=b.get hv;have z:ys[off]?=some y:=by simp_all
 have A:Bp d=false:=by cases d<;>first | rfl | (simp[mw] at B)
 exact⟨y,by simp only[part,sB_,fg hu,A,rA,Bool.false_eq_true,if_false,z,sP_]⟩
theorem lZ {t:TypeId} {k:V} {a:Value} (hp:plainKey P t=true) (E:mi P t k=true) (hk:VR I k a) (em:Bool):(Instr.checkKey em 10000 t a).run P w= .ok () w:=by
 rcases pW hp with ⟨d,hu,R⟩ | ⟨fs,hu,G⟩
 ·exact jn hu R em 9999 a
 unfold mi at E;rw[hu] at E;cases k<;>(try (simp at E;done));rename_i xs;dsimp only at E;simp only[VR] at hk;obtain⟨ys,rfl,A⟩:=hk;refine rj hu em 9998 fun f hf=>?_
 rw[aE_] at E;have hsf:=E f hf;rcases G f hf with ⟨d,b,B⟩ | ⟨gs,b,K⟩ | ⟨m,e,b,L⟩
 ·have:(nth xs f.offset).isSome=true:=by
   rw[b] at hsf;cases d<;>first | exact hsf | (simp[mw] at B)
  obtain⟨y,hy⟩:=oW (P:=P) (w:=w) b B A this;exact⟨y,hy,jn b B em 9998 y⟩
 ·rw[b] at hsf;dsimp only at hsf;split at hsf
  ·rename_i n C;obtain⟨c,r,v⟩:=gz (P:=P) (w:=w) C A (off:=f.offset);refine⟨.agg c,r,rj b em 9997 fun g Q=>?_⟩;rw[aE_] at hsf;obtain⟨d,u,z⟩:=K g Q;obtain⟨y,hy⟩:=oW (P:=P) (w:=w) u z v (hsf g Q);exact⟨y,hy,jn u z em 9997 y⟩
  cases hsf
 rw[b] at hsf;dsimp only at hsf;split at hsf
 ·rename_i n C;rw[bA_,Nat.beq_eq,Nat.beq_eq,bN] at hsf;obtain⟨k,inf,he,F,M⟩:=wN L;obtain⟨c,r,v⟩:=gz (P:=P) (w:=w) C A (off:=f.offset);have hcl:=v.length;exact⟨.agg c,r,xX b he F M (by rw[hsf.2] at hcl;have:c.toList.length=c.size:=rfl;omega) em 9997⟩
 cases hsf
theorem G5 {t:TypeId} {d:TypeDesc} (hu:P.underlying t=some d) (hd:mw d=true) {x y:V} {a c:Value} {b:Bool} (h:oU P t x y=some b) (hx:VR I x a) (hy:VR I y c):Instr.sameNow d a c=some b:=by
 unfold oU at h;rw[hu] at h;split at h
 ·rename_i u z A q j m k n e;cases e;cases hk:sy j k with
  | false=>rw[hk] at h;cases h
  | true=>
   rw[hk] at h;have:=pB hk;subst this;simp only[VR] at hx hy;subst hx;subst hy;simp only[cond_true,oJ_] at h;rw[<-h,dK];simp only[Instr.sameNow,if_true,oJ_]
   grind
 ·rename_i u z A s s' e;cases e;simp only[VR] at hx hy;obtain⟨p,rfl,hp⟩:=hx;obtain⟨q,rfl,hq⟩:=hy
  grind [Instr.sameNow,nR,beq_toListBytes]
 ·rename_i u z A s s' e;cases e;simp only[VR] at hx hy;subst hx;subst hy;cases h;simp only[Instr.sameNow,oJ_,pz]
 ·grind [mw]
 cases h
theorem Ee {t:TypeId} {fs:Array Field} (hu:P.underlying t=some (.struct fs)) {x y:V} {a c:Value} {b:Bool} (h:oU P t x y=some b) (hx:VR I x a) (hy:VR I y c):(Op.equal t a c).run P w= .ok b w:=by
 unfold oU at h;rw[hu] at h;split at h
 ·rename_i e;cases e
 ·rename_i e;cases e
 ·rename_i e;cases e
 ·exact(pC (P:=P) (w:=w) h hx hy .eql (.const .nilFunc) (.const .nilFunc)).2
 cases h
def De (I:dg):Option (Nat×V)->Option (Nat×Value)->Prop
 | none,none=>True
 | some (i,v),some (j,y)=>i=j/\VR I v y
 | _,_=>False
theorem rq {t:TypeId} {d:TypeDesc} (hu:P.underlying t=some d) (u:mw d=true) {k:V} {a:Value} (hk:VR I k a):∀(es:List fC) (ys:List MapEntry) (i:Nat) (r:Option (Nat×V)),jH I es ys->oT P t k es i=some r->
  ∃r',Instr.findNow d a ys i=some r'/\De I r r'
 | [],ys,i,r,he,h=>by
  have:ys= []:=he;subst this;have h':some none=some r:=h;cases h';exact⟨none,Z,trivial⟩
 | e::es,ys,i,r,he,h=>by
  obtain⟨y,rest,rfl,h1,z,h3,h4⟩:=he
  have h':(match oU P t k e.key with
   | some true=>some (some (i,e.val))
   | some false=>oT P t k es (Nat.succ i)
   | none=>none)=some r:=h
  cases hq:oU P t k e.key with
  | none=>rw[hq] at h';cases h'
  | some b=>
   rw[hq] at h';have hs:=G5 hu u hq hk h1;cases b with
   | true=>cases h';exact⟨some (i,y.val),by simp[Instr.findNow,hs],Z,z⟩
   | false=>
    obtain⟨r',g1,A⟩:=rq hu u hk es rest (i+1) r h4 h';exact⟨r',by simp[Instr.findNow,hs,g1],A⟩
theorem rp {t:TypeId} {fs:Array Field} (hu:P.underlying t=some (.struct fs)) {k:V} {a:Value} (hk:VR I k a):∀(es:List fC) (ys:List MapEntry) (i:Nat) (r:Option (Nat×V)),jH I es ys->oT P t k es i=some r->
  ∃r',(Instr.findAsking t a ys i).run P w= .ok r' w/\De I r r'
 | [],ys,i,r,he,h=>by
  have:ys= []:=he;subst this;have h':some none=some r:=h;cases h';exact⟨none,Z,trivial⟩
 | e::es,ys,i,r,he,h=>by
  obtain⟨y,rest,rfl,h1,d,h3,h4⟩:=he
  have h':(match oU P t k e.key with
   | some true=>some (some (i,e.val))
   | some false=>oT P t k es (Nat.succ i)
   | none=>none)=some r:=h
  cases hq:oU P t k e.key with
  | none=>simp_all
  | some b=>
   rw[hq] at h';have hs:=Ee (w:=w) hu hq hk h1;cases b with
   | true=>cases h';exact⟨some (i,y.val),by simp[Instr.findAsking,hs],Z,d⟩
   | false=>
    obtain⟨r',g1,u⟩:=rp hu hk es rest (i+1) r h4 h';exact⟨r',by simp[Instr.findAsking,hs,g1],u⟩
theorem l8 {t:TypeId} (hp:plainKey P t=true) {k:V} {a:Value} (hk:VR I k a) {es:List fC} {ys:List MapEntry} {r:Option (Nat×V)} (he:jH I es ys) (h:oT P t k es 0=some r):
  ∃r',(Instr.findKey t a ys).run P w= .ok r' w/\De I r r':=by
 rcases pW hp with ⟨d,hu,u⟩ | ⟨fs,hu,aa⟩
 ·obtain⟨r',h1,b⟩:=rq hu u hk es ys 0 r he h;exact⟨r',by simp[Instr.findKey,run_underlying hu,h1],b⟩
 cases z:Instr.findNow (.struct fs) a ys 0 with
 | none=>
  obtain⟨r',h1,b⟩:=rp (w:=w) hu hk es ys 0 r he h;exact⟨r',by simp[Instr.findKey,run_underlying hu,z,h1],b⟩
 | some r0=>
  cases es with
  | nil=>
   have:ys= []:=he;subst this;have h':some none=some r:=h;cases h';exact⟨none,by simp[Instr.findKey,run_underlying hu,Instr.findNow],trivial⟩
  | cons e es=>
   obtain⟨y,rest,rfl,h1,_⟩:=he
   grind [Instr.sameNow,Instr.findNow]
theorem jH.length:∀{es:List fC} {ys:List MapEntry},jH I es ys->ys.length=es.length
 | [],ys,h=>by have:ys= []:=h;rw[this];rfl
 | e::es,ys,h=>by obtain⟨y,r,rfl,_,_,_,h4⟩:=h;simp[h4.length]
theorem jH.get:∀{es:List fC} {ys:List MapEntry},jH I es ys->∀{i:Nat} {e:fC},es[i]?=some e->∃y,ys[i]?=some y/\VR I e.key y.key/\VR I e.val y.val/\y.born=e.born
 | [],ys,h,i,e,he=>by simp at he
 | e::es,ys,h,0,e',he=>by
  obtain⟨y,r,rfl,h1,b,h3,h4⟩:=h
  simp_all
 | e::es,ys,h,i+1,e',he=>by
  obtain⟨y,r,rfl,h1,b,h3,h4⟩:=h;simp at he;simpa using h4.get he
theorem jH.append:∀{es fs:List fC} {ys zs:List MapEntry},jH I es ys->jH I fs zs->jH I (es++fs) (ys++zs)
 | [],fs,ys,zs,h,h'=>by have:ys= []:=h;subst this;exact h'
 | e::es,fs,ys,zs,h,h'=>by
  obtain⟨y,r,rfl,h1,b,h3,h4⟩:=h;exact⟨y,r++zs,Z,h1,b,h3,h4.append h'⟩
theorem jH.set:∀{es:List fC} {ys:List MapEntry},jH I es ys->∀(i:Nat) {e:fC} {y:MapEntry},VR I e.key y.key->VR I e.val y.val->y.born=e.born->jH I (es.set i e) (ys.set i y)
 | [],ys,h,i,_,_,_,_,_=>by have:ys= []:=h;simp_all
 | e::es,ys,h,0,_,_,b,k2,d=>by
  obtain⟨y,r,rfl,h1,u,h3,h4⟩:=h;exact⟨_,r,Z,b,k2,d,h4⟩
 | e::es,ys,h,i+1,_,_,b,k2,d=>by
  obtain⟨y,r,rfl,h1,u,h3,h4⟩:=h;exact⟨y,_,Z,h1,u,h3,h4.set i b k2 d⟩
theorem jH.erase:∀{es:List fC} {ys:List MapEntry},jH I es ys->∀(i:Nat),jH I (es.eraseIdx i) (ys.eraseIdx i)
 | [],ys,h,i=>by have:ys= []:=h;simp_all
 | e::es,ys,h,0=>by obtain⟨y,r,rfl,h1,b,h3,h4⟩:=h;exact h4
 | e::es,ys,h,i+1=>by
  obtain⟨y,r,rfl,h1,b,h3,h4⟩:=h;exact⟨y,_,Z,h1,b,h3,h4.erase i⟩
theorem Inv.wV (hi:Inv I O w) {b:Pos} {l:Loc} {es:List fC} {clock:Nat} (d:O.m.get b=some (.map es clock)) (hl:I b=some l):∃es',w.heap[l.dN]?=some (.map es' clock)/\jH I es es'.toList:=by
 obtain⟨x,hx,es',rfl,h2⟩:=hi.obj b _ l d hl
 simp_all
theorem run_getObj_map {r clock:Nat} {es:Array MapEntry} (h:w.heap[r]?=some (.map es clock)):(getObj r).run P w= .ok (.map es clock) w:=by
 simp[getObj,Sem.run,h]
theorem Ai (hi:Inv I O w) {ev:Operand->Option V} {f:Operand->Value} {t:TypeId} {x i:Operand} {ok:Bool} {v:V} (hx:∀u,ev x=some u->VR I u (f x)) (hk:∀u,ev i=some u->VR I u (f i))
  (h:gp P ev O (.lookup t x i ok)=some v):∃z,(Instr.lookup t (f x) (f i) ok).run P w= .ok z w/\VR I v z:=by
 simp only[gp] at h;split at h
 ·rename_i kt et k hu F;simp only[bx] at h;split at h
  ·rename_i B;rw[bA_] at B;obtain⟨hp,G⟩:=B;have hkv:=hk _ F
   have main:∀(es:List fC) (ys:Array MapEntry),jH I es ys.toList->
     (match oT P kt k es 0,fw P et with
      | some (some (_,v)),some _=>some (if ok=true then V.tuple [v,.bool true] else v)
      | some none,some z=>some (if ok=true then V.tuple [z,.bool false] else z)
      | _,_=>none)=some v->
     (Instr.checkKey ys.isEmpty 10000 kt<|f i).run P w= .ok () w/\∃r',(Instr.findKey kt (f i) ys.toList).run P w= .ok r' w/\
      ((∃j y,r'=some (j,y)/\VR I v (if ok=true then .tuple #[y,.bool true] else y))∨
       (r'=none/\∃xz,(zeroValue et).run P w= .ok xz w/\VR I v (if ok=true then .tuple #[xz,.bool false] else xz))):=by
    intro es ys he hh;have hck:=lZ (w:=w) hp G hkv ys.isEmpty;cases hf:oT P kt k es 0 with
    | none=>simp_all
    | some r=>
     obtain⟨r',g1,K⟩:=l8 (w:=w) hp hkv he hf;cases A:fw P et with
     | none=>simp_all
     | some zz=>
      rw[hf,A] at hh;obtain⟨iz,xz,L,hzero,C⟩:=qk A;cases r with
      | some p=>
       obtain⟨j,u⟩:=p;cases r' with
       | none=>exact K.elim
       | some q=>
        obtain⟨j',y⟩:=q;obtain⟨_,hy⟩:=K;refine⟨hck,_,g1,.inl ⟨j',y,Z,?_⟩⟩;cases hh;cases ok with
        | true=>
         simp only[if_true,VR];exact⟨_,Z,dA.cons hy<|dA.cons (by simp only[VR]) dA.nil⟩
        | false=>simpa using hy
      | none=>
       cases r' with
       | some q=>exact K.elim
       | none=>
        have M:(zeroValue et).run P w= .ok xz w:=by simp[zeroValue,typeInfo,L,hzero]
        refine⟨hck,_,g1,.inr ⟨Z,xz,M,?_⟩⟩;cases hh;cases ok with
        | true=>
         simp only[if_true,VR];exact⟨_,Z,dA.cons (C I)<|dA.cons (by simp only[VR]) dA.nil⟩
        | false=>simpa using C I
   cases E:ev x with
   | none=>simp_all
   | some m=>
    rw[E] at h;have hmv:=hx m E;cases m with
    | ig=>
     simp only[VR] at hmv;dsimp only at h;obtain⟨hck,r',g1,d⟩:=main [] #[] (by simp[jH]) h;rcases d with ⟨j,y,rfl,d⟩ | ⟨rfl,xz,A,d⟩
     ·exact⟨_,by rw[hmv];simp only[Instr.lookup,sB_,run_underlying hu,rA,sP_,hck,g1],d⟩
     exact⟨_,by rw[hmv];simp only[Instr.lookup,sB_,run_underlying hu,rA,sP_,hck,g1,A],d⟩
    | map b=>
     simp only[VR] at hmv;obtain⟨l,hl,hf⟩:=hmv;dsimp only at h;cases hb:O.m.get b with
     | none=>rw[hb] at h;cases h
     | some ob=>
      rw[hb] at h;cases ob with
      | map es clock=>
       dsimp only at h;obtain⟨ys,hh,he⟩:=hi.wV hb hl;obtain⟨hck,r',g1,d⟩:=main es ys he h;rcases d with ⟨j,y,rfl,d⟩ | ⟨rfl,xz,A,d⟩
       ·exact⟨_,by rw[hf];simp only[Instr.lookup,sB_,run_underlying hu,rA,sP_,run_getObj_map hh,hck,g1],d⟩
       exact⟨_,by rw[hf];simp only[Instr.lookup,sB_,run_underlying hu,rA,sP_,run_getObj_map hh,hck,g1,A],d⟩
      | _=>cases h
    | _=>cases h
  cases h
 cases h
theorem uV (hi:Inv I O w) {u:Option TypeId} {x:Option V} {v:V} {z:Value} (h:sg P u O x=some v) (hx:∀a,x=some a->VR I a z):
  ∃(a:Addr) (e cells:Nat),z= .pointer (some a)/\VR I v z/\w.shape? a.block=some (e,cells)/\(match u with | some u=>liesAt P P.depth e (cells/P.cellsOf e) a.off u 1=true | none=>a.off<cells):=by
 unfold sg at h;cases x with
 | none=>cases h
 | some xv=>
  cases xv with
  | ptr b off=>
   have hv:=hx _ Z;have hv':=hv;simp only[VR] at hv';obtain⟨l,hl,rfl⟩:=hv';dsimp only at h;cases hb:O.m.get b with
   | none=>rw[hb] at h;cases h
   | some ob=>
    rw[hb] at h;cases ob with
    | own cells e=>
     dsimp only at h;obtain⟨y,hy,⟨h0,aa⟩,c,fr,rfl,hc,_⟩:=hi.obj b _ l hb hl;have A:c.size=cells.length:=by omega
     have d:w.shape? l.dN=some (e,cells.length):=by simp[World.shape?,hy,A]
     cases u with
     | some u=>
      dsimp only at h;rw[bx] at h;split at h
      ·rename_i hq;cases h;rw[bN] at hq;exact⟨_,e,cells.length,Z,hv,d,by simpa [h0] using hq⟩
      cases h
     | none=>
      dsimp only at h;rw[bx] at h;split at h
      ·rename_i hq;cases h;rw[nE_,bN] at hq;exact⟨_,e,cells.length,Z,hv,d,by grind⟩
      cases h
    | _=>cases h
  | _=>cases h
theorem xn (hi:Inv I O w) {ev:Operand->Option V} {f:Operand->Value} {o:Oper} {v:V} (B:ER I ev f o.op) (h:gp P ev O o.op=some v):
  ∃x,(execOp f o).run P w= .ok (.value x) w/\VR I v x:=by
 cases C:o.op with
 | load t x=>
  rw[C] at h B;simp only[gp] at h;cases hx:ev x with
  | none=>rw[hx] at h;cases h
  | some u=>
   rw[hx] at h;have hvx:=B x (by simp[Op.operands]) u hx;cases u with
   | ptr b off=>
    simp only at h;cases K:O.m.get b with
    | none=>rw[K] at h;cases h
    | some ob=>
     rw[K] at h;cases ob with
     | row cells e ro=>
      simp only[VR] at hvx;obtain⟨l,hl,E⟩:=hvx;obtain⟨y,hy,Q⟩:=nh (P:=P) hi K hl h;refine⟨y,?_,Q⟩;simp[execOp,C,Instr.loadAt,E,Instr.sureAddr,hy]
     | own cells e=>
      simp only[VR] at hvx;obtain⟨l,hl,E⟩:=hvx;obtain⟨_,F,_⟩:=hi.own K hl;obtain⟨y,hy,Q⟩:=nh (P:=P) F (N.me _ _ _) hl h;refine⟨y,?_,Q⟩;simp[execOp,C,Instr.loadAt,E,Instr.sureAddr,hy]
     | _=>cases h
   | _=>cases h
 | lookup t x i ok=>
  rw[C] at h B;obtain⟨z,h1,W⟩:=Ai (P:=P) hi (f:=f) (B x (by simp[Op.operands])) (B i (by simp[Op.operands])) h
  grind [execOp,sB_,rA,sP_]
 | convert src dst x=>
  rw[C] at h B;simp only[gp] at h;split at h
  case h_4=>cases h
  case h_2=>
   rename_i t L M;split at h
   ·rename_i j hj;rw[bx] at h;split at h
    ·cases h
    rename_i h0;obtain⟨a,e,cells,hf,hv,R,aq⟩:=uV hi h (B x (by simp[Op.operands]));have ab:j.size≠0:=fun e=>h0 (by rw[e];rfl)
    grind [execOp,sB_,Lib.run_to_unsafe,rA,sP_]
   cases h
  case h_3=>
   rename_i u L M;rw[bx] at h;split at h
   ·rename_i F;obtain⟨j,hj⟩:=Option.isSome_iff_exists.1 F;obtain⟨a,e,cells,hf,hv,R,aq⟩:=uV hi h (B x (by simp[Op.operands]))
    grind [execOp,sB_,Lib.run_from_unsafe,rA,sP_]
   cases h
  rename_i e L M;split at h
  case h_3=>cases h
  ·rename_i he hx;cases h;have hv:=B x (by simp[Op.operands]) _ hx;simp only[VR] at hv;refine⟨.string .empty,?_,by simp only[VR];exact⟨_,Z,Z⟩⟩;simp[execOp,C,convert,hv,run_underlying L,run_underlying M,run_underlying he,Conv.bytesToString]
  rename_i b off len cap he hx;have hv:=B x (by simp[Op.operands]) _ hx
  have fin:∀(a:Addr) (c:Nat) (s:List Nat),f x= .slice (some a) len c->s.length=len->(∀n∈s,n<=255)->(∀(j:Nat) (hj:j<s.length),w.cell? (a.add j)=some (.int .u8 ((s[j]:Nat):Int)))->
    ∃z,(execOp f o).run P w= .ok (.value z) w/\VR I (.str s) z:=by
   intro a c s hf hl hle hc
   have hb:∀n∈s,(UInt8.ofNat n).toNat=n:=fun n X=>by
    grind [UInt8.toNat_ofNat']
   have:=run_convert_bytes_back (P:=P) w src dst e a c (s.map UInt8.ofNat) L he M (fun j hj=>by
    grind)
   rw[lM_,hl] at this;refine⟨.string ⟨(s.map UInt8.ofNat).toArray⟩,by grind [execOp,sB_,rA,sP_],?_⟩;simp only[VR];refine⟨_,Z,?_⟩;unfold gy;simp only[List.map_map]
   conv=>rhs;rw[<-List.map_id s]
   exact List.map_congr_left fun n X=>hb n X
  rw[bx] at h;split at h
  ·rename_i h0;have:=nB h0;subst this;cases h;obtain⟨a,c,hf⟩:=VR.iW hv
   simp_all
  rename_i h0;rw[Nat.beq_eq] at h0;split at h
  ·rename_i cells e' ro hb;rw[bx] at h;split at h
   ·rename_i hle;rw[nE_,bN] at hle;split at h
    ·rename_i s G;cases h
     obtain⟨l,c,hl,hf⟩:∃l c,I b=some l/\f x= .slice (some ⟨l.dN,l.sh+off,none⟩) len c:=by
      cases cap with
      | known c=>grind [VR]
      | upto sz=>
       grind [VR]
      | least a sz=>grind [VR]
     obtain⟨ys,ac,S,aa⟩:=hi.piece hb hl off len hle;rw[dp,dQ] at G
     have key:∀(l:List V) (s:List Nat),cQ yr l=some s->s.length=l.length/\(∀n∈s,n<=255)/\∀(j:Nat) (n:Nat),s[j]?=some n->l[j]?=some (.int .u8 (.ofNat n)):=by
      intro l;induction l with
      | nil=>intro s h;rw[gO] at h;simp_all
      | cons x l ih=>
       intro s h;obtain⟨y,r,h1,W,rfl⟩:=gq h;obtain⟨k1,k2,k3⟩:=ih r W
       have hx:x= .int .u8 (.ofNat y)/\y<=255:=by
        unfold yr at h1;split at h1
        ·rw[bx] at h1;split at h1
         ·simp_all
         cases h1
        cases h1
       grind
     obtain⟨k1,k2,k3⟩:=key _ s G;have T:s.length=len:=by grind
     refine fin _ c s hf T k2 (fun j hj=>?_);have h1:=k3 j s[j] (gC hj);obtain⟨y,hy,am⟩:=S.get h1
     grind [VR]
    cases h
   cases h
  cases h
 | call c=>
  rw[C] at h B;simp only[gp] at h;split at h
  ·rename_i A;split at h
   ·rename_i u1 u2 t x e1 e2;have d:c.args= #[x]:=by grind
    split at h
    ·rename_i u3 u4 kt et b hu hx;have hv:=B x (by simp[Op.operands,Call.operands,A,d]) _ hx;simp only[VR] at hv;obtain⟨l,hl,hf⟩:=hv;split at h
     ·rename_i es clock hb;cases h;obtain⟨ys,hh,he⟩:=hi.wV hb hl;refine⟨.int .i64<|Int.ofNat<|dn es,?_,by simp only[VR]⟩;have hlen:ys.size=es.length:=by have:=he.length;simpa using this
      simp[execOp,C,resolve,A,d,invoke,builtin,Builtin.len_,e1,run_underlying hu,hf,run_getObj_map hh,goInt,bN,hlen]
     cases h
    ·rename_i u3 u4 kt et hu hx;cases h;have hv:=B x (by simp[Op.operands,Call.operands,A,d]) _ hx;simp only[VR] at hv;refine⟨.int .i64 0,?_,by simp only[VR]⟩;simp[execOp,C,resolve,A,d,invoke,builtin,Builtin.len_,e1,run_underlying hu,hv,goInt]
    cases h
   cases h
  cases h
 | _=>rw[C] at h;simp[gp] at h
end
section
variable {P:Program} {I:dg} {O:N} {w:World}
theorem DF {ts:Array TypeId} {ty:TypeId} {x v:V} {y:Value} (h:Fv x=some v) (hx:VR I x y):∃z,(Builtin.unsafeSliceData_ ts ty #[y]).run P w= .ok z w/\VR I v z:=by
 unfold Fv at h;split at h
 ·cases h;simp only[VR] at hx;subst hx;exact⟨_,Lib.run_unsafeSliceData_nil w ts ty 0 0,by simp only[VR]⟩
 ·rename_i b off len c;rw[bx] at h;split at h
  ·rename_i d;cases h;cases c with
   | known c=>
    simp only[VR] at hx;obtain⟨l,hl,rfl⟩:=hx;have d:Nat.ble 1 c=true:=d;rw[nE_] at d;exact⟨_,Lib.run_unsafeSliceData_row w ts ty _ _ _ oM,by simp only[VR];simp_all⟩
   | upto s=>
    have d:Nat.ble 1 len=true:=d;rw[nE_] at d;simp only[VR] at hx;obtain⟨l,hl,⟨c,rfl,u,_⟩ | ⟨h0,_⟩⟩:=hx
    ·exact⟨_,Lib.run_unsafeSliceData_row w ts ty _ _ _ oM,by simp only[VR];simp_all⟩
    omega
   | least a s=>
    have d:Nat.ble 1 a=true:=d;rw[nE_] at d;simp only[VR] at hx;obtain⟨l,hl,c,rfl,u,_⟩:=hx;exact⟨_,Lib.run_unsafeSliceData_row w ts ty _ _ _ oM,by simp only[VR];simp_all⟩
  cases h
 cases h
theorem BC:∀{l:List V} {s:List Nat},cQ yr l=some s->s.length=l.length/\(∀n∈s,n<=255)/\∀(j:Nat) (n:Nat),s[j]?=some n->l[j]?=some (.int .u8 (.ofNat n))
 | [],s,h=>by rw[gO] at h;simp_all
 | x::l,s,h=>by
  obtain⟨y,r,h1,b,rfl⟩:=gq h;obtain⟨k1,k2,k3⟩:=BC b
  have hx:x= .int .u8 (.ofNat y)/\y<=255:=by
   unfold yr at h1;split at h1
   ·rw[bx] at h1;split at h1
    ·simp_all
    cases h1
   cases h1
  grind
theorem tu (ts:Array TypeId) (ty:TypeId) (k:Value):Builtin.unsafeString_ ts ty #[.pointer none,k]=
   (do
    let n <-asInt k
    let some _:=ts[0]? | stuck "unsafe.String: no argument types"
    if n<0 then runtimePanic (.error "unsafe.String: len out of range")
    if n>IntKind.i64.max then unsupported (.unsafePointer "String: a length above the largest int")
    if n=0 then pure (.string .empty)
    else runtimePanic (.error "unsafe.String: ptr is nil and len is not zero")):=rfl
theorem mY (ts:Array TypeId) (ty:TypeId) (a:Addr) (k:Value):Builtin.unsafeString_ ts ty #[.pointer<|some a,k]=
   (do
    let n <-asInt k
    let some pt:=ts[0]? | stuck "unsafe.String: no argument types"
    if n<0 then runtimePanic (.error "unsafe.String: len out of range")
    if n>IntKind.i64.max then unsupported (.unsafePointer "String: a length above the largest int")
    if n=0 then pure (.string .empty)
    else if <-variablesAt a (<-elemOf pt) n.toNat then do
     let s <-loadBytes a .empty n.toNat
     freeze a n.toNat
     pure (.string s)
    else unsupported (.unsafePointer "String: not so many bytes at ptr")):=rfl
theorem jQ {ts:Array TypeId} {ty pt:TypeId} (d:ts[0]?=some pt) (p:Option Addr):(Builtin.unsafeString_ ts ty #[.pointer p,.int .i64 0]).run P w= .ok (.string .empty) w:=by
 have b:IntKind.i64.max=9223372036854775807:=rfl;cases p with
 | none=>rw[tu];simp[d,asInt,asIntOf,b]
 | some a=>rw[mY];simp[d,asInt,asIntOf,b]
theorem q8 {ts:Array TypeId} {ty pt e:TypeId} (E:ts[0]?=some pt) (hp:P.underlying pt=some (.pointer e)) (F:P.cellsOf e=1) (g off cells:Nat) (B:w.shape? g=some (e,cells)) (l:List UInt8) (h0:l≠[]) (G:off+l.length<=cells) (aa:l.length<=9223372036854775807)
  (b:∀j x,l[j]?=some x->w.cell? ((⟨g,off,none⟩:Addr).add j)=some (.int .u8 x.toNat)):
  (Builtin.unsafeString_ ts ty #[.pointer<|some ⟨g,off,none⟩,.int .i64 l.length]).run P w= .ok (.string ⟨l.toArray⟩) (w.freeze ⟨g,off,none⟩ l.length):=by
 have hl:l.length≠0:=by simpa using h0
 have hlb:=Lib.run_loadBytes (P:=P) w l ⟨g,off,none⟩ .empty b
 have d:liesAt P P.depth e (cells/P.cellsOf e) off e l.length=true:=by
  have C:P.depth=(2*(P.types.size+Made.depth)+1)+1:=rfl;rw[C];simp only[liesAt,Bool.or_eq_true];left;rw[C];simp[rowAt,F,G,sameLayout,Nat.mod_one]
 have u:¬(9223372036854775807:Int)<(l.length:Int):=by omega
 have z:IntKind.i64.max=9223372036854775807:=rfl;have A:¬(l.length:Int)<0:=by omega
 rw[mY];simp[E,asInt,asIntOf,z,u,A,hl,variablesAt,B,elemOf,run_underlying hp,d,hlb]
theorem EY (hi:Inv I O w) {ts:Array TypeId} {ty:TypeId} {p n:V} {yp yn:Value} {s:List Nat} {O':N} (h:Gk P O ts[0]? p n=some (s,O')) (hp:VR I p yp) (A:VR I n yn):
  ∃z w',(Builtin.unsafeString_ ts ty #[yp,yn]).run P w= .ok z w'/\VR I (.str s) z/\Inv I O' w'/\eY I O w I O' w':=by
 unfold Gk at h;split at h
 ·rename_i k;simp only[VR] at A;subst A;rw[bx] at h;split at h
  ·rename_i h0;have:=nB h0;subst this;split at h
   ·rename_i R S pt B;cases h;simp only[VR] at hp;subst hp;exact⟨_,w,jQ B _,by simp only[VR];exact⟨_,Z,Z⟩,hi,eY.refl _ _ _⟩
   ·rename_i R S pt b off B;cases h;simp only[VR] at hp;obtain⟨l,hl,rfl⟩:=hp;exact⟨_,w,jQ B _,by simp only[VR];exact⟨_,Z,Z⟩,hi,eY.refl _ _ _⟩
   cases h
  rename_i h0;rw[Nat.beq_eq] at h0;split at h
  ·rename_i R S pt b off B;split at h
   ·rename_i u3 u4 u cells e hu hb;rw[bx] at h;split at h
    ·rename_i T;simp only[bA_,Nat.beq_eq,nE_,bN] at T;obtain⟨rfl,E,hle,ab⟩:=T;split at h
     ·rename_i s' W;cases h;simp only[VR] at hp;obtain⟨l,hl,rfl⟩:=hp;rw[dp,dQ] at W;obtain⟨k1,k2,X⟩:=BC W;have ac:s.length=k:=by grind
      obtain⟨c,fr,F,G,K,L,am⟩:=hi.row hb hl;obtain⟨ys,ao,M,aa⟩:=hi.piece hb hl off k hle
      have Q:∀n∈s,(UInt8.ofNat n).toNat=n:=fun n A=>by
       grind [UInt8.toNat_ofNat']
      have hlen:(s.map UInt8.ofNat).length=k:=by grind
      have r:=q8 (P:=P) (w:=w) (ty:=ty) B hu E l.dN (l.sh+off) c.size (by simp[World.shape?,F]) (s.map UInt8.ofNat) (by grind) (by rw[hlen];omega) (by rw[hlen];omega)
       (fun j x hx=>by
        rw[gM_] at hx;cases hj:s[j]? with
        | none=>grind
        | some m=>
         rw[hj] at hx;cases hx;have h1:=X j m hj;obtain⟨y,hy,ap⟩:=M.get h1
         grind [VR])
      rw[hlen] at r;have d:¬k=0:=h0
      have hw:∃fr',(w.freeze ⟨l.dN,l.sh+off,none⟩ k).heap[l.dN]?=some (.cells c e fr'):=by
       unfold World.freeze
       grind
      obtain⟨fr',hw⟩:=hw
      have C:∀r,r≠l.dN->(w.freeze ⟨l.dN,l.sh+off,none⟩ k).heap[r]?=w.heap[r]?:=fun r hr=>by
       unfold World.freeze
       grind
      obtain⟨i2,s2⟩:=hi.Fl hb hl Z (o':=.row cells e true) hw ⟨c,fr',Z,G,K,L,fun h=>by cases h⟩ C (by unfold World.freeze;rw[if_neg d];simp) (by unfold World.freeze;rw[if_neg d]) (by unfold World.freeze;rw[if_neg d]) (by unfold World.freeze;rw[if_neg d]);refine⟨_,_,r,?_,i2,s2⟩;simp only[VR];refine⟨_,Z,?_⟩;unfold gy;simp only[List.map_map]
      conv=>rhs;rw[<-List.map_id s]
      exact List.map_congr_left fun n A=>Q n A
     cases h
    cases h
   cases h
  cases h
 cases h
theorem BD (hi:Inv I O w) {src dst:TypeId} {x v:V} {y:Value} {O':N} (h:lX P O src dst x= .val v O') (hx:VR I x y):
  ∃z w' I',(convert src dst y).run P w= .ok z w'/\VR I' v z/\Inv I' O' w'/\eY I O w I' O' w':=by
 unfold lX at h;split at h
 ·rename_i e s K L;split at h
  ·rename_i he;rw[bx] at h;split at h
   ·rename_i ab;cases h;simp only[VR] at hx;obtain⟨bs,rfl,d⟩:=hx;have A:bs.size<=grownCap w bs.size 0 e:=grownCap_ge _ _ _ _
    have C:(Lib.bytesCells w e bs).size=grownCap w bs.size 0 e:=by
     unfold Lib.bytesCells
     simp_all
    have hlen:dn s=bs.size:=iY d;have aa:(ya (fun c=>V.int .u8 (Int.ofNat c)) s).length=bs.size:=by rw[lG,lM_,<-bN,hlen]
    have M:gK I ⟨w.heap.size,0,grownCap w bs.size 0 e⟩ (.row (ya (fun c=>V.int .u8 (Int.ofNat c)) s) e true) (.cells (Lib.bytesCells w e bs) e ((Lib.bytesCells w e bs).size,(Lib.bytesCells w e bs).size+1)):=by
     refine⟨_,_,Z,by simp[C],by simp_all,fun i v hv=>?_,fun h=>by cases h⟩;rw[lG,gM_] at hv;cases B:s[i]? with
     | none=>simp_all
     | some m=>
      rw[B] at hv;cases hv;have u:(bs.data.toList.map UInt8.toNat)[i]?=some m:=by unfold gy at d;rw[d];exact B
      rw[gM_] at u;cases hq:bs.data.toList[i]? with
      | none=>simp_all
      | some b=>
       rw[hq] at u;cases u;have E:bs.data[i]?=some b:=by simp_all
       have ac:i<bs.data.size:=(aS_.1 E).1;refine⟨.int .u8 b.toNat,?_,by simp only[VR];rfl⟩;unfold Lib.bytesCells
       grind
    have hi1:=hi.drew;obtain⟨F,G⟩:=hi1.alloc (l:=⟨w.heap.size,0,grownCap w bs.size 0 e⟩) (x:=.cells (Lib.bytesCells w e bs) e ((Lib.bytesCells w e bs).size,(Lib.bytesCells w e bs).size+1)) Z M
    have hw:(w.drew.alloc (.cells (Lib.bytesCells w e bs) e ((Lib.bytesCells w e bs).size,(Lib.bytesCells w e bs).size+1)))=Lib.bytesWorld w e bs:=by
     unfold Lib.bytesWorld World.freeze;rw[if_neg oM]
     have:∀(h:Array Obj) (a b:Obj) (f:Obj->Obj),f a=b->(h.push a).modify h.size f=h.push b:=fun h a b f e=>by
      grind
     simp only[World.alloc,World.drew]
     simp_all
    rw[hw] at F G;refine⟨_,_,_,Lib.run_convert_string_bytes w src dst e bs K L he,?_,F,(eY.drew I O w).trans G⟩;simp only[VR];refine⟨_,dg.cV _ _ _,.inl ⟨grownCap w bs.size 0 e,by rw[hlen],by rw[hlen];exact A,by simp⟩⟩
   cases h
  cases h
 cases h
theorem Du (P:Program) (O:N) (src dst:TypeId) (x:V) (v:V) (O':N):lX P O src dst x≠ .mr v O':=by
 unfold lX
 grind
theorem rN (P:Program) (O:N) (src dst:TypeId) (x:V):∀f args O',lX P O src dst x≠ .enter f args O'/\lX P O src dst x≠ .round f args O'/\lX P O src dst x≠ .skip O':=by
 intro f args O';unfold lX
 grind
end
section
variable {P:Program} {I:dg} {O:N} {w:World}
theorem uD {x y:V} {a c:Value} (h:r4 x y=some true) (hx:VR I x a) (hy:VR I y c) (n:Nat):Instr.sameBits n a c=true:=by
 unfold r4 at h;split at h
 ·simp only[VR] at hx hy;subst hx;subst hy;simp only[oJ_,pz] at h;simp only[Instr.sameBits,h]
 ·rename_i j a' k b';simp only[bx] at h;split at h
  ·rename_i hk;have:=pB hk;subst this;simp only[oJ_,dK,decide_eq_true_eq] at h
   grind [VR,Instr.sameBits]
  cases h
 ·simp only[VR] at hx hy;obtain⟨p,rfl,hp⟩:=hx;obtain⟨q,rfl,hq⟩:=hy
  grind [nR,Instr.sameBits,beq_toListBytes]
 cases h
theorem ri:∀{xs ys:List V} {as cs:List Value},pk xs ys=true->dA I xs as->dA I ys cs->∀n,as.length=cs.length/\((as.zip cs).all fun(x,y)=>Instr.sameBits n x y)=true
 | [],[],as,cs,_,hx,hy,n=>by rw[hx.eV,hy.eV];simp
 | [],y::ys,as,cs,h,hx,hy,n=>by cases h
 | x::xs,[],as,cs,h,hx,hy,n=>by cases h
 | x::xs,y::ys,as,cs,h,hx,hy,n=>by
  obtain⟨a,as',rfl,h1,b⟩:=hx.cons_inv;obtain⟨c,cs',rfl,h3,h4⟩:=hy.cons_inv;have h':(match r4 x y with | some true=>pk xs ys | _=>false)=true:=h;split at h'
  ·rename_i he;obtain⟨g1,d⟩:=ri h' b h4 n;refine⟨by simp[g1],?_⟩;simp only[List.zip_cons_cons,List.all_cons,bA_];exact⟨uD he h1 h3 n,d⟩
  cases h'
theorem AE {x y:V} {a c:Value} (h:sameKey x y=true) (hx:VR I x a) (hy:VR I y c) (n:Nat):Instr.sameBits (n+1) a c=true:=by
 unfold sameKey at h;split at h
 ·simp only[VR] at hx hy;obtain⟨as,rfl,hx⟩:=hx;obtain⟨cs,rfl,hy⟩:=hy;obtain⟨g1,g2⟩:=ri h hx hy n;simp only[Instr.sameBits,bA_,beq_iff_eq]
  simp_all
 grind [uD]
theorem Hu (e:fC) (es:List fC) (i:Nat):AG e es i=es.set i e:=uf _ _ _
theorem yF:∀(es:List fC) (i:Nat),wb es i=es.eraseIdx i
 | [],i=>rfl
 | e::es,0=>rfl
 | e::es,i+1=>congrArg (e::·) (yF es i)
theorem Inv.AH (hi:Inv I O w) {b:Pos} {l:Loc} {es es':List fC} {clock clock':Nat} {ys:Array MapEntry} (hb:O.m.get b=some (.map es clock)) (hl:I b=some l) (he:jH I es' ys.toList):
  ∃w',(setObj l.dN (.map ys clock')).run P w= .ok () w'/\Inv I (O.setObj b (.map es' clock')) w'/\eY I O w I (O.setObj b (.map es' clock')) w':=by
 obtain⟨zs,hh,_⟩:=hi.wV hb hl;refine⟨{w with heap:=w.heap.setIfInBounds l.dN (.map ys clock')},by simp[setObj,Sem.run,hh],?_⟩;have hlt:=hi.dN b l hl
 exact hi.change hb hl Z Z (x:=.map ys clock') (by simp_all) ⟨ys,Z,he⟩
  (fun r hr=>by grind) (by simp) Z Z Z
theorem tv (hi:Inv I O w) {t:TypeId} {m k v:V} {ym yk yv:Value} {O':N} (h:mZ P O t m k v=some O') (hm:VR I m ym) (hk:VR I k yk) (hv:VR I v yv):
  ∃w',(Instr.mapUpdate t ym yk yv).run P w= .ok () w'/\Inv I O' w'/\eY I O w I O' w':=by
 unfold mZ at h;split at h
 ·rename_i u1 u2 kt et b hu;split at h
  ·rename_i es clock hb;simp only[bx] at h;split at h
   ·rename_i d;rw[bA_] at d;obtain⟨hp,E⟩:=d;simp only[VR] at hm;obtain⟨l,hl,rfl⟩:=hm;obtain⟨ys,hh,he⟩:=hi.wV hb hl;have hck:=lZ (w:=w) hp E hk false;split at h
    ·rename_i i u hf;obtain⟨r',g1,C⟩:=l8 (w:=w) hp hk he hf;cases r' with
     | none=>exact C.elim
     | some q=>
     obtain⟨j,y⟩:=q;obtain⟨rfl,hy⟩:=C;rw[eU] at h;split at h
     ·rename_i e F;split at h
      ·rename_i G;cases h;obtain⟨ye,aa,e1,e2,e3⟩:=he.get F;have hsb:=AE G e1 hk 9999;have z:ys[i]?=some ye:=by simp_all
       have A:(Instr.keyThatStays (((ys[i]?).map (·.key)).getD yk) yk).run P w= .ok yk w:=by
        simp[Instr.keyThatStays,z,hsb]
       have B:(ys.modify i fun e=>{e with key:=yk,val:=yv}).toList=ys.toList.set i {key:=yk,val:=yv,born:=e.born}:=by
        apply List.ext_getElem?
        grind
       obtain⟨w',r,inv,st⟩:=hi.AH (P:=P) (clock':=clock) (es':=AG {key:=k,val:=v,born:=e.born} es i) (ys:=ys.modify i fun e=>{e with key:=yk,val:=yv}) hb hl (by
        rw[B,Hu];exact he.set i hk hv Z)
       refine⟨w',?_,inv,st⟩;simp only[Instr.mapUpdate,sB_,run_underlying hu,rA,run_getObj_map hh,hck,g1,A,r]
      cases h
     cases h
    ·rename_i hf;cases h;obtain⟨r',g1,C⟩:=l8 (w:=w) hp hk he hf;cases r' with
     | some q=>exact C.elim
     | none=>
     obtain⟨w',r,inv,st⟩:=hi.AH (P:=P) (clock':=clock+1) (es':=gE es [{key:=k,val:=v,born:=clock}]) (ys:=ys.push {key:=yk,val:=yv,born:=clock}) hb hl (by
      rw[dX,Array.toList_push];exact he.append ⟨_,[],Z,hk,hv,Z,Z⟩)
     refine⟨w',?_,inv,st⟩;simp only[Instr.mapUpdate,sB_,run_underlying hu,rA,run_getObj_map hh,hck,g1,r]
    cases h
   cases h
  cases h
 cases h
theorem zQ (hi:Inv I O w) {ts:Array TypeId} {ty:TypeId} {m k:V} {ym yk:Value} {O':N} (h:qq P O ts m k=some O') (hm:VR I m ym) (hk:VR I k yk):
  ∃w',(Builtin.delete_ ts ty #[ym,yk]).run P w= .ok (.tuple #[]) w'/\Inv I O' w'/\eY I O w I O' w':=by
 unfold qq at h;split at h
 ·rename_i t B;split at h
  ·rename_i u1 u2 kt et b hu;split at h
   ·rename_i es clock hb;simp only[bx] at h;split at h
    ·rename_i d;rw[bA_] at d;obtain⟨hp,A⟩:=d;simp only[VR] at hm;obtain⟨l,hl,rfl⟩:=hm;obtain⟨ys,hh,he⟩:=hi.wV hb hl;have hck:=lZ (w:=w) hp A hk ys.isEmpty;split at h
     ·rename_i i u hf;cases h;obtain⟨r',g1,z⟩:=l8 (w:=w) hp hk he hf;cases r' with
      | none=>exact z.elim
      | some q=>
      obtain⟨j,y⟩:=q;obtain⟨rfl,hy⟩:=z
      obtain⟨w',r,inv,st⟩:=hi.AH (P:=P) (clock':=clock) (es':=wb es i) (ys:=ys.eraseIdxIfInBounds i) hb hl (by
       rw[Array.toList_eraseIdxIfInBounds,yF];exact he.erase i)
      refine⟨w',?_,inv,st⟩;simp only[Builtin.delete_,B,List.getElem?_toArray,List.getElem?_cons_zero,List.getElem?_cons_succ,sB_,run_underlying hu,rA,run_getObj_map hh,hck,g1,r,sP_]
     ·rename_i hf;cases h;obtain⟨r',g1,z⟩:=l8 (w:=w) hp hk he hf;cases r' with
      | some q=>exact z.elim
      | none=>
      obtain⟨w',r,inv,st⟩:=hi.AH (P:=P) (clock':=clock) (es':=es) (ys:=ys) hb hl he;refine⟨w',?_,inv,st⟩;simp only[Builtin.delete_,B,List.getElem?_toArray,List.getElem?_cons_zero,List.getElem?_cons_succ,sB_,run_underlying hu,rA,run_getObj_map hh,hck,g1,r,sP_]
     cases h
    cases h
   cases h
  cases h
 cases h
def HR.isVal:HR->Prop
 | .val ..=>True
 | .err _=>True
 | _=>False
theorem Dq (P:Program) (O:N) (ts:Array TypeId) (s x:V):(fM P O ts s x).isVal:=by
 unfold fM;simp only[bx,grow]
 repeat' (first | trivial | split)
theorem Bw (P:Program) (O:N) (ts:Array TypeId) (s x:V):(n8 P O ts s x).isVal:=by
 unfold n8;simp only[bx,grow]
 repeat' (first | trivial | split)
theorem Il (P:Program) (O:N) (ts:Array TypeId) (s x:V):(rk P O ts s x).isVal:=by
 unfold rk;simp only[bx]
 repeat' (first | trivial | split)
theorem B3 {ov:Nat->Bool} (T:∀g,ov g=true->rJ P g) (hi:Inv I O w) {ev:Operand->Option V} {f:Operand->Value} {o:Oper} {r:HR} (C:ER I ev f o.op) (h:gf P ov ev O o.op=r) (Q:∀n,r≠ .err n):
  xV P I O w r ((execOp f o).run P w):=by
 cases E:o.op with
 | store t x y=>
  rw[E] at h C;simp only[gf] at h;cases hx:ev x with
  | none=>grind
  | some a=>
  cases hy:ev y with
  | none=>grind
  | some v=>
  rw[hx,hy] at h;dsimp only at h;cases R:xG P O t a v with
  | none=>grind
  | some O'=>
   rw[R] at h;subst h;obtain⟨w',r,inv,st⟩:=CU (P:=P) hi R (C x (by simp[Op.operands]) a hx) (C y (by simp[Op.operands]) v hy);have:(execOp f o).run P w= .ok .skip w':=by grind [execOp,sB_,rA,sP_]
   rw[this];exact .skip inv st
 | mapUpdate t m k x=>
  rw[E] at h C;simp only[gf] at h;cases hm:ev m with
  | none=>grind
  | some a=>
  cases hk:ev k with
  | none=>grind
  | some b=>
  cases hx:ev x with
  | none=>grind
  | some v=>
  rw[hm,hk,hx] at h;dsimp only at h;cases R:mZ P O t a b v with
  | none=>grind
  | some O'=>
   rw[R] at h;subst h;obtain⟨w',r,inv,st⟩:=tv (P:=P) hi R (C m (by simp[Op.operands]) a hm) (C k (by simp[Op.operands]) b hk) (C x (by simp[Op.operands]) v hx);have:(execOp f o).run P w= .ok .skip w':=by grind [execOp,sB_,rA,sP_]
   rw[this];exact .skip inv st
 | insert t m k x=>
  rw[E] at h C;simp only[gf] at h;cases hm:ev m with
  | none=>grind
  | some a=>
  cases hk:ev k with
  | none=>grind
  | some b=>
  cases hx:ev x with
  | none=>grind
  | some v=>
  rw[hm,hk,hx] at h;dsimp only at h;cases R:mZ P O t a b v with
  | none=>grind
  | some O'=>
   rw[R] at h;subst h;obtain⟨w',r,inv,st⟩:=tv (P:=P) hi R (C m (by simp[Op.operands]) a hm) (C k (by simp[Op.operands]) b hk) (C x (by simp[Op.operands]) v hx);have:(execOp f o).run P w= .ok .skip w':=by grind [execOp,sB_,rA,sP_]
   rw[this];exact .skip inv st
 | call c=>
  rw[E] at h C;simp only[gf] at h;split at h
  ·rename_i g d;split at h
   ·rename_i S u2 y args X F;have A:∀x∈c.args.toList,∀v,ev x=some v->VR I v (f x):=fun x hx=>C x (by grind [Op.operands,Call.operands])
    have:=H9 (P:=P) (w:=w) T hi h Q (C g (by simp[Op.operands,Call.operands,d]) y X) (xs:=c.args.map f) (by simpa using gB F A);simpa only[execOp,E,resolve,d] using this
   grind
  ·rename_i d;split at h
   ·rename_i S s x F;subst h;have A:∀x∈c.args.toList,∀v,ev x=some v->VR I v (f x):=fun x hx=>C x (by simp[Op.operands,Call.operands,d];simpa using hx)
    obtain⟨ys,rs,e,h1,L⟩:=(gB F A).cons_inv;obtain⟨yx,rs',rfl,h3,h4⟩:=L.cons_inv;have:=h4.eV;subst this;have u:c.args.map f= #[ys,yx]:=by grind
    rw[bx] at Q;rw[bx];split at Q
    ·rename_i W;rw[if_pos W];have hv:=Dq P O c.argTypes s x;cases B:fM P O c.argTypes s x with
     | val v O'=>
      obtain⟨z,w',I',g1,M,G,K⟩:=zI (P:=P) (ty:=o.type) hi B h1 h3
      have:(execOp f o).run P w= .ok (.value z) w':=by
       simp only[execOp,E,resolve,d,u,sB_,sP_,rA,invoke,builtin,g1]
      rw[this];exact .val M G K
     | err n=>simp_all
     | _=>rw[B] at hv;exact hv.elim
    rename_i W;rw[if_neg W];have hv:=Bw P O c.argTypes s x;cases B:n8 P O c.argTypes s x with
    | val v O'=>
     obtain⟨z,w',I',g1,M,G,K⟩:=xW (P:=P) (ty:=o.type) hi B h1 h3
     have:(execOp f o).run P w= .ok (.value z) w':=by
      simp only[execOp,E,resolve,d,u,sB_,sP_,rA,invoke,builtin,g1]
     rw[this];exact .val M G K
    | err n=>simp_all
    | _=>rw[B] at hv;exact hv.elim
   grind
  ·rename_i d;split at h
   ·rename_i S s x F;have A:∀x∈c.args.toList,∀v,ev x=some v->VR I v (f x):=fun x hx=>C x (by simp[Op.operands,Call.operands,d];simpa using hx)
    obtain⟨ys,rs,e,h1,L⟩:=(gB F A).cons_inv;obtain⟨yx,rs',rfl,h3,h4⟩:=L.cons_inv;have:=h4.eV;subst this;have u:c.args.map f= #[ys,yx]:=by grind
    cases B:qq P O c.argTypes s x with
    | none=>grind
    | some O'=>
     rw[B] at h;subst h;obtain⟨w',g1,G,K⟩:=zQ (P:=P) (ty:=o.type) hi B h1 h3
     have:(execOp f o).run P w= .ok (.value (.tuple #[])) w':=by
      simp only[execOp,E,resolve,d,u,sB_,sP_,rA,invoke,builtin,g1]
     rw[this];exact .val (by simp only[VR];simp_all) G K
   grind
  ·rename_i d;split at h
   ·rename_i S s x F;subst h;have A:∀x∈c.args.toList,∀v,ev x=some v->VR I v (f x):=fun x hx=>C x (by simp[Op.operands,Call.operands,d];simpa using hx)
    obtain⟨ys,rs,e,h1,L⟩:=(gB F A).cons_inv;obtain⟨yx,rs',rfl,h3,h4⟩:=L.cons_inv;have:=h4.eV;subst this;have u:c.args.map f= #[ys,yx]:=by grind
    have hv:=Il P O c.argTypes s x;cases B:rk P O c.argTypes s x with
    | val v O'=>
     obtain⟨z,w',I',g1,M,G,K⟩:=DC (P:=P) (ty:=o.type) hi B h1 h3
     have:(execOp f o).run P w= .ok (.value z) w':=by
      simp only[execOp,E,resolve,d,u,sB_,sP_,rA,invoke,builtin,g1]
     rw[this];exact .val M G K
    | err n=>simp_all
    | _=>rw[B] at hv;exact hv.elim
   grind
  ·rename_i d;split at h
   ·rename_i S x F;have A:∀x∈c.args.toList,∀v,ev x=some v->VR I v (f x):=fun x hx=>C x (by simp[Op.operands,Call.operands,d];simpa using hx)
    obtain⟨ys,rs,e,h1,L⟩:=(gB F A).cons_inv;have:=L.eV;subst this;have u:c.args.map f= #[ys]:=by grind
    cases B:zO P O c.argTypes x with
    | none=>grind
    | some O'=>
     rw[B] at h;subst h;obtain⟨w',g1,G,K⟩:=BJ (P:=P) (ty:=o.type) hi B h1
     have:(execOp f o).run P w= .ok (.value (.tuple #[])) w':=by
      simp only[execOp,E,resolve,d,u,sB_,sP_,rA,invoke,builtin,g1]
     rw[this];exact .val (by simp only[VR];simp_all) G K
   grind
  ·rename_i d;split at h
   ·rename_i S x F;have A:∀x∈c.args.toList,∀v,ev x=some v->VR I v (f x):=fun x hx=>C x (by simp[Op.operands,Call.operands,d];simpa using hx)
    obtain⟨ys,rs,e,h1,L⟩:=(gB F A).cons_inv;have:=L.eV;subst this;have u:c.args.map f= #[ys]:=by grind
    cases B:Fv x with
    | none=>grind
    | some v=>
     rw[B] at h;subst h;obtain⟨z,g1,M⟩:=DF (P:=P) (w:=w) (ts:=c.argTypes) (ty:=o.type) B h1
     have:(execOp f o).run P w= .ok (.value z) w:=by
      simp only[execOp,E,resolve,d,u,sB_,sP_,rA,invoke,builtin,g1]
     rw[this];exact .val M hi<|eY.refl _ _ _
   grind
  ·rename_i d;split at h
   ·rename_i S s x F;have A:∀x∈c.args.toList,∀v,ev x=some v->VR I v (f x):=fun x hx=>C x (by simp[Op.operands,Call.operands,d];simpa using hx)
    obtain⟨ys,rs,e,h1,L⟩:=(gB F A).cons_inv;obtain⟨yx,rs',rfl,h3,h4⟩:=L.cons_inv;have:=h4.eV;subst this;have u:c.args.map f= #[ys,yx]:=by grind
    cases B:Gk P O c.argTypes[0]? s x with
    | none=>grind
    | some q=>
     obtain⟨q,O'⟩:=q;rw[B] at h;subst h;obtain⟨z,w',g1,M,G,K⟩:=EY (P:=P) (ty:=o.type) hi B h1 h3
     have:(execOp f o).run P w= .ok (.value z) w':=by
      simp only[execOp,E,resolve,d,u,sB_,sP_,rA,invoke,builtin,g1]
     rw[this];exact .val M G K
   grind
  grind
 | convert src dst x=>
  rw[E] at h C;simp only[gf] at h;cases hx:ev x with
  | none=>grind
  | some a=>
   rw[hx] at h;dsimp only at h;cases B:lX P O src dst a with
   | val v O'=>
    rw[B] at h;subst h;obtain⟨z,w',I',g1,M,G,K⟩:=BD (P:=P) hi B (C x (by simp[Op.operands]) a hx);have:(execOp f o).run P w= .ok (.value z) w':=by grind [execOp,sB_,rA,sP_]
    rw[this];exact .val M G K
   | err n=>grind
   | skip O'=>exact absurd B (rN P O src dst a 0 [] O').2.2
   | enter g args O'=>exact absurd B (rN P O src dst a g args O').1
   | round g args O'=>exact absurd B (rN P O src dst a g args O').2.1
   | mr q O'=>exact absurd B (Du P O src dst a q O')
 | panic x=>
  rw[E] at h C;simp only[gf] at h;split at h
  ·rename_i t v hx;subst h;have hv:=C x (by simp[Op.operands]) _ hx;have hv':=hv;simp only[VR] at hv';obtain⟨y,hf,_⟩:=hv'
   have:(execOp f o).run P w= .halt (.panic<|f x) w:=by
    simp only[execOp,E,hf,Instr.panic,sB_];rfl
   rw[this];exact .mr hv
  grind
 | _=>rw[E] at h;exact absurd h.symm<|Q 16
end
inductive Ex where
 | normal
 | exit (id:Nat)
 | goto (l:Nat)
 | ret
 | mr (v:V)
inductive DE where
 | mark (b:Pos)
 | call (f:Nat) (args ca:List V)
inductive CR where
 | ok (e:Ex) (t:PT V) (d:List DE) (O:N)
 | err (n:Nat)
inductive KR where
 | ret (v:V) (O:N)
 | mr (v:V) (O:N)
 | err (n:Nat)
inductive Kind where
 | pure | read | alloc | jO
def isMap (P:Program) (t:Option TypeId):Bool:=
 match t with
 | some t=>match P.underlying t with | some (.map _ _)=>true | _=>false
 | none=>false
def toStr (P:Program) (src dst:TypeId):Bool:=
 match oO P src,oO P dst with
 | some (.slice _),some .string=>true
 | some (.pointer _),some .unsafePointer=>true
 | some .unsafePointer,some (.pointer _)=>true
 | _,_=>false
def ofStr (P:Program) (src dst:TypeId):Bool:=
 match oO P src,oO P dst with
 | some .string,some (.slice _)=>true
 | _,_=>false
def kindOf (P:Program):Op->Kind
 | .convert src dst _=>bif toStr P src dst then .read else(bif ofStr P src dst then .jO else .pure)
 | .load .. | .lookup ..=>.read
 | .alloc .. | .box .. | .buildSlice .. | .makeSlice .. | .makeMap ..=>.alloc
 | .store .. | .mapUpdate .. | .insert ..=>.jO
 | .call c=>match c.callee with
  | .builtin .len=>bif isMap P c.argTypes[0]? then .read else .pure
  | .builtin .min | .builtin .max | .builtin .cap=>.pure
  | _=>.jO
 | .defer _ | .panic _=>.jO
 | _=>.pure
structure ME where
 f:Nat
 args:List V
 next:Nat
 l:List (Nat×cN)
 v:V
 next':Nat
 l':List (Nat×cN)
structure Cx where
 gl:Nat
 ov:Nat->Bool
 fk:Nat->Bool
 HU:Nat->List V->Option V
 laid:List (Nat×List V)
 mem:List Nat:=[]
 stop:Nat->List V->N->Option Nat:=fun _ _ _=>none
 HS:Nat->List V->N->Option V:=fun _ _ _=>none
def bp (G:Cx) (t:PT V):Operand->Option V
 | .tmp k=>t.get (posOf k)
 | .const v=>pP v
 | .global g=>bif Nat.ble (Nat.succ g) G.gl then some (.ptr (posOf g) 0) else none
 | .func f=>some (.func f [] [])
def y6:Op->Nat
 | .move ..=>1
 | .assign ..=>2
 | .pick ..=>3
 | .alloc ..=>4
 | .box ..=>5
 | .build ..=>6
 | .buildSlice ..=>7
 | .insert ..=>8
 | .load ..=>9
 | .store ..=>10
 | .ready ..=>11
 | .waits ..=>12
 | .nilCheck ..=>13
 | .binOp ..=>14
 | .unOp ..=>15
 | .convert ..=>16
 | .sliceToArrayPointer ..=>17
 | .makeInterface ..=>18
 | .makeFunc ..=>19
 | .makeMap ..=>20
 | .makeChan ..=>21
 | .makeSlice ..=>22
 | .slice ..=>23
 | .fieldAddr ..=>24
 | .field ..=>25
 | .indexAddr ..=>26
 | .index ..=>27
 | .lookup ..=>28
 | .mapUpdate ..=>29
 | .mapEntry ..=>30
 | .entryStore ..=>31
 | .range ..=>32
 | .next ..=>33
 | .entry ..=>34
 | .typeAssert ..=>35
 | .extract ..=>36
 | .call ..=>37
 | .go ..=>38
 | .defer ..=>39
 | .panic ..=>40
 | .send ..=>41
 | .recv ..=>42
 | .select ..=>43
def dW (P:Program) (G:Cx) (ev:Operand->Option V) (O:N) (op:Op):HR:=
 match kindOf P op with
 | .pure=>match dj P ev op with | some v=>.val v O | none=>.err (Nat.add 1000<|y6 op)
 | .read=>match gp P ev O op with | some v=>.val v O | none=>.err (Nat.add 2000<|y6 op)
 | .alloc=>match fP P ev op with | some (ob,mk)=>.val (mk.of O.next) (O.alloc ob) | none=>.err (Nat.add 3000<|y6 op)
 | .jO=>gf P G.ov ev O op
def dP (t:PT V) (n:Nat) (dst:Option Nat) (v:V):Option (PT V):=
 match dst with
 | none=>some t
 | some k=>bif Nat.ble (Nat.succ k) n then some (t.put (some v)<|posOf k) else none
def unit:V:=.tuple []
def bH (ops:Array Oper) (t:PT V) (o:Oper):Option Bool:=
 match o.guard with
 | none=>some true
 | some (j,want)=>match(ops[j]?).bind (·.dst) with
  | some k=>match t.get (posOf k) with
   | some (.bool b)=>some (bif b then want else(bif want then false else true))
   | some (.tuple _)=>some false
   | _=>none
  | none=>some false
abbrev kI:=Code->PT V->Nat->List DE->Option Pos->N->CR
def ra (n:Nat) (args:List V):Option (PT V):=
 List.rec (motive:=fun _=>Nat->PT V->Option (PT V)) (fun _ t=>some t) (fun v _ ih k t=>match dP t n (some k) v with | some t'=>ih (Nat.succ k) t' | none=>none) args 0 .leaf
def fG (P:Program) (t:PT V) (O:N):ResultVar->Option V
 | .tmp k=>t.get (posOf k)
 | .cell k ty=>match t.get (posOf k) with
  | some (.ptr b off)=>match O.m.get b with
   | some (.row cells _ _)=>match dT P ty with
    | some (some n)=>bif Nat.ble (off+n) (dn cells) then some (.agg<|takeN (dU cells off) n) else none
    | some none=>nth cells off
    | none=>none
   | _=>none
  | _=>none
def eX (P:Program) (fn:Func) (t:PT V) (O:N):Option V:=
 match cQ (fG P t O) fn.results.toList with
 | some [v]=>some v
 | some vs=>some (.tuple vs)
 | none=>none
inductive Md where
 | ret
 | mr (v:V)
 | Qt (v:V)
def wO (P:Program) (G:Cx) (ih:kI) (d:List DE) (md:Md) (O:N):Option (Md×N):=
 match d with
 | []=>some (md,O)
 | _=>none
def xZ (P:Program) (G:Cx) (ih:kI) (fn:Func) (md:Md) (t:PT V) (d:List DE) (O:N):KR:=
 match wO P G ih d md O with
 | some (.ret,O)=>match eX P fn t O with | some v=>.ret v O | none=>.err 70
 | some (.mr v,O)=>.mr v O
 | _=>.err 71
def kM (P:Program) (G:Cx) (ih:kI) (f:Nat) (args:List V) (O:N):KR:=
 match P.funcs[f]? with
 | some fn=>match fn.body,ra fn.ntmps args with
  | some c,some t=>match ih c t fn.ntmps [] none O with
   | .ok .normal t d O=>xZ P G ih fn .ret t d O
   | .ok .ret t d O=>xZ P G ih fn .ret t d O
   | .ok (.mr v) t d O=>xZ P G ih fn (.mr v) t d O
   | .err k=>.err k
   | _=>.err 72
  | _,_=>.err 73
 | none=>.err 74
def sd (r:KR):KR:=
 match r with
 | .mr _ _=>.err 69
 | r=>r
def mS:V->Bool
 | .bool _ | .int _ _ | .str _ | .nilPtr | .av | .ig | .nilFunc | .nilIface=>true
 | _=>false
def eL (l:List V):Bool:=List.rec (motive:=fun _=>Bool) true (fun v _ r=>bif mS v then r else false) l
def zV (x y:V):Bool:=
 match x,y with
 | .bool a,.bool b=>bif a then b else(bif b then false else true)
 | .int j a,.int k b=>sy j k && H a b
 | .str a,.str b=>uE a b
 | .nilPtr,.nilPtr=>true
 | .av,.av=>true
 | .ig,.ig=>true
 | .nilFunc,.nilFunc=>true
 | .nilIface,.nilIface=>true
 | _,_=>false
def kA (xs ys:List V):Bool:=
 List.rec (motive:=fun _=>List V->Bool) (fun ys=>List.rec (motive:=fun _=>Bool) true (fun _ _ _=>false) ys)
  (fun x _ ih ys=>List.rec (motive:=fun _=>Bool) false (fun y r _=>bif zV x y then ih r else false) ys) xs ys
def F6 (n:Nat) (v:V):List V:=Nat.rec (motive:=fun _=>List V) [] (fun _ l=>v::l) n
def fe (O:N) (b:Pos) (o:cN) (vb:Pos) (o':cN):N:={next:=O.next,m:=(PT.leaf.put (some o) b).put (some o') vb}
def qA (vb:Pos) (vc:List V) (ve e sz:Nat) (r:KR) (ok:ql->Nat->Bool):Option (Nat×List V):=
 match r with
 | .ret (.slice b1 o1 n1 c1) σ1=>
  match σ1.m.get b1,σ1.m.get vb with
  | some (.row cs1 e1 false),some (.row vc1 ve1 false)=>
   bif ok c1 n1 && ((bif jD b1 vb then false else true) && (kA vc vc1 && (Nat.beq ve ve1 && (Nat.beq e e1 && (Nat.ble 1 n1 && (Nat.ble (o1+n1*sz) (dn cs1) && eL (takeN (dU cs1 o1) (n1*sz)))))))) then
    some (n1,takeN (dU cs1 o1) (n1*sz))
   else none
  | _,_=>none
 | _=>none
def Ec (sz:Nat) (c:ql) (_:Nat):Bool:=
 match c with
 | .upto s=>Nat.beq s sz
 | _=>false
def Ag (sz:Nat) (c:ql) (n:Nat):Bool:=
 match c with
 | .least a s=>Nat.beq s sz && Nat.ble n a
 | _=>false
def FC (P:Program) (G:Cx) (ih:kI) (f:Nat) (args:List V) (O:N):KR:=
 match args with
 | [.slice b off n (.upto sz),i,.slice vb voff m (.known mc)]=>
  match O.m.get b,O.m.get vb with
  | some (.row cells e false),some (.row vc ve false)=>
   bif (bif jD b vb then false else true) && (Nat.ble 1 n && (Nat.beq m 1 && (mS i && (eL vc && Nat.ble (off+n*sz) (dn cells))))) then
    match qA vb vc ve e sz (kM P G ih f [.slice b off n (.known n),i,.slice vb voff m (.known mc)]<|fe O b (.row cells e false) vb (.row vc ve false)) (Ec sz),
     qA vb vc ve e sz (kM P G ih f [.slice b off n (.least (Nat.succ n) sz),i,.slice vb voff m (.known mc)]<|fe O b (.row (gE (takeN cells (off+n*sz))<|F6 sz .any) e false) vb (.row vc ve false)) (Ag sz) with
    | some (n1,r1),some (n2,r2)=>bif Nat.beq n1 n2 && kA r1 r2 then .ret (.slice O.next 0 n1 (.upto sz)) ((O.drop b).alloc (.row r1 e false)) else .err 75
    | _,_=>.err 76
   else .err 77
  | _,_=>.err 78
 | _=>kM P G ih f args O
def ng (gl:Nat) (O:N) (l:List (Nat×List V)):Bool:=
 List.rec (motive:=fun _=>Bool) true (fun x _ r=>bif Nat.ble (Nat.succ x.1) gl then(match O.m.get x.1 with
  | some (.row cells _ true)=>bif eL x.2 then(bif kA cells x.2 then r else false) else false
  | _=>false) else false) l
def eB (x y:V):Bool:=
 match x,y with
 | .agg xs,.agg ys=>beqL xs ys
 | x,y=>jm x y
where
 beqP (p q:Pos):Bool:=Nat.beq p q
 beqC (c d:ql):Bool:=
  match c,d with
  | .known a,.known b=>Nat.beq a b
  | .upto a,.upto b=>Nat.beq a b
  | _,_=>false
 jm (x y:V):Bool:=
  match x,y with
  | .bool a,.bool b=>bif a then b else(bif b then false else true)
  | .int j a,.int k b=>sy j k && H a b
  | .str a,.str b=>uE a b
  | .nilPtr,.nilPtr=>true
  | .tok a,.tok b=>Nat.beq a b
  | .ptr b o,.ptr b' o'=>beqP b b' && Nat.beq o o'
  | .av,.av=>true
  | .slice b o l c,.slice b' o' l' c'=>beqP b b' && Nat.beq o o' && Nat.beq l l' && beqC c c'
  | .ig,.ig=>true
  | .map b,.map b'=>beqP b b'
  | .nilFunc,.nilFunc=>true
  | .nilIface,.nilIface=>true
  | .func f [] [],.func g [] []=>Nat.beq f g
  | .func f [] [.ptr b o],.func g [] [.ptr b' o']=>Nat.beq f g && beqP b b' && Nat.beq o o'
  | _,_=>false
 beqL (xs ys:List V):Bool:=
  List.rec (motive:=fun _=>List V->Bool) (fun ys=>List.rec (motive:=fun _=>Bool) true (fun _ _ _=>false) ys)
   (fun x _ ih ys=>List.rec (motive:=fun _=>Bool) false (fun y r _=>bif jm x y then ih r else false) ys) xs ys
def I2 (l:List (Nat×List V)) (E:Nat->TypeId):PT cN:=l.foldl (fun m x=>m.put (some (.row x.2 (E x.1) true)) (posOf x.1)) .leaf
def atEnd (args:List V):Bool:=
 match args with
 | [.slice _ _ n _,.int _ (.ofNat j),_]=>Nat.beq j n
 | _=>false
def pG (P:Program) (G:Cx) (ih:kI) (f:Nat) (args:List V) (O:N):KR:=bif atEnd args then kM P G ih f args O else FC P G ih f args O
def lY (P:Program) (G:Cx) (ih:kI) (f:Nat) (args:List V) (O:N):KR:=
 match G.HS f args O with
 | some v=>bif mS v then .ret v O else .err 78
 | none=>match G.HU f args with
 | some v=>bif eL args && (mS v && ng G.gl O G.laid) then .ret v O else .err 79
 | none=>match G.stop f args O with
   | some c=>.err c
   | none=>bif G.fk f then sd (pG P G ih f args O) else kM P G ih f args O
def lE (P:Program) (G:Cx) (ih:kI) (r:HR):KR:=
 match r with
 | .val v O=>.ret v O
 | .skip O=>.ret unit O
 | .enter f args O=>lY P G ih f args O
 | .round _ _ _=>.err 66
 | .mr v O=>.mr v O
 | .err e=>.err e
def LG (pn:Bool) (v:V) (t:PT V) (O:N):CR:=bif pn then .ok (.mr v) t [] O else .err 69
def jg (P:Program) (G:Cx) (ih:kI) (pn:Bool) (ops:Array Oper) (n:Nat) (o:Oper) (t:PT V) (O:N) (k:PT V->N->CR):CR:=
 match bH ops t o with
 | some true=>match lE P G ih (dW P G (bp G t) O o.op) with
  | .ret v O'=>match dP t n o.dst v with | some t'=>k t' O' | none=>.err 80
  | .mr v O'=>LG pn v t O'
  | .err e=>.err e
 | some false=>match dP t n o.dst unit with | some t'=>k t' O | none=>.err 84
 | none=>.err 85
def tX (P:Program) (G:Cx) (ih:kI) (ops:Array Oper) (n:Nat) (d:List DE) (l:List Oper):PT V->N->CR:=
 List.rec (motive:=fun _=>PT V->N->CR) (fun t O=>.ok .normal t d O)
  (fun o _ k t O=>jg P G ih true ops n o t O k) l
def rM (A:Array Nat) (i j:Nat):Bool:=(A.getD i 0).testBit j
def waits (ops:Array Oper) (i j:Nat):Bool:=((ops[i]?).map fun o=>o.after.any fun e=>Region.binds .any e && e.on == j).getD false
def D0:Kind->Bool
 | .jO=>true
 | _=>false
def tT:Kind->Bool
 | .read | .alloc=>true
 | _=>false
def jx (P:Program) (ops:Array Oper) (i:Nat):Bool:=match(ops[i]?).map fun o=>kindOf P o.op with | some k=>D0 k | none=>false
def fW (P:Program) (ops:Array Oper) (i:Nat):Bool:=match(ops[i]?).map fun o=>kindOf P o.op with | some k=>tT k | none=>false
def slotsOf (ops:Array Oper) (o:Oper):List Nat:=
 (o.op.operands.toList.filterMap fun | .tmp k=>some k | _=>none)++(match o.guard with | some (j,_)=>((ops[j]?).bind (·.dst)).toList | none=>[])
def ff (ops:Array Oper) (i:Nat):Option Nat:=(ops[i]?).bind (·.dst)
def bit (i:Nat):Nat:=Nat.shiftLeft 1 i
def hasB (m i:Nat):Bool:=Nat.beq (Nat.land (Nat.shiftRight m i) 1) 1
def AL (m k:Nat):Bool:=Nat.beq (Nat.land m k) m
def ni (l:List Nat):Nat:=List.rec (motive:=fun _=>Nat) 0 (fun i _ r=>Nat.lor (bit i) r) l
structure Row where
 w:Nat
 h:Bool
 k:Bool
 d:Option Nat
 dm:Nat
 s:Nat
def xw (P:Program) (ops:Array Oper) (o:Oper):Row:=
 {w:=ni (o.after.toList.filterMap fun e=>if Region.binds .any e=true then some e.on else none),h:=D0<|kindOf P o.op,k:=tT<|kindOf P o.op,d:=o.dst,dm:=ni o.dst.toList,s:=ni (slotsOf ops o)}
structure RA where
 r:Row
 a:Nat
def wY (L:List RA):Nat->Nat:=
 List.rec (motive:=fun _=>Nat->Nat) (fun _=>0) (fun x _ ih w=>Nat.lor (Bool.rec (motive:=fun _=>Nat) 0 x.a<|Nat.beq (Nat.land w 1) 1) (ih<|Nat.shiftRight w 1)) L
def JJ (rows:List Row):List RA->List RA:=
 List.rec (motive:=fun _=>List RA->List RA) (fun L=>L) (fun r _ ih L=>ih (gE L [⟨r,Nat.lor r.w<|wY L r.w⟩])) rows
def iU (P:Program) (ops:Array Oper):List RA:=JJ (ya (xw P ops) ops.toList) []
def allI {α:Type} (f:Nat->α->Bool) (l:List α):Nat->Bool:=List.rec (motive:=fun _=>Nat->Bool) (fun _=>true) (fun x _ ih i=>Bool.rec (motive:=fun _=>Bool) false (ih<|Nat.succ i) (f i x)) l
def Mt {α:Type} (f:Nat->α->Bool) (l:List α):Nat->Option Nat:=List.rec (motive:=fun _=>Nat->Option Nat) (fun _=>none) (fun x _ ih i=>Bool.rec (motive:=fun _=>Option Nat) (ih<|Nat.succ i) (some i) (f i x)) l
def ON {α:Type} (f:Nat->α->Bool) (l:List α):Nat->List Nat:=List.rec (motive:=fun _=>Nat->List Nat) (fun _=>[]) (fun x _ ih i=>Bool.rec (motive:=fun _=>List Nat) (ih<|Nat.succ i) (i::ih (Nat.succ i)) (f i x)) l
def Cr (i:Nat) (x:RA) (j:Nat) (y:RA):Bool:=
 Option.rec (motive:=fun _=>Bool) true (fun k=>bif (bif hasB x.r.dm k then Nat.beq j i else true) then(bif hasB x.r.s k then(bif hasB x.a j then true else(bif x.r.k then false else(bif Nat.beq j i then true else hasB y.a i))) else true) else false) y.r.d
def Jz (i:Nat) (x:RA) (j:Nat) (y:RA):Bool:=Bool.rec (motive:=fun _=>Bool) (Cr i x j y) true (Nat.beq (Nat.land (Nat.lor x.r.dm x.r.s) y.r.dm) 0)
def JX (L:List RA) (n:Nat):Bool:=
 allI (fun i x=>bif Nat.blt x.r.w (bit n) then(bif (bif x.r.k then x.r.d.isSome else true) then(bif AL x.a (Nat.lor x.r.w<|wY L x.r.w) then allI (Jz i x) L 0 else false) else false) else false) L 0
def O0 (L:List RA) (fuel:Nat):Nat->List (Nat×List Nat):=
 Nat.rec (motive:=fun _=>Nat->List (Nat×List Nat)) (fun _=>[])
  (fun _ ih D_=>Option.rec (motive:=fun _=>List (Nat×List Nat))
   (Option.rec (motive:=fun _=>List (Nat×List Nat)) [] (fun i=>(i,Option.rec (motive:=fun _=>List Nat) [] (fun x=>ON (fun j y=>bif hasB D_ j then(bif y.r.k then(bif hasB x.a j then false else true) else false) else false) L 0) (nth L i))::ih (Nat.lor D_ (bit i)))
   <|Mt (fun i x=>Bool.rec (motive:=fun _=>Bool) (AL x.r.w D_) false (hasB D_ i)) L 0)
   (fun i=>(i,[])::ih (Nat.lor D_<|bit i))<|Mt (fun i x=>Bool.rec (motive:=fun _=>Bool) (Bool.rec (motive:=fun _=>Bool) (AL x.r.w D_) false x.r.h) false (hasB D_ i)) L 0) fuel
def IQ (L:List RA) (i:Nat) (rc:List Nat) (D_:Nat) (x:RA):Bool:=
 bif hasB D_ i then false else(bif AL x.r.w D_ then(bif x.r.h then allI (fun j y=>bif hasB D_ j then(bif hasB x.a j then true else(bif y.r.k then hasB (ni rc) j else true)) else(bif Nat.beq j i then true else(bif AL y.r.w D_ then false else true))) L 0 else true) else false)
def Dx (L:List RA) (n:Nat) (p:List (Nat×List Nat)):Nat->Bool:=
 List.rec (motive:=fun _=>Nat->Bool) (fun D_=>Nat.beq D_ (Nat.sub (bit n) 1))
  (fun p _ ih D_=>Option.rec (motive:=fun _=>Bool) false (fun x=>bif IQ L p.1 p.2 D_ x then ih (Nat.lor D_<|bit p.1) else false) (nth L p.1)) p
def jh (P:Program) (ops:Array Oper):List (Nat×List Nat):=O0 (iU P ops) ops.size 0
def tP (P:Program) (ops:Array Oper):Bool:=bif JX (iU P ops) ops.size then Dx (iU P ops) ops.size (jh P ops) 0 else false
def ku (P:Program) (G:Cx) (ops:Array Oper) (t:PT V) (O:N) (i:Nat):Bool:=
 match ops[i]? with
 | some o=>match bH ops t o with
  | some true=>match o.dst with
   | some k=>match t.get (posOf k) with
    | some v=>match kindOf P o.op with
     | .read=>match gp P (bp G t) O o.op with | some u=>eB u v | none=>false
     | .alloc=>match fP P (bp G t) o.op,v with
      | some (.row cs e false,.ptr),.ptr b 0=>match O.m.get b with | some (.row cs' e' false)=>Nat.beq e e' && eB.beqL cs cs' | _=>false
      | some (.row cs e false,.slice n c),.slice b 0 n' (.known c')=>match O.m.get b with | some (.row cs' e' false)=>Nat.beq e e' && eB.beqL cs cs' && Nat.beq n n' && Nat.beq c c' | _=>false
      | _,_=>false
     | _=>false
    | none=>false
   | none=>false
  | some false=>true
  | none=>false
 | none=>false
def du (P:Program) (G:Cx) (ops:Array Oper) (t:PT V) (O:N) (l:List Nat):Bool:=
 List.rec (motive:=fun _=>Bool) true (fun i _ r=>bif ku P G ops t O i then r else false) l
def jP (P:Program) (G:Cx) (ih:kI) (ops:Array Oper) (n:Nat) (d:List DE) (l:List (Nat×List Nat)):PT V->N->CR:=
 List.rec (motive:=fun _=>PT V->N->CR) (fun t O=>.ok .normal t d O)
  (fun p _ k t O=>match ops[p.1]? with
   | some o=>jg P G ih false ops n o t O (fun t' O'=>bif du P G ops t' O' p.2 then k t' O' else .err 86)
   | none=>.err 87) l
def uC (P:Program) (G:Cx) (ih:kI) (ops:Array Oper) (n:Nat) (d:List DE) (t:PT V) (O:N):CR:=
 bif tP P ops then jP P G ih ops n d (jh P ops) t O else .err 88
def yC (c:Option V) (x y:CR):CR:=
 match c with
 | some (.bool true)=>x
 | some (.bool false)=>y
 | _=>.err 90
def yf (r:CR) (k:PT V->List DE->N->CR):CR:=
 match r with
 | .ok .normal t d O=>k t d O
 | r=>r
def tI (id:Nat) (r:CR):CR:=
 match r with
 | .ok (.exit j) t d O=>bif Nat.beq j id then .ok .normal t d O else .ok (.exit j) t d O
 | r=>r
def EI (r:CR):CR:=
 match r with
 | .ok (.goto _) _ _ _=>.err 98
 | r=>r
def OK (o:Oper):Bool:=
 match o.op with
 | .defer _=>true
 | _=>false
def mg (ops:List Oper):Bool:=ops.any OK
def BV (d:List DE) (r:CR):CR:=
 match r with
 | .ok (.mr v) t _ O=>.ok (.mr v) t d O
 | r=>r
def Gc (P:Program) (G:Cx) (ih:kI) (c:Code) (t:PT V) (n:Nat) (d:List DE) (ro:Option Pos) (O:N):CR:=
 match c with
 | .skip | .label _=>.ok .normal t d O
 | .region _ ops draw=>bif draw then uC P G ih ops n d t O else bif mg ops.toList then .err 96 else BV d (tX P G ih ops n d ops.toList t O)
 | .seq a b=>yf (ih a t n d ro O) (fun t d O=>ih b t n d ro O)
 | .cond c a b=>yC (bp G t c) (ih a t n d ro O) (ih b t n d ro O)
 | .block id b=>tI id (ih b t n d ro O)
 | .scope b=>EI (ih b t n d ro O)
 | .loop b=>yf (ih b t n d ro O) (fun t d O=>ih (.loop b) t n d ro O)
 | .exit id=>.ok (.exit id) t d O
 | .ret=>.ok .ret t d O
 | _=>.err 99
def eH (P:Program) (G:Cx) (fuel:Nat):kI:=Nat.rec (motive:=fun _=>kI) (fun _ _ _ _ _ _=>.err 100) (fun _ ih=>Gc P G ih) fuel
def wu (P:Program) (G:Cx) (fuel:Nat) (f:Nat) (args:List V) (O:N):KR:=lY P G (eH P G fuel) f args O
def ow:Option Nat->Fence
 | none=>Fence.wide
 | some l=>Fence.wide.inRound l
theorem qw (rl:Option Nat) (f:FuncId):(ow rl).fn f:=by cases rl<;>trivial
theorem DQ (rl:Option Nat):(ow rl).depth=none:=by cases rl<;>rfl
theorem yJ (rl:Option Nat) (m:Nat):(ow rl).depth.isSome=true->1<=m:=by rw[DQ];intro h;cases h
theorem r5 {m:Nat} {P:Program} {f:FuncId} {args:Array Value} {w:World} {R:Ending->World->Prop} (rl:Option Nat) (h:CallsIn Fence.wide m P f args w R):CallsIn (ow rl) m P f args w R:=by
 cases rl with
 | none=>exact h
 | some l=>exact h.inRound l
def DR (I:dg):List DE->List Deferred->Prop
 | [],ds=>ds= []
 | .mark b::d,ds=>∃l r,I b=some l/\ds= {target:=.collected l.dN,args:= #[]}::r/\DR I d r
 | .call f args ca::d,ds=>∃(xs cs:Array Value) (r:List Deferred),ds= {target:=.fn (.func f) cs,args:=xs}::r/\dA I args xs.toList/\dA I ca cs.toList/\DR I d r
theorem DR.mono {I I':dg} (h:I.le I'):∀{d:List DE} {ds:List Deferred},DR I d ds->DR I' d ds
 | [],ds,u=>u
 | .mark b::d,ds,u=>let ⟨l,r,h1,z,h3⟩:=u;⟨l,r,h _ _ h1,z,DR.mono h h3⟩
 | .call f args ca::d,ds,u=>let ⟨xs,cs,r,h1,z,h3,h4⟩:=u;⟨xs,cs,r,h1,dA.mono h _ _ z,dA.mono h _ _ h3,DR.mono h h4⟩
def Q5 (I:dg):Ex->Exit->Prop
 | .mr v,E=>∃x,E= .panic [{v:=x,recovered:=false}]/\VR I v x
 | .normal,E=>E= .normal
 | .exit i,E=>E= .exit i
 | .goto i,E=>E= .goto i
 | .ret,E=>E= .ret
def Qx (Q:Exit->Act->World->Prop) (I:dg) (e:Ex) (a:Act) (w:World):Prop:=∀E,Q5 I e E->Q E a w
def Om (I:dg):KR->Ending->Prop
 | .ret v _,e=>∃x,e= .returned x/\VR I v x
 | .mr v _,e=>∃x,e= .panicked [{v:=x,recovered:=false}]/\VR I v x
 | .err _,_=>False
def KR.heap:KR->N
 | .ret _ O=>O
 | .mr _ O=>O
 | .err _=>⟨0,.leaf⟩
def RO (I:dg):Option Pos->Option Nat->Prop
 | none,none=>True
 | some b,some l=>∃loc,I b=some loc/\loc.dN=l
 | _,_=>False
theorem RO.mono {I I':dg} (h:I.le I'):∀{ro:Option Pos} {rl:Option Nat},RO I ro rl->RO I' ro rl
 | none,none,_=>trivial
 | some _,some _,⟨loc,h1,b⟩=>⟨loc,h _ _ h1,b⟩
def GR (I:dg) (G:Cx):Prop:=∀g,g<G.gl->∃c,I (posOf g)=some ⟨g,0,c⟩
theorem GR.mono {I I':dg} {G:Cx} (h:I.le I') (d:GR I G):GR I' G:=fun g b=>let ⟨c,u⟩:=d g b;⟨c,h _ _ u⟩
structure jK (w w':World):Prop where
 os:w'.os=w.os
 out:w'.output=w.output
 tape:w'.tape=w.tape
 size:w.heap.size<=w'.heap.size
 same:∀r:Nat,r<w.heap.size->w'.heap[r]?=w.heap[r]?
def kV (w:World) (x:Nat×List V):Prop:=∃c e fr,w.heap[x.1]?=some (.cells c e fr)/\x.2.length<=c.size/\∀(i:Nat) (v:V),x.2[i]?=some v->∃y,c[i]?=some y/\VR (fun _=>none) v y
def Ff (P:Program) (gl:Nat) (laid:List (Nat×List V)) (f:Nat) (args:List V) (v:V):Prop:=
 ∀(w:World) (xs:Array Value),gl<=w.heap.size->HX w->(∀x∈laid,kV w x)->dA (fun _=>none) args xs.toList->Calls P f xs w fun e w'=>∃x,e= .returned x/\VR (fun _=>none) v x/\jK w w'
structure Bi (P:Program) (G:Cx):Prop where
 ov:∀g,G.ov g=true->rJ P g
 HU:∀f args v,G.HU f args=some v->Ff P G.gl G.laid f args v
 mem:∀e∈G.mem,True
 HS:∀f args O v,G.HS f args O=some v->∀(I:dg) (w:World) (xs:Array Value),Inv I O w->dA I args xs.toList->Calls P f xs w fun e w'=>∃x I',e= .returned x/\VR I' v x/\Inv I' O w'/\eY I O w I' O w'
structure Sound (P:Program) (G:Cx) (ih:kI):Prop where
 cx:Bi P G
 run:∀(c:Code) (t:PT V) (n:Nat) (d:List DE) (ro:Option Pos) (O:N) (e:Ex) (t':PT V) (d':List DE) (O':N),ih c t n d ro O= .ok e t' d' O'->
  ∀(I:dg) (w:World) (a:Act) (rl:Option Nat) (m:Nat) (Q:Exit->Act->World->Prop),Inv I O w->GR I G->TR I t n a.tmps->DR I d a.defers->RO I ro rl->
   (∀(I':dg) (w':World) (a':Act),Inv I' O' w'->eY I O w I' O' w'->TR I' t' n a'.tmps->DR I' d' a'.defers->Qx Q I' e a' w')->c.wpIn (ow rl) m P Q a w
section
variable {P:Program} {G:Cx} {I:dg} {O:N} {w:World}
theorem TR.set {t:PT V} {n k:Nat} {tmps:Array Value} {v:V} {x:Value} (h:TR I t n tmps) (hk:k<n) (hv:VR I v x):TR I (t.put (some v)<|posOf k) n (tmps.setIfInBounds k x):=by
 refine⟨by simpa using h.1,fun j u hu=>?_⟩
 by_cases e:j=k
 ·subst e;rw[PT.dE] at hu;cases hu;refine⟨hk,?_⟩;have:j<tmps.size:=by rw[h.1];exact hk
  simp_all
 rw[PT.dB _ _ _ _ (fun h'=>e (qI h'))] at hu;obtain⟨h1,b⟩:=h.2 j u hu;refine⟨h1,?_⟩
 have:(tmps.setIfInBounds k x).getD j undef=tmps.getD j undef:=by
  simp only[Array.getD_eq_getD_getElem?,Array.getElem?_setIfInBounds]
  grind
 rw[this];exact b
theorem tZ {t t':PT V} {n k:Nat} {v:V} (h:dP t n (some k) v=some t'):k<n/\t'=t.put (some v) (posOf k):=by
 unfold dP at h;simp only[bx] at h;split at h
 ·rename_i hk;cases h;exact⟨Nat.le_of_ble_eq_true hk,Z⟩
 cases h
theorem TR.put {t t':PT V} {n:Nat} {a:Act} {dst:Option Tmp} {v:V} {x:Value} (h:TR I t n a.tmps) (hp:dP t n dst v=some t') (hv:VR I v x):TR I t' n (a.put dst x).tmps:=by
 cases dst with
 | none=>cases hp;exact h
 | some k=>
  obtain⟨hk,rfl⟩:=tZ hp;exact h.set hk hv
theorem put_defers (a:Act) (dst:Option Tmp) (x:Value):(a.put dst x).defers=a.defers:=by cases dst<;>rfl
theorem vz:VR I unit undef:=by simp only[unit,VR];exact⟨_,Z,dA.nil⟩
theorem jW {t:PT V} {n:Nat} {a:Act} {x:Operand} {v:V} (d:GR I G) (u:TR I t n a.tmps) (h:bp G t x=some v):VR I v (a.eval x):=by
 cases x with
 | tmp k=>exact(u.2 k v h).2
 | const c=>exact pQ h
 | global g=>
  simp only[bp,bx] at h;split at h
  ·rename_i b;cases h;obtain⟨c,z⟩:=d g (Nat.le_of_ble_eq_true b);simp only[VR];exact⟨_,z,by simp[Act.eval]⟩
  cases h
 | func f=>
  cases h;simp only[VR];exact⟨_,_,Z,dA.nil,dA.nil⟩
theorem Mi {t:PT V} {n:Nat} {a:Act} (op:Op) (b:GR I G) (d:TR I t n a.tmps):ER I (bp G t) a.eval op:=fun _ _ _ hv=>jW b d hv
theorem zo {ops:Array Oper} {t:PT V} {o:Oper} {b:Bool} {tmps:Array Value} (h:bH ops t o=some b)
  (A:∀j want k,o.guard=some (j,want)->(ops[j]?).bind (·.dst)=some k->∀v,t.get (posOf k)=some v->k<tmps.size/\VR I v (tmps.getD k undef)):
  Region.wanted o (yielded ops tmps)=b:=by
 unfold bH at h;unfold Region.wanted;cases z:o.guard with
 | none=>simp_all
 | some jw=>
  obtain⟨j,want⟩:=jw;rw[z] at h;dsimp only at h⊢;cases hk:(ops[j]?).bind (·.dst) with
  | none=>
   rw[hk] at h;cases h;simp[yielded,hk]
  | some k=>
   rw[hk] at h;dsimp only at h;cases hv:t.get (posOf k) with
   | none=>rw[hv] at h;cases h
   | some v=>
    rw[hv] at h;obtain⟨aa,u⟩:=A j want k z hk v hv
    have d:tmps[k]?=some (tmps.getD k undef):=by
     simp_all
    generalize tmps.getD k undef=x at u d;cases v with
    | bool c=>
     simp only[VR] at u;subst u;simp only[yielded,hk,Option.bind_some,d];cases h
     grind
    | tuple cs=>
     simp only[VR] at u;obtain⟨y,rfl,_⟩:=u;cases h;simp[yielded,hk,d]
    | _=>cases h
theorem AY {ops:Array Oper} {t:PT V} {o:Oper} {b:Bool} {n:Nat} {tmps:Array Value} (h:bH ops t o=some b) (d:TR I t n tmps):Region.wanted o (yielded ops tmps)=b:=
 zo h fun _ _ k _ _ v hv=>⟨by rw[d.1];exact(d.2 k v hv).1,(d.2 k v hv).2⟩
theorem Dr {n:Nat} {args:List V} {xs:Array Value} {t:PT V} (h:ra n args=some t) (hv:dA I args xs.toList):TR I t n (xs++Array.replicate (n-xs.size) undef):=by
 have key:∀(args:List V) (ys:List Value) (k:Nat) (t t':PT V),(List.rec (motive:=fun _=>Nat->PT V->Option (PT V)) (fun _ t=>some t) (fun v _ ih k t=>match dP t n (some k) v with | some t'=>ih (Nat.succ k) t' | none=>none) args:Nat->PT V->Option (PT V)) k t=some t'->
   dA I args ys->(∀j v,t.get (posOf j)=some v->j<k/\j<n)->
   (∀j v,t'.get (posOf j)=some v->j<n/\((j<k/\t.get (posOf j)=some v)∨∃y,k<=j/\ys[j-k]?=some y/\VR I v y))/\(args= []∨k+args.length<=n):=by
  intro args;induction args with
  | nil=>
   simp_all
  | cons v args ih=>
   intro ys k t t' h hv ht;obtain⟨x,r,rfl,h1,z⟩:=hv.cons_inv;dsimp only at h;cases hp:dP t n (some k) v with
   | none=>rw[hp] at h;cases h
   | some t₁=>
    rw[hp] at h;obtain⟨hk,rfl⟩:=tZ hp
    obtain⟨g1,A⟩:=ih r (k+1) _ t' h z (fun j u hj=>by
     by_cases e:j=k
     ·omega
     rw[PT.dB _ _ _ _ (fun h'=>e (qI h'))] at hj
     grind)
    refine⟨fun j u hj=>?_,.inr ?_⟩
    ·obtain⟨q1,q2⟩:=g1 j u hj;refine⟨q1,?_⟩;rcases q2 with ⟨b,d⟩ | ⟨y,hle,hy,B⟩
     ·by_cases e:j=k
      ·subst e;rw[PT.dE] at d;simp_all
      rw[PT.dB _ _ _ _ (fun h'=>e (qI h'))] at d
      simp_all
     grind
    grind
 obtain⟨g1,A⟩:=key args xs.toList 0 .leaf t h hv (fun j v hj=>by rw[PT.ma] at hj;cases hj);have hlen:=hv.length
 have hle:xs.size<=n:=by
  grind
 refine⟨by simp;omega,fun j v hj=>?_⟩;obtain⟨q1,q2⟩:=g1 j v hj;refine⟨q1,?_⟩;rcases q2 with ⟨b,_⟩ | ⟨y,_,hy,B⟩
 ·omega
 rw[Nat.sub_zero] at hy;have aa:j<xs.size:=by grind
 simp_all
def JT (tmps:Array Value):ResultVar->Sem Value
 | .tmp t=>pure (tmps.getD t undef)
 | .cell a t=>do loadVar t (<-asAddr (tmps.getD a undef))
theorem sl (fn:Func) (tmps:Array Value):results fn tmps=(fn.results.mapM (JT tmps)>>= fun vs=>pure (if h:vs.size=1 then vs[0] else .tuple vs)):=rfl
theorem AA (hi:Inv I O w) {t:PT V} {n:Nat} {tmps:Array Value} (z:TR I t n tmps) {r:ResultVar} {v:V} (h:fG P t O r=some v):
  ∃x,(JT tmps r).run P w= .ok x w/\VR I v x:=by
 cases r with
 | tmp k=>exact⟨_,Z,(z.2 k v h).2⟩
 | cell k ty=>
  simp only[fG] at h;cases hk:t.get (posOf k) with
  | none=>rw[hk] at h;cases h
  | some u=>
   rw[hk] at h;have hvx:=(z.2 k u hk).2;cases u with
   | ptr b off=>
    dsimp only at h;cases d:O.m.get b with
    | none=>rw[d] at h;cases h
    | some ob=>
     rw[d] at h;cases ob with
     | row cells e ro=>
      simp only[VR] at hvx;obtain⟨l,hl,aa⟩:=hvx;obtain⟨y,hy,hr⟩:=nh (P:=P) hi d hl h
      grind [JT,asAddr]
     | _=>cases h
   | _=>cases h
theorem p4 (hi:Inv I O w) {t:PT V} {n:Nat} {tmps:Array Value} (u:TR I t n tmps):∀{rs:List ResultVar} {vs:List V},cQ (fG P t O) rs=some vs->
  ∃xs:List Value,(rs.mapM (JT tmps):Sem (List Value)).run P w= .ok xs w/\dA I vs xs
 | [],vs,h=>by rw[gO] at h;cases h;exact⟨[],by simp,dA.nil⟩
 | r::rs,vs,h=>by
  obtain⟨y,r',h1,z,rfl⟩:=gq h;obtain⟨x,hx,hv⟩:=AA (P:=P) hi u h1;obtain⟨xs,b,d⟩:=p4 hi u z;refine⟨x::xs,?_,dA.cons hv d⟩;simp only[List.mapM_cons,sB_,hx,rA,b,sP_]
theorem yc (hi:Inv I O w) {fn:Func} {t:PT V} {n:Nat} {tmps:Array Value} (z:TR I t n tmps) {v:V} (h:eX P fn t O=some v):
  ∃x,(results fn tmps).run P w= .ok x w/\VR I v x:=by
 unfold eX at h;cases b:cQ (fG P t O) fn.results.toList with
 | none=>rw[b] at h;cases h
 | some vs=>
  rw[b] at h;obtain⟨xs,hx,hv⟩:=p4 (P:=P) hi z b
  have hm:(fn.results.mapM (JT tmps):Sem (Array Value)).run P w= .ok xs.toArray w:=by
   grind [Array.mapM_eq_mapM_toList,Sem.run_map,rA]
  cases vs with
  | nil=>
   cases h;have:=hv.eV;subst this;refine⟨.tuple #[],by rw[sl,sB_,hm];rfl,by simp only[VR];simp_all⟩
  | cons u us=>
   obtain⟨x,r,rfl,h1,d⟩:=hv.cons_inv;cases us with
   | nil=>
    cases h;have:=d.eV;subst this;exact⟨x,by rw[sl,sB_,hm];rfl,h1⟩
   | cons u' us=>
    cases h;obtain⟨x',r',rfl,h3,h4⟩:=d.cons_inv;refine⟨.tuple (x::x'::r').toArray,by rw[sl,sB_,hm];rfl,by simp only[VR];simp_all⟩
end
end Go.Ev
end
