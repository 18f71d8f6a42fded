/- Part of the proof: an evaluator of the model's code, rules for walks on it, walks. Without conditions. -/
import Derived.CallsIn
import Derived.Laws.World
import Derived.KernelRfl
import Derived.Laws.AppendOwn
import Derived.Laws.Strings
import Derived.Great.BuildSlice
import Derived.Laws.Tables
import Derived.Laws.MakeOwn
import Derived.Laws.StructEq
import Derived.Laws.Small
import Derived.ChangeKeysEq
import Derived.LaidEql
import Derived.Lib.Strings
import Derived.Lib.Builder
import Derived.Lib.Overlaps
import Derived.Laws.IdiomStrings
import Derived.Lib.UnsafeStr
import Derived.Lib.ConvBytes
import Derived.RangeFuncNested
set_option linter.unusedSectionVars false
set_option linter.unusedVariables false
set_option linter.unusedSimpArgs false
noncomputable section
namespace Go.Ev
theorem gA:type_of% @List.getElem?_eq_some_iff:= @List.getElem?_eq_some_iff
theorem gB_:type_of% @List.mem_of_getElem?:= @List.mem_of_getElem?
theorem rA:type_of% @Result.andThen_ok:= @Result.andThen_ok
theorem gC:type_of% @List.getElem?_eq_getElem:= @List.getElem?_eq_getElem
theorem nB:type_of% @Nat.eq_of_beq_eq_true:= @Nat.eq_of_beq_eq_true
theorem bA_:type_of% @Bool.and_eq_true:= @Bool.and_eq_true
theorem sB_:type_of% @Sem.run_bind:= @Sem.run_bind
theorem sP_:type_of% @Sem.run_pure:= @Sem.run_pure
theorem nE_:type_of% @Nat.ble_eq:= @Nat.ble_eq
theorem lT_:type_of% @List.length_take:= @List.length_take
theorem oJ_:type_of% @Option.some.injEq:= @Option.some.injEq
theorem lA_:type_of% @List.length_append:= @List.length_append
theorem mC_:type_of% @List.mem_cons_of_mem:= @List.mem_cons_of_mem
theorem lM_:type_of% @List.length_map:= @List.length_map
theorem aT_:type_of% @Array.getElem?_toList:= @Array.getElem?_toList
theorem mS_:type_of% @List.mem_cons_self:= @List.mem_cons_self
theorem gM_:type_of% @List.getElem?_map:= @List.getElem?_map
theorem gL_:type_of% @List.getElem?_append_left:= @List.getElem?_append_left
theorem gO_:type_of% @List.getElem?_of_mem:= @List.getElem?_of_mem
theorem tL_:type_of% @List.take_of_length_le:= @List.take_of_length_le
theorem aE_:type_of% @List.all_eq_true:= @List.all_eq_true
theorem eN_:type_of% @List.eq_nil_of_length_eq_zero:= @List.eq_nil_of_length_eq_zero
theorem gN_:type_of% @List.getElem?_eq_none:= @List.getElem?_eq_none
theorem lD_:type_of% @List.length_drop:= @List.length_drop
theorem mQ_:type_of% @List.mem_cons:= @List.mem_cons
theorem nM_:type_of% @Nat.mul_le_mul_right:= @Nat.mul_le_mul_right
theorem oM_:type_of% @Option.map_eq_some_iff:= @Option.map_eq_some_iff
theorem lQ_:type_of% @List.append_assoc:= @List.append_assoc
theorem nZ_:type_of% @Nat.not_lt_zero:= @Nat.not_lt_zero
theorem nR_:type_of% @Nat.le_refl:= @Nat.le_refl
theorem nA_:type_of% @Nat.zero_add:= @Nat.zero_add
theorem iJ_:type_of% @Int.ofNat.inj:= @Int.ofNat.inj
theorem gR_:type_of% @List.getElem?_append_right:= @List.getElem?_append_right
theorem eR_:type_of% @List.eq_of_mem_replicate:= @List.eq_of_mem_replicate
theorem aG_:type_of% @Array.getElem?_eq_getElem:= @Array.getElem?_eq_getElem
theorem aS_:type_of% @Array.getElem?_eq_some_iff:= @Array.getElem?_eq_some_iff
theorem Z {α:Sort _} {a:α}:a=a:=rfl
theorem O {p:Prop} (h:p:=by kernel_rfl):p:=h
theorem oM {p:Prop} (h:p:=by omega):p:=h
abbrev Pos:=Nat
abbrev Pos.succ (p:Pos):Pos:=Nat.succ p
abbrev Pos.num (p:Pos):Nat:=p
theorem Pos.iT (p:Pos):p.succ.num=p.num+1:=rfl
abbrev posOf (n:Nat):Pos:=n
theorem qU {m n:Nat} (h:posOf m=posOf n):m=n:=h
structure kq (α:Type) where
 c0:α
 c1:α
 c2:α
 c3:α
 c4:α
 c5:α
 c6:α
 c7:α
 c8:α
 c9:α
 sc:α
 sd:α
 se:α
 sf:α
 sg:α
 si:α
structure DP (α:Type) where
 run:kq α->α
structure DQ (α:Type) where
 run:kq α->α->kq α
section
variable {α:Type}
def jU (n:Nat):DP α:=(Bool.rec (motive:=fun _=>DP α) (Bool.rec (motive:=fun _=>DP α) (Bool.rec (motive:=fun _=>DP α) (Bool.rec (motive:=fun _=>DP α) ⟨fun t=>t.c0⟩ ⟨fun t=>t.c1⟩<|Nat.ble 1 n) (Bool.rec (motive:=fun _=>DP α) ⟨fun t=>t.c2⟩ ⟨fun t=>t.c3⟩<|Nat.ble 3 n)<|Nat.ble 2 n) (Bool.rec (motive:=fun _=>DP α) (Bool.rec (motive:=fun _=>DP α) ⟨fun t=>t.c4⟩ ⟨fun t=>t.c5⟩<|Nat.ble 5 n) (Bool.rec (motive:=fun _=>DP α) ⟨fun t=>t.c6⟩ ⟨fun t=>t.c7⟩<|Nat.ble 7 n)<|Nat.ble 6 n)<|Nat.ble 4 n) (Bool.rec (motive:=fun _=>DP α) (Bool.rec (motive:=fun _=>DP α) (Bool.rec (motive:=fun _=>DP α) ⟨fun t=>t.c8⟩ ⟨fun t=>t.c9⟩<|Nat.ble 9 n) (Bool.rec (motive:=fun _=>DP α) ⟨fun t=>t.sc⟩ ⟨fun t=>t.sd⟩<|Nat.ble 11 n)<|Nat.ble 10 n) (Bool.rec (motive:=fun _=>DP α) (Bool.rec (motive:=fun _=>DP α) ⟨fun t=>t.se⟩ ⟨fun t=>t.sf⟩<|Nat.ble 13 n) (Bool.rec (motive:=fun _=>DP α) ⟨fun t=>t.sg⟩ ⟨fun t=>t.si⟩<|Nat.ble 15 n)<|Nat.ble 14 n)<|Nat.ble 12 n)<|Nat.ble 8 n)
def yK (n:Nat):DQ α:=(Bool.rec (motive:=fun _=>DQ α) (Bool.rec (motive:=fun _=>DQ α) (Bool.rec (motive:=fun _=>DQ α) (Bool.rec (motive:=fun _=>DQ α) ⟨fun t v=>kq.rec (motive:=fun _=>kq α) (fun _ c1 c2 c3 c4 c5 c6 c7 c8 c9 sc sd se sf sg si=>⟨v,c1,c2,c3,c4,c5,c6,c7,c8,c9,sc,sd,se,sf,sg,si⟩) t⟩ ⟨fun t v=>kq.rec (motive:=fun _=>kq α) (fun c0 _ c2 c3 c4 c5 c6 c7 c8 c9 sc sd se sf sg si=>⟨c0,v,c2,c3,c4,c5,c6,c7,c8,c9,sc,sd,se,sf,sg,si⟩) t⟩<|Nat.ble 1 n) (Bool.rec (motive:=fun _=>DQ α) ⟨fun t v=>kq.rec (motive:=fun _=>kq α) (fun c0 c1 _ c3 c4 c5 c6 c7 c8 c9 sc sd se sf sg si=>⟨c0,c1,v,c3,c4,c5,c6,c7,c8,c9,sc,sd,se,sf,sg,si⟩) t⟩ ⟨fun t v=>kq.rec (motive:=fun _=>kq α) (fun c0 c1 c2 _ c4 c5 c6 c7 c8 c9 sc sd se sf sg si=>⟨c0,c1,c2,v,c4,c5,c6,c7,c8,c9,sc,sd,se,sf,sg,si⟩) t⟩<|Nat.ble 3 n)<|Nat.ble 2 n) (Bool.rec (motive:=fun _=>DQ α) (Bool.rec (motive:=fun _=>DQ α) ⟨fun t v=>kq.rec (motive:=fun _=>kq α) (fun c0 c1 c2 c3 _ c5 c6 c7 c8 c9 sc sd se sf sg si=>⟨c0,c1,c2,c3,v,c5,c6,c7,c8,c9,sc,sd,se,sf,sg,si⟩) t⟩ ⟨fun t v=>kq.rec (motive:=fun _=>kq α) (fun c0 c1 c2 c3 c4 _ c6 c7 c8 c9 sc sd se sf sg si=>⟨c0,c1,c2,c3,c4,v,c6,c7,c8,c9,sc,sd,se,sf,sg,si⟩) t⟩<|Nat.ble 5 n) (Bool.rec (motive:=fun _=>DQ α) ⟨fun t v=>kq.rec (motive:=fun _=>kq α) (fun c0 c1 c2 c3 c4 c5 _ c7 c8 c9 sc sd se sf sg si=>⟨c0,c1,c2,c3,c4,c5,v,c7,c8,c9,sc,sd,se,sf,sg,si⟩) t⟩ ⟨fun t v=>kq.rec (motive:=fun _=>kq α) (fun c0 c1 c2 c3 c4 c5 c6 _ c8 c9 sc sd se sf sg si=>⟨c0,c1,c2,c3,c4,c5,c6,v,c8,c9,sc,sd,se,sf,sg,si⟩) t⟩<|Nat.ble 7 n)<|Nat.ble 6 n)<|Nat.ble 4 n) (Bool.rec (motive:=fun _=>DQ α) (Bool.rec (motive:=fun _=>DQ α) (Bool.rec (motive:=fun _=>DQ α) ⟨fun t v=>kq.rec (motive:=fun _=>kq α) (fun c0 c1 c2 c3 c4 c5 c6 c7 _ c9 sc sd se sf sg si=>⟨c0,c1,c2,c3,c4,c5,c6,c7,v,c9,sc,sd,se,sf,sg,si⟩) t⟩ ⟨fun t v=>kq.rec (motive:=fun _=>kq α) (fun c0 c1 c2 c3 c4 c5 c6 c7 c8 _ sc sd se sf sg si=>⟨c0,c1,c2,c3,c4,c5,c6,c7,c8,v,sc,sd,se,sf,sg,si⟩) t⟩<|Nat.ble 9 n) (Bool.rec (motive:=fun _=>DQ α) ⟨fun t v=>kq.rec (motive:=fun _=>kq α) (fun c0 c1 c2 c3 c4 c5 c6 c7 c8 c9 _ sd se sf sg si=>⟨c0,c1,c2,c3,c4,c5,c6,c7,c8,c9,v,sd,se,sf,sg,si⟩) t⟩ ⟨fun t v=>kq.rec (motive:=fun _=>kq α) (fun c0 c1 c2 c3 c4 c5 c6 c7 c8 c9 sc _ se sf sg si=>⟨c0,c1,c2,c3,c4,c5,c6,c7,c8,c9,sc,v,se,sf,sg,si⟩) t⟩<|Nat.ble 11 n)<|Nat.ble 10 n) (Bool.rec (motive:=fun _=>DQ α) (Bool.rec (motive:=fun _=>DQ α) ⟨fun t v=>kq.rec (motive:=fun _=>kq α) (fun c0 c1 c2 c3 c4 c5 c6 c7 c8 c9 sc sd _ sf sg si=>⟨c0,c1,c2,c3,c4,c5,c6,c7,c8,c9,sc,sd,v,sf,sg,si⟩) t⟩ ⟨fun t v=>kq.rec (motive:=fun _=>kq α) (fun c0 c1 c2 c3 c4 c5 c6 c7 c8 c9 sc sd se _ sg si=>⟨c0,c1,c2,c3,c4,c5,c6,c7,c8,c9,sc,sd,se,v,sg,si⟩) t⟩<|Nat.ble 13 n) (Bool.rec (motive:=fun _=>DQ α) ⟨fun t v=>kq.rec (motive:=fun _=>kq α) (fun c0 c1 c2 c3 c4 c5 c6 c7 c8 c9 sc sd se sf _ si=>⟨c0,c1,c2,c3,c4,c5,c6,c7,c8,c9,sc,sd,se,sf,v,si⟩) t⟩ ⟨fun t v=>kq.rec (motive:=fun _=>kq α) (fun c0 c1 c2 c3 c4 c5 c6 c7 c8 c9 sc sd se sf sg _=>⟨c0,c1,c2,c3,c4,c5,c6,c7,c8,c9,sc,sd,se,sf,sg,v⟩) t⟩<|Nat.ble 15 n)<|Nat.ble 14 n)<|Nat.ble 12 n)<|Nat.ble 8 n)
theorem Ia {n:Nat} (h:n<16):n=0∨n=1∨n=2∨n=3∨n=4∨n=5∨n=6∨n=7∨n=8∨n=9∨n=10∨n=11∨n=12∨n=13∨n=14∨n=15:=by omega
theorem Dp (n:Nat) (t:kq α) (v:α) (j:n<16):(jU n).run ((yK n).run t v)=v:=by
 rcases Ia j with rfl | rfl | rfl | rfl | rfl | rfl | rfl | rfl | rfl | rfl | rfl | rfl | rfl | rfl | rfl | rfl<;>rfl
theorem Of (n:Nat) (t:kq α) (v u:α) (j:n<16):(yK n).run ((yK n).run t v) u=(yK n).run t u:=by
 rcases Ia j with rfl | rfl | rfl | rfl | rfl | rfl | rfl | rfl | rfl | rfl | rfl | rfl | rfl | rfl | rfl | rfl<;>rfl
theorem II (m n:Nat) (t:kq α) (v:α) (hm:m<16) (j:n<16) (h:m≠n):(jU m).run ((yK n).run t v)=(jU m).run t:=by
 rcases Ia hm with rfl | rfl | rfl | rfl | rfl | rfl | rfl | rfl | rfl | rfl | rfl | rfl | rfl | rfl | rfl | rfl<;>rcases Ia j with rfl | rfl | rfl | rfl | rfl | rfl | rfl | rfl | rfl | rfl | rfl | rfl | rfl | rfl | rfl | rfl<;>first | rfl | exact absurd rfl h
theorem G3 (m n:Nat) (t:kq α) (v:α) (hm:m<16) (j:n<16):(jU m).run ((yK n).run t v)=if m=n then v else(jU m).run t:=by
 by_cases h:m=n
 ·subst h;rw[if_pos Z,Dp _ _ _ j]
 rw[if_neg h,II _ _ _ _ hm j h]
abbrev jC (α:Type):=kq (kq α)
def ka (t:jC α) (k:Nat):α:=(jU<|Nat.mod k 16).run ((jU<|Nat.div k 16).run t)
def qh (t:jC α) (k:Nat) (v:α):jC α:=(yK<|Nat.div k 16).run t ((yK<|Nat.mod k 16).run ((jU<|Nat.div k 16).run t) v)
theorem me (t:jC α) (k j:Nat) (v:α) (hk:k<256) (hj:j<256):ka (qh t k v) j=if j=k then v else ka t j:=by
 have e:∀n m:Nat,Nat.mod n m=n%m:=fun _ _=>Z
 have e':∀n m:Nat,Nat.div n m=n/m:=fun _ _=>Z
 simp only[ka,qh,e,e'];rw[G3 _ _ _ _ oM oM]
 by_cases h1:j/16=k/16
 ·rw[if_pos h1,G3 _ _ _ _ oM oM]
  grind
 grind
theorem yl (t:jC α) (k:Nat) (v u:α) (hk:k<256):qh (qh t k v) k u=qh t k u:=by
 have h1:Nat.mod k 16<16:=Nat.mod_lt _ oM;have h2:Nat.div k 16<16:=Nat.div_lt_of_lt_mul hk
 grind [qh,Dp,Of]
def kq.all (x:α):kq α:=⟨x,x,x,x,x,x,x,x,x,x,x,x,x,x,x,x⟩
def jC.all (x:α):jC α:=kq.all (kq.all x)
theorem G2 (n:Nat) (y:α) (j:n<16):(jU n).run (kq.all y)=y:=by
 rcases Ia j with rfl | rfl | rfl | rfl | rfl | rfl | rfl | rfl | rfl | rfl | rfl | rfl | rfl | rfl | rfl | rfl<;>rfl
theorem xw (x:α) (k:Nat) (hk:k<256):ka (jC.all x) k=x:=by
 have h1:Nat.mod k 16<16:=Nat.mod_lt _ oM;have j:Nat.div k 16<16:=Nat.div_lt_of_lt_mul hk;simp only[ka,jC.all,G2 _ _ h1,G2 _ _ j]
def tC (v:Option α) (n:Nat):List (Option α)->List (Option α):=
 Nat.rec (motive:=fun _=>List (Option α)->List (Option α)) (fun l=>List.rec (motive:=fun _=>List<|Option α) [v] (fun _ r _=>v::r) l)
  (fun _ ih l=>List.rec (motive:=fun _=>List<|Option α) (none::ih []) (fun x r _=>x::ih r) l) n
def HS (l:List (Option α)):Nat->Option α:=
 List.rec (motive:=fun _=>Nat->Option α) (fun _=>none) (fun x _ ih n=>Nat.rec (motive:=fun _=>Option α) x (fun m _=>ih m) n) l
theorem xy (v:Option α):∀(k:Nat) (l:List (Option α)) (j:Nat),HS (tC v k l) j=if j=k then v else HS l j
 | 0,[],0=>rfl
 | 0,[],j+1=>by rw[if_neg oM];rfl
 | 0,x::r,0=>rfl
 | 0,x::r,j+1=>by rw[if_neg oM];rfl
 | k+1,[],0=>by rw[if_neg oM];rfl
 | k+1,[],j+1=>by
  show HS (tC v k []) j=_;rw[xy v k [] j]
  by_cases h:j=k
  ·simp_all
  rw[if_neg h,if_neg oM];rfl
 | k+1,x::r,0=>by rw[if_neg oM];rfl
 | k+1,x::r,j+1=>by
  show HS (tC v k r) j=_;rw[xy v k r j]
  by_cases h:j=k
  ·simp_all
  rw[if_neg h,if_neg oM];rfl
theorem yq (v u:Option α):∀(k:Nat) (l:List (Option α)),tC u k (tC v k l)=tC u k l
 | 0,[]=>rfl
 | 0,x::r=>rfl
 | k+1,[]=>by
  show none::tC u k (tC v k [])=none::tC u k [];rw[yq v u k []]
 | k+1,x::r=>by
  show x::tC u k (tC v k r)=x::tC u k r;rw[yq v u k r]
structure PT (α:Type) where
 s:jC (Option α)
 m:jC (jC<|Option α)
 l:List (Option α)
def PT.leaf:PT α:=⟨jC.all none,jC.all<|jC.all none,[]⟩
def PT.HQ (t:PT α) (p:Nat):Option α:=
 Bool.rec (motive:=fun _=>Option α) (Bool.rec (motive:=fun _=>Option α) (HS t.l p) (ka (ka t.m<|Nat.div p 256)<|Nat.mod p 256)<|Nat.ble p 65535) (ka t.s p) (Nat.ble p 255)
def PT.Iz (o:Option α) (t:PT α) (p:Nat):PT α:=
 Bool.rec (motive:=fun _=>PT α) (Bool.rec (motive:=fun _=>PT α) (PT.rec (motive:=fun _=>PT α) (fun s m l=>⟨s,m,tC o p l⟩) t)
  (PT.rec (motive:=fun _=>PT α) (fun s m l=>⟨s,qh m (Nat.div p 256)<|qh (ka m<|Nat.div p 256) (Nat.mod p 256) o,l⟩) t)<|Nat.ble p 65535)
  (PT.rec (motive:=fun _=>PT α) (fun s m l=>⟨qh s p o,m,l⟩) t) (Nat.ble p 255)
def PT.get (t:PT α) (p:Pos):Option α:=Nat.rec (motive:=fun _=>Option α) (t.HQ 0) (fun m _=>t.HQ (Nat.succ m)) p
def PT.put (o:Option α) (t:PT α) (p:Pos):PT α:=Nat.rec (motive:=fun _=>PT α) (t.Iz o 0) (fun m _=>t.Iz o (Nat.succ m)) p
theorem PT.get_eq (t:PT α) (p:Nat):t.get p=t.HQ p:=by cases p<;>rfl
theorem PT.put_eq (o:Option α) (t:PT α) (p:Nat):t.put o p=t.Iz o p:=by cases p<;>rfl
theorem wj (m n:Nat):Nat.blt m n=true↔m<n:=by simp_all
theorem ox (m n:Nat):Nat.ble m n=true↔m<n+1:=by rw[nE_,Nat.lt_succ_iff]
theorem uk {m n:Nat} (h:¬m<n+1):Nat.ble m n=false:=by
 grind [ox]
theorem PT.pP (t:PT α) {p:Nat} (h:p<256):t.get p=ka t.s p:=by rw[PT.get_eq];unfold PT.HQ;rw[(ox p 255).2 h]
theorem PT.zt (t:PT α) {p:Nat} (h:¬p<256) (h':p<65536):t.get p=ka (ka t.m<|Nat.div p 256) (Nat.mod p 256):=by
 rw[PT.get_eq];unfold PT.HQ;rw[uk (n:=255) h,(ox p 65535).2 h']
theorem PT.zr (t:PT α) {p:Nat} (h:¬p<65536):t.get p=HS t.l p:=by
 rw[PT.get_eq];unfold PT.HQ;rw[uk (n:=255) oM,uk (n:=65535) h]
theorem PT.tD (o:Option α) (s:jC (Option α)) (m:jC (jC<|Option α)) (l:List (Option α)) {p:Nat} (h:p<256):(PT.mk s m l).put o p=⟨qh s p o,m,l⟩:=by rw[PT.put_eq];unfold PT.Iz;rw[(ox p 255).2 h]
theorem PT.GQ (o:Option α) (s:jC (Option α)) (m:jC (jC<|Option α)) (l:List (Option α)) {p:Nat} (h:¬p<256) (h':p<65536):
  (PT.mk s m l).put o p=⟨s,qh m (Nat.div p 256)<|qh (ka m<|Nat.div p 256) (Nat.mod p 256) o,l⟩:=by
 rw[PT.put_eq];unfold PT.Iz;rw[uk (n:=255) h,(ox p 65535).2 h']
theorem PT.GP (o:Option α) (s:jC (Option α)) (m:jC (jC<|Option α)) (l:List (Option α)) {p:Nat} (h:¬p<65536):(PT.mk s m l).put o p=⟨s,m,tC o p l⟩:=by
 rw[PT.put_eq];unfold PT.Iz;rw[uk (n:=255) oM,uk (n:=65535) h]
theorem PT.kX (p:Nat):(PT.leaf:PT α).get p=none:=by
 by_cases h1:p<256
 ·rw[PT.pP _ h1];exact xw _ _ h1
 by_cases j:p<65536
 ·rw[PT.zt _ h1 j];show ka (ka (jC.all<|jC.all none) _) _=none;have m:Nat.div p 256<256:=Nat.div_lt_of_lt_mul j;have hm:Nat.mod p 256<256:=Nat.mod_lt _ oM;rw[xw _ _ m,xw _ _ hm]
 rw[PT.zr _ j];rfl
theorem PT.lH (o:Option α) (t:PT α) (p q:Nat):(t.put o p).get q=if q=p then o else t.get q:=by
 cases t with
 | mk s m l=>
 by_cases h1:p<256
 ·rw[PT.tD o s m l h1]
  by_cases j:q<256
  ·rw[PT.pP _ j,PT.pP _ j];exact me s p q o h1 j
  rw[if_neg oM]
  grind [PT.zt,PT.zr]
 by_cases u:p<65536
 ·rw[PT.GQ o s m l h1 u]
  by_cases j:q<256
  ·rw[if_neg oM,PT.pP _ j,PT.pP _ j]
  by_cases h4:q<65536
  ·rw[PT.zt _ j h4,PT.zt _ j h4];have hp:Nat.div p 256<256:=Nat.div_lt_of_lt_mul u;have hq:Nat.div q 256<256:=Nat.div_lt_of_lt_mul h4;have w:Nat.mod p 256<256:=Nat.mod_lt _ oM;have z:Nat.mod q 256<256:=Nat.mod_lt _ oM;show ka (ka (qh m (Nat.div p 256) _)<|Nat.div q 256) (Nat.mod q 256)=_;rw[me _ _ _ _ hp hq]
   by_cases e:Nat.div q 256=Nat.div p 256
   ·rw[if_pos e,me _ _ _ _ w z]
    by_cases A:Nat.mod q 256=Nat.mod p 256
    ·rw[if_pos A,if_pos];have f1:q/256=p/256:=e;have f2:q%256=p%256:=A;omega
    grind
   grind
  rw[if_neg oM,PT.zr _ h4,PT.zr _ h4]
 rw[PT.GP o s m l u]
 by_cases j:q<256
 ·rw[if_neg oM,PT.pP _ j,PT.pP _ j]
 by_cases h4:q<65536
 ·rw[if_neg oM,PT.zt _ j h4,PT.zt _ j h4]
 rw[PT.zr _ h4,PT.zr _ h4];exact xy o p l q
theorem PT.dG (o:Option α) (t:PT α) (p:Pos):(t.put o p).get p=o:=by rw[PT.lH,if_pos Z]
theorem PT.dD (o:Option α) (t:PT α) (p q:Pos) (h:q≠p):(t.put o p).get q=t.get q:=by rw[PT.lH,if_neg h]
theorem PT.NX (o o':Option α) (t:PT α) (p:Nat):(t.put o p).put o' p=t.put o' p:=by
 cases t with
 | mk s m l=>
 by_cases h1:p<256
 ·rw[PT.tD o s m l h1,PT.tD _ _ _ _ h1,PT.tD _ _ _ _ h1,yl _ _ _ _ h1]
 by_cases j:p<65536
 ·have hp:Nat.div p 256<256:=Nat.div_lt_of_lt_mul j;have u:Nat.mod p 256<256:=Nat.mod_lt _ oM;rw[PT.GQ o s m l h1 j,PT.GQ _ _ _ _ h1 j,PT.GQ _ _ _ _ h1 j,yl _ _ _ _ hp,me _ _ _ _ hp hp,if_pos Z,yl _ _ _ _ u]
 rw[PT.GP o s m l j,PT.GP _ _ _ _ j,PT.GP _ _ _ _ j,yq]
end
section
variable {α β:Type}
def nth (l:List α):Nat->Option α:=
 List.rec (motive:=fun _=>Nat->Option α) (fun _=>none) (fun x _ ih n=>Nat.rec (motive:=fun _=>Option α) (some x) (fun m _=>ih m) n) l
theorem fG:∀(l:List α) (n:Nat),nth l n=l[n]?
 | [],_=>rfl
 | _::_,0=>rfl
 | _::l,n+1=>by
  show nth l n=_;rw[fG l n];simp
def FB (v:α) (l:List α):Nat->List α:=
 List.rec (motive:=fun _=>Nat->List α) (fun _=>[]) (fun x l ih n=>Nat.rec (motive:=fun _=>List α) (v::l) (fun m _=>x::ih m) n) l
theorem uV (v:α):∀(l:List α) (n:Nat),FB v l n=l.set n v
 | [],_=>rfl
 | _::_,0=>rfl
 | x::l,n+1=>by
  show x::FB v l n=_;rw[uV v l n];simp
def dW (l:List α):Nat->List α:=
 List.rec (motive:=fun _=>Nat->List α) (fun _=>[]) (fun x l ih n=>Nat.rec (motive:=fun _=>List α) (x::l) (fun m _=>ih m) n) l
theorem eA:∀(l:List α) (n:Nat),dW l n=l.drop n
 | [],n=>by simp[dW]
 | _::_,0=>rfl
 | x::l,n+1=>by
  show dW l n=_;rw[eA l n];simp
def takeN (l:List α):Nat->List α:=
 List.rec (motive:=fun _=>Nat->List α) (fun _=>[]) (fun x _ ih n=>Nat.rec (motive:=fun _=>List α) [] (fun m _=>x::ih m) n) l
theorem dR:∀(l:List α) (n:Nat),takeN l n=l.take n
 | [],n=>by simp[takeN]
 | _::_,0=>rfl
 | x::l,n+1=>by
  show x::takeN l n=_;rw[dR l n];simp
def du (l:List α):Nat:=List.rec (motive:=fun _=>Nat) 0 (fun _ _ n=>Nat.succ n) l
theorem bY:∀(l:List α),du l=l.length
 | []=>rfl
 | _::l=>by show Nat.succ (du l)=_;rw[bY l];rfl
def gL (l m:List α):List α:=List.rec (motive:=fun _=>List α) m (fun x _ r=>x::r) l
theorem eb:∀(l m:List α),gL l m=l++m
 | [],_=>rfl
 | x::l,m=>by show x::gL l m=_;rw[eb l m];rfl
def AK (f:α->β) (l:List α):List β:=List.rec (motive:=fun _=>List β) [] (fun x _ r=>f x::r) l
theorem m5 (f:α->β):∀(l:List α),AK f l=l.map f
 | []=>rfl
 | x::l=>by show f x::AK f l=_;rw[m5 f l];rfl
def dB (f:α->Option β) (l:List α):Option (List β):=
 List.rec (motive:=fun _=>Option<|List β) (some []) (fun x _ r=>
  Option.rec (motive:=fun _=>Option<|List β) none (fun y=>Option.rec (motive:=fun _=>Option<|List β) none (fun ys=>some (y::ys)) r)<|f x) l
theorem hJ (f:α->Option β):dB f []=some []:=rfl
theorem gw {f:α->Option β} {x:α} {l:List α} {ys:List β} (h:dB f (x::l)=some ys):∃y r,f x=some y/\dB f l=some r/\ys=y::r:=by
 have e:dB f (x::l)=Option.rec (motive:=fun _=>Option<|List β) none (fun y=>Option.rec (motive:=fun _=>Option<|List β) none (fun ys=>some (y::ys)) (dB f l)) (f x):=rfl;rw[e] at h;cases hx:f x with
 | none=>rw[hx] at h;cases h
 | some y=>
  rw[hx] at h;cases j:dB f l with
  | none=>rw[j] at h;cases h
  | some r=>
   simp_all
end
 class Env where
 τ:Nat->Value
 n0:Nat
 h0:Array Obj
variable [Env]
inductive uc where
 | known (n:Nat)
 | upto (sz:Nat)
 | least (a sz:Nat)
 deriving Inhabited
inductive U where
 | bool (b:Bool)
 | int (k:IntKind) (n:Int)
 | str (s:List Nat)
 | gR
 | ptr (b:Pos) (off:Nat)
 | az
 | slice (b:Pos) (off len:Nat) (cap:uc)
 | iL
 | map (b:Pos)
 | func (f:Nat) (first captured:List U)
 | yield (l:Pos)
 | nilFunc
 | iface (t:Nat) (v:U)
 | nilIface
 | agg (cs:List U)
 | tuple (vs:List U)
 | any
 | ow (a:Nat)
 | tok (n:Nat)
 deriving Inhabited
structure Loc where
 dF:Nat
 sh:Nat
 cells:Nat
abbrev dh:=Pos->Option Loc
def gG (s:List Nat) (bs:ByteArray):Prop:=bs.data.toList.map UInt8.toNat=s
mutual
def VR (J:dh):U->Value->Prop
 | .bool b,x=>x= .bool b
 | .int k n,x=>x= .int k n
 | .str s,x=>∃bs,x= .string bs/\gG s bs
 | .gR,x=>x= .pointer none
 | .ptr b off,x=>∃l,J b=some l/\x= .pointer (some ⟨l.dF,l.sh+off,none⟩)
 | .az,x=>x= .slice none 0 0
 | .slice b off len (.known c),x=>∃l,J b=some l/\x= .slice (some ⟨l.dF,l.sh+off,none⟩) len c
 | .slice b off len (.upto sz),x=>∃l,J b=some l/\
   ((∃c,x= .slice (some ⟨l.dF,l.sh+off,none⟩) len c/\len<=c/\off+c*sz=l.cells)∨(len=0/\∃a,x= .slice (some a) 0 0))
 | .slice b off len (.least a sz),x=>∃l,J b=some l/\∃c,x= .slice (some ⟨l.dF,l.sh+off,none⟩) len c/\a<=c/\off+c*sz=l.cells
 | .iL,x=>x= .map none
 | .map b,x=>∃l,J b=some l/\x= .map (some l.dF)
 | .func f fi ca,x=>∃fi' ca':Array Value,x= .func (.func f) fi' ca'/\dw J fi fi'.toList/\dw J ca ca'.toList
 | .yield b,x=>∃l,J b=some l/\x= .func (.yield l.dF) #[] #[]
 | .nilFunc,x=>x= .nilFunc
 | .iface t v,x=>∃y,x= .iface t y/\VR J v y
 | .nilIface,x=>x= .nilIface
 | .agg cs,x=>∃ys:Array Value,x= .agg ys/\dw J cs ys.toList
 | .tuple cs,x=>∃ys:Array Value,x= .tuple ys/\dw J cs ys.toList
 | .any,_=>True
 | .ow a,x=>∃c:Nat,x= .int .i64 c/\a<=c
 | .tok n,x=>x=Env.τ n/\x.oneCell'=true
def dw (J:dh):List U->List Value->Prop
 | [],ys=>ys= []
 | c::cs,ys=>∃y r,ys=y::r/\VR J c y/\dw J cs r
end
def dh.le (J J':dh):Prop:=∀b l,J b=some l->J' b=some l
theorem dh.le_refl (J:dh):J.le J:=fun _ _ h=>h
theorem dh.le_trans {J J' J'':dh} (h:J.le J') (h':J'.le J''):J.le J'':=fun b l hb=>h' b l (h b l hb)
mutual
theorem VR.mono {J J':dh} (h:J.le J'):∀(v:U) (x:Value),VR J v x->VR J' v x
 | .bool b,x,hv=>by simpa only[VR] using hv
 | .int k n,x,hv=>by simpa only[VR] using hv
 | .str s,x,hv=>by simpa only[VR] using hv
 | .gR,x,hv=>by simpa only[VR] using hv
 | .ptr b off,x,hv=>by simp only[VR] at hv⊢;obtain⟨l,h1,j⟩:=hv;exact⟨l,h b l h1,j⟩
 | .az,x,hv=>by simpa only[VR] using hv
 | .slice b off len (.known c),x,hv=>by simp only[VR] at hv⊢;obtain⟨l,h1,j⟩:=hv;exact⟨l,h b l h1,j⟩
 | .slice b off len (.upto sz),x,hv=>by simp only[VR] at hv⊢;obtain⟨l,h1,j⟩:=hv;exact⟨l,h b l h1,j⟩
 | .slice b off len (.least a sz),x,hv=>by simp only[VR] at hv⊢;obtain⟨l,h1,j⟩:=hv;exact⟨l,h b l h1,j⟩
 | .iL,x,hv=>by simpa only[VR] using hv
 | .map b,x,hv=>by simp only[VR] at hv⊢;obtain⟨l,h1,j⟩:=hv;exact⟨l,h b l h1,j⟩
 | .func f fi ca,x,hv=>by
  simp only[VR] at hv⊢;obtain⟨fi',ca',h1,j,m⟩:=hv;exact⟨fi',ca',h1,dw.mono h fi _ j,dw.mono h ca _ m⟩
 | .yield b,x,hv=>by simp only[VR] at hv⊢;obtain⟨l,h1,j⟩:=hv;exact⟨l,h b l h1,j⟩
 | .nilFunc,x,hv=>by simpa only[VR] using hv
 | .iface t v,x,hv=>by simp only[VR] at hv⊢;obtain⟨y,h1,j⟩:=hv;exact⟨y,h1,VR.mono h v y j⟩
 | .nilIface,x,hv=>by simpa only[VR] using hv
 | .agg cs,x,hv=>by simp only[VR] at hv⊢;obtain⟨y,h1,j⟩:=hv;exact⟨y,h1,dw.mono h cs _ j⟩
 | .tuple cs,x,hv=>by simp only[VR] at hv⊢;obtain⟨y,h1,j⟩:=hv;exact⟨y,h1,dw.mono h cs _ j⟩
 | .any,x,hv=>by simp only[VR]
 | .ow a,x,hv=>by simpa only[VR] using hv
 | .tok n,x,hv=>by simpa only[VR] using hv
theorem dw.mono {J J':dh} (h:J.le J'):∀(vs:List U) (xs:List Value),dw J vs xs->dw J' vs xs
 | [],xs,hv=>by simpa only[dw] using hv
 | c::cs,xs,hv=>by
  simp only[dw] at hv⊢;obtain⟨y,r,h1,j,m⟩:=hv;exact⟨y,r,h1,VR.mono h c y j,dw.mono h cs r m⟩
end
theorem dw.nil {J:dh}:dw J [] []:=by simp only[dw]
theorem dw.cons {J:dh} {v:U} {x:Value} {vs:List U} {xs:List Value} (h:VR J v x) (hs:dw J vs xs):dw J (v::vs) (x::xs):=by
 simp only[dw];grind
theorem dw.cons_inv {J:dh} {v:U} {vs:List U} {ys:List Value} (h:dw J (v::vs) ys):∃x xs,ys=x::xs/\VR J v x/\dw J vs xs:=by
 simpa only[dw] using h
theorem dw.eP {J:dh} {ys:List Value} (h:dw J [] ys):ys= []:=by simpa only[dw] using h
theorem dw.length {J:dh}:∀{vs:List U} {xs:List Value},dw J vs xs->xs.length=vs.length
 | [],xs,h=>by rw[h.eP];rfl
 | v::vs,xs,h=>by
  obtain⟨x,r,rfl,_,j⟩:=h.cons_inv;simp[j.length]
theorem dw.get {J:dh}:∀{vs:List U} {xs:List Value},dw J vs xs->∀{i:Nat} {v:U},vs[i]?=some v->∃x,xs[i]?=some x/\VR J v x
 | [],xs,h,i,v,hv=>by simp at hv
 | c::vs,xs,h,0,v,hv=>by
  obtain⟨x,r,rfl,h1,j⟩:=h.cons_inv
  simp_all
 | c::vs,xs,h,i+1,v,hv=>by
  obtain⟨x,r,rfl,h1,j⟩:=h.cons_inv;simp at hv;simpa using j.get hv
theorem dw.KX {J:dh}:∀{vs:List U} {xs:List Value},xs.length=vs.length->(∀(i:Nat) (v:U),vs[i]?=some v->∃x,xs[i]?=some x/\VR J v x)->dw J vs xs
 | [],[],_,_=>dw.nil
 | v::vs,[],hl,_=>by simp at hl
 | [],x::xs,hl,_=>by simp at hl
 | v::vs,x::xs,hl,h=>by
  refine dw.cons ?_<|dw.KX (by simpa using hl) fun i u hu=>?_
  ·obtain⟨y,h1,j⟩:=h 0 v Z
   simp_all
  obtain⟨y,h1,j⟩:=h (i+1) u (by simpa using hu)
  simp_all
theorem dw.append {J:dh}:∀{vs us:List U} {xs ys:List Value},dw J vs xs->dw J us ys->dw J (vs++us) (xs++ys)
 | [],us,xs,ys,h,h'=>by rw[h.eP];exact h'
 | v::vs,us,xs,ys,h,h'=>by
  obtain⟨x,r,rfl,h1,j⟩:=h.cons_inv;exact dw.cons h1<|j.append h'
theorem dw.drop {J:dh}:∀{vs:List U} {xs:List Value},dw J vs xs->∀n,dw J (vs.drop n) (xs.drop n)
 | [],xs,h,n=>by rw[h.eP];simp;exact dw.nil
 | v::vs,xs,h,0=>h
 | v::vs,xs,h,n+1=>by
  obtain⟨x,r,rfl,h1,j⟩:=h.cons_inv;simpa using j.drop n
theorem dw.take {J:dh}:∀{vs:List U} {xs:List Value},dw J vs xs->∀n,dw J (vs.take n) (xs.take n)
 | [],xs,h,n=>by rw[h.eP];simp;exact dw.nil
 | v::vs,xs,h,0=>by simpa using dw.nil
 | v::vs,xs,h,n+1=>by
  obtain⟨x,r,rfl,h1,j⟩:=h.cons_inv;simpa using dw.cons h1 (j.take n)
theorem dw.set {J:dh}:∀{vs:List U} {xs:List Value},dw J vs xs->∀(n:Nat) {v:U} {x:Value},VR J v x->dw J (vs.set n v) (xs.set n x)
 | [],xs,h,n,_,_,_=>by rw[h.eP];simp;exact dw.nil
 | v::vs,xs,h,0,_,_,hv=>by
  obtain⟨x,r,rfl,h1,j⟩:=h.cons_inv;simpa using dw.cons hv j
 | v::vs,xs,h,n+1,_,_,hv=>by
  obtain⟨x,r,rfl,h1,j⟩:=h.cons_inv;simpa using dw.cons h1 (j.set n hv)
structure fw where
 key:U
 val:U
 born:Nat
 deriving Inhabited
inductive cD where
 | row (cells:List U) (elem:Nat) (ro:Bool)
 | own (cells:List U) (elem:Nat)
 | map (es:List fw) (clock:Nat)
 | iter (s:List Nat) (pos:Nat)
 | loop (state:LoopState) (pending:Option Code) (tmps:PT U) (n:Nat) (params:List Nat) (assign body:Code) (defers:Pos)
 | mark
 | dead
 deriving Inhabited
def cD.ro:cD->Bool
 | .row _ _ ro=>ro
 | _=>false
structure aE where
 next:Pos
 m:PT cD
def TR (J:dh) (t:PT U) (n:Nat) (tmps:Array Value):Prop:=
 tmps.size=n/\∀k v,t.get (posOf k)=some v->k<n/\VR J v (tmps.getD k undef)
def jZ (J:dh):List fw->List MapEntry->Prop
 | [],ys=>ys= []
 | e::es,ys=>∃y r,ys=y::r/\VR J e.key y.key/\VR J e.val y.val/\y.born=e.born/\jZ J es r
def gP (J:dh) (l:Loc):cD->Obj->Prop
 | .row cells elem ro,x=>∃c fr,x= .cells c elem fr/\c.size=l.sh+l.cells/\cells.length<=l.cells/\
   (∀(i:Nat) (v:U),cells[i]?=some v->∃y,c[l.sh+i]?=some y/\VR J v y)/\(ro=false->∀j,l.sh<=j->¬(fr.1<=j/\j<fr.2))
 | .own cells elem,x=>(l.sh=0/\cells.length=l.cells)/\∃c fr,x= .cells c elem fr/\c.size=l.sh+l.cells/\cells.length<=l.cells/\
   (∀(i:Nat) (v:U),cells[i]?=some v->∃y,c[l.sh+i]?=some y/\VR J v y)/\(false=false->∀j,l.sh<=j->¬(fr.1<=j/\j<fr.2))
 | .map es clock,x=>∃es',x= .map es' clock/\jZ J es es'.toList
 | .iter s pos,x=>∃bs,x= .stringIter bs pos/\gG s bs
 | .loop state pending tmps n params assign body defers,x=>∃fn tmps' l',x= .loop {state,pending,fn,tmps:=tmps',params:=params.toArray,assign,body,defers:=l'.dF}/\
   J defers=some l'/\TR J tmps n tmps'
 | .mark,x=>x= .deferred (some [])
 | .dead,_=>True
theorem TR.mono {J J':dh} (h:J.le J') {t:PT U} {n:Nat} {tmps:Array Value} (j:TR J t n tmps):TR J' t n tmps:=
 ⟨j.1,fun k v hv=>⟨(j.2 k v hv).1,VR.mono h _ _ (j.2 k v hv).2⟩⟩
theorem jZ.mono {J J':dh} (h:J.le J'):∀{es:List fw} {ys:List MapEntry},jZ J es ys->jZ J' es ys
 | [],ys,he=>he
 | e::es,ys,he=>by
  obtain⟨y,r,h1,j,m,h4,h5⟩:=he;exact⟨y,r,h1,VR.mono h _ _ j,VR.mono h _ _ m,h4,jZ.mono h h5⟩
theorem gP.mono {J J':dh} (h:J.le J') {l:Loc}:∀{o:cD} {x:Obj},gP J l o x->gP J' l o x
 | .row cells elem ro,x,j=>by
  obtain⟨c,fr,h1,m,u,h4,h5⟩:=j;exact⟨c,fr,h1,m,u,fun i v hv=>let ⟨y,a,b⟩:=h4 i v hv;⟨y,a,VR.mono h _ _ b⟩,h5⟩
 | .own cells elem,x,j=>by
  obtain⟨h0,c,fr,h1,m,u,h4,h5⟩:=j;exact⟨h0,c,fr,h1,m,u,fun i v hv=>let ⟨y,a,b⟩:=h4 i v hv;⟨y,a,VR.mono h _ _ b⟩,h5⟩
 | .map es clock,x,j=>let ⟨es',h1,m⟩:=j;⟨es',h1,jZ.mono h m⟩
 | .iter s pos,x,j=>j
 | .loop ..,x,j=>let ⟨fn,tmps',l',h1,m,u⟩:=j;⟨fn,tmps',l',h1,h _ _ m,TR.mono h u⟩
 | .mark,x,j=>j
 | .dead,x,j=>j
structure Ab (J:dh) (V:aE) (w:World):Prop where
 fresh:∀b:Pos,V.next.num<=b.num->J b=none/\V.m.get b=none
 dF:∀b l,J b=some l->l.dF<w.heap.size
 obj:∀b o l,V.m.get b=some o->J b=some l->∃x,w.heap[l.dF]?=some x/\gP J l o x
 inj:∀b b' o o' l l',V.m.get b=some o->V.m.get b'=some o'->J b=some l->J b'=some l'->l.dF=l'.dF->b≠b'->o.ro=true/\o'.ro=true
def Wr (J:dh) (V:aE) (r:Nat):Prop:=∃b o l,V.m.get b=some o/\o.ro=false/\J b=some l/\l.dF=r
structure Old (J:dh) (V:aE) (w:World):Prop where
 size:Env.n0<=w.heap.size
 same:∀r:Nat,r<Env.n0->w.heap[r]?=Env.h0[r]?
 no:∀r:Nat,r<Env.n0->¬Wr J V r
def Hi (w:World):Prop:=Env.n0<=w.heap.size/\∀r:Nat,r<Env.n0->w.heap[r]?=Env.h0[r]?
structure Inv (J:dh) (V:aE) (w:World):Prop extends Ab J V w where
 rP:Old J V w
structure eW (J:dh) (V:aE) (w:World) (J':dh) (V':aE) (w':World):Prop where
 ext:∀b:Pos,b.num<V.next.num->J' b=J b
 next:V.next.num<=V'.next.num
 size:w.heap.size<=w'.heap.size
 frame:∀r:Nat,r<w.heap.size->¬Wr J V r->w'.heap[r]?=w.heap[r]?
 wr:∀r:Nat,Wr J' V' r->r<w.heap.size->Wr J V r
 tape:w'.tape=w.tape
 os:w'.os=w.os
 out:w'.output=w.output
theorem eW.refl (J:dh) (V:aE) (w:World):eW J V w J V w:=
 ⟨fun _ _=>Z,nR_ _,nR_ _,fun _ _ _=>Z,fun _ h _=>h,Z,Z,Z⟩
theorem eW.trans {J ρ₁ ρ₂:dh} {V j m:aE} {w w₁ w₂:World} (h:eW J V w ρ₁ j w₁) (h':eW ρ₁ j w₁ ρ₂ m w₂):eW J V w ρ₂ m w₂ where
 ext b hb:=(h'.ext b<|Nat.lt_of_lt_of_le hb h.next).trans (h.ext b hb)
 next:=Nat.le_trans h.next h'.next
 size:=Nat.le_trans h.size h'.size
 frame r hr hn:=(h'.frame r (Nat.lt_of_lt_of_le hr h.size) (fun hw=>hn (h.wr r hw hr))).trans (h.frame r hr hn)
 wr r hw hr:=h.wr r (h'.wr r hw<|Nat.lt_of_lt_of_le hr h.size) hr
 tape:=h'.tape.trans h.tape
 os:=h'.os.trans h.os
 out:=h'.out.trans h.out
theorem Old.of {J J':dh} {V V':aE} {w w':World} (h:Old J V w) (st:eW J V w J' V' w'):Old J' V' w' where
 size:=Nat.le_trans h.size st.size
 same r hr:=(st.frame r (Nat.lt_of_lt_of_le hr h.size)<|h.no r hr).trans (h.same r hr)
 no r hr hw:=h.no r hr (st.wr r hw<|Nat.lt_of_lt_of_le hr h.size)
theorem Inv.of {J J':dh} {V V':aE} {w w':World} (h:Inv J V w) (h':Ab J' V' w'/\eW J V w J' V' w'):Inv J' V' w'/\eW J V w J' V' w':=⟨⟨h'.1,h.rP.of h'.2⟩,h'.2⟩
theorem Inv.Fc {J:dh} {V:aE} {w:World} (h:Inv J V w) {b:Pos} {l:Loc} (hb:J b=some l):b.num<V.next.num:=by
 rcases Nat.lt_or_ge b.num V.next.num with h' | h'
 ·exact h'
 rw[(h.fresh b h').1] at hb;cases hb
theorem eW.le {J J':dh} {V V':aE} {w w':World} (hi:Inv J V w) (h:eW J V w J' V' w'):J.le J':=fun b l hb=>by
 rw[h.ext b<|hi.Fc hb];exact hb
end Go.Ev
namespace Go.Ev
variable [Env]
section
variable {J:dh} {V:aE} {w:World}
theorem Addr.add_eq (a:Addr) (n:Nat) (h:a.spot=none):a.add n=⟨a.block,a.off+n,none⟩:=by
 unfold Addr.add;split
 ·rename_i h0;subst h0;cases a;simp_all
 rfl
theorem cell?_of_heap {w:World} {r:Nat} {c:Array Value} {e:Nat} {fr:Nat×Nat} (h:w.heap[r]?=some (.cells c e fr)) (i:Nat):w.cell? ⟨r,i,none⟩=c[i]?:=by
 simp[World.cell?,h]
theorem frozen?_of_heap {w:World} {r:Nat} {c:Array Value} {e:Nat} {fr:Nat×Nat} (h:w.heap[r]?=some (.cells c e fr)) (i:Nat) (hn:¬(fr.1<=i/\i<fr.2)):w.frozen? ⟨r,i,none⟩=false:=by
 grind [World.frozen?]
theorem heap_setCell_same {w:World} {r:Nat} {c:Array Value} {e:Nat} {fr:Nat×Nat} (h:w.heap[r]?=some (.cells c e fr)) (i:Nat) (v:Value):
  (w.setCell ⟨r,i,none⟩ v).heap[r]?=some (.cells (c.setIfInBounds i v) e fr):=by
 simp[World.setCell,Array.getElem?_modify,h]
theorem heap_setCell_other (w:World) {r:Nat} (a:Addr) (v:Value) (h:r≠a.block):(w.setCell a v).heap[r]?=w.heap[r]?:=by
 simp[World.setCell,Array.getElem?_modify,Ne.symm h]
theorem Inv.row (hi:Inv J V w) {b:Pos} {l:Loc} {cells:List U} {e:Nat} {ro:Bool} (u:V.m.get b=some (.row cells e ro)) (hl:J b=some l):
  ∃(c:Array Value) (fr:Nat×Nat),w.heap[l.dF]?=some (.cells c e fr)/\c.size=l.sh+l.cells/\cells.length<=l.cells/\
   (∀(i:Nat) (v:U),cells[i]?=some v->∃y,c[l.sh+i]?=some y/\VR J v y)/\(ro=false->∀j,l.sh<=j->¬(fr.1<=j/\j<fr.2)):=by
 obtain⟨x,hx,c,fr,rfl,h2,h3,h4,h5⟩:=hi.obj b _ l u hl
 grind
theorem Inv.cell (hi:Inv J V w) {b:Pos} {l:Loc} {cells:List U} {e:Nat} {ro:Bool} (j:V.m.get b=some (.row cells e ro)) (hl:J b=some l)
  {i:Nat} {v:U} (hv:cells[i]?=some v):∃y,w.cell? ⟨l.dF,l.sh+i,none⟩=some y/\VR J v y:=by
 obtain⟨c,fr,h1,_,_,h4,_⟩:=hi.row j hl
 grind [cell?_of_heap]
theorem Inv.drew (hi:Inv J V w):Inv J V w.drew:=⟨⟨hi.fresh,hi.dF,hi.obj,hi.inj⟩,⟨hi.rP.size,hi.rP.same,hi.rP.no⟩⟩
theorem eW.drew (J:dh) (V:aE) (w:World):eW J V w J V w.drew:=
 ⟨fun _ _=>Z,nR_ _,nR_ _,fun _ _ _=>Z,fun _ h _=>h,Z,Z,Z⟩
def aE.alloc (V:aE) (o:cD):aE:={next:=V.next.succ,m:=V.m.put (some o) V.next}
def dh.with (J:dh) (b:Pos) (l:Loc):dh:=fun b'=>if b'=b then some l else J b'
theorem dh.cG (J:dh) (b:Pos) (l:Loc):J.with b l b=some l:=by simp[dh.with]
theorem dh.dY (J:dh) {b b':Pos} (l:Loc) (h:b'≠b):J.with b l b'=J b':=by simp[dh.with,h]
theorem Inv.wE (hi:Inv J V w) (l:Loc):J.le (J.with V.next l):=fun b l' hb=>by
 rw[dh.dY]; · exact hb
 intro e;subst e;rw[(hi.fresh _<|nR_ _).1] at hb;cases hb
theorem heap_alloc_old (w:World) (x:Obj) {r:Nat} (h:r<w.heap.size):(w.alloc x).heap[r]?=w.heap[r]?:=by
 show(w.heap.push x)[r]?=_
 grind
theorem heap_alloc_new (w:World) (x:Obj):(w.alloc x).heap[w.heap.size]?=some x:=by
 show(w.heap.push x)[w.heap.size]?=_;simp
theorem Inv.Ef (hi:Inv J V w) {o:cD} {x:Obj} {l:Loc} (hl:l.dF=w.heap.size) (K:gP J l o x):
  Ab (J.with V.next l) (V.alloc o) (w.alloc x)/\eW J V w (J.with V.next l) (V.alloc o) (w.alloc x):=by
 have hle:=hi.wE l;have u:∀b l',b≠V.next->(J.with V.next l) b=some l'->J b=some l':=fun b l' hb h=>by rwa[dh.dY J l hb] at h
 have z:∀b,b≠V.next->(V.alloc o).m.get b=V.m.get b:=fun b hb=>PT.dD _ _ _ _ hb
 have B:(V.alloc o).m.get V.next=some o:=PT.dG _ _ _;have I:∀b:Pos,b.num<V.next.num->b≠V.next:=fun b hb e=>by simp_all
 constructor
 ·refine⟨fun b hb=>?_,fun b l' hb=>?_,fun b o' l' hb C=>?_,fun b b' o₁ o₂ l₁ l₂ h1 E A h4 h5 L=>?_⟩
  ·have aa:V.next.num+1<=b.num:=by simpa [aE.alloc,Pos.iT] using hb
   have j:b≠V.next:=fun e=>by subst e;omega
   rw[dh.dY J l j,z b j];exact hi.fresh b oM
  ·simp only[World.size_alloc]
   by_cases j:b=V.next
   ·subst j;rw[dh.cG] at hb;cases hb;omega
   have:=hi.dF b l' (u b l' j hb);omega
  ·by_cases j:b=V.next
   ·subst j;rw[dh.cG] at C;rw[B] at hb;cases hb;cases C;exact⟨x,by rw[hl];exact heap_alloc_new w x,K.mono hle⟩
   rw[z b j] at hb;have h':=u b l' j C;obtain⟨y,M,F⟩:=hi.obj b o' l' hb h';exact⟨y,by rw[heap_alloc_old w x<|hi.dF b l' h'];exact M,F.mono hle⟩
  by_cases e1:b=V.next<;>by_cases G:b'=V.next
  ·simp_all
  ·subst e1;rw[dh.cG] at A;cases A;have:=hi.dF b' l₂ (u b' l₂ G h4);omega
  ·subst G;rw[dh.cG] at h4;cases h4;have:=hi.dF b l₁ (u b l₁ e1 A);omega
  rw[z b e1] at h1;rw[z b' G] at E;exact hi.inj b b' o₁ o₂ l₁ l₂ h1 E (u b l₁ e1 A) (u b' l₂ G h4) h5 L
 refine⟨fun b hb=>dh.dY J l (I b hb),by simp[aE.alloc,Pos.iT],by simp,fun r F _=>heap_alloc_old w x F,?_,Z,Z,Z⟩;rintro r ⟨b,o',l',h1,E,A,rfl⟩ F
 by_cases j:b=V.next
 ·subst j;rw[dh.cG] at A;cases A;omega
 rw[z b j] at h1;exact⟨b,o',l',h1,E,u b l' j A,Z⟩
theorem Inv.alloc (hi:Inv J V w) {o:cD} {x:Obj} {l:Loc} (hl:l.dF=w.heap.size) (j:gP J l o x):
  Inv (J.with V.next l) (V.alloc o) (w.alloc x)/\eW J V w (J.with V.next l) (V.alloc o) (w.alloc x):=hi.of (hi.Ef hl j)
def aE.setObj (V:aE) (b:Pos) (o:cD):aE:={V with m:=V.m.put (some o) b}
theorem Inv.B5 (hi:Inv J V w) {b:Pos} {l:Loc} {o o':cD} {x:Obj} {w':World} (hb:V.m.get b=some o) (hl:J b=some l) (F:o.ro=false) (ab:o'.ro=false)
  (hw:w'.heap[l.dF]?=some x) (ho:gP J l o' x) (j:∀r,r≠l.dF->w'.heap[r]?=w.heap[r]?) (u:w'.heap.size=w.heap.size)
  (z:w'.tape=w.tape) (G:w'.os=w.os) (B:w'.output=w.output):
  Ab J (V.setObj b o') w'/\eW J V w J (V.setObj b o') w':=by
 have C:∀b',b'≠b->(V.setObj b o').m.get b'=V.m.get b':=fun b' h=>PT.dD _ _ _ _ h
 have aa:(V.setObj b o').m.get b=some o':=PT.dG _ _ _
 have back:∀b₁ o₁,(V.setObj b o').m.get b₁=some o₁->∃o₂,V.m.get b₁=some o₂/\(o₁.ro=true↔o₂.ro=true):=fun b₁ o₁ h=>by
  grind
 constructor
 ·refine⟨fun b' I=>?_,fun b' l' K=>by rw[u];exact hi.dF b' l' K,fun b' o₁ l₁ h1 E=>?_,fun b₁ b₂ o₁ o₂ l₁ l₂ h1 E L h4 h5 W=>?_⟩
  ·have hf:=hi.fresh b' I
   grind
  ·by_cases e:b'=b
   ·simp_all
   rw[C b' e] at h1;obtain⟨y,hy,T⟩:=hi.obj b' o₁ l₁ h1 E
   have ac:l₁.dF≠l.dF:=fun M=>by
    have:=hi.inj b' b o₁ o l₁ l h1 hb E hl M e
    simp_all
   simp_all
  obtain⟨o₁',A,Q⟩:=back b₁ o₁ h1;obtain⟨R,S,am⟩:=back b₂ o₂ E;have:=hi.inj b₁ b₂ o₁' R l₁ l₂ A S L h4 h5 W
  simp_all
 refine⟨fun _ _=>Z,nR_ _,by omega,fun r T X=>j r (fun e=>X ⟨b,o,l,hb,F,hl,e.symm⟩),?_,z,G,B⟩;rintro r ⟨b₁,o₁,l₁,h1,E,L,rfl⟩ T;obtain⟨o₁',A,Q⟩:=back b₁ o₁ h1;refine⟨b₁,o₁',l₁,A,?_,L,Z⟩
 simp_all
theorem Inv.change (hi:Inv J V w) {b:Pos} {l:Loc} {o o':cD} {x:Obj} {w':World} (hb:V.m.get b=some o) (hl:J b=some l) (C:o.ro=false) (A:o'.ro=false)
  (hw:w'.heap[l.dF]?=some x) (F:gP J l o' x) (j:∀r,r≠l.dF->w'.heap[r]?=w.heap[r]?) (u:w'.heap.size=w.heap.size)
  (z:w'.tape=w.tape) (E:w'.os=w.os) (B:w'.output=w.output):
  Inv J (V.setObj b o') w'/\eW J V w J (V.setObj b o') w':=hi.of (hi.B5 hb hl C A hw F j u z E B)
theorem Inv.Ak (hi:Inv J V w) {b:Pos} {l:Loc} {o o':cD} {x:Obj} {w':World} (hb:V.m.get b=some o) (hl:J b=some l) (C:o.ro=false)
  (hw:w'.heap[l.dF]?=some x) (ho:gP J l o' x) (u:∀r,r≠l.dF->w'.heap[r]?=w.heap[r]?) (A:w'.heap.size=w.heap.size)
  (B:w'.tape=w.tape) (G:w'.os=w.os) (E:w'.output=w.output):
  Ab J (V.setObj b o') w'/\eW J V w J (V.setObj b o') w':=by
 have j:∀b',b'≠b->(V.setObj b o').m.get b'=V.m.get b':=fun b' h=>PT.dD _ _ _ _ h
 have aa:(V.setObj b o').m.get b=some o':=PT.dG _ _ _
 have apart:∀b' o₁ l₁,b'≠b->V.m.get b'=some o₁->J b'=some l₁->l₁.dF≠l.dF:=fun b' o₁ l₁ e h1 z I=>by
  have:=hi.inj b' b o₁ o l₁ l h1 hb z hl I e
  simp_all
 constructor
 ·refine⟨fun b' K=>?_,fun b' l' L=>by rw[A];exact hi.dF b' l' L,fun b' o₁ l₁ h1 z=>?_,fun b₁ b₂ o₁ o₂ l₁ l₂ h1 z F h4 h5 Q=>?_⟩
  ·have hf:=hi.fresh b' K
   grind
  ·by_cases e:b'=b
   ·simp_all
   rw[j b' e] at h1;obtain⟨y,hy,M⟩:=hi.obj b' o₁ l₁ h1 z
   grind
  by_cases e1:b₁=b<;>by_cases R:b₂=b
  ·simp_all
  ·grind
  ·grind
  rw[j b₁ e1] at h1;rw[j b₂ R] at z;exact hi.inj b₁ b₂ o₁ o₂ l₁ l₂ h1 z F h4 h5 Q
 refine⟨fun _ _=>Z,nR_ _,by omega,fun r M S=>u r (fun e=>S ⟨b,o,l,hb,C,hl,e.symm⟩),?_,B,G,E⟩;rintro r ⟨b₁,o₁,l₁,h1,z,F,rfl⟩ M
 by_cases e:b₁=b
 ·subst e;exact⟨b₁,o,l₁,hb,C,F,Z⟩
 rw[j b₁ e] at h1;exact⟨b₁,o₁,l₁,h1,z,F,Z⟩
theorem Inv.F8 (hi:Inv J V w) {b:Pos} {l:Loc} {o o':cD} {x:Obj} {w':World} (hb:V.m.get b=some o) (hl:J b=some l) (B:o.ro=false)
  (hw:w'.heap[l.dF]?=some x) (E:gP J l o' x) (j:∀r,r≠l.dF->w'.heap[r]?=w.heap[r]?) (u:w'.heap.size=w.heap.size)
  (z:w'.tape=w.tape) (C:w'.os=w.os) (A:w'.output=w.output):
  Inv J (V.setObj b o') w'/\eW J V w J (V.setObj b o') w':=hi.of (hi.Ak hb hl B hw E j u z C A)
theorem Inv.Lv (hi:Inv J V w) {b:Pos} {l:Loc} {o o':cD} (hb:V.m.get b=some o) (hl:J b=some l) (j:o.ro=false) (u:∀x,gP J l o x->gP J l o' x):
  Inv J (V.setObj b o') w/\eW J V w J (V.setObj b o') w:=by
 obtain⟨x,hx,z⟩:=hi.obj b o l hb hl;exact hi.F8 hb hl j hx (u x z) (fun _ _=>Z) Z Z Z Z
theorem gP.GG {l:Loc} {cells:List U} {e:Nat} {x:Obj} (h:gP J l (.own cells e) x):(l.sh=0/\cells.length=l.cells)/\gP J l (.row cells e false) x:=⟨h.1,h.2⟩
theorem gP.GZ {l:Loc} {cells:List U} {e:Nat} {x:Obj} (h0:l.sh=0/\cells.length=l.cells) (h:gP J l (.row cells e false) x):gP J l (.own cells e) x:=⟨h0,h⟩
theorem Inv.own (hi:Inv J V w) {b:Pos} {l:Loc} {cells:List U} {e:Nat} (hb:V.m.get b=some (.own cells e)) (hl:J b=some l):
  (l.sh=0/\cells.length=l.cells)/\Inv J (V.setObj b (.row cells e false)) w/\eW J V w J (V.setObj b (.row cells e false)) w:=by
 obtain⟨x,hx,j⟩:=hi.obj b _ l hb hl;exact⟨j.GG.1,hi.Lv hb hl Z fun x hx=>hx.GG.2⟩
theorem Inv.setCell (hi:Inv J V w) {b:Pos} {l:Loc} {cells:List U} {e i:Nat} {v:U} {y:Value} (hb:V.m.get b=some (.row cells e false)) (hl:J b=some l)
  (aa:i<cells.length) (hv:VR J v y):
  Inv J (V.setObj b (.row (cells.set i v) e false)) (w.setCell ⟨l.dF,l.sh+i,none⟩ y)/\eW J V w J (V.setObj b (.row (cells.set i v) e false)) (w.setCell ⟨l.dF,l.sh+i,none⟩ y):=by
 obtain⟨c,fr,h1,z,A,h4,h5⟩:=hi.row hb hl
 refine hi.change hb hl Z Z (heap_setCell_same h1 (l.sh+i) y) ⟨_,fr,Z,by simpa using z,by simpa using A,fun j u hu=>?_,fun _=>h5 Z⟩
  (fun r B=>heap_setCell_other w _ _ B) (by simp) Z Z Z
 grind
def aE.drop (V:aE) (b:Pos):aE:={V with m:=V.m.put none b}
theorem Inv.Di (hi:Inv J V w) {b:Pos} {l l':Loc} {cells cells':List U} {e:Nat} {x:Obj} {w':World} (hb:V.m.get b=some (.row cells e false)) (hl:J b=some l)
  (B:l'.dF=l.dF) (hw:w'.heap[l.dF]?=some x) (ho:gP J l' (.row cells' e false) x) (z:∀r,r≠l.dF->w'.heap[r]?=w.heap[r]?) (C:w'.heap.size=w.heap.size)
  (E:w'.tape=w.tape) (Q:w'.os=w.os) (K:w'.output=w.output):
  Ab (J.with V.next l') ((V.drop b).alloc (.row cells' e false)) w'/\eW J V w (J.with V.next l') ((V.drop b).alloc (.row cells' e false)) w':=by
 have hle:=hi.wE l';have j:∀b l'',b≠V.next->(J.with V.next l') b=some l''->J b=some l'':=fun b l'' hb h=>by rwa[dh.dY J l' hb] at h
 have ac:b≠V.next:=fun e=>by subst e;rw[(hi.fresh _<|nR_ _).1] at hl;cases hl
 have R:∀b:Pos,b.num<V.next.num->b≠V.next:=fun b hb e=>by simp_all
 have F:((V.drop b).alloc (.row cells' e false)).m.get V.next=some (.row cells' e false):=PT.dG _ _ _
 have aa:∀b',b'≠V.next->((V.drop b).alloc (.row cells' e false)).m.get b'=if b'=b then none else V.m.get b':=fun b' h=>by
  show((V.m.put none b).put _ V.next).get b'=_;rw[PT.dD _ _ _ _ h,PT.lH]
 have rP:∀b' o',b'≠V.next->((V.drop b).alloc (.row cells' e false)).m.get b'=some o'->b'≠b/\V.m.get b'=some o':=fun b' o' W h=>by
  simp_all
 have apart:∀b' o' l'',b'≠b->V.m.get b'=some o'->J b'=some l''->l''.dF≠l.dF:=fun b' o' l'' G h1 A S=>by
  have:=hi.inj b' b o' _ l'' l h1 hb A hl S G;exact absurd this.2 (by simp[cD.ro])
 constructor
 ·refine⟨fun b' I=>?_,fun b' l'' L=>?_,fun b' o₁ l₁ h1 A=>?_,fun b₁ b₂ o₁ o₂ l₁ l₂ h1 A M h4 h5 h6=>?_⟩
  ·have ab:V.next.num+1<=b'.num:=by simpa [aE.alloc,aE.drop,Pos.iT] using I
   have G:b'≠V.next:=fun e=>by subst e;omega
   have hf:=hi.fresh b' oM
   grind [dh.dY]
  ·rw[C]
   by_cases e1:b'=V.next
   ·grind [dh.cG]
   exact hi.dF b' l''<|j b' l'' e1 L
  ·by_cases e1:b'=V.next
   ·subst e1;rw[F] at h1;rw[dh.cG] at A;cases h1;cases A;exact⟨x,by rw[B];exact hw,ho.mono hle⟩
   obtain⟨G,u⟩:=rP b' o₁ e1 h1;have h2':=j b' l₁ e1 A;obtain⟨y,hy,T⟩:=hi.obj b' o₁ l₁ u h2';exact⟨y,by grind,T.mono hle⟩
  by_cases e1:b₁=V.next<;>by_cases X:b₂=V.next
  ·simp_all
  ·grind [dh.cG]
  ·grind [dh.cG]
  obtain⟨_,u⟩:=rP b₁ o₁ e1 h1;obtain⟨_,h2'⟩:=rP b₂ o₂ X A;exact hi.inj b₁ b₂ o₁ o₂ l₁ l₂ u h2' (j b₁ l₁ e1 M) (j b₂ l₂ X h4) h5 h6
 refine⟨fun b' I=>dh.dY J l' (R b' I),by simp[aE.alloc,aE.drop,Pos.iT],by omega,
  fun r T W=>z r (fun e'=>W ⟨b,_,l,hb,Z,hl,e'.symm⟩),?_,E,Q,K⟩
 rintro r ⟨b₁,o₁,l₁,h1,A,M,rfl⟩ T
 by_cases e1:b₁=V.next
 ·subst e1;rw[dh.cG] at M;cases M;exact⟨b,_,l,hb,Z,hl,B.symm⟩
 obtain⟨_,u⟩:=rP b₁ o₁ e1 h1;exact⟨b₁,o₁,l₁,u,A,j b₁ l₁ e1 M,Z⟩
theorem Inv.A0 (hi:Inv J V w) {b:Pos} {l l':Loc} {cells cells':List U} {e:Nat} {x:Obj} {w':World} (hb:V.m.get b=some (.row cells e false)) (hl:J b=some l)
  (A:l'.dF=l.dF) (hw:w'.heap[l.dF]?=some x) (E:gP J l' (.row cells' e false) x) (j:∀r,r≠l.dF->w'.heap[r]?=w.heap[r]?) (u:w'.heap.size=w.heap.size)
  (z:w'.tape=w.tape) (C:w'.os=w.os) (B:w'.output=w.output):
  Inv (J.with V.next l') ((V.drop b).alloc (.row cells' e false)) w'/\eW J V w (J.with V.next l') ((V.drop b).alloc (.row cells' e false)) w':=hi.of (hi.Di hb hl A hw E j u z C B)
theorem Inv.Cu (hi:Inv J V w) (b:Pos):Ab J (V.drop b) w/\eW J V w J (V.drop b) w:=by
 have rP:∀b' o',(V.drop b).m.get b'=some o'->V.m.get b'=some o':=fun b' o' h=>by
  have h':(V.m.put none b).get b'=some o':=h
  grind [PT.lH]
 constructor
 ·refine⟨fun b' j=>⟨(hi.fresh b' j).1,?_⟩,hi.dF,fun b' o l h1 u=>hi.obj b' o l (rP b' o h1) u,fun b₁ b₂ o₁ o₂ l₁ l₂ h1 u=>hi.inj b₁ b₂ o₁ o₂ l₁ l₂ (rP b₁ o₁ h1) (rP b₂ o₂ u)⟩;show(V.m.put none b).get b'=none;rw[PT.lH];split
  ·rfl
  exact(hi.fresh b' j).2
 refine⟨fun _ _=>Z,nR_ _,nR_ _,fun _ _ _=>Z,?_,Z,Z,Z⟩;rintro r ⟨b₁,o₁,l₁,h1,u,z,rfl⟩ hr;exact⟨b₁,o₁,l₁,rP b₁ o₁ h1,u,z,Z⟩
theorem Inv.forget (hi:Inv J V w) (b:Pos):Inv J (V.drop b) w/\eW J V w J (V.drop b) w:=hi.of (hi.Cu b)
end
def OF (k:IntKind) (n:Int):Bool:=
 match k,n with
 | .i8,.ofNat a=>Nat.ble a 127 | .i8,.negSucc a=>Nat.ble a 127
 | .i16,.ofNat a=>Nat.ble a 32767 | .i16,.negSucc a=>Nat.ble a 32767
 | .i32,.ofNat a=>Nat.ble a 2147483647 | .i32,.negSucc a=>Nat.ble a 2147483647
 | .i64,.ofNat a=>Nat.ble a 9223372036854775807 | .i64,.negSucc a=>Nat.ble a 9223372036854775807
 | .u8,.ofNat a=>Nat.ble a 255 | .u16,.ofNat a=>Nat.ble a 65535
 | .u32,.ofNat a=>Nat.ble a 4294967295 | .u64,.ofNat a=>Nat.ble a 18446744073709551615
 | _,_=>false
def wr (k:IntKind) (n:Int):Int:=bif OF k n then n else k.wrap n
def b9 (x y:Int):Bool:=
 match x,y with
 | .ofNat a,.ofNat b=>Nat.ble (Nat.succ a) b
 | .negSucc _,.ofNat _=>true
 | .ofNat _,.negSucc _=>false
 | .negSucc a,.negSucc b=>Nat.ble (Nat.succ b) a
def H (x y:Int):Bool:=
 match x,y with
 | .ofNat a,.ofNat b=>Nat.beq a b
 | .negSucc a,.negSucc b=>Nat.beq a b
 | _,_=>false
def gK (s t:List Nat):Bool:=
 List.rec (motive:=fun _=>List Nat->Bool) (fun t=>List.rec (motive:=fun _=>Bool) true (fun _ _ _=>false) t)
  (fun x _ ih t=>List.rec (motive:=fun _=>Bool) false (fun y u _=>bif Nat.beq x y then ih u else false) t) s t
def Mx (s t:List Nat):Bool:=
 List.rec (motive:=fun _=>List Nat->Bool) (fun t=>List.rec (motive:=fun _=>Bool) false (fun _ _ _=>true) t)
  (fun x _ ih t=>List.rec (motive:=fun _=>Bool) false (fun y u _=>bif Nat.ble (Nat.succ x) y then true else bif Nat.beq x y then ih u else false) t) s t
def s6:IntKind->IntKind->Bool
 | .i8,.i8 | .i16,.i16 | .i32,.i32 | .i64,.i64 | .u8,.u8 | .u16,.u16 | .u32,.u32 | .u64,.u64=>true
 | _,_=>false
def oK:Value->Option U
 | .bool b=>some (.bool b)
 | .int k n=>some (.int k n)
 | .string s=>some (.str<|s.data.toList.map UInt8.toNat)
 | .pointer none=>some .gR
 | .slice none 0 0=>some .az
 | .map none=>some .iL
 | .nilFunc=>some .nilFunc
 | .nilIface=>some .nilIface
 | _=>none
def p6:Value->Option U
 | .agg cs=>(dB oK cs.toList).map .agg
 | .tuple cs=>(dB oK cs.toList).map .tuple
 | v=>oK v
def vG (P:Program) (t:TypeId):Option TypeInfo:=
 match nth P.types.toList t with
 | some i=>some i
 | none=>P.info? t
def oZ (P:Program) (t:TypeId):Option TypeDesc:=
 match vG P t with
 | some {desc:=.named _ u,..}=>(vG P u).map (·.desc)
 | some i=>some i.desc
 | none=>none
theorem pR (P:Program) (t:TypeId):vG P t=P.info? t:=by
 unfold vG;rw[fG,aT_];cases h:P.types[t]? with
 | none=>rfl
 | some i=>
  have hlt:=(aS_.1 h).1;unfold Tables.info?;rw[if_pos hlt,h]
theorem oj (P:Program) (t:TypeId):oZ P t=P.underlying t:=by
 grind [oZ,Program.underlying,pR]
def dZ (P:Program) (t:TypeId):Option (Option Nat):=
 match oZ P t with
 | some (.struct _) | some (.array _ _)=>some (some (((vG P t).map (·.size)).getD 0))
 | some _=>some none
 | none=>none
theorem BM (P:Program) (t:TypeId):dZ P t=match P.underlying t with
 | some (.struct _) | some (.array _ _)=>some (some<|P.cellsOf t)
 | some _=>some none
 | none=>none:=by
 unfold dZ;rw[oj,pR];rfl
def cU:U->Option (List U)
 | .agg cs=>some cs
 | .tuple _=>none
 | .any=>none
 | v=>some [v]
def iH:U->Bool
 | .agg _ | .tuple _ | .any=>false
 | _=>true
def cP (l:List U):Bool:=List.rec (motive:=fun _=>Bool) true (fun v _ r=>bif iH v then r else false) l
def lJ (cs l:List U):List U:=
 List.rec (motive:=fun _=>List U->List U) (fun l=>l) (fun c _ ih l=>List.rec (motive:=fun _=>List U) [] (fun _ l _=>c::ih l) l) cs l
def ed (cs l:List U) (off:Nat):List U:=
 List.rec (motive:=fun _=>Nat->List U) (fun _=>[]) (fun x l ih off=>Nat.rec (motive:=fun _=>List U) (lJ cs (x::l)) (fun m _=>x::ih m) off) l off
def GI (P:Program) (t:TypeId) (cs:List U) (off:Nat):Option U:=
 match dZ P t with
 | some (some n)=>some (.agg<|takeN (dW cs off) n)
 | some none=>nth cs off
 | none=>none
def jI (place:Nat->Option (Nat×Nat)) (ev:Operand->Option U) (parts:List (Nat×Operand)) (cells:List U):Option (List U):=
 List.rec (motive:=fun _=>List U->Option (List U)) (fun cells=>some cells)
  (fun p _ ih cells=>
   match place p.1,(ev p.2).bind cU with
   | some (off,size),some vs=>bif Nat.beq (du vs) size && Nat.ble (off+size) (du cells) then ih (ed vs cells off) else none
   | _,_=>none) parts cells
def fl (P:Program) (t:TypeId):Option U:=(P.info? t).bind fun i=>i.zero.bind p6
def fp (cs:List U) (n:Nat):List U:=Nat.rec (motive:=fun _=>List U) [] (fun _ r=>gL cs r) n
def structOf (P:Program) (t:TypeId):Option (Array Field):=
 match oZ P t with
 | some (.struct fs)=>some fs
 | _=>none
def sr:U->U->Option Bool
 | .bool a,.bool b=>some (bif a then b else(bif b then false else true))
 | .int j a,.int k b=>bif s6 j k then some (H a b) else none
 | .str a,.str b=>some (gK a b)
 | _,_=>none
def jn (P:Program) (fs:List Field) (xs ys:List U):Option Bool:=
 List.rec (motive:=fun _=>Option Bool) (some true)
  (fun f _ ih=>
   match P.underlying f.type,nth xs f.offset,nth ys f.offset with
   | some .bool,some (.bool a),some (.bool b)=>bif (bif a then b else(bif b then false else true)) then ih else some false
   | some (.int _),some (.int j a),some (.int k b)=>bif s6 j k then(bif H a b then ih else some false) else none
   | some .string,some (.str a),some (.str b)=>bif gK a b then ih else some false
   | _,_,_=>none) fs
def lI (fs:List Field):Bool:=List.rec (motive:=fun _=>Bool) true (fun f _ r=>bif f.name == "_" then false else r) fs
def xh (xs ys:List U):Option Bool:=
 List.rec (motive:=fun _=>List U->Option Bool) (fun ys=>match ys with | []=>some true | _=>none)
  (fun x _ ih ys=>match x,ys with
   | .int j a,.int k b::r=>bif s6 j k then(bif H a b then ih r else some false) else none
   | _,_=>none) xs ys
def su (P:Program) (e:TypeId):Bool:=
 match P.underlying e,P.info? e with
 | some (.int _),some i=>Nat.beq i.size 1
 | _,_=>false
def eqFields (P:Program) (fs:List Field) (xs ys:List U):Option Bool:=
 List.rec (motive:=fun _=>Option Bool) (some true)
  (fun f _ ih=>
   match P.underlying f.type,nth xs f.offset,nth ys f.offset with
   | some .bool,some (.bool a),some (.bool b)=>bif (bif a then b else(bif b then false else true)) then ih else some false
   | some (.int _),some (.int j a),some (.int k b)=>bif s6 j k then(bif H a b then ih else some false) else none
   | some .string,some (.str a),some (.str b)=>bif gK a b then ih else some false
   | some (.struct gs),_,_=>bif P.stoodInHeld f.type || !lI gs.toList then none else match dZ P f.type with
    | some (some n)=>match jn P gs.toList (takeN (dW xs f.offset) n) (takeN (dW ys f.offset) n) with
     | some true=>ih
     | some false=>some false
     | none=>none
    | _=>none
   | some (.array m e),_,_=>bif su P e then(match dZ P f.type with
    | some (some n)=>bif Nat.beq n m && (Nat.beq (du<|takeN (dW xs f.offset) n) m && Nat.beq (du<|takeN (dW ys f.offset) n) m) then(match xh (takeN (dW xs f.offset) n) (takeN (dW ys f.offset) n) with
     | some true=>ih
     | some false=>some false
     | none=>none) else none
    | _=>none) else none
   | _,_,_=>none) fs
def EG (P:Program) (t:TypeId) (x y:U):Option Bool:=
 match x,y with
 | .agg xs,.agg ys=>
  match structOf P t with
  | some fs=>bif P.eqGuardType P.depth t || P.stoodInHeld t || !lI fs.toList then none else eqFields P fs.toList xs ys
  | none=>none
 | .gR,.gR=>match P.underlying t with | some (.pointer _)=>some true | _=>none
 | .ptr _ _,.gR | .gR,.ptr _ _=>match P.underlying t with | some (.pointer _)=>some false | _=>none
 | .ptr b o,.ptr b' o'=>match P.underlying t with | some (.pointer u)=>bif Nat.beq b b' && (Nat.beq o o' && (P.info? u).isSome) then some true else none | _=>none
 | .nilIface,.iface _ _ | .iface _ _,.nilIface=>match P.underlying t with | some (.interface _)=>some false | _=>none
 | .az,.az=>match P.underlying t with | some (.slice _)=>some true | _=>none
 | .slice _ _ _ _,.az | .az,.slice _ _ _ _=>match P.underlying t with | some (.slice _)=>some false | _=>none
 | .nilFunc,.nilFunc=>match P.underlying t with | some (.func _ _ _)=>some true | _=>none
 | .func _ _ _,.nilFunc | .nilFunc,.func _ _ _=>match P.underlying t with | some (.func _ _ _)=>some false | _=>none
 | .iL,.iL=>match P.underlying t with | some (.map _ _)=>some true | _=>none
 | .map _,.iL | .iL,.map _=>match P.underlying t with | some (.map _ _)=>some false | _=>none
 | _,_=>none
def mW (P:Program) (op:BinOp) (t:TypeId) (x y:U):Option U:=
 match op with
 | .eql=>match EG P t x y with | some b=>some (.bool b) | none=>none
 | .neq=>match EG P t x y with | some b=>some (.bool (bif b then false else true)) | none=>none
 | _=>none
def sU (P:Program) (op:BinOp) (t:TypeId) (x y:U):Option U:=
 match x,y with
 | .int k a,.int k' b=>
  match op with
  | .shl=>bif b9 b 0 then none else some (.int k<|wr k (a*2 ^ (min b.toNat k.bits)))
  | .shr=>bif b9 b 0 then none else some (.int k<|a.fdiv (2 ^ (min b.toNat k.bits)))
  | op=>
   bif s6 k k' then
    match op with
    | .add=>some (.int k<|wr k<|Int.add a b)
    | .sub=>some (.int k<|wr k<|Int.sub a b)
    | .mul=>some (.int k<|wr k<|Int.mul a b)
    | .quo=>bif H b 0 then none else some (.int k<|wr k<|a.tdiv b)
    | .rem=>bif H b 0 then none else some (.int k<|a.tmod b)
    | .and=>some (.int k<|k.wrap (BitVec.ofInt k.bits a &&& BitVec.ofInt k.bits b).toNat)
    | .or=>some (.int k<|k.wrap (BitVec.ofInt k.bits a ||| BitVec.ofInt k.bits b).toNat)
    | .xor=>some (.int k<|k.wrap (BitVec.ofInt k.bits a ^^^ BitVec.ofInt k.bits b).toNat)
    | .andNot=>some (.int k<|k.wrap (BitVec.ofInt k.bits a &&& ~~~(BitVec.ofInt k.bits b)).toNat)
    | .eql=>some (.bool<|H a b)
    | .neq=>some (.bool (bif H a b then false else true))
    | .lss=>some (.bool<|b9 a b)
    | .leq=>some (.bool (bif b9 b a then false else true))
    | .gtr=>some (.bool<|b9 b a)
    | .geq=>some (.bool (bif b9 a b then false else true))
    | _=>none
   else none
 | .str a,.str b=>
  match op with
  | .add=>bif Nat.ble (du a+du b) 1152921504606846976 then some (.str<|gL a b) else none
  | .eql=>some (.bool<|gK a b)
  | .neq=>some (.bool (bif gK a b then false else true))
  | .lss=>some (.bool<|Mx a b)
  | .gtr=>some (.bool<|Mx b a)
  | .leq=>some (.bool (bif Mx b a then false else true))
  | .geq=>some (.bool (bif Mx a b then false else true))
  | _=>none
 | .bool a,.bool b=>
  match op,P.underlying t with
  | .eql,some .bool=>some (.bool (bif a then b else(bif b then false else true)))
  | .neq,some .bool=>some (.bool (bif a then(bif b then false else true) else b))
  | _,_=>none
 | x,y=>mW P op t x y
def fh (ev:Operand->Option U) (x:Operand) (y:Nat):Option Nat:=
 match ev x with
 | some (.int _ (.ofNat i))=>bif Nat.ble i y then some i else none
 | _=>none
def dE (ev:Operand->Option U) (len cap:Nat) (lo hi:Option Operand):Option (Nat×Nat):=
 match(match hi with | some h=>fh ev h cap | none=>some len) with
 | some h=>match(match lo with | some l=>fh ev l h | none=>some 0) with
  | some l=>some (l,h)
  | none=>none
 | none=>none
def cut (P:Program) (e:TypeId) (b:Pos) (off l h m:Nat):Option U:=
 match P.info? e with
 | some j=>some (.slice b (bif Nat.beq m l then off else off+l*j.size) (h-l) (.known (m-l)))
 | none=>none
def cutAt (P:Program) (ev:Operand->Option U) (e:TypeId) (b:Pos) (off len cap:Nat) (lo hi mx:Option Operand):Option U:=
 match mx with
 | none=>match dE ev len cap lo hi with
  | some (l,h)=>cut P e b off l h cap
  | none=>none
 | some x=>match fh ev x cap,hi with
  | some m,some _=>match dE ev m m lo hi with
   | some (l,h)=>cut P e b off l h m
   | none=>none
  | _,_=>none
def gF (P:Program) (ev:Operand->Option U) (t:TypeId) (x:Operand) (lo hi mx:Option Operand):Option U:=
 match P.underlying t,ev x with
 | some (.slice e),some (.slice b off len (.known cap))=>cutAt P ev e b off len cap lo hi mx
 | some (.slice e),some (.slice b off len (.upto sz))=>
  match mx with
  | none=>match dE ev len len lo hi,P.info? e with
   | some (l,h),some j=>bif Nat.beq j.size sz then some (.slice b (off+l*sz) (h-l) (.upto sz)) else none
   | _,_=>none
  | some x=>bif Nat.beq len 0 then none else cutAt P ev e b off len len lo hi (some x)
 | some (.slice e),some (.slice b off len (.least a sz))=>
  match mx with
  | none=>match dE ev len a lo hi,P.info? e with
   | some (l,h),some j=>bif Nat.beq j.size sz && (Nat.ble len a && Nat.ble (Nat.succ l) a) then some (.slice b (off+l*sz) (h-l) (.least (a-l) sz)) else none
   | _,_=>none
  | some _=>none
 | some (.slice e),some .az=>
  match mx with
  | none=>match dE ev 0 0 lo hi,P.info? e with | some _,some _=>some .az | _,_=>none
  | some _=>none
 | some (.array n e),some (.ptr b off)=>cutAt P ev e b off n n lo hi mx
 | some (.pointer arr),some (.ptr b off)=>
  match P.underlying arr with
  | some (.array n e)=>cutAt P ev e b off n n lo hi mx
  | _=>none
 | some .string,some (.str s)=>
  match mx with
  | none=>match dE ev (du s) (du s) lo hi with
   | some (l,h)=>some (.str<|takeN (dW s l) (h-l))
   | none=>none
  | some _=>none
 | _,_=>none
def yS (P:Program) (t:TypeId) (x:U):Option Nat:=
 match P.underlying t,x with
 | some .string,.str s=>some (du s)
 | some (.array n _),_=>some n
 | some (.slice _),.slice _ _ n _=>some n
 | some (.slice _),.az=>some 0
 | some (.map _ _),.iL=>some 0
 | _,_=>none
def QF:U->Option U
 | .slice _ _ _ (.known c)=>some (.int .i64<|Int.ofNat c)
 | .slice _ _ _ (.least a _)=>some (.ow a)
 | .az=>some (.int .i64 0)
 | _=>none
def Jo (P:Program) (op:BinOp) (t:TypeId) (x y:U):Option U:=
 match y with
 | .ow a=>match op,x with
  | .gtr,.int .i64 (.ofNat n)=>bif Nat.ble n a then some (.bool false) else none
  | _,_=>none
 | y=>sU P op t x y
def zy:Operand->Bool
 | .const _=>true
 | _=>false
def KS (P:Program) (o:BinOp) (t:TypeId) (k:Bool):Option U:=
 bif k then(match P.underlying t with
  | some (.interface _)=>match o with
   | .eql=>some (.bool true)
   | .neq=>some (.bool false)
   | _=>none
  | _=>none) else none
def r8 (P:Program) (k:Bool) (o:BinOp) (t:TypeId) (x y:U):Option U:=
 match x with
 | .nilIface=>match y with
  | .nilIface=>KS P o t k
  | y=>Jo P o t .nilIface y
 | x=>Jo P o t x y
def nL (ev:Operand->Option U) (l:List Operand):Option (List U):=dB ev l
def PI:U->U->Option U
 | .int k x,.int k' y=>bif s6 k k' then some (.int k (bif b9 y x then y else x)) else none
 | _,_=>none
def PH:U->U->Option U
 | .int k x,.int k' y=>bif s6 k k' then some (.int k (bif b9 x y then y else x)) else none
 | _,_=>none
def dI (P:Program) (ev:Operand->Option U):Op->Option U
 | .move x | .assign x=>ev x
 | .pick c a b=>match ev c with | some (.bool true)=>ev a | some (.bool false)=>ev b | _=>none
 | .build t parts=>
  match P.underlying t,(fl P t).bind cU with
  | some (.struct fs),some zero=>match dB (fun f:Field=>(P.info? f.type).map fun j=>(f.offset,j.size)) fs.toList with
   | some places=>(jI (nth places) ev parts.toList zero).map .agg
   | none=>none
  | some (.array _ e),some zero=>match P.info? e with
   | some j=>(jI (fun i=>some (i*j.size,j.size)) ev parts.toList zero).map .agg
   | none=>none
  | _,_=>none
 | .nilCheck x=>match ev x with
  | some .gR | some .nilIface | some .nilFunc | some (.yield _) | some .any | some (.tok _)=>none
  | v=>v
 | .binOp op t x y _=>match ev x,ev y with | some a,some b=>r8 P (zy x || zy y) op t a b | _,_=>none
 | .unOp op _ x=>match op,ev x with
  | .not,some (.bool b)=>some (.bool (bif b then false else true))
  | .neg,some (.int k n)=>some (.int k<|wr k<|Int.sub 0 n)
  | .xor,some (.int k n)=>some (.int k<|k.wrap (BitVec.ofInt k.bits (if k.signed then-1 else k.max) ^^^ BitVec.ofInt k.bits n).toNat)
  | _,_=>none
 | .convert src dst x=>match P.underlying src,P.underlying dst,ev x with
  | some (.int _),some (.int k),some (.int _ n)=>some (.int k<|wr k n)
  | some .string,some .string,some (.str s)=>some (.str s)
  | _,_,_=>none
 | .makeInterface t x=>match P.underlying t,ev x with
  | some (.interface _),_=>none
  | some _,some v=>some (.iface t v)
  | _,_=>none
 | .makeFunc fn first captured=>match fn,nL ev first.toList,nL ev captured.toList with
  | .func f,some a,some b=>some (.func f a b)
  | _,_,_=>none
 | .slice t x lo hi mx=>gF P ev t x lo hi mx
 | .fieldAddr s x i=>match structOf P s,ev x with
  | some fs,some (.ptr b off)=>match fs[i]? with
   | some f=>match P.info? f.type with
    | some j=>bif Nat.beq j.size 0 then none else some (.ptr b (off+f.offset))
    | none=>none
   | none=>none
  | _,_=>none
 | .field t x i=>match structOf P t,ev x with
  | some fs,some (.agg cs)=>match fs[i]? with
   | some f=>GI P f.type cs f.offset
   | none=>none
  | _,_=>none
 | .indexAddr t x i=>match P.underlying t,ev x,ev i with
  | some (.slice e),some (.slice b off len _),some (.int _ (.ofNat i))=>
   match P.info? e with
   | some j=>bif Nat.ble (Nat.succ i) len then some (.ptr b (off+i*j.size)) else none
   | none=>none
  | some (.array n e),some (.ptr b off),some (.int _ (.ofNat i))=>
   match P.info? e with
   | some j=>bif Nat.ble (Nat.succ i) n then some (.ptr b (off+i*j.size)) else none
   | none=>none
  | _,_,_=>none
 | .index t x i=>match P.underlying t,ev x,ev i with
  | some (.array n e),some (.agg cs),some (.int _ (.ofNat i))=>bif Nat.ble (Nat.succ i) n then(match P.info? e with | some j=>GI P e cs (i*j.size) | none=>none) else none
  | some .string,some (.str s),some (.int _ (.ofNat i))=>match nth s i with | some b=>some (.int .u8<|Int.ofNat b) | none=>none
  | _,_,_=>none
 | .extract x i=>match ev x with
  | some (.tuple vs)=>nth vs i
  | _=>none
 | .typeAssert x _ t ok=>match P.underlying t,ev x with
  | some (.interface _),_=>none
  | some _,some (.iface u v)=>bif Nat.beq u t then some (bif ok then .tuple [v,.bool true] else v) else(bif ok then(fl P t).map fun z=>.tuple [z,.bool false] else none)
  | some _,some .nilIface=>bif ok then(fl P t).map fun z=>.tuple [z,.bool false] else none
  | _,_=>none
 | .call c=>match c.callee with
  | .builtin .len=>match c.argTypes[0]?,c.args.toList with
   | some t,[x]=>match ev x with | some v=>(yS P t v).map fun n=>.int .i64 (Int.ofNat n) | none=>none
   | _,_=>none
  | .builtin .cap=>match c.argTypes[0]?,c.args.toList with
   | some t,[x]=>match P.underlying t,ev x with | some (.slice _),some v=>QF v | _,_=>none
   | _,_=>none
  | .builtin .min=>match c.args.toList with
   | [x,y]=>(match ev x,ev y with | some a,some b=>PI a b | _,_=>none)
   | _=>none
  | .builtin .max=>match c.args.toList with
   | [x,y]=>(match ev x,ev y with | some a,some b=>PH a b | _,_=>none)
   | _=>none
  | _=>none
 | _=>none
def plainKey (P:Program) (t:TypeId):Bool:=
 match P.underlying t with
 | some (.int _) | some .string | some .bool=>true
 | some (.struct fs)=>fs.toList.all fun f=>match P.underlying f.type with
  | some (.int _) | some .string | some .bool=>true
  | some (.struct gs)=>gs.toList.all fun g=>match P.underlying g.type with
   | some (.int _) | some .string | some .bool=>true
   | _=>false
  | some (.array _ e)=>su P e
  | _=>false
 | _=>false
def pj (P:Program) (t:TypeId) (x y:U):Option Bool:=
 match P.underlying t,x,y with
 | some (.int _),.int j a,.int k b=>bif s6 j k then some (H a b) else none
 | some .string,.str a,.str b=>some (gK a b)
 | some .bool,.bool a,.bool b=>some (bif a then b else(bif b then false else true))
 | some (.struct _),.agg xs,.agg ys=>EG P t (.agg xs) (.agg ys)
 | _,_,_=>none
def mj (P:Program) (t:TypeId) (x:U):Bool:=
 match P.underlying t,x with
 | some (.struct fs),.agg xs=>fs.toList.all fun f=>match P.underlying f.type with
  | some (.struct gs)=>match dZ P f.type with
   | some (some n)=>gs.toList.all fun g=>(nth (takeN (dW xs f.offset) n) g.offset).isSome
   | _=>false
  | some (.array m _)=>match dZ P f.type with
   | some (some n)=>Nat.beq n m && Nat.beq (du<|takeN (dW xs f.offset) n) m
   | _=>false
  | _=>(nth xs f.offset).isSome
 | some (.struct _),_=>false
 | _,_=>true
def pg (P:Program) (t:TypeId) (k:U) (es:List fw):Nat->Option (Option (Nat×U)):=
 List.rec (motive:=fun _=>Nat->Option (Option (Nat×U))) (fun _=>some none)
  (fun e _ ih i=>match pj P t k e.key with
   | some true=>some (some (i,e.val))
   | some false=>ih (Nat.succ i)
   | none=>none) es
def sC (P:Program) (u:Option TypeId) (V:aE) (x:Option U):Option U:=
 match x with
 | some (.ptr b off)=>match V.m.get b with
  | some (.own cells e)=>match u with
   | some u=>bif liesAt P P.depth e (du cells/P.cellsOf e) off u 1 then some (.ptr b off) else none
   | none=>bif Nat.ble (Nat.succ off) (du cells) then some (.ptr b off) else none
  | _=>none
 | _=>none
def y7:U->Option Nat
 | .int .u8 (.ofNat n)=>bif Nat.ble n 255 then some n else none
 | _=>none
def gq (P:Program) (ev:Operand->Option U) (V:aE):Op->Option U
 | .load t x=>match ev x with
  | some (.ptr b off)=>match V.m.get b with
   | some (.row cells _ _)=>match dZ P t with
    | some (some n)=>bif Nat.ble (off+n) (du cells) then some (.agg<|takeN (dW cells off) n) else none
    | some none=>nth cells off
    | none=>none
   | some (.own cells _)=>match dZ P t with
    | some (some n)=>bif Nat.ble (off+n) (du cells) then some (.agg<|takeN (dW cells off) n) else none
    | some none=>nth cells off
    | none=>none
   | _=>none
  | _=>none
 | .lookup t x i ok=>match P.underlying t,ev i with
  | some (.map kt et),some k=>bif plainKey P kt && mj P kt k then
    match(match ev x with
     | some .iL=>some []
     | some (.map b)=>match V.m.get b with | some (.map es _)=>some es | _=>none
     | _=>none) with
    | some es=>match pg P kt k es 0,fl P et with
     | some (some (_,v)),some _=>some (bif ok then .tuple [v,.bool true] else v)
     | some none,some z=>some (bif ok then .tuple [z,.bool false] else z)
     | _,_=>none
    | none=>none
   else none
  | _,_=>none
 | .call c=>match c.callee with
  | .builtin .len=>match c.argTypes[0]?,c.args.toList with
   | some t,[x]=>match P.underlying t,ev x with
    | some (.map _ _),some (.map b)=>match V.m.get b with
     | some (.map es _)=>some (.int .i64<|Int.ofNat<|du es)
     | _=>none
    | some (.map _ _),some .iL=>some (.int .i64 0)
    | _,_=>none
   | _,_=>none
  | _=>none
 | .convert src dst x=>match P.underlying src,P.underlying dst with
  | some (.slice e),some .string=>match P.underlying e,ev x with
   | some (.int .u8),some .az=>some (.str [])
   | some (.int .u8),some (.slice b off len _)=>bif Nat.beq len 0 then some (.str []) else match V.m.get b with
    | some (.row cells _ _)=>bif Nat.ble (off+len) (du cells) then(match dB y7 (takeN (dW cells off) len) with | some s=>some (.str s) | none=>none) else none
    | _=>none
   | _,_=>none
  | some (.pointer t),some .unsafePointer=>match P.info? t with
   | some j=>bif Nat.beq j.size 0 then none else sC P none V (ev x)
   | none=>none
  | some .unsafePointer,some (.pointer u)=>bif (P.info? u).isSome then sC P (some u) V (ev x) else none
  | _,_=>none
 | _=>none
inductive Mk where
 | ptr
 | slice (len cap:Nat)
 | map
def Mk.of:Mk->Pos->U
 | .ptr,b=>.ptr b 0
 | .slice len cap,b=>.slice b 0 len (.known cap)
 | .map,b=>.map b
def tJ (P:Program) (e:TypeId):Bool:=
 match P.underlying e with
 | some (.struct fs)=>match fs[0]? with
  | some f=>match P.underlying f.type with
   | some (.pointer t)=>Nat.beq t e
   | _=>false
  | none=>false
 | _=>false
def fy (P:Program) (ev:Operand->Option U):Op->Option (cD×Mk)
 | .alloc e=>match(fl P e).bind cU with
  | some cs=>some (bif tJ P e then .own cs e else .row cs e false,.ptr)
  | none=>none
 | .box e x=>match(ev x).bind cU with
  | some cs=>some (.row cs e false,.ptr)
  | none=>none
 | .buildSlice t len parts=>match P.underlying t with
  | some (.slice e)=>match P.info? e,(fl P e).bind cU with
   | some j,some z=>
    bif Nat.beq (du z) j.size && Nat.ble (len*j.size) 16777216 && Nat.ble 1 j.size then
     match jI (fun i=>some (i*j.size,j.size)) ev parts.toList (fp z len) with
     | some cs=>some (.row cs e false,.slice len len)
     | none=>none
    else none
   | _,_=>none
  | _=>none
 | .makeSlice t l c=>match P.underlying t,ev l,ev c with
  | some (.slice e),some (.int _ (.ofNat l)),some (.int _ (.ofNat c))=>match P.info? e,(fl P e).bind cU with
   | some j,some z=>
    bif Nat.ble l c && Nat.ble (j.bytes*c) 1048576 && Nat.ble c 1048576 && Nat.beq (du z) j.size && Nat.ble 1 j.size then some (.row (fp z c) e false,.slice l c) else none
   | _,_=>none
  | _,_,_=>none
 | .makeMap _ none=>some (.map [] 0,.map)
 | .makeMap t (some r)=>match P.underlying t,ev r with
  | some (.map _ _),some (.int _ _)=>some (.map [] 0,.map)
  | _,_=>none
 | _=>none
theorem bE {c:Bool} {α:Type} {x y:α}:(bif c then x else y)=if c=true then x else y:=by cases c<;>rfl
theorem vX (k:IntKind) (n:Int) (h:OF k n=true):k.wrap n=n:=by
 cases k<;>cases n with
 | ofNat a=>simp only[OF,nE_] at h;simp only[IntKind.wrap,IntKind.bits,IntKind.signed];simp;omega
 | negSucc a=>first | (simp only[OF,nE_] at h;simp only[IntKind.wrap,IntKind.bits,IntKind.signed];simp;omega) | (simp[OF] at h)
theorem z8 (k:IntKind) (n:Int):wr k n=k.wrap n:=by
 grind [wr,vX]
theorem fm (x y:Int):b9 x y=decide (x<y):=by
 cases x<;>cases y<;>simp only[b9]<;>(rw[Bool.eq_iff_iff];simp[nE_];try omega)
theorem cW (x y:Int):H x y=decide (x=y):=by
 cases x<;>cases y<;>simp only[H]<;>(rw[Bool.eq_iff_iff];simp;try omega)
theorem pK {j k:IntKind} (h:s6 j k=true):j=k:=by cases j<;>cases k<;>first | rfl | (simp[s6] at h)
theorem lk:∀(s t:List Nat),gK s t=decide (s=t)
 | [],[]=>by simp[gK]
 | [],_::_=>by simp[gK]
 | _::_,[]=>by simp[gK]
 | x::s,y::t=>by
  show(bif Nat.beq x y then gK s t else false)=_;rw[lk s t,Bool.eq_iff_iff]
  simp_all
theorem KH:∀(s t:List UInt8),Mx (s.map UInt8.toNat) (t.map UInt8.toNat)=Op.bytesLess s t
 | [],[]=>by simp[Mx,Op.bytesLess]
 | [],_::_=>by simp[Mx,Op.bytesLess]
 | _::_,[]=>by simp[Mx,Op.bytesLess]
 | x::s,y::t=>by
  show(bif Nat.ble (Nat.succ x.toNat) y.toNat then true else bif Nat.beq x.toNat y.toNat then Mx (s.map UInt8.toNat) (t.map UInt8.toNat) else false)=_;rw[KH s t];simp only[Op.bytesLess]
  have e1:Nat.ble (Nat.succ x.toNat) y.toNat=decide (x<y):=by
   rw[Bool.eq_iff_iff,nE_];simp[UInt8.lt_iff_toNat_lt];omega
  have e2:Nat.beq x.toNat y.toNat=(x == y):=by
   rw[Bool.eq_iff_iff,Nat.beq_eq];simp[<-UInt8.toNat_inj]
  simp_all
theorem rO:∀{x y:List UInt8},x.map UInt8.toNat=y.map UInt8.toNat->x=y
 | [],[],_=>rfl
 | [],_::_,h=>by simp at h
 | _::_,[],h=>by simp at h
 | a::x,b::y,h=>by
  simp only[List.map_cons,List.cons.injEq] at h;rw[UInt8.toNat_inj.1 h.1,rO h.2]
theorem og {s t:List Nat} {x y:ByteArray} (h:gG s x) (h':gG t y):gK s t=(x.toList == y.toList):=by
 unfold gG at h h';subst h;subst h';rw[lk,ByteArray.toList_eq,ByteArray.toList_eq,Bool.eq_iff_iff];simp only[decide_eq_true_eq,beq_iff_eq];exact⟨rO,fun h=>by rw[h]⟩
theorem zY {s t:List Nat} {x y:ByteArray} (h:gG s x) (h':gG t y):Mx s t=Op.bytesLess x.toList y.toList:=by
 grind [gG,KH,ByteArray.toList_eq]
theorem jy {s:List Nat} {x:ByteArray} (h:gG s x):du s=x.size:=by
 unfold gG at h;subst h;rw[bY,lM_,Array.length_toList];rfl
theorem info_of_underlying {P:Program} {t:TypeId} {d:TypeDesc} (h:P.underlying t=some d):∃i,P.info? t=some i:=by
 unfold Program.underlying at h
 grind
theorem sk {P:Program} {t:TypeId} {i:TypeInfo} (h:P.info? t=some i):P.cellsOf t=i.size:=by simp[Program.cellsOf,h]
theorem ya:∀(cs l:List U),cs.length<=l.length->lJ cs l=cs++l.drop cs.length
 | [],l,_=>by simp[lJ]
 | c::cs,[],h=>by simp at h
 | c::cs,x::l,h=>by
  show c::lJ cs l=_;rw[ya cs l (by simpa using h)];simp
theorem uW (cs:List U):∀(l:List U) (off:Nat),off+cs.length<=l.length->ed cs l off=l.take off++cs++l.drop (off+cs.length)
 | [],off,h=>by
  have:cs= []:=eN_ (by simp only[List.length_nil] at h;omega);subst this;simp[ed]
 | x::l,0,h=>by
  show lJ cs (x::l)=_;rw[ya _ _ (by simpa using h)];simp
 | x::l,off+1,h=>by
  show x::ed cs l off=_;rw[uW cs l off (by simp at h;omega)];rw[show off+1+cs.length=(off+cs.length)+1 by omega];simp
theorem r4:∀{l:List U},cP l=true->∀v∈l,iH v=true
 | [],_,v,hv=>by simp at hv
 | x::l,h,v,hv=>by
  have h':(bif iH x then cP l else false)=true:=h;cases hx:iH x with
  | false=>rw[hx] at h';simp at h'
  | true=>
   rw[hx] at h';cases hv with
   | head=>exact hx
   | tail _ hm=>exact r4 h' v hm
theorem oE {J:dh} {v:U} {x:Value} (h:iH v=true) (hv:VR J v x):x.oneCell'=true:=by
 cases v with
 | slice b off len cap=>
  cases cap with
  | upto sz=>
   simp only[VR] at hv;rcases hv with ⟨l,_,⟨c,rfl,_⟩ | ⟨_,a,rfl⟩⟩<;>rfl
  | known c=>simp only[VR] at hv;obtain⟨l,_,rfl⟩:=hv;rfl
  | least a sz=>simp only[VR] at hv;obtain⟨l,_,c,rfl,_⟩:=hv;rfl
 | any=>simp[iH] at h
 | tok n=>simp only[VR] at hv;exact hv.2
 | _=>simp only[VR,iH] at hv h<;>first | (subst hv;rfl) | (obtain⟨_,rfl,_⟩:=hv;rfl) | (obtain⟨_,_,rfl⟩:=hv;rfl) | (obtain⟨_,_,rfl,_⟩:=hv;rfl) | simp_all
theorem oL {J:dh} {x:Value} {v:U} (h:oK x=some v):VR J v x:=by
 unfold oK at h;split at h<;>first | (cases h;first | (simp only[VR];done) | (simp only[VR];exact⟨_,Z,Z⟩)) | cases h
theorem ni {J:dh}:∀{xs:List Value} {vs:List U},dB oK xs=some vs->dw J vs xs
 | [],vs,h=>by rw[hJ] at h;cases h;exact dw.nil
 | x::xs,vs,h=>by
  obtain⟨y,r,h1,j,rfl⟩:=gw h;exact dw.cons (oL h1)<|ni j
theorem p8 {J:dh} {x:Value} {v:U} (h:p6 x=some v):VR J v x:=by
 unfold p6 at h;split at h
 ·rename_i cs;cases hc:dB oK cs.toList with
  | none=>rw[hc] at h;cases h
  | some vs=>rw[hc] at h;cases h;simp only[VR];exact⟨cs,Z,ni hc⟩
 ·rename_i cs;cases hc:dB oK cs.toList with
  | none=>rw[hc] at h;cases h
  | some vs=>rw[hc] at h;cases h;simp only[VR];exact⟨cs,Z,ni hc⟩
 exact oL h
theorem iu {J:dh} {v:U} {x:Value} {cs:List U} (h:cU v=some cs) (hv:VR J v x):dw J cs x.cells.toList:=by
 have leaf:iH v=true->cs= [v]->dw J cs x.cells.toList:=fun hl e=>by
  subst e;have hx:=oE hl hv;have e:x.cells.toList= [x]:=by cases x<;>first | rfl | (simp[Value.oneCell'] at hx)
  rw[e];exact dw.cons hv dw.nil
 cases v with
 | agg ds=>simp only[cU,oJ_] at h;subst h;simp only[VR] at hv;obtain⟨ys,rfl,j⟩:=hv;exact j
 | tuple ds=>simp[cU] at h
 | any=>simp[cU] at h
 | _=>simp only[cU,oJ_] at h;exact leaf Z h.symm
theorem mT {J:dh} {v:U} {x:Value} {cs:List U} (h:cU v=some cs) (hv:VR J v x):x.cells.size=cs.length:=by
 have:=(iu h hv).length;simpa using this
section
variable {P:Program} {J:dh} {V:aE} {w:World}
def ER (J:dh) (ev:Operand->Option U) (f:Operand->Value) (op:Op):Prop:=∀x∈op.operands,∀v,ev x=some v->VR J v (f x)
theorem Inv.piece (hi:Inv J V w) {b:Pos} {l:Loc} {cells:List U} {e:Nat} {ro:Bool} (z:V.m.get b=some (.row cells e ro)) (hl:J b=some l) (off n:Nat) (hn:off+n<=cells.length):
  ∃ys:List Value,ys.length=n/\dw J ((cells.drop off).take n) ys/\∀(j:Nat) (y:Value),ys[j]?=some y->w.cell? ((⟨l.dF,l.sh+off,none⟩:Addr).add j)=some y:=by
 obtain⟨c,fr,h1,h2,h3,h4,_⟩:=hi.row z hl;refine⟨(c.toList.drop (l.sh+off)).take n,?_,dw.KX ?_ ?_,?_⟩
 ·grind
 ·grind
 ·grind
 intro j y u;rw[List.getElem?_take] at u;split at u
 ·rw[List.getElem?_drop,aT_] at u;rw[Addr.add_eq _ _ Z,cell?_of_heap h1];exact u
 cases u
def BL:TypeDesc->Bool
 | .struct _ | .array _ _=>true
 | _=>false
theorem ff {t:TypeId} {d:TypeDesc} (h:P.underlying t=some d):(isAgg t).run P w= .ok (BL d) w:=by
 simp only[isAgg,sB_,run_underlying h,rA];cases d<;>rfl
theorem cd {t:TypeId} {i:TypeInfo} (h:P.info? t=some i):(sizeOf t).run P w= .ok i.size w:=by
 simp[sizeOf,typeInfo,h]
theorem r3 {t:TypeId} {n:Nat} (h:dZ P t=some (some n)):∃d i,P.underlying t=some d/\P.info? t=some i/\i.size=n/\BL d=true:=by
 rw[BM] at h;split at h
 ·rename_i fs hu;obtain⟨i,hi⟩:=info_of_underlying hu;simp only[oJ_] at h;rw[sk hi] at h;exact⟨_,i,hu,hi,h,Z⟩
 ·rename_i hu;obtain⟨i,hi⟩:=info_of_underlying hu;simp only[oJ_] at h;rw[sk hi] at h;exact⟨_,i,hu,hi,h,Z⟩
 ·simp at h
 simp at h
theorem wK {t:TypeId} (h:dZ P t=some none):∃d i,P.underlying t=some d/\P.info? t=some i/\BL d=false:=by
 rw[BM] at h;split at h
 ·simp at h
 ·simp at h
 ·rename_i d h1 h2 hu;obtain⟨i,hi⟩:=info_of_underlying hu;refine⟨d,i,hu,hi,?_⟩;cases d<;>first | rfl | simp_all | simp_all
 simp at h
theorem ns (hi:Inv J V w) {b:Pos} {l:Loc} {off:Nat} {cells:List U} {e:Nat} {ro:Bool} (B:V.m.get b=some (.row cells e ro)) (hl:J b=some l) {t:TypeId} {v:U}
  (h:(match dZ P t with
    | some (some n)=>bif Nat.ble (off+n) (du cells) then some (.agg<|takeN (dW cells off) n) else none
    | some none=>nth cells off
    | none=>none)=some v):
  ∃x,(loadVar t ⟨l.dF,l.sh+off,none⟩).run P w= .ok x w/\VR J v x:=by
 cases u:dZ P t with
 | none=>rw[u] at h;cases h
 | some o=>
  rw[u] at h;cases o with
  | some n=>
   obtain⟨d,i,hu,j,z,A⟩:=r3 u;simp only[bE] at h;split at h
   ·rename_i hle;rw[nE_,bY] at hle;cases h;obtain⟨ys,hlen,aa,hc⟩:=hi.piece B hl off n hle;refine⟨.agg ys.toArray,?_,?_⟩
    ·simp only[loadVar,sB_,ff hu,A,rA,if_true,cd j,z];rw[<-hlen,run_loadCells_list w _ ys hc];rfl
    simp only[VR,dR,eA]
    simp_all
   cases h
  | none=>
   obtain⟨d,i,hu,j,A⟩:=wK u;rw[fG] at h;obtain⟨y,C,E⟩:=hi.cell B hl h;refine⟨y,?_,E⟩;simp only[loadVar,sB_,ff hu,A,rA,Bool.false_eq_true,if_false];rw[run_load,C]
end
section
variable {P:Program} {J:dh} {V:aE} {w:World}
def gT (l:List U) (k:Nat):List U->List U
 | []=>l
 | v::vs=>gT (l.set k v) (k+1) vs
theorem rU:∀(vs:List U) (l:List U) (k:Nat),(gT l k vs).length=l.length
 | [],_,_=>rfl
 | v::vs,l,k=>by rw[gT,rU vs];simp
theorem qq:∀(vs:List U) (x:U) (l:List U) (k:Nat),gT (x::l) (k+1) vs=x::gT l k vs
 | [],_,_,_=>rfl
 | v::vs,x,l,k=>by rw[gT,gT,List.set_cons_succ,qq vs]
theorem qb:∀(cs l:List U),cs.length<=l.length->lJ cs l=gT l 0 cs
 | [],l,_=>by simp[lJ,gT]
 | c::cs,[],h=>by simp at h
 | c::cs,x::l,h=>by
  show c::lJ cs l=_;rw[qb cs l (by simpa using h),gT,List.set_cons_zero,qq]
theorem kM (cs:List U):∀(l:List U) (off:Nat),off+cs.length<=l.length->ed cs l off=gT l off cs
 | [],off,h=>by
  have:cs= []:=eN_ (by simp only[List.length_nil] at h;omega);subst this;simp[ed,gT]
 | x::l,0,h=>by
  show lJ cs (x::l)=_;exact qb _ _ (by simpa using h)
 | x::l,off+1,h=>by
  show x::ed cs l off=_;rw[kM cs l off (by simp only[List.length_cons] at h;omega),qq]
theorem Ct {off:Nat}:∀(vs:List U) (xs:List Value) (k:Nat) (l:List U) (ys:Array Value),dw J vs xs->dw J l ys.toList->
  dw J (gT l (off+k) vs) ((xs.zipIdx k).foldl (fun(cs:Array Value) (p:Value×Nat)=>cs.setIfInBounds (off+p.2) p.1) ys).toList
 | [],xs,k,l,ys,h,hl=>by rw[h.eP];exact hl
 | v::vs,xs,k,l,ys,h,hl=>by
  obtain⟨x,r,rfl,h1,j⟩:=h.cons_inv;simp only[List.zipIdx_cons,List.foldl_cons,gT];have:=Ct (off:=off) vs r (k+1) (l.set (off+k) v) (ys.setIfInBounds (off+k) x) j (by simpa using hl.set (off+k) h1);simpa [Nat.add_assoc] using this
theorem oB {place place':Nat->Option (Nat×Nat)} (hp:∀i x,place i=some x->place' i=some x) {ev:Operand->Option U} {f:Operand->Value}:
  ∀(parts:List (Nat×Operand)) (cells cs:List U) (ys:Array Value),(∀p∈parts,∀v,ev p.2=some v->VR J v (f p.2))->dw J cells ys.toList->jI place ev parts cells=some cs->
   ∃zs:Array Value,Instr.fill place' ys (parts.map fun p=>(p.1,f p.2))=some zs/\dw J cs zs.toList
 | [],cells,cs,ys,_,hc,h=>by
  simp only[jI,oJ_] at h;subst h;exact⟨ys,Z,hc⟩
 | p::parts,cells,cs,ys,u,hc,h=>by
  have h':(match place p.1,(ev p.2).bind cU with
   | some (off,size),some vs=>bif Nat.beq (du vs) size && Nat.ble (off+size) (du cells) then jI place ev parts (ed vs cells off) else none
   | _,_=>none)=some cs:=h
  cases m:place p.1 with
  | none=>simp_all
  | some x=>
   obtain⟨off,size⟩:=x;cases hv:ev p.2 with
   | none=>simp_all
   | some v=>
    rw[m,hv] at h';simp only[Option.bind_some] at h';cases j:cU v with
    | none=>simp_all
    | some vs=>
     rw[j] at h';simp only[bE] at h';split at h'
     ·rename_i hb;simp only[bA_,Nat.beq_eq,nE_,bY] at hb;obtain⟨ab,ac⟩:=hb;have hvr:=u p (by simp) v hv;have hcells:=iu j hvr;have hsize:=mT j hvr;have aa:ys.size=cells.length:=by have:=hc.length;simpa using this
      have hfold:=Ct (off:=off) vs (f p.2).cells.toList 0 cells ys hcells hc;rw[Nat.add_zero,<-kM vs cells off oM] at hfold;obtain⟨zs,h1,z⟩:=oB hp parts (ed vs cells off) cs _ (fun q hq=>u q (by simp[hq])) hfold h';refine⟨zs,?_,z⟩;rw[List.map_cons];simp only[Instr.fill,hp _ _ m];rw[if_neg]
      ·rw[<-h1];congr 1;rw[<-Array.foldl_toList];simp
      simp_all
     cases h'
theorem sP {α β:Type} {g:α->Option β}:∀{l:List α} {ys:List β},dB g l=some ys->l.mapM g=some ys
 | [],ys,h=>by rw[hJ] at h;cases h;rfl
 | x::l,ys,h=>by
  obtain⟨y,r,h1,j,rfl⟩:=gw h;simp[List.mapM_cons,h1,sP j]
theorem qA {t:TypeId} {z:U} (h:fl P t=some z):∃i x,P.info? t=some i/\i.zero=some x/\∀J:dh,VR J z x:=by
 unfold fl at h;cases hi:P.info? t with
 | none=>rw[hi] at h;cases h
 | some i=>
  rw[hi] at h;simp only[Option.bind_some] at h;cases j:i.zero with
  | none=>rw[j] at h;cases h
  | some x=>rw[j] at h;exact⟨i,x,Z,j,fun J=>p8 h⟩
theorem fN {t:TypeId} {cs:List U} (h:(fl P t).bind cU=some cs):∃i x,P.info? t=some i/\i.zero=some x/\∀J:dh,dw J cs x.cells.toList:=by
 cases j:fl P t with
 | none=>rw[j] at h;cases h
 | some z=>
  grind [qA,iu]
theorem BY {ev:Operand->Option U} {f:Operand->Value} {t:TypeId} {parts:Array (Nat×Operand)} {v:U}
  (B:∀p∈parts.toList,∀v,ev p.2=some v->VR J v (f p.2)) (h:dI P ev (.build t parts)=some v):
  ∃x,(Instr.build t<|parts.map fun(i,x)=>(i,f x)).run P w= .ok x w/\VR J v x:=by
 simp only[dI] at h;cases hu:P.underlying t with
 | none=>rw[hu] at h;cases h
 | some d=>
  rw[hu] at h;cases C:(fl P t).bind cU with
  | none=>simp_all
  | some zero=>
   rw[C] at h;obtain⟨it,z,m,hzero,u⟩:=fN C;cases d with
   | struct fs=>
    simp only at h;cases A:dB (fun f:Field=>(P.info? f.type).map fun j=>(f.offset,j.size)) fs.toList with
    | none=>simp_all
    | some places=>
     rw[A] at h;dsimp only at h;cases hf:jI (nth places) ev parts.toList zero with
     | none=>rw[hf] at h;cases h
     | some cs=>
      rw[hf] at h;cases h;obtain⟨zs,h1,E⟩:=oB (place':=(places.toArray[·]?)) (fun i x hx=>by rw[fG] at hx;simpa using hx) parts.toList zero cs z.cells B (u J) hf
      refine⟨.agg zs,run_build w t _ zs ?_,by simp only[VR];simp_all⟩;simp only[Program.built,m,hu,hzero,sP A];simpa using h1
   | array n e=>
    simp only at h;cases hj:P.info? e with
    | none=>rw[hj] at h;cases h
    | some j=>
     rw[hj] at h;dsimp only at h;cases hf:jI (fun i=>some (i*j.size,j.size)) ev parts.toList zero with
     | none=>rw[hf] at h;cases h
     | some cs=>
      rw[hf] at h;cases h;obtain⟨zs,h1,E⟩:=oB (place':=fun i=>some (i*j.size,j.size)) (fun i x hx=>hx) parts.toList zero cs z.cells B (u J) hf;refine⟨.agg zs,run_build w t _ zs ?_,by simp only[VR];simp_all⟩;simp only[Program.built,m,hu,hzero,hj];simpa using h1
   | _=>cases h
theorem q8 {cs:List U} {ys:List Value} (h:dw J cs ys) (r e:Nat):gP J ⟨r,0,cs.length⟩ (.row cs e false) (.cells ys.toArray e):=by
 refine⟨_,_,Z,by simpa using h.length,nR_ _,fun i v hv=>?_,fun _ j _ hj=>by simp at hj⟩;obtain⟨y,h1,h2⟩:=h.get hv
 simp_all
theorem jX {cs:List U} {ys:List Value} (h:dw J cs ys):∀n,dw J (fp cs n) ((List.replicate n ys).flatten)
 | 0=>(dw.nil:dw J [] [])
 | n+1=>by
  show dw J (gL cs<|fp cs n) _;rw[eb,List.replicate_succ,List.flatten_cons];exact h.append<|jX h n
theorem rW (cs:List U):∀n,(fp cs n).length=n*cs.length
 | 0=>by rw[Nat.zero_mul];rfl
 | n+1=>by
  show(gL cs<|fp cs n).length=_;rw[eb,lA_,rW cs n,Nat.succ_mul,Nat.add_comm]
theorem kf (ys:List Value):∀(n j:Nat),j<n*ys.length->((List.replicate n ys).flatten)[j]?=ys[j%ys.length]?
 | 0,j,h=>by simp at h
 | n+1,j,h=>by
  rw[List.replicate_succ,List.flatten_cons]
  by_cases hj:j<ys.length
  ·rw[gL_ hj,Nat.mod_eq_of_lt hj]
  rw[gR_ oM,kf ys n (j-ys.length) (by rw[Nat.succ_mul] at h;omega)];congr 1
  have h0:0<ys.length:=by
   rcases Nat.eq_zero_or_pos ys.length with h0 | h0
   ·rw[h0] at h;simp at h
   exact h0
  rw[Nat.mod_eq_sub_mod (by omega:j≥ys.length)]
theorem wx (z:Array Value) (n:Nat) (hz:0<z.size):((Array.range (n*z.size)).map (z[· %z.size]!))=((List.replicate n z.toList).flatten).toArray:=by
 apply Array.ext_getElem?;intro j;simp only[Array.getElem?_map,List.getElem?_toArray]
 by_cases hj:j<n*z.size
 ·grind [kf,Nat.mod_lt]
 simp_all
theorem vo {ev:Operand->Option U} {f:Operand->Value} {o:Oper} {ob:cD} {mk:Mk} (F:ER J ev f o.op) (h:fy P ev o.op=some (ob,mk)):
  ∃(x:Value) (ob':Obj) (n:Nat),(execOp f o).run P w= .ok (.value x) (w.alloc ob')/\ob.ro=false/\gP J ⟨w.heap.size,0,n⟩ ob ob'/\
   ∀(J':dh) (b:Pos),J' b=some ⟨w.heap.size,0,n⟩->VR J' (mk.of b) x:=by
 cases u:o.op with
 | alloc e=>
  rw[u] at h;simp only[fy] at h;cases B:(fl P e).bind cU with
  | none=>rw[B] at h;cases h
  | some cs=>
   rw[B] at h;obtain⟨i,z,hi,hzero,m⟩:=fN B;cases hp:tJ P e with
   | false=>
    rw[hp] at h;cases h;refine⟨.pointer<|some ⟨w.heap.size,0,none⟩,.cells z.cells e,cs.length,?_,Z,q8 (m J) _ _,fun J' b hb=>by simp only[Mk.of,VR];simp_all⟩;simp[execOp,u,Instr.alloc,zeroValue,typeInfo,hi,hzero,newVar,newRow]
   | true=>
    rw[hp] at h;cases h;refine⟨.pointer<|some ⟨w.heap.size,0,none⟩,.cells z.cells e,cs.length,?_,Z,gP.GZ ⟨Z,Z⟩<|q8 (m J) _ _,fun J' b hb=>by simp only[Mk.of,VR];simp_all⟩;simp[execOp,u,Instr.alloc,zeroValue,typeInfo,hi,hzero,newVar,newRow]
 | box e x=>
  rw[u] at h F;simp only[fy] at h;cases hv:ev x with
  | none=>rw[hv] at h;cases h
  | some v=>
   rw[hv] at h;dsimp only[Option.bind_some] at h;cases hc:cU v with
   | none=>rw[hc] at h;cases h
   | some cs=>
    rw[hc] at h;cases h;have hvr:=F x (by simp[Op.operands]) v hv;refine⟨.pointer<|some ⟨w.heap.size,0,none⟩,.cells (f x).cells e,cs.length,?_,Z,q8 (iu hc hvr) _ _,fun J' b hb=>by simp only[Mk.of,VR];simp_all⟩;simp[execOp,u,Instr.box,newVar,newRow]
 | buildSlice t len parts=>
  rw[u] at h F;simp only[fy] at h;cases hu:P.underlying t with
  | none=>rw[hu] at h;cases h
  | some d=>
   rw[hu] at h;cases d with
   | slice e=>
    dsimp only at h;cases hj:P.info? e with
    | none=>rw[hj] at h;cases h
    | some j=>
     cases B:(fl P e).bind cU with
     | none=>simp_all
     | some z=>
      rw[hj,B] at h;simp only[bE] at h;split at h
      ·rename_i hb;simp only[bA_,Nat.beq_eq,nE_,bY] at hb;obtain⟨⟨G,K⟩,L⟩:=hb;cases hf:jI (fun i=>some (i*j.size,j.size)) ev parts.toList (fp z len) with
       | none=>rw[hf] at h;cases h
       | some cs=>
        rw[hf] at h;cases h;obtain⟨i,zv,hi,hzero,m⟩:=fN B;rw[hj] at hi;cases hi;have A:zv.cells.size=j.size:=by rw[<-G,<-(m J).length,Array.length_toList]
        have C:∀p∈parts.toList,∀v,ev p.2=some v->VR J v (f p.2):=fun p hp v hv=>F p.2 (by simp only[Op.operands,List.mem_toArray,List.mem_map];grind) v hv
        obtain⟨zs,h1,M⟩:=oB (place':=fun i=>some (i*j.size,j.size)) (fun i x hx=>hx) parts.toList (fp z len) cs ((List.replicate len zv.cells.toList).flatten).toArray C
         (by simpa using jX (m J) len) hf
        rw[<-wx zv.cells len oM,A] at h1;have aa:cs.length=zs.size:=by have:=M.length;simpa using this.symm
        by_cases I:len*j.size=0
        ·refine⟨.slice (some ⟨w.heap.size,0,none⟩) len len,.cells zs e,cs.length,?_,Z,by simpa using q8 M w.heap.size e,fun J' b hb=>by simp only[Mk.of,VR];simp_all⟩;have Q:(Array.map (fun x=>zv.cells[x%j.size]!)<|Array.range (len*j.size))= #[]:=by rw[I];simp
         rw[Q] at h1;have R:∀g:Nat->Value,Array.map g (Array.range 0)= #[]:=fun g=>by simp
         simp[execOp,u,Instr.buildSlice,run_underlying hu,sizeOf,typeInfo,hj,I,R,h1,newRow]
        refine⟨.slice (some ⟨w.heap.size,0,none⟩) len len,.cells zs e,cs.length,?_,Z,by simpa using q8 M w.heap.size e,fun J' b hb=>by simp only[Mk.of,VR];simp_all⟩;have hrun:=run_buildSlice (P:=P) w t e len (parts.map fun(i,x)=>(i,f x)) zs j zv hu hj hzero oM I (by simp_all)
        grind [execOp,sB_,rA,sP_]
      cases h
   | _=>cases h
 | makeSlice t l c=>
  rw[u] at h F;simp only[fy] at h;cases hu:P.underlying t with
  | none=>rw[hu] at h;cases h
  | some d=>
   rw[hu] at h;cases hl:ev l with
   | none=>simp_all
   | some vl=>
    cases hc:ev c with
    | none=>simp_all
    | some vc=>
     rw[hl,hc] at h;split at h
     ·rename_i e kl ln kc cn he S T;cases he;cases S;cases T;cases hj:P.info? e with
      | none=>rw[hj] at h;cases h
      | some j=>
       cases B:(fl P e).bind cU with
       | none=>simp_all
       | some z=>
        rw[hj,B] at h;simp only[bE] at h;split at h
        ·rename_i hb;simp only[bA_,Nat.beq_eq,nE_,bY] at hb;obtain⟨⟨⟨⟨G,K⟩,L⟩,W⟩,ac⟩:=hb;cases h;obtain⟨i,zv,hi,hzero,m⟩:=fN B;rw[hj] at hi;cases hi;have A:zv.cells.size=j.size:=by rw[<-W,<-(m J).length,Array.length_toList]
         have am:f l= .int kl (Int.ofNat ln):=by have:=F l (by simp[Op.operands]) _ hl;simpa only[VR] using this
         have an:f c= .int kc (Int.ofNat cn):=by have:=F c (by simp[Op.operands]) _ hc;simpa only[VR] using this
         have X:(j.bytes:Int)*(Int.ofNat cn)<=281474976710656:=by
          grind
         have hrun:=run_make (P:=P) w t e j zv hu hj hzero kl kc (Int.ofNat ln) (Int.ofNat cn) (Int.natCast_nonneg _) (Int.ofNat_le.2 G) X (by grind)
         have E:madeCells zv.cells ((Int.ofNat cn).toNat*j.size)=((List.replicate cn zv.cells.toList).flatten).toArray:=by
          unfold madeCells;rw[show(Int.ofNat cn).toNat=cn from Z,<-A];exact wx zv.cells cn oM
         rw[E] at hrun;have hts:=jX (m J) cn
         refine⟨.slice (some ⟨w.heap.size,0,none⟩) ln cn,.cells ((List.replicate cn zv.cells.toList).flatten).toArray e,(fp z cn).length,?_,Z,q8 hts _ _,
          fun J' b hb=>by simp only[Mk.of,VR];simp_all⟩
         grind [execOp,sB_,rA,sP_]
        cases h
     cases h
 | makeMap t r=>
  rw[u] at h;cases r with
  | some r=>
   simp only[fy] at h;split at h
   ·rename_i mk mv k n hu hr;simp only[oJ_,Prod.mk.injEq] at h;obtain⟨rfl,rfl⟩:=h;have ab:f r= .int k n:=by have:=F r (by rw[u];simp[Op.operands]) _ hr;simpa only[VR] using this
    refine⟨.map<|some w.heap.size,.map #[] 0,0,?_,Z,⟨#[],Z,Z⟩,fun J' b hb=>by simp only[Mk.of,VR];simp_all⟩;simp[execOp,u,Instr.makeMap,ab,run_underlying hu,asInt,asIntOf]
   cases h
  | none=>
   simp only[fy,oJ_,Prod.mk.injEq] at h;obtain⟨rfl,rfl⟩:=h;refine⟨.map<|some w.heap.size,.map #[] 0,0,?_,Z,⟨#[],Z,Z⟩,fun J' b hb=>by simp only[Mk.of,VR];simp_all⟩;simp[execOp,u,Instr.makeMap]
 | _=>rw[u] at h;simp[fy] at h
end
section
variable {P:Program} {J:dh} {w:World}
theorem pI (a b:Bool):(bif a then b else(bif b then false else true))=(a == b):=by grind
theorem JD (a b:Bool):(bif a then(bif b then false else true) else b)=(a !=b):=by grind
theorem cond_not (b:Bool):(bif b then false else true)= !b:=by cases b<;>rfl
theorem lA {d:Nat}:∀(fs:List Field) (xs ys:List U) (cs ds:Array Value) (b:Bool),dw J xs cs.toList->dw J ys ds.toList->lI fs=true->jn P fs xs ys=some b->
  (Op.eqFields (d+1) cs ds fs).run P w= .ok b w
 | [],xs,ys,cs,ds,b,_,_,_,h=>by
  simp only[jn,oJ_] at h;subst h;simp[Op.eqFields]
 | f::fs,xs,ys,cs,ds,b,hx,K,hn,h=>by
  have L:(bif f.name == "_" then false else lI fs)=true:=hn
  have m:(f.name == "_")=false:=by
   simp_all
  rw[m] at L;have A:f.name≠ "_" :=by simpa using m
  have h':(match P.underlying f.type,nth xs f.offset,nth ys f.offset with
   | some .bool,some (.bool a),some (.bool b)=>bif (bif a then b else(bif b then false else true)) then jn P fs xs ys else some false
   | some (.int _),some (.int j a),some (.int k b)=>bif s6 j k then(bif H a b then jn P fs xs ys else some false) else none
   | some .string,some (.str a),some (.str b)=>bif gK a b then jn P fs xs ys else some false
   | _,_,_=>none)=some b:=h
  have ih:=lA (d:=d) fs xs ys cs ds
  have part {v:U} {cells:List U} {es:Array Value} (hc:dw J cells es.toList) (R:nth cells f.offset=some v) (C:BL (match P.underlying f.type with | some d=>d | none=>.invalid)=false) (hu:P.underlying f.type≠none):
    ∃y,(part f.type es f.offset).run P w= .ok y w/\VR J v y:=by
   rw[fG] at R;obtain⟨y,h1,h2⟩:=hc.get R;cases B:P.underlying f.type with
   | none=>exact absurd B hu
   | some dd=>
    rw[B] at C;refine⟨y,?_,h2⟩;simp only[Go.part,sB_,ff B,C,rA,Bool.false_eq_true,if_false]
    simp_all
  split at h'
  ·rename_i S T W a b' e1 E F;obtain⟨X,G,u⟩:=part hx E (by rw[e1];rfl) (by rw[e1];simp);obtain⟨y2,I,z⟩:=part K F (by rw[e1];rfl) (by rw[e1];simp);simp only[VR] at u z;subst u;subst z;simp only[Op.eqFields,A,ne_eq,not_false_eq_true,if_true,sB_,G,I,rA,run_equalIn_bool w d f.type _ _ e1];rw[pI] at h';cases hc:(a == b') with
   | true=>grind
   | false=>simp_all
  ·rename_i S T W kk j a k b' e1 E F;obtain⟨X,G,u⟩:=part hx E (by rw[e1];rfl) (by rw[e1];simp);obtain⟨y2,I,z⟩:=part K F (by rw[e1];rfl) (by rw[e1];simp);simp only[VR] at u z;subst u;subst z;cases hk:s6 j k with
   | false=>simp_all
   | true=>
    rw[hk] at h';have:=pK hk;subst this;simp only[Op.eqFields,A,ne_eq,not_false_eq_true,if_true,sB_,G,I,rA,run_equalIn_int w d f.type _ _ _ _ e1];rw[cW] at h';cases hc:decide (a=b') with
    | true=>grind
    | false=>simp_all
  ·rename_i S T W a b' e1 E F;obtain⟨X,G,u⟩:=part hx E (by rw[e1];rfl) (by rw[e1];simp);obtain⟨y2,I,z⟩:=part K F (by rw[e1];rfl) (by rw[e1];simp);simp only[VR] at u z;obtain⟨s1,rfl,M⟩:=u;obtain⟨s2,rfl,Q⟩:=z;simp only[Op.eqFields,A,ne_eq,not_false_eq_true,if_true,sB_,G,I,rA,run_equalIn_string w d f.type _ _ e1];rw[og M Q] at h';cases hc:(s1.toList == s2.toList) with
   | true=>grind
   | false=>simp_all
  cases h'
theorem nC {t:TypeId} {fs:Array Field} (h:structOf P t=some fs):P.underlying t=some (.struct fs):=by
 grind [structOf,oj]
theorem vF {t:TypeId} {fs:Array Field} (h:P.underlying t=some (.struct fs)):P.fieldsOf t=fs:=by simp[Program.fieldsOf,h]
theorem xL {e:TypeId} (h:su P e=true):∃k i,P.underlying e=some (.int k)/\P.info? e=some i/\i.size=1:=by
 grind [su,nB]
theorem n8 {d:Nat} {e:TypeId} {k':IntKind} (he:P.underlying e=some (.int k')):∀(l1 l2:List U) (s:Nat) (m u:Array Value) (b:Bool),
  (∀(i:Nat) (v:U),l1[i]?=some v->∃y,m[s+i]?=some y/\VR J v y)->(∀(i:Nat) (v:U),l2[i]?=some v->∃y,u[s+i]?=some y/\VR J v y)->xh l1 l2=some b->
  (Op.eqItems (d+1) e 1 m u<|List.range' s l1.length).run P w= .ok b w
 | [],l2,s,m,u,b,_,_,h=>by
  cases l2 with
  | nil=>cases h;simp[Op.eqItems]
  | cons y r=>cases h
 | x::l1,l2,s,m,u,b,h1,z,h=>by
  cases l2 with
  | nil=>cases x<;>cases h
  | cons y r=>
   cases x<;>try (cases h;done)
   rename_i j a;cases y<;>try (cases h;done)
   rename_i k c;have h':(bif s6 j k then(bif H a c then xh l1 r else some false) else none)=some b:=h;cases hk:s6 j k with
   | false=>simp_all
   | true=>
   rw[hk] at h';have:=pK hk;subst this;obtain⟨y1,q1,A⟩:=h1 0 _ Z;obtain⟨y2,q2,B⟩:=z 0 _ Z;simp only[VR] at A B;subst A;subst B;simp only[Nat.add_zero] at q1 q2
   have p:∀(cs:Array Value) (v:Value),cs[s]?=some v->(part e cs (s*1)).run P w= .ok v w:=fun cs v hv=>by
    rw[Nat.mul_one];simp only[part,sB_,ff he,BL,rA,Bool.false_eq_true,if_false,hv,sP_]
   simp only[List.length_cons,List.range'_succ,Op.eqItems,sB_,p m _ q1,p u _ q2,rA,run_equalIn_int w d e _ _ _ _ he];rw[cW] at h';have ih:=n8 (d:=d) he l1 r (s+1) m u;cases hc:decide (a=c) with
   | true=>
    rw[hc] at h';have:=of_decide_eq_true hc;subst this
    simpa using ih b (fun i v hv=>by have:=h1 (i+1) v (by simpa using hv);grind)
     (fun i v hv=>by have:=z (i+1) v (by simpa using hv);grind) (by simpa using h')
   | false=>
    simp_all
theorem gN {t:TypeId} {cs:List U} {ys:Array Value} {off n:Nat} (m:dZ P t=some (some n)) (hc:dw J cs ys.toList):∃c,(part t ys off).run P w= .ok (.agg c) w/\dw J (takeN (dW cs off) n) c.toList:=by
 obtain⟨d,i,hu,hi,j,u⟩:=r3 m;refine⟨ys.extract off (off+n),?_,?_⟩
 ·simp only[part,sB_,ff hu,u,rA,if_true,cd hi,j,sP_]
 rw[dR,eA,Array.toList_extract];have:=(hc.drop off).take n
 simp_all
theorem mC {d:Nat}:∀(fs:List Field) (xs ys:List U) (cs ds:Array Value) (b:Bool),dw J xs cs.toList->dw J ys ds.toList->lI fs=true->eqFields P fs xs ys=some b->
  (Op.eqFields (d+1+1) cs ds fs).run P w= .ok b w
 | [],xs,ys,cs,ds,b,_,_,_,h=>by
  simp only[eqFields,oJ_] at h;subst h;simp[Op.eqFields]
 | f::fs,xs,ys,cs,ds,b,hx,Q,hn,h=>by
  have aa:(bif f.name == "_" then false else lI fs)=true:=hn
  have B:(f.name == "_")=false:=by
   simp_all
  rw[B] at aa;have C:f.name≠ "_" :=by simpa using B
  have h':(match P.underlying f.type,nth xs f.offset,nth ys f.offset with
   | some .bool,some (.bool a),some (.bool b)=>bif (bif a then b else(bif b then false else true)) then eqFields P fs xs ys else some false
   | some (.int _),some (.int j a),some (.int k b)=>bif s6 j k then(bif H a b then eqFields P fs xs ys else some false) else none
   | some .string,some (.str a),some (.str b)=>bif gK a b then eqFields P fs xs ys else some false
   | some (.struct gs),_,_=>bif P.stoodInHeld f.type || !lI gs.toList then none else match dZ P f.type with
    | some (some n)=>match jn P gs.toList (takeN (dW xs f.offset) n) (takeN (dW ys f.offset) n) with
     | some true=>eqFields P fs xs ys
     | some false=>some false
     | none=>none
    | _=>none
   | some (.array m e),_,_=>bif su P e then(match dZ P f.type with
    | some (some n)=>bif Nat.beq n m && (Nat.beq (du<|takeN (dW xs f.offset) n) m && Nat.beq (du<|takeN (dW ys f.offset) n) m) then(match xh (takeN (dW xs f.offset) n) (takeN (dW ys f.offset) n) with
     | some true=>eqFields P fs xs ys
     | some false=>some false
     | none=>none) else none
    | _=>none) else none
   | _,_,_=>none)=some b:=h
  have ih:=mC (d:=d) fs xs ys cs ds
  have part {v:U} {cells:List U} {es:Array Value} (hc:dw J cells es.toList) (hg:nth cells f.offset=some v) (u:BL (match P.underlying f.type with | some d=>d | none=>.invalid)=false) (hu:P.underlying f.type≠none):
    ∃y,(part f.type es f.offset).run P w= .ok y w/\VR J v y:=by
   rw[fG] at hg;obtain⟨y,h1,h2⟩:=hc.get hg;cases K:P.underlying f.type with
   | none=>exact absurd K hu
   | some dd=>
    rw[K] at u;refine⟨y,?_,h2⟩;simp only[Go.part,sB_,ff K,u,rA,Bool.false_eq_true,if_false]
    simp_all
  split at h'
  ·rename_i X u2 u3 a b' e1 R S;obtain⟨y1,F,z⟩:=part hx R (by rw[e1];rfl) (by rw[e1];simp);obtain⟨y2,G,A⟩:=part Q S (by rw[e1];rfl) (by rw[e1];simp);simp only[VR] at z A;subst z;subst A;simp only[Op.eqFields,C,ne_eq,not_false_eq_true,if_true,sB_,F,G,rA,run_equalIn_bool w (d+1) f.type _ _ e1];rw[pI] at h';cases hc:(a == b') with
   | true=>grind
   | false=>simp_all
  ·rename_i X u2 u3 kk j a k b' e1 R S;obtain⟨y1,F,z⟩:=part hx R (by rw[e1];rfl) (by rw[e1];simp);obtain⟨y2,G,A⟩:=part Q S (by rw[e1];rfl) (by rw[e1];simp);simp only[VR] at z A;subst z;subst A;cases hk:s6 j k with
   | false=>simp_all
   | true=>
    rw[hk] at h';have:=pK hk;subst this;simp only[Op.eqFields,C,ne_eq,not_false_eq_true,if_true,sB_,F,G,rA,run_equalIn_int w (d+1) f.type _ _ _ _ e1];rw[cW] at h';cases hc:decide (a=b') with
    | true=>grind
    | false=>simp_all
  ·rename_i X u2 u3 a b' e1 R S;obtain⟨y1,F,z⟩:=part hx R (by rw[e1];rfl) (by rw[e1];simp);obtain⟨y2,G,A⟩:=part Q S (by rw[e1];rfl) (by rw[e1];simp);simp only[VR] at z A;obtain⟨s1,rfl,ab⟩:=z;obtain⟨s2,rfl,ac⟩:=A;simp only[Op.eqFields,C,ne_eq,not_false_eq_true,if_true,sB_,F,G,rA,run_equalIn_string w (d+1) f.type _ _ e1];rw[og ab ac] at h';cases hc:(s1.toList == s2.toList) with
   | true=>grind
   | false=>simp_all
  ·rename_i X u2 u3 gs e1;cases ar:P.stoodInHeld f.type with
   | true=>simp_all
   | false=>
   cases T:lI gs.toList with
   | false=>simp_all
   | true=>
   rw[ar,T] at h';simp only[Bool.not_true,Bool.or_false,cond_false] at h';cases u:dZ P f.type with
   | none=>simp_all
   | some q=>
   cases q with
   | none=>simp_all
   | some n=>
   rw[u] at h';dsimp only at h';cases E:jn P gs.toList (takeN (dW xs f.offset) n) (takeN (dW ys f.offset) n) with
   | none=>simp_all
   | some bb=>
    rw[E] at h';obtain⟨L,F,z⟩:=gN (P:=P) (w:=w) u hx (off:=f.offset);obtain⟨M,G,A⟩:=gN (P:=P) (w:=w) u Q (off:=f.offset);have hq:=lA (P:=P) (w:=w) (d:=d) gs.toList _ _ L M bb z A T E
    have hE:(Op.equalIn (d+1+1) f.type (.agg L) (.agg M)).run P w= .ok bb w:=by
     grind [run_equalIn_struct,vF]
    simp only[Op.eqFields,C,ne_eq,not_false_eq_true,if_true,sB_,F,G,rA,hE];cases bb with
    | true=>simp_all
    | false=>simp_all
  ·rename_i X u2 u3 m e e1;cases W:su P e with
   | false=>simp_all
   | true=>
   rw[W] at h';simp only[cond_true] at h';obtain⟨k,inf,he,I,am⟩:=xL W;cases u:dZ P f.type with
   | none=>simp_all
   | some q=>
   cases q with
   | none=>simp_all
   | some n=>
   rw[u] at h';dsimp only at h';rw[bE] at h';split at h'
   case isFalse=>cases h'
   rename_i hc;simp only[bA_,Nat.beq_eq,bY] at hc;obtain⟨ao,an,ap⟩:=hc;cases E:xh (takeN (dW xs f.offset) n) (takeN (dW ys f.offset) n) with
   | none=>simp_all
   | some bb=>
    rw[E] at h';obtain⟨L,F,z⟩:=gN (P:=P) (w:=w) u hx (off:=f.offset);obtain⟨M,G,A⟩:=gN (P:=P) (w:=w) u Q (off:=f.offset)
    have hq:=n8 (P:=P) (w:=w) (J:=J) (d:=d) he _ _ 0 L M bb (fun i v hv=>by obtain⟨y,a1,a2⟩:=z.get hv;simp_all)
     (fun i v hv=>by obtain⟨y,a1,a2⟩:=A.get hv;simp_all) E
    rw[an] at hq
    have hE:(Op.equalIn (d+1+1) f.type (.agg L) (.agg M)).run P w= .ok bb w:=by
     rw[run_equalIn_array w (d+1) L M e1 I,sk I,am,List.range_eq_range'];exact hq
    simp only[Op.eqFields,C,ne_eq,not_false_eq_true,if_true,sB_,F,G,rA,hE];cases bb with
    | true=>simp_all
    | false=>simp_all
  cases h'
theorem dc (op:BinOp) (t:TypeId) (x y:Operand) (a b:Value) (h1:¬(a= .nilIface/\b= .nilIface)) (h2:¬(∃c d,a= .agg c/\b= .agg d)):(eqGuard op t x y a b).run P w= .ok () w:=by
 unfold eqGuard
 simp_all
end
section
variable {P:Program} {J:dh} {w:World}
theorem VR.jv {b:Pos} {off len:Nat} {cap:uc} {x:Value} (h:VR J (.slice b off len cap) x):∃a c,x= .slice (some a) len c:=by
  cases cap with
  | upto sz=>
    simp only[VR] at h
    grind
  | known c=>simp only[VR] at h;grind
  | least a sz=>simp only[VR] at h;grind
theorem pL {t:TypeId} {x y:U} {b:Bool} {a c:Value} (h:EG P t x y=some b) (hx:VR J x a) (u:VR J y c) (op:BinOp) (xo yo:Operand):
    (eqGuard op t xo yo a c).run P w= .ok () w/\(Op.equal t a c).run P w= .ok b w:=by
  unfold EG at h;have aa:∀r:Result Bool,((Op.equalIn (9999+1) t a c).run P w=r)->(Op.equal t a c).run P w=r:=fun r h=>h
  have m:∀r:Result Bool,(∀d,(Op.equalIn (d+1) t a c).run P w=r)->(Op.equal t a c).run P w=r:=fun r h=>h 9999
  split at h
  ·
    rename_i xs ys;simp only[VR] at hx u;obtain⟨cs,rfl,ab⟩:=hx;obtain⟨ds,rfl,ac⟩:=u
    grind [structOf,nC,run_eqGuard_agg,run_equalIn_struct,vF,mC]
  all_goals (try (cases h;done))
  all_goals (split at h)
  all_goals (try (cases h;done))
  all_goals (try (rename_i hu;cases h))
  all_goals first
    | (obtain⟨a',c',rfl⟩:=VR.jv hx
       simp only[VR] at u;subst u;refine⟨dc op t xo yo _ _ (by simp) (by simp),m _ (fun d=>?_)⟩;simp[Op.equalIn,run_underlying hu]
       done)
    | (obtain⟨a',c',rfl⟩:=VR.jv u
       simp only[VR] at hx;subst hx;refine⟨dc op t xo yo _ _ (by simp) (by simp),m _ (fun d=>?_)⟩;simp[Op.equalIn,run_underlying hu]
       done)
    | (simp only[VR] at hx u
       subst hx;subst u;refine⟨dc op t xo yo _ _ (by simp) (by simp),m _ (fun d=>?_)⟩;simp[Op.equalIn,run_underlying hu]
       done)
    | (simp only[VR] at hx u
       obtain⟨l,_,rfl⟩:=hx;subst u;refine⟨dc op t xo yo _ _ (by simp) (by simp),m _ (fun d=>?_)⟩;simp[Op.equalIn,run_underlying hu]
       done)
    | (simp only[VR] at hx u
       obtain⟨l,_,rfl⟩:=u;subst hx;refine⟨dc op t xo yo _ _ (by simp) (by simp),m _ (fun d=>?_)⟩;simp[Op.equalIn,run_underlying hu]
       done)
    | (simp only[VR] at hx u
       obtain⟨l,rfl,_⟩:=hx;subst u;refine⟨dc op t xo yo _ _ (by simp) (by simp),m _ (fun d=>?_)⟩;simp[Op.equalIn,run_underlying hu]
       done)
    | (simp only[VR] at hx u
       obtain⟨l,rfl,_⟩:=u;subst hx;refine⟨dc op t xo yo _ _ (by simp) (by simp),m _ (fun d=>?_)⟩;simp[Op.equalIn,run_underlying hu]
       done)
    | (simp only[VR] at hx u
       obtain⟨l,l',rfl,_⟩:=hx;subst u;refine⟨dc op t xo yo _ _ (by simp) (by simp),m _ (fun d=>?_)⟩;simp[Op.equalIn,run_underlying hu]
       done)
    | (simp only[VR] at hx u
       obtain⟨l,l',rfl,_⟩:=u;subst hx;refine⟨dc op t xo yo _ _ (by simp) (by simp),m _ (fun d=>?_)⟩;simp[Op.equalIn,run_underlying hu]
       done)
    | (rename_i hu
       rw[bE] at h;split at h
       · rename_i hc
         cases h;rw[bA_,bA_] at hc;obtain⟨hb,ho,hi⟩:=hc;have hb:=nB hb;have ho:=nB ho;subst hb;subst ho;obtain⟨j,hj⟩:=Option.isSome_iff_exists.1 hi;simp only[VR] at hx u;obtain⟨l,hl,rfl⟩:=hx;obtain⟨l',z,rfl⟩:=u;rw[hl] at z;cases z;refine⟨dc op t xo yo _ _ (by simp) (by simp),m _ (fun d=>?_)⟩;simp[Op.equalIn,run_underlying hu,sizeOf,typeInfo,hj,run_sameAddr_same]
       · cases h)
theorem nz {t:TypeId} {a c:Value} {b:Bool} (h:(Op.equal t a c).run P w= .ok b w)
    (j:∀k m k' m',¬(a= .int k m/\c= .int k' m')) (hf:∀k m k' m',¬(a= .float k m/\c= .float k' m')) (hc:∀k m n k' m' n',¬(a= .complex k m n/\c= .complex k' m' n')) (u:∀s s',¬(a= .string s/\c= .string s')):
    (binOp .eql t a c).run P w= .ok (.bool b) w/\(binOp .neq t a c).run P w= .ok (.bool (!b)) w:=by
  constructor
  · unfold binOp
    split<;>first
      | (exact absurd ⟨rfl,rfl⟩<|j _ _ _ _)
      | (exact absurd ⟨rfl,rfl⟩<|hf _ _ _ _)
      | (exact absurd ⟨rfl,rfl⟩<|hc _ _ _ _ _ _)
      | (exact absurd ⟨rfl,rfl⟩<|u _ _)
      | (simp only[sB_,h,rA,sP_];done)
      | (rename_i he;cases he)
      | (rename_i he _;cases he)
      | (rename_i he _ _;cases he)
      | (simp_all;done)
  · unfold binOp
    split<;>first
      | (exact absurd ⟨rfl,rfl⟩<|j _ _ _ _)
      | (exact absurd ⟨rfl,rfl⟩<|hf _ _ _ _)
      | (exact absurd ⟨rfl,rfl⟩<|hc _ _ _ _ _ _)
      | (exact absurd ⟨rfl,rfl⟩<|u _ _)
      | (simp only[sB_,h,rA,sP_];done)
      | (rename_i he;cases he)
      | (rename_i he _;cases he)
      | (rename_i he _ _;cases he)
      | (simp_all;done)
end
section
variable {P:Program} {J:dh} {w:World}
theorem MM {op:BinOp} {t:TypeId} {k k':IntKind} {a b:Int} {v:U} (h:sU P op t (.int k a) (.int k' b)=some v):
  ∃x,(binOp op t (.int k a) (.int k' b)).run P w= .ok x w/\VR J v x:=by
 unfold sU at h;have vint:∀(j:IntKind) (n:Int),VR J (.int j n) (.int j n):=fun j n=>by simp only[VR]
 have vbool:∀(c:Bool),VR J (.bool c) (.bool c):=fun c=>by simp only[VR]
 by_cases u:op= .shl
 ·subst u;simp only[bE,fm,z8] at h;split at h
  ·cases h
  rename_i hb;cases h;refine⟨.int k<|k.wrap (a*2 ^ min b.toNat k.bits),?_,vint _ _⟩;have m:¬b<0:=by simpa using hb
  simp[binOp,Op.shift,m]
 by_cases z:op= .shr
 ·subst z;simp only[bE,fm] at h;split at h
  ·cases h
  rename_i hb;cases h;refine⟨.int k<|a.fdiv (2 ^ min b.toNat k.bits),?_,vint _ _⟩;have m:¬b<0:=by simpa using hb
  simp[binOp,Op.shift,m]
 cases hk:s6 k k' with
 | false=>simp_all
 | true=>
  have:=pK hk;subst this;cases op<;>first | exact absurd rfl u | exact absurd rfl z | skip
  all_goals simp only[hk,cond_true,bE,cW,fm,z8,if_true] at h
  case add=>cases h;exact⟨.int k<|k.wrap (a+b),by simp[binOp,Op.intArith],vint _ _⟩
  case sub=>cases h;exact⟨.int k<|k.wrap (a-b),by simp[binOp,Op.intArith],vint _ _⟩
  case mul=>cases h;exact⟨.int k<|k.wrap (a*b),by simp[binOp,Op.intArith],vint _ _⟩
  case quo=>
   by_cases hb:b=0
   ·simp[hb] at h
   simp only[hb,decide_false,if_true,if_false,Bool.false_eq_true,eq_self,oJ_] at h;subst h;exact⟨.int k<|k.wrap<|a.tdiv b,by simp[binOp,Op.intDiv,hb],vint _ _⟩
  case rem=>
   by_cases hb:b=0
   ·simp[hb] at h
   simp only[hb,decide_false,if_true,if_false,Bool.false_eq_true,eq_self,oJ_] at h;subst h;exact⟨.int k<|a.tmod b,by simp[binOp,Op.intDiv,hb],vint _ _⟩
  case and=>cases h;exact⟨_,by simp only[binOp,ne_eq,not_true_eq_false,if_false];rfl,vint _ _⟩
  case or=>cases h;exact⟨_,by simp only[binOp,ne_eq,not_true_eq_false,if_false];rfl,vint _ _⟩
  case xor=>cases h;exact⟨_,by simp only[binOp,ne_eq,not_true_eq_false,if_false];rfl,vint _ _⟩
  case andNot=>cases h;exact⟨_,by simp only[binOp,ne_eq,not_true_eq_false,if_false];rfl,vint _ _⟩
  case eql=>cases h;exact⟨.bool (a == b),by simp[binOp,Op.intCmp],by grind⟩
  case neq=>
   cases h;refine⟨.bool (a !=b),by simp[binOp,Op.intCmp],?_⟩
   grind
  case lss=>cases h;exact⟨.bool<|decide (a<b),by simp[binOp,Op.intCmp],vbool _⟩
  case leq=>
   cases h;refine⟨.bool<|decide (a<=b),by simp[binOp,Op.intCmp],?_⟩
   grind
  case gtr=>cases h;exact⟨.bool<|decide (b<a),by simp[binOp,Op.intCmp],vbool _⟩
  case geq=>
   cases h;refine⟨.bool<|decide (b<=a),by simp[binOp,Op.intCmp],?_⟩
   grind
theorem MN {op:BinOp} {t:TypeId} {a b:List Nat} {x y:ByteArray} {v:U} (hx:gG a x) (j:gG b y) (h:sU P op t (.str a) (.str b)=some v):
  ∃z,(binOp op t (.string x) (.string y)).run P w= .ok z w/\VR J v z:=by
 unfold sU at h;have lx:=jy hx;have ly:=jy j;have e1:=og hx j;have e2:=zY hx j;have e3:=zY j hx
 have e4:∀s u:List UInt8,Op.bytesLess u s= !(Op.bytesLess s u || s == u):=by
  intro s;induction s with
  | nil=>intro u;cases u<;>simp[Op.bytesLess]
  | cons c s ih=>
   intro u;cases u with
   | nil=>simp[Op.bytesLess]
   | cons d u=>
    grind [Op.bytesLess]
 cases op<;>simp only[bE] at h<;>(try (cases h;done))
 case add=>
  split at h
  ·rename_i hb;cases h;rw[nE_,lx,ly] at hb
   refine⟨.string (x++y),?_,by
    simp only[VR];refine⟨_,Z,?_⟩;unfold gG at hx j⊢;rw[eb,<-hx,<-j];simp⟩
   have:¬(((x.size+y.size:Nat):Int)>IntKind.i64.max):=by
    have e:IntKind.i64.max=9223372036854775807:=by decide
    rw[e];omega
   simp only[binOp,Op.stringOp];rw[if_neg this];rfl
  cases h
 case eql=>cases h;exact⟨.bool (x.toList == y.toList),Z,by simp only[VR];rw[e1]⟩
 case neq=>cases h;exact⟨.bool (!(x.toList == y.toList)),Z,by grind [VR]⟩
 case lss=>cases h;exact⟨.bool<|Op.bytesLess x.toList y.toList,Z,by simp only[VR];rw[e2]⟩
 case leq=>
  cases h;refine⟨.bool (Op.bytesLess x.toList y.toList || x.toList == y.toList),Z,?_⟩
  grind [VR]
 case gtr=>
  cases h;refine⟨.bool (!(Op.bytesLess x.toList y.toList || x.toList == y.toList)),Z,?_⟩;simp only[VR];grind
 case geq=>
  cases h;refine⟨.bool (!(Op.bytesLess x.toList y.toList)),Z,?_⟩
  grind [VR]
theorem Hp {op:BinOp} {t:TypeId} {x y v:U} {a c:Value} (hx:VR J x a) (j:VR J y c) (h:sU P op t x y=some v) (xo yo:Operand):
  ∃z,(eqGuard op t xo yo a c).run P w= .ok () w/\(binOp op t a c).run P w= .ok z w/\VR J v z:=by
 have other:(∀k n,x≠ .int k n)->(∀s,x≠ .str s)->(∀b,x≠ .bool b)->x≠ .any->(∀a,x≠ .ow a)->(∀a,x≠ .tok a)->
   ∃z,(eqGuard op t xo yo a c).run P w= .ok () w/\(binOp op t a c).run P w= .ok z w/\VR J v z:=by
  intro h1 u C h4 h5 K
  have h':mW P op t x y=some v:=by
   rw[<-h];unfold sU;split
   ·exact absurd Z<|h1 _ _
   ·exact absurd Z<|u _
   ·exact absurd Z<|C _
   rfl
  have A:(∀k m k' m',¬(a= .int k m/\c= .int k' m'))/\(∀k m k' m',¬(a= .float k m/\c= .float k' m'))/\(∀k m n k' m' n',¬(a= .complex k m n/\c= .complex k' m' n'))/\(∀s s',¬(a= .string s/\c= .string s')):=by
   cases x with
   | int k n=>exact absurd Z (h1 k n)
   | str s=>exact absurd Z (u s)
   | bool b=>exact absurd Z (C b)
   | any=>exact absurd Z h4
   | ow a=>exact absurd Z (h5 a)
   | tok a=>exact absurd Z (K a)
   | slice b off len cap=>obtain⟨_,_,rfl⟩:=VR.jv hx;simp
   | _=>simp only[VR] at hx;first | (subst hx;simp;done) | (obtain⟨_,_,rfl⟩:=hx;simp;done) | (obtain⟨_,rfl,_⟩:=hx;simp;done) | (obtain⟨_,_,rfl,_⟩:=hx;simp;done)
  obtain⟨E,F,G,I⟩:=A;cases op<;>(try (cases h';done))
  case eql=>
   dsimp only[mW] at h';cases hq:EG P t x y with
   | none=>rw[hq] at h';cases h'
   | some b=>
    rw[hq] at h';cases h';obtain⟨g1,B⟩:=pL (P:=P) (w:=w) hq hx j .eql xo yo;exact⟨_,g1,(nz B E F G I).1,by simp only[VR]⟩
  case neq=>
   dsimp only[mW] at h';cases hq:EG P t x y with
   | none=>rw[hq] at h';cases h'
   | some b=>
    rw[hq] at h';cases h';obtain⟨g1,B⟩:=pL (P:=P) (w:=w) hq hx j .neq xo yo;exact⟨_,g1,(nz B E F G I).2,by simp only[VR];rw[cond_not]⟩
 cases x with
 | int k n=>
  cases y with
  | int k' n'=>
   simp only[VR] at hx j;subst hx;subst j;obtain⟨z,h1,u⟩:=MM (J:=J) (w:=w) h;exact⟨z,dc op t xo yo _ _ (by simp) (by simp),h1,u⟩
  | _=>unfold sU at h;cases op<;>first | (simp[mW,EG] at h;done) | (cases h;done)
 | str s=>
  cases y with
  | str s'=>
   simp only[VR] at hx j;obtain⟨x,rfl,hx⟩:=hx;obtain⟨y,rfl,j⟩:=j;obtain⟨z,h1,u⟩:=MN (J:=J) (w:=w) hx j h;exact⟨z,dc op t xo yo _ _ (by simp) (by simp),h1,u⟩
  | _=>unfold sU at h;cases op<;>first | (simp[mW,EG] at h;done) | (cases h;done)
 | bool b=>
  cases y with
  | bool b'=>
   simp only[VR] at hx j;subst hx;subst j;unfold sU at h;refine(fun(L:∃z,(binOp op t (.bool b) (.bool b')).run P w= .ok z w/\VR J v z)=>let ⟨z,h1,u⟩:=L;⟨z,dc op t xo yo _ _ (by simp) (by simp),h1,u⟩) ?_;dsimp only at h;split at h
   ·rename_i hu;cases h;exact⟨_,run_eql_bool w t b b' hu,by simp only[VR];rw[pI]⟩
   ·rename_i hu;cases h;refine⟨_,run_neq_bool w t b b' hu,?_⟩;simp only[VR];rw[JD];cases b<;>cases b'<;>rfl
   cases h
  | _=>unfold sU at h;cases op<;>first | (simp[mW,EG] at h;done) | (cases h;done)
 | any=>unfold sU at h;cases op<;>first | (simp[mW,EG] at h;done) | (cases h;done)
 | ow a=>unfold sU at h;cases op<;>first | (simp[mW,EG] at h;done) | (cases h;done)
 | tok a=>unfold sU at h;cases op<;>first | (simp[mW,EG] at h;done) | (cases h;done)
 | _=>exact other (by simp) (by simp) (by simp) (by simp) (by simp) (by simp)
theorem El {op:BinOp} {t:TypeId} {x y v:U} {a c:Value} (hx:VR J x a) (j:VR J y c) (h:Jo P op t x y=some v) (xo yo:Operand):
  ∃z,(eqGuard op t xo yo a c).run P w= .ok () w/\(binOp op t a c).run P w= .ok z w/\VR J v z:=by
 unfold Jo at h;split at h
 ·split at h
  ·rename_i u1 u2 n;simp only[bE] at h;split at h
   ·rename_i m hle;cases h;rw[nE_] at hle;simp only[VR] at hx j;obtain⟨k,rfl,hk⟩:=j;subst hx;have u:¬((k:Int)<Int.ofNat n):=by grind
    exact⟨.bool<|decide ((k:Int)<Int.ofNat n),dc .gtr t xo yo _ _ (by simp) (by simp),by simp[binOp,Op.intCmp],by simp only[VR,u,decide_false]⟩
   cases h
  cases h
 exact Hp hx j h xo yo
theorem Em {op:BinOp} {t:TypeId} {x y v:U} {a c:Value} (hx:VR J x a) (j:VR J y c) (xo yo:Operand) (h:r8 P (zy xo || zy yo) op t x y=some v):
  ∃z,(eqGuard op t xo yo a c).run P w= .ok () w/\(binOp op t a c).run P w= .ok z w/\VR J v z:=by
 by_cases u:x= .nilIface/\y= .nilIface
 ·obtain⟨rfl,rfl⟩:=u;simp only[VR] at hx j;subst hx;subst j;have h:KS P op t (zy xo || zy yo)=some v:=h;unfold KS at h;rw[bE] at h;split at h
  ·rename_i hk
   have hg:(eqGuard op t xo yo .nilIface .nilIface).run P w= .ok () w:=by
    unfold eqGuard;cases xo<;>cases yo<;>first | exact absurd hk Bool.false_ne_true | (cases op<;>simp)
   split at h
   ·rename_i ms hu
    have heq:(Op.equal t .nilIface .nilIface).run P w= .ok true w:=by
     have:∀d,(Op.equalIn (d+1) t .nilIface .nilIface).run P w= .ok true w:=fun d=>by simp[Op.equalIn,run_underlying hu]
     exact this 9999
    have hb:=nz heq (fun k m k' m' h=>by cases h.1) (fun k m k' m' h=>by cases h.1) (fun k m n k' m' n' h=>by cases h.1) (fun s s' h=>by cases h.1)
    grind [VR]
   cases h
  cases h
 have h':Jo P op t x y=some v:=by
  cases x<;>first | exact h | (cases y<;>first | exact h | simp_all)
 exact El hx j h' xo yo
end
section
variable {P:Program} {J:dh} {w:World}
theorem jl {ev:Operand->Option U} {f:Operand->Value} {x:Operand} {y i:Nat} (h:fh ev x y=some i) (hx:∀v,ev x=some v->VR J v (f x)) (code:BoundsCode):
  (Instr.sliceBound (f x) y code).run P w= .ok i w/\i<=y:=by
 unfold fh at h;split at h
 ·rename_i k j hv;simp only[bE] at h;split at h
  ·rename_i hb;cases h;rw[nE_] at hb;have hf:=hx _ hv;simp only[VR] at hf;rw[hf];refine⟨?_,hb⟩;have h2:(0:Int)<=Int.ofNat i/\Int.ofNat i<=(y:Int):=⟨Int.natCast_nonneg _,Int.ofNat_le.2 hb⟩;simp only[Instr.sliceBound,asIntOf,sB_,sP_,rA]
   simp_all
  cases h
 cases h
theorem ir {ev:Operand->Option U} {f:Operand->Value} {len cap l h:Nat} {lo hi:Option Operand} (hb:dE ev len cap lo hi=some (l,h))
  (j:∀x,lo=some x->∀v,ev x=some v->VR J v (f x)) (u:∀x,hi=some x->∀v,ev x=some v->VR J v (f x)) (isSlice:Bool):
  (Instr.sliceBounds isSlice len cap (lo.map f) (hi.map f) none).run P w= .ok (l,h,cap) w/\l<=h/\(len<=cap->h<=cap):=by
 unfold dE at hb;cases hi with
 | none=>
  dsimp only at hb;cases lo with
  | none=>
   dsimp only at hb;cases hb;refine⟨?_,Nat.zero_le _,id⟩;simp[Instr.sliceBounds]
  | some x=>
   dsimp only at hb;cases hx:fh ev x len with
   | none=>simp_all
   | some l'=>
    rw[hx] at hb;cases hb;obtain⟨r,hle⟩:=jl (P:=P) (w:=w) hx (j x Z) .sliceB;refine⟨?_,hle,id⟩;simp[Instr.sliceBounds,r]
 | some y=>
  dsimp only at hb;cases z:fh ev y cap with
  | none=>simp_all
  | some h'=>
   rw[z] at hb;dsimp only at hb;obtain⟨r,hle⟩:=jl (P:=P) (w:=w) z (u y Z) (if isSlice then .sliceAcap else .sliceAlen);cases lo with
   | none=>
    dsimp only at hb;cases hb;refine⟨?_,Nat.zero_le _,fun _=>hle⟩;simp[Instr.sliceBounds,r]
   | some x=>
    dsimp only at hb;cases hx:fh ev x h' with
    | none=>simp_all
    | some l'=>
     rw[hx] at hb;cases hb;obtain⟨A,m⟩:=jl (P:=P) (w:=w) hx (j x Z) .sliceB;refine⟨?_,m,fun _=>hle⟩;simp[Instr.sliceBounds,r,A]
theorem nj {ev:Operand->Option U} {f:Operand->Value} {len cap l h m:Nat} {lo:Option Operand} {hi mx:Operand} (hm:fh ev mx cap=some m) (hb:dE ev m m lo (some hi)=some (l,h))
  (z:∀x,lo=some x->∀v,ev x=some v->VR J v (f x)) (A:∀v,ev hi=some v->VR J v (f hi)) (B:∀v,ev mx=some v->VR J v (f mx)) (isSlice:Bool):
  (Instr.sliceBounds isSlice len cap (lo.map f) (some<|f hi)<|some<|f mx).run P w= .ok (l,h,m) w/\l<=h/\h<=m/\m<=cap:=by
 obtain⟨C,j⟩:=jl (P:=P) (w:=w) hm B (if isSlice then .slice3Acap else .slice3Alen);unfold dE at hb;dsimp only at hb;cases E:fh ev hi m with
 | none=>simp_all
 | some h'=>
  rw[E] at hb;dsimp only at hb;obtain⟨r,hle⟩:=jl (P:=P) (w:=w) E A .slice3B;cases lo with
  | none=>
   dsimp only at hb;cases hb;refine⟨?_,Nat.zero_le _,hle,j⟩;simp[Instr.sliceBounds,r,C]
  | some x=>
   dsimp only at hb;cases hx:fh ev x h' with
   | none=>simp_all
   | some l'=>
    rw[hx] at hb;cases hb;obtain⟨F,u⟩:=jl (P:=P) (w:=w) hx (z x Z) .slice3C;refine⟨?_,u,hle,j⟩;simp[Instr.sliceBounds,r,F,C]
theorem zh {e:TypeId} {b:Pos} {off lo hi m:Nat} {v:U} {l:Loc} (hl:J b=some l) (h:cut P e b off lo hi m=some v):
  ∃j,P.info? e=some j/\VR J v (.slice (some (if m=lo then(⟨l.dF,l.sh+off,none⟩:Addr) else(⟨l.dF,l.sh+off,none⟩:Addr).add (lo*j.size))) (hi-lo) (m-lo)):=by
 unfold cut at h;cases hj:P.info? e with
 | none=>rw[hj] at h;cases h
 | some j=>
  rw[hj] at h;cases h;refine⟨j,Z,?_⟩;simp only[VR];refine⟨l,hl,?_⟩;rw[Addr.add_eq _ _ Z]
  by_cases hm:m=lo
  ·simp_all
  have:Nat.beq m lo=false:=by
   grind [Nat.beq_eq]
  grind
section
variable {ev:Operand->Option U} {f:Operand->Value} {t:TypeId} {lo hi mx:Option Operand} {v:U}
theorem mV {e:TypeId} {b:Pos} {off len cap:Nat} {l:Loc} (hl:J b=some l) (h:cutAt P ev e b off len cap lo hi mx=some v) (isSlice:Bool)
  (u:∀x,lo=some x->∀v,ev x=some v->VR J v (f x)) (z:∀x,hi=some x->∀v,ev x=some v->VR J v (f x)) (A:∀x,mx=some x->∀v,ev x=some v->VR J v (f x)):
  ∃j l' h' m,(Instr.sliceBounds isSlice len cap (lo.map f) (hi.map f)<|mx.map f).run P w= .ok (l',h',m) w/\P.info? e=some j/\
   VR J v (.slice (some (if m=l' then(⟨l.dF,l.sh+off,none⟩:Addr) else(⟨l.dF,l.sh+off,none⟩:Addr).add (l'*j.size))) (h'-l') (m-l')):=by
 unfold cutAt at h;cases mx with
 | none=>
  dsimp only at h;cases hb:dE ev len cap lo hi with
  | none=>rw[hb] at h;cases h
  | some p=>
   obtain⟨l',h'⟩:=p;rw[hb] at h;obtain⟨r,_,_⟩:=ir (P:=P) (w:=w) hb u z isSlice;obtain⟨j,hj,hv⟩:=zh hl h
   grind
 | some x=>
  dsimp only at h;cases hm:fh ev x cap with
  | none=>simp_all
  | some m=>
   cases hi with
   | none=>rw[hm] at h;cases h
   | some y=>
    rw[hm] at h;dsimp only at h;cases hb:dE ev m m lo (some y) with
    | none=>rw[hb] at h;cases h
    | some p=>
     obtain⟨l',h'⟩:=p;rw[hb] at h;obtain⟨r,_⟩:=nj (P:=P) (w:=w) (len:=len) hm hb u (z y Z) (A x Z) isSlice;obtain⟨j,hj,hv⟩:=zh hl h
     grind
theorem jT {e:TypeId} {j:TypeInfo} {a:Addr} {len cap l h m:Nat} (hu:P.underlying t=some (.slice e)) (hj:P.info? e=some j) {lo hi mx:Option Value}
  (hb:(Instr.sliceBounds true len cap lo hi mx).run P w= .ok (l,h,m) w):
  (Instr.sliceAt t (.slice (some a) len cap) lo hi mx).run P w= .ok (.slice (some (if m=l then a else a.add (l*j.size))) (h-l) (m-l)) w:=by
 simp only[Instr.sliceAt,Instr.slice,sB_,run_underlying hu,rA,hb,cd hj,sP_];split<;>rfl
theorem Aj {len a c l' h':Nat} (aa:a<=c) (hb:dE ev len a lo hi=some (l',h')):dE ev len c lo hi=some (l',h'):=by
 have up:∀y i,fh ev y a=some i->fh ev y c=some i:=by
  intro y i j;unfold fh at j⊢;split at j
  ·rename_i k i' ab;simp only[bE] at j⊢;split at j
   ·rename_i hle;cases j;rw[nE_] at hle;rw[if_pos (by rw[nE_];omega)]
   cases j
  cases j
 unfold dE at hb⊢
 grind
theorem Dq {x:Operand} (h:gF P ev t x lo hi mx=some v)
  (hx:∀v,ev x=some v->VR J v (f x)) (B:∀x,lo=some x->∀v,ev x=some v->VR J v (f x)) (C:∀x,hi=some x->∀v,ev x=some v->VR J v (f x)) (E:∀x,mx=some x->∀v,ev x=some v->VR J v (f x)):
  ∃z,(Instr.sliceAt t (f x) (lo.map f) (hi.map f)<|mx.map f).run P w= .ok z w/\VR J v z:=by
 unfold gF at h;split at h
 ·rename_i e b off len cap hu u;have hv:=hx _ u;simp only[VR] at hv;obtain⟨l,hl,hf⟩:=hv;obtain⟨j,l',h',m,r,hj,I⟩:=mV (w:=w) hl h true B C E;rw[hf];exact⟨_,jT hu hj r,I⟩
 ·rename_i e b off len sz hu u;have hv:=hx _ u;cases mx with
  | none=>
   dsimp only at h;cases hb:dE ev len len lo hi with
   | none=>rw[hb] at h;cases h
   | some p=>
    obtain⟨l',h'⟩:=p;cases hj:P.info? e with
    | none=>simp_all
    | some j=>
     rw[hb,hj] at h;simp only[bE] at h;split at h
     ·rename_i G;rw[Nat.beq_eq] at G;cases h;obtain⟨r,hle,hle2⟩:=ir (P:=P) (w:=w) hb B C true;have hle2:=hle2 (nR_ _)
      have wider:∀c,len<=c->(Instr.sliceBounds true len c (lo.map f) (hi.map f) none).run P w= .ok (l',h',c) w:=by
       intro c hc
       have M:dE ev len c lo hi=some (l',h'):=by
        have up:∀y i,fh ev y len=some i->fh ev y c=some i:=by
         intro y i K;unfold fh at K⊢;split at K
         ·rename_i k i' aa;simp only[bE] at K⊢;split at K
          ·rename_i hle;cases K;rw[nE_] at hle;rw[if_pos (by rw[nE_];omega)]
          cases K
         cases K
        unfold dE at hb⊢
        grind
       exact(ir (P:=P) (w:=w) M B C true).1
      simp only[VR] at hv;obtain⟨l,hl,⟨c,hf,hc,A⟩ | ⟨F,a,hf⟩⟩:=hv
      ·rw[hf];refine⟨_,jT hu hj<|wider c hc,?_⟩;simp only[VR];refine⟨l,hl,?_⟩
       by_cases Q:c=l'
       ·grind
       left;refine⟨c-l',?_,by omega,?_⟩
       ·rw[if_neg Q,Addr.add_eq _ _ Z,G,Nat.add_assoc]
       rw[<-A];have:c=l'+(c-l'):=by omega
       grind
      rw[hf];subst F;refine⟨_,jT hu hj<|wider 0<|nR_ _,?_⟩
      simp_all
     cases h
  | some m=>
   simp only[bE] at h;split at h
   ·cases h
   rename_i ab;simp only[VR] at hv;obtain⟨l,hl,⟨c,hf,hc,A⟩ | ⟨F,a,hf⟩⟩:=hv
   ·
    obtain⟨j,l',h',m',r,hj,I⟩:=mV (w:=w) hl h true B C E
    have r':(Instr.sliceBounds true len c (lo.map f) (hi.map f)<|some<|f m).run P w= .ok (l',h',m') w:=by
     unfold cutAt at h;dsimp only at h;cases hm:fh ev m len with
     | none=>simp_all
     | some m0=>
      cases hi with
      | none=>rw[hm] at h;cases h
      | some y=>
       rw[hm] at h;dsimp only at h;cases hb:dE ev m0 m0 lo (some y) with
       | none=>rw[hb] at h;cases h
       | some p=>
        obtain⟨l0,h0⟩:=p
        have R:fh ev m c=some m0:=by
         unfold fh at hm⊢;split at hm
         ·simp only[bE] at hm⊢;split at hm
          ·rename_i hle;cases hm;rw[nE_] at hle;rw[if_pos (by rw[nE_];omega)]
          cases hm
         cases hm
        obtain⟨r1,_⟩:=nj (P:=P) (w:=w) (len:=len) hm hb B (C y Z) (E m Z) true;obtain⟨r2,_⟩:=nj (P:=P) (w:=w) (len:=len) R hb B (C y Z) (E m Z) true
        simp_all
    rw[hf];exact⟨_,jT hu hj r',I⟩
   simp_all
 ·rename_i e b off len a sz hu u;have hv:=hx _ u;simp only[VR] at hv;obtain⟨l,hl,c,hf,S,A⟩:=hv;cases mx with
  | some _=>cases h
  | none=>
   dsimp only at h;cases hb:dE ev len a lo hi with
   | none=>rw[hb] at h;cases h
   | some p=>
    obtain⟨l',h'⟩:=p;cases hj:P.info? e with
    | none=>simp_all
    | some j=>
     rw[hb,hj] at h;simp only[bE] at h;split at h
     ·rename_i hc;cases h;simp only[bA_,Nat.beq_eq,nE_] at hc;obtain⟨G,ac,am⟩:=hc;obtain⟨r,hle,hle2⟩:=ir (P:=P) (w:=w) (Aj S hb) B C true;rw[hf];refine⟨_,jT hu hj r,?_⟩;simp only[VR];refine⟨l,hl,c-l',?_,by omega,?_⟩
      ·rw[if_neg oM,Addr.add_eq _ _ Z,G,Nat.add_assoc]
      rw[<-A];have:c=l'+(c-l'):=by omega
      grind
     cases h
 ·rename_i e hu u;have hv:=hx _ u;simp only[VR] at hv;cases mx with
  | some _=>cases h
  | none=>
   dsimp only at h;cases hb:dE ev 0 0 lo hi with
   | none=>rw[hb] at h;cases h
   | some p=>
    obtain⟨l',h'⟩:=p;cases L:P.info? e with
    | none=>simp_all
    | some je=>
    rw[hb,L] at h;cases h;obtain⟨r,hle,hle2⟩:=ir (P:=P) (w:=w) hb B C true;have hle2:=hle2 (nR_ _);have:l'=0:=by omega
    have:h'=0:=by omega
    subst_vars
    rw[hv];refine⟨.slice none 0 0,?_,by simp only[VR]⟩;simp[Instr.sliceAt,Instr.slice,run_underlying hu,r,cd L]
 ·rename_i n e b off hu u;have hv:=hx _ u;simp only[VR] at hv;obtain⟨l,hl,hf⟩:=hv;obtain⟨j,l',h',m,r,hj,I⟩:=mV (w:=w) hl h false B C E;rw[hf];refine⟨_,?_,I⟩;simp only[Instr.sliceAt,sB_,run_underlying hu,rA,Instr.sureAddr,sP_,r,cd hj]
 ·rename_i arr b off hu u;have hv:=hx _ u;simp only[VR] at hv;obtain⟨l,hl,hf⟩:=hv;split at h
  ·rename_i n e T;obtain⟨j,l',h',m,r,hj,I⟩:=mV (w:=w) hl h false B C E;rw[hf];refine⟨_,?_,I⟩;simp only[Instr.sliceAt,Instr.slice,sB_,run_underlying hu,run_underlying T,asAddr,rA,sP_,r,cd hj]
  cases h
 ·rename_i s hu u;have hv:=hx _ u;simp only[VR] at hv;obtain⟨bs,hf,W⟩:=hv;cases mx with
  | some _=>cases h
  | none=>
   dsimp only at h;cases hb:dE ev (du s) (du s) lo hi with
   | none=>rw[hb] at h;cases h
   | some p=>
    obtain⟨l',h'⟩:=p;rw[hb] at h;cases h;rw[jy W] at hb;obtain⟨r,hle,hle2⟩:=ir (P:=P) (w:=w) hb B C false;rw[hf];refine⟨.string<|bs.extract l' h',?_,?_⟩
    ·simp[Instr.sliceAt,Instr.slice,run_underlying hu,r]
    simp only[VR];refine⟨_,Z,?_⟩
    grind [gG,dR,eA,Lib.extract_data,List.map_take,List.map_drop]
 cases h
end
end
section
variable {P:Program} {J:dh} {w:World}
theorem yb {t:TypeId} {cs:List U} {ys:Array Value} {off:Nat} {v:U} (h:GI P t cs off=some v) (hc:dw J cs ys.toList):∃y,(part t ys off).run P w= .ok y w/\VR J v y:=by
 unfold GI at h;split at h
 ·rename_i n j;cases h;obtain⟨d,i,hu,hi,m,u⟩:=r3 j;refine⟨.agg<|ys.extract off (off+n),?_,?_⟩
  ·simp only[part,sB_,ff hu,u,rA,if_true,cd hi,m,sP_]
  simp only[VR];refine⟨_,Z,?_⟩;rw[dR,eA,Array.toList_extract];have:=(hc.drop off).take n
  simp_all
 ·rename_i j;obtain⟨d,i,hu,hi,u⟩:=wK j;rw[fG] at h;obtain⟨y,h1,z⟩:=hc.get h;refine⟨y,?_,z⟩;have:ys[off]?=some y:=by simp_all
  simp only[part,sB_,ff hu,u,rA,Bool.false_eq_true,if_false,this,sP_]
 cases h
theorem gO {ev:Operand->Option U} {f:Operand->Value}:∀{l:List Operand} {vs:List U},dB ev l=some vs->(∀x∈l,∀v,ev x=some v->VR J v (f x))->dw J vs (l.map f)
 | [],vs,h,_=>by rw[hJ] at h;cases h;exact dw.nil
 | x::l,vs,h,j=>by
  obtain⟨y,r,h1,m,rfl⟩:=gw h;exact dw.cons (j x (by simp) y h1)<|gO m fun z u=>j z (by simp[u])
theorem H6 {t ty:TypeId} {x:U} {y:Value} {n:Nat} {ts:Array TypeId} (h:yS P t x=some n) (hx:VR J x y) (j:ts[0]?=some t):(Builtin.len_ ts ty #[y]).run P w= .ok (.int .i64<|Int.ofNat n) w:=by
 unfold yS at h;split at h
 ·rename_i s hu;cases h;simp only[VR] at hx;obtain⟨bs,rfl,u⟩:=hx;rw[jy u];simp[Builtin.len_,j,run_underlying hu,goInt]
 ·rename_i m e hu;cases h;simp[Builtin.len_,j,run_underlying hu,goInt]
 ·rename_i e b off m cap hu;cases h;obtain⟨a,c,rfl⟩:=VR.jv hx;simp[Builtin.len_,j,run_underlying hu,goInt]
 ·rename_i e hu;cases h;simp only[VR] at hx;subst hx;simp[Builtin.len_,j,run_underlying hu,goInt]
 ·rename_i k e hu;cases h;simp only[VR] at hx;subst hx;simp[Builtin.len_,j,run_underlying hu,goInt]
 cases h
theorem xX {x:U} {y:Value} (hx:VR J x y) (h:x≠ .gR/\x≠ .nilIface/\x≠ .nilFunc/\(∀l,x≠ .yield l)/\x≠ .any/\(∀n,x≠ .tok n)) (f:Operand->Value) (o:Oper) (z:Operand) (j:o.op= .nilCheck z) (hf:f z=y):
  (execOp f o).run P w= .ok (.value y) w:=by
 have key:(y≠ .pointer none)/\y≠ .nilIface/\y≠ .nilFunc/\∀n a b,y≠ .func (.method n) a b:=by
  obtain⟨h1,m,u,h4,h5,A⟩:=h;cases x with
  | tok n=>exact absurd Z (A n)
  | any=>exact absurd Z h5
  | gR=>exact absurd Z h1
  | nilIface=>exact absurd Z m
  | nilFunc=>exact absurd Z u
  | yield l=>exact absurd Z (h4 l)
  | slice b off len cap=>obtain⟨_,_,rfl⟩:=VR.jv hx;simp
  | _=>simp only[VR] at hx;first | (subst hx;simp;done) | (obtain⟨_,_,rfl⟩:=hx;simp;done) | (obtain⟨_,rfl,_⟩:=hx;simp;done) | (obtain⟨_,_,rfl,_⟩:=hx;simp;done)
 obtain⟨B,C,E,F⟩:=key;simp only[execOp,j,hf,B,C,E,F];rfl
theorem yj {ev:Operand->Option U} {f:Operand->Value} {o:Oper} {v:U} (B:ER J ev f o.op) (h:dI P ev o.op=some v):
  ∃x,(execOp f o).run P w= .ok (.value x) w/\VR J v x:=by
 cases E:o.op with
 | move x=>
  rw[E] at h B;exact⟨f x,by simp[execOp,E],B x (by simp[Op.operands]) v h⟩
 | assign x=>
  rw[E] at h B;exact⟨f x,by simp[execOp,E],B x (by simp[Op.operands]) v h⟩
 | pick c a b=>
  rw[E] at h B;simp only[dI] at h;split at h
  ·rename_i hc;have:=B c (by simp[Op.operands]) _ hc;simp only[VR] at this;exact⟨f a,by simp[execOp,E,this,asBool],B a (by simp[Op.operands]) v h⟩
  ·rename_i hc;have:=B c (by simp[Op.operands]) _ hc;simp only[VR] at this;exact⟨f b,by simp[execOp,E,this,asBool],B b (by simp[Op.operands]) v h⟩
  cases h
 | build t parts=>
  rw[E] at h B;obtain⟨x,h1,M⟩:=BY (J:=J) (w:=w) (f:=f) (fun p hp u hu=>B p.2 (by simp only[Op.operands,List.mem_toArray,List.mem_map];grind) u hu) h
  grind [execOp,sB_,rA,sP_]
 | nilCheck x=>
  rw[E] at h B;simp only[dI] at h;split at h
  ·cases h
  ·cases h
  ·cases h
  ·cases h
  ·cases h
  ·cases h
  rename_i n1 n2 n3 n4 n5 n6;have hv:=B x (by simp[Op.operands]) v h;exact⟨f x,xX hv ⟨fun e=>n1 (by rw[h,e]),fun e=>n2 (by rw[h,e]),fun e=>n3 (by rw[h,e]),(fun l e=>n4 l (by rw[h,e])),(fun e=>n5 (by rw[h,e])),fun k e=>n6 k (by rw[h,e])⟩ f o x E Z,hv⟩
 | binOp op t x y ty=>
  rw[E] at h B;simp only[dI] at h;split at h
  ·rename_i a b ha hb;obtain⟨z,h1,M,h3⟩:=Em (P:=P) (w:=w) (B x (by simp[Op.operands]) a ha) (B y (by simp[Op.operands]) b hb) x y h
   grind [execOp,sB_,rA,sP_]
  cases h
 | unOp op t x=>
  rw[E] at h B;simp only[dI] at h;split at h
  ·rename_i b hb;cases h;have:=B x (by simp[Op.operands]) _ hb;simp only[VR] at this;exact⟨.bool (!b),by simp[execOp,E,this,Op.unary],by simp only[VR];rw[cond_not]⟩
  ·rename_i k n hb;cases h;have:=B x (by simp[Op.operands]) _ hb;simp only[VR] at this;refine⟨.int k<|k.wrap (0-n),?_,by simp only[VR];rw[z8];rfl⟩
   grind [execOp,Op.unary,Op.intArith,sP_]
  ·rename_i k n hb;cases h;have:=B x (by simp[Op.operands]) _ hb;simp only[VR] at this;refine⟨.int k<|k.wrap (BitVec.ofInt k.bits (if k.signed then-1 else k.max) ^^^ BitVec.ofInt k.bits n).toNat,?_,by simp only[VR]⟩
   grind [execOp,Op.unary,Op.intBits,sP_]
  cases h
 | convert src dst x=>
  rw[E] at h B;simp only[dI] at h;split at h
  ·rename_i I K Q k1 k k2 n e1 G e3;cases h;have:=B x (by simp[Op.operands]) _ e3;simp only[VR] at this;refine⟨.int k<|k.wrap n,?_,by simp only[VR];rw[z8]⟩;simp[execOp,E,this,convert,run_underlying e1,run_underlying G,Conv.intToInt]
  ·rename_i I K Q s e1 G e3;cases h;have hv:=B x (by simp[Op.operands]) _ e3;have hv':=hv;simp only[VR] at hv';obtain⟨bs,hf,R⟩:=hv';refine⟨f x,?_,hv⟩;rw[hf];simp[execOp,E,hf,convert,run_underlying e1,run_underlying G]
  cases h
 | makeInterface t x=>
  rw[E] at h B;simp only[dI] at h;split at h
  ·cases h
  ·rename_i I K d u hn e1 G;cases h;have hv:=B x (by simp[Op.operands]) _ G;refine⟨.iface t<|f x,?_,by simp only[VR];simp_all⟩;simp only[execOp,E,Instr.makeInterface,sB_,run_underlying e1,rA]
   simp_all
  cases h
 | makeFunc fn first captured=>
  rw[E] at h B;simp only[dI] at h;split at h
  ·rename_i I K Q g a b e1 G;cases h;have ha:=gO (f:=f) e1 (fun x hx u hu=>B x (by grind [Op.operands]) u hu);have hb:=gO (f:=f) G (fun x hx u hu=>B x (by grind [Op.operands]) u hu);refine⟨.func (.func g) (first.map f)<|captured.map f,?_,by simp only[VR];exact⟨_,_,Z,by simpa using ha,by simpa using hb⟩⟩;simp[execOp,E,Instr.makeFunc]
  cases h
 | slice t x lo hi mx=>
  rw[E] at h B;obtain⟨z,h1,M⟩:=Dq (P:=P) (w:=w) (f:=f) h (B x (by simp[Op.operands])) (fun y S=>B y (by subst S;simp[Op.operands])) (fun y S=>B y (by subst S;simp[Op.operands])) (fun y S=>B y (by subst S;simp[Op.operands]))
  grind [execOp,sB_,rA,sP_]
 | fieldAddr s x i=>
  rw[E] at h B;simp only[dI] at h;split at h
  ·rename_i fs b off R hx;have hv:=B x (by simp[Op.operands]) _ hx;simp only[VR] at hv;obtain⟨l,hl,hf⟩:=hv;split at h
   ·rename_i fd T;split at h
    ·rename_i j hj;simp only[bE] at h;split at h
     ·cases h
     rename_i aa;cases h;have X:¬j.size=0:=fun e=>aa (by simp_all)
     refine⟨.pointer<|some ⟨l.dF,l.sh+(off+fd.offset),none⟩,?_,by simp only[VR];simp_all⟩;simp[execOp,E,Instr.fieldAt,run_underlying<|nC R,T,hf,Instr.sureAddr,fieldPlace,cd hj,X,Addr.add_eq,Nat.add_assoc]
    cases h
   cases h
  cases h
 | field t x i=>
  rw[E] at h B;simp only[dI] at h;split at h
  ·rename_i fs cs R hx;have hv:=B x (by simp[Op.operands]) _ hx;simp only[VR] at hv;obtain⟨ys,hf,hc⟩:=hv;split at h
   ·rename_i fd T;obtain⟨y,h1,M⟩:=yb (P:=P) (w:=w) h hc;refine⟨y,?_,M⟩;simp[execOp,E,Instr.field,run_underlying<|nC R,T,hf,asAgg,h1]
   cases h
  cases h
 | indexAddr t x i=>
  rw[E] at h B;simp only[dI] at h;split at h
  ·rename_i I K Q e b off len cap k n hu hx hi;have hv:=B x (by simp[Op.operands]) _ hx;have hn:=B i (by simp[Op.operands]) _ hi;simp only[VR] at hn;split at h
   ·rename_i j hj;simp only[bE] at h;split at h
    ·rename_i F;cases h;rw[nE_] at F;have F:n<len:=F;have L:(0:Int)<=Int.ofNat n/\Int.ofNat n<(len:Int):=⟨Int.natCast_nonneg _,Int.ofNat_lt.2 F⟩
     have go:∀(a:Addr) (c:Nat),f x= .slice (some a) len c->(execOp f o).run P w= .ok (.value (.pointer<|some<|a.add (n*j.size))) w:=by
      intro a c hf;simp only[execOp,E,Instr.indexAt,hn,hf,asIntOf,sB_,sP_,run_underlying hu,rA];rw[if_pos L];simp[cd hj]
     cases cap with
     | known c=>
      simp only[VR] at hv;obtain⟨l,hl,hf⟩:=hv;refine⟨_,go _ _ hf,?_⟩;simp only[VR];exact⟨l,hl,by rw[Addr.add_eq _ _ Z,Nat.add_assoc]⟩
     | least a sz=>
      simp only[VR] at hv;obtain⟨l,hl,c,hf,_⟩:=hv;refine⟨_,go _ _ hf,?_⟩;simp only[VR];exact⟨l,hl,by rw[Addr.add_eq _ _ Z,Nat.add_assoc]⟩
     | upto sz=>
      simp only[VR] at hv;obtain⟨l,hl,⟨c,hf,_⟩ | ⟨h0,_⟩⟩:=hv
      ·refine⟨_,go _ _ hf,?_⟩;simp only[VR];exact⟨l,hl,by rw[Addr.add_eq _ _ Z,Nat.add_assoc]⟩
      omega
    cases h
   cases h
  ·rename_i I K Q m e b off k n hu hx hi;have hv:=B x (by simp[Op.operands]) _ hx;have hn:=B i (by simp[Op.operands]) _ hi;simp only[VR] at hn hv;obtain⟨l,hl,hf⟩:=hv;split at h
   ·rename_i j hj;simp only[bE] at h;split at h
    ·rename_i F;cases h;rw[nE_] at F;have F:n<m:=F;have L:(0:Int)<=Int.ofNat n/\Int.ofNat n<(m:Int):=⟨Int.natCast_nonneg _,Int.ofNat_lt.2 F⟩;refine⟨.pointer<|some ⟨l.dF,l.sh+(off+n*j.size),none⟩,?_,by simp only[VR];simp_all⟩;simp only[execOp,E,Instr.indexAt,hn,hf,asIntOf,sB_,sP_,run_underlying hu,rA,Instr.sureAddr];rw[if_pos L];simp[cd hj,Addr.add_eq,Nat.add_assoc]
    cases h
   cases h
  cases h
 | index t x i=>
  rw[E] at h B;simp only[dI] at h;split at h
  ·rename_i I K Q m e cs k n hu hx hi;have hv:=B x (by simp[Op.operands]) _ hx;have hn:=B i (by simp[Op.operands]) _ hi;simp only[VR] at hn hv;obtain⟨ys,hf,hc⟩:=hv;simp only[bE] at h;split at h
   ·rename_i F;rw[nE_] at F;have F:n<m:=F;have L:(0:Int)<=Int.ofNat n/\Int.ofNat n<(m:Int):=⟨Int.natCast_nonneg _,Int.ofNat_lt.2 F⟩;split at h
    ·rename_i j hj;obtain⟨y,h1,M⟩:=yb (P:=P) (w:=w) h hc;refine⟨y,?_,M⟩;simp only[execOp,E,Instr.index,hn,hf,asIntOf,sB_,sP_,run_underlying hu,rA];rw[if_pos L];simp[cd hj,h1]
    cases h
   cases h
  ·rename_i I K Q s k n hu hx hi;have hv:=B x (by simp[Op.operands]) _ hx;have hn:=B i (by simp[Op.operands]) _ hi;simp only[VR] at hn hv;obtain⟨bs,hf,R⟩:=hv;split at h
   ·rename_i c hc;cases h;rw[fG] at hc;unfold gG at R;rw[<-R,gM_] at hc;cases hb:bs.data.toList[n]? with
    | none=>simp_all
    | some bt=>
     rw[hb] at hc;cases hc;have ab:bs[n]?=some bt:=by rw[<-hb,aT_];rfl
     refine⟨.int .u8 (bt.toNat:Int),?_,by simp only[VR];rfl⟩;have h0:(0:Int)<=Int.ofNat n:=Int.natCast_nonneg _;simp only[execOp,E,Instr.index,hn,hf,asIntOf,sB_,sP_,run_underlying hu,rA]
     simp_all
   cases h
  cases h
 | typeAssert x xt ty ok=>
  rw[E] at h B;simp only[dI] at h
  have zero:∀{v:U},((fl P ty).map fun z=>U.tuple [z,.bool false])=some v->∃z,(zeroValue ty).run P w= .ok z w/\VR J v (.tuple #[z,.bool false]):=fun {v} X=>by
   cases hq:fl P ty with
   | none=>simp_all
   | some z=>
    rw[hq] at X;cases X;obtain⟨i,y,hi,S,hv⟩:=qA hq;refine⟨y,by simp[zeroValue,typeInfo,hi,S],?_⟩;simp only[VR];exact⟨_,Z,dw.cons (hv J)<|dw.cons (by simp only[VR]) dw.nil⟩
  split at h
  ·cases h
  ·rename_i I K d u v' hn e1 G;have hv:=B x (by simp[Op.operands]) _ G;simp only[VR] at hv;obtain⟨y,hf,hv⟩:=hv;rw[bE] at h;split at h
   ·rename_i hu;have:=nB hu;subst this;cases ok with
    | true=>
     simp only[cond_true] at h;cases h;refine⟨.tuple #[y,.bool true],?_,by simp only[VR];exact⟨_,Z,dw.cons hv<|dw.cons (by simp only[VR]) dw.nil⟩⟩;simp only[execOp,E,Instr.typeAssert,hf,sB_,run_underlying e1,rA]
     simp_all
    | false=>
     simp only[cond_false] at h;cases h;refine⟨y,?_,hv⟩;simp only[execOp,E,Instr.typeAssert,hf,sB_,run_underlying e1,rA]
     simp_all
   rename_i hu;have aa:¬u=ty:=fun e=>hu (by simp_all)
   cases ok with
   | true=>
    obtain⟨z,X,W⟩:=zero h;refine⟨_,?_,W⟩;simp only[execOp,E,Instr.typeAssert,hf,sB_,run_underlying e1,rA]
    simp_all
   | false=>cases h
  ·rename_i I K d hn e1 G;have hv:=B x (by simp[Op.operands]) _ G;simp only[VR] at hv;cases ok with
   | true=>
    obtain⟨z,X,W⟩:=zero h;refine⟨_,?_,W⟩;simp only[execOp,E,Instr.typeAssert,hv,sB_,run_underlying e1,rA]
    simp_all
   | false=>cases h
  cases h
 | extract x i=>
  rw[E] at h B;simp only[dI] at h;split at h
  ·rename_i vs hx;have hv:=B x (by simp[Op.operands]) _ hx;simp only[VR] at hv;obtain⟨ys,hf,hc⟩:=hv;rw[fG] at h;obtain⟨y,h1,M⟩:=hc.get h;have:ys[i]?=some y:=by simp_all
   exact⟨y,by simp[execOp,E,Instr.extract,hf,this],M⟩
  cases h
 | call c=>
  rw[E] at h B;simp only[dI] at h;split at h
  ·rename_i C;split at h
   ·rename_i I K t x e1 G;split at h
    ·rename_i u hu;cases hl:yS P t u with
     | none=>rw[hl] at h;cases h
     | some n=>
      rw[hl] at h;cases h;have A:c.args= #[x]:=by grind
      have hv:=B x (by simp[Op.operands,Call.operands,C,A]) u hu;refine⟨.int .i64<|Int.ofNat n,?_,by simp only[VR]⟩;have:=H6 (P:=P) (w:=w) (ty:=o.type) hl hv e1;simp[execOp,E,resolve,C,A,invoke,builtin,this]
    cases h
   cases h
  ·rename_i C;split at h
   ·rename_i I K t x e1 G;split at h
    ·rename_i Q u4 e u hu hx;have A:c.args= #[x]:=by grind
     have hv:=B x (by simp[Op.operands,Call.operands,C,A]) u hx;unfold QF at h;split at h
     ·rename_i b off len k;cases h;simp only[VR] at hv;obtain⟨l,hl,hf⟩:=hv;refine⟨.int .i64<|Int.ofNat k,?_,by simp only[VR]⟩;simp[execOp,E,resolve,C,A,invoke,builtin,Builtin.cap_,e1,run_underlying hu,hf,goInt]
     ·rename_i b off len a sz;cases h;simp only[VR] at hv;obtain⟨l,hl,k,hf,hk,_⟩:=hv;refine⟨.int .i64<|Int.ofNat k,?_,by simp only[VR];grind⟩;simp[execOp,E,resolve,C,A,invoke,builtin,Builtin.cap_,e1,run_underlying hu,hf,goInt]
     ·cases h;simp only[VR] at hv;refine⟨.int .i64 0,?_,by simp only[VR]⟩;simp[execOp,E,resolve,C,A,invoke,builtin,Builtin.cap_,e1,run_underlying hu,hv,goInt]
     cases h
    cases h
   cases h
  ·rename_i C;split at h
   ·rename_i I x y G;split at h
    ·rename_i a b ha hb;have A:c.args= #[x,y]:=by grind
     have hva:=B x (by simp[Op.operands,Call.operands,C,A]) a ha;have hvb:=B y (by simp[Op.operands,Call.operands,C,A]) b hb;unfold PI at h;split at h
     ·rename_i k n k' m;simp only[VR] at hva hvb;simp only[bE] at h;split at h
      ·cases h;refine⟨.int k (if m<n then m else n),?_,by simp only[VR,fm,decide_eq_true_eq]⟩;simp[execOp,E,resolve,C,A,invoke,builtin,hva,hvb,run_min_int2]
      cases h
     cases h
    cases h
   cases h
  ·rename_i C;split at h
   ·rename_i I x y G;split at h
    ·rename_i a b ha hb;have A:c.args= #[x,y]:=by grind
     have hva:=B x (by simp[Op.operands,Call.operands,C,A]) a ha;have hvb:=B y (by simp[Op.operands,Call.operands,C,A]) b hb;unfold PH at h;split at h
     ·rename_i k n k' m;simp only[VR] at hva hvb;simp only[bE] at h;split at h
      ·cases h;refine⟨.int k (if m>n then m else n),?_,by simp only[VR,fm,decide_eq_true_eq]⟩;simp[execOp,E,resolve,C,A,invoke,builtin,hva,hvb,run_max_int2]
      cases h
     cases h
    cases h
   cases h
  cases h
 | _=>rw[E] at h;simp[dI] at h
end
inductive HR where
 | val (v:U) (V:aE)
 | skip (V:aE)
 | enter (f:Nat) (args:List U) (V:aE)
 | round (l:Pos) (args:List U) (V:aE)
 | ki (v:U) (V:aE)
 | err (n:Nat)
def yE (P:Program) (V:aE) (t:TypeId) (x v:U):Option aE:=
 match x,cU v with
 | .ptr b off,some cs=>
  match V.m.get b,P.info? t with
  | some (.row cells e false),some j=>
   bif Nat.beq (du cs) j.size && Nat.ble (off+j.size) (du cells) && cP cs then some (V.setObj b (.row (ed cs cells off) e false)) else none
  | some (.own cells e),some j=>
   bif Nat.beq (du cs) j.size && Nat.ble (off+j.size) (du cells) && cP cs then some (V.setObj b (.own (ed cs cells off) e)) else none
  | _,_=>none
 | _,_=>none
def oV (V:aE) (sz:Nat):U->Option (Nat×List U)
 | .az=>some (0,[])
 | .slice b off len _=>match V.m.get b with
  | some (.row cells _ _)=>bif Nat.ble (off+len*sz) (du cells) then some (len,takeN (dW cells off) (len*sz)) else none
  | _=>none
 | .str s=>bif Nat.beq sz 1 then some (du s,AK (fun c=>.int .u8 (Int.ofNat c)) s) else none
 | _=>none
def dU (P:Program) (t:Option TypeId):Bool:=
 match t with
 | some t=>match P.underlying t with
  | some (.slice _) | some .string=>true
  | _=>false
 | none=>true
def grow (V:aE) (e:Nat) (cs:List U) (len sz:Nat):HR:=
 .val (.slice V.next 0 len (.upto sz)) (V.alloc (.row cs e false))
def fO (P:Program) (V:aE) (ts:Array TypeId) (s x:U):HR:=
 match ts[0]? with
 | some t=>match P.underlying t with
  | some (.slice e)=>match P.info? e with
   | some j=>
    bif dU P ts[1]? && Nat.ble 1 j.size && Nat.ble j.bytes 65536 then
     match oV V j.size x with
     | some (n,news)=>
      bif cP news && Nat.ble n 1048576 && (P.info? e).any (fun j=>(j.zero.bind p6).any fun z=>(cU z).any fun cs=>Nat.beq (du cs) j.size) then
       match s with
       | .az=>bif Nat.beq n 0 then .val .az V else grow V e news n j.size
       | .slice b off len (.known c)=>
        bif Nat.ble (len+n) c then
         match V.m.get b with
         | some (.row cells e' false)=>
          bif Nat.ble (off+len*j.size+du news) (du cells) then .val (.slice b off (len+n) (.known c)) (V.setObj b (.row (ed news cells (off+len*j.size)) e' false)) else .err 21
         | _=>bif Nat.beq n 0 then .val (.slice b off len (.known c)) V else .err 22
        else match V.m.get b with
         | some (.row cells _ _)=>
          bif Nat.ble (off+len*j.size) (du cells) && Nat.ble len 1048576 then grow V e (gL (takeN (dW cells off) (len*j.size)) news) (len+n) j.size else .err 23
         | _=>.err 24
       | .slice b off len (.upto sz)=>
        bif Nat.beq n 0 then .val (.slice b off len (.upto sz)) V else
        bif Nat.beq sz j.size && Nat.ble len 1048576 then
         match V.m.get b with
         | some (.row cells e' false)=>
          bif Nat.ble 1 len && Nat.ble (off+len*j.size+du news) (du cells) then
           .val (.slice b off (len+n) (.upto sz)) (V.setObj b (.row (ed news cells (off+len*j.size)) e' false))
          else bif Nat.ble (off+len*j.size) (du cells) && Nat.beq e' e then grow (V.drop b) e (gL (takeN (dW cells off) (len*j.size)) news) (len+n) j.size else .err 25
         | _=>.err 26
        else .err 27
       | _=>.err 28
      else .err 29
     | none=>.err 30
    else .err 31
   | none=>.err 32
  | _=>.err 33
 | none=>.err 34
def qC (P:Program) (V:aE) (ts:Array TypeId) (s x:U):HR:=
 match ts[0]?,ts[1]? with
 | some t,some t2=>match P.underlying t,P.underlying t2 with
  | some (.slice e),some (.int _)=>match P.info? e,(fl P e).bind cU,x with
   | some j,some zs,.int .i64 (.ofNat n)=>
    bif Nat.ble n 1048576 && (Nat.ble 1 n && (Nat.ble 1 j.size && (Nat.ble j.bytes 65536 && Nat.beq (du zs) j.size))) then
     match s with
     | .az=>grow V e (fp zs n) n j.size
     | .slice b off len (.known c)=>
      bif Nat.ble (len+n) c then .err 37 else match V.m.get b with
       | some (.row cells _ _)=>bif Nat.ble (off+len*j.size) (du cells) && Nat.ble len 1048576 then grow V e (gL (takeN (dW cells off) (len*j.size))<|fp zs n) (len+n) j.size else .err 23
       | _=>.err 24
     | _=>.err 38
    else .err 39
   | _,_,_=>.err 46
  | _,_=>.err 47
 | _,_=>.err 48
def zf (P:Program) (V:aE) (ts:Array TypeId) (d x:U):HR:=
 match ts[0]? with
 | some t=>match P.underlying t with
  | some (.slice e)=>match P.info? e with
   | some j=>match oV V j.size x,d with
    | some (n,news),.slice b off len _=>
     bif Nat.beq (Nat.min n len) 0 then .val (.int .i64 0) V else
     match V.m.get b with
     | some (.row cells e' false)=>
      bif cP (takeN news (Nat.min n len*j.size)) && Nat.ble 1 j.size && Nat.ble (off+du (takeN news (Nat.min n len*j.size))) (du cells) then
       .val (.int .i64<|Int.ofNat<|Nat.min n len) (V.setObj b (.row (ed (takeN news (Nat.min n len*j.size)) cells off) e' false)) else .err 40
     | _=>.err 41
    | some (_,_),.az=>.val (.int .i64 0) V
    | _,_=>.err 42
   | none=>.err 43
  | _=>.err 44
 | none=>.err 45
def Al (P:Program) (V:aE) (ts:Array TypeId) (x:U):Option aE:=
 match ts[0]? with
 | some t=>match P.underlying t with
  | some (.slice e)=>match x with
   | .az=>some V
   | .slice b off len _=>bif Nat.beq len 0 then some V else
    match(fl P e).bind cU,V.m.get b with
    | some zs,some (.row cells e' false)=>bif cP (fp zs len) && Nat.ble 1 (du zs) && Nat.ble (off+du (fp zs len)) (du cells) then some (V.setObj b (.row (ed (fp zs len) cells off) e' false)) else none
    | _,_=>none
   | _=>none
  | _=>none
 | none=>none
def Bf (e:fw) (es:List fw) (i:Nat):List fw:=FB e es i
def xd (es:List fw):Nat->List fw:=
 List.rec (motive:=fun _=>Nat->List fw) (fun _=>[]) (fun x l ih n=>Nat.rec (motive:=fun _=>List fw) l (fun m _=>x::ih m) n) es
def pE (xs ys:List U):Bool:=
 List.rec (motive:=fun _=>List U->Bool) (fun ys=>List.rec (motive:=fun _=>Bool) true (fun _ _ _=>false) ys)
  (fun x _ ih ys=>List.rec (motive:=fun _=>Bool) false (fun y r _=>match sr x y with | some true=>ih r | _=>false) ys) xs ys
def sameKey (x y:U):Bool:=
 match x,y with
 | .agg xs,.agg ys=>pE xs ys
 | x,y=>match sr x y with | some b=>b | none=>false
def nc (P:Program) (V:aE) (t:TypeId) (m k v:U):Option aE:=
 match P.underlying t,m with
 | some (.map kt _),.map b=>match V.m.get b with
  | some (.map es clock)=>bif plainKey P kt && mj P kt k then
    match pg P kt k es 0 with
    | some (some (i,_))=>match nth es i with
     | some e=>bif sameKey e.key k then some (V.setObj b (.map (Bf {key:=k,val:=v,born:=e.born} es i) clock)) else none
     | none=>none
    | some none=>some (V.setObj b (.map (gL es [{key:=k,val:=v,born:=clock}]) (clock+1)))
    | none=>none
   else none
  | _=>none
 | _,_=>none
def qG (P:Program) (V:aE) (ts:Array TypeId) (m k:U):Option aE:=
 match ts[0]? with
 | some t=>match P.underlying t,m with
  | some (.map kt _),.map b=>match V.m.get b with
   | some (.map es clock)=>bif plainKey P kt && mj P kt k then
     match pg P kt k es 0 with
     | some (some (i,_))=>some (V.setObj b (.map (xd es i) clock))
     | some none=>some (V.setObj b (.map es clock))
     | none=>none
    else none
   | _=>none
  | _,_=>none
 | none=>none
def xM (P:Program) (f:Nat):Bool:=
 match P.funcs[f]? with
 | some fn=>fn.body.isSome && !(fn.name == "runtime.NumGoroutine")
 | none=>false
def nK:uc->Bool
 | .upto _=>false
 | _=>true
def tI (p q:Pos):Bool:=Nat.beq p q
def qR (V:aE) (args:List U):Option U:=
 match args with
 | [.slice b off n cap,.slice b' off' n' cap']=>
  match V.m.get b,V.m.get b' with
  | some (.row _ _ false),some (.row cells' _ false)=>bif (bif tI b b' then false else true) && (nK cap && (nK cap' && Nat.ble 1 (du cells'))) then some (.bool false) else none
  | _,_=>none
 | _=>none
def isNe (P:Program) (g:Nat):Bool:=
 match P.funcs[g]? with
 | some fn=>fn.name == "internal/abi.NoEscape"
 | none=>false
def y8 (P:Program) (ov:Nat->Bool) (V:aE) (f:U) (args:List U):HR:=
 match f with
 | .func g fi ca=>bif xM P g then .enter g (gL fi<|gL args ca) V else bif ov g then(bif isNe P g then(match gL fi (gL args ca) with | [v]=>.val v V | _=>.err 53) else(match qR V (gL fi<|gL args ca) with | some v=>.val v V | none=>.err 52)) else .err 50
 | .yield l=>.round l args V
 | _=>.err 51
def Rk (len:Nat) (c:uc):Bool:=
 match c with
 | .known c=>Nat.ble 1 c
 | .upto _=>Nat.ble 1 len
 | .least a _=>Nat.ble 1 a
def Ge (x:U):Option U:=
 match x with
 | .az=>some .gR
 | .slice b off len c=>bif Rk len c then some (.ptr b off) else none
 | _=>none
def Hc (P:Program) (V:aE) (t:Option TypeId) (p n:U):Option (List Nat×aE):=
 match n with
 | .int .i64 (.ofNat n)=>bif Nat.beq n 0 then(match t,p with
   | some _,.gR=>some ([],V)
   | some _,.ptr _ _=>some ([],V)
   | _,_=>none) else
  match t,p with
  | some t,.ptr b off=>match P.underlying t,V.m.get b with
   | some (.pointer u),some (.row cells e false)=>bif Nat.beq e u && (Nat.beq (P.cellsOf u) 1 && (Nat.ble (off+n) (du cells) && Nat.ble n 1152921504606846976)) then
     match dB y7 (takeN (dW cells off) n) with
     | some s=>some (s,V.setObj b (.row cells e true))
     | none=>none
    else none
   | _,_=>none
  | _,_=>none
 | _=>none
def nk (P:Program) (V:aE) (src dst:TypeId) (x:U):HR:=
 match P.underlying src,P.underlying dst,x with
 | some .string,some (.slice e),.str s=>match P.underlying e with
  | some (.int .u8)=>bif Nat.beq (P.cellsOf e) 1 then .val (.slice V.next 0 (du s) (.upto 1)) (V.alloc (.row (AK (fun c=>.int .u8 (Int.ofNat c)) s) e true)) else .err 26
  | _=>.err 25
 | _,_,_=>.err 24
def ig (P:Program) (ov:Nat->Bool) (ev:Operand->Option U) (V:aE):Op->HR
 | .store t x y=>match ev x,ev y with
  | some a,some v=>match yE P V t a v with
   | some V'=>.skip V'
   | none=>.err 10
  | _,_=>.err 11
 | .mapUpdate t m k x=>match ev m,ev k,ev x with
  | some a,some b,some v=>match nc P V t a b v with
   | some V'=>.skip V'
   | none=>.err 19
  | _,_,_=>.err 20
 | .insert t m k x=>match ev m,ev k,ev x with
  | some a,some b,some v=>match nc P V t a b v with
   | some V'=>.skip V'
   | none=>.err 19
  | _,_,_=>.err 20
 | .call c=>match c.callee with
  | .value f=>match ev f,nL ev c.args.toList with
   | some g,some args=>y8 P ov V g args
   | _,_=>.err 12
  | .builtin .append=>match nL ev c.args.toList with
   | some [s,x]=>bif dU P c.argTypes[1]? then fO P V c.argTypes s x else qC P V c.argTypes s x
   | _=>.err 13
  | .builtin .delete=>match nL ev c.args.toList with
   | some [m,k]=>match qG P V c.argTypes m k with
    | some V'=>.val (.tuple []) V'
    | none=>.err 17
   | _=>.err 18
  | .builtin .copy=>match nL ev c.args.toList with
   | some [s,x]=>zf P V c.argTypes s x
   | _=>.err 14
  | .builtin .clear=>match nL ev c.args.toList with
   | some [x]=>match Al P V c.argTypes x with
    | some V'=>.val (.tuple []) V'
    | none=>.err 21
   | _=>.err 22
  | .builtin .unsafeSliceData=>match nL ev c.args.toList with
   | some [x]=>match Ge x with
    | some v=>.val v V
    | none=>.err 27
   | _=>.err 28
  | .builtin .unsafeString=>match nL ev c.args.toList with
   | some [p,n]=>match Hc P V c.argTypes[0]? p n with
    | some (s,V')=>.val (.str s) V'
    | none=>.err 29
   | _=>.err 30
  | _=>.err 15
 | .convert src dst x=>match ev x with
  | some v=>nk P V src dst v
  | none=>.err 23
 | .panic x=>match ev x with
  | some (.iface t v)=>.ki (.iface t v) V
  | _=>.err 32
 | _=>.err 16
section
variable {P:Program} {J:dh} {V:aE} {w:World}
theorem aE.nA (V:aE) (b:Pos) (o o':cD):(V.setObj b o).setObj b o'=V.setObj b o':=by
 simp[aE.setObj,PT.NX]
theorem aE.mf (V:aE) (b:Pos) (o:cD):(V.setObj b o).m.get b=some o:=PT.dG _ _ _
theorem n9 {b:Pos} {l:Loc} {e:Nat} (hl:J b=some l):∀(vs:List U) (xs:List Value) (cells:List U) (off i:Nat) (V:aE) (w:World),Inv J V w->V.m.get b=some (.row cells e false)->dw J vs xs->cP vs=true->
  off+i+vs.length<=cells.length->∀σ₀:aE,V=σ₀.setObj b (.row cells e false)->
  ∃w',(storeCells ⟨l.dF,l.sh+off,none⟩ xs i).run P w= .ok () w'/\Inv J (σ₀.setObj b (.row (gT cells (off+i) vs) e false)) w'/\eW J V w J (σ₀.setObj b (.row (gT cells (off+i) vs) e false)) w'
 | [],xs,cells,off,i,V,w,hi,hb,hv,_,_,σ₀,hσ=>by
  rw[hv.eP];subst hσ;exact⟨w,by simp[storeCells],hi,eW.refl _ _ _⟩
 | v::vs,xs,cells,off,i,V,w,hi,hb,hv,j,hlen,σ₀,hσ=>by
  obtain⟨x,r,rfl,h1,G⟩:=hv.cons_inv;have ac:iH v=true:=r4 j v (by simp)
  have A:cP vs=true:=by
   grind [cP]
  simp only[List.length_cons] at hlen;obtain⟨B,st⟩:=hi.setCell hb hl (i:=off+i) oM h1;have u:(V.setObj b (.row (cells.set (off+i) v) e false)).m.get b=some (.row (cells.set (off+i) v) e false):=aE.mf _ _ _;obtain⟨w',r',inv',st'⟩:=n9 hl vs r (cells.set (off+i) v) off (i+1) _ _ B u G A (by simp;omega) σ₀ (by rw[hσ,aE.nA]);obtain⟨c,fr,z,am,an,C,E⟩:=hi.row hb hl;refine⟨w',?_,?_,?_⟩
  ·have F:off+i<cells.length:=by omega
   obtain⟨y,I,_⟩:=C (off+i) cells[off+i] (gC F);have aa:w.cell? ⟨l.dF,l.sh+off+i,none⟩=some y:=by rw[cell?_of_heap z,Nat.add_assoc];exact I
   have ao:w.frozen? ⟨l.dF,l.sh+off+i,none⟩=false:=frozen?_of_heap z _ (E Z _ oM);have ab:(⟨l.dF,l.sh+off,none⟩:Addr).add i=⟨l.dF,l.sh+off+i,none⟩:=Addr.add_eq _ i Z
   grind [run_store,oE,storeCells,sB_,rA]
  ·simpa [gT,Nat.add_assoc] using inv'
  have:=st.trans st';simpa [gT,Nat.add_assoc] using this
theorem iD (hi:Inv J V w) {b:Pos} {l:Loc} {e:Nat} {cells vs:List U} {xs:List Value} {off:Nat} (hl:J b=some l) (hb:V.m.get b=some (.row cells e false)) (hv:dw J vs xs) (j:cP vs=true)
  (hlen:off+vs.length<=cells.length):
  ∃w',(storeCells ⟨l.dF,l.sh+off,none⟩ xs).run P w= .ok () w'/\Inv J (V.setObj b (.row (ed vs cells off) e false)) w'/\eW J V w J (V.setObj b (.row (ed vs cells off) e false)) w':=by
 have u:Inv J (V.setObj b (.row cells e false)) w/\eW J V w J (V.setObj b (.row cells e false)) w:=by
  obtain⟨c,fr,h1,z,A,h4,h5⟩:=hi.row hb hl;exact hi.change hb hl Z Z h1 ⟨c,fr,Z,z,A,h4,h5⟩ (fun _ _=>Z) Z Z Z Z
 obtain⟨w',r,inv,st⟩:=n9 (P:=P) hl vs xs cells off 0 _ w u.1 (aE.mf _ _ _) hv j oM V Z;rw[Nat.add_zero,<-kM vs cells off hlen] at inv st;exact⟨w',r,inv,u.2.trans st⟩
theorem Dx (hi:Inv J V w) {t:TypeId} {x v:U} {y z:Value} {V':aE} (h:yE P V t x v=some V') (hx:VR J x y) (hv:VR J v z):
  ∃w',(Instr.storeAt t y z).run P w= .ok () w'/\Inv J V' w'/\eW J V w J V' w':=by
 unfold yE at h;split at h
 ·rename_i u1 u2 b off cs m;split at h
  ·rename_i I K cells e j hb hj;simp only[bE] at h;split at h
   ·rename_i hc;cases h;simp only[bA_,Nat.beq_eq,nE_,bY] at hc;obtain⟨⟨C,E⟩,A⟩:=hc;simp only[VR] at hx;obtain⟨l,hl,rfl⟩:=hx;obtain⟨w',r,inv,st⟩:=iD (P:=P) hi hl hb (iu m hv) A (off:=off) oM;refine⟨w',?_,inv,st⟩;have hsz:=mT m hv;simp only[Instr.storeAt,Instr.sureAddr,storeVar,sB_,sP_,rA,cd hj]
    simp_all
   cases h
  ·rename_i I K cells e j hb hj;simp only[bE] at h;split at h
   ·rename_i hc;cases h;simp only[bA_,Nat.beq_eq,nE_,bY] at hc;obtain⟨⟨C,E⟩,A⟩:=hc;simp only[VR] at hx;obtain⟨l,hl,rfl⟩:=hx;obtain⟨h0,F,G⟩:=hi.own hb hl;obtain⟨w',r,inv,st⟩:=iD (P:=P) F hl (aE.mf _ _ _) (iu m hv) A (off:=off) oM;rw[aE.nA] at inv st;have hlen:(ed cs cells off).length=cells.length:=by rw[kM _ _ _ oM,rU]
    obtain⟨u,B⟩:=inv.Lv (aE.mf _ _ _) hl Z (fun x hx=>gP.GZ ⟨h0.1,by rw[hlen];exact h0.2⟩ hx);rw[aE.nA] at u B;refine⟨w',?_,u,(G.trans st).trans B⟩;have hsz:=mT m hv;simp only[Instr.storeAt,Instr.sureAddr,storeVar,sB_,sP_,rA,cd hj]
    simp_all
   cases h
  cases h
 cases h
theorem oW (hi:Inv J V w) {sz n:Nat} {x:U} {y:Value} {cs:List U} (h:oV V sz x=some (n,cs)) (hx:VR J x y):
  (Builtin.lenOf y).run P w= .ok n w/\cs.length=n*sz/\
   ∀k,k<=n->∃xs:List Value,dw J (cs.take (k*sz)) xs/\∀w',w'.heap=w.heap->(Builtin.firstCells sz k y).run P w'= .ok xs.toArray w':=by
 unfold oV at h;split at h
 ·cases h;simp only[VR] at hx;subst hx;refine⟨by simp[Builtin.lenOf],by simp,fun k hk=>⟨[],by simpa using dw.nil,fun w' _=>by simp[Builtin.firstCells]⟩⟩
 ·rename_i b off len cap;split at h
  ·rename_i cells e ro hb;simp only[bE] at h;split at h
   ·rename_i hle;cases h;rw[nE_,bY] at hle
    have full:∀(a:Addr) (c:Nat) (l:Loc),J b=some l->y= .slice (some a) n c->(a=⟨l.dF,l.sh+off,none⟩∨n=0)->
      (Builtin.lenOf y).run P w= .ok n w/\(takeN (dW cells off) (n*sz)).length=n*sz/\
       ∀k,k<=n->∃xs:List Value,dw J ((takeN (dW cells off) (n*sz)).take (k*sz)) xs/\∀w',w'.heap=w.heap->(Builtin.firstCells sz k y).run P w'= .ok xs.toArray w':=by
     intro a c l hl A B;subst A;refine⟨by simp[Builtin.lenOf],by rw[dR,eA,lT_,lD_];omega,fun k hk=>?_⟩;have u:k*sz<=n*sz:=nM_ _ hk;rw[dR,eA,List.take_take,Nat.min_eq_left u];rcases B with rfl | rfl
     ·obtain⟨ys,h1,h2,h3⟩:=hi.piece hb hl off (k*sz) oM
      grind [run_firstCells_some,World.cell?]
     have z:k=0:=by omega
     subst z;refine⟨[],by simpa using dw.nil,fun w' aa=>?_⟩
     grind [run_firstCells_some]
    cases cap with
    | known c=>
     simp only[VR] at hx
     grind
    | least a s=>
     simp only[VR] at hx
     grind
    | upto s=>
     simp only[VR] at hx
     grind
   cases h
  cases h
 ·rename_i s;simp only[bE] at h;split at h
  ·rename_i j;rw[Nat.beq_eq] at j;subst j;cases h;simp only[VR] at hx;obtain⟨bs,rfl,m⟩:=hx;rw[jy m,m5];unfold gG at m;refine⟨by simp[Builtin.lenOf],by rw[<-m];simp,fun k hk=>?_⟩;refine⟨(bs.data.toList.take k).map fun b=>Value.int .u8 b.toNat,?_,fun w' _=>?_⟩
   ·rw[<-m,List.map_map,<-List.map_take,Nat.mul_one];generalize (bs.data.toList.take k)=l;induction l with
    | nil=>exact dw.nil
    | cons c l ih=>exact dw.cons (by simp only[VR];rfl) ih
   simp only[Builtin.firstCells,sP_];congr 1;apply Array.toList_inj.1
   simp_all
  cases h
 cases h
end
section
variable {P:Program} {J:dh} {V:aE} {w:World}
theorem H7 {α:Type} (l:List α) (k:Nat) (v:α) (vs:List α) (hk:k<l.length):
  (l.set k v).take (k+1)++vs++(l.set k v).drop (k+1+vs.length)=l.take k++(v::vs)++l.drop (k+(vs.length+1)):=by
 grind [List.drop_set_of_lt,List.take_succ_eq_append_getElem,List.take_set_of_le]
theorem mD {g o e:Nat} {fr:Nat×Nat}:∀(vs:List Value) (cur:Array Value) (i:Nat) (w:World),w.heap[g]?=some (.cells cur e fr)->o+i+vs.length<=cur.size->(∀v∈vs,v.oneCell'=true)->
  (∀j,o<=j->¬(fr.1<=j/\j<fr.2))->
  ∃w',(storeCells ⟨g,o,none⟩ vs i).run P w= .ok () w'/\w'.heap[g]?=some (.cells (cur.toList.take (o+i)++vs++cur.toList.drop (o+i+vs.length)).toArray e fr)/\
   (∀r,r≠g->w'.heap[r]?=w.heap[r]?)/\w'.heap.size=w.heap.size/\w'.tape=w.tape/\w'.os=w.os/\w'.output=w.output
 | [],cur,i,w,z,_,_,_=>by
  refine⟨w,by simp[storeCells],?_,fun _ _=>Z,Z,Z,Z,Z⟩;simpa using z
 | v::vs,cur,i,w,z,hl,h1,hf=>by
  simp only[List.length_cons] at hl;have A:o+i<cur.size:=by omega
  have aa:(⟨g,o,none⟩:Addr).add i=⟨g,o+i,none⟩:=Addr.add_eq _ i Z;have m:w.cell? ⟨g,o+i,none⟩=some cur[o+i]:=by rw[cell?_of_heap z];simp[A]
  have B:w.frozen? ⟨g,o+i,none⟩=false:=frozen?_of_heap z _ (hf _ oM)
  have ar:(store ⟨g,o+i,none⟩ v).run P w= .ok () (w.setCell ⟨g,o+i,none⟩ v):=by
   rw[run_store P w _ v _<|h1 v (by simp),m];simp[B]
  obtain⟨w',r,q1,q2,q3,q4,q5,E⟩:=mD vs (cur.setIfInBounds (o+i) v) (i+1) _ (heap_setCell_same z (o+i) v) (by simp;omega) (fun u hu=>h1 u (by simp[hu])) hf;refine⟨w',?_,?_,fun r C=>(q2 r C).trans (heap_setCell_other w _ v C),by rw[q3];simp,q4,q5,E⟩
  ·grind [storeCells,sB_,rA]
  grind [H7]
theorem run_append_fits {ts:Array TypeId} {t ty e:TypeId} {j:TypeInfo} (C:ts[0]?=some t) (hu:P.underlying t=some (.slice e)) (hj:P.info? e=some j) (B:dU P ts[1]?=true)
  {base:Option Addr} {sLen sCap n:Nat} {y:Value} {news:List Value} (hlen:(Builtin.lenOf y).run P w= .ok n w) (m:(Builtin.firstCells j.size n y).run P w= .ok news.toArray w) (z:sLen+n<=sCap):
  (Builtin.append_ ts ty #[.slice base sLen sCap,y]).run P w=
   (Sem.run P (match base with | some a=>storeCells (a.add (sLen*j.size)) news | none=>pure ():Sem Unit) w).andThen fun _ w'=>.ok (.slice base (sLen+n) sCap) w':=by
 unfold dU at B;cases h1:ts[1]? with
 | none=>
  cases base<;>simp[Builtin.append_,C,h1,run_underlying hu,cd hj,hlen,z,m]
 | some u=>
  rw[h1] at B;dsimp only at B;split at B
  ·rename_i e' A;cases base<;>simp[Builtin.append_,C,h1,run_underlying hu,run_underlying A,cd hj,hlen,z,m]
  ·rename_i A;cases base<;>simp[Builtin.append_,C,h1,run_underlying hu,run_underlying A,cd hj,hlen,z,m]
  cases B
theorem ny {ts:Array TypeId} {t ty e:TypeId} {j:TypeInfo} (z:ts[0]?=some t) (hu:P.underlying t=some (.slice e)) (hj:P.info? e=some j) (A:dU P ts[1]?=true)
  {dF o:Nat} {sLen sCap n:Nat} {y:Value} {news:List Value} (hlen:(Builtin.lenOf y).run P w= .ok n w) (m:(Builtin.firstCells j.size n y).run P w= .ok news.toArray w) (u:sLen+n<=sCap):
  (Builtin.append_ ts ty #[.slice (some ⟨dF,o,none⟩) sLen sCap,y]).run P w=
   (Sem.run P (storeCells ⟨dF,o+sLen*j.size,none⟩ news) w).andThen fun _ w'=>.ok (.slice (some ⟨dF,o,none⟩) (sLen+n) sCap) w':=by
 rw[run_append_fits z hu hj A hlen m u];show(Sem.run P (storeCells ((⟨dF,o,none⟩:Addr).add (sLen*j.size)) news) w).andThen _=_;rw[Addr.add_eq _ _ Z]
theorem ll {ts:Array TypeId} {t ty e:TypeId} {j:TypeInfo} {z:Value} (I:ts[0]?=some t) (hu:P.underlying t=some (.slice e)) (hj:P.info? e=some j) (hzero:j.zero=some z) (G:dU P ts[1]?=true)
  {base:Option Addr} {sLen sCap n:Nat} {y:Value} {olds news:List Value} (hlen:(Builtin.lenOf y).run P w= .ok n w) (m:(Builtin.firstCells j.size n y).run P w.drew= .ok news.toArray w.drew)
  (hold:(Builtin.firstCells j.size sLen (.slice base sLen sCap)).run P w.drew= .ok olds.toArray w.drew) (C:sCap<sLen+n) (K:sLen+n<=4194304) (L:j.bytes<=65536) (aa:1<=j.size):
  ∃cap,sLen+n<=cap/\(Builtin.append_ ts ty #[.slice base sLen sCap,y]).run P w=
   .ok (.slice (some ⟨w.heap.size,0,none⟩) (sLen+n) cap) (w.drew.alloc (.cells (olds.toArray++news.toArray++Builtin.zeroCells z.cells (cap-(sLen+n))) e)):=by
 refine⟨grownCap w (sLen+n) sCap e,grownCap_ge _ _ _ _,?_⟩
 have ab:Builtin.nextslicecap (sLen+n) sCap*j.bytes<=281474976710656:=growslice_fits C (by
  have:(sLen+n)*j.bytes<=4194304*65536:=Nat.mul_le_mul K L;omega)
 have M:¬(sLen+n<=sCap):=by omega
 have A:IntKind.i64.max=9223372036854775807:=by decide
 have h1:¬(9223372036854775807<((sLen:Int)+(n:Int))):=by omega
 have E:¬(281474976710656<Builtin.nextslicecap (sLen+n) sCap*j.bytes):=by omega
 rw[Array.append_assoc];unfold dU at G;cases B:ts[1]? with
 | none=>
  simp[Builtin.append_,I,B,run_underlying hu,cd hj,typeInfo,hj,hlen,M,A,h1,E,hold,m,zeroValue,hzero,newRow,Question.forced,grownCap]
 | some u=>
  rw[B] at G;dsimp only at G;split at G
  ·rename_i e' F;simp[Builtin.append_,I,B,run_underlying hu,run_underlying F,cd hj,typeInfo,hj,hlen,M,A,h1,E,hold,m,zeroValue,hzero,newRow,Question.forced,grownCap]
  ·rename_i F;simp[Builtin.append_,I,B,run_underlying hu,run_underlying F,cd hj,typeInfo,hj,hlen,M,A,h1,E,hold,m,zeroValue,hzero,newRow,Question.forced,grownCap]
  cases G
theorem mg (hi:Inv J V w) {cs:List U} {olds news:List Value} {e sz len cap:Nat} {z:Value} (hc:dw J cs (olds++news)) (hlen:cs.length=len*sz) (m:len<=cap) (u:z.cells.size=sz):
  Inv (J.with V.next ⟨w.heap.size,0,cap*sz⟩) (V.alloc (.row cs e false)) (w.drew.alloc (.cells (olds.toArray++news.toArray++Builtin.zeroCells z.cells (cap-len)) e))/\
  eW J V w (J.with V.next ⟨w.heap.size,0,cap*sz⟩) (V.alloc (.row cs e false)) (w.drew.alloc (.cells (olds.toArray++news.toArray++Builtin.zeroCells z.cells (cap-len)) e))/\
  VR (J.with V.next ⟨w.heap.size,0,cap*sz⟩) (.slice V.next 0 len (.upto sz)) (.slice (some ⟨w.heap.size,0,none⟩) len cap):=by
 have hlen2:=hc.length;rw[hlen] at hlen2;have hle:len*sz<=cap*sz:=nM_ _ m
 have A:gP J ⟨w.heap.size,0,cap*sz⟩ (.row cs e false) (.cells (olds.toArray++news.toArray++Builtin.zeroCells z.cells (cap-len)) e):=by
  refine⟨_,_,Z,?_,by rw[hlen];exact hle,fun i v hv=>?_,fun _ j _ hj=>by simp at hj⟩
  ·have h1:olds.length+news.length=len*sz:=by simpa using hlen2
   simp only[Array.size_append,List.size_toArray,size_zeroCells,u,Nat.sub_mul,nA_];omega
  obtain⟨y,h1,h2⟩:=hc.get hv
  grind
 obtain⟨inv,st⟩:=(hi.drew).alloc (l:=⟨w.heap.size,0,cap*sz⟩) Z A;refine⟨inv,(eW.drew J V w).trans st,?_⟩;simp only[VR];exact⟨_,dh.cG _ _ _,.inl ⟨cap,Z,m,by simp⟩⟩
theorem Af (hi:Inv J V w) {ts:Array TypeId} {ty:TypeId} {s x v:U} {ys yx:Value} {V':aE} (h:fO P V ts s x= .val v V') (S:VR J s ys) (hx:VR J x yx):
  ∃z w' J',(Builtin.append_ ts ty #[ys,yx]).run P w= .ok z w'/\VR J' v z/\Inv J' V' w'/\eW J V w J' V' w':=by
 unfold fO at h;cases Q:ts[0]? with
 | none=>rw[Q] at h;cases h
 | some t=>
 rw[Q] at h;dsimp only at h;split at h
 case h_2=>cases h
 rename_i e hu;cases hj:P.info? e with
 | none=>rw[hj] at h;cases h
 | some j=>
 rw[hj] at h;simp only[bE] at h;split at h
 case isFalse=>cases h
 rename_i hb;simp only[bA_,nE_] at hb;obtain⟨⟨T,W⟩,an⟩:=hb;cases am:oV V j.size x with
 | none=>simp_all
 | some p=>
 obtain⟨n,news⟩:=p;rw[am] at h;dsimp only at h;split at h
 case isFalse=>cases h
 rename_i a3;simp only[bA_,nE_] at a3;obtain⟨⟨I,b2⟩,hzero⟩:=a3
 obtain⟨zv,ao,C⟩:∃zv,j.zero=some zv/\zv.cells.size=j.size:=by
  simp only[Option.any_some,Option.any_eq_true] at hzero;obtain⟨z,a4,cs,bb,a5⟩:=hzero;cases bd:j.zero with
  | none=>simp_all
  | some zv=>
   rw[bd] at a4;refine⟨zv,Z,?_⟩;rw[Nat.beq_eq,bY] at a5;rw[<-a5];exact mT bb<|p8 (J:=J) a4
 obtain⟨A,K,X⟩:=oW (P:=P) hi am hx;obtain⟨xs,G,R⟩:=X n (nR_ _);rw[<-K,List.take_length] at G;have ap:xs.length=n*j.size:=by rw[G.length,K]
 have hrun0:=R w Z;have hrund:=R w.drew Z;split at h
 ·
  simp only[VR] at S;subst S;split at h
  ·rename_i E;rw[Nat.beq_eq] at E;cases h;subst E;refine⟨.slice none 0 0,w,J,?_,by simp only[VR],hi,eW.refl _ _ _⟩;have:=run_append_fits (w:=w) (ty:=ty) (base:=none) (sLen:=0) (sCap:=0) Q hu hj T A hrun0 (nR_ _);rw[this];rfl
  rename_i E;cases h
  have hn:0<n:=by
   grind [Nat.beq_eq]
  obtain⟨cap,F,hr⟩:=ll (w:=w) (ty:=ty) (base:=none) (sLen:=0) (sCap:=0) (olds:=[]) Q hu hj ao T A hrund (by simp[Builtin.firstCells]) oM oM an W;rw[nA_] at F hr;obtain⟨inv,st,hv⟩:=mg (e:=e) hi (olds:=[]) (news:=xs) (by simpa using G) K F C
  grind
 ·
  rename_i b off len c;simp only[VR] at S;obtain⟨l,hl,rfl⟩:=S;split at h
  ·rename_i B;rw[nE_] at B;have hr:=ny (w:=w) (ty:=ty) (dF:=l.dF) (o:=l.sh+off) Q hu hj T A hrun0 B;split at h
   ·rename_i cells e' hb;split at h
    ·rename_i m;rw[nE_,bY,bY] at m;cases h;obtain⟨w',r,inv,st⟩:=iD (P:=P) hi hl hb G I (off:=off+len*j.size) oM;refine⟨.slice (some ⟨l.dF,l.sh+off,none⟩) (len+n) c,w',J,?_,?_,inv,st⟩
     ·rw[hr,Nat.add_assoc,r];rfl
     simp only[VR];simp_all
    cases h
   split at h
   ·rename_i E;rw[Nat.beq_eq] at E;cases h;subst E;refine⟨.slice (some ⟨l.dF,l.sh+off,none⟩) len c,w,J,?_,?_,hi,eW.refl _ _ _⟩
    ·have a0:xs= []:=eN_ oM;rw[hr,a0];simp[storeCells]
    simp only[VR];simp_all
   cases h
  rename_i B;rw[nE_] at B;split at h
  ·rename_i cells e' ro hb;split at h
   ·rename_i m;simp only[bA_,nE_,bY] at m;obtain⟨m,aa⟩:=m;unfold grow at h;cases h;obtain⟨ys,h1,h2,h3⟩:=hi.piece hb hl off (len*j.size) m
    have hold:(Builtin.firstCells j.size len (.slice (some ⟨l.dF,l.sh+off,none⟩) len c)).run P w.drew= .ok ys.toArray w.drew:=
     run_firstCells_some w.drew j.size len _ len c ys h1 (fun i v hv=>by simpa using h3 i v hv)
    obtain⟨cap,F,hr⟩:=ll (w:=w) (ty:=ty) Q hu hj ao T A hrund hold oM oM an W
    obtain⟨inv,st,hv⟩:=mg (e:=e) hi (olds:=ys) (news:=xs) (len:=len+n) (cs:=gL (takeN (dW cells off) (len*j.size)) news)
     (by rw[eb,dR,eA];exact h2.append G) (by grind [eb,dR,eA]) F C
    grind
   cases h
  cases h
 ·
  rename_i b off len sz;split at h
  ·rename_i E;rw[Nat.beq_eq] at E;cases h;subst E;have a0:xs= []:=eN_ oM;subst a0;have hs':=S;simp only[VR] at hs';obtain⟨l,hl,⟨c,hy,hc,_⟩ | ⟨h0,a,hy⟩⟩:=hs'
   ·refine⟨ys,w,J,?_,S,hi,eW.refl _ _ _⟩;rw[hy,run_append_fits (w:=w) (ty:=ty) Q hu hj T A hrun0 oM];simp[storeCells]
   refine⟨ys,w,J,?_,S,hi,eW.refl _ _ _⟩;subst h0;rw[hy,run_append_fits (w:=w) (ty:=ty) Q hu hj T A hrun0 oM];simp[storeCells]
  rename_i E
  have hn:0<n:=by
   grind [Nat.beq_eq]
  split at h
  ·rename_i M;simp only[bA_,Nat.beq_eq,nE_] at M;obtain⟨M,aa⟩:=M;subst M;simp only[VR] at S;split at h
   ·rename_i cells e' hb;split at h
    ·
     rename_i m;simp only[bA_,nE_,bY] at m;obtain⟨b3,m⟩:=m;cases h;obtain⟨l,hl,⟨c,rfl,hc,ab⟩ | ⟨h0,_⟩⟩:=S
     ·obtain⟨cc,fr,_,_,be,_⟩:=hi.row hb hl
      have B:len+n<=c:=by
       have:(len+n)*j.size<=c*j.size:=by grind
       exact Nat.le_of_mul_le_mul_right this W
      have hr:=ny (w:=w) (ty:=ty) (dF:=l.dF) (o:=l.sh+off) Q hu hj T A hrun0 B;obtain⟨w',r,inv,st⟩:=iD (P:=P) hi hl hb G I (off:=off+len*j.size) oM;refine⟨.slice (some ⟨l.dF,l.sh+off,none⟩) (len+n) c,w',J,?_,?_,inv,st⟩
      ·rw[hr,Nat.add_assoc,r];rfl
      simp only[VR];simp_all
     omega
    split at h
    ·
     rename_i m;simp only[bA_,nE_,Nat.beq_eq,bY] at m;obtain⟨m,he⟩:=m;subst he;unfold grow at h;cases h;obtain⟨l,hl,a1⟩:=S;obtain⟨olds,h1,h2,h3⟩:=hi.piece hb hl off (len*j.size) m;have a6:dw J (gL (takeN (dW cells off) (len*j.size)) news) (olds++xs):=by rw[eb,dR,eA];exact h2.append G
     have bi:(gL (takeN (dW cells off) (len*j.size)) news).length=(len+n)*j.size:=by
      grind [eb,dR,eA]
     have anew:∀(a:Addr) (c:Nat),ys= .slice (some a) len c->c<len+n->(a=⟨l.dF,l.sh+off,none⟩∨len=0)->
       ∃z w' J',(Builtin.append_ ts ty #[ys,yx]).run P w= .ok z w'/\VR J' (.slice (V.drop b).next 0 (len+n) (.upto j.size)) z/\
        Inv J' ((V.drop b).alloc (.row (gL (takeN (dW cells off) (len*j.size)) news) e' false)) w'/\eW J V w J' ((V.drop b).alloc (.row (gL (takeN (dW cells off) (len*j.size)) news) e' false)) w':=by
      intro a c hy b4 ha;subst hy
      have hold:(Builtin.firstCells j.size len (.slice (some a) len c)).run P w.drew= .ok olds.toArray w.drew:=by
       rcases ha with rfl | rfl
       ·exact run_firstCells_some w.drew j.size len _ len c olds h1 (fun i v hv=>by simpa using h3 i v hv)
       have:olds= []:=eN_ (by rw[h1,Nat.zero_mul])
       grind [run_firstCells_some]
      obtain⟨cap,F,hr⟩:=ll (w:=w) (ty:=ty) Q hu hj ao T A hrund hold oM oM an W;obtain⟨bk,st'⟩:=hi.forget b;obtain⟨inv,st,hv⟩:=mg (e:=e') bk (olds:=olds) (news:=xs) (len:=len+n) a6 bi F C;exact⟨_,_,_,hr,hv,inv,st'.trans st⟩
     rcases a1 with ⟨c,hy,hc,ab⟩ | ⟨h0,a,hy⟩
     ·by_cases B:len+n<=c
      ·
       subst hy;have hr:=ny (w:=w) (ty:=ty) (dF:=l.dF) (o:=l.sh+off) Q hu hj T A hrun0 B;obtain⟨cc,fr,a7,bl,be,b5,a8⟩:=hi.row hb hl;have hmul:(len+n)*j.size<=c*j.size:=nM_ _ B;have bm:(len+n)*j.size=len*j.size+n*j.size:=Nat.add_mul _ _ _
       have ar:=mD (P:=P) (o:=l.sh+off+len*j.size) xs cc 0 w a7 oM (fun u hu=>by
        obtain⟨i,bo,bp⟩:=List.getElem_of_mem hu;have ac:i<news.length:=by omega
        obtain⟨y,L,a2⟩:=G.get (gC ac);rw[gC bo,bp] at L;cases L;exact oE (r4 I _<|List.getElem_mem ac) a2) (fun jj bq=>a8 Z jj oM)
       obtain⟨w',r,br,bs,bt,bv,bw,b0⟩:=ar
       have inv:=hi.A0 (l':=⟨l.dF,l.sh+off,l.cells-off⟩) (cells':=gL (takeN (dW cells off) (len*j.size)) news) hb hl Z br
        ⟨_,fr,Z,by simp[bl];omega,by grind,fun i v hv=>by
         obtain⟨y,L,a2⟩:=a6.get hv;refine⟨y,?_,a2⟩;rw[List.getElem?_toArray];dsimp only;have a9:cc.toList.length=l.sh+l.cells:=by omega
         have ac:i<(olds++xs).length:=(gA.1 L).1;rw[lA_,h1,ap] at ac
         by_cases b1:i<len*j.size
         ·rw[gL_ (by rw[h1];exact b1)] at L;have:=h3 i y L;rw[Addr.add_eq _ _ Z,cell?_of_heap a7] at this;rw[lQ_,gL_ (by grind),List.getElem?_take,if_pos oM,aT_];exact this
         rw[gR_ (by rw[h1];omega),h1] at L;rw[lQ_,gR_ (by grind),lT_,a9]
         grind,fun _ jj bq=>a8 Z jj (by grind)⟩
        bs bt bv bw b0
       refine⟨.slice (some ⟨l.dF,l.sh+off,none⟩) (len+n) c,w',_,?_,?_,inv.1,inv.2⟩
       ·rw[hr,r];rfl
       simp only[VR,aE.drop];refine⟨_,dh.cG _ _ _,.inl ⟨c,by simp,B,?_⟩⟩;simp only;omega
      simp_all
     simp_all
    cases h
   cases h
  cases h
 cases h
theorem n7 {ts:Array TypeId} {t R ty e:TypeId} {k:IntKind} {j:TypeInfo} {z:Value} (S:ts[0]?=some t) (hu:P.underlying t=some (.slice e)) (hj:P.info? e=some j) (hzero:j.zero=some z) (G:ts[1]?=some R) (T:P.underlying R=some (.int k))
  {base:Option Addr} {sLen sCap n:Nat} {olds:List Value}
  (hold:(Builtin.firstCells j.size sLen (.slice base sLen sCap)).run P w.drew= .ok olds.toArray w.drew) (m:sCap<sLen+n) (I:sLen+n<=4194304) (u:n<=1048576) (K:1<=n) (A:j.bytes<=65536) (B:1<=j.size):
  ∃cap,sLen+n<=cap/\(Builtin.append_ ts ty #[.slice base sLen sCap,.int .i64<|Int.ofNat n]).run P w=
   .ok (.slice (some ⟨w.heap.size,0,none⟩) (sLen+n) cap) (w.drew.alloc (.cells (olds.toArray++(Builtin.zeroCells z.cells n).toList.toArray++Builtin.zeroCells z.cells (cap-(sLen+n))) e)):=by
 refine⟨grownCap w (sLen+n) sCap e,grownCap_ge _ _ _ _,?_⟩
 have aa:Builtin.nextslicecap (sLen+n) sCap*j.bytes<=281474976710656:=growslice_fits m (by
  have:(sLen+n)*j.bytes<=4194304*65536:=Nat.mul_le_mul I A;omega)
 have W:¬(sLen+n<=sCap):=by omega
 have C:IntKind.i64.max=9223372036854775807:=by decide
 have h1:¬(9223372036854775807<((sLen:Int)+(n:Int))):=by omega
 have L:¬(281474976710656<Builtin.nextslicecap (sLen+n) sCap*j.bytes):=by omega
 have hw:IntKind.i64.wrap (n:Int)=(n:Int):=vX .i64 (Int.ofNat n) (by simp only[OF,nE_];omega);have E:¬((n:Int)<0):=by omega
 have F:¬(281474976710656<(n:Int)*(j.bytes:Int)):=by
  have:n*j.bytes<=1048576*65536:=Nat.mul_le_mul u A;omega
 have M:¬(n*j.size=0):=by
  have:1*1<=n*j.size:=Nat.mul_le_mul K B;omega
 have Q:¬(n=0∨j.size=0):=by omega
 rw[Array.append_assoc];simp[Builtin.append_,S,G,run_underlying hu,run_underlying T,cd hj,typeInfo,hj,asInt,asIntOf,hw,E,F,W,C,h1,L,hold,M,Q,zeroValue,hzero,newRow,Question.forced,grownCap]
theorem yM (hi:Inv J V w) {ts:Array TypeId} {ty:TypeId} {s x v:U} {ys yx:Value} {V':aE} (h:qC P V ts s x= .val v V') (R:VR J s ys) (hx:VR J x yx):
  ∃z w' J',(Builtin.append_ ts ty #[ys,yx]).run P w= .ok z w'/\VR J' v z/\Inv J' V' w'/\eW J V w J' V' w':=by
 unfold qC at h;split at h
 case h_2=>cases h
 rename_i t t2 W G;split at h
 case h_2=>cases h
 rename_i e k hu X;split at h
 case h_2=>cases h
 rename_i j zs n hj S;rw[bE] at h;split at h
 case isFalse=>cases h
 rename_i hb;simp only[bA_,nE_,Nat.beq_eq,bY] at hb;obtain⟨B,I,C,K,F⟩:=hb;obtain⟨i,zv,L,hzero,M⟩:=fN S;rw[hj] at L;cases L;have E:zv.cells.size=zs.length:=by have:=(M J).length;simpa using this
 have hts:=jX (M J) n
 have A:(Builtin.zeroCells zv.cells n).toList=(List.replicate n zv.cells.toList).flatten:=by
  grind [wx,Builtin.zeroCells]
 rw[<-A] at hts;have T:(fp zs n).length=n*j.size:=by rw[rW,F]
 simp only[VR] at hx;subst hx;split at h
 ·simp only[VR] at R;subst R;unfold grow at h;cases h;obtain⟨cap,u,hr⟩:=n7 (w:=w) (ty:=ty) (base:=none) (sLen:=0) (sCap:=0) (olds:=[]) W hu hj hzero G X (by simp[Builtin.firstCells]) oM oM B I K C;rw[nA_] at u hr;obtain⟨inv,st,hv⟩:=mg (e:=e) hi (olds:=[]) (news:=(Builtin.zeroCells zv.cells n).toList) (by simpa using hts) T u (E.trans F)
  grind
 ·rename_i b off len c;simp only[VR] at R;obtain⟨l,hl,rfl⟩:=R;rw[bE] at h;split at h
  ·cases h
  rename_i Q;rw[nE_] at Q;split at h
  ·rename_i cells e' ro hb;rw[bE] at h;split at h
   ·rename_i m;simp only[bA_,nE_,bY] at m;obtain⟨m,aa⟩:=m;unfold grow at h;cases h;obtain⟨ys,h1,h2,h3⟩:=hi.piece hb hl off (len*j.size) m
    have hold:(Builtin.firstCells j.size len (.slice (some ⟨l.dF,l.sh+off,none⟩) len c)).run P w.drew= .ok ys.toArray w.drew:=
     run_firstCells_some w.drew j.size len _ len c ys h1 (fun i v hv=>by simpa using h3 i v hv)
    obtain⟨cap,u,hr⟩:=n7 (w:=w) (ty:=ty) W hu hj hzero G X hold oM oM B I K C
    obtain⟨inv,st,hv⟩:=mg (e:=e) hi (olds:=ys) (news:=(Builtin.zeroCells zv.cells n).toList) (len:=len+n) (cs:=gL (takeN (dW cells off) (len*j.size))<|fp zs n)
     (by rw[eb,dR,eA];exact h2.append hts) (by grind [eb,dR,eA]) u<|E.trans F
    grind
   cases h
  cases h
 cases h
end
section
variable {P:Program} {J:dh} {V:aE} {w:World}
theorem Ey (hi:Inv J V w) {ts:Array TypeId} {ty:TypeId} {s x v:U} {ys yx:Value} {V':aE} (h:zf P V ts s x= .val v V') (K:VR J s ys) (hx:VR J x yx):
  ∃z w' J',(Builtin.copy_ ts ty #[ys,yx]).run P w= .ok z w'/\VR J' v z/\Inv J' V' w'/\eW J V w J' V' w':=by
 unfold zf at h;cases I:ts[0]? with
 | none=>rw[I] at h;cases h
 | some t=>
 rw[I] at h;dsimp only at h;split at h
 case h_2=>cases h
 rename_i e hu;cases hj:P.info? e with
 | none=>rw[hj] at h;cases h
 | some j=>
 rw[hj] at h;dsimp only at h;split at h
 ·rename_i n news b off len cap B;obtain⟨m,G,A⟩:=oW (P:=P) hi B hx;obtain⟨xs,F,u⟩:=A (Nat.min n len) (Nat.min_le_left _ _);simp only[bE] at h;split at h
  ·rename_i h0;rw[Nat.beq_eq] at h0;cases h;rw[h0,Nat.zero_mul] at F;rw[h0] at u;have L:xs= []:=by have:=F.length;simpa using this
   subst L;obtain⟨a,c,rfl⟩:=VR.jv K;have hr:=u w Z;refine⟨.int .i64 0,w,J,?_,by simp only[VR],hi,eW.refl _ _ _⟩;simp[Builtin.copy_,I,run_underlying hu,m,cd hj,h0,hr,goInt,storeCells]
  rename_i h0;rw[Nat.beq_eq] at h0;split at h
  ·rename_i cells e' hb;split at h
   ·rename_i hc;simp only[bA_,nE_,bY] at hc;obtain⟨⟨C,aa⟩,E⟩:=hc;cases h;rw[dR] at E C
    have go:∀(l:Loc) (c:Nat),J b=some l->ys= .slice (some ⟨l.dF,l.sh+off,none⟩) len c->
      ∃z w' J',(Builtin.copy_ ts ty #[ys,yx]).run P w= .ok z w'/\VR J' (.int .i64<|Int.ofNat<|Nat.min n len) z/\
       Inv J' (V.setObj b (.row (ed (takeN news (Nat.min n len*j.size)) cells off) e' false)) w'/\eW J V w J' (V.setObj b (.row (ed (takeN news (Nat.min n len*j.size)) cells off) e' false)) w':=by
     intro l c hl M;rw[dR];obtain⟨w',r,inv,st⟩:=iD (P:=P) hi hl hb F C (off:=off) E;refine⟨.int .i64<|Int.ofNat<|Nat.min n len,w',J,?_,by simp only[VR],inv,st⟩;subst M;have hr:=u w Z;simp[Builtin.copy_,I,run_underlying hu,m,cd hj,hr,r,goInt]
    cases cap with
    | known c=>
     grind [VR]
    | least a sz=>
     grind [VR]
    | upto sz=>
     grind [VR]
   cases h
  cases h
 ·rename_i n news B;cases h;obtain⟨m,G,A⟩:=oW (P:=P) hi B hx;obtain⟨xs,F,u⟩:=A 0 (Nat.zero_le _);simp only[VR] at K;subst K;refine⟨.int .i64 0,w,J,?_,by simp only[VR],hi,eW.refl _ _ _⟩;have hr:=u w Z;simp[Builtin.copy_,I,run_underlying hu,m,cd hj,hr,goInt]
 cases h
theorem B6 (hi:Inv J V w) {ts:Array TypeId} {ty:TypeId} {x:U} {ys:Value} {V':aE} (h:Al P V ts x=some V') (A:VR J x ys):
  ∃w',(Builtin.clear_ ts ty #[ys]).run P w= .ok (.tuple #[]) w'/\Inv J V' w'/\eW J V w J V' w':=by
 unfold Al at h;cases B:ts[0]? with
 | none=>rw[B] at h;cases h
 | some t=>
 rw[B] at h;dsimp only at h;cases hu:P.underlying t with
 | none=>rw[hu] at h;cases h
 | some d=>
 rw[hu] at h;cases d with
 | slice e=>
  dsimp only at h;cases x with
  | az=>
   cases h;simp only[VR] at A;subst A;exact⟨w,by simp[Builtin.clear_,B,run_underlying hu],hi,eW.refl _ _ _⟩
  | slice b off len cap=>
   dsimp only at h;rw[bE] at h;split at h
   ·rename_i h0;have:=nB h0;subst this;cases h;obtain⟨a,c,rfl⟩:=VR.jv A;exact⟨w,by simp[Builtin.clear_,B,run_underlying hu],hi,eW.refl _ _ _⟩
   rename_i h0;rw[Nat.beq_eq] at h0;cases E:(fl P e).bind cU with
   | none=>rw[E] at h;cases h
   | some zs=>
   rw[E] at h;cases hb:V.m.get b with
   | none=>rw[hb] at h;cases h
   | some o=>
   rw[hb] at h;cases o with
   | row cells e' ro=>
    cases ro with
    | true=>cases h
    | false=>
     dsimp only at h;rw[bE] at h;split at h
     ·rename_i hc;simp only[bA_,nE_,bY] at hc;obtain⟨⟨u,aa⟩,z⟩:=hc;cases h;obtain⟨i,zv,F,hzero,C⟩:=fN E;have hts:=jX (C J) len;have ab:zv.cells.size=zs.length:=by have:=(C J).length;simpa using this
      have j:(Builtin.zeroCells zv.cells len).toList=(List.replicate len zv.cells.toList).flatten:=by
       grind [wx,Builtin.zeroCells]
      have go:∀(l:Loc) (c:Nat),J b=some l->ys= .slice (some ⟨l.dF,l.sh+off,none⟩) len c->
        ∃w',(Builtin.clear_ ts ty #[ys]).run P w= .ok (.tuple #[]) w'/\Inv J (V.setObj b (.row (ed (fp zs len) cells off) e' false)) w'/\eW J V w J (V.setObj b (.row (ed (fp zs len) cells off) e' false)) w':=by
       intro l c hl G;subst G;obtain⟨w',r,inv,st⟩:=iD (P:=P) hi hl hb hts u z;refine⟨w',?_,inv,st⟩;cases len with
       | zero=>exact absurd Z h0
       | succ n=>simp[Builtin.clear_,B,run_underlying hu,zeroValue,typeInfo,F,hzero,j,r]
      cases cap with
      | known c=>
       simp only[VR] at A
       grind
      | upto sz=>
       simp only[VR] at A
       grind
      | least a sz=>
       simp only[VR] at A
       grind
     cases h
   | _=>cases h
  | _=>cases h
 | _=>cases h
theorem xN {g:Nat} {args:Array Value} (h:xM P g=true):(callFunc g args).run P w= .ok (.enter g args) w:=by
 unfold xM at h;cases hf:P.funcs[g]? with
 | none=>rw[hf] at h;cases h
 | some fn=>
  rw[hf] at h;simp only[bA_,Bool.not_eq_true'] at h;obtain⟨h1,u⟩:=h;have h3:fn.body.isNone=false:=by simp_all
  have j:¬fn.name= "runtime.NumGoroutine" :=by simpa using u
  have m:¬fn.body=none:=by grind
  simp[callFunc,hf,j,m]
inductive yL (P:Program) (J:dh) (V:aE) (w:World):HR->Result Next->Prop
 | val {v:U} {V':aE} {x:Value} {w':World} {J':dh} (hv:VR J' v x) (hi:Inv J' V' w') (st:eW J V w J' V' w'):yL P J V w (.val v V') (.ok (.value x) w')
 | skip {V':aE} {w':World} {J':dh} (hi:Inv J' V' w') (st:eW J V w J' V' w'):yL P J V w (.skip V') (.ok .skip w')
 | enter {f:Nat} {args:List U} {xs:Array Value} (hv:dw J args xs.toList):yL P J V w (.enter f args V) (.ok (.enter f xs) w)
 | round {l:Pos} {args:List U} {xs:Array Value} {loc:Loc} {r:Result Next} (hv:dw J args xs.toList) (hl:J l=some loc) (hr:r=(Instr.yield loc.dF xs).run P w):yL P J V w (.round l args V) r
 | ki {v:U} {x:Value} (hv:VR J v x):yL P J V w (.ki v V) (.halt (.panic x) w)
def RW (P:Program) (g:Nat):Prop:=∃(fn:Func) (ts tr e:TypeId) (j:TypeInfo),P.funcs[g]?=some fn∧(fn.name == "runtime.NumGoroutine")=false∧fn.body.isNone=true∧Extern.findNext fn=none∧
 Extern.find fn=some (Extern.SlicesOverlaps.overlaps #[ts,ts] #[tr])/\P.underlying ts=some (.slice e)/\P.info? e=some j
def Tb (P:Program) (g:Nat):Prop:=∃(fn:Func),P.funcs[g]?=some fn∧(fn.name == "runtime.NumGoroutine")=false∧fn.body.isNone=true∧Extern.findNext fn=none∧Extern.find fn=some Extern.AbiNoEscape.same
def wG (P:Program) (g:Nat):Prop:=(isNe P g=false/\RW P g)∨(isNe P g=true/\Tb P g)
theorem oT (p:Pos):tI p p=true:=Nat.beq_refl p
theorem VR.vU {b:Pos} {off len:Nat} {cap:uc} {x:Value} (hc:nK cap=true) (h:VR J (.slice b off len cap) x):∃l c,J b=some l/\x= .slice (some ⟨l.dF,l.sh+off,none⟩) len c:=by
 cases cap with
 | upto sz=>simp[nK] at hc
 | known c=>simp only[VR] at h;grind
 | least a sz=>simp only[VR] at h;grind
theorem x9 (hi:Inv J V w) {g:Nat} {args:List U} {xs:Array Value} {v:U} (L:RW P g) (h:qR V args=some v) (hx:dw J args xs.toList):∃x,(callFunc g xs).run P w= .ok (.value x) w/\VR J v x:=by
 obtain⟨fn,ts,tr,e,j,g1,M,Q,R,S,T,W⟩:=L;unfold qR at h;split at h
 ·rename_i b off n cap b' off' n' cap';split at h
  ·rename_i cells e1 cells' X hb m;cases hc:((bif tI b b' then false else true) && (nK cap && (nK cap' && Nat.ble 1 (du cells')))) with
   | false=>rw[hc] at h;cases h
   | true=>
    rw[hc] at h;simp only[cond_true,oJ_] at h;subst h;simp only[bA_,nE_,bY] at hc;obtain⟨u,C,E,hlen⟩:=hc;have z:b≠b':=fun e=>by subst e;rw[oT] at u;simp at u
    obtain⟨x1,r,e',h1,h2⟩:=hx.cons_inv;obtain⟨x2,r',rfl,h3,h4⟩:=h2.cons_inv;have:=h4.eP;subst this;obtain⟨l,c,hl,rfl⟩:=VR.vU C h1;obtain⟨l',c',A,rfl⟩:=VR.vU E h3;have F:xs= #[.slice (some ⟨l.dF,l.sh+off,none⟩) n c,.slice (some ⟨l'.dF,l'.sh+off',none⟩) n' c']:=by grind
    obtain⟨k,fr,G,k2,k3,k4,K⟩:=hi.row hb hl;obtain⟨k',fr',I,aa,ab,ac,am⟩:=hi.row m A
    have B:l.dF≠l'.dF:=fun e=>by
     have:=(hi.inj b b' _ _ l l' hb m hl A e z).1;cases this
    refine⟨.bool false,?_,by simp only[VR]⟩;rw[run_callFunc_extern g1 M Q R S,F]
    rw[Lib.run_overlaps_apart w ts tr e T j.size (fun w=>cd W) ⟨l.dF,l.sh+off,none⟩ ⟨l'.dF,l'.sh+off',none⟩ n c n' c' B e1 X k.size k'.size
     (by simp[World.shape?,G]) (by simp[World.shape?,I]) oM (frozen?_of_heap G _<|K Z _ oM) (frozen?_of_heap G _<|K Z _ oM)]
    rfl
  cases h
 cases h
theorem Jt {ov:Nat->Bool} (C:∀g,ov g=true->wG P g) (hi:Inv J V w) {g:U} {args:List U} {y:Value} {xs:Array Value} {r:HR} (h:y8 P ov V g args=r) (j:∀n,r≠ .err n) (z:VR J g y) (hx:dw J args xs.toList):
  yL P J V w r ((do let d <-Deferred.ofValue y xs;invoke d.target d.args:Sem Next).run P w):=by
 subst h;unfold y8 at j⊢;cases g with
 | func f fi ca=>
  dsimp only at j⊢;cases B:xM P f with
  | false=>
   rw[B] at j;simp only[cond_false] at j⊢;cases F:ov f with
   | false=>simp_all
   | true=>
    rw[F] at j;simp only[cond_true] at j⊢;cases L:isNe P f with
    | true=>
     rw[L] at j;simp only[cond_true] at j⊢;simp only[VR] at z;obtain⟨fi',ca',rfl,m,u⟩:=z;have A:dw J (gL fi<|gL args ca) (fi'++xs++ca').toList:=by rw[eb,eb];simpa using m.append (hx.append u)
     generalize gL fi (gL args ca)=l at j A⊢;cases l with
     | nil=>simp_all
     | cons v r=>
      cases r with
      | cons _ _=>simp_all
      | nil=>
       dsimp only;obtain⟨x,r',e,h1,M⟩:=A.cons_inv;have:=M.eP;subst this;have G:fi'++xs++ca'= #[x]:=by simp_all
       rcases C f F with ⟨h',_⟩ | ⟨_,fn,g1,Q,R,S,T⟩
       ·simp_all
       have I:(callFunc f (fi'++xs++ca')).run P w= .ok (.value x) w:=by
        rw[run_callFunc_extern g1 Q R S T,G,Lib.run_noEscape];rfl
       have:(do let d <-Deferred.ofValue (.func (.func f) fi' ca') xs;invoke d.target d.args:Sem Next).run P w= .ok (.value x) w:=by
        grind [Deferred.ofValue,invoke]
       rw[this];exact .val h1 hi<|eW.refl J V w
    | false=>
    rw[L] at j;simp only[cond_false] at j⊢
    have E:RW P f:=by
     rcases C f F with ⟨_,h'⟩ | ⟨h',_⟩
     ·exact h'
     simp_all
    cases hq:qR V (gL fi<|gL args ca) with
    | none=>simp_all
    | some v=>
     simp only[VR] at z;obtain⟨fi',ca',rfl,m,u⟩:=z;obtain⟨x,I,K⟩:=x9 (xs:=fi'++xs++ca') hi E hq (by rw[eb,eb];simpa using m.append (hx.append u))
     have:(do let d <-Deferred.ofValue (.func (.func f) fi' ca') xs;invoke d.target d.args:Sem Next).run P w= .ok (.value x) w:=by
      grind [Deferred.ofValue,invoke]
     rw[this];exact .val K hi<|eW.refl J V w
  | true=>
   rw[B] at j;simp only[VR] at z;obtain⟨fi',ca',rfl,m,u⟩:=z;simp only[cond_true]
   have:(do let d <-Deferred.ofValue (.func (.func f) fi' ca') xs;invoke d.target d.args:Sem Next).run P w= .ok (.enter f (fi'++xs++ca')) w:=by
    simp[Deferred.ofValue,invoke,xN B]
   rw[this,eb,eb];exact .enter (by simpa using m.append (hx.append u))
 | yield l=>
  dsimp only at j⊢;simp only[VR] at z;obtain⟨loc,hl,rfl⟩:=z;exact .round hx hl (by simp[Deferred.ofValue,invoke])
 | _=>simp_all
end
section
variable {P:Program} {J:dh} {V:aE} {w:World}
def mw:TypeDesc->Bool
 | .int _ | .string | .bool=>true
 | _=>false
def Hj (P:Program) (u:TypeId):Prop:=(∃d,P.underlying u=some d/\mw d=true)∨(∃gs,P.underlying u=some (.struct gs)/\∀g∈gs.toList,∃d,P.underlying g.type=some d/\mw d=true)∨∃m e,P.underlying u=some (.array m e)/\su P e=true
theorem qg {t:TypeId} (h:plainKey P t=true):(∃d,P.underlying t=some d/\mw d=true)∨∃fs,P.underlying t=some (.struct fs)/\∀f∈fs.toList,Hj P f.type:=by
 unfold plainKey at h;split at h
 ·rename_i k hu;exact .inl ⟨_,hu,Z⟩
 ·rename_i hu;exact .inl ⟨_,hu,Z⟩
 ·rename_i hu;exact .inl ⟨_,hu,Z⟩
 ·rename_i fs hu;refine .inr ⟨fs,hu,fun f hf=>?_⟩;rw[aE_] at h;have:=h f hf;split at this
  ·rename_i k j;exact .inl ⟨_,j,Z⟩
  ·rename_i j;exact .inl ⟨_,j,Z⟩
  ·rename_i j;exact .inl ⟨_,j,Z⟩
  ·rename_i gs j;refine .inr (.inl ⟨gs,j,fun g z=>?_⟩);rw[aE_] at this;have:=this g z;split at this
   ·rename_i k u;exact⟨_,u,Z⟩
   ·rename_i u;exact⟨_,u,Z⟩
   ·rename_i u;exact⟨_,u,Z⟩
   cases this
  ·rename_i m e j;exact .inr (.inr ⟨m,e,j,this⟩)
  cases this
 cases h
theorem jG {t:TypeId} {d:TypeDesc} (hu:P.underlying t=some d) (j:mw d=true) (em:Bool) (n:Nat) (a:Value):(Instr.checkKey em (n+1) t a).run P w= .ok () w:=by
 simp only[Instr.checkKey,sB_,run_underlying hu,rA];cases d<;>first | (simp[mw] at j;done) | rfl
theorem rH {t:TypeId} {fs:Array Field} {ys:Array Value} (hu:P.underlying t=some (.struct fs)) (em:Bool) (n:Nat)
  (h:∀f∈fs.toList,∃y,(part f.type ys f.offset).run P w= .ok y w/\(Instr.checkKey em (n+1) f.type y).run P w= .ok () w):(Instr.checkKey em (n+1+1) t (.agg ys)).run P w= .ok () w:=by
 rw[Instr.checkKey];simp only[sB_,run_underlying hu,rA];rw[<-Array.forIn_toList];clear hu;generalize fs.toList=l at*;induction l with
 | nil=>simp
 | cons f l ih=>
  obtain⟨y,aa,ab⟩:=h f (by simp)
  simp_all
theorem yN {t e:TypeId} {m:Nat} {cs:Array Value} {i:TypeInfo} {k:IntKind} (hu:P.underlying t=some (.array m e)) (he:P.underlying e=some (.int k)) (hi:P.info? e=some i) (j:i.size=1) (hl:m<=cs.size) (em:Bool) (n:Nat):
  (Instr.checkKey em (n+1+1) t (.agg cs)).run P w= .ok () w:=by
 rw[Instr.checkKey];simp only[sB_,run_underlying hu,rA];simp only[Std.Legacy.Range.forIn_eq_forIn_range',Std.Legacy.Range.size,Nat.sub_zero,Nat.add_one_sub_one,Nat.div_one]
 have key:∀(l:Nat) (s:Nat),s+l<=cs.size->(forIn (List.range' s l) PUnit.unit fun i (_:PUnit)=>(do
   let z <-sizeOf e
   let v <-part e cs (i*z)
   Instr.checkKey em (n+1) e v
   pure (ForInStep.yield PUnit.unit):Sem (ForInStep PUnit))).run P w= .ok PUnit.unit w:=by
  intro l;induction l with
  | zero=>intro s _;simp
  | succ l ih=>
   intro s aa;have hv:cs[s]?=some cs[s]:=aG_ oM
   have p:(part e cs (s*1)).run P w= .ok cs[s] w:=by
    rw[Nat.mul_one];simp only[part,sB_,ff he,BL,rA,Bool.false_eq_true,if_false,hv,sP_]
   simp only[List.range'_succ,List.forIn_cons,sB_,cd hi,j,p,rA,jG he Z,sP_]
   grind
 simp_all
theorem pw {u:TypeId} {d:TypeDesc} (hu:P.underlying u=some d) (A:mw d=true) {xs:List U} {ys:Array Value} (j:dw J xs ys.toList) {off:Nat} (B:(nth xs off).isSome=true):∃y,(part u ys off).run P w= .ok y w:=by
 obtain⟨v,hv⟩:=Option.isSome_iff_exists.1 B;rw[fG] at hv;obtain⟨y,hy,_⟩:=j.get hv;have m:ys[off]?=some y:=by simp_all
 have z:BL d=false:=by cases d<;>first | rfl | (simp[mw] at A)
 exact⟨y,by simp only[part,sB_,ff hu,z,rA,Bool.false_eq_true,if_false,m,sP_]⟩
theorem lZ {t:TypeId} {k:U} {a:Value} (hp:plainKey P t=true) (E:mj P t k=true) (hk:VR J k a) (em:Bool):(Instr.checkKey em 10000 t a).run P w= .ok () w:=by
 rcases qg hp with ⟨d,hu,R⟩ | ⟨fs,hu,G⟩
 ·exact jG hu R em 9999 a
 unfold mj at E;rw[hu] at E;cases k<;>(try (simp at E;done));rename_i xs;dsimp only at E;simp only[VR] at hk;obtain⟨ys,rfl,A⟩:=hk;refine rH hu em 9998 fun f hf=>?_
 rw[aE_] at E;have hsf:=E f hf;rcases G f hf with ⟨d,j,B⟩ | ⟨gs,j,I⟩ | ⟨m,e,j,K⟩
 ·have:(nth xs f.offset).isSome=true:=by
   rw[j] at hsf;cases d<;>first | exact hsf | (simp[mw] at B)
  obtain⟨y,L⟩:=pw (P:=P) (w:=w) j B A this;exact⟨y,L,jG j B em 9998 y⟩
 ·rw[j] at hsf;dsimp only at hsf;split at hsf
  ·rename_i n C;obtain⟨c,r,v⟩:=gN (P:=P) (w:=w) C A (off:=f.offset);refine⟨.agg c,r,rH j em 9997 fun g Q=>?_⟩;rw[aE_] at hsf;obtain⟨d,u,z⟩:=I g Q;obtain⟨y,L⟩:=pw (P:=P) (w:=w) u z v (hsf g Q);exact⟨y,L,jG u z em 9997 y⟩
  cases hsf
 rw[j] at hsf;dsimp only at hsf;split at hsf
 ·rename_i n C;rw[bA_,Nat.beq_eq,Nat.beq_eq,bY] at hsf;obtain⟨k,inf,he,F,M⟩:=xL K;obtain⟨c,r,v⟩:=gN (P:=P) (w:=w) C A (off:=f.offset);have hcl:=v.length;exact⟨.agg c,r,yN j he F M (by rw[hsf.2] at hcl;have:c.toList.length=c.size:=rfl;omega) em 9997⟩
 cases hsf
theorem H0 {t:TypeId} {d:TypeDesc} (hu:P.underlying t=some d) (hd:mw d=true) {x y:U} {a c:Value} {b:Bool} (h:pj P t x y=some b) (hx:VR J x a) (u:VR J y c):Instr.sameNow d a c=some b:=by
 unfold pj at h;rw[hu] at h;split at h
 ·rename_i z A B q j m k n e;cases e;cases hk:s6 j k with
  | false=>rw[hk] at h;cases h
  | true=>
   rw[hk] at h;have:=pK hk;subst this;simp only[VR] at hx u;subst hx;subst u;simp only[cond_true,oJ_] at h;rw[<-h,cW];simp only[Instr.sameNow,if_true,oJ_]
   grind
 ·rename_i z A B s s' e;cases e;simp only[VR] at hx u;obtain⟨p,rfl,hp⟩:=hx;obtain⟨q,rfl,hq⟩:=u
  grind [Instr.sameNow,og,beq_toListBytes]
 ·rename_i z A B s s' e;cases e;simp only[VR] at hx u;subst hx;subst u;cases h;simp only[Instr.sameNow,oJ_,pI]
 ·grind [mw]
 cases h
theorem EZ {t:TypeId} {fs:Array Field} (hu:P.underlying t=some (.struct fs)) {x y:U} {a c:Value} {b:Bool} (h:pj P t x y=some b) (hx:VR J x a) (j:VR J y c):(Op.equal t a c).run P w= .ok b w:=by
 unfold pj at h;rw[hu] at h;split at h
 ·rename_i e;cases e
 ·rename_i e;cases e
 ·rename_i e;cases e
 ·exact(pL (P:=P) (w:=w) h hx j .eql (.const .nilFunc) (.const .nilFunc)).2
 cases h
def DU (J:dh):Option (Nat×U)->Option (Nat×Value)->Prop
 | none,none=>True
 | some (i,v),some (j,y)=>i=j/\VR J v y
 | _,_=>False
theorem rK {t:TypeId} {d:TypeDesc} (hu:P.underlying t=some d) (j:mw d=true) {k:U} {a:Value} (hk:VR J k a):∀(es:List fw) (ys:List MapEntry) (i:Nat) (r:Option (Nat×U)),jZ J es ys->pg P t k es i=some r->
  ∃r',Instr.findNow d a ys i=some r'/\DU J r r'
 | [],ys,i,r,he,h=>by
  have:ys= []:=he;subst this;have h':some none=some r:=h;cases h';exact⟨none,Z,trivial⟩
 | e::es,ys,i,r,he,h=>by
  obtain⟨y,rest,rfl,h1,m,h3,h4⟩:=he
  have h':(match pj P t k e.key with
   | some true=>some (some (i,e.val))
   | some false=>pg P t k es (Nat.succ i)
   | none=>none)=some r:=h
  cases hq:pj P t k e.key with
  | none=>rw[hq] at h';cases h'
  | some b=>
   rw[hq] at h';have hs:=H0 hu j hq hk h1;cases b with
   | true=>cases h';exact⟨some (i,y.val),by simp[Instr.findNow,hs],Z,m⟩
   | false=>
    obtain⟨r',g1,u⟩:=rK hu j hk es rest (i+1) r h4 h';exact⟨r',by simp[Instr.findNow,hs,g1],u⟩
theorem rJ {t:TypeId} {fs:Array Field} (hu:P.underlying t=some (.struct fs)) {k:U} {a:Value} (hk:VR J k a):∀(es:List fw) (ys:List MapEntry) (i:Nat) (r:Option (Nat×U)),jZ J es ys->pg P t k es i=some r->
  ∃r',(Instr.findAsking t a ys i).run P w= .ok r' w/\DU J r r'
 | [],ys,i,r,he,h=>by
  have:ys= []:=he;subst this;have h':some none=some r:=h;cases h';exact⟨none,Z,trivial⟩
 | e::es,ys,i,r,he,h=>by
  obtain⟨y,rest,rfl,h1,j,h3,h4⟩:=he
  have h':(match pj P t k e.key with
   | some true=>some (some (i,e.val))
   | some false=>pg P t k es (Nat.succ i)
   | none=>none)=some r:=h
  cases hq:pj P t k e.key with
  | none=>simp_all
  | some b=>
   rw[hq] at h';have hs:=EZ (w:=w) hu hq hk h1;cases b with
   | true=>cases h';exact⟨some (i,y.val),by simp[Instr.findAsking,hs],Z,j⟩
   | false=>
    obtain⟨r',g1,m⟩:=rJ hu hk es rest (i+1) r h4 h';exact⟨r',by simp[Instr.findAsking,hs,g1],m⟩
theorem ma {t:TypeId} (hp:plainKey P t=true) {k:U} {a:Value} (hk:VR J k a) {es:List fw} {ys:List MapEntry} {r:Option (Nat×U)} (he:jZ J es ys) (h:pg P t k es 0=some r):
  ∃r',(Instr.findKey t a ys).run P w= .ok r' w/\DU J r r':=by
 rcases qg hp with ⟨d,hu,m⟩ | ⟨fs,hu,aa⟩
 ·obtain⟨r',h1,j⟩:=rK hu m hk es ys 0 r he h;exact⟨r',by simp[Instr.findKey,run_underlying hu,h1],j⟩
 cases u:Instr.findNow (.struct fs) a ys 0 with
 | none=>
  obtain⟨r',h1,j⟩:=rJ (w:=w) hu hk es ys 0 r he h;exact⟨r',by simp[Instr.findKey,run_underlying hu,u,h1],j⟩
 | some r0=>
  cases es with
  | nil=>
   have:ys= []:=he;subst this;have h':some none=some r:=h;cases h';exact⟨none,by simp[Instr.findKey,run_underlying hu,Instr.findNow],trivial⟩
  | cons e es=>
   obtain⟨y,rest,rfl,h1,_⟩:=he
   grind [Instr.sameNow,Instr.findNow]
theorem jZ.length:∀{es:List fw} {ys:List MapEntry},jZ J es ys->ys.length=es.length
 | [],ys,h=>by have:ys= []:=h;rw[this];rfl
 | e::es,ys,h=>by obtain⟨y,r,rfl,_,_,_,h4⟩:=h;simp[h4.length]
theorem jZ.get:∀{es:List fw} {ys:List MapEntry},jZ J es ys->∀{i:Nat} {e:fw},es[i]?=some e->∃y,ys[i]?=some y/\VR J e.key y.key/\VR J e.val y.val/\y.born=e.born
 | [],ys,h,i,e,he=>by simp at he
 | e::es,ys,h,0,e',he=>by
  obtain⟨y,r,rfl,h1,j,m,h4⟩:=h
  simp_all
 | e::es,ys,h,i+1,e',he=>by
  obtain⟨y,r,rfl,h1,j,m,h4⟩:=h;simp at he;simpa using h4.get he
theorem jZ.append:∀{es fs:List fw} {ys zs:List MapEntry},jZ J es ys->jZ J fs zs->jZ J (es++fs) (ys++zs)
 | [],fs,ys,zs,h,h'=>by have:ys= []:=h;subst this;exact h'
 | e::es,fs,ys,zs,h,h'=>by
  obtain⟨y,r,rfl,h1,j,m,h4⟩:=h;exact⟨y,r++zs,Z,h1,j,m,h4.append h'⟩
theorem jZ.set:∀{es:List fw} {ys:List MapEntry},jZ J es ys->∀(i:Nat) {e:fw} {y:MapEntry},VR J e.key y.key->VR J e.val y.val->y.born=e.born->jZ J (es.set i e) (ys.set i y)
 | [],ys,h,i,_,_,_,_,_=>by have:ys= []:=h;simp_all
 | e::es,ys,h,0,_,_,j,m,u=>by
  obtain⟨y,r,rfl,h1,z,A,h4⟩:=h;exact⟨_,r,Z,j,m,u,h4⟩
 | e::es,ys,h,i+1,_,_,j,m,u=>by
  obtain⟨y,r,rfl,h1,z,A,h4⟩:=h;exact⟨y,_,Z,h1,z,A,h4.set i j m u⟩
theorem jZ.erase:∀{es:List fw} {ys:List MapEntry},jZ J es ys->∀(i:Nat),jZ J (es.eraseIdx i) (ys.eraseIdx i)
 | [],ys,h,i=>by have:ys= []:=h;simp_all
 | e::es,ys,h,0=>by obtain⟨y,r,rfl,h1,j,m,h4⟩:=h;exact h4
 | e::es,ys,h,i+1=>by
  obtain⟨y,r,rfl,h1,j,m,h4⟩:=h;exact⟨y,_,Z,h1,j,m,h4.erase i⟩
theorem Inv.xS (hi:Inv J V w) {b:Pos} {l:Loc} {es:List fw} {clock:Nat} (j:V.m.get b=some (.map es clock)) (hl:J b=some l):∃es',w.heap[l.dF]?=some (.map es' clock)/\jZ J es es'.toList:=by
 obtain⟨x,hx,es',rfl,h2⟩:=hi.obj b _ l j hl
 simp_all
theorem run_getObj_map {r clock:Nat} {es:Array MapEntry} (h:w.heap[r]?=some (.map es clock)):(getObj r).run P w= .ok (.map es clock) w:=by
 simp[getObj,Sem.run,h]
theorem AJ (hi:Inv J V w) {ev:Operand->Option U} {f:Operand->Value} {t:TypeId} {x i:Operand} {ok:Bool} {v:U} (hx:∀u,ev x=some u->VR J u (f x)) (hk:∀u,ev i=some u->VR J u (f i))
  (h:gq P ev V (.lookup t x i ok)=some v):∃z,(Instr.lookup t (f x) (f i) ok).run P w= .ok z w/\VR J v z:=by
 simp only[gq] at h;split at h
 ·rename_i kt et k hu I;simp only[bE] at h;split at h
  ·rename_i E;rw[bA_] at E;obtain⟨hp,K⟩:=E;have hkv:=hk _ I
   have main:∀(es:List fw) (ys:Array MapEntry),jZ J es ys.toList->
     (match pg P kt k es 0,fl P et with
      | some (some (_,v)),some _=>some (if ok=true then U.tuple [v,.bool true] else v)
      | some none,some z=>some (if ok=true then U.tuple [z,.bool false] else z)
      | _,_=>none)=some v->
     (Instr.checkKey ys.isEmpty 10000 kt<|f i).run P w= .ok () w/\∃r',(Instr.findKey kt (f i) ys.toList).run P w= .ok r' w/\
      ((∃j y,r'=some (j,y)/\VR J v (if ok=true then .tuple #[y,.bool true] else y))∨
       (r'=none/\∃xz,(zeroValue et).run P w= .ok xz w/\VR J v (if ok=true then .tuple #[xz,.bool false] else xz))):=by
    intro es ys he B;have hck:=lZ (w:=w) hp K hkv ys.isEmpty;cases hf:pg P kt k es 0 with
    | none=>simp_all
    | some r=>
     obtain⟨r',g1,L⟩:=ma (w:=w) hp hkv he hf;cases C:fl P et with
     | none=>simp_all
     | some zz=>
      rw[hf,C] at B;obtain⟨iz,xz,M,hzero,F⟩:=qA C;cases r with
      | some p=>
       obtain⟨j,u⟩:=p;cases r' with
       | none=>exact L.elim
       | some q=>
        obtain⟨j',y⟩:=q;obtain⟨_,R⟩:=L;refine⟨hck,_,g1,.inl ⟨j',y,Z,?_⟩⟩;cases B;cases ok with
        | true=>
         simp only[if_true,VR];exact⟨_,Z,dw.cons R<|dw.cons (by simp only[VR]) dw.nil⟩
        | false=>simpa using R
      | none=>
       cases r' with
       | some q=>exact L.elim
       | none=>
        have Q:(zeroValue et).run P w= .ok xz w:=by simp[zeroValue,typeInfo,M,hzero]
        refine⟨hck,_,g1,.inr ⟨Z,xz,Q,?_⟩⟩;cases B;cases ok with
        | true=>
         simp only[if_true,VR];exact⟨_,Z,dw.cons (F J)<|dw.cons (by simp only[VR]) dw.nil⟩
        | false=>simpa using F J
   cases G:ev x with
   | none=>simp_all
   | some m=>
    rw[G] at h;have hmv:=hx m G;cases m with
    | iL=>
     simp only[VR] at hmv;dsimp only at h;obtain⟨hck,r',g1,A⟩:=main [] #[] (by simp[jZ]) h;rcases A with ⟨j,y,rfl,A⟩ | ⟨rfl,xz,C,A⟩
     ·exact⟨_,by rw[hmv];simp only[Instr.lookup,sB_,run_underlying hu,rA,sP_,hck,g1],A⟩
     exact⟨_,by rw[hmv];simp only[Instr.lookup,sB_,run_underlying hu,rA,sP_,hck,g1,C],A⟩
    | map b=>
     simp only[VR] at hmv;obtain⟨l,hl,hf⟩:=hmv;dsimp only at h;cases hb:V.m.get b with
     | none=>rw[hb] at h;cases h
     | some ob=>
      rw[hb] at h;cases ob with
      | map es clock=>
       dsimp only at h;obtain⟨ys,B,he⟩:=hi.xS hb hl;obtain⟨hck,r',g1,A⟩:=main es ys he h;rcases A with ⟨j,y,rfl,A⟩ | ⟨rfl,xz,C,A⟩
       ·exact⟨_,by rw[hf];simp only[Instr.lookup,sB_,run_underlying hu,rA,sP_,run_getObj_map B,hck,g1],A⟩
       exact⟨_,by rw[hf];simp only[Instr.lookup,sB_,run_underlying hu,rA,sP_,run_getObj_map B,hck,g1,C],A⟩
      | _=>cases h
    | _=>cases h
  cases h
 cases h
theorem vS (hi:Inv J V w) {u:Option TypeId} {x:Option U} {v:U} {z:Value} (h:sC P u V x=some v) (hx:∀a,x=some a->VR J a z):
  ∃(a:Addr) (e cells:Nat),z= .pointer (some a)/\VR J v z/\w.shape? a.block=some (e,cells)/\(match u with | some u=>liesAt P P.depth e (cells/P.cellsOf e) a.off u 1=true | none=>a.off<cells):=by
 unfold sC at h;cases x with
 | none=>cases h
 | some xv=>
  cases xv with
  | ptr b off=>
   have hv:=hx _ Z;have hv':=hv;simp only[VR] at hv';obtain⟨l,hl,rfl⟩:=hv';dsimp only at h;cases hb:V.m.get b with
   | none=>rw[hb] at h;cases h
   | some ob=>
    rw[hb] at h;cases ob with
    | own cells e=>
     dsimp only at h;obtain⟨y,B,⟨h0,aa⟩,c,fr,rfl,hc,_⟩:=hi.obj b _ l hb hl;have A:c.size=cells.length:=by omega
     have j:w.shape? l.dF=some (e,cells.length):=by simp[World.shape?,B,A]
     cases u with
     | some u=>
      dsimp only at h;rw[bE] at h;split at h
      ·rename_i hq;cases h;rw[bY] at hq;exact⟨_,e,cells.length,Z,hv,j,by simpa [h0] using hq⟩
      cases h
     | none=>
      dsimp only at h;rw[bE] at h;split at h
      ·rename_i hq;cases h;rw[nE_,bY] at hq;exact⟨_,e,cells.length,Z,hv,j,by grind⟩
      cases h
    | _=>cases h
  | _=>cases h
theorem yu (hi:Inv J V w) {ev:Operand->Option U} {f:Operand->Value} {o:Oper} {v:U} (C:ER J ev f o.op) (h:gq P ev V o.op=some v):
  ∃x,(execOp f o).run P w= .ok (.value x) w/\VR J v x:=by
 cases E:o.op with
 | load t x=>
  rw[E] at h C;simp only[gq] at h;cases hx:ev x with
  | none=>rw[hx] at h;cases h
  | some u=>
   rw[hx] at h;have hvx:=C x (by simp[Op.operands]) u hx;cases u with
   | ptr b off=>
    simp only at h;cases K:V.m.get b with
    | none=>rw[K] at h;cases h
    | some ob=>
     rw[K] at h;cases ob with
     | row cells e ro=>
      simp only[VR] at hvx;obtain⟨l,hl,F⟩:=hvx;obtain⟨y,L,R⟩:=ns (P:=P) hi K hl h;refine⟨y,?_,R⟩;simp[execOp,E,Instr.loadAt,F,Instr.sureAddr,L]
     | own cells e=>
      simp only[VR] at hvx;obtain⟨l,hl,F⟩:=hvx;obtain⟨_,G,_⟩:=hi.own K hl;obtain⟨y,L,R⟩:=ns (P:=P) G (aE.mf _ _ _) hl h;refine⟨y,?_,R⟩;simp[execOp,E,Instr.loadAt,F,Instr.sureAddr,L]
     | _=>cases h
   | _=>cases h
 | lookup t x i ok=>
  rw[E] at h C;obtain⟨z,h1,X⟩:=AJ (P:=P) hi (f:=f) (C x (by simp[Op.operands])) (C i (by simp[Op.operands])) h
  grind [execOp,sB_,rA,sP_]
 | convert src dst x=>
  rw[E] at h C;simp only[gq] at h;split at h
  case h_4=>cases h
  case h_2=>
   rename_i t M Q;split at h
   ·rename_i j hj;rw[bE] at h;split at h
    ·cases h
    rename_i h0;obtain⟨a,e,cells,hf,hv,S,an⟩:=vS hi h (C x (by simp[Op.operands]));have ab:j.size≠0:=fun e=>h0 (by rw[e];rfl)
    grind [execOp,sB_,Lib.run_to_unsafe,rA,sP_]
   cases h
  case h_3=>
   rename_i u M Q;rw[bE] at h;split at h
   ·rename_i G;obtain⟨j,hj⟩:=Option.isSome_iff_exists.1 G;obtain⟨a,e,cells,hf,hv,S,an⟩:=vS hi h (C x (by simp[Op.operands]))
    grind [execOp,sB_,Lib.run_from_unsafe,rA,sP_]
   cases h
  rename_i e M Q;split at h
  case h_3=>cases h
  ·rename_i he hx;cases h;have hv:=C x (by simp[Op.operands]) _ hx;simp only[VR] at hv;refine⟨.string .empty,?_,by simp only[VR];exact⟨_,Z,Z⟩⟩;simp[execOp,E,convert,hv,run_underlying M,run_underlying Q,run_underlying he,Conv.bytesToString]
  rename_i b off len cap he hx;have hv:=C x (by simp[Op.operands]) _ hx
  have fin:∀(a:Addr) (c:Nat) (s:List Nat),f x= .slice (some a) len c->s.length=len->(∀n∈s,n<=255)->(∀(j:Nat) (hj:j<s.length),w.cell? (a.add j)=some (.int .u8 ((s[j]:Nat):Int)))->
    ∃z,(execOp f o).run P w= .ok (.value z) w/\VR J (.str s) z:=by
   intro a c s hf hl hle hc
   have hb:∀n∈s,(UInt8.ofNat n).toNat=n:=fun n hn=>by
    grind [UInt8.toNat_ofNat']
   have:=run_convert_bytes_back (P:=P) w src dst e a c (s.map UInt8.ofNat) M he Q (fun j hj=>by
    grind)
   rw[lM_,hl] at this;refine⟨.string ⟨(s.map UInt8.ofNat).toArray⟩,by grind [execOp,sB_,rA,sP_],?_⟩;simp only[VR];refine⟨_,Z,?_⟩;unfold gG;simp only[List.map_map]
   conv=>rhs;rw[<-List.map_id s]
   exact List.map_congr_left fun n hn=>hb n hn
  rw[bE] at h;split at h
  ·rename_i h0;have:=nB h0;subst this;cases h;obtain⟨a,c,hf⟩:=VR.jv hv
   simp_all
  rename_i h0;rw[Nat.beq_eq] at h0;split at h
  ·rename_i cells e' ro hb;rw[bE] at h;split at h
   ·rename_i hle;rw[nE_,bY] at hle;split at h
    ·rename_i s I;cases h
     obtain⟨l,c,hl,hf⟩:∃l c,J b=some l/\f x= .slice (some ⟨l.dF,l.sh+off,none⟩) len c:=by
      cases cap with
      | known c=>grind [VR]
      | upto sz=>
       grind [VR]
      | least a sz=>grind [VR]
     obtain⟨ys,ac,T,aa⟩:=hi.piece hb hl off len hle;rw[dR,eA] at I
     have key:∀(l:List U) (s:List Nat),dB y7 l=some s->s.length=l.length/\(∀n∈s,n<=255)/\∀(j:Nat) (n:Nat),s[j]?=some n->l[j]?=some (.int .u8 (.ofNat n)):=by
      intro l;induction l with
      | nil=>intro s h;rw[hJ] at h;simp_all
      | cons x l ih=>
       intro s h;obtain⟨y,r,h1,X,rfl⟩:=gw h;obtain⟨k1,k2,k3⟩:=ih r X
       have hx:x= .int .u8 (.ofNat y)/\y<=255:=by
        unfold y7 at h1;split at h1
        ·rw[bE] at h1;split at h1
         ·simp_all
         cases h1
        cases h1
       grind
     obtain⟨k1,k2,k3⟩:=key _ s I;have W:s.length=len:=by grind
     refine fin _ c s hf W k2 (fun j hj=>?_);have h1:=k3 j s[j] (gC hj);obtain⟨y,L,am⟩:=T.get h1
     grind [VR]
    cases h
   cases h
  cases h
 | call c=>
  rw[E] at h C;simp only[gq] at h;split at h
  ·rename_i B;split at h
   ·rename_i u1 u2 t x e1 e2;have A:c.args= #[x]:=by grind
    split at h
    ·rename_i u3 u4 kt et b hu hx;have hv:=C x (by simp[Op.operands,Call.operands,B,A]) _ hx;simp only[VR] at hv;obtain⟨l,hl,hf⟩:=hv;split at h
     ·rename_i es clock hb;cases h;obtain⟨ys,hh,he⟩:=hi.xS hb hl;refine⟨.int .i64<|Int.ofNat<|du es,?_,by simp only[VR]⟩;have hlen:ys.size=es.length:=by have:=he.length;simpa using this
      simp[execOp,E,resolve,B,A,invoke,builtin,Builtin.len_,e1,run_underlying hu,hf,run_getObj_map hh,goInt,bY,hlen]
     cases h
    ·rename_i u3 u4 kt et hu hx;cases h;have hv:=C x (by simp[Op.operands,Call.operands,B,A]) _ hx;simp only[VR] at hv;refine⟨.int .i64 0,?_,by simp only[VR]⟩;simp[execOp,E,resolve,B,A,invoke,builtin,Builtin.len_,e1,run_underlying hu,hv,goInt]
    cases h
   cases h
  cases h
 | _=>rw[E] at h;simp[gq] at h
end
section
variable {P:Program} {J:dh} {V:aE} {w:World}
theorem EC {ts:Array TypeId} {ty:TypeId} {x v:U} {y:Value} (h:Ge x=some v) (hx:VR J x y):∃z,(Builtin.unsafeSliceData_ ts ty #[y]).run P w= .ok z w/\VR J v z:=by
 unfold Ge at h;split at h
 ·cases h;simp only[VR] at hx;subst hx;exact⟨_,Lib.run_unsafeSliceData_nil w ts ty 0 0,by simp only[VR]⟩
 ·rename_i b off len c;rw[bE] at h;split at h
  ·rename_i j;cases h;cases c with
   | known c=>
    simp only[VR] at hx;obtain⟨l,hl,rfl⟩:=hx;have j:Nat.ble 1 c=true:=j;rw[nE_] at j;exact⟨_,Lib.run_unsafeSliceData_row w ts ty _ _ _ oM,by simp only[VR];simp_all⟩
   | upto s=>
    have j:Nat.ble 1 len=true:=j;rw[nE_] at j;simp only[VR] at hx;obtain⟨l,hl,⟨c,rfl,hc,_⟩ | ⟨h0,_⟩⟩:=hx
    ·exact⟨_,Lib.run_unsafeSliceData_row w ts ty _ _ _ oM,by simp only[VR];simp_all⟩
    omega
   | least a s=>
    have j:Nat.ble 1 a=true:=j;rw[nE_] at j;simp only[VR] at hx;obtain⟨l,hl,c,rfl,hc,_⟩:=hx;exact⟨_,Lib.run_unsafeSliceData_row w ts ty _ _ _ oM,by simp only[VR];simp_all⟩
  cases h
 cases h
theorem BZ:∀{l:List U} {s:List Nat},dB y7 l=some s->s.length=l.length/\(∀n∈s,n<=255)/\∀(j:Nat) (n:Nat),s[j]?=some n->l[j]?=some (.int .u8 (.ofNat n))
 | [],s,h=>by rw[hJ] at h;simp_all
 | x::l,s,h=>by
  obtain⟨y,r,h1,m,rfl⟩:=gw h;obtain⟨k1,k2,k3⟩:=BZ m
  have hx:x= .int .u8 (.ofNat y)/\y<=255:=by
   unfold y7 at h1;split at h1
   ·rw[bE] at h1;split at h1
    ·simp_all
    cases h1
   cases h1
  grind
theorem tU (ts:Array TypeId) (ty:TypeId) (k:Value):Builtin.unsafeString_ ts ty #[.pointer none,k]=
   (do
    let n <-asInt k
    let some _:=ts[0]? | stuck "unsafe.String: no argument types"
    if n<0 then runtimePanic (.error "unsafe.String: len out of range")
    if n>IntKind.i64.max then unsupported (.unsafePointer "String: a length above the largest int")
    if n=0 then pure (.string .empty)
    else runtimePanic (.error "unsafe.String: ptr is nil and len is not zero")):=rfl
theorem nb (ts:Array TypeId) (ty:TypeId) (a:Addr) (k:Value):Builtin.unsafeString_ ts ty #[.pointer<|some a,k]=
   (do
    let n <-asInt k
    let some pt:=ts[0]? | stuck "unsafe.String: no argument types"
    if n<0 then runtimePanic (.error "unsafe.String: len out of range")
    if n>IntKind.i64.max then unsupported (.unsafePointer "String: a length above the largest int")
    if n=0 then pure (.string .empty)
    else if <-variablesAt a (<-elemOf pt) n.toNat then do
     let s <-loadBytes a .empty n.toNat
     freeze a n.toNat
     pure (.string s)
    else unsupported (.unsafePointer "String: not so many bytes at ptr")):=rfl
theorem kj {ts:Array TypeId} {ty pt:TypeId} (m:ts[0]?=some pt) (p:Option Addr):(Builtin.unsafeString_ ts ty #[.pointer p,.int .i64 0]).run P w= .ok (.string .empty) w:=by
 have j:IntKind.i64.max=9223372036854775807:=rfl;cases p with
 | none=>rw[tU];simp[m,asInt,asIntOf,j]
 | some a=>rw[nb];simp[m,asInt,asIntOf,j]
theorem rB {ts:Array TypeId} {ty pt e:TypeId} (F:ts[0]?=some pt) (hp:P.underlying pt=some (.pointer e)) (hc:P.cellsOf e=1) (g off cells:Nat) (C:w.shape? g=some (e,cells)) (l:List UInt8) (h0:l≠[]) (G:off+l.length<=cells) (aa:l.length<=9223372036854775807)
  (m:∀j x,l[j]?=some x->w.cell? ((⟨g,off,none⟩:Addr).add j)=some (.int .u8 x.toNat)):
  (Builtin.unsafeString_ ts ty #[.pointer<|some ⟨g,off,none⟩,.int .i64 l.length]).run P w= .ok (.string ⟨l.toArray⟩) (w.freeze ⟨g,off,none⟩ l.length):=by
 have hl:l.length≠0:=by simpa using h0
 have hlb:=Lib.run_loadBytes (P:=P) w l ⟨g,off,none⟩ .empty m
 have u:liesAt P P.depth e (cells/P.cellsOf e) off e l.length=true:=by
  have E:P.depth=(2*(P.types.size+Made.depth)+1)+1:=rfl;rw[E];simp only[liesAt,Bool.or_eq_true];left;rw[E];simp[rowAt,hc,G,sameLayout,Nat.mod_one]
 have z:¬(9223372036854775807:Int)<(l.length:Int):=by omega
 have A:IntKind.i64.max=9223372036854775807:=rfl;have B:¬(l.length:Int)<0:=by omega
 rw[nb];simp[F,asInt,asIntOf,A,z,B,hl,variablesAt,C,elemOf,run_underlying hp,u,hlb]
theorem FQ (hi:Inv J V w) {ts:Array TypeId} {ty:TypeId} {p n:U} {yp yn:Value} {s:List Nat} {V':aE} (h:Hc P V ts[0]? p n=some (s,V')) (hp:VR J p yp) (B:VR J n yn):
  ∃z w',(Builtin.unsafeString_ ts ty #[yp,yn]).run P w= .ok z w'/\VR J (.str s) z/\Inv J V' w'/\eW J V w J V' w':=by
 unfold Hc at h;split at h
 ·rename_i k;simp only[VR] at B;subst B;rw[bE] at h;split at h
  ·rename_i h0;have:=nB h0;subst this;split at h
   ·rename_i R S pt C;cases h;simp only[VR] at hp;subst hp;exact⟨_,w,kj C _,by simp only[VR];exact⟨_,Z,Z⟩,hi,eW.refl _ _ _⟩
   ·rename_i R S pt b off C;cases h;simp only[VR] at hp;obtain⟨l,hl,rfl⟩:=hp;exact⟨_,w,kj C _,by simp only[VR];exact⟨_,Z,Z⟩,hi,eW.refl _ _ _⟩
   cases h
  rename_i h0;rw[Nat.beq_eq] at h0;split at h
  ·rename_i R S pt b off C;split at h
   ·rename_i u3 u4 u cells e hu hb;rw[bE] at h;split at h
    ·rename_i hc;simp only[bA_,Nat.beq_eq,nE_,bY] at hc;obtain⟨rfl,F,hle,ab⟩:=hc;split at h
     ·rename_i s' T;cases h;simp only[VR] at hp;obtain⟨l,hl,rfl⟩:=hp;rw[dR,eA] at T;obtain⟨k1,k2,W⟩:=BZ T;have ac:s.length=k:=by grind
      obtain⟨c,fr,G,I,K,L,am⟩:=hi.row hb hl;obtain⟨ys,an,M,aa⟩:=hi.piece hb hl off k hle
      have Q:∀n∈s,(UInt8.ofNat n).toNat=n:=fun n B=>by
       grind [UInt8.toNat_ofNat']
      have hlen:(s.map UInt8.ofNat).length=k:=by grind
      have r:=rB (P:=P) (w:=w) (ty:=ty) C hu F l.dF (l.sh+off) c.size (by simp[World.shape?,G]) (s.map UInt8.ofNat) (by grind) (by rw[hlen];omega) (by rw[hlen];omega)
       (fun j x hx=>by
        rw[gM_] at hx;cases hj:s[j]? with
        | none=>grind
        | some m=>
         rw[hj] at hx;cases hx;have h1:=W j m hj;obtain⟨y,hy,ao⟩:=M.get h1
         grind [VR])
      rw[hlen] at r;have A:¬k=0:=h0
      have hw:∃fr',(w.freeze ⟨l.dF,l.sh+off,none⟩ k).heap[l.dF]?=some (.cells c e fr'):=by
       unfold World.freeze
       grind
      obtain⟨fr',hw⟩:=hw
      have E:∀r,r≠l.dF->(w.freeze ⟨l.dF,l.sh+off,none⟩ k).heap[r]?=w.heap[r]?:=fun r hr=>by
       unfold World.freeze
       grind
      obtain⟨X,s2⟩:=hi.F8 hb hl Z (o':=.row cells e true) hw ⟨c,fr',Z,I,K,L,fun h=>by cases h⟩ E (by unfold World.freeze;rw[if_neg A];simp) (by unfold World.freeze;rw[if_neg A]) (by unfold World.freeze;rw[if_neg A]) (by unfold World.freeze;rw[if_neg A]);refine⟨_,_,r,?_,X,s2⟩;simp only[VR];refine⟨_,Z,?_⟩;unfold gG;simp only[List.map_map]
      conv=>rhs;rw[<-List.map_id s]
      exact List.map_congr_left fun n B=>Q n B
     cases h
    cases h
   cases h
  cases h
 cases h
theorem B0 (hi:Inv J V w) {src dst:TypeId} {x v:U} {y:Value} {V':aE} (h:nk P V src dst x= .val v V') (hx:VR J x y):
  ∃z w' J',(convert src dst y).run P w= .ok z w'/\VR J' v z/\Inv J' V' w'/\eW J V w J' V' w':=by
 unfold nk at h;split at h
 ·rename_i e s I K;split at h
  ·rename_i he;rw[bE] at h;split at h
   ·rename_i ab;cases h;simp only[VR] at hx;obtain⟨bs,rfl,j⟩:=hx;have A:bs.size<=grownCap w bs.size 0 e:=grownCap_ge _ _ _ _
    have C:(Lib.bytesCells w e bs).size=grownCap w bs.size 0 e:=by
     unfold Lib.bytesCells
     simp_all
    have hlen:du s=bs.size:=jy j;have aa:(AK (fun c=>U.int .u8 (Int.ofNat c)) s).length=bs.size:=by rw[m5,lM_,<-bY,hlen]
    have L:gP J ⟨w.heap.size,0,grownCap w bs.size 0 e⟩ (.row (AK (fun c=>U.int .u8 (Int.ofNat c)) s) e true) (.cells (Lib.bytesCells w e bs) e ((Lib.bytesCells w e bs).size,(Lib.bytesCells w e bs).size+1)):=by
     refine⟨_,_,Z,by simp[C],by simp_all,fun i v hv=>?_,fun h=>by cases h⟩;rw[m5,gM_] at hv;cases B:s[i]? with
     | none=>simp_all
     | some m=>
      rw[B] at hv;cases hv;have u:(bs.data.toList.map UInt8.toNat)[i]?=some m:=by unfold gG at j;rw[j];exact B
      rw[gM_] at u;cases hq:bs.data.toList[i]? with
      | none=>simp_all
      | some b=>
       rw[hq] at u;cases u;have E:bs.data[i]?=some b:=by simp_all
       have ac:i<bs.data.size:=(aS_.1 E).1;refine⟨.int .u8 b.toNat,?_,by simp only[VR];rfl⟩;unfold Lib.bytesCells
       grind
    have hi1:=hi.drew;obtain⟨F,G⟩:=hi1.alloc (l:=⟨w.heap.size,0,grownCap w bs.size 0 e⟩) (x:=.cells (Lib.bytesCells w e bs) e ((Lib.bytesCells w e bs).size,(Lib.bytesCells w e bs).size+1)) Z L
    have hw:(w.drew.alloc (.cells (Lib.bytesCells w e bs) e ((Lib.bytesCells w e bs).size,(Lib.bytesCells w e bs).size+1)))=Lib.bytesWorld w e bs:=by
     unfold Lib.bytesWorld World.freeze;rw[if_neg oM]
     have:∀(h:Array Obj) (a b:Obj) (f:Obj->Obj),f a=b->(h.push a).modify h.size f=h.push b:=fun h a b f e=>by
      grind
     simp only[World.alloc,World.drew]
     simp_all
    rw[hw] at F G;refine⟨_,_,_,Lib.run_convert_string_bytes w src dst e bs I K he,?_,F,(eW.drew J V w).trans G⟩;simp only[VR];refine⟨_,dh.cG _ _ _,.inl ⟨grownCap w bs.size 0 e,by rw[hlen],by rw[hlen];exact A,by simp⟩⟩
   cases h
  cases h
 cases h
theorem En (P:Program) (V:aE) (src dst:TypeId) (x:U) (v:U) (V':aE):nk P V src dst x≠ .ki v V':=by
 unfold nk
 grind
theorem sb (P:Program) (V:aE) (src dst:TypeId) (x:U):∀f args V',nk P V src dst x≠ .enter f args V'/\nk P V src dst x≠ .round f args V'/\nk P V src dst x≠ .skip V':=by
 intro f args V';unfold nk
 grind
end
section
variable {P:Program} {J:dh} {V:aE} {w:World}
theorem vD {x y:U} {a c:Value} (h:sr x y=some true) (hx:VR J x a) (m:VR J y c) (n:Nat):Instr.sameBits n a c=true:=by
 unfold sr at h;split at h
 ·simp only[VR] at hx m;subst hx;subst m;simp only[oJ_,pI] at h;simp only[Instr.sameBits,h]
 ·rename_i j a' k b';simp only[bE] at h;split at h
  ·rename_i hk;have:=pK hk;subst this;simp only[oJ_,cW,decide_eq_true_eq] at h
   grind [VR,Instr.sameBits]
  cases h
 ·simp only[VR] at hx m;obtain⟨p,rfl,hp⟩:=hx;obtain⟨q,rfl,hq⟩:=m
  grind [og,Instr.sameBits,beq_toListBytes]
 cases h
theorem rG:∀{xs ys:List U} {as cs:List Value},pE xs ys=true->dw J xs as->dw J ys cs->∀n,as.length=cs.length/\((as.zip cs).all fun(x,y)=>Instr.sameBits n x y)=true
 | [],[],as,cs,_,hx,j,n=>by rw[hx.eP,j.eP];simp
 | [],y::ys,as,cs,h,hx,j,n=>by cases h
 | x::xs,[],as,cs,h,hx,j,n=>by cases h
 | x::xs,y::ys,as,cs,h,hx,j,n=>by
  obtain⟨a,as',rfl,h1,m⟩:=hx.cons_inv;obtain⟨c,cs',rfl,u,h4⟩:=j.cons_inv;have h':(match sr x y with | some true=>pE xs ys | _=>false)=true:=h;split at h'
  ·rename_i he;obtain⟨g1,z⟩:=rG h' m h4 n;refine⟨by simp[g1],?_⟩;simp only[List.zip_cons_cons,List.all_cons,bA_];exact⟨vD he h1 u n,z⟩
  cases h'
theorem Bd {x y:U} {a c:Value} (h:sameKey x y=true) (hx:VR J x a) (j:VR J y c) (n:Nat):Instr.sameBits (n+1) a c=true:=by
 unfold sameKey at h;split at h
 ·simp only[VR] at hx j;obtain⟨as,rfl,hx⟩:=hx;obtain⟨cs,rfl,j⟩:=j;obtain⟨g1,g2⟩:=rG h hx j n;simp only[Instr.sameBits,bA_,beq_iff_eq]
  simp_all
 grind [vD]
theorem IJ (e:fw) (es:List fw) (i:Nat):Bf e es i=es.set i e:=uV _ _ _
theorem zj:∀(es:List fw) (i:Nat),xd es i=es.eraseIdx i
 | [],i=>rfl
 | e::es,0=>rfl
 | e::es,i+1=>congrArg (e::·) (zj es i)
theorem Inv.Bg (hi:Inv J V w) {b:Pos} {l:Loc} {es es':List fw} {clock clock':Nat} {ys:Array MapEntry} (hb:V.m.get b=some (.map es clock)) (hl:J b=some l) (he:jZ J es' ys.toList):
  ∃w',(setObj l.dF (.map ys clock')).run P w= .ok () w'/\Inv J (V.setObj b (.map es' clock')) w'/\eW J V w J (V.setObj b (.map es' clock')) w':=by
 obtain⟨zs,j,_⟩:=hi.xS hb hl;refine⟨{w with heap:=w.heap.setIfInBounds l.dF (.map ys clock')},by simp[setObj,Sem.run,j],?_⟩;have hlt:=hi.dF b l hl
 exact hi.change hb hl Z Z (x:=.map ys clock') (by simp_all) ⟨ys,Z,he⟩
  (fun r hr=>by grind) (by simp) Z Z Z
theorem tV (hi:Inv J V w) {t:TypeId} {m k v:U} {ym yk yv:Value} {V':aE} (h:nc P V t m k v=some V') (hm:VR J m ym) (hk:VR J k yk) (hv:VR J v yv):
  ∃w',(Instr.mapUpdate t ym yk yv).run P w= .ok () w'/\Inv J V' w'/\eW J V w J V' w':=by
 unfold nc at h;split at h
 ·rename_i u1 u2 kt et b hu;split at h
  ·rename_i es clock hb;simp only[bE] at h;split at h
   ·rename_i z;rw[bA_] at z;obtain⟨hp,F⟩:=z;simp only[VR] at hm;obtain⟨l,hl,rfl⟩:=hm;obtain⟨ys,G,he⟩:=hi.xS hb hl;have hck:=lZ (w:=w) hp F hk false;split at h
    ·rename_i i u hf;obtain⟨r',g1,E⟩:=ma (w:=w) hp hk he hf;cases r' with
     | none=>exact E.elim
     | some q=>
     obtain⟨j,y⟩:=q;obtain⟨rfl,hy⟩:=E;rw[fG] at h;split at h
     ·rename_i e I;split at h
      ·rename_i K;cases h;obtain⟨ye,aa,e1,e2,e3⟩:=he.get I;have hsb:=Bd K e1 hk 9999;have A:ys[i]?=some ye:=by simp_all
       have B:(Instr.keyThatStays (((ys[i]?).map (·.key)).getD yk) yk).run P w= .ok yk w:=by
        simp[Instr.keyThatStays,A,hsb]
       have C:(ys.modify i fun e=>{e with key:=yk,val:=yv}).toList=ys.toList.set i {key:=yk,val:=yv,born:=e.born}:=by
        apply List.ext_getElem?
        grind
       obtain⟨w',r,inv,st⟩:=hi.Bg (P:=P) (clock':=clock) (es':=Bf {key:=k,val:=v,born:=e.born} es i) (ys:=ys.modify i fun e=>{e with key:=yk,val:=yv}) hb hl (by
        rw[C,IJ];exact he.set i hk hv Z)
       refine⟨w',?_,inv,st⟩;simp only[Instr.mapUpdate,sB_,run_underlying hu,rA,run_getObj_map G,hck,g1,B,r]
      cases h
     cases h
    ·rename_i hf;cases h;obtain⟨r',g1,E⟩:=ma (w:=w) hp hk he hf;cases r' with
     | some q=>exact E.elim
     | none=>
     obtain⟨w',r,inv,st⟩:=hi.Bg (P:=P) (clock':=clock+1) (es':=gL es [{key:=k,val:=v,born:=clock}]) (ys:=ys.push {key:=yk,val:=yv,born:=clock}) hb hl (by
      rw[eb,Array.toList_push];exact he.append ⟨_,[],Z,hk,hv,Z,Z⟩)
     refine⟨w',?_,inv,st⟩;simp only[Instr.mapUpdate,sB_,run_underlying hu,rA,run_getObj_map G,hck,g1,r]
    cases h
   cases h
  cases h
 cases h
theorem Ap (hi:Inv J V w) {ts:Array TypeId} {ty:TypeId} {m k:U} {ym yk:Value} {V':aE} (h:qG P V ts m k=some V') (hm:VR J m ym) (hk:VR J k yk):
  ∃w',(Builtin.delete_ ts ty #[ym,yk]).run P w= .ok (.tuple #[]) w'/\Inv J V' w'/\eW J V w J V' w':=by
 unfold qG at h;split at h
 ·rename_i t C;split at h
  ·rename_i u1 u2 kt et b hu;split at h
   ·rename_i es clock hb;simp only[bE] at h;split at h
    ·rename_i z;rw[bA_] at z;obtain⟨hp,B⟩:=z;simp only[VR] at hm;obtain⟨l,hl,rfl⟩:=hm;obtain⟨ys,E,he⟩:=hi.xS hb hl;have hck:=lZ (w:=w) hp B hk ys.isEmpty;split at h
     ·rename_i i u hf;cases h;obtain⟨r',g1,A⟩:=ma (w:=w) hp hk he hf;cases r' with
      | none=>exact A.elim
      | some q=>
      obtain⟨j,y⟩:=q;obtain⟨rfl,hy⟩:=A
      obtain⟨w',r,inv,st⟩:=hi.Bg (P:=P) (clock':=clock) (es':=xd es i) (ys:=ys.eraseIdxIfInBounds i) hb hl (by
       rw[Array.toList_eraseIdxIfInBounds,zj];exact he.erase i)
      refine⟨w',?_,inv,st⟩;simp only[Builtin.delete_,C,List.getElem?_toArray,List.getElem?_cons_zero,List.getElem?_cons_succ,sB_,run_underlying hu,rA,run_getObj_map E,hck,g1,r,sP_]
     ·rename_i hf;cases h;obtain⟨r',g1,A⟩:=ma (w:=w) hp hk he hf;cases r' with
      | some q=>exact A.elim
      | none=>
      obtain⟨w',r,inv,st⟩:=hi.Bg (P:=P) (clock':=clock) (es':=es) (ys:=ys) hb hl he;refine⟨w',?_,inv,st⟩;simp only[Builtin.delete_,C,List.getElem?_toArray,List.getElem?_cons_zero,List.getElem?_cons_succ,sB_,run_underlying hu,rA,run_getObj_map E,hck,g1,r,sP_]
     cases h
    cases h
   cases h
  cases h
 cases h
def HR.isVal:HR->Prop
 | .val ..=>True
 | .err _=>True
 | _=>False
theorem Eh (P:Program) (V:aE) (ts:Array TypeId) (s x:U):(fO P V ts s x).isVal:=by
 unfold fO;simp only[bE,grow]
 repeat' (first | trivial | split)
theorem BS (P:Program) (V:aE) (ts:Array TypeId) (s x:U):(qC P V ts s x).isVal:=by
 unfold qC;simp only[bE,grow]
 repeat' (first | trivial | split)
theorem JF (P:Program) (V:aE) (ts:Array TypeId) (s x:U):(zf P V ts s x).isVal:=by
 unfold zf;simp only[bE]
 repeat' (first | trivial | split)
theorem Cy {ov:Nat->Bool} (T:∀g,ov g=true->wG P g) (hi:Inv J V w) {ev:Operand->Option U} {f:Operand->Value} {o:Oper} {r:HR} (C:ER J ev f o.op) (h:ig P ov ev V o.op=r) (M:∀n,r≠ .err n):
  yL P J V w r ((execOp f o).run P w):=by
 cases E:o.op with
 | store t x y=>
  rw[E] at h C;simp only[ig] at h;cases hx:ev x with
  | none=>grind
  | some a=>
  cases W:ev y with
  | none=>grind
  | some v=>
  rw[hx,W] at h;dsimp only at h;cases Q:yE P V t a v with
  | none=>grind
  | some V'=>
   rw[Q] at h;subst h;obtain⟨w',r,inv,st⟩:=Dx (P:=P) hi Q (C x (by simp[Op.operands]) a hx) (C y (by simp[Op.operands]) v W);have:(execOp f o).run P w= .ok .skip w':=by grind [execOp,sB_,rA,sP_]
   rw[this];exact .skip inv st
 | mapUpdate t m k x=>
  rw[E] at h C;simp only[ig] at h;cases hm:ev m with
  | none=>grind
  | some a=>
  cases hk:ev k with
  | none=>grind
  | some b=>
  cases hx:ev x with
  | none=>grind
  | some v=>
  rw[hm,hk,hx] at h;dsimp only at h;cases Q:nc P V t a b v with
  | none=>grind
  | some V'=>
   rw[Q] at h;subst h;obtain⟨w',r,inv,st⟩:=tV (P:=P) hi Q (C m (by simp[Op.operands]) a hm) (C k (by simp[Op.operands]) b hk) (C x (by simp[Op.operands]) v hx);have:(execOp f o).run P w= .ok .skip w':=by grind [execOp,sB_,rA,sP_]
   rw[this];exact .skip inv st
 | insert t m k x=>
  rw[E] at h C;simp only[ig] at h;cases hm:ev m with
  | none=>grind
  | some a=>
  cases hk:ev k with
  | none=>grind
  | some b=>
  cases hx:ev x with
  | none=>grind
  | some v=>
  rw[hm,hk,hx] at h;dsimp only at h;cases Q:nc P V t a b v with
  | none=>grind
  | some V'=>
   rw[Q] at h;subst h;obtain⟨w',r,inv,st⟩:=tV (P:=P) hi Q (C m (by simp[Op.operands]) a hm) (C k (by simp[Op.operands]) b hk) (C x (by simp[Op.operands]) v hx);have:(execOp f o).run P w= .ok .skip w':=by grind [execOp,sB_,rA,sP_]
   rw[this];exact .skip inv st
 | call c=>
  rw[E] at h C;simp only[ig] at h;split at h
  ·rename_i g j;split at h
   ·rename_i S u2 y args X F;have A:∀x∈c.args.toList,∀v,ev x=some v->VR J v (f x):=fun x hx=>C x (by grind [Op.operands,Call.operands])
    have:=Jt (P:=P) (w:=w) T hi h M (C g (by simp[Op.operands,Call.operands,j]) y X) (xs:=c.args.map f) (by simpa using gO F A);simpa only[execOp,E,resolve,j] using this
   grind
  ·rename_i j;split at h
   ·rename_i S s x F;subst h;have A:∀x∈c.args.toList,∀v,ev x=some v->VR J v (f x):=fun x hx=>C x (by simp[Op.operands,Call.operands,j];simpa using hx)
    obtain⟨ys,rs,e,h1,K⟩:=(gO F A).cons_inv;obtain⟨yx,rs',rfl,R,h4⟩:=K.cons_inv;have:=h4.eP;subst this;have u:c.args.map f= #[ys,yx]:=by grind
    rw[bE] at M;rw[bE];split at M
    ·rename_i hc;rw[if_pos hc];have hv:=Eh P V c.argTypes s x;cases B:fO P V c.argTypes s x with
     | val v V'=>
      obtain⟨z,w',J',g1,L,G,I⟩:=Af (P:=P) (ty:=o.type) hi B h1 R
      have:(execOp f o).run P w= .ok (.value z) w':=by
       simp only[execOp,E,resolve,j,u,sB_,sP_,rA,invoke,builtin,g1]
      rw[this];exact .val L G I
     | err n=>simp_all
     | _=>rw[B] at hv;exact hv.elim
    rename_i hc;rw[if_neg hc];have hv:=BS P V c.argTypes s x;cases B:qC P V c.argTypes s x with
    | val v V'=>
     obtain⟨z,w',J',g1,L,G,I⟩:=yM (P:=P) (ty:=o.type) hi B h1 R
     have:(execOp f o).run P w= .ok (.value z) w':=by
      simp only[execOp,E,resolve,j,u,sB_,sP_,rA,invoke,builtin,g1]
     rw[this];exact .val L G I
    | err n=>simp_all
    | _=>rw[B] at hv;exact hv.elim
   grind
  ·rename_i j;split at h
   ·rename_i S s x F;have A:∀x∈c.args.toList,∀v,ev x=some v->VR J v (f x):=fun x hx=>C x (by simp[Op.operands,Call.operands,j];simpa using hx)
    obtain⟨ys,rs,e,h1,K⟩:=(gO F A).cons_inv;obtain⟨yx,rs',rfl,R,h4⟩:=K.cons_inv;have:=h4.eP;subst this;have u:c.args.map f= #[ys,yx]:=by grind
    cases B:qG P V c.argTypes s x with
    | none=>grind
    | some V'=>
     rw[B] at h;subst h;obtain⟨w',g1,G,I⟩:=Ap (P:=P) (ty:=o.type) hi B h1 R
     have:(execOp f o).run P w= .ok (.value (.tuple #[])) w':=by
      simp only[execOp,E,resolve,j,u,sB_,sP_,rA,invoke,builtin,g1]
     rw[this];exact .val (by simp only[VR];simp_all) G I
   grind
  ·rename_i j;split at h
   ·rename_i S s x F;subst h;have A:∀x∈c.args.toList,∀v,ev x=some v->VR J v (f x):=fun x hx=>C x (by simp[Op.operands,Call.operands,j];simpa using hx)
    obtain⟨ys,rs,e,h1,K⟩:=(gO F A).cons_inv;obtain⟨yx,rs',rfl,R,h4⟩:=K.cons_inv;have:=h4.eP;subst this;have u:c.args.map f= #[ys,yx]:=by grind
    have hv:=JF P V c.argTypes s x;cases B:zf P V c.argTypes s x with
    | val v V'=>
     obtain⟨z,w',J',g1,L,G,I⟩:=Ey (P:=P) (ty:=o.type) hi B h1 R
     have:(execOp f o).run P w= .ok (.value z) w':=by
      simp only[execOp,E,resolve,j,u,sB_,sP_,rA,invoke,builtin,g1]
     rw[this];exact .val L G I
    | err n=>simp_all
    | _=>rw[B] at hv;exact hv.elim
   grind
  ·rename_i j;split at h
   ·rename_i S x F;have A:∀x∈c.args.toList,∀v,ev x=some v->VR J v (f x):=fun x hx=>C x (by simp[Op.operands,Call.operands,j];simpa using hx)
    obtain⟨ys,rs,e,h1,K⟩:=(gO F A).cons_inv;have:=K.eP;subst this;have u:c.args.map f= #[ys]:=by grind
    cases B:Al P V c.argTypes x with
    | none=>grind
    | some V'=>
     rw[B] at h;subst h;obtain⟨w',g1,G,I⟩:=B6 (P:=P) (ty:=o.type) hi B h1
     have:(execOp f o).run P w= .ok (.value (.tuple #[])) w':=by
      simp only[execOp,E,resolve,j,u,sB_,sP_,rA,invoke,builtin,g1]
     rw[this];exact .val (by simp only[VR];simp_all) G I
   grind
  ·rename_i j;split at h
   ·rename_i S x F;have A:∀x∈c.args.toList,∀v,ev x=some v->VR J v (f x):=fun x hx=>C x (by simp[Op.operands,Call.operands,j];simpa using hx)
    obtain⟨ys,rs,e,h1,K⟩:=(gO F A).cons_inv;have:=K.eP;subst this;have u:c.args.map f= #[ys]:=by grind
    cases B:Ge x with
    | none=>grind
    | some v=>
     rw[B] at h;subst h;obtain⟨z,g1,L⟩:=EC (P:=P) (w:=w) (ts:=c.argTypes) (ty:=o.type) B h1
     have:(execOp f o).run P w= .ok (.value z) w:=by
      simp only[execOp,E,resolve,j,u,sB_,sP_,rA,invoke,builtin,g1]
     rw[this];exact .val L hi<|eW.refl _ _ _
   grind
  ·rename_i j;split at h
   ·rename_i S s x F;have A:∀x∈c.args.toList,∀v,ev x=some v->VR J v (f x):=fun x hx=>C x (by simp[Op.operands,Call.operands,j];simpa using hx)
    obtain⟨ys,rs,e,h1,K⟩:=(gO F A).cons_inv;obtain⟨yx,rs',rfl,R,h4⟩:=K.cons_inv;have:=h4.eP;subst this;have u:c.args.map f= #[ys,yx]:=by grind
    cases B:Hc P V c.argTypes[0]? s x with
    | none=>grind
    | some q=>
     obtain⟨q,V'⟩:=q;rw[B] at h;subst h;obtain⟨z,w',g1,L,G,I⟩:=FQ (P:=P) (ty:=o.type) hi B h1 R
     have:(execOp f o).run P w= .ok (.value z) w':=by
      simp only[execOp,E,resolve,j,u,sB_,sP_,rA,invoke,builtin,g1]
     rw[this];exact .val L G I
   grind
  grind
 | convert src dst x=>
  rw[E] at h C;simp only[ig] at h;cases hx:ev x with
  | none=>grind
  | some a=>
   rw[hx] at h;dsimp only at h;cases B:nk P V src dst a with
   | val v V'=>
    rw[B] at h;subst h;obtain⟨z,w',J',g1,L,G,I⟩:=B0 (P:=P) hi B (C x (by simp[Op.operands]) a hx);have:(execOp f o).run P w= .ok (.value z) w':=by grind [execOp,sB_,rA,sP_]
    rw[this];exact .val L G I
   | err n=>grind
   | skip V'=>exact absurd B (sb P V src dst a 0 [] V').2.2
   | enter g args V'=>exact absurd B (sb P V src dst a g args V').1
   | round g args V'=>exact absurd B (sb P V src dst a g args V').2.1
   | ki q V'=>exact absurd B (En P V src dst a q V')
 | panic x=>
  rw[E] at h C;simp only[ig] at h;split at h
  ·rename_i t v hx;subst h;have hv:=C x (by simp[Op.operands]) _ hx;have hv':=hv;simp only[VR] at hv';obtain⟨y,hf,_⟩:=hv'
   have:(execOp f o).run P w= .halt (.panic<|f x) w:=by
    simp only[execOp,E,hf,Instr.panic,sB_];rfl
   rw[this];exact .ki hv
  grind
 | _=>rw[E] at h;exact absurd h.symm<|M 16
end
inductive Ex where
 | normal
 | exit (id:Nat)
 | goto (l:Nat)
 | ret
 | ki (v:U)
inductive DE where
 | mark (b:Pos)
 | call (f:Nat) (args ca:List U)
inductive CR where
 | ok (e:Ex) (t:PT U) (d:List DE) (V:aE)
 | err (n:Nat)
inductive KR where
 | ret (v:U) (V:aE)
 | ki (v:U) (V:aE)
 | err (n:Nat)
inductive Kind where
 | pure | read | alloc | kY
def isMap (P:Program) (t:Option TypeId):Bool:=
 match t with
 | some t=>match P.underlying t with | some (.map _ _)=>true | _=>false
 | none=>false
def toStr (P:Program) (src dst:TypeId):Bool:=
 match oZ P src,oZ P dst with
 | some (.slice _),some .string=>true
 | some (.pointer _),some .unsafePointer=>true
 | some .unsafePointer,some (.pointer _)=>true
 | _,_=>false
def ofStr (P:Program) (src dst:TypeId):Bool:=
 match oZ P src,oZ P dst with
 | some .string,some (.slice _)=>true
 | _,_=>false
def kindOf (P:Program):Op->Kind
 | .convert src dst _=>bif toStr P src dst then .read else(bif ofStr P src dst then .kY else .pure)
 | .load .. | .lookup ..=>.read
 | .alloc .. | .box .. | .buildSlice .. | .makeSlice .. | .makeMap ..=>.alloc
 | .store .. | .mapUpdate .. | .insert ..=>.kY
 | .call c=>match c.callee with
  | .builtin .len=>bif isMap P c.argTypes[0]? then .read else .pure
  | .builtin .min | .builtin .max | .builtin .cap=>.pure
  | _=>.kY
 | .defer _ | .panic _=>.kY
 | _=>.pure
structure ME where
 f:Nat
 args:List U
 next:Nat
 l:List (Nat×cD)
 v:U
 next':Nat
 l':List (Nat×cD)
structure Cx where
 gl:Nat
 ov:Nat->Bool
 fk:Nat->Bool
 LX:Nat->List U->Option U
 laid:List (Nat×List U)
 mem:List Nat:=[]
 stop:Nat->List U->aE->Option Nat:=fun _ _ _=>none
 Kx:Nat->List U->aE->Option U:=fun _ _ _=>none
def bB (G:Cx) (t:PT U):Operand->Option U
 | .tmp k=>t.get (posOf k)
 | .const v=>p6 v
 | .global g=>bif Nat.ble (Nat.succ g) G.gl then some (.ptr (posOf g) 0) else none
 | .func f=>some (.func f [] [])
def zK:Op->Nat
 | .move ..=>1
 | .assign ..=>2
 | .pick ..=>3
 | .alloc ..=>4
 | .box ..=>5
 | .build ..=>6
 | .buildSlice ..=>7
 | .insert ..=>8
 | .load ..=>9
 | .store ..=>10
 | .ready ..=>11
 | .waits ..=>12
 | .nilCheck ..=>13
 | .binOp ..=>14
 | .unOp ..=>15
 | .convert ..=>16
 | .sliceToArrayPointer ..=>17
 | .makeInterface ..=>18
 | .makeFunc ..=>19
 | .makeMap ..=>20
 | .makeChan ..=>21
 | .makeSlice ..=>22
 | .slice ..=>23
 | .fieldAddr ..=>24
 | .field ..=>25
 | .indexAddr ..=>26
 | .index ..=>27
 | .lookup ..=>28
 | .mapUpdate ..=>29
 | .mapEntry ..=>30
 | .entryStore ..=>31
 | .range ..=>32
 | .next ..=>33
 | .entry ..=>34
 | .typeAssert ..=>35
 | .extract ..=>36
 | .call ..=>37
 | .go ..=>38
 | .defer ..=>39
 | .panic ..=>40
 | .send ..=>41
 | .recv ..=>42
 | .select ..=>43
def ey (P:Program) (G:Cx) (ev:Operand->Option U) (V:aE) (op:Op):HR:=
 match kindOf P op with
 | .pure=>match dI P ev op with | some v=>.val v V | none=>.err (Nat.add 1000<|zK op)
 | .read=>match gq P ev V op with | some v=>.val v V | none=>.err (Nat.add 2000<|zK op)
 | .alloc=>match fy P ev op with | some (ob,mk)=>.val (mk.of V.next) (V.alloc ob) | none=>.err (Nat.add 3000<|zK op)
 | .kY=>ig P G.ov ev V op
def dJ (t:PT U) (n:Nat) (dst:Option Nat) (v:U):Option (PT U):=
 match dst with
 | none=>some t
 | some k=>bif Nat.ble (Nat.succ k) n then some (t.put (some v)<|posOf k) else none
def unit:U:=.tuple []
def bM (ops:Array Oper) (t:PT U) (o:Oper):Option Bool:=
 match o.guard with
 | none=>some true
 | some (j,want)=>match(ops[j]?).bind (·.dst) with
  | some k=>match t.get (posOf k) with
   | some (.bool b)=>some (bif b then want else(bif want then false else true))
   | some (.tuple _)=>some false
   | _=>none
  | none=>some false
abbrev j1:=Code->PT U->Nat->List DE->Option Pos->aE->CR
def uN (n:Nat) (ks:List Nat) (vs:List U) (t:PT U):Option (PT U):=
 List.rec (motive:=fun _=>List U->PT U->Option (PT U)) (fun vs t=>List.rec (motive:=fun _=>Option<|PT U) (some t) (fun _ _ _=>none) vs)
  (fun k _ ih vs t=>List.rec (motive:=fun _=>Option<|PT U) none (fun v r _=>match dJ t n (some k) v with | some t'=>ih r t' | none=>none) vs) ks vs t
def uC:Ex->Option Code
 | .normal=>none
 | .ret=>some .ret
 | .exit id=>some (.exit id)
 | .goto g=>some (.goto g)
 | .ki _=>none
def zA:Ex->Bool
 | .ki _=>true
 | _=>false
def tM:Ex->LoopState
 | .normal=>.ready
 | _=>.done
def Bz:Ex->Bool
 | .normal=>true
 | _=>false
def mB (ih:j1) (l:Pos) (args:List U) (V:aE):KR:=
 match V.m.get l with
 | some (.loop _ _ tmps n params assign body _)=>
  match uN n params args tmps with
  | some t=>match ih assign t n [] (some l) V with
   | .ok .normal t [] V1=>match V1.m.get l with
    | some (.loop .ready p tmps n' params assign body' df)=>
     match ih body t n [] (some l) (V1.setObj l (.loop .busy p tmps n' params assign body' df)) with
     | .ok e _ [] V2=>bif zA e then .err 67 else match V2.m.get l with
      | some (.loop _ _ tmps n params assign body df)=>.ret (.bool<|Bz e) (V2.setObj l (.loop (tM e) (uC e) tmps n params assign body df))
      | _=>.err 61
     | .err k=>.err k
     | _=>.err 62
    | _=>.err 63
   | .err k=>.err k
   | _=>.err 64
  | none=>.err 65
 | _=>.err 66
def rD (n:Nat) (args:List U):Option (PT U):=
 List.rec (motive:=fun _=>Nat->PT U->Option (PT U)) (fun _ t=>some t) (fun v _ ih k t=>match dJ t n (some k) v with | some t'=>ih (Nat.succ k) t' | none=>none) args 0 .leaf
def gE (P:Program) (t:PT U) (V:aE):ResultVar->Option U
 | .tmp k=>t.get (posOf k)
 | .cell k ty=>match t.get (posOf k) with
  | some (.ptr b off)=>match V.m.get b with
   | some (.row cells _ _)=>match dZ P ty with
    | some (some n)=>bif Nat.ble (off+n) (du cells) then some (.agg<|takeN (dW cells off) n) else none
    | some none=>nth cells off
    | none=>none
   | _=>none
  | _=>none
def eG (P:Program) (fn:Func) (t:PT U) (V:aE):Option U:=
 match dB (gE P t V) fn.results.toList with
 | some [v]=>some v
 | some vs=>some (.tuple vs)
 | none=>none
inductive Md where
 | ret
 | ki (v:U)
 | RN (v:U)
def uE (P:Program) (G:Cx) (ih:j1) (d:List DE):Md->aE->Option (Md×aE):=
 List.rec (motive:=fun _=>Md->aE->Option (Md×aE)) (fun md V=>some (md,V))
  (fun e _ k md V=>match e with
   | .mark b=>match V.m.get b with
    | some .mark=>k md (V.setObj b .dead)
    | _=>none
   | .call _ _ _=>none) d
def yP (P:Program) (G:Cx) (ih:j1) (fn:Func) (md:Md) (t:PT U) (d:List DE) (V:aE):KR:=
 match uE P G ih d md V with
 | some (.ret,V)=>match eG P fn t V with | some v=>.ret v V | none=>.err 70
 | some (.ki v,V)=>.ki v V
 | _=>.err 71
def mR (P:Program) (G:Cx) (ih:j1) (f:Nat) (args:List U) (V:aE):KR:=
 match P.funcs[f]? with
 | some fn=>match fn.body,rD fn.ntmps args with
  | some c,some t=>match ih c t fn.ntmps [] none V with
   | .ok .normal t d V=>yP P G ih fn .ret t d V
   | .ok .ret t d V=>yP P G ih fn .ret t d V
   | .ok (.ki v) t d V=>yP P G ih fn (.ki v) t d V
   | .err k=>.err k
   | _=>.err 72
  | _,_=>.err 73
 | none=>.err 74
def uI (r:KR):KR:=
 match r with
 | .ki _ _=>.err 69
 | r=>r
def ph:U->Bool
 | .bool _ | .int _ _ | .str _ | .gR | .az | .iL | .nilFunc | .nilIface=>true
 | _=>false
def fx (l:List U):Bool:=List.rec (motive:=fun _=>Bool) true (fun v _ r=>bif ph v then r else false) l
def Au (x y:U):Bool:=
 match x,y with
 | .bool a,.bool b=>bif a then b else(bif b then false else true)
 | .int j a,.int k b=>s6 j k && H a b
 | .str a,.str b=>gK a b
 | .gR,.gR=>true
 | .az,.az=>true
 | .iL,.iL=>true
 | .nilFunc,.nilFunc=>true
 | .nilIface,.nilIface=>true
 | _,_=>false
def qH (xs ys:List U):Bool:=
 List.rec (motive:=fun _=>List U->Bool) (fun ys=>List.rec (motive:=fun _=>Bool) true (fun _ _ _=>false) ys)
  (fun x _ ih ys=>List.rec (motive:=fun _=>Bool) false (fun y r _=>bif Au x y then ih r else false) ys) xs ys
def GY (n:Nat) (v:U):List U:=Nat.rec (motive:=fun _=>List U) [] (fun _ l=>v::l) n
def fC (V:aE) (b:Pos) (o:cD) (vb:Pos) (o':cD):aE:={next:=V.next,m:=(PT.leaf.put (some o) b).put (some o') vb}
def wq (vb:Pos) (vc:List U) (ve e sz:Nat) (r:KR) (ok:uc->Nat->Bool):Option (Nat×List U):=
 match r with
 | .ret (.slice b1 o1 n1 c1) σ1=>
  match σ1.m.get b1,σ1.m.get vb with
  | some (.row cs1 e1 false),some (.row vc1 ve1 false)=>
   bif ok c1 n1 && ((bif tI b1 vb then false else true) && (qH vc vc1 && (Nat.beq ve ve1 && (Nat.beq e e1 && (Nat.ble 1 n1 && (Nat.ble (o1+n1*sz) (du cs1) && fx (takeN (dW cs1 o1) (n1*sz)))))))) then
    some (n1,takeN (dW cs1 o1) (n1*sz))
   else none
  | _,_=>none
 | _=>none
def EX (sz:Nat) (c:uc) (_:Nat):Bool:=
 match c with
 | .upto s=>Nat.beq s sz
 | _=>false
def AG (sz:Nat) (c:uc) (n:Nat):Bool:=
 match c with
 | .least a s=>Nat.beq s sz && Nat.ble n a
 | _=>false
def Kh (P:Program) (G:Cx) (ih:j1) (f:Nat) (args:List U) (V:aE):KR:=
 match args with
 | [.slice b off n (.upto sz),i,.slice vb voff m (.known mc)]=>
  match V.m.get b,V.m.get vb with
  | some (.row cells e false),some (.row vc ve false)=>
   bif (bif tI b vb then false else true) && (Nat.ble 1 n && (Nat.beq m 1 && (ph i && (fx vc && Nat.ble (off+n*sz) (du cells))))) then
    match wq vb vc ve e sz (mR P G ih f [.slice b off n (.known n),i,.slice vb voff m (.known mc)]<|fC V b (.row cells e false) vb (.row vc ve false)) (EX sz),
     wq vb vc ve e sz (mR P G ih f [.slice b off n (.least (Nat.succ n) sz),i,.slice vb voff m (.known mc)]<|fC V b (.row (gL (takeN cells (off+n*sz))<|GY sz .any) e false) vb (.row vc ve false)) (AG sz) with
    | some (n1,r1),some (n2,r2)=>bif Nat.beq n1 n2 && qH r1 r2 then .ret (.slice V.next 0 n1 (.upto sz)) ((V.drop b).alloc (.row r1 e false)) else .err 75
    | _,_=>.err 76
   else .err 77
  | _,_=>.err 78
 | _=>mR P G ih f args V
def uD (gl:Nat) (V:aE) (l:List (Nat×List U)):Bool:=
 List.rec (motive:=fun _=>Bool) true (fun x _ r=>bif Nat.ble (Nat.succ x.1) gl then(match V.m.get x.1 with
  | some (.row cells _ true)=>bif fx x.2 then(bif qH cells x.2 then r else false) else false
  | _=>false) else false) l
def eh (x y:U):Bool:=
 match x,y with
 | .agg xs,.agg ys=>beqL xs ys
 | x,y=>lh x y
where
 beqP (p q:Pos):Bool:=Nat.beq p q
 beqC (c d:uc):Bool:=
  match c,d with
  | .known a,.known b=>Nat.beq a b
  | .upto a,.upto b=>Nat.beq a b
  | _,_=>false
 lh (x y:U):Bool:=
  match x,y with
  | .bool a,.bool b=>bif a then b else(bif b then false else true)
  | .int j a,.int k b=>s6 j k && H a b
  | .str a,.str b=>gK a b
  | .gR,.gR=>true
  | .tok a,.tok b=>Nat.beq a b
  | .ptr b o,.ptr b' o'=>beqP b b' && Nat.beq o o'
  | .az,.az=>true
  | .slice b o l c,.slice b' o' l' c'=>beqP b b' && Nat.beq o o' && Nat.beq l l' && beqC c c'
  | .iL,.iL=>true
  | .map b,.map b'=>beqP b b'
  | .nilFunc,.nilFunc=>true
  | .nilIface,.nilIface=>true
  | .func f [] [],.func g [] []=>Nat.beq f g
  | .func f [] [.ptr b o],.func g [] [.ptr b' o']=>Nat.beq f g && beqP b b' && Nat.beq o o'
  | _,_=>false
 beqL (xs ys:List U):Bool:=
  List.rec (motive:=fun _=>List U->Bool) (fun ys=>List.rec (motive:=fun _=>Bool) true (fun _ _ _=>false) ys)
   (fun x _ ih ys=>List.rec (motive:=fun _=>Bool) false (fun y r _=>bif lh x y then ih r else false) ys) xs ys
def KB (l:List (Nat×List U)) (E:Nat->TypeId):PT cD:=l.foldl (fun m x=>m.put (some (.row x.2 (E x.1) true)) (posOf x.1)) .leaf
def atEnd (args:List U):Bool:=
 match args with
 | [.slice _ _ n _,.int _ (.ofNat j),_]=>Nat.beq j n
 | _=>false
def Ki (P:Program) (G:Cx) (ih:j1) (f:Nat) (args:List U) (V:aE):KR:=bif atEnd args then mR P G ih f args V else Kh P G ih f args V
def lr (P:Program) (G:Cx) (ih:j1) (f:Nat) (args:List U) (V:aE):KR:=
 match G.Kx f args V with
 | some v=>bif ph v then .ret v V else .err 78
 | none=>match G.LX f args with
 | some v=>bif fx args && (ph v && uD G.gl V G.laid) then .ret v V else .err 79
 | none=>match G.stop f args V with
   | some c=>.err c
   | none=>bif G.fk f then uI (Ki P G ih f args V) else mR P G ih f args V
def lj (P:Program) (G:Cx) (ih:j1) (r:HR):KR:=
 match r with
 | .val v V=>.ret v V
 | .skip V=>.ret unit V
 | .enter f args V=>lr P G ih f args V
 | .round l args V=>mB ih l args V
 | .ki v V=>.ki v V
 | .err e=>.err e
def NQ (pn:Bool) (v:U) (t:PT U) (V:aE):CR:=bif pn then .ok (.ki v) t [] V else .err 69
def iB (P:Program) (G:Cx) (ih:j1) (pn:Bool) (ops:Array Oper) (n:Nat) (o:Oper) (t:PT U) (V:aE) (k:PT U->aE->CR):CR:=
 match bM ops t o with
 | some true=>match lj P G ih (ey P G (bB G t) V o.op) with
  | .ret v V'=>match dJ t n o.dst v with | some t'=>k t' V' | none=>.err 80
  | .ki v V'=>NQ pn v t V'
  | .err e=>.err e
 | some false=>match dJ t n o.dst unit with | some t'=>k t' V | none=>.err 84
 | none=>.err 85
def tw (P:Program) (G:Cx) (ih:j1) (ops:Array Oper) (n:Nat) (d:List DE) (l:List Oper):PT U->aE->CR:=
 List.rec (motive:=fun _=>PT U->aE->CR) (fun t V=>.ok .normal t d V)
  (fun o _ k t V=>iB P G ih true ops n o t V k) l
def r5 (A:Array Nat) (i j:Nat):Bool:=(A.getD i 0).testBit j
def waits (ops:Array Oper) (i j:Nat):Bool:=((ops[i]?).map fun o=>o.after.any fun e=>Region.binds .any e && e.on == j).getD false
def EV:Kind->Bool
 | .kY=>true
 | _=>false
def uF:Kind->Bool
 | .read | .alloc=>true
 | _=>false
def jN (P:Program) (ops:Array Oper) (i:Nat):Bool:=match(ops[i]?).map fun o=>kindOf P o.op with | some k=>EV k | none=>false
def fQ (P:Program) (ops:Array Oper) (i:Nat):Bool:=match(ops[i]?).map fun o=>kindOf P o.op with | some k=>uF k | none=>false
def slotsOf (ops:Array Oper) (o:Oper):List Nat:=
 (o.op.operands.toList.filterMap fun | .tmp k=>some k | _=>none)++(match o.guard with | some (j,_)=>((ops[j]?).bind (·.dst)).toList | none=>[])
def fb (ops:Array Oper) (i:Nat):Option Nat:=(ops[i]?).bind (·.dst)
def bit (i:Nat):Nat:=Nat.shiftLeft 1 i
def hasB (m i:Nat):Bool:=Nat.beq (Nat.land (Nat.shiftRight m i) 1) 1
def Bk (m k:Nat):Bool:=Nat.beq (Nat.land m k) m
def nt (l:List Nat):Nat:=List.rec (motive:=fun _=>Nat) 0 (fun i _ r=>Nat.lor (bit i) r) l
structure Row where
 w:Nat
 h:Bool
 k:Bool
 d:Option Nat
 dm:Nat
 s:Nat
def yz (P:Program) (ops:Array Oper) (o:Oper):Row:=
 {w:=nt (o.after.toList.filterMap fun e=>if Region.binds .any e=true then some e.on else none),h:=EV<|kindOf P o.op,k:=uF<|kindOf P o.op,d:=o.dst,dm:=nt o.dst.toList,s:=nt (slotsOf ops o)}
structure RA where
 r:Row
 a:Nat
def x7 (L:List RA):Nat->Nat:=
 List.rec (motive:=fun _=>Nat->Nat) (fun _=>0) (fun x _ ih w=>Nat.lor (Bool.rec (motive:=fun _=>Nat) 0 x.a<|Nat.beq (Nat.land w 1) 1) (ih<|Nat.shiftRight w 1)) L
def Ls (rows:List Row):List RA->List RA:=
 List.rec (motive:=fun _=>List RA->List RA) (fun L=>L) (fun r _ ih L=>ih (gL L [⟨r,Nat.lor r.w<|x7 L r.w⟩])) rows
def ju (P:Program) (ops:Array Oper):List RA:=Ls (AK (yz P ops) ops.toList) []
def allI {α:Type} (f:Nat->α->Bool) (l:List α):Nat->Bool:=List.rec (motive:=fun _=>Nat->Bool) (fun _=>true) (fun x _ ih i=>Bool.rec (motive:=fun _=>Bool) false (ih<|Nat.succ i) (f i x)) l
def OL {α:Type} (f:Nat->α->Bool) (l:List α):Nat->Option Nat:=List.rec (motive:=fun _=>Nat->Option Nat) (fun _=>none) (fun x _ ih i=>Bool.rec (motive:=fun _=>Option Nat) (ih<|Nat.succ i) (some i) (f i x)) l
def QV {α:Type} (f:Nat->α->Bool) (l:List α):Nat->List Nat:=List.rec (motive:=fun _=>Nat->List Nat) (fun _=>[]) (fun x _ ih i=>Bool.rec (motive:=fun _=>List Nat) (ih<|Nat.succ i) (i::ih (Nat.succ i)) (f i x)) l
def C7 (i:Nat) (x:RA) (j:Nat) (y:RA):Bool:=
 Option.rec (motive:=fun _=>Bool) true (fun k=>bif (bif hasB x.r.dm k then Nat.beq j i else true) then(bif hasB x.r.s k then(bif hasB x.a j then true else(bif x.r.k then false else(bif Nat.beq j i then true else hasB y.a i))) else true) else false) y.r.d
def Lf (i:Nat) (x:RA) (j:Nat) (y:RA):Bool:=Bool.rec (motive:=fun _=>Bool) (C7 i x j y) true (Nat.beq (Nat.land (Nat.lor x.r.dm x.r.s) y.r.dm) 0)
def LG (L:List RA) (n:Nat):Bool:=
 allI (fun i x=>bif Nat.blt x.r.w (bit n) then(bif (bif x.r.k then x.r.d.isSome else true) then(bif Bk x.a (Nat.lor x.r.w<|x7 L x.r.w) then allI (Lf i x) L 0 else false) else false) else false) L 0
def Q6 (L:List RA) (fuel:Nat):Nat->List (Nat×List Nat):=
 Nat.rec (motive:=fun _=>Nat->List (Nat×List Nat)) (fun _=>[])
  (fun _ ih D_=>Option.rec (motive:=fun _=>List (Nat×List Nat))
   (Option.rec (motive:=fun _=>List (Nat×List Nat)) [] (fun i=>(i,Option.rec (motive:=fun _=>List Nat) [] (fun x=>QV (fun j y=>bif hasB D_ j then(bif y.r.k then(bif hasB x.a j then false else true) else false) else false) L 0) (nth L i))::ih (Nat.lor D_ (bit i)))
   <|OL (fun i x=>Bool.rec (motive:=fun _=>Bool) (Bk x.r.w D_) false (hasB D_ i)) L 0)
   (fun i=>(i,[])::ih (Nat.lor D_<|bit i))<|OL (fun i x=>Bool.rec (motive:=fun _=>Bool) (Bool.rec (motive:=fun _=>Bool) (Bk x.r.w D_) false x.r.h) false (hasB D_ i)) L 0) fuel
def Ko (L:List RA) (i:Nat) (rc:List Nat) (D_:Nat) (x:RA):Bool:=
 bif hasB D_ i then false else(bif Bk x.r.w D_ then(bif x.r.h then allI (fun j y=>bif hasB D_ j then(bif hasB x.a j then true else(bif y.r.k then hasB (nt rc) j else true)) else(bif Nat.beq j i then true else(bif Bk y.r.w D_ then false else true))) L 0 else true) else false)
def Ep (L:List RA) (n:Nat) (p:List (Nat×List Nat)):Nat->Bool:=
 List.rec (motive:=fun _=>Nat->Bool) (fun D_=>Nat.beq D_ (Nat.sub (bit n) 1))
  (fun p _ ih D_=>Option.rec (motive:=fun _=>Bool) false (fun x=>bif Ko L p.1 p.2 D_ x then ih (Nat.lor D_<|bit p.1) else false) (nth L p.1)) p
def jQ (P:Program) (ops:Array Oper):List (Nat×List Nat):=Q6 (ju P ops) ops.size 0
def ux (P:Program) (ops:Array Oper):Bool:=bif LG (ju P ops) ops.size then Ep (ju P ops) ops.size (jQ P ops) 0 else false
def ji (P:Program) (G:Cx) (ops:Array Oper) (t:PT U) (V:aE) (i:Nat):Bool:=
 match ops[i]? with
 | some o=>match bM ops t o with
  | some true=>match o.dst with
   | some k=>match t.get (posOf k) with
    | some v=>match kindOf P o.op with
     | .read=>match gq P (bB G t) V o.op with | some u=>eh u v | none=>false
     | .alloc=>match fy P (bB G t) o.op,v with
      | some (.row cs e false,.ptr),.ptr b 0=>match V.m.get b with | some (.row cs' e' false)=>Nat.beq e e' && eh.beqL cs cs' | _=>false
      | some (.row cs e false,.slice n c),.slice b 0 n' (.known c')=>match V.m.get b with | some (.row cs' e' false)=>Nat.beq e e' && eh.beqL cs cs' && Nat.beq n n' && Nat.beq c c' | _=>false
      | _,_=>false
     | _=>false
    | none=>false
   | none=>false
  | some false=>true
  | none=>false
 | none=>false
def dk (P:Program) (G:Cx) (ops:Array Oper) (t:PT U) (V:aE) (l:List Nat):Bool:=
 List.rec (motive:=fun _=>Bool) true (fun i _ r=>bif ji P G ops t V i then r else false) l
def jR (P:Program) (G:Cx) (ih:j1) (ops:Array Oper) (n:Nat) (d:List DE) (l:List (Nat×List Nat)):PT U->aE->CR:=
 List.rec (motive:=fun _=>PT U->aE->CR) (fun t V=>.ok .normal t d V)
  (fun p _ k t V=>match ops[p.1]? with
   | some o=>iB P G ih false ops n o t V (fun t' V'=>bif dk P G ops t' V' p.2 then k t' V' else .err 86)
   | none=>.err 87) l
def vB (P:Program) (G:Cx) (ih:j1) (ops:Array Oper) (n:Nat) (d:List DE) (t:PT U) (V:aE):CR:=
 bif ux P ops then jR P G ih ops n d (jQ P ops) t V else .err 88
def ze (c:Option U) (x y:CR):CR:=
 match c with
 | some (.bool true)=>x
 | some (.bool false)=>y
 | _=>.err 90
def wa (r:CR) (k:PT U->List DE->aE->CR):CR:=
 match r with
 | .ok .normal t d V=>k t d V
 | r=>r
def r9 (id:Nat) (r:CR):CR:=
 match r with
 | .ok (.exit j) t d V=>bif Nat.beq j id then .ok .normal t d V else .ok (.exit j) t d V
 | r=>r
def FA (r:CR):CR:=
 match r with
 | .ok (.goto _) _ _ _=>.err 98
 | r=>r
def xT (ro:Option Pos) (d:List DE) (V:aE):Option (Pos×aE×List DE):=
 match ro with
 | none=>some (V.next,V.alloc .mark,DE.mark V.next::d)
 | some l=>match V.m.get l with
  | some (.loop _ _ _ _ _ _ _ df)=>some (df,V,d)
  | _=>none
def Ed (ih:j1) (l:Pos) (t:PT U) (n:Nat) (d:List DE) (ro:Option Pos) (V:aE):CR:=
 match V.m.get l with
 | some (.loop st p tmps n' ps as bd df)=>
  match st with
  | .busy=>.err 91
  | _=>match p with
   | none=>.ok .normal t d (V.setObj l (.loop .exhausted none tmps n' ps as bd df))
   | some c=>ih c t n d ro (V.setObj l (.loop .exhausted (some c) tmps n' ps as bd df))
 | _=>.err 92
def uP (P:Program) (G:Cx) (ih:j1) (g:Operand) (ps:Array Tmp) (assign body:Code) (t:PT U) (n:Nat) (d:List DE) (ro:Option Pos) (V:aE):CR:=
 match xT ro d V with
 | some (df,V1,d₁)=>
  match bB G t g with
  | some (.func f fi ca)=>bif xM P f then
    match lr P G ih f (gL fi (.yield V1.next::ca)) (V1.alloc (.loop .ready none t n ps.toList assign body df)) with
    | .ret _ V3=>Ed ih V1.next t n d₁ ro V3
    | .ki _ _=>.err 89
    | .err e=>.err e
   else .err 93
  | _=>.err 94
 | none=>.err 95
def QT (o:Oper):Bool:=
 match o.op with
 | .defer _=>true
 | _=>false
def mh (ops:List Oper):Bool:=ops.any QT
def Cr (d:List DE) (r:CR):CR:=
 match r with
 | .ok (.ki v) t _ V=>.ok (.ki v) t d V
 | r=>r
def G4 (P:Program) (G:Cx) (ih:j1) (c:Code) (t:PT U) (n:Nat) (d:List DE) (ro:Option Pos) (V:aE):CR:=
 match c with
 | .skip | .label _=>.ok .normal t d V
 | .region _ ops draw=>bif draw then vB P G ih ops n d t V else bif mh ops.toList then .err 96 else Cr d (tw P G ih ops n d ops.toList t V)
 | .seq a b=>wa (ih a t n d ro V) (fun t d V=>ih b t n d ro V)
 | .cond c a b=>ze (bB G t c) (ih a t n d ro V) (ih b t n d ro V)
 | .block id b=>r9 id (ih b t n d ro V)
 | .scope b=>FA (ih b t n d ro V)
 | .loop b=>wa (ih b t n d ro V) (fun t d V=>ih (.loop b) t n d ro V)
 | .exit id=>.ok (.exit id) t d V
 | .ret=>.ok .ret t d V
 | .rangeFunc g ps assign body=>uP P G ih g ps assign body t n d ro V
 | _=>.err 99
def ep (P:Program) (G:Cx) (fuel:Nat):j1:=Nat.rec (motive:=fun _=>j1) (fun _ _ _ _ _ _=>.err 100) (fun _ ih=>G4 P G ih) fuel
def xn (P:Program) (G:Cx) (fuel:Nat) (f:Nat) (args:List U) (V:aE):KR:=lr P G (ep P G fuel) f args V
def lG:Option Nat->Fence
 | none=>Fence.wide
 | some l=>Fence.wide.inRound l
theorem mX (rl:Option Nat) (f:FuncId):(lG rl).fn f:=by cases rl<;>trivial
theorem EM (rl:Option Nat):(lG rl).depth=none:=by cases rl<;>rfl
theorem EN (rl:Option Nat):(lG rl).round=rl:=by cases rl<;>rfl
theorem qJ (rl:Option Nat) (m:Nat):(lG rl).depth.isSome=true->1<=m:=by rw[EM];intro h;cases h
theorem ss {m:Nat} {P:Program} {f:FuncId} {args:Array Value} {w:World} {R:Ending->World->Prop} (rl:Option Nat) (h:CallsIn Fence.wide m P f args w R):CallsIn (lG rl) m P f args w R:=by
 cases rl with
 | none=>exact h
 | some l=>exact h.inRound l
theorem Nm (rl:Option Nat) (l:Nat):(lG rl).inRound l=lG (some l):=by cases rl<;>rfl
def DR (J:dh):List DE->List Deferred->Prop
 | [],ds=>ds= []
 | .mark b::d,ds=>∃l r,J b=some l/\ds= {target:=.collected l.dF,args:= #[]}::r/\DR J d r
 | .call f args ca::d,ds=>∃(xs cs:Array Value) (r:List Deferred),ds= {target:=.fn (.func f) cs,args:=xs}::r/\dw J args xs.toList/\dw J ca cs.toList/\DR J d r
theorem DR.mono {J J':dh} (h:J.le J'):∀{d:List DE} {ds:List Deferred},DR J d ds->DR J' d ds
 | [],ds,j=>j
 | .mark b::d,ds,j=>let ⟨l,r,h1,m,u⟩:=j;⟨l,r,h _ _ h1,m,DR.mono h u⟩
 | .call f args ca::d,ds,j=>let ⟨xs,cs,r,h1,m,u,h4⟩:=j;⟨xs,cs,r,h1,dw.mono h _ _ m,dw.mono h _ _ u,DR.mono h h4⟩
def Nj:Ex->Exit
 | .normal=>.normal
 | .exit i=>.exit i
 | .goto i=>.goto i
 | .ret=>.ret
 | .ki _=>.normal
def RS (J:dh):Ex->Exit->Prop
 | .ki v,E=>∃x,E= .panic [{v:=x,recovered:=false}]/\VR J v x
 | .normal,E=>E= .normal
 | .exit i,E=>E= .exit i
 | .goto i,E=>E= .goto i
 | .ret,E=>E= .ret
def Qx (Q:Exit->Act->World->Prop) (J:dh) (e:Ex) (a:Act) (w:World):Prop:=∀E,RS J e E->Q E a w
def Qv (J:dh):KR->Ending->Prop
 | .ret v _,e=>∃x,e= .returned x/\VR J v x
 | .ki v _,e=>∃x,e= .panicked [{v:=x,recovered:=false}]/\VR J v x
 | .err _,_=>False
def KR.heap:KR->aE
 | .ret _ V=>V
 | .ki _ V=>V
 | .err _=>⟨0,.leaf⟩
def RO (J:dh):Option Pos->Option Nat->Prop
 | none,none=>True
 | some b,some l=>∃loc,J b=some loc/\loc.dF=l
 | _,_=>False
theorem RO.mono {J J':dh} (h:J.le J'):∀{ro:Option Pos} {rl:Option Nat},RO J ro rl->RO J' ro rl
 | none,none,_=>trivial
 | some _,some _,⟨loc,h1,j⟩=>⟨loc,h _ _ h1,j⟩
def GR (J:dh) (G:Cx):Prop:=∀g,g<G.gl->∃c,J (posOf g)=some ⟨g,0,c⟩
theorem GR.mono {J J':dh} {G:Cx} (h:J.le J') (m:GR J G):GR J' G:=fun g j=>let ⟨c,hc⟩:=m g j;⟨c,h _ _ hc⟩
structure ke (w w':World):Prop where
 os:w'.os=w.os
 out:w'.output=w.output
 tape:w'.tape=w.tape
 size:w.heap.size<=w'.heap.size
 same:∀r:Nat,r<w.heap.size->w'.heap[r]?=w.heap[r]?
def uf (w:World) (x:Nat×List U):Prop:=∃c e fr,w.heap[x.1]?=some (.cells c e fr)/\x.2.length<=c.size/\∀(i:Nat) (v:U),x.2[i]?=some v->∃y,c[i]?=some y/\VR (fun _=>none) v y
def F2 (P:Program) (gl:Nat) (laid:List (Nat×List U)) (f:Nat) (args:List U) (v:U):Prop:=
 ∀(w:World) (xs:Array Value),gl<=w.heap.size->Hi w->(∀x∈laid,uf w x)->dw (fun _=>none) args xs.toList->Calls P f xs w fun e w'=>∃x,e= .returned x/\VR (fun _=>none) v x/\ke w w'
structure BG (P:Program) (G:Cx):Prop where
 ov:∀g,G.ov g=true->wG P g
 LX:∀f args v,G.LX f args=some v->F2 P G.gl G.laid f args v
 mem:∀e∈G.mem,True
 Kx:∀f args V v,G.Kx f args V=some v->∀(J:dh) (w:World) (xs:Array Value),Inv J V w->dw J args xs.toList->Calls P f xs w fun e w'=>∃x J',e= .returned x/\VR J' v x/\Inv J' V w'/\eW J V w J' V w'
structure Sound (P:Program) (G:Cx) (ih:j1):Prop where
 cx:BG P G
 run:∀(c:Code) (t:PT U) (n:Nat) (d:List DE) (ro:Option Pos) (V:aE) (e:Ex) (t':PT U) (d':List DE) (V':aE),ih c t n d ro V= .ok e t' d' V'->
  ∀(J:dh) (w:World) (a:Act) (rl:Option Nat) (m:Nat) (Q:Exit->Act->World->Prop),Inv J V w->GR J G->TR J t n a.tmps->DR J d a.defers->RO J ro rl->
   (∀(J':dh) (w':World) (a':Act),Inv J' V' w'->eW J V w J' V' w'->TR J' t' n a'.tmps->DR J' d' a'.defers->Qx Q J' e a' w')->c.wpIn (lG rl) m P Q a w
section
variable {P:Program} {G:Cx} {J:dh} {V:aE} {w:World}
theorem TR.set {t:PT U} {n k:Nat} {tmps:Array Value} {v:U} {x:Value} (h:TR J t n tmps) (hk:k<n) (hv:VR J v x):TR J (t.put (some v)<|posOf k) n (tmps.setIfInBounds k x):=by
 refine⟨by simpa using h.1,fun j u hu=>?_⟩
 by_cases e:j=k
 ·subst e;rw[PT.dG] at hu;cases hu;refine⟨hk,?_⟩;have:j<tmps.size:=by rw[h.1];exact hk
  simp_all
 rw[PT.dD _ _ _ _ (fun h'=>e (qU h'))] at hu;obtain⟨h1,m⟩:=h.2 j u hu;refine⟨h1,?_⟩
 have:(tmps.setIfInBounds k x).getD j undef=tmps.getD j undef:=by
  simp only[Array.getD_eq_getD_getElem?,Array.getElem?_setIfInBounds]
  grind
 rw[this];exact m
theorem qW {t t':PT U} {n k:Nat} {v:U} (h:dJ t n (some k) v=some t'):k<n/\t'=t.put (some v) (posOf k):=by
 unfold dJ at h;simp only[bE] at h;split at h
 ·rename_i hk;cases h;exact⟨Nat.le_of_ble_eq_true hk,Z⟩
 cases h
theorem TR.put {t t':PT U} {n:Nat} {a:Act} {dst:Option Tmp} {v:U} {x:Value} (h:TR J t n a.tmps) (hp:dJ t n dst v=some t') (hv:VR J v x):TR J t' n (a.put dst x).tmps:=by
 cases dst with
 | none=>cases hp;exact h
 | some k=>
  obtain⟨hk,rfl⟩:=qW hp;exact h.set hk hv
theorem put_defers (a:Act) (dst:Option Tmp) (x:Value):(a.put dst x).defers=a.defers:=by cases dst<;>rfl
theorem wg:VR J unit undef:=by simp only[unit,VR];exact⟨_,Z,dw.nil⟩
theorem ja {t:PT U} {n:Nat} {a:Act} {x:Operand} {v:U} (m:GR J G) (u:TR J t n a.tmps) (h:bB G t x=some v):VR J v (a.eval x):=by
 cases x with
 | tmp k=>exact(u.2 k v h).2
 | const c=>exact p8 h
 | global g=>
  simp only[bB,bE] at h;split at h
  ·rename_i j;cases h;obtain⟨c,hc⟩:=m g (Nat.le_of_ble_eq_true j);simp only[VR];exact⟨_,hc,by simp[Act.eval]⟩
  cases h
 | func f=>
  cases h;simp only[VR];exact⟨_,_,Z,dw.nil,dw.nil⟩
theorem Oy {t:PT U} {n:Nat} {a:Act} (op:Op) (j:GR J G) (m:TR J t n a.tmps):ER J (bB G t) a.eval op:=fun _ _ _ hv=>ja j m hv
theorem z3 {ops:Array Oper} {t:PT U} {o:Oper} {b:Bool} {tmps:Array Value} (h:bM ops t o=some b)
  (A:∀j want k,o.guard=some (j,want)->(ops[j]?).bind (·.dst)=some k->∀v,t.get (posOf k)=some v->k<tmps.size/\VR J v (tmps.getD k undef)):
  Region.wanted o (yielded ops tmps)=b:=by
 unfold bM at h;unfold Region.wanted;cases z:o.guard with
 | none=>simp_all
 | some jw=>
  obtain⟨j,want⟩:=jw;rw[z] at h;dsimp only at h⊢;cases hk:(ops[j]?).bind (·.dst) with
  | none=>
   rw[hk] at h;cases h;simp[yielded,hk]
  | some k=>
   rw[hk] at h;dsimp only at h;cases hv:t.get (posOf k) with
   | none=>rw[hv] at h;cases h
   | some v=>
    rw[hv] at h;obtain⟨aa,u⟩:=A j want k z hk v hv
    have m:tmps[k]?=some (tmps.getD k undef):=by
     simp_all
    generalize tmps.getD k undef=x at u m;cases v with
    | bool c=>
     simp only[VR] at u;subst u;simp only[yielded,hk,Option.bind_some,m];cases h
     grind
    | tuple cs=>
     simp only[VR] at u;obtain⟨y,rfl,_⟩:=u;cases h;simp[yielded,hk,m]
    | _=>cases h
theorem By {ops:Array Oper} {t:PT U} {o:Oper} {b:Bool} {n:Nat} {tmps:Array Value} (h:bM ops t o=some b) (j:TR J t n tmps):Region.wanted o (yielded ops tmps)=b:=
 z3 h fun _ _ k _ _ v hv=>⟨by rw[j.1];exact(j.2 k v hv).1,(j.2 k v hv).2⟩
theorem tB {n:Nat}:∀(ks:List Nat) (vs:List U) (t t':PT U) (tmps:Array Value) (xs:List Value),uN n ks vs t=some t'->TR J t n tmps->dw J vs xs->
  ks.length=xs.length/\TR J t' n ((ks.zip xs).foldl (fun tmps (t,a)=>tmps.setIfInBounds t a) tmps)
 | [],[],t,t',tmps,xs,h,j,hv=>by
  rw[hv.eP];have h':some t=some t':=h;cases h';exact⟨Z,j⟩
 | [],_::_,_,_,_,_,h,_,_=>by have h':(none:Option (PT U))=some _:=h;cases h'
 | _::_,[],_,_,_,_,h,_,_=>by have h':(none:Option (PT U))=some _:=h;cases h'
 | k::ks,v::vs,t,t',tmps,xs,h,j,hv=>by
  obtain⟨x,r,rfl,h1,m⟩:=hv.cons_inv;have h':(match dJ t n (some k) v with | some t'=>uN n ks vs t' | none=>none)=some t':=h;cases hp:dJ t n (some k) v with
  | none=>rw[hp] at h';cases h'
  | some t₁=>
   rw[hp] at h';obtain⟨hk,rfl⟩:=qW hp;obtain⟨g1,u⟩:=tB ks vs _ t' (tmps.setIfInBounds k x) r h' (j.set hk h1) m;exact⟨by simp[g1],u⟩
theorem Ei {n:Nat} {args:List U} {xs:Array Value} {t:PT U} (h:rD n args=some t) (hv:dw J args xs.toList):TR J t n (xs++Array.replicate (n-xs.size) undef):=by
 have key:∀(args:List U) (ys:List Value) (k:Nat) (t t':PT U),(List.rec (motive:=fun _=>Nat->PT U->Option (PT U)) (fun _ t=>some t) (fun v _ ih k t=>match dJ t n (some k) v with | some t'=>ih (Nat.succ k) t' | none=>none) args:Nat->PT U->Option (PT U)) k t=some t'->
   dw J args ys->(∀j v,t.get (posOf j)=some v->j<k/\j<n)->
   (∀j v,t'.get (posOf j)=some v->j<n/\((j<k/\t.get (posOf j)=some v)∨∃y,k<=j/\ys[j-k]?=some y/\VR J v y))/\(args= []∨k+args.length<=n):=by
  intro args;induction args with
  | nil=>
   simp_all
  | cons v args ih=>
   intro ys k t t' h hv ht;obtain⟨x,r,rfl,h1,B⟩:=hv.cons_inv;dsimp only at h;cases hp:dJ t n (some k) v with
   | none=>rw[hp] at h;cases h
   | some t₁=>
    rw[hp] at h;obtain⟨hk,rfl⟩:=qW hp
    obtain⟨g1,C⟩:=ih r (k+1) _ t' h B (fun j u hj=>by
     by_cases e:j=k
     ·omega
     rw[PT.dD _ _ _ _ (fun h'=>e (qU h'))] at hj
     grind)
    refine⟨fun j u hj=>?_,.inr ?_⟩
    ·obtain⟨q1,q2⟩:=g1 j u hj;refine⟨q1,?_⟩;rcases q2 with ⟨m,z⟩ | ⟨y,hle,A,E⟩
     ·by_cases e:j=k
      ·subst e;rw[PT.dG] at z;simp_all
      rw[PT.dD _ _ _ _ (fun h'=>e (qU h'))] at z
      simp_all
     grind
    grind
 obtain⟨g1,C⟩:=key args xs.toList 0 .leaf t h hv (fun j v hj=>by rw[PT.kX] at hj;cases hj);have hlen:=hv.length
 have hle:xs.size<=n:=by
  grind
 refine⟨by simp;omega,fun j v hj=>?_⟩;obtain⟨q1,q2⟩:=g1 j v hj;refine⟨q1,?_⟩;rcases q2 with ⟨m,_⟩ | ⟨y,_,A,E⟩
 ·omega
 rw[Nat.sub_zero] at A;have aa:j<xs.size:=by grind
 simp_all
def LB (tmps:Array Value):ResultVar->Sem Value
 | .tmp t=>pure (tmps.getD t undef)
 | .cell a t=>do loadVar t (<-asAddr (tmps.getD a undef))
theorem sE (fn:Func) (tmps:Array Value):results fn tmps=(fn.results.mapM (LB tmps)>>= fun vs=>pure (if h:vs.size=1 then vs[0] else .tuple vs)):=rfl
theorem Ba (hi:Inv J V w) {t:PT U} {n:Nat} {tmps:Array Value} (z:TR J t n tmps) {r:ResultVar} {v:U} (h:gE P t V r=some v):
  ∃x,(LB tmps r).run P w= .ok x w/\VR J v x:=by
 cases r with
 | tmp k=>exact⟨_,Z,(z.2 k v h).2⟩
 | cell k ty=>
  simp only[gE] at h;cases hk:t.get (posOf k) with
  | none=>rw[hk] at h;cases h
  | some u=>
   rw[hk] at h;have hvx:=(z.2 k u hk).2;cases u with
   | ptr b off=>
    dsimp only at h;cases j:V.m.get b with
    | none=>rw[j] at h;cases h
    | some ob=>
     rw[j] at h;cases ob with
     | row cells e ro=>
      simp only[VR] at hvx;obtain⟨l,hl,aa⟩:=hvx;obtain⟨y,hy,hr⟩:=ns (P:=P) hi j hl h
      grind [LB,asAddr]
     | _=>cases h
   | _=>cases h
theorem ql (hi:Inv J V w) {t:PT U} {n:Nat} {tmps:Array Value} (u:TR J t n tmps):∀{rs:List ResultVar} {vs:List U},dB (gE P t V) rs=some vs->
  ∃xs:List Value,(rs.mapM (LB tmps):Sem (List Value)).run P w= .ok xs w/\dw J vs xs
 | [],vs,h=>by rw[hJ] at h;cases h;exact⟨[],by simp,dw.nil⟩
 | r::rs,vs,h=>by
  obtain⟨y,r',h1,z,rfl⟩:=gw h;obtain⟨x,hx,hv⟩:=Ba (P:=P) hi u h1;obtain⟨xs,j,m⟩:=ql hi u z;refine⟨x::xs,?_,dw.cons hv m⟩;simp only[List.mapM_cons,sB_,hx,rA,j,sP_]
theorem yW (hi:Inv J V w) {fn:Func} {t:PT U} {n:Nat} {tmps:Array Value} (z:TR J t n tmps) {v:U} (h:eG P fn t V=some v):
  ∃x,(results fn tmps).run P w= .ok x w/\VR J v x:=by
 unfold eG at h;cases j:dB (gE P t V) fn.results.toList with
 | none=>rw[j] at h;cases h
 | some vs=>
  rw[j] at h;obtain⟨xs,hx,hv⟩:=ql (P:=P) hi z j
  have hm:(fn.results.mapM (LB tmps):Sem (Array Value)).run P w= .ok xs.toArray w:=by
   grind [Array.mapM_eq_mapM_toList,Sem.run_map,rA]
  cases vs with
  | nil=>
   cases h;have:=hv.eP;subst this;refine⟨.tuple #[],by rw[sE,sB_,hm];rfl,by simp only[VR];simp_all⟩
  | cons u us=>
   obtain⟨x,r,rfl,h1,m⟩:=hv.cons_inv;cases us with
   | nil=>
    cases h;have:=m.eP;subst this;exact⟨x,by rw[sE,sB_,hm];rfl,h1⟩
   | cons u' us=>
    cases h;obtain⟨x',r',rfl,h3,h4⟩:=m.cons_inv;refine⟨.tuple (x::x'::r').toArray,by rw[sE,sB_,hm];rfl,by simp only[VR];simp_all⟩
end
end Go.Ev
end
