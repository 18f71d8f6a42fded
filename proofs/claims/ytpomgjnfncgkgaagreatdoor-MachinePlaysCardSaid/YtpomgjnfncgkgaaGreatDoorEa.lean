/- Part of the proof: an evaluator of the model's code, rules for walks on it, walks. Without conditions. -/
import Derived.CallsIn
import Derived.Laws.World
import Derived.KernelRfl
import Derived.Laws.AppendOwn
import Derived.Laws.Strings
import Derived.Great.BuildSlice
import Derived.Laws.Tables
import Derived.Laws.MakeOwn
import Derived.Laws.StructEq
import Derived.Laws.Small
import Derived.ChangeKeysEq
import Derived.LaidEql
import Derived.Lib.Strings
import Derived.Lib.Builder
import Derived.Lib.Overlaps
import Derived.Laws.IdiomStrings
import Derived.Lib.UnsafeStr
import Derived.Lib.ConvBytes
import Derived.RangeFuncNested
set_option linter.unusedSectionVars false
set_option linter.unusedVariables false
set_option linter.unusedSimpArgs false
noncomputable section
namespace Go.Ev
theorem gA:type_of% @List.getElem?_eq_some_iff:= @List.getElem?_eq_some_iff
theorem gB_:type_of% @List.mem_of_getElem?:= @List.mem_of_getElem?
theorem rA:type_of% @Result.andThen_ok:= @Result.andThen_ok
theorem gC:type_of% @List.getElem?_eq_getElem:= @List.getElem?_eq_getElem
theorem nB:type_of% @Nat.eq_of_beq_eq_true:= @Nat.eq_of_beq_eq_true
theorem bA_:type_of% @Bool.and_eq_true:= @Bool.and_eq_true
theorem sB_:type_of% @Sem.run_bind:= @Sem.run_bind
theorem sP_:type_of% @Sem.run_pure:= @Sem.run_pure
theorem nE_:type_of% @Nat.ble_eq:= @Nat.ble_eq
theorem lT_:type_of% @List.length_take:= @List.length_take
theorem oJ_:type_of% @Option.some.injEq:= @Option.some.injEq
theorem lA_:type_of% @List.length_append:= @List.length_append
theorem mC_:type_of% @List.mem_cons_of_mem:= @List.mem_cons_of_mem
theorem lM_:type_of% @List.length_map:= @List.length_map
theorem aT_:type_of% @Array.getElem?_toList:= @Array.getElem?_toList
theorem mS_:type_of% @List.mem_cons_self:= @List.mem_cons_self
theorem gM_:type_of% @List.getElem?_map:= @List.getElem?_map
theorem gL_:type_of% @List.getElem?_append_left:= @List.getElem?_append_left
theorem gO_:type_of% @List.getElem?_of_mem:= @List.getElem?_of_mem
theorem tL_:type_of% @List.take_of_length_le:= @List.take_of_length_le
theorem aE_:type_of% @List.all_eq_true:= @List.all_eq_true
theorem eN_:type_of% @List.eq_nil_of_length_eq_zero:= @List.eq_nil_of_length_eq_zero
theorem gN_:type_of% @List.getElem?_eq_none:= @List.getElem?_eq_none
theorem lD_:type_of% @List.length_drop:= @List.length_drop
theorem mQ_:type_of% @List.mem_cons:= @List.mem_cons
theorem nM_:type_of% @Nat.mul_le_mul_right:= @Nat.mul_le_mul_right
theorem oM_:type_of% @Option.map_eq_some_iff:= @Option.map_eq_some_iff
theorem lQ_:type_of% @List.append_assoc:= @List.append_assoc
theorem nZ_:type_of% @Nat.not_lt_zero:= @Nat.not_lt_zero
theorem nR_:type_of% @Nat.le_refl:= @Nat.le_refl
theorem nA_:type_of% @Nat.zero_add:= @Nat.zero_add
theorem iJ_:type_of% @Int.ofNat.inj:= @Int.ofNat.inj
theorem gR_:type_of% @List.getElem?_append_right:= @List.getElem?_append_right
theorem eR_:type_of% @List.eq_of_mem_replicate:= @List.eq_of_mem_replicate
theorem aG_:type_of% @Array.getElem?_eq_getElem:= @Array.getElem?_eq_getElem
theorem aS_:type_of% @Array.getElem?_eq_some_iff:= @Array.getElem?_eq_some_iff
theorem Z {α:Sort _} {a:α}:a=a:=rfl
theorem Y {p:Prop} (h:p:=by kernel_rfl):p:=h
theorem B {p:Prop} (h:p:=by omega):p:=h
abbrev Pos:=Nat
abbrev Pos.succ (p:Pos):Pos:=Nat.succ p
abbrev Pos.num (p:Pos):Nat:=p
theorem Pos.jv (p:Pos):p.succ.num=p.num+1:=rfl
abbrev posOf (n:Nat):Pos:=n
theorem rJ {m n:Nat} (h:posOf m=posOf n):m=n:=h
structure kQ (α:Type) where
 c0:α
 c1:α
 c2:α
 c3:α
 c4:α
 c5:α
 c6:α
 c7:α
 c8:α
 c9:α
 sB:α
 sC:α
 sD:α
 sE:α
 sF:α
 sG:α
structure DZ (α:Type) where
 run:kQ α->α
structure D0 (α:Type) where
 run:kQ α->α->kQ α
section
variable {α:Type}
def kB (n:Nat):DZ α:=(Bool.rec (motive:=fun _=>DZ α) (Bool.rec (motive:=fun _=>DZ α) (Bool.rec (motive:=fun _=>DZ α) (Bool.rec (motive:=fun _=>DZ α) ⟨fun t=>t.c0⟩ ⟨fun t=>t.c1⟩<|Nat.ble 1 n) (Bool.rec (motive:=fun _=>DZ α) ⟨fun t=>t.c2⟩ ⟨fun t=>t.c3⟩<|Nat.ble 3 n)<|Nat.ble 2 n) (Bool.rec (motive:=fun _=>DZ α) (Bool.rec (motive:=fun _=>DZ α) ⟨fun t=>t.c4⟩ ⟨fun t=>t.c5⟩<|Nat.ble 5 n) (Bool.rec (motive:=fun _=>DZ α) ⟨fun t=>t.c6⟩ ⟨fun t=>t.c7⟩<|Nat.ble 7 n)<|Nat.ble 6 n)<|Nat.ble 4 n) (Bool.rec (motive:=fun _=>DZ α) (Bool.rec (motive:=fun _=>DZ α) (Bool.rec (motive:=fun _=>DZ α) ⟨fun t=>t.c8⟩ ⟨fun t=>t.c9⟩<|Nat.ble 9 n) (Bool.rec (motive:=fun _=>DZ α) ⟨fun t=>t.sB⟩ ⟨fun t=>t.sC⟩<|Nat.ble 11 n)<|Nat.ble 10 n) (Bool.rec (motive:=fun _=>DZ α) (Bool.rec (motive:=fun _=>DZ α) ⟨fun t=>t.sD⟩ ⟨fun t=>t.sE⟩<|Nat.ble 13 n) (Bool.rec (motive:=fun _=>DZ α) ⟨fun t=>t.sF⟩ ⟨fun t=>t.sG⟩<|Nat.ble 15 n)<|Nat.ble 14 n)<|Nat.ble 12 n)<|Nat.ble 8 n)
def yJ (n:Nat):D0 α:=(Bool.rec (motive:=fun _=>D0 α) (Bool.rec (motive:=fun _=>D0 α) (Bool.rec (motive:=fun _=>D0 α) (Bool.rec (motive:=fun _=>D0 α) ⟨fun t v=>kQ.rec (motive:=fun _=>kQ α) (fun _ c1 c2 c3 c4 c5 c6 c7 c8 c9 sB sC sD sE sF sG=>⟨v,c1,c2,c3,c4,c5,c6,c7,c8,c9,sB,sC,sD,sE,sF,sG⟩) t⟩ ⟨fun t v=>kQ.rec (motive:=fun _=>kQ α) (fun c0 _ c2 c3 c4 c5 c6 c7 c8 c9 sB sC sD sE sF sG=>⟨c0,v,c2,c3,c4,c5,c6,c7,c8,c9,sB,sC,sD,sE,sF,sG⟩) t⟩<|Nat.ble 1 n) (Bool.rec (motive:=fun _=>D0 α) ⟨fun t v=>kQ.rec (motive:=fun _=>kQ α) (fun c0 c1 _ c3 c4 c5 c6 c7 c8 c9 sB sC sD sE sF sG=>⟨c0,c1,v,c3,c4,c5,c6,c7,c8,c9,sB,sC,sD,sE,sF,sG⟩) t⟩ ⟨fun t v=>kQ.rec (motive:=fun _=>kQ α) (fun c0 c1 c2 _ c4 c5 c6 c7 c8 c9 sB sC sD sE sF sG=>⟨c0,c1,c2,v,c4,c5,c6,c7,c8,c9,sB,sC,sD,sE,sF,sG⟩) t⟩<|Nat.ble 3 n)<|Nat.ble 2 n) (Bool.rec (motive:=fun _=>D0 α) (Bool.rec (motive:=fun _=>D0 α) ⟨fun t v=>kQ.rec (motive:=fun _=>kQ α) (fun c0 c1 c2 c3 _ c5 c6 c7 c8 c9 sB sC sD sE sF sG=>⟨c0,c1,c2,c3,v,c5,c6,c7,c8,c9,sB,sC,sD,sE,sF,sG⟩) t⟩ ⟨fun t v=>kQ.rec (motive:=fun _=>kQ α) (fun c0 c1 c2 c3 c4 _ c6 c7 c8 c9 sB sC sD sE sF sG=>⟨c0,c1,c2,c3,c4,v,c6,c7,c8,c9,sB,sC,sD,sE,sF,sG⟩) t⟩<|Nat.ble 5 n) (Bool.rec (motive:=fun _=>D0 α) ⟨fun t v=>kQ.rec (motive:=fun _=>kQ α) (fun c0 c1 c2 c3 c4 c5 _ c7 c8 c9 sB sC sD sE sF sG=>⟨c0,c1,c2,c3,c4,c5,v,c7,c8,c9,sB,sC,sD,sE,sF,sG⟩) t⟩ ⟨fun t v=>kQ.rec (motive:=fun _=>kQ α) (fun c0 c1 c2 c3 c4 c5 c6 _ c8 c9 sB sC sD sE sF sG=>⟨c0,c1,c2,c3,c4,c5,c6,v,c8,c9,sB,sC,sD,sE,sF,sG⟩) t⟩<|Nat.ble 7 n)<|Nat.ble 6 n)<|Nat.ble 4 n) (Bool.rec (motive:=fun _=>D0 α) (Bool.rec (motive:=fun _=>D0 α) (Bool.rec (motive:=fun _=>D0 α) ⟨fun t v=>kQ.rec (motive:=fun _=>kQ α) (fun c0 c1 c2 c3 c4 c5 c6 c7 _ c9 sB sC sD sE sF sG=>⟨c0,c1,c2,c3,c4,c5,c6,c7,v,c9,sB,sC,sD,sE,sF,sG⟩) t⟩ ⟨fun t v=>kQ.rec (motive:=fun _=>kQ α) (fun c0 c1 c2 c3 c4 c5 c6 c7 c8 _ sB sC sD sE sF sG=>⟨c0,c1,c2,c3,c4,c5,c6,c7,c8,v,sB,sC,sD,sE,sF,sG⟩) t⟩<|Nat.ble 9 n) (Bool.rec (motive:=fun _=>D0 α) ⟨fun t v=>kQ.rec (motive:=fun _=>kQ α) (fun c0 c1 c2 c3 c4 c5 c6 c7 c8 c9 _ sC sD sE sF sG=>⟨c0,c1,c2,c3,c4,c5,c6,c7,c8,c9,v,sC,sD,sE,sF,sG⟩) t⟩ ⟨fun t v=>kQ.rec (motive:=fun _=>kQ α) (fun c0 c1 c2 c3 c4 c5 c6 c7 c8 c9 sB _ sD sE sF sG=>⟨c0,c1,c2,c3,c4,c5,c6,c7,c8,c9,sB,v,sD,sE,sF,sG⟩) t⟩<|Nat.ble 11 n)<|Nat.ble 10 n) (Bool.rec (motive:=fun _=>D0 α) (Bool.rec (motive:=fun _=>D0 α) ⟨fun t v=>kQ.rec (motive:=fun _=>kQ α) (fun c0 c1 c2 c3 c4 c5 c6 c7 c8 c9 sB sC _ sE sF sG=>⟨c0,c1,c2,c3,c4,c5,c6,c7,c8,c9,sB,sC,v,sE,sF,sG⟩) t⟩ ⟨fun t v=>kQ.rec (motive:=fun _=>kQ α) (fun c0 c1 c2 c3 c4 c5 c6 c7 c8 c9 sB sC sD _ sF sG=>⟨c0,c1,c2,c3,c4,c5,c6,c7,c8,c9,sB,sC,sD,v,sF,sG⟩) t⟩<|Nat.ble 13 n) (Bool.rec (motive:=fun _=>D0 α) ⟨fun t v=>kQ.rec (motive:=fun _=>kQ α) (fun c0 c1 c2 c3 c4 c5 c6 c7 c8 c9 sB sC sD sE _ sG=>⟨c0,c1,c2,c3,c4,c5,c6,c7,c8,c9,sB,sC,sD,sE,v,sG⟩) t⟩ ⟨fun t v=>kQ.rec (motive:=fun _=>kQ α) (fun c0 c1 c2 c3 c4 c5 c6 c7 c8 c9 sB sC sD sE sF _=>⟨c0,c1,c2,c3,c4,c5,c6,c7,c8,c9,sB,sC,sD,sE,sF,v⟩) t⟩<|Nat.ble 15 n)<|Nat.ble 14 n)<|Nat.ble 12 n)<|Nat.ble 8 n)
theorem H2 {n:Nat} (h:n<16):n=0∨n=1∨n=2∨n=3∨n=4∨n=5∨n=6∨n=7∨n=8∨n=9∨n=10∨n=11∨n=12∨n=13∨n=14∨n=15:=by omega
theorem Du (n:Nat) (t:kQ α) (v:α) (u:n<16):(kB n).run ((yJ n).run t v)=v:=by
 rcases H2 u with rfl | rfl | rfl | rfl | rfl | rfl | rfl | rfl | rfl | rfl | rfl | rfl | rfl | rfl | rfl | rfl<;>rfl
theorem MU (n:Nat) (t:kQ α) (v u:α) (z:n<16):(yJ n).run ((yJ n).run t v) u=(yJ n).run t u:=by
 rcases H2 z with rfl | rfl | rfl | rfl | rfl | rfl | rfl | rfl | rfl | rfl | rfl | rfl | rfl | rfl | rfl | rfl<;>rfl
theorem Im (m n:Nat) (t:kQ α) (v:α) (hm:m<16) (u:n<16) (h:m≠n):(kB m).run ((yJ n).run t v)=(kB m).run t:=by
 rcases H2 hm with rfl | rfl | rfl | rfl | rfl | rfl | rfl | rfl | rfl | rfl | rfl | rfl | rfl | rfl | rfl | rfl<;>rcases H2 u with rfl | rfl | rfl | rfl | rfl | rfl | rfl | rfl | rfl | rfl | rfl | rfl | rfl | rfl | rfl | rfl<;>first | rfl | exact absurd rfl h
theorem GX (m n:Nat) (t:kQ α) (v:α) (hm:m<16) (u:n<16):(kB m).run ((yJ n).run t v)=if m=n then v else(kB m).run t:=by
 by_cases h:m=n
 ·subst h;rw[if_pos Z,Du _ _ _ u]
 rw[if_neg h,Im _ _ _ _ hm u h]
abbrev jZ (α:Type):=kQ (kQ α)
def kH (t:jZ α) (k:Nat):α:=(kB<|Nat.mod k 16).run ((kB<|Nat.div k 16).run t)
def qN (t:jZ α) (k:Nat) (v:α):jZ α:=(yJ<|Nat.div k 16).run t ((yJ<|Nat.mod k 16).run ((kB<|Nat.div k 16).run t) v)
theorem mT (t:jZ α) (k j:Nat) (v:α) (hk:k<256) (hj:j<256):kH (qN t k v) j=if j=k then v else kH t j:=by
 have e:∀n m:Nat,Nat.mod n m=n%m:=fun _ _=>Z
 have e':∀n m:Nat,Nat.div n m=n/m:=fun _ _=>Z
 simp only[kH,qN,e,e'];rw[GX _ _ _ _ B B]
 by_cases h1:j/16=k/16
 ·rw[if_pos h1,GX _ _ _ _ B B]
  grind
 grind
theorem yd (t:jZ α) (k:Nat) (v u:α) (hk:k<256):qN (qN t k v) k u=qN t k u:=by
 have h1:Nat.mod k 16<16:=Nat.mod_lt _ B;have h2:Nat.div k 16<16:=Nat.div_lt_of_lt_mul hk
 grind [qN,Du,MU]
def kQ.all (x:α):kQ α:=⟨x,x,x,x,x,x,x,x,x,x,x,x,x,x,x,x⟩
def jZ.all (x:α):jZ α:=kQ.all (kQ.all x)
theorem GW (n:Nat) (y:α) (u:n<16):(kB n).run (kQ.all y)=y:=by
 rcases H2 u with rfl | rfl | rfl | rfl | rfl | rfl | rfl | rfl | rfl | rfl | rfl | rfl | rfl | rfl | rfl | rfl<;>rfl
theorem xw (x:α) (k:Nat) (hk:k<256):kH (jZ.all x) k=x:=by
 have h1:Nat.mod k 16<16:=Nat.mod_lt _ B;have u:Nat.div k 16<16:=Nat.div_lt_of_lt_mul hk;simp only[kH,jZ.all,GW _ _ h1,GW _ _ u]
def tJ (v:Option α) (n:Nat):List (Option α)->List (Option α):=
 Nat.rec (motive:=fun _=>List (Option α)->List (Option α)) (fun l=>List.rec (motive:=fun _=>List<|Option α) [v] (fun _ r _=>v::r) l)
  (fun _ ih l=>List.rec (motive:=fun _=>List<|Option α) (none::ih []) (fun x r _=>x::ih r) l) n
def HN (l:List (Option α)):Nat->Option α:=
 List.rec (motive:=fun _=>Nat->Option α) (fun _=>none) (fun x _ ih n=>Nat.rec (motive:=fun _=>Option α) x (fun m _=>ih m) n) l
theorem xx (v:Option α):∀(k:Nat) (l:List (Option α)) (j:Nat),HN (tJ v k l) j=if j=k then v else HN l j
 | 0,[],0=>rfl
 | 0,[],j+1=>by rw[if_neg B];rfl
 | 0,x::r,0=>rfl
 | 0,x::r,j+1=>by rw[if_neg B];rfl
 | k+1,[],0=>by rw[if_neg B];rfl
 | k+1,[],j+1=>by
  show HN (tJ v k []) j=_;rw[xx v k [] j]
  by_cases h:j=k
  ·simp_all
  rw[if_neg h,if_neg B];rfl
 | k+1,x::r,0=>by rw[if_neg B];rfl
 | k+1,x::r,j+1=>by
  show HN (tJ v k r) j=_;rw[xx v k r j]
  by_cases h:j=k
  ·simp_all
  rw[if_neg h,if_neg B];rfl
theorem yf (v u:Option α):∀(k:Nat) (l:List (Option α)),tJ u k (tJ v k l)=tJ u k l
 | 0,[]=>rfl
 | 0,x::r=>rfl
 | k+1,[]=>by
  show none::tJ u k (tJ v k [])=none::tJ u k [];rw[yf v u k []]
 | k+1,x::r=>by
  show x::tJ u k (tJ v k r)=x::tJ u k r;rw[yf v u k r]
structure PT (α:Type) where
 s:jZ (Option α)
 m:jZ (jZ<|Option α)
 l:List (Option α)
def PT.leaf:PT α:=⟨jZ.all none,jZ.all<|jZ.all none,[]⟩
def PT.HM (t:PT α) (p:Nat):Option α:=
 Bool.rec (motive:=fun _=>Option α) (Bool.rec (motive:=fun _=>Option α) (HN t.l p) (kH (kH t.m<|Nat.div p 256)<|Nat.mod p 256)<|Nat.ble p 65535) (kH t.s p) (Nat.ble p 255)
def PT.Ig (o:Option α) (t:PT α) (p:Nat):PT α:=
 Bool.rec (motive:=fun _=>PT α) (Bool.rec (motive:=fun _=>PT α) (PT.rec (motive:=fun _=>PT α) (fun s m l=>⟨s,m,tJ o p l⟩) t)
  (PT.rec (motive:=fun _=>PT α) (fun s m l=>⟨s,qN m (Nat.div p 256)<|qN (kH m<|Nat.div p 256) (Nat.mod p 256) o,l⟩) t)<|Nat.ble p 65535)
  (PT.rec (motive:=fun _=>PT α) (fun s m l=>⟨qN s p o,m,l⟩) t) (Nat.ble p 255)
def PT.get (t:PT α) (p:Pos):Option α:=Nat.rec (motive:=fun _=>Option α) (t.HM 0) (fun m _=>t.HM (Nat.succ m)) p
def PT.put (o:Option α) (t:PT α) (p:Pos):PT α:=Nat.rec (motive:=fun _=>PT α) (t.Ig o 0) (fun m _=>t.Ig o (Nat.succ m)) p
theorem PT.get_eq (t:PT α) (p:Nat):t.get p=t.HM p:=by cases p<;>rfl
theorem PT.put_eq (o:Option α) (t:PT α) (p:Nat):t.put o p=t.Ig o p:=by cases p<;>rfl
theorem wh (m n:Nat):Nat.blt m n=true↔m<n:=by simp_all
theorem pe (m n:Nat):Nat.ble m n=true↔m<n+1:=by rw[nE_,Nat.lt_succ_iff]
theorem uh {m n:Nat} (h:¬m<n+1):Nat.ble m n=false:=by
 grind [pe]
theorem PT.qy (t:PT α) {p:Nat} (h:p<256):t.get p=kH t.s p:=by rw[PT.get_eq];unfold PT.HM;rw[(pe p 255).2 h]
theorem PT.zO (t:PT α) {p:Nat} (h:¬p<256) (h':p<65536):t.get p=kH (kH t.m<|Nat.div p 256) (Nat.mod p 256):=by
 rw[PT.get_eq];unfold PT.HM;rw[uh (n:=255) h,(pe p 65535).2 h']
theorem PT.zN (t:PT α) {p:Nat} (h:¬p<65536):t.get p=HN t.l p:=by
 rw[PT.get_eq];unfold PT.HM;rw[uh (n:=255) B,uh (n:=65535) h]
theorem PT.tK (o:Option α) (s:jZ (Option α)) (m:jZ (jZ<|Option α)) (l:List (Option α)) {p:Nat} (h:p<256):(PT.mk s m l).put o p=⟨qN s p o,m,l⟩:=by rw[PT.put_eq];unfold PT.Ig;rw[(pe p 255).2 h]
theorem PT.GN (o:Option α) (s:jZ (Option α)) (m:jZ (jZ<|Option α)) (l:List (Option α)) {p:Nat} (h:¬p<256) (h':p<65536):
  (PT.mk s m l).put o p=⟨s,qN m (Nat.div p 256)<|qN (kH m<|Nat.div p 256) (Nat.mod p 256) o,l⟩:=by
 rw[PT.put_eq];unfold PT.Ig;rw[uh (n:=255) h,(pe p 65535).2 h']
theorem PT.GM (o:Option α) (s:jZ (Option α)) (m:jZ (jZ<|Option α)) (l:List (Option α)) {p:Nat} (h:¬p<65536):(PT.mk s m l).put o p=⟨s,m,tJ o p l⟩:=by
 rw[PT.put_eq];unfold PT.Ig;rw[uh (n:=255) B,uh (n:=65535) h]
theorem PT.mS (p:Nat):(PT.leaf:PT α).get p=none:=by
 by_cases h1:p<256
 ·rw[PT.qy _ h1];exact xw _ _ h1
 by_cases u:p<65536
 ·rw[PT.zO _ h1 u];show kH (kH (jZ.all<|jZ.all none) _) _=none;have z:Nat.div p 256<256:=Nat.div_lt_of_lt_mul u;have hm:Nat.mod p 256<256:=Nat.mod_lt _ B;rw[xw _ _ z,xw _ _ hm]
 rw[PT.zN _ u];rfl
theorem PT.ml (o:Option α) (t:PT α) (p q:Nat):(t.put o p).get q=if q=p then o else t.get q:=by
 cases t with
 | mk s m l=>
 by_cases h1:p<256
 ·rw[PT.tK o s m l h1]
  by_cases u:q<256
  ·rw[PT.qy _ u,PT.qy _ u];exact mT s p q o h1 u
  rw[if_neg B]
  grind [PT.zO,PT.zN]
 by_cases z:p<65536
 ·rw[PT.GN o s m l h1 z]
  by_cases u:q<256
  ·rw[if_neg B,PT.qy _ u,PT.qy _ u]
  by_cases h4:q<65536
  ·rw[PT.zO _ u h4,PT.zO _ u h4];have hp:Nat.div p 256<256:=Nat.div_lt_of_lt_mul z;have hq:Nat.div q 256<256:=Nat.div_lt_of_lt_mul h4;have A:Nat.mod p 256<256:=Nat.mod_lt _ B;have C:Nat.mod q 256<256:=Nat.mod_lt _ B;show kH (kH (qN m (Nat.div p 256) _)<|Nat.div q 256) (Nat.mod q 256)=_;rw[mT _ _ _ _ hp hq]
   by_cases e:Nat.div q 256=Nat.div p 256
   ·rw[if_pos e,mT _ _ _ _ A C]
    by_cases E:Nat.mod q 256=Nat.mod p 256
    ·rw[if_pos E,if_pos];have f1:q/256=p/256:=e;have f2:q%256=p%256:=E;omega
    grind
   grind
  rw[if_neg B,PT.zN _ h4,PT.zN _ h4]
 rw[PT.GM o s m l z]
 by_cases u:q<256
 ·rw[if_neg B,PT.qy _ u,PT.qy _ u]
 by_cases h4:q<65536
 ·rw[if_neg B,PT.zO _ u h4,PT.zO _ u h4]
 rw[PT.zN _ h4,PT.zN _ h4];exact xx o p l q
theorem PT.dz (o:Option α) (t:PT α) (p:Pos):(t.put o p).get p=o:=by rw[PT.ml,if_pos Z]
theorem PT.du (o:Option α) (t:PT α) (p q:Pos) (h:q≠p):(t.put o p).get q=t.get q:=by rw[PT.ml,if_neg h]
theorem PT.MK (o o':Option α) (t:PT α) (p:Nat):(t.put o p).put o' p=t.put o' p:=by
 cases t with
 | mk s m l=>
 by_cases h1:p<256
 ·rw[PT.tK o s m l h1,PT.tK _ _ _ _ h1,PT.tK _ _ _ _ h1,yd _ _ _ _ h1]
 by_cases u:p<65536
 ·have hp:Nat.div p 256<256:=Nat.div_lt_of_lt_mul u;have z:Nat.mod p 256<256:=Nat.mod_lt _ B;rw[PT.GN o s m l h1 u,PT.GN _ _ _ _ h1 u,PT.GN _ _ _ _ h1 u,yd _ _ _ _ hp,mT _ _ _ _ hp hp,if_pos Z,yd _ _ _ _ z]
 rw[PT.GM o s m l u,PT.GM _ _ _ _ u,PT.GM _ _ _ _ u,yf]
end
section
variable {α β:Type}
def nth (l:List α):Nat->Option α:=
 List.rec (motive:=fun _=>Nat->Option α) (fun _=>none) (fun x _ ih n=>Nat.rec (motive:=fun _=>Option α) (some x) (fun m _=>ih m) n) l
theorem eL:∀(l:List α) (n:Nat),nth l n=l[n]?
 | [],_=>rfl
 | _::_,0=>rfl
 | _::l,n+1=>by
  show nth l n=_;rw[eL l n];simp
def Fx (v:α) (l:List α):Nat->List α:=
 List.rec (motive:=fun _=>Nat->List α) (fun _=>[]) (fun x l ih n=>Nat.rec (motive:=fun _=>List α) (v::l) (fun m _=>x::ih m) n) l
theorem uP (v:α):∀(l:List α) (n:Nat),Fx v l n=l.set n v
 | [],_=>rfl
 | _::_,0=>rfl
 | x::l,n+1=>by
  show x::Fx v l n=_;rw[uP v l n];simp
def dP (l:List α):Nat->List α:=
 List.rec (motive:=fun _=>Nat->List α) (fun _=>[]) (fun x l ih n=>Nat.rec (motive:=fun _=>List α) (x::l) (fun m _=>ih m) n) l
theorem dM:∀(l:List α) (n:Nat),dP l n=l.drop n
 | [],n=>by simp[dP]
 | _::_,0=>rfl
 | x::l,n+1=>by
  show dP l n=_;rw[dM l n];simp
def takeN (l:List α):Nat->List α:=
 List.rec (motive:=fun _=>Nat->List α) (fun _=>[]) (fun x _ ih n=>Nat.rec (motive:=fun _=>List α) [] (fun m _=>x::ih m) n) l
theorem dn:∀(l:List α) (n:Nat),takeN l n=l.take n
 | [],n=>by simp[takeN]
 | _::_,0=>rfl
 | x::l,n+1=>by
  show x::takeN l n=_;rw[dn l n];simp
def cY (l:List α):Nat:=List.rec (motive:=fun _=>Nat) 0 (fun _ _ n=>Nat.succ n) l
theorem bP:∀(l:List α),cY l=l.length
 | []=>rfl
 | _::l=>by show Nat.succ (cY l)=_;rw[bP l];rfl
def im (l m:List α):List α:=List.rec (motive:=fun _=>List α) m (fun x _ r=>x::r) l
theorem dV:∀(l m:List α),im l m=l++m
 | [],_=>rfl
 | x::l,m=>by show x::im l m=_;rw[dV l m];rfl
def zc (f:α->β) (l:List α):List β:=List.rec (motive:=fun _=>List β) [] (fun x _ r=>f x::r) l
theorem mq (f:α->β):∀(l:List α),zc f l=l.map f
 | []=>rfl
 | x::l=>by show f x::zc f l=_;rw[mq f l];rfl
def cU (f:α->Option β) (l:List α):Option (List β):=
 List.rec (motive:=fun _=>Option<|List β) (some []) (fun x _ r=>
  Option.rec (motive:=fun _=>Option<|List β) none (fun y=>Option.rec (motive:=fun _=>Option<|List β) none (fun ys=>some (y::ys)) r)<|f x) l
theorem iO (f:α->Option β):cU f []=some []:=rfl
theorem hY {f:α->Option β} {x:α} {l:List α} {ys:List β} (h:cU f (x::l)=some ys):∃y r,f x=some y/\cU f l=some r/\ys=y::r:=by
 have e:cU f (x::l)=Option.rec (motive:=fun _=>Option<|List β) none (fun y=>Option.rec (motive:=fun _=>Option<|List β) none (fun ys=>some (y::ys)) (cU f l)) (f x):=rfl;rw[e] at h;cases hx:f x with
 | none=>rw[hx] at h;cases h
 | some y=>
  rw[hx] at h;cases u:cU f l with
  | none=>rw[u] at h;cases h
  | some r=>
   simp_all
end
 class Env where
 τ:Nat->Value
 n0:Nat
 h0:Array Obj
variable [Env]
inductive qf where
 | known (n:Nat)
 | upto (sz:Nat)
 | least (a sz:Nat)
 deriving Inhabited
inductive V where
 | bool (b:Bool)
 | int (k:IntKind) (n:Int)
 | str (s:List Nat)
 | nilPtr
 | ptr (b:Pos) (off:Nat)
 | au
 | slice (b:Pos) (off len:Nat) (cap:qf)
 | jg
 | map (b:Pos)
 | func (f:Nat) (first captured:List V)
 | yield (l:Pos)
 | nilFunc
 | iface (t:Nat) (v:V)
 | nilIface
 | agg (cs:List V)
 | tuple (vs:List V)
 | any
 | pd (a:Nat)
 | tok (n:Nat)
 deriving Inhabited
structure Loc where
 dJ:Nat
 sh:Nat
 cells:Nat
abbrev dg:=Pos->Option Loc
def ik (s:List Nat) (bs:ByteArray):Prop:=bs.data.toList.map UInt8.toNat=s
mutual
def VR (S:dg):V->Value->Prop
 | .bool b,x=>x= .bool b
 | .int k n,x=>x= .int k n
 | .str s,x=>∃bs,x= .string bs/\ik s bs
 | .nilPtr,x=>x= .pointer none
 | .ptr b off,x=>∃l,S b=some l/\x= .pointer (some ⟨l.dJ,l.sh+off,none⟩)
 | .au,x=>x= .slice none 0 0
 | .slice b off len (.known c),x=>∃l,S b=some l/\x= .slice (some ⟨l.dJ,l.sh+off,none⟩) len c
 | .slice b off len (.upto sz),x=>∃l,S b=some l/\
   ((∃c,x= .slice (some ⟨l.dJ,l.sh+off,none⟩) len c/\len<=c/\off+c*sz=l.cells)∨(len=0/\∃a,x= .slice (some a) 0 0))
 | .slice b off len (.least a sz),x=>∃l,S b=some l/\∃c,x= .slice (some ⟨l.dJ,l.sh+off,none⟩) len c/\a<=c/\off+c*sz=l.cells
 | .jg,x=>x= .map none
 | .map b,x=>∃l,S b=some l/\x= .map (some l.dJ)
 | .func f fi ca,x=>∃fi' ca':Array Value,x= .func (.func f) fi' ca'/\dt S fi fi'.toList/\dt S ca ca'.toList
 | .yield b,x=>∃l,S b=some l/\x= .func (.yield l.dJ) #[] #[]
 | .nilFunc,x=>x= .nilFunc
 | .iface t v,x=>∃y,x= .iface t y/\VR S v y
 | .nilIface,x=>x= .nilIface
 | .agg cs,x=>∃ys:Array Value,x= .agg ys/\dt S cs ys.toList
 | .tuple cs,x=>∃ys:Array Value,x= .tuple ys/\dt S cs ys.toList
 | .any,_=>True
 | .pd a,x=>∃c:Nat,x= .int .i64 c/\a<=c
 | .tok n,x=>x=Env.τ n/\x.oneCell'=true
def dt (S:dg):List V->List Value->Prop
 | [],ys=>ys= []
 | c::cs,ys=>∃y r,ys=y::r/\VR S c y/\dt S cs r
end
def dg.le (S S':dg):Prop:=∀b l,S b=some l->S' b=some l
theorem dg.le_refl (S:dg):S.le S:=fun _ _ h=>h
theorem dg.le_trans {S S' S'':dg} (h:S.le S') (h':S'.le S''):S.le S'':=fun b l hb=>h' b l (h b l hb)
mutual
theorem VR.mono {S S':dg} (h:S.le S'):∀(v:V) (x:Value),VR S v x->VR S' v x
 | .bool b,x,hv=>by simpa only[VR] using hv
 | .int k n,x,hv=>by simpa only[VR] using hv
 | .str s,x,hv=>by simpa only[VR] using hv
 | .nilPtr,x,hv=>by simpa only[VR] using hv
 | .ptr b off,x,hv=>by simp only[VR] at hv⊢;obtain⟨l,h1,u⟩:=hv;exact⟨l,h b l h1,u⟩
 | .au,x,hv=>by simpa only[VR] using hv
 | .slice b off len (.known c),x,hv=>by simp only[VR] at hv⊢;obtain⟨l,h1,u⟩:=hv;exact⟨l,h b l h1,u⟩
 | .slice b off len (.upto sz),x,hv=>by simp only[VR] at hv⊢;obtain⟨l,h1,u⟩:=hv;exact⟨l,h b l h1,u⟩
 | .slice b off len (.least a sz),x,hv=>by simp only[VR] at hv⊢;obtain⟨l,h1,u⟩:=hv;exact⟨l,h b l h1,u⟩
 | .jg,x,hv=>by simpa only[VR] using hv
 | .map b,x,hv=>by simp only[VR] at hv⊢;obtain⟨l,h1,u⟩:=hv;exact⟨l,h b l h1,u⟩
 | .func f fi ca,x,hv=>by
  simp only[VR] at hv⊢;obtain⟨fi',ca',h1,u,z⟩:=hv;exact⟨fi',ca',h1,dt.mono h fi _ u,dt.mono h ca _ z⟩
 | .yield b,x,hv=>by simp only[VR] at hv⊢;obtain⟨l,h1,u⟩:=hv;exact⟨l,h b l h1,u⟩
 | .nilFunc,x,hv=>by simpa only[VR] using hv
 | .iface t v,x,hv=>by simp only[VR] at hv⊢;obtain⟨y,h1,u⟩:=hv;exact⟨y,h1,VR.mono h v y u⟩
 | .nilIface,x,hv=>by simpa only[VR] using hv
 | .agg cs,x,hv=>by simp only[VR] at hv⊢;obtain⟨y,h1,u⟩:=hv;exact⟨y,h1,dt.mono h cs _ u⟩
 | .tuple cs,x,hv=>by simp only[VR] at hv⊢;obtain⟨y,h1,u⟩:=hv;exact⟨y,h1,dt.mono h cs _ u⟩
 | .any,x,hv=>by simp only[VR]
 | .pd a,x,hv=>by simpa only[VR] using hv
 | .tok n,x,hv=>by simpa only[VR] using hv
theorem dt.mono {S S':dg} (h:S.le S'):∀(vs:List V) (xs:List Value),dt S vs xs->dt S' vs xs
 | [],xs,hv=>by simpa only[dt] using hv
 | c::cs,xs,hv=>by
  simp only[dt] at hv⊢;obtain⟨y,r,h1,u,z⟩:=hv;exact⟨y,r,h1,VR.mono h c y u,dt.mono h cs r z⟩
end
theorem dt.nil {S:dg}:dt S [] []:=by simp only[dt]
theorem dt.cons {S:dg} {v:V} {x:Value} {vs:List V} {xs:List Value} (h:VR S v x) (hs:dt S vs xs):dt S (v::vs) (x::xs):=by
 simp only[dt];grind
theorem dt.cons_inv {S:dg} {v:V} {vs:List V} {ys:List Value} (h:dt S (v::vs) ys):∃x xs,ys=x::xs/\VR S v x/\dt S vs xs:=by
 simpa only[dt] using h
theorem dt.fb {S:dg} {ys:List Value} (h:dt S [] ys):ys= []:=by simpa only[dt] using h
theorem dt.length {S:dg}:∀{vs:List V} {xs:List Value},dt S vs xs->xs.length=vs.length
 | [],xs,h=>by rw[h.fb];rfl
 | v::vs,xs,h=>by
  obtain⟨x,r,rfl,_,u⟩:=h.cons_inv;simp[u.length]
theorem dt.get {S:dg}:∀{vs:List V} {xs:List Value},dt S vs xs->∀{i:Nat} {v:V},vs[i]?=some v->∃x,xs[i]?=some x/\VR S v x
 | [],xs,h,i,v,hv=>by simp at hv
 | c::vs,xs,h,0,v,hv=>by
  obtain⟨x,r,rfl,h1,u⟩:=h.cons_inv
  simp_all
 | c::vs,xs,h,i+1,v,hv=>by
  obtain⟨x,r,rfl,h1,u⟩:=h.cons_inv;simp at hv;simpa using u.get hv
theorem dt.Ke {S:dg}:∀{vs:List V} {xs:List Value},xs.length=vs.length->(∀(i:Nat) (v:V),vs[i]?=some v->∃x,xs[i]?=some x/\VR S v x)->dt S vs xs
 | [],[],_,_=>dt.nil
 | v::vs,[],hl,_=>by simp at hl
 | [],x::xs,hl,_=>by simp at hl
 | v::vs,x::xs,hl,h=>by
  refine dt.cons ?_<|dt.Ke (by simpa using hl) fun i u hu=>?_
  ·obtain⟨y,h1,z⟩:=h 0 v Z
   simp_all
  obtain⟨y,h1,z⟩:=h (i+1) u (by simpa using hu)
  simp_all
theorem dt.append {S:dg}:∀{vs us:List V} {xs ys:List Value},dt S vs xs->dt S us ys->dt S (vs++us) (xs++ys)
 | [],us,xs,ys,h,h'=>by rw[h.fb];exact h'
 | v::vs,us,xs,ys,h,h'=>by
  obtain⟨x,r,rfl,h1,u⟩:=h.cons_inv;exact dt.cons h1<|u.append h'
theorem dt.drop {S:dg}:∀{vs:List V} {xs:List Value},dt S vs xs->∀n,dt S (vs.drop n) (xs.drop n)
 | [],xs,h,n=>by rw[h.fb];simp;exact dt.nil
 | v::vs,xs,h,0=>h
 | v::vs,xs,h,n+1=>by
  obtain⟨x,r,rfl,h1,u⟩:=h.cons_inv;simpa using u.drop n
theorem dt.take {S:dg}:∀{vs:List V} {xs:List Value},dt S vs xs->∀n,dt S (vs.take n) (xs.take n)
 | [],xs,h,n=>by rw[h.fb];simp;exact dt.nil
 | v::vs,xs,h,0=>by simpa using dt.nil
 | v::vs,xs,h,n+1=>by
  obtain⟨x,r,rfl,h1,u⟩:=h.cons_inv;simpa using dt.cons h1 (u.take n)
theorem dt.set {S:dg}:∀{vs:List V} {xs:List Value},dt S vs xs->∀(n:Nat) {v:V} {x:Value},VR S v x->dt S (vs.set n v) (xs.set n x)
 | [],xs,h,n,_,_,_=>by rw[h.fb];simp;exact dt.nil
 | v::vs,xs,h,0,_,_,hv=>by
  obtain⟨x,r,rfl,h1,u⟩:=h.cons_inv;simpa using dt.cons hv u
 | v::vs,xs,h,n+1,_,_,hv=>by
  obtain⟨x,r,rfl,h1,u⟩:=h.cons_inv;simpa using dt.cons h1 (u.set n hv)
structure fN where
 key:V
 val:V
 born:Nat
 deriving Inhabited
inductive cM where
 | row (cells:List V) (elem:Nat) (ro:Bool)
 | own (cells:List V) (elem:Nat)
 | map (es:List fN) (clock:Nat)
 | iter (s:List Nat) (pos:Nat)
 | loop (state:LoopState) (pending:Option Code) (tmps:PT V) (n:Nat) (params:List Nat) (assign body:Code) (defers:Pos)
 | mark
 | dead
 deriving Inhabited
def cM.ro:cM->Bool
 | .row _ _ ro=>ro
 | _=>false
structure I where
 next:Pos
 m:PT cM
def TR (S:dg) (t:PT V) (n:Nat) (tmps:Array Value):Prop:=
 tmps.size=n/\∀k v,t.get (posOf k)=some v->k<n/\VR S v (tmps.getD k undef)
def kG (S:dg):List fN->List MapEntry->Prop
 | [],ys=>ys= []
 | e::es,ys=>∃y r,ys=y::r/\VR S e.key y.key/\VR S e.val y.val/\y.born=e.born/\kG S es r
def iN (S:dg) (l:Loc):cM->Obj->Prop
 | .row cells elem ro,x=>∃c fr,x= .cells c elem fr/\c.size=l.sh+l.cells/\cells.length<=l.cells/\
   (∀(i:Nat) (v:V),cells[i]?=some v->∃y,c[l.sh+i]?=some y/\VR S v y)/\(ro=false->∀j,l.sh<=j->¬(fr.1<=j/\j<fr.2))
 | .own cells elem,x=>(l.sh=0/\cells.length=l.cells)/\∃c fr,x= .cells c elem fr/\c.size=l.sh+l.cells/\cells.length<=l.cells/\
   (∀(i:Nat) (v:V),cells[i]?=some v->∃y,c[l.sh+i]?=some y/\VR S v y)/\(false=false->∀j,l.sh<=j->¬(fr.1<=j/\j<fr.2))
 | .map es clock,x=>∃es',x= .map es' clock/\kG S es es'.toList
 | .iter s pos,x=>∃bs,x= .stringIter bs pos/\ik s bs
 | .loop state pending tmps n params assign body defers,x=>∃fn tmps' l',x= .loop {state,pending,fn,tmps:=tmps',params:=params.toArray,assign,body,defers:=l'.dJ}/\
   S defers=some l'/\TR S tmps n tmps'
 | .mark,x=>x= .deferred (some [])
 | .dead,_=>True
theorem TR.mono {S S':dg} (h:S.le S') {t:PT V} {n:Nat} {tmps:Array Value} (u:TR S t n tmps):TR S' t n tmps:=
 ⟨u.1,fun k v hv=>⟨(u.2 k v hv).1,VR.mono h _ _ (u.2 k v hv).2⟩⟩
theorem kG.mono {S S':dg} (h:S.le S'):∀{es:List fN} {ys:List MapEntry},kG S es ys->kG S' es ys
 | [],ys,he=>he
 | e::es,ys,he=>by
  obtain⟨y,r,h1,u,z,h4,h5⟩:=he;exact⟨y,r,h1,VR.mono h _ _ u,VR.mono h _ _ z,h4,kG.mono h h5⟩
theorem iN.mono {S S':dg} (h:S.le S') {l:Loc}:∀{o:cM} {x:Obj},iN S l o x->iN S' l o x
 | .row cells elem ro,x,u=>by
  obtain⟨c,fr,h1,z,A,h4,h5⟩:=u;exact⟨c,fr,h1,z,A,fun i v hv=>let ⟨y,a,b⟩:=h4 i v hv;⟨y,a,VR.mono h _ _ b⟩,h5⟩
 | .own cells elem,x,u=>by
  obtain⟨h0,c,fr,h1,z,A,h4,h5⟩:=u;exact⟨h0,c,fr,h1,z,A,fun i v hv=>let ⟨y,a,b⟩:=h4 i v hv;⟨y,a,VR.mono h _ _ b⟩,h5⟩
 | .map es clock,x,u=>let ⟨es',h1,z⟩:=u;⟨es',h1,kG.mono h z⟩
 | .iter s pos,x,u=>u
 | .loop ..,x,u=>let ⟨fn,tmps',l',h1,z,A⟩:=u;⟨fn,tmps',l',h1,h _ _ z,TR.mono h A⟩
 | .mark,x,u=>u
 | .dead,x,u=>u
structure Ay (S:dg) (U:I) (w:World):Prop where
 fresh:∀b:Pos,U.next.num<=b.num->S b=none/\U.m.get b=none
 dJ:∀b l,S b=some l->l.dJ<w.heap.size
 obj:∀b o l,U.m.get b=some o->S b=some l->∃x,w.heap[l.dJ]?=some x/\iN S l o x
 inj:∀b b' o o' l l',U.m.get b=some o->U.m.get b'=some o'->S b=some l->S b'=some l'->l.dJ=l'.dJ->b≠b'->o.ro=true/\o'.ro=true
def Wr (S:dg) (U:I) (r:Nat):Prop:=∃b o l,U.m.get b=some o/\o.ro=false/\S b=some l/\l.dJ=r
structure Old (S:dg) (U:I) (w:World):Prop where
 size:Env.n0<=w.heap.size
 same:∀r:Nat,r<Env.n0->w.heap[r]?=Env.h0[r]?
 no:∀r:Nat,r<Env.n0->¬Wr S U r
def IP (w:World):Prop:=Env.n0<=w.heap.size/\∀r:Nat,r<Env.n0->w.heap[r]?=Env.h0[r]?
structure Inv (S:dg) (U:I) (w:World):Prop extends Ay S U w where
 sk:Old S U w
structure fj (S:dg) (U:I) (w:World) (S':dg) (U':I) (w':World):Prop where
 ext:∀b:Pos,b.num<U.next.num->S' b=S b
 next:U.next.num<=U'.next.num
 size:w.heap.size<=w'.heap.size
 frame:∀r:Nat,r<w.heap.size->¬Wr S U r->w'.heap[r]?=w.heap[r]?
 wr:∀r:Nat,Wr S' U' r->r<w.heap.size->Wr S U r
 tape:w'.tape=w.tape
 os:w'.os=w.os
 out:w'.output=w.output
theorem fj.refl (S:dg) (U:I) (w:World):fj S U w S U w:=
 ⟨fun _ _=>Z,nR_ _,nR_ _,fun _ _ _=>Z,fun _ h _=>h,Z,Z,Z⟩
theorem fj.trans {S u z:dg} {U A C:I} {w w₁ w₂:World} (h:fj S U w u A w₁) (h':fj u A w₁ z C w₂):fj S U w z C w₂ where
 ext b hb:=(h'.ext b<|Nat.lt_of_lt_of_le hb h.next).trans (h.ext b hb)
 next:=Nat.le_trans h.next h'.next
 size:=Nat.le_trans h.size h'.size
 frame r hr hn:=(h'.frame r (Nat.lt_of_lt_of_le hr h.size) (fun hw=>hn (h.wr r hw hr))).trans (h.frame r hr hn)
 wr r hw hr:=h.wr r (h'.wr r hw<|Nat.lt_of_lt_of_le hr h.size) hr
 tape:=h'.tape.trans h.tape
 os:=h'.os.trans h.os
 out:=h'.out.trans h.out
theorem Old.of {S S':dg} {U U':I} {w w':World} (h:Old S U w) (st:fj S U w S' U' w'):Old S' U' w' where
 size:=Nat.le_trans h.size st.size
 same r hr:=(st.frame r (Nat.lt_of_lt_of_le hr h.size)<|h.no r hr).trans (h.same r hr)
 no r hr hw:=h.no r hr (st.wr r hw<|Nat.lt_of_lt_of_le hr h.size)
theorem Inv.of {S S':dg} {U U':I} {w w':World} (h:Inv S U w) (h':Ay S' U' w'/\fj S U w S' U' w'):Inv S' U' w'/\fj S U w S' U' w':=⟨⟨h'.1,h.sk.of h'.2⟩,h'.2⟩
theorem Inv.Fj {S:dg} {U:I} {w:World} (h:Inv S U w) {b:Pos} {l:Loc} (hb:S b=some l):b.num<U.next.num:=by
 rcases Nat.lt_or_ge b.num U.next.num with h' | h'
 ·exact h'
 rw[(h.fresh b h').1] at hb;cases hb
theorem fj.le {S S':dg} {U U':I} {w w':World} (hi:Inv S U w) (h:fj S U w S' U' w'):S.le S':=fun b l hb=>by
 rw[h.ext b<|hi.Fj hb];exact hb
end Go.Ev
namespace Go.Ev
variable [Env]
section
variable {S:dg} {U:I} {w:World}
theorem Addr.add_eq (a:Addr) (n:Nat) (h:a.spot=none):a.add n=⟨a.block,a.off+n,none⟩:=by
 unfold Addr.add;split
 ·rename_i h0;subst h0;cases a;simp_all
 rfl
theorem cell?_of_heap {w:World} {r:Nat} {c:Array Value} {e:Nat} {fr:Nat×Nat} (h:w.heap[r]?=some (.cells c e fr)) (i:Nat):w.cell? ⟨r,i,none⟩=c[i]?:=by
 simp[World.cell?,h]
theorem frozen?_of_heap {w:World} {r:Nat} {c:Array Value} {e:Nat} {fr:Nat×Nat} (h:w.heap[r]?=some (.cells c e fr)) (i:Nat) (hn:¬(fr.1<=i/\i<fr.2)):w.frozen? ⟨r,i,none⟩=false:=by
 grind [World.frozen?]
theorem heap_setCell_same {w:World} {r:Nat} {c:Array Value} {e:Nat} {fr:Nat×Nat} (h:w.heap[r]?=some (.cells c e fr)) (i:Nat) (v:Value):
  (w.setCell ⟨r,i,none⟩ v).heap[r]?=some (.cells (c.setIfInBounds i v) e fr):=by
 simp[World.setCell,Array.getElem?_modify,h]
theorem heap_setCell_other (w:World) {r:Nat} (a:Addr) (v:Value) (h:r≠a.block):(w.setCell a v).heap[r]?=w.heap[r]?:=by
 simp[World.setCell,Array.getElem?_modify,Ne.symm h]
theorem Inv.row (hi:Inv S U w) {b:Pos} {l:Loc} {cells:List V} {e:Nat} {ro:Bool} (u:U.m.get b=some (.row cells e ro)) (hl:S b=some l):
  ∃(c:Array Value) (fr:Nat×Nat),w.heap[l.dJ]?=some (.cells c e fr)/\c.size=l.sh+l.cells/\cells.length<=l.cells/\
   (∀(i:Nat) (v:V),cells[i]?=some v->∃y,c[l.sh+i]?=some y/\VR S v y)/\(ro=false->∀j,l.sh<=j->¬(fr.1<=j/\j<fr.2)):=by
 obtain⟨x,hx,c,fr,rfl,h2,h3,h4,h5⟩:=hi.obj b _ l u hl
 grind
theorem Inv.cell (hi:Inv S U w) {b:Pos} {l:Loc} {cells:List V} {e:Nat} {ro:Bool} (u:U.m.get b=some (.row cells e ro)) (hl:S b=some l)
  {i:Nat} {v:V} (hv:cells[i]?=some v):∃y,w.cell? ⟨l.dJ,l.sh+i,none⟩=some y/\VR S v y:=by
 obtain⟨c,fr,h1,_,_,h4,_⟩:=hi.row u hl
 grind [cell?_of_heap]
theorem Inv.drew (hi:Inv S U w):Inv S U w.drew:=⟨⟨hi.fresh,hi.dJ,hi.obj,hi.inj⟩,⟨hi.sk.size,hi.sk.same,hi.sk.no⟩⟩
theorem fj.drew (S:dg) (U:I) (w:World):fj S U w S U w.drew:=
 ⟨fun _ _=>Z,nR_ _,nR_ _,fun _ _ _=>Z,fun _ h _=>h,Z,Z,Z⟩
def I.alloc (U:I) (o:cM):I:={next:=U.next.succ,m:=U.m.put (some o) U.next}
def dg.with (S:dg) (b:Pos) (l:Loc):dg:=fun b'=>if b'=b then some l else S b'
theorem dg.da (S:dg) (b:Pos) (l:Loc):S.with b l b=some l:=by simp[dg.with]
theorem dg.dU (S:dg) {b b':Pos} (l:Loc) (h:b'≠b):S.with b l b'=S b':=by simp[dg.with,h]
theorem Inv.wy (hi:Inv S U w) (l:Loc):S.le (S.with U.next l):=fun b l' hb=>by
 rw[dg.dU]; · exact hb
 intro e;subst e;rw[(hi.fresh _<|nR_ _).1] at hb;cases hb
theorem heap_alloc_old (w:World) (x:Obj) {r:Nat} (h:r<w.heap.size):(w.alloc x).heap[r]?=w.heap[r]?:=by
 show(w.heap.push x)[r]?=_
 grind
theorem heap_alloc_new (w:World) (x:Obj):(w.alloc x).heap[w.heap.size]?=some x:=by
 show(w.heap.push x)[w.heap.size]?=_;simp
theorem Inv.Ej (hi:Inv S U w) {o:cM} {x:Obj} {l:Loc} (hl:l.dJ=w.heap.size) (Q:iN S l o x):
  Ay (S.with U.next l) (U.alloc o) (w.alloc x)/\fj S U w (S.with U.next l) (U.alloc o) (w.alloc x):=by
 have hle:=hi.wy l;have z:∀b l',b≠U.next->(S.with U.next l) b=some l'->S b=some l':=fun b l' hb h=>by rwa[dg.dU S l hb] at h
 have A:∀b,b≠U.next->(U.alloc o).m.get b=U.m.get b:=fun b hb=>PT.du _ _ _ _ hb
 have E:(U.alloc o).m.get U.next=some o:=PT.dz _ _ _;have M:∀b:Pos,b.num<U.next.num->b≠U.next:=fun b hb e=>by simp_all
 constructor
 ·refine⟨fun b hb=>?_,fun b l' hb=>?_,fun b o' l' hb F=>?_,fun b b' o₁ o₂ l₁ l₂ h1 G C h4 h5 R=>?_⟩
  ·have aa:U.next.num+1<=b.num:=by simpa [I.alloc,Pos.jv] using hb
   have u:b≠U.next:=fun e=>by subst e;omega
   rw[dg.dU S l u,A b u];exact hi.fresh b B
  ·simp only[World.size_alloc]
   by_cases u:b=U.next
   ·subst u;rw[dg.da] at hb;cases hb;omega
   have:=hi.dJ b l' (z b l' u hb);omega
  ·by_cases u:b=U.next
   ·subst u;rw[dg.da] at F;rw[E] at hb;cases hb;cases F;exact⟨x,by rw[hl];exact heap_alloc_new w x,Q.mono hle⟩
   rw[A b u] at hb;have h':=z b l' u F;obtain⟨y,hy,K⟩:=hi.obj b o' l' hb h';exact⟨y,by rw[heap_alloc_old w x<|hi.dJ b l' h'];exact hy,K.mono hle⟩
  by_cases e1:b=U.next<;>by_cases L:b'=U.next
  ·simp_all
  ·subst e1;rw[dg.da] at C;cases C;have:=hi.dJ b' l₂ (z b' l₂ L h4);omega
  ·subst L;rw[dg.da] at h4;cases h4;have:=hi.dJ b l₁ (z b l₁ e1 C);omega
  rw[A b e1] at h1;rw[A b' L] at G;exact hi.inj b b' o₁ o₂ l₁ l₂ h1 G (z b l₁ e1 C) (z b' l₂ L h4) h5 R
 refine⟨fun b hb=>dg.dU S l (M b hb),by simp[I.alloc,Pos.jv],by simp,fun r K _=>heap_alloc_old w x K,?_,Z,Z,Z⟩;rintro r ⟨b,o',l',h1,G,C,rfl⟩ K
 by_cases u:b=U.next
 ·subst u;rw[dg.da] at C;cases C;omega
 rw[A b u] at h1;exact⟨b,o',l',h1,G,z b l' u C,Z⟩
theorem Inv.alloc (hi:Inv S U w) {o:cM} {x:Obj} {l:Loc} (hl:l.dJ=w.heap.size) (u:iN S l o x):
  Inv (S.with U.next l) (U.alloc o) (w.alloc x)/\fj S U w (S.with U.next l) (U.alloc o) (w.alloc x):=hi.of (hi.Ej hl u)
def I.setObj (U:I) (b:Pos) (o:cM):I:={U with m:=U.m.put (some o) b}
theorem Inv.Cq (hi:Inv S U w) {b:Pos} {l:Loc} {o o':cM} {x:Obj} {w':World} (hb:U.m.get b=some o) (hl:S b=some l) (K:o.ro=false) (ae:o'.ro=false)
  (hw:w'.heap[l.dJ]?=some x) (ho:iN S l o' x) (u:∀r,r≠l.dJ->w'.heap[r]?=w.heap[r]?) (z:w'.heap.size=w.heap.size)
  (A:w'.tape=w.tape) (L:w'.os=w.os) (E:w'.output=w.output):
  Ay S (U.setObj b o') w'/\fj S U w S (U.setObj b o') w':=by
 have F:∀b',b'≠b->(U.setObj b o').m.get b'=U.m.get b':=fun b' h=>PT.du _ _ _ _ h
 have aa:(U.setObj b o').m.get b=some o':=PT.dz _ _ _
 have back:∀b₁ o₁,(U.setObj b o').m.get b₁=some o₁->∃o₂,U.m.get b₁=some o₂/\(o₁.ro=true↔o₂.ro=true):=fun b₁ o₁ h=>by
  grind
 constructor
 ·refine⟨fun b' M=>?_,fun b' l' Q=>by rw[z];exact hi.dJ b' l' Q,fun b' o₁ l₁ h1 G=>?_,fun b₁ b₂ o₁ o₂ l₁ l₂ h1 G R h4 h5 h6=>?_⟩
  ·have hf:=hi.fresh b' M
   grind
  ·by_cases e:b'=b
   ·simp_all
   rw[F b' e] at h1;obtain⟨y,hy,hr⟩:=hi.obj b' o₁ l₁ h1 G
   have am:l₁.dJ≠l.dJ:=fun W=>by
    have:=hi.inj b' b o₁ o l₁ l h1 hb G hl W e
    simp_all
   simp_all
  obtain⟨o₁',C,X⟩:=back b₁ o₁ h1;obtain⟨ab,ac,ao⟩:=back b₂ o₂ G;have:=hi.inj b₁ b₂ o₁' ab l₁ l₂ C ac R h4 h5 h6
  simp_all
 refine⟨fun _ _=>Z,nR_ _,by omega,fun r hr hn=>u r (fun e=>hn ⟨b,o,l,hb,K,hl,e.symm⟩),?_,A,L,E⟩;rintro r ⟨b₁,o₁,l₁,h1,G,R,rfl⟩ hr;obtain⟨o₁',C,X⟩:=back b₁ o₁ h1;refine⟨b₁,o₁',l₁,C,?_,R,Z⟩
 simp_all
theorem Inv.change (hi:Inv S U w) {b:Pos} {l:Loc} {o o':cM} {x:Obj} {w':World} (hb:U.m.get b=some o) (hl:S b=some l) (F:o.ro=false) (C:o'.ro=false)
  (hw:w'.heap[l.dJ]?=some x) (K:iN S l o' x) (u:∀r,r≠l.dJ->w'.heap[r]?=w.heap[r]?) (z:w'.heap.size=w.heap.size)
  (A:w'.tape=w.tape) (G:w'.os=w.os) (E:w'.output=w.output):
  Inv S (U.setObj b o') w'/\fj S U w S (U.setObj b o') w':=hi.of (hi.Cq hb hl F C hw K u z A G E)
theorem Inv.AI (hi:Inv S U w) {b:Pos} {l:Loc} {o o':cM} {x:Obj} {w':World} (hb:U.m.get b=some o) (hl:S b=some l) (F:o.ro=false)
  (hw:w'.heap[l.dJ]?=some x) (ho:iN S l o' x) (z:∀r,r≠l.dJ->w'.heap[r]?=w.heap[r]?) (C:w'.heap.size=w.heap.size)
  (E:w'.tape=w.tape) (L:w'.os=w.os) (G:w'.output=w.output):
  Ay S (U.setObj b o') w'/\fj S U w S (U.setObj b o') w':=by
 have u:∀b',b'≠b->(U.setObj b o').m.get b'=U.m.get b':=fun b' h=>PT.du _ _ _ _ h
 have aa:(U.setObj b o').m.get b=some o':=PT.dz _ _ _
 have apart:∀b' o₁ l₁,b'≠b->U.m.get b'=some o₁->S b'=some l₁->l₁.dJ≠l.dJ:=fun b' o₁ l₁ e h1 A M=>by
  have:=hi.inj b' b o₁ o l₁ l h1 hb A hl M e
  simp_all
 constructor
 ·refine⟨fun b' Q=>?_,fun b' l' R=>by rw[C];exact hi.dJ b' l' R,fun b' o₁ l₁ h1 A=>?_,fun b₁ b₂ o₁ o₂ l₁ l₂ h1 A K h4 h5 X=>?_⟩
  ·have hf:=hi.fresh b' Q
   grind
  ·by_cases e:b'=b
   ·simp_all
   rw[u b' e] at h1;obtain⟨y,hy,W⟩:=hi.obj b' o₁ l₁ h1 A
   grind
  by_cases e1:b₁=b<;>by_cases e2:b₂=b
  ·simp_all
  ·grind
  ·grind
  rw[u b₁ e1] at h1;rw[u b₂ e2] at A;exact hi.inj b₁ b₂ o₁ o₂ l₁ l₂ h1 A K h4 h5 X
 refine⟨fun _ _=>Z,nR_ _,by omega,fun r W hn=>z r (fun e=>hn ⟨b,o,l,hb,F,hl,e.symm⟩),?_,E,L,G⟩;rintro r ⟨b₁,o₁,l₁,h1,A,K,rfl⟩ W
 by_cases e:b₁=b
 ·subst e;exact⟨b₁,o,l₁,hb,F,K,Z⟩
 rw[u b₁ e] at h1;exact⟨b₁,o₁,l₁,h1,A,K,Z⟩
theorem Inv.F9 (hi:Inv S U w) {b:Pos} {l:Loc} {o o':cM} {x:Obj} {w':World} (hb:U.m.get b=some o) (hl:S b=some l) (E:o.ro=false)
  (hw:w'.heap[l.dJ]?=some x) (G:iN S l o' x) (u:∀r,r≠l.dJ->w'.heap[r]?=w.heap[r]?) (z:w'.heap.size=w.heap.size)
  (A:w'.tape=w.tape) (F:w'.os=w.os) (C:w'.output=w.output):
  Inv S (U.setObj b o') w'/\fj S U w S (U.setObj b o') w':=hi.of (hi.AI hb hl E hw G u z A F C)
theorem Inv.Kr (hi:Inv S U w) {b:Pos} {l:Loc} {o o':cM} (hb:U.m.get b=some o) (hl:S b=some l) (u:o.ro=false) (z:∀x,iN S l o x->iN S l o' x):
  Inv S (U.setObj b o') w/\fj S U w S (U.setObj b o') w:=by
 obtain⟨x,hx,A⟩:=hi.obj b o l hb hl;exact hi.F9 hb hl u hx (z x A) (fun _ _=>Z) Z Z Z Z
theorem iN.GI {l:Loc} {cells:List V} {e:Nat} {x:Obj} (h:iN S l (.own cells e) x):(l.sh=0/\cells.length=l.cells)/\iN S l (.row cells e false) x:=⟨h.1,h.2⟩
theorem iN.GS {l:Loc} {cells:List V} {e:Nat} {x:Obj} (h0:l.sh=0/\cells.length=l.cells) (h:iN S l (.row cells e false) x):iN S l (.own cells e) x:=⟨h0,h⟩
theorem Inv.own (hi:Inv S U w) {b:Pos} {l:Loc} {cells:List V} {e:Nat} (hb:U.m.get b=some (.own cells e)) (hl:S b=some l):
  (l.sh=0/\cells.length=l.cells)/\Inv S (U.setObj b (.row cells e false)) w/\fj S U w S (U.setObj b (.row cells e false)) w:=by
 obtain⟨x,hx,u⟩:=hi.obj b _ l hb hl;exact⟨u.GI.1,hi.Kr hb hl Z fun x hx=>hx.GI.2⟩
theorem Inv.setCell (hi:Inv S U w) {b:Pos} {l:Loc} {cells:List V} {e i:Nat} {v:V} {y:Value} (hb:U.m.get b=some (.row cells e false)) (hl:S b=some l)
  (aa:i<cells.length) (hv:VR S v y):
  Inv S (U.setObj b (.row (cells.set i v) e false)) (w.setCell ⟨l.dJ,l.sh+i,none⟩ y)/\fj S U w S (U.setObj b (.row (cells.set i v) e false)) (w.setCell ⟨l.dJ,l.sh+i,none⟩ y):=by
 obtain⟨c,fr,h1,z,A,h4,h5⟩:=hi.row hb hl
 refine hi.change hb hl Z Z (heap_setCell_same h1 (l.sh+i) y) ⟨_,fr,Z,by simpa using z,by simpa using A,fun j u hu=>?_,fun _=>h5 Z⟩
  (fun r C=>heap_setCell_other w _ _ C) (by simp) Z Z Z
 grind
def I.drop (U:I) (b:Pos):I:={U with m:=U.m.put none b}
theorem Inv.Dn (hi:Inv S U w) {b:Pos} {l l':Loc} {cells cells':List V} {e:Nat} {x:Obj} {w':World} (hb:U.m.get b=some (.row cells e false)) (hl:S b=some l)
  (E:l'.dJ=l.dJ) (hw:w'.heap[l.dJ]?=some x) (ho:iN S l' (.row cells' e false) x) (A:∀r,r≠l.dJ->w'.heap[r]?=w.heap[r]?) (F:w'.heap.size=w.heap.size)
  (G:w'.tape=w.tape) (X:w'.os=w.os) (Q:w'.output=w.output):
  Ay (S.with U.next l') ((U.drop b).alloc (.row cells' e false)) w'/\fj S U w (S.with U.next l') ((U.drop b).alloc (.row cells' e false)) w':=by
 have hle:=hi.wy l';have u:∀b l'',b≠U.next->(S.with U.next l') b=some l''->S b=some l'':=fun b l'' hb h=>by rwa[dg.dU S l' hb] at h
 have am:b≠U.next:=fun e=>by subst e;rw[(hi.fresh _<|nR_ _).1] at hl;cases hl
 have aa:∀b:Pos,b.num<U.next.num->b≠U.next:=fun b hb e=>by simp_all
 have K:((U.drop b).alloc (.row cells' e false)).m.get U.next=some (.row cells' e false):=PT.dz _ _ _
 have ac:∀b',b'≠U.next->((U.drop b).alloc (.row cells' e false)).m.get b'=if b'=b then none else U.m.get b':=fun b' h=>by
  show((U.m.put none b).put _ U.next).get b'=_;rw[PT.du _ _ _ _ h,PT.ml]
 have sk:∀b' o',b'≠U.next->((U.drop b).alloc (.row cells' e false)).m.get b'=some o'->b'≠b/\U.m.get b'=some o':=fun b' o' hn h=>by
  simp_all
 have apart:∀b' o' l'',b'≠b->U.m.get b'=some o'->S b'=some l''->l''.dJ≠l.dJ:=fun b' o' l'' L h1 C ab=>by
  have:=hi.inj b' b o' _ l'' l h1 hb C hl ab L;exact absurd this.2 (by simp[cM.ro])
 constructor
 ·refine⟨fun b' M=>?_,fun b' l'' R=>?_,fun b' o₁ l₁ h1 C=>?_,fun b₁ b₂ o₁ o₂ l₁ l₂ h1 C W h4 h5 h6=>?_⟩
  ·have ae:U.next.num+1<=b'.num:=by simpa [I.alloc,I.drop,Pos.jv] using M
   have L:b'≠U.next:=fun e=>by subst e;omega
   have hf:=hi.fresh b' B
   grind [dg.dU]
  ·rw[F]
   by_cases e1:b'=U.next
   ·grind [dg.da]
   exact hi.dJ b' l''<|u b' l'' e1 R
  ·by_cases e1:b'=U.next
   ·subst e1;rw[K] at h1;rw[dg.da] at C;cases h1;cases C;exact⟨x,by rw[E];exact hw,ho.mono hle⟩
   obtain⟨L,z⟩:=sk b' o₁ e1 h1;have h2':=u b' l₁ e1 C;obtain⟨y,hy,hr⟩:=hi.obj b' o₁ l₁ z h2';exact⟨y,by grind,hr.mono hle⟩
  by_cases e1:b₁=U.next<;>by_cases e2:b₂=U.next
  ·simp_all
  ·grind [dg.da]
  ·grind [dg.da]
  obtain⟨_,z⟩:=sk b₁ o₁ e1 h1;obtain⟨_,h2'⟩:=sk b₂ o₂ e2 C;exact hi.inj b₁ b₂ o₁ o₂ l₁ l₂ z h2' (u b₁ l₁ e1 W) (u b₂ l₂ e2 h4) h5 h6
 refine⟨fun b' M=>dg.dU S l' (aa b' M),by simp[I.alloc,I.drop,Pos.jv],by omega,
  fun r hr hn=>A r (fun e'=>hn ⟨b,_,l,hb,Z,hl,e'.symm⟩),?_,G,X,Q⟩
 rintro r ⟨b₁,o₁,l₁,h1,C,W,rfl⟩ hr
 by_cases e1:b₁=U.next
 ·subst e1;rw[dg.da] at W;cases W;exact⟨b,_,l,hb,Z,hl,E.symm⟩
 obtain⟨_,z⟩:=sk b₁ o₁ e1 h1;exact⟨b₁,o₁,l₁,z,C,u b₁ l₁ e1 W,Z⟩
theorem Inv.yl (hi:Inv S U w) {b:Pos} {l l':Loc} {cells cells':List V} {e:Nat} {x:Obj} {w':World} (hb:U.m.get b=some (.row cells e false)) (hl:S b=some l)
  (C:l'.dJ=l.dJ) (hw:w'.heap[l.dJ]?=some x) (G:iN S l' (.row cells' e false) x) (u:∀r,r≠l.dJ->w'.heap[r]?=w.heap[r]?) (z:w'.heap.size=w.heap.size)
  (A:w'.tape=w.tape) (F:w'.os=w.os) (E:w'.output=w.output):
  Inv (S.with U.next l') ((U.drop b).alloc (.row cells' e false)) w'/\fj S U w (S.with U.next l') ((U.drop b).alloc (.row cells' e false)) w':=hi.of (hi.Dn hb hl C hw G u z A F E)
theorem Inv.CM (hi:Inv S U w) (b:Pos):Ay S (U.drop b) w/\fj S U w S (U.drop b) w:=by
 have sk:∀b' o',(U.drop b).m.get b'=some o'->U.m.get b'=some o':=fun b' o' h=>by
  have h':(U.m.put none b).get b'=some o':=h
  grind [PT.ml]
 constructor
 ·refine⟨fun b' u=>⟨(hi.fresh b' u).1,?_⟩,hi.dJ,fun b' o l h1 z=>hi.obj b' o l (sk b' o h1) z,fun b₁ b₂ o₁ o₂ l₁ l₂ h1 z=>hi.inj b₁ b₂ o₁ o₂ l₁ l₂ (sk b₁ o₁ h1) (sk b₂ o₂ z)⟩;show(U.m.put none b).get b'=none;rw[PT.ml];split
  ·rfl
  exact(hi.fresh b' u).2
 refine⟨fun _ _=>Z,nR_ _,nR_ _,fun _ _ _=>Z,?_,Z,Z,Z⟩;rintro r ⟨b₁,o₁,l₁,h1,z,A,rfl⟩ hr;exact⟨b₁,o₁,l₁,sk b₁ o₁ h1,z,A,Z⟩
theorem Inv.forget (hi:Inv S U w) (b:Pos):Inv S (U.drop b) w/\fj S U w S (U.drop b) w:=hi.of (hi.CM b)
end
def OQ (k:IntKind) (n:Int):Bool:=
 match k,n with
 | .i8,.ofNat a=>Nat.ble a 127 | .i8,.negSucc a=>Nat.ble a 127
 | .i16,.ofNat a=>Nat.ble a 32767 | .i16,.negSucc a=>Nat.ble a 32767
 | .i32,.ofNat a=>Nat.ble a 2147483647 | .i32,.negSucc a=>Nat.ble a 2147483647
 | .i64,.ofNat a=>Nat.ble a 9223372036854775807 | .i64,.negSucc a=>Nat.ble a 9223372036854775807
 | .u8,.ofNat a=>Nat.ble a 255 | .u16,.ofNat a=>Nat.ble a 65535
 | .u32,.ofNat a=>Nat.ble a 4294967295 | .u64,.ofNat a=>Nat.ble a 18446744073709551615
 | _,_=>false
def wr (k:IntKind) (n:Int):Int:=bif OQ k n then n else k.wrap n
def bR (x y:Int):Bool:=
 match x,y with
 | .ofNat a,.ofNat b=>Nat.ble (Nat.succ a) b
 | .negSucc _,.ofNat _=>true
 | .ofNat _,.negSucc _=>false
 | .negSucc a,.negSucc b=>Nat.ble (Nat.succ b) a
def D (x y:Int):Bool:=
 match x,y with
 | .ofNat a,.ofNat b=>Nat.beq a b
 | .negSucc a,.negSucc b=>Nat.beq a b
 | _,_=>false
def gY (s t:List Nat):Bool:=
 List.rec (motive:=fun _=>List Nat->Bool) (fun t=>List.rec (motive:=fun _=>Bool) true (fun _ _ _=>false) t)
  (fun x _ ih t=>List.rec (motive:=fun _=>Bool) false (fun y u _=>bif Nat.beq x y then ih u else false) t) s t
def Lp (s t:List Nat):Bool:=
 List.rec (motive:=fun _=>List Nat->Bool) (fun t=>List.rec (motive:=fun _=>Bool) false (fun _ _ _=>true) t)
  (fun x _ ih t=>List.rec (motive:=fun _=>Bool) false (fun y u _=>bif Nat.ble (Nat.succ x) y then true else bif Nat.beq x y then ih u else false) t) s t
def s7:IntKind->IntKind->Bool
 | .i8,.i8 | .i16,.i16 | .i32,.i32 | .i64,.i64 | .u8,.u8 | .u16,.u16 | .u32,.u32 | .u64,.u64=>true
 | _,_=>false
def kZ:Value->Option V
 | .bool b=>some (.bool b)
 | .int k n=>some (.int k n)
 | .string s=>some (.str<|s.data.toList.map UInt8.toNat)
 | .pointer none=>some .nilPtr
 | .slice none 0 0=>some .au
 | .map none=>some .jg
 | .nilFunc=>some .nilFunc
 | .nilIface=>some .nilIface
 | _=>none
def qF:Value->Option V
 | .agg cs=>(cU kZ cs.toList).map .agg
 | .tuple cs=>(cU kZ cs.toList).map .tuple
 | v=>kZ v
def vz (P:Program) (t:TypeId):Option TypeInfo:=
 match nth P.types.toList t with
 | some i=>some i
 | none=>P.info? t
def pT (P:Program) (t:TypeId):Option TypeDesc:=
 match vz P t with
 | some {desc:=.named _ u,..}=>(vz P u).map (·.desc)
 | some i=>some i.desc
 | none=>none
theorem qA (P:Program) (t:TypeId):vz P t=P.info? t:=by
 unfold vz;rw[eL,aT_];cases h:P.types[t]? with
 | none=>rfl
 | some i=>
  have hlt:=(aS_.1 h).1;unfold Tables.info?;rw[if_pos hlt,h]
theorem oT (P:Program) (t:TypeId):pT P t=P.underlying t:=by
 grind [pT,Program.underlying,qA]
def dO (P:Program) (t:TypeId):Option (Option Nat):=
 match pT P t with
 | some (.struct _) | some (.array _ _)=>some (some (((vz P t).map (·.size)).getD 0))
 | some _=>some none
 | none=>none
theorem B9 (P:Program) (t:TypeId):dO P t=match P.underlying t with
 | some (.struct _) | some (.array _ _)=>some (some<|P.cellsOf t)
 | some _=>some none
 | none=>none:=by
 unfold dO;rw[oT,qA];rfl
def cW:V->Option (List V)
 | .agg cs=>some cs
 | .tuple _=>none
 | .any=>none
 | v=>some [v]
def jb:V->Bool
 | .agg _ | .tuple _ | .any=>false
 | _=>true
def cF (l:List V):Bool:=List.rec (motive:=fun _=>Bool) true (fun v _ r=>bif jb v then r else false) l
def mw (cs l:List V):List V:=
 List.rec (motive:=fun _=>List V->List V) (fun l=>l) (fun c _ ih l=>List.rec (motive:=fun _=>List V) [] (fun _ l _=>c::ih l) l) cs l
def dI (cs l:List V) (off:Nat):List V:=
 List.rec (motive:=fun _=>Nat->List V) (fun _=>[]) (fun x l ih off=>Nat.rec (motive:=fun _=>List V) (mw cs (x::l)) (fun m _=>x::ih m) off) l off
def GJ (P:Program) (t:TypeId) (cs:List V) (off:Nat):Option V:=
 match dO P t with
 | some (some n)=>some (.agg<|takeN (dP cs off) n)
 | some none=>nth cs off
 | none=>none
def kL (place:Nat->Option (Nat×Nat)) (ev:Operand->Option V) (parts:List (Nat×Operand)) (cells:List V):Option (List V):=
 List.rec (motive:=fun _=>List V->Option (List V)) (fun cells=>some cells)
  (fun p _ ih cells=>
   match place p.1,(ev p.2).bind cW with
   | some (off,size),some vs=>bif Nat.beq (cY vs) size && Nat.ble (off+size) (cY cells) then ih (dI vs cells off) else none
   | _,_=>none) parts cells
def fJ (P:Program) (t:TypeId):Option V:=(P.info? t).bind fun i=>i.zero.bind qF
def fq (cs:List V) (n:Nat):List V:=Nat.rec (motive:=fun _=>List V) [] (fun _ r=>im cs r) n
def structOf (P:Program) (t:TypeId):Option (Array Field):=
 match pT P t with
 | some (.struct fs)=>some fs
 | _=>none
def sL:V->V->Option Bool
 | .bool a,.bool b=>some (bif a then b else(bif b then false else true))
 | .int j a,.int k b=>bif s7 j k then some (D a b) else none
 | .str a,.str b=>some (gY a b)
 | _,_=>none
def jO (P:Program) (fs:List Field) (xs ys:List V):Option Bool:=
 List.rec (motive:=fun _=>Option Bool) (some true)
  (fun f _ ih=>
   match P.underlying f.type,nth xs f.offset,nth ys f.offset with
   | some .bool,some (.bool a),some (.bool b)=>bif (bif a then b else(bif b then false else true)) then ih else some false
   | some (.int _),some (.int j a),some (.int k b)=>bif s7 j k then(bif D a b then ih else some false) else none
   | some .string,some (.str a),some (.str b)=>bif gY a b then ih else some false
   | _,_,_=>none) fs
def mr (fs:List Field):Bool:=List.rec (motive:=fun _=>Bool) true (fun f _ r=>bif f.name == "_" then false else r) fs
def xh (xs ys:List V):Option Bool:=
 List.rec (motive:=fun _=>List V->Option Bool) (fun ys=>match ys with | []=>some true | _=>none)
  (fun x _ ih ys=>match x,ys with
   | .int j a,.int k b::r=>bif s7 j k then(bif D a b then ih r else some false) else none
   | _,_=>none) xs ys
def sN (P:Program) (e:TypeId):Bool:=
 match P.underlying e,P.info? e with
 | some (.int _),some i=>Nat.beq i.size 1
 | _,_=>false
def eqFields (P:Program) (fs:List Field) (xs ys:List V):Option Bool:=
 List.rec (motive:=fun _=>Option Bool) (some true)
  (fun f _ ih=>
   match P.underlying f.type,nth xs f.offset,nth ys f.offset with
   | some .bool,some (.bool a),some (.bool b)=>bif (bif a then b else(bif b then false else true)) then ih else some false
   | some (.int _),some (.int j a),some (.int k b)=>bif s7 j k then(bif D a b then ih else some false) else none
   | some .string,some (.str a),some (.str b)=>bif gY a b then ih else some false
   | some (.struct gs),_,_=>bif P.stoodInHeld f.type || !mr gs.toList then none else match dO P f.type with
    | some (some n)=>match jO P gs.toList (takeN (dP xs f.offset) n) (takeN (dP ys f.offset) n) with
     | some true=>ih
     | some false=>some false
     | none=>none
    | _=>none
   | some (.array m e),_,_=>bif sN P e then(match dO P f.type with
    | some (some n)=>bif Nat.beq n m && (Nat.beq (cY<|takeN (dP xs f.offset) n) m && Nat.beq (cY<|takeN (dP ys f.offset) n) m) then(match xh (takeN (dP xs f.offset) n) (takeN (dP ys f.offset) n) with
     | some true=>ih
     | some false=>some false
     | none=>none) else none
    | _=>none) else none
   | _,_,_=>none) fs
def EN (P:Program) (t:TypeId) (x y:V):Option Bool:=
 match x,y with
 | .agg xs,.agg ys=>
  match structOf P t with
  | some fs=>bif P.eqGuardType P.depth t || P.stoodInHeld t || !mr fs.toList then none else eqFields P fs.toList xs ys
  | none=>none
 | .nilPtr,.nilPtr=>match P.underlying t with | some (.pointer _)=>some true | _=>none
 | .ptr _ _,.nilPtr | .nilPtr,.ptr _ _=>match P.underlying t with | some (.pointer _)=>some false | _=>none
 | .ptr b o,.ptr b' o'=>match P.underlying t with | some (.pointer u)=>bif Nat.beq b b' && (Nat.beq o o' && (P.info? u).isSome) then some true else none | _=>none
 | .nilIface,.iface _ _ | .iface _ _,.nilIface=>match P.underlying t with | some (.interface _)=>some false | _=>none
 | .au,.au=>match P.underlying t with | some (.slice _)=>some true | _=>none
 | .slice _ _ _ _,.au | .au,.slice _ _ _ _=>match P.underlying t with | some (.slice _)=>some false | _=>none
 | .nilFunc,.nilFunc=>match P.underlying t with | some (.func _ _ _)=>some true | _=>none
 | .func _ _ _,.nilFunc | .nilFunc,.func _ _ _=>match P.underlying t with | some (.func _ _ _)=>some false | _=>none
 | .jg,.jg=>match P.underlying t with | some (.map _ _)=>some true | _=>none
 | .map _,.jg | .jg,.map _=>match P.underlying t with | some (.map _ _)=>some false | _=>none
 | _,_=>none
def nz (P:Program) (op:BinOp) (t:TypeId) (x y:V):Option V:=
 match op with
 | .eql=>match EN P t x y with | some b=>some (.bool b) | none=>none
 | .neq=>match EN P t x y with | some b=>some (.bool (bif b then false else true)) | none=>none
 | _=>none
def te (P:Program) (op:BinOp) (t:TypeId) (x y:V):Option V:=
 match x,y with
 | .int k a,.int k' b=>
  match op with
  | .shl=>bif bR b 0 then none else some (.int k<|wr k (a*2 ^ (min b.toNat k.bits)))
  | .shr=>bif bR b 0 then none else some (.int k<|a.fdiv (2 ^ (min b.toNat k.bits)))
  | op=>
   bif s7 k k' then
    match op with
    | .add=>some (.int k<|wr k<|Int.add a b)
    | .sub=>some (.int k<|wr k<|Int.sub a b)
    | .mul=>some (.int k<|wr k<|Int.mul a b)
    | .quo=>bif D b 0 then none else some (.int k<|wr k<|a.tdiv b)
    | .rem=>bif D b 0 then none else some (.int k<|a.tmod b)
    | .and=>some (.int k<|k.wrap (BitVec.ofInt k.bits a &&& BitVec.ofInt k.bits b).toNat)
    | .or=>some (.int k<|k.wrap (BitVec.ofInt k.bits a ||| BitVec.ofInt k.bits b).toNat)
    | .xor=>some (.int k<|k.wrap (BitVec.ofInt k.bits a ^^^ BitVec.ofInt k.bits b).toNat)
    | .andNot=>some (.int k<|k.wrap (BitVec.ofInt k.bits a &&& ~~~(BitVec.ofInt k.bits b)).toNat)
    | .eql=>some (.bool<|D a b)
    | .neq=>some (.bool (bif D a b then false else true))
    | .lss=>some (.bool<|bR a b)
    | .leq=>some (.bool (bif bR b a then false else true))
    | .gtr=>some (.bool<|bR b a)
    | .geq=>some (.bool (bif bR a b then false else true))
    | _=>none
   else none
 | .str a,.str b=>
  match op with
  | .add=>bif Nat.ble (cY a+cY b) 1152921504606846976 then some (.str<|im a b) else none
  | .eql=>some (.bool<|gY a b)
  | .neq=>some (.bool (bif gY a b then false else true))
  | .lss=>some (.bool<|Lp a b)
  | .gtr=>some (.bool<|Lp b a)
  | .leq=>some (.bool (bif Lp b a then false else true))
  | .geq=>some (.bool (bif Lp a b then false else true))
  | _=>none
 | .bool a,.bool b=>
  match op,P.underlying t with
  | .eql,some .bool=>some (.bool (bif a then b else(bif b then false else true)))
  | .neq,some .bool=>some (.bool (bif a then(bif b then false else true) else b))
  | _,_=>none
 | x,y=>nz P op t x y
def fl (ev:Operand->Option V) (x:Operand) (y:Nat):Option Nat:=
 match ev x with
 | some (.int _ (.ofNat i))=>bif Nat.ble i y then some i else none
 | _=>none
def dc (ev:Operand->Option V) (len cap:Nat) (lo hi:Option Operand):Option (Nat×Nat):=
 match(match hi with | some h=>fl ev h cap | none=>some len) with
 | some h=>match(match lo with | some l=>fl ev l h | none=>some 0) with
  | some l=>some (l,h)
  | none=>none
 | none=>none
def cut (P:Program) (e:TypeId) (b:Pos) (off l h m:Nat):Option V:=
 match P.info? e with
 | some j=>some (.slice b (bif Nat.beq m l then off else off+l*j.size) (h-l) (.known (m-l)))
 | none=>none
def cutAt (P:Program) (ev:Operand->Option V) (e:TypeId) (b:Pos) (off len cap:Nat) (lo hi mx:Option Operand):Option V:=
 match mx with
 | none=>match dc ev len cap lo hi with
  | some (l,h)=>cut P e b off l h cap
  | none=>none
 | some x=>match fl ev x cap,hi with
  | some m,some _=>match dc ev m m lo hi with
   | some (l,h)=>cut P e b off l h m
   | none=>none
  | _,_=>none
def fD (P:Program) (ev:Operand->Option V) (t:TypeId) (x:Operand) (lo hi mx:Option Operand):Option V:=
 match P.underlying t,ev x with
 | some (.slice e),some (.slice b off len (.known cap))=>cutAt P ev e b off len cap lo hi mx
 | some (.slice e),some (.slice b off len (.upto sz))=>
  match mx with
  | none=>match dc ev len len lo hi,P.info? e with
   | some (l,h),some j=>bif Nat.beq j.size sz then some (.slice b (off+l*sz) (h-l) (.upto sz)) else none
   | _,_=>none
  | some x=>bif Nat.beq len 0 then none else cutAt P ev e b off len len lo hi (some x)
 | some (.slice e),some (.slice b off len (.least a sz))=>
  match mx with
  | none=>match dc ev len a lo hi,P.info? e with
   | some (l,h),some j=>bif Nat.beq j.size sz && (Nat.ble len a && Nat.ble (Nat.succ l) a) then some (.slice b (off+l*sz) (h-l) (.least (a-l) sz)) else none
   | _,_=>none
  | some _=>none
 | some (.slice e),some .au=>
  match mx with
  | none=>match dc ev 0 0 lo hi,P.info? e with | some _,some _=>some .au | _,_=>none
  | some _=>none
 | some (.array n e),some (.ptr b off)=>cutAt P ev e b off n n lo hi mx
 | some (.pointer arr),some (.ptr b off)=>
  match P.underlying arr with
  | some (.array n e)=>cutAt P ev e b off n n lo hi mx
  | _=>none
 | some .string,some (.str s)=>
  match mx with
  | none=>match dc ev (cY s) (cY s) lo hi with
   | some (l,h)=>some (.str<|takeN (dP s l) (h-l))
   | none=>none
  | some _=>none
 | _,_=>none
def xL (P:Program) (t:TypeId) (x:V):Option Nat:=
 match P.underlying t,x with
 | some .string,.str s=>some (cY s)
 | some (.array n _),_=>some n
 | some (.slice _),.slice _ _ n _=>some n
 | some (.slice _),.au=>some 0
 | some (.map _ _),.jg=>some 0
 | _,_=>none
def NM:V->Option V
 | .slice _ _ _ (.known c)=>some (.int .i64<|Int.ofNat c)
 | .slice _ _ _ (.least a _)=>some (.pd a)
 | .au=>some (.int .i64 0)
 | _=>none
def IV (P:Program) (op:BinOp) (t:TypeId) (x y:V):Option V:=
 match y with
 | .pd a=>match op,x with
  | .gtr,.int .i64 (.ofNat n)=>bif Nat.ble n a then some (.bool false) else none
  | _,_=>none
 | y=>te P op t x y
def zQ:Operand->Bool
 | .const _=>true
 | _=>false
def J5 (P:Program) (o:BinOp) (t:TypeId) (k:Bool):Option V:=
 bif k then(match P.underlying t with
  | some (.interface _)=>match o with
   | .eql=>some (.bool true)
   | .neq=>some (.bool false)
   | _=>none
  | _=>none) else none
def vV (P:Program) (k:Bool) (o:BinOp) (t:TypeId) (x y:V):Option V:=
 match x with
 | .nilIface=>match y with
  | .nilIface=>J5 P o t k
  | y=>IV P o t .nilIface y
 | x=>IV P o t x y
def uw (ev:Operand->Option V) (l:List Operand):Option (List V):=cU ev l
def Pk:V->V->Option V
 | .int k x,.int k' y=>bif s7 k k' then some (.int k (bif bR y x then y else x)) else none
 | _,_=>none
def Oh:V->V->Option V
 | .int k x,.int k' y=>bif s7 k k' then some (.int k (bif bR x y then y else x)) else none
 | _,_=>none
def di (P:Program) (ev:Operand->Option V):Op->Option V
 | .move x | .assign x=>ev x
 | .pick c a b=>match ev c with | some (.bool true)=>ev a | some (.bool false)=>ev b | _=>none
 | .build t parts=>
  match P.underlying t,(fJ P t).bind cW with
  | some (.struct fs),some zero=>match cU (fun f:Field=>(P.info? f.type).map fun j=>(f.offset,j.size)) fs.toList with
   | some places=>(kL (nth places) ev parts.toList zero).map .agg
   | none=>none
  | some (.array _ e),some zero=>match P.info? e with
   | some j=>(kL (fun i=>some (i*j.size,j.size)) ev parts.toList zero).map .agg
   | none=>none
  | _,_=>none
 | .nilCheck x=>match ev x with
  | some .nilPtr | some .nilIface | some .nilFunc | some (.yield _) | some .any | some (.tok _)=>none
  | v=>v
 | .binOp op t x y _=>match ev x,ev y with | some a,some b=>vV P (zQ x || zQ y) op t a b | _,_=>none
 | .unOp op _ x=>match op,ev x with
  | .not,some (.bool b)=>some (.bool (bif b then false else true))
  | .neg,some (.int k n)=>some (.int k<|wr k<|Int.sub 0 n)
  | .xor,some (.int k n)=>some (.int k<|k.wrap (BitVec.ofInt k.bits (if k.signed then-1 else k.max) ^^^ BitVec.ofInt k.bits n).toNat)
  | _,_=>none
 | .convert src dst x=>match P.underlying src,P.underlying dst,ev x with
  | some (.int _),some (.int k),some (.int _ n)=>some (.int k<|wr k n)
  | some .string,some .string,some (.str s)=>some (.str s)
  | _,_,_=>none
 | .makeInterface t x=>match P.underlying t,ev x with
  | some (.interface _),_=>none
  | some _,some v=>some (.iface t v)
  | _,_=>none
 | .makeFunc fn first captured=>match fn,uw ev first.toList,uw ev captured.toList with
  | .func f,some a,some b=>some (.func f a b)
  | _,_,_=>none
 | .slice t x lo hi mx=>fD P ev t x lo hi mx
 | .fieldAddr s x i=>match structOf P s,ev x with
  | some fs,some (.ptr b off)=>match fs[i]? with
   | some f=>match P.info? f.type with
    | some j=>bif Nat.beq j.size 0 then none else some (.ptr b (off+f.offset))
    | none=>none
   | none=>none
  | _,_=>none
 | .field t x i=>match structOf P t,ev x with
  | some fs,some (.agg cs)=>match fs[i]? with
   | some f=>GJ P f.type cs f.offset
   | none=>none
  | _,_=>none
 | .indexAddr t x i=>match P.underlying t,ev x,ev i with
  | some (.slice e),some (.slice b off len _),some (.int _ (.ofNat i))=>
   match P.info? e with
   | some j=>bif Nat.ble (Nat.succ i) len then some (.ptr b (off+i*j.size)) else none
   | none=>none
  | some (.array n e),some (.ptr b off),some (.int _ (.ofNat i))=>
   match P.info? e with
   | some j=>bif Nat.ble (Nat.succ i) n then some (.ptr b (off+i*j.size)) else none
   | none=>none
  | _,_,_=>none
 | .index t x i=>match P.underlying t,ev x,ev i with
  | some (.array n e),some (.agg cs),some (.int _ (.ofNat i))=>bif Nat.ble (Nat.succ i) n then(match P.info? e with | some j=>GJ P e cs (i*j.size) | none=>none) else none
  | some .string,some (.str s),some (.int _ (.ofNat i))=>match nth s i with | some b=>some (.int .u8<|Int.ofNat b) | none=>none
  | _,_,_=>none
 | .extract x i=>match ev x with
  | some (.tuple vs)=>nth vs i
  | _=>none
 | .typeAssert x _ t ok=>match P.underlying t,ev x with
  | some (.interface _),_=>none
  | some _,some (.iface u v)=>bif Nat.beq u t then some (bif ok then .tuple [v,.bool true] else v) else(bif ok then(fJ P t).map fun z=>.tuple [z,.bool false] else none)
  | some _,some .nilIface=>bif ok then(fJ P t).map fun z=>.tuple [z,.bool false] else none
  | _,_=>none
 | .call c=>match c.callee with
  | .builtin .len=>match c.argTypes[0]?,c.args.toList with
   | some t,[x]=>match ev x with | some v=>(xL P t v).map fun n=>.int .i64 (Int.ofNat n) | none=>none
   | _,_=>none
  | .builtin .cap=>match c.argTypes[0]?,c.args.toList with
   | some t,[x]=>match P.underlying t,ev x with | some (.slice _),some v=>NM v | _,_=>none
   | _,_=>none
  | .builtin .min=>match c.args.toList with
   | [x,y]=>(match ev x,ev y with | some a,some b=>Pk a b | _,_=>none)
   | _=>none
  | .builtin .max=>match c.args.toList with
   | [x,y]=>(match ev x,ev y with | some a,some b=>Oh a b | _,_=>none)
   | _=>none
  | _=>none
 | _=>none
def plainKey (P:Program) (t:TypeId):Bool:=
 match P.underlying t with
 | some (.int _) | some .string | some .bool=>true
 | some (.struct fs)=>fs.toList.all fun f=>match P.underlying f.type with
  | some (.int _) | some .string | some .bool=>true
  | some (.struct gs)=>gs.toList.all fun g=>match P.underlying g.type with
   | some (.int _) | some .string | some .bool=>true
   | _=>false
  | some (.array _ e)=>sN P e
  | _=>false
 | _=>false
def pY (P:Program) (t:TypeId) (x y:V):Option Bool:=
 match P.underlying t,x,y with
 | some (.int _),.int j a,.int k b=>bif s7 j k then some (D a b) else none
 | some .string,.str a,.str b=>some (gY a b)
 | some .bool,.bool a,.bool b=>some (bif a then b else(bif b then false else true))
 | some (.struct _),.agg xs,.agg ys=>EN P t (.agg xs) (.agg ys)
 | _,_,_=>none
def mX (P:Program) (t:TypeId) (x:V):Bool:=
 match P.underlying t,x with
 | some (.struct fs),.agg xs=>fs.toList.all fun f=>match P.underlying f.type with
  | some (.struct gs)=>match dO P f.type with
   | some (some n)=>gs.toList.all fun g=>(nth (takeN (dP xs f.offset) n) g.offset).isSome
   | _=>false
  | some (.array m _)=>match dO P f.type with
   | some (some n)=>Nat.beq n m && Nat.beq (cY<|takeN (dP xs f.offset) n) m
   | _=>false
  | _=>(nth xs f.offset).isSome
 | some (.struct _),_=>false
 | _,_=>true
def pW (P:Program) (t:TypeId) (k:V) (es:List fN):Nat->Option (Option (Nat×V)):=
 List.rec (motive:=fun _=>Nat->Option (Option (Nat×V))) (fun _=>some none)
  (fun e _ ih i=>match pY P t k e.key with
   | some true=>some (some (i,e.val))
   | some false=>ih (Nat.succ i)
   | none=>none) es
def sV (P:Program) (u:Option TypeId) (U:I) (x:Option V):Option V:=
 match x with
 | some (.ptr b off)=>match U.m.get b with
  | some (.own cells e)=>match u with
   | some u=>bif liesAt P P.depth e (cY cells/P.cellsOf e) off u 1 then some (.ptr b off) else none
   | none=>bif Nat.ble (Nat.succ off) (cY cells) then some (.ptr b off) else none
  | _=>none
 | _=>none
def zo:V->Option Nat
 | .int .u8 (.ofNat n)=>bif Nat.ble n 255 then some n else none
 | _=>none
def hJ (P:Program) (ev:Operand->Option V) (U:I):Op->Option V
 | .load t x=>match ev x with
  | some (.ptr b off)=>match U.m.get b with
   | some (.row cells _ _)=>match dO P t with
    | some (some n)=>bif Nat.ble (off+n) (cY cells) then some (.agg<|takeN (dP cells off) n) else none
    | some none=>nth cells off
    | none=>none
   | some (.own cells _)=>match dO P t with
    | some (some n)=>bif Nat.ble (off+n) (cY cells) then some (.agg<|takeN (dP cells off) n) else none
    | some none=>nth cells off
    | none=>none
   | _=>none
  | _=>none
 | .lookup t x i ok=>match P.underlying t,ev i with
  | some (.map kt et),some k=>bif plainKey P kt && mX P kt k then
    match(match ev x with
     | some .jg=>some []
     | some (.map b)=>match U.m.get b with | some (.map es _)=>some es | _=>none
     | _=>none) with
    | some es=>match pW P kt k es 0,fJ P et with
     | some (some (_,v)),some _=>some (bif ok then .tuple [v,.bool true] else v)
     | some none,some z=>some (bif ok then .tuple [z,.bool false] else z)
     | _,_=>none
    | none=>none
   else none
  | _,_=>none
 | .call c=>match c.callee with
  | .builtin .len=>match c.argTypes[0]?,c.args.toList with
   | some t,[x]=>match P.underlying t,ev x with
    | some (.map _ _),some (.map b)=>match U.m.get b with
     | some (.map es _)=>some (.int .i64<|Int.ofNat<|cY es)
     | _=>none
    | some (.map _ _),some .jg=>some (.int .i64 0)
    | _,_=>none
   | _,_=>none
  | _=>none
 | .convert src dst x=>match P.underlying src,P.underlying dst with
  | some (.slice e),some .string=>match P.underlying e,ev x with
   | some (.int .u8),some .au=>some (.str [])
   | some (.int .u8),some (.slice b off len _)=>bif Nat.beq len 0 then some (.str []) else match U.m.get b with
    | some (.row cells _ _)=>bif Nat.ble (off+len) (cY cells) then(match cU zo (takeN (dP cells off) len) with | some s=>some (.str s) | none=>none) else none
    | _=>none
   | _,_=>none
  | some (.pointer t),some .unsafePointer=>match P.info? t with
   | some j=>bif Nat.beq j.size 0 then none else sV P none U (ev x)
   | none=>none
  | some .unsafePointer,some (.pointer u)=>bif (P.info? u).isSome then sV P (some u) U (ev x) else none
  | _,_=>none
 | _=>none
inductive Mk where
 | ptr
 | slice (len cap:Nat)
 | map
def Mk.of:Mk->Pos->V
 | .ptr,b=>.ptr b 0
 | .slice len cap,b=>.slice b 0 len (.known cap)
 | .map,b=>.map b
def tN (P:Program) (e:TypeId):Bool:=
 match P.underlying e with
 | some (.struct fs)=>match fs[0]? with
  | some f=>match P.underlying f.type with
   | some (.pointer t)=>Nat.beq t e
   | _=>false
  | none=>false
 | _=>false
def fO (P:Program) (ev:Operand->Option V):Op->Option (cM×Mk)
 | .alloc e=>match(fJ P e).bind cW with
  | some cs=>some (bif tN P e then .own cs e else .row cs e false,.ptr)
  | none=>none
 | .box e x=>match(ev x).bind cW with
  | some cs=>some (.row cs e false,.ptr)
  | none=>none
 | .buildSlice t len parts=>match P.underlying t with
  | some (.slice e)=>match P.info? e,(fJ P e).bind cW with
   | some j,some z=>
    bif Nat.beq (cY z) j.size && Nat.ble (len*j.size) 16777216 && Nat.ble 1 j.size then
     match kL (fun i=>some (i*j.size,j.size)) ev parts.toList (fq z len) with
     | some cs=>some (.row cs e false,.slice len len)
     | none=>none
    else none
   | _,_=>none
  | _=>none
 | .makeSlice t l c=>match P.underlying t,ev l,ev c with
  | some (.slice e),some (.int _ (.ofNat l)),some (.int _ (.ofNat c))=>match P.info? e,(fJ P e).bind cW with
   | some j,some z=>
    bif Nat.ble l c && Nat.ble (j.bytes*c) 1048576 && Nat.ble c 1048576 && Nat.beq (cY z) j.size && Nat.ble 1 j.size then some (.row (fq z c) e false,.slice l c) else none
   | _,_=>none
  | _,_,_=>none
 | .makeMap _ none=>some (.map [] 0,.map)
 | .makeMap t (some r)=>match P.underlying t,ev r with
  | some (.map _ _),some (.int _ _)=>some (.map [] 0,.map)
  | _,_=>none
 | _=>none
theorem bL {c:Bool} {α:Type} {x y:α}:(bif c then x else y)=if c=true then x else y:=by cases c<;>rfl
theorem vS (k:IntKind) (n:Int) (h:OQ k n=true):k.wrap n=n:=by
 cases k<;>cases n with
 | ofNat a=>simp only[OQ,nE_] at h;simp only[IntKind.wrap,IntKind.bits,IntKind.signed];simp;omega
 | negSucc a=>first | (simp only[OQ,nE_] at h;simp only[IntKind.wrap,IntKind.bits,IntKind.signed];simp;omega) | (simp[OQ] at h)
theorem Aw (k:IntKind) (n:Int):wr k n=k.wrap n:=by
 grind [wr,vS]
theorem fo (x y:Int):bR x y=decide (x<y):=by
 cases x<;>cases y<;>simp only[bR]<;>(rw[Bool.eq_iff_iff];simp[nE_];try omega)
theorem dE (x y:Int):D x y=decide (x=y):=by
 cases x<;>cases y<;>simp only[D]<;>(rw[Bool.eq_iff_iff];simp;try omega)
theorem qp {j k:IntKind} (h:s7 j k=true):j=k:=by cases j<;>cases k<;>first | rfl | (simp[s7] at h)
theorem mQ:∀(s t:List Nat),gY s t=decide (s=t)
 | [],[]=>by simp[gY]
 | [],_::_=>by simp[gY]
 | _::_,[]=>by simp[gY]
 | x::s,y::t=>by
  show(bif Nat.beq x y then gY s t else false)=_;rw[mQ s t,Bool.eq_iff_iff]
  simp_all
theorem JW:∀(s t:List UInt8),Lp (s.map UInt8.toNat) (t.map UInt8.toNat)=Op.bytesLess s t
 | [],[]=>by simp[Lp,Op.bytesLess]
 | [],_::_=>by simp[Lp,Op.bytesLess]
 | _::_,[]=>by simp[Lp,Op.bytesLess]
 | x::s,y::t=>by
  show(bif Nat.ble (Nat.succ x.toNat) y.toNat then true else bif Nat.beq x.toNat y.toNat then Lp (s.map UInt8.toNat) (t.map UInt8.toNat) else false)=_;rw[JW s t];simp only[Op.bytesLess]
  have e1:Nat.ble (Nat.succ x.toNat) y.toNat=decide (x<y):=by
   rw[Bool.eq_iff_iff,nE_];simp[UInt8.lt_iff_toNat_lt];omega
  have e2:Nat.beq x.toNat y.toNat=(x == y):=by
   rw[Bool.eq_iff_iff,Nat.beq_eq];simp[<-UInt8.toNat_inj]
  simp_all
theorem sj:∀{x y:List UInt8},x.map UInt8.toNat=y.map UInt8.toNat->x=y
 | [],[],_=>rfl
 | [],_::_,h=>by simp at h
 | _::_,[],h=>by simp at h
 | a::x,b::y,h=>by
  simp only[List.map_cons,List.cons.injEq] at h;rw[UInt8.toNat_inj.1 h.1,sj h.2]
theorem oS {s t:List Nat} {x y:ByteArray} (h:ik s x) (h':ik t y):gY s t=(x.toList == y.toList):=by
 unfold ik at h h';subst h;subst h';rw[mQ,ByteArray.toList_eq,ByteArray.toList_eq,Bool.eq_iff_iff];simp only[decide_eq_true_eq,beq_iff_eq];exact⟨sj,fun h=>by rw[h]⟩
theorem Ai {s t:List Nat} {x y:ByteArray} (h:ik s x) (h':ik t y):Lp s t=Op.bytesLess x.toList y.toList:=by
 grind [ik,JW,ByteArray.toList_eq]
theorem jW {s:List Nat} {x:ByteArray} (h:ik s x):cY s=x.size:=by
 unfold ik at h;subst h;rw[bP,lM_,Array.length_toList];rfl
theorem info_of_underlying {P:Program} {t:TypeId} {d:TypeDesc} (h:P.underlying t=some d):∃i,P.info? t=some i:=by
 unfold Program.underlying at h
 grind
theorem sI {P:Program} {t:TypeId} {i:TypeInfo} (h:P.info? t=some i):P.cellsOf t=i.size:=by simp[Program.cellsOf,h]
theorem xZ:∀(cs l:List V),cs.length<=l.length->mw cs l=cs++l.drop cs.length
 | [],l,_=>by simp[mw]
 | c::cs,[],h=>by simp at h
 | c::cs,x::l,h=>by
  show c::mw cs l=_;rw[xZ cs l (by simpa using h)];simp
theorem oN (cs:List V):∀(l:List V) (off:Nat),off+cs.length<=l.length->dI cs l off=l.take off++cs++l.drop (off+cs.length)
 | [],off,h=>by
  have:cs= []:=eN_ (by simp only[List.length_nil] at h;omega);subst this;simp[dI]
 | x::l,0,h=>by
  show mw cs (x::l)=_;rw[xZ _ _ (by simpa using h)];simp
 | x::l,off+1,h=>by
  show x::dI cs l off=_;rw[oN cs l off (by simp at h;omega)];rw[show off+1+cs.length=(off+cs.length)+1 by omega];simp
theorem sx:∀{l:List V},cF l=true->∀v∈l,jb v=true
 | [],_,v,hv=>by simp at hv
 | x::l,h,v,hv=>by
  have h':(bif jb x then cF l else false)=true:=h;cases hx:jb x with
  | false=>rw[hx] at h';simp at h'
  | true=>
   rw[hx] at h';cases hv with
   | head=>exact hx
   | tail _ hm=>exact sx h' v hm
theorem pC {S:dg} {v:V} {x:Value} (h:jb v=true) (hv:VR S v x):x.oneCell'=true:=by
 cases v with
 | slice b off len cap=>
  cases cap with
  | upto sz=>
   simp only[VR] at hv;rcases hv with ⟨l,_,⟨c,rfl,_⟩ | ⟨_,a,rfl⟩⟩<;>rfl
  | known c=>simp only[VR] at hv;obtain⟨l,_,rfl⟩:=hv;rfl
  | least a sz=>simp only[VR] at hv;obtain⟨l,_,c,rfl,_⟩:=hv;rfl
 | any=>simp[jb] at h
 | tok n=>simp only[VR] at hv;exact hv.2
 | _=>simp only[VR,jb] at hv h<;>first | (subst hv;rfl) | (obtain⟨_,rfl,_⟩:=hv;rfl) | (obtain⟨_,_,rfl⟩:=hv;rfl) | (obtain⟨_,_,rfl,_⟩:=hv;rfl) | simp_all
theorem pH {S:dg} {x:Value} {v:V} (h:kZ x=some v):VR S v x:=by
 unfold kZ at h;split at h<;>first | (cases h;first | (simp only[VR];done) | (simp only[VR];exact⟨_,Z,Z⟩)) | cases h
theorem nO {S:dg}:∀{xs:List Value} {vs:List V},cU kZ xs=some vs->dt S vs xs
 | [],vs,h=>by rw[iO] at h;cases h;exact dt.nil
 | x::xs,vs,h=>by
  obtain⟨y,r,h1,u,rfl⟩:=hY h;exact dt.cons (pH h1)<|nO u
theorem qG {S:dg} {x:Value} {v:V} (h:qF x=some v):VR S v x:=by
 unfold qF at h;split at h
 ·rename_i cs;cases hc:cU kZ cs.toList with
  | none=>rw[hc] at h;cases h
  | some vs=>rw[hc] at h;cases h;simp only[VR];exact⟨cs,Z,nO hc⟩
 ·rename_i cs;cases hc:cU kZ cs.toList with
  | none=>rw[hc] at h;cases h
  | some vs=>rw[hc] at h;cases h;simp only[VR];exact⟨cs,Z,nO hc⟩
 exact pH h
theorem iV {S:dg} {v:V} {x:Value} {cs:List V} (h:cW v=some cs) (hv:VR S v x):dt S cs x.cells.toList:=by
 have leaf:jb v=true->cs= [v]->dt S cs x.cells.toList:=fun hl e=>by
  subst e;have hx:=pC hl hv;have e:x.cells.toList= [x]:=by cases x<;>first | rfl | (simp[Value.oneCell'] at hx)
  rw[e];exact dt.cons hv dt.nil
 cases v with
 | agg ds=>simp only[cW,oJ_] at h;subst h;simp only[VR] at hv;obtain⟨ys,rfl,u⟩:=hv;exact u
 | tuple ds=>simp[cW] at h
 | any=>simp[cW] at h
 | _=>simp only[cW,oJ_] at h;exact leaf Z h.symm
theorem nv {S:dg} {v:V} {x:Value} {cs:List V} (h:cW v=some cs) (hv:VR S v x):x.cells.size=cs.length:=by
 have:=(iV h hv).length;simpa using this
section
variable {P:Program} {S:dg} {U:I} {w:World}
def ER (S:dg) (ev:Operand->Option V) (f:Operand->Value) (op:Op):Prop:=∀x∈op.operands,∀v,ev x=some v->VR S v (f x)
theorem Inv.piece (hi:Inv S U w) {b:Pos} {l:Loc} {cells:List V} {e:Nat} {ro:Bool} (u:U.m.get b=some (.row cells e ro)) (hl:S b=some l) (off n:Nat) (hn:off+n<=cells.length):
  ∃ys:List Value,ys.length=n/\dt S ((cells.drop off).take n) ys/\∀(j:Nat) (y:Value),ys[j]?=some y->w.cell? ((⟨l.dJ,l.sh+off,none⟩:Addr).add j)=some y:=by
 obtain⟨c,fr,h1,h2,h3,h4,_⟩:=hi.row u hl;refine⟨(c.toList.drop (l.sh+off)).take n,?_,dt.Ke ?_ ?_,?_⟩
 ·grind
 ·grind
 ·grind
 intro j y hy;rw[List.getElem?_take] at hy;split at hy
 ·rw[List.getElem?_drop,aT_] at hy;rw[Addr.add_eq _ _ Z,cell?_of_heap h1];exact hy
 cases hy
def B8:TypeDesc->Bool
 | .struct _ | .array _ _=>true
 | _=>false
theorem fy {t:TypeId} {d:TypeDesc} (h:P.underlying t=some d):(isAgg t).run P w= .ok (B8 d) w:=by
 simp only[isAgg,sB_,run_underlying h,rA];cases d<;>rfl
theorem cD {t:TypeId} {i:TypeInfo} (h:P.info? t=some i):(sizeOf t).run P w= .ok i.size w:=by
 simp[sizeOf,typeInfo,h]
theorem sw {t:TypeId} {n:Nat} (h:dO P t=some (some n)):∃d i,P.underlying t=some d/\P.info? t=some i/\i.size=n/\B8 d=true:=by
 rw[B9] at h;split at h
 ·rename_i fs hu;obtain⟨i,hi⟩:=info_of_underlying hu;simp only[oJ_] at h;rw[sI hi] at h;exact⟨_,i,hu,hi,h,Z⟩
 ·rename_i hu;obtain⟨i,hi⟩:=info_of_underlying hu;simp only[oJ_] at h;rw[sI hi] at h;exact⟨_,i,hu,hi,h,Z⟩
 ·simp at h
 simp at h
theorem wG {t:TypeId} (h:dO P t=some none):∃d i,P.underlying t=some d/\P.info? t=some i/\B8 d=false:=by
 rw[B9] at h;split at h
 ·simp at h
 ·simp at h
 ·rename_i d h1 h2 hu;obtain⟨i,hi⟩:=info_of_underlying hu;refine⟨d,i,hu,hi,?_⟩;cases d<;>first | rfl | simp_all | simp_all
 simp at h
theorem nZ (hi:Inv S U w) {b:Pos} {l:Loc} {off:Nat} {cells:List V} {e:Nat} {ro:Bool} (E:U.m.get b=some (.row cells e ro)) (hl:S b=some l) {t:TypeId} {v:V}
  (h:(match dO P t with
    | some (some n)=>bif Nat.ble (off+n) (cY cells) then some (.agg<|takeN (dP cells off) n) else none
    | some none=>nth cells off
    | none=>none)=some v):
  ∃x,(loadVar t ⟨l.dJ,l.sh+off,none⟩).run P w= .ok x w/\VR S v x:=by
 cases z:dO P t with
 | none=>rw[z] at h;cases h
 | some o=>
  rw[z] at h;cases o with
  | some n=>
   obtain⟨d,i,hu,u,A,C⟩:=sw z;simp only[bL] at h;split at h
   ·rename_i hle;rw[nE_,bP] at hle;cases h;obtain⟨ys,hlen,aa,hc⟩:=hi.piece E hl off n hle;refine⟨.agg ys.toArray,?_,?_⟩
    ·simp only[loadVar,sB_,fy hu,C,rA,if_true,cD u,A];rw[<-hlen,run_loadCells_list w _ ys hc];rfl
    simp only[VR,dn,dM]
    simp_all
   cases h
  | none=>
   obtain⟨d,i,hu,u,C⟩:=wG z;rw[eL] at h;obtain⟨y,hy,F⟩:=hi.cell E hl h;refine⟨y,?_,F⟩;simp only[loadVar,sB_,fy hu,C,rA,Bool.false_eq_true,if_false];rw[run_load,hy]
end
section
variable {P:Program} {S:dg} {U:I} {w:World}
def iF (l:List V) (k:Nat):List V->List V
 | []=>l
 | v::vs=>iF (l.set k v) (k+1) vs
theorem sq:∀(vs:List V) (l:List V) (k:Nat),(iF l k vs).length=l.length
 | [],_,_=>rfl
 | v::vs,l,k=>by rw[iF,sq vs];simp
theorem qU:∀(vs:List V) (x:V) (l:List V) (k:Nat),iF (x::l) (k+1) vs=x::iF l k vs
 | [],_,_,_=>rfl
 | v::vs,x,l,k=>by rw[iF,iF,List.set_cons_succ,qU vs]
theorem qI:∀(cs l:List V),cs.length<=l.length->mw cs l=iF l 0 cs
 | [],l,_=>by simp[mw,iF]
 | c::cs,[],h=>by simp at h
 | c::cs,x::l,h=>by
  show c::mw cs l=_;rw[qI cs l (by simpa using h),iF,List.set_cons_zero,qU]
theorem lr (cs:List V):∀(l:List V) (off:Nat),off+cs.length<=l.length->dI cs l off=iF l off cs
 | [],off,h=>by
  have:cs= []:=eN_ (by simp only[List.length_nil] at h;omega);subst this;simp[dI,iF]
 | x::l,0,h=>by
  show mw cs (x::l)=_;exact qI _ _ (by simpa using h)
 | x::l,off+1,h=>by
  show x::dI cs l off=_;rw[lr cs l off (by simp only[List.length_cons] at h;omega),qU]
theorem CL {off:Nat}:∀(vs:List V) (xs:List Value) (k:Nat) (l:List V) (ys:Array Value),dt S vs xs->dt S l ys.toList->
  dt S (iF l (off+k) vs) ((xs.zipIdx k).foldl (fun(cs:Array Value) (p:Value×Nat)=>cs.setIfInBounds (off+p.2) p.1) ys).toList
 | [],xs,k,l,ys,h,hl=>by rw[h.fb];exact hl
 | v::vs,xs,k,l,ys,h,hl=>by
  obtain⟨x,r,rfl,h1,u⟩:=h.cons_inv;simp only[List.zipIdx_cons,List.foldl_cons,iF];have:=CL (off:=off) vs r (k+1) (l.set (off+k) v) (ys.setIfInBounds (off+k) x) u (by simpa using hl.set (off+k) h1);simpa [Nat.add_assoc] using this
theorem px {place place':Nat->Option (Nat×Nat)} (hp:∀i x,place i=some x->place' i=some x) {ev:Operand->Option V} {f:Operand->Value}:
  ∀(parts:List (Nat×Operand)) (cells cs:List V) (ys:Array Value),(∀p∈parts,∀v,ev p.2=some v->VR S v (f p.2))->dt S cells ys.toList->kL place ev parts cells=some cs->
   ∃zs:Array Value,Instr.fill place' ys (parts.map fun p=>(p.1,f p.2))=some zs/\dt S cs zs.toList
 | [],cells,cs,ys,_,hc,h=>by
  simp only[kL,oJ_] at h;subst h;exact⟨ys,Z,hc⟩
 | p::parts,cells,cs,ys,A,hc,h=>by
  have h':(match place p.1,(ev p.2).bind cW with
   | some (off,size),some vs=>bif Nat.beq (cY vs) size && Nat.ble (off+size) (cY cells) then kL place ev parts (dI vs cells off) else none
   | _,_=>none)=some cs:=h
  cases z:place p.1 with
  | none=>simp_all
  | some x=>
   obtain⟨off,size⟩:=x;cases hv:ev p.2 with
   | none=>simp_all
   | some v=>
    rw[z,hv] at h';simp only[Option.bind_some] at h';cases u:cW v with
    | none=>simp_all
    | some vs=>
     rw[u] at h';simp only[bL] at h';split at h'
     ·rename_i hb;simp only[bA_,Nat.beq_eq,nE_,bP] at hb;obtain⟨ab,ac⟩:=hb;have hvr:=A p (by simp) v hv;have hcells:=iV u hvr;have hsize:=nv u hvr;have aa:ys.size=cells.length:=by have:=hc.length;simpa using this
      have hfold:=CL (off:=off) vs (f p.2).cells.toList 0 cells ys hcells hc;rw[Nat.add_zero,<-lr vs cells off B] at hfold;obtain⟨zs,h1,C⟩:=px hp parts (dI vs cells off) cs _ (fun q hq=>A q (by simp[hq])) hfold h';refine⟨zs,?_,C⟩;rw[List.map_cons];simp only[Instr.fill,hp _ _ z];rw[if_neg]
      ·rw[<-h1];congr 1;rw[<-Array.foldl_toList];simp
      simp_all
     cases h'
theorem ta {α β:Type} {g:α->Option β}:∀{l:List α} {ys:List β},cU g l=some ys->l.mapM g=some ys
 | [],ys,h=>by rw[iO] at h;cases h;rfl
 | x::l,ys,h=>by
  obtain⟨y,r,h1,u,rfl⟩:=hY h;simp[List.mapM_cons,h1,ta u]
theorem re {t:TypeId} {z:V} (h:fJ P t=some z):∃i x,P.info? t=some i/\i.zero=some x/\∀S:dg,VR S z x:=by
 unfold fJ at h;cases hi:P.info? t with
 | none=>rw[hi] at h;cases h
 | some i=>
  rw[hi] at h;simp only[Option.bind_some] at h;cases u:i.zero with
  | none=>rw[u] at h;cases h
  | some x=>rw[u] at h;exact⟨i,x,Z,u,fun S=>qG h⟩
theorem gq {t:TypeId} {cs:List V} (h:(fJ P t).bind cW=some cs):∃i x,P.info? t=some i/\i.zero=some x/\∀S:dg,dt S cs x.cells.toList:=by
 cases u:fJ P t with
 | none=>rw[u] at h;cases h
 | some z=>
  grind [re,iV]
theorem Cj {ev:Operand->Option V} {f:Operand->Value} {t:TypeId} {parts:Array (Nat×Operand)} {v:V}
  (E:∀p∈parts.toList,∀v,ev p.2=some v->VR S v (f p.2)) (h:di P ev (.build t parts)=some v):
  ∃x,(Instr.build t<|parts.map fun(i,x)=>(i,f x)).run P w= .ok x w/\VR S v x:=by
 simp only[di] at h;cases hu:P.underlying t with
 | none=>rw[hu] at h;cases h
 | some d=>
  rw[hu] at h;cases F:(fJ P t).bind cW with
  | none=>simp_all
  | some zero=>
   rw[F] at h;obtain⟨it,z,u,hzero,A⟩:=gq F;cases d with
   | struct fs=>
    simp only at h;cases C:cU (fun f:Field=>(P.info? f.type).map fun j=>(f.offset,j.size)) fs.toList with
    | none=>simp_all
    | some places=>
     rw[C] at h;dsimp only at h;cases hf:kL (nth places) ev parts.toList zero with
     | none=>rw[hf] at h;cases h
     | some cs=>
      rw[hf] at h;cases h;obtain⟨zs,h1,G⟩:=px (place':=(places.toArray[·]?)) (fun i x hx=>by rw[eL] at hx;simpa using hx) parts.toList zero cs z.cells E (A S) hf
      refine⟨.agg zs,run_build w t _ zs ?_,by simp only[VR];simp_all⟩;simp only[Program.built,u,hu,hzero,ta C];simpa using h1
   | array n e=>
    simp only at h;cases hj:P.info? e with
    | none=>rw[hj] at h;cases h
    | some j=>
     rw[hj] at h;dsimp only at h;cases hf:kL (fun i=>some (i*j.size,j.size)) ev parts.toList zero with
     | none=>rw[hf] at h;cases h
     | some cs=>
      rw[hf] at h;cases h;obtain⟨zs,h1,G⟩:=px (place':=fun i=>some (i*j.size,j.size)) (fun i x hx=>hx) parts.toList zero cs z.cells E (A S) hf;refine⟨.agg zs,run_build w t _ zs ?_,by simp only[VR];simp_all⟩;simp only[Program.built,u,hu,hzero,hj];simpa using h1
   | _=>cases h
theorem rL {cs:List V} {ys:List Value} (h:dt S cs ys) (r e:Nat):iN S ⟨r,0,cs.length⟩ (.row cs e false) (.cells ys.toArray e):=by
 refine⟨_,_,Z,by simpa using h.length,nR_ _,fun i v hv=>?_,fun _ j _ hj=>by simp at hj⟩;obtain⟨y,h1,h2⟩:=h.get hv
 simp_all
theorem kD {cs:List V} {ys:List Value} (h:dt S cs ys):∀n,dt S (fq cs n) ((List.replicate n ys).flatten)
 | 0=>(dt.nil:dt S [] [])
 | n+1=>by
  show dt S (im cs<|fq cs n) _;rw[dV,List.replicate_succ,List.flatten_cons];exact h.append<|kD h n
theorem oj (cs:List V):∀n,(fq cs n).length=n*cs.length
 | 0=>by rw[Nat.zero_mul];rfl
 | n+1=>by
  show(im cs<|fq cs n).length=_;rw[dV,lA_,oj cs n,Nat.succ_mul,Nat.add_comm]
theorem kM (ys:List Value):∀(n j:Nat),j<n*ys.length->((List.replicate n ys).flatten)[j]?=ys[j%ys.length]?
 | 0,j,h=>by simp at h
 | n+1,j,h=>by
  rw[List.replicate_succ,List.flatten_cons]
  by_cases hj:j<ys.length
  ·rw[gL_ hj,Nat.mod_eq_of_lt hj]
  rw[gR_ B,kM ys n (j-ys.length) (by rw[Nat.succ_mul] at h;omega)];congr 1
  have h0:0<ys.length:=by
   rcases Nat.eq_zero_or_pos ys.length with h0 | h0
   ·rw[h0] at h;simp at h
   exact h0
  rw[Nat.mod_eq_sub_mod (by omega:j≥ys.length)]
theorem wm (z:Array Value) (n:Nat) (hz:0<z.size):((Array.range (n*z.size)).map (z[· %z.size]!))=((List.replicate n z.toList).flatten).toArray:=by
 apply Array.ext_getElem?;intro j;simp only[Array.getElem?_map,List.getElem?_toArray]
 by_cases hj:j<n*z.size
 ·grind [kM,Nat.mod_lt]
 simp_all
theorem vf {ev:Operand->Option V} {f:Operand->Value} {o:Oper} {ob:cM} {mk:Mk} (K:ER S ev f o.op) (h:fO P ev o.op=some (ob,mk)):
  ∃(x:Value) (ob':Obj) (n:Nat),(execOp f o).run P w= .ok (.value x) (w.alloc ob')/\ob.ro=false/\iN S ⟨w.heap.size,0,n⟩ ob ob'/\
   ∀(S':dg) (b:Pos),S' b=some ⟨w.heap.size,0,n⟩->VR S' (mk.of b) x:=by
 cases A:o.op with
 | alloc e=>
  rw[A] at h;simp only[fO] at h;cases E:(fJ P e).bind cW with
  | none=>rw[E] at h;cases h
  | some cs=>
   rw[E] at h;obtain⟨i,z,hi,hzero,u⟩:=gq E;cases hp:tN P e with
   | false=>
    rw[hp] at h;cases h;refine⟨.pointer<|some ⟨w.heap.size,0,none⟩,.cells z.cells e,cs.length,?_,Z,rL (u S) _ _,fun S' b hb=>by simp only[Mk.of,VR];simp_all⟩;simp[execOp,A,Instr.alloc,zeroValue,typeInfo,hi,hzero,newVar,newRow]
   | true=>
    rw[hp] at h;cases h;refine⟨.pointer<|some ⟨w.heap.size,0,none⟩,.cells z.cells e,cs.length,?_,Z,iN.GS ⟨Z,Z⟩<|rL (u S) _ _,fun S' b hb=>by simp only[Mk.of,VR];simp_all⟩;simp[execOp,A,Instr.alloc,zeroValue,typeInfo,hi,hzero,newVar,newRow]
 | box e x=>
  rw[A] at h K;simp only[fO] at h;cases hv:ev x with
  | none=>rw[hv] at h;cases h
  | some v=>
   rw[hv] at h;dsimp only[Option.bind_some] at h;cases hc:cW v with
   | none=>rw[hc] at h;cases h
   | some cs=>
    rw[hc] at h;cases h;have hvr:=K x (by simp[Op.operands]) v hv;refine⟨.pointer<|some ⟨w.heap.size,0,none⟩,.cells (f x).cells e,cs.length,?_,Z,rL (iV hc hvr) _ _,fun S' b hb=>by simp only[Mk.of,VR];simp_all⟩;simp[execOp,A,Instr.box,newVar,newRow]
 | buildSlice t len parts=>
  rw[A] at h K;simp only[fO] at h;cases hu:P.underlying t with
  | none=>rw[hu] at h;cases h
  | some d=>
   rw[hu] at h;cases d with
   | slice e=>
    dsimp only at h;cases hj:P.info? e with
    | none=>rw[hj] at h;cases h
    | some j=>
     cases E:(fJ P e).bind cW with
     | none=>simp_all
     | some z=>
      rw[hj,E] at h;simp only[bL] at h;split at h
      ·rename_i hb;simp only[bA_,Nat.beq_eq,nE_,bP] at hb;obtain⟨⟨L,Q⟩,R⟩:=hb;cases hf:kL (fun i=>some (i*j.size,j.size)) ev parts.toList (fq z len) with
       | none=>rw[hf] at h;cases h
       | some cs=>
        rw[hf] at h;cases h;obtain⟨i,zv,hi,hzero,u⟩:=gq E;rw[hj] at hi;cases hi;have C:zv.cells.size=j.size:=by rw[<-L,<-(u S).length,Array.length_toList]
        have F:∀p∈parts.toList,∀v,ev p.2=some v->VR S v (f p.2):=fun p hp v hv=>K p.2 (by simp only[Op.operands,List.mem_toArray,List.mem_map];grind) v hv
        obtain⟨zs,h1,W⟩:=px (place':=fun i=>some (i*j.size,j.size)) (fun i x hx=>hx) parts.toList (fq z len) cs ((List.replicate len zv.cells.toList).flatten).toArray F
         (by simpa using kD (u S) len) hf
        rw[<-wm zv.cells len B,C] at h1;have aa:cs.length=zs.size:=by have:=W.length;simpa using this.symm
        by_cases M:len*j.size=0
        ·refine⟨.slice (some ⟨w.heap.size,0,none⟩) len len,.cells zs e,cs.length,?_,Z,by simpa using rL W w.heap.size e,fun S' b hb=>by simp only[Mk.of,VR];simp_all⟩;have X:(Array.map (fun x=>zv.cells[x%j.size]!)<|Array.range (len*j.size))= #[]:=by rw[M];simp
         rw[X] at h1;have ab:∀g:Nat->Value,Array.map g (Array.range 0)= #[]:=fun g=>by simp
         simp[execOp,A,Instr.buildSlice,run_underlying hu,sizeOf,typeInfo,hj,M,ab,h1,newRow]
        refine⟨.slice (some ⟨w.heap.size,0,none⟩) len len,.cells zs e,cs.length,?_,Z,by simpa using rL W w.heap.size e,fun S' b hb=>by simp only[Mk.of,VR];simp_all⟩;have hrun:=run_buildSlice (P:=P) w t e len (parts.map fun(i,x)=>(i,f x)) zs j zv hu hj hzero B M (by simp_all)
        grind [execOp,sB_,rA,sP_]
      cases h
   | _=>cases h
 | makeSlice t l c=>
  rw[A] at h K;simp only[fO] at h;cases hu:P.underlying t with
  | none=>rw[hu] at h;cases h
  | some d=>
   rw[hu] at h;cases hl:ev l with
   | none=>simp_all
   | some vl=>
    cases hc:ev c with
    | none=>simp_all
    | some vc=>
     rw[hl,hc] at h;split at h
     ·rename_i e kl ln kc cn he ac ae;cases he;cases ac;cases ae;cases hj:P.info? e with
      | none=>rw[hj] at h;cases h
      | some j=>
       cases E:(fJ P e).bind cW with
       | none=>simp_all
       | some z=>
        rw[hj,E] at h;simp only[bL] at h;split at h
        ·rename_i hb;simp only[bA_,Nat.beq_eq,nE_,bP] at hb;obtain⟨⟨⟨⟨L,Q⟩,R⟩,am⟩,aq⟩:=hb;cases h;obtain⟨i,zv,hi,hzero,u⟩:=gq E;rw[hj] at hi;cases hi;have C:zv.cells.size=j.size:=by rw[<-am,<-(u S).length,Array.length_toList]
         have ar:f l= .int kl (Int.ofNat ln):=by have:=K l (by simp[Op.operands]) _ hl;simpa only[VR] using this
         have aK:f c= .int kc (Int.ofNat cn):=by have:=K c (by simp[Op.operands]) _ hc;simpa only[VR] using this
         have ao:(j.bytes:Int)*(Int.ofNat cn)<=281474976710656:=by
          grind
         have hrun:=run_make (P:=P) w t e j zv hu hj hzero kl kc (Int.ofNat ln) (Int.ofNat cn) (Int.natCast_nonneg _) (Int.ofNat_le.2 L) ao (by grind)
         have G:madeCells zv.cells ((Int.ofNat cn).toNat*j.size)=((List.replicate cn zv.cells.toList).flatten).toArray:=by
          unfold madeCells;rw[show(Int.ofNat cn).toNat=cn from Z,<-C];exact wm zv.cells cn B
         rw[G] at hrun;have hts:=kD (u S) cn
         refine⟨.slice (some ⟨w.heap.size,0,none⟩) ln cn,.cells ((List.replicate cn zv.cells.toList).flatten).toArray e,(fq z cn).length,?_,Z,rL hts _ _,
          fun S' b hb=>by simp only[Mk.of,VR];simp_all⟩
         grind [execOp,sB_,rA,sP_]
        cases h
     cases h
 | makeMap t r=>
  rw[A] at h;cases r with
  | some r=>
   simp only[fO] at h;split at h
   ·rename_i mk mv k n hu hr;simp only[oJ_,Prod.mk.injEq] at h;obtain⟨rfl,rfl⟩:=h;have ap:f r= .int k n:=by have:=K r (by rw[A];simp[Op.operands]) _ hr;simpa only[VR] using this
    refine⟨.map<|some w.heap.size,.map #[] 0,0,?_,Z,⟨#[],Z,Z⟩,fun S' b hb=>by simp only[Mk.of,VR];simp_all⟩;simp[execOp,A,Instr.makeMap,ap,run_underlying hu,asInt,asIntOf]
   cases h
  | none=>
   simp only[fO,oJ_,Prod.mk.injEq] at h;obtain⟨rfl,rfl⟩:=h;refine⟨.map<|some w.heap.size,.map #[] 0,0,?_,Z,⟨#[],Z,Z⟩,fun S' b hb=>by simp only[Mk.of,VR];simp_all⟩;simp[execOp,A,Instr.makeMap]
 | _=>rw[A] at h;simp[fO] at h
end
section
variable {P:Program} {S:dg} {w:World}
theorem qm (a b:Bool):(bif a then b else(bif b then false else true))=(a == b):=by grind
theorem I4 (a b:Bool):(bif a then(bif b then false else true) else b)=(a !=b):=by grind
theorem cond_not (b:Bool):(bif b then false else true)= !b:=by cases b<;>rfl
theorem lZ {d:Nat}:∀(fs:List Field) (xs ys:List V) (cs ds:Array Value) (b:Bool),dt S xs cs.toList->dt S ys ds.toList->mr fs=true->jO P fs xs ys=some b->
  (Op.eqFields (d+1) cs ds fs).run P w= .ok b w
 | [],xs,ys,cs,ds,b,_,_,_,h=>by
  simp only[jO,oJ_] at h;subst h;simp[Op.eqFields]
 | f::fs,xs,ys,cs,ds,b,hx,hy,hn,h=>by
  have Q:(bif f.name == "_" then false else mr fs)=true:=hn
  have u:(f.name == "_")=false:=by
   simp_all
  rw[u] at Q;have C:f.name≠ "_" :=by simpa using u
  have h':(match P.underlying f.type,nth xs f.offset,nth ys f.offset with
   | some .bool,some (.bool a),some (.bool b)=>bif (bif a then b else(bif b then false else true)) then jO P fs xs ys else some false
   | some (.int _),some (.int j a),some (.int k b)=>bif s7 j k then(bif D a b then jO P fs xs ys else some false) else none
   | some .string,some (.str a),some (.str b)=>bif gY a b then jO P fs xs ys else some false
   | _,_,_=>none)=some b:=h
  have ih:=lZ (d:=d) fs xs ys cs ds
  have part {v:V} {cells:List V} {es:Array Value} (hc:dt S cells es.toList) (X:nth cells f.offset=some v) (F:B8 (match P.underlying f.type with | some d=>d | none=>.invalid)=false) (hu:P.underlying f.type≠none):
    ∃y,(part f.type es f.offset).run P w= .ok y w/\VR S v y:=by
   rw[eL] at X;obtain⟨y,h1,h2⟩:=hc.get X;cases E:P.underlying f.type with
   | none=>exact absurd E hu
   | some dd=>
    rw[E] at F;refine⟨y,?_,h2⟩;simp only[Go.part,sB_,fy E,F,rA,Bool.false_eq_true,if_false]
    simp_all
  split at h'
  ·rename_i u1 u2 u3 a b' e1 G K;obtain⟨y1,L,z⟩:=part hx G (by rw[e1];rfl) (by rw[e1];simp);obtain⟨y2,M,A⟩:=part hy K (by rw[e1];rfl) (by rw[e1];simp);simp only[VR] at z A;subst z;subst A;simp only[Op.eqFields,C,ne_eq,not_false_eq_true,if_true,sB_,L,M,rA,run_equalIn_bool w d f.type _ _ e1];rw[qm] at h';cases hc:(a == b') with
   | true=>grind
   | false=>simp_all
  ·rename_i u1 u2 u3 kk j a k b' e1 G K;obtain⟨y1,L,z⟩:=part hx G (by rw[e1];rfl) (by rw[e1];simp);obtain⟨y2,M,A⟩:=part hy K (by rw[e1];rfl) (by rw[e1];simp);simp only[VR] at z A;subst z;subst A;cases hk:s7 j k with
   | false=>simp_all
   | true=>
    rw[hk] at h';have:=qp hk;subst this;simp only[Op.eqFields,C,ne_eq,not_false_eq_true,if_true,sB_,L,M,rA,run_equalIn_int w d f.type _ _ _ _ e1];rw[dE] at h';cases hc:decide (a=b') with
    | true=>grind
    | false=>simp_all
  ·rename_i u1 u2 u3 a b' e1 G K;obtain⟨y1,L,z⟩:=part hx G (by rw[e1];rfl) (by rw[e1];simp);obtain⟨y2,M,A⟩:=part hy K (by rw[e1];rfl) (by rw[e1];simp);simp only[VR] at z A;obtain⟨s1,rfl,R⟩:=z;obtain⟨s2,rfl,W⟩:=A;simp only[Op.eqFields,C,ne_eq,not_false_eq_true,if_true,sB_,L,M,rA,run_equalIn_string w d f.type _ _ e1];rw[oS R W] at h';cases hc:(s1.toList == s2.toList) with
   | true=>grind
   | false=>simp_all
  cases h'
theorem oe {t:TypeId} {fs:Array Field} (h:structOf P t=some fs):P.underlying t=some (.struct fs):=by
 grind [structOf,oT]
theorem vy {t:TypeId} {fs:Array Field} (h:P.underlying t=some (.struct fs)):P.fieldsOf t=fs:=by simp[Program.fieldsOf,h]
theorem xI {e:TypeId} (h:sN P e=true):∃k i,P.underlying e=some (.int k)/\P.info? e=some i/\i.size=1:=by
 grind [sN,nB]
theorem oK {d:Nat} {e:TypeId} {k':IntKind} (he:P.underlying e=some (.int k')):∀(l1 l2:List V) (s:Nat) (u z:Array Value) (b:Bool),
  (∀(i:Nat) (v:V),l1[i]?=some v->∃y,u[s+i]?=some y/\VR S v y)->(∀(i:Nat) (v:V),l2[i]?=some v->∃y,z[s+i]?=some y/\VR S v y)->xh l1 l2=some b->
  (Op.eqItems (d+1) e 1 u z<|List.range' s l1.length).run P w= .ok b w
 | [],l2,s,u,z,b,_,_,h=>by
  cases l2 with
  | nil=>cases h;simp[Op.eqItems]
  | cons y r=>cases h
 | x::l1,l2,s,u,z,b,h1,A,h=>by
  cases l2 with
  | nil=>cases x<;>cases h
  | cons y r=>
   cases x<;>try (cases h;done)
   rename_i j a;cases y<;>try (cases h;done)
   rename_i k c;have h':(bif s7 j k then(bif D a c then xh l1 r else some false) else none)=some b:=h;cases hk:s7 j k with
   | false=>simp_all
   | true=>
   rw[hk] at h';have:=qp hk;subst this;obtain⟨y1,q1,C⟩:=h1 0 _ Z;obtain⟨y2,q2,E⟩:=A 0 _ Z;simp only[VR] at C E;subst C;subst E;simp only[Nat.add_zero] at q1 q2
   have p:∀(cs:Array Value) (v:Value),cs[s]?=some v->(part e cs (s*1)).run P w= .ok v w:=fun cs v hv=>by
    rw[Nat.mul_one];simp only[part,sB_,fy he,B8,rA,Bool.false_eq_true,if_false,hv,sP_]
   simp only[List.length_cons,List.range'_succ,Op.eqItems,sB_,p u _ q1,p z _ q2,rA,run_equalIn_int w d e _ _ _ _ he];rw[dE] at h';have ih:=oK (d:=d) he l1 r (s+1) u z;cases hc:decide (a=c) with
   | true=>
    rw[hc] at h';have:=of_decide_eq_true hc;subst this
    simpa using ih b (fun i v hv=>by have:=h1 (i+1) v (by simpa using hv);grind)
     (fun i v hv=>by have:=A (i+1) v (by simpa using hv);grind) (by simpa using h')
   | false=>
    simp_all
theorem iw {t:TypeId} {cs:List V} {ys:Array Value} {off n:Nat} (z:dO P t=some (some n)) (hc:dt S cs ys.toList):∃c,(part t ys off).run P w= .ok (.agg c) w/\dt S (takeN (dP cs off) n) c.toList:=by
 obtain⟨d,i,hu,hi,u,A⟩:=sw z;refine⟨ys.extract off (off+n),?_,?_⟩
 ·simp only[part,sB_,fy hu,A,rA,if_true,cD hi,u,sP_]
 rw[dn,dM,Array.toList_extract];have:=(hc.drop off).take n
 simp_all
theorem ng {d:Nat}:∀(fs:List Field) (xs ys:List V) (cs ds:Array Value) (b:Bool),dt S xs cs.toList->dt S ys ds.toList->mr fs=true->eqFields P fs xs ys=some b->
  (Op.eqFields (d+1+1) cs ds fs).run P w= .ok b w
 | [],xs,ys,cs,ds,b,_,_,_,h=>by
  simp only[eqFields,oJ_] at h;subst h;simp[Op.eqFields]
 | f::fs,xs,ys,cs,ds,b,hx,hy,hn,h=>by
  have ac:(bif f.name == "_" then false else mr fs)=true:=hn
  have C:(f.name == "_")=false:=by
   simp_all
  rw[C] at ac;have E:f.name≠ "_" :=by simpa using C
  have h':(match P.underlying f.type,nth xs f.offset,nth ys f.offset with
   | some .bool,some (.bool a),some (.bool b)=>bif (bif a then b else(bif b then false else true)) then eqFields P fs xs ys else some false
   | some (.int _),some (.int j a),some (.int k b)=>bif s7 j k then(bif D a b then eqFields P fs xs ys else some false) else none
   | some .string,some (.str a),some (.str b)=>bif gY a b then eqFields P fs xs ys else some false
   | some (.struct gs),_,_=>bif P.stoodInHeld f.type || !mr gs.toList then none else match dO P f.type with
    | some (some n)=>match jO P gs.toList (takeN (dP xs f.offset) n) (takeN (dP ys f.offset) n) with
     | some true=>eqFields P fs xs ys
     | some false=>some false
     | none=>none
    | _=>none
   | some (.array m e),_,_=>bif sN P e then(match dO P f.type with
    | some (some n)=>bif Nat.beq n m && (Nat.beq (cY<|takeN (dP xs f.offset) n) m && Nat.beq (cY<|takeN (dP ys f.offset) n) m) then(match xh (takeN (dP xs f.offset) n) (takeN (dP ys f.offset) n) with
     | some true=>eqFields P fs xs ys
     | some false=>some false
     | none=>none) else none
    | _=>none) else none
   | _,_,_=>none)=some b:=h
  have ih:=ng (d:=d) fs xs ys cs ds
  have part {v:V} {cells:List V} {es:Array Value} (hc:dt S cells es.toList) (hg:nth cells f.offset=some v) (u:B8 (match P.underlying f.type with | some d=>d | none=>.invalid)=false) (hu:P.underlying f.type≠none):
    ∃y,(part f.type es f.offset).run P w= .ok y w/\VR S v y:=by
   rw[eL] at hg;obtain⟨y,h1,h2⟩:=hc.get hg;cases M:P.underlying f.type with
   | none=>exact absurd M hu
   | some dd=>
    rw[M] at u;refine⟨y,?_,h2⟩;simp only[Go.part,sB_,fy M,u,rA,Bool.false_eq_true,if_false]
    simp_all
  split at h'
  ·rename_i u1 u2 u3 a b' e1 W X;obtain⟨y1,G,z⟩:=part hx W (by rw[e1];rfl) (by rw[e1];simp);obtain⟨y2,K,A⟩:=part hy X (by rw[e1];rfl) (by rw[e1];simp);simp only[VR] at z A;subst z;subst A;simp only[Op.eqFields,E,ne_eq,not_false_eq_true,if_true,sB_,G,K,rA,run_equalIn_bool w (d+1) f.type _ _ e1];rw[qm] at h';cases hc:(a == b') with
   | true=>grind
   | false=>simp_all
  ·rename_i u1 u2 u3 kk j a k b' e1 W X;obtain⟨y1,G,z⟩:=part hx W (by rw[e1];rfl) (by rw[e1];simp);obtain⟨y2,K,A⟩:=part hy X (by rw[e1];rfl) (by rw[e1];simp);simp only[VR] at z A;subst z;subst A;cases hk:s7 j k with
   | false=>simp_all
   | true=>
    rw[hk] at h';have:=qp hk;subst this;simp only[Op.eqFields,E,ne_eq,not_false_eq_true,if_true,sB_,G,K,rA,run_equalIn_int w (d+1) f.type _ _ _ _ e1];rw[dE] at h';cases hc:decide (a=b') with
    | true=>grind
    | false=>simp_all
  ·rename_i u1 u2 u3 a b' e1 W X;obtain⟨y1,G,z⟩:=part hx W (by rw[e1];rfl) (by rw[e1];simp);obtain⟨y2,K,A⟩:=part hy X (by rw[e1];rfl) (by rw[e1];simp);simp only[VR] at z A;obtain⟨s1,rfl,ae⟩:=z;obtain⟨s2,rfl,am⟩:=A;simp only[Op.eqFields,E,ne_eq,not_false_eq_true,if_true,sB_,G,K,rA,run_equalIn_string w (d+1) f.type _ _ e1];rw[oS ae am] at h';cases hc:(s1.toList == s2.toList) with
   | true=>grind
   | false=>simp_all
  ·rename_i u1 u2 u3 gs e1;cases aq:P.stoodInHeld f.type with
   | true=>simp_all
   | false=>
   cases aa:mr gs.toList with
   | false=>simp_all
   | true=>
   rw[aq,aa] at h';simp only[Bool.not_true,Bool.or_false,cond_false] at h';cases u:dO P f.type with
   | none=>simp_all
   | some q=>
   cases q with
   | none=>simp_all
   | some n=>
   rw[u] at h';dsimp only at h';cases F:jO P gs.toList (takeN (dP xs f.offset) n) (takeN (dP ys f.offset) n) with
   | none=>simp_all
   | some bb=>
    rw[F] at h';obtain⟨Q,G,z⟩:=iw (P:=P) (w:=w) u hx (off:=f.offset);obtain⟨R,K,A⟩:=iw (P:=P) (w:=w) u hy (off:=f.offset);have hq:=lZ (P:=P) (w:=w) (d:=d) gs.toList _ _ Q R bb z A aa F
    have hE:(Op.equalIn (d+1+1) f.type (.agg Q) (.agg R)).run P w= .ok bb w:=by
     grind [run_equalIn_struct,vy]
    simp only[Op.eqFields,E,ne_eq,not_false_eq_true,if_true,sB_,G,K,rA,hE];cases bb with
    | true=>simp_all
    | false=>simp_all
  ·rename_i u1 u2 u3 m e e1;cases ab:sN P e with
   | false=>simp_all
   | true=>
   rw[ab] at h';simp only[cond_true] at h';obtain⟨k,inf,he,L,ao⟩:=xI ab;cases u:dO P f.type with
   | none=>simp_all
   | some q=>
   cases q with
   | none=>simp_all
   | some n=>
   rw[u] at h';dsimp only at h';rw[bL] at h';split at h'
   case isFalse=>cases h'
   rename_i hc;simp only[bA_,Nat.beq_eq,bP] at hc;obtain⟨ar,ap,aK⟩:=hc;cases F:xh (takeN (dP xs f.offset) n) (takeN (dP ys f.offset) n) with
   | none=>simp_all
   | some bb=>
    rw[F] at h';obtain⟨Q,G,z⟩:=iw (P:=P) (w:=w) u hx (off:=f.offset);obtain⟨R,K,A⟩:=iw (P:=P) (w:=w) u hy (off:=f.offset)
    have hq:=oK (P:=P) (w:=w) (S:=S) (d:=d) he _ _ 0 Q R bb (fun i v hv=>by obtain⟨y,a1,a2⟩:=z.get hv;simp_all)
     (fun i v hv=>by obtain⟨y,a1,a2⟩:=A.get hv;simp_all) F
    rw[ap] at hq
    have hE:(Op.equalIn (d+1+1) f.type (.agg Q) (.agg R)).run P w= .ok bb w:=by
     rw[run_equalIn_array w (d+1) Q R e1 L,sI L,ao,List.range_eq_range'];exact hq
    simp only[Op.eqFields,E,ne_eq,not_false_eq_true,if_true,sB_,G,K,rA,hE];cases bb with
    | true=>simp_all
    | false=>simp_all
  cases h'
theorem cZ (op:BinOp) (t:TypeId) (x y:Operand) (a b:Value) (h1:¬(a= .nilIface/\b= .nilIface)) (h2:¬(∃c d,a= .agg c/\b= .agg d)):(eqGuard op t x y a b).run P w= .ok () w:=by
 unfold eqGuard
 simp_all
end
section
variable {P:Program} {S:dg} {w:World}
theorem VR.jU {b:Pos} {off len:Nat} {cap:qf} {x:Value} (h:VR S (.slice b off len cap) x):∃a c,x= .slice (some a) len c:=by
  cases cap with
  | upto sz=>
    simp only[VR] at h
    grind
  | known c=>simp only[VR] at h;grind
  | least a sz=>simp only[VR] at h;grind
theorem qq {t:TypeId} {x y:V} {b:Bool} {a c:Value} (h:EN P t x y=some b) (hx:VR S x a) (hy:VR S y c) (op:BinOp) (xo yo:Operand):
    (eqGuard op t xo yo a c).run P w= .ok () w/\(Op.equal t a c).run P w= .ok b w:=by
  unfold EN at h;have aa:∀r:Result Bool,((Op.equalIn (9999+1) t a c).run P w=r)->(Op.equal t a c).run P w=r:=fun r h=>h
  have u:∀r:Result Bool,(∀d,(Op.equalIn (d+1) t a c).run P w=r)->(Op.equal t a c).run P w=r:=fun r h=>h 9999
  split at h
  ·
    rename_i xs ys;simp only[VR] at hx hy;obtain⟨cs,rfl,ab⟩:=hx;obtain⟨ds,rfl,ac⟩:=hy
    grind [structOf,oe,run_eqGuard_agg,run_equalIn_struct,vy,ng]
  all_goals (try (cases h;done))
  all_goals (split at h)
  all_goals (try (cases h;done))
  all_goals (try (rename_i hu;cases h))
  all_goals first
    | (obtain⟨a',c',rfl⟩:=VR.jU hx
       simp only[VR] at hy;subst hy;refine⟨cZ op t xo yo _ _ (by simp) (by simp),u _ (fun d=>?_)⟩;simp[Op.equalIn,run_underlying hu]
       done)
    | (obtain⟨a',c',rfl⟩:=VR.jU hy
       simp only[VR] at hx;subst hx;refine⟨cZ op t xo yo _ _ (by simp) (by simp),u _ (fun d=>?_)⟩;simp[Op.equalIn,run_underlying hu]
       done)
    | (simp only[VR] at hx hy
       subst hx;subst hy;refine⟨cZ op t xo yo _ _ (by simp) (by simp),u _ (fun d=>?_)⟩;simp[Op.equalIn,run_underlying hu]
       done)
    | (simp only[VR] at hx hy
       obtain⟨l,_,rfl⟩:=hx;subst hy;refine⟨cZ op t xo yo _ _ (by simp) (by simp),u _ (fun d=>?_)⟩;simp[Op.equalIn,run_underlying hu]
       done)
    | (simp only[VR] at hx hy
       obtain⟨l,_,rfl⟩:=hy;subst hx;refine⟨cZ op t xo yo _ _ (by simp) (by simp),u _ (fun d=>?_)⟩;simp[Op.equalIn,run_underlying hu]
       done)
    | (simp only[VR] at hx hy
       obtain⟨l,rfl,_⟩:=hx;subst hy;refine⟨cZ op t xo yo _ _ (by simp) (by simp),u _ (fun d=>?_)⟩;simp[Op.equalIn,run_underlying hu]
       done)
    | (simp only[VR] at hx hy
       obtain⟨l,rfl,_⟩:=hy;subst hx;refine⟨cZ op t xo yo _ _ (by simp) (by simp),u _ (fun d=>?_)⟩;simp[Op.equalIn,run_underlying hu]
       done)
    | (simp only[VR] at hx hy
       obtain⟨l,l',rfl,_⟩:=hx;subst hy;refine⟨cZ op t xo yo _ _ (by simp) (by simp),u _ (fun d=>?_)⟩;simp[Op.equalIn,run_underlying hu]
       done)
    | (simp only[VR] at hx hy
       obtain⟨l,l',rfl,_⟩:=hy;subst hx;refine⟨cZ op t xo yo _ _ (by simp) (by simp),u _ (fun d=>?_)⟩;simp[Op.equalIn,run_underlying hu]
       done)
    | (rename_i hu
       rw[bL] at h;split at h
       · rename_i hc
         cases h;rw[bA_,bA_] at hc;obtain⟨hb,ho,hi⟩:=hc;have hb:=nB hb;have ho:=nB ho;subst hb;subst ho;obtain⟨j,hj⟩:=Option.isSome_iff_exists.1 hi;simp only[VR] at hx hy;obtain⟨l,hl,rfl⟩:=hx;obtain⟨l',z,rfl⟩:=hy;rw[hl] at z;cases z;refine⟨cZ op t xo yo _ _ (by simp) (by simp),u _ (fun d=>?_)⟩;simp[Op.equalIn,run_underlying hu,sizeOf,typeInfo,hj,run_sameAddr_same]
       · cases h)
theorem oa {t:TypeId} {a c:Value} {b:Bool} (h:(Op.equal t a c).run P w= .ok b w)
    (u:∀k m k' m',¬(a= .int k m/\c= .int k' m')) (hf:∀k m k' m',¬(a= .float k m/\c= .float k' m')) (hc:∀k m n k' m' n',¬(a= .complex k m n/\c= .complex k' m' n')) (z:∀s s',¬(a= .string s/\c= .string s')):
    (binOp .eql t a c).run P w= .ok (.bool b) w/\(binOp .neq t a c).run P w= .ok (.bool (!b)) w:=by
  constructor
  · unfold binOp
    split<;>first
      | (exact absurd ⟨rfl,rfl⟩<|u _ _ _ _)
      | (exact absurd ⟨rfl,rfl⟩<|hf _ _ _ _)
      | (exact absurd ⟨rfl,rfl⟩<|hc _ _ _ _ _ _)
      | (exact absurd ⟨rfl,rfl⟩<|z _ _)
      | (simp only[sB_,h,rA,sP_];done)
      | (rename_i he;cases he)
      | (rename_i he _;cases he)
      | (rename_i he _ _;cases he)
      | (simp_all;done)
  · unfold binOp
    split<;>first
      | (exact absurd ⟨rfl,rfl⟩<|u _ _ _ _)
      | (exact absurd ⟨rfl,rfl⟩<|hf _ _ _ _)
      | (exact absurd ⟨rfl,rfl⟩<|hc _ _ _ _ _ _)
      | (exact absurd ⟨rfl,rfl⟩<|z _ _)
      | (simp only[sB_,h,rA,sP_];done)
      | (rename_i he;cases he)
      | (rename_i he _;cases he)
      | (rename_i he _ _;cases he)
      | (simp_all;done)
end
section
variable {P:Program} {S:dg} {w:World}
theorem LC {op:BinOp} {t:TypeId} {k k':IntKind} {a b:Int} {v:V} (h:te P op t (.int k a) (.int k' b)=some v):
  ∃x,(binOp op t (.int k a) (.int k' b)).run P w= .ok x w/\VR S v x:=by
 unfold te at h;have vint:∀(j:IntKind) (n:Int),VR S (.int j n) (.int j n):=fun j n=>by simp only[VR]
 have vbool:∀(c:Bool),VR S (.bool c) (.bool c):=fun c=>by simp only[VR]
 by_cases z:op= .shl
 ·subst z;simp only[bL,fo,Aw] at h;split at h
  ·cases h
  rename_i hb;cases h;refine⟨.int k<|k.wrap (a*2 ^ min b.toNat k.bits),?_,vint _ _⟩;have u:¬b<0:=by simpa using hb
  simp[binOp,Op.shift,u]
 by_cases A:op= .shr
 ·subst A;simp only[bL,fo] at h;split at h
  ·cases h
  rename_i hb;cases h;refine⟨.int k<|a.fdiv (2 ^ min b.toNat k.bits),?_,vint _ _⟩;have u:¬b<0:=by simpa using hb
  simp[binOp,Op.shift,u]
 cases hk:s7 k k' with
 | false=>simp_all
 | true=>
  have:=qp hk;subst this;cases op<;>first | exact absurd rfl z | exact absurd rfl A | skip
  all_goals simp only[hk,cond_true,bL,dE,fo,Aw,if_true] at h
  case add=>cases h;exact⟨.int k<|k.wrap (a+b),by simp[binOp,Op.intArith],vint _ _⟩
  case sub=>cases h;exact⟨.int k<|k.wrap (a-b),by simp[binOp,Op.intArith],vint _ _⟩
  case mul=>cases h;exact⟨.int k<|k.wrap (a*b),by simp[binOp,Op.intArith],vint _ _⟩
  case quo=>
   by_cases hb:b=0
   ·simp[hb] at h
   simp only[hb,decide_false,if_true,if_false,Bool.false_eq_true,eq_self,oJ_] at h;subst h;exact⟨.int k<|k.wrap<|a.tdiv b,by simp[binOp,Op.intDiv,hb],vint _ _⟩
  case rem=>
   by_cases hb:b=0
   ·simp[hb] at h
   simp only[hb,decide_false,if_true,if_false,Bool.false_eq_true,eq_self,oJ_] at h;subst h;exact⟨.int k<|a.tmod b,by simp[binOp,Op.intDiv,hb],vint _ _⟩
  case and=>cases h;exact⟨_,by simp only[binOp,ne_eq,not_true_eq_false,if_false];rfl,vint _ _⟩
  case or=>cases h;exact⟨_,by simp only[binOp,ne_eq,not_true_eq_false,if_false];rfl,vint _ _⟩
  case xor=>cases h;exact⟨_,by simp only[binOp,ne_eq,not_true_eq_false,if_false];rfl,vint _ _⟩
  case andNot=>cases h;exact⟨_,by simp only[binOp,ne_eq,not_true_eq_false,if_false];rfl,vint _ _⟩
  case eql=>cases h;exact⟨.bool (a == b),by simp[binOp,Op.intCmp],by grind⟩
  case neq=>
   cases h;refine⟨.bool (a !=b),by simp[binOp,Op.intCmp],?_⟩
   grind
  case lss=>cases h;exact⟨.bool<|decide (a<b),by simp[binOp,Op.intCmp],vbool _⟩
  case leq=>
   cases h;refine⟨.bool<|decide (a<=b),by simp[binOp,Op.intCmp],?_⟩
   grind
  case gtr=>cases h;exact⟨.bool<|decide (b<a),by simp[binOp,Op.intCmp],vbool _⟩
  case geq=>
   cases h;refine⟨.bool<|decide (b<=a),by simp[binOp,Op.intCmp],?_⟩
   grind
theorem LF {op:BinOp} {t:TypeId} {a b:List Nat} {x y:ByteArray} {v:V} (hx:ik a x) (hy:ik b y) (h:te P op t (.str a) (.str b)=some v):
  ∃z,(binOp op t (.string x) (.string y)).run P w= .ok z w/\VR S v z:=by
 unfold te at h;have lx:=jW hx;have ly:=jW hy;have e1:=oS hx hy;have e2:=Ai hx hy;have e3:=Ai hy hx
 have e4:∀s u:List UInt8,Op.bytesLess u s= !(Op.bytesLess s u || s == u):=by
  intro s;induction s with
  | nil=>intro u;cases u<;>simp[Op.bytesLess]
  | cons c s ih=>
   intro u;cases u with
   | nil=>simp[Op.bytesLess]
   | cons d u=>
    grind [Op.bytesLess]
 cases op<;>simp only[bL] at h<;>(try (cases h;done))
 case add=>
  split at h
  ·rename_i hb;cases h;rw[nE_,lx,ly] at hb
   refine⟨.string (x++y),?_,by
    simp only[VR];refine⟨_,Z,?_⟩;unfold ik at hx hy⊢;rw[dV,<-hx,<-hy];simp⟩
   have:¬(((x.size+y.size:Nat):Int)>IntKind.i64.max):=by
    have e:IntKind.i64.max=9223372036854775807:=by decide
    rw[e];omega
   simp only[binOp,Op.stringOp];rw[if_neg this];rfl
  cases h
 case eql=>cases h;exact⟨.bool (x.toList == y.toList),Z,by simp only[VR];rw[e1]⟩
 case neq=>cases h;exact⟨.bool (!(x.toList == y.toList)),Z,by grind [VR]⟩
 case lss=>cases h;exact⟨.bool<|Op.bytesLess x.toList y.toList,Z,by simp only[VR];rw[e2]⟩
 case leq=>
  cases h;refine⟨.bool (Op.bytesLess x.toList y.toList || x.toList == y.toList),Z,?_⟩
  grind [VR]
 case gtr=>
  cases h;refine⟨.bool (!(Op.bytesLess x.toList y.toList || x.toList == y.toList)),Z,?_⟩;simp only[VR];grind
 case geq=>
  cases h;refine⟨.bool (!(Op.bytesLess x.toList y.toList)),Z,?_⟩
  grind [VR]
theorem Ho {op:BinOp} {t:TypeId} {x y v:V} {a c:Value} (hx:VR S x a) (hy:VR S y c) (h:te P op t x y=some v) (xo yo:Operand):
  ∃z,(eqGuard op t xo yo a c).run P w= .ok () w/\(binOp op t a c).run P w= .ok z w/\VR S v z:=by
 have other:(∀k n,x≠ .int k n)->(∀s,x≠ .str s)->(∀b,x≠ .bool b)->x≠ .any->(∀a,x≠ .pd a)->(∀a,x≠ .tok a)->
   ∃z,(eqGuard op t xo yo a c).run P w= .ok () w/\(binOp op t a c).run P w= .ok z w/\VR S v z:=by
  intro h1 u E h4 h5 L
  have h':nz P op t x y=some v:=by
   rw[<-h];unfold te;split
   ·exact absurd Z<|h1 _ _
   ·exact absurd Z<|u _
   ·exact absurd Z<|E _
   rfl
  have A:(∀k m k' m',¬(a= .int k m/\c= .int k' m'))/\(∀k m k' m',¬(a= .float k m/\c= .float k' m'))/\(∀k m n k' m' n',¬(a= .complex k m n/\c= .complex k' m' n'))/\(∀s s',¬(a= .string s/\c= .string s')):=by
   cases x with
   | int k n=>exact absurd Z (h1 k n)
   | str s=>exact absurd Z (u s)
   | bool b=>exact absurd Z (E b)
   | any=>exact absurd Z h4
   | pd a=>exact absurd Z (h5 a)
   | tok a=>exact absurd Z (L a)
   | slice b off len cap=>obtain⟨_,_,rfl⟩:=VR.jU hx;simp
   | _=>simp only[VR] at hx;first | (subst hx;simp;done) | (obtain⟨_,_,rfl⟩:=hx;simp;done) | (obtain⟨_,rfl,_⟩:=hx;simp;done) | (obtain⟨_,_,rfl,_⟩:=hx;simp;done)
  obtain⟨n1,F,G,K⟩:=A;cases op<;>(try (cases h';done))
  case eql=>
   dsimp only[nz] at h';cases hq:EN P t x y with
   | none=>rw[hq] at h';cases h'
   | some b=>
    rw[hq] at h';cases h';obtain⟨g1,C⟩:=qq (P:=P) (w:=w) hq hx hy .eql xo yo;exact⟨_,g1,(oa C n1 F G K).1,by simp only[VR]⟩
  case neq=>
   dsimp only[nz] at h';cases hq:EN P t x y with
   | none=>rw[hq] at h';cases h'
   | some b=>
    rw[hq] at h';cases h';obtain⟨g1,C⟩:=qq (P:=P) (w:=w) hq hx hy .neq xo yo;exact⟨_,g1,(oa C n1 F G K).2,by simp only[VR];rw[cond_not]⟩
 cases x with
 | int k n=>
  cases y with
  | int k' n'=>
   simp only[VR] at hx hy;subst hx;subst hy;obtain⟨z,h1,u⟩:=LC (S:=S) (w:=w) h;exact⟨z,cZ op t xo yo _ _ (by simp) (by simp),h1,u⟩
  | _=>unfold te at h;cases op<;>first | (simp[nz,EN] at h;done) | (cases h;done)
 | str s=>
  cases y with
  | str s'=>
   simp only[VR] at hx hy;obtain⟨x,rfl,hx⟩:=hx;obtain⟨y,rfl,hy⟩:=hy;obtain⟨z,h1,u⟩:=LF (S:=S) (w:=w) hx hy h;exact⟨z,cZ op t xo yo _ _ (by simp) (by simp),h1,u⟩
  | _=>unfold te at h;cases op<;>first | (simp[nz,EN] at h;done) | (cases h;done)
 | bool b=>
  cases y with
  | bool b'=>
   simp only[VR] at hx hy;subst hx;subst hy;unfold te at h;refine(fun(M:∃z,(binOp op t (.bool b) (.bool b')).run P w= .ok z w/\VR S v z)=>let ⟨z,h1,u⟩:=M;⟨z,cZ op t xo yo _ _ (by simp) (by simp),h1,u⟩) ?_;dsimp only at h;split at h
   ·rename_i hu;cases h;exact⟨_,run_eql_bool w t b b' hu,by simp only[VR];rw[qm]⟩
   ·rename_i hu;cases h;refine⟨_,run_neq_bool w t b b' hu,?_⟩;simp only[VR];rw[I4];cases b<;>cases b'<;>rfl
   cases h
  | _=>unfold te at h;cases op<;>first | (simp[nz,EN] at h;done) | (cases h;done)
 | any=>unfold te at h;cases op<;>first | (simp[nz,EN] at h;done) | (cases h;done)
 | pd a=>unfold te at h;cases op<;>first | (simp[nz,EN] at h;done) | (cases h;done)
 | tok a=>unfold te at h;cases op<;>first | (simp[nz,EN] at h;done) | (cases h;done)
 | _=>exact other (by simp) (by simp) (by simp) (by simp) (by simp) (by simp)
theorem En {op:BinOp} {t:TypeId} {x y v:V} {a c:Value} (hx:VR S x a) (hy:VR S y c) (h:IV P op t x y=some v) (xo yo:Operand):
  ∃z,(eqGuard op t xo yo a c).run P w= .ok () w/\(binOp op t a c).run P w= .ok z w/\VR S v z:=by
 unfold IV at h;split at h
 ·split at h
  ·rename_i u1 u2 n;simp only[bL] at h;split at h
   ·rename_i m hle;cases h;rw[nE_] at hle;simp only[VR] at hx hy;obtain⟨k,rfl,hk⟩:=hy;subst hx;have u:¬((k:Int)<Int.ofNat n):=by grind
    exact⟨.bool<|decide ((k:Int)<Int.ofNat n),cZ .gtr t xo yo _ _ (by simp) (by simp),by simp[binOp,Op.intCmp],by simp only[VR,u,decide_false]⟩
   cases h
  cases h
 exact Ho hx hy h xo yo
theorem Eo {op:BinOp} {t:TypeId} {x y v:V} {a c:Value} (hx:VR S x a) (hy:VR S y c) (xo yo:Operand) (h:vV P (zQ xo || zQ yo) op t x y=some v):
  ∃z,(eqGuard op t xo yo a c).run P w= .ok () w/\(binOp op t a c).run P w= .ok z w/\VR S v z:=by
 by_cases u:x= .nilIface/\y= .nilIface
 ·obtain⟨rfl,rfl⟩:=u;simp only[VR] at hx hy;subst hx;subst hy;have h:J5 P op t (zQ xo || zQ yo)=some v:=h;unfold J5 at h;rw[bL] at h;split at h
  ·rename_i hk
   have hg:(eqGuard op t xo yo .nilIface .nilIface).run P w= .ok () w:=by
    unfold eqGuard;cases xo<;>cases yo<;>first | exact absurd hk Bool.false_ne_true | (cases op<;>simp)
   split at h
   ·rename_i ms hu
    have heq:(Op.equal t .nilIface .nilIface).run P w= .ok true w:=by
     have:∀d,(Op.equalIn (d+1) t .nilIface .nilIface).run P w= .ok true w:=fun d=>by simp[Op.equalIn,run_underlying hu]
     exact this 9999
    have hb:=oa heq (fun k m k' m' h=>by cases h.1) (fun k m k' m' h=>by cases h.1) (fun k m n k' m' n' h=>by cases h.1) (fun s s' h=>by cases h.1)
    grind [VR]
   cases h
  cases h
 have h':IV P op t x y=some v:=by
  cases x<;>first | exact h | (cases y<;>first | exact h | simp_all)
 exact En hx hy h' xo yo
end
section
variable {P:Program} {S:dg} {w:World}
theorem jL {ev:Operand->Option V} {f:Operand->Value} {x:Operand} {y i:Nat} (h:fl ev x y=some i) (hx:∀v,ev x=some v->VR S v (f x)) (code:BoundsCode):
  (Instr.sliceBound (f x) y code).run P w= .ok i w/\i<=y:=by
 unfold fl at h;split at h
 ·rename_i k j hv;simp only[bL] at h;split at h
  ·rename_i hb;cases h;rw[nE_] at hb;have hf:=hx _ hv;simp only[VR] at hf;rw[hf];refine⟨?_,hb⟩;have h2:(0:Int)<=Int.ofNat i/\Int.ofNat i<=(y:Int):=⟨Int.natCast_nonneg _,Int.ofNat_le.2 hb⟩;simp only[Instr.sliceBound,asIntOf,sB_,sP_,rA]
   simp_all
  cases h
 cases h
theorem iU {ev:Operand->Option V} {f:Operand->Value} {len cap l h:Nat} {lo hi:Option Operand} (hb:dc ev len cap lo hi=some (l,h))
  (u:∀x,lo=some x->∀v,ev x=some v->VR S v (f x)) (A:∀x,hi=some x->∀v,ev x=some v->VR S v (f x)) (isSlice:Bool):
  (Instr.sliceBounds isSlice len cap (lo.map f) (hi.map f) none).run P w= .ok (l,h,cap) w/\l<=h/\(len<=cap->h<=cap):=by
 unfold dc at hb;cases hi with
 | none=>
  dsimp only at hb;cases lo with
  | none=>
   dsimp only at hb;cases hb;refine⟨?_,Nat.zero_le _,id⟩;simp[Instr.sliceBounds]
  | some x=>
   dsimp only at hb;cases hx:fl ev x len with
   | none=>simp_all
   | some l'=>
    rw[hx] at hb;cases hb;obtain⟨r,hle⟩:=jL (P:=P) (w:=w) hx (u x Z) .sliceB;refine⟨?_,hle,id⟩;simp[Instr.sliceBounds,r]
 | some y=>
  dsimp only at hb;cases hy:fl ev y cap with
  | none=>simp_all
  | some h'=>
   rw[hy] at hb;dsimp only at hb;obtain⟨r,hle⟩:=jL (P:=P) (w:=w) hy (A y Z) (if isSlice then .sliceAcap else .sliceAlen);cases lo with
   | none=>
    dsimp only at hb;cases hb;refine⟨?_,Nat.zero_le _,fun _=>hle⟩;simp[Instr.sliceBounds,r]
   | some x=>
    dsimp only at hb;cases hx:fl ev x h' with
    | none=>simp_all
    | some l'=>
     rw[hx] at hb;cases hb;obtain⟨C,z⟩:=jL (P:=P) (w:=w) hx (u x Z) .sliceB;refine⟨?_,z,fun _=>hle⟩;simp[Instr.sliceBounds,r,C]
theorem nP {ev:Operand->Option V} {f:Operand->Value} {len cap l h m:Nat} {lo:Option Operand} {hi mx:Operand} (hm:fl ev mx cap=some m) (hb:dc ev m m lo (some hi)=some (l,h))
  (A:∀x,lo=some x->∀v,ev x=some v->VR S v (f x)) (C:∀v,ev hi=some v->VR S v (f hi)) (E:∀v,ev mx=some v->VR S v (f mx)) (isSlice:Bool):
  (Instr.sliceBounds isSlice len cap (lo.map f) (some<|f hi)<|some<|f mx).run P w= .ok (l,h,m) w/\l<=h/\h<=m/\m<=cap:=by
 obtain⟨F,u⟩:=jL (P:=P) (w:=w) hm E (if isSlice then .slice3Acap else .slice3Alen);unfold dc at hb;dsimp only at hb;cases hy:fl ev hi m with
 | none=>simp_all
 | some h'=>
  rw[hy] at hb;dsimp only at hb;obtain⟨r,hle⟩:=jL (P:=P) (w:=w) hy C .slice3B;cases lo with
  | none=>
   dsimp only at hb;cases hb;refine⟨?_,Nat.zero_le _,hle,u⟩;simp[Instr.sliceBounds,r,F]
  | some x=>
   dsimp only at hb;cases hx:fl ev x h' with
   | none=>simp_all
   | some l'=>
    rw[hx] at hb;cases hb;obtain⟨G,z⟩:=jL (P:=P) (w:=w) hx (A x Z) .slice3C;refine⟨?_,z,hle,u⟩;simp[Instr.sliceBounds,r,G,F]
theorem zB {e:TypeId} {b:Pos} {off lo hi m:Nat} {v:V} {l:Loc} (hl:S b=some l) (h:cut P e b off lo hi m=some v):
  ∃j,P.info? e=some j/\VR S v (.slice (some (if m=lo then(⟨l.dJ,l.sh+off,none⟩:Addr) else(⟨l.dJ,l.sh+off,none⟩:Addr).add (lo*j.size))) (hi-lo) (m-lo)):=by
 unfold cut at h;cases hj:P.info? e with
 | none=>rw[hj] at h;cases h
 | some j=>
  rw[hj] at h;cases h;refine⟨j,Z,?_⟩;simp only[VR];refine⟨l,hl,?_⟩;rw[Addr.add_eq _ _ Z]
  by_cases hm:m=lo
  ·simp_all
  have:Nat.beq m lo=false:=by
   grind [Nat.beq_eq]
  grind
section
variable {ev:Operand->Option V} {f:Operand->Value} {t:TypeId} {lo hi mx:Option Operand} {v:V}
theorem ny {e:TypeId} {b:Pos} {off len cap:Nat} {l:Loc} (hl:S b=some l) (h:cutAt P ev e b off len cap lo hi mx=some v) (isSlice:Bool)
  (u:∀x,lo=some x->∀v,ev x=some v->VR S v (f x)) (z:∀x,hi=some x->∀v,ev x=some v->VR S v (f x)) (A:∀x,mx=some x->∀v,ev x=some v->VR S v (f x)):
  ∃j l' h' m,(Instr.sliceBounds isSlice len cap (lo.map f) (hi.map f)<|mx.map f).run P w= .ok (l',h',m) w/\P.info? e=some j/\
   VR S v (.slice (some (if m=l' then(⟨l.dJ,l.sh+off,none⟩:Addr) else(⟨l.dJ,l.sh+off,none⟩:Addr).add (l'*j.size))) (h'-l') (m-l')):=by
 unfold cutAt at h;cases mx with
 | none=>
  dsimp only at h;cases hb:dc ev len cap lo hi with
  | none=>rw[hb] at h;cases h
  | some p=>
   obtain⟨l',h'⟩:=p;rw[hb] at h;obtain⟨r,_,_⟩:=iU (P:=P) (w:=w) hb u z isSlice;obtain⟨j,hj,hv⟩:=zB hl h
   grind
 | some x=>
  dsimp only at h;cases hm:fl ev x cap with
  | none=>simp_all
  | some m=>
   cases hi with
   | none=>rw[hm] at h;cases h
   | some y=>
    rw[hm] at h;dsimp only at h;cases hb:dc ev m m lo (some y) with
    | none=>rw[hb] at h;cases h
    | some p=>
     obtain⟨l',h'⟩:=p;rw[hb] at h;obtain⟨r,_⟩:=nP (P:=P) (w:=w) (len:=len) hm hb u (z y Z) (A x Z) isSlice;obtain⟨j,hj,hv⟩:=zB hl h
     grind
theorem kz {e:TypeId} {j:TypeInfo} {a:Addr} {len cap l h m:Nat} (hu:P.underlying t=some (.slice e)) (hj:P.info? e=some j) {lo hi mx:Option Value}
  (hb:(Instr.sliceBounds true len cap lo hi mx).run P w= .ok (l,h,m) w):
  (Instr.sliceAt t (.slice (some a) len cap) lo hi mx).run P w= .ok (.slice (some (if m=l then a else a.add (l*j.size))) (h-l) (m-l)) w:=by
 simp only[Instr.sliceAt,Instr.slice,sB_,run_underlying hu,rA,hb,cD hj,sP_];split<;>rfl
theorem AF {len a c l' h':Nat} (aa:a<=c) (hb:dc ev len a lo hi=some (l',h')):dc ev len c lo hi=some (l',h'):=by
 have up:∀y i,fl ev y a=some i->fl ev y c=some i:=by
  intro y i hy;unfold fl at hy⊢;split at hy
  ·rename_i k i' ab;simp only[bL] at hy⊢;split at hy
   ·rename_i hle;cases hy;rw[nE_] at hle;rw[if_pos (by rw[nE_];omega)]
   cases hy
  cases hy
 unfold dc at hb⊢
 grind
theorem Dv {x:Operand} (h:fD P ev t x lo hi mx=some v)
  (hx:∀v,ev x=some v->VR S v (f x)) (C:∀x,lo=some x->∀v,ev x=some v->VR S v (f x)) (E:∀x,hi=some x->∀v,ev x=some v->VR S v (f x)) (F:∀x,mx=some x->∀v,ev x=some v->VR S v (f x)):
  ∃z,(Instr.sliceAt t (f x) (lo.map f) (hi.map f)<|mx.map f).run P w= .ok z w/\VR S v z:=by
 unfold fD at h;split at h
 ·rename_i e b off len cap hu u;have hv:=hx _ u;simp only[VR] at hv;obtain⟨l,hl,hf⟩:=hv;obtain⟨j,l',h',m,r,hj,L⟩:=ny (w:=w) hl h true C E F;rw[hf];exact⟨_,kz hu hj r,L⟩
 ·rename_i e b off len sz hu u;have hv:=hx _ u;cases mx with
  | none=>
   dsimp only at h;cases hb:dc ev len len lo hi with
   | none=>rw[hb] at h;cases h
   | some p=>
    obtain⟨l',h'⟩:=p;cases hj:P.info? e with
    | none=>simp_all
    | some j=>
     rw[hb,hj] at h;simp only[bL] at h;split at h
     ·rename_i K;rw[Nat.beq_eq] at K;cases h;obtain⟨r,hle,hle2⟩:=iU (P:=P) (w:=w) hb C E true;have hle2:=hle2 (nR_ _)
      have wider:∀c,len<=c->(Instr.sliceBounds true len c (lo.map f) (hi.map f) none).run P w= .ok (l',h',c) w:=by
       intro c hc
       have Q:dc ev len c lo hi=some (l',h'):=by
        have up:∀y i,fl ev y len=some i->fl ev y c=some i:=by
         intro y i hy;unfold fl at hy⊢;split at hy
         ·rename_i k i' ab;simp only[bL] at hy⊢;split at hy
          ·rename_i hle;cases hy;rw[nE_] at hle;rw[if_pos (by rw[nE_];omega)]
          cases hy
         cases hy
        unfold dc at hb⊢
        grind
       exact(iU (P:=P) (w:=w) Q C E true).1
      simp only[VR] at hv;obtain⟨l,hl,⟨c,hf,hc,A⟩ | ⟨G,a,hf⟩⟩:=hv
      ·rw[hf];refine⟨_,kz hu hj<|wider c hc,?_⟩;simp only[VR];refine⟨l,hl,?_⟩
       by_cases R:c=l'
       ·grind
       left;refine⟨c-l',?_,by omega,?_⟩
       ·rw[if_neg R,Addr.add_eq _ _ Z,K,Nat.add_assoc]
       rw[<-A];have:c=l'+(c-l'):=by omega
       grind
      rw[hf];subst G;refine⟨_,kz hu hj<|wider 0<|nR_ _,?_⟩
      simp_all
     cases h
  | some m=>
   simp only[bL] at h;split at h
   ·cases h
   rename_i ac;simp only[VR] at hv;obtain⟨l,hl,⟨c,hf,hc,A⟩ | ⟨G,a,hf⟩⟩:=hv
   ·
    obtain⟨j,l',h',m',r,hj,L⟩:=ny (w:=w) hl h true C E F
    have r':(Instr.sliceBounds true len c (lo.map f) (hi.map f)<|some<|f m).run P w= .ok (l',h',m') w:=by
     unfold cutAt at h;dsimp only at h;cases hm:fl ev m len with
     | none=>simp_all
     | some m0=>
      cases hi with
      | none=>rw[hm] at h;cases h
      | some y=>
       rw[hm] at h;dsimp only at h;cases hb:dc ev m0 m0 lo (some y) with
       | none=>rw[hb] at h;cases h
       | some p=>
        obtain⟨l0,h0⟩:=p
        have W:fl ev m c=some m0:=by
         unfold fl at hm⊢;split at hm
         ·simp only[bL] at hm⊢;split at hm
          ·rename_i hle;cases hm;rw[nE_] at hle;rw[if_pos (by rw[nE_];omega)]
          cases hm
         cases hm
        obtain⟨r1,_⟩:=nP (P:=P) (w:=w) (len:=len) hm hb C (E y Z) (F m Z) true;obtain⟨r2,_⟩:=nP (P:=P) (w:=w) (len:=len) W hb C (E y Z) (F m Z) true
        simp_all
    rw[hf];exact⟨_,kz hu hj r',L⟩
   simp_all
 ·rename_i e b off len a sz hu u;have hv:=hx _ u;simp only[VR] at hv;obtain⟨l,hl,c,hf,X,A⟩:=hv;cases mx with
  | some _=>cases h
  | none=>
   dsimp only at h;cases hb:dc ev len a lo hi with
   | none=>rw[hb] at h;cases h
   | some p=>
    obtain⟨l',h'⟩:=p;cases hj:P.info? e with
    | none=>simp_all
    | some j=>
     rw[hb,hj] at h;simp only[bL] at h;split at h
     ·rename_i hc;cases h;simp only[bA_,Nat.beq_eq,nE_] at hc;obtain⟨K,ae,am⟩:=hc;obtain⟨r,hle,hle2⟩:=iU (P:=P) (w:=w) (AF X hb) C E true;rw[hf];refine⟨_,kz hu hj r,?_⟩;simp only[VR];refine⟨l,hl,c-l',?_,by omega,?_⟩
      ·rw[if_neg B,Addr.add_eq _ _ Z,K,Nat.add_assoc]
      rw[<-A];have:c=l'+(c-l'):=by omega
      grind
     cases h
 ·rename_i e hu u;have hv:=hx _ u;simp only[VR] at hv;cases mx with
  | some _=>cases h
  | none=>
   dsimp only at h;cases hb:dc ev 0 0 lo hi with
   | none=>rw[hb] at h;cases h
   | some p=>
    obtain⟨l',h'⟩:=p;cases M:P.info? e with
    | none=>simp_all
    | some je=>
    rw[hb,M] at h;cases h;obtain⟨r,hle,hle2⟩:=iU (P:=P) (w:=w) hb C E true;have hle2:=hle2 (nR_ _);have:l'=0:=by omega
    have:h'=0:=by omega
    subst_vars
    rw[hv];refine⟨.slice none 0 0,?_,by simp only[VR]⟩;simp[Instr.sliceAt,Instr.slice,run_underlying hu,r,cD M]
 ·rename_i n e b off hu u;have hv:=hx _ u;simp only[VR] at hv;obtain⟨l,hl,hf⟩:=hv;obtain⟨j,l',h',m,r,hj,L⟩:=ny (w:=w) hl h false C E F;rw[hf];refine⟨_,?_,L⟩;simp only[Instr.sliceAt,sB_,run_underlying hu,rA,Instr.sureAddr,sP_,r,cD hj]
 ·rename_i arr b off hu u;have hv:=hx _ u;simp only[VR] at hv;obtain⟨l,hl,hf⟩:=hv;split at h
  ·rename_i n e aa;obtain⟨j,l',h',m,r,hj,L⟩:=ny (w:=w) hl h false C E F;rw[hf];refine⟨_,?_,L⟩;simp only[Instr.sliceAt,Instr.slice,sB_,run_underlying hu,run_underlying aa,asAddr,rA,sP_,r,cD hj]
  cases h
 ·rename_i s hu u;have hv:=hx _ u;simp only[VR] at hv;obtain⟨bs,hf,hs⟩:=hv;cases mx with
  | some _=>cases h
  | none=>
   dsimp only at h;cases hb:dc ev (cY s) (cY s) lo hi with
   | none=>rw[hb] at h;cases h
   | some p=>
    obtain⟨l',h'⟩:=p;rw[hb] at h;cases h;rw[jW hs] at hb;obtain⟨r,hle,hle2⟩:=iU (P:=P) (w:=w) hb C E false;rw[hf];refine⟨.string<|bs.extract l' h',?_,?_⟩
    ·simp[Instr.sliceAt,Instr.slice,run_underlying hu,r]
    simp only[VR];refine⟨_,Z,?_⟩
    grind [ik,dn,dM,Lib.extract_data,List.map_take,List.map_drop]
 cases h
end
end
section
variable {P:Program} {S:dg} {w:World}
theorem x7 {t:TypeId} {cs:List V} {ys:Array Value} {off:Nat} {v:V} (h:GJ P t cs off=some v) (hc:dt S cs ys.toList):∃y,(part t ys off).run P w= .ok y w/\VR S v y:=by
 unfold GJ at h;split at h
 ·rename_i n u;cases h;obtain⟨d,i,hu,hi,z,A⟩:=sw u;refine⟨.agg<|ys.extract off (off+n),?_,?_⟩
  ·simp only[part,sB_,fy hu,A,rA,if_true,cD hi,z,sP_]
  simp only[VR];refine⟨_,Z,?_⟩;rw[dn,dM,Array.toList_extract];have:=(hc.drop off).take n
  simp_all
 ·rename_i u;obtain⟨d,i,hu,hi,A⟩:=wG u;rw[eL] at h;obtain⟨y,h1,C⟩:=hc.get h;refine⟨y,?_,C⟩;have:ys[off]?=some y:=by simp_all
  simp only[part,sB_,fy hu,A,rA,Bool.false_eq_true,if_false,this,sP_]
 cases h
theorem iy {ev:Operand->Option V} {f:Operand->Value}:∀{l:List Operand} {vs:List V},cU ev l=some vs->(∀x∈l,∀v,ev x=some v->VR S v (f x))->dt S vs (l.map f)
 | [],vs,h,_=>by rw[iO] at h;cases h;exact dt.nil
 | x::l,vs,h,u=>by
  obtain⟨y,r,h1,A,rfl⟩:=hY h;exact dt.cons (u x (by simp) y h1)<|iy A fun z C=>u z (by simp[C])
theorem HZ {t ty:TypeId} {x:V} {y:Value} {n:Nat} {ts:Array TypeId} (h:xL P t x=some n) (hx:VR S x y) (u:ts[0]?=some t):(Builtin.len_ ts ty #[y]).run P w= .ok (.int .i64<|Int.ofNat n) w:=by
 unfold xL at h;split at h
 ·rename_i s hu;cases h;simp only[VR] at hx;obtain⟨bs,rfl,z⟩:=hx;rw[jW z];simp[Builtin.len_,u,run_underlying hu,goInt]
 ·rename_i m e hu;cases h;simp[Builtin.len_,u,run_underlying hu,goInt]
 ·rename_i e b off m cap hu;cases h;obtain⟨a,c,rfl⟩:=VR.jU hx;simp[Builtin.len_,u,run_underlying hu,goInt]
 ·rename_i e hu;cases h;simp only[VR] at hx;subst hx;simp[Builtin.len_,u,run_underlying hu,goInt]
 ·rename_i k e hu;cases h;simp only[VR] at hx;subst hx;simp[Builtin.len_,u,run_underlying hu,goInt]
 cases h
theorem xT {x:V} {y:Value} (hx:VR S x y) (h:x≠ .nilPtr/\x≠ .nilIface/\x≠ .nilFunc/\(∀l,x≠ .yield l)/\x≠ .any/\(∀n,x≠ .tok n)) (f:Operand->Value) (o:Oper) (z:Operand) (u:o.op= .nilCheck z) (hf:f z=y):
  (execOp f o).run P w= .ok (.value y) w:=by
 have key:(y≠ .pointer none)/\y≠ .nilIface/\y≠ .nilFunc/\∀n a b,y≠ .func (.method n) a b:=by
  obtain⟨h1,A,C,h4,h5,E⟩:=h;cases x with
  | tok n=>exact absurd Z (E n)
  | any=>exact absurd Z h5
  | nilPtr=>exact absurd Z h1
  | nilIface=>exact absurd Z A
  | nilFunc=>exact absurd Z C
  | yield l=>exact absurd Z (h4 l)
  | slice b off len cap=>obtain⟨_,_,rfl⟩:=VR.jU hx;simp
  | _=>simp only[VR] at hx;first | (subst hx;simp;done) | (obtain⟨_,_,rfl⟩:=hx;simp;done) | (obtain⟨_,rfl,_⟩:=hx;simp;done) | (obtain⟨_,_,rfl,_⟩:=hx;simp;done)
 obtain⟨F,k2,G,K⟩:=key;simp only[execOp,u,hf,F,k2,G,K];rfl
theorem yc {ev:Operand->Option V} {f:Operand->Value} {o:Oper} {v:V} (C:ER S ev f o.op) (h:di P ev o.op=some v):
  ∃x,(execOp f o).run P w= .ok (.value x) w/\VR S v x:=by
 cases F:o.op with
 | move x=>
  rw[F] at h C;exact⟨f x,by simp[execOp,F],C x (by simp[Op.operands]) v h⟩
 | assign x=>
  rw[F] at h C;exact⟨f x,by simp[execOp,F],C x (by simp[Op.operands]) v h⟩
 | pick c a b=>
  rw[F] at h C;simp only[di] at h;split at h
  ·rename_i hc;have:=C c (by simp[Op.operands]) _ hc;simp only[VR] at this;exact⟨f a,by simp[execOp,F,this,asBool],C a (by simp[Op.operands]) v h⟩
  ·rename_i hc;have:=C c (by simp[Op.operands]) _ hc;simp only[VR] at this;exact⟨f b,by simp[execOp,F,this,asBool],C b (by simp[Op.operands]) v h⟩
  cases h
 | build t parts=>
  rw[F] at h C;obtain⟨x,h1,R⟩:=Cj (S:=S) (w:=w) (f:=f) (fun p hp u hu=>C p.2 (by simp only[Op.operands,List.mem_toArray,List.mem_map];grind) u hu) h
  grind [execOp,sB_,rA,sP_]
 | nilCheck x=>
  rw[F] at h C;simp only[di] at h;split at h
  ·cases h
  ·cases h
  ·cases h
  ·cases h
  ·cases h
  ·cases h
  rename_i n1 n2 n3 n4 n5 n6;have hv:=C x (by simp[Op.operands]) v h;exact⟨f x,xT hv ⟨fun e=>n1 (by rw[h,e]),fun e=>n2 (by rw[h,e]),fun e=>n3 (by rw[h,e]),(fun l e=>n4 l (by rw[h,e])),(fun e=>n5 (by rw[h,e])),fun k e=>n6 k (by rw[h,e])⟩ f o x F Z,hv⟩
 | binOp op t x y ty=>
  rw[F] at h C;simp only[di] at h;split at h
  ·rename_i a b ha hb;obtain⟨z,h1,R,h3⟩:=Eo (P:=P) (w:=w) (C x (by simp[Op.operands]) a ha) (C y (by simp[Op.operands]) b hb) x y h
   grind [execOp,sB_,rA,sP_]
  cases h
 | unOp op t x=>
  rw[F] at h C;simp only[di] at h;split at h
  ·rename_i b hb;cases h;have:=C x (by simp[Op.operands]) _ hb;simp only[VR] at this;exact⟨.bool (!b),by simp[execOp,F,this,Op.unary],by simp only[VR];rw[cond_not]⟩
  ·rename_i k n hb;cases h;have:=C x (by simp[Op.operands]) _ hb;simp only[VR] at this;refine⟨.int k<|k.wrap (0-n),?_,by simp only[VR];rw[Aw];rfl⟩
   grind [execOp,Op.unary,Op.intArith,sP_]
  ·rename_i k n hb;cases h;have:=C x (by simp[Op.operands]) _ hb;simp only[VR] at this;refine⟨.int k<|k.wrap (BitVec.ofInt k.bits (if k.signed then-1 else k.max) ^^^ BitVec.ofInt k.bits n).toNat,?_,by simp only[VR]⟩
   grind [execOp,Op.unary,Op.intBits,sP_]
  cases h
 | convert src dst x=>
  rw[F] at h C;simp only[di] at h;split at h
  ·rename_i L M W k1 k k2 n e1 K e3;cases h;have:=C x (by simp[Op.operands]) _ e3;simp only[VR] at this;refine⟨.int k<|k.wrap n,?_,by simp only[VR];rw[Aw]⟩;simp[execOp,F,this,convert,run_underlying e1,run_underlying K,Conv.intToInt]
  ·rename_i L M W s e1 K e3;cases h;have hv:=C x (by simp[Op.operands]) _ e3;have hv':=hv;simp only[VR] at hv';obtain⟨bs,hf,X⟩:=hv';refine⟨f x,?_,hv⟩;rw[hf];simp[execOp,F,hf,convert,run_underlying e1,run_underlying K]
  cases h
 | makeInterface t x=>
  rw[F] at h C;simp only[di] at h;split at h
  ·cases h
  ·rename_i L M d u hn e1 K;cases h;have hv:=C x (by simp[Op.operands]) _ K;refine⟨.iface t<|f x,?_,by simp only[VR];simp_all⟩;simp only[execOp,F,Instr.makeInterface,sB_,run_underlying e1,rA]
   simp_all
  cases h
 | makeFunc fn first captured=>
  rw[F] at h C;simp only[di] at h;split at h
  ·rename_i L M W g a b e1 K;cases h;have ha:=iy (f:=f) e1 (fun x hx u hu=>C x (by grind [Op.operands]) u hu);have hb:=iy (f:=f) K (fun x hx u hu=>C x (by grind [Op.operands]) u hu);refine⟨.func (.func g) (first.map f)<|captured.map f,?_,by simp only[VR];exact⟨_,_,Z,by simpa using ha,by simpa using hb⟩⟩;simp[execOp,F,Instr.makeFunc]
  cases h
 | slice t x lo hi mx=>
  rw[F] at h C;obtain⟨z,h1,R⟩:=Dv (P:=P) (w:=w) (f:=f) h (C x (by simp[Op.operands])) (fun y hy=>C y (by subst hy;simp[Op.operands])) (fun y hy=>C y (by subst hy;simp[Op.operands])) (fun y hy=>C y (by subst hy;simp[Op.operands]))
  grind [execOp,sB_,rA,sP_]
 | fieldAddr s x i=>
  rw[F] at h C;simp only[di] at h;split at h
  ·rename_i fs b off X hx;have hv:=C x (by simp[Op.operands]) _ hx;simp only[VR] at hv;obtain⟨l,hl,hf⟩:=hv;split at h
   ·rename_i fd aa;split at h
    ·rename_i j hj;simp only[bL] at h;split at h
     ·cases h
     rename_i ac;cases h;have hz:¬j.size=0:=fun e=>ac (by simp_all)
     refine⟨.pointer<|some ⟨l.dJ,l.sh+(off+fd.offset),none⟩,?_,by simp only[VR];simp_all⟩;simp[execOp,F,Instr.fieldAt,run_underlying<|oe X,aa,hf,Instr.sureAddr,fieldPlace,cD hj,hz,Addr.add_eq,Nat.add_assoc]
    cases h
   cases h
  cases h
 | field t x i=>
  rw[F] at h C;simp only[di] at h;split at h
  ·rename_i fs cs X hx;have hv:=C x (by simp[Op.operands]) _ hx;simp only[VR] at hv;obtain⟨ys,hf,hc⟩:=hv;split at h
   ·rename_i fd aa;obtain⟨y,h1,R⟩:=x7 (P:=P) (w:=w) h hc;refine⟨y,?_,R⟩;simp[execOp,F,Instr.field,run_underlying<|oe X,aa,hf,asAgg,h1]
   cases h
  cases h
 | indexAddr t x i=>
  rw[F] at h C;simp only[di] at h;split at h
  ·rename_i L M W e b off len cap k n hu hx hi;have hv:=C x (by simp[Op.operands]) _ hx;have hn:=C i (by simp[Op.operands]) _ hi;simp only[VR] at hn;split at h
   ·rename_i j hj;simp only[bL] at h;split at h
    ·rename_i G;cases h;rw[nE_] at G;have G:n<len:=G;have Q:(0:Int)<=Int.ofNat n/\Int.ofNat n<(len:Int):=⟨Int.natCast_nonneg _,Int.ofNat_lt.2 G⟩
     have go:∀(a:Addr) (c:Nat),f x= .slice (some a) len c->(execOp f o).run P w= .ok (.value (.pointer<|some<|a.add (n*j.size))) w:=by
      intro a c hf;simp only[execOp,F,Instr.indexAt,hn,hf,asIntOf,sB_,sP_,run_underlying hu,rA];rw[if_pos Q];simp[cD hj]
     cases cap with
     | known c=>
      simp only[VR] at hv;obtain⟨l,hl,hf⟩:=hv;refine⟨_,go _ _ hf,?_⟩;simp only[VR];exact⟨l,hl,by rw[Addr.add_eq _ _ Z,Nat.add_assoc]⟩
     | least a sz=>
      simp only[VR] at hv;obtain⟨l,hl,c,hf,_⟩:=hv;refine⟨_,go _ _ hf,?_⟩;simp only[VR];exact⟨l,hl,by rw[Addr.add_eq _ _ Z,Nat.add_assoc]⟩
     | upto sz=>
      simp only[VR] at hv;obtain⟨l,hl,⟨c,hf,_⟩ | ⟨h0,_⟩⟩:=hv
      ·refine⟨_,go _ _ hf,?_⟩;simp only[VR];exact⟨l,hl,by rw[Addr.add_eq _ _ Z,Nat.add_assoc]⟩
      omega
    cases h
   cases h
  ·rename_i L M W m e b off k n hu hx hi;have hv:=C x (by simp[Op.operands]) _ hx;have hn:=C i (by simp[Op.operands]) _ hi;simp only[VR] at hn hv;obtain⟨l,hl,hf⟩:=hv;split at h
   ·rename_i j hj;simp only[bL] at h;split at h
    ·rename_i G;cases h;rw[nE_] at G;have G:n<m:=G;have Q:(0:Int)<=Int.ofNat n/\Int.ofNat n<(m:Int):=⟨Int.natCast_nonneg _,Int.ofNat_lt.2 G⟩;refine⟨.pointer<|some ⟨l.dJ,l.sh+(off+n*j.size),none⟩,?_,by simp only[VR];simp_all⟩;simp only[execOp,F,Instr.indexAt,hn,hf,asIntOf,sB_,sP_,run_underlying hu,rA,Instr.sureAddr];rw[if_pos Q];simp[cD hj,Addr.add_eq,Nat.add_assoc]
    cases h
   cases h
  cases h
 | index t x i=>
  rw[F] at h C;simp only[di] at h;split at h
  ·rename_i L M W m e cs k n hu hx hi;have hv:=C x (by simp[Op.operands]) _ hx;have hn:=C i (by simp[Op.operands]) _ hi;simp only[VR] at hn hv;obtain⟨ys,hf,hc⟩:=hv;simp only[bL] at h;split at h
   ·rename_i G;rw[nE_] at G;have G:n<m:=G;have Q:(0:Int)<=Int.ofNat n/\Int.ofNat n<(m:Int):=⟨Int.natCast_nonneg _,Int.ofNat_lt.2 G⟩;split at h
    ·rename_i j hj;obtain⟨y,h1,R⟩:=x7 (P:=P) (w:=w) h hc;refine⟨y,?_,R⟩;simp only[execOp,F,Instr.index,hn,hf,asIntOf,sB_,sP_,run_underlying hu,rA];rw[if_pos Q];simp[cD hj,h1]
    cases h
   cases h
  ·rename_i L M W s k n hu hx hi;have hv:=C x (by simp[Op.operands]) _ hx;have hn:=C i (by simp[Op.operands]) _ hi;simp only[VR] at hn hv;obtain⟨bs,hf,X⟩:=hv;split at h
   ·rename_i c hc;cases h;rw[eL] at hc;unfold ik at X;rw[<-X,gM_] at hc;cases hb:bs.data.toList[n]? with
    | none=>simp_all
    | some bt=>
     rw[hb] at hc;cases hc;have ae:bs[n]?=some bt:=by rw[<-hb,aT_];rfl
     refine⟨.int .u8 (bt.toNat:Int),?_,by simp only[VR];rfl⟩;have h0:(0:Int)<=Int.ofNat n:=Int.natCast_nonneg _;simp only[execOp,F,Instr.index,hn,hf,asIntOf,sB_,sP_,run_underlying hu,rA]
     simp_all
   cases h
  cases h
 | typeAssert x xt ty ok=>
  rw[F] at h C;simp only[di] at h
  have zero:∀{v:V},((fJ P ty).map fun z=>V.tuple [z,.bool false])=some v->∃z,(zeroValue ty).run P w= .ok z w/\VR S v (.tuple #[z,.bool false]):=fun {v} hz=>by
   cases hq:fJ P ty with
   | none=>simp_all
   | some z=>
    rw[hq] at hz;cases hz;obtain⟨i,y,hi,hy,hv⟩:=re hq;refine⟨y,by simp[zeroValue,typeInfo,hi,hy],?_⟩;simp only[VR];exact⟨_,Z,dt.cons (hv S)<|dt.cons (by simp only[VR]) dt.nil⟩
  split at h
  ·cases h
  ·rename_i L M d u v' hn e1 K;have hv:=C x (by simp[Op.operands]) _ K;simp only[VR] at hv;obtain⟨y,hf,hv⟩:=hv;rw[bL] at h;split at h
   ·rename_i hu;have:=nB hu;subst this;cases ok with
    | true=>
     simp only[cond_true] at h;cases h;refine⟨.tuple #[y,.bool true],?_,by simp only[VR];exact⟨_,Z,dt.cons hv<|dt.cons (by simp only[VR]) dt.nil⟩⟩;simp only[execOp,F,Instr.typeAssert,hf,sB_,run_underlying e1,rA]
     simp_all
    | false=>
     simp only[cond_false] at h;cases h;refine⟨y,?_,hv⟩;simp only[execOp,F,Instr.typeAssert,hf,sB_,run_underlying e1,rA]
     simp_all
   rename_i hu;have ac:¬u=ty:=fun e=>hu (by simp_all)
   cases ok with
   | true=>
    obtain⟨z,hz,ab⟩:=zero h;refine⟨_,?_,ab⟩;simp only[execOp,F,Instr.typeAssert,hf,sB_,run_underlying e1,rA]
    simp_all
   | false=>cases h
  ·rename_i L M d hn e1 K;have hv:=C x (by simp[Op.operands]) _ K;simp only[VR] at hv;cases ok with
   | true=>
    obtain⟨z,hz,ab⟩:=zero h;refine⟨_,?_,ab⟩;simp only[execOp,F,Instr.typeAssert,hv,sB_,run_underlying e1,rA]
    simp_all
   | false=>cases h
  cases h
 | extract x i=>
  rw[F] at h C;simp only[di] at h;split at h
  ·rename_i vs hx;have hv:=C x (by simp[Op.operands]) _ hx;simp only[VR] at hv;obtain⟨ys,hf,hc⟩:=hv;rw[eL] at h;obtain⟨y,h1,R⟩:=hc.get h;have:ys[i]?=some y:=by simp_all
   exact⟨y,by simp[execOp,F,Instr.extract,hf,this],R⟩
  cases h
 | call c=>
  rw[F] at h C;simp only[di] at h;split at h
  ·rename_i E;split at h
   ·rename_i L M t x e1 K;split at h
    ·rename_i u hu;cases hl:xL P t u with
     | none=>rw[hl] at h;cases h
     | some n=>
      rw[hl] at h;cases h;have A:c.args= #[x]:=by grind
      have hv:=C x (by simp[Op.operands,Call.operands,E,A]) u hu;refine⟨.int .i64<|Int.ofNat n,?_,by simp only[VR]⟩;have:=HZ (P:=P) (w:=w) (ty:=o.type) hl hv e1;simp[execOp,F,resolve,E,A,invoke,builtin,this]
    cases h
   cases h
  ·rename_i E;split at h
   ·rename_i L M t x e1 K;split at h
    ·rename_i W u4 e u hu hx;have A:c.args= #[x]:=by grind
     have hv:=C x (by simp[Op.operands,Call.operands,E,A]) u hx;unfold NM at h;split at h
     ·rename_i b off len k;cases h;simp only[VR] at hv;obtain⟨l,hl,hf⟩:=hv;refine⟨.int .i64<|Int.ofNat k,?_,by simp only[VR]⟩;simp[execOp,F,resolve,E,A,invoke,builtin,Builtin.cap_,e1,run_underlying hu,hf,goInt]
     ·rename_i b off len a sz;cases h;simp only[VR] at hv;obtain⟨l,hl,k,hf,hk,_⟩:=hv;refine⟨.int .i64<|Int.ofNat k,?_,by simp only[VR];grind⟩;simp[execOp,F,resolve,E,A,invoke,builtin,Builtin.cap_,e1,run_underlying hu,hf,goInt]
     ·cases h;simp only[VR] at hv;refine⟨.int .i64 0,?_,by simp only[VR]⟩;simp[execOp,F,resolve,E,A,invoke,builtin,Builtin.cap_,e1,run_underlying hu,hv,goInt]
     cases h
    cases h
   cases h
  ·rename_i E;split at h
   ·rename_i L x y K;split at h
    ·rename_i a b ha hb;have A:c.args= #[x,y]:=by grind
     have hva:=C x (by simp[Op.operands,Call.operands,E,A]) a ha;have hvb:=C y (by simp[Op.operands,Call.operands,E,A]) b hb;unfold Pk at h;split at h
     ·rename_i k n k' m;simp only[VR] at hva hvb;simp only[bL] at h;split at h
      ·cases h;refine⟨.int k (if m<n then m else n),?_,by simp only[VR,fo,decide_eq_true_eq]⟩;simp[execOp,F,resolve,E,A,invoke,builtin,hva,hvb,run_min_int2]
      cases h
     cases h
    cases h
   cases h
  ·rename_i E;split at h
   ·rename_i L x y K;split at h
    ·rename_i a b ha hb;have A:c.args= #[x,y]:=by grind
     have hva:=C x (by simp[Op.operands,Call.operands,E,A]) a ha;have hvb:=C y (by simp[Op.operands,Call.operands,E,A]) b hb;unfold Oh at h;split at h
     ·rename_i k n k' m;simp only[VR] at hva hvb;simp only[bL] at h;split at h
      ·cases h;refine⟨.int k (if m>n then m else n),?_,by simp only[VR,fo,decide_eq_true_eq]⟩;simp[execOp,F,resolve,E,A,invoke,builtin,hva,hvb,run_max_int2]
      cases h
     cases h
    cases h
   cases h
  cases h
 | _=>rw[F] at h;simp[di] at h
end
inductive HR where
 | val (v:V) (U:I)
 | skip (U:I)
 | enter (f:Nat) (args:List V) (U:I)
 | round (l:Pos) (args:List V) (U:I)
 | m9 (v:V) (U:I)
 | err (n:Nat)
def yG (P:Program) (U:I) (t:TypeId) (x v:V):Option I:=
 match x,cW v with
 | .ptr b off,some cs=>
  match U.m.get b,P.info? t with
  | some (.row cells e false),some j=>
   bif Nat.beq (cY cs) j.size && Nat.ble (off+j.size) (cY cells) && cF cs then some (U.setObj b (.row (dI cs cells off) e false)) else none
  | some (.own cells e),some j=>
   bif Nat.beq (cY cs) j.size && Nat.ble (off+j.size) (cY cells) && cF cs then some (U.setObj b (.own (dI cs cells off) e)) else none
  | _,_=>none
 | _,_=>none
def lq (U:I) (sz:Nat):V->Option (Nat×List V)
 | .au=>some (0,[])
 | .slice b off len _=>match U.m.get b with
  | some (.row cells _ _)=>bif Nat.ble (off+len*sz) (cY cells) then some (len,takeN (dP cells off) (len*sz)) else none
  | _=>none
 | .str s=>bif Nat.beq sz 1 then some (cY s,zc (fun c=>.int .u8 (Int.ofNat c)) s) else none
 | _=>none
def dp (P:Program) (t:Option TypeId):Bool:=
 match t with
 | some t=>match P.underlying t with
  | some (.slice _) | some .string=>true
  | _=>false
 | none=>true
def grow (U:I) (e:Nat) (cs:List V) (len sz:Nat):HR:=
 .val (.slice U.next 0 len (.upto sz)) (U.alloc (.row cs e false))
def gh (P:Program) (U:I) (ts:Array TypeId) (s x:V):HR:=
 match ts[0]? with
 | some t=>match P.underlying t with
  | some (.slice e)=>match P.info? e with
   | some j=>
    bif dp P ts[1]? && Nat.ble 1 j.size && Nat.ble j.bytes 65536 then
     match lq U j.size x with
     | some (n,news)=>
      bif cF news && Nat.ble n 1048576 && (P.info? e).any (fun j=>(j.zero.bind qF).any fun z=>(cW z).any fun cs=>Nat.beq (cY cs) j.size) then
       match s with
       | .au=>bif Nat.beq n 0 then .val .au U else grow U e news n j.size
       | .slice b off len (.known c)=>
        bif Nat.ble (len+n) c then
         match U.m.get b with
         | some (.row cells e' false)=>
          bif Nat.ble (off+len*j.size+cY news) (cY cells) then .val (.slice b off (len+n) (.known c)) (U.setObj b (.row (dI news cells (off+len*j.size)) e' false)) else .err 21
         | _=>bif Nat.beq n 0 then .val (.slice b off len (.known c)) U else .err 22
        else match U.m.get b with
         | some (.row cells _ _)=>
          bif Nat.ble (off+len*j.size) (cY cells) && Nat.ble len 1048576 then grow U e (im (takeN (dP cells off) (len*j.size)) news) (len+n) j.size else .err 23
         | _=>.err 24
       | .slice b off len (.upto sz)=>
        bif Nat.beq n 0 then .val (.slice b off len (.upto sz)) U else
        bif Nat.beq sz j.size && Nat.ble len 1048576 then
         match U.m.get b with
         | some (.row cells e' false)=>
          bif Nat.ble 1 len && Nat.ble (off+len*j.size+cY news) (cY cells) then
           .val (.slice b off (len+n) (.upto sz)) (U.setObj b (.row (dI news cells (off+len*j.size)) e' false))
          else bif Nat.ble (off+len*j.size) (cY cells) && Nat.beq e' e then grow (U.drop b) e (im (takeN (dP cells off) (len*j.size)) news) (len+n) j.size else .err 25
         | _=>.err 26
        else .err 27
       | _=>.err 28
      else .err 29
     | none=>.err 30
    else .err 31
   | none=>.err 32
  | _=>.err 33
 | none=>.err 34
def pc (P:Program) (U:I) (ts:Array TypeId) (s x:V):HR:=
 match ts[0]?,ts[1]? with
 | some t,some t2=>match P.underlying t,P.underlying t2 with
  | some (.slice e),some (.int _)=>match P.info? e,(fJ P e).bind cW,x with
   | some j,some zs,.int .i64 (.ofNat n)=>
    bif Nat.ble n 1048576 && (Nat.ble 1 n && (Nat.ble 1 j.size && (Nat.ble j.bytes 65536 && Nat.beq (cY zs) j.size))) then
     match s with
     | .au=>grow U e (fq zs n) n j.size
     | .slice b off len (.known c)=>
      bif Nat.ble (len+n) c then .err 37 else match U.m.get b with
       | some (.row cells _ _)=>bif Nat.ble (off+len*j.size) (cY cells) && Nat.ble len 1048576 then grow U e (im (takeN (dP cells off) (len*j.size))<|fq zs n) (len+n) j.size else .err 23
       | _=>.err 24
     | _=>.err 38
    else .err 39
   | _,_,_=>.err 46
  | _,_=>.err 47
 | _,_=>.err 48
def sb (P:Program) (U:I) (ts:Array TypeId) (d x:V):HR:=
 match ts[0]? with
 | some t=>match P.underlying t with
  | some (.slice e)=>match P.info? e with
   | some j=>match lq U j.size x,d with
    | some (n,news),.slice b off len _=>
     bif Nat.beq (Nat.min n len) 0 then .val (.int .i64 0) U else
     match U.m.get b with
     | some (.row cells e' false)=>
      bif cF (takeN news (Nat.min n len*j.size)) && Nat.ble 1 j.size && Nat.ble (off+cY (takeN news (Nat.min n len*j.size))) (cY cells) then
       .val (.int .i64<|Int.ofNat<|Nat.min n len) (U.setObj b (.row (dI (takeN news (Nat.min n len*j.size)) cells off) e' false)) else .err 40
     | _=>.err 41
    | some (_,_),.au=>.val (.int .i64 0) U
    | _,_=>.err 42
   | none=>.err 43
  | _=>.err 44
 | none=>.err 45
def AJ (P:Program) (U:I) (ts:Array TypeId) (x:V):Option I:=
 match ts[0]? with
 | some t=>match P.underlying t with
  | some (.slice e)=>match x with
   | .au=>some U
   | .slice b off len _=>bif Nat.beq len 0 then some U else
    match(fJ P e).bind cW,U.m.get b with
    | some zs,some (.row cells e' false)=>bif cF (fq zs len) && Nat.ble 1 (cY zs) && Nat.ble (off+cY (fq zs len)) (cY cells) then some (U.setObj b (.row (dI (fq zs len) cells off) e' false)) else none
    | _,_=>none
   | _=>none
  | _=>none
 | none=>none
def By (e:fN) (es:List fN) (i:Nat):List fN:=Fx e es i
def wX (es:List fN):Nat->List fN:=
 List.rec (motive:=fun _=>Nat->List fN) (fun _=>[]) (fun x l ih n=>Nat.rec (motive:=fun _=>List fN) l (fun m _=>x::ih m) n) es
def qi (xs ys:List V):Bool:=
 List.rec (motive:=fun _=>List V->Bool) (fun ys=>List.rec (motive:=fun _=>Bool) true (fun _ _ _=>false) ys)
  (fun x _ ih ys=>List.rec (motive:=fun _=>Bool) false (fun y r _=>match sL x y with | some true=>ih r | _=>false) ys) xs ys
def sameKey (x y:V):Bool:=
 match x,y with
 | .agg xs,.agg ys=>qi xs ys
 | x,y=>match sL x y with | some b=>b | none=>false
def nL (P:Program) (U:I) (t:TypeId) (m k v:V):Option I:=
 match P.underlying t,m with
 | some (.map kt _),.map b=>match U.m.get b with
  | some (.map es clock)=>bif plainKey P kt && mX P kt k then
    match pW P kt k es 0 with
    | some (some (i,_))=>match nth es i with
     | some e=>bif sameKey e.key k then some (U.setObj b (.map (By {key:=k,val:=v,born:=e.born} es i) clock)) else none
     | none=>none
    | some none=>some (U.setObj b (.map (im es [{key:=k,val:=v,born:=clock}]) (clock+1)))
    | none=>none
   else none
  | _=>none
 | _,_=>none
def rk (P:Program) (U:I) (ts:Array TypeId) (m k:V):Option I:=
 match ts[0]? with
 | some t=>match P.underlying t,m with
  | some (.map kt _),.map b=>match U.m.get b with
   | some (.map es clock)=>bif plainKey P kt && mX P kt k then
     match pW P kt k es 0 with
     | some (some (i,_))=>some (U.setObj b (.map (wX es i) clock))
     | some none=>some (U.setObj b (.map es clock))
     | none=>none
    else none
   | _=>none
  | _,_=>none
 | none=>none
def AZ (P:Program) (f:Nat):Bool:=
 match P.funcs[f]? with
 | some fn=>fn.body.isSome && !(fn.name == "runtime.NumGoroutine")
 | none=>false
def lH:qf->Bool
 | .upto _=>false
 | _=>true
def kA (p q:Pos):Bool:=Nat.beq p q
def oH (U:I) (args:List V):Option V:=
 match args with
 | [.slice b off n cap,.slice b' off' n' cap']=>
  match U.m.get b,U.m.get b' with
  | some (.row _ _ false),some (.row cells' _ false)=>bif (bif kA b b' then false else true) && (lH cap && (lH cap' && Nat.ble 1 (cY cells'))) then some (.bool false) else none
  | _,_=>none
 | _=>none
def isNe (P:Program) (g:Nat):Bool:=
 match P.funcs[g]? with
 | some fn=>fn.name == "internal/abi.NoEscape"
 | none=>false
def zq (P:Program) (ov:Nat->Bool) (U:I) (f:V) (args:List V):HR:=
 match f with
 | .func g fi ca=>bif AZ P g then .enter g (im fi<|im args ca) U else bif ov g then(bif isNe P g then(match im fi (im args ca) with | [v]=>.val v U | _=>.err 53) else(match oH U (im fi<|im args ca) with | some v=>.val v U | none=>.err 52)) else .err 50
 | .yield l=>.round l args U
 | _=>.err 51
def PC (len:Nat) (c:qf):Bool:=
 match c with
 | .known c=>Nat.ble 1 c
 | .upto _=>Nat.ble 1 len
 | .least a _=>Nat.ble 1 a
def Ge (x:V):Option V:=
 match x with
 | .au=>some .nilPtr
 | .slice b off len c=>bif PC len c then some (.ptr b off) else none
 | _=>none
def Ha (P:Program) (U:I) (t:Option TypeId) (p n:V):Option (List Nat×I):=
 match n with
 | .int .i64 (.ofNat n)=>bif Nat.beq n 0 then(match t,p with
   | some _,.nilPtr=>some ([],U)
   | some _,.ptr _ _=>some ([],U)
   | _,_=>none) else
  match t,p with
  | some t,.ptr b off=>match P.underlying t,U.m.get b with
   | some (.pointer u),some (.row cells e false)=>bif Nat.beq e u && (Nat.beq (P.cellsOf u) 1 && (Nat.ble (off+n) (cY cells) && Nat.ble n 1152921504606846976)) then
     match cU zo (takeN (dP cells off) n) with
     | some s=>some (s,U.setObj b (.row cells e true))
     | none=>none
    else none
   | _,_=>none
  | _,_=>none
 | _=>none
def mM (P:Program) (U:I) (src dst:TypeId) (x:V):HR:=
 match P.underlying src,P.underlying dst,x with
 | some .string,some (.slice e),.str s=>match P.underlying e with
  | some (.int .u8)=>bif Nat.beq (P.cellsOf e) 1 then .val (.slice U.next 0 (cY s) (.upto 1)) (U.alloc (.row (zc (fun c=>.int .u8 (Int.ofNat c)) s) e true)) else .err 26
  | _=>.err 25
 | _,_,_=>.err 24
def gK (P:Program) (ov:Nat->Bool) (ev:Operand->Option V) (U:I):Op->HR
 | .store t x y=>match ev x,ev y with
  | some a,some v=>match yG P U t a v with
   | some U'=>.skip U'
   | none=>.err 10
  | _,_=>.err 11
 | .mapUpdate t m k x=>match ev m,ev k,ev x with
  | some a,some b,some v=>match nL P U t a b v with
   | some U'=>.skip U'
   | none=>.err 19
  | _,_,_=>.err 20
 | .insert t m k x=>match ev m,ev k,ev x with
  | some a,some b,some v=>match nL P U t a b v with
   | some U'=>.skip U'
   | none=>.err 19
  | _,_,_=>.err 20
 | .call c=>match c.callee with
  | .value f=>match ev f,uw ev c.args.toList with
   | some g,some args=>zq P ov U g args
   | _,_=>.err 12
  | .builtin .append=>match uw ev c.args.toList with
   | some [s,x]=>bif dp P c.argTypes[1]? then gh P U c.argTypes s x else pc P U c.argTypes s x
   | _=>.err 13
  | .builtin .delete=>match uw ev c.args.toList with
   | some [m,k]=>match rk P U c.argTypes m k with
    | some U'=>.val (.tuple []) U'
    | none=>.err 17
   | _=>.err 18
  | .builtin .copy=>match uw ev c.args.toList with
   | some [s,x]=>sb P U c.argTypes s x
   | _=>.err 14
  | .builtin .clear=>match uw ev c.args.toList with
   | some [x]=>match AJ P U c.argTypes x with
    | some U'=>.val (.tuple []) U'
    | none=>.err 21
   | _=>.err 22
  | .builtin .unsafeSliceData=>match uw ev c.args.toList with
   | some [x]=>match Ge x with
    | some v=>.val v U
    | none=>.err 27
   | _=>.err 28
  | .builtin .unsafeString=>match uw ev c.args.toList with
   | some [p,n]=>match Ha P U c.argTypes[0]? p n with
    | some (s,U')=>.val (.str s) U'
    | none=>.err 29
   | _=>.err 30
  | _=>.err 15
 | .convert src dst x=>match ev x with
  | some v=>mM P U src dst v
  | none=>.err 23
 | .panic x=>match ev x with
  | some (.iface t v)=>.m9 (.iface t v) U
  | _=>.err 32
 | _=>.err 16
section
variable {P:Program} {S:dg} {U:I} {w:World}
theorem I.oc (U:I) (b:Pos) (o o':cM):(U.setObj b o).setObj b o'=U.setObj b o':=by
 simp[I.setObj,PT.MK]
theorem I.mU (U:I) (b:Pos) (o:cM):(U.setObj b o).m.get b=some o:=PT.dz _ _ _
theorem oQ {b:Pos} {l:Loc} {e:Nat} (hl:S b=some l):∀(vs:List V) (xs:List Value) (cells:List V) (off i:Nat) (U:I) (w:World),Inv S U w->U.m.get b=some (.row cells e false)->dt S vs xs->cF vs=true->
  off+i+vs.length<=cells.length->∀σ₀:I,U=σ₀.setObj b (.row cells e false)->
  ∃w',(storeCells ⟨l.dJ,l.sh+off,none⟩ xs i).run P w= .ok () w'/\Inv S (σ₀.setObj b (.row (iF cells (off+i) vs) e false)) w'/\fj S U w S (σ₀.setObj b (.row (iF cells (off+i) vs) e false)) w'
 | [],xs,cells,off,i,U,w,hi,hb,hv,_,_,σ₀,hσ=>by
  rw[hv.fb];subst hσ;exact⟨w,by simp[storeCells],hi,fj.refl _ _ _⟩
 | v::vs,xs,cells,off,i,U,w,hi,hb,hv,u,hlen,σ₀,hσ=>by
  obtain⟨x,r,rfl,h1,L⟩:=hv.cons_inv;have ac:jb v=true:=sx u v (by simp)
  have C:cF vs=true:=by
   grind [cF]
  simp only[List.length_cons] at hlen;obtain⟨E,st⟩:=hi.setCell hb hl (i:=off+i) B h1;have z:(U.setObj b (.row (cells.set (off+i) v) e false)).m.get b=some (.row (cells.set (off+i) v) e false):=I.mU _ _ _;obtain⟨w',r',inv',st'⟩:=oQ hl vs r (cells.set (off+i) v) off (i+1) _ _ E z L C (by simp;omega) σ₀ (by rw[hσ,I.oc]);obtain⟨c,fr,A,ae,am,F,G⟩:=hi.row hb hl;refine⟨w',?_,?_,?_⟩
  ·have K:off+i<cells.length:=by omega
   obtain⟨y,hy,_⟩:=F (off+i) cells[off+i] (gC K);have aa:w.cell? ⟨l.dJ,l.sh+off+i,none⟩=some y:=by rw[cell?_of_heap A,Nat.add_assoc];exact hy
   have ao:w.frozen? ⟨l.dJ,l.sh+off+i,none⟩=false:=frozen?_of_heap A _ (G Z _ B);have ab:(⟨l.dJ,l.sh+off,none⟩:Addr).add i=⟨l.dJ,l.sh+off+i,none⟩:=Addr.add_eq _ i Z
   grind [run_store,pC,storeCells,sB_,rA]
  ·simpa [iF,Nat.add_assoc] using inv'
  have:=st.trans st';simpa [iF,Nat.add_assoc] using this
theorem iY (hi:Inv S U w) {b:Pos} {l:Loc} {e:Nat} {cells vs:List V} {xs:List Value} {off:Nat} (hl:S b=some l) (hb:U.m.get b=some (.row cells e false)) (hv:dt S vs xs) (u:cF vs=true)
  (hlen:off+vs.length<=cells.length):
  ∃w',(storeCells ⟨l.dJ,l.sh+off,none⟩ xs).run P w= .ok () w'/\Inv S (U.setObj b (.row (dI vs cells off) e false)) w'/\fj S U w S (U.setObj b (.row (dI vs cells off) e false)) w':=by
 have z:Inv S (U.setObj b (.row cells e false)) w/\fj S U w S (U.setObj b (.row cells e false)) w:=by
  obtain⟨c,fr,h1,A,C,h4,h5⟩:=hi.row hb hl;exact hi.change hb hl Z Z h1 ⟨c,fr,Z,A,C,h4,h5⟩ (fun _ _=>Z) Z Z Z Z
 obtain⟨w',r,inv,st⟩:=oQ (P:=P) hl vs xs cells off 0 _ w z.1 (I.mU _ _ _) hv u B U Z;rw[Nat.add_zero,<-lr vs cells off hlen] at inv st;exact⟨w',r,inv,z.2.trans st⟩
theorem DF (hi:Inv S U w) {t:TypeId} {x v:V} {y z:Value} {U':I} (h:yG P U t x v=some U') (hx:VR S x y) (hv:VR S v z):
  ∃w',(Instr.storeAt t y z).run P w= .ok () w'/\Inv S U' w'/\fj S U w S U' w':=by
 unfold yG at h;split at h
 ·rename_i u1 u2 b off cs u;split at h
  ·rename_i M Q cells e j hb hj;simp only[bL] at h;split at h
   ·rename_i hc;cases h;simp only[bA_,Nat.beq_eq,nE_,bP] at hc;obtain⟨⟨F,G⟩,C⟩:=hc;simp only[VR] at hx;obtain⟨l,hl,rfl⟩:=hx;obtain⟨w',r,inv,st⟩:=iY (P:=P) hi hl hb (iV u hv) C (off:=off) B;refine⟨w',?_,inv,st⟩;have hsz:=nv u hv;simp only[Instr.storeAt,Instr.sureAddr,storeVar,sB_,sP_,rA,cD hj]
    simp_all
   cases h
  ·rename_i M Q cells e j hb hj;simp only[bL] at h;split at h
   ·rename_i hc;cases h;simp only[bA_,Nat.beq_eq,nE_,bP] at hc;obtain⟨⟨F,G⟩,C⟩:=hc;simp only[VR] at hx;obtain⟨l,hl,rfl⟩:=hx;obtain⟨h0,K,L⟩:=hi.own hb hl;obtain⟨w',r,inv,st⟩:=iY (P:=P) K hl (I.mU _ _ _) (iV u hv) C (off:=off) B;rw[I.oc] at inv st;have hlen:(dI cs cells off).length=cells.length:=by rw[lr _ _ _ B,sq]
    obtain⟨A,E⟩:=inv.Kr (I.mU _ _ _) hl Z (fun x hx=>iN.GS ⟨h0.1,by rw[hlen];exact h0.2⟩ hx);rw[I.oc] at A E;refine⟨w',?_,A,(L.trans st).trans E⟩;have hsz:=nv u hv;simp only[Instr.storeAt,Instr.sureAddr,storeVar,sB_,sP_,rA,cD hj]
    simp_all
   cases h
  cases h
 cases h
theorem pQ (hi:Inv S U w) {sz n:Nat} {x:V} {y:Value} {cs:List V} (h:lq U sz x=some (n,cs)) (hx:VR S x y):
  (Builtin.lenOf y).run P w= .ok n w/\cs.length=n*sz/\
   ∀k,k<=n->∃xs:List Value,dt S (cs.take (k*sz)) xs/\∀w',w'.heap=w.heap->(Builtin.firstCells sz k y).run P w'= .ok xs.toArray w':=by
 unfold lq at h;split at h
 ·cases h;simp only[VR] at hx;subst hx;refine⟨by simp[Builtin.lenOf],by simp,fun k hk=>⟨[],by simpa using dt.nil,fun w' _=>by simp[Builtin.firstCells]⟩⟩
 ·rename_i b off len cap;split at h
  ·rename_i cells e ro hb;simp only[bL] at h;split at h
   ·rename_i hle;cases h;rw[nE_,bP] at hle
    have full:∀(a:Addr) (c:Nat) (l:Loc),S b=some l->y= .slice (some a) n c->(a=⟨l.dJ,l.sh+off,none⟩∨n=0)->
      (Builtin.lenOf y).run P w= .ok n w/\(takeN (dP cells off) (n*sz)).length=n*sz/\
       ∀k,k<=n->∃xs:List Value,dt S ((takeN (dP cells off) (n*sz)).take (k*sz)) xs/\∀w',w'.heap=w.heap->(Builtin.firstCells sz k y).run P w'= .ok xs.toArray w':=by
     intro a c l hl hy E;subst hy;refine⟨by simp[Builtin.lenOf],by rw[dn,dM,lT_,lD_];omega,fun k hk=>?_⟩;have A:k*sz<=n*sz:=nM_ _ hk;rw[dn,dM,List.take_take,Nat.min_eq_left A];rcases E with rfl | rfl
     ·obtain⟨ys,h1,h2,h3⟩:=hi.piece hb hl off (k*sz) B
      grind [run_firstCells_some,World.cell?]
     have C:k=0:=by omega
     subst C;refine⟨[],by simpa using dt.nil,fun w' aa=>?_⟩
     grind [run_firstCells_some]
    cases cap with
    | known c=>
     simp only[VR] at hx
     grind
    | least a s=>
     simp only[VR] at hx
     grind
    | upto s=>
     simp only[VR] at hx
     grind
   cases h
  cases h
 ·rename_i s;simp only[bL] at h;split at h
  ·rename_i u;rw[Nat.beq_eq] at u;subst u;cases h;simp only[VR] at hx;obtain⟨bs,rfl,z⟩:=hx;rw[jW z,mq];unfold ik at z;refine⟨by simp[Builtin.lenOf],by rw[<-z];simp,fun k hk=>?_⟩;refine⟨(bs.data.toList.take k).map fun b=>Value.int .u8 b.toNat,?_,fun w' _=>?_⟩
   ·rw[<-z,List.map_map,<-List.map_take,Nat.mul_one];generalize (bs.data.toList.take k)=l;induction l with
    | nil=>exact dt.nil
    | cons c l ih=>exact dt.cons (by simp only[VR];rfl) ih
   simp only[Builtin.firstCells,sP_];congr 1;apply Array.toList_inj.1
   simp_all
  cases h
 cases h
end
section
variable {P:Program} {S:dg} {U:I} {w:World}
theorem H0 {α:Type} (l:List α) (k:Nat) (v:α) (vs:List α) (hk:k<l.length):
  (l.set k v).take (k+1)++vs++(l.set k v).drop (k+1+vs.length)=l.take k++(v::vs)++l.drop (k+(vs.length+1)):=by
 grind [List.drop_set_of_lt,List.take_succ_eq_append_getElem,List.take_set_of_le]
theorem nh {g o e:Nat} {fr:Nat×Nat}:∀(vs:List Value) (cur:Array Value) (i:Nat) (w:World),w.heap[g]?=some (.cells cur e fr)->o+i+vs.length<=cur.size->(∀v∈vs,v.oneCell'=true)->
  (∀j,o<=j->¬(fr.1<=j/\j<fr.2))->
  ∃w',(storeCells ⟨g,o,none⟩ vs i).run P w= .ok () w'/\w'.heap[g]?=some (.cells (cur.toList.take (o+i)++vs++cur.toList.drop (o+i+vs.length)).toArray e fr)/\
   (∀r,r≠g->w'.heap[r]?=w.heap[r]?)/\w'.heap.size=w.heap.size/\w'.tape=w.tape/\w'.os=w.os/\w'.output=w.output
 | [],cur,i,w,A,_,_,_=>by
  refine⟨w,by simp[storeCells],?_,fun _ _=>Z,Z,Z,Z,Z⟩;simpa using A
 | v::vs,cur,i,w,A,hl,h1,hf=>by
  simp only[List.length_cons] at hl;have C:o+i<cur.size:=by omega
  have aa:(⟨g,o,none⟩:Addr).add i=⟨g,o+i,none⟩:=Addr.add_eq _ i Z;have z:w.cell? ⟨g,o+i,none⟩=some cur[o+i]:=by rw[cell?_of_heap A];simp[C]
  have E:w.frozen? ⟨g,o+i,none⟩=false:=frozen?_of_heap A _ (hf _ B)
  have aq:(store ⟨g,o+i,none⟩ v).run P w= .ok () (w.setCell ⟨g,o+i,none⟩ v):=by
   rw[run_store P w _ v _<|h1 v (by simp),z];simp[E]
  obtain⟨w',r,q1,q2,q3,q4,q5,G⟩:=nh vs (cur.setIfInBounds (o+i) v) (i+1) _ (heap_setCell_same A (o+i) v) (by simp;omega) (fun u hu=>h1 u (by simp[hu])) hf;refine⟨w',?_,?_,fun r F=>(q2 r F).trans (heap_setCell_other w _ v F),by rw[q3];simp,q4,q5,G⟩
  ·grind [storeCells,sB_,rA]
  grind [H0]
theorem run_append_fits {ts:Array TypeId} {t ty e:TypeId} {j:TypeInfo} (F:ts[0]?=some t) (hu:P.underlying t=some (.slice e)) (hj:P.info? e=some j) (E:dp P ts[1]?=true)
  {base:Option Addr} {sLen sCap n:Nat} {y:Value} {news:List Value} (hlen:(Builtin.lenOf y).run P w= .ok n w) (z:(Builtin.firstCells j.size n y).run P w= .ok news.toArray w) (A:sLen+n<=sCap):
  (Builtin.append_ ts ty #[.slice base sLen sCap,y]).run P w=
   (Sem.run P (match base with | some a=>storeCells (a.add (sLen*j.size)) news | none=>pure ():Sem Unit) w).andThen fun _ w'=>.ok (.slice base (sLen+n) sCap) w':=by
 unfold dp at E;cases h1:ts[1]? with
 | none=>
  cases base<;>simp[Builtin.append_,F,h1,run_underlying hu,cD hj,hlen,A,z]
 | some u=>
  rw[h1] at E;dsimp only at E;split at E
  ·rename_i e' C;cases base<;>simp[Builtin.append_,F,h1,run_underlying hu,run_underlying C,cD hj,hlen,A,z]
  ·rename_i C;cases base<;>simp[Builtin.append_,F,h1,run_underlying hu,run_underlying C,cD hj,hlen,A,z]
  cases E
theorem n9 {ts:Array TypeId} {t ty e:TypeId} {j:TypeInfo} (A:ts[0]?=some t) (hu:P.underlying t=some (.slice e)) (hj:P.info? e=some j) (C:dp P ts[1]?=true)
  {dJ o:Nat} {sLen sCap n:Nat} {y:Value} {news:List Value} (hlen:(Builtin.lenOf y).run P w= .ok n w) (u:(Builtin.firstCells j.size n y).run P w= .ok news.toArray w) (z:sLen+n<=sCap):
  (Builtin.append_ ts ty #[.slice (some ⟨dJ,o,none⟩) sLen sCap,y]).run P w=
   (Sem.run P (storeCells ⟨dJ,o+sLen*j.size,none⟩ news) w).andThen fun _ w'=>.ok (.slice (some ⟨dJ,o,none⟩) (sLen+n) sCap) w':=by
 rw[run_append_fits A hu hj C hlen u z];show(Sem.run P (storeCells ((⟨dJ,o,none⟩:Addr).add (sLen*j.size)) news) w).andThen _=_;rw[Addr.add_eq _ _ Z]
theorem lS {ts:Array TypeId} {t ty e:TypeId} {j:TypeInfo} {z:Value} (M:ts[0]?=some t) (hu:P.underlying t=some (.slice e)) (hj:P.info? e=some j) (hzero:j.zero=some z) (L:dp P ts[1]?=true)
  {base:Option Addr} {sLen sCap n:Nat} {y:Value} {olds news:List Value} (hlen:(Builtin.lenOf y).run P w= .ok n w) (A:(Builtin.firstCells j.size n y).run P w.drew= .ok news.toArray w.drew)
  (hold:(Builtin.firstCells j.size sLen (.slice base sLen sCap)).run P w.drew= .ok olds.toArray w.drew) (F:sCap<sLen+n) (Q:sLen+n<=4194304) (R:j.bytes<=65536) (aa:1<=j.size):
  ∃cap,sLen+n<=cap/\(Builtin.append_ ts ty #[.slice base sLen sCap,y]).run P w=
   .ok (.slice (some ⟨w.heap.size,0,none⟩) (sLen+n) cap) (w.drew.alloc (.cells (olds.toArray++news.toArray++Builtin.zeroCells z.cells (cap-(sLen+n))) e)):=by
 refine⟨grownCap w (sLen+n) sCap e,grownCap_ge _ _ _ _,?_⟩
 have ab:Builtin.nextslicecap (sLen+n) sCap*j.bytes<=281474976710656:=growslice_fits F (by
  have:(sLen+n)*j.bytes<=4194304*65536:=Nat.mul_le_mul Q R;omega)
 have W:¬(sLen+n<=sCap):=by omega
 have C:IntKind.i64.max=9223372036854775807:=by decide
 have h1:¬(9223372036854775807<((sLen:Int)+(n:Int))):=by omega
 have G:¬(281474976710656<Builtin.nextslicecap (sLen+n) sCap*j.bytes):=by omega
 rw[Array.append_assoc];unfold dp at L;cases E:ts[1]? with
 | none=>
  simp[Builtin.append_,M,E,run_underlying hu,cD hj,typeInfo,hj,hlen,W,C,h1,G,hold,A,zeroValue,hzero,newRow,Question.forced,grownCap]
 | some u=>
  rw[E] at L;dsimp only at L;split at L
  ·rename_i e' K;simp[Builtin.append_,M,E,run_underlying hu,run_underlying K,cD hj,typeInfo,hj,hlen,W,C,h1,G,hold,A,zeroValue,hzero,newRow,Question.forced,grownCap]
  ·rename_i K;simp[Builtin.append_,M,E,run_underlying hu,run_underlying K,cD hj,typeInfo,hj,hlen,W,C,h1,G,hold,A,zeroValue,hzero,newRow,Question.forced,grownCap]
  cases L
theorem mV (hi:Inv S U w) {cs:List V} {olds news:List Value} {e sz len cap:Nat} {z:Value} (hc:dt S cs (olds++news)) (hlen:cs.length=len*sz) (u:len<=cap) (A:z.cells.size=sz):
  Inv (S.with U.next ⟨w.heap.size,0,cap*sz⟩) (U.alloc (.row cs e false)) (w.drew.alloc (.cells (olds.toArray++news.toArray++Builtin.zeroCells z.cells (cap-len)) e))/\
  fj S U w (S.with U.next ⟨w.heap.size,0,cap*sz⟩) (U.alloc (.row cs e false)) (w.drew.alloc (.cells (olds.toArray++news.toArray++Builtin.zeroCells z.cells (cap-len)) e))/\
  VR (S.with U.next ⟨w.heap.size,0,cap*sz⟩) (.slice U.next 0 len (.upto sz)) (.slice (some ⟨w.heap.size,0,none⟩) len cap):=by
 have hlen2:=hc.length;rw[hlen] at hlen2;have hle:len*sz<=cap*sz:=nM_ _ u
 have C:iN S ⟨w.heap.size,0,cap*sz⟩ (.row cs e false) (.cells (olds.toArray++news.toArray++Builtin.zeroCells z.cells (cap-len)) e):=by
  refine⟨_,_,Z,?_,by rw[hlen];exact hle,fun i v hv=>?_,fun _ j _ hj=>by simp at hj⟩
  ·have h1:olds.length+news.length=len*sz:=by simpa using hlen2
   simp only[Array.size_append,List.size_toArray,size_zeroCells,A,Nat.sub_mul,nA_];omega
  obtain⟨y,h1,h2⟩:=hc.get hv
  grind
 obtain⟨inv,st⟩:=(hi.drew).alloc (l:=⟨w.heap.size,0,cap*sz⟩) Z C;refine⟨inv,(fj.drew S U w).trans st,?_⟩;simp only[VR];exact⟨_,dg.da _ _ _,.inl ⟨cap,Z,u,by simp⟩⟩
theorem AB (hi:Inv S U w) {ts:Array TypeId} {ty:TypeId} {s x v:V} {ys yx:Value} {U':I} (h:gh P U ts s x= .val v U') (hs:VR S s ys) (hx:VR S x yx):
  ∃z w' S',(Builtin.append_ ts ty #[ys,yx]).run P w= .ok z w'/\VR S' v z/\Inv S' U' w'/\fj S U w S' U' w':=by
 unfold gh at h;cases X:ts[0]? with
 | none=>rw[X] at h;cases h
 | some t=>
 rw[X] at h;dsimp only at h;split at h
 case h_2=>cases h
 rename_i e hu;cases hj:P.info? e with
 | none=>rw[hj] at h;cases h
 | some j=>
 rw[hj] at h;simp only[bL] at h;split at h
 case isFalse=>cases h
 rename_i hb;simp only[bA_,nE_] at hb;obtain⟨⟨hz,ab⟩,ar⟩:=hb;cases ap:lq U j.size x with
 | none=>simp_all
 | some p=>
 obtain⟨n,news⟩:=p;rw[ap] at h;dsimp only at h;split at h
 case isFalse=>cases h
 rename_i a4;simp only[bA_,nE_] at a4;obtain⟨⟨M,b7⟩,hzero⟩:=a4
 obtain⟨zv,aK,F⟩:∃zv,j.zero=some zv/\zv.cells.size=j.size:=by
  simp only[Option.any_some,Option.any_eq_true] at hzero;obtain⟨z,a5,cs,bc,a6⟩:=hzero;cases be:j.zero with
  | none=>simp_all
  | some zv=>
   rw[be] at a5;refine⟨zv,Z,?_⟩;rw[Nat.beq_eq,bP] at a6;rw[<-a6];exact nv bc<|qG (S:=S) a5
 obtain⟨C,Q,ac⟩:=pQ (P:=P) hi ap hx;obtain⟨xs,L,aa⟩:=ac n (nR_ _);rw[<-Q,List.take_length] at L;have a0:xs.length=n*j.size:=by rw[L.length,Q]
 have hrun0:=aa w Z;have hrund:=aa w.drew Z;split at h
 ·
  simp only[VR] at hs;subst hs;split at h
  ·rename_i G;rw[Nat.beq_eq] at G;cases h;subst G;refine⟨.slice none 0 0,w,S,?_,by simp only[VR],hi,fj.refl _ _ _⟩;have:=run_append_fits (w:=w) (ty:=ty) (base:=none) (sLen:=0) (sCap:=0) X hu hj hz C hrun0 (nR_ _);rw[this];rfl
  rename_i G;cases h
  have hn:0<n:=by
   grind [Nat.beq_eq]
  obtain⟨cap,K,hr⟩:=lS (w:=w) (ty:=ty) (base:=none) (sLen:=0) (sCap:=0) (olds:=[]) X hu hj aK hz C hrund (by simp[Builtin.firstCells]) B B ar ab;rw[nA_] at K hr;obtain⟨inv,st,hv⟩:=mV (e:=e) hi (olds:=[]) (news:=xs) (by simpa using L) Q K F
  grind
 ·
  rename_i b off len c;simp only[VR] at hs;obtain⟨l,hl,rfl⟩:=hs;split at h
  ·rename_i E;rw[nE_] at E;have hr:=n9 (w:=w) (ty:=ty) (dJ:=l.dJ) (o:=l.sh+off) X hu hj hz C hrun0 E;split at h
   ·rename_i cells e' hb;split at h
    ·rename_i A;rw[nE_,bP,bP] at A;cases h;obtain⟨w',r,inv,st⟩:=iY (P:=P) hi hl hb L M (off:=off+len*j.size) B;refine⟨.slice (some ⟨l.dJ,l.sh+off,none⟩) (len+n) c,w',S,?_,?_,inv,st⟩
     ·rw[hr,Nat.add_assoc,r];rfl
     simp only[VR];simp_all
    cases h
   split at h
   ·rename_i G;rw[Nat.beq_eq] at G;cases h;subst G;refine⟨.slice (some ⟨l.dJ,l.sh+off,none⟩) len c,w,S,?_,?_,hi,fj.refl _ _ _⟩
    ·have a1:xs= []:=eN_ B;rw[hr,a1];simp[storeCells]
    simp only[VR];simp_all
   cases h
  rename_i E;rw[nE_] at E;split at h
  ·rename_i cells e' ro hb;split at h
   ·rename_i A;simp only[bA_,nE_,bP] at A;obtain⟨A,ae⟩:=A;unfold grow at h;cases h;obtain⟨ys,h1,h2,h3⟩:=hi.piece hb hl off (len*j.size) A
    have hold:(Builtin.firstCells j.size len (.slice (some ⟨l.dJ,l.sh+off,none⟩) len c)).run P w.drew= .ok ys.toArray w.drew:=
     run_firstCells_some w.drew j.size len _ len c ys h1 (fun i v hv=>by simpa using h3 i v hv)
    obtain⟨cap,K,hr⟩:=lS (w:=w) (ty:=ty) X hu hj aK hz C hrund hold B B ar ab
    obtain⟨inv,st,hv⟩:=mV (e:=e) hi (olds:=ys) (news:=xs) (len:=len+n) (cs:=im (takeN (dP cells off) (len*j.size)) news)
     (by rw[dV,dn,dM];exact h2.append L) (by grind [dV,dn,dM]) K F
    grind
   cases h
  cases h
 ·
  rename_i b off len sz;split at h
  ·rename_i G;rw[Nat.beq_eq] at G;cases h;subst G;have a1:xs= []:=eN_ B;subst a1;have hs':=hs;simp only[VR] at hs';obtain⟨l,hl,⟨c,hy,hc,_⟩ | ⟨h0,a,hy⟩⟩:=hs'
   ·refine⟨ys,w,S,?_,hs,hi,fj.refl _ _ _⟩;rw[hy,run_append_fits (w:=w) (ty:=ty) X hu hj hz C hrun0 B];simp[storeCells]
   refine⟨ys,w,S,?_,hs,hi,fj.refl _ _ _⟩;subst h0;rw[hy,run_append_fits (w:=w) (ty:=ty) X hu hj hz C hrun0 B];simp[storeCells]
  rename_i G
  have hn:0<n:=by
   grind [Nat.beq_eq]
  split at h
  ·rename_i W;simp only[bA_,Nat.beq_eq,nE_] at W;obtain⟨W,ae⟩:=W;subst W;simp only[VR] at hs;split at h
   ·rename_i cells e' hb;split at h
    ·
     rename_i A;simp only[bA_,nE_,bP] at A;obtain⟨b8,A⟩:=A;cases h;obtain⟨l,hl,⟨c,rfl,hc,am⟩ | ⟨h0,_⟩⟩:=hs
     ·obtain⟨cc,fr,_,_,bi,_⟩:=hi.row hb hl
      have E:len+n<=c:=by
       have:(len+n)*j.size<=c*j.size:=by grind
       exact Nat.le_of_mul_le_mul_right this ab
      have hr:=n9 (w:=w) (ty:=ty) (dJ:=l.dJ) (o:=l.sh+off) X hu hj hz C hrun0 E;obtain⟨w',r,inv,st⟩:=iY (P:=P) hi hl hb L M (off:=off+len*j.size) B;refine⟨.slice (some ⟨l.dJ,l.sh+off,none⟩) (len+n) c,w',S,?_,?_,inv,st⟩
      ·rw[hr,Nat.add_assoc,r];rfl
      simp only[VR];simp_all
     omega
    split at h
    ·
     rename_i A;simp only[bA_,nE_,Nat.beq_eq,bP] at A;obtain⟨A,he⟩:=A;subst he;unfold grow at h;cases h;obtain⟨l,hl,a2⟩:=hs;obtain⟨olds,h1,h2,h3⟩:=hi.piece hb hl off (len*j.size) A;have a7:dt S (im (takeN (dP cells off) (len*j.size)) news) (olds++xs):=by rw[dV,dn,dM];exact h2.append L
     have bl:(im (takeN (dP cells off) (len*j.size)) news).length=(len+n)*j.size:=by
      grind [dV,dn,dM]
     have anew:∀(a:Addr) (c:Nat),ys= .slice (some a) len c->c<len+n->(a=⟨l.dJ,l.sh+off,none⟩∨len=0)->
       ∃z w' S',(Builtin.append_ ts ty #[ys,yx]).run P w= .ok z w'/\VR S' (.slice (U.drop b).next 0 (len+n) (.upto j.size)) z/\
        Inv S' ((U.drop b).alloc (.row (im (takeN (dP cells off) (len*j.size)) news) e' false)) w'/\fj S U w S' ((U.drop b).alloc (.row (im (takeN (dP cells off) (len*j.size)) news) e' false)) w':=by
      intro a c hy b9 ha;subst hy
      have hold:(Builtin.firstCells j.size len (.slice (some a) len c)).run P w.drew= .ok olds.toArray w.drew:=by
       rcases ha with rfl | rfl
       ·exact run_firstCells_some w.drew j.size len _ len c olds h1 (fun i v hv=>by simpa using h3 i v hv)
       have:olds= []:=eN_ (by rw[h1,Nat.zero_mul])
       grind [run_firstCells_some]
      obtain⟨cap,K,hr⟩:=lS (w:=w) (ty:=ty) X hu hj aK hz C hrund hold B B ar ab;obtain⟨bo,st'⟩:=hi.forget b;obtain⟨inv,st,hv⟩:=mV (e:=e') bo (olds:=olds) (news:=xs) (len:=len+n) a7 bl K F;exact⟨_,_,_,hr,hv,inv,st'.trans st⟩
     rcases a2 with ⟨c,hy,hc,am⟩ | ⟨h0,a,hy⟩
     ·by_cases E:len+n<=c
      ·
       subst hy;have hr:=n9 (w:=w) (ty:=ty) (dJ:=l.dJ) (o:=l.sh+off) X hu hj hz C hrun0 E;obtain⟨cc,fr,a8,bs,bi,ca,a9⟩:=hi.row hb hl;have hmul:(len+n)*j.size<=c*j.size:=nM_ _ E;have bt:(len+n)*j.size=len*j.size+n*j.size:=Nat.add_mul _ _ _
       have aq:=nh (P:=P) (o:=l.sh+off+len*j.size) xs cc 0 w a8 B (fun u hu=>by
        obtain⟨i,bv,bw⟩:=List.getElem_of_mem hu;have ao:i<news.length:=by omega
        obtain⟨y,R,a3⟩:=L.get (gC ao);rw[gC bv,bw] at R;cases R;exact pC (sx M _<|List.getElem_mem ao) a3) (fun jj bz=>a9 Z jj B)
       obtain⟨w',r,b0,b1,b2,b3,b4,b5⟩:=aq
       have inv:=hi.yl (l':=⟨l.dJ,l.sh+off,l.cells-off⟩) (cells':=im (takeN (dP cells off) (len*j.size)) news) hb hl Z b0
        ⟨_,fr,Z,by simp[bs];omega,by grind,fun i v hv=>by
         obtain⟨y,R,a3⟩:=a7.get hv;refine⟨y,?_,a3⟩;rw[List.getElem?_toArray];dsimp only;have bb:cc.toList.length=l.sh+l.cells:=by omega
         have ao:i<(olds++xs).length:=(gA.1 R).1;rw[lA_,h1,a0] at ao
         by_cases b6:i<len*j.size
         ·rw[gL_ (by rw[h1];exact b6)] at R;have:=h3 i y R;rw[Addr.add_eq _ _ Z,cell?_of_heap a8] at this;rw[lQ_,gL_ (by grind),List.getElem?_take,if_pos B,aT_];exact this
         rw[gR_ (by rw[h1];omega),h1] at R;rw[lQ_,gR_ (by grind),lT_,bb]
         grind,fun _ jj bz=>a9 Z jj (by grind)⟩
        b1 b2 b3 b4 b5
       refine⟨.slice (some ⟨l.dJ,l.sh+off,none⟩) (len+n) c,w',_,?_,?_,inv.1,inv.2⟩
       ·rw[hr,r];rfl
       simp only[VR,I.drop];refine⟨_,dg.da _ _ _,.inl ⟨c,by simp,E,?_⟩⟩;simp only;omega
      simp_all
     simp_all
    cases h
   cases h
  cases h
 cases h
theorem oJ {ts:Array TypeId} {t t2 ty e:TypeId} {k:IntKind} {j:TypeInfo} {z:Value} (ht:ts[0]?=some t) (hu:P.underlying t=some (.slice e)) (hj:P.info? e=some j) (hzero:j.zero=some z) (L:ts[1]?=some t2) (hz:P.underlying t2=some (.int k))
  {base:Option Addr} {sLen sCap n:Nat} {olds:List Value}
  (hold:(Builtin.firstCells j.size sLen (.slice base sLen sCap)).run P w.drew= .ok olds.toArray w.drew) (u:sCap<sLen+n) (M:sLen+n<=4194304) (A:n<=1048576) (Q:1<=n) (C:j.bytes<=65536) (E:1<=j.size):
  ∃cap,sLen+n<=cap/\(Builtin.append_ ts ty #[.slice base sLen sCap,.int .i64<|Int.ofNat n]).run P w=
   .ok (.slice (some ⟨w.heap.size,0,none⟩) (sLen+n) cap) (w.drew.alloc (.cells (olds.toArray++(Builtin.zeroCells z.cells n).toList.toArray++Builtin.zeroCells z.cells (cap-(sLen+n))) e)):=by
 refine⟨grownCap w (sLen+n) sCap e,grownCap_ge _ _ _ _,?_⟩
 have aa:Builtin.nextslicecap (sLen+n) sCap*j.bytes<=281474976710656:=growslice_fits u (by
  have:(sLen+n)*j.bytes<=4194304*65536:=Nat.mul_le_mul M C;omega)
 have hn:¬(sLen+n<=sCap):=by omega
 have F:IntKind.i64.max=9223372036854775807:=by decide
 have h1:¬(9223372036854775807<((sLen:Int)+(n:Int))):=by omega
 have R:¬(281474976710656<Builtin.nextslicecap (sLen+n) sCap*j.bytes):=by omega
 have hw:IntKind.i64.wrap (n:Int)=(n:Int):=vS .i64 (Int.ofNat n) (by simp only[OQ,nE_];omega);have G:¬((n:Int)<0):=by omega
 have K:¬(281474976710656<(n:Int)*(j.bytes:Int)):=by
  have:n*j.bytes<=1048576*65536:=Nat.mul_le_mul A C;omega
 have W:¬(n*j.size=0):=by
  have:1*1<=n*j.size:=Nat.mul_le_mul Q E;omega
 have X:¬(n=0∨j.size=0):=by omega
 rw[Array.append_assoc];simp[Builtin.append_,ht,L,run_underlying hu,run_underlying hz,cD hj,typeInfo,hj,asInt,asIntOf,hw,G,K,hn,F,h1,R,hold,W,X,zeroValue,hzero,newRow,Question.forced,grownCap]
theorem yW (hi:Inv S U w) {ts:Array TypeId} {ty:TypeId} {s x v:V} {ys yx:Value} {U':I} (h:pc P U ts s x= .val v U') (hs:VR S s ys) (hx:VR S x yx):
  ∃z w' S',(Builtin.append_ ts ty #[ys,yx]).run P w= .ok z w'/\VR S' v z/\Inv S' U' w'/\fj S U w S' U' w':=by
 unfold pc at h;split at h
 case h_2=>cases h
 rename_i t t2 ht L;split at h
 case h_2=>cases h
 rename_i e k hu hz;split at h
 case h_2=>cases h
 rename_i j zs n hj ab;rw[bL] at h;split at h
 case isFalse=>cases h
 rename_i hb;simp only[bA_,nE_,Nat.beq_eq,bP] at hb;obtain⟨E,M,F,Q,K⟩:=hb;obtain⟨i,zv,R,hzero,W⟩:=gq ab;rw[hj] at R;cases R;have G:zv.cells.size=zs.length:=by have:=(W S).length;simpa using this
 have hts:=kD (W S) n
 have C:(Builtin.zeroCells zv.cells n).toList=(List.replicate n zv.cells.toList).flatten:=by
  grind [wm,Builtin.zeroCells]
 rw[<-C] at hts;have ac:(fq zs n).length=n*j.size:=by rw[oj,K]
 simp only[VR] at hx;subst hx;split at h
 ·simp only[VR] at hs;subst hs;unfold grow at h;cases h;obtain⟨cap,A,hr⟩:=oJ (w:=w) (ty:=ty) (base:=none) (sLen:=0) (sCap:=0) (olds:=[]) ht hu hj hzero L hz (by simp[Builtin.firstCells]) B B E M Q F;rw[nA_] at A hr;obtain⟨inv,st,hv⟩:=mV (e:=e) hi (olds:=[]) (news:=(Builtin.zeroCells zv.cells n).toList) (by simpa using hts) ac A (G.trans K)
  grind
 ·rename_i b off len c;simp only[VR] at hs;obtain⟨l,hl,rfl⟩:=hs;rw[bL] at h;split at h
  ·cases h
  rename_i X;rw[nE_] at X;split at h
  ·rename_i cells e' ro hb;rw[bL] at h;split at h
   ·rename_i u;simp only[bA_,nE_,bP] at u;obtain⟨u,aa⟩:=u;unfold grow at h;cases h;obtain⟨ys,h1,h2,h3⟩:=hi.piece hb hl off (len*j.size) u
    have hold:(Builtin.firstCells j.size len (.slice (some ⟨l.dJ,l.sh+off,none⟩) len c)).run P w.drew= .ok ys.toArray w.drew:=
     run_firstCells_some w.drew j.size len _ len c ys h1 (fun i v hv=>by simpa using h3 i v hv)
    obtain⟨cap,A,hr⟩:=oJ (w:=w) (ty:=ty) ht hu hj hzero L hz hold B B E M Q F
    obtain⟨inv,st,hv⟩:=mV (e:=e) hi (olds:=ys) (news:=(Builtin.zeroCells zv.cells n).toList) (len:=len+n) (cs:=im (takeN (dP cells off) (len*j.size))<|fq zs n)
     (by rw[dV,dn,dM];exact h2.append hts) (by grind [dV,dn,dM]) A<|G.trans K
    grind
   cases h
  cases h
 cases h
end
section
variable {P:Program} {S:dg} {U:I} {w:World}
theorem Ey (hi:Inv S U w) {ts:Array TypeId} {ty:TypeId} {s x v:V} {ys yx:Value} {U':I} (h:sb P U ts s x= .val v U') (Q:VR S s ys) (hx:VR S x yx):
  ∃z w' S',(Builtin.copy_ ts ty #[ys,yx]).run P w= .ok z w'/\VR S' v z/\Inv S' U' w'/\fj S U w S' U' w':=by
 unfold sb at h;cases M:ts[0]? with
 | none=>rw[M] at h;cases h
 | some t=>
 rw[M] at h;dsimp only at h;split at h
 case h_2=>cases h
 rename_i e hu;cases hj:P.info? e with
 | none=>rw[hj] at h;cases h
 | some j=>
 rw[hj] at h;dsimp only at h;split at h
 ·rename_i n news b off len cap E;obtain⟨u,L,C⟩:=pQ (P:=P) hi E hx;obtain⟨xs,K,A⟩:=C (Nat.min n len) (Nat.min_le_left _ _);simp only[bL] at h;split at h
  ·rename_i h0;rw[Nat.beq_eq] at h0;cases h;rw[h0,Nat.zero_mul] at K;rw[h0] at A;have R:xs= []:=by have:=K.length;simpa using this
   subst R;obtain⟨a,c,rfl⟩:=VR.jU Q;have hr:=A w Z;refine⟨.int .i64 0,w,S,?_,by simp only[VR],hi,fj.refl _ _ _⟩;simp[Builtin.copy_,M,run_underlying hu,u,cD hj,h0,hr,goInt,storeCells]
  rename_i h0;rw[Nat.beq_eq] at h0;split at h
  ·rename_i cells e' hb;split at h
   ·rename_i hc;simp only[bA_,nE_,bP] at hc;obtain⟨⟨F,aa⟩,G⟩:=hc;cases h;rw[dn] at G F
    have go:∀(l:Loc) (c:Nat),S b=some l->ys= .slice (some ⟨l.dJ,l.sh+off,none⟩) len c->
      ∃z w' S',(Builtin.copy_ ts ty #[ys,yx]).run P w= .ok z w'/\VR S' (.int .i64<|Int.ofNat<|Nat.min n len) z/\
       Inv S' (U.setObj b (.row (dI (takeN news (Nat.min n len*j.size)) cells off) e' false)) w'/\fj S U w S' (U.setObj b (.row (dI (takeN news (Nat.min n len*j.size)) cells off) e' false)) w':=by
     intro l c hl hy;rw[dn];obtain⟨w',r,inv,st⟩:=iY (P:=P) hi hl hb K F (off:=off) G;refine⟨.int .i64<|Int.ofNat<|Nat.min n len,w',S,?_,by simp only[VR],inv,st⟩;subst hy;have hr:=A w Z;simp[Builtin.copy_,M,run_underlying hu,u,cD hj,hr,r,goInt]
    cases cap with
    | known c=>
     grind [VR]
    | least a sz=>
     grind [VR]
    | upto sz=>
     grind [VR]
   cases h
  cases h
 ·rename_i n news E;cases h;obtain⟨u,L,C⟩:=pQ (P:=P) hi E hx;obtain⟨xs,K,A⟩:=C 0 (Nat.zero_le _);simp only[VR] at Q;subst Q;refine⟨.int .i64 0,w,S,?_,by simp only[VR],hi,fj.refl _ _ _⟩;have hr:=A w Z;simp[Builtin.copy_,M,run_underlying hu,u,cD hj,hr,goInt]
 cases h
theorem Cr (hi:Inv S U w) {ts:Array TypeId} {ty:TypeId} {x:V} {ys:Value} {U':I} (h:AJ P U ts x=some U') (C:VR S x ys):
  ∃w',(Builtin.clear_ ts ty #[ys]).run P w= .ok (.tuple #[]) w'/\Inv S U' w'/\fj S U w S U' w':=by
 unfold AJ at h;cases E:ts[0]? with
 | none=>rw[E] at h;cases h
 | some t=>
 rw[E] at h;dsimp only at h;cases hu:P.underlying t with
 | none=>rw[hu] at h;cases h
 | some d=>
 rw[hu] at h;cases d with
 | slice e=>
  dsimp only at h;cases x with
  | au=>
   cases h;simp only[VR] at C;subst C;exact⟨w,by simp[Builtin.clear_,E,run_underlying hu],hi,fj.refl _ _ _⟩
  | slice b off len cap=>
   dsimp only at h;rw[bL] at h;split at h
   ·rename_i h0;have:=nB h0;subst this;cases h;obtain⟨a,c,rfl⟩:=VR.jU C;exact⟨w,by simp[Builtin.clear_,E,run_underlying hu],hi,fj.refl _ _ _⟩
   rename_i h0;rw[Nat.beq_eq] at h0;cases G:(fJ P e).bind cW with
   | none=>rw[G] at h;cases h
   | some zs=>
   rw[G] at h;cases hb:U.m.get b with
   | none=>rw[hb] at h;cases h
   | some o=>
   rw[hb] at h;cases o with
   | row cells e' ro=>
    cases ro with
    | true=>cases h
    | false=>
     dsimp only at h;rw[bL] at h;split at h
     ·rename_i hc;simp only[bA_,nE_,bP] at hc;obtain⟨⟨z,aa⟩,A⟩:=hc;cases h;obtain⟨i,zv,K,hzero,F⟩:=gq G;have hts:=kD (F S) len;have ab:zv.cells.size=zs.length:=by have:=(F S).length;simpa using this
      have u:(Builtin.zeroCells zv.cells len).toList=(List.replicate len zv.cells.toList).flatten:=by
       grind [wm,Builtin.zeroCells]
      have go:∀(l:Loc) (c:Nat),S b=some l->ys= .slice (some ⟨l.dJ,l.sh+off,none⟩) len c->
        ∃w',(Builtin.clear_ ts ty #[ys]).run P w= .ok (.tuple #[]) w'/\Inv S (U.setObj b (.row (dI (fq zs len) cells off) e' false)) w'/\fj S U w S (U.setObj b (.row (dI (fq zs len) cells off) e' false)) w':=by
       intro l c hl hy;subst hy;obtain⟨w',r,inv,st⟩:=iY (P:=P) hi hl hb hts z A;refine⟨w',?_,inv,st⟩;cases len with
       | zero=>exact absurd Z h0
       | succ n=>simp[Builtin.clear_,E,run_underlying hu,zeroValue,typeInfo,K,hzero,u,r]
      cases cap with
      | known c=>
       simp only[VR] at C
       grind
      | upto sz=>
       simp only[VR] at C
       grind
      | least a sz=>
       simp only[VR] at C
       grind
     cases h
   | _=>cases h
  | _=>cases h
 | _=>cases h
theorem E5 {g:Nat} {args:Array Value} (h:AZ P g=true):(callFunc g args).run P w= .ok (.enter g args) w:=by
 unfold AZ at h;cases hf:P.funcs[g]? with
 | none=>rw[hf] at h;cases h
 | some fn=>
  rw[hf] at h;simp only[bA_,Bool.not_eq_true'] at h;obtain⟨h1,A⟩:=h;have h3:fn.body.isNone=false:=by simp_all
  have u:¬fn.name= "runtime.NumGoroutine" :=by simpa using A
  have z:¬fn.body=none:=by grind
  simp[callFunc,hf,u,z]
inductive yU (P:Program) (S:dg) (U:I) (w:World):HR->Result Next->Prop
 | val {v:V} {U':I} {x:Value} {w':World} {S':dg} (hv:VR S' v x) (hi:Inv S' U' w') (st:fj S U w S' U' w'):yU P S U w (.val v U') (.ok (.value x) w')
 | skip {U':I} {w':World} {S':dg} (hi:Inv S' U' w') (st:fj S U w S' U' w'):yU P S U w (.skip U') (.ok .skip w')
 | enter {f:Nat} {args:List V} {xs:Array Value} (hv:dt S args xs.toList):yU P S U w (.enter f args U) (.ok (.enter f xs) w)
 | round {l:Pos} {args:List V} {xs:Array Value} {loc:Loc} {r:Result Next} (hv:dt S args xs.toList) (hl:S l=some loc) (hr:r=(Instr.yield loc.dJ xs).run P w):yU P S U w (.round l args U) r
 | m9 {v:V} {x:Value} (hv:VR S v x):yU P S U w (.m9 v U) (.halt (.panic x) w)
def Qd (P:Program) (g:Nat):Prop:=∃(fn:Func) (ts tr e:TypeId) (j:TypeInfo),P.funcs[g]?=some fn∧(fn.name == "runtime.NumGoroutine")=false∧fn.body.isNone=true∧Extern.findNext fn=none∧
 Extern.find fn=some (Extern.SlicesOverlaps.overlaps #[ts,ts] #[tr])/\P.underlying ts=some (.slice e)/\P.info? e=some j
def Rf (P:Program) (g:Nat):Prop:=∃(fn:Func),P.funcs[g]?=some fn∧(fn.name == "runtime.NumGoroutine")=false∧fn.body.isNone=true∧Extern.findNext fn=none∧Extern.find fn=some Extern.AbiNoEscape.same
def su (P:Program) (g:Nat):Prop:=(isNe P g=false/\Qd P g)∨(isNe P g=true/\Rf P g)
theorem pO (p:Pos):kA p p=true:=Nat.beq_refl p
theorem VR.vM {b:Pos} {off len:Nat} {cap:qf} {x:Value} (hc:lH cap=true) (h:VR S (.slice b off len cap) x):∃l c,S b=some l/\x= .slice (some ⟨l.dJ,l.sh+off,none⟩) len c:=by
 cases cap with
 | upto sz=>simp[lH] at hc
 | known c=>simp only[VR] at h;grind
 | least a sz=>simp only[VR] at h;grind
theorem xY (hi:Inv S U w) {g:Nat} {args:List V} {xs:Array Value} {v:V} (R:Qd P g) (h:oH U args=some v) (hx:dt S args xs.toList):∃x,(callFunc g xs).run P w= .ok (.value x) w/\VR S v x:=by
 obtain⟨fn,ts,tr,e,j,g1,W,X,g4,g5,g6,g7⟩:=R;unfold oH at h;split at h
 ·rename_i b off n cap b' off' n' cap';split at h
  ·rename_i cells e1 cells' e2 hb u;cases hc:((bif kA b b' then false else true) && (lH cap && (lH cap' && Nat.ble 1 (cY cells')))) with
   | false=>rw[hc] at h;cases h
   | true=>
    rw[hc] at h;simp only[cond_true,oJ_] at h;subst h;simp only[bA_,nE_,bP] at hc;obtain⟨z,F,G,hlen⟩:=hc;have A:b≠b':=fun e=>by subst e;rw[pO] at z;simp at z
    obtain⟨x1,r,e',h1,h2⟩:=hx.cons_inv;obtain⟨x2,r',rfl,h3,h4⟩:=h2.cons_inv;have:=h4.fb;subst this;obtain⟨l,c,hl,rfl⟩:=VR.vM F h1;obtain⟨l',c',C,rfl⟩:=VR.vM G h3;have K:xs= #[.slice (some ⟨l.dJ,l.sh+off,none⟩) n c,.slice (some ⟨l'.dJ,l'.sh+off',none⟩) n' c']:=by grind
    obtain⟨k,fr,L,k2,k3,k4,Q⟩:=hi.row hb hl;obtain⟨k',fr',M,aa,ab,ac,ae⟩:=hi.row u C
    have E:l.dJ≠l'.dJ:=fun e=>by
     have:=(hi.inj b b' _ _ l l' hb u hl C e A).1;cases this
    refine⟨.bool false,?_,by simp only[VR]⟩;rw[run_callFunc_extern g1 W X g4 g5,K]
    rw[Lib.run_overlaps_apart w ts tr e g6 j.size (fun w=>cD g7) ⟨l.dJ,l.sh+off,none⟩ ⟨l'.dJ,l'.sh+off',none⟩ n c n' c' E e1 e2 k.size k'.size
     (by simp[World.shape?,L]) (by simp[World.shape?,M]) B (frozen?_of_heap L _<|Q Z _ B) (frozen?_of_heap L _<|Q Z _ B)]
    rfl
  cases h
 cases h
theorem IY {ov:Nat->Bool} (G:∀g,ov g=true->su P g) (hi:Inv S U w) {g:V} {args:List V} {y:Value} {xs:Array Value} {r:HR} (h:zq P ov U g args=r) (u:∀n,r≠ .err n) (C:VR S g y) (hx:dt S args xs.toList):
  yU P S U w r ((do let d <-Deferred.ofValue y xs;invoke d.target d.args:Sem Next).run P w):=by
 subst h;unfold zq at u⊢;cases g with
 | func f fi ca=>
  dsimp only at u⊢;cases F:AZ P f with
  | false=>
   rw[F] at u;simp only[cond_false] at u⊢;cases L:ov f with
   | false=>simp_all
   | true=>
    rw[L] at u;simp only[cond_true] at u⊢;cases W:isNe P f with
    | true=>
     rw[W] at u;simp only[cond_true] at u⊢;simp only[VR] at C;obtain⟨fi',ca',rfl,z,A⟩:=C;have E:dt S (im fi<|im args ca) (fi'++xs++ca').toList:=by rw[dV,dV];simpa using z.append (hx.append A)
     generalize im fi (im args ca)=l at u E⊢;cases l with
     | nil=>simp_all
     | cons v r=>
      cases r with
      | cons _ _=>simp_all
      | nil=>
       dsimp only;obtain⟨x,r',e,h1,X⟩:=E.cons_inv;have:=X.fb;subst this;have M:fi'++xs++ca'= #[x]:=by simp_all
       rcases G f L with ⟨h',_⟩ | ⟨_,fn,g1,g2,g3,g4,g5⟩
       ·simp_all
       have Q:(callFunc f (fi'++xs++ca')).run P w= .ok (.value x) w:=by
        rw[run_callFunc_extern g1 g2 g3 g4 g5,M,Lib.run_noEscape];rfl
       have:(do let d <-Deferred.ofValue (.func (.func f) fi' ca') xs;invoke d.target d.args:Sem Next).run P w= .ok (.value x) w:=by
        grind [Deferred.ofValue,invoke]
       rw[this];exact .val h1 hi<|fj.refl S U w
    | false=>
    rw[W] at u;simp only[cond_false] at u⊢
    have K:Qd P f:=by
     rcases G f L with ⟨_,h'⟩ | ⟨h',_⟩
     ·exact h'
     simp_all
    cases hq:oH U (im fi<|im args ca) with
    | none=>simp_all
    | some v=>
     simp only[VR] at C;obtain⟨fi',ca',rfl,z,A⟩:=C;obtain⟨x,Q,R⟩:=xY (xs:=fi'++xs++ca') hi K hq (by rw[dV,dV];simpa using z.append (hx.append A))
     have:(do let d <-Deferred.ofValue (.func (.func f) fi' ca') xs;invoke d.target d.args:Sem Next).run P w= .ok (.value x) w:=by
      grind [Deferred.ofValue,invoke]
     rw[this];exact .val R hi<|fj.refl S U w
  | true=>
   rw[F] at u;simp only[VR] at C;obtain⟨fi',ca',rfl,z,A⟩:=C;simp only[cond_true]
   have:(do let d <-Deferred.ofValue (.func (.func f) fi' ca') xs;invoke d.target d.args:Sem Next).run P w= .ok (.enter f (fi'++xs++ca')) w:=by
    simp[Deferred.ofValue,invoke,E5 F]
   rw[this,dV,dV];exact .enter (by simpa using z.append (hx.append A))
 | yield l=>
  dsimp only at u⊢;simp only[VR] at C;obtain⟨loc,hl,rfl⟩:=C;exact .round hx hl (by simp[Deferred.ofValue,invoke])
 | _=>simp_all
end
section
variable {P:Program} {S:dg} {U:I} {w:World}
def na:TypeDesc->Bool
 | .int _ | .string | .bool=>true
 | _=>false
def Hj (P:Program) (u:TypeId):Prop:=(∃d,P.underlying u=some d/\na d=true)∨(∃gs,P.underlying u=some (.struct gs)/\∀g∈gs.toList,∃d,P.underlying g.type=some d/\na d=true)∨∃m e,P.underlying u=some (.array m e)/\sN P e=true
theorem qM {t:TypeId} (h:plainKey P t=true):(∃d,P.underlying t=some d/\na d=true)∨∃fs,P.underlying t=some (.struct fs)/\∀f∈fs.toList,Hj P f.type:=by
 unfold plainKey at h;split at h
 ·rename_i k hu;exact .inl ⟨_,hu,Z⟩
 ·rename_i hu;exact .inl ⟨_,hu,Z⟩
 ·rename_i hu;exact .inl ⟨_,hu,Z⟩
 ·rename_i fs hu;refine .inr ⟨fs,hu,fun f hf=>?_⟩;rw[aE_] at h;have:=h f hf;split at this
  ·rename_i k u;exact .inl ⟨_,u,Z⟩
  ·rename_i u;exact .inl ⟨_,u,Z⟩
  ·rename_i u;exact .inl ⟨_,u,Z⟩
  ·rename_i gs u;refine .inr (.inl ⟨gs,u,fun g A=>?_⟩);rw[aE_] at this;have:=this g A;split at this
   ·rename_i k z;exact⟨_,z,Z⟩
   ·rename_i z;exact⟨_,z,Z⟩
   ·rename_i z;exact⟨_,z,Z⟩
   cases this
  ·rename_i m e u;exact .inr (.inr ⟨m,e,u,this⟩)
  cases this
 cases h
theorem kg {t:TypeId} {d:TypeDesc} (hu:P.underlying t=some d) (u:na d=true) (em:Bool) (n:Nat) (a:Value):(Instr.checkKey em (n+1) t a).run P w= .ok () w:=by
 simp only[Instr.checkKey,sB_,run_underlying hu,rA];cases d<;>first | (simp[na] at u;done) | rfl
theorem sa {t:TypeId} {fs:Array Field} {ys:Array Value} (hu:P.underlying t=some (.struct fs)) (em:Bool) (n:Nat)
  (h:∀f∈fs.toList,∃y,(part f.type ys f.offset).run P w= .ok y w/\(Instr.checkKey em (n+1) f.type y).run P w= .ok () w):(Instr.checkKey em (n+1+1) t (.agg ys)).run P w= .ok () w:=by
 rw[Instr.checkKey];simp only[sB_,run_underlying hu,rA];rw[<-Array.forIn_toList];clear hu;generalize fs.toList=l at*;induction l with
 | nil=>simp
 | cons f l ih=>
  obtain⟨y,aa,ab⟩:=h f (by simp)
  simp_all
theorem yY {t e:TypeId} {m:Nat} {cs:Array Value} {i:TypeInfo} {k:IntKind} (hu:P.underlying t=some (.array m e)) (he:P.underlying e=some (.int k)) (hi:P.info? e=some i) (u:i.size=1) (hl:m<=cs.size) (em:Bool) (n:Nat):
  (Instr.checkKey em (n+1+1) t (.agg cs)).run P w= .ok () w:=by
 rw[Instr.checkKey];simp only[sB_,run_underlying hu,rA];simp only[Std.Legacy.Range.forIn_eq_forIn_range',Std.Legacy.Range.size,Nat.sub_zero,Nat.add_one_sub_one,Nat.div_one]
 have key:∀(l:Nat) (s:Nat),s+l<=cs.size->(forIn (List.range' s l) PUnit.unit fun i (_:PUnit)=>(do
   let z <-sizeOf e
   let v <-part e cs (i*z)
   Instr.checkKey em (n+1) e v
   pure (ForInStep.yield PUnit.unit):Sem (ForInStep PUnit))).run P w= .ok PUnit.unit w:=by
  intro l;induction l with
  | zero=>intro s _;simp
  | succ l ih=>
   intro s aa;have hv:cs[s]?=some cs[s]:=aG_ B
   have p:(part e cs (s*1)).run P w= .ok cs[s] w:=by
    rw[Nat.mul_one];simp only[part,sB_,fy he,B8,rA,Bool.false_eq_true,if_false,hv,sP_]
   simp only[List.range'_succ,List.forIn_cons,sB_,cD hi,u,p,rA,kg he Z,sP_]
   grind
 simp_all
theorem p5 {u:TypeId} {d:TypeDesc} (hu:P.underlying u=some d) (E:na d=true) {xs:List V} {ys:Array Value} (z:dt S xs ys.toList) {off:Nat} (F:(nth xs off).isSome=true):∃y,(part u ys off).run P w= .ok y w:=by
 obtain⟨v,hv⟩:=Option.isSome_iff_exists.1 F;rw[eL] at hv;obtain⟨y,hy,_⟩:=z.get hv;have A:ys[off]?=some y:=by simp_all
 have C:B8 d=false:=by cases d<;>first | rfl | (simp[na] at E)
 exact⟨y,by simp only[part,sB_,fy hu,C,rA,Bool.false_eq_true,if_false,A,sP_]⟩
theorem mO {t:TypeId} {k:V} {a:Value} (hp:plainKey P t=true) (G:mX P t k=true) (hk:VR S k a) (em:Bool):(Instr.checkKey em 10000 t a).run P w= .ok () w:=by
 rcases qM hp with ⟨d,hu,X⟩ | ⟨fs,hu,L⟩
 ·exact kg hu X em 9999 a
 unfold mX at G;rw[hu] at G;cases k<;>(try (simp at G;done));rename_i xs;dsimp only at G;simp only[VR] at hk;obtain⟨ys,rfl,C⟩:=hk;refine sa hu em 9998 fun f hf=>?_
 rw[aE_] at G;have hsf:=G f hf;rcases L f hf with ⟨d,u,E⟩ | ⟨gs,u,M⟩ | ⟨m,e,u,Q⟩
 ·have:(nth xs f.offset).isSome=true:=by
   rw[u] at hsf;cases d<;>first | exact hsf | (simp[na] at E)
  obtain⟨y,hy⟩:=p5 (P:=P) (w:=w) u E C this;exact⟨y,hy,kg u E em 9998 y⟩
 ·rw[u] at hsf;dsimp only at hsf;split at hsf
  ·rename_i n F;obtain⟨c,r,v⟩:=iw (P:=P) (w:=w) F C (off:=f.offset);refine⟨.agg c,r,sa u em 9997 fun g W=>?_⟩;rw[aE_] at hsf;obtain⟨d,z,A⟩:=M g W;obtain⟨y,hy⟩:=p5 (P:=P) (w:=w) z A v (hsf g W);exact⟨y,hy,kg z A em 9997 y⟩
  cases hsf
 rw[u] at hsf;dsimp only at hsf;split at hsf
 ·rename_i n F;rw[bA_,Nat.beq_eq,Nat.beq_eq,bP] at hsf;obtain⟨k,inf,he,K,R⟩:=xI Q;obtain⟨c,r,v⟩:=iw (P:=P) (w:=w) F C (off:=f.offset);have hcl:=v.length;exact⟨.agg c,r,yY u he K R (by rw[hsf.2] at hcl;have:c.toList.length=c.size:=rfl;omega) em 9997⟩
 cases hsf
theorem HU {t:TypeId} {d:TypeDesc} (hu:P.underlying t=some d) (hd:na d=true) {x y:V} {a c:Value} {b:Bool} (h:pY P t x y=some b) (hx:VR S x a) (hy:VR S y c):Instr.sameNow d a c=some b:=by
 unfold pY at h;rw[hu] at h;split at h
 ·rename_i u z A q j m k n e;cases e;cases hk:s7 j k with
  | false=>rw[hk] at h;cases h
  | true=>
   rw[hk] at h;have:=qp hk;subst this;simp only[VR] at hx hy;subst hx;subst hy;simp only[cond_true,oJ_] at h;rw[<-h,dE];simp only[Instr.sameNow,if_true,oJ_]
   grind
 ·rename_i u z A s s' e;cases e;simp only[VR] at hx hy;obtain⟨p,rfl,hp⟩:=hx;obtain⟨q,rfl,hq⟩:=hy
  grind [Instr.sameNow,oS,beq_toListBytes]
 ·rename_i u z A s s' e;cases e;simp only[VR] at hx hy;subst hx;subst hy;cases h;simp only[Instr.sameNow,oJ_,qm]
 ·grind [na]
 cases h
theorem E8 {t:TypeId} {fs:Array Field} (hu:P.underlying t=some (.struct fs)) {x y:V} {a c:Value} {b:Bool} (h:pY P t x y=some b) (hx:VR S x a) (hy:VR S y c):(Op.equal t a c).run P w= .ok b w:=by
 unfold pY at h;rw[hu] at h;split at h
 ·rename_i e;cases e
 ·rename_i e;cases e
 ·rename_i e;cases e
 ·exact(qq (P:=P) (w:=w) h hx hy .eql (.const .nilFunc) (.const .nilFunc)).2
 cases h
def Ea (S:dg):Option (Nat×V)->Option (Nat×Value)->Prop
 | none,none=>True
 | some (i,v),some (j,y)=>i=j/\VR S v y
 | _,_=>False
theorem se {t:TypeId} {d:TypeDesc} (hu:P.underlying t=some d) (u:na d=true) {k:V} {a:Value} (hk:VR S k a):∀(es:List fN) (ys:List MapEntry) (i:Nat) (r:Option (Nat×V)),kG S es ys->pW P t k es i=some r->
  ∃r',Instr.findNow d a ys i=some r'/\Ea S r r'
 | [],ys,i,r,he,h=>by
  have:ys= []:=he;subst this;have h':some none=some r:=h;cases h';exact⟨none,Z,trivial⟩
 | e::es,ys,i,r,he,h=>by
  obtain⟨y,rest,rfl,h1,z,h3,h4⟩:=he
  have h':(match pY P t k e.key with
   | some true=>some (some (i,e.val))
   | some false=>pW P t k es (Nat.succ i)
   | none=>none)=some r:=h
  cases hq:pY P t k e.key with
  | none=>rw[hq] at h';cases h'
  | some b=>
   rw[hq] at h';have hs:=HU hu u hq hk h1;cases b with
   | true=>cases h';exact⟨some (i,y.val),by simp[Instr.findNow,hs],Z,z⟩
   | false=>
    obtain⟨r',g1,A⟩:=se hu u hk es rest (i+1) r h4 h';exact⟨r',by simp[Instr.findNow,hs,g1],A⟩
theorem sd {t:TypeId} {fs:Array Field} (hu:P.underlying t=some (.struct fs)) {k:V} {a:Value} (hk:VR S k a):∀(es:List fN) (ys:List MapEntry) (i:Nat) (r:Option (Nat×V)),kG S es ys->pW P t k es i=some r->
  ∃r',(Instr.findAsking t a ys i).run P w= .ok r' w/\Ea S r r'
 | [],ys,i,r,he,h=>by
  have:ys= []:=he;subst this;have h':some none=some r:=h;cases h';exact⟨none,Z,trivial⟩
 | e::es,ys,i,r,he,h=>by
  obtain⟨y,rest,rfl,h1,u,h3,h4⟩:=he
  have h':(match pY P t k e.key with
   | some true=>some (some (i,e.val))
   | some false=>pW P t k es (Nat.succ i)
   | none=>none)=some r:=h
  cases hq:pY P t k e.key with
  | none=>simp_all
  | some b=>
   rw[hq] at h';have hs:=E8 (w:=w) hu hq hk h1;cases b with
   | true=>cases h';exact⟨some (i,y.val),by simp[Instr.findAsking,hs],Z,u⟩
   | false=>
    obtain⟨r',g1,z⟩:=sd hu hk es rest (i+1) r h4 h';exact⟨r',by simp[Instr.findAsking,hs,g1],z⟩
theorem mR {t:TypeId} (hp:plainKey P t=true) {k:V} {a:Value} (hk:VR S k a) {es:List fN} {ys:List MapEntry} {r:Option (Nat×V)} (he:kG S es ys) (h:pW P t k es 0=some r):
  ∃r',(Instr.findKey t a ys).run P w= .ok r' w/\Ea S r r':=by
 rcases qM hp with ⟨d,hu,z⟩ | ⟨fs,hu,aa⟩
 ·obtain⟨r',h1,u⟩:=se hu z hk es ys 0 r he h;exact⟨r',by simp[Instr.findKey,run_underlying hu,h1],u⟩
 cases A:Instr.findNow (.struct fs) a ys 0 with
 | none=>
  obtain⟨r',h1,u⟩:=sd (w:=w) hu hk es ys 0 r he h;exact⟨r',by simp[Instr.findKey,run_underlying hu,A,h1],u⟩
 | some r0=>
  cases es with
  | nil=>
   have:ys= []:=he;subst this;have h':some none=some r:=h;cases h';exact⟨none,by simp[Instr.findKey,run_underlying hu,Instr.findNow],trivial⟩
  | cons e es=>
   obtain⟨y,rest,rfl,h1,_⟩:=he
   grind [Instr.sameNow,Instr.findNow]
theorem kG.length:∀{es:List fN} {ys:List MapEntry},kG S es ys->ys.length=es.length
 | [],ys,h=>by have:ys= []:=h;rw[this];rfl
 | e::es,ys,h=>by obtain⟨y,r,rfl,_,_,_,h4⟩:=h;simp[h4.length]
theorem kG.get:∀{es:List fN} {ys:List MapEntry},kG S es ys->∀{i:Nat} {e:fN},es[i]?=some e->∃y,ys[i]?=some y/\VR S e.key y.key/\VR S e.val y.val/\y.born=e.born
 | [],ys,h,i,e,he=>by simp at he
 | e::es,ys,h,0,e',he=>by
  obtain⟨y,r,rfl,h1,u,z,h4⟩:=h
  simp_all
 | e::es,ys,h,i+1,e',he=>by
  obtain⟨y,r,rfl,h1,u,z,h4⟩:=h;simp at he;simpa using h4.get he
theorem kG.append:∀{es fs:List fN} {ys zs:List MapEntry},kG S es ys->kG S fs zs->kG S (es++fs) (ys++zs)
 | [],fs,ys,zs,h,h'=>by have:ys= []:=h;subst this;exact h'
 | e::es,fs,ys,zs,h,h'=>by
  obtain⟨y,r,rfl,h1,u,z,h4⟩:=h;exact⟨y,r++zs,Z,h1,u,z,h4.append h'⟩
theorem kG.set:∀{es:List fN} {ys:List MapEntry},kG S es ys->∀(i:Nat) {e:fN} {y:MapEntry},VR S e.key y.key->VR S e.val y.val->y.born=e.born->kG S (es.set i e) (ys.set i y)
 | [],ys,h,i,_,_,_,_,_=>by have:ys= []:=h;simp_all
 | e::es,ys,h,0,_,_,u,k2,z=>by
  obtain⟨y,r,rfl,h1,A,C,h4⟩:=h;exact⟨_,r,Z,u,k2,z,h4⟩
 | e::es,ys,h,i+1,_,_,u,k2,z=>by
  obtain⟨y,r,rfl,h1,A,C,h4⟩:=h;exact⟨y,_,Z,h1,A,C,h4.set i u k2 z⟩
theorem kG.erase:∀{es:List fN} {ys:List MapEntry},kG S es ys->∀(i:Nat),kG S (es.eraseIdx i) (ys.eraseIdx i)
 | [],ys,h,i=>by have:ys= []:=h;simp_all
 | e::es,ys,h,0=>by obtain⟨y,r,rfl,h1,u,z,h4⟩:=h;exact h4
 | e::es,ys,h,i+1=>by
  obtain⟨y,r,rfl,h1,u,z,h4⟩:=h;exact⟨y,_,Z,h1,u,z,h4.erase i⟩
theorem Inv.xS (hi:Inv S U w) {b:Pos} {l:Loc} {es:List fN} {clock:Nat} (u:U.m.get b=some (.map es clock)) (hl:S b=some l):∃es',w.heap[l.dJ]?=some (.map es' clock)/\kG S es es'.toList:=by
 obtain⟨x,hx,es',rfl,h2⟩:=hi.obj b _ l u hl
 simp_all
theorem run_getObj_map {r clock:Nat} {es:Array MapEntry} (h:w.heap[r]?=some (.map es clock)):(getObj r).run P w= .ok (.map es clock) w:=by
 simp[getObj,Sem.run,h]
theorem Bd (hi:Inv S U w) {ev:Operand->Option V} {f:Operand->Value} {t:TypeId} {x i:Operand} {ok:Bool} {v:V} (hx:∀u,ev x=some u->VR S u (f x)) (hk:∀u,ev i=some u->VR S u (f i))
  (h:hJ P ev U (.lookup t x i ok)=some v):∃z,(Instr.lookup t (f x) (f i) ok).run P w= .ok z w/\VR S v z:=by
 simp only[hJ] at h;split at h
 ·rename_i kt et k hu L;simp only[bL] at h;split at h
  ·rename_i F;rw[bA_] at F;obtain⟨hp,M⟩:=F;have hkv:=hk _ L
   have main:∀(es:List fN) (ys:Array MapEntry),kG S es ys.toList->
     (match pW P kt k es 0,fJ P et with
      | some (some (_,v)),some _=>some (if ok=true then V.tuple [v,.bool true] else v)
      | some none,some z=>some (if ok=true then V.tuple [z,.bool false] else z)
      | _,_=>none)=some v->
     (Instr.checkKey ys.isEmpty 10000 kt<|f i).run P w= .ok () w/\∃r',(Instr.findKey kt (f i) ys.toList).run P w= .ok r' w/\
      ((∃j y,r'=some (j,y)/\VR S v (if ok=true then .tuple #[y,.bool true] else y))∨
       (r'=none/\∃xz,(zeroValue et).run P w= .ok xz w/\VR S v (if ok=true then .tuple #[xz,.bool false] else xz))):=by
    intro es ys he C;have hck:=mO (w:=w) hp M hkv ys.isEmpty;cases hf:pW P kt k es 0 with
    | none=>simp_all
    | some r=>
     obtain⟨r',g1,Q⟩:=mR (w:=w) hp hkv he hf;cases E:fJ P et with
     | none=>simp_all
     | some zz=>
      rw[hf,E] at C;obtain⟨iz,xz,R,hzero,G⟩:=re E;cases r with
      | some p=>
       obtain⟨j,u⟩:=p;cases r' with
       | none=>exact Q.elim
       | some q=>
        obtain⟨j',y⟩:=q;obtain⟨_,hy⟩:=Q;refine⟨hck,_,g1,.inl ⟨j',y,Z,?_⟩⟩;cases C;cases ok with
        | true=>
         simp only[if_true,VR];exact⟨_,Z,dt.cons hy<|dt.cons (by simp only[VR]) dt.nil⟩
        | false=>simpa using hy
      | none=>
       cases r' with
       | some q=>exact Q.elim
       | none=>
        have W:(zeroValue et).run P w= .ok xz w:=by simp[zeroValue,typeInfo,R,hzero]
        refine⟨hck,_,g1,.inr ⟨Z,xz,W,?_⟩⟩;cases C;cases ok with
        | true=>
         simp only[if_true,VR];exact⟨_,Z,dt.cons (G S)<|dt.cons (by simp only[VR]) dt.nil⟩
        | false=>simpa using G S
   cases K:ev x with
   | none=>simp_all
   | some m=>
    rw[K] at h;have hmv:=hx m K;cases m with
    | jg=>
     simp only[VR] at hmv;dsimp only at h;obtain⟨hck,r',g1,A⟩:=main [] #[] (by simp[kG]) h;rcases A with ⟨j,y,rfl,A⟩ | ⟨rfl,xz,E,A⟩
     ·exact⟨_,by rw[hmv];simp only[Instr.lookup,sB_,run_underlying hu,rA,sP_,hck,g1],A⟩
     exact⟨_,by rw[hmv];simp only[Instr.lookup,sB_,run_underlying hu,rA,sP_,hck,g1,E],A⟩
    | map b=>
     simp only[VR] at hmv;obtain⟨l,hl,hf⟩:=hmv;dsimp only at h;cases hb:U.m.get b with
     | none=>rw[hb] at h;cases h
     | some ob=>
      rw[hb] at h;cases ob with
      | map es clock=>
       dsimp only at h;obtain⟨ys,C,he⟩:=hi.xS hb hl;obtain⟨hck,r',g1,A⟩:=main es ys he h;rcases A with ⟨j,y,rfl,A⟩ | ⟨rfl,xz,E,A⟩
       ·exact⟨_,by rw[hf];simp only[Instr.lookup,sB_,run_underlying hu,rA,sP_,run_getObj_map C,hck,g1],A⟩
       exact⟨_,by rw[hf];simp only[Instr.lookup,sB_,run_underlying hu,rA,sP_,run_getObj_map C,hck,g1,E],A⟩
      | _=>cases h
    | _=>cases h
  cases h
 cases h
theorem vK (hi:Inv S U w) {u:Option TypeId} {x:Option V} {v:V} {z:Value} (h:sV P u U x=some v) (hx:∀a,x=some a->VR S a z):
  ∃(a:Addr) (e cells:Nat),z= .pointer (some a)/\VR S v z/\w.shape? a.block=some (e,cells)/\(match u with | some u=>liesAt P P.depth e (cells/P.cellsOf e) a.off u 1=true | none=>a.off<cells):=by
 unfold sV at h;cases x with
 | none=>cases h
 | some xv=>
  cases xv with
  | ptr b off=>
   have hv:=hx _ Z;have hv':=hv;simp only[VR] at hv';obtain⟨l,hl,rfl⟩:=hv';dsimp only at h;cases hb:U.m.get b with
   | none=>rw[hb] at h;cases h
   | some ob=>
    rw[hb] at h;cases ob with
    | own cells e=>
     dsimp only at h;obtain⟨y,hy,⟨h0,aa⟩,c,fr,rfl,hc,_⟩:=hi.obj b _ l hb hl;have C:c.size=cells.length:=by omega
     have A:w.shape? l.dJ=some (e,cells.length):=by simp[World.shape?,hy,C]
     cases u with
     | some u=>
      dsimp only at h;rw[bL] at h;split at h
      ·rename_i hq;cases h;rw[bP] at hq;exact⟨_,e,cells.length,Z,hv,A,by simpa [h0] using hq⟩
      cases h
     | none=>
      dsimp only at h;rw[bL] at h;split at h
      ·rename_i hq;cases h;rw[nE_,bP] at hq;exact⟨_,e,cells.length,Z,hv,A,by grind⟩
      cases h
    | _=>cases h
  | _=>cases h
theorem yg (hi:Inv S U w) {ev:Operand->Option V} {f:Operand->Value} {o:Oper} {v:V} (E:ER S ev f o.op) (h:hJ P ev U o.op=some v):
  ∃x,(execOp f o).run P w= .ok (.value x) w/\VR S v x:=by
 cases F:o.op with
 | load t x=>
  rw[F] at h E;simp only[hJ] at h;cases hx:ev x with
  | none=>rw[hx] at h;cases h
  | some u=>
   rw[hx] at h;have hvx:=E x (by simp[Op.operands]) u hx;cases u with
   | ptr b off=>
    simp only at h;cases M:U.m.get b with
    | none=>rw[M] at h;cases h
    | some ob=>
     rw[M] at h;cases ob with
     | row cells e ro=>
      simp only[VR] at hvx;obtain⟨l,hl,G⟩:=hvx;obtain⟨y,hy,W⟩:=nZ (P:=P) hi M hl h;refine⟨y,?_,W⟩;simp[execOp,F,Instr.loadAt,G,Instr.sureAddr,hy]
     | own cells e=>
      simp only[VR] at hvx;obtain⟨l,hl,G⟩:=hvx;obtain⟨_,K,_⟩:=hi.own M hl;obtain⟨y,hy,W⟩:=nZ (P:=P) K (I.mU _ _ _) hl h;refine⟨y,?_,W⟩;simp[execOp,F,Instr.loadAt,G,Instr.sureAddr,hy]
     | _=>cases h
   | _=>cases h
 | lookup t x i ok=>
  rw[F] at h E;obtain⟨z,h1,h2⟩:=Bd (P:=P) hi (f:=f) (E x (by simp[Op.operands])) (E i (by simp[Op.operands])) h
  grind [execOp,sB_,rA,sP_]
 | convert src dst x=>
  rw[F] at h E;simp only[hJ] at h;split at h
  case h_4=>cases h
  case h_2=>
   rename_i t Q R;split at h
   ·rename_i j hj;rw[bL] at h;split at h
    ·cases h
    rename_i h0;obtain⟨a,e,cells,hf,hv,X,ar⟩:=vK hi h (E x (by simp[Op.operands]));have ae:j.size≠0:=fun e=>h0 (by rw[e];rfl)
    grind [execOp,sB_,Lib.run_to_unsafe,rA,sP_]
   cases h
  case h_3=>
   rename_i u Q R;rw[bL] at h;split at h
   ·rename_i K;obtain⟨j,hj⟩:=Option.isSome_iff_exists.1 K;obtain⟨a,e,cells,hf,hv,X,ar⟩:=vK hi h (E x (by simp[Op.operands]))
    grind [execOp,sB_,Lib.run_from_unsafe,rA,sP_]
   cases h
  rename_i e Q R;split at h
  case h_3=>cases h
  ·rename_i he hx;cases h;have hv:=E x (by simp[Op.operands]) _ hx;simp only[VR] at hv;refine⟨.string .empty,?_,by simp only[VR];exact⟨_,Z,Z⟩⟩;simp[execOp,F,convert,hv,run_underlying Q,run_underlying R,run_underlying he,Conv.bytesToString]
  rename_i b off len cap he hx;have hv:=E x (by simp[Op.operands]) _ hx
  have fin:∀(a:Addr) (c:Nat) (s:List Nat),f x= .slice (some a) len c->s.length=len->(∀n∈s,n<=255)->(∀(j:Nat) (hj:j<s.length),w.cell? (a.add j)=some (.int .u8 ((s[j]:Nat):Int)))->
    ∃z,(execOp f o).run P w= .ok (.value z) w/\VR S (.str s) z:=by
   intro a c s hf hl hle hc
   have hb:∀n∈s,(UInt8.ofNat n).toNat=n:=fun n hn=>by
    grind [UInt8.toNat_ofNat']
   have:=run_convert_bytes_back (P:=P) w src dst e a c (s.map UInt8.ofNat) Q he R (fun j hj=>by
    grind)
   rw[lM_,hl] at this;refine⟨.string ⟨(s.map UInt8.ofNat).toArray⟩,by grind [execOp,sB_,rA,sP_],?_⟩;simp only[VR];refine⟨_,Z,?_⟩;unfold ik;simp only[List.map_map]
   conv=>rhs;rw[<-List.map_id s]
   exact List.map_congr_left fun n hn=>hb n hn
  rw[bL] at h;split at h
  ·rename_i h0;have:=nB h0;subst this;cases h;obtain⟨a,c,hf⟩:=VR.jU hv
   simp_all
  rename_i h0;rw[Nat.beq_eq] at h0;split at h
  ·rename_i cells e' ro hb;rw[bL] at h;split at h
   ·rename_i hle;rw[nE_,bP] at hle;split at h
    ·rename_i s L;cases h
     obtain⟨l,c,hl,hf⟩:∃l c,S b=some l/\f x= .slice (some ⟨l.dJ,l.sh+off,none⟩) len c:=by
      cases cap with
      | known c=>grind [VR]
      | upto sz=>
       grind [VR]
      | least a sz=>grind [VR]
     obtain⟨ys,am,aa,ab⟩:=hi.piece hb hl off len hle;rw[dn,dM] at L
     have key:∀(l:List V) (s:List Nat),cU zo l=some s->s.length=l.length/\(∀n∈s,n<=255)/\∀(j:Nat) (n:Nat),s[j]?=some n->l[j]?=some (.int .u8 (.ofNat n)):=by
      intro l;induction l with
      | nil=>intro s h;rw[iO] at h;simp_all
      | cons x l ih=>
       intro s h;obtain⟨y,r,h1,h2,rfl⟩:=hY h;obtain⟨k1,k2,k3⟩:=ih r h2
       have hx:x= .int .u8 (.ofNat y)/\y<=255:=by
        unfold zo at h1;split at h1
        ·rw[bL] at h1;split at h1
         ·simp_all
         cases h1
        cases h1
       grind
     obtain⟨k1,k2,k3⟩:=key _ s L;have ac:s.length=len:=by grind
     refine fin _ c s hf ac k2 (fun j hj=>?_);have h1:=k3 j s[j] (gC hj);obtain⟨y,hy,ao⟩:=aa.get h1
     grind [VR]
    cases h
   cases h
  cases h
 | call c=>
  rw[F] at h E;simp only[hJ] at h;split at h
  ·rename_i C;split at h
   ·rename_i u1 u2 t x e1 e2;have A:c.args= #[x]:=by grind
    split at h
    ·rename_i u3 u4 kt et b hu hx;have hv:=E x (by simp[Op.operands,Call.operands,C,A]) _ hx;simp only[VR] at hv;obtain⟨l,hl,hf⟩:=hv;split at h
     ·rename_i es clock hb;cases h;obtain⟨ys,hh,he⟩:=hi.xS hb hl;refine⟨.int .i64<|Int.ofNat<|cY es,?_,by simp only[VR]⟩;have hlen:ys.size=es.length:=by have:=he.length;simpa using this
      simp[execOp,F,resolve,C,A,invoke,builtin,Builtin.len_,e1,run_underlying hu,hf,run_getObj_map hh,goInt,bP,hlen]
     cases h
    ·rename_i u3 u4 kt et hu hx;cases h;have hv:=E x (by simp[Op.operands,Call.operands,C,A]) _ hx;simp only[VR] at hv;refine⟨.int .i64 0,?_,by simp only[VR]⟩;simp[execOp,F,resolve,C,A,invoke,builtin,Builtin.len_,e1,run_underlying hu,hv,goInt]
    cases h
   cases h
  cases h
 | _=>rw[F] at h;simp[hJ] at h
end
section
variable {P:Program} {S:dg} {U:I} {w:World}
theorem EH {ts:Array TypeId} {ty:TypeId} {x v:V} {y:Value} (h:Ge x=some v) (hx:VR S x y):∃z,(Builtin.unsafeSliceData_ ts ty #[y]).run P w= .ok z w/\VR S v z:=by
 unfold Ge at h;split at h
 ·cases h;simp only[VR] at hx;subst hx;exact⟨_,Lib.run_unsafeSliceData_nil w ts ty 0 0,by simp only[VR]⟩
 ·rename_i b off len c;rw[bL] at h;split at h
  ·rename_i u;cases h;cases c with
   | known c=>
    simp only[VR] at hx;obtain⟨l,hl,rfl⟩:=hx;have u:Nat.ble 1 c=true:=u;rw[nE_] at u;exact⟨_,Lib.run_unsafeSliceData_row w ts ty _ _ _ B,by simp only[VR];simp_all⟩
   | upto s=>
    have u:Nat.ble 1 len=true:=u;rw[nE_] at u;simp only[VR] at hx;obtain⟨l,hl,⟨c,rfl,hc,_⟩ | ⟨h0,_⟩⟩:=hx
    ·exact⟨_,Lib.run_unsafeSliceData_row w ts ty _ _ _ B,by simp only[VR];simp_all⟩
    omega
   | least a s=>
    have u:Nat.ble 1 a=true:=u;rw[nE_] at u;simp only[VR] at hx;obtain⟨l,hl,c,rfl,hc,_⟩:=hx;exact⟨_,Lib.run_unsafeSliceData_row w ts ty _ _ _ B,by simp only[VR];simp_all⟩
  cases h
 cases h
theorem Ck:∀{l:List V} {s:List Nat},cU zo l=some s->s.length=l.length/\(∀n∈s,n<=255)/\∀(j:Nat) (n:Nat),s[j]?=some n->l[j]?=some (.int .u8 (.ofNat n))
 | [],s,h=>by rw[iO] at h;simp_all
 | x::l,s,h=>by
  obtain⟨y,r,h1,u,rfl⟩:=hY h;obtain⟨k1,k2,k3⟩:=Ck u
  have hx:x= .int .u8 (.ofNat y)/\y<=255:=by
   unfold zo at h1;split at h1
   ·rw[bL] at h1;split at h1
    ·simp_all
    cases h1
   cases h1
  grind
theorem tV (ts:Array TypeId) (ty:TypeId) (k:Value):Builtin.unsafeString_ ts ty #[.pointer none,k]=
   (do
    let n <-asInt k
    let some _:=ts[0]? | stuck "unsafe.String: no argument types"
    if n<0 then runtimePanic (.error "unsafe.String: len out of range")
    if n>IntKind.i64.max then unsupported (.unsafePointer "String: a length above the largest int")
    if n=0 then pure (.string .empty)
    else runtimePanic (.error "unsafe.String: ptr is nil and len is not zero")):=rfl
theorem nK (ts:Array TypeId) (ty:TypeId) (a:Addr) (k:Value):Builtin.unsafeString_ ts ty #[.pointer<|some a,k]=
   (do
    let n <-asInt k
    let some pt:=ts[0]? | stuck "unsafe.String: no argument types"
    if n<0 then runtimePanic (.error "unsafe.String: len out of range")
    if n>IntKind.i64.max then unsupported (.unsafePointer "String: a length above the largest int")
    if n=0 then pure (.string .empty)
    else if <-variablesAt a (<-elemOf pt) n.toNat then do
     let s <-loadBytes a .empty n.toNat
     freeze a n.toNat
     pure (.string s)
    else unsupported (.unsafePointer "String: not so many bytes at ptr")):=rfl
theorem kO {ts:Array TypeId} {ty pt:TypeId} (z:ts[0]?=some pt) (p:Option Addr):(Builtin.unsafeString_ ts ty #[.pointer p,.int .i64 0]).run P w= .ok (.string .empty) w:=by
 have u:IntKind.i64.max=9223372036854775807:=rfl;cases p with
 | none=>rw[tV];simp[z,asInt,asIntOf,u]
 | some a=>rw[nK];simp[z,asInt,asIntOf,u]
theorem rZ {ts:Array TypeId} {ty pt e:TypeId} (K:ts[0]?=some pt) (hp:P.underlying pt=some (.pointer e)) (hc:P.cellsOf e=1) (g off cells:Nat) (F:w.shape? g=some (e,cells)) (l:List UInt8) (h0:l≠[]) (L:off+l.length<=cells) (aa:l.length<=9223372036854775807)
  (u:∀j x,l[j]?=some x->w.cell? ((⟨g,off,none⟩:Addr).add j)=some (.int .u8 x.toNat)):
  (Builtin.unsafeString_ ts ty #[.pointer<|some ⟨g,off,none⟩,.int .i64 l.length]).run P w= .ok (.string ⟨l.toArray⟩) (w.freeze ⟨g,off,none⟩ l.length):=by
 have hl:l.length≠0:=by simpa using h0
 have hlb:=Lib.run_loadBytes (P:=P) w l ⟨g,off,none⟩ .empty u
 have z:liesAt P P.depth e (cells/P.cellsOf e) off e l.length=true:=by
  have G:P.depth=(2*(P.types.size+Made.depth)+1)+1:=rfl;rw[G];simp only[liesAt,Bool.or_eq_true];left;rw[G];simp[rowAt,hc,L,sameLayout,Nat.mod_one]
 have A:¬(9223372036854775807:Int)<(l.length:Int):=by omega
 have C:IntKind.i64.max=9223372036854775807:=rfl;have E:¬(l.length:Int)<0:=by omega
 rw[nK];simp[K,asInt,asIntOf,C,A,E,hl,variablesAt,F,elemOf,run_underlying hp,z,hlb]
theorem FK (hi:Inv S U w) {ts:Array TypeId} {ty:TypeId} {p n:V} {yp yn:Value} {s:List Nat} {U':I} (h:Ha P U ts[0]? p n=some (s,U')) (hp:VR S p yp) (C:VR S n yn):
  ∃z w',(Builtin.unsafeString_ ts ty #[yp,yn]).run P w= .ok z w'/\VR S (.str s) z/\Inv S U' w'/\fj S U w S U' w':=by
 unfold Ha at h;split at h
 ·rename_i k;simp only[VR] at C;subst C;rw[bL] at h;split at h
  ·rename_i h0;have:=nB h0;subst this;split at h
   ·rename_i X u2 pt E;cases h;simp only[VR] at hp;subst hp;exact⟨_,w,kO E _,by simp only[VR];exact⟨_,Z,Z⟩,hi,fj.refl _ _ _⟩
   ·rename_i X u2 pt b off E;cases h;simp only[VR] at hp;obtain⟨l,hl,rfl⟩:=hp;exact⟨_,w,kO E _,by simp only[VR];exact⟨_,Z,Z⟩,hi,fj.refl _ _ _⟩
   cases h
  rename_i h0;rw[Nat.beq_eq] at h0;split at h
  ·rename_i X u2 pt b off E;split at h
   ·rename_i u3 u4 u cells e hu hb;rw[bL] at h;split at h
    ·rename_i hc;simp only[bA_,Nat.beq_eq,nE_,bP] at hc;obtain⟨rfl,G,hle,ab⟩:=hc;split at h
     ·rename_i s' hs;cases h;simp only[VR] at hp;obtain⟨l,hl,rfl⟩:=hp;rw[dn,dM] at hs;obtain⟨k1,k2,k3⟩:=Ck hs;have ac:s.length=k:=by grind
      obtain⟨c,fr,K,L,M,Q,ae⟩:=hi.row hb hl;obtain⟨ys,am,R,aa⟩:=hi.piece hb hl off k hle
      have W:∀n∈s,(UInt8.ofNat n).toNat=n:=fun n C=>by
       grind [UInt8.toNat_ofNat']
      have hlen:(s.map UInt8.ofNat).length=k:=by grind
      have r:=rZ (P:=P) (w:=w) (ty:=ty) E hu G l.dJ (l.sh+off) c.size (by simp[World.shape?,K]) (s.map UInt8.ofNat) (by grind) (by rw[hlen];omega) (by rw[hlen];omega)
       (fun j x hx=>by
        rw[gM_] at hx;cases hj:s[j]? with
        | none=>grind
        | some m=>
         rw[hj] at hx;cases hx;have h1:=k3 j m hj;obtain⟨y,hy,ao⟩:=R.get h1
         grind [VR])
      rw[hlen] at r;have A:¬k=0:=h0
      have hw:∃fr',(w.freeze ⟨l.dJ,l.sh+off,none⟩ k).heap[l.dJ]?=some (.cells c e fr'):=by
       unfold World.freeze
       grind
      obtain⟨fr',hw⟩:=hw
      have F:∀r,r≠l.dJ->(w.freeze ⟨l.dJ,l.sh+off,none⟩ k).heap[r]?=w.heap[r]?:=fun r hr=>by
       unfold World.freeze
       grind
      obtain⟨i2,s2⟩:=hi.F9 hb hl Z (o':=.row cells e true) hw ⟨c,fr',Z,L,M,Q,fun h=>by cases h⟩ F (by unfold World.freeze;rw[if_neg A];simp) (by unfold World.freeze;rw[if_neg A]) (by unfold World.freeze;rw[if_neg A]) (by unfold World.freeze;rw[if_neg A]);refine⟨_,_,r,?_,i2,s2⟩;simp only[VR];refine⟨_,Z,?_⟩;unfold ik;simp only[List.map_map]
      conv=>rhs;rw[<-List.map_id s]
      exact List.map_congr_left fun n C=>W n C
     cases h
    cases h
   cases h
  cases h
 cases h
theorem Cl (hi:Inv S U w) {src dst:TypeId} {x v:V} {y:Value} {U':I} (h:mM P U src dst x= .val v U') (hx:VR S x y):
  ∃z w' S',(convert src dst y).run P w= .ok z w'/\VR S' v z/\Inv S' U' w'/\fj S U w S' U' w':=by
 unfold mM at h;split at h
 ·rename_i e s M Q;split at h
  ·rename_i he;rw[bL] at h;split at h
   ·rename_i ab;cases h;simp only[VR] at hx;obtain⟨bs,rfl,u⟩:=hx;have C:bs.size<=grownCap w bs.size 0 e:=grownCap_ge _ _ _ _
    have F:(Lib.bytesCells w e bs).size=grownCap w bs.size 0 e:=by
     unfold Lib.bytesCells
     simp_all
    have hlen:cY s=bs.size:=jW u;have aa:(zc (fun c=>V.int .u8 (Int.ofNat c)) s).length=bs.size:=by rw[mq,lM_,<-bP,hlen]
    have R:iN S ⟨w.heap.size,0,grownCap w bs.size 0 e⟩ (.row (zc (fun c=>V.int .u8 (Int.ofNat c)) s) e true) (.cells (Lib.bytesCells w e bs) e ((Lib.bytesCells w e bs).size,(Lib.bytesCells w e bs).size+1)):=by
     refine⟨_,_,Z,by simp[F],by simp_all,fun i v hv=>?_,fun h=>by cases h⟩;rw[mq,gM_] at hv;cases E:s[i]? with
     | none=>simp_all
     | some m=>
      rw[E] at hv;cases hv;have A:(bs.data.toList.map UInt8.toNat)[i]?=some m:=by unfold ik at u;rw[u];exact E
      rw[gM_] at A;cases hq:bs.data.toList[i]? with
      | none=>simp_all
      | some b=>
       rw[hq] at A;cases A;have G:bs.data[i]?=some b:=by simp_all
       have ac:i<bs.data.size:=(aS_.1 G).1;refine⟨.int .u8 b.toNat,?_,by simp only[VR];rfl⟩;unfold Lib.bytesCells
       grind
    have hi1:=hi.drew;obtain⟨K,L⟩:=hi1.alloc (l:=⟨w.heap.size,0,grownCap w bs.size 0 e⟩) (x:=.cells (Lib.bytesCells w e bs) e ((Lib.bytesCells w e bs).size,(Lib.bytesCells w e bs).size+1)) Z R
    have hw:(w.drew.alloc (.cells (Lib.bytesCells w e bs) e ((Lib.bytesCells w e bs).size,(Lib.bytesCells w e bs).size+1)))=Lib.bytesWorld w e bs:=by
     unfold Lib.bytesWorld World.freeze;rw[if_neg B]
     have:∀(h:Array Obj) (a b:Obj) (f:Obj->Obj),f a=b->(h.push a).modify h.size f=h.push b:=fun h a b f e=>by
      grind
     simp only[World.alloc,World.drew]
     simp_all
    rw[hw] at K L;refine⟨_,_,_,Lib.run_convert_string_bytes w src dst e bs M Q he,?_,K,(fj.drew S U w).trans L⟩;simp only[VR];refine⟨_,dg.da _ _ _,.inl ⟨grownCap w bs.size 0 e,by rw[hlen],by rw[hlen];exact C,by simp⟩⟩
   cases h
  cases h
 cases h
theorem Ep (P:Program) (U:I) (src dst:TypeId) (x:V) (v:V) (U':I):mM P U src dst x≠ .m9 v U':=by
 unfold mM
 grind
theorem sA (P:Program) (U:I) (src dst:TypeId) (x:V):∀f args U',mM P U src dst x≠ .enter f args U'/\mM P U src dst x≠ .round f args U'/\mM P U src dst x≠ .skip U':=by
 intro f args U';unfold mM
 grind
end
section
variable {P:Program} {S:dg} {U:I} {w:World}
theorem vx {x y:V} {a c:Value} (h:sL x y=some true) (hx:VR S x a) (hy:VR S y c) (n:Nat):Instr.sameBits n a c=true:=by
 unfold sL at h;split at h
 ·simp only[VR] at hx hy;subst hx;subst hy;simp only[oJ_,qm] at h;simp only[Instr.sameBits,h]
 ·rename_i j a' k b';simp only[bL] at h;split at h
  ·rename_i hk;have:=qp hk;subst this;simp only[oJ_,dE,decide_eq_true_eq] at h
   grind [VR,Instr.sameBits]
  cases h
 ·simp only[VR] at hx hy;obtain⟨p,rfl,hp⟩:=hx;obtain⟨q,rfl,hq⟩:=hy
  grind [oS,Instr.sameBits,beq_toListBytes]
 cases h
theorem r9:∀{xs ys:List V} {as cs:List Value},qi xs ys=true->dt S xs as->dt S ys cs->∀n,as.length=cs.length/\((as.zip cs).all fun(x,y)=>Instr.sameBits n x y)=true
 | [],[],as,cs,_,hx,hy,n=>by rw[hx.fb,hy.fb];simp
 | [],y::ys,as,cs,h,hx,hy,n=>by cases h
 | x::xs,[],as,cs,h,hx,hy,n=>by cases h
 | x::xs,y::ys,as,cs,h,hx,hy,n=>by
  obtain⟨a,as',rfl,h1,u⟩:=hx.cons_inv;obtain⟨c,cs',rfl,z,h4⟩:=hy.cons_inv;have h':(match sL x y with | some true=>qi xs ys | _=>false)=true:=h;split at h'
  ·rename_i he;obtain⟨g1,A⟩:=r9 h' u h4 n;refine⟨by simp[g1],?_⟩;simp only[List.zip_cons_cons,List.all_cons,bA_];exact⟨vx he h1 z n,A⟩
  cases h'
theorem Bw {x y:V} {a c:Value} (h:sameKey x y=true) (hx:VR S x a) (hy:VR S y c) (n:Nat):Instr.sameBits (n+1) a c=true:=by
 unfold sameKey at h;split at h
 ·simp only[VR] at hx hy;obtain⟨as,rfl,hx⟩:=hx;obtain⟨cs,rfl,hy⟩:=hy;obtain⟨g1,g2⟩:=r9 h hx hy n;simp only[Instr.sameBits,bA_,beq_iff_eq]
  simp_all
 grind [vx]
theorem Io (e:fN) (es:List fN) (i:Nat):By e es i=es.set i e:=uP _ _ _
theorem zE:∀(es:List fN) (i:Nat),wX es i=es.eraseIdx i
 | [],i=>rfl
 | e::es,0=>rfl
 | e::es,i+1=>congrArg (e::·) (zE es i)
theorem Inv.Bz (hi:Inv S U w) {b:Pos} {l:Loc} {es es':List fN} {clock clock':Nat} {ys:Array MapEntry} (hb:U.m.get b=some (.map es clock)) (hl:S b=some l) (he:kG S es' ys.toList):
  ∃w',(setObj l.dJ (.map ys clock')).run P w= .ok () w'/\Inv S (U.setObj b (.map es' clock')) w'/\fj S U w S (U.setObj b (.map es' clock')) w':=by
 obtain⟨zs,u,_⟩:=hi.xS hb hl;refine⟨{w with heap:=w.heap.setIfInBounds l.dJ (.map ys clock')},by simp[setObj,Sem.run,u],?_⟩;have hlt:=hi.dJ b l hl
 exact hi.change hb hl Z Z (x:=.map ys clock') (by simp_all) ⟨ys,Z,he⟩
  (fun r hr=>by grind) (by simp) Z Z Z
theorem tW (hi:Inv S U w) {t:TypeId} {m k v:V} {ym yk yv:Value} {U':I} (h:nL P U t m k v=some U') (hm:VR S m ym) (hk:VR S k yk) (hv:VR S v yv):
  ∃w',(Instr.mapUpdate t ym yk yv).run P w= .ok () w'/\Inv S U' w'/\fj S U w S U' w':=by
 unfold nL at h;split at h
 ·rename_i u1 u2 kt et b hu;split at h
  ·rename_i es clock hb;simp only[bL] at h;split at h
   ·rename_i z;rw[bA_] at z;obtain⟨hp,G⟩:=z;simp only[VR] at hm;obtain⟨l,hl,rfl⟩:=hm;obtain⟨ys,K,he⟩:=hi.xS hb hl;have hck:=mO (w:=w) hp G hk false;split at h
    ·rename_i i u hf;obtain⟨r',g1,F⟩:=mR (w:=w) hp hk he hf;cases r' with
     | none=>exact F.elim
     | some q=>
     obtain⟨j,y⟩:=q;obtain⟨rfl,hy⟩:=F;rw[eL] at h;split at h
     ·rename_i e L;split at h
      ·rename_i M;cases h;obtain⟨ye,aa,e1,e2,e3⟩:=he.get L;have hsb:=Bw M e1 hk 9999;have A:ys[i]?=some ye:=by simp_all
       have C:(Instr.keyThatStays (((ys[i]?).map (·.key)).getD yk) yk).run P w= .ok yk w:=by
        simp[Instr.keyThatStays,A,hsb]
       have E:(ys.modify i fun e=>{e with key:=yk,val:=yv}).toList=ys.toList.set i {key:=yk,val:=yv,born:=e.born}:=by
        apply List.ext_getElem?
        grind
       obtain⟨w',r,inv,st⟩:=hi.Bz (P:=P) (clock':=clock) (es':=By {key:=k,val:=v,born:=e.born} es i) (ys:=ys.modify i fun e=>{e with key:=yk,val:=yv}) hb hl (by
        rw[E,Io];exact he.set i hk hv Z)
       refine⟨w',?_,inv,st⟩;simp only[Instr.mapUpdate,sB_,run_underlying hu,rA,run_getObj_map K,hck,g1,C,r]
      cases h
     cases h
    ·rename_i hf;cases h;obtain⟨r',g1,F⟩:=mR (w:=w) hp hk he hf;cases r' with
     | some q=>exact F.elim
     | none=>
     obtain⟨w',r,inv,st⟩:=hi.Bz (P:=P) (clock':=clock+1) (es':=im es [{key:=k,val:=v,born:=clock}]) (ys:=ys.push {key:=yk,val:=yv,born:=clock}) hb hl (by
      rw[dV,Array.toList_push];exact he.append ⟨_,[],Z,hk,hv,Z,Z⟩)
     refine⟨w',?_,inv,st⟩;simp only[Instr.mapUpdate,sB_,run_underlying hu,rA,run_getObj_map K,hck,g1,r]
    cases h
   cases h
  cases h
 cases h
theorem AL (hi:Inv S U w) {ts:Array TypeId} {ty:TypeId} {m k:V} {ym yk:Value} {U':I} (h:rk P U ts m k=some U') (hm:VR S m ym) (hk:VR S k yk):
  ∃w',(Builtin.delete_ ts ty #[ym,yk]).run P w= .ok (.tuple #[]) w'/\Inv S U' w'/\fj S U w S U' w':=by
 unfold rk at h;split at h
 ·rename_i t E;split at h
  ·rename_i u1 u2 kt et b hu;split at h
   ·rename_i es clock hb;simp only[bL] at h;split at h
    ·rename_i z;rw[bA_] at z;obtain⟨hp,C⟩:=z;simp only[VR] at hm;obtain⟨l,hl,rfl⟩:=hm;obtain⟨ys,F,he⟩:=hi.xS hb hl;have hck:=mO (w:=w) hp C hk ys.isEmpty;split at h
     ·rename_i i u hf;cases h;obtain⟨r',g1,A⟩:=mR (w:=w) hp hk he hf;cases r' with
      | none=>exact A.elim
      | some q=>
      obtain⟨j,y⟩:=q;obtain⟨rfl,hy⟩:=A
      obtain⟨w',r,inv,st⟩:=hi.Bz (P:=P) (clock':=clock) (es':=wX es i) (ys:=ys.eraseIdxIfInBounds i) hb hl (by
       rw[Array.toList_eraseIdxIfInBounds,zE];exact he.erase i)
      refine⟨w',?_,inv,st⟩;simp only[Builtin.delete_,E,List.getElem?_toArray,List.getElem?_cons_zero,List.getElem?_cons_succ,sB_,run_underlying hu,rA,run_getObj_map F,hck,g1,r,sP_]
     ·rename_i hf;cases h;obtain⟨r',g1,A⟩:=mR (w:=w) hp hk he hf;cases r' with
      | some q=>exact A.elim
      | none=>
      obtain⟨w',r,inv,st⟩:=hi.Bz (P:=P) (clock':=clock) (es':=es) (ys:=ys) hb hl he;refine⟨w',?_,inv,st⟩;simp only[Builtin.delete_,E,List.getElem?_toArray,List.getElem?_cons_zero,List.getElem?_cons_succ,sB_,run_underlying hu,rA,run_getObj_map F,hck,g1,r,sP_]
     cases h
    cases h
   cases h
  cases h
 cases h
def HR.isVal:HR->Prop
 | .val ..=>True
 | .err _=>True
 | _=>False
theorem El (P:Program) (U:I) (ts:Array TypeId) (s x:V):(gh P U ts s x).isVal:=by
 unfold gh;simp only[bL,grow]
 repeat' (first | trivial | split)
theorem Cc (P:Program) (U:I) (ts:Array TypeId) (s x:V):(pc P U ts s x).isVal:=by
 unfold pc;simp only[bL,grow]
 repeat' (first | trivial | split)
theorem I6 (P:Program) (U:I) (ts:Array TypeId) (s x:V):(sb P U ts s x).isVal:=by
 unfold sb;simp only[bL]
 repeat' (first | trivial | split)
theorem CQ {ov:Nat->Bool} (aa:∀g,ov g=true->su P g) (hi:Inv S U w) {ev:Operand->Option V} {f:Operand->Value} {o:Oper} {r:HR} (F:ER S ev f o.op) (h:gK P ov ev U o.op=r) (W:∀n,r≠ .err n):
  yU P S U w r ((execOp f o).run P w):=by
 cases G:o.op with
 | store t x y=>
  rw[G] at h F;simp only[gK] at h;cases hx:ev x with
  | none=>grind
  | some a=>
  cases hy:ev y with
  | none=>grind
  | some v=>
  rw[hx,hy] at h;dsimp only at h;cases X:yG P U t a v with
  | none=>grind
  | some U'=>
   rw[X] at h;subst h;obtain⟨w',r,inv,st⟩:=DF (P:=P) hi X (F x (by simp[Op.operands]) a hx) (F y (by simp[Op.operands]) v hy);have:(execOp f o).run P w= .ok .skip w':=by grind [execOp,sB_,rA,sP_]
   rw[this];exact .skip inv st
 | mapUpdate t m k x=>
  rw[G] at h F;simp only[gK] at h;cases hm:ev m with
  | none=>grind
  | some a=>
  cases hk:ev k with
  | none=>grind
  | some b=>
  cases hx:ev x with
  | none=>grind
  | some v=>
  rw[hm,hk,hx] at h;dsimp only at h;cases X:nL P U t a b v with
  | none=>grind
  | some U'=>
   rw[X] at h;subst h;obtain⟨w',r,inv,st⟩:=tW (P:=P) hi X (F m (by simp[Op.operands]) a hm) (F k (by simp[Op.operands]) b hk) (F x (by simp[Op.operands]) v hx);have:(execOp f o).run P w= .ok .skip w':=by grind [execOp,sB_,rA,sP_]
   rw[this];exact .skip inv st
 | insert t m k x=>
  rw[G] at h F;simp only[gK] at h;cases hm:ev m with
  | none=>grind
  | some a=>
  cases hk:ev k with
  | none=>grind
  | some b=>
  cases hx:ev x with
  | none=>grind
  | some v=>
  rw[hm,hk,hx] at h;dsimp only at h;cases X:nL P U t a b v with
  | none=>grind
  | some U'=>
   rw[X] at h;subst h;obtain⟨w',r,inv,st⟩:=tW (P:=P) hi X (F m (by simp[Op.operands]) a hm) (F k (by simp[Op.operands]) b hk) (F x (by simp[Op.operands]) v hx);have:(execOp f o).run P w= .ok .skip w':=by grind [execOp,sB_,rA,sP_]
   rw[this];exact .skip inv st
 | call c=>
  rw[G] at h F;simp only[gK] at h;split at h
  ·rename_i g u;split at h
   ·rename_i u1 u2 y args hg K;have C:∀x∈c.args.toList,∀v,ev x=some v->VR S v (f x):=fun x hx=>F x (by grind [Op.operands,Call.operands])
    have:=IY (P:=P) (w:=w) aa hi h W (F g (by simp[Op.operands,Call.operands,u]) y hg) (xs:=c.args.map f) (by simpa using iy K C);simpa only[execOp,G,resolve,u] using this
   grind
  ·rename_i u;split at h
   ·rename_i u1 s x K;subst h;have C:∀x∈c.args.toList,∀v,ev x=some v->VR S v (f x):=fun x hx=>F x (by simp[Op.operands,Call.operands,u];simpa using hx)
    obtain⟨ys,rs,e,h1,Q⟩:=(iy K C).cons_inv;obtain⟨yx,rs',rfl,h3,h4⟩:=Q.cons_inv;have:=h4.fb;subst this;have A:c.args.map f= #[ys,yx]:=by grind
    rw[bL] at W;rw[bL];split at W
    ·rename_i hc;rw[if_pos hc];have hv:=El P U c.argTypes s x;cases E:gh P U c.argTypes s x with
     | val v U'=>
      obtain⟨z,w',S',g1,R,L,M⟩:=AB (P:=P) (ty:=o.type) hi E h1 h3
      have:(execOp f o).run P w= .ok (.value z) w':=by
       simp only[execOp,G,resolve,u,A,sB_,sP_,rA,invoke,builtin,g1]
      rw[this];exact .val R L M
     | err n=>simp_all
     | _=>rw[E] at hv;exact hv.elim
    rename_i hc;rw[if_neg hc];have hv:=Cc P U c.argTypes s x;cases E:pc P U c.argTypes s x with
    | val v U'=>
     obtain⟨z,w',S',g1,R,L,M⟩:=yW (P:=P) (ty:=o.type) hi E h1 h3
     have:(execOp f o).run P w= .ok (.value z) w':=by
      simp only[execOp,G,resolve,u,A,sB_,sP_,rA,invoke,builtin,g1]
     rw[this];exact .val R L M
    | err n=>simp_all
    | _=>rw[E] at hv;exact hv.elim
   grind
  ·rename_i u;split at h
   ·rename_i u1 s x K;have C:∀x∈c.args.toList,∀v,ev x=some v->VR S v (f x):=fun x hx=>F x (by simp[Op.operands,Call.operands,u];simpa using hx)
    obtain⟨ys,rs,e,h1,Q⟩:=(iy K C).cons_inv;obtain⟨yx,rs',rfl,h3,h4⟩:=Q.cons_inv;have:=h4.fb;subst this;have A:c.args.map f= #[ys,yx]:=by grind
    cases E:rk P U c.argTypes s x with
    | none=>grind
    | some U'=>
     rw[E] at h;subst h;obtain⟨w',g1,L,M⟩:=AL (P:=P) (ty:=o.type) hi E h1 h3
     have:(execOp f o).run P w= .ok (.value (.tuple #[])) w':=by
      simp only[execOp,G,resolve,u,A,sB_,sP_,rA,invoke,builtin,g1]
     rw[this];exact .val (by simp only[VR];simp_all) L M
   grind
  ·rename_i u;split at h
   ·rename_i u1 s x K;subst h;have C:∀x∈c.args.toList,∀v,ev x=some v->VR S v (f x):=fun x hx=>F x (by simp[Op.operands,Call.operands,u];simpa using hx)
    obtain⟨ys,rs,e,h1,Q⟩:=(iy K C).cons_inv;obtain⟨yx,rs',rfl,h3,h4⟩:=Q.cons_inv;have:=h4.fb;subst this;have A:c.args.map f= #[ys,yx]:=by grind
    have hv:=I6 P U c.argTypes s x;cases E:sb P U c.argTypes s x with
    | val v U'=>
     obtain⟨z,w',S',g1,R,L,M⟩:=Ey (P:=P) (ty:=o.type) hi E h1 h3
     have:(execOp f o).run P w= .ok (.value z) w':=by
      simp only[execOp,G,resolve,u,A,sB_,sP_,rA,invoke,builtin,g1]
     rw[this];exact .val R L M
    | err n=>simp_all
    | _=>rw[E] at hv;exact hv.elim
   grind
  ·rename_i u;split at h
   ·rename_i u1 x K;have C:∀x∈c.args.toList,∀v,ev x=some v->VR S v (f x):=fun x hx=>F x (by simp[Op.operands,Call.operands,u];simpa using hx)
    obtain⟨ys,rs,e,h1,Q⟩:=(iy K C).cons_inv;have:=Q.fb;subst this;have A:c.args.map f= #[ys]:=by grind
    cases E:AJ P U c.argTypes x with
    | none=>grind
    | some U'=>
     rw[E] at h;subst h;obtain⟨w',g1,L,M⟩:=Cr (P:=P) (ty:=o.type) hi E h1
     have:(execOp f o).run P w= .ok (.value (.tuple #[])) w':=by
      simp only[execOp,G,resolve,u,A,sB_,sP_,rA,invoke,builtin,g1]
     rw[this];exact .val (by simp only[VR];simp_all) L M
   grind
  ·rename_i u;split at h
   ·rename_i u1 x K;have C:∀x∈c.args.toList,∀v,ev x=some v->VR S v (f x):=fun x hx=>F x (by simp[Op.operands,Call.operands,u];simpa using hx)
    obtain⟨ys,rs,e,h1,Q⟩:=(iy K C).cons_inv;have:=Q.fb;subst this;have A:c.args.map f= #[ys]:=by grind
    cases E:Ge x with
    | none=>grind
    | some v=>
     rw[E] at h;subst h;obtain⟨z,g1,R⟩:=EH (P:=P) (w:=w) (ts:=c.argTypes) (ty:=o.type) E h1
     have:(execOp f o).run P w= .ok (.value z) w:=by
      simp only[execOp,G,resolve,u,A,sB_,sP_,rA,invoke,builtin,g1]
     rw[this];exact .val R hi<|fj.refl _ _ _
   grind
  ·rename_i u;split at h
   ·rename_i u1 s x K;have C:∀x∈c.args.toList,∀v,ev x=some v->VR S v (f x):=fun x hx=>F x (by simp[Op.operands,Call.operands,u];simpa using hx)
    obtain⟨ys,rs,e,h1,Q⟩:=(iy K C).cons_inv;obtain⟨yx,rs',rfl,h3,h4⟩:=Q.cons_inv;have:=h4.fb;subst this;have A:c.args.map f= #[ys,yx]:=by grind
    cases E:Ha P U c.argTypes[0]? s x with
    | none=>grind
    | some q=>
     obtain⟨q,U'⟩:=q;rw[E] at h;subst h;obtain⟨z,w',g1,R,L,M⟩:=FK (P:=P) (ty:=o.type) hi E h1 h3
     have:(execOp f o).run P w= .ok (.value z) w':=by
      simp only[execOp,G,resolve,u,A,sB_,sP_,rA,invoke,builtin,g1]
     rw[this];exact .val R L M
   grind
  grind
 | convert src dst x=>
  rw[G] at h F;simp only[gK] at h;cases hx:ev x with
  | none=>grind
  | some a=>
   rw[hx] at h;dsimp only at h;cases E:mM P U src dst a with
   | val v U'=>
    rw[E] at h;subst h;obtain⟨z,w',S',g1,R,L,M⟩:=Cl (P:=P) hi E (F x (by simp[Op.operands]) a hx);have:(execOp f o).run P w= .ok (.value z) w':=by grind [execOp,sB_,rA,sP_]
    rw[this];exact .val R L M
   | err n=>grind
   | skip U'=>exact absurd E (sA P U src dst a 0 [] U').2.2
   | enter g args U'=>exact absurd E (sA P U src dst a g args U').1
   | round g args U'=>exact absurd E (sA P U src dst a g args U').2.1
   | m9 q U'=>exact absurd E (Ep P U src dst a q U')
 | panic x=>
  rw[G] at h F;simp only[gK] at h;split at h
  ·rename_i t v hx;subst h;have hv:=F x (by simp[Op.operands]) _ hx;have hv':=hv;simp only[VR] at hv';obtain⟨y,hf,_⟩:=hv'
   have:(execOp f o).run P w= .halt (.panic<|f x) w:=by
    simp only[execOp,G,hf,Instr.panic,sB_];rfl
   rw[this];exact .m9 hv
  grind
 | _=>rw[G] at h;exact absurd h.symm<|W 16
end
inductive Ex where
 | normal
 | exit (id:Nat)
 | goto (l:Nat)
 | ret
 | m9 (v:V)
inductive DE where
 | mark (b:Pos)
 | call (f:Nat) (args ca:List V)
inductive CR where
 | ok (e:Ex) (t:PT V) (d:List DE) (U:I)
 | err (n:Nat)
inductive KR where
 | ret (v:V) (U:I)
 | m9 (v:V) (U:I)
 | err (n:Nat)
inductive Kind where
 | pure | read | alloc | kN
def isMap (P:Program) (t:Option TypeId):Bool:=
 match t with
 | some t=>match P.underlying t with | some (.map _ _)=>true | _=>false
 | none=>false
def toStr (P:Program) (src dst:TypeId):Bool:=
 match pT P src,pT P dst with
 | some (.slice _),some .string=>true
 | some (.pointer _),some .unsafePointer=>true
 | some .unsafePointer,some (.pointer _)=>true
 | _,_=>false
def ofStr (P:Program) (src dst:TypeId):Bool:=
 match pT P src,pT P dst with
 | some .string,some (.slice _)=>true
 | _,_=>false
def kindOf (P:Program):Op->Kind
 | .convert src dst _=>bif toStr P src dst then .read else(bif ofStr P src dst then .kN else .pure)
 | .load .. | .lookup ..=>.read
 | .alloc .. | .box .. | .buildSlice .. | .makeSlice .. | .makeMap ..=>.alloc
 | .store .. | .mapUpdate .. | .insert ..=>.kN
 | .call c=>match c.callee with
  | .builtin .len=>bif isMap P c.argTypes[0]? then .read else .pure
  | .builtin .min | .builtin .max | .builtin .cap=>.pure
  | _=>.kN
 | .defer _ | .panic _=>.kN
 | _=>.pure
structure ME where
 f:Nat
 args:List V
 next:Nat
 l:List (Nat×cM)
 v:V
 next':Nat
 l':List (Nat×cM)
structure Cx where
 gl:Nat
 ov:Nat->Bool
 fk:Nat->Bool
 IL:Nat->List V->Option V
 laid:List (Nat×List V)
 mem:List Nat:=[]
 stop:Nat->List V->I->Option Nat:=fun _ _ _=>none
 II:Nat->List V->I->Option V:=fun _ _ _=>none
def bI (G:Cx) (t:PT V):Operand->Option V
 | .tmp k=>t.get (posOf k)
 | .const v=>qF v
 | .global g=>bif Nat.ble (Nat.succ g) G.gl then some (.ptr (posOf g) 0) else none
 | .func f=>some (.func f [] [])
def z7:Op->Nat
 | .move ..=>1
 | .assign ..=>2
 | .pick ..=>3
 | .alloc ..=>4
 | .box ..=>5
 | .build ..=>6
 | .buildSlice ..=>7
 | .insert ..=>8
 | .load ..=>9
 | .store ..=>10
 | .ready ..=>11
 | .waits ..=>12
 | .nilCheck ..=>13
 | .binOp ..=>14
 | .unOp ..=>15
 | .convert ..=>16
 | .sliceToArrayPointer ..=>17
 | .makeInterface ..=>18
 | .makeFunc ..=>19
 | .makeMap ..=>20
 | .makeChan ..=>21
 | .makeSlice ..=>22
 | .slice ..=>23
 | .fieldAddr ..=>24
 | .field ..=>25
 | .indexAddr ..=>26
 | .index ..=>27
 | .lookup ..=>28
 | .mapUpdate ..=>29
 | .mapEntry ..=>30
 | .entryStore ..=>31
 | .range ..=>32
 | .next ..=>33
 | .entry ..=>34
 | .typeAssert ..=>35
 | .extract ..=>36
 | .call ..=>37
 | .go ..=>38
 | .defer ..=>39
 | .panic ..=>40
 | .send ..=>41
 | .recv ..=>42
 | .select ..=>43
def dX (P:Program) (G:Cx) (ev:Operand->Option V) (U:I) (op:Op):HR:=
 match kindOf P op with
 | .pure=>match di P ev op with | some v=>.val v U | none=>.err (Nat.add 1000<|z7 op)
 | .read=>match hJ P ev U op with | some v=>.val v U | none=>.err (Nat.add 2000<|z7 op)
 | .alloc=>match fO P ev op with | some (ob,mk)=>.val (mk.of U.next) (U.alloc ob) | none=>.err (Nat.add 3000<|z7 op)
 | .kN=>gK P G.ov ev U op
def dG (t:PT V) (n:Nat) (dst:Option Nat) (v:V):Option (PT V):=
 match dst with
 | none=>some t
 | some k=>bif Nat.ble (Nat.succ k) n then some (t.put (some v)<|posOf k) else none
def unit:V:=.tuple []
def bS (ops:Array Oper) (t:PT V) (o:Oper):Option Bool:=
 match o.guard with
 | none=>some true
 | some (j,want)=>match(ops[j]?).bind (·.dst) with
  | some k=>match t.get (posOf k) with
   | some (.bool b)=>some (bif b then want else(bif want then false else true))
   | some (.tuple _)=>some false
   | _=>none
  | none=>some false
abbrev lD:=Code->PT V->Nat->List DE->Option Pos->I->CR
def r6 (n:Nat) (args:List V):Option (PT V):=
 List.rec (motive:=fun _=>Nat->PT V->Option (PT V)) (fun _ t=>some t) (fun v _ ih k t=>match dG t n (some k) v with | some t'=>ih (Nat.succ k) t' | none=>none) args 0 .leaf
def fS (P:Program) (t:PT V) (U:I):ResultVar->Option V
 | .tmp k=>t.get (posOf k)
 | .cell k ty=>match t.get (posOf k) with
  | some (.ptr b off)=>match U.m.get b with
   | some (.row cells _ _)=>match dO P ty with
    | some (some n)=>bif Nat.ble (off+n) (cY cells) then some (.agg<|takeN (dP cells off) n) else none
    | some none=>nth cells off
    | none=>none
   | _=>none
  | _=>none
def fg (P:Program) (fn:Func) (t:PT V) (U:I):Option V:=
 match cU (fS P t U) fn.results.toList with
 | some [v]=>some v
 | some vs=>some (.tuple vs)
 | none=>none
inductive Md where
 | ret
 | m9 (v:V)
 | QM (v:V)
def xK (P:Program) (G:Cx) (ih:lD) (d:List DE) (md:Md) (U:I):Option (Md×I):=
 match d with
 | []=>some (md,U)
 | _=>none
def y7 (P:Program) (G:Cx) (ih:lD) (fn:Func) (md:Md) (t:PT V) (d:List DE) (U:I):KR:=
 match xK P G ih d md U with
 | some (.ret,U)=>match fg P fn t U with | some v=>.ret v U | none=>.err 70
 | some (.m9 v,U)=>.m9 v U
 | _=>.err 71
def lG (P:Program) (G:Cx) (ih:lD) (f:Nat) (args:List V) (U:I):KR:=
 match P.funcs[f]? with
 | some fn=>match fn.body,r6 fn.ntmps args with
  | some c,some t=>match ih c t fn.ntmps [] none U with
   | .ok .normal t d U=>y7 P G ih fn .ret t d U
   | .ok .ret t d U=>y7 P G ih fn .ret t d U
   | .ok (.m9 v) t d U=>y7 P G ih fn (.m9 v) t d U
   | .err k=>.err k
   | _=>.err 72
  | _,_=>.err 73
 | none=>.err 74
def sS (r:KR):KR:=
 match r with
 | .m9 _ _=>.err 69
 | r=>r
def nC:V->Bool
 | .bool _ | .int _ _ | .str _ | .nilPtr | .au | .jg | .nilFunc | .nilIface=>true
 | _=>false
def eO (l:List V):Bool:=List.rec (motive:=fun _=>Bool) true (fun v _ r=>bif nC v then r else false) l
def AQ (x y:V):Bool:=
 match x,y with
 | .bool a,.bool b=>bif a then b else(bif b then false else true)
 | .int j a,.int k b=>s7 j k && D a b
 | .str a,.str b=>gY a b
 | .nilPtr,.nilPtr=>true
 | .au,.au=>true
 | .jg,.jg=>true
 | .nilFunc,.nilFunc=>true
 | .nilIface,.nilIface=>true
 | _,_=>false
def lk (xs ys:List V):Bool:=
 List.rec (motive:=fun _=>List V->Bool) (fun ys=>List.rec (motive:=fun _=>Bool) true (fun _ _ _=>false) ys)
  (fun x _ ih ys=>List.rec (motive:=fun _=>Bool) false (fun y r _=>bif AQ x y then ih r else false) ys) xs ys
def GQ (n:Nat) (v:V):List V:=Nat.rec (motive:=fun _=>List V) [] (fun _ l=>v::l) n
def ft (U:I) (b:Pos) (o:cM) (vb:Pos) (o':cM):I:={next:=U.next,m:=(PT.leaf.put (some o) b).put (some o') vb}
def rv (vb:Pos) (vc:List V) (ve e sz:Nat) (r:KR) (ok:qf->Nat->Bool):Option (Nat×List V):=
 match r with
 | .ret (.slice b1 o1 n1 c1) σ1=>
  match σ1.m.get b1,σ1.m.get vb with
  | some (.row cs1 e1 false),some (.row vc1 ve1 false)=>
   bif ok c1 n1 && ((bif kA b1 vb then false else true) && (lk vc vc1 && (Nat.beq ve ve1 && (Nat.beq e e1 && (Nat.ble 1 n1 && (Nat.ble (o1+n1*sz) (cY cs1) && eO (takeN (dP cs1 o1) (n1*sz)))))))) then
    some (n1,takeN (dP cs1 o1) (n1*sz))
   else none
  | _,_=>none
 | _=>none
def E6 (sz:Nat) (c:qf) (_:Nat):Bool:=
 match c with
 | .upto s=>Nat.beq s sz
 | _=>false
def A0 (sz:Nat) (c:qf) (n:Nat):Bool:=
 match c with
 | .least a s=>Nat.beq s sz && Nat.ble n a
 | _=>false
def Gj (P:Program) (G:Cx) (ih:lD) (f:Nat) (args:List V) (U:I):KR:=
 match args with
 | [.slice b off n (.upto sz),i,.slice vb voff m (.known mc)]=>
  match U.m.get b,U.m.get vb with
  | some (.row cells e false),some (.row vc ve false)=>
   bif (bif kA b vb then false else true) && (Nat.ble 1 n && (Nat.beq m 1 && (nC i && (eO vc && Nat.ble (off+n*sz) (cY cells))))) then
    match rv vb vc ve e sz (lG P G ih f [.slice b off n (.known n),i,.slice vb voff m (.known mc)]<|ft U b (.row cells e false) vb (.row vc ve false)) (E6 sz),
     rv vb vc ve e sz (lG P G ih f [.slice b off n (.least (Nat.succ n) sz),i,.slice vb voff m (.known mc)]<|ft U b (.row (im (takeN cells (off+n*sz))<|GQ sz .any) e false) vb (.row vc ve false)) (A0 sz) with
    | some (n1,r1),some (n2,r2)=>bif Nat.beq n1 n2 && lk r1 r2 then .ret (.slice U.next 0 n1 (.upto sz)) ((U.drop b).alloc (.row r1 e false)) else .err 75
    | _,_=>.err 76
   else .err 77
  | _,_=>.err 78
 | _=>lG P G ih f args U
def nY (gl:Nat) (U:I) (l:List (Nat×List V)):Bool:=
 List.rec (motive:=fun _=>Bool) true (fun x _ r=>bif Nat.ble (Nat.succ x.1) gl then(match U.m.get x.1 with
  | some (.row cells _ true)=>bif eO x.2 then(bif lk cells x.2 then r else false) else false
  | _=>false) else false) l
def dZ (x y:V):Bool:=
 match x,y with
 | .agg xs,.agg ys=>beqL xs ys
 | x,y=>eI x y
where
 beqP (p q:Pos):Bool:=Nat.beq p q
 beqC (c d:qf):Bool:=
  match c,d with
  | .known a,.known b=>Nat.beq a b
  | .upto a,.upto b=>Nat.beq a b
  | _,_=>false
 eI (x y:V):Bool:=
  match x,y with
  | .bool a,.bool b=>bif a then b else(bif b then false else true)
  | .int j a,.int k b=>s7 j k && D a b
  | .str a,.str b=>gY a b
  | .nilPtr,.nilPtr=>true
  | .tok a,.tok b=>Nat.beq a b
  | .ptr b o,.ptr b' o'=>beqP b b' && Nat.beq o o'
  | .au,.au=>true
  | .slice b o l c,.slice b' o' l' c'=>beqP b b' && Nat.beq o o' && Nat.beq l l' && beqC c c'
  | .jg,.jg=>true
  | .map b,.map b'=>beqP b b'
  | .nilFunc,.nilFunc=>true
  | .nilIface,.nilIface=>true
  | .func f [] [],.func g [] []=>Nat.beq f g
  | .func f [] [.ptr b o],.func g [] [.ptr b' o']=>Nat.beq f g && beqP b b' && Nat.beq o o'
  | _,_=>false
 beqL (xs ys:List V):Bool:=
  List.rec (motive:=fun _=>List V->Bool) (fun ys=>List.rec (motive:=fun _=>Bool) true (fun _ _ _=>false) ys)
   (fun x _ ih ys=>List.rec (motive:=fun _=>Bool) false (fun y r _=>bif eI x y then ih r else false) ys) xs ys
def JT (l:List (Nat×List V)) (E:Nat->TypeId):PT cM:=l.foldl (fun m x=>m.put (some (.row x.2 (E x.1) true)) (posOf x.1)) .leaf
def atEnd (args:List V):Bool:=
 match args with
 | [.slice _ _ n _,.int _ (.ofNat j),_]=>Nat.beq j n
 | _=>false
def qx (P:Program) (G:Cx) (ih:lD) (f:Nat) (args:List V) (U:I):KR:=bif atEnd args then lG P G ih f args U else Gj P G ih f args U
def mN (P:Program) (G:Cx) (ih:lD) (f:Nat) (args:List V) (U:I):KR:=
 match G.II f args U with
 | some v=>bif nC v then .ret v U else .err 78
 | none=>match G.IL f args with
 | some v=>bif eO args && (nC v && nY G.gl U G.laid) then .ret v U else .err 79
 | none=>match G.stop f args U with
   | some c=>.err c
   | none=>bif G.fk f then sS (qx P G ih f args U) else lG P G ih f args U
def mh (P:Program) (G:Cx) (ih:lD) (r:HR):KR:=
 match r with
 | .val v U=>.ret v U
 | .skip U=>.ret unit U
 | .enter f args U=>mN P G ih f args U
 | .round _ _ _=>.err 66
 | .m9 v U=>.m9 v U
 | .err e=>.err e
def MD (pn:Bool) (v:V) (t:PT V) (U:I):CR:=bif pn then .ok (.m9 v) t [] U else .err 69
def jx (P:Program) (G:Cx) (ih:lD) (pn:Bool) (ops:Array Oper) (n:Nat) (o:Oper) (t:PT V) (U:I) (k:PT V->I->CR):CR:=
 match bS ops t o with
 | some true=>match mh P G ih (dX P G (bI G t) U o.op) with
  | .ret v U'=>match dG t n o.dst v with | some t'=>k t' U' | none=>.err 80
  | .m9 v U'=>MD pn v t U'
  | .err e=>.err e
 | some false=>match dG t n o.dst unit with | some t'=>k t' U | none=>.err 84
 | none=>.err 85
def uI (P:Program) (G:Cx) (ih:lD) (ops:Array Oper) (n:Nat) (d:List DE) (l:List Oper):PT V->I->CR:=
 List.rec (motive:=fun _=>PT V->I->CR) (fun t U=>.ok .normal t d U)
  (fun o _ k t U=>jx P G ih true ops n o t U k) l
def sy (A:Array Nat) (i j:Nat):Bool:=(A.getD i 0).testBit j
def waits (ops:Array Oper) (i j:Nat):Bool:=((ops[i]?).map fun o=>o.after.any fun e=>Region.binds .any e && e.on == j).getD false
def E3:Kind->Bool
 | .kN=>true
 | _=>false
def uC:Kind->Bool
 | .read | .alloc=>true
 | _=>false
def km (P:Program) (ops:Array Oper) (i:Nat):Bool:=match(ops[i]?).map fun o=>kindOf P o.op with | some k=>E3 k | none=>false
def gy (P:Program) (ops:Array Oper) (i:Nat):Bool:=match(ops[i]?).map fun o=>kindOf P o.op with | some k=>uC k | none=>false
def slotsOf (ops:Array Oper) (o:Oper):List Nat:=
 (o.op.operands.toList.filterMap fun | .tmp k=>some k | _=>none)++(match o.guard with | some (j,_)=>((ops[j]?).bind (·.dst)).toList | none=>[])
def fv (ops:Array Oper) (i:Nat):Option Nat:=(ops[i]?).bind (·.dst)
def bit (i:Nat):Nat:=Nat.shiftLeft 1 i
def hasB (m i:Nat):Bool:=Nat.beq (Nat.land (Nat.shiftRight m i) 1) 1
def BE (m k:Nat):Bool:=Nat.beq (Nat.land m k) m
def n8 (l:List Nat):Nat:=List.rec (motive:=fun _=>Nat) 0 (fun i _ r=>Nat.lor (bit i) r) l
structure Row where
 w:Nat
 h:Bool
 k:Bool
 d:Option Nat
 dm:Nat
 s:Nat
def yt (P:Program) (ops:Array Oper) (o:Oper):Row:=
 {w:=n8 (o.after.toList.filterMap fun e=>if Region.binds .any e=true then some e.on else none),h:=E3<|kindOf P o.op,k:=uC<|kindOf P o.op,d:=o.dst,dm:=n8 o.dst.toList,s:=n8 (slotsOf ops o)}
structure RA where
 r:Row
 a:Nat
def xW (L:List RA):Nat->Nat:=
 List.rec (motive:=fun _=>Nat->Nat) (fun _=>0) (fun x _ ih w=>Nat.lor (Bool.rec (motive:=fun _=>Nat) 0 x.a<|Nat.beq (Nat.land w 1) 1) (ih<|Nat.shiftRight w 1)) L
def Kp (rows:List Row):List RA->List RA:=
 List.rec (motive:=fun _=>List RA->List RA) (fun L=>L) (fun r _ ih L=>ih (im L [⟨r,Nat.lor r.w<|xW L r.w⟩])) rows
def jR (P:Program) (ops:Array Oper):List RA:=Kp (zc (yt P ops) ops.toList) []
def allI {α:Type} (f:Nat->α->Bool) (l:List α):Nat->Bool:=List.rec (motive:=fun _=>Nat->Bool) (fun _=>true) (fun x _ ih i=>Bool.rec (motive:=fun _=>Bool) false (ih<|Nat.succ i) (f i x)) l
def Ns {α:Type} (f:Nat->α->Bool) (l:List α):Nat->Option Nat:=List.rec (motive:=fun _=>Nat->Option Nat) (fun _=>none) (fun x _ ih i=>Bool.rec (motive:=fun _=>Option Nat) (ih<|Nat.succ i) (some i) (f i x)) l
def Pf {α:Type} (f:Nat->α->Bool) (l:List α):Nat->List Nat:=List.rec (motive:=fun _=>Nat->List Nat) (fun _=>[]) (fun x _ ih i=>Bool.rec (motive:=fun _=>List Nat) (ih<|Nat.succ i) (i::ih (Nat.succ i)) (f i x)) l
def Dg (i:Nat) (x:RA) (j:Nat) (y:RA):Bool:=
 Option.rec (motive:=fun _=>Bool) true (fun k=>bif (bif hasB x.r.dm k then Nat.beq j i else true) then(bif hasB x.r.s k then(bif hasB x.a j then true else(bif x.r.k then false else(bif Nat.beq j i then true else hasB y.a i))) else true) else false) y.r.d
def Kk (i:Nat) (x:RA) (j:Nat) (y:RA):Bool:=Bool.rec (motive:=fun _=>Bool) (Dg i x j y) true (Nat.beq (Nat.land (Nat.lor x.r.dm x.r.s) y.r.dm) 0)
def Kz (L:List RA) (n:Nat):Bool:=
 allI (fun i x=>bif Nat.blt x.r.w (bit n) then(bif (bif x.r.k then x.r.d.isSome else true) then(bif BE x.a (Nat.lor x.r.w<|xW L x.r.w) then allI (Kk i x) L 0 else false) else false) else false) L 0
def Ps (L:List RA) (fuel:Nat):Nat->List (Nat×List Nat):=
 Nat.rec (motive:=fun _=>Nat->List (Nat×List Nat)) (fun _=>[])
  (fun _ ih D_=>Option.rec (motive:=fun _=>List (Nat×List Nat))
   (Option.rec (motive:=fun _=>List (Nat×List Nat)) [] (fun i=>(i,Option.rec (motive:=fun _=>List Nat) [] (fun x=>Pf (fun j y=>bif hasB D_ j then(bif y.r.k then(bif hasB x.a j then false else true) else false) else false) L 0) (nth L i))::ih (Nat.lor D_ (bit i)))
   <|Ns (fun i x=>Bool.rec (motive:=fun _=>Bool) (BE x.r.w D_) false (hasB D_ i)) L 0)
   (fun i=>(i,[])::ih (Nat.lor D_<|bit i))<|Ns (fun i x=>Bool.rec (motive:=fun _=>Bool) (Bool.rec (motive:=fun _=>Bool) (BE x.r.w D_) false x.r.h) false (hasB D_ i)) L 0) fuel
def JL (L:List RA) (i:Nat) (rc:List Nat) (D_:Nat) (x:RA):Bool:=
 bif hasB D_ i then false else(bif BE x.r.w D_ then(bif x.r.h then allI (fun j y=>bif hasB D_ j then(bif hasB x.a j then true else(bif y.r.k then hasB (n8 rc) j else true)) else(bif Nat.beq j i then true else(bif BE y.r.w D_ then false else true))) L 0 else true) else false)
def Et (L:List RA) (n:Nat) (p:List (Nat×List Nat)):Nat->Bool:=
 List.rec (motive:=fun _=>Nat->Bool) (fun D_=>Nat.beq D_ (Nat.sub (bit n) 1))
  (fun p _ ih D_=>Option.rec (motive:=fun _=>Bool) false (fun x=>bif JL L p.1 p.2 D_ x then ih (Nat.lor D_<|bit p.1) else false) (nth L p.1)) p
def j1 (P:Program) (ops:Array Oper):List (Nat×List Nat):=Ps (jR P ops) ops.size 0
def uy (P:Program) (ops:Array Oper):Bool:=bif Kz (jR P ops) ops.size then Et (jR P ops) ops.size (j1 P ops) 0 else false
def jJ (P:Program) (G:Cx) (ops:Array Oper) (t:PT V) (U:I) (i:Nat):Bool:=
 match ops[i]? with
 | some o=>match bS ops t o with
  | some true=>match o.dst with
   | some k=>match t.get (posOf k) with
    | some v=>match kindOf P o.op with
     | .read=>match hJ P (bI G t) U o.op with | some u=>dZ u v | none=>false
     | .alloc=>match fO P (bI G t) o.op,v with
      | some (.row cs e false,.ptr),.ptr b 0=>match U.m.get b with | some (.row cs' e' false)=>Nat.beq e e' && dZ.beqL cs cs' | _=>false
      | some (.row cs e false,.slice n c),.slice b 0 n' (.known c')=>match U.m.get b with | some (.row cs' e' false)=>Nat.beq e e' && dZ.beqL cs cs' && Nat.beq n n' && Nat.beq c c' | _=>false
      | _,_=>false
     | _=>false
    | none=>false
   | none=>false
  | some false=>true
  | none=>false
 | none=>false
def dk (P:Program) (G:Cx) (ops:Array Oper) (t:PT V) (U:I) (l:List Nat):Bool:=
 List.rec (motive:=fun _=>Bool) true (fun i _ r=>bif jJ P G ops t U i then r else false) l
def kx (P:Program) (G:Cx) (ih:lD) (ops:Array Oper) (n:Nat) (d:List DE) (l:List (Nat×List Nat)):PT V->I->CR:=
 List.rec (motive:=fun _=>PT V->I->CR) (fun t U=>.ok .normal t d U)
  (fun p _ k t U=>match ops[p.1]? with
   | some o=>jx P G ih false ops n o t U (fun t' U'=>bif dk P G ops t' U' p.2 then k t' U' else .err 86)
   | none=>.err 87) l
def vw (P:Program) (G:Cx) (ih:lD) (ops:Array Oper) (n:Nat) (d:List DE) (t:PT V) (U:I):CR:=
 bif uy P ops then kx P G ih ops n d (j1 P ops) t U else .err 88
def zy (c:Option V) (x y:CR):CR:=
 match c with
 | some (.bool true)=>x
 | some (.bool false)=>y
 | _=>.err 90
def zh (r:CR) (k:PT V->List DE->I->CR):CR:=
 match r with
 | .ok .normal t d U=>k t d U
 | r=>r
def ui (id:Nat) (r:CR):CR:=
 match r with
 | .ok (.exit j) t d U=>bif Nat.beq j id then .ok .normal t d U else .ok (.exit j) t d U
 | r=>r
def Fv (r:CR):CR:=
 match r with
 | .ok (.goto _) _ _ _=>.err 98
 | r=>r
def Pe (o:Oper):Bool:=
 match o.op with
 | .defer _=>true
 | _=>false
def mW (ops:List Oper):Bool:=ops.any Pe
def CI (d:List DE) (r:CR):CR:=
 match r with
 | .ok (.m9 v) t _ U=>.ok (.m9 v) t d U
 | r=>r
def GY (P:Program) (G:Cx) (ih:lD) (c:Code) (t:PT V) (n:Nat) (d:List DE) (ro:Option Pos) (U:I):CR:=
 match c with
 | .skip | .label _=>.ok .normal t d U
 | .region _ ops draw=>bif draw then vw P G ih ops n d t U else bif mW ops.toList then .err 96 else CI d (uI P G ih ops n d ops.toList t U)
 | .seq a b=>zh (ih a t n d ro U) (fun t d U=>ih b t n d ro U)
 | .cond c a b=>zy (bI G t c) (ih a t n d ro U) (ih b t n d ro U)
 | .block id b=>ui id (ih b t n d ro U)
 | .scope b=>Fv (ih b t n d ro U)
 | .loop b=>zh (ih b t n d ro U) (fun t d U=>ih (.loop b) t n d ro U)
 | .exit id=>.ok (.exit id) t d U
 | .ret=>.ok .ret t d U
 | _=>.err 99
def eB (P:Program) (G:Cx) (fuel:Nat):lD:=Nat.rec (motive:=fun _=>lD) (fun _ _ _ _ _ _=>.err 100) (fun _ ih=>GY P G ih) fuel
def xl (P:Program) (G:Cx) (fuel:Nat) (f:Nat) (args:List V) (U:I):KR:=mN P G (eB P G fuel) f args U
def pw:Option Nat->Fence
 | none=>Fence.wide
 | some l=>Fence.wide.inRound l
theorem rp (rl:Option Nat) (f:FuncId):(pw rl).fn f:=by cases rl<;>trivial
theorem ET (rl:Option Nat):(pw rl).depth=none:=by cases rl<;>rfl
theorem zH (rl:Option Nat) (m:Nat):(pw rl).depth.isSome=true->1<=m:=by rw[ET];intro h;cases h
theorem sM {m:Nat} {P:Program} {f:FuncId} {args:Array Value} {w:World} {R:Ending->World->Prop} (rl:Option Nat) (h:CallsIn Fence.wide m P f args w R):CallsIn (pw rl) m P f args w R:=by
 cases rl with
 | none=>exact h
 | some l=>exact h.inRound l
def DR (S:dg):List DE->List Deferred->Prop
 | [],ds=>ds= []
 | .mark b::d,ds=>∃l r,S b=some l/\ds= {target:=.collected l.dJ,args:= #[]}::r/\DR S d r
 | .call f args ca::d,ds=>∃(xs cs:Array Value) (r:List Deferred),ds= {target:=.fn (.func f) cs,args:=xs}::r/\dt S args xs.toList/\dt S ca cs.toList/\DR S d r
theorem DR.mono {S S':dg} (h:S.le S'):∀{d:List DE} {ds:List Deferred},DR S d ds->DR S' d ds
 | [],ds,u=>u
 | .mark b::d,ds,u=>let ⟨l,r,h1,z,A⟩:=u;⟨l,r,h _ _ h1,z,DR.mono h A⟩
 | .call f args ca::d,ds,u=>let ⟨xs,cs,r,h1,z,A,h4⟩:=u;⟨xs,cs,r,h1,dt.mono h _ _ z,dt.mono h _ _ A,DR.mono h h4⟩
def Rc (S:dg):Ex->Exit->Prop
 | .m9 v,E=>∃x,E= .panic [{v:=x,recovered:=false}]/\VR S v x
 | .normal,E=>E= .normal
 | .exit i,E=>E= .exit i
 | .goto i,E=>E= .goto i
 | .ret,E=>E= .ret
def Qx (Q:Exit->Act->World->Prop) (S:dg) (e:Ex) (a:Act) (w:World):Prop:=∀E,Rc S e E->Q E a w
def OV (S:dg):KR->Ending->Prop
 | .ret v _,e=>∃x,e= .returned x/\VR S v x
 | .m9 v _,e=>∃x,e= .panicked [{v:=x,recovered:=false}]/\VR S v x
 | .err _,_=>False
def KR.heap:KR->I
 | .ret _ U=>U
 | .m9 _ U=>U
 | .err _=>⟨0,.leaf⟩
def RO (S:dg):Option Pos->Option Nat->Prop
 | none,none=>True
 | some b,some l=>∃loc,S b=some loc/\loc.dJ=l
 | _,_=>False
theorem RO.mono {S S':dg} (h:S.le S'):∀{ro:Option Pos} {rl:Option Nat},RO S ro rl->RO S' ro rl
 | none,none,_=>trivial
 | some _,some _,⟨loc,h1,u⟩=>⟨loc,h _ _ h1,u⟩
def GR (S:dg) (G:Cx):Prop:=∀g,g<G.gl->∃c,S (posOf g)=some ⟨g,0,c⟩
theorem GR.mono {S S':dg} {G:Cx} (h:S.le S') (z:GR S G):GR S' G:=fun g u=>let ⟨c,hc⟩:=z g u;⟨c,h _ _ hc⟩
structure kJ (w w':World):Prop where
 os:w'.os=w.os
 out:w'.output=w.output
 tape:w'.tape=w.tape
 size:w.heap.size<=w'.heap.size
 same:∀r:Nat,r<w.heap.size->w'.heap[r]?=w.heap[r]?
def lO (w:World) (x:Nat×List V):Prop:=∃c e fr,w.heap[x.1]?=some (.cells c e fr)/\x.2.length<=c.size/\∀(i:Nat) (v:V),x.2[i]?=some v->∃y,c[i]?=some y/\VR (fun _=>none) v y
def FY (P:Program) (gl:Nat) (laid:List (Nat×List V)) (f:Nat) (args:List V) (v:V):Prop:=
 ∀(w:World) (xs:Array Value),gl<=w.heap.size->IP w->(∀x∈laid,lO w x)->dt (fun _=>none) args xs.toList->Calls P f xs w fun e w'=>∃x,e= .returned x/\VR (fun _=>none) v x/\kJ w w'
structure B0 (P:Program) (G:Cx):Prop where
 ov:∀g,G.ov g=true->su P g
 IL:∀f args v,G.IL f args=some v->FY P G.gl G.laid f args v
 mem:∀e∈G.mem,True
 II:∀f args U v,G.II f args U=some v->∀(S:dg) (w:World) (xs:Array Value),Inv S U w->dt S args xs.toList->Calls P f xs w fun e w'=>∃x S',e= .returned x/\VR S' v x/\Inv S' U w'/\fj S U w S' U w'
structure Sound (P:Program) (G:Cx) (ih:lD):Prop where
 cx:B0 P G
 run:∀(c:Code) (t:PT V) (n:Nat) (d:List DE) (ro:Option Pos) (U:I) (e:Ex) (t':PT V) (d':List DE) (U':I),ih c t n d ro U= .ok e t' d' U'->
  ∀(S:dg) (w:World) (a:Act) (rl:Option Nat) (m:Nat) (Q:Exit->Act->World->Prop),Inv S U w->GR S G->TR S t n a.tmps->DR S d a.defers->RO S ro rl->
   (∀(S':dg) (w':World) (a':Act),Inv S' U' w'->fj S U w S' U' w'->TR S' t' n a'.tmps->DR S' d' a'.defers->Qx Q S' e a' w')->c.wpIn (pw rl) m P Q a w
section
variable {P:Program} {G:Cx} {S:dg} {U:I} {w:World}
theorem TR.set {t:PT V} {n k:Nat} {tmps:Array Value} {v:V} {x:Value} (h:TR S t n tmps) (hk:k<n) (hv:VR S v x):TR S (t.put (some v)<|posOf k) n (tmps.setIfInBounds k x):=by
 refine⟨by simpa using h.1,fun j u hu=>?_⟩
 by_cases e:j=k
 ·subst e;rw[PT.dz] at hu;cases hu;refine⟨hk,?_⟩;have:j<tmps.size:=by rw[h.1];exact hk
  simp_all
 rw[PT.du _ _ _ _ (fun h'=>e (rJ h'))] at hu;obtain⟨h1,z⟩:=h.2 j u hu;refine⟨h1,?_⟩
 have:(tmps.setIfInBounds k x).getD j undef=tmps.getD j undef:=by
  simp only[Array.getD_eq_getD_getElem?,Array.getElem?_setIfInBounds]
  grind
 rw[this];exact z
theorem uN {t t':PT V} {n k:Nat} {v:V} (h:dG t n (some k) v=some t'):k<n/\t'=t.put (some v) (posOf k):=by
 unfold dG at h;simp only[bL] at h;split at h
 ·rename_i hk;cases h;exact⟨Nat.le_of_ble_eq_true hk,Z⟩
 cases h
theorem TR.put {t t':PT V} {n:Nat} {a:Act} {dst:Option Tmp} {v:V} {x:Value} (h:TR S t n a.tmps) (hp:dG t n dst v=some t') (hv:VR S v x):TR S t' n (a.put dst x).tmps:=by
 cases dst with
 | none=>cases hp;exact h
 | some k=>
  obtain⟨hk,rfl⟩:=uN hp;exact h.set hk hv
theorem put_defers (a:Act) (dst:Option Tmp) (x:Value):(a.put dst x).defers=a.defers:=by cases dst<;>rfl
theorem wc:VR S unit undef:=by simp only[unit,VR];exact⟨_,Z,dt.nil⟩
theorem kT {t:PT V} {n:Nat} {a:Act} {x:Operand} {v:V} (z:GR S G) (A:TR S t n a.tmps) (h:bI G t x=some v):VR S v (a.eval x):=by
 cases x with
 | tmp k=>exact(A.2 k v h).2
 | const c=>exact qG h
 | global g=>
  simp only[bI,bL] at h;split at h
  ·rename_i u;cases h;obtain⟨c,hc⟩:=z g (Nat.le_of_ble_eq_true u);simp only[VR];exact⟨_,hc,by simp[Act.eval]⟩
  cases h
 | func f=>
  cases h;simp only[VR];exact⟨_,_,Z,dt.nil,dt.nil⟩
theorem Nk {t:PT V} {n:Nat} {a:Act} (op:Op) (u:GR S G) (z:TR S t n a.tmps):ER S (bI G t) a.eval op:=fun _ _ _ hv=>kT u z hv
theorem Aq {ops:Array Oper} {t:PT V} {o:Oper} {b:Bool} {tmps:Array Value} (h:bS ops t o=some b)
  (C:∀j want k,o.guard=some (j,want)->(ops[j]?).bind (·.dst)=some k->∀v,t.get (posOf k)=some v->k<tmps.size/\VR S v (tmps.getD k undef)):
  Region.wanted o (yielded ops tmps)=b:=by
 unfold bS at h;unfold Region.wanted;cases A:o.guard with
 | none=>simp_all
 | some jw=>
  obtain⟨j,want⟩:=jw;rw[A] at h;dsimp only at h⊢;cases hk:(ops[j]?).bind (·.dst) with
  | none=>
   rw[hk] at h;cases h;simp[yielded,hk]
  | some k=>
   rw[hk] at h;dsimp only at h;cases hv:t.get (posOf k) with
   | none=>rw[hv] at h;cases h
   | some v=>
    rw[hv] at h;obtain⟨aa,z⟩:=C j want k A hk v hv
    have u:tmps[k]?=some (tmps.getD k undef):=by
     simp_all
    generalize tmps.getD k undef=x at z u;cases v with
    | bool c=>
     simp only[VR] at z;subst z;simp only[yielded,hk,Option.bind_some,u];cases h
     grind
    | tuple cs=>
     simp only[VR] at z;obtain⟨y,rfl,_⟩:=z;cases h;simp[yielded,hk,u]
    | _=>cases h
theorem BR {ops:Array Oper} {t:PT V} {o:Oper} {b:Bool} {n:Nat} {tmps:Array Value} (h:bS ops t o=some b) (u:TR S t n tmps):Region.wanted o (yielded ops tmps)=b:=
 Aq h fun _ _ k _ _ v hv=>⟨by rw[u.1];exact(u.2 k v hv).1,(u.2 k v hv).2⟩
theorem Em {n:Nat} {args:List V} {xs:Array Value} {t:PT V} (h:r6 n args=some t) (hv:dt S args xs.toList):TR S t n (xs++Array.replicate (n-xs.size) undef):=by
 have key:∀(args:List V) (ys:List Value) (k:Nat) (t t':PT V),(List.rec (motive:=fun _=>Nat->PT V->Option (PT V)) (fun _ t=>some t) (fun v _ ih k t=>match dG t n (some k) v with | some t'=>ih (Nat.succ k) t' | none=>none) args:Nat->PT V->Option (PT V)) k t=some t'->
   dt S args ys->(∀j v,t.get (posOf j)=some v->j<k/\j<n)->
   (∀j v,t'.get (posOf j)=some v->j<n/\((j<k/\t.get (posOf j)=some v)∨∃y,k<=j/\ys[j-k]?=some y/\VR S v y))/\(args= []∨k+args.length<=n):=by
  intro args;induction args with
  | nil=>
   simp_all
  | cons v args ih=>
   intro ys k t t' h hv ht;obtain⟨x,r,rfl,h1,C⟩:=hv.cons_inv;dsimp only at h;cases hp:dG t n (some k) v with
   | none=>rw[hp] at h;cases h
   | some t₁=>
    rw[hp] at h;obtain⟨hk,rfl⟩:=uN hp
    obtain⟨g1,E⟩:=ih r (k+1) _ t' h C (fun j u hj=>by
     by_cases e:j=k
     ·omega
     rw[PT.du _ _ _ _ (fun h'=>e (rJ h'))] at hj
     grind)
    refine⟨fun j u hj=>?_,.inr ?_⟩
    ·obtain⟨q1,q2⟩:=g1 j u hj;refine⟨q1,?_⟩;rcases q2 with ⟨z,A⟩ | ⟨y,hle,hy,F⟩
     ·by_cases e:j=k
      ·subst e;rw[PT.dz] at A;simp_all
      rw[PT.du _ _ _ _ (fun h'=>e (rJ h'))] at A
      simp_all
     grind
    grind
 obtain⟨g1,E⟩:=key args xs.toList 0 .leaf t h hv (fun j v hj=>by rw[PT.mS] at hj;cases hj);have hlen:=hv.length
 have hle:xs.size<=n:=by
  grind
 refine⟨by simp;omega,fun j v hj=>?_⟩;obtain⟨q1,q2⟩:=g1 j v hj;refine⟨q1,?_⟩;rcases q2 with ⟨z,_⟩ | ⟨y,_,hy,F⟩
 ·omega
 rw[Nat.sub_zero] at hy;have aa:j<xs.size:=by grind
 simp_all
def Kt (tmps:Array Value):ResultVar->Sem Value
 | .tmp t=>pure (tmps.getD t undef)
 | .cell a t=>do loadVar t (<-asAddr (tmps.getD a undef))
theorem sX (fn:Func) (tmps:Array Value):results fn tmps=(fn.results.mapM (Kt tmps)>>= fun vs=>pure (if h:vs.size=1 then vs[0] else .tuple vs)):=rfl
theorem Bs (hi:Inv S U w) {t:PT V} {n:Nat} {tmps:Array Value} (A:TR S t n tmps) {r:ResultVar} {v:V} (h:fS P t U r=some v):
  ∃x,(Kt tmps r).run P w= .ok x w/\VR S v x:=by
 cases r with
 | tmp k=>exact⟨_,Z,(A.2 k v h).2⟩
 | cell k ty=>
  simp only[fS] at h;cases hk:t.get (posOf k) with
  | none=>rw[hk] at h;cases h
  | some u=>
   rw[hk] at h;have hvx:=(A.2 k u hk).2;cases u with
   | ptr b off=>
    dsimp only at h;cases z:U.m.get b with
    | none=>rw[z] at h;cases h
    | some ob=>
     rw[z] at h;cases ob with
     | row cells e ro=>
      simp only[VR] at hvx;obtain⟨l,hl,aa⟩:=hvx;obtain⟨y,hy,hr⟩:=nZ (P:=P) hi z hl h
      grind [Kt,asAddr]
     | _=>cases h
   | _=>cases h
theorem qP (hi:Inv S U w) {t:PT V} {n:Nat} {tmps:Array Value} (A:TR S t n tmps):∀{rs:List ResultVar} {vs:List V},cU (fS P t U) rs=some vs->
  ∃xs:List Value,(rs.mapM (Kt tmps):Sem (List Value)).run P w= .ok xs w/\dt S vs xs
 | [],vs,h=>by rw[iO] at h;cases h;exact⟨[],by simp,dt.nil⟩
 | r::rs,vs,h=>by
  obtain⟨y,r',h1,C,rfl⟩:=hY h;obtain⟨x,hx,hv⟩:=Bs (P:=P) hi A h1;obtain⟨xs,u,z⟩:=qP hi A C;refine⟨x::xs,?_,dt.cons hv z⟩;simp only[List.mapM_cons,sB_,hx,rA,u,sP_]
theorem zg (hi:Inv S U w) {fn:Func} {t:PT V} {n:Nat} {tmps:Array Value} (C:TR S t n tmps) {v:V} (h:fg P fn t U=some v):
  ∃x,(results fn tmps).run P w= .ok x w/\VR S v x:=by
 unfold fg at h;cases z:cU (fS P t U) fn.results.toList with
 | none=>rw[z] at h;cases h
 | some vs=>
  rw[z] at h;obtain⟨xs,hx,hv⟩:=qP (P:=P) hi C z
  have hm:(fn.results.mapM (Kt tmps):Sem (Array Value)).run P w= .ok xs.toArray w:=by
   grind [Array.mapM_eq_mapM_toList,Sem.run_map,rA]
  cases vs with
  | nil=>
   cases h;have:=hv.fb;subst this;refine⟨.tuple #[],by rw[sX,sB_,hm];rfl,by simp only[VR];simp_all⟩
  | cons u us=>
   obtain⟨x,r,rfl,h1,A⟩:=hv.cons_inv;cases us with
   | nil=>
    cases h;have:=A.fb;subst this;exact⟨x,by rw[sX,sB_,hm];rfl,h1⟩
   | cons u' us=>
    cases h;obtain⟨x',r',rfl,h3,h4⟩:=A.cons_inv;refine⟨.tuple (x::x'::r').toArray,by rw[sX,sB_,hm];rfl,by simp only[VR];simp_all⟩
end
end Go.Ev
end
