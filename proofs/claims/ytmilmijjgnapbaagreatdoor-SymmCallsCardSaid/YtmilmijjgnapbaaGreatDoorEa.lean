/- Part of the proof: an evaluator of the model's code, rules for walks on it, walks. Without conditions. -/
import Derived.CallsIn
import Derived.Laws.World
import Derived.KernelRfl
import Init
import Derived.Laws.AppendOwn
import Derived.Laws.Strings
import Derived.Great.BuildSlice
import Derived.Laws.Tables
import Derived.Laws.MakeOwn
import Derived.Laws.StructEq
import Derived.Laws.Small
import Derived.ChangeKeysEq
import Derived.LaidEql
import Derived.Lib.Strings
import Derived.Lib.Builder
import Derived.Lib.Overlaps
import Derived.Laws.IdiomStrings
import Derived.Lib.UnsafeStr
import Derived.Lib.ConvBytes
import Derived.RangeFuncNested
set_option linter.unusedSectionVars false
set_option linter.unusedVariables false
set_option linter.unusedSimpArgs false
noncomputable section
namespace Go.Ev
theorem gA:type_of% @List.getElem?_eq_some_iff:= @List.getElem?_eq_some_iff
theorem gB_:type_of% @List.mem_of_getElem?:= @List.mem_of_getElem?
theorem rA:type_of% @Result.andThen_ok:= @Result.andThen_ok
theorem gC:type_of% @List.getElem?_eq_getElem:= @List.getElem?_eq_getElem
theorem nB:type_of% @Nat.eq_of_beq_eq_true:= @Nat.eq_of_beq_eq_true
theorem bA_:type_of% @Bool.and_eq_true:= @Bool.and_eq_true
theorem sB_:type_of% @Sem.run_bind:= @Sem.run_bind
theorem sP_:type_of% @Sem.run_pure:= @Sem.run_pure
theorem nE_:type_of% @Nat.ble_eq:= @Nat.ble_eq
theorem lT_:type_of% @List.length_take:= @List.length_take
theorem oJ_:type_of% @Option.some.injEq:= @Option.some.injEq
theorem lA_:type_of% @List.length_append:= @List.length_append
theorem mC_:type_of% @List.mem_cons_of_mem:= @List.mem_cons_of_mem
theorem lM_:type_of% @List.length_map:= @List.length_map
theorem aT_:type_of% @Array.getElem?_toList:= @Array.getElem?_toList
theorem mS_:type_of% @List.mem_cons_self:= @List.mem_cons_self
theorem gM_:type_of% @List.getElem?_map:= @List.getElem?_map
theorem gL_:type_of% @List.getElem?_append_left:= @List.getElem?_append_left
theorem gO_:type_of% @List.getElem?_of_mem:= @List.getElem?_of_mem
theorem tL_:type_of% @List.take_of_length_le:= @List.take_of_length_le
theorem aE_:type_of% @List.all_eq_true:= @List.all_eq_true
theorem eN_:type_of% @List.eq_nil_of_length_eq_zero:= @List.eq_nil_of_length_eq_zero
theorem gN_:type_of% @List.getElem?_eq_none:= @List.getElem?_eq_none
theorem lD_:type_of% @List.length_drop:= @List.length_drop
theorem mQ_:type_of% @List.mem_cons:= @List.mem_cons
theorem nM_:type_of% @Nat.mul_le_mul_right:= @Nat.mul_le_mul_right
theorem oM_:type_of% @Option.map_eq_some_iff:= @Option.map_eq_some_iff
theorem lQ_:type_of% @List.append_assoc:= @List.append_assoc
theorem nZ_:type_of% @Nat.not_lt_zero:= @Nat.not_lt_zero
theorem nR_:type_of% @Nat.le_refl:= @Nat.le_refl
theorem nA_:type_of% @Nat.zero_add:= @Nat.zero_add
theorem iJ_:type_of% @Int.ofNat.inj:= @Int.ofNat.inj
theorem gR_:type_of% @List.getElem?_append_right:= @List.getElem?_append_right
theorem eR_:type_of% @List.eq_of_mem_replicate:= @List.eq_of_mem_replicate
theorem aG_:type_of% @Array.getElem?_eq_getElem:= @Array.getElem?_eq_getElem
theorem aS_:type_of% @Array.getElem?_eq_some_iff:= @Array.getElem?_eq_some_iff
theorem Z {α:Sort _} {a:α}:a=a:=rfl
theorem S {p:Prop} (h:p:=by kernel_rfl):p:=h
theorem oM {p:Prop} (h:p:=by omega):p:=h
abbrev Pos:=Nat
abbrev Pos.succ (p:Pos):Pos:=Nat.succ p
abbrev Pos.num (p:Pos):Nat:=p
theorem Pos.ie (p:Pos):p.succ.num=p.num+1:=rfl
abbrev posOf (n:Nat):Pos:=n
theorem p8 {m n:Nat} (h:posOf m=posOf n):m=n:=h
structure jH (α:Type) where
 c0:α
 c1:α
 c2:α
 c3:α
 c4:α
 c5:α
 c6:α
 c7:α
 c8:α
 c9:α
 qt:α
 ri:α
 rj:α
 rk:α
 rm:α
 rn:α
structure Dy (α:Type) where
 run:jH α->α
structure Dz (α:Type) where
 run:jH α->α->jH α
section
variable {α:Type}
def jr (n:Nat):Dy α:=(Bool.rec (motive:=fun _=>Dy α) (Bool.rec (motive:=fun _=>Dy α) (Bool.rec (motive:=fun _=>Dy α) (Bool.rec (motive:=fun _=>Dy α) ⟨fun t=>t.c0⟩ ⟨fun t=>t.c1⟩<|Nat.ble 1 n) (Bool.rec (motive:=fun _=>Dy α) ⟨fun t=>t.c2⟩ ⟨fun t=>t.c3⟩<|Nat.ble 3 n)<|Nat.ble 2 n) (Bool.rec (motive:=fun _=>Dy α) (Bool.rec (motive:=fun _=>Dy α) ⟨fun t=>t.c4⟩ ⟨fun t=>t.c5⟩<|Nat.ble 5 n) (Bool.rec (motive:=fun _=>Dy α) ⟨fun t=>t.c6⟩ ⟨fun t=>t.c7⟩<|Nat.ble 7 n)<|Nat.ble 6 n)<|Nat.ble 4 n) (Bool.rec (motive:=fun _=>Dy α) (Bool.rec (motive:=fun _=>Dy α) (Bool.rec (motive:=fun _=>Dy α) ⟨fun t=>t.c8⟩ ⟨fun t=>t.c9⟩<|Nat.ble 9 n) (Bool.rec (motive:=fun _=>Dy α) ⟨fun t=>t.qt⟩ ⟨fun t=>t.ri⟩<|Nat.ble 11 n)<|Nat.ble 10 n) (Bool.rec (motive:=fun _=>Dy α) (Bool.rec (motive:=fun _=>Dy α) ⟨fun t=>t.rj⟩ ⟨fun t=>t.rk⟩<|Nat.ble 13 n) (Bool.rec (motive:=fun _=>Dy α) ⟨fun t=>t.rm⟩ ⟨fun t=>t.rn⟩<|Nat.ble 15 n)<|Nat.ble 14 n)<|Nat.ble 12 n)<|Nat.ble 8 n)
def xG (n:Nat):Dz α:=(Bool.rec (motive:=fun _=>Dz α) (Bool.rec (motive:=fun _=>Dz α) (Bool.rec (motive:=fun _=>Dz α) (Bool.rec (motive:=fun _=>Dz α) ⟨fun t v=>jH.rec (motive:=fun _=>jH α) (fun _ c1 c2 c3 c4 c5 c6 c7 c8 c9 qt ri rj rk rm rn=>⟨v,c1,c2,c3,c4,c5,c6,c7,c8,c9,qt,ri,rj,rk,rm,rn⟩) t⟩ ⟨fun t v=>jH.rec (motive:=fun _=>jH α) (fun c0 _ c2 c3 c4 c5 c6 c7 c8 c9 qt ri rj rk rm rn=>⟨c0,v,c2,c3,c4,c5,c6,c7,c8,c9,qt,ri,rj,rk,rm,rn⟩) t⟩<|Nat.ble 1 n) (Bool.rec (motive:=fun _=>Dz α) ⟨fun t v=>jH.rec (motive:=fun _=>jH α) (fun c0 c1 _ c3 c4 c5 c6 c7 c8 c9 qt ri rj rk rm rn=>⟨c0,c1,v,c3,c4,c5,c6,c7,c8,c9,qt,ri,rj,rk,rm,rn⟩) t⟩ ⟨fun t v=>jH.rec (motive:=fun _=>jH α) (fun c0 c1 c2 _ c4 c5 c6 c7 c8 c9 qt ri rj rk rm rn=>⟨c0,c1,c2,v,c4,c5,c6,c7,c8,c9,qt,ri,rj,rk,rm,rn⟩) t⟩<|Nat.ble 3 n)<|Nat.ble 2 n) (Bool.rec (motive:=fun _=>Dz α) (Bool.rec (motive:=fun _=>Dz α) ⟨fun t v=>jH.rec (motive:=fun _=>jH α) (fun c0 c1 c2 c3 _ c5 c6 c7 c8 c9 qt ri rj rk rm rn=>⟨c0,c1,c2,c3,v,c5,c6,c7,c8,c9,qt,ri,rj,rk,rm,rn⟩) t⟩ ⟨fun t v=>jH.rec (motive:=fun _=>jH α) (fun c0 c1 c2 c3 c4 _ c6 c7 c8 c9 qt ri rj rk rm rn=>⟨c0,c1,c2,c3,c4,v,c6,c7,c8,c9,qt,ri,rj,rk,rm,rn⟩) t⟩<|Nat.ble 5 n) (Bool.rec (motive:=fun _=>Dz α) ⟨fun t v=>jH.rec (motive:=fun _=>jH α) (fun c0 c1 c2 c3 c4 c5 _ c7 c8 c9 qt ri rj rk rm rn=>⟨c0,c1,c2,c3,c4,c5,v,c7,c8,c9,qt,ri,rj,rk,rm,rn⟩) t⟩ ⟨fun t v=>jH.rec (motive:=fun _=>jH α) (fun c0 c1 c2 c3 c4 c5 c6 _ c8 c9 qt ri rj rk rm rn=>⟨c0,c1,c2,c3,c4,c5,c6,v,c8,c9,qt,ri,rj,rk,rm,rn⟩) t⟩<|Nat.ble 7 n)<|Nat.ble 6 n)<|Nat.ble 4 n) (Bool.rec (motive:=fun _=>Dz α) (Bool.rec (motive:=fun _=>Dz α) (Bool.rec (motive:=fun _=>Dz α) ⟨fun t v=>jH.rec (motive:=fun _=>jH α) (fun c0 c1 c2 c3 c4 c5 c6 c7 _ c9 qt ri rj rk rm rn=>⟨c0,c1,c2,c3,c4,c5,c6,c7,v,c9,qt,ri,rj,rk,rm,rn⟩) t⟩ ⟨fun t v=>jH.rec (motive:=fun _=>jH α) (fun c0 c1 c2 c3 c4 c5 c6 c7 c8 _ qt ri rj rk rm rn=>⟨c0,c1,c2,c3,c4,c5,c6,c7,c8,v,qt,ri,rj,rk,rm,rn⟩) t⟩<|Nat.ble 9 n) (Bool.rec (motive:=fun _=>Dz α) ⟨fun t v=>jH.rec (motive:=fun _=>jH α) (fun c0 c1 c2 c3 c4 c5 c6 c7 c8 c9 _ ri rj rk rm rn=>⟨c0,c1,c2,c3,c4,c5,c6,c7,c8,c9,v,ri,rj,rk,rm,rn⟩) t⟩ ⟨fun t v=>jH.rec (motive:=fun _=>jH α) (fun c0 c1 c2 c3 c4 c5 c6 c7 c8 c9 qt _ rj rk rm rn=>⟨c0,c1,c2,c3,c4,c5,c6,c7,c8,c9,qt,v,rj,rk,rm,rn⟩) t⟩<|Nat.ble 11 n)<|Nat.ble 10 n) (Bool.rec (motive:=fun _=>Dz α) (Bool.rec (motive:=fun _=>Dz α) ⟨fun t v=>jH.rec (motive:=fun _=>jH α) (fun c0 c1 c2 c3 c4 c5 c6 c7 c8 c9 qt ri _ rk rm rn=>⟨c0,c1,c2,c3,c4,c5,c6,c7,c8,c9,qt,ri,v,rk,rm,rn⟩) t⟩ ⟨fun t v=>jH.rec (motive:=fun _=>jH α) (fun c0 c1 c2 c3 c4 c5 c6 c7 c8 c9 qt ri rj _ rm rn=>⟨c0,c1,c2,c3,c4,c5,c6,c7,c8,c9,qt,ri,rj,v,rm,rn⟩) t⟩<|Nat.ble 13 n) (Bool.rec (motive:=fun _=>Dz α) ⟨fun t v=>jH.rec (motive:=fun _=>jH α) (fun c0 c1 c2 c3 c4 c5 c6 c7 c8 c9 qt ri rj rk _ rn=>⟨c0,c1,c2,c3,c4,c5,c6,c7,c8,c9,qt,ri,rj,rk,v,rn⟩) t⟩ ⟨fun t v=>jH.rec (motive:=fun _=>jH α) (fun c0 c1 c2 c3 c4 c5 c6 c7 c8 c9 qt ri rj rk rm _=>⟨c0,c1,c2,c3,c4,c5,c6,c7,c8,c9,qt,ri,rj,rk,rm,v⟩) t⟩<|Nat.ble 15 n)<|Nat.ble 14 n)<|Nat.ble 12 n)<|Nat.ble 8 n)
theorem HK {n:Nat} (h:n<16):n=0∨n=1∨n=2∨n=3∨n=4∨n=5∨n=6∨n=7∨n=8∨n=9∨n=10∨n=11∨n=12∨n=13∨n=14∨n=15:=by omega
theorem C0 (n:Nat) (t:jH α) (v:α) (b:n<16):(jr n).run ((xG n).run t v)=v:=by
 rcases HK b with rfl | rfl | rfl | rfl | rfl | rfl | rfl | rfl | rfl | rfl | rfl | rfl | rfl | rfl | rfl | rfl<;>rfl
theorem Nl (n:Nat) (t:jH α) (v u:α) (b:n<16):(xG n).run ((xG n).run t v) u=(xG n).run t u:=by
 rcases HK b with rfl | rfl | rfl | rfl | rfl | rfl | rfl | rfl | rfl | rfl | rfl | rfl | rfl | rfl | rfl | rfl<;>rfl
theorem H5 (m n:Nat) (t:jH α) (v:α) (hm:m<16) (b:n<16) (h:m≠n):(jr m).run ((xG n).run t v)=(jr m).run t:=by
 rcases HK hm with rfl | rfl | rfl | rfl | rfl | rfl | rfl | rfl | rfl | rfl | rfl | rfl | rfl | rfl | rfl | rfl<;>rcases HK b with rfl | rfl | rfl | rfl | rfl | rfl | rfl | rfl | rfl | rfl | rfl | rfl | rfl | rfl | rfl | rfl<;>first | rfl | exact absurd rfl h
theorem GF (m n:Nat) (t:jH α) (v:α) (hm:m<16) (b:n<16):(jr m).run ((xG n).run t v)=if m=n then v else(jr m).run t:=by
 by_cases h:m=n
 ·subst h;rw[if_pos Z,C0 _ _ _ b]
 rw[if_neg h,H5 _ _ _ _ hm b h]
abbrev ja (α:Type):=jH (jH α)
def jz (t:ja α) (k:Nat):α:=(jr<|Nat.mod k 16).run ((jr<|Nat.div k 16).run t)
def oY (t:ja α) (k:Nat) (v:α):ja α:=(xG<|Nat.div k 16).run t ((xG<|Nat.mod k 16).run ((jr<|Nat.div k 16).run t) v)
theorem lA (t:ja α) (k j:Nat) (v:α) (hk:k<256) (hj:j<256):jz (oY t k v) j=if j=k then v else jz t j:=by
 have e:∀n m:Nat,Nat.mod n m=n%m:=fun _ _=>Z
 have e':∀n m:Nat,Nat.div n m=n/m:=fun _ _=>Z
 simp only[jz,oY,e,e'];rw[GF _ _ _ _ oM oM]
 by_cases h1:j/16=k/16
 ·rw[if_pos h1,GF _ _ _ _ oM oM]
  grind
 grind
theorem xe (t:ja α) (k:Nat) (v u:α) (hk:k<256):oY (oY t k v) k u=oY t k u:=by
 have h1:Nat.mod k 16<16:=Nat.mod_lt _ oM;have h2:Nat.div k 16<16:=Nat.div_lt_of_lt_mul hk
 grind [oY,C0,Nl]
def jH.all (x:α):jH α:=⟨x,x,x,x,x,x,x,x,x,x,x,x,x,x,x,x⟩
def ja.all (x:α):ja α:=jH.all (jH.all x)
theorem GD (n:Nat) (y:α) (b:n<16):(jr n).run (jH.all y)=y:=by
 rcases HK b with rfl | rfl | rfl | rfl | rfl | rfl | rfl | rfl | rfl | rfl | rfl | rfl | rfl | rfl | rfl | rfl<;>rfl
theorem wk (x:α) (k:Nat) (hk:k<256):jz (ja.all x) k=x:=by
 have h1:Nat.mod k 16<16:=Nat.mod_lt _ oM;have b:Nat.div k 16<16:=Nat.div_lt_of_lt_mul hk;simp only[jz,ja.all,GD _ _ h1,GD _ _ b]
def sr (v:Option α) (n:Nat):List (Option α)->List (Option α):=
 Nat.rec (motive:=fun _=>List (Option α)->List (Option α)) (fun l=>List.rec (motive:=fun _=>List<|Option α) [v] (fun _ r _=>v::r) l)
  (fun _ ih l=>List.rec (motive:=fun _=>List<|Option α) (none::ih []) (fun x r _=>x::ih r) l) n
def Hu (l:List (Option α)):Nat->Option α:=
 List.rec (motive:=fun _=>Nat->Option α) (fun _=>none) (fun x _ ih n=>Nat.rec (motive:=fun _=>Option α) x (fun m _=>ih m) n) l
theorem wm (v:Option α):∀(k:Nat) (l:List (Option α)) (j:Nat),Hu (sr v k l) j=if j=k then v else Hu l j
 | 0,[],0=>rfl
 | 0,[],j+1=>by rw[if_neg oM];rfl
 | 0,x::r,0=>rfl
 | 0,x::r,j+1=>by rw[if_neg oM];rfl
 | k+1,[],0=>by rw[if_neg oM];rfl
 | k+1,[],j+1=>by
  show Hu (sr v k []) j=_;rw[wm v k [] j]
  by_cases h:j=k
  ·simp_all
  rw[if_neg h,if_neg oM];rfl
 | k+1,x::r,0=>by rw[if_neg oM];rfl
 | k+1,x::r,j+1=>by
  show Hu (sr v k r) j=_;rw[wm v k r j]
  by_cases h:j=k
  ·simp_all
  rw[if_neg h,if_neg oM];rfl
theorem xf (v u:Option α):∀(k:Nat) (l:List (Option α)),sr u k (sr v k l)=sr u k l
 | 0,[]=>rfl
 | 0,x::r=>rfl
 | k+1,[]=>by
  show none::sr u k (sr v k [])=none::sr u k [];rw[xf v u k []]
 | k+1,x::r=>by
  show x::sr u k (sr v k r)=x::sr u k r;rw[xf v u k r]
structure PT (α:Type) where
 s:ja (Option α)
 m:ja (ja<|Option α)
 l:List (Option α)
def PT.leaf:PT α:=⟨ja.all none,ja.all<|ja.all none,[]⟩
def PT.Ht (t:PT α) (p:Nat):Option α:=
 Bool.rec (motive:=fun _=>Option α) (Bool.rec (motive:=fun _=>Option α) (Hu t.l p) (jz (jz t.m<|Nat.div p 256)<|Nat.mod p 256)<|Nat.ble p 65535) (jz t.s p) (Nat.ble p 255)
def PT.HZ (o:Option α) (t:PT α) (p:Nat):PT α:=
 Bool.rec (motive:=fun _=>PT α) (Bool.rec (motive:=fun _=>PT α) (PT.rec (motive:=fun _=>PT α) (fun s m l=>⟨s,m,sr o p l⟩) t)
  (PT.rec (motive:=fun _=>PT α) (fun s m l=>⟨s,oY m (Nat.div p 256)<|oY (jz m<|Nat.div p 256) (Nat.mod p 256) o,l⟩) t)<|Nat.ble p 65535)
  (PT.rec (motive:=fun _=>PT α) (fun s m l=>⟨oY s p o,m,l⟩) t) (Nat.ble p 255)
def PT.get (t:PT α) (p:Pos):Option α:=Nat.rec (motive:=fun _=>Option α) (t.Ht 0) (fun m _=>t.Ht (Nat.succ m)) p
def PT.put (o:Option α) (t:PT α) (p:Pos):PT α:=Nat.rec (motive:=fun _=>PT α) (t.HZ o 0) (fun m _=>t.HZ o (Nat.succ m)) p
theorem PT.get_eq (t:PT α) (p:Nat):t.get p=t.Ht p:=by cases p<;>rfl
theorem PT.put_eq (o:Option α) (t:PT α) (p:Nat):t.put o p=t.HZ o p:=by cases p<;>rfl
theorem uZ (m n:Nat):Nat.blt m n=true↔m<n:=by simp_all
theorem nj (m n:Nat):Nat.ble m n=true↔m<n+1:=by rw[nE_,Nat.lt_succ_iff]
theorem sW {m n:Nat} (h:¬m<n+1):Nat.ble m n=false:=by
 grind [nj]
theorem PT.oI (t:PT α) {p:Nat} (h:p<256):t.get p=jz t.s p:=by rw[PT.get_eq];unfold PT.Ht;rw[(nj p 255).2 h]
theorem PT.yL (t:PT α) {p:Nat} (h:¬p<256) (h':p<65536):t.get p=jz (jz t.m<|Nat.div p 256) (Nat.mod p 256):=by
 rw[PT.get_eq];unfold PT.Ht;rw[sW (n:=255) h,(nj p 65535).2 h']
theorem PT.yK (t:PT α) {p:Nat} (h:¬p<65536):t.get p=Hu t.l p:=by
 rw[PT.get_eq];unfold PT.Ht;rw[sW (n:=255) oM,sW (n:=65535) h]
theorem PT.ss (o:Option α) (s:ja (Option α)) (m:ja (ja<|Option α)) (l:List (Option α)) {p:Nat} (h:p<256):(PT.mk s m l).put o p=⟨oY s p o,m,l⟩:=by rw[PT.put_eq];unfold PT.HZ;rw[(nj p 255).2 h]
theorem PT.Gu (o:Option α) (s:ja (Option α)) (m:ja (ja<|Option α)) (l:List (Option α)) {p:Nat} (h:¬p<256) (h':p<65536):
  (PT.mk s m l).put o p=⟨s,oY m (Nat.div p 256)<|oY (jz m<|Nat.div p 256) (Nat.mod p 256) o,l⟩:=by
 rw[PT.put_eq];unfold PT.HZ;rw[sW (n:=255) h,(nj p 65535).2 h']
theorem PT.Gt (o:Option α) (s:ja (Option α)) (m:ja (ja<|Option α)) (l:List (Option α)) {p:Nat} (h:¬p<65536):(PT.mk s m l).put o p=⟨s,m,sr o p l⟩:=by
 rw[PT.put_eq];unfold PT.HZ;rw[sW (n:=255) oM,sW (n:=65535) h]
theorem PT.jh (p:Nat):(PT.leaf:PT α).get p=none:=by
 by_cases h1:p<256
 ·rw[PT.oI _ h1];exact wk _ _ h1
 by_cases b:p<65536
 ·rw[PT.yL _ h1 b];show jz (jz (ja.all<|ja.all none) _) _=none;have hd:Nat.div p 256<256:=Nat.div_lt_of_lt_mul b;have hm:Nat.mod p 256<256:=Nat.mod_lt _ oM;rw[wk _ _ hd,wk _ _ hm]
 rw[PT.yK _ b];rfl
theorem PT.kO (o:Option α) (t:PT α) (p q:Nat):(t.put o p).get q=if q=p then o else t.get q:=by
 cases t with
 | mk s m l=>
 by_cases h1:p<256
 ·rw[PT.ss o s m l h1]
  by_cases b:q<256
  ·rw[PT.oI _ b,PT.oI _ b];exact lA s p q o h1 b
  rw[if_neg oM]
  grind [PT.yL,PT.yK]
 by_cases d:p<65536
 ·rw[PT.Gu o s m l h1 d]
  by_cases b:q<256
  ·rw[if_neg oM,PT.oI _ b,PT.oI _ b]
  by_cases h4:q<65536
  ·rw[PT.yL _ b h4,PT.yL _ b h4];have hp:Nat.div p 256<256:=Nat.div_lt_of_lt_mul d;have hq:Nat.div q 256<256:=Nat.div_lt_of_lt_mul h4;have u:Nat.mod p 256<256:=Nat.mod_lt _ oM;have A:Nat.mod q 256<256:=Nat.mod_lt _ oM;show jz (jz (oY m (Nat.div p 256) _)<|Nat.div q 256) (Nat.mod q 256)=_;rw[lA _ _ _ _ hp hq]
   by_cases e:Nat.div q 256=Nat.div p 256
   ·rw[if_pos e,lA _ _ _ _ u A]
    by_cases e2:Nat.mod q 256=Nat.mod p 256
    ·rw[if_pos e2,if_pos];have f1:q/256=p/256:=e;have f2:q%256=p%256:=e2;omega
    grind
   grind
  rw[if_neg oM,PT.yK _ h4,PT.yK _ h4]
 rw[PT.Gt o s m l d]
 by_cases b:q<256
 ·rw[if_neg oM,PT.oI _ b,PT.oI _ b]
 by_cases h4:q<65536
 ·rw[if_neg oM,PT.yL _ b h4,PT.yL _ b h4]
 rw[PT.yK _ h4,PT.yK _ h4];exact wm o p l q
theorem PT.de (o:Option α) (t:PT α) (p:Pos):(t.put o p).get p=o:=by rw[PT.kO,if_pos Z]
theorem PT.db (o:Option α) (t:PT α) (p q:Pos) (h:q≠p):(t.put o p).get q=t.get q:=by rw[PT.kO,if_neg h]
theorem PT.MZ (o o':Option α) (t:PT α) (p:Nat):(t.put o p).put o' p=t.put o' p:=by
 cases t with
 | mk s m l=>
 by_cases h1:p<256
 ·rw[PT.ss o s m l h1,PT.ss _ _ _ _ h1,PT.ss _ _ _ _ h1,xe _ _ _ _ h1]
 by_cases b:p<65536
 ·have hp:Nat.div p 256<256:=Nat.div_lt_of_lt_mul b;have d:Nat.mod p 256<256:=Nat.mod_lt _ oM;rw[PT.Gu o s m l h1 b,PT.Gu _ _ _ _ h1 b,PT.Gu _ _ _ _ h1 b,xe _ _ _ _ hp,lA _ _ _ _ hp hp,if_pos Z,xe _ _ _ _ d]
 rw[PT.Gt o s m l b,PT.Gt _ _ _ _ b,PT.Gt _ _ _ _ b,xf]
end
section
variable {α β:Type}
def nth (l:List α):Nat->Option α:=
 List.rec (motive:=fun _=>Nat->Option α) (fun _=>none) (fun x _ ih n=>Nat.rec (motive:=fun _=>Option α) (some x) (fun m _=>ih m) n) l
theorem eU:∀(l:List α) (n:Nat),nth l n=l[n]?
 | [],_=>rfl
 | _::_,0=>rfl
 | _::l,n+1=>by
  show nth l n=_;rw[eU l n];simp
def E9 (v:α) (l:List α):Nat->List α:=
 List.rec (motive:=fun _=>Nat->List α) (fun _=>[]) (fun x l ih n=>Nat.rec (motive:=fun _=>List α) (v::l) (fun m _=>x::ih m) n) l
theorem tP (v:α):∀(l:List α) (n:Nat),E9 v l n=l.set n v
 | [],_=>rfl
 | _::_,0=>rfl
 | x::l,n+1=>by
  show x::E9 v l n=_;rw[tP v l n];simp
def dK (l:List α):Nat->List α:=
 List.rec (motive:=fun _=>Nat->List α) (fun _=>[]) (fun x l ih n=>Nat.rec (motive:=fun _=>List α) (x::l) (fun m _=>ih m) n) l
theorem dF:∀(l:List α) (n:Nat),dK l n=l.drop n
 | [],n=>by simp[dK]
 | _::_,0=>rfl
 | x::l,n+1=>by
  show dK l n=_;rw[dF l n];simp
def takeN (l:List α):Nat->List α:=
 List.rec (motive:=fun _=>Nat->List α) (fun _=>[]) (fun x _ ih n=>Nat.rec (motive:=fun _=>List α) [] (fun m _=>x::ih m) n) l
theorem dp:∀(l:List α) (n:Nat),takeN l n=l.take n
 | [],n=>by simp[takeN]
 | _::_,0=>rfl
 | x::l,n+1=>by
  show x::takeN l n=_;rw[dp l n];simp
def di (l:List α):Nat:=List.rec (motive:=fun _=>Nat) 0 (fun _ _ n=>Nat.succ n) l
theorem bT:∀(l:List α),di l=l.length
 | []=>rfl
 | _::l=>by show Nat.succ (di l)=_;rw[bT l];rfl
def gg (l m:List α):List α:=List.rec (motive:=fun _=>List α) m (fun x _ r=>x::r) l
theorem dH:∀(l m:List α),gg l m=l++m
 | [],_=>rfl
 | x::l,m=>by show x::gg l m=_;rw[dH l m];rfl
def x8 (f:α->β) (l:List α):List β:=List.rec (motive:=fun _=>List β) [] (fun x _ r=>f x::r) l
theorem kQ (f:α->β):∀(l:List α),x8 f l=l.map f
 | []=>rfl
 | x::l=>by show f x::x8 f l=_;rw[kQ f l];rfl
def cM (f:α->Option β) (l:List α):Option (List β):=
 List.rec (motive:=fun _=>Option<|List β) (some []) (fun x _ r=>
  Option.rec (motive:=fun _=>Option<|List β) none (fun y=>Option.rec (motive:=fun _=>Option<|List β) none (fun ys=>some (y::ys)) r)<|f x) l
theorem gx (f:α->Option β):cM f []=some []:=rfl
theorem fV {f:α->Option β} {x:α} {l:List α} {ys:List β} (h:cM f (x::l)=some ys):∃y r,f x=some y/\cM f l=some r/\ys=y::r:=by
 have e:cM f (x::l)=Option.rec (motive:=fun _=>Option<|List β) none (fun y=>Option.rec (motive:=fun _=>Option<|List β) none (fun ys=>some (y::ys)) (cM f l)) (f x):=rfl;rw[e] at h;cases hx:f x with
 | none=>rw[hx] at h;cases h
 | some y=>
  rw[hx] at h;cases b:cM f l with
  | none=>rw[b] at h;cases h
  | some r=>
   simp_all
end
end Go.Ev
namespace Go.Ev
variable {α:Type}
def gW (c:α) (l:List (List α)):List α:=l.flatMap fun w=>w++[c]
def jV (d:α) (l:List (List α)):List α:=l.flatMap fun w=>d::w
theorem zY {c:α}:∀{a b x y:List α},c∉a->c∉b->a++c::x=b++c::y->a=b/\x=y
 | [],[],_,_,_,_,h=>⟨Z,(List.cons.inj h).2⟩
 | [],z::b,_,_,_,hb,h=>absurd (by rw[(List.cons.inj h).1];exact mS_ ..) hb
 | z::a,[],_,_,d,_,h=>absurd (by rw[<-(List.cons.inj h).1];exact mS_ ..) d
 | z::a,w::b,x,y,d,hb,h=>by
  obtain⟨h1,m⟩:=List.cons.inj h;obtain⟨u,h4⟩:=zY (fun hm=>d (mC_ _ hm)) (fun hm=>hb (mC_ _ hm)) m;exact⟨by rw[h1,u],h4⟩
theorem tS {c:α}:∀{l m:List (List α)},(∀w∈l,c∉w)->(∀w∈m,c∉w)->gW c l=gW c m->l=m
 | [],[],_,_,_=>rfl
 | [],w::m,_,_,h=>by
  unfold gW at h;rw[List.flatMap_nil,List.flatMap_cons,lQ_] at h;cases w<;>cases h
 | w::l,[],_,_,h=>by
  unfold gW at h;rw[List.flatMap_nil,List.flatMap_cons,lQ_] at h;cases w<;>cases h
 | w::l,v::m,hl,hm,h=>by
  unfold gW at h;rw[List.flatMap_cons,List.flatMap_cons,lQ_,lQ_] at h;obtain⟨h1,b⟩:=zY (hl w<|mS_ ..) (hm v<|mS_ ..) h;rw[h1,tS (fun x hx=>hl x (mC_ _ hx)) (fun x hx=>hm x (mC_ _ hx)) b]
theorem w3 {d:α}:∀{l m:List (List α)} {a b:List α},d∉a->d∉b->(∀w∈l,d∉w)->(∀w∈m,d∉w)->a++jV d l=b++jV d m->a=b/\l=m
 | [],[],a,b,_,_,_,_,h=>by
  unfold jV at h;rw[List.flatMap_nil,List.append_nil,List.append_nil] at h;exact⟨h,Z⟩
 | [],w::m,a,b,u,_,_,_,h=>by
  unfold jV at h;rw[List.flatMap_nil,List.append_nil,List.flatMap_cons] at h;exact absurd (by rw[h];exact List.mem_append_right _<|mS_ ..) u
 | w::l,[],a,b,_,hb,_,_,h=>by
  unfold jV at h;rw[List.flatMap_nil,List.append_nil,List.flatMap_cons] at h;exact absurd (by rw[<-h];exact List.mem_append_right _<|mS_ ..) hb
 | w::l,v::m,a,b,u,hb,hl,hm,h=>by
  unfold jV at h;rw[List.flatMap_cons,List.flatMap_cons] at h;obtain⟨h1,A⟩:=zY u hb h;obtain⟨C,h4⟩:=w3 (hl w<|mS_ ..) (hm v<|mS_ ..) (fun x hx=>hl x (mC_ _ hx)) (fun x hx=>hm x (mC_ _ hx)) A;exact⟨h1,by rw[C,h4]⟩
theorem sO {c d:α} {l:List (List α)} (h:c≠d) (hl:∀w∈l,d∉w):d∉gW c l:=by
 intro hm;obtain⟨w,hw,hd⟩:=List.mem_flatMap.1 hm;rcases List.mem_append.1 hd with hd | hd
 ·exact hl w hw hd
 exact h (List.mem_singleton.1 hd).symm
theorem Lf {c d:α} (h:c≠d) {a b:List (List α)} {l m:List (List<|List α)} (A:∀w∈a,c∉w/\d∉w) (hb:∀w∈b,c∉w/\d∉w) (hl:∀p∈l,∀w∈p,c∉w/\d∉w) (hm:∀p∈m,∀w∈p,c∉w/\d∉w)
  (he:gW c a++jV d (l.map<|gW c)=gW c b++jV d (m.map<|gW c)):a=b/\l=m:=by
 obtain⟨h1,u⟩:=w3 (sO h fun w hw=>(A w hw).2) (sO h fun w hw=>(hb w hw).2)
  (fun w hw=>by obtain⟨p,hp,rfl⟩:=List.mem_map.1 hw;exact sO h fun w hw=>(hl p hp w hw).2)
  (fun w hw=>by obtain⟨p,hp,rfl⟩:=List.mem_map.1 hw;exact sO h fun w hw=>(hm p hp w hw).2) he
 refine⟨tS (fun w hw=>(A w hw).1) (fun w hw=>(hb w hw).1) h1,?_⟩;clear h1 he;induction l generalizing m with
 | nil=>cases m with
  | nil=>rfl
  | cons y m=>cases u
 | cons x l ih=>
  cases m with
  | nil=>cases u
  | cons y m=>
   rw[List.map_cons,List.map_cons] at u;obtain⟨C,E⟩:=List.cons.inj u;rw[tS (fun w hw=>(hl x (mS_ ..) w hw).1) (fun w hw=>(hm y (mS_ ..) w hw).1) C,ih (fun p hp=>hl p (mC_ _ hp)) (m:=m) (fun p hp=>hm p (mC_ _ hp)) E]
end Go.Ev
namespace Go.Ev
 class Env where
 τ:Nat->Value
 n0:Nat
 h0:Array Obj
variable [Env]
inductive nL where
 | known (n:Nat)
 | upto (sz:Nat)
 | least (a sz:Nat)
 deriving Inhabited
inductive J where
 | bool (b:Bool)
 | int (k:IntKind) (n:Int)
 | str (s:List Nat)
 | nilPtr
 | ptr (b:Pos) (off:Nat)
 | au
 | slice (b:Pos) (off len:Nat) (cap:nL)
 | gT
 | map (b:Pos)
 | func (f:Nat) (first captured:List J)
 | yield (l:Pos)
 | nilFunc
 | iface (t:Nat) (v:J)
 | nilIface
 | agg (cs:List J)
 | tuple (vs:List J)
 | any
 | ni (a:Nat)
 | tok (n:Nat)
 deriving Inhabited
structure Loc where
 da:Nat
 sh:Nat
 cells:Nat
abbrev Ren:=Pos->Option Loc
def ga (s:List Nat) (bs:ByteArray):Prop:=bs.data.toList.map UInt8.toNat=s
mutual
def VR (O:Ren):J->Value->Prop
 | .bool b,x=>x= .bool b
 | .int k n,x=>x= .int k n
 | .str s,x=>∃bs,x= .string bs/\ga s bs
 | .nilPtr,x=>x= .pointer none
 | .ptr b off,x=>∃l,O b=some l/\x= .pointer (some ⟨l.da,l.sh+off,none⟩)
 | .au,x=>x= .slice none 0 0
 | .slice b off len (.known c),x=>∃l,O b=some l/\x= .slice (some ⟨l.da,l.sh+off,none⟩) len c
 | .slice b off len (.upto sz),x=>∃l,O b=some l/\
   ((∃c,x= .slice (some ⟨l.da,l.sh+off,none⟩) len c/\len<=c/\off+c*sz=l.cells)∨(len=0/\∃a,x= .slice (some a) 0 0))
 | .slice b off len (.least a sz),x=>∃l,O b=some l/\∃c,x= .slice (some ⟨l.da,l.sh+off,none⟩) len c/\a<=c/\off+c*sz=l.cells
 | .gT,x=>x= .map none
 | .map b,x=>∃l,O b=some l/\x= .map (some l.da)
 | .func f fi ca,x=>∃fi' ca':Array Value,x= .func (.func f) fi' ca'/\cT O fi fi'.toList/\cT O ca ca'.toList
 | .yield b,x=>∃l,O b=some l/\x= .func (.yield l.da) #[] #[]
 | .nilFunc,x=>x= .nilFunc
 | .iface t v,x=>∃y,x= .iface t y/\VR O v y
 | .nilIface,x=>x= .nilIface
 | .agg cs,x=>∃ys:Array Value,x= .agg ys/\cT O cs ys.toList
 | .tuple cs,x=>∃ys:Array Value,x= .tuple ys/\cT O cs ys.toList
 | .any,_=>True
 | .ni a,x=>∃c:Nat,x= .int .i64 c/\a<=c
 | .tok n,x=>x=Env.τ n/\x.oneCell'=true
def cT (O:Ren):List J->List Value->Prop
 | [],ys=>ys= []
 | c::cs,ys=>∃y r,ys=y::r/\VR O c y/\cT O cs r
end
def Ren.le (O ρ':Ren):Prop:=∀b l,O b=some l->ρ' b=some l
theorem Ren.le_refl (O:Ren):O.le O:=fun _ _ h=>h
theorem Ren.le_trans {O ρ' O'':Ren} (h:O.le ρ') (h':ρ'.le O''):O.le O'':=fun b l hb=>h' b l (h b l hb)
mutual
theorem VR.mono {O ρ':Ren} (h:O.le ρ'):∀(v:J) (x:Value),VR O v x->VR ρ' v x
 | .bool b,x,hv=>by simpa only[VR] using hv
 | .int k n,x,hv=>by simpa only[VR] using hv
 | .str s,x,hv=>by simpa only[VR] using hv
 | .nilPtr,x,hv=>by simpa only[VR] using hv
 | .ptr b off,x,hv=>by simp only[VR] at hv⊢;obtain⟨l,h1,d⟩:=hv;exact⟨l,h b l h1,d⟩
 | .au,x,hv=>by simpa only[VR] using hv
 | .slice b off len (.known c),x,hv=>by simp only[VR] at hv⊢;obtain⟨l,h1,d⟩:=hv;exact⟨l,h b l h1,d⟩
 | .slice b off len (.upto sz),x,hv=>by simp only[VR] at hv⊢;obtain⟨l,h1,d⟩:=hv;exact⟨l,h b l h1,d⟩
 | .slice b off len (.least a sz),x,hv=>by simp only[VR] at hv⊢;obtain⟨l,h1,d⟩:=hv;exact⟨l,h b l h1,d⟩
 | .gT,x,hv=>by simpa only[VR] using hv
 | .map b,x,hv=>by simp only[VR] at hv⊢;obtain⟨l,h1,d⟩:=hv;exact⟨l,h b l h1,d⟩
 | .func f fi ca,x,hv=>by
  simp only[VR] at hv⊢;obtain⟨fi',ca',h1,d,m⟩:=hv;exact⟨fi',ca',h1,cT.mono h fi _ d,cT.mono h ca _ m⟩
 | .yield b,x,hv=>by simp only[VR] at hv⊢;obtain⟨l,h1,d⟩:=hv;exact⟨l,h b l h1,d⟩
 | .nilFunc,x,hv=>by simpa only[VR] using hv
 | .iface t v,x,hv=>by simp only[VR] at hv⊢;obtain⟨y,h1,d⟩:=hv;exact⟨y,h1,VR.mono h v y d⟩
 | .nilIface,x,hv=>by simpa only[VR] using hv
 | .agg cs,x,hv=>by simp only[VR] at hv⊢;obtain⟨y,h1,d⟩:=hv;exact⟨y,h1,cT.mono h cs _ d⟩
 | .tuple cs,x,hv=>by simp only[VR] at hv⊢;obtain⟨y,h1,d⟩:=hv;exact⟨y,h1,cT.mono h cs _ d⟩
 | .any,x,hv=>by simp only[VR]
 | .ni a,x,hv=>by simpa only[VR] using hv
 | .tok n,x,hv=>by simpa only[VR] using hv
theorem cT.mono {O ρ':Ren} (h:O.le ρ'):∀(vs:List J) (xs:List Value),cT O vs xs->cT ρ' vs xs
 | [],xs,hv=>by simpa only[cT] using hv
 | c::cs,xs,hv=>by
  simp only[cT] at hv⊢;obtain⟨y,r,h1,b,d⟩:=hv;exact⟨y,r,h1,VR.mono h c y b,cT.mono h cs r d⟩
end
theorem cT.nil {O:Ren}:cT O [] []:=by simp only[cT]
theorem cT.cons {O:Ren} {v:J} {x:Value} {vs:List J} {xs:List Value} (h:VR O v x) (hs:cT O vs xs):cT O (v::vs) (x::xs):=by
 simp only[cT];grind
theorem cT.cons_inv {O:Ren} {v:J} {vs:List J} {ys:List Value} (h:cT O (v::vs) ys):∃x xs,ys=x::xs/\VR O v x/\cT O vs xs:=by
 simpa only[cT] using h
theorem cT.dY {O:Ren} {ys:List Value} (h:cT O [] ys):ys= []:=by simpa only[cT] using h
theorem cT.length {O:Ren}:∀{vs:List J} {xs:List Value},cT O vs xs->xs.length=vs.length
 | [],xs,h=>by rw[h.dY];rfl
 | v::vs,xs,h=>by
  obtain⟨x,r,rfl,_,b⟩:=h.cons_inv;simp[b.length]
theorem cT.get {O:Ren}:∀{vs:List J} {xs:List Value},cT O vs xs->∀{i:Nat} {v:J},vs[i]? =some v->∃x,xs[i]? =some x/\VR O v x
 | [],xs,h,i,v,hv=>by simp at hv
 | c::vs,xs,h,0,v,hv=>by
  obtain⟨x,r,rfl,h1,b⟩:=h.cons_inv
  simp_all
 | c::vs,xs,h,i+1,v,hv=>by
  obtain⟨x,r,rfl,h1,b⟩:=h.cons_inv;simp at hv;simpa using b.get hv
theorem cT.EM {O:Ren}:∀{vs:List J} {xs:List Value},xs.length=vs.length->(∀(i:Nat) (v:J),vs[i]? =some v->∃x,xs[i]? =some x/\VR O v x)->cT O vs xs
 | [],[],_,_=>cT.nil
 | v::vs,[],hl,_=>by simp at hl
 | [],x::xs,hl,_=>by simp at hl
 | v::vs,x::xs,hl,h=>by
  refine cT.cons ?_<|cT.EM (by simpa using hl) fun i u hu=>?_
  ·obtain⟨y,h1,b⟩:=h 0 v Z
   simp_all
  obtain⟨y,h1,b⟩:=h (i+1) u (by simpa using hu)
  simp_all
theorem cT.append {O:Ren}:∀{vs us:List J} {xs ys:List Value},cT O vs xs->cT O us ys->cT O (vs++us) (xs++ys)
 | [],us,xs,ys,h,h'=>by rw[h.dY];exact h'
 | v::vs,us,xs,ys,h,h'=>by
  obtain⟨x,r,rfl,h1,b⟩:=h.cons_inv;exact cT.cons h1<|b.append h'
theorem cT.drop {O:Ren}:∀{vs:List J} {xs:List Value},cT O vs xs->∀n,cT O (vs.drop n) (xs.drop n)
 | [],xs,h,n=>by rw[h.dY];simp;exact cT.nil
 | v::vs,xs,h,0=>h
 | v::vs,xs,h,n+1=>by
  obtain⟨x,r,rfl,h1,b⟩:=h.cons_inv;simpa using b.drop n
theorem cT.take {O:Ren}:∀{vs:List J} {xs:List Value},cT O vs xs->∀n,cT O (vs.take n) (xs.take n)
 | [],xs,h,n=>by rw[h.dY];simp;exact cT.nil
 | v::vs,xs,h,0=>by simpa using cT.nil
 | v::vs,xs,h,n+1=>by
  obtain⟨x,r,rfl,h1,b⟩:=h.cons_inv;simpa using cT.cons h1 (b.take n)
theorem cT.set {O:Ren}:∀{vs:List J} {xs:List Value},cT O vs xs->∀(n:Nat) {v:J} {x:Value},VR O v x->cT O (vs.set n v) (xs.set n x)
 | [],xs,h,n,_,_,_=>by rw[h.dY];simp;exact cT.nil
 | v::vs,xs,h,0,_,_,hv=>by
  obtain⟨x,r,rfl,h1,b⟩:=h.cons_inv;simpa using cT.cons hv b
 | v::vs,xs,h,n+1,_,_,hv=>by
  obtain⟨x,r,rfl,h1,b⟩:=h.cons_inv;simpa using cT.cons h1 (b.set n hv)
structure eB where
 key:J
 val:J
 born:Nat
 deriving Inhabited
inductive cu where
 | row (cells:List J) (elem:Nat) (ro:Bool)
 | own (cells:List J) (elem:Nat)
 | map (es:List eB) (clock:Nat)
 | iter (s:List Nat) (pos:Nat)
 | loop (state:LoopState) (pending:Option Code) (tmps:PT J) (n:Nat) (params:List Nat) (assign body:Code) (defers:Pos)
 | mark
 | dead
 deriving Inhabited
def cu.ro:cu->Bool
 | .row _ _ ro=>ro
 | _=>false
structure N where
 next:Pos
 m:PT cu
def TR (O:Ren) (t:PT J) (n:Nat) (tmps:Array Value):Prop:=
 tmps.size=n/\∀k v,t.get (posOf k)=some v->k<n/\VR O v (tmps.getD k undef)
def jv (O:Ren):List eB->List MapEntry->Prop
 | [],ys=>ys= []
 | e::es,ys=>∃y r,ys=y::r/\VR O e.key y.key/\VR O e.val y.val/\y.born=e.born/\jv O es r
def fR (O:Ren) (l:Loc):cu->Obj->Prop
 | .row cells elem ro,x=>∃c fr,x= .cells c elem fr/\c.size=l.sh+l.cells/\cells.length<=l.cells/\
   (∀(i:Nat) (v:J),cells[i]? =some v->∃y,c[l.sh+i]? =some y/\VR O v y)/\(ro=false->∀j,l.sh<=j->¬(fr.1<=j/\j<fr.2))
 | .own cells elem,x=>(l.sh=0/\cells.length=l.cells)/\∃c fr,x= .cells c elem fr/\c.size=l.sh+l.cells/\cells.length<=l.cells/\
   (∀(i:Nat) (v:J),cells[i]? =some v->∃y,c[l.sh+i]? =some y/\VR O v y)/\(false=false->∀j,l.sh<=j->¬(fr.1<=j/\j<fr.2))
 | .map es clock,x=>∃es',x= .map es' clock/\jv O es es'.toList
 | .iter s pos,x=>∃bs,x= .stringIter bs pos/\ga s bs
 | .loop state pending tmps n params assign body defers,x=>∃fn tmps' l',x= .loop {state,pending,fn,tmps:=tmps',params:=params.toArray,assign,body,defers:=l'.da}/\
   O defers=some l'/\TR O tmps n tmps'
 | .mark,x=>x= .deferred (some [])
 | .dead,_=>True
theorem TR.mono {O ρ':Ren} (h:O.le ρ') {t:PT J} {n:Nat} {tmps:Array Value} (b:TR O t n tmps):TR ρ' t n tmps:=
 ⟨b.1,fun k v hv=>⟨(b.2 k v hv).1,VR.mono h _ _ (b.2 k v hv).2⟩⟩
theorem jv.mono {O ρ':Ren} (h:O.le ρ'):∀{es:List eB} {ys:List MapEntry},jv O es ys->jv ρ' es ys
 | [],ys,he=>he
 | e::es,ys,he=>by
  obtain⟨y,r,h1,b,d,h4,h5⟩:=he;exact⟨y,r,h1,VR.mono h _ _ b,VR.mono h _ _ d,h4,jv.mono h h5⟩
theorem fR.mono {O ρ':Ren} (h:O.le ρ') {l:Loc}:∀{o:cu} {x:Obj},fR O l o x->fR ρ' l o x
 | .row cells elem ro,x,d=>by
  obtain⟨c,fr,h1,m,u,h4,h5⟩:=d;exact⟨c,fr,h1,m,u,fun i v hv=>let ⟨y,a,b⟩:=h4 i v hv;⟨y,a,VR.mono h _ _ b⟩,h5⟩
 | .own cells elem,x,d=>by
  obtain⟨h0,c,fr,h1,m,u,h4,h5⟩:=d;exact⟨h0,c,fr,h1,m,u,fun i v hv=>let ⟨y,a,b⟩:=h4 i v hv;⟨y,a,VR.mono h _ _ b⟩,h5⟩
 | .map es clock,x,d=>let ⟨es',h1,m⟩:=d;⟨es',h1,jv.mono h m⟩
 | .iter s pos,x,d=>d
 | .loop ..,x,d=>let ⟨fn,tmps',l',h1,m,u⟩:=d;⟨fn,tmps',l',h1,h _ _ m,TR.mono h u⟩
 | .mark,x,d=>d
 | .dead,x,d=>d
structure zH (O:Ren) (V:N) (w:World):Prop where
 fresh:∀b:Pos,V.next.num<=b.num->O b=none/\V.m.get b=none
 da:∀b l,O b=some l->l.da<w.heap.size
 obj:∀b o l,V.m.get b=some o->O b=some l->∃x,w.heap[l.da]? =some x/\fR O l o x
 inj:∀b b' o o' l l',V.m.get b=some o->V.m.get b'=some o'->O b=some l->O b'=some l'->l.da=l'.da->b≠b'->o.ro=true/\o'.ro=true
def Wr (O:Ren) (V:N) (r:Nat):Prop:=∃b o l,V.m.get b=some o/\o.ro=false/\O b=some l/\l.da=r
structure Old (O:Ren) (V:N) (w:World):Prop where
 size:Env.n0<=w.heap.size
 same:∀r:Nat,r<Env.n0->w.heap[r]? =Env.h0[r]?
 no:∀r:Nat,r<Env.n0->¬Wr O V r
def G9 (w:World):Prop:=Env.n0<=w.heap.size/\∀r:Nat,r<Env.n0->w.heap[r]? =Env.h0[r]?
structure Inv (O:Ren) (V:N) (w:World):Prop extends zH O V w where
 nz:Old O V w
structure eF (O:Ren) (V:N) (w:World) (ρ':Ren) (V':N) (w':World):Prop where
 ext:∀b:Pos,b.num<V.next.num->ρ' b=O b
 next:V.next.num<=V'.next.num
 size:w.heap.size<=w'.heap.size
 frame:∀r:Nat,r<w.heap.size->¬Wr O V r->w'.heap[r]? =w.heap[r]?
 wr:∀r:Nat,Wr ρ' V' r->r<w.heap.size->Wr O V r
 tape:w'.tape=w.tape
 os:w'.os=w.os
 out:w'.output=w.output/\w.drawn<=w'.drawn
theorem eF.refl (O:Ren) (V:N) (w:World):eF O V w O V w:=
 ⟨fun _ _=>Z,nR_ _,nR_ _,fun _ _ _=>Z,fun _ h _=>h,Z,Z,Z,nR_ _⟩
theorem eF.trans {O ρ₁ ρ₂:Ren} {V d m:N} {w w₁ w₂:World} (h:eF O V w ρ₁ d w₁) (h':eF ρ₁ d w₁ ρ₂ m w₂):eF O V w ρ₂ m w₂ where
 ext b hb:=(h'.ext b<|Nat.lt_of_lt_of_le hb h.next).trans (h.ext b hb)
 next:=Nat.le_trans h.next h'.next
 size:=Nat.le_trans h.size h'.size
 frame r hr hn:=(h'.frame r (Nat.lt_of_lt_of_le hr h.size) (fun hw=>hn (h.wr r hw hr))).trans (h.frame r hr hn)
 wr r hw hr:=h.wr r (h'.wr r hw<|Nat.lt_of_lt_of_le hr h.size) hr
 tape:=h'.tape.trans h.tape
 os:=h'.os.trans h.os
 out:=⟨h'.out.1.trans h.out.1,Nat.le_trans h.out.2 h'.out.2⟩
theorem Old.of {O ρ':Ren} {V V':N} {w w':World} (h:Old O V w) (st:eF O V w ρ' V' w'):Old ρ' V' w' where
 size:=Nat.le_trans h.size st.size
 same r hr:=(st.frame r (Nat.lt_of_lt_of_le hr h.size)<|h.no r hr).trans (h.same r hr)
 no r hr hw:=h.no r hr (st.wr r hw<|Nat.lt_of_lt_of_le hr h.size)
theorem Inv.of {O ρ':Ren} {V V':N} {w w':World} (h:Inv O V w) (h':zH ρ' V' w'/\eF O V w ρ' V' w'):Inv ρ' V' w'/\eF O V w ρ' V' w':=⟨⟨h'.1,h.nz.of h'.2⟩,h'.2⟩
theorem Inv.EK {O:Ren} {V:N} {w:World} (h:Inv O V w) {b:Pos} {l:Loc} (hb:O b=some l):b.num<V.next.num:=by
 rcases Nat.lt_or_ge b.num V.next.num with h' | h'
 ·exact h'
 rw[(h.fresh b h').1] at hb;cases hb
theorem eF.le {O ρ':Ren} {V V':N} {w w':World} (hi:Inv O V w) (h:eF O V w ρ' V' w'):O.le ρ':=fun b l hb=>by
 rw[h.ext b<|hi.EK hb];exact hb
end Go.Ev
namespace Go.Ev
variable [Env]
section
variable {O:Ren} {V:N} {w:World}
theorem Addr.add_eq (a:Addr) (n:Nat) (h:a.spot=none):a.add n=⟨a.block,a.off+n,none⟩:=by
 unfold Addr.add;split
 ·rename_i h0;subst h0;cases a;simp_all
 rfl
theorem cell?_of_heap {w:World} {r:Nat} {c:Array Value} {e:Nat} {fr:Nat×Nat} (h:w.heap[r]? =some (.cells c e fr)) (i:Nat):w.cell? ⟨r,i,none⟩=c[i]?:=by
 simp[World.cell?,h]
theorem frozen?_of_heap {w:World} {r:Nat} {c:Array Value} {e:Nat} {fr:Nat×Nat} (h:w.heap[r]? =some (.cells c e fr)) (i:Nat) (hn:¬(fr.1<=i/\i<fr.2)):w.frozen? ⟨r,i,none⟩=false:=by
 grind [World.frozen?]
theorem heap_setCell_same {w:World} {r:Nat} {c:Array Value} {e:Nat} {fr:Nat×Nat} (h:w.heap[r]? =some (.cells c e fr)) (i:Nat) (v:Value):
  (w.setCell ⟨r,i,none⟩ v).heap[r]? =some (.cells (c.setIfInBounds i v) e fr):=by
 simp[World.setCell,Array.getElem?_modify,h]
theorem heap_setCell_other (w:World) {r:Nat} (a:Addr) (v:Value) (h:r≠a.block):(w.setCell a v).heap[r]? =w.heap[r]?:=by
 simp[World.setCell,Array.getElem?_modify,Ne.symm h]
theorem Inv.row (hi:Inv O V w) {b:Pos} {l:Loc} {cells:List J} {e:Nat} {ro:Bool} (d:V.m.get b=some (.row cells e ro)) (hl:O b=some l):
  ∃(c:Array Value) (fr:Nat×Nat),w.heap[l.da]? =some (.cells c e fr)/\c.size=l.sh+l.cells/\cells.length<=l.cells/\
   (∀(i:Nat) (v:J),cells[i]? =some v->∃y,c[l.sh+i]? =some y/\VR O v y)/\(ro=false->∀j,l.sh<=j->¬(fr.1<=j/\j<fr.2)):=by
 obtain⟨x,hx,c,fr,rfl,h2,h3,h4,h5⟩:=hi.obj b _ l d hl
 grind
theorem Inv.cell (hi:Inv O V w) {b:Pos} {l:Loc} {cells:List J} {e:Nat} {ro:Bool} (d:V.m.get b=some (.row cells e ro)) (hl:O b=some l)
  {i:Nat} {v:J} (hv:cells[i]? =some v):∃y,w.cell? ⟨l.da,l.sh+i,none⟩=some y/\VR O v y:=by
 obtain⟨c,fr,h1,_,_,h4,_⟩:=hi.row d hl
 grind [cell?_of_heap]
theorem Inv.drew (hi:Inv O V w):Inv O V w.drew:=⟨⟨hi.fresh,hi.da,hi.obj,hi.inj⟩,⟨hi.nz.size,hi.nz.same,hi.nz.no⟩⟩
theorem eF.drew (O:Ren) (V:N) (w:World):eF O V w O V w.drew:=
 ⟨fun _ _=>Z,nR_ _,nR_ _,fun _ _ _=>Z,fun _ h _=>h,Z,Z,Z,Nat.le_succ _⟩
def N.alloc (V:N) (o:cu):N:={next:=V.next.succ,m:=V.m.put (some o) V.next}
def Ren.with (O:Ren) (b:Pos) (l:Loc):Ren:=fun b'=>if b'=b then some l else O b'
theorem Ren.cy (O:Ren) (b:Pos) (l:Loc):O.with b l b=some l:=by simp[Ren.with]
theorem Ren.dO (O:Ren) {b b':Pos} (l:Loc) (h:b'≠b):O.with b l b'=O b':=by simp[Ren.with,h]
theorem Inv.vv (hi:Inv O V w) (l:Loc):O.le (O.with V.next l):=fun b l' hb=>by
 rw[Ren.dO]; · exact hb
 intro e;subst e;rw[(hi.fresh _<|nR_ _).1] at hb;cases hb
theorem heap_alloc_old (w:World) (x:Obj) {r:Nat} (h:r<w.heap.size):(w.alloc x).heap[r]? =w.heap[r]?:=by
 show(w.heap.push x)[r]? =_
 grind
theorem heap_alloc_new (w:World) (x:Obj):(w.alloc x).heap[w.heap.size]? =some x:=by
 show(w.heap.push x)[w.heap.size]? =_;simp
theorem Inv.DQ (hi:Inv O V w) {o:cu} {x:Obj} {l:Loc} (hl:l.da=w.heap.size) (K:fR O l o x):
  zH (O.with V.next l) (V.alloc o) (w.alloc x)/\eF O V w (O.with V.next l) (V.alloc o) (w.alloc x):=by
 have hle:=hi.vv l;have d:∀b l',b≠V.next->(O.with V.next l) b=some l'->O b=some l':=fun b l' hb h=>by rwa[Ren.dO O l hb] at h
 have u:∀b,b≠V.next->(V.alloc o).m.get b=V.m.get b:=fun b hb=>PT.db _ _ _ _ hb
 have C:(V.alloc o).m.get V.next=some o:=PT.de _ _ _;have I:∀b:Pos,b.num<V.next.num->b≠V.next:=fun b hb e=>by simp_all
 constructor
 ·refine⟨fun b hb=>?_,fun b l' hb=>?_,fun b o' l' hb E=>?_,fun b b' o₁ o₂ l₁ l₂ h1 F A h4 h5 L=>?_⟩
  ·have aa:V.next.num+1<=b.num:=by simpa [N.alloc,Pos.ie] using hb
   have hne:b≠V.next:=fun e=>by subst e;omega
   rw[Ren.dO O l hne,u b hne];exact hi.fresh b oM
  ·simp only[World.size_alloc]
   by_cases hne:b=V.next
   ·subst hne;rw[Ren.cy] at hb;cases hb;omega
   have:=hi.da b l' (d b l' hne hb);omega
  ·by_cases hne:b=V.next
   ·subst hne;rw[Ren.cy] at E;rw[C] at hb;cases hb;cases E;exact⟨x,by rw[hl];exact heap_alloc_new w x,K.mono hle⟩
   rw[u b hne] at hb;have h':=d b l' hne E;obtain⟨y,hy,G⟩:=hi.obj b o' l' hb h';exact⟨y,by rw[heap_alloc_old w x<|hi.da b l' h'];exact hy,G.mono hle⟩
  by_cases e1:b=V.next<;>by_cases e2:b'=V.next
  ·simp_all
  ·subst e1;rw[Ren.cy] at A;cases A;have:=hi.da b' l₂ (d b' l₂ e2 h4);omega
  ·subst e2;rw[Ren.cy] at h4;cases h4;have:=hi.da b l₁ (d b l₁ e1 A);omega
  rw[u b e1] at h1;rw[u b' e2] at F;exact hi.inj b b' o₁ o₂ l₁ l₂ h1 F (d b l₁ e1 A) (d b' l₂ e2 h4) h5 L
 refine⟨fun b hb=>Ren.dO O l (I b hb),by simp[N.alloc,Pos.ie],by simp,fun r G _=>heap_alloc_old w x G,?_,Z,Z,Z,nR_ _⟩;rintro r ⟨b,o',l',h1,F,A,rfl⟩ G
 by_cases hne:b=V.next
 ·subst hne;rw[Ren.cy] at A;cases A;omega
 rw[u b hne] at h1;exact⟨b,o',l',h1,F,d b l' hne A,Z⟩
theorem Inv.alloc (hi:Inv O V w) {o:cu} {x:Obj} {l:Loc} (hl:l.da=w.heap.size) (b:fR O l o x):
  Inv (O.with V.next l) (V.alloc o) (w.alloc x)/\eF O V w (O.with V.next l) (V.alloc o) (w.alloc x):=hi.of (hi.DQ hl b)
def N.setObj (V:N) (b:Pos) (o:cu):N:={V with m:=V.m.put (some o) b}
theorem Inv.BF (hi:Inv O V w) {b:Pos} {l:Loc} {o o':cu} {x:Obj} {w':World} (hb:V.m.get b=some o) (hl:O b=some l) (I:o.ro=false) (ab:o'.ro=false)
  (hw:w'.heap[l.da]? =some x) (ho:fR O l o' x) (d:∀r,r≠l.da->w'.heap[r]? =w.heap[r]?) (u:w'.heap.size=w.heap.size)
  (A:w'.tape=w.tape) (K:w'.os=w.os) (E:w'.output=w.output/\w.drawn<=w'.drawn):
  zH O (V.setObj b o') w'/\eF O V w O (V.setObj b o') w':=by
 have F:∀b',b'≠b->(V.setObj b o').m.get b'=V.m.get b':=fun b' h=>PT.db _ _ _ _ h
 have aa:(V.setObj b o').m.get b=some o':=PT.de _ _ _
 have back:∀b₁ o₁,(V.setObj b o').m.get b₁=some o₁->∃o₂,V.m.get b₁=some o₂/\(o₁.ro=true↔o₂.ro=true):=fun b₁ o₁ h=>by
  grind
 constructor
 ·refine⟨fun b' L=>?_,fun b' l' M=>by rw[u];exact hi.da b' l' M,fun b' o₁ l₁ h1 G=>?_,fun b₁ b₂ o₁ o₂ l₁ l₂ h1 G Q h4 h5 h6=>?_⟩
  ·have hf:=hi.fresh b' L
   grind
  ·by_cases e:b'=b
   ·simp_all
   rw[F b' e] at h1;obtain⟨y,hy,X⟩:=hi.obj b' o₁ l₁ h1 G
   have hne:l₁.da≠l.da:=fun R=>by
    have:=hi.inj b' b o₁ o l₁ l h1 hb G hl R e
    simp_all
   simp_all
  obtain⟨o₁',C,T⟩:=back b₁ o₁ h1;obtain⟨U,W,ac⟩:=back b₂ o₂ G;have:=hi.inj b₁ b₂ o₁' U l₁ l₂ C W Q h4 h5 h6
  simp_all
 refine⟨fun _ _=>Z,nR_ _,by omega,fun r X hn=>d r (fun e=>hn ⟨b,o,l,hb,I,hl,e.symm⟩),?_,A,K,E⟩;rintro r ⟨b₁,o₁,l₁,h1,G,Q,rfl⟩ X;obtain⟨o₁',C,T⟩:=back b₁ o₁ h1;refine⟨b₁,o₁',l₁,C,?_,Q,Z⟩
 simp_all
theorem Inv.change (hi:Inv O V w) {b:Pos} {l:Loc} {o o':cu} {x:Obj} {w':World} (hb:V.m.get b=some o) (hl:O b=some l) (F:o.ro=false) (C:o'.ro=false)
  (hw:w'.heap[l.da]? =some x) (I:fR O l o' x) (d:∀r,r≠l.da->w'.heap[r]? =w.heap[r]?) (u:w'.heap.size=w.heap.size)
  (A:w'.tape=w.tape) (G:w'.os=w.os) (E:w'.output=w.output/\w.drawn<=w'.drawn):
  Inv O (V.setObj b o') w'/\eF O V w O (V.setObj b o') w':=hi.of (hi.BF hb hl F C hw I d u A G E)
theorem Inv.zU (hi:Inv O V w) {b:Pos} {l:Loc} {o o':cu} {x:Obj} {w':World} (hb:V.m.get b=some o) (hl:O b=some l) (F:o.ro=false)
  (hw:w'.heap[l.da]? =some x) (ho:fR O l o' x) (u:∀r,r≠l.da->w'.heap[r]? =w.heap[r]?) (C:w'.heap.size=w.heap.size)
  (E:w'.tape=w.tape) (K:w'.os=w.os) (G:w'.output=w.output/\w.drawn<=w'.drawn):
  zH O (V.setObj b o') w'/\eF O V w O (V.setObj b o') w':=by
 have d:∀b',b'≠b->(V.setObj b o').m.get b'=V.m.get b':=fun b' h=>PT.db _ _ _ _ h
 have aa:(V.setObj b o').m.get b=some o':=PT.de _ _ _
 have apart:∀b' o₁ l₁,b'≠b->V.m.get b'=some o₁->O b'=some l₁->l₁.da≠l.da:=fun b' o₁ l₁ e h1 A L=>by
  have:=hi.inj b' b o₁ o l₁ l h1 hb A hl L e
  simp_all
 constructor
 ·refine⟨fun b' M=>?_,fun b' l' Q=>by rw[C];exact hi.da b' l' Q,fun b' o₁ l₁ h1 A=>?_,fun b₁ b₂ o₁ o₂ l₁ l₂ h1 A I h4 h5 T=>?_⟩
  ·have hf:=hi.fresh b' M
   grind
  ·by_cases e:b'=b
   ·simp_all
   rw[d b' e] at h1;obtain⟨y,hy,R⟩:=hi.obj b' o₁ l₁ h1 A
   grind
  by_cases e1:b₁=b<;>by_cases e2:b₂=b
  ·simp_all
  ·grind
  ·grind
  rw[d b₁ e1] at h1;rw[d b₂ e2] at A;exact hi.inj b₁ b₂ o₁ o₂ l₁ l₂ h1 A I h4 h5 T
 refine⟨fun _ _=>Z,nR_ _,by omega,fun r R U=>u r (fun e=>U ⟨b,o,l,hb,F,hl,e.symm⟩),?_,E,K,G⟩;rintro r ⟨b₁,o₁,l₁,h1,A,I,rfl⟩ R
 by_cases e:b₁=b
 ·subst e;exact⟨b₁,o,l₁,hb,F,I,Z⟩
 rw[d b₁ e] at h1;exact⟨b₁,o₁,l₁,h1,A,I,Z⟩
theorem Inv.FE (hi:Inv O V w) {b:Pos} {l:Loc} {o o':cu} {x:Obj} {w':World} (hb:V.m.get b=some o) (hl:O b=some l) (E:o.ro=false)
  (hw:w'.heap[l.da]? =some x) (G:fR O l o' x) (d:∀r,r≠l.da->w'.heap[r]? =w.heap[r]?) (u:w'.heap.size=w.heap.size)
  (A:w'.tape=w.tape) (F:w'.os=w.os) (C:w'.output=w.output/\w.drawn<=w'.drawn):
  Inv O (V.setObj b o') w'/\eF O V w O (V.setObj b o') w':=hi.of (hi.zU hb hl E hw G d u A F C)
theorem Inv.KE (hi:Inv O V w) {b:Pos} {l:Loc} {o o':cu} (hb:V.m.get b=some o) (hl:O b=some l) (d:o.ro=false) (u:∀x,fR O l o x->fR O l o' x):
  Inv O (V.setObj b o') w/\eF O V w O (V.setObj b o') w:=by
 obtain⟨x,hx,A⟩:=hi.obj b o l hb hl;exact hi.FE hb hl d hx (u x A) (fun _ _=>Z) Z Z Z ⟨Z,nR_ _⟩
theorem fR.Gj {l:Loc} {cells:List J} {e:Nat} {x:Obj} (h:fR O l (.own cells e) x):(l.sh=0/\cells.length=l.cells)/\fR O l (.row cells e false) x:=⟨h.1,h.2⟩
theorem fR.GA {l:Loc} {cells:List J} {e:Nat} {x:Obj} (h0:l.sh=0/\cells.length=l.cells) (h:fR O l (.row cells e false) x):fR O l (.own cells e) x:=⟨h0,h⟩
theorem Inv.own (hi:Inv O V w) {b:Pos} {l:Loc} {cells:List J} {e:Nat} (hb:V.m.get b=some (.own cells e)) (hl:O b=some l):
  (l.sh=0/\cells.length=l.cells)/\Inv O (V.setObj b (.row cells e false)) w/\eF O V w O (V.setObj b (.row cells e false)) w:=by
 obtain⟨x,hx,d⟩:=hi.obj b _ l hb hl;exact⟨d.Gj.1,hi.KE hb hl Z fun x hx=>hx.Gj.2⟩
theorem Inv.setCell (hi:Inv O V w) {b:Pos} {l:Loc} {cells:List J} {e i:Nat} {v:J} {y:Value} (hb:V.m.get b=some (.row cells e false)) (hl:O b=some l)
  (aa:i<cells.length) (hv:VR O v y):
  Inv O (V.setObj b (.row (cells.set i v) e false)) (w.setCell ⟨l.da,l.sh+i,none⟩ y)/\eF O V w O (V.setObj b (.row (cells.set i v) e false)) (w.setCell ⟨l.da,l.sh+i,none⟩ y):=by
 obtain⟨c,fr,h1,d,A,h4,h5⟩:=hi.row hb hl
 refine hi.change hb hl Z Z (heap_setCell_same h1 (l.sh+i) y) ⟨_,fr,Z,by simpa using d,by simpa using A,fun j u hu=>?_,fun _=>h5 Z⟩
  (fun r C=>heap_setCell_other w _ _ C) (by simp) Z Z ⟨Z,nR_ _⟩
 grind
def N.drop (V:N) (b:Pos):N:={V with m:=V.m.put none b}
theorem Inv.CU (hi:Inv O V w) {b:Pos} {l l':Loc} {cells cells':List J} {e:Nat} {x:Obj} {w':World} (hb:V.m.get b=some (.row cells e false)) (hl:O b=some l)
  (hblk:l'.da=l.da) (hw:w'.heap[l.da]? =some x) (X:fR O l' (.row cells' e false) x) (A:∀r,r≠l.da->w'.heap[r]? =w.heap[r]?) (E:w'.heap.size=w.heap.size)
  (F:w'.tape=w.tape) (Q:w'.os=w.os) (K:w'.output=w.output/\w.drawn<=w'.drawn):
  zH (O.with V.next l') ((V.drop b).alloc (.row cells' e false)) w'/\eF O V w (O.with V.next l') ((V.drop b).alloc (.row cells' e false)) w':=by
 have hle:=hi.vv l';have d:∀b l'',b≠V.next->(O.with V.next l') b=some l''->O b=some l'':=fun b l'' hb h=>by rwa[Ren.dO O l' hb] at h
 have ac:b≠V.next:=fun e=>by subst e;rw[(hi.fresh _<|nR_ _).1] at hl;cases hl
 have R:∀b:Pos,b.num<V.next.num->b≠V.next:=fun b hb e=>by simp_all
 have G:((V.drop b).alloc (.row cells' e false)).m.get V.next=some (.row cells' e false):=PT.de _ _ _
 have aa:∀b',b'≠V.next->((V.drop b).alloc (.row cells' e false)).m.get b'=if b'=b then none else V.m.get b':=fun b' h=>by
  show((V.m.put none b).put _ V.next).get b'=_;rw[PT.db _ _ _ _ h,PT.kO]
 have nz:∀b' o',b'≠V.next->((V.drop b).alloc (.row cells' e false)).m.get b'=some o'->b'≠b/\V.m.get b'=some o':=fun b' o' W h=>by
  simp_all
 have apart:∀b' o' l'',b'≠b->V.m.get b'=some o'->O b'=some l''->l''.da≠l.da:=fun b' o' l'' hne h1 C T=>by
  have:=hi.inj b' b o' _ l'' l h1 hb C hl T hne;exact absurd this.2 (by simp[cu.ro])
 constructor
 ·refine⟨fun b' I=>?_,fun b' l'' L=>?_,fun b' o₁ l₁ h1 C=>?_,fun b₁ b₂ o₁ o₂ l₁ l₂ h1 C M h4 h5 h6=>?_⟩
  ·have ab:V.next.num+1<=b'.num:=by simpa [N.alloc,N.drop,Pos.ie] using I
   have hne:b'≠V.next:=fun e=>by subst e;omega
   have hf:=hi.fresh b' oM
   grind [Ren.dO]
  ·rw[E]
   by_cases e1:b'=V.next
   ·grind [Ren.cy]
   exact hi.da b' l''<|d b' l'' e1 L
  ·by_cases e1:b'=V.next
   ·subst e1;rw[G] at h1;rw[Ren.cy] at C;cases h1;cases C;exact⟨x,by rw[hblk];exact hw,X.mono hle⟩
   obtain⟨hne,u⟩:=nz b' o₁ e1 h1;have h2':=d b' l₁ e1 C;obtain⟨y,hy,U⟩:=hi.obj b' o₁ l₁ u h2';exact⟨y,by grind,U.mono hle⟩
  by_cases e1:b₁=V.next<;>by_cases e2:b₂=V.next
  ·simp_all
  ·grind [Ren.cy]
  ·grind [Ren.cy]
  obtain⟨_,u⟩:=nz b₁ o₁ e1 h1;obtain⟨_,h2'⟩:=nz b₂ o₂ e2 C;exact hi.inj b₁ b₂ o₁ o₂ l₁ l₂ u h2' (d b₁ l₁ e1 M) (d b₂ l₂ e2 h4) h5 h6
 refine⟨fun b' I=>Ren.dO O l' (R b' I),by simp[N.alloc,N.drop,Pos.ie],by omega,
  fun r U W=>A r (fun e'=>W ⟨b,_,l,hb,Z,hl,e'.symm⟩),?_,F,Q,K⟩
 rintro r ⟨b₁,o₁,l₁,h1,C,M,rfl⟩ U
 by_cases e1:b₁=V.next
 ·subst e1;rw[Ren.cy] at M;cases M;exact⟨b,_,l,hb,Z,hl,hblk.symm⟩
 obtain⟨_,u⟩:=nz b₁ o₁ e1 h1;exact⟨b₁,o₁,l₁,u,C,d b₁ l₁ e1 M,Z⟩
theorem Inv.xl (hi:Inv O V w) {b:Pos} {l l':Loc} {cells cells':List J} {e:Nat} {x:Obj} {w':World} (hb:V.m.get b=some (.row cells e false)) (hl:O b=some l)
  (hblk:l'.da=l.da) (hw:w'.heap[l.da]? =some x) (F:fR O l' (.row cells' e false) x) (d:∀r,r≠l.da->w'.heap[r]? =w.heap[r]?) (u:w'.heap.size=w.heap.size)
  (A:w'.tape=w.tape) (E:w'.os=w.os) (C:w'.output=w.output/\w.drawn<=w'.drawn):
  Inv (O.with V.next l') ((V.drop b).alloc (.row cells' e false)) w'/\eF O V w (O.with V.next l') ((V.drop b).alloc (.row cells' e false)) w':=hi.of (hi.CU hb hl hblk hw F d u A E C)
theorem Inv.BX (hi:Inv O V w) (b:Pos):zH O (V.drop b) w/\eF O V w O (V.drop b) w:=by
 have nz:∀b' o',(V.drop b).m.get b'=some o'->V.m.get b'=some o':=fun b' o' h=>by
  have h':(V.m.put none b).get b'=some o':=h
  grind [PT.kO]
 constructor
 ·refine⟨fun b' d=>⟨(hi.fresh b' d).1,?_⟩,hi.da,fun b' o l h1 u=>hi.obj b' o l (nz b' o h1) u,fun b₁ b₂ o₁ o₂ l₁ l₂ h1 u=>hi.inj b₁ b₂ o₁ o₂ l₁ l₂ (nz b₁ o₁ h1) (nz b₂ o₂ u)⟩;show(V.m.put none b).get b'=none;rw[PT.kO];split
  ·rfl
  exact(hi.fresh b' d).2
 refine⟨fun _ _=>Z,nR_ _,nR_ _,fun _ _ _=>Z,?_,Z,Z,Z,nR_ _⟩;rintro r ⟨b₁,o₁,l₁,h1,u,A,rfl⟩ hr;exact⟨b₁,o₁,l₁,nz b₁ o₁ h1,u,A,Z⟩
theorem Inv.forget (hi:Inv O V w) (b:Pos):Inv O (V.drop b) w/\eF O V w O (V.drop b) w:=hi.of (hi.BX b)
end
def OI (k:IntKind) (n:Int):Bool:=
 match k,n with
 | .i8,.ofNat a=>Nat.ble a 127 | .i8,.negSucc a=>Nat.ble a 127
 | .i16,.ofNat a=>Nat.ble a 32767 | .i16,.negSucc a=>Nat.ble a 32767
 | .i32,.ofNat a=>Nat.ble a 2147483647 | .i32,.negSucc a=>Nat.ble a 2147483647
 | .i64,.ofNat a=>Nat.ble a 9223372036854775807 | .i64,.negSucc a=>Nat.ble a 9223372036854775807
 | .u8,.ofNat a=>Nat.ble a 255 | .u16,.ofNat a=>Nat.ble a 65535
 | .u32,.ofNat a=>Nat.ble a 4294967295 | .u64,.ofNat a=>Nat.ble a 18446744073709551615
 | _,_=>false
def wr (k:IntKind) (n:Int):Int:=bif OI k n then n else k.wrap n
def dy (x y:Int):Bool:=
 match x,y with
 | .ofNat a,.ofNat b=>Nat.ble (Nat.succ a) b
 | .negSucc _,.ofNat _=>true
 | .ofNat _,.negSucc _=>false
 | .negSucc a,.negSucc b=>Nat.ble (Nat.succ b) a
def bM (x y:Int):Bool:=
 match x,y with
 | .ofNat a,.ofNat b=>Nat.beq a b
 | .negSucc a,.negSucc b=>Nat.beq a b
 | _,_=>false
def xY (s t:List Nat):Bool:=
 List.rec (motive:=fun _=>List Nat->Bool) (fun t=>List.rec (motive:=fun _=>Bool) true (fun _ _ _=>false) t)
  (fun x _ ih t=>List.rec (motive:=fun _=>Bool) false (fun y u _=>bif Nat.beq x y then ih u else false) t) s t
def LN (s t:List Nat):Bool:=
 List.rec (motive:=fun _=>List Nat->Bool) (fun t=>List.rec (motive:=fun _=>Bool) false (fun _ _ _=>true) t)
  (fun x _ ih t=>List.rec (motive:=fun _=>Bool) false (fun y u _=>bif Nat.ble (Nat.succ x) y then true else bif Nat.beq x y then ih u else false) t) s t
def sQ:IntKind->IntKind->Bool
 | .i8,.i8 | .i16,.i16 | .i32,.i32 | .i64,.i64 | .u8,.u8 | .u16,.u16 | .u32,.u32 | .u64,.u64=>true
 | _,_=>false
def nw:Value->Option J
 | .bool b=>some (.bool b)
 | .int k n=>some (.int k n)
 | .string s=>some (.str<|s.data.toList.map UInt8.toNat)
 | .pointer none=>some .nilPtr
 | .slice none 0 0=>some .au
 | .map none=>some .gT
 | .nilFunc=>some .nilFunc
 | .nilIface=>some .nilIface
 | _=>none
def nP:Value->Option J
 | .agg cs=>(cM nw cs.toList).map .agg
 | .tuple cs=>(cM nw cs.toList).map .tuple
 | v=>nw v
def um (P:Program) (t:TypeId):Option TypeInfo:=
 match nth P.types.toList t with
 | some i=>some i
 | none=>P.info? t
def nK (P:Program) (t:TypeId):Option TypeDesc:=
 match um P t with
 | some {desc:=.named _ u,..}=>(um P u).map (·.desc)
 | some i=>some i.desc
 | none=>none
theorem oJ (P:Program) (t:TypeId):um P t=P.info? t:=by
 unfold um;rw[eU,aT_];cases h:P.types[t]? with
 | none=>rfl
 | some i=>
  have hlt:=(aS_.1 h).1;unfold Tables.info?;rw[if_pos hlt,h]
theorem nc (P:Program) (t:TypeId):nK P t=P.underlying t:=by
 grind [nK,Program.underlying,oJ]
def dN (P:Program) (t:TypeId):Option (Option Nat):=
 match nK P t with
 | some (.struct _) | some (.array _ _)=>some (some (((um P t).map (·.size)).getD 0))
 | some _=>some none
 | none=>none
theorem Bq (P:Program) (t:TypeId):dN P t=match P.underlying t with
 | some (.struct _) | some (.array _ _)=>some (some<|P.cellsOf t)
 | some _=>some none
 | none=>none:=by
 unfold dN;rw[nc,oJ];rfl
def cd:J->Option (List J)
 | .agg cs=>some cs
 | .tuple _=>none
 | .any=>none
 | v=>some [v]
def fJ:J->Bool
 | .agg _ | .tuple _ | .any=>false
 | _=>true
def bO (l:List J):Bool:=List.rec (motive:=fun _=>Bool) true (fun v _ r=>bif fJ v then r else false) l
def kT (cs l:List J):List J:=
 List.rec (motive:=fun _=>List J->List J) (fun l=>l) (fun c _ ih l=>List.rec (motive:=fun _=>List J) [] (fun _ l _=>c::ih l) l) cs l
def dB (cs l:List J) (off:Nat):List J:=
 List.rec (motive:=fun _=>Nat->List J) (fun _=>[]) (fun x l ih off=>Nat.rec (motive:=fun _=>List J) (kT cs (x::l)) (fun m _=>x::ih m) off) l off
def Gl (P:Program) (t:TypeId) (cs:List J) (off:Nat):Option J:=
 match dN P t with
 | some (some n)=>some (.agg<|takeN (dK cs off) n)
 | some none=>nth cs off
 | none=>none
def jA (place:Nat->Option (Nat×Nat)) (ev:Operand->Option J) (parts:List (Nat×Operand)) (cells:List J):Option (List J):=
 List.rec (motive:=fun _=>List J->Option (List J)) (fun cells=>some cells)
  (fun p _ ih cells=>
   match place p.1,(ev p.2).bind cd with
   | some (off,size),some vs=>bif Nat.beq (di vs) size && Nat.ble (off+size) (di cells) then ih (dB vs cells off) else none
   | _,_=>none) parts cells
def eQ (P:Program) (t:TypeId):Option J:=(P.info? t).bind fun i=>i.zero.bind nP
def ec (cs:List J) (n:Nat):List J:=Nat.rec (motive:=fun _=>List J) [] (fun _ r=>gg cs r) n
def structOf (P:Program) (t:TypeId):Option (Array Field):=
 match nK P t with
 | some (.struct fs)=>some fs
 | _=>none
def ry:J->J->Option Bool
 | .bool a,.bool b=>some (bif a then b else(bif b then false else true))
 | .int j a,.int k b=>bif sQ j k then some (bM a b) else none
 | .str a,.str b=>some (xY a b)
 | _,_=>none
def iN (P:Program) (fs:List Field) (xs ys:List J):Option Bool:=
 List.rec (motive:=fun _=>Option Bool) (some true)
  (fun f _ ih=>
   match P.underlying f.type,nth xs f.offset,nth ys f.offset with
   | some .bool,some (.bool a),some (.bool b)=>bif (bif a then b else(bif b then false else true)) then ih else some false
   | some (.int _),some (.int j a),some (.int k b)=>bif sQ j k then(bif bM a b then ih else some false) else none
   | some .string,some (.str a),some (.str b)=>bif xY a b then ih else some false
   | _,_,_=>none) fs
def kS (fs:List Field):Bool:=List.rec (motive:=fun _=>Bool) true (fun f _ r=>bif f.name == "_" then false else r) fs
def vV (xs ys:List J):Option Bool:=
 List.rec (motive:=fun _=>List J->Option Bool) (fun ys=>match ys with | []=>some true | _=>none)
  (fun x _ ih ys=>match x,ys with
   | .int j a,.int k b::r=>bif sQ j k then(bif bM a b then ih r else some false) else none
   | _,_=>none) xs ys
def rC (P:Program) (e:TypeId):Bool:=
 match P.underlying e,P.info? e with
 | some (.int _),some i=>Nat.beq i.size 1
 | _,_=>false
def eqFields (P:Program) (fs:List Field) (xs ys:List J):Option Bool:=
 List.rec (motive:=fun _=>Option Bool) (some true)
  (fun f _ ih=>
   match P.underlying f.type,nth xs f.offset,nth ys f.offset with
   | some .bool,some (.bool a),some (.bool b)=>bif (bif a then b else(bif b then false else true)) then ih else some false
   | some (.int _),some (.int j a),some (.int k b)=>bif sQ j k then(bif bM a b then ih else some false) else none
   | some .string,some (.str a),some (.str b)=>bif xY a b then ih else some false
   | some (.struct gs),_,_=>bif P.stoodInHeld f.type || !kS gs.toList then none else match dN P f.type with
    | some (some n)=>match iN P gs.toList (takeN (dK xs f.offset) n) (takeN (dK ys f.offset) n) with
     | some true=>ih
     | some false=>some false
     | none=>none
    | _=>none
   | some (.array m e),_,_=>bif rC P e then(match dN P f.type with
    | some (some n)=>bif Nat.beq n m && (Nat.beq (di<|takeN (dK xs f.offset) n) m && Nat.beq (di<|takeN (dK ys f.offset) n) m) then(match vV (takeN (dK xs f.offset) n) (takeN (dK ys f.offset) n) with
     | some true=>ih
     | some false=>some false
     | none=>none) else none
    | _=>none) else none
   | _,_,_=>none) fs
def DA (P:Program) (t:TypeId) (x y:J):Option Bool:=
 match x,y with
 | .agg xs,.agg ys=>
  match structOf P t with
  | some fs=>bif P.eqGuardType P.depth t || P.stoodInHeld t || !kS fs.toList then none else eqFields P fs.toList xs ys
  | none=>none
 | .nilPtr,.nilPtr=>match P.underlying t with | some (.pointer _)=>some true | _=>none
 | .ptr _ _,.nilPtr | .nilPtr,.ptr _ _=>match P.underlying t with | some (.pointer _)=>some false | _=>none
 | .ptr b o,.ptr b' o'=>match P.underlying t with | some (.pointer u)=>bif Nat.beq b b' && (Nat.beq o o' && (P.info? u).isSome) then some true else none | _=>none
 | .nilIface,.iface _ _ | .iface _ _,.nilIface=>match P.underlying t with | some (.interface _)=>some false | _=>none
 | .au,.au=>match P.underlying t with | some (.slice _)=>some true | _=>none
 | .slice _ _ _ _,.au | .au,.slice _ _ _ _=>match P.underlying t with | some (.slice _)=>some false | _=>none
 | .nilFunc,.nilFunc=>match P.underlying t with | some (.func _ _ _)=>some true | _=>none
 | .func _ _ _,.nilFunc | .nilFunc,.func _ _ _=>match P.underlying t with | some (.func _ _ _)=>some false | _=>none
 | .gT,.gT=>match P.underlying t with | some (.map _ _)=>some true | _=>none
 | .map _,.gT | .gT,.map _=>match P.underlying t with | some (.map _ _)=>some false | _=>none
 | _,_=>none
def lr (P:Program) (op:BinOp) (t:TypeId) (x y:J):Option J:=
 match op with
 | .eql=>match DA P t x y with | some b=>some (.bool b) | none=>none
 | .neq=>match DA P t x y with | some b=>some (.bool (bif b then false else true)) | none=>none
 | _=>none
def q7 (P:Program) (op:BinOp) (t:TypeId) (x y:J):Option J:=
 match x,y with
 | .int k a,.int k' b=>
  match op with
  | .shl=>bif dy b 0 then none else some (.int k<|wr k (a*2 ^ (min b.toNat k.bits)))
  | .shr=>bif dy b 0 then none else some (.int k<|a.fdiv (2 ^ (min b.toNat k.bits)))
  | op=>
   bif sQ k k' then
    match op with
    | .add=>some (.int k<|wr k<|Int.add a b)
    | .sub=>some (.int k<|wr k<|Int.sub a b)
    | .mul=>some (.int k<|wr k<|Int.mul a b)
    | .quo=>bif bM b 0 then none else some (.int k<|wr k<|a.tdiv b)
    | .rem=>bif bM b 0 then none else some (.int k<|a.tmod b)
    | .and=>some (.int k<|k.wrap (BitVec.ofInt k.bits a &&& BitVec.ofInt k.bits b).toNat)
    | .or=>some (.int k<|k.wrap (BitVec.ofInt k.bits a ||| BitVec.ofInt k.bits b).toNat)
    | .xor=>some (.int k<|k.wrap (BitVec.ofInt k.bits a ^^^ BitVec.ofInt k.bits b).toNat)
    | .andNot=>some (.int k<|k.wrap (BitVec.ofInt k.bits a &&& ~~~(BitVec.ofInt k.bits b)).toNat)
    | .eql=>some (.bool<|bM a b)
    | .neq=>some (.bool (bif bM a b then false else true))
    | .lss=>some (.bool<|dy a b)
    | .leq=>some (.bool (bif dy b a then false else true))
    | .gtr=>some (.bool<|dy b a)
    | .geq=>some (.bool (bif dy a b then false else true))
    | _=>none
   else none
 | .str a,.str b=>
  match op with
  | .add=>bif Nat.ble (di a+di b) 1152921504606846976 then some (.str<|gg a b) else none
  | .eql=>some (.bool<|xY a b)
  | .neq=>some (.bool (bif xY a b then false else true))
  | .lss=>some (.bool<|LN a b)
  | .gtr=>some (.bool<|LN b a)
  | .leq=>some (.bool (bif LN b a then false else true))
  | .geq=>some (.bool (bif LN a b then false else true))
  | _=>none
 | .bool a,.bool b=>
  match op,P.underlying t with
  | .eql,some .bool=>some (.bool (bif a then b else(bif b then false else true)))
  | .neq,some .bool=>some (.bool (bif a then(bif b then false else true) else b))
  | _,_=>none
 | x,y=>lr P op t x y
def dW (ev:Operand->Option J) (x:Operand) (y:Nat):Option Nat:=
 match ev x with
 | some (.int _ (.ofNat i))=>bif Nat.ble i y then some i else none
 | _=>none
def cO (ev:Operand->Option J) (len cap:Nat) (lo hi:Option Operand):Option (Nat×Nat):=
 match(match hi with | some h=>dW ev h cap | none=>some len) with
 | some h=>match(match lo with | some l=>dW ev l h | none=>some 0) with
  | some l=>some (l,h)
  | none=>none
 | none=>none
def cut (P:Program) (e:TypeId) (b:Pos) (off l h m:Nat):Option J:=
 match P.info? e with
 | some j=>some (.slice b (bif Nat.beq m l then off else off+l*j.size) (h-l) (.known (m-l)))
 | none=>none
def cutAt (P:Program) (ev:Operand->Option J) (e:TypeId) (b:Pos) (off len cap:Nat) (lo hi mx:Option Operand):Option J:=
 match mx with
 | none=>match cO ev len cap lo hi with
  | some (l,h)=>cut P e b off l h cap
  | none=>none
 | some x=>match dW ev x cap,hi with
  | some m,some _=>match cO ev m m lo hi with
   | some (l,h)=>cut P e b off l h m
   | none=>none
  | _,_=>none
def fy (P:Program) (ev:Operand->Option J) (t:TypeId) (x:Operand) (lo hi mx:Option Operand):Option J:=
 match P.underlying t,ev x with
 | some (.slice e),some (.slice b off len (.known cap))=>cutAt P ev e b off len cap lo hi mx
 | some (.slice e),some (.slice b off len (.upto sz))=>
  match mx with
  | none=>match cO ev len len lo hi,P.info? e with
   | some (l,h),some j=>bif Nat.beq j.size sz then some (.slice b (off+l*sz) (h-l) (.upto sz)) else none
   | _,_=>none
  | some x=>bif Nat.beq len 0 then none else cutAt P ev e b off len len lo hi (some x)
 | some (.slice e),some (.slice b off len (.least a sz))=>
  match mx with
  | none=>match cO ev len a lo hi,P.info? e with
   | some (l,h),some j=>bif Nat.beq j.size sz && (Nat.ble len a && Nat.ble (Nat.succ l) a) then some (.slice b (off+l*sz) (h-l) (.least (a-l) sz)) else none
   | _,_=>none
  | some _=>none
 | some (.slice e),some .au=>
  match mx with
  | none=>match cO ev 0 0 lo hi,P.info? e with | some _,some _=>some .au | _,_=>none
  | some _=>none
 | some (.array n e),some (.ptr b off)=>cutAt P ev e b off n n lo hi mx
 | some (.pointer arr),some (.ptr b off)=>
  match P.underlying arr with
  | some (.array n e)=>cutAt P ev e b off n n lo hi mx
  | _=>none
 | some .string,some (.str s)=>
  match mx with
  | none=>match cO ev (di s) (di s) lo hi with
   | some (l,h)=>some (.str<|takeN (dK s l) (h-l))
   | none=>none
  | some _=>none
 | _,_=>none
def wD (P:Program) (t:TypeId) (x:J):Option Nat:=
 match P.underlying t,x with
 | some .string,.str s=>some (di s)
 | some (.array n _),_=>some n
 | some (.slice _),.slice _ _ n _=>some n
 | some (.slice _),.au=>some 0
 | some (.map _ _),.gT=>some 0
 | _,_=>none
def P3:J->Option J
 | .slice _ _ _ (.known c)=>some (.int .i64<|Int.ofNat c)
 | .slice _ _ _ (.least a _)=>some (.ni a)
 | .au=>some (.int .i64 0)
 | _=>none
def Hd (P:Program) (op:BinOp) (t:TypeId) (x y:J):Option J:=
 match y with
 | .ni a=>match op,x with
  | .gtr,.int .i64 (.ofNat n)=>bif Nat.ble n a then some (.bool false) else none
  | _,_=>none
 | y=>q7 P op t x y
def yQ:Operand->Bool
 | .const _=>true
 | _=>false
def JY (P:Program) (o:BinOp) (t:TypeId) (k:Bool):Option J:=
 bif k then(match P.underlying t with
  | some (.interface _)=>match o with
   | .eql=>some (.bool true)
   | .neq=>some (.bool false)
   | _=>none
  | _=>none) else none
def q8 (P:Program) (k:Bool) (o:BinOp) (t:TypeId) (x y:J):Option J:=
 match x with
 | .nilIface=>match y with
  | .nilIface=>JY P o t k
  | y=>Hd P o t .nilIface y
 | x=>Hd P o t x y
def tb (ev:Operand->Option J) (l:List Operand):Option (List J):=cM ev l
def OM:J->J->Option J
 | .int k x,.int k' y=>bif sQ k k' then some (.int k (bif dy y x then y else x)) else none
 | _,_=>none
def Qp:J->J->Option J
 | .int k x,.int k' y=>bif sQ k k' then some (.int k (bif dy x y then y else x)) else none
 | _,_=>none
def du (P:Program) (ev:Operand->Option J):Op->Option J
 | .move x | .assign x=>ev x
 | .pick c a b=>match ev c with | some (.bool true)=>ev a | some (.bool false)=>ev b | _=>none
 | .build t parts=>
  match P.underlying t,(eQ P t).bind cd with
  | some (.struct fs),some zero=>match cM (fun f:Field=>(P.info? f.type).map fun j=>(f.offset,j.size)) fs.toList with
   | some places=>(jA (nth places) ev parts.toList zero).map .agg
   | none=>none
  | some (.array _ e),some zero=>match P.info? e with
   | some j=>(jA (fun i=>some (i*j.size,j.size)) ev parts.toList zero).map .agg
   | none=>none
  | _,_=>none
 | .nilCheck x=>match ev x with
  | some .nilPtr | some .nilIface | some .nilFunc | some (.yield _) | some .any | some (.tok _)=>none
  | v=>v
 | .binOp op t x y _=>match ev x,ev y with | some a,some b=>q8 P (yQ x || yQ y) op t a b | _,_=>none
 | .unOp op _ x=>match op,ev x with
  | .not,some (.bool b)=>some (.bool (bif b then false else true))
  | .neg,some (.int k n)=>some (.int k<|wr k<|Int.sub 0 n)
  | .xor,some (.int k n)=>some (.int k<|k.wrap (BitVec.ofInt k.bits (if k.signed then-1 else k.max) ^^^ BitVec.ofInt k.bits n).toNat)
  | _,_=>none
 | .convert src dst x=>match P.underlying src,P.underlying dst,ev x with
  | some (.int _),some (.int k),some (.int _ n)=>some (.int k<|wr k n)
  | some .string,some .string,some (.str s)=>some (.str s)
  | _,_,_=>none
 | .makeInterface t x=>match P.underlying t,ev x with
  | some (.interface _),_=>none
  | some _,some v=>some (.iface t v)
  | _,_=>none
 | .makeFunc fn first captured=>match fn,tb ev first.toList,tb ev captured.toList with
  | .func f,some a,some b=>some (.func f a b)
  | _,_,_=>none
 | .slice t x lo hi mx=>fy P ev t x lo hi mx
 | .fieldAddr s x i=>match structOf P s,ev x with
  | some fs,some (.ptr b off)=>match fs[i]? with
   | some f=>match P.info? f.type with
    | some j=>bif Nat.beq j.size 0 then none else some (.ptr b (off+f.offset))
    | none=>none
   | none=>none
  | _,_=>none
 | .field t x i=>match structOf P t,ev x with
  | some fs,some (.agg cs)=>match fs[i]? with
   | some f=>Gl P f.type cs f.offset
   | none=>none
  | _,_=>none
 | .indexAddr t x i=>match P.underlying t,ev x,ev i with
  | some (.slice e),some (.slice b off len _),some (.int _ (.ofNat i))=>
   match P.info? e with
   | some j=>bif Nat.ble (Nat.succ i) len then some (.ptr b (off+i*j.size)) else none
   | none=>none
  | some (.array n e),some (.ptr b off),some (.int _ (.ofNat i))=>
   match P.info? e with
   | some j=>bif Nat.ble (Nat.succ i) n then some (.ptr b (off+i*j.size)) else none
   | none=>none
  | _,_,_=>none
 | .index t x i=>match P.underlying t,ev x,ev i with
  | some (.array n e),some (.agg cs),some (.int _ (.ofNat i))=>bif Nat.ble (Nat.succ i) n then(match P.info? e with | some j=>Gl P e cs (i*j.size) | none=>none) else none
  | some .string,some (.str s),some (.int _ (.ofNat i))=>match nth s i with | some b=>some (.int .u8<|Int.ofNat b) | none=>none
  | _,_,_=>none
 | .extract x i=>match ev x with
  | some (.tuple vs)=>nth vs i
  | _=>none
 | .typeAssert x _ t ok=>match P.underlying t,ev x with
  | some (.interface _),_=>none
  | some _,some (.iface u v)=>bif Nat.beq u t then some (bif ok then .tuple [v,.bool true] else v) else(bif ok then(eQ P t).map fun z=>.tuple [z,.bool false] else none)
  | some _,some .nilIface=>bif ok then(eQ P t).map fun z=>.tuple [z,.bool false] else none
  | _,_=>none
 | .call c=>match c.callee with
  | .builtin .len=>match c.argTypes[0]?,c.args.toList with
   | some t,[x]=>match ev x with | some v=>(wD P t v).map fun n=>.int .i64 (Int.ofNat n) | none=>none
   | _,_=>none
  | .builtin .cap=>match c.argTypes[0]?,c.args.toList with
   | some t,[x]=>match P.underlying t,ev x with | some (.slice _),some v=>P3 v | _,_=>none
   | _,_=>none
  | .builtin .min=>match c.args.toList with
   | [x,y]=>(match ev x,ev y with | some a,some b=>OM a b | _,_=>none)
   | _=>none
  | .builtin .max=>match c.args.toList with
   | [x,y]=>(match ev x,ev y with | some a,some b=>Qp a b | _,_=>none)
   | _=>none
  | _=>none
 | _=>none
def plainKey (P:Program) (t:TypeId):Bool:=
 match P.underlying t with
 | some (.int _) | some .string | some .bool=>true
 | some (.struct fs)=>fs.toList.all fun f=>match P.underlying f.type with
  | some (.int _) | some .string | some .bool=>true
  | some (.struct gs)=>gs.toList.all fun g=>match P.underlying g.type with
   | some (.int _) | some .string | some .bool=>true
   | _=>false
  | some (.array _ e)=>rC P e
  | _=>false
 | _=>false
def lF (P:Program) (t:TypeId) (x y:J):Option Bool:=
 match P.underlying t,x,y with
 | some (.int _),.int j a,.int k b=>bif sQ j k then some (bM a b) else none
 | some .string,.str a,.str b=>some (xY a b)
 | some .bool,.bool a,.bool b=>some (bif a then b else(bif b then false else true))
 | some (.struct _),.agg xs,.agg ys=>DA P t (.agg xs) (.agg ys)
 | _,_,_=>none
def jl (P:Program) (t:TypeId) (x:J):Bool:=
 match P.underlying t,x with
 | some (.struct fs),.agg xs=>fs.toList.all fun f=>match P.underlying f.type with
  | some (.struct gs)=>match dN P f.type with
   | some (some n)=>gs.toList.all fun g=>(nth (takeN (dK xs f.offset) n) g.offset).isSome
   | _=>false
  | some (.array m _)=>match dN P f.type with
   | some (some n)=>Nat.beq n m && Nat.beq (di<|takeN (dK xs f.offset) n) m
   | _=>false
  | _=>(nth xs f.offset).isSome
 | some (.struct _),_=>false
 | _,_=>true
def l6 (P:Program) (t:TypeId) (k:J) (es:List eB):Nat->Option (Option (Nat×J)):=
 List.rec (motive:=fun _=>Nat->Option (Option (Nat×J))) (fun _=>some none)
  (fun e _ ih i=>match lF P t k e.key with
   | some true=>some (some (i,e.val))
   | some false=>ih (Nat.succ i)
   | none=>none) es
def nC (P:Program) (u:Option TypeId) (V:N) (x:Option J):Option J:=
 match x with
 | some (.ptr b off)=>match V.m.get b with
  | some (.own cells e)=>match u with
   | some u=>bif liesAt P P.depth e (di cells/P.cellsOf e) off u 1 then some (.ptr b off) else none
   | none=>bif Nat.ble (Nat.succ off) (di cells) then some (.ptr b off) else none
  | _=>none
 | _=>none
def rU:J->Option Nat
 | .int .u8 (.ofNat n)=>bif Nat.ble n 255 then some n else none
 | _=>none
def eY (P:Program) (ev:Operand->Option J) (V:N):Op->Option J
 | .load t x=>match ev x with
  | some (.ptr b off)=>match V.m.get b with
   | some (.row cells _ _)=>match dN P t with
    | some (some n)=>bif Nat.ble (off+n) (di cells) then some (.agg<|takeN (dK cells off) n) else none
    | some none=>nth cells off
    | none=>none
   | some (.own cells _)=>match dN P t with
    | some (some n)=>bif Nat.ble (off+n) (di cells) then some (.agg<|takeN (dK cells off) n) else none
    | some none=>nth cells off
    | none=>none
   | _=>none
  | _=>none
 | .lookup t x i ok=>match P.underlying t,ev i with
  | some (.map kt et),some k=>bif plainKey P kt && jl P kt k then
    match(match ev x with
     | some .gT=>some []
     | some (.map b)=>match V.m.get b with | some (.map es _)=>some es | _=>none
     | _=>none) with
    | some es=>match l6 P kt k es 0,eQ P et with
     | some (some (_,v)),some _=>some (bif ok then .tuple [v,.bool true] else v)
     | some none,some z=>some (bif ok then .tuple [z,.bool false] else z)
     | _,_=>none
    | none=>none
   else none
  | _,_=>none
 | .call c=>match c.callee with
  | .builtin .len=>match c.argTypes[0]?,c.args.toList with
   | some t,[x]=>match P.underlying t,ev x with
    | some (.map _ _),some (.map b)=>match V.m.get b with
     | some (.map es _)=>some (.int .i64<|Int.ofNat<|di es)
     | _=>none
    | some (.map _ _),some .gT=>some (.int .i64 0)
    | _,_=>none
   | _,_=>none
  | _=>none
 | .convert src dst x=>match P.underlying src,P.underlying dst with
  | some (.slice e),some .string=>match P.underlying e,ev x with
   | some (.int .u8),some .au=>some (.str [])
   | some (.int .u8),some (.slice b off len _)=>bif Nat.beq len 0 then some (.str []) else match V.m.get b with
    | some (.row cells _ _)=>bif Nat.ble (off+len) (di cells) then(match cM rU (takeN (dK cells off) len) with | some s=>some (.str s) | none=>none) else none
    | _=>none
   | _,_=>none
  | some (.pointer t),some .unsafePointer=>match P.info? t with
   | some j=>bif Nat.beq j.size 0 then none else nC P none V (ev x)
   | none=>none
  | some .unsafePointer,some (.pointer u)=>bif (P.info? u).isSome then nC P (some u) V (ev x) else none
  | _,_=>none
 | _=>none
inductive Mk where
 | ptr
 | slice (len cap:Nat)
 | map
def Mk.of:Mk->Pos->J
 | .ptr,b=>.ptr b 0
 | .slice len cap,b=>.slice b 0 len (.known cap)
 | .map,b=>.map b
def qh (P:Program) (e:TypeId):Bool:=
 match P.underlying e with
 | some (.struct fs)=>match fs[0]? with
  | some f=>match P.underlying f.type with
   | some (.pointer t)=>Nat.beq t e
   | _=>false
  | none=>false
 | _=>false
def eZ (P:Program) (ev:Operand->Option J):Op->Option (cu×Mk)
 | .alloc e=>match(eQ P e).bind cd with
  | some cs=>some (bif qh P e then .own cs e else .row cs e false,.ptr)
  | none=>none
 | .box e x=>match(ev x).bind cd with
  | some cs=>some (.row cs e false,.ptr)
  | none=>none
 | .buildSlice t len parts=>match P.underlying t with
  | some (.slice e)=>match P.info? e,(eQ P e).bind cd with
   | some j,some z=>
    bif Nat.beq (di z) j.size && Nat.ble (len*j.size) 16777216 && Nat.ble 1 j.size then
     match jA (fun i=>some (i*j.size,j.size)) ev parts.toList (ec z len) with
     | some cs=>some (.row cs e false,.slice len len)
     | none=>none
    else none
   | _,_=>none
  | _=>none
 | .makeSlice t l c=>match P.underlying t,ev l,ev c with
  | some (.slice e),some (.int _ (.ofNat l)),some (.int _ (.ofNat c))=>match P.info? e,(eQ P e).bind cd with
   | some j,some z=>
    bif Nat.ble l c && Nat.ble (j.bytes*c) 1048576 && Nat.ble c 1048576 && Nat.beq (di z) j.size && Nat.ble 1 j.size then some (.row (ec z c) e false,.slice l c) else none
   | _,_=>none
  | _,_,_=>none
 | .makeMap _ none=>some (.map [] 0,.map)
 | .makeMap t (some r)=>match P.underlying t,ev r with
  | some (.map _ _),some (.int _ _)=>some (.map [] 0,.map)
  | _,_=>none
 | _=>none
theorem bu {c:Bool} {α:Type} {x y:α}:(bif c then x else y)=if c=true then x else y:=by cases c<;>rfl
theorem uM (k:IntKind) (n:Int) (h:OI k n=true):k.wrap n=n:=by
 cases k<;>cases n with
 | ofNat a=>simp only[OI,nE_] at h;simp only[IntKind.wrap,IntKind.bits,IntKind.signed];simp;omega
 | negSucc a=>first | (simp only[OI,nE_] at h;simp only[IntKind.wrap,IntKind.bits,IntKind.signed];simp;omega) | (simp[OI] at h)
theorem Dp (k:IntKind) (n:Int):wr k n=k.wrap n:=by
 grind [wr,uM]
theorem eM (x y:Int):dy x y=decide (x<y):=by
 cases x<;>cases y<;>simp only[dy]<;>(rw[Bool.eq_iff_iff];simp[nE_];try omega)
theorem dv (x y:Int):bM x y=decide (x=y):=by
 cases x<;>cases y<;>simp only[bM]<;>(rw[Bool.eq_iff_iff];simp;try omega)
theorem oC {j k:IntKind} (h:sQ j k=true):j=k:=by cases j<;>cases k<;>first | rfl | (simp[sQ] at h)
theorem rz:∀(s t:List Nat),xY s t=decide (s=t)
 | [],[]=>by simp[xY]
 | [],_::_=>by simp[xY]
 | _::_,[]=>by simp[xY]
 | x::s,y::t=>by
  show(bif Nat.beq x y then xY s t else false)=_;rw[rz s t,Bool.eq_iff_iff]
  simp_all
theorem JR:∀(s t:List UInt8),LN (s.map UInt8.toNat) (t.map UInt8.toNat)=Op.bytesLess s t
 | [],[]=>by simp[LN,Op.bytesLess]
 | [],_::_=>by simp[LN,Op.bytesLess]
 | _::_,[]=>by simp[LN,Op.bytesLess]
 | x::s,y::t=>by
  show(bif Nat.ble (Nat.succ x.toNat) y.toNat then true else bif Nat.beq x.toNat y.toNat then LN (s.map UInt8.toNat) (t.map UInt8.toNat) else false)=_;rw[JR s t];simp only[Op.bytesLess]
  have e1:Nat.ble (Nat.succ x.toNat) y.toNat=decide (x<y):=by
   rw[Bool.eq_iff_iff,nE_];simp[UInt8.lt_iff_toNat_lt];omega
  have e2:Nat.beq x.toNat y.toNat=(x == y):=by
   rw[Bool.eq_iff_iff,Nat.beq_eq];simp[<-UInt8.toNat_inj]
  simp_all
theorem qM:∀{x y:List UInt8},x.map UInt8.toNat=y.map UInt8.toNat->x=y
 | [],[],_=>rfl
 | [],_::_,h=>by simp at h
 | _::_,[],h=>by simp at h
 | a::x,b::y,h=>by
  simp only[List.map_cons,List.cons.injEq] at h;rw[UInt8.toNat_inj.1 h.1,qM h.2]
theorem nb {s t:List Nat} {x y:ByteArray} (h:ga s x) (h':ga t y):xY s t=(x.toList == y.toList):=by
 unfold ga at h h';subst h;subst h';rw[rz,ByteArray.toList_eq,ByteArray.toList_eq,Bool.eq_iff_iff];simp only[decide_eq_true_eq,beq_iff_eq];exact⟨qM,fun h=>by rw[h]⟩
theorem zi {s t:List Nat} {x y:ByteArray} (h:ga s x) (h':ga t y):LN s t=Op.bytesLess x.toList y.toList:=by
 grind [ga,JR,ByteArray.toList_eq]
theorem iV {s:List Nat} {x:ByteArray} (h:ga s x):di s=x.size:=by
 unfold ga at h;subst h;rw[bT,lM_,Array.length_toList];rfl
theorem info_of_underlying {P:Program} {t:TypeId} {d:TypeDesc} (h:P.underlying t=some d):∃i,P.info? t=some i:=by
 unfold Program.underlying at h
 grind
theorem rq {P:Program} {t:TypeId} {i:TypeInfo} (h:P.info? t=some i):P.cellsOf t=i.size:=by simp[Program.cellsOf,h]
theorem wX:∀(cs l:List J),cs.length<=l.length->kT cs l=cs++l.drop cs.length
 | [],l,_=>by simp[kT]
 | c::cs,[],h=>by simp at h
 | c::cs,x::l,h=>by
  show c::kT cs l=_;rw[wX cs l (by simpa using h)];simp
theorem kW (cs:List J):∀(l:List J) (off:Nat),off+cs.length<=l.length->dB cs l off=l.take off++cs++l.drop (off+cs.length)
 | [],off,h=>by
  have:cs= []:=eN_ (by simp only[List.length_nil] at h;omega);subst this;simp[dB]
 | x::l,0,h=>by
  show kT cs (x::l)=_;rw[wX _ _ (by simpa using h)];simp
 | x::l,off+1,h=>by
  show x::dB cs l off=_;rw[kW cs l off (by simp at h;omega)];rw[show off+1+cs.length=(off+cs.length)+1 by omega];simp
theorem k9:∀{l:List J},bO l=true->∀v∈l,fJ v=true
 | [],_,v,hv=>by simp at hv
 | x::l,h,v,hv=>by
  have h':(bif fJ x then bO l else false)=true:=h;cases hx:fJ x with
  | false=>rw[hx] at h';simp at h'
  | true=>
   rw[hx] at h';cases hv with
   | head=>exact hx
   | tail _ hm=>exact k9 h' v hm
theorem kP {O:Ren} {v:J} {x:Value} (h:fJ v=true) (hv:VR O v x):x.oneCell'=true:=by
 cases v with
 | slice b off len cap=>
  cases cap with
  | upto sz=>
   simp only[VR] at hv;rcases hv with ⟨l,_,⟨c,rfl,_⟩ | ⟨_,a,rfl⟩⟩<;>rfl
  | known c=>simp only[VR] at hv;obtain⟨l,_,rfl⟩:=hv;rfl
  | least a sz=>simp only[VR] at hv;obtain⟨l,_,c,rfl,_⟩:=hv;rfl
 | any=>simp[fJ] at h
 | tok n=>simp only[VR] at hv;exact hv.2
 | _=>simp only[VR,fJ] at hv h<;>first | (subst hv;rfl) | (obtain⟨_,rfl,_⟩:=hv;rfl) | (obtain⟨_,_,rfl⟩:=hv;rfl) | (obtain⟨_,_,rfl,_⟩:=hv;rfl) | simp_all
theorem ny {O:Ren} {x:Value} {v:J} (h:nw x=some v):VR O v x:=by
 unfold nw at h;split at h<;>first | (cases h;first | (simp only[VR];done) | (simp only[VR];exact⟨_,Z,Z⟩)) | cases h
theorem mm {O:Ren}:∀{xs:List Value} {vs:List J},cM nw xs=some vs->cT O vs xs
 | [],vs,h=>by rw[gx] at h;cases h;exact cT.nil
 | x::xs,vs,h=>by
  obtain⟨y,r,h1,b,rfl⟩:=fV h;exact cT.cons (ny h1)<|mm b
theorem oV {O:Ren} {x:Value} {v:J} (h:nP x=some v):VR O v x:=by
 unfold nP at h;split at h
 ·rename_i cs;cases hc:cM nw cs.toList with
  | none=>rw[hc] at h;cases h
  | some vs=>rw[hc] at h;cases h;simp only[VR];exact⟨cs,Z,mm hc⟩
 ·rename_i cs;cases hc:cM nw cs.toList with
  | none=>rw[hc] at h;cases h
  | some vs=>rw[hc] at h;cases h;simp only[VR];exact⟨cs,Z,mm hc⟩
 exact ny h
theorem gI {O:Ren} {v:J} {x:Value} {cs:List J} (h:cd v=some cs) (hv:VR O v x):cT O cs x.cells.toList:=by
 have leaf:fJ v=true->cs= [v]->cT O cs x.cells.toList:=fun hl e=>by
  subst e;have hx:=kP hl hv;have e:x.cells.toList= [x]:=by cases x<;>first | rfl | (simp[Value.oneCell'] at hx)
  rw[e];exact cT.cons hv cT.nil
 cases v with
 | agg ds=>simp only[cd,oJ_] at h;subst h;simp only[VR] at hv;obtain⟨ys,rfl,b⟩:=hv;exact b
 | tuple ds=>simp[cd] at h
 | any=>simp[cd] at h
 | _=>simp only[cd,oJ_] at h;exact leaf Z h.symm
theorem lX {O:Ren} {v:J} {x:Value} {cs:List J} (h:cd v=some cs) (hv:VR O v x):x.cells.size=cs.length:=by
 have:=(gI h hv).length;simpa using this
section
variable {P:Program} {O:Ren} {V:N} {w:World}
def ER (O:Ren) (ev:Operand->Option J) (f:Operand->Value) (op:Op):Prop:=∀x∈op.operands,∀v,ev x=some v->VR O v (f x)
theorem Inv.piece (hi:Inv O V w) {b:Pos} {l:Loc} {cells:List J} {e:Nat} {ro:Bool} (d:V.m.get b=some (.row cells e ro)) (hl:O b=some l) (off n:Nat) (hn:off+n<=cells.length):
  ∃ys:List Value,ys.length=n/\cT O ((cells.drop off).take n) ys/\∀(j:Nat) (y:Value),ys[j]? =some y->w.cell? ((⟨l.da,l.sh+off,none⟩:Addr).add j)=some y:=by
 obtain⟨c,fr,h1,h2,h3,h4,_⟩:=hi.row d hl;refine⟨(c.toList.drop (l.sh+off)).take n,?_,cT.EM ?_ ?_,?_⟩
 ·grind
 ·grind
 ·grind
 intro j y hy;rw[List.getElem?_take] at hy;split at hy
 ·rw[List.getElem?_drop,aT_] at hy;rw[Addr.add_eq _ _ Z,cell?_of_heap h1];exact hy
 cases hy
def Bp:TypeDesc->Bool
 | .struct _ | .array _ _=>true
 | _=>false
theorem eT {t:TypeId} {d:TypeDesc} (h:P.underlying t=some d):(isAgg t).run P w= .ok (Bp d) w:=by
 simp only[isAgg,sB_,run_underlying h,rA];cases d<;>rfl
theorem bU {t:TypeId} {i:TypeInfo} (h:P.info? t=some i):(sizeOf t).run P w= .ok i.size w:=by
 simp[sizeOf,typeInfo,h]
theorem qX {t:TypeId} {n:Nat} (h:dN P t=some (some n)):∃d i,P.underlying t=some d/\P.info? t=some i/\i.size=n/\Bp d=true:=by
 rw[Bq] at h;split at h
 ·rename_i fs hu;obtain⟨i,hi⟩:=info_of_underlying hu;simp only[oJ_] at h;rw[rq hi] at h;exact⟨_,i,hu,hi,h,Z⟩
 ·rename_i hu;obtain⟨i,hi⟩:=info_of_underlying hu;simp only[oJ_] at h;rw[rq hi] at h;exact⟨_,i,hu,hi,h,Z⟩
 ·simp at h
 simp at h
theorem vC {t:TypeId} (h:dN P t=some none):∃d i,P.underlying t=some d/\P.info? t=some i/\Bp d=false:=by
 rw[Bq] at h;split at h
 ·simp at h
 ·simp at h
 ·rename_i d h1 h2 hu;obtain⟨i,hi⟩:=info_of_underlying hu;refine⟨d,i,hu,hi,?_⟩;cases d<;>first | rfl | simp_all | simp_all
 simp at h
theorem mz (hi:Inv O V w) {b:Pos} {l:Loc} {off:Nat} {cells:List J} {e:Nat} {ro:Bool} (E:V.m.get b=some (.row cells e ro)) (hl:O b=some l) {t:TypeId} {v:J}
  (h:(match dN P t with
    | some (some n)=>bif Nat.ble (off+n) (di cells) then some (.agg<|takeN (dK cells off) n) else none
    | some none=>nth cells off
    | none=>none)=some v):
  ∃x,(loadVar t ⟨l.da,l.sh+off,none⟩).run P w= .ok x w/\VR O v x:=by
 cases A:dN P t with
 | none=>rw[A] at h;cases h
 | some o=>
  rw[A] at h;cases o with
  | some n=>
   obtain⟨d,i,hu,u,C,hd⟩:=qX A;simp only[bu] at h;split at h
   ·rename_i hle;rw[nE_,bT] at hle;cases h;obtain⟨ys,hlen,aa,hc⟩:=hi.piece E hl off n hle;refine⟨.agg ys.toArray,?_,?_⟩
    ·simp only[loadVar,sB_,eT hu,hd,rA,if_true,bU u,C];rw[<-hlen,run_loadCells_list w _ ys hc];rfl
    simp only[VR,dp,dF]
    simp_all
   cases h
  | none=>
   obtain⟨d,i,hu,u,hd⟩:=vC A;rw[eU] at h;obtain⟨y,hy,F⟩:=hi.cell E hl h;refine⟨y,?_,F⟩;simp only[loadVar,sB_,eT hu,hd,rA,Bool.false_eq_true,if_false];rw[run_load,hy]
end
section
variable {P:Program} {O:Ren} {V:N} {w:World}
def gk (l:List J) (k:Nat):List J->List J
 | []=>l
 | v::vs=>gk (l.set k v) (k+1) vs
theorem qQ:∀(vs:List J) (l:List J) (k:Nat),(gk l k vs).length=l.length
 | [],_,_=>rfl
 | v::vs,l,k=>by rw[gk,qQ vs];simp
theorem ph:∀(vs:List J) (x:J) (l:List J) (k:Nat),gk (x::l) (k+1) vs=x::gk l k vs
 | [],_,_,_=>rfl
 | v::vs,x,l,k=>by rw[gk,gk,List.set_cons_succ,ph vs]
theorem oW:∀(cs l:List J),cs.length<=l.length->kT cs l=gk l 0 cs
 | [],l,_=>by simp[kT,gk]
 | c::cs,[],h=>by simp at h
 | c::cs,x::l,h=>by
  show c::kT cs l=_;rw[oW cs l (by simpa using h),gk,List.set_cons_zero,ph]
theorem jX (cs:List J):∀(l:List J) (off:Nat),off+cs.length<=l.length->dB cs l off=gk l off cs
 | [],off,h=>by
  have:cs= []:=eN_ (by simp only[List.length_nil] at h;omega);subst this;simp[dB,gk]
 | x::l,0,h=>by
  show kT cs (x::l)=_;exact oW _ _ (by simpa using h)
 | x::l,off+1,h=>by
  show x::dB cs l off=_;rw[jX cs l off (by simp only[List.length_cons] at h;omega),ph]
theorem BW {off:Nat}:∀(vs:List J) (xs:List Value) (k:Nat) (l:List J) (ys:Array Value),cT O vs xs->cT O l ys.toList->
  cT O (gk l (off+k) vs) ((xs.zipIdx k).foldl (fun(cs:Array Value) (p:Value×Nat)=>cs.setIfInBounds (off+p.2) p.1) ys).toList
 | [],xs,k,l,ys,h,hl=>by rw[h.dY];exact hl
 | v::vs,xs,k,l,ys,h,hl=>by
  obtain⟨x,r,rfl,h1,b⟩:=h.cons_inv;simp only[List.zipIdx_cons,List.foldl_cons,gk];have:=BW (off:=off) vs r (k+1) (l.set (off+k) v) (ys.setIfInBounds (off+k) x) b (by simpa using hl.set (off+k) h1);simpa [Nat.add_assoc] using this
theorem nt {place place':Nat->Option (Nat×Nat)} (hp:∀i x,place i=some x->place' i=some x) {ev:Operand->Option J} {f:Operand->Value}:
  ∀(parts:List (Nat×Operand)) (cells cs:List J) (ys:Array Value),(∀p∈parts,∀v,ev p.2=some v->VR O v (f p.2))->cT O cells ys.toList->jA place ev parts cells=some cs->
   ∃zs:Array Value,Instr.fill place' ys (parts.map fun p=>(p.1,f p.2))=some zs/\cT O cs zs.toList
 | [],cells,cs,ys,_,hc,h=>by
  simp only[jA,oJ_] at h;subst h;exact⟨ys,Z,hc⟩
 | p::parts,cells,cs,ys,m,hc,h=>by
  have h':(match place p.1,(ev p.2).bind cd with
   | some (off,size),some vs=>bif Nat.beq (di vs) size && Nat.ble (off+size) (di cells) then jA place ev parts (dB vs cells off) else none
   | _,_=>none)=some cs:=h
  cases d:place p.1 with
  | none=>simp_all
  | some x=>
   obtain⟨off,size⟩:=x;cases hv:ev p.2 with
   | none=>simp_all
   | some v=>
    rw[d,hv] at h';simp only[Option.bind_some] at h';cases b:cd v with
    | none=>simp_all
    | some vs=>
     rw[b] at h';simp only[bu] at h';split at h'
     ·rename_i hb;simp only[bA_,Nat.beq_eq,nE_,bT] at hb;obtain⟨ab,ac⟩:=hb;have hvr:=m p (by simp) v hv;have hcells:=gI b hvr;have hsize:=lX b hvr;have aa:ys.size=cells.length:=by have:=hc.length;simpa using this
      have hfold:=BW (off:=off) vs (f p.2).cells.toList 0 cells ys hcells hc;rw[Nat.add_zero,<-jX vs cells off oM] at hfold;obtain⟨zs,h1,u⟩:=nt hp parts (dB vs cells off) cs _ (fun q hq=>m q (by simp[hq])) hfold h';refine⟨zs,?_,u⟩;rw[List.map_cons];simp only[Instr.fill,hp _ _ d];rw[if_neg]
      ·rw[<-h1];congr 1;rw[<-Array.foldl_toList];simp
      simp_all
     cases h'
theorem rQ {α β:Type} {g:α->Option β}:∀{l:List α} {ys:List β},cM g l=some ys->l.mapM g=some ys
 | [],ys,h=>by rw[gx] at h;cases h;rfl
 | x::l,ys,h=>by
  obtain⟨y,r,h1,b,rfl⟩:=fV h;simp[List.mapM_cons,h1,rQ b]
theorem pG {t:TypeId} {z:J} (h:eQ P t=some z):∃i x,P.info? t=some i/\i.zero=some x/\∀O:Ren,VR O z x:=by
 unfold eQ at h;cases hi:P.info? t with
 | none=>rw[hi] at h;cases h
 | some i=>
  rw[hi] at h;simp only[Option.bind_some] at h;cases hz:i.zero with
  | none=>rw[hz] at h;cases h
  | some x=>rw[hz] at h;exact⟨i,x,Z,hz,fun O=>oV h⟩
theorem fH {t:TypeId} {cs:List J} (h:(eQ P t).bind cd=some cs):∃i x,P.info? t=some i/\i.zero=some x/\∀O:Ren,cT O cs x.cells.toList:=by
 cases hz:eQ P t with
 | none=>rw[hz] at h;cases h
 | some z=>
  grind [pG,gI]
theorem Bz {ev:Operand->Option J} {f:Operand->Value} {t:TypeId} {parts:Array (Nat×Operand)} {v:J}
  (A:∀p∈parts.toList,∀v,ev p.2=some v->VR O v (f p.2)) (h:du P ev (.build t parts)=some v):
  ∃x,(Instr.build t<|parts.map fun(i,x)=>(i,f x)).run P w= .ok x w/\VR O v x:=by
 simp only[du] at h;cases hu:P.underlying t with
 | none=>rw[hu] at h;cases h
 | some d=>
  rw[hu] at h;cases hz:(eQ P t).bind cd with
  | none=>simp_all
  | some zero=>
   rw[hz] at h;obtain⟨it,z,b,hzero,m⟩:=fH hz;cases d with
   | struct fs=>
    simp only at h;cases u:cM (fun f:Field=>(P.info? f.type).map fun j=>(f.offset,j.size)) fs.toList with
    | none=>simp_all
    | some places=>
     rw[u] at h;dsimp only at h;cases hf:jA (nth places) ev parts.toList zero with
     | none=>rw[hf] at h;cases h
     | some cs=>
      rw[hf] at h;cases h;obtain⟨zs,h1,C⟩:=nt (place':=(places.toArray[·]?)) (fun i x hx=>by rw[eU] at hx;simpa using hx) parts.toList zero cs z.cells A (m O) hf
      refine⟨.agg zs,run_build w t _ zs ?_,by simp only[VR];simp_all⟩;simp only[Program.built,b,hu,hzero,rQ u];simpa using h1
   | array n e=>
    simp only at h;cases hj:P.info? e with
    | none=>rw[hj] at h;cases h
    | some j=>
     rw[hj] at h;dsimp only at h;cases hf:jA (fun i=>some (i*j.size,j.size)) ev parts.toList zero with
     | none=>rw[hf] at h;cases h
     | some cs=>
      rw[hf] at h;cases h;obtain⟨zs,h1,C⟩:=nt (place':=fun i=>some (i*j.size,j.size)) (fun i x hx=>hx) parts.toList zero cs z.cells A (m O) hf;refine⟨.agg zs,run_build w t _ zs ?_,by simp only[VR];simp_all⟩;simp only[Program.built,b,hu,hzero,hj];simpa using h1
   | _=>cases h
theorem qd {cs:List J} {ys:List Value} (h:cT O cs ys) (r e:Nat):fR O ⟨r,0,cs.length⟩ (.row cs e false) (.cells ys.toArray e):=by
 refine⟨_,_,Z,by simpa using h.length,nR_ _,fun i v hv=>?_,fun _ j _ hj=>by simp at hj⟩;obtain⟨y,h1,h2⟩:=h.get hv
 simp_all
theorem ju {cs:List J} {ys:List Value} (h:cT O cs ys):∀n,cT O (ec cs n) ((List.replicate n ys).flatten)
 | 0=>(cT.nil:cT O [] [])
 | n+1=>by
  show cT O (gg cs<|ec cs n) _;rw[dH,List.replicate_succ,List.flatten_cons];exact h.append<|ju h n
theorem qS (cs:List J):∀n,(ec cs n).length=n*cs.length
 | 0=>by rw[Nat.zero_mul];rfl
 | n+1=>by
  show(gg cs<|ec cs n).length=_;rw[dH,lA_,qS cs n,Nat.succ_mul,Nat.add_comm]
theorem jB (ys:List Value):∀(n j:Nat),j<n*ys.length->((List.replicate n ys).flatten)[j]? =ys[j%ys.length]?
 | 0,j,h=>by simp at h
 | n+1,j,h=>by
  rw[List.replicate_succ,List.flatten_cons]
  by_cases hj:j<ys.length
  ·rw[gL_ hj,Nat.mod_eq_of_lt hj]
  rw[gR_ oM,jB ys n (j-ys.length) (by rw[Nat.succ_mul] at h;omega)];congr 1
  have h0:0<ys.length:=by
   rcases Nat.eq_zero_or_pos ys.length with h0 | h0
   ·rw[h0] at h;simp at h
   exact h0
  rw[Nat.mod_eq_sub_mod (by omega:j≥ys.length)]
theorem vj (z:Array Value) (n:Nat) (hz:0<z.size):((Array.range (n*z.size)).map (z[· %z.size]!))=((List.replicate n z.toList).flatten).toArray:=by
 apply Array.ext_getElem?;intro j;simp only[Array.getElem?_map,List.getElem?_toArray]
 by_cases hj:j<n*z.size
 ·grind [jB,Nat.mod_lt]
 simp_all
theorem ua {ev:Operand->Option J} {f:Operand->Value} {o:Oper} {ob:cu} {mk:Mk} (F:ER O ev f o.op) (h:eZ P ev o.op=some (ob,mk)):
  ∃(x:Value) (ob':Obj) (n:Nat),(execOp f o).run P w= .ok (.value x) (w.alloc ob')/\ob.ro=false/\fR O ⟨w.heap.size,0,n⟩ ob ob'/\
   ∀(ρ':Ren) (b:Pos),ρ' b=some ⟨w.heap.size,0,n⟩->VR ρ' (mk.of b) x:=by
 cases u:o.op with
 | alloc e=>
  rw[u] at h;simp only[eZ] at h;cases hz:(eQ P e).bind cd with
  | none=>rw[hz] at h;cases h
  | some cs=>
   rw[hz] at h;obtain⟨i,z,hi,hzero,m⟩:=fH hz;cases hp:qh P e with
   | false=>
    rw[hp] at h;cases h;refine⟨.pointer<|some ⟨w.heap.size,0,none⟩,.cells z.cells e,cs.length,?_,Z,qd (m O) _ _,fun ρ' b hb=>by simp only[Mk.of,VR];simp_all⟩;simp[execOp,u,Instr.alloc,zeroValue,typeInfo,hi,hzero,newVar,newRow]
   | true=>
    rw[hp] at h;cases h;refine⟨.pointer<|some ⟨w.heap.size,0,none⟩,.cells z.cells e,cs.length,?_,Z,fR.GA ⟨Z,Z⟩<|qd (m O) _ _,fun ρ' b hb=>by simp only[Mk.of,VR];simp_all⟩;simp[execOp,u,Instr.alloc,zeroValue,typeInfo,hi,hzero,newVar,newRow]
 | box e x=>
  rw[u] at h F;simp only[eZ] at h;cases hv:ev x with
  | none=>rw[hv] at h;cases h
  | some v=>
   rw[hv] at h;dsimp only[Option.bind_some] at h;cases hc:cd v with
   | none=>rw[hc] at h;cases h
   | some cs=>
    rw[hc] at h;cases h;have hvr:=F x (by simp[Op.operands]) v hv;refine⟨.pointer<|some ⟨w.heap.size,0,none⟩,.cells (f x).cells e,cs.length,?_,Z,qd (gI hc hvr) _ _,fun ρ' b hb=>by simp only[Mk.of,VR];simp_all⟩;simp[execOp,u,Instr.box,newVar,newRow]
 | buildSlice t len parts=>
  rw[u] at h F;simp only[eZ] at h;cases hu:P.underlying t with
  | none=>rw[hu] at h;cases h
  | some d=>
   rw[hu] at h;cases d with
   | slice e=>
    dsimp only at h;cases hj:P.info? e with
    | none=>rw[hj] at h;cases h
    | some j=>
     cases hz:(eQ P e).bind cd with
     | none=>simp_all
     | some z=>
      rw[hj,hz] at h;simp only[bu] at h;split at h
      ·rename_i hb;simp only[bA_,Nat.beq_eq,nE_,bT] at hb;obtain⟨⟨G,K⟩,L⟩:=hb;cases hf:jA (fun i=>some (i*j.size,j.size)) ev parts.toList (ec z len) with
       | none=>rw[hf] at h;cases h
       | some cs=>
        rw[hf] at h;cases h;obtain⟨i,zv,hi,hzero,m⟩:=fH hz;rw[hj] at hi;cases hi;have A:zv.cells.size=j.size:=by rw[<-G,<-(m O).length,Array.length_toList]
        have C:∀p∈parts.toList,∀v,ev p.2=some v->VR O v (f p.2):=fun p hp v hv=>F p.2 (by simp only[Op.operands,List.mem_toArray,List.mem_map];grind) v hv
        obtain⟨zs,h1,M⟩:=nt (place':=fun i=>some (i*j.size,j.size)) (fun i x hx=>hx) parts.toList (ec z len) cs ((List.replicate len zv.cells.toList).flatten).toArray C
         (by simpa using ju (m O) len) hf
        rw[<-vj zv.cells len oM,A] at h1;have aa:cs.length=zs.size:=by have:=M.length;simpa using this.symm
        by_cases I:len*j.size=0
        ·refine⟨.slice (some ⟨w.heap.size,0,none⟩) len len,.cells zs e,cs.length,?_,Z,by simpa using qd M w.heap.size e,fun ρ' b hb=>by simp only[Mk.of,VR];simp_all⟩;have Q:(Array.map (fun x=>zv.cells[x%j.size]!)<|Array.range (len*j.size))= #[]:=by rw[I];simp
         rw[Q] at h1;have R:∀g:Nat->Value,Array.map g (Array.range 0)= #[]:=fun g=>by simp
         simp[execOp,u,Instr.buildSlice,run_underlying hu,sizeOf,typeInfo,hj,I,R,h1,newRow]
        refine⟨.slice (some ⟨w.heap.size,0,none⟩) len len,.cells zs e,cs.length,?_,Z,by simpa using qd M w.heap.size e,fun ρ' b hb=>by simp only[Mk.of,VR];simp_all⟩;have hrun:=run_buildSlice (P:=P) w t e len (parts.map fun(i,x)=>(i,f x)) zs j zv hu hj hzero oM I (by simp_all)
        grind [execOp,sB_,rA,sP_]
      cases h
   | _=>cases h
 | makeSlice t l c=>
  rw[u] at h F;simp only[eZ] at h;cases hu:P.underlying t with
  | none=>rw[hu] at h;cases h
  | some d=>
   rw[hu] at h;cases hl:ev l with
   | none=>simp_all
   | some vl=>
    cases hc:ev c with
    | none=>simp_all
    | some vc=>
     rw[hl,hc] at h;split at h
     ·rename_i e kl ln kc cn he T U;cases he;cases T;cases U;cases hj:P.info? e with
      | none=>rw[hj] at h;cases h
      | some j=>
       cases hz:(eQ P e).bind cd with
       | none=>simp_all
       | some z=>
        rw[hj,hz] at h;simp only[bu] at h;split at h
        ·rename_i hb;simp only[bA_,Nat.beq_eq,nE_,bT] at hb;obtain⟨⟨⟨⟨G,K⟩,L⟩,W⟩,ac⟩:=hb;cases h;obtain⟨i,zv,hi,hzero,m⟩:=fH hz;rw[hj] at hi;cases hi;have A:zv.cells.size=j.size:=by rw[<-W,<-(m O).length,Array.length_toList]
         have ad:f l= .int kl (Int.ofNat ln):=by have:=F l (by simp[Op.operands]) _ hl;simpa only[VR] using this
         have ai:f c= .int kc (Int.ofNat cn):=by have:=F c (by simp[Op.operands]) _ hc;simpa only[VR] using this
         have X:(j.bytes:Int)*(Int.ofNat cn)<=281474976710656:=by
          grind
         have hrun:=run_make (P:=P) w t e j zv hu hj hzero kl kc (Int.ofNat ln) (Int.ofNat cn) (Int.natCast_nonneg _) (Int.ofNat_le.2 G) X (by grind)
         have E:madeCells zv.cells ((Int.ofNat cn).toNat*j.size)=((List.replicate cn zv.cells.toList).flatten).toArray:=by
          unfold madeCells;rw[show(Int.ofNat cn).toNat=cn from Z,<-A];exact vj zv.cells cn oM
         rw[E] at hrun;have hts:=ju (m O) cn
         refine⟨.slice (some ⟨w.heap.size,0,none⟩) ln cn,.cells ((List.replicate cn zv.cells.toList).flatten).toArray e,(ec z cn).length,?_,Z,qd hts _ _,
          fun ρ' b hb=>by simp only[Mk.of,VR];simp_all⟩
         grind [execOp,sB_,rA,sP_]
        cases h
     cases h
 | makeMap t r=>
  rw[u] at h;cases r with
  | some r=>
   simp only[eZ] at h;split at h
   ·rename_i mk mv k n hu hr;simp only[oJ_,Prod.mk.injEq] at h;obtain⟨rfl,rfl⟩:=h;have ab:f r= .int k n:=by have:=F r (by rw[u];simp[Op.operands]) _ hr;simpa only[VR] using this
    refine⟨.map<|some w.heap.size,.map #[] 0,0,?_,Z,⟨#[],Z,Z⟩,fun ρ' b hb=>by simp only[Mk.of,VR];simp_all⟩;simp[execOp,u,Instr.makeMap,ab,run_underlying hu,asInt,asIntOf]
   cases h
  | none=>
   simp only[eZ,oJ_,Prod.mk.injEq] at h;obtain⟨rfl,rfl⟩:=h;refine⟨.map<|some w.heap.size,.map #[] 0,0,?_,Z,⟨#[],Z,Z⟩,fun ρ' b hb=>by simp only[Mk.of,VR];simp_all⟩;simp[execOp,u,Instr.makeMap]
 | _=>rw[u] at h;simp[eZ] at h
end
section
variable {P:Program} {O:Ren} {w:World}
theorem oA (a b:Bool):(bif a then b else(bif b then false else true))=(a == b):=by grind
theorem I8 (a b:Bool):(bif a then(bif b then false else true) else b)=(a !=b):=by grind
theorem cond_not (b:Bool):(bif b then false else true)= !b:=by cases b<;>rfl
theorem kJ {d:Nat}:∀(fs:List Field) (xs ys:List J) (cs ds:Array Value) (b:Bool),cT O xs cs.toList->cT O ys ds.toList->kS fs=true->iN P fs xs ys=some b->
  (Op.eqFields (d+1) cs ds fs).run P w= .ok b w
 | [],xs,ys,cs,ds,b,_,_,_,h=>by
  simp only[iN,oJ_] at h;subst h;simp[Op.eqFields]
 | f::fs,xs,ys,cs,ds,b,hx,hy,hn,h=>by
  have K:(bif f.name == "_" then false else kS fs)=true:=hn
  have m:(f.name == "_")=false:=by
   simp_all
  rw[m] at K;have hne:f.name≠ "_" :=by simpa using m
  have h':(match P.underlying f.type,nth xs f.offset,nth ys f.offset with
   | some .bool,some (.bool a),some (.bool b)=>bif (bif a then b else(bif b then false else true)) then iN P fs xs ys else some false
   | some (.int _),some (.int j a),some (.int k b)=>bif sQ j k then(bif bM a b then iN P fs xs ys else some false) else none
   | some .string,some (.str a),some (.str b)=>bif xY a b then iN P fs xs ys else some false
   | _,_,_=>none)=some b:=h
  have ih:=kJ (d:=d) fs xs ys cs ds
  have part {v:J} {cells:List J} {es:Array Value} (hc:cT O cells es.toList) (Q:nth cells f.offset=some v) (E:Bp (match P.underlying f.type with | some d=>d | none=>.invalid)=false) (hu:P.underlying f.type≠none):
    ∃y,(part f.type es f.offset).run P w= .ok y w/\VR O v y:=by
   rw[eU] at Q;obtain⟨y,h1,h2⟩:=hc.get Q;cases C:P.underlying f.type with
   | none=>exact absurd C hu
   | some dd=>
    rw[C] at E;refine⟨y,?_,h2⟩;simp only[Go.part,sB_,eT C,E,rA,Bool.false_eq_true,if_false]
    simp_all
  split at h'
  ·rename_i R T U a b' e1 e2 F;obtain⟨W,G,u⟩:=part hx e2 (by rw[e1];rfl) (by rw[e1];simp);obtain⟨X,I,A⟩:=part hy F (by rw[e1];rfl) (by rw[e1];simp);simp only[VR] at u A;subst u;subst A;simp only[Op.eqFields,hne,ne_eq,not_false_eq_true,if_true,sB_,G,I,rA,run_equalIn_bool w d f.type _ _ e1];rw[oA] at h';cases hc:(a == b') with
   | true=>grind
   | false=>simp_all
  ·rename_i R T U kk j a k b' e1 e2 F;obtain⟨W,G,u⟩:=part hx e2 (by rw[e1];rfl) (by rw[e1];simp);obtain⟨X,I,A⟩:=part hy F (by rw[e1];rfl) (by rw[e1];simp);simp only[VR] at u A;subst u;subst A;cases hk:sQ j k with
   | false=>simp_all
   | true=>
    rw[hk] at h';have:=oC hk;subst this;simp only[Op.eqFields,hne,ne_eq,not_false_eq_true,if_true,sB_,G,I,rA,run_equalIn_int w d f.type _ _ _ _ e1];rw[dv] at h';cases hc:decide (a=b') with
    | true=>grind
    | false=>simp_all
  ·rename_i R T U a b' e1 e2 F;obtain⟨W,G,u⟩:=part hx e2 (by rw[e1];rfl) (by rw[e1];simp);obtain⟨X,I,A⟩:=part hy F (by rw[e1];rfl) (by rw[e1];simp);simp only[VR] at u A;obtain⟨s1,rfl,L⟩:=u;obtain⟨s2,rfl,M⟩:=A;simp only[Op.eqFields,hne,ne_eq,not_false_eq_true,if_true,sB_,G,I,rA,run_equalIn_string w d f.type _ _ e1];rw[nb L M] at h';cases hc:(s1.toList == s2.toList) with
   | true=>grind
   | false=>simp_all
  cases h'
theorem mF {t:TypeId} {fs:Array Field} (h:structOf P t=some fs):P.underlying t=some (.struct fs):=by
 grind [structOf,nc]
theorem uj {t:TypeId} {fs:Array Field} (h:P.underlying t=some (.struct fs)):P.fieldsOf t=fs:=by simp[Program.fieldsOf,h]
theorem wA {e:TypeId} (h:rC P e=true):∃k i,P.underlying e=some (.int k)/\P.info? e=some i/\i.size=1:=by
 grind [rC,nB]
theorem mZ {d:Nat} {e:TypeId} {k':IntKind} (he:P.underlying e=some (.int k')):∀(l1 l2:List J) (s:Nat) (m u:Array Value) (b:Bool),
  (∀(i:Nat) (v:J),l1[i]? =some v->∃y,m[s+i]? =some y/\VR O v y)->(∀(i:Nat) (v:J),l2[i]? =some v->∃y,u[s+i]? =some y/\VR O v y)->vV l1 l2=some b->
  (Op.eqItems (d+1) e 1 m u<|List.range' s l1.length).run P w= .ok b w
 | [],l2,s,m,u,b,_,_,h=>by
  cases l2 with
  | nil=>cases h;simp[Op.eqItems]
  | cons y r=>cases h
 | x::l1,l2,s,m,u,b,h1,A,h=>by
  cases l2 with
  | nil=>cases x<;>cases h
  | cons y r=>
   cases x<;>try (cases h;done)
   rename_i j a;cases y<;>try (cases h;done)
   rename_i k c;have h':(bif sQ j k then(bif bM a c then vV l1 r else some false) else none)=some b:=h;cases hk:sQ j k with
   | false=>simp_all
   | true=>
   rw[hk] at h';have:=oC hk;subst this;obtain⟨y1,q1,C⟩:=h1 0 _ Z;obtain⟨y2,q2,E⟩:=A 0 _ Z;simp only[VR] at C E;subst C;subst E;simp only[Nat.add_zero] at q1 q2
   have p:∀(cs:Array Value) (v:Value),cs[s]? =some v->(part e cs (s*1)).run P w= .ok v w:=fun cs v hv=>by
    rw[Nat.mul_one];simp only[part,sB_,eT he,Bp,rA,Bool.false_eq_true,if_false,hv,sP_]
   simp only[List.length_cons,List.range'_succ,Op.eqItems,sB_,p m _ q1,p u _ q2,rA,run_equalIn_int w d e _ _ _ _ he];rw[dv] at h';have ih:=mZ (d:=d) he l1 r (s+1) m u;cases hc:decide (a=c) with
   | true=>
    rw[hc] at h';have:=of_decide_eq_true hc;subst this
    simpa using ih b (fun i v hv=>by have:=h1 (i+1) v (by simpa using hv);grind)
     (fun i v hv=>by have:=A (i+1) v (by simpa using hv);grind) (by simpa using h')
   | false=>
    simp_all
theorem gb {t:TypeId} {cs:List J} {ys:Array Value} {off n:Nat} (m:dN P t=some (some n)) (hc:cT O cs ys.toList):∃c,(part t ys off).run P w= .ok (.agg c) w/\cT O (takeN (dK cs off) n) c.toList:=by
 obtain⟨d,i,hu,hi,b,hd⟩:=qX m;refine⟨ys.extract off (off+n),?_,?_⟩
 ·simp only[part,sB_,eT hu,hd,rA,if_true,bU hi,b,sP_]
 rw[dp,dF,Array.toList_extract];have:=(hc.drop off).take n
 simp_all
theorem lO {d:Nat}:∀(fs:List Field) (xs ys:List J) (cs ds:Array Value) (b:Bool),cT O xs cs.toList->cT O ys ds.toList->kS fs=true->eqFields P fs xs ys=some b->
  (Op.eqFields (d+1+1) cs ds fs).run P w= .ok b w
 | [],xs,ys,cs,ds,b,_,_,_,h=>by
  simp only[eqFields,oJ_] at h;subst h;simp[Op.eqFields]
 | f::fs,xs,ys,cs,ds,b,hx,hy,hn,h=>by
  have aa:(bif f.name == "_" then false else kS fs)=true:=hn
  have E:(f.name == "_")=false:=by
   simp_all
  rw[E] at aa;have hne:f.name≠ "_" :=by simpa using E
  have h':(match P.underlying f.type,nth xs f.offset,nth ys f.offset with
   | some .bool,some (.bool a),some (.bool b)=>bif (bif a then b else(bif b then false else true)) then eqFields P fs xs ys else some false
   | some (.int _),some (.int j a),some (.int k b)=>bif sQ j k then(bif bM a b then eqFields P fs xs ys else some false) else none
   | some .string,some (.str a),some (.str b)=>bif xY a b then eqFields P fs xs ys else some false
   | some (.struct gs),_,_=>bif P.stoodInHeld f.type || !kS gs.toList then none else match dN P f.type with
    | some (some n)=>match iN P gs.toList (takeN (dK xs f.offset) n) (takeN (dK ys f.offset) n) with
     | some true=>eqFields P fs xs ys
     | some false=>some false
     | none=>none
    | _=>none
   | some (.array m e),_,_=>bif rC P e then(match dN P f.type with
    | some (some n)=>bif Nat.beq n m && (Nat.beq (di<|takeN (dK xs f.offset) n) m && Nat.beq (di<|takeN (dK ys f.offset) n) m) then(match vV (takeN (dK xs f.offset) n) (takeN (dK ys f.offset) n) with
     | some true=>eqFields P fs xs ys
     | some false=>some false
     | none=>none) else none
    | _=>none) else none
   | _,_,_=>none)=some b:=h
  have ih:=lO (d:=d) fs xs ys cs ds
  have part {v:J} {cells:List J} {es:Array Value} (hc:cT O cells es.toList) (hg:nth cells f.offset=some v) (u:Bp (match P.underlying f.type with | some d=>d | none=>.invalid)=false) (hu:P.underlying f.type≠none):
    ∃y,(part f.type es f.offset).run P w= .ok y w/\VR O v y:=by
   rw[eU] at hg;obtain⟨y,h1,h2⟩:=hc.get hg;cases L:P.underlying f.type with
   | none=>exact absurd L hu
   | some dd=>
    rw[L] at u;refine⟨y,?_,h2⟩;simp only[Go.part,sB_,eT L,u,rA,Bool.false_eq_true,if_false]
    simp_all
  split at h'
  ·rename_i W X u3 a b' e1 e2 R;obtain⟨y1,G,A⟩:=part hx e2 (by rw[e1];rfl) (by rw[e1];simp);obtain⟨y2,I,C⟩:=part hy R (by rw[e1];rfl) (by rw[e1];simp);simp only[VR] at A C;subst A;subst C;simp only[Op.eqFields,hne,ne_eq,not_false_eq_true,if_true,sB_,G,I,rA,run_equalIn_bool w (d+1) f.type _ _ e1];rw[oA] at h';cases hc:(a == b') with
   | true=>grind
   | false=>simp_all
  ·rename_i W X u3 kk j a k b' e1 e2 R;obtain⟨y1,G,A⟩:=part hx e2 (by rw[e1];rfl) (by rw[e1];simp);obtain⟨y2,I,C⟩:=part hy R (by rw[e1];rfl) (by rw[e1];simp);simp only[VR] at A C;subst A;subst C;cases hk:sQ j k with
   | false=>simp_all
   | true=>
    rw[hk] at h';have:=oC hk;subst this;simp only[Op.eqFields,hne,ne_eq,not_false_eq_true,if_true,sB_,G,I,rA,run_equalIn_int w (d+1) f.type _ _ _ _ e1];rw[dv] at h';cases hc:decide (a=b') with
    | true=>grind
    | false=>simp_all
  ·rename_i W X u3 a b' e1 e2 R;obtain⟨y1,G,A⟩:=part hx e2 (by rw[e1];rfl) (by rw[e1];simp);obtain⟨y2,I,C⟩:=part hy R (by rw[e1];rfl) (by rw[e1];simp);simp only[VR] at A C;obtain⟨s1,rfl,ab⟩:=A;obtain⟨s2,rfl,ac⟩:=C;simp only[Op.eqFields,hne,ne_eq,not_false_eq_true,if_true,sB_,G,I,rA,run_equalIn_string w (d+1) f.type _ _ e1];rw[nb ab ac] at h';cases hc:(s1.toList == s2.toList) with
   | true=>grind
   | false=>simp_all
  ·rename_i W X u3 gs e1;cases aq:P.stoodInHeld f.type with
   | true=>simp_all
   | false=>
   cases T:kS gs.toList with
   | false=>simp_all
   | true=>
   rw[aq,T] at h';simp only[Bool.not_true,Bool.or_false,cond_false] at h';cases u:dN P f.type with
   | none=>simp_all
   | some q=>
   cases q with
   | none=>simp_all
   | some n=>
   rw[u] at h';dsimp only at h';cases F:iN P gs.toList (takeN (dK xs f.offset) n) (takeN (dK ys f.offset) n) with
   | none=>simp_all
   | some bb=>
    rw[F] at h';obtain⟨M,G,A⟩:=gb (P:=P) (w:=w) u hx (off:=f.offset);obtain⟨Q,I,C⟩:=gb (P:=P) (w:=w) u hy (off:=f.offset);have hq:=kJ (P:=P) (w:=w) (d:=d) gs.toList _ _ M Q bb A C T F
    have hE:(Op.equalIn (d+1+1) f.type (.agg M) (.agg Q)).run P w= .ok bb w:=by
     grind [run_equalIn_struct,uj]
    simp only[Op.eqFields,hne,ne_eq,not_false_eq_true,if_true,sB_,G,I,rA,hE];cases bb with
    | true=>simp_all
    | false=>simp_all
  ·rename_i W X u3 m e e1;cases U:rC P e with
   | false=>simp_all
   | true=>
   rw[U] at h';simp only[cond_true] at h';obtain⟨k,inf,he,K,ad⟩:=wA U;cases u:dN P f.type with
   | none=>simp_all
   | some q=>
   cases q with
   | none=>simp_all
   | some n=>
   rw[u] at h';dsimp only at h';rw[bu] at h';split at h'
   case isFalse=>cases h'
   rename_i hc;simp only[bA_,Nat.beq_eq,bT] at hc;obtain⟨al,ai,am⟩:=hc;cases F:vV (takeN (dK xs f.offset) n) (takeN (dK ys f.offset) n) with
   | none=>simp_all
   | some bb=>
    rw[F] at h';obtain⟨M,G,A⟩:=gb (P:=P) (w:=w) u hx (off:=f.offset);obtain⟨Q,I,C⟩:=gb (P:=P) (w:=w) u hy (off:=f.offset)
    have hq:=mZ (P:=P) (w:=w) (O:=O) (d:=d) he _ _ 0 M Q bb (fun i v hv=>by obtain⟨y,a1,a2⟩:=A.get hv;simp_all)
     (fun i v hv=>by obtain⟨y,a1,a2⟩:=C.get hv;simp_all) F
    rw[ai] at hq
    have hE:(Op.equalIn (d+1+1) f.type (.agg M) (.agg Q)).run P w= .ok bb w:=by
     rw[run_equalIn_array w (d+1) M Q e1 K,rq K,ad,List.range_eq_range'];exact hq
    simp only[Op.eqFields,hne,ne_eq,not_false_eq_true,if_true,sB_,G,I,rA,hE];cases bb with
    | true=>simp_all
    | false=>simp_all
  cases h'
theorem cP (op:BinOp) (t:TypeId) (x y:Operand) (a b:Value) (h1:¬(a= .nilIface/\b= .nilIface)) (h2:¬(∃c d,a= .agg c/\b= .agg d)):(eqGuard op t x y a b).run P w= .ok () w:=by
 unfold eqGuard
 simp_all
end
section
variable {P:Program} {O:Ren} {w:World}
theorem VR.iT {b:Pos} {off len:Nat} {cap:nL} {x:Value} (h:VR O (.slice b off len cap) x):∃a c,x= .slice (some a) len c:=by
  cases cap with
  | upto sz=>
    simp only[VR] at h
    grind
  | known c=>simp only[VR] at h;grind
  | least a sz=>simp only[VR] at h;grind
theorem oD {t:TypeId} {x y:J} {b:Bool} {a c:Value} (h:DA P t x y=some b) (hx:VR O x a) (hy:VR O y c) (op:BinOp) (xo yo:Operand):
    (eqGuard op t xo yo a c).run P w= .ok () w/\(Op.equal t a c).run P w= .ok b w:=by
  unfold DA at h;have aa:∀r:Result Bool,((Op.equalIn (9999+1) t a c).run P w=r)->(Op.equal t a c).run P w=r:=fun r h=>h
  have m:∀r:Result Bool,(∀d,(Op.equalIn (d+1) t a c).run P w=r)->(Op.equal t a c).run P w=r:=fun r h=>h 9999
  split at h
  ·
    rename_i xs ys;simp only[VR] at hx hy;obtain⟨cs,rfl,ab⟩:=hx;obtain⟨ds,rfl,ac⟩:=hy
    grind [structOf,mF,run_eqGuard_agg,run_equalIn_struct,uj,lO]
  all_goals (try (cases h;done))
  all_goals (split at h)
  all_goals (try (cases h;done))
  all_goals (try (rename_i hu;cases h))
  all_goals first
    | (obtain⟨a',c',rfl⟩:=VR.iT hx
       simp only[VR] at hy;subst hy;refine⟨cP op t xo yo _ _ (by simp) (by simp),m _ (fun d=>?_)⟩;simp[Op.equalIn,run_underlying hu]
       done)
    | (obtain⟨a',c',rfl⟩:=VR.iT hy
       simp only[VR] at hx;subst hx;refine⟨cP op t xo yo _ _ (by simp) (by simp),m _ (fun d=>?_)⟩;simp[Op.equalIn,run_underlying hu]
       done)
    | (simp only[VR] at hx hy
       subst hx;subst hy;refine⟨cP op t xo yo _ _ (by simp) (by simp),m _ (fun d=>?_)⟩;simp[Op.equalIn,run_underlying hu]
       done)
    | (simp only[VR] at hx hy
       obtain⟨l,_,rfl⟩:=hx;subst hy;refine⟨cP op t xo yo _ _ (by simp) (by simp),m _ (fun d=>?_)⟩;simp[Op.equalIn,run_underlying hu]
       done)
    | (simp only[VR] at hx hy
       obtain⟨l,_,rfl⟩:=hy;subst hx;refine⟨cP op t xo yo _ _ (by simp) (by simp),m _ (fun d=>?_)⟩;simp[Op.equalIn,run_underlying hu]
       done)
    | (simp only[VR] at hx hy
       obtain⟨l,rfl,_⟩:=hx;subst hy;refine⟨cP op t xo yo _ _ (by simp) (by simp),m _ (fun d=>?_)⟩;simp[Op.equalIn,run_underlying hu]
       done)
    | (simp only[VR] at hx hy
       obtain⟨l,rfl,_⟩:=hy;subst hx;refine⟨cP op t xo yo _ _ (by simp) (by simp),m _ (fun d=>?_)⟩;simp[Op.equalIn,run_underlying hu]
       done)
    | (simp only[VR] at hx hy
       obtain⟨l,l',rfl,_⟩:=hx;subst hy;refine⟨cP op t xo yo _ _ (by simp) (by simp),m _ (fun d=>?_)⟩;simp[Op.equalIn,run_underlying hu]
       done)
    | (simp only[VR] at hx hy
       obtain⟨l,l',rfl,_⟩:=hy;subst hx;refine⟨cP op t xo yo _ _ (by simp) (by simp),m _ (fun d=>?_)⟩;simp[Op.equalIn,run_underlying hu]
       done)
    | (rename_i hu
       rw[bu] at h;split at h
       · rename_i hc
         cases h;rw[bA_,bA_] at hc;obtain⟨hb,ho,hi⟩:=hc;have hb:=nB hb;have ho:=nB ho;subst hb;subst ho;obtain⟨j,hj⟩:=Option.isSome_iff_exists.1 hi;simp only[VR] at hx hy;obtain⟨l,hl,rfl⟩:=hx;obtain⟨l',u,rfl⟩:=hy;rw[hl] at u;cases u;refine⟨cP op t xo yo _ _ (by simp) (by simp),m _ (fun d=>?_)⟩;simp[Op.equalIn,run_underlying hu,sizeOf,typeInfo,hj,run_sameAddr_same]
       · cases h)
theorem mD {t:TypeId} {a c:Value} {b:Bool} (h:(Op.equal t a c).run P w= .ok b w)
    (d:∀k m k' m',¬(a= .int k m/\c= .int k' m')) (hf:∀k m k' m',¬(a= .float k m/\c= .float k' m')) (hc:∀k m n k' m' n',¬(a= .complex k m n/\c= .complex k' m' n')) (u:∀s s',¬(a= .string s/\c= .string s')):
    (binOp .eql t a c).run P w= .ok (.bool b) w/\(binOp .neq t a c).run P w= .ok (.bool (!b)) w:=by
  constructor
  · unfold binOp
    split<;>first
      | (exact absurd ⟨rfl,rfl⟩<|d _ _ _ _)
      | (exact absurd ⟨rfl,rfl⟩<|hf _ _ _ _)
      | (exact absurd ⟨rfl,rfl⟩<|hc _ _ _ _ _ _)
      | (exact absurd ⟨rfl,rfl⟩<|u _ _)
      | (simp only[sB_,h,rA,sP_];done)
      | (rename_i he;cases he)
      | (rename_i he _;cases he)
      | (rename_i he _ _;cases he)
      | (simp_all;done)
  · unfold binOp
    split<;>first
      | (exact absurd ⟨rfl,rfl⟩<|d _ _ _ _)
      | (exact absurd ⟨rfl,rfl⟩<|hf _ _ _ _)
      | (exact absurd ⟨rfl,rfl⟩<|hc _ _ _ _ _ _)
      | (exact absurd ⟨rfl,rfl⟩<|u _ _)
      | (simp only[sB_,h,rA,sP_];done)
      | (rename_i he;cases he)
      | (rename_i he _;cases he)
      | (rename_i he _ _;cases he)
      | (simp_all;done)
end
section
variable {P:Program} {O:Ren} {w:World}
theorem LZ {op:BinOp} {t:TypeId} {k k':IntKind} {a b:Int} {v:J} (h:q7 P op t (.int k a) (.int k' b)=some v):
  ∃x,(binOp op t (.int k a) (.int k' b)).run P w= .ok x w/\VR O v x:=by
 unfold q7 at h;have vint:∀(j:IntKind) (n:Int),VR O (.int j n) (.int j n):=fun j n=>by simp only[VR]
 have vbool:∀(c:Bool),VR O (.bool c) (.bool c):=fun c=>by simp only[VR]
 by_cases m:op= .shl
 ·subst m;simp only[bu,eM,Dp] at h;split at h
  ·cases h
  rename_i hb;cases h;refine⟨.int k<|k.wrap (a*2 ^ min b.toNat k.bits),?_,vint _ _⟩;have d:¬b<0:=by simpa using hb
  simp[binOp,Op.shift,d]
 by_cases u:op= .shr
 ·subst u;simp only[bu,eM] at h;split at h
  ·cases h
  rename_i hb;cases h;refine⟨.int k<|a.fdiv (2 ^ min b.toNat k.bits),?_,vint _ _⟩;have d:¬b<0:=by simpa using hb
  simp[binOp,Op.shift,d]
 cases hk:sQ k k' with
 | false=>simp_all
 | true=>
  have:=oC hk;subst this;cases op<;>first | exact absurd rfl m | exact absurd rfl u | skip
  all_goals simp only[hk,cond_true,bu,dv,eM,Dp,if_true] at h
  case add=>cases h;exact⟨.int k<|k.wrap (a+b),by simp[binOp,Op.intArith],vint _ _⟩
  case sub=>cases h;exact⟨.int k<|k.wrap (a-b),by simp[binOp,Op.intArith],vint _ _⟩
  case mul=>cases h;exact⟨.int k<|k.wrap (a*b),by simp[binOp,Op.intArith],vint _ _⟩
  case quo=>
   by_cases hb:b=0
   ·simp[hb] at h
   simp only[hb,decide_false,if_true,if_false,Bool.false_eq_true,eq_self,oJ_] at h;subst h;exact⟨.int k<|k.wrap<|a.tdiv b,by simp[binOp,Op.intDiv,hb],vint _ _⟩
  case rem=>
   by_cases hb:b=0
   ·simp[hb] at h
   simp only[hb,decide_false,if_true,if_false,Bool.false_eq_true,eq_self,oJ_] at h;subst h;exact⟨.int k<|a.tmod b,by simp[binOp,Op.intDiv,hb],vint _ _⟩
  case and=>cases h;exact⟨_,by simp only[binOp,ne_eq,not_true_eq_false,if_false];rfl,vint _ _⟩
  case or=>cases h;exact⟨_,by simp only[binOp,ne_eq,not_true_eq_false,if_false];rfl,vint _ _⟩
  case xor=>cases h;exact⟨_,by simp only[binOp,ne_eq,not_true_eq_false,if_false];rfl,vint _ _⟩
  case andNot=>cases h;exact⟨_,by simp only[binOp,ne_eq,not_true_eq_false,if_false];rfl,vint _ _⟩
  case eql=>cases h;exact⟨.bool (a == b),by simp[binOp,Op.intCmp],by grind⟩
  case neq=>
   cases h;refine⟨.bool (a !=b),by simp[binOp,Op.intCmp],?_⟩
   grind
  case lss=>cases h;exact⟨.bool<|decide (a<b),by simp[binOp,Op.intCmp],vbool _⟩
  case leq=>
   cases h;refine⟨.bool<|decide (a<=b),by simp[binOp,Op.intCmp],?_⟩
   grind
  case gtr=>cases h;exact⟨.bool<|decide (b<a),by simp[binOp,Op.intCmp],vbool _⟩
  case geq=>
   cases h;refine⟨.bool<|decide (b<=a),by simp[binOp,Op.intCmp],?_⟩
   grind
theorem L4 {op:BinOp} {t:TypeId} {a b:List Nat} {x y:ByteArray} {v:J} (hx:ga a x) (hy:ga b y) (h:q7 P op t (.str a) (.str b)=some v):
  ∃z,(binOp op t (.string x) (.string y)).run P w= .ok z w/\VR O v z:=by
 unfold q7 at h;have lx:=iV hx;have ly:=iV hy;have e1:=nb hx hy;have e2:=zi hx hy;have e3:=zi hy hx
 have e4:∀s u:List UInt8,Op.bytesLess u s= !(Op.bytesLess s u || s == u):=by
  intro s;induction s with
  | nil=>intro u;cases u<;>simp[Op.bytesLess]
  | cons c s ih=>
   intro u;cases u with
   | nil=>simp[Op.bytesLess]
   | cons d u=>
    grind [Op.bytesLess]
 cases op<;>simp only[bu] at h<;>(try (cases h;done))
 case add=>
  split at h
  ·rename_i hb;cases h;rw[nE_,lx,ly] at hb
   refine⟨.string (x++y),?_,by
    simp only[VR];refine⟨_,Z,?_⟩;unfold ga at hx hy⊢;rw[dH,<-hx,<-hy];simp⟩
   have:¬(((x.size+y.size:Nat):Int)>IntKind.i64.max):=by
    have e:IntKind.i64.max=9223372036854775807:=by decide
    rw[e];omega
   simp only[binOp,Op.stringOp];rw[if_neg this];rfl
  cases h
 case eql=>cases h;exact⟨.bool (x.toList == y.toList),Z,by simp only[VR];rw[e1]⟩
 case neq=>cases h;exact⟨.bool (!(x.toList == y.toList)),Z,by grind [VR]⟩
 case lss=>cases h;exact⟨.bool<|Op.bytesLess x.toList y.toList,Z,by simp only[VR];rw[e2]⟩
 case leq=>
  cases h;refine⟨.bool (Op.bytesLess x.toList y.toList || x.toList == y.toList),Z,?_⟩
  grind [VR]
 case gtr=>
  cases h;refine⟨.bool (!(Op.bytesLess x.toList y.toList || x.toList == y.toList)),Z,?_⟩;simp only[VR];grind
 case geq=>
  cases h;refine⟨.bool (!(Op.bytesLess x.toList y.toList)),Z,?_⟩
  grind [VR]
theorem He {op:BinOp} {t:TypeId} {x y v:J} {a c:Value} (hx:VR O x a) (hy:VR O y c) (h:q7 P op t x y=some v) (xo yo:Operand):
  ∃z,(eqGuard op t xo yo a c).run P w= .ok () w/\(binOp op t a c).run P w= .ok z w/\VR O v z:=by
 have other:(∀k n,x≠ .int k n)->(∀s,x≠ .str s)->(∀b,x≠ .bool b)->x≠ .any->(∀a,x≠ .ni a)->(∀a,x≠ .tok a)->
   ∃z,(eqGuard op t xo yo a c).run P w= .ok () w/\(binOp op t a c).run P w= .ok z w/\VR O v z:=by
  intro h1 d A h4 h5 I
  have h':lr P op t x y=some v:=by
   rw[<-h];unfold q7;split
   ·exact absurd Z<|h1 _ _
   ·exact absurd Z<|d _
   ·exact absurd Z<|A _
   rfl
  have hne:(∀k m k' m',¬(a= .int k m/\c= .int k' m'))/\(∀k m k' m',¬(a= .float k m/\c= .float k' m'))/\(∀k m n k' m' n',¬(a= .complex k m n/\c= .complex k' m' n'))/\(∀s s',¬(a= .string s/\c= .string s')):=by
   cases x with
   | int k n=>exact absurd Z (h1 k n)
   | str s=>exact absurd Z (d s)
   | bool b=>exact absurd Z (A b)
   | any=>exact absurd Z h4
   | ni a=>exact absurd Z (h5 a)
   | tok a=>exact absurd Z (I a)
   | slice b off len cap=>obtain⟨_,_,rfl⟩:=VR.iT hx;simp
   | _=>simp only[VR] at hx;first | (subst hx;simp;done) | (obtain⟨_,_,rfl⟩:=hx;simp;done) | (obtain⟨_,rfl,_⟩:=hx;simp;done) | (obtain⟨_,_,rfl,_⟩:=hx;simp;done)
  obtain⟨C,E,F,G⟩:=hne;cases op<;>(try (cases h';done))
  case eql=>
   dsimp only[lr] at h';cases hq:DA P t x y with
   | none=>rw[hq] at h';cases h'
   | some b=>
    rw[hq] at h';cases h';obtain⟨g1,u⟩:=oD (P:=P) (w:=w) hq hx hy .eql xo yo;exact⟨_,g1,(mD u C E F G).1,by simp only[VR]⟩
  case neq=>
   dsimp only[lr] at h';cases hq:DA P t x y with
   | none=>rw[hq] at h';cases h'
   | some b=>
    rw[hq] at h';cases h';obtain⟨g1,u⟩:=oD (P:=P) (w:=w) hq hx hy .neq xo yo;exact⟨_,g1,(mD u C E F G).2,by simp only[VR];rw[cond_not]⟩
 cases x with
 | int k n=>
  cases y with
  | int k' n'=>
   simp only[VR] at hx hy;subst hx;subst hy;obtain⟨z,h1,d⟩:=LZ (O:=O) (w:=w) h;exact⟨z,cP op t xo yo _ _ (by simp) (by simp),h1,d⟩
  | _=>unfold q7 at h;cases op<;>first | (simp[lr,DA] at h;done) | (cases h;done)
 | str s=>
  cases y with
  | str s'=>
   simp only[VR] at hx hy;obtain⟨x,rfl,hx⟩:=hx;obtain⟨y,rfl,hy⟩:=hy;obtain⟨z,h1,d⟩:=L4 (O:=O) (w:=w) hx hy h;exact⟨z,cP op t xo yo _ _ (by simp) (by simp),h1,d⟩
  | _=>unfold q7 at h;cases op<;>first | (simp[lr,DA] at h;done) | (cases h;done)
 | bool b=>
  cases y with
  | bool b'=>
   simp only[VR] at hx hy;subst hx;subst hy;unfold q7 at h;refine(fun(hh:∃z,(binOp op t (.bool b) (.bool b')).run P w= .ok z w/\VR O v z)=>let ⟨z,h1,d⟩:=hh;⟨z,cP op t xo yo _ _ (by simp) (by simp),h1,d⟩) ?_;dsimp only at h;split at h
   ·rename_i hu;cases h;exact⟨_,run_eql_bool w t b b' hu,by simp only[VR];rw[oA]⟩
   ·rename_i hu;cases h;refine⟨_,run_neq_bool w t b b' hu,?_⟩;simp only[VR];rw[I8];cases b<;>cases b'<;>rfl
   cases h
  | _=>unfold q7 at h;cases op<;>first | (simp[lr,DA] at h;done) | (cases h;done)
 | any=>unfold q7 at h;cases op<;>first | (simp[lr,DA] at h;done) | (cases h;done)
 | ni a=>unfold q7 at h;cases op<;>first | (simp[lr,DA] at h;done) | (cases h;done)
 | tok a=>unfold q7 at h;cases op<;>first | (simp[lr,DA] at h;done) | (cases h;done)
 | _=>exact other (by simp) (by simp) (by simp) (by simp) (by simp) (by simp)
theorem DW {op:BinOp} {t:TypeId} {x y v:J} {a c:Value} (hx:VR O x a) (hy:VR O y c) (h:Hd P op t x y=some v) (xo yo:Operand):
  ∃z,(eqGuard op t xo yo a c).run P w= .ok () w/\(binOp op t a c).run P w= .ok z w/\VR O v z:=by
 unfold Hd at h;split at h
 ·split at h
  ·rename_i u1 u2 n;simp only[bu] at h;split at h
   ·rename_i m hle;cases h;rw[nE_] at hle;simp only[VR] at hx hy;obtain⟨k,rfl,hk⟩:=hy;subst hx;have b:¬((k:Int)<Int.ofNat n):=by grind
    exact⟨.bool<|decide ((k:Int)<Int.ofNat n),cP .gtr t xo yo _ _ (by simp) (by simp),by simp[binOp,Op.intCmp],by simp only[VR,b,decide_false]⟩
   cases h
  cases h
 exact He hx hy h xo yo
theorem DX {op:BinOp} {t:TypeId} {x y v:J} {a c:Value} (hx:VR O x a) (hy:VR O y c) (xo yo:Operand) (h:q8 P (yQ xo || yQ yo) op t x y=some v):
  ∃z,(eqGuard op t xo yo a c).run P w= .ok () w/\(binOp op t a c).run P w= .ok z w/\VR O v z:=by
 by_cases b:x= .nilIface/\y= .nilIface
 ·obtain⟨rfl,rfl⟩:=b;simp only[VR] at hx hy;subst hx;subst hy;have h:JY P op t (yQ xo || yQ yo)=some v:=h;unfold JY at h;rw[bu] at h;split at h
  ·rename_i hk
   have hg:(eqGuard op t xo yo .nilIface .nilIface).run P w= .ok () w:=by
    unfold eqGuard;cases xo<;>cases yo<;>first | exact absurd hk Bool.false_ne_true | (cases op<;>simp)
   split at h
   ·rename_i ms hu
    have heq:(Op.equal t .nilIface .nilIface).run P w= .ok true w:=by
     have:∀d,(Op.equalIn (d+1) t .nilIface .nilIface).run P w= .ok true w:=fun d=>by simp[Op.equalIn,run_underlying hu]
     exact this 9999
    have hb:=mD heq (fun k m k' m' h=>by cases h.1) (fun k m k' m' h=>by cases h.1) (fun k m n k' m' n' h=>by cases h.1) (fun s s' h=>by cases h.1)
    grind [VR]
   cases h
  cases h
 have h':Hd P op t x y=some v:=by
  cases x<;>first | exact h | (cases y<;>first | exact h | simp_all)
 exact DW hx hy h' xo yo
end
section
variable {P:Program} {O:Ren} {w:World}
theorem iM {ev:Operand->Option J} {f:Operand->Value} {x:Operand} {y i:Nat} (h:dW ev x y=some i) (hx:∀v,ev x=some v->VR O v (f x)) (code:BoundsCode):
  (Instr.sliceBound (f x) y code).run P w= .ok i w/\i<=y:=by
 unfold dW at h;split at h
 ·rename_i k j hv;simp only[bu] at h;split at h
  ·rename_i hb;cases h;rw[nE_] at hb;have hf:=hx _ hv;simp only[VR] at hf;rw[hf];refine⟨?_,hb⟩;have h2:(0:Int)<=Int.ofNat i/\Int.ofNat i<=(y:Int):=⟨Int.natCast_nonneg _,Int.ofNat_le.2 hb⟩;simp only[Instr.sliceBound,asIntOf,sB_,sP_,rA]
   simp_all
  cases h
 cases h
theorem gH {ev:Operand->Option J} {f:Operand->Value} {len cap l h:Nat} {lo hi:Option Operand} (hb:cO ev len cap lo hi=some (l,h))
  (b:∀x,lo=some x->∀v,ev x=some v->VR O v (f x)) (m:∀x,hi=some x->∀v,ev x=some v->VR O v (f x)) (isSlice:Bool):
  (Instr.sliceBounds isSlice len cap (lo.map f) (hi.map f) none).run P w= .ok (l,h,cap) w/\l<=h/\(len<=cap->h<=cap):=by
 unfold cO at hb;cases hi with
 | none=>
  dsimp only at hb;cases lo with
  | none=>
   dsimp only at hb;cases hb;refine⟨?_,Nat.zero_le _,id⟩;simp[Instr.sliceBounds]
  | some x=>
   dsimp only at hb;cases hx:dW ev x len with
   | none=>simp_all
   | some l'=>
    rw[hx] at hb;cases hb;obtain⟨r,hle⟩:=iM (P:=P) (w:=w) hx (b x Z) .sliceB;refine⟨?_,hle,id⟩;simp[Instr.sliceBounds,r]
 | some y=>
  dsimp only at hb;cases hy:dW ev y cap with
  | none=>simp_all
  | some h'=>
   rw[hy] at hb;dsimp only at hb;obtain⟨r,hle⟩:=iM (P:=P) (w:=w) hy (m y Z) (if isSlice then .sliceAcap else .sliceAlen);cases lo with
   | none=>
    dsimp only at hb;cases hb;refine⟨?_,Nat.zero_le _,fun _=>hle⟩;simp[Instr.sliceBounds,r]
   | some x=>
    dsimp only at hb;cases hx:dW ev x h' with
    | none=>simp_all
    | some l'=>
     rw[hx] at hb;cases hb;obtain⟨u,d⟩:=iM (P:=P) (w:=w) hx (b x Z) .sliceB;refine⟨?_,d,fun _=>hle⟩;simp[Instr.sliceBounds,r,u]
theorem mn {ev:Operand->Option J} {f:Operand->Value} {len cap l h m:Nat} {lo:Option Operand} {hi mx:Operand} (hm:dW ev mx cap=some m) (hb:cO ev m m lo (some hi)=some (l,h))
  (u:∀x,lo=some x->∀v,ev x=some v->VR O v (f x)) (A:∀v,ev hi=some v->VR O v (f hi)) (C:∀v,ev mx=some v->VR O v (f mx)) (isSlice:Bool):
  (Instr.sliceBounds isSlice len cap (lo.map f) (some<|f hi)<|some<|f mx).run P w= .ok (l,h,m) w/\l<=h/\h<=m/\m<=cap:=by
 obtain⟨E,b⟩:=iM (P:=P) (w:=w) hm C (if isSlice then .slice3Acap else .slice3Alen);unfold cO at hb;dsimp only at hb;cases hy:dW ev hi m with
 | none=>simp_all
 | some h'=>
  rw[hy] at hb;dsimp only at hb;obtain⟨r,hle⟩:=iM (P:=P) (w:=w) hy A .slice3B;cases lo with
  | none=>
   dsimp only at hb;cases hb;refine⟨?_,Nat.zero_le _,hle,b⟩;simp[Instr.sliceBounds,r,E]
  | some x=>
   dsimp only at hb;cases hx:dW ev x h' with
   | none=>simp_all
   | some l'=>
    rw[hx] at hb;cases hb;obtain⟨F,d⟩:=iM (P:=P) (w:=w) hx (u x Z) .slice3C;refine⟨?_,d,hle,b⟩;simp[Instr.sliceBounds,r,F,E]
theorem yA {e:TypeId} {b:Pos} {off lo hi m:Nat} {v:J} {l:Loc} (hl:O b=some l) (h:cut P e b off lo hi m=some v):
  ∃j,P.info? e=some j/\VR O v (.slice (some (if m=lo then(⟨l.da,l.sh+off,none⟩:Addr) else(⟨l.da,l.sh+off,none⟩:Addr).add (lo*j.size))) (hi-lo) (m-lo)):=by
 unfold cut at h;cases hj:P.info? e with
 | none=>rw[hj] at h;cases h
 | some j=>
  rw[hj] at h;cases h;refine⟨j,Z,?_⟩;simp only[VR];refine⟨l,hl,?_⟩;rw[Addr.add_eq _ _ Z]
  by_cases hm:m=lo
  ·simp_all
  have:Nat.beq m lo=false:=by
   grind [Nat.beq_eq]
  grind
section
variable {ev:Operand->Option J} {f:Operand->Value} {t:TypeId} {lo hi mx:Option Operand} {v:J}
theorem lY {e:TypeId} {b:Pos} {off len cap:Nat} {l:Loc} (hl:O b=some l) (h:cutAt P ev e b off len cap lo hi mx=some v) (isSlice:Bool)
  (d:∀x,lo=some x->∀v,ev x=some v->VR O v (f x)) (u:∀x,hi=some x->∀v,ev x=some v->VR O v (f x)) (A:∀x,mx=some x->∀v,ev x=some v->VR O v (f x)):
  ∃j l' h' m,(Instr.sliceBounds isSlice len cap (lo.map f) (hi.map f)<|mx.map f).run P w= .ok (l',h',m) w/\P.info? e=some j/\
   VR O v (.slice (some (if m=l' then(⟨l.da,l.sh+off,none⟩:Addr) else(⟨l.da,l.sh+off,none⟩:Addr).add (l'*j.size))) (h'-l') (m-l')):=by
 unfold cutAt at h;cases mx with
 | none=>
  dsimp only at h;cases hb:cO ev len cap lo hi with
  | none=>rw[hb] at h;cases h
  | some p=>
   obtain⟨l',h'⟩:=p;rw[hb] at h;obtain⟨r,_,_⟩:=gH (P:=P) (w:=w) hb d u isSlice;obtain⟨j,hj,hv⟩:=yA hl h
   grind
 | some x=>
  dsimp only at h;cases hm:dW ev x cap with
  | none=>simp_all
  | some m=>
   cases hi with
   | none=>rw[hm] at h;cases h
   | some y=>
    rw[hm] at h;dsimp only at h;cases hb:cO ev m m lo (some y) with
    | none=>rw[hb] at h;cases h
    | some p=>
     obtain⟨l',h'⟩:=p;rw[hb] at h;obtain⟨r,_⟩:=mn (P:=P) (w:=w) (len:=len) hm hb d (u y Z) (A x Z) isSlice;obtain⟨j,hj,hv⟩:=yA hl h
     grind
theorem jq {e:TypeId} {j:TypeInfo} {a:Addr} {len cap l h m:Nat} (hu:P.underlying t=some (.slice e)) (hj:P.info? e=some j) {lo hi mx:Option Value}
  (hb:(Instr.sliceBounds true len cap lo hi mx).run P w= .ok (l,h,m) w):
  (Instr.sliceAt t (.slice (some a) len cap) lo hi mx).run P w= .ok (.slice (some (if m=l then a else a.add (l*j.size))) (h-l) (m-l)) w:=by
 simp only[Instr.sliceAt,Instr.slice,sB_,run_underlying hu,rA,hb,bU hj,sP_];split<;>rfl
theorem zT {len a c l' h':Nat} (aa:a<=c) (hb:cO ev len a lo hi=some (l',h')):cO ev len c lo hi=some (l',h'):=by
 have up:∀y i,dW ev y a=some i->dW ev y c=some i:=by
  intro y i hy;unfold dW at hy⊢;split at hy
  ·rename_i k i' ab;simp only[bu] at hy⊢;split at hy
   ·rename_i hle;cases hy;rw[nE_] at hle;rw[if_pos (by rw[nE_];omega)]
   cases hy
  cases hy
 unfold cO at hb⊢
 grind
theorem C3 {x:Operand} (h:fy P ev t x lo hi mx=some v)
  (hx:∀v,ev x=some v->VR O v (f x)) (A:∀x,lo=some x->∀v,ev x=some v->VR O v (f x)) (C:∀x,hi=some x->∀v,ev x=some v->VR O v (f x)) (E:∀x,mx=some x->∀v,ev x=some v->VR O v (f x)):
  ∃z,(Instr.sliceAt t (f x) (lo.map f) (hi.map f)<|mx.map f).run P w= .ok z w/\VR O v z:=by
 unfold fy at h;split at h
 ·rename_i e b off len cap hu d;have hv:=hx _ d;simp only[VR] at hv;obtain⟨l,hl,hf⟩:=hv;obtain⟨j,l',h',m,r,hj,I⟩:=lY (w:=w) hl h true A C E;rw[hf];exact⟨_,jq hu hj r,I⟩
 ·rename_i e b off len sz hu d;have hv:=hx _ d;cases mx with
  | none=>
   dsimp only at h;cases hb:cO ev len len lo hi with
   | none=>rw[hb] at h;cases h
   | some p=>
    obtain⟨l',h'⟩:=p;cases hj:P.info? e with
    | none=>simp_all
    | some j=>
     rw[hb,hj] at h;simp only[bu] at h;split at h
     ·rename_i G;rw[Nat.beq_eq] at G;cases h;obtain⟨r,hle,hle2⟩:=gH (P:=P) (w:=w) hb A C true;have hle2:=hle2 (nR_ _)
      have wider:∀c,len<=c->(Instr.sliceBounds true len c (lo.map f) (hi.map f) none).run P w= .ok (l',h',c) w:=by
       intro c hc
       have L:cO ev len c lo hi=some (l',h'):=by
        have up:∀y i,dW ev y len=some i->dW ev y c=some i:=by
         intro y i hy;unfold dW at hy⊢;split at hy
         ·rename_i k i' aa;simp only[bu] at hy⊢;split at hy
          ·rename_i hle;cases hy;rw[nE_] at hle;rw[if_pos (by rw[nE_];omega)]
          cases hy
         cases hy
        unfold cO at hb⊢
        grind
       exact(gH (P:=P) (w:=w) L A C true).1
      simp only[VR] at hv;obtain⟨l,hl,⟨c,hf,hc,u⟩ | ⟨F,a,hf⟩⟩:=hv
      ·rw[hf];refine⟨_,jq hu hj<|wider c hc,?_⟩;simp only[VR];refine⟨l,hl,?_⟩
       by_cases M:c=l'
       ·grind
       left;refine⟨c-l',?_,by omega,?_⟩
       ·rw[if_neg M,Addr.add_eq _ _ Z,G,Nat.add_assoc]
       rw[<-u];have:c=l'+(c-l'):=by omega
       grind
      rw[hf];subst F;refine⟨_,jq hu hj<|wider 0<|nR_ _,?_⟩
      simp_all
     cases h
  | some m=>
   simp only[bu] at h;split at h
   ·cases h
   rename_i hne;simp only[VR] at hv;obtain⟨l,hl,⟨c,hf,hc,u⟩ | ⟨F,a,hf⟩⟩:=hv
   ·
    obtain⟨j,l',h',m',r,hj,I⟩:=lY (w:=w) hl h true A C E
    have r':(Instr.sliceBounds true len c (lo.map f) (hi.map f)<|some<|f m).run P w= .ok (l',h',m') w:=by
     unfold cutAt at h;dsimp only at h;cases hm:dW ev m len with
     | none=>simp_all
     | some m0=>
      cases hi with
      | none=>rw[hm] at h;cases h
      | some y=>
       rw[hm] at h;dsimp only at h;cases hb:cO ev m0 m0 lo (some y) with
       | none=>rw[hb] at h;cases h
       | some p=>
        obtain⟨l0,h0⟩:=p
        have Q:dW ev m c=some m0:=by
         unfold dW at hm⊢;split at hm
         ·simp only[bu] at hm⊢;split at hm
          ·rename_i hle;cases hm;rw[nE_] at hle;rw[if_pos (by rw[nE_];omega)]
          cases hm
         cases hm
        obtain⟨r1,_⟩:=mn (P:=P) (w:=w) (len:=len) hm hb A (C y Z) (E m Z) true;obtain⟨r2,_⟩:=mn (P:=P) (w:=w) (len:=len) Q hb A (C y Z) (E m Z) true
        simp_all
    rw[hf];exact⟨_,jq hu hj r',I⟩
   simp_all
 ·rename_i e b off len a sz hu d;have hv:=hx _ d;simp only[VR] at hv;obtain⟨l,hl,c,hf,R,u⟩:=hv;cases mx with
  | some _=>cases h
  | none=>
   dsimp only at h;cases hb:cO ev len a lo hi with
   | none=>rw[hb] at h;cases h
   | some p=>
    obtain⟨l',h'⟩:=p;cases hj:P.info? e with
    | none=>simp_all
    | some j=>
     rw[hb,hj] at h;simp only[bu] at h;split at h
     ·rename_i hc;cases h;simp only[bA_,Nat.beq_eq,nE_] at hc;obtain⟨G,ab,ac⟩:=hc;obtain⟨r,hle,hle2⟩:=gH (P:=P) (w:=w) (zT R hb) A C true;rw[hf];refine⟨_,jq hu hj r,?_⟩;simp only[VR];refine⟨l,hl,c-l',?_,by omega,?_⟩
      ·rw[if_neg oM,Addr.add_eq _ _ Z,G,Nat.add_assoc]
      rw[<-u];have:c=l'+(c-l'):=by omega
      grind
     cases h
 ·rename_i e hu d;have hv:=hx _ d;simp only[VR] at hv;cases mx with
  | some _=>cases h
  | none=>
   dsimp only at h;cases hb:cO ev 0 0 lo hi with
   | none=>rw[hb] at h;cases h
   | some p=>
    obtain⟨l',h'⟩:=p;cases K:P.info? e with
    | none=>simp_all
    | some je=>
    rw[hb,K] at h;cases h;obtain⟨r,hle,hle2⟩:=gH (P:=P) (w:=w) hb A C true;have hle2:=hle2 (nR_ _);have:l'=0:=by omega
    have:h'=0:=by omega
    subst_vars
    rw[hv];refine⟨.slice none 0 0,?_,by simp only[VR]⟩;simp[Instr.sliceAt,Instr.slice,run_underlying hu,r,bU K]
 ·rename_i n e b off hu d;have hv:=hx _ d;simp only[VR] at hv;obtain⟨l,hl,hf⟩:=hv;obtain⟨j,l',h',m,r,hj,I⟩:=lY (w:=w) hl h false A C E;rw[hf];refine⟨_,?_,I⟩;simp only[Instr.sliceAt,sB_,run_underlying hu,rA,Instr.sureAddr,sP_,r,bU hj]
 ·rename_i arr b off hu d;have hv:=hx _ d;simp only[VR] at hv;obtain⟨l,hl,hf⟩:=hv;split at h
  ·rename_i n e T;obtain⟨j,l',h',m,r,hj,I⟩:=lY (w:=w) hl h false A C E;rw[hf];refine⟨_,?_,I⟩;simp only[Instr.sliceAt,Instr.slice,sB_,run_underlying hu,run_underlying T,asAddr,rA,sP_,r,bU hj]
  cases h
 ·rename_i s hu d;have hv:=hx _ d;simp only[VR] at hv;obtain⟨bs,hf,U⟩:=hv;cases mx with
  | some _=>cases h
  | none=>
   dsimp only at h;cases hb:cO ev (di s) (di s) lo hi with
   | none=>rw[hb] at h;cases h
   | some p=>
    obtain⟨l',h'⟩:=p;rw[hb] at h;cases h;rw[iV U] at hb;obtain⟨r,hle,hle2⟩:=gH (P:=P) (w:=w) hb A C false;rw[hf];refine⟨.string<|bs.extract l' h',?_,?_⟩
    ·simp[Instr.sliceAt,Instr.slice,run_underlying hu,r]
    simp only[VR];refine⟨_,Z,?_⟩
    grind [ga,dp,dF,Lib.extract_data,List.map_take,List.map_drop]
 cases h
end
end
section
variable {P:Program} {O:Ren} {w:World}
theorem wY {t:TypeId} {cs:List J} {ys:Array Value} {off:Nat} {v:J} (h:Gl P t cs off=some v) (hc:cT O cs ys.toList):∃y,(part t ys off).run P w= .ok y w/\VR O v y:=by
 unfold Gl at h;split at h
 ·rename_i n b;cases h;obtain⟨d,i,hu,hi,m,hd⟩:=qX b;refine⟨.agg<|ys.extract off (off+n),?_,?_⟩
  ·simp only[part,sB_,eT hu,hd,rA,if_true,bU hi,m,sP_]
  simp only[VR];refine⟨_,Z,?_⟩;rw[dp,dF,Array.toList_extract];have:=(hc.drop off).take n
  simp_all
 ·rename_i b;obtain⟨d,i,hu,hi,hd⟩:=vC b;rw[eU] at h;obtain⟨y,h1,u⟩:=hc.get h;refine⟨y,?_,u⟩;have:ys[off]? =some y:=by simp_all
  simp only[part,sB_,eT hu,hd,rA,Bool.false_eq_true,if_false,this,sP_]
 cases h
theorem gd {ev:Operand->Option J} {f:Operand->Value}:∀{l:List Operand} {vs:List J},cM ev l=some vs->(∀x∈l,∀v,ev x=some v->VR O v (f x))->cT O vs (l.map f)
 | [],vs,h,_=>by rw[gx] at h;cases h;exact cT.nil
 | x::l,vs,h,b=>by
  obtain⟨y,r,h1,d,rfl⟩:=fV h;exact cT.cons (b x (by simp) y h1)<|gd d fun z hz=>b z (by simp[hz])
theorem HF {t ty:TypeId} {x:J} {y:Value} {n:Nat} {ts:Array TypeId} (h:wD P t x=some n) (hx:VR O x y) (d:ts[0]? =some t):(Builtin.len_ ts ty #[y]).run P w= .ok (.int .i64<|Int.ofNat n) w:=by
 unfold wD at h;split at h
 ·rename_i s hu;cases h;simp only[VR] at hx;obtain⟨bs,rfl,u⟩:=hx;rw[iV u];simp[Builtin.len_,d,run_underlying hu,goInt]
 ·rename_i m e hu;cases h;simp[Builtin.len_,d,run_underlying hu,goInt]
 ·rename_i e b off m cap hu;cases h;obtain⟨a,c,rfl⟩:=VR.iT hx;simp[Builtin.len_,d,run_underlying hu,goInt]
 ·rename_i e hu;cases h;simp only[VR] at hx;subst hx;simp[Builtin.len_,d,run_underlying hu,goInt]
 ·rename_i k e hu;cases h;simp only[VR] at hx;subst hx;simp[Builtin.len_,d,run_underlying hu,goInt]
 cases h
theorem wO {x:J} {y:Value} (hx:VR O x y) (h:x≠ .nilPtr/\x≠ .nilIface/\x≠ .nilFunc/\(∀l,x≠ .yield l)/\x≠ .any/\(∀n,x≠ .tok n)) (f:Operand->Value) (o:Oper) (z:Operand) (d:o.op= .nilCheck z) (hf:f z=y):
  (execOp f o).run P w= .ok (.value y) w:=by
 have key:(y≠ .pointer none)/\y≠ .nilIface/\y≠ .nilFunc/\∀n a b,y≠ .func (.method n) a b:=by
  obtain⟨h1,m,u,h4,h5,A⟩:=h;cases x with
  | tok n=>exact absurd Z (A n)
  | any=>exact absurd Z h5
  | nilPtr=>exact absurd Z h1
  | nilIface=>exact absurd Z m
  | nilFunc=>exact absurd Z u
  | yield l=>exact absurd Z (h4 l)
  | slice b off len cap=>obtain⟨_,_,rfl⟩:=VR.iT hx;simp
  | _=>simp only[VR] at hx;first | (subst hx;simp;done) | (obtain⟨_,_,rfl⟩:=hx;simp;done) | (obtain⟨_,rfl,_⟩:=hx;simp;done) | (obtain⟨_,_,rfl,_⟩:=hx;simp;done)
 obtain⟨C,E,F,G⟩:=key;simp only[execOp,d,hf,C,E,F,G];rfl
theorem w9 {ev:Operand->Option J} {f:Operand->Value} {o:Oper} {v:J} (C:ER O ev f o.op) (h:du P ev o.op=some v):
  ∃x,(execOp f o).run P w= .ok (.value x) w/\VR O v x:=by
 cases F:o.op with
 | move x=>
  rw[F] at h C;exact⟨f x,by simp[execOp,F],C x (by simp[Op.operands]) v h⟩
 | assign x=>
  rw[F] at h C;exact⟨f x,by simp[execOp,F],C x (by simp[Op.operands]) v h⟩
 | pick c a b=>
  rw[F] at h C;simp only[du] at h;split at h
  ·rename_i hc;have:=C c (by simp[Op.operands]) _ hc;simp only[VR] at this;exact⟨f a,by simp[execOp,F,this,asBool],C a (by simp[Op.operands]) v h⟩
  ·rename_i hc;have:=C c (by simp[Op.operands]) _ hc;simp only[VR] at this;exact⟨f b,by simp[execOp,F,this,asBool],C b (by simp[Op.operands]) v h⟩
  cases h
 | build t parts=>
  rw[F] at h C;obtain⟨x,h1,M⟩:=Bz (O:=O) (w:=w) (f:=f) (fun p hp u hu=>C p.2 (by simp only[Op.operands,List.mem_toArray,List.mem_map];grind) u hu) h
  grind [execOp,sB_,rA,sP_]
 | nilCheck x=>
  rw[F] at h C;simp only[du] at h;split at h
  ·cases h
  ·cases h
  ·cases h
  ·cases h
  ·cases h
  ·cases h
  rename_i X n2 n3 n4 n5 n6;have hv:=C x (by simp[Op.operands]) v h;exact⟨f x,wO hv ⟨fun e=>X (by rw[h,e]),fun e=>n2 (by rw[h,e]),fun e=>n3 (by rw[h,e]),(fun l e=>n4 l (by rw[h,e])),(fun e=>n5 (by rw[h,e])),fun k e=>n6 k (by rw[h,e])⟩ f o x F Z,hv⟩
 | binOp op t x y ty=>
  rw[F] at h C;simp only[du] at h;split at h
  ·rename_i a b ha hb;obtain⟨z,h1,M,h3⟩:=DX (P:=P) (w:=w) (C x (by simp[Op.operands]) a ha) (C y (by simp[Op.operands]) b hb) x y h
   grind [execOp,sB_,rA,sP_]
  cases h
 | unOp op t x=>
  rw[F] at h C;simp only[du] at h;split at h
  ·rename_i b hb;cases h;have:=C x (by simp[Op.operands]) _ hb;simp only[VR] at this;exact⟨.bool (!b),by simp[execOp,F,this,Op.unary],by simp only[VR];rw[cond_not]⟩
  ·rename_i k n hb;cases h;have:=C x (by simp[Op.operands]) _ hb;simp only[VR] at this;refine⟨.int k<|k.wrap (0-n),?_,by simp only[VR];rw[Dp];rfl⟩
   grind [execOp,Op.unary,Op.intArith,sP_]
  ·rename_i k n hb;cases h;have:=C x (by simp[Op.operands]) _ hb;simp only[VR] at this;refine⟨.int k<|k.wrap (BitVec.ofInt k.bits (if k.signed then-1 else k.max) ^^^ BitVec.ofInt k.bits n).toNat,?_,by simp only[VR]⟩
   grind [execOp,Op.unary,Op.intBits,sP_]
  cases h
 | convert src dst x=>
  rw[F] at h C;simp only[du] at h;split at h
  ·rename_i I K Q k1 k k2 n e1 e2 W;cases h;have:=C x (by simp[Op.operands]) _ W;simp only[VR] at this;refine⟨.int k<|k.wrap n,?_,by simp only[VR];rw[Dp]⟩;simp[execOp,F,this,convert,run_underlying e1,run_underlying e2,Conv.intToInt]
  ·rename_i I K Q s e1 e2 W;cases h;have hv:=C x (by simp[Op.operands]) _ W;have hv':=hv;simp only[VR] at hv';obtain⟨bs,hf,R⟩:=hv';refine⟨f x,?_,hv⟩;rw[hf];simp[execOp,F,hf,convert,run_underlying e1,run_underlying e2]
  cases h
 | makeInterface t x=>
  rw[F] at h C;simp only[du] at h;split at h
  ·cases h
  ·rename_i I K d u hn e1 e2;cases h;have hv:=C x (by simp[Op.operands]) _ e2;refine⟨.iface t<|f x,?_,by simp only[VR];simp_all⟩;simp only[execOp,F,Instr.makeInterface,sB_,run_underlying e1,rA]
   simp_all
  cases h
 | makeFunc fn first captured=>
  rw[F] at h C;simp only[du] at h;split at h
  ·rename_i I K Q g a b e1 e2;cases h;have ha:=gd (f:=f) e1 (fun x hx u hu=>C x (by grind [Op.operands]) u hu);have hb:=gd (f:=f) e2 (fun x hx u hu=>C x (by grind [Op.operands]) u hu);refine⟨.func (.func g) (first.map f)<|captured.map f,?_,by simp only[VR];exact⟨_,_,Z,by simpa using ha,by simpa using hb⟩⟩;simp[execOp,F,Instr.makeFunc]
  cases h
 | slice t x lo hi mx=>
  rw[F] at h C;obtain⟨z,h1,M⟩:=C3 (P:=P) (w:=w) (f:=f) h (C x (by simp[Op.operands])) (fun y hy=>C y (by subst hy;simp[Op.operands])) (fun y hy=>C y (by subst hy;simp[Op.operands])) (fun y hy=>C y (by subst hy;simp[Op.operands]))
  grind [execOp,sB_,rA,sP_]
 | fieldAddr s x i=>
  rw[F] at h C;simp only[du] at h;split at h
  ·rename_i fs b off R hx;have hv:=C x (by simp[Op.operands]) _ hx;simp only[VR] at hv;obtain⟨l,hl,hf⟩:=hv;split at h
   ·rename_i fd T;split at h
    ·rename_i j hj;simp only[bu] at h;split at h
     ·cases h
     rename_i hne;cases h;have hz:¬j.size=0:=fun e=>hne (by simp_all)
     refine⟨.pointer<|some ⟨l.da,l.sh+(off+fd.offset),none⟩,?_,by simp only[VR];simp_all⟩;simp[execOp,F,Instr.fieldAt,run_underlying<|mF R,T,hf,Instr.sureAddr,fieldPlace,bU hj,hz,Addr.add_eq,Nat.add_assoc]
    cases h
   cases h
  cases h
 | field t x i=>
  rw[F] at h C;simp only[du] at h;split at h
  ·rename_i fs cs R hx;have hv:=C x (by simp[Op.operands]) _ hx;simp only[VR] at hv;obtain⟨ys,hf,hc⟩:=hv;split at h
   ·rename_i fd T;obtain⟨y,h1,M⟩:=wY (P:=P) (w:=w) h hc;refine⟨y,?_,M⟩;simp[execOp,F,Instr.field,run_underlying<|mF R,T,hf,asAgg,h1]
   cases h
  cases h
 | indexAddr t x i=>
  rw[F] at h C;simp only[du] at h;split at h
  ·rename_i I K Q e b off len cap k n hu hx hi;have hv:=C x (by simp[Op.operands]) _ hx;have hn:=C i (by simp[Op.operands]) _ hi;simp only[VR] at hn;split at h
   ·rename_i j hj;simp only[bu] at h;split at h
    ·rename_i G;cases h;rw[nE_] at G;have G:n<len:=G;have L:(0:Int)<=Int.ofNat n/\Int.ofNat n<(len:Int):=⟨Int.natCast_nonneg _,Int.ofNat_lt.2 G⟩
     have go:∀(a:Addr) (c:Nat),f x= .slice (some a) len c->(execOp f o).run P w= .ok (.value (.pointer<|some<|a.add (n*j.size))) w:=by
      intro a c hf;simp only[execOp,F,Instr.indexAt,hn,hf,asIntOf,sB_,sP_,run_underlying hu,rA];rw[if_pos L];simp[bU hj]
     cases cap with
     | known c=>
      simp only[VR] at hv;obtain⟨l,hl,hf⟩:=hv;refine⟨_,go _ _ hf,?_⟩;simp only[VR];exact⟨l,hl,by rw[Addr.add_eq _ _ Z,Nat.add_assoc]⟩
     | least a sz=>
      simp only[VR] at hv;obtain⟨l,hl,c,hf,_⟩:=hv;refine⟨_,go _ _ hf,?_⟩;simp only[VR];exact⟨l,hl,by rw[Addr.add_eq _ _ Z,Nat.add_assoc]⟩
     | upto sz=>
      simp only[VR] at hv;obtain⟨l,hl,⟨c,hf,_⟩ | ⟨h0,_⟩⟩:=hv
      ·refine⟨_,go _ _ hf,?_⟩;simp only[VR];exact⟨l,hl,by rw[Addr.add_eq _ _ Z,Nat.add_assoc]⟩
      omega
    cases h
   cases h
  ·rename_i I K Q m e b off k n hu hx hi;have hv:=C x (by simp[Op.operands]) _ hx;have hn:=C i (by simp[Op.operands]) _ hi;simp only[VR] at hn hv;obtain⟨l,hl,hf⟩:=hv;split at h
   ·rename_i j hj;simp only[bu] at h;split at h
    ·rename_i G;cases h;rw[nE_] at G;have G:n<m:=G;have L:(0:Int)<=Int.ofNat n/\Int.ofNat n<(m:Int):=⟨Int.natCast_nonneg _,Int.ofNat_lt.2 G⟩;refine⟨.pointer<|some ⟨l.da,l.sh+(off+n*j.size),none⟩,?_,by simp only[VR];simp_all⟩;simp only[execOp,F,Instr.indexAt,hn,hf,asIntOf,sB_,sP_,run_underlying hu,rA,Instr.sureAddr];rw[if_pos L];simp[bU hj,Addr.add_eq,Nat.add_assoc]
    cases h
   cases h
  cases h
 | index t x i=>
  rw[F] at h C;simp only[du] at h;split at h
  ·rename_i I K Q m e cs k n hu hx hi;have hv:=C x (by simp[Op.operands]) _ hx;have hn:=C i (by simp[Op.operands]) _ hi;simp only[VR] at hn hv;obtain⟨ys,hf,hc⟩:=hv;simp only[bu] at h;split at h
   ·rename_i G;rw[nE_] at G;have G:n<m:=G;have L:(0:Int)<=Int.ofNat n/\Int.ofNat n<(m:Int):=⟨Int.natCast_nonneg _,Int.ofNat_lt.2 G⟩;split at h
    ·rename_i j hj;obtain⟨y,h1,M⟩:=wY (P:=P) (w:=w) h hc;refine⟨y,?_,M⟩;simp only[execOp,F,Instr.index,hn,hf,asIntOf,sB_,sP_,run_underlying hu,rA];rw[if_pos L];simp[bU hj,h1]
    cases h
   cases h
  ·rename_i I K Q s k n hu hx hi;have hv:=C x (by simp[Op.operands]) _ hx;have hn:=C i (by simp[Op.operands]) _ hi;simp only[VR] at hn hv;obtain⟨bs,hf,R⟩:=hv;split at h
   ·rename_i c hc;cases h;rw[eU] at hc;unfold ga at R;rw[<-R,gM_] at hc;cases hb:bs.data.toList[n]? with
    | none=>simp_all
    | some bt=>
     rw[hb] at hc;cases hc;have aa:bs[n]? =some bt:=by rw[<-hb,aT_];rfl
     refine⟨.int .u8 (bt.toNat:Int),?_,by simp only[VR];rfl⟩;have h0:(0:Int)<=Int.ofNat n:=Int.natCast_nonneg _;simp only[execOp,F,Instr.index,hn,hf,asIntOf,sB_,sP_,run_underlying hu,rA]
     simp_all
   cases h
  cases h
 | typeAssert x xt ty ok=>
  rw[F] at h C;simp only[du] at h
  have zero:∀{v:J},((eQ P ty).map fun z=>J.tuple [z,.bool false])=some v->∃z,(zeroValue ty).run P w= .ok z w/\VR O v (.tuple #[z,.bool false]):=fun {v} hz=>by
   cases hq:eQ P ty with
   | none=>simp_all
   | some z=>
    rw[hq] at hz;cases hz;obtain⟨i,y,hi,hy,hv⟩:=pG hq;refine⟨y,by simp[zeroValue,typeInfo,hi,hy],?_⟩;simp only[VR];exact⟨_,Z,cT.cons (hv O)<|cT.cons (by simp only[VR]) cT.nil⟩
  split at h
  ·cases h
  ·rename_i I K d u v' hn e1 e2;have hv:=C x (by simp[Op.operands]) _ e2;simp only[VR] at hv;obtain⟨y,hf,hv⟩:=hv;rw[bu] at h;split at h
   ·rename_i hu;have:=nB hu;subst this;cases ok with
    | true=>
     simp only[cond_true] at h;cases h;refine⟨.tuple #[y,.bool true],?_,by simp only[VR];exact⟨_,Z,cT.cons hv<|cT.cons (by simp only[VR]) cT.nil⟩⟩;simp only[execOp,F,Instr.typeAssert,hf,sB_,run_underlying e1,rA]
     simp_all
    | false=>
     simp only[cond_false] at h;cases h;refine⟨y,?_,hv⟩;simp only[execOp,F,Instr.typeAssert,hf,sB_,run_underlying e1,rA]
     simp_all
   rename_i hu;have hne:¬u=ty:=fun e=>hu (by simp_all)
   cases ok with
   | true=>
    obtain⟨z,hz,U⟩:=zero h;refine⟨_,?_,U⟩;simp only[execOp,F,Instr.typeAssert,hf,sB_,run_underlying e1,rA]
    simp_all
   | false=>cases h
  ·rename_i I K d hn e1 e2;have hv:=C x (by simp[Op.operands]) _ e2;simp only[VR] at hv;cases ok with
   | true=>
    obtain⟨z,hz,U⟩:=zero h;refine⟨_,?_,U⟩;simp only[execOp,F,Instr.typeAssert,hv,sB_,run_underlying e1,rA]
    simp_all
   | false=>cases h
  cases h
 | extract x i=>
  rw[F] at h C;simp only[du] at h;split at h
  ·rename_i vs hx;have hv:=C x (by simp[Op.operands]) _ hx;simp only[VR] at hv;obtain⟨ys,hf,hc⟩:=hv;rw[eU] at h;obtain⟨y,h1,M⟩:=hc.get h;have:ys[i]? =some y:=by simp_all
   exact⟨y,by simp[execOp,F,Instr.extract,hf,this],M⟩
  cases h
 | call c=>
  rw[F] at h C;simp only[du] at h;split at h
  ·rename_i E;split at h
   ·rename_i I K t x e1 e2;split at h
    ·rename_i u hu;cases hl:wD P t u with
     | none=>rw[hl] at h;cases h
     | some n=>
      rw[hl] at h;cases h;have A:c.args= #[x]:=by grind
      have hv:=C x (by simp[Op.operands,Call.operands,E,A]) u hu;refine⟨.int .i64<|Int.ofNat n,?_,by simp only[VR]⟩;have:=HF (P:=P) (w:=w) (ty:=o.type) hl hv e1;simp[execOp,F,resolve,E,A,invoke,builtin,this]
    cases h
   cases h
  ·rename_i E;split at h
   ·rename_i I K t x e1 e2;split at h
    ·rename_i Q u4 e u hu hx;have A:c.args= #[x]:=by grind
     have hv:=C x (by simp[Op.operands,Call.operands,E,A]) u hx;unfold P3 at h;split at h
     ·rename_i b off len k;cases h;simp only[VR] at hv;obtain⟨l,hl,hf⟩:=hv;refine⟨.int .i64<|Int.ofNat k,?_,by simp only[VR]⟩;simp[execOp,F,resolve,E,A,invoke,builtin,Builtin.cap_,e1,run_underlying hu,hf,goInt]
     ·rename_i b off len a sz;cases h;simp only[VR] at hv;obtain⟨l,hl,k,hf,hk,_⟩:=hv;refine⟨.int .i64<|Int.ofNat k,?_,by simp only[VR];grind⟩;simp[execOp,F,resolve,E,A,invoke,builtin,Builtin.cap_,e1,run_underlying hu,hf,goInt]
     ·cases h;simp only[VR] at hv;refine⟨.int .i64 0,?_,by simp only[VR]⟩;simp[execOp,F,resolve,E,A,invoke,builtin,Builtin.cap_,e1,run_underlying hu,hv,goInt]
     cases h
    cases h
   cases h
  ·rename_i E;split at h
   ·rename_i I x y e2;split at h
    ·rename_i a b ha hb;have A:c.args= #[x,y]:=by grind
     have hva:=C x (by simp[Op.operands,Call.operands,E,A]) a ha;have hvb:=C y (by simp[Op.operands,Call.operands,E,A]) b hb;unfold OM at h;split at h
     ·rename_i k n k' m;simp only[VR] at hva hvb;simp only[bu] at h;split at h
      ·cases h;refine⟨.int k (if m<n then m else n),?_,by simp only[VR,eM,decide_eq_true_eq]⟩;simp[execOp,F,resolve,E,A,invoke,builtin,hva,hvb,run_min_int2]
      cases h
     cases h
    cases h
   cases h
  ·rename_i E;split at h
   ·rename_i I x y e2;split at h
    ·rename_i a b ha hb;have A:c.args= #[x,y]:=by grind
     have hva:=C x (by simp[Op.operands,Call.operands,E,A]) a ha;have hvb:=C y (by simp[Op.operands,Call.operands,E,A]) b hb;unfold Qp at h;split at h
     ·rename_i k n k' m;simp only[VR] at hva hvb;simp only[bu] at h;split at h
      ·cases h;refine⟨.int k (if m>n then m else n),?_,by simp only[VR,eM,decide_eq_true_eq]⟩;simp[execOp,F,resolve,E,A,invoke,builtin,hva,hvb,run_max_int2]
      cases h
     cases h
    cases h
   cases h
  cases h
 | _=>rw[F] at h;simp[du] at h
end
inductive HR where
 | val (v:J) (V:N)
 | skip (V:N)
 | enter (f:Nat) (args:List J) (V:N)
 | round (l:Pos) (args:List J) (V:N)
 | jE (v:J) (V:N)
 | err (n:Nat)
def tQ (P:Program) (V:N) (t:TypeId) (x v:J):Option N:=
 match x,cd v with
 | .ptr b off,some cs=>
  match V.m.get b,P.info? t with
  | some (.row cells e false),some j=>
   bif Nat.beq (di cs) j.size && Nat.ble (off+j.size) (di cells) && bO cs then some (V.setObj b (.row (dB cs cells off) e false)) else none
  | some (.own cells e),some j=>
   bif Nat.beq (di cs) j.size && Nat.ble (off+j.size) (di cells) && bO cs then some (V.setObj b (.own (dB cs cells off) e)) else none
  | _,_=>none
 | _,_=>none
def jt (V:N) (sz:Nat):J->Option (Nat×List J)
 | .au=>some (0,[])
 | .slice b off len _=>match V.m.get b with
  | some (.row cells _ _)=>bif Nat.ble (off+len*sz) (di cells) then some (len,takeN (dK cells off) (len*sz)) else none
  | _=>none
 | .str s=>bif Nat.beq sz 1 then some (di s,x8 (fun c=>.int .u8 (Int.ofNat c)) s) else none
 | _=>none
def dt (P:Program) (t:Option TypeId):Bool:=
 match t with
 | some t=>match P.underlying t with
  | some (.slice _) | some .string=>true
  | _=>false
 | none=>true
def grow (V:N) (e:Nat) (cs:List J) (len sz:Nat):HR:=
 .val (.slice V.next 0 len (.upto sz)) (V.alloc (.row cs e false))
def eR (P:Program) (V:N) (ts:Array TypeId) (s x:J):HR:=
 match ts[0]? with
 | some t=>match P.underlying t with
  | some (.slice e)=>match P.info? e with
   | some j=>
    bif dt P ts[1]? && Nat.ble 1 j.size && Nat.ble j.bytes 65536 then
     match jt V j.size x with
     | some (n,news)=>
      bif bO news && Nat.ble n 1048576 && (P.info? e).any (fun j=>(j.zero.bind nP).any fun z=>(cd z).any fun cs=>Nat.beq (di cs) j.size) then
       match s with
       | .au=>bif Nat.beq n 0 then .val .au V else grow V e news n j.size
       | .slice b off len (.known c)=>
        bif Nat.ble (len+n) c then
         match V.m.get b with
         | some (.row cells e' false)=>
          bif Nat.ble (off+len*j.size+di news) (di cells) then .val (.slice b off (len+n) (.known c)) (V.setObj b (.row (dB news cells (off+len*j.size)) e' false)) else .err 21
         | _=>bif Nat.beq n 0 then .val (.slice b off len (.known c)) V else .err 22
        else match V.m.get b with
         | some (.row cells _ _)=>
          bif Nat.ble (off+len*j.size) (di cells) && Nat.ble len 1048576 then grow V e (gg (takeN (dK cells off) (len*j.size)) news) (len+n) j.size else .err 23
         | _=>.err 24
       | .slice b off len (.upto sz)=>
        bif Nat.beq n 0 then .val (.slice b off len (.upto sz)) V else
        bif Nat.beq sz j.size && Nat.ble len 1048576 then
         match V.m.get b with
         | some (.row cells e' false)=>
          bif Nat.ble 1 len && Nat.ble (off+len*j.size+di news) (di cells) then
           .val (.slice b off (len+n) (.upto sz)) (V.setObj b (.row (dB news cells (off+len*j.size)) e' false))
          else bif Nat.ble (off+len*j.size) (di cells) && Nat.beq e' e then grow (V.drop b) e (gg (takeN (dK cells off) (len*j.size)) news) (len+n) j.size else .err 25
         | _=>.err 26
        else .err 27
       | _=>.err 28
      else .err 29
     | none=>.err 30
    else .err 31
   | none=>.err 32
  | _=>.err 33
 | none=>.err 34
def pK (P:Program) (V:N) (ts:Array TypeId) (s x:J):HR:=
 match ts[0]?,ts[1]? with
 | some t,some t2=>match P.underlying t,P.underlying t2 with
  | some (.slice e),some (.int _)=>match P.info? e,(eQ P e).bind cd,x with
   | some j,some zs,.int .i64 (.ofNat n)=>
    bif Nat.ble n 1048576 && (Nat.ble 1 n && (Nat.ble 1 j.size && (Nat.ble j.bytes 65536 && Nat.beq (di zs) j.size))) then
     match s with
     | .au=>grow V e (ec zs n) n j.size
     | .slice b off len (.known c)=>
      bif Nat.ble (len+n) c then .err 37 else match V.m.get b with
       | some (.row cells _ _)=>bif Nat.ble (off+len*j.size) (di cells) && Nat.ble len 1048576 then grow V e (gg (takeN (dK cells off) (len*j.size))<|ec zs n) (len+n) j.size else .err 23
       | _=>.err 24
     | _=>.err 38
    else .err 39
   | _,_,_=>.err 46
  | _,_=>.err 47
 | _,_=>.err 48
def yy (P:Program) (V:N) (ts:Array TypeId) (d x:J):HR:=
 match ts[0]? with
 | some t=>match P.underlying t with
  | some (.slice e)=>match P.info? e with
   | some j=>match jt V j.size x,d with
    | some (n,news),.slice b off len _=>
     bif Nat.beq (Nat.min n len) 0 then .val (.int .i64 0) V else
     match V.m.get b with
     | some (.row cells e' false)=>
      bif bO (takeN news (Nat.min n len*j.size)) && Nat.ble 1 j.size && Nat.ble (off+di (takeN news (Nat.min n len*j.size))) (di cells) then
       .val (.int .i64<|Int.ofNat<|Nat.min n len) (V.setObj b (.row (dB (takeN news (Nat.min n len*j.size)) cells off) e' false)) else .err 40
     | _=>.err 41
    | some (_,_),.au=>.val (.int .i64 0) V
    | _,_=>.err 42
   | none=>.err 43
  | _=>.err 44
 | none=>.err 45
def sY (P:Program) (V:N) (ts:Array TypeId) (x:J):Option N:=
 match ts[0]? with
 | some t=>match P.underlying t with
  | some (.slice e)=>match x with
   | .au=>some V
   | .slice b off len _=>bif Nat.beq len 0 then some V else
    match(eQ P e).bind cd,V.m.get b with
    | some zs,some (.row cells e' false)=>bif bO (ec zs len) && Nat.ble 1 (di zs) && Nat.ble (off+di (ec zs len)) (di cells) then some (V.setObj b (.row (dB (ec zs len) cells off) e' false)) else none
    | _,_=>none
   | _=>none
  | _=>none
 | none=>none
def AO (e:eB) (es:List eB) (i:Nat):List eB:=E9 e es i
def vP (es:List eB):Nat->List eB:=
 List.rec (motive:=fun _=>Nat->List eB) (fun _=>[]) (fun x l ih n=>Nat.rec (motive:=fun _=>List eB) l (fun m _=>x::ih m) n) es
def oj (xs ys:List J):Bool:=
 List.rec (motive:=fun _=>List J->Bool) (fun ys=>List.rec (motive:=fun _=>Bool) true (fun _ _ _=>false) ys)
  (fun x _ ih ys=>List.rec (motive:=fun _=>Bool) false (fun y r _=>match ry x y with | some true=>ih r | _=>false) ys) xs ys
def sameKey (x y:J):Bool:=
 match x,y with
 | .agg xs,.agg ys=>oj xs ys
 | x,y=>match ry x y with | some b=>b | none=>false
def jY (P:Program) (V:N) (t:TypeId) (m k v:J):Option N:=
 match P.underlying t,m with
 | some (.map kt _),.map b=>match V.m.get b with
  | some (.map es clock)=>bif plainKey P kt && jl P kt k then
    match l6 P kt k es 0 with
    | some (some (i,_))=>match nth es i with
     | some e=>bif sameKey e.key k then some (V.setObj b (.map (AO {key:=k,val:=v,born:=e.born} es i) clock)) else none
     | none=>none
    | some none=>some (V.setObj b (.map (gg es [{key:=k,val:=v,born:=clock}]) (clock+1)))
    | none=>none
   else none
  | _=>none
 | _,_=>none
def pO (P:Program) (V:N) (ts:Array TypeId) (m k:J):Option N:=
 match ts[0]? with
 | some t=>match P.underlying t,m with
  | some (.map kt _),.map b=>match V.m.get b with
   | some (.map es clock)=>bif plainKey P kt && jl P kt k then
     match l6 P kt k es 0 with
     | some (some (i,_))=>some (V.setObj b (.map (vP es i) clock))
     | some none=>some (V.setObj b (.map es clock))
     | none=>none
    else none
   | _=>none
  | _,_=>none
 | none=>none
def qv (P:Program) (f:Nat):Bool:=
 match P.funcs[f]? with
 | some fn=>fn.body.isSome && !(fn.name == "runtime.NumGoroutine")
 | none=>false
def mK:nL->Bool
 | .upto _=>false
 | _=>true
def sv (p q:Pos):Bool:=Nat.beq p q
def pZ (V:N) (args:List J):Option J:=
 match args with
 | [.slice b off n cap,.slice b' off' n' cap']=>
  match V.m.get b,V.m.get b' with
  | some (.row _ _ false),some (.row cells' _ false)=>bif (bif sv b b' then false else true) && (mK cap && (mK cap' && Nat.ble 1 (di cells'))) then some (.bool false) else none
  | _,_=>none
 | _=>none
def isNe (P:Program) (g:Nat):Bool:=
 match P.funcs[g]? with
 | some fn=>fn.name == "internal/abi.NoEscape"
 | none=>false
def vJ (P:Program) (ov:Nat->Bool) (V:N) (f:J) (args:List J):HR:=
 match f with
 | .func g fi ca=>bif qv P g then .enter g (gg fi<|gg args ca) V else bif ov g then(bif isNe P g then(match gg fi (gg args ca) with | [v]=>.val v V | _=>.err 53) else(match pZ V (gg fi<|gg args ca) with | some v=>.val v V | none=>.err 52)) else .err 50
 | .yield l=>.round l args V
 | _=>.err 51
def QK (len:Nat) (c:nL):Bool:=
 match c with
 | .known c=>Nat.ble 1 c
 | .upto _=>Nat.ble 1 len
 | .least a _=>Nat.ble 1 a
def yB (x:J):Option J:=
 match x with
 | .au=>some .nilPtr
 | .slice b off len c=>bif QK len c then some (.ptr b off) else none
 | _=>none
def xH (P:Program) (V:N) (t:Option TypeId) (p n:J):Option (List Nat×N):=
 match n with
 | .int .i64 (.ofNat n)=>bif Nat.beq n 0 then(match t,p with
   | some _,.nilPtr=>some ([],V)
   | some _,.ptr _ _=>some ([],V)
   | _,_=>none) else
  match t,p with
  | some t,.ptr b off=>match P.underlying t,V.m.get b with
   | some (.pointer u),some (.row cells e false)=>bif Nat.beq e u && (Nat.beq (P.cellsOf u) 1 && (Nat.ble (off+n) (di cells) && Nat.ble n 1152921504606846976)) then
     match cM rU (takeN (dK cells off) n) with
     | some s=>some (s,V.setObj b (.row cells e true))
     | none=>none
    else none
   | _,_=>none
  | _,_=>none
 | _=>none
def mq (P:Program) (V:N) (src dst:TypeId) (x:J):HR:=
 match P.underlying src,P.underlying dst,x with
 | some .string,some (.slice e),.str s=>match P.underlying e with
  | some (.int .u8)=>bif Nat.beq (P.cellsOf e) 1 then .val (.slice V.next 0 (di s) (.upto 1)) (V.alloc (.row (x8 (fun c=>.int .u8 (Int.ofNat c)) s) e true)) else .err 26
  | _=>.err 25
 | _,_,_=>.err 24
def fw (P:Program) (ov:Nat->Bool) (ev:Operand->Option J) (V:N):Op->HR
 | .store t x y=>match ev x,ev y with
  | some a,some v=>match tQ P V t a v with
   | some V'=>.skip V'
   | none=>.err 10
  | _,_=>.err 11
 | .mapUpdate t m k x=>match ev m,ev k,ev x with
  | some a,some b,some v=>match jY P V t a b v with
   | some V'=>.skip V'
   | none=>.err 19
  | _,_,_=>.err 20
 | .insert t m k x=>match ev m,ev k,ev x with
  | some a,some b,some v=>match jY P V t a b v with
   | some V'=>.skip V'
   | none=>.err 19
  | _,_,_=>.err 20
 | .call c=>match c.callee with
  | .value f=>match ev f,tb ev c.args.toList with
   | some g,some args=>vJ P ov V g args
   | _,_=>.err 12
  | .builtin .append=>match tb ev c.args.toList with
   | some [s,x]=>bif dt P c.argTypes[1]? then eR P V c.argTypes s x else pK P V c.argTypes s x
   | _=>.err 13
  | .builtin .delete=>match tb ev c.args.toList with
   | some [m,k]=>match pO P V c.argTypes m k with
    | some V'=>.val (.tuple []) V'
    | none=>.err 17
   | _=>.err 18
  | .builtin .copy=>match tb ev c.args.toList with
   | some [s,x]=>yy P V c.argTypes s x
   | _=>.err 14
  | .builtin .clear=>match tb ev c.args.toList with
   | some [x]=>match sY P V c.argTypes x with
    | some V'=>.val (.tuple []) V'
    | none=>.err 21
   | _=>.err 22
  | .builtin .unsafeSliceData=>match tb ev c.args.toList with
   | some [x]=>match yB x with
    | some v=>.val v V
    | none=>.err 27
   | _=>.err 28
  | .builtin .unsafeString=>match tb ev c.args.toList with
   | some [p,n]=>match xH P V c.argTypes[0]? p n with
    | some (s,V')=>.val (.str s) V'
    | none=>.err 29
   | _=>.err 30
  | _=>.err 15
 | .convert src dst x=>match ev x with
  | some v=>mq P V src dst v
  | none=>.err 23
 | .panic x=>match ev x with
  | some (.iface t v)=>.jE (.iface t v) V
  | _=>.err 32
 | _=>.err 16
section
variable {P:Program} {O:Ren} {V:N} {w:World}
theorem N.mE (V:N) (b:Pos) (o o':cu):(V.setObj b o).setObj b o'=V.setObj b o':=by
 simp[N.setObj,PT.MZ]
theorem N.lB (V:N) (b:Pos) (o:cu):(V.setObj b o).m.get b=some o:=PT.de _ _ _
theorem na {b:Pos} {l:Loc} {e:Nat} (hl:O b=some l):∀(vs:List J) (xs:List Value) (cells:List J) (off i:Nat) (V:N) (w:World),Inv O V w->V.m.get b=some (.row cells e false)->cT O vs xs->bO vs=true->
  off+i+vs.length<=cells.length->∀σ₀:N,V=σ₀.setObj b (.row cells e false)->
  ∃w',(storeCells ⟨l.da,l.sh+off,none⟩ xs i).run P w= .ok () w'/\Inv O (σ₀.setObj b (.row (gk cells (off+i) vs) e false)) w'/\eF O V w O (σ₀.setObj b (.row (gk cells (off+i) vs) e false)) w'
 | [],xs,cells,off,i,V,w,hi,hb,hv,_,_,σ₀,hσ=>by
  rw[hv.dY];subst hσ;exact⟨w,by simp[storeCells],hi,eF.refl _ _ _⟩
 | v::vs,xs,cells,off,i,V,w,hi,hb,hv,d,hlen,σ₀,hσ=>by
  obtain⟨x,r,rfl,h1,K⟩:=hv.cons_inv;have ac:fJ v=true:=k9 d v (by simp)
  have C:bO vs=true:=by
   grind [bO]
  simp only[List.length_cons] at hlen;obtain⟨E,st⟩:=hi.setCell hb hl (i:=off+i) oM h1;have u:(V.setObj b (.row (cells.set (off+i) v) e false)).m.get b=some (.row (cells.set (off+i) v) e false):=N.lB _ _ _;obtain⟨w',r',inv',st'⟩:=na hl vs r (cells.set (off+i) v) off (i+1) _ _ E u K C (by simp;omega) σ₀ (by rw[hσ,N.mE]);obtain⟨c,fr,A,ad,ai,F,G⟩:=hi.row hb hl;refine⟨w',?_,?_,?_⟩
  ·have I:off+i<cells.length:=by omega
   obtain⟨y,hy,_⟩:=F (off+i) cells[off+i] (gC I);have aa:w.cell? ⟨l.da,l.sh+off+i,none⟩=some y:=by rw[cell?_of_heap A,Nat.add_assoc];exact hy
   have al:w.frozen? ⟨l.da,l.sh+off+i,none⟩=false:=frozen?_of_heap A _ (G Z _ oM);have ab:(⟨l.da,l.sh+off,none⟩:Addr).add i=⟨l.da,l.sh+off+i,none⟩:=Addr.add_eq _ i Z
   grind [run_store,kP,storeCells,sB_,rA]
  ·simpa [gk,Nat.add_assoc] using inv'
  have:=st.trans st';simpa [gk,Nat.add_assoc] using this
theorem gN (hi:Inv O V w) {b:Pos} {l:Loc} {e:Nat} {cells vs:List J} {xs:List Value} {off:Nat} (hl:O b=some l) (hb:V.m.get b=some (.row cells e false)) (hv:cT O vs xs) (d:bO vs=true)
  (hlen:off+vs.length<=cells.length):
  ∃w',(storeCells ⟨l.da,l.sh+off,none⟩ xs).run P w= .ok () w'/\Inv O (V.setObj b (.row (dB vs cells off) e false)) w'/\eF O V w O (V.setObj b (.row (dB vs cells off) e false)) w':=by
 have u:Inv O (V.setObj b (.row cells e false)) w/\eF O V w O (V.setObj b (.row cells e false)) w:=by
  obtain⟨c,fr,h1,A,C,h4,h5⟩:=hi.row hb hl;exact hi.change hb hl Z Z h1 ⟨c,fr,Z,A,C,h4,h5⟩ (fun _ _=>Z) Z Z Z ⟨Z,nR_ _⟩
 obtain⟨w',r,inv,st⟩:=na (P:=P) hl vs xs cells off 0 _ w u.1 (N.lB _ _ _) hv d oM V Z;rw[Nat.add_zero,<-jX vs cells off hlen] at inv st;exact⟨w',r,inv,u.2.trans st⟩
theorem C8 (hi:Inv O V w) {t:TypeId} {x v:J} {y z:Value} {V':N} (h:tQ P V t x v=some V') (hx:VR O x y) (hv:VR O v z):
  ∃w',(Instr.storeAt t y z).run P w= .ok () w'/\Inv O V' w'/\eF O V w O V' w':=by
 unfold tQ at h;split at h
 ·rename_i u1 u2 b off cs d;split at h
  ·rename_i I K cells e j hb hj;simp only[bu] at h;split at h
   ·rename_i hc;cases h;simp only[bA_,Nat.beq_eq,nE_,bT] at hc;obtain⟨⟨C,E⟩,u⟩:=hc;simp only[VR] at hx;obtain⟨l,hl,rfl⟩:=hx;obtain⟨w',r,inv,st⟩:=gN (P:=P) hi hl hb (gI d hv) u (off:=off) oM;refine⟨w',?_,inv,st⟩;have hsz:=lX d hv;simp only[Instr.storeAt,Instr.sureAddr,storeVar,sB_,sP_,rA,bU hj]
    simp_all
   cases h
  ·rename_i I K cells e j hb hj;simp only[bu] at h;split at h
   ·rename_i hc;cases h;simp only[bA_,Nat.beq_eq,nE_,bT] at hc;obtain⟨⟨C,E⟩,u⟩:=hc;simp only[VR] at hx;obtain⟨l,hl,rfl⟩:=hx;obtain⟨h0,F,G⟩:=hi.own hb hl;obtain⟨w',r,inv,st⟩:=gN (P:=P) F hl (N.lB _ _ _) (gI d hv) u (off:=off) oM;rw[N.mE] at inv st;have hlen:(dB cs cells off).length=cells.length:=by rw[jX _ _ _ oM,qQ]
    obtain⟨m,A⟩:=inv.KE (N.lB _ _ _) hl Z (fun x hx=>fR.GA ⟨h0.1,by rw[hlen];exact h0.2⟩ hx);rw[N.mE] at m A;refine⟨w',?_,m,(G.trans st).trans A⟩;have hsz:=lX d hv;simp only[Instr.storeAt,Instr.sureAddr,storeVar,sB_,sP_,rA,bU hj]
    simp_all
   cases h
  cases h
 cases h
theorem nJ (hi:Inv O V w) {sz n:Nat} {x:J} {y:Value} {cs:List J} (h:jt V sz x=some (n,cs)) (hx:VR O x y):
  (Builtin.lenOf y).run P w= .ok n w/\cs.length=n*sz/\
   ∀k,k<=n->∃xs:List Value,cT O (cs.take (k*sz)) xs/\∀w',w'.heap=w.heap->(Builtin.firstCells sz k y).run P w'= .ok xs.toArray w':=by
 unfold jt at h;split at h
 ·cases h;simp only[VR] at hx;subst hx;refine⟨by simp[Builtin.lenOf],by simp,fun k hk=>⟨[],by simpa using cT.nil,fun w' _=>by simp[Builtin.firstCells]⟩⟩
 ·rename_i b off len cap;split at h
  ·rename_i cells e ro hb;simp only[bu] at h;split at h
   ·rename_i hle;cases h;rw[nE_,bT] at hle
    have full:∀(a:Addr) (c:Nat) (l:Loc),O b=some l->y= .slice (some a) n c->(a=⟨l.da,l.sh+off,none⟩∨n=0)->
      (Builtin.lenOf y).run P w= .ok n w/\(takeN (dK cells off) (n*sz)).length=n*sz/\
       ∀k,k<=n->∃xs:List Value,cT O ((takeN (dK cells off) (n*sz)).take (k*sz)) xs/\∀w',w'.heap=w.heap->(Builtin.firstCells sz k y).run P w'= .ok xs.toArray w':=by
     intro a c l hl hy C;subst hy;refine⟨by simp[Builtin.lenOf],by rw[dp,dF,lT_,lD_];omega,fun k hk=>?_⟩;have u:k*sz<=n*sz:=nM_ _ hk;rw[dp,dF,List.take_take,Nat.min_eq_left u];rcases C with rfl | rfl
     ·obtain⟨ys,h1,h2,h3⟩:=hi.piece hb hl off (k*sz) oM
      grind [run_firstCells_some,World.cell?]
     have A:k=0:=by omega
     subst A;refine⟨[],by simpa using cT.nil,fun w' aa=>?_⟩
     grind [run_firstCells_some]
    cases cap with
    | known c=>
     simp only[VR] at hx
     grind
    | least a s=>
     simp only[VR] at hx
     grind
    | upto s=>
     simp only[VR] at hx
     grind
   cases h
  cases h
 ·rename_i s;simp only[bu] at h;split at h
  ·rename_i d;rw[Nat.beq_eq] at d;subst d;cases h;simp only[VR] at hx;obtain⟨bs,rfl,m⟩:=hx;rw[iV m,kQ];unfold ga at m;refine⟨by simp[Builtin.lenOf],by rw[<-m];simp,fun k hk=>?_⟩;refine⟨(bs.data.toList.take k).map fun b=>Value.int .u8 b.toNat,?_,fun w' _=>?_⟩
   ·rw[<-m,List.map_map,<-List.map_take,Nat.mul_one];generalize (bs.data.toList.take k)=l;induction l with
    | nil=>exact cT.nil
    | cons c l ih=>exact cT.cons (by simp only[VR];rfl) ih
   simp only[Builtin.firstCells,sP_];congr 1;apply Array.toList_inj.1
   simp_all
  cases h
 cases h
end
section
variable {P:Program} {O:Ren} {V:N} {w:World}
theorem HI {α:Type} (l:List α) (k:Nat) (v:α) (vs:List α) (hk:k<l.length):
  (l.set k v).take (k+1)++vs++(l.set k v).drop (k+1+vs.length)=l.take k++(v::vs)++l.drop (k+(vs.length+1)):=by
 grind [List.drop_set_of_lt,List.take_succ_eq_append_getElem,List.take_set_of_le]
theorem lP {g o e:Nat} {fr:Nat×Nat}:∀(vs:List Value) (cur:Array Value) (i:Nat) (w:World),w.heap[g]? =some (.cells cur e fr)->o+i+vs.length<=cur.size->(∀v∈vs,v.oneCell'=true)->
  (∀j,o<=j->¬(fr.1<=j/\j<fr.2))->
  ∃w',(storeCells ⟨g,o,none⟩ vs i).run P w= .ok () w'/\w'.heap[g]? =some (.cells (cur.toList.take (o+i)++vs++cur.toList.drop (o+i+vs.length)).toArray e fr)/\
   (∀r,r≠g->w'.heap[r]? =w.heap[r]?)/\w'.heap.size=w.heap.size/\w'.tape=w.tape/\w'.os=w.os/\(w'.output=w.output/\w.drawn<=w'.drawn)
 | [],cur,i,w,d,_,_,_=>by
  refine⟨w,by simp[storeCells],?_,fun _ _=>Z,Z,Z,Z,Z,nR_ _⟩;simpa using d
 | v::vs,cur,i,w,d,hl,h1,hf=>by
  simp only[List.length_cons] at hl;have m:o+i<cur.size:=by omega
  have aa:(⟨g,o,none⟩:Addr).add i=⟨g,o+i,none⟩:=Addr.add_eq _ i Z;have b:w.cell? ⟨g,o+i,none⟩=some cur[o+i]:=by rw[cell?_of_heap d];simp[m]
  have A:w.frozen? ⟨g,o+i,none⟩=false:=frozen?_of_heap d _ (hf _ oM)
  have aq:(store ⟨g,o+i,none⟩ v).run P w= .ok () (w.setCell ⟨g,o+i,none⟩ v):=by
   rw[run_store P w _ v _<|h1 v (by simp),b];simp[A]
  obtain⟨w',r,q1,q2,q3,q4,q5,E⟩:=lP vs (cur.setIfInBounds (o+i) v) (i+1) _ (heap_setCell_same d (o+i) v) (by simp;omega) (fun u hu=>h1 u (by simp[hu])) hf;refine⟨w',?_,?_,fun r C=>(q2 r C).trans (heap_setCell_other w _ v C),by rw[q3];simp,q4,q5,E⟩
  ·grind [storeCells,sB_,rA]
  grind [HI]
theorem run_append_fits {ts:Array TypeId} {t ty e:TypeId} {j:TypeInfo} (A:ts[0]? =some t) (hu:P.underlying t=some (.slice e)) (hj:P.info? e=some j) (hz:dt P ts[1]? =true)
  {base:Option Addr} {sLen sCap n:Nat} {y:Value} {news:List Value} (hlen:(Builtin.lenOf y).run P w= .ok n w) (b:(Builtin.firstCells j.size n y).run P w= .ok news.toArray w) (d:sLen+n<=sCap):
  (Builtin.append_ ts ty #[.slice base sLen sCap,y]).run P w=
   (Sem.run P (match base with | some a=>storeCells (a.add (sLen*j.size)) news | none=>pure ():Sem Unit) w).andThen fun _ w'=>.ok (.slice base (sLen+n) sCap) w':=by
 unfold dt at hz;cases h1:ts[1]? with
 | none=>
  cases base<;>simp[Builtin.append_,A,h1,run_underlying hu,bU hj,hlen,d,b]
 | some u=>
  rw[h1] at hz;dsimp only at hz;split at hz
  ·rename_i e' m;cases base<;>simp[Builtin.append_,A,h1,run_underlying hu,run_underlying m,bU hj,hlen,d,b]
  ·rename_i m;cases base<;>simp[Builtin.append_,A,h1,run_underlying hu,run_underlying m,bU hj,hlen,d,b]
  cases hz
theorem mC {ts:Array TypeId} {t ty e:TypeId} {j:TypeInfo} (m:ts[0]? =some t) (hu:P.underlying t=some (.slice e)) (hj:P.info? e=some j) (hz:dt P ts[1]? =true)
  {da o:Nat} {sLen sCap n:Nat} {y:Value} {news:List Value} (hlen:(Builtin.lenOf y).run P w= .ok n w) (b:(Builtin.firstCells j.size n y).run P w= .ok news.toArray w) (d:sLen+n<=sCap):
  (Builtin.append_ ts ty #[.slice (some ⟨da,o,none⟩) sLen sCap,y]).run P w=
   (Sem.run P (storeCells ⟨da,o+sLen*j.size,none⟩ news) w).andThen fun _ w'=>.ok (.slice (some ⟨da,o,none⟩) (sLen+n) sCap) w':=by
 rw[run_append_fits m hu hj hz hlen b d];show(Sem.run P (storeCells ((⟨da,o,none⟩:Addr).add (sLen*j.size)) news) w).andThen _=_;rw[Addr.add_eq _ _ Z]
theorem kD {ts:Array TypeId} {t ty e:TypeId} {j:TypeInfo} {z:Value} (F:ts[0]? =some t) (hu:P.underlying t=some (.slice e)) (hj:P.info? e=some j) (hzero:j.zero=some z) (hz:dt P ts[1]? =true)
  {base:Option Addr} {sLen sCap n:Nat} {y:Value} {olds news:List Value} (hlen:(Builtin.lenOf y).run P w= .ok n w) (b:(Builtin.firstCells j.size n y).run P w.drew= .ok news.toArray w.drew)
  (hold:(Builtin.firstCells j.size sLen (.slice base sLen sCap)).run P w.drew= .ok olds.toArray w.drew) (A:sCap<sLen+n) (G:sLen+n<=4194304) (I:j.bytes<=65536) (aa:1<=j.size):
  ∃cap,sLen+n<=cap/\(Builtin.append_ ts ty #[.slice base sLen sCap,y]).run P w=
   .ok (.slice (some ⟨w.heap.size,0,none⟩) (sLen+n) cap) (w.drew.alloc (.cells (olds.toArray++news.toArray++Builtin.zeroCells z.cells (cap-(sLen+n))) e)):=by
 refine⟨grownCap w (sLen+n) sCap e,grownCap_ge _ _ _ _,?_⟩
 have ab:Builtin.nextslicecap (sLen+n) sCap*j.bytes<=281474976710656:=growslice_fits A (by
  have:(sLen+n)*j.bytes<=4194304*65536:=Nat.mul_le_mul G I;omega)
 have K:¬(sLen+n<=sCap):=by omega
 have d:IntKind.i64.max=9223372036854775807:=by decide
 have h1:¬(9223372036854775807<((sLen:Int)+(n:Int))):=by omega
 have C:¬(281474976710656<Builtin.nextslicecap (sLen+n) sCap*j.bytes):=by omega
 rw[Array.append_assoc];unfold dt at hz;cases m:ts[1]? with
 | none=>
  simp[Builtin.append_,F,m,run_underlying hu,bU hj,typeInfo,hj,hlen,K,d,h1,C,hold,b,zeroValue,hzero,newRow,Question.forced,grownCap]
 | some u=>
  rw[m] at hz;dsimp only at hz;split at hz
  ·rename_i e' E;simp[Builtin.append_,F,m,run_underlying hu,run_underlying E,bU hj,typeInfo,hj,hlen,K,d,h1,C,hold,b,zeroValue,hzero,newRow,Question.forced,grownCap]
  ·rename_i E;simp[Builtin.append_,F,m,run_underlying hu,run_underlying E,bU hj,typeInfo,hj,hlen,K,d,h1,C,hold,b,zeroValue,hzero,newRow,Question.forced,grownCap]
  cases hz
theorem lC (hi:Inv O V w) {cs:List J} {olds news:List Value} {e sz len cap:Nat} {z:Value} (hc:cT O cs (olds++news)) (hlen:cs.length=len*sz) (b:len<=cap) (hz:z.cells.size=sz):
  Inv (O.with V.next ⟨w.heap.size,0,cap*sz⟩) (V.alloc (.row cs e false)) (w.drew.alloc (.cells (olds.toArray++news.toArray++Builtin.zeroCells z.cells (cap-len)) e))/\
  eF O V w (O.with V.next ⟨w.heap.size,0,cap*sz⟩) (V.alloc (.row cs e false)) (w.drew.alloc (.cells (olds.toArray++news.toArray++Builtin.zeroCells z.cells (cap-len)) e))/\
  VR (O.with V.next ⟨w.heap.size,0,cap*sz⟩) (.slice V.next 0 len (.upto sz)) (.slice (some ⟨w.heap.size,0,none⟩) len cap):=by
 have hlen2:=hc.length;rw[hlen] at hlen2;have hle:len*sz<=cap*sz:=nM_ _ b
 have d:fR O ⟨w.heap.size,0,cap*sz⟩ (.row cs e false) (.cells (olds.toArray++news.toArray++Builtin.zeroCells z.cells (cap-len)) e):=by
  refine⟨_,_,Z,?_,by rw[hlen];exact hle,fun i v hv=>?_,fun _ j _ hj=>by simp at hj⟩
  ·have h1:olds.length+news.length=len*sz:=by simpa using hlen2
   simp only[Array.size_append,List.size_toArray,size_zeroCells,hz,Nat.sub_mul,nA_];omega
  obtain⟨y,h1,h2⟩:=hc.get hv
  grind
 obtain⟨inv,st⟩:=(hi.drew).alloc (l:=⟨w.heap.size,0,cap*sz⟩) Z d;refine⟨inv,(eF.drew O V w).trans st,?_⟩;simp only[VR];exact⟨_,Ren.cy _ _ _,.inl ⟨cap,Z,b,by simp⟩⟩
theorem zN (hi:Inv O V w) {ts:Array TypeId} {ty:TypeId} {s x v:J} {ys yx:Value} {V':N} (h:eR P V ts s x= .val v V') (T:VR O s ys) (hx:VR O x yx):
  ∃z w' ρ',(Builtin.append_ ts ty #[ys,yx]).run P w= .ok z w'/\VR ρ' v z/\Inv ρ' V' w'/\eF O V w ρ' V' w':=by
 unfold eR at h;cases Q:ts[0]? with
 | none=>rw[Q] at h;cases h
 | some t=>
 rw[Q] at h;dsimp only at h;split at h
 case h_2=>cases h
 rename_i e hu;cases hj:P.info? e with
 | none=>rw[hj] at h;cases h
 | some j=>
 rw[hj] at h;simp only[bu] at h;split at h
 case isFalse=>cases h
 rename_i hb;simp only[bA_,nE_] at hb;obtain⟨⟨hz,U⟩,ad⟩:=hb;cases ac:jt V j.size x with
 | none=>simp_all
 | some p=>
 obtain⟨n,news⟩:=p;rw[ac] at h;dsimp only at h;split at h
 case isFalse=>cases h
 rename_i ap;simp only[bA_,nE_] at ap;obtain⟨⟨I,bw⟩,hzero⟩:=ap
 obtain⟨zv,ai,C⟩:∃zv,j.zero=some zv/\zv.cells.size=j.size:=by
  simp only[Option.any_some,Option.any_eq_true] at hzero;obtain⟨z,av,cs,a3,ax⟩:=hzero;cases a4:j.zero with
  | none=>simp_all
  | some zv=>
   rw[a4] at av;refine⟨zv,Z,?_⟩;rw[Nat.beq_eq,bT] at ax;rw[<-ax];exact lX a3<|oV (O:=O) av
 obtain⟨m,K,W⟩:=nJ (P:=P) hi ac hx;obtain⟨xs,G,R⟩:=W n (nR_ _);rw[<-K,List.take_length] at G;have al:xs.length=n*j.size:=by rw[G.length,K]
 have hrun0:=R w Z;have hrund:=R w.drew Z;split at h
 ·
  simp only[VR] at T;subst T;split at h
  ·rename_i E;rw[Nat.beq_eq] at E;cases h;subst E;refine⟨.slice none 0 0,w,O,?_,by simp only[VR],hi,eF.refl _ _ _⟩;have:=run_append_fits (w:=w) (ty:=ty) (base:=none) (sLen:=0) (sCap:=0) Q hu hj hz m hrun0 (nR_ _);rw[this];rfl
  rename_i E;cases h
  have hn:0<n:=by
   grind [Nat.beq_eq]
  obtain⟨cap,F,hr⟩:=kD (w:=w) (ty:=ty) (base:=none) (sLen:=0) (sCap:=0) (olds:=[]) Q hu hj ai hz m hrund (by simp[Builtin.firstCells]) oM oM ad U;rw[nA_] at F hr;obtain⟨inv,st,hv⟩:=lC (e:=e) hi (olds:=[]) (news:=xs) (by simpa using G) K F C
  grind
 ·
  rename_i b off len c;simp only[VR] at T;obtain⟨l,hl,rfl⟩:=T;split at h
  ·rename_i A;rw[nE_] at A;have hr:=mC (w:=w) (ty:=ty) (da:=l.da) (o:=l.sh+off) Q hu hj hz m hrun0 A;split at h
   ·rename_i cells e' hb;split at h
    ·rename_i d;rw[nE_,bT,bT] at d;cases h;obtain⟨w',r,inv,st⟩:=gN (P:=P) hi hl hb G I (off:=off+len*j.size) oM;refine⟨.slice (some ⟨l.da,l.sh+off,none⟩) (len+n) c,w',O,?_,?_,inv,st⟩
     ·rw[hr,Nat.add_assoc,r];rfl
     simp only[VR];simp_all
    cases h
   split at h
   ·rename_i E;rw[Nat.beq_eq] at E;cases h;subst E;refine⟨.slice (some ⟨l.da,l.sh+off,none⟩) len c,w,O,?_,?_,hi,eF.refl _ _ _⟩
    ·have am:xs= []:=eN_ oM;rw[hr,am];simp[storeCells]
    simp only[VR];simp_all
   cases h
  rename_i A;rw[nE_] at A;split at h
  ·rename_i cells e' ro hb;split at h
   ·rename_i d;simp only[bA_,nE_,bT] at d;obtain⟨d,X⟩:=d;unfold grow at h;cases h;obtain⟨ys,h1,h2,h3⟩:=hi.piece hb hl off (len*j.size) d
    have hold:(Builtin.firstCells j.size len (.slice (some ⟨l.da,l.sh+off,none⟩) len c)).run P w.drew= .ok ys.toArray w.drew:=
     run_firstCells_some w.drew j.size len _ len c ys h1 (fun i v hv=>by simpa using h3 i v hv)
    obtain⟨cap,F,hr⟩:=kD (w:=w) (ty:=ty) Q hu hj ai hz m hrund hold oM oM ad U
    obtain⟨inv,st,hv⟩:=lC (e:=e) hi (olds:=ys) (news:=xs) (len:=len+n) (cs:=gg (takeN (dK cells off) (len*j.size)) news)
     (by rw[dH,dp,dF];exact h2.append G) (by grind [dH,dp,dF]) F C
    grind
   cases h
  cases h
 ·
  rename_i b off len sz;split at h
  ·rename_i E;rw[Nat.beq_eq] at E;cases h;subst E;have am:xs= []:=eN_ oM;subst am;have hs':=T;simp only[VR] at hs';obtain⟨l,hl,⟨c,hy,hc,_⟩ | ⟨h0,a,hy⟩⟩:=hs'
   ·refine⟨ys,w,O,?_,T,hi,eF.refl _ _ _⟩;rw[hy,run_append_fits (w:=w) (ty:=ty) Q hu hj hz m hrun0 oM];simp[storeCells]
   refine⟨ys,w,O,?_,T,hi,eF.refl _ _ _⟩;subst h0;rw[hy,run_append_fits (w:=w) (ty:=ty) Q hu hj hz m hrun0 oM];simp[storeCells]
  rename_i E
  have hn:0<n:=by
   grind [Nat.beq_eq]
  split at h
  ·rename_i M;simp only[bA_,Nat.beq_eq,nE_] at M;obtain⟨M,X⟩:=M;subst M;simp only[VR] at T;split at h
   ·rename_i cells e' hb;split at h
    ·
     rename_i d;simp only[bA_,nE_,bT] at d;obtain⟨b0,d⟩:=d;cases h;obtain⟨l,hl,⟨c,rfl,hc,aa⟩ | ⟨h0,_⟩⟩:=T
     ·obtain⟨cc,fr,_,_,a5,_⟩:=hi.row hb hl
      have A:len+n<=c:=by
       have:(len+n)*j.size<=c*j.size:=by grind
       exact Nat.le_of_mul_le_mul_right this U
      have hr:=mC (w:=w) (ty:=ty) (da:=l.da) (o:=l.sh+off) Q hu hj hz m hrun0 A;obtain⟨w',r,inv,st⟩:=gN (P:=P) hi hl hb G I (off:=off+len*j.size) oM;refine⟨.slice (some ⟨l.da,l.sh+off,none⟩) (len+n) c,w',O,?_,?_,inv,st⟩
      ·rw[hr,Nat.add_assoc,r];rfl
      simp only[VR];simp_all
     omega
    split at h
    ·
     rename_i d;simp only[bA_,nE_,Nat.beq_eq,bT] at d;obtain⟨d,he⟩:=d;subst he;unfold grow at h;cases h;obtain⟨l,hl,an⟩:=T;obtain⟨olds,h1,h2,h3⟩:=hi.piece hb hl off (len*j.size) d;have aE:cT O (gg (takeN (dK cells off) (len*j.size)) news) (olds++xs):=by rw[dH,dp,dF];exact h2.append G
     have a9:(gg (takeN (dK cells off) (len*j.size)) news).length=(len+n)*j.size:=by
      grind [dH,dp,dF]
     have anew:∀(a:Addr) (c:Nat),ys= .slice (some a) len c->c<len+n->(a=⟨l.da,l.sh+off,none⟩∨len=0)->
       ∃z w' ρ',(Builtin.append_ ts ty #[ys,yx]).run P w= .ok z w'/\VR ρ' (.slice (V.drop b).next 0 (len+n) (.upto j.size)) z/\
        Inv ρ' ((V.drop b).alloc (.row (gg (takeN (dK cells off) (len*j.size)) news) e' false)) w'/\eF O V w ρ' ((V.drop b).alloc (.row (gg (takeN (dK cells off) (len*j.size)) news) e' false)) w':=by
      intro a c hy b1 ha;subst hy
      have hold:(Builtin.firstCells j.size len (.slice (some a) len c)).run P w.drew= .ok olds.toArray w.drew:=by
       rcases ha with rfl | rfl
       ·exact run_firstCells_some w.drew j.size len _ len c olds h1 (fun i v hv=>by simpa using h3 i v hv)
       have:olds= []:=eN_ (by rw[h1,Nat.zero_mul])
       grind [run_firstCells_some]
      obtain⟨cap,F,hr⟩:=kD (w:=w) (ty:=ty) Q hu hj ai hz m hrund hold oM oM ad U;obtain⟨bb,st'⟩:=hi.forget b;obtain⟨inv,st,hv⟩:=lC (e:=e') bb (olds:=olds) (news:=xs) (len:=len+n) aE a9 F C;exact⟨_,_,_,hr,hv,inv,st'.trans st⟩
     rcases an with ⟨c,hy,hc,aa⟩ | ⟨h0,a,hy⟩
     ·by_cases A:len+n<=c
      ·
       subst hy;have hr:=mC (w:=w) (ty:=ty) (da:=l.da) (o:=l.sh+off) Q hu hj hz m hrun0 A;obtain⟨cc,fr,a0,bd,a5,b2,a1⟩:=hi.row hb hl;have hmul:(len+n)*j.size<=c*j.size:=nM_ _ A;have be:(len+n)*j.size=len*j.size+n*j.size:=Nat.add_mul _ _ _
       have aq:=lP (P:=P) (o:=l.sh+off+len*j.size) xs cc 0 w a0 oM (fun u hu=>by
        obtain⟨i,bf,bi⟩:=List.getElem_of_mem hu;have ab:i<news.length:=by omega
        obtain⟨y,L,ao⟩:=G.get (gC ab);rw[gC bf,bi] at L;cases L;exact kP (k9 I _<|List.getElem_mem ab) ao) (fun jj bk=>a1 Z jj oM)
       obtain⟨w',r,bl,bm,bo,br,bs,bt⟩:=aq
       have inv:=hi.xl (l':=⟨l.da,l.sh+off,l.cells-off⟩) (cells':=gg (takeN (dK cells off) (len*j.size)) news) hb hl Z bl
        ⟨_,fr,Z,by simp[bd];omega,by grind,fun i v hv=>by
         obtain⟨y,L,ao⟩:=aE.get hv;refine⟨y,?_,ao⟩;rw[List.getElem?_toArray];dsimp only;have a2:cc.toList.length=l.sh+l.cells:=by omega
         have ab:i<(olds++xs).length:=(gA.1 L).1;rw[lA_,h1,al] at ab
         by_cases bv:i<len*j.size
         ·rw[gL_ (by rw[h1];exact bv)] at L;have:=h3 i y L;rw[Addr.add_eq _ _ Z,cell?_of_heap a0] at this;rw[lQ_,gL_ (by grind),List.getElem?_take,if_pos oM,aT_];exact this
         rw[gR_ (by rw[h1];omega),h1] at L;rw[lQ_,gR_ (by grind),lT_,a2]
         grind,fun _ jj bk=>a1 Z jj (by grind)⟩
        bm bo br bs bt
       refine⟨.slice (some ⟨l.da,l.sh+off,none⟩) (len+n) c,w',_,?_,?_,inv.1,inv.2⟩
       ·rw[hr,r];rfl
       simp only[VR,N.drop];refine⟨_,Ren.cy _ _ _,.inl ⟨c,by simp,A,?_⟩⟩;simp only;omega
      simp_all
     simp_all
    cases h
   cases h
  cases h
 cases h
theorem mY {ts:Array TypeId} {t Q ty e:TypeId} {k:IntKind} {j:TypeInfo} {z:Value} (R:ts[0]? =some t) (hu:P.underlying t=some (.slice e)) (hj:P.info? e=some j) (hzero:j.zero=some z) (F:ts[1]? =some Q) (hz:P.underlying Q=some (.int k))
  {base:Option Addr} {sLen sCap n:Nat} {olds:List Value}
  (hold:(Builtin.firstCells j.size sLen (.slice base sLen sCap)).run P w.drew= .ok olds.toArray w.drew) (b:sCap<sLen+n) (G:sLen+n<=4194304) (d:n<=1048576) (I:1<=n) (m:j.bytes<=65536) (u:1<=j.size):
  ∃cap,sLen+n<=cap/\(Builtin.append_ ts ty #[.slice base sLen sCap,.int .i64<|Int.ofNat n]).run P w=
   .ok (.slice (some ⟨w.heap.size,0,none⟩) (sLen+n) cap) (w.drew.alloc (.cells (olds.toArray++(Builtin.zeroCells z.cells n).toList.toArray++Builtin.zeroCells z.cells (cap-(sLen+n))) e)):=by
 refine⟨grownCap w (sLen+n) sCap e,grownCap_ge _ _ _ _,?_⟩
 have aa:Builtin.nextslicecap (sLen+n) sCap*j.bytes<=281474976710656:=growslice_fits b (by
  have:(sLen+n)*j.bytes<=4194304*65536:=Nat.mul_le_mul G m;omega)
 have T:¬(sLen+n<=sCap):=by omega
 have A:IntKind.i64.max=9223372036854775807:=by decide
 have h1:¬(9223372036854775807<((sLen:Int)+(n:Int))):=by omega
 have K:¬(281474976710656<Builtin.nextslicecap (sLen+n) sCap*j.bytes):=by omega
 have hw:IntKind.i64.wrap (n:Int)=(n:Int):=uM .i64 (Int.ofNat n) (by simp only[OI,nE_];omega);have C:¬((n:Int)<0):=by omega
 have E:¬(281474976710656<(n:Int)*(j.bytes:Int)):=by
  have:n*j.bytes<=1048576*65536:=Nat.mul_le_mul d m;omega
 have L:¬(n*j.size=0):=by
  have:1*1<=n*j.size:=Nat.mul_le_mul I u;omega
 have M:¬(n=0∨j.size=0):=by omega
 rw[Array.append_assoc];simp[Builtin.append_,R,F,run_underlying hu,run_underlying hz,bU hj,typeInfo,hj,asInt,asIntOf,hw,C,E,T,A,h1,K,hold,L,M,zeroValue,hzero,newRow,Question.forced,grownCap]
theorem xS (hi:Inv O V w) {ts:Array TypeId} {ty:TypeId} {s x v:J} {ys yx:Value} {V':N} (h:pK P V ts s x= .val v V') (R:VR O s ys) (hx:VR O x yx):
  ∃z w' ρ',(Builtin.append_ ts ty #[ys,yx]).run P w= .ok z w'/\VR ρ' v z/\Inv ρ' V' w'/\eF O V w ρ' V' w':=by
 unfold pK at h;split at h
 case h_2=>cases h
 rename_i t t2 W G;split at h
 case h_2=>cases h
 rename_i e k hu hz;split at h
 case h_2=>cases h
 rename_i j zs n hj T;rw[bu] at h;split at h
 case isFalse=>cases h
 rename_i hb;simp only[bA_,nE_,Nat.beq_eq,bT] at hb;obtain⟨A,I,C,K,F⟩:=hb;obtain⟨i,zv,L,hzero,M⟩:=fH T;rw[hj] at L;cases L;have E:zv.cells.size=zs.length:=by have:=(M O).length;simpa using this
 have hts:=ju (M O) n
 have u:(Builtin.zeroCells zv.cells n).toList=(List.replicate n zv.cells.toList).flatten:=by
  grind [vj,Builtin.zeroCells]
 rw[<-u] at hts;have U:(ec zs n).length=n*j.size:=by rw[qS,F]
 simp only[VR] at hx;subst hx;split at h
 ·simp only[VR] at R;subst R;unfold grow at h;cases h;obtain⟨cap,m,X⟩:=mY (w:=w) (ty:=ty) (base:=none) (sLen:=0) (sCap:=0) (olds:=[]) W hu hj hzero G hz (by simp[Builtin.firstCells]) oM oM A I K C;rw[nA_] at m X;obtain⟨inv,st,hv⟩:=lC (e:=e) hi (olds:=[]) (news:=(Builtin.zeroCells zv.cells n).toList) (by simpa using hts) U m (E.trans F)
  grind
 ·rename_i b off len c;simp only[VR] at R;obtain⟨l,hl,rfl⟩:=R;rw[bu] at h;split at h
  ·cases h
  rename_i Q;rw[nE_] at Q;split at h
  ·rename_i cells e' ro hb;rw[bu] at h;split at h
   ·rename_i d;simp only[bA_,nE_,bT] at d;obtain⟨d,aa⟩:=d;unfold grow at h;cases h;obtain⟨ys,h1,h2,h3⟩:=hi.piece hb hl off (len*j.size) d
    have hold:(Builtin.firstCells j.size len (.slice (some ⟨l.da,l.sh+off,none⟩) len c)).run P w.drew= .ok ys.toArray w.drew:=
     run_firstCells_some w.drew j.size len _ len c ys h1 (fun i v hv=>by simpa using h3 i v hv)
    obtain⟨cap,m,X⟩:=mY (w:=w) (ty:=ty) W hu hj hzero G hz hold oM oM A I K C
    obtain⟨inv,st,hv⟩:=lC (e:=e) hi (olds:=ys) (news:=(Builtin.zeroCells zv.cells n).toList) (len:=len+n) (cs:=gg (takeN (dK cells off) (len*j.size))<|ec zs n)
     (by rw[dH,dp,dF];exact h2.append hts) (by grind [dH,dp,dF]) m<|E.trans F
    grind
   cases h
  cases h
 cases h
end
section
variable {P:Program} {O:Ren} {V:N} {w:World}
theorem qY:∀{l:List J},(∀v∈l,fJ v=true)->bO l=true
 | [],_=>rfl
 | x::l,h=>by
  show(bif fJ x then bO l else false)=true;rw[h x (by simp),qY fun v hv=>h v (by simp[hv])];rfl
theorem Ee (hi:Inv O V w) {ts:Array TypeId} {ty:TypeId} {s x v:J} {ys yx:Value} {V':N} (h:yy P V ts s x= .val v V') (K:VR O s ys) (hx:VR O x yx):
  ∃z w' ρ',(Builtin.copy_ ts ty #[ys,yx]).run P w= .ok z w'/\VR ρ' v z/\Inv ρ' V' w'/\eF O V w ρ' V' w':=by
 unfold yy at h;cases I:ts[0]? with
 | none=>rw[I] at h;cases h
 | some t=>
 rw[I] at h;dsimp only at h;split at h
 case h_2=>cases h
 rename_i e hu;cases hj:P.info? e with
 | none=>rw[hj] at h;cases h
 | some j=>
 rw[hj] at h;dsimp only at h;split at h
 ·rename_i n news b off len cap A;obtain⟨d,G,u⟩:=nJ (P:=P) hi A hx;obtain⟨xs,F,m⟩:=u (Nat.min n len) (Nat.min_le_left _ _);simp only[bu] at h;split at h
  ·rename_i h0;rw[Nat.beq_eq] at h0;cases h;rw[h0,Nat.zero_mul] at F;rw[h0] at m;have L:xs= []:=by have:=F.length;simpa using this
   subst L;obtain⟨a,c,rfl⟩:=VR.iT K;have hr:=m w Z;refine⟨.int .i64 0,w,O,?_,by simp only[VR],hi,eF.refl _ _ _⟩;simp[Builtin.copy_,I,run_underlying hu,d,bU hj,h0,hr,goInt,storeCells]
  rename_i h0;rw[Nat.beq_eq] at h0;split at h
  ·rename_i cells e' hb;split at h
   ·rename_i hc;simp only[bA_,nE_,bT] at hc;obtain⟨⟨C,aa⟩,E⟩:=hc;cases h;rw[dp] at E C
    have go:∀(l:Loc) (c:Nat),O b=some l->ys= .slice (some ⟨l.da,l.sh+off,none⟩) len c->
      ∃z w' ρ',(Builtin.copy_ ts ty #[ys,yx]).run P w= .ok z w'/\VR ρ' (.int .i64<|Int.ofNat<|Nat.min n len) z/\
       Inv ρ' (V.setObj b (.row (dB (takeN news (Nat.min n len*j.size)) cells off) e' false)) w'/\eF O V w ρ' (V.setObj b (.row (dB (takeN news (Nat.min n len*j.size)) cells off) e' false)) w':=by
     intro l c hl hy;rw[dp];obtain⟨w',r,inv,st⟩:=gN (P:=P) hi hl hb F C (off:=off) E;refine⟨.int .i64<|Int.ofNat<|Nat.min n len,w',O,?_,by simp only[VR],inv,st⟩;subst hy;have hr:=m w Z;simp[Builtin.copy_,I,run_underlying hu,d,bU hj,hr,r,goInt]
    cases cap with
    | known c=>
     grind [VR]
    | least a sz=>
     grind [VR]
    | upto sz=>
     grind [VR]
   cases h
  cases h
 ·rename_i n news A;cases h;obtain⟨d,G,u⟩:=nJ (P:=P) hi A hx;obtain⟨xs,F,m⟩:=u 0 (Nat.zero_le _);simp only[VR] at K;subst K;refine⟨.int .i64 0,w,O,?_,by simp only[VR],hi,eF.refl _ _ _⟩;have hr:=m w Z;simp[Builtin.copy_,I,run_underlying hu,d,bU hj,hr,goInt]
 cases h
theorem BG (hi:Inv O V w) {ts:Array TypeId} {ty:TypeId} {x:J} {ys:Value} {V':N} (h:sY P V ts x=some V') (E:VR O x ys):
  ∃w',(Builtin.clear_ ts ty #[ys]).run P w= .ok (.tuple #[]) w'/\Inv O V' w'/\eF O V w O V' w':=by
 unfold sY at h;cases F:ts[0]? with
 | none=>rw[F] at h;cases h
 | some t=>
 rw[F] at h;dsimp only at h;cases hu:P.underlying t with
 | none=>rw[hu] at h;cases h
 | some d=>
 rw[hu] at h;cases d with
 | slice e=>
  dsimp only at h;cases x with
  | au=>
   cases h;simp only[VR] at E;subst E;exact⟨w,by simp[Builtin.clear_,F,run_underlying hu],hi,eF.refl _ _ _⟩
  | slice b off len cap=>
   dsimp only at h;rw[bu] at h;split at h
   ·rename_i h0;have:=nB h0;subst this;cases h;obtain⟨a,c,rfl⟩:=VR.iT E;exact⟨w,by simp[Builtin.clear_,F,run_underlying hu],hi,eF.refl _ _ _⟩
   rename_i h0;rw[Nat.beq_eq] at h0;cases hz:(eQ P e).bind cd with
   | none=>rw[hz] at h;cases h
   | some zs=>
   rw[hz] at h;cases hb:V.m.get b with
   | none=>rw[hb] at h;cases h
   | some o=>
   rw[hb] at h;cases o with
   | row cells e' ro=>
    cases ro with
    | true=>cases h
    | false=>
     dsimp only at h;rw[bu] at h;split at h
     ·rename_i hc;simp only[bA_,nE_,bT] at hc;obtain⟨⟨A,aa⟩,C⟩:=hc;cases h;obtain⟨i,zv,I,hzero,G⟩:=fH hz;have hts:=ju (G O) len;have ab:zv.cells.size=zs.length:=by have:=(G O).length;simpa using this
      have u:(Builtin.zeroCells zv.cells len).toList=(List.replicate len zv.cells.toList).flatten:=by
       grind [vj,Builtin.zeroCells]
      have go:∀(l:Loc) (c:Nat),O b=some l->ys= .slice (some ⟨l.da,l.sh+off,none⟩) len c->
        ∃w',(Builtin.clear_ ts ty #[ys]).run P w= .ok (.tuple #[]) w'/\Inv O (V.setObj b (.row (dB (ec zs len) cells off) e' false)) w'/\eF O V w O (V.setObj b (.row (dB (ec zs len) cells off) e' false)) w':=by
       intro l c hl hy;subst hy;obtain⟨w',r,inv,st⟩:=gN (P:=P) hi hl hb hts A C;refine⟨w',?_,inv,st⟩;cases len with
       | zero=>exact absurd Z h0
       | succ n=>simp[Builtin.clear_,F,run_underlying hu,zeroValue,typeInfo,I,hzero,u,r]
      cases cap with
      | known c=>
       simp only[VR] at E
       grind
      | upto sz=>
       simp only[VR] at E
       grind
      | least a sz=>
       simp only[VR] at E
       grind
     cases h
   | _=>cases h
  | _=>cases h
 | _=>cases h
theorem wB {g:Nat} {args:Array Value} (h:qv P g=true):(callFunc g args).run P w= .ok (.enter g args) w:=by
 unfold qv at h;cases hf:P.funcs[g]? with
 | none=>rw[hf] at h;cases h
 | some fn=>
  rw[hf] at h;simp only[bA_,Bool.not_eq_true'] at h;obtain⟨h1,m⟩:=h;have h3:fn.body.isNone=false:=by simp_all
  have b:¬fn.name= "runtime.NumGoroutine" :=by simpa using m
  have d:¬fn.body=none:=by grind
  simp[callFunc,hf,b,d]
inductive xQ (P:Program) (O:Ren) (V:N) (w:World):HR->Result Next->Prop
 | val {v:J} {V':N} {x:Value} {w':World} {ρ':Ren} (hv:VR ρ' v x) (hi:Inv ρ' V' w') (st:eF O V w ρ' V' w'):xQ P O V w (.val v V') (.ok (.value x) w')
 | skip {V':N} {w':World} {ρ':Ren} (hi:Inv ρ' V' w') (st:eF O V w ρ' V' w'):xQ P O V w (.skip V') (.ok .skip w')
 | enter {f:Nat} {args:List J} {xs:Array Value} (hv:cT O args xs.toList):xQ P O V w (.enter f args V) (.ok (.enter f xs) w)
 | round {l:Pos} {args:List J} {xs:Array Value} {loc:Loc} {r:Result Next} (hv:cT O args xs.toList) (hl:O l=some loc) (hr:r=(Instr.yield loc.da xs).run P w):xQ P O V w (.round l args V) r
 | jE {v:J} {x:Value} (hv:VR O v x):xQ P O V w (.jE v V) (.halt (.panic x) w)
def Rv (P:Program) (g:Nat):Prop:=∃(fn:Func) (ts tr e:TypeId) (j:TypeInfo),P.funcs[g]? =some fn∧(fn.name == "runtime.NumGoroutine")=false∧fn.body.isNone=true∧Extern.findNext fn=none∧
 Extern.find fn=some (Extern.SlicesOverlaps.overlaps #[ts,ts] #[tr])/\P.underlying ts=some (.slice e)/\P.info? e=some j
def SS (P:Program) (g:Nat):Prop:=∃(fn:Func),P.funcs[g]? =some fn∧(fn.name == "runtime.NumGoroutine")=false∧fn.body.isNone=true∧Extern.findNext fn=none∧Extern.find fn=some Extern.AbiNoEscape.same
def sT (P:Program) (g:Nat):Prop:=(isNe P g=false/\Rv P g)∨(isNe P g=true/\SS P g)
theorem nH (p:Pos):sv p p=true:=Nat.beq_refl p
theorem VR.uG {b:Pos} {off len:Nat} {cap:nL} {x:Value} (hc:mK cap=true) (h:VR O (.slice b off len cap) x):∃l c,O b=some l/\x= .slice (some ⟨l.da,l.sh+off,none⟩) len c:=by
 cases cap with
 | upto sz=>simp[mK] at hc
 | known c=>simp only[VR] at h;grind
 | least a sz=>simp only[VR] at h;grind
theorem wW (hi:Inv O V w) {g:Nat} {args:List J} {xs:Array Value} {v:J} (K:Rv P g) (h:pZ V args=some v) (hx:cT O args xs.toList):∃x,(callFunc g xs).run P w= .ok (.value x) w/\VR O v x:=by
 obtain⟨fn,ts,tr,e,j,g1,L,M,Q,R,T,U⟩:=K;unfold pZ at h;split at h
 ·rename_i b off n cap b' off' n' cap';split at h
  ·rename_i cells e1 cells' e2 hb d;cases hc:((bif sv b b' then false else true) && (mK cap && (mK cap' && Nat.ble 1 (di cells')))) with
   | false=>rw[hc] at h;cases h
   | true=>
    rw[hc] at h;simp only[cond_true,oJ_] at h;subst h;simp only[bA_,nE_,bT] at hc;obtain⟨hne,A,C,hlen⟩:=hc;have m:b≠b':=fun e=>by subst e;rw[nH] at hne;simp at hne
    obtain⟨x1,r,e',h1,W⟩:=hx.cons_inv;obtain⟨x2,r',rfl,X,h4⟩:=W.cons_inv;have:=h4.dY;subst this;obtain⟨l,c,hl,rfl⟩:=VR.uG A h1;obtain⟨l',c',u,rfl⟩:=VR.uG C X;have E:xs= #[.slice (some ⟨l.da,l.sh+off,none⟩) n c,.slice (some ⟨l'.da,l'.sh+off',none⟩) n' c']:=by grind
    obtain⟨k,fr,F,k2,k3,k4,I⟩:=hi.row hb hl;obtain⟨k',fr',G,aa,ab,ac,ad⟩:=hi.row d u
    have hblk:l.da≠l'.da:=fun e=>by
     have:=(hi.inj b b' _ _ l l' hb d hl u e m).1;cases this
    refine⟨.bool false,?_,by simp only[VR]⟩;rw[run_callFunc_extern g1 L M Q R,E]
    rw[Lib.run_overlaps_apart w ts tr e T j.size (fun w=>bU U) ⟨l.da,l.sh+off,none⟩ ⟨l'.da,l'.sh+off',none⟩ n c n' c' hblk e1 e2 k.size k'.size
     (by simp[World.shape?,F]) (by simp[World.shape?,G]) oM (frozen?_of_heap F _<|I Z _ oM) (frozen?_of_heap F _<|I Z _ oM)]
    rfl
  cases h
 cases h
theorem IT {ov:Nat->Bool} (E:∀g,ov g=true->sT P g) (hi:Inv O V w) {g:J} {args:List J} {y:Value} {xs:Array Value} {r:HR} (h:vJ P ov V g args=r) (hne:∀n,r≠ .err n) (u:VR O g y) (hx:cT O args xs.toList):
  xQ P O V w r ((do let d <-Deferred.ofValue y xs;invoke d.target d.args:Sem Next).run P w):=by
 subst h;unfold vJ at hne⊢;cases g with
 | func f fi ca=>
  dsimp only at hne⊢;cases C:qv P f with
  | false=>
   rw[C] at hne;simp only[cond_false] at hne⊢;cases G:ov f with
   | false=>simp_all
   | true=>
    rw[G] at hne;simp only[cond_true] at hne⊢;cases M:isNe P f with
    | true=>
     rw[M] at hne;simp only[cond_true] at hne⊢;simp only[VR] at u;obtain⟨fi',ca',rfl,b,m⟩:=u;have A:cT O (gg fi<|gg args ca) (fi'++xs++ca').toList:=by rw[dH,dH];simpa using b.append (hx.append m)
     generalize gg fi (gg args ca)=l at hne A⊢;cases l with
     | nil=>simp_all
     | cons v r=>
      cases r with
      | cons _ _=>simp_all
      | nil=>
       dsimp only;obtain⟨x,r',e,h1,Q⟩:=A.cons_inv;have:=Q.dY;subst this;have I:fi'++xs++ca'= #[x]:=by simp_all
       rcases E f G with ⟨h',_⟩ | ⟨_,fn,g1,R,T,U,W⟩
       ·simp_all
       have K:(callFunc f (fi'++xs++ca')).run P w= .ok (.value x) w:=by
        rw[run_callFunc_extern g1 R T U W,I,Lib.run_noEscape];rfl
       have:(do let d <-Deferred.ofValue (.func (.func f) fi' ca') xs;invoke d.target d.args:Sem Next).run P w= .ok (.value x) w:=by
        grind [Deferred.ofValue,invoke]
       rw[this];exact .val h1 hi<|eF.refl O V w
    | false=>
    rw[M] at hne;simp only[cond_false] at hne⊢
    have F:Rv P f:=by
     rcases E f G with ⟨_,h'⟩ | ⟨h',_⟩
     ·exact h'
     simp_all
    cases hq:pZ V (gg fi<|gg args ca) with
    | none=>simp_all
    | some v=>
     simp only[VR] at u;obtain⟨fi',ca',rfl,b,m⟩:=u;obtain⟨x,K,L⟩:=wW (xs:=fi'++xs++ca') hi F hq (by rw[dH,dH];simpa using b.append (hx.append m))
     have:(do let d <-Deferred.ofValue (.func (.func f) fi' ca') xs;invoke d.target d.args:Sem Next).run P w= .ok (.value x) w:=by
      grind [Deferred.ofValue,invoke]
     rw[this];exact .val L hi<|eF.refl O V w
  | true=>
   rw[C] at hne;simp only[VR] at u;obtain⟨fi',ca',rfl,b,m⟩:=u;simp only[cond_true]
   have:(do let d <-Deferred.ofValue (.func (.func f) fi' ca') xs;invoke d.target d.args:Sem Next).run P w= .ok (.enter f (fi'++xs++ca')) w:=by
    simp[Deferred.ofValue,invoke,wB C]
   rw[this,dH,dH];exact .enter (by simpa using b.append (hx.append m))
 | yield l=>
  dsimp only at hne⊢;simp only[VR] at u;obtain⟨loc,hl,rfl⟩:=u;exact .round hx hl (by simp[Deferred.ofValue,invoke])
 | _=>simp_all
end
section
variable {P:Program} {O:Ren} {V:N} {w:World}
def lK:TypeDesc->Bool
 | .int _ | .string | .bool=>true
 | _=>false
def Ha (P:Program) (u:TypeId):Prop:=(∃d,P.underlying u=some d/\lK d=true)∨(∃gs,P.underlying u=some (.struct gs)/\∀g∈gs.toList,∃d,P.underlying g.type=some d/\lK d=true)∨∃m e,P.underlying u=some (.array m e)/\rC P e=true
theorem oX {t:TypeId} (h:plainKey P t=true):(∃d,P.underlying t=some d/\lK d=true)∨∃fs,P.underlying t=some (.struct fs)/\∀f∈fs.toList,Ha P f.type:=by
 unfold plainKey at h;split at h
 ·rename_i k hu;exact .inl ⟨_,hu,Z⟩
 ·rename_i hu;exact .inl ⟨_,hu,Z⟩
 ·rename_i hu;exact .inl ⟨_,hu,Z⟩
 ·rename_i fs hu;refine .inr ⟨fs,hu,fun f hf=>?_⟩;rw[aE_] at h;have:=h f hf;split at this
  ·rename_i k b;exact .inl ⟨_,b,Z⟩
  ·rename_i b;exact .inl ⟨_,b,Z⟩
  ·rename_i b;exact .inl ⟨_,b,Z⟩
  ·rename_i gs b;refine .inr (.inl ⟨gs,b,fun g A=>?_⟩);rw[aE_] at this;have:=this g A;split at this
   ·rename_i k u;exact⟨_,u,Z⟩
   ·rename_i u;exact⟨_,u,Z⟩
   ·rename_i u;exact⟨_,u,Z⟩
   cases this
  ·rename_i m e b;exact .inr (.inr ⟨m,e,b,this⟩)
  cases this
 cases h
theorem jd {t:TypeId} {d:TypeDesc} (hu:P.underlying t=some d) (hd:lK d=true) (em:Bool) (n:Nat) (a:Value):(Instr.checkKey em (n+1) t a).run P w= .ok () w:=by
 simp only[Instr.checkKey,sB_,run_underlying hu,rA];cases d<;>first | (simp[lK] at hd;done) | rfl
theorem qE {t:TypeId} {fs:Array Field} {ys:Array Value} (hu:P.underlying t=some (.struct fs)) (em:Bool) (n:Nat)
  (h:∀f∈fs.toList,∃y,(part f.type ys f.offset).run P w= .ok y w/\(Instr.checkKey em (n+1) f.type y).run P w= .ok () w):(Instr.checkKey em (n+1+1) t (.agg ys)).run P w= .ok () w:=by
 rw[Instr.checkKey];simp only[sB_,run_underlying hu,rA];rw[<-Array.forIn_toList];clear hu;generalize fs.toList=l at*;induction l with
 | nil=>simp
 | cons f l ih=>
  obtain⟨y,aa,ab⟩:=h f (by simp)
  simp_all
theorem xT {t e:TypeId} {m:Nat} {cs:Array Value} {i:TypeInfo} {k:IntKind} (hu:P.underlying t=some (.array m e)) (he:P.underlying e=some (.int k)) (hi:P.info? e=some i) (b:i.size=1) (hl:m<=cs.size) (em:Bool) (n:Nat):
  (Instr.checkKey em (n+1+1) t (.agg cs)).run P w= .ok () w:=by
 rw[Instr.checkKey];simp only[sB_,run_underlying hu,rA];simp only[Std.Legacy.Range.forIn_eq_forIn_range',Std.Legacy.Range.size,Nat.sub_zero,Nat.add_one_sub_one,Nat.div_one]
 have key:∀(l:Nat) (s:Nat),s+l<=cs.size->(forIn (List.range' s l) PUnit.unit fun i (_:PUnit)=>(do
   let z <-sizeOf e
   let v <-part e cs (i*z)
   Instr.checkKey em (n+1) e v
   pure (ForInStep.yield PUnit.unit):Sem (ForInStep PUnit))).run P w= .ok PUnit.unit w:=by
  intro l;induction l with
  | zero=>intro s _;simp
  | succ l ih=>
   intro s aa;have hv:cs[s]? =some cs[s]:=aG_ oM
   have p:(part e cs (s*1)).run P w= .ok cs[s] w:=by
    rw[Nat.mul_one];simp only[part,sB_,eT he,Bp,rA,Bool.false_eq_true,if_false,hv,sP_]
   simp only[List.range'_succ,List.forIn_cons,sB_,bU hi,b,p,rA,jd he Z,sP_]
   grind
 simp_all
theorem nR {u:TypeId} {d:TypeDesc} (hu:P.underlying u=some d) (hd:lK d=true) {xs:List J} {ys:Array Value} (b:cT O xs ys.toList) {off:Nat} (C:(nth xs off).isSome=true):∃y,(part u ys off).run P w= .ok y w:=by
 obtain⟨v,hv⟩:=Option.isSome_iff_exists.1 C;rw[eU] at hv;obtain⟨y,hy,_⟩:=b.get hv;have m:ys[off]? =some y:=by simp_all
 have A:Bp d=false:=by cases d<;>first | rfl | (simp[lK] at hd)
 exact⟨y,by simp only[part,sB_,eT hu,A,rA,Bool.false_eq_true,if_false,m,sP_]⟩
theorem lk {t:TypeId} {k:J} {a:Value} (hp:plainKey P t=true) (G:jl P t k=true) (hk:VR O k a) (em:Bool):(Instr.checkKey em 10000 t a).run P w= .ok () w:=by
 rcases oX hp with ⟨d,hu,hd⟩ | ⟨fs,hu,K⟩
 ·exact jd hu hd em 9999 a
 unfold jl at G;rw[hu] at G;cases k<;>(try (simp at G;done));rename_i xs;dsimp only at G;simp only[VR] at hk;obtain⟨ys,rfl,C⟩:=hk;refine qE hu em 9998 fun f hf=>?_
 rw[aE_] at G;have hsf:=G f hf;rcases K f hf with ⟨d,b,E⟩ | ⟨gs,b,L⟩ | ⟨m,e,b,M⟩
 ·have:(nth xs f.offset).isSome=true:=by
   rw[b] at hsf;cases d<;>first | exact hsf | (simp[lK] at E)
  obtain⟨y,hy⟩:=nR (P:=P) (w:=w) b E C this;exact⟨y,hy,jd b E em 9998 y⟩
 ·rw[b] at hsf;dsimp only at hsf;split at hsf
  ·rename_i n F;obtain⟨c,r,v⟩:=gb (P:=P) (w:=w) F C (off:=f.offset);refine⟨.agg c,r,qE b em 9997 fun g R=>?_⟩;rw[aE_] at hsf;obtain⟨d,u,A⟩:=L g R;obtain⟨y,hy⟩:=nR (P:=P) (w:=w) u A v (hsf g R);exact⟨y,hy,jd u A em 9997 y⟩
  cases hsf
 rw[b] at hsf;dsimp only at hsf;split at hsf
 ·rename_i n F;rw[bA_,Nat.beq_eq,Nat.beq_eq,bT] at hsf;obtain⟨k,inf,he,I,Q⟩:=wA M;obtain⟨c,r,v⟩:=gb (P:=P) (w:=w) F C (off:=f.offset);have hcl:=v.length;exact⟨.agg c,r,xT b he I Q (by rw[hsf.2] at hcl;have:c.toList.length=c.size:=rfl;omega) em 9997⟩
 cases hsf
theorem HA {t:TypeId} {d:TypeDesc} (hu:P.underlying t=some d) (hd:lK d=true) {x y:J} {a c:Value} {b:Bool} (h:lF P t x y=some b) (hx:VR O x a) (hy:VR O y c):Instr.sameNow d a c=some b:=by
 unfold lF at h;rw[hu] at h;split at h
 ·rename_i u A C q j m k n e;cases e;cases hk:sQ j k with
  | false=>rw[hk] at h;cases h
  | true=>
   rw[hk] at h;have:=oC hk;subst this;simp only[VR] at hx hy;subst hx;subst hy;simp only[cond_true,oJ_] at h;rw[<-h,dv];simp only[Instr.sameNow,if_true,oJ_]
   grind
 ·rename_i u A C s s' e;cases e;simp only[VR] at hx hy;obtain⟨p,rfl,hp⟩:=hx;obtain⟨q,rfl,hq⟩:=hy
  grind [Instr.sameNow,nb,beq_toListBytes]
 ·rename_i u A C s s' e;cases e;simp only[VR] at hx hy;subst hx;subst hy;cases h;simp only[Instr.sameNow,oJ_,oA]
 ·grind [lK]
 cases h
theorem EC {t:TypeId} {fs:Array Field} (hu:P.underlying t=some (.struct fs)) {x y:J} {a c:Value} {b:Bool} (h:lF P t x y=some b) (hx:VR O x a) (hy:VR O y c):(Op.equal t a c).run P w= .ok b w:=by
 unfold lF at h;rw[hu] at h;split at h
 ·rename_i e;cases e
 ·rename_i e;cases e
 ·rename_i e;cases e
 ·exact(oD (P:=P) (w:=w) h hx hy .eql (.const .nilFunc) (.const .nilFunc)).2
 cases h
def DB (O:Ren):Option (Nat×J)->Option (Nat×Value)->Prop
 | none,none=>True
 | some (i,v),some (j,y)=>i=j/\VR O v y
 | _,_=>False
theorem qI {t:TypeId} {d:TypeDesc} (hu:P.underlying t=some d) (hd:lK d=true) {k:J} {a:Value} (hk:VR O k a):∀(es:List eB) (ys:List MapEntry) (i:Nat) (r:Option (Nat×J)),jv O es ys->l6 P t k es i=some r->
  ∃r',Instr.findNow d a ys i=some r'/\DB O r r'
 | [],ys,i,r,he,h=>by
  have:ys= []:=he;subst this;have h':some none=some r:=h;cases h';exact⟨none,Z,trivial⟩
 | e::es,ys,i,r,he,h=>by
  obtain⟨y,rest,rfl,h1,m,h3,h4⟩:=he
  have h':(match lF P t k e.key with
   | some true=>some (some (i,e.val))
   | some false=>l6 P t k es (Nat.succ i)
   | none=>none)=some r:=h
  cases hq:lF P t k e.key with
  | none=>rw[hq] at h';cases h'
  | some b=>
   rw[hq] at h';have hs:=HA hu hd hq hk h1;cases b with
   | true=>cases h';exact⟨some (i,y.val),by simp[Instr.findNow,hs],Z,m⟩
   | false=>
    obtain⟨r',g1,u⟩:=qI hu hd hk es rest (i+1) r h4 h';exact⟨r',by simp[Instr.findNow,hs,g1],u⟩
theorem qH {t:TypeId} {fs:Array Field} (hu:P.underlying t=some (.struct fs)) {k:J} {a:Value} (hk:VR O k a):∀(es:List eB) (ys:List MapEntry) (i:Nat) (r:Option (Nat×J)),jv O es ys->l6 P t k es i=some r->
  ∃r',(Instr.findAsking t a ys i).run P w= .ok r' w/\DB O r r'
 | [],ys,i,r,he,h=>by
  have:ys= []:=he;subst this;have h':some none=some r:=h;cases h';exact⟨none,Z,trivial⟩
 | e::es,ys,i,r,he,h=>by
  obtain⟨y,rest,rfl,h1,d,h3,h4⟩:=he
  have h':(match lF P t k e.key with
   | some true=>some (some (i,e.val))
   | some false=>l6 P t k es (Nat.succ i)
   | none=>none)=some r:=h
  cases hq:lF P t k e.key with
  | none=>simp_all
  | some b=>
   rw[hq] at h';have hs:=EC (w:=w) hu hq hk h1;cases b with
   | true=>cases h';exact⟨some (i,y.val),by simp[Instr.findAsking,hs],Z,d⟩
   | false=>
    obtain⟨r',g1,m⟩:=qH hu hk es rest (i+1) r h4 h';exact⟨r',by simp[Instr.findAsking,hs,g1],m⟩
theorem lz {t:TypeId} (hp:plainKey P t=true) {k:J} {a:Value} (hk:VR O k a) {es:List eB} {ys:List MapEntry} {r:Option (Nat×J)} (he:jv O es ys) (h:l6 P t k es 0=some r):
  ∃r',(Instr.findKey t a ys).run P w= .ok r' w/\DB O r r':=by
 rcases oX hp with ⟨d,hu,hd⟩ | ⟨fs,hu,aa⟩
 ·obtain⟨r',h1,b⟩:=qI hu hd hk es ys 0 r he h;exact⟨r',by simp[Instr.findKey,run_underlying hu,h1],b⟩
 cases m:Instr.findNow (.struct fs) a ys 0 with
 | none=>
  obtain⟨r',h1,b⟩:=qH (w:=w) hu hk es ys 0 r he h;exact⟨r',by simp[Instr.findKey,run_underlying hu,m,h1],b⟩
 | some r0=>
  cases es with
  | nil=>
   have:ys= []:=he;subst this;have h':some none=some r:=h;cases h';exact⟨none,by simp[Instr.findKey,run_underlying hu,Instr.findNow],trivial⟩
  | cons e es=>
   obtain⟨y,rest,rfl,h1,_⟩:=he
   grind [Instr.sameNow,Instr.findNow]
theorem jv.length:∀{es:List eB} {ys:List MapEntry},jv O es ys->ys.length=es.length
 | [],ys,h=>by have:ys= []:=h;rw[this];rfl
 | e::es,ys,h=>by obtain⟨y,r,rfl,_,_,_,h4⟩:=h;simp[h4.length]
theorem jv.get:∀{es:List eB} {ys:List MapEntry},jv O es ys->∀{i:Nat} {e:eB},es[i]? =some e->∃y,ys[i]? =some y/\VR O e.key y.key/\VR O e.val y.val/\y.born=e.born
 | [],ys,h,i,e,he=>by simp at he
 | e::es,ys,h,0,e',he=>by
  obtain⟨y,r,rfl,h1,b,d,h4⟩:=h
  simp_all
 | e::es,ys,h,i+1,e',he=>by
  obtain⟨y,r,rfl,h1,b,d,h4⟩:=h;simp at he;simpa using h4.get he
theorem jv.append:∀{es fs:List eB} {ys zs:List MapEntry},jv O es ys->jv O fs zs->jv O (es++fs) (ys++zs)
 | [],fs,ys,zs,h,h'=>by have:ys= []:=h;subst this;exact h'
 | e::es,fs,ys,zs,h,h'=>by
  obtain⟨y,r,rfl,h1,b,d,h4⟩:=h;exact⟨y,r++zs,Z,h1,b,d,h4.append h'⟩
theorem jv.set:∀{es:List eB} {ys:List MapEntry},jv O es ys->∀(i:Nat) {e:eB} {y:MapEntry},VR O e.key y.key->VR O e.val y.val->y.born=e.born->jv O (es.set i e) (ys.set i y)
 | [],ys,h,i,_,_,_,_,_=>by have:ys= []:=h;simp_all
 | e::es,ys,h,0,_,_,b,d,m=>by
  obtain⟨y,r,rfl,h1,u,A,h4⟩:=h;exact⟨_,r,Z,b,d,m,h4⟩
 | e::es,ys,h,i+1,_,_,b,d,m=>by
  obtain⟨y,r,rfl,h1,u,A,h4⟩:=h;exact⟨y,_,Z,h1,u,A,h4.set i b d m⟩
theorem jv.erase:∀{es:List eB} {ys:List MapEntry},jv O es ys->∀(i:Nat),jv O (es.eraseIdx i) (ys.eraseIdx i)
 | [],ys,h,i=>by have:ys= []:=h;simp_all
 | e::es,ys,h,0=>by obtain⟨y,r,rfl,h1,b,d,h4⟩:=h;exact h4
 | e::es,ys,h,i+1=>by
  obtain⟨y,r,rfl,h1,b,d,h4⟩:=h;exact⟨y,_,Z,h1,b,d,h4.erase i⟩
theorem Inv.wL (hi:Inv O V w) {b:Pos} {l:Loc} {es:List eB} {clock:Nat} (d:V.m.get b=some (.map es clock)) (hl:O b=some l):∃es',w.heap[l.da]? =some (.map es' clock)/\jv O es es'.toList:=by
 obtain⟨x,hx,es',rfl,h2⟩:=hi.obj b _ l d hl
 simp_all
theorem run_getObj_map {r clock:Nat} {es:Array MapEntry} (h:w.heap[r]? =some (.map es clock)):(getObj r).run P w= .ok (.map es clock) w:=by
 simp[getObj,Sem.run,h]
theorem Au (hi:Inv O V w) {ev:Operand->Option J} {f:Operand->Value} {t:TypeId} {x i:Operand} {ok:Bool} {v:J} (hx:∀u,ev x=some u->VR O u (f x)) (hk:∀u,ev i=some u->VR O u (f i))
  (h:eY P ev V (.lookup t x i ok)=some v):∃z,(Instr.lookup t (f x) (f i) ok).run P w= .ok z w/\VR O v z:=by
 simp only[eY] at h;split at h
 ·rename_i kt et k hu F;simp only[bu] at h;split at h
  ·rename_i A;rw[bA_] at A;obtain⟨hp,G⟩:=A;have hkv:=hk _ F
   have main:∀(es:List eB) (ys:Array MapEntry),jv O es ys.toList->
     (match l6 P kt k es 0,eQ P et with
      | some (some (_,v)),some _=>some (if ok=true then J.tuple [v,.bool true] else v)
      | some none,some z=>some (if ok=true then J.tuple [z,.bool false] else z)
      | _,_=>none)=some v->
     (Instr.checkKey ys.isEmpty 10000 kt<|f i).run P w= .ok () w/\∃r',(Instr.findKey kt (f i) ys.toList).run P w= .ok r' w/\
      ((∃j y,r'=some (j,y)/\VR O v (if ok=true then .tuple #[y,.bool true] else y))∨
       (r'=none/\∃xz,(zeroValue et).run P w= .ok xz w/\VR O v (if ok=true then .tuple #[xz,.bool false] else xz))):=by
    intro es ys he hh;have hck:=lk (w:=w) hp G hkv ys.isEmpty;cases hf:l6 P kt k es 0 with
    | none=>simp_all
    | some r=>
     obtain⟨r',g1,I⟩:=lz (w:=w) hp hkv he hf;cases hz:eQ P et with
     | none=>simp_all
     | some zz=>
      rw[hf,hz] at hh;obtain⟨iz,xz,K,hzero,C⟩:=pG hz;cases r with
      | some p=>
       obtain⟨j,u⟩:=p;cases r' with
       | none=>exact I.elim
       | some q=>
        obtain⟨j',y⟩:=q;obtain⟨_,hy⟩:=I;refine⟨hck,_,g1,.inl ⟨j',y,Z,?_⟩⟩;cases hh;cases ok with
        | true=>
         simp only[if_true,VR];exact⟨_,Z,cT.cons hy<|cT.cons (by simp only[VR]) cT.nil⟩
        | false=>simpa using hy
      | none=>
       cases r' with
       | some q=>exact I.elim
       | none=>
        have L:(zeroValue et).run P w= .ok xz w:=by simp[zeroValue,typeInfo,K,hzero]
        refine⟨hck,_,g1,.inr ⟨Z,xz,L,?_⟩⟩;cases hh;cases ok with
        | true=>
         simp only[if_true,VR];exact⟨_,Z,cT.cons (C O)<|cT.cons (by simp only[VR]) cT.nil⟩
        | false=>simpa using C O
   cases E:ev x with
   | none=>simp_all
   | some m=>
    rw[E] at h;have hmv:=hx m E;cases m with
    | gT=>
     simp only[VR] at hmv;dsimp only at h;obtain⟨hck,r',g1,d⟩:=main [] #[] (by simp[jv]) h;rcases d with ⟨j,y,rfl,d⟩ | ⟨rfl,xz,hz,d⟩
     ·exact⟨_,by rw[hmv];simp only[Instr.lookup,sB_,run_underlying hu,rA,sP_,hck,g1],d⟩
     exact⟨_,by rw[hmv];simp only[Instr.lookup,sB_,run_underlying hu,rA,sP_,hck,g1,hz],d⟩
    | map b=>
     simp only[VR] at hmv;obtain⟨l,hl,hf⟩:=hmv;dsimp only at h;cases hb:V.m.get b with
     | none=>rw[hb] at h;cases h
     | some ob=>
      rw[hb] at h;cases ob with
      | map es clock=>
       dsimp only at h;obtain⟨ys,hh,he⟩:=hi.wL hb hl;obtain⟨hck,r',g1,d⟩:=main es ys he h;rcases d with ⟨j,y,rfl,d⟩ | ⟨rfl,xz,hz,d⟩
       ·exact⟨_,by rw[hf];simp only[Instr.lookup,sB_,run_underlying hu,rA,sP_,run_getObj_map hh,hck,g1],d⟩
       exact⟨_,by rw[hf];simp only[Instr.lookup,sB_,run_underlying hu,rA,sP_,run_getObj_map hh,hck,g1,hz],d⟩
      | _=>cases h
    | _=>cases h
  cases h
 cases h
theorem uE (hi:Inv O V w) {u:Option TypeId} {x:Option J} {v:J} {z:Value} (h:nC P u V x=some v) (hx:∀a,x=some a->VR O a z):
  ∃(a:Addr) (e cells:Nat),z= .pointer (some a)/\VR O v z/\w.shape? a.block=some (e,cells)/\(match u with | some u=>liesAt P P.depth e (cells/P.cellsOf e) a.off u 1=true | none=>a.off<cells):=by
 unfold nC at h;cases x with
 | none=>cases h
 | some xv=>
  cases xv with
  | ptr b off=>
   have hv:=hx _ Z;have hv':=hv;simp only[VR] at hv';obtain⟨l,hl,rfl⟩:=hv';dsimp only at h;cases hb:V.m.get b with
   | none=>rw[hb] at h;cases h
   | some ob=>
    rw[hb] at h;cases ob with
    | own cells e=>
     dsimp only at h;obtain⟨y,hy,⟨h0,aa⟩,c,fr,rfl,hc,_⟩:=hi.obj b _ l hb hl;have A:c.size=cells.length:=by omega
     have d:w.shape? l.da=some (e,cells.length):=by simp[World.shape?,hy,A]
     cases u with
     | some u=>
      dsimp only at h;rw[bu] at h;split at h
      ·rename_i hq;cases h;rw[bT] at hq;exact⟨_,e,cells.length,Z,hv,d,by simpa [h0] using hq⟩
      cases h
     | none=>
      dsimp only at h;rw[bu] at h;split at h
      ·rename_i hq;cases h;rw[nE_,bT] at hq;exact⟨_,e,cells.length,Z,hv,d,by grind⟩
      cases h
    | _=>cases h
  | _=>cases h
theorem xh (hi:Inv O V w) {ev:Operand->Option J} {f:Operand->Value} {o:Oper} {v:J} (C:ER O ev f o.op) (h:eY P ev V o.op=some v):
  ∃x,(execOp f o).run P w= .ok (.value x) w/\VR O v x:=by
 cases E:o.op with
 | load t x=>
  rw[E] at h C;simp only[eY] at h;cases hx:ev x with
  | none=>rw[hx] at h;cases h
  | some u=>
   rw[hx] at h;have hvx:=C x (by simp[Op.operands]) u hx;cases u with
   | ptr b off=>
    simp only at h;cases K:V.m.get b with
    | none=>rw[K] at h;cases h
    | some ob=>
     rw[K] at h;cases ob with
     | row cells e ro=>
      simp only[VR] at hvx;obtain⟨l,hl,F⟩:=hvx;obtain⟨y,hy,M⟩:=mz (P:=P) hi K hl h;refine⟨y,?_,M⟩;simp[execOp,E,Instr.loadAt,F,Instr.sureAddr,hy]
     | own cells e=>
      simp only[VR] at hvx;obtain⟨l,hl,F⟩:=hvx;obtain⟨_,G,_⟩:=hi.own K hl;obtain⟨y,hy,M⟩:=mz (P:=P) G (N.lB _ _ _) hl h;refine⟨y,?_,M⟩;simp[execOp,E,Instr.loadAt,F,Instr.sureAddr,hy]
     | _=>cases h
   | _=>cases h
 | lookup t x i ok=>
  rw[E] at h C;obtain⟨z,h1,U⟩:=Au (P:=P) hi (f:=f) (C x (by simp[Op.operands])) (C i (by simp[Op.operands])) h
  grind [execOp,sB_,rA,sP_]
 | convert src dst x=>
  rw[E] at h C;simp only[eY] at h;split at h
  case h_4=>cases h
  case h_2=>
   rename_i t L hd;split at h
   ·rename_i j hj;rw[bu] at h;split at h
    ·cases h
    rename_i h0;obtain⟨a,e,cells,hf,hv,Q,an⟩:=uE hi h (C x (by simp[Op.operands]));have ab:j.size≠0:=fun e=>h0 (by rw[e];rfl)
    grind [execOp,sB_,Lib.run_to_unsafe,rA,sP_]
   cases h
  case h_3=>
   rename_i u L hd;rw[bu] at h;split at h
   ·rename_i G;obtain⟨j,hj⟩:=Option.isSome_iff_exists.1 G;obtain⟨a,e,cells,hf,hv,Q,an⟩:=uE hi h (C x (by simp[Op.operands]))
    grind [execOp,sB_,Lib.run_from_unsafe,rA,sP_]
   cases h
  rename_i e L hd;split at h
  case h_3=>cases h
  ·rename_i he hx;cases h;have hv:=C x (by simp[Op.operands]) _ hx;simp only[VR] at hv;refine⟨.string .empty,?_,by simp only[VR];exact⟨_,Z,Z⟩⟩;simp[execOp,E,convert,hv,run_underlying L,run_underlying hd,run_underlying he,Conv.bytesToString]
  rename_i b off len cap he hx;have hv:=C x (by simp[Op.operands]) _ hx
  have fin:∀(a:Addr) (c:Nat) (s:List Nat),f x= .slice (some a) len c->s.length=len->(∀n∈s,n<=255)->(∀(j:Nat) (hj:j<s.length),w.cell? (a.add j)=some (.int .u8 ((s[j]:Nat):Int)))->
    ∃z,(execOp f o).run P w= .ok (.value z) w/\VR O (.str s) z:=by
   intro a c s hf hl hle hc
   have hb:∀n∈s,(UInt8.ofNat n).toNat=n:=fun n W=>by
    grind [UInt8.toNat_ofNat']
   have:=run_convert_bytes_back (P:=P) w src dst e a c (s.map UInt8.ofNat) L he hd (fun j hj=>by
    grind)
   rw[lM_,hl] at this;refine⟨.string ⟨(s.map UInt8.ofNat).toArray⟩,by grind [execOp,sB_,rA,sP_],?_⟩;simp only[VR];refine⟨_,Z,?_⟩;unfold ga;simp only[List.map_map]
   conv=>rhs;rw[<-List.map_id s]
   exact List.map_congr_left fun n W=>hb n W
  rw[bu] at h;split at h
  ·rename_i h0;have:=nB h0;subst this;cases h;obtain⟨a,c,hf⟩:=VR.iT hv
   simp_all
  rename_i h0;rw[Nat.beq_eq] at h0;split at h
  ·rename_i cells e' ro hb;rw[bu] at h;split at h
   ·rename_i hle;rw[nE_,bT] at hle;split at h
    ·rename_i s I;cases h
     obtain⟨l,c,hl,hf⟩:∃l c,O b=some l/\f x= .slice (some ⟨l.da,l.sh+off,none⟩) len c:=by
      cases cap with
      | known c=>grind [VR]
      | upto sz=>
       grind [VR]
      | least a sz=>grind [VR]
     obtain⟨ys,ac,R,aa⟩:=hi.piece hb hl off len hle;rw[dp,dF] at I
     have key:∀(l:List J) (s:List Nat),cM rU l=some s->s.length=l.length/\(∀n∈s,n<=255)/\∀(j:Nat) (n:Nat),s[j]? =some n->l[j]? =some (.int .u8 (.ofNat n)):=by
      intro l;induction l with
      | nil=>intro s h;rw[gx] at h;simp_all
      | cons x l ih=>
       intro s h;obtain⟨y,r,h1,U,rfl⟩:=fV h;obtain⟨k1,X,k3⟩:=ih r U
       have hx:x= .int .u8 (.ofNat y)/\y<=255:=by
        unfold rU at h1;split at h1
        ·rw[bu] at h1;split at h1
         ·simp_all
         cases h1
        cases h1
       grind
     obtain⟨k1,X,k3⟩:=key _ s I;have T:s.length=len:=by grind
     refine fin _ c s hf T X (fun j hj=>?_);have h1:=k3 j s[j] (gC hj);obtain⟨y,hy,ad⟩:=R.get h1
     grind [VR]
    cases h
   cases h
  cases h
 | call c=>
  rw[E] at h C;simp only[eY] at h;split at h
  ·rename_i A;split at h
   ·rename_i u1 u2 t x e1 e2;have d:c.args= #[x]:=by grind
    split at h
    ·rename_i u3 u4 kt et b hu hx;have hv:=C x (by simp[Op.operands,Call.operands,A,d]) _ hx;simp only[VR] at hv;obtain⟨l,hl,hf⟩:=hv;split at h
     ·rename_i es clock hb;cases h;obtain⟨ys,hh,he⟩:=hi.wL hb hl;refine⟨.int .i64<|Int.ofNat<|di es,?_,by simp only[VR]⟩;have hlen:ys.size=es.length:=by have:=he.length;simpa using this
      simp[execOp,E,resolve,A,d,invoke,builtin,Builtin.len_,e1,run_underlying hu,hf,run_getObj_map hh,goInt,bT,hlen]
     cases h
    ·rename_i u3 u4 kt et hu hx;cases h;have hv:=C x (by simp[Op.operands,Call.operands,A,d]) _ hx;simp only[VR] at hv;refine⟨.int .i64 0,?_,by simp only[VR]⟩;simp[execOp,E,resolve,A,d,invoke,builtin,Builtin.len_,e1,run_underlying hu,hv,goInt]
    cases h
   cases h
  cases h
 | _=>rw[E] at h;simp[eY] at h
end
section
variable {P:Program} {O:Ren} {V:N} {w:World}
theorem Eh {ts:Array TypeId} {ty:TypeId} {x v:J} {y:Value} (h:yB x=some v) (hx:VR O x y):∃z,(Builtin.unsafeSliceData_ ts ty #[y]).run P w= .ok z w/\VR O v z:=by
 unfold yB at h;split at h
 ·cases h;simp only[VR] at hx;subst hx;exact⟨_,Lib.run_unsafeSliceData_nil w ts ty 0 0,by simp only[VR]⟩
 ·rename_i b off len c;rw[bu] at h;split at h
  ·rename_i d;cases h;cases c with
   | known c=>
    simp only[VR] at hx;obtain⟨l,hl,rfl⟩:=hx;have d:Nat.ble 1 c=true:=d;rw[nE_] at d;exact⟨_,Lib.run_unsafeSliceData_row w ts ty _ _ _ oM,by simp only[VR];simp_all⟩
   | upto s=>
    have d:Nat.ble 1 len=true:=d;rw[nE_] at d;simp only[VR] at hx;obtain⟨l,hl,⟨c,rfl,hc,_⟩ | ⟨h0,_⟩⟩:=hx
    ·exact⟨_,Lib.run_unsafeSliceData_row w ts ty _ _ _ oM,by simp only[VR];simp_all⟩
    omega
   | least a s=>
    have d:Nat.ble 1 a=true:=d;rw[nE_] at d;simp only[VR] at hx;obtain⟨l,hl,c,rfl,hc,_⟩:=hx;exact⟨_,Lib.run_unsafeSliceData_row w ts ty _ _ _ oM,by simp only[VR];simp_all⟩
  cases h
 cases h
theorem BA:∀{l:List J} {s:List Nat},cM rU l=some s->s.length=l.length/\(∀n∈s,n<=255)/\∀(j:Nat) (n:Nat),s[j]? =some n->l[j]? =some (.int .u8 (.ofNat n))
 | [],s,h=>by rw[gx] at h;simp_all
 | x::l,s,h=>by
  obtain⟨y,r,h1,b,rfl⟩:=fV h;obtain⟨k1,k2,k3⟩:=BA b
  have hx:x= .int .u8 (.ofNat y)/\y<=255:=by
   unfold rU at h1;split at h1
   ·rw[bu] at h1;split at h1
    ·simp_all
    cases h1
   cases h1
  grind
theorem sH (ts:Array TypeId) (ty:TypeId) (k:Value):Builtin.unsafeString_ ts ty #[.pointer none,k]=
   (do
    let n <-asInt k
    let some _:=ts[0]? | stuck "unsafe.String: no argument types"
    if n<0 then runtimePanic (.error "unsafe.String: len out of range")
    if n>IntKind.i64.max then unsupported (.unsafePointer "String: a length above the largest int")
    if n=0 then pure (.string .empty)
    else runtimePanic (.error "unsafe.String: ptr is nil and len is not zero")):=rfl
theorem mg (ts:Array TypeId) (ty:TypeId) (a:Addr) (k:Value):Builtin.unsafeString_ ts ty #[.pointer<|some a,k]=
   (do
    let n <-asInt k
    let some pt:=ts[0]? | stuck "unsafe.String: no argument types"
    if n<0 then runtimePanic (.error "unsafe.String: len out of range")
    if n>IntKind.i64.max then unsupported (.unsafePointer "String: a length above the largest int")
    if n=0 then pure (.string .empty)
    else if <-variablesAt a (<-elemOf pt) n.toNat then do
     let s <-loadBytes a .empty n.toNat
     freeze a n.toNat
     pure (.string s)
    else unsupported (.unsafePointer "String: not so many bytes at ptr")):=rfl
theorem jG {ts:Array TypeId} {ty pt:TypeId} (d:ts[0]? =some pt) (p:Option Addr):(Builtin.unsafeString_ ts ty #[.pointer p,.int .i64 0]).run P w= .ok (.string .empty) w:=by
 have b:IntKind.i64.max=9223372036854775807:=rfl;cases p with
 | none=>rw[sH];simp[d,asInt,asIntOf,b]
 | some a=>rw[mg];simp[d,asInt,asIntOf,b]
theorem qy {ts:Array TypeId} {ty pt e:TypeId} (E:ts[0]? =some pt) (hp:P.underlying pt=some (.pointer e)) (hc:P.cellsOf e=1) (g off cells:Nat) (C:w.shape? g=some (e,cells)) (l:List UInt8) (h0:l≠[]) (F:off+l.length<=cells) (aa:l.length<=9223372036854775807)
  (b:∀j x,l[j]? =some x->w.cell? ((⟨g,off,none⟩:Addr).add j)=some (.int .u8 x.toNat)):
  (Builtin.unsafeString_ ts ty #[.pointer<|some ⟨g,off,none⟩,.int .i64 l.length]).run P w= .ok (.string ⟨l.toArray⟩) (w.freeze ⟨g,off,none⟩ l.length):=by
 have hl:l.length≠0:=by simpa using h0
 have hlb:=Lib.run_loadBytes (P:=P) w l ⟨g,off,none⟩ .empty b
 have d:liesAt P P.depth e (cells/P.cellsOf e) off e l.length=true:=by
  have hd:P.depth=(2*(P.types.size+Made.depth)+1)+1:=rfl;rw[hd];simp only[liesAt,Bool.or_eq_true];left;rw[hd];simp[rowAt,hc,F,sameLayout,Nat.mod_one]
 have m:¬(9223372036854775807:Int)<(l.length:Int):=by omega
 have u:IntKind.i64.max=9223372036854775807:=rfl;have A:¬(l.length:Int)<0:=by omega
 rw[mg];simp[E,asInt,asIntOf,u,m,A,hl,variablesAt,C,elemOf,run_underlying hp,d,hlb]
theorem Fo (hi:Inv O V w) {ts:Array TypeId} {ty:TypeId} {p n:J} {yp yn:Value} {s:List Nat} {V':N} (h:xH P V ts[0]? p n=some (s,V')) (hp:VR O p yp) (d:VR O n yn):
  ∃z w',(Builtin.unsafeString_ ts ty #[yp,yn]).run P w= .ok z w'/\VR O (.str s) z/\Inv O V' w'/\eF O V w O V' w':=by
 unfold xH at h;split at h
 ·rename_i k;simp only[VR] at d;subst d;rw[bu] at h;split at h
  ·rename_i h0;have:=nB h0;subst this;split at h
   ·rename_i Q R pt A;cases h;simp only[VR] at hp;subst hp;exact⟨_,w,jG A _,by simp only[VR];exact⟨_,Z,Z⟩,hi,eF.refl _ _ _⟩
   ·rename_i Q R pt b off A;cases h;simp only[VR] at hp;obtain⟨l,hl,rfl⟩:=hp;exact⟨_,w,jG A _,by simp only[VR];exact⟨_,Z,Z⟩,hi,eF.refl _ _ _⟩
   cases h
  rename_i h0;rw[Nat.beq_eq] at h0;split at h
  ·rename_i Q R pt b off A;split at h
   ·rename_i u3 u4 u cells e hu hb;rw[bu] at h;split at h
    ·rename_i hc;simp only[bA_,Nat.beq_eq,nE_,bT] at hc;obtain⟨rfl,E,hle,ab⟩:=hc;split at h
     ·rename_i s' T;cases h;simp only[VR] at hp;obtain⟨l,hl,rfl⟩:=hp;rw[dp,dF] at T;obtain⟨k1,k2,U⟩:=BA T;have ac:s.length=k:=by grind
      obtain⟨c,fr,F,G,I,K,ad⟩:=hi.row hb hl;obtain⟨ys,ai,L,aa⟩:=hi.piece hb hl off k hle
      have M:∀n∈s,(UInt8.ofNat n).toNat=n:=fun n d=>by
       grind [UInt8.toNat_ofNat']
      have hlen:(s.map UInt8.ofNat).length=k:=by grind
      have r:=qy (P:=P) (w:=w) (ty:=ty) A hu E l.da (l.sh+off) c.size (by simp[World.shape?,F]) (s.map UInt8.ofNat) (by grind) (by rw[hlen];omega) (by rw[hlen];omega)
       (fun j x hx=>by
        rw[gM_] at hx;cases hj:s[j]? with
        | none=>grind
        | some m=>
         rw[hj] at hx;cases hx;have h1:=U j m hj;obtain⟨y,hy,al⟩:=L.get h1
         grind [VR])
      rw[hlen] at r;have hne:¬k=0:=h0
      have hw:∃fr',(w.freeze ⟨l.da,l.sh+off,none⟩ k).heap[l.da]? =some (.cells c e fr'):=by
       unfold World.freeze
       grind
      obtain⟨fr',hw⟩:=hw
      have C:∀r,r≠l.da->(w.freeze ⟨l.da,l.sh+off,none⟩ k).heap[r]? =w.heap[r]?:=fun r hr=>by
       unfold World.freeze
       grind
      obtain⟨W,X⟩:=hi.FE hb hl Z (o':=.row cells e true) hw ⟨c,fr',Z,G,I,K,fun h=>by cases h⟩ C (by unfold World.freeze;rw[if_neg hne];simp) (by unfold World.freeze;rw[if_neg hne]) (by unfold World.freeze;rw[if_neg hne]) (by unfold World.freeze;rw[if_neg hne];exact⟨Z,nR_ _⟩);refine⟨_,_,r,?_,W,X⟩;simp only[VR];refine⟨_,Z,?_⟩;unfold ga;simp only[List.map_map]
      conv=>rhs;rw[<-List.map_id s]
      exact List.map_congr_left fun n d=>M n d
     cases h
    cases h
   cases h
  cases h
 cases h
theorem BB (hi:Inv O V w) {src dst:TypeId} {x v:J} {y:Value} {V':N} (h:mq P V src dst x= .val v V') (hx:VR O x y):
  ∃z w' ρ',(convert src dst y).run P w= .ok z w'/\VR ρ' v z/\Inv ρ' V' w'/\eF O V w ρ' V' w':=by
 unfold mq at h;split at h
 ·rename_i e s K hd;split at h
  ·rename_i he;rw[bu] at h;split at h
   ·rename_i ab;cases h;simp only[VR] at hx;obtain⟨bs,rfl,d⟩:=hx;have A:bs.size<=grownCap w bs.size 0 e:=grownCap_ge _ _ _ _
    have E:(Lib.bytesCells w e bs).size=grownCap w bs.size 0 e:=by
     unfold Lib.bytesCells
     simp_all
    have hlen:di s=bs.size:=iV d;have aa:(x8 (fun c=>J.int .u8 (Int.ofNat c)) s).length=bs.size:=by rw[kQ,lM_,<-bT,hlen]
    have L:fR O ⟨w.heap.size,0,grownCap w bs.size 0 e⟩ (.row (x8 (fun c=>J.int .u8 (Int.ofNat c)) s) e true) (.cells (Lib.bytesCells w e bs) e ((Lib.bytesCells w e bs).size,(Lib.bytesCells w e bs).size+1)):=by
     refine⟨_,_,Z,by simp[E],by simp_all,fun i v hv=>?_,fun h=>by cases h⟩;rw[kQ,gM_] at hv;cases C:s[i]? with
     | none=>simp_all
     | some m=>
      rw[C] at hv;cases hv;have u:(bs.data.toList.map UInt8.toNat)[i]? =some m:=by unfold ga at d;rw[d];exact C
      rw[gM_] at u;cases hq:bs.data.toList[i]? with
      | none=>simp_all
      | some b=>
       rw[hq] at u;cases u;have F:bs.data[i]? =some b:=by simp_all
       have ac:i<bs.data.size:=(aS_.1 F).1;refine⟨.int .u8 b.toNat,?_,by simp only[VR];rfl⟩;unfold Lib.bytesCells
       grind
    have hi1:=hi.drew;obtain⟨G,I⟩:=hi1.alloc (l:=⟨w.heap.size,0,grownCap w bs.size 0 e⟩) (x:=.cells (Lib.bytesCells w e bs) e ((Lib.bytesCells w e bs).size,(Lib.bytesCells w e bs).size+1)) Z L
    have hw:(w.drew.alloc (.cells (Lib.bytesCells w e bs) e ((Lib.bytesCells w e bs).size,(Lib.bytesCells w e bs).size+1)))=Lib.bytesWorld w e bs:=by
     unfold Lib.bytesWorld World.freeze;rw[if_neg oM]
     have:∀(h:Array Obj) (a b:Obj) (f:Obj->Obj),f a=b->(h.push a).modify h.size f=h.push b:=fun h a b f e=>by
      grind
     simp only[World.alloc,World.drew]
     simp_all
    rw[hw] at G I;refine⟨_,_,_,Lib.run_convert_string_bytes w src dst e bs K hd he,?_,G,(eF.drew O V w).trans I⟩;simp only[VR];refine⟨_,Ren.cy _ _ _,.inl ⟨grownCap w bs.size 0 e,by rw[hlen],by rw[hlen];exact A,by simp⟩⟩
   cases h
  cases h
 cases h
theorem DY (P:Program) (V:N) (src dst:TypeId) (x:J) (v:J) (V':N):mq P V src dst x≠ .jE v V':=by
 unfold mq
 grind
theorem rf (P:Program) (V:N) (src dst:TypeId) (x:J):∀f args V',mq P V src dst x≠ .enter f args V'/\mq P V src dst x≠ .round f args V'/\mq P V src dst x≠ .skip V':=by
 intro f args V';unfold mq
 grind
end
section
variable {P:Program} {O:Ren} {V:N} {w:World}
theorem ui {x y:J} {a c:Value} (h:ry x y=some true) (hx:VR O x a) (hy:VR O y c) (n:Nat):Instr.sameBits n a c=true:=by
 unfold ry at h;split at h
 ·simp only[VR] at hx hy;subst hx;subst hy;simp only[oJ_,oA] at h;simp only[Instr.sameBits,h]
 ·rename_i j a' k b';simp only[bu] at h;split at h
  ·rename_i hk;have:=oC hk;subst this;simp only[oJ_,dv,decide_eq_true_eq] at h
   grind [VR,Instr.sameBits]
  cases h
 ·simp only[VR] at hx hy;obtain⟨p,rfl,hp⟩:=hx;obtain⟨q,rfl,hq⟩:=hy
  grind [nb,Instr.sameBits,beq_toListBytes]
 cases h
theorem qD:∀{xs ys:List J} {as cs:List Value},oj xs ys=true->cT O xs as->cT O ys cs->∀n,as.length=cs.length/\((as.zip cs).all fun(x,y)=>Instr.sameBits n x y)=true
 | [],[],as,cs,_,hx,hy,n=>by rw[hx.dY,hy.dY];simp
 | [],y::ys,as,cs,h,hx,hy,n=>by cases h
 | x::xs,[],as,cs,h,hx,hy,n=>by cases h
 | x::xs,y::ys,as,cs,h,hx,hy,n=>by
  obtain⟨a,as',rfl,h1,b⟩:=hx.cons_inv;obtain⟨c,cs',rfl,d,h4⟩:=hy.cons_inv;have h':(match ry x y with | some true=>oj xs ys | _=>false)=true:=h;split at h'
  ·rename_i he;obtain⟨g1,m⟩:=qD h' b h4 n;refine⟨by simp[g1],?_⟩;simp only[List.zip_cons_cons,List.all_cons,bA_];exact⟨ui he h1 d n,m⟩
  cases h'
theorem AM {x y:J} {a c:Value} (h:sameKey x y=true) (hx:VR O x a) (hy:VR O y c) (n:Nat):Instr.sameBits (n+1) a c=true:=by
 unfold sameKey at h;split at h
 ·simp only[VR] at hx hy;obtain⟨as,rfl,hx⟩:=hx;obtain⟨cs,rfl,hy⟩:=hy;obtain⟨g1,g2⟩:=qD h hx hy n;simp only[Instr.sameBits,bA_,beq_iff_eq]
  simp_all
 grind [ui]
theorem H6 (e:eB) (es:List eB) (i:Nat):AO e es i=es.set i e:=tP _ _ _
theorem yC:∀(es:List eB) (i:Nat),vP es i=es.eraseIdx i
 | [],i=>rfl
 | e::es,0=>rfl
 | e::es,i+1=>congrArg (e::·) (yC es i)
theorem Inv.AP (hi:Inv O V w) {b:Pos} {l:Loc} {es es':List eB} {clock clock':Nat} {ys:Array MapEntry} (hb:V.m.get b=some (.map es clock)) (hl:O b=some l) (he:jv O es' ys.toList):
  ∃w',(setObj l.da (.map ys clock')).run P w= .ok () w'/\Inv O (V.setObj b (.map es' clock')) w'/\eF O V w O (V.setObj b (.map es' clock')) w':=by
 obtain⟨zs,hh,_⟩:=hi.wL hb hl;refine⟨{w with heap:=w.heap.setIfInBounds l.da (.map ys clock')},by simp[setObj,Sem.run,hh],?_⟩;have hlt:=hi.da b l hl
 exact hi.change hb hl Z Z (x:=.map ys clock') (by simp_all) ⟨ys,Z,he⟩
  (fun r hr=>by grind) (by simp) Z Z ⟨Z,nR_ _⟩
theorem sI (hi:Inv O V w) {t:TypeId} {m k v:J} {ym yk yv:Value} {V':N} (h:jY P V t m k v=some V') (hm:VR O m ym) (hk:VR O k yk) (hv:VR O v yv):
  ∃w',(Instr.mapUpdate t ym yk yv).run P w= .ok () w'/\Inv O V' w'/\eF O V w O V' w':=by
 unfold jY at h;split at h
 ·rename_i u1 u2 kt et b hu;split at h
  ·rename_i es clock hb;simp only[bu] at h;split at h
   ·rename_i d;rw[bA_] at d;obtain⟨hp,G⟩:=d;simp only[VR] at hm;obtain⟨l,hl,rfl⟩:=hm;obtain⟨ys,hh,he⟩:=hi.wL hb hl;have hck:=lk (w:=w) hp G hk false;split at h
    ·rename_i i u hf;obtain⟨r',g1,F⟩:=lz (w:=w) hp hk he hf;cases r' with
     | none=>exact F.elim
     | some q=>
     obtain⟨j,y⟩:=q;obtain⟨rfl,hy⟩:=F;rw[eU] at h;split at h
     ·rename_i e I;split at h
      ·rename_i K;cases h;obtain⟨ye,aa,e1,e2,e3⟩:=he.get I;have hsb:=AM K e1 hk 9999;have A:ys[i]? =some ye:=by simp_all
       have C:(Instr.keyThatStays (((ys[i]?).map (·.key)).getD yk) yk).run P w= .ok yk w:=by
        simp[Instr.keyThatStays,A,hsb]
       have E:(ys.modify i fun e=>{e with key:=yk,val:=yv}).toList=ys.toList.set i {key:=yk,val:=yv,born:=e.born}:=by
        apply List.ext_getElem?
        grind
       obtain⟨w',r,inv,st⟩:=hi.AP (P:=P) (clock':=clock) (es':=AO {key:=k,val:=v,born:=e.born} es i) (ys:=ys.modify i fun e=>{e with key:=yk,val:=yv}) hb hl (by
        rw[E,H6];exact he.set i hk hv Z)
       refine⟨w',?_,inv,st⟩;simp only[Instr.mapUpdate,sB_,run_underlying hu,rA,run_getObj_map hh,hck,g1,C,r]
      cases h
     cases h
    ·rename_i hf;cases h;obtain⟨r',g1,F⟩:=lz (w:=w) hp hk he hf;cases r' with
     | some q=>exact F.elim
     | none=>
     obtain⟨w',r,inv,st⟩:=hi.AP (P:=P) (clock':=clock+1) (es':=gg es [{key:=k,val:=v,born:=clock}]) (ys:=ys.push {key:=yk,val:=yv,born:=clock}) hb hl (by
      rw[dH,Array.toList_push];exact he.append ⟨_,[],Z,hk,hv,Z,Z⟩)
     refine⟨w',?_,inv,st⟩;simp only[Instr.mapUpdate,sB_,run_underlying hu,rA,run_getObj_map hh,hck,g1,r]
    cases h
   cases h
  cases h
 cases h
theorem z1 (hi:Inv O V w) {ts:Array TypeId} {ty:TypeId} {m k:J} {ym yk:Value} {V':N} (h:pO P V ts m k=some V') (hm:VR O m ym) (hk:VR O k yk):
  ∃w',(Builtin.delete_ ts ty #[ym,yk]).run P w= .ok (.tuple #[]) w'/\Inv O V' w'/\eF O V w O V' w':=by
 unfold pO at h;split at h
 ·rename_i t E;split at h
  ·rename_i u1 u2 kt et b hu;split at h
   ·rename_i es clock hb;simp only[bu] at h;split at h
    ·rename_i d;rw[bA_] at d;obtain⟨hp,C⟩:=d;simp only[VR] at hm;obtain⟨l,hl,rfl⟩:=hm;obtain⟨ys,hh,he⟩:=hi.wL hb hl;have hck:=lk (w:=w) hp C hk ys.isEmpty;split at h
     ·rename_i i u hf;cases h;obtain⟨r',g1,A⟩:=lz (w:=w) hp hk he hf;cases r' with
      | none=>exact A.elim
      | some q=>
      obtain⟨j,y⟩:=q;obtain⟨rfl,hy⟩:=A
      obtain⟨w',r,inv,st⟩:=hi.AP (P:=P) (clock':=clock) (es':=vP es i) (ys:=ys.eraseIdxIfInBounds i) hb hl (by
       rw[Array.toList_eraseIdxIfInBounds,yC];exact he.erase i)
      refine⟨w',?_,inv,st⟩;simp only[Builtin.delete_,E,List.getElem?_toArray,List.getElem?_cons_zero,List.getElem?_cons_succ,sB_,run_underlying hu,rA,run_getObj_map hh,hck,g1,r,sP_]
     ·rename_i hf;cases h;obtain⟨r',g1,A⟩:=lz (w:=w) hp hk he hf;cases r' with
      | some q=>exact A.elim
      | none=>
      obtain⟨w',r,inv,st⟩:=hi.AP (P:=P) (clock':=clock) (es':=es) (ys:=ys) hb hl he;refine⟨w',?_,inv,st⟩;simp only[Builtin.delete_,E,List.getElem?_toArray,List.getElem?_cons_zero,List.getElem?_cons_succ,sB_,run_underlying hu,rA,run_getObj_map hh,hck,g1,r,sP_]
     cases h
    cases h
   cases h
  cases h
 cases h
def HR.isVal:HR->Prop
 | .val ..=>True
 | .err _=>True
 | _=>False
theorem DT (P:Program) (V:N) (ts:Array TypeId) (s x:J):(eR P V ts s x).isVal:=by
 unfold eR;simp only[bu,grow]
 repeat' (first | trivial | split)
theorem Bw (P:Program) (V:N) (ts:Array TypeId) (s x:J):(pK P V ts s x).isVal:=by
 unfold pK;simp only[bu,grow]
 repeat' (first | trivial | split)
theorem I9 (P:Program) (V:N) (ts:Array TypeId) (s x:J):(yy P V ts s x).isVal:=by
 unfold yy;simp only[bu]
 repeat' (first | trivial | split)
theorem B7 {ov:Nat->Bool} (U:∀g,ov g=true->sT P g) (hi:Inv O V w) {ev:Operand->Option J} {f:Operand->Value} {o:Oper} {r:HR} (E:ER O ev f o.op) (h:fw P ov ev V o.op=r) (hne:∀n,r≠ .err n):
  xQ P O V w r ((execOp f o).run P w):=by
 cases F:o.op with
 | store t x y=>
  rw[F] at h E;simp only[fw] at h;cases hx:ev x with
  | none=>grind
  | some a=>
  cases hy:ev y with
  | none=>grind
  | some v=>
  rw[hx,hy] at h;dsimp only at h;cases Q:tQ P V t a v with
  | none=>grind
  | some V'=>
   rw[Q] at h;subst h;obtain⟨w',r,inv,st⟩:=C8 (P:=P) hi Q (E x (by simp[Op.operands]) a hx) (E y (by simp[Op.operands]) v hy);have:(execOp f o).run P w= .ok .skip w':=by grind [execOp,sB_,rA,sP_]
   rw[this];exact .skip inv st
 | mapUpdate t m k x=>
  rw[F] at h E;simp only[fw] at h;cases hm:ev m with
  | none=>grind
  | some a=>
  cases hk:ev k with
  | none=>grind
  | some b=>
  cases hx:ev x with
  | none=>grind
  | some v=>
  rw[hm,hk,hx] at h;dsimp only at h;cases Q:jY P V t a b v with
  | none=>grind
  | some V'=>
   rw[Q] at h;subst h;obtain⟨w',r,inv,st⟩:=sI (P:=P) hi Q (E m (by simp[Op.operands]) a hm) (E k (by simp[Op.operands]) b hk) (E x (by simp[Op.operands]) v hx);have:(execOp f o).run P w= .ok .skip w':=by grind [execOp,sB_,rA,sP_]
   rw[this];exact .skip inv st
 | insert t m k x=>
  rw[F] at h E;simp only[fw] at h;cases hm:ev m with
  | none=>grind
  | some a=>
  cases hk:ev k with
  | none=>grind
  | some b=>
  cases hx:ev x with
  | none=>grind
  | some v=>
  rw[hm,hk,hx] at h;dsimp only at h;cases Q:jY P V t a b v with
  | none=>grind
  | some V'=>
   rw[Q] at h;subst h;obtain⟨w',r,inv,st⟩:=sI (P:=P) hi Q (E m (by simp[Op.operands]) a hm) (E k (by simp[Op.operands]) b hk) (E x (by simp[Op.operands]) v hx);have:(execOp f o).run P w= .ok .skip w':=by grind [execOp,sB_,rA,sP_]
   rw[this];exact .skip inv st
 | call c=>
  rw[F] at h E;simp only[fw] at h;split at h
  ·rename_i g d;split at h
   ·rename_i T u2 y args W G;have A:∀x∈c.args.toList,∀v,ev x=some v->VR O v (f x):=fun x hx=>E x (by grind [Op.operands,Call.operands])
    have:=IT (P:=P) (w:=w) U hi h hne (E g (by simp[Op.operands,Call.operands,d]) y W) (xs:=c.args.map f) (by simpa using gd G A);simpa only[execOp,F,resolve,d] using this
   grind
  ·rename_i d;split at h
   ·rename_i T s x G;subst h;have A:∀x∈c.args.toList,∀v,ev x=some v->VR O v (f x):=fun x hx=>E x (by simp[Op.operands,Call.operands,d];simpa using hx)
    obtain⟨ys,rs,e,h1,L⟩:=(gd G A).cons_inv;obtain⟨yx,rs',rfl,R,h4⟩:=L.cons_inv;have:=h4.dY;subst this;have u:c.args.map f= #[ys,yx]:=by grind
    rw[bu] at hne;rw[bu];split at hne
    ·rename_i hc;rw[if_pos hc];have hv:=DT P V c.argTypes s x;cases C:eR P V c.argTypes s x with
     | val v V'=>
      obtain⟨z,w',ρ',g1,M,I,K⟩:=zN (P:=P) (ty:=o.type) hi C h1 R
      have:(execOp f o).run P w= .ok (.value z) w':=by
       simp only[execOp,F,resolve,d,u,sB_,sP_,rA,invoke,builtin,g1]
      rw[this];exact .val M I K
     | err n=>simp_all
     | _=>rw[C] at hv;exact hv.elim
    rename_i hc;rw[if_neg hc];have hv:=Bw P V c.argTypes s x;cases C:pK P V c.argTypes s x with
    | val v V'=>
     obtain⟨z,w',ρ',g1,M,I,K⟩:=xS (P:=P) (ty:=o.type) hi C h1 R
     have:(execOp f o).run P w= .ok (.value z) w':=by
      simp only[execOp,F,resolve,d,u,sB_,sP_,rA,invoke,builtin,g1]
     rw[this];exact .val M I K
    | err n=>simp_all
    | _=>rw[C] at hv;exact hv.elim
   grind
  ·rename_i d;split at h
   ·rename_i T s x G;have A:∀x∈c.args.toList,∀v,ev x=some v->VR O v (f x):=fun x hx=>E x (by simp[Op.operands,Call.operands,d];simpa using hx)
    obtain⟨ys,rs,e,h1,L⟩:=(gd G A).cons_inv;obtain⟨yx,rs',rfl,R,h4⟩:=L.cons_inv;have:=h4.dY;subst this;have u:c.args.map f= #[ys,yx]:=by grind
    cases C:pO P V c.argTypes s x with
    | none=>grind
    | some V'=>
     rw[C] at h;subst h;obtain⟨w',g1,I,K⟩:=z1 (P:=P) (ty:=o.type) hi C h1 R
     have:(execOp f o).run P w= .ok (.value (.tuple #[])) w':=by
      simp only[execOp,F,resolve,d,u,sB_,sP_,rA,invoke,builtin,g1]
     rw[this];exact .val (by simp only[VR];simp_all) I K
   grind
  ·rename_i d;split at h
   ·rename_i T s x G;subst h;have A:∀x∈c.args.toList,∀v,ev x=some v->VR O v (f x):=fun x hx=>E x (by simp[Op.operands,Call.operands,d];simpa using hx)
    obtain⟨ys,rs,e,h1,L⟩:=(gd G A).cons_inv;obtain⟨yx,rs',rfl,R,h4⟩:=L.cons_inv;have:=h4.dY;subst this;have u:c.args.map f= #[ys,yx]:=by grind
    have hv:=I9 P V c.argTypes s x;cases C:yy P V c.argTypes s x with
    | val v V'=>
     obtain⟨z,w',ρ',g1,M,I,K⟩:=Ee (P:=P) (ty:=o.type) hi C h1 R
     have:(execOp f o).run P w= .ok (.value z) w':=by
      simp only[execOp,F,resolve,d,u,sB_,sP_,rA,invoke,builtin,g1]
     rw[this];exact .val M I K
    | err n=>simp_all
    | _=>rw[C] at hv;exact hv.elim
   grind
  ·rename_i d;split at h
   ·rename_i T x G;have A:∀x∈c.args.toList,∀v,ev x=some v->VR O v (f x):=fun x hx=>E x (by simp[Op.operands,Call.operands,d];simpa using hx)
    obtain⟨ys,rs,e,h1,L⟩:=(gd G A).cons_inv;have:=L.dY;subst this;have u:c.args.map f= #[ys]:=by grind
    cases C:sY P V c.argTypes x with
    | none=>grind
    | some V'=>
     rw[C] at h;subst h;obtain⟨w',g1,I,K⟩:=BG (P:=P) (ty:=o.type) hi C h1
     have:(execOp f o).run P w= .ok (.value (.tuple #[])) w':=by
      simp only[execOp,F,resolve,d,u,sB_,sP_,rA,invoke,builtin,g1]
     rw[this];exact .val (by simp only[VR];simp_all) I K
   grind
  ·rename_i d;split at h
   ·rename_i T x G;have A:∀x∈c.args.toList,∀v,ev x=some v->VR O v (f x):=fun x hx=>E x (by simp[Op.operands,Call.operands,d];simpa using hx)
    obtain⟨ys,rs,e,h1,L⟩:=(gd G A).cons_inv;have:=L.dY;subst this;have u:c.args.map f= #[ys]:=by grind
    cases C:yB x with
    | none=>grind
    | some v=>
     rw[C] at h;subst h;obtain⟨z,g1,M⟩:=Eh (P:=P) (w:=w) (ts:=c.argTypes) (ty:=o.type) C h1
     have:(execOp f o).run P w= .ok (.value z) w:=by
      simp only[execOp,F,resolve,d,u,sB_,sP_,rA,invoke,builtin,g1]
     rw[this];exact .val M hi<|eF.refl _ _ _
   grind
  ·rename_i d;split at h
   ·rename_i T s x G;have A:∀x∈c.args.toList,∀v,ev x=some v->VR O v (f x):=fun x hx=>E x (by simp[Op.operands,Call.operands,d];simpa using hx)
    obtain⟨ys,rs,e,h1,L⟩:=(gd G A).cons_inv;obtain⟨yx,rs',rfl,R,h4⟩:=L.cons_inv;have:=h4.dY;subst this;have u:c.args.map f= #[ys,yx]:=by grind
    cases C:xH P V c.argTypes[0]? s x with
    | none=>grind
    | some q=>
     obtain⟨q,V'⟩:=q;rw[C] at h;subst h;obtain⟨z,w',g1,M,I,K⟩:=Fo (P:=P) (ty:=o.type) hi C h1 R
     have:(execOp f o).run P w= .ok (.value z) w':=by
      simp only[execOp,F,resolve,d,u,sB_,sP_,rA,invoke,builtin,g1]
     rw[this];exact .val M I K
   grind
  grind
 | convert src dst x=>
  rw[F] at h E;simp only[fw] at h;cases hx:ev x with
  | none=>grind
  | some a=>
   rw[hx] at h;dsimp only at h;cases C:mq P V src dst a with
   | val v V'=>
    rw[C] at h;subst h;obtain⟨z,w',ρ',g1,M,I,K⟩:=BB (P:=P) hi C (E x (by simp[Op.operands]) a hx);have:(execOp f o).run P w= .ok (.value z) w':=by grind [execOp,sB_,rA,sP_]
    rw[this];exact .val M I K
   | err n=>grind
   | skip V'=>exact absurd C (rf P V src dst a 0 [] V').2.2
   | enter g args V'=>exact absurd C (rf P V src dst a g args V').1
   | round g args V'=>exact absurd C (rf P V src dst a g args V').2.1
   | jE q V'=>exact absurd C (DY P V src dst a q V')
 | panic x=>
  rw[F] at h E;simp only[fw] at h;split at h
  ·rename_i t v hx;subst h;have hv:=E x (by simp[Op.operands]) _ hx;have hv':=hv;simp only[VR] at hv';obtain⟨y,hf,_⟩:=hv'
   have:(execOp f o).run P w= .halt (.panic<|f x) w:=by
    simp only[execOp,F,hf,Instr.panic,sB_];rfl
   rw[this];exact .jE hv
  grind
 | _=>rw[F] at h;exact absurd h.symm<|hne 16
end
inductive Ex where
 | normal
 | exit (id:Nat)
 | goto (l:Nat)
 | ret
 | jE (v:J)
inductive DE where
 | mark (b:Pos)
 | call (f:Nat) (args ca:List J)
inductive CR where
 | ok (e:Ex) (t:PT J) (d:List DE) (V:N)
 | err (n:Nat)
inductive KR where
 | ret (v:J) (V:N)
 | jE (v:J) (V:N)
 | err (n:Nat)
inductive Kind where
 | pure | read | alloc | kh
def isMap (P:Program) (t:Option TypeId):Bool:=
 match t with
 | some t=>match P.underlying t with | some (.map _ _)=>true | _=>false
 | none=>false
def toStr (P:Program) (src dst:TypeId):Bool:=
 match nK P src,nK P dst with
 | some (.slice _),some .string=>true
 | some (.pointer _),some .unsafePointer=>true
 | some .unsafePointer,some (.pointer _)=>true
 | _,_=>false
def ofStr (P:Program) (src dst:TypeId):Bool:=
 match nK P src,nK P dst with
 | some .string,some (.slice _)=>true
 | _,_=>false
def kindOf (P:Program):Op->Kind
 | .convert src dst _=>bif toStr P src dst then .read else(bif ofStr P src dst then .kh else .pure)
 | .load .. | .lookup ..=>.read
 | .alloc .. | .box .. | .buildSlice .. | .makeSlice .. | .makeMap ..=>.alloc
 | .store .. | .mapUpdate .. | .insert ..=>.kh
 | .call c=>match c.callee with
  | .builtin .len=>bif isMap P c.argTypes[0]? then .read else .pure
  | .builtin .min | .builtin .max | .builtin .cap=>.pure
  | _=>.kh
 | .defer _ | .panic _=>.kh
 | _=>.pure
structure ME where
 f:Nat
 args:List J
 next:Nat
 l:List (Nat×cu)
 v:J
 next':Nat
 l':List (Nat×cu)
structure Cx where
 gl:Nat
 ov:Nat->Bool
 fk:Nat->Bool
 Ld:Nat->List J->Option J
 laid:List (Nat×List J)
 mem:List Nat:=[]
 stop:Nat->List J->N->Option Nat:=fun _ _ _=>none
 x6:Nat->List J->N->Option (J×N):=fun _ _ _=>none
def bn (G:Cx) (t:PT J):Operand->Option J
 | .tmp k=>t.get (posOf k)
 | .const v=>nP v
 | .global g=>bif Nat.ble (Nat.succ g) G.gl then some (.ptr (posOf g) 0) else none
 | .func f=>some (.func f [] [])
def yY:Op->Nat
 | .move ..=>1
 | .assign ..=>2
 | .pick ..=>3
 | .alloc ..=>4
 | .box ..=>5
 | .build ..=>6
 | .buildSlice ..=>7
 | .insert ..=>8
 | .load ..=>9
 | .store ..=>10
 | .ready ..=>11
 | .waits ..=>12
 | .nilCheck ..=>13
 | .binOp ..=>14
 | .unOp ..=>15
 | .convert ..=>16
 | .sliceToArrayPointer ..=>17
 | .makeInterface ..=>18
 | .makeFunc ..=>19
 | .makeMap ..=>20
 | .makeChan ..=>21
 | .makeSlice ..=>22
 | .slice ..=>23
 | .fieldAddr ..=>24
 | .field ..=>25
 | .indexAddr ..=>26
 | .index ..=>27
 | .lookup ..=>28
 | .mapUpdate ..=>29
 | .mapEntry ..=>30
 | .entryStore ..=>31
 | .range ..=>32
 | .next ..=>33
 | .entry ..=>34
 | .typeAssert ..=>35
 | .extract ..=>36
 | .call ..=>37
 | .go ..=>38
 | .defer ..=>39
 | .panic ..=>40
 | .send ..=>41
 | .recv ..=>42
 | .select ..=>43
def dM (P:Program) (G:Cx) (ev:Operand->Option J) (V:N) (op:Op):HR:=
 match kindOf P op with
 | .pure=>match du P ev op with | some v=>.val v V | none=>.err (Nat.add 1000<|yY op)
 | .read=>match eY P ev V op with | some v=>.val v V | none=>.err (Nat.add 2000<|yY op)
 | .alloc=>match eZ P ev op with | some (ob,mk)=>.val (mk.of V.next) (V.alloc ob) | none=>.err (Nat.add 3000<|yY op)
 | .kh=>fw P G.ov ev V op
def dA (t:PT J) (n:Nat) (dst:Option Nat) (v:J):Option (PT J):=
 match dst with
 | none=>some t
 | some k=>bif Nat.ble (Nat.succ k) n then some (t.put (some v)<|posOf k) else none
def unit:J:=.tuple []
def bF (ops:Array Oper) (t:PT J) (o:Oper):Option Bool:=
 match o.guard with
 | none=>some true
 | some (j,want)=>match(ops[j]?).bind (·.dst) with
  | some k=>match t.get (posOf k) with
   | some (.bool b)=>some (bif b then want else(bif want then false else true))
   | some (.tuple _)=>some false
   | _=>none
  | none=>some false
abbrev jx:=Code->PT J->Nat->List DE->Option Pos->N->CR
def tJ (n:Nat) (ks:List Nat) (vs:List J) (t:PT J):Option (PT J):=
 List.rec (motive:=fun _=>List J->PT J->Option (PT J)) (fun vs t=>List.rec (motive:=fun _=>Option<|PT J) (some t) (fun _ _ _=>none) vs)
  (fun k _ ih vs t=>List.rec (motive:=fun _=>Option<|PT J) none (fun v r _=>match dA t n (some k) v with | some t'=>ih r t' | none=>none) vs) ks vs t
def tu:Ex->Option Code
 | .normal=>none
 | .ret=>some .ret
 | .exit id=>some (.exit id)
 | .goto g=>some (.goto g)
 | .jE _=>none
def yR:Ex->Bool
 | .jE _=>true
 | _=>false
def sC:Ex->LoopState
 | .normal=>.ready
 | _=>.done
def Bg:Ex->Bool
 | .normal=>true
 | _=>false
def lN (ih:jx) (l:Pos) (args:List J) (V:N):KR:=
 match V.m.get l with
 | some (.loop _ _ tmps n params assign body _)=>
  match tJ n params args tmps with
  | some t=>match ih assign t n [] (some l) V with
   | .ok .normal t [] V1=>match V1.m.get l with
    | some (.loop .ready p tmps n' params assign body' df)=>
     match ih body t n [] (some l) (V1.setObj l (.loop .busy p tmps n' params assign body' df)) with
     | .ok e _ [] V2=>bif yR e then .err 67 else match V2.m.get l with
      | some (.loop _ _ tmps n params assign body df)=>.ret (.bool<|Bg e) (V2.setObj l (.loop (sC e) (tu e) tmps n params assign body df))
      | _=>.err 61
     | .err k=>.err k
     | _=>.err 62
    | _=>.err 63
   | .err k=>.err k
   | _=>.err 64
  | none=>.err 65
 | _=>.err 66
def qA (n:Nat) (args:List J):Option (PT J):=
 List.rec (motive:=fun _=>Nat->PT J->Option (PT J)) (fun _ t=>some t) (fun v _ ih k t=>match dA t n (some k) v with | some t'=>ih (Nat.succ k) t' | none=>none) args 0 .leaf
def fm (P:Program) (t:PT J) (V:N):ResultVar->Option J
 | .tmp k=>t.get (posOf k)
 | .cell k ty=>match t.get (posOf k) with
  | some (.ptr b off)=>match V.m.get b with
   | some (.row cells _ _)=>match dN P ty with
    | some (some n)=>bif Nat.ble (off+n) (di cells) then some (.agg<|takeN (dK cells off) n) else none
    | some none=>nth cells off
    | none=>none
   | _=>none
  | _=>none
def dU (P:Program) (fn:Func) (t:PT J) (V:N):Option J:=
 match cM (fm P t V) fn.results.toList with
 | some [v]=>some v
 | some vs=>some (.tuple vs)
 | none=>none
inductive Md where
 | ret
 | jE (v:J)
 | Rp (v:J)
def tw (P:Program) (G:Cx) (ih:jx) (d:List DE):Md->N->Option (Md×N):=
 List.rec (motive:=fun _=>Md->N->Option (Md×N)) (fun md V=>some (md,V))
  (fun e _ k md V=>match e with
   | .mark b=>match V.m.get b with
    | some .mark=>k md (V.setObj b .dead)
    | _=>none
   | .call _ _ _=>none) d
def xW (P:Program) (G:Cx) (ih:jx) (fn:Func) (md:Md) (t:PT J) (d:List DE) (V:N):KR:=
 match tw P G ih d md V with
 | some (.ret,V)=>match dU P fn t V with | some v=>.ret v V | none=>.err 70
 | some (.jE v,V)=>.jE v V
 | _=>.err 71
def lV (P:Program) (G:Cx) (ih:jx) (f:Nat) (args:List J) (V:N):KR:=
 match P.funcs[f]? with
 | some fn=>match fn.body,qA fn.ntmps args with
  | some c,some t=>match ih c t fn.ntmps [] none V with
   | .ok .normal t d V=>xW P G ih fn .ret t d V
   | .ok .ret t d V=>xW P G ih fn .ret t d V
   | .ok (.jE v) t d V=>xW P G ih fn (.jE v) t d V
   | .err k=>.err k
   | _=>.err 72
  | _,_=>.err 73
 | none=>.err 74
def tC (r:KR):KR:=
 match r with
 | .jE _ _=>.err 69
 | r=>r
def qJ:J->Bool
 | .bool _ | .int _ _ | .str _ | .nilPtr | .au | .gT | .nilFunc | .nilIface=>true
 | _=>false
def fj (l:List J):Bool:=List.rec (motive:=fun _=>Bool) true (fun v _ r=>bif qJ v then r else false) l
def Ac (x y:J):Bool:=
 match x,y with
 | .bool a,.bool b=>bif a then b else(bif b then false else true)
 | .int j a,.int k b=>sQ j k && bM a b
 | .str a,.str b=>xY a b
 | .nilPtr,.nilPtr=>true
 | .au,.au=>true
 | .gT,.gT=>true
 | .nilFunc,.nilFunc=>true
 | .nilIface,.nilIface=>true
 | _,_=>false
def pP (xs ys:List J):Bool:=
 List.rec (motive:=fun _=>List J->Bool) (fun ys=>List.rec (motive:=fun _=>Bool) true (fun _ _ _=>false) ys)
  (fun x _ ih ys=>List.rec (motive:=fun _=>Bool) false (fun y r _=>bif Ac x y then ih r else false) ys) xs ys
def Gz (n:Nat) (v:J):List J:=Nat.rec (motive:=fun _=>List J) [] (fun _ l=>v::l) n
def fp (V:N) (b:Pos) (o:cu) (vb:Pos) (o':cu):N:={next:=V.next,m:=(PT.leaf.put (some o) b).put (some o') vb}
def vf (vb:Pos) (vc:List J) (ve e sz:Nat) (r:KR) (ok:nL->Nat->Bool):Option (Nat×List J):=
 match r with
 | .ret (.slice b1 o1 n1 c1) σ1=>
  match σ1.m.get b1,σ1.m.get vb with
  | some (.row cs1 e1 false),some (.row vc1 ve1 false)=>
   bif ok c1 n1 && ((bif sv b1 vb then false else true) && (pP vc vc1 && (Nat.beq ve ve1 && (Nat.beq e e1 && (Nat.ble 1 n1 && (Nat.ble (o1+n1*sz) (di cs1) && fj (takeN (dK cs1 o1) (n1*sz)))))))) then
    some (n1,takeN (dK cs1 o1) (n1*sz))
   else none
  | _,_=>none
 | _=>none
def EA (sz:Nat) (c:nL) (_:Nat):Bool:=
 match c with
 | .upto s=>Nat.beq s sz
 | _=>false
def Al (sz:Nat) (c:nL) (n:Nat):Bool:=
 match c with
 | .least a s=>Nat.beq s sz && Nat.ble n a
 | _=>false
def Jq (P:Program) (G:Cx) (ih:jx) (f:Nat) (args:List J) (V:N):KR:=
 match args with
 | [.slice b off n (.upto sz),i,.slice vb voff m (.known mc)]=>
  match V.m.get b,V.m.get vb with
  | some (.row cells e false),some (.row vc ve false)=>
   bif (bif sv b vb then false else true) && (Nat.ble 1 n && (Nat.beq m 1 && (qJ i && (fj vc && Nat.ble (off+n*sz) (di cells))))) then
    match vf vb vc ve e sz (lV P G ih f [.slice b off n (.known n),i,.slice vb voff m (.known mc)]<|fp V b (.row cells e false) vb (.row vc ve false)) (EA sz),
     vf vb vc ve e sz (lV P G ih f [.slice b off n (.least (Nat.succ n) sz),i,.slice vb voff m (.known mc)]<|fp V b (.row (gg (takeN cells (off+n*sz))<|Gz sz .any) e false) vb (.row vc ve false)) (Al sz) with
    | some (n1,r1),some (n2,r2)=>bif Nat.beq n1 n2 && pP r1 r2 then .ret (.slice V.next 0 n1 (.upto sz)) ((V.drop b).alloc (.row r1 e false)) else .err 75
    | _,_=>.err 76
   else .err 77
  | _,_=>.err 78
 | _=>lV P G ih f args V
def tv (gl:Nat) (V:N) (l:List (Nat×List J)):Bool:=
 List.rec (motive:=fun _=>Bool) true (fun x _ r=>bif Nat.ble (Nat.succ x.1) gl then(match V.m.get x.1 with
  | some (.row cells _ true)=>bif fj x.2 then(bif pP cells x.2 then r else false) else false
  | _=>false) else false) l
def dL (x y:J):Bool:=
 match x,y with
 | .agg xs,.agg ys=>beqL xs ys
 | x,y=>lf x y
where
 beqP (p q:Pos):Bool:=Nat.beq p q
 beqC (c d:nL):Bool:=
  match c,d with
  | .known a,.known b=>Nat.beq a b
  | .upto a,.upto b=>Nat.beq a b
  | _,_=>false
 lf (x y:J):Bool:=
  match x,y with
  | .bool a,.bool b=>bif a then b else(bif b then false else true)
  | .int j a,.int k b=>sQ j k && bM a b
  | .str a,.str b=>xY a b
  | .nilPtr,.nilPtr=>true
  | .tok a,.tok b=>Nat.beq a b
  | .ptr b o,.ptr b' o'=>beqP b b' && Nat.beq o o'
  | .au,.au=>true
  | .slice b o l c,.slice b' o' l' c'=>beqP b b' && Nat.beq o o' && Nat.beq l l' && beqC c c'
  | .gT,.gT=>true
  | .map b,.map b'=>beqP b b'
  | .nilFunc,.nilFunc=>true
  | .nilIface,.nilIface=>true
  | .func f [] [],.func g [] []=>Nat.beq f g
  | .func f [] [.ptr b o],.func g [] [.ptr b' o']=>Nat.beq f g && beqP b b' && Nat.beq o o'
  | _,_=>false
 beqL (xs ys:List J):Bool:=
  List.rec (motive:=fun _=>List J->Bool) (fun ys=>List.rec (motive:=fun _=>Bool) true (fun _ _ _=>false) ys)
   (fun x _ ih ys=>List.rec (motive:=fun _=>Bool) false (fun y r _=>bif lf x y then ih r else false) ys) xs ys
def JK (l:List (Nat×List J)) (E:Nat->TypeId):PT cu:=l.foldl (fun m x=>m.put (some (.row x.2 (E x.1) true)) (posOf x.1)) .leaf
def atEnd (args:List J):Bool:=
 match args with
 | [.slice _ _ n _,.int _ (.ofNat j),_]=>Nat.beq j n
 | _=>false
def Jr (P:Program) (G:Cx) (ih:jx) (f:Nat) (args:List J) (V:N):KR:=bif atEnd args then lV P G ih f args V else Jq P G ih f args V
def kb (P:Program) (G:Cx) (ih:jx) (f:Nat) (args:List J) (V:N):KR:=
 match G.x6 f args V with
 | some r=>.ret r.1 r.2
 | none=>match G.Ld f args with
 | some v=>bif fj args && (qJ v && tv G.gl V G.laid) then .ret v V else .err 79
 | none=>match G.stop f args V with
   | some c=>.err c
   | none=>bif G.fk f then tC (Jr P G ih f args V) else lV P G ih f args V
def kA (P:Program) (G:Cx) (ih:jx) (r:HR):KR:=
 match r with
 | .val v V=>.ret v V
 | .skip V=>.ret unit V
 | .enter f args V=>kb P G ih f args V
 | .round l args V=>lN ih l args V
 | .jE v V=>.jE v V
 | .err e=>.err e
def MK (pn:Bool) (v:J) (t:PT J) (V:N):CR:=bif pn then .ok (.jE v) t [] V else .err 69
def ig (P:Program) (G:Cx) (ih:jx) (pn:Bool) (ops:Array Oper) (n:Nat) (o:Oper) (t:PT J) (V:N) (k:PT J->N->CR):CR:=
 match bF ops t o with
 | some true=>match kA P G ih (dM P G (bn G t) V o.op) with
  | .ret v V'=>match dA t n o.dst v with | some t'=>k t' V' | none=>.err 80
  | .jE v V'=>MK pn v t V'
  | .err e=>.err e
 | some false=>match dA t n o.dst unit with | some t'=>k t' V | none=>.err 84
 | none=>.err 85
def se (P:Program) (G:Cx) (ih:jx) (ops:Array Oper) (n:Nat) (d:List DE) (l:List Oper):PT J->N->CR:=
 List.rec (motive:=fun _=>PT J->N->CR) (fun t V=>.ok .normal t d V)
  (fun o _ k t V=>ig P G ih true ops n o t V k) l
def qZ (A:Array Nat) (i j:Nat):Bool:=(A.getD i 0).testBit j
def waits (ops:Array Oper) (i j:Nat):Bool:=((ops[i]?).map fun o=>o.after.any fun e=>Region.binds .any e && e.on == j).getD false
def Ew:Kind->Bool
 | .kh=>true
 | _=>false
def tx:Kind->Bool
 | .read | .alloc=>true
 | _=>false
def jk (P:Program) (ops:Array Oper) (i:Nat):Bool:=match(ops[i]?).map fun o=>kindOf P o.op with | some k=>Ew k | none=>false
def fK (P:Program) (ops:Array Oper) (i:Nat):Bool:=match(ops[i]?).map fun o=>kindOf P o.op with | some k=>tx k | none=>false
def slotsOf (ops:Array Oper) (o:Oper):List Nat:=
 (o.op.operands.toList.filterMap fun | .tmp k=>some k | _=>none)++(match o.guard with | some (j,_)=>((ops[j]?).bind (·.dst)).toList | none=>[])
def eO (ops:Array Oper) (i:Nat):Option Nat:=(ops[i]?).bind (·.dst)
def bit (i:Nat):Nat:=Nat.shiftLeft 1 i
def hasB (m i:Nat):Bool:=Nat.beq (Nat.land (Nat.shiftRight m i) 1) 1
def AW (m k:Nat):Bool:=Nat.beq (Nat.land m k) m
def mA (l:List Nat):Nat:=List.rec (motive:=fun _=>Nat) 0 (fun i _ r=>Nat.lor (bit i) r) l
structure Row where
 w:Nat
 h:Bool
 k:Bool
 d:Option Nat
 dm:Nat
 s:Nat
def xp (P:Program) (ops:Array Oper) (o:Oper):Row:=
 {w:=mA (o.after.toList.filterMap fun e=>if Region.binds .any e=true then some e.on else none),h:=Ew<|kindOf P o.op,k:=tx<|kindOf P o.op,d:=o.dst,dm:=mA o.dst.toList,s:=mA (slotsOf ops o)}
structure RA where
 r:Row
 a:Nat
def wT (L:List RA):Nat->Nat:=
 List.rec (motive:=fun _=>Nat->Nat) (fun _=>0) (fun x _ ih w=>Nat.lor (Bool.rec (motive:=fun _=>Nat) 0 x.a<|Nat.beq (Nat.land w 1) 1) (ih<|Nat.shiftRight w 1)) L
def KA (rows:List Row):List RA->List RA:=
 List.rec (motive:=fun _=>List RA->List RA) (fun L=>L) (fun r _ ih L=>ih (gg L [⟨r,Nat.lor r.w<|wT L r.w⟩])) rows
def iR (P:Program) (ops:Array Oper):List RA:=KA (x8 (xp P ops) ops.toList) []
def allI {α:Type} (f:Nat->α->Bool) (l:List α):Nat->Bool:=List.rec (motive:=fun _=>Nat->Bool) (fun _=>true) (fun x _ ih i=>Bool.rec (motive:=fun _=>Bool) false (ih<|Nat.succ i) (f i x)) l
def N5 {α:Type} (f:Nat->α->Bool) (l:List α):Nat->Option Nat:=List.rec (motive:=fun _=>Nat->Option Nat) (fun _=>none) (fun x _ ih i=>Bool.rec (motive:=fun _=>Option Nat) (ih<|Nat.succ i) (some i) (f i x)) l
def Qj {α:Type} (f:Nat->α->Bool) (l:List α):Nat->List Nat:=List.rec (motive:=fun _=>Nat->List Nat) (fun _=>[]) (fun x _ ih i=>Bool.rec (motive:=fun _=>List Nat) (ih<|Nat.succ i) (i::ih (Nat.succ i)) (f i x)) l
def CG (i:Nat) (x:RA) (j:Nat) (y:RA):Bool:=
 Option.rec (motive:=fun _=>Bool) true (fun k=>bif (bif hasB x.r.dm k then Nat.beq j i else true) then(bif hasB x.r.s k then(bif hasB x.a j then true else(bif x.r.k then false else(bif Nat.beq j i then true else hasB y.a i))) else true) else false) y.r.d
def Kk (i:Nat) (x:RA) (j:Nat) (y:RA):Bool:=Bool.rec (motive:=fun _=>Bool) (CG i x j y) true (Nat.beq (Nat.land (Nat.lor x.r.dm x.r.s) y.r.dm) 0)
def KK (L:List RA) (n:Nat):Bool:=
 allI (fun i x=>bif Nat.blt x.r.w (bit n) then(bif (bif x.r.k then x.r.d.isSome else true) then(bif AW x.a (Nat.lor x.r.w<|wT L x.r.w) then allI (Kk i x) L 0 else false) else false) else false) L 0
def Qv (L:List RA) (fuel:Nat):Nat->List (Nat×List Nat):=
 Nat.rec (motive:=fun _=>Nat->List (Nat×List Nat)) (fun _=>[])
  (fun _ ih D_=>Option.rec (motive:=fun _=>List (Nat×List Nat))
   (Option.rec (motive:=fun _=>List (Nat×List Nat)) [] (fun i=>(i,Option.rec (motive:=fun _=>List Nat) [] (fun x=>Qj (fun j y=>bif hasB D_ j then(bif y.r.k then(bif hasB x.a j then false else true) else false) else false) L 0) (nth L i))::ih (Nat.lor D_ (bit i)))
   <|N5 (fun i x=>Bool.rec (motive:=fun _=>Bool) (AW x.r.w D_) false (hasB D_ i)) L 0)
   (fun i=>(i,[])::ih (Nat.lor D_<|bit i))<|N5 (fun i x=>Bool.rec (motive:=fun _=>Bool) (Bool.rec (motive:=fun _=>Bool) (AW x.r.w D_) false x.r.h) false (hasB D_ i)) L 0) fuel
def Jx (L:List RA) (i:Nat) (rc:List Nat) (D_:Nat) (x:RA):Bool:=
 bif hasB D_ i then false else(bif AW x.r.w D_ then(bif x.r.h then allI (fun j y=>bif hasB D_ j then(bif hasB x.a j then true else(bif y.r.k then hasB (mA rc) j else true)) else(bif Nat.beq j i then true else(bif AW y.r.w D_ then false else true))) L 0 else true) else false)
def D0 (L:List RA) (n:Nat) (p:List (Nat×List Nat)):Nat->Bool:=
 List.rec (motive:=fun _=>Nat->Bool) (fun D_=>Nat.beq D_ (Nat.sub (bit n) 1))
  (fun p _ ih D_=>Option.rec (motive:=fun _=>Bool) false (fun x=>bif Jx L p.1 p.2 D_ x then ih (Nat.lor D_<|bit p.1) else false) (nth L p.1)) p
def km (P:Program) (ops:Array Oper):List (Nat×List Nat):=Qv (iR P ops) ops.size 0
def te (P:Program) (ops:Array Oper):Bool:=bif KK (iR P ops) ops.size then D0 (iR P ops) ops.size (km P ops) 0 else false
def jQ (P:Program) (G:Cx) (ops:Array Oper) (t:PT J) (V:N) (i:Nat):Bool:=
 match ops[i]? with
 | some o=>match bF ops t o with
  | some true=>match o.dst with
   | some k=>match t.get (posOf k) with
    | some v=>match kindOf P o.op with
     | .read=>match eY P (bn G t) V o.op with | some u=>dL u v | none=>false
     | .alloc=>match eZ P (bn G t) o.op,v with
      | some (.row cs e false,.ptr),.ptr b 0=>match V.m.get b with | some (.row cs' e' false)=>Nat.beq e e' && dL.beqL cs cs' | _=>false
      | some (.row cs e false,.slice n c),.slice b 0 n' (.known c')=>match V.m.get b with | some (.row cs' e' false)=>Nat.beq e e' && dL.beqL cs cs' && Nat.beq n n' && Nat.beq c c' | _=>false
      | _,_=>false
     | _=>false
    | none=>false
   | none=>false
  | some false=>true
  | none=>false
 | none=>false
def dc (P:Program) (G:Cx) (ops:Array Oper) (t:PT J) (V:N) (l:List Nat):Bool:=
 List.rec (motive:=fun _=>Bool) true (fun i _ r=>bif jQ P G ops t V i then r else false) l
def jF (P:Program) (G:Cx) (ih:jx) (ops:Array Oper) (n:Nat) (d:List DE) (l:List (Nat×List Nat)):PT J->N->CR:=
 List.rec (motive:=fun _=>PT J->N->CR) (fun t V=>.ok .normal t d V)
  (fun p _ k t V=>match ops[p.1]? with
   | some o=>ig P G ih false ops n o t V (fun t' V'=>bif dc P G ops t' V' p.2 then k t' V' else .err 86)
   | none=>.err 87) l
def uh (P:Program) (G:Cx) (ih:jx) (ops:Array Oper) (n:Nat) (d:List DE) (t:PT J) (V:N):CR:=
 bif te P ops then jF P G ih ops n d (km P ops) t V else .err 88
def yw (c:Option J) (x y:CR):CR:=
 match c with
 | some (.bool true)=>x
 | some (.bool false)=>y
 | _=>.err 90
def uS (r:CR) (k:PT J->List DE->N->CR):CR:=
 match r with
 | .ok .normal t d V=>k t d V
 | r=>r
def q9 (id:Nat) (r:CR):CR:=
 match r with
 | .ok (.exit j) t d V=>bif Nat.beq j id then .ok .normal t d V else .ok (.exit j) t d V
 | r=>r
def E8 (r:CR):CR:=
 match r with
 | .ok (.goto _) _ _ _=>.err 98
 | r=>r
def wM (ro:Option Pos) (d:List DE) (V:N):Option (Pos×N×List DE):=
 match ro with
 | none=>some (V.next,V.alloc .mark,DE.mark V.next::d)
 | some l=>match V.m.get l with
  | some (.loop _ _ _ _ _ _ _ df)=>some (df,V,d)
  | _=>none
def DO (ih:jx) (l:Pos) (t:PT J) (n:Nat) (d:List DE) (ro:Option Pos) (V:N):CR:=
 match V.m.get l with
 | some (.loop st p tmps n' ps as bd df)=>
  match st with
  | .busy=>.err 91
  | _=>match p with
   | none=>.ok .normal t d (V.setObj l (.loop .exhausted none tmps n' ps as bd df))
   | some c=>ih c t n d ro (V.setObj l (.loop .exhausted (some c) tmps n' ps as bd df))
 | _=>.err 92
def tK (P:Program) (G:Cx) (ih:jx) (g:Operand) (ps:Array Tmp) (assign body:Code) (t:PT J) (n:Nat) (d:List DE) (ro:Option Pos) (V:N):CR:=
 match wM ro d V with
 | some (df,V1,d₁)=>
  match bn G t g with
  | some (.func f fi ca)=>bif qv P f then
    match kb P G ih f (gg fi (.yield V1.next::ca)) (V1.alloc (.loop .ready none t n ps.toList assign body df)) with
    | .ret _ V3=>DO ih V1.next t n d₁ ro V3
    | .jE _ _=>.err 89
    | .err e=>.err e
   else .err 93
  | _=>.err 94
 | none=>.err 95
def Qi (o:Oper):Bool:=
 match o.op with
 | .defer _=>true
 | _=>false
def lD (ops:List Oper):Bool:=ops.any Qi
def BU (d:List DE) (r:CR):CR:=
 match r with
 | .ok (.jE v) t _ V=>.ok (.jE v) t d V
 | r=>r
def GJ (P:Program) (G:Cx) (ih:jx) (c:Code) (t:PT J) (n:Nat) (d:List DE) (ro:Option Pos) (V:N):CR:=
 match c with
 | .skip | .label _=>.ok .normal t d V
 | .region _ ops draw=>bif draw then uh P G ih ops n d t V else bif lD ops.toList then .err 96 else BU d (se P G ih ops n d ops.toList t V)
 | .seq a b=>uS (ih a t n d ro V) (fun t d V=>ih b t n d ro V)
 | .cond c a b=>yw (bn G t c) (ih a t n d ro V) (ih b t n d ro V)
 | .block id b=>q9 id (ih b t n d ro V)
 | .scope b=>E8 (ih b t n d ro V)
 | .loop b=>uS (ih b t n d ro V) (fun t d V=>ih (.loop b) t n d ro V)
 | .exit id=>.ok (.exit id) t d V
 | .ret=>.ok .ret t d V
 | .rangeFunc g ps assign body=>tK P G ih g ps assign body t n d ro V
 | _=>.err 99
def ea (P:Program) (G:Cx) (fuel:Nat):jx:=Nat.rec (motive:=fun _=>jx) (fun _ _ _ _ _ _=>.err 100) (fun _ ih=>GJ P G ih) fuel
def v7 (P:Program) (G:Cx) (fuel:Nat) (f:Nat) (args:List J) (V:N):KR:=kb P G (ea P G fuel) f args V
def kN:Option Nat->Fence
 | none=>Fence.wide
 | some l=>Fence.wide.inRound l
theorem l5 (rl:Option Nat) (f:FuncId):(kN rl).fn f:=by cases rl<;>trivial
theorem Eo (rl:Option Nat):(kN rl).depth=none:=by cases rl<;>rfl
theorem Ep (rl:Option Nat):(kN rl).round=rl:=by cases rl<;>rfl
theorem pR (rl:Option Nat) (m:Nat):(kN rl).depth.isSome=true->1<=m:=by rw[Eo];intro h;cases h
theorem rB {m:Nat} {P:Program} {f:FuncId} {args:Array Value} {w:World} {R:Ending->World->Prop} (rl:Option Nat) (h:CallsIn Fence.wide m P f args w R):CallsIn (kN rl) m P f args w R:=by
 cases rl with
 | none=>exact h
 | some l=>exact h.inRound l
theorem Mj (rl:Option Nat) (l:Nat):(kN rl).inRound l=kN (some l):=by cases rl<;>rfl
def DR (O:Ren):List DE->List Deferred->Prop
 | [],ds=>ds= []
 | .mark b::d,ds=>∃l r,O b=some l/\ds= {target:=.collected l.da,args:= #[]}::r/\DR O d r
 | .call f args ca::d,ds=>∃(xs cs:Array Value) (r:List Deferred),ds= {target:=.fn (.func f) cs,args:=xs}::r/\cT O args xs.toList/\cT O ca cs.toList/\DR O d r
theorem DR.mono {O ρ':Ren} (h:O.le ρ'):∀{d:List DE} {ds:List Deferred},DR O d ds->DR ρ' d ds
 | [],ds,hd=>hd
 | .mark b::d,ds,hd=>let ⟨l,r,h1,m,u⟩:=hd;⟨l,r,h _ _ h1,m,DR.mono h u⟩
 | .call f args ca::d,ds,hd=>let ⟨xs,cs,r,h1,m,u,h4⟩:=hd;⟨xs,cs,r,h1,cT.mono h _ _ m,cT.mono h _ _ u,DR.mono h h4⟩
def Mh:Ex->Exit
 | .normal=>.normal
 | .exit i=>.exit i
 | .goto i=>.goto i
 | .ret=>.ret
 | .jE _=>.normal
def Rs (O:Ren):Ex->Exit->Prop
 | .jE v,E=>∃x,E= .panic [{v:=x,recovered:=false}]/\VR O v x
 | .normal,E=>E= .normal
 | .exit i,E=>E= .exit i
 | .goto i,E=>E= .goto i
 | .ret,E=>E= .ret
def Qx (Q:Exit->Act->World->Prop) (O:Ren) (e:Ex) (a:Act) (w:World):Prop:=∀E,Rs O e E->Q E a w
def PM (O:Ren):KR->Ending->Prop
 | .ret v _,e=>∃x,e= .returned x/\VR O v x
 | .jE v _,e=>∃x,e= .panicked [{v:=x,recovered:=false}]/\VR O v x
 | .err _,_=>False
def KR.heap:KR->N
 | .ret _ V=>V
 | .jE _ V=>V
 | .err _=>⟨0,.leaf⟩
def RO (O:Ren):Option Pos->Option Nat->Prop
 | none,none=>True
 | some b,some l=>∃loc,O b=some loc/\loc.da=l
 | _,_=>False
theorem RO.mono {O ρ':Ren} (h:O.le ρ'):∀{ro:Option Pos} {rl:Option Nat},RO O ro rl->RO ρ' ro rl
 | none,none,_=>trivial
 | some _,some _,⟨loc,h1,b⟩=>⟨loc,h _ _ h1,b⟩
def GR (O:Ren) (G:Cx):Prop:=∀g,g<G.gl->∃c,O (posOf g)=some ⟨g,0,c⟩
theorem GR.mono {O ρ':Ren} {G:Cx} (h:O.le ρ') (d:GR O G):GR ρ' G:=fun g b=>let ⟨c,hc⟩:=d g b;⟨c,h _ _ hc⟩
structure hJ (w w':World):Prop where
 os:w'.os=w.os
 out:w'.output=w.output/\w.drawn<=w'.drawn
 tape:w'.tape=w.tape
 size:w.heap.size<=w'.heap.size
 same:∀r:Nat,r<w.heap.size->w'.heap[r]? =w.heap[r]?
def sS (w:World) (x:Nat×List J):Prop:=∃c e fr,w.heap[x.1]? =some (.cells c e fr)/\x.2.length<=c.size/\∀(i:Nat) (v:J),x.2[i]? =some v->∃y,c[i]? =some y/\VR (fun _=>none) v y
def FA (P:Program) (gl:Nat) (laid:List (Nat×List J)) (f:Nat) (args:List J) (v:J):Prop:=
 ∀(w:World) (xs:Array Value),gl<=w.heap.size->G9 w->(∀x∈laid,sS w x)->cT (fun _=>none) args xs.toList->Calls P f xs w fun e w'=>∃x,e= .returned x/\VR (fun _=>none) v x/\hJ w w'
structure xP (P:Program) (G:Cx):Prop where
 ov:∀g,G.ov g=true->sT P g
 Ld:∀f args v,G.Ld f args=some v->FA P G.gl G.laid f args v
 mem:∀e∈G.mem,True
 x6:∀f args V v V',G.x6 f args V=some (v,V')->∀(O:Ren) (w:World) (xs:Array Value),Inv O V w->GR O G->cT O args xs.toList->Calls P f xs w fun e w'=>∃x ρ',e= .returned x/\VR ρ' v x/\Inv ρ' V' w'/\eF O V w ρ' V' w'
structure Sound (P:Program) (G:Cx) (ih:jx):Prop where
 cx:xP P G
 run:∀(c:Code) (t:PT J) (n:Nat) (d:List DE) (ro:Option Pos) (V:N) (e:Ex) (t':PT J) (d':List DE) (V':N),ih c t n d ro V= .ok e t' d' V'->
  ∀(O:Ren) (w:World) (a:Act) (rl:Option Nat) (m:Nat) (Q:Exit->Act->World->Prop),Inv O V w->GR O G->TR O t n a.tmps->DR O d a.defers->RO O ro rl->
   (∀(ρ':Ren) (w':World) (a':Act),Inv ρ' V' w'->eF O V w ρ' V' w'->TR ρ' t' n a'.tmps->DR ρ' d' a'.defers->Qx Q ρ' e a' w')->c.wpIn (kN rl) m P Q a w
section
variable {P:Program} {G:Cx} {O:Ren} {V:N} {w:World}
theorem TR.set {t:PT J} {n k:Nat} {tmps:Array Value} {v:J} {x:Value} (h:TR O t n tmps) (hk:k<n) (hv:VR O v x):TR O (t.put (some v)<|posOf k) n (tmps.setIfInBounds k x):=by
 refine⟨by simpa using h.1,fun j u hu=>?_⟩
 by_cases e:j=k
 ·subst e;rw[PT.de] at hu;cases hu;refine⟨hk,?_⟩;have:j<tmps.size:=by rw[h.1];exact hk
  simp_all
 rw[PT.db _ _ _ _ (fun h'=>e (p8 h'))] at hu;obtain⟨h1,b⟩:=h.2 j u hu;refine⟨h1,?_⟩
 have:(tmps.setIfInBounds k x).getD j undef=tmps.getD j undef:=by
  simp only[Array.getD_eq_getD_getElem?,Array.getElem?_setIfInBounds]
  grind
 rw[this];exact b
theorem qc {t t':PT J} {n k:Nat} {v:J} (h:dA t n (some k) v=some t'):k<n/\t'=t.put (some v) (posOf k):=by
 unfold dA at h;simp only[bu] at h;split at h
 ·rename_i hk;cases h;exact⟨Nat.le_of_ble_eq_true hk,Z⟩
 cases h
theorem TR.put {t t':PT J} {n:Nat} {a:Act} {dst:Option Tmp} {v:J} {x:Value} (h:TR O t n a.tmps) (hp:dA t n dst v=some t') (hv:VR O v x):TR O t' n (a.put dst x).tmps:=by
 cases dst with
 | none=>cases hp;exact h
 | some k=>
  obtain⟨hk,rfl⟩:=qc hp;exact h.set hk hv
theorem put_defers (a:Act) (dst:Option Tmp) (x:Value):(a.put dst x).defers=a.defers:=by cases dst<;>rfl
theorem uW:VR O unit undef:=by simp only[unit,VR];exact⟨_,Z,cT.nil⟩
theorem iE {t:PT J} {n:Nat} {a:Act} {x:Operand} {v:J} (d:GR O G) (m:TR O t n a.tmps) (h:bn G t x=some v):VR O v (a.eval x):=by
 cases x with
 | tmp k=>exact(m.2 k v h).2
 | const c=>exact oV h
 | global g=>
  simp only[bn,bu] at h;split at h
  ·rename_i b;cases h;obtain⟨c,hc⟩:=d g (Nat.le_of_ble_eq_true b);simp only[VR];exact⟨_,hc,by simp[Act.eval]⟩
  cases h
 | func f=>
  cases h;simp only[VR];exact⟨_,_,Z,cT.nil,cT.nil⟩
theorem NH {t:PT J} {n:Nat} {a:Act} (op:Op) (b:GR O G) (d:TR O t n a.tmps):ER O (bn G t) a.eval op:=fun _ _ _ hv=>iE b d hv
theorem zw {ops:Array Oper} {t:PT J} {o:Oper} {b:Bool} {tmps:Array Value} (h:bF ops t o=some b)
  (A:∀j want k,o.guard=some (j,want)->(ops[j]?).bind (·.dst)=some k->∀v,t.get (posOf k)=some v->k<tmps.size/\VR O v (tmps.getD k undef)):
  Region.wanted o (yielded ops tmps)=b:=by
 unfold bF at h;unfold Region.wanted;cases u:o.guard with
 | none=>simp_all
 | some jw=>
  obtain⟨j,want⟩:=jw;rw[u] at h;dsimp only at h⊢;cases hk:(ops[j]?).bind (·.dst) with
  | none=>
   rw[hk] at h;cases h;simp[yielded,hk]
  | some k=>
   rw[hk] at h;dsimp only at h;cases hv:t.get (posOf k) with
   | none=>rw[hv] at h;cases h
   | some v=>
    rw[hv] at h;obtain⟨aa,m⟩:=A j want k u hk v hv
    have d:tmps[k]? =some (tmps.getD k undef):=by
     simp_all
    generalize tmps.getD k undef=x at m d;cases v with
    | bool c=>
     simp only[VR] at m;subst m;simp only[yielded,hk,Option.bind_some,d];cases h
     grind
    | tuple cs=>
     simp only[VR] at m;obtain⟨y,rfl,_⟩:=m;cases h;simp[yielded,hk,d]
    | _=>cases h
theorem Bf {ops:Array Oper} {t:PT J} {o:Oper} {b:Bool} {n:Nat} {tmps:Array Value} (h:bF ops t o=some b) (d:TR O t n tmps):Region.wanted o (yielded ops tmps)=b:=
 zw h fun _ _ k _ _ v hv=>⟨by rw[d.1];exact(d.2 k v hv).1,(d.2 k v hv).2⟩
theorem sn {n:Nat}:∀(ks:List Nat) (vs:List J) (t t':PT J) (tmps:Array Value) (xs:List Value),tJ n ks vs t=some t'->TR O t n tmps->cT O vs xs->
  ks.length=xs.length/\TR O t' n ((ks.zip xs).foldl (fun tmps (t,a)=>tmps.setIfInBounds t a) tmps)
 | [],[],t,t',tmps,xs,h,b,hv=>by
  rw[hv.dY];have h':some t=some t':=h;cases h';exact⟨Z,b⟩
 | [],_::_,_,_,_,_,h,_,_=>by have h':(none:Option (PT J))=some _:=h;cases h'
 | _::_,[],_,_,_,_,h,_,_=>by have h':(none:Option (PT J))=some _:=h;cases h'
 | k::ks,v::vs,t,t',tmps,xs,h,b,hv=>by
  obtain⟨x,r,rfl,h1,d⟩:=hv.cons_inv;have h':(match dA t n (some k) v with | some t'=>tJ n ks vs t' | none=>none)=some t':=h;cases hp:dA t n (some k) v with
  | none=>rw[hp] at h';cases h'
  | some t₁=>
   rw[hp] at h';obtain⟨hk,rfl⟩:=qc hp;obtain⟨g1,m⟩:=sn ks vs _ t' (tmps.setIfInBounds k x) r h' (b.set hk h1) d;exact⟨by simp[g1],m⟩
theorem DU {n:Nat} {args:List J} {xs:Array Value} {t:PT J} (h:qA n args=some t) (hv:cT O args xs.toList):TR O t n (xs++Array.replicate (n-xs.size) undef):=by
 have key:∀(args:List J) (ys:List Value) (k:Nat) (t t':PT J),(List.rec (motive:=fun _=>Nat->PT J->Option (PT J)) (fun _ t=>some t) (fun v _ ih k t=>match dA t n (some k) v with | some t'=>ih (Nat.succ k) t' | none=>none) args:Nat->PT J->Option (PT J)) k t=some t'->
   cT O args ys->(∀j v,t.get (posOf j)=some v->j<k/\j<n)->
   (∀j v,t'.get (posOf j)=some v->j<n/\((j<k/\t.get (posOf j)=some v)∨∃y,k<=j/\ys[j-k]? =some y/\VR O v y))/\(args= []∨k+args.length<=n):=by
  intro args;induction args with
  | nil=>
   simp_all
  | cons v args ih=>
   intro ys k t t' h hv ht;obtain⟨x,r,rfl,h1,m⟩:=hv.cons_inv;dsimp only at h;cases hp:dA t n (some k) v with
   | none=>rw[hp] at h;cases h
   | some t₁=>
    rw[hp] at h;obtain⟨hk,rfl⟩:=qc hp
    obtain⟨g1,A⟩:=ih r (k+1) _ t' h m (fun j u hj=>by
     by_cases e:j=k
     ·omega
     rw[PT.db _ _ _ _ (fun h'=>e (p8 h'))] at hj
     grind)
    refine⟨fun j u hj=>?_,.inr ?_⟩
    ·obtain⟨q1,q2⟩:=g1 j u hj;refine⟨q1,?_⟩;rcases q2 with ⟨b,d⟩ | ⟨y,hle,hy,C⟩
     ·by_cases e:j=k
      ·subst e;rw[PT.de] at d;simp_all
      rw[PT.db _ _ _ _ (fun h'=>e (p8 h'))] at d
      simp_all
     grind
    grind
 obtain⟨g1,A⟩:=key args xs.toList 0 .leaf t h hv (fun j v hj=>by rw[PT.jh] at hj;cases hj);have hlen:=hv.length
 have hle:xs.size<=n:=by
  grind
 refine⟨by simp;omega,fun j v hj=>?_⟩;obtain⟨q1,q2⟩:=g1 j v hj;refine⟨q1,?_⟩;rcases q2 with ⟨b,_⟩ | ⟨y,_,hy,C⟩
 ·omega
 rw[Nat.sub_zero] at hy;have aa:j<xs.size:=by grind
 simp_all
def KF (tmps:Array Value):ResultVar->Sem Value
 | .tmp t=>pure (tmps.getD t undef)
 | .cell a t=>do loadVar t (<-asAddr (tmps.getD a undef))
theorem rK (fn:Func) (tmps:Array Value):results fn tmps=(fn.results.mapM (KF tmps)>>= fun vs=>pure (if h:vs.size=1 then vs[0] else .tuple vs)):=rfl
theorem AI (hi:Inv O V w) {t:PT J} {n:Nat} {tmps:Array Value} (A:TR O t n tmps) {r:ResultVar} {v:J} (h:fm P t V r=some v):
  ∃x,(KF tmps r).run P w= .ok x w/\VR O v x:=by
 cases r with
 | tmp k=>exact⟨_,Z,(A.2 k v h).2⟩
 | cell k ty=>
  simp only[fm] at h;cases hk:t.get (posOf k) with
  | none=>rw[hk] at h;cases h
  | some u=>
   rw[hk] at h;have hvx:=(A.2 k u hk).2;cases u with
   | ptr b off=>
    dsimp only at h;cases d:V.m.get b with
    | none=>rw[d] at h;cases h
    | some ob=>
     rw[d] at h;cases ob with
     | row cells e ro=>
      simp only[VR] at hvx;obtain⟨l,hl,aa⟩:=hvx;obtain⟨y,hy,hr⟩:=mz (P:=P) hi d hl h
      grind [KF,asAddr]
     | _=>cases h
   | _=>cases h
theorem pb (hi:Inv O V w) {t:PT J} {n:Nat} {tmps:Array Value} (m:TR O t n tmps):∀{rs:List ResultVar} {vs:List J},cM (fm P t V) rs=some vs->
  ∃xs:List Value,(rs.mapM (KF tmps):Sem (List Value)).run P w= .ok xs w/\cT O vs xs
 | [],vs,h=>by rw[gx] at h;cases h;exact⟨[],by simp,cT.nil⟩
 | r::rs,vs,h=>by
  obtain⟨y,r',h1,u,rfl⟩:=fV h;obtain⟨x,hx,hv⟩:=AI (P:=P) hi m h1;obtain⟨xs,b,d⟩:=pb hi m u;refine⟨x::xs,?_,cT.cons hv d⟩;simp only[List.mapM_cons,sB_,hx,rA,b,sP_]
theorem ya (hi:Inv O V w) {fn:Func} {t:PT J} {n:Nat} {tmps:Array Value} (m:TR O t n tmps) {v:J} (h:dU P fn t V=some v):
  ∃x,(results fn tmps).run P w= .ok x w/\VR O v x:=by
 unfold dU at h;cases b:cM (fm P t V) fn.results.toList with
 | none=>rw[b] at h;cases h
 | some vs=>
  rw[b] at h;obtain⟨xs,hx,hv⟩:=pb (P:=P) hi m b
  have hm:(fn.results.mapM (KF tmps):Sem (Array Value)).run P w= .ok xs.toArray w:=by
   grind [Array.mapM_eq_mapM_toList,Sem.run_map,rA]
  cases vs with
  | nil=>
   cases h;have:=hv.dY;subst this;refine⟨.tuple #[],by rw[rK,sB_,hm];rfl,by simp only[VR];simp_all⟩
  | cons u us=>
   obtain⟨x,r,rfl,h1,d⟩:=hv.cons_inv;cases us with
   | nil=>
    cases h;have:=d.dY;subst this;exact⟨x,by rw[rK,sB_,hm];rfl,h1⟩
   | cons u' us=>
    cases h;obtain⟨x',r',rfl,h3,h4⟩:=d.cons_inv;refine⟨.tuple (x::x'::r').toArray,by rw[rK,sB_,hm];rfl,by simp only[VR];simp_all⟩
end
end Go.Ev
end
