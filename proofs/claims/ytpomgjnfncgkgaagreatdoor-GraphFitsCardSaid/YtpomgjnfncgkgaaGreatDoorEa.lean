/- Part of the proof: an evaluator of the model's code, rules for walks on it, walks. Without conditions. -/
import Derived.CallsIn
import Derived.Laws.World
import Derived.Laws.AppendOwn
import Derived.Laws.Strings
import Derived.Great.BuildSlice
import Derived.Laws.Tables
import Derived.Laws.MakeOwn
import Derived.Laws.StructEq
import Derived.Laws.Small
import Derived.ChangeKeysEq
import Derived.LaidEql
import Derived.Lib.Strings
import Derived.Lib.Builder
import Derived.Lib.Overlaps
import Derived.Laws.IdiomStrings
import Derived.Lib.UnsafeStr
import Derived.Lib.ConvBytes
set_option linter.unusedSectionVars false
set_option linter.unusedVariables false
set_option linter.unusedSimpArgs false
noncomputable section
namespace Go.Ev
theorem gA:type_of% @List.getElem?_eq_some_iff:= @List.getElem?_eq_some_iff
theorem gB_:type_of% @List.mem_of_getElem?:= @List.mem_of_getElem?
theorem rA:type_of% @Result.andThen_ok:= @Result.andThen_ok
theorem gC:type_of% @List.getElem?_eq_getElem:= @List.getElem?_eq_getElem
theorem nB:type_of% @Nat.eq_of_beq_eq_true:= @Nat.eq_of_beq_eq_true
theorem bA_:type_of% @Bool.and_eq_true:= @Bool.and_eq_true
theorem sB_:type_of% @Sem.run_bind:= @Sem.run_bind
theorem sP_:type_of% @Sem.run_pure:= @Sem.run_pure
theorem nE_:type_of% @Nat.ble_eq:= @Nat.ble_eq
theorem lT_:type_of% @List.length_take:= @List.length_take
theorem oJ_:type_of% @Option.some.injEq:= @Option.some.injEq
theorem lA_:type_of% @List.length_append:= @List.length_append
theorem mC_:type_of% @List.mem_cons_of_mem:= @List.mem_cons_of_mem
theorem lM_:type_of% @List.length_map:= @List.length_map
theorem aT_:type_of% @Array.getElem?_toList:= @Array.getElem?_toList
theorem mS_:type_of% @List.mem_cons_self:= @List.mem_cons_self
theorem gM_:type_of% @List.getElem?_map:= @List.getElem?_map
theorem gL_:type_of% @List.getElem?_append_left:= @List.getElem?_append_left
theorem gO_:type_of% @List.getElem?_of_mem:= @List.getElem?_of_mem
theorem tL_:type_of% @List.take_of_length_le:= @List.take_of_length_le
theorem aE_:type_of% @List.all_eq_true:= @List.all_eq_true
theorem eN_:type_of% @List.eq_nil_of_length_eq_zero:= @List.eq_nil_of_length_eq_zero
theorem gN_:type_of% @List.getElem?_eq_none:= @List.getElem?_eq_none
theorem lD_:type_of% @List.length_drop:= @List.length_drop
theorem mQ_:type_of% @List.mem_cons:= @List.mem_cons
theorem nM_:type_of% @Nat.mul_le_mul_right:= @Nat.mul_le_mul_right
theorem oM_:type_of% @Option.map_eq_some_iff:= @Option.map_eq_some_iff
theorem lQ_:type_of% @List.append_assoc:= @List.append_assoc
theorem nZ_:type_of% @Nat.not_lt_zero:= @Nat.not_lt_zero
theorem nR_:type_of% @Nat.le_refl:= @Nat.le_refl
theorem nA_:type_of% @Nat.zero_add:= @Nat.zero_add
theorem iJ_:type_of% @Int.ofNat.inj:= @Int.ofNat.inj
theorem gR_:type_of% @List.getElem?_append_right:= @List.getElem?_append_right
theorem eR_:type_of% @List.eq_of_mem_replicate:= @List.eq_of_mem_replicate
theorem aG_:type_of% @Array.getElem?_eq_getElem:= @Array.getElem?_eq_getElem
theorem aS_:type_of% @Array.getElem?_eq_some_iff:= @Array.getElem?_eq_some_iff
abbrev Pos:=Nat
abbrev Pos.succ (p:Pos):Pos:=Nat.succ p
abbrev Pos.num (p:Pos):Nat:=p
theorem Pos.iv (p:Pos):p.succ.num=p.num+1:=rfl
abbrev posOf (n:Nat):Pos:=n
theorem pq {m n:Nat} (h:posOf m=posOf n):m=n:=h
structure jz (α:Type) where
 c0:α
 c1:α
 c2:α
 c3:α
 c4:α
 c5:α
 c6:α
 c7:α
 c8:α
 c9:α
 qj:α
 qk:α
 ql:α
 qm:α
 qn:α
 qo:α
structure Bj (α:Type) where
 run:jz α->α
structure Bk (α:Type) where
 run:jz α->α->jz α
section
variable {α:Type}
def jl (n:Nat):Bj α:=(Bool.rec (motive:=fun _=>Bj α) (Bool.rec (motive:=fun _=>Bj α) (Bool.rec (motive:=fun _=>Bj α) (Bool.rec (motive:=fun _=>Bj α) ⟨fun t=>t.c0⟩ ⟨fun t=>t.c1⟩ (Nat.ble 1 n)) (Bool.rec (motive:=fun _=>Bj α) ⟨fun t=>t.c2⟩ ⟨fun t=>t.c3⟩ (Nat.ble 3 n)) (Nat.ble 2 n)) (Bool.rec (motive:=fun _=>Bj α) (Bool.rec (motive:=fun _=>Bj α) ⟨fun t=>t.c4⟩ ⟨fun t=>t.c5⟩ (Nat.ble 5 n)) (Bool.rec (motive:=fun _=>Bj α) ⟨fun t=>t.c6⟩ ⟨fun t=>t.c7⟩ (Nat.ble 7 n)) (Nat.ble 6 n)) (Nat.ble 4 n)) (Bool.rec (motive:=fun _=>Bj α) (Bool.rec (motive:=fun _=>Bj α) (Bool.rec (motive:=fun _=>Bj α) ⟨fun t=>t.c8⟩ ⟨fun t=>t.c9⟩ (Nat.ble 9 n)) (Bool.rec (motive:=fun _=>Bj α) ⟨fun t=>t.qj⟩ ⟨fun t=>t.qk⟩ (Nat.ble 11 n)) (Nat.ble 10 n)) (Bool.rec (motive:=fun _=>Bj α) (Bool.rec (motive:=fun _=>Bj α) ⟨fun t=>t.ql⟩ ⟨fun t=>t.qm⟩ (Nat.ble 13 n)) (Bool.rec (motive:=fun _=>Bj α) ⟨fun t=>t.qn⟩ ⟨fun t=>t.qo⟩ (Nat.ble 15 n)) (Nat.ble 14 n)) (Nat.ble 12 n)) (Nat.ble 8 n))
def wb (n:Nat):Bk α:=(Bool.rec (motive:=fun _=>Bk α) (Bool.rec (motive:=fun _=>Bk α) (Bool.rec (motive:=fun _=>Bk α) (Bool.rec (motive:=fun _=>Bk α) ⟨fun t v=>jz.rec (motive:=fun _=>jz α) (fun _ c1 c2 c3 c4 c5 c6 c7 c8 c9 qj qk ql qm qn qo=>⟨v,c1,c2,c3,c4,c5,c6,c7,c8,c9,qj,qk,ql,qm,qn,qo⟩) t⟩ ⟨fun t v=>jz.rec (motive:=fun _=>jz α) (fun c0 _ c2 c3 c4 c5 c6 c7 c8 c9 qj qk ql qm qn qo=>⟨c0,v,c2,c3,c4,c5,c6,c7,c8,c9,qj,qk,ql,qm,qn,qo⟩) t⟩ (Nat.ble 1 n)) (Bool.rec (motive:=fun _=>Bk α) ⟨fun t v=>jz.rec (motive:=fun _=>jz α) (fun c0 c1 _ c3 c4 c5 c6 c7 c8 c9 qj qk ql qm qn qo=>⟨c0,c1,v,c3,c4,c5,c6,c7,c8,c9,qj,qk,ql,qm,qn,qo⟩) t⟩ ⟨fun t v=>jz.rec (motive:=fun _=>jz α) (fun c0 c1 c2 _ c4 c5 c6 c7 c8 c9 qj qk ql qm qn qo=>⟨c0,c1,c2,v,c4,c5,c6,c7,c8,c9,qj,qk,ql,qm,qn,qo⟩) t⟩ (Nat.ble 3 n)) (Nat.ble 2 n)) (Bool.rec (motive:=fun _=>Bk α) (Bool.rec (motive:=fun _=>Bk α) ⟨fun t v=>jz.rec (motive:=fun _=>jz α) (fun c0 c1 c2 c3 _ c5 c6 c7 c8 c9 qj qk ql qm qn qo=>⟨c0,c1,c2,c3,v,c5,c6,c7,c8,c9,qj,qk,ql,qm,qn,qo⟩) t⟩ ⟨fun t v=>jz.rec (motive:=fun _=>jz α) (fun c0 c1 c2 c3 c4 _ c6 c7 c8 c9 qj qk ql qm qn qo=>⟨c0,c1,c2,c3,c4,v,c6,c7,c8,c9,qj,qk,ql,qm,qn,qo⟩) t⟩ (Nat.ble 5 n)) (Bool.rec (motive:=fun _=>Bk α) ⟨fun t v=>jz.rec (motive:=fun _=>jz α) (fun c0 c1 c2 c3 c4 c5 _ c7 c8 c9 qj qk ql qm qn qo=>⟨c0,c1,c2,c3,c4,c5,v,c7,c8,c9,qj,qk,ql,qm,qn,qo⟩) t⟩ ⟨fun t v=>jz.rec (motive:=fun _=>jz α) (fun c0 c1 c2 c3 c4 c5 c6 _ c8 c9 qj qk ql qm qn qo=>⟨c0,c1,c2,c3,c4,c5,c6,v,c8,c9,qj,qk,ql,qm,qn,qo⟩) t⟩ (Nat.ble 7 n)) (Nat.ble 6 n)) (Nat.ble 4 n)) (Bool.rec (motive:=fun _=>Bk α) (Bool.rec (motive:=fun _=>Bk α) (Bool.rec (motive:=fun _=>Bk α) ⟨fun t v=>jz.rec (motive:=fun _=>jz α) (fun c0 c1 c2 c3 c4 c5 c6 c7 _ c9 qj qk ql qm qn qo=>⟨c0,c1,c2,c3,c4,c5,c6,c7,v,c9,qj,qk,ql,qm,qn,qo⟩) t⟩ ⟨fun t v=>jz.rec (motive:=fun _=>jz α) (fun c0 c1 c2 c3 c4 c5 c6 c7 c8 _ qj qk ql qm qn qo=>⟨c0,c1,c2,c3,c4,c5,c6,c7,c8,v,qj,qk,ql,qm,qn,qo⟩) t⟩ (Nat.ble 9 n)) (Bool.rec (motive:=fun _=>Bk α) ⟨fun t v=>jz.rec (motive:=fun _=>jz α) (fun c0 c1 c2 c3 c4 c5 c6 c7 c8 c9 _ qk ql qm qn qo=>⟨c0,c1,c2,c3,c4,c5,c6,c7,c8,c9,v,qk,ql,qm,qn,qo⟩) t⟩ ⟨fun t v=>jz.rec (motive:=fun _=>jz α) (fun c0 c1 c2 c3 c4 c5 c6 c7 c8 c9 qj _ ql qm qn qo=>⟨c0,c1,c2,c3,c4,c5,c6,c7,c8,c9,qj,v,ql,qm,qn,qo⟩) t⟩ (Nat.ble 11 n)) (Nat.ble 10 n)) (Bool.rec (motive:=fun _=>Bk α) (Bool.rec (motive:=fun _=>Bk α) ⟨fun t v=>jz.rec (motive:=fun _=>jz α) (fun c0 c1 c2 c3 c4 c5 c6 c7 c8 c9 qj qk _ qm qn qo=>⟨c0,c1,c2,c3,c4,c5,c6,c7,c8,c9,qj,qk,v,qm,qn,qo⟩) t⟩ ⟨fun t v=>jz.rec (motive:=fun _=>jz α) (fun c0 c1 c2 c3 c4 c5 c6 c7 c8 c9 qj qk ql _ qn qo=>⟨c0,c1,c2,c3,c4,c5,c6,c7,c8,c9,qj,qk,ql,v,qn,qo⟩) t⟩ (Nat.ble 13 n)) (Bool.rec (motive:=fun _=>Bk α) ⟨fun t v=>jz.rec (motive:=fun _=>jz α) (fun c0 c1 c2 c3 c4 c5 c6 c7 c8 c9 qj qk ql qm _ qo=>⟨c0,c1,c2,c3,c4,c5,c6,c7,c8,c9,qj,qk,ql,qm,v,qo⟩) t⟩ ⟨fun t v=>jz.rec (motive:=fun _=>jz α) (fun c0 c1 c2 c3 c4 c5 c6 c7 c8 c9 qj qk ql qm qn _=>⟨c0,c1,c2,c3,c4,c5,c6,c7,c8,c9,qj,qk,ql,qm,qn,v⟩) t⟩ (Nat.ble 15 n)) (Nat.ble 14 n)) (Nat.ble 12 n)) (Nat.ble 8 n))
theorem EX {n:Nat} (h:n<16):n=0∨n=1∨n=2∨n=3∨n=4∨n=5∨n=6∨n=7∨n=8∨n=9∨n=10∨n=11∨n=12∨n=13∨n=14∨n=15:=by omega
theorem AH (n:Nat) (t:jz α) (v:α) (hn:n<16):(jl n).run ((wb n).run t v)=v:=by
 rcases EX hn with rfl | rfl | rfl | rfl | rfl | rfl | rfl | rfl | rfl | rfl | rfl | rfl | rfl | rfl | rfl | rfl<;>rfl
theorem DQ (n:Nat) (t:jz α) (v u:α) (hn:n<16):(wb n).run ((wb n).run t v) u=(wb n).run t u:=by
 rcases EX hn with rfl | rfl | rfl | rfl | rfl | rfl | rfl | rfl | rfl | rfl | rfl | rfl | rfl | rfl | rfl | rfl<;>rfl
theorem Fe (m n:Nat) (t:jz α) (v:α) (hm:m<16) (hn:n<16) (h:m≠n):(jl m).run ((wb n).run t v)=(jl m).run t:=by
 rcases EX hm with rfl | rfl | rfl | rfl | rfl | rfl | rfl | rfl | rfl | rfl | rfl | rfl | rfl | rfl | rfl | rfl<;>rcases EX hn with rfl | rfl | rfl | rfl | rfl | rfl | rfl | rfl | rfl | rfl | rfl | rfl | rfl | rfl | rfl | rfl<;>first | rfl | exact absurd rfl h
theorem DH (m n:Nat) (t:jz α) (v:α) (hm:m<16) (hn:n<16):(jl m).run ((wb n).run t v)=if m=n then v else(jl m).run t:=by
 by_cases h:m=n
 ·subst h;rw[if_pos rfl,AH _ _ _ hn]
 rw[if_neg h,Fe _ _ _ _ hm hn h]
abbrev iS (α:Type):=jz (jz α)
def jr (t:iS α) (k:Nat):α:=(jl (Nat.mod k 16)).run ((jl (Nat.div k 16)).run t)
def oC (t:iS α) (k:Nat) (v:α):iS α:=(wb (Nat.div k 16)).run t ((wb (Nat.mod k 16)).run ((jl (Nat.div k 16)).run t) v)
theorem mP (t:iS α) (k j:Nat) (v:α) (hk:k<256) (hj:j<256):jr (oC t k v) j=if j=k then v else jr t j:=by
 have e:∀n m:Nat,Nat.mod n m=n%m:=fun _ _=>rfl
 have e':∀n m:Nat,Nat.div n m=n/m:=fun _ _=>rfl
 simp only[jr,oC,e,e'];rw[DH _ _ _ _ (by omega) (by omega)]
 by_cases h1:j/16=k/16
 ·rw[if_pos h1,DH _ _ _ _ (by omega) (by omega)]
  by_cases h4:j%16=k%16
  ·rw[if_pos h4,if_pos (by omega)]
  rw[if_neg h4,if_neg (by omega),h1]
 rw[if_neg h1,if_neg (by omega)]
theorem vB (t:iS α) (k:Nat) (v u:α) (hk:k<256):oC (oC t k v) k u=oC t k u:=by
 have h1:Nat.mod k 16<16:=Nat.mod_lt _ (by omega);have h2:Nat.div k 16<16:=Nat.div_lt_of_lt_mul hk;simp only[oC,AH _ _ _ h2,DQ _ _ _ _ h2,DQ _ _ _ _ h1]
def jz.all (x:α):jz α:=⟨x,x,x,x,x,x,x,x,x,x,x,x,x,x,x,x⟩
def iS.all (x:α):iS α:=jz.all (jz.all x)
theorem DG (n:Nat) (y:α) (hn:n<16):(jl n).run (jz.all y)=y:=by
 rcases EX hn with rfl | rfl | rfl | rfl | rfl | rfl | rfl | rfl | rfl | rfl | rfl | rfl | rfl | rfl | rfl | rfl<;>rfl
theorem uK (x:α) (k:Nat) (hk:k<256):jr (iS.all x) k=x:=by
 have h1:Nat.mod k 16<16:=Nat.mod_lt _ (by omega);have h2:Nat.div k 16<16:=Nat.div_lt_of_lt_mul hk;simp only[jr,iS.all,DG _ _ h1,DG _ _ h2]
def rJ (v:Option α) (n:Nat):List (Option α)->List (Option α):=
 Nat.rec (motive:=fun _=>List (Option α)->List (Option α)) (fun l=>List.rec (motive:=fun _=>List (Option α)) [v] (fun _ r _=>v::r) l)
  (fun _ ih l=>List.rec (motive:=fun _=>List (Option α)) (none::ih []) (fun x r _=>x::ih r) l) n
def EC (l:List (Option α)):Nat->Option α:=
 List.rec (motive:=fun _=>Nat->Option α) (fun _=>none) (fun x _ ih n=>Nat.rec (motive:=fun _=>Option α) x (fun m _=>ih m) n) l
theorem uN (v:Option α):∀(k:Nat) (l:List (Option α)) (j:Nat),EC (rJ v k l) j=if j=k then v else EC l j
 | 0,[],0=>rfl
 | 0,[],j+1=>by rw[if_neg (by omega)];rfl
 | 0,x::r,0=>rfl
 | 0,x::r,j+1=>by rw[if_neg (by omega)];rfl
 | k+1,[],0=>by rw[if_neg (by omega)];rfl
 | k+1,[],j+1=>by
  show EC (rJ v k []) j=_;rw[uN v k [] j]
  by_cases h:j=k
  ·rw[if_pos h,if_pos (by omega)]
  rw[if_neg h,if_neg (by omega)];rfl
 | k+1,x::r,0=>by rw[if_neg (by omega)];rfl
 | k+1,x::r,j+1=>by
  show EC (rJ v k r) j=_;rw[uN v k r j]
  by_cases h:j=k
  ·rw[if_pos h,if_pos (by omega)]
  rw[if_neg h,if_neg (by omega)];rfl
theorem vE (v u:Option α):∀(k:Nat) (l:List (Option α)),rJ u k (rJ v k l)=rJ u k l
 | 0,[]=>rfl
 | 0,x::r=>rfl
 | k+1,[]=>by
  show none::rJ u k (rJ v k [])=none::rJ u k [];rw[vE v u k []]
 | k+1,x::r=>by
  show x::rJ u k (rJ v k r)=x::rJ u k r;rw[vE v u k r]
structure PT (α:Type) where
 s:iS (Option α)
 m:iS (iS (Option α))
 l:List (Option α)
def PT.leaf:PT α:=⟨iS.all none,iS.all (iS.all none),[]⟩
def PT.EB (t:PT α) (p:Nat):Option α:=
 Bool.rec (motive:=fun _=>Option α) (Bool.rec (motive:=fun _=>Option α) (EC t.l p) (jr (jr t.m (Nat.div p 256)) (Nat.mod p 256)) (Nat.ble p 65535)) (jr t.s p) (Nat.ble p 255)
def PT.E8 (o:Option α) (t:PT α) (p:Nat):PT α:=
 Bool.rec (motive:=fun _=>PT α) (Bool.rec (motive:=fun _=>PT α) (PT.rec (motive:=fun _=>PT α) (fun s m l=>⟨s,m,rJ o p l⟩) t)
  (PT.rec (motive:=fun _=>PT α) (fun s m l=>⟨s,oC m (Nat.div p 256) (oC (jr m (Nat.div p 256)) (Nat.mod p 256) o),l⟩) t) (Nat.ble p 65535))
  (PT.rec (motive:=fun _=>PT α) (fun s m l=>⟨oC s p o,m,l⟩) t) (Nat.ble p 255)
def PT.get (t:PT α) (p:Pos):Option α:=Nat.rec (motive:=fun _=>Option α) (t.EB 0) (fun m _=>t.EB (Nat.succ m)) p
def PT.put (o:Option α) (t:PT α) (p:Pos):PT α:=Nat.rec (motive:=fun _=>PT α) (t.E8 o 0) (fun m _=>t.E8 o (Nat.succ m)) p
theorem PT.get_eq (t:PT α) (p:Nat):t.get p=t.EB p:=by cases p<;>rfl
theorem PT.put_eq (o:Option α) (t:PT α) (p:Nat):t.put o p=t.E8 o p:=by cases p<;>rfl
theorem qW (m n:Nat):Nat.blt m n=true↔m<n:=by simp[Nat.blt,Nat.lt_iff_add_one_le]
theorem nb (m n:Nat):Nat.ble m n=true↔m<n+1:=by rw[nE_,Nat.lt_succ_iff]
theorem r7 {m n:Nat} (h:¬m<n+1):Nat.ble m n=false:=by
 cases hb:Nat.ble m n with
 | true=>exact absurd ((nb m n).1 hb) h
 | false=>rfl
theorem PT.pX (t:PT α) {p:Nat} (h:p<256):t.get p=jr t.s p:=by rw[PT.get_eq];unfold PT.EB;rw[(nb p 255).2 h]
theorem PT.uM (t:PT α) {p:Nat} (h:¬p<256) (h':p<65536):t.get p=jr (jr t.m (Nat.div p 256)) (Nat.mod p 256):=by
 rw[PT.get_eq];unfold PT.EB;rw[r7 (n:=255) h,(nb p 65535).2 h']
theorem PT.uL (t:PT α) {p:Nat} (h:¬p<65536):t.get p=EC t.l p:=by
 rw[PT.get_eq];unfold PT.EB;rw[r7 (n:=255) (by omega),r7 (n:=65535) h]
theorem PT.tq (o:Option α) (s:iS (Option α)) (m:iS (iS (Option α))) (l:List (Option α)) {p:Nat} (h:p<256):(PT.mk s m l).put o p=⟨oC s p o,m,l⟩:=by rw[PT.put_eq];unfold PT.E8;rw[(nb p 255).2 h]
theorem PT.Dz (o:Option α) (s:iS (Option α)) (m:iS (iS (Option α))) (l:List (Option α)) {p:Nat} (h:¬p<256) (h':p<65536):
  (PT.mk s m l).put o p=⟨s,oC m (Nat.div p 256) (oC (jr m (Nat.div p 256)) (Nat.mod p 256) o),l⟩:=by
 rw[PT.put_eq];unfold PT.E8;rw[r7 (n:=255) h,(nb p 65535).2 h']
theorem PT.Dy (o:Option α) (s:iS (Option α)) (m:iS (iS (Option α))) (l:List (Option α)) {p:Nat} (h:¬p<65536):(PT.mk s m l).put o p=⟨s,m,rJ o p l⟩:=by
 rw[PT.put_eq];unfold PT.E8;rw[r7 (n:=255) (by omega),r7 (n:=65535) h]
theorem PT.ld (p:Nat):(PT.leaf:PT α).get p=none:=by
 by_cases h1:p<256
 ·rw[PT.pX _ h1];exact uK _ _ h1
 by_cases h2:p<65536
 ·rw[PT.uM _ h1 h2];show jr (jr (iS.all (iS.all none)) _) _=none;have hd:Nat.div p 256<256:=Nat.div_lt_of_lt_mul h2;have hm:Nat.mod p 256<256:=Nat.mod_lt _ (by omega);rw[uK _ _ hd,uK _ _ hm]
 rw[PT.uL _ h2];rfl
theorem PT.iY (o:Option α) (t:PT α) (p q:Nat):(t.put o p).get q=if q=p then o else t.get q:=by
 cases t with
 | mk s m l=>
 by_cases h1:p<256
 ·rw[PT.tq o s m l h1]
  by_cases h2:q<256
  ·rw[PT.pX _ h2,PT.pX _ h2];exact mP s p q o h1 h2
  rw[if_neg (by omega)]
  by_cases h3:q<65536
  ·rw[PT.uM _ h2 h3,PT.uM _ h2 h3]
  rw[PT.uL _ h3,PT.uL _ h3]
 by_cases h3:p<65536
 ·rw[PT.Dz o s m l h1 h3]
  by_cases h2:q<256
  ·rw[if_neg (by omega),PT.pX _ h2,PT.pX _ h2]
  by_cases h4:q<65536
  ·rw[PT.uM _ h2 h4,PT.uM _ h2 h4];have hp:Nat.div p 256<256:=Nat.div_lt_of_lt_mul h3;have hq:Nat.div q 256<256:=Nat.div_lt_of_lt_mul h4;have hp':Nat.mod p 256<256:=Nat.mod_lt _ (by omega);have hq':Nat.mod q 256<256:=Nat.mod_lt _ (by omega);show jr (jr (oC m (Nat.div p 256) _) (Nat.div q 256)) (Nat.mod q 256)=_;rw[mP _ _ _ _ hp hq]
   by_cases e:Nat.div q 256=Nat.div p 256
   ·rw[if_pos e,mP _ _ _ _ hp' hq']
    by_cases e2:Nat.mod q 256=Nat.mod p 256
    ·rw[if_pos e2,if_pos];have f1:q/256=p/256:=e;have f2:q%256=p%256:=e2;omega
    rw[if_neg e2,if_neg (by intro h;exact e2 (by rw[h])),e]
   rw[if_neg e,if_neg (by intro h;exact e (by rw[h]))]
  rw[if_neg (by omega),PT.uL _ h4,PT.uL _ h4]
 rw[PT.Dy o s m l h3]
 by_cases h2:q<256
 ·rw[if_neg (by omega),PT.pX _ h2,PT.pX _ h2]
 by_cases h4:q<65536
 ·rw[if_neg (by omega),PT.uM _ h2 h4,PT.uM _ h2 h4]
 rw[PT.uL _ h4,PT.uL _ h4];exact uN o p l q
theorem PT.cY (o:Option α) (t:PT α) (p:Pos):(t.put o p).get p=o:=by rw[PT.iY,if_pos rfl]
theorem PT.cV (o:Option α) (t:PT α) (p q:Pos) (h:q≠p):(t.put o p).get q=t.get q:=by rw[PT.iY,if_neg h]
theorem PT.IY (o o':Option α) (t:PT α) (p:Nat):(t.put o p).put o' p=t.put o' p:=by
 cases t with
 | mk s m l=>
 by_cases h1:p<256
 ·rw[PT.tq o s m l h1,PT.tq _ _ _ _ h1,PT.tq _ _ _ _ h1,vB _ _ _ _ h1]
 by_cases h3:p<65536
 ·have hp:Nat.div p 256<256:=Nat.div_lt_of_lt_mul h3;have hp':Nat.mod p 256<256:=Nat.mod_lt _ (by omega);rw[PT.Dz o s m l h1 h3,PT.Dz _ _ _ _ h1 h3,PT.Dz _ _ _ _ h1 h3,vB _ _ _ _ hp,mP _ _ _ _ hp hp,if_pos rfl,vB _ _ _ _ hp']
 rw[PT.Dy o s m l h3,PT.Dy _ _ _ _ h3,PT.Dy _ _ _ _ h3,vE]
end
section
variable {α β:Type}
def nth (l:List α):Nat->Option α:=
 List.rec (motive:=fun _=>Nat->Option α) (fun _=>none) (fun x _ ih n=>Nat.rec (motive:=fun _=>Option α) (some x) (fun m _=>ih m) n) l
theorem fC:∀(l:List α) (n:Nat),nth l n=l[n]?
 | [],_=>rfl
 | _::_,0=>rfl
 | _::l,n+1=>by
  show nth l n=_;rw[fC l n];simp
def CA (v:α) (l:List α):Nat->List α:=
 List.rec (motive:=fun _=>Nat->List α) (fun _=>[]) (fun x l ih n=>Nat.rec (motive:=fun _=>List α) (v::l) (fun m _=>x::ih m) n) l
theorem sH (v:α):∀(l:List α) (n:Nat),CA v l n=l.set n v
 | [],_=>rfl
 | _::_,0=>rfl
 | x::l,n+1=>by
  show x::CA v l n=_;rw[sH v l n];simp
def dy (l:List α):Nat->List α:=
 List.rec (motive:=fun _=>Nat->List α) (fun _=>[]) (fun x l ih n=>Nat.rec (motive:=fun _=>List α) (x::l) (fun m _=>ih m) n) l
theorem dO:∀(l:List α) (n:Nat),dy l n=l.drop n
 | [],n=>by simp[dy]
 | _::_,0=>rfl
 | x::l,n+1=>by
  show dy l n=_;rw[dO l n];simp
def takeN (l:List α):Nat->List α:=
 List.rec (motive:=fun _=>Nat->List α) (fun _=>[]) (fun x _ ih n=>Nat.rec (motive:=fun _=>List α) [] (fun m _=>x::ih m) n) l
theorem dp:∀(l:List α) (n:Nat),takeN l n=l.take n
 | [],n=>by simp[takeN]
 | _::_,0=>rfl
 | x::l,n+1=>by
  show x::takeN l n=_;rw[dp l n];simp
def cD (l:List α):Nat:=List.rec (motive:=fun _=>Nat) 0 (fun _ _ n=>Nat.succ n) l
theorem bz:∀(l:List α),cD l=l.length
 | []=>rfl
 | _::l=>by show Nat.succ (cD l)=_;rw[bz l];rfl
def fD (l m:List α):List α:=List.rec (motive:=fun _=>List α) m (fun x _ r=>x::r) l
theorem dw:∀(l m:List α),fD l m=l++m
 | [],_=>rfl
 | x::l,m=>by show x::fD l m=_;rw[dw l m];rfl
def wy (f:α->β) (l:List α):List β:=List.rec (motive:=fun _=>List β) [] (fun x _ r=>f x::r) l
theorem kE (f:α->β):∀(l:List α),wy f l=l.map f
 | []=>rfl
 | x::l=>by show f x::wy f l=_;rw[kE f l];rfl
def cF (f:α->Option β) (l:List α):Option (List β):=
 List.rec (motive:=fun _=>Option (List β)) (some []) (fun x _ r=>
  Option.rec (motive:=fun _=>Option (List β)) none (fun y=>Option.rec (motive:=fun _=>Option (List β)) none (fun ys=>some (y::ys)) r) (f x)) l
theorem gL (f:α->Option β):cF f []=some []:=rfl
theorem fX {f:α->Option β} {x:α} {l:List α} {ys:List β} (h:cF f (x::l)=some ys):∃y r,f x=some y/\cF f l=some r/\ys=y::r:=by
 have e:cF f (x::l)=Option.rec (motive:=fun _=>Option (List β)) none (fun y=>Option.rec (motive:=fun _=>Option (List β)) none (fun ys=>some (y::ys)) (cF f l)) (f x):=rfl;rw[e] at h;cases hx:f x with
 | none=>rw[hx] at h;cases h
 | some y=>
  rw[hx] at h;cases hr:cF f l with
  | none=>rw[hr] at h;cases h
  | some r=>
   rw[hr] at h;simp only[oJ_] at h;exact⟨y,r,rfl,rfl,h.symm⟩
end
 class Env where
 τ:Nat->Value
 n0:Nat
 h0:Array Obj
variable [Env]
inductive rZ where
 | known (n:Nat)
 | upto (sz:Nat)
 | least (a sz:Nat)
 deriving Inhabited
inductive AV where
 | bool (b:Bool)
 | int (k:IntKind) (n:Int)
 | str (s:List Nat)
 | nilPtr
 | ptr (b:Pos) (off:Nat)
 | aK
 | slice (b:Pos) (off len:Nat) (cap:rZ)
 | gU
 | map (b:Pos)
 | func (f:Nat) (first captured:List AV)
 | yield (l:Pos)
 | nilFunc
 | iface (t:Nat) (v:AV)
 | nilIface
 | agg (cs:List AV)
 | tuple (vs:List AV)
 | any
 | na (a:Nat)
 | tok (n:Nat)
 deriving Inhabited
structure Loc where
 cZ:Nat
 sh:Nat
 cells:Nat
abbrev cz:=Pos->Option Loc
def gh (s:List Nat) (bs:ByteArray):Prop:=bs.data.toList.map UInt8.toNat=s
mutual
def VR (ρ:cz):AV->Value->Prop
 | .bool b,x=>x= .bool b
 | .int k n,x=>x= .int k n
 | .str s,x=>∃bs,x= .string bs/\gh s bs
 | .nilPtr,x=>x= .pointer none
 | .ptr b off,x=>∃l,ρ b=some l/\x= .pointer (some ⟨l.cZ,l.sh+off,none⟩)
 | .aK,x=>x= .slice none 0 0
 | .slice b off len (.known c),x=>∃l,ρ b=some l/\x= .slice (some ⟨l.cZ,l.sh+off,none⟩) len c
 | .slice b off len (.upto sz),x=>∃l,ρ b=some l/\
   ((∃c,x= .slice (some ⟨l.cZ,l.sh+off,none⟩) len c/\len<=c/\off+c*sz=l.cells)∨(len=0/\∃a,x= .slice (some a) 0 0))
 | .slice b off len (.least a sz),x=>∃l,ρ b=some l/\∃c,x= .slice (some ⟨l.cZ,l.sh+off,none⟩) len c/\a<=c/\off+c*sz=l.cells
 | .gU,x=>x= .map none
 | .map b,x=>∃l,ρ b=some l/\x= .map (some l.cZ)
 | .func f fi ca,x=>∃fi' ca':Array Value,x= .func (.func f) fi' ca'/\cG ρ fi fi'.toList/\cG ρ ca ca'.toList
 | .yield b,x=>∃l,ρ b=some l/\x= .func (.yield l.cZ) #[] #[]
 | .nilFunc,x=>x= .nilFunc
 | .iface t v,x=>∃y,x= .iface t y/\VR ρ v y
 | .nilIface,x=>x= .nilIface
 | .agg cs,x=>∃ys:Array Value,x= .agg ys/\cG ρ cs ys.toList
 | .tuple cs,x=>∃ys:Array Value,x= .tuple ys/\cG ρ cs ys.toList
 | .any,_=>True
 | .na a,x=>∃c:Nat,x= .int .i64 c/\a<=c
 | .tok n,x=>x=Env.τ n/\x.oneCell'=true
def cG (ρ:cz):List AV->List Value->Prop
 | [],ys=>ys= []
 | c::cs,ys=>∃y r,ys=y::r/\VR ρ c y/\cG ρ cs r
end
def cz.le (ρ ρ':cz):Prop:=∀b l,ρ b=some l->ρ' b=some l
theorem cz.le_refl (ρ:cz):ρ.le ρ:=fun _ _ h=>h
theorem cz.le_trans {ρ ρ' ρ'':cz} (h:ρ.le ρ') (h':ρ'.le ρ''):ρ.le ρ'':=fun b l hb=>h' b l (h b l hb)
mutual
theorem VR.mono {ρ ρ':cz} (h:ρ.le ρ'):∀(v:AV) (x:Value),VR ρ v x->VR ρ' v x
 | .bool b,x,hv=>by simpa only[VR] using hv
 | .int k n,x,hv=>by simpa only[VR] using hv
 | .str s,x,hv=>by simpa only[VR] using hv
 | .nilPtr,x,hv=>by simpa only[VR] using hv
 | .ptr b off,x,hv=>by simp only[VR] at hv⊢;obtain⟨l,h1,h2⟩:=hv;exact⟨l,h b l h1,h2⟩
 | .aK,x,hv=>by simpa only[VR] using hv
 | .slice b off len (.known c),x,hv=>by simp only[VR] at hv⊢;obtain⟨l,h1,h2⟩:=hv;exact⟨l,h b l h1,h2⟩
 | .slice b off len (.upto sz),x,hv=>by simp only[VR] at hv⊢;obtain⟨l,h1,h2⟩:=hv;exact⟨l,h b l h1,h2⟩
 | .slice b off len (.least a sz),x,hv=>by simp only[VR] at hv⊢;obtain⟨l,h1,h2⟩:=hv;exact⟨l,h b l h1,h2⟩
 | .gU,x,hv=>by simpa only[VR] using hv
 | .map b,x,hv=>by simp only[VR] at hv⊢;obtain⟨l,h1,h2⟩:=hv;exact⟨l,h b l h1,h2⟩
 | .func f fi ca,x,hv=>by
  simp only[VR] at hv⊢;obtain⟨fi',ca',h1,h2,h3⟩:=hv;exact⟨fi',ca',h1,cG.mono h fi _ h2,cG.mono h ca _ h3⟩
 | .yield b,x,hv=>by simp only[VR] at hv⊢;obtain⟨l,h1,h2⟩:=hv;exact⟨l,h b l h1,h2⟩
 | .nilFunc,x,hv=>by simpa only[VR] using hv
 | .iface t v,x,hv=>by simp only[VR] at hv⊢;obtain⟨y,h1,h2⟩:=hv;exact⟨y,h1,VR.mono h v y h2⟩
 | .nilIface,x,hv=>by simpa only[VR] using hv
 | .agg cs,x,hv=>by simp only[VR] at hv⊢;obtain⟨y,h1,h2⟩:=hv;exact⟨y,h1,cG.mono h cs _ h2⟩
 | .tuple cs,x,hv=>by simp only[VR] at hv⊢;obtain⟨y,h1,h2⟩:=hv;exact⟨y,h1,cG.mono h cs _ h2⟩
 | .any,x,hv=>by simp only[VR]
 | .na a,x,hv=>by simpa only[VR] using hv
 | .tok n,x,hv=>by simpa only[VR] using hv
theorem cG.mono {ρ ρ':cz} (h:ρ.le ρ'):∀(vs:List AV) (xs:List Value),cG ρ vs xs->cG ρ' vs xs
 | [],xs,hv=>by simpa only[cG] using hv
 | c::cs,xs,hv=>by
  simp only[cG] at hv⊢;obtain⟨y,r,h1,h2,h3⟩:=hv;exact⟨y,r,h1,VR.mono h c y h2,cG.mono h cs r h3⟩
end
theorem cG.nil {ρ:cz}:cG ρ [] []:=by simp only[cG]
theorem cG.cons {ρ:cz} {v:AV} {x:Value} {vs:List AV} {xs:List Value} (h:VR ρ v x) (hs:cG ρ vs xs):cG ρ (v::vs) (x::xs):=by
 simp only[cG];exact⟨x,xs,rfl,h,hs⟩
theorem cG.cons_inv {ρ:cz} {v:AV} {vs:List AV} {ys:List Value} (h:cG ρ (v::vs) ys):∃x xs,ys=x::xs/\VR ρ v x/\cG ρ vs xs:=by
 simpa only[cG] using h
theorem cG.ee {ρ:cz} {ys:List Value} (h:cG ρ [] ys):ys= []:=by simpa only[cG] using h
theorem cG.length {ρ:cz}:∀{vs:List AV} {xs:List Value},cG ρ vs xs->xs.length=vs.length
 | [],xs,h=>by rw[h.ee];rfl
 | v::vs,xs,h=>by
  obtain⟨x,r,rfl,_,h2⟩:=h.cons_inv;simp[h2.length]
theorem cG.get {ρ:cz}:∀{vs:List AV} {xs:List Value},cG ρ vs xs->∀{i:Nat} {v:AV},vs[i]?=some v->∃x,xs[i]?=some x/\VR ρ v x
 | [],xs,h,i,v,hv=>by simp at hv
 | c::vs,xs,h,0,v,hv=>by
  obtain⟨x,r,rfl,h1,h2⟩:=h.cons_inv;simp at hv;subst hv;exact⟨x,rfl,h1⟩
 | c::vs,xs,h,i+1,v,hv=>by
  obtain⟨x,r,rfl,h1,h2⟩:=h.cons_inv;simp at hv;simpa using h2.get hv
theorem cG.GX {ρ:cz}:∀{vs:List AV} {xs:List Value},xs.length=vs.length->(∀(i:Nat) (v:AV),vs[i]?=some v->∃x,xs[i]?=some x/\VR ρ v x)->cG ρ vs xs
 | [],[],_,_=>cG.nil
 | v::vs,[],hl,_=>by simp at hl
 | [],x::xs,hl,_=>by simp at hl
 | v::vs,x::xs,hl,h=>by
  refine cG.cons ?_ (cG.GX (by simpa using hl) fun i u hu=>?_)
  ·obtain⟨y,h1,h2⟩:=h 0 v rfl;simp at h1;subst h1;exact h2
  obtain⟨y,h1,h2⟩:=h (i+1) u (by simpa using hu);exact⟨y,by simpa using h1,h2⟩
theorem cG.append {ρ:cz}:∀{vs us:List AV} {xs ys:List Value},cG ρ vs xs->cG ρ us ys->cG ρ (vs++us) (xs++ys)
 | [],us,xs,ys,h,h'=>by rw[h.ee];exact h'
 | v::vs,us,xs,ys,h,h'=>by
  obtain⟨x,r,rfl,h1,h2⟩:=h.cons_inv;exact cG.cons h1 (h2.append h')
theorem cG.drop {ρ:cz}:∀{vs:List AV} {xs:List Value},cG ρ vs xs->∀n,cG ρ (vs.drop n) (xs.drop n)
 | [],xs,h,n=>by rw[h.ee];simp;exact cG.nil
 | v::vs,xs,h,0=>h
 | v::vs,xs,h,n+1=>by
  obtain⟨x,r,rfl,h1,h2⟩:=h.cons_inv;simpa using h2.drop n
theorem cG.take {ρ:cz}:∀{vs:List AV} {xs:List Value},cG ρ vs xs->∀n,cG ρ (vs.take n) (xs.take n)
 | [],xs,h,n=>by rw[h.ee];simp;exact cG.nil
 | v::vs,xs,h,0=>by simpa using cG.nil
 | v::vs,xs,h,n+1=>by
  obtain⟨x,r,rfl,h1,h2⟩:=h.cons_inv;simpa using cG.cons h1 (h2.take n)
theorem cG.set {ρ:cz}:∀{vs:List AV} {xs:List Value},cG ρ vs xs->∀(n:Nat) {v:AV} {x:Value},VR ρ v x->cG ρ (vs.set n v) (xs.set n x)
 | [],xs,h,n,_,_,_=>by rw[h.ee];simp;exact cG.nil
 | v::vs,xs,h,0,_,_,hv=>by
  obtain⟨x,r,rfl,h1,h2⟩:=h.cons_inv;simpa using cG.cons hv h2
 | v::vs,xs,h,n+1,_,_,hv=>by
  obtain⟨x,r,rfl,h1,h2⟩:=h.cons_inv;simpa using cG.cons h1 (h2.set n hv)
structure eJ where
 key:AV
 val:AV
 born:Nat
 deriving Inhabited
inductive bQ where
 | row (cells:List AV) (elem:Nat) (ro:Bool)
 | own (cells:List AV) (elem:Nat)
 | map (es:List eJ) (clock:Nat)
 | iter (s:List Nat) (pos:Nat)
 | loop (state:LoopState) (pending:Option Code) (tmps:PT AV) (n:Nat) (params:List Nat) (assign body:Code) (defers:Pos)
 | mark
 | dead
 deriving Inhabited
def bQ.ro:bQ->Bool
 | .row _ _ ro=>ro
 | _=>false
structure aD where
 next:Pos
 m:PT bQ
def TR (ρ:cz) (t:PT AV) (n:Nat) (tmps:Array Value):Prop:=
 tmps.size=n/\∀k v,t.get (posOf k)=some v->k<n/\VR ρ v (tmps.getD k undef)
def iR (ρ:cz):List eJ->List MapEntry->Prop
 | [],ys=>ys= []
 | e::es,ys=>∃y r,ys=y::r/\VR ρ e.key y.key/\VR ρ e.val y.val/\y.born=e.born/\iR ρ es r
def gn (ρ:cz) (l:Loc):bQ->Obj->Prop
 | .row cells elem ro,x=>∃c fr,x= .cells c elem fr/\c.size=l.sh+l.cells/\cells.length<=l.cells/\
   (∀(i:Nat) (v:AV),cells[i]?=some v->∃y,c[l.sh+i]?=some y/\VR ρ v y)/\(ro=false->∀j,l.sh<=j->¬(fr.1<=j/\j<fr.2))
 | .own cells elem,x=>(l.sh=0/\cells.length=l.cells)/\∃c fr,x= .cells c elem fr/\c.size=l.sh+l.cells/\cells.length<=l.cells/\
   (∀(i:Nat) (v:AV),cells[i]?=some v->∃y,c[l.sh+i]?=some y/\VR ρ v y)/\(false=false->∀j,l.sh<=j->¬(fr.1<=j/\j<fr.2))
 | .map es clock,x=>∃es',x= .map es' clock/\iR ρ es es'.toList
 | .iter s pos,x=>∃bs,x= .stringIter bs pos/\gh s bs
 | .loop state pending tmps n params assign body defers,x=>∃fn tmps' l',x= .loop {state,pending,fn,tmps:=tmps',params:=params.toArray,assign,body,defers:=l'.cZ}/\
   ρ defers=some l'/\TR ρ tmps n tmps'
 | .mark,x=>x= .deferred (some [])
 | .dead,_=>True
theorem TR.mono {ρ ρ':cz} (h:ρ.le ρ') {t:PT AV} {n:Nat} {tmps:Array Value} (ht:TR ρ t n tmps):TR ρ' t n tmps:=
 ⟨ht.1,fun k v hv=>⟨(ht.2 k v hv).1,VR.mono h _ _ (ht.2 k v hv).2⟩⟩
theorem iR.mono {ρ ρ':cz} (h:ρ.le ρ'):∀{es:List eJ} {ys:List MapEntry},iR ρ es ys->iR ρ' es ys
 | [],ys,he=>he
 | e::es,ys,he=>by
  obtain⟨y,r,h1,h2,h3,h4,h5⟩:=he;exact⟨y,r,h1,VR.mono h _ _ h2,VR.mono h _ _ h3,h4,iR.mono h h5⟩
theorem gn.mono {ρ ρ':cz} (h:ρ.le ρ') {l:Loc}:∀{o:bQ} {x:Obj},gn ρ l o x->gn ρ' l o x
 | .row cells elem ro,x,ho=>by
  obtain⟨c,fr,h1,h2,h3,h4,h5⟩:=ho;exact⟨c,fr,h1,h2,h3,fun i v hv=>let ⟨y,a,b⟩:=h4 i v hv;⟨y,a,VR.mono h _ _ b⟩,h5⟩
 | .own cells elem,x,ho=>by
  obtain⟨h0,c,fr,h1,h2,h3,h4,h5⟩:=ho;exact⟨h0,c,fr,h1,h2,h3,fun i v hv=>let ⟨y,a,b⟩:=h4 i v hv;⟨y,a,VR.mono h _ _ b⟩,h5⟩
 | .map es clock,x,ho=>let ⟨es',h1,h2⟩:=ho;⟨es',h1,iR.mono h h2⟩
 | .iter s pos,x,ho=>ho
 | .loop ..,x,ho=>let ⟨fn,tmps',l',h1,h2,h3⟩:=ho;⟨fn,tmps',l',h1,h _ _ h2,TR.mono h h3⟩
 | .mark,x,ho=>ho
 | .dead,x,ho=>ho
structure tT (ρ:cz) (σ:aD) (w:World):Prop where
 fresh:∀b:Pos,σ.next.num<=b.num->ρ b=none/\σ.m.get b=none
 cZ:∀b l,ρ b=some l->l.cZ<w.heap.size
 obj:∀b o l,σ.m.get b=some o->ρ b=some l->∃x,w.heap[l.cZ]?=some x/\gn ρ l o x
 inj:∀b b' o o' l l',σ.m.get b=some o->σ.m.get b'=some o'->ρ b=some l->ρ b'=some l'->l.cZ=l'.cZ->b≠b'->o.ro=true/\o'.ro=true
def Wr (ρ:cz) (σ:aD) (r:Nat):Prop:=∃b o l,σ.m.get b=some o/\o.ro=false/\ρ b=some l/\l.cZ=r
structure Old (ρ:cz) (σ:aD) (w:World):Prop where
 size:Env.n0<=w.heap.size
 same:∀r:Nat,r<Env.n0->w.heap[r]?=Env.h0[r]?
 no:∀r:Nat,r<Env.n0->¬Wr ρ σ r
def Fy (w:World):Prop:=Env.n0<=w.heap.size/\∀r:Nat,r<Env.n0->w.heap[r]?=Env.h0[r]?
structure Inv (ρ:cz) (σ:aD) (w:World):Prop extends tT ρ σ w where
 nr:Old ρ σ w
structure dZ (ρ:cz) (σ:aD) (w:World) (ρ':cz) (σ':aD) (w':World):Prop where
 ext:∀b:Pos,b.num<σ.next.num->ρ' b=ρ b
 next:σ.next.num<=σ'.next.num
 size:w.heap.size<=w'.heap.size
 frame:∀r:Nat,r<w.heap.size->¬Wr ρ σ r->w'.heap[r]?=w.heap[r]?
 wr:∀r:Nat,Wr ρ' σ' r->r<w.heap.size->Wr ρ σ r
 tape:w'.tape=w.tape
 os:w'.os=w.os
 out:w'.output=w.output
theorem dZ.refl (ρ:cz) (σ:aD) (w:World):dZ ρ σ w ρ σ w:=
 ⟨fun _ _=>rfl,nR_ _,nR_ _,fun _ _ _=>rfl,fun _ h _=>h,rfl,rfl,rfl⟩
theorem dZ.trans {ρ ρ₁ ρ₂:cz} {σ σ₁ σ₂:aD} {w w₁ w₂:World} (h:dZ ρ σ w ρ₁ σ₁ w₁) (h':dZ ρ₁ σ₁ w₁ ρ₂ σ₂ w₂):dZ ρ σ w ρ₂ σ₂ w₂ where
 ext b hb:=(h'.ext b (Nat.lt_of_lt_of_le hb h.next)).trans (h.ext b hb)
 next:=Nat.le_trans h.next h'.next
 size:=Nat.le_trans h.size h'.size
 frame r hr hn:=(h'.frame r (Nat.lt_of_lt_of_le hr h.size) (fun hw=>hn (h.wr r hw hr))).trans (h.frame r hr hn)
 wr r hw hr:=h.wr r (h'.wr r hw (Nat.lt_of_lt_of_le hr h.size)) hr
 tape:=h'.tape.trans h.tape
 os:=h'.os.trans h.os
 out:=h'.out.trans h.out
theorem Old.of {ρ ρ':cz} {σ σ':aD} {w w':World} (h:Old ρ σ w) (st:dZ ρ σ w ρ' σ' w'):Old ρ' σ' w' where
 size:=Nat.le_trans h.size st.size
 same r hr:=(st.frame r (Nat.lt_of_lt_of_le hr h.size) (h.no r hr)).trans (h.same r hr)
 no r hr hw:=h.no r hr (st.wr r hw (Nat.lt_of_lt_of_le hr h.size))
theorem Inv.of {ρ ρ':cz} {σ σ':aD} {w w':World} (h:Inv ρ σ w) (h':tT ρ' σ' w'/\dZ ρ σ w ρ' σ' w'):Inv ρ' σ' w'/\dZ ρ σ w ρ' σ' w':=⟨⟨h'.1,h.nr.of h'.2⟩,h'.2⟩
theorem Inv.Co {ρ:cz} {σ:aD} {w:World} (h:Inv ρ σ w) {b:Pos} {l:Loc} (hb:ρ b=some l):b.num<σ.next.num:=by
 rcases Nat.lt_or_ge b.num σ.next.num with h' | h'
 ·exact h'
 rw[(h.fresh b h').1] at hb;cases hb
theorem dZ.le {ρ ρ':cz} {σ σ':aD} {w w':World} (hi:Inv ρ σ w) (h:dZ ρ σ w ρ' σ' w'):ρ.le ρ':=fun b l hb=>by
 rw[h.ext b (hi.Co hb)];exact hb
end Go.Ev
namespace Go.Ev
variable [Env]
section
variable {ρ:cz} {σ:aD} {w:World}
theorem Addr.add_eq (a:Addr) (n:Nat) (h:a.spot=none):a.add n=⟨a.block,a.off+n,none⟩:=by
 unfold Addr.add;split
 ·rename_i h0;subst h0;cases a;simp_all
 rfl
theorem cell?_of_heap {w:World} {r:Nat} {c:Array Value} {e:Nat} {fr:Nat×Nat} (h:w.heap[r]?=some (.cells c e fr)) (i:Nat):w.cell? ⟨r,i,none⟩=c[i]?:=by
 simp[World.cell?,h]
theorem frozen?_of_heap {w:World} {r:Nat} {c:Array Value} {e:Nat} {fr:Nat×Nat} (h:w.heap[r]?=some (.cells c e fr)) (i:Nat) (hn:¬(fr.1<=i/\i<fr.2)):w.frozen? ⟨r,i,none⟩=false:=by
 simp only[World.frozen?,h];simp only[Bool.and_eq_false_iff,decide_eq_false_iff_not]
 by_cases h1:fr.1<=i
 ·exact .inr (fun h2=>hn ⟨h1,h2⟩)
 exact .inl h1
theorem heap_setCell_same {w:World} {r:Nat} {c:Array Value} {e:Nat} {fr:Nat×Nat} (h:w.heap[r]?=some (.cells c e fr)) (i:Nat) (v:Value):
  (w.setCell ⟨r,i,none⟩ v).heap[r]?=some (.cells (c.setIfInBounds i v) e fr):=by
 simp[World.setCell,Array.getElem?_modify,h]
theorem heap_setCell_other (w:World) {r:Nat} (a:Addr) (v:Value) (h:r≠a.block):(w.setCell a v).heap[r]?=w.heap[r]?:=by
 simp[World.setCell,Array.getElem?_modify,Ne.symm h]
theorem Inv.row (hi:Inv ρ σ w) {b:Pos} {l:Loc} {cells:List AV} {e:Nat} {ro:Bool} (ho:σ.m.get b=some (.row cells e ro)) (hl:ρ b=some l):
  ∃(c:Array Value) (fr:Nat×Nat),w.heap[l.cZ]?=some (.cells c e fr)/\c.size=l.sh+l.cells/\cells.length<=l.cells/\
   (∀(i:Nat) (v:AV),cells[i]?=some v->∃y,c[l.sh+i]?=some y/\VR ρ v y)/\(ro=false->∀j,l.sh<=j->¬(fr.1<=j/\j<fr.2)):=by
 obtain⟨x,hx,c,fr,rfl,h2,h3,h4,h5⟩:=hi.obj b _ l ho hl;exact⟨c,fr,hx,h2,h3,h4,h5⟩
theorem Inv.cell (hi:Inv ρ σ w) {b:Pos} {l:Loc} {cells:List AV} {e:Nat} {ro:Bool} (ho:σ.m.get b=some (.row cells e ro)) (hl:ρ b=some l)
  {i:Nat} {v:AV} (hv:cells[i]?=some v):∃y,w.cell? ⟨l.cZ,l.sh+i,none⟩=some y/\VR ρ v y:=by
 obtain⟨c,fr,h1,_,_,h4,_⟩:=hi.row ho hl;obtain⟨y,hy,hv'⟩:=h4 i v hv;exact⟨y,by rw[cell?_of_heap h1];exact hy,hv'⟩
theorem Inv.drew (hi:Inv ρ σ w):Inv ρ σ w.drew:=⟨⟨hi.fresh,hi.cZ,hi.obj,hi.inj⟩,⟨hi.nr.size,hi.nr.same,hi.nr.no⟩⟩
theorem dZ.drew (ρ:cz) (σ:aD) (w:World):dZ ρ σ w ρ σ w.drew:=
 ⟨fun _ _=>rfl,nR_ _,nR_ _,fun _ _ _=>rfl,fun _ h _=>h,rfl,rfl,rfl⟩
def aD.alloc (σ:aD) (o:bQ):aD:={next:=σ.next.succ,m:=σ.m.put (some o) σ.next}
def cz.with (ρ:cz) (b:Pos) (l:Loc):cz:=fun b'=>if b'=b then some l else ρ b'
theorem cz.b0 (ρ:cz) (b:Pos) (l:Loc):ρ.with b l b=some l:=by simp[cz.with]
theorem cz.dB (ρ:cz) {b b':Pos} (l:Loc) (h:b'≠b):ρ.with b l b'=ρ b':=by simp[cz.with,h]
theorem Inv.tP (hi:Inv ρ σ w) (l:Loc):ρ.le (ρ.with σ.next l):=fun b l' hb=>by
 rw[cz.dB]; · exact hb
 intro e;subst e;rw[(hi.fresh _ (nR_ _)).1] at hb;cases hb
theorem heap_alloc_old (w:World) (x:Obj) {r:Nat} (h:r<w.heap.size):(w.alloc x).heap[r]?=w.heap[r]?:=by
 show(w.heap.push x)[r]?=_;rw[Array.getElem?_push];simp[Nat.ne_of_lt h]
theorem heap_alloc_new (w:World) (x:Obj):(w.alloc x).heap[w.heap.size]?=some x:=by
 show(w.heap.push x)[w.heap.size]?=_;simp
theorem Inv.Bw (hi:Inv ρ σ w) {o:bQ} {x:Obj} {l:Loc} (hl:l.cZ=w.heap.size) (ho:gn ρ l o x):
  tT (ρ.with σ.next l) (σ.alloc o) (w.alloc x)/\dZ ρ σ w (ρ.with σ.next l) (σ.alloc o) (w.alloc x):=by
 have hle:=hi.tP l;have hnew:∀b l',b≠σ.next->(ρ.with σ.next l) b=some l'->ρ b=some l':=fun b l' hb h=>by rwa[cz.dB ρ l hb] at h
 have hget:∀b,b≠σ.next->(σ.alloc o).m.get b=σ.m.get b:=fun b hb=>PT.cV _ _ _ _ hb
 have hsame:(σ.alloc o).m.get σ.next=some o:=PT.cY _ _ _;have hnb:∀b:Pos,b.num<σ.next.num->b≠σ.next:=fun b hb e=>by subst e;exact Nat.lt_irrefl _ hb
 constructor
 ·refine⟨fun b hb=>?_,fun b l' hb=>?_,fun b o' l' hb hl'=>?_,fun b b' o₁ o₂ l₁ l₂ h1 h2 h3 h4 h5 h6=>?_⟩
  ·have hb':σ.next.num+1<=b.num:=by simpa [aD.alloc,Pos.iv] using hb
   have hne:b≠σ.next:=fun e=>by subst e;omega
   rw[cz.dB ρ l hne,hget b hne];exact hi.fresh b (by omega)
  ·simp only[World.size_alloc]
   by_cases hne:b=σ.next
   ·subst hne;rw[cz.b0] at hb;cases hb;omega
   have:=hi.cZ b l' (hnew b l' hne hb);omega
  ·by_cases hne:b=σ.next
   ·subst hne;rw[cz.b0] at hl';rw[hsame] at hb;cases hb;cases hl';exact⟨x,by rw[hl];exact heap_alloc_new w x,ho.mono hle⟩
   rw[hget b hne] at hb;have h':=hnew b l' hne hl';obtain⟨y,hy,hr⟩:=hi.obj b o' l' hb h';exact⟨y,by rw[heap_alloc_old w x (hi.cZ b l' h')];exact hy,hr.mono hle⟩
  by_cases e1:b=σ.next<;>by_cases e2:b'=σ.next
  ·exact absurd (e1.trans e2.symm) h6
  ·subst e1;rw[cz.b0] at h3;cases h3;have:=hi.cZ b' l₂ (hnew b' l₂ e2 h4);omega
  ·subst e2;rw[cz.b0] at h4;cases h4;have:=hi.cZ b l₁ (hnew b l₁ e1 h3);omega
  rw[hget b e1] at h1;rw[hget b' e2] at h2;exact hi.inj b b' o₁ o₂ l₁ l₂ h1 h2 (hnew b l₁ e1 h3) (hnew b' l₂ e2 h4) h5 h6
 refine⟨fun b hb=>cz.dB ρ l (hnb b hb),by simp[aD.alloc,Pos.iv],by simp,fun r hr _=>heap_alloc_old w x hr,?_,rfl,rfl,rfl⟩;rintro r ⟨b,o',l',h1,h2,h3,rfl⟩ hr
 by_cases hne:b=σ.next
 ·subst hne;rw[cz.b0] at h3;cases h3;omega
 rw[hget b hne] at h1;exact⟨b,o',l',h1,h2,hnew b l' hne h3,rfl⟩
theorem Inv.alloc (hi:Inv ρ σ w) {o:bQ} {x:Obj} {l:Loc} (hl:l.cZ=w.heap.size) (ho:gn ρ l o x):
  Inv (ρ.with σ.next l) (σ.alloc o) (w.alloc x)/\dZ ρ σ w (ρ.with σ.next l) (σ.alloc o) (w.alloc x):=hi.of (hi.Bw hl ho)
def aD.setObj (σ:aD) (b:Pos) (o:bQ):aD:={σ with m:=σ.m.put (some o) b}
theorem Inv.zD (hi:Inv ρ σ w) {b:Pos} {l:Loc} {o o':bQ} {x:Obj} {w':World} (hb:σ.m.get b=some o) (hl:ρ b=some l) (hro:o.ro=false) (hro':o'.ro=false)
  (hw:w'.heap[l.cZ]?=some x) (ho:gn ρ l o' x) (hother:∀r,r≠l.cZ->w'.heap[r]?=w.heap[r]?) (hsize:w'.heap.size=w.heap.size)
  (htape:w'.tape=w.tape) (hos:w'.os=w.os) (hout:w'.output=w.output):
  tT ρ (σ.setObj b o') w'/\dZ ρ σ w ρ (σ.setObj b o') w':=by
 have hget:∀b',b'≠b->(σ.setObj b o').m.get b'=σ.m.get b':=fun b' h=>PT.cV _ _ _ _ h
 have hsame:(σ.setObj b o').m.get b=some o':=PT.cY _ _ _
 have back:∀b₁ o₁,(σ.setObj b o').m.get b₁=some o₁->∃o₂,σ.m.get b₁=some o₂/\(o₁.ro=true↔o₂.ro=true):=fun b₁ o₁ h=>by
  by_cases e:b₁=b
  ·subst e;rw[hsame] at h;cases h;exact⟨o,hb,by rw[hro,hro']⟩
  rw[hget b₁ e] at h;exact⟨o₁,h,Iff.rfl⟩
 constructor
 ·refine⟨fun b' hb'=>?_,fun b' l' hl'=>by rw[hsize];exact hi.cZ b' l' hl',fun b' o₁ l₁ h1 h2=>?_,fun b₁ b₂ o₁ o₂ l₁ l₂ h1 h2 h3 h4 h5 h6=>?_⟩
  ·have hf:=hi.fresh b' hb';have hne:b'≠b:=fun e=>by subst e;rw[hl] at hf;cases hf.1
   exact⟨hf.1,by rw[hget b' hne];exact hf.2⟩
  ·by_cases e:b'=b
   ·subst e;rw[hsame] at h1;rw[hl] at h2;cases h1;cases h2;exact⟨x,hw,ho⟩
   rw[hget b' e] at h1;obtain⟨y,hy,hr⟩:=hi.obj b' o₁ l₁ h1 h2
   have hne:l₁.cZ≠l.cZ:=fun hbk=>by
    have:=hi.inj b' b o₁ o l₁ l h1 hb h2 hl hbk e;rw[hro] at this;exact absurd this.2 (by simp)
   exact⟨y,by rw[hother _ hne];exact hy,hr⟩
  obtain⟨o₁',h1',hi1⟩:=back b₁ o₁ h1;obtain⟨o₂',h2',hi2⟩:=back b₂ o₂ h2;have:=hi.inj b₁ b₂ o₁' o₂' l₁ l₂ h1' h2' h3 h4 h5 h6;exact⟨hi1.2 this.1,hi2.2 this.2⟩
 refine⟨fun _ _=>rfl,nR_ _,by rw[hsize];exact nR_ _,fun r hr hn=>hother r (fun e=>hn ⟨b,o,l,hb,hro,hl,e.symm⟩),?_,htape,hos,hout⟩;rintro r ⟨b₁,o₁,l₁,h1,h2,h3,rfl⟩ hr;obtain⟨o₁',h1',hi1⟩:=back b₁ o₁ h1;refine⟨b₁,o₁',l₁,h1',?_,h3,rfl⟩;cases hh:o₁'.ro with
 | false=>rfl
 | true=>rw[hi1.2 hh] at h2;cases h2
theorem Inv.change (hi:Inv ρ σ w) {b:Pos} {l:Loc} {o o':bQ} {x:Obj} {w':World} (hb:σ.m.get b=some o) (hl:ρ b=some l) (hro:o.ro=false) (hro':o'.ro=false)
  (hw:w'.heap[l.cZ]?=some x) (ho:gn ρ l o' x) (hother:∀r,r≠l.cZ->w'.heap[r]?=w.heap[r]?) (hsize:w'.heap.size=w.heap.size)
  (htape:w'.tape=w.tape) (hos:w'.os=w.os) (hout:w'.output=w.output):
  Inv ρ (σ.setObj b o') w'/\dZ ρ σ w ρ (σ.setObj b o') w':=hi.of (hi.zD hb hl hro hro' hw ho hother hsize htape hos hout)
theorem Inv.xY (hi:Inv ρ σ w) {b:Pos} {l:Loc} {o o':bQ} {x:Obj} {w':World} (hb:σ.m.get b=some o) (hl:ρ b=some l) (hro:o.ro=false)
  (hw:w'.heap[l.cZ]?=some x) (ho:gn ρ l o' x) (hother:∀r,r≠l.cZ->w'.heap[r]?=w.heap[r]?) (hsize:w'.heap.size=w.heap.size)
  (htape:w'.tape=w.tape) (hos:w'.os=w.os) (hout:w'.output=w.output):
  tT ρ (σ.setObj b o') w'/\dZ ρ σ w ρ (σ.setObj b o') w':=by
 have hget:∀b',b'≠b->(σ.setObj b o').m.get b'=σ.m.get b':=fun b' h=>PT.cV _ _ _ _ h
 have hsame:(σ.setObj b o').m.get b=some o':=PT.cY _ _ _
 have apart:∀b' o₁ l₁,b'≠b->σ.m.get b'=some o₁->ρ b'=some l₁->l₁.cZ≠l.cZ:=fun b' o₁ l₁ e h1 h2 hbk=>by
  have:=hi.inj b' b o₁ o l₁ l h1 hb h2 hl hbk e;rw[hro] at this;exact absurd this.2 (by simp)
 constructor
 ·refine⟨fun b' hb'=>?_,fun b' l' hl'=>by rw[hsize];exact hi.cZ b' l' hl',fun b' o₁ l₁ h1 h2=>?_,fun b₁ b₂ o₁ o₂ l₁ l₂ h1 h2 h3 h4 h5 h6=>?_⟩
  ·have hf:=hi.fresh b' hb';have hne:b'≠b:=fun e=>by subst e;rw[hl] at hf;cases hf.1
   exact⟨hf.1,by rw[hget b' hne];exact hf.2⟩
  ·by_cases e:b'=b
   ·subst e;rw[hsame] at h1;rw[hl] at h2;cases h1;cases h2;exact⟨x,hw,ho⟩
   rw[hget b' e] at h1;obtain⟨y,hy,hr⟩:=hi.obj b' o₁ l₁ h1 h2;exact⟨y,by rw[hother _ (apart b' o₁ l₁ e h1 h2)];exact hy,hr⟩
  by_cases e1:b₁=b<;>by_cases e2:b₂=b
  ·exact absurd (e1.trans e2.symm) h6
  ·subst e1;rw[hget b₂ e2] at h2;rw[hl] at h3;cases h3;exact absurd h5.symm (apart b₂ o₂ l₂ e2 h2 h4)
  ·subst e2;rw[hget b₁ e1] at h1;rw[hl] at h4;cases h4;exact absurd h5 (apart b₁ o₁ l₁ e1 h1 h3)
  rw[hget b₁ e1] at h1;rw[hget b₂ e2] at h2;exact hi.inj b₁ b₂ o₁ o₂ l₁ l₂ h1 h2 h3 h4 h5 h6
 refine⟨fun _ _=>rfl,nR_ _,by rw[hsize];exact nR_ _,fun r hr hn=>hother r (fun e=>hn ⟨b,o,l,hb,hro,hl,e.symm⟩),?_,htape,hos,hout⟩;rintro r ⟨b₁,o₁,l₁,h1,h2,h3,rfl⟩ hr
 by_cases e:b₁=b
 ·subst e;exact⟨b₁,o,l₁,hb,hro,h3,rfl⟩
 rw[hget b₁ e] at h1;exact⟨b₁,o₁,l₁,h1,h2,h3,rfl⟩
theorem Inv.C1 (hi:Inv ρ σ w) {b:Pos} {l:Loc} {o o':bQ} {x:Obj} {w':World} (hb:σ.m.get b=some o) (hl:ρ b=some l) (hro:o.ro=false)
  (hw:w'.heap[l.cZ]?=some x) (ho:gn ρ l o' x) (hother:∀r,r≠l.cZ->w'.heap[r]?=w.heap[r]?) (hsize:w'.heap.size=w.heap.size)
  (htape:w'.tape=w.tape) (hos:w'.os=w.os) (hout:w'.output=w.output):
  Inv ρ (σ.setObj b o') w'/\dZ ρ σ w ρ (σ.setObj b o') w':=hi.of (hi.xY hb hl hro hw ho hother hsize htape hos hout)
theorem Inv.Hc (hi:Inv ρ σ w) {b:Pos} {l:Loc} {o o':bQ} (hb:σ.m.get b=some o) (hl:ρ b=some l) (hro:o.ro=false) (ho:∀x,gn ρ l o x->gn ρ l o' x):
  Inv ρ (σ.setObj b o') w/\dZ ρ σ w ρ (σ.setObj b o') w:=by
 obtain⟨x,hx,hr⟩:=hi.obj b o l hb hl;exact hi.C1 hb hl hro hx (ho x hr) (fun _ _=>rfl) rfl rfl rfl rfl
theorem gn.Dv {l:Loc} {cells:List AV} {e:Nat} {x:Obj} (h:gn ρ l (.own cells e) x):(l.sh=0/\cells.length=l.cells)/\gn ρ l (.row cells e false) x:=⟨h.1,h.2⟩
theorem gn.DD {l:Loc} {cells:List AV} {e:Nat} {x:Obj} (h0:l.sh=0/\cells.length=l.cells) (h:gn ρ l (.row cells e false) x):gn ρ l (.own cells e) x:=⟨h0,h⟩
theorem Inv.own (hi:Inv ρ σ w) {b:Pos} {l:Loc} {cells:List AV} {e:Nat} (hb:σ.m.get b=some (.own cells e)) (hl:ρ b=some l):
  (l.sh=0/\cells.length=l.cells)/\Inv ρ (σ.setObj b (.row cells e false)) w/\dZ ρ σ w ρ (σ.setObj b (.row cells e false)) w:=by
 obtain⟨x,hx,hr⟩:=hi.obj b _ l hb hl;exact⟨hr.Dv.1,hi.Hc hb hl rfl fun x hx=>hx.Dv.2⟩
theorem Inv.setCell (hi:Inv ρ σ w) {b:Pos} {l:Loc} {cells:List AV} {e i:Nat} {v:AV} {y:Value} (hb:σ.m.get b=some (.row cells e false)) (hl:ρ b=some l)
  (hlt:i<cells.length) (hv:VR ρ v y):
  Inv ρ (σ.setObj b (.row (cells.set i v) e false)) (w.setCell ⟨l.cZ,l.sh+i,none⟩ y)/\dZ ρ σ w ρ (σ.setObj b (.row (cells.set i v) e false)) (w.setCell ⟨l.cZ,l.sh+i,none⟩ y):=by
 obtain⟨c,fr,h1,h2,h3,h4,h5⟩:=hi.row hb hl
 refine hi.change hb hl rfl rfl (heap_setCell_same h1 (l.sh+i) y) ⟨_,fr,rfl,by simpa using h2,by simpa using h3,fun j u hu=>?_,fun _=>h5 rfl⟩
  (fun r hr=>heap_setCell_other w _ _ hr) (by simp) rfl rfl rfl
 rw[Array.getElem?_setIfInBounds]
 by_cases e:j=i
 ·subst e;rw[List.getElem?_set_self hlt] at hu;cases hu;have:l.sh+j<c.size:=by omega
  exact⟨y,by simp[this],hv⟩
 rw[List.getElem?_set_ne (Ne.symm e)] at hu;obtain⟨z,hz,hr⟩:=h4 j u hu;have this:¬(l.sh+i=l.sh+j):=by omega
 exact⟨z,by rw[if_neg this];exact hz,hr⟩
def aD.drop (σ:aD) (b:Pos):aD:={σ with m:=σ.m.put none b}
theorem Inv.AA (hi:Inv ρ σ w) {b:Pos} {l l':Loc} {cells cells':List AV} {e:Nat} {x:Obj} {w':World} (hb:σ.m.get b=some (.row cells e false)) (hl:ρ b=some l)
  (hblk:l'.cZ=l.cZ) (hw:w'.heap[l.cZ]?=some x) (ho:gn ρ l' (.row cells' e false) x) (hother:∀r,r≠l.cZ->w'.heap[r]?=w.heap[r]?) (hsize:w'.heap.size=w.heap.size)
  (htape:w'.tape=w.tape) (hos:w'.os=w.os) (hout:w'.output=w.output):
  tT (ρ.with σ.next l') ((σ.drop b).alloc (.row cells' e false)) w'/\dZ ρ σ w (ρ.with σ.next l') ((σ.drop b).alloc (.row cells' e false)) w':=by
 have hle:=hi.tP l';have hnew:∀b l'',b≠σ.next->(ρ.with σ.next l') b=some l''->ρ b=some l'':=fun b l'' hb h=>by rwa[cz.dB ρ l' hb] at h
 have hbn:b≠σ.next:=fun e=>by subst e;rw[(hi.fresh _ (nR_ _)).1] at hl;cases hl
 have hnb:∀b:Pos,b.num<σ.next.num->b≠σ.next:=fun b hb e=>by subst e;exact Nat.lt_irrefl _ hb
 have hsame:((σ.drop b).alloc (.row cells' e false)).m.get σ.next=some (.row cells' e false):=PT.cY _ _ _
 have hget:∀b',b'≠σ.next->((σ.drop b).alloc (.row cells' e false)).m.get b'=if b'=b then none else σ.m.get b':=fun b' h=>by
  show((σ.m.put none b).put _ σ.next).get b'=_;rw[PT.cV _ _ _ _ h,PT.iY]
 have nr:∀b' o',b'≠σ.next->((σ.drop b).alloc (.row cells' e false)).m.get b'=some o'->b'≠b/\σ.m.get b'=some o':=fun b' o' hn h=>by
  rw[hget b' hn] at h;split at h
  ·cases h
  rename_i hne;exact⟨hne,h⟩
 have apart:∀b' o' l'',b'≠b->σ.m.get b'=some o'->ρ b'=some l''->l''.cZ≠l.cZ:=fun b' o' l'' hne h1 h2 hbk=>by
  have:=hi.inj b' b o' _ l'' l h1 hb h2 hl hbk hne;exact absurd this.2 (by simp[bQ.ro])
 constructor
 ·refine⟨fun b' hb'=>?_,fun b' l'' hl''=>?_,fun b' o₁ l₁ h1 h2=>?_,fun b₁ b₂ o₁ o₂ l₁ l₂ h1 h2 h3 h4 h5 h6=>?_⟩
  ·have hb'':σ.next.num+1<=b'.num:=by simpa [aD.alloc,aD.drop,Pos.iv] using hb'
   have hne:b'≠σ.next:=fun e=>by subst e;omega
   have hf:=hi.fresh b' (by omega);rw[cz.dB ρ l' hne,hget b' hne];exact⟨hf.1,by split<;>simp[hf.2]⟩
  ·rw[hsize]
   by_cases e1:b'=σ.next
   ·subst e1;rw[cz.b0] at hl'';cases hl'';rw[hblk];exact hi.cZ b l hl
   exact hi.cZ b' l'' (hnew b' l'' e1 hl'')
  ·by_cases e1:b'=σ.next
   ·subst e1;rw[hsame] at h1;rw[cz.b0] at h2;cases h1;cases h2;exact⟨x,by rw[hblk];exact hw,ho.mono hle⟩
   obtain⟨hne,h1'⟩:=nr b' o₁ e1 h1;have h2':=hnew b' l₁ e1 h2;obtain⟨y,hy,hr⟩:=hi.obj b' o₁ l₁ h1' h2';exact⟨y,by rw[hother _ (apart b' o₁ l₁ hne h1' h2')];exact hy,hr.mono hle⟩
  by_cases e1:b₁=σ.next<;>by_cases e2:b₂=σ.next
  ·exact absurd (e1.trans e2.symm) h6
  ·subst e1;rw[cz.b0] at h3;cases h3;obtain⟨hne,h2'⟩:=nr b₂ o₂ e2 h2;exact absurd (h5.symm.trans hblk) (apart b₂ o₂ l₂ hne h2' (hnew b₂ l₂ e2 h4))
  ·subst e2;rw[cz.b0] at h4;cases h4;obtain⟨hne,h1'⟩:=nr b₁ o₁ e1 h1;exact absurd (h5.trans hblk) (apart b₁ o₁ l₁ hne h1' (hnew b₁ l₁ e1 h3))
  obtain⟨_,h1'⟩:=nr b₁ o₁ e1 h1;obtain⟨_,h2'⟩:=nr b₂ o₂ e2 h2;exact hi.inj b₁ b₂ o₁ o₂ l₁ l₂ h1' h2' (hnew b₁ l₁ e1 h3) (hnew b₂ l₂ e2 h4) h5 h6
 refine⟨fun b' hb'=>cz.dB ρ l' (hnb b' hb'),by simp[aD.alloc,aD.drop,Pos.iv],by rw[hsize];exact nR_ _,
  fun r hr hn=>hother r (fun e'=>hn ⟨b,_,l,hb,rfl,hl,e'.symm⟩),?_,htape,hos,hout⟩
 rintro r ⟨b₁,o₁,l₁,h1,h2,h3,rfl⟩ hr
 by_cases e1:b₁=σ.next
 ·subst e1;rw[cz.b0] at h3;cases h3;exact⟨b,_,l,hb,rfl,hl,hblk.symm⟩
 obtain⟨_,h1'⟩:=nr b₁ o₁ e1 h1;exact⟨b₁,o₁,l₁,h1',h2,hnew b₁ l₁ e1 h3,rfl⟩
theorem Inv.yI (hi:Inv ρ σ w) {b:Pos} {l l':Loc} {cells cells':List AV} {e:Nat} {x:Obj} {w':World} (hb:σ.m.get b=some (.row cells e false)) (hl:ρ b=some l)
  (hblk:l'.cZ=l.cZ) (hw:w'.heap[l.cZ]?=some x) (ho:gn ρ l' (.row cells' e false) x) (hother:∀r,r≠l.cZ->w'.heap[r]?=w.heap[r]?) (hsize:w'.heap.size=w.heap.size)
  (htape:w'.tape=w.tape) (hos:w'.os=w.os) (hout:w'.output=w.output):
  Inv (ρ.with σ.next l') ((σ.drop b).alloc (.row cells' e false)) w'/\dZ ρ σ w (ρ.with σ.next l') ((σ.drop b).alloc (.row cells' e false)) w':=hi.of (hi.AA hb hl hblk hw ho hother hsize htape hos hout)
theorem Inv.zX (hi:Inv ρ σ w) (b:Pos):tT ρ (σ.drop b) w/\dZ ρ σ w ρ (σ.drop b) w:=by
 have nr:∀b' o',(σ.drop b).m.get b'=some o'->σ.m.get b'=some o':=fun b' o' h=>by
  have h':(σ.m.put none b).get b'=some o':=h;rw[PT.iY] at h';split at h'
  ·cases h'
  exact h'
 constructor
 ·refine⟨fun b' hb'=>⟨(hi.fresh b' hb').1,?_⟩,hi.cZ,fun b' o l h1 h2=>hi.obj b' o l (nr b' o h1) h2,fun b₁ b₂ o₁ o₂ l₁ l₂ h1 h2=>hi.inj b₁ b₂ o₁ o₂ l₁ l₂ (nr b₁ o₁ h1) (nr b₂ o₂ h2)⟩;show(σ.m.put none b).get b'=none;rw[PT.iY];split
  ·rfl
  exact(hi.fresh b' hb').2
 refine⟨fun _ _=>rfl,nR_ _,nR_ _,fun _ _ _=>rfl,?_,rfl,rfl,rfl⟩;rintro r ⟨b₁,o₁,l₁,h1,h2,h3,rfl⟩ hr;exact⟨b₁,o₁,l₁,nr b₁ o₁ h1,h2,h3,rfl⟩
theorem Inv.forget (hi:Inv ρ σ w) (b:Pos):Inv ρ (σ.drop b) w/\dZ ρ σ w ρ (σ.drop b) w:=hi.of (hi.zX b)
end
def Kg (k:IntKind) (n:Int):Bool:=
 match k,n with
 | .i8,.ofNat a=>Nat.ble a 127 | .i8,.negSucc a=>Nat.ble a 127
 | .i16,.ofNat a=>Nat.ble a 32767 | .i16,.negSucc a=>Nat.ble a 32767
 | .i32,.ofNat a=>Nat.ble a 2147483647 | .i32,.negSucc a=>Nat.ble a 2147483647
 | .i64,.ofNat a=>Nat.ble a 9223372036854775807 | .i64,.negSucc a=>Nat.ble a 9223372036854775807
 | .u8,.ofNat a=>Nat.ble a 255 | .u16,.ofNat a=>Nat.ble a 65535
 | .u32,.ofNat a=>Nat.ble a 4294967295 | .u64,.ofNat a=>Nat.ble a 18446744073709551615
 | _,_=>false
def wr (k:IntKind) (n:Int):Int:=bif Kg k n then n else k.wrap n
def bG (x y:Int):Bool:=
 match x,y with
 | .ofNat a,.ofNat b=>Nat.ble (Nat.succ a) b
 | .negSucc _,.ofNat _=>true
 | .ofNat _,.negSucc _=>false
 | .negSucc a,.negSucc b=>Nat.ble (Nat.succ b) a
def bq (x y:Int):Bool:=
 match x,y with
 | .ofNat a,.ofNat b=>Nat.beq a b
 | .negSucc a,.negSucc b=>Nat.beq a b
 | _,_=>false
def fF (s t:List Nat):Bool:=
 List.rec (motive:=fun _=>List Nat->Bool) (fun t=>List.rec (motive:=fun _=>Bool) true (fun _ _ _=>false) t)
  (fun x _ ih t=>List.rec (motive:=fun _=>Bool) false (fun y u _=>bif Nat.beq x y then ih u else false) t) s t
def HO (s t:List Nat):Bool:=
 List.rec (motive:=fun _=>List Nat->Bool) (fun t=>List.rec (motive:=fun _=>Bool) false (fun _ _ _=>true) t)
  (fun x _ ih t=>List.rec (motive:=fun _=>Bool) false (fun y u _=>bif Nat.ble (Nat.succ x) y then true else bif Nat.beq x y then ih u else false) t) s t
def q7:IntKind->IntKind->Bool
 | .i8,.i8 | .i16,.i16 | .i32,.i32 | .i64,.i64 | .u8,.u8 | .u16,.u16 | .u32,.u32 | .u64,.u64=>true
 | _,_=>false
def jH:Value->Option AV
 | .bool b=>some (.bool b)
 | .int k n=>some (.int k n)
 | .string s=>some (.str (s.data.toList.map UInt8.toNat))
 | .pointer none=>some .nilPtr
 | .slice none 0 0=>some .aK
 | .map none=>some .gU
 | .nilFunc=>some .nilFunc
 | .nilIface=>some .nilIface
 | _=>none
def ow:Value->Option AV
 | .agg cs=>(cF jH cs.toList).map .agg
 | .tuple cs=>(cF jH cs.toList).map .tuple
 | v=>jH v
def tc (P:Program) (t:TypeId):Option TypeInfo:=
 match nth P.types.toList t with
 | some i=>some i
 | none=>P.info? t
def nF (P:Program) (t:TypeId):Option TypeDesc:=
 match tc P t with
 | some {desc:=.named _ u,..}=>(tc P u).map (·.desc)
 | some i=>some i.desc
 | none=>none
theorem oo (P:Program) (t:TypeId):tc P t=P.info? t:=by
 unfold tc;rw[fC,aT_];cases h:P.types[t]? with
 | none=>rfl
 | some i=>
  have hlt:=(aS_.1 h).1;unfold Tables.info?;rw[if_pos hlt,h]
theorem m6 (P:Program) (t:TypeId):nF P t=P.underlying t:=by
 unfold nF Program.underlying;simp only[oo];rfl
def dE (P:Program) (t:TypeId):Option (Option Nat):=
 match nF P t with
 | some (.struct _) | some (.array _ _)=>some (some (((tc P t).map (·.size)).getD 0))
 | some _=>some none
 | none=>none
theorem zj (P:Program) (t:TypeId):dE P t=match P.underlying t with
 | some (.struct _) | some (.array _ _)=>some (some (P.cellsOf t))
 | some _=>some none
 | none=>none:=by
 unfold dE;rw[m6,oo];rfl
def cC:AV->Option (List AV)
 | .agg cs=>some cs
 | .tuple _=>none
 | .any=>none
 | v=>some [v]
def il:AV->Bool
 | .agg _ | .tuple _ | .any=>false
 | _=>true
def cj (l:List AV):Bool:=List.rec (motive:=fun _=>Bool) true (fun v _ r=>bif il v then r else false) l
def kG (cs l:List AV):List AV:=
 List.rec (motive:=fun _=>List AV->List AV) (fun l=>l) (fun c _ ih l=>List.rec (motive:=fun _=>List AV) [] (fun _ l _=>c::ih l) l) cs l
def dA (cs l:List AV) (off:Nat):List AV:=
 List.rec (motive:=fun _=>Nat->List AV) (fun _=>[]) (fun x l ih off=>Nat.rec (motive:=fun _=>List AV) (kG cs (x::l)) (fun m _=>x::ih m) off) l off
def Dw (P:Program) (t:TypeId) (cs:List AV) (off:Nat):Option AV:=
 match dE P t with
 | some (some n)=>some (.agg (takeN (dy cs off) n))
 | some none=>nth cs off
 | none=>none
def ju (place:Nat->Option (Nat×Nat)) (ev:Operand->Option AV) (parts:List (Nat×Operand)) (cells:List AV):Option (List AV):=
 List.rec (motive:=fun _=>List AV->Option (List AV)) (fun cells=>some cells)
  (fun p _ ih cells=>
   match place p.1,(ev p.2).bind cC with
   | some (off,size),some vs=>bif Nat.beq (cD vs) size && Nat.ble (off+size) (cD cells) then ih (dA vs cells off) else none
   | _,_=>none) parts cells
def eR (P:Program) (t:TypeId):Option AV:=(P.info? t).bind fun i=>i.zero.bind ow
def eN (cs:List AV) (n:Nat):List AV:=Nat.rec (motive:=fun _=>List AV) [] (fun _ r=>fD cs r) n
def structOf (P:Program) (t:TypeId):Option (Array Field):=
 match nF P t with
 | some (.struct fs)=>some fs
 | _=>none
def qu:AV->AV->Option Bool
 | .bool a,.bool b=>some (bif a then b else(bif b then false else true))
 | .int j a,.int k b=>bif q7 j k then some (bq a b) else none
 | .str a,.str b=>some (fF a b)
 | _,_=>none
def iH (P:Program) (fs:List Field) (xs ys:List AV):Option Bool:=
 List.rec (motive:=fun _=>Option Bool) (some true)
  (fun f _ ih=>
   match P.underlying f.type,nth xs f.offset,nth ys f.offset with
   | some .bool,some (.bool a),some (.bool b)=>bif (bif a then b else(bif b then false else true)) then ih else some false
   | some (.int _),some (.int j a),some (.int k b)=>bif q7 j k then(bif bq a b then ih else some false) else none
   | some .string,some (.str a),some (.str b)=>bif fF a b then ih else some false
   | _,_,_=>none) fs
def jN (fs:List Field):Bool:=List.rec (motive:=fun _=>Bool) true (fun f _ r=>bif f.name == "_" then false else r) fs
def uz (xs ys:List AV):Option Bool:=
 List.rec (motive:=fun _=>List AV->Option Bool) (fun ys=>match ys with | []=>some true | _=>none)
  (fun x _ ih ys=>match x,ys with
   | .int j a,.int k b::r=>bif q7 j k then(bif bq a b then ih r else some false) else none
   | _,_=>none) xs ys
def qx (P:Program) (e:TypeId):Bool:=
 match P.underlying e,P.info? e with
 | some (.int _),some i=>Nat.beq i.size 1
 | _,_=>false
def eqFields (P:Program) (fs:List Field) (xs ys:List AV):Option Bool:=
 List.rec (motive:=fun _=>Option Bool) (some true)
  (fun f _ ih=>
   match P.underlying f.type,nth xs f.offset,nth ys f.offset with
   | some .bool,some (.bool a),some (.bool b)=>bif (bif a then b else(bif b then false else true)) then ih else some false
   | some (.int _),some (.int j a),some (.int k b)=>bif q7 j k then(bif bq a b then ih else some false) else none
   | some .string,some (.str a),some (.str b)=>bif fF a b then ih else some false
   | some (.struct gs),_,_=>bif P.stoodInHeld f.type || !jN gs.toList then none else match dE P f.type with
    | some (some n)=>match iH P gs.toList (takeN (dy xs f.offset) n) (takeN (dy ys f.offset) n) with
     | some true=>ih
     | some false=>some false
     | none=>none
    | _=>none
   | some (.array m e),_,_=>bif qx P e then(match dE P f.type with
    | some (some n)=>bif Nat.beq n m && (Nat.beq (cD (takeN (dy xs f.offset) n)) m && Nat.beq (cD (takeN (dy ys f.offset) n)) m) then(match uz (takeN (dy xs f.offset) n) (takeN (dy ys f.offset) n) with
     | some true=>ih
     | some false=>some false
     | none=>none) else none
    | _=>none) else none
   | _,_,_=>none) fs
def BU (P:Program) (t:TypeId) (x y:AV):Option Bool:=
 match x,y with
 | .agg xs,.agg ys=>
  match structOf P t with
  | some fs=>bif P.eqGuardType P.depth t || P.stoodInHeld t || !jN fs.toList then none else eqFields P fs.toList xs ys
  | none=>none
 | .nilPtr,.nilPtr=>match P.underlying t with | some (.pointer _)=>some true | _=>none
 | .ptr _ _,.nilPtr | .nilPtr,.ptr _ _=>match P.underlying t with | some (.pointer _)=>some false | _=>none
 | .ptr b o,.ptr b' o'=>match P.underlying t with | some (.pointer u)=>bif Nat.beq b b' && (Nat.beq o o' && (P.info? u).isSome) then some true else none | _=>none
 | .nilIface,.iface _ _ | .iface _ _,.nilIface=>match P.underlying t with | some (.interface _)=>some false | _=>none
 | .aK,.aK=>match P.underlying t with | some (.slice _)=>some true | _=>none
 | .slice _ _ _ _,.aK | .aK,.slice _ _ _ _=>match P.underlying t with | some (.slice _)=>some false | _=>none
 | .nilFunc,.nilFunc=>match P.underlying t with | some (.func _ _ _)=>some true | _=>none
 | .func _ _ _,.nilFunc | .nilFunc,.func _ _ _=>match P.underlying t with | some (.func _ _ _)=>some false | _=>none
 | .gU,.gU=>match P.underlying t with | some (.map _ _)=>some true | _=>none
 | .map _,.gU | .gU,.map _=>match P.underlying t with | some (.map _ _)=>some false | _=>none
 | _,_=>none
def lN (P:Program) (op:BinOp) (t:TypeId) (x y:AV):Option AV:=
 match op with
 | .eql=>match BU P t x y with | some b=>some (.bool b) | none=>none
 | .neq=>match BU P t x y with | some b=>some (.bool (bif b then false else true)) | none=>none
 | _=>none
def qV (P:Program) (op:BinOp) (t:TypeId) (x y:AV):Option AV:=
 match x,y with
 | .int k a,.int k' b=>
  match op with
  | .shl=>bif bG b 0 then none else some (.int k (wr k (a*2 ^ (min b.toNat k.bits))))
  | .shr=>bif bG b 0 then none else some (.int k (a.fdiv (2 ^ (min b.toNat k.bits))))
  | op=>
   bif q7 k k' then
    match op with
    | .add=>some (.int k (wr k (Int.add a b)))
    | .sub=>some (.int k (wr k (Int.sub a b)))
    | .mul=>some (.int k (wr k (Int.mul a b)))
    | .quo=>bif bq b 0 then none else some (.int k (wr k (a.tdiv b)))
    | .rem=>bif bq b 0 then none else some (.int k (a.tmod b))
    | .and=>some (.int k (k.wrap (BitVec.ofInt k.bits a &&& BitVec.ofInt k.bits b).toNat))
    | .or=>some (.int k (k.wrap (BitVec.ofInt k.bits a ||| BitVec.ofInt k.bits b).toNat))
    | .xor=>some (.int k (k.wrap (BitVec.ofInt k.bits a ^^^ BitVec.ofInt k.bits b).toNat))
    | .andNot=>some (.int k (k.wrap (BitVec.ofInt k.bits a &&& ~~~(BitVec.ofInt k.bits b)).toNat))
    | .eql=>some (.bool (bq a b))
    | .neq=>some (.bool (bif bq a b then false else true))
    | .lss=>some (.bool (bG a b))
    | .leq=>some (.bool (bif bG b a then false else true))
    | .gtr=>some (.bool (bG b a))
    | .geq=>some (.bool (bif bG a b then false else true))
    | _=>none
   else none
 | .str a,.str b=>
  match op with
  | .add=>bif Nat.ble (cD a+cD b) 1152921504606846976 then some (.str (fD a b)) else none
  | .eql=>some (.bool (fF a b))
  | .neq=>some (.bool (bif fF a b then false else true))
  | .lss=>some (.bool (HO a b))
  | .gtr=>some (.bool (HO b a))
  | .leq=>some (.bool (bif HO b a then false else true))
  | .geq=>some (.bool (bif HO a b then false else true))
  | _=>none
 | .bool a,.bool b=>
  match op,P.underlying t with
  | .eql,some .bool=>some (.bool (bif a then b else(bif b then false else true)))
  | .neq,some .bool=>some (.bool (bif a then(bif b then false else true) else b))
  | _,_=>none
 | x,y=>lN P op t x y
def ek (ev:Operand->Option AV) (x:Operand) (y:Nat):Option Nat:=
 match ev x with
 | some (.int _ (.ofNat i))=>bif Nat.ble i y then some i else none
 | _=>none
def cX (ev:Operand->Option AV) (len cap:Nat) (lo hi:Option Operand):Option (Nat×Nat):=
 match(match hi with | some h=>ek ev h cap | none=>some len) with
 | some h=>match(match lo with | some l=>ek ev l h | none=>some 0) with
  | some l=>some (l,h)
  | none=>none
 | none=>none
def cut (P:Program) (e:TypeId) (b:Pos) (off l h m:Nat):Option AV:=
 match P.info? e with
 | some j=>some (.slice b (bif Nat.beq m l then off else off+l*j.size) (h-l) (.known (m-l)))
 | none=>none
def cutAt (P:Program) (ev:Operand->Option AV) (e:TypeId) (b:Pos) (off len cap:Nat) (lo hi mx:Option Operand):Option AV:=
 match mx with
 | none=>match cX ev len cap lo hi with
  | some (l,h)=>cut P e b off l h cap
  | none=>none
 | some x=>match ek ev x cap,hi with
  | some m,some _=>match cX ev m m lo hi with
   | some (l,h)=>cut P e b off l h m
   | none=>none
  | _,_=>none
def gf (P:Program) (ev:Operand->Option AV) (t:TypeId) (x:Operand) (lo hi mx:Option Operand):Option AV:=
 match P.underlying t,ev x with
 | some (.slice e),some (.slice b off len (.known cap))=>cutAt P ev e b off len cap lo hi mx
 | some (.slice e),some (.slice b off len (.upto sz))=>
  match mx with
  | none=>match cX ev len len lo hi,P.info? e with
   | some (l,h),some j=>bif Nat.beq j.size sz then some (.slice b (off+l*sz) (h-l) (.upto sz)) else none
   | _,_=>none
  | some x=>bif Nat.beq len 0 then none else cutAt P ev e b off len len lo hi (some x)
 | some (.slice e),some (.slice b off len (.least a sz))=>
  match mx with
  | none=>match cX ev len a lo hi,P.info? e with
   | some (l,h),some j=>bif Nat.beq j.size sz && (Nat.ble len a && Nat.ble (Nat.succ l) a) then some (.slice b (off+l*sz) (h-l) (.least (a-l) sz)) else none
   | _,_=>none
  | some _=>none
 | some (.slice e),some .aK=>
  match mx with
  | none=>match cX ev 0 0 lo hi,P.info? e with | some _,some _=>some .aK | _,_=>none
  | some _=>none
 | some (.array n e),some (.ptr b off)=>cutAt P ev e b off n n lo hi mx
 | some (.pointer arr),some (.ptr b off)=>
  match P.underlying arr with
  | some (.array n e)=>cutAt P ev e b off n n lo hi mx
  | _=>none
 | some .string,some (.str s)=>
  match mx with
  | none=>match cX ev (cD s) (cD s) lo hi with
   | some (l,h)=>some (.str (takeN (dy s l) (h-l)))
   | none=>none
  | some _=>none
 | _,_=>none
def uY (P:Program) (t:TypeId) (x:AV):Option Nat:=
 match P.underlying t,x with
 | some .string,.str s=>some (cD s)
 | some (.array n _),_=>some n
 | some (.slice _),.slice _ _ n _=>some n
 | some (.slice _),.aK=>some 0
 | some (.map _ _),.gU=>some 0
 | _,_=>none
def K9:AV->Option AV
 | .slice _ _ _ (.known c)=>some (.int .i64 (Int.ofNat c))
 | .slice _ _ _ (.least a _)=>some (.na a)
 | .aK=>some (.int .i64 0)
 | _=>none
def FG (P:Program) (op:BinOp) (t:TypeId) (x y:AV):Option AV:=
 match y with
 | .na a=>match op,x with
  | .gtr,.int .i64 (.ofNat n)=>bif Nat.ble n a then some (.bool false) else none
  | _,_=>none
 | y=>qV P op t x y
def xe:Operand->Bool
 | .const _=>true
 | _=>false
def GN (P:Program) (o:BinOp) (t:TypeId) (k:Bool):Option AV:=
 bif k then(match P.underlying t with
  | some (.interface _)=>match o with
   | .eql=>some (.bool true)
   | .neq=>some (.bool false)
   | _=>none
  | _=>none) else none
def tB (P:Program) (k:Bool) (o:BinOp) (t:TypeId) (x y:AV):Option AV:=
 match x with
 | .nilIface=>match y with
  | .nilIface=>GN P o t k
  | y=>FG P o t .nilIface y
 | x=>FG P o t x y
def wW (ev:Operand->Option AV) (l:List Operand):Option (List AV):=cF ev l
def Kn:AV->AV->Option AV
 | .int k x,.int k' y=>bif q7 k k' then some (.int k (bif bG y x then y else x)) else none
 | _,_=>none
def Km:AV->AV->Option AV
 | .int k x,.int k' y=>bif q7 k k' then some (.int k (bif bG x y then y else x)) else none
 | _,_=>none
def dg (P:Program) (ev:Operand->Option AV):Op->Option AV
 | .move x | .assign x=>ev x
 | .pick c a b=>match ev c with | some (.bool true)=>ev a | some (.bool false)=>ev b | _=>none
 | .build t parts=>
  match P.underlying t,(eR P t).bind cC with
  | some (.struct fs),some zero=>match cF (fun f:Field=>(P.info? f.type).map fun j=>(f.offset,j.size)) fs.toList with
   | some places=>(ju (nth places) ev parts.toList zero).map .agg
   | none=>none
  | some (.array _ e),some zero=>match P.info? e with
   | some j=>(ju (fun i=>some (i*j.size,j.size)) ev parts.toList zero).map .agg
   | none=>none
  | _,_=>none
 | .nilCheck x=>match ev x with
  | some .nilPtr | some .nilIface | some .nilFunc | some (.yield _) | some .any | some (.tok _)=>none
  | v=>v
 | .binOp op t x y _=>match ev x,ev y with | some a,some b=>tB P (xe x || xe y) op t a b | _,_=>none
 | .unOp op _ x=>match op,ev x with
  | .not,some (.bool b)=>some (.bool (bif b then false else true))
  | .neg,some (.int k n)=>some (.int k (wr k (Int.sub 0 n)))
  | .xor,some (.int k n)=>some (.int k (k.wrap (BitVec.ofInt k.bits (if k.signed then-1 else k.max) ^^^ BitVec.ofInt k.bits n).toNat))
  | _,_=>none
 | .convert src dst x=>match P.underlying src,P.underlying dst,ev x with
  | some (.int _),some (.int k),some (.int _ n)=>some (.int k (wr k n))
  | some .string,some .string,some (.str s)=>some (.str s)
  | _,_,_=>none
 | .makeInterface t x=>match P.underlying t,ev x with
  | some (.interface _),_=>none
  | some _,some v=>some (.iface t v)
  | _,_=>none
 | .makeFunc fn first captured=>match fn,wW ev first.toList,wW ev captured.toList with
  | .func f,some a,some b=>some (.func f a b)
  | _,_,_=>none
 | .slice t x lo hi mx=>gf P ev t x lo hi mx
 | .fieldAddr s x i=>match structOf P s,ev x with
  | some fs,some (.ptr b off)=>match fs[i]? with
   | some f=>match P.info? f.type with
    | some j=>bif Nat.beq j.size 0 then none else some (.ptr b (off+f.offset))
    | none=>none
   | none=>none
  | _,_=>none
 | .field t x i=>match structOf P t,ev x with
  | some fs,some (.agg cs)=>match fs[i]? with
   | some f=>Dw P f.type cs f.offset
   | none=>none
  | _,_=>none
 | .indexAddr t x i=>match P.underlying t,ev x,ev i with
  | some (.slice e),some (.slice b off len _),some (.int _ (.ofNat i))=>
   match P.info? e with
   | some j=>bif Nat.ble (Nat.succ i) len then some (.ptr b (off+i*j.size)) else none
   | none=>none
  | some (.array n e),some (.ptr b off),some (.int _ (.ofNat i))=>
   match P.info? e with
   | some j=>bif Nat.ble (Nat.succ i) n then some (.ptr b (off+i*j.size)) else none
   | none=>none
  | _,_,_=>none
 | .index t x i=>match P.underlying t,ev x,ev i with
  | some (.array n e),some (.agg cs),some (.int _ (.ofNat i))=>bif Nat.ble (Nat.succ i) n then(match P.info? e with | some j=>Dw P e cs (i*j.size) | none=>none) else none
  | some .string,some (.str s),some (.int _ (.ofNat i))=>match nth s i with | some b=>some (.int .u8 (Int.ofNat b)) | none=>none
  | _,_,_=>none
 | .extract x i=>match ev x with
  | some (.tuple vs)=>nth vs i
  | _=>none
 | .typeAssert x _ t ok=>match P.underlying t,ev x with
  | some (.interface _),_=>none
  | some _,some (.iface u v)=>bif Nat.beq u t then some (bif ok then .tuple [v,.bool true] else v) else(bif ok then(eR P t).map fun z=>.tuple [z,.bool false] else none)
  | some _,some .nilIface=>bif ok then(eR P t).map fun z=>.tuple [z,.bool false] else none
  | _,_=>none
 | .call c=>match c.callee with
  | .builtin .len=>match c.argTypes[0]?,c.args.toList with
   | some t,[x]=>match ev x with | some v=>(uY P t v).map fun n=>.int .i64 (Int.ofNat n) | none=>none
   | _,_=>none
  | .builtin .cap=>match c.argTypes[0]?,c.args.toList with
   | some t,[x]=>match P.underlying t,ev x with | some (.slice _),some v=>K9 v | _,_=>none
   | _,_=>none
  | .builtin .min=>match c.args.toList with
   | [x,y]=>(match ev x,ev y with | some a,some b=>Kn a b | _,_=>none)
   | _=>none
  | .builtin .max=>match c.args.toList with
   | [x,y]=>(match ev x,ev y with | some a,some b=>Km a b | _,_=>none)
   | _=>none
  | _=>none
 | _=>none
def plainKey (P:Program) (t:TypeId):Bool:=
 match P.underlying t with
 | some (.int _) | some .string | some .bool=>true
 | some (.struct fs)=>fs.toList.all fun f=>match P.underlying f.type with
  | some (.int _) | some .string | some .bool=>true
  | some (.struct gs)=>gs.toList.all fun g=>match P.underlying g.type with
   | some (.int _) | some .string | some .bool=>true
   | _=>false
  | some (.array _ e)=>qx P e
  | _=>false
 | _=>false
def nM (P:Program) (t:TypeId) (x y:AV):Option Bool:=
 match P.underlying t,x,y with
 | some (.int _),.int j a,.int k b=>bif q7 j k then some (bq a b) else none
 | some .string,.str a,.str b=>some (fF a b)
 | some .bool,.bool a,.bool b=>some (bif a then b else(bif b then false else true))
 | some (.struct _),.agg xs,.agg ys=>BU P t (.agg xs) (.agg ys)
 | _,_,_=>none
def lh (P:Program) (t:TypeId) (x:AV):Bool:=
 match P.underlying t,x with
 | some (.struct fs),.agg xs=>fs.toList.all fun f=>match P.underlying f.type with
  | some (.struct gs)=>match dE P f.type with
   | some (some n)=>gs.toList.all fun g=>(nth (takeN (dy xs f.offset) n) g.offset).isSome
   | _=>false
  | some (.array m _)=>match dE P f.type with
   | some (some n)=>Nat.beq n m && Nat.beq (cD (takeN (dy xs f.offset) n)) m
   | _=>false
  | _=>(nth xs f.offset).isSome
 | some (.struct _),_=>false
 | _,_=>true
def nJ (P:Program) (t:TypeId) (k:AV) (es:List eJ):Nat->Option (Option (Nat×AV)):=
 List.rec (motive:=fun _=>Nat->Option (Option (Nat×AV))) (fun _=>some none)
  (fun e _ ih i=>match nM P t k e.key with
   | some true=>some (some (i,e.val))
   | some false=>ih (Nat.succ i)
   | none=>none) es
def qG (P:Program) (u:Option TypeId) (σ:aD) (x:Option AV):Option AV:=
 match x with
 | some (.ptr b off)=>match σ.m.get b with
  | some (.own cells e)=>match u with
   | some u=>bif liesAt P P.depth e (cD cells/P.cellsOf e) off u 1 then some (.ptr b off) else none
   | none=>bif Nat.ble (Nat.succ off) (cD cells) then some (.ptr b off) else none
  | _=>none
 | _=>none
def wJ:AV->Option Nat
 | .int .u8 (.ofNat n)=>bif Nat.ble n 255 then some n else none
 | _=>none
def fV (P:Program) (ev:Operand->Option AV) (σ:aD):Op->Option AV
 | .load t x=>match ev x with
  | some (.ptr b off)=>match σ.m.get b with
   | some (.row cells _ _)=>match dE P t with
    | some (some n)=>bif Nat.ble (off+n) (cD cells) then some (.agg (takeN (dy cells off) n)) else none
    | some none=>nth cells off
    | none=>none
   | some (.own cells _)=>match dE P t with
    | some (some n)=>bif Nat.ble (off+n) (cD cells) then some (.agg (takeN (dy cells off) n)) else none
    | some none=>nth cells off
    | none=>none
   | _=>none
  | _=>none
 | .lookup t x i ok=>match P.underlying t,ev i with
  | some (.map kt et),some k=>bif plainKey P kt && lh P kt k then
    match(match ev x with
     | some .gU=>some []
     | some (.map b)=>match σ.m.get b with | some (.map es _)=>some es | _=>none
     | _=>none) with
    | some es=>match nJ P kt k es 0,eR P et with
     | some (some (_,v)),some _=>some (bif ok then .tuple [v,.bool true] else v)
     | some none,some z=>some (bif ok then .tuple [z,.bool false] else z)
     | _,_=>none
    | none=>none
   else none
  | _,_=>none
 | .call c=>match c.callee with
  | .builtin .len=>match c.argTypes[0]?,c.args.toList with
   | some t,[x]=>match P.underlying t,ev x with
    | some (.map _ _),some (.map b)=>match σ.m.get b with
     | some (.map es _)=>some (.int .i64 (Int.ofNat (cD es)))
     | _=>none
    | some (.map _ _),some .gU=>some (.int .i64 0)
    | _,_=>none
   | _,_=>none
  | _=>none
 | .convert src dst x=>match P.underlying src,P.underlying dst with
  | some (.slice e),some .string=>match P.underlying e,ev x with
   | some (.int .u8),some .aK=>some (.str [])
   | some (.int .u8),some (.slice b off len _)=>bif Nat.beq len 0 then some (.str []) else match σ.m.get b with
    | some (.row cells _ _)=>bif Nat.ble (off+len) (cD cells) then(match cF wJ (takeN (dy cells off) len) with | some s=>some (.str s) | none=>none) else none
    | _=>none
   | _,_=>none
  | some (.pointer t),some .unsafePointer=>match P.info? t with
   | some j=>bif Nat.beq j.size 0 then none else qG P none σ (ev x)
   | none=>none
  | some .unsafePointer,some (.pointer u)=>bif (P.info? u).isSome then qG P (some u) σ (ev x) else none
  | _,_=>none
 | _=>none
inductive Mk where
 | ptr
 | slice (len cap:Nat)
 | map
def Mk.of:Mk->Pos->AV
 | .ptr,b=>.ptr b 0
 | .slice len cap,b=>.slice b 0 len (.known cap)
 | .map,b=>.map b
def rM (P:Program) (e:TypeId):Bool:=
 match P.underlying e with
 | some (.struct fs)=>match fs[0]? with
  | some f=>match P.underlying f.type with
   | some (.pointer t)=>Nat.beq t e
   | _=>false
  | none=>false
 | _=>false
def eU (P:Program) (ev:Operand->Option AV):Op->Option (bQ×Mk)
 | .alloc e=>match(eR P e).bind cC with
  | some cs=>some (bif rM P e then .own cs e else .row cs e false,.ptr)
  | none=>none
 | .box e x=>match(ev x).bind cC with
  | some cs=>some (.row cs e false,.ptr)
  | none=>none
 | .buildSlice t len parts=>match P.underlying t with
  | some (.slice e)=>match P.info? e,(eR P e).bind cC with
   | some j,some z=>
    bif Nat.beq (cD z) j.size && Nat.ble (len*j.size) 16777216 && Nat.ble 1 j.size then
     match ju (fun i=>some (i*j.size,j.size)) ev parts.toList (eN z len) with
     | some cs=>some (.row cs e false,.slice len len)
     | none=>none
    else none
   | _,_=>none
  | _=>none
 | .makeSlice t l c=>match P.underlying t,ev l,ev c with
  | some (.slice e),some (.int _ (.ofNat l)),some (.int _ (.ofNat c))=>match P.info? e,(eR P e).bind cC with
   | some j,some z=>
    bif Nat.ble l c && Nat.ble (j.bytes*c) 1048576 && Nat.ble c 1048576 && Nat.beq (cD z) j.size && Nat.ble 1 j.size then some (.row (eN z c) e false,.slice l c) else none
   | _,_=>none
  | _,_,_=>none
 | .makeMap _ none=>some (.map [] 0,.map)
 | .makeMap t (some r)=>match P.underlying t,ev r with
  | some (.map _ _),some (.int _ _)=>some (.map [] 0,.map)
  | _,_=>none
 | _=>none
theorem a0 {c:Bool} {α:Type} {x y:α}:(bif c then x else y)=if c=true then x else y:=by cases c<;>rfl
theorem tA (k:IntKind) (n:Int) (h:Kg k n=true):k.wrap n=n:=by
 cases k<;>cases n with
 | ofNat a=>simp only[Kg,nE_] at h;simp only[IntKind.wrap,IntKind.bits,IntKind.signed];simp;omega
 | negSucc a=>first | (simp only[Kg,nE_] at h;simp only[IntKind.wrap,IntKind.bits,IntKind.signed];simp;omega) | (simp[Kg] at h)
theorem xM (k:IntKind) (n:Int):wr k n=k.wrap n:=by
 unfold wr;cases h:Kg k n with
 | true=>simp[tA k n h]
 | false=>simp
theorem eo (x y:Int):bG x y=decide (x<y):=by
 cases x<;>cases y<;>simp only[bG]<;>(rw[Bool.eq_iff_iff];simp[nE_];try omega)
theorem dq (x y:Int):bq x y=decide (x=y):=by
 cases x<;>cases y<;>simp only[bq]<;>(rw[Bool.eq_iff_iff];simp;try omega)
theorem oc {j k:IntKind} (h:q7 j k=true):j=k:=by cases j<;>cases k<;>first | rfl | (simp[q7] at h)
theorem j1:∀(s t:List Nat),fF s t=decide (s=t)
 | [],[]=>by simp[fF]
 | [],_::_=>by simp[fF]
 | _::_,[]=>by simp[fF]
 | x::s,y::t=>by
  show(bif Nat.beq x y then fF s t else false)=_;rw[j1 s t,Bool.eq_iff_iff];cases h:Nat.beq x y with
  | true=>have:=nB h;subst this;simp
  | false=>have:=Nat.ne_of_beq_eq_false h;simp[this]
theorem GF:∀(s t:List UInt8),HO (s.map UInt8.toNat) (t.map UInt8.toNat)=Op.bytesLess s t
 | [],[]=>by simp[HO,Op.bytesLess]
 | [],_::_=>by simp[HO,Op.bytesLess]
 | _::_,[]=>by simp[HO,Op.bytesLess]
 | x::s,y::t=>by
  show(bif Nat.ble (Nat.succ x.toNat) y.toNat then true else bif Nat.beq x.toNat y.toNat then HO (s.map UInt8.toNat) (t.map UInt8.toNat) else false)=_;rw[GF s t];simp only[Op.bytesLess]
  have e1:Nat.ble (Nat.succ x.toNat) y.toNat=decide (x<y):=by
   rw[Bool.eq_iff_iff,nE_];simp[UInt8.lt_iff_toNat_lt];omega
  have e2:Nat.beq x.toNat y.toNat=(x == y):=by
   rw[Bool.eq_iff_iff,Nat.beq_eq];simp[<-UInt8.toNat_inj]
  rw[e1,e2];cases decide (x<y)<;>cases (x == y)<;>simp
theorem p4:∀{x y:List UInt8},x.map UInt8.toNat=y.map UInt8.toNat->x=y
 | [],[],_=>rfl
 | [],_::_,h=>by simp at h
 | _::_,[],h=>by simp at h
 | a::x,b::y,h=>by
  simp only[List.map_cons,List.cons.injEq] at h;rw[UInt8.toNat_inj.1 h.1,p4 h.2]
theorem m5 {s t:List Nat} {x y:ByteArray} (h:gh s x) (h':gh t y):fF s t=(x.toList == y.toList):=by
 unfold gh at h h';subst h;subst h';rw[j1,ByteArray.toList_eq,ByteArray.toList_eq,Bool.eq_iff_iff];simp only[decide_eq_true_eq,beq_iff_eq];exact⟨p4,fun h=>by rw[h]⟩
theorem xD {s t:List Nat} {x y:ByteArray} (h:gh s x) (h':gh t y):HO s t=Op.bytesLess x.toList y.toList:=by
 unfold gh at h h';subst h;subst h';rw[GF,ByteArray.toList_eq,ByteArray.toList_eq]
theorem iP {s:List Nat} {x:ByteArray} (h:gh s x):cD s=x.size:=by
 unfold gh at h;subst h;rw[bz,lM_,Array.length_toList];rfl
theorem info_of_underlying {P:Program} {t:TypeId} {d:TypeDesc} (h:P.underlying t=some d):∃i,P.info? t=some i:=by
 unfold Program.underlying at h;cases hi:P.info? t with
 | none=>simp[hi] at h
 | some i=>exact⟨i,rfl⟩
theorem qq {P:Program} {t:TypeId} {i:TypeInfo} (h:P.info? t=some i):P.cellsOf t=i.size:=by simp[Program.cellsOf,h]
theorem vq:∀(cs l:List AV),cs.length<=l.length->kG cs l=cs++l.drop cs.length
 | [],l,_=>by simp[kG]
 | c::cs,[],h=>by simp at h
 | c::cs,x::l,h=>by
  show c::kG cs l=_;rw[vq cs l (by simpa using h)];simp
theorem sL (cs:List AV):∀(l:List AV) (off:Nat),off+cs.length<=l.length->dA cs l off=l.take off++cs++l.drop (off+cs.length)
 | [],off,h=>by
  have:cs= []:=eN_ (by simp only[List.length_nil] at h;omega);subst this;simp[dA]
 | x::l,0,h=>by
  show kG cs (x::l)=_;rw[vq _ _ (by simpa using h)];simp
 | x::l,off+1,h=>by
  show x::dA cs l off=_;rw[sL cs l off (by simp at h;omega)];rw[show off+1+cs.length=(off+cs.length)+1 by omega];simp
theorem qf:∀{l:List AV},cj l=true->∀v∈l,il v=true
 | [],_,v,hv=>by simp at hv
 | x::l,h,v,hv=>by
  have h':(bif il x then cj l else false)=true:=h;cases hx:il x with
  | false=>rw[hx] at h';simp at h'
  | true=>
   rw[hx] at h';cases hv with
   | head=>exact hx
   | tail _ hm=>exact qf h' v hm
theorem nk {ρ:cz} {v:AV} {x:Value} (h:il v=true) (hv:VR ρ v x):x.oneCell'=true:=by
 cases v with
 | slice b off len cap=>
  cases cap with
  | upto sz=>
   simp only[VR] at hv;rcases hv with ⟨l,_,⟨c,rfl,_⟩ | ⟨_,a,rfl⟩⟩<;>rfl
  | known c=>simp only[VR] at hv;obtain⟨l,_,rfl⟩:=hv;rfl
  | least a sz=>simp only[VR] at hv;obtain⟨l,_,c,rfl,_⟩:=hv;rfl
 | any=>simp[il] at h
 | tok n=>simp only[VR] at hv;exact hv.2
 | _=>simp only[VR,il] at hv h<;>first | (subst hv;rfl) | (obtain⟨_,rfl,_⟩:=hv;rfl) | (obtain⟨_,_,rfl⟩:=hv;rfl) | (obtain⟨_,_,rfl,_⟩:=hv;rfl) | (exact absurd h (by simp))
theorem nq {ρ:cz} {x:Value} {v:AV} (h:jH x=some v):VR ρ v x:=by
 unfold jH at h;split at h<;>first | (cases h;first | (simp only[VR];done) | (simp only[VR];exact⟨_,rfl,rfl⟩)) | cases h
theorem mb {ρ:cz}:∀{xs:List Value} {vs:List AV},cF jH xs=some vs->cG ρ vs xs
 | [],vs,h=>by rw[gL] at h;cases h;exact cG.nil
 | x::xs,vs,h=>by
  obtain⟨y,r,h1,h2,rfl⟩:=fX h;exact cG.cons (nq h1) (mb h2)
theorem ox {ρ:cz} {x:Value} {v:AV} (h:ow x=some v):VR ρ v x:=by
 unfold ow at h;split at h
 ·rename_i cs;cases hc:cF jH cs.toList with
  | none=>rw[hc] at h;cases h
  | some vs=>rw[hc] at h;cases h;simp only[VR];exact⟨cs,rfl,mb hc⟩
 ·rename_i cs;cases hc:cF jH cs.toList with
  | none=>rw[hc] at h;cases h
  | some vs=>rw[hc] at h;cases h;simp only[VR];exact⟨cs,rfl,mb hc⟩
 exact nq h
theorem g9 {ρ:cz} {v:AV} {x:Value} {cs:List AV} (h:cC v=some cs) (hv:VR ρ v x):cG ρ cs x.cells.toList:=by
 have leaf:il v=true->cs= [v]->cG ρ cs x.cells.toList:=fun hl e=>by
  subst e;have hx:=nk hl hv;have e:x.cells.toList= [x]:=by cases x<;>first | rfl | (simp[Value.oneCell'] at hx)
  rw[e];exact cG.cons hv cG.nil
 cases v with
 | agg ds=>simp only[cC,oJ_] at h;subst h;simp only[VR] at hv;obtain⟨ys,rfl,hs⟩:=hv;exact hs
 | tuple ds=>simp[cC] at h
 | any=>simp[cC] at h
 | _=>simp only[cC,oJ_] at h;exact leaf rfl h.symm
theorem lK {ρ:cz} {v:AV} {x:Value} {cs:List AV} (h:cC v=some cs) (hv:VR ρ v x):x.cells.size=cs.length:=by
 have:=(g9 h hv).length;simpa using this
section
variable {P:Program} {ρ:cz} {σ:aD} {w:World}
def ER (ρ:cz) (ev:Operand->Option AV) (f:Operand->Value) (op:Op):Prop:=∀x∈op.operands,∀v,ev x=some v->VR ρ v (f x)
theorem Inv.piece (hi:Inv ρ σ w) {b:Pos} {l:Loc} {cells:List AV} {e:Nat} {ro:Bool} (ho:σ.m.get b=some (.row cells e ro)) (hl:ρ b=some l) (off n:Nat) (hn:off+n<=cells.length):
  ∃ys:List Value,ys.length=n/\cG ρ ((cells.drop off).take n) ys/\∀(j:Nat) (y:Value),ys[j]?=some y->w.cell? ((⟨l.cZ,l.sh+off,none⟩:Addr).add j)=some y:=by
 obtain⟨c,fr,h1,h2,h3,h4,_⟩:=hi.row ho hl;refine⟨(c.toList.drop (l.sh+off)).take n,?_,cG.GX ?_ ?_,?_⟩
 ·rw[lT_,lD_,Array.length_toList];omega
 ·rw[lT_,lD_,lT_,lD_,Array.length_toList];omega
 ·intro i v hv;rw[List.getElem?_take] at hv;split at hv
  ·rename_i hin;rw[List.getElem?_drop] at hv;obtain⟨y,hy,hr⟩:=h4 (off+i) v hv;refine⟨y,?_,hr⟩;rw[List.getElem?_take,if_pos hin,List.getElem?_drop,aT_,<-hy];congr 1;omega
  cases hv
 intro j y hy;rw[List.getElem?_take] at hy;split at hy
 ·rw[List.getElem?_drop,aT_] at hy;rw[Addr.add_eq _ _ rfl,cell?_of_heap h1];exact hy
 cases hy
def zi:TypeDesc->Bool
 | .struct _ | .array _ _=>true
 | _=>false
theorem eE {t:TypeId} {d:TypeDesc} (h:P.underlying t=some d):(isAgg t).run P w= .ok (zi d) w:=by
 simp only[isAgg,sB_,run_underlying h,rA];cases d<;>rfl
theorem bU {t:TypeId} {i:TypeInfo} (h:P.info? t=some i):(sizeOf t).run P w= .ok i.size w:=by
 simp[sizeOf,typeInfo,h]
theorem qe {t:TypeId} {n:Nat} (h:dE P t=some (some n)):∃d i,P.underlying t=some d/\P.info? t=some i/\i.size=n/\zi d=true:=by
 rw[zj] at h;split at h
 ·rename_i fs hu;obtain⟨i,hi⟩:=info_of_underlying hu;simp only[oJ_] at h;rw[qq hi] at h;exact⟨_,i,hu,hi,h,rfl⟩
 ·rename_i hu;obtain⟨i,hi⟩:=info_of_underlying hu;simp only[oJ_] at h;rw[qq hi] at h;exact⟨_,i,hu,hi,h,rfl⟩
 ·simp at h
 simp at h
theorem tX {t:TypeId} (h:dE P t=some none):∃d i,P.underlying t=some d/\P.info? t=some i/\zi d=false:=by
 rw[zj] at h;split at h
 ·simp at h
 ·simp at h
 ·rename_i d h1 h2 hu;obtain⟨i,hi⟩:=info_of_underlying hu;refine⟨d,i,hu,hi,?_⟩;cases d<;>first | rfl | exact absurd rfl (h1 _) | exact absurd rfl (h2 _ _)
 simp at h
theorem mn (hi:Inv ρ σ w) {b:Pos} {l:Loc} {off:Nat} {cells:List AV} {e:Nat} {ro:Bool} (ho:σ.m.get b=some (.row cells e ro)) (hl:ρ b=some l) {t:TypeId} {v:AV}
  (h:(match dE P t with
    | some (some n)=>bif Nat.ble (off+n) (cD cells) then some (.agg (takeN (dy cells off) n)) else none
    | some none=>nth cells off
    | none=>none)=some v):
  ∃x,(loadVar t ⟨l.cZ,l.sh+off,none⟩).run P w= .ok x w/\VR ρ v x:=by
 cases ha:dE P t with
 | none=>rw[ha] at h;cases h
 | some o=>
  rw[ha] at h;cases o with
  | some n=>
   obtain⟨d,i,hu,hinf,hsz,hd⟩:=qe ha;simp only[a0] at h;split at h
   ·rename_i hle;rw[nE_,bz] at hle;cases h;obtain⟨ys,hlen,hvs,hc⟩:=hi.piece ho hl off n hle;refine⟨.agg ys.toArray,?_,?_⟩
    ·simp only[loadVar,sB_,eE hu,hd,rA,if_true,bU hinf,hsz];rw[<-hlen,run_loadCells_list w _ ys hc];rfl
    simp only[VR,dp,dO];exact⟨_,rfl,by simpa using hvs⟩
   cases h
  | none=>
   obtain⟨d,i,hu,hinf,hd⟩:=tX ha;rw[fC] at h;obtain⟨y,hy,hr⟩:=hi.cell ho hl h;refine⟨y,?_,hr⟩;simp only[loadVar,sB_,eE hu,hd,rA,Bool.false_eq_true,if_false];rw[run_load,hy]
end
section
variable {P:Program} {ρ:cz} {σ:aD} {w:World}
def gq (l:List AV) (k:Nat):List AV->List AV
 | []=>l
 | v::vs=>gq (l.set k v) (k+1) vs
theorem p8:∀(vs:List AV) (l:List AV) (k:Nat),(gq l k vs).length=l.length
 | [],_,_=>rfl
 | v::vs,l,k=>by rw[gq,p8 vs];simp
theorem oJ:∀(vs:List AV) (x:AV) (l:List AV) (k:Nat),gq (x::l) (k+1) vs=x::gq l k vs
 | [],_,_,_=>rfl
 | v::vs,x,l,k=>by rw[gq,gq,List.set_cons_succ,oJ vs]
theorem oz:∀(cs l:List AV),cs.length<=l.length->kG cs l=gq l 0 cs
 | [],l,_=>by simp[kG,gq]
 | c::cs,[],h=>by simp at h
 | c::cs,x::l,h=>by
  show c::kG cs l=_;rw[oz cs l (by simpa using h),gq,List.set_cons_zero,oJ]
theorem jO (cs:List AV):∀(l:List AV) (off:Nat),off+cs.length<=l.length->dA cs l off=gq l off cs
 | [],off,h=>by
  have:cs= []:=eN_ (by simp only[List.length_nil] at h;omega);subst this;simp[dA,gq]
 | x::l,0,h=>by
  show kG cs (x::l)=_;exact oz _ _ (by simpa using h)
 | x::l,off+1,h=>by
  show x::dA cs l off=_;rw[jO cs l off (by simp only[List.length_cons] at h;omega),oJ]
theorem zW {off:Nat}:∀(vs:List AV) (xs:List Value) (k:Nat) (l:List AV) (ys:Array Value),cG ρ vs xs->cG ρ l ys.toList->
  cG ρ (gq l (off+k) vs) ((xs.zipIdx k).foldl (fun(cs:Array Value) (p:Value×Nat)=>cs.setIfInBounds (off+p.2) p.1) ys).toList
 | [],xs,k,l,ys,h,hl=>by rw[h.ee];exact hl
 | v::vs,xs,k,l,ys,h,hl=>by
  obtain⟨x,r,rfl,h1,h2⟩:=h.cons_inv;simp only[List.zipIdx_cons,List.foldl_cons,gq];have:=zW (off:=off) vs r (k+1) (l.set (off+k) v) (ys.setIfInBounds (off+k) x) h2 (by simpa using hl.set (off+k) h1);simpa [Nat.add_assoc] using this
theorem ng {place place':Nat->Option (Nat×Nat)} (hp:∀i x,place i=some x->place' i=some x) {ev:Operand->Option AV} {f:Operand->Value}:
  ∀(parts:List (Nat×Operand)) (cells cs:List AV) (ys:Array Value),(∀p∈parts,∀v,ev p.2=some v->VR ρ v (f p.2))->cG ρ cells ys.toList->ju place ev parts cells=some cs->
   ∃zs:Array Value,Instr.fill place' ys (parts.map fun p=>(p.1,f p.2))=some zs/\cG ρ cs zs.toList
 | [],cells,cs,ys,_,hc,h=>by
  simp only[ju,oJ_] at h;subst h;exact⟨ys,rfl,hc⟩
 | p::parts,cells,cs,ys,hE,hc,h=>by
  have h':(match place p.1,(ev p.2).bind cC with
   | some (off,size),some vs=>bif Nat.beq (cD vs) size && Nat.ble (off+size) (cD cells) then ju place ev parts (dA vs cells off) else none
   | _,_=>none)=some cs:=h
  cases hpl:place p.1 with
  | none=>rw[hpl] at h';cases h'
  | some x=>
   obtain⟨off,size⟩:=x;cases hv:ev p.2 with
   | none=>rw[hpl,hv] at h';cases h'
   | some v=>
    rw[hpl,hv] at h';simp only[Option.bind_some] at h';cases hcs:cC v with
    | none=>rw[hcs] at h';cases h'
    | some vs=>
     rw[hcs] at h';simp only[a0] at h';split at h'
     ·rename_i hb;simp only[bA_,Nat.beq_eq,nE_,bz] at hb;obtain⟨hb1,hb2⟩:=hb;have hvr:=hE p (by simp) v hv;have hcells:=g9 hcs hvr;have hsize:=lK hcs hvr;have hylen:ys.size=cells.length:=by have:=hc.length;simpa using this
      have hfold:=zW (off:=off) vs (f p.2).cells.toList 0 cells ys hcells hc;rw[Nat.add_zero,<-jO vs cells off (by omega)] at hfold;obtain⟨zs,h1,h2⟩:=ng hp parts (dA vs cells off) cs _ (fun q hq=>hE q (by simp[hq])) hfold h';refine⟨zs,?_,h2⟩;rw[List.map_cons];simp only[Instr.fill,hp _ _ hpl];rw[if_neg]
      ·rw[<-h1];congr 1;rw[<-Array.foldl_toList];simp
      simp only[Bool.or_eq_true,decide_eq_true_eq,not_or];omega
     cases h'
theorem qQ {α β:Type} {g:α->Option β}:∀{l:List α} {ys:List β},cF g l=some ys->l.mapM g=some ys
 | [],ys,h=>by rw[gL] at h;cases h;rfl
 | x::l,ys,h=>by
  obtain⟨y,r,h1,h2,rfl⟩:=fX h;simp[List.mapM_cons,h1,qQ h2]
theorem oT {t:TypeId} {z:AV} (h:eR P t=some z):∃i x,P.info? t=some i/\i.zero=some x/\∀ρ:cz,VR ρ z x:=by
 unfold eR at h;cases hi:P.info? t with
 | none=>rw[hi] at h;cases h
 | some i=>
  rw[hi] at h;simp only[Option.bind_some] at h;cases hz:i.zero with
  | none=>rw[hz] at h;cases h
  | some x=>rw[hz] at h;exact⟨i,x,rfl,hz,fun ρ=>ox h⟩
theorem fx {t:TypeId} {cs:List AV} (h:(eR P t).bind cC=some cs):∃i x,P.info? t=some i/\i.zero=some x/\∀ρ:cz,cG ρ cs x.cells.toList:=by
 cases hz:eR P t with
 | none=>rw[hz] at h;cases h
 | some z=>
  rw[hz] at h;obtain⟨i,x,h1,h2,h3⟩:=oT hz;exact⟨i,x,h1,h2,fun ρ=>g9 h (h3 ρ)⟩
theorem zt {ev:Operand->Option AV} {f:Operand->Value} {t:TypeId} {parts:Array (Nat×Operand)} {v:AV}
  (hE:∀p∈parts.toList,∀v,ev p.2=some v->VR ρ v (f p.2)) (h:dg P ev (.build t parts)=some v):
  ∃x,(Instr.build t (parts.map fun(i,x)=>(i,f x))).run P w= .ok x w/\VR ρ v x:=by
 simp only[dg] at h;cases hu:P.underlying t with
 | none=>rw[hu] at h;cases h
 | some d=>
  rw[hu] at h;cases hz:(eR P t).bind cC with
  | none=>rw[hz] at h;cases d<;>cases h
  | some zero=>
   rw[hz] at h;obtain⟨it,z,hit,hzero,hzc⟩:=fx hz;cases d with
   | struct fs=>
    simp only at h;cases hpl:cF (fun f:Field=>(P.info? f.type).map fun j=>(f.offset,j.size)) fs.toList with
    | none=>rw[hpl] at h;cases h
    | some places=>
     rw[hpl] at h;dsimp only at h;cases hf:ju (nth places) ev parts.toList zero with
     | none=>rw[hf] at h;cases h
     | some cs=>
      rw[hf] at h;cases h;obtain⟨zs,h1,h2⟩:=ng (place':=(places.toArray[·]?)) (fun i x hx=>by rw[fC] at hx;simpa using hx) parts.toList zero cs z.cells hE (hzc ρ) hf
      refine⟨.agg zs,run_build w t _ zs ?_,by simp only[VR];exact⟨zs,rfl,h2⟩⟩;simp only[Program.built,hit,hu,hzero,qQ hpl];simpa using h1
   | array n e=>
    simp only at h;cases hj:P.info? e with
    | none=>rw[hj] at h;cases h
    | some j=>
     rw[hj] at h;dsimp only at h;cases hf:ju (fun i=>some (i*j.size,j.size)) ev parts.toList zero with
     | none=>rw[hf] at h;cases h
     | some cs=>
      rw[hf] at h;cases h;obtain⟨zs,h1,h2⟩:=ng (place':=fun i=>some (i*j.size,j.size)) (fun i x hx=>hx) parts.toList zero cs z.cells hE (hzc ρ) hf;refine⟨.agg zs,run_build w t _ zs ?_,by simp only[VR];exact⟨zs,rfl,h2⟩⟩;simp only[Program.built,hit,hu,hzero,hj];simpa using h1
   | _=>cases h
theorem px {cs:List AV} {ys:List Value} (h:cG ρ cs ys) (r e:Nat):gn ρ ⟨r,0,cs.length⟩ (.row cs e false) (.cells ys.toArray e):=by
 refine⟨_,_,rfl,by simpa using h.length,nR_ _,fun i v hv=>?_,fun _ j _ hj=>by simp at hj⟩;obtain⟨y,h1,h2⟩:=h.get hv;exact⟨y,by simpa using h1,h2⟩
theorem jn {cs:List AV} {ys:List Value} (h:cG ρ cs ys):∀n,cG ρ (eN cs n) ((List.replicate n ys).flatten)
 | 0=>(cG.nil:cG ρ [] [])
 | n+1=>by
  show cG ρ (fD cs (eN cs n)) _;rw[dw,List.replicate_succ,List.flatten_cons];exact h.append (jn h n)
theorem qb (cs:List AV):∀n,(eN cs n).length=n*cs.length
 | 0=>by rw[Nat.zero_mul];rfl
 | n+1=>by
  show(fD cs (eN cs n)).length=_;rw[dw,lA_,qb cs n,Nat.succ_mul,Nat.add_comm]
theorem jv (ys:List Value):∀(n j:Nat),j<n*ys.length->((List.replicate n ys).flatten)[j]?=ys[j%ys.length]?
 | 0,j,h=>by simp at h
 | n+1,j,h=>by
  rw[List.replicate_succ,List.flatten_cons]
  by_cases hj:j<ys.length
  ·rw[gL_ hj,Nat.mod_eq_of_lt hj]
  rw[gR_ (by omega),jv ys n (j-ys.length) (by rw[Nat.succ_mul] at h;omega)];congr 1
  have h0:0<ys.length:=by
   rcases Nat.eq_zero_or_pos ys.length with h0 | h0
   ·rw[h0] at h;simp at h
   exact h0
  rw[Nat.mod_eq_sub_mod (by omega:j≥ys.length)]
theorem tK (z:Array Value) (n:Nat) (hz:0<z.size):((Array.range (n*z.size)).map (z[· %z.size]!))=((List.replicate n z.toList).flatten).toArray:=by
 apply Array.ext_getElem?;intro j;simp only[Array.getElem?_map,List.getElem?_toArray]
 by_cases hj:j<n*z.size
 ·rw[jv z.toList n j (by simpa using hj)];simp only[Array.length_toList,aT_];have hlt:j%z.size<z.size:=Nat.mod_lt _ hz;simp[hj,hlt]
 have h2:((List.replicate n z.toList).flatten).length<=j:=by simp;omega
 rw[gN_ h2];simp[hj]
theorem sT {ev:Operand->Option AV} {f:Operand->Value} {o:Oper} {ob:bQ} {mk:Mk} (hE:ER ρ ev f o.op) (h:eU P ev o.op=some (ob,mk)):
  ∃(x:Value) (ob':Obj) (n:Nat),(execOp f o).run P w= .ok (.value x) (w.alloc ob')/\ob.ro=false/\gn ρ ⟨w.heap.size,0,n⟩ ob ob'/\
   ∀(ρ':cz) (b:Pos),ρ' b=some ⟨w.heap.size,0,n⟩->VR ρ' (mk.of b) x:=by
 cases ho:o.op with
 | alloc e=>
  rw[ho] at h;simp only[eU] at h;cases hz:(eR P e).bind cC with
  | none=>rw[hz] at h;cases h
  | some cs=>
   rw[hz] at h;obtain⟨i,z,hi,hzero,hzc⟩:=fx hz;cases hp:rM P e with
   | false=>
    rw[hp] at h;cases h;refine⟨.pointer (some ⟨w.heap.size,0,none⟩),.cells z.cells e,cs.length,?_,rfl,px (hzc ρ) _ _,fun ρ' b hb=>by simp only[Mk.of,VR];exact⟨_,hb,rfl⟩⟩;simp[execOp,ho,Instr.alloc,zeroValue,typeInfo,hi,hzero,newVar,newRow]
   | true=>
    rw[hp] at h;cases h;refine⟨.pointer (some ⟨w.heap.size,0,none⟩),.cells z.cells e,cs.length,?_,rfl,gn.DD ⟨rfl,rfl⟩ (px (hzc ρ) _ _),fun ρ' b hb=>by simp only[Mk.of,VR];exact⟨_,hb,rfl⟩⟩;simp[execOp,ho,Instr.alloc,zeroValue,typeInfo,hi,hzero,newVar,newRow]
 | box e x=>
  rw[ho] at h hE;simp only[eU] at h;cases hv:ev x with
  | none=>rw[hv] at h;cases h
  | some v=>
   rw[hv] at h;dsimp only[Option.bind_some] at h;cases hc:cC v with
   | none=>rw[hc] at h;cases h
   | some cs=>
    rw[hc] at h;cases h;have hvr:=hE x (by simp[Op.operands]) v hv;refine⟨.pointer (some ⟨w.heap.size,0,none⟩),.cells (f x).cells e,cs.length,?_,rfl,px (g9 hc hvr) _ _,fun ρ' b hb=>by simp only[Mk.of,VR];exact⟨_,hb,rfl⟩⟩;simp[execOp,ho,Instr.box,newVar,newRow]
 | buildSlice t len parts=>
  rw[ho] at h hE;simp only[eU] at h;cases hu:P.underlying t with
  | none=>rw[hu] at h;cases h
  | some d=>
   rw[hu] at h;cases d with
   | slice e=>
    dsimp only at h;cases hj:P.info? e with
    | none=>rw[hj] at h;cases h
    | some j=>
     cases hz:(eR P e).bind cC with
     | none=>rw[hj,hz] at h;cases h
     | some z=>
      rw[hj,hz] at h;simp only[a0] at h;split at h
      ·rename_i hb;simp only[bA_,Nat.beq_eq,nE_,bz] at hb;obtain⟨⟨hb1,hb2⟩,hb3⟩:=hb;cases hf:ju (fun i=>some (i*j.size,j.size)) ev parts.toList (eN z len) with
       | none=>rw[hf] at h;cases h
       | some cs=>
        rw[hf] at h;cases h;obtain⟨i,zv,hi,hzero,hzc⟩:=fx hz;rw[hj] at hi;cases hi;have hzsz:zv.cells.size=j.size:=by rw[<-hb1,<-(hzc ρ).length,Array.length_toList]
        have hparts:∀p∈parts.toList,∀v,ev p.2=some v->VR ρ v (f p.2):=fun p hp v hv=>hE p.2 (by simp only[Op.operands,List.mem_toArray,List.mem_map];exact⟨p,hp,rfl⟩) v hv
        obtain⟨zs,h1,h2⟩:=ng (place':=fun i=>some (i*j.size,j.size)) (fun i x hx=>hx) parts.toList (eN z len) cs ((List.replicate len zv.cells.toList).flatten).toArray hparts
         (by simpa using jn (hzc ρ) len) hf
        rw[<-tK zv.cells len (by omega),hzsz] at h1;have hlen0:cs.length=zs.size:=by have:=h2.length;simpa using this.symm
        by_cases hl0:len*j.size=0
        ·refine⟨.slice (some ⟨w.heap.size,0,none⟩) len len,.cells zs e,cs.length,?_,rfl,by simpa using px h2 w.heap.size e,fun ρ' b hb=>by simp only[Mk.of,VR];exact⟨_,hb,rfl⟩⟩;have hr0:(Array.map (fun x=>zv.cells[x%j.size]!) (Array.range (len*j.size)))= #[]:=by rw[hl0];simp
         rw[hr0] at h1;have hz0:∀g:Nat->Value,Array.map g (Array.range 0)= #[]:=fun g=>by simp
         simp[execOp,ho,Instr.buildSlice,run_underlying hu,sizeOf,typeInfo,hj,hl0,hz0,h1,newRow]
        refine⟨.slice (some ⟨w.heap.size,0,none⟩) len len,.cells zs e,cs.length,?_,rfl,by simpa using px h2 w.heap.size e,fun ρ' b hb=>by simp only[Mk.of,VR];exact⟨_,hb,rfl⟩⟩;have hrun:=run_buildSlice (P:=P) w t e len (parts.map fun(i,x)=>(i,f x)) zs j zv hu hj hzero (by omega) hl0 (by rw[hzsz];simpa using h1);simp only[execOp,ho,sB_,hrun,rA,sP_]
      cases h
   | _=>cases h
 | makeSlice t l c=>
  rw[ho] at h hE;simp only[eU] at h;cases hu:P.underlying t with
  | none=>rw[hu] at h;cases h
  | some d=>
   rw[hu] at h;cases hl:ev l with
   | none=>rw[hl] at h;cases d<;>cases h
   | some vl=>
    cases hc:ev c with
    | none=>rw[hl,hc] at h;cases d<;>first | cases h | (cases vl<;>first | cases h | (rename_i k n;cases n<;>cases h))
    | some vc=>
     rw[hl,hc] at h;split at h
     ·rename_i e kl ln kc cn he hel hec;cases he;cases hel;cases hec;cases hj:P.info? e with
      | none=>rw[hj] at h;cases h
      | some j=>
       cases hz:(eR P e).bind cC with
       | none=>rw[hj,hz] at h;cases h
       | some z=>
        rw[hj,hz] at h;simp only[a0] at h;split at h
        ·rename_i hb;simp only[bA_,Nat.beq_eq,nE_,bz] at hb;obtain⟨⟨⟨⟨hb1,hb2⟩,hb3⟩,hb4⟩,hb5⟩:=hb;cases h;obtain⟨i,zv,hi,hzero,hzc⟩:=fx hz;rw[hj] at hi;cases hi;have hzsz:zv.cells.size=j.size:=by rw[<-hb4,<-(hzc ρ).length,Array.length_toList]
         have hfl:f l= .int kl (Int.ofNat ln):=by have:=hE l (by simp[Op.operands]) _ hl;simpa only[VR] using this
         have hfc:f c= .int kc (Int.ofNat cn):=by have:=hE c (by simp[Op.operands]) _ hc;simpa only[VR] using this
         have hby:(j.bytes:Int)*(Int.ofNat cn)<=281474976710656:=by
          have:((j.bytes*cn:Nat):Int)<=1048576:=by omega
          rw[Int.natCast_mul] at this;show(j.bytes:Int)*(cn:Int)<=_;omega
         have hrun:=run_make (P:=P) w t e j zv hu hj hzero kl kc (Int.ofNat ln) (Int.ofNat cn) (Int.natCast_nonneg _) (Int.ofNat_le.2 hb1) hby (by show(cn:Int)<=_;omega)
         have hcells:madeCells zv.cells ((Int.ofNat cn).toNat*j.size)=((List.replicate cn zv.cells.toList).flatten).toArray:=by
          unfold madeCells;rw[show(Int.ofNat cn).toNat=cn from rfl,<-hzsz];exact tK zv.cells cn (by omega)
         rw[hcells] at hrun;have hts:=jn (hzc ρ) cn
         refine⟨.slice (some ⟨w.heap.size,0,none⟩) ln cn,.cells ((List.replicate cn zv.cells.toList).flatten).toArray e,(eN z cn).length,?_,rfl,px hts _ _,
          fun ρ' b hb=>by simp only[Mk.of,VR];exact⟨_,hb,rfl⟩⟩
         simp only[execOp,ho,hfl,hfc,sB_,hrun,rA,sP_];rfl
        cases h
     cases h
 | makeMap t r=>
  rw[ho] at h;cases r with
  | some r=>
   simp only[eU] at h;split at h
   ·rename_i mk mv k n hu hr;simp only[oJ_,Prod.mk.injEq] at h;obtain⟨rfl,rfl⟩:=h;have hfr:f r= .int k n:=by have:=hE r (by rw[ho];simp[Op.operands]) _ hr;simpa only[VR] using this
    refine⟨.map (some w.heap.size),.map #[] 0,0,?_,rfl,⟨#[],rfl,rfl⟩,fun ρ' b hb=>by simp only[Mk.of,VR];exact⟨_,hb,rfl⟩⟩;simp[execOp,ho,Instr.makeMap,hfr,run_underlying hu,asInt,asIntOf]
   cases h
  | none=>
   simp only[eU,oJ_,Prod.mk.injEq] at h;obtain⟨rfl,rfl⟩:=h;refine⟨.map (some w.heap.size),.map #[] 0,0,?_,rfl,⟨#[],rfl,rfl⟩,fun ρ' b hb=>by simp only[Mk.of,VR];exact⟨_,hb,rfl⟩⟩;simp[execOp,ho,Instr.makeMap]
 | _=>rw[ho] at h;simp[eU] at h
end
section
variable {P:Program} {ρ:cz} {w:World}
theorem kW (a b:Bool):(bif a then b else(bif b then false else true))=(a == b):=by cases a<;>cases b<;>rfl
theorem FM (a b:Bool):(bif a then(bif b then false else true) else b)=(a !=b):=by cases a<;>cases b<;>rfl
theorem cond_not (b:Bool):(bif b then false else true)= !b:=by cases b<;>rfl
theorem ki {d:Nat}:∀(fs:List Field) (xs ys:List AV) (cs ds:Array Value) (b:Bool),cG ρ xs cs.toList->cG ρ ys ds.toList->jN fs=true->iH P fs xs ys=some b->
  (Op.eqFields (d+1) cs ds fs).run P w= .ok b w
 | [],xs,ys,cs,ds,b,_,_,_,h=>by
  simp only[iH,oJ_] at h;subst h;simp[Op.eqFields]
 | f::fs,xs,ys,cs,ds,b,hx,hy,hn,h=>by
  have hn':(bif f.name == "_" then false else jN fs)=true:=hn
  have hname:(f.name == "_")=false:=by
   cases hh:(f.name == "_") with
   | false=>rfl
   | true=>rw[hh] at hn';simp at hn'
  rw[hname] at hn';have hne:f.name≠ "_" :=by simpa using hname
  have h':(match P.underlying f.type,nth xs f.offset,nth ys f.offset with
   | some .bool,some (.bool a),some (.bool b)=>bif (bif a then b else(bif b then false else true)) then iH P fs xs ys else some false
   | some (.int _),some (.int j a),some (.int k b)=>bif q7 j k then(bif bq a b then iH P fs xs ys else some false) else none
   | some .string,some (.str a),some (.str b)=>bif fF a b then iH P fs xs ys else some false
   | _,_,_=>none)=some b:=h
  have ih:=ki (d:=d) fs xs ys cs ds
  have part {v:AV} {cells:List AV} {es:Array Value} (hc:cG ρ cells es.toList) (hg:nth cells f.offset=some v) (hag:zi (match P.underlying f.type with | some d=>d | none=>.invalid)=false) (hu:P.underlying f.type≠none):
    ∃y,(part f.type es f.offset).run P w= .ok y w/\VR ρ v y:=by
   rw[fC] at hg;obtain⟨y,h1,h2⟩:=hc.get hg;cases hud:P.underlying f.type with
   | none=>exact absurd hud hu
   | some dd=>
    rw[hud] at hag;refine⟨y,?_,h2⟩;simp only[Go.part,sB_,eE hud,hag,rA,Bool.false_eq_true,if_false];have:es[f.offset]?=some y:=by rw[<-aT_];exact h1
    rw[this];rfl
  split at h'
  ·rename_i u1 u2 u3 a b' e1 e2 e3;obtain⟨y1,r1,v1⟩:=part hx e2 (by rw[e1];rfl) (by rw[e1];simp);obtain⟨y2,r2,v2⟩:=part hy e3 (by rw[e1];rfl) (by rw[e1];simp);simp only[VR] at v1 v2;subst v1;subst v2;simp only[Op.eqFields,hne,ne_eq,not_false_eq_true,if_true,sB_,r1,r2,rA,run_equalIn_bool w d f.type _ _ e1];rw[kW] at h';cases hc:(a == b') with
   | true=>rw[hc] at h';simpa using ih b hx hy (by simpa using hn') (by simpa using h')
   | false=>rw[hc] at h';simp at h';subst h';simp
  ·rename_i u1 u2 u3 kk j a k b' e1 e2 e3;obtain⟨y1,r1,v1⟩:=part hx e2 (by rw[e1];rfl) (by rw[e1];simp);obtain⟨y2,r2,v2⟩:=part hy e3 (by rw[e1];rfl) (by rw[e1];simp);simp only[VR] at v1 v2;subst v1;subst v2;cases hk:q7 j k with
   | false=>rw[hk] at h';simp at h'
   | true=>
    rw[hk] at h';have:=oc hk;subst this;simp only[Op.eqFields,hne,ne_eq,not_false_eq_true,if_true,sB_,r1,r2,rA,run_equalIn_int w d f.type _ _ _ _ e1];rw[dq] at h';cases hc:decide (a=b') with
    | true=>rw[hc] at h';have:=of_decide_eq_true hc;subst this;simpa using ih b hx hy (by simpa using hn') (by simpa using h')
    | false=>rw[hc] at h';have:=of_decide_eq_false hc;simp at h';subst h';simp[this]
  ·rename_i u1 u2 u3 a b' e1 e2 e3;obtain⟨y1,r1,v1⟩:=part hx e2 (by rw[e1];rfl) (by rw[e1];simp);obtain⟨y2,r2,v2⟩:=part hy e3 (by rw[e1];rfl) (by rw[e1];simp);simp only[VR] at v1 v2;obtain⟨s1,rfl,hs1⟩:=v1;obtain⟨s2,rfl,hs2⟩:=v2;simp only[Op.eqFields,hne,ne_eq,not_false_eq_true,if_true,sB_,r1,r2,rA,run_equalIn_string w d f.type _ _ e1];rw[m5 hs1 hs2] at h';cases hc:(s1.toList == s2.toList) with
   | true=>rw[hc] at h';simpa using ih b hx hy (by simpa using hn') (by simpa using h')
   | false=>rw[hc] at h';simp at h';subst h';simp
  cases h'
theorem mD {t:TypeId} {fs:Array Field} (h:structOf P t=some fs):P.underlying t=some (.struct fs):=by
 unfold structOf at h;rw[m6] at h;split at h
 ·rename_i g hg;cases h;exact hg
 cases h
theorem lP {t:TypeId} {fs:Array Field} (h:P.underlying t=some (.struct fs)):P.fieldsOf t=fs:=by simp[Program.fieldsOf,h]
theorem uU {e:TypeId} (h:qx P e=true):∃k i,P.underlying e=some (.int k)/\P.info? e=some i/\i.size=1:=by
 unfold qx at h;split at h
 ·rename_i k i h1 h2;exact⟨k,i,h1,h2,nB h⟩
 cases h
theorem mY {d:Nat} {e:TypeId} {k':IntKind} (he:P.underlying e=some (.int k')):∀(l1 l2:List AV) (s:Nat) (c1 c2:Array Value) (b:Bool),
  (∀(i:Nat) (v:AV),l1[i]?=some v->∃y,c1[s+i]?=some y/\VR ρ v y)->(∀(i:Nat) (v:AV),l2[i]?=some v->∃y,c2[s+i]?=some y/\VR ρ v y)->uz l1 l2=some b->
  (Op.eqItems (d+1) e 1 c1 c2 (List.range' s l1.length)).run P w= .ok b w
 | [],l2,s,c1,c2,b,_,_,h=>by
  cases l2 with
  | nil=>cases h;simp[Op.eqItems]
  | cons y r=>cases h
 | x::l1,l2,s,c1,c2,b,h1,h2,h=>by
  cases l2 with
  | nil=>cases x<;>cases h
  | cons y r=>
   cases x<;>try (cases h;done)
   rename_i j a;cases y<;>try (cases h;done)
   rename_i k c;have h':(bif q7 j k then(bif bq a c then uz l1 r else some false) else none)=some b:=h;cases hk:q7 j k with
   | false=>rw[hk] at h';cases h'
   | true=>
   rw[hk] at h';have:=oc hk;subst this;obtain⟨y1,q1,v1⟩:=h1 0 _ rfl;obtain⟨y2,q2,v2⟩:=h2 0 _ rfl;simp only[VR] at v1 v2;subst v1;subst v2;simp only[Nat.add_zero] at q1 q2
   have p:∀(cs:Array Value) (v:Value),cs[s]?=some v->(part e cs (s*1)).run P w= .ok v w:=fun cs v hv=>by
    rw[Nat.mul_one];simp only[part,sB_,eE he,zi,rA,Bool.false_eq_true,if_false,hv,sP_]
   simp only[List.length_cons,List.range'_succ,Op.eqItems,sB_,p c1 _ q1,p c2 _ q2,rA,run_equalIn_int w d e _ _ _ _ he];rw[dq] at h';have ih:=mY (d:=d) he l1 r (s+1) c1 c2;cases hc:decide (a=c) with
   | true=>
    rw[hc] at h';have:=of_decide_eq_true hc;subst this
    simpa using ih b (fun i v hv=>by have:=h1 (i+1) v (by simpa using hv);rwa[show s+(i+1)=s+1+i by omega] at this)
     (fun i v hv=>by have:=h2 (i+1) v (by simpa using hv);rwa[show s+(i+1)=s+1+i by omega] at this) (by simpa using h')
   | false=>
    rw[hc] at h';have:=of_decide_eq_false hc;simp at h';subst h';simp[this]
theorem gm {t:TypeId} {cs:List AV} {ys:Array Value} {off n:Nat} (ha:dE P t=some (some n)) (hc:cG ρ cs ys.toList):∃c,(part t ys off).run P w= .ok (.agg c) w/\cG ρ (takeN (dy cs off) n) c.toList:=by
 obtain⟨d,i,hu,hi,hsz,hd⟩:=qe ha;refine⟨ys.extract off (off+n),?_,?_⟩
 ·simp only[part,sB_,eE hu,hd,rA,if_true,bU hi,hsz,sP_]
 rw[dp,dO,Array.toList_extract];have:=(hc.drop off).take n;show cG ρ _ ((ys.toList.drop off).take (off+n-off));rw[show off+n-off=n by omega];exact this
theorem lB {d:Nat}:∀(fs:List Field) (xs ys:List AV) (cs ds:Array Value) (b:Bool),cG ρ xs cs.toList->cG ρ ys ds.toList->jN fs=true->eqFields P fs xs ys=some b->
  (Op.eqFields (d+1+1) cs ds fs).run P w= .ok b w
 | [],xs,ys,cs,ds,b,_,_,_,h=>by
  simp only[eqFields,oJ_] at h;subst h;simp[Op.eqFields]
 | f::fs,xs,ys,cs,ds,b,hx,hy,hn,h=>by
  have hn':(bif f.name == "_" then false else jN fs)=true:=hn
  have hname:(f.name == "_")=false:=by
   cases hh:(f.name == "_") with
   | false=>rfl
   | true=>rw[hh] at hn';simp at hn'
  rw[hname] at hn';have hne:f.name≠ "_" :=by simpa using hname
  have h':(match P.underlying f.type,nth xs f.offset,nth ys f.offset with
   | some .bool,some (.bool a),some (.bool b)=>bif (bif a then b else(bif b then false else true)) then eqFields P fs xs ys else some false
   | some (.int _),some (.int j a),some (.int k b)=>bif q7 j k then(bif bq a b then eqFields P fs xs ys else some false) else none
   | some .string,some (.str a),some (.str b)=>bif fF a b then eqFields P fs xs ys else some false
   | some (.struct gs),_,_=>bif P.stoodInHeld f.type || !jN gs.toList then none else match dE P f.type with
    | some (some n)=>match iH P gs.toList (takeN (dy xs f.offset) n) (takeN (dy ys f.offset) n) with
     | some true=>eqFields P fs xs ys
     | some false=>some false
     | none=>none
    | _=>none
   | some (.array m e),_,_=>bif qx P e then(match dE P f.type with
    | some (some n)=>bif Nat.beq n m && (Nat.beq (cD (takeN (dy xs f.offset) n)) m && Nat.beq (cD (takeN (dy ys f.offset) n)) m) then(match uz (takeN (dy xs f.offset) n) (takeN (dy ys f.offset) n) with
     | some true=>eqFields P fs xs ys
     | some false=>some false
     | none=>none) else none
    | _=>none) else none
   | _,_,_=>none)=some b:=h
  have ih:=lB (d:=d) fs xs ys cs ds
  have part {v:AV} {cells:List AV} {es:Array Value} (hc:cG ρ cells es.toList) (hg:nth cells f.offset=some v) (hag:zi (match P.underlying f.type with | some d=>d | none=>.invalid)=false) (hu:P.underlying f.type≠none):
    ∃y,(part f.type es f.offset).run P w= .ok y w/\VR ρ v y:=by
   rw[fC] at hg;obtain⟨y,h1,h2⟩:=hc.get hg;cases hud:P.underlying f.type with
   | none=>exact absurd hud hu
   | some dd=>
    rw[hud] at hag;refine⟨y,?_,h2⟩;simp only[Go.part,sB_,eE hud,hag,rA,Bool.false_eq_true,if_false];have:es[f.offset]?=some y:=by rw[<-aT_];exact h1
    rw[this];rfl
  split at h'
  ·rename_i u1 u2 u3 a b' e1 e2 e3;obtain⟨y1,r1,v1⟩:=part hx e2 (by rw[e1];rfl) (by rw[e1];simp);obtain⟨y2,r2,v2⟩:=part hy e3 (by rw[e1];rfl) (by rw[e1];simp);simp only[VR] at v1 v2;subst v1;subst v2;simp only[Op.eqFields,hne,ne_eq,not_false_eq_true,if_true,sB_,r1,r2,rA,run_equalIn_bool w (d+1) f.type _ _ e1];rw[kW] at h';cases hc:(a == b') with
   | true=>rw[hc] at h';simpa using ih b hx hy (by simpa using hn') (by simpa using h')
   | false=>rw[hc] at h';simp at h';subst h';simp
  ·rename_i u1 u2 u3 kk j a k b' e1 e2 e3;obtain⟨y1,r1,v1⟩:=part hx e2 (by rw[e1];rfl) (by rw[e1];simp);obtain⟨y2,r2,v2⟩:=part hy e3 (by rw[e1];rfl) (by rw[e1];simp);simp only[VR] at v1 v2;subst v1;subst v2;cases hk:q7 j k with
   | false=>rw[hk] at h';simp at h'
   | true=>
    rw[hk] at h';have:=oc hk;subst this;simp only[Op.eqFields,hne,ne_eq,not_false_eq_true,if_true,sB_,r1,r2,rA,run_equalIn_int w (d+1) f.type _ _ _ _ e1];rw[dq] at h';cases hc:decide (a=b') with
    | true=>rw[hc] at h';have:=of_decide_eq_true hc;subst this;simpa using ih b hx hy (by simpa using hn') (by simpa using h')
    | false=>rw[hc] at h';have:=of_decide_eq_false hc;simp at h';subst h';simp[this]
  ·rename_i u1 u2 u3 a b' e1 e2 e3;obtain⟨y1,r1,v1⟩:=part hx e2 (by rw[e1];rfl) (by rw[e1];simp);obtain⟨y2,r2,v2⟩:=part hy e3 (by rw[e1];rfl) (by rw[e1];simp);simp only[VR] at v1 v2;obtain⟨s1,rfl,hs1⟩:=v1;obtain⟨s2,rfl,hs2⟩:=v2;simp only[Op.eqFields,hne,ne_eq,not_false_eq_true,if_true,sB_,r1,r2,rA,run_equalIn_string w (d+1) f.type _ _ e1];rw[m5 hs1 hs2] at h';cases hc:(s1.toList == s2.toList) with
   | true=>rw[hc] at h';simpa using ih b hx hy (by simpa using hn') (by simpa using h')
   | false=>rw[hc] at h';simp at h';subst h';simp
  ·rename_i u1 u2 u3 gs e1;cases ar:P.stoodInHeld f.type with
   | true=>rw[ar] at h';simp at h'
   | false=>
   cases hnb:jN gs.toList with
   | false=>rw[ar,hnb] at h';simp at h'
   | true=>
   rw[ar,hnb] at h';simp only[Bool.not_true,Bool.or_false,cond_false] at h';cases hag:dE P f.type with
   | none=>rw[hag] at h';cases h'
   | some q=>
   cases q with
   | none=>rw[hag] at h';cases h'
   | some n=>
   rw[hag] at h';dsimp only at h';cases hin:iH P gs.toList (takeN (dy xs f.offset) n) (takeN (dy ys f.offset) n) with
   | none=>rw[hin] at h';cases h'
   | some bb=>
    rw[hin] at h';obtain⟨c1,r1,v1⟩:=gm (P:=P) (w:=w) hag hx (off:=f.offset);obtain⟨c2,r2,v2⟩:=gm (P:=P) (w:=w) hag hy (off:=f.offset);have hq:=ki (P:=P) (w:=w) (d:=d) gs.toList _ _ c1 c2 bb v1 v2 hnb hin
    have hE:(Op.equalIn (d+1+1) f.type (.agg c1) (.agg c2)).run P w= .ok bb w:=by
     rw[run_equalIn_struct w (d+1) f.type c1 c2 (by rw[lP e1];exact e1) ar,lP e1];exact hq
    simp only[Op.eqFields,hne,ne_eq,not_false_eq_true,if_true,sB_,r1,r2,rA,hE];cases bb with
    | true=>simpa using ih b hx hy (by simpa using hn') (by simpa using h')
    | false=>simp at h';subst h';simp
  ·rename_i u1 u2 u3 m e e1;cases hia:qx P e with
   | false=>rw[hia] at h';cases h'
   | true=>
   rw[hia] at h';simp only[cond_true] at h';obtain⟨k,inf,he,hinf,hsz⟩:=uU hia;cases hag:dE P f.type with
   | none=>rw[hag] at h';cases h'
   | some q=>
   cases q with
   | none=>rw[hag] at h';cases h'
   | some n=>
   rw[hag] at h';dsimp only at h';rw[a0] at h';split at h'
   case isFalse=>cases h'
   rename_i hc;simp only[bA_,Nat.beq_eq,bz] at hc;obtain⟨hc1,hc2,hc3⟩:=hc;cases hin:uz (takeN (dy xs f.offset) n) (takeN (dy ys f.offset) n) with
   | none=>rw[hin] at h';cases h'
   | some bb=>
    rw[hin] at h';obtain⟨c1,r1,v1⟩:=gm (P:=P) (w:=w) hag hx (off:=f.offset);obtain⟨c2,r2,v2⟩:=gm (P:=P) (w:=w) hag hy (off:=f.offset)
    have hq:=mY (P:=P) (w:=w) (ρ:=ρ) (d:=d) he _ _ 0 c1 c2 bb (fun i v hv=>by obtain⟨y,a1,a2⟩:=v1.get hv;exact⟨y,by rw[nA_,<-aT_];exact a1,a2⟩)
     (fun i v hv=>by obtain⟨y,a1,a2⟩:=v2.get hv;exact⟨y,by rw[nA_,<-aT_];exact a1,a2⟩) hin
    rw[hc2] at hq
    have hE:(Op.equalIn (d+1+1) f.type (.agg c1) (.agg c2)).run P w= .ok bb w:=by
     rw[run_equalIn_array w (d+1) c1 c2 e1 hinf,qq hinf,hsz,List.range_eq_range'];exact hq
    simp only[Op.eqFields,hne,ne_eq,not_false_eq_true,if_true,sB_,r1,r2,rA,hE];cases bb with
    | true=>simpa using ih b hx hy (by simpa using hn') (by simpa using h')
    | false=>simp at h';subst h';simp
  cases h'
theorem cA (op:BinOp) (t:TypeId) (x y:Operand) (a b:Value) (h1:¬(a= .nilIface/\b= .nilIface)) (h2:¬(∃c d,a= .agg c/\b= .agg d)):(eqGuard op t x y a b).run P w= .ok () w:=by
 unfold eqGuard;cases op<;>simp<;>(split<;>first | rfl | (exact absurd ⟨rfl,rfl⟩ h1) | (exact absurd ⟨_,_,rfl,rfl⟩ h2) | simp)
end
section
variable {P:Program} {ρ:cz} {w:World}
theorem VR.iN {b:Pos} {off len:Nat} {cap:rZ} {x:Value} (h:VR ρ (.slice b off len cap) x):∃a c,x= .slice (some a) len c:=by
  cases cap with
  | upto sz=>
    simp only[VR] at h;obtain⟨l,_,⟨c,rfl,_⟩ | ⟨rfl,a,rfl⟩⟩:=h
    · exact⟨_,_,rfl⟩
    · exact⟨_,_,rfl⟩
  | known c=>simp only[VR] at h;obtain⟨l,_,rfl⟩:=h;exact⟨_,_,rfl⟩
  | least a sz=>simp only[VR] at h;obtain⟨l,_,c,rfl,_⟩:=h;exact⟨_,_,rfl⟩
theorem oe {t:TypeId} {x y:AV} {b:Bool} {a c:Value} (h:BU P t x y=some b) (hx:VR ρ x a) (hy:VR ρ y c) (op:BinOp) (xo yo:Operand):
    (eqGuard op t xo yo a c).run P w= .ok () w/\(Op.equal t a c).run P w= .ok b w:=by
  unfold BU at h;have eq11:∀r:Result Bool,((Op.equalIn (9999+1) t a c).run P w=r)->(Op.equal t a c).run P w=r:=fun r h=>h
  have eq10:∀r:Result Bool,(∀d,(Op.equalIn (d+1) t a c).run P w=r)->(Op.equal t a c).run P w=r:=fun r h=>h 9999
  split at h
  ·
    rename_i xs ys;simp only[VR] at hx hy;obtain⟨cs,rfl,hcs⟩:=hx;obtain⟨ds,rfl,hds⟩:=hy;cases hs:structOf P t with
    | none=>rw[hs] at h;cases h
    | some fs=>
      rw[hs] at h;dsimp only at h;have hu:=mD hs;cases hq:P.eqGuardType P.depth t with
      | true=>rw[hq] at h;simp at h
      | false=>
        cases ar:P.stoodInHeld t with
        | true=>rw[hq,ar] at h;simp at h
        | false=>
          cases hnb:jN fs.toList with
          | false=>rw[hq,ar,hnb] at h;simp at h
          | true=>
            rw[hq,ar,hnb] at h;refine⟨run_eqGuard_agg w op t xo yo cs ds hq,eq11 _ ?_⟩;rw[run_equalIn_struct w 9999 t cs ds (by rw[lP hu];exact hu) ar,lP hu];exact lB (d:=9997) fs.toList xs ys cs ds b hcs hds hnb (by simpa using h)
  all_goals (try (cases h;done))
  all_goals (split at h)
  all_goals (try (cases h;done))
  all_goals (try (rename_i hu;cases h))
  all_goals first
    | (obtain⟨a',c',rfl⟩:=VR.iN hx
       simp only[VR] at hy;subst hy;refine⟨cA op t xo yo _ _ (by simp) (by simp),eq10 _ (fun d=>?_)⟩;simp[Op.equalIn,run_underlying hu]
       done)
    | (obtain⟨a',c',rfl⟩:=VR.iN hy
       simp only[VR] at hx;subst hx;refine⟨cA op t xo yo _ _ (by simp) (by simp),eq10 _ (fun d=>?_)⟩;simp[Op.equalIn,run_underlying hu]
       done)
    | (simp only[VR] at hx hy
       subst hx;subst hy;refine⟨cA op t xo yo _ _ (by simp) (by simp),eq10 _ (fun d=>?_)⟩;simp[Op.equalIn,run_underlying hu]
       done)
    | (simp only[VR] at hx hy
       obtain⟨l,_,rfl⟩:=hx;subst hy;refine⟨cA op t xo yo _ _ (by simp) (by simp),eq10 _ (fun d=>?_)⟩;simp[Op.equalIn,run_underlying hu]
       done)
    | (simp only[VR] at hx hy
       obtain⟨l,_,rfl⟩:=hy;subst hx;refine⟨cA op t xo yo _ _ (by simp) (by simp),eq10 _ (fun d=>?_)⟩;simp[Op.equalIn,run_underlying hu]
       done)
    | (simp only[VR] at hx hy
       obtain⟨l,rfl,_⟩:=hx;subst hy;refine⟨cA op t xo yo _ _ (by simp) (by simp),eq10 _ (fun d=>?_)⟩;simp[Op.equalIn,run_underlying hu]
       done)
    | (simp only[VR] at hx hy
       obtain⟨l,rfl,_⟩:=hy;subst hx;refine⟨cA op t xo yo _ _ (by simp) (by simp),eq10 _ (fun d=>?_)⟩;simp[Op.equalIn,run_underlying hu]
       done)
    | (simp only[VR] at hx hy
       obtain⟨l,l',rfl,_⟩:=hx;subst hy;refine⟨cA op t xo yo _ _ (by simp) (by simp),eq10 _ (fun d=>?_)⟩;simp[Op.equalIn,run_underlying hu]
       done)
    | (simp only[VR] at hx hy
       obtain⟨l,l',rfl,_⟩:=hy;subst hx;refine⟨cA op t xo yo _ _ (by simp) (by simp),eq10 _ (fun d=>?_)⟩;simp[Op.equalIn,run_underlying hu]
       done)
    | (rename_i hu
       rw[a0] at h;split at h
       · rename_i hc
         cases h;rw[bA_,bA_] at hc;obtain⟨hb,ho,hi⟩:=hc;have hb:=nB hb;have ho:=nB ho;subst hb;subst ho;obtain⟨j,hj⟩:=Option.isSome_iff_exists.1 hi;simp only[VR] at hx hy;obtain⟨l,hl,rfl⟩:=hx;obtain⟨l',hl',rfl⟩:=hy;rw[hl] at hl';cases hl';refine⟨cA op t xo yo _ _ (by simp) (by simp),eq10 _ (fun d=>?_)⟩;simp[Op.equalIn,run_underlying hu,sizeOf,typeInfo,hj,run_sameAddr_same]
       · cases h)
theorem mB {t:TypeId} {a c:Value} {b:Bool} (h:(Op.equal t a c).run P w= .ok b w)
    (hn:∀k m k' m',¬(a= .int k m/\c= .int k' m')) (hf:∀k m k' m',¬(a= .float k m/\c= .float k' m')) (hc:∀k m n k' m' n',¬(a= .complex k m n/\c= .complex k' m' n')) (hs:∀s s',¬(a= .string s/\c= .string s')):
    (binOp .eql t a c).run P w= .ok (.bool b) w/\(binOp .neq t a c).run P w= .ok (.bool (!b)) w:=by
  constructor
  · unfold binOp
    split<;>first
      | (exact absurd ⟨rfl,rfl⟩ (hn _ _ _ _))
      | (exact absurd ⟨rfl,rfl⟩ (hf _ _ _ _))
      | (exact absurd ⟨rfl,rfl⟩ (hc _ _ _ _ _ _))
      | (exact absurd ⟨rfl,rfl⟩ (hs _ _))
      | (simp only[sB_,h,rA,sP_];done)
      | (rename_i he;cases he)
      | (rename_i he _;cases he)
      | (rename_i he _ _;cases he)
      | (simp_all;done)
  · unfold binOp
    split<;>first
      | (exact absurd ⟨rfl,rfl⟩ (hn _ _ _ _))
      | (exact absurd ⟨rfl,rfl⟩ (hf _ _ _ _))
      | (exact absurd ⟨rfl,rfl⟩ (hc _ _ _ _ _ _))
      | (exact absurd ⟨rfl,rfl⟩ (hs _ _))
      | (simp only[sB_,h,rA,sP_];done)
      | (rename_i he;cases he)
      | (rename_i he _;cases he)
      | (rename_i he _ _;cases he)
      | (simp_all;done)
end
section
variable {P:Program} {ρ:cz} {w:World}
theorem H3 {op:BinOp} {t:TypeId} {k k':IntKind} {a b:Int} {v:AV} (h:qV P op t (.int k a) (.int k' b)=some v):
  ∃x,(binOp op t (.int k a) (.int k' b)).run P w= .ok x w/\VR ρ v x:=by
 unfold qV at h;have vint:∀(j:IntKind) (n:Int),VR ρ (.int j n) (.int j n):=fun j n=>by simp only[VR]
 have vbool:∀(c:Bool),VR ρ (.bool c) (.bool c):=fun c=>by simp only[VR]
 by_cases hsl:op= .shl
 ·subst hsl;simp only[a0,eo,xM] at h;split at h
  ·cases h
  rename_i hb;cases h;refine⟨.int k (k.wrap (a*2 ^ min b.toNat k.bits)),?_,vint _ _⟩;have hb':¬b<0:=by simpa using hb
  simp[binOp,Op.shift,hb']
 by_cases hsr:op= .shr
 ·subst hsr;simp only[a0,eo] at h;split at h
  ·cases h
  rename_i hb;cases h;refine⟨.int k (a.fdiv (2 ^ min b.toNat k.bits)),?_,vint _ _⟩;have hb':¬b<0:=by simpa using hb
  simp[binOp,Op.shift,hb']
 cases hk:q7 k k' with
 | false=>cases op<;>first | exact absurd rfl hsl | exact absurd rfl hsr | (simp[hk] at h)
 | true=>
  have:=oc hk;subst this;cases op<;>first | exact absurd rfl hsl | exact absurd rfl hsr | skip
  all_goals simp only[hk,cond_true,a0,dq,eo,xM,if_true] at h
  case add=>cases h;exact⟨.int k (k.wrap (a+b)),by simp[binOp,Op.intArith],vint _ _⟩
  case sub=>cases h;exact⟨.int k (k.wrap (a-b)),by simp[binOp,Op.intArith],vint _ _⟩
  case mul=>cases h;exact⟨.int k (k.wrap (a*b)),by simp[binOp,Op.intArith],vint _ _⟩
  case quo=>
   by_cases hb:b=0
   ·simp[hb] at h
   simp only[hb,decide_false,if_true,if_false,Bool.false_eq_true,eq_self,oJ_] at h;subst h;exact⟨.int k (k.wrap (a.tdiv b)),by simp[binOp,Op.intDiv,hb],vint _ _⟩
  case rem=>
   by_cases hb:b=0
   ·simp[hb] at h
   simp only[hb,decide_false,if_true,if_false,Bool.false_eq_true,eq_self,oJ_] at h;subst h;exact⟨.int k (a.tmod b),by simp[binOp,Op.intDiv,hb],vint _ _⟩
  case and=>cases h;exact⟨_,by simp only[binOp,ne_eq,not_true_eq_false,if_false];rfl,vint _ _⟩
  case or=>cases h;exact⟨_,by simp only[binOp,ne_eq,not_true_eq_false,if_false];rfl,vint _ _⟩
  case xor=>cases h;exact⟨_,by simp only[binOp,ne_eq,not_true_eq_false,if_false];rfl,vint _ _⟩
  case andNot=>cases h;exact⟨_,by simp only[binOp,ne_eq,not_true_eq_false,if_false];rfl,vint _ _⟩
  case eql=>cases h;exact⟨.bool (a == b),by simp[binOp,Op.intCmp],by simp only[VR];congr 1⟩
  case neq=>
   cases h;refine⟨.bool (a !=b),by simp[binOp,Op.intCmp],?_⟩;simp only[VR]
   by_cases e:a=b<;>simp[e]
  case lss=>cases h;exact⟨.bool (decide (a<b)),by simp[binOp,Op.intCmp],vbool _⟩
  case leq=>
   cases h;refine⟨.bool (decide (a<=b)),by simp[binOp,Op.intCmp],?_⟩;simp only[VR]
   by_cases e:b<a
   ·have e2:¬a<=b:=by omega
    simp[e,e2]
   have e2:a<=b:=by omega
   simp[e,e2]
  case gtr=>cases h;exact⟨.bool (decide (b<a)),by simp[binOp,Op.intCmp],vbool _⟩
  case geq=>
   cases h;refine⟨.bool (decide (b<=a)),by simp[binOp,Op.intCmp],?_⟩;simp only[VR]
   by_cases e:a<b
   ·have e2:¬b<=a:=by omega
    simp[e,e2]
   have e2:b<=a:=by omega
   simp[e,e2]
theorem H4 {op:BinOp} {t:TypeId} {a b:List Nat} {x y:ByteArray} {v:AV} (hx:gh a x) (hy:gh b y) (h:qV P op t (.str a) (.str b)=some v):
  ∃z,(binOp op t (.string x) (.string y)).run P w= .ok z w/\VR ρ v z:=by
 unfold qV at h;have lx:=iP hx;have ly:=iP hy;have e1:=m5 hx hy;have e2:=xD hx hy;have e3:=xD hy hx
 have e4:∀s u:List UInt8,Op.bytesLess u s= !(Op.bytesLess s u || s == u):=by
  intro s;induction s with
  | nil=>intro u;cases u<;>simp[Op.bytesLess]
  | cons c s ih=>
   intro u;cases u with
   | nil=>simp[Op.bytesLess]
   | cons d u=>
    simp only[Op.bytesLess,ih u]
    by_cases h1:c<d
    ·have h2:¬d<c:=by rw[UInt8.lt_iff_toNat_lt] at h1⊢;omega
     have h3:d≠c:=by intro e;subst e;rw[UInt8.lt_iff_toNat_lt] at h1;omega
     simp[h1,h2,h3]
    by_cases h4:d<c
    ·have h3:c≠d:=by intro e;subst e;exact h1 h4
     simp[h1,h4,h3]
    have h3:c=d:=by rw[UInt8.lt_iff_toNat_lt] at h1 h4;exact UInt8.toNat_inj.1 (by omega)
    subst h3;simp[h1]
 cases op<;>simp only[a0] at h<;>(try (cases h;done))
 case add=>
  split at h
  ·rename_i hb;cases h;rw[nE_,lx,ly] at hb
   refine⟨.string (x++y),?_,by
    simp only[VR];refine⟨_,rfl,?_⟩;unfold gh at hx hy⊢;rw[dw,<-hx,<-hy];simp⟩
   have:¬(((x.size+y.size:Nat):Int)>IntKind.i64.max):=by
    have e:IntKind.i64.max=9223372036854775807:=by decide
    rw[e];omega
   simp only[binOp,Op.stringOp];rw[if_neg this];rfl
  cases h
 case eql=>cases h;exact⟨.bool (x.toList == y.toList),rfl,by simp only[VR];rw[e1]⟩
 case neq=>cases h;exact⟨.bool (!(x.toList == y.toList)),rfl,by simp only[VR];rw[e1];cases (x.toList == y.toList)<;>rfl⟩
 case lss=>cases h;exact⟨.bool (Op.bytesLess x.toList y.toList),rfl,by simp only[VR];rw[e2]⟩
 case leq=>
  cases h;refine⟨.bool (Op.bytesLess x.toList y.toList || x.toList == y.toList),rfl,?_⟩;simp only[VR];rw[e3,e4 x.toList y.toList];cases (Op.bytesLess x.toList y.toList || x.toList == y.toList)<;>rfl
 case gtr=>
  cases h;refine⟨.bool (!(Op.bytesLess x.toList y.toList || x.toList == y.toList)),rfl,?_⟩;simp only[VR];rw[e3,e4 x.toList y.toList]
 case geq=>
  cases h;refine⟨.bool (!(Op.bytesLess x.toList y.toList)),rfl,?_⟩;simp only[VR];rw[e2];cases (Op.bytesLess x.toList y.toList)<;>rfl
theorem Ec {op:BinOp} {t:TypeId} {x y v:AV} {a c:Value} (hx:VR ρ x a) (hy:VR ρ y c) (h:qV P op t x y=some v) (xo yo:Operand):
  ∃z,(eqGuard op t xo yo a c).run P w= .ok () w/\(binOp op t a c).run P w= .ok z w/\VR ρ v z:=by
 have other:(∀k n,x≠ .int k n)->(∀s,x≠ .str s)->(∀b,x≠ .bool b)->x≠ .any->(∀a,x≠ .na a)->(∀a,x≠ .tok a)->
   ∃z,(eqGuard op t xo yo a c).run P w= .ok () w/\(binOp op t a c).run P w= .ok z w/\VR ρ v z:=by
  intro h1 h2 h3 h4 h5 h6
  have h':lN P op t x y=some v:=by
   rw[<-h];unfold qV;split
   ·exact absurd rfl (h1 _ _)
   ·exact absurd rfl (h2 _)
   ·exact absurd rfl (h3 _)
   rfl
  have hne:(∀k m k' m',¬(a= .int k m/\c= .int k' m'))/\(∀k m k' m',¬(a= .float k m/\c= .float k' m'))/\(∀k m n k' m' n',¬(a= .complex k m n/\c= .complex k' m' n'))/\(∀s s',¬(a= .string s/\c= .string s')):=by
   cases x with
   | int k n=>exact absurd rfl (h1 k n)
   | str s=>exact absurd rfl (h2 s)
   | bool b=>exact absurd rfl (h3 b)
   | any=>exact absurd rfl h4
   | na a=>exact absurd rfl (h5 a)
   | tok a=>exact absurd rfl (h6 a)
   | slice b off len cap=>obtain⟨_,_,rfl⟩:=VR.iN hx;simp
   | _=>simp only[VR] at hx;first | (subst hx;simp;done) | (obtain⟨_,_,rfl⟩:=hx;simp;done) | (obtain⟨_,rfl,_⟩:=hx;simp;done) | (obtain⟨_,_,rfl,_⟩:=hx;simp;done)
  obtain⟨n1,n2,n3,n4⟩:=hne;cases op<;>(try (cases h';done))
  case eql=>
   dsimp only[lN] at h';cases hq:BU P t x y with
   | none=>rw[hq] at h';cases h'
   | some b=>
    rw[hq] at h';cases h';obtain⟨g1,g2⟩:=oe (P:=P) (w:=w) hq hx hy .eql xo yo;exact⟨_,g1,(mB g2 n1 n2 n3 n4).1,by simp only[VR]⟩
  case neq=>
   dsimp only[lN] at h';cases hq:BU P t x y with
   | none=>rw[hq] at h';cases h'
   | some b=>
    rw[hq] at h';cases h';obtain⟨g1,g2⟩:=oe (P:=P) (w:=w) hq hx hy .neq xo yo;exact⟨_,g1,(mB g2 n1 n2 n3 n4).2,by simp only[VR];rw[cond_not]⟩
 cases x with
 | int k n=>
  cases y with
  | int k' n'=>
   simp only[VR] at hx hy;subst hx;subst hy;obtain⟨z,h1,h2⟩:=H3 (ρ:=ρ) (w:=w) h;exact⟨z,cA op t xo yo _ _ (by simp) (by simp),h1,h2⟩
  | _=>unfold qV at h;cases op<;>first | (simp[lN,BU] at h;done) | (cases h;done)
 | str s=>
  cases y with
  | str s'=>
   simp only[VR] at hx hy;obtain⟨x,rfl,hx⟩:=hx;obtain⟨y,rfl,hy⟩:=hy;obtain⟨z,h1,h2⟩:=H4 (ρ:=ρ) (w:=w) hx hy h;exact⟨z,cA op t xo yo _ _ (by simp) (by simp),h1,h2⟩
  | _=>unfold qV at h;cases op<;>first | (simp[lN,BU] at h;done) | (cases h;done)
 | bool b=>
  cases y with
  | bool b'=>
   simp only[VR] at hx hy;subst hx;subst hy;unfold qV at h;refine(fun(hh:∃z,(binOp op t (.bool b) (.bool b')).run P w= .ok z w/\VR ρ v z)=>let ⟨z,h1,h2⟩:=hh;⟨z,cA op t xo yo _ _ (by simp) (by simp),h1,h2⟩) ?_;dsimp only at h;split at h
   ·rename_i hu;cases h;exact⟨_,run_eql_bool w t b b' hu,by simp only[VR];rw[kW]⟩
   ·rename_i hu;cases h;refine⟨_,run_neq_bool w t b b' hu,?_⟩;simp only[VR];rw[FM];cases b<;>cases b'<;>rfl
   cases h
  | _=>unfold qV at h;cases op<;>first | (simp[lN,BU] at h;done) | (cases h;done)
 | any=>unfold qV at h;cases op<;>first | (simp[lN,BU] at h;done) | (cases h;done)
 | na a=>unfold qV at h;cases op<;>first | (simp[lN,BU] at h;done) | (cases h;done)
 | tok a=>unfold qV at h;cases op<;>first | (simp[lN,BU] at h;done) | (cases h;done)
 | _=>exact other (by simp) (by simp) (by simp) (by simp) (by simp) (by simp)
theorem BA {op:BinOp} {t:TypeId} {x y v:AV} {a c:Value} (hx:VR ρ x a) (hy:VR ρ y c) (h:FG P op t x y=some v) (xo yo:Operand):
  ∃z,(eqGuard op t xo yo a c).run P w= .ok () w/\(binOp op t a c).run P w= .ok z w/\VR ρ v z:=by
 unfold FG at h;split at h
 ·split at h
  ·rename_i u1 u2 n;simp only[a0] at h;split at h
   ·rename_i m hle;cases h;rw[nE_] at hle;simp only[VR] at hx hy;obtain⟨k,rfl,hk⟩:=hy;subst hx;have hlt:¬((k:Int)<Int.ofNat n):=by simp only[Int.ofNat_eq_natCast];omega
    exact⟨.bool (decide ((k:Int)<Int.ofNat n)),cA .gtr t xo yo _ _ (by simp) (by simp),by simp[binOp,Op.intCmp],by simp only[VR,hlt,decide_false]⟩
   cases h
  cases h
 exact Ec hx hy h xo yo
theorem BB {op:BinOp} {t:TypeId} {x y v:AV} {a c:Value} (hx:VR ρ x a) (hy:VR ρ y c) (xo yo:Operand) (h:tB P (xe xo || xe yo) op t x y=some v):
  ∃z,(eqGuard op t xo yo a c).run P w= .ok () w/\(binOp op t a c).run P w= .ok z w/\VR ρ v z:=by
 by_cases hn:x= .nilIface/\y= .nilIface
 ·obtain⟨rfl,rfl⟩:=hn;simp only[VR] at hx hy;subst hx;subst hy;have h:GN P op t (xe xo || xe yo)=some v:=h;unfold GN at h;rw[a0] at h;split at h
  ·rename_i hk
   have hg:(eqGuard op t xo yo .nilIface .nilIface).run P w= .ok () w:=by
    unfold eqGuard;cases xo<;>cases yo<;>first | exact absurd hk Bool.false_ne_true | (cases op<;>simp)
   split at h
   ·rename_i ms hu
    have heq:(Op.equal t .nilIface .nilIface).run P w= .ok true w:=by
     have:∀d,(Op.equalIn (d+1) t .nilIface .nilIface).run P w= .ok true w:=fun d=>by simp[Op.equalIn,run_underlying hu]
     exact this 9999
    have hb:=mB heq (fun k m k' m' h=>by cases h.1) (fun k m k' m' h=>by cases h.1) (fun k m n k' m' n' h=>by cases h.1) (fun s s' h=>by cases h.1);split at h
    ·cases h;exact⟨_,hg,hb.1,by simp only[VR]⟩
    ·cases h;exact⟨_,hg,hb.2,by simp only[VR];rfl⟩
    cases h
   cases h
  cases h
 have h':FG P op t x y=some v:=by
  cases x<;>first | exact h | (cases y<;>first | exact h | exact absurd ⟨rfl,rfl⟩ hn)
 exact BA hx hy h' xo yo
end
section
variable {P:Program} {ρ:cz} {w:World}
theorem iG {ev:Operand->Option AV} {f:Operand->Value} {x:Operand} {y i:Nat} (h:ek ev x y=some i) (hx:∀v,ev x=some v->VR ρ v (f x)) (code:BoundsCode):
  (Instr.sliceBound (f x) y code).run P w= .ok i w/\i<=y:=by
 unfold ek at h;split at h
 ·rename_i k j hv;simp only[a0] at h;split at h
  ·rename_i hb;cases h;rw[nE_] at hb;have hf:=hx _ hv;simp only[VR] at hf;rw[hf];refine⟨?_,hb⟩;have h2:(0:Int)<=Int.ofNat i/\Int.ofNat i<=(y:Int):=⟨Int.natCast_nonneg _,Int.ofNat_le.2 hb⟩;simp only[Instr.sliceBound,asIntOf,sB_,sP_,rA];rw[if_pos h2];rfl
  cases h
 cases h
theorem g8 {ev:Operand->Option AV} {f:Operand->Value} {len cap l h:Nat} {lo hi:Option Operand} (hb:cX ev len cap lo hi=some (l,h))
  (hlo:∀x,lo=some x->∀v,ev x=some v->VR ρ v (f x)) (hhi:∀x,hi=some x->∀v,ev x=some v->VR ρ v (f x)) (isSlice:Bool):
  (Instr.sliceBounds isSlice len cap (lo.map f) (hi.map f) none).run P w= .ok (l,h,cap) w/\l<=h/\(len<=cap->h<=cap):=by
 unfold cX at hb;cases hi with
 | none=>
  dsimp only at hb;cases lo with
  | none=>
   dsimp only at hb;cases hb;refine⟨?_,Nat.zero_le _,id⟩;simp[Instr.sliceBounds]
  | some x=>
   dsimp only at hb;cases hx:ek ev x len with
   | none=>rw[hx] at hb;cases hb
   | some l'=>
    rw[hx] at hb;cases hb;obtain⟨r,hle⟩:=iG (P:=P) (w:=w) hx (hlo x rfl) .sliceB;refine⟨?_,hle,id⟩;simp[Instr.sliceBounds,r]
 | some y=>
  dsimp only at hb;cases hy:ek ev y cap with
  | none=>rw[hy] at hb;cases hb
  | some h'=>
   rw[hy] at hb;dsimp only at hb;obtain⟨r,hle⟩:=iG (P:=P) (w:=w) hy (hhi y rfl) (if isSlice then .sliceAcap else .sliceAlen);cases lo with
   | none=>
    dsimp only at hb;cases hb;refine⟨?_,Nat.zero_le _,fun _=>hle⟩;simp[Instr.sliceBounds,r]
   | some x=>
    dsimp only at hb;cases hx:ek ev x h' with
    | none=>rw[hx] at hb;cases hb
    | some l'=>
     rw[hx] at hb;cases hb;obtain⟨r2,hle2⟩:=iG (P:=P) (w:=w) hx (hlo x rfl) .sliceB;refine⟨?_,hle2,fun _=>hle⟩;simp[Instr.sliceBounds,r,r2]
theorem me {ev:Operand->Option AV} {f:Operand->Value} {len cap l h m:Nat} {lo:Option Operand} {hi mx:Operand} (hm:ek ev mx cap=some m) (hb:cX ev m m lo (some hi)=some (l,h))
  (hlo:∀x,lo=some x->∀v,ev x=some v->VR ρ v (f x)) (hhi:∀v,ev hi=some v->VR ρ v (f hi)) (hmx:∀v,ev mx=some v->VR ρ v (f mx)) (isSlice:Bool):
  (Instr.sliceBounds isSlice len cap (lo.map f) (some (f hi)) (some (f mx))).run P w= .ok (l,h,m) w/\l<=h/\h<=m/\m<=cap:=by
 obtain⟨r0,hle0⟩:=iG (P:=P) (w:=w) hm hmx (if isSlice then .slice3Acap else .slice3Alen);unfold cX at hb;dsimp only at hb;cases hy:ek ev hi m with
 | none=>rw[hy] at hb;cases hb
 | some h'=>
  rw[hy] at hb;dsimp only at hb;obtain⟨r,hle⟩:=iG (P:=P) (w:=w) hy hhi .slice3B;cases lo with
  | none=>
   dsimp only at hb;cases hb;refine⟨?_,Nat.zero_le _,hle,hle0⟩;simp[Instr.sliceBounds,r,r0]
  | some x=>
   dsimp only at hb;cases hx:ek ev x h' with
   | none=>rw[hx] at hb;cases hb
   | some l'=>
    rw[hx] at hb;cases hb;obtain⟨r2,hle2⟩:=iG (P:=P) (w:=w) hx (hlo x rfl) .slice3C;refine⟨?_,hle2,hle,hle0⟩;simp[Instr.sliceBounds,r,r2,r0]
theorem wS {e:TypeId} {b:Pos} {off lo hi m:Nat} {v:AV} {l:Loc} (hl:ρ b=some l) (h:cut P e b off lo hi m=some v):
  ∃j,P.info? e=some j/\VR ρ v (.slice (some (if m=lo then(⟨l.cZ,l.sh+off,none⟩:Addr) else(⟨l.cZ,l.sh+off,none⟩:Addr).add (lo*j.size))) (hi-lo) (m-lo)):=by
 unfold cut at h;cases hj:P.info? e with
 | none=>rw[hj] at h;cases h
 | some j=>
  rw[hj] at h;cases h;refine⟨j,rfl,?_⟩;simp only[VR];refine⟨l,hl,?_⟩;rw[Addr.add_eq _ _ rfl]
  by_cases hm:m=lo
  ·have:Nat.beq m lo=true:=by rw[Nat.beq_eq];exact hm
   rw[if_pos hm,this];rfl
  have:Nat.beq m lo=false:=by
   cases hh:Nat.beq m lo with
   | false=>rfl
   | true=>rw[Nat.beq_eq] at hh;exact absurd hh hm
  rw[if_neg hm,this];simp only[cond_false,Nat.add_assoc]
section
variable {ev:Operand->Option AV} {f:Operand->Value} {t:TypeId} {lo hi mx:Option Operand} {v:AV}
theorem lM {e:TypeId} {b:Pos} {off len cap:Nat} {l:Loc} (hl:ρ b=some l) (h:cutAt P ev e b off len cap lo hi mx=some v) (isSlice:Bool)
  (hlo:∀x,lo=some x->∀v,ev x=some v->VR ρ v (f x)) (hhi:∀x,hi=some x->∀v,ev x=some v->VR ρ v (f x)) (hmx:∀x,mx=some x->∀v,ev x=some v->VR ρ v (f x)):
  ∃j l' h' m,(Instr.sliceBounds isSlice len cap (lo.map f) (hi.map f) (mx.map f)).run P w= .ok (l',h',m) w/\P.info? e=some j/\
   VR ρ v (.slice (some (if m=l' then(⟨l.cZ,l.sh+off,none⟩:Addr) else(⟨l.cZ,l.sh+off,none⟩:Addr).add (l'*j.size))) (h'-l') (m-l')):=by
 unfold cutAt at h;cases mx with
 | none=>
  dsimp only at h;cases hb:cX ev len cap lo hi with
  | none=>rw[hb] at h;cases h
  | some p=>
   obtain⟨l',h'⟩:=p;rw[hb] at h;obtain⟨r,_,_⟩:=g8 (P:=P) (w:=w) hb hlo hhi isSlice;obtain⟨j,hj,hv⟩:=wS hl h;exact⟨j,l',h',cap,r,hj,hv⟩
 | some x=>
  dsimp only at h;cases hm:ek ev x cap with
  | none=>rw[hm] at h;cases hi<;>cases h
  | some m=>
   cases hi with
   | none=>rw[hm] at h;cases h
   | some y=>
    rw[hm] at h;dsimp only at h;cases hb:cX ev m m lo (some y) with
    | none=>rw[hb] at h;cases h
    | some p=>
     obtain⟨l',h'⟩:=p;rw[hb] at h;obtain⟨r,_⟩:=me (P:=P) (w:=w) (len:=len) hm hb hlo (hhi y rfl) (hmx x rfl) isSlice;obtain⟨j,hj,hv⟩:=wS hl h;exact⟨j,l',h',m,r,hj,hv⟩
theorem ji {e:TypeId} {j:TypeInfo} {a:Addr} {len cap l h m:Nat} (hu:P.underlying t=some (.slice e)) (hj:P.info? e=some j) {lo hi mx:Option Value}
  (hb:(Instr.sliceBounds true len cap lo hi mx).run P w= .ok (l,h,m) w):
  (Instr.sliceAt t (.slice (some a) len cap) lo hi mx).run P w= .ok (.slice (some (if m=l then a else a.add (l*j.size))) (h-l) (m-l)) w:=by
 simp only[Instr.sliceAt,Instr.slice,sB_,run_underlying hu,rA,hb,bU hj,sP_];split<;>rfl
theorem xV {len a c l' h':Nat} (hac:a<=c) (hb:cX ev len a lo hi=some (l',h')):cX ev len c lo hi=some (l',h'):=by
 have up:∀y i,ek ev y a=some i->ek ev y c=some i:=by
  intro y i hy;unfold ek at hy⊢;split at hy
  ·rename_i k i' hv';simp only[a0] at hy⊢;split at hy
   ·rename_i hle;cases hy;rw[nE_] at hle;rw[if_pos (by rw[nE_];omega)]
   cases hy
  cases hy
 unfold cX at hb⊢;cases hi with
 | none=>exact hb
 | some y=>
  dsimp only at hb⊢;cases hy:ek ev y a with
  | none=>rw[hy] at hb;cases hb
  | some i=>rw[hy] at hb;rw[up y i hy];exact hb
theorem AJ {x:Operand} (h:gf P ev t x lo hi mx=some v)
  (hx:∀v,ev x=some v->VR ρ v (f x)) (hlo:∀x,lo=some x->∀v,ev x=some v->VR ρ v (f x)) (hhi:∀x,hi=some x->∀v,ev x=some v->VR ρ v (f x)) (hmx:∀x,mx=some x->∀v,ev x=some v->VR ρ v (f x)):
  ∃z,(Instr.sliceAt t (f x) (lo.map f) (hi.map f) (mx.map f)).run P w= .ok z w/\VR ρ v z:=by
 unfold gf at h;split at h
 ·rename_i e b off len cap hu hev;have hv:=hx _ hev;simp only[VR] at hv;obtain⟨l,hl,hf⟩:=hv;obtain⟨j,l',h',m,r,hj,hr⟩:=lM (w:=w) hl h true hlo hhi hmx;rw[hf];exact⟨_,ji hu hj r,hr⟩
 ·rename_i e b off len sz hu hev;have hv:=hx _ hev;cases mx with
  | none=>
   dsimp only at h;cases hb:cX ev len len lo hi with
   | none=>rw[hb] at h;cases h
   | some p=>
    obtain⟨l',h'⟩:=p;cases hj:P.info? e with
    | none=>rw[hb,hj] at h;cases h
    | some j=>
     rw[hb,hj] at h;simp only[a0] at h;split at h
     ·rename_i hsz;rw[Nat.beq_eq] at hsz;cases h;obtain⟨r,hle,hle2⟩:=g8 (P:=P) (w:=w) hb hlo hhi true;have hle2:=hle2 (nR_ _)
      have wider:∀c,len<=c->(Instr.sliceBounds true len c (lo.map f) (hi.map f) none).run P w= .ok (l',h',c) w:=by
       intro c hc
       have hb':cX ev len c lo hi=some (l',h'):=by
        have up:∀y i,ek ev y len=some i->ek ev y c=some i:=by
         intro y i hy;unfold ek at hy⊢;split at hy
         ·rename_i k i' hv';simp only[a0] at hy⊢;split at hy
          ·rename_i hle;cases hy;rw[nE_] at hle;rw[if_pos (by rw[nE_];omega)]
          cases hy
         cases hy
        unfold cX at hb⊢;cases hi with
        | none=>exact hb
        | some y=>
         dsimp only at hb⊢;cases hy:ek ev y len with
         | none=>rw[hy] at hb;cases hb
         | some i=>rw[hy] at hb;rw[up y i hy];exact hb
       exact(g8 (P:=P) (w:=w) hb' hlo hhi true).1
      simp only[VR] at hv;obtain⟨l,hl,⟨c,hf,hc,hcells⟩ | ⟨hlen0,a,hf⟩⟩:=hv
      ·rw[hf];refine⟨_,ji hu hj (wider c hc),?_⟩;simp only[VR];refine⟨l,hl,?_⟩
       by_cases hcl:c=l'
       ·right;refine⟨by omega,(if c=l' then(⟨l.cZ,l.sh+off,none⟩:Addr) else(⟨l.cZ,l.sh+off,none⟩:Addr).add (l'*j.size)),?_⟩;have e1:h'-l'=0:=by omega
        have e2:c-l'=0:=by omega
        rw[e1,e2]
       left;refine⟨c-l',?_,by omega,?_⟩
       ·rw[if_neg hcl,Addr.add_eq _ _ rfl,hsz,Nat.add_assoc]
       rw[<-hcells];have:c=l'+(c-l'):=by omega
       conv=>rhs;rw[this,Nat.add_mul]
       omega
      rw[hf];subst hlen0;refine⟨_,ji hu hj (wider 0 (nR_ _)),?_⟩;simp only[VR];refine⟨l,hl,.inr ⟨by omega,(if 0=l' then a else a.add (l'*j.size)),?_⟩⟩;have e1:h'-l'=0:=by omega
      have e2:0-l'=0:=by omega
      rw[e1,e2]
     cases h
  | some m=>
   simp only[a0] at h;split at h
   ·cases h
   rename_i hne;simp only[VR] at hv;obtain⟨l,hl,⟨c,hf,hc,hcells⟩ | ⟨hlen0,a,hf⟩⟩:=hv
   ·
    obtain⟨j,l',h',m',r,hj,hr⟩:=lM (w:=w) hl h true hlo hhi hmx
    have r':(Instr.sliceBounds true len c (lo.map f) (hi.map f) (some (f m))).run P w= .ok (l',h',m') w:=by
     unfold cutAt at h;dsimp only at h;cases hm:ek ev m len with
     | none=>rw[hm] at h;cases hi<;>cases h
     | some m0=>
      cases hi with
      | none=>rw[hm] at h;cases h
      | some y=>
       rw[hm] at h;dsimp only at h;cases hb:cX ev m0 m0 lo (some y) with
       | none=>rw[hb] at h;cases h
       | some p=>
        obtain⟨l0,h0⟩:=p
        have hm':ek ev m c=some m0:=by
         unfold ek at hm⊢;split at hm
         ·simp only[a0] at hm⊢;split at hm
          ·rename_i hle;cases hm;rw[nE_] at hle;rw[if_pos (by rw[nE_];omega)]
          cases hm
         cases hm
        obtain⟨r1,_⟩:=me (P:=P) (w:=w) (len:=len) hm hb hlo (hhi y rfl) (hmx m rfl) true;obtain⟨r2,_⟩:=me (P:=P) (w:=w) (len:=len) hm' hb hlo (hhi y rfl) (hmx m rfl) true;rw[show(Option.map f (some m))=some (f m) from rfl] at r;rw[show(Option.map f (some y))=some (f y) from rfl] at r⊢;rw[r1] at r;cases r;exact r2
    rw[hf];exact⟨_,ji hu hj r',hr⟩
   subst hlen0;exact absurd rfl hne
 ·rename_i e b off len a sz hu hev;have hv:=hx _ hev;simp only[VR] at hv;obtain⟨l,hl,c,hf,hac,hcells⟩:=hv;cases mx with
  | some _=>cases h
  | none=>
   dsimp only at h;cases hb:cX ev len a lo hi with
   | none=>rw[hb] at h;cases h
   | some p=>
    obtain⟨l',h'⟩:=p;cases hj:P.info? e with
    | none=>rw[hb,hj] at h;cases h
    | some j=>
     rw[hb,hj] at h;simp only[a0] at h;split at h
     ·rename_i hc;cases h;simp only[bA_,Nat.beq_eq,nE_] at hc;obtain⟨hsz,hla,hlt⟩:=hc;obtain⟨r,hle,hle2⟩:=g8 (P:=P) (w:=w) (xV hac hb) hlo hhi true;rw[hf];refine⟨_,ji hu hj r,?_⟩;simp only[VR];refine⟨l,hl,c-l',?_,by omega,?_⟩
      ·rw[if_neg (by omega),Addr.add_eq _ _ rfl,hsz,Nat.add_assoc]
      rw[<-hcells];have:c=l'+(c-l'):=by omega
      conv=>rhs;rw[this,Nat.add_mul]
      omega
     cases h
 ·rename_i e hu hev;have hv:=hx _ hev;simp only[VR] at hv;cases mx with
  | some _=>cases h
  | none=>
   dsimp only at h;cases hb:cX ev 0 0 lo hi with
   | none=>rw[hb] at h;cases h
   | some p=>
    obtain⟨l',h'⟩:=p;cases hje:P.info? e with
    | none=>rw[hb,hje] at h;cases h
    | some je=>
    rw[hb,hje] at h;cases h;obtain⟨r,hle,hle2⟩:=g8 (P:=P) (w:=w) hb hlo hhi true;have hle2:=hle2 (nR_ _);have:l'=0:=by omega
    have:h'=0:=by omega
    subst_vars
    rw[hv];refine⟨.slice none 0 0,?_,by simp only[VR]⟩;simp[Instr.sliceAt,Instr.slice,run_underlying hu,r,bU hje]
 ·rename_i n e b off hu hev;have hv:=hx _ hev;simp only[VR] at hv;obtain⟨l,hl,hf⟩:=hv;obtain⟨j,l',h',m,r,hj,hr⟩:=lM (w:=w) hl h false hlo hhi hmx;rw[hf];refine⟨_,?_,hr⟩;simp only[Instr.sliceAt,sB_,run_underlying hu,rA,Instr.sureAddr,sP_,r,bU hj]
 ·rename_i arr b off hu hev;have hv:=hx _ hev;simp only[VR] at hv;obtain⟨l,hl,hf⟩:=hv;split at h
  ·rename_i n e hua;obtain⟨j,l',h',m,r,hj,hr⟩:=lM (w:=w) hl h false hlo hhi hmx;rw[hf];refine⟨_,?_,hr⟩;simp only[Instr.sliceAt,Instr.slice,sB_,run_underlying hu,run_underlying hua,asAddr,rA,sP_,r,bU hj]
  cases h
 ·rename_i s hu hev;have hv:=hx _ hev;simp only[VR] at hv;obtain⟨bs,hf,hs⟩:=hv;cases mx with
  | some _=>cases h
  | none=>
   dsimp only at h;cases hb:cX ev (cD s) (cD s) lo hi with
   | none=>rw[hb] at h;cases h
   | some p=>
    obtain⟨l',h'⟩:=p;rw[hb] at h;cases h;rw[iP hs] at hb;obtain⟨r,hle,hle2⟩:=g8 (P:=P) (w:=w) hb hlo hhi false;rw[hf];refine⟨.string (bs.extract l' h'),?_,?_⟩
    ·simp[Instr.sliceAt,Instr.slice,run_underlying hu,r]
    simp only[VR];refine⟨_,rfl,?_⟩;unfold gh at hs⊢;rw[dp,dO,<-hs];rw[show(bs.extract l' h').data.toList=(bs.data.toList.drop l').take (h'-l') from Lib.extract_data bs l' h'];rw[List.map_take,List.map_drop]
 cases h
end
end
section
variable {P:Program} {ρ:cz} {w:World}
theorem vt {t:TypeId} {cs:List AV} {ys:Array Value} {off:Nat} {v:AV} (h:Dw P t cs off=some v) (hc:cG ρ cs ys.toList):∃y,(part t ys off).run P w= .ok y w/\VR ρ v y:=by
 unfold Dw at h;split at h
 ·rename_i n ha;cases h;obtain⟨d,i,hu,hi,hsz,hd⟩:=qe ha;refine⟨.agg (ys.extract off (off+n)),?_,?_⟩
  ·simp only[part,sB_,eE hu,hd,rA,if_true,bU hi,hsz,sP_]
  simp only[VR];refine⟨_,rfl,?_⟩;rw[dp,dO,Array.toList_extract];have:=(hc.drop off).take n;show cG ρ _ ((ys.toList.drop off).take (off+n-off));rw[show off+n-off=n by omega];exact this
 ·rename_i ha;obtain⟨d,i,hu,hi,hd⟩:=tX ha;rw[fC] at h;obtain⟨y,h1,h2⟩:=hc.get h;refine⟨y,?_,h2⟩;have:ys[off]?=some y:=by rw[<-aT_];exact h1
  simp only[part,sB_,eE hu,hd,rA,Bool.false_eq_true,if_false,this,sP_]
 cases h
theorem fK {ev:Operand->Option AV} {f:Operand->Value}:∀{l:List Operand} {vs:List AV},cF ev l=some vs->(∀x∈l,∀v,ev x=some v->VR ρ v (f x))->cG ρ vs (l.map f)
 | [],vs,h,_=>by rw[gL] at h;cases h;exact cG.nil
 | x::l,vs,h,hE=>by
  obtain⟨y,r,h1,h2,rfl⟩:=fX h;exact cG.cons (hE x (by simp) y h1) (fK h2 fun z hz=>hE z (by simp[hz]))
theorem ET {t ty:TypeId} {x:AV} {y:Value} {n:Nat} {ts:Array TypeId} (h:uY P t x=some n) (hx:VR ρ x y) (ht:ts[0]?=some t):(Builtin.len_ ts ty #[y]).run P w= .ok (.int .i64 (Int.ofNat n)) w:=by
 unfold uY at h;split at h
 ·rename_i s hu;cases h;simp only[VR] at hx;obtain⟨bs,rfl,hs⟩:=hx;rw[iP hs];simp[Builtin.len_,ht,run_underlying hu,goInt]
 ·rename_i m e hu;cases h;simp[Builtin.len_,ht,run_underlying hu,goInt]
 ·rename_i e b off m cap hu;cases h;obtain⟨a,c,rfl⟩:=VR.iN hx;simp[Builtin.len_,ht,run_underlying hu,goInt]
 ·rename_i e hu;cases h;simp only[VR] at hx;subst hx;simp[Builtin.len_,ht,run_underlying hu,goInt]
 ·rename_i k e hu;cases h;simp only[VR] at hx;subst hx;simp[Builtin.len_,ht,run_underlying hu,goInt]
 cases h
theorem vk {x:AV} {y:Value} (hx:VR ρ x y) (h:x≠ .nilPtr/\x≠ .nilIface/\x≠ .nilFunc/\(∀l,x≠ .yield l)/\x≠ .any/\(∀n,x≠ .tok n)) (f:Operand->Value) (o:Oper) (z:Operand) (ho:o.op= .nilCheck z) (hf:f z=y):
  (execOp f o).run P w= .ok (.value y) w:=by
 have key:(y≠ .pointer none)/\y≠ .nilIface/\y≠ .nilFunc/\∀n a b,y≠ .func (.method n) a b:=by
  obtain⟨h1,h2,h3,h4,h5,h6⟩:=h;cases x with
  | tok n=>exact absurd rfl (h6 n)
  | any=>exact absurd rfl h5
  | nilPtr=>exact absurd rfl h1
  | nilIface=>exact absurd rfl h2
  | nilFunc=>exact absurd rfl h3
  | yield l=>exact absurd rfl (h4 l)
  | slice b off len cap=>obtain⟨_,_,rfl⟩:=VR.iN hx;simp
  | _=>simp only[VR] at hx;first | (subst hx;simp;done) | (obtain⟨_,_,rfl⟩:=hx;simp;done) | (obtain⟨_,rfl,_⟩:=hx;simp;done) | (obtain⟨_,_,rfl,_⟩:=hx;simp;done)
 obtain⟨k1,k2,k3,k4⟩:=key;simp only[execOp,ho,hf,k1,k2,k3,k4];rfl
theorem vA {ev:Operand->Option AV} {f:Operand->Value} {o:Oper} {v:AV} (hE:ER ρ ev f o.op) (h:dg P ev o.op=some v):
  ∃x,(execOp f o).run P w= .ok (.value x) w/\VR ρ v x:=by
 cases ho:o.op with
 | move x=>
  rw[ho] at h hE;exact⟨f x,by simp[execOp,ho],hE x (by simp[Op.operands]) v h⟩
 | assign x=>
  rw[ho] at h hE;exact⟨f x,by simp[execOp,ho],hE x (by simp[Op.operands]) v h⟩
 | pick c a b=>
  rw[ho] at h hE;simp only[dg] at h;split at h
  ·rename_i hc;have:=hE c (by simp[Op.operands]) _ hc;simp only[VR] at this;exact⟨f a,by simp[execOp,ho,this,asBool],hE a (by simp[Op.operands]) v h⟩
  ·rename_i hc;have:=hE c (by simp[Op.operands]) _ hc;simp only[VR] at this;exact⟨f b,by simp[execOp,ho,this,asBool],hE b (by simp[Op.operands]) v h⟩
  cases h
 | build t parts=>
  rw[ho] at h hE;obtain⟨x,h1,h2⟩:=zt (ρ:=ρ) (w:=w) (f:=f) (fun p hp u hu=>hE p.2 (by simp only[Op.operands,List.mem_toArray,List.mem_map];exact⟨p,hp,rfl⟩) u hu) h;exact⟨x,by simp only[execOp,ho,sB_,h1,rA,sP_],h2⟩
 | nilCheck x=>
  rw[ho] at h hE;simp only[dg] at h;split at h
  ·cases h
  ·cases h
  ·cases h
  ·cases h
  ·cases h
  ·cases h
  rename_i n1 n2 n3 n4 n5 n6;have hv:=hE x (by simp[Op.operands]) v h;exact⟨f x,vk hv ⟨fun e=>n1 (by rw[h,e]),fun e=>n2 (by rw[h,e]),fun e=>n3 (by rw[h,e]),(fun l e=>n4 l (by rw[h,e])),(fun e=>n5 (by rw[h,e])),fun k e=>n6 k (by rw[h,e])⟩ f o x ho rfl,hv⟩
 | binOp op t x y ty=>
  rw[ho] at h hE;simp only[dg] at h;split at h
  ·rename_i a b ha hb;obtain⟨z,h1,h2,h3⟩:=BB (P:=P) (w:=w) (hE x (by simp[Op.operands]) a ha) (hE y (by simp[Op.operands]) b hb) x y h;exact⟨z,by simp only[execOp,ho,sB_,h1,h2,rA,sP_],h3⟩
  cases h
 | unOp op t x=>
  rw[ho] at h hE;simp only[dg] at h;split at h
  ·rename_i b hb;cases h;have:=hE x (by simp[Op.operands]) _ hb;simp only[VR] at this;exact⟨.bool (!b),by simp[execOp,ho,this,Op.unary],by simp only[VR];rw[cond_not]⟩
  ·rename_i k n hb;cases h;have:=hE x (by simp[Op.operands]) _ hb;simp only[VR] at this;refine⟨.int k (k.wrap (0-n)),?_,by simp only[VR];rw[xM];rfl⟩;simp only[execOp,ho,this,Op.unary,Op.intArith,sB_,sP_,rA]
  ·rename_i k n hb;cases h;have:=hE x (by simp[Op.operands]) _ hb;simp only[VR] at this;refine⟨.int k (k.wrap (BitVec.ofInt k.bits (if k.signed then-1 else k.max) ^^^ BitVec.ofInt k.bits n).toNat),?_,by simp only[VR]⟩;simp only[execOp,ho,this,Op.unary,Op.intBits,sB_,sP_,rA]
  cases h
 | convert src dst x=>
  rw[ho] at h hE;simp only[dg] at h;split at h
  ·rename_i u1 u2 u3 k1 k k2 n e1 e2 e3;cases h;have:=hE x (by simp[Op.operands]) _ e3;simp only[VR] at this;refine⟨.int k (k.wrap n),?_,by simp only[VR];rw[xM]⟩;simp[execOp,ho,this,convert,run_underlying e1,run_underlying e2,Conv.intToInt]
  ·rename_i u1 u2 u3 s e1 e2 e3;cases h;have hv:=hE x (by simp[Op.operands]) _ e3;have hv':=hv;simp only[VR] at hv';obtain⟨bs,hf,hs⟩:=hv';refine⟨f x,?_,hv⟩;rw[hf];simp[execOp,ho,hf,convert,run_underlying e1,run_underlying e2]
  cases h
 | makeInterface t x=>
  rw[ho] at h hE;simp only[dg] at h;split at h
  ·cases h
  ·rename_i u1 u2 d u hn e1 e2;cases h;have hv:=hE x (by simp[Op.operands]) _ e2;refine⟨.iface t (f x),?_,by simp only[VR];exact⟨_,rfl,hv⟩⟩;simp only[execOp,ho,Instr.makeInterface,sB_,run_underlying e1,rA];cases d<;>first | rfl | exact absurd rfl (hn _)
  cases h
 | makeFunc fn first captured=>
  rw[ho] at h hE;simp only[dg] at h;split at h
  ·rename_i u1 u2 u3 g a b e1 e2;cases h;have ha:=fK (f:=f) e1 (fun x hx u hu=>hE x (by simp only[Op.operands,Array.mem_append];exact .inl (by simpa using hx)) u hu);have hb:=fK (f:=f) e2 (fun x hx u hu=>hE x (by simp only[Op.operands,Array.mem_append];exact .inr (by simpa using hx)) u hu);refine⟨.func (.func g) (first.map f) (captured.map f),?_,by simp only[VR];exact⟨_,_,rfl,by simpa using ha,by simpa using hb⟩⟩;simp[execOp,ho,Instr.makeFunc]
  cases h
 | slice t x lo hi mx=>
  rw[ho] at h hE;obtain⟨z,h1,h2⟩:=AJ (P:=P) (w:=w) (f:=f) h (hE x (by simp[Op.operands])) (fun y hy=>hE y (by subst hy;simp[Op.operands])) (fun y hy=>hE y (by subst hy;simp[Op.operands])) (fun y hy=>hE y (by subst hy;simp[Op.operands]));exact⟨z,by simp only[execOp,ho,sB_,h1,rA,sP_],h2⟩
 | fieldAddr s x i=>
  rw[ho] at h hE;simp only[dg] at h;split at h
  ·rename_i fs b off hs hx;have hv:=hE x (by simp[Op.operands]) _ hx;simp only[VR] at hv;obtain⟨l,hl,hf⟩:=hv;split at h
   ·rename_i fd hfd;split at h
    ·rename_i j hj;simp only[a0] at h;split at h
     ·cases h
     rename_i hne;cases h;have hz:¬j.size=0:=fun e=>hne (by rw[Nat.beq_eq];exact e)
     refine⟨.pointer (some ⟨l.cZ,l.sh+(off+fd.offset),none⟩),?_,by simp only[VR];exact⟨l,hl,rfl⟩⟩;simp[execOp,ho,Instr.fieldAt,run_underlying (mD hs),hfd,hf,Instr.sureAddr,fieldPlace,bU hj,hz,Addr.add_eq,Nat.add_assoc]
    cases h
   cases h
  cases h
 | field t x i=>
  rw[ho] at h hE;simp only[dg] at h;split at h
  ·rename_i fs cs hs hx;have hv:=hE x (by simp[Op.operands]) _ hx;simp only[VR] at hv;obtain⟨ys,hf,hc⟩:=hv;split at h
   ·rename_i fd hfd;obtain⟨y,h1,h2⟩:=vt (P:=P) (w:=w) h hc;refine⟨y,?_,h2⟩;simp[execOp,ho,Instr.field,run_underlying (mD hs),hfd,hf,asAgg,h1]
   cases h
  cases h
 | indexAddr t x i=>
  rw[ho] at h hE;simp only[dg] at h;split at h
  ·rename_i u1 u2 u3 e b off len cap k n hu hx hi;have hv:=hE x (by simp[Op.operands]) _ hx;have hn:=hE i (by simp[Op.operands]) _ hi;simp only[VR] at hn;split at h
   ·rename_i j hj;simp only[a0] at h;split at h
    ·rename_i hlt;cases h;rw[nE_] at hlt;have hlt:n<len:=hlt;have hin:(0:Int)<=Int.ofNat n/\Int.ofNat n<(len:Int):=⟨Int.natCast_nonneg _,Int.ofNat_lt.2 hlt⟩
     have go:∀(a:Addr) (c:Nat),f x= .slice (some a) len c->(execOp f o).run P w= .ok (.value (.pointer (some (a.add (n*j.size))))) w:=by
      intro a c hf;simp only[execOp,ho,Instr.indexAt,hn,hf,asIntOf,sB_,sP_,run_underlying hu,rA];rw[if_pos hin];simp[bU hj]
     cases cap with
     | known c=>
      simp only[VR] at hv;obtain⟨l,hl,hf⟩:=hv;refine⟨_,go _ _ hf,?_⟩;simp only[VR];exact⟨l,hl,by rw[Addr.add_eq _ _ rfl,Nat.add_assoc]⟩
     | least a sz=>
      simp only[VR] at hv;obtain⟨l,hl,c,hf,_⟩:=hv;refine⟨_,go _ _ hf,?_⟩;simp only[VR];exact⟨l,hl,by rw[Addr.add_eq _ _ rfl,Nat.add_assoc]⟩
     | upto sz=>
      simp only[VR] at hv;obtain⟨l,hl,⟨c,hf,_⟩ | ⟨h0,_⟩⟩:=hv
      ·refine⟨_,go _ _ hf,?_⟩;simp only[VR];exact⟨l,hl,by rw[Addr.add_eq _ _ rfl,Nat.add_assoc]⟩
      omega
    cases h
   cases h
  ·rename_i u1 u2 u3 m e b off k n hu hx hi;have hv:=hE x (by simp[Op.operands]) _ hx;have hn:=hE i (by simp[Op.operands]) _ hi;simp only[VR] at hn hv;obtain⟨l,hl,hf⟩:=hv;split at h
   ·rename_i j hj;simp only[a0] at h;split at h
    ·rename_i hlt;cases h;rw[nE_] at hlt;have hlt:n<m:=hlt;have hin:(0:Int)<=Int.ofNat n/\Int.ofNat n<(m:Int):=⟨Int.natCast_nonneg _,Int.ofNat_lt.2 hlt⟩;refine⟨.pointer (some ⟨l.cZ,l.sh+(off+n*j.size),none⟩),?_,by simp only[VR];exact⟨l,hl,rfl⟩⟩;simp only[execOp,ho,Instr.indexAt,hn,hf,asIntOf,sB_,sP_,run_underlying hu,rA,Instr.sureAddr];rw[if_pos hin];simp[bU hj,Addr.add_eq,Nat.add_assoc]
    cases h
   cases h
  cases h
 | index t x i=>
  rw[ho] at h hE;simp only[dg] at h;split at h
  ·rename_i u1 u2 u3 m e cs k n hu hx hi;have hv:=hE x (by simp[Op.operands]) _ hx;have hn:=hE i (by simp[Op.operands]) _ hi;simp only[VR] at hn hv;obtain⟨ys,hf,hc⟩:=hv;simp only[a0] at h;split at h
   ·rename_i hlt;rw[nE_] at hlt;have hlt:n<m:=hlt;have hin:(0:Int)<=Int.ofNat n/\Int.ofNat n<(m:Int):=⟨Int.natCast_nonneg _,Int.ofNat_lt.2 hlt⟩;split at h
    ·rename_i j hj;obtain⟨y,h1,h2⟩:=vt (P:=P) (w:=w) h hc;refine⟨y,?_,h2⟩;simp only[execOp,ho,Instr.index,hn,hf,asIntOf,sB_,sP_,run_underlying hu,rA];rw[if_pos hin];simp[bU hj,h1]
    cases h
   cases h
  ·rename_i u1 u2 u3 s k n hu hx hi;have hv:=hE x (by simp[Op.operands]) _ hx;have hn:=hE i (by simp[Op.operands]) _ hi;simp only[VR] at hn hv;obtain⟨bs,hf,hs⟩:=hv;split at h
   ·rename_i c hc;cases h;rw[fC] at hc;unfold gh at hs;rw[<-hs,gM_] at hc;cases hb:bs.data.toList[n]? with
    | none=>rw[hb] at hc;cases hc
    | some bt=>
     rw[hb] at hc;cases hc;have hb':bs[n]?=some bt:=by rw[<-hb,aT_];rfl
     refine⟨.int .u8 (bt.toNat:Int),?_,by simp only[VR];rfl⟩;have h0:(0:Int)<=Int.ofNat n:=Int.natCast_nonneg _;simp only[execOp,ho,Instr.index,hn,hf,asIntOf,sB_,sP_,run_underlying hu,rA];rw[if_pos h0,show(Int.ofNat n).toNat=n from rfl,hb'];rfl
   cases h
  cases h
 | typeAssert x xt ty ok=>
  rw[ho] at h hE;simp only[dg] at h
  have zero:∀{v:AV},((eR P ty).map fun z=>AV.tuple [z,.bool false])=some v->∃z,(zeroValue ty).run P w= .ok z w/\VR ρ v (.tuple #[z,.bool false]):=fun {v} hz=>by
   cases hq:eR P ty with
   | none=>rw[hq] at hz;cases hz
   | some z=>
    rw[hq] at hz;cases hz;obtain⟨i,y,hi,hy,hv⟩:=oT hq;refine⟨y,by simp[zeroValue,typeInfo,hi,hy],?_⟩;simp only[VR];exact⟨_,rfl,cG.cons (hv ρ) (cG.cons (by simp only[VR]) cG.nil)⟩
  split at h
  ·cases h
  ·rename_i u1 u2 d u v' hn e1 e2;have hv:=hE x (by simp[Op.operands]) _ e2;simp only[VR] at hv;obtain⟨y,hf,hv⟩:=hv;rw[a0] at h;split at h
   ·rename_i hu;have:=nB hu;subst this;cases ok with
    | true=>
     simp only[cond_true] at h;cases h;refine⟨.tuple #[y,.bool true],?_,by simp only[VR];exact⟨_,rfl,cG.cons hv (cG.cons (by simp only[VR]) cG.nil)⟩⟩;simp only[execOp,ho,Instr.typeAssert,hf,sB_,run_underlying e1,rA];cases d<;>first | exact absurd rfl (hn _) | rfl | simp
    | false=>
     simp only[cond_false] at h;cases h;refine⟨y,?_,hv⟩;simp only[execOp,ho,Instr.typeAssert,hf,sB_,run_underlying e1,rA];cases d<;>first | exact absurd rfl (hn _) | rfl | simp
   rename_i hu;have hne:¬u=ty:=fun e=>hu (by rw[e];exact Nat.beq_refl _)
   cases ok with
   | true=>
    obtain⟨z,hz,hvz⟩:=zero h;refine⟨_,?_,hvz⟩;simp only[execOp,ho,Instr.typeAssert,hf,sB_,run_underlying e1,rA];cases d<;>first | exact absurd rfl (hn _) | rfl | simp[hne,hz]
   | false=>cases h
  ·rename_i u1 u2 d hn e1 e2;have hv:=hE x (by simp[Op.operands]) _ e2;simp only[VR] at hv;cases ok with
   | true=>
    obtain⟨z,hz,hvz⟩:=zero h;refine⟨_,?_,hvz⟩;simp only[execOp,ho,Instr.typeAssert,hv,sB_,run_underlying e1,rA];cases d<;>first | exact absurd rfl (hn _) | rfl | simp[hz]
   | false=>cases h
  cases h
 | extract x i=>
  rw[ho] at h hE;simp only[dg] at h;split at h
  ·rename_i vs hx;have hv:=hE x (by simp[Op.operands]) _ hx;simp only[VR] at hv;obtain⟨ys,hf,hc⟩:=hv;rw[fC] at h;obtain⟨y,h1,h2⟩:=hc.get h;have:ys[i]?=some y:=by rw[<-aT_];exact h1
   exact⟨y,by simp[execOp,ho,Instr.extract,hf,this],h2⟩
  cases h
 | call c=>
  rw[ho] at h hE;simp only[dg] at h;split at h
  ·rename_i hcal;split at h
   ·rename_i u1 u2 t x e1 e2;split at h
    ·rename_i u hu;cases hl:uY P t u with
     | none=>rw[hl] at h;cases h
     | some n=>
      rw[hl] at h;cases h;have hargs:c.args= #[x]:=by rw[<-Array.toList_inj];exact e2
      have hv:=hE x (by simp[Op.operands,Call.operands,hcal,hargs]) u hu;refine⟨.int .i64 (Int.ofNat n),?_,by simp only[VR]⟩;have:=ET (P:=P) (w:=w) (ty:=o.type) hl hv e1;simp[execOp,ho,resolve,hcal,hargs,invoke,builtin,this]
    cases h
   cases h
  ·rename_i hcal;split at h
   ·rename_i u1 u2 t x e1 e2;split at h
    ·rename_i u3 u4 e u hu hx;have hargs:c.args= #[x]:=by rw[<-Array.toList_inj];exact e2
     have hv:=hE x (by simp[Op.operands,Call.operands,hcal,hargs]) u hx;unfold K9 at h;split at h
     ·rename_i b off len k;cases h;simp only[VR] at hv;obtain⟨l,hl,hf⟩:=hv;refine⟨.int .i64 (Int.ofNat k),?_,by simp only[VR]⟩;simp[execOp,ho,resolve,hcal,hargs,invoke,builtin,Builtin.cap_,e1,run_underlying hu,hf,goInt]
     ·rename_i b off len a sz;cases h;simp only[VR] at hv;obtain⟨l,hl,k,hf,hk,_⟩:=hv;refine⟨.int .i64 (Int.ofNat k),?_,by simp only[VR];exact⟨k,rfl,hk⟩⟩;simp[execOp,ho,resolve,hcal,hargs,invoke,builtin,Builtin.cap_,e1,run_underlying hu,hf,goInt]
     ·cases h;simp only[VR] at hv;refine⟨.int .i64 0,?_,by simp only[VR]⟩;simp[execOp,ho,resolve,hcal,hargs,invoke,builtin,Builtin.cap_,e1,run_underlying hu,hv,goInt]
     cases h
    cases h
   cases h
  ·rename_i hcal;split at h
   ·rename_i u1 x y e2;split at h
    ·rename_i a b ha hb;have hargs:c.args= #[x,y]:=by rw[<-Array.toList_inj];exact e2
     have hva:=hE x (by simp[Op.operands,Call.operands,hcal,hargs]) a ha;have hvb:=hE y (by simp[Op.operands,Call.operands,hcal,hargs]) b hb;unfold Kn at h;split at h
     ·rename_i k n k' m;simp only[VR] at hva hvb;simp only[a0] at h;split at h
      ·cases h;refine⟨.int k (if m<n then m else n),?_,by simp only[VR,eo,decide_eq_true_eq]⟩;simp[execOp,ho,resolve,hcal,hargs,invoke,builtin,hva,hvb,run_min_int2]
      cases h
     cases h
    cases h
   cases h
  ·rename_i hcal;split at h
   ·rename_i u1 x y e2;split at h
    ·rename_i a b ha hb;have hargs:c.args= #[x,y]:=by rw[<-Array.toList_inj];exact e2
     have hva:=hE x (by simp[Op.operands,Call.operands,hcal,hargs]) a ha;have hvb:=hE y (by simp[Op.operands,Call.operands,hcal,hargs]) b hb;unfold Km at h;split at h
     ·rename_i k n k' m;simp only[VR] at hva hvb;simp only[a0] at h;split at h
      ·cases h;refine⟨.int k (if m>n then m else n),?_,by simp only[VR,eo,decide_eq_true_eq]⟩;simp[execOp,ho,resolve,hcal,hargs,invoke,builtin,hva,hvb,run_max_int2]
      cases h
     cases h
    cases h
   cases h
  cases h
 | _=>rw[ho] at h;simp[dg] at h
end
inductive HR where
 | val (v:AV) (σ:aD)
 | skip (σ:aD)
 | enter (f:Nat) (args:List AV) (σ:aD)
 | round (l:Pos) (args:List AV) (σ:aD)
 | iU (v:AV) (σ:aD)
 | err (n:Nat)
def vY (P:Program) (σ:aD) (t:TypeId) (x v:AV):Option aD:=
 match x,cC v with
 | .ptr b off,some cs=>
  match σ.m.get b,P.info? t with
  | some (.row cells e false),some j=>
   bif Nat.beq (cD cs) j.size && Nat.ble (off+j.size) (cD cells) && cj cs then some (σ.setObj b (.row (dA cs cells off) e false)) else none
  | some (.own cells e),some j=>
   bif Nat.beq (cD cs) j.size && Nat.ble (off+j.size) (cD cells) && cj cs then some (σ.setObj b (.own (dA cs cells off) e)) else none
  | _,_=>none
 | _,_=>none
def nC (σ:aD) (sz:Nat):AV->Option (Nat×List AV)
 | .aK=>some (0,[])
 | .slice b off len _=>match σ.m.get b with
  | some (.row cells _ _)=>bif Nat.ble (off+len*sz) (cD cells) then some (len,takeN (dy cells off) (len*sz)) else none
  | _=>none
 | .str s=>bif Nat.beq sz 1 then some (cD s,wy (fun c=>.int .u8 (Int.ofNat c)) s) else none
 | _=>none
def dj (P:Program) (t:Option TypeId):Bool:=
 match t with
 | some t=>match P.underlying t with
  | some (.slice _) | some .string=>true
  | _=>false
 | none=>true
def grow (σ:aD) (e:Nat) (cs:List AV) (len sz:Nat):HR:=
 .val (.slice σ.next 0 len (.upto sz)) (σ.alloc (.row cs e false))
def fl (P:Program) (σ:aD) (ts:Array TypeId) (s x:AV):HR:=
 match ts[0]? with
 | some t=>match P.underlying t with
  | some (.slice e)=>match P.info? e with
   | some j=>
    bif dj P ts[1]? && Nat.ble 1 j.size && Nat.ble j.bytes 65536 then
     match nC σ j.size x with
     | some (n,news)=>
      bif cj news && Nat.ble n 1048576 && (P.info? e).any (fun j=>(j.zero.bind ow).any fun z=>(cC z).any fun cs=>Nat.beq (cD cs) j.size) then
       match s with
       | .aK=>bif Nat.beq n 0 then .val .aK σ else grow σ e news n j.size
       | .slice b off len (.known c)=>
        bif Nat.ble (len+n) c then
         match σ.m.get b with
         | some (.row cells e' false)=>
          bif Nat.ble (off+len*j.size+cD news) (cD cells) then .val (.slice b off (len+n) (.known c)) (σ.setObj b (.row (dA news cells (off+len*j.size)) e' false)) else .err 21
         | _=>bif Nat.beq n 0 then .val (.slice b off len (.known c)) σ else .err 22
        else match σ.m.get b with
         | some (.row cells _ _)=>
          bif Nat.ble (off+len*j.size) (cD cells) && Nat.ble len 1048576 then grow σ e (fD (takeN (dy cells off) (len*j.size)) news) (len+n) j.size else .err 23
         | _=>.err 24
       | .slice b off len (.upto sz)=>
        bif Nat.beq n 0 then .val (.slice b off len (.upto sz)) σ else
        bif Nat.beq sz j.size && Nat.ble len 1048576 then
         match σ.m.get b with
         | some (.row cells e' false)=>
          bif Nat.ble 1 len && Nat.ble (off+len*j.size+cD news) (cD cells) then
           .val (.slice b off (len+n) (.upto sz)) (σ.setObj b (.row (dA news cells (off+len*j.size)) e' false))
          else bif Nat.ble (off+len*j.size) (cD cells) && Nat.beq e' e then grow (σ.drop b) e (fD (takeN (dy cells off) (len*j.size)) news) (len+n) j.size else .err 25
         | _=>.err 26
        else .err 27
       | _=>.err 28
      else .err 29
     | none=>.err 30
    else .err 31
   | none=>.err 32
  | _=>.err 33
 | none=>.err 34
def oV (P:Program) (σ:aD) (ts:Array TypeId) (s x:AV):HR:=
 match ts[0]?,ts[1]? with
 | some t,some t2=>match P.underlying t,P.underlying t2 with
  | some (.slice e),some (.int _)=>match P.info? e,(eR P e).bind cC,x with
   | some j,some zs,.int .i64 (.ofNat n)=>
    bif Nat.ble n 1048576 && (Nat.ble 1 n && (Nat.ble 1 j.size && (Nat.ble j.bytes 65536 && Nat.beq (cD zs) j.size))) then
     match s with
     | .aK=>grow σ e (eN zs n) n j.size
     | .slice b off len (.known c)=>
      bif Nat.ble (len+n) c then .err 37 else match σ.m.get b with
       | some (.row cells _ _)=>bif Nat.ble (off+len*j.size) (cD cells) && Nat.ble len 1048576 then grow σ e (fD (takeN (dy cells off) (len*j.size)) (eN zs n)) (len+n) j.size else .err 23
       | _=>.err 24
     | _=>.err 38
    else .err 39
   | _,_,_=>.err 46
  | _,_=>.err 47
 | _,_=>.err 48
def wP (P:Program) (σ:aD) (ts:Array TypeId) (d x:AV):HR:=
 match ts[0]? with
 | some t=>match P.underlying t with
  | some (.slice e)=>match P.info? e with
   | some j=>match nC σ j.size x,d with
    | some (n,news),.slice b off len _=>
     bif Nat.beq (Nat.min n len) 0 then .val (.int .i64 0) σ else
     match σ.m.get b with
     | some (.row cells e' false)=>
      bif cj (takeN news (Nat.min n len*j.size)) && Nat.ble 1 j.size && Nat.ble (off+cD (takeN news (Nat.min n len*j.size))) (cD cells) then
       .val (.int .i64 (Int.ofNat (Nat.min n len))) (σ.setObj b (.row (dA (takeN news (Nat.min n len*j.size)) cells off) e' false)) else .err 40
     | _=>.err 41
    | some (_,_),.aK=>.val (.int .i64 0) σ
    | _,_=>.err 42
   | none=>.err 43
  | _=>.err 44
 | none=>.err 45
def xZ (P:Program) (σ:aD) (ts:Array TypeId) (x:AV):Option aD:=
 match ts[0]? with
 | some t=>match P.underlying t with
  | some (.slice e)=>match x with
   | .aK=>some σ
   | .slice b off len _=>bif Nat.beq len 0 then some σ else
    match(eR P e).bind cC,σ.m.get b with
    | some zs,some (.row cells e' false)=>bif cj (eN zs len) && Nat.ble 1 (cD zs) && Nat.ble (off+cD (eN zs len)) (cD cells) then some (σ.setObj b (.row (dA (eN zs len) cells off) e' false)) else none
    | _,_=>none
   | _=>none
  | _=>none
 | none=>none
def yO (e:eJ) (es:List eJ) (i:Nat):List eJ:=CA e es i
def ur (es:List eJ):Nat->List eJ:=
 List.rec (motive:=fun _=>Nat->List eJ) (fun _=>[]) (fun x l ih n=>Nat.rec (motive:=fun _=>List eJ) l (fun m _=>x::ih m) n) es
def nZ (xs ys:List AV):Bool:=
 List.rec (motive:=fun _=>List AV->Bool) (fun ys=>List.rec (motive:=fun _=>Bool) true (fun _ _ _=>false) ys)
  (fun x _ ih ys=>List.rec (motive:=fun _=>Bool) false (fun y r _=>match qu x y with | some true=>ih r | _=>false) ys) xs ys
def sameKey (x y:AV):Bool:=
 match x,y with
 | .agg xs,.agg ys=>nZ xs ys
 | x,y=>match qu x y with | some b=>b | none=>false
def lY (P:Program) (σ:aD) (t:TypeId) (m k v:AV):Option aD:=
 match P.underlying t,m with
 | some (.map kt _),.map b=>match σ.m.get b with
  | some (.map es clock)=>bif plainKey P kt && lh P kt k then
    match nJ P kt k es 0 with
    | some (some (i,_))=>match nth es i with
     | some e=>bif sameKey e.key k then some (σ.setObj b (.map (yO {key:=k,val:=v,born:=e.born} es i) clock)) else none
     | none=>none
    | some none=>some (σ.setObj b (.map (fD es [{key:=k,val:=v,born:=clock}]) (clock+1)))
    | none=>none
   else none
  | _=>none
 | _,_=>none
def oY (P:Program) (σ:aD) (ts:Array TypeId) (m k:AV):Option aD:=
 match ts[0]? with
 | some t=>match P.underlying t,m with
  | some (.map kt _),.map b=>match σ.m.get b with
   | some (.map es clock)=>bif plainKey P kt && lh P kt k then
     match nJ P kt k es 0 with
     | some (some (i,_))=>some (σ.setObj b (.map (ur es i) clock))
     | some none=>some (σ.setObj b (.map es clock))
     | none=>none
    else none
   | _=>none
  | _,_=>none
 | none=>none
def uV (P:Program) (f:Nat):Bool:=
 match P.funcs[f]? with
 | some fn=>fn.body.isSome && !(fn.name == "runtime.NumGoroutine")
 | none=>false
def mI:rZ->Bool
 | .upto _=>false
 | _=>true
def rL (p q:Pos):Bool:=Nat.beq p q
def pk (σ:aD) (args:List AV):Option AV:=
 match args with
 | [.slice b off n cap,.slice b' off' n' cap']=>
  match σ.m.get b,σ.m.get b' with
  | some (.row _ _ false),some (.row cells' _ false)=>bif (bif rL b b' then false else true) && (mI cap && (mI cap' && Nat.ble 1 (cD cells'))) then some (.bool false) else none
  | _,_=>none
 | _=>none
def isNe (P:Program) (g:Nat):Bool:=
 match P.funcs[g]? with
 | some fn=>fn.name == "internal/abi.NoEscape"
 | none=>false
def zx (P:Program) (ov:Nat->Bool) (σ:aD) (f:AV) (args:List AV):HR:=
 match f with
 | .func g fi ca=>bif uV P g then .enter g (fD fi (fD args ca)) σ else bif ov g then(bif isNe P g then(match fD fi (fD args ca) with | [v]=>.val v σ | _=>.err 53) else(match pk σ (fD fi (fD args ca)) with | some v=>.val v σ | none=>.err 52)) else .err 50
 | .yield l=>.round l args σ
 | _=>.err 51
def Lv (len:Nat) (c:rZ):Bool:=
 match c with
 | .known c=>Nat.ble 1 c
 | .upto _=>Nat.ble 1 len
 | .least a _=>Nat.ble 1 a
def C5 (x:AV):Option AV:=
 match x with
 | .aK=>some .nilPtr
 | .slice b off len c=>bif Lv len c then some (.ptr b off) else none
 | _=>none
def DT (P:Program) (σ:aD) (t:Option TypeId) (p n:AV):Option (List Nat×aD):=
 match n with
 | .int .i64 (.ofNat n)=>bif Nat.beq n 0 then(match t,p with
   | some _,.nilPtr=>some ([],σ)
   | some _,.ptr _ _=>some ([],σ)
   | _,_=>none) else
  match t,p with
  | some t,.ptr b off=>match P.underlying t,σ.m.get b with
   | some (.pointer u),some (.row cells e false)=>bif Nat.beq e u && (Nat.beq (P.cellsOf u) 1 && (Nat.ble (off+n) (cD cells) && Nat.ble n 1152921504606846976)) then
     match cF wJ (takeN (dy cells off) n) with
     | some s=>some (s,σ.setObj b (.row cells e true))
     | none=>none
    else none
   | _,_=>none
  | _,_=>none
 | _=>none
def kT (P:Program) (σ:aD) (src dst:TypeId) (x:AV):HR:=
 match P.underlying src,P.underlying dst,x with
 | some .string,some (.slice e),.str s=>match P.underlying e with
  | some (.int .u8)=>bif Nat.beq (P.cellsOf e) 1 then .val (.slice σ.next 0 (cD s) (.upto 1)) (σ.alloc (.row (wy (fun c=>.int .u8 (Int.ofNat c)) s) e true)) else .err 26
  | _=>.err 25
 | _,_,_=>.err 24
def gQ (P:Program) (ov:Nat->Bool) (ev:Operand->Option AV) (σ:aD):Op->HR
 | .store t x y=>match ev x,ev y with
  | some a,some v=>match vY P σ t a v with
   | some σ'=>.skip σ'
   | none=>.err 10
  | _,_=>.err 11
 | .mapUpdate t m k x=>match ev m,ev k,ev x with
  | some a,some b,some v=>match lY P σ t a b v with
   | some σ'=>.skip σ'
   | none=>.err 19
  | _,_,_=>.err 20
 | .insert t m k x=>match ev m,ev k,ev x with
  | some a,some b,some v=>match lY P σ t a b v with
   | some σ'=>.skip σ'
   | none=>.err 19
  | _,_,_=>.err 20
 | .call c=>match c.callee with
  | .value f=>match ev f,wW ev c.args.toList with
   | some g,some args=>zx P ov σ g args
   | _,_=>.err 12
  | .builtin .append=>match wW ev c.args.toList with
   | some [s,x]=>bif dj P c.argTypes[1]? then fl P σ c.argTypes s x else oV P σ c.argTypes s x
   | _=>.err 13
  | .builtin .delete=>match wW ev c.args.toList with
   | some [m,k]=>match oY P σ c.argTypes m k with
    | some σ'=>.val (.tuple []) σ'
    | none=>.err 17
   | _=>.err 18
  | .builtin .copy=>match wW ev c.args.toList with
   | some [s,x]=>wP P σ c.argTypes s x
   | _=>.err 14
  | .builtin .clear=>match wW ev c.args.toList with
   | some [x]=>match xZ P σ c.argTypes x with
    | some σ'=>.val (.tuple []) σ'
    | none=>.err 21
   | _=>.err 22
  | .builtin .unsafeSliceData=>match wW ev c.args.toList with
   | some [x]=>match C5 x with
    | some v=>.val v σ
    | none=>.err 27
   | _=>.err 28
  | .builtin .unsafeString=>match wW ev c.args.toList with
   | some [p,n]=>match DT P σ c.argTypes[0]? p n with
    | some (s,σ')=>.val (.str s) σ'
    | none=>.err 29
   | _=>.err 30
  | _=>.err 15
 | .convert src dst x=>match ev x with
  | some v=>kT P σ src dst v
  | none=>.err 23
 | .panic x=>match ev x with
  | some (.iface t v)=>.iU (.iface t v) σ
  | _=>.err 32
 | _=>.err 16
section
variable {P:Program} {ρ:cz} {σ:aD} {w:World}
theorem aD.mC (σ:aD) (b:Pos) (o o':bQ):(σ.setObj b o).setObj b o'=σ.setObj b o':=by
 simp[aD.setObj,PT.IY]
theorem aD.lf (σ:aD) (b:Pos) (o:bQ):(σ.setObj b o).m.get b=some o:=PT.cY _ _ _
theorem m4 {b:Pos} {l:Loc} {e:Nat} (hl:ρ b=some l):∀(vs:List AV) (xs:List Value) (cells:List AV) (off i:Nat) (σ:aD) (w:World),Inv ρ σ w->σ.m.get b=some (.row cells e false)->cG ρ vs xs->cj vs=true->
  off+i+vs.length<=cells.length->∀σ₀:aD,σ=σ₀.setObj b (.row cells e false)->
  ∃w',(storeCells ⟨l.cZ,l.sh+off,none⟩ xs i).run P w= .ok () w'/\Inv ρ (σ₀.setObj b (.row (gq cells (off+i) vs) e false)) w'/\dZ ρ σ w ρ (σ₀.setObj b (.row (gq cells (off+i) vs) e false)) w'
 | [],xs,cells,off,i,σ,w,hi,hb,hv,_,_,σ₀,hσ=>by
  rw[hv.ee];subst hσ;exact⟨w,by simp[storeCells],hi,dZ.refl _ _ _⟩
 | v::vs,xs,cells,off,i,σ,w,hi,hb,hv,hleaf,hlen,σ₀,hσ=>by
  obtain⟨x,r,rfl,h1,h2⟩:=hv.cons_inv;have hl1:il v=true:=qf hleaf v (by simp)
  have hl2:cj vs=true:=by
   have h':(bif il v then cj vs else false)=true:=hleaf;rw[hl1] at h';exact h'
  simp only[List.length_cons] at hlen;obtain⟨hi',st⟩:=hi.setCell hb hl (i:=off+i) (by omega) h1;have hget:(σ.setObj b (.row (cells.set (off+i) v) e false)).m.get b=some (.row (cells.set (off+i) v) e false):=aD.lf _ _ _;obtain⟨w',r',inv',st'⟩:=m4 hl vs r (cells.set (off+i) v) off (i+1) _ _ hi' hget h2 hl2 (by simp;omega) σ₀ (by rw[hσ,aD.mC]);obtain⟨c,fr,hh1,hh2,hh3,hh4,hh5⟩:=hi.row hb hl;refine⟨w',?_,?_,?_⟩
  ·have hlt:off+i<cells.length:=by omega
   obtain⟨y,hy,_⟩:=hh4 (off+i) cells[off+i] (gC hlt);have hcell:w.cell? ⟨l.cZ,l.sh+off+i,none⟩=some y:=by rw[cell?_of_heap hh1,Nat.add_assoc];exact hy
   have hfz:w.frozen? ⟨l.cZ,l.sh+off+i,none⟩=false:=frozen?_of_heap hh1 _ (hh5 rfl _ (by omega));have hadd:(⟨l.cZ,l.sh+off,none⟩:Addr).add i=⟨l.cZ,l.sh+off+i,none⟩:=Addr.add_eq _ i rfl
   have ar:(store ⟨l.cZ,l.sh+off+i,none⟩ x).run P w= .ok () (w.setCell ⟨l.cZ,l.sh+off+i,none⟩ x):=by
    rw[run_store P w _ x _ (nk hl1 h1),hcell];simp[hfz]
   simp only[storeCells,sB_,hadd,ar,rA];rw[<-r',Nat.add_assoc]
  ·simpa [gq,Nat.add_assoc] using inv'
  have:=st.trans st';simpa [gq,Nat.add_assoc] using this
theorem hU (hi:Inv ρ σ w) {b:Pos} {l:Loc} {e:Nat} {cells vs:List AV} {xs:List Value} {off:Nat} (hl:ρ b=some l) (hb:σ.m.get b=some (.row cells e false)) (hv:cG ρ vs xs) (hleaf:cj vs=true)
  (hlen:off+vs.length<=cells.length):
  ∃w',(storeCells ⟨l.cZ,l.sh+off,none⟩ xs).run P w= .ok () w'/\Inv ρ (σ.setObj b (.row (dA vs cells off) e false)) w'/\dZ ρ σ w ρ (σ.setObj b (.row (dA vs cells off) e false)) w':=by
 have hi2:Inv ρ (σ.setObj b (.row cells e false)) w/\dZ ρ σ w ρ (σ.setObj b (.row cells e false)) w:=by
  obtain⟨c,fr,h1,h2,h3,h4,h5⟩:=hi.row hb hl;exact hi.change hb hl rfl rfl h1 ⟨c,fr,rfl,h2,h3,h4,h5⟩ (fun _ _=>rfl) rfl rfl rfl rfl
 obtain⟨w',r,inv,st⟩:=m4 (P:=P) hl vs xs cells off 0 _ w hi2.1 (aD.lf _ _ _) hv hleaf (by omega) σ rfl;rw[Nat.add_zero,<-jO vs cells off hlen] at inv st;exact⟨w',r,inv,hi2.2.trans st⟩
theorem AQ (hi:Inv ρ σ w) {t:TypeId} {x v:AV} {y z:Value} {σ':aD} (h:vY P σ t x v=some σ') (hx:VR ρ x y) (hv:VR ρ v z):
  ∃w',(Instr.storeAt t y z).run P w= .ok () w'/\Inv ρ σ' w'/\dZ ρ σ w ρ σ' w':=by
 unfold vY at h;split at h
 ·rename_i u1 u2 b off cs hcs;split at h
  ·rename_i u3 u4 cells e j hb hj;simp only[a0] at h;split at h
   ·rename_i hc;cases h;simp only[bA_,Nat.beq_eq,nE_,bz] at hc;obtain⟨⟨hc1,hc2⟩,hc3⟩:=hc;simp only[VR] at hx;obtain⟨l,hl,rfl⟩:=hx;obtain⟨w',r,inv,st⟩:=hU (P:=P) hi hl hb (g9 hcs hv) hc3 (off:=off) (by omega);refine⟨w',?_,inv,st⟩;have hsz:=lK hcs hv;simp only[Instr.storeAt,Instr.sureAddr,storeVar,sB_,sP_,rA,bU hj];rw[if_neg (by simp;omega)];exact r
   cases h
  ·rename_i u3 u4 cells e j hb hj;simp only[a0] at h;split at h
   ·rename_i hc;cases h;simp only[bA_,Nat.beq_eq,nE_,bz] at hc;obtain⟨⟨hc1,hc2⟩,hc3⟩:=hc;simp only[VR] at hx;obtain⟨l,hl,rfl⟩:=hx;obtain⟨h0,hi1,st1⟩:=hi.own hb hl;obtain⟨w',r,inv,st⟩:=hU (P:=P) hi1 hl (aD.lf _ _ _) (g9 hcs hv) hc3 (off:=off) (by omega);rw[aD.mC] at inv st;have hlen:(dA cs cells off).length=cells.length:=by rw[jO _ _ _ (by omega),p8]
    obtain⟨inv2,st2⟩:=inv.Hc (aD.lf _ _ _) hl rfl (fun x hx=>gn.DD ⟨h0.1,by rw[hlen];exact h0.2⟩ hx);rw[aD.mC] at inv2 st2;refine⟨w',?_,inv2,(st1.trans st).trans st2⟩;have hsz:=lK hcs hv;simp only[Instr.storeAt,Instr.sureAddr,storeVar,sB_,sP_,rA,bU hj];rw[if_neg (by simp;omega)];exact r
   cases h
  cases h
 cases h
theorem nD (hi:Inv ρ σ w) {sz n:Nat} {x:AV} {y:Value} {cs:List AV} (h:nC σ sz x=some (n,cs)) (hx:VR ρ x y):
  (Builtin.lenOf y).run P w= .ok n w/\cs.length=n*sz/\
   ∀k,k<=n->∃xs:List Value,cG ρ (cs.take (k*sz)) xs/\∀w',w'.heap=w.heap->(Builtin.firstCells sz k y).run P w'= .ok xs.toArray w':=by
 unfold nC at h;split at h
 ·cases h;simp only[VR] at hx;subst hx;refine⟨by simp[Builtin.lenOf],by simp,fun k hk=>⟨[],by simpa using cG.nil,fun w' _=>by simp[Builtin.firstCells]⟩⟩
 ·rename_i b off len cap;split at h
  ·rename_i cells e ro hb;simp only[a0] at h;split at h
   ·rename_i hle;cases h;rw[nE_,bz] at hle
    have full:∀(a:Addr) (c:Nat) (l:Loc),ρ b=some l->y= .slice (some a) n c->(a=⟨l.cZ,l.sh+off,none⟩∨n=0)->
      (Builtin.lenOf y).run P w= .ok n w/\(takeN (dy cells off) (n*sz)).length=n*sz/\
       ∀k,k<=n->∃xs:List Value,cG ρ ((takeN (dy cells off) (n*sz)).take (k*sz)) xs/\∀w',w'.heap=w.heap->(Builtin.firstCells sz k y).run P w'= .ok xs.toArray w':=by
     intro a c l hl hy ha;subst hy;refine⟨by simp[Builtin.lenOf],by rw[dp,dO,lT_,lD_];omega,fun k hk=>?_⟩;have hks:k*sz<=n*sz:=nM_ _ hk;rw[dp,dO,List.take_take,Nat.min_eq_left hks];rcases ha with rfl | rfl
     ·obtain⟨ys,h1,h2,h3⟩:=hi.piece hb hl off (k*sz) (by omega);refine⟨ys,h2,fun w' hw'=>?_⟩;refine run_firstCells_some w' sz k _ n c ys h1 fun j v hj=>?_
      have:=h3 j v hj;simpa [World.cell?,hw'] using this
     have hk0:k=0:=by omega
     subst hk0;refine⟨[],by simpa using cG.nil,fun w' hw'=>?_⟩;exact run_firstCells_some w' sz 0 _ 0 c [] (by simp) (by simp)
    cases cap with
    | known c=>
     simp only[VR] at hx;obtain⟨l,hl,rfl⟩:=hx;exact full _ _ l hl rfl (.inl rfl)
    | least a s=>
     simp only[VR] at hx;obtain⟨l,hl,c,rfl,_⟩:=hx;exact full _ _ l hl rfl (.inl rfl)
    | upto s=>
     simp only[VR] at hx;obtain⟨l,hl,⟨c,rfl,_⟩ | ⟨h0,a,rfl⟩⟩:=hx
     ·exact full _ _ l hl rfl (.inl rfl)
     subst h0;exact full _ _ l hl rfl (.inr rfl)
   cases h
  cases h
 ·rename_i s;simp only[a0] at h;split at h
  ·rename_i hs1;rw[Nat.beq_eq] at hs1;subst hs1;cases h;simp only[VR] at hx;obtain⟨bs,rfl,hs⟩:=hx;rw[iP hs,kE];unfold gh at hs;refine⟨by simp[Builtin.lenOf],by rw[<-hs];simp,fun k hk=>?_⟩;refine⟨(bs.data.toList.take k).map fun b=>Value.int .u8 b.toNat,?_,fun w' _=>?_⟩
   ·rw[<-hs,List.map_map,<-List.map_take,Nat.mul_one];generalize (bs.data.toList.take k)=l;induction l with
    | nil=>exact cG.nil
    | cons c l ih=>exact cG.cons (by simp only[VR];rfl) ih
   simp only[Builtin.firstCells,sP_];congr 1;apply Array.toList_inj.1;simp only[Array.toList_map];congr 1;simp
  cases h
 cases h
end
section
variable {P:Program} {ρ:cz} {σ:aD} {w:World}
theorem EU {α:Type} (l:List α) (k:Nat) (v:α) (vs:List α) (hk:k<l.length):
  (l.set k v).take (k+1)++vs++(l.set k v).drop (k+1+vs.length)=l.take k++(v::vs)++l.drop (k+(vs.length+1)):=by
 have h2:(l.set k v).drop (k+1+vs.length)=l.drop (k+(vs.length+1)):=by
  rw[List.drop_set_of_lt (by omega)];congr 1;omega
 have h1:(l.set k v).take (k+1)=l.take k++[v]:=by
  rw[List.take_succ_eq_append_getElem (by simpa using hk)];simp[List.take_set_of_le]
 rw[h1,h2];simp
theorem lC {g o e:Nat} {fr:Nat×Nat}:∀(vs:List Value) (cur:Array Value) (i:Nat) (w:World),w.heap[g]?=some (.cells cur e fr)->o+i+vs.length<=cur.size->(∀v∈vs,v.oneCell'=true)->
  (∀j,o<=j->¬(fr.1<=j/\j<fr.2))->
  ∃w',(storeCells ⟨g,o,none⟩ vs i).run P w= .ok () w'/\w'.heap[g]?=some (.cells (cur.toList.take (o+i)++vs++cur.toList.drop (o+i+vs.length)).toArray e fr)/\
   (∀r,r≠g->w'.heap[r]?=w.heap[r]?)/\w'.heap.size=w.heap.size/\w'.tape=w.tape/\w'.os=w.os/\w'.output=w.output
 | [],cur,i,w,hg,_,_,_=>by
  refine⟨w,by simp[storeCells],?_,fun _ _=>rfl,rfl,rfl,rfl,rfl⟩;simpa using hg
 | v::vs,cur,i,w,hg,hl,h1,hf=>by
  simp only[List.length_cons] at hl;have hlt:o+i<cur.size:=by omega
  have hadd:(⟨g,o,none⟩:Addr).add i=⟨g,o+i,none⟩:=Addr.add_eq _ i rfl;have hcell:w.cell? ⟨g,o+i,none⟩=some cur[o+i]:=by rw[cell?_of_heap hg];simp[hlt]
  have hfz:w.frozen? ⟨g,o+i,none⟩=false:=frozen?_of_heap hg _ (hf _ (by omega))
  have ar:(store ⟨g,o+i,none⟩ v).run P w= .ok () (w.setCell ⟨g,o+i,none⟩ v):=by
   rw[run_store P w _ v _ (h1 v (by simp)),hcell];simp[hfz]
  obtain⟨w',r,q1,q2,q3,q4,q5,q6⟩:=lC vs (cur.setIfInBounds (o+i) v) (i+1) _ (heap_setCell_same hg (o+i) v) (by simp;omega) (fun u hu=>h1 u (by simp[hu])) hf;refine⟨w',?_,?_,fun r hr=>(q2 r hr).trans (heap_setCell_other w _ v hr),by rw[q3];simp,q4,q5,q6⟩
  ·simp only[storeCells,sB_,hadd,ar,rA];exact r
  rw[q1];congr 3;rw[Array.toList_setIfInBounds];have hcl:cur.toList.length=cur.size:=Array.length_toList;exact EU cur.toList (o+i) v vs (by omega)
theorem run_append_fits {ts:Array TypeId} {t ty e:TypeId} {j:TypeInfo} (ht:ts[0]?=some t) (hu:P.underlying t=some (.slice e)) (hj:P.info? e=some j) (hz:dj P ts[1]?=true)
  {base:Option Addr} {sLen sCap n:Nat} {y:Value} {news:List Value} (hlen:(Builtin.lenOf y).run P w= .ok n w) (hsrc:(Builtin.firstCells j.size n y).run P w= .ok news.toArray w) (hfit:sLen+n<=sCap):
  (Builtin.append_ ts ty #[.slice base sLen sCap,y]).run P w=
   (Sem.run P (match base with | some a=>storeCells (a.add (sLen*j.size)) news | none=>pure ():Sem Unit) w).andThen fun _ w'=>.ok (.slice base (sLen+n) sCap) w':=by
 unfold dj at hz;cases h1:ts[1]? with
 | none=>
  cases base<;>simp[Builtin.append_,ht,h1,run_underlying hu,bU hj,hlen,hfit,hsrc]
 | some u=>
  rw[h1] at hz;dsimp only at hz;split at hz
  ·rename_i e' he';cases base<;>simp[Builtin.append_,ht,h1,run_underlying hu,run_underlying he',bU hj,hlen,hfit,hsrc]
  ·rename_i he';cases base<;>simp[Builtin.append_,ht,h1,run_underlying hu,run_underlying he',bU hj,hlen,hfit,hsrc]
  cases hz
theorem mA {ts:Array TypeId} {t ty e:TypeId} {j:TypeInfo} (ht:ts[0]?=some t) (hu:P.underlying t=some (.slice e)) (hj:P.info? e=some j) (hz:dj P ts[1]?=true)
  {cZ o:Nat} {sLen sCap n:Nat} {y:Value} {news:List Value} (hlen:(Builtin.lenOf y).run P w= .ok n w) (hsrc:(Builtin.firstCells j.size n y).run P w= .ok news.toArray w) (hfit:sLen+n<=sCap):
  (Builtin.append_ ts ty #[.slice (some ⟨cZ,o,none⟩) sLen sCap,y]).run P w=
   (Sem.run P (storeCells ⟨cZ,o+sLen*j.size,none⟩ news) w).andThen fun _ w'=>.ok (.slice (some ⟨cZ,o,none⟩) (sLen+n) sCap) w':=by
 rw[run_append_fits ht hu hj hz hlen hsrc hfit];show(Sem.run P (storeCells ((⟨cZ,o,none⟩:Addr).add (sLen*j.size)) news) w).andThen _=_;rw[Addr.add_eq _ _ rfl]
theorem ka {ts:Array TypeId} {t ty e:TypeId} {j:TypeInfo} {z:Value} (ht:ts[0]?=some t) (hu:P.underlying t=some (.slice e)) (hj:P.info? e=some j) (hzero:j.zero=some z) (hz:dj P ts[1]?=true)
  {base:Option Addr} {sLen sCap n:Nat} {y:Value} {olds news:List Value} (hlen:(Builtin.lenOf y).run P w= .ok n w) (hsrc:(Builtin.firstCells j.size n y).run P w.drew= .ok news.toArray w.drew)
  (hold:(Builtin.firstCells j.size sLen (.slice base sLen sCap)).run P w.drew= .ok olds.toArray w.drew) (hmore:sCap<sLen+n) (h63:sLen+n<=4194304) (hby:j.bytes<=65536) (hby0:1<=j.size):
  ∃cap,sLen+n<=cap/\(Builtin.append_ ts ty #[.slice base sLen sCap,y]).run P w=
   .ok (.slice (some ⟨w.heap.size,0,none⟩) (sLen+n) cap) (w.drew.alloc (.cells (olds.toArray++news.toArray++Builtin.zeroCells z.cells (cap-(sLen+n))) e)):=by
 refine⟨grownCap w (sLen+n) sCap e,grownCap_ge _ _ _ _,?_⟩
 have hfit:Builtin.nextslicecap (sLen+n) sCap*j.bytes<=281474976710656:=growslice_fits hmore (by
  have:(sLen+n)*j.bytes<=4194304*65536:=Nat.mul_le_mul h63 hby;omega)
 have hn:¬(sLen+n<=sCap):=by omega
 have hmax:IntKind.i64.max=9223372036854775807:=by decide
 have h1:¬(9223372036854775807<((sLen:Int)+(n:Int))):=by omega
 have h48:¬(281474976710656<Builtin.nextslicecap (sLen+n) sCap*j.bytes):=by omega
 rw[Array.append_assoc];unfold dj at hz;cases h1':ts[1]? with
 | none=>
  simp[Builtin.append_,ht,h1',run_underlying hu,bU hj,typeInfo,hj,hlen,hn,hmax,h1,h48,hold,hsrc,zeroValue,hzero,newRow,Question.forced,grownCap]
 | some u=>
  rw[h1'] at hz;dsimp only at hz;split at hz
  ·rename_i e' he';simp[Builtin.append_,ht,h1',run_underlying hu,run_underlying he',bU hj,typeInfo,hj,hlen,hn,hmax,h1,h48,hold,hsrc,zeroValue,hzero,newRow,Question.forced,grownCap]
  ·rename_i he';simp[Builtin.append_,ht,h1',run_underlying hu,run_underlying he',bU hj,typeInfo,hj,hlen,hn,hmax,h1,h48,hold,hsrc,zeroValue,hzero,newRow,Question.forced,grownCap]
  cases hz
theorem lg (hi:Inv ρ σ w) {cs:List AV} {olds news:List Value} {e sz len cap:Nat} {z:Value} (hc:cG ρ cs (olds++news)) (hlen:cs.length=len*sz) (hcap:len<=cap) (hz:z.cells.size=sz):
  Inv (ρ.with σ.next ⟨w.heap.size,0,cap*sz⟩) (σ.alloc (.row cs e false)) (w.drew.alloc (.cells (olds.toArray++news.toArray++Builtin.zeroCells z.cells (cap-len)) e))/\
  dZ ρ σ w (ρ.with σ.next ⟨w.heap.size,0,cap*sz⟩) (σ.alloc (.row cs e false)) (w.drew.alloc (.cells (olds.toArray++news.toArray++Builtin.zeroCells z.cells (cap-len)) e))/\
  VR (ρ.with σ.next ⟨w.heap.size,0,cap*sz⟩) (.slice σ.next 0 len (.upto sz)) (.slice (some ⟨w.heap.size,0,none⟩) len cap):=by
 have hlen2:=hc.length;rw[hlen] at hlen2;have hle:len*sz<=cap*sz:=nM_ _ hcap
 have ho:gn ρ ⟨w.heap.size,0,cap*sz⟩ (.row cs e false) (.cells (olds.toArray++news.toArray++Builtin.zeroCells z.cells (cap-len)) e):=by
  refine⟨_,_,rfl,?_,by rw[hlen];exact hle,fun i v hv=>?_,fun _ j _ hj=>by simp at hj⟩
  ·have h1:olds.length+news.length=len*sz:=by simpa using hlen2
   simp only[Array.size_append,List.size_toArray,size_zeroCells,hz,Nat.sub_mul,nA_];omega
  obtain⟨y,h1,h2⟩:=hc.get hv;refine⟨y,?_,h2⟩;have hlt:i<(olds++news).length:=(gA.1 h1).1;rw[nA_,Array.getElem?_append_left (by simpa using hlt)];simpa using h1
 obtain⟨inv,st⟩:=(hi.drew).alloc (l:=⟨w.heap.size,0,cap*sz⟩) rfl ho;refine⟨inv,(dZ.drew ρ σ w).trans st,?_⟩;simp only[VR];exact⟨_,cz.b0 _ _ _,.inl ⟨cap,rfl,hcap,by simp⟩⟩
theorem xR (hi:Inv ρ σ w) {ts:Array TypeId} {ty:TypeId} {s x v:AV} {ys yx:Value} {σ':aD} (h:fl P σ ts s x= .val v σ') (hs:VR ρ s ys) (hx:VR ρ x yx):
  ∃z w' ρ',(Builtin.append_ ts ty #[ys,yx]).run P w= .ok z w'/\VR ρ' v z/\Inv ρ' σ' w'/\dZ ρ σ w ρ' σ' w':=by
 unfold fl at h;cases ht:ts[0]? with
 | none=>rw[ht] at h;cases h
 | some t=>
 rw[ht] at h;dsimp only at h;split at h
 case h_2=>cases h
 rename_i e hu;cases hj:P.info? e with
 | none=>rw[hj] at h;cases h
 | some j=>
 rw[hj] at h;simp only[a0] at h;split at h
 case isFalse=>cases h
 rename_i hb;simp only[bA_,nE_] at hb;obtain⟨⟨hz,hsz⟩,hby⟩:=hb;cases hsrc:nC σ j.size x with
 | none=>rw[hsrc] at h;cases h
 | some p=>
 obtain⟨n,news⟩:=p;rw[hsrc] at h;dsimp only at h;split at h
 case isFalse=>cases h
 rename_i hb2;simp only[bA_,nE_] at hb2;obtain⟨⟨hleaf,hn20⟩,hzero⟩:=hb2
 obtain⟨zv,hzv,hzcells⟩:∃zv,j.zero=some zv/\zv.cells.size=j.size:=by
  simp only[Option.any_some,Option.any_eq_true] at hzero;obtain⟨z,hz1,cs,hz2,hz3⟩:=hzero;cases hzz:j.zero with
  | none=>rw[hzz] at hz1;cases hz1
  | some zv=>
   rw[hzz] at hz1;refine⟨zv,rfl,?_⟩;rw[Nat.beq_eq,bz] at hz3;rw[<-hz3];exact lK hz2 (ox (ρ:=ρ) hz1)
 obtain⟨hlenOf,hnlen,hfirst⟩:=nD (P:=P) hi hsrc hx;obtain⟨xs,hxs,hrunx⟩:=hfirst n (nR_ _);rw[<-hnlen,List.take_length] at hxs;have hxlen:xs.length=n*j.size:=by rw[hxs.length,hnlen]
 have hrun0:=hrunx w rfl;have hrund:=hrunx w.drew rfl;split at h
 ·
  simp only[VR] at hs;subst hs;split at h
  ·rename_i hn0;rw[Nat.beq_eq] at hn0;cases h;subst hn0;refine⟨.slice none 0 0,w,ρ,?_,by simp only[VR],hi,dZ.refl _ _ _⟩;have:=run_append_fits (w:=w) (ty:=ty) (base:=none) (sLen:=0) (sCap:=0) ht hu hj hz hlenOf hrun0 (nR_ _);rw[this];rfl
  rename_i hn0;cases h
  have hn:0<n:=by
   rcases Nat.eq_zero_or_pos n with h0 | h0
   ·exact absurd (by rw[Nat.beq_eq];exact h0) hn0
   exact h0
  obtain⟨cap,hcap,hr⟩:=ka (w:=w) (ty:=ty) (base:=none) (sLen:=0) (sCap:=0) (olds:=[]) ht hu hj hzv hz hlenOf hrund (by simp[Builtin.firstCells]) (by omega) (by omega) hby hsz;rw[nA_] at hcap hr;obtain⟨inv,st,hv⟩:=lg (e:=e) hi (olds:=[]) (news:=xs) (by simpa using hxs) hnlen hcap hzcells;exact⟨_,_,_,hr,hv,inv,st⟩
 ·
  rename_i b off len c;simp only[VR] at hs;obtain⟨l,hl,rfl⟩:=hs;split at h
  ·rename_i hfit;rw[nE_] at hfit;have hr:=mA (w:=w) (ty:=ty) (cZ:=l.cZ) (o:=l.sh+off) ht hu hj hz hlenOf hrun0 hfit;split at h
   ·rename_i cells e' hb;split at h
    ·rename_i hroom;rw[nE_,bz,bz] at hroom;cases h;obtain⟨w',r,inv,st⟩:=hU (P:=P) hi hl hb hxs hleaf (off:=off+len*j.size) (by omega);refine⟨.slice (some ⟨l.cZ,l.sh+off,none⟩) (len+n) c,w',ρ,?_,?_,inv,st⟩
     ·rw[hr,Nat.add_assoc,r];rfl
     simp only[VR];exact⟨l,hl,rfl⟩
    cases h
   split at h
   ·rename_i hn0;rw[Nat.beq_eq] at hn0;cases h;subst hn0;refine⟨.slice (some ⟨l.cZ,l.sh+off,none⟩) len c,w,ρ,?_,?_,hi,dZ.refl _ _ _⟩
    ·have hx0:xs= []:=eN_ (by rw[hxlen,Nat.zero_mul]);rw[hr,hx0];simp[storeCells]
    simp only[VR];exact⟨l,hl,rfl⟩
   cases h
  rename_i hfit;rw[nE_] at hfit;split at h
  ·rename_i cells e' ro hb;split at h
   ·rename_i hroom;simp only[bA_,nE_,bz] at hroom;obtain⟨hroom,hlen20⟩:=hroom;unfold grow at h;cases h;obtain⟨ys,h1,h2,h3⟩:=hi.piece hb hl off (len*j.size) hroom
    have hold:(Builtin.firstCells j.size len (.slice (some ⟨l.cZ,l.sh+off,none⟩) len c)).run P w.drew= .ok ys.toArray w.drew:=
     run_firstCells_some w.drew j.size len _ len c ys h1 (fun i v hv=>by simpa using h3 i v hv)
    obtain⟨cap,hcap,hr⟩:=ka (w:=w) (ty:=ty) ht hu hj hzv hz hlenOf hrund hold (by omega) (by omega) hby hsz
    obtain⟨inv,st,hv⟩:=lg (e:=e) hi (olds:=ys) (news:=xs) (len:=len+n) (cs:=fD (takeN (dy cells off) (len*j.size)) news)
     (by rw[dw,dp,dO];exact h2.append hxs) (by rw[dw,dp,dO,lA_,lT_,lD_,hnlen,Nat.add_mul];omega) hcap hzcells
    exact⟨_,_,_,hr,hv,inv,st⟩
   cases h
  cases h
 ·
  rename_i b off len sz;split at h
  ·rename_i hn0;rw[Nat.beq_eq] at hn0;cases h;subst hn0;have hx0:xs= []:=eN_ (by rw[hxlen,Nat.zero_mul]);subst hx0;have hs':=hs;simp only[VR] at hs';obtain⟨l,hl,⟨c,hy,hc,_⟩ | ⟨h0,a,hy⟩⟩:=hs'
   ·refine⟨ys,w,ρ,?_,hs,hi,dZ.refl _ _ _⟩;rw[hy,run_append_fits (w:=w) (ty:=ty) ht hu hj hz hlenOf hrun0 (by omega)];simp[storeCells]
   refine⟨ys,w,ρ,?_,hs,hi,dZ.refl _ _ _⟩;subst h0;rw[hy,run_append_fits (w:=w) (ty:=ty) ht hu hj hz hlenOf hrun0 (by omega)];simp[storeCells]
  rename_i hn0
  have hn:0<n:=by
   rcases Nat.eq_zero_or_pos n with h0 | h0
   ·exact absurd (by rw[Nat.beq_eq];exact h0) hn0
   exact h0
  split at h
  ·rename_i hszz;simp only[bA_,Nat.beq_eq,nE_] at hszz;obtain⟨hszz,hlen20⟩:=hszz;subst hszz;simp only[VR] at hs;split at h
   ·rename_i cells e' hb;split at h
    ·
     rename_i hroom;simp only[bA_,nE_,bz] at hroom;obtain⟨hl1,hroom⟩:=hroom;cases h;obtain⟨l,hl,⟨c,rfl,hc,hcells⟩ | ⟨h0,_⟩⟩:=hs
     ·obtain⟨cc,fr,_,_,hh3,_⟩:=hi.row hb hl
      have hfit:len+n<=c:=by
       have:(len+n)*j.size<=c*j.size:=by rw[Nat.add_mul];omega
       exact Nat.le_of_mul_le_mul_right this hsz
      have hr:=mA (w:=w) (ty:=ty) (cZ:=l.cZ) (o:=l.sh+off) ht hu hj hz hlenOf hrun0 hfit;obtain⟨w',r,inv,st⟩:=hU (P:=P) hi hl hb hxs hleaf (off:=off+len*j.size) (by omega);refine⟨.slice (some ⟨l.cZ,l.sh+off,none⟩) (len+n) c,w',ρ,?_,?_,inv,st⟩
      ·rw[hr,Nat.add_assoc,r];rfl
      simp only[VR];exact⟨l,hl,.inl ⟨c,rfl,hfit,hcells⟩⟩
     omega
    split at h
    ·
     rename_i hroom;simp only[bA_,nE_,Nat.beq_eq,bz] at hroom;obtain⟨hroom,he⟩:=hroom;subst he;unfold grow at h;cases h;obtain⟨l,hl,hcase⟩:=hs;obtain⟨olds,h1,h2,h3⟩:=hi.piece hb hl off (len*j.size) hroom;have hcs:cG ρ (fD (takeN (dy cells off) (len*j.size)) news) (olds++xs):=by rw[dw,dp,dO];exact h2.append hxs
     have hcl:(fD (takeN (dy cells off) (len*j.size)) news).length=(len+n)*j.size:=by
      rw[dw,dp,dO,lA_,lT_,lD_,hnlen,Nat.add_mul];omega
     have anew:∀(a:Addr) (c:Nat),ys= .slice (some a) len c->c<len+n->(a=⟨l.cZ,l.sh+off,none⟩∨len=0)->
       ∃z w' ρ',(Builtin.append_ ts ty #[ys,yx]).run P w= .ok z w'/\VR ρ' (.slice (σ.drop b).next 0 (len+n) (.upto j.size)) z/\
        Inv ρ' ((σ.drop b).alloc (.row (fD (takeN (dy cells off) (len*j.size)) news) e' false)) w'/\dZ ρ σ w ρ' ((σ.drop b).alloc (.row (fD (takeN (dy cells off) (len*j.size)) news) e' false)) w':=by
      intro a c hy hlt ha;subst hy
      have hold:(Builtin.firstCells j.size len (.slice (some a) len c)).run P w.drew= .ok olds.toArray w.drew:=by
       rcases ha with rfl | rfl
       ·exact run_firstCells_some w.drew j.size len _ len c olds h1 (fun i v hv=>by simpa using h3 i v hv)
       have:olds= []:=eN_ (by rw[h1,Nat.zero_mul]);subst this;exact run_firstCells_some w.drew j.size 0 _ 0 c [] (by simp) (by simp)
      obtain⟨cap,hcap,hr⟩:=ka (w:=w) (ty:=ty) ht hu hj hzv hz hlenOf hrund hold (by omega) (by omega) hby hsz;obtain⟨hi',st'⟩:=hi.forget b;obtain⟨inv,st,hv⟩:=lg (e:=e') hi' (olds:=olds) (news:=xs) (len:=len+n) hcs hcl hcap hzcells;exact⟨_,_,_,hr,hv,inv,st'.trans st⟩
     rcases hcase with ⟨c,hy,hc,hcells⟩ | ⟨h0,a,hy⟩
     ·by_cases hfit:len+n<=c
      ·
       subst hy;have hr:=mA (w:=w) (ty:=ty) (cZ:=l.cZ) (o:=l.sh+off) ht hu hj hz hlenOf hrun0 hfit;obtain⟨cc,fr,hh1,hh2,hh3,hh4,hh5⟩:=hi.row hb hl;have hmul:(len+n)*j.size<=c*j.size:=nM_ _ hfit;have hmul':(len+n)*j.size=len*j.size+n*j.size:=Nat.add_mul _ _ _
       have ar:=lC (P:=P) (o:=l.sh+off+len*j.size) xs cc 0 w hh1 (by rw[hxlen,hh2];omega) (fun u hu=>by
        obtain⟨i,hi1,hi2⟩:=List.getElem_of_mem hu;have hil:i<news.length:=by rw[<-hxs.length];exact hi1
        obtain⟨y,hy1,hy2⟩:=hxs.get (gC hil);rw[gC hi1,hi2] at hy1;cases hy1;exact nk (qf hleaf _ (List.getElem_mem hil)) hy2) (fun jj hjj=>hh5 rfl jj (by omega))
       obtain⟨w',r,hw1,hw2,hw3,hw4,hw5,hw6⟩:=ar
       have inv:=hi.yI (l':=⟨l.cZ,l.sh+off,l.cells-off⟩) (cells':=fD (takeN (dy cells off) (len*j.size)) news) hb hl rfl hw1
        ⟨_,fr,rfl,by simp[hh2];omega,by rw[hcl];show _<=l.cells-off;omega,fun i v hv=>by
         obtain⟨y,hy1,hy2⟩:=hcs.get hv;refine⟨y,?_,hy2⟩;rw[List.getElem?_toArray];dsimp only;have hccl:cc.toList.length=l.sh+l.cells:=by rw[Array.length_toList,hh2]
         have hil:i<(olds++xs).length:=(gA.1 hy1).1;rw[lA_,h1,hxlen] at hil
         by_cases hio:i<len*j.size
         ·rw[gL_ (by rw[h1];exact hio)] at hy1;have:=h3 i y hy1;rw[Addr.add_eq _ _ rfl,cell?_of_heap hh1] at this;rw[lQ_,gL_ (by rw[lT_,hccl];omega),List.getElem?_take,if_pos (by omega),aT_];exact this
         rw[gR_ (by rw[h1];omega),h1] at hy1;rw[lQ_,gR_ (by rw[lT_,hccl];omega),lT_,hccl];rw[gL_ (by rw[hxlen];omega),<-hy1];congr 1;omega,fun _ jj hjj=>hh5 rfl jj (by simp only at hjj;omega)⟩
        hw2 hw3 hw4 hw5 hw6
       refine⟨.slice (some ⟨l.cZ,l.sh+off,none⟩) (len+n) c,w',_,?_,?_,inv.1,inv.2⟩
       ·rw[hr,r];rfl
       simp only[VR,aD.drop];refine⟨_,cz.b0 _ _ _,.inl ⟨c,by simp,hfit,?_⟩⟩;simp only;omega
      exact anew _ c hy (by omega) (.inl rfl)
     exact anew a 0 (by rw[hy,h0]) (by omega) (.inr h0)
    cases h
   cases h
  cases h
 cases h
theorem mX {ts:Array TypeId} {t t2 ty e:TypeId} {k:IntKind} {j:TypeInfo} {z:Value} (ht:ts[0]?=some t) (hu:P.underlying t=some (.slice e)) (hj:P.info? e=some j) (hzero:j.zero=some z) (h1':ts[1]?=some t2) (hz:P.underlying t2=some (.int k))
  {base:Option Addr} {sLen sCap n:Nat} {olds:List Value}
  (hold:(Builtin.firstCells j.size sLen (.slice base sLen sCap)).run P w.drew= .ok olds.toArray w.drew) (hmore:sCap<sLen+n) (h63:sLen+n<=4194304) (hn20:n<=1048576) (hn1:1<=n) (hby:j.bytes<=65536) (hby0:1<=j.size):
  ∃cap,sLen+n<=cap/\(Builtin.append_ ts ty #[.slice base sLen sCap,.int .i64 (Int.ofNat n)]).run P w=
   .ok (.slice (some ⟨w.heap.size,0,none⟩) (sLen+n) cap) (w.drew.alloc (.cells (olds.toArray++(Builtin.zeroCells z.cells n).toList.toArray++Builtin.zeroCells z.cells (cap-(sLen+n))) e)):=by
 refine⟨grownCap w (sLen+n) sCap e,grownCap_ge _ _ _ _,?_⟩
 have hfit:Builtin.nextslicecap (sLen+n) sCap*j.bytes<=281474976710656:=growslice_fits hmore (by
  have:(sLen+n)*j.bytes<=4194304*65536:=Nat.mul_le_mul h63 hby;omega)
 have hn:¬(sLen+n<=sCap):=by omega
 have hmax:IntKind.i64.max=9223372036854775807:=by decide
 have h1:¬(9223372036854775807<((sLen:Int)+(n:Int))):=by omega
 have h48:¬(281474976710656<Builtin.nextslicecap (sLen+n) sCap*j.bytes):=by omega
 have hw:IntKind.i64.wrap (n:Int)=(n:Int):=tA .i64 (Int.ofNat n) (by simp only[Kg,nE_];omega);have hneg:¬((n:Int)<0):=by omega
 have hb48:¬(281474976710656<(n:Int)*(j.bytes:Int)):=by
  have:n*j.bytes<=1048576*65536:=Nat.mul_le_mul hn20 hby;have h2:((n*j.bytes:Nat):Int)<=((1048576*65536:Nat):Int):=Int.ofNat_le.2 this;rw[Int.natCast_mul] at h2;omega
 have hns:¬(n*j.size=0):=by
  have:1*1<=n*j.size:=Nat.mul_le_mul hn1 hby0;omega
 have hn0:¬(n=0∨j.size=0):=by omega
 rw[Array.append_assoc];simp[Builtin.append_,ht,h1',run_underlying hu,run_underlying hz,bU hj,typeInfo,hj,asInt,asIntOf,hw,hneg,hb48,hn,hmax,h1,h48,hold,hns,hn0,zeroValue,hzero,newRow,Question.forced,grownCap]
theorem wi (hi:Inv ρ σ w) {ts:Array TypeId} {ty:TypeId} {s x v:AV} {ys yx:Value} {σ':aD} (h:oV P σ ts s x= .val v σ') (hs:VR ρ s ys) (hx:VR ρ x yx):
  ∃z w' ρ',(Builtin.append_ ts ty #[ys,yx]).run P w= .ok z w'/\VR ρ' v z/\Inv ρ' σ' w'/\dZ ρ σ w ρ' σ' w':=by
 unfold oV at h;split at h
 case h_2=>cases h
 rename_i t t2 ht h1';split at h
 case h_2=>cases h
 rename_i e k hu hz;split at h
 case h_2=>cases h
 rename_i j zs n hj hzs;rw[a0] at h;split at h
 case isFalse=>cases h
 rename_i hb;simp only[bA_,nE_,Nat.beq_eq,bz] at hb;obtain⟨hn20,hn1,hby0,hby,hzl⟩:=hb;obtain⟨i,zv,hi',hzero,hzc⟩:=fx hzs;rw[hj] at hi';cases hi';have hzvl:zv.cells.size=zs.length:=by have:=(hzc ρ).length;simpa using this
 have hts:=jn (hzc ρ) n
 have hcells:(Builtin.zeroCells zv.cells n).toList=(List.replicate n zv.cells.toList).flatten:=by
  have:=tK zv.cells n (by omega);unfold Builtin.zeroCells;rw[this]
 rw[<-hcells] at hts;have htl:(eN zs n).length=n*j.size:=by rw[qb,hzl]
 simp only[VR] at hx;subst hx;split at h
 ·simp only[VR] at hs;subst hs;unfold grow at h;cases h;obtain⟨cap,hcap,hr⟩:=mX (w:=w) (ty:=ty) (base:=none) (sLen:=0) (sCap:=0) (olds:=[]) ht hu hj hzero h1' hz (by simp[Builtin.firstCells]) (by omega) (by omega) hn20 hn1 hby hby0;rw[nA_] at hcap hr;obtain⟨inv,st,hv⟩:=lg (e:=e) hi (olds:=[]) (news:=(Builtin.zeroCells zv.cells n).toList) (by simpa using hts) htl hcap (hzvl.trans hzl);exact⟨_,_,_,hr,hv,inv,st⟩
 ·rename_i b off len c;simp only[VR] at hs;obtain⟨l,hl,rfl⟩:=hs;rw[a0] at h;split at h
  ·cases h
  rename_i hfit;rw[nE_] at hfit;split at h
  ·rename_i cells e' ro hb;rw[a0] at h;split at h
   ·rename_i hroom;simp only[bA_,nE_,bz] at hroom;obtain⟨hroom,hlen20⟩:=hroom;unfold grow at h;cases h;obtain⟨ys,h1,h2,h3⟩:=hi.piece hb hl off (len*j.size) hroom
    have hold:(Builtin.firstCells j.size len (.slice (some ⟨l.cZ,l.sh+off,none⟩) len c)).run P w.drew= .ok ys.toArray w.drew:=
     run_firstCells_some w.drew j.size len _ len c ys h1 (fun i v hv=>by simpa using h3 i v hv)
    obtain⟨cap,hcap,hr⟩:=mX (w:=w) (ty:=ty) ht hu hj hzero h1' hz hold (by omega) (by omega) hn20 hn1 hby hby0
    obtain⟨inv,st,hv⟩:=lg (e:=e) hi (olds:=ys) (news:=(Builtin.zeroCells zv.cells n).toList) (len:=len+n) (cs:=fD (takeN (dy cells off) (len*j.size)) (eN zs n))
     (by rw[dw,dp,dO];exact h2.append hts) (by rw[dw,dp,dO,lA_,lT_,lD_,htl,Nat.add_mul];omega) hcap (hzvl.trans hzl)
    exact⟨_,_,_,hr,hv,inv,st⟩
   cases h
  cases h
 cases h
end
section
variable {P:Program} {ρ:cz} {σ:aD} {w:World}
theorem BI (hi:Inv ρ σ w) {ts:Array TypeId} {ty:TypeId} {s x v:AV} {ys yx:Value} {σ':aD} (h:wP P σ ts s x= .val v σ') (hs:VR ρ s ys) (hx:VR ρ x yx):
  ∃z w' ρ',(Builtin.copy_ ts ty #[ys,yx]).run P w= .ok z w'/\VR ρ' v z/\Inv ρ' σ' w'/\dZ ρ σ w ρ' σ' w':=by
 unfold wP at h;cases ht:ts[0]? with
 | none=>rw[ht] at h;cases h
 | some t=>
 rw[ht] at h;dsimp only at h;split at h
 case h_2=>cases h
 rename_i e hu;cases hj:P.info? e with
 | none=>rw[hj] at h;cases h
 | some j=>
 rw[hj] at h;dsimp only at h;split at h
 ·rename_i n news b off len cap hsrc;obtain⟨hlenOf,hnlen,hfirst⟩:=nD (P:=P) hi hsrc hx;obtain⟨xs,hxs,hrunx⟩:=hfirst (Nat.min n len) (Nat.min_le_left _ _);simp only[a0] at h;split at h
  ·rename_i h0;rw[Nat.beq_eq] at h0;cases h;rw[h0,Nat.zero_mul] at hxs;rw[h0] at hrunx;have hx0:xs= []:=by have:=hxs.length;simpa using this
   subst hx0;obtain⟨a,c,rfl⟩:=VR.iN hs;have hr:=hrunx w rfl;refine⟨.int .i64 0,w,ρ,?_,by simp only[VR],hi,dZ.refl _ _ _⟩;simp[Builtin.copy_,ht,run_underlying hu,hlenOf,bU hj,h0,hr,goInt,storeCells]
  rename_i h0;rw[Nat.beq_eq] at h0;split at h
  ·rename_i cells e' hb;split at h
   ·rename_i hc;simp only[bA_,nE_,bz] at hc;obtain⟨⟨hleaf,hsz⟩,hroom⟩:=hc;cases h;rw[dp] at hroom hleaf
    have go:∀(l:Loc) (c:Nat),ρ b=some l->ys= .slice (some ⟨l.cZ,l.sh+off,none⟩) len c->
      ∃z w' ρ',(Builtin.copy_ ts ty #[ys,yx]).run P w= .ok z w'/\VR ρ' (.int .i64 (Int.ofNat (Nat.min n len))) z/\
       Inv ρ' (σ.setObj b (.row (dA (takeN news (Nat.min n len*j.size)) cells off) e' false)) w'/\dZ ρ σ w ρ' (σ.setObj b (.row (dA (takeN news (Nat.min n len*j.size)) cells off) e' false)) w':=by
     intro l c hl hy;rw[dp];obtain⟨w',r,inv,st⟩:=hU (P:=P) hi hl hb hxs hleaf (off:=off) hroom;refine⟨.int .i64 (Int.ofNat (Nat.min n len)),w',ρ,?_,by simp only[VR],inv,st⟩;subst hy;have hr:=hrunx w rfl;simp[Builtin.copy_,ht,run_underlying hu,hlenOf,bU hj,hr,r,goInt]
    cases cap with
    | known c=>
     simp only[VR] at hs;obtain⟨l,hl,hy⟩:=hs;exact go l c hl hy
    | least a sz=>
     simp only[VR] at hs;obtain⟨l,hl,c,hy,_⟩:=hs;exact go l c hl hy
    | upto sz=>
     simp only[VR] at hs;obtain⟨l,hl,⟨c,hy,_⟩ | ⟨h0',a,hy⟩⟩:=hs
     ·exact go l c hl hy
     subst h0';exact absurd (Nat.min_zero n) h0
   cases h
  cases h
 ·rename_i n news hsrc;cases h;obtain⟨hlenOf,hnlen,hfirst⟩:=nD (P:=P) hi hsrc hx;obtain⟨xs,hxs,hrunx⟩:=hfirst 0 (Nat.zero_le _);simp only[VR] at hs;subst hs;refine⟨.int .i64 0,w,ρ,?_,by simp only[VR],hi,dZ.refl _ _ _⟩;have hr:=hrunx w rfl;simp[Builtin.copy_,ht,run_underlying hu,hlenOf,bU hj,hr,goInt]
 cases h
theorem zE (hi:Inv ρ σ w) {ts:Array TypeId} {ty:TypeId} {x:AV} {ys:Value} {σ':aD} (h:xZ P σ ts x=some σ') (hs:VR ρ x ys):
  ∃w',(Builtin.clear_ ts ty #[ys]).run P w= .ok (.tuple #[]) w'/\Inv ρ σ' w'/\dZ ρ σ w ρ σ' w':=by
 unfold xZ at h;cases ht:ts[0]? with
 | none=>rw[ht] at h;cases h
 | some t=>
 rw[ht] at h;dsimp only at h;cases hu:P.underlying t with
 | none=>rw[hu] at h;cases h
 | some d=>
 rw[hu] at h;cases d with
 | slice e=>
  dsimp only at h;cases x with
  | aK=>
   cases h;simp only[VR] at hs;subst hs;exact⟨w,by simp[Builtin.clear_,ht,run_underlying hu],hi,dZ.refl _ _ _⟩
  | slice b off len cap=>
   dsimp only at h;rw[a0] at h;split at h
   ·rename_i h0;have:=nB h0;subst this;cases h;obtain⟨a,c,rfl⟩:=VR.iN hs;exact⟨w,by simp[Builtin.clear_,ht,run_underlying hu],hi,dZ.refl _ _ _⟩
   rename_i h0;rw[Nat.beq_eq] at h0;cases hz:(eR P e).bind cC with
   | none=>rw[hz] at h;cases h
   | some zs=>
   rw[hz] at h;cases hb:σ.m.get b with
   | none=>rw[hb] at h;cases h
   | some o=>
   rw[hb] at h;cases o with
   | row cells e' ro=>
    cases ro with
    | true=>cases h
    | false=>
     dsimp only at h;rw[a0] at h;split at h
     ·rename_i hc;simp only[bA_,nE_,bz] at hc;obtain⟨⟨hleaf,hsz⟩,hroom⟩:=hc;cases h;obtain⟨i,zv,hi',hzero,hzc⟩:=fx hz;have hts:=jn (hzc ρ) len;have hzl:zv.cells.size=zs.length:=by have:=(hzc ρ).length;simpa using this
      have hcells:(Builtin.zeroCells zv.cells len).toList=(List.replicate len zv.cells.toList).flatten:=by
       have:=tK zv.cells len (by omega);unfold Builtin.zeroCells;rw[this]
      have go:∀(l:Loc) (c:Nat),ρ b=some l->ys= .slice (some ⟨l.cZ,l.sh+off,none⟩) len c->
        ∃w',(Builtin.clear_ ts ty #[ys]).run P w= .ok (.tuple #[]) w'/\Inv ρ (σ.setObj b (.row (dA (eN zs len) cells off) e' false)) w'/\dZ ρ σ w ρ (σ.setObj b (.row (dA (eN zs len) cells off) e' false)) w':=by
       intro l c hl hy;subst hy;obtain⟨w',r,inv,st⟩:=hU (P:=P) hi hl hb hts hleaf hroom;refine⟨w',?_,inv,st⟩;cases len with
       | zero=>exact absurd rfl h0
       | succ n=>simp[Builtin.clear_,ht,run_underlying hu,zeroValue,typeInfo,hi',hzero,hcells,r]
      cases cap with
      | known c=>
       simp only[VR] at hs;obtain⟨l,hl,rfl⟩:=hs;exact go l c hl rfl
      | upto sz=>
       simp only[VR] at hs;obtain⟨l,hl,⟨c,rfl,_⟩ | ⟨h',_⟩⟩:=hs
       ·exact go l c hl rfl
       exact absurd h' h0
      | least a sz=>
       simp only[VR] at hs;obtain⟨l,hl,c,rfl,_⟩:=hs;exact go l c hl rfl
     cases h
   | _=>cases h
  | _=>cases h
 | _=>cases h
theorem qy {g:Nat} {args:Array Value} (h:uV P g=true):(callFunc g args).run P w= .ok (.enter g args) w:=by
 unfold uV at h;cases hf:P.funcs[g]? with
 | none=>rw[hf] at h;cases h
 | some fn=>
  rw[hf] at h;simp only[bA_,Bool.not_eq_true'] at h;obtain⟨h1,h2⟩:=h;have h3:fn.body.isNone=false:=by cases hb:fn.body<;>simp_all
  have h2':¬fn.name= "runtime.NumGoroutine" :=by simpa using h2
  have h3':¬fn.body=none:=by intro e;rw[e] at h3;cases h3
  simp[callFunc,hf,h2',h3']
inductive wh (P:Program) (ρ:cz) (σ:aD) (w:World):HR->Result Next->Prop
 | val {v:AV} {σ':aD} {x:Value} {w':World} {ρ':cz} (hv:VR ρ' v x) (hi:Inv ρ' σ' w') (st:dZ ρ σ w ρ' σ' w'):wh P ρ σ w (.val v σ') (.ok (.value x) w')
 | skip {σ':aD} {w':World} {ρ':cz} (hi:Inv ρ' σ' w') (st:dZ ρ σ w ρ' σ' w'):wh P ρ σ w (.skip σ') (.ok .skip w')
 | enter {f:Nat} {args:List AV} {xs:Array Value} (hv:cG ρ args xs.toList):wh P ρ σ w (.enter f args σ) (.ok (.enter f xs) w)
 | round {l:Pos} {args:List AV} {xs:Array Value} {loc:Loc} {r:Result Next} (hv:cG ρ args xs.toList) (hl:ρ l=some loc) (hr:r=(Instr.yield loc.cZ xs).run P w):wh P ρ σ w (.round l args σ) r
 | iU {v:AV} {x:Value} (hv:VR ρ v x):wh P ρ σ w (.iU v σ) (.halt (.panic x) w)
def LR (P:Program) (g:Nat):Prop:=∃(fn:Func) (ts tr e:TypeId) (j:TypeInfo),P.funcs[g]?=some fn∧(fn.name == "runtime.NumGoroutine")=false∧fn.body.isNone=true∧Extern.findNext fn=none∧
 Extern.find fn=some (Extern.SlicesOverlaps.overlaps #[ts,ts] #[tr])/\P.underlying ts=some (.slice e)/\P.info? e=some j
def Mz (P:Program) (g:Nat):Prop:=∃(fn:Func),P.funcs[g]?=some fn∧(fn.name == "runtime.NumGoroutine")=false∧fn.body.isNone=true∧Extern.findNext fn=none∧Extern.find fn=some Extern.AbiNoEscape.same
def m8 (P:Program) (g:Nat):Prop:=(isNe P g=false/\LR P g)∨(isNe P g=true/\Mz P g)
theorem nA (p:Pos):rL p p=true:=Nat.beq_refl p
theorem VR.tu {b:Pos} {off len:Nat} {cap:rZ} {x:Value} (hc:mI cap=true) (h:VR ρ (.slice b off len cap) x):∃l c,ρ b=some l/\x= .slice (some ⟨l.cZ,l.sh+off,none⟩) len c:=by
 cases cap with
 | upto sz=>simp[mI] at hc
 | known c=>simp only[VR] at h;obtain⟨l,h1,rfl⟩:=h;exact⟨l,c,h1,rfl⟩
 | least a sz=>simp only[VR] at h;obtain⟨l,h1,c,rfl,_⟩:=h;exact⟨l,c,h1,rfl⟩
theorem vp (hi:Inv ρ σ w) {g:Nat} {args:List AV} {xs:Array Value} {v:AV} (hg:LR P g) (h:pk σ args=some v) (hx:cG ρ args xs.toList):∃x,(callFunc g xs).run P w= .ok (.value x) w/\VR ρ v x:=by
 obtain⟨fn,ts,tr,e,j,g1,g2,g3,g4,g5,g6,g7⟩:=hg;unfold pk at h;split at h
 ·rename_i b off n cap b' off' n' cap';split at h
  ·rename_i cells e1 cells' e2 hb hb';cases hc:((bif rL b b' then false else true) && (mI cap && (mI cap' && Nat.ble 1 (cD cells')))) with
   | false=>rw[hc] at h;cases h
   | true=>
    rw[hc] at h;simp only[cond_true,oJ_] at h;subst h;simp only[bA_,nE_,bz] at hc;obtain⟨hne,hc1,hc2,hlen⟩:=hc;have hne':b≠b':=fun e=>by subst e;rw[nA] at hne;simp at hne
    obtain⟨x1,r,e',h1,h2⟩:=hx.cons_inv;obtain⟨x2,r',rfl,h3,h4⟩:=h2.cons_inv;have:=h4.ee;subst this;obtain⟨l,c,hl,rfl⟩:=VR.tu hc1 h1;obtain⟨l',c',hl',rfl⟩:=VR.tu hc2 h3;have hxs:xs= #[.slice (some ⟨l.cZ,l.sh+off,none⟩) n c,.slice (some ⟨l'.cZ,l'.sh+off',none⟩) n' c']:=by rw[<-Array.toList_inj];exact e'
    obtain⟨k,fr,k1,k2,k3,k4,k5⟩:=hi.row hb hl;obtain⟨k',fr',k1',k2',k3',k4',k5'⟩:=hi.row hb' hl'
    have hblk:l.cZ≠l'.cZ:=fun e=>by
     have:=(hi.inj b b' _ _ l l' hb hb' hl hl' e hne').1;cases this
    refine⟨.bool false,?_,by simp only[VR]⟩;rw[run_callFunc_extern g1 g2 g3 g4 g5,hxs]
    rw[Lib.run_overlaps_apart w ts tr e g6 j.size (fun w=>bU g7) ⟨l.cZ,l.sh+off,none⟩ ⟨l'.cZ,l'.sh+off',none⟩ n c n' c' hblk e1 e2 k.size k'.size
     (by simp[World.shape?,k1]) (by simp[World.shape?,k1']) (by omega) (frozen?_of_heap k1 _ (k5 rfl _ (by omega))) (frozen?_of_heap k1 _ (k5 rfl _ (by omega)))]
    rfl
  cases h
 cases h
theorem FJ {ov:Nat->Bool} (hov:∀g,ov g=true->m8 P g) (hi:Inv ρ σ w) {g:AV} {args:List AV} {y:Value} {xs:Array Value} {r:HR} (h:zx P ov σ g args=r) (hne:∀n,r≠ .err n) (hg:VR ρ g y) (hx:cG ρ args xs.toList):
  wh P ρ σ w r ((do let d <-Deferred.ofValue y xs;invoke d.target d.args:Sem Next).run P w):=by
 subst h;unfold zx at hne⊢;cases g with
 | func f fi ca=>
  dsimp only at hne⊢;cases hgo:uV P f with
  | false=>
   rw[hgo] at hne;simp only[cond_false] at hne⊢;cases ho:ov f with
   | false=>rw[ho] at hne;exact absurd rfl (hne 50)
   | true=>
    rw[ho] at hne;simp only[cond_true] at hne⊢;cases hn:isNe P f with
    | true=>
     rw[hn] at hne;simp only[cond_true] at hne⊢;simp only[VR] at hg;obtain⟨fi',ca',rfl,hfi,hca⟩:=hg;have hall:cG ρ (fD fi (fD args ca)) (fi'++xs++ca').toList:=by rw[dw,dw];simpa using hfi.append (hx.append hca)
     generalize fD fi (fD args ca)=l at hne hall⊢;cases l with
     | nil=>exact absurd rfl (hne 53)
     | cons v r=>
      cases r with
      | cons _ _=>exact absurd rfl (hne 53)
      | nil=>
       dsimp only;obtain⟨x,r',e,h1,h2⟩:=hall.cons_inv;have:=h2.ee;subst this;have hxs:fi'++xs++ca'= #[x]:=by rw[<-Array.toList_inj];exact e
       rcases hov f ho with ⟨h',_⟩ | ⟨_,fn,g1,g2,g3,g4,g5⟩
       ·rw[hn] at h';cases h'
       have hx1:(callFunc f (fi'++xs++ca')).run P w= .ok (.value x) w:=by
        rw[run_callFunc_extern g1 g2 g3 g4 g5,hxs,Lib.run_noEscape];rfl
       have:(do let d <-Deferred.ofValue (.func (.func f) fi' ca') xs;invoke d.target d.args:Sem Next).run P w= .ok (.value x) w:=by
        simp only[Array.append_assoc] at hx1;simp[Deferred.ofValue,invoke,hx1]
       rw[this];exact .val h1 hi (dZ.refl ρ σ w)
    | false=>
    rw[hn] at hne;simp only[cond_false] at hne⊢
    have hov':LR P f:=by
     rcases hov f ho with ⟨_,h'⟩ | ⟨h',_⟩
     ·exact h'
     rw[hn] at h';cases h'
    cases hq:pk σ (fD fi (fD args ca)) with
    | none=>rw[hq] at hne;exact absurd rfl (hne 52)
    | some v=>
     simp only[VR] at hg;obtain⟨fi',ca',rfl,hfi,hca⟩:=hg;obtain⟨x,hx1,hx2⟩:=vp (xs:=fi'++xs++ca') hi hov' hq (by rw[dw,dw];simpa using hfi.append (hx.append hca))
     have:(do let d <-Deferred.ofValue (.func (.func f) fi' ca') xs;invoke d.target d.args:Sem Next).run P w= .ok (.value x) w:=by
      simp only[Array.append_assoc] at hx1;simp[Deferred.ofValue,invoke,hx1]
     rw[this];exact .val hx2 hi (dZ.refl ρ σ w)
  | true=>
   rw[hgo] at hne;simp only[VR] at hg;obtain⟨fi',ca',rfl,hfi,hca⟩:=hg;simp only[cond_true]
   have:(do let d <-Deferred.ofValue (.func (.func f) fi' ca') xs;invoke d.target d.args:Sem Next).run P w= .ok (.enter f (fi'++xs++ca')) w:=by
    simp[Deferred.ofValue,invoke,qy hgo]
   rw[this,dw,dw];exact .enter (by simpa using hfi.append (hx.append hca))
 | yield l=>
  dsimp only at hne⊢;simp only[VR] at hg;obtain⟨loc,hl,rfl⟩:=hg;exact .round hx hl (by simp[Deferred.ofValue,invoke])
 | _=>exact absurd rfl (hne 51)
end
section
variable {P:Program} {ρ:cz} {σ:aD} {w:World}
def lr:TypeDesc->Bool
 | .int _ | .string | .bool=>true
 | _=>false
def DY (P:Program) (u:TypeId):Prop:=(∃d,P.underlying u=some d/\lr d=true)∨(∃gs,P.underlying u=some (.struct gs)/\∀g∈gs.toList,∃d,P.underlying g.type=some d/\lr d=true)∨∃m e,P.underlying u=some (.array m e)/\qx P e=true
theorem oB {t:TypeId} (h:plainKey P t=true):(∃d,P.underlying t=some d/\lr d=true)∨∃fs,P.underlying t=some (.struct fs)/\∀f∈fs.toList,DY P f.type:=by
 unfold plainKey at h;split at h
 ·rename_i k hu;exact .inl ⟨_,hu,rfl⟩
 ·rename_i hu;exact .inl ⟨_,hu,rfl⟩
 ·rename_i hu;exact .inl ⟨_,hu,rfl⟩
 ·rename_i fs hu;refine .inr ⟨fs,hu,fun f hf=>?_⟩;rw[aE_] at h;have:=h f hf;split at this
  ·rename_i k hu';exact .inl ⟨_,hu',rfl⟩
  ·rename_i hu';exact .inl ⟨_,hu',rfl⟩
  ·rename_i hu';exact .inl ⟨_,hu',rfl⟩
  ·rename_i gs hu';refine .inr (.inl ⟨gs,hu',fun g hg=>?_⟩);rw[aE_] at this;have:=this g hg;split at this
   ·rename_i k hu'';exact⟨_,hu'',rfl⟩
   ·rename_i hu'';exact⟨_,hu'',rfl⟩
   ·rename_i hu'';exact⟨_,hu'',rfl⟩
   cases this
  ·rename_i m e hu';exact .inr (.inr ⟨m,e,hu',this⟩)
  cases this
 cases h
theorem iX {t:TypeId} {d:TypeDesc} (hu:P.underlying t=some d) (hd:lr d=true) (em:Bool) (n:Nat) (a:Value):(Instr.checkKey em (n+1) t a).run P w= .ok () w:=by
 simp only[Instr.checkKey,sB_,run_underlying hu,rA];cases d<;>first | (simp[lr] at hd;done) | rfl
theorem pS {t:TypeId} {fs:Array Field} {ys:Array Value} (hu:P.underlying t=some (.struct fs)) (em:Bool) (n:Nat)
  (h:∀f∈fs.toList,∃y,(part f.type ys f.offset).run P w= .ok y w/\(Instr.checkKey em (n+1) f.type y).run P w= .ok () w):(Instr.checkKey em (n+1+1) t (.agg ys)).run P w= .ok () w:=by
 rw[Instr.checkKey];simp only[sB_,run_underlying hu,rA];rw[<-Array.forIn_toList];clear hu;generalize fs.toList=l at*;induction l with
 | nil=>simp
 | cons f l ih=>
  obtain⟨y,hpart,hck⟩:=h f (by simp);have ih':=ih (fun g hg=>h g (by simp[hg]));simp only[List.forIn_cons,sB_,Sem.run_ite];split
  ·simp only[hpart,rA,hck,sP_];exact ih'
  simp only[sP_,rA];exact ih'
theorem wk {t e:TypeId} {m:Nat} {cs:Array Value} {i:TypeInfo} {k:IntKind} (hu:P.underlying t=some (.array m e)) (he:P.underlying e=some (.int k)) (hi:P.info? e=some i) (hs:i.size=1) (hl:m<=cs.size) (em:Bool) (n:Nat):
  (Instr.checkKey em (n+1+1) t (.agg cs)).run P w= .ok () w:=by
 rw[Instr.checkKey];simp only[sB_,run_underlying hu,rA];simp only[Std.Legacy.Range.forIn_eq_forIn_range',Std.Legacy.Range.size,Nat.sub_zero,Nat.add_one_sub_one,Nat.div_one]
 have key:∀(l:Nat) (s:Nat),s+l<=cs.size->(forIn (List.range' s l) PUnit.unit fun i (_:PUnit)=>(do
   let z <-sizeOf e
   let v <-part e cs (i*z)
   Instr.checkKey em (n+1) e v
   pure (ForInStep.yield PUnit.unit):Sem (ForInStep PUnit))).run P w= .ok PUnit.unit w:=by
  intro l;induction l with
  | zero=>intro s _;simp
  | succ l ih=>
   intro s hsl;have hv:cs[s]?=some cs[s]:=aG_ (by omega)
   have p:(part e cs (s*1)).run P w= .ok cs[s] w:=by
    rw[Nat.mul_one];simp only[part,sB_,eE he,zi,rA,Bool.false_eq_true,if_false,hv,sP_]
   simp only[List.range'_succ,List.forIn_cons,sB_,bU hi,hs,p,rA,iX he rfl,sP_];exact ih (s+1) (by omega)
 have:=key m 0 (by omega);simp at this⊢;simp[this]
theorem nO {u:TypeId} {d:TypeDesc} (hu:P.underlying u=some d) (hd:lr d=true) {xs:List AV} {ys:Array Value} (hys:cG ρ xs ys.toList) {off:Nat} (hs:(nth xs off).isSome=true):∃y,(part u ys off).run P w= .ok y w:=by
 obtain⟨v,hv⟩:=Option.isSome_iff_exists.1 hs;rw[fC] at hv;obtain⟨y,hy,_⟩:=hys.get hv;have hy':ys[off]?=some y:=by rw[<-aT_];exact hy
 have hag:zi d=false:=by cases d<;>first | rfl | (simp[lr] at hd)
 exact⟨y,by simp only[part,sB_,eE hu,hag,rA,Bool.false_eq_true,if_false,hy',sP_]⟩
theorem kV {t:TypeId} {k:AV} {a:Value} (hp:plainKey P t=true) (hs:lh P t k=true) (hk:VR ρ k a) (em:Bool):(Instr.checkKey em 10000 t a).run P w= .ok () w:=by
 rcases oB hp with ⟨d,hu,hd⟩ | ⟨fs,hu,hfs⟩
 ·exact iX hu hd em 9999 a
 unfold lh at hs;rw[hu] at hs;cases k<;>(try (simp at hs;done));rename_i xs;dsimp only at hs;simp only[VR] at hk;obtain⟨ys,rfl,hys⟩:=hk;refine pS hu em 9998 fun f hf=>?_
 rw[aE_] at hs;have hsf:=hs f hf;rcases hfs f hf with ⟨d,hu',hd'⟩ | ⟨gs,hu',hgs⟩ | ⟨m,e,hu',hia⟩
 ·have:(nth xs f.offset).isSome=true:=by
   rw[hu'] at hsf;cases d<;>first | exact hsf | (simp[lr] at hd')
  obtain⟨y,hy⟩:=nO (P:=P) (w:=w) hu' hd' hys this;exact⟨y,hy,iX hu' hd' em 9998 y⟩
 ·rw[hu'] at hsf;dsimp only at hsf;split at hsf
  ·rename_i n hag;obtain⟨c,r,v⟩:=gm (P:=P) (w:=w) hag hys (off:=f.offset);refine⟨.agg c,r,pS hu' em 9997 fun g hg=>?_⟩;rw[aE_] at hsf;obtain⟨d,hu'',hd''⟩:=hgs g hg;obtain⟨y,hy⟩:=nO (P:=P) (w:=w) hu'' hd'' v (hsf g hg);exact⟨y,hy,iX hu'' hd'' em 9997 y⟩
  cases hsf
 rw[hu'] at hsf;dsimp only at hsf;split at hsf
 ·rename_i n hag;rw[bA_,Nat.beq_eq,Nat.beq_eq,bz] at hsf;obtain⟨k,inf,he,hinf,hsz⟩:=uU hia;obtain⟨c,r,v⟩:=gm (P:=P) (w:=w) hag hys (off:=f.offset);have hcl:=v.length;exact⟨.agg c,r,wk hu' he hinf hsz (by rw[hsf.2] at hcl;have:c.toList.length=c.size:=rfl;omega) em 9997⟩
 cases hsf
theorem EM {t:TypeId} {d:TypeDesc} (hu:P.underlying t=some d) (hd:lr d=true) {x y:AV} {a c:Value} {b:Bool} (h:nM P t x y=some b) (hx:VR ρ x a) (hy:VR ρ y c):Instr.sameNow d a c=some b:=by
 unfold nM at h;rw[hu] at h;split at h
 ·rename_i u1 u2 u3 q j m k n e;cases e;cases hk:q7 j k with
  | false=>rw[hk] at h;cases h
  | true=>
   rw[hk] at h;have:=oc hk;subst this;simp only[VR] at hx hy;subst hx;subst hy;simp only[cond_true,oJ_] at h;rw[<-h,dq];simp only[Instr.sameNow,if_true,oJ_]
   by_cases e:m=n<;>simp[e]
 ·rename_i u1 u2 u3 s s' e;cases e;simp only[VR] at hx hy;obtain⟨p,rfl,hp⟩:=hx;obtain⟨q,rfl,hq⟩:=hy;cases h;simp only[Instr.sameNow,oJ_];rw[m5 hp hq,beq_toListBytes]
 ·rename_i u1 u2 u3 s s' e;cases e;simp only[VR] at hx hy;subst hx;subst hy;cases h;simp only[Instr.sameNow,oJ_,kW]
 ·rename_i u1 u2 u3 fs xs ys e;cases e;simp[lr] at hd
 cases h
theorem Cc {t:TypeId} {fs:Array Field} (hu:P.underlying t=some (.struct fs)) {x y:AV} {a c:Value} {b:Bool} (h:nM P t x y=some b) (hx:VR ρ x a) (hy:VR ρ y c):(Op.equal t a c).run P w= .ok b w:=by
 unfold nM at h;rw[hu] at h;split at h
 ·rename_i e;cases e
 ·rename_i e;cases e
 ·rename_i e;cases e
 ·exact(oe (P:=P) (w:=w) h hx hy .eql (.const .nilFunc) (.const .nilFunc)).2
 cases h
def Bm (ρ:cz):Option (Nat×AV)->Option (Nat×Value)->Prop
 | none,none=>True
 | some (i,v),some (j,y)=>i=j/\VR ρ v y
 | _,_=>False
theorem pV {t:TypeId} {d:TypeDesc} (hu:P.underlying t=some d) (hd:lr d=true) {k:AV} {a:Value} (hk:VR ρ k a):∀(es:List eJ) (ys:List MapEntry) (i:Nat) (r:Option (Nat×AV)),iR ρ es ys->nJ P t k es i=some r->
  ∃r',Instr.findNow d a ys i=some r'/\Bm ρ r r'
 | [],ys,i,r,he,h=>by
  have:ys= []:=he;subst this;have h':some none=some r:=h;cases h';exact⟨none,rfl,trivial⟩
 | e::es,ys,i,r,he,h=>by
  obtain⟨y,rest,rfl,h1,h2,h3,h4⟩:=he
  have h':(match nM P t k e.key with
   | some true=>some (some (i,e.val))
   | some false=>nJ P t k es (Nat.succ i)
   | none=>none)=some r:=h
  cases hq:nM P t k e.key with
  | none=>rw[hq] at h';cases h'
  | some b=>
   rw[hq] at h';have hs:=EM hu hd hq hk h1;cases b with
   | true=>cases h';exact⟨some (i,y.val),by simp[Instr.findNow,hs],rfl,h2⟩
   | false=>
    obtain⟨r',g1,g2⟩:=pV hu hd hk es rest (i+1) r h4 h';exact⟨r',by simp[Instr.findNow,hs,g1],g2⟩
theorem pU {t:TypeId} {fs:Array Field} (hu:P.underlying t=some (.struct fs)) {k:AV} {a:Value} (hk:VR ρ k a):∀(es:List eJ) (ys:List MapEntry) (i:Nat) (r:Option (Nat×AV)),iR ρ es ys->nJ P t k es i=some r->
  ∃r',(Instr.findAsking t a ys i).run P w= .ok r' w/\Bm ρ r r'
 | [],ys,i,r,he,h=>by
  have:ys= []:=he;subst this;have h':some none=some r:=h;cases h';exact⟨none,rfl,trivial⟩
 | e::es,ys,i,r,he,h=>by
  obtain⟨y,rest,rfl,h1,h2,h3,h4⟩:=he
  have h':(match nM P t k e.key with
   | some true=>some (some (i,e.val))
   | some false=>nJ P t k es (Nat.succ i)
   | none=>none)=some r:=h
  cases hq:nM P t k e.key with
  | none=>rw[hq] at h';cases h'
  | some b=>
   rw[hq] at h';have hs:=Cc (w:=w) hu hq hk h1;cases b with
   | true=>cases h';exact⟨some (i,y.val),by simp[Instr.findAsking,hs],rfl,h2⟩
   | false=>
    obtain⟨r',g1,g2⟩:=pU hu hk es rest (i+1) r h4 h';exact⟨r',by simp[Instr.findAsking,hs,g1],g2⟩
theorem k9 {t:TypeId} (hp:plainKey P t=true) {k:AV} {a:Value} (hk:VR ρ k a) {es:List eJ} {ys:List MapEntry} {r:Option (Nat×AV)} (he:iR ρ es ys) (h:nJ P t k es 0=some r):
  ∃r',(Instr.findKey t a ys).run P w= .ok r' w/\Bm ρ r r':=by
 rcases oB hp with ⟨d,hu,hd⟩ | ⟨fs,hu,hfs⟩
 ·obtain⟨r',h1,h2⟩:=pV hu hd hk es ys 0 r he h;exact⟨r',by simp[Instr.findKey,run_underlying hu,h1],h2⟩
 cases hn:Instr.findNow (.struct fs) a ys 0 with
 | none=>
  obtain⟨r',h1,h2⟩:=pU (w:=w) hu hk es ys 0 r he h;exact⟨r',by simp[Instr.findKey,run_underlying hu,hn,h1],h2⟩
 | some r0=>
  cases es with
  | nil=>
   have:ys= []:=he;subst this;have h':some none=some r:=h;cases h';exact⟨none,by simp[Instr.findKey,run_underlying hu,Instr.findNow],trivial⟩
  | cons e es=>
   obtain⟨y,rest,rfl,h1,_⟩:=he;have:Instr.sameNow (.struct fs) a y.key=none:=by simp[Instr.sameNow]
   simp[Instr.findNow,this] at hn
theorem iR.length:∀{es:List eJ} {ys:List MapEntry},iR ρ es ys->ys.length=es.length
 | [],ys,h=>by have:ys= []:=h;rw[this];rfl
 | e::es,ys,h=>by obtain⟨y,r,rfl,_,_,_,h4⟩:=h;simp[h4.length]
theorem iR.get:∀{es:List eJ} {ys:List MapEntry},iR ρ es ys->∀{i:Nat} {e:eJ},es[i]?=some e->∃y,ys[i]?=some y/\VR ρ e.key y.key/\VR ρ e.val y.val/\y.born=e.born
 | [],ys,h,i,e,he=>by simp at he
 | e::es,ys,h,0,e',he=>by
  obtain⟨y,r,rfl,h1,h2,h3,h4⟩:=h;simp at he;subst he;exact⟨y,rfl,h1,h2,h3⟩
 | e::es,ys,h,i+1,e',he=>by
  obtain⟨y,r,rfl,h1,h2,h3,h4⟩:=h;simp at he;simpa using h4.get he
theorem iR.append:∀{es fs:List eJ} {ys zs:List MapEntry},iR ρ es ys->iR ρ fs zs->iR ρ (es++fs) (ys++zs)
 | [],fs,ys,zs,h,h'=>by have:ys= []:=h;subst this;exact h'
 | e::es,fs,ys,zs,h,h'=>by
  obtain⟨y,r,rfl,h1,h2,h3,h4⟩:=h;exact⟨y,r++zs,rfl,h1,h2,h3,h4.append h'⟩
theorem iR.set:∀{es:List eJ} {ys:List MapEntry},iR ρ es ys->∀(i:Nat) {e:eJ} {y:MapEntry},VR ρ e.key y.key->VR ρ e.val y.val->y.born=e.born->iR ρ (es.set i e) (ys.set i y)
 | [],ys,h,i,_,_,_,_,_=>by have:ys= []:=h;subst this;simp[iR]
 | e::es,ys,h,0,_,_,k1,k2,k3=>by
  obtain⟨y,r,rfl,h1,h2,h3,h4⟩:=h;exact⟨_,r,rfl,k1,k2,k3,h4⟩
 | e::es,ys,h,i+1,_,_,k1,k2,k3=>by
  obtain⟨y,r,rfl,h1,h2,h3,h4⟩:=h;exact⟨y,_,rfl,h1,h2,h3,h4.set i k1 k2 k3⟩
theorem iR.erase:∀{es:List eJ} {ys:List MapEntry},iR ρ es ys->∀(i:Nat),iR ρ (es.eraseIdx i) (ys.eraseIdx i)
 | [],ys,h,i=>by have:ys= []:=h;subst this;simp[iR]
 | e::es,ys,h,0=>by obtain⟨y,r,rfl,h1,h2,h3,h4⟩:=h;exact h4
 | e::es,ys,h,i+1=>by
  obtain⟨y,r,rfl,h1,h2,h3,h4⟩:=h;exact⟨y,_,rfl,h1,h2,h3,h4.erase i⟩
theorem Inv.vg (hi:Inv ρ σ w) {b:Pos} {l:Loc} {es:List eJ} {clock:Nat} (ho:σ.m.get b=some (.map es clock)) (hl:ρ b=some l):∃es',w.heap[l.cZ]?=some (.map es' clock)/\iR ρ es es'.toList:=by
 obtain⟨x,hx,es',rfl,h2⟩:=hi.obj b _ l ho hl;exact⟨es',hx,h2⟩
theorem run_getObj_map {r clock:Nat} {es:Array MapEntry} (h:w.heap[r]?=some (.map es clock)):(getObj r).run P w= .ok (.map es clock) w:=by
 simp[getObj,Sem.run,h]
theorem yr (hi:Inv ρ σ w) {ev:Operand->Option AV} {f:Operand->Value} {t:TypeId} {x i:Operand} {ok:Bool} {v:AV} (hx:∀u,ev x=some u->VR ρ u (f x)) (hk:∀u,ev i=some u->VR ρ u (f i))
  (h:fV P ev σ (.lookup t x i ok)=some v):∃z,(Instr.lookup t (f x) (f i) ok).run P w= .ok z w/\VR ρ v z:=by
 simp only[fV] at h;split at h
 ·rename_i kt et k hu hik;simp only[a0] at h;split at h
  ·rename_i hpk;rw[bA_] at hpk;obtain⟨hp,hsh⟩:=hpk;have hkv:=hk _ hik
   have main:∀(es:List eJ) (ys:Array MapEntry),iR ρ es ys.toList->
     (match nJ P kt k es 0,eR P et with
      | some (some (_,v)),some _=>some (if ok=true then AV.tuple [v,.bool true] else v)
      | some none,some z=>some (if ok=true then AV.tuple [z,.bool false] else z)
      | _,_=>none)=some v->
     (Instr.checkKey ys.isEmpty 10000 kt (f i)).run P w= .ok () w/\∃r',(Instr.findKey kt (f i) ys.toList).run P w= .ok r' w/\
      ((∃j y,r'=some (j,y)/\VR ρ v (if ok=true then .tuple #[y,.bool true] else y))∨
       (r'=none/\∃xz,(zeroValue et).run P w= .ok xz w/\VR ρ v (if ok=true then .tuple #[xz,.bool false] else xz))):=by
    intro es ys he hh;have hck:=kV (w:=w) hp hsh hkv ys.isEmpty;cases hf:nJ P kt k es 0 with
    | none=>rw[hf] at hh;cases hh
    | some r=>
     obtain⟨r',g1,g2⟩:=k9 (w:=w) hp hkv he hf;cases hz:eR P et with
     | none=>rw[hf,hz] at hh;cases r<;>cases hh
     | some zz=>
      rw[hf,hz] at hh;obtain⟨iz,xz,hiz,hzero,hzv⟩:=oT hz;cases r with
      | some p=>
       obtain⟨j,u⟩:=p;cases r' with
       | none=>exact g2.elim
       | some q=>
        obtain⟨j',y⟩:=q;obtain⟨_,hy⟩:=g2;refine⟨hck,_,g1,.inl ⟨j',y,rfl,?_⟩⟩;cases hh;cases ok with
        | true=>
         simp only[if_true,VR];exact⟨_,rfl,cG.cons hy (cG.cons (by simp only[VR]) cG.nil)⟩
        | false=>simpa using hy
      | none=>
       cases r' with
       | some q=>exact g2.elim
       | none=>
        have hzr:(zeroValue et).run P w= .ok xz w:=by simp[zeroValue,typeInfo,hiz,hzero]
        refine⟨hck,_,g1,.inr ⟨rfl,xz,hzr,?_⟩⟩;cases hh;cases ok with
        | true=>
         simp only[if_true,VR];exact⟨_,rfl,cG.cons (hzv ρ) (cG.cons (by simp only[VR]) cG.nil)⟩
        | false=>simpa using hzv ρ
   cases hxv:ev x with
   | none=>rw[hxv] at h;cases h
   | some m=>
    rw[hxv] at h;have hmv:=hx m hxv;cases m with
    | gU=>
     simp only[VR] at hmv;dsimp only at h;obtain⟨hck,r',g1,hr⟩:=main [] #[] (by simp[iR]) h;rcases hr with ⟨j,y,rfl,hr⟩ | ⟨rfl,xz,hz,hr⟩
     ·exact⟨_,by rw[hmv];simp only[Instr.lookup,sB_,run_underlying hu,rA,sP_,hck,g1],hr⟩
     exact⟨_,by rw[hmv];simp only[Instr.lookup,sB_,run_underlying hu,rA,sP_,hck,g1,hz],hr⟩
    | map b=>
     simp only[VR] at hmv;obtain⟨l,hl,hf⟩:=hmv;dsimp only at h;cases hb:σ.m.get b with
     | none=>rw[hb] at h;cases h
     | some ob=>
      rw[hb] at h;cases ob with
      | map es clock=>
       dsimp only at h;obtain⟨ys,hh,he⟩:=hi.vg hb hl;obtain⟨hck,r',g1,hr⟩:=main es ys he h;rcases hr with ⟨j,y,rfl,hr⟩ | ⟨rfl,xz,hz,hr⟩
       ·exact⟨_,by rw[hf];simp only[Instr.lookup,sB_,run_underlying hu,rA,sP_,run_getObj_map hh,hck,g1],hr⟩
       exact⟨_,by rw[hf];simp only[Instr.lookup,sB_,run_underlying hu,rA,sP_,run_getObj_map hh,hck,g1,hz],hr⟩
      | _=>cases h
    | _=>cases h
  cases h
 cases h
theorem tp (hi:Inv ρ σ w) {u:Option TypeId} {x:Option AV} {v:AV} {z:Value} (h:qG P u σ x=some v) (hx:∀a,x=some a->VR ρ a z):
  ∃(a:Addr) (e cells:Nat),z= .pointer (some a)/\VR ρ v z/\w.shape? a.block=some (e,cells)/\(match u with | some u=>liesAt P P.depth e (cells/P.cellsOf e) a.off u 1=true | none=>a.off<cells):=by
 unfold qG at h;cases x with
 | none=>cases h
 | some xv=>
  cases xv with
  | ptr b off=>
   have hv:=hx _ rfl;have hv':=hv;simp only[VR] at hv';obtain⟨l,hl,rfl⟩:=hv';dsimp only at h;cases hb:σ.m.get b with
   | none=>rw[hb] at h;cases h
   | some ob=>
    rw[hb] at h;cases ob with
    | own cells e=>
     dsimp only at h;obtain⟨y,hy,⟨h0,h0'⟩,c,fr,rfl,hc,_⟩:=hi.obj b _ l hb hl;have hsz:c.size=cells.length:=by omega
     have hsh:w.shape? l.cZ=some (e,cells.length):=by simp[World.shape?,hy,hsz]
     cases u with
     | some u=>
      dsimp only at h;rw[a0] at h;split at h
      ·rename_i hq;cases h;rw[bz] at hq;exact⟨_,e,cells.length,rfl,hv,hsh,by simpa [h0] using hq⟩
      cases h
     | none=>
      dsimp only at h;rw[a0] at h;split at h
      ·rename_i hq;cases h;rw[nE_,bz] at hq;exact⟨_,e,cells.length,rfl,hv,hsh,by show l.sh+off<cells.length;omega⟩
      cases h
    | _=>cases h
  | _=>cases h
theorem vF (hi:Inv ρ σ w) {ev:Operand->Option AV} {f:Operand->Value} {o:Oper} {v:AV} (hE:ER ρ ev f o.op) (h:fV P ev σ o.op=some v):
  ∃x,(execOp f o).run P w= .ok (.value x) w/\VR ρ v x:=by
 cases ho:o.op with
 | load t x=>
  rw[ho] at h hE;simp only[fV] at h;cases hx:ev x with
  | none=>rw[hx] at h;cases h
  | some u=>
   rw[hx] at h;have hvx:=hE x (by simp[Op.operands]) u hx;cases u with
   | ptr b off=>
    simp only at h;cases hg:σ.m.get b with
    | none=>rw[hg] at h;cases h
    | some ob=>
     rw[hg] at h;cases ob with
     | row cells e ro=>
      simp only[VR] at hvx;obtain⟨l,hl,hfx⟩:=hvx;obtain⟨y,hy,hr⟩:=mn (P:=P) hi hg hl h;refine⟨y,?_,hr⟩;simp[execOp,ho,Instr.loadAt,hfx,Instr.sureAddr,hy]
     | own cells e=>
      simp only[VR] at hvx;obtain⟨l,hl,hfx⟩:=hvx;obtain⟨_,hi',_⟩:=hi.own hg hl;obtain⟨y,hy,hr⟩:=mn (P:=P) hi' (aD.lf _ _ _) hl h;refine⟨y,?_,hr⟩;simp[execOp,ho,Instr.loadAt,hfx,Instr.sureAddr,hy]
     | _=>cases h
   | _=>cases h
 | lookup t x i ok=>
  rw[ho] at h hE;obtain⟨z,h1,h2⟩:=yr (P:=P) hi (f:=f) (hE x (by simp[Op.operands])) (hE i (by simp[Op.operands])) h;exact⟨z,by simp only[execOp,ho,sB_,h1,rA,sP_],h2⟩
 | convert src dst x=>
  rw[ho] at h hE;simp only[fV] at h;split at h
  case h_4=>cases h
  case h_2=>
   rename_i t hs hd;split at h
   ·rename_i j hj;rw[a0] at h;split at h
    ·cases h
    rename_i h0;obtain⟨a,e,cells,hf,hv,hsh,aq⟩:=tp hi h (hE x (by simp[Op.operands]));have hj0:j.size≠0:=fun e=>h0 (by rw[e];rfl)
    refine⟨f x,?_,hv⟩;rw[hf];simp only[execOp,ho,hf,sB_,Lib.run_to_unsafe w a hs hd hj hj0 hsh aq,rA,sP_]
   cases h
  case h_3=>
   rename_i u hs hd;rw[a0] at h;split at h
   ·rename_i hi';obtain⟨j,hj⟩:=Option.isSome_iff_exists.1 hi';obtain⟨a,e,cells,hf,hv,hsh,aq⟩:=tp hi h (hE x (by simp[Op.operands]));refine⟨f x,?_,hv⟩;rw[hf];simp only[execOp,ho,hf,sB_,Lib.run_from_unsafe w a hs hd hj hsh aq,rA,sP_]
   cases h
  rename_i e hs hd;split at h
  case h_3=>cases h
  ·rename_i he hx;cases h;have hv:=hE x (by simp[Op.operands]) _ hx;simp only[VR] at hv;refine⟨.string .empty,?_,by simp only[VR];exact⟨_,rfl,rfl⟩⟩;simp[execOp,ho,convert,hv,run_underlying hs,run_underlying hd,run_underlying he,Conv.bytesToString]
  rename_i b off len cap he hx;have hv:=hE x (by simp[Op.operands]) _ hx
  have fin:∀(a:Addr) (c:Nat) (s:List Nat),f x= .slice (some a) len c->s.length=len->(∀n∈s,n<=255)->(∀(j:Nat) (hj:j<s.length),w.cell? (a.add j)=some (.int .u8 ((s[j]:Nat):Int)))->
    ∃z,(execOp f o).run P w= .ok (.value z) w/\VR ρ (.str s) z:=by
   intro a c s hf hl hle hc
   have hb:∀n∈s,(UInt8.ofNat n).toNat=n:=fun n hn=>by
    have:=hle n hn;rw[UInt8.toNat_ofNat'];omega
   have:=run_convert_bytes_back (P:=P) w src dst e a c (s.map UInt8.ofNat) hs he hd (fun j hj=>by
    have hj':j<s.length:=by simpa using hj
    rw[hc j hj',List.getElem_map,hb _ (List.getElem_mem hj')])
   rw[lM_,hl] at this;refine⟨.string ⟨(s.map UInt8.ofNat).toArray⟩,by simp only[execOp,ho,hf,sB_,this,rA,sP_],?_⟩;simp only[VR];refine⟨_,rfl,?_⟩;unfold gh;simp only[List.map_map]
   conv=>rhs;rw[<-List.map_id s]
   exact List.map_congr_left fun n hn=>hb n hn
  rw[a0] at h;split at h
  ·rename_i h0;have:=nB h0;subst this;cases h;obtain⟨a,c,hf⟩:=VR.iN hv;exact fin a c [] hf rfl (fun n hn=>by cases hn) (fun j hj=>by cases hj)
  rename_i h0;rw[Nat.beq_eq] at h0;split at h
  ·rename_i cells e' ro hb;rw[a0] at h;split at h
   ·rename_i hle;rw[nE_,bz] at hle;split at h
    ·rename_i s hbs;cases h
     obtain⟨l,c,hl,hf⟩:∃l c,ρ b=some l/\f x= .slice (some ⟨l.cZ,l.sh+off,none⟩) len c:=by
      cases cap with
      | known c=>simp only[VR] at hv;obtain⟨l,hl,h'⟩:=hv;exact⟨l,c,hl,h'⟩
      | upto sz=>
       simp only[VR] at hv;obtain⟨l,hl,⟨c,h',_⟩ | ⟨h',_⟩⟩:=hv
       ·exact⟨l,c,hl,h'⟩
       exact absurd h' h0
      | least a sz=>simp only[VR] at hv;obtain⟨l,hl,c,h',_⟩:=hv;exact⟨l,c,hl,h'⟩
     obtain⟨ys,hyl,hys,hcell⟩:=hi.piece hb hl off len hle;rw[dp,dO] at hbs
     have key:∀(l:List AV) (s:List Nat),cF wJ l=some s->s.length=l.length/\(∀n∈s,n<=255)/\∀(j:Nat) (n:Nat),s[j]?=some n->l[j]?=some (.int .u8 (.ofNat n)):=by
      intro l;induction l with
      | nil=>intro s h;rw[gL] at h;cases h;exact⟨rfl,fun n hn=>(by cases hn),fun j n hn=>(by simp at hn)⟩
      | cons x l ih=>
       intro s h;obtain⟨y,r,h1,h2,rfl⟩:=fX h;obtain⟨k1,k2,k3⟩:=ih r h2
       have hx:x= .int .u8 (.ofNat y)/\y<=255:=by
        unfold wJ at h1;split at h1
        ·rw[a0] at h1;split at h1
         ·rename_i hle;cases h1;exact⟨rfl,by rwa[nE_] at hle⟩
         cases h1
        cases h1
       refine⟨by simp[k1],fun n hn=>?_,fun j n hn=>?_⟩
       ·rcases mQ_.1 hn with rfl | hn
        ·exact hx.2
        exact k2 n hn
       cases j with
       | zero=>simp at hn;subst hn;simp[hx.1]
       | succ j=>simp only[List.getElem?_cons_succ] at hn⊢;exact k3 j n hn
     obtain⟨k1,k2,k3⟩:=key _ s hbs;have hsl:s.length=len:=by rw[k1,lT_,lD_];omega
     refine fin _ c s hf hsl k2 (fun j hj=>?_);have h1:=k3 j s[j] (gC hj);obtain⟨y,hy,hvy⟩:=hys.get h1;simp only[VR] at hvy;subst hvy;exact hcell j _ hy
    cases h
   cases h
  cases h
 | call c=>
  rw[ho] at h hE;simp only[fV] at h;split at h
  ·rename_i hcal;split at h
   ·rename_i u1 u2 t x e1 e2;have hargs:c.args= #[x]:=by rw[<-Array.toList_inj];exact e2
    split at h
    ·rename_i u3 u4 kt et b hu hx;have hv:=hE x (by simp[Op.operands,Call.operands,hcal,hargs]) _ hx;simp only[VR] at hv;obtain⟨l,hl,hf⟩:=hv;split at h
     ·rename_i es clock hb;cases h;obtain⟨ys,hh,he⟩:=hi.vg hb hl;refine⟨.int .i64 (Int.ofNat (cD es)),?_,by simp only[VR]⟩;have hlen:ys.size=es.length:=by have:=he.length;simpa using this
      simp[execOp,ho,resolve,hcal,hargs,invoke,builtin,Builtin.len_,e1,run_underlying hu,hf,run_getObj_map hh,goInt,bz,hlen]
     cases h
    ·rename_i u3 u4 kt et hu hx;cases h;have hv:=hE x (by simp[Op.operands,Call.operands,hcal,hargs]) _ hx;simp only[VR] at hv;refine⟨.int .i64 0,?_,by simp only[VR]⟩;simp[execOp,ho,resolve,hcal,hargs,invoke,builtin,Builtin.len_,e1,run_underlying hu,hv,goInt]
    cases h
   cases h
  cases h
 | _=>rw[ho] at h;simp[fV] at h
end
section
variable {P:Program} {ρ:cz} {σ:aD} {w:World}
theorem BM {ts:Array TypeId} {ty:TypeId} {x v:AV} {y:Value} (h:C5 x=some v) (hx:VR ρ x y):∃z,(Builtin.unsafeSliceData_ ts ty #[y]).run P w= .ok z w/\VR ρ v z:=by
 unfold C5 at h;split at h
 ·cases h;simp only[VR] at hx;subst hx;exact⟨_,Lib.run_unsafeSliceData_nil w ts ty 0 0,by simp only[VR]⟩
 ·rename_i b off len c;rw[a0] at h;split at h
  ·rename_i hr;cases h;cases c with
   | known c=>
    simp only[VR] at hx;obtain⟨l,hl,rfl⟩:=hx;have hr:Nat.ble 1 c=true:=hr;rw[nE_] at hr;exact⟨_,Lib.run_unsafeSliceData_row w ts ty _ _ _ (by omega),by simp only[VR];exact⟨l,hl,rfl⟩⟩
   | upto s=>
    have hr:Nat.ble 1 len=true:=hr;rw[nE_] at hr;simp only[VR] at hx;obtain⟨l,hl,⟨c,rfl,hc,_⟩ | ⟨h0,_⟩⟩:=hx
    ·exact⟨_,Lib.run_unsafeSliceData_row w ts ty _ _ _ (by omega),by simp only[VR];exact⟨l,hl,rfl⟩⟩
    omega
   | least a s=>
    have hr:Nat.ble 1 a=true:=hr;rw[nE_] at hr;simp only[VR] at hx;obtain⟨l,hl,c,rfl,hc,_⟩:=hx;exact⟨_,Lib.run_unsafeSliceData_row w ts ty _ _ _ (by omega),by simp only[VR];exact⟨l,hl,rfl⟩⟩
  cases h
 cases h
theorem zu:∀{l:List AV} {s:List Nat},cF wJ l=some s->s.length=l.length/\(∀n∈s,n<=255)/\∀(j:Nat) (n:Nat),s[j]?=some n->l[j]?=some (.int .u8 (.ofNat n))
 | [],s,h=>by rw[gL] at h;cases h;exact⟨rfl,fun n hn=>(by cases hn),fun j n hn=>(by simp at hn)⟩
 | x::l,s,h=>by
  obtain⟨y,r,h1,h2,rfl⟩:=fX h;obtain⟨k1,k2,k3⟩:=zu h2
  have hx:x= .int .u8 (.ofNat y)/\y<=255:=by
   unfold wJ at h1;split at h1
   ·rw[a0] at h1;split at h1
    ·rename_i hle;cases h1;exact⟨rfl,by rwa[nE_] at hle⟩
    cases h1
   cases h1
  refine⟨by simp[k1],fun n hn=>?_,fun j n hn=>?_⟩
  ·rcases mQ_.1 hn with rfl | hn
   ·exact hx.2
   exact k2 n hn
  cases j with
  | zero=>simp at hn;subst hn;simp[hx.1]
  | succ j=>simp only[List.getElem?_cons_succ] at hn⊢;exact k3 j n hn
theorem rR (ts:Array TypeId) (ty:TypeId) (k:Value):Builtin.unsafeString_ ts ty #[.pointer none,k]=
   (do
    let n <-asInt k
    let some _:=ts[0]? | stuck "unsafe.String: no argument types"
    if n<0 then runtimePanic (.error "unsafe.String: len out of range")
    if n>IntKind.i64.max then unsupported (.unsafePointer "String: a length above the largest int")
    if n=0 then pure (.string .empty)
    else runtimePanic (.error "unsafe.String: ptr is nil and len is not zero")):=rfl
theorem lX (ts:Array TypeId) (ty:TypeId) (a:Addr) (k:Value):Builtin.unsafeString_ ts ty #[.pointer (some a),k]=
   (do
    let n <-asInt k
    let some pt:=ts[0]? | stuck "unsafe.String: no argument types"
    if n<0 then runtimePanic (.error "unsafe.String: len out of range")
    if n>IntKind.i64.max then unsupported (.unsafePointer "String: a length above the largest int")
    if n=0 then pure (.string .empty)
    else if <-variablesAt a (<-elemOf pt) n.toNat then do
     let s <-loadBytes a .empty n.toNat
     freeze a n.toNat
     pure (.string s)
    else unsupported (.unsafePointer "String: not so many bytes at ptr")):=rfl
theorem jx {ts:Array TypeId} {ty pt:TypeId} (ht:ts[0]?=some pt) (p:Option Addr):(Builtin.unsafeString_ ts ty #[.pointer p,.int .i64 0]).run P w= .ok (.string .empty) w:=by
 have hmax:IntKind.i64.max=9223372036854775807:=rfl;cases p with
 | none=>rw[rR];simp[ht,asInt,asIntOf,hmax]
 | some a=>rw[lX];simp[ht,asInt,asIntOf,hmax]
theorem pJ {ts:Array TypeId} {ty pt e:TypeId} (ht:ts[0]?=some pt) (hp:P.underlying pt=some (.pointer e)) (hc:P.cellsOf e=1) (g off cells:Nat) (hsh:w.shape? g=some (e,cells)) (l:List UInt8) (h0:l≠[]) (hn:off+l.length<=cells) (h63:l.length<=9223372036854775807)
  (hcell:∀j x,l[j]?=some x->w.cell? ((⟨g,off,none⟩:Addr).add j)=some (.int .u8 x.toNat)):
  (Builtin.unsafeString_ ts ty #[.pointer (some ⟨g,off,none⟩),.int .i64 l.length]).run P w= .ok (.string ⟨l.toArray⟩) (w.freeze ⟨g,off,none⟩ l.length):=by
 have hl:l.length≠0:=by simpa using h0
 have hlb:=Lib.run_loadBytes (P:=P) w l ⟨g,off,none⟩ .empty hcell
 have hlies:liesAt P P.depth e (cells/P.cellsOf e) off e l.length=true:=by
  have hd:P.depth=(2*(P.types.size+Made.depth)+1)+1:=rfl;rw[hd];simp only[liesAt,Bool.or_eq_true];left;rw[hd];simp[rowAt,hc,hn,sameLayout,Nat.mod_one]
 have h63':¬(9223372036854775807:Int)<(l.length:Int):=by omega
 have hmax:IntKind.i64.max=9223372036854775807:=rfl;have hneg:¬(l.length:Int)<0:=by omega
 rw[lX];simp[ht,asInt,asIntOf,hmax,h63',hneg,hl,variablesAt,hsh,elemOf,run_underlying hp,hlies,hlb]
theorem CM (hi:Inv ρ σ w) {ts:Array TypeId} {ty:TypeId} {p n:AV} {yp yn:Value} {s:List Nat} {σ':aD} (h:DT P σ ts[0]? p n=some (s,σ')) (hp:VR ρ p yp) (hn:VR ρ n yn):
  ∃z w',(Builtin.unsafeString_ ts ty #[yp,yn]).run P w= .ok z w'/\VR ρ (.str s) z/\Inv ρ σ' w'/\dZ ρ σ w ρ σ' w':=by
 unfold DT at h;split at h
 ·rename_i k;simp only[VR] at hn;subst hn;rw[a0] at h;split at h
  ·rename_i h0;have:=nB h0;subst this;split at h
   ·rename_i u1 u2 pt ht;cases h;simp only[VR] at hp;subst hp;exact⟨_,w,jx ht _,by simp only[VR];exact⟨_,rfl,rfl⟩,hi,dZ.refl _ _ _⟩
   ·rename_i u1 u2 pt b off ht;cases h;simp only[VR] at hp;obtain⟨l,hl,rfl⟩:=hp;exact⟨_,w,jx ht _,by simp only[VR];exact⟨_,rfl,rfl⟩,hi,dZ.refl _ _ _⟩
   cases h
  rename_i h0;rw[Nat.beq_eq] at h0;split at h
  ·rename_i u1 u2 pt b off ht;split at h
   ·rename_i u3 u4 u cells e hu hb;rw[a0] at h;split at h
    ·rename_i hc;simp only[bA_,Nat.beq_eq,nE_,bz] at hc;obtain⟨rfl,hc1,hle,h63⟩:=hc;split at h
     ·rename_i s' hs;cases h;simp only[VR] at hp;obtain⟨l,hl,rfl⟩:=hp;rw[dp,dO] at hs;obtain⟨k1,k2,k3⟩:=zu hs;have hsl:s.length=k:=by rw[k1,lT_,lD_];omega
      obtain⟨c,fr,hh1,hh2,hh3,hh4,hh5⟩:=hi.row hb hl;obtain⟨ys,hyl,hys,hcell⟩:=hi.piece hb hl off k hle
      have hbt:∀n∈s,(UInt8.ofNat n).toNat=n:=fun n hn=>by
       have:=k2 n hn;rw[UInt8.toNat_ofNat'];omega
      have hlen:(s.map UInt8.ofNat).length=k:=by rw[lM_,hsl]
      have r:=pJ (P:=P) (w:=w) (ty:=ty) ht hu hc1 l.cZ (l.sh+off) c.size (by simp[World.shape?,hh1]) (s.map UInt8.ofNat) (by intro e;rw[e] at hlen;simp at hlen;omega) (by rw[hlen];omega) (by rw[hlen];omega)
       (fun j x hx=>by
        rw[gM_] at hx;cases hj:s[j]? with
        | none=>rw[hj] at hx;cases hx
        | some m=>
         rw[hj] at hx;cases hx;have h1:=k3 j m hj;obtain⟨y,hy,hvy⟩:=hys.get h1;simp only[VR] at hvy;subst hvy;rw[hcell j _ hy,hbt m (gB_ hj)];rfl)
      rw[hlen] at r;have hne:¬k=0:=h0
      have hw:∃fr',(w.freeze ⟨l.cZ,l.sh+off,none⟩ k).heap[l.cZ]?=some (.cells c e fr'):=by
       unfold World.freeze;rw[if_neg hne];simp only[Array.getElem?_modify,hh1];exact⟨_,rfl⟩
      obtain⟨fr',hw⟩:=hw
      have hoth:∀r,r≠l.cZ->(w.freeze ⟨l.cZ,l.sh+off,none⟩ k).heap[r]?=w.heap[r]?:=fun r hr=>by
       unfold World.freeze;rw[if_neg hne];simp only[Array.getElem?_modify];rw[if_neg (fun e=>hr e.symm)]
      obtain⟨i2,s2⟩:=hi.C1 hb hl rfl (o':=.row cells e true) hw ⟨c,fr',rfl,hh2,hh3,hh4,fun h=>by cases h⟩ hoth (by unfold World.freeze;rw[if_neg hne];simp) (by unfold World.freeze;rw[if_neg hne]) (by unfold World.freeze;rw[if_neg hne]) (by unfold World.freeze;rw[if_neg hne]);refine⟨_,_,r,?_,i2,s2⟩;simp only[VR];refine⟨_,rfl,?_⟩;unfold gh;simp only[List.map_map]
      conv=>rhs;rw[<-List.map_id s]
      exact List.map_congr_left fun n hn=>hbt n hn
     cases h
    cases h
   cases h
  cases h
 cases h
theorem zw (hi:Inv ρ σ w) {src dst:TypeId} {x v:AV} {y:Value} {σ':aD} (h:kT P σ src dst x= .val v σ') (hx:VR ρ x y):
  ∃z w' ρ',(convert src dst y).run P w= .ok z w'/\VR ρ' v z/\Inv ρ' σ' w'/\dZ ρ σ w ρ' σ' w':=by
 unfold kT at h;split at h
 ·rename_i e s hs hd;split at h
  ·rename_i he;rw[a0] at h;split at h
   ·rename_i hc1;cases h;simp only[VR] at hx;obtain⟨bs,rfl,hs'⟩:=hx;have hcap:bs.size<=grownCap w bs.size 0 e:=grownCap_ge _ _ _ _
    have hsz:(Lib.bytesCells w e bs).size=grownCap w bs.size 0 e:=by
     unfold Lib.bytesCells;simp;have:bs.data.size=bs.size:=rfl;omega
    have hlen:cD s=bs.size:=iP hs';have hlist:(wy (fun c=>AV.int .u8 (Int.ofNat c)) s).length=bs.size:=by rw[kE,lM_,<-bz,hlen]
    have ho:gn ρ ⟨w.heap.size,0,grownCap w bs.size 0 e⟩ (.row (wy (fun c=>AV.int .u8 (Int.ofNat c)) s) e true) (.cells (Lib.bytesCells w e bs) e ((Lib.bytesCells w e bs).size,(Lib.bytesCells w e bs).size+1)):=by
     refine⟨_,_,rfl,by simp[hsz],by rw[hlist];exact hcap,fun i v hv=>?_,fun h=>by cases h⟩;rw[kE,gM_] at hv;cases hsi:s[i]? with
     | none=>rw[hsi] at hv;cases hv
     | some m=>
      rw[hsi] at hv;cases hv;have hbi:(bs.data.toList.map UInt8.toNat)[i]?=some m:=by unfold gh at hs';rw[hs'];exact hsi
      rw[gM_] at hbi;cases hq:bs.data.toList[i]? with
      | none=>rw[hq] at hbi;cases hbi
      | some b=>
       rw[hq] at hbi;cases hbi;have hq':bs.data[i]?=some b:=by rw[<-aT_];exact hq
       have hlt:i<bs.data.size:=(aS_.1 hq').1;refine⟨.int .u8 b.toNat,?_,by simp only[VR];rfl⟩;unfold Lib.bytesCells;show((bs.data.map fun b=>Value.int .u8 b.toNat)++_)[0+i]?=_;rw[nA_,Array.getElem?_append_left (by simpa using hlt),Array.getElem?_map,hq'];rfl
    have hi1:=hi.drew;obtain⟨i2,s2⟩:=hi1.alloc (l:=⟨w.heap.size,0,grownCap w bs.size 0 e⟩) (x:=.cells (Lib.bytesCells w e bs) e ((Lib.bytesCells w e bs).size,(Lib.bytesCells w e bs).size+1)) rfl ho
    have hw:(w.drew.alloc (.cells (Lib.bytesCells w e bs) e ((Lib.bytesCells w e bs).size,(Lib.bytesCells w e bs).size+1)))=Lib.bytesWorld w e bs:=by
     unfold Lib.bytesWorld World.freeze;rw[if_neg (by omega)]
     have:∀(h:Array Obj) (a b:Obj) (f:Obj->Obj),f a=b->(h.push a).modify h.size f=h.push b:=fun h a b f e=>by
      apply Array.ext_getElem?;intro i;rw[Array.getElem?_modify,Array.getElem?_push,Array.getElem?_push]
      by_cases hi:h.size=i
      ·subst hi;simp[e]
      rw[if_neg hi,if_neg (fun e=>hi e.symm),if_neg (fun e=>hi e.symm)]
     simp only[World.alloc,World.drew];congr 1
     symm
     exact this w.heap _ _ _ rfl
    rw[hw] at i2 s2;refine⟨_,_,_,Lib.run_convert_string_bytes w src dst e bs hs hd he,?_,i2,(dZ.drew ρ σ w).trans s2⟩;simp only[VR];refine⟨_,cz.b0 _ _ _,.inl ⟨grownCap w bs.size 0 e,by rw[hlen],by rw[hlen];exact hcap,by simp⟩⟩
   cases h
  cases h
 cases h
theorem BC (P:Program) (σ:aD) (src dst:TypeId) (x:AV) (v:AV) (σ':aD):kT P σ src dst x≠ .iU v σ':=by
 unfold kT
 repeat' split
 all_goals (try rw[a0])
 all_goals (try split)
 all_goals (intro h;cases h)
theorem qi (P:Program) (σ:aD) (src dst:TypeId) (x:AV):∀f args σ',kT P σ src dst x≠ .enter f args σ'/\kT P σ src dst x≠ .round f args σ'/\kT P σ src dst x≠ .skip σ':=by
 intro f args σ';unfold kT
 repeat' split
 all_goals (try rw[a0])
 all_goals (try split)
 all_goals exact⟨(by intro h;cases h),(by intro h;cases h),(by intro h;cases h)⟩
end
section
variable {P:Program} {ρ:cz} {σ:aD} {w:World}
theorem s8 {x y:AV} {a c:Value} (h:qu x y=some true) (hx:VR ρ x a) (hy:VR ρ y c) (n:Nat):Instr.sameBits n a c=true:=by
 unfold qu at h;split at h
 ·simp only[VR] at hx hy;subst hx;subst hy;simp only[oJ_,kW] at h;simp only[Instr.sameBits,h]
 ·rename_i j a' k b';simp only[a0] at h;split at h
  ·rename_i hk;have:=oc hk;subst this;simp only[oJ_,dq,decide_eq_true_eq] at h;subst h;simp only[VR] at hx hy;subst hx;subst hy;simp[Instr.sameBits]
  cases h
 ·simp only[VR] at hx hy;obtain⟨p,rfl,hp⟩:=hx;obtain⟨q,rfl,hq⟩:=hy;simp only[oJ_] at h;rw[m5 hp hq] at h;have e:p.toList=q.toList:=by simpa using h
  simp only[Instr.sameBits,beq_toListBytes];simpa using e
 cases h
theorem pR:∀{xs ys:List AV} {as cs:List Value},nZ xs ys=true->cG ρ xs as->cG ρ ys cs->∀n,as.length=cs.length/\((as.zip cs).all fun(x,y)=>Instr.sameBits n x y)=true
 | [],[],as,cs,_,hx,hy,n=>by rw[hx.ee,hy.ee];simp
 | [],y::ys,as,cs,h,hx,hy,n=>by cases h
 | x::xs,[],as,cs,h,hx,hy,n=>by cases h
 | x::xs,y::ys,as,cs,h,hx,hy,n=>by
  obtain⟨a,as',rfl,h1,h2⟩:=hx.cons_inv;obtain⟨c,cs',rfl,h3,h4⟩:=hy.cons_inv;have h':(match qu x y with | some true=>nZ xs ys | _=>false)=true:=h;split at h'
  ·rename_i he;obtain⟨g1,g2⟩:=pR h' h2 h4 n;refine⟨by simp[g1],?_⟩;simp only[List.zip_cons_cons,List.all_cons,bA_];exact⟨s8 he h1 h3 n,g2⟩
  cases h'
theorem yM {x y:AV} {a c:Value} (h:sameKey x y=true) (hx:VR ρ x a) (hy:VR ρ y c) (n:Nat):Instr.sameBits (n+1) a c=true:=by
 unfold sameKey at h;split at h
 ·simp only[VR] at hx hy;obtain⟨as,rfl,hx⟩:=hx;obtain⟨cs,rfl,hy⟩:=hy;obtain⟨g1,g2⟩:=pR h hx hy n;simp only[Instr.sameBits,bA_,beq_iff_eq];exact⟨by simpa using g1,g2⟩
 split at h
 ·rename_i b hb;subst h;exact s8 hb hx hy _
 cases h
theorem Ff (e:eJ) (es:List eJ) (i:Nat):yO e es i=es.set i e:=sH _ _ _
theorem wU:∀(es:List eJ) (i:Nat),ur es i=es.eraseIdx i
 | [],i=>rfl
 | e::es,0=>rfl
 | e::es,i+1=>congrArg (e::·) (wU es i)
theorem Inv.yP (hi:Inv ρ σ w) {b:Pos} {l:Loc} {es es':List eJ} {clock clock':Nat} {ys:Array MapEntry} (hb:σ.m.get b=some (.map es clock)) (hl:ρ b=some l) (he:iR ρ es' ys.toList):
  ∃w',(setObj l.cZ (.map ys clock')).run P w= .ok () w'/\Inv ρ (σ.setObj b (.map es' clock')) w'/\dZ ρ σ w ρ (σ.setObj b (.map es' clock')) w':=by
 obtain⟨zs,hh,_⟩:=hi.vg hb hl;refine⟨{w with heap:=w.heap.setIfInBounds l.cZ (.map ys clock')},by simp[setObj,Sem.run,hh],?_⟩;have hlt:=hi.cZ b l hl
 exact hi.change hb hl rfl rfl (x:=.map ys clock') (by simp[Array.getElem?_setIfInBounds,hlt]) ⟨ys,rfl,he⟩
  (fun r hr=>by simp[Array.getElem?_setIfInBounds,Ne.symm hr]) (by simp) rfl rfl rfl
theorem rS (hi:Inv ρ σ w) {t:TypeId} {m k v:AV} {ym yk yv:Value} {σ':aD} (h:lY P σ t m k v=some σ') (hm:VR ρ m ym) (hk:VR ρ k yk) (hv:VR ρ v yv):
  ∃w',(Instr.mapUpdate t ym yk yv).run P w= .ok () w'/\Inv ρ σ' w'/\dZ ρ σ w ρ σ' w':=by
 unfold lY at h;split at h
 ·rename_i u1 u2 kt et b hu;split at h
  ·rename_i es clock hb;simp only[a0] at h;split at h
   ·rename_i hpk;rw[bA_] at hpk;obtain⟨hp,hsh⟩:=hpk;simp only[VR] at hm;obtain⟨l,hl,rfl⟩:=hm;obtain⟨ys,hh,he⟩:=hi.vg hb hl;have hck:=kV (w:=w) hp hsh hk false;split at h
    ·rename_i i u hf;obtain⟨r',g1,g2⟩:=k9 (w:=w) hp hk he hf;cases r' with
     | none=>exact g2.elim
     | some q=>
     obtain⟨j,y⟩:=q;obtain⟨rfl,hy⟩:=g2;rw[fC] at h;split at h
     ·rename_i e hn;split at h
      ·rename_i hs;cases h;obtain⟨ye,hye,e1,e2,e3⟩:=he.get hn;have hsb:=yM hs e1 hk 9999;have hye':ys[i]?=some ye:=by rw[<-aT_];exact hye
       have hkts:(Instr.keyThatStays (((ys[i]?).map (·.key)).getD yk) yk).run P w= .ok yk w:=by
        simp[Instr.keyThatStays,hye',hsb]
       have hmod:(ys.modify i fun e=>{e with key:=yk,val:=yv}).toList=ys.toList.set i {key:=yk,val:=yv,born:=e.born}:=by
        apply List.ext_getElem?;intro q;rw[aT_,Array.getElem?_modify,List.getElem?_set];have hlt:i<ys.toList.length:=(gA.1 hye).1
        by_cases eq:i=q
        ·subst eq;simp[hye',e3];simpa using hlt
        simp[eq]
       obtain⟨w',r,inv,st⟩:=hi.yP (P:=P) (clock':=clock) (es':=yO {key:=k,val:=v,born:=e.born} es i) (ys:=ys.modify i fun e=>{e with key:=yk,val:=yv}) hb hl (by
        rw[hmod,Ff];exact he.set i hk hv rfl)
       refine⟨w',?_,inv,st⟩;simp only[Instr.mapUpdate,sB_,run_underlying hu,rA,run_getObj_map hh,hck,g1,hkts,r]
      cases h
     cases h
    ·rename_i hf;cases h;obtain⟨r',g1,g2⟩:=k9 (w:=w) hp hk he hf;cases r' with
     | some q=>exact g2.elim
     | none=>
     obtain⟨w',r,inv,st⟩:=hi.yP (P:=P) (clock':=clock+1) (es':=fD es [{key:=k,val:=v,born:=clock}]) (ys:=ys.push {key:=yk,val:=yv,born:=clock}) hb hl (by
      rw[dw,Array.toList_push];exact he.append ⟨_,[],rfl,hk,hv,rfl,rfl⟩)
     refine⟨w',?_,inv,st⟩;simp only[Instr.mapUpdate,sB_,run_underlying hu,rA,run_getObj_map hh,hck,g1,r]
    cases h
   cases h
  cases h
 cases h
theorem x7 (hi:Inv ρ σ w) {ts:Array TypeId} {ty:TypeId} {m k:AV} {ym yk:Value} {σ':aD} (h:oY P σ ts m k=some σ') (hm:VR ρ m ym) (hk:VR ρ k yk):
  ∃w',(Builtin.delete_ ts ty #[ym,yk]).run P w= .ok (.tuple #[]) w'/\Inv ρ σ' w'/\dZ ρ σ w ρ σ' w':=by
 unfold oY at h;split at h
 ·rename_i t ht;split at h
  ·rename_i u1 u2 kt et b hu;split at h
   ·rename_i es clock hb;simp only[a0] at h;split at h
    ·rename_i hpk;rw[bA_] at hpk;obtain⟨hp,hsh⟩:=hpk;simp only[VR] at hm;obtain⟨l,hl,rfl⟩:=hm;obtain⟨ys,hh,he⟩:=hi.vg hb hl;have hck:=kV (w:=w) hp hsh hk ys.isEmpty;split at h
     ·rename_i i u hf;cases h;obtain⟨r',g1,g2⟩:=k9 (w:=w) hp hk he hf;cases r' with
      | none=>exact g2.elim
      | some q=>
      obtain⟨j,y⟩:=q;obtain⟨rfl,hy⟩:=g2
      obtain⟨w',r,inv,st⟩:=hi.yP (P:=P) (clock':=clock) (es':=ur es i) (ys:=ys.eraseIdxIfInBounds i) hb hl (by
       rw[Array.toList_eraseIdxIfInBounds,wU];exact he.erase i)
      refine⟨w',?_,inv,st⟩;simp only[Builtin.delete_,ht,List.getElem?_toArray,List.getElem?_cons_zero,List.getElem?_cons_succ,sB_,run_underlying hu,rA,run_getObj_map hh,hck,g1,r,sP_]
     ·rename_i hf;cases h;obtain⟨r',g1,g2⟩:=k9 (w:=w) hp hk he hf;cases r' with
      | some q=>exact g2.elim
      | none=>
      obtain⟨w',r,inv,st⟩:=hi.yP (P:=P) (clock':=clock) (es':=es) (ys:=ys) hb hl he;refine⟨w',?_,inv,st⟩;simp only[Builtin.delete_,ht,List.getElem?_toArray,List.getElem?_cons_zero,List.getElem?_cons_succ,sB_,run_underlying hu,rA,run_getObj_map hh,hck,g1,r,sP_]
     cases h
    cases h
   cases h
  cases h
 cases h
def HR.isVal:HR->Prop
 | .val ..=>True
 | .err _=>True
 | _=>False
theorem Bz (P:Program) (σ:aD) (ts:Array TypeId) (s x:AV):(fl P σ ts s x).isVal:=by
 unfold fl;simp only[a0,grow]
 repeat' (first | trivial | split)
theorem zm (P:Program) (σ:aD) (ts:Array TypeId) (s x:AV):(oV P σ ts s x).isVal:=by
 unfold oV;simp only[a0,grow]
 repeat' (first | trivial | split)
theorem FN (P:Program) (σ:aD) (ts:Array TypeId) (s x:AV):(wP P σ ts s x).isVal:=by
 unfold wP;simp only[a0]
 repeat' (first | trivial | split)
theorem z0 {ov:Nat->Bool} (hov:∀g,ov g=true->m8 P g) (hi:Inv ρ σ w) {ev:Operand->Option AV} {f:Operand->Value} {o:Oper} {r:HR} (hE:ER ρ ev f o.op) (h:gQ P ov ev σ o.op=r) (hne:∀n,r≠ .err n):
  wh P ρ σ w r ((execOp f o).run P w):=by
 cases ho:o.op with
 | store t x y=>
  rw[ho] at h hE;simp only[gQ] at h;cases hx:ev x with
  | none=>rw[hx] at h;exact absurd h.symm (hne 11)
  | some a=>
  cases hy:ev y with
  | none=>rw[hx,hy] at h;exact absurd h.symm (hne 11)
  | some v=>
  rw[hx,hy] at h;dsimp only at h;cases hs:vY P σ t a v with
  | none=>rw[hs] at h;exact absurd h.symm (hne 10)
  | some σ'=>
   rw[hs] at h;subst h;obtain⟨w',r,inv,st⟩:=AQ (P:=P) hi hs (hE x (by simp[Op.operands]) a hx) (hE y (by simp[Op.operands]) v hy);have:(execOp f o).run P w= .ok .skip w':=by simp only[execOp,ho,sB_,r,rA,sP_]
   rw[this];exact .skip inv st
 | mapUpdate t m k x=>
  rw[ho] at h hE;simp only[gQ] at h;cases hm:ev m with
  | none=>rw[hm] at h;exact absurd h.symm (hne 20)
  | some a=>
  cases hk:ev k with
  | none=>rw[hm,hk] at h;exact absurd h.symm (hne 20)
  | some b=>
  cases hx:ev x with
  | none=>rw[hm,hk,hx] at h;exact absurd h.symm (hne 20)
  | some v=>
  rw[hm,hk,hx] at h;dsimp only at h;cases hs:lY P σ t a b v with
  | none=>rw[hs] at h;exact absurd h.symm (hne 19)
  | some σ'=>
   rw[hs] at h;subst h;obtain⟨w',r,inv,st⟩:=rS (P:=P) hi hs (hE m (by simp[Op.operands]) a hm) (hE k (by simp[Op.operands]) b hk) (hE x (by simp[Op.operands]) v hx);have:(execOp f o).run P w= .ok .skip w':=by simp only[execOp,ho,sB_,r,rA,sP_]
   rw[this];exact .skip inv st
 | insert t m k x=>
  rw[ho] at h hE;simp only[gQ] at h;cases hm:ev m with
  | none=>rw[hm] at h;exact absurd h.symm (hne 20)
  | some a=>
  cases hk:ev k with
  | none=>rw[hm,hk] at h;exact absurd h.symm (hne 20)
  | some b=>
  cases hx:ev x with
  | none=>rw[hm,hk,hx] at h;exact absurd h.symm (hne 20)
  | some v=>
  rw[hm,hk,hx] at h;dsimp only at h;cases hs:lY P σ t a b v with
  | none=>rw[hs] at h;exact absurd h.symm (hne 19)
  | some σ'=>
   rw[hs] at h;subst h;obtain⟨w',r,inv,st⟩:=rS (P:=P) hi hs (hE m (by simp[Op.operands]) a hm) (hE k (by simp[Op.operands]) b hk) (hE x (by simp[Op.operands]) v hx);have:(execOp f o).run P w= .ok .skip w':=by simp only[execOp,ho,sB_,r,rA,sP_]
   rw[this];exact .skip inv st
 | call c=>
  rw[ho] at h hE;simp only[gQ] at h;split at h
  ·rename_i g hcal;split at h
   ·rename_i u1 u2 y args hg ha;have hE':∀x∈c.args.toList,∀v,ev x=some v->VR ρ v (f x):=fun x hx=>hE x (by simp[Op.operands,Call.operands,hcal];right;simpa using hx)
    have:=FJ (P:=P) (w:=w) hov hi h hne (hE g (by simp[Op.operands,Call.operands,hcal]) y hg) (xs:=c.args.map f) (by simpa using fK ha hE');simpa only[execOp,ho,resolve,hcal] using this
   exact absurd h.symm (hne 12)
  ·rename_i hcal;split at h
   ·rename_i u1 s x ha;subst h;have hE':∀x∈c.args.toList,∀v,ev x=some v->VR ρ v (f x):=fun x hx=>hE x (by simp[Op.operands,Call.operands,hcal];simpa using hx)
    obtain⟨ys,rs,e,h1,h2⟩:=(fK ha hE').cons_inv;obtain⟨yx,rs',rfl,h3,h4⟩:=h2.cons_inv;have:=h4.ee;subst this;have hargs:c.args.map f= #[ys,yx]:=by rw[<-Array.toList_inj];simpa using e
    rw[a0] at hne;rw[a0];split at hne
    ·rename_i hc;rw[if_pos hc];have hv:=Bz P σ c.argTypes s x;cases hr:fl P σ c.argTypes s x with
     | val v σ'=>
      obtain⟨z,w',ρ',g1,g2,g3,g4⟩:=xR (P:=P) (ty:=o.type) hi hr h1 h3
      have:(execOp f o).run P w= .ok (.value z) w':=by
       simp only[execOp,ho,resolve,hcal,hargs,sB_,sP_,rA,invoke,builtin,g1]
      rw[this];exact .val g2 g3 g4
     | err n=>exact absurd hr (hne n)
     | _=>rw[hr] at hv;exact hv.elim
    rename_i hc;rw[if_neg hc];have hv:=zm P σ c.argTypes s x;cases hr:oV P σ c.argTypes s x with
    | val v σ'=>
     obtain⟨z,w',ρ',g1,g2,g3,g4⟩:=wi (P:=P) (ty:=o.type) hi hr h1 h3
     have:(execOp f o).run P w= .ok (.value z) w':=by
      simp only[execOp,ho,resolve,hcal,hargs,sB_,sP_,rA,invoke,builtin,g1]
     rw[this];exact .val g2 g3 g4
    | err n=>exact absurd hr (hne n)
    | _=>rw[hr] at hv;exact hv.elim
   exact absurd h.symm (hne 13)
  ·rename_i hcal;split at h
   ·rename_i u1 s x ha;have hE':∀x∈c.args.toList,∀v,ev x=some v->VR ρ v (f x):=fun x hx=>hE x (by simp[Op.operands,Call.operands,hcal];simpa using hx)
    obtain⟨ys,rs,e,h1,h2⟩:=(fK ha hE').cons_inv;obtain⟨yx,rs',rfl,h3,h4⟩:=h2.cons_inv;have:=h4.ee;subst this;have hargs:c.args.map f= #[ys,yx]:=by rw[<-Array.toList_inj];simpa using e
    cases hr:oY P σ c.argTypes s x with
    | none=>rw[hr] at h;exact absurd h.symm (hne 17)
    | some σ'=>
     rw[hr] at h;subst h;obtain⟨w',g1,g3,g4⟩:=x7 (P:=P) (ty:=o.type) hi hr h1 h3
     have:(execOp f o).run P w= .ok (.value (.tuple #[])) w':=by
      simp only[execOp,ho,resolve,hcal,hargs,sB_,sP_,rA,invoke,builtin,g1]
     rw[this];exact .val (by simp only[VR];exact⟨_,rfl,cG.nil⟩) g3 g4
   exact absurd h.symm (hne 18)
  ·rename_i hcal;split at h
   ·rename_i u1 s x ha;subst h;have hE':∀x∈c.args.toList,∀v,ev x=some v->VR ρ v (f x):=fun x hx=>hE x (by simp[Op.operands,Call.operands,hcal];simpa using hx)
    obtain⟨ys,rs,e,h1,h2⟩:=(fK ha hE').cons_inv;obtain⟨yx,rs',rfl,h3,h4⟩:=h2.cons_inv;have:=h4.ee;subst this;have hargs:c.args.map f= #[ys,yx]:=by rw[<-Array.toList_inj];simpa using e
    have hv:=FN P σ c.argTypes s x;cases hr:wP P σ c.argTypes s x with
    | val v σ'=>
     obtain⟨z,w',ρ',g1,g2,g3,g4⟩:=BI (P:=P) (ty:=o.type) hi hr h1 h3
     have:(execOp f o).run P w= .ok (.value z) w':=by
      simp only[execOp,ho,resolve,hcal,hargs,sB_,sP_,rA,invoke,builtin,g1]
     rw[this];exact .val g2 g3 g4
    | err n=>exact absurd hr (hne n)
    | _=>rw[hr] at hv;exact hv.elim
   exact absurd h.symm (hne 14)
  ·rename_i hcal;split at h
   ·rename_i u1 x ha;have hE':∀x∈c.args.toList,∀v,ev x=some v->VR ρ v (f x):=fun x hx=>hE x (by simp[Op.operands,Call.operands,hcal];simpa using hx)
    obtain⟨ys,rs,e,h1,h2⟩:=(fK ha hE').cons_inv;have:=h2.ee;subst this;have hargs:c.args.map f= #[ys]:=by rw[<-Array.toList_inj];simpa using e
    cases hr:xZ P σ c.argTypes x with
    | none=>rw[hr] at h;exact absurd h.symm (hne 21)
    | some σ'=>
     rw[hr] at h;subst h;obtain⟨w',g1,g3,g4⟩:=zE (P:=P) (ty:=o.type) hi hr h1
     have:(execOp f o).run P w= .ok (.value (.tuple #[])) w':=by
      simp only[execOp,ho,resolve,hcal,hargs,sB_,sP_,rA,invoke,builtin,g1]
     rw[this];exact .val (by simp only[VR];exact⟨_,rfl,cG.nil⟩) g3 g4
   exact absurd h.symm (hne 22)
  ·rename_i hcal;split at h
   ·rename_i u1 x ha;have hE':∀x∈c.args.toList,∀v,ev x=some v->VR ρ v (f x):=fun x hx=>hE x (by simp[Op.operands,Call.operands,hcal];simpa using hx)
    obtain⟨ys,rs,e,h1,h2⟩:=(fK ha hE').cons_inv;have:=h2.ee;subst this;have hargs:c.args.map f= #[ys]:=by rw[<-Array.toList_inj];simpa using e
    cases hr:C5 x with
    | none=>rw[hr] at h;exact absurd h.symm (hne 27)
    | some v=>
     rw[hr] at h;subst h;obtain⟨z,g1,g2⟩:=BM (P:=P) (w:=w) (ts:=c.argTypes) (ty:=o.type) hr h1
     have:(execOp f o).run P w= .ok (.value z) w:=by
      simp only[execOp,ho,resolve,hcal,hargs,sB_,sP_,rA,invoke,builtin,g1]
     rw[this];exact .val g2 hi (dZ.refl _ _ _)
   exact absurd h.symm (hne 28)
  ·rename_i hcal;split at h
   ·rename_i u1 s x ha;have hE':∀x∈c.args.toList,∀v,ev x=some v->VR ρ v (f x):=fun x hx=>hE x (by simp[Op.operands,Call.operands,hcal];simpa using hx)
    obtain⟨ys,rs,e,h1,h2⟩:=(fK ha hE').cons_inv;obtain⟨yx,rs',rfl,h3,h4⟩:=h2.cons_inv;have:=h4.ee;subst this;have hargs:c.args.map f= #[ys,yx]:=by rw[<-Array.toList_inj];simpa using e
    cases hr:DT P σ c.argTypes[0]? s x with
    | none=>rw[hr] at h;exact absurd h.symm (hne 29)
    | some q=>
     obtain⟨q,σ'⟩:=q;rw[hr] at h;subst h;obtain⟨z,w',g1,g2,g3,g4⟩:=CM (P:=P) (ty:=o.type) hi hr h1 h3
     have:(execOp f o).run P w= .ok (.value z) w':=by
      simp only[execOp,ho,resolve,hcal,hargs,sB_,sP_,rA,invoke,builtin,g1]
     rw[this];exact .val g2 g3 g4
   exact absurd h.symm (hne 30)
  exact absurd h.symm (hne 15)
 | convert src dst x=>
  rw[ho] at h hE;simp only[gQ] at h;cases hx:ev x with
  | none=>rw[hx] at h;exact absurd h.symm (hne 23)
  | some a=>
   rw[hx] at h;dsimp only at h;cases hr:kT P σ src dst a with
   | val v σ'=>
    rw[hr] at h;subst h;obtain⟨z,w',ρ',g1,g2,g3,g4⟩:=zw (P:=P) hi hr (hE x (by simp[Op.operands]) a hx);have:(execOp f o).run P w= .ok (.value z) w':=by simp only[execOp,ho,sB_,g1,rA,sP_]
    rw[this];exact .val g2 g3 g4
   | err n=>rw[hr] at h;exact absurd h.symm (hne n)
   | skip σ'=>exact absurd hr (qi P σ src dst a 0 [] σ').2.2
   | enter g args σ'=>exact absurd hr (qi P σ src dst a g args σ').1
   | round g args σ'=>exact absurd hr (qi P σ src dst a g args σ').2.1
   | iU q σ'=>exact absurd hr (BC P σ src dst a q σ')
 | panic x=>
  rw[ho] at h hE;simp only[gQ] at h;split at h
  ·rename_i t v hx;subst h;have hv:=hE x (by simp[Op.operands]) _ hx;have hv':=hv;simp only[VR] at hv';obtain⟨y,hf,_⟩:=hv'
   have:(execOp f o).run P w= .halt (.panic (f x)) w:=by
    simp only[execOp,ho,hf,Instr.panic,sB_];rfl
   rw[this];exact .iU hv
  exact absurd h.symm (hne 32)
 | _=>rw[ho] at h;exact absurd h.symm (hne 16)
end
end Go.Ev
end
