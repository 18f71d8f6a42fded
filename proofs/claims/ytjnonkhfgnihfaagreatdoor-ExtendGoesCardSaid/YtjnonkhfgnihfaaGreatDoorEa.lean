/- Part of the proof: rules and walks. No conditions. -/
import Derived.CallsIn
import Derived.Laws.World
import Derived.KernelRfl
import Derived.Laws.AppendOwn
import Derived.Laws.Strings
import Derived.Great.BuildSlice
import Derived.Laws.Tables
import Derived.Laws.MakeOwn
import Derived.Laws.StructEq
import Derived.Laws.Small
import Derived.ChangeKeysEq
import Derived.LaidEql
import Derived.Lib.Strings
import Derived.Lib.Builder
import Derived.Lib.Overlaps
import Derived.Laws.IdiomStrings
import Derived.Lib.UnsafeStr
import Derived.Lib.ConvBytes
import Derived.RangeFuncNested
import Derived.RecoverIn
import Derived.TacticsIn
set_option linter.unusedSectionVars false
set_option linter.unusedVariables false
set_option linter.unusedSimpArgs false
noncomputable section
open Nat (add_assoc beq_eq ble div_lt_of_lt_mul land lor mod_lt mul_le_mul zero_le)
open List (range' replicate)
namespace Go.Ev
abbrev y_:=TypeId
abbrev q6:=Program
abbrev q_:=Operand
abbrev j_:=Value
abbrev z_:=Oper
abbrev x_:=World
abbrev w0:=IntKind
abbrev w_:=DataW
theorem gA:type_of% @List.getElem?_eq_some_iff:= @List.getElem?_eq_some_iff
theorem gB_:type_of% @List.mem_of_getElem?:= @List.mem_of_getElem?
theorem rA:type_of% @Result.andThen_ok:= @Result.andThen_ok
theorem gC:type_of% @List.getElem?_eq_getElem:= @List.getElem?_eq_getElem
theorem nB:type_of% @Nat.eq_of_beq_eq_true:= @Nat.eq_of_beq_eq_true
theorem bA_:type_of% @Bool.and_eq_true:= @Bool.and_eq_true
theorem sB_:type_of% @Sem.run_bind:= @Sem.run_bind
theorem sP_:type_of% @Sem.run_pure:= @Sem.run_pure
theorem nE_:type_of% @Nat.ble_eq:= @Nat.ble_eq
theorem lT_:type_of% @List.length_take:= @List.length_take
theorem oJ_:type_of% @Option.some.injEq:= @Option.some.injEq
theorem lA_:type_of% @List.length_append:= @List.length_append
theorem mC_:type_of% @List.mem_cons_of_mem:= @List.mem_cons_of_mem
theorem lM_:type_of% @List.length_map:= @List.length_map
theorem aT_:type_of% @Array.getElem?_toList:= @Array.getElem?_toList
theorem mS_:type_of% @List.mem_cons_self:= @List.mem_cons_self
theorem gM_:type_of% @List.getElem?_map:= @List.getElem?_map
theorem gL_:type_of% @List.getElem?_append_left:= @List.getElem?_append_left
theorem gO_:type_of% @List.getElem?_of_mem:= @List.getElem?_of_mem
theorem tL_:type_of% @List.take_of_length_le:= @List.take_of_length_le
theorem aE_:type_of% @List.all_eq_true:= @List.all_eq_true
theorem eN_:type_of% @List.eq_nil_of_length_eq_zero:= @List.eq_nil_of_length_eq_zero
theorem gN_:type_of% @List.getElem?_eq_none:= @List.getElem?_eq_none
theorem lD_:type_of% @List.length_drop:= @List.length_drop
theorem mQ_:type_of% @List.mem_cons:= @List.mem_cons
theorem nM_:type_of% @Nat.mul_le_mul_right:= @Nat.mul_le_mul_right
theorem oM_:type_of% @Option.map_eq_some_iff:= @Option.map_eq_some_iff
theorem lQ_:type_of% @List.append_assoc:= @List.append_assoc
theorem nZ_:type_of% @Nat.not_lt_zero:= @Nat.not_lt_zero
theorem nR_:type_of% @Nat.le_refl:= @Nat.le_refl
theorem nA_:type_of% @Nat.zero_add:= @Nat.zero_add
theorem iJ_:type_of% @Int.ofNat.inj:= @Int.ofNat.inj
theorem gR_:type_of% @List.getElem?_append_right:= @List.getElem?_append_right
theorem eR_:type_of% @List.eq_of_mem_replicate:= @List.eq_of_mem_replicate
theorem aG_:type_of% @Array.getElem?_eq_getElem:= @Array.getElem?_eq_getElem
theorem aS_:type_of% @Array.getElem?_eq_some_iff:= @Array.getElem?_eq_some_iff
theorem za_:type_of% @List.singleton_append:= @List.singleton_append
theorem zb_:type_of% @List.take_add_one:= @List.take_add_one
theorem zc_:type_of% @List.length_cons:= @List.length_cons
theorem zd_:type_of% @Bool.eq_iff_iff:= @Bool.eq_iff_iff
theorem ze_:type_of% @Option.isSome_iff_exists:= @Option.isSome_iff_exists
theorem zf_:type_of% @List.ext_getElem?:= @List.ext_getElem?
theorem zg_:type_of% @List.length_set:= @List.length_set
theorem zh_:type_of% @Nat.lt_of_lt_of_le:= @Nat.lt_of_lt_of_le
theorem zi_:type_of% @Bool.false_eq_true:= @Bool.false_eq_true
theorem zj_:type_of% @List.drop_eq_getElem_cons:= @List.drop_eq_getElem_cons
theorem zk_:type_of% @List.append_nil:= @List.append_nil
theorem zl_:type_of% @List.drop_drop:= @List.drop_drop
theorem zm_:type_of% @List.getElem?_cons_zero:= @List.getElem?_cons_zero
theorem zn_:type_of% @List.mem_map:= @List.mem_map
theorem zo_:type_of% @Classical.byContradiction:= @Classical.byContradiction
theorem zp_:type_of% @Bool.true_and:= @Bool.true_and
theorem zq_:type_of% @List.length_singleton:= @List.length_singleton
theorem zr_:type_of% @List.getElem?_range:= @List.getElem?_range
theorem zs_:type_of% @Option.some.inj:= @Option.some.inj
theorem Z {α:Sort _} {a:α}:a=a:=rfl
theorem Y {p:Prop} (h:p:=by kernel_rfl):p:=h
theorem oM {p:Prop} (h:p:=by omega):p:=h
abbrev Pos:=Nat
abbrev Pos.succ (p:Pos):Pos:=Nat.succ p
abbrev Pos.num (p:Pos):Nat:=p
theorem Pos.jy (p:Pos):p.succ.num=p.num+1:=rfl
abbrev posOf (n:Nat):Pos:=n
theorem su {m n:Nat} (h:posOf m=posOf n):m=n:=h
structure lI (α:Type) where
 c0:α
 c1:α
 c2:α
 c3:α
 c4:α
 c5:α
 c6:α
 c7:α
 c8:α
 c9:α
 tC:α
 tD:α
 tE:α
 tF:α
 tG:α
 tH:α
structure FZ (α:Type) where
 run:lI α->α
structure F0 (α:Type) where
 run:lI α->α->lI α
section
variable {α:Type}
def kV (n:Nat):FZ α:=(Bool.rec (motive:=fun _=>FZ α) (Bool.rec (motive:=fun _=>FZ α) (Bool.rec (motive:=fun _=>FZ α) (Bool.rec (motive:=fun _=>FZ α) ⟨fun t=>t.c0⟩ ⟨fun t=>t.c1⟩<|ble 1 n) (Bool.rec (motive:=fun _=>FZ α) ⟨fun t=>t.c2⟩ ⟨fun t=>t.c3⟩<|ble 3 n)<|ble 2 n) (Bool.rec (motive:=fun _=>FZ α) (Bool.rec (motive:=fun _=>FZ α) ⟨fun t=>t.c4⟩ ⟨fun t=>t.c5⟩<|ble 5 n) (Bool.rec (motive:=fun _=>FZ α) ⟨fun t=>t.c6⟩ ⟨fun t=>t.c7⟩<|ble 7 n)<|ble 6 n)<|ble 4 n) (Bool.rec (motive:=fun _=>FZ α) (Bool.rec (motive:=fun _=>FZ α) (Bool.rec (motive:=fun _=>FZ α) ⟨fun t=>t.c8⟩ ⟨fun t=>t.c9⟩<|ble 9 n) (Bool.rec (motive:=fun _=>FZ α) ⟨fun t=>t.tC⟩ ⟨fun t=>t.tD⟩<|ble 11 n)<|ble 10 n) (Bool.rec (motive:=fun _=>FZ α) (Bool.rec (motive:=fun _=>FZ α) ⟨fun t=>t.tE⟩ ⟨fun t=>t.tF⟩<|ble 13 n) (Bool.rec (motive:=fun _=>FZ α) ⟨fun t=>t.tG⟩ ⟨fun t=>t.tH⟩<|ble 15 n)<|ble 14 n)<|ble 12 n)<|ble 8 n)
def Ay (n:Nat):F0 α:=(Bool.rec (motive:=fun _=>F0 α) (Bool.rec (motive:=fun _=>F0 α) (Bool.rec (motive:=fun _=>F0 α) (Bool.rec (motive:=fun _=>F0 α) ⟨fun t v=>lI.rec (motive:=fun _=>lI α) (fun _ c1 c2 c3 c4 c5 c6 c7 c8 c9 tC tD tE tF tG tH=>⟨v,c1,c2,c3,c4,c5,c6,c7,c8,c9,tC,tD,tE,tF,tG,tH⟩) t⟩ ⟨fun t v=>lI.rec (motive:=fun _=>lI α) (fun c0 _ c2 c3 c4 c5 c6 c7 c8 c9 tC tD tE tF tG tH=>⟨c0,v,c2,c3,c4,c5,c6,c7,c8,c9,tC,tD,tE,tF,tG,tH⟩) t⟩<|ble 1 n) (Bool.rec (motive:=fun _=>F0 α) ⟨fun t v=>lI.rec (motive:=fun _=>lI α) (fun c0 c1 _ c3 c4 c5 c6 c7 c8 c9 tC tD tE tF tG tH=>⟨c0,c1,v,c3,c4,c5,c6,c7,c8,c9,tC,tD,tE,tF,tG,tH⟩) t⟩ ⟨fun t v=>lI.rec (motive:=fun _=>lI α) (fun c0 c1 c2 _ c4 c5 c6 c7 c8 c9 tC tD tE tF tG tH=>⟨c0,c1,c2,v,c4,c5,c6,c7,c8,c9,tC,tD,tE,tF,tG,tH⟩) t⟩<|ble 3 n)<|ble 2 n) (Bool.rec (motive:=fun _=>F0 α) (Bool.rec (motive:=fun _=>F0 α) ⟨fun t v=>lI.rec (motive:=fun _=>lI α) (fun c0 c1 c2 c3 _ c5 c6 c7 c8 c9 tC tD tE tF tG tH=>⟨c0,c1,c2,c3,v,c5,c6,c7,c8,c9,tC,tD,tE,tF,tG,tH⟩) t⟩ ⟨fun t v=>lI.rec (motive:=fun _=>lI α) (fun c0 c1 c2 c3 c4 _ c6 c7 c8 c9 tC tD tE tF tG tH=>⟨c0,c1,c2,c3,c4,v,c6,c7,c8,c9,tC,tD,tE,tF,tG,tH⟩) t⟩<|ble 5 n) (Bool.rec (motive:=fun _=>F0 α) ⟨fun t v=>lI.rec (motive:=fun _=>lI α) (fun c0 c1 c2 c3 c4 c5 _ c7 c8 c9 tC tD tE tF tG tH=>⟨c0,c1,c2,c3,c4,c5,v,c7,c8,c9,tC,tD,tE,tF,tG,tH⟩) t⟩ ⟨fun t v=>lI.rec (motive:=fun _=>lI α) (fun c0 c1 c2 c3 c4 c5 c6 _ c8 c9 tC tD tE tF tG tH=>⟨c0,c1,c2,c3,c4,c5,c6,v,c8,c9,tC,tD,tE,tF,tG,tH⟩) t⟩<|ble 7 n)<|ble 6 n)<|ble 4 n) (Bool.rec (motive:=fun _=>F0 α) (Bool.rec (motive:=fun _=>F0 α) (Bool.rec (motive:=fun _=>F0 α) ⟨fun t v=>lI.rec (motive:=fun _=>lI α) (fun c0 c1 c2 c3 c4 c5 c6 c7 _ c9 tC tD tE tF tG tH=>⟨c0,c1,c2,c3,c4,c5,c6,c7,v,c9,tC,tD,tE,tF,tG,tH⟩) t⟩ ⟨fun t v=>lI.rec (motive:=fun _=>lI α) (fun c0 c1 c2 c3 c4 c5 c6 c7 c8 _ tC tD tE tF tG tH=>⟨c0,c1,c2,c3,c4,c5,c6,c7,c8,v,tC,tD,tE,tF,tG,tH⟩) t⟩<|ble 9 n) (Bool.rec (motive:=fun _=>F0 α) ⟨fun t v=>lI.rec (motive:=fun _=>lI α) (fun c0 c1 c2 c3 c4 c5 c6 c7 c8 c9 _ tD tE tF tG tH=>⟨c0,c1,c2,c3,c4,c5,c6,c7,c8,c9,v,tD,tE,tF,tG,tH⟩) t⟩ ⟨fun t v=>lI.rec (motive:=fun _=>lI α) (fun c0 c1 c2 c3 c4 c5 c6 c7 c8 c9 tC _ tE tF tG tH=>⟨c0,c1,c2,c3,c4,c5,c6,c7,c8,c9,tC,v,tE,tF,tG,tH⟩) t⟩<|ble 11 n)<|ble 10 n) (Bool.rec (motive:=fun _=>F0 α) (Bool.rec (motive:=fun _=>F0 α) ⟨fun t v=>lI.rec (motive:=fun _=>lI α) (fun c0 c1 c2 c3 c4 c5 c6 c7 c8 c9 tC tD _ tF tG tH=>⟨c0,c1,c2,c3,c4,c5,c6,c7,c8,c9,tC,tD,v,tF,tG,tH⟩) t⟩ ⟨fun t v=>lI.rec (motive:=fun _=>lI α) (fun c0 c1 c2 c3 c4 c5 c6 c7 c8 c9 tC tD tE _ tG tH=>⟨c0,c1,c2,c3,c4,c5,c6,c7,c8,c9,tC,tD,tE,v,tG,tH⟩) t⟩<|ble 13 n) (Bool.rec (motive:=fun _=>F0 α) ⟨fun t v=>lI.rec (motive:=fun _=>lI α) (fun c0 c1 c2 c3 c4 c5 c6 c7 c8 c9 tC tD tE tF _ tH=>⟨c0,c1,c2,c3,c4,c5,c6,c7,c8,c9,tC,tD,tE,tF,v,tH⟩) t⟩ ⟨fun t v=>lI.rec (motive:=fun _=>lI α) (fun c0 c1 c2 c3 c4 c5 c6 c7 c8 c9 tC tD tE tF tG _=>⟨c0,c1,c2,c3,c4,c5,c6,c7,c8,c9,tC,tD,tE,tF,tG,v⟩) t⟩<|ble 15 n)<|ble 14 n)<|ble 12 n)<|ble 8 n)
theorem Mz {n:Nat} (h:n<16):n=0∨n=1∨n=2∨n=3∨n=4∨n=5∨n=6∨n=7∨n=8∨n=9∨n=10∨n=11∨n=12∨n=13∨n=14∨n=15:=by omega
theorem Fx (n:Nat) (t:lI α) (v:α) (hn:n<16):(kV n).run ((Ay n).run t v)=v:=by
 rcases Mz hn with rfl | rfl | rfl | rfl | rfl | rfl | rfl | rfl | rfl | rfl | rfl | rfl | rfl | rfl | rfl | rfl<;>rfl
theorem QE (n:Nat) (t:lI α) (v u:α) (hn:n<16):(Ay n).run ((Ay n).run t v) u=(Ay n).run t u:=by
 rcases Mz hn with rfl | rfl | rfl | rfl | rfl | rfl | rfl | rfl | rfl | rfl | rfl | rfl | rfl | rfl | rfl | rfl<;>rfl
theorem Ko (m n:Nat) (t:lI α) (v:α) (hm:m<16) (hn:n<16) (h:m≠n):(kV m).run ((Ay n).run t v)=(kV m).run t:=by
 rcases Mz hm with rfl | rfl | rfl | rfl | rfl | rfl | rfl | rfl | rfl | rfl | rfl | rfl | rfl | rfl | rfl | rfl<;>rcases Mz hn with rfl | rfl | rfl | rfl | rfl | rfl | rfl | rfl | rfl | rfl | rfl | rfl | rfl | rfl | rfl | rfl<;>first | rfl | exact absurd rfl h
theorem IQ (m n:Nat) (t:lI α) (v:α) (hm:m<16) (hn:n<16):(kV m).run ((Ay n).run t v)=if m=n then v else(kV m).run t:=by
 by_cases h:m=n
 ·subst h;rw[if_pos Z,Fx _ _ _ hn]
 rw[if_neg h,Ko _ _ _ _ hm hn h]
abbrev ku (α:Type):=lI (lI α)
def lZ (t:ku α) (k:Nat):α:=(kV<|Nat.mod k 16).run ((kV<|Nat.div k 16).run t)
def uc (t:ku α) (k:Nat) (v:α):ku α:=(Ay<|Nat.div k 16).run t ((Ay<|Nat.mod k 16).run ((kV<|Nat.div k 16).run t) v)
theorem nf (t:ku α) (k j:Nat) (v:α) (hk:k<256) (hj:j<256):lZ (uc t k v) j=if j=k then v else lZ t j:=by
 have e:∀n m:Nat,Nat.mod n m=n%m:=fun _ _=>Z
 have e':∀n m:Nat,Nat.div n m=n/m:=fun _ _=>Z
 simp only[lZ,uc,e,e'];rw[IQ _ _ _ _ oM oM]
 by_cases h1:j/16=k/16
 ·rw[if_pos h1,IQ _ _ _ _ oM oM]
  grind
 grind
theorem zK (t:ku α) (k:Nat) (v u:α) (hk:k<256):uc (uc t k v) k u=uc t k u:=by
 have h1:Nat.mod k 16<16:=mod_lt _ oM;have h2:Nat.div k 16<16:=div_lt_of_lt_mul hk
 grind [uc,Fx,QE]
def lI.all (x:α):lI α:=⟨x,x,x,x,x,x,x,x,x,x,x,x,x,x,x,x⟩
def ku.all (x:α):ku α:=lI.all (lI.all x)
theorem IP (n:Nat) (y:α) (hn:n<16):(kV n).run (lI.all y)=y:=by
 rcases Mz hn with rfl | rfl | rfl | rfl | rfl | rfl | rfl | rfl | rfl | rfl | rfl | rfl | rfl | rfl | rfl | rfl<;>rfl
theorem yU (x:α) (k:Nat) (hk:k<256):lZ (ku.all x) k=x:=by
 have h1:Nat.mod k 16<16:=mod_lt _ oM;have d:Nat.div k 16<16:=div_lt_of_lt_mul hk;simp only[lZ,ku.all,IP _ _ h1,IP _ _ d]
def vj (v:Option α) (n:Nat):List (Option α)->List (Option α):=
 Nat.rec (motive:=fun _=>List (Option α)->List (Option α)) (fun l=>List.rec (motive:=fun _=>List<|Option α) [v] (fun _ r _=>v::r) l)
  (fun _ ih l=>List.rec (motive:=fun _=>List<|Option α) (none::ih []) (fun x r _=>x::ih r) l) n
def Jz (l:List (Option α)):Nat->Option α:=
 List.rec (motive:=fun _=>Nat->Option α) (fun _=>none) (fun x _ ih n=>Nat.rec (motive:=fun _=>Option α) x (fun m _=>ih m) n) l
theorem yV (v:Option α):∀(k:Nat) (l:List (Option α)) (j:Nat),Jz (vj v k l) j=if j=k then v else Jz l j
 | 0,[],0=>rfl
 | 0,[],j+1=>by rw[if_neg oM];rfl
 | 0,x::r,0=>rfl
 | 0,x::r,j+1=>by rw[if_neg oM];rfl
 | k+1,[],0=>by rw[if_neg oM];rfl
 | k+1,[],j+1=>by
  show Jz (vj v k []) j=_;rw[yV v k [] j]
  by_cases h:j=k
  ·simp_all
  rw[if_neg h,if_neg oM];rfl
 | k+1,x::r,0=>by rw[if_neg oM];rfl
 | k+1,x::r,j+1=>by
  show Jz (vj v k r) j=_;rw[yV v k r j]
  by_cases h:j=k
  ·simp_all
  rw[if_neg h,if_neg oM];rfl
theorem zL (v u:Option α):∀(k:Nat) (l:List (Option α)),vj u k (vj v k l)=vj u k l
 | 0,[]=>rfl
 | 0,x::r=>rfl
 | k+1,[]=>by
  show none::vj u k (vj v k [])=none::vj u k [];rw[zL v u k []]
 | k+1,x::r=>by
  show x::vj u k (vj v k r)=x::vj u k r;rw[zL v u k r]
structure PT (α:Type) where
 s:ku (Option α)
 m:ku (ku<|Option α)
 l:List (Option α)
def PT.leaf:PT α:=⟨ku.all none,ku.all<|ku.all none,[]⟩
def PT.Jy (t:PT α) (p:Nat):Option α:=
 Bool.rec (motive:=fun _=>Option α) (Bool.rec (motive:=fun _=>Option α) (Jz t.l p) (lZ (lZ t.m<|Nat.div p 256)<|Nat.mod p 256)<|ble p 65535) (lZ t.s p) (ble p 255)
def PT.J7 (o:Option α) (t:PT α) (p:Nat):PT α:=
 Bool.rec (motive:=fun _=>PT α) (Bool.rec (motive:=fun _=>PT α) (PT.rec (motive:=fun _=>PT α) (fun s m l=>⟨s,m,vj o p l⟩) t)
  (PT.rec (motive:=fun _=>PT α) (fun s m l=>⟨s,uc m (Nat.div p 256)<|uc (lZ m<|Nat.div p 256) (Nat.mod p 256) o,l⟩) t)<|ble p 65535)
  (PT.rec (motive:=fun _=>PT α) (fun s m l=>⟨uc s p o,m,l⟩) t) (ble p 255)
def PT.get (t:PT α) (p:Pos):Option α:=Nat.rec (motive:=fun _=>Option α) (t.Jy 0) (fun m _=>t.Jy (Nat.succ m)) p
def PT.put (o:Option α) (t:PT α) (p:Pos):PT α:=Nat.rec (motive:=fun _=>PT α) (t.J7 o 0) (fun m _=>t.J7 o (Nat.succ m)) p
theorem PT.get_eq (t:PT α) (p:Nat):t.get p=t.Jy p:=by cases p<;>rfl
theorem PT.put_eq (o:Option α) (t:PT α) (p:Nat):t.put o p=t.J7 o p:=by cases p<;>rfl
theorem xF (m n:Nat):Nat.blt m n=true↔m<n:=by simp_all
theorem pP (m n:Nat):ble m n=true↔m<n+1:=by rw[nE_,Nat.lt_succ_iff]
theorem vM {m n:Nat} (h:¬m<n+1):ble m n=false:=by
 grind [pP]
theorem PT.td (t:PT α) {p:Nat} (h:p<256):t.get p=lZ t.s p:=by rw[PT.get_eq];unfold PT.Jy;rw[(pP p 255).2 h]
theorem PT.Bd (t:PT α) {p:Nat} (h:¬p<256) (h':p<65536):t.get p=lZ (lZ t.m<|Nat.div p 256) (Nat.mod p 256):=by
 rw[PT.get_eq];unfold PT.Jy;rw[vM (n:=255) h,(pP p 65535).2 h']
theorem PT.Bc (t:PT α) {p:Nat} (h:¬p<65536):t.get p=Jz t.l p:=by
 rw[PT.get_eq];unfold PT.Jy;rw[vM (n:=255) oM,vM (n:=65535) h]
theorem PT.xh (o:Option α) (s:ku (Option α)) (m:ku (ku<|Option α)) (l:List (Option α)) {p:Nat} (h:p<256):(PT.mk s m l).put o p=⟨uc s p o,m,l⟩:=by rw[PT.put_eq];unfold PT.J7;rw[(pP p 255).2 h]
theorem PT.IB (o:Option α) (s:ku (Option α)) (m:ku (ku<|Option α)) (l:List (Option α)) {p:Nat} (h:¬p<256) (h':p<65536):
  (PT.mk s m l).put o p=⟨s,uc m (Nat.div p 256)<|uc (lZ m<|Nat.div p 256) (Nat.mod p 256) o,l⟩:=by
 rw[PT.put_eq];unfold PT.J7;rw[vM (n:=255) h,(pP p 65535).2 h']
theorem PT.Iz (o:Option α) (s:ku (Option α)) (m:ku (ku<|Option α)) (l:List (Option α)) {p:Nat} (h:¬p<65536):(PT.mk s m l).put o p=⟨s,m,vj o p l⟩:=by
 rw[PT.put_eq];unfold PT.J7;rw[vM (n:=255) oM,vM (n:=65535) h]
theorem PT.nd (p:Nat):(PT.leaf:PT α).get p=none:=by
 by_cases h1:p<256
 ·rw[PT.td _ h1];exact yU _ _ h1
 by_cases d:p<65536
 ·rw[PT.Bd _ h1 d];show lZ (lZ (ku.all<|ku.all none) _) _=none;have u:Nat.div p 256<256:=div_lt_of_lt_mul d;have hm:Nat.mod p 256<256:=mod_lt _ oM;rw[yU _ _ u,yU _ _ hm]
 rw[PT.Bc _ d];rfl
theorem PT.mF (o:Option α) (t:PT α) (p q:Nat):(t.put o p).get q=if q=p then o else t.get q:=by
 cases t with
 | mk s m l=>
 by_cases h1:p<256
 ·rw[PT.xh o s m l h1]
  by_cases d:q<256
  ·rw[PT.td _ d,PT.td _ d];exact nf s p q o h1 d
  rw[if_neg oM]
  grind [PT.Bd,PT.Bc]
 by_cases h3:p<65536
 ·rw[PT.IB o s m l h1 h3]
  by_cases d:q<256
  ·rw[if_neg oM,PT.td _ d,PT.td _ d]
  by_cases h4:q<65536
  ·rw[PT.Bd _ d h4,PT.Bd _ d h4];have hp:Nat.div p 256<256:=div_lt_of_lt_mul h3;have hq:Nat.div q 256<256:=div_lt_of_lt_mul h4;have u:Nat.mod p 256<256:=mod_lt _ oM;have w:Nat.mod q 256<256:=mod_lt _ oM;show lZ (lZ (uc m (Nat.div p 256) _)<|Nat.div q 256) (Nat.mod q 256)=_;rw[nf _ _ _ _ hp hq]
   by_cases e:Nat.div q 256=Nat.div p 256
   ·rw[if_pos e,nf _ _ _ _ u w]
    by_cases z:Nat.mod q 256=Nat.mod p 256
    ·rw[if_pos z,if_pos];have f1:q/256=p/256:=e;have f2:q%256=p%256:=z;omega
    grind
   grind
  rw[if_neg oM,PT.Bc _ h4,PT.Bc _ h4]
 rw[PT.Iz o s m l h3]
 by_cases d:q<256
 ·rw[if_neg oM,PT.td _ d,PT.td _ d]
 by_cases h4:q<65536
 ·rw[if_neg oM,PT.Bd _ d h4,PT.Bd _ d h4]
 rw[PT.Bc _ h4,PT.Bc _ h4];exact yV o p l q
theorem PT.dZ (o:Option α) (t:PT α) (p:Pos):(t.put o p).get p=o:=by rw[PT.mF,if_pos Z]
theorem PT.dS (o:Option α) (t:PT α) (p q:Pos) (h:q≠p):(t.put o p).get q=t.get q:=by rw[PT.mF,if_neg h]
theorem PT.Qh (o o':Option α) (t:PT α) (p:Nat):(t.put o p).put o' p=t.put o' p:=by
 cases t with
 | mk s m l=>
 by_cases h1:p<256
 ·rw[PT.xh o s m l h1,PT.xh _ _ _ _ h1,PT.xh _ _ _ _ h1,zK _ _ _ _ h1]
 by_cases h3:p<65536
 ·have hp:Nat.div p 256<256:=div_lt_of_lt_mul h3;have d:Nat.mod p 256<256:=mod_lt _ oM;rw[PT.IB o s m l h1 h3,PT.IB _ _ _ _ h1 h3,PT.IB _ _ _ _ h1 h3,zK _ _ _ _ hp,nf _ _ _ _ hp hp,if_pos Z,zK _ _ _ _ d]
 rw[PT.Iz o s m l h3,PT.Iz _ _ _ _ h3,PT.Iz _ _ _ _ h3,zL]
end
section
variable {α β:Type}
def nth (l:List α):Nat->Option α:=
 List.rec (motive:=fun _=>Nat->Option α) (fun _=>none) (fun x _ ih n=>Nat.rec (motive:=fun _=>Option α) (some x) (fun m _=>ih m) n) l
theorem fN:∀(l:List α) (n:Nat),nth l n=l[n]?
 | [],_=>rfl
 | _::_,0=>rfl
 | _::l,n+1=>by
  show nth l n=_;rw[fN l n];simp
def Hr (v:α) (l:List α):Nat->List α:=
 List.rec (motive:=fun _=>Nat->List α) (fun _=>[]) (fun x l ih n=>Nat.rec (motive:=fun _=>List α) (v::l) (fun m _=>x::ih m) n) l
theorem sF (v:α):∀(l:List α) (n:Nat),Hr v l n=l.set n v
 | [],_=>rfl
 | _::_,0=>rfl
 | x::l,n+1=>by
  show x::Hr v l n=_;rw[sF v l n];simp
def eP (l:List α):Nat->List α:=
 List.rec (motive:=fun _=>Nat->List α) (fun _=>[]) (fun x l ih n=>Nat.rec (motive:=fun _=>List α) (x::l) (fun m _=>ih m) n) l
theorem eR:∀(l:List α) (n:Nat),eP l n=l.drop n
 | [],n=>by simp[eP]
 | _::_,0=>rfl
 | x::l,n+1=>by
  show eP l n=_;rw[eR l n];simp
def takeN (l:List α):Nat->List α:=
 List.rec (motive:=fun _=>Nat->List α) (fun _=>[]) (fun x _ ih n=>Nat.rec (motive:=fun _=>List α) [] (fun m _=>x::ih m) n) l
theorem ed:∀(l:List α) (n:Nat),takeN l n=l.take n
 | [],n=>by simp[takeN]
 | _::_,0=>rfl
 | x::l,n+1=>by
  show x::takeN l n=_;rw[ed l n];simp
def dK (l:List α):Nat:=List.rec (motive:=fun _=>Nat) 0 (fun _ _ n=>Nat.succ n) l
theorem cH:∀(l:List α),dK l=l.length
 | []=>rfl
 | _::l=>by show Nat.succ (dK l)=_;rw[cH l];rfl
def iw (l m:List α):List α:=List.rec (motive:=fun _=>List α) m (fun x _ r=>x::r) l
theorem eD:∀(l m:List α),iw l m=l++m
 | [],_=>rfl
 | x::l,m=>by show x::iw l m=_;rw[eD l m];rfl
def Ap (f:α->β) (l:List α):List β:=List.rec (motive:=fun _=>List β) [] (fun x _ r=>f x::r) l
theorem mG (f:α->β):∀(l:List α),Ap f l=l.map f
 | []=>rfl
 | x::l=>by show f x::Ap f l=_;rw[mG f l];rfl
def dv (f:α->Option β) (l:List α):Option (List β):=
 List.rec (motive:=fun _=>Option<|List β) (some []) (fun x _ r=>
  Option.rec (motive:=fun _=>Option<|List β) none (fun y=>Option.rec (motive:=fun _=>Option<|List β) none (fun ys=>some (y::ys)) r)<|f x) l
theorem lT (f:α->Option β):dv f []=some []:=rfl
theorem kz {f:α->Option β} {x:α} {l:List α} {ys:List β} (h:dv f (x::l)=some ys):∃y r,f x=some y/\dv f l=some r/\ys=y::r:=by
 have e:dv f (x::l)=Option.rec (motive:=fun _=>Option<|List β) none (fun y=>Option.rec (motive:=fun _=>Option<|List β) none (fun ys=>some (y::ys)) (dv f l)) (f x):=rfl;rw[e] at h;cases hx:f x with
 | none=>rw[hx] at h;cases h
 | some y=>
  rw[hx] at h;cases hr:dv f l with
  | none=>rw[hr] at h;cases h
  | some r=>
   simp_all
end
 class Env where
 τ:Nat->j_
 n0:Nat
 h0:Array Obj
variable [Env]
inductive ou where
 | known (n:Nat)
 | upto (sz:Nat)
 | least (a sz:Nat)
 deriving Inhabited
inductive U where
 | bool (b:Bool)
 | int (k:w0) (n:Int)
 | str (s:List Nat)
 | nilPtr
 | ptr (b:Pos) (off:Nat)
 | ax
 | slice (b:Pos) (off len:Nat) (cap:ou)
 | iM
 | map (b:Pos)
 | func (f:Nat) (first captured:List U)
 | yield (l:Pos)
 | nilFunc
 | iface (t:Nat) (v:U)
 | nilIface
 | agg (cs:List U)
 | tuple (vs:List U)
 | any
 | pN (a:Nat)
 | tok (n:Nat)
 deriving Inhabited
structure Loc where
 eK:Nat
 sh:Nat
 cells:Nat
abbrev dD:=Pos->Option Loc
def iQ (s:List Nat) (bs:ByteArray):Prop:=bs.data.toList.map UInt8.toNat=s
mutual
def VR (D:dD):U->j_->Prop
 | .bool b,x=>x= .bool b
 | .int k n,x=>x= .int k n
 | .str s,x=>∃bs,x= .string bs/\iQ s bs
 | .nilPtr,x=>x= .pointer none
 | .ptr b off,x=>∃l,D b=some l/\x= .pointer (some ⟨l.eK,l.sh+off,none⟩)
 | .ax,x=>x= .slice none 0 0
 | .slice b off len (.known c),x=>∃l,D b=some l/\x= .slice (some ⟨l.eK,l.sh+off,none⟩) len c
 | .slice b off len (.upto sz),x=>∃l,D b=some l/\
   ((∃c,x= .slice (some ⟨l.eK,l.sh+off,none⟩) len c/\len<=c/\off+c*sz=l.cells)∨(len=0/\∃a,x= .slice (some a) 0 0))
 | .slice b off len (.least a sz),x=>∃l,D b=some l/\∃c,x= .slice (some ⟨l.eK,l.sh+off,none⟩) len c/\a<=c/\off+c*sz=l.cells
 | .iM,x=>x= .map none
 | .map b,x=>∃l,D b=some l/\x= .map (some l.eK)
 | .func f fi ca,x=>∃fi' ca':Array j_,x= .func (.func f) fi' ca'/\dN D fi fi'.toList/\dN D ca ca'.toList
 | .yield b,x=>∃l,D b=some l/\x= .func (.yield l.eK) #[] #[]
 | .nilFunc,x=>x= .nilFunc
 | .iface t v,x=>∃y,x= .iface t y/\VR D v y
 | .nilIface,x=>x= .nilIface
 | .agg cs,x=>∃ys:Array j_,x= .agg ys/\dN D cs ys.toList
 | .tuple cs,x=>∃ys:Array j_,x= .tuple ys/\dN D cs ys.toList
 | .any,_=>True
 | .pN a,x=>∃c:Nat,x= .int .i64 c/\a<=c
 | .tok n,x=>x=Env.τ n/\x.oneCell'=true
def dN (D:dD):List U->List j_->Prop
 | [],ys=>ys= []
 | c::cs,ys=>∃y r,ys=y::r/\VR D c y/\dN D cs r
end
def dD.le (D D':dD):Prop:=∀b l,D b=some l->D' b=some l
theorem dD.le_refl (D:dD):D.le D:=fun _ _ h=>h
theorem dD.le_trans {D D' D'':dD} (h:D.le D') (h':D'.le D''):D.le D'':=fun b l hb=>h' b l (h b l hb)
mutual
theorem VR.mono {D D':dD} (h:D.le D'):∀(v:U) (x:j_),VR D v x->VR D' v x
 | .bool b,x,hv=>by simpa only[VR] using hv
 | .int k n,x,hv=>by simpa only[VR] using hv
 | .str s,x,hv=>by simpa only[VR] using hv
 | .nilPtr,x,hv=>by simpa only[VR] using hv
 | .ptr b off,x,hv=>by simp only[VR] at hv⊢;obtain⟨l,h1,d⟩:=hv;exact⟨l,h b l h1,d⟩
 | .ax,x,hv=>by simpa only[VR] using hv
 | .slice b off len (.known c),x,hv=>by simp only[VR] at hv⊢;obtain⟨l,h1,d⟩:=hv;exact⟨l,h b l h1,d⟩
 | .slice b off len (.upto sz),x,hv=>by simp only[VR] at hv⊢;obtain⟨l,h1,d⟩:=hv;exact⟨l,h b l h1,d⟩
 | .slice b off len (.least a sz),x,hv=>by simp only[VR] at hv⊢;obtain⟨l,h1,d⟩:=hv;exact⟨l,h b l h1,d⟩
 | .iM,x,hv=>by simpa only[VR] using hv
 | .map b,x,hv=>by simp only[VR] at hv⊢;obtain⟨l,h1,d⟩:=hv;exact⟨l,h b l h1,d⟩
 | .func f fi ca,x,hv=>by
  simp only[VR] at hv⊢;obtain⟨fi',ca',h1,d,h3⟩:=hv;exact⟨fi',ca',h1,dN.mono h fi _ d,dN.mono h ca _ h3⟩
 | .yield b,x,hv=>by simp only[VR] at hv⊢;obtain⟨l,h1,d⟩:=hv;exact⟨l,h b l h1,d⟩
 | .nilFunc,x,hv=>by simpa only[VR] using hv
 | .iface t v,x,hv=>by simp only[VR] at hv⊢;obtain⟨y,h1,d⟩:=hv;exact⟨y,h1,VR.mono h v y d⟩
 | .nilIface,x,hv=>by simpa only[VR] using hv
 | .agg cs,x,hv=>by simp only[VR] at hv⊢;obtain⟨y,h1,d⟩:=hv;exact⟨y,h1,dN.mono h cs _ d⟩
 | .tuple cs,x,hv=>by simp only[VR] at hv⊢;obtain⟨y,h1,d⟩:=hv;exact⟨y,h1,dN.mono h cs _ d⟩
 | .any,x,hv=>by simp only[VR]
 | .pN a,x,hv=>by simpa only[VR] using hv
 | .tok n,x,hv=>by simpa only[VR] using hv
theorem dN.mono {D D':dD} (h:D.le D'):∀(vs:List U) (xs:List j_),dN D vs xs->dN D' vs xs
 | [],xs,hv=>by simpa only[dN] using hv
 | c::cs,xs,hv=>by
  simp only[dN] at hv⊢;obtain⟨y,r,h1,d,h3⟩:=hv;exact⟨y,r,h1,VR.mono h c y d,dN.mono h cs r h3⟩
end
theorem dN.nil {D:dD}:dN D [] []:=by simp only[dN]
theorem dN.cons {D:dD} {v:U} {x:j_} {vs:List U} {xs:List j_} (h:VR D v x) (hs:dN D vs xs):dN D (v::vs) (x::xs):=by
 simp only[dN];grind
theorem dN.cons_inv {D:dD} {v:U} {vs:List U} {ys:List j_} (h:dN D (v::vs) ys):∃x xs,ys=x::xs/\VR D v x/\dN D vs xs:=by
 simpa only[dN] using h
theorem dN.fR {D:dD} {ys:List j_} (h:dN D [] ys):ys= []:=by simpa only[dN] using h
theorem dN.length {D:dD}:∀{vs:List U} {xs:List j_},dN D vs xs->xs.length=vs.length
 | [],xs,h=>by rw[h.fR];rfl
 | v::vs,xs,h=>by
  obtain⟨x,r,rfl,_,d⟩:=h.cons_inv;simp[d.length]
theorem dN.get {D:dD}:∀{vs:List U} {xs:List j_},dN D vs xs->∀{i:Nat} {v:U},vs[i]? =some v->∃x,xs[i]? =some x/\VR D v x
 | [],xs,h,i,v,hv=>by simp at hv
 | c::vs,xs,h,0,v,hv=>by
  obtain⟨x,r,rfl,h1,d⟩:=h.cons_inv
  simp_all
 | c::vs,xs,h,i+1,v,hv=>by
  obtain⟨x,r,rfl,h1,d⟩:=h.cons_inv;simp at hv;simpa using d.get hv
theorem dN.MN {D:dD}:∀{vs:List U} {xs:List j_},xs.length=vs.length->(∀(i:Nat) (v:U),vs[i]? =some v->∃x,xs[i]? =some x/\VR D v x)->dN D vs xs
 | [],[],_,_=>dN.nil
 | v::vs,[],hl,_=>by simp at hl
 | [],x::xs,hl,_=>by simp at hl
 | v::vs,x::xs,hl,h=>by
  refine dN.cons ?_<|dN.MN (by simpa using hl) fun i u hu=>?_
  ·obtain⟨y,h1,d⟩:=h 0 v Z
   simp_all
  obtain⟨y,h1,d⟩:=h (i+1) u (by simpa using hu)
  simp_all
theorem dN.append {D:dD}:∀{vs us:List U} {xs ys:List j_},dN D vs xs->dN D us ys->dN D (vs++us) (xs++ys)
 | [],us,xs,ys,h,h'=>by rw[h.fR];exact h'
 | v::vs,us,xs,ys,h,h'=>by
  obtain⟨x,r,rfl,h1,d⟩:=h.cons_inv;exact dN.cons h1<|d.append h'
theorem dN.drop {D:dD}:∀{vs:List U} {xs:List j_},dN D vs xs->∀n,dN D (vs.drop n) (xs.drop n)
 | [],xs,h,n=>by rw[h.fR];simp;exact dN.nil
 | v::vs,xs,h,0=>h
 | v::vs,xs,h,n+1=>by
  obtain⟨x,r,rfl,h1,d⟩:=h.cons_inv;simpa using d.drop n
theorem dN.take {D:dD}:∀{vs:List U} {xs:List j_},dN D vs xs->∀n,dN D (vs.take n) (xs.take n)
 | [],xs,h,n=>by rw[h.fR];simp;exact dN.nil
 | v::vs,xs,h,0=>by simpa using dN.nil
 | v::vs,xs,h,n+1=>by
  obtain⟨x,r,rfl,h1,d⟩:=h.cons_inv;simpa using dN.cons h1 (d.take n)
theorem dN.set {D:dD}:∀{vs:List U} {xs:List j_},dN D vs xs->∀(n:Nat) {v:U} {x:j_},VR D v x->dN D (vs.set n v) (xs.set n x)
 | [],xs,h,n,_,_,_=>by rw[h.fR];simp;exact dN.nil
 | v::vs,xs,h,0,_,_,hv=>by
  obtain⟨x,r,rfl,h1,d⟩:=h.cons_inv;simpa using dN.cons hv d
 | v::vs,xs,h,n+1,_,_,hv=>by
  obtain⟨x,r,rfl,h1,d⟩:=h.cons_inv;simpa using dN.cons h1 (d.set n hv)
structure eW where
 key:U
 val:U
 born:Nat
 deriving Inhabited
inductive cU where
 | row (cells:List U) (elem:Nat) (ro:Bool)
 | own (cells:List U) (elem:Nat)
 | map (es:List eW) (clock:Nat)
 | iter (s:List Nat) (pos:Nat)
 | loop (state:LoopState) (pending:Option Code) (tmps:PT U) (n:Nat) (params:List Nat) (assign body:Code) (defers:Pos)
 | mark
 | dead
 deriving Inhabited
def cU.ro:cU->Bool
 | .row _ _ ro=>ro
 | _=>false
structure aF where
 next:Pos
 m:PT cU
def TR (D:dD) (t:PT U) (n:Nat) (tmps:Array j_):Prop:=
 tmps.size=n/\∀k v,t.get (posOf k)=some v->k<n/\VR D v (tmps.getD k undef)
def kT (D:dD):List eW->List MapEntry->Prop
 | [],ys=>ys= []
 | e::es,ys=>∃y r,ys=y::r/\VR D e.key y.key/\VR D e.val y.val/\y.born=e.born/\kT D es r
def iD (D:dD) (l:Loc):cU->Obj->Prop
 | .row cells elem ro,x=>∃c fr,x= .cells c elem fr/\c.size=l.sh+l.cells/\cells.length<=l.cells/\
   (∀(i:Nat) (v:U),cells[i]? =some v->∃y,c[l.sh+i]? =some y/\VR D v y)/\(ro=false->∀j,l.sh<=j->¬(fr.1<=j/\j<fr.2))
 | .own cells elem,x=>(l.sh=0/\cells.length=l.cells)/\∃c fr,x= .cells c elem fr/\c.size=l.sh+l.cells/\cells.length<=l.cells/\
   (∀(i:Nat) (v:U),cells[i]? =some v->∃y,c[l.sh+i]? =some y/\VR D v y)/\(false=false->∀j,l.sh<=j->¬(fr.1<=j/\j<fr.2))
 | .map es clock,x=>∃es',x= .map es' clock/\kT D es es'.toList
 | .iter s pos,x=>∃bs,x= .stringIter bs pos/\iQ s bs
 | .loop state pending tmps n params assign body defers,x=>∃fn tmps' l',x= .loop {state,pending,fn,tmps:=tmps',params:=params.toArray,assign,body,defers:=l'.eK}/\
   D defers=some l'/\TR D tmps n tmps'
 | .mark,x=>x= .deferred (some [])
 | .dead,_=>True
theorem TR.mono {D D':dD} (h:D.le D') {t:PT U} {n:Nat} {tmps:Array j_} (d:TR D t n tmps):TR D' t n tmps:=
 ⟨d.1,fun k v hv=>⟨(d.2 k v hv).1,VR.mono h _ _ (d.2 k v hv).2⟩⟩
theorem kT.mono {D D':dD} (h:D.le D'):∀{es:List eW} {ys:List MapEntry},kT D es ys->kT D' es ys
 | [],ys,he=>he
 | e::es,ys,he=>by
  obtain⟨y,r,h1,d,h3,h4,h5⟩:=he;exact⟨y,r,h1,VR.mono h _ _ d,VR.mono h _ _ h3,h4,kT.mono h h5⟩
theorem iD.mono {D D':dD} (h:D.le D') {l:Loc}:∀{o:cU} {x:Obj},iD D l o x->iD D' l o x
 | .row cells elem ro,x,d=>by
  obtain⟨c,fr,h1,u,h3,h4,h5⟩:=d;exact⟨c,fr,h1,u,h3,fun i v hv=>let ⟨y,a,b⟩:=h4 i v hv;⟨y,a,VR.mono h _ _ b⟩,h5⟩
 | .own cells elem,x,d=>by
  obtain⟨h0,c,fr,h1,u,h3,h4,h5⟩:=d;exact⟨h0,c,fr,h1,u,h3,fun i v hv=>let ⟨y,a,b⟩:=h4 i v hv;⟨y,a,VR.mono h _ _ b⟩,h5⟩
 | .map es clock,x,d=>let ⟨es',h1,u⟩:=d;⟨es',h1,kT.mono h u⟩
 | .iter s pos,x,d=>d
 | .loop ..,x,d=>let ⟨fn,tmps',l',h1,u,h3⟩:=d;⟨fn,tmps',l',h1,h _ _ u,TR.mono h h3⟩
 | .mark,x,d=>d
 | .dead,x,d=>d
structure B7 (D:dD) (V:aF) (w:x_):Prop where
 fresh:∀b:Pos,V.next.num<=b.num->D b=none/\V.m.get b=none
 eK:∀b l,D b=some l->l.eK<w.heap.size
 obj:∀b o l,V.m.get b=some o->D b=some l->∃x,w.heap[l.eK]? =some x/\iD D l o x
 inj:∀b b' o o' l l',V.m.get b=some o->V.m.get b'=some o'->D b=some l->D b'=some l'->l.eK=l'.eK->b≠b'->o.ro=true/\o'.ro=true
def Wr (D:dD) (V:aF) (r:Nat):Prop:=∃b o l,V.m.get b=some o/\o.ro=false/\D b=some l/\l.eK=r
structure Old (D:dD) (V:aF) (w:x_):Prop where
 size:Env.n0<=w.heap.size
 same:∀r:Nat,r<Env.n0->w.heap[r]? =Env.h0[r]?
 no:∀r:Nat,r<Env.n0->¬Wr D V r
def KV (w:x_):Prop:=Env.n0<=w.heap.size/\∀r:Nat,r<Env.n0->w.heap[r]? =Env.h0[r]?
structure Inv (D:dD) (V:aF) (w:x_):Prop extends B7 D V w where
 oH:Old D V w
structure fL (D:dD) (V:aF) (w:x_) (D':dD) (V':aF) (w':x_):Prop where
 ext:∀b:Pos,b.num<V.next.num->D' b=D b
 next:V.next.num<=V'.next.num
 size:w.heap.size<=w'.heap.size
 frame:∀r:Nat,r<w.heap.size->¬Wr D V r->w'.heap[r]? =w.heap[r]?
 wr:∀r:Nat,Wr D' V' r->r<w.heap.size->Wr D V r
 tape:w'.tape=w.tape
 os:w'.os=w.os
 out:w'.output=w.output
theorem fL.refl (D:dD) (V:aF) (w:x_):fL D V w D V w:=
 ⟨fun _ _=>Z,nR_ _,nR_ _,fun _ _ _=>Z,fun _ h _=>h,Z,Z,Z⟩
theorem fL.trans {D ρ₁ ρ₂:dD} {V σ₁ σ₂:aF} {w w₁ w₂:x_} (h:fL D V w ρ₁ σ₁ w₁) (h':fL ρ₁ σ₁ w₁ ρ₂ σ₂ w₂):fL D V w ρ₂ σ₂ w₂ where
 ext b hb:=(h'.ext b<|zh_ hb h.next).trans (h.ext b hb)
 next:=Nat.le_trans h.next h'.next
 size:=Nat.le_trans h.size h'.size
 frame r hr hn:=(h'.frame r (zh_ hr h.size) (fun hw=>hn (h.wr r hw hr))).trans (h.frame r hr hn)
 wr r hw hr:=h.wr r (h'.wr r hw<|zh_ hr h.size) hr
 tape:=h'.tape.trans h.tape
 os:=h'.os.trans h.os
 out:=h'.out.trans h.out
theorem Old.of {D D':dD} {V V':aF} {w w':x_} (h:Old D V w) (st:fL D V w D' V' w'):Old D' V' w' where
 size:=Nat.le_trans h.size st.size
 same r hr:=(st.frame r (zh_ hr h.size)<|h.no r hr).trans (h.same r hr)
 no r hr hw:=h.no r hr (st.wr r hw<|zh_ hr h.size)
theorem Inv.of {D D':dD} {V V':aF} {w w':x_} (h:Inv D V w) (h':B7 D' V' w'/\fL D V w D' V' w'):Inv D' V' w'/\fL D V w D' V' w':=⟨⟨h'.1,h.oH.of h'.2⟩,h'.2⟩
theorem Inv.G0 {D:dD} {V:aF} {w:x_} (h:Inv D V w) {b:Pos} {l:Loc} (hb:D b=some l):b.num<V.next.num:=by
 rcases Nat.lt_or_ge b.num V.next.num with h' | h'
 ·exact h'
 rw[(h.fresh b h').1] at hb;cases hb
theorem fL.le {D D':dD} {V V':aF} {w w':x_} (hi:Inv D V w) (h:fL D V w D' V' w'):D.le D':=fun b l hb=>by
 rw[h.ext b<|hi.G0 hb];exact hb
end Go.Ev
namespace Go.Ev
variable [Env]
variable {e:Nat}
section
variable {D:dD} {V:aF} {w:x_}
theorem Addr.add_eq (a:Addr) (n:Nat) (h:a.spot=none):a.add n=⟨a.block,a.off+n,none⟩:=by
 unfold Addr.add;split
 ·rename_i h0;subst h0;cases a;simp_all
 rfl
theorem cell?_of_heap {w:x_} {r:Nat} {c:Array j_} {fr:Nat×Nat} (h:w.heap[r]? =some (.cells c e fr)) (i:Nat):w.cell? ⟨r,i,none⟩=c[i]?:=by
 simp[World.cell?,h]
theorem frozen?_of_heap {w:x_} {r:Nat} {c:Array j_} {fr:Nat×Nat} (h:w.heap[r]? =some (.cells c e fr)) (i:Nat) (hn:¬(fr.1<=i/\i<fr.2)):w.frozen? ⟨r,i,none⟩=false:=by
 grind [World.frozen?]
theorem heap_setCell_same {w:x_} {r:Nat} {c:Array j_} {fr:Nat×Nat} (h:w.heap[r]? =some (.cells c e fr)) (i:Nat) (v:j_):
  (w.setCell ⟨r,i,none⟩ v).heap[r]? =some (.cells (c.setIfInBounds i v) e fr):=by
 simp[World.setCell,Array.getElem?_modify,h]
theorem heap_setCell_other (w:x_) {r:Nat} (a:Addr) (v:j_) (h:r≠a.block):(w.setCell a v).heap[r]? =w.heap[r]?:=by
 simp[World.setCell,Array.getElem?_modify,Ne.symm h]
theorem Inv.row (hi:Inv D V w) {b:Pos} {l:Loc} {cells:List U} {ro:Bool} (d:V.m.get b=some (.row cells e ro)) (hl:D b=some l):
  ∃(c:Array j_) (fr:Nat×Nat),w.heap[l.eK]? =some (.cells c e fr)/\c.size=l.sh+l.cells/\cells.length<=l.cells/\
   (∀(i:Nat) (v:U),cells[i]? =some v->∃y,c[l.sh+i]? =some y/\VR D v y)/\(ro=false->∀j,l.sh<=j->¬(fr.1<=j/\j<fr.2)):=by
 obtain⟨x,hx,c,fr,rfl,h2,h3,h4,h5⟩:=hi.obj b _ l d hl
 grind
theorem Inv.cell (hi:Inv D V w) {b:Pos} {l:Loc} {cells:List U} {e:Nat} {ro:Bool} (d:V.m.get b=some (.row cells e ro)) (hl:D b=some l)
  {i:Nat} {v:U} (hv:cells[i]? =some v):∃y,w.cell? ⟨l.eK,l.sh+i,none⟩=some y/\VR D v y:=by
 obtain⟨c,fr,h1,_,_,h4,_⟩:=hi.row d hl
 grind [cell?_of_heap]
theorem Inv.drew (hi:Inv D V w):Inv D V w.drew:=⟨⟨hi.fresh,hi.eK,hi.obj,hi.inj⟩,⟨hi.oH.size,hi.oH.same,hi.oH.no⟩⟩
theorem fL.drew (D:dD) (V:aF) (w:x_):fL D V w D V w.drew:=
 ⟨fun _ _=>Z,nR_ _,nR_ _,fun _ _ _=>Z,fun _ h _=>h,Z,Z,Z⟩
def aF.alloc (V:aF) (o:cU):aF:={next:=V.next.succ,m:=V.m.put (some o) V.next}
def dD.with (D:dD) (b:Pos) (l:Loc):dD:=fun b'=>if b'=b then some l else D b'
theorem dD.dk (D:dD) (b:Pos) (l:Loc):D.with b l b=some l:=by simp[dD.with]
theorem dD.eN (D:dD) {b b':Pos} (l:Loc) (h:b'≠b):D.with b l b'=D b':=by simp[dD.with,h]
theorem Inv.xU (hi:Inv D V w) (l:Loc):D.le (D.with V.next l):=fun b l' hb=>by
 rw[dD.eN]; · exact hb
 intro e;subst e;rw[(hi.fresh _<|nR_ _).1] at hb;cases hb
theorem heap_alloc_old (w:x_) (x:Obj) {r:Nat} (h:r<w.heap.size):(w.alloc x).heap[r]? =w.heap[r]?:=by
 show(w.heap.push x)[r]? =_
 grind
theorem heap_alloc_new (w:x_) (x:Obj):(w.alloc x).heap[w.heap.size]? =some x:=by
 show(w.heap.push x)[w.heap.size]? =_;simp
theorem Inv.F6 (hi:Inv D V w) {o:cU} {x:Obj} {l:Loc} (hl:l.eK=w.heap.size) (K:iD D l o x):
  B7 (D.with V.next l) (V.alloc o) (w.alloc x)/\fL D V w (D.with V.next l) (V.alloc o) (w.alloc x):=by
 have hle:=hi.xU l;have u:∀b l',b≠V.next->(D.with V.next l) b=some l'->D b=some l':=fun b l' hb h=>by rwa[dD.eN D l hb] at h
 have z:∀b,b≠V.next->(V.alloc o).m.get b=V.m.get b:=fun b hb=>PT.dS _ _ _ _ hb
 have A:(V.alloc o).m.get V.next=some o:=PT.dZ _ _ _;have G:∀b:Pos,b.num<V.next.num->b≠V.next:=fun b hb e=>by simp_all
 constructor
 ·refine⟨fun b hb=>?_,fun b l' hb=>?_,fun b o' l' hb B=>?_,fun b b' o₁ o₂ l₁ l₂ h1 C h3 h4 h5 L=>?_⟩
  ·have aa:V.next.num+1<=b.num:=by simpa [aF.alloc,Pos.jy] using hb
   have d:b≠V.next:=fun e=>by subst e;omega
   rw[dD.eN D l d,z b d];exact hi.fresh b oM
  ·simp only[World.size_alloc]
   by_cases d:b=V.next
   ·subst d;rw[dD.dk] at hb;cases hb;omega
   have:=hi.eK b l' (u b l' d hb);omega
  ·by_cases d:b=V.next
   ·subst d;rw[dD.dk] at B;rw[A] at hb;cases hb;cases B;exact⟨x,by rw[hl];exact heap_alloc_new w x,K.mono hle⟩
   rw[z b d] at hb;have h':=u b l' d B;obtain⟨y,M,hr⟩:=hi.obj b o' l' hb h';exact⟨y,by rw[heap_alloc_old w x<|hi.eK b l' h'];exact M,hr.mono hle⟩
  by_cases e1:b=V.next<;>by_cases E:b'=V.next
  ·simp_all
  ·subst e1;rw[dD.dk] at h3;cases h3;have:=hi.eK b' l₂ (u b' l₂ E h4);omega
  ·subst E;rw[dD.dk] at h4;cases h4;have:=hi.eK b l₁ (u b l₁ e1 h3);omega
  rw[z b e1] at h1;rw[z b' E] at C;exact hi.inj b b' o₁ o₂ l₁ l₂ h1 C (u b l₁ e1 h3) (u b' l₂ E h4) h5 L
 refine⟨fun b hb=>dD.eN D l (G b hb),by simp[aF.alloc,Pos.jy],by simp,fun r hr _=>heap_alloc_old w x hr,?_,Z,Z,Z⟩;rintro r ⟨b,o',l',h1,C,h3,rfl⟩ hr
 by_cases d:b=V.next
 ·subst d;rw[dD.dk] at h3;cases h3;omega
 rw[z b d] at h1;exact⟨b,o',l',h1,C,u b l' d h3,Z⟩
theorem Inv.alloc (hi:Inv D V w) {o:cU} {x:Obj} {l:Loc} (hl:l.eK=w.heap.size) (d:iD D l o x):
  Inv (D.with V.next l) (V.alloc o) (w.alloc x)/\fL D V w (D.with V.next l) (V.alloc o) (w.alloc x):=hi.of (hi.F6 hl d)
def aF.setObj (V:aF) (b:Pos) (o:cU):aF:={V with m:=V.m.put (some o) b}
theorem Inv.DX (hi:Inv D V w) {b:Pos} {l:Loc} {o o':cU} {x:Obj} {w':x_} (hb:V.m.get b=some o) (hl:D b=some l) (G:o.ro=false) (ab:o'.ro=false)
  (hw:w'.heap[l.eK]? =some x) (ho:iD D l o' x) (d:∀r,r≠l.eK->w'.heap[r]? =w.heap[r]?) (u:w'.heap.size=w.heap.size)
  (z:w'.tape=w.tape) (K:w'.os=w.os) (B:w'.output=w.output):
  B7 D (V.setObj b o') w'/\fL D V w D (V.setObj b o') w':=by
 have C:∀b',b'≠b->(V.setObj b o').m.get b'=V.m.get b':=fun b' h=>PT.dS _ _ _ _ h
 have aa:(V.setObj b o').m.get b=some o':=PT.dZ _ _ _
 have back:∀b₁ o₁,(V.setObj b o').m.get b₁=some o₁->∃o₂,V.m.get b₁=some o₂/\(o₁.ro=true↔o₂.ro=true):=fun b₁ o₁ h=>by
  grind
 constructor
 ·refine⟨fun b' L=>?_,fun b' l' M=>by rw[u];exact hi.eK b' l' M,fun b' o₁ l₁ h1 E=>?_,fun b₁ b₂ o₁ o₂ l₁ l₂ h1 E h3 h4 h5 W=>?_⟩
  ·have hf:=hi.fresh b' L
   grind
  ·by_cases e:b'=b
   ·simp_all
   rw[C b' e] at h1;obtain⟨y,hy,hr⟩:=hi.obj b' o₁ l₁ h1 E
   have ac:l₁.eK≠l.eK:=fun Q=>by
    have:=hi.inj b' b o₁ o l₁ l h1 hb E hl Q e
    simp_all
   simp_all
  obtain⟨o₁',A,R⟩:=back b₁ o₁ h1;obtain⟨S,T,am⟩:=back b₂ o₂ E;have:=hi.inj b₁ b₂ o₁' S l₁ l₂ A T h3 h4 h5 W
  simp_all
 refine⟨fun _ _=>Z,nR_ _,by omega,fun r hr hn=>d r (fun e=>hn ⟨b,o,l,hb,G,hl,e.symm⟩),?_,z,K,B⟩;rintro r ⟨b₁,o₁,l₁,h1,E,h3,rfl⟩ hr;obtain⟨o₁',A,R⟩:=back b₁ o₁ h1;refine⟨b₁,o₁',l₁,A,?_,h3,Z⟩
 simp_all
theorem Inv.change (hi:Inv D V w) {b:Pos} {l:Loc} {o o':cU} {x:Obj} {w':x_} (hb:V.m.get b=some o) (hl:D b=some l) (C:o.ro=false) (A:o'.ro=false)
  (hw:w'.heap[l.eK]? =some x) (G:iD D l o' x) (d:∀r,r≠l.eK->w'.heap[r]? =w.heap[r]?) (u:w'.heap.size=w.heap.size)
  (z:w'.tape=w.tape) (E:w'.os=w.os) (B:w'.output=w.output):
  Inv D (V.setObj b o') w'/\fL D V w D (V.setObj b o') w':=hi.of (hi.DX hb hl C A hw G d u z E B)
theorem Inv.Cp (hi:Inv D V w) {b:Pos} {l:Loc} {o o':cU} {x:Obj} {w':x_} (hb:V.m.get b=some o) (hl:D b=some l) (C:o.ro=false)
  (hw:w'.heap[l.eK]? =some x) (ho:iD D l o' x) (u:∀r,r≠l.eK->w'.heap[r]? =w.heap[r]?) (A:w'.heap.size=w.heap.size)
  (B:w'.tape=w.tape) (G:w'.os=w.os) (E:w'.output=w.output):
  B7 D (V.setObj b o') w'/\fL D V w D (V.setObj b o') w':=by
 have d:∀b',b'≠b->(V.setObj b o').m.get b'=V.m.get b':=fun b' h=>PT.dS _ _ _ _ h
 have aa:(V.setObj b o').m.get b=some o':=PT.dZ _ _ _
 have apart:∀b' o₁ l₁,b'≠b->V.m.get b'=some o₁->D b'=some l₁->l₁.eK≠l.eK:=fun b' o₁ l₁ e h1 z K=>by
  have:=hi.inj b' b o₁ o l₁ l h1 hb z hl K e
  simp_all
 constructor
 ·refine⟨fun b' L=>?_,fun b' l' M=>by rw[A];exact hi.eK b' l' M,fun b' o₁ l₁ h1 z=>?_,fun b₁ b₂ o₁ o₂ l₁ l₂ h1 z h3 h4 h5 Q=>?_⟩
  ·have hf:=hi.fresh b' L
   grind
  ·by_cases e:b'=b
   ·simp_all
   rw[d b' e] at h1;obtain⟨y,hy,hr⟩:=hi.obj b' o₁ l₁ h1 z
   grind
  by_cases e1:b₁=b<;>by_cases R:b₂=b
  ·simp_all
  ·grind
  ·grind
  rw[d b₁ e1] at h1;rw[d b₂ R] at z;exact hi.inj b₁ b₂ o₁ o₂ l₁ l₂ h1 z h3 h4 h5 Q
 refine⟨fun _ _=>Z,nR_ _,by omega,fun r hr hn=>u r (fun e=>hn ⟨b,o,l,hb,C,hl,e.symm⟩),?_,B,G,E⟩;rintro r ⟨b₁,o₁,l₁,h1,z,h3,rfl⟩ hr
 by_cases e:b₁=b
 ·subst e;exact⟨b₁,o,l₁,hb,C,h3,Z⟩
 rw[d b₁ e] at h1;exact⟨b₁,o₁,l₁,h1,z,h3,Z⟩
theorem Inv.OZ (hi:Inv D V w) {b:Pos} {l:Loc} {o o':cU} {x:Obj} {w':x_} (hb:V.m.get b=some o) (hl:D b=some l) (B:o.ro=false)
  (hw:w'.heap[l.eK]? =some x) (E:iD D l o' x) (d:∀r,r≠l.eK->w'.heap[r]? =w.heap[r]?) (u:w'.heap.size=w.heap.size)
  (z:w'.tape=w.tape) (C:w'.os=w.os) (A:w'.output=w.output):
  Inv D (V.setObj b o') w'/\fL D V w D (V.setObj b o') w':=hi.of (hi.Cp hb hl B hw E d u z C A)
theorem Inv.Nw (hi:Inv D V w) {b:Pos} {l:Loc} {o o':cU} (hb:V.m.get b=some o) (hl:D b=some l) (d:o.ro=false) (u:∀x,iD D l o x->iD D l o' x):
  Inv D (V.setObj b o') w/\fL D V w D (V.setObj b o') w:=by
 obtain⟨x,hx,hr⟩:=hi.obj b o l hb hl;exact hi.OZ hb hl d hx (u x hr) (fun _ _=>Z) Z Z Z Z
theorem iD.Im {l:Loc} {cells:List U} {x:Obj} (h:iD D l (.own cells e) x):(l.sh=0/\cells.length=l.cells)/\iD D l (.row cells e false) x:=⟨h.1,h.2⟩
theorem iD.IM {l:Loc} {cells:List U} {x:Obj} (h0:l.sh=0/\cells.length=l.cells) (h:iD D l (.row cells e false) x):iD D l (.own cells e) x:=⟨h0,h⟩
theorem Inv.own (hi:Inv D V w) {b:Pos} {l:Loc} {cells:List U} (hb:V.m.get b=some (.own cells e)) (hl:D b=some l):
  (l.sh=0/\cells.length=l.cells)/\Inv D (V.setObj b (.row cells e false)) w/\fL D V w D (V.setObj b (.row cells e false)) w:=by
 obtain⟨x,hx,hr⟩:=hi.obj b _ l hb hl;exact⟨hr.Im.1,hi.Nw hb hl Z fun x hx=>hx.Im.2⟩
theorem Inv.setCell (hi:Inv D V w) {b:Pos} {l:Loc} {cells:List U} {e i:Nat} {v:U} {y:j_} (hb:V.m.get b=some (.row cells e false)) (hl:D b=some l)
  (aa:i<cells.length) (hv:VR D v y):
  Inv D (V.setObj b (.row (cells.set i v) e false)) (w.setCell ⟨l.eK,l.sh+i,none⟩ y)/\fL D V w D (V.setObj b (.row (cells.set i v) e false)) (w.setCell ⟨l.eK,l.sh+i,none⟩ y):=by
 obtain⟨c,fr,h1,d,h3,h4,h5⟩:=hi.row hb hl
 refine hi.change hb hl Z Z (heap_setCell_same h1 (l.sh+i) y) ⟨_,fr,Z,by simpa using d,by simpa using h3,fun j u hu=>?_,fun _=>h5 Z⟩
  (fun r hr=>heap_setCell_other w _ _ hr) (by simp) Z Z Z
 grind
def aF.drop (V:aF) (b:Pos):aF:={V with m:=V.m.put none b}
theorem Inv.Fh (hi:Inv D V w) {b:Pos} {l l':Loc} {cells cells':List U} {x:Obj} {w':x_} (hb:V.m.get b=some (.row cells e false)) (hl:D b=some l)
  (B:l'.eK=l.eK) (hw:w'.heap[l.eK]? =some x) (X:iD D l' (.row cells' e false) x) (z:∀r,r≠l.eK->w'.heap[r]? =w.heap[r]?) (C:w'.heap.size=w.heap.size)
  (E:w'.tape=w.tape) (R:w'.os=w.os) (M:w'.output=w.output):
  B7 (D.with V.next l') ((V.drop b).alloc (.row cells' e false)) w'/\fL D V w (D.with V.next l') ((V.drop b).alloc (.row cells' e false)) w':=by
 have hle:=hi.xU l';have d:∀b l'',b≠V.next->(D.with V.next l') b=some l''->D b=some l'':=fun b l'' hb h=>by rwa[dD.eN D l' hb] at h
 have ac:b≠V.next:=fun e=>by subst e;rw[(hi.fresh _<|nR_ _).1] at hl;cases hl
 have S:∀b:Pos,b.num<V.next.num->b≠V.next:=fun b hb e=>by simp_all
 have G:((V.drop b).alloc (.row cells' e false)).m.get V.next=some (.row cells' e false):=PT.dZ _ _ _
 have aa:∀b',b'≠V.next->((V.drop b).alloc (.row cells' e false)).m.get b'=if b'=b then none else V.m.get b':=fun b' h=>by
  show((V.m.put none b).put _ V.next).get b'=_;rw[PT.dS _ _ _ _ h,PT.mF]
 have oH:∀b' o',b'≠V.next->((V.drop b).alloc (.row cells' e false)).m.get b'=some o'->b'≠b/\V.m.get b'=some o':=fun b' o' hn h=>by
  simp_all
 have apart:∀b' o' l'',b'≠b->V.m.get b'=some o'->D b'=some l''->l''.eK≠l.eK:=fun b' o' l'' K h1 A T=>by
  have:=hi.inj b' b o' _ l'' l h1 hb A hl T K;exact absurd this.2 (by simp[cU.ro])
 constructor
 ·refine⟨fun b' L=>?_,fun b' l'' Q=>?_,fun b' o₁ l₁ h1 A=>?_,fun b₁ b₂ o₁ o₂ l₁ l₂ h1 A h3 h4 h5 h6=>?_⟩
  ·have ab:V.next.num+1<=b'.num:=by simpa [aF.alloc,aF.drop,Pos.jy] using L
   have K:b'≠V.next:=fun e=>by subst e;omega
   have hf:=hi.fresh b' oM
   grind [dD.eN]
  ·rw[C]
   by_cases e1:b'=V.next
   ·grind [dD.dk]
   exact hi.eK b' l''<|d b' l'' e1 Q
  ·by_cases e1:b'=V.next
   ·subst e1;rw[G] at h1;rw[dD.dk] at A;cases h1;cases A;exact⟨x,by rw[B];exact hw,X.mono hle⟩
   obtain⟨K,u⟩:=oH b' o₁ e1 h1;have h2':=d b' l₁ e1 A;obtain⟨y,hy,hr⟩:=hi.obj b' o₁ l₁ u h2';exact⟨y,by grind,hr.mono hle⟩
  by_cases e1:b₁=V.next<;>by_cases W:b₂=V.next
  ·simp_all
  ·grind [dD.dk]
  ·grind [dD.dk]
  obtain⟨_,u⟩:=oH b₁ o₁ e1 h1;obtain⟨_,h2'⟩:=oH b₂ o₂ W A;exact hi.inj b₁ b₂ o₁ o₂ l₁ l₂ u h2' (d b₁ l₁ e1 h3) (d b₂ l₂ W h4) h5 h6
 refine⟨fun b' L=>dD.eN D l' (S b' L),by simp[aF.alloc,aF.drop,Pos.jy],by omega,
  fun r hr hn=>z r (fun e'=>hn ⟨b,_,l,hb,Z,hl,e'.symm⟩),?_,E,R,M⟩
 rintro r ⟨b₁,o₁,l₁,h1,A,h3,rfl⟩ hr
 by_cases e1:b₁=V.next
 ·subst e1;rw[dD.dk] at h3;cases h3;exact⟨b,_,l,hb,Z,hl,B.symm⟩
 obtain⟨_,u⟩:=oH b₁ o₁ e1 h1;exact⟨b₁,o₁,l₁,u,A,d b₁ l₁ e1 h3,Z⟩
theorem Inv.zT (hi:Inv D V w) {b:Pos} {l l':Loc} {cells cells':List U} {x:Obj} {w':x_} (hb:V.m.get b=some (.row cells e false)) (hl:D b=some l)
  (A:l'.eK=l.eK) (hw:w'.heap[l.eK]? =some x) (E:iD D l' (.row cells' e false) x) (d:∀r,r≠l.eK->w'.heap[r]? =w.heap[r]?) (u:w'.heap.size=w.heap.size)
  (z:w'.tape=w.tape) (C:w'.os=w.os) (B:w'.output=w.output):
  Inv (D.with V.next l') ((V.drop b).alloc (.row cells' e false)) w'/\fL D V w (D.with V.next l') ((V.drop b).alloc (.row cells' e false)) w':=hi.of (hi.Fh hb hl A hw E d u z C B)
theorem Inv.Ep (hi:Inv D V w) (b:Pos):B7 D (V.drop b) w/\fL D V w D (V.drop b) w:=by
 have oH:∀b' o',(V.drop b).m.get b'=some o'->V.m.get b'=some o':=fun b' o' h=>by
  have h':(V.m.put none b).get b'=some o':=h
  grind [PT.mF]
 constructor
 ·refine⟨fun b' d=>⟨(hi.fresh b' d).1,?_⟩,hi.eK,fun b' o l h1 u=>hi.obj b' o l (oH b' o h1) u,fun b₁ b₂ o₁ o₂ l₁ l₂ h1 u=>hi.inj b₁ b₂ o₁ o₂ l₁ l₂ (oH b₁ o₁ h1) (oH b₂ o₂ u)⟩;show(V.m.put none b).get b'=none;rw[PT.mF];split
  ·rfl
  exact(hi.fresh b' d).2
 refine⟨fun _ _=>Z,nR_ _,nR_ _,fun _ _ _=>Z,?_,Z,Z,Z⟩;rintro r ⟨b₁,o₁,l₁,h1,u,h3,rfl⟩ hr;exact⟨b₁,o₁,l₁,oH b₁ o₁ h1,u,h3,Z⟩
theorem Inv.forget (hi:Inv D V w) (b:Pos):Inv D (V.drop b) w/\fL D V w D (V.drop b) w:=hi.of (hi.Ep b)
end
def Rb (k:w0) (n:Int):Bool:=
 match k,n with
 | .i8,.ofNat a=>ble a 127 | .i8,.negSucc a=>ble a 127
 | .i16,.ofNat a=>ble a 32767 | .i16,.negSucc a=>ble a 32767
 | .i32,.ofNat a=>ble a 2147483647 | .i32,.negSucc a=>ble a 2147483647
 | .i64,.ofNat a=>ble a 9223372036854775807 | .i64,.negSucc a=>ble a 9223372036854775807
 | .u8,.ofNat a=>ble a 255 | .u16,.ofNat a=>ble a 65535
 | .u32,.ofNat a=>ble a 4294967295 | .u64,.ofNat a=>ble a 18446744073709551615
 | _,_=>false
def wr (k:w0) (n:Int):Int:=bif Rb k n then n else k.wrap n
def cM (x y:Int):Bool:=
 match x,y with
 | .ofNat a,.ofNat b=>ble (Nat.succ a) b
 | .negSucc _,.ofNat _=>true
 | .ofNat _,.negSucc _=>false
 | .negSucc a,.negSucc b=>ble (Nat.succ b) a
def N (x y:Int):Bool:=
 match x,y with
 | .ofNat a,.ofNat b=>Nat.beq a b
 | .negSucc a,.negSucc b=>Nat.beq a b
 | _,_=>false
def wS (s t:List Nat):Bool:=
 List.rec (motive:=fun _=>List Nat->Bool) (fun t=>List.rec (motive:=fun _=>Bool) true (fun _ _ _=>false) t)
  (fun x _ ih t=>List.rec (motive:=fun _=>Bool) false (fun y u _=>bif Nat.beq x y then ih u else false) t) s t
def OB (s t:List Nat):Bool:=
 List.rec (motive:=fun _=>List Nat->Bool) (fun t=>List.rec (motive:=fun _=>Bool) false (fun _ _ _=>true) t)
  (fun x _ ih t=>List.rec (motive:=fun _=>Bool) false (fun y u _=>bif ble (Nat.succ x) y then true else bif Nat.beq x y then ih u else false) t) s t
def uH:w0->w0->Bool
 | .i8,.i8 | .i16,.i16 | .i32,.i32 | .i64,.i64 | .u8,.u8 | .u16,.u16 | .u32,.u32 | .u64,.u64=>true
 | _,_=>false
def lz:j_->Option U
 | .bool b=>some (.bool b)
 | .int k n=>some (.int k n)
 | .string s=>some (.str<|s.data.toList.map UInt8.toNat)
 | .pointer none=>some .nilPtr
 | .slice none 0 0=>some .ax
 | .map none=>some .iM
 | .nilFunc=>some .nilFunc
 | .nilIface=>some .nilIface
 | _=>none
def ra:j_->Option U
 | .agg cs=>(dv lz cs.toList).map .agg
 | .tuple cs=>(dv lz cs.toList).map .tuple
 | v=>lz v
def wX (P:q6) (t:y_):Option TypeInfo:=
 match nth P.types.toList t with
 | some i=>some i
 | none=>P.info? t
def ql (P:q6) (t:y_):Option TypeDesc:=
 match wX P t with
 | some {desc:=.named _ u,..}=>(wX P u).map (·.desc)
 | some i=>some i.desc
 | none=>none
theorem qZ (P:q6) (t:y_):wX P t=P.info? t:=by
 unfold wX;rw[fN,aT_];cases h:P.types[t]? with
 | none=>rfl
 | some i=>
  have hlt:=(aS_.1 h).1;unfold Tables.info?;rw[if_pos hlt,h]
theorem pH (P:q6) (t:y_):ql P t=P.underlying t:=by
 grind [ql,Program.underlying,qZ]
def eo (P:q6) (t:y_):Option (Option Nat):=
 match ql P t with
 | some (.struct _) | some (.array _ _)=>some (some (((wX P t).map (·.size)).getD 0))
 | some _=>some none
 | none=>none
theorem DG (P:q6) (t:y_):eo P t=match P.underlying t with
 | some (.struct _) | some (.array _ _)=>some (some<|P.cellsOf t)
 | some _=>some none
 | none=>none:=by
 unfold eo;rw[pH,qZ];rfl
def dg:U->Option (List U)
 | .agg cs=>some cs
 | .tuple _=>none
 | .any=>none
 | v=>some [v]
def ml:U->Bool
 | .agg _ | .tuple _ | .any=>false
 | _=>true
def cF (l:List U):Bool:=List.rec (motive:=fun _=>Bool) true (fun v _ r=>bif ml v then r else false) l
def mJ (cs l:List U):List U:=
 List.rec (motive:=fun _=>List U->List U) (fun l=>l) (fun c _ ih l=>List.rec (motive:=fun _=>List U) [] (fun _ l _=>c::ih l) l) cs l
def dy (cs l:List U) (off:Nat):List U:=
 List.rec (motive:=fun _=>Nat->List U) (fun _=>[]) (fun x l ih off=>Nat.rec (motive:=fun _=>List U) (mJ cs (x::l)) (fun m _=>x::ih m) off) l off
def Iv (P:q6) (t:y_) (cs:List U) (off:Nat):Option U:=
 match eo P t with
 | some (some n)=>some (.agg<|takeN (eP cs off) n)
 | some none=>nth cs off
 | none=>none
def kZ (place:Nat->Option (Nat×Nat)) (ev:q_->Option U) (parts:List (Nat×q_)) (cells:List U):Option (List U):=
 List.rec (motive:=fun _=>List U->Option (List U)) (fun cells=>some cells)
  (fun p _ ih cells=>
   match place p.1,(ev p.2).bind dg with
   | some (off,size),some vs=>bif Nat.beq (dK vs) size && ble (off+size) (dK cells) then ih (dy vs cells off) else none
   | _,_=>none) parts cells
def fH (P:q6) (t:y_):Option U:=(P.info? t).bind fun i=>i.zero.bind ra
def eC (cs:List U) (n:Nat):List U:=Nat.rec (motive:=fun _=>List U) [] (fun _ r=>iw cs r) n
def structOf (P:q6) (t:y_):Option (Array Field):=
 match ql P t with
 | some (.struct fs)=>some fs
 | _=>none
def m9:U->U->Option Bool
 | .bool a,.bool b=>some (bif a then b else(bif b then false else true))
 | .int j a,.int k b=>bif uH j k then some (N a b) else none
 | .str a,.str b=>some (wS a b)
 | _,_=>none
def jT (P:q6) (fs:List Field) (xs ys:List U):Option Bool:=
 List.rec (motive:=fun _=>Option Bool) (some true)
  (fun f _ ih=>
   match P.underlying f.type,nth xs f.offset,nth ys f.offset with
   | some .bool,some (.bool a),some (.bool b)=>bif (bif a then b else(bif b then false else true)) then ih else some false
   | some (.int _),some (.int j a),some (.int k b)=>bif uH j k then(bif N a b then ih else some false) else none
   | some .string,some (.str a),some (.str b)=>bif wS a b then ih else some false
   | _,_,_=>none) fs
def mI (fs:List Field):Bool:=List.rec (motive:=fun _=>Bool) true (fun f _ r=>bif f.name == "_" then false else r) fs
def yz (xs ys:List U):Option Bool:=
 List.rec (motive:=fun _=>List U->Option Bool) (fun ys=>match ys with | []=>some true | _=>none)
  (fun x _ ih ys=>match x,ys with
   | .int j a,.int k b::r=>bif uH j k then(bif N a b then ih r else some false) else none
   | _,_=>none) xs ys
def tQ (P:q6) (e:y_):Bool:=
 match P.underlying e,P.info? e with
 | some (.int _),some i=>Nat.beq i.size 1
 | _,_=>false
def eqFields (P:q6) (fs:List Field) (xs ys:List U):Option Bool:=
 List.rec (motive:=fun _=>Option Bool) (some true)
  (fun f _ ih=>
   match P.underlying f.type,nth xs f.offset,nth ys f.offset with
   | some .bool,some (.bool a),some (.bool b)=>bif (bif a then b else(bif b then false else true)) then ih else some false
   | some (.int _),some (.int j a),some (.int k b)=>bif uH j k then(bif N a b then ih else some false) else none
   | some .string,some (.str a),some (.str b)=>bif wS a b then ih else some false
   | some (.struct gs),_,_=>bif P.stoodInHeld f.type || !mI gs.toList then none else match eo P f.type with
    | some (some n)=>match jT P gs.toList (takeN (eP xs f.offset) n) (takeN (eP ys f.offset) n) with
     | some true=>ih
     | some false=>some false
     | none=>none
    | _=>none
   | some (.array m e),_,_=>bif tQ P e then(match eo P f.type with
    | some (some n)=>bif Nat.beq n m && (Nat.beq (dK<|takeN (eP xs f.offset) n) m && Nat.beq (dK<|takeN (eP ys f.offset) n) m) then(match yz (takeN (eP xs f.offset) n) (takeN (eP ys f.offset) n) with
     | some true=>ih
     | some false=>some false
     | none=>none) else none
    | _=>none) else none
   | _,_,_=>none) fs
def Gu (P:q6) (t:y_) (x y:U):Option Bool:=
 match x,y with
 | .agg xs,.agg ys=>
  match structOf P t with
  | some fs=>bif P.eqGuardType P.depth t || P.stoodInHeld t || !mI fs.toList then none else eqFields P fs.toList xs ys
  | none=>none
 | .nilPtr,.nilPtr=>match P.underlying t with | some (.pointer _)=>some true | _=>none
 | .ptr _ _,.nilPtr | .nilPtr,.ptr _ _=>match P.underlying t with | some (.pointer _)=>some false | _=>none
 | .ptr b o,.ptr b' o'=>match P.underlying t with | some (.pointer u)=>bif Nat.beq b b' && (Nat.beq o o' && (P.info? u).isSome) then some true else none | _=>none
 | .nilIface,.iface _ _ | .iface _ _,.nilIface=>match P.underlying t with | some (.interface _)=>some false | _=>none
 | .ax,.ax=>match P.underlying t with | some (.slice _)=>some true | _=>none
 | .slice _ _ _ _,.ax | .ax,.slice _ _ _ _=>match P.underlying t with | some (.slice _)=>some false | _=>none
 | .nilFunc,.nilFunc=>match P.underlying t with | some (.func _ _ _)=>some true | _=>none
 | .func _ _ _,.nilFunc | .nilFunc,.func _ _ _=>match P.underlying t with | some (.func _ _ _)=>some false | _=>none
 | .iM,.iM=>match P.underlying t with | some (.map _ _)=>some true | _=>none
 | .map _,.iM | .iM,.map _=>match P.underlying t with | some (.map _ _)=>some false | _=>none
 | _,_=>none
def nR (P:q6) (op:BinOp) (t:y_) (x y:U):Option U:=
 match op with
 | .eql=>match Gu P t x y with | some b=>some (.bool b) | none=>none
 | .neq=>match Gu P t x y with | some b=>some (.bool (bif b then false else true)) | none=>none
 | _=>none
def uC (P:q6) (op:BinOp) (t:y_) (x y:U):Option U:=
 match x,y with
 | .int k a,.int k' b=>
  match op with
  | .shl=>bif cM b 0 then none else some (.int k<|wr k (a*2 ^ (min b.toNat k.bits)))
  | .shr=>bif cM b 0 then none else some (.int k<|a.fdiv (2 ^ (min b.toNat k.bits)))
  | op=>
   bif uH k k' then
    match op with
    | .add=>some (.int k<|wr k<|Int.add a b)
    | .sub=>some (.int k<|wr k<|Int.sub a b)
    | .mul=>some (.int k<|wr k<|Int.mul a b)
    | .quo=>bif N b 0 then none else some (.int k<|wr k<|a.tdiv b)
    | .rem=>bif N b 0 then none else some (.int k<|a.tmod b)
    | .and=>some (.int k<|k.wrap (BitVec.ofInt k.bits a &&& BitVec.ofInt k.bits b).toNat)
    | .or=>some (.int k<|k.wrap (BitVec.ofInt k.bits a ||| BitVec.ofInt k.bits b).toNat)
    | .xor=>some (.int k<|k.wrap (BitVec.ofInt k.bits a ^^^ BitVec.ofInt k.bits b).toNat)
    | .andNot=>some (.int k<|k.wrap (BitVec.ofInt k.bits a &&& ~~~(BitVec.ofInt k.bits b)).toNat)
    | .eql=>some (.bool<|N a b)
    | .neq=>some (.bool (bif N a b then false else true))
    | .lss=>some (.bool<|cM a b)
    | .leq=>some (.bool (bif cM b a then false else true))
    | .gtr=>some (.bool<|cM b a)
    | .geq=>some (.bool (bif cM a b then false else true))
    | _=>none
   else none
 | .str a,.str b=>
  match op with
  | .add=>bif ble (dK a+dK b) 1152921504606846976 then some (.str<|iw a b) else none
  | .eql=>some (.bool<|wS a b)
  | .neq=>some (.bool (bif wS a b then false else true))
  | .lss=>some (.bool<|OB a b)
  | .gtr=>some (.bool<|OB b a)
  | .leq=>some (.bool (bif OB b a then false else true))
  | .geq=>some (.bool (bif OB a b then false else true))
  | _=>none
 | .bool a,.bool b=>
  match op,P.underlying t with
  | .eql,some .bool=>some (.bool (bif a then b else(bif b then false else true)))
  | .neq,some .bool=>some (.bool (bif a then(bif b then false else true) else b))
  | _,_=>none
 | x,y=>nR P op t x y
def fo (ev:q_->Option U) (x:q_) (y:Nat):Option Nat:=
 match ev x with
 | some (.int _ (.ofNat i))=>bif ble i y then some i else none
 | _=>none
def dw (ev:q_->Option U) (len cap:Nat) (lo hi:Option q_):Option (Nat×Nat):=
 match(match hi with | some h=>fo ev h cap | none=>some len) with
 | some h=>match(match lo with | some l=>fo ev l h | none=>some 0) with
  | some l=>some (l,h)
  | none=>none
 | none=>none
def cut (P:q6) (e:y_) (b:Pos) (off l h m:Nat):Option U:=
 match P.info? e with
 | some j=>some (.slice b (bif Nat.beq m l then off else off+l*j.size) (h-l) (.known (m-l)))
 | none=>none
def cutAt (P:q6) (ev:q_->Option U) (e:y_) (b:Pos) (off len cap:Nat) (lo hi mx:Option q_):Option U:=
 match mx with
 | none=>match dw ev len cap lo hi with
  | some (l,h)=>cut P e b off l h cap
  | none=>none
 | some x=>match fo ev x cap,hi with
  | some m,some _=>match dw ev m m lo hi with
   | some (l,h)=>cut P e b off l h m
   | none=>none
  | _,_=>none
def ia (P:q6) (ev:q_->Option U) (t:y_) (x:q_) (lo hi mx:Option q_):Option U:=
 match P.underlying t,ev x with
 | some (.slice e),some (.slice b off len (.known cap))=>cutAt P ev e b off len cap lo hi mx
 | some (.slice e),some (.slice b off len (.upto sz))=>
  match mx with
  | none=>match dw ev len len lo hi,P.info? e with
   | some (l,h),some j=>bif Nat.beq j.size sz then some (.slice b (off+l*sz) (h-l) (.upto sz)) else none
   | _,_=>none
  | some x=>bif Nat.beq len 0 then none else cutAt P ev e b off len len lo hi (some x)
 | some (.slice e),some (.slice b off len (.least a sz))=>
  match mx with
  | none=>match dw ev len a lo hi,P.info? e with
   | some (l,h),some j=>bif Nat.beq j.size sz && (ble len a && ble (Nat.succ l) a) then some (.slice b (off+l*sz) (h-l) (.least (a-l) sz)) else none
   | _,_=>none
  | some _=>none
 | some (.slice e),some .ax=>
  match mx with
  | none=>match dw ev 0 0 lo hi,P.info? e with | some _,some _=>some .ax | _,_=>none
  | some _=>none
 | some (.array n e),some (.ptr b off)=>cutAt P ev e b off n n lo hi mx
 | some (.pointer arr),some (.ptr b off)=>
  match P.underlying arr with
  | some (.array n e)=>cutAt P ev e b off n n lo hi mx
  | _=>none
 | some .string,some (.str s)=>
  match mx with
  | none=>match dw ev (dK s) (dK s) lo hi with
   | some (l,h)=>some (.str<|takeN (eP s l) (h-l))
   | none=>none
  | some _=>none
 | _,_=>none
def zg (P:q6) (t:y_) (x:U):Option Nat:=
 match P.underlying t,x with
 | some .string,.str s=>some (dK s)
 | some (.array n _),_=>some n
 | some (.slice _),.slice _ _ n _=>some n
 | some (.slice _),.ax=>some 0
 | some (.map _ _),.iM=>some 0
 | _,_=>none
def RH:U->Option U
 | .slice _ _ _ (.known c)=>some (.int .i64<|Int.ofNat c)
 | .slice _ _ _ (.least a _)=>some (.pN a)
 | .ax=>some (.int .i64 0)
 | _=>none
def Le (P:q6) (op:BinOp) (t:y_) (x y:U):Option U:=
 match y with
 | .pN a=>match op,x with
  | .gtr,.int .i64 (.ofNat n)=>bif ble n a then some (.bool false) else none
  | _,_=>none
 | y=>uC P op t x y
def Bj:q_->Bool
 | .const _=>true
 | _=>false
def MD (P:q6) (o:BinOp) (t:y_) (k:Bool):Option U:=
 bif k then(match P.underlying t with
  | some (.interface _)=>match o with
   | .eql=>some (.bool true)
   | .neq=>some (.bool false)
   | _=>none
  | _=>none) else none
def qx (P:q6) (k:Bool) (o:BinOp) (t:y_) (x y:U):Option U:=
 match x with
 | .nilIface=>match y with
  | .nilIface=>MD P o t k
  | y=>Le P o t .nilIface y
 | x=>Le P o t x y
def ju (ev:q_->Option U) (l:List q_):Option (List U):=dv ev l
def TG:U->U->Option U
 | .int k x,.int k' y=>bif uH k k' then some (.int k (bif cM y x then y else x)) else none
 | _,_=>none
def TF:U->U->Option U
 | .int k x,.int k' y=>bif uH k k' then some (.int k (bif cM x y then y else x)) else none
 | _,_=>none
def dO (P:q6) (ev:q_->Option U):Op->Option U
 | .move x | .assign x=>ev x
 | .pick c a b=>match ev c with | some (.bool true)=>ev a | some (.bool false)=>ev b | _=>none
 | .build t parts=>
  match P.underlying t,(fH P t).bind dg with
  | some (.struct fs),some zero=>match dv (fun f:Field=>(P.info? f.type).map fun j=>(f.offset,j.size)) fs.toList with
   | some places=>(kZ (nth places) ev parts.toList zero).map .agg
   | none=>none
  | some (.array _ e),some zero=>match P.info? e with
   | some j=>(kZ (fun i=>some (i*j.size,j.size)) ev parts.toList zero).map .agg
   | none=>none
  | _,_=>none
 | .nilCheck x=>match ev x with
  | some .nilPtr | some .nilIface | some .nilFunc | some (.yield _) | some .any | some (.tok _)=>none
  | v=>v
 | .binOp op t x y _=>match ev x,ev y with | some a,some b=>qx P (Bj x || Bj y) op t a b | _,_=>none
 | .unOp op _ x=>match op,ev x with
  | .not,some (.bool b)=>some (.bool (bif b then false else true))
  | .neg,some (.int k n)=>some (.int k<|wr k<|Int.sub 0 n)
  | .xor,some (.int k n)=>some (.int k<|k.wrap (BitVec.ofInt k.bits (if k.signed then-1 else k.max) ^^^ BitVec.ofInt k.bits n).toNat)
  | _,_=>none
 | .convert src dst x=>match P.underlying src,P.underlying dst,ev x with
  | some (.int _),some (.int k),some (.int _ n)=>some (.int k<|wr k n)
  | some .string,some .string,some (.str s)=>some (.str s)
  | _,_,_=>none
 | .makeInterface t x=>match P.underlying t,ev x with
  | some (.interface _),_=>none
  | some _,some v=>some (.iface t v)
  | _,_=>none
 | .makeFunc fn first captured=>match fn,ju ev first.toList,ju ev captured.toList with
  | .func f,some a,some b=>some (.func f a b)
  | _,_,_=>none
 | .slice t x lo hi mx=>ia P ev t x lo hi mx
 | .fieldAddr s x i=>match structOf P s,ev x with
  | some fs,some (.ptr b off)=>match fs[i]? with
   | some f=>match P.info? f.type with
    | some j=>bif Nat.beq j.size 0 then none else some (.ptr b (off+f.offset))
    | none=>none
   | none=>none
  | _,_=>none
 | .field t x i=>match structOf P t,ev x with
  | some fs,some (.agg cs)=>match fs[i]? with
   | some f=>Iv P f.type cs f.offset
   | none=>none
  | _,_=>none
 | .indexAddr t x i=>match P.underlying t,ev x,ev i with
  | some (.slice e),some (.slice b off len _),some (.int _ (.ofNat i))=>
   match P.info? e with
   | some j=>bif ble (Nat.succ i) len then some (.ptr b (off+i*j.size)) else none
   | none=>none
  | some (.array n e),some (.ptr b off),some (.int _ (.ofNat i))=>
   match P.info? e with
   | some j=>bif ble (Nat.succ i) n then some (.ptr b (off+i*j.size)) else none
   | none=>none
  | _,_,_=>none
 | .index t x i=>match P.underlying t,ev x,ev i with
  | some (.array n e),some (.agg cs),some (.int _ (.ofNat i))=>bif ble (Nat.succ i) n then(match P.info? e with | some j=>Iv P e cs (i*j.size) | none=>none) else none
  | some .string,some (.str s),some (.int _ (.ofNat i))=>match nth s i with | some b=>some (.int .u8<|Int.ofNat b) | none=>none
  | _,_,_=>none
 | .extract x i=>match ev x with
  | some (.tuple vs)=>nth vs i
  | _=>none
 | .typeAssert x _ t ok=>match P.underlying t,ev x with
  | some (.interface _),_=>none
  | some _,some (.iface u v)=>bif Nat.beq u t then some (bif ok then .tuple [v,.bool true] else v) else(bif ok then(fH P t).map fun z=>.tuple [z,.bool false] else none)
  | some _,some .nilIface=>bif ok then(fH P t).map fun z=>.tuple [z,.bool false] else none
  | _,_=>none
 | .call c=>match c.callee with
  | .builtin .len=>match c.argTypes[0]?,c.args.toList with
   | some t,[x]=>match ev x with | some v=>(zg P t v).map fun n=>.int .i64 (Int.ofNat n) | none=>none
   | _,_=>none
  | .builtin .cap=>match c.argTypes[0]?,c.args.toList with
   | some t,[x]=>match P.underlying t,ev x with | some (.slice _),some v=>RH v | _,_=>none
   | _,_=>none
  | .builtin .min=>match c.args.toList with
   | [x,y]=>(match ev x,ev y with | some a,some b=>TG a b | _,_=>none)
   | _=>none
  | .builtin .max=>match c.args.toList with
   | [x,y]=>(match ev x,ev y with | some a,some b=>TF a b | _,_=>none)
   | _=>none
  | _=>none
 | _=>none
def plainKey (P:q6) (t:y_):Bool:=
 match P.underlying t with
 | some (.int _) | some .string | some .bool=>true
 | some (.struct fs)=>fs.toList.all fun f=>match P.underlying f.type with
  | some (.int _) | some .string | some .bool=>true
  | some (.struct gs)=>gs.toList.all fun g=>match P.underlying g.type with
   | some (.int _) | some .string | some .bool=>true
   | _=>false
  | some (.array _ e)=>tQ P e
  | _=>false
 | _=>false
def lf (P:q6) (t:y_) (x y:U):Option Bool:=
 match P.underlying t,x,y with
 | some (.int _),.int j a,.int k b=>bif uH j k then some (N a b) else none
 | some .string,.str a,.str b=>some (wS a b)
 | some .bool,.bool a,.bool b=>some (bif a then b else(bif b then false else true))
 | some (.struct _),.agg xs,.agg ys=>Gu P t (.agg xs) (.agg ys)
 | _,_,_=>none
def jv (P:q6) (t:y_) (x:U):Bool:=
 match P.underlying t,x with
 | some (.struct fs),.agg xs=>fs.toList.all fun f=>match P.underlying f.type with
  | some (.struct gs)=>match eo P f.type with
   | some (some n)=>gs.toList.all fun g=>(nth (takeN (eP xs f.offset) n) g.offset).isSome
   | _=>false
  | some (.array m _)=>match eo P f.type with
   | some (some n)=>Nat.beq n m && Nat.beq (dK<|takeN (eP xs f.offset) n) m
   | _=>false
  | _=>(nth xs f.offset).isSome
 | some (.struct _),_=>false
 | _,_=>true
def nX (P:q6) (t:y_) (k:U) (es:List eW):Nat->Option (Option (Nat×U)):=
 List.rec (motive:=fun _=>Nat->Option (Option (Nat×U))) (fun _=>some none)
  (fun e _ ih i=>match lf P t k e.key with
   | some true=>some (some (i,e.val))
   | some false=>ih (Nat.succ i)
   | none=>none) es
def ie (P:q6) (ev:q_->Option U) (V:aF):Op->Option U
 | .load t x=>match ev x with
  | some (.ptr b off)=>match V.m.get b with
   | some (.row cells _ _)=>match eo P t with
    | some (some n)=>bif ble (off+n) (dK cells) then some (.agg<|takeN (eP cells off) n) else none
    | some none=>nth cells off
    | none=>none
   | some (.own cells _)=>match eo P t with
    | some (some n)=>bif ble (off+n) (dK cells) then some (.agg<|takeN (eP cells off) n) else none
    | some none=>nth cells off
    | none=>none
   | _=>none
  | _=>none
 | .lookup t x i ok=>match P.underlying t,ev i with
  | some (.map kt et),some k=>bif plainKey P kt && jv P kt k then
    match(match ev x with
     | some .iM=>some []
     | some (.map b)=>match V.m.get b with | some (.map es _)=>some es | _=>none
     | _=>none) with
    | some es=>match nX P kt k es 0,fH P et with
     | some (some (_,v)),some _=>some (bif ok then .tuple [v,.bool true] else v)
     | some none,some z=>some (bif ok then .tuple [z,.bool false] else z)
     | _,_=>none
    | none=>none
   else none
  | _,_=>none
 | .call c=>match c.callee with
  | .builtin .len=>match c.argTypes[0]?,c.args.toList with
   | some t,[x]=>match P.underlying t,ev x with
    | some (.map _ _),some (.map b)=>match V.m.get b with
     | some (.map es _)=>some (.int .i64<|Int.ofNat<|dK es)
     | _=>none
    | some (.map _ _),some .iM=>some (.int .i64 0)
    | _,_=>none
   | _,_=>none
  | _=>none
 | _=>none
inductive Mk where
 | ptr
 | slice (len cap:Nat)
 | map
def Mk.of:Mk->Pos->U
 | .ptr,b=>.ptr b 0
 | .slice len cap,b=>.slice b 0 len (.known cap)
 | .map,b=>.map b
def vp (P:q6) (e:y_):Bool:=
 match P.underlying e with
 | some (.struct fs)=>match fs[0]? with
  | some f=>match P.underlying f.type with
   | some (.pointer t)=>Nat.beq t e
   | _=>false
  | none=>false
 | _=>false
def gb (P:q6) (ev:q_->Option U):Op->Option (cU×Mk)
 | .alloc e=>match(fH P e).bind dg with
  | some cs=>some (bif vp P e then .own cs e else .row cs e false,.ptr)
  | none=>none
 | .box e x=>match(ev x).bind dg with
  | some cs=>some (.row cs e false,.ptr)
  | none=>none
 | .buildSlice t len parts=>match P.underlying t with
  | some (.slice e)=>match P.info? e,(fH P e).bind dg with
   | some j,some z=>
    bif Nat.beq (dK z) j.size && ble (len*j.size) 16777216 && ble 1 j.size then
     match kZ (fun i=>some (i*j.size,j.size)) ev parts.toList (eC z len) with
     | some cs=>some (.row cs e false,.slice len len)
     | none=>none
    else none
   | _,_=>none
  | _=>none
 | .makeSlice t l c=>match P.underlying t,ev l,ev c with
  | some (.slice e),some (.int _ (.ofNat l)),some (.int _ (.ofNat c))=>match P.info? e,(fH P e).bind dg with
   | some j,some z=>
    bif ble l c && ble (j.bytes*c) 1048576 && ble c 1048576 && Nat.beq (dK z) j.size && ble 1 j.size then some (.row (eC z c) e false,.slice l c) else none
   | _,_=>none
  | _,_,_=>none
 | .makeMap _ none=>some (.map [] 0,.map)
 | .makeMap t (some r)=>match P.underlying t,ev r with
  | some (.map _ _),some (.int _ _)=>some (.map [] 0,.map)
  | _,_=>none
 | _=>none
variable {α:Type} {cs:List U} {P:q6} {D:dD}
theorem bZ {c:Bool} {x y:α}:(bif c then x else y)=if c=true then x else y:=by cases c<;>rfl
theorem xr (k:w0) (n:Int) (h:Rb k n=true):k.wrap n=n:=by
 cases k<;>cases n with
 | ofNat a=>simp only[Rb,nE_] at h;simp only[IntKind.wrap,IntKind.bits,IntKind.signed];simp;omega
 | negSucc a=>first | (simp only[Rb,nE_] at h;simp only[IntKind.wrap,IntKind.bits,IntKind.signed];simp;omega) | (simp[Rb] at h)
theorem I3 (k:w0) (n:Int):wr k n=k.wrap n:=by
 grind [wr,xr]
theorem eU (x y:Int):cM x y=decide (x<y):=by
 cases x<;>cases y<;>simp only[cM]<;>(rw[zd_];simp[nE_];try omega)
theorem eB (x y:Int):N x y=decide (x=y):=by
 cases x<;>cases y<;>simp only[N]<;>(rw[zd_];simp;try omega)
theorem qS {j k:w0} (h:uH j k=true):j=k:=by cases j<;>cases k<;>first | rfl | (simp[uH] at h)
theorem yA:∀(s t:List Nat),wS s t=decide (s=t)
 | [],[]=>by simp[wS]
 | [],_::_=>by simp[wS]
 | _::_,[]=>by simp[wS]
 | x::s,y::t=>by
  show(bif Nat.beq x y then wS s t else false)=_;rw[yA s t,zd_]
  simp_all
theorem MA:∀(s t:List UInt8),OB (s.map UInt8.toNat) (t.map UInt8.toNat)=Op.bytesLess s t
 | [],[]=>by simp[OB,Op.bytesLess]
 | [],_::_=>by simp[OB,Op.bytesLess]
 | _::_,[]=>by simp[OB,Op.bytesLess]
 | x::s,y::t=>by
  show(bif ble (Nat.succ x.toNat) y.toNat then true else bif Nat.beq x.toNat y.toNat then OB (s.map UInt8.toNat) (t.map UInt8.toNat) else false)=_;rw[MA s t];simp only[Op.bytesLess]
  have e1:ble (Nat.succ x.toNat) y.toNat=decide (x<y):=by
   rw[zd_,nE_];simp[UInt8.lt_iff_toNat_lt];omega
  have e2:Nat.beq x.toNat y.toNat=(x == y):=by
   rw[zd_,beq_eq];simp[<-UInt8.toNat_inj]
  simp_all
theorem tf:∀{x y:List UInt8},x.map UInt8.toNat=y.map UInt8.toNat->x=y
 | [],[],_=>rfl
 | [],_::_,h=>by simp at h
 | _::_,[],h=>by simp at h
 | a::x,b::y,h=>by
  simp only[List.map_cons,List.cons.injEq] at h;rw[UInt8.toNat_inj.1 h.1,tf h.2]
theorem pF {s t:List Nat} {x y:ByteArray} (h:iQ s x) (h':iQ t y):wS s t=(x.toList == y.toList):=by
 unfold iQ at h h';subst h;subst h';rw[yA,ByteArray.toList_eq,ByteArray.toList_eq,zd_];simp only[decide_eq_true_eq,beq_iff_eq];exact⟨tf,fun h=>by rw[h]⟩
theorem BQ {s t:List Nat} {x y:ByteArray} (h:iQ s x) (h':iQ t y):OB s t=Op.bytesLess x.toList y.toList:=by
 grind [iQ,MA,ByteArray.toList_eq]
theorem ki {s:List Nat} {x:ByteArray} (h:iQ s x):dK s=x.size:=by
 unfold iQ at h;subst h;rw[cH,lM_,Array.length_toList];rfl
theorem info_of_underlying {t:y_} {d:TypeDesc} (h:P.underlying t=some d):∃i,P.info? t=some i:=by
 unfold Program.underlying at h
 grind
theorem tJ {t:y_} {i:TypeInfo} (h:P.info? t=some i):P.cellsOf t=i.size:=by simp[Program.cellsOf,h]
theorem zy:∀(cs l:List U),cs.length<=l.length->mJ cs l=cs++l.drop cs.length
 | [],l,_=>by simp[mJ]
 | c::cs,[],h=>by simp at h
 | c::cs,x::l,h=>by
  show c::mJ cs l=_;rw[zy cs l (by simpa using h)];simp
theorem lF (cs:List U):∀(l:List U) (off:Nat),off+cs.length<=l.length->dy cs l off=l.take off++cs++l.drop (off+cs.length)
 | [],off,h=>by
  have:cs= []:=eN_ (by simp only[List.length_nil] at h;omega);subst this;simp[dy]
 | x::l,0,h=>by
  show mJ cs (x::l)=_;rw[zy _ _ (by simpa using h)];simp
 | x::l,off+1,h=>by
  show x::dy cs l off=_;rw[lF cs l off (by simp at h;omega)];rw[show off+1+cs.length=(off+cs.length)+1 by omega];simp
theorem tx:∀{l:List U},cF l=true->∀v∈l,ml v=true
 | [],_,v,hv=>by simp at hv
 | x::l,h,v,hv=>by
  have h':(bif ml x then cF l else false)=true:=h;cases hx:ml x with
  | false=>rw[hx] at h';simp at h'
  | true=>
   rw[hx] at h';cases hv with
   | head=>exact hx
   | tail _ hm=>exact tx h' v hm
theorem pY {v:U} {x:j_} (h:ml v=true) (hv:VR D v x):x.oneCell'=true:=by
 cases v with
 | slice b off len cap=>
  cases cap with
  | upto sz=>
   simp only[VR] at hv;rcases hv with ⟨l,_,⟨c,rfl,_⟩ | ⟨_,a,rfl⟩⟩<;>rfl
  | known c=>simp only[VR] at hv;obtain⟨l,_,rfl⟩:=hv;rfl
  | least a sz=>simp only[VR] at hv;obtain⟨l,_,c,rfl,_⟩:=hv;rfl
 | any=>simp[ml] at h
 | tok n=>simp only[VR] at hv;exact hv.2
 | _=>simp only[VR,ml] at hv h<;>first | (subst hv;rfl) | (obtain⟨_,rfl,_⟩:=hv;rfl) | (obtain⟨_,_,rfl⟩:=hv;rfl) | (obtain⟨_,_,rfl,_⟩:=hv;rfl) | simp_all
theorem p7 {x:j_} {v:U} (h:lz x=some v):VR D v x:=by
 unfold lz at h;split at h<;>first | (cases h;first | (simp only[VR];done) | (simp only[VR];exact⟨_,Z,Z⟩)) | cases h
theorem ow {D:dD}:∀{xs:List j_} {vs:List U},dv lz xs=some vs->dN D vs xs
 | [],vs,h=>by rw[lT] at h;cases h;exact dN.nil
 | x::xs,vs,h=>by
  obtain⟨y,r,h1,d,rfl⟩:=kz h;exact dN.cons (p7 h1)<|ow d
theorem re {x:j_} {v:U} (h:ra x=some v):VR D v x:=by
 unfold ra at h;split at h
 ·rename_i cs;cases d:dv lz cs.toList with
  | none=>rw[d] at h;cases h
  | some vs=>rw[d] at h;cases h;simp only[VR];exact⟨cs,Z,ow d⟩
 ·rename_i cs;cases d:dv lz cs.toList with
  | none=>rw[d] at h;cases h
  | some vs=>rw[d] at h;cases h;simp only[VR];exact⟨cs,Z,ow d⟩
 exact p7 h
theorem iV {v:U} {x:j_} (h:dg v=some cs) (hv:VR D v x):dN D cs x.cells.toList:=by
 have leaf:ml v=true->cs= [v]->dN D cs x.cells.toList:=fun hl e=>by
  subst e;have hx:=pY hl hv;have e:x.cells.toList= [x]:=by cases x<;>first | rfl | (simp[Value.oneCell'] at hx)
  rw[e];exact dN.cons hv dN.nil
 cases v with
 | agg ds=>simp only[dg,oJ_] at h;subst h;simp only[VR] at hv;obtain⟨ys,rfl,d⟩:=hv;exact d
 | tuple ds=>simp[dg] at h
 | any=>simp[dg] at h
 | _=>simp only[dg,oJ_] at h;exact leaf Z h.symm
theorem nN {v:U} {x:j_} (h:dg v=some cs) (hv:VR D v x):x.cells.size=cs.length:=by
 have:=(iV h hv).length;simpa using this
section
variable {P:q6} {D:dD} {V:aF} {w:x_}
def ER (D:dD) (ev:q_->Option U) (f:q_->j_) (op:Op):Prop:=∀x∈op.operands,∀v,ev x=some v->VR D v (f x)
theorem Inv.piece (hi:Inv D V w) {b:Pos} {l:Loc} {cells:List U} {ro:Bool} (u:V.m.get b=some (.row cells e ro)) (hl:D b=some l) (off n:Nat) (hn:off+n<=cells.length):
  ∃ys:List j_,ys.length=n/\dN D ((cells.drop off).take n) ys/\∀(j:Nat) (y:j_),ys[j]? =some y->w.cell? ((⟨l.eK,l.sh+off,none⟩:Addr).add j)=some y:=by
 obtain⟨c,fr,h1,h2,h3,h4,_⟩:=hi.row u hl;refine⟨(c.toList.drop (l.sh+off)).take n,?_,dN.MN ?_ ?_,?_⟩
 ·grind
 ·grind
 ·grind
 intro j y d;rw[List.getElem?_take] at d;split at d
 ·rw[List.getElem?_drop,aT_] at d;rw[Addr.add_eq _ _ Z,cell?_of_heap h1];exact d
 cases d
def DF:TypeDesc->Bool
 | .struct _ | .array _ _=>true
 | _=>false
theorem fI {t:y_} {d:TypeDesc} (h:P.underlying t=some d):(isAgg t).run P w= .ok (DF d) w:=by
 simp only[isAgg,sB_,run_underlying h,rA];cases d<;>rfl
theorem cR {t:y_} {i:TypeInfo} (h:P.info? t=some i):(sizeOf t).run P w= .ok i.size w:=by
 simp[sizeOf,typeInfo,h]
theorem tw {t:y_} {n:Nat} (h:eo P t=some (some n)):∃d i,P.underlying t=some d/\P.info? t=some i/\i.size=n/\DF d=true:=by
 rw[DG] at h;split at h
 ·rename_i fs hu;obtain⟨i,hi⟩:=info_of_underlying hu;simp only[oJ_] at h;rw[tJ hi] at h;exact⟨_,i,hu,hi,h,Z⟩
 ·rename_i hu;obtain⟨i,hi⟩:=info_of_underlying hu;simp only[oJ_] at h;rw[tJ hi] at h;exact⟨_,i,hu,hi,h,Z⟩
 ·simp at h
 simp at h
theorem x8 {t:y_} (h:eo P t=some none):∃d i,P.underlying t=some d/\P.info? t=some i/\DF d=false:=by
 rw[DG] at h;split at h
 ·simp at h
 ·simp at h
 ·rename_i d h1 h2 hu;obtain⟨i,hi⟩:=info_of_underlying hu;refine⟨d,i,hu,hi,?_⟩;cases d<;>first | rfl | simp_all | simp_all
 simp at h
theorem oE (hi:Inv D V w) {b:Pos} {l:Loc} {off:Nat} {cells:List U} {ro:Bool} (C:V.m.get b=some (.row cells e ro)) (hl:D b=some l) {t:y_} {v:U}
  (h:(match eo P t with
    | some (some n)=>bif ble (off+n) (dK cells) then some (.agg<|takeN (eP cells off) n) else none
    | some none=>nth cells off
    | none=>none)=some v):
  ∃x,(loadVar t ⟨l.eK,l.sh+off,none⟩).run P w= .ok x w/\VR D v x:=by
 cases z:eo P t with
 | none=>rw[z] at h;cases h
 | some o=>
  rw[z] at h;cases o with
  | some n=>
   obtain⟨d,i,hu,u,A,B⟩:=tw z;simp only[bZ] at h;split at h
   ·rename_i hle;rw[nE_,cH] at hle;cases h;obtain⟨ys,hlen,aa,E⟩:=hi.piece C hl off n hle;refine⟨.agg ys.toArray,?_,?_⟩
    ·simp only[loadVar,sB_,fI hu,B,rA,if_true,cR u,A];rw[<-hlen,run_loadCells_list w _ ys E];rfl
    simp only[VR,ed,eR]
    simp_all
   cases h
  | none=>
   obtain⟨d,i,hu,u,B⟩:=x8 z;rw[fN] at h;obtain⟨y,G,hr⟩:=hi.cell C hl h;refine⟨y,?_,hr⟩;simp only[loadVar,sB_,fI hu,B,rA,zi_,if_false];rw[run_load,G]
end
variable {parts:Array (Nat×q_)} {mk:Mk} {ob:cU}
section
variable {P:q6} {D:dD} {V:aF} {w:x_}
def iA (l:List U) (k:Nat):List U->List U
 | []=>l
 | v::vs=>iA (l.set k v) (k+1) vs
theorem tp:∀(vs:List U) (l:List U) (k:Nat),(iA l k vs).length=l.length
 | [],_,_=>rfl
 | v::vs,l,k=>by rw[iA,tp vs];simp
theorem rG:∀(vs:List U) (x:U) (l:List U) (k:Nat),iA (x::l) (k+1) vs=x::iA l k vs
 | [],_,_,_=>rfl
 | v::vs,x,l,k=>by rw[iA,iA,List.set_cons_succ,rG vs]
theorem ri:∀(cs l:List U),cs.length<=l.length->mJ cs l=iA l 0 cs
 | [],l,_=>by simp[mJ,iA]
 | c::cs,[],h=>by simp at h
 | c::cs,x::l,h=>by
  show c::mJ cs l=_;rw[ri cs l (by simpa using h),iA,List.set_cons_zero,rG]
theorem lM (cs:List U):∀(l:List U) (off:Nat),off+cs.length<=l.length->dy cs l off=iA l off cs
 | [],off,h=>by
  have:cs= []:=eN_ (by simp only[List.length_nil] at h;omega);subst this;simp[dy,iA]
 | x::l,0,h=>by
  show mJ cs (x::l)=_;exact ri _ _ (by simpa using h)
 | x::l,off+1,h=>by
  show x::dy cs l off=_;rw[lM cs l off (by simp only[zc_] at h;omega),rG]
theorem Eo {off:Nat}:∀(vs:List U) (xs:List j_) (k:Nat) (l:List U) (ys:Array j_),dN D vs xs->dN D l ys.toList->
  dN D (iA l (off+k) vs) ((xs.zipIdx k).foldl (fun(cs:Array j_) (p:j_×Nat)=>cs.setIfInBounds (off+p.2) p.1) ys).toList
 | [],xs,k,l,ys,h,hl=>by rw[h.fR];exact hl
 | v::vs,xs,k,l,ys,h,hl=>by
  obtain⟨x,r,rfl,h1,d⟩:=h.cons_inv;simp only[List.zipIdx_cons,List.foldl_cons,iA];have:=Eo (off:=off) vs r (k+1) (l.set (off+k) v) (ys.setIfInBounds (off+k) x) d (by simpa using hl.set (off+k) h1);simpa [add_assoc] using this
theorem pV {place place':Nat->Option (Nat×Nat)} (hp:∀i x,place i=some x->place' i=some x) {ev:q_->Option U} {f:q_->j_}:
  ∀(parts:List (Nat×q_)) (cells cs:List U) (ys:Array j_),(∀p∈parts,∀v,ev p.2=some v->VR D v (f p.2))->dN D cells ys.toList->kZ place ev parts cells=some cs->
   ∃zs:Array j_,Instr.fill place' ys (parts.map fun p=>(p.1,f p.2))=some zs/\dN D cs zs.toList
 | [],cells,cs,ys,_,z,h=>by
  simp only[kZ,oJ_] at h;subst h;exact⟨ys,Z,z⟩
 | p::parts,cells,cs,ys,A,z,h=>by
  have h':(match place p.1,(ev p.2).bind dg with
   | some (off,size),some vs=>bif Nat.beq (dK vs) size && ble (off+size) (dK cells) then kZ place ev parts (dy vs cells off) else none
   | _,_=>none)=some cs:=h
  cases u:place p.1 with
  | none=>simp_all
  | some x=>
   obtain⟨off,size⟩:=x;cases hv:ev p.2 with
   | none=>simp_all
   | some v=>
    rw[u,hv] at h';simp only[Option.bind_some] at h';cases d:dg v with
    | none=>simp_all
    | some vs=>
     rw[d] at h';simp only[bZ] at h';split at h'
     ·rename_i hb;simp only[bA_,beq_eq,nE_,cH] at hb;obtain⟨ab,ac⟩:=hb;have hvr:=A p (by simp) v hv;have hcells:=iV d hvr;have hsize:=nN d hvr;have aa:ys.size=cells.length:=by have:=z.length;simpa using this
      have hfold:=Eo (off:=off) vs (f p.2).cells.toList 0 cells ys hcells z;rw[Nat.add_zero,<-lM vs cells off oM] at hfold;obtain⟨zs,h1,B⟩:=pV hp parts (dy vs cells off) cs _ (fun q hq=>A q (by simp[hq])) hfold h';refine⟨zs,?_,B⟩;rw[List.map_cons];simp only[Instr.fill,hp _ _ u];rw[if_neg]
      ·rw[<-h1];congr 1;rw[<-Array.foldl_toList];simp
      simp_all
     cases h'
theorem uz {α β:Type} {g:α->Option β}:∀{l:List α} {ys:List β},dv g l=some ys->l.mapM g=some ys
 | [],ys,h=>by rw[lT] at h;cases h;rfl
 | x::l,ys,h=>by
  obtain⟨y,r,h1,d,rfl⟩:=kz h;simp[List.mapM_cons,h1,uz d]
theorem rS {t:y_} {z:U} (h:fH P t=some z):∃i x,P.info? t=some i/\i.zero=some x/\∀D:dD,VR D z x:=by
 unfold fH at h;cases hi:P.info? t with
 | none=>rw[hi] at h;cases h
 | some i=>
  rw[hi] at h;simp only[Option.bind_some] at h;cases d:i.zero with
  | none=>rw[d] at h;cases h
  | some x=>rw[d] at h;exact⟨i,x,Z,d,fun D=>re h⟩
theorem gF {t:y_} (h:(fH P t).bind dg=some cs):∃i x,P.info? t=some i/\i.zero=some x/\∀D:dD,dN D cs x.cells.toList:=by
 cases d:fH P t with
 | none=>rw[d] at h;cases h
 | some z=>
  grind [rS,iV]
theorem DP {ev:q_->Option U} {f:q_->j_} {t:y_} {v:U}
  (C:∀p∈parts.toList,∀v,ev p.2=some v->VR D v (f p.2)) (h:dO P ev (.build t parts)=some v):
  ∃x,(Instr.build t<|parts.map fun(i,x)=>(i,f x)).run P w= .ok x w/\VR D v x:=by
 simp only[dO] at h;cases hu:P.underlying t with
 | none=>rw[hu] at h;cases h
 | some d=>
  rw[hu] at h;cases E:(fH P t).bind dg with
  | none=>simp_all
  | some zero=>
   rw[E] at h;obtain⟨it,z,u,hzero,A⟩:=gF E;cases d with
   | struct fs=>
    simp only at h;cases B:dv (fun f:Field=>(P.info? f.type).map fun j=>(f.offset,j.size)) fs.toList with
    | none=>simp_all
    | some places=>
     rw[B] at h;dsimp only at h;cases hf:kZ (nth places) ev parts.toList zero with
     | none=>rw[hf] at h;cases h
     | some cs=>
      rw[hf] at h;cases h;obtain⟨zs,h1,G⟩:=pV (place':=(places.toArray[·]?)) (fun i x hx=>by rw[fN] at hx;simpa using hx) parts.toList zero cs z.cells C (A D) hf
      refine⟨.agg zs,run_build w t _ zs ?_,by simp only[VR];simp_all⟩;simp only[Program.built,u,hu,hzero,uz B];simpa using h1
   | array n e=>
    simp only at h;cases hj:P.info? e with
    | none=>rw[hj] at h;cases h
    | some j=>
     rw[hj] at h;dsimp only at h;cases hf:kZ (fun i=>some (i*j.size,j.size)) ev parts.toList zero with
     | none=>rw[hf] at h;cases h
     | some cs=>
      rw[hf] at h;cases h;obtain⟨zs,h1,G⟩:=pV (place':=fun i=>some (i*j.size,j.size)) (fun i x hx=>hx) parts.toList zero cs z.cells C (A D) hf;refine⟨.agg zs,run_build w t _ zs ?_,by simp only[VR];simp_all⟩;simp only[Program.built,u,hu,hzero,hj];simpa using h1
   | _=>cases h
theorem sD {ys:List j_} (h:dN D cs ys) (r e:Nat):iD D ⟨r,0,cs.length⟩ (.row cs e false) (.cells ys.toArray e):=by
 refine⟨_,_,Z,by simpa using h.length,nR_ _,fun i v hv=>?_,fun _ j _ hj=>by simp at hj⟩;obtain⟨y,h1,h2⟩:=h.get hv
 simp_all
theorem kQ {cs:List U} {ys:List j_} (h:dN D cs ys):∀n,dN D (eC cs n) ((replicate n ys).flatten)
 | 0=>(dN.nil:dN D [] [])
 | n+1=>by
  show dN D (iw cs<|eC cs n) _;rw[eD,List.replicate_succ,List.flatten_cons];exact h.append<|kQ h n
theorem oU (cs:List U):∀n,(eC cs n).length=n*cs.length
 | 0=>by rw[Nat.zero_mul];rfl
 | n+1=>by
  show(iw cs<|eC cs n).length=_;rw[eD,lA_,oU cs n,Nat.succ_mul,Nat.add_comm]
theorem k9 (ys:List j_):∀(n j:Nat),j<n*ys.length->((replicate n ys).flatten)[j]? =ys[j%ys.length]?
 | 0,j,h=>by simp at h
 | n+1,j,h=>by
  rw[List.replicate_succ,List.flatten_cons]
  by_cases hj:j<ys.length
  ·rw[gL_ hj,Nat.mod_eq_of_lt hj]
  rw[gR_ oM,k9 ys n (j-ys.length) (by rw[Nat.succ_mul] at h;omega)];congr 1
  have h0:0<ys.length:=by
   rcases Nat.eq_zero_or_pos ys.length with h0 | h0
   ·rw[h0] at h;simp at h
   exact h0
  rw[Nat.mod_eq_sub_mod (by omega:j≥ys.length)]
theorem xM (z:Array j_) (n:Nat) (hz:0<z.size):((Array.range (n*z.size)).map (z[· %z.size]!))=((replicate n z.toList).flatten).toArray:=by
 apply Array.ext_getElem?;intro j;simp only[Array.getElem?_map,List.getElem?_toArray]
 by_cases hj:j<n*z.size
 ·grind [k9,mod_lt]
 simp_all
theorem wE {ev:q_->Option U} {f:q_->j_} {o:z_} (K:ER D ev f o.op) (h:gb P ev o.op=some (ob,mk)):
  ∃(x:j_) (ob':Obj) (n:Nat),(execOp f o).run P w= .ok (.value x) (w.alloc ob')/\ob.ro=false/\iD D ⟨w.heap.size,0,n⟩ ob ob'/\
   ∀(D':dD) (b:Pos),D' b=some ⟨w.heap.size,0,n⟩->VR D' (mk.of b) x:=by
 cases A:o.op with
 | alloc e=>
  rw[A] at h;simp only[gb] at h;cases C:(fH P e).bind dg with
  | none=>rw[C] at h;cases h
  | some cs=>
   rw[C] at h;obtain⟨i,z,hi,hzero,u⟩:=gF C;cases hp:vp P e with
   | false=>
    rw[hp] at h;cases h;refine⟨.pointer<|some ⟨w.heap.size,0,none⟩,.cells z.cells e,cs.length,?_,Z,sD (u D) _ _,fun D' b hb=>by simp only[Mk.of,VR];simp_all⟩;simp[execOp,A,Instr.alloc,zeroValue,typeInfo,hi,hzero,newVar,newRow]
   | true=>
    rw[hp] at h;cases h;refine⟨.pointer<|some ⟨w.heap.size,0,none⟩,.cells z.cells e,cs.length,?_,Z,iD.IM ⟨Z,Z⟩<|sD (u D) _ _,fun D' b hb=>by simp only[Mk.of,VR];simp_all⟩;simp[execOp,A,Instr.alloc,zeroValue,typeInfo,hi,hzero,newVar,newRow]
 | box e x=>
  rw[A] at h K;simp only[gb] at h;cases hv:ev x with
  | none=>rw[hv] at h;cases h
  | some v=>
   rw[hv] at h;dsimp only[Option.bind_some] at h;cases Q:dg v with
   | none=>rw[Q] at h;cases h
   | some cs=>
    rw[Q] at h;cases h;have hvr:=K x (by simp[Op.operands]) v hv;refine⟨.pointer<|some ⟨w.heap.size,0,none⟩,.cells (f x).cells e,cs.length,?_,Z,sD (iV Q hvr) _ _,fun D' b hb=>by simp only[Mk.of,VR];simp_all⟩;simp[execOp,A,Instr.box,newVar,newRow]
 | buildSlice t len parts=>
  rw[A] at h K;simp only[gb] at h;cases hu:P.underlying t with
  | none=>rw[hu] at h;cases h
  | some d=>
   rw[hu] at h;cases d with
   | slice e=>
    dsimp only at h;cases hj:P.info? e with
    | none=>rw[hj] at h;cases h
    | some j=>
     cases C:(fH P e).bind dg with
     | none=>simp_all
     | some z=>
      rw[hj,C] at h;simp only[bZ] at h;split at h
      ·rename_i hb;simp only[bA_,beq_eq,nE_,cH] at hb;obtain⟨⟨L,R⟩,S⟩:=hb;cases hf:kZ (fun i=>some (i*j.size,j.size)) ev parts.toList (eC z len) with
       | none=>rw[hf] at h;cases h
       | some cs=>
        rw[hf] at h;cases h;obtain⟨i,zv,hi,hzero,u⟩:=gF C;rw[hj] at hi;cases hi;have B:zv.cells.size=j.size:=by rw[<-L,<-(u D).length,Array.length_toList]
        have E:∀p∈parts.toList,∀v,ev p.2=some v->VR D v (f p.2):=fun p hp v hv=>K p.2 (by simp only[Op.operands,List.mem_toArray,zn_];grind) v hv
        obtain⟨zs,h1,T⟩:=pV (place':=fun i=>some (i*j.size,j.size)) (fun i x hx=>hx) parts.toList (eC z len) cs ((replicate len zv.cells.toList).flatten).toArray E
         (by simpa using kQ (u D) len) hf
        rw[<-xM zv.cells len oM,B] at h1;have aa:cs.length=zs.size:=by have:=T.length;simpa using this.symm
        by_cases M:len*j.size=0
        ·refine⟨.slice (some ⟨w.heap.size,0,none⟩) len len,.cells zs e,cs.length,?_,Z,by simpa using sD T w.heap.size e,fun D' b hb=>by simp only[Mk.of,VR];simp_all⟩;have W:(Array.map (fun x=>zv.cells[x%j.size]!)<|Array.range (len*j.size))= #[]:=by rw[M];simp
         rw[W] at h1;have X:∀g:Nat->j_,Array.map g (Array.range 0)= #[]:=fun g=>by simp
         simp[execOp,A,Instr.buildSlice,run_underlying hu,sizeOf,typeInfo,hj,M,X,h1,newRow]
        refine⟨.slice (some ⟨w.heap.size,0,none⟩) len len,.cells zs e,cs.length,?_,Z,by simpa using sD T w.heap.size e,fun D' b hb=>by simp only[Mk.of,VR];simp_all⟩;have hrun:=run_buildSlice (P:=P) w t e len (parts.map fun(i,x)=>(i,f x)) zs j zv hu hj hzero oM M (by simp_all)
        grind [execOp,sB_,rA,sP_]
      cases h
   | _=>cases h
 | makeSlice t l c=>
  rw[A] at h K;simp only[gb] at h;cases hu:P.underlying t with
  | none=>rw[hu] at h;cases h
  | some d=>
   rw[hu] at h;cases hl:ev l with
   | none=>simp_all
   | some vl=>
    cases Q:ev c with
    | none=>simp_all
    | some vc=>
     rw[hl,Q] at h;split at h
     ·rename_i e kl ln kc cn he ab ac;cases he;cases ab;cases ac;cases hj:P.info? e with
      | none=>rw[hj] at h;cases h
      | some j=>
       cases C:(fH P e).bind dg with
       | none=>simp_all
       | some z=>
        rw[hj,C] at h;simp only[bZ] at h;split at h
        ·rename_i hb;simp only[bA_,beq_eq,nE_,cH] at hb;obtain⟨⟨⟨⟨L,R⟩,S⟩,am⟩,aq⟩:=hb;cases h;obtain⟨i,zv,hi,hzero,u⟩:=gF C;rw[hj] at hi;cases hi;have B:zv.cells.size=j.size:=by rw[<-am,<-(u D).length,Array.length_toList]
         have ar:f l= .int kl (Int.ofNat ln):=by have:=K l (by simp[Op.operands]) _ hl;simpa only[VR] using this
         have a0:f c= .int kc (Int.ofNat cn):=by have:=K c (by simp[Op.operands]) _ Q;simpa only[VR] using this
         have ao:(j.bytes:Int)*(Int.ofNat cn)<=281474976710656:=by
          grind
         have hrun:=run_make (P:=P) w t e j zv hu hj hzero kl kc (Int.ofNat ln) (Int.ofNat cn) (Int.natCast_nonneg _) (Int.ofNat_le.2 L) ao (by grind)
         have G:madeCells zv.cells ((Int.ofNat cn).toNat*j.size)=((replicate cn zv.cells.toList).flatten).toArray:=by
          unfold madeCells;rw[show(Int.ofNat cn).toNat=cn from Z,<-B];exact xM zv.cells cn oM
         rw[G] at hrun;have hts:=kQ (u D) cn
         refine⟨.slice (some ⟨w.heap.size,0,none⟩) ln cn,.cells ((replicate cn zv.cells.toList).flatten).toArray e,(eC z cn).length,?_,Z,sD hts _ _,
          fun D' b hb=>by simp only[Mk.of,VR];simp_all⟩
         grind [execOp,sB_,rA,sP_]
        cases h
     cases h
 | makeMap t r=>
  rw[A] at h;cases r with
  | some r=>
   simp only[gb] at h;split at h
   ·rename_i mk mv k n hu hr;simp only[oJ_,Prod.mk.injEq] at h;obtain⟨rfl,rfl⟩:=h;have ap:f r= .int k n:=by have:=K r (by rw[A];simp[Op.operands]) _ hr;simpa only[VR] using this
    refine⟨.map<|some w.heap.size,.map #[] 0,0,?_,Z,⟨#[],Z,Z⟩,fun D' b hb=>by simp only[Mk.of,VR];simp_all⟩;simp[execOp,A,Instr.makeMap,ap,run_underlying hu,asInt,asIntOf]
   cases h
  | none=>
   simp only[gb,oJ_,Prod.mk.injEq] at h;obtain⟨rfl,rfl⟩:=h;refine⟨.map<|some w.heap.size,.map #[] 0,0,?_,Z,⟨#[],Z,Z⟩,fun D' b hb=>by simp only[Mk.of,VR];simp_all⟩;simp[execOp,A,Instr.makeMap]
 | _=>rw[A] at h;simp[gb] at h
end
variable {fs:Array Field} {ys:Array j_}
section
variable {P:q6} {D:dD} {w:x_}
theorem qO (a b:Bool):(bif a then b else(bif b then false else true))=(a == b):=by grind
theorem Lt (a b:Bool):(bif a then(bif b then false else true) else b)=(a !=b):=by grind
theorem cond_not (b:Bool):(bif b then false else true)= !b:=by cases b<;>rfl
theorem mw {d:Nat}:∀(fs:List Field) (xs ys:List U) (cs ds:Array j_) (b:Bool),dN D xs cs.toList->dN D ys ds.toList->mI fs=true->jT P fs xs ys=some b->
  (Op.eqFields (d+1) cs ds fs).run P w= .ok b w
 | [],xs,ys,cs,ds,b,_,_,_,h=>by
  simp only[jT,oJ_] at h;subst h;simp[Op.eqFields]
 | f::fs,xs,ys,cs,ds,b,hx,R,hn,h=>by
  have S:(bif f.name == "_" then false else mI fs)=true:=hn
  have u:(f.name == "_")=false:=by
   simp_all
  rw[u] at S;have B:f.name≠ "_" :=by simpa using u
  have h':(match P.underlying f.type,nth xs f.offset,nth ys f.offset with
   | some .bool,some (.bool a),some (.bool b)=>bif (bif a then b else(bif b then false else true)) then jT P fs xs ys else some false
   | some (.int _),some (.int j a),some (.int k b)=>bif uH j k then(bif N a b then jT P fs xs ys else some false) else none
   | some .string,some (.str a),some (.str b)=>bif wS a b then jT P fs xs ys else some false
   | _,_,_=>none)=some b:=h
  have ih:=mw (d:=d) fs xs ys cs ds
  have part {v:U} {cells:List U} {es:Array j_} (Q:dN D cells es.toList) (X:nth cells f.offset=some v) (E:DF (match P.underlying f.type with | some d=>d | none=>.invalid)=false) (hu:P.underlying f.type≠none):
    ∃y,(part f.type es f.offset).run P w= .ok y w/\VR D v y:=by
   rw[fN] at X;obtain⟨y,h1,h2⟩:=Q.get X;cases C:P.underlying f.type with
   | none=>exact absurd C hu
   | some dd=>
    rw[C] at E;refine⟨y,?_,h2⟩;simp only[Go.part,sB_,fI C,E,rA,zi_,if_false]
    simp_all
  split at h'
  ·rename_i u1 u2 u3 a b' e1 G K;obtain⟨y1,L,z⟩:=part hx G (by rw[e1];rfl) (by rw[e1];simp);obtain⟨y2,M,A⟩:=part R K (by rw[e1];rfl) (by rw[e1];simp);simp only[VR] at z A;subst z;subst A;simp only[Op.eqFields,B,ne_eq,not_false_eq_true,if_true,sB_,L,M,rA,run_equalIn_bool w d f.type _ _ e1];rw[qO] at h';cases Q:(a == b') with
   | true=>grind
   | false=>simp_all
  ·rename_i u1 u2 u3 kk j a k b' e1 G K;obtain⟨y1,L,z⟩:=part hx G (by rw[e1];rfl) (by rw[e1];simp);obtain⟨y2,M,A⟩:=part R K (by rw[e1];rfl) (by rw[e1];simp);simp only[VR] at z A;subst z;subst A;cases hk:uH j k with
   | false=>simp_all
   | true=>
    rw[hk] at h';have:=qS hk;subst this;simp only[Op.eqFields,B,ne_eq,not_false_eq_true,if_true,sB_,L,M,rA,run_equalIn_int w d f.type _ _ _ _ e1];rw[eB] at h';cases Q:decide (a=b') with
    | true=>grind
    | false=>simp_all
  ·rename_i u1 u2 u3 a b' e1 G K;obtain⟨y1,L,z⟩:=part hx G (by rw[e1];rfl) (by rw[e1];simp);obtain⟨y2,M,A⟩:=part R K (by rw[e1];rfl) (by rw[e1];simp);simp only[VR] at z A;obtain⟨s1,rfl,T⟩:=z;obtain⟨s2,rfl,W⟩:=A;simp only[Op.eqFields,B,ne_eq,not_false_eq_true,if_true,sB_,L,M,rA,run_equalIn_string w d f.type _ _ e1];rw[pF T W] at h';cases Q:(s1.toList == s2.toList) with
   | true=>grind
   | false=>simp_all
  cases h'
theorem oN {t:y_} (h:structOf P t=some fs):P.underlying t=some (.struct fs):=by
 grind [structOf,pH]
theorem wT {t:y_} (h:P.underlying t=some (.struct fs)):P.fieldsOf t=fs:=by simp[Program.fieldsOf,h]
theorem ze {e:y_} (h:tQ P e=true):∃k i,P.underlying e=some (.int k)/\P.info? e=some i/\i.size=1:=by
 grind [tQ,nB]
theorem pA {d:Nat} {e:y_} {k':w0} (he:P.underlying e=some (.int k')):∀(l1 l2:List U) (s:Nat) (u z:Array j_) (b:Bool),
  (∀(i:Nat) (v:U),l1[i]? =some v->∃y,u[s+i]? =some y/\VR D v y)->(∀(i:Nat) (v:U),l2[i]? =some v->∃y,z[s+i]? =some y/\VR D v y)->yz l1 l2=some b->
  (Op.eqItems (d+1) e 1 u z<|range' s l1.length).run P w= .ok b w
 | [],l2,s,u,z,b,_,_,h=>by
  cases l2 with
  | nil=>cases h;simp[Op.eqItems]
  | cons y r=>cases h
 | x::l1,l2,s,u,z,b,h1,A,h=>by
  cases l2 with
  | nil=>cases x<;>cases h
  | cons y r=>
   cases x<;>try (cases h;done)
   rename_i j a;cases y<;>try (cases h;done)
   rename_i k c;have h':(bif uH j k then(bif N a c then yz l1 r else some false) else none)=some b:=h;cases hk:uH j k with
   | false=>simp_all
   | true=>
   rw[hk] at h';have:=qS hk;subst this;obtain⟨y1,q1,B⟩:=h1 0 _ Z;obtain⟨y2,q2,C⟩:=A 0 _ Z;simp only[VR] at B C;subst B;subst C;simp only[Nat.add_zero] at q1 q2
   have p:∀(cs:Array j_) (v:j_),cs[s]? =some v->(part e cs (s*1)).run P w= .ok v w:=fun cs v hv=>by
    rw[Nat.mul_one];simp only[part,sB_,fI he,DF,rA,zi_,if_false,hv,sP_]
   simp only[zc_,List.range'_succ,Op.eqItems,sB_,p u _ q1,p z _ q2,rA,run_equalIn_int w d e _ _ _ _ he];rw[eB] at h';have ih:=pA (d:=d) he l1 r (s+1) u z;cases E:decide (a=c) with
   | true=>
    rw[E] at h';have:=of_decide_eq_true E;subst this
    simpa using ih b (fun i v hv=>by have:=h1 (i+1) v (by simpa using hv);grind)
     (fun i v hv=>by have:=A (i+1) v (by simpa using hv);grind) (by simpa using h')
   | false=>
    simp_all
theorem iu {t:y_} {off n:Nat} (z:eo P t=some (some n)) (A:dN D cs ys.toList):∃c,(part t ys off).run P w= .ok (.agg c) w/\dN D (takeN (eP cs off) n) c.toList:=by
 obtain⟨d,i,hu,hi,u,B⟩:=tw z;refine⟨ys.extract off (off+n),?_,?_⟩
 ·simp only[part,sB_,fI hu,B,rA,if_true,cR hi,u,sP_]
 rw[ed,eR,Array.toList_extract];have:=(A.drop off).take n
 simp_all
theorem ny {d:Nat}:∀(fs:List Field) (xs ys:List U) (cs ds:Array j_) (b:Bool),dN D xs cs.toList->dN D ys ds.toList->mI fs=true->eqFields P fs xs ys=some b->
  (Op.eqFields (d+1+1) cs ds fs).run P w= .ok b w
 | [],xs,ys,cs,ds,b,_,_,_,h=>by
  simp only[eqFields,oJ_] at h;subst h;simp[Op.eqFields]
 | f::fs,xs,ys,cs,ds,b,hx,T,hn,h=>by
  have ac:(bif f.name == "_" then false else mI fs)=true:=hn
  have B:(f.name == "_")=false:=by
   simp_all
  rw[B] at ac;have C:f.name≠ "_" :=by simpa using B
  have h':(match P.underlying f.type,nth xs f.offset,nth ys f.offset with
   | some .bool,some (.bool a),some (.bool b)=>bif (bif a then b else(bif b then false else true)) then eqFields P fs xs ys else some false
   | some (.int _),some (.int j a),some (.int k b)=>bif uH j k then(bif N a b then eqFields P fs xs ys else some false) else none
   | some .string,some (.str a),some (.str b)=>bif wS a b then eqFields P fs xs ys else some false
   | some (.struct gs),_,_=>bif P.stoodInHeld f.type || !mI gs.toList then none else match eo P f.type with
    | some (some n)=>match jT P gs.toList (takeN (eP xs f.offset) n) (takeN (eP ys f.offset) n) with
     | some true=>eqFields P fs xs ys
     | some false=>some false
     | none=>none
    | _=>none
   | some (.array m e),_,_=>bif tQ P e then(match eo P f.type with
    | some (some n)=>bif Nat.beq n m && (Nat.beq (dK<|takeN (eP xs f.offset) n) m && Nat.beq (dK<|takeN (eP ys f.offset) n) m) then(match yz (takeN (eP xs f.offset) n) (takeN (eP ys f.offset) n) with
     | some true=>eqFields P fs xs ys
     | some false=>some false
     | none=>none) else none
    | _=>none) else none
   | _,_,_=>none)=some b:=h
  have ih:=ny (d:=d) fs xs ys cs ds
  have part {v:U} {cells:List U} {es:Array j_} (M:dN D cells es.toList) (hg:nth cells f.offset=some v) (u:DF (match P.underlying f.type with | some d=>d | none=>.invalid)=false) (hu:P.underlying f.type≠none):
    ∃y,(part f.type es f.offset).run P w= .ok y w/\VR D v y:=by
   rw[fN] at hg;obtain⟨y,h1,h2⟩:=M.get hg;cases Q:P.underlying f.type with
   | none=>exact absurd Q hu
   | some dd=>
    rw[Q] at u;refine⟨y,?_,h2⟩;simp only[Go.part,sB_,fI Q,u,rA,zi_,if_false]
    simp_all
  split at h'
  ·rename_i u1 u2 u3 a b' e1 W X;obtain⟨y1,G,z⟩:=part hx W (by rw[e1];rfl) (by rw[e1];simp);obtain⟨y2,K,A⟩:=part T X (by rw[e1];rfl) (by rw[e1];simp);simp only[VR] at z A;subst z;subst A;simp only[Op.eqFields,C,ne_eq,not_false_eq_true,if_true,sB_,G,K,rA,run_equalIn_bool w (d+1) f.type _ _ e1];rw[qO] at h';cases M:(a == b') with
   | true=>grind
   | false=>simp_all
  ·rename_i u1 u2 u3 kk j a k b' e1 W X;obtain⟨y1,G,z⟩:=part hx W (by rw[e1];rfl) (by rw[e1];simp);obtain⟨y2,K,A⟩:=part T X (by rw[e1];rfl) (by rw[e1];simp);simp only[VR] at z A;subst z;subst A;cases hk:uH j k with
   | false=>simp_all
   | true=>
    rw[hk] at h';have:=qS hk;subst this;simp only[Op.eqFields,C,ne_eq,not_false_eq_true,if_true,sB_,G,K,rA,run_equalIn_int w (d+1) f.type _ _ _ _ e1];rw[eB] at h';cases M:decide (a=b') with
    | true=>grind
    | false=>simp_all
  ·rename_i u1 u2 u3 a b' e1 W X;obtain⟨y1,G,z⟩:=part hx W (by rw[e1];rfl) (by rw[e1];simp);obtain⟨y2,K,A⟩:=part T X (by rw[e1];rfl) (by rw[e1];simp);simp only[VR] at z A;obtain⟨s1,rfl,am⟩:=z;obtain⟨s2,rfl,ao⟩:=A;simp only[Op.eqFields,C,ne_eq,not_false_eq_true,if_true,sB_,G,K,rA,run_equalIn_string w (d+1) f.type _ _ e1];rw[pF am ao] at h';cases M:(s1.toList == s2.toList) with
   | true=>grind
   | false=>simp_all
  ·rename_i u1 u2 u3 gs e1;cases O:P.stoodInHeld f.type with
   | true=>simp_all
   | false=>
   cases aa:mI gs.toList with
   | false=>simp_all
   | true=>
   rw[O,aa] at h';simp only[Bool.not_true,Bool.or_false,cond_false] at h';cases u:eo P f.type with
   | none=>simp_all
   | some q=>
   cases q with
   | none=>simp_all
   | some n=>
   rw[u] at h';dsimp only at h';cases E:jT P gs.toList (takeN (eP xs f.offset) n) (takeN (eP ys f.offset) n) with
   | none=>simp_all
   | some bb=>
    rw[E] at h';obtain⟨R,G,z⟩:=iu (P:=P) (w:=w) u hx (off:=f.offset);obtain⟨S,K,A⟩:=iu (P:=P) (w:=w) u T (off:=f.offset);have hq:=mw (P:=P) (w:=w) (d:=d) gs.toList _ _ R S bb z A aa E
    have hE:(Op.equalIn (d+1+1) f.type (.agg R) (.agg S)).run P w= .ok bb w:=by
     grind [run_equalIn_struct,wT]
    simp only[Op.eqFields,C,ne_eq,not_false_eq_true,if_true,sB_,G,K,rA,hE];cases bb with
    | true=>simp_all
    | false=>simp_all
  ·rename_i u1 u2 u3 m e e1;cases ab:tQ P e with
   | false=>simp_all
   | true=>
   rw[ab] at h';simp only[cond_true] at h';obtain⟨k,inf,he,L,ap⟩:=ze ab;cases u:eo P f.type with
   | none=>simp_all
   | some q=>
   cases q with
   | none=>simp_all
   | some n=>
   rw[u] at h';dsimp only at h';rw[bZ] at h';split at h'
   case isFalse=>cases h'
   rename_i M;simp only[bA_,beq_eq,cH] at M;obtain⟨ar,aq,a0⟩:=M;cases E:yz (takeN (eP xs f.offset) n) (takeN (eP ys f.offset) n) with
   | none=>simp_all
   | some bb=>
    rw[E] at h';obtain⟨R,G,z⟩:=iu (P:=P) (w:=w) u hx (off:=f.offset);obtain⟨S,K,A⟩:=iu (P:=P) (w:=w) u T (off:=f.offset)
    have hq:=pA (P:=P) (w:=w) (D:=D) (d:=d) he _ _ 0 R S bb (fun i v hv=>by obtain⟨y,a1,a2⟩:=z.get hv;simp_all)
     (fun i v hv=>by obtain⟨y,a1,a2⟩:=A.get hv;simp_all) E
    rw[aq] at hq
    have hE:(Op.equalIn (d+1+1) f.type (.agg R) (.agg S)).run P w= .ok bb w:=by
     rw[run_equalIn_array w (d+1) R S e1 L,tJ L,ap,List.range_eq_range'];exact hq
    simp only[Op.eqFields,C,ne_eq,not_false_eq_true,if_true,sB_,G,K,rA,hE];cases bb with
    | true=>simp_all
    | false=>simp_all
  cases h'
theorem dj (op:BinOp) (t:y_) (x y:q_) (a b:j_) (h1:¬(a= .nilIface/\b= .nilIface)) (h2:¬(∃c d,a= .agg c/\b= .agg d)):(eqGuard op t x y a b).run P w= .ok () w:=by
 unfold eqGuard
 simp_all
end
section
variable {P:q6} {D:dD} {w:x_}
theorem VR.lD {b:Pos} {off len:Nat} {cap:ou} {x:j_} (h:VR D (.slice b off len cap) x):∃a c,x= .slice (some a) len c:=by
  cases cap with
  | upto sz=>
    simp only[VR] at h
    grind
  | known c=>simp only[VR] at h;grind
  | least a sz=>simp only[VR] at h;grind
theorem qU {t:y_} {x y:U} {b:Bool} {a c:j_} (h:Gu P t x y=some b) (hx:VR D x a) (z:VR D y c) (op:BinOp) (xo yo:q_):
    (eqGuard op t xo yo a c).run P w= .ok () w/\(Op.equal t a c).run P w= .ok b w:=by
  unfold Gu at h;have aa:∀r:Result Bool,((Op.equalIn (9999+1) t a c).run P w=r)->(Op.equal t a c).run P w=r:=fun r h=>h
  have u:∀r:Result Bool,(∀d,(Op.equalIn (d+1) t a c).run P w=r)->(Op.equal t a c).run P w=r:=fun r h=>h 9999
  split at h
  ·
    rename_i xs ys;simp only[VR] at hx z;obtain⟨cs,rfl,ab⟩:=hx;obtain⟨ds,rfl,ac⟩:=z
    grind [structOf,oN,run_eqGuard_agg,run_equalIn_struct,wT,ny]
  all_goals (try (cases h;done))
  all_goals (split at h)
  all_goals (try (cases h;done))
  all_goals (try (rename_i hu;cases h))
  all_goals first
    | (obtain⟨a',c',rfl⟩:=VR.lD hx
       simp only[VR] at z;subst z;refine⟨dj op t xo yo _ _ (by simp) (by simp),u _ (fun d=>?_)⟩;simp[Op.equalIn,run_underlying hu]
       done)
    | (obtain⟨a',c',rfl⟩:=VR.lD z
       simp only[VR] at hx;subst hx;refine⟨dj op t xo yo _ _ (by simp) (by simp),u _ (fun d=>?_)⟩;simp[Op.equalIn,run_underlying hu]
       done)
    | (simp only[VR] at hx z
       subst hx;subst z;refine⟨dj op t xo yo _ _ (by simp) (by simp),u _ (fun d=>?_)⟩;simp[Op.equalIn,run_underlying hu]
       done)
    | (simp only[VR] at hx z
       obtain⟨l,_,rfl⟩:=hx;subst z;refine⟨dj op t xo yo _ _ (by simp) (by simp),u _ (fun d=>?_)⟩;simp[Op.equalIn,run_underlying hu]
       done)
    | (simp only[VR] at hx z
       obtain⟨l,_,rfl⟩:=z;subst hx;refine⟨dj op t xo yo _ _ (by simp) (by simp),u _ (fun d=>?_)⟩;simp[Op.equalIn,run_underlying hu]
       done)
    | (simp only[VR] at hx z
       obtain⟨l,rfl,_⟩:=hx;subst z;refine⟨dj op t xo yo _ _ (by simp) (by simp),u _ (fun d=>?_)⟩;simp[Op.equalIn,run_underlying hu]
       done)
    | (simp only[VR] at hx z
       obtain⟨l,rfl,_⟩:=z;subst hx;refine⟨dj op t xo yo _ _ (by simp) (by simp),u _ (fun d=>?_)⟩;simp[Op.equalIn,run_underlying hu]
       done)
    | (simp only[VR] at hx z
       obtain⟨l,l',rfl,_⟩:=hx;subst z;refine⟨dj op t xo yo _ _ (by simp) (by simp),u _ (fun d=>?_)⟩;simp[Op.equalIn,run_underlying hu]
       done)
    | (simp only[VR] at hx z
       obtain⟨l,l',rfl,_⟩:=z;subst hx;refine⟨dj op t xo yo _ _ (by simp) (by simp),u _ (fun d=>?_)⟩;simp[Op.equalIn,run_underlying hu]
       done)
    | (rename_i hu
       rw[bZ] at h;split at h
       · rename_i B
         cases h;rw[bA_,bA_] at B;obtain⟨hb,ho,hi⟩:=B;have hb:=nB hb;have ho:=nB ho;subst hb;subst ho;obtain⟨j,hj⟩:=ze_.1 hi;simp only[VR] at hx z;obtain⟨l,hl,rfl⟩:=hx;obtain⟨l',A,rfl⟩:=z;rw[hl] at A;cases A;refine⟨dj op t xo yo _ _ (by simp) (by simp),u _ (fun d=>?_)⟩;simp[Op.equalIn,run_underlying hu,sizeOf,typeInfo,hj,run_sameAddr_same]
       · cases h)
theorem oK {t:y_} {a c:j_} {b:Bool} (h:(Op.equal t a c).run P w= .ok b w)
    (hn:∀k m k' m',¬(a= .int k m/\c= .int k' m')) (hf:∀k m k' m',¬(a= .float k m/\c= .float k' m')) (d:∀k m n k' m' n',¬(a= .complex k m n/\c= .complex k' m' n')) (u:∀s s',¬(a= .string s/\c= .string s')):
    (binOp .eql t a c).run P w= .ok (.bool b) w/\(binOp .neq t a c).run P w= .ok (.bool (!b)) w:=by
  constructor
  · unfold binOp
    split<;>first
      | (exact absurd ⟨rfl,rfl⟩<|hn _ _ _ _)
      | (exact absurd ⟨rfl,rfl⟩<|hf _ _ _ _)
      | (exact absurd ⟨rfl,rfl⟩<|d _ _ _ _ _ _)
      | (exact absurd ⟨rfl,rfl⟩<|u _ _)
      | (simp only[sB_,h,rA,sP_];done)
      | (rename_i he;cases he)
      | (rename_i he _;cases he)
      | (rename_i he _ _;cases he)
      | (simp_all;done)
  · unfold binOp
    split<;>first
      | (exact absurd ⟨rfl,rfl⟩<|hn _ _ _ _)
      | (exact absurd ⟨rfl,rfl⟩<|hf _ _ _ _)
      | (exact absurd ⟨rfl,rfl⟩<|d _ _ _ _ _ _)
      | (exact absurd ⟨rfl,rfl⟩<|u _ _)
      | (simp only[sB_,h,rA,sP_];done)
      | (rename_i he;cases he)
      | (rename_i he _;cases he)
      | (rename_i he _ _;cases he)
      | (simp_all;done)
end
variable {op:BinOp}
section
variable {P:q6} {D:dD} {w:x_}
theorem OR {t:y_} {k k':w0} {a b:Int} {v:U} (h:uC P op t (.int k a) (.int k' b)=some v):
  ∃x,(binOp op t (.int k a) (.int k' b)).run P w= .ok x w/\VR D v x:=by
 unfold uC at h;have vint:∀(j:w0) (n:Int),VR D (.int j n) (.int j n):=fun j n=>by simp only[VR]
 have vbool:∀(c:Bool),VR D (.bool c) (.bool c):=fun c=>by simp only[VR]
 by_cases u:op= .shl
 ·subst u;simp only[bZ,eU,I3] at h;split at h
  ·cases h
  rename_i hb;cases h;refine⟨.int k<|k.wrap (a*2 ^ min b.toNat k.bits),?_,vint _ _⟩;have d:¬b<0:=by simpa using hb
  simp[binOp,Op.shift,d]
 by_cases z:op= .shr
 ·subst z;simp only[bZ,eU] at h;split at h
  ·cases h
  rename_i hb;cases h;refine⟨.int k<|a.fdiv (2 ^ min b.toNat k.bits),?_,vint _ _⟩;have d:¬b<0:=by simpa using hb
  simp[binOp,Op.shift,d]
 cases hk:uH k k' with
 | false=>simp_all
 | true=>
  have:=qS hk;subst this;cases op<;>first | exact absurd rfl u | exact absurd rfl z | skip
  all_goals simp only[hk,cond_true,bZ,eB,eU,I3,if_true] at h
  case add=>cases h;exact⟨.int k<|k.wrap (a+b),by simp[binOp,Op.intArith],vint _ _⟩
  case sub=>cases h;exact⟨.int k<|k.wrap (a-b),by simp[binOp,Op.intArith],vint _ _⟩
  case mul=>cases h;exact⟨.int k<|k.wrap (a*b),by simp[binOp,Op.intArith],vint _ _⟩
  case quo=>
   by_cases hb:b=0
   ·simp[hb] at h
   simp only[hb,decide_false,if_true,if_false,zi_,eq_self,oJ_] at h;subst h;exact⟨.int k<|k.wrap<|a.tdiv b,by simp[binOp,Op.intDiv,hb],vint _ _⟩
  case rem=>
   by_cases hb:b=0
   ·simp[hb] at h
   simp only[hb,decide_false,if_true,if_false,zi_,eq_self,oJ_] at h;subst h;exact⟨.int k<|a.tmod b,by simp[binOp,Op.intDiv,hb],vint _ _⟩
  case and=>cases h;exact⟨_,by simp only[binOp,ne_eq,not_true_eq_false,if_false];rfl,vint _ _⟩
  case or=>cases h;exact⟨_,by simp only[binOp,ne_eq,not_true_eq_false,if_false];rfl,vint _ _⟩
  case xor=>cases h;exact⟨_,by simp only[binOp,ne_eq,not_true_eq_false,if_false];rfl,vint _ _⟩
  case andNot=>cases h;exact⟨_,by simp only[binOp,ne_eq,not_true_eq_false,if_false];rfl,vint _ _⟩
  case eql=>cases h;exact⟨.bool (a == b),by simp[binOp,Op.intCmp],by grind⟩
  case neq=>
   cases h;refine⟨.bool (a !=b),by simp[binOp,Op.intCmp],?_⟩
   grind
  case lss=>cases h;exact⟨.bool<|decide (a<b),by simp[binOp,Op.intCmp],vbool _⟩
  case leq=>
   cases h;refine⟨.bool<|decide (a<=b),by simp[binOp,Op.intCmp],?_⟩
   grind
  case gtr=>cases h;exact⟨.bool<|decide (b<a),by simp[binOp,Op.intCmp],vbool _⟩
  case geq=>
   cases h;refine⟨.bool<|decide (b<=a),by simp[binOp,Op.intCmp],?_⟩
   grind
theorem OS {t:y_} {a b:List Nat} {x y:ByteArray} {v:U} (hx:iQ a x) (A:iQ b y) (h:uC P op t (.str a) (.str b)=some v):
  ∃z,(binOp op t (.string x) (.string y)).run P w= .ok z w/\VR D v z:=by
 unfold uC at h;have lx:=ki hx;have ly:=ki A;have e1:=pF hx A;have e2:=BQ hx A;have e3:=BQ A hx
 have e4:∀s u:List UInt8,Op.bytesLess u s= !(Op.bytesLess s u || s == u):=by
  intro s;induction s with
  | nil=>intro u;cases u<;>simp[Op.bytesLess]
  | cons c s ih=>
   intro u;cases u with
   | nil=>simp[Op.bytesLess]
   | cons d u=>
    grind [Op.bytesLess]
 cases op<;>simp only[bZ] at h<;>(try (cases h;done))
 case add=>
  split at h
  ·rename_i hb;cases h;rw[nE_,lx,ly] at hb
   refine⟨.string (x++y),?_,by
    simp only[VR];refine⟨_,Z,?_⟩;unfold iQ at hx A⊢;rw[eD,<-hx,<-A];simp⟩
   have:¬(((x.size+y.size:Nat):Int)>IntKind.i64.max):=by
    have e:IntKind.i64.max=9223372036854775807:=by decide
    rw[e];omega
   simp only[binOp,Op.stringOp];rw[if_neg this];rfl
  cases h
 case eql=>cases h;exact⟨.bool (x.toList == y.toList),Z,by simp only[VR];rw[e1]⟩
 case neq=>cases h;exact⟨.bool (!(x.toList == y.toList)),Z,by grind [VR]⟩
 case lss=>cases h;exact⟨.bool<|Op.bytesLess x.toList y.toList,Z,by simp only[VR];rw[e2]⟩
 case leq=>
  cases h;refine⟨.bool (Op.bytesLess x.toList y.toList || x.toList == y.toList),Z,?_⟩
  grind [VR]
 case gtr=>
  cases h;refine⟨.bool (!(Op.bytesLess x.toList y.toList || x.toList == y.toList)),Z,?_⟩;simp only[VR];grind
 case geq=>
  cases h;refine⟨.bool (!(Op.bytesLess x.toList y.toList)),Z,?_⟩
  grind [VR]
theorem Jd {t:y_} {x y v:U} {a c:j_} (hx:VR D x a) (d:VR D y c) (h:uC P op t x y=some v) (xo yo:q_):
  ∃z,(eqGuard op t xo yo a c).run P w= .ok () w/\(binOp op t a c).run P w= .ok z w/\VR D v z:=by
 have other:(∀k n,x≠ .int k n)->(∀s,x≠ .str s)->(∀b,x≠ .bool b)->x≠ .any->(∀a,x≠ .pN a)->(∀a,x≠ .tok a)->
   ∃z,(eqGuard op t xo yo a c).run P w= .ok () w/\(binOp op t a c).run P w= .ok z w/\VR D v z:=by
  intro h1 u h3 h4 h5 K
  have h':nR P op t x y=some v:=by
   rw[<-h];unfold uC;split
   ·exact absurd Z<|h1 _ _
   ·exact absurd Z<|u _
   ·exact absurd Z<|h3 _
   rfl
  have A:(∀k m k' m',¬(a= .int k m/\c= .int k' m'))/\(∀k m k' m',¬(a= .float k m/\c= .float k' m'))/\(∀k m n k' m' n',¬(a= .complex k m n/\c= .complex k' m' n'))/\(∀s s',¬(a= .string s/\c= .string s')):=by
   cases x with
   | int k n=>exact absurd Z (h1 k n)
   | str s=>exact absurd Z (u s)
   | bool b=>exact absurd Z (h3 b)
   | any=>exact absurd Z h4
   | pN a=>exact absurd Z (h5 a)
   | tok a=>exact absurd Z (K a)
   | slice b off len cap=>obtain⟨_,_,rfl⟩:=VR.lD hx;simp
   | _=>simp only[VR] at hx;first | (subst hx;simp;done) | (obtain⟨_,_,rfl⟩:=hx;simp;done) | (obtain⟨_,rfl,_⟩:=hx;simp;done) | (obtain⟨_,_,rfl,_⟩:=hx;simp;done)
  obtain⟨n1,C,E,G⟩:=A;cases op<;>(try (cases h';done))
  case eql=>
   dsimp only[nR] at h';cases hq:Gu P t x y with
   | none=>rw[hq] at h';cases h'
   | some b=>
    rw[hq] at h';cases h';obtain⟨g1,B⟩:=qU (P:=P) (w:=w) hq hx d .eql xo yo;exact⟨_,g1,(oK B n1 C E G).1,by simp only[VR]⟩
  case neq=>
   dsimp only[nR] at h';cases hq:Gu P t x y with
   | none=>rw[hq] at h';cases h'
   | some b=>
    rw[hq] at h';cases h';obtain⟨g1,B⟩:=qU (P:=P) (w:=w) hq hx d .neq xo yo;exact⟨_,g1,(oK B n1 C E G).2,by simp only[VR];rw[cond_not]⟩
 cases x with
 | int k n=>
  cases y with
  | int k' n'=>
   simp only[VR] at hx d;subst hx;subst d;obtain⟨z,h1,u⟩:=OR (D:=D) (w:=w) h;exact⟨z,dj op t xo yo _ _ (by simp) (by simp),h1,u⟩
  | _=>unfold uC at h;cases op<;>first | (simp[nR,Gu] at h;done) | (cases h;done)
 | str s=>
  cases y with
  | str s'=>
   simp only[VR] at hx d;obtain⟨x,rfl,hx⟩:=hx;obtain⟨y,rfl,d⟩:=d;obtain⟨z,h1,u⟩:=OS (D:=D) (w:=w) hx d h;exact⟨z,dj op t xo yo _ _ (by simp) (by simp),h1,u⟩
  | _=>unfold uC at h;cases op<;>first | (simp[nR,Gu] at h;done) | (cases h;done)
 | bool b=>
  cases y with
  | bool b'=>
   simp only[VR] at hx d;subst hx;subst d;unfold uC at h;refine(fun(hh:∃z,(binOp op t (.bool b) (.bool b')).run P w= .ok z w/\VR D v z)=>let ⟨z,h1,u⟩:=hh;⟨z,dj op t xo yo _ _ (by simp) (by simp),h1,u⟩) ?_;dsimp only at h;split at h
   ·rename_i hu;cases h;exact⟨_,run_eql_bool w t b b' hu,by simp only[VR];rw[qO]⟩
   ·rename_i hu;cases h;refine⟨_,run_neq_bool w t b b' hu,?_⟩;simp only[VR];rw[Lt];cases b<;>cases b'<;>rfl
   cases h
  | _=>unfold uC at h;cases op<;>first | (simp[nR,Gu] at h;done) | (cases h;done)
 | any=>unfold uC at h;cases op<;>first | (simp[nR,Gu] at h;done) | (cases h;done)
 | pN a=>unfold uC at h;cases op<;>first | (simp[nR,Gu] at h;done) | (cases h;done)
 | tok a=>unfold uC at h;cases op<;>first | (simp[nR,Gu] at h;done) | (cases h;done)
 | _=>exact other (by simp) (by simp) (by simp) (by simp) (by simp) (by simp)
theorem Ga {t:y_} {x y v:U} {a c:j_} (hx:VR D x a) (d:VR D y c) (h:Le P op t x y=some v) (xo yo:q_):
  ∃z,(eqGuard op t xo yo a c).run P w= .ok () w/\(binOp op t a c).run P w= .ok z w/\VR D v z:=by
 unfold Le at h;split at h
 ·split at h
  ·rename_i u1 u2 n;simp only[bZ] at h;split at h
   ·rename_i m hle;cases h;rw[nE_] at hle;simp only[VR] at hx d;obtain⟨k,rfl,hk⟩:=d;subst hx;have u:¬((k:Int)<Int.ofNat n):=by grind
    exact⟨.bool<|decide ((k:Int)<Int.ofNat n),dj .gtr t xo yo _ _ (by simp) (by simp),by simp[binOp,Op.intCmp],by simp only[VR,u,decide_false]⟩
   cases h
  cases h
 exact Jd hx d h xo yo
theorem Gb {t:y_} {x y v:U} {a c:j_} (hx:VR D x a) (u:VR D y c) (xo yo:q_) (h:qx P (Bj xo || Bj yo) op t x y=some v):
  ∃z,(eqGuard op t xo yo a c).run P w= .ok () w/\(binOp op t a c).run P w= .ok z w/\VR D v z:=by
 by_cases hn:x= .nilIface/\y= .nilIface
 ·obtain⟨rfl,rfl⟩:=hn;simp only[VR] at hx u;subst hx;subst u;have h:MD P op t (Bj xo || Bj yo)=some v:=h;unfold MD at h;rw[bZ] at h;split at h
  ·rename_i hk
   have hg:(eqGuard op t xo yo .nilIface .nilIface).run P w= .ok () w:=by
    unfold eqGuard;cases xo<;>cases yo<;>first | exact absurd hk Bool.false_ne_true | (cases op<;>simp)
   split at h
   ·rename_i ms hu
    have heq:(Op.equal t .nilIface .nilIface).run P w= .ok true w:=by
     have:∀d,(Op.equalIn (d+1) t .nilIface .nilIface).run P w= .ok true w:=fun d=>by simp[Op.equalIn,run_underlying hu]
     exact this 9999
    have hb:=oK heq (fun k m k' m' h=>by cases h.1) (fun k m k' m' h=>by cases h.1) (fun k m n k' m' n' h=>by cases h.1) (fun s s' h=>by cases h.1)
    grind [VR]
   cases h
  cases h
 have h':Le P op t x y=some v:=by
  cases x<;>first | exact h | (cases y<;>first | exact h | simp_all)
 exact Ga hx u h' xo yo
end
variable {cap:Nat} {x:q_}
section
variable {P:q6} {D:dD} {w:x_}
theorem jQ {ev:q_->Option U} {f:q_->j_} {y i:Nat} (h:fo ev x y=some i) (hx:∀v,ev x=some v->VR D v (f x)) (code:BoundsCode):
  (Instr.sliceBound (f x) y code).run P w= .ok i w/\i<=y:=by
 unfold fo at h;split at h
 ·rename_i k j hv;simp only[bZ] at h;split at h
  ·rename_i hb;cases h;rw[nE_] at hb;have hf:=hx _ hv;simp only[VR] at hf;rw[hf];refine⟨?_,hb⟩;have h2:(0:Int)<=Int.ofNat i/\Int.ofNat i<=(y:Int):=⟨Int.natCast_nonneg _,Int.ofNat_le.2 hb⟩;simp only[Instr.sliceBound,asIntOf,sB_,sP_,rA]
   simp_all
  cases h
 cases h
theorem iU {ev:q_->Option U} {f:q_->j_} {len l h:Nat} {lo hi:Option q_} (hb:dw ev len cap lo hi=some (l,h))
  (d:∀x,lo=some x->∀v,ev x=some v->VR D v (f x)) (z:∀x,hi=some x->∀v,ev x=some v->VR D v (f x)) (isSlice:Bool):
  (Instr.sliceBounds isSlice len cap (lo.map f) (hi.map f) none).run P w= .ok (l,h,cap) w/\l<=h/\(len<=cap->h<=cap):=by
 unfold dw at hb;cases hi with
 | none=>
  dsimp only at hb;cases lo with
  | none=>
   dsimp only at hb;cases hb;refine⟨?_,zero_le _,id⟩;simp[Instr.sliceBounds]
  | some x=>
   dsimp only at hb;cases hx:fo ev x len with
   | none=>simp_all
   | some l'=>
    rw[hx] at hb;cases hb;obtain⟨r,hle⟩:=jQ (P:=P) (w:=w) hx (d x Z) .sliceB;refine⟨?_,hle,id⟩;simp[Instr.sliceBounds,r]
 | some y=>
  dsimp only at hb;cases A:fo ev y cap with
  | none=>simp_all
  | some h'=>
   rw[A] at hb;dsimp only at hb;obtain⟨r,hle⟩:=jQ (P:=P) (w:=w) A (z y Z) (if isSlice then .sliceAcap else .sliceAlen);cases lo with
   | none=>
    dsimp only at hb;cases hb;refine⟨?_,zero_le _,fun _=>hle⟩;simp[Instr.sliceBounds,r]
   | some x=>
    dsimp only at hb;cases hx:fo ev x h' with
    | none=>simp_all
    | some l'=>
     rw[hx] at hb;cases hb;obtain⟨B,u⟩:=jQ (P:=P) (w:=w) hx (d x Z) .sliceB;refine⟨?_,u,fun _=>hle⟩;simp[Instr.sliceBounds,r,B]
theorem oy {ev:q_->Option U} {f:q_->j_} {len l h m:Nat} {lo:Option q_} {hi mx:q_} (hm:fo ev mx cap=some m) (hb:dw ev m m lo (some hi)=some (l,h))
  (z:∀x,lo=some x->∀v,ev x=some v->VR D v (f x)) (A:∀v,ev hi=some v->VR D v (f hi)) (B:∀v,ev mx=some v->VR D v (f mx)) (isSlice:Bool):
  (Instr.sliceBounds isSlice len cap (lo.map f) (some<|f hi)<|some<|f mx).run P w= .ok (l,h,m) w/\l<=h/\h<=m/\m<=cap:=by
 obtain⟨C,d⟩:=jQ (P:=P) (w:=w) hm B (if isSlice then .slice3Acap else .slice3Alen);unfold dw at hb;dsimp only at hb;cases E:fo ev hi m with
 | none=>simp_all
 | some h'=>
  rw[E] at hb;dsimp only at hb;obtain⟨r,hle⟩:=jQ (P:=P) (w:=w) E A .slice3B;cases lo with
  | none=>
   dsimp only at hb;cases hb;refine⟨?_,zero_le _,hle,d⟩;simp[Instr.sliceBounds,r,C]
  | some x=>
   dsimp only at hb;cases hx:fo ev x h' with
   | none=>simp_all
   | some l'=>
    rw[hx] at hb;cases hb;obtain⟨G,u⟩:=jQ (P:=P) (w:=w) hx (z x Z) .slice3C;refine⟨?_,u,hle,d⟩;simp[Instr.sliceBounds,r,G,C]
theorem AR {e:y_} {b:Pos} {off lo hi m:Nat} {v:U} {l:Loc} (hl:D b=some l) (h:cut P e b off lo hi m=some v):
  ∃j,P.info? e=some j/\VR D v (.slice (some (if m=lo then(⟨l.eK,l.sh+off,none⟩:Addr) else(⟨l.eK,l.sh+off,none⟩:Addr).add (lo*j.size))) (hi-lo) (m-lo)):=by
 unfold cut at h;cases hj:P.info? e with
 | none=>rw[hj] at h;cases h
 | some j=>
  rw[hj] at h;cases h;refine⟨j,Z,?_⟩;simp only[VR];refine⟨l,hl,?_⟩;rw[Addr.add_eq _ _ Z]
  by_cases hm:m=lo
  ·simp_all
  have:Nat.beq m lo=false:=by
   grind [beq_eq]
  grind
section
variable {ev:q_->Option U} {f:q_->j_} {t:y_} {lo hi mx:Option q_} {v:U}
theorem nQ {e:y_} {b:Pos} {off len:Nat} {l:Loc} (hl:D b=some l) (h:cutAt P ev e b off len cap lo hi mx=some v) (isSlice:Bool)
  (d:∀x,lo=some x->∀v,ev x=some v->VR D v (f x)) (u:∀x,hi=some x->∀v,ev x=some v->VR D v (f x)) (z:∀x,mx=some x->∀v,ev x=some v->VR D v (f x)):
  ∃j l' h' m,(Instr.sliceBounds isSlice len cap (lo.map f) (hi.map f)<|mx.map f).run P w= .ok (l',h',m) w/\P.info? e=some j/\
   VR D v (.slice (some (if m=l' then(⟨l.eK,l.sh+off,none⟩:Addr) else(⟨l.eK,l.sh+off,none⟩:Addr).add (l'*j.size))) (h'-l') (m-l')):=by
 unfold cutAt at h;cases mx with
 | none=>
  dsimp only at h;cases hb:dw ev len cap lo hi with
  | none=>rw[hb] at h;cases h
  | some p=>
   obtain⟨l',h'⟩:=p;rw[hb] at h;obtain⟨r,_,_⟩:=iU (P:=P) (w:=w) hb d u isSlice;obtain⟨j,hj,hv⟩:=AR hl h
   grind
 | some x=>
  dsimp only at h;cases hm:fo ev x cap with
  | none=>simp_all
  | some m=>
   cases hi with
   | none=>rw[hm] at h;cases h
   | some y=>
    rw[hm] at h;dsimp only at h;cases hb:dw ev m m lo (some y) with
    | none=>rw[hb] at h;cases h
    | some p=>
     obtain⟨l',h'⟩:=p;rw[hb] at h;obtain⟨r,_⟩:=oy (P:=P) (w:=w) (len:=len) hm hb d (u y Z) (z x Z) isSlice;obtain⟨j,hj,hv⟩:=AR hl h
     grind
theorem kM {e:y_} {j:TypeInfo} {a:Addr} {len l h m:Nat} (hu:P.underlying t=some (.slice e)) (hj:P.info? e=some j) {lo hi mx:Option j_}
  (hb:(Instr.sliceBounds true len cap lo hi mx).run P w= .ok (l,h,m) w):
  (Instr.sliceAt t (.slice (some a) len cap) lo hi mx).run P w= .ok (.slice (some (if m=l then a else a.add (l*j.size))) (h-l) (m-l)) w:=by
 simp only[Instr.sliceAt,Instr.slice,sB_,run_underlying hu,rA,hb,cR hj,sP_];split<;>rfl
theorem Cm {len a c l' h':Nat} (aa:a<=c) (hb:dw ev len a lo hi=some (l',h')):dw ev len c lo hi=some (l',h'):=by
 have up:∀y i,fo ev y a=some i->fo ev y c=some i:=by
  intro y i d;unfold fo at d⊢;split at d
  ·rename_i k i' ab;simp only[bZ] at d⊢;split at d
   ·rename_i hle;cases d;rw[nE_] at hle;rw[if_pos (by rw[nE_];omega)]
   cases d
  cases d
 unfold dw at hb⊢
 grind
theorem Fy (h:ia P ev t x lo hi mx=some v)
  (hx:∀v,ev x=some v->VR D v (f x)) (A:∀x,lo=some x->∀v,ev x=some v->VR D v (f x)) (B:∀x,hi=some x->∀v,ev x=some v->VR D v (f x)) (C:∀x,mx=some x->∀v,ev x=some v->VR D v (f x)):
  ∃z,(Instr.sliceAt t (f x) (lo.map f) (hi.map f)<|mx.map f).run P w= .ok z w/\VR D v z:=by
 unfold ia at h;split at h
 ·rename_i e b off len cap hu d;have hv:=hx _ d;simp only[VR] at hv;obtain⟨l,hl,hf⟩:=hv;obtain⟨j,l',h',m,r,hj,hr⟩:=nQ (w:=w) hl h true A B C;rw[hf];exact⟨_,kM hu hj r,hr⟩
 ·rename_i e b off len sz hu d;have hv:=hx _ d;cases mx with
  | none=>
   dsimp only at h;cases hb:dw ev len len lo hi with
   | none=>rw[hb] at h;cases h
   | some p=>
    obtain⟨l',h'⟩:=p;cases hj:P.info? e with
    | none=>simp_all
    | some j=>
     rw[hb,hj] at h;simp only[bZ] at h;split at h
     ·rename_i G;rw[beq_eq] at G;cases h;obtain⟨r,hle,hle2⟩:=iU (P:=P) (w:=w) hb A B true;have hle2:=hle2 (nR_ _)
      have wider:∀c,len<=c->(Instr.sliceBounds true len c (lo.map f) (hi.map f) none).run P w= .ok (l',h',c) w:=by
       intro c L
       have Q:dw ev len c lo hi=some (l',h'):=by
        have up:∀y i,fo ev y len=some i->fo ev y c=some i:=by
         intro y i K;unfold fo at K⊢;split at K
         ·rename_i k i' aa;simp only[bZ] at K⊢;split at K
          ·rename_i hle;cases K;rw[nE_] at hle;rw[if_pos (by rw[nE_];omega)]
          cases K
         cases K
        unfold dw at hb⊢
        grind
       exact(iU (P:=P) (w:=w) Q A B true).1
      simp only[VR] at hv;obtain⟨l,hl,⟨c,hf,L,u⟩ | ⟨E,a,hf⟩⟩:=hv
      ·rw[hf];refine⟨_,kM hu hj<|wider c L,?_⟩;simp only[VR];refine⟨l,hl,?_⟩
       by_cases R:c=l'
       ·grind
       left;refine⟨c-l',?_,by omega,?_⟩
       ·rw[if_neg R,Addr.add_eq _ _ Z,G,add_assoc]
       rw[<-u];have:c=l'+(c-l'):=by omega
       grind
      rw[hf];subst E;refine⟨_,kM hu hj<|wider 0<|nR_ _,?_⟩
      simp_all
     cases h
  | some m=>
   simp only[bZ] at h;split at h
   ·cases h
   rename_i ab;simp only[VR] at hv;obtain⟨l,hl,⟨c,hf,L,u⟩ | ⟨E,a,hf⟩⟩:=hv
   ·
    obtain⟨j,l',h',m',r,hj,hr⟩:=nQ (w:=w) hl h true A B C
    have r':(Instr.sliceBounds true len c (lo.map f) (hi.map f)<|some<|f m).run P w= .ok (l',h',m') w:=by
     unfold cutAt at h;dsimp only at h;cases hm:fo ev m len with
     | none=>simp_all
     | some m0=>
      cases hi with
      | none=>rw[hm] at h;cases h
      | some y=>
       rw[hm] at h;dsimp only at h;cases hb:dw ev m0 m0 lo (some y) with
       | none=>rw[hb] at h;cases h
       | some p=>
        obtain⟨l0,h0⟩:=p
        have S:fo ev m c=some m0:=by
         unfold fo at hm⊢;split at hm
         ·simp only[bZ] at hm⊢;split at hm
          ·rename_i hle;cases hm;rw[nE_] at hle;rw[if_pos (by rw[nE_];omega)]
          cases hm
         cases hm
        obtain⟨r1,_⟩:=oy (P:=P) (w:=w) (len:=len) hm hb A (B y Z) (C m Z) true;obtain⟨r2,_⟩:=oy (P:=P) (w:=w) (len:=len) S hb A (B y Z) (C m Z) true
        simp_all
    rw[hf];exact⟨_,kM hu hj r',hr⟩
   simp_all
 ·rename_i e b off len a sz hu d;have hv:=hx _ d;simp only[VR] at hv;obtain⟨l,hl,c,hf,T,u⟩:=hv;cases mx with
  | some _=>cases h
  | none=>
   dsimp only at h;cases hb:dw ev len a lo hi with
   | none=>rw[hb] at h;cases h
   | some p=>
    obtain⟨l',h'⟩:=p;cases hj:P.info? e with
    | none=>simp_all
    | some j=>
     rw[hb,hj] at h;simp only[bZ] at h;split at h
     ·rename_i L;cases h;simp only[bA_,beq_eq,nE_] at L;obtain⟨G,ac,am⟩:=L;obtain⟨r,hle,hle2⟩:=iU (P:=P) (w:=w) (Cm T hb) A B true;rw[hf];refine⟨_,kM hu hj r,?_⟩;simp only[VR];refine⟨l,hl,c-l',?_,by omega,?_⟩
      ·rw[if_neg oM,Addr.add_eq _ _ Z,G,add_assoc]
      rw[<-u];have:c=l'+(c-l'):=by omega
      grind
     cases h
 ·rename_i e hu d;have hv:=hx _ d;simp only[VR] at hv;cases mx with
  | some _=>cases h
  | none=>
   dsimp only at h;cases hb:dw ev 0 0 lo hi with
   | none=>rw[hb] at h;cases h
   | some p=>
    obtain⟨l',h'⟩:=p;cases M:P.info? e with
    | none=>simp_all
    | some je=>
    rw[hb,M] at h;cases h;obtain⟨r,hle,hle2⟩:=iU (P:=P) (w:=w) hb A B true;have hle2:=hle2 (nR_ _);have:l'=0:=by omega
    have:h'=0:=by omega
    subst_vars
    rw[hv];refine⟨.slice none 0 0,?_,by simp only[VR]⟩;simp[Instr.sliceAt,Instr.slice,run_underlying hu,r,cR M]
 ·rename_i n e b off hu d;have hv:=hx _ d;simp only[VR] at hv;obtain⟨l,hl,hf⟩:=hv;obtain⟨j,l',h',m,r,hj,hr⟩:=nQ (w:=w) hl h false A B C;rw[hf];refine⟨_,?_,hr⟩;simp only[Instr.sliceAt,sB_,run_underlying hu,rA,Instr.sureAddr,sP_,r,cR hj]
 ·rename_i arr b off hu d;have hv:=hx _ d;simp only[VR] at hv;obtain⟨l,hl,hf⟩:=hv;split at h
  ·rename_i n e W;obtain⟨j,l',h',m,r,hj,hr⟩:=nQ (w:=w) hl h false A B C;rw[hf];refine⟨_,?_,hr⟩;simp only[Instr.sliceAt,Instr.slice,sB_,run_underlying hu,run_underlying W,asAddr,rA,sP_,r,cR hj]
  cases h
 ·rename_i s hu d;have hv:=hx _ d;simp only[VR] at hv;obtain⟨bs,hf,X⟩:=hv;cases mx with
  | some _=>cases h
  | none=>
   dsimp only at h;cases hb:dw ev (dK s) (dK s) lo hi with
   | none=>rw[hb] at h;cases h
   | some p=>
    obtain⟨l',h'⟩:=p;rw[hb] at h;cases h;rw[ki X] at hb;obtain⟨r,hle,hle2⟩:=iU (P:=P) (w:=w) hb A B false;rw[hf];refine⟨.string<|bs.extract l' h',?_,?_⟩
    ·simp[Instr.sliceAt,Instr.slice,run_underlying hu,r]
    simp only[VR];refine⟨_,Z,?_⟩
    grind [iQ,ed,eR,Lib.extract_data,List.map_take,List.map_drop]
 cases h
end
end
variable {ts:Array y_}
section
variable {P:q6} {D:dD} {w:x_}
theorem zD {t:y_} {off:Nat} {v:U} (h:Iv P t cs off=some v) (B:dN D cs ys.toList):∃y,(part t ys off).run P w= .ok y w/\VR D v y:=by
 unfold Iv at h;split at h
 ·rename_i n u;cases h;obtain⟨d,i,hu,hi,z,A⟩:=tw u;refine⟨.agg<|ys.extract off (off+n),?_,?_⟩
  ·simp only[part,sB_,fI hu,A,rA,if_true,cR hi,z,sP_]
  simp only[VR];refine⟨_,Z,?_⟩;rw[ed,eR,Array.toList_extract];have:=(B.drop off).take n
  simp_all
 ·rename_i u;obtain⟨d,i,hu,hi,A⟩:=x8 u;rw[fN] at h;obtain⟨y,h1,C⟩:=B.get h;refine⟨y,?_,C⟩;have:ys[off]? =some y:=by simp_all
  simp only[part,sB_,fI hu,A,rA,zi_,if_false,this,sP_]
 cases h
theorem jU {ev:q_->Option U} {f:q_->j_}:∀{l:List q_} {vs:List U},dv ev l=some vs->(∀x∈l,∀v,ev x=some v->VR D v (f x))->dN D vs (l.map f)
 | [],vs,h,_=>by rw[lT] at h;cases h;exact dN.nil
 | x::l,vs,h,d=>by
  obtain⟨y,r,h1,u,rfl⟩:=kz h;exact dN.cons (d x (by simp) y h1)<|jU u fun z A=>d z (by simp[A])
theorem JQ {t ty:y_} {x:U} {y:j_} {n:Nat} (h:zg P t x=some n) (hx:VR D x y) (d:ts[0]? =some t):(Builtin.len_ ts ty #[y]).run P w= .ok (.int .i64<|Int.ofNat n) w:=by
 unfold zg at h;split at h
 ·rename_i s hu;cases h;simp only[VR] at hx;obtain⟨bs,rfl,u⟩:=hx;rw[ki u];simp[Builtin.len_,d,run_underlying hu,goInt]
 ·rename_i m e hu;cases h;simp[Builtin.len_,d,run_underlying hu,goInt]
 ·rename_i e b off m cap hu;cases h;obtain⟨a,c,rfl⟩:=VR.lD hx;simp[Builtin.len_,d,run_underlying hu,goInt]
 ·rename_i e hu;cases h;simp only[VR] at hx;subst hx;simp[Builtin.len_,d,run_underlying hu,goInt]
 ·rename_i k e hu;cases h;simp only[VR] at hx;subst hx;simp[Builtin.len_,d,run_underlying hu,goInt]
 cases h
theorem zq {x:U} {y:j_} (hx:VR D x y) (h:x≠ .nilPtr/\x≠ .nilIface/\x≠ .nilFunc/\(∀l,x≠ .yield l)/\x≠ .any/\(∀n,x≠ .tok n)) (f:q_->j_) (o:z_) (z:q_) (d:o.op= .nilCheck z) (hf:f z=y):
  (execOp f o).run P w= .ok (.value y) w:=by
 have key:(y≠ .pointer none)/\y≠ .nilIface/\y≠ .nilFunc/\∀n a b,y≠ .func (.method n) a b:=by
  obtain⟨h1,u,h3,h4,h5,A⟩:=h;cases x with
  | tok n=>exact absurd Z (A n)
  | any=>exact absurd Z h5
  | nilPtr=>exact absurd Z h1
  | nilIface=>exact absurd Z u
  | nilFunc=>exact absurd Z h3
  | yield l=>exact absurd Z (h4 l)
  | slice b off len cap=>obtain⟨_,_,rfl⟩:=VR.lD hx;simp
  | _=>simp only[VR] at hx;first | (subst hx;simp;done) | (obtain⟨_,_,rfl⟩:=hx;simp;done) | (obtain⟨_,rfl,_⟩:=hx;simp;done) | (obtain⟨_,_,rfl,_⟩:=hx;simp;done)
 obtain⟨B,k2,C,E⟩:=key;simp only[execOp,d,hf,B,k2,C,E];rfl
theorem zJ {ev:q_->Option U} {f:q_->j_} {o:z_} {v:U} (B:ER D ev f o.op) (h:dO P ev o.op=some v):
  ∃x,(execOp f o).run P w= .ok (.value x) w/\VR D v x:=by
 cases E:o.op with
 | move x=>
  rw[E] at h B;exact⟨f x,by simp[execOp,E],B x (by simp[Op.operands]) v h⟩
 | assign x=>
  rw[E] at h B;exact⟨f x,by simp[execOp,E],B x (by simp[Op.operands]) v h⟩
 | pick c a b=>
  rw[E] at h B;simp only[dO] at h;split at h
  ·rename_i L;have:=B c (by simp[Op.operands]) _ L;simp only[VR] at this;exact⟨f a,by simp[execOp,E,this,asBool],B a (by simp[Op.operands]) v h⟩
  ·rename_i L;have:=B c (by simp[Op.operands]) _ L;simp only[VR] at this;exact⟨f b,by simp[execOp,E,this,asBool],B b (by simp[Op.operands]) v h⟩
  cases h
 | build t parts=>
  rw[E] at h B;obtain⟨x,h1,S⟩:=DP (D:=D) (w:=w) (f:=f) (fun p hp u hu=>B p.2 (by simp only[Op.operands,List.mem_toArray,zn_];grind) u hu) h
  grind [execOp,sB_,rA,sP_]
 | nilCheck x=>
  rw[E] at h B;simp only[dO] at h;split at h
  ·cases h
  ·cases h
  ·cases h
  ·cases h
  ·cases h
  ·cases h
  rename_i n1 n2 n3 n4 n5 n6;have hv:=B x (by simp[Op.operands]) v h;exact⟨f x,zq hv ⟨fun e=>n1 (by rw[h,e]),fun e=>n2 (by rw[h,e]),fun e=>n3 (by rw[h,e]),(fun l e=>n4 l (by rw[h,e])),(fun e=>n5 (by rw[h,e])),fun k e=>n6 k (by rw[h,e])⟩ f o x E Z,hv⟩
 | binOp op t x y ty=>
  rw[E] at h B;simp only[dO] at h;split at h
  ·rename_i a b ha hb;obtain⟨z,h1,S,h3⟩:=Gb (P:=P) (w:=w) (B x (by simp[Op.operands]) a ha) (B y (by simp[Op.operands]) b hb) x y h
   grind [execOp,sB_,rA,sP_]
  cases h
 | unOp op t x=>
  rw[E] at h B;simp only[dO] at h;split at h
  ·rename_i b hb;cases h;have:=B x (by simp[Op.operands]) _ hb;simp only[VR] at this;exact⟨.bool (!b),by simp[execOp,E,this,Op.unary],by simp only[VR];rw[cond_not]⟩
  ·rename_i k n hb;cases h;have:=B x (by simp[Op.operands]) _ hb;simp only[VR] at this;refine⟨.int k<|k.wrap (0-n),?_,by simp only[VR];rw[I3];rfl⟩
   grind [execOp,Op.unary,Op.intArith,sP_]
  ·rename_i k n hb;cases h;have:=B x (by simp[Op.operands]) _ hb;simp only[VR] at this;refine⟨.int k<|k.wrap (BitVec.ofInt k.bits (if k.signed then-1 else k.max) ^^^ BitVec.ofInt k.bits n).toNat,?_,by simp only[VR]⟩
   grind [execOp,Op.unary,Op.intBits,sP_]
  cases h
 | convert src dst x=>
  rw[E] at h B;simp only[dO] at h;split at h
  ·rename_i M Q T k1 k k2 n e1 K e3;cases h;have:=B x (by simp[Op.operands]) _ e3;simp only[VR] at this;refine⟨.int k<|k.wrap n,?_,by simp only[VR];rw[I3]⟩;simp[execOp,E,this,convert,run_underlying e1,run_underlying K,Conv.intToInt]
  ·rename_i M Q T s e1 K e3;cases h;have hv:=B x (by simp[Op.operands]) _ e3;have hv':=hv;simp only[VR] at hv';obtain⟨bs,hf,W⟩:=hv';refine⟨f x,?_,hv⟩;rw[hf];simp[execOp,E,hf,convert,run_underlying e1,run_underlying K]
  cases h
 | makeInterface t x=>
  rw[E] at h B;simp only[dO] at h;split at h
  ·cases h
  ·rename_i M Q d u hn e1 K;cases h;have hv:=B x (by simp[Op.operands]) _ K;refine⟨.iface t<|f x,?_,by simp only[VR];simp_all⟩;simp only[execOp,E,Instr.makeInterface,sB_,run_underlying e1,rA]
   simp_all
  cases h
 | makeFunc fn first captured=>
  rw[E] at h B;simp only[dO] at h;split at h
  ·rename_i M Q T g a b e1 K;cases h;have ha:=jU (f:=f) e1 (fun x hx u hu=>B x (by grind [Op.operands]) u hu);have hb:=jU (f:=f) K (fun x hx u hu=>B x (by grind [Op.operands]) u hu);refine⟨.func (.func g) (first.map f)<|captured.map f,?_,by simp only[VR];exact⟨_,_,Z,by simpa using ha,by simpa using hb⟩⟩;simp[execOp,E,Instr.makeFunc]
  cases h
 | slice t x lo hi mx=>
  rw[E] at h B;obtain⟨z,h1,S⟩:=Fy (P:=P) (w:=w) (f:=f) h (B x (by simp[Op.operands])) (fun y X=>B y (by subst X;simp[Op.operands])) (fun y X=>B y (by subst X;simp[Op.operands])) (fun y X=>B y (by subst X;simp[Op.operands]))
  grind [execOp,sB_,rA,sP_]
 | fieldAddr s x i=>
  rw[E] at h B;simp only[dO] at h;split at h
  ·rename_i fs b off W hx;have hv:=B x (by simp[Op.operands]) _ hx;simp only[VR] at hv;obtain⟨l,hl,hf⟩:=hv;split at h
   ·rename_i fd aa;split at h
    ·rename_i j hj;simp only[bZ] at h;split at h
     ·cases h
     rename_i ac;cases h;have hz:¬j.size=0:=fun e=>ac (by simp_all)
     refine⟨.pointer<|some ⟨l.eK,l.sh+(off+fd.offset),none⟩,?_,by simp only[VR];simp_all⟩;simp[execOp,E,Instr.fieldAt,run_underlying<|oN W,aa,hf,Instr.sureAddr,fieldPlace,cR hj,hz,Addr.add_eq,add_assoc]
    cases h
   cases h
  cases h
 | field t x i=>
  rw[E] at h B;simp only[dO] at h;split at h
  ·rename_i fs cs W hx;have hv:=B x (by simp[Op.operands]) _ hx;simp only[VR] at hv;obtain⟨ys,hf,L⟩:=hv;split at h
   ·rename_i fd aa;obtain⟨y,h1,S⟩:=zD (P:=P) (w:=w) h L;refine⟨y,?_,S⟩;simp[execOp,E,Instr.field,run_underlying<|oN W,aa,hf,asAgg,h1]
   cases h
  cases h
 | indexAddr t x i=>
  rw[E] at h B;simp only[dO] at h;split at h
  ·rename_i M Q T e b off len cap k n hu hx hi;have hv:=B x (by simp[Op.operands]) _ hx;have hn:=B i (by simp[Op.operands]) _ hi;simp only[VR] at hn;split at h
   ·rename_i j hj;simp only[bZ] at h;split at h
    ·rename_i G;cases h;rw[nE_] at G;have G:n<len:=G;have R:(0:Int)<=Int.ofNat n/\Int.ofNat n<(len:Int):=⟨Int.natCast_nonneg _,Int.ofNat_lt.2 G⟩
     have go:∀(a:Addr) (c:Nat),f x= .slice (some a) len c->(execOp f o).run P w= .ok (.value (.pointer<|some<|a.add (n*j.size))) w:=by
      intro a c hf;simp only[execOp,E,Instr.indexAt,hn,hf,asIntOf,sB_,sP_,run_underlying hu,rA];rw[if_pos R];simp[cR hj]
     cases cap with
     | known c=>
      simp only[VR] at hv;obtain⟨l,hl,hf⟩:=hv;refine⟨_,go _ _ hf,?_⟩;simp only[VR];exact⟨l,hl,by rw[Addr.add_eq _ _ Z,add_assoc]⟩
     | least a sz=>
      simp only[VR] at hv;obtain⟨l,hl,c,hf,_⟩:=hv;refine⟨_,go _ _ hf,?_⟩;simp only[VR];exact⟨l,hl,by rw[Addr.add_eq _ _ Z,add_assoc]⟩
     | upto sz=>
      simp only[VR] at hv;obtain⟨l,hl,⟨c,hf,_⟩ | ⟨h0,_⟩⟩:=hv
      ·refine⟨_,go _ _ hf,?_⟩;simp only[VR];exact⟨l,hl,by rw[Addr.add_eq _ _ Z,add_assoc]⟩
      omega
    cases h
   cases h
  ·rename_i M Q T m e b off k n hu hx hi;have hv:=B x (by simp[Op.operands]) _ hx;have hn:=B i (by simp[Op.operands]) _ hi;simp only[VR] at hn hv;obtain⟨l,hl,hf⟩:=hv;split at h
   ·rename_i j hj;simp only[bZ] at h;split at h
    ·rename_i G;cases h;rw[nE_] at G;have G:n<m:=G;have R:(0:Int)<=Int.ofNat n/\Int.ofNat n<(m:Int):=⟨Int.natCast_nonneg _,Int.ofNat_lt.2 G⟩;refine⟨.pointer<|some ⟨l.eK,l.sh+(off+n*j.size),none⟩,?_,by simp only[VR];simp_all⟩;simp only[execOp,E,Instr.indexAt,hn,hf,asIntOf,sB_,sP_,run_underlying hu,rA,Instr.sureAddr];rw[if_pos R];simp[cR hj,Addr.add_eq,add_assoc]
    cases h
   cases h
  cases h
 | index t x i=>
  rw[E] at h B;simp only[dO] at h;split at h
  ·rename_i M Q T m e cs k n hu hx hi;have hv:=B x (by simp[Op.operands]) _ hx;have hn:=B i (by simp[Op.operands]) _ hi;simp only[VR] at hn hv;obtain⟨ys,hf,L⟩:=hv;simp only[bZ] at h;split at h
   ·rename_i G;rw[nE_] at G;have G:n<m:=G;have R:(0:Int)<=Int.ofNat n/\Int.ofNat n<(m:Int):=⟨Int.natCast_nonneg _,Int.ofNat_lt.2 G⟩;split at h
    ·rename_i j hj;obtain⟨y,h1,S⟩:=zD (P:=P) (w:=w) h L;refine⟨y,?_,S⟩;simp only[execOp,E,Instr.index,hn,hf,asIntOf,sB_,sP_,run_underlying hu,rA];rw[if_pos R];simp[cR hj,h1]
    cases h
   cases h
  ·rename_i M Q T s k n hu hx hi;have hv:=B x (by simp[Op.operands]) _ hx;have hn:=B i (by simp[Op.operands]) _ hi;simp only[VR] at hn hv;obtain⟨bs,hf,W⟩:=hv;split at h
   ·rename_i c L;cases h;rw[fN] at L;unfold iQ at W;rw[<-W,gM_] at L;cases hb:bs.data.toList[n]? with
    | none=>simp_all
    | some bt=>
     rw[hb] at L;cases L;have am:bs[n]? =some bt:=by rw[<-hb,aT_];rfl
     refine⟨.int .u8 (bt.toNat:Int),?_,by simp only[VR];rfl⟩;have h0:(0:Int)<=Int.ofNat n:=Int.natCast_nonneg _;simp only[execOp,E,Instr.index,hn,hf,asIntOf,sB_,sP_,run_underlying hu,rA]
     simp_all
   cases h
  cases h
 | typeAssert x xt ty ok=>
  rw[E] at h B;simp only[dO] at h
  have zero:∀{v:U},((fH P ty).map fun z=>U.tuple [z,.bool false])=some v->∃z,(zeroValue ty).run P w= .ok z w/\VR D v (.tuple #[z,.bool false]):=fun {v} hz=>by
   cases hq:fH P ty with
   | none=>simp_all
   | some z=>
    rw[hq] at hz;cases hz;obtain⟨i,y,hi,X,hv⟩:=rS hq;refine⟨y,by simp[zeroValue,typeInfo,hi,X],?_⟩;simp only[VR];exact⟨_,Z,dN.cons (hv D)<|dN.cons (by simp only[VR]) dN.nil⟩
  split at h
  ·cases h
  ·rename_i M Q d u v' hn e1 K;have hv:=B x (by simp[Op.operands]) _ K;simp only[VR] at hv;obtain⟨y,hf,hv⟩:=hv;rw[bZ] at h;split at h
   ·rename_i hu;have:=nB hu;subst this;cases ok with
    | true=>
     simp only[cond_true] at h;cases h;refine⟨.tuple #[y,.bool true],?_,by simp only[VR];exact⟨_,Z,dN.cons hv<|dN.cons (by simp only[VR]) dN.nil⟩⟩;simp only[execOp,E,Instr.typeAssert,hf,sB_,run_underlying e1,rA]
     simp_all
    | false=>
     simp only[cond_false] at h;cases h;refine⟨y,?_,hv⟩;simp only[execOp,E,Instr.typeAssert,hf,sB_,run_underlying e1,rA]
     simp_all
   rename_i hu;have ac:¬u=ty:=fun e=>hu (by simp_all)
   cases ok with
   | true=>
    obtain⟨z,hz,ab⟩:=zero h;refine⟨_,?_,ab⟩;simp only[execOp,E,Instr.typeAssert,hf,sB_,run_underlying e1,rA]
    simp_all
   | false=>cases h
  ·rename_i M Q d hn e1 K;have hv:=B x (by simp[Op.operands]) _ K;simp only[VR] at hv;cases ok with
   | true=>
    obtain⟨z,hz,ab⟩:=zero h;refine⟨_,?_,ab⟩;simp only[execOp,E,Instr.typeAssert,hv,sB_,run_underlying e1,rA]
    simp_all
   | false=>cases h
  cases h
 | extract x i=>
  rw[E] at h B;simp only[dO] at h;split at h
  ·rename_i vs hx;have hv:=B x (by simp[Op.operands]) _ hx;simp only[VR] at hv;obtain⟨ys,hf,L⟩:=hv;rw[fN] at h;obtain⟨y,h1,S⟩:=L.get h;have:ys[i]? =some y:=by simp_all
   exact⟨y,by simp[execOp,E,Instr.extract,hf,this],S⟩
  cases h
 | call c=>
  rw[E] at h B;simp only[dO] at h;split at h
  ·rename_i C;split at h
   ·rename_i M Q t x e1 K;split at h
    ·rename_i u hu;cases hl:zg P t u with
     | none=>rw[hl] at h;cases h
     | some n=>
      rw[hl] at h;cases h;have A:c.args= #[x]:=by grind
      have hv:=B x (by simp[Op.operands,Call.operands,C,A]) u hu;refine⟨.int .i64<|Int.ofNat n,?_,by simp only[VR]⟩;have:=JQ (P:=P) (w:=w) (ty:=o.type) hl hv e1;simp[execOp,E,resolve,C,A,invoke,builtin,this]
    cases h
   cases h
  ·rename_i C;split at h
   ·rename_i M Q t x e1 K;split at h
    ·rename_i T u4 e u hu hx;have A:c.args= #[x]:=by grind
     have hv:=B x (by simp[Op.operands,Call.operands,C,A]) u hx;unfold RH at h;split at h
     ·rename_i b off len k;cases h;simp only[VR] at hv;obtain⟨l,hl,hf⟩:=hv;refine⟨.int .i64<|Int.ofNat k,?_,by simp only[VR]⟩;simp[execOp,E,resolve,C,A,invoke,builtin,Builtin.cap_,e1,run_underlying hu,hf,goInt]
     ·rename_i b off len a sz;cases h;simp only[VR] at hv;obtain⟨l,hl,k,hf,hk,_⟩:=hv;refine⟨.int .i64<|Int.ofNat k,?_,by simp only[VR];grind⟩;simp[execOp,E,resolve,C,A,invoke,builtin,Builtin.cap_,e1,run_underlying hu,hf,goInt]
     ·cases h;simp only[VR] at hv;refine⟨.int .i64 0,?_,by simp only[VR]⟩;simp[execOp,E,resolve,C,A,invoke,builtin,Builtin.cap_,e1,run_underlying hu,hv,goInt]
     cases h
    cases h
   cases h
  ·rename_i C;split at h
   ·rename_i M x y K;split at h
    ·rename_i a b ha hb;have A:c.args= #[x,y]:=by grind
     have hva:=B x (by simp[Op.operands,Call.operands,C,A]) a ha;have hvb:=B y (by simp[Op.operands,Call.operands,C,A]) b hb;unfold TG at h;split at h
     ·rename_i k n k' m;simp only[VR] at hva hvb;simp only[bZ] at h;split at h
      ·cases h;refine⟨.int k (if m<n then m else n),?_,by simp only[VR,eU,decide_eq_true_eq]⟩;simp[execOp,E,resolve,C,A,invoke,builtin,hva,hvb,run_min_int2]
      cases h
     cases h
    cases h
   cases h
  ·rename_i C;split at h
   ·rename_i M x y K;split at h
    ·rename_i a b ha hb;have A:c.args= #[x,y]:=by grind
     have hva:=B x (by simp[Op.operands,Call.operands,C,A]) a ha;have hvb:=B y (by simp[Op.operands,Call.operands,C,A]) b hb;unfold TF at h;split at h
     ·rename_i k n k' m;simp only[VR] at hva hvb;simp only[bZ] at h;split at h
      ·cases h;refine⟨.int k (if m>n then m else n),?_,by simp only[VR,eU,decide_eq_true_eq]⟩;simp[execOp,E,resolve,C,A,invoke,builtin,hva,hvb,run_max_int2]
      cases h
     cases h
    cases h
   cases h
  cases h
 | _=>rw[E] at h;simp[dO] at h
end
inductive HR where
 | val (v:U) (V:aF)
 | skip (V:aF)
 | enter (f:Nat) (args:List U) (V:aF)
 | round (l:Pos) (args:List U) (V:aF)
 | nt (v:U) (V:aF)
 | err (n:Nat)
def z4 (P:q6) (V:aF) (t:y_) (x v:U):Option aF:=
 match x,dg v with
 | .ptr b off,some cs=>
  match V.m.get b,P.info? t with
  | some (.row cells e false),some j=>
   bif Nat.beq (dK cs) j.size && ble (off+j.size) (dK cells) && cF cs then some (V.setObj b (.row (dy cs cells off) e false)) else none
  | some (.own cells e),some j=>
   bif Nat.beq (dK cs) j.size && ble (off+j.size) (dK cells) && cF cs then some (V.setObj b (.own (dy cs cells off) e)) else none
  | _,_=>none
 | _,_=>none
def kO (V:aF) (sz:Nat):U->Option (Nat×List U)
 | .ax=>some (0,[])
 | .slice b off len _=>match V.m.get b with
  | some (.row cells _ _)=>bif ble (off+len*sz) (dK cells) then some (len,takeN (eP cells off) (len*sz)) else none
  | _=>none
 | .str s=>bif Nat.beq sz 1 then some (dK s,Ap (fun c=>.int .u8 (Int.ofNat c)) s) else none
 | _=>none
def dW (P:q6) (t:Option y_):Bool:=
 match t with
 | some t=>match P.underlying t with
  | some (.slice _) | some .string=>true
  | _=>false
 | none=>true
def grow (V:aF) (e:Nat) (cs:List U) (len sz:Nat):HR:=
 .val (.slice V.next 0 len (.upto sz)) (V.alloc (.row cs e false))
def gu (P:q6) (V:aF) (ts:Array y_) (s x:U):HR:=
 match ts[0]? with
 | some t=>match P.underlying t with
  | some (.slice e)=>match P.info? e with
   | some j=>
    bif dW P ts[1]? && ble 1 j.size && ble j.bytes 65536 then
     match kO V j.size x with
     | some (n,news)=>
      bif cF news && ble n 1048576 && (P.info? e).any (fun j=>(j.zero.bind ra).any fun z=>(dg z).any fun cs=>Nat.beq (dK cs) j.size) then
       match s with
       | .ax=>bif Nat.beq n 0 then .val .ax V else grow V e news n j.size
       | .slice b off len (.known c)=>
        bif ble (len+n) c then
         match V.m.get b with
         | some (.row cells e' false)=>
          bif ble (off+len*j.size+dK news) (dK cells) then .val (.slice b off (len+n) (.known c)) (V.setObj b (.row (dy news cells (off+len*j.size)) e' false)) else .err 21
         | _=>bif Nat.beq n 0 then .val (.slice b off len (.known c)) V else .err 22
        else match V.m.get b with
         | some (.row cells _ _)=>
          bif ble (off+len*j.size) (dK cells) && ble len 1048576 then grow V e (iw (takeN (eP cells off) (len*j.size)) news) (len+n) j.size else .err 23
         | _=>.err 24
       | .slice b off len (.upto sz)=>
        bif Nat.beq n 0 then .val (.slice b off len (.upto sz)) V else
        bif Nat.beq sz j.size && ble len 1048576 then
         match V.m.get b with
         | some (.row cells e' false)=>
          bif ble 1 len && ble (off+len*j.size+dK news) (dK cells) then
           .val (.slice b off (len+n) (.upto sz)) (V.setObj b (.row (dy news cells (off+len*j.size)) e' false))
          else bif ble (off+len*j.size) (dK cells) && Nat.beq e' e then grow (V.drop b) e (iw (takeN (eP cells off) (len*j.size)) news) (len+n) j.size else .err 25
         | _=>.err 26
        else .err 27
       | _=>.err 28
      else .err 29
     | none=>.err 30
    else .err 31
   | none=>.err 32
  | _=>.err 33
 | none=>.err 34
def pM (P:q6) (V:aF) (ts:Array y_) (s x:U):HR:=
 match ts[0]?,ts[1]? with
 | some t,some t2=>match P.underlying t,P.underlying t2 with
  | some (.slice e),some (.int _)=>match P.info? e,(fH P e).bind dg,x with
   | some j,some zs,.int .i64 (.ofNat n)=>
    bif ble n 1048576 && (ble 1 n && (ble 1 j.size && (ble j.bytes 65536 && Nat.beq (dK zs) j.size))) then
     match s with
     | .ax=>grow V e (eC zs n) n j.size
     | .slice b off len (.known c)=>
      bif ble (len+n) c then .err 37 else match V.m.get b with
       | some (.row cells _ _)=>bif ble (off+len*j.size) (dK cells) && ble len 1048576 then grow V e (iw (takeN (eP cells off) (len*j.size))<|eC zs n) (len+n) j.size else .err 23
       | _=>.err 24
     | _=>.err 38
    else .err 39
   | _,_,_=>.err 46
  | _,_=>.err 47
 | _,_=>.err 48
def wO (P:q6) (V:aF) (ts:Array y_) (d x:U):HR:=
 match ts[0]? with
 | some t=>match P.underlying t with
  | some (.slice e)=>match P.info? e with
   | some j=>match kO V j.size x,d with
    | some (n,news),.slice b off len _=>
     bif Nat.beq (Nat.min n len) 0 then .val (.int .i64 0) V else
     match V.m.get b with
     | some (.row cells e' false)=>
      bif cF (takeN news (Nat.min n len*j.size)) && ble 1 j.size && ble (off+dK (takeN news (Nat.min n len*j.size))) (dK cells) then
       .val (.int .i64<|Int.ofNat<|Nat.min n len) (V.setObj b (.row (dy (takeN news (Nat.min n len*j.size)) cells off) e' false)) else .err 40
     | _=>.err 41
    | some (_,_),.ax=>.val (.int .i64 0) V
    | _,_=>.err 42
   | none=>.err 43
  | _=>.err 44
 | none=>.err 45
def vP (P:q6) (V:aF) (ts:Array y_) (x:U):Option aF:=
 match ts[0]? with
 | some t=>match P.underlying t with
  | some (.slice e)=>match x with
   | .ax=>some V
   | .slice b off len _=>bif Nat.beq len 0 then some V else
    match(fH P e).bind dg,V.m.get b with
    | some zs,some (.row cells e' false)=>bif cF (eC zs len) && ble 1 (dK zs) && ble (off+dK (eC zs len)) (dK cells) then some (V.setObj b (.row (dy (eC zs len) cells off) e' false)) else none
    | _,_=>none
   | _=>none
  | _=>none
 | none=>none
def wv (e:eW) (es:List eW) (i:Nat):List eW:=Hr e es i
def yq (es:List eW):Nat->List eW:=
 List.rec (motive:=fun _=>Nat->List eW) (fun _=>[]) (fun x l ih n=>Nat.rec (motive:=fun _=>List eW) l (fun m _=>x::ih m) n) es
def mU (xs ys:List U):Bool:=
 List.rec (motive:=fun _=>List U->Bool) (fun ys=>List.rec (motive:=fun _=>Bool) true (fun _ _ _=>false) ys)
  (fun x _ ih ys=>List.rec (motive:=fun _=>Bool) false (fun y r _=>match m9 x y with | some true=>ih r | _=>false) ys) xs ys
def sameKey (x y:U):Bool:=
 match x,y with
 | .agg xs,.agg ys=>mU xs ys
 | x,y=>match m9 x y with | some b=>b | none=>false
def lN (P:q6) (V:aF) (t:y_) (m k v:U):Option aF:=
 match P.underlying t,m with
 | some (.map kt _),.map b=>match V.m.get b with
  | some (.map es clock)=>bif plainKey P kt && jv P kt k then
    match nX P kt k es 0 with
    | some (some (i,_))=>match nth es i with
     | some e=>bif sameKey e.key k then some (V.setObj b (.map (wv {key:=k,val:=v,born:=e.born} es i) clock)) else none
     | none=>none
    | some none=>some (V.setObj b (.map (iw es [{key:=k,val:=v,born:=clock}]) (clock+1)))
    | none=>none
   else none
  | _=>none
 | _,_=>none
def rY (P:q6) (V:aF) (ts:Array y_) (m k:U):Option aF:=
 match ts[0]? with
 | some t=>match P.underlying t,m with
  | some (.map kt _),.map b=>match V.m.get b with
   | some (.map es clock)=>bif plainKey P kt && jv P kt k then
     match nX P kt k es 0 with
     | some (some (i,_))=>some (V.setObj b (.map (yq es i) clock))
     | some none=>some (V.setObj b (.map es clock))
     | none=>none
    else none
   | _=>none
  | _,_=>none
 | none=>none
def l6 (P:q6) (f:Nat):Bool:=
 match P.funcs[f]? with
 | some fn=>fn.body.isSome && !(fn.name == "runtime.NumGoroutine")
 | none=>false
def lW:ou->Bool
 | .upto _=>false
 | _=>true
def kN (p q:Pos):Bool:=Nat.beq p q
def pk (V:aF) (args:List U):Option U:=
 match args with
 | [.slice b off n cap,.slice b' off' n' cap']=>
  match V.m.get b,V.m.get b' with
  | some (.row _ _ false),some (.row cells' _ false)=>bif (bif kN b b' then false else true) && (lW cap && (lW cap' && ble 1 (dK cells'))) then some (.bool false) else none
  | _,_=>none
 | _=>none
def isNe (P:q6) (g:Nat):Bool:=
 match P.funcs[g]? with
 | some fn=>fn.name == "internal/abi.NoEscape"
 | none=>false
def AE (P:q6) (ov:Nat->Bool) (V:aF) (f:U) (args:List U):HR:=
 match f with
 | .func g fi ca=>bif l6 P g then .enter g (iw fi<|iw args ca) V else bif ov g then(bif isNe P g then(match iw fi (iw args ca) with | [v]=>.val v V | _=>.err 53) else(match pk V (iw fi<|iw args ca) with | some v=>.val v V | none=>.err 52)) else .err 50
 | .yield l=>.round l args V
 | _=>.err 51
def mW (P:q6) (V:aF) (src dst:y_) (x:U):HR:=
 match P.underlying src,P.underlying dst,x with
 | some .string,some (.slice e),.str s=>match P.underlying e with
  | some (.int .u8)=>bif Nat.beq (P.cellsOf e) 1 then .val (.slice V.next 0 (dK s) (.upto 1)) (V.alloc (.row (Ap (fun c=>.int .u8 (Int.ofNat c)) s) e true)) else .err 26
  | _=>.err 25
 | _,_,_=>.err 24
def gh (P:q6) (ov:Nat->Bool) (ev:q_->Option U) (V:aF):Op->HR
 | .store t x y=>match ev x,ev y with
  | some a,some v=>match z4 P V t a v with
   | some V'=>.skip V'
   | none=>.err 10
  | _,_=>.err 11
 | .mapUpdate t m k x=>match ev m,ev k,ev x with
  | some a,some b,some v=>match lN P V t a b v with
   | some V'=>.skip V'
   | none=>.err 19
  | _,_,_=>.err 20
 | .insert t m k x=>match ev m,ev k,ev x with
  | some a,some b,some v=>match lN P V t a b v with
   | some V'=>.skip V'
   | none=>.err 19
  | _,_,_=>.err 20
 | .call c=>match c.callee with
  | .value f=>match ev f,ju ev c.args.toList with
   | some g,some args=>AE P ov V g args
   | _,_=>.err 12
  | .builtin .append=>match ju ev c.args.toList with
   | some [s,x]=>bif dW P c.argTypes[1]? then gu P V c.argTypes s x else pM P V c.argTypes s x
   | _=>.err 13
  | .builtin .delete=>match ju ev c.args.toList with
   | some [m,k]=>match rY P V c.argTypes m k with
    | some V'=>.val (.tuple []) V'
    | none=>.err 17
   | _=>.err 18
  | .builtin .copy=>match ju ev c.args.toList with
   | some [s,x]=>wO P V c.argTypes s x
   | _=>.err 14
  | .builtin .clear=>match ju ev c.args.toList with
   | some [x]=>match vP P V c.argTypes x with
    | some V'=>.val (.tuple []) V'
    | none=>.err 21
   | _=>.err 22
  | _=>.err 15
 | .convert src dst x=>match ev x with
  | some v=>mW P V src dst v
  | none=>.err 23
 | .panic x=>match ev x with
  | some (.iface t v)=>.nt (.iface t v) V
  | _=>.err 32
 | _=>.err 16
variable {vs:List U} {z:j_}
section
variable {P:q6} {D:dD} {V:aF} {w:x_}
theorem aF.oL (V:aF) (b:Pos) (o o':cU):(V.setObj b o).setObj b o'=V.setObj b o':=by
 simp[aF.setObj,PT.Qh]
theorem aF.ng (V:aF) (b:Pos) (o:cU):(V.setObj b o).m.get b=some o:=PT.dZ _ _ _
theorem pE {b:Pos} {l:Loc} {e:Nat} (hl:D b=some l):∀(vs:List U) (xs:List j_) (cells:List U) (off i:Nat) (V:aF) (w:x_),Inv D V w->V.m.get b=some (.row cells e false)->dN D vs xs->cF vs=true->
  off+i+vs.length<=cells.length->∀σ₀:aF,V=σ₀.setObj b (.row cells e false)->
  ∃w',(storeCells ⟨l.eK,l.sh+off,none⟩ xs i).run P w= .ok () w'/\Inv D (σ₀.setObj b (.row (iA cells (off+i) vs) e false)) w'/\fL D V w D (σ₀.setObj b (.row (iA cells (off+i) vs) e false)) w'
 | [],xs,cells,off,i,V,w,hi,hb,hv,_,_,σ₀,hσ=>by
  rw[hv.fR];subst hσ;exact⟨w,by simp[storeCells],hi,fL.refl _ _ _⟩
 | v::vs,xs,cells,off,i,V,w,hi,hb,hv,d,hlen,σ₀,hσ=>by
  obtain⟨x,r,rfl,h1,K⟩:=hv.cons_inv;have ac:ml v=true:=tx d v (by simp)
  have A:cF vs=true:=by
   grind [cF]
  simp only[zc_] at hlen;obtain⟨B,st⟩:=hi.setCell hb hl (i:=off+i) oM h1;have u:(V.setObj b (.row (cells.set (off+i) v) e false)).m.get b=some (.row (cells.set (off+i) v) e false):=aF.ng _ _ _;obtain⟨w',r',inv',st'⟩:=pE hl vs r (cells.set (off+i) v) off (i+1) _ _ B u K A (by simp;omega) σ₀ (by rw[hσ,aF.oL]);obtain⟨c,fr,z,am,ao,C,E⟩:=hi.row hb hl;refine⟨w',?_,?_,?_⟩
  ·have G:off+i<cells.length:=by omega
   obtain⟨y,L,_⟩:=C (off+i) cells[off+i] (gC G);have aa:w.cell? ⟨l.eK,l.sh+off+i,none⟩=some y:=by rw[cell?_of_heap z,add_assoc];exact L
   have ap:w.frozen? ⟨l.eK,l.sh+off+i,none⟩=false:=frozen?_of_heap z _ (E Z _ oM);have ab:(⟨l.eK,l.sh+off,none⟩:Addr).add i=⟨l.eK,l.sh+off+i,none⟩:=Addr.add_eq _ i Z
   grind [run_store,pY,storeCells,sB_,rA]
  ·simpa [iA,add_assoc] using inv'
  have:=st.trans st';simpa [iA,add_assoc] using this
theorem jb (hi:Inv D V w) {b:Pos} {l:Loc} {cells:List U} {xs:List j_} {off:Nat} (hl:D b=some l) (hb:V.m.get b=some (.row cells e false)) (hv:dN D vs xs) (d:cF vs=true)
  (hlen:off+vs.length<=cells.length):
  ∃w',(storeCells ⟨l.eK,l.sh+off,none⟩ xs).run P w= .ok () w'/\Inv D (V.setObj b (.row (dy vs cells off) e false)) w'/\fL D V w D (V.setObj b (.row (dy vs cells off) e false)) w':=by
 have u:Inv D (V.setObj b (.row cells e false)) w/\fL D V w D (V.setObj b (.row cells e false)) w:=by
  obtain⟨c,fr,h1,z,h3,h4,h5⟩:=hi.row hb hl;exact hi.change hb hl Z Z h1 ⟨c,fr,Z,z,h3,h4,h5⟩ (fun _ _=>Z) Z Z Z Z
 obtain⟨w',r,inv,st⟩:=pE (P:=P) hl vs xs cells off 0 _ w u.1 (aF.ng _ _ _) hv d oM V Z;rw[Nat.add_zero,<-lM vs cells off hlen] at inv st;exact⟨w',r,inv,u.2.trans st⟩
theorem FF (hi:Inv D V w) {t:y_} {x v:U} {y:j_} {V':aF} (h:z4 P V t x v=some V') (hx:VR D x y) (hv:VR D v z):
  ∃w',(Instr.storeAt t y z).run P w= .ok () w'/\Inv D V' w'/\fL D V w D V' w':=by
 unfold z4 at h;split at h
 ·rename_i u1 u2 b off cs d;split at h
  ·rename_i M Q cells e j hb hj;simp only[bZ] at h;split at h
   ·rename_i B;cases h;simp only[bA_,beq_eq,nE_,cH] at B;obtain⟨⟨E,G⟩,A⟩:=B;simp only[VR] at hx;obtain⟨l,hl,rfl⟩:=hx;obtain⟨w',r,inv,st⟩:=jb (P:=P) hi hl hb (iV d hv) A (off:=off) oM;refine⟨w',?_,inv,st⟩;have hsz:=nN d hv;simp only[Instr.storeAt,Instr.sureAddr,storeVar,sB_,sP_,rA,cR hj]
    simp_all
   cases h
  ·rename_i M Q cells e j hb hj;simp only[bZ] at h;split at h
   ·rename_i B;cases h;simp only[bA_,beq_eq,nE_,cH] at B;obtain⟨⟨E,G⟩,A⟩:=B;simp only[VR] at hx;obtain⟨l,hl,rfl⟩:=hx;obtain⟨h0,K,L⟩:=hi.own hb hl;obtain⟨w',r,inv,st⟩:=jb (P:=P) K hl (aF.ng _ _ _) (iV d hv) A (off:=off) oM;rw[aF.oL] at inv st;have hlen:(dy cs cells off).length=cells.length:=by rw[lM _ _ _ oM,tp]
    obtain⟨u,C⟩:=inv.Nw (aF.ng _ _ _) hl Z (fun x hx=>iD.IM ⟨h0.1,by rw[hlen];exact h0.2⟩ hx);rw[aF.oL] at u C;refine⟨w',?_,u,(L.trans st).trans C⟩;have hsz:=nN d hv;simp only[Instr.storeAt,Instr.sureAddr,storeVar,sB_,sP_,rA,cR hj]
    simp_all
   cases h
  cases h
 cases h
theorem qf (hi:Inv D V w) {sz n:Nat} {x:U} {y:j_} (h:kO V sz x=some (n,cs)) (hx:VR D x y):
  (Builtin.lenOf y).run P w= .ok n w/\cs.length=n*sz/\
   ∀k,k<=n->∃xs:List j_,dN D (cs.take (k*sz)) xs/\∀w',w'.heap=w.heap->(Builtin.firstCells sz k y).run P w'= .ok xs.toArray w':=by
 unfold kO at h;split at h
 ·cases h;simp only[VR] at hx;subst hx;refine⟨by simp[Builtin.lenOf],by simp,fun k hk=>⟨[],by simpa using dN.nil,fun w' _=>by simp[Builtin.firstCells]⟩⟩
 ·rename_i b off len cap;split at h
  ·rename_i cells e ro hb;simp only[bZ] at h;split at h
   ·rename_i hle;cases h;rw[nE_,cH] at hle
    have full:∀(a:Addr) (c:Nat) (l:Loc),D b=some l->y= .slice (some a) n c->(a=⟨l.eK,l.sh+off,none⟩∨n=0)->
      (Builtin.lenOf y).run P w= .ok n w/\(takeN (eP cells off) (n*sz)).length=n*sz/\
       ∀k,k<=n->∃xs:List j_,dN D ((takeN (eP cells off) (n*sz)).take (k*sz)) xs/\∀w',w'.heap=w.heap->(Builtin.firstCells sz k y).run P w'= .ok xs.toArray w':=by
     intro a c l hl B C;subst B;refine⟨by simp[Builtin.lenOf],by rw[ed,eR,lT_,lD_];omega,fun k hk=>?_⟩;have z:k*sz<=n*sz:=nM_ _ hk;rw[ed,eR,List.take_take,Nat.min_eq_left z];rcases C with rfl | rfl
     ·obtain⟨ys,h1,h2,h3⟩:=hi.piece hb hl off (k*sz) oM
      grind [run_firstCells_some,World.cell?]
     have A:k=0:=by omega
     subst A;refine⟨[],by simpa using dN.nil,fun w' aa=>?_⟩
     grind [run_firstCells_some]
    cases cap with
    | known c=>
     simp only[VR] at hx
     grind
    | least a s=>
     simp only[VR] at hx
     grind
    | upto s=>
     simp only[VR] at hx
     grind
   cases h
  cases h
 ·rename_i s;simp only[bZ] at h;split at h
  ·rename_i d;rw[beq_eq] at d;subst d;cases h;simp only[VR] at hx;obtain⟨bs,rfl,u⟩:=hx;rw[ki u,mG];unfold iQ at u;refine⟨by simp[Builtin.lenOf],by rw[<-u];simp,fun k hk=>?_⟩;refine⟨(bs.data.toList.take k).map fun b=>Value.int .u8 b.toNat,?_,fun w' _=>?_⟩
   ·rw[<-u,List.map_map,<-List.map_take,Nat.mul_one];generalize (bs.data.toList.take k)=l;induction l with
    | nil=>exact dN.nil
    | cons c l ih=>exact dN.cons (by simp only[VR];rfl) ih
   simp only[Builtin.firstCells,sP_];congr 1;apply Array.toList_inj.1
   simp_all
  cases h
 cases h
end
variable {news olds:List j_} {sCap sLen:Nat} {base:Option Addr} {yx:j_}
section
variable {P:q6} {D:dD} {V:aF} {w:x_}
theorem JR (l:List α) (k:Nat) (v:α) (vs:List α) (hk:k<l.length):
  (l.set k v).take (k+1)++vs++(l.set k v).drop (k+1+vs.length)=l.take k++(v::vs)++l.drop (k+(vs.length+1)):=by
 grind [List.drop_set_of_lt,List.take_succ_eq_append_getElem,List.take_set_of_le]
theorem nz {g o e:Nat} {fr:Nat×Nat}:∀(vs:List j_) (cur:Array j_) (i:Nat) (w:x_),w.heap[g]? =some (.cells cur e fr)->o+i+vs.length<=cur.size->(∀v∈vs,v.oneCell'=true)->
  (∀j,o<=j->¬(fr.1<=j/\j<fr.2))->
  ∃w',(storeCells ⟨g,o,none⟩ vs i).run P w= .ok () w'/\w'.heap[g]? =some (.cells (cur.toList.take (o+i)++vs++cur.toList.drop (o+i+vs.length)).toArray e fr)/\
   (∀r,r≠g->w'.heap[r]? =w.heap[r]?)/\w'.heap.size=w.heap.size/\w'.tape=w.tape/\w'.os=w.os/\w'.output=w.output
 | [],cur,i,w,z,_,_,_=>by
  refine⟨w,by simp[storeCells],?_,fun _ _=>Z,Z,Z,Z,Z⟩;simpa using z
 | v::vs,cur,i,w,z,hl,h1,hf=>by
  simp only[zc_] at hl;have A:o+i<cur.size:=by omega
  have aa:(⟨g,o,none⟩:Addr).add i=⟨g,o+i,none⟩:=Addr.add_eq _ i Z;have d:w.cell? ⟨g,o+i,none⟩=some cur[o+i]:=by rw[cell?_of_heap z];simp[A]
  have B:w.frozen? ⟨g,o+i,none⟩=false:=frozen?_of_heap z _ (hf _ oM)
  have O:(store ⟨g,o+i,none⟩ v).run P w= .ok () (w.setCell ⟨g,o+i,none⟩ v):=by
   rw[run_store P w _ v _<|h1 v (by simp),d];simp[B]
  obtain⟨w',r,q1,q2,q3,q4,q5,C⟩:=nz vs (cur.setIfInBounds (o+i) v) (i+1) _ (heap_setCell_same z (o+i) v) (by simp;omega) (fun u hu=>h1 u (by simp[hu])) hf;refine⟨w',?_,?_,fun r hr=>(q2 r hr).trans (heap_setCell_other w _ v hr),by rw[q3];simp,q4,q5,C⟩
  ·grind [storeCells,sB_,rA]
  grind [JR]
theorem run_append_fits {t ty e:y_} {j:TypeInfo} (C:ts[0]? =some t) (hu:P.underlying t=some (.slice e)) (hj:P.info? e=some j) (B:dW P ts[1]? =true)
  {n:Nat} {y:j_} (hlen:(Builtin.lenOf y).run P w= .ok n w) (d:(Builtin.firstCells j.size n y).run P w= .ok news.toArray w) (z:sLen+n<=sCap):
  (Builtin.append_ ts ty #[.slice base sLen sCap,y]).run P w=
   (Sem.run P (match base with | some a=>storeCells (a.add (sLen*j.size)) news | none=>pure ():Sem Unit) w).andThen fun _ w'=>.ok (.slice base (sLen+n) sCap) w':=by
 unfold dW at B;cases h1:ts[1]? with
 | none=>
  cases base<;>simp[Builtin.append_,C,h1,run_underlying hu,cR hj,hlen,z,d]
 | some u=>
  rw[h1] at B;dsimp only at B;split at B
  ·rename_i e' A;cases base<;>simp[Builtin.append_,C,h1,run_underlying hu,run_underlying A,cR hj,hlen,z,d]
  ·rename_i A;cases base<;>simp[Builtin.append_,C,h1,run_underlying hu,run_underlying A,cR hj,hlen,z,d]
  cases B
theorem oJ {t ty e:y_} {j:TypeInfo} (z:ts[0]? =some t) (hu:P.underlying t=some (.slice e)) (hj:P.info? e=some j) (A:dW P ts[1]? =true)
  {eK o:Nat} {n:Nat} {y:j_} (hlen:(Builtin.lenOf y).run P w= .ok n w) (d:(Builtin.firstCells j.size n y).run P w= .ok news.toArray w) (u:sLen+n<=sCap):
  (Builtin.append_ ts ty #[.slice (some ⟨eK,o,none⟩) sLen sCap,y]).run P w=
   (Sem.run P (storeCells ⟨eK,o+sLen*j.size,none⟩ news) w).andThen fun _ w'=>.ok (.slice (some ⟨eK,o,none⟩) (sLen+n) sCap) w':=by
 rw[run_append_fits z hu hj A hlen d u];show(Sem.run P (storeCells ((⟨eK,o,none⟩:Addr).add (sLen*j.size)) news) w).andThen _=_;rw[Addr.add_eq _ _ Z]
theorem mj {t ty e:y_} {j:TypeInfo} (L:ts[0]? =some t) (hu:P.underlying t=some (.slice e)) (hj:P.info? e=some j) (hzero:j.zero=some z) (K:dW P ts[1]? =true)
  {n:Nat} {y:j_} (hlen:(Builtin.lenOf y).run P w= .ok n w) (d:(Builtin.firstCells j.size n y).run P w.drew= .ok news.toArray w.drew)
  (hold:(Builtin.firstCells j.size sLen (.slice base sLen sCap)).run P w.drew= .ok olds.toArray w.drew) (C:sCap<sLen+n) (M:sLen+n<=4194304) (Q:j.bytes<=65536) (aa:1<=j.size):
  ∃cap,sLen+n<=cap/\(Builtin.append_ ts ty #[.slice base sLen sCap,y]).run P w=
   .ok (.slice (some ⟨w.heap.size,0,none⟩) (sLen+n) cap) (w.drew.alloc (.cells (olds.toArray++news.toArray++Builtin.zeroCells z.cells (cap-(sLen+n))) e)):=by
 refine⟨grownCap w (sLen+n) sCap e,grownCap_ge _ _ _ _,?_⟩
 have ab:Builtin.nextslicecap (sLen+n) sCap*j.bytes<=281474976710656:=growslice_fits C (by
  have:(sLen+n)*j.bytes<=4194304*65536:=mul_le_mul M Q;omega)
 have hn:¬(sLen+n<=sCap):=by omega
 have A:IntKind.i64.max=9223372036854775807:=by decide
 have h1:¬(9223372036854775807<((sLen:Int)+(n:Int))):=by omega
 have E:¬(281474976710656<Builtin.nextslicecap (sLen+n) sCap*j.bytes):=by omega
 rw[Array.append_assoc];unfold dW at K;cases B:ts[1]? with
 | none=>
  simp[Builtin.append_,L,B,run_underlying hu,cR hj,typeInfo,hj,hlen,hn,A,h1,E,hold,d,zeroValue,hzero,newRow,Question.forced,grownCap]
 | some u=>
  rw[B] at K;dsimp only at K;split at K
  ·rename_i e' G;simp[Builtin.append_,L,B,run_underlying hu,run_underlying G,cR hj,typeInfo,hj,hlen,hn,A,h1,E,hold,d,zeroValue,hzero,newRow,Question.forced,grownCap]
  ·rename_i G;simp[Builtin.append_,L,B,run_underlying hu,run_underlying G,cR hj,typeInfo,hj,hlen,hn,A,h1,E,hold,d,zeroValue,hzero,newRow,Question.forced,grownCap]
  cases K
theorem nh (hi:Inv D V w) {sz len:Nat} (u:dN D cs (olds++news)) (hlen:cs.length=len*sz) (d:len<=cap) (A:z.cells.size=sz):
  Inv (D.with V.next ⟨w.heap.size,0,cap*sz⟩) (V.alloc (.row cs e false)) (w.drew.alloc (.cells (olds.toArray++news.toArray++Builtin.zeroCells z.cells (cap-len)) e))/\
  fL D V w (D.with V.next ⟨w.heap.size,0,cap*sz⟩) (V.alloc (.row cs e false)) (w.drew.alloc (.cells (olds.toArray++news.toArray++Builtin.zeroCells z.cells (cap-len)) e))/\
  VR (D.with V.next ⟨w.heap.size,0,cap*sz⟩) (.slice V.next 0 len (.upto sz)) (.slice (some ⟨w.heap.size,0,none⟩) len cap):=by
 have hlen2:=u.length;rw[hlen] at hlen2;have hle:len*sz<=cap*sz:=nM_ _ d
 have B:iD D ⟨w.heap.size,0,cap*sz⟩ (.row cs e false) (.cells (olds.toArray++news.toArray++Builtin.zeroCells z.cells (cap-len)) e):=by
  refine⟨_,_,Z,?_,by rw[hlen];exact hle,fun i v hv=>?_,fun _ j _ hj=>by simp at hj⟩
  ·have h1:olds.length+news.length=len*sz:=by simpa using hlen2
   simp only[Array.size_append,List.size_toArray,size_zeroCells,A,Nat.sub_mul,nA_];omega
  obtain⟨y,h1,h2⟩:=u.get hv
  grind
 obtain⟨inv,st⟩:=(hi.drew).alloc (l:=⟨w.heap.size,0,cap*sz⟩) Z B;refine⟨inv,(fL.drew D V w).trans st,?_⟩;simp only[VR];exact⟨_,dD.dk _ _ _,.inl ⟨cap,Z,d,by simp⟩⟩
theorem Ch (hi:Inv D V w) {ty:y_} {s x v:U} {ys:j_} {V':aF} (h:gu P V ts s x= .val v V') (W:VR D s ys) (hx:VR D x yx):
  ∃z w' D',(Builtin.append_ ts ty #[ys,yx]).run P w= .ok z w'/\VR D' v z/\Inv D' V' w'/\fL D V w D' V' w':=by
 unfold gu at h;cases S:ts[0]? with
 | none=>rw[S] at h;cases h
 | some t=>
 rw[S] at h;dsimp only at h;split at h
 case h_2=>cases h
 rename_i e hu;cases hj:P.info? e with
 | none=>rw[hj] at h;cases h
 | some j=>
 rw[hj] at h;simp only[bZ] at h;split at h
 case isFalse=>cases h
 rename_i hb;simp only[bA_,nE_] at hb;obtain⟨⟨X,aa⟩,aq⟩:=hb;cases ap:kO V j.size x with
 | none=>simp_all
 | some p=>
 obtain⟨n,news⟩:=p;rw[ap] at h;dsimp only at h;split at h
 case isFalse=>cases h
 rename_i a4;simp only[bA_,nE_] at a4;obtain⟨⟨L,b9⟩,hzero⟩:=a4
 obtain⟨zv,ar,C⟩:∃zv,j.zero=some zv/\zv.cells.size=j.size:=by
  simp only[Option.any_some,Option.any_eq_true] at hzero;obtain⟨z,a5,cs,bm,a9⟩:=hzero;cases bq:j.zero with
  | none=>simp_all
  | some zv=>
   rw[bq] at a5;refine⟨zv,Z,?_⟩;rw[beq_eq,cH] at a9;rw[<-a9];exact nN bm<|re (D:=D) a5
 obtain⟨A,M,ab⟩:=qf (P:=P) hi ap hx;obtain⟨xs,K,T⟩:=ab n (nR_ _);rw[<-M,List.take_length] at K;have a0:xs.length=n*j.size:=by rw[K.length,M]
 have hrun0:=T w Z;have hrund:=T w.drew Z;split at h
 ·
  simp only[VR] at W;subst W;split at h
  ·rename_i E;rw[beq_eq] at E;cases h;subst E;refine⟨.slice none 0 0,w,D,?_,by simp only[VR],hi,fL.refl _ _ _⟩;have:=run_append_fits (w:=w) (ty:=ty) (base:=none) (sLen:=0) (sCap:=0) S hu hj X A hrun0 (nR_ _);rw[this];rfl
  rename_i E;cases h
  have hn:0<n:=by
   grind [beq_eq]
  obtain⟨cap,G,hr⟩:=mj (w:=w) (ty:=ty) (base:=none) (sLen:=0) (sCap:=0) (olds:=[]) S hu hj ar X A hrund (by simp[Builtin.firstCells]) oM oM aq aa;rw[nA_] at G hr;obtain⟨inv,st,hv⟩:=nh (e:=e) hi (olds:=[]) (news:=xs) (by simpa using K) M G C
  grind
 ·
  rename_i b off len c;simp only[VR] at W;obtain⟨l,hl,rfl⟩:=W;split at h
  ·rename_i B;rw[nE_] at B;have hr:=oJ (w:=w) (ty:=ty) (eK:=l.eK) (o:=l.sh+off) S hu hj X A hrun0 B;split at h
   ·rename_i cells e' hb;split at h
    ·rename_i d;rw[nE_,cH,cH] at d;cases h;obtain⟨w',r,inv,st⟩:=jb (P:=P) hi hl hb K L (off:=off+len*j.size) oM;refine⟨.slice (some ⟨l.eK,l.sh+off,none⟩) (len+n) c,w',D,?_,?_,inv,st⟩
     ·rw[hr,add_assoc,r];rfl
     simp only[VR];simp_all
    cases h
   split at h
   ·rename_i E;rw[beq_eq] at E;cases h;subst E;refine⟨.slice (some ⟨l.eK,l.sh+off,none⟩) len c,w,D,?_,?_,hi,fL.refl _ _ _⟩
    ·have a1:xs= []:=eN_ oM;rw[hr,a1];simp[storeCells]
    simp only[VR];simp_all
   cases h
  rename_i B;rw[nE_] at B;split at h
  ·rename_i cells e' ro hb;split at h
   ·rename_i d;simp only[bA_,nE_,cH] at d;obtain⟨d,ac⟩:=d;unfold grow at h;cases h;obtain⟨ys,h1,h2,h3⟩:=hi.piece hb hl off (len*j.size) d
    have hold:(Builtin.firstCells j.size len (.slice (some ⟨l.eK,l.sh+off,none⟩) len c)).run P w.drew= .ok ys.toArray w.drew:=
     run_firstCells_some w.drew j.size len _ len c ys h1 (fun i v hv=>by simpa using h3 i v hv)
    obtain⟨cap,G,hr⟩:=mj (w:=w) (ty:=ty) S hu hj ar X A hrund hold oM oM aq aa
    obtain⟨inv,st,hv⟩:=nh (e:=e) hi (olds:=ys) (news:=xs) (len:=len+n) (cs:=iw (takeN (eP cells off) (len*j.size)) news)
     (by rw[eD,ed,eR];exact h2.append K) (by grind [eD,ed,eR]) G C
    grind
   cases h
  cases h
 ·
  rename_i b off len sz;split at h
  ·rename_i E;rw[beq_eq] at E;cases h;subst E;have a1:xs= []:=eN_ oM;subst a1;have hs':=W;simp only[VR] at hs';obtain⟨l,hl,⟨c,hy,hc,_⟩ | ⟨h0,a,hy⟩⟩:=hs'
   ·refine⟨ys,w,D,?_,W,hi,fL.refl _ _ _⟩;rw[hy,run_append_fits (w:=w) (ty:=ty) S hu hj X A hrun0 oM];simp[storeCells]
   refine⟨ys,w,D,?_,W,hi,fL.refl _ _ _⟩;subst h0;rw[hy,run_append_fits (w:=w) (ty:=ty) S hu hj X A hrun0 oM];simp[storeCells]
  rename_i E
  have hn:0<n:=by
   grind [beq_eq]
  split at h
  ·rename_i R;simp only[bA_,beq_eq,nE_] at R;obtain⟨R,ac⟩:=R;subst R;simp only[VR] at W;split at h
   ·rename_i cells e' hb;split at h
    ·
     rename_i d;simp only[bA_,nE_,cH] at d;obtain⟨ca,d⟩:=d;cases h;obtain⟨l,hl,⟨c,rfl,hc,am⟩ | ⟨h0,_⟩⟩:=W
     ·obtain⟨cc,fr,_,_,br,_⟩:=hi.row hb hl
      have B:len+n<=c:=by
       have:(len+n)*j.size<=c*j.size:=by grind
       exact Nat.le_of_mul_le_mul_right this aa
      have hr:=oJ (w:=w) (ty:=ty) (eK:=l.eK) (o:=l.sh+off) S hu hj X A hrun0 B;obtain⟨w',r,inv,st⟩:=jb (P:=P) hi hl hb K L (off:=off+len*j.size) oM;refine⟨.slice (some ⟨l.eK,l.sh+off,none⟩) (len+n) c,w',D,?_,?_,inv,st⟩
      ·rw[hr,add_assoc,r];rfl
      simp only[VR];simp_all
     omega
    split at h
    ·
     rename_i d;simp only[bA_,nE_,beq_eq,cH] at d;obtain⟨d,he⟩:=d;subst he;unfold grow at h;cases h;obtain⟨l,hl,a2⟩:=W;obtain⟨olds,h1,h2,h3⟩:=hi.piece hb hl off (len*j.size) d;have bb:dN D (iw (takeN (eP cells off) (len*j.size)) news) (olds++xs):=by rw[eD,ed,eR];exact h2.append K
     have bs:(iw (takeN (eP cells off) (len*j.size)) news).length=(len+n)*j.size:=by
      grind [eD,ed,eR]
     have anew:∀(a:Addr) (c:Nat),ys= .slice (some a) len c->c<len+n->(a=⟨l.eK,l.sh+off,none⟩∨len=0)->
       ∃z w' D',(Builtin.append_ ts ty #[ys,yx]).run P w= .ok z w'/\VR D' (.slice (V.drop b).next 0 (len+n) (.upto j.size)) z/\
        Inv D' ((V.drop b).alloc (.row (iw (takeN (eP cells off) (len*j.size)) news) e' false)) w'/\fL D V w D' ((V.drop b).alloc (.row (iw (takeN (eP cells off) (len*j.size)) news) e' false)) w':=by
      intro a c hy cb ha;subst hy
      have hold:(Builtin.firstCells j.size len (.slice (some a) len c)).run P w.drew= .ok olds.toArray w.drew:=by
       rcases ha with rfl | rfl
       ·exact run_firstCells_some w.drew j.size len _ len c olds h1 (fun i v hv=>by simpa using h3 i v hv)
       have:olds= []:=eN_ (by rw[h1,Nat.zero_mul])
       grind [run_firstCells_some]
      obtain⟨cap,G,hr⟩:=mj (w:=w) (ty:=ty) S hu hj ar X A hrund hold oM oM aq aa;obtain⟨bt,st'⟩:=hi.forget b;obtain⟨inv,st,hv⟩:=nh (e:=e') bt (olds:=olds) (news:=xs) (len:=len+n) bb bs G C;exact⟨_,_,_,hr,hv,inv,st'.trans st⟩
     rcases a2 with ⟨c,hy,hc,am⟩ | ⟨h0,a,hy⟩
     ·by_cases B:len+n<=c
      ·
       subst hy;have hr:=oJ (w:=w) (ty:=ty) (eK:=l.eK) (o:=l.sh+off) S hu hj X A hrun0 B;obtain⟨cc,fr,be,bv,br,ce,bi⟩:=hi.row hb hl;have hmul:(len+n)*j.size<=c*j.size:=nM_ _ B;have bw:(len+n)*j.size=len*j.size+n*j.size:=Nat.add_mul _ _ _
       have O:=nz (P:=P) (o:=l.sh+off+len*j.size) xs cc 0 w be oM (fun u hu=>by
        obtain⟨i,bI,b0⟩:=List.getElem_of_mem hu;have ao:i<news.length:=by omega
        obtain⟨y,Q,a3⟩:=K.get (gC ao);rw[gC bI,b0] at Q;cases Q;exact pY (tx L _<|List.getElem_mem ao) a3) (fun jj b1=>bi Z jj oM)
       obtain⟨w',r,b2,b3,b4,b5,b6,b7⟩:=O
       have inv:=hi.zT (l':=⟨l.eK,l.sh+off,l.cells-off⟩) (cells':=iw (takeN (eP cells off) (len*j.size)) news) hb hl Z b2
        ⟨_,fr,Z,by simp[bv];omega,by grind,fun i v hv=>by
         obtain⟨y,Q,a3⟩:=bb.get hv;refine⟨y,?_,a3⟩;rw[List.getElem?_toArray];dsimp only;have bj:cc.toList.length=l.sh+l.cells:=by omega
         have ao:i<(olds++xs).length:=(gA.1 Q).1;rw[lA_,h1,a0] at ao
         by_cases b8:i<len*j.size
         ·rw[gL_ (by rw[h1];exact b8)] at Q;have:=h3 i y Q;rw[Addr.add_eq _ _ Z,cell?_of_heap be] at this;rw[lQ_,gL_ (by grind),List.getElem?_take,if_pos oM,aT_];exact this
         rw[gR_ (by rw[h1];omega),h1] at Q;rw[lQ_,gR_ (by grind),lT_,bj]
         grind,fun _ jj b1=>bi Z jj (by grind)⟩
        b3 b4 b5 b6 b7
       refine⟨.slice (some ⟨l.eK,l.sh+off,none⟩) (len+n) c,w',_,?_,?_,inv.1,inv.2⟩
       ·rw[hr,r];rfl
       simp only[VR,aF.drop];refine⟨_,dD.dk _ _ _,.inl ⟨c,by simp,B,?_⟩⟩;simp only;omega
      simp_all
     simp_all
    cases h
   cases h
  cases h
 cases h
theorem pz {t T ty e:y_} {k:w0} {j:TypeInfo} (W:ts[0]? =some t) (hu:P.underlying t=some (.slice e)) (hj:P.info? e=some j) (hzero:j.zero=some z) (K:ts[1]? =some T) (X:P.underlying T=some (.int k))
  {n:Nat} 
  (hold:(Builtin.firstCells j.size sLen (.slice base sLen sCap)).run P w.drew= .ok olds.toArray w.drew) (d:sCap<sLen+n) (L:sLen+n<=4194304) (u:n<=1048576) (M:1<=n) (A:j.bytes<=65536) (B:1<=j.size):
  ∃cap,sLen+n<=cap/\(Builtin.append_ ts ty #[.slice base sLen sCap,.int .i64<|Int.ofNat n]).run P w=
   .ok (.slice (some ⟨w.heap.size,0,none⟩) (sLen+n) cap) (w.drew.alloc (.cells (olds.toArray++(Builtin.zeroCells z.cells n).toList.toArray++Builtin.zeroCells z.cells (cap-(sLen+n))) e)):=by
 refine⟨grownCap w (sLen+n) sCap e,grownCap_ge _ _ _ _,?_⟩
 have aa:Builtin.nextslicecap (sLen+n) sCap*j.bytes<=281474976710656:=growslice_fits d (by
  have:(sLen+n)*j.bytes<=4194304*65536:=mul_le_mul L A;omega)
 have hn:¬(sLen+n<=sCap):=by omega
 have C:IntKind.i64.max=9223372036854775807:=by decide
 have h1:¬(9223372036854775807<((sLen:Int)+(n:Int))):=by omega
 have Q:¬(281474976710656<Builtin.nextslicecap (sLen+n) sCap*j.bytes):=by omega
 have hw:IntKind.i64.wrap (n:Int)=(n:Int):=xr .i64 (Int.ofNat n) (by simp only[Rb,nE_];omega);have E:¬((n:Int)<0):=by omega
 have G:¬(281474976710656<(n:Int)*(j.bytes:Int)):=by
  have:n*j.bytes<=1048576*65536:=mul_le_mul u A;omega
 have R:¬(n*j.size=0):=by
  have:1*1<=n*j.size:=mul_le_mul M B;omega
 have S:¬(n=0∨j.size=0):=by omega
 rw[Array.append_assoc];simp[Builtin.append_,W,K,run_underlying hu,run_underlying X,cR hj,typeInfo,hj,asInt,asIntOf,hw,E,G,hn,C,h1,Q,hold,R,S,zeroValue,hzero,newRow,Question.forced,grownCap]
theorem Ai (hi:Inv D V w) {ty:y_} {s x v:U} {ys:j_} {V':aF} (h:pM P V ts s x= .val v V') (T:VR D s ys) (hx:VR D x yx):
  ∃z w' D',(Builtin.append_ ts ty #[ys,yx]).run P w= .ok z w'/\VR D' v z/\Inv D' V' w'/\fL D V w D' V' w':=by
 unfold pM at h;split at h
 case h_2=>cases h
 rename_i t t2 ht K;split at h
 case h_2=>cases h
 rename_i e k hu hz;split at h
 case h_2=>cases h
 rename_i j zs n hj W;rw[bZ] at h;split at h
 case isFalse=>cases h
 rename_i hb;simp only[bA_,nE_,beq_eq,cH] at hb;obtain⟨B,L,C,M,G⟩:=hb;obtain⟨i,zv,Q,hzero,R⟩:=gF W;rw[hj] at Q;cases Q;have E:zv.cells.size=zs.length:=by have:=(R D).length;simpa using this
 have hts:=kQ (R D) n
 have A:(Builtin.zeroCells zv.cells n).toList=(replicate n zv.cells.toList).flatten:=by
  grind [xM,Builtin.zeroCells]
 rw[<-A] at hts;have X:(eC zs n).length=n*j.size:=by rw[oU,G]
 simp only[VR] at hx;subst hx;split at h
 ·simp only[VR] at T;subst T;unfold grow at h;cases h;obtain⟨cap,u,hr⟩:=pz (w:=w) (ty:=ty) (base:=none) (sLen:=0) (sCap:=0) (olds:=[]) ht hu hj hzero K hz (by simp[Builtin.firstCells]) oM oM B L M C;rw[nA_] at u hr;obtain⟨inv,st,hv⟩:=nh (e:=e) hi (olds:=[]) (news:=(Builtin.zeroCells zv.cells n).toList) (by simpa using hts) X u (E.trans G)
  grind
 ·rename_i b off len c;simp only[VR] at T;obtain⟨l,hl,rfl⟩:=T;rw[bZ] at h;split at h
  ·cases h
  rename_i S;rw[nE_] at S;split at h
  ·rename_i cells e' ro hb;rw[bZ] at h;split at h
   ·rename_i d;simp only[bA_,nE_,cH] at d;obtain⟨d,aa⟩:=d;unfold grow at h;cases h;obtain⟨ys,h1,h2,h3⟩:=hi.piece hb hl off (len*j.size) d
    have hold:(Builtin.firstCells j.size len (.slice (some ⟨l.eK,l.sh+off,none⟩) len c)).run P w.drew= .ok ys.toArray w.drew:=
     run_firstCells_some w.drew j.size len _ len c ys h1 (fun i v hv=>by simpa using h3 i v hv)
    obtain⟨cap,u,hr⟩:=pz (w:=w) (ty:=ty) ht hu hj hzero K hz hold oM oM B L M C
    obtain⟨inv,st,hv⟩:=nh (e:=e) hi (olds:=ys) (news:=(Builtin.zeroCells zv.cells n).toList) (len:=len+n) (cs:=iw (takeN (eP cells off) (len*j.size))<|eC zs n)
     (by rw[eD,ed,eR];exact h2.append hts) (by grind [eD,ed,eR]) u<|E.trans G
    grind
   cases h
  cases h
 cases h
end
variable {xs:Array j_}
section
variable {P:q6} {D:dD} {V:aF} {w:x_}
theorem Gn (hi:Inv D V w) {ty:y_} {s x v:U} {ys:j_} {V':aF} (h:wO P V ts s x= .val v V') (M:VR D s ys) (hx:VR D x yx):
  ∃z w' D',(Builtin.copy_ ts ty #[ys,yx]).run P w= .ok z w'/\VR D' v z/\Inv D' V' w'/\fL D V w D' V' w':=by
 unfold wO at h;cases L:ts[0]? with
 | none=>rw[L] at h;cases h
 | some t=>
 rw[L] at h;dsimp only at h;split at h
 case h_2=>cases h
 rename_i e hu;cases hj:P.info? e with
 | none=>rw[hj] at h;cases h
 | some j=>
 rw[hj] at h;dsimp only at h;split at h
 ·rename_i n news b off len cap B;obtain⟨d,K,A⟩:=qf (P:=P) hi B hx;obtain⟨xs,G,u⟩:=A (Nat.min n len) (Nat.min_le_left _ _);simp only[bZ] at h;split at h
  ·rename_i h0;rw[beq_eq] at h0;cases h;rw[h0,Nat.zero_mul] at G;rw[h0] at u;have Q:xs= []:=by have:=G.length;simpa using this
   subst Q;obtain⟨a,c,rfl⟩:=VR.lD M;have hr:=u w Z;refine⟨.int .i64 0,w,D,?_,by simp only[VR],hi,fL.refl _ _ _⟩;simp[Builtin.copy_,L,run_underlying hu,d,cR hj,h0,hr,goInt,storeCells]
  rename_i h0;rw[beq_eq] at h0;split at h
  ·rename_i cells e' hb;split at h
   ·rename_i R;simp only[bA_,nE_,cH] at R;obtain⟨⟨C,aa⟩,E⟩:=R;cases h;rw[ed] at E C
    have go:∀(l:Loc) (c:Nat),D b=some l->ys= .slice (some ⟨l.eK,l.sh+off,none⟩) len c->
      ∃z w' D',(Builtin.copy_ ts ty #[ys,yx]).run P w= .ok z w'/\VR D' (.int .i64<|Int.ofNat<|Nat.min n len) z/\
       Inv D' (V.setObj b (.row (dy (takeN news (Nat.min n len*j.size)) cells off) e' false)) w'/\fL D V w D' (V.setObj b (.row (dy (takeN news (Nat.min n len*j.size)) cells off) e' false)) w':=by
     intro l c hl S;rw[ed];obtain⟨w',r,inv,st⟩:=jb (P:=P) hi hl hb G C (off:=off) E;refine⟨.int .i64<|Int.ofNat<|Nat.min n len,w',D,?_,by simp only[VR],inv,st⟩;subst S;have hr:=u w Z;simp[Builtin.copy_,L,run_underlying hu,d,cR hj,hr,r,goInt]
    cases cap with
    | known c=>
     grind [VR]
    | least a sz=>
     grind [VR]
    | upto sz=>
     grind [VR]
   cases h
  cases h
 ·rename_i n news B;cases h;obtain⟨d,K,A⟩:=qf (P:=P) hi B hx;obtain⟨xs,G,u⟩:=A 0 (zero_le _);simp only[VR] at M;subst M;refine⟨.int .i64 0,w,D,?_,by simp only[VR],hi,fL.refl _ _ _⟩;have hr:=u w Z;simp[Builtin.copy_,L,run_underlying hu,d,cR hj,hr,goInt]
 cases h
theorem DY (hi:Inv D V w) {ty:y_} {x:U} {ys:j_} {V':aF} (h:vP P V ts x=some V') (B:VR D x ys):
  ∃w',(Builtin.clear_ ts ty #[ys]).run P w= .ok (.tuple #[]) w'/\Inv D V' w'/\fL D V w D V' w':=by
 unfold vP at h;cases C:ts[0]? with
 | none=>rw[C] at h;cases h
 | some t=>
 rw[C] at h;dsimp only at h;cases hu:P.underlying t with
 | none=>rw[hu] at h;cases h
 | some d=>
 rw[hu] at h;cases d with
 | slice e=>
  dsimp only at h;cases x with
  | ax=>
   cases h;simp only[VR] at B;subst B;exact⟨w,by simp[Builtin.clear_,C,run_underlying hu],hi,fL.refl _ _ _⟩
  | slice b off len cap=>
   dsimp only at h;rw[bZ] at h;split at h
   ·rename_i h0;have:=nB h0;subst this;cases h;obtain⟨a,c,rfl⟩:=VR.lD B;exact⟨w,by simp[Builtin.clear_,C,run_underlying hu],hi,fL.refl _ _ _⟩
   rename_i h0;rw[beq_eq] at h0;cases G:(fH P e).bind dg with
   | none=>rw[G] at h;cases h
   | some zs=>
   rw[G] at h;cases hb:V.m.get b with
   | none=>rw[hb] at h;cases h
   | some o=>
   rw[hb] at h;cases o with
   | row cells e' ro=>
    cases ro with
    | true=>cases h
    | false=>
     dsimp only at h;rw[bZ] at h;split at h
     ·rename_i L;simp only[bA_,nE_,cH] at L;obtain⟨⟨z,aa⟩,A⟩:=L;cases h;obtain⟨i,zv,K,hzero,E⟩:=gF G;have hts:=kQ (E D) len;have ab:zv.cells.size=zs.length:=by have:=(E D).length;simpa using this
      have u:(Builtin.zeroCells zv.cells len).toList=(replicate len zv.cells.toList).flatten:=by
       grind [xM,Builtin.zeroCells]
      have go:∀(l:Loc) (c:Nat),D b=some l->ys= .slice (some ⟨l.eK,l.sh+off,none⟩) len c->
        ∃w',(Builtin.clear_ ts ty #[ys]).run P w= .ok (.tuple #[]) w'/\Inv D (V.setObj b (.row (dy (eC zs len) cells off) e' false)) w'/\fL D V w D (V.setObj b (.row (dy (eC zs len) cells off) e' false)) w':=by
       intro l c hl M;subst M;obtain⟨w',r,inv,st⟩:=jb (P:=P) hi hl hb hts z A;refine⟨w',?_,inv,st⟩;cases len with
       | zero=>exact absurd Z h0
       | succ n=>simp[Builtin.clear_,C,run_underlying hu,zeroValue,typeInfo,K,hzero,u,r]
      cases cap with
      | known c=>
       simp only[VR] at B
       grind
      | upto sz=>
       simp only[VR] at B
       grind
      | least a sz=>
       simp only[VR] at B
       grind
     cases h
   | _=>cases h
  | _=>cases h
 | _=>cases h
theorem GK {g:Nat} {args:Array j_} (h:l6 P g=true):(callFunc g args).run P w= .ok (.enter g args) w:=by
 unfold l6 at h;cases hf:P.funcs[g]? with
 | none=>rw[hf] at h;cases h
 | some fn=>
  rw[hf] at h;simp only[bA_,Bool.not_eq_true'] at h;obtain⟨h1,z⟩:=h;have h3:fn.body.isNone=false:=by simp_all
  have d:¬fn.name= "runtime.NumGoroutine" :=by simpa using z
  have u:¬fn.body=none:=by grind
  simp[callFunc,hf,d,u]
inductive Ag (P:q6) (D:dD) (V:aF) (w:x_):HR->Result Next->Prop
 | val {v:U} {V':aF} {x:j_} {w':x_} {D':dD} (hv:VR D' v x) (hi:Inv D' V' w') (st:fL D V w D' V' w'):Ag P D V w (.val v V') (.ok (.value x) w')
 | skip {V':aF} {w':x_} {D':dD} (hi:Inv D' V' w') (st:fL D V w D' V' w'):Ag P D V w (.skip V') (.ok .skip w')
 | enter {f:Nat} {args:List U} {xs:Array j_} (hv:dN D args xs.toList):Ag P D V w (.enter f args V) (.ok (.enter f xs) w)
 | round {l:Pos} {args:List U} {xs:Array j_} {loc:Loc} {r:Result Next} (hv:dN D args xs.toList) (hl:D l=some loc) (hr:r=(Instr.yield loc.eK xs).run P w):Ag P D V w (.round l args V) r
 | nt {v:U} {x:j_} (hv:VR D v x):Ag P D V w (.nt v V) (.halt (.panic x) w)
def UW (P:q6) (g:Nat):Prop:=∃(fn:Func) (ts tr e:y_) (j:TypeInfo),P.funcs[g]? =some fn∧(fn.name == "runtime.NumGoroutine")=false∧fn.body.isNone=true∧Extern.findNext fn=none∧
 Extern.find fn=some (Extern.SlicesOverlaps.overlaps #[ts,ts] #[tr])/\P.underlying ts=some (.slice e)/\P.info? e=some j
def Wk (P:q6) (g:Nat):Prop:=∃(fn:Func),P.funcs[g]? =some fn∧(fn.name == "runtime.NumGoroutine")=false∧fn.body.isNone=true∧Extern.findNext fn=none∧Extern.find fn=some Extern.AbiNoEscape.same
def vI (P:q6) (g:Nat):Prop:=(isNe P g=false/\UW P g)∨(isNe P g=true/\Wk P g)
theorem qe (p:Pos):kN p p=true:=Nat.beq_refl p
theorem VR.xi {b:Pos} {off len:Nat} {cap:ou} {x:j_} (d:lW cap=true) (h:VR D (.slice b off len cap) x):∃l c,D b=some l/\x= .slice (some ⟨l.eK,l.sh+off,none⟩) len c:=by
 cases cap with
 | upto sz=>simp[lW] at d
 | known c=>simp only[VR] at h;grind
 | least a sz=>simp only[VR] at h;grind
theorem zx (hi:Inv D V w) {g:Nat} {args:List U} {v:U} (R:UW P g) (h:pk V args=some v) (hx:dN D args xs.toList):∃x,(callFunc g xs).run P w= .ok (.value x) w/\VR D v x:=by
 obtain⟨fn,ts,tr,e,j,g1,S,T,W,X,g6,g7⟩:=R;unfold pk at h;split at h
 ·rename_i b off n cap b' off' n' cap';split at h
  ·rename_i cells e1 cells' e2 hb d;cases C:((bif kN b b' then false else true) && (lW cap && (lW cap' && ble 1 (dK cells')))) with
   | false=>rw[C] at h;cases h
   | true=>
    rw[C] at h;simp only[cond_true,oJ_] at h;subst h;simp only[bA_,nE_,cH] at C;obtain⟨u,E,G,hlen⟩:=C;have z:b≠b':=fun e=>by subst e;rw[qe] at u;simp at u
    obtain⟨x1,r,e',h1,h2⟩:=hx.cons_inv;obtain⟨x2,r',rfl,h3,h4⟩:=h2.cons_inv;have:=h4.fR;subst this;obtain⟨l,c,hl,rfl⟩:=VR.xi E h1;obtain⟨l',c',A,rfl⟩:=VR.xi G h3;have K:xs= #[.slice (some ⟨l.eK,l.sh+off,none⟩) n c,.slice (some ⟨l'.eK,l'.sh+off',none⟩) n' c']:=by grind
    obtain⟨k,fr,L,k2,k3,k4,Q⟩:=hi.row hb hl;obtain⟨k',fr',M,aa,ab,ac,am⟩:=hi.row d A
    have B:l.eK≠l'.eK:=fun e=>by
     have:=(hi.inj b b' _ _ l l' hb d hl A e z).1;cases this
    refine⟨.bool false,?_,by simp only[VR]⟩;rw[run_callFunc_extern g1 S T W X,K]
    rw[Lib.run_overlaps_apart w ts tr e g6 j.size (fun w=>cR g7) ⟨l.eK,l.sh+off,none⟩ ⟨l'.eK,l'.sh+off',none⟩ n c n' c' B e1 e2 k.size k'.size
     (by simp[World.shape?,L]) (by simp[World.shape?,M]) oM (frozen?_of_heap L _<|Q Z _ oM) (frozen?_of_heap L _<|Q Z _ oM)]
    rfl
  cases h
 cases h
theorem Lg {ov:Nat->Bool} (G:∀g,ov g=true->vI P g) (hi:Inv D V w) {g:U} {args:List U} {y:j_} {r:HR} (h:AE P ov V g args=r) (u:∀n,r≠ .err n) (B:VR D g y) (hx:dN D args xs.toList):
  Ag P D V w r ((do let d <-Deferred.ofValue y xs;invoke d.target d.args:Sem Next).run P w):=by
 subst h;unfold AE at u⊢;cases g with
 | func f fi ca=>
  dsimp only at u⊢;cases E:l6 P f with
  | false=>
   rw[E] at u;simp only[cond_false] at u⊢;cases L:ov f with
   | false=>simp_all
   | true=>
    rw[L] at u;simp only[cond_true] at u⊢;cases hn:isNe P f with
    | true=>
     rw[hn] at u;simp only[cond_true] at u⊢;simp only[VR] at B;obtain⟨fi',ca',rfl,z,A⟩:=B;have C:dN D (iw fi<|iw args ca) (fi'++xs++ca').toList:=by rw[eD,eD];simpa using z.append (hx.append A)
     generalize iw fi (iw args ca)=l at u C⊢;cases l with
     | nil=>simp_all
     | cons v r=>
      cases r with
      | cons _ _=>simp_all
      | nil=>
       dsimp only;obtain⟨x,r',e,h1,S⟩:=C.cons_inv;have:=S.fR;subst this;have M:fi'++xs++ca'= #[x]:=by simp_all
       rcases G f L with ⟨h',_⟩ | ⟨_,fn,g1,T,W,X,g5⟩
       ·simp_all
       have Q:(callFunc f (fi'++xs++ca')).run P w= .ok (.value x) w:=by
        rw[run_callFunc_extern g1 T W X g5,M,Lib.run_noEscape];rfl
       have:(do let d <-Deferred.ofValue (.func (.func f) fi' ca') xs;invoke d.target d.args:Sem Next).run P w= .ok (.value x) w:=by
        grind [Deferred.ofValue,invoke]
       rw[this];exact .val h1 hi<|fL.refl D V w
    | false=>
    rw[hn] at u;simp only[cond_false] at u⊢
    have K:UW P f:=by
     rcases G f L with ⟨_,h'⟩ | ⟨h',_⟩
     ·exact h'
     simp_all
    cases hq:pk V (iw fi<|iw args ca) with
    | none=>simp_all
    | some v=>
     simp only[VR] at B;obtain⟨fi',ca',rfl,z,A⟩:=B;obtain⟨x,Q,R⟩:=zx (xs:=fi'++xs++ca') hi K hq (by rw[eD,eD];simpa using z.append (hx.append A))
     have:(do let d <-Deferred.ofValue (.func (.func f) fi' ca') xs;invoke d.target d.args:Sem Next).run P w= .ok (.value x) w:=by
      grind [Deferred.ofValue,invoke]
     rw[this];exact .val R hi<|fL.refl D V w
  | true=>
   rw[E] at u;simp only[VR] at B;obtain⟨fi',ca',rfl,z,A⟩:=B;simp only[cond_true]
   have:(do let d <-Deferred.ofValue (.func (.func f) fi' ca') xs;invoke d.target d.args:Sem Next).run P w= .ok (.enter f (fi'++xs++ca')) w:=by
    simp[Deferred.ofValue,invoke,GK E]
   rw[this,eD,eD];exact .enter (by simpa using z.append (hx.append A))
 | yield l=>
  dsimp only at u⊢;simp only[VR] at B;obtain⟨loc,hl,rfl⟩:=B;exact .round hx hl (by simp[Deferred.ofValue,invoke])
 | _=>simp_all
end
variable {es:List eW} {clock:Nat}
section
variable {P:q6} {D:dD} {V:aF} {w:x_}
def nv:TypeDesc->Bool
 | .int _ | .string | .bool=>true
 | _=>false
def I5 (P:q6) (u:y_):Prop:=(∃d,P.underlying u=some d/\nv d=true)∨(∃gs,P.underlying u=some (.struct gs)/\∀g∈gs.toList,∃d,P.underlying g.type=some d/\nv d=true)∨∃m e,P.underlying u=some (.array m e)/\tQ P e=true
theorem rk {t:y_} (h:plainKey P t=true):(∃d,P.underlying t=some d/\nv d=true)∨∃fs,P.underlying t=some (.struct fs)/\∀f∈fs.toList,I5 P f.type:=by
 unfold plainKey at h;split at h
 ·rename_i k hu;exact .inl ⟨_,hu,Z⟩
 ·rename_i hu;exact .inl ⟨_,hu,Z⟩
 ·rename_i hu;exact .inl ⟨_,hu,Z⟩
 ·rename_i fs hu;refine .inr ⟨fs,hu,fun f hf=>?_⟩;rw[aE_] at h;have:=h f hf;split at this
  ·rename_i k u;exact .inl ⟨_,u,Z⟩
  ·rename_i u;exact .inl ⟨_,u,Z⟩
  ·rename_i u;exact .inl ⟨_,u,Z⟩
  ·rename_i gs u;refine .inr (.inl ⟨gs,u,fun g A=>?_⟩);rw[aE_] at this;have:=this g A;split at this
   ·rename_i k z;exact⟨_,z,Z⟩
   ·rename_i z;exact⟨_,z,Z⟩
   ·rename_i z;exact⟨_,z,Z⟩
   cases this
  ·rename_i m e u;exact .inr (.inr ⟨m,e,u,this⟩)
  cases this
 cases h
theorem kC {t:y_} {d:TypeDesc} (hu:P.underlying t=some d) (u:nv d=true) (em:Bool) (n:Nat) (a:j_):(Instr.checkKey em (n+1) t a).run P w= .ok () w:=by
 simp only[Instr.checkKey,sB_,run_underlying hu,rA];cases d<;>first | (simp[nv] at u;done) | rfl
theorem s5 {t:y_} (hu:P.underlying t=some (.struct fs)) (em:Bool) (n:Nat)
  (h:∀f∈fs.toList,∃y,(part f.type ys f.offset).run P w= .ok y w/\(Instr.checkKey em (n+1) f.type y).run P w= .ok () w):(Instr.checkKey em (n+1+1) t (.agg ys)).run P w= .ok () w:=by
 rw[Instr.checkKey];simp only[sB_,run_underlying hu,rA];rw[<-Array.forIn_toList];clear hu;generalize fs.toList=l at*;induction l with
 | nil=>simp
 | cons f l ih=>
  obtain⟨y,aa,ab⟩:=h f (by simp)
  simp_all
theorem Aj {t e:y_} {m:Nat} {cs:Array j_} {i:TypeInfo} {k:w0} (hu:P.underlying t=some (.array m e)) (he:P.underlying e=some (.int k)) (hi:P.info? e=some i) (d:i.size=1) (hl:m<=cs.size) (em:Bool) (n:Nat):
  (Instr.checkKey em (n+1+1) t (.agg cs)).run P w= .ok () w:=by
 rw[Instr.checkKey];simp only[sB_,run_underlying hu,rA];simp only[Std.Legacy.Range.forIn_eq_forIn_range',Std.Legacy.Range.size,Nat.sub_zero,Nat.add_one_sub_one,Nat.div_one]
 have key:∀(l:Nat) (s:Nat),s+l<=cs.size->(forIn (range' s l) PUnit.unit fun i (_:PUnit)=>(do
   let z <-sizeOf e
   let v <-part e cs (i*z)
   Instr.checkKey em (n+1) e v
   pure (ForInStep.yield PUnit.unit):Sem (ForInStep PUnit))).run P w= .ok PUnit.unit w:=by
  intro l;induction l with
  | zero=>intro s _;simp
  | succ l ih=>
   intro s aa;have hv:cs[s]? =some cs[s]:=aG_ oM
   have p:(part e cs (s*1)).run P w= .ok cs[s] w:=by
    rw[Nat.mul_one];simp only[part,sB_,fI he,DF,rA,zi_,if_false,hv,sP_]
   simp only[List.range'_succ,List.forIn_cons,sB_,cR hi,d,p,rA,kC he Z,sP_]
   grind
 simp_all
theorem qv {u:y_} {d:TypeDesc} (hu:P.underlying u=some d) (C:nv d=true) {xs:List U} (z:dN D xs ys.toList) {off:Nat} (E:(nth xs off).isSome=true):∃y,(part u ys off).run P w= .ok y w:=by
 obtain⟨v,hv⟩:=ze_.1 E;rw[fN] at hv;obtain⟨y,hy,_⟩:=z.get hv;have A:ys[off]? =some y:=by simp_all
 have B:DF d=false:=by cases d<;>first | rfl | (simp[nv] at C)
 exact⟨y,by simp only[part,sB_,fI hu,B,rA,zi_,if_false,A,sP_]⟩
theorem mY {t:y_} {k:U} {a:j_} (hp:plainKey P t=true) (G:jv P t k=true) (hk:VR D k a) (em:Bool):(Instr.checkKey em 10000 t a).run P w= .ok () w:=by
 rcases rk hp with ⟨d,hu,W⟩ | ⟨fs,hu,L⟩
 ·exact kC hu W em 9999 a
 unfold jv at G;rw[hu] at G;cases k<;>(try (simp at G;done));rename_i xs;dsimp only at G;simp only[VR] at hk;obtain⟨ys,rfl,B⟩:=hk;refine s5 hu em 9998 fun f hf=>?_
 rw[aE_] at G;have hsf:=G f hf;rcases L f hf with ⟨d,u,C⟩ | ⟨gs,u,M⟩ | ⟨m,e,u,Q⟩
 ·have:(nth xs f.offset).isSome=true:=by
   rw[u] at hsf;cases d<;>first | exact hsf | (simp[nv] at C)
  obtain⟨y,R⟩:=qv (P:=P) (w:=w) u C B this;exact⟨y,R,kC u C em 9998 y⟩
 ·rw[u] at hsf;dsimp only at hsf;split at hsf
  ·rename_i n E;obtain⟨c,r,v⟩:=iu (P:=P) (w:=w) E B (off:=f.offset);refine⟨.agg c,r,s5 u em 9997 fun g T=>?_⟩;rw[aE_] at hsf;obtain⟨d,z,A⟩:=M g T;obtain⟨y,R⟩:=qv (P:=P) (w:=w) z A v (hsf g T);exact⟨y,R,kC z A em 9997 y⟩
  cases hsf
 rw[u] at hsf;dsimp only at hsf;split at hsf
 ·rename_i n E;rw[bA_,beq_eq,beq_eq,cH] at hsf;obtain⟨k,inf,he,K,S⟩:=ze Q;obtain⟨c,r,v⟩:=iu (P:=P) (w:=w) E B (off:=f.offset);have hcl:=v.length;exact⟨.agg c,r,Aj u he K S (by rw[hsf.2] at hcl;have:c.toList.length=c.size:=rfl;omega) em 9997⟩
 cases hsf
theorem JL {t:y_} {d:TypeDesc} (hu:P.underlying t=some d) (hd:nv d=true) {x y:U} {a c:j_} {b:Bool} (h:lf P t x y=some b) (hx:VR D x a) (u:VR D y c):Instr.sameNow d a c=some b:=by
 unfold lf at h;rw[hu] at h;split at h
 ·rename_i z A B q j m k n e;cases e;cases hk:uH j k with
  | false=>rw[hk] at h;cases h
  | true=>
   rw[hk] at h;have:=qS hk;subst this;simp only[VR] at hx u;subst hx;subst u;simp only[cond_true,oJ_] at h;rw[<-h,eB];simp only[Instr.sameNow,if_true,oJ_]
   grind
 ·rename_i z A B s s' e;cases e;simp only[VR] at hx u;obtain⟨p,rfl,hp⟩:=hx;obtain⟨q,rfl,hq⟩:=u
  grind [Instr.sameNow,pF,beq_toListBytes]
 ·rename_i z A B s s' e;cases e;simp only[VR] at hx u;subst hx;subst u;cases h;simp only[Instr.sameNow,oJ_,qO]
 ·grind [nv]
 cases h
theorem GO {t:y_} (hu:P.underlying t=some (.struct fs)) {x y:U} {a c:j_} {b:Bool} (h:lf P t x y=some b) (hx:VR D x a) (d:VR D y c):(Op.equal t a c).run P w= .ok b w:=by
 unfold lf at h;rw[hu] at h;split at h
 ·rename_i e;cases e
 ·rename_i e;cases e
 ·rename_i e;cases e
 ·exact(qU (P:=P) (w:=w) h hx d .eql (.const .nilFunc) (.const .nilFunc)).2
 cases h
def F1 (D:dD):Option (Nat×U)->Option (Nat×j_)->Prop
 | none,none=>True
 | some (i,v),some (j,y)=>i=j/\VR D v y
 | _,_=>False
theorem s9 {t:y_} {d:TypeDesc} (hu:P.underlying t=some d) (u:nv d=true) {k:U} {a:j_} (hk:VR D k a):∀(es:List eW) (ys:List MapEntry) (i:Nat) (r:Option (Nat×U)),kT D es ys->nX P t k es i=some r->
  ∃r',Instr.findNow d a ys i=some r'/\F1 D r r'
 | [],ys,i,r,he,h=>by
  have:ys= []:=he;subst this;have h':some none=some r:=h;cases h';exact⟨none,Z,trivial⟩
 | e::es,ys,i,r,he,h=>by
  obtain⟨y,rest,rfl,h1,z,h3,h4⟩:=he
  have h':(match lf P t k e.key with
   | some true=>some (some (i,e.val))
   | some false=>nX P t k es (Nat.succ i)
   | none=>none)=some r:=h
  cases hq:lf P t k e.key with
  | none=>rw[hq] at h';cases h'
  | some b=>
   rw[hq] at h';have hs:=JL hu u hq hk h1;cases b with
   | true=>cases h';exact⟨some (i,y.val),by simp[Instr.findNow,hs],Z,z⟩
   | false=>
    obtain⟨r',g1,A⟩:=s9 hu u hk es rest (i+1) r h4 h';exact⟨r',by simp[Instr.findNow,hs,g1],A⟩
theorem s8 {t:y_} {fs:Array Field} (hu:P.underlying t=some (.struct fs)) {k:U} {a:j_} (hk:VR D k a):∀(es:List eW) (ys:List MapEntry) (i:Nat) (r:Option (Nat×U)),kT D es ys->nX P t k es i=some r->
  ∃r',(Instr.findAsking t a ys i).run P w= .ok r' w/\F1 D r r'
 | [],ys,i,r,he,h=>by
  have:ys= []:=he;subst this;have h':some none=some r:=h;cases h';exact⟨none,Z,trivial⟩
 | e::es,ys,i,r,he,h=>by
  obtain⟨y,rest,rfl,h1,d,h3,h4⟩:=he
  have h':(match lf P t k e.key with
   | some true=>some (some (i,e.val))
   | some false=>nX P t k es (Nat.succ i)
   | none=>none)=some r:=h
  cases hq:lf P t k e.key with
  | none=>simp_all
  | some b=>
   rw[hq] at h';have hs:=GO (w:=w) hu hq hk h1;cases b with
   | true=>cases h';exact⟨some (i,y.val),by simp[Instr.findAsking,hs],Z,d⟩
   | false=>
    obtain⟨r',g1,u⟩:=s8 hu hk es rest (i+1) r h4 h';exact⟨r',by simp[Instr.findAsking,hs,g1],u⟩
theorem na {t:y_} (hp:plainKey P t=true) {k:U} {a:j_} (hk:VR D k a) {ys:List MapEntry} {r:Option (Nat×U)} (he:kT D es ys) (h:nX P t k es 0=some r):
  ∃r',(Instr.findKey t a ys).run P w= .ok r' w/\F1 D r r':=by
 rcases rk hp with ⟨d,hu,z⟩ | ⟨fs,hu,aa⟩
 ·obtain⟨r',h1,u⟩:=s9 hu z hk es ys 0 r he h;exact⟨r',by simp[Instr.findKey,run_underlying hu,h1],u⟩
 cases hn:Instr.findNow (.struct fs) a ys 0 with
 | none=>
  obtain⟨r',h1,u⟩:=s8 (w:=w) hu hk es ys 0 r he h;exact⟨r',by simp[Instr.findKey,run_underlying hu,hn,h1],u⟩
 | some r0=>
  cases es with
  | nil=>
   have:ys= []:=he;subst this;have h':some none=some r:=h;cases h';exact⟨none,by simp[Instr.findKey,run_underlying hu,Instr.findNow],trivial⟩
  | cons e es=>
   obtain⟨y,rest,rfl,h1,_⟩:=he
   grind [Instr.sameNow,Instr.findNow]
theorem kT.length:∀{es:List eW} {ys:List MapEntry},kT D es ys->ys.length=es.length
 | [],ys,h=>by have:ys= []:=h;rw[this];rfl
 | e::es,ys,h=>by obtain⟨y,r,rfl,_,_,_,h4⟩:=h;simp[h4.length]
theorem kT.get:∀{es:List eW} {ys:List MapEntry},kT D es ys->∀{i:Nat} {e:eW},es[i]? =some e->∃y,ys[i]? =some y/\VR D e.key y.key/\VR D e.val y.val/\y.born=e.born
 | [],ys,h,i,e,he=>by simp at he
 | e::es,ys,h,0,e',he=>by
  obtain⟨y,r,rfl,h1,d,h3,h4⟩:=h
  simp_all
 | e::es,ys,h,i+1,e',he=>by
  obtain⟨y,r,rfl,h1,d,h3,h4⟩:=h;simp at he;simpa using h4.get he
theorem kT.append:∀{es fs:List eW} {ys zs:List MapEntry},kT D es ys->kT D fs zs->kT D (es++fs) (ys++zs)
 | [],fs,ys,zs,h,h'=>by have:ys= []:=h;subst this;exact h'
 | e::es,fs,ys,zs,h,h'=>by
  obtain⟨y,r,rfl,h1,d,h3,h4⟩:=h;exact⟨y,r++zs,Z,h1,d,h3,h4.append h'⟩
theorem kT.set:∀{es:List eW} {ys:List MapEntry},kT D es ys->∀(i:Nat) {e:eW} {y:MapEntry},VR D e.key y.key->VR D e.val y.val->y.born=e.born->kT D (es.set i e) (ys.set i y)
 | [],ys,h,i,_,_,_,_,_=>by have:ys= []:=h;simp_all
 | e::es,ys,h,0,_,_,d,k2,u=>by
  obtain⟨y,r,rfl,h1,z,h3,h4⟩:=h;exact⟨_,r,Z,d,k2,u,h4⟩
 | e::es,ys,h,i+1,_,_,d,k2,u=>by
  obtain⟨y,r,rfl,h1,z,h3,h4⟩:=h;exact⟨y,_,Z,h1,z,h3,h4.set i d k2 u⟩
theorem kT.erase:∀{es:List eW} {ys:List MapEntry},kT D es ys->∀(i:Nat),kT D (es.eraseIdx i) (ys.eraseIdx i)
 | [],ys,h,i=>by have:ys= []:=h;simp_all
 | e::es,ys,h,0=>by obtain⟨y,r,rfl,h1,d,h3,h4⟩:=h;exact h4
 | e::es,ys,h,i+1=>by
  obtain⟨y,r,rfl,h1,d,h3,h4⟩:=h;exact⟨y,_,Z,h1,d,h3,h4.erase i⟩
theorem Inv.zl (hi:Inv D V w) {b:Pos} {l:Loc} (d:V.m.get b=some (.map es clock)) (hl:D b=some l):∃es',w.heap[l.eK]? =some (.map es' clock)/\kT D es es'.toList:=by
 obtain⟨x,hx,es',rfl,h2⟩:=hi.obj b _ l d hl
 simp_all
theorem run_getObj_map {r:Nat} {es:Array MapEntry} (h:w.heap[r]? =some (.map es clock)):(getObj r).run P w= .ok (.map es clock) w:=by
 simp[getObj,Sem.run,h]
theorem CK (hi:Inv D V w) {ev:q_->Option U} {f:q_->j_} {t:y_} {i:q_} {ok:Bool} {v:U} (hx:∀u,ev x=some u->VR D u (f x)) (hk:∀u,ev i=some u->VR D u (f i))
  (h:ie P ev V (.lookup t x i ok)=some v):∃z,(Instr.lookup t (f x) (f i) ok).run P w= .ok z w/\VR D v z:=by
 simp only[ie] at h;split at h
 ·rename_i kt et k hu E;simp only[bZ] at h;split at h
  ·rename_i A;rw[bA_] at A;obtain⟨hp,G⟩:=A;have hkv:=hk _ E
   have main:∀(es:List eW) (ys:Array MapEntry),kT D es ys.toList->
     (match nX P kt k es 0,fH P et with
      | some (some (_,v)),some _=>some (if ok=true then U.tuple [v,.bool true] else v)
      | some none,some z=>some (if ok=true then U.tuple [z,.bool false] else z)
      | _,_=>none)=some v->
     (Instr.checkKey ys.isEmpty 10000 kt<|f i).run P w= .ok () w/\∃r',(Instr.findKey kt (f i) ys.toList).run P w= .ok r' w/\
      ((∃j y,r'=some (j,y)/\VR D v (if ok=true then .tuple #[y,.bool true] else y))∨
       (r'=none/\∃xz,(zeroValue et).run P w= .ok xz w/\VR D v (if ok=true then .tuple #[xz,.bool false] else xz))):=by
    intro es ys he hh;have hck:=mY (w:=w) hp G hkv ys.isEmpty;cases hf:nX P kt k es 0 with
    | none=>simp_all
    | some r=>
     obtain⟨r',g1,K⟩:=na (w:=w) hp hkv he hf;cases d:fH P et with
     | none=>simp_all
     | some zz=>
      rw[hf,d] at hh;obtain⟨iz,xz,L,hzero,B⟩:=rS d;cases r with
      | some p=>
       obtain⟨j,u⟩:=p;cases r' with
       | none=>exact K.elim
       | some q=>
        obtain⟨j',y⟩:=q;obtain⟨_,Q⟩:=K;refine⟨hck,_,g1,.inl ⟨j',y,Z,?_⟩⟩;cases hh;cases ok with
        | true=>
         simp only[if_true,VR];exact⟨_,Z,dN.cons Q<|dN.cons (by simp only[VR]) dN.nil⟩
        | false=>simpa using Q
      | none=>
       cases r' with
       | some q=>exact K.elim
       | none=>
        have M:(zeroValue et).run P w= .ok xz w:=by simp[zeroValue,typeInfo,L,hzero]
        refine⟨hck,_,g1,.inr ⟨Z,xz,M,?_⟩⟩;cases hh;cases ok with
        | true=>
         simp only[if_true,VR];exact⟨_,Z,dN.cons (B D)<|dN.cons (by simp only[VR]) dN.nil⟩
        | false=>simpa using B D
   cases C:ev x with
   | none=>simp_all
   | some m=>
    rw[C] at h;have hmv:=hx m C;cases m with
    | iM=>
     simp only[VR] at hmv;dsimp only at h;obtain⟨hck,r',g1,hr⟩:=main [] #[] (by simp[kT]) h;rcases hr with ⟨j,y,rfl,hr⟩ | ⟨rfl,xz,d,hr⟩
     ·exact⟨_,by rw[hmv];simp only[Instr.lookup,sB_,run_underlying hu,rA,sP_,hck,g1],hr⟩
     exact⟨_,by rw[hmv];simp only[Instr.lookup,sB_,run_underlying hu,rA,sP_,hck,g1,d],hr⟩
    | map b=>
     simp only[VR] at hmv;obtain⟨l,hl,hf⟩:=hmv;dsimp only at h;cases hb:V.m.get b with
     | none=>rw[hb] at h;cases h
     | some ob=>
      rw[hb] at h;cases ob with
      | map es clock=>
       dsimp only at h;obtain⟨ys,hh,he⟩:=hi.zl hb hl;obtain⟨hck,r',g1,hr⟩:=main es ys he h;rcases hr with ⟨j,y,rfl,hr⟩ | ⟨rfl,xz,d,hr⟩
       ·exact⟨_,by rw[hf];simp only[Instr.lookup,sB_,run_underlying hu,rA,sP_,run_getObj_map hh,hck,g1],hr⟩
       exact⟨_,by rw[hf];simp only[Instr.lookup,sB_,run_underlying hu,rA,sP_,run_getObj_map hh,hck,g1,d],hr⟩
      | _=>cases h
    | _=>cases h
  cases h
 cases h
theorem zQ (hi:Inv D V w) {ev:q_->Option U} {f:q_->j_} {o:z_} {v:U} (B:ER D ev f o.op) (h:ie P ev V o.op=some v):
  ∃x,(execOp f o).run P w= .ok (.value x) w/\VR D v x:=by
 cases C:o.op with
 | load t x=>
  rw[C] at h B;simp only[ie] at h;cases hx:ev x with
  | none=>rw[hx] at h;cases h
  | some u=>
   rw[hx] at h;have hvx:=B x (by simp[Op.operands]) u hx;cases u with
   | ptr b off=>
    simp only at h;cases G:V.m.get b with
    | none=>rw[G] at h;cases h
    | some ob=>
     rw[G] at h;cases ob with
     | row cells e ro=>
      simp only[VR] at hvx;obtain⟨l,hl,E⟩:=hvx;obtain⟨y,K,hr⟩:=oE (P:=P) hi G hl h;refine⟨y,?_,hr⟩;simp[execOp,C,Instr.loadAt,E,Instr.sureAddr,K]
     | own cells e=>
      simp only[VR] at hvx;obtain⟨l,hl,E⟩:=hvx;obtain⟨_,L,_⟩:=hi.own G hl;obtain⟨y,K,hr⟩:=oE (P:=P) L (aF.ng _ _ _) hl h;refine⟨y,?_,hr⟩;simp[execOp,C,Instr.loadAt,E,Instr.sureAddr,K]
     | _=>cases h
   | _=>cases h
 | lookup t x i ok=>
  rw[C] at h B;obtain⟨z,h1,h2⟩:=CK (P:=P) hi (f:=f) (B x (by simp[Op.operands])) (B i (by simp[Op.operands])) h
  grind [execOp,sB_,rA,sP_]
 | call c=>
  rw[C] at h B;simp only[ie] at h;split at h
  ·rename_i A;split at h
   ·rename_i u1 u2 t x e1 e2;have d:c.args= #[x]:=by grind
    split at h
    ·rename_i M Q kt et b hu hx;have hv:=B x (by simp[Op.operands,Call.operands,A,d]) _ hx;simp only[VR] at hv;obtain⟨l,hl,hf⟩:=hv;split at h
     ·rename_i es clock hb;cases h;obtain⟨ys,hh,he⟩:=hi.zl hb hl;refine⟨.int .i64<|Int.ofNat<|dK es,?_,by simp only[VR]⟩;have hlen:ys.size=es.length:=by have:=he.length;simpa using this
      simp[execOp,C,resolve,A,d,invoke,builtin,Builtin.len_,e1,run_underlying hu,hf,run_getObj_map hh,goInt,cH,hlen]
     cases h
    ·rename_i M Q kt et hu hx;cases h;have hv:=B x (by simp[Op.operands,Call.operands,A,d]) _ hx;simp only[VR] at hv;refine⟨.int .i64 0,?_,by simp only[VR]⟩;simp[execOp,C,resolve,A,d,invoke,builtin,Builtin.len_,e1,run_underlying hu,hv,goInt]
    cases h
   cases h
  cases h
 | _=>rw[C] at h;simp[ie] at h
end
section
variable {P:q6} {D:dD} {V:aF} {w:x_}
theorem DQ (hi:Inv D V w) {src dst:y_} {x v:U} {y:j_} {V':aF} (h:mW P V src dst x= .val v V') (hx:VR D x y):
  ∃z w' D',(convert src dst y).run P w= .ok z w'/\VR D' v z/\Inv D' V' w'/\fL D V w D' V' w':=by
 unfold mW at h;split at h
 ·rename_i e s L M;split at h
  ·rename_i he;rw[bZ] at h;split at h
   ·rename_i ab;cases h;simp only[VR] at hx;obtain⟨bs,rfl,d⟩:=hx;have A:bs.size<=grownCap w bs.size 0 e:=grownCap_ge _ _ _ _
    have C:(Lib.bytesCells w e bs).size=grownCap w bs.size 0 e:=by
     unfold Lib.bytesCells
     simp_all
    have hlen:dK s=bs.size:=ki d;have aa:(Ap (fun c=>U.int .u8 (Int.ofNat c)) s).length=bs.size:=by rw[mG,lM_,<-cH,hlen]
    have Q:iD D ⟨w.heap.size,0,grownCap w bs.size 0 e⟩ (.row (Ap (fun c=>U.int .u8 (Int.ofNat c)) s) e true) (.cells (Lib.bytesCells w e bs) e ((Lib.bytesCells w e bs).size,(Lib.bytesCells w e bs).size+1)):=by
     refine⟨_,_,Z,by simp[C],by simp_all,fun i v hv=>?_,fun h=>by cases h⟩;rw[mG,gM_] at hv;cases B:s[i]? with
     | none=>simp_all
     | some m=>
      rw[B] at hv;cases hv;have u:(bs.data.toList.map UInt8.toNat)[i]? =some m:=by unfold iQ at d;rw[d];exact B
      rw[gM_] at u;cases hq:bs.data.toList[i]? with
      | none=>simp_all
      | some b=>
       rw[hq] at u;cases u;have E:bs.data[i]? =some b:=by simp_all
       have ac:i<bs.data.size:=(aS_.1 E).1;refine⟨.int .u8 b.toNat,?_,by simp only[VR];rfl⟩;unfold Lib.bytesCells
       grind
    have hi1:=hi.drew;obtain⟨G,K⟩:=hi1.alloc (l:=⟨w.heap.size,0,grownCap w bs.size 0 e⟩) (x:=.cells (Lib.bytesCells w e bs) e ((Lib.bytesCells w e bs).size,(Lib.bytesCells w e bs).size+1)) Z Q
    have hw:(w.drew.alloc (.cells (Lib.bytesCells w e bs) e ((Lib.bytesCells w e bs).size,(Lib.bytesCells w e bs).size+1)))=Lib.bytesWorld w e bs:=by
     unfold Lib.bytesWorld World.freeze;rw[if_neg oM]
     have:∀(h:Array Obj) (a b:Obj) (f:Obj->Obj),f a=b->(h.push a).modify h.size f=h.push b:=fun h a b f e=>by
      grind
     simp only[World.alloc,World.drew]
     simp_all
    rw[hw] at G K;refine⟨_,_,_,Lib.run_convert_string_bytes w src dst e bs L M he,?_,G,(fL.drew D V w).trans K⟩;simp only[VR];refine⟨_,dD.dk _ _ _,.inl ⟨grownCap w bs.size 0 e,by rw[hlen],by rw[hlen];exact A,by simp⟩⟩
   cases h
  cases h
 cases h
theorem Gc (P:q6) (V:aF) (src dst:y_) (x:U) (v:U) (V':aF):mW P V src dst x≠ .nt v V':=by
 unfold mW
 grind
theorem tB (P:q6) (V:aF) (src dst:y_) (x:U):∀f args V',mW P V src dst x≠ .enter f args V'/\mW P V src dst x≠ .round f args V'/\mW P V src dst x≠ .skip V':=by
 intro f args V';unfold mW
 grind
end
variable {yk ym:j_}
section
variable {P:q6} {D:dD} {V:aF} {w:x_}
theorem wR {x y:U} {a c:j_} (h:m9 x y=some true) (hx:VR D x a) (d:VR D y c) (n:Nat):Instr.sameBits n a c=true:=by
 unfold m9 at h;split at h
 ·simp only[VR] at hx d;subst hx;subst d;simp only[oJ_,qO] at h;simp only[Instr.sameBits,h]
 ·rename_i j a' k b';simp only[bZ] at h;split at h
  ·rename_i hk;have:=qS hk;subst this;simp only[oJ_,eB,decide_eq_true_eq] at h
   grind [VR,Instr.sameBits]
  cases h
 ·simp only[VR] at hx d;obtain⟨p,rfl,hp⟩:=hx;obtain⟨q,rfl,hq⟩:=d
  grind [pF,Instr.sameBits,beq_toListBytes]
 cases h
theorem sZ:∀{xs ys:List U} {as cs:List j_},mU xs ys=true->dN D xs as->dN D ys cs->∀n,as.length=cs.length/\((as.zip cs).all fun(x,y)=>Instr.sameBits n x y)=true
 | [],[],as,cs,_,hx,d,n=>by rw[hx.fR,d.fR];simp
 | [],y::ys,as,cs,h,hx,d,n=>by cases h
 | x::xs,[],as,cs,h,hx,d,n=>by cases h
 | x::xs,y::ys,as,cs,h,hx,d,n=>by
  obtain⟨a,as',rfl,h1,u⟩:=hx.cons_inv;obtain⟨c,cs',rfl,h3,h4⟩:=d.cons_inv;have h':(match m9 x y with | some true=>mU xs ys | _=>false)=true:=h;split at h'
  ·rename_i he;obtain⟨g1,z⟩:=sZ h' u h4 n;refine⟨by simp[g1],?_⟩;simp only[List.zip_cons_cons,List.all_cons,bA_];exact⟨wR he h1 h3 n,z⟩
  cases h'
theorem Db {x y:U} {a c:j_} (h:sameKey x y=true) (hx:VR D x a) (d:VR D y c) (n:Nat):Instr.sameBits (n+1) a c=true:=by
 unfold sameKey at h;split at h
 ·simp only[VR] at hx d;obtain⟨as,rfl,hx⟩:=hx;obtain⟨cs,rfl,d⟩:=d;obtain⟨g1,g2⟩:=sZ h hx d n;simp only[Instr.sameBits,bA_,beq_iff_eq]
  simp_all
 grind [wR]
theorem Kp (e:eW) (es:List eW) (i:Nat):wv e es i=es.set i e:=sF _ _ _
theorem AS:∀(es:List eW) (i:Nat),yq es i=es.eraseIdx i
 | [],i=>rfl
 | e::es,0=>rfl
 | e::es,i+1=>congrArg (e::·) (AS es i)
theorem Inv.Dd (hi:Inv D V w) {b:Pos} {l:Loc} {es':List eW} {clock':Nat} {ys:Array MapEntry} (hb:V.m.get b=some (.map es clock)) (hl:D b=some l) (he:kT D es' ys.toList):
  ∃w',(setObj l.eK (.map ys clock')).run P w= .ok () w'/\Inv D (V.setObj b (.map es' clock')) w'/\fL D V w D (V.setObj b (.map es' clock')) w':=by
 obtain⟨zs,hh,_⟩:=hi.zl hb hl;refine⟨{w with heap:=w.heap.setIfInBounds l.eK (.map ys clock')},by simp[setObj,Sem.run,hh],?_⟩;have hlt:=hi.eK b l hl
 exact hi.change hb hl Z Z (x:=.map ys clock') (by simp_all) ⟨ys,Z,he⟩
  (fun r hr=>by grind) (by simp) Z Z Z
theorem vz (hi:Inv D V w) {t:y_} {m k v:U} {yv:j_} {V':aF} (h:lN P V t m k v=some V') (hm:VR D m ym) (hk:VR D k yk) (hv:VR D v yv):
  ∃w',(Instr.mapUpdate t ym yk yv).run P w= .ok () w'/\Inv D V' w'/\fL D V w D V' w':=by
 unfold lN at h;split at h
 ·rename_i u1 u2 kt et b hu;split at h
  ·rename_i es clock hb;simp only[bZ] at h;split at h
   ·rename_i d;rw[bA_] at d;obtain⟨hp,E⟩:=d;simp only[VR] at hm;obtain⟨l,hl,rfl⟩:=hm;obtain⟨ys,hh,he⟩:=hi.zl hb hl;have hck:=mY (w:=w) hp E hk false;split at h
    ·rename_i i u hf;obtain⟨r',g1,C⟩:=na (w:=w) hp hk he hf;cases r' with
     | none=>exact C.elim
     | some q=>
     obtain⟨j,y⟩:=q;obtain⟨rfl,hy⟩:=C;rw[fN] at h;split at h
     ·rename_i e hn;split at h
      ·rename_i G;cases h;obtain⟨ye,aa,e1,e2,e3⟩:=he.get hn;have hsb:=Db G e1 hk 9999;have z:ys[i]? =some ye:=by simp_all
       have A:(Instr.keyThatStays (((ys[i]?).map (·.key)).getD yk) yk).run P w= .ok yk w:=by
        simp[Instr.keyThatStays,z,hsb]
       have B:(ys.modify i fun e=>{e with key:=yk,val:=yv}).toList=ys.toList.set i {key:=yk,val:=yv,born:=e.born}:=by
        apply zf_
        grind
       obtain⟨w',r,inv,st⟩:=hi.Dd (P:=P) (clock':=clock) (es':=wv {key:=k,val:=v,born:=e.born} es i) (ys:=ys.modify i fun e=>{e with key:=yk,val:=yv}) hb hl (by
        rw[B,Kp];exact he.set i hk hv Z)
       refine⟨w',?_,inv,st⟩;simp only[Instr.mapUpdate,sB_,run_underlying hu,rA,run_getObj_map hh,hck,g1,A,r]
      cases h
     cases h
    ·rename_i hf;cases h;obtain⟨r',g1,C⟩:=na (w:=w) hp hk he hf;cases r' with
     | some q=>exact C.elim
     | none=>
     obtain⟨w',r,inv,st⟩:=hi.Dd (P:=P) (clock':=clock+1) (es':=iw es [{key:=k,val:=v,born:=clock}]) (ys:=ys.push {key:=yk,val:=yv,born:=clock}) hb hl (by
      rw[eD,Array.toList_push];exact he.append ⟨_,[],Z,hk,hv,Z,Z⟩)
     refine⟨w',?_,inv,st⟩;simp only[Instr.mapUpdate,sB_,run_underlying hu,rA,run_getObj_map hh,hck,g1,r]
    cases h
   cases h
  cases h
 cases h
theorem Cs (hi:Inv D V w) {ty:y_} {m k:U} {V':aF} (h:rY P V ts m k=some V') (hm:VR D m ym) (hk:VR D k yk):
  ∃w',(Builtin.delete_ ts ty #[ym,yk]).run P w= .ok (.tuple #[]) w'/\Inv D V' w'/\fL D V w D V' w':=by
 unfold rY at h;split at h
 ·rename_i t B;split at h
  ·rename_i u1 u2 kt et b hu;split at h
   ·rename_i es clock hb;simp only[bZ] at h;split at h
    ·rename_i d;rw[bA_] at d;obtain⟨hp,A⟩:=d;simp only[VR] at hm;obtain⟨l,hl,rfl⟩:=hm;obtain⟨ys,hh,he⟩:=hi.zl hb hl;have hck:=mY (w:=w) hp A hk ys.isEmpty;split at h
     ·rename_i i u hf;cases h;obtain⟨r',g1,z⟩:=na (w:=w) hp hk he hf;cases r' with
      | none=>exact z.elim
      | some q=>
      obtain⟨j,y⟩:=q;obtain⟨rfl,hy⟩:=z
      obtain⟨w',r,inv,st⟩:=hi.Dd (P:=P) (clock':=clock) (es':=yq es i) (ys:=ys.eraseIdxIfInBounds i) hb hl (by
       rw[Array.toList_eraseIdxIfInBounds,AS];exact he.erase i)
      refine⟨w',?_,inv,st⟩;simp only[Builtin.delete_,B,List.getElem?_toArray,zm_,List.getElem?_cons_succ,sB_,run_underlying hu,rA,run_getObj_map hh,hck,g1,r,sP_]
     ·rename_i hf;cases h;obtain⟨r',g1,z⟩:=na (w:=w) hp hk he hf;cases r' with
      | some q=>exact z.elim
      | none=>
      obtain⟨w',r,inv,st⟩:=hi.Dd (P:=P) (clock':=clock) (es':=es) (ys:=ys) hb hl he;refine⟨w',?_,inv,st⟩;simp only[Builtin.delete_,B,List.getElem?_toArray,zm_,List.getElem?_cons_succ,sB_,run_underlying hu,rA,run_getObj_map hh,hck,g1,r,sP_]
     cases h
    cases h
   cases h
  cases h
 cases h
def HR.isVal:HR->Prop
 | .val ..=>True
 | .err _=>True
 | _=>False
theorem F8 (P:q6) (V:aF) (ts:Array y_) (s x:U):(gu P V ts s x).isVal:=by
 unfold gu;simp only[bZ,grow]
 repeat' (first | trivial | split)
theorem DK (P:q6) (V:aF) (ts:Array y_) (s x:U):(pM P V ts s x).isVal:=by
 unfold pM;simp only[bZ,grow]
 repeat' (first | trivial | split)
theorem Lv (P:q6) (V:aF) (ts:Array y_) (s x:U):(wO P V ts s x).isVal:=by
 unfold wO;simp only[bZ]
 repeat' (first | trivial | split)
theorem Ew {ov:Nat->Bool} (T:∀g,ov g=true->vI P g) (hi:Inv D V w) {ev:q_->Option U} {f:q_->j_} {o:z_} {r:HR} (A:ER D ev f o.op) (h:gh P ov ev V o.op=r) (K:∀n,r≠ .err n):
  Ag P D V w r ((execOp f o).run P w):=by
 cases C:o.op with
 | store t x y=>
  rw[C] at h A;simp only[gh] at h;cases hx:ev x with
  | none=>grind
  | some a=>
  cases X:ev y with
  | none=>grind
  | some v=>
  rw[hx,X] at h;dsimp only at h;cases M:z4 P V t a v with
  | none=>grind
  | some V'=>
   rw[M] at h;subst h;obtain⟨w',r,inv,st⟩:=FF (P:=P) hi M (A x (by simp[Op.operands]) a hx) (A y (by simp[Op.operands]) v X);have:(execOp f o).run P w= .ok .skip w':=by grind [execOp,sB_,rA,sP_]
   rw[this];exact .skip inv st
 | mapUpdate t m k x=>
  rw[C] at h A;simp only[gh] at h;cases hm:ev m with
  | none=>grind
  | some a=>
  cases hk:ev k with
  | none=>grind
  | some b=>
  cases hx:ev x with
  | none=>grind
  | some v=>
  rw[hm,hk,hx] at h;dsimp only at h;cases M:lN P V t a b v with
  | none=>grind
  | some V'=>
   rw[M] at h;subst h;obtain⟨w',r,inv,st⟩:=vz (P:=P) hi M (A m (by simp[Op.operands]) a hm) (A k (by simp[Op.operands]) b hk) (A x (by simp[Op.operands]) v hx);have:(execOp f o).run P w= .ok .skip w':=by grind [execOp,sB_,rA,sP_]
   rw[this];exact .skip inv st
 | insert t m k x=>
  rw[C] at h A;simp only[gh] at h;cases hm:ev m with
  | none=>grind
  | some a=>
  cases hk:ev k with
  | none=>grind
  | some b=>
  cases hx:ev x with
  | none=>grind
  | some v=>
  rw[hm,hk,hx] at h;dsimp only at h;cases M:lN P V t a b v with
  | none=>grind
  | some V'=>
   rw[M] at h;subst h;obtain⟨w',r,inv,st⟩:=vz (P:=P) hi M (A m (by simp[Op.operands]) a hm) (A k (by simp[Op.operands]) b hk) (A x (by simp[Op.operands]) v hx);have:(execOp f o).run P w= .ok .skip w':=by grind [execOp,sB_,rA,sP_]
   rw[this];exact .skip inv st
 | call c=>
  rw[C] at h A;simp only[gh] at h;split at h
  ·rename_i g d;split at h
   ·rename_i S u2 y args hg L;have B:∀x∈c.args.toList,∀v,ev x=some v->VR D v (f x):=fun x hx=>A x (by grind [Op.operands,Call.operands])
    have:=Lg (P:=P) (w:=w) T hi h K (A g (by simp[Op.operands,Call.operands,d]) y hg) (xs:=c.args.map f) (by simpa using jU L B);simpa only[execOp,C,resolve,d] using this
   grind
  ·rename_i d;split at h
   ·rename_i S s x L;subst h;have B:∀x∈c.args.toList,∀v,ev x=some v->VR D v (f x):=fun x hx=>A x (by simp[Op.operands,Call.operands,d];simpa using hx)
    obtain⟨ys,rs,e,h1,Q⟩:=(jU L B).cons_inv;obtain⟨yx,rs',rfl,h3,h4⟩:=Q.cons_inv;have:=h4.fR;subst this;have u:c.args.map f= #[ys,yx]:=by grind
    rw[bZ] at K;rw[bZ];split at K
    ·rename_i W;rw[if_pos W];have hv:=F8 P V c.argTypes s x;cases hr:gu P V c.argTypes s x with
     | val v V'=>
      obtain⟨z,w',D',g1,R,E,G⟩:=Ch (P:=P) (ty:=o.type) hi hr h1 h3
      have:(execOp f o).run P w= .ok (.value z) w':=by
       simp only[execOp,C,resolve,d,u,sB_,sP_,rA,invoke,builtin,g1]
      rw[this];exact .val R E G
     | err n=>simp_all
     | _=>rw[hr] at hv;exact hv.elim
    rename_i W;rw[if_neg W];have hv:=DK P V c.argTypes s x;cases hr:pM P V c.argTypes s x with
    | val v V'=>
     obtain⟨z,w',D',g1,R,E,G⟩:=Ai (P:=P) (ty:=o.type) hi hr h1 h3
     have:(execOp f o).run P w= .ok (.value z) w':=by
      simp only[execOp,C,resolve,d,u,sB_,sP_,rA,invoke,builtin,g1]
     rw[this];exact .val R E G
    | err n=>simp_all
    | _=>rw[hr] at hv;exact hv.elim
   grind
  ·rename_i d;split at h
   ·rename_i S s x L;have B:∀x∈c.args.toList,∀v,ev x=some v->VR D v (f x):=fun x hx=>A x (by simp[Op.operands,Call.operands,d];simpa using hx)
    obtain⟨ys,rs,e,h1,Q⟩:=(jU L B).cons_inv;obtain⟨yx,rs',rfl,h3,h4⟩:=Q.cons_inv;have:=h4.fR;subst this;have u:c.args.map f= #[ys,yx]:=by grind
    cases hr:rY P V c.argTypes s x with
    | none=>grind
    | some V'=>
     rw[hr] at h;subst h;obtain⟨w',g1,E,G⟩:=Cs (P:=P) (ty:=o.type) hi hr h1 h3
     have:(execOp f o).run P w= .ok (.value (.tuple #[])) w':=by
      simp only[execOp,C,resolve,d,u,sB_,sP_,rA,invoke,builtin,g1]
     rw[this];exact .val (by simp only[VR];simp_all) E G
   grind
  ·rename_i d;split at h
   ·rename_i S s x L;subst h;have B:∀x∈c.args.toList,∀v,ev x=some v->VR D v (f x):=fun x hx=>A x (by simp[Op.operands,Call.operands,d];simpa using hx)
    obtain⟨ys,rs,e,h1,Q⟩:=(jU L B).cons_inv;obtain⟨yx,rs',rfl,h3,h4⟩:=Q.cons_inv;have:=h4.fR;subst this;have u:c.args.map f= #[ys,yx]:=by grind
    have hv:=Lv P V c.argTypes s x;cases hr:wO P V c.argTypes s x with
    | val v V'=>
     obtain⟨z,w',D',g1,R,E,G⟩:=Gn (P:=P) (ty:=o.type) hi hr h1 h3
     have:(execOp f o).run P w= .ok (.value z) w':=by
      simp only[execOp,C,resolve,d,u,sB_,sP_,rA,invoke,builtin,g1]
     rw[this];exact .val R E G
    | err n=>simp_all
    | _=>rw[hr] at hv;exact hv.elim
   grind
  ·rename_i d;split at h
   ·rename_i S x L;have B:∀x∈c.args.toList,∀v,ev x=some v->VR D v (f x):=fun x hx=>A x (by simp[Op.operands,Call.operands,d];simpa using hx)
    obtain⟨ys,rs,e,h1,Q⟩:=(jU L B).cons_inv;have:=Q.fR;subst this;have u:c.args.map f= #[ys]:=by grind
    cases hr:vP P V c.argTypes x with
    | none=>grind
    | some V'=>
     rw[hr] at h;subst h;obtain⟨w',g1,E,G⟩:=DY (P:=P) (ty:=o.type) hi hr h1
     have:(execOp f o).run P w= .ok (.value (.tuple #[])) w':=by
      simp only[execOp,C,resolve,d,u,sB_,sP_,rA,invoke,builtin,g1]
     rw[this];exact .val (by simp only[VR];simp_all) E G
   grind
  grind
 | convert src dst x=>
  rw[C] at h A;simp only[gh] at h;cases hx:ev x with
  | none=>grind
  | some a=>
   rw[hx] at h;dsimp only at h;cases hr:mW P V src dst a with
   | val v V'=>
    rw[hr] at h;subst h;obtain⟨z,w',D',g1,R,E,G⟩:=DQ (P:=P) hi hr (A x (by simp[Op.operands]) a hx);have:(execOp f o).run P w= .ok (.value z) w':=by grind [execOp,sB_,rA,sP_]
    rw[this];exact .val R E G
   | err n=>grind
   | skip V'=>exact absurd hr (tB P V src dst a 0 [] V').2.2
   | enter g args V'=>exact absurd hr (tB P V src dst a g args V').1
   | round g args V'=>exact absurd hr (tB P V src dst a g args V').2.1
   | nt q V'=>exact absurd hr (Gc P V src dst a q V')
 | panic x=>
  rw[C] at h A;simp only[gh] at h;split at h
  ·rename_i t v hx;subst h;have hv:=A x (by simp[Op.operands]) _ hx;have hv':=hv;simp only[VR] at hv';obtain⟨y,hf,_⟩:=hv'
   have:(execOp f o).run P w= .halt (.panic<|f x) w:=by
    simp only[execOp,C,hf,Instr.panic,sB_];rfl
   rw[this];exact .nt hv
  grind
 | _=>rw[C] at h;exact absurd h.symm<|K 16
end
inductive Ex where
 | normal
 | exit (id:Nat)
 | goto (l:Nat)
 | ret
 | nt (v:U)
inductive DE where
 | mark (b:Pos)
 | call (f:Nat) (args ca:List U)
inductive CR where
 | ok (e:Ex) (t:PT U) (d:List DE) (V:aF)
 | err (n:Nat)
inductive KR where
 | ret (v:U) (V:aF)
 | nt (v:U) (V:aF)
 | err (n:Nat)
inductive Kind where
 | pure | read | alloc | ld
def isMap (P:q6) (t:Option y_):Bool:=
 match t with
 | some t=>match P.underlying t with | some (.map _ _)=>true | _=>false
 | none=>false
def toStr (P:q6) (src dst:y_):Bool:=
 match ql P src,ql P dst with
 | some (.slice _),some .string=>true
 | some (.pointer _),some .unsafePointer=>true
 | some .unsafePointer,some (.pointer _)=>true
 | _,_=>false
def ofStr (P:q6) (src dst:y_):Bool:=
 match ql P src,ql P dst with
 | some .string,some (.slice _)=>true
 | _,_=>false
def kindOf (P:q6):Op->Kind
 | .convert src dst _=>bif toStr P src dst then .read else(bif ofStr P src dst then .ld else .pure)
 | .load .. | .lookup ..=>.read
 | .alloc .. | .box .. | .buildSlice .. | .makeSlice .. | .makeMap ..=>.alloc
 | .store .. | .mapUpdate .. | .insert ..=>.ld
 | .call c=>match c.callee with
  | .builtin .len=>bif isMap P c.argTypes[0]? then .read else .pure
  | .builtin .min | .builtin .max | .builtin .cap=>.pure
  | _=>.ld
 | .defer _ | .panic _=>.ld
 | _=>.pure
structure ME where
 f:Nat
 args:List U
 next:Nat
 l:List (Nat×cU)
 v:U
 next':Nat
 l':List (Nat×cU)
structure Cx where
 gl:Nat
 ov:Nat->Bool
 fk:Nat->Bool
 KT:Nat->List U->Option U
 laid:List (Nat×List U)
 mem:List Nat:=[]
 stop:Nat->List U->aF->Option Nat:=fun _ _ _=>none
 KQ:Nat->List U->aF->Option U:=fun _ _ _=>none
def bz (G:Cx) (t:PT U):q_->Option U
 | .tmp k=>t.get (posOf k)
 | .const v=>ra v
 | .global g=>bif ble (Nat.succ g) G.gl then some (.ptr (posOf g) 0) else none
 | .func f=>some (.func f [] [])
def Bo:Op->Nat
 | .move ..=>1
 | .assign ..=>2
 | .pick ..=>3
 | .alloc ..=>4
 | .box ..=>5
 | .build ..=>6
 | .buildSlice ..=>7
 | .insert ..=>8
 | .load ..=>9
 | .store ..=>10
 | .ready ..=>11
 | .waits ..=>12
 | .nilCheck ..=>13
 | .binOp ..=>14
 | .unOp ..=>15
 | .convert ..=>16
 | .sliceToArrayPointer ..=>17
 | .makeInterface ..=>18
 | .makeFunc ..=>19
 | .makeMap ..=>20
 | .makeChan ..=>21
 | .makeSlice ..=>22
 | .slice ..=>23
 | .fieldAddr ..=>24
 | .field ..=>25
 | .indexAddr ..=>26
 | .index ..=>27
 | .lookup ..=>28
 | .mapUpdate ..=>29
 | .mapEntry ..=>30
 | .entryStore ..=>31
 | .range ..=>32
 | .next ..=>33
 | .entry ..=>34
 | .typeAssert ..=>35
 | .extract ..=>36
 | .call ..=>37
 | .go ..=>38
 | .defer ..=>39
 | .panic ..=>40
 | .send ..=>41
 | .recv ..=>42
 | .select ..=>43
def dX (P:q6) (G:Cx) (ev:q_->Option U) (V:aF) (op:Op):HR:=
 match kindOf P op with
 | .pure=>match dO P ev op with | some v=>.val v V | none=>.err (Nat.add 1000<|Bo op)
 | .read=>match ie P ev V op with | some v=>.val v V | none=>.err (Nat.add 2000<|Bo op)
 | .alloc=>match gb P ev op with | some (ob,mk)=>.val (mk.of V.next) (V.alloc ob) | none=>.err (Nat.add 3000<|Bo op)
 | .ld=>gh P G.ov ev V op
def dG (t:PT U) (n:Nat) (dst:Option Nat) (v:U):Option (PT U):=
 match dst with
 | none=>some t
 | some k=>bif ble (Nat.succ k) n then some (t.put (some v)<|posOf k) else none
def unit:U:=.tuple []
def bK (ops:Array z_) (t:PT U) (o:z_):Option Bool:=
 match o.guard with
 | none=>some true
 | some (j,want)=>match(ops[j]?).bind (·.dst) with
  | some k=>match t.get (posOf k) with
   | some (.bool b)=>some (bif b then want else(bif want then false else true))
   | some (.tuple _)=>some false
   | _=>none
  | none=>some false
abbrev lR:=Code->PT U->Nat->List DE->Option Pos->aF->CR
def sX (n:Nat) (args:List U):Option (PT U):=
 List.rec (motive:=fun _=>Nat->PT U->Option (PT U)) (fun _ t=>some t) (fun v _ ih k t=>match dG t n (some k) v with | some t'=>ih (Nat.succ k) t' | none=>none) args 0 .leaf
def il (P:q6) (t:PT U) (V:aF):ResultVar->Option U
 | .tmp k=>t.get (posOf k)
 | .cell k ty=>match t.get (posOf k) with
  | some (.ptr b off)=>match V.m.get b with
   | some (.row cells _ _)=>match eo P ty with
    | some (some n)=>bif ble (off+n) (dK cells) then some (.agg<|takeN (eP cells off) n) else none
    | some none=>nth cells off
    | none=>none
   | _=>none
  | _=>none
def fO (P:q6) (fn:Func) (t:PT U) (V:aF):Option U:=
 match dv (il P t V) fn.results.toList with
 | some [v]=>some v
 | some vs=>some (.tuple vs)
 | none=>none
inductive Md where
 | ret
 | nt (v:U)
 | VC (v:U)
def zf (P:q6) (G:Cx) (ih:lR) (d:List DE) (md:Md) (V:aF):Option (Md×aF):=
 match d with
 | []=>some (md,V)
 | _=>none
def Al (P:q6) (G:Cx) (ih:lR) (fn:Func) (md:Md) (t:PT U) (d:List DE) (V:aF):KR:=
 match zf P G ih d md V with
 | some (.ret,V)=>match fO P fn t V with | some v=>.ret v V | none=>.err 70
 | some (.nt v,V)=>.nt v V
 | _=>.err 71
def lV (P:q6) (G:Cx) (ih:lR) (f:Nat) (args:List U) (V:aF):KR:=
 match P.funcs[f]? with
 | some fn=>match fn.body,sX fn.ntmps args with
  | some c,some t=>match ih c t fn.ntmps [] none V with
   | .ok .normal t d V=>Al P G ih fn .ret t d V
   | .ok .ret t d V=>Al P G ih fn .ret t d V
   | .ok (.nt v) t d V=>Al P G ih fn (.nt v) t d V
   | .err k=>.err k
   | _=>.err 72
  | _,_=>.err 73
 | none=>.err 74
def tV (r:KR):KR:=
 match r with
 | .nt _ _=>.err 69
 | r=>r
def nZ:U->Bool
 | .bool _ | .int _ _ | .str _ | .nilPtr | .ax | .iM | .nilFunc | .nilIface=>true
 | _=>false
def fl (l:List U):Bool:=List.rec (motive:=fun _=>Bool) true (fun v _ r=>bif nZ v then r else false) l
def Cv (x y:U):Bool:=
 match x,y with
 | .bool a,.bool b=>bif a then b else(bif b then false else true)
 | .int j a,.int k b=>uH j k && N a b
 | .str a,.str b=>wS a b
 | .nilPtr,.nilPtr=>true
 | .ax,.ax=>true
 | .iM,.iM=>true
 | .nilFunc,.nilFunc=>true
 | .nilIface,.nilIface=>true
 | _,_=>false
def lJ (xs ys:List U):Bool:=
 List.rec (motive:=fun _=>List U->Bool) (fun ys=>List.rec (motive:=fun _=>Bool) true (fun _ _ _=>false) ys)
  (fun x _ ih ys=>List.rec (motive:=fun _=>Bool) false (fun y r _=>bif Cv x y then ih r else false) ys) xs ys
def II (n:Nat) (v:U):List U:=Nat.rec (motive:=fun _=>List U) [] (fun _ l=>v::l) n
def fE (V:aF) (b:Pos) (o:cU) (vb:Pos) (o':cU):aF:={next:=V.next,m:=(PT.leaf.put (some o) b).put (some o') vb}
def sb (vb:Pos) (vc:List U) (ve e sz:Nat) (r:KR) (ok:ou->Nat->Bool):Option (Nat×List U):=
 match r with
 | .ret (.slice b1 o1 n1 c1) σ1=>
  match σ1.m.get b1,σ1.m.get vb with
  | some (.row cs1 e1 false),some (.row vc1 ve1 false)=>
   bif ok c1 n1 && ((bif kN b1 vb then false else true) && (lJ vc vc1 && (Nat.beq ve ve1 && (Nat.beq e e1 && (ble 1 n1 && (ble (o1+n1*sz) (dK cs1) && fl (takeN (eP cs1 o1) (n1*sz)))))))) then
    some (n1,takeN (eP cs1 o1) (n1*sz))
   else none
  | _,_=>none
 | _=>none
def GM (sz:Nat) (c:ou) (_:Nat):Bool:=
 match c with
 | .upto s=>Nat.beq s sz
 | _=>false
def CH (sz:Nat) (c:ou) (n:Nat):Bool:=
 match c with
 | .least a s=>Nat.beq s sz && ble n a
 | _=>false
def H5 (P:q6) (G:Cx) (ih:lR) (f:Nat) (args:List U) (V:aF):KR:=
 match args with
 | [.slice b off n (.upto sz),i,.slice vb voff m (.known mc)]=>
  match V.m.get b,V.m.get vb with
  | some (.row cells e false),some (.row vc ve false)=>
   bif (bif kN b vb then false else true) && (ble 1 n && (Nat.beq m 1 && (nZ i && (fl vc && ble (off+n*sz) (dK cells))))) then
    match sb vb vc ve e sz (lV P G ih f [.slice b off n (.known n),i,.slice vb voff m (.known mc)]<|fE V b (.row cells e false) vb (.row vc ve false)) (GM sz),
     sb vb vc ve e sz (lV P G ih f [.slice b off n (.least (Nat.succ n) sz),i,.slice vb voff m (.known mc)]<|fE V b (.row (iw (takeN cells (off+n*sz))<|II sz .any) e false) vb (.row vc ve false)) (CH sz) with
    | some (n1,r1),some (n2,r2)=>bif Nat.beq n1 n2 && lJ r1 r2 then .ret (.slice V.next 0 n1 (.upto sz)) ((V.drop b).alloc (.row r1 e false)) else .err 75
    | _,_=>.err 76
   else .err 77
  | _,_=>.err 78
 | _=>lV P G ih f args V
def oD (gl:Nat) (V:aF) (l:List (Nat×List U)):Bool:=
 List.rec (motive:=fun _=>Bool) true (fun x _ r=>bif ble (Nat.succ x.1) gl then(match V.m.get x.1 with
  | some (.row cells _ true)=>bif fl x.2 then(bif lJ cells x.2 then r else false) else false
  | _=>false) else false) l
def eM (x y:U):Bool:=
 match x,y with
 | .agg xs,.agg ys=>beqL xs ys
 | x,y=>dV x y
where
 beqP (p q:Pos):Bool:=Nat.beq p q
 beqC (c d:ou):Bool:=
  match c,d with
  | .known a,.known b=>Nat.beq a b
  | .upto a,.upto b=>Nat.beq a b
  | _,_=>false
 dV (x y:U):Bool:=
  match x,y with
  | .bool a,.bool b=>bif a then b else(bif b then false else true)
  | .int j a,.int k b=>uH j k && N a b
  | .str a,.str b=>wS a b
  | .nilPtr,.nilPtr=>true
  | .tok a,.tok b=>Nat.beq a b
  | .ptr b o,.ptr b' o'=>beqP b b' && Nat.beq o o'
  | .ax,.ax=>true
  | .slice b o l c,.slice b' o' l' c'=>beqP b b' && Nat.beq o o' && Nat.beq l l' && beqC c c'
  | .iM,.iM=>true
  | .map b,.map b'=>beqP b b'
  | .nilFunc,.nilFunc=>true
  | .nilIface,.nilIface=>true
  | .func f [] [],.func g [] []=>Nat.beq f g
  | .func f [] [.ptr b o],.func g [] [.ptr b' o']=>Nat.beq f g && beqP b b' && Nat.beq o o'
  | _,_=>false
 beqL (xs ys:List U):Bool:=
  List.rec (motive:=fun _=>List U->Bool) (fun ys=>List.rec (motive:=fun _=>Bool) true (fun _ _ _=>false) ys)
   (fun x _ ih ys=>List.rec (motive:=fun _=>Bool) false (fun y r _=>bif dV x y then ih r else false) ys) xs ys
def Mt (l:List (Nat×List U)) (E:Nat->y_):PT cU:=l.foldl (fun m x=>m.put (some (.row x.2 (E x.1) true)) (posOf x.1)) .leaf
def atEnd (args:List U):Bool:=
 match args with
 | [.slice _ _ n _,.int _ (.ofNat j),_]=>Nat.beq j n
 | _=>false
def qY (P:q6) (G:Cx) (ih:lR) (f:Nat) (args:List U) (V:aF):KR:=bif atEnd args then lV P G ih f args V else H5 P G ih f args V
def mX (P:q6) (G:Cx) (ih:lR) (f:Nat) (args:List U) (V:aF):KR:=
 match G.KQ f args V with
 | some v=>bif nZ v then .ret v V else .err 78
 | none=>match G.KT f args with
 | some v=>bif fl args && (nZ v && oD G.gl V G.laid) then .ret v V else .err 79
 | none=>match G.stop f args V with
   | some c=>.err c
   | none=>bif G.fk f then tV (qY P G ih f args V) else lV P G ih f args V
def mD (P:q6) (G:Cx) (ih:lR) (r:HR):KR:=
 match r with
 | .val v V=>.ret v V
 | .skip V=>.ret unit V
 | .enter f args V=>mX P G ih f args V
 | .round _ _ _=>.err 66
 | .nt v V=>.nt v V
 | .err e=>.err e
def Qd (pn:Bool) (v:U) (t:PT U) (V:aF):CR:=bif pn then .ok (.nt v) t [] V else .err 69
def jz (P:q6) (G:Cx) (ih:lR) (pn:Bool) (ops:Array z_) (n:Nat) (o:z_) (t:PT U) (V:aF) (k:PT U->aF->CR):CR:=
 match bK ops t o with
 | some true=>match mD P G ih (dX P G (bz G t) V o.op) with
  | .ret v V'=>match dG t n o.dst v with | some t'=>k t' V' | none=>.err 80
  | .nt v V'=>Qd pn v t V'
  | .err e=>.err e
 | some false=>match dG t n o.dst unit with | some t'=>k t' V | none=>.err 84
 | none=>.err 85
def wg (P:q6) (G:Cx) (ih:lR) (ops:Array z_) (n:Nat) (d:List DE) (l:List z_):PT U->aF->CR:=
 List.rec (motive:=fun _=>PT U->aF->CR) (fun t V=>.ok .normal t d V)
  (fun o _ k t V=>jz P G ih true ops n o t V k) l
def tz (A:Array Nat) (i j:Nat):Bool:=(A.getD i 0).testBit j
def waits (ops:Array z_) (i j:Nat):Bool:=((ops[i]?).map fun o=>o.after.any fun e=>Region.binds .any e && e.on == j).getD false
def GH:Kind->Bool
 | .ld=>true
 | _=>false
def wb:Kind->Bool
 | .read | .alloc=>true
 | _=>false
def kH (P:q6) (ops:Array z_) (i:Nat):Bool:=match(ops[i]?).map fun o=>kindOf P o.op with | some k=>GH k | none=>false
def gO (P:q6) (ops:Array z_) (i:Nat):Bool:=match(ops[i]?).map fun o=>kindOf P o.op with | some k=>wb k | none=>false
def slotsOf (ops:Array z_) (o:z_):List Nat:=
 (o.op.operands.toList.filterMap fun | .tmp k=>some k | _=>none)++(match o.guard with | some (j,_)=>((ops[j]?).bind (·.dst)).toList | none=>[])
def fG (ops:Array z_) (i:Nat):Option Nat:=(ops[i]?).bind (·.dst)
def bit (i:Nat):Nat:=Nat.shiftLeft 1 i
def hasB (m i:Nat):Bool:=Nat.beq (land (Nat.shiftRight m i) 1) 1
def Dg (m k:Nat):Bool:=Nat.beq (land m k) m
def oG (l:List Nat):Nat:=List.rec (motive:=fun _=>Nat) 0 (fun i _ r=>lor (bit i) r) l
structure Row where
 w:Nat
 h:Bool
 k:Bool
 d:Option Nat
 dm:Nat
 s:Nat
def zU (P:q6) (ops:Array z_) (o:z_):Row:=
 {w:=oG (o.after.toList.filterMap fun e=>if Region.binds .any e=true then some e.on else none),h:=GH<|kindOf P o.op,k:=wb<|kindOf P o.op,d:=o.dst,dm:=oG o.dst.toList,s:=oG (slotsOf ops o)}
structure RA where
 r:Row
 a:Nat
def zw (L:List RA):Nat->Nat:=
 List.rec (motive:=fun _=>Nat->Nat) (fun _=>0) (fun x _ ih w=>lor (Bool.rec (motive:=fun _=>Nat) 0 x.a<|Nat.beq (land w 1) 1) (ih<|Nat.shiftRight w 1)) L
def Nt (rows:List Row):List RA->List RA:=
 List.rec (motive:=fun _=>List RA->List RA) (fun L=>L) (fun r _ ih L=>ih (iw L [⟨r,lor r.w<|zw L r.w⟩])) rows
def ka (P:q6) (ops:Array z_):List RA:=Nt (Ap (zU P ops) ops.toList) []
def allI {α:Type} (f:Nat->α->Bool) (l:List α):Nat->Bool:=List.rec (motive:=fun _=>Nat->Bool) (fun _=>true) (fun x _ ih i=>Bool.rec (motive:=fun _=>Bool) false (ih<|Nat.succ i) (f i x)) l
def Rf {α:Type} (f:Nat->α->Bool) (l:List α):Nat->Option Nat:=List.rec (motive:=fun _=>Nat->Option Nat) (fun _=>none) (fun x _ ih i=>Bool.rec (motive:=fun _=>Option Nat) (ih<|Nat.succ i) (some i) (f i x)) l
def Ty {α:Type} (f:Nat->α->Bool) (l:List α):Nat->List Nat:=List.rec (motive:=fun _=>Nat->List Nat) (fun _=>[]) (fun x _ ih i=>Bool.rec (motive:=fun _=>List Nat) (ih<|Nat.succ i) (i::ih (Nat.succ i)) (f i x)) l
def E5 (i:Nat) (x:RA) (j:Nat) (y:RA):Bool:=
 Option.rec (motive:=fun _=>Bool) true (fun k=>bif (bif hasB x.r.dm k then Nat.beq j i else true) then(bif hasB x.r.s k then(bif hasB x.a j then true else(bif x.r.k then false else(bif Nat.beq j i then true else hasB y.a i))) else true) else false) y.r.d
def Nj (i:Nat) (x:RA) (j:Nat) (y:RA):Bool:=Bool.rec (motive:=fun _=>Bool) (E5 i x j y) true (Nat.beq (land (lor x.r.dm x.r.s) y.r.dm) 0)
def NO (L:List RA) (n:Nat):Bool:=
 allI (fun i x=>bif Nat.blt x.r.w (bit n) then(bif (bif x.r.k then x.r.d.isSome else true) then(bif Dg x.a (lor x.r.w<|zw L x.r.w) then allI (Nj i x) L 0 else false) else false) else false) L 0
def TU (L:List RA) (fuel:Nat):Nat->List (Nat×List Nat):=
 Nat.rec (motive:=fun _=>Nat->List (Nat×List Nat)) (fun _=>[])
  (fun _ ih D_=>Option.rec (motive:=fun _=>List (Nat×List Nat))
   (Option.rec (motive:=fun _=>List (Nat×List Nat)) [] (fun i=>(i,Option.rec (motive:=fun _=>List Nat) [] (fun x=>Ty (fun j y=>bif hasB D_ j then(bif y.r.k then(bif hasB x.a j then false else true) else false) else false) L 0) (nth L i))::ih (lor D_ (bit i)))
   <|Rf (fun i x=>Bool.rec (motive:=fun _=>Bool) (Dg x.r.w D_) false (hasB D_ i)) L 0)
   (fun i=>(i,[])::ih (lor D_<|bit i))<|Rf (fun i x=>Bool.rec (motive:=fun _=>Bool) (Bool.rec (motive:=fun _=>Bool) (Dg x.r.w D_) false x.r.h) false (hasB D_ i)) L 0) fuel
def L8 (L:List RA) (i:Nat) (rc:List Nat) (D_:Nat) (x:RA):Bool:=
 bif hasB D_ i then false else(bif Dg x.r.w D_ then(bif x.r.h then allI (fun j y=>bif hasB D_ j then(bif hasB x.a j then true else(bif y.r.k then hasB (oG rc) j else true)) else(bif Nat.beq j i then true else(bif Dg y.r.w D_ then false else true))) L 0 else true) else false)
def Gg (L:List RA) (n:Nat) (p:List (Nat×List Nat)):Nat->Bool:=
 List.rec (motive:=fun _=>Nat->Bool) (fun D_=>Nat.beq D_ (Nat.sub (bit n) 1))
  (fun p _ ih D_=>Option.rec (motive:=fun _=>Bool) false (fun x=>bif L8 L p.1 p.2 D_ x then ih (lor D_<|bit p.1) else false) (nth L p.1)) p
def mi (P:q6) (ops:Array z_):List (Nat×List Nat):=TU (ka P ops) ops.size 0
def vX (P:q6) (ops:Array z_):Bool:=bif NO (ka P ops) ops.size then Gg (ka P ops) ops.size (mi P ops) 0 else false
def jP (P:q6) (G:Cx) (ops:Array z_) (t:PT U) (V:aF) (i:Nat):Bool:=
 match ops[i]? with
 | some o=>match bK ops t o with
  | some true=>match o.dst with
   | some k=>match t.get (posOf k) with
    | some v=>match kindOf P o.op with
     | .read=>match ie P (bz G t) V o.op with | some u=>eM u v | none=>false
     | .alloc=>match gb P (bz G t) o.op,v with
      | some (.row cs e false,.ptr),.ptr b 0=>match V.m.get b with | some (.row cs' e' false)=>Nat.beq e e' && eM.beqL cs cs' | _=>false
      | some (.row cs e false,.slice n c),.slice b 0 n' (.known c')=>match V.m.get b with | some (.row cs' e' false)=>Nat.beq e e' && eM.beqL cs cs' && Nat.beq n n' && Nat.beq c c' | _=>false
      | _,_=>false
     | _=>false
    | none=>false
   | none=>false
  | some false=>true
  | none=>false
 | none=>false
def dA (P:q6) (G:Cx) (ops:Array z_) (t:PT U) (V:aF) (l:List Nat):Bool:=
 List.rec (motive:=fun _=>Bool) true (fun i _ r=>bif jP P G ops t V i then r else false) l
def kL (P:q6) (G:Cx) (ih:lR) (ops:Array z_) (n:Nat) (d:List DE) (l:List (Nat×List Nat)):PT U->aF->CR:=
 List.rec (motive:=fun _=>PT U->aF->CR) (fun t V=>.ok .normal t d V)
  (fun p _ k t V=>match ops[p.1]? with
   | some o=>jz P G ih false ops n o t V (fun t' V'=>bif dA P G ops t' V' p.2 then k t' V' else .err 86)
   | none=>.err 87) l
def wP (P:q6) (G:Cx) (ih:lR) (ops:Array z_) (n:Nat) (d:List DE) (t:PT U) (V:aF):CR:=
 bif vX P ops then kL P G ih ops n d (mi P ops) t V else .err 88
def AO (c:Option U) (x y:CR):CR:=
 match c with
 | some (.bool true)=>x
 | some (.bool false)=>y
 | _=>.err 90
def Av (r:CR) (k:PT U->List DE->aF->CR):CR:=
 match r with
 | .ok .normal t d V=>k t d V
 | r=>r
def vN (id:Nat) (r:CR):CR:=
 match r with
 | .ok (.exit j) t d V=>bif Nat.beq j id then .ok .normal t d V else .ok (.exit j) t d V
 | r=>r
def wu (r:CR):CR:=
 match r with
 | .ok (.goto _) _ _ _=>.err 98
 | r=>r
def Tw (o:z_):Bool:=
 match o.op with
 | .defer _=>true
 | _=>false
def nj (ops:List z_):Bool:=ops.any Tw
def Em (d:List DE) (r:CR):CR:=
 match r with
 | .ok (.nt v) t _ V=>.ok (.nt v) t d V
 | r=>r
def IS (P:q6) (G:Cx) (ih:lR) (c:Code) (t:PT U) (n:Nat) (d:List DE) (ro:Option Pos) (V:aF):CR:=
 match c with
 | .skip | .label _=>.ok .normal t d V
 | .region _ ops draw=>bif draw then wP P G ih ops n d t V else bif nj ops.toList then .err 96 else Em d (wg P G ih ops n d ops.toList t V)
 | .seq a b=>Av (ih a t n d ro V) (fun t d V=>ih b t n d ro V)
 | .cond c a b=>AO (bz G t c) (ih a t n d ro V) (ih b t n d ro V)
 | .block id b=>vN id (ih b t n d ro V)
 | .scope b=>wu (ih b t n d ro V)
 | .loop b=>Av (ih b t n d ro V) (fun t d V=>ih (.loop b) t n d ro V)
 | .exit id=>.ok (.exit id) t d V
 | .ret=>.ok .ret t d V
 | _=>.err 99
def fb (P:q6) (G:Cx) (fuel:Nat):lR:=Nat.rec (motive:=fun _=>lR) (fun _ _ _ _ _ _=>.err 100) (fun _ ih=>IS P G ih) fuel
def yG (P:q6) (G:Cx) (fuel:Nat) (f:Nat) (args:List U) (V:aF):KR:=mX P G (fb P G fuel) f args V
variable {ops:Array z_} {tmps:Array j_}
def pU:Option Nat->Fence
 | none=>Fence.wide
 | some l=>Fence.wide.inRound l
theorem r5 (rl:Option Nat) (f:FuncId):(pU rl).fn f:=by cases rl<;>trivial
theorem Gy (rl:Option Nat):(pU rl).depth=none:=by cases rl<;>rfl
theorem AU (rl:Option Nat) (m:Nat):(pU rl).depth.isSome=true->1<=m:=by rw[Gy];intro h;cases h
theorem tN {m:Nat} {P:q6} {f:FuncId} {args:Array j_} {w:x_} {R:Ending->x_->Prop} (rl:Option Nat) (h:CallsIn Fence.wide m P f args w R):CallsIn (pU rl) m P f args w R:=by
 cases rl with
 | none=>exact h
 | some l=>exact h.inRound l
def DR (D:dD):List DE->List Deferred->Prop
 | [],ds=>ds= []
 | .mark b::d,ds=>∃l r,D b=some l/\ds= {target:=.collected l.eK,args:= #[]}::r/\DR D d r
 | .call f args ca::d,ds=>∃(xs cs:Array j_) (r:List Deferred),ds= {target:=.fn (.func f) cs,args:=xs}::r/\dN D args xs.toList/\dN D ca cs.toList/\DR D d r
theorem DR.mono {D D':dD} (h:D.le D'):∀{d:List DE} {ds:List Deferred},DR D d ds->DR D' d ds
 | [],ds,u=>u
 | .mark b::d,ds,u=>let ⟨l,r,h1,z,h3⟩:=u;⟨l,r,h _ _ h1,z,DR.mono h h3⟩
 | .call f args ca::d,ds,u=>let ⟨xs,cs,r,h1,z,h3,h4⟩:=u;⟨xs,cs,r,h1,dN.mono h _ _ z,dN.mono h _ _ h3,DR.mono h h4⟩
def Wh (D:dD):Ex->Exit->Prop
 | .nt v,E=>∃x,E= .panic [{v:=x,recovered:=false}]/\VR D v x
 | .normal,E=>E= .normal
 | .exit i,E=>E= .exit i
 | .goto i,E=>E= .goto i
 | .ret,E=>E= .ret
def Qx (Q:Exit->Act->x_->Prop) (D:dD) (e:Ex) (a:Act) (w:x_):Prop:=∀E,Wh D e E->Q E a w
def Te (D:dD):KR->Ending->Prop
 | .ret v _,e=>∃x,e= .returned x/\VR D v x
 | .nt v _,e=>∃x,e= .panicked [{v:=x,recovered:=false}]/\VR D v x
 | .err _,_=>False
def KR.heap:KR->aF
 | .ret _ V=>V
 | .nt _ V=>V
 | .err _=>⟨0,.leaf⟩
def RO (D:dD):Option Pos->Option Nat->Prop
 | none,none=>True
 | some b,some l=>∃loc,D b=some loc/\loc.eK=l
 | _,_=>False
theorem RO.mono {D D':dD} (h:D.le D'):∀{ro:Option Pos} {rl:Option Nat},RO D ro rl->RO D' ro rl
 | none,none,_=>trivial
 | some _,some _,⟨loc,h1,d⟩=>⟨loc,h _ _ h1,d⟩
def GR (D:dD) (G:Cx):Prop:=∀g,g<G.gl->∃c,D (posOf g)=some ⟨g,0,c⟩
theorem GR.mono {D D':dD} {G:Cx} (h:D.le D') (u:GR D G):GR D' G:=fun g d=>let ⟨c,z⟩:=u g d;⟨c,h _ _ z⟩
structure kY (w w':x_):Prop where
 os:w'.os=w.os
 out:w'.output=w.output
 tape:w'.tape=w.tape
 size:w.heap.size<=w'.heap.size
 same:∀r:Nat,r<w.heap.size->w'.heap[r]? =w.heap[r]?
def ma (w:x_) (x:Nat×List U):Prop:=∃c e fr,w.heap[x.1]? =some (.cells c e fr)/\x.2.length<=c.size/\∀(i:Nat) (v:U),x.2[i]? =some v->∃y,c[i]? =some y/\VR (fun _=>none) v y
def HO (P:q6) (gl:Nat) (laid:List (Nat×List U)) (f:Nat) (args:List U) (v:U):Prop:=
 ∀(w:x_) (xs:Array j_),gl<=w.heap.size->KV w->(∀x∈laid,ma w x)->dN (fun _=>none) args xs.toList->Calls P f xs w fun e w'=>∃x,e= .returned x/\VR (fun _=>none) v x/\kY w w'
structure DB (P:q6) (G:Cx):Prop where
 ov:∀g,G.ov g=true->vI P g
 KT:∀f args v,G.KT f args=some v->HO P G.gl G.laid f args v
 mem:∀e∈G.mem,True
 KQ:∀f args V v,G.KQ f args V=some v->∀(D:dD) (w:x_) (xs:Array j_),Inv D V w->dN D args xs.toList->Calls P f xs w fun e w'=>∃x D',e= .returned x/\VR D' v x/\Inv D' V w'/\fL D V w D' V w'
structure Sound (P:q6) (G:Cx) (ih:lR):Prop where
 cx:DB P G
 run:∀(c:Code) (t:PT U) (n:Nat) (d:List DE) (ro:Option Pos) (V:aF) (e:Ex) (t':PT U) (d':List DE) (V':aF),ih c t n d ro V= .ok e t' d' V'->
  ∀(D:dD) (w:x_) (a:Act) (rl:Option Nat) (m:Nat) (Q:Exit->Act->x_->Prop),Inv D V w->GR D G->TR D t n a.tmps->DR D d a.defers->RO D ro rl->
   (∀(D':dD) (w':x_) (a':Act),Inv D' V' w'->fL D V w D' V' w'->TR D' t' n a'.tmps->DR D' d' a'.defers->Qx Q D' e a' w')->c.wpIn (pU rl) m P Q a w
section
variable {P:q6} {G:Cx} {D:dD} {V:aF} {w:x_}
theorem TR.set {t:PT U} {n k:Nat} {v:U} {x:j_} (h:TR D t n tmps) (hk:k<n) (hv:VR D v x):TR D (t.put (some v)<|posOf k) n (tmps.setIfInBounds k x):=by
 refine⟨by simpa using h.1,fun j u hu=>?_⟩
 by_cases e:j=k
 ·subst e;rw[PT.dZ] at hu;cases hu;refine⟨hk,?_⟩;have:j<tmps.size:=by rw[h.1];exact hk
  simp_all
 rw[PT.dS _ _ _ _ (fun h'=>e (su h'))] at hu;obtain⟨h1,d⟩:=h.2 j u hu;refine⟨h1,?_⟩
 have:(tmps.setIfInBounds k x).getD j undef=tmps.getD j undef:=by
  simp only[Array.getD_eq_getD_getElem?,Array.getElem?_setIfInBounds]
  grind
 rw[this];exact d
theorem wk {t t':PT U} {n k:Nat} {v:U} (h:dG t n (some k) v=some t'):k<n/\t'=t.put (some v) (posOf k):=by
 unfold dG at h;simp only[bZ] at h;split at h
 ·rename_i hk;cases h;exact⟨Nat.le_of_ble_eq_true hk,Z⟩
 cases h
theorem TR.put {t t':PT U} {n:Nat} {a:Act} {dst:Option Tmp} {v:U} {x:j_} (h:TR D t n a.tmps) (hp:dG t n dst v=some t') (hv:VR D v x):TR D t' n (a.put dst x).tmps:=by
 cases dst with
 | none=>cases hp;exact h
 | some k=>
  obtain⟨hk,rfl⟩:=wk hp;exact h.set hk hv
theorem put_defers (a:Act) (dst:Option Tmp) (x:j_):(a.put dst x).defers=a.defers:=by cases dst<;>rfl
theorem xC:VR D unit undef:=by simp only[unit,VR];exact⟨_,Z,dN.nil⟩
theorem lk {t:PT U} {n:Nat} {a:Act} {v:U} (u:GR D G) (z:TR D t n a.tmps) (h:bz G t x=some v):VR D v (a.eval x):=by
 cases x with
 | tmp k=>exact(z.2 k v h).2
 | const c=>exact re h
 | global g=>
  simp only[bz,bZ] at h;split at h
  ·rename_i d;cases h;obtain⟨c,A⟩:=u g (Nat.le_of_ble_eq_true d);simp only[VR];exact⟨_,A,by simp[Act.eval]⟩
  cases h
 | func f=>
  cases h;simp only[VR];exact⟨_,_,Z,dN.nil,dN.nil⟩
theorem Q0 {t:PT U} {n:Nat} {a:Act} (op:Op) (d:GR D G) (u:TR D t n a.tmps):ER D (bz G t) a.eval op:=fun _ _ _ hv=>lk d u hv
theorem BW {t:PT U} {o:z_} {b:Bool} (h:bK ops t o=some b)
  (z:∀j want k,o.guard=some (j,want)->(ops[j]?).bind (·.dst)=some k->∀v,t.get (posOf k)=some v->k<tmps.size/\VR D v (tmps.getD k undef)):
  Region.wanted o (yielded ops tmps)=b:=by
 unfold bK at h;unfold Region.wanted;cases u:o.guard with
 | none=>simp_all
 | some jw=>
  obtain⟨j,want⟩:=jw;rw[u] at h;dsimp only at h⊢;cases hk:(ops[j]?).bind (·.dst) with
  | none=>
   rw[hk] at h;cases h;simp[yielded,hk]
  | some k=>
   rw[hk] at h;dsimp only at h;cases hv:t.get (posOf k) with
   | none=>rw[hv] at h;cases h
   | some v=>
    rw[hv] at h;obtain⟨aa,hr⟩:=z j want k u hk v hv
    have d:tmps[k]? =some (tmps.getD k undef):=by
     simp_all
    generalize tmps.getD k undef=x at hr d;cases v with
    | bool c=>
     simp only[VR] at hr;subst hr;simp only[yielded,hk,Option.bind_some,d];cases h
     grind
    | tuple cs=>
     simp only[VR] at hr;obtain⟨y,rfl,_⟩:=hr;cases h;simp[yielded,hk,d]
    | _=>cases h
theorem Dv {t:PT U} {o:z_} {b:Bool} {n:Nat} (h:bK ops t o=some b) (d:TR D t n tmps):Region.wanted o (yielded ops tmps)=b:=
 BW h fun _ _ k _ _ v hv=>⟨by rw[d.1];exact(d.2 k v hv).1,(d.2 k v hv).2⟩
theorem F9 {n:Nat} {args:List U} {t:PT U} (h:sX n args=some t) (hv:dN D args xs.toList):TR D t n (xs++Array.replicate (n-xs.size) undef):=by
 have key:∀(args:List U) (ys:List j_) (k:Nat) (t t':PT U),(List.rec (motive:=fun _=>Nat->PT U->Option (PT U)) (fun _ t=>some t) (fun v _ ih k t=>match dG t n (some k) v with | some t'=>ih (Nat.succ k) t' | none=>none) args:Nat->PT U->Option (PT U)) k t=some t'->
   dN D args ys->(∀j v,t.get (posOf j)=some v->j<k/\j<n)->
   (∀j v,t'.get (posOf j)=some v->j<n/\((j<k/\t.get (posOf j)=some v)∨∃y,k<=j/\ys[j-k]? =some y/\VR D v y))/\(args= []∨k+args.length<=n):=by
  intro args;induction args with
  | nil=>
   simp_all
  | cons v args ih=>
   intro ys k t t' h hv ht;obtain⟨x,r,rfl,h1,B⟩:=hv.cons_inv;dsimp only at h;cases hp:dG t n (some k) v with
   | none=>rw[hp] at h;cases h
   | some t₁=>
    rw[hp] at h;obtain⟨hk,rfl⟩:=wk hp
    obtain⟨g1,C⟩:=ih r (k+1) _ t' h B (fun j u hj=>by
     by_cases e:j=k
     ·omega
     rw[PT.dS _ _ _ _ (fun h'=>e (su h'))] at hj
     grind)
    refine⟨fun j u hj=>?_,.inr ?_⟩
    ·obtain⟨q1,q2⟩:=g1 j u hj;refine⟨q1,?_⟩;rcases q2 with ⟨d,z⟩ | ⟨y,hle,A,hr⟩
     ·by_cases e:j=k
      ·subst e;rw[PT.dZ] at z;simp_all
      rw[PT.dS _ _ _ _ (fun h'=>e (su h'))] at z
      simp_all
     grind
    grind
 obtain⟨g1,C⟩:=key args xs.toList 0 .leaf t h hv (fun j v hj=>by rw[PT.nd] at hj;cases hj);have hlen:=hv.length
 have hle:xs.size<=n:=by
  grind
 refine⟨by simp;omega,fun j v hj=>?_⟩;obtain⟨q1,q2⟩:=g1 j v hj;refine⟨q1,?_⟩;rcases q2 with ⟨d,_⟩ | ⟨y,_,A,hr⟩
 ·omega
 rw[Nat.sub_zero] at A;have aa:j<xs.size:=by grind
 simp_all
def NC (tmps:Array j_):ResultVar->Sem j_
 | .tmp t=>pure (tmps.getD t undef)
 | .cell a t=>do loadVar t (<-asAddr (tmps.getD a undef))
theorem uf (fn:Func) (tmps:Array j_):results fn tmps=(fn.results.mapM (NC tmps)>>= fun vs=>pure (if h:vs.size=1 then vs[0] else .tuple vs)):=rfl
theorem C9 (hi:Inv D V w) {t:PT U} {n:Nat} (z:TR D t n tmps) {r:ResultVar} {v:U} (h:il P t V r=some v):
  ∃x,(NC tmps r).run P w= .ok x w/\VR D v x:=by
 cases r with
 | tmp k=>exact⟨_,Z,(z.2 k v h).2⟩
 | cell k ty=>
  simp only[il] at h;cases hk:t.get (posOf k) with
  | none=>rw[hk] at h;cases h
  | some u=>
   rw[hk] at h;have hvx:=(z.2 k u hk).2;cases u with
   | ptr b off=>
    dsimp only at h;cases d:V.m.get b with
    | none=>rw[d] at h;cases h
    | some ob=>
     rw[d] at h;cases ob with
     | row cells e ro=>
      simp only[VR] at hvx;obtain⟨l,hl,aa⟩:=hvx;obtain⟨y,hy,hr⟩:=oE (P:=P) hi d hl h
      grind [NC,asAddr]
     | _=>cases h
   | _=>cases h
theorem ry (hi:Inv D V w) {t:PT U} {n:Nat} {tmps:Array j_} (z:TR D t n tmps):∀{rs:List ResultVar} {vs:List U},dv (il P t V) rs=some vs->
  ∃xs:List j_,(rs.mapM (NC tmps):Sem (List j_)).run P w= .ok xs w/\dN D vs xs
 | [],vs,h=>by rw[lT] at h;cases h;exact⟨[],by simp,dN.nil⟩
 | r::rs,vs,h=>by
  obtain⟨y,r',h1,A,rfl⟩:=kz h;obtain⟨x,hx,hv⟩:=C9 (P:=P) hi z h1;obtain⟨xs,d,u⟩:=ry hi z A;refine⟨x::xs,?_,dN.cons hv u⟩;simp only[List.mapM_cons,sB_,hx,rA,d,sP_]
theorem As (hi:Inv D V w) {fn:Func} {t:PT U} {n:Nat} (A:TR D t n tmps) {v:U} (h:fO P fn t V=some v):
  ∃x,(results fn tmps).run P w= .ok x w/\VR D v x:=by
 unfold fO at h;cases d:dv (il P t V) fn.results.toList with
 | none=>rw[d] at h;cases h
 | some vs=>
  rw[d] at h;obtain⟨xs,hx,hv⟩:=ry (P:=P) hi A d
  have hm:(fn.results.mapM (NC tmps):Sem (Array j_)).run P w= .ok xs.toArray w:=by
   grind [Array.mapM_eq_mapM_toList,Sem.run_map,rA]
  cases vs with
  | nil=>
   cases h;have:=hv.fR;subst this;refine⟨.tuple #[],by rw[uf,sB_,hm];rfl,by simp only[VR];simp_all⟩
  | cons u us=>
   obtain⟨x,r,rfl,h1,z⟩:=hv.cons_inv;cases us with
   | nil=>
    cases h;have:=z.fR;subst this;exact⟨x,by rw[uf,sB_,hm];rfl,h1⟩
   | cons u' us=>
    cases h;obtain⟨x',r',rfl,h3,h4⟩:=z.cons_inv;refine⟨.tuple (x::x'::r').toArray,by rw[uf,sB_,hm];rfl,by simp only[VR];simp_all⟩
end
variable {Q:Exit->Act->x_->Prop} {cs₁:List U} {l₁:Loc} {o₁ ve:Nat} {b₁:Pos} {res:Result Next} {w₁:x_} {σ₁:aF} {ρ₁:dD} {ih:lR}
theorem xE {p q:Pos} (h:eM.beqP p q=true):p=q:=nB h
theorem OQ {c d:ou} (h:eM.beqC c d=true):c=d:=by
 unfold eM.beqC at h
 grind [nB]
theorem HU {x y:U} (h:eM.dV x y=true):x=y:=by
 unfold eM.dV at h;split at h
 ·grind
 ·rw[bA_,eB,decide_eq_true_eq] at h;rw[qS h.1,h.2]
 ·rw[yA,decide_eq_true_eq] at h;rw[h]
 ·rfl
 ·simp_all
 ·rw[bA_] at h;rw[xE h.1,nB h.2]
 ·rfl
 ·simp only[bA_] at h;grind [xE,nB,OQ]
 ·rfl
 ·rw[xE h]
 ·rfl
 ·rfl
 ·simp_all
 ·simp only[bA_] at h;grind [nB,xE]
 cases h
theorem xD:∀{xs ys:List U},eM.beqL xs ys=true->xs=ys
 | [],[],_=>rfl
 | [],_::_,h=>by cases h
 | _::_,[],h=>by cases h
 | x::xs,y::ys,h=>by
  have h':(bif eM.dV x y then eM.beqL xs ys else false)=true:=h;rw[bZ] at h';split at h'
  ·rename_i hb;rw[HU hb,xD h']
  cases h'
theorem OO {x y:U} (h:eM x y=true):x=y:=by
 unfold eM at h;split at h
 ·rw[xD h]
 exact HU h
theorem GQ (E:Nat->y_) {l:List (Nat×List U)} {b:Nat} {o:cU} (h:(Mt l E).get b=some o):∃x∈l,x.1=b/\o= .row x.2 (E x.1) true:=by
 have key:∀(l:List (Nat×List U)) (m:PT cU),(l.foldl (fun m x=>m.put (some (.row x.2 (E x.1) true)) (posOf x.1)) m).get b=some o->(∃x∈l,x.1=b/\o= .row x.2 (E x.1) true)∨m.get b=some o:=by
  intro l;induction l with
  | nil=>simp_all
  | cons x l ih=>
   intro m h;rcases ih _ h with ⟨y,h1,h2⟩ | h
   ·grind
   rw[PT.mF] at h
   grind
 rcases key l _ h with h | h
 ·exact h
 rw[PT.nd] at h;cases h
section
variable {P:q6} {G:Cx} {D:dD} {V:aF} {w:x_}
theorem EX (z:∀g,G.ov g=true->vI P g) {ev:q_->Option U} {f:q_->j_} {o:z_} {r:HR} (hi:Inv D V w) (u:ER D ev f o.op) (h:dX P G ev V o.op=r) (d:∀n,r≠ .err n):Ag P D V w r ((execOp f o).run P w):=by
 subst h;unfold dX at d⊢;cases hk:kindOf P o.op with
 | pure=>
  rw[hk] at d;dsimp only at d⊢;cases hp:dO P ev o.op with
  | none=>simp_all
  | some v=>
   obtain⟨x,hx,hv⟩:=zJ (P:=P) (w:=w) u hp;rw[hx];exact .val hv hi<|fL.refl D V w
 | read=>
  rw[hk] at d;dsimp only at d⊢;cases hp:ie P ev V o.op with
  | none=>simp_all
  | some v=>
   obtain⟨x,hx,hv⟩:=zQ (P:=P) hi u hp;rw[hx];exact .val hv hi<|fL.refl D V w
 | alloc=>
  rw[hk] at d;dsimp only at d⊢;cases hp:gb P ev o.op with
  | none=>simp_all
  | some p=>
   obtain⟨ob,mk⟩:=p;obtain⟨x,ob',n,hx,aa,A,hv⟩:=wE (P:=P) (w:=w) u hp;obtain⟨inv,st⟩:=hi.alloc (l:=⟨w.heap.size,0,n⟩) Z A;rw[hx];exact .val (hv _ _<|dD.dk _ _ _) inv st
 | ld=>
  rw[hk] at d;exact Ew z hi u Z d
theorem xd {ev:q_->Option U} {o:z_} (d:∀n,dX P G ev V o.op≠ .err n) (c:Call):o.op≠ .defer c:=by
 intro e;rw[e] at d;exact d 16 Z
def S5 (D:dD):Md->FrameMode->Prop
 | .ret,u=>u= .returning
 | .nt v,u=>∃x,u= .panicking [{v:=x,recovered:=false}]/\VR D v x
 | .VC v,u=>∃x,u= .panicking [{v:=x,recovered:=true}]/\VR D v x
theorem S5.mono {D D':dD} (h:D.le D'):∀{md:Md} {u:FrameMode},S5 D md u->S5 D' md u
 | .ret,_,h'=>h'
 | .nt _,_,⟨x,h1,d⟩=>⟨x,h1,VR.mono h _ _ d⟩
 | .VC _,_,⟨x,h1,d⟩=>⟨x,h1,VR.mono h _ _ d⟩
theorem w8 (hS:Sound P G ih) {fn:Func} {m:Nat} {R:Ending->x_->Prop}:∀(d:List DE) (ds:List Deferred) (md:Md) (V:aF) (z:Md) (σ₁:aF) (D:dD) (w:x_) (u:FrameMode),zf P G ih d md V=some (z,σ₁)->DR D d ds->Inv D V w->GR D G->S5 D md u->
  (∀(D':dD) (w':x_) (u':FrameMode),Inv D' σ₁ w'->fL D V w D' σ₁ w'->S5 D' z u'->LeavesIn Fence.wide m P fn tmps R [] u' w')->LeavesInM Fence.wide m P fn tmps R ds u w
 | [],ds,md,V,z,σ₁,D,w,u,h,A,hi,B,hm,hk=>by
  have h':some (md,V)=some (z,σ₁):=h;cases h';have:ds= []:=A;subst this;exact hk D w u hi (fL.refl D V w) hm
 | _::_,ds,md,V,z,σ₁,D,w,u,h,A,hi,B,hm,hk=>by cases h
theorem vU (C:Sound P G ih) {fn:Func} {m n:Nat} {t:PT U} {d:List DE} {md:Md} {r:KR} {a:Act} {u:FrameMode} {R:Ending->x_->Prop} (h:Al P G ih fn md t d V=r) (aa:∀n,r≠ .err n) (hi:Inv D V w) (K:GR D G) (Q:TR D t n a.tmps) (L:DR D d a.defers) (hm:S5 D md u)
  (M:∀(D':dD) (w':x_) (E:Ending),Inv D' r.heap w'->fL D V w D' r.heap w'->Te D' r E->R E w'):LeavesInM Fence.wide m P fn a.tmps R a.defers u w:=by
 unfold Al at h;cases hl:zf P G ih d md V with
 | none=>grind
 | some q=>
  obtain⟨B,σ₁⟩:=q;rw[hl] at h;cases B with
  | ret=>
   dsimp only at h;cases hr:fO P fn t σ₁ with
   | none=>grind
   | some v=>
    rw[hr] at h;subst h;refine w8 C d a.defers md V _ _ D w u hl L hi K hm fun D' w' u' A st' z=>?_
    have z:u'= .returning:=z;subst z;obtain⟨x,hx,hv⟩:=As (P:=P) A (Q.mono<|st'.le hi) hr;exact⟨x,hx,M D' w' _ A st' ⟨x,Z,hv⟩⟩
  | nt v=>
   dsimp only at h;subst h;refine w8 C d a.defers md V _ _ D w u hl L hi K hm fun D' w' u' A st' z=>?_
   obtain⟨x,rfl,hv⟩:=z;exact M D' w' _ A st' ⟨x,Z,hv⟩
  | VC v=>grind
theorem AF (C:Sound P G ih) {f:Nat} {args:List U} {r:KR} (h:lV P G ih f args V=r) (B:∀n,r≠ .err n) (hi:Inv D V w) (K:GR D G) (hx:dN D args xs.toList)
  (rl:Option Nat) (m:Nat) {R:Ending->x_->Prop} (L:∀(D':dD) (w':x_) (E:Ending),Inv D' r.heap w'->fL D V w D' r.heap w'->Te D' r E->R E w'):CallsIn (pU rl) m P f xs w R:=by
 refine tN rl ?_;unfold lV at h;cases hf:P.funcs[f]? with
 | none=>grind
 | some fn=>
 rw[hf] at h;dsimp only at h;cases hb:fn.body with
 | none=>grind
 | some c=>
 cases M:sX fn.ntmps args with
 | none=>grind
 | some t=>
 rw[hb,M] at h;dsimp only at h;refine callsIn_of_wp_marks hf hb trivial ?_;have ht:=F9 M hx;cases S:ih c t fn.ntmps [] none V with
 | err k=>grind
 | ok e t' d' σ₁=>
  rw[S] at h;have hcode:=fun(Q:Exit->Act->x_->Prop) T=>C.run c t fn.ntmps [] none V e t' d' σ₁ S D w {tmps:=xs++Array.replicate (fn.ntmps-xs.size) undef,defers:=[]} none m Q hi K ht Z trivial T
  cases e with
  | normal=>
   refine hcode _ fun D' w' a' u st z A E d=>?_
   have d:E= .normal:=d;subst d;exact vU C h B u (K.mono<|st.le hi) z A (md:=.ret) Z fun ρ₂ w₂ E i₂ s₂ d=>L ρ₂ w₂ E i₂ (st.trans s₂) d
  | ret=>
   refine hcode _ fun D' w' a' u st z A E d=>?_
   have d:E= .ret:=d;subst d;exact vU C h B u (K.mono<|st.le hi) z A (md:=.ret) Z fun ρ₂ w₂ E i₂ s₂ d=>L ρ₂ w₂ E i₂ (st.trans s₂) d
  | nt v=>
   refine hcode _ fun D' w' a' u st z A E d=>?_
   obtain⟨x,rfl,hv⟩:=d;exact vU C h B u (K.mono<|st.le hi) z A (md:=.nt v) ⟨x,Z,hv⟩ fun ρ₂ w₂ E i₂ s₂ d=>L ρ₂ w₂ E i₂ (st.trans s₂) d
  | exit i=>grind
  | goto i=>grind
theorem nM (d:Sound P G ih) {f:Nat} {args:List U} {V':aF} {v:U} (h:lV P G ih f args V= .ret v V') (hi:Inv D V w) (u:GR D G) (hx:dN D args xs.toList)
  (rl:Option Nat) (m:Nat) {R:Ending->x_->Prop} (z:∀(D':dD) (w':x_) (x:j_),Inv D' V' w'->fL D V w D' V' w'->VR D' v x->R (.returned x) w'):CallsIn (pU rl) m P f xs w R:=
 AF d h (fun n h=>by cases h) hi u hx rl m fun D' w' E i s ⟨x,A,hv⟩=>by subst A;exact z D' w' x i s hv
theorem oY {D D':dD} {v:U} {x:j_} (h:nZ v=true) (hv:VR D v x):VR D' v x:=by
 cases v<;>first | (simp[nZ] at h;done) | (simp only[VR] at hv⊢;exact hv)
theorem uy {v:U} {l:List U} (h:fl (v::l)=true):nZ v=true/\fl l=true:=by
 have h':(bif nZ v then fl l else false)=true:=h
 simp_all
theorem lS:∀{l:List U},fl l=true->∀v∈l,nZ v=true
 | [],_,v,hv=>by cases hv
 | x::l,h,v,hv=>by
  obtain⟨h1,d⟩:=uy h;rcases mQ_.1 hv with rfl | hv
  ·exact h1
  exact lS d v hv
theorem wD {D D':dD}:∀{vs:List U} {xs:List j_},fl vs=true->dN D vs xs->dN D' vs xs
 | [],xs,_,h=>by rw[h.fR];exact dN.nil
 | v::vs,xs,h,hv=>by
  obtain⟨h1,d⟩:=uy h;obtain⟨x,r,rfl,h3,h4⟩:=hv.cons_inv;exact dN.cons (oY h1 h3)<|wD d h4
theorem Ju {x y:U} (h:Cv x y=true):x=y:=by
 unfold Cv at h;split at h
 ·grind
 ·rw[bA_,eB,decide_eq_true_eq] at h;rw[qS h.1,h.2]
 ·rw[yA,decide_eq_true_eq] at h;rw[h]
 ·rfl
 ·rfl
 ·rfl
 ·rfl
 ·rfl
 cases h
theorem pS:∀{xs ys:List U},lJ xs ys=true->xs=ys
 | [],[],_=>rfl
 | [],_::_,h=>by cases h
 | _::_,[],h=>by cases h
 | x::xs,y::ys,h=>by
  have h':(bif Cv x y then lJ xs ys else false)=true:=h;rw[bZ] at h';split at h'
  ·rename_i hb;rw[Ju hb,pS h']
  cases h'
theorem vk (v:U):∀(n:Nat),II n v=replicate n v
 | 0=>rfl
 | n+1=>by show v::II n v=_;rw[vk v n,List.replicate_succ]
theorem kY.inv {w w':x_} (hk:kY w w') (hi:Inv D V w):Inv D V w'/\fL D V w D V w':=
 hi.of ⟨⟨hi.fresh,fun b l hb=>zh_ (hi.eK b l hb) hk.size,fun b o l hb hl=>let ⟨x,hx,d⟩:=hi.obj b o l hb hl;⟨x,by rw[hk.same _<|hi.eK b l hl];exact hx,d⟩,hi.inj⟩,
  ⟨fun _ _=>Z,nR_ _,hk.size,fun r hr _=>hk.same r hr,fun _ h _=>h,hk.tape,hk.os,hk.out⟩⟩
theorem H8 {b vb:Pos} {o o':cU} (x:Pos):(fE V b o vb o').m.get x=if x=vb then some o' else if x=b then some o else none:=by
 unfold fE;rw[PT.mF,PT.mF,PT.nd]
theorem QD (hi:Inv D V w) {b vb:Pos} {o o₁ o':cU} {l:Loc} (hb:V.m.get b=some o) (aa:V.m.get vb=some o') (hl:D b=some l) (ab:o.ro=o₁.ro)
  (ho:∀x,iD D l o x->iD D l o₁ x):Inv D (fE V b o₁ vb o') w:=by
 have back:∀x q,(fE V b o₁ vb o').m.get x=some q->∃q',V.m.get x=some q'/\q.ro=q'.ro/\((x=b/\q=o₁)∨q=q'):=fun x q h=>by
  rw[H8] at h
  grind
 refine⟨⟨fun x hx=>⟨(hi.fresh x hx).1,?_⟩,hi.eK,fun x q lx hx d=>?_,fun x y q r lx ly hx B d u he z=>?_⟩,hi.oH.size,hi.oH.same,fun r hr ⟨x,q,l',h1,A,h3,h4⟩=>?_⟩
 ·cases hq:(fE V b o₁ vb o').m.get x with
  | none=>rfl
  | some q=>
   obtain⟨q',h',_⟩:=back x q hq;rw[(hi.fresh x hx).2] at h';cases h'
 ·obtain⟨q',h',_,h''⟩:=back x q hx;obtain⟨y,B,hr⟩:=hi.obj x q' lx h' d
  grind
 ·obtain⟨q',h1,A,_⟩:=back x q hx;obtain⟨r',h3,h4,_⟩:=back y r B;rw[A,h4];exact hi.inj x y q' r' lx ly h1 h3 d u he z
 obtain⟨q',h5,C,_⟩:=back x q h1;exact hi.oH.no r hr ⟨x,q',l',h5,by rw[<-C];exact A,h3,h4⟩
theorem JK (hi:Inv D V w) {b vb:Pos} {cells cells' vc:List U} {l lv:Loc} (hb:V.m.get b=some (.row cells e false)) (K:V.m.get vb=some (.row vc ve false)) (M:D b=some l) (u:D vb=some lv)
  (am:b≠vb) (i₁:Inv ρ₁ σ₁ w₁) (s₁:fL D (fE V b (.row cells' e false) vb (.row vc ve false)) w ρ₁ σ₁ w₁) {k:Nat}
  (g₁:σ₁.m.get b₁=some (.row cs₁ e false)) (hl₁:ρ₁ b₁=some l₁) (gv:σ₁.m.get vb=some (.row vc ve false)) (hne₁:b₁≠vb) (ao:fl vc=true) (hk:o₁+k<=cs₁.length) (ap:fl ((cs₁.drop o₁).take k)=true):
  B7 (D.with V.next ⟨l₁.eK,l₁.sh+o₁,l₁.cells-o₁⟩) ((V.drop b).alloc (.row ((cs₁.drop o₁).take k) e false)) w₁/\
   fL D V w (D.with V.next ⟨l₁.eK,l₁.sh+o₁,l₁.cells-o₁⟩) ((V.drop b).alloc (.row ((cs₁.drop o₁).take k) e false)) w₁:=by
 have hle:=hi.xU ⟨l₁.eK,l₁.sh+o₁,l₁.cells-o₁⟩;have L:((V.drop b).alloc (.row ((cs₁.drop o₁).take k) e false)).m.get V.next=some (.row ((cs₁.drop o₁).take k) e false):=PT.dZ _ _ _
 have ab:∀x,x≠V.next->((V.drop b).alloc (.row ((cs₁.drop o₁).take k) e false)).m.get x=if x=b then none else V.m.get x:=fun x hx=>by
  show((V.m.put none b).put _ V.next).get x=_;rw[PT.dS _ _ _ _ hx,PT.mF]
 have oH:∀x q,x≠V.next->((V.drop b).alloc (.row ((cs₁.drop o₁).take k) e false)).m.get x=some q->x≠b/\V.m.get x=some q:=fun x q hx h=>by
  simp_all
 have hold:∀x lx,x≠V.next->(D.with V.next ⟨l₁.eK,l₁.sh+o₁,l₁.cells-o₁⟩) x=some lx->D x=some lx:=fun x lx hx h=>by rwa[dD.eN D _ hx] at h
 have T:∀x:Pos,x.num<V.next.num->x≠V.next:=fun x hx e=>by simp_all
 have Q:∀r,Wr D (fE V b (.row cells' e false) vb (.row vc ve false)) r->r=l.eK∨r=lv.eK:=fun r ⟨x,q,lx,h1,C,h3,h4⟩=>by
  rw[H8] at h1
  grind
 have wrs:∀r,Wr D (fE V b (.row cells' e false) vb (.row vc ve false)) r->Wr D V r:=fun r h=>by
  rcases Q r h with rfl | rfl
  ·exact⟨b,_,l,hb,Z,M,Z⟩
  exact⟨vb,_,lv,K,Z,u,Z⟩
 have away:∀x q lx,x≠b->x≠vb->V.m.get x=some q->D x=some lx->lx.eK≠l.eK/\lx.eK≠lv.eK:=fun x q lx h1 C h3 h4=>by
  constructor
  ·intro he;have:=(hi.inj x b q _ lx l h3 hb h4 M he h1).2;simp[cU.ro] at this
  intro he;have:=(hi.inj x vb q _ lx lv h3 K h4 u he C).2;simp[cU.ro] at this
 have ac:∀x q lx,x≠b->V.m.get x=some q->D x=some lx->lx.eK≠l₁.eK:=fun x q lx h1 h3 h4 he=>by
  have hlt:=hi.eK x lx h4;have hw:Wr ρ₁ σ₁ lx.eK:=⟨b₁,_,l₁,g₁,Z,hl₁,he.symm⟩
  by_cases C:x=vb
  ·subst C;rw[u] at h4;cases h4;have B:ρ₁ x=some lv:=s₁.ext x (hi.G0 u) |>.trans u;have:=(i₁.inj b₁ x _ _ l₁ lv g₁ gv hl₁ B he.symm hne₁).1;simp[cU.ro] at this
  obtain⟨a1,a2⟩:=away x q lx h1 C h3 h4;rcases Q _ (s₁.wr _ hw hlt) with h | h
  ·exact a1 h
  exact a2 h
 have flatObj:∀{l':Loc} {c:List U} {e':Nat} {y:Obj} {ρa ρb:dD},fl c=true->iD ρa l' (.row c e' false) y->iD ρb l' (.row c e' false) y:=fun hc ho=>by
  obtain⟨c',fr,h1,C,h3,h4,h5⟩:=ho;exact⟨c',fr,h1,C,h3,fun i v hv=>let ⟨z,hz,W⟩:=h4 i v hv;⟨z,hz,oY (lS hc v<|gB_ hv) W⟩,h5⟩
 constructor
 ·refine⟨fun x hx=>?_,fun x lx d=>?_,fun x q lx hx d=>?_,fun x y q r lx ly hx S d X he R=>?_⟩
  ·have E:V.next.num+1<=x.num:=by simpa [aF.alloc,aF.drop,Pos.jy] using hx
   have A:x≠V.next:=fun e=>by subst e;omega
   have hf:=hi.fresh x oM
   grind [dD.eN]
  ·by_cases A:x=V.next
   ·subst A;rw[dD.dk] at d;cases d;exact i₁.eK b₁ l₁ hl₁
   exact zh_ (hi.eK x lx<|hold x lx A d) s₁.size
  ·by_cases A:x=V.next
   ·subst A;rw[L] at hx;rw[dD.dk] at d;cases hx;cases d;obtain⟨c,fr,h1,C,h3,h4,h5⟩:=i₁.row g₁ hl₁;refine⟨_,h1,c,fr,Z,?_,?_,fun i v hv=>?_,fun _ j hj=>h5 Z j (by grind)⟩
    ·grind
    ·grind
    grind [oY,lS]
   obtain⟨aq,E⟩:=oH x q A hx;have hlx':=hold x lx A d
   by_cases aa:x=vb
   ·subst aa;rw[K] at E;cases E;rw[u] at hlx';cases hlx';have B:ρ₁ x=some lv:=(s₁.ext x<|hi.G0 u).trans u;obtain⟨y,S,hr⟩:=i₁.obj x _ lv gv B
    grind
   obtain⟨y,S,hr⟩:=hi.obj x q lx E hlx';refine⟨y,?_,hr.mono hle⟩;rw[s₁.frame _ (hi.eK x lx hlx') (fun h=>?_)]
   ·exact S
   grind
  by_cases e1:x=V.next<;>by_cases e2:y=V.next
  ·simp_all
  ·grind [dD.dk]
  ·grind [dD.dk]
  exact hi.inj x y q r lx ly (oH x q e1 hx).2 (oH y r e2 S).2 (hold x lx e1 d) (hold y ly e2 X) he R
 refine⟨fun x hx=>dD.eN D _ (T x hx),by simp[aF.alloc,aF.drop,Pos.jy],s₁.size,fun r hr hn=>s₁.frame r hr fun h=>hn (wrs r h),?_,s₁.tape,s₁.os,s₁.out⟩;rintro r ⟨x,q,lx,h1,C,h3,rfl⟩ hr
 by_cases e1:x=V.next
 ·subst e1;rw[dD.dk] at h3;cases h3;exact wrs _ (s₁.wr _ ⟨b₁,_,l₁,g₁,Z,hl₁,Z⟩ hr)
 exact⟨x,q,lx,(oH x q e1 h1).2,C,hold x lx e1 h3,Z⟩
theorem GN (hi:Inv D V w) {b vb:Pos} {cells cells' vc:List U} {l lv:Loc} (hb:V.m.get b=some (.row cells e false)) (d:V.m.get vb=some (.row vc ve false)) (u:D b=some l) (z:D vb=some lv)
  (A:b≠vb) (i₁:Inv ρ₁ σ₁ w₁) (s₁:fL D (fE V b (.row cells' e false) vb (.row vc ve false)) w ρ₁ σ₁ w₁) {k:Nat}
  (g₁:σ₁.m.get b₁=some (.row cs₁ e false)) (hl₁:ρ₁ b₁=some l₁) (gv:σ₁.m.get vb=some (.row vc ve false)) (hne₁:b₁≠vb) (B:fl vc=true) (hk:o₁+k<=cs₁.length) (C:fl ((cs₁.drop o₁).take k)=true):
  Inv (D.with V.next ⟨l₁.eK,l₁.sh+o₁,l₁.cells-o₁⟩) ((V.drop b).alloc (.row ((cs₁.drop o₁).take k) e false)) w₁/\
   fL D V w (D.with V.next ⟨l₁.eK,l₁.sh+o₁,l₁.cells-o₁⟩) ((V.drop b).alloc (.row ((cs₁.drop o₁).take k) e false)) w₁:=hi.of (JK hi hb d u z A i₁ s₁ g₁ hl₁ gv hne₁ B hk C)
theorem GZ {r:KR} {v:U} {V':aF} (h:tV r= .ret v V'):r= .ret v V':=by
 unfold tV at h
 grind
theorem GY (r:KR) (v:U) (V':aF):tV r≠ .nt v V':=by
 unfold tV
 grind
theorem Gz (hS:Sound P G ih) {f:Nat} {args:List U} {V':aF} {v:U} (h:H5 P G ih f args V= .ret v V') (hi:Inv D V w) (hg:GR D G) (hx:dN D args xs.toList)
  (rl:Option Nat) (m:Nat) {R:Ending->x_->Prop} (X:∀(D':dD) (w':x_) (x:j_),Inv D' V' w'->fL D V w D' V' w'->VR D' v x->R (.returned x) w'):CallsIn (pU rl) m P f xs w R:=by
 unfold H5 at h;split at h
 ·rename_i b off n sz i vb voff q mc;split at h
  ·rename_i cells e vc ve hb E;rw[bZ] at h;split at h
   ·rename_i hc;simp only[bA_,nE_,beq_eq,cH] at hc;obtain⟨K,bi,ab,bj,ac,hlen⟩:=hc;subst ab;have L:b≠vb:=fun e=>by subst e;rw[qe] at K;simp at K
    split at h
    ·rename_i n1 r1 n2 r2 am ao;rw[bZ] at h;split at h
     ·rename_i hq;rw[bA_] at hq;have en:=nB hq.1;have er:=pS hq.2;subst en;subst er;cases h;obtain⟨x1,rr,e1,hs,ap⟩:=hx.cons_inv;obtain⟨x2,rr',rfl,bm,aq⟩:=ap.cons_inv;obtain⟨x3,rr'',rfl,ar,a0⟩:=aq.cons_inv;have:=a0.fR;subst this;simp only[VR] at hs;obtain⟨l,hl,hd⟩:=hs
      have a1:∃c,x1= .slice (some ⟨l.eK,l.sh+off,none⟩) n c/\n<=c/\off+c*sz=l.cells:=by
       grind
      obtain⟨c,rfl,bq,aa⟩:=a1;have hvv':=ar;simp only[VR] at hvv';obtain⟨lv,a2,_⟩:=hvv'
      have go:∀(cells':List U) (cap:ou) (okc:ou->Nat->Bool),(∀x,iD D l (.row cells e false) x->iD D l (.row cells' e false) x)->
        sb vb vc ve e sz (lV P G ih f [.slice b off n cap,i,.slice vb voff 1 (.known mc)]<|fE V b (.row cells' e false) vb (.row vc ve false)) okc=some (n1,r1)->
        VR D (.slice b off n cap) (.slice (some ⟨l.eK,l.sh+off,none⟩) n c)->
        (∀z u A n1 l1 B x,okc z n1=true->1<=n1->B u=some l1->VR B (.slice u A n1 z) x->∃c',x= .slice (some ⟨l1.eK,l1.sh+A,none⟩) n1 c'/\n1<=c'/\A+c'*sz=l1.cells)->
        CallsIn (pU rl) m P f xs w R:=by
       intro cells' cap okc M d be a3;unfold sb at d;split at d
       ·rename_i u A br z σ1 C;split at d
        ·rename_i bs bt bv bw g1 gv;rw[bZ] at d;split at d
         ·rename_i Q;simp only[bA_,nE_,beq_eq,cH] at Q;obtain⟨k1,k2,k3,k4,k5,k6,k7,k8⟩:=Q;cases d;have S:u≠vb:=fun e=>by subst e;rw[qe] at k2;simp at k2
          have ev:=pS k3;subst ev;subst k4;subst k5;have hiL:=QD hi (o₁:=.row cells' e false) hb E hl Z M;refine nM hS C hiL hg ?_ rl m fun B w1 x i1 s1 T=>?_
          ·grind [dN.cons]
          obtain⟨l1,W⟩:∃l1,B u=some l1:=by
           cases z<;>simp only[VR] at T
           ·grind
           ·grind
           grind
          obtain⟨c',rfl,a4,bI⟩:=a3 z u A n1 l1 B x k1 k6 W T;rw[ed,eR] at k8 X;obtain⟨iJ,sJ⟩:=GN (k:=n1*sz) hi hb E hl a2 L i1 s1 g1 W gv S ac k7 k8;refine X _ w1 _ iJ sJ ?_;simp only[VR];refine⟨_,dD.dk _ _ _,.inl ⟨c',Z,a4,?_⟩⟩
          grind
         cases d
        cases d
       cases d
      by_cases a5:c=n
      ·subst a5;refine go cells (.known c) (GM sz) (fun _ h=>h) am (by simp only[VR];simp_all) fun z u A n1 l1 B x h1 h2 h3 h4=>?_
       unfold GM at h1
       grind [nB,VR]
      have a9:n+1<=c:=by omega
      refine go (iw (takeN cells (off+n*sz))<|II sz .any) (.least (Nat.succ n) sz) (CH sz) (fun x ho=>?_) ao (by simp only[VR];simp_all) fun z u A n1 l1 B x h1 h2 h3 h4=>?_
      ·obtain⟨cc,fr,h1,h2,h3,h4,h5⟩:=ho;have hmul:(n+1)*sz<=c*sz:=nM_ _ a9;have b0:(n+1)*sz=n*sz+sz:=Nat.succ_mul n sz;refine⟨cc,fr,h1,h2,?_,fun j v hv=>?_,h5⟩
       ·rw[eD,ed,vk,lA_,lT_,List.length_replicate];omega
       rw[eD,ed,vk] at hv
       by_cases hj:j<off+n*sz
       ·grind
       have bb:j<(cells.take (off+n*sz)++replicate sz U.any).length:=(gA.1 hv).1;rw[lA_,lT_,List.length_replicate] at bb;rw[gR_ (by simp_all),List.getElem?_replicate] at hv;split at hv
       ·cases hv;have:l.sh+j<cc.size:=by omega
        exact⟨cc[l.sh+j],aG_ this,by simp only[VR]⟩
       cases hv
      unfold CH at h1;split at h1
      ·rename_i a s;rw[bA_,nE_] at h1
       grind [nB,VR]
      cases h1
     cases h
    cases h
   cases h
  cases h
 exact nM hS h hi hg hx rl m X
theorem GR.size (hi:Inv D V w) (d:GR D G):G.gl<=w.heap.size:=by
 cases aa:G.gl with
 | zero=>exact zero_le _
 | succ g=>
  obtain⟨c,u⟩:=d g oM;have:=hi.eK _ _ u;exact this
theorem uQ (hi:Inv D V w) (B:GR D G):∀(l:List (Nat×List U)),oD G.gl V l=true->∀x∈l,ma w x
 | [],_,x,hx=>by cases hx
 | y::l,h,x,hx=>by
  have h':(bif ble (Nat.succ y.1) G.gl then(match V.m.get y.1 with
   | some (.row cells _ true)=>bif fl y.2 then(bif lJ cells y.2 then oD G.gl V l else false) else false
   | _=>false) else false)=true:=h
  rw[bZ] at h';split at h'
  ·rename_i d;rw[nE_] at d;split at h'
   ·rename_i cells e hb;rw[bZ] at h';split at h'
    ·rename_i hf;rw[bZ] at h';split at h'
     ·rename_i he;have:=pS he;subst this;rcases mQ_.1 hx with rfl | hx
      ·obtain⟨cn,C⟩:=B x.1 d;obtain⟨c,fr,h1,E,h3,h4,_⟩:=hi.row hb C;have u:c.size=cn:=by simpa using E
       have A:x.2.length<=cn:=h3;refine⟨c,e,fr,h1,by rw[u];exact A,fun i v hv=>?_⟩;obtain⟨z,K,aa⟩:=h4 i v hv;simp only[nA_] at K
       grind [oY,lS]
      exact uQ hi B l h' x hx
     cases h'
    cases h'
   cases h'
  cases h'
theorem yh (d:Sound P G ih) {f:Nat} {args:List U} {V':aF} {v:U} (h:mX P G ih f args V= .ret v V') (hi:Inv D V w) (z:GR D G) (hx:dN D args xs.toList)
  (rl:Option Nat) (m:Nat) {R:Ending->x_->Prop} (K:∀(D':dD) (w':x_) (x:j_),Inv D' V' w'->fL D V w D' V' w'->VR D' v x->R (.returned x) w'):CallsIn (pU rl) m P f xs w R:=by
 unfold mX at h;cases hk:G.KQ f args V with
 | some u=>
  rw[hk] at h;dsimp only at h;rw[bZ] at h;split at h
  ·rename_i hf;cases h;refine tN rl<|callsIn_wide.2 ?_;refine(d.cx.KQ f args V v hk D w xs hi hx).mono fun e w' ⟨x,D',he,hv,i',s'⟩=>?_
   grind
  cases h
 | none=>
 rw[hk] at h;dsimp only at h;cases A:G.KT f args with
 | some u=>
  rw[A] at h;dsimp only at h;rw[bZ] at h;split at h
  ·rename_i hf;simp only[bA_] at hf;obtain⟨B,C,E⟩:=hf;cases h;refine tN rl<|callsIn_wide.2 ?_;refine(d.cx.KT f args v A w xs (GR.size hi z) ⟨hi.oH.size,hi.oH.same⟩ (uQ hi z _ E)<|wD B hx).mono fun e w' ⟨x,he,hv,hk⟩=>?_
   subst he;obtain⟨i',s'⟩:=hk.inv hi;exact K D w' x i' s'<|oY C hv
  cases h
 | none=>
  rw[A] at h;dsimp only at h;split at h
  ·cases h
  rw[bZ] at h;split at h
  ·have h:=GZ h;unfold qY at h;rw[bZ] at h
   grind [nM,Gz]
  exact nM d h hi z hx rl m K
theorem Lh (d:Sound P G ih) {f:Nat} {args:List U} {V':aF} {v:U} (h:mX P G ih f args V= .nt v V') (hi:Inv D V w) (z:GR D G) (hx:dN D args xs.toList)
  (rl:Option Nat) (m:Nat) {R:Ending->x_->Prop} (A:∀(D':dD) (w':x_) (x:j_),Inv D' V' w'->fL D V w D' V' w'->VR D' v x->R (.panicked [{v:=x,recovered:=false}]) w'):CallsIn (pU rl) m P f xs w R:=by
 unfold mX at h;cases hk:G.KQ f args V with
 | some u=>grind
 | none=>
 rw[hk] at h;dsimp only at h;split at h
 ·grind
 split at h
 ·cases h
 rw[bZ] at h;split at h
 ·exact absurd h<|GY _ _ _
 exact AF d h (fun n h=>by cases h) hi z hx rl m fun D' w' E i s ⟨x,B,hv⟩=>by subst B;exact A D' w' x i s hv
theorem Jt (u:Sound P G ih) {o:z_} {r:HR} {v:U} {V':aF} (hi:Inv D V w) (z:GR D G) (A:Ag P D V w r res) (h:mD P G ih r= .ret v V') (rl:Option Nat) (m:Nat) {a:Act} {next:Act->x_->Prop} 
  (hn:∀(D':dD) (w':x_) (x:j_),Inv D' V' w'->fL D V w D' V' w'->VR D' v x->next (a.put o.dst x) w'):o.uponIn (pU rl) m P a next Q res:=by
 cases A with
 | val hv d st=>
  cases h;rw[Oper.uponIn_value]
  grind
 | skip d st=>
  cases h;rw[Oper.uponIn_skip];exact hn _ _ _ d st xC
 | enter hv=>
  rw[Oper.uponIn_enter];exact⟨AU rl m,yh u h hi z hv rl _ fun D' w' x i s q=>hn D' w' x i s q⟩
 | round hv hl hr=>cases h
 | nt hv=>cases h
theorem Pb (u:Sound P G ih) {o:z_} {r:HR} {v:U} {V':aF} (hi:Inv D V w) (z:GR D G) (A:Ag P D V w r res) (h:mD P G ih r= .nt v V') (rl:Option Nat) (m:Nat) {a:Act} {next:Act->x_->Prop} 
  (hn:∀(D':dD) (w':x_) (x:j_),Inv D' V' w'->fL D V w D' V' w'->VR D' v x->Q (.panic [{v:=x,recovered:=false}]) a w'):o.uponIn (pU rl) m P a next Q res:=by
 cases A with
 | val hv d st=>cases h
 | skip d st=>cases h
 | enter hv=>
  rw[Oper.uponIn_enter];exact⟨AU rl m,Lh u h hi z hv rl _ fun D' w' x i s q=>hn D' w' x i s q⟩
 | round hv hl hr=>cases h
 | nt hv=>
  cases h
  grind [Oper.uponIn_panic,fL.refl]
theorem Ct {r:HR} {v:U} {V':aF} (h:mD P G ih r= .nt v V') (n:Nat):r≠ .err n:=by
 intro e;subst e;cases h
theorem PH (d:Sound P G ih) {ev:q_->Option U} {o:z_} {a:Act} {v:U} {V':aF} (hi:Inv D V w) (u:GR D G) (z:ER D ev a.eval o.op) (h:mD P G ih (dX P G ev V o.op)= .nt v V') (rl:Option Nat) (m:Nat) {next:Act->x_->Prop} 
  (hn:∀(D':dD) (w':x_) (x:j_),Inv D' V' w'->fL D V w D' V' w'->VR D' v x->Q (.panic [{v:=x,recovered:=false}]) a w'):o.wpIn (pU rl) m P a w next Q:=by
 have hne:=Ct h;refine⟨fun f _=>r5 rl f,?_⟩;rw[Oper.semAt_eq _ _ _<|xd hne];exact Pb d hi u (EX d.cx.ov hi z Z hne) h rl m hn
theorem Ed {r:HR} {v:U} {V':aF} (h:mD P G ih r= .ret v V') (n:Nat):r≠ .err n:=by
 intro e;subst e;cases h
theorem EW (d:Sound P G ih) {ev:q_->Option U} {o:z_} {a:Act} {v:U} {V':aF} (hi:Inv D V w) (u:GR D G) (z:ER D ev a.eval o.op) (h:mD P G ih (dX P G ev V o.op)= .ret v V') (rl:Option Nat) (m:Nat) {next:Act->x_->Prop} 
  (hn:∀(D':dD) (w':x_) (x:j_),Inv D' V' w'->fL D V w D' V' w'->VR D' v x->next (a.put o.dst x) w'):o.wpIn (pU rl) m P a w next Q:=by
 have hne:=Ed h;refine⟨fun f _=>r5 rl f,?_⟩;rw[Oper.semAt_eq _ _ _<|xd hne];exact Jt d hi u (EX d.cx.ov hi z Z hne) h rl m hn
theorem wh {ih:lR} (E:Sound P G ih) {ops:Array z_} {n m:Nat} {d:List DE} (rl:Option Nat) {Q:Exit->Act->x_->Prop} {e:Ex} {t':PT U} {d':List DE} {V':aF}:
  ∀(l:List z_) (i:Nat),ops.toList.drop i=l->∀(t:PT U) (V:aF) (D:dD) (w:x_) (a:Act),Em d (wg P G ih ops n d l t V)= .ok e t' d' V'->Inv D V w->GR D G->TR D t n a.tmps->DR D d a.defers->
   (∀(D':dD) (w':x_) (a':Act),Inv D' V' w'->fL D V w D' V' w'->TR D' t' n a'.tmps->DR D' d' a'.defers->Qx Q D' e a' w')->wpOpsIn (pU rl) m P ops Q (range' i l.length) a w
 | [],i,hl,t,V,D,w,a,h,hi,z,u,A,B=>by
  have h':CR.ok .normal t d V= .ok e t' d' V':=h;cases h';exact B D w a hi (fL.refl _ _ _) u A _ Z
 | o::l,i,hl,t,V,D,w,a,h,hi,z,u,A,B=>by
  have K:ops[i]? =some o:=by
   rw[<-aT_];have:(ops.toList.drop i)[0]? =some o:=by rw[hl];rfl
   simpa using this
  have C:ops.toList.drop (i+1)=l:=by
   rw[<-zl_,hl];rfl
  have h':Em d (jz P G ih true ops n o t V<|wg P G ih ops n d l)= .ok e t' d' V':=h;unfold jz at h';simp only[zc_,List.range'_succ,wpOpsIn,K];cases hw:bK ops t o with
  | none=>rw[hw] at h';cases h'
  | some b=>
   rw[hw] at h';rw[Dv hw u];cases b with
   | false=>
    dsimp only at h';cases hp:dG t n o.dst unit with
    | none=>rw[hp] at h';cases h'
    | some t₁=>
     rw[hp] at h';simp only[zi_,if_false];exact⟨fun f _=>r5 rl f,wh E rl l (i+1) C t₁ V D w _ h' hi z (u.put hp xC) (by rw[put_defers];exact A) B⟩
   | true=>
    dsimp only at h';cases he:mD P G ih (dX P G (bz G t) V o.op) with
    | err k=>rw[he] at h';cases h'
    | nt v σ₁=>
     rw[he] at h';have h':CR.ok (.nt v) t d σ₁= .ok e t' d' V':=h';cases h';simp only[if_true];refine PH E hi z (Q0 _ z u) he rl m fun ρ₁ w₁ x hi₁ st₁ hv=>?_
     have hle:=st₁.le hi;exact B ρ₁ w₁ a hi₁ st₁ (u.mono hle) (A.mono hle) _ ⟨x,Z,hv⟩
    | ret v σ₁=>
     rw[he] at h';dsimp only at h';cases hp:dG t n o.dst v with
     | none=>rw[hp] at h';cases h'
     | some t₁=>
      rw[hp] at h';simp only[if_true];refine EW E hi z (Q0 _ z u) he rl m fun ρ₁ w₁ x hi₁ st₁ hv=>?_
      have hle:=st₁.le hi
      exact wh E rl l (i+1) C t₁ σ₁ ρ₁ w₁ _ h' hi₁ (z.mono hle) ((u.mono hle).put hp hv) (by rw[put_defers];exact A.mono hle)
       fun D' w' a' i' s'=>B D' w' a' i' (st₁.trans s')
end
end Go.Ev
end
