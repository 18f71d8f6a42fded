/- Part of the proof: an evaluator of the model's code, rules for walks on it, walks. Without conditions. -/
import Derived.CallsIn
import Derived.Laws.World
import Derived.KernelRfl
import Derived.Laws.AppendOwn
import Derived.Laws.Strings
import Derived.Great.BuildSlice
import Derived.Laws.Tables
import Derived.Laws.MakeOwn
import Derived.Laws.StructEq
import Derived.Laws.Small
import Derived.ChangeKeysEq
import Derived.LaidEql
import Derived.Lib.Strings
import Derived.Lib.Builder
import Derived.Lib.Overlaps
import Derived.Laws.IdiomStrings
import Derived.Lib.UnsafeStr
import Derived.Lib.ConvBytes
import Derived.RangeFuncNested
set_option linter.unusedSectionVars false
set_option linter.unusedVariables false
set_option linter.unusedSimpArgs false
noncomputable section
namespace Go.Ev
theorem gA:type_of% @List.getElem?_eq_some_iff:= @List.getElem?_eq_some_iff
theorem gB_:type_of% @List.mem_of_getElem?:= @List.mem_of_getElem?
theorem rA:type_of% @Result.andThen_ok:= @Result.andThen_ok
theorem gC:type_of% @List.getElem?_eq_getElem:= @List.getElem?_eq_getElem
theorem nB:type_of% @Nat.eq_of_beq_eq_true:= @Nat.eq_of_beq_eq_true
theorem bA_:type_of% @Bool.and_eq_true:= @Bool.and_eq_true
theorem sB_:type_of% @Sem.run_bind:= @Sem.run_bind
theorem sP_:type_of% @Sem.run_pure:= @Sem.run_pure
theorem nE_:type_of% @Nat.ble_eq:= @Nat.ble_eq
theorem lT_:type_of% @List.length_take:= @List.length_take
theorem oJ_:type_of% @Option.some.injEq:= @Option.some.injEq
theorem lA_:type_of% @List.length_append:= @List.length_append
theorem mC_:type_of% @List.mem_cons_of_mem:= @List.mem_cons_of_mem
theorem lM_:type_of% @List.length_map:= @List.length_map
theorem aT_:type_of% @Array.getElem?_toList:= @Array.getElem?_toList
theorem mS_:type_of% @List.mem_cons_self:= @List.mem_cons_self
theorem gM_:type_of% @List.getElem?_map:= @List.getElem?_map
theorem gL_:type_of% @List.getElem?_append_left:= @List.getElem?_append_left
theorem gO_:type_of% @List.getElem?_of_mem:= @List.getElem?_of_mem
theorem tL_:type_of% @List.take_of_length_le:= @List.take_of_length_le
theorem aE_:type_of% @List.all_eq_true:= @List.all_eq_true
theorem eN_:type_of% @List.eq_nil_of_length_eq_zero:= @List.eq_nil_of_length_eq_zero
theorem gN_:type_of% @List.getElem?_eq_none:= @List.getElem?_eq_none
theorem lD_:type_of% @List.length_drop:= @List.length_drop
theorem mQ_:type_of% @List.mem_cons:= @List.mem_cons
theorem nM_:type_of% @Nat.mul_le_mul_right:= @Nat.mul_le_mul_right
theorem oM_:type_of% @Option.map_eq_some_iff:= @Option.map_eq_some_iff
theorem lQ_:type_of% @List.append_assoc:= @List.append_assoc
theorem nZ_:type_of% @Nat.not_lt_zero:= @Nat.not_lt_zero
theorem nR_:type_of% @Nat.le_refl:= @Nat.le_refl
theorem nA_:type_of% @Nat.zero_add:= @Nat.zero_add
theorem iJ_:type_of% @Int.ofNat.inj:= @Int.ofNat.inj
theorem gR_:type_of% @List.getElem?_append_right:= @List.getElem?_append_right
theorem eR_:type_of% @List.eq_of_mem_replicate:= @List.eq_of_mem_replicate
theorem aG_:type_of% @Array.getElem?_eq_getElem:= @Array.getElem?_eq_getElem
theorem aS_:type_of% @Array.getElem?_eq_some_iff:= @Array.getElem?_eq_some_iff
theorem za_:type_of% @List.singleton_append:= @List.singleton_append
theorem zb_:type_of% @List.take_add_one:= @List.take_add_one
theorem zc_:type_of% @List.length_cons:= @List.length_cons
theorem zd_:type_of% @Bool.eq_iff_iff:= @Bool.eq_iff_iff
theorem ze_:type_of% @Option.isSome_iff_exists:= @Option.isSome_iff_exists
theorem zf_:type_of% @List.ext_getElem?:= @List.ext_getElem?
theorem zg_:type_of% @List.length_set:= @List.length_set
theorem zh_:type_of% @Nat.lt_of_lt_of_le:= @Nat.lt_of_lt_of_le
theorem zi_:type_of% @Bool.false_eq_true:= @Bool.false_eq_true
theorem zj_:type_of% @List.drop_eq_getElem_cons:= @List.drop_eq_getElem_cons
theorem zk_:type_of% @List.append_nil:= @List.append_nil
theorem zl_:type_of% @List.drop_drop:= @List.drop_drop
theorem zm_:type_of% @List.getElem?_cons_zero:= @List.getElem?_cons_zero
theorem zn_:type_of% @List.mem_map:= @List.mem_map
theorem zo_:type_of% @Classical.byContradiction:= @Classical.byContradiction
theorem zp_:type_of% @Bool.true_and:= @Bool.true_and
theorem zq_:type_of% @List.length_singleton:= @List.length_singleton
theorem zr_:type_of% @List.getElem?_range:= @List.getElem?_range
theorem zs_:type_of% @Option.some.inj:= @Option.some.inj
theorem Z {α:Sort _} {a:α}:a=a:=rfl
theorem U {p:Prop} (h:p:=by kernel_rfl):p:=h
theorem oM {p:Prop} (h:p:=by omega):p:=h
abbrev Pos:=Nat
abbrev Pos.succ (p:Pos):Pos:=Nat.succ p
abbrev Pos.num (p:Pos):Nat:=p
theorem Pos.iT (p:Pos):p.succ.num=p.num+1:=rfl
abbrev posOf (n:Nat):Pos:=n
theorem rp {m n:Nat} (h:posOf m=posOf n):m=n:=h
structure kJ (α:Type) where
 c0:α
 c1:α
 c2:α
 c3:α
 c4:α
 c5:α
 c6:α
 c7:α
 c8:α
 c9:α
 sD:α
 sE:α
 sF:α
 sG:α
 sH:α
 sI:α
structure FE (α:Type) where
 run:kJ α->α
structure FF (α:Type) where
 run:kJ α->α->kJ α
section
variable {α:Type}
def ka (n:Nat):FE α:=(Bool.rec (motive:=fun _=>FE α) (Bool.rec (motive:=fun _=>FE α) (Bool.rec (motive:=fun _=>FE α) (Bool.rec (motive:=fun _=>FE α) ⟨fun t=>t.c0⟩ ⟨fun t=>t.c1⟩<|Nat.ble 1 n) (Bool.rec (motive:=fun _=>FE α) ⟨fun t=>t.c2⟩ ⟨fun t=>t.c3⟩<|Nat.ble 3 n)<|Nat.ble 2 n) (Bool.rec (motive:=fun _=>FE α) (Bool.rec (motive:=fun _=>FE α) ⟨fun t=>t.c4⟩ ⟨fun t=>t.c5⟩<|Nat.ble 5 n) (Bool.rec (motive:=fun _=>FE α) ⟨fun t=>t.c6⟩ ⟨fun t=>t.c7⟩<|Nat.ble 7 n)<|Nat.ble 6 n)<|Nat.ble 4 n) (Bool.rec (motive:=fun _=>FE α) (Bool.rec (motive:=fun _=>FE α) (Bool.rec (motive:=fun _=>FE α) ⟨fun t=>t.c8⟩ ⟨fun t=>t.c9⟩<|Nat.ble 9 n) (Bool.rec (motive:=fun _=>FE α) ⟨fun t=>t.sD⟩ ⟨fun t=>t.sE⟩<|Nat.ble 11 n)<|Nat.ble 10 n) (Bool.rec (motive:=fun _=>FE α) (Bool.rec (motive:=fun _=>FE α) ⟨fun t=>t.sF⟩ ⟨fun t=>t.sG⟩<|Nat.ble 13 n) (Bool.rec (motive:=fun _=>FE α) ⟨fun t=>t.sH⟩ ⟨fun t=>t.sI⟩<|Nat.ble 15 n)<|Nat.ble 14 n)<|Nat.ble 12 n)<|Nat.ble 8 n)
def z1 (n:Nat):FF α:=(Bool.rec (motive:=fun _=>FF α) (Bool.rec (motive:=fun _=>FF α) (Bool.rec (motive:=fun _=>FF α) (Bool.rec (motive:=fun _=>FF α) ⟨fun t v=>kJ.rec (motive:=fun _=>kJ α) (fun _ c1 c2 c3 c4 c5 c6 c7 c8 c9 sD sE sF sG sH sI=>⟨v,c1,c2,c3,c4,c5,c6,c7,c8,c9,sD,sE,sF,sG,sH,sI⟩) t⟩ ⟨fun t v=>kJ.rec (motive:=fun _=>kJ α) (fun c0 _ c2 c3 c4 c5 c6 c7 c8 c9 sD sE sF sG sH sI=>⟨c0,v,c2,c3,c4,c5,c6,c7,c8,c9,sD,sE,sF,sG,sH,sI⟩) t⟩<|Nat.ble 1 n) (Bool.rec (motive:=fun _=>FF α) ⟨fun t v=>kJ.rec (motive:=fun _=>kJ α) (fun c0 c1 _ c3 c4 c5 c6 c7 c8 c9 sD sE sF sG sH sI=>⟨c0,c1,v,c3,c4,c5,c6,c7,c8,c9,sD,sE,sF,sG,sH,sI⟩) t⟩ ⟨fun t v=>kJ.rec (motive:=fun _=>kJ α) (fun c0 c1 c2 _ c4 c5 c6 c7 c8 c9 sD sE sF sG sH sI=>⟨c0,c1,c2,v,c4,c5,c6,c7,c8,c9,sD,sE,sF,sG,sH,sI⟩) t⟩<|Nat.ble 3 n)<|Nat.ble 2 n) (Bool.rec (motive:=fun _=>FF α) (Bool.rec (motive:=fun _=>FF α) ⟨fun t v=>kJ.rec (motive:=fun _=>kJ α) (fun c0 c1 c2 c3 _ c5 c6 c7 c8 c9 sD sE sF sG sH sI=>⟨c0,c1,c2,c3,v,c5,c6,c7,c8,c9,sD,sE,sF,sG,sH,sI⟩) t⟩ ⟨fun t v=>kJ.rec (motive:=fun _=>kJ α) (fun c0 c1 c2 c3 c4 _ c6 c7 c8 c9 sD sE sF sG sH sI=>⟨c0,c1,c2,c3,c4,v,c6,c7,c8,c9,sD,sE,sF,sG,sH,sI⟩) t⟩<|Nat.ble 5 n) (Bool.rec (motive:=fun _=>FF α) ⟨fun t v=>kJ.rec (motive:=fun _=>kJ α) (fun c0 c1 c2 c3 c4 c5 _ c7 c8 c9 sD sE sF sG sH sI=>⟨c0,c1,c2,c3,c4,c5,v,c7,c8,c9,sD,sE,sF,sG,sH,sI⟩) t⟩ ⟨fun t v=>kJ.rec (motive:=fun _=>kJ α) (fun c0 c1 c2 c3 c4 c5 c6 _ c8 c9 sD sE sF sG sH sI=>⟨c0,c1,c2,c3,c4,c5,c6,v,c8,c9,sD,sE,sF,sG,sH,sI⟩) t⟩<|Nat.ble 7 n)<|Nat.ble 6 n)<|Nat.ble 4 n) (Bool.rec (motive:=fun _=>FF α) (Bool.rec (motive:=fun _=>FF α) (Bool.rec (motive:=fun _=>FF α) ⟨fun t v=>kJ.rec (motive:=fun _=>kJ α) (fun c0 c1 c2 c3 c4 c5 c6 c7 _ c9 sD sE sF sG sH sI=>⟨c0,c1,c2,c3,c4,c5,c6,c7,v,c9,sD,sE,sF,sG,sH,sI⟩) t⟩ ⟨fun t v=>kJ.rec (motive:=fun _=>kJ α) (fun c0 c1 c2 c3 c4 c5 c6 c7 c8 _ sD sE sF sG sH sI=>⟨c0,c1,c2,c3,c4,c5,c6,c7,c8,v,sD,sE,sF,sG,sH,sI⟩) t⟩<|Nat.ble 9 n) (Bool.rec (motive:=fun _=>FF α) ⟨fun t v=>kJ.rec (motive:=fun _=>kJ α) (fun c0 c1 c2 c3 c4 c5 c6 c7 c8 c9 _ sE sF sG sH sI=>⟨c0,c1,c2,c3,c4,c5,c6,c7,c8,c9,v,sE,sF,sG,sH,sI⟩) t⟩ ⟨fun t v=>kJ.rec (motive:=fun _=>kJ α) (fun c0 c1 c2 c3 c4 c5 c6 c7 c8 c9 sD _ sF sG sH sI=>⟨c0,c1,c2,c3,c4,c5,c6,c7,c8,c9,sD,v,sF,sG,sH,sI⟩) t⟩<|Nat.ble 11 n)<|Nat.ble 10 n) (Bool.rec (motive:=fun _=>FF α) (Bool.rec (motive:=fun _=>FF α) ⟨fun t v=>kJ.rec (motive:=fun _=>kJ α) (fun c0 c1 c2 c3 c4 c5 c6 c7 c8 c9 sD sE _ sG sH sI=>⟨c0,c1,c2,c3,c4,c5,c6,c7,c8,c9,sD,sE,v,sG,sH,sI⟩) t⟩ ⟨fun t v=>kJ.rec (motive:=fun _=>kJ α) (fun c0 c1 c2 c3 c4 c5 c6 c7 c8 c9 sD sE sF _ sH sI=>⟨c0,c1,c2,c3,c4,c5,c6,c7,c8,c9,sD,sE,sF,v,sH,sI⟩) t⟩<|Nat.ble 13 n) (Bool.rec (motive:=fun _=>FF α) ⟨fun t v=>kJ.rec (motive:=fun _=>kJ α) (fun c0 c1 c2 c3 c4 c5 c6 c7 c8 c9 sD sE sF sG _ sI=>⟨c0,c1,c2,c3,c4,c5,c6,c7,c8,c9,sD,sE,sF,sG,v,sI⟩) t⟩ ⟨fun t v=>kJ.rec (motive:=fun _=>kJ α) (fun c0 c1 c2 c3 c4 c5 c6 c7 c8 c9 sD sE sF sG sH _=>⟨c0,c1,c2,c3,c4,c5,c6,c7,c8,c9,sD,sE,sF,sG,sH,v⟩) t⟩<|Nat.ble 15 n)<|Nat.ble 14 n)<|Nat.ble 12 n)<|Nat.ble 8 n)
theorem Mo {n:Nat} (h:n<16):n=0∨n=1∨n=2∨n=3∨n=4∨n=5∨n=6∨n=7∨n=8∨n=9∨n=10∨n=11∨n=12∨n=13∨n=14∨n=15:=by omega
theorem E1 (n:Nat) (t:kJ α) (v:α) (hn:n<16):(ka n).run ((z1 n).run t v)=v:=by
 rcases Mo hn with rfl | rfl | rfl | rfl | rfl | rfl | rfl | rfl | rfl | rfl | rfl | rfl | rfl | rfl | rfl | rfl<;>rfl
theorem Qk (n:Nat) (t:kJ α) (v u:α) (hn:n<16):(z1 n).run ((z1 n).run t v) u=(z1 n).run t u:=by
 rcases Mo hn with rfl | rfl | rfl | rfl | rfl | rfl | rfl | rfl | rfl | rfl | rfl | rfl | rfl | rfl | rfl | rfl<;>rfl
theorem Ke (m n:Nat) (t:kJ α) (v:α) (hm:m<16) (hn:n<16) (h:m≠n):(ka m).run ((z1 n).run t v)=(ka m).run t:=by
 rcases Mo hm with rfl | rfl | rfl | rfl | rfl | rfl | rfl | rfl | rfl | rfl | rfl | rfl | rfl | rfl | rfl | rfl<;>rcases Mo hn with rfl | rfl | rfl | rfl | rfl | rfl | rfl | rfl | rfl | rfl | rfl | rfl | rfl | rfl | rfl | rfl<;>first | rfl | exact absurd rfl h
theorem IB (m n:Nat) (t:kJ α) (v:α) (hm:m<16) (hn:n<16):(ka m).run ((z1 n).run t v)=if m=n then v else(ka m).run t:=by
 by_cases h:m=n
 ·subst h;rw[if_pos Z,E1 _ _ _ hn]
 rw[if_neg h,Ke _ _ _ _ hm hn h]
abbrev jG (α:Type):=kJ (kJ α)
def kS (t:jG α) (k:Nat):α:=(ka<|Nat.mod k 16).run ((ka<|Nat.div k 16).run t)
def sZ (t:jG α) (k:Nat) (v:α):jG α:=(z1<|Nat.div k 16).run t ((z1<|Nat.mod k 16).run ((ka<|Nat.div k 16).run t) v)
theorem mm (t:jG α) (k j:Nat) (v:α) (hk:k<256) (hj:j<256):kS (sZ t k v) j=if j=k then v else kS t j:=by
 have e:∀n m:Nat,Nat.mod n m=n%m:=fun _ _=>Z
 have e':∀n m:Nat,Nat.div n m=n/m:=fun _ _=>Z
 simp only[kS,sZ,e,e'];rw[IB _ _ _ _ oM oM]
 by_cases h1:j/16=k/16
 ·rw[if_pos h1,IB _ _ _ _ oM oM]
  grind
 grind
theorem za (t:jG α) (k:Nat) (v u:α) (hk:k<256):sZ (sZ t k v) k u=sZ t k u:=by
 have h1:Nat.mod k 16<16:=Nat.mod_lt _ oM;have h2:Nat.div k 16<16:=Nat.div_lt_of_lt_mul hk
 grind [sZ,E1,Qk]
def kJ.all (x:α):kJ α:=⟨x,x,x,x,x,x,x,x,x,x,x,x,x,x,x,x⟩
def jG.all (x:α):jG α:=kJ.all (kJ.all x)
theorem Iz (n:Nat) (y:α) (hn:n<16):(ka n).run (kJ.all y)=y:=by
 rcases Mo hn with rfl | rfl | rfl | rfl | rfl | rfl | rfl | rfl | rfl | rfl | rfl | rfl | rfl | rfl | rfl | rfl<;>rfl
theorem yc (x:α) (k:Nat) (hk:k<256):kS (jG.all x) k=x:=by
 have h1:Nat.mod k 16<16:=Nat.mod_lt _ oM;have d:Nat.div k 16<16:=Nat.div_lt_of_lt_mul hk;simp only[kS,jG.all,Iz _ _ h1,Iz _ _ d]
def tV (v:Option α) (n:Nat):List (Option α)->List (Option α):=
 Nat.rec (motive:=fun _=>List (Option α)->List (Option α)) (fun l=>List.rec (motive:=fun _=>List<|Option α) [v] (fun _ r _=>v::r) l)
  (fun _ ih l=>List.rec (motive:=fun _=>List<|Option α) (none::ih []) (fun x r _=>x::ih r) l) n
def JA (l:List (Option α)):Nat->Option α:=
 List.rec (motive:=fun _=>Nat->Option α) (fun _=>none) (fun x _ ih n=>Nat.rec (motive:=fun _=>Option α) x (fun m _=>ih m) n) l
theorem yd (v:Option α):∀(k:Nat) (l:List (Option α)) (j:Nat),JA (tV v k l) j=if j=k then v else JA l j
 | 0,[],0=>rfl
 | 0,[],j+1=>by rw[if_neg oM];rfl
 | 0,x::r,0=>rfl
 | 0,x::r,j+1=>by rw[if_neg oM];rfl
 | k+1,[],0=>by rw[if_neg oM];rfl
 | k+1,[],j+1=>by
  show JA (tV v k []) j=_;rw[yd v k [] j]
  by_cases h:j=k
  ·simp_all
  rw[if_neg h,if_neg oM];rfl
 | k+1,x::r,0=>by rw[if_neg oM];rfl
 | k+1,x::r,j+1=>by
  show JA (tV v k r) j=_;rw[yd v k r j]
  by_cases h:j=k
  ·simp_all
  rw[if_neg h,if_neg oM];rfl
theorem zb (v u:Option α):∀(k:Nat) (l:List (Option α)),tV u k (tV v k l)=tV u k l
 | 0,[]=>rfl
 | 0,x::r=>rfl
 | k+1,[]=>by
  show none::tV u k (tV v k [])=none::tV u k [];rw[zb v u k []]
 | k+1,x::r=>by
  show x::tV u k (tV v k r)=x::tV u k r;rw[zb v u k r]
structure PT (α:Type) where
 s:jG (Option α)
 m:jG (jG<|Option α)
 l:List (Option α)
def PT.leaf:PT α:=⟨jG.all none,jG.all<|jG.all none,[]⟩
def PT.Jz (t:PT α) (p:Nat):Option α:=
 Bool.rec (motive:=fun _=>Option α) (Bool.rec (motive:=fun _=>Option α) (JA t.l p) (kS (kS t.m<|Nat.div p 256)<|Nat.mod p 256)<|Nat.ble p 65535) (kS t.s p) (Nat.ble p 255)
def PT.J2 (o:Option α) (t:PT α) (p:Nat):PT α:=
 Bool.rec (motive:=fun _=>PT α) (Bool.rec (motive:=fun _=>PT α) (PT.rec (motive:=fun _=>PT α) (fun s m l=>⟨s,m,tV o p l⟩) t)
  (PT.rec (motive:=fun _=>PT α) (fun s m l=>⟨s,sZ m (Nat.div p 256)<|sZ (kS m<|Nat.div p 256) (Nat.mod p 256) o,l⟩) t)<|Nat.ble p 65535)
  (PT.rec (motive:=fun _=>PT α) (fun s m l=>⟨sZ s p o,m,l⟩) t) (Nat.ble p 255)
def PT.get (t:PT α) (p:Pos):Option α:=Nat.rec (motive:=fun _=>Option α) (t.Jz 0) (fun m _=>t.Jz (Nat.succ m)) p
def PT.put (o:Option α) (t:PT α) (p:Pos):PT α:=Nat.rec (motive:=fun _=>PT α) (t.J2 o 0) (fun m _=>t.J2 o (Nat.succ m)) p
theorem PT.get_eq (t:PT α) (p:Nat):t.get p=t.Jz p:=by cases p<;>rfl
theorem PT.put_eq (o:Option α) (t:PT α) (p:Nat):t.put o p=t.J2 o p:=by cases p<;>rfl
theorem tA (m n:Nat):Nat.blt m n=true↔m<n:=by simp_all
theorem oL (m n:Nat):Nat.ble m n=true↔m<n+1:=by rw[nE_,Nat.lt_succ_iff]
theorem uH {m n:Nat} (h:¬m<n+1):Nat.ble m n=false:=by
 grind [oL]
theorem PT.r9 (t:PT α) {p:Nat} (h:p<256):t.get p=kS t.s p:=by rw[PT.get_eq];unfold PT.Jz;rw[(oL p 255).2 h]
theorem PT.AI (t:PT α) {p:Nat} (h:¬p<256) (h':p<65536):t.get p=kS (kS t.m<|Nat.div p 256) (Nat.mod p 256):=by
 rw[PT.get_eq];unfold PT.Jz;rw[uH (n:=255) h,(oL p 65535).2 h']
theorem PT.AH (t:PT α) {p:Nat} (h:¬p<65536):t.get p=JA t.l p:=by
 rw[PT.get_eq];unfold PT.Jz;rw[uH (n:=255) oM,uH (n:=65535) h]
theorem PT.wg (o:Option α) (s:jG (Option α)) (m:jG (jG<|Option α)) (l:List (Option α)) {p:Nat} (h:p<256):(PT.mk s m l).put o p=⟨sZ s p o,m,l⟩:=by rw[PT.put_eq];unfold PT.J2;rw[(oL p 255).2 h]
theorem PT.Io (o:Option α) (s:jG (Option α)) (m:jG (jG<|Option α)) (l:List (Option α)) {p:Nat} (h:¬p<256) (h':p<65536):
  (PT.mk s m l).put o p=⟨s,sZ m (Nat.div p 256)<|sZ (kS m<|Nat.div p 256) (Nat.mod p 256) o,l⟩:=by
 rw[PT.put_eq];unfold PT.J2;rw[uH (n:=255) h,(oL p 65535).2 h']
theorem PT.Im (o:Option α) (s:jG (Option α)) (m:jG (jG<|Option α)) (l:List (Option α)) {p:Nat} (h:¬p<65536):(PT.mk s m l).put o p=⟨s,m,tV o p l⟩:=by
 rw[PT.put_eq];unfold PT.J2;rw[uH (n:=255) oM,uH (n:=65535) h]
theorem PT.ml (p:Nat):(PT.leaf:PT α).get p=none:=by
 by_cases h1:p<256
 ·rw[PT.r9 _ h1];exact yc _ _ h1
 by_cases d:p<65536
 ·rw[PT.AI _ h1 d];show kS (kS (jG.all<|jG.all none) _) _=none;have hd:Nat.div p 256<256:=Nat.div_lt_of_lt_mul d;have hm:Nat.mod p 256<256:=Nat.mod_lt _ oM;rw[yc _ _ hd,yc _ _ hm]
 rw[PT.AH _ d];rfl
theorem PT.jM (o:Option α) (t:PT α) (p q:Nat):(t.put o p).get q=if q=p then o else t.get q:=by
 cases t with
 | mk s m l=>
 by_cases h1:p<256
 ·rw[PT.wg o s m l h1]
  by_cases d:q<256
  ·rw[PT.r9 _ d,PT.r9 _ d];exact mm s p q o h1 d
  rw[if_neg oM]
  grind [PT.AI,PT.AH]
 by_cases z:p<65536
 ·rw[PT.Io o s m l h1 z]
  by_cases d:q<256
  ·rw[if_neg oM,PT.r9 _ d,PT.r9 _ d]
  by_cases u:q<65536
  ·rw[PT.AI _ d u,PT.AI _ d u];have hp:Nat.div p 256<256:=Nat.div_lt_of_lt_mul z;have hq:Nat.div q 256<256:=Nat.div_lt_of_lt_mul u;have A:Nat.mod p 256<256:=Nat.mod_lt _ oM;have B:Nat.mod q 256<256:=Nat.mod_lt _ oM;show kS (kS (sZ m (Nat.div p 256) _)<|Nat.div q 256) (Nat.mod q 256)=_;rw[mm _ _ _ _ hp hq]
   by_cases e:Nat.div q 256=Nat.div p 256
   ·rw[if_pos e,mm _ _ _ _ A B]
    by_cases e2:Nat.mod q 256=Nat.mod p 256
    ·rw[if_pos e2,if_pos];have f1:q/256=p/256:=e;have f2:q%256=p%256:=e2;omega
    grind
   grind
  rw[if_neg oM,PT.AH _ u,PT.AH _ u]
 rw[PT.Im o s m l z]
 by_cases d:q<256
 ·rw[if_neg oM,PT.r9 _ d,PT.r9 _ d]
 by_cases u:q<65536
 ·rw[if_neg oM,PT.AI _ d u,PT.AI _ d u]
 rw[PT.AH _ u,PT.AH _ u];exact yd o p l q
theorem PT.dY (o:Option α) (t:PT α) (p:Pos):(t.put o p).get p=o:=by rw[PT.jM,if_pos Z]
theorem PT.dL (o:Option α) (t:PT α) (p q:Pos) (h:q≠p):(t.put o p).get q=t.get q:=by rw[PT.jM,if_neg h]
theorem PT.PH (o o':Option α) (t:PT α) (p:Nat):(t.put o p).put o' p=t.put o' p:=by
 cases t with
 | mk s m l=>
 by_cases h1:p<256
 ·rw[PT.wg o s m l h1,PT.wg _ _ _ _ h1,PT.wg _ _ _ _ h1,za _ _ _ _ h1]
 by_cases d:p<65536
 ·have hp:Nat.div p 256<256:=Nat.div_lt_of_lt_mul d;have u:Nat.mod p 256<256:=Nat.mod_lt _ oM;rw[PT.Io o s m l h1 d,PT.Io _ _ _ _ h1 d,PT.Io _ _ _ _ h1 d,za _ _ _ _ hp,mm _ _ _ _ hp hp,if_pos Z,za _ _ _ _ u]
 rw[PT.Im o s m l d,PT.Im _ _ _ _ d,PT.Im _ _ _ _ d,zb]
end
section
variable {α β:Type}
def nth (l:List α):Nat->Option α:=
 List.rec (motive:=fun _=>Nat->Option α) (fun _=>none) (fun x _ ih n=>Nat.rec (motive:=fun _=>Option α) (some x) (fun m _=>ih m) n) l
theorem fY:∀(l:List α) (n:Nat),nth l n=l[n]?
 | [],_=>rfl
 | _::_,0=>rfl
 | _::l,n+1=>by
  show nth l n=_;rw[fY l n];simp
def Hb (v:α) (l:List α):Nat->List α:=
 List.rec (motive:=fun _=>Nat->List α) (fun _=>[]) (fun x l ih n=>Nat.rec (motive:=fun _=>List α) (v::l) (fun m _=>x::ih m) n) l
theorem rG (v:α):∀(l:List α) (n:Nat),Hb v l n=l.set n v
 | [],_=>rfl
 | _::_,0=>rfl
 | x::l,n+1=>by
  show x::Hb v l n=_;rw[rG v l n];simp
def eA (l:List α):Nat->List α:=
 List.rec (motive:=fun _=>Nat->List α) (fun _=>[]) (fun x l ih n=>Nat.rec (motive:=fun _=>List α) (x::l) (fun m _=>ih m) n) l
theorem eN:∀(l:List α) (n:Nat),eA l n=l.drop n
 | [],n=>by simp[eA]
 | _::_,0=>rfl
 | x::l,n+1=>by
  show eA l n=_;rw[eN l n];simp
def takeN (l:List α):Nat->List α:=
 List.rec (motive:=fun _=>Nat->List α) (fun _=>[]) (fun x _ ih n=>Nat.rec (motive:=fun _=>List α) [] (fun m _=>x::ih m) n) l
theorem ej:∀(l:List α) (n:Nat),takeN l n=l.take n
 | [],n=>by simp[takeN]
 | _::_,0=>rfl
 | x::l,n+1=>by
  show x::takeN l n=_;rw[ej l n];simp
def dU (l:List α):Nat:=List.rec (motive:=fun _=>Nat) 0 (fun _ _ n=>Nat.succ n) l
theorem db:∀(l:List α),dU l=l.length
 | []=>rfl
 | _::l=>by show Nat.succ (dU l)=_;rw[db l];rfl
def gS (l m:List α):List α:=List.rec (motive:=fun _=>List α) m (fun x _ r=>x::r) l
theorem ep:∀(l m:List α),gS l m=l++m
 | [],_=>rfl
 | x::l,m=>by show x::gS l m=_;rw[ep l m];rfl
def Ct (f:α->β) (l:List α):List β:=List.rec (motive:=fun _=>List β) [] (fun x _ r=>f x::r) l
theorem nj (f:α->β):∀(l:List α),Ct f l=l.map f
 | []=>rfl
 | x::l=>by show f x::Ct f l=_;rw[nj f l];rfl
def dv (f:α->Option β) (l:List α):Option (List β):=
 List.rec (motive:=fun _=>Option<|List β) (some []) (fun x _ r=>
  Option.rec (motive:=fun _=>Option<|List β) none (fun y=>Option.rec (motive:=fun _=>Option<|List β) none (fun ys=>some (y::ys)) r)<|f x) l
theorem ij (f:α->Option β):dv f []=some []:=rfl
theorem gJ {f:α->Option β} {x:α} {l:List α} {ys:List β} (h:dv f (x::l)=some ys):∃y r,f x=some y/\dv f l=some r/\ys=y::r:=by
 have e:dv f (x::l)=Option.rec (motive:=fun _=>Option<|List β) none (fun y=>Option.rec (motive:=fun _=>Option<|List β) none (fun ys=>some (y::ys)) (dv f l)) (f x):=rfl;rw[e] at h;cases hx:f x with
 | none=>rw[hx] at h;cases h
 | some y=>
  rw[hx] at h;cases d:dv f l with
  | none=>rw[d] at h;cases h
  | some r=>
   simp_all
end
 class Env where
 τ:Nat->Value
 n0:Nat
 h0:Array Obj
variable [Env]
inductive rK where
 | known (n:Nat)
 | upto (sz:Nat)
 | least (a sz:Nat)
 deriving Inhabited
inductive V where
 | bool (b:Bool)
 | int (k:IntKind) (n:Int)
 | str (s:List Nat)
 | nilPtr
 | ptr (b:Pos) (off:Nat)
 | av
 | slice (b:Pos) (off len:Nat) (cap:rK)
 | iw
 | map (b:Pos)
 | func (f:Nat) (first captured:List V)
 | yield (l:Pos)
 | nilFunc
 | iface (t:Nat) (v:V)
 | nilIface
 | agg (cs:List V)
 | tuple (vs:List V)
 | any
 | oJ (a:Nat)
 | tok (n:Nat)
 deriving Inhabited
structure Loc where
 dz:Nat
 sh:Nat
 cells:Nat
abbrev Ren:=Pos->Option Loc
def gR (s:List Nat) (bs:ByteArray):Prop:=bs.data.toList.map UInt8.toNat=s
mutual
def VR (Y:Ren):V->Value->Prop
 | .bool b,x=>x= .bool b
 | .int k n,x=>x= .int k n
 | .str s,x=>∃bs,x= .string bs/\gR s bs
 | .nilPtr,x=>x= .pointer none
 | .ptr b off,x=>∃l,Y b=some l/\x= .pointer (some ⟨l.dz,l.sh+off,none⟩)
 | .av,x=>x= .slice none 0 0
 | .slice b off len (.known c),x=>∃l,Y b=some l/\x= .slice (some ⟨l.dz,l.sh+off,none⟩) len c
 | .slice b off len (.upto sz),x=>∃l,Y b=some l/\
   ((∃c,x= .slice (some ⟨l.dz,l.sh+off,none⟩) len c/\len<=c/\off+c*sz=l.cells)∨(len=0/\∃a,x= .slice (some a) 0 0))
 | .slice b off len (.least a sz),x=>∃l,Y b=some l/\∃c,x= .slice (some ⟨l.dz,l.sh+off,none⟩) len c/\a<=c/\off+c*sz=l.cells
 | .iw,x=>x= .map none
 | .map b,x=>∃l,Y b=some l/\x= .map (some l.dz)
 | .func f fi ca,x=>∃fi' ca':Array Value,x= .func (.func f) fi' ca'/\dA Y fi fi'.toList/\dA Y ca ca'.toList
 | .yield b,x=>∃l,Y b=some l/\x= .func (.yield l.dz) #[] #[]
 | .nilFunc,x=>x= .nilFunc
 | .iface t v,x=>∃y,x= .iface t y/\VR Y v y
 | .nilIface,x=>x= .nilIface
 | .agg cs,x=>∃ys:Array Value,x= .agg ys/\dA Y cs ys.toList
 | .tuple cs,x=>∃ys:Array Value,x= .tuple ys/\dA Y cs ys.toList
 | .any,_=>True
 | .oJ a,x=>∃c:Nat,x= .int .i64 c/\a<=c
 | .tok n,x=>x=Env.τ n/\x.oneCell'=true
def dA (Y:Ren):List V->List Value->Prop
 | [],ys=>ys= []
 | c::cs,ys=>∃y r,ys=y::r/\VR Y c y/\dA Y cs r
end
def Ren.le (Y Y':Ren):Prop:=∀b l,Y b=some l->Y' b=some l
theorem Ren.le_refl (Y:Ren):Y.le Y:=fun _ _ h=>h
theorem Ren.le_trans {Y Y' Y'':Ren} (h:Y.le Y') (h':Y'.le Y''):Y.le Y'':=fun b l hb=>h' b l (h b l hb)
mutual
theorem VR.mono {Y Y':Ren} (h:Y.le Y'):∀(v:V) (x:Value),VR Y v x->VR Y' v x
 | .bool b,x,hv=>by simpa only[VR] using hv
 | .int k n,x,hv=>by simpa only[VR] using hv
 | .str s,x,hv=>by simpa only[VR] using hv
 | .nilPtr,x,hv=>by simpa only[VR] using hv
 | .ptr b off,x,hv=>by simp only[VR] at hv⊢;obtain⟨l,h1,d⟩:=hv;exact⟨l,h b l h1,d⟩
 | .av,x,hv=>by simpa only[VR] using hv
 | .slice b off len (.known c),x,hv=>by simp only[VR] at hv⊢;obtain⟨l,h1,d⟩:=hv;exact⟨l,h b l h1,d⟩
 | .slice b off len (.upto sz),x,hv=>by simp only[VR] at hv⊢;obtain⟨l,h1,d⟩:=hv;exact⟨l,h b l h1,d⟩
 | .slice b off len (.least a sz),x,hv=>by simp only[VR] at hv⊢;obtain⟨l,h1,d⟩:=hv;exact⟨l,h b l h1,d⟩
 | .iw,x,hv=>by simpa only[VR] using hv
 | .map b,x,hv=>by simp only[VR] at hv⊢;obtain⟨l,h1,d⟩:=hv;exact⟨l,h b l h1,d⟩
 | .func f fi ca,x,hv=>by
  simp only[VR] at hv⊢;obtain⟨fi',ca',h1,d,u⟩:=hv;exact⟨fi',ca',h1,dA.mono h fi _ d,dA.mono h ca _ u⟩
 | .yield b,x,hv=>by simp only[VR] at hv⊢;obtain⟨l,h1,d⟩:=hv;exact⟨l,h b l h1,d⟩
 | .nilFunc,x,hv=>by simpa only[VR] using hv
 | .iface t v,x,hv=>by simp only[VR] at hv⊢;obtain⟨y,h1,d⟩:=hv;exact⟨y,h1,VR.mono h v y d⟩
 | .nilIface,x,hv=>by simpa only[VR] using hv
 | .agg cs,x,hv=>by simp only[VR] at hv⊢;obtain⟨y,h1,d⟩:=hv;exact⟨y,h1,dA.mono h cs _ d⟩
 | .tuple cs,x,hv=>by simp only[VR] at hv⊢;obtain⟨y,h1,d⟩:=hv;exact⟨y,h1,dA.mono h cs _ d⟩
 | .any,x,hv=>by simp only[VR]
 | .oJ a,x,hv=>by simpa only[VR] using hv
 | .tok n,x,hv=>by simpa only[VR] using hv
theorem dA.mono {Y Y':Ren} (h:Y.le Y'):∀(vs:List V) (xs:List Value),dA Y vs xs->dA Y' vs xs
 | [],xs,hv=>by simpa only[dA] using hv
 | c::cs,xs,hv=>by
  simp only[dA] at hv⊢;obtain⟨y,r,h1,d,u⟩:=hv;exact⟨y,r,h1,VR.mono h c y d,dA.mono h cs r u⟩
end
theorem dA.nil {Y:Ren}:dA Y [] []:=by simp only[dA]
theorem dA.cons {Y:Ren} {v:V} {x:Value} {vs:List V} {xs:List Value} (h:VR Y v x) (hs:dA Y vs xs):dA Y (v::vs) (x::xs):=by
 simp only[dA];grind
theorem dA.cons_inv {Y:Ren} {v:V} {vs:List V} {ys:List Value} (h:dA Y (v::vs) ys):∃x xs,ys=x::xs/\VR Y v x/\dA Y vs xs:=by
 simpa only[dA] using h
theorem dA.eK {Y:Ren} {ys:List Value} (h:dA Y [] ys):ys= []:=by simpa only[dA] using h
theorem dA.length {Y:Ren}:∀{vs:List V} {xs:List Value},dA Y vs xs->xs.length=vs.length
 | [],xs,h=>by rw[h.eK];rfl
 | v::vs,xs,h=>by
  obtain⟨x,r,rfl,_,d⟩:=h.cons_inv;simp[d.length]
theorem dA.get {Y:Ren}:∀{vs:List V} {xs:List Value},dA Y vs xs->∀{i:Nat} {v:V},vs[i]? =some v->∃x,xs[i]? =some x/\VR Y v x
 | [],xs,h,i,v,hv=>by simp at hv
 | c::vs,xs,h,0,v,hv=>by
  obtain⟨x,r,rfl,h1,d⟩:=h.cons_inv
  simp_all
 | c::vs,xs,h,i+1,v,hv=>by
  obtain⟨x,r,rfl,h1,d⟩:=h.cons_inv;simp at hv;simpa using d.get hv
theorem dA.GF {Y:Ren}:∀{vs:List V} {xs:List Value},xs.length=vs.length->(∀(i:Nat) (v:V),vs[i]? =some v->∃x,xs[i]? =some x/\VR Y v x)->dA Y vs xs
 | [],[],_,_=>dA.nil
 | v::vs,[],hl,_=>by simp at hl
 | [],x::xs,hl,_=>by simp at hl
 | v::vs,x::xs,hl,h=>by
  refine dA.cons ?_<|dA.GF (by simpa using hl) fun i u hu=>?_
  ·obtain⟨y,h1,d⟩:=h 0 v Z
   simp_all
  obtain⟨y,h1,d⟩:=h (i+1) u (by simpa using hu)
  simp_all
theorem dA.append {Y:Ren}:∀{vs us:List V} {xs ys:List Value},dA Y vs xs->dA Y us ys->dA Y (vs++us) (xs++ys)
 | [],us,xs,ys,h,h'=>by rw[h.eK];exact h'
 | v::vs,us,xs,ys,h,h'=>by
  obtain⟨x,r,rfl,h1,d⟩:=h.cons_inv;exact dA.cons h1<|d.append h'
theorem dA.drop {Y:Ren}:∀{vs:List V} {xs:List Value},dA Y vs xs->∀n,dA Y (vs.drop n) (xs.drop n)
 | [],xs,h,n=>by rw[h.eK];simp;exact dA.nil
 | v::vs,xs,h,0=>h
 | v::vs,xs,h,n+1=>by
  obtain⟨x,r,rfl,h1,d⟩:=h.cons_inv;simpa using d.drop n
theorem dA.take {Y:Ren}:∀{vs:List V} {xs:List Value},dA Y vs xs->∀n,dA Y (vs.take n) (xs.take n)
 | [],xs,h,n=>by rw[h.eK];simp;exact dA.nil
 | v::vs,xs,h,0=>by simpa using dA.nil
 | v::vs,xs,h,n+1=>by
  obtain⟨x,r,rfl,h1,d⟩:=h.cons_inv;simpa using dA.cons h1 (d.take n)
theorem dA.set {Y:Ren}:∀{vs:List V} {xs:List Value},dA Y vs xs->∀(n:Nat) {v:V} {x:Value},VR Y v x->dA Y (vs.set n v) (xs.set n x)
 | [],xs,h,n,_,_,_=>by rw[h.eK];simp;exact dA.nil
 | v::vs,xs,h,0,_,_,hv=>by
  obtain⟨x,r,rfl,h1,d⟩:=h.cons_inv;simpa using dA.cons hv d
 | v::vs,xs,h,n+1,_,_,hv=>by
  obtain⟨x,r,rfl,h1,d⟩:=h.cons_inv;simpa using dA.cons h1 (d.set n hv)
structure eP where
 key:V
 val:V
 born:Nat
 deriving Inhabited
inductive cN where
 | row (cells:List V) (elem:Nat) (ro:Bool)
 | own (cells:List V) (elem:Nat)
 | map (es:List eP) (clock:Nat)
 | iter (s:List Nat) (pos:Nat)
 | loop (state:LoopState) (pending:Option Code) (tmps:PT V) (n:Nat) (params:List Nat) (assign body:Code) (defers:Pos)
 | mark
 | dead
 deriving Inhabited
def cN.ro:cN->Bool
 | .row _ _ ro=>ro
 | _=>false
structure aB where
 next:Pos
 m:PT cN
def TR (Y:Ren) (t:PT V) (n:Nat) (tmps:Array Value):Prop:=
 tmps.size=n/\∀k v,t.get (posOf k)=some v->k<n/\VR Y v (tmps.getD k undef)
def jZ (Y:Ren):List eP->List MapEntry->Prop
 | [],ys=>ys= []
 | e::es,ys=>∃y r,ys=y::r/\VR Y e.key y.key/\VR Y e.val y.val/\y.born=e.born/\jZ Y es r
def gF (Y:Ren) (l:Loc):cN->Obj->Prop
 | .row cells elem ro,x=>∃c fr,x= .cells c elem fr/\c.size=l.sh+l.cells/\cells.length<=l.cells/\
   (∀(i:Nat) (v:V),cells[i]? =some v->∃y,c[l.sh+i]? =some y/\VR Y v y)/\(ro=false->∀j,l.sh<=j->¬(fr.1<=j/\j<fr.2))
 | .own cells elem,x=>(l.sh=0/\cells.length=l.cells)/\∃c fr,x= .cells c elem fr/\c.size=l.sh+l.cells/\cells.length<=l.cells/\
   (∀(i:Nat) (v:V),cells[i]? =some v->∃y,c[l.sh+i]? =some y/\VR Y v y)/\(false=false->∀j,l.sh<=j->¬(fr.1<=j/\j<fr.2))
 | .map es clock,x=>∃es',x= .map es' clock/\jZ Y es es'.toList
 | .iter s pos,x=>∃bs,x= .stringIter bs pos/\gR s bs
 | .loop state pending tmps n params assign body defers,x=>∃fn tmps' l',x= .loop {state,pending,fn,tmps:=tmps',params:=params.toArray,assign,body,defers:=l'.dz}/\
   Y defers=some l'/\TR Y tmps n tmps'
 | .mark,x=>x= .deferred (some [])
 | .dead,_=>True
theorem TR.mono {Y Y':Ren} (h:Y.le Y') {t:PT V} {n:Nat} {tmps:Array Value} (d:TR Y t n tmps):TR Y' t n tmps:=
 ⟨d.1,fun k v hv=>⟨(d.2 k v hv).1,VR.mono h _ _ (d.2 k v hv).2⟩⟩
theorem jZ.mono {Y Y':Ren} (h:Y.le Y'):∀{es:List eP} {ys:List MapEntry},jZ Y es ys->jZ Y' es ys
 | [],ys,he=>he
 | e::es,ys,he=>by
  obtain⟨y,r,h1,d,u,z,h5⟩:=he;exact⟨y,r,h1,VR.mono h _ _ d,VR.mono h _ _ u,z,jZ.mono h h5⟩
theorem gF.mono {Y Y':Ren} (h:Y.le Y') {l:Loc}:∀{o:cN} {x:Obj},gF Y l o x->gF Y' l o x
 | .row cells elem ro,x,d=>by
  obtain⟨c,fr,h1,u,z,A,h5⟩:=d;exact⟨c,fr,h1,u,z,fun i v hv=>let ⟨y,a,b⟩:=A i v hv;⟨y,a,VR.mono h _ _ b⟩,h5⟩
 | .own cells elem,x,d=>by
  obtain⟨h0,c,fr,h1,u,z,A,h5⟩:=d;exact⟨h0,c,fr,h1,u,z,fun i v hv=>let ⟨y,a,b⟩:=A i v hv;⟨y,a,VR.mono h _ _ b⟩,h5⟩
 | .map es clock,x,d=>let ⟨es',h1,u⟩:=d;⟨es',h1,jZ.mono h u⟩
 | .iter s pos,x,d=>d
 | .loop ..,x,d=>let ⟨fn,tmps',l',h1,u,z⟩:=d;⟨fn,tmps',l',h1,h _ _ u,TR.mono h z⟩
 | .mark,x,d=>d
 | .dead,x,d=>d
structure BC (Y:Ren) (O:aB) (w:World):Prop where
 fresh:∀b:Pos,O.next.num<=b.num->Y b=none/\O.m.get b=none
 dz:∀b l,Y b=some l->l.dz<w.heap.size
 obj:∀b o l,O.m.get b=some o->Y b=some l->∃x,w.heap[l.dz]? =some x/\gF Y l o x
 inj:∀b b' o o' l l',O.m.get b=some o->O.m.get b'=some o'->Y b=some l->Y b'=some l'->l.dz=l'.dz->b≠b'->o.ro=true/\o'.ro=true
def Wr (Y:Ren) (O:aB) (r:Nat):Prop:=∃b o l,O.m.get b=some o/\o.ro=false/\Y b=some l/\l.dz=r
structure Old (Y:Ren) (O:aB) (w:World):Prop where
 size:Env.n0<=w.heap.size
 same:∀r:Nat,r<Env.n0->w.heap[r]? =Env.h0[r]?
 no:∀r:Nat,r<Env.n0->¬Wr Y O r
def KF (w:World):Prop:=Env.n0<=w.heap.size/\∀r:Nat,r<Env.n0->w.heap[r]? =Env.h0[r]?
structure Inv (Y:Ren) (O:aB) (w:World):Prop extends BC Y O w where
 oI:Old Y O w
structure fb (Y:Ren) (O:aB) (w:World) (Y':Ren) (O':aB) (w':World):Prop where
 ext:∀b:Pos,b.num<O.next.num->Y' b=Y b
 next:O.next.num<=O'.next.num
 size:w.heap.size<=w'.heap.size
 frame:∀r:Nat,r<w.heap.size->¬Wr Y O r->w'.heap[r]? =w.heap[r]?
 wr:∀r:Nat,Wr Y' O' r->r<w.heap.size->Wr Y O r
 tape:w'.tape=w.tape
 os:w'.os=w.os
 out:w'.output=w.output/\w.drawn<=w'.drawn
theorem fb.refl (Y:Ren) (O:aB) (w:World):fb Y O w Y O w:=
 ⟨fun _ _=>Z,nR_ _,nR_ _,fun _ _ _=>Z,fun _ h _=>h,Z,Z,Z,nR_ _⟩
theorem fb.trans {Y ρ₁ ρ₂:Ren} {O σ₁ σ₂:aB} {w w₁ w₂:World} (h:fb Y O w ρ₁ σ₁ w₁) (h':fb ρ₁ σ₁ w₁ ρ₂ σ₂ w₂):fb Y O w ρ₂ σ₂ w₂ where
 ext b hb:=(h'.ext b<|zh_ hb h.next).trans (h.ext b hb)
 next:=Nat.le_trans h.next h'.next
 size:=Nat.le_trans h.size h'.size
 frame r hr hn:=(h'.frame r (zh_ hr h.size) (fun hw=>hn (h.wr r hw hr))).trans (h.frame r hr hn)
 wr r hw hr:=h.wr r (h'.wr r hw<|zh_ hr h.size) hr
 tape:=h'.tape.trans h.tape
 os:=h'.os.trans h.os
 out:=⟨h'.out.1.trans h.out.1,Nat.le_trans h.out.2 h'.out.2⟩
theorem Old.of {Y Y':Ren} {O O':aB} {w w':World} (h:Old Y O w) (st:fb Y O w Y' O' w'):Old Y' O' w' where
 size:=Nat.le_trans h.size st.size
 same r hr:=(st.frame r (zh_ hr h.size)<|h.no r hr).trans (h.same r hr)
 no r hr hw:=h.no r hr (st.wr r hw<|zh_ hr h.size)
theorem Inv.of {Y Y':Ren} {O O':aB} {w w':World} (h:Inv Y O w) (h':BC Y' O' w'/\fb Y O w Y' O' w'):Inv Y' O' w'/\fb Y O w Y' O' w':=⟨⟨h'.1,h.oI.of h'.2⟩,h'.2⟩
theorem Inv.GB {Y:Ren} {O:aB} {w:World} (h:Inv Y O w) {b:Pos} {l:Loc} (hb:Y b=some l):b.num<O.next.num:=by
 rcases Nat.lt_or_ge b.num O.next.num with h' | h'
 ·exact h'
 rw[(h.fresh b h').1] at hb;cases hb
theorem fb.le {Y Y':Ren} {O O':aB} {w w':World} (hi:Inv Y O w) (h:fb Y O w Y' O' w'):Y.le Y':=fun b l hb=>by
 rw[h.ext b<|hi.GB hb];exact hb
end Go.Ev
namespace Go.Ev
variable [Env]
variable {e:Nat}
section
variable {Y:Ren} {O:aB} {w:World}
theorem Addr.add_eq (a:Addr) (n:Nat) (h:a.spot=none):a.add n=⟨a.block,a.off+n,none⟩:=by
 unfold Addr.add;split
 ·rename_i h0;subst h0;cases a;simp_all
 rfl
theorem cell?_of_heap {w:World} {r:Nat} {c:Array Value} {fr:Nat×Nat} (h:w.heap[r]? =some (.cells c e fr)) (i:Nat):w.cell? ⟨r,i,none⟩=c[i]?:=by
 simp[World.cell?,h]
theorem frozen?_of_heap {w:World} {r:Nat} {c:Array Value} {fr:Nat×Nat} (h:w.heap[r]? =some (.cells c e fr)) (i:Nat) (hn:¬(fr.1<=i/\i<fr.2)):w.frozen? ⟨r,i,none⟩=false:=by
 grind [World.frozen?]
theorem heap_setCell_same {w:World} {r:Nat} {c:Array Value} {fr:Nat×Nat} (h:w.heap[r]? =some (.cells c e fr)) (i:Nat) (v:Value):
  (w.setCell ⟨r,i,none⟩ v).heap[r]? =some (.cells (c.setIfInBounds i v) e fr):=by
 simp[World.setCell,Array.getElem?_modify,h]
theorem heap_setCell_other (w:World) {r:Nat} (a:Addr) (v:Value) (h:r≠a.block):(w.setCell a v).heap[r]? =w.heap[r]?:=by
 simp[World.setCell,Array.getElem?_modify,Ne.symm h]
theorem Inv.row (hi:Inv Y O w) {b:Pos} {l:Loc} {cells:List V} {ro:Bool} (d:O.m.get b=some (.row cells e ro)) (hl:Y b=some l):
  ∃(c:Array Value) (fr:Nat×Nat),w.heap[l.dz]? =some (.cells c e fr)/\c.size=l.sh+l.cells/\cells.length<=l.cells/\
   (∀(i:Nat) (v:V),cells[i]? =some v->∃y,c[l.sh+i]? =some y/\VR Y v y)/\(ro=false->∀j,l.sh<=j->¬(fr.1<=j/\j<fr.2)):=by
 obtain⟨x,hx,c,fr,rfl,h2,h3,h4,h5⟩:=hi.obj b _ l d hl
 grind
theorem Inv.cell (hi:Inv Y O w) {b:Pos} {l:Loc} {cells:List V} {e:Nat} {ro:Bool} (d:O.m.get b=some (.row cells e ro)) (hl:Y b=some l)
  {i:Nat} {v:V} (hv:cells[i]? =some v):∃y,w.cell? ⟨l.dz,l.sh+i,none⟩=some y/\VR Y v y:=by
 obtain⟨c,fr,h1,_,_,h4,_⟩:=hi.row d hl
 grind [cell?_of_heap]
theorem Inv.drew (hi:Inv Y O w):Inv Y O w.drew:=⟨⟨hi.fresh,hi.dz,hi.obj,hi.inj⟩,⟨hi.oI.size,hi.oI.same,hi.oI.no⟩⟩
theorem fb.drew (Y:Ren) (O:aB) (w:World):fb Y O w Y O w.drew:=
 ⟨fun _ _=>Z,nR_ _,nR_ _,fun _ _ _=>Z,fun _ h _=>h,Z,Z,Z,Nat.le_succ _⟩
def aB.alloc (O:aB) (o:cN):aB:={next:=O.next.succ,m:=O.m.put (some o) O.next}
def Ren.with (Y:Ren) (b:Pos) (l:Loc):Ren:=fun b'=>if b'=b then some l else Y b'
theorem Ren.cZ (Y:Ren) (b:Pos) (l:Loc):Y.with b l b=some l:=by simp[Ren.with]
theorem Ren.eC (Y:Ren) {b b':Pos} (l:Loc) (h:b'≠b):Y.with b l b'=Y b':=by simp[Ren.with,h]
theorem Inv.w9 (hi:Inv Y O w) (l:Loc):Y.le (Y.with O.next l):=fun b l' hb=>by
 rw[Ren.eC]; · exact hb
 intro e;subst e;rw[(hi.fresh _<|nR_ _).1] at hb;cases hb
theorem heap_alloc_old (w:World) (x:Obj) {r:Nat} (h:r<w.heap.size):(w.alloc x).heap[r]? =w.heap[r]?:=by
 show(w.heap.push x)[r]? =_
 grind
theorem heap_alloc_new (w:World) (x:Obj):(w.alloc x).heap[w.heap.size]? =some x:=by
 show(w.heap.push x)[w.heap.size]? =_;simp
theorem Inv.FO (hi:Inv Y O w) {o:cN} {x:Obj} {l:Loc} (hl:l.dz=w.heap.size) (K:gF Y l o x):
  BC (Y.with O.next l) (O.alloc o) (w.alloc x)/\fb Y O w (Y.with O.next l) (O.alloc o) (w.alloc x):=by
 have hle:=hi.w9 l;have d:∀b l',b≠O.next->(Y.with O.next l) b=some l'->Y b=some l':=fun b l' hb h=>by rwa[Ren.eC Y l hb] at h
 have u:∀b,b≠O.next->(O.alloc o).m.get b=O.m.get b:=fun b hb=>PT.dL _ _ _ _ hb
 have A:(O.alloc o).m.get O.next=some o:=PT.dY _ _ _;have I:∀b:Pos,b.num<O.next.num->b≠O.next:=fun b hb e=>by simp_all
 constructor
 ·refine⟨fun b hb=>?_,fun b l' hb=>?_,fun b o' l' hb B=>?_,fun b b' o₁ o₂ l₁ l₂ h1 C z E h5 L=>?_⟩
  ·have aa:O.next.num+1<=b.num:=by simpa [aB.alloc,Pos.iT] using hb
   have hne:b≠O.next:=fun e=>by subst e;omega
   rw[Ren.eC Y l hne,u b hne];exact hi.fresh b oM
  ·simp only[World.size_alloc]
   by_cases hne:b=O.next
   ·subst hne;rw[Ren.cZ] at hb;cases hb;omega
   have:=hi.dz b l' (d b l' hne hb);omega
  ·by_cases hne:b=O.next
   ·subst hne;rw[Ren.cZ] at B;rw[A] at hb;cases hb;cases B;exact⟨x,by rw[hl];exact heap_alloc_new w x,K.mono hle⟩
   rw[u b hne] at hb;have h':=d b l' hne B;obtain⟨y,hy,G⟩:=hi.obj b o' l' hb h';exact⟨y,by rw[heap_alloc_old w x<|hi.dz b l' h'];exact hy,G.mono hle⟩
  by_cases e1:b=O.next<;>by_cases e2:b'=O.next
  ·simp_all
  ·subst e1;rw[Ren.cZ] at z;cases z;have:=hi.dz b' l₂ (d b' l₂ e2 E);omega
  ·subst e2;rw[Ren.cZ] at E;cases E;have:=hi.dz b l₁ (d b l₁ e1 z);omega
  rw[u b e1] at h1;rw[u b' e2] at C;exact hi.inj b b' o₁ o₂ l₁ l₂ h1 C (d b l₁ e1 z) (d b' l₂ e2 E) h5 L
 refine⟨fun b hb=>Ren.eC Y l (I b hb),by simp[aB.alloc,Pos.iT],by simp,fun r G _=>heap_alloc_old w x G,?_,Z,Z,Z,nR_ _⟩;rintro r ⟨b,o',l',h1,C,z,rfl⟩ G
 by_cases hne:b=O.next
 ·subst hne;rw[Ren.cZ] at z;cases z;omega
 rw[u b hne] at h1;exact⟨b,o',l',h1,C,d b l' hne z,Z⟩
theorem Inv.alloc (hi:Inv Y O w) {o:cN} {x:Obj} {l:Loc} (hl:l.dz=w.heap.size) (d:gF Y l o x):
  Inv (Y.with O.next l) (O.alloc o) (w.alloc x)/\fb Y O w (Y.with O.next l) (O.alloc o) (w.alloc x):=hi.of (hi.FO hl d)
def aB.setObj (O:aB) (b:Pos) (o:cN):aB:={O with m:=O.m.put (some o) b}
theorem Inv.DT (hi:Inv Y O w) {b:Pos} {l:Loc} {o o':cN} {x:Obj} {w':World} (hb:O.m.get b=some o) (hl:Y b=some l) (I:o.ro=false) (ab:o'.ro=false)
  (hw:w'.heap[l.dz]? =some x) (ho:gF Y l o' x) (d:∀r,r≠l.dz->w'.heap[r]? =w.heap[r]?) (u:w'.heap.size=w.heap.size)
  (z:w'.tape=w.tape) (K:w'.os=w.os) (C:w'.output=w.output/\w.drawn<=w'.drawn):
  BC Y (O.setObj b o') w'/\fb Y O w Y (O.setObj b o') w':=by
 have E:∀b',b'≠b->(O.setObj b o').m.get b'=O.m.get b':=fun b' h=>PT.dL _ _ _ _ h
 have aa:(O.setObj b o').m.get b=some o':=PT.dY _ _ _
 have back:∀b₁ o₁,(O.setObj b o').m.get b₁=some o₁->∃o₂,O.m.get b₁=some o₂/\(o₁.ro=true↔o₂.ro=true):=fun b₁ o₁ h=>by
  grind
 constructor
 ·refine⟨fun b' L=>?_,fun b' l' M=>by rw[u];exact hi.dz b' l' M,fun b' o₁ l₁ h1 G=>?_,fun b₁ b₂ o₁ o₂ l₁ l₂ h1 G N X h5 h6=>?_⟩
  ·have hf:=hi.fresh b' L
   grind
  ·by_cases e:b'=b
   ·simp_all
   rw[E b' e] at h1;obtain⟨y,hy,W⟩:=hi.obj b' o₁ l₁ h1 G
   have hne:l₁.dz≠l.dz:=fun Q=>by
    have:=hi.inj b' b o₁ o l₁ l h1 hb G hl Q e
    simp_all
   simp_all
  obtain⟨A,B,R⟩:=back b₁ o₁ h1;obtain⟨S,T,ac⟩:=back b₂ o₂ G;have:=hi.inj b₁ b₂ A S l₁ l₂ B T N X h5 h6
  simp_all
 refine⟨fun _ _=>Z,nR_ _,by omega,fun r W hn=>d r (fun e=>hn ⟨b,o,l,hb,I,hl,e.symm⟩),?_,z,K,C⟩;rintro r ⟨b₁,o₁,l₁,h1,G,N,rfl⟩ W;obtain⟨A,B,R⟩:=back b₁ o₁ h1;refine⟨b₁,A,l₁,B,?_,N,Z⟩
 simp_all
theorem Inv.change (hi:Inv Y O w) {b:Pos} {l:Loc} {o o':cN} {x:Obj} {w':World} (hb:O.m.get b=some o) (hl:Y b=some l) (C:o.ro=false) (A:o'.ro=false)
  (hw:w'.heap[l.dz]? =some x) (G:gF Y l o' x) (d:∀r,r≠l.dz->w'.heap[r]? =w.heap[r]?) (u:w'.heap.size=w.heap.size)
  (z:w'.tape=w.tape) (E:w'.os=w.os) (B:w'.output=w.output/\w.drawn<=w'.drawn):
  Inv Y (O.setObj b o') w'/\fb Y O w Y (O.setObj b o') w':=hi.of (hi.DT hb hl C A hw G d u z E B)
theorem Inv.BO (hi:Inv Y O w) {b:Pos} {l:Loc} {o o':cN} {x:Obj} {w':World} (hb:O.m.get b=some o) (hl:Y b=some l) (C:o.ro=false)
  (hw:w'.heap[l.dz]? =some x) (ho:gF Y l o' x) (u:∀r,r≠l.dz->w'.heap[r]? =w.heap[r]?) (A:w'.heap.size=w.heap.size)
  (B:w'.tape=w.tape) (I:w'.os=w.os) (E:w'.output=w.output/\w.drawn<=w'.drawn):
  BC Y (O.setObj b o') w'/\fb Y O w Y (O.setObj b o') w':=by
 have d:∀b',b'≠b->(O.setObj b o').m.get b'=O.m.get b':=fun b' h=>PT.dL _ _ _ _ h
 have aa:(O.setObj b o').m.get b=some o':=PT.dY _ _ _
 have apart:∀b' o₁ l₁,b'≠b->O.m.get b'=some o₁->Y b'=some l₁->l₁.dz≠l.dz:=fun b' o₁ l₁ e h1 z K=>by
  have:=hi.inj b' b o₁ o l₁ l h1 hb z hl K e
  simp_all
 constructor
 ·refine⟨fun b' L=>?_,fun b' l' M=>by rw[A];exact hi.dz b' l' M,fun b' o₁ l₁ h1 z=>?_,fun b₁ b₂ o₁ o₂ l₁ l₂ h1 z G Q h5 R=>?_⟩
  ·have hf:=hi.fresh b' L
   grind
  ·by_cases e:b'=b
   ·simp_all
   rw[d b' e] at h1;obtain⟨y,hy,N⟩:=hi.obj b' o₁ l₁ h1 z
   grind
  by_cases e1:b₁=b<;>by_cases e2:b₂=b
  ·simp_all
  ·grind
  ·grind
  rw[d b₁ e1] at h1;rw[d b₂ e2] at z;exact hi.inj b₁ b₂ o₁ o₂ l₁ l₂ h1 z G Q h5 R
 refine⟨fun _ _=>Z,nR_ _,by omega,fun r N hn=>u r (fun e=>hn ⟨b,o,l,hb,C,hl,e.symm⟩),?_,B,I,E⟩;rintro r ⟨b₁,o₁,l₁,h1,z,G,rfl⟩ N
 by_cases e:b₁=b
 ·subst e;exact⟨b₁,o,l₁,hb,C,G,Z⟩
 rw[d b₁ e] at h1;exact⟨b₁,o₁,l₁,h1,z,G,Z⟩
theorem Inv.HH (hi:Inv Y O w) {b:Pos} {l:Loc} {o o':cN} {x:Obj} {w':World} (hb:O.m.get b=some o) (hl:Y b=some l) (B:o.ro=false)
  (hw:w'.heap[l.dz]? =some x) (E:gF Y l o' x) (d:∀r,r≠l.dz->w'.heap[r]? =w.heap[r]?) (u:w'.heap.size=w.heap.size)
  (z:w'.tape=w.tape) (C:w'.os=w.os) (A:w'.output=w.output/\w.drawn<=w'.drawn):
  Inv Y (O.setObj b o') w'/\fb Y O w Y (O.setObj b o') w':=hi.of (hi.BO hb hl B hw E d u z C A)
theorem Inv.Nk (hi:Inv Y O w) {b:Pos} {l:Loc} {o o':cN} (hb:O.m.get b=some o) (hl:Y b=some l) (d:o.ro=false) (u:∀x,gF Y l o x->gF Y l o' x):
  Inv Y (O.setObj b o') w/\fb Y O w Y (O.setObj b o') w:=by
 obtain⟨x,hx,z⟩:=hi.obj b o l hb hl;exact hi.HH hb hl d hx (u x z) (fun _ _=>Z) Z Z Z ⟨Z,nR_ _⟩
theorem gF.H8 {l:Loc} {cells:List V} {x:Obj} (h:gF Y l (.own cells e) x):(l.sh=0/\cells.length=l.cells)/\gF Y l (.row cells e false) x:=⟨h.1,h.2⟩
theorem gF.Iw {l:Loc} {cells:List V} {x:Obj} (h0:l.sh=0/\cells.length=l.cells) (h:gF Y l (.row cells e false) x):gF Y l (.own cells e) x:=⟨h0,h⟩
theorem Inv.own (hi:Inv Y O w) {b:Pos} {l:Loc} {cells:List V} (hb:O.m.get b=some (.own cells e)) (hl:Y b=some l):
  (l.sh=0/\cells.length=l.cells)/\Inv Y (O.setObj b (.row cells e false)) w/\fb Y O w Y (O.setObj b (.row cells e false)) w:=by
 obtain⟨x,hx,d⟩:=hi.obj b _ l hb hl;exact⟨d.H8.1,hi.Nk hb hl Z fun x hx=>hx.H8.2⟩
theorem Inv.setCell (hi:Inv Y O w) {b:Pos} {l:Loc} {cells:List V} {e i:Nat} {v:V} {y:Value} (hb:O.m.get b=some (.row cells e false)) (hl:Y b=some l)
  (hlt:i<cells.length) (hv:VR Y v y):
  Inv Y (O.setObj b (.row (cells.set i v) e false)) (w.setCell ⟨l.dz,l.sh+i,none⟩ y)/\fb Y O w Y (O.setObj b (.row (cells.set i v) e false)) (w.setCell ⟨l.dz,l.sh+i,none⟩ y):=by
 obtain⟨c,fr,h1,d,z,h4,h5⟩:=hi.row hb hl
 refine hi.change hb hl Z Z (heap_setCell_same h1 (l.sh+i) y) ⟨_,fr,Z,by simpa using d,by simpa using z,fun j u hu=>?_,fun _=>h5 Z⟩
  (fun r A=>heap_setCell_other w _ _ A) (by simp) Z Z ⟨Z,nR_ _⟩
 grind
def aB.drop (O:aB) (b:Pos):aB:={O with m:=O.m.put none b}
theorem Inv.EP (hi:Inv Y O w) {b:Pos} {l l':Loc} {cells cells':List V} {x:Obj} {w':World} (hb:O.m.get b=some (.row cells e false)) (hl:Y b=some l)
  (hblk:l'.dz=l.dz) (hw:w'.heap[l.dz]? =some x) (S:gF Y l' (.row cells' e false) x) (z:∀r,r≠l.dz->w'.heap[r]? =w.heap[r]?) (B:w'.heap.size=w.heap.size)
  (C:w'.tape=w.tape) (M:w'.os=w.os) (I:w'.output=w.output/\w.drawn<=w'.drawn):
  BC (Y.with O.next l') ((O.drop b).alloc (.row cells' e false)) w'/\fb Y O w (Y.with O.next l') ((O.drop b).alloc (.row cells' e false)) w':=by
 have hle:=hi.w9 l';have d:∀b l'',b≠O.next->(Y.with O.next l') b=some l''->Y b=some l'':=fun b l'' hb h=>by rwa[Ren.eC Y l' hb] at h
 have ac:b≠O.next:=fun e=>by subst e;rw[(hi.fresh _<|nR_ _).1] at hl;cases hl
 have N:∀b:Pos,b.num<O.next.num->b≠O.next:=fun b hb e=>by simp_all
 have E:((O.drop b).alloc (.row cells' e false)).m.get O.next=some (.row cells' e false):=PT.dY _ _ _
 have aa:∀b',b'≠O.next->((O.drop b).alloc (.row cells' e false)).m.get b'=if b'=b then none else O.m.get b':=fun b' h=>by
  show((O.m.put none b).put _ O.next).get b'=_;rw[PT.dL _ _ _ _ h,PT.jM]
 have oI:∀b' o',b'≠O.next->((O.drop b).alloc (.row cells' e false)).m.get b'=some o'->b'≠b/\O.m.get b'=some o':=fun b' o' hn h=>by
  simp_all
 have apart:∀b' o' l'',b'≠b->O.m.get b'=some o'->Y b'=some l''->l''.dz≠l.dz:=fun b' o' l'' hne h1 A Q=>by
  have:=hi.inj b' b o' _ l'' l h1 hb A hl Q hne;exact absurd this.2 (by simp[cN.ro])
 constructor
 ·refine⟨fun b' G=>?_,fun b' l'' K=>?_,fun b' o₁ l₁ h1 A=>?_,fun b₁ b₂ o₁ o₂ l₁ l₂ h1 A L T h5 W=>?_⟩
  ·have ab:O.next.num+1<=b'.num:=by simpa [aB.alloc,aB.drop,Pos.iT] using G
   have hne:b'≠O.next:=fun e=>by subst e;omega
   have hf:=hi.fresh b' oM
   grind [Ren.eC]
  ·rw[B]
   by_cases e1:b'=O.next
   ·grind [Ren.cZ]
   exact hi.dz b' l''<|d b' l'' e1 K
  ·by_cases e1:b'=O.next
   ·subst e1;rw[E] at h1;rw[Ren.cZ] at A;cases h1;cases A;exact⟨x,by rw[hblk];exact hw,S.mono hle⟩
   obtain⟨hne,u⟩:=oI b' o₁ e1 h1;have h2':=d b' l₁ e1 A;obtain⟨y,hy,R⟩:=hi.obj b' o₁ l₁ u h2';exact⟨y,by grind,R.mono hle⟩
  by_cases e1:b₁=O.next<;>by_cases e2:b₂=O.next
  ·simp_all
  ·grind [Ren.cZ]
  ·grind [Ren.cZ]
  obtain⟨_,u⟩:=oI b₁ o₁ e1 h1;obtain⟨_,h2'⟩:=oI b₂ o₂ e2 A;exact hi.inj b₁ b₂ o₁ o₂ l₁ l₂ u h2' (d b₁ l₁ e1 L) (d b₂ l₂ e2 T) h5 W
 refine⟨fun b' G=>Ren.eC Y l' (N b' G),by simp[aB.alloc,aB.drop,Pos.iT],by omega,
  fun r R hn=>z r (fun e'=>hn ⟨b,_,l,hb,Z,hl,e'.symm⟩),?_,C,M,I⟩
 rintro r ⟨b₁,o₁,l₁,h1,A,L,rfl⟩ R
 by_cases e1:b₁=O.next
 ·subst e1;rw[Ren.cZ] at L;cases L;exact⟨b,_,l,hb,Z,hl,hblk.symm⟩
 obtain⟨_,u⟩:=oI b₁ o₁ e1 h1;exact⟨b₁,o₁,l₁,u,A,d b₁ l₁ e1 L,Z⟩
theorem Inv.CK (hi:Inv Y O w) {b:Pos} {l l':Loc} {cells cells':List V} {x:Obj} {w':World} (hb:O.m.get b=some (.row cells e false)) (hl:Y b=some l)
  (hblk:l'.dz=l.dz) (hw:w'.heap[l.dz]? =some x) (C:gF Y l' (.row cells' e false) x) (d:∀r,r≠l.dz->w'.heap[r]? =w.heap[r]?) (u:w'.heap.size=w.heap.size)
  (z:w'.tape=w.tape) (B:w'.os=w.os) (A:w'.output=w.output/\w.drawn<=w'.drawn):
  Inv (Y.with O.next l') ((O.drop b).alloc (.row cells' e false)) w'/\fb Y O w (Y.with O.next l') ((O.drop b).alloc (.row cells' e false)) w':=hi.of (hi.EP hb hl hblk hw C d u z B A)
theorem Inv.Ec (hi:Inv Y O w) (b:Pos):BC Y (O.drop b) w/\fb Y O w Y (O.drop b) w:=by
 have oI:∀b' o',(O.drop b).m.get b'=some o'->O.m.get b'=some o':=fun b' o' h=>by
  have h':(O.m.put none b).get b'=some o':=h
  grind [PT.jM]
 constructor
 ·refine⟨fun b' d=>⟨(hi.fresh b' d).1,?_⟩,hi.dz,fun b' o l h1 u=>hi.obj b' o l (oI b' o h1) u,fun b₁ b₂ o₁ o₂ l₁ l₂ h1 u=>hi.inj b₁ b₂ o₁ o₂ l₁ l₂ (oI b₁ o₁ h1) (oI b₂ o₂ u)⟩;show(O.m.put none b).get b'=none;rw[PT.jM];split
  ·rfl
  exact(hi.fresh b' d).2
 refine⟨fun _ _=>Z,nR_ _,nR_ _,fun _ _ _=>Z,?_,Z,Z,Z,nR_ _⟩;rintro r ⟨b₁,o₁,l₁,h1,u,z,rfl⟩ hr;exact⟨b₁,o₁,l₁,oI b₁ o₁ h1,u,z,Z⟩
theorem Inv.forget (hi:Inv Y O w) (b:Pos):Inv Y (O.drop b) w/\fb Y O w Y (O.drop b) w:=hi.of (hi.Ec b)
end
def QM (k:IntKind) (n:Int):Bool:=
 match k,n with
 | .i8,.ofNat a=>Nat.ble a 127 | .i8,.negSucc a=>Nat.ble a 127
 | .i16,.ofNat a=>Nat.ble a 32767 | .i16,.negSucc a=>Nat.ble a 32767
 | .i32,.ofNat a=>Nat.ble a 2147483647 | .i32,.negSucc a=>Nat.ble a 2147483647
 | .i64,.ofNat a=>Nat.ble a 9223372036854775807 | .i64,.negSucc a=>Nat.ble a 9223372036854775807
 | .u8,.ofNat a=>Nat.ble a 255 | .u16,.ofNat a=>Nat.ble a 65535
 | .u32,.ofNat a=>Nat.ble a 4294967295 | .u64,.ofNat a=>Nat.ble a 18446744073709551615
 | _,_=>false
def wr (k:IntKind) (n:Int):Int:=bif QM k n then n else k.wrap n
def dH (x y:Int):Bool:=
 match x,y with
 | .ofNat a,.ofNat b=>Nat.ble (Nat.succ a) b
 | .negSucc _,.ofNat _=>true
 | .ofNat _,.negSucc _=>false
 | .negSucc a,.negSucc b=>Nat.ble (Nat.succ b) a
def F (x y:Int):Bool:=
 match x,y with
 | .ofNat a,.ofNat b=>Nat.beq a b
 | .negSucc a,.negSucc b=>Nat.beq a b
 | _,_=>false
def AB (s t:List Nat):Bool:=
 List.rec (motive:=fun _=>List Nat->Bool) (fun t=>List.rec (motive:=fun _=>Bool) true (fun _ _ _=>false) t)
  (fun x _ ih t=>List.rec (motive:=fun _=>Bool) false (fun y u _=>bif Nat.beq x y then ih u else false) t) s t
def Oj (s t:List Nat):Bool:=
 List.rec (motive:=fun _=>List Nat->Bool) (fun t=>List.rec (motive:=fun _=>Bool) false (fun _ _ _=>true) t)
  (fun x _ ih t=>List.rec (motive:=fun _=>Bool) false (fun y u _=>bif Nat.ble (Nat.succ x) y then true else bif Nat.beq x y then ih u else false) t) s t
def uE:IntKind->IntKind->Bool
 | .i8,.i8 | .i16,.i16 | .i32,.i32 | .i64,.i64 | .u8,.u8 | .u16,.u16 | .u32,.u32 | .u64,.u64=>true
 | _,_=>false
def kC:Value->Option V
 | .bool b=>some (.bool b)
 | .int k n=>some (.int k n)
 | .string s=>some (.str<|s.data.toList.map UInt8.toNat)
 | .pointer none=>some .nilPtr
 | .slice none 0 0=>some .av
 | .map none=>some .iw
 | .nilFunc=>some .nilFunc
 | .nilIface=>some .nilIface
 | _=>none
def qq:Value->Option V
 | .agg cs=>(dv kC cs.toList).map .agg
 | .tuple cs=>(dv kC cs.toList).map .tuple
 | v=>kC v
def vW (P:Program) (t:TypeId):Option TypeInfo:=
 match nth P.types.toList t with
 | some i=>some i
 | none=>P.info? t
def pw (P:Program) (t:TypeId):Option TypeDesc:=
 match vW P t with
 | some {desc:=.named _ u,..}=>(vW P u).map (·.desc)
 | some i=>some i.desc
 | none=>none
theorem qi (P:Program) (t:TypeId):vW P t=P.info? t:=by
 unfold vW;rw[fY,aT_];cases h:P.types[t]? with
 | none=>rfl
 | some i=>
  have hlt:=(aS_.1 h).1;unfold Tables.info?;rw[if_pos hlt,h]
theorem oH (P:Program) (t:TypeId):pw P t=P.underlying t:=by
 grind [pw,Program.underlying,qi]
def dT (P:Program) (t:TypeId):Option (Option Nat):=
 match pw P t with
 | some (.struct _) | some (.array _ _)=>some (some (((vW P t).map (·.size)).getD 0))
 | some _=>some none
 | none=>none
theorem Dy (P:Program) (t:TypeId):dT P t=match P.underlying t with
 | some (.struct _) | some (.array _ _)=>some (some<|P.cellsOf t)
 | some _=>some none
 | none=>none:=by
 unfold dT;rw[oH,qi];rfl
def cG:V->Option (List V)
 | .agg cs=>some cs
 | .tuple _=>none
 | .any=>none
 | v=>some [v]
def eB:V->Bool
 | .agg _ | .tuple _ | .any=>false
 | _=>true
def cM (l:List V):Bool:=List.rec (motive:=fun _=>Bool) true (fun v _ r=>bif eB v then r else false) l
def lM (cs l:List V):List V:=
 List.rec (motive:=fun _=>List V->List V) (fun l=>l) (fun c _ ih l=>List.rec (motive:=fun _=>List V) [] (fun _ l _=>c::ih l) l) cs l
def dJ (cs l:List V) (off:Nat):List V:=
 List.rec (motive:=fun _=>Nat->List V) (fun _=>[]) (fun x l ih off=>Nat.rec (motive:=fun _=>List V) (lM cs (x::l)) (fun m _=>x::ih m) off) l off
def Ie (P:Program) (t:TypeId) (cs:List V) (off:Nat):Option V:=
 match dT P t with
 | some (some n)=>some (.agg<|takeN (eA cs off) n)
 | some none=>nth cs off
 | none=>none
def jK (place:Nat->Option (Nat×Nat)) (ev:Operand->Option V) (parts:List (Nat×Operand)) (cells:List V):Option (List V):=
 List.rec (motive:=fun _=>List V->Option (List V)) (fun cells=>some cells)
  (fun p _ ih cells=>
   match place p.1,(ev p.2).bind cG with
   | some (off,size),some vs=>bif Nat.beq (dU vs) size && Nat.ble (off+size) (dU cells) then ih (dJ vs cells off) else none
   | _,_=>none) parts cells
def fJ (P:Program) (t:TypeId):Option V:=(P.info? t).bind fun i=>i.zero.bind qq
def e9 (cs:List V) (n:Nat):List V:=Nat.rec (motive:=fun _=>List V) [] (fun _ r=>gS cs r) n
def structOf (P:Program) (t:TypeId):Option (Array Field):=
 match pw P t with
 | some (.struct fs)=>some fs
 | _=>none
def sN:V->V->Option Bool
 | .bool a,.bool b=>some (bif a then b else(bif b then false else true))
 | .int j a,.int k b=>bif uE j k then some (F a b) else none
 | .str a,.str b=>some (AB a b)
 | _,_=>none
def ju (P:Program) (fs:List Field) (xs ys:List V):Option Bool:=
 List.rec (motive:=fun _=>Option Bool) (some true)
  (fun f _ ih=>
   match P.underlying f.type,nth xs f.offset,nth ys f.offset with
   | some .bool,some (.bool a),some (.bool b)=>bif (bif a then b else(bif b then false else true)) then ih else some false
   | some (.int _),some (.int j a),some (.int k b)=>bif uE j k then(bif F a b then ih else some false) else none
   | some .string,some (.str a),some (.str b)=>bif AB a b then ih else some false
   | _,_,_=>none) fs
def lL (fs:List Field):Bool:=List.rec (motive:=fun _=>Bool) true (fun f _ r=>bif f.name == "_" then false else r) fs
def xL (xs ys:List V):Option Bool:=
 List.rec (motive:=fun _=>List V->Option Bool) (fun ys=>match ys with | []=>some true | _=>none)
  (fun x _ ih ys=>match x,ys with
   | .int j a,.int k b::r=>bif uE j k then(bif F a b then ih r else some false) else none
   | _,_=>none) xs ys
def sT (P:Program) (e:TypeId):Bool:=
 match P.underlying e,P.info? e with
 | some (.int _),some i=>Nat.beq i.size 1
 | _,_=>false
def eqFields (P:Program) (fs:List Field) (xs ys:List V):Option Bool:=
 List.rec (motive:=fun _=>Option Bool) (some true)
  (fun f _ ih=>
   match P.underlying f.type,nth xs f.offset,nth ys f.offset with
   | some .bool,some (.bool a),some (.bool b)=>bif (bif a then b else(bif b then false else true)) then ih else some false
   | some (.int _),some (.int j a),some (.int k b)=>bif uE j k then(bif F a b then ih else some false) else none
   | some .string,some (.str a),some (.str b)=>bif AB a b then ih else some false
   | some (.struct gs),_,_=>bif P.stoodInHeld f.type || !lL gs.toList then none else match dT P f.type with
    | some (some n)=>match ju P gs.toList (takeN (eA xs f.offset) n) (takeN (eA ys f.offset) n) with
     | some true=>ih
     | some false=>some false
     | none=>none
    | _=>none
   | some (.array m e),_,_=>bif sT P e then(match dT P f.type with
    | some (some n)=>bif Nat.beq n m && (Nat.beq (dU<|takeN (eA xs f.offset) n) m && Nat.beq (dU<|takeN (eA ys f.offset) n) m) then(match xL (takeN (eA xs f.offset) n) (takeN (eA ys f.offset) n) with
     | some true=>ih
     | some false=>some false
     | none=>none) else none
    | _=>none) else none
   | _,_,_=>none) fs
def Gb (P:Program) (t:TypeId) (x y:V):Option Bool:=
 match x,y with
 | .agg xs,.agg ys=>
  match structOf P t with
  | some fs=>bif P.eqGuardType P.depth t || P.stoodInHeld t || !lL fs.toList then none else eqFields P fs.toList xs ys
  | none=>none
 | .nilPtr,.nilPtr=>match P.underlying t with | some (.pointer _)=>some true | _=>none
 | .ptr _ _,.nilPtr | .nilPtr,.ptr _ _=>match P.underlying t with | some (.pointer _)=>some false | _=>none
 | .ptr b o,.ptr b' o'=>match P.underlying t with | some (.pointer u)=>bif Nat.beq b b' && (Nat.beq o o' && (P.info? u).isSome) then some true else none | _=>none
 | .nilIface,.iface _ _ | .iface _ _,.nilIface=>match P.underlying t with | some (.interface _)=>some false | _=>none
 | .av,.av=>match P.underlying t with | some (.slice _)=>some true | _=>none
 | .slice _ _ _ _,.av | .av,.slice _ _ _ _=>match P.underlying t with | some (.slice _)=>some false | _=>none
 | .nilFunc,.nilFunc=>match P.underlying t with | some (.func _ _ _)=>some true | _=>none
 | .func _ _ _,.nilFunc | .nilFunc,.func _ _ _=>match P.underlying t with | some (.func _ _ _)=>some false | _=>none
 | .iw,.iw=>match P.underlying t with | some (.map _ _)=>some true | _=>none
 | .map _,.iw | .iw,.map _=>match P.underlying t with | some (.map _ _)=>some false | _=>none
 | _,_=>none
def nc (P:Program) (op:BinOp) (t:TypeId) (x y:V):Option V:=
 match op with
 | .eql=>match Gb P t x y with | some b=>some (.bool b) | none=>none
 | .neq=>match Gb P t x y with | some b=>some (.bool (bif b then false else true)) | none=>none
 | _=>none
def tz (P:Program) (op:BinOp) (t:TypeId) (x y:V):Option V:=
 match x,y with
 | .int k a,.int k' b=>
  match op with
  | .shl=>bif dH b 0 then none else some (.int k<|wr k (a*2 ^ (min b.toNat k.bits)))
  | .shr=>bif dH b 0 then none else some (.int k<|a.fdiv (2 ^ (min b.toNat k.bits)))
  | op=>
   bif uE k k' then
    match op with
    | .add=>some (.int k<|wr k<|Int.add a b)
    | .sub=>some (.int k<|wr k<|Int.sub a b)
    | .mul=>some (.int k<|wr k<|Int.mul a b)
    | .quo=>bif F b 0 then none else some (.int k<|wr k<|a.tdiv b)
    | .rem=>bif F b 0 then none else some (.int k<|a.tmod b)
    | .and=>some (.int k<|k.wrap (BitVec.ofInt k.bits a &&& BitVec.ofInt k.bits b).toNat)
    | .or=>some (.int k<|k.wrap (BitVec.ofInt k.bits a ||| BitVec.ofInt k.bits b).toNat)
    | .xor=>some (.int k<|k.wrap (BitVec.ofInt k.bits a ^^^ BitVec.ofInt k.bits b).toNat)
    | .andNot=>some (.int k<|k.wrap (BitVec.ofInt k.bits a &&& ~~~(BitVec.ofInt k.bits b)).toNat)
    | .eql=>some (.bool<|F a b)
    | .neq=>some (.bool (bif F a b then false else true))
    | .lss=>some (.bool<|dH a b)
    | .leq=>some (.bool (bif dH b a then false else true))
    | .gtr=>some (.bool<|dH b a)
    | .geq=>some (.bool (bif dH a b then false else true))
    | _=>none
   else none
 | .str a,.str b=>
  match op with
  | .add=>bif Nat.ble (dU a+dU b) 1152921504606846976 then some (.str<|gS a b) else none
  | .eql=>some (.bool<|AB a b)
  | .neq=>some (.bool (bif AB a b then false else true))
  | .lss=>some (.bool<|Oj a b)
  | .gtr=>some (.bool<|Oj b a)
  | .leq=>some (.bool (bif Oj b a then false else true))
  | .geq=>some (.bool (bif Oj a b then false else true))
  | _=>none
 | .bool a,.bool b=>
  match op,P.underlying t with
  | .eql,some .bool=>some (.bool (bif a then b else(bif b then false else true)))
  | .neq,some .bool=>some (.bool (bif a then(bif b then false else true) else b))
  | _,_=>none
 | x,y=>nc P op t x y
def fG (ev:Operand->Option V) (x:Operand) (y:Nat):Option Nat:=
 match ev x with
 | some (.int _ (.ofNat i))=>bif Nat.ble i y then some i else none
 | _=>none
def dX (ev:Operand->Option V) (len cap:Nat) (lo hi:Option Operand):Option (Nat×Nat):=
 match(match hi with | some h=>fG ev h cap | none=>some len) with
 | some h=>match(match lo with | some l=>fG ev l h | none=>some 0) with
  | some l=>some (l,h)
  | none=>none
 | none=>none
def cut (P:Program) (e:TypeId) (b:Pos) (off l h m:Nat):Option V:=
 match P.info? e with
 | some j=>some (.slice b (bif Nat.beq m l then off else off+l*j.size) (h-l) (.known (m-l)))
 | none=>none
def cutAt (P:Program) (ev:Operand->Option V) (e:TypeId) (b:Pos) (off len cap:Nat) (lo hi mx:Option Operand):Option V:=
 match mx with
 | none=>match dX ev len cap lo hi with
  | some (l,h)=>cut P e b off l h cap
  | none=>none
 | some x=>match fG ev x cap,hi with
  | some m,some _=>match dX ev m m lo hi with
   | some (l,h)=>cut P e b off l h m
   | none=>none
  | _,_=>none
def jo (P:Program) (ev:Operand->Option V) (t:TypeId) (x:Operand) (lo hi mx:Option Operand):Option V:=
 match P.underlying t,ev x with
 | some (.slice e),some (.slice b off len (.known cap))=>cutAt P ev e b off len cap lo hi mx
 | some (.slice e),some (.slice b off len (.upto sz))=>
  match mx with
  | none=>match dX ev len len lo hi,P.info? e with
   | some (l,h),some j=>bif Nat.beq j.size sz then some (.slice b (off+l*sz) (h-l) (.upto sz)) else none
   | _,_=>none
  | some x=>bif Nat.beq len 0 then none else cutAt P ev e b off len len lo hi (some x)
 | some (.slice e),some (.slice b off len (.least a sz))=>
  match mx with
  | none=>match dX ev len a lo hi,P.info? e with
   | some (l,h),some j=>bif Nat.beq j.size sz && (Nat.ble len a && Nat.ble (Nat.succ l) a) then some (.slice b (off+l*sz) (h-l) (.least (a-l) sz)) else none
   | _,_=>none
  | some _=>none
 | some (.slice e),some .av=>
  match mx with
  | none=>match dX ev 0 0 lo hi,P.info? e with | some _,some _=>some .av | _,_=>none
  | some _=>none
 | some (.array n e),some (.ptr b off)=>cutAt P ev e b off n n lo hi mx
 | some (.pointer arr),some (.ptr b off)=>
  match P.underlying arr with
  | some (.array n e)=>cutAt P ev e b off n n lo hi mx
  | _=>none
 | some .string,some (.str s)=>
  match mx with
  | none=>match dX ev (dU s) (dU s) lo hi with
   | some (l,h)=>some (.str<|takeN (eA s l) (h-l))
   | none=>none
  | some _=>none
 | _,_=>none
def zT (P:Program) (t:TypeId) (x:V):Option Nat:=
 match P.underlying t,x with
 | some .string,.str s=>some (dU s)
 | some (.array n _),_=>some n
 | some (.slice _),.slice _ _ n _=>some n
 | some (.slice _),.av=>some 0
 | some (.map _ _),.iw=>some 0
 | _,_=>none
def SY:V->Option V
 | .slice _ _ _ (.known c)=>some (.int .i64<|Int.ofNat c)
 | .slice _ _ _ (.least a _)=>some (.oJ a)
 | .av=>some (.int .i64 0)
 | _=>none
def KT (P:Program) (op:BinOp) (t:TypeId) (x y:V):Option V:=
 match y with
 | .oJ a=>match op,x with
  | .gtr,.int .i64 (.ofNat n)=>bif Nat.ble n a then some (.bool false) else none
  | _,_=>none
 | y=>tz P op t x y
def AP:Operand->Bool
 | .const _=>true
 | _=>false
def Ms (P:Program) (o:BinOp) (t:TypeId) (k:Bool):Option V:=
 bif k then(match P.underlying t with
  | some (.interface _)=>match o with
   | .eql=>some (.bool true)
   | .neq=>some (.bool false)
   | _=>none
  | _=>none) else none
def pH (P:Program) (k:Bool) (o:BinOp) (t:TypeId) (x y:V):Option V:=
 match x with
 | .nilIface=>match y with
  | .nilIface=>Ms P o t k
  | y=>KT P o t .nilIface y
 | x=>KT P o t x y
def jv (ev:Operand->Option V) (l:List Operand):Option (List V):=dv ev l
def RS:V->V->Option V
 | .int k x,.int k' y=>bif uE k k' then some (.int k (bif dH y x then y else x)) else none
 | _,_=>none
def Tl:V->V->Option V
 | .int k x,.int k' y=>bif uE k k' then some (.int k (bif dH x y then y else x)) else none
 | _,_=>none
def eh (P:Program) (ev:Operand->Option V):Op->Option V
 | .move x | .assign x=>ev x
 | .pick c a b=>match ev c with | some (.bool true)=>ev a | some (.bool false)=>ev b | _=>none
 | .build t parts=>
  match P.underlying t,(fJ P t).bind cG with
  | some (.struct fs),some zero=>match dv (fun f:Field=>(P.info? f.type).map fun j=>(f.offset,j.size)) fs.toList with
   | some places=>(jK (nth places) ev parts.toList zero).map .agg
   | none=>none
  | some (.array _ e),some zero=>match P.info? e with
   | some j=>(jK (fun i=>some (i*j.size,j.size)) ev parts.toList zero).map .agg
   | none=>none
  | _,_=>none
 | .nilCheck x=>match ev x with
  | some .nilPtr | some .nilIface | some .nilFunc | some (.yield _) | some .any | some (.tok _)=>none
  | v=>v
 | .binOp op t x y _=>match ev x,ev y with | some a,some b=>pH P (AP x || AP y) op t a b | _,_=>none
 | .unOp op _ x=>match op,ev x with
  | .not,some (.bool b)=>some (.bool (bif b then false else true))
  | .neg,some (.int k n)=>some (.int k<|wr k<|Int.sub 0 n)
  | .xor,some (.int k n)=>some (.int k<|k.wrap (BitVec.ofInt k.bits (if k.signed then-1 else k.max) ^^^ BitVec.ofInt k.bits n).toNat)
  | _,_=>none
 | .convert src dst x=>match P.underlying src,P.underlying dst,ev x with
  | some (.int _),some (.int k),some (.int _ n)=>some (.int k<|wr k n)
  | some .string,some .string,some (.str s)=>some (.str s)
  | _,_,_=>none
 | .makeInterface t x=>match P.underlying t,ev x with
  | some (.interface _),_=>none
  | some _,some v=>some (.iface t v)
  | _,_=>none
 | .makeFunc fn first captured=>match fn,jv ev first.toList,jv ev captured.toList with
  | .func f,some a,some b=>some (.func f a b)
  | _,_,_=>none
 | .slice t x lo hi mx=>jo P ev t x lo hi mx
 | .fieldAddr s x i=>match structOf P s,ev x with
  | some fs,some (.ptr b off)=>match fs[i]? with
   | some f=>match P.info? f.type with
    | some j=>bif Nat.beq j.size 0 then none else some (.ptr b (off+f.offset))
    | none=>none
   | none=>none
  | _,_=>none
 | .field t x i=>match structOf P t,ev x with
  | some fs,some (.agg cs)=>match fs[i]? with
   | some f=>Ie P f.type cs f.offset
   | none=>none
  | _,_=>none
 | .indexAddr t x i=>match P.underlying t,ev x,ev i with
  | some (.slice e),some (.slice b off len _),some (.int _ (.ofNat i))=>
   match P.info? e with
   | some j=>bif Nat.ble (Nat.succ i) len then some (.ptr b (off+i*j.size)) else none
   | none=>none
  | some (.array n e),some (.ptr b off),some (.int _ (.ofNat i))=>
   match P.info? e with
   | some j=>bif Nat.ble (Nat.succ i) n then some (.ptr b (off+i*j.size)) else none
   | none=>none
  | _,_,_=>none
 | .index t x i=>match P.underlying t,ev x,ev i with
  | some (.array n e),some (.agg cs),some (.int _ (.ofNat i))=>bif Nat.ble (Nat.succ i) n then(match P.info? e with | some j=>Ie P e cs (i*j.size) | none=>none) else none
  | some .string,some (.str s),some (.int _ (.ofNat i))=>match nth s i with | some b=>some (.int .u8<|Int.ofNat b) | none=>none
  | _,_,_=>none
 | .extract x i=>match ev x with
  | some (.tuple vs)=>nth vs i
  | _=>none
 | .typeAssert x _ t ok=>match P.underlying t,ev x with
  | some (.interface _),_=>none
  | some _,some (.iface u v)=>bif Nat.beq u t then some (bif ok then .tuple [v,.bool true] else v) else(bif ok then(fJ P t).map fun z=>.tuple [z,.bool false] else none)
  | some _,some .nilIface=>bif ok then(fJ P t).map fun z=>.tuple [z,.bool false] else none
  | _,_=>none
 | .call c=>match c.callee with
  | .builtin .len=>match c.argTypes[0]?,c.args.toList with
   | some t,[x]=>match ev x with | some v=>(zT P t v).map fun n=>.int .i64 (Int.ofNat n) | none=>none
   | _,_=>none
  | .builtin .cap=>match c.argTypes[0]?,c.args.toList with
   | some t,[x]=>match P.underlying t,ev x with | some (.slice _),some v=>SY v | _,_=>none
   | _,_=>none
  | .builtin .min=>match c.args.toList with
   | [x,y]=>(match ev x,ev y with | some a,some b=>RS a b | _,_=>none)
   | _=>none
  | .builtin .max=>match c.args.toList with
   | [x,y]=>(match ev x,ev y with | some a,some b=>Tl a b | _,_=>none)
   | _=>none
  | _=>none
 | _=>none
def plainKey (P:Program) (t:TypeId):Bool:=
 match P.underlying t with
 | some (.int _) | some .string | some .bool=>true
 | some (.struct fs)=>fs.toList.all fun f=>match P.underlying f.type with
  | some (.int _) | some .string | some .bool=>true
  | some (.struct gs)=>gs.toList.all fun g=>match P.underlying g.type with
   | some (.int _) | some .string | some .bool=>true
   | _=>false
  | some (.array _ e)=>sT P e
  | _=>false
 | _=>false
def kV (P:Program) (t:TypeId) (x y:V):Option Bool:=
 match P.underlying t,x,y with
 | some (.int _),.int j a,.int k b=>bif uE j k then some (F a b) else none
 | some .string,.str a,.str b=>some (AB a b)
 | some .bool,.bool a,.bool b=>some (bif a then b else(bif b then false else true))
 | some (.struct _),.agg xs,.agg ys=>Gb P t (.agg xs) (.agg ys)
 | _,_,_=>none
def jP (P:Program) (t:TypeId) (x:V):Bool:=
 match P.underlying t,x with
 | some (.struct fs),.agg xs=>fs.toList.all fun f=>match P.underlying f.type with
  | some (.struct gs)=>match dT P f.type with
   | some (some n)=>gs.toList.all fun g=>(nth (takeN (eA xs f.offset) n) g.offset).isSome
   | _=>false
  | some (.array m _)=>match dT P f.type with
   | some (some n)=>Nat.beq n m && Nat.beq (dU<|takeN (eA xs f.offset) n) m
   | _=>false
  | _=>(nth xs f.offset).isSome
 | some (.struct _),_=>false
 | _,_=>true
def nh (P:Program) (t:TypeId) (k:V) (es:List eP):Nat->Option (Option (Nat×V)):=
 List.rec (motive:=fun _=>Nat->Option (Option (Nat×V))) (fun _=>some none)
  (fun e _ ih i=>match kV P t k e.key with
   | some true=>some (some (i,e.val))
   | some false=>ih (Nat.succ i)
   | none=>none) es
def sX (P:Program) (u:Option TypeId) (O:aB) (x:Option V):Option V:=
 match x with
 | some (.ptr b off)=>match O.m.get b with
  | some (.own cells e)=>match u with
   | some u=>bif liesAt P P.depth e (dU cells/P.cellsOf e) off u 1 then some (.ptr b off) else none
   | none=>bif Nat.ble (Nat.succ off) (dU cells) then some (.ptr b off) else none
  | _=>none
 | _=>none
def Af:V->Option Nat
 | .int .u8 (.ofNat n)=>bif Nat.ble n 255 then some n else none
 | _=>none
def gE (P:Program) (ev:Operand->Option V) (O:aB):Op->Option V
 | .load t x=>match ev x with
  | some (.ptr b off)=>match O.m.get b with
   | some (.row cells _ _)=>match dT P t with
    | some (some n)=>bif Nat.ble (off+n) (dU cells) then some (.agg<|takeN (eA cells off) n) else none
    | some none=>nth cells off
    | none=>none
   | some (.own cells _)=>match dT P t with
    | some (some n)=>bif Nat.ble (off+n) (dU cells) then some (.agg<|takeN (eA cells off) n) else none
    | some none=>nth cells off
    | none=>none
   | _=>none
  | _=>none
 | .lookup t x i ok=>match P.underlying t,ev i with
  | some (.map kt et),some k=>bif plainKey P kt && jP P kt k then
    match(match ev x with
     | some .iw=>some []
     | some (.map b)=>match O.m.get b with | some (.map es _)=>some es | _=>none
     | _=>none) with
    | some es=>match nh P kt k es 0,fJ P et with
     | some (some (_,v)),some _=>some (bif ok then .tuple [v,.bool true] else v)
     | some none,some z=>some (bif ok then .tuple [z,.bool false] else z)
     | _,_=>none
    | none=>none
   else none
  | _,_=>none
 | .call c=>match c.callee with
  | .builtin .len=>match c.argTypes[0]?,c.args.toList with
   | some t,[x]=>match P.underlying t,ev x with
    | some (.map _ _),some (.map b)=>match O.m.get b with
     | some (.map es _)=>some (.int .i64<|Int.ofNat<|dU es)
     | _=>none
    | some (.map _ _),some .iw=>some (.int .i64 0)
    | _,_=>none
   | _,_=>none
  | _=>none
 | .convert src dst x=>match P.underlying src,P.underlying dst with
  | some (.slice e),some .string=>match P.underlying e,ev x with
   | some (.int .u8),some .av=>some (.str [])
   | some (.int .u8),some (.slice b off len _)=>bif Nat.beq len 0 then some (.str []) else match O.m.get b with
    | some (.row cells _ _)=>bif Nat.ble (off+len) (dU cells) then(match dv Af (takeN (eA cells off) len) with | some s=>some (.str s) | none=>none) else none
    | _=>none
   | _,_=>none
  | some (.pointer t),some .unsafePointer=>match P.info? t with
   | some j=>bif Nat.beq j.size 0 then none else sX P none O (ev x)
   | none=>none
  | some .unsafePointer,some (.pointer u)=>bif (P.info? u).isSome then sX P (some u) O (ev x) else none
  | _,_=>none
 | _=>none
inductive Mk where
 | ptr
 | slice (len cap:Nat)
 | map
def Mk.of:Mk->Pos->V
 | .ptr,b=>.ptr b 0
 | .slice len cap,b=>.slice b 0 len (.known cap)
 | .map,b=>.map b
def uf (P:Program) (e:TypeId):Bool:=
 match P.underlying e with
 | some (.struct fs)=>match fs[0]? with
  | some f=>match P.underlying f.type with
   | some (.pointer t)=>Nat.beq t e
   | _=>false
  | none=>false
 | _=>false
def fP (P:Program) (ev:Operand->Option V):Op->Option (cN×Mk)
 | .alloc e=>match(fJ P e).bind cG with
  | some cs=>some (bif uf P e then .own cs e else .row cs e false,.ptr)
  | none=>none
 | .box e x=>match(ev x).bind cG with
  | some cs=>some (.row cs e false,.ptr)
  | none=>none
 | .buildSlice t len parts=>match P.underlying t with
  | some (.slice e)=>match P.info? e,(fJ P e).bind cG with
   | some j,some z=>
    bif Nat.beq (dU z) j.size && Nat.ble (len*j.size) 16777216 && Nat.ble 1 j.size then
     match jK (fun i=>some (i*j.size,j.size)) ev parts.toList (e9 z len) with
     | some cs=>some (.row cs e false,.slice len len)
     | none=>none
    else none
   | _,_=>none
  | _=>none
 | .makeSlice t l c=>match P.underlying t,ev l,ev c with
  | some (.slice e),some (.int _ (.ofNat l)),some (.int _ (.ofNat c))=>match P.info? e,(fJ P e).bind cG with
   | some j,some z=>
    bif Nat.ble l c && Nat.ble (j.bytes*c) 1048576 && Nat.ble c 1048576 && Nat.beq (dU z) j.size && Nat.ble 1 j.size then some (.row (e9 z c) e false,.slice l c) else none
   | _,_=>none
  | _,_,_=>none
 | .makeMap _ none=>some (.map [] 0,.map)
 | .makeMap t (some r)=>match P.underlying t,ev r with
  | some (.map _ _),some (.int _ _)=>some (.map [] 0,.map)
  | _,_=>none
 | _=>none
variable {α:Type} {cs:List V} {P:Program} {Y:Ren}
theorem bM {c:Bool} {x y:α}:(bif c then x else y)=if c=true then x else y:=by cases c<;>rfl
theorem wx (k:IntKind) (n:Int) (h:QM k n=true):k.wrap n=n:=by
 cases k<;>cases n with
 | ofNat a=>simp only[QM,nE_] at h;simp only[IntKind.wrap,IntKind.bits,IntKind.signed];simp;omega
 | negSucc a=>first | (simp only[QM,nE_] at h;simp only[IntKind.wrap,IntKind.bits,IntKind.signed];simp;omega) | (simp[QM] at h)
theorem IV (k:IntKind) (n:Int):wr k n=k.wrap n:=by
 grind [wr,wx]
theorem dq (x y:Int):dH x y=decide (x<y):=by
 cases x<;>cases y<;>simp only[dH]<;>(rw[zd_];simp[nE_];try omega)
theorem cK (x y:Int):F x y=decide (x=y):=by
 cases x<;>cases y<;>simp only[F]<;>(rw[zd_];simp;try omega)
theorem pX {j k:IntKind} (h:uE j k=true):j=k:=by cases j<;>cases k<;>first | rfl | (simp[uE] at h)
theorem xN:∀(s t:List Nat),AB s t=decide (s=t)
 | [],[]=>by simp[AB]
 | [],_::_=>by simp[AB]
 | _::_,[]=>by simp[AB]
 | x::s,y::t=>by
  show(bif Nat.beq x y then AB s t else false)=_;rw[xN s t,zd_]
  simp_all
theorem Mq:∀(s t:List UInt8),Oj (s.map UInt8.toNat) (t.map UInt8.toNat)=Op.bytesLess s t
 | [],[]=>by simp[Oj,Op.bytesLess]
 | [],_::_=>by simp[Oj,Op.bytesLess]
 | _::_,[]=>by simp[Oj,Op.bytesLess]
 | x::s,y::t=>by
  show(bif Nat.ble (Nat.succ x.toNat) y.toNat then true else bif Nat.beq x.toNat y.toNat then Oj (s.map UInt8.toNat) (t.map UInt8.toNat) else false)=_;rw[Mq s t];simp only[Op.bytesLess]
  have e1:Nat.ble (Nat.succ x.toNat) y.toNat=decide (x<y):=by
   rw[zd_,nE_];simp[UInt8.lt_iff_toNat_lt];omega
  have e2:Nat.beq x.toNat y.toNat=(x == y):=by
   rw[zd_,Nat.beq_eq];simp[<-UInt8.toNat_inj]
  simp_all
theorem sf:∀{x y:List UInt8},x.map UInt8.toNat=y.map UInt8.toNat->x=y
 | [],[],_=>rfl
 | [],_::_,h=>by simp at h
 | _::_,[],h=>by simp at h
 | a::x,b::y,h=>by
  simp only[List.map_cons,List.cons.injEq] at h;rw[UInt8.toNat_inj.1 h.1,sf h.2]
theorem oG {s t:List Nat} {x y:ByteArray} (h:gR s x) (h':gR t y):AB s t=(x.toList == y.toList):=by
 unfold gR at h h';subst h;subst h';rw[xN,ByteArray.toList_eq,ByteArray.toList_eq,zd_];simp only[decide_eq_true_eq,beq_iff_eq];exact⟨sf,fun h=>by rw[h]⟩
theorem Bi {s t:List Nat} {x y:ByteArray} (h:gR s x) (h':gR t y):Oj s t=Op.bytesLess x.toList y.toList:=by
 grind [gR,Mq,ByteArray.toList_eq]
theorem jC {s:List Nat} {x:ByteArray} (h:gR s x):dU s=x.size:=by
 unfold gR at h;subst h;rw[db,lM_,Array.length_toList];rfl
theorem info_of_underlying {t:TypeId} {d:TypeDesc} (h:P.underlying t=some d):∃i,P.info? t=some i:=by
 unfold Program.underlying at h
 grind
theorem sL {t:TypeId} {i:TypeInfo} (h:P.info? t=some i):P.cellsOf t=i.size:=by simp[Program.cellsOf,h]
theorem yV:∀(cs l:List V),cs.length<=l.length->lM cs l=cs++l.drop cs.length
 | [],l,_=>by simp[lM]
 | c::cs,[],h=>by simp at h
 | c::cs,x::l,h=>by
  show c::lM cs l=_;rw[yV cs l (by simpa using h)];simp
theorem lZ (cs:List V):∀(l:List V) (off:Nat),off+cs.length<=l.length->dJ cs l off=l.take off++cs++l.drop (off+cs.length)
 | [],off,h=>by
  have:cs= []:=eN_ (by simp only[List.length_nil] at h;omega);subst this;simp[dJ]
 | x::l,0,h=>by
  show lM cs (x::l)=_;rw[yV _ _ (by simpa using h)];simp
 | x::l,off+1,h=>by
  show x::dJ cs l off=_;rw[lZ cs l off (by simp at h;omega)];rw[show off+1+cs.length=(off+cs.length)+1 by omega];simp
theorem l9:∀{l:List V},cM l=true->∀v∈l,eB v=true
 | [],_,v,hv=>by simp at hv
 | x::l,h,v,hv=>by
  have h':(bif eB x then cM l else false)=true:=h;cases hx:eB x with
  | false=>rw[hx] at h';simp at h'
  | true=>
   rw[hx] at h';cases hv with
   | head=>exact hx
   | tail _ hm=>exact l9 h' v hm
theorem lJ {v:V} {x:Value} (h:eB v=true) (hv:VR Y v x):x.oneCell'=true:=by
 cases v with
 | slice b off len cap=>
  cases cap with
  | upto sz=>
   simp only[VR] at hv;rcases hv with ⟨l,_,⟨c,rfl,_⟩ | ⟨_,a,rfl⟩⟩<;>rfl
  | known c=>simp only[VR] at hv;obtain⟨l,_,rfl⟩:=hv;rfl
  | least a sz=>simp only[VR] at hv;obtain⟨l,_,c,rfl,_⟩:=hv;rfl
 | any=>simp[eB] at h
 | tok n=>simp only[VR] at hv;exact hv.2
 | _=>simp only[VR,eB] at hv h<;>first | (subst hv;rfl) | (obtain⟨_,rfl,_⟩:=hv;rfl) | (obtain⟨_,_,rfl⟩:=hv;rfl) | (obtain⟨_,_,rfl,_⟩:=hv;rfl) | simp_all
theorem oX {x:Value} {v:V} (h:kC x=some v):VR Y v x:=by
 unfold kC at h;split at h<;>first | (cases h;first | (simp only[VR];done) | (simp only[VR];exact⟨_,Z,Z⟩)) | cases h
theorem nw {Y:Ren}:∀{xs:List Value} {vs:List V},dv kC xs=some vs->dA Y vs xs
 | [],vs,h=>by rw[ij] at h;cases h;exact dA.nil
 | x::xs,vs,h=>by
  obtain⟨y,r,h1,d,rfl⟩:=gJ h;exact dA.cons (oX h1)<|nw d
theorem qt {x:Value} {v:V} (h:qq x=some v):VR Y v x:=by
 unfold qq at h;split at h
 ·rename_i cs;cases d:dv kC cs.toList with
  | none=>rw[d] at h;cases h
  | some vs=>rw[d] at h;cases h;simp only[VR];exact⟨cs,Z,nw d⟩
 ·rename_i cs;cases d:dv kC cs.toList with
  | none=>rw[d] at h;cases h
  | some vs=>rw[d] at h;cases h;simp only[VR];exact⟨cs,Z,nw d⟩
 exact oX h
theorem iD {v:V} {x:Value} (h:cG v=some cs) (hv:VR Y v x):dA Y cs x.cells.toList:=by
 have leaf:eB v=true->cs= [v]->dA Y cs x.cells.toList:=fun hl e=>by
  subst e;have hx:=lJ hl hv;have e:x.cells.toList= [x]:=by cases x<;>first | rfl | (simp[Value.oneCell'] at hx)
  rw[e];exact dA.cons hv dA.nil
 cases v with
 | agg ds=>simp only[cG,oJ_] at h;subst h;simp only[VR] at hv;obtain⟨ys,rfl,d⟩:=hv;exact d
 | tuple ds=>simp[cG] at h
 | any=>simp[cG] at h
 | _=>simp only[cG,oJ_] at h;exact leaf Z h.symm
theorem mY {v:V} {x:Value} (h:cG v=some cs) (hv:VR Y v x):x.cells.size=cs.length:=by
 have:=(iD h hv).length;simpa using this
section
variable {P:Program} {Y:Ren} {O:aB} {w:World}
def ER (Y:Ren) (ev:Operand->Option V) (f:Operand->Value) (op:Op):Prop:=∀x∈op.operands,∀v,ev x=some v->VR Y v (f x)
theorem Inv.piece (hi:Inv Y O w) {b:Pos} {l:Loc} {cells:List V} {ro:Bool} (d:O.m.get b=some (.row cells e ro)) (hl:Y b=some l) (off n:Nat) (hn:off+n<=cells.length):
  ∃ys:List Value,ys.length=n/\dA Y ((cells.drop off).take n) ys/\∀(j:Nat) (y:Value),ys[j]? =some y->w.cell? ((⟨l.dz,l.sh+off,none⟩:Addr).add j)=some y:=by
 obtain⟨c,fr,h1,h2,h3,h4,_⟩:=hi.row d hl;refine⟨(c.toList.drop (l.sh+off)).take n,?_,dA.GF ?_ ?_,?_⟩
 ·grind
 ·grind
 ·grind
 intro j y hy;rw[List.getElem?_take] at hy;split at hy
 ·rw[List.getElem?_drop,aT_] at hy;rw[Addr.add_eq _ _ Z,cell?_of_heap h1];exact hy
 cases hy
def Dx:TypeDesc->Bool
 | .struct _ | .array _ _=>true
 | _=>false
theorem fC {t:TypeId} {d:TypeDesc} (h:P.underlying t=some d):(isAgg t).run P w= .ok (Dx d) w:=by
 simp only[isAgg,sB_,run_underlying h,rA];cases d<;>rfl
theorem cT {t:TypeId} {i:TypeInfo} (h:P.info? t=some i):(sizeOf t).run P w= .ok i.size w:=by
 simp[sizeOf,typeInfo,h]
theorem sy {t:TypeId} {n:Nat} (h:dT P t=some (some n)):∃d i,P.underlying t=some d/\P.info? t=some i/\i.size=n/\Dx d=true:=by
 rw[Dy] at h;split at h
 ·rename_i fs hu;obtain⟨i,hi⟩:=info_of_underlying hu;simp only[oJ_] at h;rw[sL hi] at h;exact⟨_,i,hu,hi,h,Z⟩
 ·rename_i hu;obtain⟨i,hi⟩:=info_of_underlying hu;simp only[oJ_] at h;rw[sL hi] at h;exact⟨_,i,hu,hi,h,Z⟩
 ·simp at h
 simp at h
theorem xl {t:TypeId} (h:dT P t=some none):∃d i,P.underlying t=some d/\P.info? t=some i/\Dx d=false:=by
 rw[Dy] at h;split at h
 ·simp at h
 ·simp at h
 ·rename_i d h1 h2 hu;obtain⟨i,hi⟩:=info_of_underlying hu;refine⟨d,i,hu,hi,?_⟩;cases d<;>first | rfl | simp_all | simp_all
 simp at h
theorem nE (hi:Inv Y O w) {b:Pos} {l:Loc} {off:Nat} {cells:List V} {ro:Bool} (B:O.m.get b=some (.row cells e ro)) (hl:Y b=some l) {t:TypeId} {v:V}
  (h:(match dT P t with
    | some (some n)=>bif Nat.ble (off+n) (dU cells) then some (.agg<|takeN (eA cells off) n) else none
    | some none=>nth cells off
    | none=>none)=some v):
  ∃x,(loadVar t ⟨l.dz,l.sh+off,none⟩).run P w= .ok x w/\VR Y v x:=by
 cases z:dT P t with
 | none=>rw[z] at h;cases h
 | some o=>
  rw[z] at h;cases o with
  | some n=>
   obtain⟨d,i,hu,u,A,hd⟩:=sy z;simp only[bM] at h;split at h
   ·rename_i hle;rw[nE_,db] at hle;cases h;obtain⟨ys,hlen,aa,C⟩:=hi.piece B hl off n hle;refine⟨.agg ys.toArray,?_,?_⟩
    ·simp only[loadVar,sB_,fC hu,hd,rA,if_true,cT u,A];rw[<-hlen,run_loadCells_list w _ ys C];rfl
    simp only[VR,ej,eN]
    simp_all
   cases h
  | none=>
   obtain⟨d,i,hu,u,hd⟩:=xl z;rw[fY] at h;obtain⟨y,hy,E⟩:=hi.cell B hl h;refine⟨y,?_,E⟩;simp only[loadVar,sB_,fC hu,hd,rA,zi_,if_false];rw[run_load,hy]
end
variable {parts:Array (Nat×Operand)} {mk:Mk} {ob:cN}
section
variable {P:Program} {Y:Ren} {O:aB} {w:World}
def ib (l:List V) (k:Nat):List V->List V
 | []=>l
 | v::vs=>ib (l.set k v) (k+1) vs
theorem sm:∀(vs:List V) (l:List V) (k:Nat),(ib l k vs).length=l.length
 | [],_,_=>rfl
 | v::vs,l,k=>by rw[ib,sm vs];simp
theorem qK:∀(vs:List V) (x:V) (l:List V) (k:Nat),ib (x::l) (k+1) vs=x::ib l k vs
 | [],_,_,_=>rfl
 | v::vs,x,l,k=>by rw[ib,ib,List.set_cons_succ,qK vs]
theorem qw:∀(cs l:List V),cs.length<=l.length->lM cs l=ib l 0 cs
 | [],l,_=>by simp[lM,ib]
 | c::cs,[],h=>by simp at h
 | c::cs,x::l,h=>by
  show c::lM cs l=_;rw[qw cs l (by simpa using h),ib,List.set_cons_zero,qK]
theorem kL (cs:List V):∀(l:List V) (off:Nat),off+cs.length<=l.length->dJ cs l off=ib l off cs
 | [],off,h=>by
  have:cs= []:=eN_ (by simp only[List.length_nil] at h;omega);subst this;simp[dJ,ib]
 | x::l,0,h=>by
  show lM cs (x::l)=_;exact qw _ _ (by simpa using h)
 | x::l,off+1,h=>by
  show x::dJ cs l off=_;rw[kL cs l off (by simp only[zc_] at h;omega),qK]
theorem Eb {off:Nat}:∀(vs:List V) (xs:List Value) (k:Nat) (l:List V) (ys:Array Value),dA Y vs xs->dA Y l ys.toList->
  dA Y (ib l (off+k) vs) ((xs.zipIdx k).foldl (fun(cs:Array Value) (p:Value×Nat)=>cs.setIfInBounds (off+p.2) p.1) ys).toList
 | [],xs,k,l,ys,h,hl=>by rw[h.eK];exact hl
 | v::vs,xs,k,l,ys,h,hl=>by
  obtain⟨x,r,rfl,h1,d⟩:=h.cons_inv;simp only[List.zipIdx_cons,List.foldl_cons,ib];have:=Eb (off:=off) vs r (k+1) (l.set (off+k) v) (ys.setIfInBounds (off+k) x) d (by simpa using hl.set (off+k) h1);simpa [Nat.add_assoc] using this
theorem oT {place place':Nat->Option (Nat×Nat)} (hp:∀i x,place i=some x->place' i=some x) {ev:Operand->Option V} {f:Operand->Value}:
  ∀(parts:List (Nat×Operand)) (cells cs:List V) (ys:Array Value),(∀p∈parts,∀v,ev p.2=some v->VR Y v (f p.2))->dA Y cells ys.toList->jK place ev parts cells=some cs->
   ∃zs:Array Value,Instr.fill place' ys (parts.map fun p=>(p.1,f p.2))=some zs/\dA Y cs zs.toList
 | [],cells,cs,ys,_,z,h=>by
  simp only[jK,oJ_] at h;subst h;exact⟨ys,Z,z⟩
 | p::parts,cells,cs,ys,A,z,h=>by
  have h':(match place p.1,(ev p.2).bind cG with
   | some (off,size),some vs=>bif Nat.beq (dU vs) size && Nat.ble (off+size) (dU cells) then jK place ev parts (dJ vs cells off) else none
   | _,_=>none)=some cs:=h
  cases u:place p.1 with
  | none=>simp_all
  | some x=>
   obtain⟨off,size⟩:=x;cases hv:ev p.2 with
   | none=>simp_all
   | some v=>
    rw[u,hv] at h';simp only[Option.bind_some] at h';cases d:cG v with
    | none=>simp_all
    | some vs=>
     rw[d] at h';simp only[bM] at h';split at h'
     ·rename_i hb;simp only[bA_,Nat.beq_eq,nE_,db] at hb;obtain⟨ab,ac⟩:=hb;have hvr:=A p (by simp) v hv;have hcells:=iD d hvr;have hsize:=mY d hvr;have aa:ys.size=cells.length:=by have:=z.length;simpa using this
      have hfold:=Eb (off:=off) vs (f p.2).cells.toList 0 cells ys hcells z;rw[Nat.add_zero,<-kL vs cells off oM] at hfold;obtain⟨zs,h1,B⟩:=oT hp parts (dJ vs cells off) cs _ (fun q hq=>A q (by simp[hq])) hfold h';refine⟨zs,?_,B⟩;rw[List.map_cons];simp only[Instr.fill,hp _ _ u];rw[if_neg]
      ·rw[<-h1];congr 1;rw[<-Array.foldl_toList];simp
      simp_all
     cases h'
theorem tu {α β:Type} {g:α->Option β}:∀{l:List α} {ys:List β},dv g l=some ys->l.mapM g=some ys
 | [],ys,h=>by rw[ij] at h;cases h;rfl
 | x::l,ys,h=>by
  obtain⟨y,r,h1,d,rfl⟩:=gJ h;simp[List.mapM_cons,h1,tu d]
theorem qP {t:TypeId} {z:V} (h:fJ P t=some z):∃i x,P.info? t=some i/\i.zero=some x/\∀Y:Ren,VR Y z x:=by
 unfold fJ at h;cases hi:P.info? t with
 | none=>rw[hi] at h;cases h
 | some i=>
  rw[hi] at h;simp only[Option.bind_some] at h;cases hz:i.zero with
  | none=>rw[hz] at h;cases h
  | some x=>rw[hz] at h;exact⟨i,x,Z,hz,fun Y=>qt h⟩
theorem gb {t:TypeId} (h:(fJ P t).bind cG=some cs):∃i x,P.info? t=some i/\i.zero=some x/\∀Y:Ren,dA Y cs x.cells.toList:=by
 cases hz:fJ P t with
 | none=>rw[hz] at h;cases h
 | some z=>
  grind [qP,iD]
theorem DG {ev:Operand->Option V} {f:Operand->Value} {t:TypeId} {v:V}
  (C:∀p∈parts.toList,∀v,ev p.2=some v->VR Y v (f p.2)) (h:eh P ev (.build t parts)=some v):
  ∃x,(Instr.build t<|parts.map fun(i,x)=>(i,f x)).run P w= .ok x w/\VR Y v x:=by
 simp only[eh] at h;cases hu:P.underlying t with
 | none=>rw[hu] at h;cases h
 | some d=>
  rw[hu] at h;cases hz:(fJ P t).bind cG with
  | none=>simp_all
  | some zero=>
   rw[hz] at h;obtain⟨it,z,u,hzero,A⟩:=gb hz;cases d with
   | struct fs=>
    simp only at h;cases B:dv (fun f:Field=>(P.info? f.type).map fun j=>(f.offset,j.size)) fs.toList with
    | none=>simp_all
    | some places=>
     rw[B] at h;dsimp only at h;cases hf:jK (nth places) ev parts.toList zero with
     | none=>rw[hf] at h;cases h
     | some cs=>
      rw[hf] at h;cases h;obtain⟨zs,h1,E⟩:=oT (place':=(places.toArray[·]?)) (fun i x hx=>by rw[fY] at hx;simpa using hx) parts.toList zero cs z.cells C (A Y) hf
      refine⟨.agg zs,run_build w t _ zs ?_,by simp only[VR];simp_all⟩;simp only[Program.built,u,hu,hzero,tu B];simpa using h1
   | array n e=>
    simp only at h;cases hj:P.info? e with
    | none=>rw[hj] at h;cases h
    | some j=>
     rw[hj] at h;dsimp only at h;cases hf:jK (fun i=>some (i*j.size,j.size)) ev parts.toList zero with
     | none=>rw[hf] at h;cases h
     | some cs=>
      rw[hf] at h;cases h;obtain⟨zs,h1,E⟩:=oT (place':=fun i=>some (i*j.size,j.size)) (fun i x hx=>hx) parts.toList zero cs z.cells C (A Y) hf;refine⟨.agg zs,run_build w t _ zs ?_,by simp only[VR];simp_all⟩;simp only[Program.built,u,hu,hzero,hj];simpa using h1
   | _=>cases h
theorem rC {ys:List Value} (h:dA Y cs ys) (r e:Nat):gF Y ⟨r,0,cs.length⟩ (.row cs e false) (.cells ys.toArray e):=by
 refine⟨_,_,Z,by simpa using h.length,nR_ _,fun i v hv=>?_,fun _ j _ hj=>by simp at hj⟩;obtain⟨y,h1,h2⟩:=h.get hv
 simp_all
theorem jW {cs:List V} {ys:List Value} (h:dA Y cs ys):∀n,dA Y (e9 cs n) ((List.replicate n ys).flatten)
 | 0=>(dA.nil:dA Y [] [])
 | n+1=>by
  show dA Y (gS cs<|e9 cs n) _;rw[ep,List.replicate_succ,List.flatten_cons];exact h.append<|jW h n
theorem sn (cs:List V):∀n,(e9 cs n).length=n*cs.length
 | 0=>by rw[Nat.zero_mul];rfl
 | n+1=>by
  show(gS cs<|e9 cs n).length=_;rw[ep,lA_,sn cs n,Nat.succ_mul,Nat.add_comm]
theorem ke (ys:List Value):∀(n j:Nat),j<n*ys.length->((List.replicate n ys).flatten)[j]? =ys[j%ys.length]?
 | 0,j,h=>by simp at h
 | n+1,j,h=>by
  rw[List.replicate_succ,List.flatten_cons]
  by_cases hj:j<ys.length
  ·rw[gL_ hj,Nat.mod_eq_of_lt hj]
  rw[gR_ oM,ke ys n (j-ys.length) (by rw[Nat.succ_mul] at h;omega)];congr 1
  have h0:0<ys.length:=by
   rcases Nat.eq_zero_or_pos ys.length with h0 | h0
   ·rw[h0] at h;simp at h
   exact h0
  rw[Nat.mod_eq_sub_mod (by omega:j≥ys.length)]
theorem wR (z:Array Value) (n:Nat) (hz:0<z.size):((Array.range (n*z.size)).map (z[· %z.size]!))=((List.replicate n z.toList).flatten).toArray:=by
 apply Array.ext_getElem?;intro j;simp only[Array.getElem?_map,List.getElem?_toArray]
 by_cases hj:j<n*z.size
 ·grind [ke,Nat.mod_lt]
 simp_all
theorem vD {ev:Operand->Option V} {f:Operand->Value} {o:Oper} (G:ER Y ev f o.op) (h:fP P ev o.op=some (ob,mk)):
  ∃(x:Value) (ob':Obj) (n:Nat),(execOp f o).run P w= .ok (.value x) (w.alloc ob')/\ob.ro=false/\gF Y ⟨w.heap.size,0,n⟩ ob ob'/\
   ∀(Y':Ren) (b:Pos),Y' b=some ⟨w.heap.size,0,n⟩->VR Y' (mk.of b) x:=by
 cases A:o.op with
 | alloc e=>
  rw[A] at h;simp only[fP] at h;cases hz:(fJ P e).bind cG with
  | none=>rw[hz] at h;cases h
  | some cs=>
   rw[hz] at h;obtain⟨i,z,hi,hzero,u⟩:=gb hz;cases hp:uf P e with
   | false=>
    rw[hp] at h;cases h;refine⟨.pointer<|some ⟨w.heap.size,0,none⟩,.cells z.cells e,cs.length,?_,Z,rC (u Y) _ _,fun Y' b hb=>by simp only[Mk.of,VR];simp_all⟩;simp[execOp,A,Instr.alloc,zeroValue,typeInfo,hi,hzero,newVar,newRow]
   | true=>
    rw[hp] at h;cases h;refine⟨.pointer<|some ⟨w.heap.size,0,none⟩,.cells z.cells e,cs.length,?_,Z,gF.Iw ⟨Z,Z⟩<|rC (u Y) _ _,fun Y' b hb=>by simp only[Mk.of,VR];simp_all⟩;simp[execOp,A,Instr.alloc,zeroValue,typeInfo,hi,hzero,newVar,newRow]
 | box e x=>
  rw[A] at h G;simp only[fP] at h;cases hv:ev x with
  | none=>rw[hv] at h;cases h
  | some v=>
   rw[hv] at h;dsimp only[Option.bind_some] at h;cases L:cG v with
   | none=>rw[L] at h;cases h
   | some cs=>
    rw[L] at h;cases h;have hvr:=G x (by simp[Op.operands]) v hv;refine⟨.pointer<|some ⟨w.heap.size,0,none⟩,.cells (f x).cells e,cs.length,?_,Z,rC (iD L hvr) _ _,fun Y' b hb=>by simp only[Mk.of,VR];simp_all⟩;simp[execOp,A,Instr.box,newVar,newRow]
 | buildSlice t len parts=>
  rw[A] at h G;simp only[fP] at h;cases hu:P.underlying t with
  | none=>rw[hu] at h;cases h
  | some d=>
   rw[hu] at h;cases d with
   | slice e=>
    dsimp only at h;cases hj:P.info? e with
    | none=>rw[hj] at h;cases h
    | some j=>
     cases hz:(fJ P e).bind cG with
     | none=>simp_all
     | some z=>
      rw[hj,hz] at h;simp only[bM] at h;split at h
      ·rename_i hb;simp only[bA_,Nat.beq_eq,nE_,db] at hb;obtain⟨⟨I,M⟩,N⟩:=hb;cases hf:jK (fun i=>some (i*j.size,j.size)) ev parts.toList (e9 z len) with
       | none=>rw[hf] at h;cases h
       | some cs=>
        rw[hf] at h;cases h;obtain⟨i,zv,hi,hzero,u⟩:=gb hz;rw[hj] at hi;cases hi;have B:zv.cells.size=j.size:=by rw[<-I,<-(u Y).length,Array.length_toList]
        have C:∀p∈parts.toList,∀v,ev p.2=some v->VR Y v (f p.2):=fun p hp v hv=>G p.2 (by simp only[Op.operands,List.mem_toArray,zn_];grind) v hv
        obtain⟨zs,h1,Q⟩:=oT (place':=fun i=>some (i*j.size,j.size)) (fun i x hx=>hx) parts.toList (e9 z len) cs ((List.replicate len zv.cells.toList).flatten).toArray C
         (by simpa using jW (u Y) len) hf
        rw[<-wR zv.cells len oM,B] at h1;have aa:cs.length=zs.size:=by have:=Q.length;simpa using this.symm
        by_cases K:len*j.size=0
        ·refine⟨.slice (some ⟨w.heap.size,0,none⟩) len len,.cells zs e,cs.length,?_,Z,by simpa using rC Q w.heap.size e,fun Y' b hb=>by simp only[Mk.of,VR];simp_all⟩;have R:(Array.map (fun x=>zv.cells[x%j.size]!)<|Array.range (len*j.size))= #[]:=by rw[K];simp
         rw[R] at h1;have S:∀g:Nat->Value,Array.map g (Array.range 0)= #[]:=fun g=>by simp
         simp[execOp,A,Instr.buildSlice,run_underlying hu,sizeOf,typeInfo,hj,K,S,h1,newRow]
        refine⟨.slice (some ⟨w.heap.size,0,none⟩) len len,.cells zs e,cs.length,?_,Z,by simpa using rC Q w.heap.size e,fun Y' b hb=>by simp only[Mk.of,VR];simp_all⟩;have hrun:=run_buildSlice (P:=P) w t e len (parts.map fun(i,x)=>(i,f x)) zs j zv hu hj hzero oM K (by simp_all)
        grind [execOp,sB_,rA,sP_]
      cases h
   | _=>cases h
 | makeSlice t l c=>
  rw[A] at h G;simp only[fP] at h;cases hu:P.underlying t with
  | none=>rw[hu] at h;cases h
  | some d=>
   rw[hu] at h;cases hl:ev l with
   | none=>simp_all
   | some vl=>
    cases L:ev c with
    | none=>simp_all
    | some vc=>
     rw[hl,L] at h;split at h
     ·rename_i e kl ln kc cn he T W;cases he;cases T;cases W;cases hj:P.info? e with
      | none=>rw[hj] at h;cases h
      | some j=>
       cases hz:(fJ P e).bind cG with
       | none=>simp_all
       | some z=>
        rw[hj,hz] at h;simp only[bM] at h;split at h
        ·rename_i hb;simp only[bA_,Nat.beq_eq,nE_,db] at hb;obtain⟨⟨⟨⟨I,M⟩,N⟩,X⟩,ak⟩:=hb;cases h;obtain⟨i,zv,hi,hzero,u⟩:=gb hz;rw[hj] at hi;cases hi;have B:zv.cells.size=j.size:=by rw[<-X,<-(u Y).length,Array.length_toList]
         have am:f l= .int kl (Int.ofNat ln):=by have:=G l (by simp[Op.operands]) _ hl;simpa only[VR] using this
         have ao:f c= .int kc (Int.ofNat cn):=by have:=G c (by simp[Op.operands]) _ L;simpa only[VR] using this
         have ab:(j.bytes:Int)*(Int.ofNat cn)<=281474976710656:=by
          grind
         have hrun:=run_make (P:=P) w t e j zv hu hj hzero kl kc (Int.ofNat ln) (Int.ofNat cn) (Int.natCast_nonneg _) (Int.ofNat_le.2 I) ab (by grind)
         have E:madeCells zv.cells ((Int.ofNat cn).toNat*j.size)=((List.replicate cn zv.cells.toList).flatten).toArray:=by
          unfold madeCells;rw[show(Int.ofNat cn).toNat=cn from Z,<-B];exact wR zv.cells cn oM
         rw[E] at hrun;have hts:=jW (u Y) cn
         refine⟨.slice (some ⟨w.heap.size,0,none⟩) ln cn,.cells ((List.replicate cn zv.cells.toList).flatten).toArray e,(e9 z cn).length,?_,Z,rC hts _ _,
          fun Y' b hb=>by simp only[Mk.of,VR];simp_all⟩
         grind [execOp,sB_,rA,sP_]
        cases h
     cases h
 | makeMap t r=>
  rw[A] at h;cases r with
  | some r=>
   simp only[fP] at h;split at h
   ·rename_i mk mv k n hu hr;simp only[oJ_,Prod.mk.injEq] at h;obtain⟨rfl,rfl⟩:=h;have ac:f r= .int k n:=by have:=G r (by rw[A];simp[Op.operands]) _ hr;simpa only[VR] using this
    refine⟨.map<|some w.heap.size,.map #[] 0,0,?_,Z,⟨#[],Z,Z⟩,fun Y' b hb=>by simp only[Mk.of,VR];simp_all⟩;simp[execOp,A,Instr.makeMap,ac,run_underlying hu,asInt,asIntOf]
   cases h
  | none=>
   simp only[fP,oJ_,Prod.mk.injEq] at h;obtain⟨rfl,rfl⟩:=h;refine⟨.map<|some w.heap.size,.map #[] 0,0,?_,Z,⟨#[],Z,Z⟩,fun Y' b hb=>by simp only[Mk.of,VR];simp_all⟩;simp[execOp,A,Instr.makeMap]
 | _=>rw[A] at h;simp[fP] at h
end
variable {fs:Array Field} {ys:Array Value}
section
variable {P:Program} {Y:Ren} {w:World}
theorem pW (a b:Bool):(bif a then b else(bif b then false else true))=(a == b):=by grind
theorem Lg (a b:Bool):(bif a then(bif b then false else true) else b)=(a !=b):=by grind
theorem cond_not (b:Bool):(bif b then false else true)= !b:=by cases b<;>rfl
theorem lu {d:Nat}:∀(fs:List Field) (xs ys:List V) (cs ds:Array Value) (b:Bool),dA Y xs cs.toList->dA Y ys ds.toList->lL fs=true->ju P fs xs ys=some b->
  (Op.eqFields (d+1) cs ds fs).run P w= .ok b w
 | [],xs,ys,cs,ds,b,_,_,_,h=>by
  simp only[ju,oJ_] at h;subst h;simp[Op.eqFields]
 | f::fs,xs,ys,cs,ds,b,hx,hy,hn,h=>by
  have L:(bif f.name == "_" then false else lL fs)=true:=hn
  have u:(f.name == "_")=false:=by
   simp_all
  rw[u] at L;have hne:f.name≠ "_" :=by simpa using u
  have h':(match P.underlying f.type,nth xs f.offset,nth ys f.offset with
   | some .bool,some (.bool a),some (.bool b)=>bif (bif a then b else(bif b then false else true)) then ju P fs xs ys else some false
   | some (.int _),some (.int j a),some (.int k b)=>bif uE j k then(bif F a b then ju P fs xs ys else some false) else none
   | some .string,some (.str a),some (.str b)=>bif AB a b then ju P fs xs ys else some false
   | _,_,_=>none)=some b:=h
  have ih:=lu (d:=d) fs xs ys cs ds
  have part {v:V} {cells:List V} {es:Array Value} (K:dA Y cells es.toList) (Q:nth cells f.offset=some v) (C:Dx (match P.underlying f.type with | some d=>d | none=>.invalid)=false) (hu:P.underlying f.type≠none):
    ∃y,(part f.type es f.offset).run P w= .ok y w/\VR Y v y:=by
   rw[fY] at Q;obtain⟨y,h1,h2⟩:=K.get Q;cases B:P.underlying f.type with
   | none=>exact absurd B hu
   | some dd=>
    rw[B] at C;refine⟨y,?_,h2⟩;simp only[Go.part,sB_,fC B,C,rA,zi_,if_false]
    simp_all
  split at h'
  ·rename_i R S T a b' e1 e2 E;obtain⟨W,G,z⟩:=part hx e2 (by rw[e1];rfl) (by rw[e1];simp);obtain⟨X,I,A⟩:=part hy E (by rw[e1];rfl) (by rw[e1];simp);simp only[VR] at z A;subst z;subst A;simp only[Op.eqFields,hne,ne_eq,not_false_eq_true,if_true,sB_,G,I,rA,run_equalIn_bool w d f.type _ _ e1];rw[pW] at h';cases K:(a == b') with
   | true=>grind
   | false=>simp_all
  ·rename_i R S T kk j a k b' e1 e2 E;obtain⟨W,G,z⟩:=part hx e2 (by rw[e1];rfl) (by rw[e1];simp);obtain⟨X,I,A⟩:=part hy E (by rw[e1];rfl) (by rw[e1];simp);simp only[VR] at z A;subst z;subst A;cases hk:uE j k with
   | false=>simp_all
   | true=>
    rw[hk] at h';have:=pX hk;subst this;simp only[Op.eqFields,hne,ne_eq,not_false_eq_true,if_true,sB_,G,I,rA,run_equalIn_int w d f.type _ _ _ _ e1];rw[cK] at h';cases K:decide (a=b') with
    | true=>grind
    | false=>simp_all
  ·rename_i R S T a b' e1 e2 E;obtain⟨W,G,z⟩:=part hx e2 (by rw[e1];rfl) (by rw[e1];simp);obtain⟨X,I,A⟩:=part hy E (by rw[e1];rfl) (by rw[e1];simp);simp only[VR] at z A;obtain⟨s1,rfl,M⟩:=z;obtain⟨s2,rfl,N⟩:=A;simp only[Op.eqFields,hne,ne_eq,not_false_eq_true,if_true,sB_,G,I,rA,run_equalIn_string w d f.type _ _ e1];rw[oG M N] at h';cases K:(s1.toList == s2.toList) with
   | true=>grind
   | false=>simp_all
  cases h'
theorem nN {t:TypeId} (h:structOf P t=some fs):P.underlying t=some (.struct fs):=by
 grind [structOf,oH]
theorem vR {t:TypeId} (h:P.underlying t=some (.struct fs)):P.fieldsOf t=fs:=by simp[Program.fieldsOf,h]
theorem yy {e:TypeId} (h:sT P e=true):∃k i,P.underlying e=some (.int k)/\P.info? e=some i/\i.size=1:=by
 grind [sT,nB]
theorem oA {d:Nat} {e:TypeId} {k':IntKind} (he:P.underlying e=some (.int k')):∀(l1 l2:List V) (s:Nat) (u z:Array Value) (b:Bool),
  (∀(i:Nat) (v:V),l1[i]? =some v->∃y,u[s+i]? =some y/\VR Y v y)->(∀(i:Nat) (v:V),l2[i]? =some v->∃y,z[s+i]? =some y/\VR Y v y)->xL l1 l2=some b->
  (Op.eqItems (d+1) e 1 u z<|List.range' s l1.length).run P w= .ok b w
 | [],l2,s,u,z,b,_,_,h=>by
  cases l2 with
  | nil=>cases h;simp[Op.eqItems]
  | cons y r=>cases h
 | x::l1,l2,s,u,z,b,h1,A,h=>by
  cases l2 with
  | nil=>cases x<;>cases h
  | cons y r=>
   cases x<;>try (cases h;done)
   rename_i j a;cases y<;>try (cases h;done)
   rename_i k c;have h':(bif uE j k then(bif F a c then xL l1 r else some false) else none)=some b:=h;cases hk:uE j k with
   | false=>simp_all
   | true=>
   rw[hk] at h';have:=pX hk;subst this;obtain⟨y1,q1,B⟩:=h1 0 _ Z;obtain⟨y2,q2,C⟩:=A 0 _ Z;simp only[VR] at B C;subst B;subst C;simp only[Nat.add_zero] at q1 q2
   have p:∀(cs:Array Value) (v:Value),cs[s]? =some v->(part e cs (s*1)).run P w= .ok v w:=fun cs v hv=>by
    rw[Nat.mul_one];simp only[part,sB_,fC he,Dx,rA,zi_,if_false,hv,sP_]
   simp only[zc_,List.range'_succ,Op.eqItems,sB_,p u _ q1,p z _ q2,rA,run_equalIn_int w d e _ _ _ _ he];rw[cK] at h';have ih:=oA (d:=d) he l1 r (s+1) u z;cases E:decide (a=c) with
   | true=>
    rw[E] at h';have:=of_decide_eq_true E;subst this
    simpa using ih b (fun i v hv=>by have:=h1 (i+1) v (by simpa using hv);grind)
     (fun i v hv=>by have:=A (i+1) v (by simpa using hv);grind) (by simpa using h')
   | false=>
    simp_all
theorem gY {t:TypeId} {off n:Nat} (z:dT P t=some (some n)) (A:dA Y cs ys.toList):∃c,(part t ys off).run P w= .ok (.agg c) w/\dA Y (takeN (eA cs off) n) c.toList:=by
 obtain⟨d,i,hu,hi,u,hd⟩:=sy z;refine⟨ys.extract off (off+n),?_,?_⟩
 ·simp only[part,sB_,fC hu,hd,rA,if_true,cT hi,u,sP_]
 rw[ej,eN,Array.toList_extract];have:=(A.drop off).take n
 simp_all
theorem mH {d:Nat}:∀(fs:List Field) (xs ys:List V) (cs ds:Array Value) (b:Bool),dA Y xs cs.toList->dA Y ys ds.toList->lL fs=true->eqFields P fs xs ys=some b->
  (Op.eqFields (d+1+1) cs ds fs).run P w= .ok b w
 | [],xs,ys,cs,ds,b,_,_,_,h=>by
  simp only[eqFields,oJ_] at h;subst h;simp[Op.eqFields]
 | f::fs,xs,ys,cs,ds,b,hx,hy,hn,h=>by
  have aa:(bif f.name == "_" then false else lL fs)=true:=hn
  have B:(f.name == "_")=false:=by
   simp_all
  rw[B] at aa;have hne:f.name≠ "_" :=by simpa using B
  have h':(match P.underlying f.type,nth xs f.offset,nth ys f.offset with
   | some .bool,some (.bool a),some (.bool b)=>bif (bif a then b else(bif b then false else true)) then eqFields P fs xs ys else some false
   | some (.int _),some (.int j a),some (.int k b)=>bif uE j k then(bif F a b then eqFields P fs xs ys else some false) else none
   | some .string,some (.str a),some (.str b)=>bif AB a b then eqFields P fs xs ys else some false
   | some (.struct gs),_,_=>bif P.stoodInHeld f.type || !lL gs.toList then none else match dT P f.type with
    | some (some n)=>match ju P gs.toList (takeN (eA xs f.offset) n) (takeN (eA ys f.offset) n) with
     | some true=>eqFields P fs xs ys
     | some false=>some false
     | none=>none
    | _=>none
   | some (.array m e),_,_=>bif sT P e then(match dT P f.type with
    | some (some n)=>bif Nat.beq n m && (Nat.beq (dU<|takeN (eA xs f.offset) n) m && Nat.beq (dU<|takeN (eA ys f.offset) n) m) then(match xL (takeN (eA xs f.offset) n) (takeN (eA ys f.offset) n) with
     | some true=>eqFields P fs xs ys
     | some false=>some false
     | none=>none) else none
    | _=>none) else none
   | _,_,_=>none)=some b:=h
  have ih:=mH (d:=d) fs xs ys cs ds
  have part {v:V} {cells:List V} {es:Array Value} (K:dA Y cells es.toList) (hg:nth cells f.offset=some v) (u:Dx (match P.underlying f.type with | some d=>d | none=>.invalid)=false) (hu:P.underlying f.type≠none):
    ∃y,(part f.type es f.offset).run P w= .ok y w/\VR Y v y:=by
   rw[fY] at hg;obtain⟨y,h1,h2⟩:=K.get hg;cases L:P.underlying f.type with
   | none=>exact absurd L hu
   | some dd=>
    rw[L] at u;refine⟨y,?_,h2⟩;simp only[Go.part,sB_,fC L,u,rA,zi_,if_false]
    simp_all
  split at h'
  ·rename_i T W X a b' e1 e2 Q;obtain⟨y1,E,z⟩:=part hx e2 (by rw[e1];rfl) (by rw[e1];simp);obtain⟨y2,G,A⟩:=part hy Q (by rw[e1];rfl) (by rw[e1];simp);simp only[VR] at z A;subst z;subst A;simp only[Op.eqFields,hne,ne_eq,not_false_eq_true,if_true,sB_,E,G,rA,run_equalIn_bool w (d+1) f.type _ _ e1];rw[pW] at h';cases K:(a == b') with
   | true=>grind
   | false=>simp_all
  ·rename_i T W X kk j a k b' e1 e2 Q;obtain⟨y1,E,z⟩:=part hx e2 (by rw[e1];rfl) (by rw[e1];simp);obtain⟨y2,G,A⟩:=part hy Q (by rw[e1];rfl) (by rw[e1];simp);simp only[VR] at z A;subst z;subst A;cases hk:uE j k with
   | false=>simp_all
   | true=>
    rw[hk] at h';have:=pX hk;subst this;simp only[Op.eqFields,hne,ne_eq,not_false_eq_true,if_true,sB_,E,G,rA,run_equalIn_int w (d+1) f.type _ _ _ _ e1];rw[cK] at h';cases K:decide (a=b') with
    | true=>grind
    | false=>simp_all
  ·rename_i T W X a b' e1 e2 Q;obtain⟨y1,E,z⟩:=part hx e2 (by rw[e1];rfl) (by rw[e1];simp);obtain⟨y2,G,A⟩:=part hy Q (by rw[e1];rfl) (by rw[e1];simp);simp only[VR] at z A;obtain⟨s1,rfl,ab⟩:=z;obtain⟨s2,rfl,ac⟩:=A;simp only[Op.eqFields,hne,ne_eq,not_false_eq_true,if_true,sB_,E,G,rA,run_equalIn_string w (d+1) f.type _ _ e1];rw[oG ab ac] at h';cases K:(s1.toList == s2.toList) with
   | true=>grind
   | false=>simp_all
  ·rename_i T W X gs e1;cases ar:P.stoodInHeld f.type with
   | true=>simp_all
   | false=>
   cases R:lL gs.toList with
   | false=>simp_all
   | true=>
   rw[ar,R] at h';simp only[Bool.not_true,Bool.or_false,cond_false] at h';cases u:dT P f.type with
   | none=>simp_all
   | some q=>
   cases q with
   | none=>simp_all
   | some n=>
   rw[u] at h';dsimp only at h';cases C:ju P gs.toList (takeN (eA xs f.offset) n) (takeN (eA ys f.offset) n) with
   | none=>simp_all
   | some bb=>
    rw[C] at h';obtain⟨M,E,z⟩:=gY (P:=P) (w:=w) u hx (off:=f.offset);obtain⟨N,G,A⟩:=gY (P:=P) (w:=w) u hy (off:=f.offset);have hq:=lu (P:=P) (w:=w) (d:=d) gs.toList _ _ M N bb z A R C
    have hE:(Op.equalIn (d+1+1) f.type (.agg M) (.agg N)).run P w= .ok bb w:=by
     grind [run_equalIn_struct,vR]
    simp only[Op.eqFields,hne,ne_eq,not_false_eq_true,if_true,sB_,E,G,rA,hE];cases bb with
    | true=>simp_all
    | false=>simp_all
  ·rename_i T W X m e e1;cases S:sT P e with
   | false=>simp_all
   | true=>
   rw[S] at h';simp only[cond_true] at h';obtain⟨k,inf,he,I,ak⟩:=yy S;cases u:dT P f.type with
   | none=>simp_all
   | some q=>
   cases q with
   | none=>simp_all
   | some n=>
   rw[u] at h';dsimp only at h';rw[bM] at h';split at h'
   case isFalse=>cases h'
   rename_i K;simp only[bA_,Nat.beq_eq,db] at K;obtain⟨ao,am,ap⟩:=K;cases C:xL (takeN (eA xs f.offset) n) (takeN (eA ys f.offset) n) with
   | none=>simp_all
   | some bb=>
    rw[C] at h';obtain⟨M,E,z⟩:=gY (P:=P) (w:=w) u hx (off:=f.offset);obtain⟨N,G,A⟩:=gY (P:=P) (w:=w) u hy (off:=f.offset)
    have hq:=oA (P:=P) (w:=w) (Y:=Y) (d:=d) he _ _ 0 M N bb (fun i v hv=>by obtain⟨y,a1,a2⟩:=z.get hv;simp_all)
     (fun i v hv=>by obtain⟨y,a1,a2⟩:=A.get hv;simp_all) C
    rw[am] at hq
    have hE:(Op.equalIn (d+1+1) f.type (.agg M) (.agg N)).run P w= .ok bb w:=by
     rw[run_equalIn_array w (d+1) M N e1 I,sL I,ak,List.range_eq_range'];exact hq
    simp only[Op.eqFields,hne,ne_eq,not_false_eq_true,if_true,sB_,E,G,rA,hE];cases bb with
    | true=>simp_all
    | false=>simp_all
  cases h'
theorem dp (op:BinOp) (t:TypeId) (x y:Operand) (a b:Value) (h1:¬(a= .nilIface/\b= .nilIface)) (h2:¬(∃c d,a= .agg c/\b= .agg d)):(eqGuard op t x y a b).run P w= .ok () w:=by
 unfold eqGuard
 simp_all
end
section
variable {P:Program} {Y:Ren} {w:World}
theorem VR.jA {b:Pos} {off len:Nat} {cap:rK} {x:Value} (h:VR Y (.slice b off len cap) x):∃a c,x= .slice (some a) len c:=by
  cases cap with
  | upto sz=>
    simp only[VR] at h
    grind
  | known c=>simp only[VR] at h;grind
  | least a sz=>simp only[VR] at h;grind
theorem pY {t:TypeId} {x y:V} {b:Bool} {a c:Value} (h:Gb P t x y=some b) (hx:VR Y x a) (hy:VR Y y c) (op:BinOp) (xo yo:Operand):
    (eqGuard op t xo yo a c).run P w= .ok () w/\(Op.equal t a c).run P w= .ok b w:=by
  unfold Gb at h;have aa:∀r:Result Bool,((Op.equalIn (9999+1) t a c).run P w=r)->(Op.equal t a c).run P w=r:=fun r h=>h
  have u:∀r:Result Bool,(∀d,(Op.equalIn (d+1) t a c).run P w=r)->(Op.equal t a c).run P w=r:=fun r h=>h 9999
  split at h
  ·
    rename_i xs ys;simp only[VR] at hx hy;obtain⟨cs,rfl,ab⟩:=hx;obtain⟨ds,rfl,ac⟩:=hy
    grind [structOf,nN,run_eqGuard_agg,run_equalIn_struct,vR,mH]
  all_goals (try (cases h;done))
  all_goals (split at h)
  all_goals (try (cases h;done))
  all_goals (try (rename_i hu;cases h))
  all_goals first
    | (obtain⟨a',c',rfl⟩:=VR.jA hx
       simp only[VR] at hy;subst hy;refine⟨dp op t xo yo _ _ (by simp) (by simp),u _ (fun d=>?_)⟩;simp[Op.equalIn,run_underlying hu]
       done)
    | (obtain⟨a',c',rfl⟩:=VR.jA hy
       simp only[VR] at hx;subst hx;refine⟨dp op t xo yo _ _ (by simp) (by simp),u _ (fun d=>?_)⟩;simp[Op.equalIn,run_underlying hu]
       done)
    | (simp only[VR] at hx hy
       subst hx;subst hy;refine⟨dp op t xo yo _ _ (by simp) (by simp),u _ (fun d=>?_)⟩;simp[Op.equalIn,run_underlying hu]
       done)
    | (simp only[VR] at hx hy
       obtain⟨l,_,rfl⟩:=hx;subst hy;refine⟨dp op t xo yo _ _ (by simp) (by simp),u _ (fun d=>?_)⟩;simp[Op.equalIn,run_underlying hu]
       done)
    | (simp only[VR] at hx hy
       obtain⟨l,_,rfl⟩:=hy;subst hx;refine⟨dp op t xo yo _ _ (by simp) (by simp),u _ (fun d=>?_)⟩;simp[Op.equalIn,run_underlying hu]
       done)
    | (simp only[VR] at hx hy
       obtain⟨l,rfl,_⟩:=hx;subst hy;refine⟨dp op t xo yo _ _ (by simp) (by simp),u _ (fun d=>?_)⟩;simp[Op.equalIn,run_underlying hu]
       done)
    | (simp only[VR] at hx hy
       obtain⟨l,rfl,_⟩:=hy;subst hx;refine⟨dp op t xo yo _ _ (by simp) (by simp),u _ (fun d=>?_)⟩;simp[Op.equalIn,run_underlying hu]
       done)
    | (simp only[VR] at hx hy
       obtain⟨l,l',rfl,_⟩:=hx;subst hy;refine⟨dp op t xo yo _ _ (by simp) (by simp),u _ (fun d=>?_)⟩;simp[Op.equalIn,run_underlying hu]
       done)
    | (simp only[VR] at hx hy
       obtain⟨l,l',rfl,_⟩:=hy;subst hx;refine⟨dp op t xo yo _ _ (by simp) (by simp),u _ (fun d=>?_)⟩;simp[Op.equalIn,run_underlying hu]
       done)
    | (rename_i hu
       rw[bM] at h;split at h
       · rename_i A
         cases h;rw[bA_,bA_] at A;obtain⟨hb,ho,hi⟩:=A;have hb:=nB hb;have ho:=nB ho;subst hb;subst ho;obtain⟨j,hj⟩:=ze_.1 hi;simp only[VR] at hx hy;obtain⟨l,hl,rfl⟩:=hx;obtain⟨l',z,rfl⟩:=hy;rw[hl] at z;cases z;refine⟨dp op t xo yo _ _ (by simp) (by simp),u _ (fun d=>?_)⟩;simp[Op.equalIn,run_underlying hu,sizeOf,typeInfo,hj,run_sameAddr_same]
       · cases h)
theorem nL {t:TypeId} {a c:Value} {b:Bool} (h:(Op.equal t a c).run P w= .ok b w)
    (hn:∀k m k' m',¬(a= .int k m/\c= .int k' m')) (hf:∀k m k' m',¬(a= .float k m/\c= .float k' m')) (d:∀k m n k' m' n',¬(a= .complex k m n/\c= .complex k' m' n')) (u:∀s s',¬(a= .string s/\c= .string s')):
    (binOp .eql t a c).run P w= .ok (.bool b) w/\(binOp .neq t a c).run P w= .ok (.bool (!b)) w:=by
  constructor
  · unfold binOp
    split<;>first
      | (exact absurd ⟨rfl,rfl⟩<|hn _ _ _ _)
      | (exact absurd ⟨rfl,rfl⟩<|hf _ _ _ _)
      | (exact absurd ⟨rfl,rfl⟩<|d _ _ _ _ _ _)
      | (exact absurd ⟨rfl,rfl⟩<|u _ _)
      | (simp only[sB_,h,rA,sP_];done)
      | (rename_i he;cases he)
      | (rename_i he _;cases he)
      | (rename_i he _ _;cases he)
      | (simp_all;done)
  · unfold binOp
    split<;>first
      | (exact absurd ⟨rfl,rfl⟩<|hn _ _ _ _)
      | (exact absurd ⟨rfl,rfl⟩<|hf _ _ _ _)
      | (exact absurd ⟨rfl,rfl⟩<|d _ _ _ _ _ _)
      | (exact absurd ⟨rfl,rfl⟩<|u _ _)
      | (simp only[sB_,h,rA,sP_];done)
      | (rename_i he;cases he)
      | (rename_i he _;cases he)
      | (rename_i he _ _;cases he)
      | (simp_all;done)
end
variable {op:BinOp}
section
variable {P:Program} {Y:Ren} {w:World}
theorem OD {t:TypeId} {k k':IntKind} {a b:Int} {v:V} (h:tz P op t (.int k a) (.int k' b)=some v):
  ∃x,(binOp op t (.int k a) (.int k' b)).run P w= .ok x w/\VR Y v x:=by
 unfold tz at h;have vint:∀(j:IntKind) (n:Int),VR Y (.int j n) (.int j n):=fun j n=>by simp only[VR]
 have vbool:∀(c:Bool),VR Y (.bool c) (.bool c):=fun c=>by simp only[VR]
 by_cases u:op= .shl
 ·subst u;simp only[bM,dq,IV] at h;split at h
  ·cases h
  rename_i hb;cases h;refine⟨.int k<|k.wrap (a*2 ^ min b.toNat k.bits),?_,vint _ _⟩;have d:¬b<0:=by simpa using hb
  simp[binOp,Op.shift,d]
 by_cases z:op= .shr
 ·subst z;simp only[bM,dq] at h;split at h
  ·cases h
  rename_i hb;cases h;refine⟨.int k<|a.fdiv (2 ^ min b.toNat k.bits),?_,vint _ _⟩;have d:¬b<0:=by simpa using hb
  simp[binOp,Op.shift,d]
 cases hk:uE k k' with
 | false=>simp_all
 | true=>
  have:=pX hk;subst this;cases op<;>first | exact absurd rfl u | exact absurd rfl z | skip
  all_goals simp only[hk,cond_true,bM,cK,dq,IV,if_true] at h
  case add=>cases h;exact⟨.int k<|k.wrap (a+b),by simp[binOp,Op.intArith],vint _ _⟩
  case sub=>cases h;exact⟨.int k<|k.wrap (a-b),by simp[binOp,Op.intArith],vint _ _⟩
  case mul=>cases h;exact⟨.int k<|k.wrap (a*b),by simp[binOp,Op.intArith],vint _ _⟩
  case quo=>
   by_cases hb:b=0
   ·simp[hb] at h
   simp only[hb,decide_false,if_true,if_false,zi_,eq_self,oJ_] at h;subst h;exact⟨.int k<|k.wrap<|a.tdiv b,by simp[binOp,Op.intDiv,hb],vint _ _⟩
  case rem=>
   by_cases hb:b=0
   ·simp[hb] at h
   simp only[hb,decide_false,if_true,if_false,zi_,eq_self,oJ_] at h;subst h;exact⟨.int k<|a.tmod b,by simp[binOp,Op.intDiv,hb],vint _ _⟩
  case and=>cases h;exact⟨_,by simp only[binOp,ne_eq,not_true_eq_false,if_false];rfl,vint _ _⟩
  case or=>cases h;exact⟨_,by simp only[binOp,ne_eq,not_true_eq_false,if_false];rfl,vint _ _⟩
  case xor=>cases h;exact⟨_,by simp only[binOp,ne_eq,not_true_eq_false,if_false];rfl,vint _ _⟩
  case andNot=>cases h;exact⟨_,by simp only[binOp,ne_eq,not_true_eq_false,if_false];rfl,vint _ _⟩
  case eql=>cases h;exact⟨.bool (a == b),by simp[binOp,Op.intCmp],by grind⟩
  case neq=>
   cases h;refine⟨.bool (a !=b),by simp[binOp,Op.intCmp],?_⟩
   grind
  case lss=>cases h;exact⟨.bool<|decide (a<b),by simp[binOp,Op.intCmp],vbool _⟩
  case leq=>
   cases h;refine⟨.bool<|decide (a<=b),by simp[binOp,Op.intCmp],?_⟩
   grind
  case gtr=>cases h;exact⟨.bool<|decide (b<a),by simp[binOp,Op.intCmp],vbool _⟩
  case geq=>
   cases h;refine⟨.bool<|decide (b<=a),by simp[binOp,Op.intCmp],?_⟩
   grind
theorem OE {t:TypeId} {a b:List Nat} {x y:ByteArray} {v:V} (hx:gR a x) (hy:gR b y) (h:tz P op t (.str a) (.str b)=some v):
  ∃z,(binOp op t (.string x) (.string y)).run P w= .ok z w/\VR Y v z:=by
 unfold tz at h;have lx:=jC hx;have ly:=jC hy;have e1:=oG hx hy;have e2:=Bi hx hy;have e3:=Bi hy hx
 have e4:∀s u:List UInt8,Op.bytesLess u s= !(Op.bytesLess s u || s == u):=by
  intro s;induction s with
  | nil=>intro u;cases u<;>simp[Op.bytesLess]
  | cons c s ih=>
   intro u;cases u with
   | nil=>simp[Op.bytesLess]
   | cons d u=>
    grind [Op.bytesLess]
 cases op<;>simp only[bM] at h<;>(try (cases h;done))
 case add=>
  split at h
  ·rename_i hb;cases h;rw[nE_,lx,ly] at hb
   refine⟨.string (x++y),?_,by
    simp only[VR];refine⟨_,Z,?_⟩;unfold gR at hx hy⊢;rw[ep,<-hx,<-hy];simp⟩
   have:¬(((x.size+y.size:Nat):Int)>IntKind.i64.max):=by
    have e:IntKind.i64.max=9223372036854775807:=by decide
    rw[e];omega
   simp only[binOp,Op.stringOp];rw[if_neg this];rfl
  cases h
 case eql=>cases h;exact⟨.bool (x.toList == y.toList),Z,by simp only[VR];rw[e1]⟩
 case neq=>cases h;exact⟨.bool (!(x.toList == y.toList)),Z,by grind [VR]⟩
 case lss=>cases h;exact⟨.bool<|Op.bytesLess x.toList y.toList,Z,by simp only[VR];rw[e2]⟩
 case leq=>
  cases h;refine⟨.bool (Op.bytesLess x.toList y.toList || x.toList == y.toList),Z,?_⟩
  grind [VR]
 case gtr=>
  cases h;refine⟨.bool (!(Op.bytesLess x.toList y.toList || x.toList == y.toList)),Z,?_⟩;simp only[VR];grind
 case geq=>
  cases h;refine⟨.bool (!(Op.bytesLess x.toList y.toList)),Z,?_⟩
  grind [VR]
theorem I8 {t:TypeId} {x y v:V} {a c:Value} (hx:VR Y x a) (hy:VR Y y c) (h:tz P op t x y=some v) (xo yo:Operand):
  ∃z,(eqGuard op t xo yo a c).run P w= .ok () w/\(binOp op t a c).run P w= .ok z w/\VR Y v z:=by
 have other:(∀k n,x≠ .int k n)->(∀s,x≠ .str s)->(∀b,x≠ .bool b)->x≠ .any->(∀a,x≠ .oJ a)->(∀a,x≠ .tok a)->
   ∃z,(eqGuard op t xo yo a c).run P w= .ok () w/\(binOp op t a c).run P w= .ok z w/\VR Y v z:=by
  intro h1 d A I h5 K
  have h':nc P op t x y=some v:=by
   rw[<-h];unfold tz;split
   ·exact absurd Z<|h1 _ _
   ·exact absurd Z<|d _
   ·exact absurd Z<|A _
   rfl
  have hne:(∀k m k' m',¬(a= .int k m/\c= .int k' m'))/\(∀k m k' m',¬(a= .float k m/\c= .float k' m'))/\(∀k m n k' m' n',¬(a= .complex k m n/\c= .complex k' m' n'))/\(∀s s',¬(a= .string s/\c= .string s')):=by
   cases x with
   | int k n=>exact absurd Z (h1 k n)
   | str s=>exact absurd Z (d s)
   | bool b=>exact absurd Z (A b)
   | any=>exact absurd Z I
   | oJ a=>exact absurd Z (h5 a)
   | tok a=>exact absurd Z (K a)
   | slice b off len cap=>obtain⟨_,_,rfl⟩:=VR.jA hx;simp
   | _=>simp only[VR] at hx;first | (subst hx;simp;done) | (obtain⟨_,_,rfl⟩:=hx;simp;done) | (obtain⟨_,rfl,_⟩:=hx;simp;done) | (obtain⟨_,_,rfl,_⟩:=hx;simp;done)
  obtain⟨B,C,E,G⟩:=hne;cases op<;>(try (cases h';done))
  case eql=>
   dsimp only[nc] at h';cases hq:Gb P t x y with
   | none=>rw[hq] at h';cases h'
   | some b=>
    rw[hq] at h';cases h';obtain⟨g1,u⟩:=pY (P:=P) (w:=w) hq hx hy .eql xo yo;exact⟨_,g1,(nL u B C E G).1,by simp only[VR]⟩
  case neq=>
   dsimp only[nc] at h';cases hq:Gb P t x y with
   | none=>rw[hq] at h';cases h'
   | some b=>
    rw[hq] at h';cases h';obtain⟨g1,u⟩:=pY (P:=P) (w:=w) hq hx hy .neq xo yo;exact⟨_,g1,(nL u B C E G).2,by simp only[VR];rw[cond_not]⟩
 cases x with
 | int k n=>
  cases y with
  | int k' n'=>
   simp only[VR] at hx hy;subst hx;subst hy;obtain⟨z,h1,d⟩:=OD (Y:=Y) (w:=w) h;exact⟨z,dp op t xo yo _ _ (by simp) (by simp),h1,d⟩
  | _=>unfold tz at h;cases op<;>first | (simp[nc,Gb] at h;done) | (cases h;done)
 | str s=>
  cases y with
  | str s'=>
   simp only[VR] at hx hy;obtain⟨x,rfl,hx⟩:=hx;obtain⟨y,rfl,hy⟩:=hy;obtain⟨z,h1,d⟩:=OE (Y:=Y) (w:=w) hx hy h;exact⟨z,dp op t xo yo _ _ (by simp) (by simp),h1,d⟩
  | _=>unfold tz at h;cases op<;>first | (simp[nc,Gb] at h;done) | (cases h;done)
 | bool b=>
  cases y with
  | bool b'=>
   simp only[VR] at hx hy;subst hx;subst hy;unfold tz at h;refine(fun(hh:∃z,(binOp op t (.bool b) (.bool b')).run P w= .ok z w/\VR Y v z)=>let ⟨z,h1,d⟩:=hh;⟨z,dp op t xo yo _ _ (by simp) (by simp),h1,d⟩) ?_;dsimp only at h;split at h
   ·rename_i hu;cases h;exact⟨_,run_eql_bool w t b b' hu,by simp only[VR];rw[pW]⟩
   ·rename_i hu;cases h;refine⟨_,run_neq_bool w t b b' hu,?_⟩;simp only[VR];rw[Lg];cases b<;>cases b'<;>rfl
   cases h
  | _=>unfold tz at h;cases op<;>first | (simp[nc,Gb] at h;done) | (cases h;done)
 | any=>unfold tz at h;cases op<;>first | (simp[nc,Gb] at h;done) | (cases h;done)
 | oJ a=>unfold tz at h;cases op<;>first | (simp[nc,Gb] at h;done) | (cases h;done)
 | tok a=>unfold tz at h;cases op<;>first | (simp[nc,Gb] at h;done) | (cases h;done)
 | _=>exact other (by simp) (by simp) (by simp) (by simp) (by simp) (by simp)
theorem FR {t:TypeId} {x y v:V} {a c:Value} (hx:VR Y x a) (hy:VR Y y c) (h:KT P op t x y=some v) (xo yo:Operand):
  ∃z,(eqGuard op t xo yo a c).run P w= .ok () w/\(binOp op t a c).run P w= .ok z w/\VR Y v z:=by
 unfold KT at h;split at h
 ·split at h
  ·rename_i u1 u2 n;simp only[bM] at h;split at h
   ·rename_i m hle;cases h;rw[nE_] at hle;simp only[VR] at hx hy;obtain⟨k,rfl,hk⟩:=hy;subst hx;have hlt:¬((k:Int)<Int.ofNat n):=by grind
    exact⟨.bool<|decide ((k:Int)<Int.ofNat n),dp .gtr t xo yo _ _ (by simp) (by simp),by simp[binOp,Op.intCmp],by simp only[VR,hlt,decide_false]⟩
   cases h
  cases h
 exact I8 hx hy h xo yo
theorem FT {t:TypeId} {x y v:V} {a c:Value} (hx:VR Y x a) (hy:VR Y y c) (xo yo:Operand) (h:pH P (AP xo || AP yo) op t x y=some v):
  ∃z,(eqGuard op t xo yo a c).run P w= .ok () w/\(binOp op t a c).run P w= .ok z w/\VR Y v z:=by
 by_cases hn:x= .nilIface/\y= .nilIface
 ·obtain⟨rfl,rfl⟩:=hn;simp only[VR] at hx hy;subst hx;subst hy;have h:Ms P op t (AP xo || AP yo)=some v:=h;unfold Ms at h;rw[bM] at h;split at h
  ·rename_i hk
   have hg:(eqGuard op t xo yo .nilIface .nilIface).run P w= .ok () w:=by
    unfold eqGuard;cases xo<;>cases yo<;>first | exact absurd hk Bool.false_ne_true | (cases op<;>simp)
   split at h
   ·rename_i ms hu
    have heq:(Op.equal t .nilIface .nilIface).run P w= .ok true w:=by
     have:∀d,(Op.equalIn (d+1) t .nilIface .nilIface).run P w= .ok true w:=fun d=>by simp[Op.equalIn,run_underlying hu]
     exact this 9999
    have hb:=nL heq (fun k m k' m' h=>by cases h.1) (fun k m k' m' h=>by cases h.1) (fun k m n k' m' n' h=>by cases h.1) (fun s s' h=>by cases h.1)
    grind [VR]
   cases h
  cases h
 have h':KT P op t x y=some v:=by
  cases x<;>first | exact h | (cases y<;>first | exact h | simp_all)
 exact FR hx hy h' xo yo
end
variable {cap:Nat} {x:Operand}
section
variable {P:Program} {Y:Ren} {w:World}
theorem jr {ev:Operand->Option V} {f:Operand->Value} {y i:Nat} (h:fG ev x y=some i) (hx:∀v,ev x=some v->VR Y v (f x)) (code:BoundsCode):
  (Instr.sliceBound (f x) y code).run P w= .ok i w/\i<=y:=by
 unfold fG at h;split at h
 ·rename_i k j hv;simp only[bM] at h;split at h
  ·rename_i hb;cases h;rw[nE_] at hb;have hf:=hx _ hv;simp only[VR] at hf;rw[hf];refine⟨?_,hb⟩;have h2:(0:Int)<=Int.ofNat i/\Int.ofNat i<=(y:Int):=⟨Int.natCast_nonneg _,Int.ofNat_le.2 hb⟩;simp only[Instr.sliceBound,asIntOf,sB_,sP_,rA]
   simp_all
  cases h
 cases h
theorem iC {ev:Operand->Option V} {f:Operand->Value} {len l h:Nat} {lo hi:Option Operand} (hb:dX ev len cap lo hi=some (l,h))
  (d:∀x,lo=some x->∀v,ev x=some v->VR Y v (f x)) (z:∀x,hi=some x->∀v,ev x=some v->VR Y v (f x)) (isSlice:Bool):
  (Instr.sliceBounds isSlice len cap (lo.map f) (hi.map f) none).run P w= .ok (l,h,cap) w/\l<=h/\(len<=cap->h<=cap):=by
 unfold dX at hb;cases hi with
 | none=>
  dsimp only at hb;cases lo with
  | none=>
   dsimp only at hb;cases hb;refine⟨?_,Nat.zero_le _,id⟩;simp[Instr.sliceBounds]
  | some x=>
   dsimp only at hb;cases hx:fG ev x len with
   | none=>simp_all
   | some l'=>
    rw[hx] at hb;cases hb;obtain⟨r,hle⟩:=jr (P:=P) (w:=w) hx (d x Z) .sliceB;refine⟨?_,hle,id⟩;simp[Instr.sliceBounds,r]
 | some y=>
  dsimp only at hb;cases hy:fG ev y cap with
  | none=>simp_all
  | some h'=>
   rw[hy] at hb;dsimp only at hb;obtain⟨r,hle⟩:=jr (P:=P) (w:=w) hy (z y Z) (if isSlice then .sliceAcap else .sliceAlen);cases lo with
   | none=>
    dsimp only at hb;cases hb;refine⟨?_,Nat.zero_le _,fun _=>hle⟩;simp[Instr.sliceBounds,r]
   | some x=>
    dsimp only at hb;cases hx:fG ev x h' with
    | none=>simp_all
    | some l'=>
     rw[hx] at hb;cases hb;obtain⟨A,u⟩:=jr (P:=P) (w:=w) hx (d x Z) .sliceB;refine⟨?_,u,fun _=>hle⟩;simp[Instr.sliceBounds,r,A]
theorem nz {ev:Operand->Option V} {f:Operand->Value} {len l h m:Nat} {lo:Option Operand} {hi mx:Operand} (hm:fG ev mx cap=some m) (hb:dX ev m m lo (some hi)=some (l,h))
  (z:∀x,lo=some x->∀v,ev x=some v->VR Y v (f x)) (A:∀v,ev hi=some v->VR Y v (f hi)) (B:∀v,ev mx=some v->VR Y v (f mx)) (isSlice:Bool):
  (Instr.sliceBounds isSlice len cap (lo.map f) (some<|f hi)<|some<|f mx).run P w= .ok (l,h,m) w/\l<=h/\h<=m/\m<=cap:=by
 obtain⟨r0,d⟩:=jr (P:=P) (w:=w) hm B (if isSlice then .slice3Acap else .slice3Alen);unfold dX at hb;dsimp only at hb;cases hy:fG ev hi m with
 | none=>simp_all
 | some h'=>
  rw[hy] at hb;dsimp only at hb;obtain⟨r,hle⟩:=jr (P:=P) (w:=w) hy A .slice3B;cases lo with
  | none=>
   dsimp only at hb;cases hb;refine⟨?_,Nat.zero_le _,hle,d⟩;simp[Instr.sliceBounds,r,r0]
  | some x=>
   dsimp only at hb;cases hx:fG ev x h' with
   | none=>simp_all
   | some l'=>
    rw[hx] at hb;cases hb;obtain⟨C,u⟩:=jr (P:=P) (w:=w) hx (z x Z) .slice3C;refine⟨?_,u,hle,d⟩;simp[Instr.sliceBounds,r,C,r0]
theorem Ay {e:TypeId} {b:Pos} {off lo hi m:Nat} {v:V} {l:Loc} (hl:Y b=some l) (h:cut P e b off lo hi m=some v):
  ∃j,P.info? e=some j/\VR Y v (.slice (some (if m=lo then(⟨l.dz,l.sh+off,none⟩:Addr) else(⟨l.dz,l.sh+off,none⟩:Addr).add (lo*j.size))) (hi-lo) (m-lo)):=by
 unfold cut at h;cases hj:P.info? e with
 | none=>rw[hj] at h;cases h
 | some j=>
  rw[hj] at h;cases h;refine⟨j,Z,?_⟩;simp only[VR];refine⟨l,hl,?_⟩;rw[Addr.add_eq _ _ Z]
  by_cases hm:m=lo
  ·simp_all
  have:Nat.beq m lo=false:=by
   grind [Nat.beq_eq]
  grind
section
variable {ev:Operand->Option V} {f:Operand->Value} {t:TypeId} {lo hi mx:Option Operand} {v:V}
theorem nb {e:TypeId} {b:Pos} {off len:Nat} {l:Loc} (hl:Y b=some l) (h:cutAt P ev e b off len cap lo hi mx=some v) (isSlice:Bool)
  (d:∀x,lo=some x->∀v,ev x=some v->VR Y v (f x)) (u:∀x,hi=some x->∀v,ev x=some v->VR Y v (f x)) (z:∀x,mx=some x->∀v,ev x=some v->VR Y v (f x)):
  ∃j l' h' m,(Instr.sliceBounds isSlice len cap (lo.map f) (hi.map f)<|mx.map f).run P w= .ok (l',h',m) w/\P.info? e=some j/\
   VR Y v (.slice (some (if m=l' then(⟨l.dz,l.sh+off,none⟩:Addr) else(⟨l.dz,l.sh+off,none⟩:Addr).add (l'*j.size))) (h'-l') (m-l')):=by
 unfold cutAt at h;cases mx with
 | none=>
  dsimp only at h;cases hb:dX ev len cap lo hi with
  | none=>rw[hb] at h;cases h
  | some p=>
   obtain⟨l',h'⟩:=p;rw[hb] at h;obtain⟨r,_,_⟩:=iC (P:=P) (w:=w) hb d u isSlice;obtain⟨j,hj,hv⟩:=Ay hl h
   grind
 | some x=>
  dsimp only at h;cases hm:fG ev x cap with
  | none=>simp_all
  | some m=>
   cases hi with
   | none=>rw[hm] at h;cases h
   | some y=>
    rw[hm] at h;dsimp only at h;cases hb:dX ev m m lo (some y) with
    | none=>rw[hb] at h;cases h
    | some p=>
     obtain⟨l',h'⟩:=p;rw[hb] at h;obtain⟨r,_⟩:=nz (P:=P) (w:=w) (len:=len) hm hb d (u y Z) (z x Z) isSlice;obtain⟨j,hj,hv⟩:=Ay hl h
     grind
theorem jU {e:TypeId} {j:TypeInfo} {a:Addr} {len l h m:Nat} (hu:P.underlying t=some (.slice e)) (hj:P.info? e=some j) {lo hi mx:Option Value}
  (hb:(Instr.sliceBounds true len cap lo hi mx).run P w= .ok (l,h,m) w):
  (Instr.sliceAt t (.slice (some a) len cap) lo hi mx).run P w= .ok (.slice (some (if m=l then a else a.add (l*j.size))) (h-l) (m-l)) w:=by
 simp only[Instr.sliceAt,Instr.slice,sB_,run_underlying hu,rA,hb,cT hj,sP_];split<;>rfl
theorem BJ {len a c l' h':Nat} (aa:a<=c) (hb:dX ev len a lo hi=some (l',h')):dX ev len c lo hi=some (l',h'):=by
 have up:∀y i,fG ev y a=some i->fG ev y c=some i:=by
  intro y i hy;unfold fG at hy⊢;split at hy
  ·rename_i k i' ab;simp only[bM] at hy⊢;split at hy
   ·rename_i hle;cases hy;rw[nE_] at hle;rw[if_pos (by rw[nE_];omega)]
   cases hy
  cases hy
 unfold dX at hb⊢
 grind
theorem E5 (h:jo P ev t x lo hi mx=some v)
  (hx:∀v,ev x=some v->VR Y v (f x)) (A:∀x,lo=some x->∀v,ev x=some v->VR Y v (f x)) (B:∀x,hi=some x->∀v,ev x=some v->VR Y v (f x)) (C:∀x,mx=some x->∀v,ev x=some v->VR Y v (f x)):
  ∃z,(Instr.sliceAt t (f x) (lo.map f) (hi.map f)<|mx.map f).run P w= .ok z w/\VR Y v z:=by
 unfold jo at h;split at h
 ·rename_i e b off len cap hu d;have hv:=hx _ d;simp only[VR] at hv;obtain⟨l,hl,hf⟩:=hv;obtain⟨j,l',h',m,r,hj,I⟩:=nb (w:=w) hl h true A B C;rw[hf];exact⟨_,jU hu hj r,I⟩
 ·rename_i e b off len sz hu d;have hv:=hx _ d;cases mx with
  | none=>
   dsimp only at h;cases hb:dX ev len len lo hi with
   | none=>rw[hb] at h;cases h
   | some p=>
    obtain⟨l',h'⟩:=p;cases hj:P.info? e with
    | none=>simp_all
    | some j=>
     rw[hb,hj] at h;simp only[bM] at h;split at h
     ·rename_i G;rw[Nat.beq_eq] at G;cases h;obtain⟨r,hle,hle2⟩:=iC (P:=P) (w:=w) hb A B true;have hle2:=hle2 (nR_ _)
      have wider:∀c,len<=c->(Instr.sliceBounds true len c (lo.map f) (hi.map f) none).run P w= .ok (l',h',c) w:=by
       intro c K
       have M:dX ev len c lo hi=some (l',h'):=by
        have up:∀y i,fG ev y len=some i->fG ev y c=some i:=by
         intro y i hy;unfold fG at hy⊢;split at hy
         ·rename_i k i' aa;simp only[bM] at hy⊢;split at hy
          ·rename_i hle;cases hy;rw[nE_] at hle;rw[if_pos (by rw[nE_];omega)]
          cases hy
         cases hy
        unfold dX at hb⊢
        grind
       exact(iC (P:=P) (w:=w) M A B true).1
      simp only[VR] at hv;obtain⟨l,hl,⟨c,hf,K,u⟩ | ⟨E,a,hf⟩⟩:=hv
      ·rw[hf];refine⟨_,jU hu hj<|wider c K,?_⟩;simp only[VR];refine⟨l,hl,?_⟩
       by_cases N:c=l'
       ·grind
       left;refine⟨c-l',?_,by omega,?_⟩
       ·rw[if_neg N,Addr.add_eq _ _ Z,G,Nat.add_assoc]
       rw[<-u];have:c=l'+(c-l'):=by omega
       grind
      rw[hf];subst E;refine⟨_,jU hu hj<|wider 0<|nR_ _,?_⟩
      simp_all
     cases h
  | some m=>
   simp only[bM] at h;split at h
   ·cases h
   rename_i hne;simp only[VR] at hv;obtain⟨l,hl,⟨c,hf,K,u⟩ | ⟨E,a,hf⟩⟩:=hv
   ·
    obtain⟨j,l',h',m',r,hj,I⟩:=nb (w:=w) hl h true A B C
    have r':(Instr.sliceBounds true len c (lo.map f) (hi.map f)<|some<|f m).run P w= .ok (l',h',m') w:=by
     unfold cutAt at h;dsimp only at h;cases hm:fG ev m len with
     | none=>simp_all
     | some m0=>
      cases hi with
      | none=>rw[hm] at h;cases h
      | some y=>
       rw[hm] at h;dsimp only at h;cases hb:dX ev m0 m0 lo (some y) with
       | none=>rw[hb] at h;cases h
       | some p=>
        obtain⟨l0,h0⟩:=p
        have Q:fG ev m c=some m0:=by
         unfold fG at hm⊢;split at hm
         ·simp only[bM] at hm⊢;split at hm
          ·rename_i hle;cases hm;rw[nE_] at hle;rw[if_pos (by rw[nE_];omega)]
          cases hm
         cases hm
        obtain⟨r1,_⟩:=nz (P:=P) (w:=w) (len:=len) hm hb A (B y Z) (C m Z) true;obtain⟨r2,_⟩:=nz (P:=P) (w:=w) (len:=len) Q hb A (B y Z) (C m Z) true
        simp_all
    rw[hf];exact⟨_,jU hu hj r',I⟩
   simp_all
 ·rename_i e b off len a sz hu d;have hv:=hx _ d;simp only[VR] at hv;obtain⟨l,hl,c,hf,R,u⟩:=hv;cases mx with
  | some _=>cases h
  | none=>
   dsimp only at h;cases hb:dX ev len a lo hi with
   | none=>rw[hb] at h;cases h
   | some p=>
    obtain⟨l',h'⟩:=p;cases hj:P.info? e with
    | none=>simp_all
    | some j=>
     rw[hb,hj] at h;simp only[bM] at h;split at h
     ·rename_i K;cases h;simp only[bA_,Nat.beq_eq,nE_] at K;obtain⟨G,ab,hlt⟩:=K;obtain⟨r,hle,hle2⟩:=iC (P:=P) (w:=w) (BJ R hb) A B true;rw[hf];refine⟨_,jU hu hj r,?_⟩;simp only[VR];refine⟨l,hl,c-l',?_,by omega,?_⟩
      ·rw[if_neg oM,Addr.add_eq _ _ Z,G,Nat.add_assoc]
      rw[<-u];have:c=l'+(c-l'):=by omega
      grind
     cases h
 ·rename_i e hu d;have hv:=hx _ d;simp only[VR] at hv;cases mx with
  | some _=>cases h
  | none=>
   dsimp only at h;cases hb:dX ev 0 0 lo hi with
   | none=>rw[hb] at h;cases h
   | some p=>
    obtain⟨l',h'⟩:=p;cases L:P.info? e with
    | none=>simp_all
    | some je=>
    rw[hb,L] at h;cases h;obtain⟨r,hle,hle2⟩:=iC (P:=P) (w:=w) hb A B true;have hle2:=hle2 (nR_ _);have:l'=0:=by omega
    have:h'=0:=by omega
    subst_vars
    rw[hv];refine⟨.slice none 0 0,?_,by simp only[VR]⟩;simp[Instr.sliceAt,Instr.slice,run_underlying hu,r,cT L]
 ·rename_i n e b off hu d;have hv:=hx _ d;simp only[VR] at hv;obtain⟨l,hl,hf⟩:=hv;obtain⟨j,l',h',m,r,hj,I⟩:=nb (w:=w) hl h false A B C;rw[hf];refine⟨_,?_,I⟩;simp only[Instr.sliceAt,sB_,run_underlying hu,rA,Instr.sureAddr,sP_,r,cT hj]
 ·rename_i arr b off hu d;have hv:=hx _ d;simp only[VR] at hv;obtain⟨l,hl,hf⟩:=hv;split at h
  ·rename_i n e S;obtain⟨j,l',h',m,r,hj,I⟩:=nb (w:=w) hl h false A B C;rw[hf];refine⟨_,?_,I⟩;simp only[Instr.sliceAt,Instr.slice,sB_,run_underlying hu,run_underlying S,asAddr,rA,sP_,r,cT hj]
  cases h
 ·rename_i s hu d;have hv:=hx _ d;simp only[VR] at hv;obtain⟨bs,hf,T⟩:=hv;cases mx with
  | some _=>cases h
  | none=>
   dsimp only at h;cases hb:dX ev (dU s) (dU s) lo hi with
   | none=>rw[hb] at h;cases h
   | some p=>
    obtain⟨l',h'⟩:=p;rw[hb] at h;cases h;rw[jC T] at hb;obtain⟨r,hle,hle2⟩:=iC (P:=P) (w:=w) hb A B false;rw[hf];refine⟨.string<|bs.extract l' h',?_,?_⟩
    ·simp[Instr.sliceAt,Instr.slice,run_underlying hu,r]
    simp only[VR];refine⟨_,Z,?_⟩
    grind [gR,ej,eN,Lib.extract_data,List.map_take,List.map_drop]
 cases h
end
end
variable {ts:Array TypeId} {y:Value}
section
variable {P:Program} {Y:Ren} {w:World}
theorem yX {t:TypeId} {off:Nat} {v:V} (h:Ie P t cs off=some v) (A:dA Y cs ys.toList):∃y,(part t ys off).run P w= .ok y w/\VR Y v y:=by
 unfold Ie at h;split at h
 ·rename_i n u;cases h;obtain⟨d,i,hu,hi,z,hd⟩:=sy u;refine⟨.agg<|ys.extract off (off+n),?_,?_⟩
  ·simp only[part,sB_,fC hu,hd,rA,if_true,cT hi,z,sP_]
  simp only[VR];refine⟨_,Z,?_⟩;rw[ej,eN,Array.toList_extract];have:=(A.drop off).take n
  simp_all
 ·rename_i u;obtain⟨d,i,hu,hi,hd⟩:=xl u;rw[fY] at h;obtain⟨y,h1,B⟩:=A.get h;refine⟨y,?_,B⟩;have:ys[off]? =some y:=by simp_all
  simp only[part,sB_,fC hu,hd,rA,zi_,if_false,this,sP_]
 cases h
theorem gZ {ev:Operand->Option V} {f:Operand->Value}:∀{l:List Operand} {vs:List V},dv ev l=some vs->(∀x∈l,∀v,ev x=some v->VR Y v (f x))->dA Y vs (l.map f)
 | [],vs,h,_=>by rw[ij] at h;cases h;exact dA.nil
 | x::l,vs,h,d=>by
  obtain⟨y,r,h1,u,rfl⟩:=gJ h;exact dA.cons (d x (by simp) y h1)<|gZ u fun z hz=>d z (by simp[hz])
theorem JO {t ty:TypeId} {x:V} {n:Nat} (h:zT P t x=some n) (hx:VR Y x y) (d:ts[0]? =some t):(Builtin.len_ ts ty #[y]).run P w= .ok (.int .i64<|Int.ofNat n) w:=by
 unfold zT at h;split at h
 ·rename_i s hu;cases h;simp only[VR] at hx;obtain⟨bs,rfl,u⟩:=hx;rw[jC u];simp[Builtin.len_,d,run_underlying hu,goInt]
 ·rename_i m e hu;cases h;simp[Builtin.len_,d,run_underlying hu,goInt]
 ·rename_i e b off m cap hu;cases h;obtain⟨a,c,rfl⟩:=VR.jA hx;simp[Builtin.len_,d,run_underlying hu,goInt]
 ·rename_i e hu;cases h;simp only[VR] at hx;subst hx;simp[Builtin.len_,d,run_underlying hu,goInt]
 ·rename_i k e hu;cases h;simp only[VR] at hx;subst hx;simp[Builtin.len_,d,run_underlying hu,goInt]
 cases h
theorem yK {x:V} (hx:VR Y x y) (h:x≠ .nilPtr/\x≠ .nilIface/\x≠ .nilFunc/\(∀l,x≠ .yield l)/\x≠ .any/\(∀n,x≠ .tok n)) (f:Operand->Value) (o:Oper) (z:Operand) (d:o.op= .nilCheck z) (hf:f z=y):
  (execOp f o).run P w= .ok (.value y) w:=by
 have key:(y≠ .pointer none)/\y≠ .nilIface/\y≠ .nilFunc/\∀n a b,y≠ .func (.method n) a b:=by
  obtain⟨h1,u,A,B,h5,C⟩:=h;cases x with
  | tok n=>exact absurd Z (C n)
  | any=>exact absurd Z h5
  | nilPtr=>exact absurd Z h1
  | nilIface=>exact absurd Z u
  | nilFunc=>exact absurd Z A
  | yield l=>exact absurd Z (B l)
  | slice b off len cap=>obtain⟨_,_,rfl⟩:=VR.jA hx;simp
  | _=>simp only[VR] at hx;first | (subst hx;simp;done) | (obtain⟨_,_,rfl⟩:=hx;simp;done) | (obtain⟨_,rfl,_⟩:=hx;simp;done) | (obtain⟨_,_,rfl,_⟩:=hx;simp;done)
 obtain⟨E,G,I,K⟩:=key;simp only[execOp,d,hf,E,G,I,K];rfl
theorem y9 {ev:Operand->Option V} {f:Operand->Value} {o:Oper} {v:V} (B:ER Y ev f o.op) (h:eh P ev o.op=some v):
  ∃x,(execOp f o).run P w= .ok (.value x) w/\VR Y v x:=by
 cases E:o.op with
 | move x=>
  rw[E] at h B;exact⟨f x,by simp[execOp,E],B x (by simp[Op.operands]) v h⟩
 | assign x=>
  rw[E] at h B;exact⟨f x,by simp[execOp,E],B x (by simp[Op.operands]) v h⟩
 | pick c a b=>
  rw[E] at h B;simp only[eh] at h;split at h
  ·rename_i G;have:=B c (by simp[Op.operands]) _ G;simp only[VR] at this;exact⟨f a,by simp[execOp,E,this,asBool],B a (by simp[Op.operands]) v h⟩
  ·rename_i G;have:=B c (by simp[Op.operands]) _ G;simp only[VR] at this;exact⟨f b,by simp[execOp,E,this,asBool],B b (by simp[Op.operands]) v h⟩
  cases h
 | build t parts=>
  rw[E] at h B;obtain⟨x,h1,M⟩:=DG (Y:=Y) (w:=w) (f:=f) (fun p hp u hu=>B p.2 (by simp only[Op.operands,List.mem_toArray,zn_];grind) u hu) h
  grind [execOp,sB_,rA,sP_]
 | nilCheck x=>
  rw[E] at h B;simp only[eh] at h;split at h
  ·cases h
  ·cases h
  ·cases h
  ·cases h
  ·cases h
  ·cases h
  rename_i W X n3 n4 n5 n6;have hv:=B x (by simp[Op.operands]) v h;exact⟨f x,yK hv ⟨fun e=>W (by rw[h,e]),fun e=>X (by rw[h,e]),fun e=>n3 (by rw[h,e]),(fun l e=>n4 l (by rw[h,e])),(fun e=>n5 (by rw[h,e])),fun k e=>n6 k (by rw[h,e])⟩ f o x E Z,hv⟩
 | binOp op t x y ty=>
  rw[E] at h B;simp only[eh] at h;split at h
  ·rename_i a b ha hb;obtain⟨z,h1,M,h3⟩:=FT (P:=P) (w:=w) (B x (by simp[Op.operands]) a ha) (B y (by simp[Op.operands]) b hb) x y h
   grind [execOp,sB_,rA,sP_]
  cases h
 | unOp op t x=>
  rw[E] at h B;simp only[eh] at h;split at h
  ·rename_i b hb;cases h;have:=B x (by simp[Op.operands]) _ hb;simp only[VR] at this;exact⟨.bool (!b),by simp[execOp,E,this,Op.unary],by simp only[VR];rw[cond_not]⟩
  ·rename_i k n hb;cases h;have:=B x (by simp[Op.operands]) _ hb;simp only[VR] at this;refine⟨.int k<|k.wrap (0-n),?_,by simp only[VR];rw[IV];rfl⟩
   grind [execOp,Op.unary,Op.intArith,sP_]
  ·rename_i k n hb;cases h;have:=B x (by simp[Op.operands]) _ hb;simp only[VR] at this;refine⟨.int k<|k.wrap (BitVec.ofInt k.bits (if k.signed then-1 else k.max) ^^^ BitVec.ofInt k.bits n).toNat,?_,by simp only[VR]⟩
   grind [execOp,Op.unary,Op.intBits,sP_]
  cases h
 | convert src dst x=>
  rw[E] at h B;simp only[eh] at h;split at h
  ·rename_i I K N k1 k k2 n e1 e2 T;cases h;have:=B x (by simp[Op.operands]) _ T;simp only[VR] at this;refine⟨.int k<|k.wrap n,?_,by simp only[VR];rw[IV]⟩;simp[execOp,E,this,convert,run_underlying e1,run_underlying e2,Conv.intToInt]
  ·rename_i I K N s e1 e2 T;cases h;have hv:=B x (by simp[Op.operands]) _ T;have hv':=hv;simp only[VR] at hv';obtain⟨bs,hf,Q⟩:=hv';refine⟨f x,?_,hv⟩;rw[hf];simp[execOp,E,hf,convert,run_underlying e1,run_underlying e2]
  cases h
 | makeInterface t x=>
  rw[E] at h B;simp only[eh] at h;split at h
  ·cases h
  ·rename_i I K d u hn e1 e2;cases h;have hv:=B x (by simp[Op.operands]) _ e2;refine⟨.iface t<|f x,?_,by simp only[VR];simp_all⟩;simp only[execOp,E,Instr.makeInterface,sB_,run_underlying e1,rA]
   simp_all
  cases h
 | makeFunc fn first captured=>
  rw[E] at h B;simp only[eh] at h;split at h
  ·rename_i I K N g a b e1 e2;cases h;have ha:=gZ (f:=f) e1 (fun x hx u hu=>B x (by grind [Op.operands]) u hu);have hb:=gZ (f:=f) e2 (fun x hx u hu=>B x (by grind [Op.operands]) u hu);refine⟨.func (.func g) (first.map f)<|captured.map f,?_,by simp only[VR];exact⟨_,_,Z,by simpa using ha,by simpa using hb⟩⟩;simp[execOp,E,Instr.makeFunc]
  cases h
 | slice t x lo hi mx=>
  rw[E] at h B;obtain⟨z,h1,M⟩:=E5 (P:=P) (w:=w) (f:=f) h (B x (by simp[Op.operands])) (fun y hy=>B y (by subst hy;simp[Op.operands])) (fun y hy=>B y (by subst hy;simp[Op.operands])) (fun y hy=>B y (by subst hy;simp[Op.operands]))
  grind [execOp,sB_,rA,sP_]
 | fieldAddr s x i=>
  rw[E] at h B;simp only[eh] at h;split at h
  ·rename_i fs b off Q hx;have hv:=B x (by simp[Op.operands]) _ hx;simp only[VR] at hv;obtain⟨l,hl,hf⟩:=hv;split at h
   ·rename_i fd R;split at h
    ·rename_i j hj;simp only[bM] at h;split at h
     ·cases h
     rename_i hne;cases h;have hz:¬j.size=0:=fun e=>hne (by simp_all)
     refine⟨.pointer<|some ⟨l.dz,l.sh+(off+fd.offset),none⟩,?_,by simp only[VR];simp_all⟩;simp[execOp,E,Instr.fieldAt,run_underlying<|nN Q,R,hf,Instr.sureAddr,fieldPlace,cT hj,hz,Addr.add_eq,Nat.add_assoc]
    cases h
   cases h
  cases h
 | field t x i=>
  rw[E] at h B;simp only[eh] at h;split at h
  ·rename_i fs cs Q hx;have hv:=B x (by simp[Op.operands]) _ hx;simp only[VR] at hv;obtain⟨ys,hf,G⟩:=hv;split at h
   ·rename_i fd R;obtain⟨y,h1,M⟩:=yX (P:=P) (w:=w) h G;refine⟨y,?_,M⟩;simp[execOp,E,Instr.field,run_underlying<|nN Q,R,hf,asAgg,h1]
   cases h
  cases h
 | indexAddr t x i=>
  rw[E] at h B;simp only[eh] at h;split at h
  ·rename_i I K N e b off len cap k n hu hx hi;have hv:=B x (by simp[Op.operands]) _ hx;have hn:=B i (by simp[Op.operands]) _ hi;simp only[VR] at hn;split at h
   ·rename_i j hj;simp only[bM] at h;split at h
    ·rename_i hlt;cases h;rw[nE_] at hlt;have hlt:n<len:=hlt;have L:(0:Int)<=Int.ofNat n/\Int.ofNat n<(len:Int):=⟨Int.natCast_nonneg _,Int.ofNat_lt.2 hlt⟩
     have go:∀(a:Addr) (c:Nat),f x= .slice (some a) len c->(execOp f o).run P w= .ok (.value (.pointer<|some<|a.add (n*j.size))) w:=by
      intro a c hf;simp only[execOp,E,Instr.indexAt,hn,hf,asIntOf,sB_,sP_,run_underlying hu,rA];rw[if_pos L];simp[cT hj]
     cases cap with
     | known c=>
      simp only[VR] at hv;obtain⟨l,hl,hf⟩:=hv;refine⟨_,go _ _ hf,?_⟩;simp only[VR];exact⟨l,hl,by rw[Addr.add_eq _ _ Z,Nat.add_assoc]⟩
     | least a sz=>
      simp only[VR] at hv;obtain⟨l,hl,c,hf,_⟩:=hv;refine⟨_,go _ _ hf,?_⟩;simp only[VR];exact⟨l,hl,by rw[Addr.add_eq _ _ Z,Nat.add_assoc]⟩
     | upto sz=>
      simp only[VR] at hv;obtain⟨l,hl,⟨c,hf,_⟩ | ⟨h0,_⟩⟩:=hv
      ·refine⟨_,go _ _ hf,?_⟩;simp only[VR];exact⟨l,hl,by rw[Addr.add_eq _ _ Z,Nat.add_assoc]⟩
      omega
    cases h
   cases h
  ·rename_i I K N m e b off k n hu hx hi;have hv:=B x (by simp[Op.operands]) _ hx;have hn:=B i (by simp[Op.operands]) _ hi;simp only[VR] at hn hv;obtain⟨l,hl,hf⟩:=hv;split at h
   ·rename_i j hj;simp only[bM] at h;split at h
    ·rename_i hlt;cases h;rw[nE_] at hlt;have hlt:n<m:=hlt;have L:(0:Int)<=Int.ofNat n/\Int.ofNat n<(m:Int):=⟨Int.natCast_nonneg _,Int.ofNat_lt.2 hlt⟩;refine⟨.pointer<|some ⟨l.dz,l.sh+(off+n*j.size),none⟩,?_,by simp only[VR];simp_all⟩;simp only[execOp,E,Instr.indexAt,hn,hf,asIntOf,sB_,sP_,run_underlying hu,rA,Instr.sureAddr];rw[if_pos L];simp[cT hj,Addr.add_eq,Nat.add_assoc]
    cases h
   cases h
  cases h
 | index t x i=>
  rw[E] at h B;simp only[eh] at h;split at h
  ·rename_i I K N m e cs k n hu hx hi;have hv:=B x (by simp[Op.operands]) _ hx;have hn:=B i (by simp[Op.operands]) _ hi;simp only[VR] at hn hv;obtain⟨ys,hf,G⟩:=hv;simp only[bM] at h;split at h
   ·rename_i hlt;rw[nE_] at hlt;have hlt:n<m:=hlt;have L:(0:Int)<=Int.ofNat n/\Int.ofNat n<(m:Int):=⟨Int.natCast_nonneg _,Int.ofNat_lt.2 hlt⟩;split at h
    ·rename_i j hj;obtain⟨y,h1,M⟩:=yX (P:=P) (w:=w) h G;refine⟨y,?_,M⟩;simp only[execOp,E,Instr.index,hn,hf,asIntOf,sB_,sP_,run_underlying hu,rA];rw[if_pos L];simp[cT hj,h1]
    cases h
   cases h
  ·rename_i I K N s k n hu hx hi;have hv:=B x (by simp[Op.operands]) _ hx;have hn:=B i (by simp[Op.operands]) _ hi;simp only[VR] at hn hv;obtain⟨bs,hf,Q⟩:=hv;split at h
   ·rename_i c G;cases h;rw[fY] at G;unfold gR at Q;rw[<-Q,gM_] at G;cases hb:bs.data.toList[n]? with
    | none=>simp_all
    | some bt=>
     rw[hb] at G;cases G;have aa:bs[n]? =some bt:=by rw[<-hb,aT_];rfl
     refine⟨.int .u8 (bt.toNat:Int),?_,by simp only[VR];rfl⟩;have h0:(0:Int)<=Int.ofNat n:=Int.natCast_nonneg _;simp only[execOp,E,Instr.index,hn,hf,asIntOf,sB_,sP_,run_underlying hu,rA]
     simp_all
   cases h
  cases h
 | typeAssert x xt ty ok=>
  rw[E] at h B;simp only[eh] at h
  have zero:∀{v:V},((fJ P ty).map fun z=>V.tuple [z,.bool false])=some v->∃z,(zeroValue ty).run P w= .ok z w/\VR Y v (.tuple #[z,.bool false]):=fun {v} hz=>by
   cases hq:fJ P ty with
   | none=>simp_all
   | some z=>
    rw[hq] at hz;cases hz;obtain⟨i,y,hi,hy,hv⟩:=qP hq;refine⟨y,by simp[zeroValue,typeInfo,hi,hy],?_⟩;simp only[VR];exact⟨_,Z,dA.cons (hv Y)<|dA.cons (by simp only[VR]) dA.nil⟩
  split at h
  ·cases h
  ·rename_i I K d u v' hn e1 e2;have hv:=B x (by simp[Op.operands]) _ e2;simp only[VR] at hv;obtain⟨y,hf,hv⟩:=hv;rw[bM] at h;split at h
   ·rename_i hu;have:=nB hu;subst this;cases ok with
    | true=>
     simp only[cond_true] at h;cases h;refine⟨.tuple #[y,.bool true],?_,by simp only[VR];exact⟨_,Z,dA.cons hv<|dA.cons (by simp only[VR]) dA.nil⟩⟩;simp only[execOp,E,Instr.typeAssert,hf,sB_,run_underlying e1,rA]
     simp_all
    | false=>
     simp only[cond_false] at h;cases h;refine⟨y,?_,hv⟩;simp only[execOp,E,Instr.typeAssert,hf,sB_,run_underlying e1,rA]
     simp_all
   rename_i hu;have hne:¬u=ty:=fun e=>hu (by simp_all)
   cases ok with
   | true=>
    obtain⟨z,hz,S⟩:=zero h;refine⟨_,?_,S⟩;simp only[execOp,E,Instr.typeAssert,hf,sB_,run_underlying e1,rA]
    simp_all
   | false=>cases h
  ·rename_i I K d hn e1 e2;have hv:=B x (by simp[Op.operands]) _ e2;simp only[VR] at hv;cases ok with
   | true=>
    obtain⟨z,hz,S⟩:=zero h;refine⟨_,?_,S⟩;simp only[execOp,E,Instr.typeAssert,hv,sB_,run_underlying e1,rA]
    simp_all
   | false=>cases h
  cases h
 | extract x i=>
  rw[E] at h B;simp only[eh] at h;split at h
  ·rename_i vs hx;have hv:=B x (by simp[Op.operands]) _ hx;simp only[VR] at hv;obtain⟨ys,hf,G⟩:=hv;rw[fY] at h;obtain⟨y,h1,M⟩:=G.get h;have:ys[i]? =some y:=by simp_all
   exact⟨y,by simp[execOp,E,Instr.extract,hf,this],M⟩
  cases h
 | call c=>
  rw[E] at h B;simp only[eh] at h;split at h
  ·rename_i C;split at h
   ·rename_i I K t x e1 e2;split at h
    ·rename_i u hu;cases hl:zT P t u with
     | none=>rw[hl] at h;cases h
     | some n=>
      rw[hl] at h;cases h;have A:c.args= #[x]:=by grind
      have hv:=B x (by simp[Op.operands,Call.operands,C,A]) u hu;refine⟨.int .i64<|Int.ofNat n,?_,by simp only[VR]⟩;have:=JO (P:=P) (w:=w) (ty:=o.type) hl hv e1;simp[execOp,E,resolve,C,A,invoke,builtin,this]
    cases h
   cases h
  ·rename_i C;split at h
   ·rename_i I K t x e1 e2;split at h
    ·rename_i N u4 e u hu hx;have A:c.args= #[x]:=by grind
     have hv:=B x (by simp[Op.operands,Call.operands,C,A]) u hx;unfold SY at h;split at h
     ·rename_i b off len k;cases h;simp only[VR] at hv;obtain⟨l,hl,hf⟩:=hv;refine⟨.int .i64<|Int.ofNat k,?_,by simp only[VR]⟩;simp[execOp,E,resolve,C,A,invoke,builtin,Builtin.cap_,e1,run_underlying hu,hf,goInt]
     ·rename_i b off len a sz;cases h;simp only[VR] at hv;obtain⟨l,hl,k,hf,hk,_⟩:=hv;refine⟨.int .i64<|Int.ofNat k,?_,by simp only[VR];grind⟩;simp[execOp,E,resolve,C,A,invoke,builtin,Builtin.cap_,e1,run_underlying hu,hf,goInt]
     ·cases h;simp only[VR] at hv;refine⟨.int .i64 0,?_,by simp only[VR]⟩;simp[execOp,E,resolve,C,A,invoke,builtin,Builtin.cap_,e1,run_underlying hu,hv,goInt]
     cases h
    cases h
   cases h
  ·rename_i C;split at h
   ·rename_i I x y e2;split at h
    ·rename_i a b ha hb;have A:c.args= #[x,y]:=by grind
     have hva:=B x (by simp[Op.operands,Call.operands,C,A]) a ha;have hvb:=B y (by simp[Op.operands,Call.operands,C,A]) b hb;unfold RS at h;split at h
     ·rename_i k n k' m;simp only[VR] at hva hvb;simp only[bM] at h;split at h
      ·cases h;refine⟨.int k (if m<n then m else n),?_,by simp only[VR,dq,decide_eq_true_eq]⟩;simp[execOp,E,resolve,C,A,invoke,builtin,hva,hvb,run_min_int2]
      cases h
     cases h
    cases h
   cases h
  ·rename_i C;split at h
   ·rename_i I x y e2;split at h
    ·rename_i a b ha hb;have A:c.args= #[x,y]:=by grind
     have hva:=B x (by simp[Op.operands,Call.operands,C,A]) a ha;have hvb:=B y (by simp[Op.operands,Call.operands,C,A]) b hb;unfold Tl at h;split at h
     ·rename_i k n k' m;simp only[VR] at hva hvb;simp only[bM] at h;split at h
      ·cases h;refine⟨.int k (if m>n then m else n),?_,by simp only[VR,dq,decide_eq_true_eq]⟩;simp[execOp,E,resolve,C,A,invoke,builtin,hva,hvb,run_max_int2]
      cases h
     cases h
    cases h
   cases h
  cases h
 | _=>rw[E] at h;simp[eh] at h
end
inductive HR where
 | val (v:V) (O:aB)
 | skip (O:aB)
 | enter (f:Nat) (args:List V) (O:aB)
 | round (l:Pos) (args:List V) (O:aB)
 | kE (v:V) (O:aB)
 | err (n:Nat)
def zt (P:Program) (O:aB) (t:TypeId) (x v:V):Option aB:=
 match x,cG v with
 | .ptr b off,some cs=>
  match O.m.get b,P.info? t with
  | some (.row cells e false),some j=>
   bif Nat.beq (dU cs) j.size && Nat.ble (off+j.size) (dU cells) && cM cs then some (O.setObj b (.row (dJ cs cells off) e false)) else none
  | some (.own cells e),some j=>
   bif Nat.beq (dU cs) j.size && Nat.ble (off+j.size) (dU cells) && cM cs then some (O.setObj b (.own (dJ cs cells off) e)) else none
  | _,_=>none
 | _,_=>none
def lN (O:aB) (sz:Nat):V->Option (Nat×List V)
 | .av=>some (0,[])
 | .slice b off len _=>match O.m.get b with
  | some (.row cells _ _)=>bif Nat.ble (off+len*sz) (dU cells) then some (len,takeN (eA cells off) (len*sz)) else none
  | _=>none
 | .str s=>bif Nat.beq sz 1 then some (dU s,Ct (fun c=>.int .u8 (Int.ofNat c)) s) else none
 | _=>none
def ei (P:Program) (t:Option TypeId):Bool:=
 match t with
 | some t=>match P.underlying t with
  | some (.slice _) | some .string=>true
  | _=>false
 | none=>true
def grow (O:aB) (e:Nat) (cs:List V) (len sz:Nat):HR:=
 .val (.slice O.next 0 len (.upto sz)) (O.alloc (.row cs e false))
def gd (P:Program) (O:aB) (ts:Array TypeId) (s x:V):HR:=
 match ts[0]? with
 | some t=>match P.underlying t with
  | some (.slice e)=>match P.info? e with
   | some j=>
    bif ei P ts[1]? && Nat.ble 1 j.size && Nat.ble j.bytes 65536 then
     match lN O j.size x with
     | some (n,news)=>
      bif cM news && Nat.ble n 1048576 && (P.info? e).any (fun j=>(j.zero.bind qq).any fun z=>(cG z).any fun cs=>Nat.beq (dU cs) j.size) then
       match s with
       | .av=>bif Nat.beq n 0 then .val .av O else grow O e news n j.size
       | .slice b off len (.known c)=>
        bif Nat.ble (len+n) c then
         match O.m.get b with
         | some (.row cells e' false)=>
          bif Nat.ble (off+len*j.size+dU news) (dU cells) then .val (.slice b off (len+n) (.known c)) (O.setObj b (.row (dJ news cells (off+len*j.size)) e' false)) else .err 21
         | _=>bif Nat.beq n 0 then .val (.slice b off len (.known c)) O else .err 22
        else match O.m.get b with
         | some (.row cells _ _)=>
          bif Nat.ble (off+len*j.size) (dU cells) && Nat.ble len 1048576 then grow O e (gS (takeN (eA cells off) (len*j.size)) news) (len+n) j.size else .err 23
         | _=>.err 24
       | .slice b off len (.upto sz)=>
        bif Nat.beq n 0 then .val (.slice b off len (.upto sz)) O else
        bif Nat.beq sz j.size && Nat.ble len 1048576 then
         match O.m.get b with
         | some (.row cells e' false)=>
          bif Nat.ble 1 len && Nat.ble (off+len*j.size+dU news) (dU cells) then
           .val (.slice b off (len+n) (.upto sz)) (O.setObj b (.row (dJ news cells (off+len*j.size)) e' false))
          else bif Nat.ble (off+len*j.size) (dU cells) && Nat.beq e' e then grow (O.drop b) e (gS (takeN (eA cells off) (len*j.size)) news) (len+n) j.size else .err 25
         | _=>.err 26
        else .err 27
       | _=>.err 28
      else .err 29
     | none=>.err 30
    else .err 31
   | none=>.err 32
  | _=>.err 33
 | none=>.err 34
def qS (P:Program) (O:aB) (ts:Array TypeId) (s x:V):HR:=
 match ts[0]?,ts[1]? with
 | some t,some t2=>match P.underlying t,P.underlying t2 with
  | some (.slice e),some (.int _)=>match P.info? e,(fJ P e).bind cG,x with
   | some j,some zs,.int .i64 (.ofNat n)=>
    bif Nat.ble n 1048576 && (Nat.ble 1 n && (Nat.ble 1 j.size && (Nat.ble j.bytes 65536 && Nat.beq (dU zs) j.size))) then
     match s with
     | .av=>grow O e (e9 zs n) n j.size
     | .slice b off len (.known c)=>
      bif Nat.ble (len+n) c then .err 37 else match O.m.get b with
       | some (.row cells _ _)=>bif Nat.ble (off+len*j.size) (dU cells) && Nat.ble len 1048576 then grow O e (gS (takeN (eA cells off) (len*j.size))<|e9 zs n) (len+n) j.size else .err 23
       | _=>.err 24
     | _=>.err 38
    else .err 39
   | _,_,_=>.err 46
  | _,_=>.err 47
 | _,_=>.err 48
def vL (P:Program) (O:aB) (ts:Array TypeId) (d x:V):HR:=
 match ts[0]? with
 | some t=>match P.underlying t with
  | some (.slice e)=>match P.info? e with
   | some j=>match lN O j.size x,d with
    | some (n,news),.slice b off len _=>
     bif Nat.beq (Nat.min n len) 0 then .val (.int .i64 0) O else
     match O.m.get b with
     | some (.row cells e' false)=>
      bif cM (takeN news (Nat.min n len*j.size)) && Nat.ble 1 j.size && Nat.ble (off+dU (takeN news (Nat.min n len*j.size))) (dU cells) then
       .val (.int .i64<|Int.ofNat<|Nat.min n len) (O.setObj b (.row (dJ (takeN news (Nat.min n len*j.size)) cells off) e' false)) else .err 40
     | _=>.err 41
    | some (_,_),.av=>.val (.int .i64 0) O
    | _,_=>.err 42
   | none=>.err 43
  | _=>.err 44
 | none=>.err 45
def BP (P:Program) (O:aB) (ts:Array TypeId) (x:V):Option aB:=
 match ts[0]? with
 | some t=>match P.underlying t with
  | some (.slice e)=>match x with
   | .av=>some O
   | .slice b off len _=>bif Nat.beq len 0 then some O else
    match(fJ P e).bind cG,O.m.get b with
    | some zs,some (.row cells e' false)=>bif cM (e9 zs len) && Nat.ble 1 (dU zs) && Nat.ble (off+dU (e9 zs len)) (dU cells) then some (O.setObj b (.row (dJ (e9 zs len) cells off) e' false)) else none
    | _,_=>none
   | _=>none
  | _=>none
 | none=>none
def vo (e:eP) (es:List eP) (i:Nat):List eP:=Hb e es i
def xJ (es:List eP):Nat->List eP:=
 List.rec (motive:=fun _=>Nat->List eP) (fun _=>[]) (fun x l ih n=>Nat.rec (motive:=fun _=>List eP) l (fun m _=>x::ih m) n) es
def nR (xs ys:List V):Bool:=
 List.rec (motive:=fun _=>List V->Bool) (fun ys=>List.rec (motive:=fun _=>Bool) true (fun _ _ _=>false) ys)
  (fun x _ ih ys=>List.rec (motive:=fun _=>Bool) false (fun y r _=>match sN x y with | some true=>ih r | _=>false) ys) xs ys
def sameKey (x y:V):Bool:=
 match x,y with
 | .agg xs,.agg ys=>nR xs ys
 | x,y=>match sN x y with | some b=>b | none=>false
def kM (P:Program) (O:aB) (t:TypeId) (m k v:V):Option aB:=
 match P.underlying t,m with
 | some (.map kt _),.map b=>match O.m.get b with
  | some (.map es clock)=>bif plainKey P kt && jP P kt k then
    match nh P kt k es 0 with
    | some (some (i,_))=>match nth es i with
     | some e=>bif sameKey e.key k then some (O.setObj b (.map (vo {key:=k,val:=v,born:=e.born} es i) clock)) else none
     | none=>none
    | some none=>some (O.setObj b (.map (gS es [{key:=k,val:=v,born:=clock}]) (clock+1)))
    | none=>none
   else none
  | _=>none
 | _,_=>none
def qX (P:Program) (O:aB) (ts:Array TypeId) (m k:V):Option aB:=
 match ts[0]? with
 | some t=>match P.underlying t,m with
  | some (.map kt _),.map b=>match O.m.get b with
   | some (.map es clock)=>bif plainKey P kt && jP P kt k then
     match nh P kt k es 0 with
     | some (some (i,_))=>some (O.setObj b (.map (xJ es i) clock))
     | some none=>some (O.setObj b (.map es clock))
     | none=>none
    else none
   | _=>none
  | _,_=>none
 | none=>none
def lI (P:Program) (f:Nat):Bool:=
 match P.funcs[f]? with
 | some fn=>fn.body.isSome && !(fn.name == "runtime.NumGoroutine")
 | none=>false
def nW:rK->Bool
 | .upto _=>false
 | _=>true
def ud (p q:Pos):Bool:=Nat.beq p q
def rm (O:aB) (args:List V):Option V:=
 match args with
 | [.slice b off n cap,.slice b' off' n' cap']=>
  match O.m.get b,O.m.get b' with
  | some (.row _ _ false),some (.row cells' _ false)=>bif (bif ud b b' then false else true) && (nW cap && (nW cap' && Nat.ble 1 (dU cells'))) then some (.bool false) else none
  | _,_=>none
 | _=>none
def isNe (P:Program) (g:Nat):Bool:=
 match P.funcs[g]? with
 | some fn=>fn.name == "internal/abi.NoEscape"
 | none=>false
def Ah (P:Program) (ov:Nat->Bool) (O:aB) (f:V) (args:List V):HR:=
 match f with
 | .func g fi ca=>bif lI P g then .enter g (gS fi<|gS args ca) O else bif ov g then(bif isNe P g then(match gS fi (gS args ca) with | [v]=>.val v O | _=>.err 53) else(match rm O (gS fi<|gS args ca) with | some v=>.val v O | none=>.err 52)) else .err 50
 | .yield l=>.round l args O
 | _=>.err 51
def TY (len:Nat) (c:rK):Bool:=
 match c with
 | .known c=>Nat.ble 1 c
 | .upto _=>Nat.ble 1 len
 | .least a _=>Nat.ble 1 a
def HM (x:V):Option V:=
 match x with
 | .av=>some .nilPtr
 | .slice b off len c=>bif TY len c then some (.ptr b off) else none
 | _=>none
def IM (P:Program) (O:aB) (t:Option TypeId) (p n:V):Option (List Nat×aB):=
 match n with
 | .int .i64 (.ofNat n)=>bif Nat.beq n 0 then(match t,p with
   | some _,.nilPtr=>some ([],O)
   | some _,.ptr _ _=>some ([],O)
   | _,_=>none) else
  match t,p with
  | some t,.ptr b off=>match P.underlying t,O.m.get b with
   | some (.pointer u),some (.row cells e false)=>bif Nat.beq e u && (Nat.beq (P.cellsOf u) 1 && (Nat.ble (off+n) (dU cells) && Nat.ble n 1152921504606846976)) then
     match dv Af (takeN (eA cells off) n) with
     | some s=>some (s,O.setObj b (.row cells e true))
     | none=>none
    else none
   | _,_=>none
  | _,_=>none
 | _=>none
def nA (P:Program) (O:aB) (src dst:TypeId) (x:V):HR:=
 match P.underlying src,P.underlying dst,x with
 | some .string,some (.slice e),.str s=>match P.underlying e with
  | some (.int .u8)=>bif Nat.beq (P.cellsOf e) 1 then .val (.slice O.next 0 (dU s) (.upto 1)) (O.alloc (.row (Ct (fun c=>.int .u8 (Int.ofNat c)) s) e true)) else .err 26
  | _=>.err 25
 | _,_,_=>.err 24
def gD (P:Program) (ov:Nat->Bool) (ev:Operand->Option V) (O:aB):Op->HR
 | .store t x y=>match ev x,ev y with
  | some a,some v=>match zt P O t a v with
   | some O'=>.skip O'
   | none=>.err 10
  | _,_=>.err 11
 | .mapUpdate t m k x=>match ev m,ev k,ev x with
  | some a,some b,some v=>match kM P O t a b v with
   | some O'=>.skip O'
   | none=>.err 19
  | _,_,_=>.err 20
 | .insert t m k x=>match ev m,ev k,ev x with
  | some a,some b,some v=>match kM P O t a b v with
   | some O'=>.skip O'
   | none=>.err 19
  | _,_,_=>.err 20
 | .call c=>match c.callee with
  | .value f=>match ev f,jv ev c.args.toList with
   | some g,some args=>Ah P ov O g args
   | _,_=>.err 12
  | .builtin .append=>match jv ev c.args.toList with
   | some [s,x]=>bif ei P c.argTypes[1]? then gd P O c.argTypes s x else qS P O c.argTypes s x
   | _=>.err 13
  | .builtin .delete=>match jv ev c.args.toList with
   | some [m,k]=>match qX P O c.argTypes m k with
    | some O'=>.val (.tuple []) O'
    | none=>.err 17
   | _=>.err 18
  | .builtin .copy=>match jv ev c.args.toList with
   | some [s,x]=>vL P O c.argTypes s x
   | _=>.err 14
  | .builtin .clear=>match jv ev c.args.toList with
   | some [x]=>match BP P O c.argTypes x with
    | some O'=>.val (.tuple []) O'
    | none=>.err 21
   | _=>.err 22
  | .builtin .unsafeSliceData=>match jv ev c.args.toList with
   | some [x]=>match HM x with
    | some v=>.val v O
    | none=>.err 27
   | _=>.err 28
  | .builtin .unsafeString=>match jv ev c.args.toList with
   | some [p,n]=>match IM P O c.argTypes[0]? p n with
    | some (s,O')=>.val (.str s) O'
    | none=>.err 29
   | _=>.err 30
  | _=>.err 15
 | .convert src dst x=>match ev x with
  | some v=>nA P O src dst v
  | none=>.err 23
 | .panic x=>match ev x with
  | some (.iface t v)=>.kE (.iface t v) O
  | _=>.err 32
 | _=>.err 16
variable {vs:List V}
section
variable {P:Program} {Y:Ren} {O:aB} {w:World}
theorem aB.nM (O:aB) (b:Pos) (o o':cN):(O.setObj b o).setObj b o'=O.setObj b o':=by
 simp[aB.setObj,PT.PH]
theorem aB.mq (O:aB) (b:Pos) (o:cN):(O.setObj b o).m.get b=some o:=PT.dY _ _ _
theorem oE {b:Pos} {l:Loc} {e:Nat} (hl:Y b=some l):∀(vs:List V) (xs:List Value) (cells:List V) (off i:Nat) (O:aB) (w:World),Inv Y O w->O.m.get b=some (.row cells e false)->dA Y vs xs->cM vs=true->
  off+i+vs.length<=cells.length->∀σ₀:aB,O=σ₀.setObj b (.row cells e false)->
  ∃w',(storeCells ⟨l.dz,l.sh+off,none⟩ xs i).run P w= .ok () w'/\Inv Y (σ₀.setObj b (.row (ib cells (off+i) vs) e false)) w'/\fb Y O w Y (σ₀.setObj b (.row (ib cells (off+i) vs) e false)) w'
 | [],xs,cells,off,i,O,w,hi,hb,hv,_,_,σ₀,hσ=>by
  rw[hv.eK];subst hσ;exact⟨w,by simp[storeCells],hi,fb.refl _ _ _⟩
 | v::vs,xs,cells,off,i,O,w,hi,hb,hv,d,hlen,σ₀,hσ=>by
  obtain⟨x,r,rfl,h1,G⟩:=hv.cons_inv;have ac:eB v=true:=l9 d v (by simp)
  have A:cM vs=true:=by
   grind [cM]
  simp only[zc_] at hlen;obtain⟨B,st⟩:=hi.setCell hb hl (i:=off+i) oM h1;have u:(O.setObj b (.row (cells.set (off+i) v) e false)).m.get b=some (.row (cells.set (off+i) v) e false):=aB.mq _ _ _;obtain⟨w',r',inv',st'⟩:=oE hl vs r (cells.set (off+i) v) off (i+1) _ _ B u G A (by simp;omega) σ₀ (by rw[hσ,aB.nM]);obtain⟨c,fr,z,ak,am,C,E⟩:=hi.row hb hl;refine⟨w',?_,?_,?_⟩
  ·have hlt:off+i<cells.length:=by omega
   obtain⟨y,hy,_⟩:=C (off+i) cells[off+i] (gC hlt);have aa:w.cell? ⟨l.dz,l.sh+off+i,none⟩=some y:=by rw[cell?_of_heap z,Nat.add_assoc];exact hy
   have ao:w.frozen? ⟨l.dz,l.sh+off+i,none⟩=false:=frozen?_of_heap z _ (E Z _ oM);have ab:(⟨l.dz,l.sh+off,none⟩:Addr).add i=⟨l.dz,l.sh+off+i,none⟩:=Addr.add_eq _ i Z
   grind [run_store,lJ,storeCells,sB_,rA]
  ·simpa [ib,Nat.add_assoc] using inv'
  have:=st.trans st';simpa [ib,Nat.add_assoc] using this
theorem iI (hi:Inv Y O w) {b:Pos} {l:Loc} {cells:List V} {xs:List Value} {off:Nat} (hl:Y b=some l) (hb:O.m.get b=some (.row cells e false)) (hv:dA Y vs xs) (d:cM vs=true)
  (hlen:off+vs.length<=cells.length):
  ∃w',(storeCells ⟨l.dz,l.sh+off,none⟩ xs).run P w= .ok () w'/\Inv Y (O.setObj b (.row (dJ vs cells off) e false)) w'/\fb Y O w Y (O.setObj b (.row (dJ vs cells off) e false)) w':=by
 have u:Inv Y (O.setObj b (.row cells e false)) w/\fb Y O w Y (O.setObj b (.row cells e false)) w:=by
  obtain⟨c,fr,h1,z,A,B,h5⟩:=hi.row hb hl;exact hi.change hb hl Z Z h1 ⟨c,fr,Z,z,A,B,h5⟩ (fun _ _=>Z) Z Z Z ⟨Z,nR_ _⟩
 obtain⟨w',r,inv,st⟩:=oE (P:=P) hl vs xs cells off 0 _ w u.1 (aB.mq _ _ _) hv d oM O Z;rw[Nat.add_zero,<-kL vs cells off hlen] at inv st;exact⟨w',r,inv,u.2.trans st⟩
theorem E9 (hi:Inv Y O w) {t:TypeId} {x v:V} {z:Value} {O':aB} (h:zt P O t x v=some O') (hx:VR Y x y) (hv:VR Y v z):
  ∃w',(Instr.storeAt t y z).run P w= .ok () w'/\Inv Y O' w'/\fb Y O w Y O' w':=by
 unfold zt at h;split at h
 ·rename_i u1 u2 b off cs d;split at h
  ·rename_i L M cells e j hb hj;simp only[bM] at h;split at h
   ·rename_i B;cases h;simp only[bA_,Nat.beq_eq,nE_,db] at B;obtain⟨⟨E,G⟩,A⟩:=B;simp only[VR] at hx;obtain⟨l,hl,rfl⟩:=hx;obtain⟨w',r,inv,st⟩:=iI (P:=P) hi hl hb (iD d hv) A (off:=off) oM;refine⟨w',?_,inv,st⟩;have hsz:=mY d hv;simp only[Instr.storeAt,Instr.sureAddr,storeVar,sB_,sP_,rA,cT hj]
    simp_all
   cases h
  ·rename_i L M cells e j hb hj;simp only[bM] at h;split at h
   ·rename_i B;cases h;simp only[bA_,Nat.beq_eq,nE_,db] at B;obtain⟨⟨E,G⟩,A⟩:=B;simp only[VR] at hx;obtain⟨l,hl,rfl⟩:=hx;obtain⟨h0,I,K⟩:=hi.own hb hl;obtain⟨w',r,inv,st⟩:=iI (P:=P) I hl (aB.mq _ _ _) (iD d hv) A (off:=off) oM;rw[aB.nM] at inv st;have hlen:(dJ cs cells off).length=cells.length:=by rw[kL _ _ _ oM,sm]
    obtain⟨u,C⟩:=inv.Nk (aB.mq _ _ _) hl Z (fun x hx=>gF.Iw ⟨h0.1,by rw[hlen];exact h0.2⟩ hx);rw[aB.nM] at u C;refine⟨w',?_,u,(K.trans st).trans C⟩;have hsz:=mY d hv;simp only[Instr.storeAt,Instr.sureAddr,storeVar,sB_,sP_,rA,cT hj]
    simp_all
   cases h
  cases h
 cases h
theorem pj (hi:Inv Y O w) {sz n:Nat} {x:V} (h:lN O sz x=some (n,cs)) (hx:VR Y x y):
  (Builtin.lenOf y).run P w= .ok n w/\cs.length=n*sz/\
   ∀k,k<=n->∃xs:List Value,dA Y (cs.take (k*sz)) xs/\∀w',w'.heap=w.heap->(Builtin.firstCells sz k y).run P w'= .ok xs.toArray w':=by
 unfold lN at h;split at h
 ·cases h;simp only[VR] at hx;subst hx;refine⟨by simp[Builtin.lenOf],by simp,fun k hk=>⟨[],by simpa using dA.nil,fun w' _=>by simp[Builtin.firstCells]⟩⟩
 ·rename_i b off len cap;split at h
  ·rename_i cells e ro hb;simp only[bM] at h;split at h
   ·rename_i hle;cases h;rw[nE_,db] at hle
    have full:∀(a:Addr) (c:Nat) (l:Loc),Y b=some l->y= .slice (some a) n c->(a=⟨l.dz,l.sh+off,none⟩∨n=0)->
      (Builtin.lenOf y).run P w= .ok n w/\(takeN (eA cells off) (n*sz)).length=n*sz/\
       ∀k,k<=n->∃xs:List Value,dA Y ((takeN (eA cells off) (n*sz)).take (k*sz)) xs/\∀w',w'.heap=w.heap->(Builtin.firstCells sz k y).run P w'= .ok xs.toArray w':=by
     intro a c l hl hy B;subst hy;refine⟨by simp[Builtin.lenOf],by rw[ej,eN,lT_,lD_];omega,fun k hk=>?_⟩;have z:k*sz<=n*sz:=nM_ _ hk;rw[ej,eN,List.take_take,Nat.min_eq_left z];rcases B with rfl | rfl
     ·obtain⟨ys,h1,h2,h3⟩:=hi.piece hb hl off (k*sz) oM
      grind [run_firstCells_some,World.cell?]
     have A:k=0:=by omega
     subst A;refine⟨[],by simpa using dA.nil,fun w' aa=>?_⟩
     grind [run_firstCells_some]
    cases cap with
    | known c=>
     simp only[VR] at hx
     grind
    | least a s=>
     simp only[VR] at hx
     grind
    | upto s=>
     simp only[VR] at hx
     grind
   cases h
  cases h
 ·rename_i s;simp only[bM] at h;split at h
  ·rename_i d;rw[Nat.beq_eq] at d;subst d;cases h;simp only[VR] at hx;obtain⟨bs,rfl,u⟩:=hx;rw[jC u,nj];unfold gR at u;refine⟨by simp[Builtin.lenOf],by rw[<-u];simp,fun k hk=>?_⟩;refine⟨(bs.data.toList.take k).map fun b=>Value.int .u8 b.toNat,?_,fun w' _=>?_⟩
   ·rw[<-u,List.map_map,<-List.map_take,Nat.mul_one];generalize (bs.data.toList.take k)=l;induction l with
    | nil=>exact dA.nil
    | cons c l ih=>exact dA.cons (by simp only[VR];rfl) ih
   simp only[Builtin.firstCells,sP_];congr 1;apply Array.toList_inj.1
   simp_all
  cases h
 cases h
end
variable {news olds:List Value} {sCap sLen:Nat} {base:Option Addr} {yx:Value}
section
variable {P:Program} {Y:Ren} {O:aB} {w:World}
theorem JR (l:List α) (k:Nat) (v:α) (vs:List α) (hk:k<l.length):
  (l.set k v).take (k+1)++vs++(l.set k v).drop (k+1+vs.length)=l.take k++(v::vs)++l.drop (k+(vs.length+1)):=by
 grind [List.drop_set_of_lt,List.take_succ_eq_append_getElem,List.take_set_of_le]
theorem mJ {g o e:Nat} {fr:Nat×Nat}:∀(vs:List Value) (cur:Array Value) (i:Nat) (w:World),w.heap[g]? =some (.cells cur e fr)->o+i+vs.length<=cur.size->(∀v∈vs,v.oneCell'=true)->
  (∀j,o<=j->¬(fr.1<=j/\j<fr.2))->
  ∃w',(storeCells ⟨g,o,none⟩ vs i).run P w= .ok () w'/\w'.heap[g]? =some (.cells (cur.toList.take (o+i)++vs++cur.toList.drop (o+i+vs.length)).toArray e fr)/\
   (∀r,r≠g->w'.heap[r]? =w.heap[r]?)/\w'.heap.size=w.heap.size/\w'.tape=w.tape/\w'.os=w.os/\(w'.output=w.output/\w.drawn<=w'.drawn)
 | [],cur,i,w,z,_,_,_=>by
  refine⟨w,by simp[storeCells],?_,fun _ _=>Z,Z,Z,Z,Z,nR_ _⟩;simpa using z
 | v::vs,cur,i,w,z,hl,h1,hf=>by
  simp only[zc_] at hl;have hlt:o+i<cur.size:=by omega
  have aa:(⟨g,o,none⟩:Addr).add i=⟨g,o+i,none⟩:=Addr.add_eq _ i Z;have d:w.cell? ⟨g,o+i,none⟩=some cur[o+i]:=by rw[cell?_of_heap z];simp[hlt]
  have A:w.frozen? ⟨g,o+i,none⟩=false:=frozen?_of_heap z _ (hf _ oM)
  have ar:(store ⟨g,o+i,none⟩ v).run P w= .ok () (w.setCell ⟨g,o+i,none⟩ v):=by
   rw[run_store P w _ v _<|h1 v (by simp),d];simp[A]
  obtain⟨w',r,q1,q2,q3,q4,q5,C⟩:=mJ vs (cur.setIfInBounds (o+i) v) (i+1) _ (heap_setCell_same z (o+i) v) (by simp;omega) (fun u hu=>h1 u (by simp[hu])) hf;refine⟨w',?_,?_,fun r B=>(q2 r B).trans (heap_setCell_other w _ v B),by rw[q3];simp,q4,q5,C⟩
  ·grind [storeCells,sB_,rA]
  grind [JR]
theorem run_append_fits {t ty e:TypeId} {j:TypeInfo} (B:ts[0]? =some t) (hu:P.underlying t=some (.slice e)) (hj:P.info? e=some j) (hz:ei P ts[1]? =true)
  {n:Nat} (hlen:(Builtin.lenOf y).run P w= .ok n w) (d:(Builtin.firstCells j.size n y).run P w= .ok news.toArray w) (z:sLen+n<=sCap):
  (Builtin.append_ ts ty #[.slice base sLen sCap,y]).run P w=
   (Sem.run P (match base with | some a=>storeCells (a.add (sLen*j.size)) news | none=>pure ():Sem Unit) w).andThen fun _ w'=>.ok (.slice base (sLen+n) sCap) w':=by
 unfold ei at hz;cases h1:ts[1]? with
 | none=>
  cases base<;>simp[Builtin.append_,B,h1,run_underlying hu,cT hj,hlen,z,d]
 | some u=>
  rw[h1] at hz;dsimp only at hz;split at hz
  ·rename_i e' A;cases base<;>simp[Builtin.append_,B,h1,run_underlying hu,run_underlying A,cT hj,hlen,z,d]
  ·rename_i A;cases base<;>simp[Builtin.append_,B,h1,run_underlying hu,run_underlying A,cT hj,hlen,z,d]
  cases hz
theorem nK {t ty e:TypeId} {j:TypeInfo} (z:ts[0]? =some t) (hu:P.underlying t=some (.slice e)) (hj:P.info? e=some j) (hz:ei P ts[1]? =true)
  {dz o:Nat} {n:Nat} (hlen:(Builtin.lenOf y).run P w= .ok n w) (d:(Builtin.firstCells j.size n y).run P w= .ok news.toArray w) (u:sLen+n<=sCap):
  (Builtin.append_ ts ty #[.slice (some ⟨dz,o,none⟩) sLen sCap,y]).run P w=
   (Sem.run P (storeCells ⟨dz,o+sLen*j.size,none⟩ news) w).andThen fun _ w'=>.ok (.slice (some ⟨dz,o,none⟩) (sLen+n) sCap) w':=by
 rw[run_append_fits z hu hj hz hlen d u];show(Sem.run P (storeCells ((⟨dz,o,none⟩:Addr).add (sLen*j.size)) news) w).andThen _=_;rw[Addr.add_eq _ _ Z]
theorem lk {t ty e:TypeId} {j:TypeInfo} {z:Value} (I:ts[0]? =some t) (hu:P.underlying t=some (.slice e)) (hj:P.info? e=some j) (hzero:j.zero=some z) (hz:ei P ts[1]? =true)
  {n:Nat} (hlen:(Builtin.lenOf y).run P w= .ok n w) (d:(Builtin.firstCells j.size n y).run P w.drew= .ok news.toArray w.drew)
  (hold:(Builtin.firstCells j.size sLen (.slice base sLen sCap)).run P w.drew= .ok olds.toArray w.drew) (C:sCap<sLen+n) (K:sLen+n<=4194304) (L:j.bytes<=65536) (aa:1<=j.size):
  ∃cap,sLen+n<=cap/\(Builtin.append_ ts ty #[.slice base sLen sCap,y]).run P w=
   .ok (.slice (some ⟨w.heap.size,0,none⟩) (sLen+n) cap) (w.drew.alloc (.cells (olds.toArray++news.toArray++Builtin.zeroCells z.cells (cap-(sLen+n))) e)):=by
 refine⟨grownCap w (sLen+n) sCap e,grownCap_ge _ _ _ _,?_⟩
 have ab:Builtin.nextslicecap (sLen+n) sCap*j.bytes<=281474976710656:=growslice_fits C (by
  have:(sLen+n)*j.bytes<=4194304*65536:=Nat.mul_le_mul K L;omega)
 have hn:¬(sLen+n<=sCap):=by omega
 have A:IntKind.i64.max=9223372036854775807:=by decide
 have h1:¬(9223372036854775807<((sLen:Int)+(n:Int))):=by omega
 have E:¬(281474976710656<Builtin.nextslicecap (sLen+n) sCap*j.bytes):=by omega
 rw[Array.append_assoc];unfold ei at hz;cases B:ts[1]? with
 | none=>
  simp[Builtin.append_,I,B,run_underlying hu,cT hj,typeInfo,hj,hlen,hn,A,h1,E,hold,d,zeroValue,hzero,newRow,Question.forced,grownCap]
 | some u=>
  rw[B] at hz;dsimp only at hz;split at hz
  ·rename_i e' G;simp[Builtin.append_,I,B,run_underlying hu,run_underlying G,cT hj,typeInfo,hj,hlen,hn,A,h1,E,hold,d,zeroValue,hzero,newRow,Question.forced,grownCap]
  ·rename_i G;simp[Builtin.append_,I,B,run_underlying hu,run_underlying G,cT hj,typeInfo,hj,hlen,hn,A,h1,E,hold,d,zeroValue,hzero,newRow,Question.forced,grownCap]
  cases hz
theorem mr (hi:Inv Y O w) {sz len:Nat} {z:Value} (u:dA Y cs (olds++news)) (hlen:cs.length=len*sz) (d:len<=cap) (hz:z.cells.size=sz):
  Inv (Y.with O.next ⟨w.heap.size,0,cap*sz⟩) (O.alloc (.row cs e false)) (w.drew.alloc (.cells (olds.toArray++news.toArray++Builtin.zeroCells z.cells (cap-len)) e))/\
  fb Y O w (Y.with O.next ⟨w.heap.size,0,cap*sz⟩) (O.alloc (.row cs e false)) (w.drew.alloc (.cells (olds.toArray++news.toArray++Builtin.zeroCells z.cells (cap-len)) e))/\
  VR (Y.with O.next ⟨w.heap.size,0,cap*sz⟩) (.slice O.next 0 len (.upto sz)) (.slice (some ⟨w.heap.size,0,none⟩) len cap):=by
 have hlen2:=u.length;rw[hlen] at hlen2;have hle:len*sz<=cap*sz:=nM_ _ d
 have A:gF Y ⟨w.heap.size,0,cap*sz⟩ (.row cs e false) (.cells (olds.toArray++news.toArray++Builtin.zeroCells z.cells (cap-len)) e):=by
  refine⟨_,_,Z,?_,by rw[hlen];exact hle,fun i v hv=>?_,fun _ j _ hj=>by simp at hj⟩
  ·have h1:olds.length+news.length=len*sz:=by simpa using hlen2
   simp only[Array.size_append,List.size_toArray,size_zeroCells,hz,Nat.sub_mul,nA_];omega
  obtain⟨y,h1,h2⟩:=u.get hv
  grind
 obtain⟨inv,st⟩:=(hi.drew).alloc (l:=⟨w.heap.size,0,cap*sz⟩) Z A;refine⟨inv,(fb.drew Y O w).trans st,?_⟩;simp only[VR];exact⟨_,Ren.cZ _ _ _,.inl ⟨cap,Z,d,by simp⟩⟩
theorem BG (hi:Inv Y O w) {ty:TypeId} {s x v:V} {ys:Value} {O':aB} (h:gd P O ts s x= .val v O') (S:VR Y s ys) (hx:VR Y x yx):
  ∃z w' Y',(Builtin.append_ ts ty #[ys,yx]).run P w= .ok z w'/\VR Y' v z/\Inv Y' O' w'/\fb Y O w Y' O' w':=by
 unfold gd at h;cases Q:ts[0]? with
 | none=>rw[Q] at h;cases h
 | some t=>
 rw[Q] at h;dsimp only at h;split at h
 case h_2=>cases h
 rename_i e hu;cases hj:P.info? e with
 | none=>rw[hj] at h;cases h
 | some j=>
 rw[hj] at h;simp only[bM] at h;split at h
 case isFalse=>cases h
 rename_i hb;simp only[bA_,nE_] at hb;obtain⟨⟨hz,T⟩,ak⟩:=hb;cases ac:lN O j.size x with
 | none=>simp_all
 | some p=>
 obtain⟨n,news⟩:=p;rw[ac] at h;dsimp only at h;split at h
 case isFalse=>cases h
 rename_i a1;simp only[bA_,nE_] at a1;obtain⟨⟨K,bH⟩,hzero⟩:=a1
 obtain⟨zv,am,C⟩:∃zv,j.zero=some zv/\zv.cells.size=j.size:=by
  simp only[Option.any_some,Option.any_eq_true] at hzero;obtain⟨z,a2,cs,bb,a3⟩:=hzero;cases bc:j.zero with
  | none=>simp_all
  | some zv=>
   rw[bc] at a2;refine⟨zv,Z,?_⟩;rw[Nat.beq_eq,db] at a3;rw[<-a3];exact mY bb<|qt (Y:=Y) a2
 obtain⟨A,L,W⟩:=pj (P:=P) hi ac hx;obtain⟨xs,I,R⟩:=W n (nR_ _);rw[<-L,List.take_length] at I;have ao:xs.length=n*j.size:=by rw[I.length,L]
 have hrun0:=R w Z;have hrund:=R w.drew Z;split at h
 ·
  simp only[VR] at S;subst S;split at h
  ·rename_i E;rw[Nat.beq_eq] at E;cases h;subst E;refine⟨.slice none 0 0,w,Y,?_,by simp only[VR],hi,fb.refl _ _ _⟩;have:=run_append_fits (w:=w) (ty:=ty) (base:=none) (sLen:=0) (sCap:=0) Q hu hj hz A hrun0 (nR_ _);rw[this];rfl
  rename_i E;cases h
  have hn:0<n:=by
   grind [Nat.beq_eq]
  obtain⟨cap,G,hr⟩:=lk (w:=w) (ty:=ty) (base:=none) (sLen:=0) (sCap:=0) (olds:=[]) Q hu hj am hz A hrund (by simp[Builtin.firstCells]) oM oM ak T;rw[nA_] at G hr;obtain⟨inv,st,hv⟩:=mr (e:=e) hi (olds:=[]) (news:=xs) (by simpa using I) L G C
  grind
 ·
  rename_i b off len c;simp only[VR] at S;obtain⟨l,hl,rfl⟩:=S;split at h
  ·rename_i B;rw[nE_] at B;have hr:=nK (w:=w) (ty:=ty) (dz:=l.dz) (o:=l.sh+off) Q hu hj hz A hrun0 B;split at h
   ·rename_i cells e' hb;split at h
    ·rename_i d;rw[nE_,db,db] at d;cases h;obtain⟨w',r,inv,st⟩:=iI (P:=P) hi hl hb I K (off:=off+len*j.size) oM;refine⟨.slice (some ⟨l.dz,l.sh+off,none⟩) (len+n) c,w',Y,?_,?_,inv,st⟩
     ·rw[hr,Nat.add_assoc,r];rfl
     simp only[VR];simp_all
    cases h
   split at h
   ·rename_i E;rw[Nat.beq_eq] at E;cases h;subst E;refine⟨.slice (some ⟨l.dz,l.sh+off,none⟩) len c,w,Y,?_,?_,hi,fb.refl _ _ _⟩
    ·have ap:xs= []:=eN_ oM;rw[hr,ap];simp[storeCells]
    simp only[VR];simp_all
   cases h
  rename_i B;rw[nE_] at B;split at h
  ·rename_i cells e' ro hb;split at h
   ·rename_i d;simp only[bA_,nE_,db] at d;obtain⟨d,X⟩:=d;unfold grow at h;cases h;obtain⟨ys,h1,h2,h3⟩:=hi.piece hb hl off (len*j.size) d
    have hold:(Builtin.firstCells j.size len (.slice (some ⟨l.dz,l.sh+off,none⟩) len c)).run P w.drew= .ok ys.toArray w.drew:=
     run_firstCells_some w.drew j.size len _ len c ys h1 (fun i v hv=>by simpa using h3 i v hv)
    obtain⟨cap,G,hr⟩:=lk (w:=w) (ty:=ty) Q hu hj am hz A hrund hold oM oM ak T
    obtain⟨inv,st,hv⟩:=mr (e:=e) hi (olds:=ys) (news:=xs) (len:=len+n) (cs:=gS (takeN (eA cells off) (len*j.size)) news)
     (by rw[ep,ej,eN];exact h2.append I) (by grind [ep,ej,eN]) G C
    grind
   cases h
  cases h
 ·
  rename_i b off len sz;split at h
  ·rename_i E;rw[Nat.beq_eq] at E;cases h;subst E;have ap:xs= []:=eN_ oM;subst ap;have hs':=S;simp only[VR] at hs';obtain⟨l,hl,⟨c,hy,hc,_⟩ | ⟨h0,a,hy⟩⟩:=hs'
   ·refine⟨ys,w,Y,?_,S,hi,fb.refl _ _ _⟩;rw[hy,run_append_fits (w:=w) (ty:=ty) Q hu hj hz A hrun0 oM];simp[storeCells]
   refine⟨ys,w,Y,?_,S,hi,fb.refl _ _ _⟩;subst h0;rw[hy,run_append_fits (w:=w) (ty:=ty) Q hu hj hz A hrun0 oM];simp[storeCells]
  rename_i E
  have hn:0<n:=by
   grind [Nat.beq_eq]
  split at h
  ·rename_i N;simp only[bA_,Nat.beq_eq,nE_] at N;obtain⟨N,X⟩:=N;subst N;simp only[VR] at S;split at h
   ·rename_i cells e' hb;split at h
    ·
     rename_i d;simp only[bA_,nE_,db] at d;obtain⟨b0,d⟩:=d;cases h;obtain⟨l,hl,⟨c,rfl,hc,aa⟩ | ⟨h0,_⟩⟩:=S
     ·obtain⟨cc,fr,_,_,bd,_⟩:=hi.row hb hl
      have B:len+n<=c:=by
       have:(len+n)*j.size<=c*j.size:=by grind
       exact Nat.le_of_mul_le_mul_right this T
      have hr:=nK (w:=w) (ty:=ty) (dz:=l.dz) (o:=l.sh+off) Q hu hj hz A hrun0 B;obtain⟨w',r,inv,st⟩:=iI (P:=P) hi hl hb I K (off:=off+len*j.size) oM;refine⟨.slice (some ⟨l.dz,l.sh+off,none⟩) (len+n) c,w',Y,?_,?_,inv,st⟩
      ·rw[hr,Nat.add_assoc,r];rfl
      simp only[VR];simp_all
     omega
    split at h
    ·
     rename_i d;simp only[bA_,nE_,Nat.beq_eq,db] at d;obtain⟨d,he⟩:=d;subst he;unfold grow at h;cases h;obtain⟨l,hl,aE⟩:=S;obtain⟨olds,h1,h2,h3⟩:=hi.piece hb hl off (len*j.size) d;have a4:dA Y (gS (takeN (eA cells off) (len*j.size)) news) (olds++xs):=by rw[ep,ej,eN];exact h2.append I
     have be:(gS (takeN (eA cells off) (len*j.size)) news).length=(len+n)*j.size:=by
      grind [ep,ej,eN]
     have anew:∀(a:Addr) (c:Nat),ys= .slice (some a) len c->c<len+n->(a=⟨l.dz,l.sh+off,none⟩∨len=0)->
       ∃z w' Y',(Builtin.append_ ts ty #[ys,yx]).run P w= .ok z w'/\VR Y' (.slice (O.drop b).next 0 (len+n) (.upto j.size)) z/\
        Inv Y' ((O.drop b).alloc (.row (gS (takeN (eA cells off) (len*j.size)) news) e' false)) w'/\fb Y O w Y' ((O.drop b).alloc (.row (gS (takeN (eA cells off) (len*j.size)) news) e' false)) w':=by
      intro a c hy hlt ha;subst hy
      have hold:(Builtin.firstCells j.size len (.slice (some a) len c)).run P w.drew= .ok olds.toArray w.drew:=by
       rcases ha with rfl | rfl
       ·exact run_firstCells_some w.drew j.size len _ len c olds h1 (fun i v hv=>by simpa using h3 i v hv)
       have:olds= []:=eN_ (by rw[h1,Nat.zero_mul])
       grind [run_firstCells_some]
      obtain⟨cap,G,hr⟩:=lk (w:=w) (ty:=ty) Q hu hj am hz A hrund hold oM oM ak T;obtain⟨bf,st'⟩:=hi.forget b;obtain⟨inv,st,hv⟩:=mr (e:=e') bf (olds:=olds) (news:=xs) (len:=len+n) a4 be G C;exact⟨_,_,_,hr,hv,inv,st'.trans st⟩
     rcases aE with ⟨c,hy,hc,aa⟩ | ⟨h0,a,hy⟩
     ·by_cases B:len+n<=c
      ·
       subst hy;have hr:=nK (w:=w) (ty:=ty) (dz:=l.dz) (o:=l.sh+off) Q hu hj hz A hrun0 B;obtain⟨cc,fr,a5,bg,bd,b1,a9⟩:=hi.row hb hl;have hmul:(len+n)*j.size<=c*j.size:=nM_ _ B;have bi:(len+n)*j.size=len*j.size+n*j.size:=Nat.add_mul _ _ _
       have ar:=mJ (P:=P) (o:=l.sh+off+len*j.size) xs cc 0 w a5 oM (fun u hu=>by
        obtain⟨i,bl,bm⟩:=List.getElem_of_mem hu;have ab:i<news.length:=by omega
        obtain⟨y,M,a0⟩:=I.get (gC ab);rw[gC bl,bm] at M;cases M;exact lJ (l9 K _<|List.getElem_mem ab) a0) (fun jj bo=>a9 Z jj oM)
       obtain⟨w',r,bp,bq,bs,bt,bv,bw⟩:=ar
       have inv:=hi.CK (l':=⟨l.dz,l.sh+off,l.cells-off⟩) (cells':=gS (takeN (eA cells off) (len*j.size)) news) hb hl Z bp
        ⟨_,fr,Z,by simp[bg];omega,by grind,fun i v hv=>by
         obtain⟨y,M,a0⟩:=a4.get hv;refine⟨y,?_,a0⟩;rw[List.getElem?_toArray];dsimp only;have ba:cc.toList.length=l.sh+l.cells:=by omega
         have ab:i<(olds++xs).length:=(gA.1 M).1;rw[lA_,h1,ao] at ab
         by_cases bD:i<len*j.size
         ·rw[gL_ (by rw[h1];exact bD)] at M;have:=h3 i y M;rw[Addr.add_eq _ _ Z,cell?_of_heap a5] at this;rw[lQ_,gL_ (by grind),List.getElem?_take,if_pos oM,aT_];exact this
         rw[gR_ (by rw[h1];omega),h1] at M;rw[lQ_,gR_ (by grind),lT_,ba]
         grind,fun _ jj bo=>a9 Z jj (by grind)⟩
        bq bs bt bv bw
       refine⟨.slice (some ⟨l.dz,l.sh+off,none⟩) (len+n) c,w',_,?_,?_,inv.1,inv.2⟩
       ·rw[hr,r];rfl
       simp only[VR,aB.drop];refine⟨_,Ren.cZ _ _ _,.inl ⟨c,by simp,B,?_⟩⟩;simp only;omega
      simp_all
     simp_all
    cases h
   cases h
  cases h
 cases h
theorem oz {t R ty e:TypeId} {k:IntKind} {j:TypeInfo} {z:Value} (S:ts[0]? =some t) (hu:P.underlying t=some (.slice e)) (hj:P.info? e=some j) (hzero:j.zero=some z) (I:ts[1]? =some R) (hz:P.underlying R=some (.int k))
  {n:Nat} 
  (hold:(Builtin.firstCells j.size sLen (.slice base sLen sCap)).run P w.drew= .ok olds.toArray w.drew) (d:sCap<sLen+n) (K:sLen+n<=4194304) (u:n<=1048576) (L:1<=n) (A:j.bytes<=65536) (B:1<=j.size):
  ∃cap,sLen+n<=cap/\(Builtin.append_ ts ty #[.slice base sLen sCap,.int .i64<|Int.ofNat n]).run P w=
   .ok (.slice (some ⟨w.heap.size,0,none⟩) (sLen+n) cap) (w.drew.alloc (.cells (olds.toArray++(Builtin.zeroCells z.cells n).toList.toArray++Builtin.zeroCells z.cells (cap-(sLen+n))) e)):=by
 refine⟨grownCap w (sLen+n) sCap e,grownCap_ge _ _ _ _,?_⟩
 have aa:Builtin.nextslicecap (sLen+n) sCap*j.bytes<=281474976710656:=growslice_fits d (by
  have:(sLen+n)*j.bytes<=4194304*65536:=Nat.mul_le_mul K A;omega)
 have hn:¬(sLen+n<=sCap):=by omega
 have C:IntKind.i64.max=9223372036854775807:=by decide
 have h1:¬(9223372036854775807<((sLen:Int)+(n:Int))):=by omega
 have M:¬(281474976710656<Builtin.nextslicecap (sLen+n) sCap*j.bytes):=by omega
 have hw:IntKind.i64.wrap (n:Int)=(n:Int):=wx .i64 (Int.ofNat n) (by simp only[QM,nE_];omega);have E:¬((n:Int)<0):=by omega
 have G:¬(281474976710656<(n:Int)*(j.bytes:Int)):=by
  have:n*j.bytes<=1048576*65536:=Nat.mul_le_mul u A;omega
 have N:¬(n*j.size=0):=by
  have:1*1<=n*j.size:=Nat.mul_le_mul L B;omega
 have Q:¬(n=0∨j.size=0):=by omega
 rw[Array.append_assoc];simp[Builtin.append_,S,I,run_underlying hu,run_underlying hz,cT hj,typeInfo,hj,asInt,asIntOf,hw,E,G,hn,C,h1,M,hold,N,Q,zeroValue,hzero,newRow,Question.forced,grownCap]
theorem zM (hi:Inv Y O w) {ty:TypeId} {s x v:V} {ys:Value} {O':aB} (h:qS P O ts s x= .val v O') (R:VR Y s ys) (hx:VR Y x yx):
  ∃z w' Y',(Builtin.append_ ts ty #[ys,yx]).run P w= .ok z w'/\VR Y' v z/\Inv Y' O' w'/\fb Y O w Y' O' w':=by
 unfold qS at h;split at h
 case h_2=>cases h
 rename_i t t2 W I;split at h
 case h_2=>cases h
 rename_i e k hu hz;split at h
 case h_2=>cases h
 rename_i j zs n hj S;rw[bM] at h;split at h
 case isFalse=>cases h
 rename_i hb;simp only[bA_,nE_,Nat.beq_eq,db] at hb;obtain⟨B,K,C,L,G⟩:=hb;obtain⟨i,zv,M,hzero,N⟩:=gb S;rw[hj] at M;cases M;have E:zv.cells.size=zs.length:=by have:=(N Y).length;simpa using this
 have hts:=jW (N Y) n
 have A:(Builtin.zeroCells zv.cells n).toList=(List.replicate n zv.cells.toList).flatten:=by
  grind [wR,Builtin.zeroCells]
 rw[<-A] at hts;have T:(e9 zs n).length=n*j.size:=by rw[sn,G]
 simp only[VR] at hx;subst hx;split at h
 ·simp only[VR] at R;subst R;unfold grow at h;cases h;obtain⟨cap,u,X⟩:=oz (w:=w) (ty:=ty) (base:=none) (sLen:=0) (sCap:=0) (olds:=[]) W hu hj hzero I hz (by simp[Builtin.firstCells]) oM oM B K L C;rw[nA_] at u X;obtain⟨inv,st,hv⟩:=mr (e:=e) hi (olds:=[]) (news:=(Builtin.zeroCells zv.cells n).toList) (by simpa using hts) T u (E.trans G)
  grind
 ·rename_i b off len c;simp only[VR] at R;obtain⟨l,hl,rfl⟩:=R;rw[bM] at h;split at h
  ·cases h
  rename_i Q;rw[nE_] at Q;split at h
  ·rename_i cells e' ro hb;rw[bM] at h;split at h
   ·rename_i d;simp only[bA_,nE_,db] at d;obtain⟨d,aa⟩:=d;unfold grow at h;cases h;obtain⟨ys,h1,h2,h3⟩:=hi.piece hb hl off (len*j.size) d
    have hold:(Builtin.firstCells j.size len (.slice (some ⟨l.dz,l.sh+off,none⟩) len c)).run P w.drew= .ok ys.toArray w.drew:=
     run_firstCells_some w.drew j.size len _ len c ys h1 (fun i v hv=>by simpa using h3 i v hv)
    obtain⟨cap,u,X⟩:=oz (w:=w) (ty:=ty) W hu hj hzero I hz hold oM oM B K L C
    obtain⟨inv,st,hv⟩:=mr (e:=e) hi (olds:=ys) (news:=(Builtin.zeroCells zv.cells n).toList) (len:=len+n) (cs:=gS (takeN (eA cells off) (len*j.size))<|e9 zs n)
     (by rw[ep,ej,eN];exact h2.append hts) (by grind [ep,ej,eN]) u<|E.trans G
    grind
   cases h
  cases h
 cases h
end
variable {xs:Array Value}
section
variable {P:Program} {Y:Ren} {O:aB} {w:World}
theorem xm:∀{l:List V},(∀v∈l,eB v=true)->cM l=true
 | [],_=>rfl
 | x::l,h=>by
  show(bif eB x then cM l else false)=true;rw[h x (by simp),xm fun v hv=>h v (by simp[hv])];rfl
theorem F5 (hi:Inv Y O w) {ty:TypeId} {s x v:V} {ys:Value} {O':aB} (h:vL P O ts s x= .val v O') (L:VR Y s ys) (hx:VR Y x yx):
  ∃z w' Y',(Builtin.copy_ ts ty #[ys,yx]).run P w= .ok z w'/\VR Y' v z/\Inv Y' O' w'/\fb Y O w Y' O' w':=by
 unfold vL at h;cases K:ts[0]? with
 | none=>rw[K] at h;cases h
 | some t=>
 rw[K] at h;dsimp only at h;split at h
 case h_2=>cases h
 rename_i e hu;cases hj:P.info? e with
 | none=>rw[hj] at h;cases h
 | some j=>
 rw[hj] at h;dsimp only at h;split at h
 ·rename_i n news b off len cap B;obtain⟨d,I,A⟩:=pj (P:=P) hi B hx;obtain⟨xs,G,u⟩:=A (Nat.min n len) (Nat.min_le_left _ _);simp only[bM] at h;split at h
  ·rename_i h0;rw[Nat.beq_eq] at h0;cases h;rw[h0,Nat.zero_mul] at G;rw[h0] at u;have M:xs= []:=by have:=G.length;simpa using this
   subst M;obtain⟨a,c,rfl⟩:=VR.jA L;have hr:=u w Z;refine⟨.int .i64 0,w,Y,?_,by simp only[VR],hi,fb.refl _ _ _⟩;simp[Builtin.copy_,K,run_underlying hu,d,cT hj,h0,hr,goInt,storeCells]
  rename_i h0;rw[Nat.beq_eq] at h0;split at h
  ·rename_i cells e' hb;split at h
   ·rename_i N;simp only[bA_,nE_,db] at N;obtain⟨⟨C,aa⟩,E⟩:=N;cases h;rw[ej] at E C
    have go:∀(l:Loc) (c:Nat),Y b=some l->ys= .slice (some ⟨l.dz,l.sh+off,none⟩) len c->
      ∃z w' Y',(Builtin.copy_ ts ty #[ys,yx]).run P w= .ok z w'/\VR Y' (.int .i64<|Int.ofNat<|Nat.min n len) z/\
       Inv Y' (O.setObj b (.row (dJ (takeN news (Nat.min n len*j.size)) cells off) e' false)) w'/\fb Y O w Y' (O.setObj b (.row (dJ (takeN news (Nat.min n len*j.size)) cells off) e' false)) w':=by
     intro l c hl hy;rw[ej];obtain⟨w',r,inv,st⟩:=iI (P:=P) hi hl hb G C (off:=off) E;refine⟨.int .i64<|Int.ofNat<|Nat.min n len,w',Y,?_,by simp only[VR],inv,st⟩;subst hy;have hr:=u w Z;simp[Builtin.copy_,K,run_underlying hu,d,cT hj,hr,r,goInt]
    cases cap with
    | known c=>
     grind [VR]
    | least a sz=>
     grind [VR]
    | upto sz=>
     grind [VR]
   cases h
  cases h
 ·rename_i n news B;cases h;obtain⟨d,I,A⟩:=pj (P:=P) hi B hx;obtain⟨xs,G,u⟩:=A 0 (Nat.zero_le _);simp only[VR] at L;subst L;refine⟨.int .i64 0,w,Y,?_,by simp only[VR],hi,fb.refl _ _ _⟩;have hr:=u w Z;simp[Builtin.copy_,K,run_underlying hu,d,cT hj,hr,goInt]
 cases h
theorem DU (hi:Inv Y O w) {ty:TypeId} {x:V} {ys:Value} {O':aB} (h:BP P O ts x=some O') (B:VR Y x ys):
  ∃w',(Builtin.clear_ ts ty #[ys]).run P w= .ok (.tuple #[]) w'/\Inv Y O' w'/\fb Y O w Y O' w':=by
 unfold BP at h;cases C:ts[0]? with
 | none=>rw[C] at h;cases h
 | some t=>
 rw[C] at h;dsimp only at h;cases hu:P.underlying t with
 | none=>rw[hu] at h;cases h
 | some d=>
 rw[hu] at h;cases d with
 | slice e=>
  dsimp only at h;cases x with
  | av=>
   cases h;simp only[VR] at B;subst B;exact⟨w,by simp[Builtin.clear_,C,run_underlying hu],hi,fb.refl _ _ _⟩
  | slice b off len cap=>
   dsimp only at h;rw[bM] at h;split at h
   ·rename_i h0;have:=nB h0;subst this;cases h;obtain⟨a,c,rfl⟩:=VR.jA B;exact⟨w,by simp[Builtin.clear_,C,run_underlying hu],hi,fb.refl _ _ _⟩
   rename_i h0;rw[Nat.beq_eq] at h0;cases hz:(fJ P e).bind cG with
   | none=>rw[hz] at h;cases h
   | some zs=>
   rw[hz] at h;cases hb:O.m.get b with
   | none=>rw[hb] at h;cases h
   | some o=>
   rw[hb] at h;cases o with
   | row cells e' ro=>
    cases ro with
    | true=>cases h
    | false=>
     dsimp only at h;rw[bM] at h;split at h
     ·rename_i I;simp only[bA_,nE_,db] at I;obtain⟨⟨z,aa⟩,A⟩:=I;cases h;obtain⟨i,zv,G,hzero,E⟩:=gb hz;have hts:=jW (E Y) len;have ab:zv.cells.size=zs.length:=by have:=(E Y).length;simpa using this
      have u:(Builtin.zeroCells zv.cells len).toList=(List.replicate len zv.cells.toList).flatten:=by
       grind [wR,Builtin.zeroCells]
      have go:∀(l:Loc) (c:Nat),Y b=some l->ys= .slice (some ⟨l.dz,l.sh+off,none⟩) len c->
        ∃w',(Builtin.clear_ ts ty #[ys]).run P w= .ok (.tuple #[]) w'/\Inv Y (O.setObj b (.row (dJ (e9 zs len) cells off) e' false)) w'/\fb Y O w Y (O.setObj b (.row (dJ (e9 zs len) cells off) e' false)) w':=by
       intro l c hl hy;subst hy;obtain⟨w',r,inv,st⟩:=iI (P:=P) hi hl hb hts z A;refine⟨w',?_,inv,st⟩;cases len with
       | zero=>exact absurd Z h0
       | succ n=>simp[Builtin.clear_,C,run_underlying hu,zeroValue,typeInfo,G,hzero,u,r]
      cases cap with
      | known c=>
       simp only[VR] at B
       grind
      | upto sz=>
       simp only[VR] at B
       grind
      | least a sz=>
       simp only[VR] at B
       grind
     cases h
   | _=>cases h
  | _=>cases h
 | _=>cases h
theorem yz {g:Nat} {args:Array Value} (h:lI P g=true):(callFunc g args).run P w= .ok (.enter g args) w:=by
 unfold lI at h;cases hf:P.funcs[g]? with
 | none=>rw[hf] at h;cases h
 | some fn=>
  rw[hf] at h;simp only[bA_,Bool.not_eq_true'] at h;obtain⟨h1,z⟩:=h;have h3:fn.body.isNone=false:=by simp_all
  have d:¬fn.name= "runtime.NumGoroutine" :=by simpa using z
  have u:¬fn.body=none:=by grind
  simp[callFunc,hf,d,u]
inductive zK (P:Program) (Y:Ren) (O:aB) (w:World):HR->Result Next->Prop
 | val {v:V} {O':aB} {x:Value} {w':World} {Y':Ren} (hv:VR Y' v x) (hi:Inv Y' O' w') (st:fb Y O w Y' O' w'):zK P Y O w (.val v O') (.ok (.value x) w')
 | skip {O':aB} {w':World} {Y':Ren} (hi:Inv Y' O' w') (st:fb Y O w Y' O' w'):zK P Y O w (.skip O') (.ok .skip w')
 | enter {f:Nat} {args:List V} {xs:Array Value} (hv:dA Y args xs.toList):zK P Y O w (.enter f args O) (.ok (.enter f xs) w)
 | round {l:Pos} {args:List V} {xs:Array Value} {loc:Loc} {r:Result Next} (hv:dA Y args xs.toList) (hl:Y l=some loc) (hr:r=(Instr.yield loc.dz xs).run P w):zK P Y O w (.round l args O) r
 | kE {v:V} {x:Value} (hv:VR Y v x):zK P Y O w (.kE v O) (.halt (.panic x) w)
def UZ (P:Program) (g:Nat):Prop:=∃(fn:Func) (ts tr e:TypeId) (j:TypeInfo),P.funcs[g]? =some fn∧(fn.name == "runtime.NumGoroutine")=false∧fn.body.isNone=true∧Extern.findNext fn=none∧
 Extern.find fn=some (Extern.SlicesOverlaps.overlaps #[ts,ts] #[tr])/\P.underlying ts=some (.slice e)/\P.info? e=some j
def Wx (P:Program) (g:Nat):Prop:=∃(fn:Func),P.funcs[g]? =some fn∧(fn.name == "runtime.NumGoroutine")=false∧fn.body.isNone=true∧Extern.findNext fn=none∧Extern.find fn=some Extern.AbiNoEscape.same
def xf (P:Program) (g:Nat):Prop:=(isNe P g=false/\UZ P g)∨(isNe P g=true/\Wx P g)
theorem pf (p:Pos):ud p p=true:=Nat.beq_refl p
theorem VR.wi {b:Pos} {off len:Nat} {cap:rK} {x:Value} (d:nW cap=true) (h:VR Y (.slice b off len cap) x):∃l c,Y b=some l/\x= .slice (some ⟨l.dz,l.sh+off,none⟩) len c:=by
 cases cap with
 | upto sz=>simp[nW] at d
 | known c=>simp only[VR] at h;grind
 | least a sz=>simp only[VR] at h;grind
theorem yU (hi:Inv Y O w) {g:Nat} {args:List V} {v:V} (L:UZ P g) (h:rm O args=some v) (hx:dA Y args xs.toList):∃x,(callFunc g xs).run P w= .ok (.value x) w/\VR Y v x:=by
 obtain⟨fn,ts,tr,e,j,g1,M,N,Q,R,S,T⟩:=L;unfold rm at h;split at h
 ·rename_i b off n cap b' off' n' cap';split at h
  ·rename_i cells e1 cells' e2 hb d;cases A:((bif ud b b' then false else true) && (nW cap && (nW cap' && Nat.ble 1 (dU cells')))) with
   | false=>rw[A] at h;cases h
   | true=>
    rw[A] at h;simp only[cond_true,oJ_] at h;subst h;simp only[bA_,nE_,db] at A;obtain⟨hne,B,C,hlen⟩:=A;have u:b≠b':=fun e=>by subst e;rw[pf] at hne;simp at hne
    obtain⟨x1,r,e',h1,W⟩:=hx.cons_inv;obtain⟨x2,r',rfl,X,h4⟩:=W.cons_inv;have:=h4.eK;subst this;obtain⟨l,c,hl,rfl⟩:=VR.wi B h1;obtain⟨l',c',z,rfl⟩:=VR.wi C X;have E:xs= #[.slice (some ⟨l.dz,l.sh+off,none⟩) n c,.slice (some ⟨l'.dz,l'.sh+off',none⟩) n' c']:=by grind
    obtain⟨k,fr,G,k2,k3,k4,K⟩:=hi.row hb hl;obtain⟨k',fr',I,aa,ab,ac,ak⟩:=hi.row d z
    have hblk:l.dz≠l'.dz:=fun e=>by
     have:=(hi.inj b b' _ _ l l' hb d hl z e u).1;cases this
    refine⟨.bool false,?_,by simp only[VR]⟩;rw[run_callFunc_extern g1 M N Q R,E]
    rw[Lib.run_overlaps_apart w ts tr e S j.size (fun w=>cT T) ⟨l.dz,l.sh+off,none⟩ ⟨l'.dz,l'.sh+off',none⟩ n c n' c' hblk e1 e2 k.size k'.size
     (by simp[World.shape?,G]) (by simp[World.shape?,I]) oM (frozen?_of_heap G _<|K Z _ oM) (frozen?_of_heap G _<|K Z _ oM)]
    rfl
  cases h
 cases h
theorem KW {ov:Nat->Bool} (E:∀g,ov g=true->xf P g) (hi:Inv Y O w) {g:V} {args:List V} {r:HR} (h:Ah P ov O g args=r) (hne:∀n,r≠ .err n) (A:VR Y g y) (hx:dA Y args xs.toList):
  zK P Y O w r ((do let d <-Deferred.ofValue y xs;invoke d.target d.args:Sem Next).run P w):=by
 subst h;unfold Ah at hne⊢;cases g with
 | func f fi ca=>
  dsimp only at hne⊢;cases C:lI P f with
  | false=>
   rw[C] at hne;simp only[cond_false] at hne⊢;cases I:ov f with
   | false=>simp_all
   | true=>
    rw[I] at hne;simp only[cond_true] at hne⊢;cases hn:isNe P f with
    | true=>
     rw[hn] at hne;simp only[cond_true] at hne⊢;simp only[VR] at A;obtain⟨fi',ca',rfl,u,z⟩:=A;have B:dA Y (gS fi<|gS args ca) (fi'++xs++ca').toList:=by rw[ep,ep];simpa using u.append (hx.append z)
     generalize gS fi (gS args ca)=l at hne B⊢;cases l with
     | nil=>simp_all
     | cons v r=>
      cases r with
      | cons _ _=>simp_all
      | nil=>
       dsimp only;obtain⟨x,r',e,h1,N⟩:=B.cons_inv;have:=N.eK;subst this;have K:fi'++xs++ca'= #[x]:=by simp_all
       rcases E f I with ⟨h',_⟩ | ⟨_,fn,g1,Q,R,S,T⟩
       ·simp_all
       have L:(callFunc f (fi'++xs++ca')).run P w= .ok (.value x) w:=by
        rw[run_callFunc_extern g1 Q R S T,K,Lib.run_noEscape];rfl
       have:(do let d <-Deferred.ofValue (.func (.func f) fi' ca') xs;invoke d.target d.args:Sem Next).run P w= .ok (.value x) w:=by
        grind [Deferred.ofValue,invoke]
       rw[this];exact .val h1 hi<|fb.refl Y O w
    | false=>
    rw[hn] at hne;simp only[cond_false] at hne⊢
    have G:UZ P f:=by
     rcases E f I with ⟨_,h'⟩ | ⟨h',_⟩
     ·exact h'
     simp_all
    cases hq:rm O (gS fi<|gS args ca) with
    | none=>simp_all
    | some v=>
     simp only[VR] at A;obtain⟨fi',ca',rfl,u,z⟩:=A;obtain⟨x,L,M⟩:=yU (xs:=fi'++xs++ca') hi G hq (by rw[ep,ep];simpa using u.append (hx.append z))
     have:(do let d <-Deferred.ofValue (.func (.func f) fi' ca') xs;invoke d.target d.args:Sem Next).run P w= .ok (.value x) w:=by
      grind [Deferred.ofValue,invoke]
     rw[this];exact .val M hi<|fb.refl Y O w
  | true=>
   rw[C] at hne;simp only[VR] at A;obtain⟨fi',ca',rfl,u,z⟩:=A;simp only[cond_true]
   have:(do let d <-Deferred.ofValue (.func (.func f) fi' ca') xs;invoke d.target d.args:Sem Next).run P w= .ok (.enter f (fi'++xs++ca')) w:=by
    simp[Deferred.ofValue,invoke,yz C]
   rw[this,ep,ep];exact .enter (by simpa using u.append (hx.append z))
 | yield l=>
  dsimp only at hne⊢;simp only[VR] at A;obtain⟨loc,hl,rfl⟩:=A;exact .round hx hl (by simp[Deferred.ofValue,invoke])
 | _=>simp_all
end
variable {es:List eP} {clock:Nat}
section
variable {P:Program} {Y:Ren} {O:aB} {w:World}
def mC:TypeDesc->Bool
 | .int _ | .string | .bool=>true
 | _=>false
def IY (P:Program) (u:TypeId):Prop:=(∃d,P.underlying u=some d/\mC d=true)∨(∃gs,P.underlying u=some (.struct gs)/\∀g∈gs.toList,∃d,P.underlying g.type=some d/\mC d=true)∨∃m e,P.underlying u=some (.array m e)/\sT P e=true
theorem qz {t:TypeId} (h:plainKey P t=true):(∃d,P.underlying t=some d/\mC d=true)∨∃fs,P.underlying t=some (.struct fs)/\∀f∈fs.toList,IY P f.type:=by
 unfold plainKey at h;split at h
 ·rename_i k hu;exact .inl ⟨_,hu,Z⟩
 ·rename_i hu;exact .inl ⟨_,hu,Z⟩
 ·rename_i hu;exact .inl ⟨_,hu,Z⟩
 ·rename_i fs hu;refine .inr ⟨fs,hu,fun f hf=>?_⟩;rw[aE_] at h;have:=h f hf;split at this
  ·rename_i k u;exact .inl ⟨_,u,Z⟩
  ·rename_i u;exact .inl ⟨_,u,Z⟩
  ·rename_i u;exact .inl ⟨_,u,Z⟩
  ·rename_i gs u;refine .inr (.inl ⟨gs,u,fun g A=>?_⟩);rw[aE_] at this;have:=this g A;split at this
   ·rename_i k z;exact⟨_,z,Z⟩
   ·rename_i z;exact⟨_,z,Z⟩
   ·rename_i z;exact⟨_,z,Z⟩
   cases this
  ·rename_i m e u;exact .inr (.inr ⟨m,e,u,this⟩)
  cases this
 cases h
theorem jI {t:TypeId} {d:TypeDesc} (hu:P.underlying t=some d) (hd:mC d=true) (em:Bool) (n:Nat) (a:Value):(Instr.checkKey em (n+1) t a).run P w= .ok () w:=by
 simp only[Instr.checkKey,sB_,run_underlying hu,rA];cases d<;>first | (simp[mC] at hd;done) | rfl
theorem rX {t:TypeId} (hu:P.underlying t=some (.struct fs)) (em:Bool) (n:Nat)
  (h:∀f∈fs.toList,∃y,(part f.type ys f.offset).run P w= .ok y w/\(Instr.checkKey em (n+1) f.type y).run P w= .ok () w):(Instr.checkKey em (n+1+1) t (.agg ys)).run P w= .ok () w:=by
 rw[Instr.checkKey];simp only[sB_,run_underlying hu,rA];rw[<-Array.forIn_toList];clear hu;generalize fs.toList=l at*;induction l with
 | nil=>simp
 | cons f l ih=>
  obtain⟨y,aa,ab⟩:=h f (by simp)
  simp_all
theorem zN {t e:TypeId} {m:Nat} {cs:Array Value} {i:TypeInfo} {k:IntKind} (hu:P.underlying t=some (.array m e)) (he:P.underlying e=some (.int k)) (hi:P.info? e=some i) (d:i.size=1) (hl:m<=cs.size) (em:Bool) (n:Nat):
  (Instr.checkKey em (n+1+1) t (.agg cs)).run P w= .ok () w:=by
 rw[Instr.checkKey];simp only[sB_,run_underlying hu,rA];simp only[Std.Legacy.Range.forIn_eq_forIn_range',Std.Legacy.Range.size,Nat.sub_zero,Nat.add_one_sub_one,Nat.div_one]
 have key:∀(l:Nat) (s:Nat),s+l<=cs.size->(forIn (List.range' s l) PUnit.unit fun i (_:PUnit)=>(do
   let z <-sizeOf e
   let v <-part e cs (i*z)
   Instr.checkKey em (n+1) e v
   pure (ForInStep.yield PUnit.unit):Sem (ForInStep PUnit))).run P w= .ok PUnit.unit w:=by
  intro l;induction l with
  | zero=>intro s _;simp
  | succ l ih=>
   intro s aa;have hv:cs[s]? =some cs[s]:=aG_ oM
   have p:(part e cs (s*1)).run P w= .ok cs[s] w:=by
    rw[Nat.mul_one];simp only[part,sB_,fC he,Dx,rA,zi_,if_false,hv,sP_]
   simp only[List.range'_succ,List.forIn_cons,sB_,cT hi,d,p,rA,jI he Z,sP_]
   grind
 simp_all
theorem pD {u:TypeId} {d:TypeDesc} (hu:P.underlying u=some d) (hd:mC d=true) {xs:List V} (z:dA Y xs ys.toList) {off:Nat} (C:(nth xs off).isSome=true):∃y,(part u ys off).run P w= .ok y w:=by
 obtain⟨v,hv⟩:=ze_.1 C;rw[fY] at hv;obtain⟨y,hy,_⟩:=z.get hv;have A:ys[off]? =some y:=by simp_all
 have B:Dx d=false:=by cases d<;>first | rfl | (simp[mC] at hd)
 exact⟨y,by simp only[part,sB_,fC hu,B,rA,zi_,if_false,A,sP_]⟩
theorem me {t:TypeId} {k:V} {a:Value} (hp:plainKey P t=true) (G:jP P t k=true) (hk:VR Y k a) (em:Bool):(Instr.checkKey em 10000 t a).run P w= .ok () w:=by
 rcases qz hp with ⟨d,hu,hd⟩ | ⟨fs,hu,K⟩
 ·exact jI hu hd em 9999 a
 unfold jP at G;rw[hu] at G;cases k<;>(try (simp at G;done));rename_i xs;dsimp only at G;simp only[VR] at hk;obtain⟨ys,rfl,B⟩:=hk;refine rX hu em 9998 fun f hf=>?_
 rw[aE_] at G;have hsf:=G f hf;rcases K f hf with ⟨d,u,C⟩ | ⟨gs,u,L⟩ | ⟨m,e,u,M⟩
 ·have:(nth xs f.offset).isSome=true:=by
   rw[u] at hsf;cases d<;>first | exact hsf | (simp[mC] at C)
  obtain⟨y,hy⟩:=pD (P:=P) (w:=w) u C B this;exact⟨y,hy,jI u C em 9998 y⟩
 ·rw[u] at hsf;dsimp only at hsf;split at hsf
  ·rename_i n E;obtain⟨c,r,v⟩:=gY (P:=P) (w:=w) E B (off:=f.offset);refine⟨.agg c,r,rX u em 9997 fun g Q=>?_⟩;rw[aE_] at hsf;obtain⟨d,z,A⟩:=L g Q;obtain⟨y,hy⟩:=pD (P:=P) (w:=w) z A v (hsf g Q);exact⟨y,hy,jI z A em 9997 y⟩
  cases hsf
 rw[u] at hsf;dsimp only at hsf;split at hsf
 ·rename_i n E;rw[bA_,Nat.beq_eq,Nat.beq_eq,db] at hsf;obtain⟨k,inf,he,I,N⟩:=yy M;obtain⟨c,r,v⟩:=gY (P:=P) (w:=w) E B (off:=f.offset);have hcl:=v.length;exact⟨.agg c,r,zN u he I N (by rw[hsf.2] at hcl;have:c.toList.length=c.size:=rfl;omega) em 9997⟩
 cases hsf
theorem JI {t:TypeId} {d:TypeDesc} (hu:P.underlying t=some d) (hd:mC d=true) {x y:V} {a c:Value} {b:Bool} (h:kV P t x y=some b) (hx:VR Y x a) (hy:VR Y y c):Instr.sameNow d a c=some b:=by
 unfold kV at h;rw[hu] at h;split at h
 ·rename_i u z A q j m k n e;cases e;cases hk:uE j k with
  | false=>rw[hk] at h;cases h
  | true=>
   rw[hk] at h;have:=pX hk;subst this;simp only[VR] at hx hy;subst hx;subst hy;simp only[cond_true,oJ_] at h;rw[<-h,cK];simp only[Instr.sameNow,if_true,oJ_]
   grind
 ·rename_i u z A s s' e;cases e;simp only[VR] at hx hy;obtain⟨p,rfl,hp⟩:=hx;obtain⟨q,rfl,hq⟩:=hy
  grind [Instr.sameNow,oG,beq_toListBytes]
 ·rename_i u z A s s' e;cases e;simp only[VR] at hx hy;subst hx;subst hy;cases h;simp only[Instr.sameNow,oJ_,pW]
 ·grind [mC]
 cases h
theorem Gt {t:TypeId} (hu:P.underlying t=some (.struct fs)) {x y:V} {a c:Value} {b:Bool} (h:kV P t x y=some b) (hx:VR Y x a) (hy:VR Y y c):(Op.equal t a c).run P w= .ok b w:=by
 unfold kV at h;rw[hu] at h;split at h
 ·rename_i e;cases e
 ·rename_i e;cases e
 ·rename_i e;cases e
 ·exact(pY (P:=P) (w:=w) h hx hy .eql (.const .nilFunc) (.const .nilFunc)).2
 cases h
def FH (Y:Ren):Option (Nat×V)->Option (Nat×Value)->Prop
 | none,none=>True
 | some (i,v),some (j,y)=>i=j/\VR Y v y
 | _,_=>False
theorem r5 {t:TypeId} {d:TypeDesc} (hu:P.underlying t=some d) (hd:mC d=true) {k:V} {a:Value} (hk:VR Y k a):∀(es:List eP) (ys:List MapEntry) (i:Nat) (r:Option (Nat×V)),jZ Y es ys->nh P t k es i=some r->
  ∃r',Instr.findNow d a ys i=some r'/\FH Y r r'
 | [],ys,i,r,he,h=>by
  have:ys= []:=he;subst this;have h':some none=some r:=h;cases h';exact⟨none,Z,trivial⟩
 | e::es,ys,i,r,he,h=>by
  obtain⟨y,rest,rfl,h1,u,h3,z⟩:=he
  have h':(match kV P t k e.key with
   | some true=>some (some (i,e.val))
   | some false=>nh P t k es (Nat.succ i)
   | none=>none)=some r:=h
  cases hq:kV P t k e.key with
  | none=>rw[hq] at h';cases h'
  | some b=>
   rw[hq] at h';have hs:=JI hu hd hq hk h1;cases b with
   | true=>cases h';exact⟨some (i,y.val),by simp[Instr.findNow,hs],Z,u⟩
   | false=>
    obtain⟨r',g1,A⟩:=r5 hu hd hk es rest (i+1) r z h';exact⟨r',by simp[Instr.findNow,hs,g1],A⟩
theorem r4 {t:TypeId} {fs:Array Field} (hu:P.underlying t=some (.struct fs)) {k:V} {a:Value} (hk:VR Y k a):∀(es:List eP) (ys:List MapEntry) (i:Nat) (r:Option (Nat×V)),jZ Y es ys->nh P t k es i=some r->
  ∃r',(Instr.findAsking t a ys i).run P w= .ok r' w/\FH Y r r'
 | [],ys,i,r,he,h=>by
  have:ys= []:=he;subst this;have h':some none=some r:=h;cases h';exact⟨none,Z,trivial⟩
 | e::es,ys,i,r,he,h=>by
  obtain⟨y,rest,rfl,h1,d,h3,u⟩:=he
  have h':(match kV P t k e.key with
   | some true=>some (some (i,e.val))
   | some false=>nh P t k es (Nat.succ i)
   | none=>none)=some r:=h
  cases hq:kV P t k e.key with
  | none=>simp_all
  | some b=>
   rw[hq] at h';have hs:=Gt (w:=w) hu hq hk h1;cases b with
   | true=>cases h';exact⟨some (i,y.val),by simp[Instr.findAsking,hs],Z,d⟩
   | false=>
    obtain⟨r',g1,z⟩:=r4 hu hk es rest (i+1) r u h';exact⟨r',by simp[Instr.findAsking,hs,g1],z⟩
theorem mi {t:TypeId} (hp:plainKey P t=true) {k:V} {a:Value} (hk:VR Y k a) {ys:List MapEntry} {r:Option (Nat×V)} (he:jZ Y es ys) (h:nh P t k es 0=some r):
  ∃r',(Instr.findKey t a ys).run P w= .ok r' w/\FH Y r r':=by
 rcases qz hp with ⟨d,hu,hd⟩ | ⟨fs,hu,aa⟩
 ·obtain⟨r',h1,u⟩:=r5 hu hd hk es ys 0 r he h;exact⟨r',by simp[Instr.findKey,run_underlying hu,h1],u⟩
 cases hn:Instr.findNow (.struct fs) a ys 0 with
 | none=>
  obtain⟨r',h1,u⟩:=r4 (w:=w) hu hk es ys 0 r he h;exact⟨r',by simp[Instr.findKey,run_underlying hu,hn,h1],u⟩
 | some r0=>
  cases es with
  | nil=>
   have:ys= []:=he;subst this;have h':some none=some r:=h;cases h';exact⟨none,by simp[Instr.findKey,run_underlying hu,Instr.findNow],trivial⟩
  | cons e es=>
   obtain⟨y,rest,rfl,h1,_⟩:=he
   grind [Instr.sameNow,Instr.findNow]
theorem jZ.length:∀{es:List eP} {ys:List MapEntry},jZ Y es ys->ys.length=es.length
 | [],ys,h=>by have:ys= []:=h;rw[this];rfl
 | e::es,ys,h=>by obtain⟨y,r,rfl,_,_,_,d⟩:=h;simp[d.length]
theorem jZ.get:∀{es:List eP} {ys:List MapEntry},jZ Y es ys->∀{i:Nat} {e:eP},es[i]? =some e->∃y,ys[i]? =some y/\VR Y e.key y.key/\VR Y e.val y.val/\y.born=e.born
 | [],ys,h,i,e,he=>by simp at he
 | e::es,ys,h,0,e',he=>by
  obtain⟨y,r,rfl,h1,u,z,d⟩:=h
  simp_all
 | e::es,ys,h,i+1,e',he=>by
  obtain⟨y,r,rfl,h1,u,z,d⟩:=h;simp at he;simpa using d.get he
theorem jZ.append:∀{es fs:List eP} {ys zs:List MapEntry},jZ Y es ys->jZ Y fs zs->jZ Y (es++fs) (ys++zs)
 | [],fs,ys,zs,h,h'=>by have:ys= []:=h;subst this;exact h'
 | e::es,fs,ys,zs,h,h'=>by
  obtain⟨y,r,rfl,h1,d,u,z⟩:=h;exact⟨y,r++zs,Z,h1,d,u,z.append h'⟩
theorem jZ.set:∀{es:List eP} {ys:List MapEntry},jZ Y es ys->∀(i:Nat) {e:eP} {y:MapEntry},VR Y e.key y.key->VR Y e.val y.val->y.born=e.born->jZ Y (es.set i e) (ys.set i y)
 | [],ys,h,i,_,_,_,_,_=>by have:ys= []:=h;simp_all
 | e::es,ys,h,0,_,_,d,u,z=>by
  obtain⟨y,r,rfl,h1,B,C,A⟩:=h;exact⟨_,r,Z,d,u,z,A⟩
 | e::es,ys,h,i+1,_,_,d,u,z=>by
  obtain⟨y,r,rfl,h1,B,C,A⟩:=h;exact⟨y,_,Z,h1,B,C,A.set i d u z⟩
theorem jZ.erase:∀{es:List eP} {ys:List MapEntry},jZ Y es ys->∀(i:Nat),jZ Y (es.eraseIdx i) (ys.eraseIdx i)
 | [],ys,h,i=>by have:ys= []:=h;simp_all
 | e::es,ys,h,0=>by obtain⟨y,r,rfl,h1,u,z,d⟩:=h;exact d
 | e::es,ys,h,i+1=>by
  obtain⟨y,r,rfl,h1,u,z,d⟩:=h;exact⟨y,_,Z,h1,u,z,d.erase i⟩
theorem Inv.yG (hi:Inv Y O w) {b:Pos} {l:Loc} (d:O.m.get b=some (.map es clock)) (hl:Y b=some l):∃es',w.heap[l.dz]? =some (.map es' clock)/\jZ Y es es'.toList:=by
 obtain⟨x,hx,es',rfl,h2⟩:=hi.obj b _ l d hl
 simp_all
theorem run_getObj_map {r:Nat} {es:Array MapEntry} (h:w.heap[r]? =some (.map es clock)):(getObj r).run P w= .ok (.map es clock) w:=by
 simp[getObj,Sem.run,h]
theorem Cs (hi:Inv Y O w) {ev:Operand->Option V} {f:Operand->Value} {t:TypeId} {i:Operand} {ok:Bool} {v:V} (hx:∀u,ev x=some u->VR Y u (f x)) (hk:∀u,ev i=some u->VR Y u (f i))
  (h:gE P ev O (.lookup t x i ok)=some v):∃z,(Instr.lookup t (f x) (f i) ok).run P w= .ok z w/\VR Y v z:=by
 simp only[gE] at h;split at h
 ·rename_i kt et k hu E;simp only[bM] at h;split at h
  ·rename_i A;rw[bA_] at A;obtain⟨hp,G⟩:=A;have hkv:=hk _ E
   have main:∀(es:List eP) (ys:Array MapEntry),jZ Y es ys.toList->
     (match nh P kt k es 0,fJ P et with
      | some (some (_,v)),some _=>some (if ok=true then V.tuple [v,.bool true] else v)
      | some none,some z=>some (if ok=true then V.tuple [z,.bool false] else z)
      | _,_=>none)=some v->
     (Instr.checkKey ys.isEmpty 10000 kt<|f i).run P w= .ok () w/\∃r',(Instr.findKey kt (f i) ys.toList).run P w= .ok r' w/\
      ((∃j y,r'=some (j,y)/\VR Y v (if ok=true then .tuple #[y,.bool true] else y))∨
       (r'=none/\∃xz,(zeroValue et).run P w= .ok xz w/\VR Y v (if ok=true then .tuple #[xz,.bool false] else xz))):=by
    intro es ys he hh;have hck:=me (w:=w) hp G hkv ys.isEmpty;cases hf:nh P kt k es 0 with
    | none=>simp_all
    | some r=>
     obtain⟨r',g1,I⟩:=mi (w:=w) hp hkv he hf;cases hz:fJ P et with
     | none=>simp_all
     | some zz=>
      rw[hf,hz] at hh;obtain⟨iz,xz,K,hzero,B⟩:=qP hz;cases r with
      | some p=>
       obtain⟨j,u⟩:=p;cases r' with
       | none=>exact I.elim
       | some q=>
        obtain⟨j',y⟩:=q;obtain⟨_,hy⟩:=I;refine⟨hck,_,g1,.inl ⟨j',y,Z,?_⟩⟩;cases hh;cases ok with
        | true=>
         simp only[if_true,VR];exact⟨_,Z,dA.cons hy<|dA.cons (by simp only[VR]) dA.nil⟩
        | false=>simpa using hy
      | none=>
       cases r' with
       | some q=>exact I.elim
       | none=>
        have L:(zeroValue et).run P w= .ok xz w:=by simp[zeroValue,typeInfo,K,hzero]
        refine⟨hck,_,g1,.inr ⟨Z,xz,L,?_⟩⟩;cases hh;cases ok with
        | true=>
         simp only[if_true,VR];exact⟨_,Z,dA.cons (B Y)<|dA.cons (by simp only[VR]) dA.nil⟩
        | false=>simpa using B Y
   cases C:ev x with
   | none=>simp_all
   | some m=>
    rw[C] at h;have hmv:=hx m C;cases m with
    | iw=>
     simp only[VR] at hmv;dsimp only at h;obtain⟨hck,r',g1,d⟩:=main [] #[] (by simp[jZ]) h;rcases d with ⟨j,y,rfl,d⟩ | ⟨rfl,xz,hz,d⟩
     ·exact⟨_,by rw[hmv];simp only[Instr.lookup,sB_,run_underlying hu,rA,sP_,hck,g1],d⟩
     exact⟨_,by rw[hmv];simp only[Instr.lookup,sB_,run_underlying hu,rA,sP_,hck,g1,hz],d⟩
    | map b=>
     simp only[VR] at hmv;obtain⟨l,hl,hf⟩:=hmv;dsimp only at h;cases hb:O.m.get b with
     | none=>rw[hb] at h;cases h
     | some ob=>
      rw[hb] at h;cases ob with
      | map es clock=>
       dsimp only at h;obtain⟨ys,hh,he⟩:=hi.yG hb hl;obtain⟨hck,r',g1,d⟩:=main es ys he h;rcases d with ⟨j,y,rfl,d⟩ | ⟨rfl,xz,hz,d⟩
       ·exact⟨_,by rw[hf];simp only[Instr.lookup,sB_,run_underlying hu,rA,sP_,run_getObj_map hh,hck,g1],d⟩
       exact⟨_,by rw[hf];simp only[Instr.lookup,sB_,run_underlying hu,rA,sP_,run_getObj_map hh,hck,g1,hz],d⟩
      | _=>cases h
    | _=>cases h
  cases h
 cases h
theorem we (hi:Inv Y O w) {u:Option TypeId} {x:Option V} {v:V} {z:Value} (h:sX P u O x=some v) (hx:∀a,x=some a->VR Y a z):
  ∃(a:Addr) (e cells:Nat),z= .pointer (some a)/\VR Y v z/\w.shape? a.block=some (e,cells)/\(match u with | some u=>liesAt P P.depth e (cells/P.cellsOf e) a.off u 1=true | none=>a.off<cells):=by
 unfold sX at h;cases x with
 | none=>cases h
 | some xv=>
  cases xv with
  | ptr b off=>
   have hv:=hx _ Z;have hv':=hv;simp only[VR] at hv';obtain⟨l,hl,rfl⟩:=hv';dsimp only at h;cases hb:O.m.get b with
   | none=>rw[hb] at h;cases h
   | some ob=>
    rw[hb] at h;cases ob with
    | own cells e=>
     dsimp only at h;obtain⟨y,hy,⟨h0,aa⟩,c,fr,rfl,hc,_⟩:=hi.obj b _ l hb hl;have A:c.size=cells.length:=by omega
     have d:w.shape? l.dz=some (e,cells.length):=by simp[World.shape?,hy,A]
     cases u with
     | some u=>
      dsimp only at h;rw[bM] at h;split at h
      ·rename_i hq;cases h;rw[db] at hq;exact⟨_,e,cells.length,Z,hv,d,by simpa [h0] using hq⟩
      cases h
     | none=>
      dsimp only at h;rw[bM] at h;split at h
      ·rename_i hq;cases h;rw[nE_,db] at hq;exact⟨_,e,cells.length,Z,hv,d,by grind⟩
      cases h
    | _=>cases h
  | _=>cases h
theorem zf (hi:Inv Y O w) {ev:Operand->Option V} {f:Operand->Value} {o:Oper} {v:V} (B:ER Y ev f o.op) (h:gE P ev O o.op=some v):
  ∃x,(execOp f o).run P w= .ok (.value x) w/\VR Y v x:=by
 cases C:o.op with
 | load t x=>
  rw[C] at h B;simp only[gE] at h;cases hx:ev x with
  | none=>rw[hx] at h;cases h
  | some u=>
   rw[hx] at h;have hvx:=B x (by simp[Op.operands]) u hx;cases u with
   | ptr b off=>
    simp only at h;cases K:O.m.get b with
    | none=>rw[K] at h;cases h
    | some ob=>
     rw[K] at h;cases ob with
     | row cells e ro=>
      simp only[VR] at hvx;obtain⟨l,hl,E⟩:=hvx;obtain⟨y,hy,M⟩:=nE (P:=P) hi K hl h;refine⟨y,?_,M⟩;simp[execOp,C,Instr.loadAt,E,Instr.sureAddr,hy]
     | own cells e=>
      simp only[VR] at hvx;obtain⟨l,hl,E⟩:=hvx;obtain⟨_,G,_⟩:=hi.own K hl;obtain⟨y,hy,M⟩:=nE (P:=P) G (aB.mq _ _ _) hl h;refine⟨y,?_,M⟩;simp[execOp,C,Instr.loadAt,E,Instr.sureAddr,hy]
     | _=>cases h
   | _=>cases h
 | lookup t x i ok=>
  rw[C] at h B;obtain⟨z,h1,S⟩:=Cs (P:=P) hi (f:=f) (B x (by simp[Op.operands])) (B i (by simp[Op.operands])) h
  grind [execOp,sB_,rA,sP_]
 | convert src dst x=>
  rw[C] at h B;simp only[gE] at h;split at h
  case h_4=>cases h
  case h_2=>
   rename_i t L hd;split at h
   ·rename_i j hj;rw[bM] at h;split at h
    ·cases h
    rename_i h0;obtain⟨a,e,cells,hf,hv,N,ak⟩:=we hi h (B x (by simp[Op.operands]));have ab:j.size≠0:=fun e=>h0 (by rw[e];rfl)
    grind [execOp,sB_,Lib.run_to_unsafe,rA,sP_]
   cases h
  case h_3=>
   rename_i u L hd;rw[bM] at h;split at h
   ·rename_i G;obtain⟨j,hj⟩:=ze_.1 G;obtain⟨a,e,cells,hf,hv,N,ak⟩:=we hi h (B x (by simp[Op.operands]))
    grind [execOp,sB_,Lib.run_from_unsafe,rA,sP_]
   cases h
  rename_i e L hd;split at h
  case h_3=>cases h
  ·rename_i he hx;cases h;have hv:=B x (by simp[Op.operands]) _ hx;simp only[VR] at hv;refine⟨.string .empty,?_,by simp only[VR];exact⟨_,Z,Z⟩⟩;simp[execOp,C,convert,hv,run_underlying L,run_underlying hd,run_underlying he,Conv.bytesToString]
  rename_i b off len cap he hx;have hv:=B x (by simp[Op.operands]) _ hx
  have fin:∀(a:Addr) (c:Nat) (s:List Nat),f x= .slice (some a) len c->s.length=len->(∀n∈s,n<=255)->(∀(j:Nat) (hj:j<s.length),w.cell? (a.add j)=some (.int .u8 ((s[j]:Nat):Int)))->
    ∃z,(execOp f o).run P w= .ok (.value z) w/\VR Y (.str s) z:=by
   intro a c s hf hl hle hc
   have hb:∀n∈s,(UInt8.ofNat n).toNat=n:=fun n hn=>by
    grind [UInt8.toNat_ofNat']
   have:=run_convert_bytes_back (P:=P) w src dst e a c (s.map UInt8.ofNat) L he hd (fun j hj=>by
    grind)
   rw[lM_,hl] at this;refine⟨.string ⟨(s.map UInt8.ofNat).toArray⟩,by grind [execOp,sB_,rA,sP_],?_⟩;simp only[VR];refine⟨_,Z,?_⟩;unfold gR;simp only[List.map_map]
   conv=>rhs;rw[<-List.map_id s]
   exact List.map_congr_left fun n hn=>hb n hn
  rw[bM] at h;split at h
  ·rename_i h0;have:=nB h0;subst this;cases h;obtain⟨a,c,hf⟩:=VR.jA hv
   simp_all
  rename_i h0;rw[Nat.beq_eq] at h0;split at h
  ·rename_i cells e' ro hb;rw[bM] at h;split at h
   ·rename_i hle;rw[nE_,db] at hle;split at h
    ·rename_i s I;cases h
     obtain⟨l,c,hl,hf⟩:∃l c,Y b=some l/\f x= .slice (some ⟨l.dz,l.sh+off,none⟩) len c:=by
      cases cap with
      | known c=>grind [VR]
      | upto sz=>
       grind [VR]
      | least a sz=>grind [VR]
     obtain⟨ys,ac,Q,aa⟩:=hi.piece hb hl off len hle;rw[ej,eN] at I
     have key:∀(l:List V) (s:List Nat),dv Af l=some s->s.length=l.length/\(∀n∈s,n<=255)/\∀(j:Nat) (n:Nat),s[j]? =some n->l[j]? =some (.int .u8 (.ofNat n)):=by
      intro l;induction l with
      | nil=>intro s h;rw[ij] at h;simp_all
      | cons x l ih=>
       intro s h;obtain⟨y,r,h1,S,rfl⟩:=gJ h;obtain⟨X,T,W⟩:=ih r S
       have hx:x= .int .u8 (.ofNat y)/\y<=255:=by
        unfold Af at h1;split at h1
        ·rw[bM] at h1;split at h1
         ·simp_all
         cases h1
        cases h1
       grind
     obtain⟨X,T,W⟩:=key _ s I;have R:s.length=len:=by grind
     refine fin _ c s hf R T (fun j hj=>?_);have h1:=W j s[j] (gC hj);obtain⟨y,hy,am⟩:=Q.get h1
     grind [VR]
    cases h
   cases h
  cases h
 | call c=>
  rw[C] at h B;simp only[gE] at h;split at h
  ·rename_i A;split at h
   ·rename_i u1 u2 t x e1 e2;have d:c.args= #[x]:=by grind
    split at h
    ·rename_i u3 u4 kt et b hu hx;have hv:=B x (by simp[Op.operands,Call.operands,A,d]) _ hx;simp only[VR] at hv;obtain⟨l,hl,hf⟩:=hv;split at h
     ·rename_i es clock hb;cases h;obtain⟨ys,hh,he⟩:=hi.yG hb hl;refine⟨.int .i64<|Int.ofNat<|dU es,?_,by simp only[VR]⟩;have hlen:ys.size=es.length:=by have:=he.length;simpa using this
      simp[execOp,C,resolve,A,d,invoke,builtin,Builtin.len_,e1,run_underlying hu,hf,run_getObj_map hh,goInt,db,hlen]
     cases h
    ·rename_i u3 u4 kt et hu hx;cases h;have hv:=B x (by simp[Op.operands,Call.operands,A,d]) _ hx;simp only[VR] at hv;refine⟨.int .i64 0,?_,by simp only[VR]⟩;simp[execOp,C,resolve,A,d,invoke,builtin,Builtin.len_,e1,run_underlying hu,hv,goInt]
    cases h
   cases h
  cases h
 | _=>rw[C] at h;simp[gE] at h
end
variable {pt src:TypeId}
section
variable {P:Program} {Y:Ren} {O:aB} {w:World}
theorem F6 {ty:TypeId} {x v:V} (h:HM x=some v) (hx:VR Y x y):∃z,(Builtin.unsafeSliceData_ ts ty #[y]).run P w= .ok z w/\VR Y v z:=by
 unfold HM at h;split at h
 ·cases h;simp only[VR] at hx;subst hx;exact⟨_,Lib.run_unsafeSliceData_nil w ts ty 0 0,by simp only[VR]⟩
 ·rename_i b off len c;rw[bM] at h;split at h
  ·rename_i d;cases h;cases c with
   | known c=>
    simp only[VR] at hx;obtain⟨l,hl,rfl⟩:=hx;have d:Nat.ble 1 c=true:=d;rw[nE_] at d;exact⟨_,Lib.run_unsafeSliceData_row w ts ty _ _ _ oM,by simp only[VR];simp_all⟩
   | upto s=>
    have d:Nat.ble 1 len=true:=d;rw[nE_] at d;simp only[VR] at hx;obtain⟨l,hl,⟨c,rfl,u,_⟩ | ⟨h0,_⟩⟩:=hx
    ·exact⟨_,Lib.run_unsafeSliceData_row w ts ty _ _ _ oM,by simp only[VR];simp_all⟩
    omega
   | least a s=>
    have d:Nat.ble 1 a=true:=d;rw[nE_] at d;simp only[VR] at hx;obtain⟨l,hl,c,rfl,u,_⟩:=hx;exact⟨_,Lib.run_unsafeSliceData_row w ts ty _ _ _ oM,by simp only[VR];simp_all⟩
  cases h
 cases h
theorem DH:∀{l:List V} {s:List Nat},dv Af l=some s->s.length=l.length/\(∀n∈s,n<=255)/\∀(j:Nat) (n:Nat),s[j]? =some n->l[j]? =some (.int .u8 (.ofNat n))
 | [],s,h=>by rw[ij] at h;simp_all
 | x::l,s,h=>by
  obtain⟨y,r,h1,d,rfl⟩:=gJ h;obtain⟨k1,k2,k3⟩:=DH d
  have hx:x= .int .u8 (.ofNat y)/\y<=255:=by
   unfold Af at h1;split at h1
   ·rw[bM] at h1;split at h1
    ·simp_all
    cases h1
   cases h1
  grind
theorem ux (ts:Array TypeId) (ty:TypeId) (k:Value):Builtin.unsafeString_ ts ty #[.pointer none,k]=
   (do
    let n <-asInt k
    let some _:=ts[0]? | stuck "unsafe.String: no argument types"
    if n<0 then runtimePanic (.error "unsafe.String: len out of range")
    if n>IntKind.i64.max then unsupported (.unsafePointer "String: a length above the largest int")
    if n=0 then pure (.string .empty)
    else runtimePanic (.error "unsafe.String: ptr is nil and len is not zero")):=rfl
theorem ns (ts:Array TypeId) (ty:TypeId) (a:Addr) (k:Value):Builtin.unsafeString_ ts ty #[.pointer<|some a,k]=
   (do
    let n <-asInt k
    let some pt:=ts[0]? | stuck "unsafe.String: no argument types"
    if n<0 then runtimePanic (.error "unsafe.String: len out of range")
    if n>IntKind.i64.max then unsupported (.unsafePointer "String: a length above the largest int")
    if n=0 then pure (.string .empty)
    else if <-variablesAt a (<-elemOf pt) n.toNat then do
     let s <-loadBytes a .empty n.toNat
     freeze a n.toNat
     pure (.string s)
    else unsupported (.unsafePointer "String: not so many bytes at ptr")):=rfl
theorem kj {ty:TypeId} (u:ts[0]? =some pt) (p:Option Addr):(Builtin.unsafeString_ ts ty #[.pointer p,.int .i64 0]).run P w= .ok (.string .empty) w:=by
 have d:IntKind.i64.max=9223372036854775807:=rfl;cases p with
 | none=>rw[ux];simp[u,asInt,asIntOf,d]
 | some a=>rw[ns];simp[u,asInt,asIntOf,d]
theorem rR {ty e:TypeId} (E:ts[0]? =some pt) (hp:P.underlying pt=some (.pointer e)) (G:P.cellsOf e=1) (g off cells:Nat) (C:w.shape? g=some (e,cells)) (l:List UInt8) (h0:l≠[]) (hn:off+l.length<=cells) (aa:l.length<=9223372036854775807)
  (d:∀j x,l[j]? =some x->w.cell? ((⟨g,off,none⟩:Addr).add j)=some (.int .u8 x.toNat)):
  (Builtin.unsafeString_ ts ty #[.pointer<|some ⟨g,off,none⟩,.int .i64 l.length]).run P w= .ok (.string ⟨l.toArray⟩) (w.freeze ⟨g,off,none⟩ l.length):=by
 have hl:l.length≠0:=by simpa using h0
 have hlb:=Lib.run_loadBytes (P:=P) w l ⟨g,off,none⟩ .empty d
 have u:liesAt P P.depth e (cells/P.cellsOf e) off e l.length=true:=by
  have hd:P.depth=(2*(P.types.size+Made.depth)+1)+1:=rfl;rw[hd];simp only[liesAt,Bool.or_eq_true];left;rw[hd];simp[rowAt,G,hn,sameLayout,Nat.mod_one]
 have z:¬(9223372036854775807:Int)<(l.length:Int):=by omega
 have A:IntKind.i64.max=9223372036854775807:=rfl;have B:¬(l.length:Int)<0:=by omega
 rw[ns];simp[E,asInt,asIntOf,A,z,B,hl,variablesAt,C,elemOf,run_underlying hp,u,hlb]
theorem Hm (hi:Inv Y O w) {ty:TypeId} {p n:V} {yp yn:Value} {s:List Nat} {O':aB} (h:IM P O ts[0]? p n=some (s,O')) (hp:VR Y p yp) (hn:VR Y n yn):
  ∃z w',(Builtin.unsafeString_ ts ty #[yp,yn]).run P w= .ok z w'/\VR Y (.str s) z/\Inv Y O' w'/\fb Y O w Y O' w':=by
 unfold IM at h;split at h
 ·rename_i k;simp only[VR] at hn;subst hn;rw[bM] at h;split at h
  ·rename_i h0;have:=nB h0;subst this;split at h
   ·rename_i M N pt d;cases h;simp only[VR] at hp;subst hp;exact⟨_,w,kj d _,by simp only[VR];exact⟨_,Z,Z⟩,hi,fb.refl _ _ _⟩
   ·rename_i M N pt b off d;cases h;simp only[VR] at hp;obtain⟨l,hl,rfl⟩:=hp;exact⟨_,w,kj d _,by simp only[VR];exact⟨_,Z,Z⟩,hi,fb.refl _ _ _⟩
   cases h
  rename_i h0;rw[Nat.beq_eq] at h0;split at h
  ·rename_i M N pt b off d;split at h
   ·rename_i u3 u4 u cells e hu hb;rw[bM] at h;split at h
    ·rename_i Q;simp only[bA_,Nat.beq_eq,nE_,db] at Q;obtain⟨rfl,B,hle,ab⟩:=Q;split at h
     ·rename_i s' R;cases h;simp only[VR] at hp;obtain⟨l,hl,rfl⟩:=hp;rw[ej,eN] at R;obtain⟨k1,k2,S⟩:=DH R;have ac:s.length=k:=by grind
      obtain⟨c,fr,C,E,G,I,ak⟩:=hi.row hb hl;obtain⟨ys,am,K,aa⟩:=hi.piece hb hl off k hle
      have L:∀n∈s,(UInt8.ofNat n).toNat=n:=fun n hn=>by
       grind [UInt8.toNat_ofNat']
      have hlen:(s.map UInt8.ofNat).length=k:=by grind
      have r:=rR (P:=P) (w:=w) (ty:=ty) d hu B l.dz (l.sh+off) c.size (by simp[World.shape?,C]) (s.map UInt8.ofNat) (by grind) (by rw[hlen];omega) (by rw[hlen];omega)
       (fun j x hx=>by
        rw[gM_] at hx;cases hj:s[j]? with
        | none=>grind
        | some m=>
         rw[hj] at hx;cases hx;have h1:=S j m hj;obtain⟨y,hy,ao⟩:=K.get h1
         grind [VR])
      rw[hlen] at r;have hne:¬k=0:=h0
      have hw:∃fr',(w.freeze ⟨l.dz,l.sh+off,none⟩ k).heap[l.dz]? =some (.cells c e fr'):=by
       unfold World.freeze
       grind
      obtain⟨fr',hw⟩:=hw
      have A:∀r,r≠l.dz->(w.freeze ⟨l.dz,l.sh+off,none⟩ k).heap[r]? =w.heap[r]?:=fun r hr=>by
       unfold World.freeze
       grind
      obtain⟨T,W⟩:=hi.HH hb hl Z (o':=.row cells e true) hw ⟨c,fr',Z,E,G,I,fun h=>by cases h⟩ A (by unfold World.freeze;rw[if_neg hne];simp) (by unfold World.freeze;rw[if_neg hne]) (by unfold World.freeze;rw[if_neg hne]) (by unfold World.freeze;rw[if_neg hne];exact⟨Z,nR_ _⟩);refine⟨_,_,r,?_,T,W⟩;simp only[VR];refine⟨_,Z,?_⟩;unfold gR;simp only[List.map_map]
      conv=>rhs;rw[<-List.map_id s]
      exact List.map_congr_left fun n hn=>L n hn
     cases h
    cases h
   cases h
  cases h
 cases h
theorem DI (hi:Inv Y O w) {dst:TypeId} {x v:V} {O':aB} (h:nA P O src dst x= .val v O') (hx:VR Y x y):
  ∃z w' Y',(convert src dst y).run P w= .ok z w'/\VR Y' v z/\Inv Y' O' w'/\fb Y O w Y' O' w':=by
 unfold nA at h;split at h
 ·rename_i e s K hd;split at h
  ·rename_i he;rw[bM] at h;split at h
   ·rename_i ab;cases h;simp only[VR] at hx;obtain⟨bs,rfl,d⟩:=hx;have A:bs.size<=grownCap w bs.size 0 e:=grownCap_ge _ _ _ _
    have C:(Lib.bytesCells w e bs).size=grownCap w bs.size 0 e:=by
     unfold Lib.bytesCells
     simp_all
    have hlen:dU s=bs.size:=jC d;have aa:(Ct (fun c=>V.int .u8 (Int.ofNat c)) s).length=bs.size:=by rw[nj,lM_,<-db,hlen]
    have L:gF Y ⟨w.heap.size,0,grownCap w bs.size 0 e⟩ (.row (Ct (fun c=>V.int .u8 (Int.ofNat c)) s) e true) (.cells (Lib.bytesCells w e bs) e ((Lib.bytesCells w e bs).size,(Lib.bytesCells w e bs).size+1)):=by
     refine⟨_,_,Z,by simp[C],by simp_all,fun i v hv=>?_,fun h=>by cases h⟩;rw[nj,gM_] at hv;cases B:s[i]? with
     | none=>simp_all
     | some m=>
      rw[B] at hv;cases hv;have u:(bs.data.toList.map UInt8.toNat)[i]? =some m:=by unfold gR at d;rw[d];exact B
      rw[gM_] at u;cases hq:bs.data.toList[i]? with
      | none=>simp_all
      | some b=>
       rw[hq] at u;cases u;have E:bs.data[i]? =some b:=by simp_all
       have hlt:i<bs.data.size:=(aS_.1 E).1;refine⟨.int .u8 b.toNat,?_,by simp only[VR];rfl⟩;unfold Lib.bytesCells
       grind
    have hi1:=hi.drew;obtain⟨G,I⟩:=hi1.alloc (l:=⟨w.heap.size,0,grownCap w bs.size 0 e⟩) (x:=.cells (Lib.bytesCells w e bs) e ((Lib.bytesCells w e bs).size,(Lib.bytesCells w e bs).size+1)) Z L
    have hw:(w.drew.alloc (.cells (Lib.bytesCells w e bs) e ((Lib.bytesCells w e bs).size,(Lib.bytesCells w e bs).size+1)))=Lib.bytesWorld w e bs:=by
     unfold Lib.bytesWorld World.freeze;rw[if_neg oM]
     have:∀(h:Array Obj) (a b:Obj) (f:Obj->Obj),f a=b->(h.push a).modify h.size f=h.push b:=fun h a b f e=>by
      grind
     simp only[World.alloc,World.drew]
     simp_all
    rw[hw] at G I;refine⟨_,_,_,Lib.run_convert_string_bytes w src dst e bs K hd he,?_,G,(fb.drew Y O w).trans I⟩;simp only[VR];refine⟨_,Ren.cZ _ _ _,.inl ⟨grownCap w bs.size 0 e,by rw[hlen],by rw[hlen];exact A,by simp⟩⟩
   cases h
  cases h
 cases h
theorem FV (P:Program) (O:aB) (src dst:TypeId) (x:V) (v:V) (O':aB):nA P O src dst x≠ .kE v O':=by
 unfold nA
 grind
theorem sC (P:Program) (O:aB) (src dst:TypeId) (x:V):∀f args O',nA P O src dst x≠ .enter f args O'/\nA P O src dst x≠ .round f args O'/\nA P O src dst x≠ .skip O':=by
 intro f args O';unfold nA
 grind
end
variable {yk ym:Value}
section
variable {P:Program} {Y:Ren} {O:aB} {w:World}
theorem vP {x y:V} {a c:Value} (h:sN x y=some true) (hx:VR Y x a) (hy:VR Y y c) (n:Nat):Instr.sameBits n a c=true:=by
 unfold sN at h;split at h
 ·simp only[VR] at hx hy;subst hx;subst hy;simp only[oJ_,pW] at h;simp only[Instr.sameBits,h]
 ·rename_i j a' k b';simp only[bM] at h;split at h
  ·rename_i hk;have:=pX hk;subst this;simp only[oJ_,cK,decide_eq_true_eq] at h
   grind [VR,Instr.sameBits]
  cases h
 ·simp only[VR] at hx hy;obtain⟨p,rfl,hp⟩:=hx;obtain⟨q,rfl,hq⟩:=hy
  grind [oG,Instr.sameBits,beq_toListBytes]
 cases h
theorem rU:∀{xs ys:List V} {asg cs:List Value},nR xs ys=true->dA Y xs asg->dA Y ys cs->∀n,asg.length=cs.length/\((asg.zip cs).all fun(x,y)=>Instr.sameBits n x y)=true
 | [],[],asg,cs,_,hx,hy,n=>by rw[hx.eK,hy.eK];simp
 | [],y::ys,asg,cs,h,hx,hy,n=>by cases h
 | x::xs,[],asg,cs,h,hx,hy,n=>by cases h
 | x::xs,y::ys,asg,cs,h,hx,hy,n=>by
  obtain⟨a,asg',rfl,h1,d⟩:=hx.cons_inv;obtain⟨c,cs',rfl,u,z⟩:=hy.cons_inv;have h':(match sN x y with | some true=>nR xs ys | _=>false)=true:=h;split at h'
  ·rename_i he;obtain⟨g1,A⟩:=rU h' d z n;refine⟨by simp[g1],?_⟩;simp only[List.zip_cons_cons,List.all_cons,bA_];exact⟨vP he h1 u n,A⟩
  cases h'
theorem CP {x y:V} {a c:Value} (h:sameKey x y=true) (hx:VR Y x a) (hy:VR Y y c) (n:Nat):Instr.sameBits (n+1) a c=true:=by
 unfold sameKey at h;split at h
 ·simp only[VR] at hx hy;obtain⟨asg,rfl,hx⟩:=hx;obtain⟨cs,rfl,hy⟩:=hy;obtain⟨g1,g2⟩:=rU h hx hy n;simp only[Instr.sameBits,bA_,beq_iff_eq]
  simp_all
 grind [vP]
theorem Kf (e:eP) (es:List eP) (i:Nat):vo e es i=es.set i e:=rG _ _ _
theorem Az:∀(es:List eP) (i:Nat),xJ es i=es.eraseIdx i
 | [],i=>rfl
 | e::es,0=>rfl
 | e::es,i+1=>congrArg (e::·) (Az es i)
theorem Inv.CS (hi:Inv Y O w) {b:Pos} {l:Loc} {es':List eP} {clock':Nat} {ys:Array MapEntry} (hb:O.m.get b=some (.map es clock)) (hl:Y b=some l) (he:jZ Y es' ys.toList):
  ∃w',(setObj l.dz (.map ys clock')).run P w= .ok () w'/\Inv Y (O.setObj b (.map es' clock')) w'/\fb Y O w Y (O.setObj b (.map es' clock')) w':=by
 obtain⟨zs,hh,_⟩:=hi.yG hb hl;refine⟨{w with heap:=w.heap.setIfInBounds l.dz (.map ys clock')},by simp[setObj,Sem.run,hh],?_⟩;have hlt:=hi.dz b l hl
 exact hi.change hb hl Z Z (x:=.map ys clock') (by simp_all) ⟨ys,Z,he⟩
  (fun r hr=>by grind) (by simp) Z Z ⟨Z,nR_ _⟩
theorem uy (hi:Inv Y O w) {t:TypeId} {m k v:V} {yv:Value} {O':aB} (h:kM P O t m k v=some O') (hm:VR Y m ym) (hk:VR Y k yk) (hv:VR Y v yv):
  ∃w',(Instr.mapUpdate t ym yk yv).run P w= .ok () w'/\Inv Y O' w'/\fb Y O w Y O' w':=by
 unfold kM at h;split at h
 ·rename_i u1 u2 kt et b hu;split at h
  ·rename_i es clock hb;simp only[bM] at h;split at h
   ·rename_i d;rw[bA_] at d;obtain⟨hp,E⟩:=d;simp only[VR] at hm;obtain⟨l,hl,rfl⟩:=hm;obtain⟨ys,hh,he⟩:=hi.yG hb hl;have hck:=me (w:=w) hp E hk false;split at h
    ·rename_i i u hf;obtain⟨r',g1,C⟩:=mi (w:=w) hp hk he hf;cases r' with
     | none=>exact C.elim
     | some q=>
     obtain⟨j,y⟩:=q;obtain⟨rfl,hy⟩:=C;rw[fY] at h;split at h
     ·rename_i e hn;split at h
      ·rename_i G;cases h;obtain⟨ye,aa,e1,e2,e3⟩:=he.get hn;have hsb:=CP G e1 hk 9999;have z:ys[i]? =some ye:=by simp_all
       have A:(Instr.keyThatStays (((ys[i]?).map (·.key)).getD yk) yk).run P w= .ok yk w:=by
        simp[Instr.keyThatStays,z,hsb]
       have B:(ys.modify i fun e=>{e with key:=yk,val:=yv}).toList=ys.toList.set i {key:=yk,val:=yv,born:=e.born}:=by
        apply zf_
        grind
       obtain⟨w',r,inv,st⟩:=hi.CS (P:=P) (clock':=clock) (es':=vo {key:=k,val:=v,born:=e.born} es i) (ys:=ys.modify i fun e=>{e with key:=yk,val:=yv}) hb hl (by
        rw[B,Kf];exact he.set i hk hv Z)
       refine⟨w',?_,inv,st⟩;simp only[Instr.mapUpdate,sB_,run_underlying hu,rA,run_getObj_map hh,hck,g1,A,r]
      cases h
     cases h
    ·rename_i hf;cases h;obtain⟨r',g1,C⟩:=mi (w:=w) hp hk he hf;cases r' with
     | some q=>exact C.elim
     | none=>
     obtain⟨w',r,inv,st⟩:=hi.CS (P:=P) (clock':=clock+1) (es':=gS es [{key:=k,val:=v,born:=clock}]) (ys:=ys.push {key:=yk,val:=yv,born:=clock}) hb hl (by
      rw[ep,Array.toList_push];exact he.append ⟨_,[],Z,hk,hv,Z,Z⟩)
     refine⟨w',?_,inv,st⟩;simp only[Instr.mapUpdate,sB_,run_underlying hu,rA,run_getObj_map hh,hck,g1,r]
    cases h
   cases h
  cases h
 cases h
theorem BV (hi:Inv Y O w) {ty:TypeId} {m k:V} {O':aB} (h:qX P O ts m k=some O') (hm:VR Y m ym) (hk:VR Y k yk):
  ∃w',(Builtin.delete_ ts ty #[ym,yk]).run P w= .ok (.tuple #[]) w'/\Inv Y O' w'/\fb Y O w Y O' w':=by
 unfold qX at h;split at h
 ·rename_i t B;split at h
  ·rename_i u1 u2 kt et b hu;split at h
   ·rename_i es clock hb;simp only[bM] at h;split at h
    ·rename_i d;rw[bA_] at d;obtain⟨hp,A⟩:=d;simp only[VR] at hm;obtain⟨l,hl,rfl⟩:=hm;obtain⟨ys,hh,he⟩:=hi.yG hb hl;have hck:=me (w:=w) hp A hk ys.isEmpty;split at h
     ·rename_i i u hf;cases h;obtain⟨r',g1,z⟩:=mi (w:=w) hp hk he hf;cases r' with
      | none=>exact z.elim
      | some q=>
      obtain⟨j,y⟩:=q;obtain⟨rfl,hy⟩:=z
      obtain⟨w',r,inv,st⟩:=hi.CS (P:=P) (clock':=clock) (es':=xJ es i) (ys:=ys.eraseIdxIfInBounds i) hb hl (by
       rw[Array.toList_eraseIdxIfInBounds,Az];exact he.erase i)
      refine⟨w',?_,inv,st⟩;simp only[Builtin.delete_,B,List.getElem?_toArray,zm_,List.getElem?_cons_succ,sB_,run_underlying hu,rA,run_getObj_map hh,hck,g1,r,sP_]
     ·rename_i hf;cases h;obtain⟨r',g1,z⟩:=mi (w:=w) hp hk he hf;cases r' with
      | some q=>exact z.elim
      | none=>
      obtain⟨w',r,inv,st⟩:=hi.CS (P:=P) (clock':=clock) (es':=es) (ys:=ys) hb hl he;refine⟨w',?_,inv,st⟩;simp only[Builtin.delete_,B,List.getElem?_toArray,zm_,List.getElem?_cons_succ,sB_,run_underlying hu,rA,run_getObj_map hh,hck,g1,r,sP_]
     cases h
    cases h
   cases h
  cases h
 cases h
def HR.isVal:HR->Prop
 | .val ..=>True
 | .err _=>True
 | _=>False
theorem FP (P:Program) (O:aB) (ts:Array TypeId) (s x:V):(gd P O ts s x).isVal:=by
 unfold gd;simp only[bM,grow]
 repeat' (first | trivial | split)
theorem DA (P:Program) (O:aB) (ts:Array TypeId) (s x:V):(qS P O ts s x).isVal:=by
 unfold qS;simp only[bM,grow]
 repeat' (first | trivial | split)
theorem Lh (P:Program) (O:aB) (ts:Array TypeId) (s x:V):(vL P O ts s x).isVal:=by
 unfold vL;simp only[bM]
 repeat' (first | trivial | split)
theorem Ef {ov:Nat->Bool} (T:∀g,ov g=true->xf P g) (hi:Inv Y O w) {ev:Operand->Option V} {f:Operand->Value} {o:Oper} {r:HR} (C:ER Y ev f o.op) (h:gD P ov ev O o.op=r) (hne:∀n,r≠ .err n):
  zK P Y O w r ((execOp f o).run P w):=by
 cases E:o.op with
 | store t x y=>
  rw[E] at h C;simp only[gD] at h;cases hx:ev x with
  | none=>grind
  | some a=>
  cases hy:ev y with
  | none=>grind
  | some v=>
  rw[hx,hy] at h;dsimp only at h;cases N:zt P O t a v with
  | none=>grind
  | some O'=>
   rw[N] at h;subst h;obtain⟨w',r,inv,st⟩:=E9 (P:=P) hi N (C x (by simp[Op.operands]) a hx) (C y (by simp[Op.operands]) v hy);have:(execOp f o).run P w= .ok .skip w':=by grind [execOp,sB_,rA,sP_]
   rw[this];exact .skip inv st
 | mapUpdate t m k x=>
  rw[E] at h C;simp only[gD] at h;cases hm:ev m with
  | none=>grind
  | some a=>
  cases hk:ev k with
  | none=>grind
  | some b=>
  cases hx:ev x with
  | none=>grind
  | some v=>
  rw[hm,hk,hx] at h;dsimp only at h;cases N:kM P O t a b v with
  | none=>grind
  | some O'=>
   rw[N] at h;subst h;obtain⟨w',r,inv,st⟩:=uy (P:=P) hi N (C m (by simp[Op.operands]) a hm) (C k (by simp[Op.operands]) b hk) (C x (by simp[Op.operands]) v hx);have:(execOp f o).run P w= .ok .skip w':=by grind [execOp,sB_,rA,sP_]
   rw[this];exact .skip inv st
 | insert t m k x=>
  rw[E] at h C;simp only[gD] at h;cases hm:ev m with
  | none=>grind
  | some a=>
  cases hk:ev k with
  | none=>grind
  | some b=>
  cases hx:ev x with
  | none=>grind
  | some v=>
  rw[hm,hk,hx] at h;dsimp only at h;cases N:kM P O t a b v with
  | none=>grind
  | some O'=>
   rw[N] at h;subst h;obtain⟨w',r,inv,st⟩:=uy (P:=P) hi N (C m (by simp[Op.operands]) a hm) (C k (by simp[Op.operands]) b hk) (C x (by simp[Op.operands]) v hx);have:(execOp f o).run P w= .ok .skip w':=by grind [execOp,sB_,rA,sP_]
   rw[this];exact .skip inv st
 | call c=>
  rw[E] at h C;simp only[gD] at h;split at h
  ·rename_i g d;split at h
   ·rename_i S u2 y args X G;have A:∀x∈c.args.toList,∀v,ev x=some v->VR Y v (f x):=fun x hx=>C x (by grind [Op.operands,Call.operands])
    have:=KW (P:=P) (w:=w) T hi h hne (C g (by simp[Op.operands,Call.operands,d]) y X) (xs:=c.args.map f) (by simpa using gZ G A);simpa only[execOp,E,resolve,d] using this
   grind
  ·rename_i d;split at h
   ·rename_i S s x G;subst h;have A:∀x∈c.args.toList,∀v,ev x=some v->VR Y v (f x):=fun x hx=>C x (by simp[Op.operands,Call.operands,d];simpa using hx)
    obtain⟨ys,rs,e,h1,L⟩:=(gZ G A).cons_inv;obtain⟨yx,rs',rfl,Q,R⟩:=L.cons_inv;have:=R.eK;subst this;have u:c.args.map f= #[ys,yx]:=by grind
    rw[bM] at hne;rw[bM];split at hne
    ·rename_i W;rw[if_pos W];have hv:=FP P O c.argTypes s x;cases B:gd P O c.argTypes s x with
     | val v O'=>
      obtain⟨z,w',Y',g1,M,I,K⟩:=BG (P:=P) (ty:=o.type) hi B h1 Q
      have:(execOp f o).run P w= .ok (.value z) w':=by
       simp only[execOp,E,resolve,d,u,sB_,sP_,rA,invoke,builtin,g1]
      rw[this];exact .val M I K
     | err n=>simp_all
     | _=>rw[B] at hv;exact hv.elim
    rename_i W;rw[if_neg W];have hv:=DA P O c.argTypes s x;cases B:qS P O c.argTypes s x with
    | val v O'=>
     obtain⟨z,w',Y',g1,M,I,K⟩:=zM (P:=P) (ty:=o.type) hi B h1 Q
     have:(execOp f o).run P w= .ok (.value z) w':=by
      simp only[execOp,E,resolve,d,u,sB_,sP_,rA,invoke,builtin,g1]
     rw[this];exact .val M I K
    | err n=>simp_all
    | _=>rw[B] at hv;exact hv.elim
   grind
  ·rename_i d;split at h
   ·rename_i S s x G;have A:∀x∈c.args.toList,∀v,ev x=some v->VR Y v (f x):=fun x hx=>C x (by simp[Op.operands,Call.operands,d];simpa using hx)
    obtain⟨ys,rs,e,h1,L⟩:=(gZ G A).cons_inv;obtain⟨yx,rs',rfl,Q,R⟩:=L.cons_inv;have:=R.eK;subst this;have u:c.args.map f= #[ys,yx]:=by grind
    cases B:qX P O c.argTypes s x with
    | none=>grind
    | some O'=>
     rw[B] at h;subst h;obtain⟨w',g1,I,K⟩:=BV (P:=P) (ty:=o.type) hi B h1 Q
     have:(execOp f o).run P w= .ok (.value (.tuple #[])) w':=by
      simp only[execOp,E,resolve,d,u,sB_,sP_,rA,invoke,builtin,g1]
     rw[this];exact .val (by simp only[VR];simp_all) I K
   grind
  ·rename_i d;split at h
   ·rename_i S s x G;subst h;have A:∀x∈c.args.toList,∀v,ev x=some v->VR Y v (f x):=fun x hx=>C x (by simp[Op.operands,Call.operands,d];simpa using hx)
    obtain⟨ys,rs,e,h1,L⟩:=(gZ G A).cons_inv;obtain⟨yx,rs',rfl,Q,R⟩:=L.cons_inv;have:=R.eK;subst this;have u:c.args.map f= #[ys,yx]:=by grind
    have hv:=Lh P O c.argTypes s x;cases B:vL P O c.argTypes s x with
    | val v O'=>
     obtain⟨z,w',Y',g1,M,I,K⟩:=F5 (P:=P) (ty:=o.type) hi B h1 Q
     have:(execOp f o).run P w= .ok (.value z) w':=by
      simp only[execOp,E,resolve,d,u,sB_,sP_,rA,invoke,builtin,g1]
     rw[this];exact .val M I K
    | err n=>simp_all
    | _=>rw[B] at hv;exact hv.elim
   grind
  ·rename_i d;split at h
   ·rename_i S x G;have A:∀x∈c.args.toList,∀v,ev x=some v->VR Y v (f x):=fun x hx=>C x (by simp[Op.operands,Call.operands,d];simpa using hx)
    obtain⟨ys,rs,e,h1,L⟩:=(gZ G A).cons_inv;have:=L.eK;subst this;have u:c.args.map f= #[ys]:=by grind
    cases B:BP P O c.argTypes x with
    | none=>grind
    | some O'=>
     rw[B] at h;subst h;obtain⟨w',g1,I,K⟩:=DU (P:=P) (ty:=o.type) hi B h1
     have:(execOp f o).run P w= .ok (.value (.tuple #[])) w':=by
      simp only[execOp,E,resolve,d,u,sB_,sP_,rA,invoke,builtin,g1]
     rw[this];exact .val (by simp only[VR];simp_all) I K
   grind
  ·rename_i d;split at h
   ·rename_i S x G;have A:∀x∈c.args.toList,∀v,ev x=some v->VR Y v (f x):=fun x hx=>C x (by simp[Op.operands,Call.operands,d];simpa using hx)
    obtain⟨ys,rs,e,h1,L⟩:=(gZ G A).cons_inv;have:=L.eK;subst this;have u:c.args.map f= #[ys]:=by grind
    cases B:HM x with
    | none=>grind
    | some v=>
     rw[B] at h;subst h;obtain⟨z,g1,M⟩:=F6 (P:=P) (w:=w) (ts:=c.argTypes) (ty:=o.type) B h1
     have:(execOp f o).run P w= .ok (.value z) w:=by
      simp only[execOp,E,resolve,d,u,sB_,sP_,rA,invoke,builtin,g1]
     rw[this];exact .val M hi<|fb.refl _ _ _
   grind
  ·rename_i d;split at h
   ·rename_i S s x G;have A:∀x∈c.args.toList,∀v,ev x=some v->VR Y v (f x):=fun x hx=>C x (by simp[Op.operands,Call.operands,d];simpa using hx)
    obtain⟨ys,rs,e,h1,L⟩:=(gZ G A).cons_inv;obtain⟨yx,rs',rfl,Q,R⟩:=L.cons_inv;have:=R.eK;subst this;have u:c.args.map f= #[ys,yx]:=by grind
    cases B:IM P O c.argTypes[0]? s x with
    | none=>grind
    | some q=>
     obtain⟨q,O'⟩:=q;rw[B] at h;subst h;obtain⟨z,w',g1,M,I,K⟩:=Hm (P:=P) (ty:=o.type) hi B h1 Q
     have:(execOp f o).run P w= .ok (.value z) w':=by
      simp only[execOp,E,resolve,d,u,sB_,sP_,rA,invoke,builtin,g1]
     rw[this];exact .val M I K
   grind
  grind
 | convert src dst x=>
  rw[E] at h C;simp only[gD] at h;cases hx:ev x with
  | none=>grind
  | some a=>
   rw[hx] at h;dsimp only at h;cases B:nA P O src dst a with
   | val v O'=>
    rw[B] at h;subst h;obtain⟨z,w',Y',g1,M,I,K⟩:=DI (P:=P) hi B (C x (by simp[Op.operands]) a hx);have:(execOp f o).run P w= .ok (.value z) w':=by grind [execOp,sB_,rA,sP_]
    rw[this];exact .val M I K
   | err n=>grind
   | skip O'=>exact absurd B (sC P O src dst a 0 [] O').2.2
   | enter g args O'=>exact absurd B (sC P O src dst a g args O').1
   | round g args O'=>exact absurd B (sC P O src dst a g args O').2.1
   | kE q O'=>exact absurd B (FV P O src dst a q O')
 | panic x=>
  rw[E] at h C;simp only[gD] at h;split at h
  ·rename_i t v hx;subst h;have hv:=C x (by simp[Op.operands]) _ hx;have hv':=hv;simp only[VR] at hv';obtain⟨y,hf,_⟩:=hv'
   have:(execOp f o).run P w= .halt (.panic<|f x) w:=by
    simp only[execOp,E,hf,Instr.panic,sB_];rfl
   rw[this];exact .kE hv
  grind
 | _=>rw[E] at h;exact absurd h.symm<|hne 16
end
inductive Ex where
 | normal
 | exit (id:Nat)
 | goto (l:Nat)
 | ret
 | kE (v:V)
inductive DE where
 | mark (b:Pos)
 | call (f:Nat) (args ca:List V)
inductive CR where
 | ok (e:Ex) (t:PT V) (d:List DE) (O:aB)
 | err (n:Nat)
inductive KR where
 | ret (v:V) (O:aB)
 | kE (v:V) (O:aB)
 | err (n:Nat)
inductive Kind where
 | pure | read | alloc | kT
def isMap (P:Program) (t:Option TypeId):Bool:=
 match t with
 | some t=>match P.underlying t with | some (.map _ _)=>true | _=>false
 | none=>false
def toStr (P:Program) (src dst:TypeId):Bool:=
 match pw P src,pw P dst with
 | some (.slice _),some .string=>true
 | some (.pointer _),some .unsafePointer=>true
 | some .unsafePointer,some (.pointer _)=>true
 | _,_=>false
def ofStr (P:Program) (src dst:TypeId):Bool:=
 match pw P src,pw P dst with
 | some .string,some (.slice _)=>true
 | _,_=>false
def kindOf (P:Program):Op->Kind
 | .convert src dst _=>bif toStr P src dst then .read else(bif ofStr P src dst then .kT else .pure)
 | .load .. | .lookup ..=>.read
 | .alloc .. | .box .. | .buildSlice .. | .makeSlice .. | .makeMap ..=>.alloc
 | .store .. | .mapUpdate .. | .insert ..=>.kT
 | .call c=>match c.callee with
  | .builtin .len=>bif isMap P c.argTypes[0]? then .read else .pure
  | .builtin .min | .builtin .max | .builtin .cap=>.pure
  | _=>.kT
 | .defer _ | .panic _=>.kT
 | _=>.pure
structure ME where
 f:Nat
 args:List V
 next:Nat
 l:List (Nat×cN)
 v:V
 next':Nat
 l':List (Nat×cN)
structure Cx where
 gl:Nat
 ov:Nat->Bool
 fk:Nat->Bool
 NN:Nat->List V->Option V
 laid:List (Nat×List V)
 mem:List Nat:=[]
 stop:Nat->List V->aB->Option Nat:=fun _ _ _=>none
 Gv:Nat->List V->aB->Option (V×aB):=fun _ _ _=>none
def bI (G:Cx) (t:PT V):Operand->Option V
 | .tmp k=>t.get (posOf k)
 | .const v=>qq v
 | .global g=>bif Nat.ble (Nat.succ g) G.gl then some (.ptr (posOf g) 0) else none
 | .func f=>some (.func f [] [])
def AT:Op->Nat
 | .move ..=>1
 | .assign ..=>2
 | .pick ..=>3
 | .alloc ..=>4
 | .box ..=>5
 | .build ..=>6
 | .buildSlice ..=>7
 | .insert ..=>8
 | .load ..=>9
 | .store ..=>10
 | .ready ..=>11
 | .waits ..=>12
 | .nilCheck ..=>13
 | .binOp ..=>14
 | .unOp ..=>15
 | .convert ..=>16
 | .sliceToArrayPointer ..=>17
 | .makeInterface ..=>18
 | .makeFunc ..=>19
 | .makeMap ..=>20
 | .makeChan ..=>21
 | .makeSlice ..=>22
 | .slice ..=>23
 | .fieldAddr ..=>24
 | .field ..=>25
 | .indexAddr ..=>26
 | .index ..=>27
 | .lookup ..=>28
 | .mapUpdate ..=>29
 | .mapEntry ..=>30
 | .entryStore ..=>31
 | .range ..=>32
 | .next ..=>33
 | .entry ..=>34
 | .typeAssert ..=>35
 | .extract ..=>36
 | .call ..=>37
 | .go ..=>38
 | .defer ..=>39
 | .panic ..=>40
 | .send ..=>41
 | .recv ..=>42
 | .select ..=>43
def eo (P:Program) (G:Cx) (ev:Operand->Option V) (O:aB) (op:Op):HR:=
 match kindOf P op with
 | .pure=>match eh P ev op with | some v=>.val v O | none=>.err (Nat.add 1000<|AT op)
 | .read=>match gE P ev O op with | some v=>.val v O | none=>.err (Nat.add 2000<|AT op)
 | .alloc=>match fP P ev op with | some (ob,mk)=>.val (mk.of O.next) (O.alloc ob) | none=>.err (Nat.add 3000<|AT op)
 | .kT=>gD P G.ov ev O op
def dE (t:PT V) (n:Nat) (dst:Option Nat) (v:V):Option (PT V):=
 match dst with
 | none=>some t
 | some k=>bif Nat.ble (Nat.succ k) n then some (t.put (some v)<|posOf k) else none
def unit:V:=.tuple []
def bR (ops:Array Oper) (t:PT V) (o:Oper):Option Bool:=
 match o.guard with
 | none=>some true
 | some (j,want)=>match(ops[j]?).bind (·.dst) with
  | some k=>match t.get (posOf k) with
   | some (.bool b)=>some (bif b then want else(bif want then false else true))
   | some (.tuple _)=>some false
   | _=>none
  | none=>some false
abbrev jY:=Code->PT V->Nat->List DE->Option Pos->aB->CR
def vj (n:Nat) (ks:List Nat) (vs:List V) (t:PT V):Option (PT V):=
 List.rec (motive:=fun _=>List V->PT V->Option (PT V)) (fun vs t=>List.rec (motive:=fun _=>Option<|PT V) (some t) (fun _ _ _=>none) vs)
  (fun k _ ih vs t=>List.rec (motive:=fun _=>Option<|PT V) none (fun v r _=>match dE t n (some k) v with | some t'=>ih r t' | none=>none) vs) ks vs t
def uS:Ex->Option Code
 | .normal=>none
 | .ret=>some .ret
 | .exit id=>some (.exit id)
 | .goto g=>some (.goto g)
 | .kE _=>none
def AQ:Ex->Bool
 | .kE _=>true
 | _=>false
def um:Ex->LoopState
 | .normal=>.ready
 | _=>.done
def Dh:Ex->Bool
 | .normal=>true
 | _=>false
def mG (ih:jY) (l:Pos) (args:List V) (O:aB):KR:=
 match O.m.get l with
 | some (.loop _ _ tmps n params assign body _)=>
  match vj n params args tmps with
  | some t=>match ih assign t n [] (some l) O with
   | .ok .normal t [] σ₁=>match σ₁.m.get l with
    | some (.loop .ready p tmps n' params assign body' df)=>
     match ih body t n [] (some l) (σ₁.setObj l (.loop .busy p tmps n' params assign body' df)) with
     | .ok e _ [] σ₂=>bif AQ e then .err 67 else match σ₂.m.get l with
      | some (.loop _ _ tmps n params assign body df)=>.ret (.bool<|Dh e) (σ₂.setObj l (.loop (um e) (uS e) tmps n params assign body df))
      | _=>.err 61
     | .err k=>.err k
     | _=>.err 62
    | _=>.err 63
   | .err k=>.err k
   | _=>.err 64
  | none=>.err 65
 | _=>.err 66
def rS (n:Nat) (args:List V):Option (PT V):=
 List.rec (motive:=fun _=>Nat->PT V->Option (PT V)) (fun _ t=>some t) (fun v _ ih k t=>match dE t n (some k) v with | some t'=>ih (Nat.succ k) t' | none=>none) args 0 .leaf
def gQ (P:Program) (t:PT V) (O:aB):ResultVar->Option V
 | .tmp k=>t.get (posOf k)
 | .cell k ty=>match t.get (posOf k) with
  | some (.ptr b off)=>match O.m.get b with
   | some (.row cells _ _)=>match dT P ty with
    | some (some n)=>bif Nat.ble (off+n) (dU cells) then some (.agg<|takeN (eA cells off) n) else none
    | some none=>nth cells off
    | none=>none
   | _=>none
  | _=>none
def e7 (P:Program) (fn:Func) (t:PT V) (O:aB):Option V:=
 match dv (gQ P t O) fn.results.toList with
 | some [v]=>some v
 | some vs=>some (.tuple vs)
 | none=>none
inductive Md where
 | ret
 | kE (v:V)
 | VL (v:V)
def uU (P:Program) (G:Cx) (ih:jY) (d:List DE):Md->aB->Option (Md×aB):=
 List.rec (motive:=fun _=>Md->aB->Option (Md×aB)) (fun md O=>some (md,O))
  (fun e _ k md O=>match e with
   | .mark b=>match O.m.get b with
    | some .mark=>k md (O.setObj b .dead)
    | _=>none
   | .call _ _ _=>none) d
def zP (P:Program) (G:Cx) (ih:jY) (fn:Func) (md:Md) (t:PT V) (d:List DE) (O:aB):KR:=
 match uU P G ih d md O with
 | some (.ret,O)=>match e7 P fn t O with | some v=>.ret v O | none=>.err 70
 | some (.kE v,O)=>.kE v O
 | _=>.err 71
def nU (P:Program) (G:Cx) (ih:jY) (f:Nat) (args:List V) (O:aB):KR:=
 match P.funcs[f]? with
 | some fn=>match fn.body,rS fn.ntmps args with
  | some c,some t=>match ih c t fn.ntmps [] none O with
   | .ok .normal t d O=>zP P G ih fn .ret t d O
   | .ok .ret t d O=>zP P G ih fn .ret t d O
   | .ok (.kE v) t d O=>zP P G ih fn (.kE v) t d O
   | .err k=>.err k
   | _=>.err 72
  | _,_=>.err 73
 | none=>.err 74
def uY (r:KR):KR:=
 match r with
 | .kE _ _=>.err 69
 | r=>r
def r6:V->Bool
 | .bool _ | .int _ _ | .str _ | .nilPtr | .av | .iw | .nilFunc | .nilIface=>true
 | _=>false
def fo (l:List V):Bool:=List.rec (motive:=fun _=>Bool) true (fun v _ r=>bif r6 v then r else false) l
def BZ (x y:V):Bool:=
 match x,y with
 | .bool a,.bool b=>bif a then b else(bif b then false else true)
 | .int j a,.int k b=>uE j k && F a b
 | .str a,.str b=>AB a b
 | .nilPtr,.nilPtr=>true
 | .av,.av=>true
 | .iw,.iw=>true
 | .nilFunc,.nilFunc=>true
 | .nilIface,.nilIface=>true
 | _,_=>false
def lF (xs ys:List V):Bool:=
 List.rec (motive:=fun _=>List V->Bool) (fun ys=>List.rec (motive:=fun _=>Bool) true (fun _ _ _=>false) ys)
  (fun x _ ih ys=>List.rec (motive:=fun _=>Bool) false (fun y r _=>bif BZ x y then ih r else false) ys) xs ys
def Iu (n:Nat) (v:V):List V:=Nat.rec (motive:=fun _=>List V) [] (fun _ l=>v::l) n
def ga (O:aB) (b:Pos) (o:cN) (vb:Pos) (o':cN):aB:={next:=O.next,m:=(PT.leaf.put (some o) b).put (some o') vb}
def wM (vb:Pos) (vc:List V) (ve e sz:Nat) (r:KR) (ok:rK->Nat->Bool):Option (Nat×List V):=
 match r with
 | .ret (.slice b1 o1 n1 c1) σ1=>
  match σ1.m.get b1,σ1.m.get vb with
  | some (.row cs1 e1 false),some (.row vc1 ve1 false)=>
   bif ok c1 n1 && ((bif ud b1 vb then false else true) && (lF vc vc1 && (Nat.beq ve ve1 && (Nat.beq e e1 && (Nat.ble 1 n1 && (Nat.ble (o1+n1*sz) (dU cs1) && fo (takeN (eA cs1 o1) (n1*sz)))))))) then
    some (n1,takeN (eA cs1 o1) (n1*sz))
   else none
  | _,_=>none
 | _=>none
def Gr (sz:Nat) (c:rK) (_:Nat):Bool:=
 match c with
 | .upto s=>Nat.beq s sz
 | _=>false
def Ck (sz:Nat) (c:rK) (n:Nat):Bool:=
 match c with
 | .least a s=>Nat.beq s sz && Nat.ble n a
 | _=>false
def LI (P:Program) (G:Cx) (ih:jY) (f:Nat) (args:List V) (O:aB):KR:=
 match args with
 | [.slice b off n (.upto sz),i,.slice vb voff m (.known mc)]=>
  match O.m.get b,O.m.get vb with
  | some (.row cells e false),some (.row vc ve false)=>
   bif (bif ud b vb then false else true) && (Nat.ble 1 n && (Nat.beq m 1 && (r6 i && (fo vc && Nat.ble (off+n*sz) (dU cells))))) then
    match wM vb vc ve e sz (nU P G ih f [.slice b off n (.known n),i,.slice vb voff m (.known mc)]<|ga O b (.row cells e false) vb (.row vc ve false)) (Gr sz),
     wM vb vc ve e sz (nU P G ih f [.slice b off n (.least (Nat.succ n) sz),i,.slice vb voff m (.known mc)]<|ga O b (.row (gS (takeN cells (off+n*sz))<|Iu sz .any) e false) vb (.row vc ve false)) (Ck sz) with
    | some (n1,r1),some (n2,r2)=>bif Nat.beq n1 n2 && lF r1 r2 then .ret (.slice O.next 0 n1 (.upto sz)) ((O.drop b).alloc (.row r1 e false)) else .err 75
    | _,_=>.err 76
   else .err 77
  | _,_=>.err 78
 | _=>nU P G ih f args O
def kz (gl:Nat) (O:aB) (l:List (Nat×List V)):Bool:=
 List.rec (motive:=fun _=>Bool) true (fun x _ r=>bif Nat.ble (Nat.succ x.1) gl then(match O.m.get x.1 with
  | some (.row cells _ true)=>bif fo x.2 then(bif lF cells x.2 then r else false) else false
  | _=>false) else false) l
def dQ (x y:V):Bool:=
 match x,y with
 | .agg xs,.agg ys=>beqL xs ys
 | x,y=>iK x y
where
 beqP (p q:Pos):Bool:=Nat.beq p q
 beqC (c d:rK):Bool:=
  match c,d with
  | .known a,.known b=>Nat.beq a b
  | .upto a,.upto b=>Nat.beq a b
  | _,_=>false
 iK (x y:V):Bool:=
  match x,y with
  | .bool a,.bool b=>bif a then b else(bif b then false else true)
  | .int j a,.int k b=>uE j k && F a b
  | .str a,.str b=>AB a b
  | .nilPtr,.nilPtr=>true
  | .tok a,.tok b=>Nat.beq a b
  | .ptr b o,.ptr b' o'=>beqP b b' && Nat.beq o o'
  | .av,.av=>true
  | .slice b o l c,.slice b' o' l' c'=>beqP b b' && Nat.beq o o' && Nat.beq l l' && beqC c c'
  | .iw,.iw=>true
  | .map b,.map b'=>beqP b b'
  | .nilFunc,.nilFunc=>true
  | .nilIface,.nilIface=>true
  | .func f [] [],.func g [] []=>Nat.beq f g
  | .func f [] [.ptr b o],.func g [] [.ptr b' o']=>Nat.beq f g && beqP b b' && Nat.beq o o'
  | _,_=>false
 beqL (xs ys:List V):Bool:=
  List.rec (motive:=fun _=>List V->Bool) (fun ys=>List.rec (motive:=fun _=>Bool) true (fun _ _ _=>false) ys)
   (fun x _ ih ys=>List.rec (motive:=fun _=>Bool) false (fun y r _=>bif iK x y then ih r else false) ys) xs ys
def Gw (l:List (Nat×List V)) (E:Nat->TypeId):PT cN:=l.foldl (fun m x=>m.put (some (.row x.2 (E x.1) true)) (posOf x.1)) .leaf
def atEnd (args:List V):Bool:=
 match args with
 | [.slice _ _ n _,.int _ (.ofNat j),_]=>Nat.beq j n
 | _=>false
def LJ (P:Program) (G:Cx) (ih:jY) (f:Nat) (args:List V) (O:aB):KR:=bif atEnd args then nU P G ih f args O else LI P G ih f args O
def kP (P:Program) (G:Cx) (ih:jY) (f:Nat) (args:List V) (O:aB):KR:=
 match G.Gv f args O with
 | some r=>.ret r.1 r.2
 | none=>match G.NN f args with
 | some v=>bif fo args && (r6 v && kz G.gl O G.laid) then .ret v O else .err 79
 | none=>match G.stop f args O with
   | some c=>.err c
   | none=>bif G.fk f then uY (LJ P G ih f args O) else nU P G ih f args O
def lf (P:Program) (G:Cx) (ih:jY) (r:HR):KR:=
 match r with
 | .val v O=>.ret v O
 | .skip O=>.ret unit O
 | .enter f args O=>kP P G ih f args O
 | .round l args O=>mG ih l args O
 | .kE v O=>.kE v O
 | .err e=>.err e
def MU (pn:Bool) (v:V) (t:PT V) (O:aB):CR:=bif pn then .ok (.kE v) t [] O else .err 69
def iy (P:Program) (G:Cx) (ih:jY) (pn:Bool) (ops:Array Oper) (n:Nat) (o:Oper) (t:PT V) (O:aB) (k:PT V->aB->CR):CR:=
 match bR ops t o with
 | some true=>match lf P G ih (eo P G (bI G t) O o.op) with
  | .ret v O'=>match dE t n o.dst v with | some t'=>k t' O' | none=>.err 80
  | .kE v O'=>MU pn v t O'
  | .err e=>.err e
 | some false=>match dE t n o.dst unit with | some t'=>k t' O | none=>.err 84
 | none=>.err 85
def oY (P:Program) (G:Cx) (ih:jY) (ops:Array Oper) (n:Nat) (d:List DE) (l:List Oper):PT V->aB->CR:=
 List.rec (motive:=fun _=>PT V->aB->CR) (fun t O=>.ok .normal t d O)
  (fun o _ k t O=>iy P G ih true ops n o t O k) l
def sA (A:Array Nat) (i j:Nat):Bool:=(A.getD i 0).testBit j
def waits (ops:Array Oper) (i j:Nat):Bool:=((ops[i]?).map fun o=>o.after.any fun e=>Region.binds .any e && e.on == j).getD false
def Gp:Kind->Bool
 | .kT=>true
 | _=>false
def uV:Kind->Bool
 | .read | .alloc=>true
 | _=>false
def jO (P:Program) (ops:Array Oper) (i:Nat):Bool:=match(ops[i]?).map fun o=>kindOf P o.op with | some k=>Gp k | none=>false
def gi (P:Program) (ops:Array Oper) (i:Nat):Bool:=match(ops[i]?).map fun o=>kindOf P o.op with | some k=>uV k | none=>false
def slotsOf (ops:Array Oper) (o:Oper):List Nat:=
 (o.op.operands.toList.filterMap fun | .tmp k=>some k | _=>none)++(match o.guard with | some (j,_)=>((ops[j]?).bind (·.dst)).toList | none=>[])
def fA (ops:Array Oper) (i:Nat):Option Nat:=(ops[i]?).bind (·.dst)
def bit (i:Nat):Nat:=Nat.shiftLeft 1 i
def hasB (m i:Nat):Bool:=Nat.beq (Nat.land (Nat.shiftRight m i) 1) 1
def CV (m k:Nat):Bool:=Nat.beq (Nat.land m k) m
def nF (l:List Nat):Nat:=List.rec (motive:=fun _=>Nat) 0 (fun i _ r=>Nat.lor (bit i) r) l
structure Row where
 w:Nat
 h:Bool
 k:Bool
 d:Option Nat
 dm:Nat
 s:Nat
def zh (P:Program) (ops:Array Oper) (o:Oper):Row:=
 {w:=nF (o.after.toList.filterMap fun e=>if Region.binds .any e=true then some e.on else none),h:=Gp<|kindOf P o.op,k:=uV<|kindOf P o.op,d:=o.dst,dm:=nF o.dst.toList,s:=nF (slotsOf ops o)}
structure RA where
 r:Row
 a:Nat
def yR (L:List RA):Nat->Nat:=
 List.rec (motive:=fun _=>Nat->Nat) (fun _=>0) (fun x _ ih w=>Nat.lor (Bool.rec (motive:=fun _=>Nat) 0 x.a<|Nat.beq (Nat.land w 1) 1) (ih<|Nat.shiftRight w 1)) L
def Nf (rows:List Row):List RA->List RA:=
 List.rec (motive:=fun _=>List RA->List RA) (fun L=>L) (fun r _ ih L=>ih (gS L [⟨r,Nat.lor r.w<|yR L r.w⟩])) rows
def jz (P:Program) (ops:Array Oper):List RA:=Nf (Ct (zh P ops) ops.toList) []
def allI {α:Type} (f:Nat->α->Bool) (l:List α):Nat->Bool:=List.rec (motive:=fun _=>Nat->Bool) (fun _=>true) (fun x _ ih i=>Bool.rec (motive:=fun _=>Bool) false (ih<|Nat.succ i) (f i x)) l
def QW {α:Type} (f:Nat->α->Bool) (l:List α):Nat->Option Nat:=List.rec (motive:=fun _=>Nat->Option Nat) (fun _=>none) (fun x _ ih i=>Bool.rec (motive:=fun _=>Option Nat) (ih<|Nat.succ i) (some i) (f i x)) l
def Te {α:Type} (f:Nat->α->Bool) (l:List α):Nat->List Nat:=List.rec (motive:=fun _=>Nat->List Nat) (fun _=>[]) (fun x _ ih i=>Bool.rec (motive:=fun _=>List Nat) (ih<|Nat.succ i) (i::ih (Nat.succ i)) (f i x)) l
def EG (i:Nat) (x:RA) (j:Nat) (y:RA):Bool:=
 Option.rec (motive:=fun _=>Bool) true (fun k=>bif (bif hasB x.r.dm k then Nat.beq j i else true) then(bif hasB x.r.s k then(bif hasB x.a j then true else(bif x.r.k then false else(bif Nat.beq j i then true else hasB y.a i))) else true) else false) y.r.d
def MT (i:Nat) (x:RA) (j:Nat) (y:RA):Bool:=Bool.rec (motive:=fun _=>Bool) (EG i x j y) true (Nat.beq (Nat.land (Nat.lor x.r.dm x.r.s) y.r.dm) 0)
def Nw (L:List RA) (n:Nat):Bool:=
 allI (fun i x=>bif Nat.blt x.r.w (bit n) then(bif (bif x.r.k then x.r.d.isSome else true) then(bif CV x.a (Nat.lor x.r.w<|yR L x.r.w) then allI (MT i x) L 0 else false) else false) else false) L 0
def TA (L:List RA) (fuel:Nat):Nat->List (Nat×List Nat):=
 Nat.rec (motive:=fun _=>Nat->List (Nat×List Nat)) (fun _=>[])
  (fun _ ih D_=>Option.rec (motive:=fun _=>List (Nat×List Nat))
   (Option.rec (motive:=fun _=>List (Nat×List Nat)) [] (fun i=>(i,Option.rec (motive:=fun _=>List Nat) [] (fun x=>Te (fun j y=>bif hasB D_ j then(bif y.r.k then(bif hasB x.a j then false else true) else false) else false) L 0) (nth L i))::ih (Nat.lor D_ (bit i)))
   <|QW (fun i x=>Bool.rec (motive:=fun _=>Bool) (CV x.r.w D_) false (hasB D_ i)) L 0)
   (fun i=>(i,[])::ih (Nat.lor D_<|bit i))<|QW (fun i x=>Bool.rec (motive:=fun _=>Bool) (Bool.rec (motive:=fun _=>Bool) (CV x.r.w D_) false x.r.h) false (hasB D_ i)) L 0) fuel
def LP (L:List RA) (i:Nat) (rc:List Nat) (D_:Nat) (x:RA):Bool:=
 bif hasB D_ i then false else(bif CV x.r.w D_ then(bif x.r.h then allI (fun j y=>bif hasB D_ j then(bif hasB x.a j then true else(bif y.r.k then hasB (nF rc) j else true)) else(bif Nat.beq j i then true else(bif CV y.r.w D_ then false else true))) L 0 else true) else false)
def FY (L:List RA) (n:Nat) (p:List (Nat×List Nat)):Nat->Bool:=
 List.rec (motive:=fun _=>Nat->Bool) (fun D_=>Nat.beq D_ (Nat.sub (bit n) 1))
  (fun p _ ih D_=>Option.rec (motive:=fun _=>Bool) false (fun x=>bif LP L p.1 p.2 D_ x then ih (Nat.lor D_<|bit p.1) else false) (nth L p.1)) p
def lj (P:Program) (ops:Array Oper):List (Nat×List Nat):=TA (jz P ops) ops.size 0
def uO (P:Program) (ops:Array Oper):Bool:=bif Nw (jz P ops) ops.size then FY (jz P ops) ops.size (lj P ops) 0 else false
def kF (P:Program) (G:Cx) (ops:Array Oper) (t:PT V) (O:aB) (i:Nat):Bool:=
 match ops[i]? with
 | some o=>match bR ops t o with
  | some true=>match o.dst with
   | some k=>match t.get (posOf k) with
    | some v=>match kindOf P o.op with
     | .read=>match gE P (bI G t) O o.op with | some u=>dQ u v | none=>false
     | .alloc=>match fP P (bI G t) o.op,v with
      | some (.row cs e false,.ptr),.ptr b 0=>match O.m.get b with | some (.row cs' e' false)=>Nat.beq e e' && dQ.beqL cs cs' | _=>false
      | some (.row cs e false,.slice n c),.slice b 0 n' (.known c')=>match O.m.get b with | some (.row cs' e' false)=>Nat.beq e e' && dQ.beqL cs cs' && Nat.beq n n' && Nat.beq c c' | _=>false
      | _,_=>false
     | _=>false
    | none=>false
   | none=>false
  | some false=>true
  | none=>false
 | none=>false
def dy (P:Program) (G:Cx) (ops:Array Oper) (t:PT V) (O:aB) (l:List Nat):Bool:=
 List.rec (motive:=fun _=>Bool) true (fun i _ r=>bif kF P G ops t O i then r else false) l
def ki (P:Program) (G:Cx) (ih:jY) (ops:Array Oper) (n:Nat) (d:List DE) (l:List (Nat×List Nat)):PT V->aB->CR:=
 List.rec (motive:=fun _=>PT V->aB->CR) (fun t O=>.ok .normal t d O)
  (fun p _ k t O=>match ops[p.1]? with
   | some o=>iy P G ih false ops n o t O (fun t' O'=>bif dy P G ops t' O' p.2 then k t' O' else .err 86)
   | none=>.err 87) l
def vM (P:Program) (G:Cx) (ih:jY) (ops:Array Oper) (n:Nat) (d:List DE) (t:PT V) (O:aB):CR:=
 bif uO P ops then ki P G ih ops n d (lj P ops) t O else .err 88
def Aw (c:Option V) (x y:CR):CR:=
 match c with
 | some (.bool true)=>x
 | some (.bool false)=>y
 | _=>.err 90
def wC (r:CR) (k:PT V->List DE->aB->CR):CR:=
 match r with
 | .ok .normal t d O=>k t d O
 | r=>r
def sB (id:Nat) (r:CR):CR:=
 match r with
 | .ok (.exit j) t d O=>bif Nat.beq j id then .ok .normal t d O else .ok (.exit j) t d O
 | r=>r
def vn (r:CR):CR:=
 match r with
 | .ok (.goto _) _ _ _=>.err 98
 | r=>r
def yI (ro:Option Pos) (d:List DE) (O:aB):Option (Pos×aB×List DE):=
 match ro with
 | none=>some (O.next,O.alloc .mark,DE.mark O.next::d)
 | some l=>match O.m.get l with
  | some (.loop _ _ _ _ _ _ _ df)=>some (df,O,d)
  | _=>none
def FL (ih:jY) (l:Pos) (t:PT V) (n:Nat) (d:List DE) (ro:Option Pos) (O:aB):CR:=
 match O.m.get l with
 | some (.loop st p tmps n' ps asg bd df)=>
  match st with
  | .busy=>.err 91
  | _=>match p with
   | none=>.ok .normal t d (O.setObj l (.loop .exhausted none tmps n' ps asg bd df))
   | some c=>ih c t n d ro (O.setObj l (.loop .exhausted (some c) tmps n' ps asg bd df))
 | _=>.err 92
def vk (P:Program) (G:Cx) (ih:jY) (g:Operand) (ps:Array Tmp) (assign body:Code) (t:PT V) (n:Nat) (d:List DE) (ro:Option Pos) (O:aB):CR:=
 match yI ro d O with
 | some (df,σ₁,d₁)=>
  match bI G t g with
  | some (.func f fi ca)=>bif lI P f then
    match kP P G ih f (gS fi (.yield σ₁.next::ca)) (σ₁.alloc (.loop .ready none t n ps.toList assign body df)) with
    | .ret _ σ₃=>FL ih σ₁.next t n d₁ ro σ₃
    | .kE _ _=>.err 89
    | .err e=>.err e
   else .err 93
  | _=>.err 94
 | none=>.err 95
def Tb (o:Oper):Bool:=
 match o.op with
 | .defer _=>true
 | _=>false
def mu (ops:List Oper):Bool:=ops.any Tb
def D8 (d:List DE) (r:CR):CR:=
 match r with
 | .ok (.kE v) t _ O=>.ok (.kE v) t d O
 | r=>r
def ID (P:Program) (G:Cx) (ih:jY) (c:Code) (t:PT V) (n:Nat) (d:List DE) (ro:Option Pos) (O:aB):CR:=
 match c with
 | .skip | .label _=>.ok .normal t d O
 | .region _ ops draw=>bif draw then vM P G ih ops n d t O else bif mu ops.toList then .err 96 else D8 d (oY P G ih ops n d ops.toList t O)
 | .seq a b=>wC (ih a t n d ro O) (fun t d O=>ih b t n d ro O)
 | .cond c a b=>Aw (bI G t c) (ih a t n d ro O) (ih b t n d ro O)
 | .block id b=>sB id (ih b t n d ro O)
 | .scope b=>vn (ih b t n d ro O)
 | .loop b=>wC (ih b t n d ro O) (fun t d O=>ih (.loop b) t n d ro O)
 | .exit id=>.ok (.exit id) t d O
 | .ret=>.ok .ret t d O
 | .rangeFunc g ps assign body=>vk P G ih g ps assign body t n d ro O
 | _=>.err 99
def eI (P:Program) (G:Cx) (fuel:Nat):jY:=Nat.rec (motive:=fun _=>jY) (fun _ _ _ _ _ _=>.err 100) (fun _ ih=>ID P G ih) fuel
def xS (P:Program) (G:Cx) (fuel:Nat) (f:Nat) (args:List V) (O:aB):KR:=kP P G (eI P G fuel) f args O
variable {ops:Array Oper} {tmps:Array Value}
def lH:Option Nat->Fence
 | none=>Fence.wide
 | some l=>Fence.wide.inRound l
theorem ng (rl:Option Nat) (f:FuncId):(lH rl).fn f:=by cases rl<;>trivial
theorem Gh (rl:Option Nat):(lH rl).depth=none:=by cases rl<;>rfl
theorem Gi (rl:Option Nat):(lH rl).round=rl:=by cases rl<;>rfl
theorem qY (rl:Option Nat) (m:Nat):(lH rl).depth.isSome=true->1<=m:=by rw[Gh];intro h;cases h
theorem sO {m:Nat} {P:Program} {f:FuncId} {args:Array Value} {w:World} {R:Ending->World->Prop} (rl:Option Nat) (h:CallsIn Fence.wide m P f args w R):CallsIn (lH rl) m P f args w R:=by
 cases rl with
 | none=>exact h
 | some l=>exact h.inRound l
theorem O0 (rl:Option Nat) (l:Nat):(lH rl).inRound l=lH (some l):=by cases rl<;>rfl
def DR (Y:Ren):List DE->List Deferred->Prop
 | [],ds=>ds= []
 | .mark b::d,ds=>∃l r,Y b=some l/\ds= {target:=.collected l.dz,args:= #[]}::r/\DR Y d r
 | .call f args ca::d,ds=>∃(xs cs:Array Value) (r:List Deferred),ds= {target:=.fn (.func f) cs,args:=xs}::r/\dA Y args xs.toList/\dA Y ca cs.toList/\DR Y d r
theorem DR.mono {Y Y':Ren} (h:Y.le Y'):∀{d:List DE} {ds:List Deferred},DR Y d ds->DR Y' d ds
 | [],ds,hd=>hd
 | .mark b::d,ds,hd=>let ⟨l,r,h1,u,z⟩:=hd;⟨l,r,h _ _ h1,u,DR.mono h z⟩
 | .call f args ca::d,ds,hd=>let ⟨xs,cs,r,h1,u,z,A⟩:=hd;⟨xs,cs,r,h1,dA.mono h _ _ u,dA.mono h _ _ z,DR.mono h A⟩
def OY:Ex->Exit
 | .normal=>.normal
 | .exit i=>.exit i
 | .goto i=>.goto i
 | .ret=>.ret
 | .kE _=>.normal
def UW (Y:Ren):Ex->Exit->Prop
 | .kE v,E=>∃x,E= .panic [{v:=x,recovered:=false}]/\VR Y v x
 | .normal,E=>E= .normal
 | .exit i,E=>E= .exit i
 | .goto i,E=>E= .goto i
 | .ret,E=>E= .ret
def Qx (Q:Exit->Act->World->Prop) (Y:Ren) (e:Ex) (a:Act) (w:World):Prop:=∀E,UW Y e E->Q E a w
def SH (Y:Ren):KR->Ending->Prop
 | .ret v _,e=>∃x,e= .returned x/\VR Y v x
 | .kE v _,e=>∃x,e= .panicked [{v:=x,recovered:=false}]/\VR Y v x
 | .err _,_=>False
def KR.heap:KR->aB
 | .ret _ O=>O
 | .kE _ O=>O
 | .err _=>⟨0,.leaf⟩
def RO (Y:Ren):Option Pos->Option Nat->Prop
 | none,none=>True
 | some b,some l=>∃loc,Y b=some loc/\loc.dz=l
 | _,_=>False
theorem RO.mono {Y Y':Ren} (h:Y.le Y'):∀{ro:Option Pos} {rl:Option Nat},RO Y ro rl->RO Y' ro rl
 | none,none,_=>trivial
 | some _,some _,⟨loc,h1,d⟩=>⟨loc,h _ _ h1,d⟩
def GR (Y:Ren) (G:Cx):Prop:=∀g,g<G.gl->∃c,Y (posOf g)=some ⟨g,0,c⟩
theorem GR.mono {Y Y':Ren} {G:Cx} (h:Y.le Y') (d:GR Y G):GR Y' G:=fun g hlt=>let ⟨c,u⟩:=d g hlt;⟨c,h _ _ u⟩
structure iN (w w':World):Prop where
 os:w'.os=w.os
 out:w'.output=w.output/\w.drawn<=w'.drawn
 tape:w'.tape=w.tape
 size:w.heap.size<=w'.heap.size
 same:∀r:Nat,r<w.heap.size->w'.heap[r]? =w.heap[r]?
def k9 (w:World) (x:Nat×List V):Prop:=∃c e fr,w.heap[x.1]? =some (.cells c e fr)/\x.2.length<=c.size/\∀(i:Nat) (v:V),x.2[i]? =some v->∃y,c[i]? =some y/\VR (fun _=>none) v y
def Hu (P:Program) (gl:Nat) (laid:List (Nat×List V)) (f:Nat) (args:List V) (v:V):Prop:=
 ∀(w:World) (xs:Array Value),gl<=w.heap.size->KF w->(∀x∈laid,k9 w x)->dA (fun _=>none) args xs.toList->Calls P f xs w fun e w'=>∃x,e= .returned x/\VR (fun _=>none) v x/\iN w w'
structure zJ (P:Program) (G:Cx):Prop where
 ov:∀g,G.ov g=true->xf P g
 NN:∀f args v,G.NN f args=some v->Hu P G.gl G.laid f args v
 mem:∀e∈G.mem,True
 Gv:∀f args O v O',G.Gv f args O=some (v,O')->∀(Y:Ren) (w:World) (xs:Array Value),Inv Y O w->GR Y G->dA Y args xs.toList->Calls P f xs w fun e w'=>∃x Y',e= .returned x/\VR Y' v x/\Inv Y' O' w'/\fb Y O w Y' O' w'
structure Sound (P:Program) (G:Cx) (ih:jY):Prop where
 cx:zJ P G
 run:∀(c:Code) (t:PT V) (n:Nat) (d:List DE) (ro:Option Pos) (O:aB) (e:Ex) (t':PT V) (d':List DE) (O':aB),ih c t n d ro O= .ok e t' d' O'->
  ∀(Y:Ren) (w:World) (a:Act) (rl:Option Nat) (m:Nat) (Q:Exit->Act->World->Prop),Inv Y O w->GR Y G->TR Y t n a.tmps->DR Y d a.defers->RO Y ro rl->
   (∀(Y':Ren) (w':World) (a':Act),Inv Y' O' w'->fb Y O w Y' O' w'->TR Y' t' n a'.tmps->DR Y' d' a'.defers->Qx Q Y' e a' w')->c.wpIn (lH rl) m P Q a w
section
variable {P:Program} {G:Cx} {Y:Ren} {O:aB} {w:World}
theorem TR.set {t:PT V} {n k:Nat} {v:V} {x:Value} (h:TR Y t n tmps) (hk:k<n) (hv:VR Y v x):TR Y (t.put (some v)<|posOf k) n (tmps.setIfInBounds k x):=by
 refine⟨by simpa using h.1,fun j u hu=>?_⟩
 by_cases e:j=k
 ·subst e;rw[PT.dY] at hu;cases hu;refine⟨hk,?_⟩;have:j<tmps.size:=by rw[h.1];exact hk
  simp_all
 rw[PT.dL _ _ _ _ (fun h'=>e (rp h'))] at hu;obtain⟨h1,d⟩:=h.2 j u hu;refine⟨h1,?_⟩
 have:(tmps.setIfInBounds k x).getD j undef=tmps.getD j undef:=by
  simp only[Array.getD_eq_getD_getElem?,Array.getElem?_setIfInBounds]
  grind
 rw[this];exact d
theorem ry {t t':PT V} {n k:Nat} {v:V} (h:dE t n (some k) v=some t'):k<n/\t'=t.put (some v) (posOf k):=by
 unfold dE at h;simp only[bM] at h;split at h
 ·rename_i hk;cases h;exact⟨Nat.le_of_ble_eq_true hk,Z⟩
 cases h
theorem TR.put {t t':PT V} {n:Nat} {a:Act} {dst:Option Tmp} {v:V} {x:Value} (h:TR Y t n a.tmps) (hp:dE t n dst v=some t') (hv:VR Y v x):TR Y t' n (a.put dst x).tmps:=by
 cases dst with
 | none=>cases hp;exact h
 | some k=>
  obtain⟨hk,rfl⟩:=ry hp;exact h.set hk hv
theorem put_defers (a:Act) (dst:Option Tmp) (x:Value):(a.put dst x).defers=a.defers:=by cases dst<;>rfl
theorem wH:VR Y unit undef:=by simp only[unit,VR];exact⟨_,Z,dA.nil⟩
theorem jg {t:PT V} {n:Nat} {a:Act} {v:V} (d:GR Y G) (u:TR Y t n a.tmps) (h:bI G t x=some v):VR Y v (a.eval x):=by
 cases x with
 | tmp k=>exact(u.2 k v h).2
 | const c=>exact qt h
 | global g=>
  simp only[bI,bM] at h;split at h
  ·rename_i hlt;cases h;obtain⟨c,z⟩:=d g (Nat.le_of_ble_eq_true hlt);simp only[VR];exact⟨_,z,by simp[Act.eval]⟩
  cases h
 | func f=>
  cases h;simp only[VR];exact⟨_,_,Z,dA.nil,dA.nil⟩
theorem QD {t:PT V} {n:Nat} {a:Act} (op:Op) (d:GR Y G) (u:TR Y t n a.tmps):ER Y (bI G t) a.eval op:=fun _ _ _ hv=>jg d u hv
theorem Bs {t:PT V} {o:Oper} {b:Bool} (h:bR ops t o=some b)
  (A:∀j want k,o.guard=some (j,want)->(ops[j]?).bind (·.dst)=some k->∀v,t.get (posOf k)=some v->k<tmps.size/\VR Y v (tmps.getD k undef)):
  Region.wanted o (yielded ops tmps)=b:=by
 unfold bR at h;unfold Region.wanted;cases z:o.guard with
 | none=>simp_all
 | some jw=>
  obtain⟨j,want⟩:=jw;rw[z] at h;dsimp only at h⊢;cases hk:(ops[j]?).bind (·.dst) with
  | none=>
   rw[hk] at h;cases h;simp[yielded,hk]
  | some k=>
   rw[hk] at h;dsimp only at h;cases hv:t.get (posOf k) with
   | none=>rw[hv] at h;cases h
   | some v=>
    rw[hv] at h;obtain⟨hlt,u⟩:=A j want k z hk v hv
    have d:tmps[k]? =some (tmps.getD k undef):=by
     simp_all
    generalize tmps.getD k undef=x at u d;cases v with
    | bool c=>
     simp only[VR] at u;subst u;simp only[yielded,hk,Option.bind_some,d];cases h
     grind
    | tuple cs=>
     simp only[VR] at u;obtain⟨y,rfl,_⟩:=u;cases h;simp[yielded,hk,d]
    | _=>cases h
theorem Df {t:PT V} {o:Oper} {b:Bool} {n:Nat} (h:bR ops t o=some b) (d:TR Y t n tmps):Region.wanted o (yielded ops tmps)=b:=
 Bs h fun _ _ k _ _ v hv=>⟨by rw[d.1];exact(d.2 k v hv).1,(d.2 k v hv).2⟩
theorem tU {n:Nat}:∀(ks:List Nat) (vs:List V) (t t':PT V) (tmps:Array Value) (xs:List Value),vj n ks vs t=some t'->TR Y t n tmps->dA Y vs xs->
  ks.length=xs.length/\TR Y t' n ((ks.zip xs).foldl (fun tmps (t,a)=>tmps.setIfInBounds t a) tmps)
 | [],[],t,t',tmps,xs,h,d,hv=>by
  rw[hv.eK];have h':some t=some t':=h;cases h';exact⟨Z,d⟩
 | [],_::_,_,_,_,_,h,_,_=>by have h':(none:Option (PT V))=some _:=h;cases h'
 | _::_,[],_,_,_,_,h,_,_=>by have h':(none:Option (PT V))=some _:=h;cases h'
 | k::ks,v::vs,t,t',tmps,xs,h,d,hv=>by
  obtain⟨x,r,rfl,h1,u⟩:=hv.cons_inv;have h':(match dE t n (some k) v with | some t'=>vj n ks vs t' | none=>none)=some t':=h;cases hp:dE t n (some k) v with
  | none=>rw[hp] at h';cases h'
  | some t₁=>
   rw[hp] at h';obtain⟨hk,rfl⟩:=ry hp;obtain⟨g1,z⟩:=tU ks vs _ t' (tmps.setIfInBounds k x) r h' (d.set hk h1) u;exact⟨by simp[g1],z⟩
theorem FQ {n:Nat} {args:List V} {t:PT V} (h:rS n args=some t) (hv:dA Y args xs.toList):TR Y t n (xs++Array.replicate (n-xs.size) undef):=by
 have key:∀(args:List V) (ys:List Value) (k:Nat) (t t':PT V),(List.rec (motive:=fun _=>Nat->PT V->Option (PT V)) (fun _ t=>some t) (fun v _ ih k t=>match dE t n (some k) v with | some t'=>ih (Nat.succ k) t' | none=>none) args:Nat->PT V->Option (PT V)) k t=some t'->
   dA Y args ys->(∀j v,t.get (posOf j)=some v->j<k/\j<n)->
   (∀j v,t'.get (posOf j)=some v->j<n/\((j<k/\t.get (posOf j)=some v)∨∃y,k<=j/\ys[j-k]? =some y/\VR Y v y))/\(args= []∨k+args.length<=n):=by
  intro args;induction args with
  | nil=>
   simp_all
  | cons v args ih=>
   intro ys k t t' h hv ht;obtain⟨x,r,rfl,h1,z⟩:=hv.cons_inv;dsimp only at h;cases hp:dE t n (some k) v with
   | none=>rw[hp] at h;cases h
   | some t₁=>
    rw[hp] at h;obtain⟨hk,rfl⟩:=ry hp
    obtain⟨g1,A⟩:=ih r (k+1) _ t' h z (fun j u hj=>by
     by_cases e:j=k
     ·omega
     rw[PT.dL _ _ _ _ (fun h'=>e (rp h'))] at hj
     grind)
    refine⟨fun j u hj=>?_,.inr ?_⟩
    ·obtain⟨q1,q2⟩:=g1 j u hj;refine⟨q1,?_⟩;rcases q2 with ⟨hlt,d⟩ | ⟨y,hle,hy,B⟩
     ·by_cases e:j=k
      ·subst e;rw[PT.dY] at d;simp_all
      rw[PT.dL _ _ _ _ (fun h'=>e (rp h'))] at d
      simp_all
     grind
    grind
 obtain⟨g1,A⟩:=key args xs.toList 0 .leaf t h hv (fun j v hj=>by rw[PT.ml] at hj;cases hj);have hlen:=hv.length
 have hle:xs.size<=n:=by
  grind
 refine⟨by simp;omega,fun j v hj=>?_⟩;obtain⟨q1,q2⟩:=g1 j v hj;refine⟨q1,?_⟩;rcases q2 with ⟨hlt,_⟩ | ⟨y,_,hy,B⟩
 ·omega
 rw[Nat.sub_zero] at hy;have aa:j<xs.size:=by grind
 simp_all
def Nl (tmps:Array Value):ResultVar->Sem Value
 | .tmp t=>pure (tmps.getD t undef)
 | .cell a t=>do loadVar t (<-asAddr (tmps.getD a undef))
theorem s7 (fn:Func) (tmps:Array Value):results fn tmps=(fn.results.mapM (Nl tmps)>>= fun vs=>pure (if h:vs.size=1 then vs[0] else .tuple vs)):=rfl
theorem CL (hi:Inv Y O w) {t:PT V} {n:Nat} (z:TR Y t n tmps) {r:ResultVar} {v:V} (h:gQ P t O r=some v):
  ∃x,(Nl tmps r).run P w= .ok x w/\VR Y v x:=by
 cases r with
 | tmp k=>exact⟨_,Z,(z.2 k v h).2⟩
 | cell k ty=>
  simp only[gQ] at h;cases hk:t.get (posOf k) with
  | none=>rw[hk] at h;cases h
  | some u=>
   rw[hk] at h;have hvx:=(z.2 k u hk).2;cases u with
   | ptr b off=>
    dsimp only at h;cases d:O.m.get b with
    | none=>rw[d] at h;cases h
    | some ob=>
     rw[d] at h;cases ob with
     | row cells e ro=>
      simp only[VR] at hvx;obtain⟨l,hl,aa⟩:=hvx;obtain⟨y,hy,hr⟩:=nE (P:=P) hi d hl h
      grind [Nl,asAddr]
     | _=>cases h
   | _=>cases h
theorem qD (hi:Inv Y O w) {t:PT V} {n:Nat} {tmps:Array Value} (z:TR Y t n tmps):∀{rs:List ResultVar} {vs:List V},dv (gQ P t O) rs=some vs->
  ∃xs:List Value,(rs.mapM (Nl tmps):Sem (List Value)).run P w= .ok xs w/\dA Y vs xs
 | [],vs,h=>by rw[ij] at h;cases h;exact⟨[],by simp,dA.nil⟩
 | r::rs,vs,h=>by
  obtain⟨y,r',h1,A,rfl⟩:=gJ h;obtain⟨x,hx,hv⟩:=CL (P:=P) hi z h1;obtain⟨xs,d,u⟩:=qD hi z A;refine⟨x::xs,?_,dA.cons hv u⟩;simp only[List.mapM_cons,sB_,hx,rA,d,sP_]
theorem zW (hi:Inv Y O w) {fn:Func} {t:PT V} {n:Nat} (A:TR Y t n tmps) {v:V} (h:e7 P fn t O=some v):
  ∃x,(results fn tmps).run P w= .ok x w/\VR Y v x:=by
 unfold e7 at h;cases d:dv (gQ P t O) fn.results.toList with
 | none=>rw[d] at h;cases h
 | some vs=>
  rw[d] at h;obtain⟨xs,hx,hv⟩:=qD (P:=P) hi A d
  have hm:(fn.results.mapM (Nl tmps):Sem (Array Value)).run P w= .ok xs.toArray w:=by
   grind [Array.mapM_eq_mapM_toList,Sem.run_map,rA]
  cases vs with
  | nil=>
   cases h;have:=hv.eK;subst this;refine⟨.tuple #[],by rw[s7,sB_,hm];rfl,by simp only[VR];simp_all⟩
  | cons u us=>
   obtain⟨x,r,rfl,h1,z⟩:=hv.cons_inv;cases us with
   | nil=>
    cases h;have:=z.eK;subst this;exact⟨x,by rw[s7,sB_,hm];rfl,h1⟩
   | cons u' us=>
    cases h;obtain⟨x',r',rfl,h3,h4⟩:=z.cons_inv;refine⟨.tuple (x::x'::r').toArray,by rw[s7,sB_,hm];rfl,by simp only[VR];simp_all⟩
end
end Go.Ev
end
