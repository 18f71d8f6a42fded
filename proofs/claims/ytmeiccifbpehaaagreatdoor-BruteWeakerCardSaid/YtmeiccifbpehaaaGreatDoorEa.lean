/- Part of the proof: an evaluator of the model's code, rules for walks on it, walks. Without conditions. -/
import Derived.CallsIn
import Derived.Laws.World
import Derived.KernelRfl
import Init
import Derived.Laws.AppendOwn
import Derived.Laws.Strings
import Derived.Great.BuildSlice
import Derived.Laws.Tables
import Derived.Laws.MakeOwn
import Derived.Laws.StructEq
import Derived.Laws.Small
import Derived.ChangeKeysEq
import Derived.LaidEql
import Derived.Lib.Strings
import Derived.Lib.Builder
import Derived.Lib.Overlaps
import Derived.Laws.IdiomStrings
import Derived.Lib.UnsafeStr
import Derived.Lib.ConvBytes
import Derived.RangeFuncNested
set_option linter.unusedSectionVars false
set_option linter.unusedVariables false
set_option linter.unusedSimpArgs false
noncomputable section
namespace Go.Ev
theorem gA:type_of% @List.getElem?_eq_some_iff:= @List.getElem?_eq_some_iff
theorem gB_:type_of% @List.mem_of_getElem?:= @List.mem_of_getElem?
theorem rA:type_of% @Result.andThen_ok:= @Result.andThen_ok
theorem gC:type_of% @List.getElem?_eq_getElem:= @List.getElem?_eq_getElem
theorem nB:type_of% @Nat.eq_of_beq_eq_true:= @Nat.eq_of_beq_eq_true
theorem bA_:type_of% @Bool.and_eq_true:= @Bool.and_eq_true
theorem sB_:type_of% @Sem.run_bind:= @Sem.run_bind
theorem sP_:type_of% @Sem.run_pure:= @Sem.run_pure
theorem nE_:type_of% @Nat.ble_eq:= @Nat.ble_eq
theorem lT_:type_of% @List.length_take:= @List.length_take
theorem oJ_:type_of% @Option.some.injEq:= @Option.some.injEq
theorem lA_:type_of% @List.length_append:= @List.length_append
theorem mC_:type_of% @List.mem_cons_of_mem:= @List.mem_cons_of_mem
theorem lM_:type_of% @List.length_map:= @List.length_map
theorem aT_:type_of% @Array.getElem?_toList:= @Array.getElem?_toList
theorem mS_:type_of% @List.mem_cons_self:= @List.mem_cons_self
theorem gM_:type_of% @List.getElem?_map:= @List.getElem?_map
theorem gL_:type_of% @List.getElem?_append_left:= @List.getElem?_append_left
theorem gO_:type_of% @List.getElem?_of_mem:= @List.getElem?_of_mem
theorem tL_:type_of% @List.take_of_length_le:= @List.take_of_length_le
theorem aE_:type_of% @List.all_eq_true:= @List.all_eq_true
theorem eN_:type_of% @List.eq_nil_of_length_eq_zero:= @List.eq_nil_of_length_eq_zero
theorem gN_:type_of% @List.getElem?_eq_none:= @List.getElem?_eq_none
theorem lD_:type_of% @List.length_drop:= @List.length_drop
theorem mQ_:type_of% @List.mem_cons:= @List.mem_cons
theorem nM_:type_of% @Nat.mul_le_mul_right:= @Nat.mul_le_mul_right
theorem oM_:type_of% @Option.map_eq_some_iff:= @Option.map_eq_some_iff
theorem lQ_:type_of% @List.append_assoc:= @List.append_assoc
theorem nZ_:type_of% @Nat.not_lt_zero:= @Nat.not_lt_zero
theorem nR_:type_of% @Nat.le_refl:= @Nat.le_refl
theorem nA_:type_of% @Nat.zero_add:= @Nat.zero_add
theorem iJ_:type_of% @Int.ofNat.inj:= @Int.ofNat.inj
theorem gR_:type_of% @List.getElem?_append_right:= @List.getElem?_append_right
theorem eR_:type_of% @List.eq_of_mem_replicate:= @List.eq_of_mem_replicate
theorem aG_:type_of% @Array.getElem?_eq_getElem:= @Array.getElem?_eq_getElem
theorem aS_:type_of% @Array.getElem?_eq_some_iff:= @Array.getElem?_eq_some_iff
theorem za_:type_of% @List.singleton_append:= @List.singleton_append
theorem zb_:type_of% @List.take_add_one:= @List.take_add_one
theorem zc_:type_of% @List.length_cons:= @List.length_cons
theorem zd_:type_of% @Bool.eq_iff_iff:= @Bool.eq_iff_iff
theorem ze_:type_of% @Option.isSome_iff_exists:= @Option.isSome_iff_exists
theorem zf_:type_of% @List.ext_getElem?:= @List.ext_getElem?
theorem zg_:type_of% @List.length_set:= @List.length_set
theorem zh_:type_of% @Nat.lt_of_lt_of_le:= @Nat.lt_of_lt_of_le
theorem zi_:type_of% @Bool.false_eq_true:= @Bool.false_eq_true
theorem zj_:type_of% @List.drop_eq_getElem_cons:= @List.drop_eq_getElem_cons
theorem zk_:type_of% @List.append_nil:= @List.append_nil
theorem zl_:type_of% @List.drop_drop:= @List.drop_drop
theorem zm_:type_of% @List.getElem?_cons_zero:= @List.getElem?_cons_zero
theorem zn_:type_of% @List.mem_map:= @List.mem_map
theorem zo_:type_of% @Classical.byContradiction:= @Classical.byContradiction
theorem zp_:type_of% @Bool.true_and:= @Bool.true_and
theorem zq_:type_of% @List.length_singleton:= @List.length_singleton
theorem zr_:type_of% @List.getElem?_range:= @List.getElem?_range
theorem zs_:type_of% @Option.some.inj:= @Option.some.inj
theorem Z {α:Sort _} {a:α}:a=a:=rfl
theorem B {p:Prop} (h:p:=by kernel_rfl):p:=h
theorem oM {p:Prop} (h:p:=by omega):p:=h
abbrev Pos:=Nat
abbrev Pos.succ (p:Pos):Pos:=Nat.succ p
abbrev Pos.num (p:Pos):Nat:=p
theorem Pos.iR (p:Pos):p.succ.num=p.num+1:=rfl
abbrev posOf (n:Nat):Pos:=n
theorem rU {m n:Nat} (h:posOf m=posOf n):m=n:=h
structure kO (α:Type) where
 c0:α
 c1:α
 c2:α
 c3:α
 c4:α
 c5:α
 c6:α
 c7:α
 c8:α
 c9:α
 sW:α
 sX:α
 sY:α
 sZ:α
 s5:α
 s7:α
structure Gt (α:Type) where
 run:kO α->α
structure Gu (α:Type) where
 run:kO α->α->kO α
section
variable {α:Type}
def jZ (n:Nat):Gt α:=(Bool.rec (motive:=fun _=>Gt α) (Bool.rec (motive:=fun _=>Gt α) (Bool.rec (motive:=fun _=>Gt α) (Bool.rec (motive:=fun _=>Gt α) ⟨fun t=>t.c0⟩ ⟨fun t=>t.c1⟩<|Nat.ble 1 n) (Bool.rec (motive:=fun _=>Gt α) ⟨fun t=>t.c2⟩ ⟨fun t=>t.c3⟩<|Nat.ble 3 n)<|Nat.ble 2 n) (Bool.rec (motive:=fun _=>Gt α) (Bool.rec (motive:=fun _=>Gt α) ⟨fun t=>t.c4⟩ ⟨fun t=>t.c5⟩<|Nat.ble 5 n) (Bool.rec (motive:=fun _=>Gt α) ⟨fun t=>t.c6⟩ ⟨fun t=>t.c7⟩<|Nat.ble 7 n)<|Nat.ble 6 n)<|Nat.ble 4 n) (Bool.rec (motive:=fun _=>Gt α) (Bool.rec (motive:=fun _=>Gt α) (Bool.rec (motive:=fun _=>Gt α) ⟨fun t=>t.c8⟩ ⟨fun t=>t.c9⟩<|Nat.ble 9 n) (Bool.rec (motive:=fun _=>Gt α) ⟨fun t=>t.sW⟩ ⟨fun t=>t.sX⟩<|Nat.ble 11 n)<|Nat.ble 10 n) (Bool.rec (motive:=fun _=>Gt α) (Bool.rec (motive:=fun _=>Gt α) ⟨fun t=>t.sY⟩ ⟨fun t=>t.sZ⟩<|Nat.ble 13 n) (Bool.rec (motive:=fun _=>Gt α) ⟨fun t=>t.s5⟩ ⟨fun t=>t.s7⟩<|Nat.ble 15 n)<|Nat.ble 14 n)<|Nat.ble 12 n)<|Nat.ble 8 n)
def Bb (n:Nat):Gu α:=(Bool.rec (motive:=fun _=>Gu α) (Bool.rec (motive:=fun _=>Gu α) (Bool.rec (motive:=fun _=>Gu α) (Bool.rec (motive:=fun _=>Gu α) ⟨fun t v=>kO.rec (motive:=fun _=>kO α) (fun _ c1 c2 c3 c4 c5 c6 c7 c8 c9 sW sX sY sZ s5 s7=>⟨v,c1,c2,c3,c4,c5,c6,c7,c8,c9,sW,sX,sY,sZ,s5,s7⟩) t⟩ ⟨fun t v=>kO.rec (motive:=fun _=>kO α) (fun c0 _ c2 c3 c4 c5 c6 c7 c8 c9 sW sX sY sZ s5 s7=>⟨c0,v,c2,c3,c4,c5,c6,c7,c8,c9,sW,sX,sY,sZ,s5,s7⟩) t⟩<|Nat.ble 1 n) (Bool.rec (motive:=fun _=>Gu α) ⟨fun t v=>kO.rec (motive:=fun _=>kO α) (fun c0 c1 _ c3 c4 c5 c6 c7 c8 c9 sW sX sY sZ s5 s7=>⟨c0,c1,v,c3,c4,c5,c6,c7,c8,c9,sW,sX,sY,sZ,s5,s7⟩) t⟩ ⟨fun t v=>kO.rec (motive:=fun _=>kO α) (fun c0 c1 c2 _ c4 c5 c6 c7 c8 c9 sW sX sY sZ s5 s7=>⟨c0,c1,c2,v,c4,c5,c6,c7,c8,c9,sW,sX,sY,sZ,s5,s7⟩) t⟩<|Nat.ble 3 n)<|Nat.ble 2 n) (Bool.rec (motive:=fun _=>Gu α) (Bool.rec (motive:=fun _=>Gu α) ⟨fun t v=>kO.rec (motive:=fun _=>kO α) (fun c0 c1 c2 c3 _ c5 c6 c7 c8 c9 sW sX sY sZ s5 s7=>⟨c0,c1,c2,c3,v,c5,c6,c7,c8,c9,sW,sX,sY,sZ,s5,s7⟩) t⟩ ⟨fun t v=>kO.rec (motive:=fun _=>kO α) (fun c0 c1 c2 c3 c4 _ c6 c7 c8 c9 sW sX sY sZ s5 s7=>⟨c0,c1,c2,c3,c4,v,c6,c7,c8,c9,sW,sX,sY,sZ,s5,s7⟩) t⟩<|Nat.ble 5 n) (Bool.rec (motive:=fun _=>Gu α) ⟨fun t v=>kO.rec (motive:=fun _=>kO α) (fun c0 c1 c2 c3 c4 c5 _ c7 c8 c9 sW sX sY sZ s5 s7=>⟨c0,c1,c2,c3,c4,c5,v,c7,c8,c9,sW,sX,sY,sZ,s5,s7⟩) t⟩ ⟨fun t v=>kO.rec (motive:=fun _=>kO α) (fun c0 c1 c2 c3 c4 c5 c6 _ c8 c9 sW sX sY sZ s5 s7=>⟨c0,c1,c2,c3,c4,c5,c6,v,c8,c9,sW,sX,sY,sZ,s5,s7⟩) t⟩<|Nat.ble 7 n)<|Nat.ble 6 n)<|Nat.ble 4 n) (Bool.rec (motive:=fun _=>Gu α) (Bool.rec (motive:=fun _=>Gu α) (Bool.rec (motive:=fun _=>Gu α) ⟨fun t v=>kO.rec (motive:=fun _=>kO α) (fun c0 c1 c2 c3 c4 c5 c6 c7 _ c9 sW sX sY sZ s5 s7=>⟨c0,c1,c2,c3,c4,c5,c6,c7,v,c9,sW,sX,sY,sZ,s5,s7⟩) t⟩ ⟨fun t v=>kO.rec (motive:=fun _=>kO α) (fun c0 c1 c2 c3 c4 c5 c6 c7 c8 _ sW sX sY sZ s5 s7=>⟨c0,c1,c2,c3,c4,c5,c6,c7,c8,v,sW,sX,sY,sZ,s5,s7⟩) t⟩<|Nat.ble 9 n) (Bool.rec (motive:=fun _=>Gu α) ⟨fun t v=>kO.rec (motive:=fun _=>kO α) (fun c0 c1 c2 c3 c4 c5 c6 c7 c8 c9 _ sX sY sZ s5 s7=>⟨c0,c1,c2,c3,c4,c5,c6,c7,c8,c9,v,sX,sY,sZ,s5,s7⟩) t⟩ ⟨fun t v=>kO.rec (motive:=fun _=>kO α) (fun c0 c1 c2 c3 c4 c5 c6 c7 c8 c9 sW _ sY sZ s5 s7=>⟨c0,c1,c2,c3,c4,c5,c6,c7,c8,c9,sW,v,sY,sZ,s5,s7⟩) t⟩<|Nat.ble 11 n)<|Nat.ble 10 n) (Bool.rec (motive:=fun _=>Gu α) (Bool.rec (motive:=fun _=>Gu α) ⟨fun t v=>kO.rec (motive:=fun _=>kO α) (fun c0 c1 c2 c3 c4 c5 c6 c7 c8 c9 sW sX _ sZ s5 s7=>⟨c0,c1,c2,c3,c4,c5,c6,c7,c8,c9,sW,sX,v,sZ,s5,s7⟩) t⟩ ⟨fun t v=>kO.rec (motive:=fun _=>kO α) (fun c0 c1 c2 c3 c4 c5 c6 c7 c8 c9 sW sX sY _ s5 s7=>⟨c0,c1,c2,c3,c4,c5,c6,c7,c8,c9,sW,sX,sY,v,s5,s7⟩) t⟩<|Nat.ble 13 n) (Bool.rec (motive:=fun _=>Gu α) ⟨fun t v=>kO.rec (motive:=fun _=>kO α) (fun c0 c1 c2 c3 c4 c5 c6 c7 c8 c9 sW sX sY sZ _ s7=>⟨c0,c1,c2,c3,c4,c5,c6,c7,c8,c9,sW,sX,sY,sZ,v,s7⟩) t⟩ ⟨fun t v=>kO.rec (motive:=fun _=>kO α) (fun c0 c1 c2 c3 c4 c5 c6 c7 c8 c9 sW sX sY sZ s5 _=>⟨c0,c1,c2,c3,c4,c5,c6,c7,c8,c9,sW,sX,sY,sZ,s5,v⟩) t⟩<|Nat.ble 15 n)<|Nat.ble 14 n)<|Nat.ble 12 n)<|Nat.ble 8 n)
theorem Oi {n:Nat} (h:n<16):n=0∨n=1∨n=2∨n=3∨n=4∨n=5∨n=6∨n=7∨n=8∨n=9∨n=10∨n=11∨n=12∨n=13∨n=14∨n=15:=by omega
theorem FX (n:Nat) (t:kO α) (v:α) (hn:n<16):(jZ n).run ((Bb n).run t v)=v:=by
 rcases Oi hn with rfl | rfl | rfl | rfl | rfl | rfl | rfl | rfl | rfl | rfl | rfl | rfl | rfl | rfl | rfl | rfl<;>rfl
theorem Sk (n:Nat) (t:kO α) (v u:α) (hn:n<16):(Bb n).run ((Bb n).run t v) u=(Bb n).run t u:=by
 rcases Oi hn with rfl | rfl | rfl | rfl | rfl | rfl | rfl | rfl | rfl | rfl | rfl | rfl | rfl | rfl | rfl | rfl<;>rfl
theorem L7 (m n:Nat) (t:kO α) (v:α) (hm:m<16) (hn:n<16) (h:m≠n):(jZ m).run ((Bb n).run t v)=(jZ m).run t:=by
 rcases Oi hm with rfl | rfl | rfl | rfl | rfl | rfl | rfl | rfl | rfl | rfl | rfl | rfl | rfl | rfl | rfl | rfl<;>rcases Oi hn with rfl | rfl | rfl | rfl | rfl | rfl | rfl | rfl | rfl | rfl | rfl | rfl | rfl | rfl | rfl | rfl<;>first | rfl | exact absurd rfl h
theorem JT (m n:Nat) (t:kO α) (v:α) (hm:m<16) (hn:n<16):(jZ m).run ((Bb n).run t v)=if m=n then v else(jZ m).run t:=by
 by_cases h:m=n
 ·subst h;rw[if_pos Z,FX _ _ _ hn]
 rw[if_neg h,L7 _ _ _ _ hm hn h]
abbrev jD (α:Type):=kO (kO α)
def lf (t:jD α) (k:Nat):α:=(jZ<|Nat.mod k 16).run ((jZ<|Nat.div k 16).run t)
def tG (t:jD α) (k:Nat) (v:α):jD α:=(Bb<|Nat.div k 16).run t ((Bb<|Nat.mod k 16).run ((jZ<|Nat.div k 16).run t) v)
theorem mG (t:jD α) (k j:Nat) (v:α) (hk:k<256) (hj:j<256):lf (tG t k v) j=if j=k then v else lf t j:=by
 have e:∀n m:Nat,Nat.mod n m=n%m:=fun _ _=>Z
 have e':∀n m:Nat,Nat.div n m=n/m:=fun _ _=>Z
 simp only[lf,tG,e,e'];rw[JT _ _ _ _ oM oM]
 by_cases h1:j/16=k/16
 ·rw[if_pos h1,JT _ _ _ _ oM oM]
  grind
 grind
theorem zX (t:jD α) (k:Nat) (v u:α) (hk:k<256):tG (tG t k v) k u=tG t k u:=by
 have h1:Nat.mod k 16<16:=Nat.mod_lt _ oM;have h2:Nat.div k 16<16:=Nat.div_lt_of_lt_mul hk
 grind [tG,FX,Sk]
def kO.all (x:α):kO α:=⟨x,x,x,x,x,x,x,x,x,x,x,x,x,x,x,x⟩
def jD.all (x:α):jD α:=kO.all (kO.all x)
theorem JS (n:Nat) (y:α) (hn:n<16):(jZ n).run (kO.all y)=y:=by
 rcases Oi hn with rfl | rfl | rfl | rfl | rfl | rfl | rfl | rfl | rfl | rfl | rfl | rfl | rfl | rfl | rfl | rfl<;>rfl
theorem zc (x:α) (k:Nat) (hk:k<256):lf (jD.all x) k=x:=by
 have h1:Nat.mod k 16<16:=Nat.mod_lt _ oM;have u:Nat.div k 16<16:=Nat.div_lt_of_lt_mul hk;simp only[lf,jD.all,JS _ _ h1,JS _ _ u]
def uI (v:Option α) (n:Nat):List (Option α)->List (Option α):=
 Nat.rec (motive:=fun _=>List (Option α)->List (Option α)) (fun l=>List.rec (motive:=fun _=>List<|Option α) [v] (fun _ r _=>v::r) l)
  (fun _ ih l=>List.rec (motive:=fun _=>List<|Option α) (none::ih []) (fun x r _=>x::ih r) l) n
def Lb (l:List (Option α)):Nat->Option α:=
 List.rec (motive:=fun _=>Nat->Option α) (fun _=>none) (fun x _ ih n=>Nat.rec (motive:=fun _=>Option α) x (fun m _=>ih m) n) l
theorem zd (v:Option α):∀(k:Nat) (l:List (Option α)) (j:Nat),Lb (uI v k l) j=if j=k then v else Lb l j
 | 0,[],0=>rfl
 | 0,[],j+1=>by rw[if_neg oM];rfl
 | 0,x::r,0=>rfl
 | 0,x::r,j+1=>by rw[if_neg oM];rfl
 | k+1,[],0=>by rw[if_neg oM];rfl
 | k+1,[],j+1=>by
  show Lb (uI v k []) j=_;rw[zd v k [] j]
  by_cases h:j=k
  ·simp_all
  rw[if_neg h,if_neg oM];rfl
 | k+1,x::r,0=>by rw[if_neg oM];rfl
 | k+1,x::r,j+1=>by
  show Lb (uI v k r) j=_;rw[zd v k r j]
  by_cases h:j=k
  ·simp_all
  rw[if_neg h,if_neg oM];rfl
theorem zY (v u:Option α):∀(k:Nat) (l:List (Option α)),uI u k (uI v k l)=uI u k l
 | 0,[]=>rfl
 | 0,x::r=>rfl
 | k+1,[]=>by
  show none::uI u k (uI v k [])=none::uI u k [];rw[zY v u k []]
 | k+1,x::r=>by
  show x::uI u k (uI v k r)=x::uI u k r;rw[zY v u k r]
structure PT (α:Type) where
 s:jD (Option α)
 m:jD (jD<|Option α)
 l:List (Option α)
def PT.leaf:PT α:=⟨jD.all none,jD.all<|jD.all none,[]⟩
def PT.La (t:PT α) (p:Nat):Option α:=
 Bool.rec (motive:=fun _=>Option α) (Bool.rec (motive:=fun _=>Option α) (Lb t.l p) (lf (lf t.m<|Nat.div p 256)<|Nat.mod p 256)<|Nat.ble p 65535) (lf t.s p) (Nat.ble p 255)
def PT.LK (o:Option α) (t:PT α) (p:Nat):PT α:=
 Bool.rec (motive:=fun _=>PT α) (Bool.rec (motive:=fun _=>PT α) (PT.rec (motive:=fun _=>PT α) (fun s m l=>⟨s,m,uI o p l⟩) t)
  (PT.rec (motive:=fun _=>PT α) (fun s m l=>⟨s,tG m (Nat.div p 256)<|tG (lf m<|Nat.div p 256) (Nat.mod p 256) o,l⟩) t)<|Nat.ble p 65535)
  (PT.rec (motive:=fun _=>PT α) (fun s m l=>⟨tG s p o,m,l⟩) t) (Nat.ble p 255)
def PT.get (t:PT α) (p:Pos):Option α:=Nat.rec (motive:=fun _=>Option α) (t.La 0) (fun m _=>t.La (Nat.succ m)) p
def PT.put (o:Option α) (t:PT α) (p:Pos):PT α:=Nat.rec (motive:=fun _=>PT α) (t.LK o 0) (fun m _=>t.LK o (Nat.succ m)) p
theorem PT.get_eq (t:PT α) (p:Nat):t.get p=t.La p:=by cases p<;>rfl
theorem PT.put_eq (o:Option α) (t:PT α) (p:Nat):t.put o p=t.LK o p:=by cases p<;>rfl
theorem tV (m n:Nat):Nat.blt m n=true↔m<n:=by simp_all
theorem pr (m n:Nat):Nat.ble m n=true↔m<n+1:=by rw[nE_,Nat.lt_succ_iff]
theorem vC {m n:Nat} (h:¬m<n+1):Nat.ble m n=false:=by
 grind [pr]
theorem PT.sG (t:PT α) {p:Nat} (h:p<256):t.get p=lf t.s p:=by rw[PT.get_eq];unfold PT.La;rw[(pr p 255).2 h]
theorem PT.BK (t:PT α) {p:Nat} (h:¬p<256) (h':p<65536):t.get p=lf (lf t.m<|Nat.div p 256) (Nat.mod p 256):=by
 rw[PT.get_eq];unfold PT.La;rw[vC (n:=255) h,(pr p 65535).2 h']
theorem PT.BJ (t:PT α) {p:Nat} (h:¬p<65536):t.get p=Lb t.l p:=by
 rw[PT.get_eq];unfold PT.La;rw[vC (n:=255) oM,vC (n:=65535) h]
theorem PT.w8 (o:Option α) (s:jD (Option α)) (m:jD (jD<|Option α)) (l:List (Option α)) {p:Nat} (h:p<256):(PT.mk s m l).put o p=⟨tG s p o,m,l⟩:=by rw[PT.put_eq];unfold PT.LK;rw[(pr p 255).2 h]
theorem PT.JE (o:Option α) (s:jD (Option α)) (m:jD (jD<|Option α)) (l:List (Option α)) {p:Nat} (h:¬p<256) (h':p<65536):
  (PT.mk s m l).put o p=⟨s,tG m (Nat.div p 256)<|tG (lf m<|Nat.div p 256) (Nat.mod p 256) o,l⟩:=by
 rw[PT.put_eq];unfold PT.LK;rw[vC (n:=255) h,(pr p 65535).2 h']
theorem PT.JD (o:Option α) (s:jD (Option α)) (m:jD (jD<|Option α)) (l:List (Option α)) {p:Nat} (h:¬p<65536):(PT.mk s m l).put o p=⟨s,m,uI o p l⟩:=by
 rw[PT.put_eq];unfold PT.LK;rw[vC (n:=255) oM,vC (n:=65535) h]
theorem PT.mF (p:Nat):(PT.leaf:PT α).get p=none:=by
 by_cases h1:p<256
 ·rw[PT.sG _ h1];exact zc _ _ h1
 by_cases u:p<65536
 ·rw[PT.BK _ h1 u];show lf (lf (jD.all<|jD.all none) _) _=none;have A:Nat.div p 256<256:=Nat.div_lt_of_lt_mul u;have hm:Nat.mod p 256<256:=Nat.mod_lt _ oM;rw[zc _ _ A,zc _ _ hm]
 rw[PT.BJ _ u];rfl
theorem PT.jI (o:Option α) (t:PT α) (p q:Nat):(t.put o p).get q=if q=p then o else t.get q:=by
 cases t with
 | mk s m l=>
 by_cases h1:p<256
 ·rw[PT.w8 o s m l h1]
  by_cases u:q<256
  ·rw[PT.sG _ u,PT.sG _ u];exact mG s p q o h1 u
  rw[if_neg oM]
  grind [PT.BK,PT.BJ]
 by_cases h3:p<65536
 ·rw[PT.JE o s m l h1 h3]
  by_cases u:q<256
  ·rw[if_neg oM,PT.sG _ u,PT.sG _ u]
  by_cases A:q<65536
  ·rw[PT.BK _ u A,PT.BK _ u A];have hp:Nat.div p 256<256:=Nat.div_lt_of_lt_mul h3;have hq:Nat.div q 256<256:=Nat.div_lt_of_lt_mul A;have C:Nat.mod p 256<256:=Nat.mod_lt _ oM;have E:Nat.mod q 256<256:=Nat.mod_lt _ oM;show lf (lf (tG m (Nat.div p 256) _)<|Nat.div q 256) (Nat.mod q 256)=_;rw[mG _ _ _ _ hp hq]
   by_cases e:Nat.div q 256=Nat.div p 256
   ·rw[if_pos e,mG _ _ _ _ C E]
    by_cases e2:Nat.mod q 256=Nat.mod p 256
    ·rw[if_pos e2,if_pos];have f1:q/256=p/256:=e;have f2:q%256=p%256:=e2;omega
    grind
   grind
  rw[if_neg oM,PT.BJ _ A,PT.BJ _ A]
 rw[PT.JD o s m l h3]
 by_cases u:q<256
 ·rw[if_neg oM,PT.sG _ u,PT.sG _ u]
 by_cases A:q<65536
 ·rw[if_neg oM,PT.BK _ u A,PT.BK _ u A]
 rw[PT.BJ _ A,PT.BJ _ A];exact zd o p l q
theorem PT.dR (o:Option α) (t:PT α) (p:Pos):(t.put o p).get p=o:=by rw[PT.jI,if_pos Z]
theorem PT.dD (o:Option α) (t:PT α) (p q:Pos) (h:q≠p):(t.put o p).get q=t.get q:=by rw[PT.jI,if_neg h]
theorem PT.RZ (o o':Option α) (t:PT α) (p:Nat):(t.put o p).put o' p=t.put o' p:=by
 cases t with
 | mk s m l=>
 by_cases h1:p<256
 ·rw[PT.w8 o s m l h1,PT.w8 _ _ _ _ h1,PT.w8 _ _ _ _ h1,zX _ _ _ _ h1]
 by_cases h3:p<65536
 ·have hp:Nat.div p 256<256:=Nat.div_lt_of_lt_mul h3;have u:Nat.mod p 256<256:=Nat.mod_lt _ oM;rw[PT.JE o s m l h1 h3,PT.JE _ _ _ _ h1 h3,PT.JE _ _ _ _ h1 h3,zX _ _ _ _ hp,mG _ _ _ _ hp hp,if_pos Z,zX _ _ _ _ u]
 rw[PT.JD o s m l h3,PT.JD _ _ _ _ h3,PT.JD _ _ _ _ h3,zY]
end
section
variable {α β:Type}
def nth (l:List α):Nat->Option α:=
 List.rec (motive:=fun _=>Nat->Option α) (fun _=>none) (fun x _ ih n=>Nat.rec (motive:=fun _=>Option α) (some x) (fun m _=>ih m) n) l
theorem fL:∀(l:List α) (n:Nat),nth l n=l[n]?
 | [],_=>rfl
 | _::_,0=>rfl
 | _::l,n+1=>by
  show nth l n=_;rw[fL l n];simp
def Ib (v:α) (l:List α):Nat->List α:=
 List.rec (motive:=fun _=>Nat->List α) (fun _=>[]) (fun x l ih n=>Nat.rec (motive:=fun _=>List α) (v::l) (fun m _=>x::ih m) n) l
theorem r6 (v:α):∀(l:List α) (n:Nat),Ib v l n=l.set n v
 | [],_=>rfl
 | _::_,0=>rfl
 | x::l,n+1=>by
  show x::Ib v l n=_;rw[r6 v l n];simp
def dZ (l:List α):Nat->List α:=
 List.rec (motive:=fun _=>Nat->List α) (fun _=>[]) (fun x l ih n=>Nat.rec (motive:=fun _=>List α) (x::l) (fun m _=>ih m) n) l
theorem eB:∀(l:List α) (n:Nat),dZ l n=l.drop n
 | [],n=>by simp[dZ]
 | _::_,0=>rfl
 | x::l,n+1=>by
  show dZ l n=_;rw[eB l n];simp
def takeN (l:List α):Nat->List α:=
 List.rec (motive:=fun _=>Nat->List α) (fun _=>[]) (fun x _ ih n=>Nat.rec (motive:=fun _=>List α) [] (fun m _=>x::ih m) n) l
theorem dT:∀(l:List α) (n:Nat),takeN l n=l.take n
 | [],n=>by simp[takeN]
 | _::_,0=>rfl
 | x::l,n+1=>by
  show x::takeN l n=_;rw[dT l n];simp
def dt (l:List α):Nat:=List.rec (motive:=fun _=>Nat) 0 (fun _ _ n=>Nat.succ n) l
theorem cC:∀(l:List α),dt l=l.length
 | []=>rfl
 | _::l=>by show Nat.succ (dt l)=_;rw[cC l];rfl
def gV (l m:List α):List α:=List.rec (motive:=fun _=>List α) m (fun x _ r=>x::r) l
theorem dU:∀(l m:List α),gV l m=l++m
 | [],_=>rfl
 | x::l,m=>by show x::gV l m=_;rw[dU l m];rfl
def AT (f:α->β) (l:List α):List β:=List.rec (motive:=fun _=>List β) [] (fun x _ r=>f x::r) l
theorem lP (f:α->β):∀(l:List α),AT f l=l.map f
 | []=>rfl
 | x::l=>by show f x::AT f l=_;rw[lP f l];rfl
def cX (f:α->Option β) (l:List α):Option (List β):=
 List.rec (motive:=fun _=>Option<|List β) (some []) (fun x _ r=>
  Option.rec (motive:=fun _=>Option<|List β) none (fun y=>Option.rec (motive:=fun _=>Option<|List β) none (fun ys=>some (y::ys)) r)<|f x) l
theorem il (f:α->Option β):cX f []=some []:=rfl
theorem gJ {f:α->Option β} {x:α} {l:List α} {ys:List β} (h:cX f (x::l)=some ys):∃y r,f x=some y/\cX f l=some r/\ys=y::r:=by
 have e:cX f (x::l)=Option.rec (motive:=fun _=>Option<|List β) none (fun y=>Option.rec (motive:=fun _=>Option<|List β) none (fun ys=>some (y::ys)) (cX f l)) (f x):=rfl;rw[e] at h;cases hx:f x with
 | none=>rw[hx] at h;cases h
 | some y=>
  rw[hx] at h;cases u:cX f l with
  | none=>rw[u] at h;cases h
  | some r=>
   simp_all
end
end Go.Ev
namespace Go.Ev
variable {α:Type}
structure Qu (c:α->α->Int) (P:α->Prop):Prop where
 zero:∀x y,P x->P y->(c x y=0↔x=y)
 neg:∀x y,P x->P y->(c x y<0↔0<c y x)
 trans:∀x y z,P x->P y->P z->c x y<0->c y z<0->c x z<0
def ni (c:α->α->Int):α->List α->List α
 | _,[]=>[]
 | p,x::l=>if c x p=0 then ni c x l else x::ni c x l
def dc (c:α->α->Int):List α->List α
 | []=>[]
 | x::l=>x::ni c x l
section
variable {c:α->α->Int} {P:α->Prop}
theorem Qu.XF (h:Qu c P) {x:α} (hx:P x):¬c x x<0:=by
 rw[(h.zero x x hx hx).2 Z];omega
end
end Go.Ev
namespace Go.Ev
 class Env where
 τ:Nat->Value
 n0:Nat
 h0:Array Obj
variable [Env]
inductive oY where
 | known (n:Nat)
 | upto (sz:Nat)
 | least (a sz:Nat)
 deriving Inhabited
inductive Y where
 | bool (b:Bool)
 | int (k:IntKind) (n:Int)
 | str (s:List Nat)
 | nilPtr
 | ptr (b:Pos) (off:Nat)
 | aw
 | slice (b:Pos) (off len:Nat) (cap:oY)
 | iy
 | map (b:Pos)
 | func (f:Nat) (first captured:List Y)
 | yield (l:Pos)
 | nilFunc
 | iface (t:Nat) (v:Y)
 | nilIface
 | agg (cs:List Y)
 | tuple (vs:List Y)
 | any
 | pf (a:Nat)
 | tok (n:Nat)
 deriving Inhabited
structure Loc where
 de:Nat
 sh:Nat
 cells:Nat
abbrev Ren:=Pos->Option Loc
def gQ (s:List Nat) (bs:ByteArray):Prop:=bs.data.toList.map UInt8.toNat=s
mutual
def VR (U:Ren):Y->Value->Prop
 | .bool b,x=>x= .bool b
 | .int k n,x=>x= .int k n
 | .str s,x=>∃bs,x= .string bs/\gQ s bs
 | .nilPtr,x=>x= .pointer none
 | .ptr b off,x=>∃l,U b=some l/\x= .pointer (some ⟨l.de,l.sh+off,none⟩)
 | .aw,x=>x= .slice none 0 0
 | .slice b off len (.known c),x=>∃l,U b=some l/\x= .slice (some ⟨l.de,l.sh+off,none⟩) len c
 | .slice b off len (.upto sz),x=>∃l,U b=some l/\
   ((∃c,x= .slice (some ⟨l.de,l.sh+off,none⟩) len c/\len<=c/\off+c*sz=l.cells)∨(len=0/\∃a,x= .slice (some a) 0 0))
 | .slice b off len (.least a sz),x=>∃l,U b=some l/\∃c,x= .slice (some ⟨l.de,l.sh+off,none⟩) len c/\a<=c/\off+c*sz=l.cells
 | .iy,x=>x= .map none
 | .map b,x=>∃l,U b=some l/\x= .map (some l.de)
 | .func f fi ca,x=>∃fi' ca':Array Value,x= .func (.func f) fi' ca'/\di U fi fi'.toList/\di U ca ca'.toList
 | .yield b,x=>∃l,U b=some l/\x= .func (.yield l.de) #[] #[]
 | .nilFunc,x=>x= .nilFunc
 | .iface t v,x=>∃y,x= .iface t y/\VR U v y
 | .nilIface,x=>x= .nilIface
 | .agg cs,x=>∃ys:Array Value,x= .agg ys/\di U cs ys.toList
 | .tuple cs,x=>∃ys:Array Value,x= .tuple ys/\di U cs ys.toList
 | .any,_=>True
 | .pf a,x=>∃c:Nat,x= .int .i64 c/\a<=c
 | .tok n,x=>x=Env.τ n/\x.oneCell'=true
def di (U:Ren):List Y->List Value->Prop
 | [],ys=>ys= []
 | c::cs,ys=>∃y r,ys=y::r/\VR U c y/\di U cs r
end
def Ren.le (U U':Ren):Prop:=∀b l,U b=some l->U' b=some l
theorem Ren.le_refl (U:Ren):U.le U:=fun _ _ h=>h
theorem Ren.le_trans {U U' U'':Ren} (h:U.le U') (h':U'.le U''):U.le U'':=fun b l hb=>h' b l (h b l hb)
mutual
theorem VR.mono {U U':Ren} (h:U.le U'):∀(v:Y) (x:Value),VR U v x->VR U' v x
 | .bool b,x,hv=>by simpa only[VR] using hv
 | .int k n,x,hv=>by simpa only[VR] using hv
 | .str s,x,hv=>by simpa only[VR] using hv
 | .nilPtr,x,hv=>by simpa only[VR] using hv
 | .ptr b off,x,hv=>by simp only[VR] at hv⊢;obtain⟨l,h1,u⟩:=hv;exact⟨l,h b l h1,u⟩
 | .aw,x,hv=>by simpa only[VR] using hv
 | .slice b off len (.known c),x,hv=>by simp only[VR] at hv⊢;obtain⟨l,h1,u⟩:=hv;exact⟨l,h b l h1,u⟩
 | .slice b off len (.upto sz),x,hv=>by simp only[VR] at hv⊢;obtain⟨l,h1,u⟩:=hv;exact⟨l,h b l h1,u⟩
 | .slice b off len (.least a sz),x,hv=>by simp only[VR] at hv⊢;obtain⟨l,h1,u⟩:=hv;exact⟨l,h b l h1,u⟩
 | .iy,x,hv=>by simpa only[VR] using hv
 | .map b,x,hv=>by simp only[VR] at hv⊢;obtain⟨l,h1,u⟩:=hv;exact⟨l,h b l h1,u⟩
 | .func f fi ca,x,hv=>by
  simp only[VR] at hv⊢;obtain⟨fi',ca',h1,u,h3⟩:=hv;exact⟨fi',ca',h1,di.mono h fi _ u,di.mono h ca _ h3⟩
 | .yield b,x,hv=>by simp only[VR] at hv⊢;obtain⟨l,h1,u⟩:=hv;exact⟨l,h b l h1,u⟩
 | .nilFunc,x,hv=>by simpa only[VR] using hv
 | .iface t v,x,hv=>by simp only[VR] at hv⊢;obtain⟨y,h1,u⟩:=hv;exact⟨y,h1,VR.mono h v y u⟩
 | .nilIface,x,hv=>by simpa only[VR] using hv
 | .agg cs,x,hv=>by simp only[VR] at hv⊢;obtain⟨y,h1,u⟩:=hv;exact⟨y,h1,di.mono h cs _ u⟩
 | .tuple cs,x,hv=>by simp only[VR] at hv⊢;obtain⟨y,h1,u⟩:=hv;exact⟨y,h1,di.mono h cs _ u⟩
 | .any,x,hv=>by simp only[VR]
 | .pf a,x,hv=>by simpa only[VR] using hv
 | .tok n,x,hv=>by simpa only[VR] using hv
theorem di.mono {U U':Ren} (h:U.le U'):∀(vs:List Y) (xs:List Value),di U vs xs->di U' vs xs
 | [],xs,hv=>by simpa only[di] using hv
 | c::cs,xs,hv=>by
  simp only[di] at hv⊢;obtain⟨y,r,h1,u,h3⟩:=hv;exact⟨y,r,h1,VR.mono h c y u,di.mono h cs r h3⟩
end
theorem di.nil {U:Ren}:di U [] []:=by simp only[di]
theorem di.cons {U:Ren} {v:Y} {x:Value} {vs:List Y} {xs:List Value} (h:VR U v x) (hs:di U vs xs):di U (v::vs) (x::xs):=by
 simp only[di];grind
theorem di.cons_inv {U:Ren} {v:Y} {vs:List Y} {ys:List Value} (h:di U (v::vs) ys):∃x xs,ys=x::xs/\VR U v x/\di U vs xs:=by
 simpa only[di] using h
theorem di.dX {U:Ren} {ys:List Value} (h:di U [] ys):ys= []:=by simpa only[di] using h
theorem di.length {U:Ren}:∀{vs:List Y} {xs:List Value},di U vs xs->xs.length=vs.length
 | [],xs,h=>by rw[h.dX];rfl
 | v::vs,xs,h=>by
  obtain⟨x,r,rfl,_,u⟩:=h.cons_inv;simp[u.length]
theorem di.get {U:Ren}:∀{vs:List Y} {xs:List Value},di U vs xs->∀{i:Nat} {v:Y},vs[i]? =some v->∃x,xs[i]? =some x/\VR U v x
 | [],xs,h,i,v,hv=>by simp at hv
 | c::vs,xs,h,0,v,hv=>by
  obtain⟨x,r,rfl,h1,u⟩:=h.cons_inv
  simp_all
 | c::vs,xs,h,i+1,v,hv=>by
  obtain⟨x,r,rfl,h1,u⟩:=h.cons_inv;simp at hv;simpa using u.get hv
theorem di.HG {U:Ren}:∀{vs:List Y} {xs:List Value},xs.length=vs.length->(∀(i:Nat) (v:Y),vs[i]? =some v->∃x,xs[i]? =some x/\VR U v x)->di U vs xs
 | [],[],_,_=>di.nil
 | v::vs,[],hl,_=>by simp at hl
 | [],x::xs,hl,_=>by simp at hl
 | v::vs,x::xs,hl,h=>by
  refine di.cons ?_<|di.HG (by simpa using hl) fun i u hu=>?_
  ·obtain⟨y,h1,A⟩:=h 0 v Z
   simp_all
  obtain⟨y,h1,A⟩:=h (i+1) u (by simpa using hu)
  simp_all
theorem di.append {U:Ren}:∀{vs us:List Y} {xs ys:List Value},di U vs xs->di U us ys->di U (vs++us) (xs++ys)
 | [],us,xs,ys,h,h'=>by rw[h.dX];exact h'
 | v::vs,us,xs,ys,h,h'=>by
  obtain⟨x,r,rfl,h1,u⟩:=h.cons_inv;exact di.cons h1<|u.append h'
theorem di.drop {U:Ren}:∀{vs:List Y} {xs:List Value},di U vs xs->∀n,di U (vs.drop n) (xs.drop n)
 | [],xs,h,n=>by rw[h.dX];simp;exact di.nil
 | v::vs,xs,h,0=>h
 | v::vs,xs,h,n+1=>by
  obtain⟨x,r,rfl,h1,u⟩:=h.cons_inv;simpa using u.drop n
theorem di.take {U:Ren}:∀{vs:List Y} {xs:List Value},di U vs xs->∀n,di U (vs.take n) (xs.take n)
 | [],xs,h,n=>by rw[h.dX];simp;exact di.nil
 | v::vs,xs,h,0=>by simpa using di.nil
 | v::vs,xs,h,n+1=>by
  obtain⟨x,r,rfl,h1,u⟩:=h.cons_inv;simpa using di.cons h1 (u.take n)
theorem di.set {U:Ren}:∀{vs:List Y} {xs:List Value},di U vs xs->∀(n:Nat) {v:Y} {x:Value},VR U v x->di U (vs.set n v) (xs.set n x)
 | [],xs,h,n,_,_,_=>by rw[h.dX];simp;exact di.nil
 | v::vs,xs,h,0,_,_,hv=>by
  obtain⟨x,r,rfl,h1,u⟩:=h.cons_inv;simpa using di.cons hv u
 | v::vs,xs,h,n+1,_,_,hv=>by
  obtain⟨x,r,rfl,h1,u⟩:=h.cons_inv;simpa using di.cons h1 (u.set n hv)
structure eC where
 key:Y
 val:Y
 born:Nat
 deriving Inhabited
inductive cd where
 | row (cells:List Y) (elem:Nat) (ro:Bool)
 | own (cells:List Y) (elem:Nat)
 | map (es:List eC) (clock:Nat)
 | iter (s:List Nat) (pos:Nat)
 | loop (state:LoopState) (pending:Option Code) (tmps:PT Y) (n:Nat) (params:List Nat) (assign body:Code) (defers:Pos)
 | mark
 | dead
 deriving Inhabited
def cd.ro:cd->Bool
 | .row _ _ ro=>ro
 | _=>false
structure D where
 next:Pos
 m:PT cd
def TR (U:Ren) (t:PT Y) (n:Nat) (tmps:Array Value):Prop:=
 tmps.size=n/\∀k v,t.get (posOf k)=some v->k<n/\VR U v (tmps.getD k undef)
def jW (U:Ren):List eC->List MapEntry->Prop
 | [],ys=>ys= []
 | e::es,ys=>∃y r,ys=y::r/\VR U e.key y.key/\VR U e.val y.val/\y.born=e.born/\jW U es r
def gz (U:Ren) (l:Loc):cd->Obj->Prop
 | .row cells elem ro,x=>∃c fr,x= .cells c elem fr/\c.size=l.sh+l.cells/\cells.length<=l.cells/\
   (∀(i:Nat) (v:Y),cells[i]? =some v->∃y,c[l.sh+i]? =some y/\VR U v y)/\(ro=false->∀j,l.sh<=j->¬(fr.1<=j/\j<fr.2))
 | .own cells elem,x=>(l.sh=0/\cells.length=l.cells)/\∃c fr,x= .cells c elem fr/\c.size=l.sh+l.cells/\cells.length<=l.cells/\
   (∀(i:Nat) (v:Y),cells[i]? =some v->∃y,c[l.sh+i]? =some y/\VR U v y)/\(false=false->∀j,l.sh<=j->¬(fr.1<=j/\j<fr.2))
 | .map es clock,x=>∃es',x= .map es' clock/\jW U es es'.toList
 | .iter s pos,x=>∃bs,x= .stringIter bs pos/\gQ s bs
 | .loop state pending tmps n params assign body defers,x=>∃fn tmps' l',x= .loop {state,pending,fn,tmps:=tmps',params:=params.toArray,assign,body,defers:=l'.de}/\
   U defers=some l'/\TR U tmps n tmps'
 | .mark,x=>x= .deferred (some [])
 | .dead,_=>True
theorem TR.mono {U U':Ren} (h:U.le U') {t:PT Y} {n:Nat} {tmps:Array Value} (u:TR U t n tmps):TR U' t n tmps:=
 ⟨u.1,fun k v hv=>⟨(u.2 k v hv).1,VR.mono h _ _ (u.2 k v hv).2⟩⟩
theorem jW.mono {U U':Ren} (h:U.le U'):∀{es:List eC} {ys:List MapEntry},jW U es ys->jW U' es ys
 | [],ys,he=>he
 | e::es,ys,he=>by
  obtain⟨y,r,h1,u,h3,A,h5⟩:=he;exact⟨y,r,h1,VR.mono h _ _ u,VR.mono h _ _ h3,A,jW.mono h h5⟩
theorem gz.mono {U U':Ren} (h:U.le U') {l:Loc}:∀{o:cd} {x:Obj},gz U l o x->gz U' l o x
 | .row cells elem ro,x,u=>by
  obtain⟨c,fr,h1,A,h3,C,h5⟩:=u;exact⟨c,fr,h1,A,h3,fun i v hv=>let ⟨y,a,b⟩:=C i v hv;⟨y,a,VR.mono h _ _ b⟩,h5⟩
 | .own cells elem,x,u=>by
  obtain⟨h0,c,fr,h1,A,h3,C,h5⟩:=u;exact⟨h0,c,fr,h1,A,h3,fun i v hv=>let ⟨y,a,b⟩:=C i v hv;⟨y,a,VR.mono h _ _ b⟩,h5⟩
 | .map es clock,x,u=>let ⟨es',h1,A⟩:=u;⟨es',h1,jW.mono h A⟩
 | .iter s pos,x,u=>u
 | .loop ..,x,u=>let ⟨fn,tmps',l',h1,A,h3⟩:=u;⟨fn,tmps',l',h1,h _ _ A,TR.mono h h3⟩
 | .mark,x,u=>u
 | .dead,x,u=>u
structure CL (U:Ren) (V:D) (w:World):Prop where
 fresh:∀b:Pos,V.next.num<=b.num->U b=none/\V.m.get b=none
 de:∀b l,U b=some l->l.de<w.heap.size
 obj:∀b o l,V.m.get b=some o->U b=some l->∃x,w.heap[l.de]? =some x/\gz U l o x
 inj:∀b b' o o' l l',V.m.get b=some o->V.m.get b'=some o'->U b=some l->U b'=some l'->l.de=l'.de->b≠b'->o.ro=true/\o'.ro=true
def Wr (U:Ren) (V:D) (r:Nat):Prop:=∃b o l,V.m.get b=some o/\o.ro=false/\U b=some l/\l.de=r
structure Old (U:Ren) (V:D) (w:World):Prop where
 size:Env.n0<=w.heap.size
 same:∀r:Nat,r<Env.n0->w.heap[r]? =Env.h0[r]?
 no:∀r:Nat,r<Env.n0->¬Wr U V r
def MO (w:World):Prop:=Env.n0<=w.heap.size/\∀r:Nat,r<Env.n0->w.heap[r]? =Env.h0[r]?
structure Inv (U:Ren) (V:D) (w:World):Prop extends CL U V w where
 oW:Old U V w
structure eH (U:Ren) (V:D) (w:World) (U':Ren) (V':D) (w':World):Prop where
 ext:∀b:Pos,b.num<V.next.num->U' b=U b
 next:V.next.num<=V'.next.num
 size:w.heap.size<=w'.heap.size
 frame:∀r:Nat,r<w.heap.size->¬Wr U V r->w'.heap[r]? =w.heap[r]?
 wr:∀r:Nat,Wr U' V' r->r<w.heap.size->Wr U V r
 tape:w'.tape=w.tape
 os:w'.os=w.os
 out:w'.output=w.output/\w.drawn<=w'.drawn
theorem eH.refl (U:Ren) (V:D) (w:World):eH U V w U V w:=
 ⟨fun _ _=>Z,nR_ _,nR_ _,fun _ _ _=>Z,fun _ h _=>h,Z,Z,Z,nR_ _⟩
theorem eH.trans {U ρ₁ ρ₂:Ren} {V σ₁ σ₂:D} {w w₁ w₂:World} (h:eH U V w ρ₁ σ₁ w₁) (h':eH ρ₁ σ₁ w₁ ρ₂ σ₂ w₂):eH U V w ρ₂ σ₂ w₂ where
 ext b hb:=(h'.ext b<|zh_ hb h.next).trans (h.ext b hb)
 next:=Nat.le_trans h.next h'.next
 size:=Nat.le_trans h.size h'.size
 frame r hr hn:=(h'.frame r (zh_ hr h.size) (fun hw=>hn (h.wr r hw hr))).trans (h.frame r hr hn)
 wr r hw hr:=h.wr r (h'.wr r hw<|zh_ hr h.size) hr
 tape:=h'.tape.trans h.tape
 os:=h'.os.trans h.os
 out:=⟨h'.out.1.trans h.out.1,Nat.le_trans h.out.2 h'.out.2⟩
theorem Old.of {U U':Ren} {V V':D} {w w':World} (h:Old U V w) (st:eH U V w U' V' w'):Old U' V' w' where
 size:=Nat.le_trans h.size st.size
 same r hr:=(st.frame r (zh_ hr h.size)<|h.no r hr).trans (h.same r hr)
 no r hr hw:=h.no r hr (st.wr r hw<|zh_ hr h.size)
theorem Inv.of {U U':Ren} {V V':D} {w w':World} (h:Inv U V w) (h':CL U' V' w'/\eH U V w U' V' w'):Inv U' V' w'/\eH U V w U' V' w':=⟨⟨h'.1,h.oW.of h'.2⟩,h'.2⟩
theorem Inv.HF {U:Ren} {V:D} {w:World} (h:Inv U V w) {b:Pos} {l:Loc} (hb:U b=some l):b.num<V.next.num:=by
 rcases Nat.lt_or_ge b.num V.next.num with h' | h'
 ·exact h'
 rw[(h.fresh b h').1] at hb;cases hb
theorem eH.le {U U':Ren} {V V':D} {w w':World} (hi:Inv U V w) (h:eH U V w U' V' w'):U.le U':=fun b l hb=>by
 rw[h.ext b<|hi.HF hb];exact hb
end Go.Ev
namespace Go.Ev
variable [Env]
variable {e:Nat}
section
variable {U:Ren} {V:D} {w:World}
theorem Addr.add_eq (a:Addr) (n:Nat) (h:a.spot=none):a.add n=⟨a.block,a.off+n,none⟩:=by
 unfold Addr.add;split
 ·rename_i h0;subst h0;cases a;simp_all
 rfl
theorem cell?_of_heap {w:World} {r:Nat} {c:Array Value} {fr:Nat×Nat} (h:w.heap[r]? =some (.cells c e fr)) (i:Nat):w.cell? ⟨r,i,none⟩=c[i]?:=by
 simp[World.cell?,h]
theorem frozen?_of_heap {w:World} {r:Nat} {c:Array Value} {fr:Nat×Nat} (h:w.heap[r]? =some (.cells c e fr)) (i:Nat) (hn:¬(fr.1<=i/\i<fr.2)):w.frozen? ⟨r,i,none⟩=false:=by
 grind [World.frozen?]
theorem heap_setCell_same {w:World} {r:Nat} {c:Array Value} {fr:Nat×Nat} (h:w.heap[r]? =some (.cells c e fr)) (i:Nat) (v:Value):
  (w.setCell ⟨r,i,none⟩ v).heap[r]? =some (.cells (c.setIfInBounds i v) e fr):=by
 simp[World.setCell,Array.getElem?_modify,h]
theorem heap_setCell_other (w:World) {r:Nat} (a:Addr) (v:Value) (h:r≠a.block):(w.setCell a v).heap[r]? =w.heap[r]?:=by
 simp[World.setCell,Array.getElem?_modify,Ne.symm h]
theorem Inv.row (hi:Inv U V w) {b:Pos} {l:Loc} {cells:List Y} {ro:Bool} (u:V.m.get b=some (.row cells e ro)) (hl:U b=some l):
  ∃(c:Array Value) (fr:Nat×Nat),w.heap[l.de]? =some (.cells c e fr)/\c.size=l.sh+l.cells/\cells.length<=l.cells/\
   (∀(i:Nat) (v:Y),cells[i]? =some v->∃y,c[l.sh+i]? =some y/\VR U v y)/\(ro=false->∀j,l.sh<=j->¬(fr.1<=j/\j<fr.2)):=by
 obtain⟨x,hx,c,fr,rfl,h2,h3,h4,h5⟩:=hi.obj b _ l u hl
 grind
theorem Inv.cell (hi:Inv U V w) {b:Pos} {l:Loc} {cells:List Y} {e:Nat} {ro:Bool} (u:V.m.get b=some (.row cells e ro)) (hl:U b=some l)
  {i:Nat} {v:Y} (hv:cells[i]? =some v):∃y,w.cell? ⟨l.de,l.sh+i,none⟩=some y/\VR U v y:=by
 obtain⟨c,fr,h1,_,_,h4,_⟩:=hi.row u hl
 grind [cell?_of_heap]
theorem Inv.drew (hi:Inv U V w):Inv U V w.drew:=⟨⟨hi.fresh,hi.de,hi.obj,hi.inj⟩,⟨hi.oW.size,hi.oW.same,hi.oW.no⟩⟩
theorem eH.drew (U:Ren) (V:D) (w:World):eH U V w U V w.drew:=
 ⟨fun _ _=>Z,nR_ _,nR_ _,fun _ _ _=>Z,fun _ h _=>h,Z,Z,Z,Nat.le_succ _⟩
def D.alloc (V:D) (o:cd):D:={next:=V.next.succ,m:=V.m.put (some o) V.next}
def Ren.with (U:Ren) (b:Pos) (l:Loc):Ren:=fun b'=>if b'=b then some l else U b'
theorem Ren.cU (U:Ren) (b:Pos) (l:Loc):U.with b l b=some l:=by simp[Ren.with]
theorem Ren.ej (U:Ren) {b b':Pos} (l:Loc) (h:b'≠b):U.with b l b'=U b':=by simp[Ren.with,h]
theorem Inv.xY (hi:Inv U V w) (l:Loc):U.le (U.with V.next l):=fun b l' hb=>by
 rw[Ren.ej]; · exact hb
 intro e;subst e;rw[(hi.fresh _<|nR_ _).1] at hb;cases hb
theorem heap_alloc_old (w:World) (x:Obj) {r:Nat} (h:r<w.heap.size):(w.alloc x).heap[r]? =w.heap[r]?:=by
 show(w.heap.push x)[r]? =_
 grind
theorem heap_alloc_new (w:World) (x:Obj):(w.alloc x).heap[w.heap.size]? =some x:=by
 show(w.heap.push x)[w.heap.size]? =_;simp
theorem Inv.GF (hi:Inv U V w) {o:cd} {x:Obj} {l:Loc} (hl:l.de=w.heap.size) (L:gz U l o x):
  CL (U.with V.next l) (V.alloc o) (w.alloc x)/\eH U V w (U.with V.next l) (V.alloc o) (w.alloc x):=by
 have hle:=hi.xY l;have u:∀b l',b≠V.next->(U.with V.next l) b=some l'->U b=some l':=fun b l' hb h=>by rwa[Ren.ej U l hb] at h
 have A:∀b,b≠V.next->(V.alloc o).m.get b=V.m.get b:=fun b hb=>PT.dD _ _ _ _ hb
 have C:(V.alloc o).m.get V.next=some o:=PT.dR _ _ _;have K:∀b:Pos,b.num<V.next.num->b≠V.next:=fun b hb e=>by simp_all
 constructor
 ·refine⟨fun b hb=>?_,fun b l' hb=>?_,fun b o' l' hb E=>?_,fun b b' o₁ o₂ l₁ l₂ h1 F h3 G h5 M=>?_⟩
  ·have aa:V.next.num+1<=b.num:=by simpa [D.alloc,Pos.iR] using hb
   have hne:b≠V.next:=fun e=>by subst e;omega
   rw[Ren.ej U l hne,A b hne];exact hi.fresh b oM
  ·simp only[World.size_alloc]
   by_cases hne:b=V.next
   ·subst hne;rw[Ren.cU] at hb;cases hb;omega
   have:=hi.de b l' (u b l' hne hb);omega
  ·by_cases hne:b=V.next
   ·subst hne;rw[Ren.cU] at E;rw[C] at hb;cases hb;cases E;exact⟨x,by rw[hl];exact heap_alloc_new w x,L.mono hle⟩
   rw[A b hne] at hb;have h':=u b l' hne E;obtain⟨y,hy,I⟩:=hi.obj b o' l' hb h';exact⟨y,by rw[heap_alloc_old w x<|hi.de b l' h'];exact hy,I.mono hle⟩
  by_cases e1:b=V.next<;>by_cases e2:b'=V.next
  ·simp_all
  ·subst e1;rw[Ren.cU] at h3;cases h3;have:=hi.de b' l₂ (u b' l₂ e2 G);omega
  ·subst e2;rw[Ren.cU] at G;cases G;have:=hi.de b l₁ (u b l₁ e1 h3);omega
  rw[A b e1] at h1;rw[A b' e2] at F;exact hi.inj b b' o₁ o₂ l₁ l₂ h1 F (u b l₁ e1 h3) (u b' l₂ e2 G) h5 M
 refine⟨fun b hb=>Ren.ej U l (K b hb),by simp[D.alloc,Pos.iR],by simp,fun r I _=>heap_alloc_old w x I,?_,Z,Z,Z,nR_ _⟩;rintro r ⟨b,o',l',h1,F,h3,rfl⟩ I
 by_cases hne:b=V.next
 ·subst hne;rw[Ren.cU] at h3;cases h3;omega
 rw[A b hne] at h1;exact⟨b,o',l',h1,F,u b l' hne h3,Z⟩
theorem Inv.alloc (hi:Inv U V w) {o:cd} {x:Obj} {l:Loc} (hl:l.de=w.heap.size) (u:gz U l o x):
  Inv (U.with V.next l) (V.alloc o) (w.alloc x)/\eH U V w (U.with V.next l) (V.alloc o) (w.alloc x):=hi.of (hi.GF hl u)
def D.setObj (V:D) (b:Pos) (o:cd):D:={V with m:=V.m.put (some o) b}
theorem Inv.EG (hi:Inv U V w) {b:Pos} {l:Loc} {o o':cd} {x:Obj} {w':World} (hb:V.m.get b=some o) (hl:U b=some l) (L:o.ro=false) (ab:o'.ro=false)
  (hw:w'.heap[l.de]? =some x) (ho:gz U l o' x) (u:∀r,r≠l.de->w'.heap[r]? =w.heap[r]?) (A:w'.heap.size=w.heap.size)
  (C:w'.tape=w.tape) (M:w'.os=w.os) (G:w'.output=w.output/\w.drawn<=w'.drawn):
  CL U (V.setObj b o') w'/\eH U V w U (V.setObj b o') w':=by
 have I:∀b',b'≠b->(V.setObj b o').m.get b'=V.m.get b':=fun b' h=>PT.dD _ _ _ _ h
 have aa:(V.setObj b o').m.get b=some o':=PT.dR _ _ _
 have back:∀b₁ o₁,(V.setObj b o').m.get b₁=some o₁->∃o₂,V.m.get b₁=some o₂/\(o₁.ro=true↔o₂.ro=true):=fun b₁ o₁ h=>by
  grind
 constructor
 ·refine⟨fun b' N=>?_,fun b' l' Q=>by rw[A];exact hi.de b' l' Q,fun b' o₁ l₁ h1 K=>?_,fun b₁ b₂ o₁ o₂ l₁ l₂ h1 K h3 h4 h5 h6=>?_⟩
  ·have hf:=hi.fresh b' N
   grind
  ·by_cases e:b'=b
   ·simp_all
   rw[I b' e] at h1;obtain⟨y,hy,hr⟩:=hi.obj b' o₁ l₁ h1 K
   have hne:l₁.de≠l.de:=fun R=>by
    have:=hi.inj b' b o₁ o l₁ l h1 hb K hl R e
    simp_all
   simp_all
  obtain⟨E,F,T⟩:=back b₁ o₁ h1;obtain⟨W,X,ac⟩:=back b₂ o₂ K;have:=hi.inj b₁ b₂ E W l₁ l₂ F X h3 h4 h5 h6
  simp_all
 refine⟨fun _ _=>Z,nR_ _,by omega,fun r hr hn=>u r (fun e=>hn ⟨b,o,l,hb,L,hl,e.symm⟩),?_,C,M,G⟩;rintro r ⟨b₁,o₁,l₁,h1,K,h3,rfl⟩ hr;obtain⟨E,F,T⟩:=back b₁ o₁ h1;refine⟨b₁,E,l₁,F,?_,h3,Z⟩
 simp_all
theorem Inv.change (hi:Inv U V w) {b:Pos} {l:Loc} {o o':cd} {x:Obj} {w':World} (hb:V.m.get b=some o) (hl:U b=some l) (G:o.ro=false) (E:o'.ro=false)
  (hw:w'.heap[l.de]? =some x) (K:gz U l o' x) (u:∀r,r≠l.de->w'.heap[r]? =w.heap[r]?) (A:w'.heap.size=w.heap.size)
  (C:w'.tape=w.tape) (I:w'.os=w.os) (F:w'.output=w.output/\w.drawn<=w'.drawn):
  Inv U (V.setObj b o') w'/\eH U V w U (V.setObj b o') w':=hi.of (hi.EG hb hl G E hw K u A C I F)
theorem Inv.C0 (hi:Inv U V w) {b:Pos} {l:Loc} {o o':cd} {x:Obj} {w':World} (hb:V.m.get b=some o) (hl:U b=some l) (G:o.ro=false)
  (hw:w'.heap[l.de]? =some x) (ho:gz U l o' x) (A:∀r,r≠l.de->w'.heap[r]? =w.heap[r]?) (E:w'.heap.size=w.heap.size)
  (F:w'.tape=w.tape) (K:w'.os=w.os) (I:w'.output=w.output/\w.drawn<=w'.drawn):
  CL U (V.setObj b o') w'/\eH U V w U (V.setObj b o') w':=by
 have u:∀b',b'≠b->(V.setObj b o').m.get b'=V.m.get b':=fun b' h=>PT.dD _ _ _ _ h
 have aa:(V.setObj b o').m.get b=some o':=PT.dR _ _ _
 have apart:∀b' o₁ l₁,b'≠b->V.m.get b'=some o₁->U b'=some l₁->l₁.de≠l.de:=fun b' o₁ l₁ e h1 C L=>by
  have:=hi.inj b' b o₁ o l₁ l h1 hb C hl L e
  simp_all
 constructor
 ·refine⟨fun b' M=>?_,fun b' l' N=>by rw[E];exact hi.de b' l' N,fun b' o₁ l₁ h1 C=>?_,fun b₁ b₂ o₁ o₂ l₁ l₂ h1 C h3 R h5 T=>?_⟩
  ·have hf:=hi.fresh b' M
   grind
  ·by_cases e:b'=b
   ·simp_all
   rw[u b' e] at h1;obtain⟨y,hy,Q⟩:=hi.obj b' o₁ l₁ h1 C
   grind
  by_cases e1:b₁=b<;>by_cases e2:b₂=b
  ·simp_all
  ·grind
  ·grind
  rw[u b₁ e1] at h1;rw[u b₂ e2] at C;exact hi.inj b₁ b₂ o₁ o₂ l₁ l₂ h1 C h3 R h5 T
 refine⟨fun _ _=>Z,nR_ _,by omega,fun r Q hn=>A r (fun e=>hn ⟨b,o,l,hb,G,hl,e.symm⟩),?_,F,K,I⟩;rintro r ⟨b₁,o₁,l₁,h1,C,h3,rfl⟩ Q
 by_cases e:b₁=b
 ·subst e;exact⟨b₁,o,l₁,hb,G,h3,Z⟩
 rw[u b₁ e] at h1;exact⟨b₁,o₁,l₁,h1,C,h3,Z⟩
theorem Inv.IW (hi:Inv U V w) {b:Pos} {l:Loc} {o o':cd} {x:Obj} {w':World} (hb:V.m.get b=some o) (hl:U b=some l) (F:o.ro=false)
  (hw:w'.heap[l.de]? =some x) (I:gz U l o' x) (u:∀r,r≠l.de->w'.heap[r]? =w.heap[r]?) (A:w'.heap.size=w.heap.size)
  (C:w'.tape=w.tape) (G:w'.os=w.os) (E:w'.output=w.output/\w.drawn<=w'.drawn):
  Inv U (V.setObj b o') w'/\eH U V w U (V.setObj b o') w':=hi.of (hi.C0 hb hl F hw I u A C G E)
theorem Inv.O0 (hi:Inv U V w) {b:Pos} {l:Loc} {o o':cd} (hb:V.m.get b=some o) (hl:U b=some l) (u:o.ro=false) (A:∀x,gz U l o x->gz U l o' x):
  Inv U (V.setObj b o') w/\eH U V w U (V.setObj b o') w:=by
 obtain⟨x,hx,C⟩:=hi.obj b o l hb hl;exact hi.IW hb hl u hx (A x C) (fun _ _=>Z) Z Z Z ⟨Z,nR_ _⟩
theorem gz.Ju {l:Loc} {cells:List Y} {x:Obj} (h:gz U l (.own cells e) x):(l.sh=0/\cells.length=l.cells)/\gz U l (.row cells e false) x:=⟨h.1,h.2⟩
theorem gz.JN {l:Loc} {cells:List Y} {x:Obj} (h0:l.sh=0/\cells.length=l.cells) (h:gz U l (.row cells e false) x):gz U l (.own cells e) x:=⟨h0,h⟩
theorem Inv.own (hi:Inv U V w) {b:Pos} {l:Loc} {cells:List Y} (hb:V.m.get b=some (.own cells e)) (hl:U b=some l):
  (l.sh=0/\cells.length=l.cells)/\Inv U (V.setObj b (.row cells e false)) w/\eH U V w U (V.setObj b (.row cells e false)) w:=by
 obtain⟨x,hx,u⟩:=hi.obj b _ l hb hl;exact⟨u.Ju.1,hi.O0 hb hl Z fun x hx=>hx.Ju.2⟩
theorem Inv.setCell (hi:Inv U V w) {b:Pos} {l:Loc} {cells:List Y} {e i:Nat} {v:Y} {y:Value} (hb:V.m.get b=some (.row cells e false)) (hl:U b=some l)
  (aa:i<cells.length) (hv:VR U v y):
  Inv U (V.setObj b (.row (cells.set i v) e false)) (w.setCell ⟨l.de,l.sh+i,none⟩ y)/\eH U V w U (V.setObj b (.row (cells.set i v) e false)) (w.setCell ⟨l.de,l.sh+i,none⟩ y):=by
 obtain⟨c,fr,h1,A,h3,h4,h5⟩:=hi.row hb hl
 refine hi.change hb hl Z Z (heap_setCell_same h1 (l.sh+i) y) ⟨_,fr,Z,by simpa using A,by simpa using h3,fun j u hu=>?_,fun _=>h5 Z⟩
  (fun r C=>heap_setCell_other w _ _ C) (by simp) Z Z ⟨Z,nR_ _⟩
 grind
def D.drop (V:D) (b:Pos):D:={V with m:=V.m.put none b}
theorem Inv.FM (hi:Inv U V w) {b:Pos} {l l':Loc} {cells cells':List Y} {x:Obj} {w':World} (hb:V.m.get b=some (.row cells e false)) (hl:U b=some l)
  (hblk:l'.de=l.de) (hw:w'.heap[l.de]? =some x) (W:gz U l' (.row cells' e false) x) (C:∀r,r≠l.de->w'.heap[r]? =w.heap[r]?) (F:w'.heap.size=w.heap.size)
  (G:w'.tape=w.tape) (N:w'.os=w.os) (L:w'.output=w.output/\w.drawn<=w'.drawn):
  CL (U.with V.next l') ((V.drop b).alloc (.row cells' e false)) w'/\eH U V w (U.with V.next l') ((V.drop b).alloc (.row cells' e false)) w':=by
 have hle:=hi.xY l';have u:∀b l'',b≠V.next->(U.with V.next l') b=some l''->U b=some l'':=fun b l'' hb h=>by rwa[Ren.ej U l' hb] at h
 have ac:b≠V.next:=fun e=>by subst e;rw[(hi.fresh _<|nR_ _).1] at hl;cases hl
 have Q:∀b:Pos,b.num<V.next.num->b≠V.next:=fun b hb e=>by simp_all
 have I:((V.drop b).alloc (.row cells' e false)).m.get V.next=some (.row cells' e false):=PT.dR _ _ _
 have aa:∀b',b'≠V.next->((V.drop b).alloc (.row cells' e false)).m.get b'=if b'=b then none else V.m.get b':=fun b' h=>by
  show((V.m.put none b).put _ V.next).get b'=_;rw[PT.dD _ _ _ _ h,PT.jI]
 have oW:∀b' o',b'≠V.next->((V.drop b).alloc (.row cells' e false)).m.get b'=some o'->b'≠b/\V.m.get b'=some o':=fun b' o' hn h=>by
  simp_all
 have apart:∀b' o' l'',b'≠b->V.m.get b'=some o'->U b'=some l''->l''.de≠l.de:=fun b' o' l'' hne h1 E R=>by
  have:=hi.inj b' b o' _ l'' l h1 hb E hl R hne;exact absurd this.2 (by simp[cd.ro])
 constructor
 ·refine⟨fun b' K=>?_,fun b' l'' M=>?_,fun b' o₁ l₁ h1 E=>?_,fun b₁ b₂ o₁ o₂ l₁ l₂ h1 E h3 X h5 h6=>?_⟩
  ·have ab:V.next.num+1<=b'.num:=by simpa [D.alloc,D.drop,Pos.iR] using K
   have hne:b'≠V.next:=fun e=>by subst e;omega
   have hf:=hi.fresh b' oM
   grind [Ren.ej]
  ·rw[F]
   by_cases e1:b'=V.next
   ·grind [Ren.cU]
   exact hi.de b' l''<|u b' l'' e1 M
  ·by_cases e1:b'=V.next
   ·subst e1;rw[I] at h1;rw[Ren.cU] at E;cases h1;cases E;exact⟨x,by rw[hblk];exact hw,W.mono hle⟩
   obtain⟨hne,A⟩:=oW b' o₁ e1 h1;have h2':=u b' l₁ e1 E;obtain⟨y,hy,T⟩:=hi.obj b' o₁ l₁ A h2';exact⟨y,by grind,T.mono hle⟩
  by_cases e1:b₁=V.next<;>by_cases e2:b₂=V.next
  ·simp_all
  ·grind [Ren.cU]
  ·grind [Ren.cU]
  obtain⟨_,A⟩:=oW b₁ o₁ e1 h1;obtain⟨_,h2'⟩:=oW b₂ o₂ e2 E;exact hi.inj b₁ b₂ o₁ o₂ l₁ l₂ A h2' (u b₁ l₁ e1 h3) (u b₂ l₂ e2 X) h5 h6
 refine⟨fun b' K=>Ren.ej U l' (Q b' K),by simp[D.alloc,D.drop,Pos.iR],by omega,
  fun r T hn=>C r (fun e'=>hn ⟨b,_,l,hb,Z,hl,e'.symm⟩),?_,G,N,L⟩
 rintro r ⟨b₁,o₁,l₁,h1,E,h3,rfl⟩ T
 by_cases e1:b₁=V.next
 ·subst e1;rw[Ren.cU] at h3;cases h3;exact⟨b,_,l,hb,Z,hl,hblk.symm⟩
 obtain⟨_,A⟩:=oW b₁ o₁ e1 h1;exact⟨b₁,o₁,l₁,A,E,u b₁ l₁ e1 h3,Z⟩
theorem Inv.Dz (hi:Inv U V w) {b:Pos} {l l':Loc} {cells cells':List Y} {x:Obj} {w':World} (hb:V.m.get b=some (.row cells e false)) (hl:U b=some l)
  (hblk:l'.de=l.de) (hw:w'.heap[l.de]? =some x) (G:gz U l' (.row cells' e false) x) (u:∀r,r≠l.de->w'.heap[r]? =w.heap[r]?) (A:w'.heap.size=w.heap.size)
  (C:w'.tape=w.tape) (F:w'.os=w.os) (E:w'.output=w.output/\w.drawn<=w'.drawn):
  Inv (U.with V.next l') ((V.drop b).alloc (.row cells' e false)) w'/\eH U V w (U.with V.next l') ((V.drop b).alloc (.row cells' e false)) w':=hi.of (hi.FM hb hl hblk hw G u A C F E)
theorem Inv.E4 (hi:Inv U V w) (b:Pos):CL U (V.drop b) w/\eH U V w U (V.drop b) w:=by
 have oW:∀b' o',(V.drop b).m.get b'=some o'->V.m.get b'=some o':=fun b' o' h=>by
  have h':(V.m.put none b).get b'=some o':=h
  grind [PT.jI]
 constructor
 ·refine⟨fun b' u=>⟨(hi.fresh b' u).1,?_⟩,hi.de,fun b' o l h1 A=>hi.obj b' o l (oW b' o h1) A,fun b₁ b₂ o₁ o₂ l₁ l₂ h1 A=>hi.inj b₁ b₂ o₁ o₂ l₁ l₂ (oW b₁ o₁ h1) (oW b₂ o₂ A)⟩;show(V.m.put none b).get b'=none;rw[PT.jI];split
  ·rfl
  exact(hi.fresh b' u).2
 refine⟨fun _ _=>Z,nR_ _,nR_ _,fun _ _ _=>Z,?_,Z,Z,Z,nR_ _⟩;rintro r ⟨b₁,o₁,l₁,h1,A,h3,rfl⟩ hr;exact⟨b₁,o₁,l₁,oW b₁ o₁ h1,A,h3,Z⟩
theorem Inv.forget (hi:Inv U V w) (b:Pos):Inv U (V.drop b) w/\eH U V w U (V.drop b) w:=hi.of (hi.E4 b)
end
def SZ (k:IntKind) (n:Int):Bool:=
 match k,n with
 | .i8,.ofNat a=>Nat.ble a 127 | .i8,.negSucc a=>Nat.ble a 127
 | .i16,.ofNat a=>Nat.ble a 32767 | .i16,.negSucc a=>Nat.ble a 32767
 | .i32,.ofNat a=>Nat.ble a 2147483647 | .i32,.negSucc a=>Nat.ble a 2147483647
 | .i64,.ofNat a=>Nat.ble a 9223372036854775807 | .i64,.negSucc a=>Nat.ble a 9223372036854775807
 | .u8,.ofNat a=>Nat.ble a 255 | .u16,.ofNat a=>Nat.ble a 65535
 | .u32,.ofNat a=>Nat.ble a 4294967295 | .u64,.ofNat a=>Nat.ble a 18446744073709551615
 | _,_=>false
def wr (k:IntKind) (n:Int):Int:=bif SZ k n then n else k.wrap n
def cW (x y:Int):Bool:=
 match x,y with
 | .ofNat a,.ofNat b=>Nat.ble (Nat.succ a) b
 | .negSucc _,.ofNat _=>true
 | .ofNat _,.negSucc _=>false
 | .negSucc a,.negSucc b=>Nat.ble (Nat.succ b) a
def bD (x y:Int):Bool:=
 match x,y with
 | .ofNat a,.ofNat b=>Nat.beq a b
 | .negSucc a,.negSucc b=>Nat.beq a b
 | _,_=>false
def wL (s t:List Nat):Bool:=
 List.rec (motive:=fun _=>List Nat->Bool) (fun t=>List.rec (motive:=fun _=>Bool) true (fun _ _ _=>false) t)
  (fun x _ ih t=>List.rec (motive:=fun _=>Bool) false (fun y u _=>bif Nat.beq x y then ih u else false) t) s t
def Qq (s t:List Nat):Bool:=
 List.rec (motive:=fun _=>List Nat->Bool) (fun t=>List.rec (motive:=fun _=>Bool) false (fun _ _ _=>true) t)
  (fun x _ ih t=>List.rec (motive:=fun _=>Bool) false (fun y u _=>bif Nat.ble (Nat.succ x) y then true else bif Nat.beq x y then ih u else false) t) s t
def uj:IntKind->IntKind->Bool
 | .i8,.i8 | .i16,.i16 | .i32,.i32 | .i64,.i64 | .u8,.u8 | .u16,.u16 | .u32,.u32 | .u64,.u64=>true
 | _,_=>false
def kF:Value->Option Y
 | .bool b=>some (.bool b)
 | .int k n=>some (.int k n)
 | .string s=>some (.str<|s.data.toList.map UInt8.toNat)
 | .pointer none=>some .nilPtr
 | .slice none 0 0=>some .aw
 | .map none=>some .iy
 | .nilFunc=>some .nilFunc
 | .nilIface=>some .nilIface
 | _=>none
def qM:Value->Option Y
 | .agg cs=>(cX kF cs.toList).map .agg
 | .tuple cs=>(cX kF cs.toList).map .tuple
 | v=>kF v
def wR (P:Program) (t:TypeId):Option TypeInfo:=
 match nth P.types.toList t with
 | some i=>some i
 | none=>P.info? t
def pN (P:Program) (t:TypeId):Option TypeDesc:=
 match wR P t with
 | some {desc:=.named _ u,..}=>(wR P u).map (·.desc)
 | some i=>some i.desc
 | none=>none
theorem qD (P:Program) (t:TypeId):wR P t=P.info? t:=by
 unfold wR;rw[fL,aT_];cases h:P.types[t]? with
 | none=>rfl
 | some i=>
  have hlt:=(aS_.1 h).1;unfold Tables.info?;rw[if_pos hlt,h]
theorem oT (P:Program) (t:TypeId):pN P t=P.underlying t:=by
 grind [pN,Program.underlying,qD]
def dE (P:Program) (t:TypeId):Option (Option Nat):=
 match pN P t with
 | some (.struct _) | some (.array _ _)=>some (some (((wR P t).map (·.size)).getD 0))
 | some _=>some none
 | none=>none
theorem Eh (P:Program) (t:TypeId):dE P t=match P.underlying t with
 | some (.struct _) | some (.array _ _)=>some (some<|P.cellsOf t)
 | some _=>some none
 | none=>none:=by
 unfold dE;rw[oT,qD];rfl
def cE:Y->Option (List Y)
 | .agg cs=>some cs
 | .tuple _=>none
 | .any=>none
 | v=>some [v]
def eX:Y->Bool
 | .agg _ | .tuple _ | .any=>false
 | _=>true
def cg (l:List Y):Bool:=List.rec (motive:=fun _=>Bool) true (fun v _ r=>bif eX v then r else false) l
def lR (cs l:List Y):List Y:=
 List.rec (motive:=fun _=>List Y->List Y) (fun l=>l) (fun c _ ih l=>List.rec (motive:=fun _=>List Y) [] (fun _ l _=>c::ih l) l) cs l
def dp (cs l:List Y) (off:Nat):List Y:=
 List.rec (motive:=fun _=>Nat->List Y) (fun _=>[]) (fun x l ih off=>Nat.rec (motive:=fun _=>List Y) (lR cs (x::l)) (fun m _=>x::ih m) off) l off
def Jy (P:Program) (t:TypeId) (cs:List Y) (off:Nat):Option Y:=
 match dE P t with
 | some (some n)=>some (.agg<|takeN (dZ cs off) n)
 | some none=>nth cs off
 | none=>none
def ka (place:Nat->Option (Nat×Nat)) (ev:Operand->Option Y) (parts:List (Nat×Operand)) (cells:List Y):Option (List Y):=
 List.rec (motive:=fun _=>List Y->Option (List Y)) (fun cells=>some cells)
  (fun p _ ih cells=>
   match place p.1,(ev p.2).bind cE with
   | some (off,size),some vs=>bif Nat.beq (dt vs) size && Nat.ble (off+size) (dt cells) then ih (dp vs cells off) else none
   | _,_=>none) parts cells
def fx (P:Program) (t:TypeId):Option Y:=(P.info? t).bind fun i=>i.zero.bind qM
def ew (cs:List Y) (n:Nat):List Y:=Nat.rec (motive:=fun _=>List Y) [] (fun _ r=>gV cs r) n
def structOf (P:Program) (t:TypeId):Option (Array Field):=
 match pN P t with
 | some (.struct fs)=>some fs
 | _=>none
def tf:Y->Y->Option Bool
 | .bool a,.bool b=>some (bif a then b else(bif b then false else true))
 | .int j a,.int k b=>bif uj j k then some (bD a b) else none
 | .str a,.str b=>some (wL a b)
 | _,_=>none
def jl (P:Program) (fs:List Field) (xs ys:List Y):Option Bool:=
 List.rec (motive:=fun _=>Option Bool) (some true)
  (fun f _ ih=>
   match P.underlying f.type,nth xs f.offset,nth ys f.offset with
   | some .bool,some (.bool a),some (.bool b)=>bif (bif a then b else(bif b then false else true)) then ih else some false
   | some (.int _),some (.int j a),some (.int k b)=>bif uj j k then(bif bD a b then ih else some false) else none
   | some .string,some (.str a),some (.str b)=>bif wL a b then ih else some false
   | _,_,_=>none) fs
def lQ (fs:List Field):Bool:=List.rec (motive:=fun _=>Bool) true (fun f _ r=>bif f.name == "_" then false else r) fs
def yJ (xs ys:List Y):Option Bool:=
 List.rec (motive:=fun _=>List Y->Option Bool) (fun ys=>match ys with | []=>some true | _=>none)
  (fun x _ ih ys=>match x,ys with
   | .int j a,.int k b::r=>bif uj j k then(bif bD a b then ih r else some false) else none
   | _,_=>none) xs ys
def tv (P:Program) (e:TypeId):Bool:=
 match P.underlying e,P.info? e with
 | some (.int _),some i=>Nat.beq i.size 1
 | _,_=>false
def eqFields (P:Program) (fs:List Field) (xs ys:List Y):Option Bool:=
 List.rec (motive:=fun _=>Option Bool) (some true)
  (fun f _ ih=>
   match P.underlying f.type,nth xs f.offset,nth ys f.offset with
   | some .bool,some (.bool a),some (.bool b)=>bif (bif a then b else(bif b then false else true)) then ih else some false
   | some (.int _),some (.int j a),some (.int k b)=>bif uj j k then(bif bD a b then ih else some false) else none
   | some .string,some (.str a),some (.str b)=>bif wL a b then ih else some false
   | some (.struct gs),_,_=>bif P.stoodInHeld f.type || !lQ gs.toList then none else match dE P f.type with
    | some (some n)=>match jl P gs.toList (takeN (dZ xs f.offset) n) (takeN (dZ ys f.offset) n) with
     | some true=>ih
     | some false=>some false
     | none=>none
    | _=>none
   | some (.array m e),_,_=>bif tv P e then(match dE P f.type with
    | some (some n)=>bif Nat.beq n m && (Nat.beq (dt<|takeN (dZ xs f.offset) n) m && Nat.beq (dt<|takeN (dZ ys f.offset) n) m) then(match yJ (takeN (dZ xs f.offset) n) (takeN (dZ ys f.offset) n) with
     | some true=>ih
     | some false=>some false
     | none=>none) else none
    | _=>none) else none
   | _,_,_=>none) fs
def G7 (P:Program) (t:TypeId) (x y:Y):Option Bool:=
 match x,y with
 | .agg xs,.agg ys=>
  match structOf P t with
  | some fs=>bif P.eqGuardType P.depth t || P.stoodInHeld t || !lQ fs.toList then none else eqFields P fs.toList xs ys
  | none=>none
 | .nilPtr,.nilPtr=>match P.underlying t with | some (.pointer _)=>some true | _=>none
 | .ptr _ _,.nilPtr | .nilPtr,.ptr _ _=>match P.underlying t with | some (.pointer _)=>some false | _=>none
 | .ptr b o,.ptr b' o'=>match P.underlying t with | some (.pointer u)=>bif Nat.beq b b' && (Nat.beq o o' && (P.info? u).isSome) then some true else none | _=>none
 | .nilIface,.iface _ _ | .iface _ _,.nilIface=>match P.underlying t with | some (.interface _)=>some false | _=>none
 | .aw,.aw=>match P.underlying t with | some (.slice _)=>some true | _=>none
 | .slice _ _ _ _,.aw | .aw,.slice _ _ _ _=>match P.underlying t with | some (.slice _)=>some false | _=>none
 | .nilFunc,.nilFunc=>match P.underlying t with | some (.func _ _ _)=>some true | _=>none
 | .func _ _ _,.nilFunc | .nilFunc,.func _ _ _=>match P.underlying t with | some (.func _ _ _)=>some false | _=>none
 | .iy,.iy=>match P.underlying t with | some (.map _ _)=>some true | _=>none
 | .map _,.iy | .iy,.map _=>match P.underlying t with | some (.map _ _)=>some false | _=>none
 | _,_=>none
def nm (P:Program) (op:BinOp) (t:TypeId) (x y:Y):Option Y:=
 match op with
 | .eql=>match G7 P t x y with | some b=>some (.bool b) | none=>none
 | .neq=>match G7 P t x y with | some b=>some (.bool (bif b then false else true)) | none=>none
 | _=>none
def tT (P:Program) (op:BinOp) (t:TypeId) (x y:Y):Option Y:=
 match x,y with
 | .int k a,.int k' b=>
  match op with
  | .shl=>bif cW b 0 then none else some (.int k<|wr k (a*2 ^ (min b.toNat k.bits)))
  | .shr=>bif cW b 0 then none else some (.int k<|a.fdiv (2 ^ (min b.toNat k.bits)))
  | op=>
   bif uj k k' then
    match op with
    | .add=>some (.int k<|wr k<|Int.add a b)
    | .sub=>some (.int k<|wr k<|Int.sub a b)
    | .mul=>some (.int k<|wr k<|Int.mul a b)
    | .quo=>bif bD b 0 then none else some (.int k<|wr k<|a.tdiv b)
    | .rem=>bif bD b 0 then none else some (.int k<|a.tmod b)
    | .and=>some (.int k<|k.wrap (BitVec.ofInt k.bits a &&& BitVec.ofInt k.bits b).toNat)
    | .or=>some (.int k<|k.wrap (BitVec.ofInt k.bits a ||| BitVec.ofInt k.bits b).toNat)
    | .xor=>some (.int k<|k.wrap (BitVec.ofInt k.bits a ^^^ BitVec.ofInt k.bits b).toNat)
    | .andNot=>some (.int k<|k.wrap (BitVec.ofInt k.bits a &&& ~~~(BitVec.ofInt k.bits b)).toNat)
    | .eql=>some (.bool<|bD a b)
    | .neq=>some (.bool (bif bD a b then false else true))
    | .lss=>some (.bool<|cW a b)
    | .leq=>some (.bool (bif cW b a then false else true))
    | .gtr=>some (.bool<|cW b a)
    | .geq=>some (.bool (bif cW a b then false else true))
    | _=>none
   else none
 | .str a,.str b=>
  match op with
  | .add=>bif Nat.ble (dt a+dt b) 1152921504606846976 then some (.str<|gV a b) else none
  | .eql=>some (.bool<|wL a b)
  | .neq=>some (.bool (bif wL a b then false else true))
  | .lss=>some (.bool<|Qq a b)
  | .gtr=>some (.bool<|Qq b a)
  | .leq=>some (.bool (bif Qq b a then false else true))
  | .geq=>some (.bool (bif Qq a b then false else true))
  | _=>none
 | .bool a,.bool b=>
  match op,P.underlying t with
  | .eql,some .bool=>some (.bool (bif a then b else(bif b then false else true)))
  | .neq,some .bool=>some (.bool (bif a then(bif b then false else true) else b))
  | _,_=>none
 | x,y=>nm P op t x y
def fu (ev:Operand->Option Y) (x:Operand) (y:Nat):Option Nat:=
 match ev x with
 | some (.int _ (.ofNat i))=>bif Nat.ble i y then some i else none
 | _=>none
def dQ (ev:Operand->Option Y) (len cap:Nat) (lo hi:Option Operand):Option (Nat×Nat):=
 match(match hi with | some h=>fu ev h cap | none=>some len) with
 | some h=>match(match lo with | some l=>fu ev l h | none=>some 0) with
  | some l=>some (l,h)
  | none=>none
 | none=>none
def cut (P:Program) (e:TypeId) (b:Pos) (off l h m:Nat):Option Y:=
 match P.info? e with
 | some j=>some (.slice b (bif Nat.beq m l then off else off+l*j.size) (h-l) (.known (m-l)))
 | none=>none
def cutAt (P:Program) (ev:Operand->Option Y) (e:TypeId) (b:Pos) (off len cap:Nat) (lo hi mx:Option Operand):Option Y:=
 match mx with
 | none=>match dQ ev len cap lo hi with
  | some (l,h)=>cut P e b off l h cap
  | none=>none
 | some x=>match fu ev x cap,hi with
  | some m,some _=>match dQ ev m m lo hi with
   | some (l,h)=>cut P e b off l h m
   | none=>none
  | _,_=>none
def pH (P:Program) (ev:Operand->Option Y) (t:TypeId) (x:Operand) (lo hi mx:Option Operand):Option Y:=
 match P.underlying t,ev x with
 | some (.slice e),some (.slice b off len (.known cap))=>cutAt P ev e b off len cap lo hi mx
 | some (.slice e),some (.slice b off len (.upto sz))=>
  match mx with
  | none=>match dQ ev len len lo hi,P.info? e with
   | some (l,h),some j=>bif Nat.beq j.size sz then some (.slice b (off+l*sz) (h-l) (.upto sz)) else none
   | _,_=>none
  | some x=>bif Nat.beq len 0 then none else cutAt P ev e b off len len lo hi (some x)
 | some (.slice e),some (.slice b off len (.least a sz))=>
  match mx with
  | none=>match dQ ev len a lo hi,P.info? e with
   | some (l,h),some j=>bif Nat.beq j.size sz && (Nat.ble len a && Nat.ble (Nat.succ l) a) then some (.slice b (off+l*sz) (h-l) (.least (a-l) sz)) else none
   | _,_=>none
  | some _=>none
 | some (.slice e),some .aw=>
  match mx with
  | none=>match dQ ev 0 0 lo hi,P.info? e with | some _,some _=>some .aw | _,_=>none
  | some _=>none
 | some (.array n e),some (.ptr b off)=>cutAt P ev e b off n n lo hi mx
 | some (.pointer arr),some (.ptr b off)=>
  match P.underlying arr with
  | some (.array n e)=>cutAt P ev e b off n n lo hi mx
  | _=>none
 | some .string,some (.str s)=>
  match mx with
  | none=>match dQ ev (dt s) (dt s) lo hi with
   | some (l,h)=>some (.str<|takeN (dZ s l) (h-l))
   | none=>none
  | some _=>none
 | _,_=>none
def zy (P:Program) (t:TypeId) (x:Y):Option Nat:=
 match P.underlying t,x with
 | some .string,.str s=>some (dt s)
 | some (.array n _),_=>some n
 | some (.slice _),.slice _ _ n _=>some n
 | some (.slice _),.aw=>some 0
 | some (.map _ _),.iy=>some 0
 | _,_=>none
def Va:Y->Option Y
 | .slice _ _ _ (.known c)=>some (.int .i64<|Int.ofNat c)
 | .slice _ _ _ (.least a _)=>some (.pf a)
 | .aw=>some (.int .i64 0)
 | _=>none
def Nf (P:Program) (op:BinOp) (t:TypeId) (x y:Y):Option Y:=
 match y with
 | .pf a=>match op,x with
  | .gtr,.int .i64 (.ofNat n)=>bif Nat.ble n a then some (.bool false) else none
  | _,_=>none
 | y=>tT P op t x y
def BS:Operand->Bool
 | .const _=>true
 | _=>false
def Oq (P:Program) (o:BinOp) (t:TypeId) (k:Bool):Option Y:=
 bif k then(match P.underlying t with
  | some (.interface _)=>match o with
   | .eql=>some (.bool true)
   | .neq=>some (.bool false)
   | _=>none
  | _=>none) else none
def pV (P:Program) (k:Bool) (o:BinOp) (t:TypeId) (x y:Y):Option Y:=
 match x with
 | .nilIface=>match y with
  | .nilIface=>Oq P o t k
  | y=>Nf P o t .nilIface y
 | x=>Nf P o t x y
def mB (ev:Operand->Option Y) (l:List Operand):Option (List Y):=cX ev l
def TX:Y->Y->Option Y
 | .int k x,.int k' y=>bif uj k k' then some (.int k (bif cW y x then y else x)) else none
 | _,_=>none
def TW:Y->Y->Option Y
 | .int k x,.int k' y=>bif uj k k' then some (.int k (bif cW x y then y else x)) else none
 | _,_=>none
def dH (P:Program) (ev:Operand->Option Y):Op->Option Y
 | .move x | .assign x=>ev x
 | .pick c a b=>match ev c with | some (.bool true)=>ev a | some (.bool false)=>ev b | _=>none
 | .build t parts=>
  match P.underlying t,(fx P t).bind cE with
  | some (.struct fs),some zero=>match cX (fun f:Field=>(P.info? f.type).map fun j=>(f.offset,j.size)) fs.toList with
   | some places=>(ka (nth places) ev parts.toList zero).map .agg
   | none=>none
  | some (.array _ e),some zero=>match P.info? e with
   | some j=>(ka (fun i=>some (i*j.size,j.size)) ev parts.toList zero).map .agg
   | none=>none
  | _,_=>none
 | .nilCheck x=>match ev x with
  | some .nilPtr | some .nilIface | some .nilFunc | some (.yield _) | some .any | some (.tok _)=>none
  | v=>v
 | .binOp op t x y _=>match ev x,ev y with | some a,some b=>pV P (BS x || BS y) op t a b | _,_=>none
 | .unOp op _ x=>match op,ev x with
  | .not,some (.bool b)=>some (.bool (bif b then false else true))
  | .neg,some (.int k n)=>some (.int k<|wr k<|Int.sub 0 n)
  | .xor,some (.int k n)=>some (.int k<|k.wrap (BitVec.ofInt k.bits (if k.signed then-1 else k.max) ^^^ BitVec.ofInt k.bits n).toNat)
  | _,_=>none
 | .convert src dst x=>match P.underlying src,P.underlying dst,ev x with
  | some (.int _),some (.int k),some (.int _ n)=>some (.int k<|wr k n)
  | some .string,some .string,some (.str s)=>some (.str s)
  | _,_,_=>none
 | .makeInterface t x=>match P.underlying t,ev x with
  | some (.interface _),_=>none
  | some _,some v=>some (.iface t v)
  | _,_=>none
 | .makeFunc fn first captured=>match fn,mB ev first.toList,mB ev captured.toList with
  | .func f,some a,some b=>some (.func f a b)
  | _,_,_=>none
 | .slice t x lo hi mx=>pH P ev t x lo hi mx
 | .fieldAddr s x i=>match structOf P s,ev x with
  | some fs,some (.ptr b off)=>match fs[i]? with
   | some f=>match P.info? f.type with
    | some j=>bif Nat.beq j.size 0 then none else some (.ptr b (off+f.offset))
    | none=>none
   | none=>none
  | _,_=>none
 | .field t x i=>match structOf P t,ev x with
  | some fs,some (.agg cs)=>match fs[i]? with
   | some f=>Jy P f.type cs f.offset
   | none=>none
  | _,_=>none
 | .indexAddr t x i=>match P.underlying t,ev x,ev i with
  | some (.slice e),some (.slice b off len _),some (.int _ (.ofNat i))=>
   match P.info? e with
   | some j=>bif Nat.ble (Nat.succ i) len then some (.ptr b (off+i*j.size)) else none
   | none=>none
  | some (.array n e),some (.ptr b off),some (.int _ (.ofNat i))=>
   match P.info? e with
   | some j=>bif Nat.ble (Nat.succ i) n then some (.ptr b (off+i*j.size)) else none
   | none=>none
  | _,_,_=>none
 | .index t x i=>match P.underlying t,ev x,ev i with
  | some (.array n e),some (.agg cs),some (.int _ (.ofNat i))=>bif Nat.ble (Nat.succ i) n then(match P.info? e with | some j=>Jy P e cs (i*j.size) | none=>none) else none
  | some .string,some (.str s),some (.int _ (.ofNat i))=>match nth s i with | some b=>some (.int .u8<|Int.ofNat b) | none=>none
  | _,_,_=>none
 | .extract x i=>match ev x with
  | some (.tuple vs)=>nth vs i
  | _=>none
 | .typeAssert x _ t ok=>match P.underlying t,ev x with
  | some (.interface _),_=>none
  | some _,some (.iface u v)=>bif Nat.beq u t then some (bif ok then .tuple [v,.bool true] else v) else(bif ok then(fx P t).map fun z=>.tuple [z,.bool false] else none)
  | some _,some .nilIface=>bif ok then(fx P t).map fun z=>.tuple [z,.bool false] else none
  | _,_=>none
 | .call c=>match c.callee with
  | .builtin .len=>match c.argTypes[0]?,c.args.toList with
   | some t,[x]=>match ev x with | some v=>(zy P t v).map fun n=>.int .i64 (Int.ofNat n) | none=>none
   | _,_=>none
  | .builtin .cap=>match c.argTypes[0]?,c.args.toList with
   | some t,[x]=>match P.underlying t,ev x with | some (.slice _),some v=>Va v | _,_=>none
   | _,_=>none
  | .builtin .min=>match c.args.toList with
   | [x,y]=>(match ev x,ev y with | some a,some b=>TX a b | _,_=>none)
   | _=>none
  | .builtin .max=>match c.args.toList with
   | [x,y]=>(match ev x,ev y with | some a,some b=>TW a b | _,_=>none)
   | _=>none
  | _=>none
 | _=>none
def plainKey (P:Program) (t:TypeId):Bool:=
 match P.underlying t with
 | some (.int _) | some .string | some .bool=>true
 | some (.struct fs)=>fs.toList.all fun f=>match P.underlying f.type with
  | some (.int _) | some .string | some .bool=>true
  | some (.struct gs)=>gs.toList.all fun g=>match P.underlying g.type with
   | some (.int _) | some .string | some .bool=>true
   | _=>false
  | some (.array _ e)=>tv P e
  | _=>false
 | _=>false
def lh (P:Program) (t:TypeId) (x y:Y):Option Bool:=
 match P.underlying t,x,y with
 | some (.int _),.int j a,.int k b=>bif uj j k then some (bD a b) else none
 | some .string,.str a,.str b=>some (wL a b)
 | some .bool,.bool a,.bool b=>some (bif a then b else(bif b then false else true))
 | some (.struct _),.agg xs,.agg ys=>G7 P t (.agg xs) (.agg ys)
 | _,_,_=>none
def jL (P:Program) (t:TypeId) (x:Y):Bool:=
 match P.underlying t,x with
 | some (.struct fs),.agg xs=>fs.toList.all fun f=>match P.underlying f.type with
  | some (.struct gs)=>match dE P f.type with
   | some (some n)=>gs.toList.all fun g=>(nth (takeN (dZ xs f.offset) n) g.offset).isSome
   | _=>false
  | some (.array m _)=>match dE P f.type with
   | some (some n)=>Nat.beq n m && Nat.beq (dt<|takeN (dZ xs f.offset) n) m
   | _=>false
  | _=>(nth xs f.offset).isSome
 | some (.struct _),_=>false
 | _,_=>true
def nr (P:Program) (t:TypeId) (k:Y) (es:List eC):Nat->Option (Option (Nat×Y)):=
 List.rec (motive:=fun _=>Nat->Option (Option (Nat×Y))) (fun _=>some none)
  (fun e _ ih i=>match lh P t k e.key with
   | some true=>some (some (i,e.val))
   | some false=>ih (Nat.succ i)
   | none=>none) es
def tD (P:Program) (u:Option TypeId) (V:D) (x:Option Y):Option Y:=
 match x with
 | some (.ptr b off)=>match V.m.get b with
  | some (.own cells e)=>match u with
   | some u=>bif liesAt P P.depth e (dt cells/P.cellsOf e) off u 1 then some (.ptr b off) else none
   | none=>bif Nat.ble (Nat.succ off) (dt cells) then some (.ptr b off) else none
  | _=>none
 | _=>none
def Bo:Y->Option Nat
 | .int .u8 (.ofNat n)=>bif Nat.ble n 255 then some n else none
 | _=>none
def gG (P:Program) (ev:Operand->Option Y) (V:D):Op->Option Y
 | .load t x=>match ev x with
  | some (.ptr b off)=>match V.m.get b with
   | some (.row cells _ _)=>match dE P t with
    | some (some n)=>bif Nat.ble (off+n) (dt cells) then some (.agg<|takeN (dZ cells off) n) else none
    | some none=>nth cells off
    | none=>none
   | some (.own cells _)=>match dE P t with
    | some (some n)=>bif Nat.ble (off+n) (dt cells) then some (.agg<|takeN (dZ cells off) n) else none
    | some none=>nth cells off
    | none=>none
   | _=>none
  | _=>none
 | .lookup t x i ok=>match P.underlying t,ev i with
  | some (.map kt et),some k=>bif plainKey P kt && jL P kt k then
    match(match ev x with
     | some .iy=>some []
     | some (.map b)=>match V.m.get b with | some (.map es _)=>some es | _=>none
     | _=>none) with
    | some es=>match nr P kt k es 0,fx P et with
     | some (some (_,v)),some _=>some (bif ok then .tuple [v,.bool true] else v)
     | some none,some z=>some (bif ok then .tuple [z,.bool false] else z)
     | _,_=>none
    | none=>none
   else none
  | _,_=>none
 | .call c=>match c.callee with
  | .builtin .len=>match c.argTypes[0]?,c.args.toList with
   | some t,[x]=>match P.underlying t,ev x with
    | some (.map _ _),some (.map b)=>match V.m.get b with
     | some (.map es _)=>some (.int .i64<|Int.ofNat<|dt es)
     | _=>none
    | some (.map _ _),some .iy=>some (.int .i64 0)
    | _,_=>none
   | _,_=>none
  | _=>none
 | .convert src dst x=>match P.underlying src,P.underlying dst with
  | some (.slice e),some .string=>match P.underlying e,ev x with
   | some (.int .u8),some .aw=>some (.str [])
   | some (.int .u8),some (.slice b off len _)=>bif Nat.beq len 0 then some (.str []) else match V.m.get b with
    | some (.row cells _ _)=>bif Nat.ble (off+len) (dt cells) then(match cX Bo (takeN (dZ cells off) len) with | some s=>some (.str s) | none=>none) else none
    | _=>none
   | _,_=>none
  | some (.pointer t),some .unsafePointer=>match P.info? t with
   | some j=>bif Nat.beq j.size 0 then none else tD P none V (ev x)
   | none=>none
  | some .unsafePointer,some (.pointer u)=>bif (P.info? u).isSome then tD P (some u) V (ev x) else none
  | _,_=>none
 | _=>none
inductive Mk where
 | ptr
 | slice (len cap:Nat)
 | map
def Mk.of:Mk->Pos->Y
 | .ptr,b=>.ptr b 0
 | .slice len cap,b=>.slice b 0 len (.known cap)
 | .map,b=>.map b
def uQ (P:Program) (e:TypeId):Bool:=
 match P.underlying e with
 | some (.struct fs)=>match fs[0]? with
  | some f=>match P.underlying f.type with
   | some (.pointer t)=>Nat.beq t e
   | _=>false
  | none=>false
 | _=>false
def fV (P:Program) (ev:Operand->Option Y):Op->Option (cd×Mk)
 | .alloc e=>match(fx P e).bind cE with
  | some cs=>some (bif uQ P e then .own cs e else .row cs e false,.ptr)
  | none=>none
 | .box e x=>match(ev x).bind cE with
  | some cs=>some (.row cs e false,.ptr)
  | none=>none
 | .buildSlice t len parts=>match P.underlying t with
  | some (.slice e)=>match P.info? e,(fx P e).bind cE with
   | some j,some z=>
    bif Nat.beq (dt z) j.size && Nat.ble (len*j.size) 16777216 && Nat.ble 1 j.size then
     match ka (fun i=>some (i*j.size,j.size)) ev parts.toList (ew z len) with
     | some cs=>some (.row cs e false,.slice len len)
     | none=>none
    else none
   | _,_=>none
  | _=>none
 | .makeSlice t l c=>match P.underlying t,ev l,ev c with
  | some (.slice e),some (.int _ (.ofNat l)),some (.int _ (.ofNat c))=>match P.info? e,(fx P e).bind cE with
   | some j,some z=>
    bif Nat.ble l c && Nat.ble (j.bytes*c) 1048576 && Nat.ble c 1048576 && Nat.beq (dt z) j.size && Nat.ble 1 j.size then some (.row (ew z c) e false,.slice l c) else none
   | _,_=>none
  | _,_,_=>none
 | .makeMap _ none=>some (.map [] 0,.map)
 | .makeMap t (some r)=>match P.underlying t,ev r with
  | some (.map _ _),some (.int _ _)=>some (.map [] 0,.map)
  | _,_=>none
 | _=>none
variable {α:Type} {cs:List Y} {P:Program} {U:Ren}
theorem bB {c:Bool} {x y:α}:(bif c then x else y)=if c=true then x else y:=by cases c<;>rfl
theorem xm (k:IntKind) (n:Int) (h:SZ k n=true):k.wrap n=n:=by
 cases k<;>cases n with
 | ofNat a=>simp only[SZ,nE_] at h;simp only[IntKind.wrap,IntKind.bits,IntKind.signed];simp;omega
 | negSucc a=>first | (simp only[SZ,nE_] at h;simp only[IntKind.wrap,IntKind.bits,IntKind.signed];simp;omega) | (simp[SZ] at h)
theorem Kb (k:IntKind) (n:Int):wr k n=k.wrap n:=by
 grind [wr,xm]
theorem eQ (x y:Int):cW x y=decide (x<y):=by
 cases x<;>cases y<;>simp only[cW]<;>(rw[zd_];simp[nE_];try omega)
theorem dS (x y:Int):bD x y=decide (x=y):=by
 cases x<;>cases y<;>simp only[bD]<;>(rw[zd_];simp;try omega)
theorem qv {j k:IntKind} (h:uj j k=true):j=k:=by cases j<;>cases k<;>first | rfl | (simp[uj] at h)
theorem yL:∀(s t:List Nat),wL s t=decide (s=t)
 | [],[]=>by simp[wL]
 | [],_::_=>by simp[wL]
 | _::_,[]=>by simp[wL]
 | x::s,y::t=>by
  show(bif Nat.beq x y then wL s t else false)=_;rw[yL s t,zd_]
  simp_all
theorem Ol:∀(s t:List UInt8),Qq (s.map UInt8.toNat) (t.map UInt8.toNat)=Op.bytesLess s t
 | [],[]=>by simp[Qq,Op.bytesLess]
 | [],_::_=>by simp[Qq,Op.bytesLess]
 | _::_,[]=>by simp[Qq,Op.bytesLess]
 | x::s,y::t=>by
  show(bif Nat.ble (Nat.succ x.toNat) y.toNat then true else bif Nat.beq x.toNat y.toNat then Qq (s.map UInt8.toNat) (t.map UInt8.toNat) else false)=_;rw[Ol s t];simp only[Op.bytesLess]
  have e1:Nat.ble (Nat.succ x.toNat) y.toNat=decide (x<y):=by
   rw[zd_,nE_];simp[UInt8.lt_iff_toNat_lt];omega
  have e2:Nat.beq x.toNat y.toNat=(x == y):=by
   rw[zd_,Nat.beq_eq];simp[<-UInt8.toNat_inj]
  simp_all
theorem sI:∀{x y:List UInt8},x.map UInt8.toNat=y.map UInt8.toNat->x=y
 | [],[],_=>rfl
 | [],_::_,h=>by simp at h
 | _::_,[],h=>by simp at h
 | a::x,b::y,h=>by
  simp only[List.map_cons,List.cons.injEq] at h;rw[UInt8.toNat_inj.1 h.1,sI h.2]
theorem oQ {s t:List Nat} {x y:ByteArray} (h:gQ s x) (h':gQ t y):wL s t=(x.toList == y.toList):=by
 unfold gQ at h h';subst h;subst h';rw[yL,ByteArray.toList_eq,ByteArray.toList_eq,zd_];simp only[decide_eq_true_eq,beq_iff_eq];exact⟨sI,fun h=>by rw[h]⟩
theorem Ct {s t:List Nat} {x y:ByteArray} (h:gQ s x) (h':gQ t y):Qq s t=Op.bytesLess x.toList y.toList:=by
 grind [gQ,Ol,ByteArray.toList_eq]
theorem jx {s:List Nat} {x:ByteArray} (h:gQ s x):dt s=x.size:=by
 unfold gQ at h;subst h;rw[cC,lM_,Array.length_toList];rfl
theorem info_of_underlying {t:TypeId} {d:TypeDesc} (h:P.underlying t=some d):∃i,P.info? t=some i:=by
 unfold Program.underlying at h
 grind
theorem s9 {t:TypeId} {i:TypeInfo} (h:P.info? t=some i):P.cellsOf t=i.size:=by simp[Program.cellsOf,h]
theorem zO:∀(cs l:List Y),cs.length<=l.length->lR cs l=cs++l.drop cs.length
 | [],l,_=>by simp[lR]
 | c::cs,[],h=>by simp at h
 | c::cs,x::l,h=>by
  show c::lR cs l=_;rw[zO cs l (by simpa using h)];simp
theorem ju (cs:List Y):∀(l:List Y) (off:Nat),off+cs.length<=l.length->dp cs l off=l.take off++cs++l.drop (off+cs.length)
 | [],off,h=>by
  have:cs= []:=eN_ (by simp only[List.length_nil] at h;omega);subst this;simp[dp]
 | x::l,0,h=>by
  show lR cs (x::l)=_;rw[zO _ _ (by simpa using h)];simp
 | x::l,off+1,h=>by
  show x::dp cs l off=_;rw[ju cs l off (by simp at h;omega)];rw[show off+1+cs.length=(off+cs.length)+1 by omega];simp
theorem ma:∀{l:List Y},cg l=true->∀v∈l,eX v=true
 | [],_,v,hv=>by simp at hv
 | x::l,h,v,hv=>by
  have h':(bif eX x then cg l else false)=true:=h;cases hx:eX x with
  | false=>rw[hx] at h';simp at h'
  | true=>
   rw[hx] at h';cases hv with
   | head=>exact hx
   | tail _ hm=>exact ma h' v hm
theorem lO {v:Y} {x:Value} (h:eX v=true) (hv:VR U v x):x.oneCell'=true:=by
 cases v with
 | slice b off len cap=>
  cases cap with
  | upto sz=>
   simp only[VR] at hv;rcases hv with ⟨l,_,⟨c,rfl,_⟩ | ⟨_,a,rfl⟩⟩<;>rfl
  | known c=>simp only[VR] at hv;obtain⟨l,_,rfl⟩:=hv;rfl
  | least a sz=>simp only[VR] at hv;obtain⟨l,_,c,rfl,_⟩:=hv;rfl
 | any=>simp[eX] at h
 | tok n=>simp only[VR] at hv;exact hv.2
 | _=>simp only[VR,eX] at hv h<;>first | (subst hv;rfl) | (obtain⟨_,rfl,_⟩:=hv;rfl) | (obtain⟨_,_,rfl⟩:=hv;rfl) | (obtain⟨_,_,rfl,_⟩:=hv;rfl) | simp_all
theorem pA {x:Value} {v:Y} (h:kF x=some v):VR U v x:=by
 unfold kF at h;split at h<;>first | (cases h;first | (simp only[VR];done) | (simp only[VR];exact⟨_,Z,Z⟩)) | cases h
theorem nC {U:Ren}:∀{xs:List Value} {vs:List Y},cX kF xs=some vs->di U vs xs
 | [],vs,h=>by rw[il] at h;cases h;exact di.nil
 | x::xs,vs,h=>by
  obtain⟨y,r,h1,u,rfl⟩:=gJ h;exact di.cons (pA h1)<|nC u
theorem qN {x:Value} {v:Y} (h:qM x=some v):VR U v x:=by
 unfold qM at h;split at h
 ·rename_i cs;cases hc:cX kF cs.toList with
  | none=>rw[hc] at h;cases h
  | some vs=>rw[hc] at h;cases h;simp only[VR];exact⟨cs,Z,nC hc⟩
 ·rename_i cs;cases hc:cX kF cs.toList with
  | none=>rw[hc] at h;cases h
  | some vs=>rw[hc] at h;cases h;simp only[VR];exact⟨cs,Z,nC hc⟩
 exact pA h
theorem iG {v:Y} {x:Value} (h:cE v=some cs) (hv:VR U v x):di U cs x.cells.toList:=by
 have leaf:eX v=true->cs= [v]->di U cs x.cells.toList:=fun hl e=>by
  subst e;have hx:=lO hl hv;have e:x.cells.toList= [x]:=by cases x<;>first | rfl | (simp[Value.oneCell'] at hx)
  rw[e];exact di.cons hv di.nil
 cases v with
 | agg ds=>simp only[cE,oJ_] at h;subst h;simp only[VR] at hv;obtain⟨ys,rfl,u⟩:=hv;exact u
 | tuple ds=>simp[cE] at h
 | any=>simp[cE] at h
 | _=>simp only[cE,oJ_] at h;exact leaf Z h.symm
theorem ng {v:Y} {x:Value} (h:cE v=some cs) (hv:VR U v x):x.cells.size=cs.length:=by
 have:=(iG h hv).length;simpa using this
section
variable {P:Program} {U:Ren} {V:D} {w:World}
def ER (U:Ren) (ev:Operand->Option Y) (f:Operand->Value) (op:Op):Prop:=∀x∈op.operands,∀v,ev x=some v->VR U v (f x)
theorem Inv.piece (hi:Inv U V w) {b:Pos} {l:Loc} {cells:List Y} {ro:Bool} (u:V.m.get b=some (.row cells e ro)) (hl:U b=some l) (off n:Nat) (hn:off+n<=cells.length):
  ∃ys:List Value,ys.length=n/\di U ((cells.drop off).take n) ys/\∀(j:Nat) (y:Value),ys[j]? =some y->w.cell? ((⟨l.de,l.sh+off,none⟩:Addr).add j)=some y:=by
 obtain⟨c,fr,h1,h2,h3,h4,_⟩:=hi.row u hl;refine⟨(c.toList.drop (l.sh+off)).take n,?_,di.HG ?_ ?_,?_⟩
 ·grind
 ·grind
 ·grind
 intro j y hy;rw[List.getElem?_take] at hy;split at hy
 ·rw[List.getElem?_drop,aT_] at hy;rw[Addr.add_eq _ _ Z,cell?_of_heap h1];exact hy
 cases hy
def Eg:TypeDesc->Bool
 | .struct _ | .array _ _=>true
 | _=>false
theorem fp {t:TypeId} {d:TypeDesc} (h:P.underlying t=some d):(isAgg t).run P w= .ok (Eg d) w:=by
 simp only[isAgg,sB_,run_underlying h,rA];cases d<;>rfl
theorem cN {t:TypeId} {i:TypeInfo} (h:P.info? t=some i):(sizeOf t).run P w= .ok i.size w:=by
 simp[sizeOf,typeInfo,h]
theorem sT {t:TypeId} {n:Nat} (h:dE P t=some (some n)):∃d i,P.underlying t=some d/\P.info? t=some i/\i.size=n/\Eg d=true:=by
 rw[Eh] at h;split at h
 ·rename_i fs hu;obtain⟨i,hi⟩:=info_of_underlying hu;simp only[oJ_] at h;rw[s9 hi] at h;exact⟨_,i,hu,hi,h,Z⟩
 ·rename_i hu;obtain⟨i,hi⟩:=info_of_underlying hu;simp only[oJ_] at h;rw[s9 hi] at h;exact⟨_,i,hu,hi,h,Z⟩
 ·simp at h
 simp at h
theorem yf {t:TypeId} (h:dE P t=some none):∃d i,P.underlying t=some d/\P.info? t=some i/\Eg d=false:=by
 rw[Eh] at h;split at h
 ·simp at h
 ·simp at h
 ·rename_i d h1 h2 hu;obtain⟨i,hi⟩:=info_of_underlying hu;refine⟨d,i,hu,hi,?_⟩;cases d<;>first | rfl | simp_all | simp_all
 simp at h
theorem nL (hi:Inv U V w) {b:Pos} {l:Loc} {off:Nat} {cells:List Y} {ro:Bool} (F:V.m.get b=some (.row cells e ro)) (hl:U b=some l) {t:TypeId} {v:Y}
  (h:(match dE P t with
    | some (some n)=>bif Nat.ble (off+n) (dt cells) then some (.agg<|takeN (dZ cells off) n) else none
    | some none=>nth cells off
    | none=>none)=some v):
  ∃x,(loadVar t ⟨l.de,l.sh+off,none⟩).run P w= .ok x w/\VR U v x:=by
 cases A:dE P t with
 | none=>rw[A] at h;cases h
 | some o=>
  rw[A] at h;cases o with
  | some n=>
   obtain⟨d,i,hu,u,C,E⟩:=sT A;simp only[bB] at h;split at h
   ·rename_i hle;rw[nE_,cC] at hle;cases h;obtain⟨ys,hlen,aa,hc⟩:=hi.piece F hl off n hle;refine⟨.agg ys.toArray,?_,?_⟩
    ·simp only[loadVar,sB_,fp hu,E,rA,if_true,cN u,C];rw[<-hlen,run_loadCells_list w _ ys hc];rfl
    simp only[VR,dT,eB]
    simp_all
   cases h
  | none=>
   obtain⟨d,i,hu,u,E⟩:=yf A;rw[fL] at h;obtain⟨y,hy,G⟩:=hi.cell F hl h;refine⟨y,?_,G⟩;simp only[loadVar,sB_,fp hu,E,rA,zi_,if_false];rw[run_load,hy]
end
variable {parts:Array (Nat×Operand)} {mk:Mk} {ev:Operand->Option Y} {ob:cd}
section
variable {P:Program} {U:Ren} {V:D} {w:World}
def ic (l:List Y) (k:Nat):List Y->List Y
 | []=>l
 | v::vs=>ic (l.set k v) (k+1) vs
theorem sQ:∀(vs:List Y) (l:List Y) (k:Nat),(ic l k vs).length=l.length
 | [],_,_=>rfl
 | v::vs,l,k=>by rw[ic,sQ vs];simp
theorem re:∀(vs:List Y) (x:Y) (l:List Y) (k:Nat),ic (x::l) (k+1) vs=x::ic l k vs
 | [],_,_,_=>rfl
 | v::vs,x,l,k=>by rw[ic,ic,List.set_cons_succ,re vs]
theorem qO:∀(cs l:List Y),cs.length<=l.length->lR cs l=ic l 0 cs
 | [],l,_=>by simp[lR,ic]
 | c::cs,[],h=>by simp at h
 | c::cs,x::l,h=>by
  show c::lR cs l=_;rw[qO cs l (by simpa using h),ic,List.set_cons_zero,re]
theorem kQ (cs:List Y):∀(l:List Y) (off:Nat),off+cs.length<=l.length->dp cs l off=ic l off cs
 | [],off,h=>by
  have:cs= []:=eN_ (by simp only[List.length_nil] at h;omega);subst this;simp[dp,ic]
 | x::l,0,h=>by
  show lR cs (x::l)=_;exact qO _ _ (by simpa using h)
 | x::l,off+1,h=>by
  show x::dp cs l off=_;rw[kQ cs l off (by simp only[zc_] at h;omega),re]
theorem E3 {off:Nat}:∀(vs:List Y) (xs:List Value) (k:Nat) (l:List Y) (ys:Array Value),di U vs xs->di U l ys.toList->
  di U (ic l (off+k) vs) ((xs.zipIdx k).foldl (fun(cs:Array Value) (p:Value×Nat)=>cs.setIfInBounds (off+p.2) p.1) ys).toList
 | [],xs,k,l,ys,h,hl=>by rw[h.dX];exact hl
 | v::vs,xs,k,l,ys,h,hl=>by
  obtain⟨x,r,rfl,h1,u⟩:=h.cons_inv;simp only[List.zipIdx_cons,List.foldl_cons,ic];have:=E3 (off:=off) vs r (k+1) (l.set (off+k) v) (ys.setIfInBounds (off+k) x) u (by simpa using hl.set (off+k) h1);simpa [Nat.add_assoc] using this
theorem pw {place place':Nat->Option (Nat×Nat)} (hp:∀i x,place i=some x->place' i=some x) {ev:Operand->Option Y} {f:Operand->Value}:
  ∀(parts:List (Nat×Operand)) (cells cs:List Y) (ys:Array Value),(∀p∈parts,∀v,ev p.2=some v->VR U v (f p.2))->di U cells ys.toList->ka place ev parts cells=some cs->
   ∃zs:Array Value,Instr.fill place' ys (parts.map fun p=>(p.1,f p.2))=some zs/\di U cs zs.toList
 | [],cells,cs,ys,_,hc,h=>by
  simp only[ka,oJ_] at h;subst h;exact⟨ys,Z,hc⟩
 | p::parts,cells,cs,ys,C,hc,h=>by
  have h':(match place p.1,(ev p.2).bind cE with
   | some (off,size),some vs=>bif Nat.beq (dt vs) size && Nat.ble (off+size) (dt cells) then ka place ev parts (dp vs cells off) else none
   | _,_=>none)=some cs:=h
  cases A:place p.1 with
  | none=>simp_all
  | some x=>
   obtain⟨off,size⟩:=x;cases hv:ev p.2 with
   | none=>simp_all
   | some v=>
    rw[A,hv] at h';simp only[Option.bind_some] at h';cases u:cE v with
    | none=>simp_all
    | some vs=>
     rw[u] at h';simp only[bB] at h';split at h'
     ·rename_i hb;simp only[bA_,Nat.beq_eq,nE_,cC] at hb;obtain⟨ab,ac⟩:=hb;have hvr:=C p (by simp) v hv;have hcells:=iG u hvr;have hsize:=ng u hvr;have aa:ys.size=cells.length:=by have:=hc.length;simpa using this
      have hfold:=E3 (off:=off) vs (f p.2).cells.toList 0 cells ys hcells hc;rw[Nat.add_zero,<-kQ vs cells off oM] at hfold;obtain⟨zs,h1,E⟩:=pw hp parts (dp vs cells off) cs _ (fun q hq=>C q (by simp[hq])) hfold h';refine⟨zs,?_,E⟩;rw[List.map_cons];simp only[Instr.fill,hp _ _ A];rw[if_neg]
      ·rw[<-h1];congr 1;rw[<-Array.foldl_toList];simp
      simp_all
     cases h'
theorem tP {α β:Type} {g:α->Option β}:∀{l:List α} {ys:List β},cX g l=some ys->l.mapM g=some ys
 | [],ys,h=>by rw[il] at h;cases h;rfl
 | x::l,ys,h=>by
  obtain⟨y,r,h1,u,rfl⟩:=gJ h;simp[List.mapM_cons,h1,tP u]
theorem ry {t:TypeId} {z:Y} (h:fx P t=some z):∃i x,P.info? t=some i/\i.zero=some x/\∀U:Ren,VR U z x:=by
 unfold fx at h;cases hi:P.info? t with
 | none=>rw[hi] at h;cases h
 | some i=>
  rw[hi] at h;simp only[Option.bind_some] at h;cases u:i.zero with
  | none=>rw[u] at h;cases h
  | some x=>rw[u] at h;exact⟨i,x,Z,u,fun U=>qN h⟩
theorem ga {t:TypeId} (h:(fx P t).bind cE=some cs):∃i x,P.info? t=some i/\i.zero=some x/\∀U:Ren,di U cs x.cells.toList:=by
 cases u:fx P t with
 | none=>rw[u] at h;cases h
 | some z=>
  grind [ry,iG]
theorem Et {f:Operand->Value} {t:TypeId} {v:Y}
  (E:∀p∈parts.toList,∀v,ev p.2=some v->VR U v (f p.2)) (h:dH P ev (.build t parts)=some v):
  ∃x,(Instr.build t<|parts.map fun(i,x)=>(i,f x)).run P w= .ok x w/\VR U v x:=by
 simp only[dH] at h;cases hu:P.underlying t with
 | none=>rw[hu] at h;cases h
 | some d=>
  rw[hu] at h;cases F:(fx P t).bind cE with
  | none=>simp_all
  | some zero=>
   rw[F] at h;obtain⟨it,z,u,hzero,A⟩:=ga F;cases d with
   | struct fs=>
    simp only at h;cases C:cX (fun f:Field=>(P.info? f.type).map fun j=>(f.offset,j.size)) fs.toList with
    | none=>simp_all
    | some places=>
     rw[C] at h;dsimp only at h;cases hf:ka (nth places) ev parts.toList zero with
     | none=>rw[hf] at h;cases h
     | some cs=>
      rw[hf] at h;cases h;obtain⟨zs,h1,G⟩:=pw (place':=(places.toArray[·]?)) (fun i x hx=>by rw[fL] at hx;simpa using hx) parts.toList zero cs z.cells E (A U) hf
      refine⟨.agg zs,run_build w t _ zs ?_,by simp only[VR];simp_all⟩;simp only[Program.built,u,hu,hzero,tP C];simpa using h1
   | array n e=>
    simp only at h;cases hj:P.info? e with
    | none=>rw[hj] at h;cases h
    | some j=>
     rw[hj] at h;dsimp only at h;cases hf:ka (fun i=>some (i*j.size,j.size)) ev parts.toList zero with
     | none=>rw[hf] at h;cases h
     | some cs=>
      rw[hf] at h;cases h;obtain⟨zs,h1,G⟩:=pw (place':=fun i=>some (i*j.size,j.size)) (fun i x hx=>hx) parts.toList zero cs z.cells E (A U) hf;refine⟨.agg zs,run_build w t _ zs ?_,by simp only[VR];simp_all⟩;simp only[Program.built,u,hu,hzero,hj];simpa using h1
   | _=>cases h
theorem rY {ys:List Value} (h:di U cs ys) (r e:Nat):gz U ⟨r,0,cs.length⟩ (.row cs e false) (.cells ys.toArray e):=by
 refine⟨_,_,Z,by simpa using h.length,nR_ _,fun i v hv=>?_,fun _ j _ hj=>by simp at hj⟩;obtain⟨y,h1,h2⟩:=h.get hv
 simp_all
theorem jT {cs:List Y} {ys:List Value} (h:di U cs ys):∀n,di U (ew cs n) ((List.replicate n ys).flatten)
 | 0=>(di.nil:di U [] [])
 | n+1=>by
  show di U (gV cs<|ew cs n) _;rw[dU,List.replicate_succ,List.flatten_cons];exact h.append<|jT h n
theorem sR (cs:List Y):∀n,(ew cs n).length=n*cs.length
 | 0=>by rw[Nat.zero_mul];rfl
 | n+1=>by
  show(gV cs<|ew cs n).length=_;rw[dU,lA_,sR cs n,Nat.succ_mul,Nat.add_comm]
theorem ke (ys:List Value):∀(n j:Nat),j<n*ys.length->((List.replicate n ys).flatten)[j]? =ys[j%ys.length]?
 | 0,j,h=>by simp at h
 | n+1,j,h=>by
  rw[List.replicate_succ,List.flatten_cons]
  by_cases hj:j<ys.length
  ·rw[gL_ hj,Nat.mod_eq_of_lt hj]
  rw[gR_ oM,ke ys n (j-ys.length) (by rw[Nat.succ_mul] at h;omega)];congr 1
  have h0:0<ys.length:=by
   rcases Nat.eq_zero_or_pos ys.length with h0 | h0
   ·rw[h0] at h;simp at h
   exact h0
  rw[Nat.mod_eq_sub_mod (by omega:j≥ys.length)]
theorem xQ (z:Array Value) (n:Nat) (hz:0<z.size):((Array.range (n*z.size)).map (z[· %z.size]!))=((List.replicate n z.toList).flatten).toArray:=by
 apply Array.ext_getElem?;intro j;simp only[Array.getElem?_map,List.getElem?_toArray]
 by_cases hj:j<n*z.size
 ·grind [ke,Nat.mod_lt]
 simp_all
theorem wx {f:Operand->Value} {o:Oper} (I:ER U ev f o.op) (h:fV P ev o.op=some (ob,mk)):
  ∃(x:Value) (ob':Obj) (n:Nat),(execOp f o).run P w= .ok (.value x) (w.alloc ob')/\ob.ro=false/\gz U ⟨w.heap.size,0,n⟩ ob ob'/\
   ∀(U':Ren) (b:Pos),U' b=some ⟨w.heap.size,0,n⟩->VR U' (mk.of b) x:=by
 cases A:o.op with
 | alloc e=>
  rw[A] at h;simp only[fV] at h;cases E:(fx P e).bind cE with
  | none=>rw[E] at h;cases h
  | some cs=>
   rw[E] at h;obtain⟨i,z,hi,hzero,u⟩:=ga E;cases hp:uQ P e with
   | false=>
    rw[hp] at h;cases h;refine⟨.pointer<|some ⟨w.heap.size,0,none⟩,.cells z.cells e,cs.length,?_,Z,rY (u U) _ _,fun U' b hb=>by simp only[Mk.of,VR];simp_all⟩;simp[execOp,A,Instr.alloc,zeroValue,typeInfo,hi,hzero,newVar,newRow]
   | true=>
    rw[hp] at h;cases h;refine⟨.pointer<|some ⟨w.heap.size,0,none⟩,.cells z.cells e,cs.length,?_,Z,gz.JN ⟨Z,Z⟩<|rY (u U) _ _,fun U' b hb=>by simp only[Mk.of,VR];simp_all⟩;simp[execOp,A,Instr.alloc,zeroValue,typeInfo,hi,hzero,newVar,newRow]
 | box e x=>
  rw[A] at h I;simp only[fV] at h;cases hv:ev x with
  | none=>rw[hv] at h;cases h
  | some v=>
   rw[hv] at h;dsimp only[Option.bind_some] at h;cases hc:cE v with
   | none=>rw[hc] at h;cases h
   | some cs=>
    rw[hc] at h;cases h;have hvr:=I x (by simp[Op.operands]) v hv;refine⟨.pointer<|some ⟨w.heap.size,0,none⟩,.cells (f x).cells e,cs.length,?_,Z,rY (iG hc hvr) _ _,fun U' b hb=>by simp only[Mk.of,VR];simp_all⟩;simp[execOp,A,Instr.box,newVar,newRow]
 | buildSlice t len parts=>
  rw[A] at h I;simp only[fV] at h;cases hu:P.underlying t with
  | none=>rw[hu] at h;cases h
  | some d=>
   rw[hu] at h;cases d with
   | slice e=>
    dsimp only at h;cases hj:P.info? e with
    | none=>rw[hj] at h;cases h
    | some j=>
     cases E:(fx P e).bind cE with
     | none=>simp_all
     | some z=>
      rw[hj,E] at h;simp only[bB] at h;split at h
      ·rename_i hb;simp only[bA_,Nat.beq_eq,nE_,cC] at hb;obtain⟨⟨K,M⟩,N⟩:=hb;cases hf:ka (fun i=>some (i*j.size,j.size)) ev parts.toList (ew z len) with
       | none=>rw[hf] at h;cases h
       | some cs=>
        rw[hf] at h;cases h;obtain⟨i,zv,hi,hzero,u⟩:=ga E;rw[hj] at hi;cases hi;have C:zv.cells.size=j.size:=by rw[<-K,<-(u U).length,Array.length_toList]
        have F:∀p∈parts.toList,∀v,ev p.2=some v->VR U v (f p.2):=fun p hp v hv=>I p.2 (by simp only[Op.operands,List.mem_toArray,zn_];grind) v hv
        obtain⟨zs,h1,Q⟩:=pw (place':=fun i=>some (i*j.size,j.size)) (fun i x hx=>hx) parts.toList (ew z len) cs ((List.replicate len zv.cells.toList).flatten).toArray F
         (by simpa using jT (u U) len) hf
        rw[<-xQ zv.cells len oM,C] at h1;have aa:cs.length=zs.size:=by have:=Q.length;simpa using this.symm
        by_cases L:len*j.size=0
        ·refine⟨.slice (some ⟨w.heap.size,0,none⟩) len len,.cells zs e,cs.length,?_,Z,by simpa using rY Q w.heap.size e,fun U' b hb=>by simp only[Mk.of,VR];simp_all⟩;have R:(Array.map (fun x=>zv.cells[x%j.size]!)<|Array.range (len*j.size))= #[]:=by rw[L];simp
         rw[R] at h1;have T:∀g:Nat->Value,Array.map g (Array.range 0)= #[]:=fun g=>by simp
         simp[execOp,A,Instr.buildSlice,run_underlying hu,sizeOf,typeInfo,hj,L,T,h1,newRow]
        refine⟨.slice (some ⟨w.heap.size,0,none⟩) len len,.cells zs e,cs.length,?_,Z,by simpa using rY Q w.heap.size e,fun U' b hb=>by simp only[Mk.of,VR];simp_all⟩;have hrun:=run_buildSlice (P:=P) w t e len (parts.map fun(i,x)=>(i,f x)) zs j zv hu hj hzero oM L (by simp_all)
        grind [execOp,sB_,rA,sP_]
      cases h
   | _=>cases h
 | makeSlice t l c=>
  rw[A] at h I;simp only[fV] at h;cases hu:P.underlying t with
  | none=>rw[hu] at h;cases h
  | some d=>
   rw[hu] at h;cases hl:ev l with
   | none=>simp_all
   | some vl=>
    cases hc:ev c with
    | none=>simp_all
    | some vc=>
     rw[hl,hc] at h;split at h
     ·rename_i e kl ln kc cn he W X;cases he;cases W;cases X;cases hj:P.info? e with
      | none=>rw[hj] at h;cases h
      | some j=>
       cases E:(fx P e).bind cE with
       | none=>simp_all
       | some z=>
        rw[hj,E] at h;simp only[bB] at h;split at h
        ·rename_i hb;simp only[bA_,Nat.beq_eq,nE_,cC] at hb;obtain⟨⟨⟨⟨K,M⟩,N⟩,ab⟩,ao⟩:=hb;cases h;obtain⟨i,zv,hi,hzero,u⟩:=ga E;rw[hj] at hi;cases hi;have C:zv.cells.size=j.size:=by rw[<-ab,<-(u U).length,Array.length_toList]
         have ap:f l= .int kl (Int.ofNat ln):=by have:=I l (by simp[Op.operands]) _ hl;simpa only[VR] using this
         have aq:f c= .int kc (Int.ofNat cn):=by have:=I c (by simp[Op.operands]) _ hc;simpa only[VR] using this
         have ac:(j.bytes:Int)*(Int.ofNat cn)<=281474976710656:=by
          grind
         have hrun:=run_make (P:=P) w t e j zv hu hj hzero kl kc (Int.ofNat ln) (Int.ofNat cn) (Int.natCast_nonneg _) (Int.ofNat_le.2 K) ac (by grind)
         have G:madeCells zv.cells ((Int.ofNat cn).toNat*j.size)=((List.replicate cn zv.cells.toList).flatten).toArray:=by
          unfold madeCells;rw[show(Int.ofNat cn).toNat=cn from Z,<-C];exact xQ zv.cells cn oM
         rw[G] at hrun;have hts:=jT (u U) cn
         refine⟨.slice (some ⟨w.heap.size,0,none⟩) ln cn,.cells ((List.replicate cn zv.cells.toList).flatten).toArray e,(ew z cn).length,?_,Z,rY hts _ _,
          fun U' b hb=>by simp only[Mk.of,VR];simp_all⟩
         grind [execOp,sB_,rA,sP_]
        cases h
     cases h
 | makeMap t r=>
  rw[A] at h;cases r with
  | some r=>
   simp only[fV] at h;split at h
   ·rename_i mk mv k n hu hr;simp only[oJ_,Prod.mk.injEq] at h;obtain⟨rfl,rfl⟩:=h;have am:f r= .int k n:=by have:=I r (by rw[A];simp[Op.operands]) _ hr;simpa only[VR] using this
    refine⟨.map<|some w.heap.size,.map #[] 0,0,?_,Z,⟨#[],Z,Z⟩,fun U' b hb=>by simp only[Mk.of,VR];simp_all⟩;simp[execOp,A,Instr.makeMap,am,run_underlying hu,asInt,asIntOf]
   cases h
  | none=>
   simp only[fV,oJ_,Prod.mk.injEq] at h;obtain⟨rfl,rfl⟩:=h;refine⟨.map<|some w.heap.size,.map #[] 0,0,?_,Z,⟨#[],Z,Z⟩,fun U' b hb=>by simp only[Mk.of,VR];simp_all⟩;simp[execOp,A,Instr.makeMap]
 | _=>rw[A] at h;simp[fV] at h
end
variable {fs:Array Field} {ys:Array Value}
section
variable {P:Program} {U:Ren} {w:World}
theorem qt (a b:Bool):(bif a then b else(bif b then false else true))=(a == b):=by grind
theorem Nn (a b:Bool):(bif a then(bif b then false else true) else b)=(a !=b):=by grind
theorem cond_not (b:Bool):(bif b then false else true)= !b:=by cases b<;>rfl
theorem lF {d:Nat}:∀(fs:List Field) (xs ys:List Y) (cs ds:Array Value) (b:Bool),di U xs cs.toList->di U ys ds.toList->lQ fs=true->jl P fs xs ys=some b->
  (Op.eqFields (d+1) cs ds fs).run P w= .ok b w
 | [],xs,ys,cs,ds,b,_,_,_,h=>by
  simp only[jl,oJ_] at h;subst h;simp[Op.eqFields]
 | f::fs,xs,ys,cs,ds,b,hx,hy,hn,h=>by
  have L:(bif f.name == "_" then false else lQ fs)=true:=hn
  have u:(f.name == "_")=false:=by
   simp_all
  rw[u] at L;have hne:f.name≠ "_" :=by simpa using u
  have h':(match P.underlying f.type,nth xs f.offset,nth ys f.offset with
   | some .bool,some (.bool a),some (.bool b)=>bif (bif a then b else(bif b then false else true)) then jl P fs xs ys else some false
   | some (.int _),some (.int j a),some (.int k b)=>bif uj j k then(bif bD a b then jl P fs xs ys else some false) else none
   | some .string,some (.str a),some (.str b)=>bif wL a b then jl P fs xs ys else some false
   | _,_,_=>none)=some b:=h
  have ih:=lF (d:=d) fs xs ys cs ds
  have part {v:Y} {cells:List Y} {es:Array Value} (hc:di U cells es.toList) (Q:nth cells f.offset=some v) (F:Eg (match P.underlying f.type with | some d=>d | none=>.invalid)=false) (hu:P.underlying f.type≠none):
    ∃y,(part f.type es f.offset).run P w= .ok y w/\VR U v y:=by
   rw[fL] at Q;obtain⟨y,h1,h2⟩:=hc.get Q;cases E:P.underlying f.type with
   | none=>exact absurd E hu
   | some dd=>
    rw[E] at F;refine⟨y,?_,h2⟩;simp only[Go.part,sB_,fp E,F,rA,zi_,if_false]
    simp_all
  split at h'
  ·rename_i R T W a b' e1 e2 G;obtain⟨X,I,A⟩:=part hx e2 (by rw[e1];rfl) (by rw[e1];simp);obtain⟨y2,K,C⟩:=part hy G (by rw[e1];rfl) (by rw[e1];simp);simp only[VR] at A C;subst A;subst C;simp only[Op.eqFields,hne,ne_eq,not_false_eq_true,if_true,sB_,I,K,rA,run_equalIn_bool w d f.type _ _ e1];rw[qt] at h';cases hc:(a == b') with
   | true=>grind
   | false=>simp_all
  ·rename_i R T W kk j a k b' e1 e2 G;obtain⟨X,I,A⟩:=part hx e2 (by rw[e1];rfl) (by rw[e1];simp);obtain⟨y2,K,C⟩:=part hy G (by rw[e1];rfl) (by rw[e1];simp);simp only[VR] at A C;subst A;subst C;cases hk:uj j k with
   | false=>simp_all
   | true=>
    rw[hk] at h';have:=qv hk;subst this;simp only[Op.eqFields,hne,ne_eq,not_false_eq_true,if_true,sB_,I,K,rA,run_equalIn_int w d f.type _ _ _ _ e1];rw[dS] at h';cases hc:decide (a=b') with
    | true=>grind
    | false=>simp_all
  ·rename_i R T W a b' e1 e2 G;obtain⟨X,I,A⟩:=part hx e2 (by rw[e1];rfl) (by rw[e1];simp);obtain⟨y2,K,C⟩:=part hy G (by rw[e1];rfl) (by rw[e1];simp);simp only[VR] at A C;obtain⟨s1,rfl,M⟩:=A;obtain⟨s2,rfl,N⟩:=C;simp only[Op.eqFields,hne,ne_eq,not_false_eq_true,if_true,sB_,I,K,rA,run_equalIn_string w d f.type _ _ e1];rw[oQ M N] at h';cases hc:(s1.toList == s2.toList) with
   | true=>grind
   | false=>simp_all
  cases h'
theorem nX {t:TypeId} (h:structOf P t=some fs):P.underlying t=some (.struct fs):=by
 grind [structOf,oT]
theorem wN {t:TypeId} (h:P.underlying t=some (.struct fs)):P.fieldsOf t=fs:=by simp[Program.fieldsOf,h]
theorem zo {e:TypeId} (h:tv P e=true):∃k i,P.underlying e=some (.int k)/\P.info? e=some i/\i.size=1:=by
 grind [tv,nB]
theorem oK {d:Nat} {e:TypeId} {k':IntKind} (he:P.underlying e=some (.int k')):∀(l1 l2:List Y) (s:Nat) (u A:Array Value) (b:Bool),
  (∀(i:Nat) (v:Y),l1[i]? =some v->∃y,u[s+i]? =some y/\VR U v y)->(∀(i:Nat) (v:Y),l2[i]? =some v->∃y,A[s+i]? =some y/\VR U v y)->yJ l1 l2=some b->
  (Op.eqItems (d+1) e 1 u A<|List.range' s l1.length).run P w= .ok b w
 | [],l2,s,u,A,b,_,_,h=>by
  cases l2 with
  | nil=>cases h;simp[Op.eqItems]
  | cons y r=>cases h
 | x::l1,l2,s,u,A,b,h1,C,h=>by
  cases l2 with
  | nil=>cases x<;>cases h
  | cons y r=>
   cases x<;>try (cases h;done)
   rename_i j a;cases y<;>try (cases h;done)
   rename_i k c;have h':(bif uj j k then(bif bD a c then yJ l1 r else some false) else none)=some b:=h;cases hk:uj j k with
   | false=>simp_all
   | true=>
   rw[hk] at h';have:=qv hk;subst this;obtain⟨y1,q1,E⟩:=h1 0 _ Z;obtain⟨y2,q2,F⟩:=C 0 _ Z;simp only[VR] at E F;subst E;subst F;simp only[Nat.add_zero] at q1 q2
   have p:∀(cs:Array Value) (v:Value),cs[s]? =some v->(part e cs (s*1)).run P w= .ok v w:=fun cs v hv=>by
    rw[Nat.mul_one];simp only[part,sB_,fp he,Eg,rA,zi_,if_false,hv,sP_]
   simp only[zc_,List.range'_succ,Op.eqItems,sB_,p u _ q1,p A _ q2,rA,run_equalIn_int w d e _ _ _ _ he];rw[dS] at h';have ih:=oK (d:=d) he l1 r (s+1) u A;cases hc:decide (a=c) with
   | true=>
    rw[hc] at h';have:=of_decide_eq_true hc;subst this
    simpa using ih b (fun i v hv=>by have:=h1 (i+1) v (by simpa using hv);grind)
     (fun i v hv=>by have:=C (i+1) v (by simpa using hv);grind) (by simpa using h')
   | false=>
    simp_all
theorem gX {t:TypeId} {off n:Nat} (A:dE P t=some (some n)) (hc:di U cs ys.toList):∃c,(part t ys off).run P w= .ok (.agg c) w/\di U (takeN (dZ cs off) n) c.toList:=by
 obtain⟨d,i,hu,hi,u,C⟩:=sT A;refine⟨ys.extract off (off+n),?_,?_⟩
 ·simp only[part,sB_,fp hu,C,rA,if_true,cN hi,u,sP_]
 rw[dT,eB,Array.toList_extract];have:=(hc.drop off).take n
 simp_all
theorem mR {d:Nat}:∀(fs:List Field) (xs ys:List Y) (cs ds:Array Value) (b:Bool),di U xs cs.toList->di U ys ds.toList->lQ fs=true->eqFields P fs xs ys=some b->
  (Op.eqFields (d+1+1) cs ds fs).run P w= .ok b w
 | [],xs,ys,cs,ds,b,_,_,_,h=>by
  simp only[eqFields,oJ_] at h;subst h;simp[Op.eqFields]
 | f::fs,xs,ys,cs,ds,b,hx,hy,hn,h=>by
  have aa:(bif f.name == "_" then false else lQ fs)=true:=hn
  have E:(f.name == "_")=false:=by
   simp_all
  rw[E] at aa;have hne:f.name≠ "_" :=by simpa using E
  have h':(match P.underlying f.type,nth xs f.offset,nth ys f.offset with
   | some .bool,some (.bool a),some (.bool b)=>bif (bif a then b else(bif b then false else true)) then eqFields P fs xs ys else some false
   | some (.int _),some (.int j a),some (.int k b)=>bif uj j k then(bif bD a b then eqFields P fs xs ys else some false) else none
   | some .string,some (.str a),some (.str b)=>bif wL a b then eqFields P fs xs ys else some false
   | some (.struct gs),_,_=>bif P.stoodInHeld f.type || !lQ gs.toList then none else match dE P f.type with
    | some (some n)=>match jl P gs.toList (takeN (dZ xs f.offset) n) (takeN (dZ ys f.offset) n) with
     | some true=>eqFields P fs xs ys
     | some false=>some false
     | none=>none
    | _=>none
   | some (.array m e),_,_=>bif tv P e then(match dE P f.type with
    | some (some n)=>bif Nat.beq n m && (Nat.beq (dt<|takeN (dZ xs f.offset) n) m && Nat.beq (dt<|takeN (dZ ys f.offset) n) m) then(match yJ (takeN (dZ xs f.offset) n) (takeN (dZ ys f.offset) n) with
     | some true=>eqFields P fs xs ys
     | some false=>some false
     | none=>none) else none
    | _=>none) else none
   | _,_,_=>none)=some b:=h
  have ih:=mR (d:=d) fs xs ys cs ds
  have part {v:Y} {cells:List Y} {es:Array Value} (hc:di U cells es.toList) (hg:nth cells f.offset=some v) (u:Eg (match P.underlying f.type with | some d=>d | none=>.invalid)=false) (hu:P.underlying f.type≠none):
    ∃y,(part f.type es f.offset).run P w= .ok y w/\VR U v y:=by
   rw[fL] at hg;obtain⟨y,h1,h2⟩:=hc.get hg;cases L:P.underlying f.type with
   | none=>exact absurd L hu
   | some dd=>
    rw[L] at u;refine⟨y,?_,h2⟩;simp only[Go.part,sB_,fp L,u,rA,zi_,if_false]
    simp_all
  split at h'
  ·rename_i W X u3 a b' e1 e2 Q;obtain⟨y1,G,A⟩:=part hx e2 (by rw[e1];rfl) (by rw[e1];simp);obtain⟨y2,I,C⟩:=part hy Q (by rw[e1];rfl) (by rw[e1];simp);simp only[VR] at A C;subst A;subst C;simp only[Op.eqFields,hne,ne_eq,not_false_eq_true,if_true,sB_,G,I,rA,run_equalIn_bool w (d+1) f.type _ _ e1];rw[qt] at h';cases hc:(a == b') with
   | true=>grind
   | false=>simp_all
  ·rename_i W X u3 kk j a k b' e1 e2 Q;obtain⟨y1,G,A⟩:=part hx e2 (by rw[e1];rfl) (by rw[e1];simp);obtain⟨y2,I,C⟩:=part hy Q (by rw[e1];rfl) (by rw[e1];simp);simp only[VR] at A C;subst A;subst C;cases hk:uj j k with
   | false=>simp_all
   | true=>
    rw[hk] at h';have:=qv hk;subst this;simp only[Op.eqFields,hne,ne_eq,not_false_eq_true,if_true,sB_,G,I,rA,run_equalIn_int w (d+1) f.type _ _ _ _ e1];rw[dS] at h';cases hc:decide (a=b') with
    | true=>grind
    | false=>simp_all
  ·rename_i W X u3 a b' e1 e2 Q;obtain⟨y1,G,A⟩:=part hx e2 (by rw[e1];rfl) (by rw[e1];simp);obtain⟨y2,I,C⟩:=part hy Q (by rw[e1];rfl) (by rw[e1];simp);simp only[VR] at A C;obtain⟨s1,rfl,ab⟩:=A;obtain⟨s2,rfl,ac⟩:=C;simp only[Op.eqFields,hne,ne_eq,not_false_eq_true,if_true,sB_,G,I,rA,run_equalIn_string w (d+1) f.type _ _ e1];rw[oQ ab ac] at h';cases hc:(s1.toList == s2.toList) with
   | true=>grind
   | false=>simp_all
  ·rename_i W X u3 gs e1;cases O:P.stoodInHeld f.type with
   | true=>simp_all
   | false=>
   cases R:lQ gs.toList with
   | false=>simp_all
   | true=>
   rw[O,R] at h';simp only[Bool.not_true,Bool.or_false,cond_false] at h';cases u:dE P f.type with
   | none=>simp_all
   | some q=>
   cases q with
   | none=>simp_all
   | some n=>
   rw[u] at h';dsimp only at h';cases F:jl P gs.toList (takeN (dZ xs f.offset) n) (takeN (dZ ys f.offset) n) with
   | none=>simp_all
   | some bb=>
    rw[F] at h';obtain⟨M,G,A⟩:=gX (P:=P) (w:=w) u hx (off:=f.offset);obtain⟨N,I,C⟩:=gX (P:=P) (w:=w) u hy (off:=f.offset);have hq:=lF (P:=P) (w:=w) (d:=d) gs.toList _ _ M N bb A C R F
    have hE:(Op.equalIn (d+1+1) f.type (.agg M) (.agg N)).run P w= .ok bb w:=by
     grind [run_equalIn_struct,wN]
    simp only[Op.eqFields,hne,ne_eq,not_false_eq_true,if_true,sB_,G,I,rA,hE];cases bb with
    | true=>simp_all
    | false=>simp_all
  ·rename_i W X u3 m e e1;cases T:tv P e with
   | false=>simp_all
   | true=>
   rw[T] at h';simp only[cond_true] at h';obtain⟨k,inf,he,K,am⟩:=zo T;cases u:dE P f.type with
   | none=>simp_all
   | some q=>
   cases q with
   | none=>simp_all
   | some n=>
   rw[u] at h';dsimp only at h';rw[bB] at h';split at h'
   case isFalse=>cases h'
   rename_i hc;simp only[bA_,Nat.beq_eq,cC] at hc;obtain⟨ap,ao,aq⟩:=hc;cases F:yJ (takeN (dZ xs f.offset) n) (takeN (dZ ys f.offset) n) with
   | none=>simp_all
   | some bb=>
    rw[F] at h';obtain⟨M,G,A⟩:=gX (P:=P) (w:=w) u hx (off:=f.offset);obtain⟨N,I,C⟩:=gX (P:=P) (w:=w) u hy (off:=f.offset)
    have hq:=oK (P:=P) (w:=w) (U:=U) (d:=d) he _ _ 0 M N bb (fun i v hv=>by obtain⟨y,a1,a2⟩:=A.get hv;simp_all)
     (fun i v hv=>by obtain⟨y,a1,a2⟩:=C.get hv;simp_all) F
    rw[ao] at hq
    have hE:(Op.equalIn (d+1+1) f.type (.agg M) (.agg N)).run P w= .ok bb w:=by
     rw[run_equalIn_array w (d+1) M N e1 K,s9 K,am,List.range_eq_range'];exact hq
    simp only[Op.eqFields,hne,ne_eq,not_false_eq_true,if_true,sB_,G,I,rA,hE];cases bb with
    | true=>simp_all
    | false=>simp_all
  cases h'
theorem cZ (op:BinOp) (t:TypeId) (x y:Operand) (a b:Value) (h1:¬(a= .nilIface/\b= .nilIface)) (h2:¬(∃c d,a= .agg c/\b= .agg d)):(eqGuard op t x y a b).run P w= .ok () w:=by
 unfold eqGuard
 simp_all
end
section
variable {P:Program} {U:Ren} {w:World}
theorem VR.jt {b:Pos} {off len:Nat} {cap:oY} {x:Value} (h:VR U (.slice b off len cap) x):∃a c,x= .slice (some a) len c:=by
  cases cap with
  | upto sz=>
    simp only[VR] at h
    grind
  | known c=>simp only[VR] at h;grind
  | least a sz=>simp only[VR] at h;grind
theorem qw {t:TypeId} {x y:Y} {b:Bool} {a c:Value} (h:G7 P t x y=some b) (hx:VR U x a) (hy:VR U y c) (op:BinOp) (xo yo:Operand):
    (eqGuard op t xo yo a c).run P w= .ok () w/\(Op.equal t a c).run P w= .ok b w:=by
  unfold G7 at h;have aa:∀r:Result Bool,((Op.equalIn (9999+1) t a c).run P w=r)->(Op.equal t a c).run P w=r:=fun r h=>h
  have u:∀r:Result Bool,(∀d,(Op.equalIn (d+1) t a c).run P w=r)->(Op.equal t a c).run P w=r:=fun r h=>h 9999
  split at h
  ·
    rename_i xs ys;simp only[VR] at hx hy;obtain⟨cs,rfl,ab⟩:=hx;obtain⟨ds,rfl,ac⟩:=hy
    grind [structOf,nX,run_eqGuard_agg,run_equalIn_struct,wN,mR]
  all_goals (try (cases h;done))
  all_goals (split at h)
  all_goals (try (cases h;done))
  all_goals (try (rename_i hu;cases h))
  all_goals first
    | (obtain⟨a',c',rfl⟩:=VR.jt hx
       simp only[VR] at hy;subst hy;refine⟨cZ op t xo yo _ _ (by simp) (by simp),u _ (fun d=>?_)⟩;simp[Op.equalIn,run_underlying hu]
       done)
    | (obtain⟨a',c',rfl⟩:=VR.jt hy
       simp only[VR] at hx;subst hx;refine⟨cZ op t xo yo _ _ (by simp) (by simp),u _ (fun d=>?_)⟩;simp[Op.equalIn,run_underlying hu]
       done)
    | (simp only[VR] at hx hy
       subst hx;subst hy;refine⟨cZ op t xo yo _ _ (by simp) (by simp),u _ (fun d=>?_)⟩;simp[Op.equalIn,run_underlying hu]
       done)
    | (simp only[VR] at hx hy
       obtain⟨l,_,rfl⟩:=hx;subst hy;refine⟨cZ op t xo yo _ _ (by simp) (by simp),u _ (fun d=>?_)⟩;simp[Op.equalIn,run_underlying hu]
       done)
    | (simp only[VR] at hx hy
       obtain⟨l,_,rfl⟩:=hy;subst hx;refine⟨cZ op t xo yo _ _ (by simp) (by simp),u _ (fun d=>?_)⟩;simp[Op.equalIn,run_underlying hu]
       done)
    | (simp only[VR] at hx hy
       obtain⟨l,rfl,_⟩:=hx;subst hy;refine⟨cZ op t xo yo _ _ (by simp) (by simp),u _ (fun d=>?_)⟩;simp[Op.equalIn,run_underlying hu]
       done)
    | (simp only[VR] at hx hy
       obtain⟨l,rfl,_⟩:=hy;subst hx;refine⟨cZ op t xo yo _ _ (by simp) (by simp),u _ (fun d=>?_)⟩;simp[Op.equalIn,run_underlying hu]
       done)
    | (simp only[VR] at hx hy
       obtain⟨l,l',rfl,_⟩:=hx;subst hy;refine⟨cZ op t xo yo _ _ (by simp) (by simp),u _ (fun d=>?_)⟩;simp[Op.equalIn,run_underlying hu]
       done)
    | (simp only[VR] at hx hy
       obtain⟨l,l',rfl,_⟩:=hy;subst hx;refine⟨cZ op t xo yo _ _ (by simp) (by simp),u _ (fun d=>?_)⟩;simp[Op.equalIn,run_underlying hu]
       done)
    | (rename_i hu
       rw[bB] at h;split at h
       · rename_i hc
         cases h;rw[bA_,bA_] at hc;obtain⟨hb,ho,hi⟩:=hc;have hb:=nB hb;have ho:=nB ho;subst hb;subst ho;obtain⟨j,hj⟩:=ze_.1 hi;simp only[VR] at hx hy;obtain⟨l,hl,rfl⟩:=hx;obtain⟨l',A,rfl⟩:=hy;rw[hl] at A;cases A;refine⟨cZ op t xo yo _ _ (by simp) (by simp),u _ (fun d=>?_)⟩;simp[Op.equalIn,run_underlying hu,sizeOf,typeInfo,hj,run_sameAddr_same]
       · cases h)
theorem nR {t:TypeId} {a c:Value} {b:Bool} (h:(Op.equal t a c).run P w= .ok b w)
    (hn:∀k m k' m',¬(a= .int k m/\c= .int k' m')) (hf:∀k m k' m',¬(a= .float k m/\c= .float k' m')) (hc:∀k m n k' m' n',¬(a= .complex k m n/\c= .complex k' m' n')) (u:∀s s',¬(a= .string s/\c= .string s')):
    (binOp .eql t a c).run P w= .ok (.bool b) w/\(binOp .neq t a c).run P w= .ok (.bool (!b)) w:=by
  constructor
  · unfold binOp
    split<;>first
      | (exact absurd ⟨rfl,rfl⟩<|hn _ _ _ _)
      | (exact absurd ⟨rfl,rfl⟩<|hf _ _ _ _)
      | (exact absurd ⟨rfl,rfl⟩<|hc _ _ _ _ _ _)
      | (exact absurd ⟨rfl,rfl⟩<|u _ _)
      | (simp only[sB_,h,rA,sP_];done)
      | (rename_i he;cases he)
      | (rename_i he _;cases he)
      | (rename_i he _ _;cases he)
      | (simp_all;done)
  · unfold binOp
    split<;>first
      | (exact absurd ⟨rfl,rfl⟩<|hn _ _ _ _)
      | (exact absurd ⟨rfl,rfl⟩<|hf _ _ _ _)
      | (exact absurd ⟨rfl,rfl⟩<|hc _ _ _ _ _ _)
      | (exact absurd ⟨rfl,rfl⟩<|u _ _)
      | (simp only[sB_,h,rA,sP_];done)
      | (rename_i he;cases he)
      | (rename_i he _;cases he)
      | (rename_i he _ _;cases he)
      | (simp_all;done)
end
variable {op:BinOp}
section
variable {P:Program} {U:Ren} {w:World}
theorem QJ {t:TypeId} {k k':IntKind} {a b:Int} {v:Y} (h:tT P op t (.int k a) (.int k' b)=some v):
  ∃x,(binOp op t (.int k a) (.int k' b)).run P w= .ok x w/\VR U v x:=by
 unfold tT at h;have vint:∀(j:IntKind) (n:Int),VR U (.int j n) (.int j n):=fun j n=>by simp only[VR]
 have vbool:∀(c:Bool),VR U (.bool c) (.bool c):=fun c=>by simp only[VR]
 by_cases A:op= .shl
 ·subst A;simp only[bB,eQ,Kb] at h;split at h
  ·cases h
  rename_i hb;cases h;refine⟨.int k<|k.wrap (a*2 ^ min b.toNat k.bits),?_,vint _ _⟩;have u:¬b<0:=by simpa using hb
  simp[binOp,Op.shift,u]
 by_cases C:op= .shr
 ·subst C;simp only[bB,eQ] at h;split at h
  ·cases h
  rename_i hb;cases h;refine⟨.int k<|a.fdiv (2 ^ min b.toNat k.bits),?_,vint _ _⟩;have u:¬b<0:=by simpa using hb
  simp[binOp,Op.shift,u]
 cases hk:uj k k' with
 | false=>simp_all
 | true=>
  have:=qv hk;subst this;cases op<;>first | exact absurd rfl A | exact absurd rfl C | skip
  all_goals simp only[hk,cond_true,bB,dS,eQ,Kb,if_true] at h
  case add=>cases h;exact⟨.int k<|k.wrap (a+b),by simp[binOp,Op.intArith],vint _ _⟩
  case sub=>cases h;exact⟨.int k<|k.wrap (a-b),by simp[binOp,Op.intArith],vint _ _⟩
  case mul=>cases h;exact⟨.int k<|k.wrap (a*b),by simp[binOp,Op.intArith],vint _ _⟩
  case quo=>
   by_cases hb:b=0
   ·simp[hb] at h
   simp only[hb,decide_false,if_true,if_false,zi_,eq_self,oJ_] at h;subst h;exact⟨.int k<|k.wrap<|a.tdiv b,by simp[binOp,Op.intDiv,hb],vint _ _⟩
  case rem=>
   by_cases hb:b=0
   ·simp[hb] at h
   simp only[hb,decide_false,if_true,if_false,zi_,eq_self,oJ_] at h;subst h;exact⟨.int k<|a.tmod b,by simp[binOp,Op.intDiv,hb],vint _ _⟩
  case and=>cases h;exact⟨_,by simp only[binOp,ne_eq,not_true_eq_false,if_false];rfl,vint _ _⟩
  case or=>cases h;exact⟨_,by simp only[binOp,ne_eq,not_true_eq_false,if_false];rfl,vint _ _⟩
  case xor=>cases h;exact⟨_,by simp only[binOp,ne_eq,not_true_eq_false,if_false];rfl,vint _ _⟩
  case andNot=>cases h;exact⟨_,by simp only[binOp,ne_eq,not_true_eq_false,if_false];rfl,vint _ _⟩
  case eql=>cases h;exact⟨.bool (a == b),by simp[binOp,Op.intCmp],by grind⟩
  case neq=>
   cases h;refine⟨.bool (a !=b),by simp[binOp,Op.intCmp],?_⟩
   grind
  case lss=>cases h;exact⟨.bool<|decide (a<b),by simp[binOp,Op.intCmp],vbool _⟩
  case leq=>
   cases h;refine⟨.bool<|decide (a<=b),by simp[binOp,Op.intCmp],?_⟩
   grind
  case gtr=>cases h;exact⟨.bool<|decide (b<a),by simp[binOp,Op.intCmp],vbool _⟩
  case geq=>
   cases h;refine⟨.bool<|decide (b<=a),by simp[binOp,Op.intCmp],?_⟩
   grind
theorem QK {t:TypeId} {a b:List Nat} {x y:ByteArray} {v:Y} (hx:gQ a x) (hy:gQ b y) (h:tT P op t (.str a) (.str b)=some v):
  ∃z,(binOp op t (.string x) (.string y)).run P w= .ok z w/\VR U v z:=by
 unfold tT at h;have lx:=jx hx;have ly:=jx hy;have e1:=oQ hx hy;have e2:=Ct hx hy;have e3:=Ct hy hx
 have e4:∀s u:List UInt8,Op.bytesLess u s= !(Op.bytesLess s u || s == u):=by
  intro s;induction s with
  | nil=>intro u;cases u<;>simp[Op.bytesLess]
  | cons c s ih=>
   intro u;cases u with
   | nil=>simp[Op.bytesLess]
   | cons d u=>
    grind [Op.bytesLess]
 cases op<;>simp only[bB] at h<;>(try (cases h;done))
 case add=>
  split at h
  ·rename_i hb;cases h;rw[nE_,lx,ly] at hb
   refine⟨.string (x++y),?_,by
    simp only[VR];refine⟨_,Z,?_⟩;unfold gQ at hx hy⊢;rw[dU,<-hx,<-hy];simp⟩
   have:¬(((x.size+y.size:Nat):Int)>IntKind.i64.max):=by
    have e:IntKind.i64.max=9223372036854775807:=by decide
    rw[e];omega
   simp only[binOp,Op.stringOp];rw[if_neg this];rfl
  cases h
 case eql=>cases h;exact⟨.bool (x.toList == y.toList),Z,by simp only[VR];rw[e1]⟩
 case neq=>cases h;exact⟨.bool (!(x.toList == y.toList)),Z,by grind [VR]⟩
 case lss=>cases h;exact⟨.bool<|Op.bytesLess x.toList y.toList,Z,by simp only[VR];rw[e2]⟩
 case leq=>
  cases h;refine⟨.bool (Op.bytesLess x.toList y.toList || x.toList == y.toList),Z,?_⟩
  grind [VR]
 case gtr=>
  cases h;refine⟨.bool (!(Op.bytesLess x.toList y.toList || x.toList == y.toList)),Z,?_⟩;simp only[VR];grind
 case geq=>
  cases h;refine⟨.bool (!(Op.bytesLess x.toList y.toList)),Z,?_⟩
  grind [VR]
theorem Km {t:TypeId} {x y v:Y} {a c:Value} (hx:VR U x a) (hy:VR U y c) (h:tT P op t x y=some v) (xo yo:Operand):
  ∃z,(eqGuard op t xo yo a c).run P w= .ok () w/\(binOp op t a c).run P w= .ok z w/\VR U v z:=by
 have other:(∀k n,x≠ .int k n)->(∀s,x≠ .str s)->(∀b,x≠ .bool b)->x≠ .any->(∀a,x≠ .pf a)->(∀a,x≠ .tok a)->
   ∃z,(eqGuard op t xo yo a c).run P w= .ok () w/\(binOp op t a c).run P w= .ok z w/\VR U v z:=by
  intro h1 u h3 I h5 K
  have h':nm P op t x y=some v:=by
   rw[<-h];unfold tT;split
   ·exact absurd Z<|h1 _ _
   ·exact absurd Z<|u _
   ·exact absurd Z<|h3 _
   rfl
  have hne:(∀k m k' m',¬(a= .int k m/\c= .int k' m'))/\(∀k m k' m',¬(a= .float k m/\c= .float k' m'))/\(∀k m n k' m' n',¬(a= .complex k m n/\c= .complex k' m' n'))/\(∀s s',¬(a= .string s/\c= .string s')):=by
   cases x with
   | int k n=>exact absurd Z (h1 k n)
   | str s=>exact absurd Z (u s)
   | bool b=>exact absurd Z (h3 b)
   | any=>exact absurd Z I
   | pf a=>exact absurd Z (h5 a)
   | tok a=>exact absurd Z (K a)
   | slice b off len cap=>obtain⟨_,_,rfl⟩:=VR.jt hx;simp
   | _=>simp only[VR] at hx;first | (subst hx;simp;done) | (obtain⟨_,_,rfl⟩:=hx;simp;done) | (obtain⟨_,rfl,_⟩:=hx;simp;done) | (obtain⟨_,_,rfl,_⟩:=hx;simp;done)
  obtain⟨C,E,F,G⟩:=hne;cases op<;>(try (cases h';done))
  case eql=>
   dsimp only[nm] at h';cases hq:G7 P t x y with
   | none=>rw[hq] at h';cases h'
   | some b=>
    rw[hq] at h';cases h';obtain⟨g1,A⟩:=qw (P:=P) (w:=w) hq hx hy .eql xo yo;exact⟨_,g1,(nR A C E F G).1,by simp only[VR]⟩
  case neq=>
   dsimp only[nm] at h';cases hq:G7 P t x y with
   | none=>rw[hq] at h';cases h'
   | some b=>
    rw[hq] at h';cases h';obtain⟨g1,A⟩:=qw (P:=P) (w:=w) hq hx hy .neq xo yo;exact⟨_,g1,(nR A C E F G).2,by simp only[VR];rw[cond_not]⟩
 cases x with
 | int k n=>
  cases y with
  | int k' n'=>
   simp only[VR] at hx hy;subst hx;subst hy;obtain⟨z,h1,u⟩:=QJ (U:=U) (w:=w) h;exact⟨z,cZ op t xo yo _ _ (by simp) (by simp),h1,u⟩
  | _=>unfold tT at h;cases op<;>first | (simp[nm,G7] at h;done) | (cases h;done)
 | str s=>
  cases y with
  | str s'=>
   simp only[VR] at hx hy;obtain⟨x,rfl,hx⟩:=hx;obtain⟨y,rfl,hy⟩:=hy;obtain⟨z,h1,u⟩:=QK (U:=U) (w:=w) hx hy h;exact⟨z,cZ op t xo yo _ _ (by simp) (by simp),h1,u⟩
  | _=>unfold tT at h;cases op<;>first | (simp[nm,G7] at h;done) | (cases h;done)
 | bool b=>
  cases y with
  | bool b'=>
   simp only[VR] at hx hy;subst hx;subst hy;unfold tT at h;refine(fun(hh:∃z,(binOp op t (.bool b) (.bool b')).run P w= .ok z w/\VR U v z)=>let ⟨z,h1,u⟩:=hh;⟨z,cZ op t xo yo _ _ (by simp) (by simp),h1,u⟩) ?_;dsimp only at h;split at h
   ·rename_i hu;cases h;exact⟨_,run_eql_bool w t b b' hu,by simp only[VR];rw[qt]⟩
   ·rename_i hu;cases h;refine⟨_,run_neq_bool w t b b' hu,?_⟩;simp only[VR];rw[Nn];cases b<;>cases b'<;>rfl
   cases h
  | _=>unfold tT at h;cases op<;>first | (simp[nm,G7] at h;done) | (cases h;done)
 | any=>unfold tT at h;cases op<;>first | (simp[nm,G7] at h;done) | (cases h;done)
 | pf a=>unfold tT at h;cases op<;>first | (simp[nm,G7] at h;done) | (cases h;done)
 | tok a=>unfold tT at h;cases op<;>first | (simp[nm,G7] at h;done) | (cases h;done)
 | _=>exact other (by simp) (by simp) (by simp) (by simp) (by simp) (by simp)
theorem GJ {t:TypeId} {x y v:Y} {a c:Value} (hx:VR U x a) (hy:VR U y c) (h:Nf P op t x y=some v) (xo yo:Operand):
  ∃z,(eqGuard op t xo yo a c).run P w= .ok () w/\(binOp op t a c).run P w= .ok z w/\VR U v z:=by
 unfold Nf at h;split at h
 ·split at h
  ·rename_i u1 u2 n;simp only[bB] at h;split at h
   ·rename_i m hle;cases h;rw[nE_] at hle;simp only[VR] at hx hy;obtain⟨k,rfl,hk⟩:=hy;subst hx;have u:¬((k:Int)<Int.ofNat n):=by grind
    exact⟨.bool<|decide ((k:Int)<Int.ofNat n),cZ .gtr t xo yo _ _ (by simp) (by simp),by simp[binOp,Op.intCmp],by simp only[VR,u,decide_false]⟩
   cases h
  cases h
 exact Km hx hy h xo yo
theorem GL {t:TypeId} {x y v:Y} {a c:Value} (hx:VR U x a) (hy:VR U y c) (xo yo:Operand) (h:pV P (BS xo || BS yo) op t x y=some v):
  ∃z,(eqGuard op t xo yo a c).run P w= .ok () w/\(binOp op t a c).run P w= .ok z w/\VR U v z:=by
 by_cases hn:x= .nilIface/\y= .nilIface
 ·obtain⟨rfl,rfl⟩:=hn;simp only[VR] at hx hy;subst hx;subst hy;have h:Oq P op t (BS xo || BS yo)=some v:=h;unfold Oq at h;rw[bB] at h;split at h
  ·rename_i hk
   have hg:(eqGuard op t xo yo .nilIface .nilIface).run P w= .ok () w:=by
    unfold eqGuard;cases xo<;>cases yo<;>first | exact absurd hk Bool.false_ne_true | (cases op<;>simp)
   split at h
   ·rename_i ms hu
    have heq:(Op.equal t .nilIface .nilIface).run P w= .ok true w:=by
     have:∀d,(Op.equalIn (d+1) t .nilIface .nilIface).run P w= .ok true w:=fun d=>by simp[Op.equalIn,run_underlying hu]
     exact this 9999
    have hb:=nR heq (fun k m k' m' h=>by cases h.1) (fun k m k' m' h=>by cases h.1) (fun k m n k' m' n' h=>by cases h.1) (fun s s' h=>by cases h.1)
    grind [VR]
   cases h
  cases h
 have h':Nf P op t x y=some v:=by
  cases x<;>first | exact h | (cases y<;>first | exact h | simp_all)
 exact GJ hx hy h' xo yo
end
variable {cap:Nat} {x:Operand}
section
variable {P:Program} {U:Ren} {w:World}
theorem ji {ev:Operand->Option Y} {f:Operand->Value} {y i:Nat} (h:fu ev x y=some i) (hx:∀v,ev x=some v->VR U v (f x)) (code:BoundsCode):
  (Instr.sliceBound (f x) y code).run P w= .ok i w/\i<=y:=by
 unfold fu at h;split at h
 ·rename_i k j hv;simp only[bB] at h;split at h
  ·rename_i hb;cases h;rw[nE_] at hb;have hf:=hx _ hv;simp only[VR] at hf;rw[hf];refine⟨?_,hb⟩;have h2:(0:Int)<=Int.ofNat i/\Int.ofNat i<=(y:Int):=⟨Int.natCast_nonneg _,Int.ofNat_le.2 hb⟩;simp only[Instr.sliceBound,asIntOf,sB_,sP_,rA]
   simp_all
  cases h
 cases h
theorem iF {ev:Operand->Option Y} {f:Operand->Value} {len l h:Nat} {lo hi:Option Operand} (hb:dQ ev len cap lo hi=some (l,h))
  (u:∀x,lo=some x->∀v,ev x=some v->VR U v (f x)) (C:∀x,hi=some x->∀v,ev x=some v->VR U v (f x)) (isSlice:Bool):
  (Instr.sliceBounds isSlice len cap (lo.map f) (hi.map f) none).run P w= .ok (l,h,cap) w/\l<=h/\(len<=cap->h<=cap):=by
 unfold dQ at hb;cases hi with
 | none=>
  dsimp only at hb;cases lo with
  | none=>
   dsimp only at hb;cases hb;refine⟨?_,Nat.zero_le _,id⟩;simp[Instr.sliceBounds]
  | some x=>
   dsimp only at hb;cases hx:fu ev x len with
   | none=>simp_all
   | some l'=>
    rw[hx] at hb;cases hb;obtain⟨r,hle⟩:=ji (P:=P) (w:=w) hx (u x Z) .sliceB;refine⟨?_,hle,id⟩;simp[Instr.sliceBounds,r]
 | some y=>
  dsimp only at hb;cases hy:fu ev y cap with
  | none=>simp_all
  | some h'=>
   rw[hy] at hb;dsimp only at hb;obtain⟨r,hle⟩:=ji (P:=P) (w:=w) hy (C y Z) (if isSlice then .sliceAcap else .sliceAlen);cases lo with
   | none=>
    dsimp only at hb;cases hb;refine⟨?_,Nat.zero_le _,fun _=>hle⟩;simp[Instr.sliceBounds,r]
   | some x=>
    dsimp only at hb;cases hx:fu ev x h' with
    | none=>simp_all
    | some l'=>
     rw[hx] at hb;cases hb;obtain⟨E,A⟩:=ji (P:=P) (w:=w) hx (u x Z) .sliceB;refine⟨?_,A,fun _=>hle⟩;simp[Instr.sliceBounds,r,E]
theorem nE {ev:Operand->Option Y} {f:Operand->Value} {len l h m:Nat} {lo:Option Operand} {hi mx:Operand} (hm:fu ev mx cap=some m) (hb:dQ ev m m lo (some hi)=some (l,h))
  (C:∀x,lo=some x->∀v,ev x=some v->VR U v (f x)) (E:∀v,ev hi=some v->VR U v (f hi)) (F:∀v,ev mx=some v->VR U v (f mx)) (isSlice:Bool):
  (Instr.sliceBounds isSlice len cap (lo.map f) (some<|f hi)<|some<|f mx).run P w= .ok (l,h,m) w/\l<=h/\h<=m/\m<=cap:=by
 obtain⟨r0,u⟩:=ji (P:=P) (w:=w) hm F (if isSlice then .slice3Acap else .slice3Alen);unfold dQ at hb;dsimp only at hb;cases hy:fu ev hi m with
 | none=>simp_all
 | some h'=>
  rw[hy] at hb;dsimp only at hb;obtain⟨r,hle⟩:=ji (P:=P) (w:=w) hy E .slice3B;cases lo with
  | none=>
   dsimp only at hb;cases hb;refine⟨?_,Nat.zero_le _,hle,u⟩;simp[Instr.sliceBounds,r,r0]
  | some x=>
   dsimp only at hb;cases hx:fu ev x h' with
   | none=>simp_all
   | some l'=>
    rw[hx] at hb;cases hb;obtain⟨G,A⟩:=ji (P:=P) (w:=w) hx (C x Z) .slice3C;refine⟨?_,A,hle,u⟩;simp[Instr.sliceBounds,r,G,r0]
theorem BB {e:TypeId} {b:Pos} {off lo hi m:Nat} {v:Y} {l:Loc} (hl:U b=some l) (h:cut P e b off lo hi m=some v):
  ∃j,P.info? e=some j/\VR U v (.slice (some (if m=lo then(⟨l.de,l.sh+off,none⟩:Addr) else(⟨l.de,l.sh+off,none⟩:Addr).add (lo*j.size))) (hi-lo) (m-lo)):=by
 unfold cut at h;cases hj:P.info? e with
 | none=>rw[hj] at h;cases h
 | some j=>
  rw[hj] at h;cases h;refine⟨j,Z,?_⟩;simp only[VR];refine⟨l,hl,?_⟩;rw[Addr.add_eq _ _ Z]
  by_cases hm:m=lo
  ·simp_all
  have:Nat.beq m lo=false:=by
   grind [Nat.beq_eq]
  grind
section
variable {ev:Operand->Option Y} {f:Operand->Value} {t:TypeId} {lo hi mx:Option Operand} {v:Y}
theorem nj {e:TypeId} {b:Pos} {off len:Nat} {l:Loc} (hl:U b=some l) (h:cutAt P ev e b off len cap lo hi mx=some v) (isSlice:Bool)
  (u:∀x,lo=some x->∀v,ev x=some v->VR U v (f x)) (A:∀x,hi=some x->∀v,ev x=some v->VR U v (f x)) (C:∀x,mx=some x->∀v,ev x=some v->VR U v (f x)):
  ∃j l' h' m,(Instr.sliceBounds isSlice len cap (lo.map f) (hi.map f)<|mx.map f).run P w= .ok (l',h',m) w/\P.info? e=some j/\
   VR U v (.slice (some (if m=l' then(⟨l.de,l.sh+off,none⟩:Addr) else(⟨l.de,l.sh+off,none⟩:Addr).add (l'*j.size))) (h'-l') (m-l')):=by
 unfold cutAt at h;cases mx with
 | none=>
  dsimp only at h;cases hb:dQ ev len cap lo hi with
  | none=>rw[hb] at h;cases h
  | some p=>
   obtain⟨l',h'⟩:=p;rw[hb] at h;obtain⟨r,_,_⟩:=iF (P:=P) (w:=w) hb u A isSlice;obtain⟨j,hj,hv⟩:=BB hl h
   grind
 | some x=>
  dsimp only at h;cases hm:fu ev x cap with
  | none=>simp_all
  | some m=>
   cases hi with
   | none=>rw[hm] at h;cases h
   | some y=>
    rw[hm] at h;dsimp only at h;cases hb:dQ ev m m lo (some y) with
    | none=>rw[hb] at h;cases h
    | some p=>
     obtain⟨l',h'⟩:=p;rw[hb] at h;obtain⟨r,_⟩:=nE (P:=P) (w:=w) (len:=len) hm hb u (A y Z) (C x Z) isSlice;obtain⟨j,hj,hv⟩:=BB hl h
     grind
theorem jQ {e:TypeId} {j:TypeInfo} {a:Addr} {len l h m:Nat} (hu:P.underlying t=some (.slice e)) (hj:P.info? e=some j) {lo hi mx:Option Value}
  (hb:(Instr.sliceBounds true len cap lo hi mx).run P w= .ok (l,h,m) w):
  (Instr.sliceAt t (.slice (some a) len cap) lo hi mx).run P w= .ok (.slice (some (if m=l then a else a.add (l*j.size))) (h-l) (m-l)) w:=by
 simp only[Instr.sliceAt,Instr.slice,sB_,run_underlying hu,rA,hb,cN hj,sP_];split<;>rfl
theorem CW {len a c l' h':Nat} (aa:a<=c) (hb:dQ ev len a lo hi=some (l',h')):dQ ev len c lo hi=some (l',h'):=by
 have up:∀y i,fu ev y a=some i->fu ev y c=some i:=by
  intro y i hy;unfold fu at hy⊢;split at hy
  ·rename_i k i' ab;simp only[bB] at hy⊢;split at hy
   ·rename_i hle;cases hy;rw[nE_] at hle;rw[if_pos (by rw[nE_];omega)]
   cases hy
  cases hy
 unfold dQ at hb⊢
 grind
theorem FY (h:pH P ev t x lo hi mx=some v)
  (hx:∀v,ev x=some v->VR U v (f x)) (C:∀x,lo=some x->∀v,ev x=some v->VR U v (f x)) (E:∀x,hi=some x->∀v,ev x=some v->VR U v (f x)) (F:∀x,mx=some x->∀v,ev x=some v->VR U v (f x)):
  ∃z,(Instr.sliceAt t (f x) (lo.map f) (hi.map f)<|mx.map f).run P w= .ok z w/\VR U v z:=by
 unfold pH at h;split at h
 ·rename_i e b off len cap hu u;have hv:=hx _ u;simp only[VR] at hv;obtain⟨l,hl,hf⟩:=hv;obtain⟨j,l',h',m,r,hj,K⟩:=nj (w:=w) hl h true C E F;rw[hf];exact⟨_,jQ hu hj r,K⟩
 ·rename_i e b off len sz hu u;have hv:=hx _ u;cases mx with
  | none=>
   dsimp only at h;cases hb:dQ ev len len lo hi with
   | none=>rw[hb] at h;cases h
   | some p=>
    obtain⟨l',h'⟩:=p;cases hj:P.info? e with
    | none=>simp_all
    | some j=>
     rw[hb,hj] at h;simp only[bB] at h;split at h
     ·rename_i I;rw[Nat.beq_eq] at I;cases h;obtain⟨r,hle,hle2⟩:=iF (P:=P) (w:=w) hb C E true;have hle2:=hle2 (nR_ _)
      have wider:∀c,len<=c->(Instr.sliceBounds true len c (lo.map f) (hi.map f) none).run P w= .ok (l',h',c) w:=by
       intro c hc
       have M:dQ ev len c lo hi=some (l',h'):=by
        have up:∀y i,fu ev y len=some i->fu ev y c=some i:=by
         intro y i hy;unfold fu at hy⊢;split at hy
         ·rename_i k i' aa;simp only[bB] at hy⊢;split at hy
          ·rename_i hle;cases hy;rw[nE_] at hle;rw[if_pos (by rw[nE_];omega)]
          cases hy
         cases hy
        unfold dQ at hb⊢
        grind
       exact(iF (P:=P) (w:=w) M C E true).1
      simp only[VR] at hv;obtain⟨l,hl,⟨c,hf,hc,A⟩ | ⟨G,a,hf⟩⟩:=hv
      ·rw[hf];refine⟨_,jQ hu hj<|wider c hc,?_⟩;simp only[VR];refine⟨l,hl,?_⟩
       by_cases N:c=l'
       ·grind
       left;refine⟨c-l',?_,by omega,?_⟩
       ·rw[if_neg N,Addr.add_eq _ _ Z,I,Nat.add_assoc]
       rw[<-A];have:c=l'+(c-l'):=by omega
       grind
      rw[hf];subst G;refine⟨_,jQ hu hj<|wider 0<|nR_ _,?_⟩
      simp_all
     cases h
  | some m=>
   simp only[bB] at h;split at h
   ·cases h
   rename_i hne;simp only[VR] at hv;obtain⟨l,hl,⟨c,hf,hc,A⟩ | ⟨G,a,hf⟩⟩:=hv
   ·
    obtain⟨j,l',h',m',r,hj,K⟩:=nj (w:=w) hl h true C E F
    have r':(Instr.sliceBounds true len c (lo.map f) (hi.map f)<|some<|f m).run P w= .ok (l',h',m') w:=by
     unfold cutAt at h;dsimp only at h;cases hm:fu ev m len with
     | none=>simp_all
     | some m0=>
      cases hi with
      | none=>rw[hm] at h;cases h
      | some y=>
       rw[hm] at h;dsimp only at h;cases hb:dQ ev m0 m0 lo (some y) with
       | none=>rw[hb] at h;cases h
       | some p=>
        obtain⟨l0,h0⟩:=p
        have Q:fu ev m c=some m0:=by
         unfold fu at hm⊢;split at hm
         ·simp only[bB] at hm⊢;split at hm
          ·rename_i hle;cases hm;rw[nE_] at hle;rw[if_pos (by rw[nE_];omega)]
          cases hm
         cases hm
        obtain⟨r1,_⟩:=nE (P:=P) (w:=w) (len:=len) hm hb C (E y Z) (F m Z) true;obtain⟨r2,_⟩:=nE (P:=P) (w:=w) (len:=len) Q hb C (E y Z) (F m Z) true
        simp_all
    rw[hf];exact⟨_,jQ hu hj r',K⟩
   simp_all
 ·rename_i e b off len a sz hu u;have hv:=hx _ u;simp only[VR] at hv;obtain⟨l,hl,c,hf,R,A⟩:=hv;cases mx with
  | some _=>cases h
  | none=>
   dsimp only at h;cases hb:dQ ev len a lo hi with
   | none=>rw[hb] at h;cases h
   | some p=>
    obtain⟨l',h'⟩:=p;cases hj:P.info? e with
    | none=>simp_all
    | some j=>
     rw[hb,hj] at h;simp only[bB] at h;split at h
     ·rename_i hc;cases h;simp only[bA_,Nat.beq_eq,nE_] at hc;obtain⟨I,ab,ac⟩:=hc;obtain⟨r,hle,hle2⟩:=iF (P:=P) (w:=w) (CW R hb) C E true;rw[hf];refine⟨_,jQ hu hj r,?_⟩;simp only[VR];refine⟨l,hl,c-l',?_,by omega,?_⟩
      ·rw[if_neg oM,Addr.add_eq _ _ Z,I,Nat.add_assoc]
      rw[<-A];have:c=l'+(c-l'):=by omega
      grind
     cases h
 ·rename_i e hu u;have hv:=hx _ u;simp only[VR] at hv;cases mx with
  | some _=>cases h
  | none=>
   dsimp only at h;cases hb:dQ ev 0 0 lo hi with
   | none=>rw[hb] at h;cases h
   | some p=>
    obtain⟨l',h'⟩:=p;cases L:P.info? e with
    | none=>simp_all
    | some je=>
    rw[hb,L] at h;cases h;obtain⟨r,hle,hle2⟩:=iF (P:=P) (w:=w) hb C E true;have hle2:=hle2 (nR_ _);have:l'=0:=by omega
    have:h'=0:=by omega
    subst_vars
    rw[hv];refine⟨.slice none 0 0,?_,by simp only[VR]⟩;simp[Instr.sliceAt,Instr.slice,run_underlying hu,r,cN L]
 ·rename_i n e b off hu u;have hv:=hx _ u;simp only[VR] at hv;obtain⟨l,hl,hf⟩:=hv;obtain⟨j,l',h',m,r,hj,K⟩:=nj (w:=w) hl h false C E F;rw[hf];refine⟨_,?_,K⟩;simp only[Instr.sliceAt,sB_,run_underlying hu,rA,Instr.sureAddr,sP_,r,cN hj]
 ·rename_i arr b off hu u;have hv:=hx _ u;simp only[VR] at hv;obtain⟨l,hl,hf⟩:=hv;split at h
  ·rename_i n e T;obtain⟨j,l',h',m,r,hj,K⟩:=nj (w:=w) hl h false C E F;rw[hf];refine⟨_,?_,K⟩;simp only[Instr.sliceAt,Instr.slice,sB_,run_underlying hu,run_underlying T,asAddr,rA,sP_,r,cN hj]
  cases h
 ·rename_i s hu u;have hv:=hx _ u;simp only[VR] at hv;obtain⟨bs,hf,W⟩:=hv;cases mx with
  | some _=>cases h
  | none=>
   dsimp only at h;cases hb:dQ ev (dt s) (dt s) lo hi with
   | none=>rw[hb] at h;cases h
   | some p=>
    obtain⟨l',h'⟩:=p;rw[hb] at h;cases h;rw[jx W] at hb;obtain⟨r,hle,hle2⟩:=iF (P:=P) (w:=w) hb C E false;rw[hf];refine⟨.string<|bs.extract l' h',?_,?_⟩
    ·simp[Instr.sliceAt,Instr.slice,run_underlying hu,r]
    simp only[VR];refine⟨_,Z,?_⟩
    grind [gQ,dT,eB,Lib.extract_data,List.map_take,List.map_drop]
 cases h
end
end
variable {ts:Array TypeId}
section
variable {P:Program} {U:Ren} {w:World}
theorem zQ {t:TypeId} {off:Nat} {v:Y} (h:Jy P t cs off=some v) (hc:di U cs ys.toList):∃y,(part t ys off).run P w= .ok y w/\VR U v y:=by
 unfold Jy at h;split at h
 ·rename_i n u;cases h;obtain⟨d,i,hu,hi,A,C⟩:=sT u;refine⟨.agg<|ys.extract off (off+n),?_,?_⟩
  ·simp only[part,sB_,fp hu,C,rA,if_true,cN hi,A,sP_]
  simp only[VR];refine⟨_,Z,?_⟩;rw[dT,eB,Array.toList_extract];have:=(hc.drop off).take n
  simp_all
 ·rename_i u;obtain⟨d,i,hu,hi,C⟩:=yf u;rw[fL] at h;obtain⟨y,h1,E⟩:=hc.get h;refine⟨y,?_,E⟩;have:ys[off]? =some y:=by simp_all
  simp only[part,sB_,fp hu,C,rA,zi_,if_false,this,sP_]
 cases h
theorem gY {ev:Operand->Option Y} {f:Operand->Value}:∀{l:List Operand} {vs:List Y},cX ev l=some vs->(∀x∈l,∀v,ev x=some v->VR U v (f x))->di U vs (l.map f)
 | [],vs,h,_=>by rw[il] at h;cases h;exact di.nil
 | x::l,vs,h,u=>by
  obtain⟨y,r,h1,A,rfl⟩:=gJ h;exact di.cons (u x (by simp) y h1)<|gY A fun z C=>u z (by simp[C])
theorem Lr {t ty:TypeId} {x:Y} {y:Value} {n:Nat} (h:zy P t x=some n) (hx:VR U x y) (u:ts[0]? =some t):(Builtin.len_ ts ty #[y]).run P w= .ok (.int .i64<|Int.ofNat n) w:=by
 unfold zy at h;split at h
 ·rename_i s hu;cases h;simp only[VR] at hx;obtain⟨bs,rfl,A⟩:=hx;rw[jx A];simp[Builtin.len_,u,run_underlying hu,goInt]
 ·rename_i m e hu;cases h;simp[Builtin.len_,u,run_underlying hu,goInt]
 ·rename_i e b off m cap hu;cases h;obtain⟨a,c,rfl⟩:=VR.jt hx;simp[Builtin.len_,u,run_underlying hu,goInt]
 ·rename_i e hu;cases h;simp only[VR] at hx;subst hx;simp[Builtin.len_,u,run_underlying hu,goInt]
 ·rename_i k e hu;cases h;simp only[VR] at hx;subst hx;simp[Builtin.len_,u,run_underlying hu,goInt]
 cases h
theorem zI {x:Y} {y:Value} (hx:VR U x y) (h:x≠ .nilPtr/\x≠ .nilIface/\x≠ .nilFunc/\(∀l,x≠ .yield l)/\x≠ .any/\(∀n,x≠ .tok n)) (f:Operand->Value) (o:Oper) (z:Operand) (u:o.op= .nilCheck z) (hf:f z=y):
  (execOp f o).run P w= .ok (.value y) w:=by
 have key:(y≠ .pointer none)/\y≠ .nilIface/\y≠ .nilFunc/\∀n a b,y≠ .func (.method n) a b:=by
  obtain⟨h1,A,h3,C,h5,E⟩:=h;cases x with
  | tok n=>exact absurd Z (E n)
  | any=>exact absurd Z h5
  | nilPtr=>exact absurd Z h1
  | nilIface=>exact absurd Z A
  | nilFunc=>exact absurd Z h3
  | yield l=>exact absurd Z (C l)
  | slice b off len cap=>obtain⟨_,_,rfl⟩:=VR.jt hx;simp
  | _=>simp only[VR] at hx;first | (subst hx;simp;done) | (obtain⟨_,_,rfl⟩:=hx;simp;done) | (obtain⟨_,rfl,_⟩:=hx;simp;done) | (obtain⟨_,_,rfl,_⟩:=hx;simp;done)
 obtain⟨F,G,I,K⟩:=key;simp only[execOp,u,hf,F,G,I,K];rfl
theorem zW {f:Operand->Value} {o:Oper} {v:Y} (C:ER U ev f o.op) (h:dH P ev o.op=some v):
  ∃x,(execOp f o).run P w= .ok (.value x) w/\VR U v x:=by
 cases F:o.op with
 | move x=>
  rw[F] at h C;exact⟨f x,by simp[execOp,F],C x (by simp[Op.operands]) v h⟩
 | assign x=>
  rw[F] at h C;exact⟨f x,by simp[execOp,F],C x (by simp[Op.operands]) v h⟩
 | pick c a b=>
  rw[F] at h C;simp only[dH] at h;split at h
  ·rename_i hc;have:=C c (by simp[Op.operands]) _ hc;simp only[VR] at this;exact⟨f a,by simp[execOp,F,this,asBool],C a (by simp[Op.operands]) v h⟩
  ·rename_i hc;have:=C c (by simp[Op.operands]) _ hc;simp only[VR] at this;exact⟨f b,by simp[execOp,F,this,asBool],C b (by simp[Op.operands]) v h⟩
  cases h
 | build t parts=>
  rw[F] at h C;obtain⟨x,h1,M⟩:=Et (U:=U) (w:=w) (f:=f) (fun p hp u hu=>C p.2 (by simp only[Op.operands,List.mem_toArray,zn_];grind) u hu) h
  grind [execOp,sB_,rA,sP_]
 | nilCheck x=>
  rw[F] at h C;simp only[dH] at h;split at h
  ·cases h
  ·cases h
  ·cases h
  ·cases h
  ·cases h
  ·cases h
  rename_i n1 n2 n3 n4 n5 n6;have hv:=C x (by simp[Op.operands]) v h;exact⟨f x,zI hv ⟨fun e=>n1 (by rw[h,e]),fun e=>n2 (by rw[h,e]),fun e=>n3 (by rw[h,e]),(fun l e=>n4 l (by rw[h,e])),(fun e=>n5 (by rw[h,e])),fun k e=>n6 k (by rw[h,e])⟩ f o x F Z,hv⟩
 | binOp op t x y ty=>
  rw[F] at h C;simp only[dH] at h;split at h
  ·rename_i a b ha hb;obtain⟨z,h1,M,h3⟩:=GL (P:=P) (w:=w) (C x (by simp[Op.operands]) a ha) (C y (by simp[Op.operands]) b hb) x y h
   grind [execOp,sB_,rA,sP_]
  cases h
 | unOp op t x=>
  rw[F] at h C;simp only[dH] at h;split at h
  ·rename_i b hb;cases h;have:=C x (by simp[Op.operands]) _ hb;simp only[VR] at this;exact⟨.bool (!b),by simp[execOp,F,this,Op.unary],by simp only[VR];rw[cond_not]⟩
  ·rename_i k n hb;cases h;have:=C x (by simp[Op.operands]) _ hb;simp only[VR] at this;refine⟨.int k<|k.wrap (0-n),?_,by simp only[VR];rw[Kb];rfl⟩
   grind [execOp,Op.unary,Op.intArith,sP_]
  ·rename_i k n hb;cases h;have:=C x (by simp[Op.operands]) _ hb;simp only[VR] at this;refine⟨.int k<|k.wrap (BitVec.ofInt k.bits (if k.signed then-1 else k.max) ^^^ BitVec.ofInt k.bits n).toNat,?_,by simp only[VR]⟩
   grind [execOp,Op.unary,Op.intBits,sP_]
  cases h
 | convert src dst x=>
  rw[F] at h C;simp only[dH] at h;split at h
  ·rename_i I K N k1 k k2 n e1 e2 X;cases h;have:=C x (by simp[Op.operands]) _ X;simp only[VR] at this;refine⟨.int k<|k.wrap n,?_,by simp only[VR];rw[Kb]⟩;simp[execOp,F,this,convert,run_underlying e1,run_underlying e2,Conv.intToInt]
  ·rename_i I K N s e1 e2 X;cases h;have hv:=C x (by simp[Op.operands]) _ X;have hv':=hv;simp only[VR] at hv';obtain⟨bs,hf,Q⟩:=hv';refine⟨f x,?_,hv⟩;rw[hf];simp[execOp,F,hf,convert,run_underlying e1,run_underlying e2]
  cases h
 | makeInterface t x=>
  rw[F] at h C;simp only[dH] at h;split at h
  ·cases h
  ·rename_i I K d u hn e1 e2;cases h;have hv:=C x (by simp[Op.operands]) _ e2;refine⟨.iface t<|f x,?_,by simp only[VR];simp_all⟩;simp only[execOp,F,Instr.makeInterface,sB_,run_underlying e1,rA]
   simp_all
  cases h
 | makeFunc fn first captured=>
  rw[F] at h C;simp only[dH] at h;split at h
  ·rename_i I K N g a b e1 e2;cases h;have ha:=gY (f:=f) e1 (fun x hx u hu=>C x (by grind [Op.operands]) u hu);have hb:=gY (f:=f) e2 (fun x hx u hu=>C x (by grind [Op.operands]) u hu);refine⟨.func (.func g) (first.map f)<|captured.map f,?_,by simp only[VR];exact⟨_,_,Z,by simpa using ha,by simpa using hb⟩⟩;simp[execOp,F,Instr.makeFunc]
  cases h
 | slice t x lo hi mx=>
  rw[F] at h C;obtain⟨z,h1,M⟩:=FY (P:=P) (w:=w) (f:=f) h (C x (by simp[Op.operands])) (fun y hy=>C y (by subst hy;simp[Op.operands])) (fun y hy=>C y (by subst hy;simp[Op.operands])) (fun y hy=>C y (by subst hy;simp[Op.operands]))
  grind [execOp,sB_,rA,sP_]
 | fieldAddr s x i=>
  rw[F] at h C;simp only[dH] at h;split at h
  ·rename_i fs b off Q hx;have hv:=C x (by simp[Op.operands]) _ hx;simp only[VR] at hv;obtain⟨l,hl,hf⟩:=hv;split at h
   ·rename_i fd R;split at h
    ·rename_i j hj;simp only[bB] at h;split at h
     ·cases h
     rename_i hne;cases h;have W:¬j.size=0:=fun e=>hne (by simp_all)
     refine⟨.pointer<|some ⟨l.de,l.sh+(off+fd.offset),none⟩,?_,by simp only[VR];simp_all⟩;simp[execOp,F,Instr.fieldAt,run_underlying<|nX Q,R,hf,Instr.sureAddr,fieldPlace,cN hj,W,Addr.add_eq,Nat.add_assoc]
    cases h
   cases h
  cases h
 | field t x i=>
  rw[F] at h C;simp only[dH] at h;split at h
  ·rename_i fs cs Q hx;have hv:=C x (by simp[Op.operands]) _ hx;simp only[VR] at hv;obtain⟨ys,hf,hc⟩:=hv;split at h
   ·rename_i fd R;obtain⟨y,h1,M⟩:=zQ (P:=P) (w:=w) h hc;refine⟨y,?_,M⟩;simp[execOp,F,Instr.field,run_underlying<|nX Q,R,hf,asAgg,h1]
   cases h
  cases h
 | indexAddr t x i=>
  rw[F] at h C;simp only[dH] at h;split at h
  ·rename_i I K N e b off len cap k n hu hx hi;have hv:=C x (by simp[Op.operands]) _ hx;have hn:=C i (by simp[Op.operands]) _ hi;simp only[VR] at hn;split at h
   ·rename_i j hj;simp only[bB] at h;split at h
    ·rename_i G;cases h;rw[nE_] at G;have G:n<len:=G;have L:(0:Int)<=Int.ofNat n/\Int.ofNat n<(len:Int):=⟨Int.natCast_nonneg _,Int.ofNat_lt.2 G⟩
     have go:∀(a:Addr) (c:Nat),f x= .slice (some a) len c->(execOp f o).run P w= .ok (.value (.pointer<|some<|a.add (n*j.size))) w:=by
      intro a c hf;simp only[execOp,F,Instr.indexAt,hn,hf,asIntOf,sB_,sP_,run_underlying hu,rA];rw[if_pos L];simp[cN hj]
     cases cap with
     | known c=>
      simp only[VR] at hv;obtain⟨l,hl,hf⟩:=hv;refine⟨_,go _ _ hf,?_⟩;simp only[VR];exact⟨l,hl,by rw[Addr.add_eq _ _ Z,Nat.add_assoc]⟩
     | least a sz=>
      simp only[VR] at hv;obtain⟨l,hl,c,hf,_⟩:=hv;refine⟨_,go _ _ hf,?_⟩;simp only[VR];exact⟨l,hl,by rw[Addr.add_eq _ _ Z,Nat.add_assoc]⟩
     | upto sz=>
      simp only[VR] at hv;obtain⟨l,hl,⟨c,hf,_⟩ | ⟨h0,_⟩⟩:=hv
      ·refine⟨_,go _ _ hf,?_⟩;simp only[VR];exact⟨l,hl,by rw[Addr.add_eq _ _ Z,Nat.add_assoc]⟩
      omega
    cases h
   cases h
  ·rename_i I K N m e b off k n hu hx hi;have hv:=C x (by simp[Op.operands]) _ hx;have hn:=C i (by simp[Op.operands]) _ hi;simp only[VR] at hn hv;obtain⟨l,hl,hf⟩:=hv;split at h
   ·rename_i j hj;simp only[bB] at h;split at h
    ·rename_i G;cases h;rw[nE_] at G;have G:n<m:=G;have L:(0:Int)<=Int.ofNat n/\Int.ofNat n<(m:Int):=⟨Int.natCast_nonneg _,Int.ofNat_lt.2 G⟩;refine⟨.pointer<|some ⟨l.de,l.sh+(off+n*j.size),none⟩,?_,by simp only[VR];simp_all⟩;simp only[execOp,F,Instr.indexAt,hn,hf,asIntOf,sB_,sP_,run_underlying hu,rA,Instr.sureAddr];rw[if_pos L];simp[cN hj,Addr.add_eq,Nat.add_assoc]
    cases h
   cases h
  cases h
 | index t x i=>
  rw[F] at h C;simp only[dH] at h;split at h
  ·rename_i I K N m e cs k n hu hx hi;have hv:=C x (by simp[Op.operands]) _ hx;have hn:=C i (by simp[Op.operands]) _ hi;simp only[VR] at hn hv;obtain⟨ys,hf,hc⟩:=hv;simp only[bB] at h;split at h
   ·rename_i G;rw[nE_] at G;have G:n<m:=G;have L:(0:Int)<=Int.ofNat n/\Int.ofNat n<(m:Int):=⟨Int.natCast_nonneg _,Int.ofNat_lt.2 G⟩;split at h
    ·rename_i j hj;obtain⟨y,h1,M⟩:=zQ (P:=P) (w:=w) h hc;refine⟨y,?_,M⟩;simp only[execOp,F,Instr.index,hn,hf,asIntOf,sB_,sP_,run_underlying hu,rA];rw[if_pos L];simp[cN hj,h1]
    cases h
   cases h
  ·rename_i I K N s k n hu hx hi;have hv:=C x (by simp[Op.operands]) _ hx;have hn:=C i (by simp[Op.operands]) _ hi;simp only[VR] at hn hv;obtain⟨bs,hf,Q⟩:=hv;split at h
   ·rename_i c hc;cases h;rw[fL] at hc;unfold gQ at Q;rw[<-Q,gM_] at hc;cases hb:bs.data.toList[n]? with
    | none=>simp_all
    | some bt=>
     rw[hb] at hc;cases hc;have aa:bs[n]? =some bt:=by rw[<-hb,aT_];rfl
     refine⟨.int .u8 (bt.toNat:Int),?_,by simp only[VR];rfl⟩;have h0:(0:Int)<=Int.ofNat n:=Int.natCast_nonneg _;simp only[execOp,F,Instr.index,hn,hf,asIntOf,sB_,sP_,run_underlying hu,rA]
     simp_all
   cases h
  cases h
 | typeAssert x xt ty ok=>
  rw[F] at h C;simp only[dH] at h
  have zero:∀{v:Y},((fx P ty).map fun z=>Y.tuple [z,.bool false])=some v->∃z,(zeroValue ty).run P w= .ok z w/\VR U v (.tuple #[z,.bool false]):=fun {v} W=>by
   cases hq:fx P ty with
   | none=>simp_all
   | some z=>
    rw[hq] at W;cases W;obtain⟨i,y,hi,hy,hv⟩:=ry hq;refine⟨y,by simp[zeroValue,typeInfo,hi,hy],?_⟩;simp only[VR];exact⟨_,Z,di.cons (hv U)<|di.cons (by simp only[VR]) di.nil⟩
  split at h
  ·cases h
  ·rename_i I K d u v' hn e1 e2;have hv:=C x (by simp[Op.operands]) _ e2;simp only[VR] at hv;obtain⟨y,hf,hv⟩:=hv;rw[bB] at h;split at h
   ·rename_i hu;have:=nB hu;subst this;cases ok with
    | true=>
     simp only[cond_true] at h;cases h;refine⟨.tuple #[y,.bool true],?_,by simp only[VR];exact⟨_,Z,di.cons hv<|di.cons (by simp only[VR]) di.nil⟩⟩;simp only[execOp,F,Instr.typeAssert,hf,sB_,run_underlying e1,rA]
     simp_all
    | false=>
     simp only[cond_false] at h;cases h;refine⟨y,?_,hv⟩;simp only[execOp,F,Instr.typeAssert,hf,sB_,run_underlying e1,rA]
     simp_all
   rename_i hu;have hne:¬u=ty:=fun e=>hu (by simp_all)
   cases ok with
   | true=>
    obtain⟨z,W,T⟩:=zero h;refine⟨_,?_,T⟩;simp only[execOp,F,Instr.typeAssert,hf,sB_,run_underlying e1,rA]
    simp_all
   | false=>cases h
  ·rename_i I K d hn e1 e2;have hv:=C x (by simp[Op.operands]) _ e2;simp only[VR] at hv;cases ok with
   | true=>
    obtain⟨z,W,T⟩:=zero h;refine⟨_,?_,T⟩;simp only[execOp,F,Instr.typeAssert,hv,sB_,run_underlying e1,rA]
    simp_all
   | false=>cases h
  cases h
 | extract x i=>
  rw[F] at h C;simp only[dH] at h;split at h
  ·rename_i vs hx;have hv:=C x (by simp[Op.operands]) _ hx;simp only[VR] at hv;obtain⟨ys,hf,hc⟩:=hv;rw[fL] at h;obtain⟨y,h1,M⟩:=hc.get h;have:ys[i]? =some y:=by simp_all
   exact⟨y,by simp[execOp,F,Instr.extract,hf,this],M⟩
  cases h
 | call c=>
  rw[F] at h C;simp only[dH] at h;split at h
  ·rename_i E;split at h
   ·rename_i I K t x e1 e2;split at h
    ·rename_i u hu;cases hl:zy P t u with
     | none=>rw[hl] at h;cases h
     | some n=>
      rw[hl] at h;cases h;have A:c.args= #[x]:=by grind
      have hv:=C x (by simp[Op.operands,Call.operands,E,A]) u hu;refine⟨.int .i64<|Int.ofNat n,?_,by simp only[VR]⟩;have:=Lr (P:=P) (w:=w) (ty:=o.type) hl hv e1;simp[execOp,F,resolve,E,A,invoke,builtin,this]
    cases h
   cases h
  ·rename_i E;split at h
   ·rename_i I K t x e1 e2;split at h
    ·rename_i N u4 e u hu hx;have A:c.args= #[x]:=by grind
     have hv:=C x (by simp[Op.operands,Call.operands,E,A]) u hx;unfold Va at h;split at h
     ·rename_i b off len k;cases h;simp only[VR] at hv;obtain⟨l,hl,hf⟩:=hv;refine⟨.int .i64<|Int.ofNat k,?_,by simp only[VR]⟩;simp[execOp,F,resolve,E,A,invoke,builtin,Builtin.cap_,e1,run_underlying hu,hf,goInt]
     ·rename_i b off len a sz;cases h;simp only[VR] at hv;obtain⟨l,hl,k,hf,hk,_⟩:=hv;refine⟨.int .i64<|Int.ofNat k,?_,by simp only[VR];grind⟩;simp[execOp,F,resolve,E,A,invoke,builtin,Builtin.cap_,e1,run_underlying hu,hf,goInt]
     ·cases h;simp only[VR] at hv;refine⟨.int .i64 0,?_,by simp only[VR]⟩;simp[execOp,F,resolve,E,A,invoke,builtin,Builtin.cap_,e1,run_underlying hu,hv,goInt]
     cases h
    cases h
   cases h
  ·rename_i E;split at h
   ·rename_i I x y e2;split at h
    ·rename_i a b ha hb;have A:c.args= #[x,y]:=by grind
     have hva:=C x (by simp[Op.operands,Call.operands,E,A]) a ha;have hvb:=C y (by simp[Op.operands,Call.operands,E,A]) b hb;unfold TX at h;split at h
     ·rename_i k n k' m;simp only[VR] at hva hvb;simp only[bB] at h;split at h
      ·cases h;refine⟨.int k (if m<n then m else n),?_,by simp only[VR,eQ,decide_eq_true_eq]⟩;simp[execOp,F,resolve,E,A,invoke,builtin,hva,hvb,run_min_int2]
      cases h
     cases h
    cases h
   cases h
  ·rename_i E;split at h
   ·rename_i I x y e2;split at h
    ·rename_i a b ha hb;have A:c.args= #[x,y]:=by grind
     have hva:=C x (by simp[Op.operands,Call.operands,E,A]) a ha;have hvb:=C y (by simp[Op.operands,Call.operands,E,A]) b hb;unfold TW at h;split at h
     ·rename_i k n k' m;simp only[VR] at hva hvb;simp only[bB] at h;split at h
      ·cases h;refine⟨.int k (if m>n then m else n),?_,by simp only[VR,eQ,decide_eq_true_eq]⟩;simp[execOp,F,resolve,E,A,invoke,builtin,hva,hvb,run_max_int2]
      cases h
     cases h
    cases h
   cases h
  cases h
 | _=>rw[F] at h;simp[dH] at h
end
inductive HR where
 | val (v:Y) (V:D)
 | skip (V:D)
 | enter (f:Nat) (args:List Y) (V:D)
 | round (l:Pos) (args:List Y) (V:D)
 | kG (v:Y) (V:D)
 | err (n:Nat)
def Aq (P:Program) (V:D) (t:TypeId) (x v:Y):Option D:=
 match x,cE v with
 | .ptr b off,some cs=>
  match V.m.get b,P.info? t with
  | some (.row cells e false),some j=>
   bif Nat.beq (dt cs) j.size && Nat.ble (off+j.size) (dt cells) && cg cs then some (V.setObj b (.row (dp cs cells off) e false)) else none
  | some (.own cells e),some j=>
   bif Nat.beq (dt cs) j.size && Nat.ble (off+j.size) (dt cells) && cg cs then some (V.setObj b (.own (dp cs cells off) e)) else none
  | _,_=>none
 | _,_=>none
def lV (V:D) (sz:Nat):Y->Option (Nat×List Y)
 | .aw=>some (0,[])
 | .slice b off len _=>match V.m.get b with
  | some (.row cells _ _)=>bif Nat.ble (off+len*sz) (dt cells) then some (len,takeN (dZ cells off) (len*sz)) else none
  | _=>none
 | .str s=>bif Nat.beq sz 1 then some (dt s,AT (fun c=>.int .u8 (Int.ofNat c)) s) else none
 | _=>none
def dN (P:Program) (t:Option TypeId):Bool:=
 match t with
 | some t=>match P.underlying t with
  | some (.slice _) | some .string=>true
  | _=>false
 | none=>true
def grow (V:D) (e:Nat) (cs:List Y) (len sz:Nat):HR:=
 .val (.slice V.next 0 len (.upto sz)) (V.alloc (.row cs e false))
def fI (P:Program) (V:D) (ts:Array TypeId) (s x:Y):HR:=
 match ts[0]? with
 | some t=>match P.underlying t with
  | some (.slice e)=>match P.info? e with
   | some j=>
    bif dN P ts[1]? && Nat.ble 1 j.size && Nat.ble j.bytes 65536 then
     match lV V j.size x with
     | some (n,news)=>
      bif cg news && Nat.ble n 1048576 && (P.info? e).any (fun j=>(j.zero.bind qM).any fun z=>(cE z).any fun cs=>Nat.beq (dt cs) j.size) then
       match s with
       | .aw=>bif Nat.beq n 0 then .val .aw V else grow V e news n j.size
       | .slice b off len (.known c)=>
        bif Nat.ble (len+n) c then
         match V.m.get b with
         | some (.row cells e' false)=>
          bif Nat.ble (off+len*j.size+dt news) (dt cells) then .val (.slice b off (len+n) (.known c)) (V.setObj b (.row (dp news cells (off+len*j.size)) e' false)) else .err 21
         | _=>bif Nat.beq n 0 then .val (.slice b off len (.known c)) V else .err 22
        else match V.m.get b with
         | some (.row cells _ _)=>
          bif Nat.ble (off+len*j.size) (dt cells) && Nat.ble len 1048576 then grow V e (gV (takeN (dZ cells off) (len*j.size)) news) (len+n) j.size else .err 23
         | _=>.err 24
       | .slice b off len (.upto sz)=>
        bif Nat.beq n 0 then .val (.slice b off len (.upto sz)) V else
        bif Nat.beq sz j.size && Nat.ble len 1048576 then
         match V.m.get b with
         | some (.row cells e' false)=>
          bif Nat.ble 1 len && Nat.ble (off+len*j.size+dt news) (dt cells) then
           .val (.slice b off (len+n) (.upto sz)) (V.setObj b (.row (dp news cells (off+len*j.size)) e' false))
          else bif Nat.ble (off+len*j.size) (dt cells) && Nat.beq e' e then grow (V.drop b) e (gV (takeN (dZ cells off) (len*j.size)) news) (len+n) j.size else .err 25
         | _=>.err 26
        else .err 27
       | _=>.err 28
      else .err 29
     | none=>.err 30
    else .err 31
   | none=>.err 32
  | _=>.err 33
 | none=>.err 34
def rC (P:Program) (V:D) (ts:Array TypeId) (s x:Y):HR:=
 match ts[0]?,ts[1]? with
 | some t,some t2=>match P.underlying t,P.underlying t2 with
  | some (.slice e),some (.int _)=>match P.info? e,(fx P e).bind cE,x with
   | some j,some zs,.int .i64 (.ofNat n)=>
    bif Nat.ble n 1048576 && (Nat.ble 1 n && (Nat.ble 1 j.size && (Nat.ble j.bytes 65536 && Nat.beq (dt zs) j.size))) then
     match s with
     | .aw=>grow V e (ew zs n) n j.size
     | .slice b off len (.known c)=>
      bif Nat.ble (len+n) c then .err 37 else match V.m.get b with
       | some (.row cells _ _)=>bif Nat.ble (off+len*j.size) (dt cells) && Nat.ble len 1048576 then grow V e (gV (takeN (dZ cells off) (len*j.size))<|ew zs n) (len+n) j.size else .err 23
       | _=>.err 24
     | _=>.err 38
    else .err 39
   | _,_,_=>.err 46
  | _,_=>.err 47
 | _,_=>.err 48
def wG (P:Program) (V:D) (ts:Array TypeId) (d x:Y):HR:=
 match ts[0]? with
 | some t=>match P.underlying t with
  | some (.slice e)=>match P.info? e with
   | some j=>match lV V j.size x,d with
    | some (n,news),.slice b off len _=>
     bif Nat.beq (Nat.min n len) 0 then .val (.int .i64 0) V else
     match V.m.get b with
     | some (.row cells e' false)=>
      bif cg (takeN news (Nat.min n len*j.size)) && Nat.ble 1 j.size && Nat.ble (off+dt (takeN news (Nat.min n len*j.size))) (dt cells) then
       .val (.int .i64<|Int.ofNat<|Nat.min n len) (V.setObj b (.row (dp (takeN news (Nat.min n len*j.size)) cells off) e' false)) else .err 40
     | _=>.err 41
    | some (_,_),.aw=>.val (.int .i64 0) V
    | _,_=>.err 42
   | none=>.err 43
  | _=>.err 44
 | none=>.err 45
def vG (P:Program) (V:D) (ts:Array TypeId) (x:Y):Option D:=
 match ts[0]? with
 | some t=>match P.underlying t with
  | some (.slice e)=>match x with
   | .aw=>some V
   | .slice b off len _=>bif Nat.beq len 0 then some V else
    match(fx P e).bind cE,V.m.get b with
    | some zs,some (.row cells e' false)=>bif cg (ew zs len) && Nat.ble 1 (dt zs) && Nat.ble (off+dt (ew zs len)) (dt cells) then some (V.setObj b (.row (dp (ew zs len) cells off) e' false)) else none
    | _,_=>none
   | _=>none
  | _=>none
 | none=>none
def we (e:eC) (es:List eC) (i:Nat):List eC:=Ib e es i
def yC (es:List eC):Nat->List eC:=
 List.rec (motive:=fun _=>Nat->List eC) (fun _=>[]) (fun x l ih n=>Nat.rec (motive:=fun _=>List eC) l (fun m _=>x::ih m) n) es
def oc (xs ys:List Y):Bool:=
 List.rec (motive:=fun _=>List Y->Bool) (fun ys=>List.rec (motive:=fun _=>Bool) true (fun _ _ _=>false) ys)
  (fun x _ ih ys=>List.rec (motive:=fun _=>Bool) false (fun y r _=>match tf x y with | some true=>ih r | _=>false) ys) xs ys
def sameKey (x y:Y):Bool:=
 match x,y with
 | .agg xs,.agg ys=>oc xs ys
 | x,y=>match tf x y with | some b=>b | none=>false
def kS (P:Program) (V:D) (t:TypeId) (m k v:Y):Option D:=
 match P.underlying t,m with
 | some (.map kt _),.map b=>match V.m.get b with
  | some (.map es clock)=>bif plainKey P kt && jL P kt k then
    match nr P kt k es 0 with
    | some (some (i,_))=>match nth es i with
     | some e=>bif sameKey e.key k then some (V.setObj b (.map (we {key:=k,val:=v,born:=e.born} es i) clock)) else none
     | none=>none
    | some none=>some (V.setObj b (.map (gV es [{key:=k,val:=v,born:=clock}]) (clock+1)))
    | none=>none
   else none
  | _=>none
 | _,_=>none
def rH (P:Program) (V:D) (ts:Array TypeId) (m k:Y):Option D:=
 match ts[0]? with
 | some t=>match P.underlying t,m with
  | some (.map kt _),.map b=>match V.m.get b with
   | some (.map es clock)=>bif plainKey P kt && jL P kt k then
     match nr P kt k es 0 with
     | some (some (i,_))=>some (V.setObj b (.map (yC es i) clock))
     | some none=>some (V.setObj b (.map es clock))
     | none=>none
    else none
   | _=>none
  | _,_=>none
 | none=>none
def lz (P:Program) (f:Nat):Bool:=
 match P.funcs[f]? with
 | some fn=>fn.body.isSome && !(fn.name == "runtime.NumGoroutine")
 | none=>false
def og:oY->Bool
 | .upto _=>false
 | _=>true
def uO (p q:Pos):Bool:=Nat.beq p q
def rT (V:D) (args:List Y):Option Y:=
 match args with
 | [.slice b off n cap,.slice b' off' n' cap']=>
  match V.m.get b,V.m.get b' with
  | some (.row _ _ false),some (.row cells' _ false)=>bif (bif uO b b' then false else true) && (og cap && (og cap' && Nat.ble 1 (dt cells'))) then some (.bool false) else none
  | _,_=>none
 | _=>none
def isNe (P:Program) (g:Nat):Bool:=
 match P.funcs[g]? with
 | some fn=>fn.name == "internal/abi.NoEscape"
 | none=>false
def Bp (P:Program) (ov:Nat->Bool) (V:D) (f:Y) (args:List Y):HR:=
 match f with
 | .func g fi ca=>bif lz P g then .enter g (gV fi<|gV args ca) V else bif ov g then(bif isNe P g then(match gV fi (gV args ca) with | [v]=>.val v V | _=>.err 53) else(match rT V (gV fi<|gV args ca) with | some v=>.val v V | none=>.err 52)) else .err 50
 | .yield l=>.round l args V
 | _=>.err 51
def VO (len:Nat) (c:oY):Bool:=
 match c with
 | .known c=>Nat.ble 1 c
 | .upto _=>Nat.ble 1 len
 | .least a _=>Nat.ble 1 a
def I6 (x:Y):Option Y:=
 match x with
 | .aw=>some .nilPtr
 | .slice b off len c=>bif VO len c then some (.ptr b off) else none
 | _=>none
def J6 (P:Program) (V:D) (t:Option TypeId) (p n:Y):Option (List Nat×D):=
 match n with
 | .int .i64 (.ofNat n)=>bif Nat.beq n 0 then(match t,p with
   | some _,.nilPtr=>some ([],V)
   | some _,.ptr _ _=>some ([],V)
   | _,_=>none) else
  match t,p with
  | some t,.ptr b off=>match P.underlying t,V.m.get b with
   | some (.pointer u),some (.row cells e false)=>bif Nat.beq e u && (Nat.beq (P.cellsOf u) 1 && (Nat.ble (off+n) (dt cells) && Nat.ble n 1152921504606846976)) then
     match cX Bo (takeN (dZ cells off) n) with
     | some s=>some (s,V.setObj b (.row cells e true))
     | none=>none
    else none
   | _,_=>none
  | _,_=>none
 | _=>none
def mh (P:Program) (V:D) (src dst:TypeId) (x:Y):HR:=
 match P.underlying src,P.underlying dst,x with
 | some .string,some (.slice e),.str s=>match P.underlying e with
  | some (.int .u8)=>bif Nat.beq (P.cellsOf e) 1 then .val (.slice V.next 0 (dt s) (.upto 1)) (V.alloc (.row (AT (fun c=>.int .u8 (Int.ofNat c)) s) e true)) else .err 26
  | _=>.err 25
 | _,_,_=>.err 24
def fX (P:Program) (ov:Nat->Bool) (ev:Operand->Option Y) (V:D):Op->HR
 | .store t x y=>match ev x,ev y with
  | some a,some v=>match Aq P V t a v with
   | some V'=>.skip V'
   | none=>.err 10
  | _,_=>.err 11
 | .mapUpdate t m k x=>match ev m,ev k,ev x with
  | some a,some b,some v=>match kS P V t a b v with
   | some V'=>.skip V'
   | none=>.err 19
  | _,_,_=>.err 20
 | .insert t m k x=>match ev m,ev k,ev x with
  | some a,some b,some v=>match kS P V t a b v with
   | some V'=>.skip V'
   | none=>.err 19
  | _,_,_=>.err 20
 | .call c=>match c.callee with
  | .value f=>match ev f,mB ev c.args.toList with
   | some g,some args=>Bp P ov V g args
   | _,_=>.err 12
  | .builtin .append=>match mB ev c.args.toList with
   | some [s,x]=>bif dN P c.argTypes[1]? then fI P V c.argTypes s x else rC P V c.argTypes s x
   | _=>.err 13
  | .builtin .delete=>match mB ev c.args.toList with
   | some [m,k]=>match rH P V c.argTypes m k with
    | some V'=>.val (.tuple []) V'
    | none=>.err 17
   | _=>.err 18
  | .builtin .copy=>match mB ev c.args.toList with
   | some [s,x]=>wG P V c.argTypes s x
   | _=>.err 14
  | .builtin .clear=>match mB ev c.args.toList with
   | some [x]=>match vG P V c.argTypes x with
    | some V'=>.val (.tuple []) V'
    | none=>.err 21
   | _=>.err 22
  | .builtin .unsafeSliceData=>match mB ev c.args.toList with
   | some [x]=>match I6 x with
    | some v=>.val v V
    | none=>.err 27
   | _=>.err 28
  | .builtin .unsafeString=>match mB ev c.args.toList with
   | some [p,n]=>match J6 P V c.argTypes[0]? p n with
    | some (s,V')=>.val (.str s) V'
    | none=>.err 29
   | _=>.err 30
  | _=>.err 15
 | .convert src dst x=>match ev x with
  | some v=>mh P V src dst v
  | none=>.err 23
 | .panic x=>match ev x with
  | some (.iface t v)=>.kG (.iface t v) V
  | _=>.err 32
 | _=>.err 16
variable {vs:List Y} {z:Value}
section
variable {P:Program} {U:Ren} {V:D} {w:World}
theorem D.nW (V:D) (b:Pos) (o o':cd):(V.setObj b o).setObj b o'=V.setObj b o':=by
 simp[D.setObj,PT.RZ]
theorem D.mH (V:D) (b:Pos) (o:cd):(V.setObj b o).m.get b=some o:=PT.dR _ _ _
theorem oO {b:Pos} {l:Loc} {e:Nat} (hl:U b=some l):∀(vs:List Y) (xs:List Value) (cells:List Y) (off i:Nat) (V:D) (w:World),Inv U V w->V.m.get b=some (.row cells e false)->di U vs xs->cg vs=true->
  off+i+vs.length<=cells.length->∀σ₀:D,V=σ₀.setObj b (.row cells e false)->
  ∃w',(storeCells ⟨l.de,l.sh+off,none⟩ xs i).run P w= .ok () w'/\Inv U (σ₀.setObj b (.row (ic cells (off+i) vs) e false)) w'/\eH U V w U (σ₀.setObj b (.row (ic cells (off+i) vs) e false)) w'
 | [],xs,cells,off,i,V,w,hi,hb,hv,_,_,σ₀,hσ=>by
  rw[hv.dX];subst hσ;exact⟨w,by simp[storeCells],hi,eH.refl _ _ _⟩
 | v::vs,xs,cells,off,i,V,w,hi,hb,hv,u,hlen,σ₀,hσ=>by
  obtain⟨x,r,rfl,h1,L⟩:=hv.cons_inv;have ac:eX v=true:=ma u v (by simp)
  have E:cg vs=true:=by
   grind [cg]
  simp only[zc_] at hlen;obtain⟨F,st⟩:=hi.setCell hb hl (i:=off+i) oM h1;have A:(V.setObj b (.row (cells.set (off+i) v) e false)).m.get b=some (.row (cells.set (off+i) v) e false):=D.mH _ _ _;obtain⟨w',r',inv',st'⟩:=oO hl vs r (cells.set (off+i) v) off (i+1) _ _ F A L E (by simp;omega) σ₀ (by rw[hσ,D.nW]);obtain⟨c,fr,C,am,ao,G,I⟩:=hi.row hb hl;refine⟨w',?_,?_,?_⟩
  ·have K:off+i<cells.length:=by omega
   obtain⟨y,hy,_⟩:=G (off+i) cells[off+i] (gC K);have aa:w.cell? ⟨l.de,l.sh+off+i,none⟩=some y:=by rw[cell?_of_heap C,Nat.add_assoc];exact hy
   have ap:w.frozen? ⟨l.de,l.sh+off+i,none⟩=false:=frozen?_of_heap C _ (I Z _ oM);have ab:(⟨l.de,l.sh+off,none⟩:Addr).add i=⟨l.de,l.sh+off+i,none⟩:=Addr.add_eq _ i Z
   grind [run_store,lO,storeCells,sB_,rA]
  ·simpa [ic,Nat.add_assoc] using inv'
  have:=st.trans st';simpa [ic,Nat.add_assoc] using this
theorem iH (hi:Inv U V w) {b:Pos} {l:Loc} {cells:List Y} {xs:List Value} {off:Nat} (hl:U b=some l) (hb:V.m.get b=some (.row cells e false)) (hv:di U vs xs) (u:cg vs=true)
  (hlen:off+vs.length<=cells.length):
  ∃w',(storeCells ⟨l.de,l.sh+off,none⟩ xs).run P w= .ok () w'/\Inv U (V.setObj b (.row (dp vs cells off) e false)) w'/\eH U V w U (V.setObj b (.row (dp vs cells off) e false)) w':=by
 have A:Inv U (V.setObj b (.row cells e false)) w/\eH U V w U (V.setObj b (.row cells e false)) w:=by
  obtain⟨c,fr,h1,C,h3,E,h5⟩:=hi.row hb hl;exact hi.change hb hl Z Z h1 ⟨c,fr,Z,C,h3,E,h5⟩ (fun _ _=>Z) Z Z Z ⟨Z,nR_ _⟩
 obtain⟨w',r,inv,st⟩:=oO (P:=P) hl vs xs cells off 0 _ w A.1 (D.mH _ _ _) hv u oM V Z;rw[Nat.add_zero,<-kQ vs cells off hlen] at inv st;exact⟨w',r,inv,A.2.trans st⟩
theorem F6 (hi:Inv U V w) {t:TypeId} {x v:Y} {y:Value} {V':D} (h:Aq P V t x v=some V') (hx:VR U x y) (hv:VR U v z):
  ∃w',(Instr.storeAt t y z).run P w= .ok () w'/\Inv U V' w'/\eH U V w U V' w':=by
 unfold Aq at h;split at h
 ·rename_i u1 u2 b off cs u;split at h
  ·rename_i L M cells e j hb hj;simp only[bB] at h;split at h
   ·rename_i hc;cases h;simp only[bA_,Nat.beq_eq,nE_,cC] at hc;obtain⟨⟨F,G⟩,C⟩:=hc;simp only[VR] at hx;obtain⟨l,hl,rfl⟩:=hx;obtain⟨w',r,inv,st⟩:=iH (P:=P) hi hl hb (iG u hv) C (off:=off) oM;refine⟨w',?_,inv,st⟩;have hsz:=ng u hv;simp only[Instr.storeAt,Instr.sureAddr,storeVar,sB_,sP_,rA,cN hj]
    simp_all
   cases h
  ·rename_i L M cells e j hb hj;simp only[bB] at h;split at h
   ·rename_i hc;cases h;simp only[bA_,Nat.beq_eq,nE_,cC] at hc;obtain⟨⟨F,G⟩,C⟩:=hc;simp only[VR] at hx;obtain⟨l,hl,rfl⟩:=hx;obtain⟨h0,I,K⟩:=hi.own hb hl;obtain⟨w',r,inv,st⟩:=iH (P:=P) I hl (D.mH _ _ _) (iG u hv) C (off:=off) oM;rw[D.nW] at inv st;have hlen:(dp cs cells off).length=cells.length:=by rw[kQ _ _ _ oM,sQ]
    obtain⟨A,E⟩:=inv.O0 (D.mH _ _ _) hl Z (fun x hx=>gz.JN ⟨h0.1,by rw[hlen];exact h0.2⟩ hx);rw[D.nW] at A E;refine⟨w',?_,A,(K.trans st).trans E⟩;have hsz:=ng u hv;simp only[Instr.storeAt,Instr.sureAddr,storeVar,sB_,sP_,rA,cN hj]
    simp_all
   cases h
  cases h
 cases h
theorem pI (hi:Inv U V w) {sz n:Nat} {x:Y} {y:Value} (h:lV V sz x=some (n,cs)) (hx:VR U x y):
  (Builtin.lenOf y).run P w= .ok n w/\cs.length=n*sz/\
   ∀k,k<=n->∃xs:List Value,di U (cs.take (k*sz)) xs/\∀w',w'.heap=w.heap->(Builtin.firstCells sz k y).run P w'= .ok xs.toArray w':=by
 unfold lV at h;split at h
 ·cases h;simp only[VR] at hx;subst hx;refine⟨by simp[Builtin.lenOf],by simp,fun k hk=>⟨[],by simpa using di.nil,fun w' _=>by simp[Builtin.firstCells]⟩⟩
 ·rename_i b off len cap;split at h
  ·rename_i cells e ro hb;simp only[bB] at h;split at h
   ·rename_i hle;cases h;rw[nE_,cC] at hle
    have full:∀(a:Addr) (c:Nat) (l:Loc),U b=some l->y= .slice (some a) n c->(a=⟨l.de,l.sh+off,none⟩∨n=0)->
      (Builtin.lenOf y).run P w= .ok n w/\(takeN (dZ cells off) (n*sz)).length=n*sz/\
       ∀k,k<=n->∃xs:List Value,di U ((takeN (dZ cells off) (n*sz)).take (k*sz)) xs/\∀w',w'.heap=w.heap->(Builtin.firstCells sz k y).run P w'= .ok xs.toArray w':=by
     intro a c l hl hy F;subst hy;refine⟨by simp[Builtin.lenOf],by rw[dT,eB,lT_,lD_];omega,fun k hk=>?_⟩;have C:k*sz<=n*sz:=nM_ _ hk;rw[dT,eB,List.take_take,Nat.min_eq_left C];rcases F with rfl | rfl
     ·obtain⟨ys,h1,h2,h3⟩:=hi.piece hb hl off (k*sz) oM
      grind [run_firstCells_some,World.cell?]
     have E:k=0:=by omega
     subst E;refine⟨[],by simpa using di.nil,fun w' aa=>?_⟩
     grind [run_firstCells_some]
    cases cap with
    | known c=>
     simp only[VR] at hx
     grind
    | least a s=>
     simp only[VR] at hx
     grind
    | upto s=>
     simp only[VR] at hx
     grind
   cases h
  cases h
 ·rename_i s;simp only[bB] at h;split at h
  ·rename_i u;rw[Nat.beq_eq] at u;subst u;cases h;simp only[VR] at hx;obtain⟨bs,rfl,A⟩:=hx;rw[jx A,lP];unfold gQ at A;refine⟨by simp[Builtin.lenOf],by rw[<-A];simp,fun k hk=>?_⟩;refine⟨(bs.data.toList.take k).map fun b=>Value.int .u8 b.toNat,?_,fun w' _=>?_⟩
   ·rw[<-A,List.map_map,<-List.map_take,Nat.mul_one];generalize (bs.data.toList.take k)=l;induction l with
    | nil=>exact di.nil
    | cons c l ih=>exact di.cons (by simp only[VR];rfl) ih
   simp only[Builtin.firstCells,sP_];congr 1;apply Array.toList_inj.1
   simp_all
  cases h
 cases h
end
variable {news olds:List Value} {sCap sLen:Nat} {base:Option Addr} {yx:Value}
section
variable {P:Program} {U:Ren} {V:D} {w:World}
theorem Lu (l:List α) (k:Nat) (v:α) (vs:List α) (hk:k<l.length):
  (l.set k v).take (k+1)++vs++(l.set k v).drop (k+1+vs.length)=l.take k++(v::vs)++l.drop (k+(vs.length+1)):=by
 grind [List.drop_set_of_lt,List.take_succ_eq_append_getElem,List.take_set_of_le]
theorem mS {g o e:Nat} {fr:Nat×Nat}:∀(vs:List Value) (cur:Array Value) (i:Nat) (w:World),w.heap[g]? =some (.cells cur e fr)->o+i+vs.length<=cur.size->(∀v∈vs,v.oneCell'=true)->
  (∀j,o<=j->¬(fr.1<=j/\j<fr.2))->
  ∃w',(storeCells ⟨g,o,none⟩ vs i).run P w= .ok () w'/\w'.heap[g]? =some (.cells (cur.toList.take (o+i)++vs++cur.toList.drop (o+i+vs.length)).toArray e fr)/\
   (∀r,r≠g->w'.heap[r]? =w.heap[r]?)/\w'.heap.size=w.heap.size/\w'.tape=w.tape/\w'.os=w.os/\(w'.output=w.output/\w.drawn<=w'.drawn)
 | [],cur,i,w,C,_,_,_=>by
  refine⟨w,by simp[storeCells],?_,fun _ _=>Z,Z,Z,Z,Z,nR_ _⟩;simpa using C
 | v::vs,cur,i,w,C,hl,h1,hf=>by
  simp only[zc_] at hl;have E:o+i<cur.size:=by omega
  have aa:(⟨g,o,none⟩:Addr).add i=⟨g,o+i,none⟩:=Addr.add_eq _ i Z;have A:w.cell? ⟨g,o+i,none⟩=some cur[o+i]:=by rw[cell?_of_heap C];simp[E]
  have F:w.frozen? ⟨g,o+i,none⟩=false:=frozen?_of_heap C _ (hf _ oM)
  have O:(store ⟨g,o+i,none⟩ v).run P w= .ok () (w.setCell ⟨g,o+i,none⟩ v):=by
   rw[run_store P w _ v _<|h1 v (by simp),A];simp[F]
  obtain⟨w',r,q1,q2,q3,q4,q5,I⟩:=mS vs (cur.setIfInBounds (o+i) v) (i+1) _ (heap_setCell_same C (o+i) v) (by simp;omega) (fun u hu=>h1 u (by simp[hu])) hf;refine⟨w',?_,?_,fun r G=>(q2 r G).trans (heap_setCell_other w _ v G),by rw[q3];simp,q4,q5,I⟩
  ·grind [storeCells,sB_,rA]
  grind [Lu]
theorem run_append_fits {t ty e:TypeId} {j:TypeInfo} (G:ts[0]? =some t) (hu:P.underlying t=some (.slice e)) (hj:P.info? e=some j) (F:dN P ts[1]? =true)
  {n:Nat} {y:Value} (hlen:(Builtin.lenOf y).run P w= .ok n w) (A:(Builtin.firstCells j.size n y).run P w= .ok news.toArray w) (C:sLen+n<=sCap):
  (Builtin.append_ ts ty #[.slice base sLen sCap,y]).run P w=
   (Sem.run P (match base with | some a=>storeCells (a.add (sLen*j.size)) news | none=>pure ():Sem Unit) w).andThen fun _ w'=>.ok (.slice base (sLen+n) sCap) w':=by
 unfold dN at F;cases h1:ts[1]? with
 | none=>
  cases base<;>simp[Builtin.append_,G,h1,run_underlying hu,cN hj,hlen,C,A]
 | some u=>
  rw[h1] at F;dsimp only at F;split at F
  ·rename_i e' E;cases base<;>simp[Builtin.append_,G,h1,run_underlying hu,run_underlying E,cN hj,hlen,C,A]
  ·rename_i E;cases base<;>simp[Builtin.append_,G,h1,run_underlying hu,run_underlying E,cN hj,hlen,C,A]
  cases F
theorem nQ {t ty e:TypeId} {j:TypeInfo} (C:ts[0]? =some t) (hu:P.underlying t=some (.slice e)) (hj:P.info? e=some j) (E:dN P ts[1]? =true)
  {de o:Nat} {n:Nat} {y:Value} (hlen:(Builtin.lenOf y).run P w= .ok n w) (u:(Builtin.firstCells j.size n y).run P w= .ok news.toArray w) (A:sLen+n<=sCap):
  (Builtin.append_ ts ty #[.slice (some ⟨de,o,none⟩) sLen sCap,y]).run P w=
   (Sem.run P (storeCells ⟨de,o+sLen*j.size,none⟩ news) w).andThen fun _ w'=>.ok (.slice (some ⟨de,o,none⟩) (sLen+n) sCap) w':=by
 rw[run_append_fits C hu hj E hlen u A];show(Sem.run P (storeCells ((⟨de,o,none⟩:Addr).add (sLen*j.size)) news) w).andThen _=_;rw[Addr.add_eq _ _ Z]
theorem lB {t ty e:TypeId} {j:TypeInfo} (L:ts[0]? =some t) (hu:P.underlying t=some (.slice e)) (hj:P.info? e=some j) (hzero:j.zero=some z) (K:dN P ts[1]? =true)
  {n:Nat} {y:Value} (hlen:(Builtin.lenOf y).run P w= .ok n w) (A:(Builtin.firstCells j.size n y).run P w.drew= .ok news.toArray w.drew)
  (hold:(Builtin.firstCells j.size sLen (.slice base sLen sCap)).run P w.drew= .ok olds.toArray w.drew) (F:sCap<sLen+n) (M:sLen+n<=4194304) (N:j.bytes<=65536) (aa:1<=j.size):
  ∃cap,sLen+n<=cap/\(Builtin.append_ ts ty #[.slice base sLen sCap,y]).run P w=
   .ok (.slice (some ⟨w.heap.size,0,none⟩) (sLen+n) cap) (w.drew.alloc (.cells (olds.toArray++news.toArray++Builtin.zeroCells z.cells (cap-(sLen+n))) e)):=by
 refine⟨grownCap w (sLen+n) sCap e,grownCap_ge _ _ _ _,?_⟩
 have ab:Builtin.nextslicecap (sLen+n) sCap*j.bytes<=281474976710656:=growslice_fits F (by
  have:(sLen+n)*j.bytes<=4194304*65536:=Nat.mul_le_mul M N;omega)
 have hn:¬(sLen+n<=sCap):=by omega
 have C:IntKind.i64.max=9223372036854775807:=by decide
 have h1:¬(9223372036854775807<((sLen:Int)+(n:Int))):=by omega
 have G:¬(281474976710656<Builtin.nextslicecap (sLen+n) sCap*j.bytes):=by omega
 rw[Array.append_assoc];unfold dN at K;cases E:ts[1]? with
 | none=>
  simp[Builtin.append_,L,E,run_underlying hu,cN hj,typeInfo,hj,hlen,hn,C,h1,G,hold,A,zeroValue,hzero,newRow,Question.forced,grownCap]
 | some u=>
  rw[E] at K;dsimp only at K;split at K
  ·rename_i e' I;simp[Builtin.append_,L,E,run_underlying hu,run_underlying I,cN hj,typeInfo,hj,hlen,hn,C,h1,G,hold,A,zeroValue,hzero,newRow,Question.forced,grownCap]
  ·rename_i I;simp[Builtin.append_,L,E,run_underlying hu,run_underlying I,cN hj,typeInfo,hj,hlen,hn,C,h1,G,hold,A,zeroValue,hzero,newRow,Question.forced,grownCap]
  cases K
theorem mI (hi:Inv U V w) {sz len:Nat} (hc:di U cs (olds++news)) (hlen:cs.length=len*sz) (u:len<=cap) (A:z.cells.size=sz):
  Inv (U.with V.next ⟨w.heap.size,0,cap*sz⟩) (V.alloc (.row cs e false)) (w.drew.alloc (.cells (olds.toArray++news.toArray++Builtin.zeroCells z.cells (cap-len)) e))/\
  eH U V w (U.with V.next ⟨w.heap.size,0,cap*sz⟩) (V.alloc (.row cs e false)) (w.drew.alloc (.cells (olds.toArray++news.toArray++Builtin.zeroCells z.cells (cap-len)) e))/\
  VR (U.with V.next ⟨w.heap.size,0,cap*sz⟩) (.slice V.next 0 len (.upto sz)) (.slice (some ⟨w.heap.size,0,none⟩) len cap):=by
 have hlen2:=hc.length;rw[hlen] at hlen2;have hle:len*sz<=cap*sz:=nM_ _ u
 have C:gz U ⟨w.heap.size,0,cap*sz⟩ (.row cs e false) (.cells (olds.toArray++news.toArray++Builtin.zeroCells z.cells (cap-len)) e):=by
  refine⟨_,_,Z,?_,by rw[hlen];exact hle,fun i v hv=>?_,fun _ j _ hj=>by simp at hj⟩
  ·have h1:olds.length+news.length=len*sz:=by simpa using hlen2
   simp only[Array.size_append,List.size_toArray,size_zeroCells,A,Nat.sub_mul,nA_];omega
  obtain⟨y,h1,h2⟩:=hc.get hv
  grind
 obtain⟨inv,st⟩:=(hi.drew).alloc (l:=⟨w.heap.size,0,cap*sz⟩) Z C;refine⟨inv,(eH.drew U V w).trans st,?_⟩;simp only[VR];exact⟨_,Ren.cU _ _ _,.inl ⟨cap,Z,u,by simp⟩⟩
theorem CS (hi:Inv U V w) {ty:TypeId} {s x v:Y} {ys:Value} {V':D} (h:fI P V ts s x= .val v V') (W:VR U s ys) (hx:VR U x yx):
  ∃z w' U',(Builtin.append_ ts ty #[ys,yx]).run P w= .ok z w'/\VR U' v z/\Inv U' V' w'/\eH U V w U' V' w':=by
 unfold fI at h;cases R:ts[0]? with
 | none=>rw[R] at h;cases h
 | some t=>
 rw[R] at h;dsimp only at h;split at h
 case h_2=>cases h
 rename_i e hu;cases hj:P.info? e with
 | none=>rw[hj] at h;cases h
 | some j=>
 rw[hj] at h;simp only[bB] at h;split at h
 case isFalse=>cases h
 rename_i hb;simp only[bA_,nE_] at hb;obtain⟨⟨X,aa⟩,aq⟩:=hb;cases ap:lV V j.size x with
 | none=>simp_all
 | some p=>
 obtain⟨n,news⟩:=p;rw[ap] at h;dsimp only at h;split at h
 case isFalse=>cases h
 rename_i a2;simp only[bA_,nE_] at a2;obtain⟨⟨L,bR⟩,hzero⟩:=a2
 obtain⟨zv,ar,F⟩:∃zv,j.zero=some zv/\zv.cells.size=j.size:=by
  simp only[Option.any_some,Option.any_eq_true] at hzero;obtain⟨z,a3,cs,bc,a4⟩:=hzero;cases bd:j.zero with
  | none=>simp_all
  | some zv=>
   rw[bd] at a3;refine⟨zv,Z,?_⟩;rw[Nat.beq_eq,cC] at a4;rw[<-a4];exact ng bc<|qN (U:=U) a3
 obtain⟨C,M,ab⟩:=pI (P:=P) hi ap hx;obtain⟨xs,K,T⟩:=ab n (nR_ _);rw[<-M,List.take_length] at K;have ax:xs.length=n*j.size:=by rw[K.length,M]
 have hrun0:=T w Z;have hrund:=T w.drew Z;split at h
 ·
  simp only[VR] at W;subst W;split at h
  ·rename_i G;rw[Nat.beq_eq] at G;cases h;subst G;refine⟨.slice none 0 0,w,U,?_,by simp only[VR],hi,eH.refl _ _ _⟩;have:=run_append_fits (w:=w) (ty:=ty) (base:=none) (sLen:=0) (sCap:=0) R hu hj X C hrun0 (nR_ _);rw[this];rfl
  rename_i G;cases h
  have hn:0<n:=by
   grind [Nat.beq_eq]
  obtain⟨cap,I,hr⟩:=lB (w:=w) (ty:=ty) (base:=none) (sLen:=0) (sCap:=0) (olds:=[]) R hu hj ar X C hrund (by simp[Builtin.firstCells]) oM oM aq aa;rw[nA_] at I hr;obtain⟨inv,st,hv⟩:=mI (e:=e) hi (olds:=[]) (news:=xs) (by simpa using K) M I F
  grind
 ·
  rename_i b off len c;simp only[VR] at W;obtain⟨l,hl,rfl⟩:=W;split at h
  ·rename_i E;rw[nE_] at E;have hr:=nQ (w:=w) (ty:=ty) (de:=l.de) (o:=l.sh+off) R hu hj X C hrun0 E;split at h
   ·rename_i cells e' hb;split at h
    ·rename_i A;rw[nE_,cC,cC] at A;cases h;obtain⟨w',r,inv,st⟩:=iH (P:=P) hi hl hb K L (off:=off+len*j.size) oM;refine⟨.slice (some ⟨l.de,l.sh+off,none⟩) (len+n) c,w',U,?_,?_,inv,st⟩
     ·rw[hr,Nat.add_assoc,r];rfl
     simp only[VR];simp_all
    cases h
   split at h
   ·rename_i G;rw[Nat.beq_eq] at G;cases h;subst G;refine⟨.slice (some ⟨l.de,l.sh+off,none⟩) len c,w,U,?_,?_,hi,eH.refl _ _ _⟩
    ·have aE:xs= []:=eN_ oM;rw[hr,aE];simp[storeCells]
    simp only[VR];simp_all
   cases h
  rename_i E;rw[nE_] at E;split at h
  ·rename_i cells e' ro hb;split at h
   ·rename_i A;simp only[bA_,nE_,cC] at A;obtain⟨A,ac⟩:=A;unfold grow at h;cases h;obtain⟨ys,h1,h2,h3⟩:=hi.piece hb hl off (len*j.size) A
    have hold:(Builtin.firstCells j.size len (.slice (some ⟨l.de,l.sh+off,none⟩) len c)).run P w.drew= .ok ys.toArray w.drew:=
     run_firstCells_some w.drew j.size len _ len c ys h1 (fun i v hv=>by simpa using h3 i v hv)
    obtain⟨cap,I,hr⟩:=lB (w:=w) (ty:=ty) R hu hj ar X C hrund hold oM oM aq aa
    obtain⟨inv,st,hv⟩:=mI (e:=e) hi (olds:=ys) (news:=xs) (len:=len+n) (cs:=gV (takeN (dZ cells off) (len*j.size)) news)
     (by rw[dU,dT,eB];exact h2.append K) (by grind [dU,dT,eB]) I F
    grind
   cases h
  cases h
 ·
  rename_i b off len sz;split at h
  ·rename_i G;rw[Nat.beq_eq] at G;cases h;subst G;have aE:xs= []:=eN_ oM;subst aE;have hs':=W;simp only[VR] at hs';obtain⟨l,hl,⟨c,hy,hc,_⟩ | ⟨h0,a,hy⟩⟩:=hs'
   ·refine⟨ys,w,U,?_,W,hi,eH.refl _ _ _⟩;rw[hy,run_append_fits (w:=w) (ty:=ty) R hu hj X C hrun0 oM];simp[storeCells]
   refine⟨ys,w,U,?_,W,hi,eH.refl _ _ _⟩;subst h0;rw[hy,run_append_fits (w:=w) (ty:=ty) R hu hj X C hrun0 oM];simp[storeCells]
  rename_i G
  have hn:0<n:=by
   grind [Nat.beq_eq]
  split at h
  ·rename_i Q;simp only[bA_,Nat.beq_eq,nE_] at Q;obtain⟨Q,ac⟩:=Q;subst Q;simp only[VR] at W;split at h
   ·rename_i cells e' hb;split at h
    ·
     rename_i A;simp only[bA_,nE_,cC] at A;obtain⟨bS,A⟩:=A;cases h;obtain⟨l,hl,⟨c,rfl,hc,am⟩ | ⟨h0,_⟩⟩:=W
     ·obtain⟨cc,fr,_,_,be,_⟩:=hi.row hb hl
      have E:len+n<=c:=by
       have:(len+n)*j.size<=c*j.size:=by grind
       exact Nat.le_of_mul_le_mul_right this aa
      have hr:=nQ (w:=w) (ty:=ty) (de:=l.de) (o:=l.sh+off) R hu hj X C hrun0 E;obtain⟨w',r,inv,st⟩:=iH (P:=P) hi hl hb K L (off:=off+len*j.size) oM;refine⟨.slice (some ⟨l.de,l.sh+off,none⟩) (len+n) c,w',U,?_,?_,inv,st⟩
      ·rw[hr,Nat.add_assoc,r];rfl
      simp only[VR];simp_all
     omega
    split at h
    ·
     rename_i A;simp only[bA_,nE_,Nat.beq_eq,cC] at A;obtain⟨A,he⟩:=A;subst he;unfold grow at h;cases h;obtain⟨l,hl,a0⟩:=W;obtain⟨olds,h1,h2,h3⟩:=hi.piece hb hl off (len*j.size) A;have a5:di U (gV (takeN (dZ cells off) (len*j.size)) news) (olds++xs):=by rw[dU,dT,eB];exact h2.append K
     have bf:(gV (takeN (dZ cells off) (len*j.size)) news).length=(len+n)*j.size:=by
      grind [dU,dT,eB]
     have anew:∀(a:Addr) (c:Nat),ys= .slice (some a) len c->c<len+n->(a=⟨l.de,l.sh+off,none⟩∨len=0)->
       ∃z w' U',(Builtin.append_ ts ty #[ys,yx]).run P w= .ok z w'/\VR U' (.slice (V.drop b).next 0 (len+n) (.upto j.size)) z/\
        Inv U' ((V.drop b).alloc (.row (gV (takeN (dZ cells off) (len*j.size)) news) e' false)) w'/\eH U V w U' ((V.drop b).alloc (.row (gV (takeN (dZ cells off) (len*j.size)) news) e' false)) w':=by
      intro a c hy bY ha;subst hy
      have hold:(Builtin.firstCells j.size len (.slice (some a) len c)).run P w.drew= .ok olds.toArray w.drew:=by
       rcases ha with rfl | rfl
       ·exact run_firstCells_some w.drew j.size len _ len c olds h1 (fun i v hv=>by simpa using h3 i v hv)
       have:olds= []:=eN_ (by rw[h1,Nat.zero_mul])
       grind [run_firstCells_some]
      obtain⟨cap,I,hr⟩:=lB (w:=w) (ty:=ty) R hu hj ar X C hrund hold oM oM aq aa;obtain⟨bg,st'⟩:=hi.forget b;obtain⟨inv,st,hv⟩:=mI (e:=e') bg (olds:=olds) (news:=xs) (len:=len+n) a5 bf I F;exact⟨_,_,_,hr,hv,inv,st'.trans st⟩
     rcases a0 with ⟨c,hy,hc,am⟩ | ⟨h0,a,hy⟩
     ·by_cases E:len+n<=c
      ·
       subst hy;have hr:=nQ (w:=w) (ty:=ty) (de:=l.de) (o:=l.sh+off) R hu hj X C hrun0 E;obtain⟨cc,fr,a9,bi,be,b0,ba⟩:=hi.row hb hl;have hmul:(len+n)*j.size<=c*j.size:=nM_ _ E;have bl:(len+n)*j.size=len*j.size+n*j.size:=Nat.add_mul _ _ _
       have O:=mS (P:=P) (o:=l.sh+off+len*j.size) xs cc 0 w a9 oM (fun u hu=>by
        obtain⟨i,bm,bo⟩:=List.getElem_of_mem hu;have ao:i<news.length:=by omega
        obtain⟨y,N,a1⟩:=K.get (gC ao);rw[gC bm,bo] at N;cases N;exact lO (ma L _<|List.getElem_mem ao) a1) (fun jj bp=>ba Z jj oM)
       obtain⟨w',r,bs,bt,bv,bw,bE,bF⟩:=O
       have inv:=hi.Dz (l':=⟨l.de,l.sh+off,l.cells-off⟩) (cells':=gV (takeN (dZ cells off) (len*j.size)) news) hb hl Z bs
        ⟨_,fr,Z,by simp[bi];omega,by grind,fun i v hv=>by
         obtain⟨y,N,a1⟩:=a5.get hv;refine⟨y,?_,a1⟩;rw[List.getElem?_toArray];dsimp only;have bb:cc.toList.length=l.sh+l.cells:=by omega
         have ao:i<(olds++xs).length:=(gA.1 N).1;rw[lA_,h1,ax] at ao
         by_cases bM:i<len*j.size
         ·rw[gL_ (by rw[h1];exact bM)] at N;have:=h3 i y N;rw[Addr.add_eq _ _ Z,cell?_of_heap a9] at this;rw[lQ_,gL_ (by grind),List.getElem?_take,if_pos oM,aT_];exact this
         rw[gR_ (by rw[h1];omega),h1] at N;rw[lQ_,gR_ (by grind),lT_,bb]
         grind,fun _ jj bp=>ba Z jj (by grind)⟩
        bt bv bw bE bF
       refine⟨.slice (some ⟨l.de,l.sh+off,none⟩) (len+n) c,w',_,?_,?_,inv.1,inv.2⟩
       ·rw[hr,r];rfl
       simp only[VR,D.drop];refine⟨_,Ren.cU _ _ _,.inl ⟨c,by simp,E,?_⟩⟩;simp only;omega
      simp_all
     simp_all
    cases h
   cases h
  cases h
 cases h
theorem oJ {t T ty e:TypeId} {k:IntKind} {j:TypeInfo} (W:ts[0]? =some t) (hu:P.underlying t=some (.slice e)) (hj:P.info? e=some j) (hzero:j.zero=some z) (K:ts[1]? =some T) (X:P.underlying T=some (.int k))
  {n:Nat} 
  (hold:(Builtin.firstCells j.size sLen (.slice base sLen sCap)).run P w.drew= .ok olds.toArray w.drew) (u:sCap<sLen+n) (L:sLen+n<=4194304) (A:n<=1048576) (M:1<=n) (C:j.bytes<=65536) (E:1<=j.size):
  ∃cap,sLen+n<=cap/\(Builtin.append_ ts ty #[.slice base sLen sCap,.int .i64<|Int.ofNat n]).run P w=
   .ok (.slice (some ⟨w.heap.size,0,none⟩) (sLen+n) cap) (w.drew.alloc (.cells (olds.toArray++(Builtin.zeroCells z.cells n).toList.toArray++Builtin.zeroCells z.cells (cap-(sLen+n))) e)):=by
 refine⟨grownCap w (sLen+n) sCap e,grownCap_ge _ _ _ _,?_⟩
 have aa:Builtin.nextslicecap (sLen+n) sCap*j.bytes<=281474976710656:=growslice_fits u (by
  have:(sLen+n)*j.bytes<=4194304*65536:=Nat.mul_le_mul L C;omega)
 have hn:¬(sLen+n<=sCap):=by omega
 have F:IntKind.i64.max=9223372036854775807:=by decide
 have h1:¬(9223372036854775807<((sLen:Int)+(n:Int))):=by omega
 have N:¬(281474976710656<Builtin.nextslicecap (sLen+n) sCap*j.bytes):=by omega
 have hw:IntKind.i64.wrap (n:Int)=(n:Int):=xm .i64 (Int.ofNat n) (by simp only[SZ,nE_];omega);have G:¬((n:Int)<0):=by omega
 have I:¬(281474976710656<(n:Int)*(j.bytes:Int)):=by
  have:n*j.bytes<=1048576*65536:=Nat.mul_le_mul A C;omega
 have Q:¬(n*j.size=0):=by
  have:1*1<=n*j.size:=Nat.mul_le_mul M E;omega
 have R:¬(n=0∨j.size=0):=by omega
 rw[Array.append_assoc];simp[Builtin.append_,W,K,run_underlying hu,run_underlying X,cN hj,typeInfo,hj,asInt,asIntOf,hw,G,I,hn,F,h1,N,hold,Q,R,zeroValue,hzero,newRow,Question.forced,grownCap]
theorem AL (hi:Inv U V w) {ty:TypeId} {s x v:Y} {ys:Value} {V':D} (h:rC P V ts s x= .val v V') (T:VR U s ys) (hx:VR U x yx):
  ∃z w' U',(Builtin.append_ ts ty #[ys,yx]).run P w= .ok z w'/\VR U' v z/\Inv U' V' w'/\eH U V w U' V' w':=by
 unfold rC at h;split at h
 case h_2=>cases h
 rename_i t t2 ht K;split at h
 case h_2=>cases h
 rename_i e k hu hz;split at h
 case h_2=>cases h
 rename_i j zs n hj W;rw[bB] at h;split at h
 case isFalse=>cases h
 rename_i hb;simp only[bA_,nE_,Nat.beq_eq,cC] at hb;obtain⟨E,L,F,M,I⟩:=hb;obtain⟨i,zv,N,hzero,Q⟩:=ga W;rw[hj] at N;cases N;have G:zv.cells.size=zs.length:=by have:=(Q U).length;simpa using this
 have hts:=jT (Q U) n
 have C:(Builtin.zeroCells zv.cells n).toList=(List.replicate n zv.cells.toList).flatten:=by
  grind [xQ,Builtin.zeroCells]
 rw[<-C] at hts;have X:(ew zs n).length=n*j.size:=by rw[sR,I]
 simp only[VR] at hx;subst hx;split at h
 ·simp only[VR] at T;subst T;unfold grow at h;cases h;obtain⟨cap,A,hr⟩:=oJ (w:=w) (ty:=ty) (base:=none) (sLen:=0) (sCap:=0) (olds:=[]) ht hu hj hzero K hz (by simp[Builtin.firstCells]) oM oM E L M F;rw[nA_] at A hr;obtain⟨inv,st,hv⟩:=mI (e:=e) hi (olds:=[]) (news:=(Builtin.zeroCells zv.cells n).toList) (by simpa using hts) X A (G.trans I)
  grind
 ·rename_i b off len c;simp only[VR] at T;obtain⟨l,hl,rfl⟩:=T;rw[bB] at h;split at h
  ·cases h
  rename_i R;rw[nE_] at R;split at h
  ·rename_i cells e' ro hb;rw[bB] at h;split at h
   ·rename_i u;simp only[bA_,nE_,cC] at u;obtain⟨u,aa⟩:=u;unfold grow at h;cases h;obtain⟨ys,h1,h2,h3⟩:=hi.piece hb hl off (len*j.size) u
    have hold:(Builtin.firstCells j.size len (.slice (some ⟨l.de,l.sh+off,none⟩) len c)).run P w.drew= .ok ys.toArray w.drew:=
     run_firstCells_some w.drew j.size len _ len c ys h1 (fun i v hv=>by simpa using h3 i v hv)
    obtain⟨cap,A,hr⟩:=oJ (w:=w) (ty:=ty) ht hu hj hzero K hz hold oM oM E L M F
    obtain⟨inv,st,hv⟩:=mI (e:=e) hi (olds:=ys) (news:=(Builtin.zeroCells zv.cells n).toList) (len:=len+n) (cs:=gV (takeN (dZ cells off) (len*j.size))<|ew zs n)
     (by rw[dU,dT,eB];exact h2.append hts) (by grind [dU,dT,eB]) A<|G.trans I
    grind
   cases h
  cases h
 cases h
end
variable {xs:Array Value}
section
variable {P:Program} {U:Ren} {V:D} {w:World}
theorem yg:∀{l:List Y},(∀v∈l,eX v=true)->cg l=true
 | [],_=>rfl
 | x::l,h=>by
  show(bif eX x then cg l else false)=true;rw[h x (by simp),yg fun v hv=>h v (by simp[hv])];rfl
theorem GX (hi:Inv U V w) {ty:TypeId} {s x v:Y} {ys:Value} {V':D} (h:wG P V ts s x= .val v V') (M:VR U s ys) (hx:VR U x yx):
  ∃z w' U',(Builtin.copy_ ts ty #[ys,yx]).run P w= .ok z w'/\VR U' v z/\Inv U' V' w'/\eH U V w U' V' w':=by
 unfold wG at h;cases L:ts[0]? with
 | none=>rw[L] at h;cases h
 | some t=>
 rw[L] at h;dsimp only at h;split at h
 case h_2=>cases h
 rename_i e hu;cases hj:P.info? e with
 | none=>rw[hj] at h;cases h
 | some j=>
 rw[hj] at h;dsimp only at h;split at h
 ·rename_i n news b off len cap E;obtain⟨u,K,C⟩:=pI (P:=P) hi E hx;obtain⟨xs,I,A⟩:=C (Nat.min n len) (Nat.min_le_left _ _);simp only[bB] at h;split at h
  ·rename_i h0;rw[Nat.beq_eq] at h0;cases h;rw[h0,Nat.zero_mul] at I;rw[h0] at A;have N:xs= []:=by have:=I.length;simpa using this
   subst N;obtain⟨a,c,rfl⟩:=VR.jt M;have hr:=A w Z;refine⟨.int .i64 0,w,U,?_,by simp only[VR],hi,eH.refl _ _ _⟩;simp[Builtin.copy_,L,run_underlying hu,u,cN hj,h0,hr,goInt,storeCells]
  rename_i h0;rw[Nat.beq_eq] at h0;split at h
  ·rename_i cells e' hb;split at h
   ·rename_i hc;simp only[bA_,nE_,cC] at hc;obtain⟨⟨F,aa⟩,G⟩:=hc;cases h;rw[dT] at G F
    have go:∀(l:Loc) (c:Nat),U b=some l->ys= .slice (some ⟨l.de,l.sh+off,none⟩) len c->
      ∃z w' U',(Builtin.copy_ ts ty #[ys,yx]).run P w= .ok z w'/\VR U' (.int .i64<|Int.ofNat<|Nat.min n len) z/\
       Inv U' (V.setObj b (.row (dp (takeN news (Nat.min n len*j.size)) cells off) e' false)) w'/\eH U V w U' (V.setObj b (.row (dp (takeN news (Nat.min n len*j.size)) cells off) e' false)) w':=by
     intro l c hl hy;rw[dT];obtain⟨w',r,inv,st⟩:=iH (P:=P) hi hl hb I F (off:=off) G;refine⟨.int .i64<|Int.ofNat<|Nat.min n len,w',U,?_,by simp only[VR],inv,st⟩;subst hy;have hr:=A w Z;simp[Builtin.copy_,L,run_underlying hu,u,cN hj,hr,r,goInt]
    cases cap with
    | known c=>
     grind [VR]
    | least a sz=>
     grind [VR]
    | upto sz=>
     grind [VR]
   cases h
  cases h
 ·rename_i n news E;cases h;obtain⟨u,K,C⟩:=pI (P:=P) hi E hx;obtain⟨xs,I,A⟩:=C 0 (Nat.zero_le _);simp only[VR] at M;subst M;refine⟨.int .i64 0,w,U,?_,by simp only[VR],hi,eH.refl _ _ _⟩;have hr:=A w Z;simp[Builtin.copy_,L,run_underlying hu,u,cN hj,hr,goInt]
 cases h
theorem EH (hi:Inv U V w) {ty:TypeId} {x:Y} {ys:Value} {V':D} (h:vG P V ts x=some V') (E:VR U x ys):
  ∃w',(Builtin.clear_ ts ty #[ys]).run P w= .ok (.tuple #[]) w'/\Inv U V' w'/\eH U V w U V' w':=by
 unfold vG at h;cases F:ts[0]? with
 | none=>rw[F] at h;cases h
 | some t=>
 rw[F] at h;dsimp only at h;cases hu:P.underlying t with
 | none=>rw[hu] at h;cases h
 | some d=>
 rw[hu] at h;cases d with
 | slice e=>
  dsimp only at h;cases x with
  | aw=>
   cases h;simp only[VR] at E;subst E;exact⟨w,by simp[Builtin.clear_,F,run_underlying hu],hi,eH.refl _ _ _⟩
  | slice b off len cap=>
   dsimp only at h;rw[bB] at h;split at h
   ·rename_i h0;have:=nB h0;subst this;cases h;obtain⟨a,c,rfl⟩:=VR.jt E;exact⟨w,by simp[Builtin.clear_,F,run_underlying hu],hi,eH.refl _ _ _⟩
   rename_i h0;rw[Nat.beq_eq] at h0;cases I:(fx P e).bind cE with
   | none=>rw[I] at h;cases h
   | some zs=>
   rw[I] at h;cases hb:V.m.get b with
   | none=>rw[hb] at h;cases h
   | some o=>
   rw[hb] at h;cases o with
   | row cells e' ro=>
    cases ro with
    | true=>cases h
    | false=>
     dsimp only at h;rw[bB] at h;split at h
     ·rename_i hc;simp only[bA_,nE_,cC] at hc;obtain⟨⟨A,aa⟩,C⟩:=hc;cases h;obtain⟨i,zv,K,hzero,G⟩:=ga I;have hts:=jT (G U) len;have ab:zv.cells.size=zs.length:=by have:=(G U).length;simpa using this
      have u:(Builtin.zeroCells zv.cells len).toList=(List.replicate len zv.cells.toList).flatten:=by
       grind [xQ,Builtin.zeroCells]
      have go:∀(l:Loc) (c:Nat),U b=some l->ys= .slice (some ⟨l.de,l.sh+off,none⟩) len c->
        ∃w',(Builtin.clear_ ts ty #[ys]).run P w= .ok (.tuple #[]) w'/\Inv U (V.setObj b (.row (dp (ew zs len) cells off) e' false)) w'/\eH U V w U (V.setObj b (.row (dp (ew zs len) cells off) e' false)) w':=by
       intro l c hl hy;subst hy;obtain⟨w',r,inv,st⟩:=iH (P:=P) hi hl hb hts A C;refine⟨w',?_,inv,st⟩;cases len with
       | zero=>exact absurd Z h0
       | succ n=>simp[Builtin.clear_,F,run_underlying hu,zeroValue,typeInfo,K,hzero,u,r]
      cases cap with
      | known c=>
       simp only[VR] at E
       grind
      | upto sz=>
       simp only[VR] at E
       grind
      | least a sz=>
       simp only[VR] at E
       grind
     cases h
   | _=>cases h
  | _=>cases h
 | _=>cases h
theorem zq {g:Nat} {args:Array Value} (h:lz P g=true):(callFunc g args).run P w= .ok (.enter g args) w:=by
 unfold lz at h;cases hf:P.funcs[g]? with
 | none=>rw[hf] at h;cases h
 | some fn=>
  rw[hf] at h;simp only[bA_,Bool.not_eq_true'] at h;obtain⟨h1,C⟩:=h;have h3:fn.body.isNone=false:=by simp_all
  have u:¬fn.name= "runtime.NumGoroutine" :=by simpa using C
  have A:¬fn.body=none:=by grind
  simp[callFunc,hf,u,A]
inductive AH (P:Program) (U:Ren) (V:D) (w:World):HR->Result Next->Prop
 | val {v:Y} {V':D} {x:Value} {w':World} {U':Ren} (hv:VR U' v x) (hi:Inv U' V' w') (st:eH U V w U' V' w'):AH P U V w (.val v V') (.ok (.value x) w')
 | skip {V':D} {w':World} {U':Ren} (hi:Inv U' V' w') (st:eH U V w U' V' w'):AH P U V w (.skip V') (.ok .skip w')
 | enter {f:Nat} {args:List Y} {xs:Array Value} (hv:di U args xs.toList):AH P U V w (.enter f args V) (.ok (.enter f xs) w)
 | round {l:Pos} {args:List Y} {xs:Array Value} {loc:Loc} {r:Result Next} (hv:di U args xs.toList) (hl:U l=some loc) (hr:r=(Instr.yield loc.de xs).run P w):AH P U V w (.round l args V) r
 | kG {v:Y} {x:Value} (hv:VR U v x):AH P U V w (.kG v V) (.halt (.panic x) w)
def WD (P:Program) (g:Nat):Prop:=∃(fn:Func) (ts tr e:TypeId) (j:TypeInfo),P.funcs[g]? =some fn∧(fn.name == "runtime.NumGoroutine")=false∧fn.body.isNone=true∧Extern.findNext fn=none∧
 Extern.find fn=some (Extern.SlicesOverlaps.overlaps #[ts,ts] #[tr])/\P.underlying ts=some (.slice e)/\P.info? e=some j
def X4 (P:Program) (g:Nat):Prop:=∃(fn:Func),P.funcs[g]? =some fn∧(fn.name == "runtime.NumGoroutine")=false∧fn.body.isNone=true∧Extern.findNext fn=none∧Extern.find fn=some Extern.AbiNoEscape.same
def x8 (P:Program) (g:Nat):Prop:=(isNe P g=false/\WD P g)∨(isNe P g=true/\X4 P g)
theorem pG (p:Pos):uO p p=true:=Nat.beq_refl p
theorem VR.xa {b:Pos} {off len:Nat} {cap:oY} {x:Value} (hc:og cap=true) (h:VR U (.slice b off len cap) x):∃l c,U b=some l/\x= .slice (some ⟨l.de,l.sh+off,none⟩) len c:=by
 cases cap with
 | upto sz=>simp[og] at hc
 | known c=>simp only[VR] at h;grind
 | least a sz=>simp only[VR] at h;grind
theorem zN (hi:Inv U V w) {g:Nat} {args:List Y} {v:Y} (M:WD P g) (h:rT V args=some v) (hx:di U args xs.toList):∃x,(callFunc g xs).run P w= .ok (.value x) w/\VR U v x:=by
 obtain⟨fn,ts,tr,e,j,g1,N,Q,R,T,W,X⟩:=M;unfold rT at h;split at h
 ·rename_i b off n cap b' off' n' cap';split at h
  ·rename_i cells e1 cells' e2 hb u;cases hc:((bif uO b b' then false else true) && (og cap && (og cap' && Nat.ble 1 (dt cells')))) with
   | false=>rw[hc] at h;cases h
   | true=>
    rw[hc] at h;simp only[cond_true,oJ_] at h;subst h;simp only[bA_,nE_,cC] at hc;obtain⟨hne,E,F,hlen⟩:=hc;have A:b≠b':=fun e=>by subst e;rw[pG] at hne;simp at hne
    obtain⟨x1,r,e',h1,h2⟩:=hx.cons_inv;obtain⟨x2,r',rfl,h3,h4⟩:=h2.cons_inv;have:=h4.dX;subst this;obtain⟨l,c,hl,rfl⟩:=VR.xa E h1;obtain⟨l',c',C,rfl⟩:=VR.xa F h3;have G:xs= #[.slice (some ⟨l.de,l.sh+off,none⟩) n c,.slice (some ⟨l'.de,l'.sh+off',none⟩) n' c']:=by grind
    obtain⟨k,fr,I,k2,k3,k4,L⟩:=hi.row hb hl;obtain⟨k',fr',K,aa,ab,ac,am⟩:=hi.row u C
    have hblk:l.de≠l'.de:=fun e=>by
     have:=(hi.inj b b' _ _ l l' hb u hl C e A).1;cases this
    refine⟨.bool false,?_,by simp only[VR]⟩;rw[run_callFunc_extern g1 N Q R T,G]
    rw[Lib.run_overlaps_apart w ts tr e W j.size (fun w=>cN X) ⟨l.de,l.sh+off,none⟩ ⟨l'.de,l'.sh+off',none⟩ n c n' c' hblk e1 e2 k.size k'.size
     (by simp[World.shape?,I]) (by simp[World.shape?,K]) oM (frozen?_of_heap I _<|L Z _ oM) (frozen?_of_heap I _<|L Z _ oM)]
    rfl
  cases h
 cases h
theorem Nh {ov:Nat->Bool} (G:∀g,ov g=true->x8 P g) (hi:Inv U V w) {g:Y} {args:List Y} {y:Value} {r:HR} (h:Bp P ov V g args=r) (hne:∀n,r≠ .err n) (C:VR U g y) (hx:di U args xs.toList):
  AH P U V w r ((do let d <-Deferred.ofValue y xs;invoke d.target d.args:Sem Next).run P w):=by
 subst h;unfold Bp at hne⊢;cases g with
 | func f fi ca=>
  dsimp only at hne⊢;cases F:lz P f with
  | false=>
   rw[F] at hne;simp only[cond_false] at hne⊢;cases K:ov f with
   | false=>simp_all
   | true=>
    rw[K] at hne;simp only[cond_true] at hne⊢;cases hn:isNe P f with
    | true=>
     rw[hn] at hne;simp only[cond_true] at hne⊢;simp only[VR] at C;obtain⟨fi',ca',rfl,u,A⟩:=C;have E:di U (gV fi<|gV args ca) (fi'++xs++ca').toList:=by rw[dU,dU];simpa using u.append (hx.append A)
     generalize gV fi (gV args ca)=l at hne E⊢;cases l with
     | nil=>simp_all
     | cons v r=>
      cases r with
      | cons _ _=>simp_all
      | nil=>
       dsimp only;obtain⟨x,r',e,h1,Q⟩:=E.cons_inv;have:=Q.dX;subst this;have L:fi'++xs++ca'= #[x]:=by simp_all
       rcases G f K with ⟨h',_⟩ | ⟨_,fn,g1,R,T,W,X⟩
       ·simp_all
       have M:(callFunc f (fi'++xs++ca')).run P w= .ok (.value x) w:=by
        rw[run_callFunc_extern g1 R T W X,L,Lib.run_noEscape];rfl
       have:(do let d <-Deferred.ofValue (.func (.func f) fi' ca') xs;invoke d.target d.args:Sem Next).run P w= .ok (.value x) w:=by
        grind [Deferred.ofValue,invoke]
       rw[this];exact .val h1 hi<|eH.refl U V w
    | false=>
    rw[hn] at hne;simp only[cond_false] at hne⊢
    have I:WD P f:=by
     rcases G f K with ⟨_,h'⟩ | ⟨h',_⟩
     ·exact h'
     simp_all
    cases hq:rT V (gV fi<|gV args ca) with
    | none=>simp_all
    | some v=>
     simp only[VR] at C;obtain⟨fi',ca',rfl,u,A⟩:=C;obtain⟨x,M,N⟩:=zN (xs:=fi'++xs++ca') hi I hq (by rw[dU,dU];simpa using u.append (hx.append A))
     have:(do let d <-Deferred.ofValue (.func (.func f) fi' ca') xs;invoke d.target d.args:Sem Next).run P w= .ok (.value x) w:=by
      grind [Deferred.ofValue,invoke]
     rw[this];exact .val N hi<|eH.refl U V w
  | true=>
   rw[F] at hne;simp only[VR] at C;obtain⟨fi',ca',rfl,u,A⟩:=C;simp only[cond_true]
   have:(do let d <-Deferred.ofValue (.func (.func f) fi' ca') xs;invoke d.target d.args:Sem Next).run P w= .ok (.enter f (fi'++xs++ca')) w:=by
    simp[Deferred.ofValue,invoke,zq F]
   rw[this,dU,dU];exact .enter (by simpa using u.append (hx.append A))
 | yield l=>
  dsimp only at hne⊢;simp only[VR] at C;obtain⟨loc,hl,rfl⟩:=C;exact .round hx hl (by simp[Deferred.ofValue,invoke])
 | _=>simp_all
end
variable {es:List eC} {clock:Nat}
section
variable {P:Program} {U:Ren} {V:D} {w:World}
def mP:TypeDesc->Bool
 | .int _ | .string | .bool=>true
 | _=>false
def Kf (P:Program) (u:TypeId):Prop:=(∃d,P.underlying u=some d/\mP d=true)∨(∃gs,P.underlying u=some (.struct gs)/\∀g∈gs.toList,∃d,P.underlying g.type=some d/\mP d=true)∨∃m e,P.underlying u=some (.array m e)/\tv P e=true
theorem qR {t:TypeId} (h:plainKey P t=true):(∃d,P.underlying t=some d/\mP d=true)∨∃fs,P.underlying t=some (.struct fs)/\∀f∈fs.toList,Kf P f.type:=by
 unfold plainKey at h;split at h
 ·rename_i k hu;exact .inl ⟨_,hu,Z⟩
 ·rename_i hu;exact .inl ⟨_,hu,Z⟩
 ·rename_i hu;exact .inl ⟨_,hu,Z⟩
 ·rename_i fs hu;refine .inr ⟨fs,hu,fun f hf=>?_⟩;rw[aE_] at h;have:=h f hf;split at this
  ·rename_i k u;exact .inl ⟨_,u,Z⟩
  ·rename_i u;exact .inl ⟨_,u,Z⟩
  ·rename_i u;exact .inl ⟨_,u,Z⟩
  ·rename_i gs u;refine .inr (.inl ⟨gs,u,fun g C=>?_⟩);rw[aE_] at this;have:=this g C;split at this
   ·rename_i k A;exact⟨_,A,Z⟩
   ·rename_i A;exact⟨_,A,Z⟩
   ·rename_i A;exact⟨_,A,Z⟩
   cases this
  ·rename_i m e u;exact .inr (.inr ⟨m,e,u,this⟩)
  cases this
 cases h
theorem jF {t:TypeId} {d:TypeDesc} (hu:P.underlying t=some d) (u:mP d=true) (em:Bool) (n:Nat) (a:Value):(Instr.checkKey em (n+1) t a).run P w= .ok () w:=by
 simp only[Instr.checkKey,sB_,run_underlying hu,rA];cases d<;>first | (simp[mP] at u;done) | rfl
theorem sy {t:TypeId} (hu:P.underlying t=some (.struct fs)) (em:Bool) (n:Nat)
  (h:∀f∈fs.toList,∃y,(part f.type ys f.offset).run P w= .ok y w/\(Instr.checkKey em (n+1) f.type y).run P w= .ok () w):(Instr.checkKey em (n+1+1) t (.agg ys)).run P w= .ok () w:=by
 rw[Instr.checkKey];simp only[sB_,run_underlying hu,rA];rw[<-Array.forIn_toList];clear hu;generalize fs.toList=l at*;induction l with
 | nil=>simp
 | cons f l ih=>
  obtain⟨y,aa,ab⟩:=h f (by simp)
  simp_all
theorem AN {t e:TypeId} {m:Nat} {cs:Array Value} {i:TypeInfo} {k:IntKind} (hu:P.underlying t=some (.array m e)) (he:P.underlying e=some (.int k)) (hi:P.info? e=some i) (u:i.size=1) (hl:m<=cs.size) (em:Bool) (n:Nat):
  (Instr.checkKey em (n+1+1) t (.agg cs)).run P w= .ok () w:=by
 rw[Instr.checkKey];simp only[sB_,run_underlying hu,rA];simp only[Std.Legacy.Range.forIn_eq_forIn_range',Std.Legacy.Range.size,Nat.sub_zero,Nat.add_one_sub_one,Nat.div_one]
 have key:∀(l:Nat) (s:Nat),s+l<=cs.size->(forIn (List.range' s l) PUnit.unit fun i (_:PUnit)=>(do
   let z <-sizeOf e
   let v <-part e cs (i*z)
   Instr.checkKey em (n+1) e v
   pure (ForInStep.yield PUnit.unit):Sem (ForInStep PUnit))).run P w= .ok PUnit.unit w:=by
  intro l;induction l with
  | zero=>intro s _;simp
  | succ l ih=>
   intro s aa;have hv:cs[s]? =some cs[s]:=aG_ oM
   have p:(part e cs (s*1)).run P w= .ok cs[s] w:=by
    rw[Nat.mul_one];simp only[part,sB_,fp he,Eg,rA,zi_,if_false,hv,sP_]
   simp only[List.range'_succ,List.forIn_cons,sB_,cN hi,u,p,rA,jF he Z,sP_]
   grind
 simp_all
theorem pR {u:TypeId} {d:TypeDesc} (hu:P.underlying u=some d) (F:mP d=true) {xs:List Y} (A:di U xs ys.toList) {off:Nat} (G:(nth xs off).isSome=true):∃y,(part u ys off).run P w= .ok y w:=by
 obtain⟨v,hv⟩:=ze_.1 G;rw[fL] at hv;obtain⟨y,hy,_⟩:=A.get hv;have C:ys[off]? =some y:=by simp_all
 have E:Eg d=false:=by cases d<;>first | rfl | (simp[mP] at F)
 exact⟨y,by simp only[part,sB_,fp hu,E,rA,zi_,if_false,C,sP_]⟩
theorem mj {t:TypeId} {k:Y} {a:Value} (hp:plainKey P t=true) (I:jL P t k=true) (hk:VR U k a) (em:Bool):(Instr.checkKey em 10000 t a).run P w= .ok () w:=by
 rcases qR hp with ⟨d,hu,T⟩ | ⟨fs,hu,L⟩
 ·exact jF hu T em 9999 a
 unfold jL at I;rw[hu] at I;cases k<;>(try (simp at I;done));rename_i xs;dsimp only at I;simp only[VR] at hk;obtain⟨ys,rfl,E⟩:=hk;refine sy hu em 9998 fun f hf=>?_
 rw[aE_] at I;have hsf:=I f hf;rcases L f hf with ⟨d,u,F⟩ | ⟨gs,u,M⟩ | ⟨m,e,u,N⟩
 ·have:(nth xs f.offset).isSome=true:=by
   rw[u] at hsf;cases d<;>first | exact hsf | (simp[mP] at F)
  obtain⟨y,hy⟩:=pR (P:=P) (w:=w) u F E this;exact⟨y,hy,jF u F em 9998 y⟩
 ·rw[u] at hsf;dsimp only at hsf;split at hsf
  ·rename_i n G;obtain⟨c,r,v⟩:=gX (P:=P) (w:=w) G E (off:=f.offset);refine⟨.agg c,r,sy u em 9997 fun g R=>?_⟩;rw[aE_] at hsf;obtain⟨d,A,C⟩:=M g R;obtain⟨y,hy⟩:=pR (P:=P) (w:=w) A C v (hsf g R);exact⟨y,hy,jF A C em 9997 y⟩
  cases hsf
 rw[u] at hsf;dsimp only at hsf;split at hsf
 ·rename_i n G;rw[bA_,Nat.beq_eq,Nat.beq_eq,cC] at hsf;obtain⟨k,inf,he,K,Q⟩:=zo N;obtain⟨c,r,v⟩:=gX (P:=P) (w:=w) G E (off:=f.offset);have hcl:=v.length;exact⟨.agg c,r,AN u he K Q (by rw[hsf.2] at hcl;have:c.toList.length=c.size:=rfl;omega) em 9997⟩
 cases hsf
theorem Ln {t:TypeId} {d:TypeDesc} (hu:P.underlying t=some d) (hd:mP d=true) {x y:Y} {a c:Value} {b:Bool} (h:lh P t x y=some b) (hx:VR U x a) (hy:VR U y c):Instr.sameNow d a c=some b:=by
 unfold lh at h;rw[hu] at h;split at h
 ·rename_i u A C q j m k n e;cases e;cases hk:uj j k with
  | false=>rw[hk] at h;cases h
  | true=>
   rw[hk] at h;have:=qv hk;subst this;simp only[VR] at hx hy;subst hx;subst hy;simp only[cond_true,oJ_] at h;rw[<-h,dS];simp only[Instr.sameNow,if_true,oJ_]
   grind
 ·rename_i u A C s s' e;cases e;simp only[VR] at hx hy;obtain⟨p,rfl,hp⟩:=hx;obtain⟨q,rfl,hq⟩:=hy
  grind [Instr.sameNow,oQ,beq_toListBytes]
 ·rename_i u A C s s' e;cases e;simp only[VR] at hx hy;subst hx;subst hy;cases h;simp only[Instr.sameNow,oJ_,qt]
 ·grind [mP]
 cases h
theorem Ht {t:TypeId} (hu:P.underlying t=some (.struct fs)) {x y:Y} {a c:Value} {b:Bool} (h:lh P t x y=some b) (hx:VR U x a) (hy:VR U y c):(Op.equal t a c).run P w= .ok b w:=by
 unfold lh at h;rw[hu] at h;split at h
 ·rename_i e;cases e
 ·rename_i e;cases e
 ·rename_i e;cases e
 ·exact(qw (P:=P) (w:=w) h hx hy .eql (.const .nilFunc) (.const .nilFunc)).2
 cases h
def Gx (U:Ren):Option (Nat×Y)->Option (Nat×Value)->Prop
 | none,none=>True
 | some (i,v),some (j,y)=>i=j/\VR U v y
 | _,_=>False
theorem sC {t:TypeId} {d:TypeDesc} (hu:P.underlying t=some d) (u:mP d=true) {k:Y} {a:Value} (hk:VR U k a):∀(es:List eC) (ys:List MapEntry) (i:Nat) (r:Option (Nat×Y)),jW U es ys->nr P t k es i=some r->
  ∃r',Instr.findNow d a ys i=some r'/\Gx U r r'
 | [],ys,i,r,he,h=>by
  have:ys= []:=he;subst this;have h':some none=some r:=h;cases h';exact⟨none,Z,trivial⟩
 | e::es,ys,i,r,he,h=>by
  obtain⟨y,rest,rfl,h1,A,h3,C⟩:=he
  have h':(match lh P t k e.key with
   | some true=>some (some (i,e.val))
   | some false=>nr P t k es (Nat.succ i)
   | none=>none)=some r:=h
  cases hq:lh P t k e.key with
  | none=>rw[hq] at h';cases h'
  | some b=>
   rw[hq] at h';have hs:=Ln hu u hq hk h1;cases b with
   | true=>cases h';exact⟨some (i,y.val),by simp[Instr.findNow,hs],Z,A⟩
   | false=>
    obtain⟨r',g1,E⟩:=sC hu u hk es rest (i+1) r C h';exact⟨r',by simp[Instr.findNow,hs,g1],E⟩
theorem sB {t:TypeId} {fs:Array Field} (hu:P.underlying t=some (.struct fs)) {k:Y} {a:Value} (hk:VR U k a):∀(es:List eC) (ys:List MapEntry) (i:Nat) (r:Option (Nat×Y)),jW U es ys->nr P t k es i=some r->
  ∃r',(Instr.findAsking t a ys i).run P w= .ok r' w/\Gx U r r'
 | [],ys,i,r,he,h=>by
  have:ys= []:=he;subst this;have h':some none=some r:=h;cases h';exact⟨none,Z,trivial⟩
 | e::es,ys,i,r,he,h=>by
  obtain⟨y,rest,rfl,h1,u,h3,A⟩:=he
  have h':(match lh P t k e.key with
   | some true=>some (some (i,e.val))
   | some false=>nr P t k es (Nat.succ i)
   | none=>none)=some r:=h
  cases hq:lh P t k e.key with
  | none=>simp_all
  | some b=>
   rw[hq] at h';have hs:=Ht (w:=w) hu hq hk h1;cases b with
   | true=>cases h';exact⟨some (i,y.val),by simp[Instr.findAsking,hs],Z,u⟩
   | false=>
    obtain⟨r',g1,C⟩:=sB hu hk es rest (i+1) r A h';exact⟨r',by simp[Instr.findAsking,hs,g1],C⟩
theorem mC {t:TypeId} (hp:plainKey P t=true) {k:Y} {a:Value} (hk:VR U k a) {ys:List MapEntry} {r:Option (Nat×Y)} (he:jW U es ys) (h:nr P t k es 0=some r):
  ∃r',(Instr.findKey t a ys).run P w= .ok r' w/\Gx U r r':=by
 rcases qR hp with ⟨d,hu,A⟩ | ⟨fs,hu,aa⟩
 ·obtain⟨r',h1,u⟩:=sC hu A hk es ys 0 r he h;exact⟨r',by simp[Instr.findKey,run_underlying hu,h1],u⟩
 cases hn:Instr.findNow (.struct fs) a ys 0 with
 | none=>
  obtain⟨r',h1,u⟩:=sB (w:=w) hu hk es ys 0 r he h;exact⟨r',by simp[Instr.findKey,run_underlying hu,hn,h1],u⟩
 | some r0=>
  cases es with
  | nil=>
   have:ys= []:=he;subst this;have h':some none=some r:=h;cases h';exact⟨none,by simp[Instr.findKey,run_underlying hu,Instr.findNow],trivial⟩
  | cons e es=>
   obtain⟨y,rest,rfl,h1,_⟩:=he
   grind [Instr.sameNow,Instr.findNow]
theorem jW.length:∀{es:List eC} {ys:List MapEntry},jW U es ys->ys.length=es.length
 | [],ys,h=>by have:ys= []:=h;rw[this];rfl
 | e::es,ys,h=>by obtain⟨y,r,rfl,_,_,_,u⟩:=h;simp[u.length]
theorem jW.get:∀{es:List eC} {ys:List MapEntry},jW U es ys->∀{i:Nat} {e:eC},es[i]? =some e->∃y,ys[i]? =some y/\VR U e.key y.key/\VR U e.val y.val/\y.born=e.born
 | [],ys,h,i,e,he=>by simp at he
 | e::es,ys,h,0,e',he=>by
  obtain⟨y,r,rfl,h1,A,h3,u⟩:=h
  simp_all
 | e::es,ys,h,i+1,e',he=>by
  obtain⟨y,r,rfl,h1,A,h3,u⟩:=h;simp at he;simpa using u.get he
theorem jW.append:∀{es fs:List eC} {ys zs:List MapEntry},jW U es ys->jW U fs zs->jW U (es++fs) (ys++zs)
 | [],fs,ys,zs,h,h'=>by have:ys= []:=h;subst this;exact h'
 | e::es,fs,ys,zs,h,h'=>by
  obtain⟨y,r,rfl,h1,u,h3,A⟩:=h;exact⟨y,r++zs,Z,h1,u,h3,A.append h'⟩
theorem jW.set:∀{es:List eC} {ys:List MapEntry},jW U es ys->∀(i:Nat) {e:eC} {y:MapEntry},VR U e.key y.key->VR U e.val y.val->y.born=e.born->jW U (es.set i e) (ys.set i y)
 | [],ys,h,i,_,_,_,_,_=>by have:ys= []:=h;simp_all
 | e::es,ys,h,0,_,_,u,A,C=>by
  obtain⟨y,r,rfl,h1,F,h3,E⟩:=h;exact⟨_,r,Z,u,A,C,E⟩
 | e::es,ys,h,i+1,_,_,u,A,C=>by
  obtain⟨y,r,rfl,h1,F,h3,E⟩:=h;exact⟨y,_,Z,h1,F,h3,E.set i u A C⟩
theorem jW.erase:∀{es:List eC} {ys:List MapEntry},jW U es ys->∀(i:Nat),jW U (es.eraseIdx i) (ys.eraseIdx i)
 | [],ys,h,i=>by have:ys= []:=h;simp_all
 | e::es,ys,h,0=>by obtain⟨y,r,rfl,h1,A,h3,u⟩:=h;exact u
 | e::es,ys,h,i+1=>by
  obtain⟨y,r,rfl,h1,A,h3,u⟩:=h;exact⟨y,_,Z,h1,A,h3,u.erase i⟩
theorem Inv.zG (hi:Inv U V w) {b:Pos} {l:Loc} (u:V.m.get b=some (.map es clock)) (hl:U b=some l):∃es',w.heap[l.de]? =some (.map es' clock)/\jW U es es'.toList:=by
 obtain⟨x,hx,es',rfl,h2⟩:=hi.obj b _ l u hl
 simp_all
theorem run_getObj_map {r:Nat} {es:Array MapEntry} (h:w.heap[r]? =some (.map es clock)):(getObj r).run P w= .ok (.map es clock) w:=by
 simp[getObj,Sem.run,h]
theorem Ds (hi:Inv U V w) {f:Operand->Value} {t:TypeId} {i:Operand} {ok:Bool} {v:Y} (hx:∀u,ev x=some u->VR U u (f x)) (hk:∀u,ev i=some u->VR U u (f i))
  (h:gG P ev V (.lookup t x i ok)=some v):∃z,(Instr.lookup t (f x) (f i) ok).run P w= .ok z w/\VR U v z:=by
 simp only[gG] at h;split at h
 ·rename_i kt et k hu I;simp only[bB] at h;split at h
  ·rename_i E;rw[bA_] at E;obtain⟨hp,K⟩:=E;have hkv:=hk _ I
   have main:∀(es:List eC) (ys:Array MapEntry),jW U es ys.toList->
     (match nr P kt k es 0,fx P et with
      | some (some (_,v)),some _=>some (if ok=true then Y.tuple [v,.bool true] else v)
      | some none,some z=>some (if ok=true then Y.tuple [z,.bool false] else z)
      | _,_=>none)=some v->
     (Instr.checkKey ys.isEmpty 10000 kt<|f i).run P w= .ok () w/\∃r',(Instr.findKey kt (f i) ys.toList).run P w= .ok r' w/\
      ((∃j y,r'=some (j,y)/\VR U v (if ok=true then .tuple #[y,.bool true] else y))∨
       (r'=none/\∃xz,(zeroValue et).run P w= .ok xz w/\VR U v (if ok=true then .tuple #[xz,.bool false] else xz))):=by
    intro es ys he hh;have hck:=mj (w:=w) hp K hkv ys.isEmpty;cases hf:nr P kt k es 0 with
    | none=>simp_all
    | some r=>
     obtain⟨r',g1,L⟩:=mC (w:=w) hp hkv he hf;cases C:fx P et with
     | none=>simp_all
     | some zz=>
      rw[hf,C] at hh;obtain⟨iz,xz,M,hzero,F⟩:=ry C;cases r with
      | some p=>
       obtain⟨j,u⟩:=p;cases r' with
       | none=>exact L.elim
       | some q=>
        obtain⟨j',y⟩:=q;obtain⟨_,hy⟩:=L;refine⟨hck,_,g1,.inl ⟨j',y,Z,?_⟩⟩;cases hh;cases ok with
        | true=>
         simp only[if_true,VR];exact⟨_,Z,di.cons hy<|di.cons (by simp only[VR]) di.nil⟩
        | false=>simpa using hy
      | none=>
       cases r' with
       | some q=>exact L.elim
       | none=>
        have N:(zeroValue et).run P w= .ok xz w:=by simp[zeroValue,typeInfo,M,hzero]
        refine⟨hck,_,g1,.inr ⟨Z,xz,N,?_⟩⟩;cases hh;cases ok with
        | true=>
         simp only[if_true,VR];exact⟨_,Z,di.cons (F U)<|di.cons (by simp only[VR]) di.nil⟩
        | false=>simpa using F U
   cases G:ev x with
   | none=>simp_all
   | some m=>
    rw[G] at h;have hmv:=hx m G;cases m with
    | iy=>
     simp only[VR] at hmv;dsimp only at h;obtain⟨hck,r',g1,A⟩:=main [] #[] (by simp[jW]) h;rcases A with ⟨j,y,rfl,A⟩ | ⟨rfl,xz,C,A⟩
     ·exact⟨_,by rw[hmv];simp only[Instr.lookup,sB_,run_underlying hu,rA,sP_,hck,g1],A⟩
     exact⟨_,by rw[hmv];simp only[Instr.lookup,sB_,run_underlying hu,rA,sP_,hck,g1,C],A⟩
    | map b=>
     simp only[VR] at hmv;obtain⟨l,hl,hf⟩:=hmv;dsimp only at h;cases hb:V.m.get b with
     | none=>rw[hb] at h;cases h
     | some ob=>
      rw[hb] at h;cases ob with
      | map es clock=>
       dsimp only at h;obtain⟨ys,hh,he⟩:=hi.zG hb hl;obtain⟨hck,r',g1,A⟩:=main es ys he h;rcases A with ⟨j,y,rfl,A⟩ | ⟨rfl,xz,C,A⟩
       ·exact⟨_,by rw[hf];simp only[Instr.lookup,sB_,run_underlying hu,rA,sP_,run_getObj_map hh,hck,g1],A⟩
       exact⟨_,by rw[hf];simp only[Instr.lookup,sB_,run_underlying hu,rA,sP_,run_getObj_map hh,hck,g1,C],A⟩
      | _=>cases h
    | _=>cases h
  cases h
 cases h
theorem w7 (hi:Inv U V w) {u:Option TypeId} {x:Option Y} {v:Y} (h:tD P u V x=some v) (hx:∀a,x=some a->VR U a z):
  ∃(a:Addr) (e cells:Nat),z= .pointer (some a)/\VR U v z/\w.shape? a.block=some (e,cells)/\(match u with | some u=>liesAt P P.depth e (cells/P.cellsOf e) a.off u 1=true | none=>a.off<cells):=by
 unfold tD at h;cases x with
 | none=>cases h
 | some xv=>
  cases xv with
  | ptr b off=>
   have hv:=hx _ Z;have hv':=hv;simp only[VR] at hv';obtain⟨l,hl,rfl⟩:=hv';dsimp only at h;cases hb:V.m.get b with
   | none=>rw[hb] at h;cases h
   | some ob=>
    rw[hb] at h;cases ob with
    | own cells e=>
     dsimp only at h;obtain⟨y,hy,⟨h0,aa⟩,c,fr,rfl,hc,_⟩:=hi.obj b _ l hb hl;have C:c.size=cells.length:=by omega
     have A:w.shape? l.de=some (e,cells.length):=by simp[World.shape?,hy,C]
     cases u with
     | some u=>
      dsimp only at h;rw[bB] at h;split at h
      ·rename_i hq;cases h;rw[cC] at hq;exact⟨_,e,cells.length,Z,hv,A,by simpa [h0] using hq⟩
      cases h
     | none=>
      dsimp only at h;rw[bB] at h;split at h
      ·rename_i hq;cases h;rw[nE_,cC] at hq;exact⟨_,e,cells.length,Z,hv,A,by grind⟩
      cases h
    | _=>cases h
  | _=>cases h
theorem z1 (hi:Inv U V w) {f:Operand->Value} {o:Oper} {v:Y} (E:ER U ev f o.op) (h:gG P ev V o.op=some v):
  ∃x,(execOp f o).run P w= .ok (.value x) w/\VR U v x:=by
 cases F:o.op with
 | load t x=>
  rw[F] at h E;simp only[gG] at h;cases hx:ev x with
  | none=>rw[hx] at h;cases h
  | some u=>
   rw[hx] at h;have hvx:=E x (by simp[Op.operands]) u hx;cases u with
   | ptr b off=>
    simp only at h;cases L:V.m.get b with
    | none=>rw[L] at h;cases h
    | some ob=>
     rw[L] at h;cases ob with
     | row cells e ro=>
      simp only[VR] at hvx;obtain⟨l,hl,G⟩:=hvx;obtain⟨y,hy,Q⟩:=nL (P:=P) hi L hl h;refine⟨y,?_,Q⟩;simp[execOp,F,Instr.loadAt,G,Instr.sureAddr,hy]
     | own cells e=>
      simp only[VR] at hvx;obtain⟨l,hl,G⟩:=hvx;obtain⟨_,I,_⟩:=hi.own L hl;obtain⟨y,hy,Q⟩:=nL (P:=P) I (D.mH _ _ _) hl h;refine⟨y,?_,Q⟩;simp[execOp,F,Instr.loadAt,G,Instr.sureAddr,hy]
     | _=>cases h
   | _=>cases h
 | lookup t x i ok=>
  rw[F] at h E;obtain⟨z,h1,X⟩:=Ds (P:=P) hi (f:=f) (E x (by simp[Op.operands])) (E i (by simp[Op.operands])) h
  grind [execOp,sB_,rA,sP_]
 | convert src dst x=>
  rw[F] at h E;simp only[gG] at h;split at h
  case h_4=>cases h
  case h_2=>
   rename_i t M N;split at h
   ·rename_i j hj;rw[bB] at h;split at h
    ·cases h
    rename_i h0;obtain⟨a,e,cells,hf,hv,R,ar⟩:=w7 hi h (E x (by simp[Op.operands]));have ab:j.size≠0:=fun e=>h0 (by rw[e];rfl)
    grind [execOp,sB_,Lib.run_to_unsafe,rA,sP_]
   cases h
  case h_3=>
   rename_i u M N;rw[bB] at h;split at h
   ·rename_i I;obtain⟨j,hj⟩:=ze_.1 I;obtain⟨a,e,cells,hf,hv,R,ar⟩:=w7 hi h (E x (by simp[Op.operands]))
    grind [execOp,sB_,Lib.run_from_unsafe,rA,sP_]
   cases h
  rename_i e M N;split at h
  case h_3=>cases h
  ·rename_i he hx;cases h;have hv:=E x (by simp[Op.operands]) _ hx;simp only[VR] at hv;refine⟨.string .empty,?_,by simp only[VR];exact⟨_,Z,Z⟩⟩;simp[execOp,F,convert,hv,run_underlying M,run_underlying N,run_underlying he,Conv.bytesToString]
  rename_i b off len cap he hx;have hv:=E x (by simp[Op.operands]) _ hx
  have fin:∀(a:Addr) (c:Nat) (s:List Nat),f x= .slice (some a) len c->s.length=len->(∀n∈s,n<=255)->(∀(j:Nat) (hj:j<s.length),w.cell? (a.add j)=some (.int .u8 ((s[j]:Nat):Int)))->
    ∃z,(execOp f o).run P w= .ok (.value z) w/\VR U (.str s) z:=by
   intro a c s hf hl hle hc
   have hb:∀n∈s,(UInt8.ofNat n).toNat=n:=fun n hn=>by
    grind [UInt8.toNat_ofNat']
   have:=run_convert_bytes_back (P:=P) w src dst e a c (s.map UInt8.ofNat) M he N (fun j hj=>by
    grind)
   rw[lM_,hl] at this;refine⟨.string ⟨(s.map UInt8.ofNat).toArray⟩,by grind [execOp,sB_,rA,sP_],?_⟩;simp only[VR];refine⟨_,Z,?_⟩;unfold gQ;simp only[List.map_map]
   conv=>rhs;rw[<-List.map_id s]
   exact List.map_congr_left fun n hn=>hb n hn
  rw[bB] at h;split at h
  ·rename_i h0;have:=nB h0;subst this;cases h;obtain⟨a,c,hf⟩:=VR.jt hv
   simp_all
  rename_i h0;rw[Nat.beq_eq] at h0;split at h
  ·rename_i cells e' ro hb;rw[bB] at h;split at h
   ·rename_i hle;rw[nE_,cC] at hle;split at h
    ·rename_i s K;cases h
     obtain⟨l,c,hl,hf⟩:∃l c,U b=some l/\f x= .slice (some ⟨l.de,l.sh+off,none⟩) len c:=by
      cases cap with
      | known c=>grind [VR]
      | upto sz=>
       grind [VR]
      | least a sz=>grind [VR]
     obtain⟨ys,ac,T,aa⟩:=hi.piece hb hl off len hle;rw[dT,eB] at K
     have key:∀(l:List Y) (s:List Nat),cX Bo l=some s->s.length=l.length/\(∀n∈s,n<=255)/\∀(j:Nat) (n:Nat),s[j]? =some n->l[j]? =some (.int .u8 (.ofNat n)):=by
      intro l;induction l with
      | nil=>intro s h;rw[il] at h;simp_all
      | cons x l ih=>
       intro s h;obtain⟨y,r,h1,X,rfl⟩:=gJ h;obtain⟨k1,k2,k3⟩:=ih r X
       have hx:x= .int .u8 (.ofNat y)/\y<=255:=by
        unfold Bo at h1;split at h1
        ·rw[bB] at h1;split at h1
         ·simp_all
         cases h1
        cases h1
       grind
     obtain⟨k1,k2,k3⟩:=key _ s K;have W:s.length=len:=by grind
     refine fin _ c s hf W k2 (fun j hj=>?_);have h1:=k3 j s[j] (gC hj);obtain⟨y,hy,am⟩:=T.get h1
     grind [VR]
    cases h
   cases h
  cases h
 | call c=>
  rw[F] at h E;simp only[gG] at h;split at h
  ·rename_i C;split at h
   ·rename_i u1 u2 t x e1 e2;have A:c.args= #[x]:=by grind
    split at h
    ·rename_i u3 u4 kt et b hu hx;have hv:=E x (by simp[Op.operands,Call.operands,C,A]) _ hx;simp only[VR] at hv;obtain⟨l,hl,hf⟩:=hv;split at h
     ·rename_i es clock hb;cases h;obtain⟨ys,hh,he⟩:=hi.zG hb hl;refine⟨.int .i64<|Int.ofNat<|dt es,?_,by simp only[VR]⟩;have hlen:ys.size=es.length:=by have:=he.length;simpa using this
      simp[execOp,F,resolve,C,A,invoke,builtin,Builtin.len_,e1,run_underlying hu,hf,run_getObj_map hh,goInt,cC,hlen]
     cases h
    ·rename_i u3 u4 kt et hu hx;cases h;have hv:=E x (by simp[Op.operands,Call.operands,C,A]) _ hx;simp only[VR] at hv;refine⟨.int .i64 0,?_,by simp only[VR]⟩;simp[execOp,F,resolve,C,A,invoke,builtin,Builtin.len_,e1,run_underlying hu,hv,goInt]
    cases h
   cases h
  cases h
 | _=>rw[F] at h;simp[gG] at h
end
variable {pt:TypeId}
section
variable {P:Program} {U:Ren} {V:D} {w:World}
theorem GY {ty:TypeId} {x v:Y} {y:Value} (h:I6 x=some v) (hx:VR U x y):∃z,(Builtin.unsafeSliceData_ ts ty #[y]).run P w= .ok z w/\VR U v z:=by
 unfold I6 at h;split at h
 ·cases h;simp only[VR] at hx;subst hx;exact⟨_,Lib.run_unsafeSliceData_nil w ts ty 0 0,by simp only[VR]⟩
 ·rename_i b off len c;rw[bB] at h;split at h
  ·rename_i u;cases h;cases c with
   | known c=>
    simp only[VR] at hx;obtain⟨l,hl,rfl⟩:=hx;have u:Nat.ble 1 c=true:=u;rw[nE_] at u;exact⟨_,Lib.run_unsafeSliceData_row w ts ty _ _ _ oM,by simp only[VR];simp_all⟩
   | upto s=>
    have u:Nat.ble 1 len=true:=u;rw[nE_] at u;simp only[VR] at hx;obtain⟨l,hl,⟨c,rfl,hc,_⟩ | ⟨h0,_⟩⟩:=hx
    ·exact⟨_,Lib.run_unsafeSliceData_row w ts ty _ _ _ oM,by simp only[VR];simp_all⟩
    omega
   | least a s=>
    have u:Nat.ble 1 a=true:=u;rw[nE_] at u;simp only[VR] at hx;obtain⟨l,hl,c,rfl,hc,_⟩:=hx;exact⟨_,Lib.run_unsafeSliceData_row w ts ty _ _ _ oM,by simp only[VR];simp_all⟩
  cases h
 cases h
theorem Eu:∀{l:List Y} {s:List Nat},cX Bo l=some s->s.length=l.length/\(∀n∈s,n<=255)/\∀(j:Nat) (n:Nat),s[j]? =some n->l[j]? =some (.int .u8 (.ofNat n))
 | [],s,h=>by rw[il] at h;simp_all
 | x::l,s,h=>by
  obtain⟨y,r,h1,u,rfl⟩:=gJ h;obtain⟨k1,k2,k3⟩:=Eu u
  have hx:x= .int .u8 (.ofNat y)/\y<=255:=by
   unfold Bo at h1;split at h1
   ·rw[bB] at h1;split at h1
    ·simp_all
    cases h1
   cases h1
  grind
theorem uY (ts:Array TypeId) (ty:TypeId) (k:Value):Builtin.unsafeString_ ts ty #[.pointer none,k]=
   (do
    let n <-asInt k
    let some _:=ts[0]? | stuck "unsafe.String: no argument types"
    if n<0 then runtimePanic (.error "unsafe.String: len out of range")
    if n>IntKind.i64.max then unsupported (.unsafePointer "String: a length above the largest int")
    if n=0 then pure (.string .empty)
    else runtimePanic (.error "unsafe.String: ptr is nil and len is not zero")):=rfl
theorem ny (ts:Array TypeId) (ty:TypeId) (a:Addr) (k:Value):Builtin.unsafeString_ ts ty #[.pointer<|some a,k]=
   (do
    let n <-asInt k
    let some pt:=ts[0]? | stuck "unsafe.String: no argument types"
    if n<0 then runtimePanic (.error "unsafe.String: len out of range")
    if n>IntKind.i64.max then unsupported (.unsafePointer "String: a length above the largest int")
    if n=0 then pure (.string .empty)
    else if <-variablesAt a (<-elemOf pt) n.toNat then do
     let s <-loadBytes a .empty n.toNat
     freeze a n.toNat
     pure (.string s)
    else unsupported (.unsafePointer "String: not so many bytes at ptr")):=rfl
theorem kj {ty:TypeId} (A:ts[0]? =some pt) (p:Option Addr):(Builtin.unsafeString_ ts ty #[.pointer p,.int .i64 0]).run P w= .ok (.string .empty) w:=by
 have u:IntKind.i64.max=9223372036854775807:=rfl;cases p with
 | none=>rw[uY];simp[A,asInt,asIntOf,u]
 | some a=>rw[ny];simp[A,asInt,asIntOf,u]
theorem sq {ty e:TypeId} (K:ts[0]? =some pt) (hp:P.underlying pt=some (.pointer e)) (hc:P.cellsOf e=1) (g off cells:Nat) (G:w.shape? g=some (e,cells)) (l:List UInt8) (h0:l≠[]) (hn:off+l.length<=cells) (aa:l.length<=9223372036854775807)
  (u:∀j x,l[j]? =some x->w.cell? ((⟨g,off,none⟩:Addr).add j)=some (.int .u8 x.toNat)):
  (Builtin.unsafeString_ ts ty #[.pointer<|some ⟨g,off,none⟩,.int .i64 l.length]).run P w= .ok (.string ⟨l.toArray⟩) (w.freeze ⟨g,off,none⟩ l.length):=by
 have hl:l.length≠0:=by simpa using h0
 have hlb:=Lib.run_loadBytes (P:=P) w l ⟨g,off,none⟩ .empty u
 have A:liesAt P P.depth e (cells/P.cellsOf e) off e l.length=true:=by
  have I:P.depth=(2*(P.types.size+Made.depth)+1)+1:=rfl;rw[I];simp only[liesAt,Bool.or_eq_true];left;rw[I];simp[rowAt,hc,hn,sameLayout,Nat.mod_one]
 have C:¬(9223372036854775807:Int)<(l.length:Int):=by omega
 have E:IntKind.i64.max=9223372036854775807:=rfl;have F:¬(l.length:Int)<0:=by omega
 rw[ny];simp[K,asInt,asIntOf,E,C,F,hl,variablesAt,G,elemOf,run_underlying hp,A,hlb]
theorem Ir (hi:Inv U V w) {ty:TypeId} {p n:Y} {yp yn:Value} {s:List Nat} {V':D} (h:J6 P V ts[0]? p n=some (s,V')) (hp:VR U p yp) (hn:VR U n yn):
  ∃z w',(Builtin.unsafeString_ ts ty #[yp,yn]).run P w= .ok z w'/\VR U (.str s) z/\Inv U V' w'/\eH U V w U V' w':=by
 unfold J6 at h;split at h
 ·rename_i k;simp only[VR] at hn;subst hn;rw[bB] at h;split at h
  ·rename_i h0;have:=nB h0;subst this;split at h
   ·rename_i N Q pt A;cases h;simp only[VR] at hp;subst hp;exact⟨_,w,kj A _,by simp only[VR];exact⟨_,Z,Z⟩,hi,eH.refl _ _ _⟩
   ·rename_i N Q pt b off A;cases h;simp only[VR] at hp;obtain⟨l,hl,rfl⟩:=hp;exact⟨_,w,kj A _,by simp only[VR];exact⟨_,Z,Z⟩,hi,eH.refl _ _ _⟩
   cases h
  rename_i h0;rw[Nat.beq_eq] at h0;split at h
  ·rename_i N Q pt b off A;split at h
   ·rename_i u3 u4 u cells e hu hb;rw[bB] at h;split at h
    ·rename_i hc;simp only[bA_,Nat.beq_eq,nE_,cC] at hc;obtain⟨rfl,E,hle,ab⟩:=hc;split at h
     ·rename_i s' R;cases h;simp only[VR] at hp;obtain⟨l,hl,rfl⟩:=hp;rw[dT,eB] at R;obtain⟨k1,k2,T⟩:=Eu R;have ac:s.length=k:=by grind
      obtain⟨c,fr,F,G,I,K,am⟩:=hi.row hb hl;obtain⟨ys,ao,L,aa⟩:=hi.piece hb hl off k hle
      have M:∀n∈s,(UInt8.ofNat n).toNat=n:=fun n hn=>by
       grind [UInt8.toNat_ofNat']
      have hlen:(s.map UInt8.ofNat).length=k:=by grind
      have r:=sq (P:=P) (w:=w) (ty:=ty) A hu E l.de (l.sh+off) c.size (by simp[World.shape?,F]) (s.map UInt8.ofNat) (by grind) (by rw[hlen];omega) (by rw[hlen];omega)
       (fun j x hx=>by
        rw[gM_] at hx;cases hj:s[j]? with
        | none=>grind
        | some m=>
         rw[hj] at hx;cases hx;have h1:=T j m hj;obtain⟨y,hy,ap⟩:=L.get h1
         grind [VR])
      rw[hlen] at r;have hne:¬k=0:=h0
      have hw:∃fr',(w.freeze ⟨l.de,l.sh+off,none⟩ k).heap[l.de]? =some (.cells c e fr'):=by
       unfold World.freeze
       grind
      obtain⟨fr',hw⟩:=hw
      have C:∀r,r≠l.de->(w.freeze ⟨l.de,l.sh+off,none⟩ k).heap[r]? =w.heap[r]?:=fun r hr=>by
       unfold World.freeze
       grind
      obtain⟨W,X⟩:=hi.IW hb hl Z (o':=.row cells e true) hw ⟨c,fr',Z,G,I,K,fun h=>by cases h⟩ C (by unfold World.freeze;rw[if_neg hne];simp) (by unfold World.freeze;rw[if_neg hne]) (by unfold World.freeze;rw[if_neg hne]) (by unfold World.freeze;rw[if_neg hne];exact⟨Z,nR_ _⟩);refine⟨_,_,r,?_,W,X⟩;simp only[VR];refine⟨_,Z,?_⟩;unfold gQ;simp only[List.map_map]
      conv=>rhs;rw[<-List.map_id s]
      exact List.map_congr_left fun n hn=>M n hn
     cases h
    cases h
   cases h
  cases h
 cases h
theorem Ew (hi:Inv U V w) {src dst:TypeId} {x v:Y} {y:Value} {V':D} (h:mh P V src dst x= .val v V') (hx:VR U x y):
  ∃z w' U',(convert src dst y).run P w= .ok z w'/\VR U' v z/\Inv U' V' w'/\eH U V w U' V' w':=by
 unfold mh at h;split at h
 ·rename_i e s L M;split at h
  ·rename_i he;rw[bB] at h;split at h
   ·rename_i ab;cases h;simp only[VR] at hx;obtain⟨bs,rfl,u⟩:=hx;have C:bs.size<=grownCap w bs.size 0 e:=grownCap_ge _ _ _ _
    have F:(Lib.bytesCells w e bs).size=grownCap w bs.size 0 e:=by
     unfold Lib.bytesCells
     simp_all
    have hlen:dt s=bs.size:=jx u;have aa:(AT (fun c=>Y.int .u8 (Int.ofNat c)) s).length=bs.size:=by rw[lP,lM_,<-cC,hlen]
    have N:gz U ⟨w.heap.size,0,grownCap w bs.size 0 e⟩ (.row (AT (fun c=>Y.int .u8 (Int.ofNat c)) s) e true) (.cells (Lib.bytesCells w e bs) e ((Lib.bytesCells w e bs).size,(Lib.bytesCells w e bs).size+1)):=by
     refine⟨_,_,Z,by simp[F],by simp_all,fun i v hv=>?_,fun h=>by cases h⟩;rw[lP,gM_] at hv;cases E:s[i]? with
     | none=>simp_all
     | some m=>
      rw[E] at hv;cases hv;have A:(bs.data.toList.map UInt8.toNat)[i]? =some m:=by unfold gQ at u;rw[u];exact E
      rw[gM_] at A;cases hq:bs.data.toList[i]? with
      | none=>simp_all
      | some b=>
       rw[hq] at A;cases A;have G:bs.data[i]? =some b:=by simp_all
       have ac:i<bs.data.size:=(aS_.1 G).1;refine⟨.int .u8 b.toNat,?_,by simp only[VR];rfl⟩;unfold Lib.bytesCells
       grind
    have hi1:=hi.drew;obtain⟨I,K⟩:=hi1.alloc (l:=⟨w.heap.size,0,grownCap w bs.size 0 e⟩) (x:=.cells (Lib.bytesCells w e bs) e ((Lib.bytesCells w e bs).size,(Lib.bytesCells w e bs).size+1)) Z N
    have hw:(w.drew.alloc (.cells (Lib.bytesCells w e bs) e ((Lib.bytesCells w e bs).size,(Lib.bytesCells w e bs).size+1)))=Lib.bytesWorld w e bs:=by
     unfold Lib.bytesWorld World.freeze;rw[if_neg oM]
     have:∀(h:Array Obj) (a b:Obj) (f:Obj->Obj),f a=b->(h.push a).modify h.size f=h.push b:=fun h a b f e=>by
      grind
     simp only[World.alloc,World.drew]
     simp_all
    rw[hw] at I K;refine⟨_,_,_,Lib.run_convert_string_bytes w src dst e bs L M he,?_,I,(eH.drew U V w).trans K⟩;simp only[VR];refine⟨_,Ren.cU _ _ _,.inl ⟨grownCap w bs.size 0 e,by rw[hlen],by rw[hlen];exact C,by simp⟩⟩
   cases h
  cases h
 cases h
theorem GN (P:Program) (V:D) (src dst:TypeId) (x:Y) (v:Y) (V':D):mh P V src dst x≠ .kG v V':=by
 unfold mh
 grind
theorem sV (P:Program) (V:D) (src dst:TypeId) (x:Y):∀f args V',mh P V src dst x≠ .enter f args V'/\mh P V src dst x≠ .round f args V'/\mh P V src dst x≠ .skip V':=by
 intro f args V';unfold mh
 grind
end
variable {yk ym:Value}
section
variable {P:Program} {U:Ren} {V:D} {w:World}
theorem wJ {x y:Y} {a c:Value} (h:tf x y=some true) (hx:VR U x a) (hy:VR U y c) (n:Nat):Instr.sameBits n a c=true:=by
 unfold tf at h;split at h
 ·simp only[VR] at hx hy;subst hx;subst hy;simp only[oJ_,qt] at h;simp only[Instr.sameBits,h]
 ·rename_i j a' k b';simp only[bB] at h;split at h
  ·rename_i hk;have:=qv hk;subst this;simp only[oJ_,dS,decide_eq_true_eq] at h
   grind [VR,Instr.sameBits]
  cases h
 ·simp only[VR] at hx hy;obtain⟨p,rfl,hp⟩:=hx;obtain⟨q,rfl,hq⟩:=hy
  grind [oQ,Instr.sameBits,beq_toListBytes]
 cases h
theorem ss:∀{xs ys:List Y} {asg cs:List Value},oc xs ys=true->di U xs asg->di U ys cs->∀n,asg.length=cs.length/\((asg.zip cs).all fun(x,y)=>Instr.sameBits n x y)=true
 | [],[],asg,cs,_,hx,hy,n=>by rw[hx.dX,hy.dX];simp
 | [],y::ys,asg,cs,h,hx,hy,n=>by cases h
 | x::xs,[],asg,cs,h,hx,hy,n=>by cases h
 | x::xs,y::ys,asg,cs,h,hx,hy,n=>by
  obtain⟨a,asg',rfl,h1,u⟩:=hx.cons_inv;obtain⟨c,cs',rfl,h3,A⟩:=hy.cons_inv;have h':(match tf x y with | some true=>oc xs ys | _=>false)=true:=h;split at h'
  ·rename_i he;obtain⟨g1,C⟩:=ss h' u A n;refine⟨by simp[g1],?_⟩;simp only[List.zip_cons_cons,List.all_cons,bA_];exact⟨wJ he h1 h3 n,C⟩
  cases h'
theorem DF {x y:Y} {a c:Value} (h:sameKey x y=true) (hx:VR U x a) (hy:VR U y c) (n:Nat):Instr.sameBits (n+1) a c=true:=by
 unfold sameKey at h;split at h
 ·simp only[VR] at hx hy;obtain⟨asg,rfl,hx⟩:=hx;obtain⟨cs,rfl,hy⟩:=hy;obtain⟨g1,g2⟩:=ss h hx hy n;simp only[Instr.sameBits,bA_,beq_iff_eq]
  simp_all
 grind [wJ]
theorem L8 (e:eC) (es:List eC) (i:Nat):we e es i=es.set i e:=r6 _ _ _
theorem BC:∀(es:List eC) (i:Nat),yC es i=es.eraseIdx i
 | [],i=>rfl
 | e::es,0=>rfl
 | e::es,i+1=>congrArg (e::·) (BC es i)
theorem Inv.DI (hi:Inv U V w) {b:Pos} {l:Loc} {es':List eC} {clock':Nat} {ys:Array MapEntry} (hb:V.m.get b=some (.map es clock)) (hl:U b=some l) (he:jW U es' ys.toList):
  ∃w',(setObj l.de (.map ys clock')).run P w= .ok () w'/\Inv U (V.setObj b (.map es' clock')) w'/\eH U V w U (V.setObj b (.map es' clock')) w':=by
 obtain⟨zs,hh,_⟩:=hi.zG hb hl;refine⟨{w with heap:=w.heap.setIfInBounds l.de (.map ys clock')},by simp[setObj,Sem.run,hh],?_⟩;have hlt:=hi.de b l hl
 exact hi.change hb hl Z Z (x:=.map ys clock') (by simp_all) ⟨ys,Z,he⟩
  (fun r hr=>by grind) (by simp) Z Z ⟨Z,nR_ _⟩
theorem uZ (hi:Inv U V w) {t:TypeId} {m k v:Y} {yv:Value} {V':D} (h:kS P V t m k v=some V') (hm:VR U m ym) (hk:VR U k yk) (hv:VR U v yv):
  ∃w',(Instr.mapUpdate t ym yk yv).run P w= .ok () w'/\Inv U V' w'/\eH U V w U V' w':=by
 unfold kS at h;split at h
 ·rename_i u1 u2 kt et b hu;split at h
  ·rename_i es clock hb;simp only[bB] at h;split at h
   ·rename_i A;rw[bA_] at A;obtain⟨hp,I⟩:=A;simp only[VR] at hm;obtain⟨l,hl,rfl⟩:=hm;obtain⟨ys,hh,he⟩:=hi.zG hb hl;have hck:=mj (w:=w) hp I hk false;split at h
    ·rename_i i u hf;obtain⟨r',g1,G⟩:=mC (w:=w) hp hk he hf;cases r' with
     | none=>exact G.elim
     | some q=>
     obtain⟨j,y⟩:=q;obtain⟨rfl,hy⟩:=G;rw[fL] at h;split at h
     ·rename_i e hn;split at h
      ·rename_i K;cases h;obtain⟨ye,aa,e1,e2,e3⟩:=he.get hn;have hsb:=DF K e1 hk 9999;have C:ys[i]? =some ye:=by simp_all
       have E:(Instr.keyThatStays (((ys[i]?).map (·.key)).getD yk) yk).run P w= .ok yk w:=by
        simp[Instr.keyThatStays,C,hsb]
       have F:(ys.modify i fun e=>{e with key:=yk,val:=yv}).toList=ys.toList.set i {key:=yk,val:=yv,born:=e.born}:=by
        apply zf_
        grind
       obtain⟨w',r,inv,st⟩:=hi.DI (P:=P) (clock':=clock) (es':=we {key:=k,val:=v,born:=e.born} es i) (ys:=ys.modify i fun e=>{e with key:=yk,val:=yv}) hb hl (by
        rw[F,L8];exact he.set i hk hv Z)
       refine⟨w',?_,inv,st⟩;simp only[Instr.mapUpdate,sB_,run_underlying hu,rA,run_getObj_map hh,hck,g1,E,r]
      cases h
     cases h
    ·rename_i hf;cases h;obtain⟨r',g1,G⟩:=mC (w:=w) hp hk he hf;cases r' with
     | some q=>exact G.elim
     | none=>
     obtain⟨w',r,inv,st⟩:=hi.DI (P:=P) (clock':=clock+1) (es':=gV es [{key:=k,val:=v,born:=clock}]) (ys:=ys.push {key:=yk,val:=yv,born:=clock}) hb hl (by
      rw[dU,Array.toList_push];exact he.append ⟨_,[],Z,hk,hv,Z,Z⟩)
     refine⟨w',?_,inv,st⟩;simp only[Instr.mapUpdate,sB_,run_underlying hu,rA,run_getObj_map hh,hck,g1,r]
    cases h
   cases h
  cases h
 cases h
theorem C6 (hi:Inv U V w) {ty:TypeId} {m k:Y} {V':D} (h:rH P V ts m k=some V') (hm:VR U m ym) (hk:VR U k yk):
  ∃w',(Builtin.delete_ ts ty #[ym,yk]).run P w= .ok (.tuple #[]) w'/\Inv U V' w'/\eH U V w U V' w':=by
 unfold rH at h;split at h
 ·rename_i t F;split at h
  ·rename_i u1 u2 kt et b hu;split at h
   ·rename_i es clock hb;simp only[bB] at h;split at h
    ·rename_i A;rw[bA_] at A;obtain⟨hp,E⟩:=A;simp only[VR] at hm;obtain⟨l,hl,rfl⟩:=hm;obtain⟨ys,hh,he⟩:=hi.zG hb hl;have hck:=mj (w:=w) hp E hk ys.isEmpty;split at h
     ·rename_i i u hf;cases h;obtain⟨r',g1,C⟩:=mC (w:=w) hp hk he hf;cases r' with
      | none=>exact C.elim
      | some q=>
      obtain⟨j,y⟩:=q;obtain⟨rfl,hy⟩:=C
      obtain⟨w',r,inv,st⟩:=hi.DI (P:=P) (clock':=clock) (es':=yC es i) (ys:=ys.eraseIdxIfInBounds i) hb hl (by
       rw[Array.toList_eraseIdxIfInBounds,BC];exact he.erase i)
      refine⟨w',?_,inv,st⟩;simp only[Builtin.delete_,F,List.getElem?_toArray,zm_,List.getElem?_cons_succ,sB_,run_underlying hu,rA,run_getObj_map hh,hck,g1,r,sP_]
     ·rename_i hf;cases h;obtain⟨r',g1,C⟩:=mC (w:=w) hp hk he hf;cases r' with
      | some q=>exact C.elim
      | none=>
      obtain⟨w',r,inv,st⟩:=hi.DI (P:=P) (clock':=clock) (es':=es) (ys:=ys) hb hl he;refine⟨w',?_,inv,st⟩;simp only[Builtin.delete_,F,List.getElem?_toArray,zm_,List.getElem?_cons_succ,sB_,run_underlying hu,rA,run_getObj_map hh,hck,g1,r,sP_]
     cases h
    cases h
   cases h
  cases h
 cases h
def HR.isVal:HR->Prop
 | .val ..=>True
 | .err _=>True
 | _=>False
theorem GH (P:Program) (V:D) (ts:Array TypeId) (s x:Y):(fI P V ts s x).isVal:=by
 unfold fI;simp only[bB,grow]
 repeat' (first | trivial | split)
theorem En (P:Program) (V:D) (ts:Array TypeId) (s x:Y):(rC P V ts s x).isVal:=by
 unfold rC;simp only[bB,grow]
 repeat' (first | trivial | split)
theorem No (P:Program) (V:D) (ts:Array TypeId) (s x:Y):(wG P V ts s x).isVal:=by
 unfold wG;simp only[bB]
 repeat' (first | trivial | split)
theorem E8 {ov:Nat->Bool} (W:∀g,ov g=true->x8 P g) (hi:Inv U V w) {f:Operand->Value} {o:Oper} {r:HR} (F:ER U ev f o.op) (h:fX P ov ev V o.op=r) (hne:∀n,r≠ .err n):
  AH P U V w r ((execOp f o).run P w):=by
 cases G:o.op with
 | store t x y=>
  rw[G] at h F;simp only[fX] at h;cases hx:ev x with
  | none=>grind
  | some a=>
  cases hy:ev y with
  | none=>grind
  | some v=>
  rw[hx,hy] at h;dsimp only at h;cases Q:Aq P V t a v with
  | none=>grind
  | some V'=>
   rw[Q] at h;subst h;obtain⟨w',r,inv,st⟩:=F6 (P:=P) hi Q (F x (by simp[Op.operands]) a hx) (F y (by simp[Op.operands]) v hy);have:(execOp f o).run P w= .ok .skip w':=by grind [execOp,sB_,rA,sP_]
   rw[this];exact .skip inv st
 | mapUpdate t m k x=>
  rw[G] at h F;simp only[fX] at h;cases hm:ev m with
  | none=>grind
  | some a=>
  cases hk:ev k with
  | none=>grind
  | some b=>
  cases hx:ev x with
  | none=>grind
  | some v=>
  rw[hm,hk,hx] at h;dsimp only at h;cases Q:kS P V t a b v with
  | none=>grind
  | some V'=>
   rw[Q] at h;subst h;obtain⟨w',r,inv,st⟩:=uZ (P:=P) hi Q (F m (by simp[Op.operands]) a hm) (F k (by simp[Op.operands]) b hk) (F x (by simp[Op.operands]) v hx);have:(execOp f o).run P w= .ok .skip w':=by grind [execOp,sB_,rA,sP_]
   rw[this];exact .skip inv st
 | insert t m k x=>
  rw[G] at h F;simp only[fX] at h;cases hm:ev m with
  | none=>grind
  | some a=>
  cases hk:ev k with
  | none=>grind
  | some b=>
  cases hx:ev x with
  | none=>grind
  | some v=>
  rw[hm,hk,hx] at h;dsimp only at h;cases Q:kS P V t a b v with
  | none=>grind
  | some V'=>
   rw[Q] at h;subst h;obtain⟨w',r,inv,st⟩:=uZ (P:=P) hi Q (F m (by simp[Op.operands]) a hm) (F k (by simp[Op.operands]) b hk) (F x (by simp[Op.operands]) v hx);have:(execOp f o).run P w= .ok .skip w':=by grind [execOp,sB_,rA,sP_]
   rw[this];exact .skip inv st
 | call c=>
  rw[G] at h F;simp only[fX] at h;split at h
  ·rename_i g u;split at h
   ·rename_i T u2 y args X I;have C:∀x∈c.args.toList,∀v,ev x=some v->VR U v (f x):=fun x hx=>F x (by grind [Op.operands,Call.operands])
    have:=Nh (P:=P) (w:=w) W hi h hne (F g (by simp[Op.operands,Call.operands,u]) y X) (xs:=c.args.map f) (by simpa using gY I C);simpa only[execOp,G,resolve,u] using this
   grind
  ·rename_i u;split at h
   ·rename_i T s x I;subst h;have C:∀x∈c.args.toList,∀v,ev x=some v->VR U v (f x):=fun x hx=>F x (by simp[Op.operands,Call.operands,u];simpa using hx)
    obtain⟨ys,rs,e,h1,M⟩:=(gY I C).cons_inv;obtain⟨yx,rs',rfl,h3,R⟩:=M.cons_inv;have:=R.dX;subst this;have A:c.args.map f= #[ys,yx]:=by grind
    rw[bB] at hne;rw[bB];split at hne
    ·rename_i hc;rw[if_pos hc];have hv:=GH P V c.argTypes s x;cases E:fI P V c.argTypes s x with
     | val v V'=>
      obtain⟨z,w',U',g1,N,K,L⟩:=CS (P:=P) (ty:=o.type) hi E h1 h3
      have:(execOp f o).run P w= .ok (.value z) w':=by
       simp only[execOp,G,resolve,u,A,sB_,sP_,rA,invoke,builtin,g1]
      rw[this];exact .val N K L
     | err n=>simp_all
     | _=>rw[E] at hv;exact hv.elim
    rename_i hc;rw[if_neg hc];have hv:=En P V c.argTypes s x;cases E:rC P V c.argTypes s x with
    | val v V'=>
     obtain⟨z,w',U',g1,N,K,L⟩:=AL (P:=P) (ty:=o.type) hi E h1 h3
     have:(execOp f o).run P w= .ok (.value z) w':=by
      simp only[execOp,G,resolve,u,A,sB_,sP_,rA,invoke,builtin,g1]
     rw[this];exact .val N K L
    | err n=>simp_all
    | _=>rw[E] at hv;exact hv.elim
   grind
  ·rename_i u;split at h
   ·rename_i T s x I;have C:∀x∈c.args.toList,∀v,ev x=some v->VR U v (f x):=fun x hx=>F x (by simp[Op.operands,Call.operands,u];simpa using hx)
    obtain⟨ys,rs,e,h1,M⟩:=(gY I C).cons_inv;obtain⟨yx,rs',rfl,h3,R⟩:=M.cons_inv;have:=R.dX;subst this;have A:c.args.map f= #[ys,yx]:=by grind
    cases E:rH P V c.argTypes s x with
    | none=>grind
    | some V'=>
     rw[E] at h;subst h;obtain⟨w',g1,K,L⟩:=C6 (P:=P) (ty:=o.type) hi E h1 h3
     have:(execOp f o).run P w= .ok (.value (.tuple #[])) w':=by
      simp only[execOp,G,resolve,u,A,sB_,sP_,rA,invoke,builtin,g1]
     rw[this];exact .val (by simp only[VR];simp_all) K L
   grind
  ·rename_i u;split at h
   ·rename_i T s x I;subst h;have C:∀x∈c.args.toList,∀v,ev x=some v->VR U v (f x):=fun x hx=>F x (by simp[Op.operands,Call.operands,u];simpa using hx)
    obtain⟨ys,rs,e,h1,M⟩:=(gY I C).cons_inv;obtain⟨yx,rs',rfl,h3,R⟩:=M.cons_inv;have:=R.dX;subst this;have A:c.args.map f= #[ys,yx]:=by grind
    have hv:=No P V c.argTypes s x;cases E:wG P V c.argTypes s x with
    | val v V'=>
     obtain⟨z,w',U',g1,N,K,L⟩:=GX (P:=P) (ty:=o.type) hi E h1 h3
     have:(execOp f o).run P w= .ok (.value z) w':=by
      simp only[execOp,G,resolve,u,A,sB_,sP_,rA,invoke,builtin,g1]
     rw[this];exact .val N K L
    | err n=>simp_all
    | _=>rw[E] at hv;exact hv.elim
   grind
  ·rename_i u;split at h
   ·rename_i T x I;have C:∀x∈c.args.toList,∀v,ev x=some v->VR U v (f x):=fun x hx=>F x (by simp[Op.operands,Call.operands,u];simpa using hx)
    obtain⟨ys,rs,e,h1,M⟩:=(gY I C).cons_inv;have:=M.dX;subst this;have A:c.args.map f= #[ys]:=by grind
    cases E:vG P V c.argTypes x with
    | none=>grind
    | some V'=>
     rw[E] at h;subst h;obtain⟨w',g1,K,L⟩:=EH (P:=P) (ty:=o.type) hi E h1
     have:(execOp f o).run P w= .ok (.value (.tuple #[])) w':=by
      simp only[execOp,G,resolve,u,A,sB_,sP_,rA,invoke,builtin,g1]
     rw[this];exact .val (by simp only[VR];simp_all) K L
   grind
  ·rename_i u;split at h
   ·rename_i T x I;have C:∀x∈c.args.toList,∀v,ev x=some v->VR U v (f x):=fun x hx=>F x (by simp[Op.operands,Call.operands,u];simpa using hx)
    obtain⟨ys,rs,e,h1,M⟩:=(gY I C).cons_inv;have:=M.dX;subst this;have A:c.args.map f= #[ys]:=by grind
    cases E:I6 x with
    | none=>grind
    | some v=>
     rw[E] at h;subst h;obtain⟨z,g1,N⟩:=GY (P:=P) (w:=w) (ts:=c.argTypes) (ty:=o.type) E h1
     have:(execOp f o).run P w= .ok (.value z) w:=by
      simp only[execOp,G,resolve,u,A,sB_,sP_,rA,invoke,builtin,g1]
     rw[this];exact .val N hi<|eH.refl _ _ _
   grind
  ·rename_i u;split at h
   ·rename_i T s x I;have C:∀x∈c.args.toList,∀v,ev x=some v->VR U v (f x):=fun x hx=>F x (by simp[Op.operands,Call.operands,u];simpa using hx)
    obtain⟨ys,rs,e,h1,M⟩:=(gY I C).cons_inv;obtain⟨yx,rs',rfl,h3,R⟩:=M.cons_inv;have:=R.dX;subst this;have A:c.args.map f= #[ys,yx]:=by grind
    cases E:J6 P V c.argTypes[0]? s x with
    | none=>grind
    | some q=>
     obtain⟨q,V'⟩:=q;rw[E] at h;subst h;obtain⟨z,w',g1,N,K,L⟩:=Ir (P:=P) (ty:=o.type) hi E h1 h3
     have:(execOp f o).run P w= .ok (.value z) w':=by
      simp only[execOp,G,resolve,u,A,sB_,sP_,rA,invoke,builtin,g1]
     rw[this];exact .val N K L
   grind
  grind
 | convert src dst x=>
  rw[G] at h F;simp only[fX] at h;cases hx:ev x with
  | none=>grind
  | some a=>
   rw[hx] at h;dsimp only at h;cases E:mh P V src dst a with
   | val v V'=>
    rw[E] at h;subst h;obtain⟨z,w',U',g1,N,K,L⟩:=Ew (P:=P) hi E (F x (by simp[Op.operands]) a hx);have:(execOp f o).run P w= .ok (.value z) w':=by grind [execOp,sB_,rA,sP_]
    rw[this];exact .val N K L
   | err n=>grind
   | skip V'=>exact absurd E (sV P V src dst a 0 [] V').2.2
   | enter g args V'=>exact absurd E (sV P V src dst a g args V').1
   | round g args V'=>exact absurd E (sV P V src dst a g args V').2.1
   | kG q V'=>exact absurd E (GN P V src dst a q V')
 | panic x=>
  rw[G] at h F;simp only[fX] at h;split at h
  ·rename_i t v hx;subst h;have hv:=F x (by simp[Op.operands]) _ hx;have hv':=hv;simp only[VR] at hv';obtain⟨y,hf,_⟩:=hv'
   have:(execOp f o).run P w= .halt (.panic<|f x) w:=by
    simp only[execOp,G,hf,Instr.panic,sB_];rfl
   rw[this];exact .kG hv
  grind
 | _=>rw[G] at h;exact absurd h.symm<|hne 16
end
inductive Ex where
 | normal
 | exit (id:Nat)
 | goto (l:Nat)
 | ret
 | kG (v:Y)
inductive DE where
 | mark (b:Pos)
 | call (f:Nat) (args ca:List Y)
inductive CR where
 | ok (e:Ex) (t:PT Y) (d:List DE) (V:D)
 | err (n:Nat)
inductive KR where
 | ret (v:Y) (V:D)
 | kG (v:Y) (V:D)
 | err (n:Nat)
inductive Kind where
 | pure | read | alloc | kg
def isMap (P:Program) (t:Option TypeId):Bool:=
 match t with
 | some t=>match P.underlying t with | some (.map _ _)=>true | _=>false
 | none=>false
def toStr (P:Program) (src dst:TypeId):Bool:=
 match pN P src,pN P dst with
 | some (.slice _),some .string=>true
 | some (.pointer _),some .unsafePointer=>true
 | some .unsafePointer,some (.pointer _)=>true
 | _,_=>false
def ofStr (P:Program) (src dst:TypeId):Bool:=
 match pN P src,pN P dst with
 | some .string,some (.slice _)=>true
 | _,_=>false
def kindOf (P:Program):Op->Kind
 | .convert src dst _=>bif toStr P src dst then .read else(bif ofStr P src dst then .kg else .pure)
 | .load .. | .lookup ..=>.read
 | .alloc .. | .box .. | .buildSlice .. | .makeSlice .. | .makeMap ..=>.alloc
 | .store .. | .mapUpdate .. | .insert ..=>.kg
 | .call c=>match c.callee with
  | .builtin .len=>bif isMap P c.argTypes[0]? then .read else .pure
  | .builtin .min | .builtin .max | .builtin .cap=>.pure
  | _=>.kg
 | .defer _ | .panic _=>.kg
 | _=>.pure
structure ME where
 f:Nat
 args:List Y
 next:Nat
 l:List (Nat×cd)
 v:Y
 next':Nat
 l':List (Nat×cd)
structure Cx where
 gl:Nat
 ov:Nat->Bool
 fk:Nat->Bool
 PB:Nat->List Y->Option Y
 laid:List (Nat×List Y)
 mem:List Nat:=[]
 stop:Nat->List Y->D->Option Nat:=fun _ _ _=>none
 D9:Nat->List Y->D->Option (Y×D):=fun _ _ _=>none
def bA (G:Cx) (t:PT Y):Operand->Option Y
 | .tmp k=>t.get (posOf k)
 | .const v=>qM v
 | .global g=>bif Nat.ble (Nat.succ g) G.gl then some (.ptr (posOf g) 0) else none
 | .func f=>some (.func f [] [])
def BZ:Op->Nat
 | .move ..=>1
 | .assign ..=>2
 | .pick ..=>3
 | .alloc ..=>4
 | .box ..=>5
 | .build ..=>6
 | .buildSlice ..=>7
 | .insert ..=>8
 | .load ..=>9
 | .store ..=>10
 | .ready ..=>11
 | .waits ..=>12
 | .nilCheck ..=>13
 | .binOp ..=>14
 | .unOp ..=>15
 | .convert ..=>16
 | .sliceToArrayPointer ..=>17
 | .makeInterface ..=>18
 | .makeFunc ..=>19
 | .makeMap ..=>20
 | .makeChan ..=>21
 | .makeSlice ..=>22
 | .slice ..=>23
 | .fieldAddr ..=>24
 | .field ..=>25
 | .indexAddr ..=>26
 | .index ..=>27
 | .lookup ..=>28
 | .mapUpdate ..=>29
 | .mapEntry ..=>30
 | .entryStore ..=>31
 | .range ..=>32
 | .next ..=>33
 | .entry ..=>34
 | .typeAssert ..=>35
 | .extract ..=>36
 | .call ..=>37
 | .go ..=>38
 | .defer ..=>39
 | .panic ..=>40
 | .send ..=>41
 | .recv ..=>42
 | .select ..=>43
def dM (P:Program) (G:Cx) (ev:Operand->Option Y) (V:D) (op:Op):HR:=
 match kindOf P op with
 | .pure=>match dH P ev op with | some v=>.val v V | none=>.err (Nat.add 1000<|BZ op)
 | .read=>match gG P ev V op with | some v=>.val v V | none=>.err (Nat.add 2000<|BZ op)
 | .alloc=>match fV P ev op with | some (ob,mk)=>.val (mk.of V.next) (V.alloc ob) | none=>.err (Nat.add 3000<|BZ op)
 | .kg=>fX P G.ov ev V op
def dA (t:PT Y) (n:Nat) (dst:Option Nat) (v:Y):Option (PT Y):=
 match dst with
 | none=>some t
 | some k=>bif Nat.ble (Nat.succ k) n then some (t.put (some v)<|posOf k) else none
def unit:Y:=.tuple []
def bH (ops:Array Oper) (t:PT Y) (o:Oper):Option Bool:=
 match o.guard with
 | none=>some true
 | some (j,want)=>match(ops[j]?).bind (·.dst) with
  | some k=>match t.get (posOf k) with
   | some (.bool b)=>some (bif b then want else(bif want then false else true))
   | some (.tuple _)=>some false
   | _=>none
  | none=>some false
abbrev jX:=Code->PT Y->Nat->List DE->Option Pos->D->CR
def qT (n:Nat) (ks:List Nat) (vs:List Y) (t:PT Y):Option (PT Y):=
 List.rec (motive:=fun _=>List Y->PT Y->Option (PT Y)) (fun vs t=>List.rec (motive:=fun _=>Option<|PT Y) (some t) (fun _ _ _=>none) vs)
  (fun k _ ih vs t=>List.rec (motive:=fun _=>Option<|PT Y) none (fun v r _=>match dA t n (some k) v with | some t'=>ih r t' | none=>none) vs) ks vs t
def tw:Ex->Option Code
 | .normal=>none
 | .ret=>some .ret
 | .exit id=>some (.exit id)
 | .goto g=>some (.goto g)
 | .kG _=>none
def zr:Ex->Bool
 | .kG _=>true
 | _=>false
def r7:Ex->LoopState
 | .normal=>.ready
 | _=>.done
def Ay:Ex->Bool
 | .normal=>true
 | _=>false
def kI (ih:jX) (l:Pos) (args:List Y) (V:D):KR:=
 match V.m.get l with
 | some (.loop _ _ tmps n params assign body _)=>
  match qT n params args tmps with
  | some t=>match ih assign t n [] (some l) V with
   | .ok .normal t [] σ₁=>match σ₁.m.get l with
    | some (.loop .ready p tmps n' params assign body' df)=>
     match ih body t n [] (some l) (σ₁.setObj l (.loop .busy p tmps n' params assign body' df)) with
     | .ok e _ [] σ₂=>bif zr e then .err 67 else match σ₂.m.get l with
      | some (.loop _ _ tmps n params assign body df)=>.ret (.bool<|Ay e) (σ₂.setObj l (.loop (r7 e) (tw e) tmps n params assign body df))
      | _=>.err 61
     | .err k=>.err k
     | _=>.err 62
    | _=>.err 63
   | .err k=>.err k
   | _=>.err 64
  | none=>.err 65
 | _=>.err 66
def qd (n:Nat) (args:List Y):Option (PT Y):=
 List.rec (motive:=fun _=>Nat->PT Y->Option (PT Y)) (fun _ t=>some t) (fun v _ ih k t=>match dA t n (some k) v with | some t'=>ih (Nat.succ k) t' | none=>none) args 0 .leaf
def gj (P:Program) (t:PT Y) (V:D):ResultVar->Option Y
 | .tmp k=>t.get (posOf k)
 | .cell k ty=>match t.get (posOf k) with
  | some (.ptr b off)=>match V.m.get b with
   | some (.row cells _ _)=>match dE P ty with
    | some (some n)=>bif Nat.ble (off+n) (dt cells) then some (.agg<|takeN (dZ cells off) n) else none
    | some none=>nth cells off
    | none=>none
   | _=>none
  | _=>none
def ec (P:Program) (fn:Func) (t:PT Y) (V:D):Option Y:=
 match cX (gj P t V) fn.results.toList with
 | some [v]=>some v
 | some vs=>some (.tuple vs)
 | none=>none
inductive Md where
 | ret
 | kG (v:Y)
 | Xj (v:Y)
def qG (P:Program) (G:Cx) (ih:jX) (d:List DE):Md->D->Option (Md×D):=
 List.rec (motive:=fun _=>Md->D->Option (Md×D)) (fun md V=>some (md,V))
  (fun e _ k md V=>match e with
   | .mark b=>match V.m.get b with
    | some .mark=>k md (V.setObj b .dead)
    | _=>none
   | .call _ _ _=>none) d
def yI (P:Program) (G:Cx) (ih:jX) (fn:Func) (md:Md) (t:PT Y) (d:List DE) (V:D):KR:=
 match qG P G ih d md V with
 | some (.ret,V)=>match ec P fn t V with | some v=>.ret v V | none=>.err 70
 | some (.kG v,V)=>.kG v V
 | _=>.err 71
def nc (P:Program) (G:Cx) (ih:jX) (f:Nat) (args:List Y) (V:D):KR:=
 match P.funcs[f]? with
 | some fn=>match fn.body,qd fn.ntmps args with
  | some c,some t=>match ih c t fn.ntmps [] none V with
   | .ok .normal t d V=>yI P G ih fn .ret t d V
   | .ok .ret t d V=>yI P G ih fn .ret t d V
   | .ok (.kG v) t d V=>yI P G ih fn (.kG v) t d V
   | .err k=>.err k
   | _=>.err 72
  | _,_=>.err 73
 | none=>.err 74
def vU (r:KR):KR:=
 match r with
 | .kG _ _=>.err 69
 | r=>r
def sD:Y->Bool
 | .bool _ | .int _ _ | .str _ | .nilPtr | .aw | .iy | .nilFunc | .nilIface=>true
 | _=>false
def e6 (l:List Y):Bool:=List.rec (motive:=fun _=>Bool) true (fun v _ r=>bif sD v then r else false) l
def Db (x y:Y):Bool:=
 match x,y with
 | .bool a,.bool b=>bif a then b else(bif b then false else true)
 | .int j a,.int k b=>uj j k && bD a b
 | .str a,.str b=>wL a b
 | .nilPtr,.nilPtr=>true
 | .aw,.aw=>true
 | .iy,.iy=>true
 | .nilFunc,.nilFunc=>true
 | .nilIface,.nilIface=>true
 | _,_=>false
def lL (xs ys:List Y):Bool:=
 List.rec (motive:=fun _=>List Y->Bool) (fun ys=>List.rec (motive:=fun _=>Bool) true (fun _ _ _=>false) ys)
  (fun x _ ih ys=>List.rec (motive:=fun _=>Bool) false (fun y r _=>bif Db x y then ih r else false) ys) xs ys
def JK (n:Nat) (v:Y):List Y:=Nat.rec (motive:=fun _=>List Y) [] (fun _ l=>v::l) n
def fZ (V:D) (b:Pos) (o:cd) (vb:Pos) (o':cd):D:={next:=V.next,m:=(PT.leaf.put (some o) b).put (some o') vb}
def xL (vb:Pos) (vc:List Y) (ve e sz:Nat) (r:KR) (ok:oY->Nat->Bool):Option (Nat×List Y):=
 match r with
 | .ret (.slice b1 o1 n1 c1) σ1=>
  match σ1.m.get b1,σ1.m.get vb with
  | some (.row cs1 e1 false),some (.row vc1 ve1 false)=>
   bif ok c1 n1 && ((bif uO b1 vb then false else true) && (lL vc vc1 && (Nat.beq ve ve1 && (Nat.beq e e1 && (Nat.ble 1 n1 && (Nat.ble (o1+n1*sz) (dt cs1) && e6 (takeN (dZ cs1 o1) (n1*sz)))))))) then
    some (n1,takeN (dZ cs1 o1) (n1*sz))
   else none
  | _,_=>none
 | _=>none
def Hr (sz:Nat) (c:oY) (_:Nat):Bool:=
 match c with
 | .upto s=>Nat.beq s sz
 | _=>false
def Dl (sz:Nat) (c:oY) (n:Nat):Bool:=
 match c with
 | .least a s=>Nat.beq s sz && Nat.ble n a
 | _=>false
def NP (P:Program) (G:Cx) (ih:jX) (f:Nat) (args:List Y) (V:D):KR:=
 match args with
 | [.slice b off n (.upto sz),i,.slice vb voff m (.known mc)]=>
  match V.m.get b,V.m.get vb with
  | some (.row cells e false),some (.row vc ve false)=>
   bif (bif uO b vb then false else true) && (Nat.ble 1 n && (Nat.beq m 1 && (sD i && (e6 vc && Nat.ble (off+n*sz) (dt cells))))) then
    match xL vb vc ve e sz (nc P G ih f [.slice b off n (.known n),i,.slice vb voff m (.known mc)]<|fZ V b (.row cells e false) vb (.row vc ve false)) (Hr sz),
     xL vb vc ve e sz (nc P G ih f [.slice b off n (.least (Nat.succ n) sz),i,.slice vb voff m (.known mc)]<|fZ V b (.row (gV (takeN cells (off+n*sz))<|JK sz .any) e false) vb (.row vc ve false)) (Dl sz) with
    | some (n1,r1),some (n2,r2)=>bif Nat.beq n1 n2 && lL r1 r2 then .ret (.slice V.next 0 n1 (.upto sz)) ((V.drop b).alloc (.row r1 e false)) else .err 75
    | _,_=>.err 76
   else .err 77
  | _,_=>.err 78
 | _=>nc P G ih f args V
def kB (gl:Nat) (V:D) (l:List (Nat×List Y)):Bool:=
 List.rec (motive:=fun _=>Bool) true (fun x _ r=>bif Nat.ble (Nat.succ x.1) gl then(match V.m.get x.1 with
  | some (.row cells _ true)=>bif e6 x.2 then(bif lL cells x.2 then r else false) else false
  | _=>false) else false) l
def dV (x y:Y):Bool:=
 match x,y with
 | .agg xs,.agg ys=>beqL xs ys
 | x,y=>pj x y
where
 beqP (p q:Pos):Bool:=Nat.beq p q
 beqC (c d:oY):Bool:=
  match c,d with
  | .known a,.known b=>Nat.beq a b
  | .upto a,.upto b=>Nat.beq a b
  | _,_=>false
 pj (x y:Y):Bool:=
  match x,y with
  | .bool a,.bool b=>bif a then b else(bif b then false else true)
  | .int j a,.int k b=>uj j k && bD a b
  | .str a,.str b=>wL a b
  | .nilPtr,.nilPtr=>true
  | .tok a,.tok b=>Nat.beq a b
  | .ptr b o,.ptr b' o'=>beqP b b' && Nat.beq o o'
  | .aw,.aw=>true
  | .slice b o l c,.slice b' o' l' c'=>beqP b b' && Nat.beq o o' && Nat.beq l l' && beqC c c'
  | .iy,.iy=>true
  | .map b,.map b'=>beqP b b'
  | .nilFunc,.nilFunc=>true
  | .nilIface,.nilIface=>true
  | .func f [] [],.func g [] []=>Nat.beq f g
  | .func f [] [.ptr b o],.func g [] [.ptr b' o']=>Nat.beq f g && beqP b b' && Nat.beq o o'
  | _,_=>false
 beqL (xs ys:List Y):Bool:=
  List.rec (motive:=fun _=>List Y->Bool) (fun ys=>List.rec (motive:=fun _=>Bool) true (fun _ _ _=>false) ys)
   (fun x _ ih ys=>List.rec (motive:=fun _=>Bool) false (fun y r _=>bif pj x y then ih r else false) ys) xs ys
def Hw (l:List (Nat×List Y)) (E:Nat->TypeId):PT cd:=l.foldl (fun m x=>m.put (some (.row x.2 (E x.1) true)) (posOf x.1)) .leaf
def atEnd (args:List Y):Bool:=
 match args with
 | [.slice _ _ n _,.int _ (.ofNat j),_]=>Nat.beq j n
 | _=>false
def NQ (P:Program) (G:Cx) (ih:jX) (f:Nat) (args:List Y) (V:D):KR:=bif atEnd args then nc P G ih f args V else NP P G ih f args V
def j0 (P:Program) (G:Cx) (ih:jX) (f:Nat) (args:List Y) (V:D):KR:=
 match G.D9 f args V with
 | some r=>.ret r.1 r.2
 | none=>match G.PB f args with
 | some v=>bif e6 args && (sD v && kB G.gl V G.laid) then .ret v V else .err 79
 | none=>match G.stop f args V with
   | some c=>.err c
   | none=>bif G.fk f then vU (NQ P G ih f args V) else nc P G ih f args V
def lr (P:Program) (G:Cx) (ih:jX) (r:HR):KR:=
 match r with
 | .val v V=>.ret v V
 | .skip V=>.ret unit V
 | .enter f args V=>j0 P G ih f args V
 | .round l args V=>kI ih l args V
 | .kG v V=>.kG v V
 | .err e=>.err e
def RQ (pn:Bool) (v:Y) (t:PT Y) (V:D):CR:=bif pn then .ok (.kG v) t [] V else .err 69
def iS (P:Program) (G:Cx) (ih:jX) (pn:Bool) (ops:Array Oper) (n:Nat) (o:Oper) (t:PT Y) (V:D) (k:PT Y->D->CR):CR:=
 match bH ops t o with
 | some true=>match lr P G ih (dM P G (bA G t) V o.op) with
  | .ret v V'=>match dA t n o.dst v with | some t'=>k t' V' | none=>.err 80
  | .kG v V'=>RQ pn v t V'
  | .err e=>.err e
 | some false=>match dA t n o.dst unit with | some t'=>k t' V | none=>.err 84
 | none=>.err 85
def uE (P:Program) (G:Cx) (ih:jX) (ops:Array Oper) (n:Nat) (d:List DE) (l:List Oper):PT Y->D->CR:=
 List.rec (motive:=fun _=>PT Y->D->CR) (fun t V=>.ok .normal t d V)
  (fun o _ k t V=>iS P G ih true ops n o t V k) l
def sU (A:Array Nat) (i j:Nat):Bool:=(A.getD i 0).testBit j
def waits (ops:Array Oper) (i j:Nat):Bool:=((ops[i]?).map fun o=>o.after.any fun e=>Region.binds .any e && e.on == j).getD false
def Ho:Kind->Bool
 | .kg=>true
 | _=>false
def vO:Kind->Bool
 | .read | .alloc=>true
 | _=>false
def jK (P:Program) (ops:Array Oper) (i:Nat):Bool:=match(ops[i]?).map fun o=>kindOf P o.op with | some k=>Ho k | none=>false
def gh (P:Program) (ops:Array Oper) (i:Nat):Bool:=match(ops[i]?).map fun o=>kindOf P o.op with | some k=>vO k | none=>false
def slotsOf (ops:Array Oper) (o:Oper):List Nat:=
 (o.op.operands.toList.filterMap fun | .tmp k=>some k | _=>none)++(match o.guard with | some (j,_)=>((ops[j]?).bind (·.dst)).toList | none=>[])
def fl (ops:Array Oper) (i:Nat):Option Nat:=(ops[i]?).bind (·.dst)
def bit (i:Nat):Nat:=Nat.shiftLeft 1 i
def hasB (m i:Nat):Bool:=Nat.beq (Nat.land (Nat.shiftRight m i) 1) 1
def DN (m k:Nat):Bool:=Nat.beq (Nat.land m k) m
def nM (l:List Nat):Nat:=List.rec (motive:=fun _=>Nat) 0 (fun i _ r=>Nat.lor (bit i) r) l
structure Row where
 w:Nat
 h:Bool
 k:Bool
 d:Option Nat
 dm:Nat
 s:Nat
def Aa (P:Program) (ops:Array Oper) (o:Oper):Row:=
 {w:=nM (o.after.toList.filterMap fun e=>if Region.binds .any e=true then some e.on else none),h:=Ho<|kindOf P o.op,k:=vO<|kindOf P o.op,d:=o.dst,dm:=nM o.dst.toList,s:=nM (slotsOf ops o)}
structure RA where
 r:Row
 a:Nat
def zM (L:List RA):Nat->Nat:=
 List.rec (motive:=fun _=>Nat->Nat) (fun _=>0) (fun x _ ih w=>Nat.lor (Bool.rec (motive:=fun _=>Nat) 0 x.a<|Nat.beq (Nat.land w 1) 1) (ih<|Nat.shiftRight w 1)) L
def OX (rows:List Row):List RA->List RA:=
 List.rec (motive:=fun _=>List RA->List RA) (fun L=>L) (fun r _ ih L=>ih (gV L [⟨r,Nat.lor r.w<|zM L r.w⟩])) rows
def jr (P:Program) (ops:Array Oper):List RA:=OX (AT (Aa P ops) ops.toList) []
def allI {α:Type} (f:Nat->α->Bool) (l:List α):Nat->Bool:=List.rec (motive:=fun _=>Nat->Bool) (fun _=>true) (fun x _ ih i=>Bool.rec (motive:=fun _=>Bool) false (ih<|Nat.succ i) (f i x)) l
def S6 {α:Type} (f:Nat->α->Bool) (l:List α):Nat->Option Nat:=List.rec (motive:=fun _=>Nat->Option Nat) (fun _=>none) (fun x _ ih i=>Bool.rec (motive:=fun _=>Option Nat) (ih<|Nat.succ i) (some i) (f i x)) l
def Vk {α:Type} (f:Nat->α->Bool) (l:List α):Nat->List Nat:=List.rec (motive:=fun _=>Nat->List Nat) (fun _=>[]) (fun x _ ih i=>Bool.rec (motive:=fun _=>List Nat) (ih<|Nat.succ i) (i::ih (Nat.succ i)) (f i x)) l
def FB (i:Nat) (x:RA) (j:Nat) (y:RA):Bool:=
 Option.rec (motive:=fun _=>Bool) true (fun k=>bif (bif hasB x.r.dm k then Nat.beq j i else true) then(bif hasB x.r.s k then(bif hasB x.a j then true else(bif x.r.k then false else(bif Nat.beq j i then true else hasB y.a i))) else true) else false) y.r.d
def OO (i:Nat) (x:RA) (j:Nat) (y:RA):Bool:=Bool.rec (motive:=fun _=>Bool) (FB i x j y) true (Nat.beq (Nat.land (Nat.lor x.r.dm x.r.s) y.r.dm) 0)
def Ps (L:List RA) (n:Nat):Bool:=
 allI (fun i x=>bif Nat.blt x.r.w (bit n) then(bif (bif x.r.k then x.r.d.isSome else true) then(bif DN x.a (Nat.lor x.r.w<|zM L x.r.w) then allI (OO i x) L 0 else false) else false) else false) L 0
def VB (L:List RA) (fuel:Nat):Nat->List (Nat×List Nat):=
 Nat.rec (motive:=fun _=>Nat->List (Nat×List Nat)) (fun _=>[])
  (fun _ ih D_=>Option.rec (motive:=fun _=>List (Nat×List Nat))
   (Option.rec (motive:=fun _=>List (Nat×List Nat)) [] (fun i=>(i,Option.rec (motive:=fun _=>List Nat) [] (fun x=>Vk (fun j y=>bif hasB D_ j then(bif y.r.k then(bif hasB x.a j then false else true) else false) else false) L 0) (nth L i))::ih (Nat.lor D_ (bit i)))
   <|S6 (fun i x=>Bool.rec (motive:=fun _=>Bool) (DN x.r.w D_) false (hasB D_ i)) L 0)
   (fun i=>(i,[])::ih (Nat.lor D_<|bit i))<|S6 (fun i x=>Bool.rec (motive:=fun _=>Bool) (Bool.rec (motive:=fun _=>Bool) (DN x.r.w D_) false x.r.h) false (hasB D_ i)) L 0) fuel
def NW (L:List RA) (i:Nat) (rc:List Nat) (D_:Nat) (x:RA):Bool:=
 bif hasB D_ i then false else(bif DN x.r.w D_ then(bif x.r.h then allI (fun j y=>bif hasB D_ j then(bif hasB x.a j then true else(bif y.r.k then hasB (nM rc) j else true)) else(bif Nat.beq j i then true else(bif DN y.r.w D_ then false else true))) L 0 else true) else false)
def GP (L:List RA) (n:Nat) (p:List (Nat×List Nat)):Nat->Bool:=
 List.rec (motive:=fun _=>Nat->Bool) (fun D_=>Nat.beq D_ (Nat.sub (bit n) 1))
  (fun p _ ih D_=>Option.rec (motive:=fun _=>Bool) false (fun x=>bif NW L p.1 p.2 D_ x then ih (Nat.lor D_<|bit p.1) else false) (nth L p.1)) p
def lS (P:Program) (ops:Array Oper):List (Nat×List Nat):=VB (jr P ops) ops.size 0
def vM (P:Program) (ops:Array Oper):Bool:=bif Ps (jr P ops) ops.size then GP (jr P ops) ops.size (lS P ops) 0 else false
def kL (P:Program) (G:Cx) (ops:Array Oper) (t:PT Y) (V:D) (i:Nat):Bool:=
 match ops[i]? with
 | some o=>match bH ops t o with
  | some true=>match o.dst with
   | some k=>match t.get (posOf k) with
    | some v=>match kindOf P o.op with
     | .read=>match gG P (bA G t) V o.op with | some u=>dV u v | none=>false
     | .alloc=>match fV P (bA G t) o.op,v with
      | some (.row cs e false,.ptr),.ptr b 0=>match V.m.get b with | some (.row cs' e' false)=>Nat.beq e e' && dV.beqL cs cs' | _=>false
      | some (.row cs e false,.slice n c),.slice b 0 n' (.known c')=>match V.m.get b with | some (.row cs' e' false)=>Nat.beq e e' && dV.beqL cs cs' && Nat.beq n n' && Nat.beq c c' | _=>false
      | _,_=>false
     | _=>false
    | none=>false
   | none=>false
  | some false=>true
  | none=>false
 | none=>false
def dw (P:Program) (G:Cx) (ops:Array Oper) (t:PT Y) (V:D) (l:List Nat):Bool:=
 List.rec (motive:=fun _=>Bool) true (fun i _ r=>bif kL P G ops t V i then r else false) l
def ki (P:Program) (G:Cx) (ih:jX) (ops:Array Oper) (n:Nat) (d:List DE) (l:List (Nat×List Nat)):PT Y->D->CR:=
 List.rec (motive:=fun _=>PT Y->D->CR) (fun t V=>.ok .normal t d V)
  (fun p _ k t V=>match ops[p.1]? with
   | some o=>iS P G ih false ops n o t V (fun t' V'=>bif dw P G ops t' V' p.2 then k t' V' else .err 86)
   | none=>.err 87) l
def wH (P:Program) (G:Cx) (ih:jX) (ops:Array Oper) (n:Nat) (d:List DE) (t:PT Y) (V:D):CR:=
 bif vM P ops then ki P G ih ops n d (lS P ops) t V else .err 88
def Bz (c:Option Y) (x y:CR):CR:=
 match c with
 | some (.bool true)=>x
 | some (.bool false)=>y
 | _=>.err 90
def xB (r:CR) (k:PT Y->List DE->D->CR):CR:=
 match r with
 | .ok .normal t d V=>k t d V
 | r=>r
def qh (id:Nat) (r:CR):CR:=
 match r with
 | .ok (.exit j) t d V=>bif Nat.beq j id then .ok .normal t d V else .ok (.exit j) t d V
 | r=>r
def wb (r:CR):CR:=
 match r with
 | .ok (.goto _) _ _ _=>.err 98
 | r=>r
def vR (ro:Option Pos) (d:List DE) (V:D):Option (Pos×D×List DE):=
 match ro with
 | none=>some (V.next,V.alloc .mark,DE.mark V.next::d)
 | some l=>match V.m.get l with
  | some (.loop _ _ _ _ _ _ _ df)=>some (df,V,d)
  | _=>none
def vw (ih:jX) (l:Pos) (t:PT Y) (n:Nat) (d:List DE) (ro:Option Pos) (V:D):CR:=
 match V.m.get l with
 | some (.loop st p tmps n' ps asg bd df)=>
  match st with
  | .busy=>.err 91
  | _=>match p with
   | none=>.ok .normal t d (V.setObj l (.loop .exhausted none tmps n' ps asg bd df))
   | some c=>ih c t n d ro (V.setObj l (.loop .exhausted (some c) tmps n' ps asg bd df))
 | _=>.err 92
def qV (P:Program) (G:Cx) (ih:jX) (g:Operand) (ps:Array Tmp) (assign body:Code) (t:PT Y) (n:Nat) (d:List DE) (ro:Option Pos) (V:D):CR:=
 match vR ro d V with
 | some (df,σ₁,d₁)=>
  match bA G t g with
  | some (.func f fi ca)=>bif lz P f then
    match j0 P G ih f (gV fi (.yield σ₁.next::ca)) (σ₁.alloc (.loop .ready none t n ps.toList assign body df)) with
    | .ret _ σ₃=>vw ih σ₁.next t n d₁ ro σ₃
    | .kG _ _=>.err 89
    | .err e=>.err e
   else .err 93
  | _=>.err 94
 | none=>.err 95
def Vj (o:Oper):Bool:=
 match o.op with
 | .defer _=>true
 | _=>false
def mJ (ops:List Oper):Bool:=ops.any Vj
def EZ (d:List DE) (r:CR):CR:=
 match r with
 | .ok (.kG v) t _ V=>.ok (.kG v) t d V
 | r=>r
def JV (P:Program) (G:Cx) (ih:jX) (c:Code) (t:PT Y) (n:Nat) (d:List DE) (ro:Option Pos) (V:D):CR:=
 match c with
 | .skip | .label _=>.ok .normal t d V
 | .region _ ops draw=>bif draw then wH P G ih ops n d t V else bif mJ ops.toList then .err 96 else EZ d (uE P G ih ops n d ops.toList t V)
 | .seq a b=>xB (ih a t n d ro V) (fun t d V=>ih b t n d ro V)
 | .cond c a b=>Bz (bA G t c) (ih a t n d ro V) (ih b t n d ro V)
 | .block id b=>qh id (ih b t n d ro V)
 | .scope b=>wb (ih b t n d ro V)
 | .loop b=>xB (ih b t n d ro V) (fun t d V=>ih (.loop b) t n d ro V)
 | .exit id=>.ok (.exit id) t d V
 | .ret=>.ok .ret t d V
 | .rangeFunc g ps assign body=>qV P G ih g ps assign body t n d ro V
 | _=>.err 99
def ed (P:Program) (G:Cx) (fuel:Nat):jX:=Nat.rec (motive:=fun _=>jX) (fun _ _ _ _ _ _=>.err 100) (fun _ ih=>JV P G ih) fuel
def yS (P:Program) (G:Cx) (fuel:Nat) (f:Nat) (args:List Y) (V:D):KR:=j0 P G (ed P G fuel) f args V
variable {ops:Array Oper} {tmps:Array Value}
def lM:Option Nat->Fence
 | none=>Fence.wide
 | some l=>Fence.wide.inRound l
theorem nq (rl:Option Nat) (f:FuncId):(lM rl).fn f:=by cases rl<;>trivial
theorem Hd (rl:Option Nat):(lM rl).depth=none:=by cases rl<;>rfl
theorem He (rl:Option Nat):(lM rl).round=rl:=by cases rl<;>rfl
theorem rK (rl:Option Nat) (m:Nat):(lM rl).depth.isSome=true->1<=m:=by rw[Hd];intro h;cases h
theorem tk {m:Nat} {P:Program} {f:FuncId} {args:Array Value} {w:World} {R:Ending->World->Prop} (rl:Option Nat) (h:CallsIn Fence.wide m P f args w R):CallsIn (lM rl) m P f args w R:=by
 cases rl with
 | none=>exact h
 | some l=>exact h.inRound l
theorem Ra (rl:Option Nat) (l:Nat):(lM rl).inRound l=lM (some l):=by cases rl<;>rfl
def DR (U:Ren):List DE->List Deferred->Prop
 | [],ds=>ds= []
 | .mark b::d,ds=>∃l r,U b=some l/\ds= {target:=.collected l.de,args:= #[]}::r/\DR U d r
 | .call f args ca::d,ds=>∃(xs cs:Array Value) (r:List Deferred),ds= {target:=.fn (.func f) cs,args:=xs}::r/\di U args xs.toList/\di U ca cs.toList/\DR U d r
theorem DR.mono {U U':Ren} (h:U.le U'):∀{d:List DE} {ds:List Deferred},DR U d ds->DR U' d ds
 | [],ds,u=>u
 | .mark b::d,ds,u=>let ⟨l,r,h1,A,h3⟩:=u;⟨l,r,h _ _ h1,A,DR.mono h h3⟩
 | .call f args ca::d,ds,u=>let ⟨xs,cs,r,h1,A,h3,C⟩:=u;⟨xs,cs,r,h1,di.mono h _ _ A,di.mono h _ _ h3,DR.mono h C⟩
def Q8:Ex->Exit
 | .normal=>.normal
 | .exit i=>.exit i
 | .goto i=>.goto i
 | .ret=>.ret
 | .kG _=>.normal
def WA (U:Ren):Ex->Exit->Prop
 | .kG v,E=>∃x,E= .panic [{v:=x,recovered:=false}]/\VR U v x
 | .normal,E=>E= .normal
 | .exit i,E=>E= .exit i
 | .goto i,E=>E= .goto i
 | .ret,E=>E= .ret
def Qx (Q:Exit->Act->World->Prop) (U:Ren) (e:Ex) (a:Act) (w:World):Prop:=∀E,WA U e E->Q E a w
def U0 (U:Ren):KR->Ending->Prop
 | .ret v _,e=>∃x,e= .returned x/\VR U v x
 | .kG v _,e=>∃x,e= .panicked [{v:=x,recovered:=false}]/\VR U v x
 | .err _,_=>False
def KR.heap:KR->D
 | .ret _ V=>V
 | .kG _ V=>V
 | .err _=>⟨0,.leaf⟩
def RO (U:Ren):Option Pos->Option Nat->Prop
 | none,none=>True
 | some b,some l=>∃loc,U b=some loc/\loc.de=l
 | _,_=>False
theorem RO.mono {U U':Ren} (h:U.le U'):∀{ro:Option Pos} {rl:Option Nat},RO U ro rl->RO U' ro rl
 | none,none,_=>trivial
 | some _,some _,⟨loc,h1,u⟩=>⟨loc,h _ _ h1,u⟩
def GR (U:Ren) (G:Cx):Prop:=∀g,g<G.gl->∃c,U (posOf g)=some ⟨g,0,c⟩
theorem GR.mono {U U':Ren} {G:Cx} (h:U.le U') (A:GR U G):GR U' G:=fun g u=>let ⟨c,hc⟩:=A g u;⟨c,h _ _ hc⟩
structure iK (w w':World):Prop where
 os:w'.os=w.os
 out:w'.output=w.output/\w.drawn<=w'.drawn
 tape:w'.tape=w.tape
 size:w.heap.size<=w'.heap.size
 same:∀r:Nat,r<w.heap.size->w'.heap[r]? =w.heap[r]?
def ll (w:World) (x:Nat×List Y):Prop:=∃c e fr,w.heap[x.1]? =some (.cells c e fr)/\x.2.length<=c.size/\∀(i:Nat) (v:Y),x.2[i]? =some v->∃y,c[i]? =some y/\VR (fun _=>none) v y
def IH (P:Program) (gl:Nat) (laid:List (Nat×List Y)) (f:Nat) (args:List Y) (v:Y):Prop:=
 ∀(w:World) (xs:Array Value),gl<=w.heap.size->MO w->(∀x∈laid,ll w x)->di (fun _=>none) args xs.toList->Calls P f xs w fun e w'=>∃x,e= .returned x/\VR (fun _=>none) v x/\iK w w'
structure AG (P:Program) (G:Cx):Prop where
 ov:∀g,G.ov g=true->x8 P g
 PB:∀f args v,G.PB f args=some v->IH P G.gl G.laid f args v
 mem:∀e∈G.mem,True
 D9:∀f args V v V',G.D9 f args V=some (v,V')->∀(U:Ren) (w:World) (xs:Array Value),Inv U V w->GR U G->di U args xs.toList->Calls P f xs w fun e w'=>∃x U',e= .returned x/\VR U' v x/\Inv U' V' w'/\eH U V w U' V' w'
structure Sound (P:Program) (G:Cx) (ih:jX):Prop where
 cx:AG P G
 run:∀(c:Code) (t:PT Y) (n:Nat) (d:List DE) (ro:Option Pos) (V:D) (e:Ex) (t':PT Y) (d':List DE) (V':D),ih c t n d ro V= .ok e t' d' V'->
  ∀(U:Ren) (w:World) (a:Act) (rl:Option Nat) (m:Nat) (Q:Exit->Act->World->Prop),Inv U V w->GR U G->TR U t n a.tmps->DR U d a.defers->RO U ro rl->
   (∀(U':Ren) (w':World) (a':Act),Inv U' V' w'->eH U V w U' V' w'->TR U' t' n a'.tmps->DR U' d' a'.defers->Qx Q U' e a' w')->c.wpIn (lM rl) m P Q a w
section
variable {P:Program} {G:Cx} {U:Ren} {V:D} {w:World}
theorem TR.set {t:PT Y} {n k:Nat} {v:Y} {x:Value} (h:TR U t n tmps) (hk:k<n) (hv:VR U v x):TR U (t.put (some v)<|posOf k) n (tmps.setIfInBounds k x):=by
 refine⟨by simpa using h.1,fun j u hu=>?_⟩
 by_cases e:j=k
 ·subst e;rw[PT.dR] at hu;cases hu;refine⟨hk,?_⟩;have:j<tmps.size:=by rw[h.1];exact hk
  simp_all
 rw[PT.dD _ _ _ _ (fun h'=>e (rU h'))] at hu;obtain⟨h1,A⟩:=h.2 j u hu;refine⟨h1,?_⟩
 have:(tmps.setIfInBounds k x).getD j undef=tmps.getD j undef:=by
  simp only[Array.getD_eq_getD_getElem?,Array.getElem?_setIfInBounds]
  grind
 rw[this];exact A
theorem rW {t t':PT Y} {n k:Nat} {v:Y} (h:dA t n (some k) v=some t'):k<n/\t'=t.put (some v) (posOf k):=by
 unfold dA at h;simp only[bB] at h;split at h
 ·rename_i hk;cases h;exact⟨Nat.le_of_ble_eq_true hk,Z⟩
 cases h
theorem TR.put {t t':PT Y} {n:Nat} {a:Act} {dst:Option Tmp} {v:Y} {x:Value} (h:TR U t n a.tmps) (hp:dA t n dst v=some t') (hv:VR U v x):TR U t' n (a.put dst x).tmps:=by
 cases dst with
 | none=>cases hp;exact h
 | some k=>
  obtain⟨hk,rfl⟩:=rW hp;exact h.set hk hv
theorem put_defers (a:Act) (dst:Option Tmp) (x:Value):(a.put dst x).defers=a.defers:=by cases dst<;>rfl
theorem xF:VR U unit undef:=by simp only[unit,VR];exact⟨_,Z,di.nil⟩
theorem jb {t:PT Y} {n:Nat} {a:Act} {v:Y} (A:GR U G) (C:TR U t n a.tmps) (h:bA G t x=some v):VR U v (a.eval x):=by
 cases x with
 | tmp k=>exact(C.2 k v h).2
 | const c=>exact qN h
 | global g=>
  simp only[bA,bB] at h;split at h
  ·rename_i u;cases h;obtain⟨c,hc⟩:=A g (Nat.le_of_ble_eq_true u);simp only[VR];exact⟨_,hc,by simp[Act.eval]⟩
  cases h
 | func f=>
  cases h;simp only[VR];exact⟨_,_,Z,di.nil,di.nil⟩
theorem SN {t:PT Y} {n:Nat} {a:Act} (op:Op) (u:GR U G) (A:TR U t n a.tmps):ER U (bA G t) a.eval op:=fun _ _ _ hv=>jb u A hv
theorem CB {t:PT Y} {o:Oper} {b:Bool} (h:bH ops t o=some b)
  (E:∀j want k,o.guard=some (j,want)->(ops[j]?).bind (·.dst)=some k->∀v,t.get (posOf k)=some v->k<tmps.size/\VR U v (tmps.getD k undef)):
  Region.wanted o (yielded ops tmps)=b:=by
 unfold bH at h;unfold Region.wanted;cases C:o.guard with
 | none=>simp_all
 | some jw=>
  obtain⟨j,want⟩:=jw;rw[C] at h;dsimp only at h⊢;cases hk:(ops[j]?).bind (·.dst) with
  | none=>
   rw[hk] at h;cases h;simp[yielded,hk]
  | some k=>
   rw[hk] at h;dsimp only at h;cases hv:t.get (posOf k) with
   | none=>rw[hv] at h;cases h
   | some v=>
    rw[hv] at h;obtain⟨aa,A⟩:=E j want k C hk v hv
    have u:tmps[k]? =some (tmps.getD k undef):=by
     simp_all
    generalize tmps.getD k undef=x at A u;cases v with
    | bool c=>
     simp only[VR] at A;subst A;simp only[yielded,hk,Option.bind_some,u];cases h
     grind
    | tuple cs=>
     simp only[VR] at A;obtain⟨y,rfl,_⟩:=A;cases h;simp[yielded,hk,u]
    | _=>cases h
theorem D0 {t:PT Y} {o:Oper} {b:Bool} {n:Nat} (h:bH ops t o=some b) (u:TR U t n tmps):Region.wanted o (yielded ops tmps)=b:=
 CB h fun _ _ k _ _ v hv=>⟨by rw[u.1];exact(u.2 k v hv).1,(u.2 k v hv).2⟩
theorem uH {n:Nat}:∀(ks:List Nat) (vs:List Y) (t t':PT Y) (tmps:Array Value) (xs:List Value),qT n ks vs t=some t'->TR U t n tmps->di U vs xs->
  ks.length=xs.length/\TR U t' n ((ks.zip xs).foldl (fun tmps (t,a)=>tmps.setIfInBounds t a) tmps)
 | [],[],t,t',tmps,xs,h,u,hv=>by
  rw[hv.dX];have h':some t=some t':=h;cases h';exact⟨Z,u⟩
 | [],_::_,_,_,_,_,h,_,_=>by have h':(none:Option (PT Y))=some _:=h;cases h'
 | _::_,[],_,_,_,_,h,_,_=>by have h':(none:Option (PT Y))=some _:=h;cases h'
 | k::ks,v::vs,t,t',tmps,xs,h,u,hv=>by
  obtain⟨x,r,rfl,h1,A⟩:=hv.cons_inv;have h':(match dA t n (some k) v with | some t'=>qT n ks vs t' | none=>none)=some t':=h;cases hp:dA t n (some k) v with
  | none=>rw[hp] at h';cases h'
  | some t₁=>
   rw[hp] at h';obtain⟨hk,rfl⟩:=rW hp;obtain⟨g1,C⟩:=uH ks vs _ t' (tmps.setIfInBounds k x) r h' (u.set hk h1) A;exact⟨by simp[g1],C⟩
theorem GI {n:Nat} {args:List Y} {t:PT Y} (h:qd n args=some t) (hv:di U args xs.toList):TR U t n (xs++Array.replicate (n-xs.size) undef):=by
 have key:∀(args:List Y) (ys:List Value) (k:Nat) (t t':PT Y),(List.rec (motive:=fun _=>Nat->PT Y->Option (PT Y)) (fun _ t=>some t) (fun v _ ih k t=>match dA t n (some k) v with | some t'=>ih (Nat.succ k) t' | none=>none) args:Nat->PT Y->Option (PT Y)) k t=some t'->
   di U args ys->(∀j v,t.get (posOf j)=some v->j<k/\j<n)->
   (∀j v,t'.get (posOf j)=some v->j<n/\((j<k/\t.get (posOf j)=some v)∨∃y,k<=j/\ys[j-k]? =some y/\VR U v y))/\(args= []∨k+args.length<=n):=by
  intro args;induction args with
  | nil=>
   simp_all
  | cons v args ih=>
   intro ys k t t' h hv ht;obtain⟨x,r,rfl,h1,E⟩:=hv.cons_inv;dsimp only at h;cases hp:dA t n (some k) v with
   | none=>rw[hp] at h;cases h
   | some t₁=>
    rw[hp] at h;obtain⟨hk,rfl⟩:=rW hp
    obtain⟨g1,F⟩:=ih r (k+1) _ t' h E (fun j u hj=>by
     by_cases e:j=k
     ·omega
     rw[PT.dD _ _ _ _ (fun h'=>e (rU h'))] at hj
     grind)
    refine⟨fun j u hj=>?_,.inr ?_⟩
    ·obtain⟨q1,q2⟩:=g1 j u hj;refine⟨q1,?_⟩;rcases q2 with ⟨A,C⟩ | ⟨y,hle,hy,I⟩
     ·by_cases e:j=k
      ·subst e;rw[PT.dR] at C;simp_all
      rw[PT.dD _ _ _ _ (fun h'=>e (rU h'))] at C
      simp_all
     grind
    grind
 obtain⟨g1,F⟩:=key args xs.toList 0 .leaf t h hv (fun j v hj=>by rw[PT.mF] at hj;cases hj);have hlen:=hv.length
 have hle:xs.size<=n:=by
  grind
 refine⟨by simp;omega,fun j v hj=>?_⟩;obtain⟨q1,q2⟩:=g1 j v hj;refine⟨q1,?_⟩;rcases q2 with ⟨A,_⟩ | ⟨y,_,hy,I⟩
 ·omega
 rw[Nat.sub_zero] at hy;have aa:j<xs.size:=by grind
 simp_all
def Pd (tmps:Array Value):ResultVar->Sem Value
 | .tmp t=>pure (tmps.getD t undef)
 | .cell a t=>do loadVar t (<-asAddr (tmps.getD a undef))
theorem tJ (fn:Func) (tmps:Array Value):results fn tmps=(fn.results.mapM (Pd tmps)>>= fun vs=>pure (if h:vs.size=1 then vs[0] else .tuple vs)):=rfl
theorem DA (hi:Inv U V w) {t:PT Y} {n:Nat} (C:TR U t n tmps) {r:ResultVar} {v:Y} (h:gj P t V r=some v):
  ∃x,(Pd tmps r).run P w= .ok x w/\VR U v x:=by
 cases r with
 | tmp k=>exact⟨_,Z,(C.2 k v h).2⟩
 | cell k ty=>
  simp only[gj] at h;cases hk:t.get (posOf k) with
  | none=>rw[hk] at h;cases h
  | some u=>
   rw[hk] at h;have hvx:=(C.2 k u hk).2;cases u with
   | ptr b off=>
    dsimp only at h;cases A:V.m.get b with
    | none=>rw[A] at h;cases h
    | some ob=>
     rw[A] at h;cases ob with
     | row cells e ro=>
      simp only[VR] at hvx;obtain⟨l,hl,aa⟩:=hvx;obtain⟨y,hy,hr⟩:=nL (P:=P) hi A hl h
      grind [Pd,asAddr]
     | _=>cases h
   | _=>cases h
theorem qW (hi:Inv U V w) {t:PT Y} {n:Nat} {tmps:Array Value} (C:TR U t n tmps):∀{rs:List ResultVar} {vs:List Y},cX (gj P t V) rs=some vs->
  ∃xs:List Value,(rs.mapM (Pd tmps):Sem (List Value)).run P w= .ok xs w/\di U vs xs
 | [],vs,h=>by rw[il] at h;cases h;exact⟨[],by simp,di.nil⟩
 | r::rs,vs,h=>by
  obtain⟨y,r',h1,E,rfl⟩:=gJ h;obtain⟨x,hx,hv⟩:=DA (P:=P) hi C h1;obtain⟨xs,u,A⟩:=qW hi C E;refine⟨x::xs,?_,di.cons hv A⟩;simp only[List.mapM_cons,sB_,hx,rA,u,sP_]
theorem AW (hi:Inv U V w) {fn:Func} {t:PT Y} {n:Nat} (E:TR U t n tmps) {v:Y} (h:ec P fn t V=some v):
  ∃x,(results fn tmps).run P w= .ok x w/\VR U v x:=by
 unfold ec at h;cases A:cX (gj P t V) fn.results.toList with
 | none=>rw[A] at h;cases h
 | some vs=>
  rw[A] at h;obtain⟨xs,hx,hv⟩:=qW (P:=P) hi E A
  have hm:(fn.results.mapM (Pd tmps):Sem (Array Value)).run P w= .ok xs.toArray w:=by
   grind [Array.mapM_eq_mapM_toList,Sem.run_map,rA]
  cases vs with
  | nil=>
   cases h;have:=hv.dX;subst this;refine⟨.tuple #[],by rw[tJ,sB_,hm];rfl,by simp only[VR];simp_all⟩
  | cons u us=>
   obtain⟨x,r,rfl,h1,C⟩:=hv.cons_inv;cases us with
   | nil=>
    cases h;have:=C.dX;subst this;exact⟨x,by rw[tJ,sB_,hm];rfl,h1⟩
   | cons u' us=>
    cases h;obtain⟨x',r',rfl,h3,h4⟩:=C.cons_inv;refine⟨.tuple (x::x'::r').toArray,by rw[tJ,sB_,hm];rfl,by simp only[VR];simp_all⟩
end
end Go.Ev
end
