/- Part of the proof: an evaluator of the model's code, rules for walks on it, walks. Without conditions. -/
import Derived.CallsIn
import Derived.Laws.World
import Derived.KernelRfl
import Derived.Laws.AppendOwn
import Derived.Laws.Strings
import Derived.Great.BuildSlice
import Derived.Laws.Tables
import Derived.Laws.MakeOwn
import Derived.Laws.StructEq
import Derived.Laws.Small
import Derived.ChangeKeysEq
import Derived.LaidEql
import Derived.Lib.Strings
import Derived.Lib.Builder
import Derived.Lib.Overlaps
import Derived.Laws.IdiomStrings
import Derived.Lib.UnsafeStr
import Derived.Lib.ConvBytes
import Derived.RangeFuncNested
set_option linter.unusedSectionVars false
set_option linter.unusedVariables false
set_option linter.unusedSimpArgs false
noncomputable section
namespace Go.Ev
theorem gA:type_of% @List.getElem?_eq_some_iff:= @List.getElem?_eq_some_iff
theorem gB_:type_of% @List.mem_of_getElem?:= @List.mem_of_getElem?
theorem rA:type_of% @Result.andThen_ok:= @Result.andThen_ok
theorem gC:type_of% @List.getElem?_eq_getElem:= @List.getElem?_eq_getElem
theorem nB:type_of% @Nat.eq_of_beq_eq_true:= @Nat.eq_of_beq_eq_true
theorem bA_:type_of% @Bool.and_eq_true:= @Bool.and_eq_true
theorem sB_:type_of% @Sem.run_bind:= @Sem.run_bind
theorem sP_:type_of% @Sem.run_pure:= @Sem.run_pure
theorem nE_:type_of% @Nat.ble_eq:= @Nat.ble_eq
theorem lT_:type_of% @List.length_take:= @List.length_take
theorem oJ_:type_of% @Option.some.injEq:= @Option.some.injEq
theorem lA_:type_of% @List.length_append:= @List.length_append
theorem mC_:type_of% @List.mem_cons_of_mem:= @List.mem_cons_of_mem
theorem lM_:type_of% @List.length_map:= @List.length_map
theorem aT_:type_of% @Array.getElem?_toList:= @Array.getElem?_toList
theorem mS_:type_of% @List.mem_cons_self:= @List.mem_cons_self
theorem gM_:type_of% @List.getElem?_map:= @List.getElem?_map
theorem gL_:type_of% @List.getElem?_append_left:= @List.getElem?_append_left
theorem gO_:type_of% @List.getElem?_of_mem:= @List.getElem?_of_mem
theorem tL_:type_of% @List.take_of_length_le:= @List.take_of_length_le
theorem aE_:type_of% @List.all_eq_true:= @List.all_eq_true
theorem eN_:type_of% @List.eq_nil_of_length_eq_zero:= @List.eq_nil_of_length_eq_zero
theorem gN_:type_of% @List.getElem?_eq_none:= @List.getElem?_eq_none
theorem lD_:type_of% @List.length_drop:= @List.length_drop
theorem mQ_:type_of% @List.mem_cons:= @List.mem_cons
theorem nM_:type_of% @Nat.mul_le_mul_right:= @Nat.mul_le_mul_right
theorem oM_:type_of% @Option.map_eq_some_iff:= @Option.map_eq_some_iff
theorem lQ_:type_of% @List.append_assoc:= @List.append_assoc
theorem nZ_:type_of% @Nat.not_lt_zero:= @Nat.not_lt_zero
theorem nR_:type_of% @Nat.le_refl:= @Nat.le_refl
theorem nA_:type_of% @Nat.zero_add:= @Nat.zero_add
theorem iJ_:type_of% @Int.ofNat.inj:= @Int.ofNat.inj
theorem gR_:type_of% @List.getElem?_append_right:= @List.getElem?_append_right
theorem eR_:type_of% @List.eq_of_mem_replicate:= @List.eq_of_mem_replicate
theorem aG_:type_of% @Array.getElem?_eq_getElem:= @Array.getElem?_eq_getElem
theorem aS_:type_of% @Array.getElem?_eq_some_iff:= @Array.getElem?_eq_some_iff
theorem Z {α:Sort _} {a:α}:a=a:=rfl
theorem Y {p:Prop} (h:p:=by kernel_rfl):p:=h
theorem B {p:Prop} (h:p:=by omega):p:=h
abbrev Pos:=Nat
abbrev Pos.succ (p:Pos):Pos:=Nat.succ p
abbrev Pos.num (p:Pos):Nat:=p
theorem Pos.jt (p:Pos):p.succ.num=p.num+1:=rfl
abbrev posOf (n:Nat):Pos:=n
theorem qW {m n:Nat} (h:posOf m=posOf n):m=n:=h
structure kD (α:Type) where
 c0:α
 c1:α
 c2:α
 c3:α
 c4:α
 c5:α
 c6:α
 c7:α
 c8:α
 c9:α
 rW:α
 rX:α
 rY:α
 rZ:α
 r3:α
 r4:α
structure CY (α:Type) where
 run:kD α->α
structure CZ (α:Type) where
 run:kD α->α->kD α
section
variable {α:Type}
def kh (n:Nat):CY α:=(Bool.rec (motive:=fun _=>CY α) (Bool.rec (motive:=fun _=>CY α) (Bool.rec (motive:=fun _=>CY α) (Bool.rec (motive:=fun _=>CY α) ⟨fun t=>t.c0⟩ ⟨fun t=>t.c1⟩<|Nat.ble 1 n) (Bool.rec (motive:=fun _=>CY α) ⟨fun t=>t.c2⟩ ⟨fun t=>t.c3⟩<|Nat.ble 3 n)<|Nat.ble 2 n) (Bool.rec (motive:=fun _=>CY α) (Bool.rec (motive:=fun _=>CY α) ⟨fun t=>t.c4⟩ ⟨fun t=>t.c5⟩<|Nat.ble 5 n) (Bool.rec (motive:=fun _=>CY α) ⟨fun t=>t.c6⟩ ⟨fun t=>t.c7⟩<|Nat.ble 7 n)<|Nat.ble 6 n)<|Nat.ble 4 n) (Bool.rec (motive:=fun _=>CY α) (Bool.rec (motive:=fun _=>CY α) (Bool.rec (motive:=fun _=>CY α) ⟨fun t=>t.c8⟩ ⟨fun t=>t.c9⟩<|Nat.ble 9 n) (Bool.rec (motive:=fun _=>CY α) ⟨fun t=>t.rW⟩ ⟨fun t=>t.rX⟩<|Nat.ble 11 n)<|Nat.ble 10 n) (Bool.rec (motive:=fun _=>CY α) (Bool.rec (motive:=fun _=>CY α) ⟨fun t=>t.rY⟩ ⟨fun t=>t.rZ⟩<|Nat.ble 13 n) (Bool.rec (motive:=fun _=>CY α) ⟨fun t=>t.r3⟩ ⟨fun t=>t.r4⟩<|Nat.ble 15 n)<|Nat.ble 14 n)<|Nat.ble 12 n)<|Nat.ble 8 n)
def xM (n:Nat):CZ α:=(Bool.rec (motive:=fun _=>CZ α) (Bool.rec (motive:=fun _=>CZ α) (Bool.rec (motive:=fun _=>CZ α) (Bool.rec (motive:=fun _=>CZ α) ⟨fun t v=>kD.rec (motive:=fun _=>kD α) (fun _ c1 c2 c3 c4 c5 c6 c7 c8 c9 rW rX rY rZ r3 r4=>⟨v,c1,c2,c3,c4,c5,c6,c7,c8,c9,rW,rX,rY,rZ,r3,r4⟩) t⟩ ⟨fun t v=>kD.rec (motive:=fun _=>kD α) (fun c0 _ c2 c3 c4 c5 c6 c7 c8 c9 rW rX rY rZ r3 r4=>⟨c0,v,c2,c3,c4,c5,c6,c7,c8,c9,rW,rX,rY,rZ,r3,r4⟩) t⟩<|Nat.ble 1 n) (Bool.rec (motive:=fun _=>CZ α) ⟨fun t v=>kD.rec (motive:=fun _=>kD α) (fun c0 c1 _ c3 c4 c5 c6 c7 c8 c9 rW rX rY rZ r3 r4=>⟨c0,c1,v,c3,c4,c5,c6,c7,c8,c9,rW,rX,rY,rZ,r3,r4⟩) t⟩ ⟨fun t v=>kD.rec (motive:=fun _=>kD α) (fun c0 c1 c2 _ c4 c5 c6 c7 c8 c9 rW rX rY rZ r3 r4=>⟨c0,c1,c2,v,c4,c5,c6,c7,c8,c9,rW,rX,rY,rZ,r3,r4⟩) t⟩<|Nat.ble 3 n)<|Nat.ble 2 n) (Bool.rec (motive:=fun _=>CZ α) (Bool.rec (motive:=fun _=>CZ α) ⟨fun t v=>kD.rec (motive:=fun _=>kD α) (fun c0 c1 c2 c3 _ c5 c6 c7 c8 c9 rW rX rY rZ r3 r4=>⟨c0,c1,c2,c3,v,c5,c6,c7,c8,c9,rW,rX,rY,rZ,r3,r4⟩) t⟩ ⟨fun t v=>kD.rec (motive:=fun _=>kD α) (fun c0 c1 c2 c3 c4 _ c6 c7 c8 c9 rW rX rY rZ r3 r4=>⟨c0,c1,c2,c3,c4,v,c6,c7,c8,c9,rW,rX,rY,rZ,r3,r4⟩) t⟩<|Nat.ble 5 n) (Bool.rec (motive:=fun _=>CZ α) ⟨fun t v=>kD.rec (motive:=fun _=>kD α) (fun c0 c1 c2 c3 c4 c5 _ c7 c8 c9 rW rX rY rZ r3 r4=>⟨c0,c1,c2,c3,c4,c5,v,c7,c8,c9,rW,rX,rY,rZ,r3,r4⟩) t⟩ ⟨fun t v=>kD.rec (motive:=fun _=>kD α) (fun c0 c1 c2 c3 c4 c5 c6 _ c8 c9 rW rX rY rZ r3 r4=>⟨c0,c1,c2,c3,c4,c5,c6,v,c8,c9,rW,rX,rY,rZ,r3,r4⟩) t⟩<|Nat.ble 7 n)<|Nat.ble 6 n)<|Nat.ble 4 n) (Bool.rec (motive:=fun _=>CZ α) (Bool.rec (motive:=fun _=>CZ α) (Bool.rec (motive:=fun _=>CZ α) ⟨fun t v=>kD.rec (motive:=fun _=>kD α) (fun c0 c1 c2 c3 c4 c5 c6 c7 _ c9 rW rX rY rZ r3 r4=>⟨c0,c1,c2,c3,c4,c5,c6,c7,v,c9,rW,rX,rY,rZ,r3,r4⟩) t⟩ ⟨fun t v=>kD.rec (motive:=fun _=>kD α) (fun c0 c1 c2 c3 c4 c5 c6 c7 c8 _ rW rX rY rZ r3 r4=>⟨c0,c1,c2,c3,c4,c5,c6,c7,c8,v,rW,rX,rY,rZ,r3,r4⟩) t⟩<|Nat.ble 9 n) (Bool.rec (motive:=fun _=>CZ α) ⟨fun t v=>kD.rec (motive:=fun _=>kD α) (fun c0 c1 c2 c3 c4 c5 c6 c7 c8 c9 _ rX rY rZ r3 r4=>⟨c0,c1,c2,c3,c4,c5,c6,c7,c8,c9,v,rX,rY,rZ,r3,r4⟩) t⟩ ⟨fun t v=>kD.rec (motive:=fun _=>kD α) (fun c0 c1 c2 c3 c4 c5 c6 c7 c8 c9 rW _ rY rZ r3 r4=>⟨c0,c1,c2,c3,c4,c5,c6,c7,c8,c9,rW,v,rY,rZ,r3,r4⟩) t⟩<|Nat.ble 11 n)<|Nat.ble 10 n) (Bool.rec (motive:=fun _=>CZ α) (Bool.rec (motive:=fun _=>CZ α) ⟨fun t v=>kD.rec (motive:=fun _=>kD α) (fun c0 c1 c2 c3 c4 c5 c6 c7 c8 c9 rW rX _ rZ r3 r4=>⟨c0,c1,c2,c3,c4,c5,c6,c7,c8,c9,rW,rX,v,rZ,r3,r4⟩) t⟩ ⟨fun t v=>kD.rec (motive:=fun _=>kD α) (fun c0 c1 c2 c3 c4 c5 c6 c7 c8 c9 rW rX rY _ r3 r4=>⟨c0,c1,c2,c3,c4,c5,c6,c7,c8,c9,rW,rX,rY,v,r3,r4⟩) t⟩<|Nat.ble 13 n) (Bool.rec (motive:=fun _=>CZ α) ⟨fun t v=>kD.rec (motive:=fun _=>kD α) (fun c0 c1 c2 c3 c4 c5 c6 c7 c8 c9 rW rX rY rZ _ r4=>⟨c0,c1,c2,c3,c4,c5,c6,c7,c8,c9,rW,rX,rY,rZ,v,r4⟩) t⟩ ⟨fun t v=>kD.rec (motive:=fun _=>kD α) (fun c0 c1 c2 c3 c4 c5 c6 c7 c8 c9 rW rX rY rZ r3 _=>⟨c0,c1,c2,c3,c4,c5,c6,c7,c8,c9,rW,rX,rY,rZ,r3,v⟩) t⟩<|Nat.ble 15 n)<|Nat.ble 14 n)<|Nat.ble 12 n)<|Nat.ble 8 n)
theorem GX {n:Nat} (h:n<16):n=0∨n=1∨n=2∨n=3∨n=4∨n=5∨n=6∨n=7∨n=8∨n=9∨n=10∨n=11∨n=12∨n=13∨n=14∨n=15:=by omega
theorem Ct (n:Nat) (t:kD α) (v:α) (a:n<16):(kh n).run ((xM n).run t v)=v:=by
 rcases GX a with rfl | rfl | rfl | rfl | rfl | rfl | rfl | rfl | rfl | rfl | rfl | rfl | rfl | rfl | rfl | rfl<;>rfl
theorem FY (n:Nat) (t:kD α) (v u:α) (a:n<16):(xM n).run ((xM n).run t v) u=(xM n).run t u:=by
 rcases GX a with rfl | rfl | rfl | rfl | rfl | rfl | rfl | rfl | rfl | rfl | rfl | rfl | rfl | rfl | rfl | rfl<;>rfl
theorem Hj (m n:Nat) (t:kD α) (v:α) (hm:m<16) (a:n<16) (h:m≠n):(kh m).run ((xM n).run t v)=(kh m).run t:=by
 rcases GX hm with rfl | rfl | rfl | rfl | rfl | rfl | rfl | rfl | rfl | rfl | rfl | rfl | rfl | rfl | rfl | rfl<;>rcases GX a with rfl | rfl | rfl | rfl | rfl | rfl | rfl | rfl | rfl | rfl | rfl | rfl | rfl | rfl | rfl | rfl<;>first | rfl | exact absurd rfl h
theorem FO (m n:Nat) (t:kD α) (v:α) (hm:m<16) (a:n<16):(kh m).run ((xM n).run t v)=if m=n then v else(kh m).run t:=by
 by_cases h:m=n
 ·subst h;rw[if_pos Z,Ct _ _ _ a]
 rw[if_neg h,Hj _ _ _ _ hm a h]
abbrev jN (α:Type):=kD (kD α)
def jV (t:jN α) (k:Nat):α:=(kh<|Nat.mod k 16).run ((kh<|Nat.div k 16).run t)
def pF (t:jN α) (k:Nat) (v:α):jN α:=(xM<|Nat.div k 16).run t ((xM<|Nat.mod k 16).run ((kh<|Nat.div k 16).run t) v)
theorem mF (t:jN α) (k j:Nat) (v:α) (hk:k<256) (hj:j<256):jV (pF t k v) j=if j=k then v else jV t j:=by
 have e:∀n m:Nat,Nat.mod n m=n%m:=fun _ _=>Z
 have e':∀n m:Nat,Nat.div n m=n/m:=fun _ _=>Z
 simp only[jV,pF,e,e'];rw[FO _ _ _ _ B B]
 by_cases a:j/16=k/16
 ·rw[if_pos a,FO _ _ _ _ B B]
  by_cases b:j%16=k%16
  ·rw[if_pos b,if_pos B]
  rw[if_neg b,if_neg B,a]
 rw[if_neg a,if_neg B]
theorem xl (t:jN α) (k:Nat) (v u:α) (b:k<256):pF (pF t k v) k u=pF t k u:=by
 have c:Nat.mod k 16<16:=Nat.mod_lt _ B;have a:Nat.div k 16<16:=Nat.div_lt_of_lt_mul b;simp only[pF,Ct _ _ _ a,FY _ _ _ _ a,FY _ _ _ _ c]
def kD.all (x:α):kD α:=⟨x,x,x,x,x,x,x,x,x,x,x,x,x,x,x,x⟩
def jN.all (x:α):jN α:=kD.all (kD.all x)
theorem FN (n:Nat) (y:α) (a:n<16):(kh n).run (kD.all y)=y:=by
 rcases GX a with rfl | rfl | rfl | rfl | rfl | rfl | rfl | rfl | rfl | rfl | rfl | rfl | rfl | rfl | rfl | rfl<;>rfl
theorem wA (x:α) (k:Nat) (a:k<256):jV (jN.all x) k=x:=by
 have b:Nat.mod k 16<16:=Nat.mod_lt _ B;have c:Nat.div k 16<16:=Nat.div_lt_of_lt_mul a;simp only[jV,jN.all,FN _ _ b,FN _ _ c]
def s5 (v:Option α) (n:Nat):List (Option α)->List (Option α):=
 Nat.rec (motive:=fun _=>List (Option α)->List (Option α)) (fun l=>List.rec (motive:=fun _=>List<|Option α) [v] (fun _ r _=>v::r) l)
  (fun _ ih l=>List.rec (motive:=fun _=>List<|Option α) (none::ih []) (fun x r _=>x::ih r) l) n
def GB (l:List (Option α)):Nat->Option α:=
 List.rec (motive:=fun _=>Nat->Option α) (fun _=>none) (fun x _ ih n=>Nat.rec (motive:=fun _=>Option α) x (fun m _=>ih m) n) l
theorem wD (v:Option α):∀(k:Nat) (l:List (Option α)) (j:Nat),GB (s5 v k l) j=if j=k then v else GB l j
 | 0,[],0=>rfl
 | 0,[],j+1=>by rw[if_neg B];rfl
 | 0,x::r,0=>rfl
 | 0,x::r,j+1=>by rw[if_neg B];rfl
 | k+1,[],0=>by rw[if_neg B];rfl
 | k+1,[],j+1=>by
  show GB (s5 v k []) j=_;rw[wD v k [] j]
  by_cases h:j=k
  ·rw[if_pos h,if_pos B]
  rw[if_neg h,if_neg B];rfl
 | k+1,x::r,0=>by rw[if_neg B];rfl
 | k+1,x::r,j+1=>by
  show GB (s5 v k r) j=_;rw[wD v k r j]
  by_cases h:j=k
  ·rw[if_pos h,if_pos B]
  rw[if_neg h,if_neg B];rfl
theorem xm (v u:Option α):∀(k:Nat) (l:List (Option α)),s5 u k (s5 v k l)=s5 u k l
 | 0,[]=>rfl
 | 0,x::r=>rfl
 | k+1,[]=>by
  show none::s5 u k (s5 v k [])=none::s5 u k [];rw[xm v u k []]
 | k+1,x::r=>by
  show x::s5 u k (s5 v k r)=x::s5 u k r;rw[xm v u k r]
structure N (α:Type) where
 s:jN (Option α)
 m:jN (jN<|Option α)
 l:List (Option α)
def N.leaf:N α:=⟨jN.all none,jN.all<|jN.all none,[]⟩
def N.GA (t:N α) (p:Nat):Option α:=
 Bool.rec (motive:=fun _=>Option α) (Bool.rec (motive:=fun _=>Option α) (GB t.l p) (jV (jV t.m<|Nat.div p 256)<|Nat.mod p 256)<|Nat.ble p 65535) (jV t.s p) (Nat.ble p 255)
def N.Hd (o:Option α) (t:N α) (p:Nat):N α:=
 Bool.rec (motive:=fun _=>N α) (Bool.rec (motive:=fun _=>N α) (N.rec (motive:=fun _=>N α) (fun s m l=>⟨s,m,s5 o p l⟩) t)
  (N.rec (motive:=fun _=>N α) (fun s m l=>⟨s,pF m (Nat.div p 256)<|pF (jV m<|Nat.div p 256) (Nat.mod p 256) o,l⟩) t)<|Nat.ble p 65535)
  (N.rec (motive:=fun _=>N α) (fun s m l=>⟨pF s p o,m,l⟩) t) (Nat.ble p 255)
def N.get (t:N α) (p:Pos):Option α:=Nat.rec (motive:=fun _=>Option α) (t.GA 0) (fun m _=>t.GA (Nat.succ m)) p
def N.put (o:Option α) (t:N α) (p:Pos):N α:=Nat.rec (motive:=fun _=>N α) (t.Hd o 0) (fun m _=>t.Hd o (Nat.succ m)) p
theorem N.get_eq (t:N α) (p:Nat):t.get p=t.GA p:=by cases p<;>rfl
theorem N.put_eq (o:Option α) (t:N α) (p:Nat):t.put o p=t.Hd o p:=by cases p<;>rfl
theorem sE (m n:Nat):Nat.blt m n=true↔m<n:=by simp[Nat.blt,Nat.lt_iff_add_one_le]
theorem oG (m n:Nat):Nat.ble m n=true↔m<n+1:=by rw[nE_,Nat.lt_succ_iff]
theorem tF {m n:Nat} (h:¬m<n+1):Nat.ble m n=false:=by
 cases a:Nat.ble m n with
 | true=>exact absurd ((oG m n).1 a) h
 | false=>rfl
theorem N.pY (t:N α) {p:Nat} (h:p<256):t.get p=jV t.s p:=by rw[N.get_eq];unfold N.GA;rw[(oG p 255).2 h]
theorem N.wC (t:N α) {p:Nat} (h:¬p<256) (h':p<65536):t.get p=jV (jV t.m<|Nat.div p 256) (Nat.mod p 256):=by
 rw[N.get_eq];unfold N.GA;rw[tF (n:=255) h,(oG p 65535).2 h']
theorem N.wB (t:N α) {p:Nat} (h:¬p<65536):t.get p=GB t.l p:=by
 rw[N.get_eq];unfold N.GA;rw[tF (n:=255) B,tF (n:=65535) h]
theorem N.s7 (o:Option α) (s:jN (Option α)) (m:jN (jN<|Option α)) (l:List (Option α)) {p:Nat} (h:p<256):(N.mk s m l).put o p=⟨pF s p o,m,l⟩:=by rw[N.put_eq];unfold N.Hd;rw[(oG p 255).2 h]
theorem N.FG (o:Option α) (s:jN (Option α)) (m:jN (jN<|Option α)) (l:List (Option α)) {p:Nat} (h:¬p<256) (h':p<65536):
  (N.mk s m l).put o p=⟨s,pF m (Nat.div p 256)<|pF (jV m<|Nat.div p 256) (Nat.mod p 256) o,l⟩:=by
 rw[N.put_eq];unfold N.Hd;rw[tF (n:=255) h,(oG p 65535).2 h']
theorem N.FF (o:Option α) (s:jN (Option α)) (m:jN (jN<|Option α)) (l:List (Option α)) {p:Nat} (h:¬p<65536):(N.mk s m l).put o p=⟨s,m,s5 o p l⟩:=by
 rw[N.put_eq];unfold N.Hd;rw[tF (n:=255) B,tF (n:=65535) h]
theorem N.mE (p:Nat):(N.leaf:N α).get p=none:=by
 by_cases a:p<256
 ·rw[N.pY _ a];exact wA _ _ a
 by_cases b:p<65536
 ·rw[N.wC _ a b];show jV (jV (jN.all<|jN.all none) _) _=none;have c:Nat.div p 256<256:=Nat.div_lt_of_lt_mul b;have hm:Nat.mod p 256<256:=Nat.mod_lt _ B;rw[wA _ _ c,wA _ _ hm]
 rw[N.wB _ b];rfl
theorem N.lW (o:Option α) (t:N α) (p q:Nat):(t.put o p).get q=if q=p then o else t.get q:=by
 cases t with
 | mk s m l=>
 by_cases f:p<256
 ·rw[N.s7 o s m l f]
  by_cases a:q<256
  ·rw[N.pY _ a,N.pY _ a];exact mF s p q o f a
  rw[if_neg B]
  by_cases c:q<65536
  ·rw[N.wC _ a c,N.wC _ a c]
  rw[N.wB _ c,N.wB _ c]
 by_cases c:p<65536
 ·rw[N.FG o s m l f c]
  by_cases a:q<256
  ·rw[if_neg B,N.pY _ a,N.pY _ a]
  by_cases b:q<65536
  ·rw[N.wC _ a b,N.wC _ a b];have j:Nat.div p 256<256:=Nat.div_lt_of_lt_mul c;have k:Nat.div q 256<256:=Nat.div_lt_of_lt_mul b;have g:Nat.mod p 256<256:=Nat.mod_lt _ B;have i:Nat.mod q 256<256:=Nat.mod_lt _ B;show jV (jV (pF m (Nat.div p 256) _)<|Nat.div q 256) (Nat.mod q 256)=_;rw[mF _ _ _ _ j k]
   by_cases e:Nat.div q 256=Nat.div p 256
   ·rw[if_pos e,mF _ _ _ _ g i]
    by_cases d:Nat.mod q 256=Nat.mod p 256
    ·rw[if_pos d,if_pos];have f1:q/256=p/256:=e;have f2:q%256=p%256:=d;omega
    rw[if_neg d,if_neg (by intro h;exact d (by rw[h])),e]
   rw[if_neg e,if_neg (by intro h;exact e (by rw[h]))]
  rw[if_neg B,N.wB _ b,N.wB _ b]
 rw[N.FF o s m l c]
 by_cases a:q<256
 ·rw[if_neg B,N.pY _ a,N.pY _ a]
 by_cases b:q<65536
 ·rw[if_neg B,N.wC _ a b,N.wC _ a b]
 rw[N.wB _ b,N.wB _ b];exact wD o p l q
theorem N.dA (o:Option α) (t:N α) (p:Pos):(t.put o p).get p=o:=by rw[N.lW,if_pos Z]
theorem N.dv (o:Option α) (t:N α) (p q:Pos) (h:q≠p):(t.put o p).get q=t.get q:=by rw[N.lW,if_neg h]
theorem N.Lp (o o':Option α) (t:N α) (p:Nat):(t.put o p).put o' p=t.put o' p:=by
 cases t with
 | mk s m l=>
 by_cases a:p<256
 ·rw[N.s7 o s m l a,N.s7 _ _ _ _ a,N.s7 _ _ _ _ a,xl _ _ _ _ a]
 by_cases b:p<65536
 ·have c:Nat.div p 256<256:=Nat.div_lt_of_lt_mul b;have d:Nat.mod p 256<256:=Nat.mod_lt _ B;rw[N.FG o s m l a b,N.FG _ _ _ _ a b,N.FG _ _ _ _ a b,xl _ _ _ _ c,mF _ _ _ _ c c,if_pos Z,xl _ _ _ _ d]
 rw[N.FF o s m l b,N.FF _ _ _ _ b,N.FF _ _ _ _ b,xm]
end
section
variable {α β:Type}
def nth (l:List α):Nat->Option α:=
 List.rec (motive:=fun _=>Nat->Option α) (fun _=>none) (fun x _ ih n=>Nat.rec (motive:=fun _=>Option α) (some x) (fun m _=>ih m) n) l
theorem eF:∀(l:List α) (n:Nat),nth l n=l[n]?
 | [],_=>rfl
 | _::_,0=>rfl
 | _::l,n+1=>by
  show nth l n=_;rw[eF l n];simp
def Eo (v:α) (l:List α):Nat->List α:=
 List.rec (motive:=fun _=>Nat->List α) (fun _=>[]) (fun x l ih n=>Nat.rec (motive:=fun _=>List α) (v::l) (fun m _=>x::ih m) n) l
theorem ud (v:α):∀(l:List α) (n:Nat),Eo v l n=l.set n v
 | [],_=>rfl
 | _::_,0=>rfl
 | x::l,n+1=>by
  show x::Eo v l n=_;rw[ud v l n];simp
def dS (l:List α):Nat->List α:=
 List.rec (motive:=fun _=>Nat->List α) (fun _=>[]) (fun x l ih n=>Nat.rec (motive:=fun _=>List α) (x::l) (fun m _=>ih m) n) l
theorem dO:∀(l:List α) (n:Nat),dS l n=l.drop n
 | [],n=>by simp[dS]
 | _::_,0=>rfl
 | x::l,n+1=>by
  show dS l n=_;rw[dO l n];simp
def takeN (l:List α):Nat->List α:=
 List.rec (motive:=fun _=>Nat->List α) (fun _=>[]) (fun x _ ih n=>Nat.rec (motive:=fun _=>List α) [] (fun m _=>x::ih m) n) l
theorem du:∀(l:List α) (n:Nat),takeN l n=l.take n
 | [],n=>by simp[takeN]
 | _::_,0=>rfl
 | x::l,n+1=>by
  show x::takeN l n=_;rw[du l n];simp
def cX (l:List α):Nat:=List.rec (motive:=fun _=>Nat) 0 (fun _ _ n=>Nat.succ n) l
theorem bK:∀(l:List α),cX l=l.length
 | []=>rfl
 | _::l=>by show Nat.succ (cX l)=_;rw[bK l];rfl
def ie (l m:List α):List α:=List.rec (motive:=fun _=>List α) m (fun x _ r=>x::r) l
theorem dV:∀(l m:List α),ie l m=l++m
 | [],_=>rfl
 | x::l,m=>by show x::ie l m=_;rw[dV l m];rfl
def yd (f:α->β) (l:List α):List β:=List.rec (motive:=fun _=>List β) [] (fun x _ r=>f x::r) l
theorem lY (f:α->β):∀(l:List α),yd f l=l.map f
 | []=>rfl
 | x::l=>by show f x::yd f l=_;rw[lY f l];rfl
def cW (f:α->Option β) (l:List α):Option (List β):=
 List.rec (motive:=fun _=>Option<|List β) (some []) (fun x _ r=>
  Option.rec (motive:=fun _=>Option<|List β) none (fun y=>Option.rec (motive:=fun _=>Option<|List β) none (fun ys=>some (y::ys)) r)<|f x) l
theorem iK (f:α->Option β):cW f []=some []:=rfl
theorem gX {f:α->Option β} {x:α} {l:List α} {ys:List β} (h:cW f (x::l)=some ys):∃y r,f x=some y/\cW f l=some r/\ys=y::r:=by
 have e:cW f (x::l)=Option.rec (motive:=fun _=>Option<|List β) none (fun y=>Option.rec (motive:=fun _=>Option<|List β) none (fun ys=>some (y::ys)) (cW f l)) (f x):=rfl;rw[e] at h;cases a:f x with
 | none=>rw[a] at h;cases h
 | some y=>
  rw[a] at h;cases b:cW f l with
  | none=>rw[b] at h;cases h
  | some r=>
   rw[b] at h;simp only[oJ_] at h;exact⟨y,r,Z,Z,h.symm⟩
end
 class Env where
 τ:Nat->Value
 n0:Nat
 h0:Array Obj
variable [Env]
inductive pH where
 | known (n:Nat)
 | upto (sz:Nat)
 | least (a sz:Nat)
 deriving Inhabited
inductive V where
 | bool (b:Bool)
 | int (k:IntKind) (n:Int)
 | str (s:List Nat)
 | nilPtr
 | ptr (b:Pos) (off:Nat)
 | ax
 | slice (b:Pos) (off len:Nat) (cap:pH)
 | iR
 | map (b:Pos)
 | func (f:Nat) (first captured:List V)
 | yield (l:Pos)
 | nilFunc
 | iface (t:Nat) (v:V)
 | nilIface
 | agg (cs:List V)
 | tuple (vs:List V)
 | any
 | oE (a:Nat)
 | tok (n:Nat)
 deriving Inhabited
structure Loc where
 dE:Nat
 sh:Nat
 cells:Nat
abbrev dh:=Pos->Option Loc
def hY (s:List Nat) (bs:ByteArray):Prop:=bs.data.toList.map UInt8.toNat=s
mutual
def H (S:dh):V->Value->Prop
 | .bool b,x=>x= .bool b
 | .int k n,x=>x= .int k n
 | .str s,x=>∃bs,x= .string bs/\hY s bs
 | .nilPtr,x=>x= .pointer none
 | .ptr b off,x=>∃l,S b=some l/\x= .pointer (some ⟨l.dE,l.sh+off,none⟩)
 | .ax,x=>x= .slice none 0 0
 | .slice b off len (.known c),x=>∃l,S b=some l/\x= .slice (some ⟨l.dE,l.sh+off,none⟩) len c
 | .slice b off len (.upto sz),x=>∃l,S b=some l/\
   ((∃c,x= .slice (some ⟨l.dE,l.sh+off,none⟩) len c/\len<=c/\off+c*sz=l.cells)∨(len=0/\∃a,x= .slice (some a) 0 0))
 | .slice b off len (.least a sz),x=>∃l,S b=some l/\∃c,x= .slice (some ⟨l.dE,l.sh+off,none⟩) len c/\a<=c/\off+c*sz=l.cells
 | .iR,x=>x= .map none
 | .map b,x=>∃l,S b=some l/\x= .map (some l.dE)
 | .func f fi ca,x=>∃fi' ca':Array Value,x= .func (.func f) fi' ca'/\dp S fi fi'.toList/\dp S ca ca'.toList
 | .yield b,x=>∃l,S b=some l/\x= .func (.yield l.dE) #[] #[]
 | .nilFunc,x=>x= .nilFunc
 | .iface t v,x=>∃y,x= .iface t y/\H S v y
 | .nilIface,x=>x= .nilIface
 | .agg cs,x=>∃ys:Array Value,x= .agg ys/\dp S cs ys.toList
 | .tuple cs,x=>∃ys:Array Value,x= .tuple ys/\dp S cs ys.toList
 | .any,_=>True
 | .oE a,x=>∃c:Nat,x= .int .i64 c/\a<=c
 | .tok n,x=>x=Env.τ n/\x.oneCell'=true
def dp (S:dh):List V->List Value->Prop
 | [],ys=>ys= []
 | c::cs,ys=>∃y r,ys=y::r/\H S c y/\dp S cs r
end
def dh.le (S S':dh):Prop:=∀b l,S b=some l->S' b=some l
theorem dh.le_refl (S:dh):S.le S:=fun _ _ h=>h
theorem dh.le_trans {S S' S'':dh} (h:S.le S') (h':S'.le S''):S.le S'':=fun b l a=>h' b l (h b l a)
mutual
theorem H.mono {S S':dh} (h:S.le S'):∀(v:V) (x:Value),H S v x->H S' v x
 | .bool b,x,d=>by simpa only[H] using d
 | .int k n,x,d=>by simpa only[H] using d
 | .str s,x,d=>by simpa only[H] using d
 | .nilPtr,x,d=>by simpa only[H] using d
 | .ptr b off,x,d=>by simp only[H] at d⊢;obtain⟨l,e,g⟩:=d;exact⟨l,h b l e,g⟩
 | .ax,x,d=>by simpa only[H] using d
 | .slice b off len (.known c),x,d=>by simp only[H] at d⊢;obtain⟨l,e,g⟩:=d;exact⟨l,h b l e,g⟩
 | .slice b off len (.upto sz),x,d=>by simp only[H] at d⊢;obtain⟨l,e,g⟩:=d;exact⟨l,h b l e,g⟩
 | .slice b off len (.least a sz),x,d=>by simp only[H] at d⊢;obtain⟨l,e,g⟩:=d;exact⟨l,h b l e,g⟩
 | .iR,x,d=>by simpa only[H] using d
 | .map b,x,d=>by simp only[H] at d⊢;obtain⟨l,e,g⟩:=d;exact⟨l,h b l e,g⟩
 | .func f fi ca,x,d=>by
  simp only[H] at d⊢;obtain⟨fi',ca',e,g,i⟩:=d;exact⟨fi',ca',e,dp.mono h fi _ g,dp.mono h ca _ i⟩
 | .yield b,x,d=>by simp only[H] at d⊢;obtain⟨l,e,g⟩:=d;exact⟨l,h b l e,g⟩
 | .nilFunc,x,d=>by simpa only[H] using d
 | .iface t v,x,d=>by simp only[H] at d⊢;obtain⟨y,e,g⟩:=d;exact⟨y,e,H.mono h v y g⟩
 | .nilIface,x,d=>by simpa only[H] using d
 | .agg cs,x,d=>by simp only[H] at d⊢;obtain⟨y,e,g⟩:=d;exact⟨y,e,dp.mono h cs _ g⟩
 | .tuple cs,x,d=>by simp only[H] at d⊢;obtain⟨y,e,g⟩:=d;exact⟨y,e,dp.mono h cs _ g⟩
 | .any,x,d=>by simp only[H]
 | .oE a,x,d=>by simpa only[H] using d
 | .tok n,x,d=>by simpa only[H] using d
theorem dp.mono {S S':dh} (h:S.le S'):∀(vs:List V) (xs:List Value),dp S vs xs->dp S' vs xs
 | [],xs,a=>by simpa only[dp] using a
 | c::cs,xs,a=>by
  simp only[dp] at a⊢;obtain⟨y,r,b,d,e⟩:=a;exact⟨y,r,b,H.mono h c y d,dp.mono h cs r e⟩
end
theorem dp.nil {S:dh}:dp S [] []:=by simp only[dp]
theorem dp.cons {S:dh} {v:V} {x:Value} {vs:List V} {xs:List Value} (h:H S v x) (a:dp S vs xs):dp S (v::vs) (x::xs):=by
 simp only[dp];exact⟨x,xs,Z,h,a⟩
theorem dp.cons_inv {S:dh} {v:V} {vs:List V} {ys:List Value} (h:dp S (v::vs) ys):∃x xs,ys=x::xs/\H S v x/\dp S vs xs:=by
 simpa only[dp] using h
theorem dp.eQ {S:dh} {ys:List Value} (h:dp S [] ys):ys= []:=by simpa only[dp] using h
theorem dp.length {S:dh}:∀{vs:List V} {xs:List Value},dp S vs xs->xs.length=vs.length
 | [],xs,h=>by rw[h.eQ];rfl
 | v::vs,xs,h=>by
  obtain⟨x,r,rfl,_,a⟩:=h.cons_inv;simp[a.length]
theorem dp.get {S:dh}:∀{vs:List V} {xs:List Value},dp S vs xs->∀{i:Nat} {v:V},vs[i]?=some v->∃x,xs[i]?=some x/\H S v x
 | [],xs,h,i,v,a=>by simp at a
 | c::vs,xs,h,0,v,a=>by
  obtain⟨x,r,rfl,b,d⟩:=h.cons_inv;simp at a;subst a;exact⟨x,Z,b⟩
 | c::vs,xs,h,i+1,v,a=>by
  obtain⟨x,r,rfl,b,d⟩:=h.cons_inv;simp at a;simpa using d.get a
theorem dp.Jc {S:dh}:∀{vs:List V} {xs:List Value},xs.length=vs.length->(∀(i:Nat) (v:V),vs[i]?=some v->∃x,xs[i]?=some x/\H S v x)->dp S vs xs
 | [],[],_,_=>dp.nil
 | v::vs,[],a,_=>by simp at a
 | [],x::xs,a,_=>by simp at a
 | v::vs,x::xs,a,h=>by
  refine dp.cons ?_<|dp.Jc (by simpa using a) fun i u hu=>?_
  ·obtain⟨y,b,c⟩:=h 0 v Z;simp at b;subst b;exact c
  obtain⟨y,b,c⟩:=h (i+1) u (by simpa using hu);exact⟨y,by simpa using b,c⟩
theorem dp.append {S:dh}:∀{vs us:List V} {xs ys:List Value},dp S vs xs->dp S us ys->dp S (vs++us) (xs++ys)
 | [],us,xs,ys,h,h'=>by rw[h.eQ];exact h'
 | v::vs,us,xs,ys,h,h'=>by
  obtain⟨x,r,rfl,a,b⟩:=h.cons_inv;exact dp.cons a<|b.append h'
theorem dp.drop {S:dh}:∀{vs:List V} {xs:List Value},dp S vs xs->∀n,dp S (vs.drop n) (xs.drop n)
 | [],xs,h,n=>by rw[h.eQ];simp;exact dp.nil
 | v::vs,xs,h,0=>h
 | v::vs,xs,h,n+1=>by
  obtain⟨x,r,rfl,h1,a⟩:=h.cons_inv;simpa using a.drop n
theorem dp.take {S:dh}:∀{vs:List V} {xs:List Value},dp S vs xs->∀n,dp S (vs.take n) (xs.take n)
 | [],xs,h,n=>by rw[h.eQ];simp;exact dp.nil
 | v::vs,xs,h,0=>by simpa using dp.nil
 | v::vs,xs,h,n+1=>by
  obtain⟨x,r,rfl,a,b⟩:=h.cons_inv;simpa using dp.cons a (b.take n)
theorem dp.set {S:dh}:∀{vs:List V} {xs:List Value},dp S vs xs->∀(n:Nat) {v:V} {x:Value},H S v x->dp S (vs.set n v) (xs.set n x)
 | [],xs,h,n,_,_,_=>by rw[h.eQ];simp;exact dp.nil
 | v::vs,xs,h,0,_,_,a=>by
  obtain⟨x,r,rfl,c,b⟩:=h.cons_inv;simpa using dp.cons a b
 | v::vs,xs,h,n+1,_,_,a=>by
  obtain⟨x,r,rfl,c,b⟩:=h.cons_inv;simpa using dp.cons c (b.set n a)
structure fC where
 key:V
 val:V
 born:Nat
 deriving Inhabited
inductive cG where
 | row (cells:List V) (elem:Nat) (ro:Bool)
 | own (cells:List V) (elem:Nat)
 | map (es:List fC) (clock:Nat)
 | iter (s:List Nat) (pos:Nat)
 | loop (state:LoopState) (pending:Option Code) (tmps:N V) (n:Nat) (params:List Nat) (assign body:Code) (defers:Pos)
 | mark
 | dead
 deriving Inhabited
def cG.ro:cG->Bool
 | .row _ _ ro=>ro
 | _=>false
structure D where
 next:Pos
 m:N cG
def TR (S:dh) (t:N V) (n:Nat) (tmps:Array Value):Prop:=
 tmps.size=n/\∀k v,t.get (posOf k)=some v->k<n/\H S v (tmps.getD k undef)
def jM (S:dh):List fC->List MapEntry->Prop
 | [],ys=>ys= []
 | e::es,ys=>∃y r,ys=y::r/\H S e.key y.key/\H S e.val y.val/\y.born=e.born/\jM S es r
def iF (S:dh) (l:Loc):cG->Obj->Prop
 | .row cells elem ro,x=>∃c fr,x= .cells c elem fr/\c.size=l.sh+l.cells/\cells.length<=l.cells/\
   (∀(i:Nat) (v:V),cells[i]?=some v->∃y,c[l.sh+i]?=some y/\H S v y)/\(ro=false->∀j,l.sh<=j->¬(fr.1<=j/\j<fr.2))
 | .own cells elem,x=>(l.sh=0/\cells.length=l.cells)/\∃c fr,x= .cells c elem fr/\c.size=l.sh+l.cells/\cells.length<=l.cells/\
   (∀(i:Nat) (v:V),cells[i]?=some v->∃y,c[l.sh+i]?=some y/\H S v y)/\(false=false->∀j,l.sh<=j->¬(fr.1<=j/\j<fr.2))
 | .map es clock,x=>∃es',x= .map es' clock/\jM S es es'.toList
 | .iter s pos,x=>∃bs,x= .stringIter bs pos/\hY s bs
 | .loop state pending tmps n params assign body defers,x=>∃fn tmps' l',x= .loop {state,pending,fn,tmps:=tmps',params:=params.toArray,assign,body,defers:=l'.dE}/\
   S defers=some l'/\TR S tmps n tmps'
 | .mark,x=>x= .deferred (some [])
 | .dead,_=>True
theorem TR.mono {S S':dh} (h:S.le S') {t:N V} {n:Nat} {tmps:Array Value} (a:TR S t n tmps):TR S' t n tmps:=
 ⟨a.1,fun k v b=>⟨(a.2 k v b).1,H.mono h _ _ (a.2 k v b).2⟩⟩
theorem jM.mono {S S':dh} (h:S.le S'):∀{es:List fC} {ys:List MapEntry},jM S es ys->jM S' es ys
 | [],ys,he=>he
 | e::es,ys,he=>by
  obtain⟨y,r,a,b,c,d,f⟩:=he;exact⟨y,r,a,H.mono h _ _ b,H.mono h _ _ c,d,jM.mono h f⟩
theorem iF.mono {S S':dh} (h:S.le S') {l:Loc}:∀{o:cG} {x:Obj},iF S l o x->iF S' l o x
 | .row cells elem ro,x,d=>by
  obtain⟨c,fr,e,f,g,j,k⟩:=d;exact⟨c,fr,e,f,g,fun i v m=>let ⟨y,a,b⟩:=j i v m;⟨y,a,H.mono h _ _ b⟩,k⟩
 | .own cells elem,x,d=>by
  obtain⟨n,c,fr,e,f,g,j,k⟩:=d;exact⟨n,c,fr,e,f,g,fun i v m=>let ⟨y,a,b⟩:=j i v m;⟨y,a,H.mono h _ _ b⟩,k⟩
 | .map es clock,x,d=>let ⟨es',e,f⟩:=d;⟨es',e,jM.mono h f⟩
 | .iter s pos,x,d=>d
 | .loop ..,x,d=>let ⟨fn,tmps',l',e,f,g⟩:=d;⟨fn,tmps',l',e,h _ _ f,TR.mono h g⟩
 | .mark,x,d=>d
 | .dead,x,d=>d
structure zx (S:dh) (U:D) (w:World):Prop where
 fresh:∀b:Pos,U.next.num<=b.num->S b=none/\U.m.get b=none
 dE:∀b l,S b=some l->l.dE<w.heap.size
 obj:∀b o l,U.m.get b=some o->S b=some l->∃x,w.heap[l.dE]?=some x/\iF S l o x
 inj:∀b b' o o' l l',U.m.get b=some o->U.m.get b'=some o'->S b=some l->S b'=some l'->l.dE=l'.dE->b≠b'->o.ro=true/\o'.ro=true
def Wr (S:dh) (U:D) (r:Nat):Prop:=∃b o l,U.m.get b=some o/\o.ro=false/\S b=some l/\l.dE=r
structure Old (S:dh) (U:D) (w:World):Prop where
 size:Env.n0<=w.heap.size
 same:∀r:Nat,r<Env.n0->w.heap[r]?=Env.h0[r]?
 no:∀r:Nat,r<Env.n0->¬Wr S U r
def HG (w:World):Prop:=Env.n0<=w.heap.size/\∀r:Nat,r<Env.n0->w.heap[r]?=Env.h0[r]?
structure Inv (S:dh) (U:D) (w:World):Prop extends zx S U w where
 pI:Old S U w
structure eY (S:dh) (U:D) (w:World) (S':dh) (U':D) (w':World):Prop where
 ext:∀b:Pos,b.num<U.next.num->S' b=S b
 next:U.next.num<=U'.next.num
 size:w.heap.size<=w'.heap.size
 frame:∀r:Nat,r<w.heap.size->¬Wr S U r->w'.heap[r]?=w.heap[r]?
 wr:∀r:Nat,Wr S' U' r->r<w.heap.size->Wr S U r
 tape:w'.tape=w.tape
 os:w'.os=w.os
 out:w'.output=w.output
theorem eY.refl (S:dh) (U:D) (w:World):eY S U w S U w:=
 ⟨fun _ _=>Z,nR_ _,nR_ _,fun _ _ _=>Z,fun _ h _=>h,Z,Z,Z⟩
theorem eY.trans {S a c:dh} {U d e:D} {w w₁ w₂:World} (h:eY S U w a d w₁) (h':eY a d w₁ c e w₂):eY S U w c e w₂ where
 ext b hb:=(h'.ext b<|Nat.lt_of_lt_of_le hb h.next).trans (h.ext b hb)
 next:=Nat.le_trans h.next h'.next
 size:=Nat.le_trans h.size h'.size
 frame r hr hn:=(h'.frame r (Nat.lt_of_lt_of_le hr h.size) (fun hw=>hn (h.wr r hw hr))).trans (h.frame r hr hn)
 wr r hw hr:=h.wr r (h'.wr r hw<|Nat.lt_of_lt_of_le hr h.size) hr
 tape:=h'.tape.trans h.tape
 os:=h'.os.trans h.os
 out:=h'.out.trans h.out
theorem Old.of {S S':dh} {U U':D} {w w':World} (h:Old S U w) (st:eY S U w S' U' w'):Old S' U' w' where
 size:=Nat.le_trans h.size st.size
 same r hr:=(st.frame r (Nat.lt_of_lt_of_le hr h.size)<|h.no r hr).trans (h.same r hr)
 no r hr hw:=h.no r hr (st.wr r hw<|Nat.lt_of_lt_of_le hr h.size)
theorem Inv.of {S S':dh} {U U':D} {w w':World} (h:Inv S U w) (h':zx S' U' w'/\eY S U w S' U' w'):Inv S' U' w'/\eY S U w S' U' w':=⟨⟨h'.1,h.pI.of h'.2⟩,h'.2⟩
theorem Inv.Ef {S:dh} {U:D} {w:World} (h:Inv S U w) {b:Pos} {l:Loc} (a:S b=some l):b.num<U.next.num:=by
 rcases Nat.lt_or_ge b.num U.next.num with h' | h'
 ·exact h'
 rw[(h.fresh b h').1] at a;cases a
theorem eY.le {S S':dh} {U U':D} {w w':World} (c:Inv S U w) (h:eY S U w S' U' w'):S.le S':=fun b l a=>by
 rw[h.ext b<|c.Ef a];exact a
end Go.Ev
namespace Go.Ev
variable [Env]
section
variable {S:dh} {U:D} {w:World}
theorem Addr.add_eq (a:Addr) (n:Nat) (h:a.spot=none):a.add n=⟨a.block,a.off+n,none⟩:=by
 unfold Addr.add;split
 ·rename_i b;subst b;cases a;simp_all
 rfl
theorem cell?_of_heap {w:World} {r:Nat} {c:Array Value} {e:Nat} {fr:Nat×Nat} (h:w.heap[r]?=some (.cells c e fr)) (i:Nat):w.cell? ⟨r,i,none⟩=c[i]?:=by
 simp[World.cell?,h]
theorem frozen?_of_heap {w:World} {r:Nat} {c:Array Value} {e:Nat} {fr:Nat×Nat} (h:w.heap[r]?=some (.cells c e fr)) (i:Nat) (b:¬(fr.1<=i/\i<fr.2)):w.frozen? ⟨r,i,none⟩=false:=by
 simp only[World.frozen?,h];simp only[Bool.and_eq_false_iff,decide_eq_false_iff_not]
 by_cases a:fr.1<=i
 ·exact .inr (fun d=>b ⟨a,d⟩)
 exact .inl a
theorem heap_setCell_same {w:World} {r:Nat} {c:Array Value} {e:Nat} {fr:Nat×Nat} (h:w.heap[r]?=some (.cells c e fr)) (i:Nat) (v:Value):
  (w.setCell ⟨r,i,none⟩ v).heap[r]?=some (.cells (c.setIfInBounds i v) e fr):=by
 simp[World.setCell,Array.getElem?_modify,h]
theorem heap_setCell_other (w:World) {r:Nat} (a:Addr) (v:Value) (h:r≠a.block):(w.setCell a v).heap[r]?=w.heap[r]?:=by
 simp[World.setCell,Array.getElem?_modify,Ne.symm h]
theorem Inv.row (a:Inv S U w) {b:Pos} {l:Loc} {cells:List V} {e:Nat} {ro:Bool} (d:U.m.get b=some (.row cells e ro)) (f:S b=some l):
  ∃(c:Array Value) (fr:Nat×Nat),w.heap[l.dE]?=some (.cells c e fr)/\c.size=l.sh+l.cells/\cells.length<=l.cells/\
   (∀(i:Nat) (v:V),cells[i]?=some v->∃y,c[l.sh+i]?=some y/\H S v y)/\(ro=false->∀j,l.sh<=j->¬(fr.1<=j/\j<fr.2)):=by
 obtain⟨x,g,c,fr,rfl,h,k,n,o⟩:=a.obj b _ l d f;exact⟨c,fr,g,h,k,n,o⟩
theorem Inv.cell (d:Inv S U w) {b:Pos} {l:Loc} {cells:List V} {e:Nat} {ro:Bool} (f:U.m.get b=some (.row cells e ro)) (g:S b=some l)
  {i:Nat} {v:V} (h:cells[i]?=some v):∃y,w.cell? ⟨l.dE,l.sh+i,none⟩=some y/\H S v y:=by
 obtain⟨c,fr,j,_,_,k,_⟩:=d.row f g;obtain⟨y,n,a⟩:=k i v h;exact⟨y,by rw[cell?_of_heap j];exact n,a⟩
theorem Inv.drew (a:Inv S U w):Inv S U w.drew:=⟨⟨a.fresh,a.dE,a.obj,a.inj⟩,⟨a.pI.size,a.pI.same,a.pI.no⟩⟩
theorem eY.drew (S:dh) (U:D) (w:World):eY S U w S U w.drew:=
 ⟨fun _ _=>Z,nR_ _,nR_ _,fun _ _ _=>Z,fun _ h _=>h,Z,Z,Z⟩
def D.alloc (U:D) (o:cG):D:={next:=U.next.succ,m:=U.m.put (some o) U.next}
def dh.with (S:dh) (b:Pos) (l:Loc):dh:=fun b'=>if b'=b then some l else S b'
theorem dh.cZ (S:dh) (b:Pos) (l:Loc):S.with b l b=some l:=by simp[dh.with]
theorem dh.dT (S:dh) {b b':Pos} (l:Loc) (h:b'≠b):S.with b l b'=S b':=by simp[dh.with,h]
theorem Inv.vA (c:Inv S U w) (l:Loc):S.le (S.with U.next l):=fun b l' a=>by
 rw[dh.dT]; · exact a
 intro e;subst e;rw[(c.fresh _<|nR_ _).1] at a;cases a
theorem heap_alloc_old (w:World) (x:Obj) {r:Nat} (h:r<w.heap.size):(w.alloc x).heap[r]?=w.heap[r]?:=by
 show(w.heap.push x)[r]?=_;rw[Array.getElem?_push];simp[Nat.ne_of_lt h]
theorem heap_alloc_new (w:World) (x:Obj):(w.alloc x).heap[w.heap.size]?=some x:=by
 show(w.heap.push x)[w.heap.size]?=_;simp
theorem Inv.Db (g:Inv S U w) {o:cG} {x:Obj} {l:Loc} (A:l.dE=w.heap.size) (C:iF S l o x):
  zx (S.with U.next l) (U.alloc o) (w.alloc x)/\eY S U w (S.with U.next l) (U.alloc o) (w.alloc x):=by
 have hle:=g.vA l;have c:∀b l',b≠U.next->(S.with U.next l) b=some l'->S b=some l':=fun b l' d h=>by rwa[dh.dT S l d] at h
 have f:∀b,b≠U.next->(U.alloc o).m.get b=U.m.get b:=fun b d=>N.dv _ _ _ _ d
 have j:(U.alloc o).m.get U.next=some o:=N.dA _ _ _;have v:∀b:Pos,b.num<U.next.num->b≠U.next:=fun b d e=>by subst e;exact Nat.lt_irrefl _ d
 constructor
 ·refine⟨fun b d=>?_,fun b l' d=>?_,fun b o' l' d k=>?_,fun b b' o₁ o₂ l₁ l₂ n s i t E z=>?_⟩
  ·have aa:U.next.num+1<=b.num:=by simpa [D.alloc,Pos.jt] using d
   have a:b≠U.next:=fun e=>by subst e;omega
   rw[dh.dT S l a,f b a];exact g.fresh b B
  ·simp only[World.size_alloc]
   by_cases a:b=U.next
   ·subst a;rw[dh.cZ] at d;cases d;omega
   have:=g.dE b l' (c b l' a d);omega
  ·by_cases a:b=U.next
   ·subst a;rw[dh.cZ] at k;rw[j] at d;cases d;cases k;exact⟨x,by rw[A];exact heap_alloc_new w x,C.mono hle⟩
   rw[f b a] at d;have h':=c b l' a k;obtain⟨y,F,u⟩:=g.obj b o' l' d h';exact⟨y,by rw[heap_alloc_old w x<|g.dE b l' h'];exact F,u.mono hle⟩
  by_cases p:b=U.next<;>by_cases q:b'=U.next
  ·exact absurd (p.trans q.symm) z
  ·subst p;rw[dh.cZ] at i;cases i;have:=g.dE b' l₂ (c b' l₂ q t);omega
  ·subst q;rw[dh.cZ] at t;cases t;have:=g.dE b l₁ (c b l₁ p i);omega
  rw[f b p] at n;rw[f b' q] at s;exact g.inj b b' o₁ o₂ l₁ l₂ n s (c b l₁ p i) (c b' l₂ q t) E z
 refine⟨fun b d=>dh.dT S l (v b d),by simp[D.alloc,Pos.jt],by simp,fun r u _=>heap_alloc_old w x u,?_,Z,Z,Z⟩;rintro r ⟨b,o',l',n,s,i,rfl⟩ u
 by_cases a:b=U.next
 ·subst a;rw[dh.cZ] at i;cases i;omega
 rw[f b a] at n;exact⟨b,o',l',n,s,c b l' a i,Z⟩
theorem Inv.alloc (a:Inv S U w) {o:cG} {x:Obj} {l:Loc} (b:l.dE=w.heap.size) (c:iF S l o x):
  Inv (S.with U.next l) (U.alloc o) (w.alloc x)/\eY S U w (S.with U.next l) (U.alloc o) (w.alloc x):=a.of (a.Db b c)
def D.setObj (U:D) (b:Pos) (o:cG):D:={U with m:=U.m.put (some o) b}
theorem Inv.Br (s:Inv S U w) {b:Pos} {l:Loc} {o o':cG} {x:Obj} {w':World} (z:U.m.get b=some o) (v:S b=some l) (j:o.ro=false) (t:o'.ro=false)
  (hw:w'.heap[l.dE]?=some x) (Q:iF S l o' x) (a:∀r,r≠l.dE->w'.heap[r]?=w.heap[r]?) (c:w'.heap.size=w.heap.size)
  (k:w'.tape=w.tape) (A:w'.os=w.os) (u:w'.output=w.output):
  zx S (U.setObj b o') w'/\eY S U w S (U.setObj b o') w':=by
 have d:∀b',b'≠b->(U.setObj b o').m.get b'=U.m.get b':=fun b' h=>N.dv _ _ _ _ h
 have f:(U.setObj b o').m.get b=some o':=N.dA _ _ _
 have back:∀b₁ o₁,(U.setObj b o').m.get b₁=some o₁->∃o₂,U.m.get b₁=some o₂/\(o₁.ro=true↔o₂.ro=true):=fun b₁ o₁ h=>by
  by_cases e:b₁=b
  ·subst e;rw[f] at h;cases h;exact⟨o,z,by rw[j,t]⟩
  rw[d b₁ e] at h;exact⟨o₁,h,Iff.rfl⟩
 constructor
 ·refine⟨fun b' C=>?_,fun b' l' E=>by rw[c];exact s.dE b' l' E,fun b' o₁ l₁ g i=>?_,fun b₁ b₂ o₁ o₂ l₁ l₂ g i F R W X=>?_⟩
  ·have hf:=s.fresh b' C;have n:b'≠b:=fun e=>by subst e;rw[v] at hf;cases hf.1
   exact⟨hf.1,by rw[d b' n];exact hf.2⟩
  ·by_cases e:b'=b
   ·subst e;rw[f] at g;rw[v] at i;cases g;cases i;exact⟨x,hw,Q⟩
   rw[d b' e] at g;obtain⟨y,hy,G⟩:=s.obj b' o₁ l₁ g i
   have n:l₁.dE≠l.dE:=fun K=>by
    have:=s.inj b' b o₁ o l₁ l g z i v K e;rw[j] at this;exact absurd this.2 (by simp)
   exact⟨y,by rw[a _ n];exact hy,G⟩
  obtain⟨o₁',p,q⟩:=back b₁ o₁ g;obtain⟨L,M,P⟩:=back b₂ o₂ i;have:=s.inj b₁ b₂ o₁' L l₁ l₂ p M F R W X;exact⟨q.2 this.1,P.2 this.2⟩
 refine⟨fun _ _=>Z,nR_ _,by rw[c];exact nR_ _,fun r G hn=>a r (fun e=>hn ⟨b,o,l,z,j,v,e.symm⟩),?_,k,A,u⟩;rintro r ⟨b₁,o₁,l₁,g,i,F,rfl⟩ G;obtain⟨o₁',p,q⟩:=back b₁ o₁ g;refine⟨b₁,o₁',l₁,p,?_,F,Z⟩;cases hh:o₁'.ro with
 | false=>rfl
 | true=>rw[q.2 hh] at i;cases i
theorem Inv.change (i:Inv S U w) {b:Pos} {l:Loc} {o o':cG} {x:Obj} {w':World} (j:U.m.get b=some o) (k:S b=some l) (g:o.ro=false) (e:o'.ro=false)
  (hw:w'.heap[l.dE]?=some x) (n:iF S l o' x) (a:∀r,r≠l.dE->w'.heap[r]?=w.heap[r]?) (c:w'.heap.size=w.heap.size)
  (d:w'.tape=w.tape) (h:w'.os=w.os) (f:w'.output=w.output):
  Inv S (U.setObj b o') w'/\eY S U w S (U.setObj b o') w':=i.of (i.Br j k g e hw n a c d h f)
theorem Inv.zI (q:Inv S U w) {b:Pos} {l:Loc} {o o':cG} {x:Obj} {w':World} (z:U.m.get b=some o) (p:S b=some l) (i:o.ro=false)
  (hw:w'.heap[l.dE]?=some x) (P:iF S l o' x) (d:∀r,r≠l.dE->w'.heap[r]?=w.heap[r]?) (g:w'.heap.size=w.heap.size)
  (j:w'.tape=w.tape) (A:w'.os=w.os) (s:w'.output=w.output):
  zx S (U.setObj b o') w'/\eY S U w S (U.setObj b o') w':=by
 have a:∀b',b'≠b->(U.setObj b o').m.get b'=U.m.get b':=fun b' h=>N.dv _ _ _ _ h
 have k:(U.setObj b o').m.get b=some o':=N.dA _ _ _
 have apart:∀b' o₁ l₁,b'≠b->U.m.get b'=some o₁->S b'=some l₁->l₁.dE≠l.dE:=fun b' o₁ l₁ e c f C=>by
  have:=q.inj b' b o₁ o l₁ l c z f p C e;rw[i] at this;exact absurd this.2 (by simp)
 constructor
 ·refine⟨fun b' E=>?_,fun b' l' F=>by rw[g];exact q.dE b' l' F,fun b' o₁ l₁ c f=>?_,fun b₁ b₂ o₁ o₂ l₁ l₂ c f n v G M=>?_⟩
  ·have hf:=q.fresh b' E;have K:b'≠b:=fun e=>by subst e;rw[p] at hf;cases hf.1
   exact⟨hf.1,by rw[a b' K];exact hf.2⟩
  ·by_cases e:b'=b
   ·subst e;rw[k] at c;rw[p] at f;cases c;cases f;exact⟨x,hw,P⟩
   rw[a b' e] at c;obtain⟨y,Q,L⟩:=q.obj b' o₁ l₁ c f;exact⟨y,by rw[d _<|apart b' o₁ l₁ e c f];exact Q,L⟩
  by_cases t:b₁=b<;>by_cases u:b₂=b
  ·exact absurd (t.trans u.symm) M
  ·subst t;rw[a b₂ u] at f;rw[p] at n;cases n;exact absurd G.symm<|apart b₂ o₂ l₂ u f v
  ·subst u;rw[a b₁ t] at c;rw[p] at v;cases v;exact absurd G<|apart b₁ o₁ l₁ t c n
  rw[a b₁ t] at c;rw[a b₂ u] at f;exact q.inj b₁ b₂ o₁ o₂ l₁ l₂ c f n v G M
 refine⟨fun _ _=>Z,nR_ _,by rw[g];exact nR_ _,fun r L R=>d r (fun e=>R ⟨b,o,l,z,i,p,e.symm⟩),?_,j,A,s⟩;rintro r ⟨b₁,o₁,l₁,c,f,n,rfl⟩ L
 by_cases e:b₁=b
 ·subst e;exact⟨b₁,o,l₁,z,i,n,Z⟩
 rw[a b₁ e] at c;exact⟨b₁,o₁,l₁,c,f,n,Z⟩
theorem Inv.EZ (h:Inv S U w) {b:Pos} {l:Loc} {o o':cG} {x:Obj} {w':World} (i:U.m.get b=some o) (j:S b=some l) (f:o.ro=false)
  (hw:w'.heap[l.dE]?=some x) (k:iF S l o' x) (a:∀r,r≠l.dE->w'.heap[r]?=w.heap[r]?) (c:w'.heap.size=w.heap.size)
  (d:w'.tape=w.tape) (g:w'.os=w.os) (e:w'.output=w.output):
  Inv S (U.setObj b o') w'/\eY S U w S (U.setObj b o') w':=h.of (h.zI i j f hw k a c d g e)
theorem Inv.Jq (c:Inv S U w) {b:Pos} {l:Loc} {o o':cG} (d:U.m.get b=some o) (e:S b=some l) (a:o.ro=false) (f:∀x,iF S l o x->iF S l o' x):
  Inv S (U.setObj b o') w/\eY S U w S (U.setObj b o') w:=by
 obtain⟨x,g,h⟩:=c.obj b o l d e;exact c.EZ d e a g (f x h) (fun _ _=>Z) Z Z Z Z
theorem iF.FC {l:Loc} {cells:List V} {e:Nat} {x:Obj} (h:iF S l (.own cells e) x):(l.sh=0/\cells.length=l.cells)/\iF S l (.row cells e false) x:=⟨h.1,h.2⟩
theorem iF.FK {l:Loc} {cells:List V} {e:Nat} {x:Obj} (a:l.sh=0/\cells.length=l.cells) (h:iF S l (.row cells e false) x):iF S l (.own cells e) x:=⟨a,h⟩
theorem Inv.own (a:Inv S U w) {b:Pos} {l:Loc} {cells:List V} {e:Nat} (c:U.m.get b=some (.own cells e)) (d:S b=some l):
  (l.sh=0/\cells.length=l.cells)/\Inv S (U.setObj b (.row cells e false)) w/\eY S U w S (U.setObj b (.row cells e false)) w:=by
 obtain⟨x,f,g⟩:=a.obj b _ l c d;exact⟨g.FC.1,a.Jq c d Z fun x f=>f.FC.2⟩
theorem Inv.setCell (f:Inv S U w) {b:Pos} {l:Loc} {cells:List V} {e i:Nat} {v:V} {y:Value} (g:U.m.get b=some (.row cells e false)) (h:S b=some l)
  (a:i<cells.length) (k:H S v y):
  Inv S (U.setObj b (.row (cells.set i v) e false)) (w.setCell ⟨l.dE,l.sh+i,none⟩ y)/\eY S U w S (U.setObj b (.row (cells.set i v) e false)) (w.setCell ⟨l.dE,l.sh+i,none⟩ y):=by
 obtain⟨c,fr,n,o,p,q,s⟩:=f.row g h
 refine f.change g h Z Z (heap_setCell_same n (l.sh+i) y) ⟨_,fr,Z,by simpa using o,by simpa using p,fun j u hu=>?_,fun _=>s Z⟩
  (fun r d=>heap_setCell_other w _ _ d) (by simp) Z Z Z
 rw[Array.getElem?_setIfInBounds]
 by_cases e:j=i
 ·subst e;rw[List.getElem?_set_self a] at hu;cases hu;have:l.sh+j<c.size:=by omega
  exact⟨y,by simp[this],k⟩
 rw[List.getElem?_set_ne<|Ne.symm e] at hu;obtain⟨z,t,d⟩:=q j u hu;have this:¬(l.sh+i=l.sh+j):=by omega
 exact⟨z,by rw[if_neg this];exact t,d⟩
def D.drop (U:D) (b:Pos):D:={U with m:=U.m.put none b}
theorem Inv.Co (q:Inv S U w) {b:Pos} {l l':Loc} {cells cells':List V} {e:Nat} {x:Obj} {w':World} (u:U.m.get b=some (.row cells e false)) (C:S b=some l)
  (d:l'.dE=l.dE) (hw:w'.heap[l.dE]?=some x) (X:iF S l' (.row cells' e false) x) (i:∀r,r≠l.dE->w'.heap[r]?=w.heap[r]?) (j:w'.heap.size=w.heap.size)
  (v:w'.tape=w.tape) (K:w'.os=w.os) (F:w'.output=w.output):
  zx (S.with U.next l') ((U.drop b).alloc (.row cells' e false)) w'/\eY S U w (S.with U.next l') ((U.drop b).alloc (.row cells' e false)) w':=by
 have hle:=q.vA l';have c:∀b l'',b≠U.next->(S.with U.next l') b=some l''->S b=some l'':=fun b l'' u h=>by rwa[dh.dT S l' u] at h
 have ab:b≠U.next:=fun e=>by subst e;rw[(q.fresh _<|nR_ _).1] at C;cases C
 have L:∀b:Pos,b.num<U.next.num->b≠U.next:=fun b u e=>by subst e;exact Nat.lt_irrefl _ u
 have z:((U.drop b).alloc (.row cells' e false)).m.get U.next=some (.row cells' e false):=N.dA _ _ _
 have s:∀b',b'≠U.next->((U.drop b).alloc (.row cells' e false)).m.get b'=if b'=b then none else U.m.get b':=fun b' h=>by
  show((U.m.put none b).put _ U.next).get b'=_;rw[N.dv _ _ _ _ h,N.lW]
 have pI:∀b' o',b'≠U.next->((U.drop b).alloc (.row cells' e false)).m.get b'=some o'->b'≠b/\U.m.get b'=some o':=fun b' o' M h=>by
  rw[s b' M] at h;split at h
  ·cases h
  rename_i a;exact⟨a,h⟩
 have apart:∀b' o' l'',b'≠b->U.m.get b'=some o'->S b'=some l''->l''.dE≠l.dE:=fun b' o' l'' a n p P=>by
  have:=q.inj b' b o' _ l'' l n u p C P a;exact absurd this.2 (by simp[cG.ro])
 constructor
 ·refine⟨fun b' A=>?_,fun b' l'' k=>?_,fun b' o₁ l₁ n p=>?_,fun b₁ b₂ o₁ o₂ l₁ l₂ n p t G Q W=>?_⟩
  ·have aa:U.next.num+1<=b'.num:=by simpa [D.alloc,D.drop,Pos.jt] using A
   have a:b'≠U.next:=fun e=>by subst e;omega
   have hf:=q.fresh b' B;rw[dh.dT S l' a,s b' a];exact⟨hf.1,by split<;>simp[hf.2]⟩
  ·rw[j]
   by_cases f:b'=U.next
   ·subst f;rw[dh.cZ] at k;cases k;rw[d];exact q.dE b l C
   exact q.dE b' l''<|c b' l'' f k
  ·by_cases f:b'=U.next
   ·subst f;rw[z] at n;rw[dh.cZ] at p;cases n;cases p;exact⟨x,by rw[d];exact hw,X.mono hle⟩
   obtain⟨a,g⟩:=pI b' o₁ f n;have h2':=c b' l₁ f p;obtain⟨y,hy,R⟩:=q.obj b' o₁ l₁ g h2';exact⟨y,by rw[i _<|apart b' o₁ l₁ a g h2'];exact hy,R.mono hle⟩
  by_cases f:b₁=U.next<;>by_cases E:b₂=U.next
  ·exact absurd (f.trans E.symm) W
  ·subst f;rw[dh.cZ] at t;cases t;obtain⟨a,h2'⟩:=pI b₂ o₂ E p;exact absurd (Q.symm.trans d)<|apart b₂ o₂ l₂ a h2'<|c b₂ l₂ E G
  ·subst E;rw[dh.cZ] at G;cases G;obtain⟨a,g⟩:=pI b₁ o₁ f n;exact absurd (Q.trans d)<|apart b₁ o₁ l₁ a g<|c b₁ l₁ f t
  obtain⟨_,g⟩:=pI b₁ o₁ f n;obtain⟨_,h2'⟩:=pI b₂ o₂ E p;exact q.inj b₁ b₂ o₁ o₂ l₁ l₂ g h2' (c b₁ l₁ f t) (c b₂ l₂ E G) Q W
 refine⟨fun b' A=>dh.dT S l' (L b' A),by simp[D.alloc,D.drop,Pos.jt],by rw[j];exact nR_ _,
  fun r R M=>i r (fun e'=>M ⟨b,_,l,u,Z,C,e'.symm⟩),?_,v,K,F⟩
 rintro r ⟨b₁,o₁,l₁,n,p,t,rfl⟩ R
 by_cases f:b₁=U.next
 ·subst f;rw[dh.cZ] at t;cases t;exact⟨b,_,l,u,Z,C,d.symm⟩
 obtain⟨_,g⟩:=pI b₁ o₁ f n;exact⟨b₁,o₁,l₁,g,p,c b₁ l₁ f t,Z⟩
theorem Inv.xq (i:Inv S U w) {b:Pos} {l l':Loc} {cells cells':List V} {e:Nat} {x:Obj} {w':World} (j:U.m.get b=some (.row cells e false)) (k:S b=some l)
  (f:l'.dE=l.dE) (hw:w'.heap[l.dE]?=some x) (n:iF S l' (.row cells' e false) x) (a:∀r,r≠l.dE->w'.heap[r]?=w.heap[r]?) (c:w'.heap.size=w.heap.size)
  (d:w'.tape=w.tape) (h:w'.os=w.os) (g:w'.output=w.output):
  Inv (S.with U.next l') ((U.drop b).alloc (.row cells' e false)) w'/\eY S U w (S.with U.next l') ((U.drop b).alloc (.row cells' e false)) w':=i.of (i.Co j k f hw n a c d h g)
theorem Inv.BN (a:Inv S U w) (b:Pos):zx S (U.drop b) w/\eY S U w S (U.drop b) w:=by
 have pI:∀b' o',(U.drop b).m.get b'=some o'->U.m.get b'=some o':=fun b' o' h=>by
  have h':(U.m.put none b).get b'=some o':=h;rw[N.lW] at h';split at h'
  ·cases h'
  exact h'
 constructor
 ·refine⟨fun b' c=>⟨(a.fresh b' c).1,?_⟩,a.dE,fun b' o l d e=>a.obj b' o l (pI b' o d) e,fun b₁ b₂ o₁ o₂ l₁ l₂ d e=>a.inj b₁ b₂ o₁ o₂ l₁ l₂ (pI b₁ o₁ d) (pI b₂ o₂ e)⟩;show(U.m.put none b).get b'=none;rw[N.lW];split
  ·rfl
  exact(a.fresh b' c).2
 refine⟨fun _ _=>Z,nR_ _,nR_ _,fun _ _ _=>Z,?_,Z,Z,Z⟩;rintro r ⟨b₁,o₁,l₁,d,e,f,rfl⟩ hr;exact⟨b₁,o₁,l₁,pI b₁ o₁ d,e,f,Z⟩
theorem Inv.forget (a:Inv S U w) (b:Pos):Inv S (U.drop b) w/\eY S U w S (U.drop b) w:=a.of (a.BN b)
end
def MY (k:IntKind) (n:Int):Bool:=
 match k,n with
 | .i8,.ofNat a=>Nat.ble a 127 | .i8,.negSucc a=>Nat.ble a 127
 | .i16,.ofNat a=>Nat.ble a 32767 | .i16,.negSucc a=>Nat.ble a 32767
 | .i32,.ofNat a=>Nat.ble a 2147483647 | .i32,.negSucc a=>Nat.ble a 2147483647
 | .i64,.ofNat a=>Nat.ble a 9223372036854775807 | .i64,.negSucc a=>Nat.ble a 9223372036854775807
 | .u8,.ofNat a=>Nat.ble a 255 | .u16,.ofNat a=>Nat.ble a 65535
 | .u32,.ofNat a=>Nat.ble a 4294967295 | .u64,.ofNat a=>Nat.ble a 18446744073709551615
 | _,_=>false
def wr (k:IntKind) (n:Int):Int:=bif MY k n then n else k.wrap n
def bU (x y:Int):Bool:=
 match x,y with
 | .ofNat a,.ofNat b=>Nat.ble (Nat.succ a) b
 | .negSucc _,.ofNat _=>true
 | .ofNat _,.negSucc _=>false
 | .negSucc a,.negSucc b=>Nat.ble (Nat.succ b) a
def I (x y:Int):Bool:=
 match x,y with
 | .ofNat a,.ofNat b=>Nat.beq a b
 | .negSucc a,.negSucc b=>Nat.beq a b
 | _,_=>false
def gL (s t:List Nat):Bool:=
 List.rec (motive:=fun _=>List Nat->Bool) (fun t=>List.rec (motive:=fun _=>Bool) true (fun _ _ _=>false) t)
  (fun x _ ih t=>List.rec (motive:=fun _=>Bool) false (fun y u _=>bif Nat.beq x y then ih u else false) t) s t
def Kb (s t:List Nat):Bool:=
 List.rec (motive:=fun _=>List Nat->Bool) (fun t=>List.rec (motive:=fun _=>Bool) false (fun _ _ _=>true) t)
  (fun x _ ih t=>List.rec (motive:=fun _=>Bool) false (fun y u _=>bif Nat.ble (Nat.succ x) y then true else bif Nat.beq x y then ih u else false) t) s t
def r9:IntKind->IntKind->Bool
 | .i8,.i8 | .i16,.i16 | .i32,.i32 | .i64,.i64 | .u8,.u8 | .u16,.u16 | .u32,.u32 | .u64,.u64=>true
 | _,_=>false
def kK:Value->Option V
 | .bool b=>some (.bool b)
 | .int k n=>some (.int k n)
 | .string s=>some (.str<|s.data.toList.map UInt8.toNat)
 | .pointer none=>some .nilPtr
 | .slice none 0 0=>some .ax
 | .map none=>some .iR
 | .nilFunc=>some .nilFunc
 | .nilIface=>some .nilIface
 | _=>none
def qb:Value->Option V
 | .agg cs=>(cW kK cs.toList).map .agg
 | .tuple cs=>(cW kK cs.toList).map .tuple
 | v=>kK v
def uI (P:Program) (t:TypeId):Option TypeInfo:=
 match nth P.types.toList t with
 | some i=>some i
 | none=>P.info? t
def pk (P:Program) (t:TypeId):Option TypeDesc:=
 match uI P t with
 | some {desc:=.named _ u,..}=>(uI P u).map (·.desc)
 | some i=>some i.desc
 | none=>none
theorem p4 (P:Program) (t:TypeId):uI P t=P.info? t:=by
 unfold uI;rw[eF,aT_];cases h:P.types[t]? with
 | none=>rfl
 | some i=>
  have hlt:=(aS_.1 h).1;unfold Tables.info?;rw[if_pos hlt,h]
theorem ow (P:Program) (t:TypeId):pk P t=P.underlying t:=by
 unfold pk Program.underlying;simp only[p4];rfl
def dU (P:Program) (t:TypeId):Option (Option Nat):=
 match pk P t with
 | some (.struct _) | some (.array _ _)=>some (some (((uI P t).map (·.size)).getD 0))
 | some _=>some none
 | none=>none
theorem Ba (P:Program) (t:TypeId):dU P t=match P.underlying t with
 | some (.struct _) | some (.array _ _)=>some (some<|P.cellsOf t)
 | some _=>some none
 | none=>none:=by
 unfold dU;rw[ow,p4];rfl
def cS:V->Option (List V)
 | .agg cs=>some cs
 | .tuple _=>none
 | .any=>none
 | v=>some [v]
def iB:V->Bool
 | .agg _ | .tuple _ | .any=>false
 | _=>true
def cD (l:List V):Bool:=List.rec (motive:=fun _=>Bool) true (fun v _ r=>bif iB v then r else false) l
def l6 (cs l:List V):List V:=
 List.rec (motive:=fun _=>List V->List V) (fun l=>l) (fun c _ ih l=>List.rec (motive:=fun _=>List V) [] (fun _ l _=>c::ih l) l) cs l
def dG (cs l:List V) (off:Nat):List V:=
 List.rec (motive:=fun _=>Nat->List V) (fun _=>[]) (fun x l ih off=>Nat.rec (motive:=fun _=>List V) (l6 cs (x::l)) (fun m _=>x::ih m) off) l off
def FD (P:Program) (t:TypeId) (cs:List V) (off:Nat):Option V:=
 match dU P t with
 | some (some n)=>some (.agg<|takeN (dS cs off) n)
 | some none=>nth cs off
 | none=>none
def kx (place:Nat->Option (Nat×Nat)) (ev:Operand->Option V) (parts:List (Nat×Operand)) (cells:List V):Option (List V):=
 List.rec (motive:=fun _=>List V->Option (List V)) (fun cells=>some cells)
  (fun p _ ih cells=>
   match place p.1,(ev p.2).bind cS with
   | some (off,size),some vs=>bif Nat.beq (cX vs) size && Nat.ble (off+size) (cX cells) then ih (dG vs cells off) else none
   | _,_=>none) parts cells
def fB (P:Program) (t:TypeId):Option V:=(P.info? t).bind fun i=>i.zero.bind qb
def fp (cs:List V) (n:Nat):List V:=Nat.rec (motive:=fun _=>List V) [] (fun _ r=>ie cs r) n
def structOf (P:Program) (t:TypeId):Option (Array Field):=
 match pk P t with
 | some (.struct fs)=>some fs
 | _=>none
def sa:V->V->Option Bool
 | .bool a,.bool b=>some (bif a then b else(bif b then false else true))
 | .int j a,.int k b=>bif r9 j k then some (I a b) else none
 | .str a,.str b=>some (gL a b)
 | _,_=>none
def jE (P:Program) (fs:List Field) (xs ys:List V):Option Bool:=
 List.rec (motive:=fun _=>Option Bool) (some true)
  (fun f _ ih=>
   match P.underlying f.type,nth xs f.offset,nth ys f.offset with
   | some .bool,some (.bool a),some (.bool b)=>bif (bif a then b else(bif b then false else true)) then ih else some false
   | some (.int _),some (.int j a),some (.int k b)=>bif r9 j k then(bif I a b then ih else some false) else none
   | some .string,some (.str a),some (.str b)=>bif gL a b then ih else some false
   | _,_,_=>none) fs
def kU (fs:List Field):Bool:=List.rec (motive:=fun _=>Bool) true (fun f _ r=>bif f.name == "_" then false else r) fs
def wj (xs ys:List V):Option Bool:=
 List.rec (motive:=fun _=>List V->Option Bool) (fun ys=>match ys with | []=>some true | _=>none)
  (fun x _ ih ys=>match x,ys with
   | .int j a,.int k b::r=>bif r9 j k then(bif I a b then ih r else some false) else none
   | _,_=>none) xs ys
def sd (P:Program) (e:TypeId):Bool:=
 match P.underlying e,P.info? e with
 | some (.int _),some i=>Nat.beq i.size 1
 | _,_=>false
def eqFields (P:Program) (fs:List Field) (xs ys:List V):Option Bool:=
 List.rec (motive:=fun _=>Option Bool) (some true)
  (fun f _ ih=>
   match P.underlying f.type,nth xs f.offset,nth ys f.offset with
   | some .bool,some (.bool a),some (.bool b)=>bif (bif a then b else(bif b then false else true)) then ih else some false
   | some (.int _),some (.int j a),some (.int k b)=>bif r9 j k then(bif I a b then ih else some false) else none
   | some .string,some (.str a),some (.str b)=>bif gL a b then ih else some false
   | some (.struct gs),_,_=>bif P.stoodInHeld f.type || !kU gs.toList then none else match dU P f.type with
    | some (some n)=>match jE P gs.toList (takeN (dS xs f.offset) n) (takeN (dS ys f.offset) n) with
     | some true=>ih
     | some false=>some false
     | none=>none
    | _=>none
   | some (.array m e),_,_=>bif sd P e then(match dU P f.type with
    | some (some n)=>bif Nat.beq n m && (Nat.beq (cX<|takeN (dS xs f.offset) n) m && Nat.beq (cX<|takeN (dS ys f.offset) n) m) then(match wj (takeN (dS xs f.offset) n) (takeN (dS ys f.offset) n) with
     | some true=>ih
     | some false=>some false
     | none=>none) else none
    | _=>none) else none
   | _,_,_=>none) fs
def DA (P:Program) (t:TypeId) (x y:V):Option Bool:=
 match x,y with
 | .agg xs,.agg ys=>
  match structOf P t with
  | some fs=>bif P.eqGuardType P.depth t || P.stoodInHeld t || !kU fs.toList then none else eqFields P fs.toList xs ys
  | none=>none
 | .nilPtr,.nilPtr=>match P.underlying t with | some (.pointer _)=>some true | _=>none
 | .ptr _ _,.nilPtr | .nilPtr,.ptr _ _=>match P.underlying t with | some (.pointer _)=>some false | _=>none
 | .ptr b o,.ptr b' o'=>match P.underlying t with | some (.pointer u)=>bif Nat.beq b b' && (Nat.beq o o' && (P.info? u).isSome) then some true else none | _=>none
 | .nilIface,.iface _ _ | .iface _ _,.nilIface=>match P.underlying t with | some (.interface _)=>some false | _=>none
 | .ax,.ax=>match P.underlying t with | some (.slice _)=>some true | _=>none
 | .slice _ _ _ _,.ax | .ax,.slice _ _ _ _=>match P.underlying t with | some (.slice _)=>some false | _=>none
 | .nilFunc,.nilFunc=>match P.underlying t with | some (.func _ _ _)=>some true | _=>none
 | .func _ _ _,.nilFunc | .nilFunc,.func _ _ _=>match P.underlying t with | some (.func _ _ _)=>some false | _=>none
 | .iR,.iR=>match P.underlying t with | some (.map _ _)=>some true | _=>none
 | .map _,.iR | .iR,.map _=>match P.underlying t with | some (.map _ _)=>some false | _=>none
 | _,_=>none
def nc (P:Program) (op:BinOp) (t:TypeId) (x y:V):Option V:=
 match op with
 | .eql=>match DA P t x y with | some b=>some (.bool b) | none=>none
 | .neq=>match DA P t x y with | some b=>some (.bool (bif b then false else true)) | none=>none
 | _=>none
def sC (P:Program) (op:BinOp) (t:TypeId) (x y:V):Option V:=
 match x,y with
 | .int k a,.int k' b=>
  match op with
  | .shl=>bif bU b 0 then none else some (.int k<|wr k (a*2 ^ (min b.toNat k.bits)))
  | .shr=>bif bU b 0 then none else some (.int k<|a.fdiv (2 ^ (min b.toNat k.bits)))
  | op=>
   bif r9 k k' then
    match op with
    | .add=>some (.int k<|wr k<|Int.add a b)
    | .sub=>some (.int k<|wr k<|Int.sub a b)
    | .mul=>some (.int k<|wr k<|Int.mul a b)
    | .quo=>bif I b 0 then none else some (.int k<|wr k<|a.tdiv b)
    | .rem=>bif I b 0 then none else some (.int k<|a.tmod b)
    | .and=>some (.int k<|k.wrap (BitVec.ofInt k.bits a &&& BitVec.ofInt k.bits b).toNat)
    | .or=>some (.int k<|k.wrap (BitVec.ofInt k.bits a ||| BitVec.ofInt k.bits b).toNat)
    | .xor=>some (.int k<|k.wrap (BitVec.ofInt k.bits a ^^^ BitVec.ofInt k.bits b).toNat)
    | .andNot=>some (.int k<|k.wrap (BitVec.ofInt k.bits a &&& ~~~(BitVec.ofInt k.bits b)).toNat)
    | .eql=>some (.bool<|I a b)
    | .neq=>some (.bool (bif I a b then false else true))
    | .lss=>some (.bool<|bU a b)
    | .leq=>some (.bool (bif bU b a then false else true))
    | .gtr=>some (.bool<|bU b a)
    | .geq=>some (.bool (bif bU a b then false else true))
    | _=>none
   else none
 | .str a,.str b=>
  match op with
  | .add=>bif Nat.ble (cX a+cX b) 1152921504606846976 then some (.str<|ie a b) else none
  | .eql=>some (.bool<|gL a b)
  | .neq=>some (.bool (bif gL a b then false else true))
  | .lss=>some (.bool<|Kb a b)
  | .gtr=>some (.bool<|Kb b a)
  | .leq=>some (.bool (bif Kb b a then false else true))
  | .geq=>some (.bool (bif Kb a b then false else true))
  | _=>none
 | .bool a,.bool b=>
  match op,P.underlying t with
  | .eql,some .bool=>some (.bool (bif a then b else(bif b then false else true)))
  | .neq,some .bool=>some (.bool (bif a then(bif b then false else true) else b))
  | _,_=>none
 | x,y=>nc P op t x y
def eI (ev:Operand->Option V) (x:Operand) (y:Nat):Option Nat:=
 match ev x with
 | some (.int _ (.ofNat i))=>bif Nat.ble i y then some i else none
 | _=>none
def da (ev:Operand->Option V) (len cap:Nat) (lo hi:Option Operand):Option (Nat×Nat):=
 match(match hi with | some h=>eI ev h cap | none=>some len) with
 | some h=>match(match lo with | some l=>eI ev l h | none=>some 0) with
  | some l=>some (l,h)
  | none=>none
 | none=>none
def cut (P:Program) (e:TypeId) (b:Pos) (off l h m:Nat):Option V:=
 match P.info? e with
 | some j=>some (.slice b (bif Nat.beq m l then off else off+l*j.size) (h-l) (.known (m-l)))
 | none=>none
def cutAt (P:Program) (ev:Operand->Option V) (e:TypeId) (b:Pos) (off len cap:Nat) (lo hi mx:Option Operand):Option V:=
 match mx with
 | none=>match da ev len cap lo hi with
  | some (l,h)=>cut P e b off l h cap
  | none=>none
 | some x=>match eI ev x cap,hi with
  | some m,some _=>match da ev m m lo hi with
   | some (l,h)=>cut P e b off l h m
   | none=>none
  | _,_=>none
def fo (P:Program) (ev:Operand->Option V) (t:TypeId) (x:Operand) (lo hi mx:Option Operand):Option V:=
 match P.underlying t,ev x with
 | some (.slice e),some (.slice b off len (.known cap))=>cutAt P ev e b off len cap lo hi mx
 | some (.slice e),some (.slice b off len (.upto sz))=>
  match mx with
  | none=>match da ev len len lo hi,P.info? e with
   | some (l,h),some j=>bif Nat.beq j.size sz then some (.slice b (off+l*sz) (h-l) (.upto sz)) else none
   | _,_=>none
  | some x=>bif Nat.beq len 0 then none else cutAt P ev e b off len len lo hi (some x)
 | some (.slice e),some (.slice b off len (.least a sz))=>
  match mx with
  | none=>match da ev len a lo hi,P.info? e with
   | some (l,h),some j=>bif Nat.beq j.size sz && (Nat.ble len a && Nat.ble (Nat.succ l) a) then some (.slice b (off+l*sz) (h-l) (.least (a-l) sz)) else none
   | _,_=>none
  | some _=>none
 | some (.slice e),some .ax=>
  match mx with
  | none=>match da ev 0 0 lo hi,P.info? e with | some _,some _=>some .ax | _,_=>none
  | some _=>none
 | some (.array n e),some (.ptr b off)=>cutAt P ev e b off n n lo hi mx
 | some (.pointer arr),some (.ptr b off)=>
  match P.underlying arr with
  | some (.array n e)=>cutAt P ev e b off n n lo hi mx
  | _=>none
 | some .string,some (.str s)=>
  match mx with
  | none=>match da ev (cX s) (cX s) lo hi with
   | some (l,h)=>some (.str<|takeN (dS s l) (h-l))
   | none=>none
  | some _=>none
 | _,_=>none
def wR (P:Program) (t:TypeId) (x:V):Option Nat:=
 match P.underlying t,x with
 | some .string,.str s=>some (cX s)
 | some (.array n _),_=>some n
 | some (.slice _),.slice _ _ n _=>some n
 | some (.slice _),.ax=>some 0
 | some (.map _ _),.iR=>some 0
 | _,_=>none
def Mv:V->Option V
 | .slice _ _ _ (.known c)=>some (.int .i64<|Int.ofNat c)
 | .slice _ _ _ (.least a _)=>some (.oE a)
 | .ax=>some (.int .i64 0)
 | _=>none
def HK (P:Program) (op:BinOp) (t:TypeId) (x y:V):Option V:=
 match y with
 | .oE a=>match op,x with
  | .gtr,.int .i64 (.ofNat n)=>bif Nat.ble n a then some (.bool false) else none
  | _,_=>none
 | y=>sC P op t x y
def yT:Operand->Bool
 | .const _=>true
 | _=>false
def IZ (P:Program) (o:BinOp) (t:TypeId) (k:Bool):Option V:=
 bif k then(match P.underlying t with
  | some (.interface _)=>match o with
   | .eql=>some (.bool true)
   | .neq=>some (.bool false)
   | _=>none
  | _=>none) else none
def vh (P:Program) (k:Bool) (o:BinOp) (t:TypeId) (x y:V):Option V:=
 match x with
 | .nilIface=>match y with
  | .nilIface=>IZ P o t k
  | y=>HK P o t .nilIface y
 | x=>HK P o t x y
def tN (ev:Operand->Option V) (l:List Operand):Option (List V):=cW ev l
def Nc:V->V->Option V
 | .int k x,.int k' y=>bif r9 k k' then some (.int k (bif bU y x then y else x)) else none
 | _,_=>none
def Nb:V->V->Option V
 | .int k x,.int k' y=>bif r9 k k' then some (.int k (bif bU x y then y else x)) else none
 | _,_=>none
def di (P:Program) (ev:Operand->Option V):Op->Option V
 | .move x | .assign x=>ev x
 | .pick c a b=>match ev c with | some (.bool true)=>ev a | some (.bool false)=>ev b | _=>none
 | .build t parts=>
  match P.underlying t,(fB P t).bind cS with
  | some (.struct fs),some zero=>match cW (fun f:Field=>(P.info? f.type).map fun j=>(f.offset,j.size)) fs.toList with
   | some places=>(kx (nth places) ev parts.toList zero).map .agg
   | none=>none
  | some (.array _ e),some zero=>match P.info? e with
   | some j=>(kx (fun i=>some (i*j.size,j.size)) ev parts.toList zero).map .agg
   | none=>none
  | _,_=>none
 | .nilCheck x=>match ev x with
  | some .nilPtr | some .nilIface | some .nilFunc | some (.yield _) | some .any | some (.tok _)=>none
  | v=>v
 | .binOp op t x y _=>match ev x,ev y with | some a,some b=>vh P (yT x || yT y) op t a b | _,_=>none
 | .unOp op _ x=>match op,ev x with
  | .not,some (.bool b)=>some (.bool (bif b then false else true))
  | .neg,some (.int k n)=>some (.int k<|wr k<|Int.sub 0 n)
  | .xor,some (.int k n)=>some (.int k<|k.wrap (BitVec.ofInt k.bits (if k.signed then-1 else k.max) ^^^ BitVec.ofInt k.bits n).toNat)
  | _,_=>none
 | .convert src dst x=>match P.underlying src,P.underlying dst,ev x with
  | some (.int _),some (.int k),some (.int _ n)=>some (.int k<|wr k n)
  | some .string,some .string,some (.str s)=>some (.str s)
  | _,_,_=>none
 | .makeInterface t x=>match P.underlying t,ev x with
  | some (.interface _),_=>none
  | some _,some v=>some (.iface t v)
  | _,_=>none
 | .makeFunc fn first captured=>match fn,tN ev first.toList,tN ev captured.toList with
  | .func f,some a,some b=>some (.func f a b)
  | _,_,_=>none
 | .slice t x lo hi mx=>fo P ev t x lo hi mx
 | .fieldAddr s x i=>match structOf P s,ev x with
  | some fs,some (.ptr b off)=>match fs[i]? with
   | some f=>match P.info? f.type with
    | some j=>bif Nat.beq j.size 0 then none else some (.ptr b (off+f.offset))
    | none=>none
   | none=>none
  | _,_=>none
 | .field t x i=>match structOf P t,ev x with
  | some fs,some (.agg cs)=>match fs[i]? with
   | some f=>FD P f.type cs f.offset
   | none=>none
  | _,_=>none
 | .indexAddr t x i=>match P.underlying t,ev x,ev i with
  | some (.slice e),some (.slice b off len _),some (.int _ (.ofNat i))=>
   match P.info? e with
   | some j=>bif Nat.ble (Nat.succ i) len then some (.ptr b (off+i*j.size)) else none
   | none=>none
  | some (.array n e),some (.ptr b off),some (.int _ (.ofNat i))=>
   match P.info? e with
   | some j=>bif Nat.ble (Nat.succ i) n then some (.ptr b (off+i*j.size)) else none
   | none=>none
  | _,_,_=>none
 | .index t x i=>match P.underlying t,ev x,ev i with
  | some (.array n e),some (.agg cs),some (.int _ (.ofNat i))=>bif Nat.ble (Nat.succ i) n then(match P.info? e with | some j=>FD P e cs (i*j.size) | none=>none) else none
  | some .string,some (.str s),some (.int _ (.ofNat i))=>match nth s i with | some b=>some (.int .u8<|Int.ofNat b) | none=>none
  | _,_,_=>none
 | .extract x i=>match ev x with
  | some (.tuple vs)=>nth vs i
  | _=>none
 | .typeAssert x _ t ok=>match P.underlying t,ev x with
  | some (.interface _),_=>none
  | some _,some (.iface u v)=>bif Nat.beq u t then some (bif ok then .tuple [v,.bool true] else v) else(bif ok then(fB P t).map fun z=>.tuple [z,.bool false] else none)
  | some _,some .nilIface=>bif ok then(fB P t).map fun z=>.tuple [z,.bool false] else none
  | _,_=>none
 | .call c=>match c.callee with
  | .builtin .len=>match c.argTypes[0]?,c.args.toList with
   | some t,[x]=>match ev x with | some v=>(wR P t v).map fun n=>.int .i64 (Int.ofNat n) | none=>none
   | _,_=>none
  | .builtin .cap=>match c.argTypes[0]?,c.args.toList with
   | some t,[x]=>match P.underlying t,ev x with | some (.slice _),some v=>Mv v | _,_=>none
   | _,_=>none
  | .builtin .min=>match c.args.toList with
   | [x,y]=>(match ev x,ev y with | some a,some b=>Nc a b | _,_=>none)
   | _=>none
  | .builtin .max=>match c.args.toList with
   | [x,y]=>(match ev x,ev y with | some a,some b=>Nb a b | _,_=>none)
   | _=>none
  | _=>none
 | _=>none
def plainKey (P:Program) (t:TypeId):Bool:=
 match P.underlying t with
 | some (.int _) | some .string | some .bool=>true
 | some (.struct fs)=>fs.toList.all fun f=>match P.underlying f.type with
  | some (.int _) | some .string | some .bool=>true
  | some (.struct gs)=>gs.toList.all fun g=>match P.underlying g.type with
   | some (.int _) | some .string | some .bool=>true
   | _=>false
  | some (.array _ e)=>sd P e
  | _=>false
 | _=>false
def py (P:Program) (t:TypeId) (x y:V):Option Bool:=
 match P.underlying t,x,y with
 | some (.int _),.int j a,.int k b=>bif r9 j k then some (I a b) else none
 | some .string,.str a,.str b=>some (gL a b)
 | some .bool,.bool a,.bool b=>some (bif a then b else(bif b then false else true))
 | some (.struct _),.agg xs,.agg ys=>DA P t (.agg xs) (.agg ys)
 | _,_,_=>none
def mI (P:Program) (t:TypeId) (x:V):Bool:=
 match P.underlying t,x with
 | some (.struct fs),.agg xs=>fs.toList.all fun f=>match P.underlying f.type with
  | some (.struct gs)=>match dU P f.type with
   | some (some n)=>gs.toList.all fun g=>(nth (takeN (dS xs f.offset) n) g.offset).isSome
   | _=>false
  | some (.array m _)=>match dU P f.type with
   | some (some n)=>Nat.beq n m && Nat.beq (cX<|takeN (dS xs f.offset) n) m
   | _=>false
  | _=>(nth xs f.offset).isSome
 | some (.struct _),_=>false
 | _,_=>true
def pr (P:Program) (t:TypeId) (k:V) (es:List fC):Nat->Option (Option (Nat×V)):=
 List.rec (motive:=fun _=>Nat->Option (Option (Nat×V))) (fun _=>some none)
  (fun e _ ih i=>match py P t k e.key with
   | some true=>some (some (i,e.val))
   | some false=>ih (Nat.succ i)
   | none=>none) es
def sn (P:Program) (u:Option TypeId) (U:D) (x:Option V):Option V:=
 match x with
 | some (.ptr b off)=>match U.m.get b with
  | some (.own cells e)=>match u with
   | some u=>bif liesAt P P.depth e (cX cells/P.cellsOf e) off u 1 then some (.ptr b off) else none
   | none=>bif Nat.ble (Nat.succ off) (cX cells) then some (.ptr b off) else none
  | _=>none
 | _=>none
def yz:V->Option Nat
 | .int .u8 (.ofNat n)=>bif Nat.ble n 255 then some n else none
 | _=>none
def gW (P:Program) (ev:Operand->Option V) (U:D):Op->Option V
 | .load t x=>match ev x with
  | some (.ptr b off)=>match U.m.get b with
   | some (.row cells _ _)=>match dU P t with
    | some (some n)=>bif Nat.ble (off+n) (cX cells) then some (.agg<|takeN (dS cells off) n) else none
    | some none=>nth cells off
    | none=>none
   | some (.own cells _)=>match dU P t with
    | some (some n)=>bif Nat.ble (off+n) (cX cells) then some (.agg<|takeN (dS cells off) n) else none
    | some none=>nth cells off
    | none=>none
   | _=>none
  | _=>none
 | .lookup t x i ok=>match P.underlying t,ev i with
  | some (.map kt et),some k=>bif plainKey P kt && mI P kt k then
    match(match ev x with
     | some .iR=>some []
     | some (.map b)=>match U.m.get b with | some (.map es _)=>some es | _=>none
     | _=>none) with
    | some es=>match pr P kt k es 0,fB P et with
     | some (some (_,v)),some _=>some (bif ok then .tuple [v,.bool true] else v)
     | some none,some z=>some (bif ok then .tuple [z,.bool false] else z)
     | _,_=>none
    | none=>none
   else none
  | _,_=>none
 | .call c=>match c.callee with
  | .builtin .len=>match c.argTypes[0]?,c.args.toList with
   | some t,[x]=>match P.underlying t,ev x with
    | some (.map _ _),some (.map b)=>match U.m.get b with
     | some (.map es _)=>some (.int .i64<|Int.ofNat<|cX es)
     | _=>none
    | some (.map _ _),some .iR=>some (.int .i64 0)
    | _,_=>none
   | _,_=>none
  | _=>none
 | .convert src dst x=>match P.underlying src,P.underlying dst with
  | some (.slice e),some .string=>match P.underlying e,ev x with
   | some (.int .u8),some .ax=>some (.str [])
   | some (.int .u8),some (.slice b off len _)=>bif Nat.beq len 0 then some (.str []) else match U.m.get b with
    | some (.row cells _ _)=>bif Nat.ble (off+len) (cX cells) then(match cW yz (takeN (dS cells off) len) with | some s=>some (.str s) | none=>none) else none
    | _=>none
   | _,_=>none
  | some (.pointer t),some .unsafePointer=>match P.info? t with
   | some j=>bif Nat.beq j.size 0 then none else sn P none U (ev x)
   | none=>none
  | some .unsafePointer,some (.pointer u)=>bif (P.info? u).isSome then sn P (some u) U (ev x) else none
  | _,_=>none
 | _=>none
inductive Mk where
 | ptr
 | slice (len cap:Nat)
 | map
def Mk.of:Mk->Pos->V
 | .ptr,b=>.ptr b 0
 | .slice len cap,b=>.slice b 0 len (.known cap)
 | .map,b=>.map b
def ta (P:Program) (e:TypeId):Bool:=
 match P.underlying e with
 | some (.struct fs)=>match fs[0]? with
  | some f=>match P.underlying f.type with
   | some (.pointer t)=>Nat.beq t e
   | _=>false
  | none=>false
 | _=>false
def gi (P:Program) (ev:Operand->Option V):Op->Option (cG×Mk)
 | .alloc e=>match(fB P e).bind cS with
  | some cs=>some (bif ta P e then .own cs e else .row cs e false,.ptr)
  | none=>none
 | .box e x=>match(ev x).bind cS with
  | some cs=>some (.row cs e false,.ptr)
  | none=>none
 | .buildSlice t len parts=>match P.underlying t with
  | some (.slice e)=>match P.info? e,(fB P e).bind cS with
   | some j,some z=>
    bif Nat.beq (cX z) j.size && Nat.ble (len*j.size) 16777216 && Nat.ble 1 j.size then
     match kx (fun i=>some (i*j.size,j.size)) ev parts.toList (fp z len) with
     | some cs=>some (.row cs e false,.slice len len)
     | none=>none
    else none
   | _,_=>none
  | _=>none
 | .makeSlice t l c=>match P.underlying t,ev l,ev c with
  | some (.slice e),some (.int _ (.ofNat l)),some (.int _ (.ofNat c))=>match P.info? e,(fB P e).bind cS with
   | some j,some z=>
    bif Nat.ble l c && Nat.ble (j.bytes*c) 1048576 && Nat.ble c 1048576 && Nat.beq (cX z) j.size && Nat.ble 1 j.size then some (.row (fp z c) e false,.slice l c) else none
   | _,_=>none
  | _,_,_=>none
 | .makeMap _ none=>some (.map [] 0,.map)
 | .makeMap t (some r)=>match P.underlying t,ev r with
  | some (.map _ _),some (.int _ _)=>some (.map [] 0,.map)
  | _,_=>none
 | _=>none
theorem bA {c:Bool} {α:Type} {x y:α}:(bif c then x else y)=if c=true then x else y:=by cases c<;>rfl
theorem uZ (k:IntKind) (n:Int) (h:MY k n=true):k.wrap n=n:=by
 cases k<;>cases n with
 | ofNat a=>simp only[MY,nE_] at h;simp only[IntKind.wrap,IntKind.bits,IntKind.signed];simp;omega
 | negSucc a=>first | (simp only[MY,nE_] at h;simp only[IntKind.wrap,IntKind.bits,IntKind.signed];simp;omega) | (simp[MY] at h)
theorem zu (k:IntKind) (n:Int):wr k n=k.wrap n:=by
 unfold wr;cases h:MY k n with
 | true=>simp[uZ k n h]
 | false=>simp
theorem eP (x y:Int):bU x y=decide (x<y):=by
 cases x<;>cases y<;>simp only[bU]<;>(rw[Bool.eq_iff_iff];simp[nE_];try omega)
theorem dF (x y:Int):I x y=decide (x=y):=by
 cases x<;>cases y<;>simp only[I]<;>(rw[Bool.eq_iff_iff];simp;try omega)
theorem pR {j k:IntKind} (h:r9 j k=true):j=k:=by cases j<;>cases k<;>first | rfl | (simp[r9] at h)
theorem mB:∀(s t:List Nat),gL s t=decide (s=t)
 | [],[]=>by simp[gL]
 | [],_::_=>by simp[gL]
 | _::_,[]=>by simp[gL]
 | x::s,y::t=>by
  show(bif Nat.beq x y then gL s t else false)=_;rw[mB s t,Bool.eq_iff_iff];cases h:Nat.beq x y with
  | true=>have:=nB h;subst this;simp
  | false=>have:=Nat.ne_of_beq_eq_false h;simp[this]
theorem IS:∀(s t:List UInt8),Kb (s.map UInt8.toNat) (t.map UInt8.toNat)=Op.bytesLess s t
 | [],[]=>by simp[Kb,Op.bytesLess]
 | [],_::_=>by simp[Kb,Op.bytesLess]
 | _::_,[]=>by simp[Kb,Op.bytesLess]
 | x::s,y::t=>by
  show(bif Nat.ble (Nat.succ x.toNat) y.toNat then true else bif Nat.beq x.toNat y.toNat then Kb (s.map UInt8.toNat) (t.map UInt8.toNat) else false)=_;rw[IS s t];simp only[Op.bytesLess]
  have a:Nat.ble (Nat.succ x.toNat) y.toNat=decide (x<y):=by
   rw[Bool.eq_iff_iff,nE_];simp[UInt8.lt_iff_toNat_lt];omega
  have b:Nat.beq x.toNat y.toNat=(x == y):=by
   rw[Bool.eq_iff_iff,Nat.beq_eq];simp[<-UInt8.toNat_inj]
  rw[a,b];cases decide (x<y)<;>cases (x == y)<;>simp
theorem rL:∀{x y:List UInt8},x.map UInt8.toNat=y.map UInt8.toNat->x=y
 | [],[],_=>rfl
 | [],_::_,h=>by simp at h
 | _::_,[],h=>by simp at h
 | a::x,b::y,h=>by
  simp only[List.map_cons,List.cons.injEq] at h;rw[UInt8.toNat_inj.1 h.1,rL h.2]
theorem ou {s t:List Nat} {x y:ByteArray} (h:hY s x) (h':hY t y):gL s t=(x.toList == y.toList):=by
 unfold hY at h h';subst h;subst h';rw[mB,ByteArray.toList_eq,ByteArray.toList_eq,Bool.eq_iff_iff];simp only[decide_eq_true_eq,beq_iff_eq];exact⟨rL,fun h=>by rw[h]⟩
theorem zf {s t:List Nat} {x y:ByteArray} (h:hY s x) (h':hY t y):Kb s t=Op.bytesLess x.toList y.toList:=by
 unfold hY at h h';subst h;subst h';rw[IS,ByteArray.toList_eq,ByteArray.toList_eq]
theorem jK {s:List Nat} {x:ByteArray} (h:hY s x):cX s=x.size:=by
 unfold hY at h;subst h;rw[bK,lM_,Array.length_toList];rfl
theorem info_of_underlying {P:Program} {t:TypeId} {d:TypeDesc} (h:P.underlying t=some d):∃i,P.info? t=some i:=by
 unfold Program.underlying at h;cases a:P.info? t with
 | none=>simp[a] at h
 | some i=>exact⟨i,Z⟩
theorem r6 {P:Program} {t:TypeId} {i:TypeInfo} (h:P.info? t=some i):P.cellsOf t=i.size:=by simp[Program.cellsOf,h]
theorem w5:∀(cs l:List V),cs.length<=l.length->l6 cs l=cs++l.drop cs.length
 | [],l,_=>by simp[l6]
 | c::cs,[],h=>by simp at h
 | c::cs,x::l,h=>by
  show c::l6 cs l=_;rw[w5 cs l (by simpa using h)];simp
theorem oo (cs:List V):∀(l:List V) (off:Nat),off+cs.length<=l.length->dG cs l off=l.take off++cs++l.drop (off+cs.length)
 | [],off,h=>by
  have:cs= []:=eN_ (by simp only[List.length_nil] at h;omega);subst this;simp[dG]
 | x::l,0,h=>by
  show l6 cs (x::l)=_;rw[w5 _ _ (by simpa using h)];simp
 | x::l,off+1,h=>by
  show x::dG cs l off=_;rw[oo cs l off (by simp at h;omega)];rw[show off+1+cs.length=(off+cs.length)+1 by omega];simp
theorem rT:∀{l:List V},cD l=true->∀v∈l,iB v=true
 | [],_,v,a=>by simp at a
 | x::l,h,v,a=>by
  have h':(bif iB x then cD l else false)=true:=h;cases b:iB x with
  | false=>rw[b] at h';simp at h'
  | true=>
   rw[b] at h';cases a with
   | head=>exact b
   | tail _ hm=>exact rT h' v hm
theorem oV {S:dh} {v:V} {x:Value} (h:iB v=true) (d:H S v x):x.oneCell'=true:=by
 cases v with
 | slice b off len cap=>
  cases cap with
  | upto sz=>
   simp only[H] at d;rcases d with ⟨l,_,⟨c,rfl,_⟩ | ⟨_,a,rfl⟩⟩<;>rfl
  | known c=>simp only[H] at d;obtain⟨l,_,rfl⟩:=d;rfl
  | least a sz=>simp only[H] at d;obtain⟨l,_,c,rfl,_⟩:=d;rfl
 | any=>simp[iB] at h
 | tok n=>simp only[H] at d;exact d.2
 | _=>simp only[H,iB] at d h<;>first | (subst d;rfl) | (obtain⟨_,rfl,_⟩:=d;rfl) | (obtain⟨_,_,rfl⟩:=d;rfl) | (obtain⟨_,_,rfl,_⟩:=d;rfl) | (exact absurd h (by simp))
theorem oY {S:dh} {x:Value} {v:V} (h:kK x=some v):H S v x:=by
 unfold kK at h;split at h<;>first | (cases h;first | (simp only[H];done) | (simp only[H];exact⟨_,Z,Z⟩)) | cases h
theorem nu {S:dh}:∀{xs:List Value} {vs:List V},cW kK xs=some vs->dp S vs xs
 | [],vs,h=>by rw[iK] at h;cases h;exact dp.nil
 | x::xs,vs,h=>by
  obtain⟨y,r,a,b,rfl⟩:=gX h;exact dp.cons (oY a)<|nu b
theorem qc {S:dh} {x:Value} {v:V} (h:qb x=some v):H S v x:=by
 unfold qb at h;split at h
 ·rename_i cs;cases a:cW kK cs.toList with
  | none=>rw[a] at h;cases h
  | some vs=>rw[a] at h;cases h;simp only[H];exact⟨cs,Z,nu a⟩
 ·rename_i cs;cases a:cW kK cs.toList with
  | none=>rw[a] at h;cases h
  | some vs=>rw[a] at h;cases h;simp only[H];exact⟨cs,Z,nu a⟩
 exact oY h
theorem iX {S:dh} {v:V} {x:Value} {cs:List V} (h:cS v=some cs) (a:H S v x):dp S cs x.cells.toList:=by
 have leaf:iB v=true->cs= [v]->dp S cs x.cells.toList:=fun b e=>by
  subst e;have hx:=oV b a;have e:x.cells.toList= [x]:=by cases x<;>first | rfl | (simp[Value.oneCell'] at hx)
  rw[e];exact dp.cons a dp.nil
 cases v with
 | agg ds=>simp only[cS,oJ_] at h;subst h;simp only[H] at a;obtain⟨ys,rfl,c⟩:=a;exact c
 | tuple ds=>simp[cS] at h
 | any=>simp[cS] at h
 | _=>simp only[cS,oJ_] at h;exact leaf Z h.symm
theorem m9 {S:dh} {v:V} {x:Value} {cs:List V} (h:cS v=some cs) (a:H S v x):x.cells.size=cs.length:=by
 have:=(iX h a).length;simpa using this
section
variable {P:Program} {S:dh} {U:D} {w:World}
def ER (S:dh) (ev:Operand->Option V) (f:Operand->Value) (op:Op):Prop:=∀x∈op.operands,∀v,ev x=some v->H S v (f x)
theorem Inv.piece (g:Inv S U w) {b:Pos} {l:Loc} {cells:List V} {e:Nat} {ro:Bool} (h:U.m.get b=some (.row cells e ro)) (k:S b=some l) (off n:Nat) (hn:off+n<=cells.length):
  ∃ys:List Value,ys.length=n/\dp S ((cells.drop off).take n) ys/\∀(j:Nat) (y:Value),ys[j]?=some y->w.cell? ((⟨l.dE,l.sh+off,none⟩:Addr).add j)=some y:=by
 obtain⟨c,fr,o,h2,h3,p,_⟩:=g.row h k;refine⟨(c.toList.drop (l.sh+off)).take n,?_,dp.Jc ?_ ?_,?_⟩
 ·rw[lT_,lD_,Array.length_toList];omega
 ·rw[lT_,lD_,lT_,lD_,Array.length_toList];omega
 ·intro i v d;rw[List.getElem?_take] at d;split at d
  ·rename_i f;rw[List.getElem?_drop] at d;obtain⟨y,a,q⟩:=p (off+i) v d;refine⟨y,?_,q⟩;rw[List.getElem?_take,if_pos f,List.getElem?_drop,aT_,<-a];congr 1;omega
  cases d
 intro j y a;rw[List.getElem?_take] at a;split at a
 ·rw[List.getElem?_drop,aT_] at a;rw[Addr.add_eq _ _ Z,cell?_of_heap o];exact a
 cases a
def A0:TypeDesc->Bool
 | .struct _ | .array _ _=>true
 | _=>false
theorem ff {t:TypeId} {d:TypeDesc} (h:P.underlying t=some d):(isAgg t).run P w= .ok (A0 d) w:=by
 simp only[isAgg,sB_,run_underlying h,rA];cases d<;>rfl
theorem cw {t:TypeId} {i:TypeInfo} (h:P.info? t=some i):(sizeOf t).run P w= .ok i.size w:=by
 simp[sizeOf,typeInfo,h]
theorem rS {t:TypeId} {n:Nat} (h:dU P t=some (some n)):∃d i,P.underlying t=some d/\P.info? t=some i/\i.size=n/\A0 d=true:=by
 rw[Ba] at h;split at h
 ·rename_i fs hu;obtain⟨i,a⟩:=info_of_underlying hu;simp only[oJ_] at h;rw[r6 a] at h;exact⟨_,i,hu,a,h,Z⟩
 ·rename_i hu;obtain⟨i,a⟩:=info_of_underlying hu;simp only[oJ_] at h;rw[r6 a] at h;exact⟨_,i,hu,a,h,Z⟩
 ·simp at h
 simp at h
theorem vH {t:TypeId} (h:dU P t=some none):∃d i,P.underlying t=some d/\P.info? t=some i/\A0 d=false:=by
 rw[Ba] at h;split at h
 ·simp at h
 ·simp at h
 ·rename_i d a b hu;obtain⟨i,c⟩:=info_of_underlying hu;refine⟨d,i,hu,c,?_⟩;cases d<;>first | rfl | exact absurd rfl (a _) | exact absurd rfl (b _ _)
 simp at h
theorem nE (k:Inv S U w) {b:Pos} {l:Loc} {off:Nat} {cells:List V} {e:Nat} {ro:Bool} (p:U.m.get b=some (.row cells e ro)) (q:S b=some l) {t:TypeId} {v:V}
  (h:(match dU P t with
    | some (some n)=>bif Nat.ble (off+n) (cX cells) then some (.agg<|takeN (dS cells off) n) else none
    | some none=>nth cells off
    | none=>none)=some v):
  ∃x,(loadVar t ⟨l.dE,l.sh+off,none⟩).run P w= .ok x w/\H S v x:=by
 cases c:dU P t with
 | none=>rw[c] at h;cases h
 | some o=>
  rw[c] at h;cases o with
  | some n=>
   obtain⟨d,i,hu,a,f,g⟩:=rS c;simp only[bA] at h;split at h
   ·rename_i hle;rw[nE_,bK] at hle;cases h;obtain⟨ys,hlen,j,r⟩:=k.piece p q off n hle;refine⟨.agg ys.toArray,?_,?_⟩
    ·simp only[loadVar,sB_,ff hu,g,rA,if_true,cw a,f];rw[<-hlen,run_loadCells_list w _ ys r];rfl
    simp only[H,du,dO];exact⟨_,Z,by simpa using j⟩
   cases h
  | none=>
   obtain⟨d,i,hu,a,g⟩:=vH c;rw[eF] at h;obtain⟨y,s,u⟩:=k.cell p q h;refine⟨y,?_,u⟩;simp only[loadVar,sB_,ff hu,g,rA,Bool.false_eq_true,if_false];rw[run_load,s]
end
section
variable {P:Program} {S:dh} {U:D} {w:World}
def iw (l:List V) (k:Nat):List V->List V
 | []=>l
 | v::vs=>iw (l.set k v) (k+1) vs
theorem rO:∀(vs:List V) (l:List V) (k:Nat),(iw l k vs).length=l.length
 | [],_,_=>rfl
 | v::vs,l,k=>by rw[iw,rO vs];simp
theorem qq:∀(vs:List V) (x:V) (l:List V) (k:Nat),iw (x::l) (k+1) vs=x::iw l k vs
 | [],_,_,_=>rfl
 | v::vs,x,l,k=>by rw[iw,iw,List.set_cons_succ,qq vs]
theorem qe:∀(cs l:List V),cs.length<=l.length->l6 cs l=iw l 0 cs
 | [],l,_=>by simp[l6,iw]
 | c::cs,[],h=>by simp at h
 | c::cs,x::l,h=>by
  show c::l6 cs l=_;rw[qe cs l (by simpa using h),iw,List.set_cons_zero,qq]
theorem kW (cs:List V):∀(l:List V) (off:Nat),off+cs.length<=l.length->dG cs l off=iw l off cs
 | [],off,h=>by
  have:cs= []:=eN_ (by simp only[List.length_nil] at h;omega);subst this;simp[dG,iw]
 | x::l,0,h=>by
  show l6 cs (x::l)=_;exact qe _ _ (by simpa using h)
 | x::l,off+1,h=>by
  show x::dG cs l off=_;rw[kW cs l off (by simp only[List.length_cons] at h;omega),qq]
theorem BM {off:Nat}:∀(vs:List V) (xs:List Value) (k:Nat) (l:List V) (ys:Array Value),dp S vs xs->dp S l ys.toList->
  dp S (iw l (off+k) vs) ((xs.zipIdx k).foldl (fun(cs:Array Value) (p:Value×Nat)=>cs.setIfInBounds (off+p.2) p.1) ys).toList
 | [],xs,k,l,ys,h,a=>by rw[h.eQ];exact a
 | v::vs,xs,k,l,ys,h,a=>by
  obtain⟨x,r,rfl,b,c⟩:=h.cons_inv;simp only[List.zipIdx_cons,List.foldl_cons,iw];have:=BM (off:=off) vs r (k+1) (l.set (off+k) v) (ys.setIfInBounds (off+k) x) c (by simpa using a.set (off+k) b);simpa [Nat.add_assoc] using this
theorem oQ {place place':Nat->Option (Nat×Nat)} (e:∀i x,place i=some x->place' i=some x) {ev:Operand->Option V} {f:Operand->Value}:
  ∀(parts:List (Nat×Operand)) (cells cs:List V) (ys:Array Value),(∀p∈parts,∀v,ev p.2=some v->H S v (f p.2))->dp S cells ys.toList->kx place ev parts cells=some cs->
   ∃zs:Array Value,Instr.fill place' ys (parts.map fun p=>(p.1,f p.2))=some zs/\dp S cs zs.toList
 | [],cells,cs,ys,_,c,h=>by
  simp only[kx,oJ_] at h;subst h;exact⟨ys,Z,c⟩
 | p::parts,cells,cs,ys,g,c,h=>by
  have h':(match place p.1,(ev p.2).bind cS with
   | some (off,size),some vs=>bif Nat.beq (cX vs) size && Nat.ble (off+size) (cX cells) then kx place ev parts (dG vs cells off) else none
   | _,_=>none)=some cs:=h
  cases a:place p.1 with
  | none=>rw[a] at h';cases h'
  | some x=>
   obtain⟨off,size⟩:=x;cases d:ev p.2 with
   | none=>rw[a,d] at h';cases h'
   | some v=>
    rw[a,d] at h';simp only[Option.bind_some] at h';cases b:cS v with
    | none=>rw[b] at h';cases h'
    | some vs=>
     rw[b] at h';simp only[bA] at h';split at h'
     ·rename_i j;simp only[bA_,Nat.beq_eq,nE_,bK] at j;obtain⟨ab,ac⟩:=j;have hvr:=g p (by simp) v d;have hcells:=iX b hvr;have hsize:=m9 b hvr;have aa:ys.size=cells.length:=by have:=c.length;simpa using this
      have hfold:=BM (off:=off) vs (f p.2).cells.toList 0 cells ys hcells c;rw[Nat.add_zero,<-kW vs cells off B] at hfold;obtain⟨zs,k,l⟩:=oQ e parts (dG vs cells off) cs _ (fun q m=>g q (by simp[m])) hfold h';refine⟨zs,?_,l⟩;rw[List.map_cons];simp only[Instr.fill,e _ _ a];rw[if_neg]
      ·rw[<-k];congr 1;rw[<-Array.foldl_toList];simp
      simp only[Bool.or_eq_true,decide_eq_true_eq,not_or];omega
     cases h'
theorem sy {α β:Type} {g:α->Option β}:∀{l:List α} {ys:List β},cW g l=some ys->l.mapM g=some ys
 | [],ys,h=>by rw[iK] at h;cases h;rfl
 | x::l,ys,h=>by
  obtain⟨y,r,a,b,rfl⟩:=gX h;simp[List.mapM_cons,a,sy b]
theorem qC {t:TypeId} {z:V} (h:fB P t=some z):∃i x,P.info? t=some i/\i.zero=some x/\∀S:dh,H S z x:=by
 unfold fB at h;cases b:P.info? t with
 | none=>rw[b] at h;cases h
 | some i=>
  rw[b] at h;simp only[Option.bind_some] at h;cases a:i.zero with
  | none=>rw[a] at h;cases h
  | some x=>rw[a] at h;exact⟨i,x,Z,a,fun S=>qc h⟩
theorem gp {t:TypeId} {cs:List V} (h:(fB P t).bind cS=some cs):∃i x,P.info? t=some i/\i.zero=some x/\∀S:dh,dp S cs x.cells.toList:=by
 cases a:fB P t with
 | none=>rw[a] at h;cases h
 | some z=>
  rw[a] at h;obtain⟨i,x,b,c,d⟩:=qC a;exact⟨i,x,b,c,fun S=>iX h (d S)⟩
theorem Bj {ev:Operand->Option V} {f:Operand->Value} {t:TypeId} {parts:Array (Nat×Operand)} {v:V}
  (r:∀p∈parts.toList,∀v,ev p.2=some v->H S v (f p.2)) (h:di P ev (.build t parts)=some v):
  ∃x,(Instr.build t<|parts.map fun(i,x)=>(i,f x)).run P w= .ok x w/\H S v x:=by
 simp only[di] at h;cases hu:P.underlying t with
 | none=>rw[hu] at h;cases h
 | some d=>
  rw[hu] at h;cases l:(fB P t).bind cS with
  | none=>rw[l] at h;cases d<;>cases h
  | some zero=>
   rw[l] at h;obtain⟨it,z,c,hzero,g⟩:=gp l;cases d with
   | struct fs=>
    simp only at h;cases a:cW (fun f:Field=>(P.info? f.type).map fun j=>(f.offset,j.size)) fs.toList with
    | none=>rw[a] at h;cases h
    | some places=>
     rw[a] at h;dsimp only at h;cases b:kx (nth places) ev parts.toList zero with
     | none=>rw[b] at h;cases h
     | some cs=>
      rw[b] at h;cases h;obtain⟨zs,m,o⟩:=oQ (place':=(places.toArray[·]?)) (fun i x k=>by rw[eF] at k;simpa using k) parts.toList zero cs z.cells r (g S) b
      refine⟨.agg zs,run_build w t _ zs ?_,by simp only[H];exact⟨zs,Z,o⟩⟩;simp only[Program.built,c,hu,hzero,sy a];simpa using m
   | array n e=>
    simp only at h;cases q:P.info? e with
    | none=>rw[q] at h;cases h
    | some j=>
     rw[q] at h;dsimp only at h;cases b:kx (fun i=>some (i*j.size,j.size)) ev parts.toList zero with
     | none=>rw[b] at h;cases h
     | some cs=>
      rw[b] at h;cases h;obtain⟨zs,m,o⟩:=oQ (place':=fun i=>some (i*j.size,j.size)) (fun i x k=>k) parts.toList zero cs z.cells r (g S) b;refine⟨.agg zs,run_build w t _ zs ?_,by simp only[H];exact⟨zs,Z,o⟩⟩;simp only[Program.built,c,hu,hzero,q];simpa using m
   | _=>cases h
theorem qY {cs:List V} {ys:List Value} (h:dp S cs ys) (r e:Nat):iF S ⟨r,0,cs.length⟩ (.row cs e false) (.cells ys.toArray e):=by
 refine⟨_,_,Z,by simpa using h.length,nR_ _,fun i v a=>?_,fun _ j _ b=>by simp at b⟩;obtain⟨y,c,d⟩:=h.get a;exact⟨y,by simpa using c,d⟩
theorem ki {cs:List V} {ys:List Value} (h:dp S cs ys):∀n,dp S (fp cs n) ((List.replicate n ys).flatten)
 | 0=>(dp.nil:dp S [] [])
 | n+1=>by
  show dp S (ie cs<|fp cs n) _;rw[dV,List.replicate_succ,List.flatten_cons];exact h.append<|ki h n
theorem nO (cs:List V):∀n,(fp cs n).length=n*cs.length
 | 0=>by rw[Nat.zero_mul];rfl
 | n+1=>by
  show(ie cs<|fp cs n).length=_;rw[dV,lA_,nO cs n,Nat.succ_mul,Nat.add_comm]
theorem kz (ys:List Value):∀(n j:Nat),j<n*ys.length->((List.replicate n ys).flatten)[j]?=ys[j%ys.length]?
 | 0,j,h=>by simp at h
 | n+1,j,h=>by
  rw[List.replicate_succ,List.flatten_cons]
  by_cases b:j<ys.length
  ·rw[gL_ b,Nat.mod_eq_of_lt b]
  rw[gR_ B,kz ys n (j-ys.length) (by rw[Nat.succ_mul] at h;omega)];congr 1
  have a:0<ys.length:=by
   rcases Nat.eq_zero_or_pos ys.length with a | a
   ·rw[a] at h;simp at h
   exact a
  rw[Nat.mod_eq_sub_mod (by omega:j≥ys.length)]
theorem vw (z:Array Value) (n:Nat) (c:0<z.size):((Array.range (n*z.size)).map (z[· %z.size]!))=((List.replicate n z.toList).flatten).toArray:=by
 apply Array.ext_getElem?;intro j;simp only[Array.getElem?_map,List.getElem?_toArray]
 by_cases a:j<n*z.size
 ·rw[kz z.toList n j (by simpa using a)];simp only[Array.length_toList,aT_];have b:j%z.size<z.size:=Nat.mod_lt _ c;simp[a,b]
 have d:((List.replicate n z.toList).flatten).length<=j:=by simp;omega
 rw[gN_ d];simp[a]
theorem ur {ev:Operand->Option V} {f:Operand->Value} {o:Oper} {ob:cG} {mk:Mk} (E:ER S ev f o.op) (h:gi P ev o.op=some (ob,mk)):
  ∃(x:Value) (ob':Obj) (n:Nat),(execOp f o).run P w= .ok (.value x) (w.alloc ob')/\ob.ro=false/\iF S ⟨w.heap.size,0,n⟩ ob ob'/\
   ∀(S':dh) (b:Pos),S' b=some ⟨w.heap.size,0,n⟩->H S' (mk.of b) x:=by
 cases q:o.op with
 | alloc e=>
  rw[q] at h;simp only[gi] at h;cases y:(fB P e).bind cS with
  | none=>rw[y] at h;cases h
  | some cs=>
   rw[y] at h;obtain⟨i,z,F,hzero,m⟩:=gp y;cases Q:ta P e with
   | false=>
    rw[Q] at h;cases h;refine⟨.pointer<|some ⟨w.heap.size,0,none⟩,.cells z.cells e,cs.length,?_,Z,qY (m S) _ _,fun S' b a=>by simp only[Mk.of,H];exact⟨_,a,Z⟩⟩;simp[execOp,q,Instr.alloc,zeroValue,typeInfo,F,hzero,newVar,newRow]
   | true=>
    rw[Q] at h;cases h;refine⟨.pointer<|some ⟨w.heap.size,0,none⟩,.cells z.cells e,cs.length,?_,Z,iF.FK ⟨Z,Z⟩<|qY (m S) _ _,fun S' b a=>by simp only[Mk.of,H];exact⟨_,a,Z⟩⟩;simp[execOp,q,Instr.alloc,zeroValue,typeInfo,F,hzero,newVar,newRow]
 | box e x=>
  rw[q] at h E;simp only[gi] at h;cases M:ev x with
  | none=>rw[M] at h;cases h
  | some v=>
   rw[M] at h;dsimp only[Option.bind_some] at h;cases G:cS v with
   | none=>rw[G] at h;cases h
   | some cs=>
    rw[G] at h;cases h;have hvr:=E x (by simp[Op.operands]) v M;refine⟨.pointer<|some ⟨w.heap.size,0,none⟩,.cells (f x).cells e,cs.length,?_,Z,qY (iX G hvr) _ _,fun S' b a=>by simp only[Mk.of,H];exact⟨_,a,Z⟩⟩;simp[execOp,q,Instr.box,newVar,newRow]
 | buildSlice t len parts=>
  rw[q] at h E;simp only[gi] at h;cases hu:P.underlying t with
  | none=>rw[hu] at h;cases h
  | some d=>
   rw[hu] at h;cases d with
   | slice e=>
    dsimp only at h;cases u:P.info? e with
    | none=>rw[u] at h;cases h
    | some j=>
     cases y:(fB P e).bind cS with
     | none=>rw[u,y] at h;cases h
     | some z=>
      rw[u,y] at h;simp only[bA] at h;split at h
      ·rename_i a;simp only[bA_,Nat.beq_eq,nE_,bK] at a;obtain⟨⟨K,X⟩,aa⟩:=a;cases hf:kx (fun i=>some (i*j.size,j.size)) ev parts.toList (fp z len) with
       | none=>rw[hf] at h;cases h
       | some cs=>
        rw[hf] at h;cases h;obtain⟨i,zv,F,hzero,m⟩:=gp y;rw[u] at F;cases F;have s:zv.cells.size=j.size:=by rw[<-K,<-(m S).length,Array.length_toList]
        have A:∀p∈parts.toList,∀v,ev p.2=some v->H S v (f p.2):=fun p Q v M=>E p.2 (by simp only[Op.operands,List.mem_toArray,List.mem_map];exact⟨p,Q,Z⟩) v M
        obtain⟨zs,R,h2⟩:=oQ (place':=fun i=>some (i*j.size,j.size)) (fun i x hx=>hx) parts.toList (fp z len) cs ((List.replicate len zv.cells.toList).flatten).toArray A
         (by simpa using ki (m S) len) hf
        rw[<-vw zv.cells len B,s] at R;have ab:cs.length=zs.size:=by have:=h2.length;simpa using this.symm
        by_cases L:len*j.size=0
        ·refine⟨.slice (some ⟨w.heap.size,0,none⟩) len len,.cells zs e,cs.length,?_,Z,by simpa using qY h2 w.heap.size e,fun S' b a=>by simp only[Mk.of,H];exact⟨_,a,Z⟩⟩;have ac:(Array.map (fun x=>zv.cells[x%j.size]!)<|Array.range (len*j.size))= #[]:=by rw[L];simp
         rw[ac] at R;have ag:∀g:Nat->Value,Array.map g (Array.range 0)= #[]:=fun g=>by simp
         simp[execOp,q,Instr.buildSlice,run_underlying hu,sizeOf,typeInfo,u,L,ag,R,newRow]
        refine⟨.slice (some ⟨w.heap.size,0,none⟩) len len,.cells zs e,cs.length,?_,Z,by simpa using qY h2 w.heap.size e,fun S' b a=>by simp only[Mk.of,H];exact⟨_,a,Z⟩⟩;have hrun:=run_buildSlice (P:=P) w t e len (parts.map fun(i,x)=>(i,f x)) zs j zv hu u hzero B L (by rw[s];simpa using R);simp only[execOp,q,sB_,hrun,rA,sP_]
      cases h
   | _=>cases h
 | makeSlice t l c=>
  rw[q] at h E;simp only[gi] at h;cases hu:P.underlying t with
  | none=>rw[hu] at h;cases h
  | some d=>
   rw[hu] at h;cases W:ev l with
   | none=>rw[W] at h;cases d<;>cases h
   | some vl=>
    cases G:ev c with
    | none=>rw[W,G] at h;cases d<;>first | cases h | (cases vl<;>first | cases h | (rename_i k n;cases n<;>cases h))
    | some vc=>
     rw[W,G] at h;split at h
     ·rename_i e kl ln kc cn he am ao;cases he;cases am;cases ao;cases u:P.info? e with
      | none=>rw[u] at h;cases h
      | some j=>
       cases y:(fB P e).bind cS with
       | none=>rw[u,y] at h;cases h
       | some z=>
        rw[u,y] at h;simp only[bA] at h;split at h
        ·rename_i a;simp only[bA_,Nat.beq_eq,nE_,bK] at a;obtain⟨⟨⟨⟨K,X⟩,aa⟩,ap⟩,aY⟩:=a;cases h;obtain⟨i,zv,F,hzero,m⟩:=gp y;rw[u] at F;cases F;have s:zv.cells.size=j.size:=by rw[<-ap,<-(m S).length,Array.length_toList]
         have aq:f l= .int kl (Int.ofNat ln):=by have:=E l (by simp[Op.operands]) _ W;simpa only[H] using this
         have ar:f c= .int kc (Int.ofNat cn):=by have:=E c (by simp[Op.operands]) _ G;simpa only[H] using this
         have ax:(j.bytes:Int)*(Int.ofNat cn)<=281474976710656:=by
          have:((j.bytes*cn:Nat):Int)<=1048576:=by omega
          rw[Int.natCast_mul] at this;show(j.bytes:Int)*(cn:Int)<=_;omega
         have hrun:=run_make (P:=P) w t e j zv hu u hzero kl kc (Int.ofNat ln) (Int.ofNat cn) (Int.natCast_nonneg _) (Int.ofNat_le.2 K) ax (by show(cn:Int)<=_;omega)
         have C:madeCells zv.cells ((Int.ofNat cn).toNat*j.size)=((List.replicate cn zv.cells.toList).flatten).toArray:=by
          unfold madeCells;rw[show(Int.ofNat cn).toNat=cn from Z,<-s];exact vw zv.cells cn B
         rw[C] at hrun;have hts:=ki (m S) cn
         refine⟨.slice (some ⟨w.heap.size,0,none⟩) ln cn,.cells ((List.replicate cn zv.cells.toList).flatten).toArray e,(fp z cn).length,?_,Z,qY hts _ _,
          fun S' b a=>by simp only[Mk.of,H];exact⟨_,a,Z⟩⟩
         simp only[execOp,q,aq,ar,sB_,hrun,rA,sP_];rfl
        cases h
     cases h
 | makeMap t r=>
  rw[q] at h;cases r with
  | some r=>
   simp only[gi] at h;split at h
   ·rename_i mk mv k n hu hr;simp only[oJ_,Prod.mk.injEq] at h;obtain⟨rfl,rfl⟩:=h;have aI:f r= .int k n:=by have:=E r (by rw[q];simp[Op.operands]) _ hr;simpa only[H] using this
    refine⟨.map<|some w.heap.size,.map #[] 0,0,?_,Z,⟨#[],Z,Z⟩,fun S' b a=>by simp only[Mk.of,H];exact⟨_,a,Z⟩⟩;simp[execOp,q,Instr.makeMap,aI,run_underlying hu,asInt,asIntOf]
   cases h
  | none=>
   simp only[gi,oJ_,Prod.mk.injEq] at h;obtain⟨rfl,rfl⟩:=h;refine⟨.map<|some w.heap.size,.map #[] 0,0,?_,Z,⟨#[],Z,Z⟩,fun S' b a=>by simp only[Mk.of,H];exact⟨_,a,Z⟩⟩;simp[execOp,q,Instr.makeMap]
 | _=>rw[q] at h;simp[gi] at h
end
section
variable {P:Program} {S:dh} {w:World}
theorem mz (a b:Bool):(bif a then b else(bif b then false else true))=(a == b):=by cases a<;>cases b<;>rfl
theorem HQ (a b:Bool):(bif a then(bif b then false else true) else b)=(a !=b):=by cases a<;>cases b<;>rfl
theorem cond_not (b:Bool):(bif b then false else true)= !b:=by cases b<;>rfl
theorem lM {d:Nat}:∀(fs:List Field) (xs ys:List V) (cs ds:Array Value) (b:Bool),dp S xs cs.toList->dp S ys ds.toList->kU fs=true->jE P fs xs ys=some b->
  (Op.eqFields (d+1) cs ds fs).run P w= .ok b w
 | [],xs,ys,cs,ds,b,_,_,_,h=>by
  simp only[jE,oJ_] at h;subst h;simp[Op.eqFields]
 | f::fs,xs,ys,cs,ds,b,p,q,Q,h=>by
  have e:(bif f.name == "_" then false else kU fs)=true:=Q
  have i:(f.name == "_")=false:=by
   cases R:(f.name == "_") with
   | false=>rfl
   | true=>rw[R] at e;simp at e
  rw[i] at e;have n:f.name≠ "_" :=by simpa using i
  have h':(match P.underlying f.type,nth xs f.offset,nth ys f.offset with
   | some .bool,some (.bool a),some (.bool b)=>bif (bif a then b else(bif b then false else true)) then jE P fs xs ys else some false
   | some (.int _),some (.int j a),some (.int k b)=>bif r9 j k then(bif I a b then jE P fs xs ys else some false) else none
   | some .string,some (.str a),some (.str b)=>bif gL a b then jE P fs xs ys else some false
   | _,_,_=>none)=some b:=h
  have ih:=lM (d:=d) fs xs ys cs ds
  have part {v:V} {cells:List V} {es:Array Value} (g:dp S cells es.toList) (E:nth cells f.offset=some v) (r:A0 (match P.underlying f.type with | some d=>d | none=>.invalid)=false) (hu:P.underlying f.type≠none):
    ∃y,(part f.type es f.offset).run P w= .ok y w/\H S v y:=by
   rw[eF] at E;obtain⟨y,W,X⟩:=g.get E;cases o:P.underlying f.type with
   | none=>exact absurd o hu
   | some dd=>
    rw[o] at r;refine⟨y,?_,X⟩;simp only[Go.part,sB_,ff o,r,rA,Bool.false_eq_true,if_false];have:es[f.offset]?=some y:=by rw[<-aT_];exact W
    rw[this];rfl
  split at h'
  ·rename_i F G K a b' c s t;obtain⟨L,u,l⟩:=part p s (by rw[c];rfl) (by rw[c];simp);obtain⟨M,x,m⟩:=part q t (by rw[c];rfl) (by rw[c];simp);simp only[H] at l m;subst l;subst m;simp only[Op.eqFields,n,ne_eq,not_false_eq_true,if_true,sB_,u,x,rA,run_equalIn_bool w d f.type _ _ c];rw[mz] at h';cases g:(a == b') with
   | true=>rw[g] at h';simpa using ih b p q (by simpa using e) (by simpa using h')
   | false=>rw[g] at h';simp at h';subst h';simp
  ·rename_i F G K kk j a k b' c s t;obtain⟨L,u,l⟩:=part p s (by rw[c];rfl) (by rw[c];simp);obtain⟨M,x,m⟩:=part q t (by rw[c];rfl) (by rw[c];simp);simp only[H] at l m;subst l;subst m;cases z:r9 j k with
   | false=>rw[z] at h';simp at h'
   | true=>
    rw[z] at h';have:=pR z;subst this;simp only[Op.eqFields,n,ne_eq,not_false_eq_true,if_true,sB_,u,x,rA,run_equalIn_int w d f.type _ _ _ _ c];rw[dF] at h';cases g:decide (a=b') with
    | true=>rw[g] at h';have:=of_decide_eq_true g;subst this;simpa using ih b p q (by simpa using e) (by simpa using h')
    | false=>rw[g] at h';have:=of_decide_eq_false g;simp at h';subst h';simp[this]
  ·rename_i F G K a b' c s t;obtain⟨L,u,l⟩:=part p s (by rw[c];rfl) (by rw[c];simp);obtain⟨M,x,m⟩:=part q t (by rw[c];rfl) (by rw[c];simp);simp only[H] at l m;obtain⟨Z,rfl,A⟩:=l;obtain⟨s2,rfl,C⟩:=m;simp only[Op.eqFields,n,ne_eq,not_false_eq_true,if_true,sB_,u,x,rA,run_equalIn_string w d f.type _ _ c];rw[ou A C] at h';cases g:(Z.toList == s2.toList) with
   | true=>rw[g] at h';simpa using ih b p q (by simpa using e) (by simpa using h')
   | false=>rw[g] at h';simp at h';subst h';simp
  cases h'
theorem nL {t:TypeId} {fs:Array Field} (h:structOf P t=some fs):P.underlying t=some (.struct fs):=by
 unfold structOf at h;rw[ow] at h;split at h
 ·rename_i g a;cases h;exact a
 cases h
theorem nd {t:TypeId} {fs:Array Field} (h:P.underlying t=some (.struct fs)):P.fieldsOf t=fs:=by simp[Program.fieldsOf,h]
theorem wN {e:TypeId} (h:sd P e=true):∃k i,P.underlying e=some (.int k)/\P.info? e=some i/\i.size=1:=by
 unfold sd at h;split at h
 ·rename_i k i a b;exact⟨k,i,a,b,nB h⟩
 cases h
theorem oj {d:Nat} {e:TypeId} {k':IntKind} (he:P.underlying e=some (.int k')):∀(l1 l2:List V) (s:Nat) (f g:Array Value) (b:Bool),
  (∀(i:Nat) (v:V),l1[i]?=some v->∃y,f[s+i]?=some y/\H S v y)->(∀(i:Nat) (v:V),l2[i]?=some v->∃y,g[s+i]?=some y/\H S v y)->wj l1 l2=some b->
  (Op.eqItems (d+1) e 1 f g<|List.range' s l1.length).run P w= .ok b w
 | [],l2,s,f,g,b,_,_,h=>by
  cases l2 with
  | nil=>cases h;simp[Op.eqItems]
  | cons y r=>cases h
 | x::l1,l2,s,f,g,b,o,q,h=>by
  cases l2 with
  | nil=>cases x<;>cases h
  | cons y r=>
   cases x<;>try (cases h;done)
   rename_i j a;cases y<;>try (cases h;done)
   rename_i k c;have h':(bif r9 j k then(bif I a c then wj l1 r else some false) else none)=some b:=h;cases n:r9 j k with
   | false=>rw[n] at h';cases h'
   | true=>
   rw[n] at h';have:=pR n;subst this;obtain⟨y1,q1,t⟩:=o 0 _ Z;obtain⟨y2,q2,u⟩:=q 0 _ Z;simp only[H] at t u;subst t;subst u;simp only[Nat.add_zero] at q1 q2
   have p:∀(cs:Array Value) (v:Value),cs[s]?=some v->(part e cs (s*1)).run P w= .ok v w:=fun cs v l=>by
    rw[Nat.mul_one];simp only[part,sB_,ff he,A0,rA,Bool.false_eq_true,if_false,l,sP_]
   simp only[List.length_cons,List.range'_succ,Op.eqItems,sB_,p f _ q1,p g _ q2,rA,run_equalIn_int w d e _ _ _ _ he];rw[dF] at h';have ih:=oj (d:=d) he l1 r (s+1) f g;cases m:decide (a=c) with
   | true=>
    rw[m] at h';have:=of_decide_eq_true m;subst this
    simpa using ih b (fun i v l=>by have:=o (i+1) v (by simpa using l);rwa[show s+(i+1)=s+1+i by omega] at this)
     (fun i v l=>by have:=q (i+1) v (by simpa using l);rwa[show s+(i+1)=s+1+i by omega] at this) (by simpa using h')
   | false=>
    rw[m] at h';have:=of_decide_eq_false m;simp at h';subst h';simp[this]
theorem ik {t:TypeId} {cs:List V} {ys:Array Value} {off n:Nat} (b:dU P t=some (some n)) (e:dp S cs ys.toList):∃c,(part t ys off).run P w= .ok (.agg c) w/\dp S (takeN (dS cs off) n) c.toList:=by
 obtain⟨d,i,hu,f,a,g⟩:=rS b;refine⟨ys.extract off (off+n),?_,?_⟩
 ·simp only[part,sB_,ff hu,g,rA,if_true,cw f,a,sP_]
 rw[du,dO,Array.toList_extract];have:=(e.drop off).take n;show dp S _ ((ys.toList.drop off).take (off+n-off));rw[show off+n-off=n by omega];exact this
theorem mT {d:Nat}:∀(fs:List Field) (xs ys:List V) (cs ds:Array Value) (b:Bool),dp S xs cs.toList->dp S ys ds.toList->kU fs=true->eqFields P fs xs ys=some b->
  (Op.eqFields (d+1+1) cs ds fs).run P w= .ok b w
 | [],xs,ys,cs,ds,b,_,_,_,h=>by
  simp only[eqFields,oJ_] at h;subst h;simp[Op.eqFields]
 | f::fs,xs,ys,cs,ds,b,x,z,hn,h=>by
  have l:(bif f.name == "_" then false else kU fs)=true:=hn
  have t:(f.name == "_")=false:=by
   cases hh:(f.name == "_") with
   | false=>rfl
   | true=>rw[hh] at l;simp at l
  rw[t] at l;have u:f.name≠ "_" :=by simpa using t
  have h':(match P.underlying f.type,nth xs f.offset,nth ys f.offset with
   | some .bool,some (.bool a),some (.bool b)=>bif (bif a then b else(bif b then false else true)) then eqFields P fs xs ys else some false
   | some (.int _),some (.int j a),some (.int k b)=>bif r9 j k then(bif I a b then eqFields P fs xs ys else some false) else none
   | some .string,some (.str a),some (.str b)=>bif gL a b then eqFields P fs xs ys else some false
   | some (.struct gs),_,_=>bif P.stoodInHeld f.type || !kU gs.toList then none else match dU P f.type with
    | some (some n)=>match jE P gs.toList (takeN (dS xs f.offset) n) (takeN (dS ys f.offset) n) with
     | some true=>eqFields P fs xs ys
     | some false=>some false
     | none=>none
    | _=>none
   | some (.array m e),_,_=>bif sd P e then(match dU P f.type with
    | some (some n)=>bif Nat.beq n m && (Nat.beq (cX<|takeN (dS xs f.offset) n) m && Nat.beq (cX<|takeN (dS ys f.offset) n) m) then(match wj (takeN (dS xs f.offset) n) (takeN (dS ys f.offset) n) with
     | some true=>eqFields P fs xs ys
     | some false=>some false
     | none=>none) else none
    | _=>none) else none
   | _,_,_=>none)=some b:=h
  have ih:=mT (d:=d) fs xs ys cs ds
  have part {v:V} {cells:List V} {es:Array Value} (o:dp S cells es.toList) (hg:nth cells f.offset=some v) (c:A0 (match P.underlying f.type with | some d=>d | none=>.invalid)=false) (hu:P.underlying f.type≠none):
    ∃y,(part f.type es f.offset).run P w= .ok y w/\H S v y:=by
   rw[eF] at hg;obtain⟨y,h1,h2⟩:=o.get hg;cases F:P.underlying f.type with
   | none=>exact absurd F hu
   | some dd=>
    rw[F] at c;refine⟨y,?_,h2⟩;simp only[Go.part,sB_,ff F,c,rA,Bool.false_eq_true,if_false];have:es[f.offset]?=some y:=by rw[<-aT_];exact h1
    rw[this];rfl
  split at h'
  ·rename_i W X Z a b' g Q R;obtain⟨y1,A,r⟩:=part x Q (by rw[g];rfl) (by rw[g];simp);obtain⟨y2,C,s⟩:=part z R (by rw[g];rfl) (by rw[g];simp);simp only[H] at r s;subst r;subst s;simp only[Op.eqFields,u,ne_eq,not_false_eq_true,if_true,sB_,A,C,rA,run_equalIn_bool w (d+1) f.type _ _ g];rw[mz] at h';cases o:(a == b') with
   | true=>rw[o] at h';simpa using ih b x z (by simpa using l) (by simpa using h')
   | false=>rw[o] at h';simp at h';subst h';simp
  ·rename_i W X Z kk j a k b' g Q R;obtain⟨y1,A,r⟩:=part x Q (by rw[g];rfl) (by rw[g];simp);obtain⟨y2,C,s⟩:=part z R (by rw[g];rfl) (by rw[g];simp);simp only[H] at r s;subst r;subst s;cases hk:r9 j k with
   | false=>rw[hk] at h';simp at h'
   | true=>
    rw[hk] at h';have:=pR hk;subst this;simp only[Op.eqFields,u,ne_eq,not_false_eq_true,if_true,sB_,A,C,rA,run_equalIn_int w (d+1) f.type _ _ _ _ g];rw[dF] at h';cases o:decide (a=b') with
    | true=>rw[o] at h';have:=of_decide_eq_true o;subst this;simpa using ih b x z (by simpa using l) (by simpa using h')
    | false=>rw[o] at h';have:=of_decide_eq_false o;simp at h';subst h';simp[this]
  ·rename_i W X Z a b' g Q R;obtain⟨y1,A,r⟩:=part x Q (by rw[g];rfl) (by rw[g];simp);obtain⟨y2,C,s⟩:=part z R (by rw[g];rfl) (by rw[g];simp);simp only[H] at r s;obtain⟨s1,rfl,aa⟩:=r;obtain⟨s2,rfl,ab⟩:=s;simp only[Op.eqFields,u,ne_eq,not_false_eq_true,if_true,sB_,A,C,rA,run_equalIn_string w (d+1) f.type _ _ g];rw[ou aa ab] at h';cases o:(s1.toList == s2.toList) with
   | true=>rw[o] at h';simpa using ih b x z (by simpa using l) (by simpa using h')
   | false=>rw[o] at h';simp at h';subst h';simp
  ·rename_i W X Z gs g;cases aq:P.stoodInHeld f.type with
   | true=>rw[aq] at h';simp at h'
   | false=>
   cases G:kU gs.toList with
   | false=>rw[aq,G] at h';simp at h'
   | true=>
   rw[aq,G] at h';simp only[Bool.not_true,Bool.or_false,cond_false] at h';cases c:dU P f.type with
   | none=>rw[c] at h';cases h'
   | some q=>
   cases q with
   | none=>rw[c] at h';cases h'
   | some n=>
   rw[c] at h';dsimp only at h';cases p:jE P gs.toList (takeN (dS xs f.offset) n) (takeN (dS ys f.offset) n) with
   | none=>rw[p] at h';cases h'
   | some bb=>
    rw[p] at h';obtain⟨K,A,r⟩:=ik (P:=P) (w:=w) c x (off:=f.offset);obtain⟨L,C,s⟩:=ik (P:=P) (w:=w) c z (off:=f.offset);have hq:=lM (P:=P) (w:=w) (d:=d) gs.toList _ _ K L bb r s G p
    have hE:(Op.equalIn (d+1+1) f.type (.agg K) (.agg L)).run P w= .ok bb w:=by
     rw[run_equalIn_struct w (d+1) f.type K L (by rw[nd g];exact g) aq,nd g];exact hq
    simp only[Op.eqFields,u,ne_eq,not_false_eq_true,if_true,sB_,A,C,rA,hE];cases bb with
    | true=>simpa using ih b x z (by simpa using l) (by simpa using h')
    | false=>simp at h';subst h';simp
  ·rename_i W X Z m e g;cases M:sd P e with
   | false=>rw[M] at h';cases h'
   | true=>
   rw[M] at h';simp only[cond_true] at h';obtain⟨k,inf,he,E,ac⟩:=wN M;cases c:dU P f.type with
   | none=>rw[c] at h';cases h'
   | some q=>
   cases q with
   | none=>rw[c] at h';cases h'
   | some n=>
   rw[c] at h';dsimp only at h';rw[bA] at h';split at h'
   case isFalse=>cases h'
   rename_i o;simp only[bA_,Nat.beq_eq,bK] at o;obtain⟨am,ag,ao⟩:=o;cases p:wj (takeN (dS xs f.offset) n) (takeN (dS ys f.offset) n) with
   | none=>rw[p] at h';cases h'
   | some bb=>
    rw[p] at h';obtain⟨K,A,r⟩:=ik (P:=P) (w:=w) c x (off:=f.offset);obtain⟨L,C,s⟩:=ik (P:=P) (w:=w) c z (off:=f.offset)
    have hq:=oj (P:=P) (w:=w) (S:=S) (d:=d) he _ _ 0 K L bb (fun i v hv=>by obtain⟨y,a1,a2⟩:=r.get hv;exact⟨y,by rw[nA_,<-aT_];exact a1,a2⟩)
     (fun i v hv=>by obtain⟨y,a1,a2⟩:=s.get hv;exact⟨y,by rw[nA_,<-aT_];exact a1,a2⟩) p
    rw[ag] at hq
    have hE:(Op.equalIn (d+1+1) f.type (.agg K) (.agg L)).run P w= .ok bb w:=by
     rw[run_equalIn_array w (d+1) K L g E,r6 E,ac,List.range_eq_range'];exact hq
    simp only[Op.eqFields,u,ne_eq,not_false_eq_true,if_true,sB_,A,C,rA,hE];cases bb with
    | true=>simpa using ih b x z (by simpa using l) (by simpa using h')
    | false=>simp at h';subst h';simp
  cases h'
theorem cY (op:BinOp) (t:TypeId) (x y:Operand) (a b:Value) (e:¬(a= .nilIface/\b= .nilIface)) (f:¬(∃c d,a= .agg c/\b= .agg d)):(eqGuard op t x y a b).run P w= .ok () w:=by
 unfold eqGuard;cases op<;>simp<;>(split<;>first | rfl | (exact absurd ⟨rfl,rfl⟩ e) | (exact absurd ⟨_,_,rfl,rfl⟩ f) | simp)
end
section
variable {P:Program} {S:dh} {w:World}
theorem H.jI {b:Pos} {off len:Nat} {cap:pH} {x:Value} (h:H S (.slice b off len cap) x):∃a c,x= .slice (some a) len c:=by
  cases cap with
  | upto sz=>
    simp only[H] at h;obtain⟨l,_,⟨c,rfl,_⟩ | ⟨rfl,a,rfl⟩⟩:=h
    · exact⟨_,_,Z⟩
    · exact⟨_,_,Z⟩
  | known c=>simp only[H] at h;obtain⟨l,_,rfl⟩:=h;exact⟨_,_,Z⟩
  | least a sz=>simp only[H] at h;obtain⟨l,_,c,rfl,_⟩:=h;exact⟨_,_,Z⟩
theorem pS {t:TypeId} {x y:V} {b:Bool} {a c:Value} (h:DA P t x y=some b) (f:H S x a) (g:H S y c) (op:BinOp) (xo yo:Operand):
    (eqGuard op t xo yo a c).run P w= .ok () w/\(Op.equal t a c).run P w= .ok b w:=by
  unfold DA at h;have k:∀r:Result Bool,((Op.equalIn (9999+1) t a c).run P w=r)->(Op.equal t a c).run P w=r:=fun r h=>h
  have e:∀r:Result Bool,(∀d,(Op.equalIn (d+1) t a c).run P w=r)->(Op.equal t a c).run P w=r:=fun r h=>h 9999
  split at h
  ·
    rename_i xs ys;simp only[H] at f g;obtain⟨cs,rfl,o⟩:=f;obtain⟨ds,rfl,p⟩:=g;cases q:structOf P t with
    | none=>rw[q] at h;cases h
    | some fs=>
      rw[q] at h;dsimp only at h;have hu:=nL q;cases m:P.eqGuardType P.depth t with
      | true=>rw[m] at h;simp at h
      | false=>
        cases aq:P.stoodInHeld t with
        | true=>rw[m,aq] at h;simp at h
        | false=>
          cases i:kU fs.toList with
          | false=>rw[m,aq,i] at h;simp at h
          | true=>
            rw[m,aq,i] at h;refine⟨run_eqGuard_agg w op t xo yo cs ds m,k _ ?_⟩;rw[run_equalIn_struct w 9999 t cs ds (by rw[nd hu];exact hu) aq,nd hu];exact mT (d:=9997) fs.toList xs ys cs ds b o p i (by simpa using h)
  all_goals (try (cases h;done))
  all_goals (split at h)
  all_goals (try (cases h;done))
  all_goals (try (rename_i hu;cases h))
  all_goals first
    | (obtain⟨a',c',rfl⟩:=H.jI f
       simp only[H] at g;subst g;refine⟨cY op t xo yo _ _ (by simp) (by simp),e _ (fun d=>?_)⟩;simp[Op.equalIn,run_underlying hu]
       done)
    | (obtain⟨a',c',rfl⟩:=H.jI g
       simp only[H] at f;subst f;refine⟨cY op t xo yo _ _ (by simp) (by simp),e _ (fun d=>?_)⟩;simp[Op.equalIn,run_underlying hu]
       done)
    | (simp only[H] at f g
       subst f;subst g;refine⟨cY op t xo yo _ _ (by simp) (by simp),e _ (fun d=>?_)⟩;simp[Op.equalIn,run_underlying hu]
       done)
    | (simp only[H] at f g
       obtain⟨l,_,rfl⟩:=f;subst g;refine⟨cY op t xo yo _ _ (by simp) (by simp),e _ (fun d=>?_)⟩;simp[Op.equalIn,run_underlying hu]
       done)
    | (simp only[H] at f g
       obtain⟨l,_,rfl⟩:=g;subst f;refine⟨cY op t xo yo _ _ (by simp) (by simp),e _ (fun d=>?_)⟩;simp[Op.equalIn,run_underlying hu]
       done)
    | (simp only[H] at f g
       obtain⟨l,rfl,_⟩:=f;subst g;refine⟨cY op t xo yo _ _ (by simp) (by simp),e _ (fun d=>?_)⟩;simp[Op.equalIn,run_underlying hu]
       done)
    | (simp only[H] at f g
       obtain⟨l,rfl,_⟩:=g;subst f;refine⟨cY op t xo yo _ _ (by simp) (by simp),e _ (fun d=>?_)⟩;simp[Op.equalIn,run_underlying hu]
       done)
    | (simp only[H] at f g
       obtain⟨l,l',rfl,_⟩:=f;subst g;refine⟨cY op t xo yo _ _ (by simp) (by simp),e _ (fun d=>?_)⟩;simp[Op.equalIn,run_underlying hu]
       done)
    | (simp only[H] at f g
       obtain⟨l,l',rfl,_⟩:=g;subst f;refine⟨cY op t xo yo _ _ (by simp) (by simp),e _ (fun d=>?_)⟩;simp[Op.equalIn,run_underlying hu]
       done)
    | (rename_i hu
       rw[bA] at h;split at h
       · rename_i s
         cases h;rw[bA_,bA_] at s;obtain⟨hb,ho,u⟩:=s;have hb:=nB hb;have ho:=nB ho;subst hb;subst ho;obtain⟨j,v⟩:=Option.isSome_iff_exists.1 u;simp only[H] at f g;obtain⟨l,z,rfl⟩:=f;obtain⟨l',n,rfl⟩:=g;rw[z] at n;cases n;refine⟨cY op t xo yo _ _ (by simp) (by simp),e _ (fun d=>?_)⟩;simp[Op.equalIn,run_underlying hu,sizeOf,typeInfo,v,run_sameAddr_same]
       · cases h)
theorem nJ {t:TypeId} {a c:Value} {b:Bool} (h:(Op.equal t a c).run P w= .ok b w)
    (d:∀k m k' m',¬(a= .int k m/\c= .int k' m')) (e:∀k m k' m',¬(a= .float k m/\c= .float k' m')) (f:∀k m n k' m' n',¬(a= .complex k m n/\c= .complex k' m' n')) (g:∀s s',¬(a= .string s/\c= .string s')):
    (binOp .eql t a c).run P w= .ok (.bool b) w/\(binOp .neq t a c).run P w= .ok (.bool (!b)) w:=by
  constructor
  · unfold binOp
    split<;>first
      | (exact absurd ⟨rfl,rfl⟩<|d _ _ _ _)
      | (exact absurd ⟨rfl,rfl⟩<|e _ _ _ _)
      | (exact absurd ⟨rfl,rfl⟩<|f _ _ _ _ _ _)
      | (exact absurd ⟨rfl,rfl⟩<|g _ _)
      | (simp only[sB_,h,rA,sP_];done)
      | (rename_i he;cases he)
      | (rename_i he _;cases he)
      | (rename_i he _ _;cases he)
      | (simp_all;done)
  · unfold binOp
    split<;>first
      | (exact absurd ⟨rfl,rfl⟩<|d _ _ _ _)
      | (exact absurd ⟨rfl,rfl⟩<|e _ _ _ _)
      | (exact absurd ⟨rfl,rfl⟩<|f _ _ _ _ _ _)
      | (exact absurd ⟨rfl,rfl⟩<|g _ _)
      | (simp only[sB_,h,rA,sP_];done)
      | (rename_i he;cases he)
      | (rename_i he _;cases he)
      | (rename_i he _ _;cases he)
      | (simp_all;done)
end
section
variable {P:Program} {S:dh} {w:World}
theorem Kn {op:BinOp} {t:TypeId} {k k':IntKind} {a b:Int} {v:V} (h:sC P op t (.int k a) (.int k' b)=some v):
  ∃x,(binOp op t (.int k a) (.int k' b)).run P w= .ok x w/\H S v x:=by
 unfold sC at h;have vint:∀(j:IntKind) (n:Int),H S (.int j n) (.int j n):=fun j n=>by simp only[H]
 have vbool:∀(c:Bool),H S (.bool c) (.bool c):=fun c=>by simp only[H]
 by_cases f:op= .shl
 ·subst f;simp only[bA,eP,zu] at h;split at h
  ·cases h
  rename_i d;cases h;refine⟨.int k<|k.wrap (a*2 ^ min b.toNat k.bits),?_,vint _ _⟩;have g:¬b<0:=by simpa using d
  simp[binOp,Op.shift,g]
 by_cases i:op= .shr
 ·subst i;simp only[bA,eP] at h;split at h
  ·cases h
  rename_i d;cases h;refine⟨.int k<|a.fdiv (2 ^ min b.toNat k.bits),?_,vint _ _⟩;have g:¬b<0:=by simpa using d
  simp[binOp,Op.shift,g]
 cases m:r9 k k' with
 | false=>cases op<;>first | exact absurd rfl f | exact absurd rfl i | (simp[m] at h)
 | true=>
  have:=pR m;subst this;cases op<;>first | exact absurd rfl f | exact absurd rfl i | skip
  all_goals simp only[m,cond_true,bA,dF,eP,zu,if_true] at h
  case add=>cases h;exact⟨.int k<|k.wrap (a+b),by simp[binOp,Op.intArith],vint _ _⟩
  case sub=>cases h;exact⟨.int k<|k.wrap (a-b),by simp[binOp,Op.intArith],vint _ _⟩
  case mul=>cases h;exact⟨.int k<|k.wrap (a*b),by simp[binOp,Op.intArith],vint _ _⟩
  case quo=>
   by_cases d:b=0
   ·simp[d] at h
   simp only[d,decide_false,if_true,if_false,Bool.false_eq_true,eq_self,oJ_] at h;subst h;exact⟨.int k<|k.wrap<|a.tdiv b,by simp[binOp,Op.intDiv,d],vint _ _⟩
  case rem=>
   by_cases d:b=0
   ·simp[d] at h
   simp only[d,decide_false,if_true,if_false,Bool.false_eq_true,eq_self,oJ_] at h;subst h;exact⟨.int k<|a.tmod b,by simp[binOp,Op.intDiv,d],vint _ _⟩
  case and=>cases h;exact⟨_,by simp only[binOp,ne_eq,not_true_eq_false,if_false];rfl,vint _ _⟩
  case or=>cases h;exact⟨_,by simp only[binOp,ne_eq,not_true_eq_false,if_false];rfl,vint _ _⟩
  case xor=>cases h;exact⟨_,by simp only[binOp,ne_eq,not_true_eq_false,if_false];rfl,vint _ _⟩
  case andNot=>cases h;exact⟨_,by simp only[binOp,ne_eq,not_true_eq_false,if_false];rfl,vint _ _⟩
  case eql=>cases h;exact⟨.bool (a == b),by simp[binOp,Op.intCmp],by simp only[H];congr 1⟩
  case neq=>
   cases h;refine⟨.bool (a !=b),by simp[binOp,Op.intCmp],?_⟩;simp only[H]
   by_cases e:a=b<;>simp[e]
  case lss=>cases h;exact⟨.bool<|decide (a<b),by simp[binOp,Op.intCmp],vbool _⟩
  case leq=>
   cases h;refine⟨.bool<|decide (a<=b),by simp[binOp,Op.intCmp],?_⟩;simp only[H]
   by_cases e:b<a
   ·have l:¬a<=b:=by omega
    simp[e,l]
   have l:a<=b:=by omega
   simp[e,l]
  case gtr=>cases h;exact⟨.bool<|decide (b<a),by simp[binOp,Op.intCmp],vbool _⟩
  case geq=>
   cases h;refine⟨.bool<|decide (b<=a),by simp[binOp,Op.intCmp],?_⟩;simp only[H]
   by_cases e:a<b
   ·have l:¬b<=a:=by omega
    simp[e,l]
   have l:b<=a:=by omega
   simp[e,l]
theorem Ko {op:BinOp} {t:TypeId} {a b:List Nat} {x y:ByteArray} {v:V} (g:hY a x) (i:hY b y) (h:sC P op t (.str a) (.str b)=some v):
  ∃z,(binOp op t (.string x) (.string y)).run P w= .ok z w/\H S v z:=by
 unfold sC at h;have lx:=jK g;have ly:=jK i;have e1:=ou g i;have e2:=zf g i;have e3:=zf i g
 have l:∀s u:List UInt8,Op.bytesLess u s= !(Op.bytesLess s u || s == u):=by
  intro s;induction s with
  | nil=>intro u;cases u<;>simp[Op.bytesLess]
  | cons c s ih=>
   intro u;cases u with
   | nil=>simp[Op.bytesLess]
   | cons d u=>
    simp only[Op.bytesLess,ih u]
    by_cases f:c<d
    ·have m:¬d<c:=by rw[UInt8.lt_iff_toNat_lt] at f⊢;omega
     have j:d≠c:=by intro e;subst e;rw[UInt8.lt_iff_toNat_lt] at f;omega
     simp[f,m,j]
    by_cases k:d<c
    ·have j:c≠d:=by intro e;subst e;exact f k
     simp[f,k,j]
    have j:c=d:=by rw[UInt8.lt_iff_toNat_lt] at f k;exact UInt8.toNat_inj.1 B
    subst j;simp[f]
 cases op<;>simp only[bA] at h<;>(try (cases h;done))
 case add=>
  split at h
  ·rename_i n;cases h;rw[nE_,lx,ly] at n
   refine⟨.string (x++y),?_,by
    simp only[H];refine⟨_,Z,?_⟩;unfold hY at g i⊢;rw[dV,<-g,<-i];simp⟩
   have:¬(((x.size+y.size:Nat):Int)>IntKind.i64.max):=by
    have e:IntKind.i64.max=9223372036854775807:=by decide
    rw[e];omega
   simp only[binOp,Op.stringOp];rw[if_neg this];rfl
  cases h
 case eql=>cases h;exact⟨.bool (x.toList == y.toList),Z,by simp only[H];rw[e1]⟩
 case neq=>cases h;exact⟨.bool (!(x.toList == y.toList)),Z,by simp only[H];rw[e1];cases (x.toList == y.toList)<;>rfl⟩
 case lss=>cases h;exact⟨.bool<|Op.bytesLess x.toList y.toList,Z,by simp only[H];rw[e2]⟩
 case leq=>
  cases h;refine⟨.bool (Op.bytesLess x.toList y.toList || x.toList == y.toList),Z,?_⟩;simp only[H];rw[e3,l x.toList y.toList];cases (Op.bytesLess x.toList y.toList || x.toList == y.toList)<;>rfl
 case gtr=>
  cases h;refine⟨.bool (!(Op.bytesLess x.toList y.toList || x.toList == y.toList)),Z,?_⟩;simp only[H];rw[e3,l x.toList y.toList]
 case geq=>
  cases h;refine⟨.bool (!(Op.bytesLess x.toList y.toList)),Z,?_⟩;simp only[H];rw[e2];cases (Op.bytesLess x.toList y.toList)<;>rfl
theorem Ga {op:BinOp} {t:TypeId} {x y v:V} {a c:Value} (d:H S x a) (e:H S y c) (h:sC P op t x y=some v) (xo yo:Operand):
  ∃z,(eqGuard op t xo yo a c).run P w= .ok () w/\(binOp op t a c).run P w= .ok z w/\H S v z:=by
 have other:(∀k n,x≠ .int k n)->(∀s,x≠ .str s)->(∀b,x≠ .bool b)->x≠ .any->(∀a,x≠ .oE a)->(∀a,x≠ .tok a)->
   ∃z,(eqGuard op t xo yo a c).run P w= .ok () w/\(binOp op t a c).run P w= .ok z w/\H S v z:=by
  intro f g o u A C
  have h':nc P op t x y=some v:=by
   rw[<-h];unfold sC;split
   ·exact absurd Z<|f _ _
   ·exact absurd Z<|g _
   ·exact absurd Z<|o _
   rfl
  have j:(∀k m k' m',¬(a= .int k m/\c= .int k' m'))/\(∀k m k' m',¬(a= .float k m/\c= .float k' m'))/\(∀k m n k' m' n',¬(a= .complex k m n/\c= .complex k' m' n'))/\(∀s s',¬(a= .string s/\c= .string s')):=by
   cases x with
   | int k n=>exact absurd Z (f k n)
   | str s=>exact absurd Z (g s)
   | bool b=>exact absurd Z (o b)
   | any=>exact absurd Z u
   | oE a=>exact absurd Z (A a)
   | tok a=>exact absurd Z (C a)
   | slice b off len cap=>obtain⟨_,_,rfl⟩:=H.jI d;simp
   | _=>simp only[H] at d;first | (subst d;simp;done) | (obtain⟨_,_,rfl⟩:=d;simp;done) | (obtain⟨_,rfl,_⟩:=d;simp;done) | (obtain⟨_,_,rfl,_⟩:=d;simp;done)
  obtain⟨n1,p,q,r⟩:=j;cases op<;>(try (cases h';done))
  case eql=>
   dsimp only[nc] at h';cases i:DA P t x y with
   | none=>rw[i] at h';cases h'
   | some b=>
    rw[i] at h';cases h';obtain⟨g1,l⟩:=pS (P:=P) (w:=w) i d e .eql xo yo;exact⟨_,g1,(nJ l n1 p q r).1,by simp only[H]⟩
  case neq=>
   dsimp only[nc] at h';cases i:DA P t x y with
   | none=>rw[i] at h';cases h'
   | some b=>
    rw[i] at h';cases h';obtain⟨g1,l⟩:=pS (P:=P) (w:=w) i d e .neq xo yo;exact⟨_,g1,(nJ l n1 p q r).2,by simp only[H];rw[cond_not]⟩
 cases x with
 | int k n=>
  cases y with
  | int k' n'=>
   simp only[H] at d e;subst d;subst e;obtain⟨z,f,g⟩:=Kn (S:=S) (w:=w) h;exact⟨z,cY op t xo yo _ _ (by simp) (by simp),f,g⟩
  | _=>unfold sC at h;cases op<;>first | (simp[nc,DA] at h;done) | (cases h;done)
 | str s=>
  cases y with
  | str s'=>
   simp only[H] at d e;obtain⟨x,rfl,d⟩:=d;obtain⟨y,rfl,e⟩:=e;obtain⟨z,f,g⟩:=Ko (S:=S) (w:=w) d e h;exact⟨z,cY op t xo yo _ _ (by simp) (by simp),f,g⟩
  | _=>unfold sC at h;cases op<;>first | (simp[nc,DA] at h;done) | (cases h;done)
 | bool b=>
  cases y with
  | bool b'=>
   simp only[H] at d e;subst d;subst e;unfold sC at h;refine(fun(E:∃z,(binOp op t (.bool b) (.bool b')).run P w= .ok z w/\H S v z)=>let ⟨z,f,g⟩:=E;⟨z,cY op t xo yo _ _ (by simp) (by simp),f,g⟩) ?_;dsimp only at h;split at h
   ·rename_i hu;cases h;exact⟨_,run_eql_bool w t b b' hu,by simp only[H];rw[mz]⟩
   ·rename_i hu;cases h;refine⟨_,run_neq_bool w t b b' hu,?_⟩;simp only[H];rw[HQ];cases b<;>cases b'<;>rfl
   cases h
  | _=>unfold sC at h;cases op<;>first | (simp[nc,DA] at h;done) | (cases h;done)
 | any=>unfold sC at h;cases op<;>first | (simp[nc,DA] at h;done) | (cases h;done)
 | oE a=>unfold sC at h;cases op<;>first | (simp[nc,DA] at h;done) | (cases h;done)
 | tok a=>unfold sC at h;cases op<;>first | (simp[nc,DA] at h;done) | (cases h;done)
 | _=>exact other (by simp) (by simp) (by simp) (by simp) (by simp) (by simp)
theorem Dg {op:BinOp} {t:TypeId} {x y v:V} {a c:Value} (b:H S x a) (d:H S y c) (h:HK P op t x y=some v) (xo yo:Operand):
  ∃z,(eqGuard op t xo yo a c).run P w= .ok () w/\(binOp op t a c).run P w= .ok z w/\H S v z:=by
 unfold HK at h;split at h
 ·split at h
  ·rename_i u1 u2 n;simp only[bA] at h;split at h
   ·rename_i m hle;cases h;rw[nE_] at hle;simp only[H] at b d;obtain⟨k,rfl,hk⟩:=d;subst b;have e:¬((k:Int)<Int.ofNat n):=by simp only[Int.ofNat_eq_natCast];omega
    exact⟨.bool<|decide ((k:Int)<Int.ofNat n),cY .gtr t xo yo _ _ (by simp) (by simp),by simp[binOp,Op.intCmp],by simp only[H,e,decide_false]⟩
   cases h
  cases h
 exact Ga b d h xo yo
theorem Dh {op:BinOp} {t:TypeId} {x y v:V} {a c:Value} (b:H S x a) (e:H S y c) (xo yo:Operand) (h:vh P (yT xo || yT yo) op t x y=some v):
  ∃z,(eqGuard op t xo yo a c).run P w= .ok () w/\(binOp op t a c).run P w= .ok z w/\H S v z:=by
 by_cases f:x= .nilIface/\y= .nilIface
 ·obtain⟨rfl,rfl⟩:=f;simp only[H] at b e;subst b;subst e;have h:IZ P op t (yT xo || yT yo)=some v:=h;unfold IZ at h;rw[bA] at h;split at h
  ·rename_i i
   have g:(eqGuard op t xo yo .nilIface .nilIface).run P w= .ok () w:=by
    unfold eqGuard;cases xo<;>cases yo<;>first | exact absurd i Bool.false_ne_true | (cases op<;>simp)
   split at h
   ·rename_i ms hu
    have heq:(Op.equal t .nilIface .nilIface).run P w= .ok true w:=by
     have:∀d,(Op.equalIn (d+1) t .nilIface .nilIface).run P w= .ok true w:=fun d=>by simp[Op.equalIn,run_underlying hu]
     exact this 9999
    have hb:=nJ heq (fun k m k' m' h=>by cases h.1) (fun k m k' m' h=>by cases h.1) (fun k m n k' m' n' h=>by cases h.1) (fun s s' h=>by cases h.1);split at h
    ·cases h;exact⟨_,g,hb.1,by simp only[H]⟩
    ·cases h;exact⟨_,g,hb.2,by simp only[H];rfl⟩
    cases h
   cases h
  cases h
 have h':HK P op t x y=some v:=by
  cases x<;>first | exact h | (cases y<;>first | exact h | exact absurd ⟨rfl,rfl⟩ f)
 exact Dg b e h' xo yo
end
section
variable {P:Program} {S:dh} {w:World}
theorem jC {ev:Operand->Option V} {f:Operand->Value} {x:Operand} {y i:Nat} (h:eI ev x y=some i) (b:∀v,ev x=some v->H S v (f x)) (code:BoundsCode):
  (Instr.sliceBound (f x) y code).run P w= .ok i w/\i<=y:=by
 unfold eI at h;split at h
 ·rename_i k j c;simp only[bA] at h;split at h
  ·rename_i a;cases h;rw[nE_] at a;have hf:=b _ c;simp only[H] at hf;rw[hf];refine⟨?_,a⟩;have d:(0:Int)<=Int.ofNat i/\Int.ofNat i<=(y:Int):=⟨Int.natCast_nonneg _,Int.ofNat_le.2 a⟩;simp only[Instr.sliceBound,asIntOf,sB_,sP_,rA];rw[if_pos d];rfl
  cases h
 cases h
theorem iW {ev:Operand->Option V} {f:Operand->Value} {len cap l h:Nat} {lo hi:Option Operand} (a:da ev len cap lo hi=some (l,h))
  (c:∀x,lo=some x->∀v,ev x=some v->H S v (f x)) (e:∀x,hi=some x->∀v,ev x=some v->H S v (f x)) (isSlice:Bool):
  (Instr.sliceBounds isSlice len cap (lo.map f) (hi.map f) none).run P w= .ok (l,h,cap) w/\l<=h/\(len<=cap->h<=cap):=by
 unfold da at a;cases hi with
 | none=>
  dsimp only at a;cases lo with
  | none=>
   dsimp only at a;cases a;refine⟨?_,Nat.zero_le _,id⟩;simp[Instr.sliceBounds]
  | some x=>
   dsimp only at a;cases b:eI ev x len with
   | none=>rw[b] at a;cases a
   | some l'=>
    rw[b] at a;cases a;obtain⟨r,hle⟩:=jC (P:=P) (w:=w) b (c x Z) .sliceB;refine⟨?_,hle,id⟩;simp[Instr.sliceBounds,r]
 | some y=>
  dsimp only at a;cases g:eI ev y cap with
  | none=>rw[g] at a;cases a
  | some h'=>
   rw[g] at a;dsimp only at a;obtain⟨r,hle⟩:=jC (P:=P) (w:=w) g (e y Z) (if isSlice then .sliceAcap else .sliceAlen);cases lo with
   | none=>
    dsimp only at a;cases a;refine⟨?_,Nat.zero_le _,fun _=>hle⟩;simp[Instr.sliceBounds,r]
   | some x=>
    dsimp only at a;cases b:eI ev x h' with
    | none=>rw[b] at a;cases a
    | some l'=>
     rw[b] at a;cases a;obtain⟨i,d⟩:=jC (P:=P) (w:=w) b (c x Z) .sliceB;refine⟨?_,d,fun _=>hle⟩;simp[Instr.sliceBounds,r,i]
theorem nv {ev:Operand->Option V} {f:Operand->Value} {len cap l h m:Nat} {lo:Option Operand} {hi mx:Operand} (hm:eI ev mx cap=some m) (a:da ev m m lo (some hi)=some (l,h))
  (d:∀x,lo=some x->∀v,ev x=some v->H S v (f x)) (e:∀v,ev hi=some v->H S v (f hi)) (g:∀v,ev mx=some v->H S v (f mx)) (isSlice:Bool):
  (Instr.sliceBounds isSlice len cap (lo.map f) (some<|f hi)<|some<|f mx).run P w= .ok (l,h,m) w/\l<=h/\h<=m/\m<=cap:=by
 obtain⟨k,b⟩:=jC (P:=P) (w:=w) hm g (if isSlice then .slice3Acap else .slice3Alen);unfold da at a;dsimp only at a;cases i:eI ev hi m with
 | none=>rw[i] at a;cases a
 | some h'=>
  rw[i] at a;dsimp only at a;obtain⟨r,hle⟩:=jC (P:=P) (w:=w) i e .slice3B;cases lo with
  | none=>
   dsimp only at a;cases a;refine⟨?_,Nat.zero_le _,hle,b⟩;simp[Instr.sliceBounds,r,k]
  | some x=>
   dsimp only at a;cases j:eI ev x h' with
   | none=>rw[j] at a;cases a
   | some l'=>
    rw[j] at a;cases a;obtain⟨n,c⟩:=jC (P:=P) (w:=w) j (d x Z) .slice3C;refine⟨?_,c,hle,b⟩;simp[Instr.sliceBounds,r,n,k]
theorem yI {e:TypeId} {b:Pos} {off lo hi m:Nat} {v:V} {l:Loc} (d:S b=some l) (h:cut P e b off lo hi m=some v):
  ∃j,P.info? e=some j/\H S v (.slice (some (if m=lo then(⟨l.dE,l.sh+off,none⟩:Addr) else(⟨l.dE,l.sh+off,none⟩:Addr).add (lo*j.size))) (hi-lo) (m-lo)):=by
 unfold cut at h;cases a:P.info? e with
 | none=>rw[a] at h;cases h
 | some j=>
  rw[a] at h;cases h;refine⟨j,Z,?_⟩;simp only[H];refine⟨l,d,?_⟩;rw[Addr.add_eq _ _ Z]
  by_cases hm:m=lo
  ·have:Nat.beq m lo=true:=by rw[Nat.beq_eq];exact hm
   rw[if_pos hm,this];rfl
  have:Nat.beq m lo=false:=by
   cases c:Nat.beq m lo with
   | false=>rfl
   | true=>rw[Nat.beq_eq] at c;exact absurd c hm
  rw[if_neg hm,this];simp only[cond_false,Nat.add_assoc]
section
variable {ev:Operand->Option V} {f:Operand->Value} {t:TypeId} {lo hi mx:Option Operand} {v:V}
theorem nb {e:TypeId} {b:Pos} {off len cap:Nat} {l:Loc} (n:S b=some l) (h:cutAt P ev e b off len cap lo hi mx=some v) (isSlice:Bool)
  (c:∀x,lo=some x->∀v,ev x=some v->H S v (f x)) (d:∀x,hi=some x->∀v,ev x=some v->H S v (f x)) (g:∀x,mx=some x->∀v,ev x=some v->H S v (f x)):
  ∃j l' h' m,(Instr.sliceBounds isSlice len cap (lo.map f) (hi.map f)<|mx.map f).run P w= .ok (l',h',m) w/\P.info? e=some j/\
   H S v (.slice (some (if m=l' then(⟨l.dE,l.sh+off,none⟩:Addr) else(⟨l.dE,l.sh+off,none⟩:Addr).add (l'*j.size))) (h'-l') (m-l')):=by
 unfold cutAt at h;cases mx with
 | none=>
  dsimp only at h;cases a:da ev len cap lo hi with
  | none=>rw[a] at h;cases h
  | some p=>
   obtain⟨l',h'⟩:=p;rw[a] at h;obtain⟨r,_,_⟩:=iW (P:=P) (w:=w) a c d isSlice;obtain⟨j,i,k⟩:=yI n h;exact⟨j,l',h',cap,r,i,k⟩
 | some x=>
  dsimp only at h;cases hm:eI ev x cap with
  | none=>rw[hm] at h;cases hi<;>cases h
  | some m=>
   cases hi with
   | none=>rw[hm] at h;cases h
   | some y=>
    rw[hm] at h;dsimp only at h;cases a:da ev m m lo (some y) with
    | none=>rw[a] at h;cases h
    | some p=>
     obtain⟨l',h'⟩:=p;rw[a] at h;obtain⟨r,_⟩:=nv (P:=P) (w:=w) (len:=len) hm a c (d y Z) (g x Z) isSlice;obtain⟨j,i,k⟩:=yI n h;exact⟨j,l',h',m,r,i,k⟩
theorem kf {e:TypeId} {j:TypeInfo} {a:Addr} {len cap l h m:Nat} (hu:P.underlying t=some (.slice e)) (b:P.info? e=some j) {lo hi mx:Option Value}
  (c:(Instr.sliceBounds true len cap lo hi mx).run P w= .ok (l,h,m) w):
  (Instr.sliceAt t (.slice (some a) len cap) lo hi mx).run P w= .ok (.slice (some (if m=l then a else a.add (l*j.size))) (h-l) (m-l)) w:=by
 simp only[Instr.sliceAt,Instr.slice,sB_,run_underlying hu,rA,c,cw b,sP_];split<;>rfl
theorem zF {len a c l' h':Nat} (aa:a<=c) (d:da ev len a lo hi=some (l',h')):da ev len c lo hi=some (l',h'):=by
 have up:∀y i,eI ev y a=some i->eI ev y c=some i:=by
  intro y i b;unfold eI at b⊢;split at b
  ·rename_i k i' ab;simp only[bA] at b⊢;split at b
   ·rename_i hle;cases b;rw[nE_] at hle;rw[if_pos (by rw[nE_];omega)]
   cases b
  cases b
 unfold da at d⊢;cases hi with
 | none=>exact d
 | some y=>
  dsimp only at d⊢;cases b:eI ev y a with
  | none=>rw[b] at d;cases d
  | some i=>rw[b] at d;rw[up y i b];exact d
theorem Cu {x:Operand} (h:fo P ev t x lo hi mx=some v)
  (M:∀v,ev x=some v->H S v (f x)) (q:∀x,lo=some x->∀v,ev x=some v->H S v (f x)) (u:∀x,hi=some x->∀v,ev x=some v->H S v (f x)) (F:∀x,mx=some x->∀v,ev x=some v->H S v (f x)):
  ∃z,(Instr.sliceAt t (f x) (lo.map f) (hi.map f)<|mx.map f).run P w= .ok z w/\H S v z:=by
 unfold fo at h;split at h
 ·rename_i e b off len cap hu g;have hv:=M _ g;simp only[H] at hv;obtain⟨l,G,A⟩:=hv;obtain⟨j,l',h',m,r,C,Q⟩:=nb (w:=w) G h true q u F;rw[A];exact⟨_,kf hu C r,Q⟩
 ·rename_i e b off len sz hu g;have hv:=M _ g;cases mx with
  | none=>
   dsimp only at h;cases d:da ev len len lo hi with
   | none=>rw[d] at h;cases h
   | some p=>
    obtain⟨l',h'⟩:=p;cases C:P.info? e with
    | none=>rw[d,C] at h;cases h
    | some j=>
     rw[d,C] at h;simp only[bA] at h;split at h
     ·rename_i L;rw[Nat.beq_eq] at L;cases h;obtain⟨r,hle,hle2⟩:=iW (P:=P) (w:=w) d q u true;have hle2:=hle2 (nR_ _)
      have wider:∀c,len<=c->(Instr.sliceBounds true len c (lo.map f) (hi.map f) none).run P w= .ok (l',h',c) w:=by
       intro c W
       have X:da ev len c lo hi=some (l',h'):=by
        have up:∀y i,eI ev y len=some i->eI ev y c=some i:=by
         intro y i K;unfold eI at K⊢;split at K
         ·rename_i k i' ao;simp only[bA] at K⊢;split at K
          ·rename_i hle;cases K;rw[nE_] at hle;rw[if_pos (by rw[nE_];omega)]
          cases K
         cases K
        unfold da at d⊢;cases hi with
        | none=>exact d
        | some y=>
         dsimp only at d⊢;cases K:eI ev y len with
         | none=>rw[K] at d;cases d
         | some i=>rw[K] at d;rw[up y i K];exact d
       exact(iW (P:=P) (w:=w) X q u true).1
      simp only[H] at hv;obtain⟨l,G,⟨c,A,W,o⟩ | ⟨E,a,A⟩⟩:=hv
      ·rw[A];refine⟨_,kf hu C<|wider c W,?_⟩;simp only[H];refine⟨l,G,?_⟩
       by_cases aa:c=l'
       ·right;refine⟨by omega,(if c=l' then(⟨l.dE,l.sh+off,none⟩:Addr) else(⟨l.dE,l.sh+off,none⟩:Addr).add (l'*j.size)),?_⟩;have e1:h'-l'=0:=by omega
        have e2:c-l'=0:=by omega
        rw[e1,e2]
       left;refine⟨c-l',?_,by omega,?_⟩
       ·rw[if_neg aa,Addr.add_eq _ _ Z,L,Nat.add_assoc]
       rw[<-o];have:c=l'+(c-l'):=by omega
       conv=>rhs;rw[this,Nat.add_mul]
       omega
      rw[A];subst E;refine⟨_,kf hu C<|wider 0<|nR_ _,?_⟩;simp only[H];refine⟨l,G,.inr ⟨by omega,(if 0=l' then a else a.add (l'*j.size)),?_⟩⟩;have e1:h'-l'=0:=by omega
      have e2:0-l'=0:=by omega
      rw[e1,e2]
     cases h
  | some m=>
   simp only[bA] at h;split at h
   ·cases h
   rename_i ab;simp only[H] at hv;obtain⟨l,G,⟨c,A,W,o⟩ | ⟨E,a,A⟩⟩:=hv
   ·
    obtain⟨j,l',h',m',r,C,Q⟩:=nb (w:=w) G h true q u F
    have r':(Instr.sliceBounds true len c (lo.map f) (hi.map f)<|some<|f m).run P w= .ok (l',h',m') w:=by
     unfold cutAt at h;dsimp only at h;cases hm:eI ev m len with
     | none=>rw[hm] at h;cases hi<;>cases h
     | some m0=>
      cases hi with
      | none=>rw[hm] at h;cases h
      | some y=>
       rw[hm] at h;dsimp only at h;cases d:da ev m0 m0 lo (some y) with
       | none=>rw[d] at h;cases h
       | some p=>
        obtain⟨l0,h0⟩:=p
        have ac:eI ev m c=some m0:=by
         unfold eI at hm⊢;split at hm
         ·simp only[bA] at hm⊢;split at hm
          ·rename_i hle;cases hm;rw[nE_] at hle;rw[if_pos (by rw[nE_];omega)]
          cases hm
         cases hm
        obtain⟨r1,_⟩:=nv (P:=P) (w:=w) (len:=len) hm d q (u y Z) (F m Z) true;obtain⟨r2,_⟩:=nv (P:=P) (w:=w) (len:=len) ac d q (u y Z) (F m Z) true;rw[show(Option.map f<|some m)=some (f m) from Z] at r;rw[show(Option.map f<|some y)=some (f y) from Z] at r⊢;rw[r1] at r;cases r;exact r2
    rw[A];exact⟨_,kf hu C r',Q⟩
   subst E;exact absurd Z ab
 ·rename_i e b off len a sz hu g;have hv:=M _ g;simp only[H] at hv;obtain⟨l,G,c,A,ag,o⟩:=hv;cases mx with
  | some _=>cases h
  | none=>
   dsimp only at h;cases d:da ev len a lo hi with
   | none=>rw[d] at h;cases h
   | some p=>
    obtain⟨l',h'⟩:=p;cases C:P.info? e with
    | none=>rw[d,C] at h;cases h
    | some j=>
     rw[d,C] at h;simp only[bA] at h;split at h
     ·rename_i W;cases h;simp only[bA_,Nat.beq_eq,nE_] at W;obtain⟨L,ap,aq⟩:=W;obtain⟨r,hle,hle2⟩:=iW (P:=P) (w:=w) (zF ag d) q u true;rw[A];refine⟨_,kf hu C r,?_⟩;simp only[H];refine⟨l,G,c-l',?_,by omega,?_⟩
      ·rw[if_neg B,Addr.add_eq _ _ Z,L,Nat.add_assoc]
      rw[<-o];have:c=l'+(c-l'):=by omega
      conv=>rhs;rw[this,Nat.add_mul]
      omega
     cases h
 ·rename_i e hu g;have hv:=M _ g;simp only[H] at hv;cases mx with
  | some _=>cases h
  | none=>
   dsimp only at h;cases d:da ev 0 0 lo hi with
   | none=>rw[d] at h;cases h
   | some p=>
    obtain⟨l',h'⟩:=p;cases R:P.info? e with
    | none=>rw[d,R] at h;cases h
    | some je=>
    rw[d,R] at h;cases h;obtain⟨r,hle,hle2⟩:=iW (P:=P) (w:=w) d q u true;have hle2:=hle2 (nR_ _);have:l'=0:=by omega
    have:h'=0:=by omega
    subst_vars
    rw[hv];refine⟨.slice none 0 0,?_,by simp only[H]⟩;simp[Instr.sliceAt,Instr.slice,run_underlying hu,r,cw R]
 ·rename_i n e b off hu g;have hv:=M _ g;simp only[H] at hv;obtain⟨l,G,A⟩:=hv;obtain⟨j,l',h',m,r,C,Q⟩:=nb (w:=w) G h false q u F;rw[A];refine⟨_,?_,Q⟩;simp only[Instr.sliceAt,sB_,run_underlying hu,rA,Instr.sureAddr,sP_,r,cw C]
 ·rename_i arr b off hu g;have hv:=M _ g;simp only[H] at hv;obtain⟨l,G,A⟩:=hv;split at h
  ·rename_i n e am;obtain⟨j,l',h',m,r,C,Q⟩:=nb (w:=w) G h false q u F;rw[A];refine⟨_,?_,Q⟩;simp only[Instr.sliceAt,Instr.slice,sB_,run_underlying hu,run_underlying am,asAddr,rA,sP_,r,cw C]
  cases h
 ·rename_i s hu g;have hv:=M _ g;simp only[H] at hv;obtain⟨bs,A,hs⟩:=hv;cases mx with
  | some _=>cases h
  | none=>
   dsimp only at h;cases d:da ev (cX s) (cX s) lo hi with
   | none=>rw[d] at h;cases h
   | some p=>
    obtain⟨l',h'⟩:=p;rw[d] at h;cases h;rw[jK hs] at d;obtain⟨r,hle,hle2⟩:=iW (P:=P) (w:=w) d q u false;rw[A];refine⟨.string<|bs.extract l' h',?_,?_⟩
    ·simp[Instr.sliceAt,Instr.slice,run_underlying hu,r]
    simp only[H];refine⟨_,Z,?_⟩;unfold hY at hs⊢;rw[du,dO,<-hs];rw[show(bs.extract l' h').data.toList=(bs.data.toList.drop l').take (h'-l') from Lib.extract_data bs l' h'];rw[List.map_take,List.map_drop]
 cases h
end
end
section
variable {P:Program} {S:dh} {w:World}
theorem xd {t:TypeId} {cs:List V} {ys:Array Value} {off:Nat} {v:V} (h:FD P t cs off=some v) (e:dp S cs ys.toList):∃y,(part t ys off).run P w= .ok y w/\H S v y:=by
 unfold FD at h;split at h
 ·rename_i n a;cases h;obtain⟨d,i,hu,f,b,c⟩:=rS a;refine⟨.agg<|ys.extract off (off+n),?_,?_⟩
  ·simp only[part,sB_,ff hu,c,rA,if_true,cw f,b,sP_]
  simp only[H];refine⟨_,Z,?_⟩;rw[du,dO,Array.toList_extract];have:=(e.drop off).take n;show dp S _ ((ys.toList.drop off).take (off+n-off));rw[show off+n-off=n by omega];exact this
 ·rename_i a;obtain⟨d,i,hu,f,c⟩:=vH a;rw[eF] at h;obtain⟨y,g,j⟩:=e.get h;refine⟨y,?_,j⟩;have:ys[off]?=some y:=by rw[<-aT_];exact g
  simp only[part,sB_,ff hu,c,rA,Bool.false_eq_true,if_false,this,sP_]
 cases h
theorem il {ev:Operand->Option V} {f:Operand->Value}:∀{l:List Operand} {vs:List V},cW ev l=some vs->(∀x∈l,∀v,ev x=some v->H S v (f x))->dp S vs (l.map f)
 | [],vs,h,_=>by rw[iK] at h;cases h;exact dp.nil
 | x::l,vs,h,a=>by
  obtain⟨y,r,b,c,rfl⟩:=gX h;exact dp.cons (a x (by simp) y b)<|il c fun z d=>a z (by simp[d])
theorem GS {t ty:TypeId} {x:V} {y:Value} {n:Nat} {ts:Array TypeId} (h:wR P t x=some n) (d:H S x y) (f:ts[0]?=some t):(Builtin.len_ ts ty #[y]).run P w= .ok (.int .i64<|Int.ofNat n) w:=by
 unfold wR at h;split at h
 ·rename_i s hu;cases h;simp only[H] at d;obtain⟨bs,rfl,g⟩:=d;rw[jK g];simp[Builtin.len_,f,run_underlying hu,goInt]
 ·rename_i m e hu;cases h;simp[Builtin.len_,f,run_underlying hu,goInt]
 ·rename_i e b off m cap hu;cases h;obtain⟨a,c,rfl⟩:=H.jI d;simp[Builtin.len_,f,run_underlying hu,goInt]
 ·rename_i e hu;cases h;simp only[H] at d;subst d;simp[Builtin.len_,f,run_underlying hu,goInt]
 ·rename_i k e hu;cases h;simp only[H] at d;subst d;simp[Builtin.len_,f,run_underlying hu,goInt]
 cases h
theorem wY {x:V} {y:Value} (c:H S x y) (h:x≠ .nilPtr/\x≠ .nilIface/\x≠ .nilFunc/\(∀l,x≠ .yield l)/\x≠ .any/\(∀n,x≠ .tok n)) (f:Operand->Value) (o:Oper) (z:Operand) (d:o.op= .nilCheck z) (e:f z=y):
  (execOp f o).run P w= .ok (.value y) w:=by
 have key:(y≠ .pointer none)/\y≠ .nilIface/\y≠ .nilFunc/\∀n a b,y≠ .func (.method n) a b:=by
  obtain⟨g,i,j,k,m,p⟩:=h;cases x with
  | tok n=>exact absurd Z (p n)
  | any=>exact absurd Z m
  | nilPtr=>exact absurd Z g
  | nilIface=>exact absurd Z i
  | nilFunc=>exact absurd Z j
  | yield l=>exact absurd Z (k l)
  | slice b off len cap=>obtain⟨_,_,rfl⟩:=H.jI c;simp
  | _=>simp only[H] at c;first | (subst c;simp;done) | (obtain⟨_,_,rfl⟩:=c;simp;done) | (obtain⟨_,rfl,_⟩:=c;simp;done) | (obtain⟨_,_,rfl,_⟩:=c;simp;done)
 obtain⟨q,k2,r,s⟩:=key;simp only[execOp,d,e,q,k2,r,s];rfl
theorem xk {ev:Operand->Option V} {f:Operand->Value} {o:Oper} {v:V} (r:ER S ev f o.op) (h:di P ev o.op=some v):
  ∃x,(execOp f o).run P w= .ok (.value x) w/\H S v x:=by
 cases A:o.op with
 | move x=>
  rw[A] at h r;exact⟨f x,by simp[execOp,A],r x (by simp[Op.operands]) v h⟩
 | assign x=>
  rw[A] at h r;exact⟨f x,by simp[execOp,A],r x (by simp[Op.operands]) v h⟩
 | pick c a b=>
  rw[A] at h r;simp only[di] at h;split at h
  ·rename_i M;have:=r c (by simp[Op.operands]) _ M;simp only[H] at this;exact⟨f a,by simp[execOp,A,this,asBool],r a (by simp[Op.operands]) v h⟩
  ·rename_i M;have:=r c (by simp[Op.operands]) _ M;simp only[H] at this;exact⟨f b,by simp[execOp,A,this,asBool],r b (by simp[Op.operands]) v h⟩
  cases h
 | build t parts=>
  rw[A] at h r;obtain⟨x,W,X⟩:=Bj (S:=S) (w:=w) (f:=f) (fun p hp u hu=>r p.2 (by simp only[Op.operands,List.mem_toArray,List.mem_map];exact⟨p,hp,Z⟩) u hu) h;exact⟨x,by simp only[execOp,A,sB_,W,rA,sP_],X⟩
 | nilCheck x=>
  rw[A] at h r;simp only[di] at h;split at h
  ·cases h
  ·cases h
  ·cases h
  ·cases h
  ·cases h
  ·cases h
  rename_i n1 n2 n3 n4 n5 n6;have hv:=r x (by simp[Op.operands]) v h;exact⟨f x,wY hv ⟨fun e=>n1 (by rw[h,e]),fun e=>n2 (by rw[h,e]),fun e=>n3 (by rw[h,e]),(fun l e=>n4 l (by rw[h,e])),(fun e=>n5 (by rw[h,e])),fun k e=>n6 k (by rw[h,e])⟩ f o x A Z,hv⟩
 | binOp op t x y ty=>
  rw[A] at h r;simp only[di] at h;split at h
  ·rename_i a b ha hb;obtain⟨z,W,X,h3⟩:=Dh (P:=P) (w:=w) (r x (by simp[Op.operands]) a ha) (r y (by simp[Op.operands]) b hb) x y h;exact⟨z,by simp only[execOp,A,sB_,W,X,rA,sP_],h3⟩
  cases h
 | unOp op t x=>
  rw[A] at h r;simp only[di] at h;split at h
  ·rename_i b hb;cases h;have:=r x (by simp[Op.operands]) _ hb;simp only[H] at this;exact⟨.bool (!b),by simp[execOp,A,this,Op.unary],by simp only[H];rw[cond_not]⟩
  ·rename_i k n hb;cases h;have:=r x (by simp[Op.operands]) _ hb;simp only[H] at this;refine⟨.int k<|k.wrap (0-n),?_,by simp only[H];rw[zu];rfl⟩;simp only[execOp,A,this,Op.unary,Op.intArith,sB_,sP_,rA]
  ·rename_i k n hb;cases h;have:=r x (by simp[Op.operands]) _ hb;simp only[H] at this;refine⟨.int k<|k.wrap (BitVec.ofInt k.bits (if k.signed then-1 else k.max) ^^^ BitVec.ofInt k.bits n).toNat,?_,by simp only[H]⟩;simp only[execOp,A,this,Op.unary,Op.intBits,sB_,sP_,rA]
  cases h
 | convert src dst x=>
  rw[A] at h r;simp only[di] at h;split at h
  ·rename_i R u2 u3 k1 k k2 n G K e3;cases h;have:=r x (by simp[Op.operands]) _ e3;simp only[H] at this;refine⟨.int k<|k.wrap n,?_,by simp only[H];rw[zu]⟩;simp[execOp,A,this,convert,run_underlying G,run_underlying K,Conv.intToInt]
  ·rename_i R u2 u3 s G K e3;cases h;have hv:=r x (by simp[Op.operands]) _ e3;have hv':=hv;simp only[H] at hv';obtain⟨bs,E,hs⟩:=hv';refine⟨f x,?_,hv⟩;rw[E];simp[execOp,A,E,convert,run_underlying G,run_underlying K]
  cases h
 | makeInterface t x=>
  rw[A] at h r;simp only[di] at h;split at h
  ·cases h
  ·rename_i R u2 d u hn G K;cases h;have hv:=r x (by simp[Op.operands]) _ K;refine⟨.iface t<|f x,?_,by simp only[H];exact⟨_,Z,hv⟩⟩;simp only[execOp,A,Instr.makeInterface,sB_,run_underlying G,rA];cases d<;>first | rfl | exact absurd rfl (hn _)
  cases h
 | makeFunc fn first captured=>
  rw[A] at h r;simp only[di] at h;split at h
  ·rename_i R u2 u3 g a b G K;cases h;have ha:=il (f:=f) G (fun x L u hu=>r x (by simp only[Op.operands,Array.mem_append];exact .inl (by simpa using L)) u hu);have hb:=il (f:=f) K (fun x L u hu=>r x (by simp only[Op.operands,Array.mem_append];exact .inr (by simpa using L)) u hu);refine⟨.func (.func g) (first.map f)<|captured.map f,?_,by simp only[H];exact⟨_,_,Z,by simpa using ha,by simpa using hb⟩⟩;simp[execOp,A,Instr.makeFunc]
  cases h
 | slice t x lo hi mx=>
  rw[A] at h r;obtain⟨z,W,X⟩:=Cu (P:=P) (w:=w) (f:=f) h (r x (by simp[Op.operands])) (fun y hy=>r y (by subst hy;simp[Op.operands])) (fun y hy=>r y (by subst hy;simp[Op.operands])) (fun y hy=>r y (by subst hy;simp[Op.operands]));exact⟨z,by simp only[execOp,A,sB_,W,rA,sP_],X⟩
 | fieldAddr s x i=>
  rw[A] at h r;simp only[di] at h;split at h
  ·rename_i fs b off hs L;have hv:=r x (by simp[Op.operands]) _ L;simp only[H] at hv;obtain⟨l,Q,E⟩:=hv;split at h
   ·rename_i fd ab;split at h
    ·rename_i j hj;simp only[bA] at h;split at h
     ·cases h
     rename_i ac;cases h;have hz:¬j.size=0:=fun e=>ac (by rw[Nat.beq_eq];exact e)
     refine⟨.pointer<|some ⟨l.dE,l.sh+(off+fd.offset),none⟩,?_,by simp only[H];exact⟨l,Q,Z⟩⟩;simp[execOp,A,Instr.fieldAt,run_underlying<|nL hs,ab,E,Instr.sureAddr,fieldPlace,cw hj,hz,Addr.add_eq,Nat.add_assoc]
    cases h
   cases h
  cases h
 | field t x i=>
  rw[A] at h r;simp only[di] at h;split at h
  ·rename_i fs cs hs L;have hv:=r x (by simp[Op.operands]) _ L;simp only[H] at hv;obtain⟨ys,E,M⟩:=hv;split at h
   ·rename_i fd ab;obtain⟨y,W,X⟩:=xd (P:=P) (w:=w) h M;refine⟨y,?_,X⟩;simp[execOp,A,Instr.field,run_underlying<|nL hs,ab,E,asAgg,W]
   cases h
  cases h
 | indexAddr t x i=>
  rw[A] at h r;simp only[di] at h;split at h
  ·rename_i R u2 u3 e b off len cap k n hu L hi;have hv:=r x (by simp[Op.operands]) _ L;have hn:=r i (by simp[Op.operands]) _ hi;simp only[H] at hn;split at h
   ·rename_i j hj;simp only[bA] at h;split at h
    ·rename_i F;cases h;rw[nE_] at F;have F:n<len:=F;have aa:(0:Int)<=Int.ofNat n/\Int.ofNat n<(len:Int):=⟨Int.natCast_nonneg _,Int.ofNat_lt.2 F⟩
     have go:∀(a:Addr) (c:Nat),f x= .slice (some a) len c->(execOp f o).run P w= .ok (.value (.pointer<|some<|a.add (n*j.size))) w:=by
      intro a c E;simp only[execOp,A,Instr.indexAt,hn,E,asIntOf,sB_,sP_,run_underlying hu,rA];rw[if_pos aa];simp[cw hj]
     cases cap with
     | known c=>
      simp only[H] at hv;obtain⟨l,Q,E⟩:=hv;refine⟨_,go _ _ E,?_⟩;simp only[H];exact⟨l,Q,by rw[Addr.add_eq _ _ Z,Nat.add_assoc]⟩
     | least a sz=>
      simp only[H] at hv;obtain⟨l,Q,c,E,_⟩:=hv;refine⟨_,go _ _ E,?_⟩;simp only[H];exact⟨l,Q,by rw[Addr.add_eq _ _ Z,Nat.add_assoc]⟩
     | upto sz=>
      simp only[H] at hv;obtain⟨l,Q,⟨c,E,_⟩ | ⟨h0,_⟩⟩:=hv
      ·refine⟨_,go _ _ E,?_⟩;simp only[H];exact⟨l,Q,by rw[Addr.add_eq _ _ Z,Nat.add_assoc]⟩
      omega
    cases h
   cases h
  ·rename_i R u2 u3 m e b off k n hu L hi;have hv:=r x (by simp[Op.operands]) _ L;have hn:=r i (by simp[Op.operands]) _ hi;simp only[H] at hn hv;obtain⟨l,Q,E⟩:=hv;split at h
   ·rename_i j hj;simp only[bA] at h;split at h
    ·rename_i F;cases h;rw[nE_] at F;have F:n<m:=F;have aa:(0:Int)<=Int.ofNat n/\Int.ofNat n<(m:Int):=⟨Int.natCast_nonneg _,Int.ofNat_lt.2 F⟩;refine⟨.pointer<|some ⟨l.dE,l.sh+(off+n*j.size),none⟩,?_,by simp only[H];exact⟨l,Q,Z⟩⟩;simp only[execOp,A,Instr.indexAt,hn,E,asIntOf,sB_,sP_,run_underlying hu,rA,Instr.sureAddr];rw[if_pos aa];simp[cw hj,Addr.add_eq,Nat.add_assoc]
    cases h
   cases h
  cases h
 | index t x i=>
  rw[A] at h r;simp only[di] at h;split at h
  ·rename_i R u2 u3 m e cs k n hu L hi;have hv:=r x (by simp[Op.operands]) _ L;have hn:=r i (by simp[Op.operands]) _ hi;simp only[H] at hn hv;obtain⟨ys,E,M⟩:=hv;simp only[bA] at h;split at h
   ·rename_i F;rw[nE_] at F;have F:n<m:=F;have aa:(0:Int)<=Int.ofNat n/\Int.ofNat n<(m:Int):=⟨Int.natCast_nonneg _,Int.ofNat_lt.2 F⟩;split at h
    ·rename_i j hj;obtain⟨y,W,X⟩:=xd (P:=P) (w:=w) h M;refine⟨y,?_,X⟩;simp only[execOp,A,Instr.index,hn,E,asIntOf,sB_,sP_,run_underlying hu,rA];rw[if_pos aa];simp[cw hj,W]
    cases h
   cases h
  ·rename_i R u2 u3 s k n hu L hi;have hv:=r x (by simp[Op.operands]) _ L;have hn:=r i (by simp[Op.operands]) _ hi;simp only[H] at hn hv;obtain⟨bs,E,hs⟩:=hv;split at h
   ·rename_i c M;cases h;rw[eF] at M;unfold hY at hs;rw[<-hs,gM_] at M;cases hb:bs.data.toList[n]? with
    | none=>rw[hb] at M;cases M
    | some bt=>
     rw[hb] at M;cases M;have am:bs[n]?=some bt:=by rw[<-hb,aT_];rfl
     refine⟨.int .u8 (bt.toNat:Int),?_,by simp only[H];rfl⟩;have h0:(0:Int)<=Int.ofNat n:=Int.natCast_nonneg _;simp only[execOp,A,Instr.index,hn,E,asIntOf,sB_,sP_,run_underlying hu,rA];rw[if_pos h0,show(Int.ofNat n).toNat=n from Z,am];rfl
   cases h
  cases h
 | typeAssert x xt ty ok=>
  rw[A] at h r;simp only[di] at h
  have zero:∀{v:V},((fB P ty).map fun z=>V.tuple [z,.bool false])=some v->∃z,(zeroValue ty).run P w= .ok z w/\H S v (.tuple #[z,.bool false]):=fun {v} hz=>by
   cases hq:fB P ty with
   | none=>rw[hq] at hz;cases hz
   | some z=>
    rw[hq] at hz;cases hz;obtain⟨i,y,hi,hy,hv⟩:=qC hq;refine⟨y,by simp[zeroValue,typeInfo,hi,hy],?_⟩;simp only[H];exact⟨_,Z,dp.cons (hv S)<|dp.cons (by simp only[H]) dp.nil⟩
  split at h
  ·cases h
  ·rename_i R u2 d u v' hn G K;have hv:=r x (by simp[Op.operands]) _ K;simp only[H] at hv;obtain⟨y,E,hv⟩:=hv;rw[bA] at h;split at h
   ·rename_i hu;have:=nB hu;subst this;cases ok with
    | true=>
     simp only[cond_true] at h;cases h;refine⟨.tuple #[y,.bool true],?_,by simp only[H];exact⟨_,Z,dp.cons hv<|dp.cons (by simp only[H]) dp.nil⟩⟩;simp only[execOp,A,Instr.typeAssert,E,sB_,run_underlying G,rA];cases d<;>first | exact absurd rfl (hn _) | rfl | simp
    | false=>
     simp only[cond_false] at h;cases h;refine⟨y,?_,hv⟩;simp only[execOp,A,Instr.typeAssert,E,sB_,run_underlying G,rA];cases d<;>first | exact absurd rfl (hn _) | rfl | simp
   rename_i hu;have ac:¬u=ty:=fun e=>hu (by rw[e];exact Nat.beq_refl _)
   cases ok with
   | true=>
    obtain⟨z,hz,ag⟩:=zero h;refine⟨_,?_,ag⟩;simp only[execOp,A,Instr.typeAssert,E,sB_,run_underlying G,rA];cases d<;>first | exact absurd rfl (hn _) | rfl | simp[ac,hz]
   | false=>cases h
  ·rename_i R u2 d hn G K;have hv:=r x (by simp[Op.operands]) _ K;simp only[H] at hv;cases ok with
   | true=>
    obtain⟨z,hz,ag⟩:=zero h;refine⟨_,?_,ag⟩;simp only[execOp,A,Instr.typeAssert,hv,sB_,run_underlying G,rA];cases d<;>first | exact absurd rfl (hn _) | rfl | simp[hz]
   | false=>cases h
  cases h
 | extract x i=>
  rw[A] at h r;simp only[di] at h;split at h
  ·rename_i vs L;have hv:=r x (by simp[Op.operands]) _ L;simp only[H] at hv;obtain⟨ys,E,M⟩:=hv;rw[eF] at h;obtain⟨y,W,X⟩:=M.get h;have:ys[i]?=some y:=by rw[<-aT_];exact W
   exact⟨y,by simp[execOp,A,Instr.extract,E,this],X⟩
  cases h
 | call c=>
  rw[A] at h r;simp only[di] at h;split at h
  ·rename_i C;split at h
   ·rename_i R u2 t x G K;split at h
    ·rename_i u hu;cases Q:wR P t u with
     | none=>rw[Q] at h;cases h
     | some n=>
      rw[Q] at h;cases h;have q:c.args= #[x]:=by rw[<-Array.toList_inj];exact K
      have hv:=r x (by simp[Op.operands,Call.operands,C,q]) u hu;refine⟨.int .i64<|Int.ofNat n,?_,by simp only[H]⟩;have:=GS (P:=P) (w:=w) (ty:=o.type) Q hv G;simp[execOp,A,resolve,C,q,invoke,builtin,this]
    cases h
   cases h
  ·rename_i C;split at h
   ·rename_i R u2 t x G K;split at h
    ·rename_i u3 u4 e u hu L;have q:c.args= #[x]:=by rw[<-Array.toList_inj];exact K
     have hv:=r x (by simp[Op.operands,Call.operands,C,q]) u L;unfold Mv at h;split at h
     ·rename_i b off len k;cases h;simp only[H] at hv;obtain⟨l,Q,E⟩:=hv;refine⟨.int .i64<|Int.ofNat k,?_,by simp only[H]⟩;simp[execOp,A,resolve,C,q,invoke,builtin,Builtin.cap_,G,run_underlying hu,E,goInt]
     ·rename_i b off len a sz;cases h;simp only[H] at hv;obtain⟨l,Q,k,E,hk,_⟩:=hv;refine⟨.int .i64<|Int.ofNat k,?_,by simp only[H];exact⟨k,Z,hk⟩⟩;simp[execOp,A,resolve,C,q,invoke,builtin,Builtin.cap_,G,run_underlying hu,E,goInt]
     ·cases h;simp only[H] at hv;refine⟨.int .i64 0,?_,by simp only[H]⟩;simp[execOp,A,resolve,C,q,invoke,builtin,Builtin.cap_,G,run_underlying hu,hv,goInt]
     cases h
    cases h
   cases h
  ·rename_i C;split at h
   ·rename_i R x y K;split at h
    ·rename_i a b ha hb;have q:c.args= #[x,y]:=by rw[<-Array.toList_inj];exact K
     have hva:=r x (by simp[Op.operands,Call.operands,C,q]) a ha;have hvb:=r y (by simp[Op.operands,Call.operands,C,q]) b hb;unfold Nc at h;split at h
     ·rename_i k n k' m;simp only[H] at hva hvb;simp only[bA] at h;split at h
      ·cases h;refine⟨.int k (if m<n then m else n),?_,by simp only[H,eP,decide_eq_true_eq]⟩;simp[execOp,A,resolve,C,q,invoke,builtin,hva,hvb,run_min_int2]
      cases h
     cases h
    cases h
   cases h
  ·rename_i C;split at h
   ·rename_i R x y K;split at h
    ·rename_i a b ha hb;have q:c.args= #[x,y]:=by rw[<-Array.toList_inj];exact K
     have hva:=r x (by simp[Op.operands,Call.operands,C,q]) a ha;have hvb:=r y (by simp[Op.operands,Call.operands,C,q]) b hb;unfold Nb at h;split at h
     ·rename_i k n k' m;simp only[H] at hva hvb;simp only[bA] at h;split at h
      ·cases h;refine⟨.int k (if m>n then m else n),?_,by simp only[H,eP,decide_eq_true_eq]⟩;simp[execOp,A,resolve,C,q,invoke,builtin,hva,hvb,run_max_int2]
      cases h
     cases h
    cases h
   cases h
  cases h
 | _=>rw[A] at h;simp[di] at h
end
inductive HR where
 | val (v:V) (U:D)
 | skip (U:D)
 | enter (f:Nat) (args:List V) (U:D)
 | round (l:Pos) (args:List V) (U:D)
 | mO (v:V) (U:D)
 | err (n:Nat)
def xI (P:Program) (U:D) (t:TypeId) (x v:V):Option D:=
 match x,cS v with
 | .ptr b off,some cs=>
  match U.m.get b,P.info? t with
  | some (.row cells e false),some j=>
   bif Nat.beq (cX cs) j.size && Nat.ble (off+j.size) (cX cells) && cD cs then some (U.setObj b (.row (dG cs cells off) e false)) else none
  | some (.own cells e),some j=>
   bif Nat.beq (cX cs) j.size && Nat.ble (off+j.size) (cX cells) && cD cs then some (U.setObj b (.own (dG cs cells off) e)) else none
  | _,_=>none
 | _,_=>none
def kV (U:D) (sz:Nat):V->Option (Nat×List V)
 | .ax=>some (0,[])
 | .slice b off len _=>match U.m.get b with
  | some (.row cells _ _)=>bif Nat.ble (off+len*sz) (cX cells) then some (len,takeN (dS cells off) (len*sz)) else none
  | _=>none
 | .str s=>bif Nat.beq sz 1 then some (cX s,yd (fun c=>.int .u8 (Int.ofNat c)) s) else none
 | _=>none
def dt (P:Program) (t:Option TypeId):Bool:=
 match t with
 | some t=>match P.underlying t with
  | some (.slice _) | some .string=>true
  | _=>false
 | none=>true
def grow (U:D) (e:Nat) (cs:List V) (len sz:Nat):HR:=
 .val (.slice U.next 0 len (.upto sz)) (U.alloc (.row cs e false))
def fX (P:Program) (U:D) (ts:Array TypeId) (s x:V):HR:=
 match ts[0]? with
 | some t=>match P.underlying t with
  | some (.slice e)=>match P.info? e with
   | some j=>
    bif dt P ts[1]? && Nat.ble 1 j.size && Nat.ble j.bytes 65536 then
     match kV U j.size x with
     | some (n,news)=>
      bif cD news && Nat.ble n 1048576 && (P.info? e).any (fun j=>(j.zero.bind qb).any fun z=>(cS z).any fun cs=>Nat.beq (cX cs) j.size) then
       match s with
       | .ax=>bif Nat.beq n 0 then .val .ax U else grow U e news n j.size
       | .slice b off len (.known c)=>
        bif Nat.ble (len+n) c then
         match U.m.get b with
         | some (.row cells e' false)=>
          bif Nat.ble (off+len*j.size+cX news) (cX cells) then .val (.slice b off (len+n) (.known c)) (U.setObj b (.row (dG news cells (off+len*j.size)) e' false)) else .err 21
         | _=>bif Nat.beq n 0 then .val (.slice b off len (.known c)) U else .err 22
        else match U.m.get b with
         | some (.row cells _ _)=>
          bif Nat.ble (off+len*j.size) (cX cells) && Nat.ble len 1048576 then grow U e (ie (takeN (dS cells off) (len*j.size)) news) (len+n) j.size else .err 23
         | _=>.err 24
       | .slice b off len (.upto sz)=>
        bif Nat.beq n 0 then .val (.slice b off len (.upto sz)) U else
        bif Nat.beq sz j.size && Nat.ble len 1048576 then
         match U.m.get b with
         | some (.row cells e' false)=>
          bif Nat.ble 1 len && Nat.ble (off+len*j.size+cX news) (cX cells) then
           .val (.slice b off (len+n) (.upto sz)) (U.setObj b (.row (dG news cells (off+len*j.size)) e' false))
          else bif Nat.ble (off+len*j.size) (cX cells) && Nat.beq e' e then grow (U.drop b) e (ie (takeN (dS cells off) (len*j.size)) news) (len+n) j.size else .err 25
         | _=>.err 26
        else .err 27
       | _=>.err 28
      else .err 29
     | none=>.err 30
    else .err 31
   | none=>.err 32
  | _=>.err 33
 | none=>.err 34
def oD (P:Program) (U:D) (ts:Array TypeId) (s x:V):HR:=
 match ts[0]?,ts[1]? with
 | some t,some t2=>match P.underlying t,P.underlying t2 with
  | some (.slice e),some (.int _)=>match P.info? e,(fB P e).bind cS,x with
   | some j,some zs,.int .i64 (.ofNat n)=>
    bif Nat.ble n 1048576 && (Nat.ble 1 n && (Nat.ble 1 j.size && (Nat.ble j.bytes 65536 && Nat.beq (cX zs) j.size))) then
     match s with
     | .ax=>grow U e (fp zs n) n j.size
     | .slice b off len (.known c)=>
      bif Nat.ble (len+n) c then .err 37 else match U.m.get b with
       | some (.row cells _ _)=>bif Nat.ble (off+len*j.size) (cX cells) && Nat.ble len 1048576 then grow U e (ie (takeN (dS cells off) (len*j.size))<|fp zs n) (len+n) j.size else .err 23
       | _=>.err 24
     | _=>.err 38
    else .err 39
   | _,_,_=>.err 46
  | _,_=>.err 47
 | _,_=>.err 48
def rE (P:Program) (U:D) (ts:Array TypeId) (d x:V):HR:=
 match ts[0]? with
 | some t=>match P.underlying t with
  | some (.slice e)=>match P.info? e with
   | some j=>match kV U j.size x,d with
    | some (n,news),.slice b off len _=>
     bif Nat.beq (Nat.min n len) 0 then .val (.int .i64 0) U else
     match U.m.get b with
     | some (.row cells e' false)=>
      bif cD (takeN news (Nat.min n len*j.size)) && Nat.ble 1 j.size && Nat.ble (off+cX (takeN news (Nat.min n len*j.size))) (cX cells) then
       .val (.int .i64<|Int.ofNat<|Nat.min n len) (U.setObj b (.row (dG (takeN news (Nat.min n len*j.size)) cells off) e' false)) else .err 40
     | _=>.err 41
    | some (_,_),.ax=>.val (.int .i64 0) U
    | _,_=>.err 42
   | none=>.err 43
  | _=>.err 44
 | none=>.err 45
def zJ (P:Program) (U:D) (ts:Array TypeId) (x:V):Option D:=
 match ts[0]? with
 | some t=>match P.underlying t with
  | some (.slice e)=>match x with
   | .ax=>some U
   | .slice b off len _=>bif Nat.beq len 0 then some U else
    match(fB P e).bind cS,U.m.get b with
    | some zs,some (.row cells e' false)=>bif cD (fp zs len) && Nat.ble 1 (cX zs) && Nat.ble (off+cX (fp zs len)) (cX cells) then some (U.setObj b (.row (dG (fp zs len) cells off) e' false)) else none
    | _,_=>none
   | _=>none
  | _=>none
 | none=>none
def Aq (e:fC) (es:List fC) (i:Nat):List fC:=Eo e es i
def wa (es:List fC):Nat->List fC:=
 List.rec (motive:=fun _=>Nat->List fC) (fun _=>[]) (fun x l ih n=>Nat.rec (motive:=fun _=>List fC) l (fun m _=>x::ih m) n) es
def pL (xs ys:List V):Bool:=
 List.rec (motive:=fun _=>List V->Bool) (fun ys=>List.rec (motive:=fun _=>Bool) true (fun _ _ _=>false) ys)
  (fun x _ ih ys=>List.rec (motive:=fun _=>Bool) false (fun y r _=>match sa x y with | some true=>ih r | _=>false) ys) xs ys
def sameKey (x y:V):Bool:=
 match x,y with
 | .agg xs,.agg ys=>pL xs ys
 | x,y=>match sa x y with | some b=>b | none=>false
def nq (P:Program) (U:D) (t:TypeId) (m k v:V):Option D:=
 match P.underlying t,m with
 | some (.map kt _),.map b=>match U.m.get b with
  | some (.map es clock)=>bif plainKey P kt && mI P kt k then
    match pr P kt k es 0 with
    | some (some (i,_))=>match nth es i with
     | some e=>bif sameKey e.key k then some (U.setObj b (.map (Aq {key:=k,val:=v,born:=e.born} es i) clock)) else none
     | none=>none
    | some none=>some (U.setObj b (.map (ie es [{key:=k,val:=v,born:=clock}]) (clock+1)))
    | none=>none
   else none
  | _=>none
 | _,_=>none
def qH (P:Program) (U:D) (ts:Array TypeId) (m k:V):Option D:=
 match ts[0]? with
 | some t=>match P.underlying t,m with
  | some (.map kt _),.map b=>match U.m.get b with
   | some (.map es clock)=>bif plainKey P kt && mI P kt k then
     match pr P kt k es 0 with
     | some (some (i,_))=>some (U.setObj b (.map (wa es i) clock))
     | some none=>some (U.setObj b (.map es clock))
     | none=>none
    else none
   | _=>none
  | _,_=>none
 | none=>none
def zV (P:Program) (f:Nat):Bool:=
 match P.funcs[f]? with
 | some fn=>fn.body.isSome && !(fn.name == "runtime.NumGoroutine")
 | none=>false
def lk:pH->Bool
 | .upto _=>false
 | _=>true
def kg (p q:Pos):Bool:=Nat.beq p q
def oc (U:D) (args:List V):Option V:=
 match args with
 | [.slice b off n cap,.slice b' off' n' cap']=>
  match U.m.get b,U.m.get b' with
  | some (.row _ _ false),some (.row cells' _ false)=>bif (bif kg b b' then false else true) && (lk cap && (lk cap' && Nat.ble 1 (cX cells'))) then some (.bool false) else none
  | _,_=>none
 | _=>none
def isNe (P:Program) (g:Nat):Bool:=
 match P.funcs[g]? with
 | some fn=>fn.name == "internal/abi.NoEscape"
 | none=>false
def yA (P:Program) (ov:Nat->Bool) (U:D) (f:V) (args:List V):HR:=
 match f with
 | .func g fi ca=>bif zV P g then .enter g (ie fi<|ie args ca) U else bif ov g then(bif isNe P g then(match ie fi (ie args ca) with | [v]=>.val v U | _=>.err 53) else(match oc U (ie fi<|ie args ca) with | some v=>.val v U | none=>.err 52)) else .err 50
 | .yield l=>.round l args U
 | _=>.err 51
def Ox (len:Nat) (c:pH):Bool:=
 match c with
 | .known c=>Nat.ble 1 c
 | .upto _=>Nat.ble 1 len
 | .least a _=>Nat.ble 1 a
def E5 (x:V):Option V:=
 match x with
 | .ax=>some .nilPtr
 | .slice b off len c=>bif Ox len c then some (.ptr b off) else none
 | _=>none
def FZ (P:Program) (U:D) (t:Option TypeId) (p n:V):Option (List Nat×D):=
 match n with
 | .int .i64 (.ofNat n)=>bif Nat.beq n 0 then(match t,p with
   | some _,.nilPtr=>some ([],U)
   | some _,.ptr _ _=>some ([],U)
   | _,_=>none) else
  match t,p with
  | some t,.ptr b off=>match P.underlying t,U.m.get b with
   | some (.pointer u),some (.row cells e false)=>bif Nat.beq e u && (Nat.beq (P.cellsOf u) 1 && (Nat.ble (off+n) (cX cells) && Nat.ble n 1152921504606846976)) then
     match cW yz (takeN (dS cells off) n) with
     | some s=>some (s,U.setObj b (.row cells e true))
     | none=>none
    else none
   | _,_=>none
  | _,_=>none
 | _=>none
def mr (P:Program) (U:D) (src dst:TypeId) (x:V):HR:=
 match P.underlying src,P.underlying dst,x with
 | some .string,some (.slice e),.str s=>match P.underlying e with
  | some (.int .u8)=>bif Nat.beq (P.cellsOf e) 1 then .val (.slice U.next 0 (cX s) (.upto 1)) (U.alloc (.row (yd (fun c=>.int .u8 (Int.ofNat c)) s) e true)) else .err 26
  | _=>.err 25
 | _,_,_=>.err 24
def gz (P:Program) (ov:Nat->Bool) (ev:Operand->Option V) (U:D):Op->HR
 | .store t x y=>match ev x,ev y with
  | some a,some v=>match xI P U t a v with
   | some U'=>.skip U'
   | none=>.err 10
  | _,_=>.err 11
 | .mapUpdate t m k x=>match ev m,ev k,ev x with
  | some a,some b,some v=>match nq P U t a b v with
   | some U'=>.skip U'
   | none=>.err 19
  | _,_,_=>.err 20
 | .insert t m k x=>match ev m,ev k,ev x with
  | some a,some b,some v=>match nq P U t a b v with
   | some U'=>.skip U'
   | none=>.err 19
  | _,_,_=>.err 20
 | .call c=>match c.callee with
  | .value f=>match ev f,tN ev c.args.toList with
   | some g,some args=>yA P ov U g args
   | _,_=>.err 12
  | .builtin .append=>match tN ev c.args.toList with
   | some [s,x]=>bif dt P c.argTypes[1]? then fX P U c.argTypes s x else oD P U c.argTypes s x
   | _=>.err 13
  | .builtin .delete=>match tN ev c.args.toList with
   | some [m,k]=>match qH P U c.argTypes m k with
    | some U'=>.val (.tuple []) U'
    | none=>.err 17
   | _=>.err 18
  | .builtin .copy=>match tN ev c.args.toList with
   | some [s,x]=>rE P U c.argTypes s x
   | _=>.err 14
  | .builtin .clear=>match tN ev c.args.toList with
   | some [x]=>match zJ P U c.argTypes x with
    | some U'=>.val (.tuple []) U'
    | none=>.err 21
   | _=>.err 22
  | .builtin .unsafeSliceData=>match tN ev c.args.toList with
   | some [x]=>match E5 x with
    | some v=>.val v U
    | none=>.err 27
   | _=>.err 28
  | .builtin .unsafeString=>match tN ev c.args.toList with
   | some [p,n]=>match FZ P U c.argTypes[0]? p n with
    | some (s,U')=>.val (.str s) U'
    | none=>.err 29
   | _=>.err 30
  | _=>.err 15
 | .convert src dst x=>match ev x with
  | some v=>mr P U src dst v
  | none=>.err 23
 | .panic x=>match ev x with
  | some (.iface t v)=>.mO (.iface t v) U
  | _=>.err 32
 | _=>.err 16
section
variable {P:Program} {S:dh} {U:D} {w:World}
theorem D.nK (U:D) (b:Pos) (o o':cG):(U.setObj b o).setObj b o'=U.setObj b o':=by
 simp[D.setObj,N.Lp]
theorem D.mG (U:D) (b:Pos) (o:cG):(U.setObj b o).m.get b=some o:=N.dA _ _ _
theorem ot {b:Pos} {l:Loc} {e:Nat} (o:S b=some l):∀(vs:List V) (xs:List Value) (cells:List V) (off i:Nat) (U:D) (w:World),Inv S U w->U.m.get b=some (.row cells e false)->dp S vs xs->cD vs=true->
  off+i+vs.length<=cells.length->∀σ₀:D,U=σ₀.setObj b (.row cells e false)->
  ∃w',(storeCells ⟨l.dE,l.sh+off,none⟩ xs i).run P w= .ok () w'/\Inv S (σ₀.setObj b (.row (iw cells (off+i) vs) e false)) w'/\eY S U w S (σ₀.setObj b (.row (iw cells (off+i) vs) e false)) w'
 | [],xs,cells,off,i,U,w,n,p,q,_,_,σ₀,hσ=>by
  rw[q.eQ];subst hσ;exact⟨w,by simp[storeCells],n,eY.refl _ _ _⟩
 | v::vs,xs,cells,off,i,U,w,n,p,q,a,hlen,σ₀,hσ=>by
  obtain⟨x,r,rfl,E,F⟩:=q.cons_inv;have f:iB v=true:=rT a v (by simp)
  have s:cD vs=true:=by
   have h':(bif iB v then cD vs else false)=true:=a;rw[f] at h';exact h'
  simp only[List.length_cons] at hlen;obtain⟨t,st⟩:=n.setCell p o (i:=off+i) B E;have g:(U.setObj b (.row (cells.set (off+i) v) e false)).m.get b=some (.row (cells.set (off+i) v) e false):=D.mG _ _ _;obtain⟨w',r',inv',st'⟩:=ot o vs r (cells.set (off+i) v) off (i+1) _ _ t g F s (by simp;omega) σ₀ (by rw[hσ,D.nK]);obtain⟨c,fr,j,aa,ab,u,z⟩:=n.row p o;refine⟨w',?_,?_,?_⟩
  ·have A:off+i<cells.length:=by omega
   obtain⟨y,G,_⟩:=u (off+i) cells[off+i] (gC A);have d:w.cell? ⟨l.dE,l.sh+off+i,none⟩=some y:=by rw[cell?_of_heap j,Nat.add_assoc];exact G
   have C:w.frozen? ⟨l.dE,l.sh+off+i,none⟩=false:=frozen?_of_heap j _ (z Z _ B);have k:(⟨l.dE,l.sh+off,none⟩:Addr).add i=⟨l.dE,l.sh+off+i,none⟩:=Addr.add_eq _ i Z
   have aq:(store ⟨l.dE,l.sh+off+i,none⟩ x).run P w= .ok () (w.setCell ⟨l.dE,l.sh+off+i,none⟩ x):=by
    rw[run_store P w _ x _<|oV f E,d];simp[C]
   simp only[storeCells,sB_,k,aq,rA];rw[<-r',Nat.add_assoc]
  ·simpa [iw,Nat.add_assoc] using inv'
  have:=st.trans st';simpa [iw,Nat.add_assoc] using this
theorem jb (g:Inv S U w) {b:Pos} {l:Loc} {e:Nat} {cells vs:List V} {xs:List Value} {off:Nat} (f:S b=some l) (h:U.m.get b=some (.row cells e false)) (i:dp S vs xs) (a:cD vs=true)
  (hlen:off+vs.length<=cells.length):
  ∃w',(storeCells ⟨l.dE,l.sh+off,none⟩ xs).run P w= .ok () w'/\Inv S (U.setObj b (.row (dG vs cells off) e false)) w'/\eY S U w S (U.setObj b (.row (dG vs cells off) e false)) w':=by
 have d:Inv S (U.setObj b (.row cells e false)) w/\eY S U w S (U.setObj b (.row cells e false)) w:=by
  obtain⟨c,fr,j,k,n,o,p⟩:=g.row h f;exact g.change h f Z Z j ⟨c,fr,Z,k,n,o,p⟩ (fun _ _=>Z) Z Z Z Z
 obtain⟨w',r,inv,st⟩:=ot (P:=P) f vs xs cells off 0 _ w d.1 (D.mG _ _ _) i a B U Z;rw[Nat.add_zero,<-kW vs cells off hlen] at inv st;exact⟨w',r,inv,d.2.trans st⟩
theorem CF (A:Inv S U w) {t:TypeId} {x v:V} {y z:Value} {U':D} (h:xI P U t x v=some U') (f:H S x y) (m:H S v z):
  ∃w',(Instr.storeAt t y z).run P w= .ok () w'/\Inv S U' w'/\eY S U w S U' w':=by
 unfold xI at h;split at h
 ·rename_i u1 u2 b off cs a;split at h
  ·rename_i E F cells e j n o;simp only[bA] at h;split at h
   ·rename_i g;cases h;simp only[bA_,Nat.beq_eq,nE_,bK] at g;obtain⟨⟨p,q⟩,d⟩:=g;simp only[H] at f;obtain⟨l,i,rfl⟩:=f;obtain⟨w',r,inv,st⟩:=jb (P:=P) A i n (iX a m) d (off:=off) B;refine⟨w',?_,inv,st⟩;have hsz:=m9 a m;simp only[Instr.storeAt,Instr.sureAddr,storeVar,sB_,sP_,rA,cw o];rw[if_neg (by simp;omega)];exact r
   cases h
  ·rename_i E F cells e j n o;simp only[bA] at h;split at h
   ·rename_i g;cases h;simp only[bA_,Nat.beq_eq,nE_,bK] at g;obtain⟨⟨p,q⟩,d⟩:=g;simp only[H] at f;obtain⟨l,i,rfl⟩:=f;obtain⟨C,s,u⟩:=A.own n i;obtain⟨w',r,inv,st⟩:=jb (P:=P) s i (D.mG _ _ _) (iX a m) d (off:=off) B;rw[D.nK] at inv st;have hlen:(dG cs cells off).length=cells.length:=by rw[kW _ _ _ B,rO]
    obtain⟨c,k⟩:=inv.Jq (D.mG _ _ _) i Z (fun x f=>iF.FK ⟨C.1,by rw[hlen];exact C.2⟩ f);rw[D.nK] at c k;refine⟨w',?_,c,(u.trans st).trans k⟩;have hsz:=m9 a m;simp only[Instr.storeAt,Instr.sureAddr,storeVar,sB_,sP_,rA,cw o];rw[if_neg (by simp;omega)];exact r
   cases h
  cases h
 cases h
theorem pg (r:Inv S U w) {sz n:Nat} {x:V} {y:Value} {cs:List V} (h:kV U sz x=some (n,cs)) (d:H S x y):
  (Builtin.lenOf y).run P w= .ok n w/\cs.length=n*sz/\
   ∀k,k<=n->∃xs:List Value,dp S (cs.take (k*sz)) xs/\∀w',w'.heap=w.heap->(Builtin.firstCells sz k y).run P w'= .ok xs.toArray w':=by
 unfold kV at h;split at h
 ·cases h;simp only[H] at d;subst d;refine⟨by simp[Builtin.lenOf],by simp,fun k o=>⟨[],by simpa using dp.nil,fun w' _=>by simp[Builtin.firstCells]⟩⟩
 ·rename_i b off len cap;split at h
  ·rename_i cells e ro t;simp only[bA] at h;split at h
   ·rename_i hle;cases h;rw[nE_,bK] at hle
    have full:∀(a:Addr) (c:Nat) (l:Loc),S b=some l->y= .slice (some a) n c->(a=⟨l.dE,l.sh+off,none⟩∨n=0)->
      (Builtin.lenOf y).run P w= .ok n w/\(takeN (dS cells off) (n*sz)).length=n*sz/\
       ∀k,k<=n->∃xs:List Value,dp S ((takeN (dS cells off) (n*sz)).take (k*sz)) xs/\∀w',w'.heap=w.heap->(Builtin.firstCells sz k y).run P w'= .ok xs.toArray w':=by
     intro a c l f u z;subst u;refine⟨by simp[Builtin.lenOf],by rw[du,dO,lT_,lD_];omega,fun k o=>?_⟩;have p:k*sz<=n*sz:=nM_ _ o;rw[du,dO,List.take_take,Nat.min_eq_left p];rcases z with rfl | rfl
     ·obtain⟨ys,A,C,E⟩:=r.piece t f off (k*sz) B;refine⟨ys,C,fun w' g=>?_⟩;refine run_firstCells_some w' sz k _ n c ys A fun j v F=>?_
      have:=E j v F;simpa [World.cell?,g] using this
     have q:k=0:=by omega
     subst q;refine⟨[],by simpa using dp.nil,fun w' g=>?_⟩;exact run_firstCells_some w' sz 0 _ 0 c [] (by simp) (by simp)
    cases cap with
    | known c=>
     simp only[H] at d;obtain⟨l,f,rfl⟩:=d;exact full _ _ l f Z (.inl Z)
    | least a s=>
     simp only[H] at d;obtain⟨l,f,c,rfl,_⟩:=d;exact full _ _ l f Z (.inl Z)
    | upto s=>
     simp only[H] at d;obtain⟨l,f,⟨c,rfl,_⟩ | ⟨G,a,rfl⟩⟩:=d
     ·exact full _ _ l f Z (.inl Z)
     subst G;exact full _ _ l f Z (.inr Z)
   cases h
  cases h
 ·rename_i s;simp only[bA] at h;split at h
  ·rename_i i;rw[Nat.beq_eq] at i;subst i;cases h;simp only[H] at d;obtain⟨bs,rfl,m⟩:=d;rw[jK m,lY];unfold hY at m;refine⟨by simp[Builtin.lenOf],by rw[<-m];simp,fun k o=>?_⟩;refine⟨(bs.data.toList.take k).map fun b=>Value.int .u8 b.toNat,?_,fun w' _=>?_⟩
   ·rw[<-m,List.map_map,<-List.map_take,Nat.mul_one];generalize (bs.data.toList.take k)=l;induction l with
    | nil=>exact dp.nil
    | cons c l ih=>exact dp.cons (by simp only[H];rfl) ih
   simp only[Builtin.firstCells,sP_];congr 1;apply Array.toList_inj.1;simp only[Array.toList_map];congr 1;simp
  cases h
 cases h
end
section
variable {P:Program} {S:dh} {U:D} {w:World}
theorem GU {α:Type} (l:List α) (k:Nat) (v:α) (vs:List α) (a:k<l.length):
  (l.set k v).take (k+1)++vs++(l.set k v).drop (k+1+vs.length)=l.take k++(v::vs)++l.drop (k+(vs.length+1)):=by
 have b:(l.set k v).drop (k+1+vs.length)=l.drop (k+(vs.length+1)):=by
  rw[List.drop_set_of_lt B];congr 1;omega
 have c:(l.set k v).take (k+1)=l.take k++[v]:=by
  rw[List.take_succ_eq_append_getElem (by simpa using a)];simp[List.take_set_of_le]
 rw[c,b];simp
theorem mU {g o e:Nat} {fr:Nat×Nat}:∀(vs:List Value) (cur:Array Value) (i:Nat) (w:World),w.heap[g]?=some (.cells cur e fr)->o+i+vs.length<=cur.size->(∀v∈vs,v.oneCell'=true)->
  (∀j,o<=j->¬(fr.1<=j/\j<fr.2))->
  ∃w',(storeCells ⟨g,o,none⟩ vs i).run P w= .ok () w'/\w'.heap[g]?=some (.cells (cur.toList.take (o+i)++vs++cur.toList.drop (o+i+vs.length)).toArray e fr)/\
   (∀r,r≠g->w'.heap[r]?=w.heap[r]?)/\w'.heap.size=w.heap.size/\w'.tape=w.tape/\w'.os=w.os/\w'.output=w.output
 | [],cur,i,w,b,_,_,_=>by
  refine⟨w,by simp[storeCells],?_,fun _ _=>Z,Z,Z,Z,Z⟩;simpa using b
 | v::vs,cur,i,w,b,m,h,k=>by
  simp only[List.length_cons] at m;have d:o+i<cur.size:=by omega
  have c:(⟨g,o,none⟩:Addr).add i=⟨g,o+i,none⟩:=Addr.add_eq _ i Z;have a:w.cell? ⟨g,o+i,none⟩=some cur[o+i]:=by rw[cell?_of_heap b];simp[d]
  have f:w.frozen? ⟨g,o+i,none⟩=false:=frozen?_of_heap b _ (k _ B)
  have aq:(store ⟨g,o+i,none⟩ v).run P w= .ok () (w.setCell ⟨g,o+i,none⟩ v):=by
   rw[run_store P w _ v _<|h v (by simp),a];simp[f]
  obtain⟨w',r,q1,q2,q3,q4,q5,n⟩:=mU vs (cur.setIfInBounds (o+i) v) (i+1) _ (heap_setCell_same b (o+i) v) (by simp;omega) (fun u hu=>h u (by simp[hu])) k;refine⟨w',?_,?_,fun r l=>(q2 r l).trans (heap_setCell_other w _ v l),by rw[q3];simp,q4,q5,n⟩
  ·simp only[storeCells,sB_,c,aq,rA];exact r
  rw[q1];congr 3;rw[Array.toList_setIfInBounds];have aa:cur.toList.length=cur.size:=Array.length_toList;exact GU cur.toList (o+i) v vs B
theorem run_append_fits {ts:Array TypeId} {t ty e:TypeId} {j:TypeInfo} (h:ts[0]?=some t) (hu:P.underlying t=some (.slice e)) (i:P.info? e=some j) (f:dt P ts[1]?=true)
  {base:Option Addr} {sLen sCap n:Nat} {y:Value} {news:List Value} (hlen:(Builtin.lenOf y).run P w= .ok n w) (b:(Builtin.firstCells j.size n y).run P w= .ok news.toArray w) (c:sLen+n<=sCap):
  (Builtin.append_ ts ty #[.slice base sLen sCap,y]).run P w=
   (Sem.run P (match base with | some a=>storeCells (a.add (sLen*j.size)) news | none=>pure ():Sem Unit) w).andThen fun _ w'=>.ok (.slice base (sLen+n) sCap) w':=by
 unfold dt at f;cases g:ts[1]? with
 | none=>
  cases base<;>simp[Builtin.append_,h,g,run_underlying hu,cw i,hlen,c,b]
 | some u=>
  rw[g] at f;dsimp only at f;split at f
  ·rename_i e' d;cases base<;>simp[Builtin.append_,h,g,run_underlying hu,run_underlying d,cw i,hlen,c,b]
  ·rename_i d;cases base<;>simp[Builtin.append_,h,g,run_underlying hu,run_underlying d,cw i,hlen,c,b]
  cases f
theorem nI {ts:Array TypeId} {t ty e:TypeId} {j:TypeInfo} (c:ts[0]?=some t) (hu:P.underlying t=some (.slice e)) (d:P.info? e=some j) (f:dt P ts[1]?=true)
  {dE o:Nat} {sLen sCap n:Nat} {y:Value} {news:List Value} (hlen:(Builtin.lenOf y).run P w= .ok n w) (a:(Builtin.firstCells j.size n y).run P w= .ok news.toArray w) (b:sLen+n<=sCap):
  (Builtin.append_ ts ty #[.slice (some ⟨dE,o,none⟩) sLen sCap,y]).run P w=
   (Sem.run P (storeCells ⟨dE,o+sLen*j.size,none⟩ news) w).andThen fun _ w'=>.ok (.slice (some ⟨dE,o,none⟩) (sLen+n) sCap) w':=by
 rw[run_append_fits c hu d f hlen a b];show(Sem.run P (storeCells ((⟨dE,o,none⟩:Addr).add (sLen*j.size)) news) w).andThen _=_;rw[Addr.add_eq _ _ Z]
theorem lG {ts:Array TypeId} {t ty e:TypeId} {j:TypeInfo} {z:Value} (k:ts[0]?=some t) (hu:P.underlying t=some (.slice e)) (h:P.info? e=some j) (hzero:j.zero=some z) (i:dt P ts[1]?=true)
  {base:Option Addr} {sLen sCap n:Nat} {y:Value} {olds news:List Value} (hlen:(Builtin.lenOf y).run P w= .ok n w) (a:(Builtin.firstCells j.size n y).run P w.drew= .ok news.toArray w.drew)
  (hold:(Builtin.firstCells j.size sLen (.slice base sLen sCap)).run P w.drew= .ok olds.toArray w.drew) (d:sCap<sLen+n) (l:sLen+n<=4194304) (m:j.bytes<=65536) (aa:1<=j.size):
  ∃cap,sLen+n<=cap/\(Builtin.append_ ts ty #[.slice base sLen sCap,y]).run P w=
   .ok (.slice (some ⟨w.heap.size,0,none⟩) (sLen+n) cap) (w.drew.alloc (.cells (olds.toArray++news.toArray++Builtin.zeroCells z.cells (cap-(sLen+n))) e)):=by
 refine⟨grownCap w (sLen+n) sCap e,grownCap_ge _ _ _ _,?_⟩
 have ab:Builtin.nextslicecap (sLen+n) sCap*j.bytes<=281474976710656:=growslice_fits d (by
  have:(sLen+n)*j.bytes<=4194304*65536:=Nat.mul_le_mul l m;omega)
 have o:¬(sLen+n<=sCap):=by omega
 have b:IntKind.i64.max=9223372036854775807:=by decide
 have p:¬(9223372036854775807<((sLen:Int)+(n:Int))):=by omega
 have f:¬(281474976710656<Builtin.nextslicecap (sLen+n) sCap*j.bytes):=by omega
 rw[Array.append_assoc];unfold dt at i;cases c:ts[1]? with
 | none=>
  simp[Builtin.append_,k,c,run_underlying hu,cw h,typeInfo,h,hlen,o,b,p,f,hold,a,zeroValue,hzero,newRow,Question.forced,grownCap]
 | some u=>
  rw[c] at i;dsimp only at i;split at i
  ·rename_i e' g;simp[Builtin.append_,k,c,run_underlying hu,run_underlying g,cw h,typeInfo,h,hlen,o,b,p,f,hold,a,zeroValue,hzero,newRow,Question.forced,grownCap]
  ·rename_i g;simp[Builtin.append_,k,c,run_underlying hu,run_underlying g,cw h,typeInfo,h,hlen,o,b,p,f,hold,a,zeroValue,hzero,newRow,Question.forced,grownCap]
  cases i
theorem mH (f:Inv S U w) {cs:List V} {olds news:List Value} {e sz len cap:Nat} {z:Value} (d:dp S cs (olds++news)) (hlen:cs.length=len*sz) (a:len<=cap) (g:z.cells.size=sz):
  Inv (S.with U.next ⟨w.heap.size,0,cap*sz⟩) (U.alloc (.row cs e false)) (w.drew.alloc (.cells (olds.toArray++news.toArray++Builtin.zeroCells z.cells (cap-len)) e))/\
  eY S U w (S.with U.next ⟨w.heap.size,0,cap*sz⟩) (U.alloc (.row cs e false)) (w.drew.alloc (.cells (olds.toArray++news.toArray++Builtin.zeroCells z.cells (cap-len)) e))/\
  H (S.with U.next ⟨w.heap.size,0,cap*sz⟩) (.slice U.next 0 len (.upto sz)) (.slice (some ⟨w.heap.size,0,none⟩) len cap):=by
 have hlen2:=d.length;rw[hlen] at hlen2;have hle:len*sz<=cap*sz:=nM_ _ a
 have h:iF S ⟨w.heap.size,0,cap*sz⟩ (.row cs e false) (.cells (olds.toArray++news.toArray++Builtin.zeroCells z.cells (cap-len)) e):=by
  refine⟨_,_,Z,?_,by rw[hlen];exact hle,fun i v k=>?_,fun _ j _ m=>by simp at m⟩
  ·have b:olds.length+news.length=len*sz:=by simpa using hlen2
   simp only[Array.size_append,List.size_toArray,size_zeroCells,g,Nat.sub_mul,nA_];omega
  obtain⟨y,b,n⟩:=d.get k;refine⟨y,?_,n⟩;have c:i<(olds++news).length:=(gA.1 b).1;rw[nA_,Array.getElem?_append_left (by simpa using c)];simpa using b
 obtain⟨inv,st⟩:=(f.drew).alloc (l:=⟨w.heap.size,0,cap*sz⟩) Z h;refine⟨inv,(eY.drew S U w).trans st,?_⟩;simp only[H];exact⟨_,dh.cZ _ _ _,.inl ⟨cap,Z,a,by simp⟩⟩
theorem zC (G:Inv S U w) {ts:Array TypeId} {ty:TypeId} {s x v:V} {ys yx:Value} {U':D} (h:fX P U ts s x= .val v U') (hs:H S s ys) (hx:H S x yx):
  ∃z w' S',(Builtin.append_ ts ty #[ys,yx]).run P w= .ok z w'/\H S' v z/\Inv S' U' w'/\eY S U w S' U' w':=by
 unfold fX at h;cases X:ts[0]? with
 | none=>rw[X] at h;cases h
 | some t=>
 rw[X] at h;dsimp only at h;split at h
 case h_2=>cases h
 rename_i e hu;cases hj:P.info? e with
 | none=>rw[hj] at h;cases h
 | some j=>
 rw[hj] at h;simp only[bA] at h;split at h
 case isFalse=>cases h
 rename_i W;simp only[bA_,nE_] at W;obtain⟨⟨hz,ag⟩,ax⟩:=W;cases aa:kV U j.size x with
 | none=>rw[aa] at h;cases h
 | some p=>
 obtain⟨n,news⟩:=p;rw[aa] at h;dsimp only at h;split at h
 case isFalse=>cases h
 rename_i a3;simp only[bA_,nE_] at a3;obtain⟨⟨K,b4⟩,hzero⟩:=a3
 obtain⟨zv,aI,m⟩:∃zv,j.zero=some zv/\zv.cells.size=j.size:=by
  simp only[Option.any_some,Option.any_eq_true] at hzero;obtain⟨z,am,cs,bi,a4⟩:=hzero;cases a5:j.zero with
  | none=>rw[a5] at am;cases am
  | some zv=>
   rw[a5] at am;refine⟨zv,Z,?_⟩;rw[Nat.beq_eq,bK] at a4;rw[<-a4];exact m9 bi<|qc (S:=S) am
 obtain⟨f,q,ao⟩:=pg (P:=P) G aa hx;obtain⟨xs,E,ab⟩:=ao n (nR_ _);rw[<-q,List.take_length] at E;have A:xs.length=n*j.size:=by rw[E.length,q]
 have hrun0:=ab w Z;have hrund:=ab w.drew Z;split at h
 ·
  simp only[H] at hs;subst hs;split at h
  ·rename_i k;rw[Nat.beq_eq] at k;cases h;subst k;refine⟨.slice none 0 0,w,S,?_,by simp only[H],G,eY.refl _ _ _⟩;have:=run_append_fits (w:=w) (ty:=ty) (base:=none) (sLen:=0) (sCap:=0) X hu hj hz f hrun0 (nR_ _);rw[this];rfl
  rename_i k;cases h
  have hn:0<n:=by
   rcases Nat.eq_zero_or_pos n with Q | Q
   ·exact absurd (by rw[Nat.beq_eq];exact Q) k
   exact Q
  obtain⟨cap,C,hr⟩:=lG (w:=w) (ty:=ty) (base:=none) (sLen:=0) (sCap:=0) (olds:=[]) X hu hj aI hz f hrund (by simp[Builtin.firstCells]) B B ax ag;rw[nA_] at C hr;obtain⟨inv,st,hv⟩:=mH (e:=e) G (olds:=[]) (news:=xs) (by simpa using E) q C m;exact⟨_,_,_,hr,hv,inv,st⟩
 ·
  rename_i b off len c;simp only[H] at hs;obtain⟨l,R,rfl⟩:=hs;split at h
  ·rename_i g;rw[nE_] at g;have hr:=nI (w:=w) (ty:=ty) (dE:=l.dE) (o:=l.sh+off) X hu hj hz f hrun0 g;split at h
   ·rename_i cells e' W;split at h
    ·rename_i d;rw[nE_,bK,bK] at d;cases h;obtain⟨w',r,inv,st⟩:=jb (P:=P) G R W E K (off:=off+len*j.size) B;refine⟨.slice (some ⟨l.dE,l.sh+off,none⟩) (len+n) c,w',S,?_,?_,inv,st⟩
     ·rw[hr,Nat.add_assoc,r];rfl
     simp only[H];exact⟨l,R,Z⟩
    cases h
   split at h
   ·rename_i k;rw[Nat.beq_eq] at k;cases h;subst k;refine⟨.slice (some ⟨l.dE,l.sh+off,none⟩) len c,w,S,?_,?_,G,eY.refl _ _ _⟩
    ·have aY:xs= []:=eN_ (by rw[A,Nat.zero_mul]);rw[hr,aY];simp[storeCells]
    simp only[H];exact⟨l,R,Z⟩
   cases h
  rename_i g;rw[nE_] at g;split at h
  ·rename_i cells e' ro W;split at h
   ·rename_i d;simp only[bA_,nE_,bK] at d;obtain⟨d,ap⟩:=d;unfold grow at h;cases h;obtain⟨ys,h1,h2,h3⟩:=G.piece W R off (len*j.size) d
    have hold:(Builtin.firstCells j.size len (.slice (some ⟨l.dE,l.sh+off,none⟩) len c)).run P w.drew= .ok ys.toArray w.drew:=
     run_firstCells_some w.drew j.size len _ len c ys h1 (fun i v hv=>by simpa using h3 i v hv)
    obtain⟨cap,C,hr⟩:=lG (w:=w) (ty:=ty) X hu hj aI hz f hrund hold B B ax ag
    obtain⟨inv,st,hv⟩:=mH (e:=e) G (olds:=ys) (news:=xs) (len:=len+n) (cs:=ie (takeN (dS cells off) (len*j.size)) news)
     (by rw[dV,du,dO];exact h2.append E) (by rw[dV,du,dO,lA_,lT_,lD_,q,Nat.add_mul];omega) C m
    exact⟨_,_,_,hr,hv,inv,st⟩
   cases h
  cases h
 ·
  rename_i b off len sz;split at h
  ·rename_i k;rw[Nat.beq_eq] at k;cases h;subst k;have aY:xs= []:=eN_ (by rw[A,Nat.zero_mul]);subst aY;have hs':=hs;simp only[H] at hs';obtain⟨l,R,⟨c,hy,hc,_⟩ | ⟨Q,a,hy⟩⟩:=hs'
   ·refine⟨ys,w,S,?_,hs,G,eY.refl _ _ _⟩;rw[hy,run_append_fits (w:=w) (ty:=ty) X hu hj hz f hrun0 B];simp[storeCells]
   refine⟨ys,w,S,?_,hs,G,eY.refl _ _ _⟩;subst Q;rw[hy,run_append_fits (w:=w) (ty:=ty) X hu hj hz f hrun0 B];simp[storeCells]
  rename_i k
  have hn:0<n:=by
   rcases Nat.eq_zero_or_pos n with Q | Q
   ·exact absurd (by rw[Nat.beq_eq];exact Q) k
   exact Q
  split at h
  ·rename_i L;simp only[bA_,Nat.beq_eq,nE_] at L;obtain⟨L,ap⟩:=L;subst L;simp only[H] at hs;split at h
   ·rename_i cells e' W;split at h
    ·
     rename_i d;simp only[bA_,nE_,bK] at d;obtain⟨b5,d⟩:=d;cases h;obtain⟨l,R,⟨c,rfl,hc,M⟩ | ⟨Q,_⟩⟩:=hs
     ·obtain⟨cc,fr,_,_,bl,_⟩:=G.row W R
      have g:len+n<=c:=by
       have:(len+n)*j.size<=c*j.size:=by rw[Nat.add_mul];omega
       exact Nat.le_of_mul_le_mul_right this ag
      have hr:=nI (w:=w) (ty:=ty) (dE:=l.dE) (o:=l.sh+off) X hu hj hz f hrun0 g;obtain⟨w',r,inv,st⟩:=jb (P:=P) G R W E K (off:=off+len*j.size) B;refine⟨.slice (some ⟨l.dE,l.sh+off,none⟩) (len+n) c,w',S,?_,?_,inv,st⟩
      ·rw[hr,Nat.add_assoc,r];rfl
      simp only[H];exact⟨l,R,.inl ⟨c,Z,g,M⟩⟩
     omega
    split at h
    ·
     rename_i d;simp only[bA_,nE_,Nat.beq_eq,bK] at d;obtain⟨d,he⟩:=d;subst he;unfold grow at h;cases h;obtain⟨l,R,a0⟩:=hs;obtain⟨olds,h1,h2,h3⟩:=G.piece W R off (len*j.size) d;have a6:dp S (ie (takeN (dS cells off) (len*j.size)) news) (olds++xs):=by rw[dV,du,dO];exact h2.append E
     have a7:(ie (takeN (dS cells off) (len*j.size)) news).length=(len+n)*j.size:=by
      rw[dV,du,dO,lA_,lT_,lD_,q,Nat.add_mul];omega
     have anew:∀(a:Addr) (c:Nat),ys= .slice (some a) len c->c<len+n->(a=⟨l.dE,l.sh+off,none⟩∨len=0)->
       ∃z w' S',(Builtin.append_ ts ty #[ys,yx]).run P w= .ok z w'/\H S' (.slice (U.drop b).next 0 (len+n) (.upto j.size)) z/\
        Inv S' ((U.drop b).alloc (.row (ie (takeN (dS cells off) (len*j.size)) news) e' false)) w'/\eY S U w S' ((U.drop b).alloc (.row (ie (takeN (dS cells off) (len*j.size)) news) e' false)) w':=by
      intro a c hy b6 ha;subst hy
      have hold:(Builtin.firstCells j.size len (.slice (some a) len c)).run P w.drew= .ok olds.toArray w.drew:=by
       rcases ha with rfl | rfl
       ·exact run_firstCells_some w.drew j.size len _ len c olds h1 (fun i v hv=>by simpa using h3 i v hv)
       have:olds= []:=eN_ (by rw[h1,Nat.zero_mul]);subst this;exact run_firstCells_some w.drew j.size 0 _ 0 c [] (by simp) (by simp)
      obtain⟨cap,C,hr⟩:=lG (w:=w) (ty:=ty) X hu hj aI hz f hrund hold B B ax ag;obtain⟨bm,st'⟩:=G.forget b;obtain⟨inv,st,hv⟩:=mH (e:=e') bm (olds:=olds) (news:=xs) (len:=len+n) a6 a7 C m;exact⟨_,_,_,hr,hv,inv,st'.trans st⟩
     rcases a0 with ⟨c,hy,hc,M⟩ | ⟨Q,a,hy⟩
     ·by_cases g:len+n<=c
      ·
       subst hy;have hr:=nI (w:=w) (ty:=ty) (dE:=l.dE) (o:=l.sh+off) X hu hj hz f hrun0 g;obtain⟨cc,fr,a8,a1,bl,b7,a9⟩:=G.row W R;have hmul:(len+n)*j.size<=c*j.size:=nM_ _ g;have bo:(len+n)*j.size=len*j.size+n*j.size:=Nat.add_mul _ _ _
       have aq:=mU (P:=P) (o:=l.sh+off+len*j.size) xs cc 0 w a8 (by rw[A,a1];omega) (fun u hu=>by
        obtain⟨i,bb,bs⟩:=List.getElem_of_mem hu;have ar:i<news.length:=by rw[<-E.length];exact bb
        obtain⟨y,F,a2⟩:=E.get (gC ar);rw[gC bb,bs] at F;cases F;exact oV (rT K _<|List.getElem_mem ar) a2) (fun jj be=>a9 Z jj B)
       obtain⟨w',r,bt,bv,bw,b0,b1,b2⟩:=aq
       have inv:=G.xq (l':=⟨l.dE,l.sh+off,l.cells-off⟩) (cells':=ie (takeN (dS cells off) (len*j.size)) news) W R Z bt
        ⟨_,fr,Z,by simp[a1];omega,by rw[a7];show _<=l.cells-off;omega,fun i v hv=>by
         obtain⟨y,F,a2⟩:=a6.get hv;refine⟨y,?_,a2⟩;rw[List.getElem?_toArray];dsimp only;have ac:cc.toList.length=l.sh+l.cells:=by rw[Array.length_toList,a1]
         have ar:i<(olds++xs).length:=(gA.1 F).1;rw[lA_,h1,A] at ar
         by_cases b3:i<len*j.size
         ·rw[gL_ (by rw[h1];exact b3)] at F;have:=h3 i y F;rw[Addr.add_eq _ _ Z,cell?_of_heap a8] at this;rw[lQ_,gL_ (by rw[lT_,ac];omega),List.getElem?_take,if_pos B,aT_];exact this
         rw[gR_ (by rw[h1];omega),h1] at F;rw[lQ_,gR_ (by rw[lT_,ac];omega),lT_,ac];rw[gL_ (by rw[A];omega),<-F];congr 1;omega,fun _ jj be=>a9 Z jj (by simp only at be;omega)⟩
        bv bw b0 b1 b2
       refine⟨.slice (some ⟨l.dE,l.sh+off,none⟩) (len+n) c,w',_,?_,?_,inv.1,inv.2⟩
       ·rw[hr,r];rfl
       simp only[H,D.drop];refine⟨_,dh.cZ _ _ _,.inl ⟨c,by simp,g,?_⟩⟩;simp only;omega
      exact anew _ c hy B (.inl Z)
     exact anew a 0 (by rw[hy,Q]) B (.inr Q)
    cases h
   cases h
  cases h
 cases h
theorem oh {ts:Array TypeId} {t r ty e:TypeId} {k:IntKind} {j:TypeInfo} {z:Value} (u:ts[0]?=some t) (hu:P.underlying t=some (.slice e)) (s:P.info? e=some j) (hzero:j.zero=some z) (i:ts[1]?=some r) (v:P.underlying r=some (.int k))
  {base:Option Addr} {sLen sCap n:Nat} {olds:List Value}
  (hold:(Builtin.firstCells j.size sLen (.slice base sLen sCap)).run P w.drew= .ok olds.toArray w.drew) (a:sCap<sLen+n) (l:sLen+n<=4194304) (b:n<=1048576) (m:1<=n) (c:j.bytes<=65536) (d:1<=j.size):
  ∃cap,sLen+n<=cap/\(Builtin.append_ ts ty #[.slice base sLen sCap,.int .i64<|Int.ofNat n]).run P w=
   .ok (.slice (some ⟨w.heap.size,0,none⟩) (sLen+n) cap) (w.drew.alloc (.cells (olds.toArray++(Builtin.zeroCells z.cells n).toList.toArray++Builtin.zeroCells z.cells (cap-(sLen+n))) e)):=by
 refine⟨grownCap w (sLen+n) sCap e,grownCap_ge _ _ _ _,?_⟩
 have aa:Builtin.nextslicecap (sLen+n) sCap*j.bytes<=281474976710656:=growslice_fits a (by
  have:(sLen+n)*j.bytes<=4194304*65536:=Nat.mul_le_mul l c;omega)
 have x:¬(sLen+n<=sCap):=by omega
 have f:IntKind.i64.max=9223372036854775807:=by decide
 have y:¬(9223372036854775807<((sLen:Int)+(n:Int))):=by omega
 have o:¬(281474976710656<Builtin.nextslicecap (sLen+n) sCap*j.bytes):=by omega
 have hw:IntKind.i64.wrap (n:Int)=(n:Int):=uZ .i64 (Int.ofNat n) (by simp only[MY,nE_];omega);have g:¬((n:Int)<0):=by omega
 have h:¬(281474976710656<(n:Int)*(j.bytes:Int)):=by
  have:n*j.bytes<=1048576*65536:=Nat.mul_le_mul b c;have A:((n*j.bytes:Nat):Int)<=((1048576*65536:Nat):Int):=Int.ofNat_le.2 this;rw[Int.natCast_mul] at A;omega
 have p:¬(n*j.size=0):=by
  have:1*1<=n*j.size:=Nat.mul_le_mul m d;omega
 have q:¬(n=0∨j.size=0):=by omega
 rw[Array.append_assoc];simp[Builtin.append_,u,i,run_underlying hu,run_underlying v,cw s,typeInfo,s,asInt,asIntOf,hw,g,h,x,f,y,o,hold,p,q,zeroValue,hzero,newRow,Question.forced,grownCap]
theorem xY (M:Inv S U w) {ts:Array TypeId} {ty:TypeId} {s x v:V} {ys yx:Value} {U':D} (h:oD P U ts s x= .val v U') (G:H S s ys) (W:H S x yx):
  ∃z w' S',(Builtin.append_ ts ty #[ys,yx]).run P w= .ok z w'/\H S' v z/\Inv S' U' w'/\eY S U w S' U' w':=by
 unfold oD at h;split at h
 case h_2=>cases h
 rename_i t t2 X q;split at h
 case h_2=>cases h
 rename_i e k hu Z;split at h
 case h_2=>cases h
 rename_i j zs n Q R;rw[bA] at h;split at h
 case isFalse=>cases h
 rename_i K;simp only[bA_,nE_,Nat.beq_eq,bK] at K;obtain⟨g,r,m,u,p⟩:=K;obtain⟨i,zv,y,hzero,A⟩:=gp R;rw[Q] at y;cases y;have o:zv.cells.size=zs.length:=by have:=(A S).length;simpa using this
 have hts:=ki (A S) n
 have f:(Builtin.zeroCells zv.cells n).toList=(List.replicate n zv.cells.toList).flatten:=by
  have:=vw zv.cells n B;unfold Builtin.zeroCells;rw[this]
 rw[<-f] at hts;have C:(fp zs n).length=n*j.size:=by rw[nO,p]
 simp only[H] at W;subst W;split at h
 ·simp only[H] at G;subst G;unfold grow at h;cases h;obtain⟨cap,d,L⟩:=oh (w:=w) (ty:=ty) (base:=none) (sLen:=0) (sCap:=0) (olds:=[]) X hu Q hzero q Z (by simp[Builtin.firstCells]) B B g r u m;rw[nA_] at d L;obtain⟨inv,st,E⟩:=mH (e:=e) M (olds:=[]) (news:=(Builtin.zeroCells zv.cells n).toList) (by simpa using hts) C d (o.trans p);exact⟨_,_,_,L,E,inv,st⟩
 ·rename_i b off len c;simp only[H] at G;obtain⟨l,hl,rfl⟩:=G;rw[bA] at h;split at h
  ·cases h
  rename_i F;rw[nE_] at F;split at h
  ·rename_i cells e' ro K;rw[bA] at h;split at h
   ·rename_i a;simp only[bA_,nE_,bK] at a;obtain⟨a,aa⟩:=a;unfold grow at h;cases h;obtain⟨ys,h1,h2,h3⟩:=M.piece K hl off (len*j.size) a
    have hold:(Builtin.firstCells j.size len (.slice (some ⟨l.dE,l.sh+off,none⟩) len c)).run P w.drew= .ok ys.toArray w.drew:=
     run_firstCells_some w.drew j.size len _ len c ys h1 (fun i v E=>by simpa using h3 i v E)
    obtain⟨cap,d,L⟩:=oh (w:=w) (ty:=ty) X hu Q hzero q Z hold B B g r u m
    obtain⟨inv,st,E⟩:=mH (e:=e) M (olds:=ys) (news:=(Builtin.zeroCells zv.cells n).toList) (len:=len+n) (cs:=ie (takeN (dS cells off) (len*j.size))<|fp zs n)
     (by rw[dV,du,dO];exact h2.append hts) (by rw[dV,du,dO,lA_,lT_,lD_,C,Nat.add_mul];omega) d (o.trans p)
    exact⟨_,_,_,L,E,inv,st⟩
   cases h
  cases h
 cases h
end
section
variable {P:Program} {S:dh} {U:D} {w:World}
theorem Dp (C:Inv S U w) {ts:Array TypeId} {ty:TypeId} {s x v:V} {ys yx:Value} {U':D} (h:rE P U ts s x= .val v U') (o:H S s ys) (L:H S x yx):
  ∃z w' S',(Builtin.copy_ ts ty #[ys,yx]).run P w= .ok z w'/\H S' v z/\Inv S' U' w'/\eY S U w S' U' w':=by
 unfold rE at h;cases E:ts[0]? with
 | none=>rw[E] at h;cases h
 | some t=>
 rw[E] at h;dsimp only at h;split at h
 case h_2=>cases h
 rename_i e hu;cases F:P.info? e with
 | none=>rw[F] at h;cases h
 | some j=>
 rw[F] at h;dsimp only at h;split at h
 ·rename_i n news b off len cap i;obtain⟨d,u,g⟩:=pg (P:=P) C i L;obtain⟨xs,p,f⟩:=g (Nat.min n len) (Nat.min_le_left _ _);simp only[bA] at h;split at h
  ·rename_i y;rw[Nat.beq_eq] at y;cases h;rw[y,Nat.zero_mul] at p;rw[y] at f;have G:xs= []:=by have:=p.length;simpa using this
   subst G;obtain⟨a,c,rfl⟩:=H.jI o;have hr:=f w Z;refine⟨.int .i64 0,w,S,?_,by simp only[H],C,eY.refl _ _ _⟩;simp[Builtin.copy_,E,run_underlying hu,d,cw F,y,hr,goInt,storeCells]
  rename_i y;rw[Nat.beq_eq] at y;split at h
  ·rename_i cells e' Q;split at h
   ·rename_i M;simp only[bA_,nE_,bK] at M;obtain⟨⟨k,aa⟩,m⟩:=M;cases h;rw[du] at m k
    have go:∀(l:Loc) (c:Nat),S b=some l->ys= .slice (some ⟨l.dE,l.sh+off,none⟩) len c->
      ∃z w' S',(Builtin.copy_ ts ty #[ys,yx]).run P w= .ok z w'/\H S' (.int .i64<|Int.ofNat<|Nat.min n len) z/\
       Inv S' (U.setObj b (.row (dG (takeN news (Nat.min n len*j.size)) cells off) e' false)) w'/\eY S U w S' (U.setObj b (.row (dG (takeN news (Nat.min n len*j.size)) cells off) e' false)) w':=by
     intro l c A q;rw[du];obtain⟨w',r,inv,st⟩:=jb (P:=P) C A Q p k (off:=off) m;refine⟨.int .i64<|Int.ofNat<|Nat.min n len,w',S,?_,by simp only[H],inv,st⟩;subst q;have hr:=f w Z;simp[Builtin.copy_,E,run_underlying hu,d,cw F,hr,r,goInt]
    cases cap with
    | known c=>
     simp only[H] at o;obtain⟨l,A,q⟩:=o;exact go l c A q
    | least a sz=>
     simp only[H] at o;obtain⟨l,A,c,q,_⟩:=o;exact go l c A q
    | upto sz=>
     simp only[H] at o;obtain⟨l,A,⟨c,q,_⟩ | ⟨K,a,q⟩⟩:=o
     ·exact go l c A q
     subst K;exact absurd (Nat.min_zero n) y
   cases h
  cases h
 ·rename_i n news i;cases h;obtain⟨d,u,g⟩:=pg (P:=P) C i L;obtain⟨xs,p,f⟩:=g 0 (Nat.zero_le _);simp only[H] at o;subst o;refine⟨.int .i64 0,w,S,?_,by simp only[H],C,eY.refl _ _ _⟩;have hr:=f w Z;simp[Builtin.copy_,E,run_underlying hu,d,cw F,hr,goInt]
 cases h
theorem Bs (v:Inv S U w) {ts:Array TypeId} {ty:TypeId} {x:V} {ys:Value} {U':D} (h:zJ P U ts x=some U') (f:H S x ys):
  ∃w',(Builtin.clear_ ts ty #[ys]).run P w= .ok (.tuple #[]) w'/\Inv S U' w'/\eY S U w S U' w':=by
 unfold zJ at h;cases q:ts[0]? with
 | none=>rw[q] at h;cases h
 | some t=>
 rw[q] at h;dsimp only at h;cases hu:P.underlying t with
 | none=>rw[hu] at h;cases h
 | some d=>
 rw[hu] at h;cases d with
 | slice e=>
  dsimp only at h;cases x with
  | ax=>
   cases h;simp only[H] at f;subst f;exact⟨w,by simp[Builtin.clear_,q,run_underlying hu],v,eY.refl _ _ _⟩
  | slice b off len cap=>
   dsimp only at h;rw[bA] at h;split at h
   ·rename_i s;have:=nB s;subst this;cases h;obtain⟨a,c,rfl⟩:=H.jI f;exact⟨w,by simp[Builtin.clear_,q,run_underlying hu],v,eY.refl _ _ _⟩
   rename_i s;rw[Nat.beq_eq] at s;cases y:(fB P e).bind cS with
   | none=>rw[y] at h;cases h
   | some zs=>
   rw[y] at h;cases z:U.m.get b with
   | none=>rw[z] at h;cases h
   | some o=>
   rw[z] at h;cases o with
   | row cells e' ro=>
    cases ro with
    | true=>cases h
    | false=>
     dsimp only at h;rw[bA] at h;split at h
     ·rename_i C;simp only[bA_,nE_,bK] at C;obtain⟨⟨j,aa⟩,k⟩:=C;cases h;obtain⟨i,zv,A,hzero,u⟩:=gp y;have hts:=ki (u S) len;have ab:zv.cells.size=zs.length:=by have:=(u S).length;simpa using this
      have g:(Builtin.zeroCells zv.cells len).toList=(List.replicate len zv.cells.toList).flatten:=by
       have:=vw zv.cells len B;unfold Builtin.zeroCells;rw[this]
      have go:∀(l:Loc) (c:Nat),S b=some l->ys= .slice (some ⟨l.dE,l.sh+off,none⟩) len c->
        ∃w',(Builtin.clear_ ts ty #[ys]).run P w= .ok (.tuple #[]) w'/\Inv S (U.setObj b (.row (dG (fp zs len) cells off) e' false)) w'/\eY S U w S (U.setObj b (.row (dG (fp zs len) cells off) e' false)) w':=by
       intro l c p E;subst E;obtain⟨w',r,inv,st⟩:=jb (P:=P) v p z hts j k;refine⟨w',?_,inv,st⟩;cases len with
       | zero=>exact absurd Z s
       | succ n=>simp[Builtin.clear_,q,run_underlying hu,zeroValue,typeInfo,A,hzero,g,r]
      cases cap with
      | known c=>
       simp only[H] at f;obtain⟨l,p,rfl⟩:=f;exact go l c p Z
      | upto sz=>
       simp only[H] at f;obtain⟨l,p,⟨c,rfl,_⟩ | ⟨h',_⟩⟩:=f
       ·exact go l c p Z
       exact absurd h' s
      | least a sz=>
       simp only[H] at f;obtain⟨l,p,c,rfl,_⟩:=f;exact go l c p Z
     cases h
   | _=>cases h
  | _=>cases h
 | _=>cases h
theorem DP {g:Nat} {args:Array Value} (h:zV P g=true):(callFunc g args).run P w= .ok (.enter g args) w:=by
 unfold zV at h;cases a:P.funcs[g]? with
 | none=>rw[a] at h;cases h
 | some fn=>
  rw[a] at h;simp only[bA_,Bool.not_eq_true'] at h;obtain⟨h1,f⟩:=h;have d:fn.body.isNone=false:=by cases hb:fn.body<;>simp_all
  have b:¬fn.name= "runtime.NumGoroutine" :=by simpa using f
  have c:¬fn.body=none:=by intro e;rw[e] at d;cases d
  simp[callFunc,a,b,c]
inductive xW (P:Program) (S:dh) (U:D) (w:World):HR->Result Next->Prop
 | val {v:V} {U':D} {x:Value} {w':World} {S':dh} (hv:H S' v x) (hi:Inv S' U' w') (st:eY S U w S' U' w'):xW P S U w (.val v U') (.ok (.value x) w')
 | skip {U':D} {w':World} {S':dh} (hi:Inv S' U' w') (st:eY S U w S' U' w'):xW P S U w (.skip U') (.ok .skip w')
 | enter {f:Nat} {args:List V} {xs:Array Value} (hv:dp S args xs.toList):xW P S U w (.enter f args U) (.ok (.enter f xs) w)
 | round {l:Pos} {args:List V} {xs:Array Value} {loc:Loc} {r:Result Next} (hv:dp S args xs.toList) (hl:S l=some loc) (hr:r=(Instr.yield loc.dE xs).run P w):xW P S U w (.round l args U) r
 | mO {v:V} {x:Value} (hv:H S v x):xW P S U w (.mO v U) (.halt (.panic x) w)
def O4 (P:Program) (g:Nat):Prop:=∃(fn:Func) (ts tr e:TypeId) (j:TypeInfo),P.funcs[g]?=some fn∧(fn.name == "runtime.NumGoroutine")=false∧fn.body.isNone=true∧Extern.findNext fn=none∧
 Extern.find fn=some (Extern.SlicesOverlaps.overlaps #[ts,ts] #[tr])/\P.underlying ts=some (.slice e)/\P.info? e=some j
def Qb (P:Program) (g:Nat):Prop:=∃(fn:Func),P.funcs[g]?=some fn∧(fn.name == "runtime.NumGoroutine")=false∧fn.body.isNone=true∧Extern.findNext fn=none∧Extern.find fn=some Extern.AbiNoEscape.same
def rR (P:Program) (g:Nat):Prop:=(isNe P g=false/\O4 P g)∨(isNe P g=true/\Qb P g)
theorem pe (p:Pos):kg p p=true:=Nat.beq_refl p
theorem H.uV {b:Pos} {off len:Nat} {cap:pH} {x:Value} (e:lk cap=true) (h:H S (.slice b off len cap) x):∃l c,S b=some l/\x= .slice (some ⟨l.dE,l.sh+off,none⟩) len c:=by
 cases cap with
 | upto sz=>simp[lk] at e
 | known c=>simp only[H] at h;obtain⟨l,d,rfl⟩:=h;exact⟨l,c,d,Z⟩
 | least a sz=>simp only[H] at h;obtain⟨l,d,c,rfl,_⟩:=h;exact⟨l,c,d,Z⟩
theorem w4 (p:Inv S U w) {g:Nat} {args:List V} {xs:Array Value} {v:V} (E:O4 P g) (h:oc U args=some v) (F:dp S args xs.toList):∃x,(callFunc g xs).run P w= .ok (.value x) w/\H S v x:=by
 obtain⟨fn,ts,tr,e,j,g1,G,K,L,M,Q,R⟩:=E;unfold oc at h;split at h
 ·rename_i b off n cap b' off' n' cap';split at h
  ·rename_i cells W cells' X z a;cases o:((bif kg b b' then false else true) && (lk cap && (lk cap' && Nat.ble 1 (cX cells')))) with
   | false=>rw[o] at h;cases h
   | true=>
    rw[o] at h;simp only[cond_true,oJ_] at h;subst h;simp only[bA_,nE_,bK] at o;obtain⟨d,q,s,hlen⟩:=o;have f:b≠b':=fun e=>by subst e;rw[pe] at d;simp at d
    obtain⟨x1,r,e',h1,h2⟩:=F.cons_inv;obtain⟨x2,r',rfl,h3,h4⟩:=h2.cons_inv;have:=h4.eQ;subst this;obtain⟨l,c,A,rfl⟩:=H.uV q h1;obtain⟨l',c',i,rfl⟩:=H.uV s h3;have t:xs= #[.slice (some ⟨l.dE,l.sh+off,none⟩) n c,.slice (some ⟨l'.dE,l'.sh+off',none⟩) n' c']:=by rw[<-Array.toList_inj];exact e'
    obtain⟨k,fr,u,k2,k3,k4,C⟩:=p.row z A;obtain⟨k',fr',y,aa,ab,ac,ag⟩:=p.row a i
    have m:l.dE≠l'.dE:=fun e=>by
     have:=(p.inj b b' _ _ l l' z a A i e f).1;cases this
    refine⟨.bool false,?_,by simp only[H]⟩;rw[run_callFunc_extern g1 G K L M,t]
    rw[Lib.run_overlaps_apart w ts tr e Q j.size (fun w=>cw R) ⟨l.dE,l.sh+off,none⟩ ⟨l'.dE,l'.sh+off',none⟩ n c n' c' m W X k.size k'.size
     (by simp[World.shape?,u]) (by simp[World.shape?,y]) B (frozen?_of_heap u _<|C Z _ B) (frozen?_of_heap u _<|C Z _ B)]
    rfl
  cases h
 cases h
theorem HN {ov:Nat->Bool} (o:∀g,ov g=true->rR P g) (u:Inv S U w) {g:V} {args:List V} {y:Value} {xs:Array Value} {r:HR} (h:yA P ov U g args=r) (a:∀n,r≠ .err n) (j:H S g y) (q:dp S args xs.toList):
  xW P S U w r ((do let d <-Deferred.ofValue y xs;invoke d.target d.args:Sem Next).run P w):=by
 subst h;unfold yA at a⊢;cases g with
 | func f fi ca=>
  dsimp only at a⊢;cases m:zV P f with
  | false=>
   rw[m] at a;simp only[cond_false] at a⊢;cases s:ov f with
   | false=>rw[s] at a;exact absurd Z<|a 50
   | true=>
    rw[s] at a;simp only[cond_true] at a⊢;cases t:isNe P f with
    | true=>
     rw[t] at a;simp only[cond_true] at a⊢;simp only[H] at j;obtain⟨fi',ca',rfl,b,c⟩:=j;have k:dp S (ie fi<|ie args ca) (fi'++xs++ca').toList:=by rw[dV,dV];simpa using b.append (q.append c)
     generalize ie fi (ie args ca)=l at a k⊢;cases l with
     | nil=>exact absurd Z (a 53)
     | cons v r=>
      cases r with
      | cons _ _=>exact absurd Z (a 53)
      | nil=>
       dsimp only;obtain⟨x,r',e,E,F⟩:=k.cons_inv;have:=F.eQ;subst this;have z:fi'++xs++ca'= #[x]:=by rw[<-Array.toList_inj];exact e
       rcases o f s with ⟨h',_⟩ | ⟨_,fn,g1,G,K,L,M⟩
       ·rw[t] at h';cases h'
       have i:(callFunc f (fi'++xs++ca')).run P w= .ok (.value x) w:=by
        rw[run_callFunc_extern g1 G K L M,z,Lib.run_noEscape];rfl
       have:(do let d <-Deferred.ofValue (.func (.func f) fi' ca') xs;invoke d.target d.args:Sem Next).run P w= .ok (.value x) w:=by
        simp only[Array.append_assoc] at i;simp[Deferred.ofValue,invoke,i]
       rw[this];exact .val E u<|eY.refl S U w
    | false=>
    rw[t] at a;simp only[cond_false] at a⊢
    have p:O4 P f:=by
     rcases o f s with ⟨_,h'⟩ | ⟨h',_⟩
     ·exact h'
     rw[t] at h';cases h'
    cases C:oc U (ie fi<|ie args ca) with
    | none=>rw[C] at a;exact absurd Z<|a 52
    | some v=>
     simp only[H] at j;obtain⟨fi',ca',rfl,b,c⟩:=j;obtain⟨x,i,A⟩:=w4 (xs:=fi'++xs++ca') u p C (by rw[dV,dV];simpa using b.append (q.append c))
     have:(do let d <-Deferred.ofValue (.func (.func f) fi' ca') xs;invoke d.target d.args:Sem Next).run P w= .ok (.value x) w:=by
      simp only[Array.append_assoc] at i;simp[Deferred.ofValue,invoke,i]
     rw[this];exact .val A u<|eY.refl S U w
  | true=>
   rw[m] at a;simp only[H] at j;obtain⟨fi',ca',rfl,b,c⟩:=j;simp only[cond_true]
   have:(do let d <-Deferred.ofValue (.func (.func f) fi' ca') xs;invoke d.target d.args:Sem Next).run P w= .ok (.enter f (fi'++xs++ca')) w:=by
    simp[Deferred.ofValue,invoke,DP m]
   rw[this,dV,dV];exact .enter (by simpa using b.append (q.append c))
 | yield l=>
  dsimp only at a⊢;simp only[H] at j;obtain⟨loc,Q,rfl⟩:=j;exact .round q Q (by simp[Deferred.ofValue,invoke])
 | _=>exact absurd Z (a 51)
end
section
variable {P:Program} {S:dh} {U:D} {w:World}
def mP:TypeDesc->Bool
 | .int _ | .string | .bool=>true
 | _=>false
def F5 (P:Program) (u:TypeId):Prop:=(∃d,P.underlying u=some d/\mP d=true)∨(∃gs,P.underlying u=some (.struct gs)/\∀g∈gs.toList,∃d,P.underlying g.type=some d/\mP d=true)∨∃m e,P.underlying u=some (.array m e)/\sd P e=true
theorem qi {t:TypeId} (h:plainKey P t=true):(∃d,P.underlying t=some d/\mP d=true)∨∃fs,P.underlying t=some (.struct fs)/\∀f∈fs.toList,F5 P f.type:=by
 unfold plainKey at h;split at h
 ·rename_i k hu;exact .inl ⟨_,hu,Z⟩
 ·rename_i hu;exact .inl ⟨_,hu,Z⟩
 ·rename_i hu;exact .inl ⟨_,hu,Z⟩
 ·rename_i fs hu;refine .inr ⟨fs,hu,fun f c=>?_⟩;rw[aE_] at h;have:=h f c;split at this
  ·rename_i k a;exact .inl ⟨_,a,Z⟩
  ·rename_i a;exact .inl ⟨_,a,Z⟩
  ·rename_i a;exact .inl ⟨_,a,Z⟩
  ·rename_i gs a;refine .inr (.inl ⟨gs,a,fun g i=>?_⟩);rw[aE_] at this;have:=this g i;split at this
   ·rename_i k b;exact⟨_,b,Z⟩
   ·rename_i b;exact⟨_,b,Z⟩
   ·rename_i b;exact⟨_,b,Z⟩
   cases this
  ·rename_i m e a;exact .inr (.inr ⟨m,e,a,this⟩)
  cases this
 cases h
theorem jU {t:TypeId} {d:TypeDesc} (hu:P.underlying t=some d) (b:mP d=true) (em:Bool) (n:Nat) (a:Value):(Instr.checkKey em (n+1) t a).run P w= .ok () w:=by
 simp only[Instr.checkKey,sB_,run_underlying hu,rA];cases d<;>first | (simp[mP] at b;done) | rfl
theorem rD {t:TypeId} {fs:Array Field} {ys:Array Value} (hu:P.underlying t=some (.struct fs)) (em:Bool) (n:Nat)
  (h:∀f∈fs.toList,∃y,(part f.type ys f.offset).run P w= .ok y w/\(Instr.checkKey em (n+1) f.type y).run P w= .ok () w):(Instr.checkKey em (n+1+1) t (.agg ys)).run P w= .ok () w:=by
 rw[Instr.checkKey];simp only[sB_,run_underlying hu,rA];rw[<-Array.forIn_toList];clear hu;generalize fs.toList=l at*;induction l with
 | nil=>simp
 | cons f l ih=>
  obtain⟨y,a,b⟩:=h f (by simp);have ih':=ih (fun g c=>h g (by simp[c]));simp only[List.forIn_cons,sB_,Sem.run_ite];split
  ·simp only[a,rA,b,sP_];exact ih'
  simp only[sP_,rA];exact ih'
theorem x6 {t e:TypeId} {m:Nat} {cs:Array Value} {i:TypeInfo} {k:IntKind} (hu:P.underlying t=some (.array m e)) (he:P.underlying e=some (.int k)) (a:P.info? e=some i) (b:i.size=1) (hl:m<=cs.size) (em:Bool) (n:Nat):
  (Instr.checkKey em (n+1+1) t (.agg cs)).run P w= .ok () w:=by
 rw[Instr.checkKey];simp only[sB_,run_underlying hu,rA];simp only[Std.Legacy.Range.forIn_eq_forIn_range',Std.Legacy.Range.size,Nat.sub_zero,Nat.add_one_sub_one,Nat.div_one]
 have key:∀(l:Nat) (s:Nat),s+l<=cs.size->(forIn (List.range' s l) PUnit.unit fun i (_:PUnit)=>(do
   let z <-sizeOf e
   let v <-part e cs (i*z)
   Instr.checkKey em (n+1) e v
   pure (ForInStep.yield PUnit.unit):Sem (ForInStep PUnit))).run P w= .ok PUnit.unit w:=by
  intro l;induction l with
  | zero=>intro s _;simp
  | succ l ih=>
   intro s aa;have c:cs[s]?=some cs[s]:=aG_ B
   have p:(part e cs (s*1)).run P w= .ok cs[s] w:=by
    rw[Nat.mul_one];simp only[part,sB_,ff he,A0,rA,Bool.false_eq_true,if_false,c,sP_]
   simp only[List.range'_succ,List.forIn_cons,sB_,cw a,b,p,rA,jU he Z,sP_];exact ih (s+1) B
 have:=key m 0 B;simp at this⊢;simp[this]
theorem pC {u:TypeId} {d:TypeDesc} (hu:P.underlying u=some d) (f:mP d=true) {xs:List V} {ys:Array Value} (a:dp S xs ys.toList) {off:Nat} (g:(nth xs off).isSome=true):∃y,(part u ys off).run P w= .ok y w:=by
 obtain⟨v,e⟩:=Option.isSome_iff_exists.1 g;rw[eF] at e;obtain⟨y,h,_⟩:=a.get e;have b:ys[off]?=some y:=by rw[<-aT_];exact h
 have c:A0 d=false:=by cases d<;>first | rfl | (simp[mP] at f)
 exact⟨y,by simp only[part,sB_,ff hu,c,rA,Bool.false_eq_true,if_false,b,sP_]⟩
theorem my {t:TypeId} {k:V} {a:Value} (G:plainKey P t=true) (p:mI P t k=true) (C:H S k a) (em:Bool):(Instr.checkKey em 10000 t a).run P w= .ok () w:=by
 rcases qi G with ⟨d,hu,K⟩ | ⟨fs,hu,s⟩
 ·exact jU hu K em 9999 a
 unfold mI at p;rw[hu] at p;cases k<;>(try (simp at p;done));rename_i xs;dsimp only at p;simp only[H] at C;obtain⟨ys,rfl,j⟩:=C;refine rD hu em 9998 fun f E=>?_
 rw[aE_] at p;have hsf:=p f E;rcases s f E with ⟨d,b,l⟩ | ⟨gs,b,u⟩ | ⟨m,e,b,x⟩
 ·have:(nth xs f.offset).isSome=true:=by
   rw[b] at hsf;cases d<;>first | exact hsf | (simp[mP] at l)
  obtain⟨y,z⟩:=pC (P:=P) (w:=w) b l j this;exact⟨y,z,jU b l em 9998 y⟩
 ·rw[b] at hsf;dsimp only at hsf;split at hsf
  ·rename_i n o;obtain⟨c,r,v⟩:=ik (P:=P) (w:=w) o j (off:=f.offset);refine⟨.agg c,r,rD b em 9997 fun g F=>?_⟩;rw[aE_] at hsf;obtain⟨d,h,i⟩:=u g F;obtain⟨y,z⟩:=pC (P:=P) (w:=w) h i v (hsf g F);exact⟨y,z,jU h i em 9997 y⟩
  cases hsf
 rw[b] at hsf;dsimp only at hsf;split at hsf
 ·rename_i n o;rw[bA_,Nat.beq_eq,Nat.beq_eq,bK] at hsf;obtain⟨k,inf,he,q,A⟩:=wN x;obtain⟨c,r,v⟩:=ik (P:=P) (w:=w) o j (off:=f.offset);have hcl:=v.length;exact⟨.agg c,r,x6 b he q A (by rw[hsf.2] at hcl;have:c.toList.length=c.size:=rfl;omega) em 9997⟩
 cases hsf
theorem GN {t:TypeId} {d:TypeDesc} (hu:P.underlying t=some d) (u:mP d=true) {x y:V} {a c:Value} {b:Bool} (h:py P t x y=some b) (f:H S x a) (g:H S y c):Instr.sameNow d a c=some b:=by
 unfold py at h;rw[hu] at h;split at h
 ·rename_i i l o q j m k n e;cases e;cases r:r9 j k with
  | false=>rw[r] at h;cases h
  | true=>
   rw[r] at h;have:=pR r;subst this;simp only[H] at f g;subst f;subst g;simp only[cond_true,oJ_] at h;rw[<-h,dF];simp only[Instr.sameNow,if_true,oJ_]
   by_cases e:m=n<;>simp[e]
 ·rename_i i l o s s' e;cases e;simp only[H] at f g;obtain⟨p,rfl,v⟩:=f;obtain⟨q,rfl,z⟩:=g;cases h;simp only[Instr.sameNow,oJ_];rw[ou v z,beq_toListBytes]
 ·rename_i i l o s s' e;cases e;simp only[H] at f g;subst f;subst g;cases h;simp only[Instr.sameNow,oJ_,mz]
 ·rename_i i l o fs xs ys e;cases e;simp[mP] at u
 cases h
theorem DU {t:TypeId} {fs:Array Field} (hu:P.underlying t=some (.struct fs)) {x y:V} {a c:Value} {b:Bool} (h:py P t x y=some b) (d:H S x a) (f:H S y c):(Op.equal t a c).run P w= .ok b w:=by
 unfold py at h;rw[hu] at h;split at h
 ·rename_i e;cases e
 ·rename_i e;cases e
 ·rename_i e;cases e
 ·exact(pS (P:=P) (w:=w) h d f .eql (.const .nilFunc) (.const .nilFunc)).2
 cases h
def C3 (S:dh):Option (Nat×V)->Option (Nat×Value)->Prop
 | none,none=>True
 | some (i,v),some (j,y)=>i=j/\H S v y
 | _,_=>False
theorem rH {t:TypeId} {d:TypeDesc} (hu:P.underlying t=some d) (f:mP d=true) {k:V} {a:Value} (g:H S k a):∀(es:List fC) (ys:List MapEntry) (i:Nat) (r:Option (Nat×V)),jM S es ys->pr P t k es i=some r->
  ∃r',Instr.findNow d a ys i=some r'/\C3 S r r'
 | [],ys,i,r,he,h=>by
  have:ys= []:=he;subst this;have h':some none=some r:=h;cases h';exact⟨none,Z,trivial⟩
 | e::es,ys,i,r,he,h=>by
  obtain⟨y,rest,rfl,j,l,h3,m⟩:=he
  have h':(match py P t k e.key with
   | some true=>some (some (i,e.val))
   | some false=>pr P t k es (Nat.succ i)
   | none=>none)=some r:=h
  cases c:py P t k e.key with
  | none=>rw[c] at h';cases h'
  | some b=>
   rw[c] at h';have hs:=GN hu f c g j;cases b with
   | true=>cases h';exact⟨some (i,y.val),by simp[Instr.findNow,hs],Z,l⟩
   | false=>
    obtain⟨r',g1,n⟩:=rH hu f g es rest (i+1) r m h';exact⟨r',by simp[Instr.findNow,hs,g1],n⟩
theorem rG {t:TypeId} {fs:Array Field} (hu:P.underlying t=some (.struct fs)) {k:V} {a:Value} (d:H S k a):∀(es:List fC) (ys:List MapEntry) (i:Nat) (r:Option (Nat×V)),jM S es ys->pr P t k es i=some r->
  ∃r',(Instr.findAsking t a ys i).run P w= .ok r' w/\C3 S r r'
 | [],ys,i,r,he,h=>by
  have:ys= []:=he;subst this;have h':some none=some r:=h;cases h';exact⟨none,Z,trivial⟩
 | e::es,ys,i,r,he,h=>by
  obtain⟨y,rest,rfl,f,g,h3,j⟩:=he
  have h':(match py P t k e.key with
   | some true=>some (some (i,e.val))
   | some false=>pr P t k es (Nat.succ i)
   | none=>none)=some r:=h
  cases c:py P t k e.key with
  | none=>rw[c] at h';cases h'
  | some b=>
   rw[c] at h';have hs:=DU (w:=w) hu c d f;cases b with
   | true=>cases h';exact⟨some (i,y.val),by simp[Instr.findAsking,hs],Z,g⟩
   | false=>
    obtain⟨r',g1,l⟩:=rG hu d es rest (i+1) r j h';exact⟨r',by simp[Instr.findAsking,hs,g1],l⟩
theorem mC {t:TypeId} (i:plainKey P t=true) {k:V} {a:Value} (f:H S k a) {es:List fC} {ys:List MapEntry} {r:Option (Nat×V)} (he:jM S es ys) (h:pr P t k es 0=some r):
  ∃r',(Instr.findKey t a ys).run P w= .ok r' w/\C3 S r r':=by
 rcases qi i with ⟨d,hu,j⟩ | ⟨fs,hu,aa⟩
 ·obtain⟨r',b,c⟩:=rH hu j f es ys 0 r he h;exact⟨r',by simp[Instr.findKey,run_underlying hu,b],c⟩
 cases g:Instr.findNow (.struct fs) a ys 0 with
 | none=>
  obtain⟨r',b,c⟩:=rG (w:=w) hu f es ys 0 r he h;exact⟨r',by simp[Instr.findKey,run_underlying hu,g,b],c⟩
 | some r0=>
  cases es with
  | nil=>
   have:ys= []:=he;subst this;have h':some none=some r:=h;cases h';exact⟨none,by simp[Instr.findKey,run_underlying hu,Instr.findNow],trivial⟩
  | cons e es=>
   obtain⟨y,rest,rfl,b,_⟩:=he;have:Instr.sameNow (.struct fs) a y.key=none:=by simp[Instr.sameNow]
   simp[Instr.findNow,this] at g
theorem jM.length:∀{es:List fC} {ys:List MapEntry},jM S es ys->ys.length=es.length
 | [],ys,h=>by have:ys= []:=h;rw[this];rfl
 | e::es,ys,h=>by obtain⟨y,r,rfl,_,_,_,a⟩:=h;simp[a.length]
theorem jM.get:∀{es:List fC} {ys:List MapEntry},jM S es ys->∀{i:Nat} {e:fC},es[i]?=some e->∃y,ys[i]?=some y/\H S e.key y.key/\H S e.val y.val/\y.born=e.born
 | [],ys,h,i,e,he=>by simp at he
 | e::es,ys,h,0,e',he=>by
  obtain⟨y,r,rfl,a,b,c,d⟩:=h;simp at he;subst he;exact⟨y,Z,a,b,c⟩
 | e::es,ys,h,i+1,e',he=>by
  obtain⟨y,r,rfl,a,b,c,d⟩:=h;simp at he;simpa using d.get he
theorem jM.append:∀{es fs:List fC} {ys zs:List MapEntry},jM S es ys->jM S fs zs->jM S (es++fs) (ys++zs)
 | [],fs,ys,zs,h,h'=>by have:ys= []:=h;subst this;exact h'
 | e::es,fs,ys,zs,h,h'=>by
  obtain⟨y,r,rfl,a,b,c,d⟩:=h;exact⟨y,r++zs,Z,a,b,c,d.append h'⟩
theorem jM.set:∀{es:List fC} {ys:List MapEntry},jM S es ys->∀(i:Nat) {e:fC} {y:MapEntry},H S e.key y.key->H S e.val y.val->y.born=e.born->jM S (es.set i e) (ys.set i y)
 | [],ys,h,i,_,_,_,_,_=>by have:ys= []:=h;subst this;simp[jM]
 | e::es,ys,h,0,_,_,a,k2,b=>by
  obtain⟨y,r,rfl,d,f,g,c⟩:=h;exact⟨_,r,Z,a,k2,b,c⟩
 | e::es,ys,h,i+1,_,_,a,k2,b=>by
  obtain⟨y,r,rfl,d,f,g,c⟩:=h;exact⟨y,_,Z,d,f,g,c.set i a k2 b⟩
theorem jM.erase:∀{es:List fC} {ys:List MapEntry},jM S es ys->∀(i:Nat),jM S (es.eraseIdx i) (ys.eraseIdx i)
 | [],ys,h,i=>by have:ys= []:=h;subst this;simp[jM]
 | e::es,ys,h,0=>by obtain⟨y,r,rfl,b,c,d,a⟩:=h;exact a
 | e::es,ys,h,i+1=>by
  obtain⟨y,r,rfl,b,c,d,a⟩:=h;exact⟨y,_,Z,b,c,d,a.erase i⟩
theorem Inv.wW (a:Inv S U w) {b:Pos} {l:Loc} {es:List fC} {clock:Nat} (c:U.m.get b=some (.map es clock)) (d:S b=some l):∃es',w.heap[l.dE]?=some (.map es' clock)/\jM S es es'.toList:=by
 obtain⟨x,e,es',rfl,f⟩:=a.obj b _ l c d;exact⟨es',e,f⟩
theorem run_getObj_map {r clock:Nat} {es:Array MapEntry} (h:w.heap[r]?=some (.map es clock)):(getObj r).run P w= .ok (.map es clock) w:=by
 simp[getObj,Sem.run,h]
theorem zZ (M:Inv S U w) {ev:Operand->Option V} {f:Operand->Value} {t:TypeId} {x i:Operand} {ok:Bool} {v:V} (Q:∀u,ev x=some u->H S u (f x)) (R:∀u,ev i=some u->H S u (f i))
  (h:gW P ev U (.lookup t x i ok)=some v):∃z,(Instr.lookup t (f x) (f i) ok).run P w= .ok z w/\H S v z:=by
 simp only[gW] at h;split at h
 ·rename_i kt et k hu s;simp only[bA] at h;split at h
  ·rename_i n;rw[bA_] at n;obtain⟨K,A⟩:=n;have hkv:=R _ s
   have main:∀(es:List fC) (ys:Array MapEntry),jM S es ys.toList->
     (match pr P kt k es 0,fB P et with
      | some (some (_,v)),some _=>some (if ok=true then V.tuple [v,.bool true] else v)
      | some none,some z=>some (if ok=true then V.tuple [z,.bool false] else z)
      | _,_=>none)=some v->
     (Instr.checkKey ys.isEmpty 10000 kt<|f i).run P w= .ok () w/\∃r',(Instr.findKey kt (f i) ys.toList).run P w= .ok r' w/\
      ((∃j y,r'=some (j,y)/\H S v (if ok=true then .tuple #[y,.bool true] else y))∨
       (r'=none/\∃xz,(zeroValue et).run P w= .ok xz w/\H S v (if ok=true then .tuple #[xz,.bool false] else xz))):=by
    intro es ys he c;have hck:=my (w:=w) K A hkv ys.isEmpty;cases d:pr P kt k es 0 with
    | none=>rw[d] at c;cases c
    | some r=>
     obtain⟨r',g1,C⟩:=mC (w:=w) K hkv he d;cases e:fB P et with
     | none=>rw[d,e] at c;cases r<;>cases c
     | some zz=>
      rw[d,e] at c;obtain⟨iz,xz,E,hzero,o⟩:=qC e;cases r with
      | some p=>
       obtain⟨j,u⟩:=p;cases r' with
       | none=>exact C.elim
       | some q=>
        obtain⟨j',y⟩:=q;obtain⟨_,L⟩:=C;refine⟨hck,_,g1,.inl ⟨j',y,Z,?_⟩⟩;cases c;cases ok with
        | true=>
         simp only[if_true,H];exact⟨_,Z,dp.cons L<|dp.cons (by simp only[H]) dp.nil⟩
        | false=>simpa using L
      | none=>
       cases r' with
       | some q=>exact C.elim
       | none=>
        have F:(zeroValue et).run P w= .ok xz w:=by simp[zeroValue,typeInfo,E,hzero]
        refine⟨hck,_,g1,.inr ⟨Z,xz,F,?_⟩⟩;cases c;cases ok with
        | true=>
         simp only[if_true,H];exact⟨_,Z,dp.cons (o S)<|dp.cons (by simp only[H]) dp.nil⟩
        | false=>simpa using o S
   cases g:ev x with
   | none=>rw[g] at h;cases h
   | some m=>
    rw[g] at h;have hmv:=Q m g;cases m with
    | iR=>
     simp only[H] at hmv;dsimp only at h;obtain⟨hck,r',g1,a⟩:=main [] #[] (by simp[jM]) h;rcases a with ⟨j,y,rfl,a⟩ | ⟨rfl,xz,e,a⟩
     ·exact⟨_,by rw[hmv];simp only[Instr.lookup,sB_,run_underlying hu,rA,sP_,hck,g1],a⟩
     exact⟨_,by rw[hmv];simp only[Instr.lookup,sB_,run_underlying hu,rA,sP_,hck,g1,e],a⟩
    | map b=>
     simp only[H] at hmv;obtain⟨l,W,d⟩:=hmv;dsimp only at h;cases G:U.m.get b with
     | none=>rw[G] at h;cases h
     | some ob=>
      rw[G] at h;cases ob with
      | map es clock=>
       dsimp only at h;obtain⟨ys,c,he⟩:=M.wW G W;obtain⟨hck,r',g1,a⟩:=main es ys he h;rcases a with ⟨j,y,rfl,a⟩ | ⟨rfl,xz,e,a⟩
       ·exact⟨_,by rw[d];simp only[Instr.lookup,sB_,run_underlying hu,rA,sP_,run_getObj_map c,hck,g1],a⟩
       exact⟨_,by rw[d];simp only[Instr.lookup,sB_,run_underlying hu,rA,sP_,run_getObj_map c,hck,g1,e],a⟩
      | _=>cases h
    | _=>cases h
  cases h
 cases h
theorem uT (j:Inv S U w) {u:Option TypeId} {x:Option V} {v:V} {z:Value} (h:sn P u U x=some v) (k:∀a,x=some a->H S a z):
  ∃(a:Addr) (e cells:Nat),z= .pointer (some a)/\H S v z/\w.shape? a.block=some (e,cells)/\(match u with | some u=>liesAt P P.depth e (cells/P.cellsOf e) a.off u 1=true | none=>a.off<cells):=by
 unfold sn at h;cases x with
 | none=>cases h
 | some xv=>
  cases xv with
  | ptr b off=>
   have hv:=k _ Z;have hv':=hv;simp only[H] at hv';obtain⟨l,n,rfl⟩:=hv';dsimp only at h;cases g:U.m.get b with
   | none=>rw[g] at h;cases h
   | some ob=>
    rw[g] at h;cases ob with
    | own cells e=>
     dsimp only at h;obtain⟨y,o,⟨p,aa⟩,c,fr,rfl,hc,_⟩:=j.obj b _ l g n;have i:c.size=cells.length:=by omega
     have d:w.shape? l.dE=some (e,cells.length):=by simp[World.shape?,o,i]
     cases u with
     | some u=>
      dsimp only at h;rw[bA] at h;split at h
      ·rename_i f;cases h;rw[bK] at f;exact⟨_,e,cells.length,Z,hv,d,by simpa [p] using f⟩
      cases h
     | none=>
      dsimp only at h;rw[bA] at h;split at h
      ·rename_i f;cases h;rw[nE_,bK] at f;exact⟨_,e,cells.length,Z,hv,d,by show l.sh+off<cells.length;omega⟩
      cases h
    | _=>cases h
  | _=>cases h
theorem xn (G:Inv S U w) {ev:Operand->Option V} {f:Operand->Value} {o:Oper} {v:V} (C:ER S ev f o.op) (h:gW P ev U o.op=some v):
  ∃x,(execOp f o).run P w= .ok (.value x) w/\H S v x:=by
 cases p:o.op with
 | load t x=>
  rw[p] at h C;simp only[gW] at h;cases q:ev x with
  | none=>rw[q] at h;cases h
  | some u=>
   rw[q] at h;have hvx:=C x (by simp[Op.operands]) u q;cases u with
   | ptr b off=>
    simp only at h;cases hg:U.m.get b with
    | none=>rw[hg] at h;cases h
    | some ob=>
     rw[hg] at h;cases ob with
     | row cells e ro=>
      simp only[H] at hvx;obtain⟨l,k,K⟩:=hvx;obtain⟨y,hy,hr⟩:=nE (P:=P) G hg k h;refine⟨y,?_,hr⟩;simp[execOp,p,Instr.loadAt,K,Instr.sureAddr,hy]
     | own cells e=>
      simp only[H] at hvx;obtain⟨l,k,K⟩:=hvx;obtain⟨_,L,_⟩:=G.own hg k;obtain⟨y,hy,hr⟩:=nE (P:=P) L (D.mG _ _ _) k h;refine⟨y,?_,hr⟩;simp[execOp,p,Instr.loadAt,K,Instr.sureAddr,hy]
     | _=>cases h
   | _=>cases h
 | lookup t x i ok=>
  rw[p] at h C;obtain⟨z,h1,h2⟩:=zZ (P:=P) G (f:=f) (C x (by simp[Op.operands])) (C i (by simp[Op.operands])) h;exact⟨z,by simp only[execOp,p,sB_,h1,rA,sP_],h2⟩
 | convert src dst x=>
  rw[p] at h C;simp only[gW] at h;split at h
  case h_4=>cases h
  case h_2=>
   rename_i t R W;split at h
   ·rename_i j F;rw[bA] at h;split at h
    ·cases h
    rename_i X;obtain⟨a,e,cells,E,hv,M,ar⟩:=uT G h (C x (by simp[Op.operands]));have ag:j.size≠0:=fun e=>X (by rw[e];rfl)
    refine⟨f x,?_,hv⟩;rw[E];simp only[execOp,p,E,sB_,Lib.run_to_unsafe w a R W F ag M ar,rA,sP_]
   cases h
  case h_3=>
   rename_i u R W;rw[bA] at h;split at h
   ·rename_i L;obtain⟨j,F⟩:=Option.isSome_iff_exists.1 L;obtain⟨a,e,cells,E,hv,M,ar⟩:=uT G h (C x (by simp[Op.operands]));refine⟨f x,?_,hv⟩;rw[E];simp only[execOp,p,E,sB_,Lib.run_from_unsafe w a R W F M ar,rA,sP_]
   cases h
  rename_i e R W;split at h
  case h_3=>cases h
  ·rename_i he q;cases h;have hv:=C x (by simp[Op.operands]) _ q;simp only[H] at hv;refine⟨.string .empty,?_,by simp only[H];exact⟨_,Z,Z⟩⟩;simp[execOp,p,convert,hv,run_underlying R,run_underlying W,run_underlying he,Conv.bytesToString]
  rename_i b off len cap he q;have hv:=C x (by simp[Op.operands]) _ q
  have fin:∀(a:Addr) (c:Nat) (s:List Nat),f x= .slice (some a) len c->s.length=len->(∀n∈s,n<=255)->(∀(j:Nat) (F:j<s.length),w.cell? (a.add j)=some (.int .u8 ((s[j]:Nat):Int)))->
    ∃z,(execOp f o).run P w= .ok (.value z) w/\H S (.str s) z:=by
   intro a c s E k hle hc
   have hb:∀n∈s,(UInt8.ofNat n).toNat=n:=fun n g=>by
    have:=hle n g;rw[UInt8.toNat_ofNat'];omega
   have:=run_convert_bytes_back (P:=P) w src dst e a c (s.map UInt8.ofNat) R he W (fun j F=>by
    have aa:j<s.length:=by simpa using F
    rw[hc j aa,List.getElem_map,hb _<|List.getElem_mem aa])
   rw[lM_,k] at this;refine⟨.string ⟨(s.map UInt8.ofNat).toArray⟩,by simp only[execOp,p,E,sB_,this,rA,sP_],?_⟩;simp only[H];refine⟨_,Z,?_⟩;unfold hY;simp only[List.map_map]
   conv=>rhs;rw[<-List.map_id s]
   exact List.map_congr_left fun n g=>hb n g
  rw[bA] at h;split at h
  ·rename_i X;have:=nB X;subst this;cases h;obtain⟨a,c,E⟩:=H.jI hv;exact fin a c [] E Z (fun n g=>by cases g) (fun j F=>by cases F)
  rename_i X;rw[Nat.beq_eq] at X;split at h
  ·rename_i cells e' ro hb;rw[bA] at h;split at h
   ·rename_i hle;rw[nE_,bK] at hle;split at h
    ·rename_i s ab;cases h
     obtain⟨l,c,k,E⟩:∃l c,S b=some l/\f x= .slice (some ⟨l.dE,l.sh+off,none⟩) len c:=by
      cases cap with
      | known c=>simp only[H] at hv;obtain⟨l,k,h'⟩:=hv;exact⟨l,c,k,h'⟩
      | upto sz=>
       simp only[H] at hv;obtain⟨l,k,⟨c,h',_⟩ | ⟨h',_⟩⟩:=hv
       ·exact⟨l,c,k,h'⟩
       exact absurd h' X
      | least a sz=>simp only[H] at hv;obtain⟨l,k,c,h',_⟩:=hv;exact⟨l,c,k,h'⟩
     obtain⟨ys,ap,am,Q⟩:=G.piece hb k off len hle;rw[du,dO] at ab
     have key:∀(l:List V) (s:List Nat),cW yz l=some s->s.length=l.length/\(∀n∈s,n<=255)/\∀(j:Nat) (n:Nat),s[j]?=some n->l[j]?=some (.int .u8 (.ofNat n)):=by
      intro l;induction l with
      | nil=>intro s h;rw[iK] at h;cases h;exact⟨Z,fun n g=>(by cases g),fun j n g=>(by simp at g)⟩
      | cons x l ih=>
       intro s h;obtain⟨y,r,h1,h2,rfl⟩:=gX h;obtain⟨k1,k2,k3⟩:=ih r h2
       have q:x= .int .u8 (.ofNat y)/\y<=255:=by
        unfold yz at h1;split at h1
        ·rw[bA] at h1;split at h1
         ·rename_i hle;cases h1;exact⟨Z,by rwa[nE_] at hle⟩
         cases h1
        cases h1
       refine⟨by simp[k1],fun n g=>?_,fun j n g=>?_⟩
       ·rcases mQ_.1 g with rfl | g
        ·exact q.2
        exact k2 n g
       cases j with
       | zero=>simp at g;subst g;simp[q.1]
       | succ j=>simp only[List.getElem?_cons_succ] at g⊢;exact k3 j n g
     obtain⟨k1,k2,k3⟩:=key _ s ab;have ao:s.length=len:=by rw[k1,lT_,lD_];omega
     refine fin _ c s E ao k2 (fun j F=>?_);have h1:=k3 j s[j] (gC F);obtain⟨y,hy,ac⟩:=am.get h1;simp only[H] at ac;subst ac;exact Q j _ hy
    cases h
   cases h
  cases h
 | call c=>
  rw[p] at h C;simp only[gW] at h;split at h
  ·rename_i A;split at h
   ·rename_i u1 u2 t x e1 e2;have d:c.args= #[x]:=by rw[<-Array.toList_inj];exact e2
    split at h
    ·rename_i u3 u4 kt et b hu q;have hv:=C x (by simp[Op.operands,Call.operands,A,d]) _ q;simp only[H] at hv;obtain⟨l,k,E⟩:=hv;split at h
     ·rename_i es clock hb;cases h;obtain⟨ys,hh,he⟩:=G.wW hb k;refine⟨.int .i64<|Int.ofNat<|cX es,?_,by simp only[H]⟩;have hlen:ys.size=es.length:=by have:=he.length;simpa using this
      simp[execOp,p,resolve,A,d,invoke,builtin,Builtin.len_,e1,run_underlying hu,E,run_getObj_map hh,goInt,bK,hlen]
     cases h
    ·rename_i u3 u4 kt et hu q;cases h;have hv:=C x (by simp[Op.operands,Call.operands,A,d]) _ q;simp only[H] at hv;refine⟨.int .i64 0,?_,by simp only[H]⟩;simp[execOp,p,resolve,A,d,invoke,builtin,Builtin.len_,e1,run_underlying hu,hv,goInt]
    cases h
   cases h
  cases h
 | _=>rw[p] at h;simp[gW] at h
end
section
variable {P:Program} {S:dh} {U:D} {w:World}
theorem Du {ts:Array TypeId} {ty:TypeId} {x v:V} {y:Value} (h:E5 x=some v) (e:H S x y):∃z,(Builtin.unsafeSliceData_ ts ty #[y]).run P w= .ok z w/\H S v z:=by
 unfold E5 at h;split at h
 ·cases h;simp only[H] at e;subst e;exact⟨_,Lib.run_unsafeSliceData_nil w ts ty 0 0,by simp only[H]⟩
 ·rename_i b off len c;rw[bA] at h;split at h
  ·rename_i d;cases h;cases c with
   | known c=>
    simp only[H] at e;obtain⟨l,f,rfl⟩:=e;have d:Nat.ble 1 c=true:=d;rw[nE_] at d;exact⟨_,Lib.run_unsafeSliceData_row w ts ty _ _ _ B,by simp only[H];exact⟨l,f,Z⟩⟩
   | upto s=>
    have d:Nat.ble 1 len=true:=d;rw[nE_] at d;simp only[H] at e;obtain⟨l,f,⟨c,rfl,g,_⟩ | ⟨h0,_⟩⟩:=e
    ·exact⟨_,Lib.run_unsafeSliceData_row w ts ty _ _ _ B,by simp only[H];exact⟨l,f,Z⟩⟩
    omega
   | least a s=>
    have d:Nat.ble 1 a=true:=d;rw[nE_] at d;simp only[H] at e;obtain⟨l,f,c,rfl,g,_⟩:=e;exact⟨_,Lib.run_unsafeSliceData_row w ts ty _ _ _ B,by simp only[H];exact⟨l,f,Z⟩⟩
  cases h
 cases h
theorem Bk:∀{l:List V} {s:List Nat},cW yz l=some s->s.length=l.length/\(∀n∈s,n<=255)/\∀(j:Nat) (n:Nat),s[j]?=some n->l[j]?=some (.int .u8 (.ofNat n))
 | [],s,h=>by rw[iK] at h;cases h;exact⟨Z,fun n a=>(by cases a),fun j n a=>(by simp at a)⟩
 | x::l,s,h=>by
  obtain⟨y,r,b,d,rfl⟩:=gX h;obtain⟨e,k2,f⟩:=Bk d
  have c:x= .int .u8 (.ofNat y)/\y<=255:=by
   unfold yz at b;split at b
   ·rw[bA] at b;split at b
    ·rename_i hle;cases b;exact⟨Z,by rwa[nE_] at hle⟩
    cases b
   cases b
  refine⟨by simp[e],fun n a=>?_,fun j n a=>?_⟩
  ·rcases mQ_.1 a with rfl | a
   ·exact c.2
   exact k2 n a
  cases j with
  | zero=>simp at a;subst a;simp[c.1]
  | succ j=>simp only[List.getElem?_cons_succ] at a⊢;exact f j n a
theorem tl (ts:Array TypeId) (ty:TypeId) (k:Value):Builtin.unsafeString_ ts ty #[.pointer none,k]=
   (do
    let n <-asInt k
    let some _:=ts[0]? | stuck "unsafe.String: no argument types"
    if n<0 then runtimePanic (.error "unsafe.String: len out of range")
    if n>IntKind.i64.max then unsupported (.unsafePointer "String: a length above the largest int")
    if n=0 then pure (.string .empty)
    else runtimePanic (.error "unsafe.String: ptr is nil and len is not zero")):=rfl
theorem np (ts:Array TypeId) (ty:TypeId) (a:Addr) (k:Value):Builtin.unsafeString_ ts ty #[.pointer<|some a,k]=
   (do
    let n <-asInt k
    let some pt:=ts[0]? | stuck "unsafe.String: no argument types"
    if n<0 then runtimePanic (.error "unsafe.String: len out of range")
    if n>IntKind.i64.max then unsupported (.unsafePointer "String: a length above the largest int")
    if n=0 then pure (.string .empty)
    else if <-variablesAt a (<-elemOf pt) n.toNat then do
     let s <-loadBytes a .empty n.toNat
     freeze a n.toNat
     pure (.string s)
    else unsupported (.unsafePointer "String: not so many bytes at ptr")):=rfl
theorem kB {ts:Array TypeId} {ty pt:TypeId} (c:ts[0]?=some pt) (p:Option Addr):(Builtin.unsafeString_ ts ty #[.pointer p,.int .i64 0]).run P w= .ok (.string .empty) w:=by
 have b:IntKind.i64.max=9223372036854775807:=rfl;cases p with
 | none=>rw[tl];simp[c,asInt,asIntOf,b]
 | some a=>rw[np];simp[c,asInt,asIntOf,b]
theorem rq {ts:Array TypeId} {ty pt e:TypeId} (k:ts[0]?=some pt) (m:P.underlying pt=some (.pointer e)) (n:P.cellsOf e=1) (g off cells:Nat) (h:w.shape? g=some (e,cells)) (l:List UInt8) (o:l≠[]) (p:off+l.length<=cells) (aa:l.length<=9223372036854775807)
  (a:∀j x,l[j]?=some x->w.cell? ((⟨g,off,none⟩:Addr).add j)=some (.int .u8 x.toNat)):
  (Builtin.unsafeString_ ts ty #[.pointer<|some ⟨g,off,none⟩,.int .i64 l.length]).run P w= .ok (.string ⟨l.toArray⟩) (w.freeze ⟨g,off,none⟩ l.length):=by
 have q:l.length≠0:=by simpa using o
 have hlb:=Lib.run_loadBytes (P:=P) w l ⟨g,off,none⟩ .empty a
 have b:liesAt P P.depth e (cells/P.cellsOf e) off e l.length=true:=by
  have i:P.depth=(2*(P.types.size+Made.depth)+1)+1:=rfl;rw[i];simp only[liesAt,Bool.or_eq_true];left;rw[i];simp[rowAt,n,p,sameLayout,Nat.mod_one]
 have c:¬(9223372036854775807:Int)<(l.length:Int):=by omega
 have d:IntKind.i64.max=9223372036854775807:=rfl;have f:¬(l.length:Int)<0:=by omega
 rw[np];simp[k,asInt,asIntOf,d,c,f,q,variablesAt,h,elemOf,run_underlying m,b,hlb]
theorem EE (i:Inv S U w) {ts:Array TypeId} {ty:TypeId} {p n:V} {yp yn:Value} {s:List Nat} {U':D} (h:FZ P U ts[0]? p n=some (s,U')) (f:H S p yp) (g:H S n yn):
  ∃z w',(Builtin.unsafeString_ ts ty #[yp,yn]).run P w= .ok z w'/\H S (.str s) z/\Inv S U' w'/\eY S U w S U' w':=by
 unfold FZ at h;split at h
 ·rename_i k;simp only[H] at g;subst g;rw[bA] at h;split at h
  ·rename_i E;have:=nB E;subst this;split at h
   ·rename_i u1 u2 pt o;cases h;simp only[H] at f;subst f;exact⟨_,w,kB o _,by simp only[H];exact⟨_,Z,Z⟩,i,eY.refl _ _ _⟩
   ·rename_i u1 u2 pt b off o;cases h;simp only[H] at f;obtain⟨l,F,rfl⟩:=f;exact⟨_,w,kB o _,by simp only[H];exact⟨_,Z,Z⟩,i,eY.refl _ _ _⟩
   cases h
  rename_i E;rw[Nat.beq_eq] at E;split at h
  ·rename_i u1 u2 pt b off o;split at h
   ·rename_i u3 u4 u cells e hu K;rw[bA] at h;split at h
    ·rename_i hc;simp only[bA_,Nat.beq_eq,nE_,bK] at hc;obtain⟨rfl,L,hle,aa⟩:=hc;split at h
     ·rename_i s' hs;cases h;simp only[H] at f;obtain⟨l,F,rfl⟩:=f;rw[du,dO] at hs;obtain⟨k1,k2,k3⟩:=Bk hs;have M:s.length=k:=by rw[k1,lT_,lD_];omega
      obtain⟨c,fr,q,Q,R,W,ab⟩:=i.row K F;obtain⟨ys,ac,X,d⟩:=i.piece K F off k hle
      have t:∀n∈s,(UInt8.ofNat n).toNat=n:=fun n g=>by
       have:=k2 n g;rw[UInt8.toNat_ofNat'];omega
      have hlen:(s.map UInt8.ofNat).length=k:=by rw[lM_,M]
      have r:=rq (P:=P) (w:=w) (ty:=ty) o hu L l.dE (l.sh+off) c.size (by simp[World.shape?,q]) (s.map UInt8.ofNat) (by intro e;rw[e] at hlen;simp at hlen;omega) (by rw[hlen];omega) (by rw[hlen];omega)
       (fun j x v=>by
        rw[gM_] at v;cases G:s[j]? with
        | none=>rw[G] at v;cases v
        | some m=>
         rw[G] at v;cases v;have h1:=k3 j m G;obtain⟨y,hy,A⟩:=X.get h1;simp only[H] at A;subst A;rw[d j _ hy,t m<|gB_ G];rfl)
      rw[hlen] at r;have a:¬k=0:=E
      have hw:∃fr',(w.freeze ⟨l.dE,l.sh+off,none⟩ k).heap[l.dE]?=some (.cells c e fr'):=by
       unfold World.freeze;rw[if_neg a];simp only[Array.getElem?_modify,q];exact⟨_,Z⟩
      obtain⟨fr',hw⟩:=hw
      have C:∀r,r≠l.dE->(w.freeze ⟨l.dE,l.sh+off,none⟩ k).heap[r]?=w.heap[r]?:=fun r hr=>by
       unfold World.freeze;rw[if_neg a];simp only[Array.getElem?_modify];rw[if_neg (fun e=>hr e.symm)]
      obtain⟨i2,s2⟩:=i.EZ K F Z (o':=.row cells e true) hw ⟨c,fr',Z,Q,R,W,fun h=>by cases h⟩ C (by unfold World.freeze;rw[if_neg a];simp) (by unfold World.freeze;rw[if_neg a]) (by unfold World.freeze;rw[if_neg a]) (by unfold World.freeze;rw[if_neg a]);refine⟨_,_,r,?_,i2,s2⟩;simp only[H];refine⟨_,Z,?_⟩;unfold hY;simp only[List.map_map]
      conv=>rhs;rw[<-List.map_id s]
      exact List.map_congr_left fun n g=>t n g
     cases h
    cases h
   cases h
  cases h
 cases h
theorem Bl (o:Inv S U w) {src dst:TypeId} {x v:V} {y:Value} {U':D} (h:mr P U src dst x= .val v U') (A:H S x y):
  ∃z w' S',(convert src dst y).run P w= .ok z w'/\H S' v z/\Inv S' U' w'/\eY S U w S' U' w':=by
 unfold mr at h;split at h
 ·rename_i e s F G;split at h
  ·rename_i he;rw[bA] at h;split at h
   ·rename_i aa;cases h;simp only[H] at A;obtain⟨bs,rfl,j⟩:=A;have g:bs.size<=grownCap w bs.size 0 e:=grownCap_ge _ _ _ _
    have r:(Lib.bytesCells w e bs).size=grownCap w bs.size 0 e:=by
     unfold Lib.bytesCells;simp;have:bs.data.size=bs.size:=rfl;omega
    have hlen:cX s=bs.size:=jK j;have k:(yd (fun c=>V.int .u8 (Int.ofNat c)) s).length=bs.size:=by rw[lY,lM_,<-bK,hlen]
    have K:iF S ⟨w.heap.size,0,grownCap w bs.size 0 e⟩ (.row (yd (fun c=>V.int .u8 (Int.ofNat c)) s) e true) (.cells (Lib.bytesCells w e bs) e ((Lib.bytesCells w e bs).size,(Lib.bytesCells w e bs).size+1)):=by
     refine⟨_,_,Z,by simp[r],by rw[k];exact g,fun i v p=>?_,fun h=>by cases h⟩;rw[lY,gM_] at p;cases n:s[i]? with
     | none=>rw[n] at p;cases p
     | some m=>
      rw[n] at p;cases p;have d:(bs.data.toList.map UInt8.toNat)[i]?=some m:=by unfold hY at j;rw[j];exact n
      rw[gM_] at d;cases t:bs.data.toList[i]? with
      | none=>rw[t] at d;cases d
      | some b=>
       rw[t] at d;cases d;have q:bs.data[i]?=some b:=by rw[<-aT_];exact t
       have u:i<bs.data.size:=(aS_.1 q).1;refine⟨.int .u8 b.toNat,?_,by simp only[H];rfl⟩;unfold Lib.bytesCells;show((bs.data.map fun b=>Value.int .u8 b.toNat)++_)[0+i]?=_;rw[nA_,Array.getElem?_append_left (by simpa using u),Array.getElem?_map,q];rfl
    have hi1:=o.drew;obtain⟨C,E⟩:=hi1.alloc (l:=⟨w.heap.size,0,grownCap w bs.size 0 e⟩) (x:=.cells (Lib.bytesCells w e bs) e ((Lib.bytesCells w e bs).size,(Lib.bytesCells w e bs).size+1)) Z K
    have hw:(w.drew.alloc (.cells (Lib.bytesCells w e bs) e ((Lib.bytesCells w e bs).size,(Lib.bytesCells w e bs).size+1)))=Lib.bytesWorld w e bs:=by
     unfold Lib.bytesWorld World.freeze;rw[if_neg B]
     have:∀(h:Array Obj) (a b:Obj) (f:Obj->Obj),f a=b->(h.push a).modify h.size f=h.push b:=fun h a b f e=>by
      apply Array.ext_getElem?;intro i;rw[Array.getElem?_modify,Array.getElem?_push,Array.getElem?_push]
      by_cases o:h.size=i
      ·subst o;simp[e]
      rw[if_neg o,if_neg (fun e=>o e.symm),if_neg (fun e=>o e.symm)]
     simp only[World.alloc,World.drew];congr 1
     symm
     exact this w.heap _ _ _ Z
    rw[hw] at C E;refine⟨_,_,_,Lib.run_convert_string_bytes w src dst e bs F G he,?_,C,(eY.drew S U w).trans E⟩;simp only[H];refine⟨_,dh.cZ _ _ _,.inl ⟨grownCap w bs.size 0 e,by rw[hlen],by rw[hlen];exact g,by simp⟩⟩
   cases h
  cases h
 cases h
theorem Di (P:Program) (U:D) (src dst:TypeId) (x:V) (v:V) (U':D):mr P U src dst x≠ .mO v U':=by
 unfold mr
 repeat' split
 all_goals (try rw[bA])
 all_goals (try split)
 all_goals (intro h;cases h)
theorem rV (P:Program) (U:D) (src dst:TypeId) (x:V):∀f args U',mr P U src dst x≠ .enter f args U'/\mr P U src dst x≠ .round f args U'/\mr P U src dst x≠ .skip U':=by
 intro f args U';unfold mr
 repeat' split
 all_goals (try rw[bA])
 all_goals (try split)
 all_goals exact⟨(by intro h;cases h),(by intro h;cases h),(by intro h;cases h)⟩
end
section
variable {P:Program} {S:dh} {U:D} {w:World}
theorem uG {x y:V} {a c:Value} (h:sa x y=some true) (b:H S x a) (d:H S y c) (n:Nat):Instr.sameBits n a c=true:=by
 unfold sa at h;split at h
 ·simp only[H] at b d;subst b;subst d;simp only[oJ_,mz] at h;simp only[Instr.sameBits,h]
 ·rename_i j a' k b';simp only[bA] at h;split at h
  ·rename_i f;have:=pR f;subst this;simp only[oJ_,dF,decide_eq_true_eq] at h;subst h;simp only[H] at b d;subst b;subst d;simp[Instr.sameBits]
  cases h
 ·simp only[H] at b d;obtain⟨p,rfl,g⟩:=b;obtain⟨q,rfl,i⟩:=d;simp only[oJ_] at h;rw[ou g i] at h;have e:p.toList=q.toList:=by simpa using h
  simp only[Instr.sameBits,beq_toListBytes];simpa using e
 cases h
theorem rC:∀{xs ys:List V} {as cs:List Value},pL xs ys=true->dp S xs as->dp S ys cs->∀n,as.length=cs.length/\((as.zip cs).all fun(x,y)=>Instr.sameBits n x y)=true
 | [],[],as,cs,_,b,d,n=>by rw[b.eQ,d.eQ];simp
 | [],y::ys,as,cs,h,b,d,n=>by cases h
 | x::xs,[],as,cs,h,b,d,n=>by cases h
 | x::xs,y::ys,as,cs,h,b,d,n=>by
  obtain⟨a,as',rfl,e,f⟩:=b.cons_inv;obtain⟨c,cs',rfl,g,i⟩:=d.cons_inv;have h':(match sa x y with | some true=>pL xs ys | _=>false)=true:=h;split at h'
  ·rename_i he;obtain⟨g1,j⟩:=rC h' f i n;refine⟨by simp[g1],?_⟩;simp only[List.zip_cons_cons,List.all_cons,bA_];exact⟨uG he e g n,j⟩
  cases h'
theorem An {x y:V} {a c:Value} (h:sameKey x y=true) (d:H S x a) (e:H S y c) (n:Nat):Instr.sameBits (n+1) a c=true:=by
 unfold sameKey at h;split at h
 ·simp only[H] at d e;obtain⟨as,rfl,d⟩:=d;obtain⟨cs,rfl,e⟩:=e;obtain⟨g1,f⟩:=rC h d e n;simp only[Instr.sameBits,bA_,beq_iff_eq];exact⟨by simpa using g1,f⟩
 split at h
 ·rename_i b g;subst h;exact uG g d e _
 cases h
theorem Hk (e:fC) (es:List fC) (i:Nat):Aq e es i=es.set i e:=ud _ _ _
theorem yK:∀(es:List fC) (i:Nat),wa es i=es.eraseIdx i
 | [],i=>rfl
 | e::es,0=>rfl
 | e::es,i+1=>congrArg (e::·) (yK es i)
theorem Inv.Ar (a:Inv S U w) {b:Pos} {l:Loc} {es es':List fC} {clock clock':Nat} {ys:Array MapEntry} (d:U.m.get b=some (.map es clock)) (c:S b=some l) (he:jM S es' ys.toList):
  ∃w',(setObj l.dE (.map ys clock')).run P w= .ok () w'/\Inv S (U.setObj b (.map es' clock')) w'/\eY S U w S (U.setObj b (.map es' clock')) w':=by
 obtain⟨zs,e,_⟩:=a.wW d c;refine⟨{w with heap:=w.heap.setIfInBounds l.dE (.map ys clock')},by simp[setObj,Sem.run,e],?_⟩;have hlt:=a.dE b l c
 exact a.change d c Z Z (x:=.map ys clock') (by simp[Array.getElem?_setIfInBounds,hlt]) ⟨ys,Z,he⟩
  (fun r f=>by simp[Array.getElem?_setIfInBounds,Ne.symm f]) (by simp) Z Z Z
theorem tq (p:Inv S U w) {t:TypeId} {m k v:V} {ym yk yv:Value} {U':D} (h:nq P U t m k v=some U') (hm:H S m ym) (c:H S k yk) (F:H S v yv):
  ∃w',(Instr.mapUpdate t ym yk yv).run P w= .ok () w'/\Inv S U' w'/\eY S U w S U' w':=by
 unfold nq at h;split at h
 ·rename_i u1 u2 kt et b hu;split at h
  ·rename_i es clock s;simp only[bA] at h;split at h
   ·rename_i d;rw[bA_] at d;obtain⟨x,z⟩:=d;simp only[H] at hm;obtain⟨l,A,rfl⟩:=hm;obtain⟨ys,G,he⟩:=p.wW s A;have hck:=my (w:=w) x z c false;split at h
    ·rename_i i u C;obtain⟨r',g1,o⟩:=mC (w:=w) x c he C;cases r' with
     | none=>exact o.elim
     | some q=>
     obtain⟨j,y⟩:=q;obtain⟨rfl,hy⟩:=o;rw[eF] at h;split at h
     ·rename_i e K;split at h
      ·rename_i L;cases h;obtain⟨ye,f,M,e2,Q⟩:=he.get K;have hsb:=An L M c 9999;have a:ys[i]?=some ye:=by rw[<-aT_];exact f
       have g:(Instr.keyThatStays (((ys[i]?).map (·.key)).getD yk) yk).run P w= .ok yk w:=by
        simp[Instr.keyThatStays,a,hsb]
       have n:(ys.modify i fun e=>{e with key:=yk,val:=yv}).toList=ys.toList.set i {key:=yk,val:=yv,born:=e.born}:=by
        apply List.ext_getElem?;intro q;rw[aT_,Array.getElem?_modify,List.getElem?_set];have E:i<ys.toList.length:=(gA.1 f).1
        by_cases eq:i=q
        ·subst eq;simp[a,Q];simpa using E
        simp[eq]
       obtain⟨w',r,inv,st⟩:=p.Ar (P:=P) (clock':=clock) (es':=Aq {key:=k,val:=v,born:=e.born} es i) (ys:=ys.modify i fun e=>{e with key:=yk,val:=yv}) s A (by
        rw[n,Hk];exact he.set i c F Z)
       refine⟨w',?_,inv,st⟩;simp only[Instr.mapUpdate,sB_,run_underlying hu,rA,run_getObj_map G,hck,g1,g,r]
      cases h
     cases h
    ·rename_i C;cases h;obtain⟨r',g1,o⟩:=mC (w:=w) x c he C;cases r' with
     | some q=>exact o.elim
     | none=>
     obtain⟨w',r,inv,st⟩:=p.Ar (P:=P) (clock':=clock+1) (es':=ie es [{key:=k,val:=v,born:=clock}]) (ys:=ys.push {key:=yk,val:=yv,born:=clock}) s A (by
      rw[dV,Array.toList_push];exact he.append ⟨_,[],Z,c,F,Z,Z⟩)
     refine⟨w',?_,inv,st⟩;simp only[Instr.mapUpdate,sB_,run_underlying hu,rA,run_getObj_map G,hck,g1,r]
    cases h
   cases h
  cases h
 cases h
theorem zL (d:Inv S U w) {ts:Array TypeId} {ty:TypeId} {m k:V} {ym yk:Value} {U':D} (h:qH P U ts m k=some U') (hm:H S m ym) (e:H S k yk):
  ∃w',(Builtin.delete_ ts ty #[ym,yk]).run P w= .ok (.tuple #[]) w'/\Inv S U' w'/\eY S U w S U' w':=by
 unfold qH at h;split at h
 ·rename_i t s;split at h
  ·rename_i u1 u2 kt et b hu;split at h
   ·rename_i es clock f;simp only[bA] at h;split at h
    ·rename_i a;rw[bA_] at a;obtain⟨g,n⟩:=a;simp only[H] at hm;obtain⟨l,o,rfl⟩:=hm;obtain⟨ys,v,he⟩:=d.wW f o;have hck:=my (w:=w) g n e ys.isEmpty;split at h
     ·rename_i i u p;cases h;obtain⟨r',g1,c⟩:=mC (w:=w) g e he p;cases r' with
      | none=>exact c.elim
      | some q=>
      obtain⟨j,y⟩:=q;obtain⟨rfl,hy⟩:=c
      obtain⟨w',r,inv,st⟩:=d.Ar (P:=P) (clock':=clock) (es':=wa es i) (ys:=ys.eraseIdxIfInBounds i) f o (by
       rw[Array.toList_eraseIdxIfInBounds,yK];exact he.erase i)
      refine⟨w',?_,inv,st⟩;simp only[Builtin.delete_,s,List.getElem?_toArray,List.getElem?_cons_zero,List.getElem?_cons_succ,sB_,run_underlying hu,rA,run_getObj_map v,hck,g1,r,sP_]
     ·rename_i p;cases h;obtain⟨r',g1,c⟩:=mC (w:=w) g e he p;cases r' with
      | some q=>exact c.elim
      | none=>
      obtain⟨w',r,inv,st⟩:=d.Ar (P:=P) (clock':=clock) (es':=es) (ys:=ys) f o he;refine⟨w',?_,inv,st⟩;simp only[Builtin.delete_,s,List.getElem?_toArray,List.getElem?_cons_zero,List.getElem?_cons_succ,sB_,run_underlying hu,rA,run_getObj_map v,hck,g1,r,sP_]
     cases h
    cases h
   cases h
  cases h
 cases h
def HR.isVal:HR->Prop
 | .val ..=>True
 | .err _=>True
 | _=>False
theorem De (P:Program) (U:D) (ts:Array TypeId) (s x:V):(fX P U ts s x).isVal:=by
 unfold fX;simp only[bA,grow]
 repeat' (first | trivial | split)
theorem Bd (P:Program) (U:D) (ts:Array TypeId) (s x:V):(oD P U ts s x).isVal:=by
 unfold oD;simp only[bA,grow]
 repeat' (first | trivial | split)
theorem HT (P:Program) (U:D) (ts:Array TypeId) (s x:V):(rE P U ts s x).isVal:=by
 unfold rE;simp only[bA]
 repeat' (first | trivial | split)
theorem BS {ov:Nat->Bool} (aa:∀g,ov g=true->rR P g) (K:Inv S U w) {ev:Operand->Option V} {f:Operand->Value} {o:Oper} {r:HR} (A:ER S ev f o.op) (h:gz P ov ev U o.op=r) (i:∀n,r≠ .err n):
  xW P S U w r ((execOp f o).run P w):=by
 cases C:o.op with
 | store t x y=>
  rw[C] at h A;simp only[gz] at h;cases p:ev x with
  | none=>rw[p] at h;exact absurd h.symm<|i 11
  | some a=>
  cases hy:ev y with
  | none=>rw[p,hy] at h;exact absurd h.symm<|i 11
  | some v=>
  rw[p,hy] at h;dsimp only at h;cases M:xI P U t a v with
  | none=>rw[M] at h;exact absurd h.symm<|i 10
  | some U'=>
   rw[M] at h;subst h;obtain⟨w',r,inv,st⟩:=CF (P:=P) K M (A x (by simp[Op.operands]) a p) (A y (by simp[Op.operands]) v hy);have:(execOp f o).run P w= .ok .skip w':=by simp only[execOp,C,sB_,r,rA,sP_]
   rw[this];exact .skip inv st
 | mapUpdate t m k x=>
  rw[C] at h A;simp only[gz] at h;cases hm:ev m with
  | none=>rw[hm] at h;exact absurd h.symm<|i 20
  | some a=>
  cases W:ev k with
  | none=>rw[hm,W] at h;exact absurd h.symm<|i 20
  | some b=>
  cases p:ev x with
  | none=>rw[hm,W,p] at h;exact absurd h.symm<|i 20
  | some v=>
  rw[hm,W,p] at h;dsimp only at h;cases M:nq P U t a b v with
  | none=>rw[M] at h;exact absurd h.symm<|i 19
  | some U'=>
   rw[M] at h;subst h;obtain⟨w',r,inv,st⟩:=tq (P:=P) K M (A m (by simp[Op.operands]) a hm) (A k (by simp[Op.operands]) b W) (A x (by simp[Op.operands]) v p);have:(execOp f o).run P w= .ok .skip w':=by simp only[execOp,C,sB_,r,rA,sP_]
   rw[this];exact .skip inv st
 | insert t m k x=>
  rw[C] at h A;simp only[gz] at h;cases hm:ev m with
  | none=>rw[hm] at h;exact absurd h.symm<|i 20
  | some a=>
  cases W:ev k with
  | none=>rw[hm,W] at h;exact absurd h.symm<|i 20
  | some b=>
  cases p:ev x with
  | none=>rw[hm,W,p] at h;exact absurd h.symm<|i 20
  | some v=>
  rw[hm,W,p] at h;dsimp only at h;cases M:nq P U t a b v with
  | none=>rw[M] at h;exact absurd h.symm<|i 19
  | some U'=>
   rw[M] at h;subst h;obtain⟨w',r,inv,st⟩:=tq (P:=P) K M (A m (by simp[Op.operands]) a hm) (A k (by simp[Op.operands]) b W) (A x (by simp[Op.operands]) v p);have:(execOp f o).run P w= .ok .skip w':=by simp only[execOp,C,sB_,r,rA,sP_]
   rw[this];exact .skip inv st
 | call c=>
  rw[C] at h A;simp only[gz] at h;split at h
  ·rename_i g d;split at h
   ·rename_i u1 u2 y args hg E;have u:∀x∈c.args.toList,∀v,ev x=some v->H S v (f x):=fun x p=>A x (by simp[Op.operands,Call.operands,d];right;simpa using p)
    have:=HN (P:=P) (w:=w) aa K h i (A g (by simp[Op.operands,Call.operands,d]) y hg) (xs:=c.args.map f) (by simpa using il E u);simpa only[execOp,C,resolve,d] using this
   exact absurd h.symm<|i 12
  ·rename_i d;split at h
   ·rename_i u1 s x E;subst h;have u:∀x∈c.args.toList,∀v,ev x=some v->H S v (f x):=fun x p=>A x (by simp[Op.operands,Call.operands,d];simpa using p)
    obtain⟨ys,rs,e,L,Q⟩:=(il E u).cons_inv;obtain⟨yx,rs',rfl,X,h4⟩:=Q.cons_inv;have:=h4.eQ;subst this;have j:c.args.map f= #[ys,yx]:=by rw[<-Array.toList_inj];simpa using e
    rw[bA] at i;rw[bA];split at i
    ·rename_i hc;rw[if_pos hc];have hv:=De P U c.argTypes s x;cases l:fX P U c.argTypes s x with
     | val v U'=>
      obtain⟨z,w',S',g1,R,F,G⟩:=zC (P:=P) (ty:=o.type) K l L X
      have:(execOp f o).run P w= .ok (.value z) w':=by
       simp only[execOp,C,resolve,d,j,sB_,sP_,rA,invoke,builtin,g1]
      rw[this];exact .val R F G
     | err n=>exact absurd l (i n)
     | _=>rw[l] at hv;exact hv.elim
    rename_i hc;rw[if_neg hc];have hv:=Bd P U c.argTypes s x;cases l:oD P U c.argTypes s x with
    | val v U'=>
     obtain⟨z,w',S',g1,R,F,G⟩:=xY (P:=P) (ty:=o.type) K l L X
     have:(execOp f o).run P w= .ok (.value z) w':=by
      simp only[execOp,C,resolve,d,j,sB_,sP_,rA,invoke,builtin,g1]
     rw[this];exact .val R F G
    | err n=>exact absurd l (i n)
    | _=>rw[l] at hv;exact hv.elim
   exact absurd h.symm<|i 13
  ·rename_i d;split at h
   ·rename_i u1 s x E;have u:∀x∈c.args.toList,∀v,ev x=some v->H S v (f x):=fun x p=>A x (by simp[Op.operands,Call.operands,d];simpa using p)
    obtain⟨ys,rs,e,L,Q⟩:=(il E u).cons_inv;obtain⟨yx,rs',rfl,X,h4⟩:=Q.cons_inv;have:=h4.eQ;subst this;have j:c.args.map f= #[ys,yx]:=by rw[<-Array.toList_inj];simpa using e
    cases l:qH P U c.argTypes s x with
    | none=>rw[l] at h;exact absurd h.symm<|i 17
    | some U'=>
     rw[l] at h;subst h;obtain⟨w',g1,F,G⟩:=zL (P:=P) (ty:=o.type) K l L X
     have:(execOp f o).run P w= .ok (.value (.tuple #[])) w':=by
      simp only[execOp,C,resolve,d,j,sB_,sP_,rA,invoke,builtin,g1]
     rw[this];exact .val (by simp only[H];exact⟨_,Z,dp.nil⟩) F G
   exact absurd h.symm<|i 18
  ·rename_i d;split at h
   ·rename_i u1 s x E;subst h;have u:∀x∈c.args.toList,∀v,ev x=some v->H S v (f x):=fun x p=>A x (by simp[Op.operands,Call.operands,d];simpa using p)
    obtain⟨ys,rs,e,L,Q⟩:=(il E u).cons_inv;obtain⟨yx,rs',rfl,X,h4⟩:=Q.cons_inv;have:=h4.eQ;subst this;have j:c.args.map f= #[ys,yx]:=by rw[<-Array.toList_inj];simpa using e
    have hv:=HT P U c.argTypes s x;cases l:rE P U c.argTypes s x with
    | val v U'=>
     obtain⟨z,w',S',g1,R,F,G⟩:=Dp (P:=P) (ty:=o.type) K l L X
     have:(execOp f o).run P w= .ok (.value z) w':=by
      simp only[execOp,C,resolve,d,j,sB_,sP_,rA,invoke,builtin,g1]
     rw[this];exact .val R F G
    | err n=>exact absurd l (i n)
    | _=>rw[l] at hv;exact hv.elim
   exact absurd h.symm<|i 14
  ·rename_i d;split at h
   ·rename_i u1 x E;have u:∀x∈c.args.toList,∀v,ev x=some v->H S v (f x):=fun x p=>A x (by simp[Op.operands,Call.operands,d];simpa using p)
    obtain⟨ys,rs,e,L,Q⟩:=(il E u).cons_inv;have:=Q.eQ;subst this;have j:c.args.map f= #[ys]:=by rw[<-Array.toList_inj];simpa using e
    cases l:zJ P U c.argTypes x with
    | none=>rw[l] at h;exact absurd h.symm<|i 21
    | some U'=>
     rw[l] at h;subst h;obtain⟨w',g1,F,G⟩:=Bs (P:=P) (ty:=o.type) K l L
     have:(execOp f o).run P w= .ok (.value (.tuple #[])) w':=by
      simp only[execOp,C,resolve,d,j,sB_,sP_,rA,invoke,builtin,g1]
     rw[this];exact .val (by simp only[H];exact⟨_,Z,dp.nil⟩) F G
   exact absurd h.symm<|i 22
  ·rename_i d;split at h
   ·rename_i u1 x E;have u:∀x∈c.args.toList,∀v,ev x=some v->H S v (f x):=fun x p=>A x (by simp[Op.operands,Call.operands,d];simpa using p)
    obtain⟨ys,rs,e,L,Q⟩:=(il E u).cons_inv;have:=Q.eQ;subst this;have j:c.args.map f= #[ys]:=by rw[<-Array.toList_inj];simpa using e
    cases l:E5 x with
    | none=>rw[l] at h;exact absurd h.symm<|i 27
    | some v=>
     rw[l] at h;subst h;obtain⟨z,g1,R⟩:=Du (P:=P) (w:=w) (ts:=c.argTypes) (ty:=o.type) l L
     have:(execOp f o).run P w= .ok (.value z) w:=by
      simp only[execOp,C,resolve,d,j,sB_,sP_,rA,invoke,builtin,g1]
     rw[this];exact .val R K<|eY.refl _ _ _
   exact absurd h.symm<|i 28
  ·rename_i d;split at h
   ·rename_i u1 s x E;have u:∀x∈c.args.toList,∀v,ev x=some v->H S v (f x):=fun x p=>A x (by simp[Op.operands,Call.operands,d];simpa using p)
    obtain⟨ys,rs,e,L,Q⟩:=(il E u).cons_inv;obtain⟨yx,rs',rfl,X,h4⟩:=Q.cons_inv;have:=h4.eQ;subst this;have j:c.args.map f= #[ys,yx]:=by rw[<-Array.toList_inj];simpa using e
    cases l:FZ P U c.argTypes[0]? s x with
    | none=>rw[l] at h;exact absurd h.symm<|i 29
    | some q=>
     obtain⟨q,U'⟩:=q;rw[l] at h;subst h;obtain⟨z,w',g1,R,F,G⟩:=EE (P:=P) (ty:=o.type) K l L X
     have:(execOp f o).run P w= .ok (.value z) w':=by
      simp only[execOp,C,resolve,d,j,sB_,sP_,rA,invoke,builtin,g1]
     rw[this];exact .val R F G
   exact absurd h.symm<|i 30
  exact absurd h.symm<|i 15
 | convert src dst x=>
  rw[C] at h A;simp only[gz] at h;cases p:ev x with
  | none=>rw[p] at h;exact absurd h.symm<|i 23
  | some a=>
   rw[p] at h;dsimp only at h;cases l:mr P U src dst a with
   | val v U'=>
    rw[l] at h;subst h;obtain⟨z,w',S',g1,R,F,G⟩:=Bl (P:=P) K l (A x (by simp[Op.operands]) a p);have:(execOp f o).run P w= .ok (.value z) w':=by simp only[execOp,C,sB_,g1,rA,sP_]
    rw[this];exact .val R F G
   | err n=>rw[l] at h;exact absurd h.symm<|i n
   | skip U'=>exact absurd l (rV P U src dst a 0 [] U').2.2
   | enter g args U'=>exact absurd l (rV P U src dst a g args U').1
   | round g args U'=>exact absurd l (rV P U src dst a g args U').2.1
   | mO q U'=>exact absurd l (Di P U src dst a q U')
 | panic x=>
  rw[C] at h A;simp only[gz] at h;split at h
  ·rename_i t v p;subst h;have hv:=A x (by simp[Op.operands]) _ p;have hv':=hv;simp only[H] at hv';obtain⟨y,hf,_⟩:=hv'
   have:(execOp f o).run P w= .halt (.panic<|f x) w:=by
    simp only[execOp,C,hf,Instr.panic,sB_];rfl
   rw[this];exact .mO hv
  exact absurd h.symm<|i 32
 | _=>rw[C] at h;exact absurd h.symm<|i 16
end
inductive Ex where
 | normal
 | exit (id:Nat)
 | goto (l:Nat)
 | ret
 | mO (v:V)
inductive DE where
 | mark (b:Pos)
 | call (f:Nat) (args ca:List V)
inductive CR where
 | ok (e:Ex) (t:N V) (d:List DE) (U:D)
 | err (n:Nat)
inductive KR where
 | ret (v:V) (U:D)
 | mO (v:V) (U:D)
 | err (n:Nat)
inductive Kind where
 | pure | read | alloc | jW
def isMap (P:Program) (t:Option TypeId):Bool:=
 match t with
 | some t=>match P.underlying t with | some (.map _ _)=>true | _=>false
 | none=>false
def toStr (P:Program) (src dst:TypeId):Bool:=
 match pk P src,pk P dst with
 | some (.slice _),some .string=>true
 | some (.pointer _),some .unsafePointer=>true
 | some .unsafePointer,some (.pointer _)=>true
 | _,_=>false
def ofStr (P:Program) (src dst:TypeId):Bool:=
 match pk P src,pk P dst with
 | some .string,some (.slice _)=>true
 | _,_=>false
def kindOf (P:Program):Op->Kind
 | .convert src dst _=>bif toStr P src dst then .read else(bif ofStr P src dst then .jW else .pure)
 | .load .. | .lookup ..=>.read
 | .alloc .. | .box .. | .buildSlice .. | .makeSlice .. | .makeMap ..=>.alloc
 | .store .. | .mapUpdate .. | .insert ..=>.jW
 | .call c=>match c.callee with
  | .builtin .len=>bif isMap P c.argTypes[0]? then .read else .pure
  | .builtin .min | .builtin .max | .builtin .cap=>.pure
  | _=>.jW
 | .defer _ | .panic _=>.jW
 | _=>.pure
structure ME where
 f:Nat
 args:List V
 next:Nat
 l:List (Nat×cG)
 v:V
 next':Nat
 l':List (Nat×cG)
structure Cx where
 gl:Nat
 ov:Nat->Bool
 fk:Nat->Bool
 HD:Nat->List V->Option V
 laid:List (Nat×List V)
 mem:List Nat:=[]
 stop:Nat->List V->D->Option Nat:=fun _ _ _=>none
 HB:Nat->List V->D->Option V:=fun _ _ _=>none
def bE (G:Cx) (t:N V):Operand->Option V
 | .tmp k=>t.get (posOf k)
 | .const v=>qb v
 | .global g=>bif Nat.ble (Nat.succ g) G.gl then some (.ptr (posOf g) 0) else none
 | .func f=>some (.func f [] [])
def sV:Op->Nat
 | .move ..=>1
 | .assign ..=>2
 | .pick ..=>3
 | .alloc ..=>4
 | .box ..=>5
 | .build ..=>6
 | .buildSlice ..=>7
 | .insert ..=>8
 | .load ..=>9
 | .store ..=>10
 | .ready ..=>11
 | .waits ..=>12
 | .nilCheck ..=>13
 | .binOp ..=>14
 | .unOp ..=>15
 | .convert ..=>16
 | .sliceToArrayPointer ..=>17
 | .makeInterface ..=>18
 | .makeFunc ..=>19
 | .makeMap ..=>20
 | .makeChan ..=>21
 | .makeSlice ..=>22
 | .slice ..=>23
 | .fieldAddr ..=>24
 | .field ..=>25
 | .indexAddr ..=>26
 | .index ..=>27
 | .lookup ..=>28
 | .mapUpdate ..=>29
 | .mapEntry ..=>30
 | .entryStore ..=>31
 | .range ..=>32
 | .next ..=>33
 | .entry ..=>34
 | .typeAssert ..=>35
 | .extract ..=>36
 | .call ..=>37
 | .go ..=>38
 | .defer ..=>39
 | .panic ..=>40
 | .send ..=>41
 | .recv ..=>42
 | .select ..=>43
def dW (P:Program) (G:Cx) (ev:Operand->Option V) (U:D) (op:Op):HR:=
 match kindOf P op with
 | .pure=>match di P ev op with | some v=>.val v U | none=>.err (Nat.add 1000<|sV op)
 | .read=>match gW P ev U op with | some v=>.val v U | none=>.err (Nat.add 2000<|sV op)
 | .alloc=>match gi P ev op with | some (ob,mk)=>.val (mk.of U.next) (U.alloc ob) | none=>.err (Nat.add 3000<|sV op)
 | .jW=>gz P G.ov ev U op
def dI (t:N V) (n:Nat) (dst:Option Nat) (v:V):Option (N V):=
 match dst with
 | none=>some t
 | some k=>bif Nat.ble (Nat.succ k) n then some (t.put (some v)<|posOf k) else none
def unit:V:=.tuple []
def bM (ops:Array Oper) (t:N V) (o:Oper):Option Bool:=
 match o.guard with
 | none=>some true
 | some (j,want)=>match(ops[j]?).bind (·.dst) with
  | some k=>match t.get (posOf k) with
   | some (.bool b)=>some (bif b then want else(bif want then false else true))
   | some (.tuple _)=>some false
   | _=>none
  | none=>some false
abbrev lf:=Code->N V->Nat->List DE->Option Pos->D->CR
def ry (n:Nat) (args:List V):Option (N V):=
 List.rec (motive:=fun _=>Nat->N V->Option (N V)) (fun _ t=>some t) (fun v _ ih k t=>match dI t n (some k) v with | some t'=>ih (Nat.succ k) t' | none=>none) args 0 .leaf
def g9 (P:Program) (t:N V) (U:D):ResultVar->Option V
 | .tmp k=>t.get (posOf k)
 | .cell k ty=>match t.get (posOf k) with
  | some (.ptr b off)=>match U.m.get b with
   | some (.row cells _ _)=>match dU P ty with
    | some (some n)=>bif Nat.ble (off+n) (cX cells) then some (.agg<|takeN (dS cells off) n) else none
    | some none=>nth cells off
    | none=>none
   | _=>none
  | _=>none
def fm (P:Program) (fn:Func) (t:N V) (U:D):Option V:=
 match cW (g9 P t U) fn.results.toList with
 | some [v]=>some v
 | some vs=>some (.tuple vs)
 | none=>none
inductive Md where
 | ret
 | mO (v:V)
 | PG (v:V)
def wP (P:Program) (G:Cx) (ih:lf) (d:List DE) (md:Md) (U:D):Option (Md×D):=
 match d with
 | []=>some (md,U)
 | _=>none
def x8 (P:Program) (G:Cx) (ih:lf) (fn:Func) (md:Md) (t:N V) (d:List DE) (U:D):KR:=
 match wP P G ih d md U with
 | some (.ret,U)=>match fm P fn t U with | some v=>.ret v U | none=>.err 70
 | some (.mO v,U)=>.mO v U
 | _=>.err 71
def lj (P:Program) (G:Cx) (ih:lf) (f:Nat) (args:List V) (U:D):KR:=
 match P.funcs[f]? with
 | some fn=>match fn.body,ry fn.ntmps args with
  | some c,some t=>match ih c t fn.ntmps [] none U with
   | .ok .normal t d U=>x8 P G ih fn .ret t d U
   | .ok .ret t d U=>x8 P G ih fn .ret t d U
   | .ok (.mO v) t d U=>x8 P G ih fn (.mO v) t d U
   | .err k=>.err k
   | _=>.err 72
  | _,_=>.err 73
 | none=>.err 74
def sj (r:KR):KR:=
 match r with
 | .mO _ _=>.err 69
 | r=>r
def mD:V->Bool
 | .bool _ | .int _ _ | .str _ | .nilPtr | .ax | .iR | .nilFunc | .nilIface=>true
 | _=>false
def eH (l:List V):Bool:=List.rec (motive:=fun _=>Bool) true (fun v _ r=>bif mD v then r else false) l
def zO (x y:V):Bool:=
 match x,y with
 | .bool a,.bool b=>bif a then b else(bif b then false else true)
 | .int j a,.int k b=>r9 j k && I a b
 | .str a,.str b=>gL a b
 | .nilPtr,.nilPtr=>true
 | .ax,.ax=>true
 | .iR,.iR=>true
 | .nilFunc,.nilFunc=>true
 | .nilIface,.nilIface=>true
 | _,_=>false
def kS (xs ys:List V):Bool:=
 List.rec (motive:=fun _=>List V->Bool) (fun ys=>List.rec (motive:=fun _=>Bool) true (fun _ _ _=>false) ys)
  (fun x _ ih ys=>List.rec (motive:=fun _=>Bool) false (fun y r _=>bif zO x y then ih r else false) ys) xs ys
def FJ (n:Nat) (v:V):List V:=Nat.rec (motive:=fun _=>List V) [] (fun _ l=>v::l) n
def fc (U:D) (b:Pos) (o:cG) (vb:Pos) (o':cG):D:={next:=U.next,m:=(N.leaf.put (some o) b).put (some o') vb}
def qN (vb:Pos) (vc:List V) (ve e sz:Nat) (r:KR) (ok:pH->Nat->Bool):Option (Nat×List V):=
 match r with
 | .ret (.slice b1 o1 n1 c1) σ1=>
  match σ1.m.get b1,σ1.m.get vb with
  | some (.row cs1 e1 false),some (.row vc1 ve1 false)=>
   bif ok c1 n1 && ((bif kg b1 vb then false else true) && (kS vc vc1 && (Nat.beq ve ve1 && (Nat.beq e e1 && (Nat.ble 1 n1 && (Nat.ble (o1+n1*sz) (cX cs1) && eH (takeN (dS cs1 o1) (n1*sz)))))))) then
    some (n1,takeN (dS cs1 o1) (n1*sz))
   else none
  | _,_=>none
 | _=>none
def DQ (sz:Nat) (c:pH) (_:Nat):Bool:=
 match c with
 | .upto s=>Nat.beq s sz
 | _=>false
def zW (sz:Nat) (c:pH) (n:Nat):Bool:=
 match c with
 | .least a s=>Nat.beq s sz && Nat.ble n a
 | _=>false
def Fb (P:Program) (G:Cx) (ih:lf) (f:Nat) (args:List V) (U:D):KR:=
 match args with
 | [.slice b off n (.upto sz),i,.slice vb voff m (.known mc)]=>
  match U.m.get b,U.m.get vb with
  | some (.row cells e false),some (.row vc ve false)=>
   bif (bif kg b vb then false else true) && (Nat.ble 1 n && (Nat.beq m 1 && (mD i && (eH vc && Nat.ble (off+n*sz) (cX cells))))) then
    match qN vb vc ve e sz (lj P G ih f [.slice b off n (.known n),i,.slice vb voff m (.known mc)]<|fc U b (.row cells e false) vb (.row vc ve false)) (DQ sz),
     qN vb vc ve e sz (lj P G ih f [.slice b off n (.least (Nat.succ n) sz),i,.slice vb voff m (.known mc)]<|fc U b (.row (ie (takeN cells (off+n*sz))<|FJ sz .any) e false) vb (.row vc ve false)) (zW sz) with
    | some (n1,r1),some (n2,r2)=>bif Nat.beq n1 n2 && kS r1 r2 then .ret (.slice U.next 0 n1 (.upto sz)) ((U.drop b).alloc (.row r1 e false)) else .err 75
    | _,_=>.err 76
   else .err 77
  | _,_=>.err 78
 | _=>lj P G ih f args U
def nD (gl:Nat) (U:D) (l:List (Nat×List V)):Bool:=
 List.rec (motive:=fun _=>Bool) true (fun x _ r=>bif Nat.ble (Nat.succ x.1) gl then(match U.m.get x.1 with
  | some (.row cells _ true)=>bif eH x.2 then(bif kS cells x.2 then r else false) else false
  | _=>false) else false) l
def dX (x y:V):Bool:=
 match x,y with
 | .agg xs,.agg ys=>beqL xs ys
 | x,y=>fD x y
where
 beqP (p q:Pos):Bool:=Nat.beq p q
 beqC (c d:pH):Bool:=
  match c,d with
  | .known a,.known b=>Nat.beq a b
  | .upto a,.upto b=>Nat.beq a b
  | _,_=>false
 fD (x y:V):Bool:=
  match x,y with
  | .bool a,.bool b=>bif a then b else(bif b then false else true)
  | .int j a,.int k b=>r9 j k && I a b
  | .str a,.str b=>gL a b
  | .nilPtr,.nilPtr=>true
  | .tok a,.tok b=>Nat.beq a b
  | .ptr b o,.ptr b' o'=>beqP b b' && Nat.beq o o'
  | .ax,.ax=>true
  | .slice b o l c,.slice b' o' l' c'=>beqP b b' && Nat.beq o o' && Nat.beq l l' && beqC c c'
  | .iR,.iR=>true
  | .map b,.map b'=>beqP b b'
  | .nilFunc,.nilFunc=>true
  | .nilIface,.nilIface=>true
  | .func f [] [],.func g [] []=>Nat.beq f g
  | .func f [] [.ptr b o],.func g [] [.ptr b' o']=>Nat.beq f g && beqP b b' && Nat.beq o o'
  | _,_=>false
 beqL (xs ys:List V):Bool:=
  List.rec (motive:=fun _=>List V->Bool) (fun ys=>List.rec (motive:=fun _=>Bool) true (fun _ _ _=>false) ys)
   (fun x _ ih ys=>List.rec (motive:=fun _=>Bool) false (fun y r _=>bif fD x y then ih r else false) ys) xs ys
def IM (l:List (Nat×List V)) (E:Nat->TypeId):N cG:=l.foldl (fun m x=>m.put (some (.row x.2 (E x.1) true)) (posOf x.1)) .leaf
def atEnd (args:List V):Bool:=
 match args with
 | [.slice _ _ n _,.int _ (.ofNat j),_]=>Nat.beq j n
 | _=>false
def pX (P:Program) (G:Cx) (ih:lf) (f:Nat) (args:List V) (U:D):KR:=bif atEnd args then lj P G ih f args U else Fb P G ih f args U
def mw (P:Program) (G:Cx) (ih:lf) (f:Nat) (args:List V) (U:D):KR:=
 match G.HB f args U with
 | some v=>bif mD v then .ret v U else .err 78
 | none=>match G.HD f args with
 | some v=>bif eH args && (mD v && nD G.gl U G.laid) then .ret v U else .err 79
 | none=>match G.stop f args U with
   | some c=>.err c
   | none=>bif G.fk f then sj (pX P G ih f args U) else lj P G ih f args U
def lT (P:Program) (G:Cx) (ih:lf) (r:HR):KR:=
 match r with
 | .val v U=>.ret v U
 | .skip U=>.ret unit U
 | .enter f args U=>mw P G ih f args U
 | .round _ _ _=>.err 66
 | .mO v U=>.mO v U
 | .err e=>.err e
def Lj (pn:Bool) (v:V) (t:N V) (U:D):CR:=bif pn then .ok (.mO v) t [] U else .err 69
def ju (P:Program) (G:Cx) (ih:lf) (pn:Bool) (ops:Array Oper) (n:Nat) (o:Oper) (t:N V) (U:D) (k:N V->D->CR):CR:=
 match bM ops t o with
 | some true=>match lT P G ih (dW P G (bE G t) U o.op) with
  | .ret v U'=>match dI t n o.dst v with | some t'=>k t' U' | none=>.err 80
  | .mO v U'=>Lj pn v t U'
  | .err e=>.err e
 | some false=>match dI t n o.dst unit with | some t'=>k t' U | none=>.err 84
 | none=>.err 85
def sW (P:Program) (G:Cx) (ih:lf) (ops:Array Oper) (n:Nat) (d:List DE) (l:List Oper):N V->D->CR:=
 List.rec (motive:=fun _=>N V->D->CR) (fun t U=>.ok .normal t d U)
  (fun o _ k t U=>ju P G ih true ops n o t U k) l
def ru (A:Array Nat) (i j:Nat):Bool:=(A.getD i 0).testBit j
def waits (ops:Array Oper) (i j:Nat):Bool:=((ops[i]?).map fun o=>o.after.any fun e=>Region.binds .any e && e.on == j).getD false
def DN:Kind->Bool
 | .jW=>true
 | _=>false
def tT:Kind->Bool
 | .read | .alloc=>true
 | _=>false
def jX (P:Program) (ops:Array Oper) (i:Nat):Bool:=match(ops[i]?).map fun o=>kindOf P o.op with | some k=>DN k | none=>false
def gu (P:Program) (ops:Array Oper) (i:Nat):Bool:=match(ops[i]?).map fun o=>kindOf P o.op with | some k=>tT k | none=>false
def slotsOf (ops:Array Oper) (o:Oper):List Nat:=
 (o.op.operands.toList.filterMap fun | .tmp k=>some k | _=>none)++(match o.guard with | some (j,_)=>((ops[j]?).bind (·.dst)).toList | none=>[])
def fe (ops:Array Oper) (i:Nat):Option Nat:=(ops[i]?).bind (·.dst)
def bit (i:Nat):Nat:=Nat.shiftLeft 1 i
def hasB (m i:Nat):Bool:=Nat.beq (Nat.land (Nat.shiftRight m i) 1) 1
def yq (m k:Nat):Bool:=Nat.beq (Nat.land m k) m
def nG (l:List Nat):Nat:=List.rec (motive:=fun _=>Nat) 0 (fun i _ r=>Nat.lor (bit i) r) l
structure Row where
 w:Nat
 h:Bool
 k:Bool
 d:Option Nat
 dm:Nat
 s:Nat
def xw (P:Program) (ops:Array Oper) (o:Oper):Row:=
 {w:=nG (o.after.toList.filterMap fun e=>if Region.binds .any e=true then some e.on else none),h:=DN<|kindOf P o.op,k:=tT<|kindOf P o.op,d:=o.dst,dm:=nG o.dst.toList,s:=nG (slotsOf ops o)}
structure RA where
 r:Row
 a:Nat
def w0 (L:List RA):Nat->Nat:=
 List.rec (motive:=fun _=>Nat->Nat) (fun _=>0) (fun x _ ih w=>Nat.lor (Bool.rec (motive:=fun _=>Nat) 0 x.a<|Nat.beq (Nat.land w 1) 1) (ih<|Nat.shiftRight w 1)) L
def Jo (rows:List Row):List RA->List RA:=
 List.rec (motive:=fun _=>List RA->List RA) (fun L=>L) (fun r _ ih L=>ih (ie L [⟨r,Nat.lor r.w<|w0 L r.w⟩])) rows
def jd (P:Program) (ops:Array Oper):List RA:=Jo (yd (xw P ops) ops.toList) []
def allI {α:Type} (f:Nat->α->Bool) (l:List α):Nat->Bool:=List.rec (motive:=fun _=>Nat->Bool) (fun _=>true) (fun x _ ih i=>Bool.rec (motive:=fun _=>Bool) false (ih<|Nat.succ i) (f i x)) l
def L6 {α:Type} (f:Nat->α->Bool) (l:List α):Nat->Option Nat:=List.rec (motive:=fun _=>Nat->Option Nat) (fun _=>none) (fun x _ ih i=>Bool.rec (motive:=fun _=>Option Nat) (ih<|Nat.succ i) (some i) (f i x)) l
def N8 {α:Type} (f:Nat->α->Bool) (l:List α):Nat->List Nat:=List.rec (motive:=fun _=>Nat->List Nat) (fun _=>[]) (fun x _ ih i=>Bool.rec (motive:=fun _=>List Nat) (ih<|Nat.succ i) (i::ih (Nat.succ i)) (f i x)) l
def Ch (i:Nat) (x:RA) (j:Nat) (y:RA):Bool:=
 Option.rec (motive:=fun _=>Bool) true (fun k=>bif (bif hasB x.r.dm k then Nat.beq j i else true) then(bif hasB x.r.s k then(bif hasB x.a j then true else(bif x.r.k then false else(bif Nat.beq j i then true else hasB y.a i))) else true) else false) y.r.d
def Ji (i:Nat) (x:RA) (j:Nat) (y:RA):Bool:=Bool.rec (motive:=fun _=>Bool) (Ch i x j y) true (Nat.beq (Nat.land (Nat.lor x.r.dm x.r.s) y.r.dm) 0)
def Jy (L:List RA) (n:Nat):Bool:=
 allI (fun i x=>bif Nat.blt x.r.w (bit n) then(bif (bif x.r.k then x.r.d.isSome else true) then(bif yq x.a (Nat.lor x.r.w<|w0 L x.r.w) then allI (Ji i x) L 0 else false) else false) else false) L 0
def Oj (L:List RA) (fuel:Nat):Nat->List (Nat×List Nat):=
 Nat.rec (motive:=fun _=>Nat->List (Nat×List Nat)) (fun _=>[])
  (fun _ ih D_=>Option.rec (motive:=fun _=>List (Nat×List Nat))
   (Option.rec (motive:=fun _=>List (Nat×List Nat)) [] (fun i=>(i,Option.rec (motive:=fun _=>List Nat) [] (fun x=>N8 (fun j y=>bif hasB D_ j then(bif y.r.k then(bif hasB x.a j then false else true) else false) else false) L 0) (nth L i))::ih (Nat.lor D_ (bit i)))
   <|L6 (fun i x=>Bool.rec (motive:=fun _=>Bool) (yq x.r.w D_) false (hasB D_ i)) L 0)
   (fun i=>(i,[])::ih (Nat.lor D_<|bit i))<|L6 (fun i x=>Bool.rec (motive:=fun _=>Bool) (Bool.rec (motive:=fun _=>Bool) (yq x.r.w D_) false x.r.h) false (hasB D_ i)) L 0) fuel
def IE (L:List RA) (i:Nat) (rc:List Nat) (D_:Nat) (x:RA):Bool:=
 bif hasB D_ i then false else(bif yq x.r.w D_ then(bif x.r.h then allI (fun j y=>bif hasB D_ j then(bif hasB x.a j then true else(bif y.r.k then hasB (nG rc) j else true)) else(bif Nat.beq j i then true else(bif yq y.r.w D_ then false else true))) L 0 else true) else false)
def Dl (L:List RA) (n:Nat) (p:List (Nat×List Nat)):Nat->Bool:=
 List.rec (motive:=fun _=>Nat->Bool) (fun D_=>Nat.beq D_ (Nat.sub (bit n) 1))
  (fun p _ ih D_=>Option.rec (motive:=fun _=>Bool) false (fun x=>bif IE L p.1 p.2 D_ x then ih (Nat.lor D_<|bit p.1) else false) (nth L p.1)) p
def jB (P:Program) (ops:Array Oper):List (Nat×List Nat):=Oj (jd P ops) ops.size 0
def sb (P:Program) (ops:Array Oper):Bool:=bif Jy (jd P ops) ops.size then Dl (jd P ops) ops.size (jB P ops) 0 else false
def jh (P:Program) (G:Cx) (ops:Array Oper) (t:N V) (U:D) (i:Nat):Bool:=
 match ops[i]? with
 | some o=>match bM ops t o with
  | some true=>match o.dst with
   | some k=>match t.get (posOf k) with
    | some v=>match kindOf P o.op with
     | .read=>match gW P (bE G t) U o.op with | some u=>dX u v | none=>false
     | .alloc=>match gi P (bE G t) o.op,v with
      | some (.row cs e false,.ptr),.ptr b 0=>match U.m.get b with | some (.row cs' e' false)=>Nat.beq e e' && dX.beqL cs cs' | _=>false
      | some (.row cs e false,.slice n c),.slice b 0 n' (.known c')=>match U.m.get b with | some (.row cs' e' false)=>Nat.beq e e' && dX.beqL cs cs' && Nat.beq n n' && Nat.beq c c' | _=>false
      | _,_=>false
     | _=>false
    | none=>false
   | none=>false
  | some false=>true
  | none=>false
 | none=>false
def dn (P:Program) (G:Cx) (ops:Array Oper) (t:N V) (U:D) (l:List Nat):Bool:=
 List.rec (motive:=fun _=>Bool) true (fun i _ r=>bif jh P G ops t U i then r else false) l
def ke (P:Program) (G:Cx) (ih:lf) (ops:Array Oper) (n:Nat) (d:List DE) (l:List (Nat×List Nat)):N V->D->CR:=
 List.rec (motive:=fun _=>N V->D->CR) (fun t U=>.ok .normal t d U)
  (fun p _ k t U=>match ops[p.1]? with
   | some o=>ju P G ih false ops n o t U (fun t' U'=>bif dn P G ops t' U' p.2 then k t' U' else .err 86)
   | none=>.err 87) l
def uF (P:Program) (G:Cx) (ih:lf) (ops:Array Oper) (n:Nat) (d:List DE) (t:N V) (U:D):CR:=
 bif sb P ops then ke P G ih ops n d (jB P ops) t U else .err 88
def yG (c:Option V) (x y:CR):CR:=
 match c with
 | some (.bool true)=>x
 | some (.bool false)=>y
 | _=>.err 90
def yj (r:CR) (k:N V->List DE->D->CR):CR:=
 match r with
 | .ok .normal t d U=>k t d U
 | r=>r
def tG (id:Nat) (r:CR):CR:=
 match r with
 | .ok (.exit j) t d U=>bif Nat.beq j id then .ok .normal t d U else .ok (.exit j) t d U
 | r=>r
def Em (r:CR):CR:=
 match r with
 | .ok (.goto _) _ _ _=>.err 98
 | r=>r
def N7 (o:Oper):Bool:=
 match o.op with
 | .defer _=>true
 | _=>false
def lE (ops:List Oper):Bool:=ops.any N7
def ya (d:List DE) (r:CR):CR:=
 match r with
 | .ok (.mO v) t _ U=>.ok (.mO v) t d U
 | r=>r
def FQ (P:Program) (G:Cx) (ih:lf) (c:Code) (t:N V) (n:Nat) (d:List DE) (ro:Option Pos) (U:D):CR:=
 match c with
 | .skip | .label _=>.ok .normal t d U
 | .region _ ops draw=>bif draw then uF P G ih ops n d t U else bif lE ops.toList then .err 96 else ya d (sW P G ih ops n d ops.toList t U)
 | .seq a b=>yj (ih a t n d ro U) (fun t d U=>ih b t n d ro U)
 | .cond c a b=>yG (bE G t c) (ih a t n d ro U) (ih b t n d ro U)
 | .block id b=>tG id (ih b t n d ro U)
 | .scope b=>Em (ih b t n d ro U)
 | .loop b=>yj (ih b t n d ro U) (fun t d U=>ih (.loop b) t n d ro U)
 | .exit id=>.ok (.exit id) t d U
 | .ret=>.ok .ret t d U
 | _=>.err 99
def ew (P:Program) (G:Cx) (fuel:Nat):lf:=Nat.rec (motive:=fun _=>lf) (fun _ _ _ _ _ _=>.err 100) (fun _ ih=>FQ P G ih) fuel
def wo (P:Program) (G:Cx) (fuel:Nat) (f:Nat) (args:List V) (U:D):KR:=mw P G (ew P G fuel) f args U
def oO:Option Nat->Fence
 | none=>Fence.wide
 | some l=>Fence.wide.inRound l
theorem qJ (rl:Option Nat) (f:FuncId):(oO rl).fn f:=by cases rl<;>trivial
theorem DF (rl:Option Nat):(oO rl).depth=none:=by cases rl<;>rfl
theorem yM (rl:Option Nat) (m:Nat):(oO rl).depth.isSome=true->1<=m:=by rw[DF];intro h;cases h
theorem sc {m:Nat} {P:Program} {f:FuncId} {args:Array Value} {w:World} {R:Ending->World->Prop} (rl:Option Nat) (h:CallsIn Fence.wide m P f args w R):CallsIn (oO rl) m P f args w R:=by
 cases rl with
 | none=>exact h
 | some l=>exact h.inRound l
def DR (S:dh):List DE->List Deferred->Prop
 | [],ds=>ds= []
 | .mark b::d,ds=>∃l r,S b=some l/\ds= {target:=.collected l.dE,args:= #[]}::r/\DR S d r
 | .call f args ca::d,ds=>∃(xs cs:Array Value) (r:List Deferred),ds= {target:=.fn (.func f) cs,args:=xs}::r/\dp S args xs.toList/\dp S ca cs.toList/\DR S d r
theorem DR.mono {S S':dh} (h:S.le S'):∀{d:List DE} {ds:List Deferred},DR S d ds->DR S' d ds
 | [],ds,a=>a
 | .mark b::d,ds,a=>let ⟨l,r,c,e,g⟩:=a;⟨l,r,h _ _ c,e,DR.mono h g⟩
 | .call f args ca::d,ds,a=>let ⟨xs,cs,r,c,e,g,i⟩:=a;⟨xs,cs,r,c,dp.mono h _ _ e,dp.mono h _ _ g,DR.mono h i⟩
def P8 (S:dh):Ex->Exit->Prop
 | .mO v,E=>∃x,E= .panic [{v:=x,recovered:=false}]/\H S v x
 | .normal,E=>E= .normal
 | .exit i,E=>E= .exit i
 | .goto i,E=>E= .goto i
 | .ret,E=>E= .ret
def Qx (Q:Exit->Act->World->Prop) (S:dh) (e:Ex) (a:Act) (w:World):Prop:=∀E,P8 S e E->Q E a w
def NR (S:dh):KR->Ending->Prop
 | .ret v _,e=>∃x,e= .returned x/\H S v x
 | .mO v _,e=>∃x,e= .panicked [{v:=x,recovered:=false}]/\H S v x
 | .err _,_=>False
def KR.heap:KR->D
 | .ret _ U=>U
 | .mO _ U=>U
 | .err _=>⟨0,.leaf⟩
def RO (S:dh):Option Pos->Option Nat->Prop
 | none,none=>True
 | some b,some l=>∃loc,S b=some loc/\loc.dE=l
 | _,_=>False
theorem RO.mono {S S':dh} (h:S.le S'):∀{ro:Option Pos} {rl:Option Nat},RO S ro rl->RO S' ro rl
 | none,none,_=>trivial
 | some _,some _,⟨loc,a,b⟩=>⟨loc,h _ _ a,b⟩
def GR (S:dh) (G:Cx):Prop:=∀g,g<G.gl->∃c,S (posOf g)=some ⟨g,0,c⟩
theorem GR.mono {S S':dh} {G:Cx} (h:S.le S') (b:GR S G):GR S' G:=fun g a=>let ⟨c,d⟩:=b g a;⟨c,h _ _ d⟩
structure kr (w w':World):Prop where
 os:w'.os=w.os
 out:w'.output=w.output
 tape:w'.tape=w.tape
 size:w.heap.size<=w'.heap.size
 same:∀r:Nat,r<w.heap.size->w'.heap[r]?=w.heap[r]?
def lB (w:World) (x:Nat×List V):Prop:=∃c e fr,w.heap[x.1]?=some (.cells c e fr)/\x.2.length<=c.size/\∀(i:Nat) (v:V),x.2[i]?=some v->∃y,c[i]?=some y/\H (fun _=>none) v y
def EO (P:Program) (gl:Nat) (laid:List (Nat×List V)) (f:Nat) (args:List V) (v:V):Prop:=
 ∀(w:World) (xs:Array Value),gl<=w.heap.size->HG w->(∀x∈laid,lB w x)->dp (fun _=>none) args xs.toList->Calls P f xs w fun e w'=>∃x,e= .returned x/\H (fun _=>none) v x/\kr w w'
structure AQ (P:Program) (G:Cx):Prop where
 ov:∀g,G.ov g=true->rR P g
 HD:∀f args v,G.HD f args=some v->EO P G.gl G.laid f args v
 mem:∀e∈G.mem,True
 HB:∀f args U v,G.HB f args U=some v->∀(S:dh) (w:World) (xs:Array Value),Inv S U w->dp S args xs.toList->Calls P f xs w fun e w'=>∃x S',e= .returned x/\H S' v x/\Inv S' U w'/\eY S U w S' U w'
structure Sound (P:Program) (G:Cx) (ih:lf):Prop where
 cx:AQ P G
 run:∀(c:Code) (t:N V) (n:Nat) (d:List DE) (ro:Option Pos) (U:D) (e:Ex) (t':N V) (d':List DE) (U':D),ih c t n d ro U= .ok e t' d' U'->
  ∀(S:dh) (w:World) (a:Act) (rl:Option Nat) (m:Nat) (Q:Exit->Act->World->Prop),Inv S U w->GR S G->TR S t n a.tmps->DR S d a.defers->RO S ro rl->
   (∀(S':dh) (w':World) (a':Act),Inv S' U' w'->eY S U w S' U' w'->TR S' t' n a'.tmps->DR S' d' a'.defers->Qx Q S' e a' w')->c.wpIn (oO rl) m P Q a w
section
variable {P:Program} {G:Cx} {S:dh} {U:D} {w:World}
theorem TR.set {t:N V} {n k:Nat} {tmps:Array Value} {v:V} {x:Value} (h:TR S t n tmps) (a:k<n) (b:H S v x):TR S (t.put (some v)<|posOf k) n (tmps.setIfInBounds k x):=by
 refine⟨by simpa using h.1,fun j u hu=>?_⟩
 by_cases e:j=k
 ·subst e;rw[N.dA] at hu;cases hu;refine⟨a,?_⟩;have:j<tmps.size:=by rw[h.1];exact a
  simpa [Array.getD_eq_getD_getElem?,this] using b
 rw[N.dv _ _ _ _ (fun h'=>e (qW h'))] at hu;obtain⟨c,d⟩:=h.2 j u hu;refine⟨c,?_⟩
 have:(tmps.setIfInBounds k x).getD j undef=tmps.getD j undef:=by
  simp only[Array.getD_eq_getD_getElem?,Array.getElem?_setIfInBounds];rw[if_neg (fun h'=>e h'.symm)]
 rw[this];exact d
theorem ua {t t':N V} {n k:Nat} {v:V} (h:dI t n (some k) v=some t'):k<n/\t'=t.put (some v) (posOf k):=by
 unfold dI at h;simp only[bA] at h;split at h
 ·rename_i a;cases h;exact⟨Nat.le_of_ble_eq_true a,Z⟩
 cases h
theorem TR.put {t t':N V} {n:Nat} {a:Act} {dst:Option Tmp} {v:V} {x:Value} (h:TR S t n a.tmps) (b:dI t n dst v=some t') (c:H S v x):TR S t' n (a.put dst x).tmps:=by
 cases dst with
 | none=>cases b;exact h
 | some k=>
  obtain⟨d,rfl⟩:=ua b;exact h.set d c
theorem put_defers (a:Act) (dst:Option Tmp) (x:Value):(a.put dst x).defers=a.defers:=by cases dst<;>rfl
theorem vn:H S unit undef:=by simp only[unit,H];exact⟨_,Z,dp.nil⟩
theorem kF {t:N V} {n:Nat} {a:Act} {x:Operand} {v:V} (d:GR S G) (e:TR S t n a.tmps) (h:bE G t x=some v):H S v (a.eval x):=by
 cases x with
 | tmp k=>exact(e.2 k v h).2
 | const c=>exact qc h
 | global g=>
  simp only[bE,bA] at h;split at h
  ·rename_i b;cases h;obtain⟨c,i⟩:=d g (Nat.le_of_ble_eq_true b);simp only[H];exact⟨_,i,by simp[Act.eval]⟩
  cases h
 | func f=>
  cases h;simp only[H];exact⟨_,_,Z,dp.nil,dp.nil⟩
theorem LW {t:N V} {n:Nat} {a:Act} (op:Op) (b:GR S G) (c:TR S t n a.tmps):ER S (bE G t) a.eval op:=fun _ _ _ d=>kF b c d
theorem zn {ops:Array Oper} {t:N V} {o:Oper} {b:Bool} {tmps:Array Value} (h:bM ops t o=some b)
  (l:∀j want k,o.guard=some (j,want)->(ops[j]?).bind (·.dst)=some k->∀v,t.get (posOf k)=some v->k<tmps.size/\H S v (tmps.getD k undef)):
  Region.wanted o (yielded ops tmps)=b:=by
 unfold bM at h;unfold Region.wanted;cases f:o.guard with
 | none=>rw[f] at h;cases h;rfl
 | some jw=>
  obtain⟨j,want⟩:=jw;rw[f] at h;dsimp only at h⊢;cases d:(ops[j]?).bind (·.dst) with
  | none=>
   rw[d] at h;cases h;simp[yielded,d]
  | some k=>
   rw[d] at h;dsimp only at h;cases g:t.get (posOf k) with
   | none=>rw[g] at h;cases h
   | some v=>
    rw[g] at h;obtain⟨i,e⟩:=l j want k f d v g
    have a:tmps[k]?=some (tmps.getD k undef):=by
     rw[Array.getD_eq_getD_getElem?,aG_ i];rfl
    generalize tmps.getD k undef=x at e a;cases v with
    | bool c=>
     simp only[H] at e;subst e;simp only[yielded,d,Option.bind_some,a];cases h;cases c<;>cases want<;>rfl
    | tuple cs=>
     simp only[H] at e;obtain⟨y,rfl,_⟩:=e;cases h;simp[yielded,d,a]
    | _=>cases h
theorem AI {ops:Array Oper} {t:N V} {o:Oper} {b:Bool} {n:Nat} {tmps:Array Value} (h:bM ops t o=some b) (a:TR S t n tmps):Region.wanted o (yielded ops tmps)=b:=
 zn h fun _ _ k _ _ v c=>⟨by rw[a.1];exact(a.2 k v c).1,(a.2 k v c).2⟩
theorem Df {n:Nat} {args:List V} {xs:Array Value} {t:N V} (h:ry n args=some t) (b:dp S args xs.toList):TR S t n (xs++Array.replicate (n-xs.size) undef):=by
 have key:∀(args:List V) (ys:List Value) (k:Nat) (t t':N V),(List.rec (motive:=fun _=>Nat->N V->Option (N V)) (fun _ t=>some t) (fun v _ ih k t=>match dI t n (some k) v with | some t'=>ih (Nat.succ k) t' | none=>none) args:Nat->N V->Option (N V)) k t=some t'->
   dp S args ys->(∀j v,t.get (posOf j)=some v->j<k/\j<n)->
   (∀j v,t'.get (posOf j)=some v->j<n/\((j<k/\t.get (posOf j)=some v)∨∃y,k<=j/\ys[j-k]?=some y/\H S v y))/\(args= []∨k+args.length<=n):=by
  intro args;induction args with
  | nil=>
   intro ys k t t' h b f;have h':some t=some t':=h;cases h';exact⟨fun j v a=>⟨(f j v a).2,.inl ⟨(f j v a).1,a⟩⟩,.inl Z⟩
  | cons v args ih=>
   intro ys k t t' h b f;obtain⟨x,r,rfl,p,q⟩:=b.cons_inv;dsimp only at h;cases i:dI t n (some k) v with
   | none=>rw[i] at h;cases h
   | some t₁=>
    rw[i] at h;obtain⟨s,rfl⟩:=ua i
    obtain⟨g1,c⟩:=ih r (k+1) _ t' h q (fun j u a=>by
     by_cases e:j=k
     ·subst e;exact⟨by omega,s⟩
     rw[N.dv _ _ _ _ (fun h'=>e (qW h'))] at a;have:=f j u a;exact⟨by omega,this.2⟩)
    refine⟨fun j u a=>?_,.inr ?_⟩
    ·obtain⟨q1,q2⟩:=g1 j u a;refine⟨q1,?_⟩;rcases q2 with ⟨l,g⟩ | ⟨y,hle,d,m⟩
     ·by_cases e:j=k
      ·subst e;rw[N.dA] at g;cases g;exact .inr ⟨x,nR_ _,by simp,p⟩
      rw[N.dv _ _ _ _ (fun h'=>e (qW h'))] at g;exact .inl ⟨by omega,g⟩
     refine .inr ⟨y,by omega,?_,m⟩;have:j-k=(j-(k+1))+1:=by omega
     rw[this];simpa using d
    rcases c with rfl | c
    ·simp;omega
    simp;omega
 obtain⟨g1,c⟩:=key args xs.toList 0 .leaf t h b (fun j v a=>by rw[N.mE] at a;cases a);have hlen:=b.length
 have hle:xs.size<=n:=by
  rcases c with rfl | c
  ·simp at hlen;rw[hlen];simp
  simp at hlen;omega
 refine⟨by simp;omega,fun j v a=>?_⟩;obtain⟨q1,q2⟩:=g1 j v a;refine⟨q1,?_⟩;rcases q2 with ⟨l,_⟩ | ⟨y,_,d,m⟩
 ·omega
 rw[Nat.sub_zero] at d;have o:j<xs.size:=by simpa using (gA.1 d).1
 have:(xs++Array.replicate (n-xs.size) undef).getD j undef=y:=by
  rw[Array.getD_eq_getD_getElem?,Array.getElem?_append_left o,<-aT_,d];rfl
 rw[this];exact m
def Jt (tmps:Array Value):ResultVar->Sem Value
 | .tmp t=>pure (tmps.getD t undef)
 | .cell a t=>do loadVar t (<-asAddr (tmps.getD a undef))
theorem ss (fn:Func) (tmps:Array Value):results fn tmps=(fn.results.mapM (Jt tmps)>>= fun vs=>pure (if h:vs.size=1 then vs[0] else .tuple vs)):=rfl
theorem Ak (g:Inv S U w) {t:N V} {n:Nat} {tmps:Array Value} (f:TR S t n tmps) {r:ResultVar} {v:V} (h:g9 P t U r=some v):
  ∃x,(Jt tmps r).run P w= .ok x w/\H S v x:=by
 cases r with
 | tmp k=>exact⟨_,Z,(f.2 k v h).2⟩
 | cell k ty=>
  simp only[g9] at h;cases a:t.get (posOf k) with
  | none=>rw[a] at h;cases h
  | some u=>
   rw[a] at h;have hvx:=(f.2 k u a).2;cases u with
   | ptr b off=>
    dsimp only at h;cases c:U.m.get b with
    | none=>rw[c] at h;cases h
    | some ob=>
     rw[c] at h;cases ob with
     | row cells e ro=>
      simp only[H] at hvx;obtain⟨l,i,d⟩:=hvx;obtain⟨y,j,o⟩:=nE (P:=P) g c i h;refine⟨y,?_,o⟩;simp[Jt,d,asAddr,j]
     | _=>cases h
   | _=>cases h
theorem ql (c:Inv S U w) {t:N V} {n:Nat} {tmps:Array Value} (d:TR S t n tmps):∀{rs:List ResultVar} {vs:List V},cW (g9 P t U) rs=some vs->
  ∃xs:List Value,(rs.mapM (Jt tmps):Sem (List Value)).run P w= .ok xs w/\dp S vs xs
 | [],vs,h=>by rw[iK] at h;cases h;exact⟨[],by simp,dp.nil⟩
 | r::rs,vs,h=>by
  obtain⟨y,r',e,f,rfl⟩:=gX h;obtain⟨x,g,i⟩:=Ak (P:=P) c d e;obtain⟨xs,a,b⟩:=ql c d f;refine⟨x::xs,?_,dp.cons i b⟩;simp only[List.mapM_cons,sB_,g,rA,a,sP_]
theorem yh (d:Inv S U w) {fn:Func} {t:N V} {n:Nat} {tmps:Array Value} (e:TR S t n tmps) {v:V} (h:fm P fn t U=some v):
  ∃x,(results fn tmps).run P w= .ok x w/\H S v x:=by
 unfold fm at h;cases a:cW (g9 P t U) fn.results.toList with
 | none=>rw[a] at h;cases h
 | some vs=>
  rw[a] at h;obtain⟨xs,f,b⟩:=ql (P:=P) d e a
  have hm:(fn.results.mapM (Jt tmps):Sem (Array Value)).run P w= .ok xs.toArray w:=by
   rw[Array.mapM_eq_mapM_toList];simp only[Sem.run_map,f,rA]
  cases vs with
  | nil=>
   cases h;have:=b.eQ;subst this;refine⟨.tuple #[],by rw[ss,sB_,hm];rfl,by simp only[H];exact⟨_,Z,dp.nil⟩⟩
  | cons u us=>
   obtain⟨x,r,rfl,g,c⟩:=b.cons_inv;cases us with
   | nil=>
    cases h;have:=c.eQ;subst this;exact⟨x,by rw[ss,sB_,hm];rfl,g⟩
   | cons u' us=>
    cases h;obtain⟨x',r',rfl,h3,h4⟩:=c.cons_inv;refine⟨.tuple (x::x'::r').toArray,by rw[ss,sB_,hm];rfl,by simp only[H];exact⟨_,Z,by simpa using b⟩⟩
end
end Go.Ev
end
