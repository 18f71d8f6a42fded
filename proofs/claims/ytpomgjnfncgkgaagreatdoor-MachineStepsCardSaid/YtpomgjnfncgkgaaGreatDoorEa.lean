/- Part of the proof: an evaluator of the model's code, rules for walks on it, walks. Without conditions. -/
import Derived.CallsIn
import Derived.Laws.World
import Derived.KernelRfl
import Derived.Laws.AppendOwn
import Derived.Laws.Strings
import Derived.Great.BuildSlice
import Derived.Laws.Tables
import Derived.Laws.MakeOwn
import Derived.Laws.StructEq
import Derived.Laws.Small
import Derived.ChangeKeysEq
import Derived.LaidEql
import Derived.Lib.Strings
import Derived.Lib.Builder
import Derived.Lib.Overlaps
import Derived.Laws.IdiomStrings
import Derived.Lib.UnsafeStr
import Derived.Lib.ConvBytes
set_option linter.unusedSectionVars false
set_option linter.unusedVariables false
set_option linter.unusedSimpArgs false
noncomputable section
namespace Go.Ev
theorem gA:type_of% @List.getElem?_eq_some_iff:= @List.getElem?_eq_some_iff
theorem gB_:type_of% @List.mem_of_getElem?:= @List.mem_of_getElem?
theorem rA:type_of% @Result.andThen_ok:= @Result.andThen_ok
theorem gC:type_of% @List.getElem?_eq_getElem:= @List.getElem?_eq_getElem
theorem nB:type_of% @Nat.eq_of_beq_eq_true:= @Nat.eq_of_beq_eq_true
theorem bA_:type_of% @Bool.and_eq_true:= @Bool.and_eq_true
theorem sB_:type_of% @Sem.run_bind:= @Sem.run_bind
theorem sP_:type_of% @Sem.run_pure:= @Sem.run_pure
theorem nE_:type_of% @Nat.ble_eq:= @Nat.ble_eq
theorem lT_:type_of% @List.length_take:= @List.length_take
theorem oJ_:type_of% @Option.some.injEq:= @Option.some.injEq
theorem lA_:type_of% @List.length_append:= @List.length_append
theorem mC_:type_of% @List.mem_cons_of_mem:= @List.mem_cons_of_mem
theorem lM_:type_of% @List.length_map:= @List.length_map
theorem aT_:type_of% @Array.getElem?_toList:= @Array.getElem?_toList
theorem mS_:type_of% @List.mem_cons_self:= @List.mem_cons_self
theorem gM_:type_of% @List.getElem?_map:= @List.getElem?_map
theorem gL_:type_of% @List.getElem?_append_left:= @List.getElem?_append_left
theorem gO_:type_of% @List.getElem?_of_mem:= @List.getElem?_of_mem
theorem tL_:type_of% @List.take_of_length_le:= @List.take_of_length_le
theorem aE_:type_of% @List.all_eq_true:= @List.all_eq_true
theorem eN_:type_of% @List.eq_nil_of_length_eq_zero:= @List.eq_nil_of_length_eq_zero
theorem gN_:type_of% @List.getElem?_eq_none:= @List.getElem?_eq_none
theorem lD_:type_of% @List.length_drop:= @List.length_drop
theorem mQ_:type_of% @List.mem_cons:= @List.mem_cons
theorem nM_:type_of% @Nat.mul_le_mul_right:= @Nat.mul_le_mul_right
theorem oM_:type_of% @Option.map_eq_some_iff:= @Option.map_eq_some_iff
theorem lQ_:type_of% @List.append_assoc:= @List.append_assoc
theorem nZ_:type_of% @Nat.not_lt_zero:= @Nat.not_lt_zero
theorem nR_:type_of% @Nat.le_refl:= @Nat.le_refl
theorem nA_:type_of% @Nat.zero_add:= @Nat.zero_add
theorem iJ_:type_of% @Int.ofNat.inj:= @Int.ofNat.inj
theorem gR_:type_of% @List.getElem?_append_right:= @List.getElem?_append_right
theorem eR_:type_of% @List.eq_of_mem_replicate:= @List.eq_of_mem_replicate
theorem aG_:type_of% @Array.getElem?_eq_getElem:= @Array.getElem?_eq_getElem
theorem aS_:type_of% @Array.getElem?_eq_some_iff:= @Array.getElem?_eq_some_iff
theorem Z {α:Sort _} {a:α}:a=a:=rfl
theorem Y {p:Prop} (h:p:=by kernel_rfl):p:=h
theorem B {p:Prop} (h:p:=by omega):p:=h
abbrev Pos:=Nat
abbrev Pos.succ (p:Pos):Pos:=Nat.succ p
abbrev Pos.num (p:Pos):Nat:=p
theorem Pos.jt (p:Pos):p.succ.num=p.num+1:=rfl
abbrev posOf (n:Nat):Pos:=n
theorem qW {m n:Nat} (h:posOf m=posOf n):m=n:=h
structure kD (α:Type) where
 c0:α
 c1:α
 c2:α
 c3:α
 c4:α
 c5:α
 c6:α
 c7:α
 c8:α
 c9:α
 rW:α
 rX:α
 rY:α
 rZ:α
 r3:α
 r4:α
structure CY (α:Type) where
 run:kD α->α
structure CZ (α:Type) where
 run:kD α->α->kD α
section
variable {α:Type}
def kh (n:Nat):CY α:=(Bool.rec (motive:=fun _=>CY α) (Bool.rec (motive:=fun _=>CY α) (Bool.rec (motive:=fun _=>CY α) (Bool.rec (motive:=fun _=>CY α) ⟨fun t=>t.c0⟩ ⟨fun t=>t.c1⟩<|Nat.ble 1 n) (Bool.rec (motive:=fun _=>CY α) ⟨fun t=>t.c2⟩ ⟨fun t=>t.c3⟩<|Nat.ble 3 n)<|Nat.ble 2 n) (Bool.rec (motive:=fun _=>CY α) (Bool.rec (motive:=fun _=>CY α) ⟨fun t=>t.c4⟩ ⟨fun t=>t.c5⟩<|Nat.ble 5 n) (Bool.rec (motive:=fun _=>CY α) ⟨fun t=>t.c6⟩ ⟨fun t=>t.c7⟩<|Nat.ble 7 n)<|Nat.ble 6 n)<|Nat.ble 4 n) (Bool.rec (motive:=fun _=>CY α) (Bool.rec (motive:=fun _=>CY α) (Bool.rec (motive:=fun _=>CY α) ⟨fun t=>t.c8⟩ ⟨fun t=>t.c9⟩<|Nat.ble 9 n) (Bool.rec (motive:=fun _=>CY α) ⟨fun t=>t.rW⟩ ⟨fun t=>t.rX⟩<|Nat.ble 11 n)<|Nat.ble 10 n) (Bool.rec (motive:=fun _=>CY α) (Bool.rec (motive:=fun _=>CY α) ⟨fun t=>t.rY⟩ ⟨fun t=>t.rZ⟩<|Nat.ble 13 n) (Bool.rec (motive:=fun _=>CY α) ⟨fun t=>t.r3⟩ ⟨fun t=>t.r4⟩<|Nat.ble 15 n)<|Nat.ble 14 n)<|Nat.ble 12 n)<|Nat.ble 8 n)
def xM (n:Nat):CZ α:=(Bool.rec (motive:=fun _=>CZ α) (Bool.rec (motive:=fun _=>CZ α) (Bool.rec (motive:=fun _=>CZ α) (Bool.rec (motive:=fun _=>CZ α) ⟨fun t v=>kD.rec (motive:=fun _=>kD α) (fun _ c1 c2 c3 c4 c5 c6 c7 c8 c9 rW rX rY rZ r3 r4=>⟨v,c1,c2,c3,c4,c5,c6,c7,c8,c9,rW,rX,rY,rZ,r3,r4⟩) t⟩ ⟨fun t v=>kD.rec (motive:=fun _=>kD α) (fun c0 _ c2 c3 c4 c5 c6 c7 c8 c9 rW rX rY rZ r3 r4=>⟨c0,v,c2,c3,c4,c5,c6,c7,c8,c9,rW,rX,rY,rZ,r3,r4⟩) t⟩<|Nat.ble 1 n) (Bool.rec (motive:=fun _=>CZ α) ⟨fun t v=>kD.rec (motive:=fun _=>kD α) (fun c0 c1 _ c3 c4 c5 c6 c7 c8 c9 rW rX rY rZ r3 r4=>⟨c0,c1,v,c3,c4,c5,c6,c7,c8,c9,rW,rX,rY,rZ,r3,r4⟩) t⟩ ⟨fun t v=>kD.rec (motive:=fun _=>kD α) (fun c0 c1 c2 _ c4 c5 c6 c7 c8 c9 rW rX rY rZ r3 r4=>⟨c0,c1,c2,v,c4,c5,c6,c7,c8,c9,rW,rX,rY,rZ,r3,r4⟩) t⟩<|Nat.ble 3 n)<|Nat.ble 2 n) (Bool.rec (motive:=fun _=>CZ α) (Bool.rec (motive:=fun _=>CZ α) ⟨fun t v=>kD.rec (motive:=fun _=>kD α) (fun c0 c1 c2 c3 _ c5 c6 c7 c8 c9 rW rX rY rZ r3 r4=>⟨c0,c1,c2,c3,v,c5,c6,c7,c8,c9,rW,rX,rY,rZ,r3,r4⟩) t⟩ ⟨fun t v=>kD.rec (motive:=fun _=>kD α) (fun c0 c1 c2 c3 c4 _ c6 c7 c8 c9 rW rX rY rZ r3 r4=>⟨c0,c1,c2,c3,c4,v,c6,c7,c8,c9,rW,rX,rY,rZ,r3,r4⟩) t⟩<|Nat.ble 5 n) (Bool.rec (motive:=fun _=>CZ α) ⟨fun t v=>kD.rec (motive:=fun _=>kD α) (fun c0 c1 c2 c3 c4 c5 _ c7 c8 c9 rW rX rY rZ r3 r4=>⟨c0,c1,c2,c3,c4,c5,v,c7,c8,c9,rW,rX,rY,rZ,r3,r4⟩) t⟩ ⟨fun t v=>kD.rec (motive:=fun _=>kD α) (fun c0 c1 c2 c3 c4 c5 c6 _ c8 c9 rW rX rY rZ r3 r4=>⟨c0,c1,c2,c3,c4,c5,c6,v,c8,c9,rW,rX,rY,rZ,r3,r4⟩) t⟩<|Nat.ble 7 n)<|Nat.ble 6 n)<|Nat.ble 4 n) (Bool.rec (motive:=fun _=>CZ α) (Bool.rec (motive:=fun _=>CZ α) (Bool.rec (motive:=fun _=>CZ α) ⟨fun t v=>kD.rec (motive:=fun _=>kD α) (fun c0 c1 c2 c3 c4 c5 c6 c7 _ c9 rW rX rY rZ r3 r4=>⟨c0,c1,c2,c3,c4,c5,c6,c7,v,c9,rW,rX,rY,rZ,r3,r4⟩) t⟩ ⟨fun t v=>kD.rec (motive:=fun _=>kD α) (fun c0 c1 c2 c3 c4 c5 c6 c7 c8 _ rW rX rY rZ r3 r4=>⟨c0,c1,c2,c3,c4,c5,c6,c7,c8,v,rW,rX,rY,rZ,r3,r4⟩) t⟩<|Nat.ble 9 n) (Bool.rec (motive:=fun _=>CZ α) ⟨fun t v=>kD.rec (motive:=fun _=>kD α) (fun c0 c1 c2 c3 c4 c5 c6 c7 c8 c9 _ rX rY rZ r3 r4=>⟨c0,c1,c2,c3,c4,c5,c6,c7,c8,c9,v,rX,rY,rZ,r3,r4⟩) t⟩ ⟨fun t v=>kD.rec (motive:=fun _=>kD α) (fun c0 c1 c2 c3 c4 c5 c6 c7 c8 c9 rW _ rY rZ r3 r4=>⟨c0,c1,c2,c3,c4,c5,c6,c7,c8,c9,rW,v,rY,rZ,r3,r4⟩) t⟩<|Nat.ble 11 n)<|Nat.ble 10 n) (Bool.rec (motive:=fun _=>CZ α) (Bool.rec (motive:=fun _=>CZ α) ⟨fun t v=>kD.rec (motive:=fun _=>kD α) (fun c0 c1 c2 c3 c4 c5 c6 c7 c8 c9 rW rX _ rZ r3 r4=>⟨c0,c1,c2,c3,c4,c5,c6,c7,c8,c9,rW,rX,v,rZ,r3,r4⟩) t⟩ ⟨fun t v=>kD.rec (motive:=fun _=>kD α) (fun c0 c1 c2 c3 c4 c5 c6 c7 c8 c9 rW rX rY _ r3 r4=>⟨c0,c1,c2,c3,c4,c5,c6,c7,c8,c9,rW,rX,rY,v,r3,r4⟩) t⟩<|Nat.ble 13 n) (Bool.rec (motive:=fun _=>CZ α) ⟨fun t v=>kD.rec (motive:=fun _=>kD α) (fun c0 c1 c2 c3 c4 c5 c6 c7 c8 c9 rW rX rY rZ _ r4=>⟨c0,c1,c2,c3,c4,c5,c6,c7,c8,c9,rW,rX,rY,rZ,v,r4⟩) t⟩ ⟨fun t v=>kD.rec (motive:=fun _=>kD α) (fun c0 c1 c2 c3 c4 c5 c6 c7 c8 c9 rW rX rY rZ r3 _=>⟨c0,c1,c2,c3,c4,c5,c6,c7,c8,c9,rW,rX,rY,rZ,r3,v⟩) t⟩<|Nat.ble 15 n)<|Nat.ble 14 n)<|Nat.ble 12 n)<|Nat.ble 8 n)
theorem GX {n:Nat} (h:n<16):n=0∨n=1∨n=2∨n=3∨n=4∨n=5∨n=6∨n=7∨n=8∨n=9∨n=10∨n=11∨n=12∨n=13∨n=14∨n=15:=by omega
theorem Ct (n:Nat) (t:kD α) (v:α) (hn:n<16):(kh n).run ((xM n).run t v)=v:=by
 rcases GX hn with rfl | rfl | rfl | rfl | rfl | rfl | rfl | rfl | rfl | rfl | rfl | rfl | rfl | rfl | rfl | rfl<;>rfl
theorem FY (n:Nat) (t:kD α) (v u:α) (hn:n<16):(xM n).run ((xM n).run t v) u=(xM n).run t u:=by
 rcases GX hn with rfl | rfl | rfl | rfl | rfl | rfl | rfl | rfl | rfl | rfl | rfl | rfl | rfl | rfl | rfl | rfl<;>rfl
theorem Hj (m n:Nat) (t:kD α) (v:α) (hm:m<16) (hn:n<16) (h:m≠n):(kh m).run ((xM n).run t v)=(kh m).run t:=by
 rcases GX hm with rfl | rfl | rfl | rfl | rfl | rfl | rfl | rfl | rfl | rfl | rfl | rfl | rfl | rfl | rfl | rfl<;>rcases GX hn with rfl | rfl | rfl | rfl | rfl | rfl | rfl | rfl | rfl | rfl | rfl | rfl | rfl | rfl | rfl | rfl<;>first | rfl | exact absurd rfl h
theorem FO (m n:Nat) (t:kD α) (v:α) (hm:m<16) (hn:n<16):(kh m).run ((xM n).run t v)=if m=n then v else(kh m).run t:=by
 by_cases h:m=n
 ·subst h;rw[if_pos Z,Ct _ _ _ hn]
 rw[if_neg h,Hj _ _ _ _ hm hn h]
abbrev jN (α:Type):=kD (kD α)
def jV (t:jN α) (k:Nat):α:=(kh<|Nat.mod k 16).run ((kh<|Nat.div k 16).run t)
def pF (t:jN α) (k:Nat) (v:α):jN α:=(xM<|Nat.div k 16).run t ((xM<|Nat.mod k 16).run ((kh<|Nat.div k 16).run t) v)
theorem mF (t:jN α) (k j:Nat) (v:α) (hk:k<256) (hj:j<256):jV (pF t k v) j=if j=k then v else jV t j:=by
 have e:∀n m:Nat,Nat.mod n m=n%m:=fun _ _=>Z
 have e':∀n m:Nat,Nat.div n m=n/m:=fun _ _=>Z
 simp only[jV,pF,e,e'];rw[FO _ _ _ _ B B]
 by_cases h1:j/16=k/16
 ·rw[if_pos h1,FO _ _ _ _ B B]
  by_cases h4:j%16=k%16
  ·rw[if_pos h4,if_pos B]
  rw[if_neg h4,if_neg B,h1]
 rw[if_neg h1,if_neg B]
theorem xl (t:jN α) (k:Nat) (v u:α) (hk:k<256):pF (pF t k v) k u=pF t k u:=by
 have h1:Nat.mod k 16<16:=Nat.mod_lt _ B;have h2:Nat.div k 16<16:=Nat.div_lt_of_lt_mul hk;simp only[pF,Ct _ _ _ h2,FY _ _ _ _ h2,FY _ _ _ _ h1]
def kD.all (x:α):kD α:=⟨x,x,x,x,x,x,x,x,x,x,x,x,x,x,x,x⟩
def jN.all (x:α):jN α:=kD.all (kD.all x)
theorem FN (n:Nat) (y:α) (hn:n<16):(kh n).run (kD.all y)=y:=by
 rcases GX hn with rfl | rfl | rfl | rfl | rfl | rfl | rfl | rfl | rfl | rfl | rfl | rfl | rfl | rfl | rfl | rfl<;>rfl
theorem wA (x:α) (k:Nat) (hk:k<256):jV (jN.all x) k=x:=by
 have h1:Nat.mod k 16<16:=Nat.mod_lt _ B;have h2:Nat.div k 16<16:=Nat.div_lt_of_lt_mul hk;simp only[jV,jN.all,FN _ _ h1,FN _ _ h2]
def s5 (v:Option α) (n:Nat):List (Option α)->List (Option α):=
 Nat.rec (motive:=fun _=>List (Option α)->List (Option α)) (fun l=>List.rec (motive:=fun _=>List<|Option α) [v] (fun _ r _=>v::r) l)
  (fun _ ih l=>List.rec (motive:=fun _=>List<|Option α) (none::ih []) (fun x r _=>x::ih r) l) n
def GB (l:List (Option α)):Nat->Option α:=
 List.rec (motive:=fun _=>Nat->Option α) (fun _=>none) (fun x _ ih n=>Nat.rec (motive:=fun _=>Option α) x (fun m _=>ih m) n) l
theorem wD (v:Option α):∀(k:Nat) (l:List (Option α)) (j:Nat),GB (s5 v k l) j=if j=k then v else GB l j
 | 0,[],0=>rfl
 | 0,[],j+1=>by rw[if_neg B];rfl
 | 0,x::r,0=>rfl
 | 0,x::r,j+1=>by rw[if_neg B];rfl
 | k+1,[],0=>by rw[if_neg B];rfl
 | k+1,[],j+1=>by
  show GB (s5 v k []) j=_;rw[wD v k [] j]
  by_cases h:j=k
  ·rw[if_pos h,if_pos B]
  rw[if_neg h,if_neg B];rfl
 | k+1,x::r,0=>by rw[if_neg B];rfl
 | k+1,x::r,j+1=>by
  show GB (s5 v k r) j=_;rw[wD v k r j]
  by_cases h:j=k
  ·rw[if_pos h,if_pos B]
  rw[if_neg h,if_neg B];rfl
theorem xm (v u:Option α):∀(k:Nat) (l:List (Option α)),s5 u k (s5 v k l)=s5 u k l
 | 0,[]=>rfl
 | 0,x::r=>rfl
 | k+1,[]=>by
  show none::s5 u k (s5 v k [])=none::s5 u k [];rw[xm v u k []]
 | k+1,x::r=>by
  show x::s5 u k (s5 v k r)=x::s5 u k r;rw[xm v u k r]
structure N (α:Type) where
 s:jN (Option α)
 m:jN (jN<|Option α)
 l:List (Option α)
def N.leaf:N α:=⟨jN.all none,jN.all<|jN.all none,[]⟩
def N.GA (t:N α) (p:Nat):Option α:=
 Bool.rec (motive:=fun _=>Option α) (Bool.rec (motive:=fun _=>Option α) (GB t.l p) (jV (jV t.m<|Nat.div p 256)<|Nat.mod p 256)<|Nat.ble p 65535) (jV t.s p) (Nat.ble p 255)
def N.Hd (o:Option α) (t:N α) (p:Nat):N α:=
 Bool.rec (motive:=fun _=>N α) (Bool.rec (motive:=fun _=>N α) (N.rec (motive:=fun _=>N α) (fun s m l=>⟨s,m,s5 o p l⟩) t)
  (N.rec (motive:=fun _=>N α) (fun s m l=>⟨s,pF m (Nat.div p 256)<|pF (jV m<|Nat.div p 256) (Nat.mod p 256) o,l⟩) t)<|Nat.ble p 65535)
  (N.rec (motive:=fun _=>N α) (fun s m l=>⟨pF s p o,m,l⟩) t) (Nat.ble p 255)
def N.get (t:N α) (p:Pos):Option α:=Nat.rec (motive:=fun _=>Option α) (t.GA 0) (fun m _=>t.GA (Nat.succ m)) p
def N.put (o:Option α) (t:N α) (p:Pos):N α:=Nat.rec (motive:=fun _=>N α) (t.Hd o 0) (fun m _=>t.Hd o (Nat.succ m)) p
theorem N.get_eq (t:N α) (p:Nat):t.get p=t.GA p:=by cases p<;>rfl
theorem N.put_eq (o:Option α) (t:N α) (p:Nat):t.put o p=t.Hd o p:=by cases p<;>rfl
theorem sE (m n:Nat):Nat.blt m n=true↔m<n:=by simp[Nat.blt,Nat.lt_iff_add_one_le]
theorem oG (m n:Nat):Nat.ble m n=true↔m<n+1:=by rw[nE_,Nat.lt_succ_iff]
theorem tF {m n:Nat} (h:¬m<n+1):Nat.ble m n=false:=by
 cases hb:Nat.ble m n with
 | true=>exact absurd ((oG m n).1 hb) h
 | false=>rfl
theorem N.pY (t:N α) {p:Nat} (h:p<256):t.get p=jV t.s p:=by rw[N.get_eq];unfold N.GA;rw[(oG p 255).2 h]
theorem N.wC (t:N α) {p:Nat} (h:¬p<256) (h':p<65536):t.get p=jV (jV t.m<|Nat.div p 256) (Nat.mod p 256):=by
 rw[N.get_eq];unfold N.GA;rw[tF (n:=255) h,(oG p 65535).2 h']
theorem N.wB (t:N α) {p:Nat} (h:¬p<65536):t.get p=GB t.l p:=by
 rw[N.get_eq];unfold N.GA;rw[tF (n:=255) B,tF (n:=65535) h]
theorem N.s7 (o:Option α) (s:jN (Option α)) (m:jN (jN<|Option α)) (l:List (Option α)) {p:Nat} (h:p<256):(N.mk s m l).put o p=⟨pF s p o,m,l⟩:=by rw[N.put_eq];unfold N.Hd;rw[(oG p 255).2 h]
theorem N.FG (o:Option α) (s:jN (Option α)) (m:jN (jN<|Option α)) (l:List (Option α)) {p:Nat} (h:¬p<256) (h':p<65536):
  (N.mk s m l).put o p=⟨s,pF m (Nat.div p 256)<|pF (jV m<|Nat.div p 256) (Nat.mod p 256) o,l⟩:=by
 rw[N.put_eq];unfold N.Hd;rw[tF (n:=255) h,(oG p 65535).2 h']
theorem N.FF (o:Option α) (s:jN (Option α)) (m:jN (jN<|Option α)) (l:List (Option α)) {p:Nat} (h:¬p<65536):(N.mk s m l).put o p=⟨s,m,s5 o p l⟩:=by
 rw[N.put_eq];unfold N.Hd;rw[tF (n:=255) B,tF (n:=65535) h]
theorem N.mE (p:Nat):(N.leaf:N α).get p=none:=by
 by_cases h1:p<256
 ·rw[N.pY _ h1];exact wA _ _ h1
 by_cases h2:p<65536
 ·rw[N.wC _ h1 h2];show jV (jV (jN.all<|jN.all none) _) _=none;have u:Nat.div p 256<256:=Nat.div_lt_of_lt_mul h2;have hm:Nat.mod p 256<256:=Nat.mod_lt _ B;rw[wA _ _ u,wA _ _ hm]
 rw[N.wB _ h2];rfl
theorem N.lW (o:Option α) (t:N α) (p q:Nat):(t.put o p).get q=if q=p then o else t.get q:=by
 cases t with
 | mk s m l=>
 by_cases h1:p<256
 ·rw[N.s7 o s m l h1]
  by_cases h2:q<256
  ·rw[N.pY _ h2,N.pY _ h2];exact mF s p q o h1 h2
  rw[if_neg B]
  by_cases u:q<65536
  ·rw[N.wC _ h2 u,N.wC _ h2 u]
  rw[N.wB _ u,N.wB _ u]
 by_cases u:p<65536
 ·rw[N.FG o s m l h1 u]
  by_cases h2:q<256
  ·rw[if_neg B,N.pY _ h2,N.pY _ h2]
  by_cases h4:q<65536
  ·rw[N.wC _ h2 h4,N.wC _ h2 h4];have hp:Nat.div p 256<256:=Nat.div_lt_of_lt_mul u;have hq:Nat.div q 256<256:=Nat.div_lt_of_lt_mul h4;have A:Nat.mod p 256<256:=Nat.mod_lt _ B;have C:Nat.mod q 256<256:=Nat.mod_lt _ B;show jV (jV (pF m (Nat.div p 256) _)<|Nat.div q 256) (Nat.mod q 256)=_;rw[mF _ _ _ _ hp hq]
   by_cases e:Nat.div q 256=Nat.div p 256
   ·rw[if_pos e,mF _ _ _ _ A C]
    by_cases z:Nat.mod q 256=Nat.mod p 256
    ·rw[if_pos z,if_pos];have f1:q/256=p/256:=e;have f2:q%256=p%256:=z;omega
    rw[if_neg z,if_neg (by intro h;exact z (by rw[h])),e]
   rw[if_neg e,if_neg (by intro h;exact e (by rw[h]))]
  rw[if_neg B,N.wB _ h4,N.wB _ h4]
 rw[N.FF o s m l u]
 by_cases h2:q<256
 ·rw[if_neg B,N.pY _ h2,N.pY _ h2]
 by_cases h4:q<65536
 ·rw[if_neg B,N.wC _ h2 h4,N.wC _ h2 h4]
 rw[N.wB _ h4,N.wB _ h4];exact wD o p l q
theorem N.dA (o:Option α) (t:N α) (p:Pos):(t.put o p).get p=o:=by rw[N.lW,if_pos Z]
theorem N.dv (o:Option α) (t:N α) (p q:Pos) (h:q≠p):(t.put o p).get q=t.get q:=by rw[N.lW,if_neg h]
theorem N.Lp (o o':Option α) (t:N α) (p:Nat):(t.put o p).put o' p=t.put o' p:=by
 cases t with
 | mk s m l=>
 by_cases h1:p<256
 ·rw[N.s7 o s m l h1,N.s7 _ _ _ _ h1,N.s7 _ _ _ _ h1,xl _ _ _ _ h1]
 by_cases u:p<65536
 ·have hp:Nat.div p 256<256:=Nat.div_lt_of_lt_mul u;have z:Nat.mod p 256<256:=Nat.mod_lt _ B;rw[N.FG o s m l h1 u,N.FG _ _ _ _ h1 u,N.FG _ _ _ _ h1 u,xl _ _ _ _ hp,mF _ _ _ _ hp hp,if_pos Z,xl _ _ _ _ z]
 rw[N.FF o s m l u,N.FF _ _ _ _ u,N.FF _ _ _ _ u,xm]
end
section
variable {α β:Type}
def nth (l:List α):Nat->Option α:=
 List.rec (motive:=fun _=>Nat->Option α) (fun _=>none) (fun x _ ih n=>Nat.rec (motive:=fun _=>Option α) (some x) (fun m _=>ih m) n) l
theorem eF:∀(l:List α) (n:Nat),nth l n=l[n]?
 | [],_=>rfl
 | _::_,0=>rfl
 | _::l,n+1=>by
  show nth l n=_;rw[eF l n];simp
def Eo (v:α) (l:List α):Nat->List α:=
 List.rec (motive:=fun _=>Nat->List α) (fun _=>[]) (fun x l ih n=>Nat.rec (motive:=fun _=>List α) (v::l) (fun m _=>x::ih m) n) l
theorem ud (v:α):∀(l:List α) (n:Nat),Eo v l n=l.set n v
 | [],_=>rfl
 | _::_,0=>rfl
 | x::l,n+1=>by
  show x::Eo v l n=_;rw[ud v l n];simp
def dS (l:List α):Nat->List α:=
 List.rec (motive:=fun _=>Nat->List α) (fun _=>[]) (fun x l ih n=>Nat.rec (motive:=fun _=>List α) (x::l) (fun m _=>ih m) n) l
theorem dO:∀(l:List α) (n:Nat),dS l n=l.drop n
 | [],n=>by simp[dS]
 | _::_,0=>rfl
 | x::l,n+1=>by
  show dS l n=_;rw[dO l n];simp
def takeN (l:List α):Nat->List α:=
 List.rec (motive:=fun _=>Nat->List α) (fun _=>[]) (fun x _ ih n=>Nat.rec (motive:=fun _=>List α) [] (fun m _=>x::ih m) n) l
theorem du:∀(l:List α) (n:Nat),takeN l n=l.take n
 | [],n=>by simp[takeN]
 | _::_,0=>rfl
 | x::l,n+1=>by
  show x::takeN l n=_;rw[du l n];simp
def cX (l:List α):Nat:=List.rec (motive:=fun _=>Nat) 0 (fun _ _ n=>Nat.succ n) l
theorem bK:∀(l:List α),cX l=l.length
 | []=>rfl
 | _::l=>by show Nat.succ (cX l)=_;rw[bK l];rfl
def ie (l m:List α):List α:=List.rec (motive:=fun _=>List α) m (fun x _ r=>x::r) l
theorem dV:∀(l m:List α),ie l m=l++m
 | [],_=>rfl
 | x::l,m=>by show x::ie l m=_;rw[dV l m];rfl
def yd (f:α->β) (l:List α):List β:=List.rec (motive:=fun _=>List β) [] (fun x _ r=>f x::r) l
theorem lY (f:α->β):∀(l:List α),yd f l=l.map f
 | []=>rfl
 | x::l=>by show f x::yd f l=_;rw[lY f l];rfl
def cW (f:α->Option β) (l:List α):Option (List β):=
 List.rec (motive:=fun _=>Option<|List β) (some []) (fun x _ r=>
  Option.rec (motive:=fun _=>Option<|List β) none (fun y=>Option.rec (motive:=fun _=>Option<|List β) none (fun ys=>some (y::ys)) r)<|f x) l
theorem iK (f:α->Option β):cW f []=some []:=rfl
theorem gX {f:α->Option β} {x:α} {l:List α} {ys:List β} (h:cW f (x::l)=some ys):∃y r,f x=some y/\cW f l=some r/\ys=y::r:=by
 have e:cW f (x::l)=Option.rec (motive:=fun _=>Option<|List β) none (fun y=>Option.rec (motive:=fun _=>Option<|List β) none (fun ys=>some (y::ys)) (cW f l)) (f x):=rfl;rw[e] at h;cases hx:f x with
 | none=>rw[hx] at h;cases h
 | some y=>
  rw[hx] at h;cases u:cW f l with
  | none=>rw[u] at h;cases h
  | some r=>
   rw[u] at h;simp only[oJ_] at h;exact⟨y,r,Z,Z,h.symm⟩
end
 class Env where
 τ:Nat->Value
 n0:Nat
 h0:Array Obj
variable [Env]
inductive pH where
 | known (n:Nat)
 | upto (sz:Nat)
 | least (a sz:Nat)
 deriving Inhabited
inductive V where
 | bool (b:Bool)
 | int (k:IntKind) (n:Int)
 | str (s:List Nat)
 | nilPtr
 | ptr (b:Pos) (off:Nat)
 | ax
 | slice (b:Pos) (off len:Nat) (cap:pH)
 | iR
 | map (b:Pos)
 | func (f:Nat) (first captured:List V)
 | yield (l:Pos)
 | nilFunc
 | iface (t:Nat) (v:V)
 | nilIface
 | agg (cs:List V)
 | tuple (vs:List V)
 | any
 | oE (a:Nat)
 | tok (n:Nat)
 deriving Inhabited
structure Loc where
 dE:Nat
 sh:Nat
 cells:Nat
abbrev dh:=Pos->Option Loc
def hY (s:List Nat) (bs:ByteArray):Prop:=bs.data.toList.map UInt8.toNat=s
mutual
def H (S:dh):V->Value->Prop
 | .bool b,x=>x= .bool b
 | .int k n,x=>x= .int k n
 | .str s,x=>∃bs,x= .string bs/\hY s bs
 | .nilPtr,x=>x= .pointer none
 | .ptr b off,x=>∃l,S b=some l/\x= .pointer (some ⟨l.dE,l.sh+off,none⟩)
 | .ax,x=>x= .slice none 0 0
 | .slice b off len (.known c),x=>∃l,S b=some l/\x= .slice (some ⟨l.dE,l.sh+off,none⟩) len c
 | .slice b off len (.upto sz),x=>∃l,S b=some l/\
   ((∃c,x= .slice (some ⟨l.dE,l.sh+off,none⟩) len c/\len<=c/\off+c*sz=l.cells)∨(len=0/\∃a,x= .slice (some a) 0 0))
 | .slice b off len (.least a sz),x=>∃l,S b=some l/\∃c,x= .slice (some ⟨l.dE,l.sh+off,none⟩) len c/\a<=c/\off+c*sz=l.cells
 | .iR,x=>x= .map none
 | .map b,x=>∃l,S b=some l/\x= .map (some l.dE)
 | .func f fi ca,x=>∃fi' ca':Array Value,x= .func (.func f) fi' ca'/\dp S fi fi'.toList/\dp S ca ca'.toList
 | .yield b,x=>∃l,S b=some l/\x= .func (.yield l.dE) #[] #[]
 | .nilFunc,x=>x= .nilFunc
 | .iface t v,x=>∃y,x= .iface t y/\H S v y
 | .nilIface,x=>x= .nilIface
 | .agg cs,x=>∃ys:Array Value,x= .agg ys/\dp S cs ys.toList
 | .tuple cs,x=>∃ys:Array Value,x= .tuple ys/\dp S cs ys.toList
 | .any,_=>True
 | .oE a,x=>∃c:Nat,x= .int .i64 c/\a<=c
 | .tok n,x=>x=Env.τ n/\x.oneCell'=true
def dp (S:dh):List V->List Value->Prop
 | [],ys=>ys= []
 | c::cs,ys=>∃y r,ys=y::r/\H S c y/\dp S cs r
end
def dh.le (S S':dh):Prop:=∀b l,S b=some l->S' b=some l
theorem dh.le_refl (S:dh):S.le S:=fun _ _ h=>h
theorem dh.le_trans {S S' S'':dh} (h:S.le S') (h':S'.le S''):S.le S'':=fun b l hb=>h' b l (h b l hb)
mutual
theorem H.mono {S S':dh} (h:S.le S'):∀(v:V) (x:Value),H S v x->H S' v x
 | .bool b,x,hv=>by simpa only[H] using hv
 | .int k n,x,hv=>by simpa only[H] using hv
 | .str s,x,hv=>by simpa only[H] using hv
 | .nilPtr,x,hv=>by simpa only[H] using hv
 | .ptr b off,x,hv=>by simp only[H] at hv⊢;obtain⟨l,h1,h2⟩:=hv;exact⟨l,h b l h1,h2⟩
 | .ax,x,hv=>by simpa only[H] using hv
 | .slice b off len (.known c),x,hv=>by simp only[H] at hv⊢;obtain⟨l,h1,h2⟩:=hv;exact⟨l,h b l h1,h2⟩
 | .slice b off len (.upto sz),x,hv=>by simp only[H] at hv⊢;obtain⟨l,h1,h2⟩:=hv;exact⟨l,h b l h1,h2⟩
 | .slice b off len (.least a sz),x,hv=>by simp only[H] at hv⊢;obtain⟨l,h1,h2⟩:=hv;exact⟨l,h b l h1,h2⟩
 | .iR,x,hv=>by simpa only[H] using hv
 | .map b,x,hv=>by simp only[H] at hv⊢;obtain⟨l,h1,h2⟩:=hv;exact⟨l,h b l h1,h2⟩
 | .func f fi ca,x,hv=>by
  simp only[H] at hv⊢;obtain⟨fi',ca',h1,h2,u⟩:=hv;exact⟨fi',ca',h1,dp.mono h fi _ h2,dp.mono h ca _ u⟩
 | .yield b,x,hv=>by simp only[H] at hv⊢;obtain⟨l,h1,h2⟩:=hv;exact⟨l,h b l h1,h2⟩
 | .nilFunc,x,hv=>by simpa only[H] using hv
 | .iface t v,x,hv=>by simp only[H] at hv⊢;obtain⟨y,h1,h2⟩:=hv;exact⟨y,h1,H.mono h v y h2⟩
 | .nilIface,x,hv=>by simpa only[H] using hv
 | .agg cs,x,hv=>by simp only[H] at hv⊢;obtain⟨y,h1,h2⟩:=hv;exact⟨y,h1,dp.mono h cs _ h2⟩
 | .tuple cs,x,hv=>by simp only[H] at hv⊢;obtain⟨y,h1,h2⟩:=hv;exact⟨y,h1,dp.mono h cs _ h2⟩
 | .any,x,hv=>by simp only[H]
 | .oE a,x,hv=>by simpa only[H] using hv
 | .tok n,x,hv=>by simpa only[H] using hv
theorem dp.mono {S S':dh} (h:S.le S'):∀(vs:List V) (xs:List Value),dp S vs xs->dp S' vs xs
 | [],xs,hv=>by simpa only[dp] using hv
 | c::cs,xs,hv=>by
  simp only[dp] at hv⊢;obtain⟨y,r,h1,h2,u⟩:=hv;exact⟨y,r,h1,H.mono h c y h2,dp.mono h cs r u⟩
end
theorem dp.nil {S:dh}:dp S [] []:=by simp only[dp]
theorem dp.cons {S:dh} {v:V} {x:Value} {vs:List V} {xs:List Value} (h:H S v x) (u:dp S vs xs):dp S (v::vs) (x::xs):=by
 simp only[dp];exact⟨x,xs,Z,h,u⟩
theorem dp.cons_inv {S:dh} {v:V} {vs:List V} {ys:List Value} (h:dp S (v::vs) ys):∃x xs,ys=x::xs/\H S v x/\dp S vs xs:=by
 simpa only[dp] using h
theorem dp.eQ {S:dh} {ys:List Value} (h:dp S [] ys):ys= []:=by simpa only[dp] using h
theorem dp.length {S:dh}:∀{vs:List V} {xs:List Value},dp S vs xs->xs.length=vs.length
 | [],xs,h=>by rw[h.eQ];rfl
 | v::vs,xs,h=>by
  obtain⟨x,r,rfl,_,h2⟩:=h.cons_inv;simp[h2.length]
theorem dp.get {S:dh}:∀{vs:List V} {xs:List Value},dp S vs xs->∀{i:Nat} {v:V},vs[i]?=some v->∃x,xs[i]?=some x/\H S v x
 | [],xs,h,i,v,hv=>by simp at hv
 | c::vs,xs,h,0,v,hv=>by
  obtain⟨x,r,rfl,h1,h2⟩:=h.cons_inv;simp at hv;subst hv;exact⟨x,Z,h1⟩
 | c::vs,xs,h,i+1,v,hv=>by
  obtain⟨x,r,rfl,h1,h2⟩:=h.cons_inv;simp at hv;simpa using h2.get hv
theorem dp.Jc {S:dh}:∀{vs:List V} {xs:List Value},xs.length=vs.length->(∀(i:Nat) (v:V),vs[i]?=some v->∃x,xs[i]?=some x/\H S v x)->dp S vs xs
 | [],[],_,_=>dp.nil
 | v::vs,[],hl,_=>by simp at hl
 | [],x::xs,hl,_=>by simp at hl
 | v::vs,x::xs,hl,h=>by
  refine dp.cons ?_<|dp.Jc (by simpa using hl) fun i u hu=>?_
  ·obtain⟨y,h1,h2⟩:=h 0 v Z;simp at h1;subst h1;exact h2
  obtain⟨y,h1,h2⟩:=h (i+1) u (by simpa using hu);exact⟨y,by simpa using h1,h2⟩
theorem dp.append {S:dh}:∀{vs us:List V} {xs ys:List Value},dp S vs xs->dp S us ys->dp S (vs++us) (xs++ys)
 | [],us,xs,ys,h,h'=>by rw[h.eQ];exact h'
 | v::vs,us,xs,ys,h,h'=>by
  obtain⟨x,r,rfl,h1,h2⟩:=h.cons_inv;exact dp.cons h1<|h2.append h'
theorem dp.drop {S:dh}:∀{vs:List V} {xs:List Value},dp S vs xs->∀n,dp S (vs.drop n) (xs.drop n)
 | [],xs,h,n=>by rw[h.eQ];simp;exact dp.nil
 | v::vs,xs,h,0=>h
 | v::vs,xs,h,n+1=>by
  obtain⟨x,r,rfl,h1,h2⟩:=h.cons_inv;simpa using h2.drop n
theorem dp.take {S:dh}:∀{vs:List V} {xs:List Value},dp S vs xs->∀n,dp S (vs.take n) (xs.take n)
 | [],xs,h,n=>by rw[h.eQ];simp;exact dp.nil
 | v::vs,xs,h,0=>by simpa using dp.nil
 | v::vs,xs,h,n+1=>by
  obtain⟨x,r,rfl,h1,h2⟩:=h.cons_inv;simpa using dp.cons h1 (h2.take n)
theorem dp.set {S:dh}:∀{vs:List V} {xs:List Value},dp S vs xs->∀(n:Nat) {v:V} {x:Value},H S v x->dp S (vs.set n v) (xs.set n x)
 | [],xs,h,n,_,_,_=>by rw[h.eQ];simp;exact dp.nil
 | v::vs,xs,h,0,_,_,hv=>by
  obtain⟨x,r,rfl,h1,h2⟩:=h.cons_inv;simpa using dp.cons hv h2
 | v::vs,xs,h,n+1,_,_,hv=>by
  obtain⟨x,r,rfl,h1,h2⟩:=h.cons_inv;simpa using dp.cons h1 (h2.set n hv)
structure fC where
 key:V
 val:V
 born:Nat
 deriving Inhabited
inductive cG where
 | row (cells:List V) (elem:Nat) (ro:Bool)
 | own (cells:List V) (elem:Nat)
 | map (es:List fC) (clock:Nat)
 | iter (s:List Nat) (pos:Nat)
 | loop (state:LoopState) (pending:Option Code) (tmps:N V) (n:Nat) (params:List Nat) (assign body:Code) (defers:Pos)
 | mark
 | dead
 deriving Inhabited
def cG.ro:cG->Bool
 | .row _ _ ro=>ro
 | _=>false
structure D where
 next:Pos
 m:N cG
def TR (S:dh) (t:N V) (n:Nat) (tmps:Array Value):Prop:=
 tmps.size=n/\∀k v,t.get (posOf k)=some v->k<n/\H S v (tmps.getD k undef)
def jM (S:dh):List fC->List MapEntry->Prop
 | [],ys=>ys= []
 | e::es,ys=>∃y r,ys=y::r/\H S e.key y.key/\H S e.val y.val/\y.born=e.born/\jM S es r
def iF (S:dh) (l:Loc):cG->Obj->Prop
 | .row cells elem ro,x=>∃c fr,x= .cells c elem fr/\c.size=l.sh+l.cells/\cells.length<=l.cells/\
   (∀(i:Nat) (v:V),cells[i]?=some v->∃y,c[l.sh+i]?=some y/\H S v y)/\(ro=false->∀j,l.sh<=j->¬(fr.1<=j/\j<fr.2))
 | .own cells elem,x=>(l.sh=0/\cells.length=l.cells)/\∃c fr,x= .cells c elem fr/\c.size=l.sh+l.cells/\cells.length<=l.cells/\
   (∀(i:Nat) (v:V),cells[i]?=some v->∃y,c[l.sh+i]?=some y/\H S v y)/\(false=false->∀j,l.sh<=j->¬(fr.1<=j/\j<fr.2))
 | .map es clock,x=>∃es',x= .map es' clock/\jM S es es'.toList
 | .iter s pos,x=>∃bs,x= .stringIter bs pos/\hY s bs
 | .loop state pending tmps n params assign body defers,x=>∃fn tmps' l',x= .loop {state,pending,fn,tmps:=tmps',params:=params.toArray,assign,body,defers:=l'.dE}/\
   S defers=some l'/\TR S tmps n tmps'
 | .mark,x=>x= .deferred (some [])
 | .dead,_=>True
theorem TR.mono {S S':dh} (h:S.le S') {t:N V} {n:Nat} {tmps:Array Value} (u:TR S t n tmps):TR S' t n tmps:=
 ⟨u.1,fun k v hv=>⟨(u.2 k v hv).1,H.mono h _ _ (u.2 k v hv).2⟩⟩
theorem jM.mono {S S':dh} (h:S.le S'):∀{es:List fC} {ys:List MapEntry},jM S es ys->jM S' es ys
 | [],ys,he=>he
 | e::es,ys,he=>by
  obtain⟨y,r,h1,h2,u,h4,h5⟩:=he;exact⟨y,r,h1,H.mono h _ _ h2,H.mono h _ _ u,h4,jM.mono h h5⟩
theorem iF.mono {S S':dh} (h:S.le S') {l:Loc}:∀{o:cG} {x:Obj},iF S l o x->iF S' l o x
 | .row cells elem ro,x,u=>by
  obtain⟨c,fr,h1,h2,z,h4,h5⟩:=u;exact⟨c,fr,h1,h2,z,fun i v hv=>let ⟨y,a,b⟩:=h4 i v hv;⟨y,a,H.mono h _ _ b⟩,h5⟩
 | .own cells elem,x,u=>by
  obtain⟨h0,c,fr,h1,h2,z,h4,h5⟩:=u;exact⟨h0,c,fr,h1,h2,z,fun i v hv=>let ⟨y,a,b⟩:=h4 i v hv;⟨y,a,H.mono h _ _ b⟩,h5⟩
 | .map es clock,x,u=>let ⟨es',h1,h2⟩:=u;⟨es',h1,jM.mono h h2⟩
 | .iter s pos,x,u=>u
 | .loop ..,x,u=>let ⟨fn,tmps',l',h1,h2,z⟩:=u;⟨fn,tmps',l',h1,h _ _ h2,TR.mono h z⟩
 | .mark,x,u=>u
 | .dead,x,u=>u
structure zx (S:dh) (U:D) (w:World):Prop where
 fresh:∀b:Pos,U.next.num<=b.num->S b=none/\U.m.get b=none
 dE:∀b l,S b=some l->l.dE<w.heap.size
 obj:∀b o l,U.m.get b=some o->S b=some l->∃x,w.heap[l.dE]?=some x/\iF S l o x
 inj:∀b b' o o' l l',U.m.get b=some o->U.m.get b'=some o'->S b=some l->S b'=some l'->l.dE=l'.dE->b≠b'->o.ro=true/\o'.ro=true
def Wr (S:dh) (U:D) (r:Nat):Prop:=∃b o l,U.m.get b=some o/\o.ro=false/\S b=some l/\l.dE=r
structure Old (S:dh) (U:D) (w:World):Prop where
 size:Env.n0<=w.heap.size
 same:∀r:Nat,r<Env.n0->w.heap[r]?=Env.h0[r]?
 no:∀r:Nat,r<Env.n0->¬Wr S U r
def HG (w:World):Prop:=Env.n0<=w.heap.size/\∀r:Nat,r<Env.n0->w.heap[r]?=Env.h0[r]?
structure Inv (S:dh) (U:D) (w:World):Prop extends zx S U w where
 pI:Old S U w
structure eY (S:dh) (U:D) (w:World) (S':dh) (U':D) (w':World):Prop where
 ext:∀b:Pos,b.num<U.next.num->S' b=S b
 next:U.next.num<=U'.next.num
 size:w.heap.size<=w'.heap.size
 frame:∀r:Nat,r<w.heap.size->¬Wr S U r->w'.heap[r]?=w.heap[r]?
 wr:∀r:Nat,Wr S' U' r->r<w.heap.size->Wr S U r
 tape:w'.tape=w.tape
 os:w'.os=w.os
 out:w'.output=w.output
theorem eY.refl (S:dh) (U:D) (w:World):eY S U w S U w:=
 ⟨fun _ _=>Z,nR_ _,nR_ _,fun _ _ _=>Z,fun _ h _=>h,Z,Z,Z⟩
theorem eY.trans {S u z:dh} {U A C:D} {w w₁ w₂:World} (h:eY S U w u A w₁) (h':eY u A w₁ z C w₂):eY S U w z C w₂ where
 ext b hb:=(h'.ext b<|Nat.lt_of_lt_of_le hb h.next).trans (h.ext b hb)
 next:=Nat.le_trans h.next h'.next
 size:=Nat.le_trans h.size h'.size
 frame r hr hn:=(h'.frame r (Nat.lt_of_lt_of_le hr h.size) (fun hw=>hn (h.wr r hw hr))).trans (h.frame r hr hn)
 wr r hw hr:=h.wr r (h'.wr r hw<|Nat.lt_of_lt_of_le hr h.size) hr
 tape:=h'.tape.trans h.tape
 os:=h'.os.trans h.os
 out:=h'.out.trans h.out
theorem Old.of {S S':dh} {U U':D} {w w':World} (h:Old S U w) (st:eY S U w S' U' w'):Old S' U' w' where
 size:=Nat.le_trans h.size st.size
 same r hr:=(st.frame r (Nat.lt_of_lt_of_le hr h.size)<|h.no r hr).trans (h.same r hr)
 no r hr hw:=h.no r hr (st.wr r hw<|Nat.lt_of_lt_of_le hr h.size)
theorem Inv.of {S S':dh} {U U':D} {w w':World} (h:Inv S U w) (h':zx S' U' w'/\eY S U w S' U' w'):Inv S' U' w'/\eY S U w S' U' w':=⟨⟨h'.1,h.pI.of h'.2⟩,h'.2⟩
theorem Inv.Ef {S:dh} {U:D} {w:World} (h:Inv S U w) {b:Pos} {l:Loc} (hb:S b=some l):b.num<U.next.num:=by
 rcases Nat.lt_or_ge b.num U.next.num with h' | h'
 ·exact h'
 rw[(h.fresh b h').1] at hb;cases hb
theorem eY.le {S S':dh} {U U':D} {w w':World} (hi:Inv S U w) (h:eY S U w S' U' w'):S.le S':=fun b l hb=>by
 rw[h.ext b<|hi.Ef hb];exact hb
end Go.Ev
namespace Go.Ev
variable [Env]
section
variable {S:dh} {U:D} {w:World}
theorem Addr.add_eq (a:Addr) (n:Nat) (h:a.spot=none):a.add n=⟨a.block,a.off+n,none⟩:=by
 unfold Addr.add;split
 ·rename_i h0;subst h0;cases a;simp_all
 rfl
theorem cell?_of_heap {w:World} {r:Nat} {c:Array Value} {e:Nat} {fr:Nat×Nat} (h:w.heap[r]?=some (.cells c e fr)) (i:Nat):w.cell? ⟨r,i,none⟩=c[i]?:=by
 simp[World.cell?,h]
theorem frozen?_of_heap {w:World} {r:Nat} {c:Array Value} {e:Nat} {fr:Nat×Nat} (h:w.heap[r]?=some (.cells c e fr)) (i:Nat) (hn:¬(fr.1<=i/\i<fr.2)):w.frozen? ⟨r,i,none⟩=false:=by
 simp only[World.frozen?,h];simp only[Bool.and_eq_false_iff,decide_eq_false_iff_not]
 by_cases h1:fr.1<=i
 ·exact .inr (fun h2=>hn ⟨h1,h2⟩)
 exact .inl h1
theorem heap_setCell_same {w:World} {r:Nat} {c:Array Value} {e:Nat} {fr:Nat×Nat} (h:w.heap[r]?=some (.cells c e fr)) (i:Nat) (v:Value):
  (w.setCell ⟨r,i,none⟩ v).heap[r]?=some (.cells (c.setIfInBounds i v) e fr):=by
 simp[World.setCell,Array.getElem?_modify,h]
theorem heap_setCell_other (w:World) {r:Nat} (a:Addr) (v:Value) (h:r≠a.block):(w.setCell a v).heap[r]?=w.heap[r]?:=by
 simp[World.setCell,Array.getElem?_modify,Ne.symm h]
theorem Inv.row (hi:Inv S U w) {b:Pos} {l:Loc} {cells:List V} {e:Nat} {ro:Bool} (u:U.m.get b=some (.row cells e ro)) (hl:S b=some l):
  ∃(c:Array Value) (fr:Nat×Nat),w.heap[l.dE]?=some (.cells c e fr)/\c.size=l.sh+l.cells/\cells.length<=l.cells/\
   (∀(i:Nat) (v:V),cells[i]?=some v->∃y,c[l.sh+i]?=some y/\H S v y)/\(ro=false->∀j,l.sh<=j->¬(fr.1<=j/\j<fr.2)):=by
 obtain⟨x,hx,c,fr,rfl,h2,z,h4,h5⟩:=hi.obj b _ l u hl;exact⟨c,fr,hx,h2,z,h4,h5⟩
theorem Inv.cell (hi:Inv S U w) {b:Pos} {l:Loc} {cells:List V} {e:Nat} {ro:Bool} (z:U.m.get b=some (.row cells e ro)) (hl:S b=some l)
  {i:Nat} {v:V} (hv:cells[i]?=some v):∃y,w.cell? ⟨l.dE,l.sh+i,none⟩=some y/\H S v y:=by
 obtain⟨c,fr,h1,_,_,h4,_⟩:=hi.row z hl;obtain⟨y,hy,u⟩:=h4 i v hv;exact⟨y,by rw[cell?_of_heap h1];exact hy,u⟩
theorem Inv.drew (hi:Inv S U w):Inv S U w.drew:=⟨⟨hi.fresh,hi.dE,hi.obj,hi.inj⟩,⟨hi.pI.size,hi.pI.same,hi.pI.no⟩⟩
theorem eY.drew (S:dh) (U:D) (w:World):eY S U w S U w.drew:=
 ⟨fun _ _=>Z,nR_ _,nR_ _,fun _ _ _=>Z,fun _ h _=>h,Z,Z,Z⟩
def D.alloc (U:D) (o:cG):D:={next:=U.next.succ,m:=U.m.put (some o) U.next}
def dh.with (S:dh) (b:Pos) (l:Loc):dh:=fun b'=>if b'=b then some l else S b'
theorem dh.cZ (S:dh) (b:Pos) (l:Loc):S.with b l b=some l:=by simp[dh.with]
theorem dh.dT (S:dh) {b b':Pos} (l:Loc) (h:b'≠b):S.with b l b'=S b':=by simp[dh.with,h]
theorem Inv.vA (hi:Inv S U w) (l:Loc):S.le (S.with U.next l):=fun b l' hb=>by
 rw[dh.dT]; · exact hb
 intro e;subst e;rw[(hi.fresh _<|nR_ _).1] at hb;cases hb
theorem heap_alloc_old (w:World) (x:Obj) {r:Nat} (h:r<w.heap.size):(w.alloc x).heap[r]?=w.heap[r]?:=by
 show(w.heap.push x)[r]?=_;rw[Array.getElem?_push];simp[Nat.ne_of_lt h]
theorem heap_alloc_new (w:World) (x:Obj):(w.alloc x).heap[w.heap.size]?=some x:=by
 show(w.heap.push x)[w.heap.size]?=_;simp
theorem Inv.Db (hi:Inv S U w) {o:cG} {x:Obj} {l:Loc} (hl:l.dE=w.heap.size) (Q:iF S l o x):
  zx (S.with U.next l) (U.alloc o) (w.alloc x)/\eY S U w (S.with U.next l) (U.alloc o) (w.alloc x):=by
 have hle:=hi.vA l;have z:∀b l',b≠U.next->(S.with U.next l) b=some l'->S b=some l':=fun b l' hb h=>by rwa[dh.dT S l hb] at h
 have A:∀b,b≠U.next->(U.alloc o).m.get b=U.m.get b:=fun b hb=>N.dv _ _ _ _ hb
 have E:(U.alloc o).m.get U.next=some o:=N.dA _ _ _;have L:∀b:Pos,b.num<U.next.num->b≠U.next:=fun b hb e=>by subst e;exact Nat.lt_irrefl _ hb
 constructor
 ·refine⟨fun b hb=>?_,fun b l' hb=>?_,fun b o' l' hb F=>?_,fun b b' o₁ o₂ l₁ l₂ h1 h2 C h4 h5 M=>?_⟩
  ·have aa:U.next.num+1<=b.num:=by simpa [D.alloc,Pos.jt] using hb
   have u:b≠U.next:=fun e=>by subst e;omega
   rw[dh.dT S l u,A b u];exact hi.fresh b B
  ·simp only[World.size_alloc]
   by_cases u:b=U.next
   ·subst u;rw[dh.cZ] at hb;cases hb;omega
   have:=hi.dE b l' (z b l' u hb);omega
  ·by_cases u:b=U.next
   ·subst u;rw[dh.cZ] at F;rw[E] at hb;cases hb;cases F;exact⟨x,by rw[hl];exact heap_alloc_new w x,Q.mono hle⟩
   rw[A b u] at hb;have h':=z b l' u F;obtain⟨y,hy,K⟩:=hi.obj b o' l' hb h';exact⟨y,by rw[heap_alloc_old w x<|hi.dE b l' h'];exact hy,K.mono hle⟩
  by_cases e1:b=U.next<;>by_cases G:b'=U.next
  ·exact absurd (e1.trans G.symm) M
  ·subst e1;rw[dh.cZ] at C;cases C;have:=hi.dE b' l₂ (z b' l₂ G h4);omega
  ·subst G;rw[dh.cZ] at h4;cases h4;have:=hi.dE b l₁ (z b l₁ e1 C);omega
  rw[A b e1] at h1;rw[A b' G] at h2;exact hi.inj b b' o₁ o₂ l₁ l₂ h1 h2 (z b l₁ e1 C) (z b' l₂ G h4) h5 M
 refine⟨fun b hb=>dh.dT S l (L b hb),by simp[D.alloc,Pos.jt],by simp,fun r K _=>heap_alloc_old w x K,?_,Z,Z,Z⟩;rintro r ⟨b,o',l',h1,h2,C,rfl⟩ K
 by_cases u:b=U.next
 ·subst u;rw[dh.cZ] at C;cases C;omega
 rw[A b u] at h1;exact⟨b,o',l',h1,h2,z b l' u C,Z⟩
theorem Inv.alloc (hi:Inv S U w) {o:cG} {x:Obj} {l:Loc} (hl:l.dE=w.heap.size) (u:iF S l o x):
  Inv (S.with U.next l) (U.alloc o) (w.alloc x)/\eY S U w (S.with U.next l) (U.alloc o) (w.alloc x):=hi.of (hi.Db hl u)
def D.setObj (U:D) (b:Pos) (o:cG):D:={U with m:=U.m.put (some o) b}
theorem Inv.Br (hi:Inv S U w) {b:Pos} {l:Loc} {o o':cG} {x:Obj} {w':World} (hb:U.m.get b=some o) (hl:S b=some l) (E:o.ro=false) (M:o'.ro=false)
  (hw:w'.heap[l.dE]?=some x) (ho:iF S l o' x) (u:∀r,r≠l.dE->w'.heap[r]?=w.heap[r]?) (z:w'.heap.size=w.heap.size)
  (F:w'.tape=w.tape) (R:w'.os=w.os) (Q:w'.output=w.output):
  zx S (U.setObj b o') w'/\eY S U w S (U.setObj b o') w':=by
 have A:∀b',b'≠b->(U.setObj b o').m.get b'=U.m.get b':=fun b' h=>N.dv _ _ _ _ h
 have C:(U.setObj b o').m.get b=some o':=N.dA _ _ _
 have back:∀b₁ o₁,(U.setObj b o').m.get b₁=some o₁->∃o₂,U.m.get b₁=some o₂/\(o₁.ro=true↔o₂.ro=true):=fun b₁ o₁ h=>by
  by_cases e:b₁=b
  ·subst e;rw[C] at h;cases h;exact⟨o,hb,by rw[E,M]⟩
  rw[A b₁ e] at h;exact⟨o₁,h,Iff.rfl⟩
 constructor
 ·refine⟨fun b' W=>?_,fun b' l' X=>by rw[z];exact hi.dE b' l' X,fun b' o₁ l₁ h1 h2=>?_,fun b₁ b₂ o₁ o₂ l₁ l₂ h1 h2 h3 h4 h5 h6=>?_⟩
  ·have hf:=hi.fresh b' W;have G:b'≠b:=fun e=>by subst e;rw[hl] at hf;cases hf.1
   exact⟨hf.1,by rw[A b' G];exact hf.2⟩
  ·by_cases e:b'=b
   ·subst e;rw[C] at h1;rw[hl] at h2;cases h1;cases h2;exact⟨x,hw,ho⟩
   rw[A b' e] at h1;obtain⟨y,hy,hr⟩:=hi.obj b' o₁ l₁ h1 h2
   have G:l₁.dE≠l.dE:=fun aa=>by
    have:=hi.inj b' b o₁ o l₁ l h1 hb h2 hl aa e;rw[E] at this;exact absurd this.2 (by simp)
   exact⟨y,by rw[u _ G];exact hy,hr⟩
  obtain⟨o₁',K,L⟩:=back b₁ o₁ h1;obtain⟨ab,ac,am⟩:=back b₂ o₂ h2;have:=hi.inj b₁ b₂ o₁' ab l₁ l₂ K ac h3 h4 h5 h6;exact⟨L.2 this.1,am.2 this.2⟩
 refine⟨fun _ _=>Z,nR_ _,by rw[z];exact nR_ _,fun r hr hn=>u r (fun e=>hn ⟨b,o,l,hb,E,hl,e.symm⟩),?_,F,R,Q⟩;rintro r ⟨b₁,o₁,l₁,h1,h2,h3,rfl⟩ hr;obtain⟨o₁',K,L⟩:=back b₁ o₁ h1;refine⟨b₁,o₁',l₁,K,?_,h3,Z⟩;cases hh:o₁'.ro with
 | false=>rfl
 | true=>rw[L.2 hh] at h2;cases h2
theorem Inv.change (hi:Inv S U w) {b:Pos} {l:Loc} {o o':cG} {x:Obj} {w':World} (hb:U.m.get b=some o) (hl:S b=some l) (F:o.ro=false) (C:o'.ro=false)
  (hw:w'.heap[l.dE]?=some x) (K:iF S l o' x) (u:∀r,r≠l.dE->w'.heap[r]?=w.heap[r]?) (z:w'.heap.size=w.heap.size)
  (A:w'.tape=w.tape) (G:w'.os=w.os) (E:w'.output=w.output):
  Inv S (U.setObj b o') w'/\eY S U w S (U.setObj b o') w':=hi.of (hi.Br hb hl F C hw K u z A G E)
theorem Inv.zI (hi:Inv S U w) {b:Pos} {l:Loc} {o o':cG} {x:Obj} {w':World} (hb:U.m.get b=some o) (hl:S b=some l) (C:o.ro=false)
  (hw:w'.heap[l.dE]?=some x) (ho:iF S l o' x) (z:∀r,r≠l.dE->w'.heap[r]?=w.heap[r]?) (A:w'.heap.size=w.heap.size)
  (E:w'.tape=w.tape) (M:w'.os=w.os) (K:w'.output=w.output):
  zx S (U.setObj b o') w'/\eY S U w S (U.setObj b o') w':=by
 have u:∀b',b'≠b->(U.setObj b o').m.get b'=U.m.get b':=fun b' h=>N.dv _ _ _ _ h
 have F:(U.setObj b o').m.get b=some o':=N.dA _ _ _
 have apart:∀b' o₁ l₁,b'≠b->U.m.get b'=some o₁->S b'=some l₁->l₁.dE≠l.dE:=fun b' o₁ l₁ e h1 h2 Q=>by
  have:=hi.inj b' b o₁ o l₁ l h1 hb h2 hl Q e;rw[C] at this;exact absurd this.2 (by simp)
 constructor
 ·refine⟨fun b' R=>?_,fun b' l' W=>by rw[A];exact hi.dE b' l' W,fun b' o₁ l₁ h1 h2=>?_,fun b₁ b₂ o₁ o₂ l₁ l₂ h1 h2 G h4 h5 h6=>?_⟩
  ·have hf:=hi.fresh b' R;have X:b'≠b:=fun e=>by subst e;rw[hl] at hf;cases hf.1
   exact⟨hf.1,by rw[u b' X];exact hf.2⟩
  ·by_cases e:b'=b
   ·subst e;rw[F] at h1;rw[hl] at h2;cases h1;cases h2;exact⟨x,hw,ho⟩
   rw[u b' e] at h1;obtain⟨y,hy,hr⟩:=hi.obj b' o₁ l₁ h1 h2;exact⟨y,by rw[z _<|apart b' o₁ l₁ e h1 h2];exact hy,hr⟩
  by_cases e1:b₁=b<;>by_cases L:b₂=b
  ·exact absurd (e1.trans L.symm) h6
  ·subst e1;rw[u b₂ L] at h2;rw[hl] at G;cases G;exact absurd h5.symm<|apart b₂ o₂ l₂ L h2 h4
  ·subst L;rw[u b₁ e1] at h1;rw[hl] at h4;cases h4;exact absurd h5<|apart b₁ o₁ l₁ e1 h1 G
  rw[u b₁ e1] at h1;rw[u b₂ L] at h2;exact hi.inj b₁ b₂ o₁ o₂ l₁ l₂ h1 h2 G h4 h5 h6
 refine⟨fun _ _=>Z,nR_ _,by rw[A];exact nR_ _,fun r hr hn=>z r (fun e=>hn ⟨b,o,l,hb,C,hl,e.symm⟩),?_,E,M,K⟩;rintro r ⟨b₁,o₁,l₁,h1,h2,G,rfl⟩ hr
 by_cases e:b₁=b
 ·subst e;exact⟨b₁,o,l₁,hb,C,G,Z⟩
 rw[u b₁ e] at h1;exact⟨b₁,o₁,l₁,h1,h2,G,Z⟩
theorem Inv.EZ (hi:Inv S U w) {b:Pos} {l:Loc} {o o':cG} {x:Obj} {w':World} (hb:U.m.get b=some o) (hl:S b=some l) (E:o.ro=false)
  (hw:w'.heap[l.dE]?=some x) (G:iF S l o' x) (u:∀r,r≠l.dE->w'.heap[r]?=w.heap[r]?) (z:w'.heap.size=w.heap.size)
  (A:w'.tape=w.tape) (F:w'.os=w.os) (C:w'.output=w.output):
  Inv S (U.setObj b o') w'/\eY S U w S (U.setObj b o') w':=hi.of (hi.zI hb hl E hw G u z A F C)
theorem Inv.Jq (hi:Inv S U w) {b:Pos} {l:Loc} {o o':cG} (hb:U.m.get b=some o) (hl:S b=some l) (u:o.ro=false) (z:∀x,iF S l o x->iF S l o' x):
  Inv S (U.setObj b o') w/\eY S U w S (U.setObj b o') w:=by
 obtain⟨x,hx,A⟩:=hi.obj b o l hb hl;exact hi.EZ hb hl u hx (z x A) (fun _ _=>Z) Z Z Z Z
theorem iF.FC {l:Loc} {cells:List V} {e:Nat} {x:Obj} (h:iF S l (.own cells e) x):(l.sh=0/\cells.length=l.cells)/\iF S l (.row cells e false) x:=⟨h.1,h.2⟩
theorem iF.FK {l:Loc} {cells:List V} {e:Nat} {x:Obj} (h0:l.sh=0/\cells.length=l.cells) (h:iF S l (.row cells e false) x):iF S l (.own cells e) x:=⟨h0,h⟩
theorem Inv.own (hi:Inv S U w) {b:Pos} {l:Loc} {cells:List V} {e:Nat} (hb:U.m.get b=some (.own cells e)) (hl:S b=some l):
  (l.sh=0/\cells.length=l.cells)/\Inv S (U.setObj b (.row cells e false)) w/\eY S U w S (U.setObj b (.row cells e false)) w:=by
 obtain⟨x,hx,u⟩:=hi.obj b _ l hb hl;exact⟨u.FC.1,hi.Jq hb hl Z fun x hx=>hx.FC.2⟩
theorem Inv.setCell (hi:Inv S U w) {b:Pos} {l:Loc} {cells:List V} {e i:Nat} {v:V} {y:Value} (hb:U.m.get b=some (.row cells e false)) (hl:S b=some l)
  (A:i<cells.length) (hv:H S v y):
  Inv S (U.setObj b (.row (cells.set i v) e false)) (w.setCell ⟨l.dE,l.sh+i,none⟩ y)/\eY S U w S (U.setObj b (.row (cells.set i v) e false)) (w.setCell ⟨l.dE,l.sh+i,none⟩ y):=by
 obtain⟨c,fr,h1,h2,E,h4,h5⟩:=hi.row hb hl
 refine hi.change hb hl Z Z (heap_setCell_same h1 (l.sh+i) y) ⟨_,fr,Z,by simpa using h2,by simpa using E,fun j u hu=>?_,fun _=>h5 Z⟩
  (fun r C=>heap_setCell_other w _ _ C) (by simp) Z Z Z
 rw[Array.getElem?_setIfInBounds]
 by_cases e:j=i
 ·subst e;rw[List.getElem?_set_self A] at hu;cases hu;have:l.sh+j<c.size:=by omega
  exact⟨y,by simp[this],hv⟩
 rw[List.getElem?_set_ne<|Ne.symm e] at hu;obtain⟨z,F,C⟩:=h4 j u hu;have this:¬(l.sh+i=l.sh+j):=by omega
 exact⟨z,by rw[if_neg this];exact F,C⟩
def D.drop (U:D) (b:Pos):D:={U with m:=U.m.put none b}
theorem Inv.Co (hi:Inv S U w) {b:Pos} {l l':Loc} {cells cells':List V} {e:Nat} {x:Obj} {w':World} (hb:U.m.get b=some (.row cells e false)) (hl:S b=some l)
  (A:l'.dE=l.dE) (hw:w'.heap[l.dE]?=some x) (ho:iF S l' (.row cells' e false) x) (E:∀r,r≠l.dE->w'.heap[r]?=w.heap[r]?) (F:w'.heap.size=w.heap.size)
  (M:w'.tape=w.tape) (aa:w'.os=w.os) (X:w'.output=w.output):
  zx (S.with U.next l') ((U.drop b).alloc (.row cells' e false)) w'/\eY S U w (S.with U.next l') ((U.drop b).alloc (.row cells' e false)) w':=by
 have hle:=hi.vA l';have z:∀b l'',b≠U.next->(S.with U.next l') b=some l''->S b=some l'':=fun b l'' hb h=>by rwa[dh.dT S l' hb] at h
 have ao:b≠U.next:=fun e=>by subst e;rw[(hi.fresh _<|nR_ _).1] at hl;cases hl
 have ab:∀b:Pos,b.num<U.next.num->b≠U.next:=fun b hb e=>by subst e;exact Nat.lt_irrefl _ hb
 have Q:((U.drop b).alloc (.row cells' e false)).m.get U.next=some (.row cells' e false):=N.dA _ _ _
 have K:∀b',b'≠U.next->((U.drop b).alloc (.row cells' e false)).m.get b'=if b'=b then none else U.m.get b':=fun b' h=>by
  show((U.m.put none b).put _ U.next).get b'=_;rw[N.dv _ _ _ _ h,N.lW]
 have pI:∀b' o',b'≠U.next->((U.drop b).alloc (.row cells' e false)).m.get b'=some o'->b'≠b/\U.m.get b'=some o':=fun b' o' hn h=>by
  rw[K b' hn] at h;split at h
  ·cases h
  rename_i u;exact⟨u,h⟩
 have apart:∀b' o' l'',b'≠b->U.m.get b'=some o'->S b'=some l''->l''.dE≠l.dE:=fun b' o' l'' u h1 h2 ac=>by
  have:=hi.inj b' b o' _ l'' l h1 hb h2 hl ac u;exact absurd this.2 (by simp[cG.ro])
 constructor
 ·refine⟨fun b' R=>?_,fun b' l'' G=>?_,fun b' o₁ l₁ h1 h2=>?_,fun b₁ b₂ o₁ o₂ l₁ l₂ h1 h2 L h4 h5 h6=>?_⟩
  ·have am:U.next.num+1<=b'.num:=by simpa [D.alloc,D.drop,Pos.jt] using R
   have u:b'≠U.next:=fun e=>by subst e;omega
   have hf:=hi.fresh b' B;rw[dh.dT S l' u,K b' u];exact⟨hf.1,by split<;>simp[hf.2]⟩
  ·rw[F]
   by_cases e1:b'=U.next
   ·subst e1;rw[dh.cZ] at G;cases G;rw[A];exact hi.dE b l hl
   exact hi.dE b' l''<|z b' l'' e1 G
  ·by_cases e1:b'=U.next
   ·subst e1;rw[Q] at h1;rw[dh.cZ] at h2;cases h1;cases h2;exact⟨x,by rw[A];exact hw,ho.mono hle⟩
   obtain⟨u,C⟩:=pI b' o₁ e1 h1;have h2':=z b' l₁ e1 h2;obtain⟨y,hy,hr⟩:=hi.obj b' o₁ l₁ C h2';exact⟨y,by rw[E _<|apart b' o₁ l₁ u C h2'];exact hy,hr.mono hle⟩
  by_cases e1:b₁=U.next<;>by_cases W:b₂=U.next
  ·exact absurd (e1.trans W.symm) h6
  ·subst e1;rw[dh.cZ] at L;cases L;obtain⟨u,h2'⟩:=pI b₂ o₂ W h2;exact absurd (h5.symm.trans A)<|apart b₂ o₂ l₂ u h2'<|z b₂ l₂ W h4
  ·subst W;rw[dh.cZ] at h4;cases h4;obtain⟨u,C⟩:=pI b₁ o₁ e1 h1;exact absurd (h5.trans A)<|apart b₁ o₁ l₁ u C<|z b₁ l₁ e1 L
  obtain⟨_,C⟩:=pI b₁ o₁ e1 h1;obtain⟨_,h2'⟩:=pI b₂ o₂ W h2;exact hi.inj b₁ b₂ o₁ o₂ l₁ l₂ C h2' (z b₁ l₁ e1 L) (z b₂ l₂ W h4) h5 h6
 refine⟨fun b' R=>dh.dT S l' (ab b' R),by simp[D.alloc,D.drop,Pos.jt],by rw[F];exact nR_ _,
  fun r hr hn=>E r (fun e'=>hn ⟨b,_,l,hb,Z,hl,e'.symm⟩),?_,M,aa,X⟩
 rintro r ⟨b₁,o₁,l₁,h1,h2,L,rfl⟩ hr
 by_cases e1:b₁=U.next
 ·subst e1;rw[dh.cZ] at L;cases L;exact⟨b,_,l,hb,Z,hl,A.symm⟩
 obtain⟨_,C⟩:=pI b₁ o₁ e1 h1;exact⟨b₁,o₁,l₁,C,h2,z b₁ l₁ e1 L,Z⟩
theorem Inv.xq (hi:Inv S U w) {b:Pos} {l l':Loc} {cells cells':List V} {e:Nat} {x:Obj} {w':World} (hb:U.m.get b=some (.row cells e false)) (hl:S b=some l)
  (C:l'.dE=l.dE) (hw:w'.heap[l.dE]?=some x) (G:iF S l' (.row cells' e false) x) (u:∀r,r≠l.dE->w'.heap[r]?=w.heap[r]?) (z:w'.heap.size=w.heap.size)
  (A:w'.tape=w.tape) (F:w'.os=w.os) (E:w'.output=w.output):
  Inv (S.with U.next l') ((U.drop b).alloc (.row cells' e false)) w'/\eY S U w (S.with U.next l') ((U.drop b).alloc (.row cells' e false)) w':=hi.of (hi.Co hb hl C hw G u z A F E)
theorem Inv.BN (hi:Inv S U w) (b:Pos):zx S (U.drop b) w/\eY S U w S (U.drop b) w:=by
 have pI:∀b' o',(U.drop b).m.get b'=some o'->U.m.get b'=some o':=fun b' o' h=>by
  have h':(U.m.put none b).get b'=some o':=h;rw[N.lW] at h';split at h'
  ·cases h'
  exact h'
 constructor
 ·refine⟨fun b' u=>⟨(hi.fresh b' u).1,?_⟩,hi.dE,fun b' o l h1 h2=>hi.obj b' o l (pI b' o h1) h2,fun b₁ b₂ o₁ o₂ l₁ l₂ h1 h2=>hi.inj b₁ b₂ o₁ o₂ l₁ l₂ (pI b₁ o₁ h1) (pI b₂ o₂ h2)⟩;show(U.m.put none b).get b'=none;rw[N.lW];split
  ·rfl
  exact(hi.fresh b' u).2
 refine⟨fun _ _=>Z,nR_ _,nR_ _,fun _ _ _=>Z,?_,Z,Z,Z⟩;rintro r ⟨b₁,o₁,l₁,h1,h2,z,rfl⟩ hr;exact⟨b₁,o₁,l₁,pI b₁ o₁ h1,h2,z,Z⟩
theorem Inv.forget (hi:Inv S U w) (b:Pos):Inv S (U.drop b) w/\eY S U w S (U.drop b) w:=hi.of (hi.BN b)
end
def MY (k:IntKind) (n:Int):Bool:=
 match k,n with
 | .i8,.ofNat a=>Nat.ble a 127 | .i8,.negSucc a=>Nat.ble a 127
 | .i16,.ofNat a=>Nat.ble a 32767 | .i16,.negSucc a=>Nat.ble a 32767
 | .i32,.ofNat a=>Nat.ble a 2147483647 | .i32,.negSucc a=>Nat.ble a 2147483647
 | .i64,.ofNat a=>Nat.ble a 9223372036854775807 | .i64,.negSucc a=>Nat.ble a 9223372036854775807
 | .u8,.ofNat a=>Nat.ble a 255 | .u16,.ofNat a=>Nat.ble a 65535
 | .u32,.ofNat a=>Nat.ble a 4294967295 | .u64,.ofNat a=>Nat.ble a 18446744073709551615
 | _,_=>false
def wr (k:IntKind) (n:Int):Int:=bif MY k n then n else k.wrap n
def bU (x y:Int):Bool:=
 match x,y with
 | .ofNat a,.ofNat b=>Nat.ble (Nat.succ a) b
 | .negSucc _,.ofNat _=>true
 | .ofNat _,.negSucc _=>false
 | .negSucc a,.negSucc b=>Nat.ble (Nat.succ b) a
def I (x y:Int):Bool:=
 match x,y with
 | .ofNat a,.ofNat b=>Nat.beq a b
 | .negSucc a,.negSucc b=>Nat.beq a b
 | _,_=>false
def gL (s t:List Nat):Bool:=
 List.rec (motive:=fun _=>List Nat->Bool) (fun t=>List.rec (motive:=fun _=>Bool) true (fun _ _ _=>false) t)
  (fun x _ ih t=>List.rec (motive:=fun _=>Bool) false (fun y u _=>bif Nat.beq x y then ih u else false) t) s t
def Kb (s t:List Nat):Bool:=
 List.rec (motive:=fun _=>List Nat->Bool) (fun t=>List.rec (motive:=fun _=>Bool) false (fun _ _ _=>true) t)
  (fun x _ ih t=>List.rec (motive:=fun _=>Bool) false (fun y u _=>bif Nat.ble (Nat.succ x) y then true else bif Nat.beq x y then ih u else false) t) s t
def r9:IntKind->IntKind->Bool
 | .i8,.i8 | .i16,.i16 | .i32,.i32 | .i64,.i64 | .u8,.u8 | .u16,.u16 | .u32,.u32 | .u64,.u64=>true
 | _,_=>false
def kK:Value->Option V
 | .bool b=>some (.bool b)
 | .int k n=>some (.int k n)
 | .string s=>some (.str<|s.data.toList.map UInt8.toNat)
 | .pointer none=>some .nilPtr
 | .slice none 0 0=>some .ax
 | .map none=>some .iR
 | .nilFunc=>some .nilFunc
 | .nilIface=>some .nilIface
 | _=>none
def qb:Value->Option V
 | .agg cs=>(cW kK cs.toList).map .agg
 | .tuple cs=>(cW kK cs.toList).map .tuple
 | v=>kK v
def uI (P:Program) (t:TypeId):Option TypeInfo:=
 match nth P.types.toList t with
 | some i=>some i
 | none=>P.info? t
def pk (P:Program) (t:TypeId):Option TypeDesc:=
 match uI P t with
 | some {desc:=.named _ u,..}=>(uI P u).map (·.desc)
 | some i=>some i.desc
 | none=>none
theorem p4 (P:Program) (t:TypeId):uI P t=P.info? t:=by
 unfold uI;rw[eF,aT_];cases h:P.types[t]? with
 | none=>rfl
 | some i=>
  have hlt:=(aS_.1 h).1;unfold Tables.info?;rw[if_pos hlt,h]
theorem ow (P:Program) (t:TypeId):pk P t=P.underlying t:=by
 unfold pk Program.underlying;simp only[p4];rfl
def dU (P:Program) (t:TypeId):Option (Option Nat):=
 match pk P t with
 | some (.struct _) | some (.array _ _)=>some (some (((uI P t).map (·.size)).getD 0))
 | some _=>some none
 | none=>none
theorem Ba (P:Program) (t:TypeId):dU P t=match P.underlying t with
 | some (.struct _) | some (.array _ _)=>some (some<|P.cellsOf t)
 | some _=>some none
 | none=>none:=by
 unfold dU;rw[ow,p4];rfl
def cS:V->Option (List V)
 | .agg cs=>some cs
 | .tuple _=>none
 | .any=>none
 | v=>some [v]
def iB:V->Bool
 | .agg _ | .tuple _ | .any=>false
 | _=>true
def cD (l:List V):Bool:=List.rec (motive:=fun _=>Bool) true (fun v _ r=>bif iB v then r else false) l
def l6 (cs l:List V):List V:=
 List.rec (motive:=fun _=>List V->List V) (fun l=>l) (fun c _ ih l=>List.rec (motive:=fun _=>List V) [] (fun _ l _=>c::ih l) l) cs l
def dG (cs l:List V) (off:Nat):List V:=
 List.rec (motive:=fun _=>Nat->List V) (fun _=>[]) (fun x l ih off=>Nat.rec (motive:=fun _=>List V) (l6 cs (x::l)) (fun m _=>x::ih m) off) l off
def FD (P:Program) (t:TypeId) (cs:List V) (off:Nat):Option V:=
 match dU P t with
 | some (some n)=>some (.agg<|takeN (dS cs off) n)
 | some none=>nth cs off
 | none=>none
def kx (place:Nat->Option (Nat×Nat)) (ev:Operand->Option V) (parts:List (Nat×Operand)) (cells:List V):Option (List V):=
 List.rec (motive:=fun _=>List V->Option (List V)) (fun cells=>some cells)
  (fun p _ ih cells=>
   match place p.1,(ev p.2).bind cS with
   | some (off,size),some vs=>bif Nat.beq (cX vs) size && Nat.ble (off+size) (cX cells) then ih (dG vs cells off) else none
   | _,_=>none) parts cells
def fB (P:Program) (t:TypeId):Option V:=(P.info? t).bind fun i=>i.zero.bind qb
def fp (cs:List V) (n:Nat):List V:=Nat.rec (motive:=fun _=>List V) [] (fun _ r=>ie cs r) n
def structOf (P:Program) (t:TypeId):Option (Array Field):=
 match pk P t with
 | some (.struct fs)=>some fs
 | _=>none
def sa:V->V->Option Bool
 | .bool a,.bool b=>some (bif a then b else(bif b then false else true))
 | .int j a,.int k b=>bif r9 j k then some (I a b) else none
 | .str a,.str b=>some (gL a b)
 | _,_=>none
def jE (P:Program) (fs:List Field) (xs ys:List V):Option Bool:=
 List.rec (motive:=fun _=>Option Bool) (some true)
  (fun f _ ih=>
   match P.underlying f.type,nth xs f.offset,nth ys f.offset with
   | some .bool,some (.bool a),some (.bool b)=>bif (bif a then b else(bif b then false else true)) then ih else some false
   | some (.int _),some (.int j a),some (.int k b)=>bif r9 j k then(bif I a b then ih else some false) else none
   | some .string,some (.str a),some (.str b)=>bif gL a b then ih else some false
   | _,_,_=>none) fs
def kU (fs:List Field):Bool:=List.rec (motive:=fun _=>Bool) true (fun f _ r=>bif f.name == "_" then false else r) fs
def wj (xs ys:List V):Option Bool:=
 List.rec (motive:=fun _=>List V->Option Bool) (fun ys=>match ys with | []=>some true | _=>none)
  (fun x _ ih ys=>match x,ys with
   | .int j a,.int k b::r=>bif r9 j k then(bif I a b then ih r else some false) else none
   | _,_=>none) xs ys
def sd (P:Program) (e:TypeId):Bool:=
 match P.underlying e,P.info? e with
 | some (.int _),some i=>Nat.beq i.size 1
 | _,_=>false
def eqFields (P:Program) (fs:List Field) (xs ys:List V):Option Bool:=
 List.rec (motive:=fun _=>Option Bool) (some true)
  (fun f _ ih=>
   match P.underlying f.type,nth xs f.offset,nth ys f.offset with
   | some .bool,some (.bool a),some (.bool b)=>bif (bif a then b else(bif b then false else true)) then ih else some false
   | some (.int _),some (.int j a),some (.int k b)=>bif r9 j k then(bif I a b then ih else some false) else none
   | some .string,some (.str a),some (.str b)=>bif gL a b then ih else some false
   | some (.struct gs),_,_=>bif P.stoodInHeld f.type || !kU gs.toList then none else match dU P f.type with
    | some (some n)=>match jE P gs.toList (takeN (dS xs f.offset) n) (takeN (dS ys f.offset) n) with
     | some true=>ih
     | some false=>some false
     | none=>none
    | _=>none
   | some (.array m e),_,_=>bif sd P e then(match dU P f.type with
    | some (some n)=>bif Nat.beq n m && (Nat.beq (cX<|takeN (dS xs f.offset) n) m && Nat.beq (cX<|takeN (dS ys f.offset) n) m) then(match wj (takeN (dS xs f.offset) n) (takeN (dS ys f.offset) n) with
     | some true=>ih
     | some false=>some false
     | none=>none) else none
    | _=>none) else none
   | _,_,_=>none) fs
def DA (P:Program) (t:TypeId) (x y:V):Option Bool:=
 match x,y with
 | .agg xs,.agg ys=>
  match structOf P t with
  | some fs=>bif P.eqGuardType P.depth t || P.stoodInHeld t || !kU fs.toList then none else eqFields P fs.toList xs ys
  | none=>none
 | .nilPtr,.nilPtr=>match P.underlying t with | some (.pointer _)=>some true | _=>none
 | .ptr _ _,.nilPtr | .nilPtr,.ptr _ _=>match P.underlying t with | some (.pointer _)=>some false | _=>none
 | .ptr b o,.ptr b' o'=>match P.underlying t with | some (.pointer u)=>bif Nat.beq b b' && (Nat.beq o o' && (P.info? u).isSome) then some true else none | _=>none
 | .nilIface,.iface _ _ | .iface _ _,.nilIface=>match P.underlying t with | some (.interface _)=>some false | _=>none
 | .ax,.ax=>match P.underlying t with | some (.slice _)=>some true | _=>none
 | .slice _ _ _ _,.ax | .ax,.slice _ _ _ _=>match P.underlying t with | some (.slice _)=>some false | _=>none
 | .nilFunc,.nilFunc=>match P.underlying t with | some (.func _ _ _)=>some true | _=>none
 | .func _ _ _,.nilFunc | .nilFunc,.func _ _ _=>match P.underlying t with | some (.func _ _ _)=>some false | _=>none
 | .iR,.iR=>match P.underlying t with | some (.map _ _)=>some true | _=>none
 | .map _,.iR | .iR,.map _=>match P.underlying t with | some (.map _ _)=>some false | _=>none
 | _,_=>none
def nc (P:Program) (op:BinOp) (t:TypeId) (x y:V):Option V:=
 match op with
 | .eql=>match DA P t x y with | some b=>some (.bool b) | none=>none
 | .neq=>match DA P t x y with | some b=>some (.bool (bif b then false else true)) | none=>none
 | _=>none
def sC (P:Program) (op:BinOp) (t:TypeId) (x y:V):Option V:=
 match x,y with
 | .int k a,.int k' b=>
  match op with
  | .shl=>bif bU b 0 then none else some (.int k<|wr k (a*2 ^ (min b.toNat k.bits)))
  | .shr=>bif bU b 0 then none else some (.int k<|a.fdiv (2 ^ (min b.toNat k.bits)))
  | op=>
   bif r9 k k' then
    match op with
    | .add=>some (.int k<|wr k<|Int.add a b)
    | .sub=>some (.int k<|wr k<|Int.sub a b)
    | .mul=>some (.int k<|wr k<|Int.mul a b)
    | .quo=>bif I b 0 then none else some (.int k<|wr k<|a.tdiv b)
    | .rem=>bif I b 0 then none else some (.int k<|a.tmod b)
    | .and=>some (.int k<|k.wrap (BitVec.ofInt k.bits a &&& BitVec.ofInt k.bits b).toNat)
    | .or=>some (.int k<|k.wrap (BitVec.ofInt k.bits a ||| BitVec.ofInt k.bits b).toNat)
    | .xor=>some (.int k<|k.wrap (BitVec.ofInt k.bits a ^^^ BitVec.ofInt k.bits b).toNat)
    | .andNot=>some (.int k<|k.wrap (BitVec.ofInt k.bits a &&& ~~~(BitVec.ofInt k.bits b)).toNat)
    | .eql=>some (.bool<|I a b)
    | .neq=>some (.bool (bif I a b then false else true))
    | .lss=>some (.bool<|bU a b)
    | .leq=>some (.bool (bif bU b a then false else true))
    | .gtr=>some (.bool<|bU b a)
    | .geq=>some (.bool (bif bU a b then false else true))
    | _=>none
   else none
 | .str a,.str b=>
  match op with
  | .add=>bif Nat.ble (cX a+cX b) 1152921504606846976 then some (.str<|ie a b) else none
  | .eql=>some (.bool<|gL a b)
  | .neq=>some (.bool (bif gL a b then false else true))
  | .lss=>some (.bool<|Kb a b)
  | .gtr=>some (.bool<|Kb b a)
  | .leq=>some (.bool (bif Kb b a then false else true))
  | .geq=>some (.bool (bif Kb a b then false else true))
  | _=>none
 | .bool a,.bool b=>
  match op,P.underlying t with
  | .eql,some .bool=>some (.bool (bif a then b else(bif b then false else true)))
  | .neq,some .bool=>some (.bool (bif a then(bif b then false else true) else b))
  | _,_=>none
 | x,y=>nc P op t x y
def eI (ev:Operand->Option V) (x:Operand) (y:Nat):Option Nat:=
 match ev x with
 | some (.int _ (.ofNat i))=>bif Nat.ble i y then some i else none
 | _=>none
def da (ev:Operand->Option V) (len cap:Nat) (lo hi:Option Operand):Option (Nat×Nat):=
 match(match hi with | some h=>eI ev h cap | none=>some len) with
 | some h=>match(match lo with | some l=>eI ev l h | none=>some 0) with
  | some l=>some (l,h)
  | none=>none
 | none=>none
def cut (P:Program) (e:TypeId) (b:Pos) (off l h m:Nat):Option V:=
 match P.info? e with
 | some j=>some (.slice b (bif Nat.beq m l then off else off+l*j.size) (h-l) (.known (m-l)))
 | none=>none
def cutAt (P:Program) (ev:Operand->Option V) (e:TypeId) (b:Pos) (off len cap:Nat) (lo hi mx:Option Operand):Option V:=
 match mx with
 | none=>match da ev len cap lo hi with
  | some (l,h)=>cut P e b off l h cap
  | none=>none
 | some x=>match eI ev x cap,hi with
  | some m,some _=>match da ev m m lo hi with
   | some (l,h)=>cut P e b off l h m
   | none=>none
  | _,_=>none
def fo (P:Program) (ev:Operand->Option V) (t:TypeId) (x:Operand) (lo hi mx:Option Operand):Option V:=
 match P.underlying t,ev x with
 | some (.slice e),some (.slice b off len (.known cap))=>cutAt P ev e b off len cap lo hi mx
 | some (.slice e),some (.slice b off len (.upto sz))=>
  match mx with
  | none=>match da ev len len lo hi,P.info? e with
   | some (l,h),some j=>bif Nat.beq j.size sz then some (.slice b (off+l*sz) (h-l) (.upto sz)) else none
   | _,_=>none
  | some x=>bif Nat.beq len 0 then none else cutAt P ev e b off len len lo hi (some x)
 | some (.slice e),some (.slice b off len (.least a sz))=>
  match mx with
  | none=>match da ev len a lo hi,P.info? e with
   | some (l,h),some j=>bif Nat.beq j.size sz && (Nat.ble len a && Nat.ble (Nat.succ l) a) then some (.slice b (off+l*sz) (h-l) (.least (a-l) sz)) else none
   | _,_=>none
  | some _=>none
 | some (.slice e),some .ax=>
  match mx with
  | none=>match da ev 0 0 lo hi,P.info? e with | some _,some _=>some .ax | _,_=>none
  | some _=>none
 | some (.array n e),some (.ptr b off)=>cutAt P ev e b off n n lo hi mx
 | some (.pointer arr),some (.ptr b off)=>
  match P.underlying arr with
  | some (.array n e)=>cutAt P ev e b off n n lo hi mx
  | _=>none
 | some .string,some (.str s)=>
  match mx with
  | none=>match da ev (cX s) (cX s) lo hi with
   | some (l,h)=>some (.str<|takeN (dS s l) (h-l))
   | none=>none
  | some _=>none
 | _,_=>none
def wR (P:Program) (t:TypeId) (x:V):Option Nat:=
 match P.underlying t,x with
 | some .string,.str s=>some (cX s)
 | some (.array n _),_=>some n
 | some (.slice _),.slice _ _ n _=>some n
 | some (.slice _),.ax=>some 0
 | some (.map _ _),.iR=>some 0
 | _,_=>none
def Mv:V->Option V
 | .slice _ _ _ (.known c)=>some (.int .i64<|Int.ofNat c)
 | .slice _ _ _ (.least a _)=>some (.oE a)
 | .ax=>some (.int .i64 0)
 | _=>none
def HK (P:Program) (op:BinOp) (t:TypeId) (x y:V):Option V:=
 match y with
 | .oE a=>match op,x with
  | .gtr,.int .i64 (.ofNat n)=>bif Nat.ble n a then some (.bool false) else none
  | _,_=>none
 | y=>sC P op t x y
def yT:Operand->Bool
 | .const _=>true
 | _=>false
def IZ (P:Program) (o:BinOp) (t:TypeId) (k:Bool):Option V:=
 bif k then(match P.underlying t with
  | some (.interface _)=>match o with
   | .eql=>some (.bool true)
   | .neq=>some (.bool false)
   | _=>none
  | _=>none) else none
def vh (P:Program) (k:Bool) (o:BinOp) (t:TypeId) (x y:V):Option V:=
 match x with
 | .nilIface=>match y with
  | .nilIface=>IZ P o t k
  | y=>HK P o t .nilIface y
 | x=>HK P o t x y
def tN (ev:Operand->Option V) (l:List Operand):Option (List V):=cW ev l
def Nc:V->V->Option V
 | .int k x,.int k' y=>bif r9 k k' then some (.int k (bif bU y x then y else x)) else none
 | _,_=>none
def Nb:V->V->Option V
 | .int k x,.int k' y=>bif r9 k k' then some (.int k (bif bU x y then y else x)) else none
 | _,_=>none
def di (P:Program) (ev:Operand->Option V):Op->Option V
 | .move x | .assign x=>ev x
 | .pick c a b=>match ev c with | some (.bool true)=>ev a | some (.bool false)=>ev b | _=>none
 | .build t parts=>
  match P.underlying t,(fB P t).bind cS with
  | some (.struct fs),some zero=>match cW (fun f:Field=>(P.info? f.type).map fun j=>(f.offset,j.size)) fs.toList with
   | some places=>(kx (nth places) ev parts.toList zero).map .agg
   | none=>none
  | some (.array _ e),some zero=>match P.info? e with
   | some j=>(kx (fun i=>some (i*j.size,j.size)) ev parts.toList zero).map .agg
   | none=>none
  | _,_=>none
 | .nilCheck x=>match ev x with
  | some .nilPtr | some .nilIface | some .nilFunc | some (.yield _) | some .any | some (.tok _)=>none
  | v=>v
 | .binOp op t x y _=>match ev x,ev y with | some a,some b=>vh P (yT x || yT y) op t a b | _,_=>none
 | .unOp op _ x=>match op,ev x with
  | .not,some (.bool b)=>some (.bool (bif b then false else true))
  | .neg,some (.int k n)=>some (.int k<|wr k<|Int.sub 0 n)
  | .xor,some (.int k n)=>some (.int k<|k.wrap (BitVec.ofInt k.bits (if k.signed then-1 else k.max) ^^^ BitVec.ofInt k.bits n).toNat)
  | _,_=>none
 | .convert src dst x=>match P.underlying src,P.underlying dst,ev x with
  | some (.int _),some (.int k),some (.int _ n)=>some (.int k<|wr k n)
  | some .string,some .string,some (.str s)=>some (.str s)
  | _,_,_=>none
 | .makeInterface t x=>match P.underlying t,ev x with
  | some (.interface _),_=>none
  | some _,some v=>some (.iface t v)
  | _,_=>none
 | .makeFunc fn first captured=>match fn,tN ev first.toList,tN ev captured.toList with
  | .func f,some a,some b=>some (.func f a b)
  | _,_,_=>none
 | .slice t x lo hi mx=>fo P ev t x lo hi mx
 | .fieldAddr s x i=>match structOf P s,ev x with
  | some fs,some (.ptr b off)=>match fs[i]? with
   | some f=>match P.info? f.type with
    | some j=>bif Nat.beq j.size 0 then none else some (.ptr b (off+f.offset))
    | none=>none
   | none=>none
  | _,_=>none
 | .field t x i=>match structOf P t,ev x with
  | some fs,some (.agg cs)=>match fs[i]? with
   | some f=>FD P f.type cs f.offset
   | none=>none
  | _,_=>none
 | .indexAddr t x i=>match P.underlying t,ev x,ev i with
  | some (.slice e),some (.slice b off len _),some (.int _ (.ofNat i))=>
   match P.info? e with
   | some j=>bif Nat.ble (Nat.succ i) len then some (.ptr b (off+i*j.size)) else none
   | none=>none
  | some (.array n e),some (.ptr b off),some (.int _ (.ofNat i))=>
   match P.info? e with
   | some j=>bif Nat.ble (Nat.succ i) n then some (.ptr b (off+i*j.size)) else none
   | none=>none
  | _,_,_=>none
 | .index t x i=>match P.underlying t,ev x,ev i with
  | some (.array n e),some (.agg cs),some (.int _ (.ofNat i))=>bif Nat.ble (Nat.succ i) n then(match P.info? e with | some j=>FD P e cs (i*j.size) | none=>none) else none
  | some .string,some (.str s),some (.int _ (.ofNat i))=>match nth s i with | some b=>some (.int .u8<|Int.ofNat b) | none=>none
  | _,_,_=>none
 | .extract x i=>match ev x with
  | some (.tuple vs)=>nth vs i
  | _=>none
 | .typeAssert x _ t ok=>match P.underlying t,ev x with
  | some (.interface _),_=>none
  | some _,some (.iface u v)=>bif Nat.beq u t then some (bif ok then .tuple [v,.bool true] else v) else(bif ok then(fB P t).map fun z=>.tuple [z,.bool false] else none)
  | some _,some .nilIface=>bif ok then(fB P t).map fun z=>.tuple [z,.bool false] else none
  | _,_=>none
 | .call c=>match c.callee with
  | .builtin .len=>match c.argTypes[0]?,c.args.toList with
   | some t,[x]=>match ev x with | some v=>(wR P t v).map fun n=>.int .i64 (Int.ofNat n) | none=>none
   | _,_=>none
  | .builtin .cap=>match c.argTypes[0]?,c.args.toList with
   | some t,[x]=>match P.underlying t,ev x with | some (.slice _),some v=>Mv v | _,_=>none
   | _,_=>none
  | .builtin .min=>match c.args.toList with
   | [x,y]=>(match ev x,ev y with | some a,some b=>Nc a b | _,_=>none)
   | _=>none
  | .builtin .max=>match c.args.toList with
   | [x,y]=>(match ev x,ev y with | some a,some b=>Nb a b | _,_=>none)
   | _=>none
  | _=>none
 | _=>none
def plainKey (P:Program) (t:TypeId):Bool:=
 match P.underlying t with
 | some (.int _) | some .string | some .bool=>true
 | some (.struct fs)=>fs.toList.all fun f=>match P.underlying f.type with
  | some (.int _) | some .string | some .bool=>true
  | some (.struct gs)=>gs.toList.all fun g=>match P.underlying g.type with
   | some (.int _) | some .string | some .bool=>true
   | _=>false
  | some (.array _ e)=>sd P e
  | _=>false
 | _=>false
def py (P:Program) (t:TypeId) (x y:V):Option Bool:=
 match P.underlying t,x,y with
 | some (.int _),.int j a,.int k b=>bif r9 j k then some (I a b) else none
 | some .string,.str a,.str b=>some (gL a b)
 | some .bool,.bool a,.bool b=>some (bif a then b else(bif b then false else true))
 | some (.struct _),.agg xs,.agg ys=>DA P t (.agg xs) (.agg ys)
 | _,_,_=>none
def mI (P:Program) (t:TypeId) (x:V):Bool:=
 match P.underlying t,x with
 | some (.struct fs),.agg xs=>fs.toList.all fun f=>match P.underlying f.type with
  | some (.struct gs)=>match dU P f.type with
   | some (some n)=>gs.toList.all fun g=>(nth (takeN (dS xs f.offset) n) g.offset).isSome
   | _=>false
  | some (.array m _)=>match dU P f.type with
   | some (some n)=>Nat.beq n m && Nat.beq (cX<|takeN (dS xs f.offset) n) m
   | _=>false
  | _=>(nth xs f.offset).isSome
 | some (.struct _),_=>false
 | _,_=>true
def pr (P:Program) (t:TypeId) (k:V) (es:List fC):Nat->Option (Option (Nat×V)):=
 List.rec (motive:=fun _=>Nat->Option (Option (Nat×V))) (fun _=>some none)
  (fun e _ ih i=>match py P t k e.key with
   | some true=>some (some (i,e.val))
   | some false=>ih (Nat.succ i)
   | none=>none) es
def sn (P:Program) (u:Option TypeId) (U:D) (x:Option V):Option V:=
 match x with
 | some (.ptr b off)=>match U.m.get b with
  | some (.own cells e)=>match u with
   | some u=>bif liesAt P P.depth e (cX cells/P.cellsOf e) off u 1 then some (.ptr b off) else none
   | none=>bif Nat.ble (Nat.succ off) (cX cells) then some (.ptr b off) else none
  | _=>none
 | _=>none
def yz:V->Option Nat
 | .int .u8 (.ofNat n)=>bif Nat.ble n 255 then some n else none
 | _=>none
def gW (P:Program) (ev:Operand->Option V) (U:D):Op->Option V
 | .load t x=>match ev x with
  | some (.ptr b off)=>match U.m.get b with
   | some (.row cells _ _)=>match dU P t with
    | some (some n)=>bif Nat.ble (off+n) (cX cells) then some (.agg<|takeN (dS cells off) n) else none
    | some none=>nth cells off
    | none=>none
   | some (.own cells _)=>match dU P t with
    | some (some n)=>bif Nat.ble (off+n) (cX cells) then some (.agg<|takeN (dS cells off) n) else none
    | some none=>nth cells off
    | none=>none
   | _=>none
  | _=>none
 | .lookup t x i ok=>match P.underlying t,ev i with
  | some (.map kt et),some k=>bif plainKey P kt && mI P kt k then
    match(match ev x with
     | some .iR=>some []
     | some (.map b)=>match U.m.get b with | some (.map es _)=>some es | _=>none
     | _=>none) with
    | some es=>match pr P kt k es 0,fB P et with
     | some (some (_,v)),some _=>some (bif ok then .tuple [v,.bool true] else v)
     | some none,some z=>some (bif ok then .tuple [z,.bool false] else z)
     | _,_=>none
    | none=>none
   else none
  | _,_=>none
 | .call c=>match c.callee with
  | .builtin .len=>match c.argTypes[0]?,c.args.toList with
   | some t,[x]=>match P.underlying t,ev x with
    | some (.map _ _),some (.map b)=>match U.m.get b with
     | some (.map es _)=>some (.int .i64<|Int.ofNat<|cX es)
     | _=>none
    | some (.map _ _),some .iR=>some (.int .i64 0)
    | _,_=>none
   | _,_=>none
  | _=>none
 | .convert src dst x=>match P.underlying src,P.underlying dst with
  | some (.slice e),some .string=>match P.underlying e,ev x with
   | some (.int .u8),some .ax=>some (.str [])
   | some (.int .u8),some (.slice b off len _)=>bif Nat.beq len 0 then some (.str []) else match U.m.get b with
    | some (.row cells _ _)=>bif Nat.ble (off+len) (cX cells) then(match cW yz (takeN (dS cells off) len) with | some s=>some (.str s) | none=>none) else none
    | _=>none
   | _,_=>none
  | some (.pointer t),some .unsafePointer=>match P.info? t with
   | some j=>bif Nat.beq j.size 0 then none else sn P none U (ev x)
   | none=>none
  | some .unsafePointer,some (.pointer u)=>bif (P.info? u).isSome then sn P (some u) U (ev x) else none
  | _,_=>none
 | _=>none
inductive Mk where
 | ptr
 | slice (len cap:Nat)
 | map
def Mk.of:Mk->Pos->V
 | .ptr,b=>.ptr b 0
 | .slice len cap,b=>.slice b 0 len (.known cap)
 | .map,b=>.map b
def ta (P:Program) (e:TypeId):Bool:=
 match P.underlying e with
 | some (.struct fs)=>match fs[0]? with
  | some f=>match P.underlying f.type with
   | some (.pointer t)=>Nat.beq t e
   | _=>false
  | none=>false
 | _=>false
def gi (P:Program) (ev:Operand->Option V):Op->Option (cG×Mk)
 | .alloc e=>match(fB P e).bind cS with
  | some cs=>some (bif ta P e then .own cs e else .row cs e false,.ptr)
  | none=>none
 | .box e x=>match(ev x).bind cS with
  | some cs=>some (.row cs e false,.ptr)
  | none=>none
 | .buildSlice t len parts=>match P.underlying t with
  | some (.slice e)=>match P.info? e,(fB P e).bind cS with
   | some j,some z=>
    bif Nat.beq (cX z) j.size && Nat.ble (len*j.size) 16777216 && Nat.ble 1 j.size then
     match kx (fun i=>some (i*j.size,j.size)) ev parts.toList (fp z len) with
     | some cs=>some (.row cs e false,.slice len len)
     | none=>none
    else none
   | _,_=>none
  | _=>none
 | .makeSlice t l c=>match P.underlying t,ev l,ev c with
  | some (.slice e),some (.int _ (.ofNat l)),some (.int _ (.ofNat c))=>match P.info? e,(fB P e).bind cS with
   | some j,some z=>
    bif Nat.ble l c && Nat.ble (j.bytes*c) 1048576 && Nat.ble c 1048576 && Nat.beq (cX z) j.size && Nat.ble 1 j.size then some (.row (fp z c) e false,.slice l c) else none
   | _,_=>none
  | _,_,_=>none
 | .makeMap _ none=>some (.map [] 0,.map)
 | .makeMap t (some r)=>match P.underlying t,ev r with
  | some (.map _ _),some (.int _ _)=>some (.map [] 0,.map)
  | _,_=>none
 | _=>none
theorem bA {c:Bool} {α:Type} {x y:α}:(bif c then x else y)=if c=true then x else y:=by cases c<;>rfl
theorem uZ (k:IntKind) (n:Int) (h:MY k n=true):k.wrap n=n:=by
 cases k<;>cases n with
 | ofNat a=>simp only[MY,nE_] at h;simp only[IntKind.wrap,IntKind.bits,IntKind.signed];simp;omega
 | negSucc a=>first | (simp only[MY,nE_] at h;simp only[IntKind.wrap,IntKind.bits,IntKind.signed];simp;omega) | (simp[MY] at h)
theorem zu (k:IntKind) (n:Int):wr k n=k.wrap n:=by
 unfold wr;cases h:MY k n with
 | true=>simp[uZ k n h]
 | false=>simp
theorem eP (x y:Int):bU x y=decide (x<y):=by
 cases x<;>cases y<;>simp only[bU]<;>(rw[Bool.eq_iff_iff];simp[nE_];try omega)
theorem dF (x y:Int):I x y=decide (x=y):=by
 cases x<;>cases y<;>simp only[I]<;>(rw[Bool.eq_iff_iff];simp;try omega)
theorem pR {j k:IntKind} (h:r9 j k=true):j=k:=by cases j<;>cases k<;>first | rfl | (simp[r9] at h)
theorem mB:∀(s t:List Nat),gL s t=decide (s=t)
 | [],[]=>by simp[gL]
 | [],_::_=>by simp[gL]
 | _::_,[]=>by simp[gL]
 | x::s,y::t=>by
  show(bif Nat.beq x y then gL s t else false)=_;rw[mB s t,Bool.eq_iff_iff];cases h:Nat.beq x y with
  | true=>have:=nB h;subst this;simp
  | false=>have:=Nat.ne_of_beq_eq_false h;simp[this]
theorem IS:∀(s t:List UInt8),Kb (s.map UInt8.toNat) (t.map UInt8.toNat)=Op.bytesLess s t
 | [],[]=>by simp[Kb,Op.bytesLess]
 | [],_::_=>by simp[Kb,Op.bytesLess]
 | _::_,[]=>by simp[Kb,Op.bytesLess]
 | x::s,y::t=>by
  show(bif Nat.ble (Nat.succ x.toNat) y.toNat then true else bif Nat.beq x.toNat y.toNat then Kb (s.map UInt8.toNat) (t.map UInt8.toNat) else false)=_;rw[IS s t];simp only[Op.bytesLess]
  have e1:Nat.ble (Nat.succ x.toNat) y.toNat=decide (x<y):=by
   rw[Bool.eq_iff_iff,nE_];simp[UInt8.lt_iff_toNat_lt];omega
  have u:Nat.beq x.toNat y.toNat=(x == y):=by
   rw[Bool.eq_iff_iff,Nat.beq_eq];simp[<-UInt8.toNat_inj]
  rw[e1,u];cases decide (x<y)<;>cases (x == y)<;>simp
theorem rL:∀{x y:List UInt8},x.map UInt8.toNat=y.map UInt8.toNat->x=y
 | [],[],_=>rfl
 | [],_::_,h=>by simp at h
 | _::_,[],h=>by simp at h
 | a::x,b::y,h=>by
  simp only[List.map_cons,List.cons.injEq] at h;rw[UInt8.toNat_inj.1 h.1,rL h.2]
theorem ou {s t:List Nat} {x y:ByteArray} (h:hY s x) (h':hY t y):gL s t=(x.toList == y.toList):=by
 unfold hY at h h';subst h;subst h';rw[mB,ByteArray.toList_eq,ByteArray.toList_eq,Bool.eq_iff_iff];simp only[decide_eq_true_eq,beq_iff_eq];exact⟨rL,fun h=>by rw[h]⟩
theorem zf {s t:List Nat} {x y:ByteArray} (h:hY s x) (h':hY t y):Kb s t=Op.bytesLess x.toList y.toList:=by
 unfold hY at h h';subst h;subst h';rw[IS,ByteArray.toList_eq,ByteArray.toList_eq]
theorem jK {s:List Nat} {x:ByteArray} (h:hY s x):cX s=x.size:=by
 unfold hY at h;subst h;rw[bK,lM_,Array.length_toList];rfl
theorem info_of_underlying {P:Program} {t:TypeId} {d:TypeDesc} (h:P.underlying t=some d):∃i,P.info? t=some i:=by
 unfold Program.underlying at h;cases hi:P.info? t with
 | none=>simp[hi] at h
 | some i=>exact⟨i,Z⟩
theorem r6 {P:Program} {t:TypeId} {i:TypeInfo} (h:P.info? t=some i):P.cellsOf t=i.size:=by simp[Program.cellsOf,h]
theorem w5:∀(cs l:List V),cs.length<=l.length->l6 cs l=cs++l.drop cs.length
 | [],l,_=>by simp[l6]
 | c::cs,[],h=>by simp at h
 | c::cs,x::l,h=>by
  show c::l6 cs l=_;rw[w5 cs l (by simpa using h)];simp
theorem oo (cs:List V):∀(l:List V) (off:Nat),off+cs.length<=l.length->dG cs l off=l.take off++cs++l.drop (off+cs.length)
 | [],off,h=>by
  have:cs= []:=eN_ (by simp only[List.length_nil] at h;omega);subst this;simp[dG]
 | x::l,0,h=>by
  show l6 cs (x::l)=_;rw[w5 _ _ (by simpa using h)];simp
 | x::l,off+1,h=>by
  show x::dG cs l off=_;rw[oo cs l off (by simp at h;omega)];rw[show off+1+cs.length=(off+cs.length)+1 by omega];simp
theorem rT:∀{l:List V},cD l=true->∀v∈l,iB v=true
 | [],_,v,hv=>by simp at hv
 | x::l,h,v,hv=>by
  have h':(bif iB x then cD l else false)=true:=h;cases hx:iB x with
  | false=>rw[hx] at h';simp at h'
  | true=>
   rw[hx] at h';cases hv with
   | head=>exact hx
   | tail _ hm=>exact rT h' v hm
theorem oV {S:dh} {v:V} {x:Value} (h:iB v=true) (hv:H S v x):x.oneCell'=true:=by
 cases v with
 | slice b off len cap=>
  cases cap with
  | upto sz=>
   simp only[H] at hv;rcases hv with ⟨l,_,⟨c,rfl,_⟩ | ⟨_,a,rfl⟩⟩<;>rfl
  | known c=>simp only[H] at hv;obtain⟨l,_,rfl⟩:=hv;rfl
  | least a sz=>simp only[H] at hv;obtain⟨l,_,c,rfl,_⟩:=hv;rfl
 | any=>simp[iB] at h
 | tok n=>simp only[H] at hv;exact hv.2
 | _=>simp only[H,iB] at hv h<;>first | (subst hv;rfl) | (obtain⟨_,rfl,_⟩:=hv;rfl) | (obtain⟨_,_,rfl⟩:=hv;rfl) | (obtain⟨_,_,rfl,_⟩:=hv;rfl) | (exact absurd h (by simp))
theorem oY {S:dh} {x:Value} {v:V} (h:kK x=some v):H S v x:=by
 unfold kK at h;split at h<;>first | (cases h;first | (simp only[H];done) | (simp only[H];exact⟨_,Z,Z⟩)) | cases h
theorem nu {S:dh}:∀{xs:List Value} {vs:List V},cW kK xs=some vs->dp S vs xs
 | [],vs,h=>by rw[iK] at h;cases h;exact dp.nil
 | x::xs,vs,h=>by
  obtain⟨y,r,h1,h2,rfl⟩:=gX h;exact dp.cons (oY h1)<|nu h2
theorem qc {S:dh} {x:Value} {v:V} (h:qb x=some v):H S v x:=by
 unfold qb at h;split at h
 ·rename_i cs;cases hc:cW kK cs.toList with
  | none=>rw[hc] at h;cases h
  | some vs=>rw[hc] at h;cases h;simp only[H];exact⟨cs,Z,nu hc⟩
 ·rename_i cs;cases hc:cW kK cs.toList with
  | none=>rw[hc] at h;cases h
  | some vs=>rw[hc] at h;cases h;simp only[H];exact⟨cs,Z,nu hc⟩
 exact oY h
theorem iX {S:dh} {v:V} {x:Value} {cs:List V} (h:cS v=some cs) (hv:H S v x):dp S cs x.cells.toList:=by
 have leaf:iB v=true->cs= [v]->dp S cs x.cells.toList:=fun hl e=>by
  subst e;have hx:=oV hl hv;have e:x.cells.toList= [x]:=by cases x<;>first | rfl | (simp[Value.oneCell'] at hx)
  rw[e];exact dp.cons hv dp.nil
 cases v with
 | agg ds=>simp only[cS,oJ_] at h;subst h;simp only[H] at hv;obtain⟨ys,rfl,u⟩:=hv;exact u
 | tuple ds=>simp[cS] at h
 | any=>simp[cS] at h
 | _=>simp only[cS,oJ_] at h;exact leaf Z h.symm
theorem m9 {S:dh} {v:V} {x:Value} {cs:List V} (h:cS v=some cs) (hv:H S v x):x.cells.size=cs.length:=by
 have:=(iX h hv).length;simpa using this
section
variable {P:Program} {S:dh} {U:D} {w:World}
def ER (S:dh) (ev:Operand->Option V) (f:Operand->Value) (op:Op):Prop:=∀x∈op.operands,∀v,ev x=some v->H S v (f x)
theorem Inv.piece (hi:Inv S U w) {b:Pos} {l:Loc} {cells:List V} {e:Nat} {ro:Bool} (z:U.m.get b=some (.row cells e ro)) (hl:S b=some l) (off n:Nat) (hn:off+n<=cells.length):
  ∃ys:List Value,ys.length=n/\dp S ((cells.drop off).take n) ys/\∀(j:Nat) (y:Value),ys[j]?=some y->w.cell? ((⟨l.dE,l.sh+off,none⟩:Addr).add j)=some y:=by
 obtain⟨c,fr,h1,h2,h3,h4,_⟩:=hi.row z hl;refine⟨(c.toList.drop (l.sh+off)).take n,?_,dp.Jc ?_ ?_,?_⟩
 ·rw[lT_,lD_,Array.length_toList];omega
 ·rw[lT_,lD_,lT_,lD_,Array.length_toList];omega
 ·intro i v hv;rw[List.getElem?_take] at hv;split at hv
  ·rename_i u;rw[List.getElem?_drop] at hv;obtain⟨y,hy,A⟩:=h4 (off+i) v hv;refine⟨y,?_,A⟩;rw[List.getElem?_take,if_pos u,List.getElem?_drop,aT_,<-hy];congr 1;omega
  cases hv
 intro j y hy;rw[List.getElem?_take] at hy;split at hy
 ·rw[List.getElem?_drop,aT_] at hy;rw[Addr.add_eq _ _ Z,cell?_of_heap h1];exact hy
 cases hy
def A0:TypeDesc->Bool
 | .struct _ | .array _ _=>true
 | _=>false
theorem ff {t:TypeId} {d:TypeDesc} (h:P.underlying t=some d):(isAgg t).run P w= .ok (A0 d) w:=by
 simp only[isAgg,sB_,run_underlying h,rA];cases d<;>rfl
theorem cw {t:TypeId} {i:TypeInfo} (h:P.info? t=some i):(sizeOf t).run P w= .ok i.size w:=by
 simp[sizeOf,typeInfo,h]
theorem rS {t:TypeId} {n:Nat} (h:dU P t=some (some n)):∃d i,P.underlying t=some d/\P.info? t=some i/\i.size=n/\A0 d=true:=by
 rw[Ba] at h;split at h
 ·rename_i fs hu;obtain⟨i,hi⟩:=info_of_underlying hu;simp only[oJ_] at h;rw[r6 hi] at h;exact⟨_,i,hu,hi,h,Z⟩
 ·rename_i hu;obtain⟨i,hi⟩:=info_of_underlying hu;simp only[oJ_] at h;rw[r6 hi] at h;exact⟨_,i,hu,hi,h,Z⟩
 ·simp at h
 simp at h
theorem vH {t:TypeId} (h:dU P t=some none):∃d i,P.underlying t=some d/\P.info? t=some i/\A0 d=false:=by
 rw[Ba] at h;split at h
 ·simp at h
 ·simp at h
 ·rename_i d h1 h2 hu;obtain⟨i,hi⟩:=info_of_underlying hu;refine⟨d,i,hu,hi,?_⟩;cases d<;>first | rfl | exact absurd rfl (h1 _) | exact absurd rfl (h2 _ _)
 simp at h
theorem nE (hi:Inv S U w) {b:Pos} {l:Loc} {off:Nat} {cells:List V} {e:Nat} {ro:Bool} (F:U.m.get b=some (.row cells e ro)) (hl:S b=some l) {t:TypeId} {v:V}
  (h:(match dU P t with
    | some (some n)=>bif Nat.ble (off+n) (cX cells) then some (.agg<|takeN (dS cells off) n) else none
    | some none=>nth cells off
    | none=>none)=some v):
  ∃x,(loadVar t ⟨l.dE,l.sh+off,none⟩).run P w= .ok x w/\H S v x:=by
 cases z:dU P t with
 | none=>rw[z] at h;cases h
 | some o=>
  rw[z] at h;cases o with
  | some n=>
   obtain⟨d,i,hu,u,A,C⟩:=rS z;simp only[bA] at h;split at h
   ·rename_i hle;rw[nE_,bK] at hle;cases h;obtain⟨ys,hlen,E,hc⟩:=hi.piece F hl off n hle;refine⟨.agg ys.toArray,?_,?_⟩
    ·simp only[loadVar,sB_,ff hu,C,rA,if_true,cw u,A];rw[<-hlen,run_loadCells_list w _ ys hc];rfl
    simp only[H,du,dO];exact⟨_,Z,by simpa using E⟩
   cases h
  | none=>
   obtain⟨d,i,hu,u,C⟩:=vH z;rw[eF] at h;obtain⟨y,hy,G⟩:=hi.cell F hl h;refine⟨y,?_,G⟩;simp only[loadVar,sB_,ff hu,C,rA,Bool.false_eq_true,if_false];rw[run_load,hy]
end
section
variable {P:Program} {S:dh} {U:D} {w:World}
def iw (l:List V) (k:Nat):List V->List V
 | []=>l
 | v::vs=>iw (l.set k v) (k+1) vs
theorem rO:∀(vs:List V) (l:List V) (k:Nat),(iw l k vs).length=l.length
 | [],_,_=>rfl
 | v::vs,l,k=>by rw[iw,rO vs];simp
theorem qq:∀(vs:List V) (x:V) (l:List V) (k:Nat),iw (x::l) (k+1) vs=x::iw l k vs
 | [],_,_,_=>rfl
 | v::vs,x,l,k=>by rw[iw,iw,List.set_cons_succ,qq vs]
theorem qe:∀(cs l:List V),cs.length<=l.length->l6 cs l=iw l 0 cs
 | [],l,_=>by simp[l6,iw]
 | c::cs,[],h=>by simp at h
 | c::cs,x::l,h=>by
  show c::l6 cs l=_;rw[qe cs l (by simpa using h),iw,List.set_cons_zero,qq]
theorem kW (cs:List V):∀(l:List V) (off:Nat),off+cs.length<=l.length->dG cs l off=iw l off cs
 | [],off,h=>by
  have:cs= []:=eN_ (by simp only[List.length_nil] at h;omega);subst this;simp[dG,iw]
 | x::l,0,h=>by
  show l6 cs (x::l)=_;exact qe _ _ (by simpa using h)
 | x::l,off+1,h=>by
  show x::dG cs l off=_;rw[kW cs l off (by simp only[List.length_cons] at h;omega),qq]
theorem BM {off:Nat}:∀(vs:List V) (xs:List Value) (k:Nat) (l:List V) (ys:Array Value),dp S vs xs->dp S l ys.toList->
  dp S (iw l (off+k) vs) ((xs.zipIdx k).foldl (fun(cs:Array Value) (p:Value×Nat)=>cs.setIfInBounds (off+p.2) p.1) ys).toList
 | [],xs,k,l,ys,h,hl=>by rw[h.eQ];exact hl
 | v::vs,xs,k,l,ys,h,hl=>by
  obtain⟨x,r,rfl,h1,h2⟩:=h.cons_inv;simp only[List.zipIdx_cons,List.foldl_cons,iw];have:=BM (off:=off) vs r (k+1) (l.set (off+k) v) (ys.setIfInBounds (off+k) x) h2 (by simpa using hl.set (off+k) h1);simpa [Nat.add_assoc] using this
theorem oQ {place place':Nat->Option (Nat×Nat)} (hp:∀i x,place i=some x->place' i=some x) {ev:Operand->Option V} {f:Operand->Value}:
  ∀(parts:List (Nat×Operand)) (cells cs:List V) (ys:Array Value),(∀p∈parts,∀v,ev p.2=some v->H S v (f p.2))->dp S cells ys.toList->kx place ev parts cells=some cs->
   ∃zs:Array Value,Instr.fill place' ys (parts.map fun p=>(p.1,f p.2))=some zs/\dp S cs zs.toList
 | [],cells,cs,ys,_,hc,h=>by
  simp only[kx,oJ_] at h;subst h;exact⟨ys,Z,hc⟩
 | p::parts,cells,cs,ys,A,hc,h=>by
  have h':(match place p.1,(ev p.2).bind cS with
   | some (off,size),some vs=>bif Nat.beq (cX vs) size && Nat.ble (off+size) (cX cells) then kx place ev parts (dG vs cells off) else none
   | _,_=>none)=some cs:=h
  cases u:place p.1 with
  | none=>rw[u] at h';cases h'
  | some x=>
   obtain⟨off,size⟩:=x;cases hv:ev p.2 with
   | none=>rw[u,hv] at h';cases h'
   | some v=>
    rw[u,hv] at h';simp only[Option.bind_some] at h';cases z:cS v with
    | none=>rw[z] at h';cases h'
    | some vs=>
     rw[z] at h';simp only[bA] at h';split at h'
     ·rename_i hb;simp only[bA_,Nat.beq_eq,nE_,bK] at hb;obtain⟨ab,ac⟩:=hb;have hvr:=A p (by simp) v hv;have hcells:=iX z hvr;have hsize:=m9 z hvr;have aa:ys.size=cells.length:=by have:=hc.length;simpa using this
      have hfold:=BM (off:=off) vs (f p.2).cells.toList 0 cells ys hcells hc;rw[Nat.add_zero,<-kW vs cells off B] at hfold;obtain⟨zs,h1,h2⟩:=oQ hp parts (dG vs cells off) cs _ (fun q hq=>A q (by simp[hq])) hfold h';refine⟨zs,?_,h2⟩;rw[List.map_cons];simp only[Instr.fill,hp _ _ u];rw[if_neg]
      ·rw[<-h1];congr 1;rw[<-Array.foldl_toList];simp
      simp only[Bool.or_eq_true,decide_eq_true_eq,not_or];omega
     cases h'
theorem sy {α β:Type} {g:α->Option β}:∀{l:List α} {ys:List β},cW g l=some ys->l.mapM g=some ys
 | [],ys,h=>by rw[iK] at h;cases h;rfl
 | x::l,ys,h=>by
  obtain⟨y,r,h1,h2,rfl⟩:=gX h;simp[List.mapM_cons,h1,sy h2]
theorem qC {t:TypeId} {z:V} (h:fB P t=some z):∃i x,P.info? t=some i/\i.zero=some x/\∀S:dh,H S z x:=by
 unfold fB at h;cases hi:P.info? t with
 | none=>rw[hi] at h;cases h
 | some i=>
  rw[hi] at h;simp only[Option.bind_some] at h;cases u:i.zero with
  | none=>rw[u] at h;cases h
  | some x=>rw[u] at h;exact⟨i,x,Z,u,fun S=>qc h⟩
theorem gp {t:TypeId} {cs:List V} (h:(fB P t).bind cS=some cs):∃i x,P.info? t=some i/\i.zero=some x/\∀S:dh,dp S cs x.cells.toList:=by
 cases u:fB P t with
 | none=>rw[u] at h;cases h
 | some z=>
  rw[u] at h;obtain⟨i,x,h1,h2,A⟩:=qC u;exact⟨i,x,h1,h2,fun S=>iX h (A S)⟩
theorem Bj {ev:Operand->Option V} {f:Operand->Value} {t:TypeId} {parts:Array (Nat×Operand)} {v:V}
  (F:∀p∈parts.toList,∀v,ev p.2=some v->H S v (f p.2)) (h:di P ev (.build t parts)=some v):
  ∃x,(Instr.build t<|parts.map fun(i,x)=>(i,f x)).run P w= .ok x w/\H S v x:=by
 simp only[di] at h;cases hu:P.underlying t with
 | none=>rw[hu] at h;cases h
 | some d=>
  rw[hu] at h;cases E:(fB P t).bind cS with
  | none=>rw[E] at h;cases d<;>cases h
  | some zero=>
   rw[E] at h;obtain⟨it,z,A,hzero,C⟩:=gp E;cases d with
   | struct fs=>
    simp only at h;cases u:cW (fun f:Field=>(P.info? f.type).map fun j=>(f.offset,j.size)) fs.toList with
    | none=>rw[u] at h;cases h
    | some places=>
     rw[u] at h;dsimp only at h;cases hf:kx (nth places) ev parts.toList zero with
     | none=>rw[hf] at h;cases h
     | some cs=>
      rw[hf] at h;cases h;obtain⟨zs,h1,h2⟩:=oQ (place':=(places.toArray[·]?)) (fun i x hx=>by rw[eF] at hx;simpa using hx) parts.toList zero cs z.cells F (C S) hf
      refine⟨.agg zs,run_build w t _ zs ?_,by simp only[H];exact⟨zs,Z,h2⟩⟩;simp only[Program.built,A,hu,hzero,sy u];simpa using h1
   | array n e=>
    simp only at h;cases hj:P.info? e with
    | none=>rw[hj] at h;cases h
    | some j=>
     rw[hj] at h;dsimp only at h;cases hf:kx (fun i=>some (i*j.size,j.size)) ev parts.toList zero with
     | none=>rw[hf] at h;cases h
     | some cs=>
      rw[hf] at h;cases h;obtain⟨zs,h1,h2⟩:=oQ (place':=fun i=>some (i*j.size,j.size)) (fun i x hx=>hx) parts.toList zero cs z.cells F (C S) hf;refine⟨.agg zs,run_build w t _ zs ?_,by simp only[H];exact⟨zs,Z,h2⟩⟩;simp only[Program.built,A,hu,hzero,hj];simpa using h1
   | _=>cases h
theorem qY {cs:List V} {ys:List Value} (h:dp S cs ys) (r e:Nat):iF S ⟨r,0,cs.length⟩ (.row cs e false) (.cells ys.toArray e):=by
 refine⟨_,_,Z,by simpa using h.length,nR_ _,fun i v hv=>?_,fun _ j _ hj=>by simp at hj⟩;obtain⟨y,h1,h2⟩:=h.get hv;exact⟨y,by simpa using h1,h2⟩
theorem ki {cs:List V} {ys:List Value} (h:dp S cs ys):∀n,dp S (fp cs n) ((List.replicate n ys).flatten)
 | 0=>(dp.nil:dp S [] [])
 | n+1=>by
  show dp S (ie cs<|fp cs n) _;rw[dV,List.replicate_succ,List.flatten_cons];exact h.append<|ki h n
theorem nO (cs:List V):∀n,(fp cs n).length=n*cs.length
 | 0=>by rw[Nat.zero_mul];rfl
 | n+1=>by
  show(ie cs<|fp cs n).length=_;rw[dV,lA_,nO cs n,Nat.succ_mul,Nat.add_comm]
theorem kz (ys:List Value):∀(n j:Nat),j<n*ys.length->((List.replicate n ys).flatten)[j]?=ys[j%ys.length]?
 | 0,j,h=>by simp at h
 | n+1,j,h=>by
  rw[List.replicate_succ,List.flatten_cons]
  by_cases hj:j<ys.length
  ·rw[gL_ hj,Nat.mod_eq_of_lt hj]
  rw[gR_ B,kz ys n (j-ys.length) (by rw[Nat.succ_mul] at h;omega)];congr 1
  have h0:0<ys.length:=by
   rcases Nat.eq_zero_or_pos ys.length with h0 | h0
   ·rw[h0] at h;simp at h
   exact h0
  rw[Nat.mod_eq_sub_mod (by omega:j≥ys.length)]
theorem vw (z:Array Value) (n:Nat) (A:0<z.size):((Array.range (n*z.size)).map (z[· %z.size]!))=((List.replicate n z.toList).flatten).toArray:=by
 apply Array.ext_getElem?;intro j;simp only[Array.getElem?_map,List.getElem?_toArray]
 by_cases hj:j<n*z.size
 ·rw[kz z.toList n j (by simpa using hj)];simp only[Array.length_toList,aT_];have u:j%z.size<z.size:=Nat.mod_lt _ A;simp[hj,u]
 have h2:((List.replicate n z.toList).flatten).length<=j:=by simp;omega
 rw[gN_ h2];simp[hj]
theorem ur {ev:Operand->Option V} {f:Operand->Value} {o:Oper} {ob:cG} {mk:Mk} (K:ER S ev f o.op) (h:gi P ev o.op=some (ob,mk)):
  ∃(x:Value) (ob':Obj) (n:Nat),(execOp f o).run P w= .ok (.value x) (w.alloc ob')/\ob.ro=false/\iF S ⟨w.heap.size,0,n⟩ ob ob'/\
   ∀(S':dh) (b:Pos),S' b=some ⟨w.heap.size,0,n⟩->H S' (mk.of b) x:=by
 cases A:o.op with
 | alloc e=>
  rw[A] at h;simp only[gi] at h;cases E:(fB P e).bind cS with
  | none=>rw[E] at h;cases h
  | some cs=>
   rw[E] at h;obtain⟨i,z,hi,hzero,u⟩:=gp E;cases hp:ta P e with
   | false=>
    rw[hp] at h;cases h;refine⟨.pointer<|some ⟨w.heap.size,0,none⟩,.cells z.cells e,cs.length,?_,Z,qY (u S) _ _,fun S' b hb=>by simp only[Mk.of,H];exact⟨_,hb,Z⟩⟩;simp[execOp,A,Instr.alloc,zeroValue,typeInfo,hi,hzero,newVar,newRow]
   | true=>
    rw[hp] at h;cases h;refine⟨.pointer<|some ⟨w.heap.size,0,none⟩,.cells z.cells e,cs.length,?_,Z,iF.FK ⟨Z,Z⟩<|qY (u S) _ _,fun S' b hb=>by simp only[Mk.of,H];exact⟨_,hb,Z⟩⟩;simp[execOp,A,Instr.alloc,zeroValue,typeInfo,hi,hzero,newVar,newRow]
 | box e x=>
  rw[A] at h K;simp only[gi] at h;cases hv:ev x with
  | none=>rw[hv] at h;cases h
  | some v=>
   rw[hv] at h;dsimp only[Option.bind_some] at h;cases hc:cS v with
   | none=>rw[hc] at h;cases h
   | some cs=>
    rw[hc] at h;cases h;have hvr:=K x (by simp[Op.operands]) v hv;refine⟨.pointer<|some ⟨w.heap.size,0,none⟩,.cells (f x).cells e,cs.length,?_,Z,qY (iX hc hvr) _ _,fun S' b hb=>by simp only[Mk.of,H];exact⟨_,hb,Z⟩⟩;simp[execOp,A,Instr.box,newVar,newRow]
 | buildSlice t len parts=>
  rw[A] at h K;simp only[gi] at h;cases hu:P.underlying t with
  | none=>rw[hu] at h;cases h
  | some d=>
   rw[hu] at h;cases d with
   | slice e=>
    dsimp only at h;cases hj:P.info? e with
    | none=>rw[hj] at h;cases h
    | some j=>
     cases E:(fB P e).bind cS with
     | none=>rw[hj,E] at h;cases h
     | some z=>
      rw[hj,E] at h;simp only[bA] at h;split at h
      ·rename_i hb;simp only[bA_,Nat.beq_eq,nE_,bK] at hb;obtain⟨⟨L,Q⟩,R⟩:=hb;cases hf:kx (fun i=>some (i*j.size,j.size)) ev parts.toList (fp z len) with
       | none=>rw[hf] at h;cases h
       | some cs=>
        rw[hf] at h;cases h;obtain⟨i,zv,hi,hzero,u⟩:=gp E;rw[hj] at hi;cases hi;have C:zv.cells.size=j.size:=by rw[<-L,<-(u S).length,Array.length_toList]
        have F:∀p∈parts.toList,∀v,ev p.2=some v->H S v (f p.2):=fun p hp v hv=>K p.2 (by simp only[Op.operands,List.mem_toArray,List.mem_map];exact⟨p,hp,Z⟩) v hv
        obtain⟨zs,h1,h2⟩:=oQ (place':=fun i=>some (i*j.size,j.size)) (fun i x hx=>hx) parts.toList (fp z len) cs ((List.replicate len zv.cells.toList).flatten).toArray F
         (by simpa using ki (u S) len) hf
        rw[<-vw zv.cells len B,C] at h1;have aa:cs.length=zs.size:=by have:=h2.length;simpa using this.symm
        by_cases M:len*j.size=0
        ·refine⟨.slice (some ⟨w.heap.size,0,none⟩) len len,.cells zs e,cs.length,?_,Z,by simpa using qY h2 w.heap.size e,fun S' b hb=>by simp only[Mk.of,H];exact⟨_,hb,Z⟩⟩;have W:(Array.map (fun x=>zv.cells[x%j.size]!)<|Array.range (len*j.size))= #[]:=by rw[M];simp
         rw[W] at h1;have X:∀g:Nat->Value,Array.map g (Array.range 0)= #[]:=fun g=>by simp
         simp[execOp,A,Instr.buildSlice,run_underlying hu,sizeOf,typeInfo,hj,M,X,h1,newRow]
        refine⟨.slice (some ⟨w.heap.size,0,none⟩) len len,.cells zs e,cs.length,?_,Z,by simpa using qY h2 w.heap.size e,fun S' b hb=>by simp only[Mk.of,H];exact⟨_,hb,Z⟩⟩;have hrun:=run_buildSlice (P:=P) w t e len (parts.map fun(i,x)=>(i,f x)) zs j zv hu hj hzero B M (by rw[C];simpa using h1);simp only[execOp,A,sB_,hrun,rA,sP_]
      cases h
   | _=>cases h
 | makeSlice t l c=>
  rw[A] at h K;simp only[gi] at h;cases hu:P.underlying t with
  | none=>rw[hu] at h;cases h
  | some d=>
   rw[hu] at h;cases hl:ev l with
   | none=>rw[hl] at h;cases d<;>cases h
   | some vl=>
    cases hc:ev c with
    | none=>rw[hl,hc] at h;cases d<;>first | cases h | (cases vl<;>first | cases h | (rename_i k n;cases n<;>cases h))
    | some vc=>
     rw[hl,hc] at h;split at h
     ·rename_i e kl ln kc cn he ab ac;cases he;cases ab;cases ac;cases hj:P.info? e with
      | none=>rw[hj] at h;cases h
      | some j=>
       cases E:(fB P e).bind cS with
       | none=>rw[hj,E] at h;cases h
       | some z=>
        rw[hj,E] at h;simp only[bA] at h;split at h
        ·rename_i hb;simp only[bA_,Nat.beq_eq,nE_,bK] at hb;obtain⟨⟨⟨⟨L,Q⟩,R⟩,am⟩,aI⟩:=hb;cases h;obtain⟨i,zv,hi,hzero,u⟩:=gp E;rw[hj] at hi;cases hi;have C:zv.cells.size=j.size:=by rw[<-am,<-(u S).length,Array.length_toList]
         have ao:f l= .int kl (Int.ofNat ln):=by have:=K l (by simp[Op.operands]) _ hl;simpa only[H] using this
         have ap:f c= .int kc (Int.ofNat cn):=by have:=K c (by simp[Op.operands]) _ hc;simpa only[H] using this
         have aq:(j.bytes:Int)*(Int.ofNat cn)<=281474976710656:=by
          have:((j.bytes*cn:Nat):Int)<=1048576:=by omega
          rw[Int.natCast_mul] at this;show(j.bytes:Int)*(cn:Int)<=_;omega
         have hrun:=run_make (P:=P) w t e j zv hu hj hzero kl kc (Int.ofNat ln) (Int.ofNat cn) (Int.natCast_nonneg _) (Int.ofNat_le.2 L) aq (by show(cn:Int)<=_;omega)
         have G:madeCells zv.cells ((Int.ofNat cn).toNat*j.size)=((List.replicate cn zv.cells.toList).flatten).toArray:=by
          unfold madeCells;rw[show(Int.ofNat cn).toNat=cn from Z,<-C];exact vw zv.cells cn B
         rw[G] at hrun;have hts:=ki (u S) cn
         refine⟨.slice (some ⟨w.heap.size,0,none⟩) ln cn,.cells ((List.replicate cn zv.cells.toList).flatten).toArray e,(fp z cn).length,?_,Z,qY hts _ _,
          fun S' b hb=>by simp only[Mk.of,H];exact⟨_,hb,Z⟩⟩
         simp only[execOp,A,ao,ap,sB_,hrun,rA,sP_];rfl
        cases h
     cases h
 | makeMap t r=>
  rw[A] at h;cases r with
  | some r=>
   simp only[gi] at h;split at h
   ·rename_i mk mv k n hu hr;simp only[oJ_,Prod.mk.injEq] at h;obtain⟨rfl,rfl⟩:=h;have ar:f r= .int k n:=by have:=K r (by rw[A];simp[Op.operands]) _ hr;simpa only[H] using this
    refine⟨.map<|some w.heap.size,.map #[] 0,0,?_,Z,⟨#[],Z,Z⟩,fun S' b hb=>by simp only[Mk.of,H];exact⟨_,hb,Z⟩⟩;simp[execOp,A,Instr.makeMap,ar,run_underlying hu,asInt,asIntOf]
   cases h
  | none=>
   simp only[gi,oJ_,Prod.mk.injEq] at h;obtain⟨rfl,rfl⟩:=h;refine⟨.map<|some w.heap.size,.map #[] 0,0,?_,Z,⟨#[],Z,Z⟩,fun S' b hb=>by simp only[Mk.of,H];exact⟨_,hb,Z⟩⟩;simp[execOp,A,Instr.makeMap]
 | _=>rw[A] at h;simp[gi] at h
end
section
variable {P:Program} {S:dh} {w:World}
theorem mz (a b:Bool):(bif a then b else(bif b then false else true))=(a == b):=by cases a<;>cases b<;>rfl
theorem HQ (a b:Bool):(bif a then(bif b then false else true) else b)=(a !=b):=by cases a<;>cases b<;>rfl
theorem cond_not (b:Bool):(bif b then false else true)= !b:=by cases b<;>rfl
theorem lM {d:Nat}:∀(fs:List Field) (xs ys:List V) (cs ds:Array Value) (b:Bool),dp S xs cs.toList->dp S ys ds.toList->kU fs=true->jE P fs xs ys=some b->
  (Op.eqFields (d+1) cs ds fs).run P w= .ok b w
 | [],xs,ys,cs,ds,b,_,_,_,h=>by
  simp only[jE,oJ_] at h;subst h;simp[Op.eqFields]
 | f::fs,xs,ys,cs,ds,b,hx,hy,hn,h=>by
  have u:(bif f.name == "_" then false else kU fs)=true:=hn
  have z:(f.name == "_")=false:=by
   cases hh:(f.name == "_") with
   | false=>rfl
   | true=>rw[hh] at u;simp at u
  rw[z] at u;have E:f.name≠ "_" :=by simpa using z
  have h':(match P.underlying f.type,nth xs f.offset,nth ys f.offset with
   | some .bool,some (.bool a),some (.bool b)=>bif (bif a then b else(bif b then false else true)) then jE P fs xs ys else some false
   | some (.int _),some (.int j a),some (.int k b)=>bif r9 j k then(bif I a b then jE P fs xs ys else some false) else none
   | some .string,some (.str a),some (.str b)=>bif gL a b then jE P fs xs ys else some false
   | _,_,_=>none)=some b:=h
  have ih:=lM (d:=d) fs xs ys cs ds
  have part {v:V} {cells:List V} {es:Array Value} (hc:dp S cells es.toList) (X:nth cells f.offset=some v) (G:A0 (match P.underlying f.type with | some d=>d | none=>.invalid)=false) (hu:P.underlying f.type≠none):
    ∃y,(part f.type es f.offset).run P w= .ok y w/\H S v y:=by
   rw[eF] at X;obtain⟨y,h1,h2⟩:=hc.get X;cases F:P.underlying f.type with
   | none=>exact absurd F hu
   | some dd=>
    rw[F] at G;refine⟨y,?_,h2⟩;simp only[Go.part,sB_,ff F,G,rA,Bool.false_eq_true,if_false];have:es[f.offset]?=some y:=by rw[<-aT_];exact h1
    rw[this];rfl
  split at h'
  ·rename_i u1 u2 u3 a b' e1 K L;obtain⟨y1,M,A⟩:=part hx K (by rw[e1];rfl) (by rw[e1];simp);obtain⟨y2,Q,C⟩:=part hy L (by rw[e1];rfl) (by rw[e1];simp);simp only[H] at A C;subst A;subst C;simp only[Op.eqFields,E,ne_eq,not_false_eq_true,if_true,sB_,M,Q,rA,run_equalIn_bool w d f.type _ _ e1];rw[mz] at h';cases hc:(a == b') with
   | true=>rw[hc] at h';simpa using ih b hx hy (by simpa using u) (by simpa using h')
   | false=>rw[hc] at h';simp at h';subst h';simp
  ·rename_i u1 u2 u3 kk j a k b' e1 K L;obtain⟨y1,M,A⟩:=part hx K (by rw[e1];rfl) (by rw[e1];simp);obtain⟨y2,Q,C⟩:=part hy L (by rw[e1];rfl) (by rw[e1];simp);simp only[H] at A C;subst A;subst C;cases hk:r9 j k with
   | false=>rw[hk] at h';simp at h'
   | true=>
    rw[hk] at h';have:=pR hk;subst this;simp only[Op.eqFields,E,ne_eq,not_false_eq_true,if_true,sB_,M,Q,rA,run_equalIn_int w d f.type _ _ _ _ e1];rw[dF] at h';cases hc:decide (a=b') with
    | true=>rw[hc] at h';have:=of_decide_eq_true hc;subst this;simpa using ih b hx hy (by simpa using u) (by simpa using h')
    | false=>rw[hc] at h';have:=of_decide_eq_false hc;simp at h';subst h';simp[this]
  ·rename_i u1 u2 u3 a b' e1 K L;obtain⟨y1,M,A⟩:=part hx K (by rw[e1];rfl) (by rw[e1];simp);obtain⟨y2,Q,C⟩:=part hy L (by rw[e1];rfl) (by rw[e1];simp);simp only[H] at A C;obtain⟨s1,rfl,R⟩:=A;obtain⟨s2,rfl,W⟩:=C;simp only[Op.eqFields,E,ne_eq,not_false_eq_true,if_true,sB_,M,Q,rA,run_equalIn_string w d f.type _ _ e1];rw[ou R W] at h';cases hc:(s1.toList == s2.toList) with
   | true=>rw[hc] at h';simpa using ih b hx hy (by simpa using u) (by simpa using h')
   | false=>rw[hc] at h';simp at h';subst h';simp
  cases h'
theorem nL {t:TypeId} {fs:Array Field} (h:structOf P t=some fs):P.underlying t=some (.struct fs):=by
 unfold structOf at h;rw[ow] at h;split at h
 ·rename_i g u;cases h;exact u
 cases h
theorem nd {t:TypeId} {fs:Array Field} (h:P.underlying t=some (.struct fs)):P.fieldsOf t=fs:=by simp[Program.fieldsOf,h]
theorem wN {e:TypeId} (h:sd P e=true):∃k i,P.underlying e=some (.int k)/\P.info? e=some i/\i.size=1:=by
 unfold sd at h;split at h
 ·rename_i k i h1 h2;exact⟨k,i,h1,h2,nB h⟩
 cases h
theorem oj {d:Nat} {e:TypeId} {k':IntKind} (he:P.underlying e=some (.int k')):∀(l1 l2:List V) (s:Nat) (u z:Array Value) (b:Bool),
  (∀(i:Nat) (v:V),l1[i]?=some v->∃y,u[s+i]?=some y/\H S v y)->(∀(i:Nat) (v:V),l2[i]?=some v->∃y,z[s+i]?=some y/\H S v y)->wj l1 l2=some b->
  (Op.eqItems (d+1) e 1 u z<|List.range' s l1.length).run P w= .ok b w
 | [],l2,s,u,z,b,_,_,h=>by
  cases l2 with
  | nil=>cases h;simp[Op.eqItems]
  | cons y r=>cases h
 | x::l1,l2,s,u,z,b,h1,h2,h=>by
  cases l2 with
  | nil=>cases x<;>cases h
  | cons y r=>
   cases x<;>try (cases h;done)
   rename_i j a;cases y<;>try (cases h;done)
   rename_i k c;have h':(bif r9 j k then(bif I a c then wj l1 r else some false) else none)=some b:=h;cases hk:r9 j k with
   | false=>rw[hk] at h';cases h'
   | true=>
   rw[hk] at h';have:=pR hk;subst this;obtain⟨y1,q1,A⟩:=h1 0 _ Z;obtain⟨y2,q2,C⟩:=h2 0 _ Z;simp only[H] at A C;subst A;subst C;simp only[Nat.add_zero] at q1 q2
   have p:∀(cs:Array Value) (v:Value),cs[s]?=some v->(part e cs (s*1)).run P w= .ok v w:=fun cs v hv=>by
    rw[Nat.mul_one];simp only[part,sB_,ff he,A0,rA,Bool.false_eq_true,if_false,hv,sP_]
   simp only[List.length_cons,List.range'_succ,Op.eqItems,sB_,p u _ q1,p z _ q2,rA,run_equalIn_int w d e _ _ _ _ he];rw[dF] at h';have ih:=oj (d:=d) he l1 r (s+1) u z;cases hc:decide (a=c) with
   | true=>
    rw[hc] at h';have:=of_decide_eq_true hc;subst this
    simpa using ih b (fun i v hv=>by have:=h1 (i+1) v (by simpa using hv);rwa[show s+(i+1)=s+1+i by omega] at this)
     (fun i v hv=>by have:=h2 (i+1) v (by simpa using hv);rwa[show s+(i+1)=s+1+i by omega] at this) (by simpa using h')
   | false=>
    rw[hc] at h';have:=of_decide_eq_false hc;simp at h';subst h';simp[this]
theorem ik {t:TypeId} {cs:List V} {ys:Array Value} {off n:Nat} (z:dU P t=some (some n)) (hc:dp S cs ys.toList):∃c,(part t ys off).run P w= .ok (.agg c) w/\dp S (takeN (dS cs off) n) c.toList:=by
 obtain⟨d,i,hu,hi,u,A⟩:=rS z;refine⟨ys.extract off (off+n),?_,?_⟩
 ·simp only[part,sB_,ff hu,A,rA,if_true,cw hi,u,sP_]
 rw[du,dO,Array.toList_extract];have:=(hc.drop off).take n;show dp S _ ((ys.toList.drop off).take (off+n-off));rw[show off+n-off=n by omega];exact this
theorem mT {d:Nat}:∀(fs:List Field) (xs ys:List V) (cs ds:Array Value) (b:Bool),dp S xs cs.toList->dp S ys ds.toList->kU fs=true->eqFields P fs xs ys=some b->
  (Op.eqFields (d+1+1) cs ds fs).run P w= .ok b w
 | [],xs,ys,cs,ds,b,_,_,_,h=>by
  simp only[eqFields,oJ_] at h;subst h;simp[Op.eqFields]
 | f::fs,xs,ys,cs,ds,b,hx,hy,hn,h=>by
  have z:(bif f.name == "_" then false else kU fs)=true:=hn
  have F:(f.name == "_")=false:=by
   cases hh:(f.name == "_") with
   | false=>rfl
   | true=>rw[hh] at z;simp at z
  rw[F] at z;have G:f.name≠ "_" :=by simpa using F
  have h':(match P.underlying f.type,nth xs f.offset,nth ys f.offset with
   | some .bool,some (.bool a),some (.bool b)=>bif (bif a then b else(bif b then false else true)) then eqFields P fs xs ys else some false
   | some (.int _),some (.int j a),some (.int k b)=>bif r9 j k then(bif I a b then eqFields P fs xs ys else some false) else none
   | some .string,some (.str a),some (.str b)=>bif gL a b then eqFields P fs xs ys else some false
   | some (.struct gs),_,_=>bif P.stoodInHeld f.type || !kU gs.toList then none else match dU P f.type with
    | some (some n)=>match jE P gs.toList (takeN (dS xs f.offset) n) (takeN (dS ys f.offset) n) with
     | some true=>eqFields P fs xs ys
     | some false=>some false
     | none=>none
    | _=>none
   | some (.array m e),_,_=>bif sd P e then(match dU P f.type with
    | some (some n)=>bif Nat.beq n m && (Nat.beq (cX<|takeN (dS xs f.offset) n) m && Nat.beq (cX<|takeN (dS ys f.offset) n) m) then(match wj (takeN (dS xs f.offset) n) (takeN (dS ys f.offset) n) with
     | some true=>eqFields P fs xs ys
     | some false=>some false
     | none=>none) else none
    | _=>none) else none
   | _,_,_=>none)=some b:=h
  have ih:=mT (d:=d) fs xs ys cs ds
  have part {v:V} {cells:List V} {es:Array Value} (hc:dp S cells es.toList) (hg:nth cells f.offset=some v) (u:A0 (match P.underlying f.type with | some d=>d | none=>.invalid)=false) (hu:P.underlying f.type≠none):
    ∃y,(part f.type es f.offset).run P w= .ok y w/\H S v y:=by
   rw[eF] at hg;obtain⟨y,h1,h2⟩:=hc.get hg;cases Q:P.underlying f.type with
   | none=>exact absurd Q hu
   | some dd=>
    rw[Q] at u;refine⟨y,?_,h2⟩;simp only[Go.part,sB_,ff Q,u,rA,Bool.false_eq_true,if_false];have:es[f.offset]?=some y:=by rw[<-aT_];exact h1
    rw[this];rfl
  split at h'
  ·rename_i u1 u2 u3 a b' e1 e2 e3;obtain⟨y1,K,C⟩:=part hx e2 (by rw[e1];rfl) (by rw[e1];simp);obtain⟨y2,L,E⟩:=part hy e3 (by rw[e1];rfl) (by rw[e1];simp);simp only[H] at C E;subst C;subst E;simp only[Op.eqFields,G,ne_eq,not_false_eq_true,if_true,sB_,K,L,rA,run_equalIn_bool w (d+1) f.type _ _ e1];rw[mz] at h';cases hc:(a == b') with
   | true=>rw[hc] at h';simpa using ih b hx hy (by simpa using z) (by simpa using h')
   | false=>rw[hc] at h';simp at h';subst h';simp
  ·rename_i u1 u2 u3 kk j a k b' e1 e2 e3;obtain⟨y1,K,C⟩:=part hx e2 (by rw[e1];rfl) (by rw[e1];simp);obtain⟨y2,L,E⟩:=part hy e3 (by rw[e1];rfl) (by rw[e1];simp);simp only[H] at C E;subst C;subst E;cases hk:r9 j k with
   | false=>rw[hk] at h';simp at h'
   | true=>
    rw[hk] at h';have:=pR hk;subst this;simp only[Op.eqFields,G,ne_eq,not_false_eq_true,if_true,sB_,K,L,rA,run_equalIn_int w (d+1) f.type _ _ _ _ e1];rw[dF] at h';cases hc:decide (a=b') with
    | true=>rw[hc] at h';have:=of_decide_eq_true hc;subst this;simpa using ih b hx hy (by simpa using z) (by simpa using h')
    | false=>rw[hc] at h';have:=of_decide_eq_false hc;simp at h';subst h';simp[this]
  ·rename_i u1 u2 u3 a b' e1 e2 e3;obtain⟨y1,K,C⟩:=part hx e2 (by rw[e1];rfl) (by rw[e1];simp);obtain⟨y2,L,E⟩:=part hy e3 (by rw[e1];rfl) (by rw[e1];simp);simp only[H] at C E;obtain⟨s1,rfl,ab⟩:=C;obtain⟨s2,rfl,ac⟩:=E;simp only[Op.eqFields,G,ne_eq,not_false_eq_true,if_true,sB_,K,L,rA,run_equalIn_string w (d+1) f.type _ _ e1];rw[ou ab ac] at h';cases hc:(s1.toList == s2.toList) with
   | true=>rw[hc] at h';simpa using ih b hx hy (by simpa using z) (by simpa using h')
   | false=>rw[hc] at h';simp at h';subst h';simp
  ·rename_i u1 u2 u3 gs e1;cases aq:P.stoodInHeld f.type with
   | true=>rw[aq] at h';simp at h'
   | false=>
   cases R:kU gs.toList with
   | false=>rw[aq,R] at h';simp at h'
   | true=>
   rw[aq,R] at h';simp only[Bool.not_true,Bool.or_false,cond_false] at h';cases u:dU P f.type with
   | none=>rw[u] at h';cases h'
   | some q=>
   cases q with
   | none=>rw[u] at h';cases h'
   | some n=>
   rw[u] at h';dsimp only at h';cases A:jE P gs.toList (takeN (dS xs f.offset) n) (takeN (dS ys f.offset) n) with
   | none=>rw[A] at h';cases h'
   | some bb=>
    rw[A] at h';obtain⟨W,K,C⟩:=ik (P:=P) (w:=w) u hx (off:=f.offset);obtain⟨X,L,E⟩:=ik (P:=P) (w:=w) u hy (off:=f.offset);have hq:=lM (P:=P) (w:=w) (d:=d) gs.toList _ _ W X bb C E R A
    have hE:(Op.equalIn (d+1+1) f.type (.agg W) (.agg X)).run P w= .ok bb w:=by
     rw[run_equalIn_struct w (d+1) f.type W X (by rw[nd e1];exact e1) aq,nd e1];exact hq
    simp only[Op.eqFields,G,ne_eq,not_false_eq_true,if_true,sB_,K,L,rA,hE];cases bb with
    | true=>simpa using ih b hx hy (by simpa using z) (by simpa using h')
    | false=>simp at h';subst h';simp
  ·rename_i u1 u2 u3 m e e1;cases aa:sd P e with
   | false=>rw[aa] at h';cases h'
   | true=>
   rw[aa] at h';simp only[cond_true] at h';obtain⟨k,inf,he,M,am⟩:=wN aa;cases u:dU P f.type with
   | none=>rw[u] at h';cases h'
   | some q=>
   cases q with
   | none=>rw[u] at h';cases h'
   | some n=>
   rw[u] at h';dsimp only at h';rw[bA] at h';split at h'
   case isFalse=>cases h'
   rename_i hc;simp only[bA_,Nat.beq_eq,bK] at hc;obtain⟨ap,ao,ar⟩:=hc;cases A:wj (takeN (dS xs f.offset) n) (takeN (dS ys f.offset) n) with
   | none=>rw[A] at h';cases h'
   | some bb=>
    rw[A] at h';obtain⟨W,K,C⟩:=ik (P:=P) (w:=w) u hx (off:=f.offset);obtain⟨X,L,E⟩:=ik (P:=P) (w:=w) u hy (off:=f.offset)
    have hq:=oj (P:=P) (w:=w) (S:=S) (d:=d) he _ _ 0 W X bb (fun i v hv=>by obtain⟨y,a1,a2⟩:=C.get hv;exact⟨y,by rw[nA_,<-aT_];exact a1,a2⟩)
     (fun i v hv=>by obtain⟨y,a1,a2⟩:=E.get hv;exact⟨y,by rw[nA_,<-aT_];exact a1,a2⟩) A
    rw[ao] at hq
    have hE:(Op.equalIn (d+1+1) f.type (.agg W) (.agg X)).run P w= .ok bb w:=by
     rw[run_equalIn_array w (d+1) W X e1 M,r6 M,am,List.range_eq_range'];exact hq
    simp only[Op.eqFields,G,ne_eq,not_false_eq_true,if_true,sB_,K,L,rA,hE];cases bb with
    | true=>simpa using ih b hx hy (by simpa using z) (by simpa using h')
    | false=>simp at h';subst h';simp
  cases h'
theorem cY (op:BinOp) (t:TypeId) (x y:Operand) (a b:Value) (h1:¬(a= .nilIface/\b= .nilIface)) (h2:¬(∃c d,a= .agg c/\b= .agg d)):(eqGuard op t x y a b).run P w= .ok () w:=by
 unfold eqGuard;cases op<;>simp<;>(split<;>first | rfl | (exact absurd ⟨rfl,rfl⟩ h1) | (exact absurd ⟨_,_,rfl,rfl⟩ h2) | simp)
end
section
variable {P:Program} {S:dh} {w:World}
theorem H.jI {b:Pos} {off len:Nat} {cap:pH} {x:Value} (h:H S (.slice b off len cap) x):∃a c,x= .slice (some a) len c:=by
  cases cap with
  | upto sz=>
    simp only[H] at h;obtain⟨l,_,⟨c,rfl,_⟩ | ⟨rfl,a,rfl⟩⟩:=h
    · exact⟨_,_,Z⟩
    · exact⟨_,_,Z⟩
  | known c=>simp only[H] at h;obtain⟨l,_,rfl⟩:=h;exact⟨_,_,Z⟩
  | least a sz=>simp only[H] at h;obtain⟨l,_,c,rfl,_⟩:=h;exact⟨_,_,Z⟩
theorem pS {t:TypeId} {x y:V} {b:Bool} {a c:Value} (h:DA P t x y=some b) (hx:H S x a) (hy:H S y c) (op:BinOp) (xo yo:Operand):
    (eqGuard op t xo yo a c).run P w= .ok () w/\(Op.equal t a c).run P w= .ok b w:=by
  unfold DA at h;have A:∀r:Result Bool,((Op.equalIn (9999+1) t a c).run P w=r)->(Op.equal t a c).run P w=r:=fun r h=>h
  have u:∀r:Result Bool,(∀d,(Op.equalIn (d+1) t a c).run P w=r)->(Op.equal t a c).run P w=r:=fun r h=>h 9999
  split at h
  ·
    rename_i xs ys;simp only[H] at hx hy;obtain⟨cs,rfl,E⟩:=hx;obtain⟨ds,rfl,F⟩:=hy;cases G:structOf P t with
    | none=>rw[G] at h;cases h
    | some fs=>
      rw[G] at h;dsimp only at h;have hu:=nL G;cases hq:P.eqGuardType P.depth t with
      | true=>rw[hq] at h;simp at h
      | false=>
        cases aq:P.stoodInHeld t with
        | true=>rw[hq,aq] at h;simp at h
        | false=>
          cases z:kU fs.toList with
          | false=>rw[hq,aq,z] at h;simp at h
          | true=>
            rw[hq,aq,z] at h;refine⟨run_eqGuard_agg w op t xo yo cs ds hq,A _ ?_⟩;rw[run_equalIn_struct w 9999 t cs ds (by rw[nd hu];exact hu) aq,nd hu];exact mT (d:=9997) fs.toList xs ys cs ds b E F z (by simpa using h)
  all_goals (try (cases h;done))
  all_goals (split at h)
  all_goals (try (cases h;done))
  all_goals (try (rename_i hu;cases h))
  all_goals first
    | (obtain⟨a',c',rfl⟩:=H.jI hx
       simp only[H] at hy;subst hy;refine⟨cY op t xo yo _ _ (by simp) (by simp),u _ (fun d=>?_)⟩;simp[Op.equalIn,run_underlying hu]
       done)
    | (obtain⟨a',c',rfl⟩:=H.jI hy
       simp only[H] at hx;subst hx;refine⟨cY op t xo yo _ _ (by simp) (by simp),u _ (fun d=>?_)⟩;simp[Op.equalIn,run_underlying hu]
       done)
    | (simp only[H] at hx hy
       subst hx;subst hy;refine⟨cY op t xo yo _ _ (by simp) (by simp),u _ (fun d=>?_)⟩;simp[Op.equalIn,run_underlying hu]
       done)
    | (simp only[H] at hx hy
       obtain⟨l,_,rfl⟩:=hx;subst hy;refine⟨cY op t xo yo _ _ (by simp) (by simp),u _ (fun d=>?_)⟩;simp[Op.equalIn,run_underlying hu]
       done)
    | (simp only[H] at hx hy
       obtain⟨l,_,rfl⟩:=hy;subst hx;refine⟨cY op t xo yo _ _ (by simp) (by simp),u _ (fun d=>?_)⟩;simp[Op.equalIn,run_underlying hu]
       done)
    | (simp only[H] at hx hy
       obtain⟨l,rfl,_⟩:=hx;subst hy;refine⟨cY op t xo yo _ _ (by simp) (by simp),u _ (fun d=>?_)⟩;simp[Op.equalIn,run_underlying hu]
       done)
    | (simp only[H] at hx hy
       obtain⟨l,rfl,_⟩:=hy;subst hx;refine⟨cY op t xo yo _ _ (by simp) (by simp),u _ (fun d=>?_)⟩;simp[Op.equalIn,run_underlying hu]
       done)
    | (simp only[H] at hx hy
       obtain⟨l,l',rfl,_⟩:=hx;subst hy;refine⟨cY op t xo yo _ _ (by simp) (by simp),u _ (fun d=>?_)⟩;simp[Op.equalIn,run_underlying hu]
       done)
    | (simp only[H] at hx hy
       obtain⟨l,l',rfl,_⟩:=hy;subst hx;refine⟨cY op t xo yo _ _ (by simp) (by simp),u _ (fun d=>?_)⟩;simp[Op.equalIn,run_underlying hu]
       done)
    | (rename_i hu
       rw[bA] at h;split at h
       · rename_i hc
         cases h;rw[bA_,bA_] at hc;obtain⟨hb,ho,hi⟩:=hc;have hb:=nB hb;have ho:=nB ho;subst hb;subst ho;obtain⟨j,hj⟩:=Option.isSome_iff_exists.1 hi;simp only[H] at hx hy;obtain⟨l,hl,rfl⟩:=hx;obtain⟨l',C,rfl⟩:=hy;rw[hl] at C;cases C;refine⟨cY op t xo yo _ _ (by simp) (by simp),u _ (fun d=>?_)⟩;simp[Op.equalIn,run_underlying hu,sizeOf,typeInfo,hj,run_sameAddr_same]
       · cases h)
theorem nJ {t:TypeId} {a c:Value} {b:Bool} (h:(Op.equal t a c).run P w= .ok b w)
    (hn:∀k m k' m',¬(a= .int k m/\c= .int k' m')) (hf:∀k m k' m',¬(a= .float k m/\c= .float k' m')) (hc:∀k m n k' m' n',¬(a= .complex k m n/\c= .complex k' m' n')) (u:∀s s',¬(a= .string s/\c= .string s')):
    (binOp .eql t a c).run P w= .ok (.bool b) w/\(binOp .neq t a c).run P w= .ok (.bool (!b)) w:=by
  constructor
  · unfold binOp
    split<;>first
      | (exact absurd ⟨rfl,rfl⟩<|hn _ _ _ _)
      | (exact absurd ⟨rfl,rfl⟩<|hf _ _ _ _)
      | (exact absurd ⟨rfl,rfl⟩<|hc _ _ _ _ _ _)
      | (exact absurd ⟨rfl,rfl⟩<|u _ _)
      | (simp only[sB_,h,rA,sP_];done)
      | (rename_i he;cases he)
      | (rename_i he _;cases he)
      | (rename_i he _ _;cases he)
      | (simp_all;done)
  · unfold binOp
    split<;>first
      | (exact absurd ⟨rfl,rfl⟩<|hn _ _ _ _)
      | (exact absurd ⟨rfl,rfl⟩<|hf _ _ _ _)
      | (exact absurd ⟨rfl,rfl⟩<|hc _ _ _ _ _ _)
      | (exact absurd ⟨rfl,rfl⟩<|u _ _)
      | (simp only[sB_,h,rA,sP_];done)
      | (rename_i he;cases he)
      | (rename_i he _;cases he)
      | (rename_i he _ _;cases he)
      | (simp_all;done)
end
section
variable {P:Program} {S:dh} {w:World}
theorem Kn {op:BinOp} {t:TypeId} {k k':IntKind} {a b:Int} {v:V} (h:sC P op t (.int k a) (.int k' b)=some v):
  ∃x,(binOp op t (.int k a) (.int k' b)).run P w= .ok x w/\H S v x:=by
 unfold sC at h;have vint:∀(j:IntKind) (n:Int),H S (.int j n) (.int j n):=fun j n=>by simp only[H]
 have vbool:∀(c:Bool),H S (.bool c) (.bool c):=fun c=>by simp only[H]
 by_cases u:op= .shl
 ·subst u;simp only[bA,eP,zu] at h;split at h
  ·cases h
  rename_i hb;cases h;refine⟨.int k<|k.wrap (a*2 ^ min b.toNat k.bits),?_,vint _ _⟩;have z:¬b<0:=by simpa using hb
  simp[binOp,Op.shift,z]
 by_cases A:op= .shr
 ·subst A;simp only[bA,eP] at h;split at h
  ·cases h
  rename_i hb;cases h;refine⟨.int k<|a.fdiv (2 ^ min b.toNat k.bits),?_,vint _ _⟩;have z:¬b<0:=by simpa using hb
  simp[binOp,Op.shift,z]
 cases hk:r9 k k' with
 | false=>cases op<;>first | exact absurd rfl u | exact absurd rfl A | (simp[hk] at h)
 | true=>
  have:=pR hk;subst this;cases op<;>first | exact absurd rfl u | exact absurd rfl A | skip
  all_goals simp only[hk,cond_true,bA,dF,eP,zu,if_true] at h
  case add=>cases h;exact⟨.int k<|k.wrap (a+b),by simp[binOp,Op.intArith],vint _ _⟩
  case sub=>cases h;exact⟨.int k<|k.wrap (a-b),by simp[binOp,Op.intArith],vint _ _⟩
  case mul=>cases h;exact⟨.int k<|k.wrap (a*b),by simp[binOp,Op.intArith],vint _ _⟩
  case quo=>
   by_cases hb:b=0
   ·simp[hb] at h
   simp only[hb,decide_false,if_true,if_false,Bool.false_eq_true,eq_self,oJ_] at h;subst h;exact⟨.int k<|k.wrap<|a.tdiv b,by simp[binOp,Op.intDiv,hb],vint _ _⟩
  case rem=>
   by_cases hb:b=0
   ·simp[hb] at h
   simp only[hb,decide_false,if_true,if_false,Bool.false_eq_true,eq_self,oJ_] at h;subst h;exact⟨.int k<|a.tmod b,by simp[binOp,Op.intDiv,hb],vint _ _⟩
  case and=>cases h;exact⟨_,by simp only[binOp,ne_eq,not_true_eq_false,if_false];rfl,vint _ _⟩
  case or=>cases h;exact⟨_,by simp only[binOp,ne_eq,not_true_eq_false,if_false];rfl,vint _ _⟩
  case xor=>cases h;exact⟨_,by simp only[binOp,ne_eq,not_true_eq_false,if_false];rfl,vint _ _⟩
  case andNot=>cases h;exact⟨_,by simp only[binOp,ne_eq,not_true_eq_false,if_false];rfl,vint _ _⟩
  case eql=>cases h;exact⟨.bool (a == b),by simp[binOp,Op.intCmp],by simp only[H];congr 1⟩
  case neq=>
   cases h;refine⟨.bool (a !=b),by simp[binOp,Op.intCmp],?_⟩;simp only[H]
   by_cases e:a=b<;>simp[e]
  case lss=>cases h;exact⟨.bool<|decide (a<b),by simp[binOp,Op.intCmp],vbool _⟩
  case leq=>
   cases h;refine⟨.bool<|decide (a<=b),by simp[binOp,Op.intCmp],?_⟩;simp only[H]
   by_cases e:b<a
   ·have C:¬a<=b:=by omega
    simp[e,C]
   have C:a<=b:=by omega
   simp[e,C]
  case gtr=>cases h;exact⟨.bool<|decide (b<a),by simp[binOp,Op.intCmp],vbool _⟩
  case geq=>
   cases h;refine⟨.bool<|decide (b<=a),by simp[binOp,Op.intCmp],?_⟩;simp only[H]
   by_cases e:a<b
   ·have C:¬b<=a:=by omega
    simp[e,C]
   have C:b<=a:=by omega
   simp[e,C]
theorem Ko {op:BinOp} {t:TypeId} {a b:List Nat} {x y:ByteArray} {v:V} (hx:hY a x) (hy:hY b y) (h:sC P op t (.str a) (.str b)=some v):
  ∃z,(binOp op t (.string x) (.string y)).run P w= .ok z w/\H S v z:=by
 unfold sC at h;have lx:=jK hx;have ly:=jK hy;have e1:=ou hx hy;have e2:=zf hx hy;have e3:=zf hy hx
 have C:∀s u:List UInt8,Op.bytesLess u s= !(Op.bytesLess s u || s == u):=by
  intro s;induction s with
  | nil=>intro u;cases u<;>simp[Op.bytesLess]
  | cons c s ih=>
   intro u;cases u with
   | nil=>simp[Op.bytesLess]
   | cons d u=>
    simp only[Op.bytesLess,ih u]
    by_cases h1:c<d
    ·have h2:¬d<c:=by rw[UInt8.lt_iff_toNat_lt] at h1⊢;omega
     have A:d≠c:=by intro e;subst e;rw[UInt8.lt_iff_toNat_lt] at h1;omega
     simp[h1,h2,A]
    by_cases h4:d<c
    ·have A:c≠d:=by intro e;subst e;exact h1 h4
     simp[h1,h4,A]
    have A:c=d:=by rw[UInt8.lt_iff_toNat_lt] at h1 h4;exact UInt8.toNat_inj.1 B
    subst A;simp[h1]
 cases op<;>simp only[bA] at h<;>(try (cases h;done))
 case add=>
  split at h
  ·rename_i hb;cases h;rw[nE_,lx,ly] at hb
   refine⟨.string (x++y),?_,by
    simp only[H];refine⟨_,Z,?_⟩;unfold hY at hx hy⊢;rw[dV,<-hx,<-hy];simp⟩
   have:¬(((x.size+y.size:Nat):Int)>IntKind.i64.max):=by
    have e:IntKind.i64.max=9223372036854775807:=by decide
    rw[e];omega
   simp only[binOp,Op.stringOp];rw[if_neg this];rfl
  cases h
 case eql=>cases h;exact⟨.bool (x.toList == y.toList),Z,by simp only[H];rw[e1]⟩
 case neq=>cases h;exact⟨.bool (!(x.toList == y.toList)),Z,by simp only[H];rw[e1];cases (x.toList == y.toList)<;>rfl⟩
 case lss=>cases h;exact⟨.bool<|Op.bytesLess x.toList y.toList,Z,by simp only[H];rw[e2]⟩
 case leq=>
  cases h;refine⟨.bool (Op.bytesLess x.toList y.toList || x.toList == y.toList),Z,?_⟩;simp only[H];rw[e3,C x.toList y.toList];cases (Op.bytesLess x.toList y.toList || x.toList == y.toList)<;>rfl
 case gtr=>
  cases h;refine⟨.bool (!(Op.bytesLess x.toList y.toList || x.toList == y.toList)),Z,?_⟩;simp only[H];rw[e3,C x.toList y.toList]
 case geq=>
  cases h;refine⟨.bool (!(Op.bytesLess x.toList y.toList)),Z,?_⟩;simp only[H];rw[e2];cases (Op.bytesLess x.toList y.toList)<;>rfl
theorem Ga {op:BinOp} {t:TypeId} {x y v:V} {a c:Value} (hx:H S x a) (hy:H S y c) (h:sC P op t x y=some v) (xo yo:Operand):
  ∃z,(eqGuard op t xo yo a c).run P w= .ok () w/\(binOp op t a c).run P w= .ok z w/\H S v z:=by
 have other:(∀k n,x≠ .int k n)->(∀s,x≠ .str s)->(∀b,x≠ .bool b)->x≠ .any->(∀a,x≠ .oE a)->(∀a,x≠ .tok a)->
   ∃z,(eqGuard op t xo yo a c).run P w= .ok () w/\(binOp op t a c).run P w= .ok z w/\H S v z:=by
  intro h1 h2 A h4 h5 G
  have h':nc P op t x y=some v:=by
   rw[<-h];unfold sC;split
   ·exact absurd Z<|h1 _ _
   ·exact absurd Z<|h2 _
   ·exact absurd Z<|A _
   rfl
  have u:(∀k m k' m',¬(a= .int k m/\c= .int k' m'))/\(∀k m k' m',¬(a= .float k m/\c= .float k' m'))/\(∀k m n k' m' n',¬(a= .complex k m n/\c= .complex k' m' n'))/\(∀s s',¬(a= .string s/\c= .string s')):=by
   cases x with
   | int k n=>exact absurd Z (h1 k n)
   | str s=>exact absurd Z (h2 s)
   | bool b=>exact absurd Z (A b)
   | any=>exact absurd Z h4
   | oE a=>exact absurd Z (h5 a)
   | tok a=>exact absurd Z (G a)
   | slice b off len cap=>obtain⟨_,_,rfl⟩:=H.jI hx;simp
   | _=>simp only[H] at hx;first | (subst hx;simp;done) | (obtain⟨_,_,rfl⟩:=hx;simp;done) | (obtain⟨_,rfl,_⟩:=hx;simp;done) | (obtain⟨_,_,rfl,_⟩:=hx;simp;done)
  obtain⟨n1,C,E,F⟩:=u;cases op<;>(try (cases h';done))
  case eql=>
   dsimp only[nc] at h';cases hq:DA P t x y with
   | none=>rw[hq] at h';cases h'
   | some b=>
    rw[hq] at h';cases h';obtain⟨g1,g2⟩:=pS (P:=P) (w:=w) hq hx hy .eql xo yo;exact⟨_,g1,(nJ g2 n1 C E F).1,by simp only[H]⟩
  case neq=>
   dsimp only[nc] at h';cases hq:DA P t x y with
   | none=>rw[hq] at h';cases h'
   | some b=>
    rw[hq] at h';cases h';obtain⟨g1,g2⟩:=pS (P:=P) (w:=w) hq hx hy .neq xo yo;exact⟨_,g1,(nJ g2 n1 C E F).2,by simp only[H];rw[cond_not]⟩
 cases x with
 | int k n=>
  cases y with
  | int k' n'=>
   simp only[H] at hx hy;subst hx;subst hy;obtain⟨z,h1,h2⟩:=Kn (S:=S) (w:=w) h;exact⟨z,cY op t xo yo _ _ (by simp) (by simp),h1,h2⟩
  | _=>unfold sC at h;cases op<;>first | (simp[nc,DA] at h;done) | (cases h;done)
 | str s=>
  cases y with
  | str s'=>
   simp only[H] at hx hy;obtain⟨x,rfl,hx⟩:=hx;obtain⟨y,rfl,hy⟩:=hy;obtain⟨z,h1,h2⟩:=Ko (S:=S) (w:=w) hx hy h;exact⟨z,cY op t xo yo _ _ (by simp) (by simp),h1,h2⟩
  | _=>unfold sC at h;cases op<;>first | (simp[nc,DA] at h;done) | (cases h;done)
 | bool b=>
  cases y with
  | bool b'=>
   simp only[H] at hx hy;subst hx;subst hy;unfold sC at h;refine(fun(K:∃z,(binOp op t (.bool b) (.bool b')).run P w= .ok z w/\H S v z)=>let ⟨z,h1,h2⟩:=K;⟨z,cY op t xo yo _ _ (by simp) (by simp),h1,h2⟩) ?_;dsimp only at h;split at h
   ·rename_i hu;cases h;exact⟨_,run_eql_bool w t b b' hu,by simp only[H];rw[mz]⟩
   ·rename_i hu;cases h;refine⟨_,run_neq_bool w t b b' hu,?_⟩;simp only[H];rw[HQ];cases b<;>cases b'<;>rfl
   cases h
  | _=>unfold sC at h;cases op<;>first | (simp[nc,DA] at h;done) | (cases h;done)
 | any=>unfold sC at h;cases op<;>first | (simp[nc,DA] at h;done) | (cases h;done)
 | oE a=>unfold sC at h;cases op<;>first | (simp[nc,DA] at h;done) | (cases h;done)
 | tok a=>unfold sC at h;cases op<;>first | (simp[nc,DA] at h;done) | (cases h;done)
 | _=>exact other (by simp) (by simp) (by simp) (by simp) (by simp) (by simp)
theorem Dg {op:BinOp} {t:TypeId} {x y v:V} {a c:Value} (hx:H S x a) (hy:H S y c) (h:HK P op t x y=some v) (xo yo:Operand):
  ∃z,(eqGuard op t xo yo a c).run P w= .ok () w/\(binOp op t a c).run P w= .ok z w/\H S v z:=by
 unfold HK at h;split at h
 ·split at h
  ·rename_i u1 u2 n;simp only[bA] at h;split at h
   ·rename_i m hle;cases h;rw[nE_] at hle;simp only[H] at hx hy;obtain⟨k,rfl,hk⟩:=hy;subst hx;have u:¬((k:Int)<Int.ofNat n):=by simp only[Int.ofNat_eq_natCast];omega
    exact⟨.bool<|decide ((k:Int)<Int.ofNat n),cY .gtr t xo yo _ _ (by simp) (by simp),by simp[binOp,Op.intCmp],by simp only[H,u,decide_false]⟩
   cases h
  cases h
 exact Ga hx hy h xo yo
theorem Dh {op:BinOp} {t:TypeId} {x y v:V} {a c:Value} (hx:H S x a) (hy:H S y c) (xo yo:Operand) (h:vh P (yT xo || yT yo) op t x y=some v):
  ∃z,(eqGuard op t xo yo a c).run P w= .ok () w/\(binOp op t a c).run P w= .ok z w/\H S v z:=by
 by_cases hn:x= .nilIface/\y= .nilIface
 ·obtain⟨rfl,rfl⟩:=hn;simp only[H] at hx hy;subst hx;subst hy;have h:IZ P op t (yT xo || yT yo)=some v:=h;unfold IZ at h;rw[bA] at h;split at h
  ·rename_i hk
   have u:(eqGuard op t xo yo .nilIface .nilIface).run P w= .ok () w:=by
    unfold eqGuard;cases xo<;>cases yo<;>first | exact absurd hk Bool.false_ne_true | (cases op<;>simp)
   split at h
   ·rename_i ms hu
    have heq:(Op.equal t .nilIface .nilIface).run P w= .ok true w:=by
     have:∀d,(Op.equalIn (d+1) t .nilIface .nilIface).run P w= .ok true w:=fun d=>by simp[Op.equalIn,run_underlying hu]
     exact this 9999
    have hb:=nJ heq (fun k m k' m' h=>by cases h.1) (fun k m k' m' h=>by cases h.1) (fun k m n k' m' n' h=>by cases h.1) (fun s s' h=>by cases h.1);split at h
    ·cases h;exact⟨_,u,hb.1,by simp only[H]⟩
    ·cases h;exact⟨_,u,hb.2,by simp only[H];rfl⟩
    cases h
   cases h
  cases h
 have h':HK P op t x y=some v:=by
  cases x<;>first | exact h | (cases y<;>first | exact h | exact absurd ⟨rfl,rfl⟩ hn)
 exact Dg hx hy h' xo yo
end
section
variable {P:Program} {S:dh} {w:World}
theorem jC {ev:Operand->Option V} {f:Operand->Value} {x:Operand} {y i:Nat} (h:eI ev x y=some i) (hx:∀v,ev x=some v->H S v (f x)) (code:BoundsCode):
  (Instr.sliceBound (f x) y code).run P w= .ok i w/\i<=y:=by
 unfold eI at h;split at h
 ·rename_i k j hv;simp only[bA] at h;split at h
  ·rename_i hb;cases h;rw[nE_] at hb;have hf:=hx _ hv;simp only[H] at hf;rw[hf];refine⟨?_,hb⟩;have h2:(0:Int)<=Int.ofNat i/\Int.ofNat i<=(y:Int):=⟨Int.natCast_nonneg _,Int.ofNat_le.2 hb⟩;simp only[Instr.sliceBound,asIntOf,sB_,sP_,rA];rw[if_pos h2];rfl
  cases h
 cases h
theorem iW {ev:Operand->Option V} {f:Operand->Value} {len cap l h:Nat} {lo hi:Option Operand} (hb:da ev len cap lo hi=some (l,h))
  (u:∀x,lo=some x->∀v,ev x=some v->H S v (f x)) (A:∀x,hi=some x->∀v,ev x=some v->H S v (f x)) (isSlice:Bool):
  (Instr.sliceBounds isSlice len cap (lo.map f) (hi.map f) none).run P w= .ok (l,h,cap) w/\l<=h/\(len<=cap->h<=cap):=by
 unfold da at hb;cases hi with
 | none=>
  dsimp only at hb;cases lo with
  | none=>
   dsimp only at hb;cases hb;refine⟨?_,Nat.zero_le _,id⟩;simp[Instr.sliceBounds]
  | some x=>
   dsimp only at hb;cases hx:eI ev x len with
   | none=>rw[hx] at hb;cases hb
   | some l'=>
    rw[hx] at hb;cases hb;obtain⟨r,hle⟩:=jC (P:=P) (w:=w) hx (u x Z) .sliceB;refine⟨?_,hle,id⟩;simp[Instr.sliceBounds,r]
 | some y=>
  dsimp only at hb;cases hy:eI ev y cap with
  | none=>rw[hy] at hb;cases hb
  | some h'=>
   rw[hy] at hb;dsimp only at hb;obtain⟨r,hle⟩:=jC (P:=P) (w:=w) hy (A y Z) (if isSlice then .sliceAcap else .sliceAlen);cases lo with
   | none=>
    dsimp only at hb;cases hb;refine⟨?_,Nat.zero_le _,fun _=>hle⟩;simp[Instr.sliceBounds,r]
   | some x=>
    dsimp only at hb;cases hx:eI ev x h' with
    | none=>rw[hx] at hb;cases hb
    | some l'=>
     rw[hx] at hb;cases hb;obtain⟨C,z⟩:=jC (P:=P) (w:=w) hx (u x Z) .sliceB;refine⟨?_,z,fun _=>hle⟩;simp[Instr.sliceBounds,r,C]
theorem nv {ev:Operand->Option V} {f:Operand->Value} {len cap l h m:Nat} {lo:Option Operand} {hi mx:Operand} (hm:eI ev mx cap=some m) (hb:da ev m m lo (some hi)=some (l,h))
  (A:∀x,lo=some x->∀v,ev x=some v->H S v (f x)) (C:∀v,ev hi=some v->H S v (f hi)) (E:∀v,ev mx=some v->H S v (f mx)) (isSlice:Bool):
  (Instr.sliceBounds isSlice len cap (lo.map f) (some<|f hi)<|some<|f mx).run P w= .ok (l,h,m) w/\l<=h/\h<=m/\m<=cap:=by
 obtain⟨F,u⟩:=jC (P:=P) (w:=w) hm E (if isSlice then .slice3Acap else .slice3Alen);unfold da at hb;dsimp only at hb;cases hy:eI ev hi m with
 | none=>rw[hy] at hb;cases hb
 | some h'=>
  rw[hy] at hb;dsimp only at hb;obtain⟨r,hle⟩:=jC (P:=P) (w:=w) hy C .slice3B;cases lo with
  | none=>
   dsimp only at hb;cases hb;refine⟨?_,Nat.zero_le _,hle,u⟩;simp[Instr.sliceBounds,r,F]
  | some x=>
   dsimp only at hb;cases hx:eI ev x h' with
   | none=>rw[hx] at hb;cases hb
   | some l'=>
    rw[hx] at hb;cases hb;obtain⟨G,z⟩:=jC (P:=P) (w:=w) hx (A x Z) .slice3C;refine⟨?_,z,hle,u⟩;simp[Instr.sliceBounds,r,G,F]
theorem yI {e:TypeId} {b:Pos} {off lo hi m:Nat} {v:V} {l:Loc} (hl:S b=some l) (h:cut P e b off lo hi m=some v):
  ∃j,P.info? e=some j/\H S v (.slice (some (if m=lo then(⟨l.dE,l.sh+off,none⟩:Addr) else(⟨l.dE,l.sh+off,none⟩:Addr).add (lo*j.size))) (hi-lo) (m-lo)):=by
 unfold cut at h;cases hj:P.info? e with
 | none=>rw[hj] at h;cases h
 | some j=>
  rw[hj] at h;cases h;refine⟨j,Z,?_⟩;simp only[H];refine⟨l,hl,?_⟩;rw[Addr.add_eq _ _ Z]
  by_cases hm:m=lo
  ·have:Nat.beq m lo=true:=by rw[Nat.beq_eq];exact hm
   rw[if_pos hm,this];rfl
  have:Nat.beq m lo=false:=by
   cases u:Nat.beq m lo with
   | false=>rfl
   | true=>rw[Nat.beq_eq] at u;exact absurd u hm
  rw[if_neg hm,this];simp only[cond_false,Nat.add_assoc]
section
variable {ev:Operand->Option V} {f:Operand->Value} {t:TypeId} {lo hi mx:Option Operand} {v:V}
theorem nb {e:TypeId} {b:Pos} {off len cap:Nat} {l:Loc} (hl:S b=some l) (h:cutAt P ev e b off len cap lo hi mx=some v) (isSlice:Bool)
  (u:∀x,lo=some x->∀v,ev x=some v->H S v (f x)) (z:∀x,hi=some x->∀v,ev x=some v->H S v (f x)) (A:∀x,mx=some x->∀v,ev x=some v->H S v (f x)):
  ∃j l' h' m,(Instr.sliceBounds isSlice len cap (lo.map f) (hi.map f)<|mx.map f).run P w= .ok (l',h',m) w/\P.info? e=some j/\
   H S v (.slice (some (if m=l' then(⟨l.dE,l.sh+off,none⟩:Addr) else(⟨l.dE,l.sh+off,none⟩:Addr).add (l'*j.size))) (h'-l') (m-l')):=by
 unfold cutAt at h;cases mx with
 | none=>
  dsimp only at h;cases hb:da ev len cap lo hi with
  | none=>rw[hb] at h;cases h
  | some p=>
   obtain⟨l',h'⟩:=p;rw[hb] at h;obtain⟨r,_,_⟩:=iW (P:=P) (w:=w) hb u z isSlice;obtain⟨j,hj,hv⟩:=yI hl h;exact⟨j,l',h',cap,r,hj,hv⟩
 | some x=>
  dsimp only at h;cases hm:eI ev x cap with
  | none=>rw[hm] at h;cases hi<;>cases h
  | some m=>
   cases hi with
   | none=>rw[hm] at h;cases h
   | some y=>
    rw[hm] at h;dsimp only at h;cases hb:da ev m m lo (some y) with
    | none=>rw[hb] at h;cases h
    | some p=>
     obtain⟨l',h'⟩:=p;rw[hb] at h;obtain⟨r,_⟩:=nv (P:=P) (w:=w) (len:=len) hm hb u (z y Z) (A x Z) isSlice;obtain⟨j,hj,hv⟩:=yI hl h;exact⟨j,l',h',m,r,hj,hv⟩
theorem kf {e:TypeId} {j:TypeInfo} {a:Addr} {len cap l h m:Nat} (hu:P.underlying t=some (.slice e)) (hj:P.info? e=some j) {lo hi mx:Option Value}
  (hb:(Instr.sliceBounds true len cap lo hi mx).run P w= .ok (l,h,m) w):
  (Instr.sliceAt t (.slice (some a) len cap) lo hi mx).run P w= .ok (.slice (some (if m=l then a else a.add (l*j.size))) (h-l) (m-l)) w:=by
 simp only[Instr.sliceAt,Instr.slice,sB_,run_underlying hu,rA,hb,cw hj,sP_];split<;>rfl
theorem zF {len a c l' h':Nat} (aa:a<=c) (hb:da ev len a lo hi=some (l',h')):da ev len c lo hi=some (l',h'):=by
 have up:∀y i,eI ev y a=some i->eI ev y c=some i:=by
  intro y i hy;unfold eI at hy⊢;split at hy
  ·rename_i k i' ab;simp only[bA] at hy⊢;split at hy
   ·rename_i hle;cases hy;rw[nE_] at hle;rw[if_pos (by rw[nE_];omega)]
   cases hy
  cases hy
 unfold da at hb⊢;cases hi with
 | none=>exact hb
 | some y=>
  dsimp only at hb⊢;cases hy:eI ev y a with
  | none=>rw[hy] at hb;cases hb
  | some i=>rw[hy] at hb;rw[up y i hy];exact hb
theorem Cu {x:Operand} (h:fo P ev t x lo hi mx=some v)
  (hx:∀v,ev x=some v->H S v (f x)) (C:∀x,lo=some x->∀v,ev x=some v->H S v (f x)) (E:∀x,hi=some x->∀v,ev x=some v->H S v (f x)) (G:∀x,mx=some x->∀v,ev x=some v->H S v (f x)):
  ∃z,(Instr.sliceAt t (f x) (lo.map f) (hi.map f)<|mx.map f).run P w= .ok z w/\H S v z:=by
 unfold fo at h;split at h
 ·rename_i e b off len cap hu u;have hv:=hx _ u;simp only[H] at hv;obtain⟨l,hl,hf⟩:=hv;obtain⟨j,l',h',m,r,hj,L⟩:=nb (w:=w) hl h true C E G;rw[hf];exact⟨_,kf hu hj r,L⟩
 ·rename_i e b off len sz hu u;have hv:=hx _ u;cases mx with
  | none=>
   dsimp only at h;cases hb:da ev len len lo hi with
   | none=>rw[hb] at h;cases h
   | some p=>
    obtain⟨l',h'⟩:=p;cases hj:P.info? e with
    | none=>rw[hb,hj] at h;cases h
    | some j=>
     rw[hb,hj] at h;simp only[bA] at h;split at h
     ·rename_i K;rw[Nat.beq_eq] at K;cases h;obtain⟨r,hle,hle2⟩:=iW (P:=P) (w:=w) hb C E true;have hle2:=hle2 (nR_ _)
      have wider:∀c,len<=c->(Instr.sliceBounds true len c (lo.map f) (hi.map f) none).run P w= .ok (l',h',c) w:=by
       intro c hc
       have Q:da ev len c lo hi=some (l',h'):=by
        have up:∀y i,eI ev y len=some i->eI ev y c=some i:=by
         intro y i hy;unfold eI at hy⊢;split at hy
         ·rename_i k i' am;simp only[bA] at hy⊢;split at hy
          ·rename_i hle;cases hy;rw[nE_] at hle;rw[if_pos (by rw[nE_];omega)]
          cases hy
         cases hy
        unfold da at hb⊢;cases hi with
        | none=>exact hb
        | some y=>
         dsimp only at hb⊢;cases hy:eI ev y len with
         | none=>rw[hy] at hb;cases hb
         | some i=>rw[hy] at hb;rw[up y i hy];exact hb
       exact(iW (P:=P) (w:=w) Q C E true).1
      simp only[H] at hv;obtain⟨l,hl,⟨c,hf,hc,A⟩ | ⟨F,a,hf⟩⟩:=hv
      ·rw[hf];refine⟨_,kf hu hj<|wider c hc,?_⟩;simp only[H];refine⟨l,hl,?_⟩
       by_cases R:c=l'
       ·right;refine⟨by omega,(if c=l' then(⟨l.dE,l.sh+off,none⟩:Addr) else(⟨l.dE,l.sh+off,none⟩:Addr).add (l'*j.size)),?_⟩;have e1:h'-l'=0:=by omega
        have W:c-l'=0:=by omega
        rw[e1,W]
       left;refine⟨c-l',?_,by omega,?_⟩
       ·rw[if_neg R,Addr.add_eq _ _ Z,K,Nat.add_assoc]
       rw[<-A];have:c=l'+(c-l'):=by omega
       conv=>rhs;rw[this,Nat.add_mul]
       omega
      rw[hf];subst F;refine⟨_,kf hu hj<|wider 0<|nR_ _,?_⟩;simp only[H];refine⟨l,hl,.inr ⟨by omega,(if 0=l' then a else a.add (l'*j.size)),?_⟩⟩;have e1:h'-l'=0:=by omega
      have W:0-l'=0:=by omega
      rw[e1,W]
     cases h
  | some m=>
   simp only[bA] at h;split at h
   ·cases h
   rename_i X;simp only[H] at hv;obtain⟨l,hl,⟨c,hf,hc,A⟩ | ⟨F,a,hf⟩⟩:=hv
   ·
    obtain⟨j,l',h',m',r,hj,L⟩:=nb (w:=w) hl h true C E G
    have r':(Instr.sliceBounds true len c (lo.map f) (hi.map f)<|some<|f m).run P w= .ok (l',h',m') w:=by
     unfold cutAt at h;dsimp only at h;cases hm:eI ev m len with
     | none=>rw[hm] at h;cases hi<;>cases h
     | some m0=>
      cases hi with
      | none=>rw[hm] at h;cases h
      | some y=>
       rw[hm] at h;dsimp only at h;cases hb:da ev m0 m0 lo (some y) with
       | none=>rw[hb] at h;cases h
       | some p=>
        obtain⟨l0,h0⟩:=p
        have aa:eI ev m c=some m0:=by
         unfold eI at hm⊢;split at hm
         ·simp only[bA] at hm⊢;split at hm
          ·rename_i hle;cases hm;rw[nE_] at hle;rw[if_pos (by rw[nE_];omega)]
          cases hm
         cases hm
        obtain⟨r1,_⟩:=nv (P:=P) (w:=w) (len:=len) hm hb C (E y Z) (G m Z) true;obtain⟨r2,_⟩:=nv (P:=P) (w:=w) (len:=len) aa hb C (E y Z) (G m Z) true;rw[show(Option.map f<|some m)=some (f m) from Z] at r;rw[show(Option.map f<|some y)=some (f y) from Z] at r⊢;rw[r1] at r;cases r;exact r2
    rw[hf];exact⟨_,kf hu hj r',L⟩
   subst F;exact absurd Z X
 ·rename_i e b off len a sz hu u;have hv:=hx _ u;simp only[H] at hv;obtain⟨l,hl,c,hf,ab,A⟩:=hv;cases mx with
  | some _=>cases h
  | none=>
   dsimp only at h;cases hb:da ev len a lo hi with
   | none=>rw[hb] at h;cases h
   | some p=>
    obtain⟨l',h'⟩:=p;cases hj:P.info? e with
    | none=>rw[hb,hj] at h;cases h
    | some j=>
     rw[hb,hj] at h;simp only[bA] at h;split at h
     ·rename_i hc;cases h;simp only[bA_,Nat.beq_eq,nE_] at hc;obtain⟨K,ao,ap⟩:=hc;obtain⟨r,hle,hle2⟩:=iW (P:=P) (w:=w) (zF ab hb) C E true;rw[hf];refine⟨_,kf hu hj r,?_⟩;simp only[H];refine⟨l,hl,c-l',?_,by omega,?_⟩
      ·rw[if_neg B,Addr.add_eq _ _ Z,K,Nat.add_assoc]
      rw[<-A];have:c=l'+(c-l'):=by omega
      conv=>rhs;rw[this,Nat.add_mul]
      omega
     cases h
 ·rename_i e hu u;have hv:=hx _ u;simp only[H] at hv;cases mx with
  | some _=>cases h
  | none=>
   dsimp only at h;cases hb:da ev 0 0 lo hi with
   | none=>rw[hb] at h;cases h
   | some p=>
    obtain⟨l',h'⟩:=p;cases M:P.info? e with
    | none=>rw[hb,M] at h;cases h
    | some je=>
    rw[hb,M] at h;cases h;obtain⟨r,hle,hle2⟩:=iW (P:=P) (w:=w) hb C E true;have hle2:=hle2 (nR_ _);have:l'=0:=by omega
    have:h'=0:=by omega
    subst_vars
    rw[hv];refine⟨.slice none 0 0,?_,by simp only[H]⟩;simp[Instr.sliceAt,Instr.slice,run_underlying hu,r,cw M]
 ·rename_i n e b off hu u;have hv:=hx _ u;simp only[H] at hv;obtain⟨l,hl,hf⟩:=hv;obtain⟨j,l',h',m,r,hj,L⟩:=nb (w:=w) hl h false C E G;rw[hf];refine⟨_,?_,L⟩;simp only[Instr.sliceAt,sB_,run_underlying hu,rA,Instr.sureAddr,sP_,r,cw hj]
 ·rename_i arr b off hu u;have hv:=hx _ u;simp only[H] at hv;obtain⟨l,hl,hf⟩:=hv;split at h
  ·rename_i n e ac;obtain⟨j,l',h',m,r,hj,L⟩:=nb (w:=w) hl h false C E G;rw[hf];refine⟨_,?_,L⟩;simp only[Instr.sliceAt,Instr.slice,sB_,run_underlying hu,run_underlying ac,asAddr,rA,sP_,r,cw hj]
  cases h
 ·rename_i s hu u;have hv:=hx _ u;simp only[H] at hv;obtain⟨bs,hf,hs⟩:=hv;cases mx with
  | some _=>cases h
  | none=>
   dsimp only at h;cases hb:da ev (cX s) (cX s) lo hi with
   | none=>rw[hb] at h;cases h
   | some p=>
    obtain⟨l',h'⟩:=p;rw[hb] at h;cases h;rw[jK hs] at hb;obtain⟨r,hle,hle2⟩:=iW (P:=P) (w:=w) hb C E false;rw[hf];refine⟨.string<|bs.extract l' h',?_,?_⟩
    ·simp[Instr.sliceAt,Instr.slice,run_underlying hu,r]
    simp only[H];refine⟨_,Z,?_⟩;unfold hY at hs⊢;rw[du,dO,<-hs];rw[show(bs.extract l' h').data.toList=(bs.data.toList.drop l').take (h'-l') from Lib.extract_data bs l' h'];rw[List.map_take,List.map_drop]
 cases h
end
end
section
variable {P:Program} {S:dh} {w:World}
theorem xd {t:TypeId} {cs:List V} {ys:Array Value} {off:Nat} {v:V} (h:FD P t cs off=some v) (hc:dp S cs ys.toList):∃y,(part t ys off).run P w= .ok y w/\H S v y:=by
 unfold FD at h;split at h
 ·rename_i n u;cases h;obtain⟨d,i,hu,hi,z,A⟩:=rS u;refine⟨.agg<|ys.extract off (off+n),?_,?_⟩
  ·simp only[part,sB_,ff hu,A,rA,if_true,cw hi,z,sP_]
  simp only[H];refine⟨_,Z,?_⟩;rw[du,dO,Array.toList_extract];have:=(hc.drop off).take n;show dp S _ ((ys.toList.drop off).take (off+n-off));rw[show off+n-off=n by omega];exact this
 ·rename_i u;obtain⟨d,i,hu,hi,A⟩:=vH u;rw[eF] at h;obtain⟨y,h1,h2⟩:=hc.get h;refine⟨y,?_,h2⟩;have:ys[off]?=some y:=by rw[<-aT_];exact h1
  simp only[part,sB_,ff hu,A,rA,Bool.false_eq_true,if_false,this,sP_]
 cases h
theorem il {ev:Operand->Option V} {f:Operand->Value}:∀{l:List Operand} {vs:List V},cW ev l=some vs->(∀x∈l,∀v,ev x=some v->H S v (f x))->dp S vs (l.map f)
 | [],vs,h,_=>by rw[iK] at h;cases h;exact dp.nil
 | x::l,vs,h,u=>by
  obtain⟨y,r,h1,h2,rfl⟩:=gX h;exact dp.cons (u x (by simp) y h1)<|il h2 fun z A=>u z (by simp[A])
theorem GS {t ty:TypeId} {x:V} {y:Value} {n:Nat} {ts:Array TypeId} (h:wR P t x=some n) (hx:H S x y) (u:ts[0]?=some t):(Builtin.len_ ts ty #[y]).run P w= .ok (.int .i64<|Int.ofNat n) w:=by
 unfold wR at h;split at h
 ·rename_i s hu;cases h;simp only[H] at hx;obtain⟨bs,rfl,z⟩:=hx;rw[jK z];simp[Builtin.len_,u,run_underlying hu,goInt]
 ·rename_i m e hu;cases h;simp[Builtin.len_,u,run_underlying hu,goInt]
 ·rename_i e b off m cap hu;cases h;obtain⟨a,c,rfl⟩:=H.jI hx;simp[Builtin.len_,u,run_underlying hu,goInt]
 ·rename_i e hu;cases h;simp only[H] at hx;subst hx;simp[Builtin.len_,u,run_underlying hu,goInt]
 ·rename_i k e hu;cases h;simp only[H] at hx;subst hx;simp[Builtin.len_,u,run_underlying hu,goInt]
 cases h
theorem wY {x:V} {y:Value} (hx:H S x y) (h:x≠ .nilPtr/\x≠ .nilIface/\x≠ .nilFunc/\(∀l,x≠ .yield l)/\x≠ .any/\(∀n,x≠ .tok n)) (f:Operand->Value) (o:Oper) (z:Operand) (u:o.op= .nilCheck z) (hf:f z=y):
  (execOp f o).run P w= .ok (.value y) w:=by
 have key:(y≠ .pointer none)/\y≠ .nilIface/\y≠ .nilFunc/\∀n a b,y≠ .func (.method n) a b:=by
  obtain⟨h1,h2,A,h4,h5,C⟩:=h;cases x with
  | tok n=>exact absurd Z (C n)
  | any=>exact absurd Z h5
  | nilPtr=>exact absurd Z h1
  | nilIface=>exact absurd Z h2
  | nilFunc=>exact absurd Z A
  | yield l=>exact absurd Z (h4 l)
  | slice b off len cap=>obtain⟨_,_,rfl⟩:=H.jI hx;simp
  | _=>simp only[H] at hx;first | (subst hx;simp;done) | (obtain⟨_,_,rfl⟩:=hx;simp;done) | (obtain⟨_,rfl,_⟩:=hx;simp;done) | (obtain⟨_,_,rfl,_⟩:=hx;simp;done)
 obtain⟨E,k2,F,G⟩:=key;simp only[execOp,u,hf,E,k2,F,G];rfl
theorem xk {ev:Operand->Option V} {f:Operand->Value} {o:Oper} {v:V} (C:ER S ev f o.op) (h:di P ev o.op=some v):
  ∃x,(execOp f o).run P w= .ok (.value x) w/\H S v x:=by
 cases E:o.op with
 | move x=>
  rw[E] at h C;exact⟨f x,by simp[execOp,E],C x (by simp[Op.operands]) v h⟩
 | assign x=>
  rw[E] at h C;exact⟨f x,by simp[execOp,E],C x (by simp[Op.operands]) v h⟩
 | pick c a b=>
  rw[E] at h C;simp only[di] at h;split at h
  ·rename_i hc;have:=C c (by simp[Op.operands]) _ hc;simp only[H] at this;exact⟨f a,by simp[execOp,E,this,asBool],C a (by simp[Op.operands]) v h⟩
  ·rename_i hc;have:=C c (by simp[Op.operands]) _ hc;simp only[H] at this;exact⟨f b,by simp[execOp,E,this,asBool],C b (by simp[Op.operands]) v h⟩
  cases h
 | build t parts=>
  rw[E] at h C;obtain⟨x,h1,h2⟩:=Bj (S:=S) (w:=w) (f:=f) (fun p hp u hu=>C p.2 (by simp only[Op.operands,List.mem_toArray,List.mem_map];exact⟨p,hp,Z⟩) u hu) h;exact⟨x,by simp only[execOp,E,sB_,h1,rA,sP_],h2⟩
 | nilCheck x=>
  rw[E] at h C;simp only[di] at h;split at h
  ·cases h
  ·cases h
  ·cases h
  ·cases h
  ·cases h
  ·cases h
  rename_i n1 n2 n3 n4 n5 n6;have hv:=C x (by simp[Op.operands]) v h;exact⟨f x,wY hv ⟨fun e=>n1 (by rw[h,e]),fun e=>n2 (by rw[h,e]),fun e=>n3 (by rw[h,e]),(fun l e=>n4 l (by rw[h,e])),(fun e=>n5 (by rw[h,e])),fun k e=>n6 k (by rw[h,e])⟩ f o x E Z,hv⟩
 | binOp op t x y ty=>
  rw[E] at h C;simp only[di] at h;split at h
  ·rename_i a b ha hb;obtain⟨z,h1,h2,h3⟩:=Dh (P:=P) (w:=w) (C x (by simp[Op.operands]) a ha) (C y (by simp[Op.operands]) b hb) x y h;exact⟨z,by simp only[execOp,E,sB_,h1,h2,rA,sP_],h3⟩
  cases h
 | unOp op t x=>
  rw[E] at h C;simp only[di] at h;split at h
  ·rename_i b hb;cases h;have:=C x (by simp[Op.operands]) _ hb;simp only[H] at this;exact⟨.bool (!b),by simp[execOp,E,this,Op.unary],by simp only[H];rw[cond_not]⟩
  ·rename_i k n hb;cases h;have:=C x (by simp[Op.operands]) _ hb;simp only[H] at this;refine⟨.int k<|k.wrap (0-n),?_,by simp only[H];rw[zu];rfl⟩;simp only[execOp,E,this,Op.unary,Op.intArith,sB_,sP_,rA]
  ·rename_i k n hb;cases h;have:=C x (by simp[Op.operands]) _ hb;simp only[H] at this;refine⟨.int k<|k.wrap (BitVec.ofInt k.bits (if k.signed then-1 else k.max) ^^^ BitVec.ofInt k.bits n).toNat,?_,by simp only[H]⟩;simp only[execOp,E,this,Op.unary,Op.intBits,sB_,sP_,rA]
  cases h
 | convert src dst x=>
  rw[E] at h C;simp only[di] at h;split at h
  ·rename_i L M W k1 k k2 n e1 K e3;cases h;have:=C x (by simp[Op.operands]) _ e3;simp only[H] at this;refine⟨.int k<|k.wrap n,?_,by simp only[H];rw[zu]⟩;simp[execOp,E,this,convert,run_underlying e1,run_underlying K,Conv.intToInt]
  ·rename_i L M W s e1 K e3;cases h;have hv:=C x (by simp[Op.operands]) _ e3;have hv':=hv;simp only[H] at hv';obtain⟨bs,hf,X⟩:=hv';refine⟨f x,?_,hv⟩;rw[hf];simp[execOp,E,hf,convert,run_underlying e1,run_underlying K]
  cases h
 | makeInterface t x=>
  rw[E] at h C;simp only[di] at h;split at h
  ·cases h
  ·rename_i L M d u hn e1 K;cases h;have hv:=C x (by simp[Op.operands]) _ K;refine⟨.iface t<|f x,?_,by simp only[H];exact⟨_,Z,hv⟩⟩;simp only[execOp,E,Instr.makeInterface,sB_,run_underlying e1,rA];cases d<;>first | rfl | exact absurd rfl (hn _)
  cases h
 | makeFunc fn first captured=>
  rw[E] at h C;simp only[di] at h;split at h
  ·rename_i L M W g a b e1 K;cases h;have ha:=il (f:=f) e1 (fun x hx u hu=>C x (by simp only[Op.operands,Array.mem_append];exact .inl (by simpa using hx)) u hu);have hb:=il (f:=f) K (fun x hx u hu=>C x (by simp only[Op.operands,Array.mem_append];exact .inr (by simpa using hx)) u hu);refine⟨.func (.func g) (first.map f)<|captured.map f,?_,by simp only[H];exact⟨_,_,Z,by simpa using ha,by simpa using hb⟩⟩;simp[execOp,E,Instr.makeFunc]
  cases h
 | slice t x lo hi mx=>
  rw[E] at h C;obtain⟨z,h1,h2⟩:=Cu (P:=P) (w:=w) (f:=f) h (C x (by simp[Op.operands])) (fun y hy=>C y (by subst hy;simp[Op.operands])) (fun y hy=>C y (by subst hy;simp[Op.operands])) (fun y hy=>C y (by subst hy;simp[Op.operands]));exact⟨z,by simp only[execOp,E,sB_,h1,rA,sP_],h2⟩
 | fieldAddr s x i=>
  rw[E] at h C;simp only[di] at h;split at h
  ·rename_i fs b off X hx;have hv:=C x (by simp[Op.operands]) _ hx;simp only[H] at hv;obtain⟨l,hl,hf⟩:=hv;split at h
   ·rename_i fd aa;split at h
    ·rename_i j hj;simp only[bA] at h;split at h
     ·cases h
     rename_i ab;cases h;have R:¬j.size=0:=fun e=>ab (by rw[Nat.beq_eq];exact e)
     refine⟨.pointer<|some ⟨l.dE,l.sh+(off+fd.offset),none⟩,?_,by simp only[H];exact⟨l,hl,Z⟩⟩;simp[execOp,E,Instr.fieldAt,run_underlying<|nL X,aa,hf,Instr.sureAddr,fieldPlace,cw hj,R,Addr.add_eq,Nat.add_assoc]
    cases h
   cases h
  cases h
 | field t x i=>
  rw[E] at h C;simp only[di] at h;split at h
  ·rename_i fs cs X hx;have hv:=C x (by simp[Op.operands]) _ hx;simp only[H] at hv;obtain⟨ys,hf,hc⟩:=hv;split at h
   ·rename_i fd aa;obtain⟨y,h1,h2⟩:=xd (P:=P) (w:=w) h hc;refine⟨y,?_,h2⟩;simp[execOp,E,Instr.field,run_underlying<|nL X,aa,hf,asAgg,h1]
   cases h
  cases h
 | indexAddr t x i=>
  rw[E] at h C;simp only[di] at h;split at h
  ·rename_i L M W e b off len cap k n hu hx hi;have hv:=C x (by simp[Op.operands]) _ hx;have hn:=C i (by simp[Op.operands]) _ hi;simp only[H] at hn;split at h
   ·rename_i j hj;simp only[bA] at h;split at h
    ·rename_i G;cases h;rw[nE_] at G;have G:n<len:=G;have Q:(0:Int)<=Int.ofNat n/\Int.ofNat n<(len:Int):=⟨Int.natCast_nonneg _,Int.ofNat_lt.2 G⟩
     have go:∀(a:Addr) (c:Nat),f x= .slice (some a) len c->(execOp f o).run P w= .ok (.value (.pointer<|some<|a.add (n*j.size))) w:=by
      intro a c hf;simp only[execOp,E,Instr.indexAt,hn,hf,asIntOf,sB_,sP_,run_underlying hu,rA];rw[if_pos Q];simp[cw hj]
     cases cap with
     | known c=>
      simp only[H] at hv;obtain⟨l,hl,hf⟩:=hv;refine⟨_,go _ _ hf,?_⟩;simp only[H];exact⟨l,hl,by rw[Addr.add_eq _ _ Z,Nat.add_assoc]⟩
     | least a sz=>
      simp only[H] at hv;obtain⟨l,hl,c,hf,_⟩:=hv;refine⟨_,go _ _ hf,?_⟩;simp only[H];exact⟨l,hl,by rw[Addr.add_eq _ _ Z,Nat.add_assoc]⟩
     | upto sz=>
      simp only[H] at hv;obtain⟨l,hl,⟨c,hf,_⟩ | ⟨h0,_⟩⟩:=hv
      ·refine⟨_,go _ _ hf,?_⟩;simp only[H];exact⟨l,hl,by rw[Addr.add_eq _ _ Z,Nat.add_assoc]⟩
      omega
    cases h
   cases h
  ·rename_i L M W m e b off k n hu hx hi;have hv:=C x (by simp[Op.operands]) _ hx;have hn:=C i (by simp[Op.operands]) _ hi;simp only[H] at hn hv;obtain⟨l,hl,hf⟩:=hv;split at h
   ·rename_i j hj;simp only[bA] at h;split at h
    ·rename_i G;cases h;rw[nE_] at G;have G:n<m:=G;have Q:(0:Int)<=Int.ofNat n/\Int.ofNat n<(m:Int):=⟨Int.natCast_nonneg _,Int.ofNat_lt.2 G⟩;refine⟨.pointer<|some ⟨l.dE,l.sh+(off+n*j.size),none⟩,?_,by simp only[H];exact⟨l,hl,Z⟩⟩;simp only[execOp,E,Instr.indexAt,hn,hf,asIntOf,sB_,sP_,run_underlying hu,rA,Instr.sureAddr];rw[if_pos Q];simp[cw hj,Addr.add_eq,Nat.add_assoc]
    cases h
   cases h
  cases h
 | index t x i=>
  rw[E] at h C;simp only[di] at h;split at h
  ·rename_i L M W m e cs k n hu hx hi;have hv:=C x (by simp[Op.operands]) _ hx;have hn:=C i (by simp[Op.operands]) _ hi;simp only[H] at hn hv;obtain⟨ys,hf,hc⟩:=hv;simp only[bA] at h;split at h
   ·rename_i G;rw[nE_] at G;have G:n<m:=G;have Q:(0:Int)<=Int.ofNat n/\Int.ofNat n<(m:Int):=⟨Int.natCast_nonneg _,Int.ofNat_lt.2 G⟩;split at h
    ·rename_i j hj;obtain⟨y,h1,h2⟩:=xd (P:=P) (w:=w) h hc;refine⟨y,?_,h2⟩;simp only[execOp,E,Instr.index,hn,hf,asIntOf,sB_,sP_,run_underlying hu,rA];rw[if_pos Q];simp[cw hj,h1]
    cases h
   cases h
  ·rename_i L M W s k n hu hx hi;have hv:=C x (by simp[Op.operands]) _ hx;have hn:=C i (by simp[Op.operands]) _ hi;simp only[H] at hn hv;obtain⟨bs,hf,X⟩:=hv;split at h
   ·rename_i c hc;cases h;rw[eF] at hc;unfold hY at X;rw[<-X,gM_] at hc;cases hb:bs.data.toList[n]? with
    | none=>rw[hb] at hc;cases hc
    | some bt=>
     rw[hb] at hc;cases hc;have am:bs[n]?=some bt:=by rw[<-hb,aT_];rfl
     refine⟨.int .u8 (bt.toNat:Int),?_,by simp only[H];rfl⟩;have h0:(0:Int)<=Int.ofNat n:=Int.natCast_nonneg _;simp only[execOp,E,Instr.index,hn,hf,asIntOf,sB_,sP_,run_underlying hu,rA];rw[if_pos h0,show(Int.ofNat n).toNat=n from Z,am];rfl
   cases h
  cases h
 | typeAssert x xt ty ok=>
  rw[E] at h C;simp only[di] at h
  have zero:∀{v:V},((fB P ty).map fun z=>V.tuple [z,.bool false])=some v->∃z,(zeroValue ty).run P w= .ok z w/\H S v (.tuple #[z,.bool false]):=fun {v} R=>by
   cases hq:fB P ty with
   | none=>rw[hq] at R;cases R
   | some z=>
    rw[hq] at R;cases R;obtain⟨i,y,hi,hy,hv⟩:=qC hq;refine⟨y,by simp[zeroValue,typeInfo,hi,hy],?_⟩;simp only[H];exact⟨_,Z,dp.cons (hv S)<|dp.cons (by simp only[H]) dp.nil⟩
  split at h
  ·cases h
  ·rename_i L M d u v' hn e1 K;have hv:=C x (by simp[Op.operands]) _ K;simp only[H] at hv;obtain⟨y,hf,hv⟩:=hv;rw[bA] at h;split at h
   ·rename_i hu;have:=nB hu;subst this;cases ok with
    | true=>
     simp only[cond_true] at h;cases h;refine⟨.tuple #[y,.bool true],?_,by simp only[H];exact⟨_,Z,dp.cons hv<|dp.cons (by simp only[H]) dp.nil⟩⟩;simp only[execOp,E,Instr.typeAssert,hf,sB_,run_underlying e1,rA];cases d<;>first | exact absurd rfl (hn _) | rfl | simp
    | false=>
     simp only[cond_false] at h;cases h;refine⟨y,?_,hv⟩;simp only[execOp,E,Instr.typeAssert,hf,sB_,run_underlying e1,rA];cases d<;>first | exact absurd rfl (hn _) | rfl | simp
   rename_i hu;have ab:¬u=ty:=fun e=>hu (by rw[e];exact Nat.beq_refl _)
   cases ok with
   | true=>
    obtain⟨z,R,ac⟩:=zero h;refine⟨_,?_,ac⟩;simp only[execOp,E,Instr.typeAssert,hf,sB_,run_underlying e1,rA];cases d<;>first | exact absurd rfl (hn _) | rfl | simp[ab,R]
   | false=>cases h
  ·rename_i L M d hn e1 K;have hv:=C x (by simp[Op.operands]) _ K;simp only[H] at hv;cases ok with
   | true=>
    obtain⟨z,R,ac⟩:=zero h;refine⟨_,?_,ac⟩;simp only[execOp,E,Instr.typeAssert,hv,sB_,run_underlying e1,rA];cases d<;>first | exact absurd rfl (hn _) | rfl | simp[R]
   | false=>cases h
  cases h
 | extract x i=>
  rw[E] at h C;simp only[di] at h;split at h
  ·rename_i vs hx;have hv:=C x (by simp[Op.operands]) _ hx;simp only[H] at hv;obtain⟨ys,hf,hc⟩:=hv;rw[eF] at h;obtain⟨y,h1,h2⟩:=hc.get h;have:ys[i]?=some y:=by rw[<-aT_];exact h1
   exact⟨y,by simp[execOp,E,Instr.extract,hf,this],h2⟩
  cases h
 | call c=>
  rw[E] at h C;simp only[di] at h;split at h
  ·rename_i F;split at h
   ·rename_i L M t x e1 K;split at h
    ·rename_i u hu;cases hl:wR P t u with
     | none=>rw[hl] at h;cases h
     | some n=>
      rw[hl] at h;cases h;have A:c.args= #[x]:=by rw[<-Array.toList_inj];exact K
      have hv:=C x (by simp[Op.operands,Call.operands,F,A]) u hu;refine⟨.int .i64<|Int.ofNat n,?_,by simp only[H]⟩;have:=GS (P:=P) (w:=w) (ty:=o.type) hl hv e1;simp[execOp,E,resolve,F,A,invoke,builtin,this]
    cases h
   cases h
  ·rename_i F;split at h
   ·rename_i L M t x e1 K;split at h
    ·rename_i W u4 e u hu hx;have A:c.args= #[x]:=by rw[<-Array.toList_inj];exact K
     have hv:=C x (by simp[Op.operands,Call.operands,F,A]) u hx;unfold Mv at h;split at h
     ·rename_i b off len k;cases h;simp only[H] at hv;obtain⟨l,hl,hf⟩:=hv;refine⟨.int .i64<|Int.ofNat k,?_,by simp only[H]⟩;simp[execOp,E,resolve,F,A,invoke,builtin,Builtin.cap_,e1,run_underlying hu,hf,goInt]
     ·rename_i b off len a sz;cases h;simp only[H] at hv;obtain⟨l,hl,k,hf,hk,_⟩:=hv;refine⟨.int .i64<|Int.ofNat k,?_,by simp only[H];exact⟨k,Z,hk⟩⟩;simp[execOp,E,resolve,F,A,invoke,builtin,Builtin.cap_,e1,run_underlying hu,hf,goInt]
     ·cases h;simp only[H] at hv;refine⟨.int .i64 0,?_,by simp only[H]⟩;simp[execOp,E,resolve,F,A,invoke,builtin,Builtin.cap_,e1,run_underlying hu,hv,goInt]
     cases h
    cases h
   cases h
  ·rename_i F;split at h
   ·rename_i L x y K;split at h
    ·rename_i a b ha hb;have A:c.args= #[x,y]:=by rw[<-Array.toList_inj];exact K
     have hva:=C x (by simp[Op.operands,Call.operands,F,A]) a ha;have hvb:=C y (by simp[Op.operands,Call.operands,F,A]) b hb;unfold Nc at h;split at h
     ·rename_i k n k' m;simp only[H] at hva hvb;simp only[bA] at h;split at h
      ·cases h;refine⟨.int k (if m<n then m else n),?_,by simp only[H,eP,decide_eq_true_eq]⟩;simp[execOp,E,resolve,F,A,invoke,builtin,hva,hvb,run_min_int2]
      cases h
     cases h
    cases h
   cases h
  ·rename_i F;split at h
   ·rename_i L x y K;split at h
    ·rename_i a b ha hb;have A:c.args= #[x,y]:=by rw[<-Array.toList_inj];exact K
     have hva:=C x (by simp[Op.operands,Call.operands,F,A]) a ha;have hvb:=C y (by simp[Op.operands,Call.operands,F,A]) b hb;unfold Nb at h;split at h
     ·rename_i k n k' m;simp only[H] at hva hvb;simp only[bA] at h;split at h
      ·cases h;refine⟨.int k (if m>n then m else n),?_,by simp only[H,eP,decide_eq_true_eq]⟩;simp[execOp,E,resolve,F,A,invoke,builtin,hva,hvb,run_max_int2]
      cases h
     cases h
    cases h
   cases h
  cases h
 | _=>rw[E] at h;simp[di] at h
end
inductive HR where
 | val (v:V) (U:D)
 | skip (U:D)
 | enter (f:Nat) (args:List V) (U:D)
 | round (l:Pos) (args:List V) (U:D)
 | mO (v:V) (U:D)
 | err (n:Nat)
def xI (P:Program) (U:D) (t:TypeId) (x v:V):Option D:=
 match x,cS v with
 | .ptr b off,some cs=>
  match U.m.get b,P.info? t with
  | some (.row cells e false),some j=>
   bif Nat.beq (cX cs) j.size && Nat.ble (off+j.size) (cX cells) && cD cs then some (U.setObj b (.row (dG cs cells off) e false)) else none
  | some (.own cells e),some j=>
   bif Nat.beq (cX cs) j.size && Nat.ble (off+j.size) (cX cells) && cD cs then some (U.setObj b (.own (dG cs cells off) e)) else none
  | _,_=>none
 | _,_=>none
def kV (U:D) (sz:Nat):V->Option (Nat×List V)
 | .ax=>some (0,[])
 | .slice b off len _=>match U.m.get b with
  | some (.row cells _ _)=>bif Nat.ble (off+len*sz) (cX cells) then some (len,takeN (dS cells off) (len*sz)) else none
  | _=>none
 | .str s=>bif Nat.beq sz 1 then some (cX s,yd (fun c=>.int .u8 (Int.ofNat c)) s) else none
 | _=>none
def dt (P:Program) (t:Option TypeId):Bool:=
 match t with
 | some t=>match P.underlying t with
  | some (.slice _) | some .string=>true
  | _=>false
 | none=>true
def grow (U:D) (e:Nat) (cs:List V) (len sz:Nat):HR:=
 .val (.slice U.next 0 len (.upto sz)) (U.alloc (.row cs e false))
def fX (P:Program) (U:D) (ts:Array TypeId) (s x:V):HR:=
 match ts[0]? with
 | some t=>match P.underlying t with
  | some (.slice e)=>match P.info? e with
   | some j=>
    bif dt P ts[1]? && Nat.ble 1 j.size && Nat.ble j.bytes 65536 then
     match kV U j.size x with
     | some (n,news)=>
      bif cD news && Nat.ble n 1048576 && (P.info? e).any (fun j=>(j.zero.bind qb).any fun z=>(cS z).any fun cs=>Nat.beq (cX cs) j.size) then
       match s with
       | .ax=>bif Nat.beq n 0 then .val .ax U else grow U e news n j.size
       | .slice b off len (.known c)=>
        bif Nat.ble (len+n) c then
         match U.m.get b with
         | some (.row cells e' false)=>
          bif Nat.ble (off+len*j.size+cX news) (cX cells) then .val (.slice b off (len+n) (.known c)) (U.setObj b (.row (dG news cells (off+len*j.size)) e' false)) else .err 21
         | _=>bif Nat.beq n 0 then .val (.slice b off len (.known c)) U else .err 22
        else match U.m.get b with
         | some (.row cells _ _)=>
          bif Nat.ble (off+len*j.size) (cX cells) && Nat.ble len 1048576 then grow U e (ie (takeN (dS cells off) (len*j.size)) news) (len+n) j.size else .err 23
         | _=>.err 24
       | .slice b off len (.upto sz)=>
        bif Nat.beq n 0 then .val (.slice b off len (.upto sz)) U else
        bif Nat.beq sz j.size && Nat.ble len 1048576 then
         match U.m.get b with
         | some (.row cells e' false)=>
          bif Nat.ble 1 len && Nat.ble (off+len*j.size+cX news) (cX cells) then
           .val (.slice b off (len+n) (.upto sz)) (U.setObj b (.row (dG news cells (off+len*j.size)) e' false))
          else bif Nat.ble (off+len*j.size) (cX cells) && Nat.beq e' e then grow (U.drop b) e (ie (takeN (dS cells off) (len*j.size)) news) (len+n) j.size else .err 25
         | _=>.err 26
        else .err 27
       | _=>.err 28
      else .err 29
     | none=>.err 30
    else .err 31
   | none=>.err 32
  | _=>.err 33
 | none=>.err 34
def oD (P:Program) (U:D) (ts:Array TypeId) (s x:V):HR:=
 match ts[0]?,ts[1]? with
 | some t,some t2=>match P.underlying t,P.underlying t2 with
  | some (.slice e),some (.int _)=>match P.info? e,(fB P e).bind cS,x with
   | some j,some zs,.int .i64 (.ofNat n)=>
    bif Nat.ble n 1048576 && (Nat.ble 1 n && (Nat.ble 1 j.size && (Nat.ble j.bytes 65536 && Nat.beq (cX zs) j.size))) then
     match s with
     | .ax=>grow U e (fp zs n) n j.size
     | .slice b off len (.known c)=>
      bif Nat.ble (len+n) c then .err 37 else match U.m.get b with
       | some (.row cells _ _)=>bif Nat.ble (off+len*j.size) (cX cells) && Nat.ble len 1048576 then grow U e (ie (takeN (dS cells off) (len*j.size))<|fp zs n) (len+n) j.size else .err 23
       | _=>.err 24
     | _=>.err 38
    else .err 39
   | _,_,_=>.err 46
  | _,_=>.err 47
 | _,_=>.err 48
def rE (P:Program) (U:D) (ts:Array TypeId) (d x:V):HR:=
 match ts[0]? with
 | some t=>match P.underlying t with
  | some (.slice e)=>match P.info? e with
   | some j=>match kV U j.size x,d with
    | some (n,news),.slice b off len _=>
     bif Nat.beq (Nat.min n len) 0 then .val (.int .i64 0) U else
     match U.m.get b with
     | some (.row cells e' false)=>
      bif cD (takeN news (Nat.min n len*j.size)) && Nat.ble 1 j.size && Nat.ble (off+cX (takeN news (Nat.min n len*j.size))) (cX cells) then
       .val (.int .i64<|Int.ofNat<|Nat.min n len) (U.setObj b (.row (dG (takeN news (Nat.min n len*j.size)) cells off) e' false)) else .err 40
     | _=>.err 41
    | some (_,_),.ax=>.val (.int .i64 0) U
    | _,_=>.err 42
   | none=>.err 43
  | _=>.err 44
 | none=>.err 45
def zJ (P:Program) (U:D) (ts:Array TypeId) (x:V):Option D:=
 match ts[0]? with
 | some t=>match P.underlying t with
  | some (.slice e)=>match x with
   | .ax=>some U
   | .slice b off len _=>bif Nat.beq len 0 then some U else
    match(fB P e).bind cS,U.m.get b with
    | some zs,some (.row cells e' false)=>bif cD (fp zs len) && Nat.ble 1 (cX zs) && Nat.ble (off+cX (fp zs len)) (cX cells) then some (U.setObj b (.row (dG (fp zs len) cells off) e' false)) else none
    | _,_=>none
   | _=>none
  | _=>none
 | none=>none
def Aq (e:fC) (es:List fC) (i:Nat):List fC:=Eo e es i
def wa (es:List fC):Nat->List fC:=
 List.rec (motive:=fun _=>Nat->List fC) (fun _=>[]) (fun x l ih n=>Nat.rec (motive:=fun _=>List fC) l (fun m _=>x::ih m) n) es
def pL (xs ys:List V):Bool:=
 List.rec (motive:=fun _=>List V->Bool) (fun ys=>List.rec (motive:=fun _=>Bool) true (fun _ _ _=>false) ys)
  (fun x _ ih ys=>List.rec (motive:=fun _=>Bool) false (fun y r _=>match sa x y with | some true=>ih r | _=>false) ys) xs ys
def sameKey (x y:V):Bool:=
 match x,y with
 | .agg xs,.agg ys=>pL xs ys
 | x,y=>match sa x y with | some b=>b | none=>false
def nq (P:Program) (U:D) (t:TypeId) (m k v:V):Option D:=
 match P.underlying t,m with
 | some (.map kt _),.map b=>match U.m.get b with
  | some (.map es clock)=>bif plainKey P kt && mI P kt k then
    match pr P kt k es 0 with
    | some (some (i,_))=>match nth es i with
     | some e=>bif sameKey e.key k then some (U.setObj b (.map (Aq {key:=k,val:=v,born:=e.born} es i) clock)) else none
     | none=>none
    | some none=>some (U.setObj b (.map (ie es [{key:=k,val:=v,born:=clock}]) (clock+1)))
    | none=>none
   else none
  | _=>none
 | _,_=>none
def qH (P:Program) (U:D) (ts:Array TypeId) (m k:V):Option D:=
 match ts[0]? with
 | some t=>match P.underlying t,m with
  | some (.map kt _),.map b=>match U.m.get b with
   | some (.map es clock)=>bif plainKey P kt && mI P kt k then
     match pr P kt k es 0 with
     | some (some (i,_))=>some (U.setObj b (.map (wa es i) clock))
     | some none=>some (U.setObj b (.map es clock))
     | none=>none
    else none
   | _=>none
  | _,_=>none
 | none=>none
def zV (P:Program) (f:Nat):Bool:=
 match P.funcs[f]? with
 | some fn=>fn.body.isSome && !(fn.name == "runtime.NumGoroutine")
 | none=>false
def lk:pH->Bool
 | .upto _=>false
 | _=>true
def kg (p q:Pos):Bool:=Nat.beq p q
def oc (U:D) (args:List V):Option V:=
 match args with
 | [.slice b off n cap,.slice b' off' n' cap']=>
  match U.m.get b,U.m.get b' with
  | some (.row _ _ false),some (.row cells' _ false)=>bif (bif kg b b' then false else true) && (lk cap && (lk cap' && Nat.ble 1 (cX cells'))) then some (.bool false) else none
  | _,_=>none
 | _=>none
def isNe (P:Program) (g:Nat):Bool:=
 match P.funcs[g]? with
 | some fn=>fn.name == "internal/abi.NoEscape"
 | none=>false
def yA (P:Program) (ov:Nat->Bool) (U:D) (f:V) (args:List V):HR:=
 match f with
 | .func g fi ca=>bif zV P g then .enter g (ie fi<|ie args ca) U else bif ov g then(bif isNe P g then(match ie fi (ie args ca) with | [v]=>.val v U | _=>.err 53) else(match oc U (ie fi<|ie args ca) with | some v=>.val v U | none=>.err 52)) else .err 50
 | .yield l=>.round l args U
 | _=>.err 51
def Ox (len:Nat) (c:pH):Bool:=
 match c with
 | .known c=>Nat.ble 1 c
 | .upto _=>Nat.ble 1 len
 | .least a _=>Nat.ble 1 a
def E5 (x:V):Option V:=
 match x with
 | .ax=>some .nilPtr
 | .slice b off len c=>bif Ox len c then some (.ptr b off) else none
 | _=>none
def FZ (P:Program) (U:D) (t:Option TypeId) (p n:V):Option (List Nat×D):=
 match n with
 | .int .i64 (.ofNat n)=>bif Nat.beq n 0 then(match t,p with
   | some _,.nilPtr=>some ([],U)
   | some _,.ptr _ _=>some ([],U)
   | _,_=>none) else
  match t,p with
  | some t,.ptr b off=>match P.underlying t,U.m.get b with
   | some (.pointer u),some (.row cells e false)=>bif Nat.beq e u && (Nat.beq (P.cellsOf u) 1 && (Nat.ble (off+n) (cX cells) && Nat.ble n 1152921504606846976)) then
     match cW yz (takeN (dS cells off) n) with
     | some s=>some (s,U.setObj b (.row cells e true))
     | none=>none
    else none
   | _,_=>none
  | _,_=>none
 | _=>none
def mr (P:Program) (U:D) (src dst:TypeId) (x:V):HR:=
 match P.underlying src,P.underlying dst,x with
 | some .string,some (.slice e),.str s=>match P.underlying e with
  | some (.int .u8)=>bif Nat.beq (P.cellsOf e) 1 then .val (.slice U.next 0 (cX s) (.upto 1)) (U.alloc (.row (yd (fun c=>.int .u8 (Int.ofNat c)) s) e true)) else .err 26
  | _=>.err 25
 | _,_,_=>.err 24
def gz (P:Program) (ov:Nat->Bool) (ev:Operand->Option V) (U:D):Op->HR
 | .store t x y=>match ev x,ev y with
  | some a,some v=>match xI P U t a v with
   | some U'=>.skip U'
   | none=>.err 10
  | _,_=>.err 11
 | .mapUpdate t m k x=>match ev m,ev k,ev x with
  | some a,some b,some v=>match nq P U t a b v with
   | some U'=>.skip U'
   | none=>.err 19
  | _,_,_=>.err 20
 | .insert t m k x=>match ev m,ev k,ev x with
  | some a,some b,some v=>match nq P U t a b v with
   | some U'=>.skip U'
   | none=>.err 19
  | _,_,_=>.err 20
 | .call c=>match c.callee with
  | .value f=>match ev f,tN ev c.args.toList with
   | some g,some args=>yA P ov U g args
   | _,_=>.err 12
  | .builtin .append=>match tN ev c.args.toList with
   | some [s,x]=>bif dt P c.argTypes[1]? then fX P U c.argTypes s x else oD P U c.argTypes s x
   | _=>.err 13
  | .builtin .delete=>match tN ev c.args.toList with
   | some [m,k]=>match qH P U c.argTypes m k with
    | some U'=>.val (.tuple []) U'
    | none=>.err 17
   | _=>.err 18
  | .builtin .copy=>match tN ev c.args.toList with
   | some [s,x]=>rE P U c.argTypes s x
   | _=>.err 14
  | .builtin .clear=>match tN ev c.args.toList with
   | some [x]=>match zJ P U c.argTypes x with
    | some U'=>.val (.tuple []) U'
    | none=>.err 21
   | _=>.err 22
  | .builtin .unsafeSliceData=>match tN ev c.args.toList with
   | some [x]=>match E5 x with
    | some v=>.val v U
    | none=>.err 27
   | _=>.err 28
  | .builtin .unsafeString=>match tN ev c.args.toList with
   | some [p,n]=>match FZ P U c.argTypes[0]? p n with
    | some (s,U')=>.val (.str s) U'
    | none=>.err 29
   | _=>.err 30
  | _=>.err 15
 | .convert src dst x=>match ev x with
  | some v=>mr P U src dst v
  | none=>.err 23
 | .panic x=>match ev x with
  | some (.iface t v)=>.mO (.iface t v) U
  | _=>.err 32
 | _=>.err 16
section
variable {P:Program} {S:dh} {U:D} {w:World}
theorem D.nK (U:D) (b:Pos) (o o':cG):(U.setObj b o).setObj b o'=U.setObj b o':=by
 simp[D.setObj,N.Lp]
theorem D.mG (U:D) (b:Pos) (o:cG):(U.setObj b o).m.get b=some o:=N.dA _ _ _
theorem ot {b:Pos} {l:Loc} {e:Nat} (hl:S b=some l):∀(vs:List V) (xs:List Value) (cells:List V) (off i:Nat) (U:D) (w:World),Inv S U w->U.m.get b=some (.row cells e false)->dp S vs xs->cD vs=true->
  off+i+vs.length<=cells.length->∀σ₀:D,U=σ₀.setObj b (.row cells e false)->
  ∃w',(storeCells ⟨l.dE,l.sh+off,none⟩ xs i).run P w= .ok () w'/\Inv S (σ₀.setObj b (.row (iw cells (off+i) vs) e false)) w'/\eY S U w S (σ₀.setObj b (.row (iw cells (off+i) vs) e false)) w'
 | [],xs,cells,off,i,U,w,hi,hb,hv,_,_,σ₀,hσ=>by
  rw[hv.eQ];subst hσ;exact⟨w,by simp[storeCells],hi,eY.refl _ _ _⟩
 | v::vs,xs,cells,off,i,U,w,hi,hb,hv,u,hlen,σ₀,hσ=>by
  obtain⟨x,r,rfl,h1,h2⟩:=hv.cons_inv;have A:iB v=true:=rT u v (by simp)
  have G:cD vs=true:=by
   have h':(bif iB v then cD vs else false)=true:=u;rw[A] at h';exact h'
  simp only[List.length_cons] at hlen;obtain⟨K,st⟩:=hi.setCell hb hl (i:=off+i) B h1;have C:(U.setObj b (.row (cells.set (off+i) v) e false)).m.get b=some (.row (cells.set (off+i) v) e false):=D.mG _ _ _;obtain⟨w',r',inv',st'⟩:=ot hl vs r (cells.set (off+i) v) off (i+1) _ _ K C h2 G (by simp;omega) σ₀ (by rw[hσ,D.nK]);obtain⟨c,fr,E,aa,ab,L,M⟩:=hi.row hb hl;refine⟨w',?_,?_,?_⟩
  ·have Q:off+i<cells.length:=by omega
   obtain⟨y,hy,_⟩:=L (off+i) cells[off+i] (gC Q);have z:w.cell? ⟨l.dE,l.sh+off+i,none⟩=some y:=by rw[cell?_of_heap E,Nat.add_assoc];exact hy
   have R:w.frozen? ⟨l.dE,l.sh+off+i,none⟩=false:=frozen?_of_heap E _ (M Z _ B);have F:(⟨l.dE,l.sh+off,none⟩:Addr).add i=⟨l.dE,l.sh+off+i,none⟩:=Addr.add_eq _ i Z
   have aq:(store ⟨l.dE,l.sh+off+i,none⟩ x).run P w= .ok () (w.setCell ⟨l.dE,l.sh+off+i,none⟩ x):=by
    rw[run_store P w _ x _<|oV A h1,z];simp[R]
   simp only[storeCells,sB_,F,aq,rA];rw[<-r',Nat.add_assoc]
  ·simpa [iw,Nat.add_assoc] using inv'
  have:=st.trans st';simpa [iw,Nat.add_assoc] using this
theorem jb (hi:Inv S U w) {b:Pos} {l:Loc} {e:Nat} {cells vs:List V} {xs:List Value} {off:Nat} (hl:S b=some l) (hb:U.m.get b=some (.row cells e false)) (hv:dp S vs xs) (u:cD vs=true)
  (hlen:off+vs.length<=cells.length):
  ∃w',(storeCells ⟨l.dE,l.sh+off,none⟩ xs).run P w= .ok () w'/\Inv S (U.setObj b (.row (dG vs cells off) e false)) w'/\eY S U w S (U.setObj b (.row (dG vs cells off) e false)) w':=by
 have z:Inv S (U.setObj b (.row cells e false)) w/\eY S U w S (U.setObj b (.row cells e false)) w:=by
  obtain⟨c,fr,h1,h2,A,h4,h5⟩:=hi.row hb hl;exact hi.change hb hl Z Z h1 ⟨c,fr,Z,h2,A,h4,h5⟩ (fun _ _=>Z) Z Z Z Z
 obtain⟨w',r,inv,st⟩:=ot (P:=P) hl vs xs cells off 0 _ w z.1 (D.mG _ _ _) hv u B U Z;rw[Nat.add_zero,<-kW vs cells off hlen] at inv st;exact⟨w',r,inv,z.2.trans st⟩
theorem CF (hi:Inv S U w) {t:TypeId} {x v:V} {y z:Value} {U':D} (h:xI P U t x v=some U') (hx:H S x y) (hv:H S v z):
  ∃w',(Instr.storeAt t y z).run P w= .ok () w'/\Inv S U' w'/\eY S U w S U' w':=by
 unfold xI at h;split at h
 ·rename_i u1 u2 b off cs u;split at h
  ·rename_i M Q cells e j hb hj;simp only[bA] at h;split at h
   ·rename_i hc;cases h;simp only[bA_,Nat.beq_eq,nE_,bK] at hc;obtain⟨⟨F,G⟩,C⟩:=hc;simp only[H] at hx;obtain⟨l,hl,rfl⟩:=hx;obtain⟨w',r,inv,st⟩:=jb (P:=P) hi hl hb (iX u hv) C (off:=off) B;refine⟨w',?_,inv,st⟩;have hsz:=m9 u hv;simp only[Instr.storeAt,Instr.sureAddr,storeVar,sB_,sP_,rA,cw hj];rw[if_neg (by simp;omega)];exact r
   cases h
  ·rename_i M Q cells e j hb hj;simp only[bA] at h;split at h
   ·rename_i hc;cases h;simp only[bA_,Nat.beq_eq,nE_,bK] at hc;obtain⟨⟨F,G⟩,C⟩:=hc;simp only[H] at hx;obtain⟨l,hl,rfl⟩:=hx;obtain⟨h0,K,L⟩:=hi.own hb hl;obtain⟨w',r,inv,st⟩:=jb (P:=P) K hl (D.mG _ _ _) (iX u hv) C (off:=off) B;rw[D.nK] at inv st;have hlen:(dG cs cells off).length=cells.length:=by rw[kW _ _ _ B,rO]
    obtain⟨A,E⟩:=inv.Jq (D.mG _ _ _) hl Z (fun x hx=>iF.FK ⟨h0.1,by rw[hlen];exact h0.2⟩ hx);rw[D.nK] at A E;refine⟨w',?_,A,(L.trans st).trans E⟩;have hsz:=m9 u hv;simp only[Instr.storeAt,Instr.sureAddr,storeVar,sB_,sP_,rA,cw hj];rw[if_neg (by simp;omega)];exact r
   cases h
  cases h
 cases h
theorem pg (hi:Inv S U w) {sz n:Nat} {x:V} {y:Value} {cs:List V} (h:kV U sz x=some (n,cs)) (hx:H S x y):
  (Builtin.lenOf y).run P w= .ok n w/\cs.length=n*sz/\
   ∀k,k<=n->∃xs:List Value,dp S (cs.take (k*sz)) xs/\∀w',w'.heap=w.heap->(Builtin.firstCells sz k y).run P w'= .ok xs.toArray w':=by
 unfold kV at h;split at h
 ·cases h;simp only[H] at hx;subst hx;refine⟨by simp[Builtin.lenOf],by simp,fun k hk=>⟨[],by simpa using dp.nil,fun w' _=>by simp[Builtin.firstCells]⟩⟩
 ·rename_i b off len cap;split at h
  ·rename_i cells e ro hb;simp only[bA] at h;split at h
   ·rename_i hle;cases h;rw[nE_,bK] at hle
    have full:∀(a:Addr) (c:Nat) (l:Loc),S b=some l->y= .slice (some a) n c->(a=⟨l.dE,l.sh+off,none⟩∨n=0)->
      (Builtin.lenOf y).run P w= .ok n w/\(takeN (dS cells off) (n*sz)).length=n*sz/\
       ∀k,k<=n->∃xs:List Value,dp S ((takeN (dS cells off) (n*sz)).take (k*sz)) xs/\∀w',w'.heap=w.heap->(Builtin.firstCells sz k y).run P w'= .ok xs.toArray w':=by
     intro a c l hl hy F;subst hy;refine⟨by simp[Builtin.lenOf],by rw[du,dO,lT_,lD_];omega,fun k hk=>?_⟩;have C:k*sz<=n*sz:=nM_ _ hk;rw[du,dO,List.take_take,Nat.min_eq_left C];rcases F with rfl | rfl
     ·obtain⟨ys,h1,h2,G⟩:=hi.piece hb hl off (k*sz) B;refine⟨ys,h2,fun w' u=>?_⟩;refine run_firstCells_some w' sz k _ n c ys h1 fun j v hj=>?_
      have:=G j v hj;simpa [World.cell?,u] using this
     have E:k=0:=by omega
     subst E;refine⟨[],by simpa using dp.nil,fun w' u=>?_⟩;exact run_firstCells_some w' sz 0 _ 0 c [] (by simp) (by simp)
    cases cap with
    | known c=>
     simp only[H] at hx;obtain⟨l,hl,rfl⟩:=hx;exact full _ _ l hl Z (.inl Z)
    | least a s=>
     simp only[H] at hx;obtain⟨l,hl,c,rfl,_⟩:=hx;exact full _ _ l hl Z (.inl Z)
    | upto s=>
     simp only[H] at hx;obtain⟨l,hl,⟨c,rfl,_⟩ | ⟨h0,a,rfl⟩⟩:=hx
     ·exact full _ _ l hl Z (.inl Z)
     subst h0;exact full _ _ l hl Z (.inr Z)
   cases h
  cases h
 ·rename_i s;simp only[bA] at h;split at h
  ·rename_i z;rw[Nat.beq_eq] at z;subst z;cases h;simp only[H] at hx;obtain⟨bs,rfl,A⟩:=hx;rw[jK A,lY];unfold hY at A;refine⟨by simp[Builtin.lenOf],by rw[<-A];simp,fun k hk=>?_⟩;refine⟨(bs.data.toList.take k).map fun b=>Value.int .u8 b.toNat,?_,fun w' _=>?_⟩
   ·rw[<-A,List.map_map,<-List.map_take,Nat.mul_one];generalize (bs.data.toList.take k)=l;induction l with
    | nil=>exact dp.nil
    | cons c l ih=>exact dp.cons (by simp only[H];rfl) ih
   simp only[Builtin.firstCells,sP_];congr 1;apply Array.toList_inj.1;simp only[Array.toList_map];congr 1;simp
  cases h
 cases h
end
section
variable {P:Program} {S:dh} {U:D} {w:World}
theorem GU {α:Type} (l:List α) (k:Nat) (v:α) (vs:List α) (hk:k<l.length):
  (l.set k v).take (k+1)++vs++(l.set k v).drop (k+1+vs.length)=l.take k++(v::vs)++l.drop (k+(vs.length+1)):=by
 have h2:(l.set k v).drop (k+1+vs.length)=l.drop (k+(vs.length+1)):=by
  rw[List.drop_set_of_lt B];congr 1;omega
 have h1:(l.set k v).take (k+1)=l.take k++[v]:=by
  rw[List.take_succ_eq_append_getElem (by simpa using hk)];simp[List.take_set_of_le]
 rw[h1,h2];simp
theorem mU {g o e:Nat} {fr:Nat×Nat}:∀(vs:List Value) (cur:Array Value) (i:Nat) (w:World),w.heap[g]?=some (.cells cur e fr)->o+i+vs.length<=cur.size->(∀v∈vs,v.oneCell'=true)->
  (∀j,o<=j->¬(fr.1<=j/\j<fr.2))->
  ∃w',(storeCells ⟨g,o,none⟩ vs i).run P w= .ok () w'/\w'.heap[g]?=some (.cells (cur.toList.take (o+i)++vs++cur.toList.drop (o+i+vs.length)).toArray e fr)/\
   (∀r,r≠g->w'.heap[r]?=w.heap[r]?)/\w'.heap.size=w.heap.size/\w'.tape=w.tape/\w'.os=w.os/\w'.output=w.output
 | [],cur,i,w,A,_,_,_=>by
  refine⟨w,by simp[storeCells],?_,fun _ _=>Z,Z,Z,Z,Z⟩;simpa using A
 | v::vs,cur,i,w,A,hl,h1,hf=>by
  simp only[List.length_cons] at hl;have E:o+i<cur.size:=by omega
  have C:(⟨g,o,none⟩:Addr).add i=⟨g,o+i,none⟩:=Addr.add_eq _ i Z;have z:w.cell? ⟨g,o+i,none⟩=some cur[o+i]:=by rw[cell?_of_heap A];simp[E]
  have F:w.frozen? ⟨g,o+i,none⟩=false:=frozen?_of_heap A _ (hf _ B)
  have aq:(store ⟨g,o+i,none⟩ v).run P w= .ok () (w.setCell ⟨g,o+i,none⟩ v):=by
   rw[run_store P w _ v _<|h1 v (by simp),z];simp[F]
  obtain⟨w',r,q1,q2,q3,q4,q5,K⟩:=mU vs (cur.setIfInBounds (o+i) v) (i+1) _ (heap_setCell_same A (o+i) v) (by simp;omega) (fun u hu=>h1 u (by simp[hu])) hf;refine⟨w',?_,?_,fun r G=>(q2 r G).trans (heap_setCell_other w _ v G),by rw[q3];simp,q4,q5,K⟩
  ·simp only[storeCells,sB_,C,aq,rA];exact r
  rw[q1];congr 3;rw[Array.toList_setIfInBounds];have aa:cur.toList.length=cur.size:=Array.length_toList;exact GU cur.toList (o+i) v vs B
theorem run_append_fits {ts:Array TypeId} {t ty e:TypeId} {j:TypeInfo} (F:ts[0]?=some t) (hu:P.underlying t=some (.slice e)) (hj:P.info? e=some j) (E:dt P ts[1]?=true)
  {base:Option Addr} {sLen sCap n:Nat} {y:Value} {news:List Value} (hlen:(Builtin.lenOf y).run P w= .ok n w) (z:(Builtin.firstCells j.size n y).run P w= .ok news.toArray w) (A:sLen+n<=sCap):
  (Builtin.append_ ts ty #[.slice base sLen sCap,y]).run P w=
   (Sem.run P (match base with | some a=>storeCells (a.add (sLen*j.size)) news | none=>pure ():Sem Unit) w).andThen fun _ w'=>.ok (.slice base (sLen+n) sCap) w':=by
 unfold dt at E;cases h1:ts[1]? with
 | none=>
  cases base<;>simp[Builtin.append_,F,h1,run_underlying hu,cw hj,hlen,A,z]
 | some u=>
  rw[h1] at E;dsimp only at E;split at E
  ·rename_i e' C;cases base<;>simp[Builtin.append_,F,h1,run_underlying hu,run_underlying C,cw hj,hlen,A,z]
  ·rename_i C;cases base<;>simp[Builtin.append_,F,h1,run_underlying hu,run_underlying C,cw hj,hlen,A,z]
  cases E
theorem nI {ts:Array TypeId} {t ty e:TypeId} {j:TypeInfo} (A:ts[0]?=some t) (hu:P.underlying t=some (.slice e)) (hj:P.info? e=some j) (C:dt P ts[1]?=true)
  {dE o:Nat} {sLen sCap n:Nat} {y:Value} {news:List Value} (hlen:(Builtin.lenOf y).run P w= .ok n w) (u:(Builtin.firstCells j.size n y).run P w= .ok news.toArray w) (z:sLen+n<=sCap):
  (Builtin.append_ ts ty #[.slice (some ⟨dE,o,none⟩) sLen sCap,y]).run P w=
   (Sem.run P (storeCells ⟨dE,o+sLen*j.size,none⟩ news) w).andThen fun _ w'=>.ok (.slice (some ⟨dE,o,none⟩) (sLen+n) sCap) w':=by
 rw[run_append_fits A hu hj C hlen u z];show(Sem.run P (storeCells ((⟨dE,o,none⟩:Addr).add (sLen*j.size)) news) w).andThen _=_;rw[Addr.add_eq _ _ Z]
theorem lG {ts:Array TypeId} {t ty e:TypeId} {j:TypeInfo} {z:Value} (M:ts[0]?=some t) (hu:P.underlying t=some (.slice e)) (hj:P.info? e=some j) (hzero:j.zero=some z) (L:dt P ts[1]?=true)
  {base:Option Addr} {sLen sCap n:Nat} {y:Value} {olds news:List Value} (hlen:(Builtin.lenOf y).run P w= .ok n w) (A:(Builtin.firstCells j.size n y).run P w.drew= .ok news.toArray w.drew)
  (hold:(Builtin.firstCells j.size sLen (.slice base sLen sCap)).run P w.drew= .ok olds.toArray w.drew) (F:sCap<sLen+n) (Q:sLen+n<=4194304) (R:j.bytes<=65536) (aa:1<=j.size):
  ∃cap,sLen+n<=cap/\(Builtin.append_ ts ty #[.slice base sLen sCap,y]).run P w=
   .ok (.slice (some ⟨w.heap.size,0,none⟩) (sLen+n) cap) (w.drew.alloc (.cells (olds.toArray++news.toArray++Builtin.zeroCells z.cells (cap-(sLen+n))) e)):=by
 refine⟨grownCap w (sLen+n) sCap e,grownCap_ge _ _ _ _,?_⟩
 have ab:Builtin.nextslicecap (sLen+n) sCap*j.bytes<=281474976710656:=growslice_fits F (by
  have:(sLen+n)*j.bytes<=4194304*65536:=Nat.mul_le_mul Q R;omega)
 have hn:¬(sLen+n<=sCap):=by omega
 have C:IntKind.i64.max=9223372036854775807:=by decide
 have h1:¬(9223372036854775807<((sLen:Int)+(n:Int))):=by omega
 have G:¬(281474976710656<Builtin.nextslicecap (sLen+n) sCap*j.bytes):=by omega
 rw[Array.append_assoc];unfold dt at L;cases E:ts[1]? with
 | none=>
  simp[Builtin.append_,M,E,run_underlying hu,cw hj,typeInfo,hj,hlen,hn,C,h1,G,hold,A,zeroValue,hzero,newRow,Question.forced,grownCap]
 | some u=>
  rw[E] at L;dsimp only at L;split at L
  ·rename_i e' K;simp[Builtin.append_,M,E,run_underlying hu,run_underlying K,cw hj,typeInfo,hj,hlen,hn,C,h1,G,hold,A,zeroValue,hzero,newRow,Question.forced,grownCap]
  ·rename_i K;simp[Builtin.append_,M,E,run_underlying hu,run_underlying K,cw hj,typeInfo,hj,hlen,hn,C,h1,G,hold,A,zeroValue,hzero,newRow,Question.forced,grownCap]
  cases L
theorem mH (hi:Inv S U w) {cs:List V} {olds news:List Value} {e sz len cap:Nat} {z:Value} (hc:dp S cs (olds++news)) (hlen:cs.length=len*sz) (u:len<=cap) (C:z.cells.size=sz):
  Inv (S.with U.next ⟨w.heap.size,0,cap*sz⟩) (U.alloc (.row cs e false)) (w.drew.alloc (.cells (olds.toArray++news.toArray++Builtin.zeroCells z.cells (cap-len)) e))/\
  eY S U w (S.with U.next ⟨w.heap.size,0,cap*sz⟩) (U.alloc (.row cs e false)) (w.drew.alloc (.cells (olds.toArray++news.toArray++Builtin.zeroCells z.cells (cap-len)) e))/\
  H (S.with U.next ⟨w.heap.size,0,cap*sz⟩) (.slice U.next 0 len (.upto sz)) (.slice (some ⟨w.heap.size,0,none⟩) len cap):=by
 have hlen2:=hc.length;rw[hlen] at hlen2;have hle:len*sz<=cap*sz:=nM_ _ u
 have E:iF S ⟨w.heap.size,0,cap*sz⟩ (.row cs e false) (.cells (olds.toArray++news.toArray++Builtin.zeroCells z.cells (cap-len)) e):=by
  refine⟨_,_,Z,?_,by rw[hlen];exact hle,fun i v hv=>?_,fun _ j _ hj=>by simp at hj⟩
  ·have h1:olds.length+news.length=len*sz:=by simpa using hlen2
   simp only[Array.size_append,List.size_toArray,size_zeroCells,C,Nat.sub_mul,nA_];omega
  obtain⟨y,h1,h2⟩:=hc.get hv;refine⟨y,?_,h2⟩;have A:i<(olds++news).length:=(gA.1 h1).1;rw[nA_,Array.getElem?_append_left (by simpa using A)];simpa using h1
 obtain⟨inv,st⟩:=(hi.drew).alloc (l:=⟨w.heap.size,0,cap*sz⟩) Z E;refine⟨inv,(eY.drew S U w).trans st,?_⟩;simp only[H];exact⟨_,dh.cZ _ _ _,.inl ⟨cap,Z,u,by simp⟩⟩
theorem zC (hi:Inv S U w) {ts:Array TypeId} {ty:TypeId} {s x v:V} {ys yx:Value} {U':D} (h:fX P U ts s x= .val v U') (hs:H S s ys) (hx:H S x yx):
  ∃z w' S',(Builtin.append_ ts ty #[ys,yx]).run P w= .ok z w'/\H S' v z/\Inv S' U' w'/\eY S U w S' U' w':=by
 unfold fX at h;cases ht:ts[0]? with
 | none=>rw[ht] at h;cases h
 | some t=>
 rw[ht] at h;dsimp only at h;split at h
 case h_2=>cases h
 rename_i e hu;cases hj:P.info? e with
 | none=>rw[hj] at h;cases h
 | some j=>
 rw[hj] at h;simp only[bA] at h;split at h
 case isFalse=>cases h
 rename_i hb;simp only[bA_,nE_] at hb;obtain⟨⟨hz,ao⟩,a0⟩:=hb;cases ab:kV U j.size x with
 | none=>rw[ab] at h;cases h
 | some p=>
 obtain⟨n,news⟩:=p;rw[ab] at h;dsimp only at h;split at h
 case isFalse=>cases h
 rename_i a6;simp only[bA_,nE_] at a6;obtain⟨⟨W,b7⟩,hzero⟩:=a6
 obtain⟨zv,a1,G⟩:∃zv,j.zero=some zv/\zv.cells.size=j.size:=by
  simp only[Option.any_some,Option.any_eq_true] at hzero;obtain⟨z,ap,cs,bo,a7⟩:=hzero;cases a8:j.zero with
  | none=>rw[a8] at ap;cases ap
  | some zv=>
   rw[a8] at ap;refine⟨zv,Z,?_⟩;rw[Nat.beq_eq,bK] at a7;rw[<-a7];exact m9 bo<|qc (S:=S) ap
 obtain⟨C,K,ar⟩:=pg (P:=P) hi ab hx;obtain⟨xs,Q,ac⟩:=ar n (nR_ _);rw[<-K,List.take_length] at Q;have L:xs.length=n*j.size:=by rw[Q.length,K]
 have hrun0:=ac w Z;have hrund:=ac w.drew Z;split at h
 ·
  simp only[H] at hs;subst hs;split at h
  ·rename_i F;rw[Nat.beq_eq] at F;cases h;subst F;refine⟨.slice none 0 0,w,S,?_,by simp only[H],hi,eY.refl _ _ _⟩;have:=run_append_fits (w:=w) (ty:=ty) (base:=none) (sLen:=0) (sCap:=0) ht hu hj hz C hrun0 (nR_ _);rw[this];rfl
  rename_i F;cases h
  have hn:0<n:=by
   rcases Nat.eq_zero_or_pos n with h0 | h0
   ·exact absurd (by rw[Nat.beq_eq];exact h0) F
   exact h0
  obtain⟨cap,M,hr⟩:=lG (w:=w) (ty:=ty) (base:=none) (sLen:=0) (sCap:=0) (olds:=[]) ht hu hj a1 hz C hrund (by simp[Builtin.firstCells]) B B a0 ao;rw[nA_] at M hr;obtain⟨inv,st,hv⟩:=mH (e:=e) hi (olds:=[]) (news:=xs) (by simpa using Q) K M G;exact⟨_,_,_,hr,hv,inv,st⟩
 ·
  rename_i b off len c;simp only[H] at hs;obtain⟨l,hl,rfl⟩:=hs;split at h
  ·rename_i E;rw[nE_] at E;have hr:=nI (w:=w) (ty:=ty) (dE:=l.dE) (o:=l.sh+off) ht hu hj hz C hrun0 E;split at h
   ·rename_i cells e' hb;split at h
    ·rename_i A;rw[nE_,bK,bK] at A;cases h;obtain⟨w',r,inv,st⟩:=jb (P:=P) hi hl hb Q W (off:=off+len*j.size) B;refine⟨.slice (some ⟨l.dE,l.sh+off,none⟩) (len+n) c,w',S,?_,?_,inv,st⟩
     ·rw[hr,Nat.add_assoc,r];rfl
     simp only[H];exact⟨l,hl,Z⟩
    cases h
   split at h
   ·rename_i F;rw[Nat.beq_eq] at F;cases h;subst F;refine⟨.slice (some ⟨l.dE,l.sh+off,none⟩) len c,w,S,?_,?_,hi,eY.refl _ _ _⟩
    ·have a2:xs= []:=eN_ (by rw[L,Nat.zero_mul]);rw[hr,a2];simp[storeCells]
    simp only[H];exact⟨l,hl,Z⟩
   cases h
  rename_i E;rw[nE_] at E;split at h
  ·rename_i cells e' ro hb;split at h
   ·rename_i A;simp only[bA_,nE_,bK] at A;obtain⟨A,aI⟩:=A;unfold grow at h;cases h;obtain⟨ys,h1,h2,h3⟩:=hi.piece hb hl off (len*j.size) A
    have hold:(Builtin.firstCells j.size len (.slice (some ⟨l.dE,l.sh+off,none⟩) len c)).run P w.drew= .ok ys.toArray w.drew:=
     run_firstCells_some w.drew j.size len _ len c ys h1 (fun i v hv=>by simpa using h3 i v hv)
    obtain⟨cap,M,hr⟩:=lG (w:=w) (ty:=ty) ht hu hj a1 hz C hrund hold B B a0 ao
    obtain⟨inv,st,hv⟩:=mH (e:=e) hi (olds:=ys) (news:=xs) (len:=len+n) (cs:=ie (takeN (dS cells off) (len*j.size)) news)
     (by rw[dV,du,dO];exact h2.append Q) (by rw[dV,du,dO,lA_,lT_,lD_,K,Nat.add_mul];omega) M G
    exact⟨_,_,_,hr,hv,inv,st⟩
   cases h
  cases h
 ·
  rename_i b off len sz;split at h
  ·rename_i F;rw[Nat.beq_eq] at F;cases h;subst F;have a2:xs= []:=eN_ (by rw[L,Nat.zero_mul]);subst a2;have hs':=hs;simp only[H] at hs';obtain⟨l,hl,⟨c,hy,hc,_⟩ | ⟨h0,a,hy⟩⟩:=hs'
   ·refine⟨ys,w,S,?_,hs,hi,eY.refl _ _ _⟩;rw[hy,run_append_fits (w:=w) (ty:=ty) ht hu hj hz C hrun0 B];simp[storeCells]
   refine⟨ys,w,S,?_,hs,hi,eY.refl _ _ _⟩;subst h0;rw[hy,run_append_fits (w:=w) (ty:=ty) ht hu hj hz C hrun0 B];simp[storeCells]
  rename_i F
  have hn:0<n:=by
   rcases Nat.eq_zero_or_pos n with h0 | h0
   ·exact absurd (by rw[Nat.beq_eq];exact h0) F
   exact h0
  split at h
  ·rename_i X;simp only[bA_,Nat.beq_eq,nE_] at X;obtain⟨X,aI⟩:=X;subst X;simp only[H] at hs;split at h
   ·rename_i cells e' hb;split at h
    ·
     rename_i A;simp only[bA_,nE_,bK] at A;obtain⟨b8,A⟩:=A;cases h;obtain⟨l,hl,⟨c,rfl,hc,aa⟩ | ⟨h0,_⟩⟩:=hs
     ·obtain⟨cc,fr,_,_,bs,_⟩:=hi.row hb hl
      have E:len+n<=c:=by
       have:(len+n)*j.size<=c*j.size:=by rw[Nat.add_mul];omega
       exact Nat.le_of_mul_le_mul_right this ao
      have hr:=nI (w:=w) (ty:=ty) (dE:=l.dE) (o:=l.sh+off) ht hu hj hz C hrun0 E;obtain⟨w',r,inv,st⟩:=jb (P:=P) hi hl hb Q W (off:=off+len*j.size) B;refine⟨.slice (some ⟨l.dE,l.sh+off,none⟩) (len+n) c,w',S,?_,?_,inv,st⟩
      ·rw[hr,Nat.add_assoc,r];rfl
      simp only[H];exact⟨l,hl,.inl ⟨c,Z,E,aa⟩⟩
     omega
    split at h
    ·
     rename_i A;simp only[bA_,nE_,Nat.beq_eq,bK] at A;obtain⟨A,he⟩:=A;subst he;unfold grow at h;cases h;obtain⟨l,hl,a3⟩:=hs;obtain⟨olds,h1,h2,h3⟩:=hi.piece hb hl off (len*j.size) A;have a9:dp S (ie (takeN (dS cells off) (len*j.size)) news) (olds++xs):=by rw[dV,du,dO];exact h2.append Q
     have bb:(ie (takeN (dS cells off) (len*j.size)) news).length=(len+n)*j.size:=by
      rw[dV,du,dO,lA_,lT_,lD_,K,Nat.add_mul];omega
     have anew:∀(a:Addr) (c:Nat),ys= .slice (some a) len c->c<len+n->(a=⟨l.dE,l.sh+off,none⟩∨len=0)->
       ∃z w' S',(Builtin.append_ ts ty #[ys,yx]).run P w= .ok z w'/\H S' (.slice (U.drop b).next 0 (len+n) (.upto j.size)) z/\
        Inv S' ((U.drop b).alloc (.row (ie (takeN (dS cells off) (len*j.size)) news) e' false)) w'/\eY S U w S' ((U.drop b).alloc (.row (ie (takeN (dS cells off) (len*j.size)) news) e' false)) w':=by
      intro a c hy b9 ha;subst hy
      have hold:(Builtin.firstCells j.size len (.slice (some a) len c)).run P w.drew= .ok olds.toArray w.drew:=by
       rcases ha with rfl | rfl
       ·exact run_firstCells_some w.drew j.size len _ len c olds h1 (fun i v hv=>by simpa using h3 i v hv)
       have:olds= []:=eN_ (by rw[h1,Nat.zero_mul]);subst this;exact run_firstCells_some w.drew j.size 0 _ 0 c [] (by simp) (by simp)
      obtain⟨cap,M,hr⟩:=lG (w:=w) (ty:=ty) ht hu hj a1 hz C hrund hold B B a0 ao;obtain⟨bt,st'⟩:=hi.forget b;obtain⟨inv,st,hv⟩:=mH (e:=e') bt (olds:=olds) (news:=xs) (len:=len+n) a9 bb M G;exact⟨_,_,_,hr,hv,inv,st'.trans st⟩
     rcases a3 with ⟨c,hy,hc,aa⟩ | ⟨h0,a,hy⟩
     ·by_cases E:len+n<=c
      ·
       subst hy;have hr:=nI (w:=w) (ty:=ty) (dE:=l.dE) (o:=l.sh+off) ht hu hj hz C hrun0 E;obtain⟨cc,fr,be,a4,bs,ca,bi⟩:=hi.row hb hl;have hmul:(len+n)*j.size<=c*j.size:=nM_ _ E;have bv:(len+n)*j.size=len*j.size+n*j.size:=Nat.add_mul _ _ _
       have aq:=mU (P:=P) (o:=l.sh+off+len*j.size) xs cc 0 w be (by rw[L,a4];omega) (fun u hu=>by
        obtain⟨i,bl,bw⟩:=List.getElem_of_mem hu;have aY:i<news.length:=by rw[<-Q.length];exact bl
        obtain⟨y,R,a5⟩:=Q.get (gC aY);rw[gC bl,bw] at R;cases R;exact oV (rT W _<|List.getElem_mem aY) a5) (fun jj bm=>bi Z jj B)
       obtain⟨w',r,b0,b1,b2,b3,b4,b5⟩:=aq
       have inv:=hi.xq (l':=⟨l.dE,l.sh+off,l.cells-off⟩) (cells':=ie (takeN (dS cells off) (len*j.size)) news) hb hl Z b0
        ⟨_,fr,Z,by simp[a4];omega,by rw[bb];show _<=l.cells-off;omega,fun i v hv=>by
         obtain⟨y,R,a5⟩:=a9.get hv;refine⟨y,?_,a5⟩;rw[List.getElem?_toArray];dsimp only;have am:cc.toList.length=l.sh+l.cells:=by rw[Array.length_toList,a4]
         have aY:i<(olds++xs).length:=(gA.1 R).1;rw[lA_,h1,L] at aY
         by_cases b6:i<len*j.size
         ·rw[gL_ (by rw[h1];exact b6)] at R;have:=h3 i y R;rw[Addr.add_eq _ _ Z,cell?_of_heap be] at this;rw[lQ_,gL_ (by rw[lT_,am];omega),List.getElem?_take,if_pos B,aT_];exact this
         rw[gR_ (by rw[h1];omega),h1] at R;rw[lQ_,gR_ (by rw[lT_,am];omega),lT_,am];rw[gL_ (by rw[L];omega),<-R];congr 1;omega,fun _ jj bm=>bi Z jj (by simp only at bm;omega)⟩
        b1 b2 b3 b4 b5
       refine⟨.slice (some ⟨l.dE,l.sh+off,none⟩) (len+n) c,w',_,?_,?_,inv.1,inv.2⟩
       ·rw[hr,r];rfl
       simp only[H,D.drop];refine⟨_,dh.cZ _ _ _,.inl ⟨c,by simp,E,?_⟩⟩;simp only;omega
      exact anew _ c hy B (.inl Z)
     exact anew a 0 (by rw[hy,h0]) B (.inr h0)
    cases h
   cases h
  cases h
 cases h
theorem oh {ts:Array TypeId} {t t2 ty e:TypeId} {k:IntKind} {j:TypeInfo} {z:Value} (ht:ts[0]?=some t) (hu:P.underlying t=some (.slice e)) (hj:P.info? e=some j) (hzero:j.zero=some z) (L:ts[1]?=some t2) (hz:P.underlying t2=some (.int k))
  {base:Option Addr} {sLen sCap n:Nat} {olds:List Value}
  (hold:(Builtin.firstCells j.size sLen (.slice base sLen sCap)).run P w.drew= .ok olds.toArray w.drew) (u:sCap<sLen+n) (M:sLen+n<=4194304) (A:n<=1048576) (Q:1<=n) (C:j.bytes<=65536) (E:1<=j.size):
  ∃cap,sLen+n<=cap/\(Builtin.append_ ts ty #[.slice base sLen sCap,.int .i64<|Int.ofNat n]).run P w=
   .ok (.slice (some ⟨w.heap.size,0,none⟩) (sLen+n) cap) (w.drew.alloc (.cells (olds.toArray++(Builtin.zeroCells z.cells n).toList.toArray++Builtin.zeroCells z.cells (cap-(sLen+n))) e)):=by
 refine⟨grownCap w (sLen+n) sCap e,grownCap_ge _ _ _ _,?_⟩
 have aa:Builtin.nextslicecap (sLen+n) sCap*j.bytes<=281474976710656:=growslice_fits u (by
  have:(sLen+n)*j.bytes<=4194304*65536:=Nat.mul_le_mul M C;omega)
 have hn:¬(sLen+n<=sCap):=by omega
 have F:IntKind.i64.max=9223372036854775807:=by decide
 have h1:¬(9223372036854775807<((sLen:Int)+(n:Int))):=by omega
 have R:¬(281474976710656<Builtin.nextslicecap (sLen+n) sCap*j.bytes):=by omega
 have hw:IntKind.i64.wrap (n:Int)=(n:Int):=uZ .i64 (Int.ofNat n) (by simp only[MY,nE_];omega);have G:¬((n:Int)<0):=by omega
 have K:¬(281474976710656<(n:Int)*(j.bytes:Int)):=by
  have:n*j.bytes<=1048576*65536:=Nat.mul_le_mul A C;have h2:((n*j.bytes:Nat):Int)<=((1048576*65536:Nat):Int):=Int.ofNat_le.2 this;rw[Int.natCast_mul] at h2;omega
 have W:¬(n*j.size=0):=by
  have:1*1<=n*j.size:=Nat.mul_le_mul Q E;omega
 have X:¬(n=0∨j.size=0):=by omega
 rw[Array.append_assoc];simp[Builtin.append_,ht,L,run_underlying hu,run_underlying hz,cw hj,typeInfo,hj,asInt,asIntOf,hw,G,K,hn,F,h1,R,hold,W,X,zeroValue,hzero,newRow,Question.forced,grownCap]
theorem xY (hi:Inv S U w) {ts:Array TypeId} {ty:TypeId} {s x v:V} {ys yx:Value} {U':D} (h:oD P U ts s x= .val v U') (hs:H S s ys) (hx:H S x yx):
  ∃z w' S',(Builtin.append_ ts ty #[ys,yx]).run P w= .ok z w'/\H S' v z/\Inv S' U' w'/\eY S U w S' U' w':=by
 unfold oD at h;split at h
 case h_2=>cases h
 rename_i t t2 ht L;split at h
 case h_2=>cases h
 rename_i e k hu hz;split at h
 case h_2=>cases h
 rename_i j zs n hj ac;rw[bA] at h;split at h
 case isFalse=>cases h
 rename_i hb;simp only[bA_,nE_,Nat.beq_eq,bK] at hb;obtain⟨E,M,F,Q,K⟩:=hb;obtain⟨i,zv,R,hzero,W⟩:=gp ac;rw[hj] at R;cases R;have G:zv.cells.size=zs.length:=by have:=(W S).length;simpa using this
 have hts:=ki (W S) n
 have C:(Builtin.zeroCells zv.cells n).toList=(List.replicate n zv.cells.toList).flatten:=by
  have:=vw zv.cells n B;unfold Builtin.zeroCells;rw[this]
 rw[<-C] at hts;have X:(fp zs n).length=n*j.size:=by rw[nO,K]
 simp only[H] at hx;subst hx;split at h
 ·simp only[H] at hs;subst hs;unfold grow at h;cases h;obtain⟨cap,A,hr⟩:=oh (w:=w) (ty:=ty) (base:=none) (sLen:=0) (sCap:=0) (olds:=[]) ht hu hj hzero L hz (by simp[Builtin.firstCells]) B B E M Q F;rw[nA_] at A hr;obtain⟨inv,st,hv⟩:=mH (e:=e) hi (olds:=[]) (news:=(Builtin.zeroCells zv.cells n).toList) (by simpa using hts) X A (G.trans K);exact⟨_,_,_,hr,hv,inv,st⟩
 ·rename_i b off len c;simp only[H] at hs;obtain⟨l,hl,rfl⟩:=hs;rw[bA] at h;split at h
  ·cases h
  rename_i aa;rw[nE_] at aa;split at h
  ·rename_i cells e' ro hb;rw[bA] at h;split at h
   ·rename_i u;simp only[bA_,nE_,bK] at u;obtain⟨u,ab⟩:=u;unfold grow at h;cases h;obtain⟨ys,h1,h2,h3⟩:=hi.piece hb hl off (len*j.size) u
    have hold:(Builtin.firstCells j.size len (.slice (some ⟨l.dE,l.sh+off,none⟩) len c)).run P w.drew= .ok ys.toArray w.drew:=
     run_firstCells_some w.drew j.size len _ len c ys h1 (fun i v hv=>by simpa using h3 i v hv)
    obtain⟨cap,A,hr⟩:=oh (w:=w) (ty:=ty) ht hu hj hzero L hz hold B B E M Q F
    obtain⟨inv,st,hv⟩:=mH (e:=e) hi (olds:=ys) (news:=(Builtin.zeroCells zv.cells n).toList) (len:=len+n) (cs:=ie (takeN (dS cells off) (len*j.size))<|fp zs n)
     (by rw[dV,du,dO];exact h2.append hts) (by rw[dV,du,dO,lA_,lT_,lD_,X,Nat.add_mul];omega) A (G.trans K)
    exact⟨_,_,_,hr,hv,inv,st⟩
   cases h
  cases h
 cases h
end
section
variable {P:Program} {S:dh} {U:D} {w:World}
theorem Dp (hi:Inv S U w) {ts:Array TypeId} {ty:TypeId} {s x v:V} {ys yx:Value} {U':D} (h:rE P U ts s x= .val v U') (K:H S s ys) (hx:H S x yx):
  ∃z w' S',(Builtin.copy_ ts ty #[ys,yx]).run P w= .ok z w'/\H S' v z/\Inv S' U' w'/\eY S U w S' U' w':=by
 unfold rE at h;cases Q:ts[0]? with
 | none=>rw[Q] at h;cases h
 | some t=>
 rw[Q] at h;dsimp only at h;split at h
 case h_2=>cases h
 rename_i e hu;cases hj:P.info? e with
 | none=>rw[hj] at h;cases h
 | some j=>
 rw[hj] at h;dsimp only at h;split at h
 ·rename_i n news b off len cap E;obtain⟨u,M,C⟩:=pg (P:=P) hi E hx;obtain⟨xs,L,A⟩:=C (Nat.min n len) (Nat.min_le_left _ _);simp only[bA] at h;split at h
  ·rename_i h0;rw[Nat.beq_eq] at h0;cases h;rw[h0,Nat.zero_mul] at L;rw[h0] at A;have R:xs= []:=by have:=L.length;simpa using this
   subst R;obtain⟨a,c,rfl⟩:=H.jI K;have hr:=A w Z;refine⟨.int .i64 0,w,S,?_,by simp only[H],hi,eY.refl _ _ _⟩;simp[Builtin.copy_,Q,run_underlying hu,u,cw hj,h0,hr,goInt,storeCells]
  rename_i h0;rw[Nat.beq_eq] at h0;split at h
  ·rename_i cells e' hb;split at h
   ·rename_i hc;simp only[bA_,nE_,bK] at hc;obtain⟨⟨F,aa⟩,G⟩:=hc;cases h;rw[du] at G F
    have go:∀(l:Loc) (c:Nat),S b=some l->ys= .slice (some ⟨l.dE,l.sh+off,none⟩) len c->
      ∃z w' S',(Builtin.copy_ ts ty #[ys,yx]).run P w= .ok z w'/\H S' (.int .i64<|Int.ofNat<|Nat.min n len) z/\
       Inv S' (U.setObj b (.row (dG (takeN news (Nat.min n len*j.size)) cells off) e' false)) w'/\eY S U w S' (U.setObj b (.row (dG (takeN news (Nat.min n len*j.size)) cells off) e' false)) w':=by
     intro l c hl hy;rw[du];obtain⟨w',r,inv,st⟩:=jb (P:=P) hi hl hb L F (off:=off) G;refine⟨.int .i64<|Int.ofNat<|Nat.min n len,w',S,?_,by simp only[H],inv,st⟩;subst hy;have hr:=A w Z;simp[Builtin.copy_,Q,run_underlying hu,u,cw hj,hr,r,goInt]
    cases cap with
    | known c=>
     simp only[H] at K;obtain⟨l,hl,hy⟩:=K;exact go l c hl hy
    | least a sz=>
     simp only[H] at K;obtain⟨l,hl,c,hy,_⟩:=K;exact go l c hl hy
    | upto sz=>
     simp only[H] at K;obtain⟨l,hl,⟨c,hy,_⟩ | ⟨W,a,hy⟩⟩:=K
     ·exact go l c hl hy
     subst W;exact absurd (Nat.min_zero n) h0
   cases h
  cases h
 ·rename_i n news E;cases h;obtain⟨u,M,C⟩:=pg (P:=P) hi E hx;obtain⟨xs,L,A⟩:=C 0 (Nat.zero_le _);simp only[H] at K;subst K;refine⟨.int .i64 0,w,S,?_,by simp only[H],hi,eY.refl _ _ _⟩;have hr:=A w Z;simp[Builtin.copy_,Q,run_underlying hu,u,cw hj,hr,goInt]
 cases h
theorem Bs (hi:Inv S U w) {ts:Array TypeId} {ty:TypeId} {x:V} {ys:Value} {U':D} (h:zJ P U ts x=some U') (u:H S x ys):
  ∃w',(Builtin.clear_ ts ty #[ys]).run P w= .ok (.tuple #[]) w'/\Inv S U' w'/\eY S U w S U' w':=by
 unfold zJ at h;cases E:ts[0]? with
 | none=>rw[E] at h;cases h
 | some t=>
 rw[E] at h;dsimp only at h;cases hu:P.underlying t with
 | none=>rw[hu] at h;cases h
 | some d=>
 rw[hu] at h;cases d with
 | slice e=>
  dsimp only at h;cases x with
  | ax=>
   cases h;simp only[H] at u;subst u;exact⟨w,by simp[Builtin.clear_,E,run_underlying hu],hi,eY.refl _ _ _⟩
  | slice b off len cap=>
   dsimp only at h;rw[bA] at h;split at h
   ·rename_i h0;have:=nB h0;subst this;cases h;obtain⟨a,c,rfl⟩:=H.jI u;exact⟨w,by simp[Builtin.clear_,E,run_underlying hu],hi,eY.refl _ _ _⟩
   rename_i h0;rw[Nat.beq_eq] at h0;cases G:(fB P e).bind cS with
   | none=>rw[G] at h;cases h
   | some zs=>
   rw[G] at h;cases hb:U.m.get b with
   | none=>rw[hb] at h;cases h
   | some o=>
   rw[hb] at h;cases o with
   | row cells e' ro=>
    cases ro with
    | true=>cases h
    | false=>
     dsimp only at h;rw[bA] at h;split at h
     ·rename_i hc;simp only[bA_,nE_,bK] at hc;obtain⟨⟨A,aa⟩,C⟩:=hc;cases h;obtain⟨i,zv,K,hzero,F⟩:=gp G;have hts:=ki (F S) len;have ab:zv.cells.size=zs.length:=by have:=(F S).length;simpa using this
      have z:(Builtin.zeroCells zv.cells len).toList=(List.replicate len zv.cells.toList).flatten:=by
       have:=vw zv.cells len B;unfold Builtin.zeroCells;rw[this]
      have go:∀(l:Loc) (c:Nat),S b=some l->ys= .slice (some ⟨l.dE,l.sh+off,none⟩) len c->
        ∃w',(Builtin.clear_ ts ty #[ys]).run P w= .ok (.tuple #[]) w'/\Inv S (U.setObj b (.row (dG (fp zs len) cells off) e' false)) w'/\eY S U w S (U.setObj b (.row (dG (fp zs len) cells off) e' false)) w':=by
       intro l c hl hy;subst hy;obtain⟨w',r,inv,st⟩:=jb (P:=P) hi hl hb hts A C;refine⟨w',?_,inv,st⟩;cases len with
       | zero=>exact absurd Z h0
       | succ n=>simp[Builtin.clear_,E,run_underlying hu,zeroValue,typeInfo,K,hzero,z,r]
      cases cap with
      | known c=>
       simp only[H] at u;obtain⟨l,hl,rfl⟩:=u;exact go l c hl Z
      | upto sz=>
       simp only[H] at u;obtain⟨l,hl,⟨c,rfl,_⟩ | ⟨h',_⟩⟩:=u
       ·exact go l c hl Z
       exact absurd h' h0
      | least a sz=>
       simp only[H] at u;obtain⟨l,hl,c,rfl,_⟩:=u;exact go l c hl Z
     cases h
   | _=>cases h
  | _=>cases h
 | _=>cases h
theorem DP {g:Nat} {args:Array Value} (h:zV P g=true):(callFunc g args).run P w= .ok (.enter g args) w:=by
 unfold zV at h;cases hf:P.funcs[g]? with
 | none=>rw[hf] at h;cases h
 | some fn=>
  rw[hf] at h;simp only[bA_,Bool.not_eq_true'] at h;obtain⟨h1,h2⟩:=h;have A:fn.body.isNone=false:=by cases hb:fn.body<;>simp_all
  have u:¬fn.name= "runtime.NumGoroutine" :=by simpa using h2
  have z:¬fn.body=none:=by intro e;rw[e] at A;cases A
  simp[callFunc,hf,u,z]
inductive xW (P:Program) (S:dh) (U:D) (w:World):HR->Result Next->Prop
 | val {v:V} {U':D} {x:Value} {w':World} {S':dh} (hv:H S' v x) (hi:Inv S' U' w') (st:eY S U w S' U' w'):xW P S U w (.val v U') (.ok (.value x) w')
 | skip {U':D} {w':World} {S':dh} (hi:Inv S' U' w') (st:eY S U w S' U' w'):xW P S U w (.skip U') (.ok .skip w')
 | enter {f:Nat} {args:List V} {xs:Array Value} (hv:dp S args xs.toList):xW P S U w (.enter f args U) (.ok (.enter f xs) w)
 | round {l:Pos} {args:List V} {xs:Array Value} {loc:Loc} {r:Result Next} (hv:dp S args xs.toList) (hl:S l=some loc) (hr:r=(Instr.yield loc.dE xs).run P w):xW P S U w (.round l args U) r
 | mO {v:V} {x:Value} (hv:H S v x):xW P S U w (.mO v U) (.halt (.panic x) w)
def O4 (P:Program) (g:Nat):Prop:=∃(fn:Func) (ts tr e:TypeId) (j:TypeInfo),P.funcs[g]?=some fn∧(fn.name == "runtime.NumGoroutine")=false∧fn.body.isNone=true∧Extern.findNext fn=none∧
 Extern.find fn=some (Extern.SlicesOverlaps.overlaps #[ts,ts] #[tr])/\P.underlying ts=some (.slice e)/\P.info? e=some j
def Qb (P:Program) (g:Nat):Prop:=∃(fn:Func),P.funcs[g]?=some fn∧(fn.name == "runtime.NumGoroutine")=false∧fn.body.isNone=true∧Extern.findNext fn=none∧Extern.find fn=some Extern.AbiNoEscape.same
def rR (P:Program) (g:Nat):Prop:=(isNe P g=false/\O4 P g)∨(isNe P g=true/\Qb P g)
theorem pe (p:Pos):kg p p=true:=Nat.beq_refl p
theorem H.uV {b:Pos} {off len:Nat} {cap:pH} {x:Value} (hc:lk cap=true) (h:H S (.slice b off len cap) x):∃l c,S b=some l/\x= .slice (some ⟨l.dE,l.sh+off,none⟩) len c:=by
 cases cap with
 | upto sz=>simp[lk] at hc
 | known c=>simp only[H] at h;obtain⟨l,h1,rfl⟩:=h;exact⟨l,c,h1,Z⟩
 | least a sz=>simp only[H] at h;obtain⟨l,h1,c,rfl,_⟩:=h;exact⟨l,c,h1,Z⟩
theorem w4 (hi:Inv S U w) {g:Nat} {args:List V} {xs:Array Value} {v:V} (R:O4 P g) (h:oc U args=some v) (hx:dp S args xs.toList):∃x,(callFunc g xs).run P w= .ok (.value x) w/\H S v x:=by
 obtain⟨fn,ts,tr,e,j,g1,g2,W,X,g5,g6,g7⟩:=R;unfold oc at h;split at h
 ·rename_i b off n cap b' off' n' cap';split at h
  ·rename_i cells e1 cells' e2 hb u;cases hc:((bif kg b b' then false else true) && (lk cap && (lk cap' && Nat.ble 1 (cX cells')))) with
   | false=>rw[hc] at h;cases h
   | true=>
    rw[hc] at h;simp only[cond_true,oJ_] at h;subst h;simp only[bA_,nE_,bK] at hc;obtain⟨z,F,G,hlen⟩:=hc;have A:b≠b':=fun e=>by subst e;rw[pe] at z;simp at z
    obtain⟨x1,r,e',h1,h2⟩:=hx.cons_inv;obtain⟨x2,r',rfl,h3,h4⟩:=h2.cons_inv;have:=h4.eQ;subst this;obtain⟨l,c,hl,rfl⟩:=H.uV F h1;obtain⟨l',c',C,rfl⟩:=H.uV G h3;have K:xs= #[.slice (some ⟨l.dE,l.sh+off,none⟩) n c,.slice (some ⟨l'.dE,l'.sh+off',none⟩) n' c']:=by rw[<-Array.toList_inj];exact e'
    obtain⟨k,fr,L,k2,k3,k4,Q⟩:=hi.row hb hl;obtain⟨k',fr',M,aa,ab,ac,am⟩:=hi.row u C
    have E:l.dE≠l'.dE:=fun e=>by
     have:=(hi.inj b b' _ _ l l' hb u hl C e A).1;cases this
    refine⟨.bool false,?_,by simp only[H]⟩;rw[run_callFunc_extern g1 g2 W X g5,K]
    rw[Lib.run_overlaps_apart w ts tr e g6 j.size (fun w=>cw g7) ⟨l.dE,l.sh+off,none⟩ ⟨l'.dE,l'.sh+off',none⟩ n c n' c' E e1 e2 k.size k'.size
     (by simp[World.shape?,L]) (by simp[World.shape?,M]) B (frozen?_of_heap L _<|Q Z _ B) (frozen?_of_heap L _<|Q Z _ B)]
    rfl
  cases h
 cases h
theorem HN {ov:Nat->Bool} (K:∀g,ov g=true->rR P g) (hi:Inv S U w) {g:V} {args:List V} {y:Value} {xs:Array Value} {r:HR} (h:yA P ov U g args=r) (u:∀n,r≠ .err n) (E:H S g y) (hx:dp S args xs.toList):
  xW P S U w r ((do let d <-Deferred.ofValue y xs;invoke d.target d.args:Sem Next).run P w):=by
 subst h;unfold yA at u⊢;cases g with
 | func f fi ca=>
  dsimp only at u⊢;cases G:zV P f with
  | false=>
   rw[G] at u;simp only[cond_false] at u⊢;cases M:ov f with
   | false=>rw[M] at u;exact absurd Z<|u 50
   | true=>
    rw[M] at u;simp only[cond_true] at u⊢;cases hn:isNe P f with
    | true=>
     rw[hn] at u;simp only[cond_true] at u⊢;simp only[H] at E;obtain⟨fi',ca',rfl,z,A⟩:=E;have F:dp S (ie fi<|ie args ca) (fi'++xs++ca').toList:=by rw[dV,dV];simpa using z.append (hx.append A)
     generalize ie fi (ie args ca)=l at u F⊢;cases l with
     | nil=>exact absurd Z (u 53)
     | cons v r=>
      cases r with
      | cons _ _=>exact absurd Z (u 53)
      | nil=>
       dsimp only;obtain⟨x,r',e,h1,h2⟩:=F.cons_inv;have:=h2.eQ;subst this;have Q:fi'++xs++ca'= #[x]:=by rw[<-Array.toList_inj];exact e
       rcases K f M with ⟨h',_⟩ | ⟨_,fn,g1,g2,W,X,g5⟩
       ·rw[hn] at h';cases h'
       have C:(callFunc f (fi'++xs++ca')).run P w= .ok (.value x) w:=by
        rw[run_callFunc_extern g1 g2 W X g5,Q,Lib.run_noEscape];rfl
       have:(do let d <-Deferred.ofValue (.func (.func f) fi' ca') xs;invoke d.target d.args:Sem Next).run P w= .ok (.value x) w:=by
        simp only[Array.append_assoc] at C;simp[Deferred.ofValue,invoke,C]
       rw[this];exact .val h1 hi<|eY.refl S U w
    | false=>
    rw[hn] at u;simp only[cond_false] at u⊢
    have L:O4 P f:=by
     rcases K f M with ⟨_,h'⟩ | ⟨h',_⟩
     ·exact h'
     rw[hn] at h';cases h'
    cases hq:oc U (ie fi<|ie args ca) with
    | none=>rw[hq] at u;exact absurd Z<|u 52
    | some v=>
     simp only[H] at E;obtain⟨fi',ca',rfl,z,A⟩:=E;obtain⟨x,C,R⟩:=w4 (xs:=fi'++xs++ca') hi L hq (by rw[dV,dV];simpa using z.append (hx.append A))
     have:(do let d <-Deferred.ofValue (.func (.func f) fi' ca') xs;invoke d.target d.args:Sem Next).run P w= .ok (.value x) w:=by
      simp only[Array.append_assoc] at C;simp[Deferred.ofValue,invoke,C]
     rw[this];exact .val R hi<|eY.refl S U w
  | true=>
   rw[G] at u;simp only[H] at E;obtain⟨fi',ca',rfl,z,A⟩:=E;simp only[cond_true]
   have:(do let d <-Deferred.ofValue (.func (.func f) fi' ca') xs;invoke d.target d.args:Sem Next).run P w= .ok (.enter f (fi'++xs++ca')) w:=by
    simp[Deferred.ofValue,invoke,DP G]
   rw[this,dV,dV];exact .enter (by simpa using z.append (hx.append A))
 | yield l=>
  dsimp only at u⊢;simp only[H] at E;obtain⟨loc,hl,rfl⟩:=E;exact .round hx hl (by simp[Deferred.ofValue,invoke])
 | _=>exact absurd Z (u 51)
end
section
variable {P:Program} {S:dh} {U:D} {w:World}
def mP:TypeDesc->Bool
 | .int _ | .string | .bool=>true
 | _=>false
def F5 (P:Program) (u:TypeId):Prop:=(∃d,P.underlying u=some d/\mP d=true)∨(∃gs,P.underlying u=some (.struct gs)/\∀g∈gs.toList,∃d,P.underlying g.type=some d/\mP d=true)∨∃m e,P.underlying u=some (.array m e)/\sd P e=true
theorem qi {t:TypeId} (h:plainKey P t=true):(∃d,P.underlying t=some d/\mP d=true)∨∃fs,P.underlying t=some (.struct fs)/\∀f∈fs.toList,F5 P f.type:=by
 unfold plainKey at h;split at h
 ·rename_i k hu;exact .inl ⟨_,hu,Z⟩
 ·rename_i hu;exact .inl ⟨_,hu,Z⟩
 ·rename_i hu;exact .inl ⟨_,hu,Z⟩
 ·rename_i fs hu;refine .inr ⟨fs,hu,fun f hf=>?_⟩;rw[aE_] at h;have:=h f hf;split at this
  ·rename_i k u;exact .inl ⟨_,u,Z⟩
  ·rename_i u;exact .inl ⟨_,u,Z⟩
  ·rename_i u;exact .inl ⟨_,u,Z⟩
  ·rename_i gs u;refine .inr (.inl ⟨gs,u,fun g A=>?_⟩);rw[aE_] at this;have:=this g A;split at this
   ·rename_i k z;exact⟨_,z,Z⟩
   ·rename_i z;exact⟨_,z,Z⟩
   ·rename_i z;exact⟨_,z,Z⟩
   cases this
  ·rename_i m e u;exact .inr (.inr ⟨m,e,u,this⟩)
  cases this
 cases h
theorem jU {t:TypeId} {d:TypeDesc} (hu:P.underlying t=some d) (u:mP d=true) (em:Bool) (n:Nat) (a:Value):(Instr.checkKey em (n+1) t a).run P w= .ok () w:=by
 simp only[Instr.checkKey,sB_,run_underlying hu,rA];cases d<;>first | (simp[mP] at u;done) | rfl
theorem rD {t:TypeId} {fs:Array Field} {ys:Array Value} (hu:P.underlying t=some (.struct fs)) (em:Bool) (n:Nat)
  (h:∀f∈fs.toList,∃y,(part f.type ys f.offset).run P w= .ok y w/\(Instr.checkKey em (n+1) f.type y).run P w= .ok () w):(Instr.checkKey em (n+1+1) t (.agg ys)).run P w= .ok () w:=by
 rw[Instr.checkKey];simp only[sB_,run_underlying hu,rA];rw[<-Array.forIn_toList];clear hu;generalize fs.toList=l at*;induction l with
 | nil=>simp
 | cons f l ih=>
  obtain⟨y,u,z⟩:=h f (by simp);have ih':=ih (fun g A=>h g (by simp[A]));simp only[List.forIn_cons,sB_,Sem.run_ite];split
  ·simp only[u,rA,z,sP_];exact ih'
  simp only[sP_,rA];exact ih'
theorem x6 {t e:TypeId} {m:Nat} {cs:Array Value} {i:TypeInfo} {k:IntKind} (hu:P.underlying t=some (.array m e)) (he:P.underlying e=some (.int k)) (hi:P.info? e=some i) (u:i.size=1) (hl:m<=cs.size) (em:Bool) (n:Nat):
  (Instr.checkKey em (n+1+1) t (.agg cs)).run P w= .ok () w:=by
 rw[Instr.checkKey];simp only[sB_,run_underlying hu,rA];simp only[Std.Legacy.Range.forIn_eq_forIn_range',Std.Legacy.Range.size,Nat.sub_zero,Nat.add_one_sub_one,Nat.div_one]
 have key:∀(l:Nat) (s:Nat),s+l<=cs.size->(forIn (List.range' s l) PUnit.unit fun i (_:PUnit)=>(do
   let z <-sizeOf e
   let v <-part e cs (i*z)
   Instr.checkKey em (n+1) e v
   pure (ForInStep.yield PUnit.unit):Sem (ForInStep PUnit))).run P w= .ok PUnit.unit w:=by
  intro l;induction l with
  | zero=>intro s _;simp
  | succ l ih=>
   intro s aa;have hv:cs[s]?=some cs[s]:=aG_ B
   have p:(part e cs (s*1)).run P w= .ok cs[s] w:=by
    rw[Nat.mul_one];simp only[part,sB_,ff he,A0,rA,Bool.false_eq_true,if_false,hv,sP_]
   simp only[List.range'_succ,List.forIn_cons,sB_,cw hi,u,p,rA,jU he Z,sP_];exact ih (s+1) B
 have:=key m 0 B;simp at this⊢;simp[this]
theorem pC {u:TypeId} {d:TypeDesc} (hu:P.underlying u=some d) (C:mP d=true) {xs:List V} {ys:Array Value} (z:dp S xs ys.toList) {off:Nat} (E:(nth xs off).isSome=true):∃y,(part u ys off).run P w= .ok y w:=by
 obtain⟨v,hv⟩:=Option.isSome_iff_exists.1 E;rw[eF] at hv;obtain⟨y,hy,_⟩:=z.get hv;have hy':ys[off]?=some y:=by rw[<-aT_];exact hy
 have A:A0 d=false:=by cases d<;>first | rfl | (simp[mP] at C)
 exact⟨y,by simp only[part,sB_,ff hu,A,rA,Bool.false_eq_true,if_false,hy',sP_]⟩
theorem my {t:TypeId} {k:V} {a:Value} (hp:plainKey P t=true) (G:mI P t k=true) (hk:H S k a) (em:Bool):(Instr.checkKey em 10000 t a).run P w= .ok () w:=by
 rcases qi hp with ⟨d,hu,X⟩ | ⟨fs,hu,L⟩
 ·exact jU hu X em 9999 a
 unfold mI at G;rw[hu] at G;cases k<;>(try (simp at G;done));rename_i xs;dsimp only at G;simp only[H] at hk;obtain⟨ys,rfl,C⟩:=hk;refine rD hu em 9998 fun f hf=>?_
 rw[aE_] at G;have hsf:=G f hf;rcases L f hf with ⟨d,u,E⟩ | ⟨gs,u,M⟩ | ⟨m,e,u,Q⟩
 ·have:(nth xs f.offset).isSome=true:=by
   rw[u] at hsf;cases d<;>first | exact hsf | (simp[mP] at E)
  obtain⟨y,hy⟩:=pC (P:=P) (w:=w) u E C this;exact⟨y,hy,jU u E em 9998 y⟩
 ·rw[u] at hsf;dsimp only at hsf;split at hsf
  ·rename_i n F;obtain⟨c,r,v⟩:=ik (P:=P) (w:=w) F C (off:=f.offset);refine⟨.agg c,r,rD u em 9997 fun g W=>?_⟩;rw[aE_] at hsf;obtain⟨d,z,A⟩:=M g W;obtain⟨y,hy⟩:=pC (P:=P) (w:=w) z A v (hsf g W);exact⟨y,hy,jU z A em 9997 y⟩
  cases hsf
 rw[u] at hsf;dsimp only at hsf;split at hsf
 ·rename_i n F;rw[bA_,Nat.beq_eq,Nat.beq_eq,bK] at hsf;obtain⟨k,inf,he,K,R⟩:=wN Q;obtain⟨c,r,v⟩:=ik (P:=P) (w:=w) F C (off:=f.offset);have hcl:=v.length;exact⟨.agg c,r,x6 u he K R (by rw[hsf.2] at hcl;have:c.toList.length=c.size:=rfl;omega) em 9997⟩
 cases hsf
theorem GN {t:TypeId} {d:TypeDesc} (hu:P.underlying t=some d) (C:mP d=true) {x y:V} {a c:Value} {b:Bool} (h:py P t x y=some b) (hx:H S x a) (hy:H S y c):Instr.sameNow d a c=some b:=by
 unfold py at h;rw[hu] at h;split at h
 ·rename_i u z A q j m k n e;cases e;cases hk:r9 j k with
  | false=>rw[hk] at h;cases h
  | true=>
   rw[hk] at h;have:=pR hk;subst this;simp only[H] at hx hy;subst hx;subst hy;simp only[cond_true,oJ_] at h;rw[<-h,dF];simp only[Instr.sameNow,if_true,oJ_]
   by_cases e:m=n<;>simp[e]
 ·rename_i u z A s s' e;cases e;simp only[H] at hx hy;obtain⟨p,rfl,hp⟩:=hx;obtain⟨q,rfl,hq⟩:=hy;cases h;simp only[Instr.sameNow,oJ_];rw[ou hp hq,beq_toListBytes]
 ·rename_i u z A s s' e;cases e;simp only[H] at hx hy;subst hx;subst hy;cases h;simp only[Instr.sameNow,oJ_,mz]
 ·rename_i u z A fs xs ys e;cases e;simp[mP] at C
 cases h
theorem DU {t:TypeId} {fs:Array Field} (hu:P.underlying t=some (.struct fs)) {x y:V} {a c:Value} {b:Bool} (h:py P t x y=some b) (hx:H S x a) (hy:H S y c):(Op.equal t a c).run P w= .ok b w:=by
 unfold py at h;rw[hu] at h;split at h
 ·rename_i e;cases e
 ·rename_i e;cases e
 ·rename_i e;cases e
 ·exact(pS (P:=P) (w:=w) h hx hy .eql (.const .nilFunc) (.const .nilFunc)).2
 cases h
def C3 (S:dh):Option (Nat×V)->Option (Nat×Value)->Prop
 | none,none=>True
 | some (i,v),some (j,y)=>i=j/\H S v y
 | _,_=>False
theorem rH {t:TypeId} {d:TypeDesc} (hu:P.underlying t=some d) (u:mP d=true) {k:V} {a:Value} (hk:H S k a):∀(es:List fC) (ys:List MapEntry) (i:Nat) (r:Option (Nat×V)),jM S es ys->pr P t k es i=some r->
  ∃r',Instr.findNow d a ys i=some r'/\C3 S r r'
 | [],ys,i,r,he,h=>by
  have:ys= []:=he;subst this;have h':some none=some r:=h;cases h';exact⟨none,Z,trivial⟩
 | e::es,ys,i,r,he,h=>by
  obtain⟨y,rest,rfl,h1,h2,h3,h4⟩:=he
  have h':(match py P t k e.key with
   | some true=>some (some (i,e.val))
   | some false=>pr P t k es (Nat.succ i)
   | none=>none)=some r:=h
  cases hq:py P t k e.key with
  | none=>rw[hq] at h';cases h'
  | some b=>
   rw[hq] at h';have hs:=GN hu u hq hk h1;cases b with
   | true=>cases h';exact⟨some (i,y.val),by simp[Instr.findNow,hs],Z,h2⟩
   | false=>
    obtain⟨r',g1,g2⟩:=rH hu u hk es rest (i+1) r h4 h';exact⟨r',by simp[Instr.findNow,hs,g1],g2⟩
theorem rG {t:TypeId} {fs:Array Field} (hu:P.underlying t=some (.struct fs)) {k:V} {a:Value} (hk:H S k a):∀(es:List fC) (ys:List MapEntry) (i:Nat) (r:Option (Nat×V)),jM S es ys->pr P t k es i=some r->
  ∃r',(Instr.findAsking t a ys i).run P w= .ok r' w/\C3 S r r'
 | [],ys,i,r,he,h=>by
  have:ys= []:=he;subst this;have h':some none=some r:=h;cases h';exact⟨none,Z,trivial⟩
 | e::es,ys,i,r,he,h=>by
  obtain⟨y,rest,rfl,h1,h2,h3,h4⟩:=he
  have h':(match py P t k e.key with
   | some true=>some (some (i,e.val))
   | some false=>pr P t k es (Nat.succ i)
   | none=>none)=some r:=h
  cases hq:py P t k e.key with
  | none=>rw[hq] at h';cases h'
  | some b=>
   rw[hq] at h';have hs:=DU (w:=w) hu hq hk h1;cases b with
   | true=>cases h';exact⟨some (i,y.val),by simp[Instr.findAsking,hs],Z,h2⟩
   | false=>
    obtain⟨r',g1,g2⟩:=rG hu hk es rest (i+1) r h4 h';exact⟨r',by simp[Instr.findAsking,hs,g1],g2⟩
theorem mC {t:TypeId} (hp:plainKey P t=true) {k:V} {a:Value} (hk:H S k a) {es:List fC} {ys:List MapEntry} {r:Option (Nat×V)} (he:jM S es ys) (h:pr P t k es 0=some r):
  ∃r',(Instr.findKey t a ys).run P w= .ok r' w/\C3 S r r':=by
 rcases qi hp with ⟨d,hu,u⟩ | ⟨fs,hu,aa⟩
 ·obtain⟨r',h1,h2⟩:=rH hu u hk es ys 0 r he h;exact⟨r',by simp[Instr.findKey,run_underlying hu,h1],h2⟩
 cases hn:Instr.findNow (.struct fs) a ys 0 with
 | none=>
  obtain⟨r',h1,h2⟩:=rG (w:=w) hu hk es ys 0 r he h;exact⟨r',by simp[Instr.findKey,run_underlying hu,hn,h1],h2⟩
 | some r0=>
  cases es with
  | nil=>
   have:ys= []:=he;subst this;have h':some none=some r:=h;cases h';exact⟨none,by simp[Instr.findKey,run_underlying hu,Instr.findNow],trivial⟩
  | cons e es=>
   obtain⟨y,rest,rfl,h1,_⟩:=he;have:Instr.sameNow (.struct fs) a y.key=none:=by simp[Instr.sameNow]
   simp[Instr.findNow,this] at hn
theorem jM.length:∀{es:List fC} {ys:List MapEntry},jM S es ys->ys.length=es.length
 | [],ys,h=>by have:ys= []:=h;rw[this];rfl
 | e::es,ys,h=>by obtain⟨y,r,rfl,_,_,_,h4⟩:=h;simp[h4.length]
theorem jM.get:∀{es:List fC} {ys:List MapEntry},jM S es ys->∀{i:Nat} {e:fC},es[i]?=some e->∃y,ys[i]?=some y/\H S e.key y.key/\H S e.val y.val/\y.born=e.born
 | [],ys,h,i,e,he=>by simp at he
 | e::es,ys,h,0,e',he=>by
  obtain⟨y,r,rfl,h1,h2,u,h4⟩:=h;simp at he;subst he;exact⟨y,Z,h1,h2,u⟩
 | e::es,ys,h,i+1,e',he=>by
  obtain⟨y,r,rfl,h1,h2,u,h4⟩:=h;simp at he;simpa using h4.get he
theorem jM.append:∀{es fs:List fC} {ys zs:List MapEntry},jM S es ys->jM S fs zs->jM S (es++fs) (ys++zs)
 | [],fs,ys,zs,h,h'=>by have:ys= []:=h;subst this;exact h'
 | e::es,fs,ys,zs,h,h'=>by
  obtain⟨y,r,rfl,h1,h2,u,h4⟩:=h;exact⟨y,r++zs,Z,h1,h2,u,h4.append h'⟩
theorem jM.set:∀{es:List fC} {ys:List MapEntry},jM S es ys->∀(i:Nat) {e:fC} {y:MapEntry},H S e.key y.key->H S e.val y.val->y.born=e.born->jM S (es.set i e) (ys.set i y)
 | [],ys,h,i,_,_,_,_,_=>by have:ys= []:=h;subst this;simp[jM]
 | e::es,ys,h,0,_,_,u,k2,z=>by
  obtain⟨y,r,rfl,h1,h2,A,h4⟩:=h;exact⟨_,r,Z,u,k2,z,h4⟩
 | e::es,ys,h,i+1,_,_,u,k2,z=>by
  obtain⟨y,r,rfl,h1,h2,A,h4⟩:=h;exact⟨y,_,Z,h1,h2,A,h4.set i u k2 z⟩
theorem jM.erase:∀{es:List fC} {ys:List MapEntry},jM S es ys->∀(i:Nat),jM S (es.eraseIdx i) (ys.eraseIdx i)
 | [],ys,h,i=>by have:ys= []:=h;subst this;simp[jM]
 | e::es,ys,h,0=>by obtain⟨y,r,rfl,h1,h2,u,h4⟩:=h;exact h4
 | e::es,ys,h,i+1=>by
  obtain⟨y,r,rfl,h1,h2,u,h4⟩:=h;exact⟨y,_,Z,h1,h2,u,h4.erase i⟩
theorem Inv.wW (hi:Inv S U w) {b:Pos} {l:Loc} {es:List fC} {clock:Nat} (u:U.m.get b=some (.map es clock)) (hl:S b=some l):∃es',w.heap[l.dE]?=some (.map es' clock)/\jM S es es'.toList:=by
 obtain⟨x,hx,es',rfl,h2⟩:=hi.obj b _ l u hl;exact⟨es',hx,h2⟩
theorem run_getObj_map {r clock:Nat} {es:Array MapEntry} (h:w.heap[r]?=some (.map es clock)):(getObj r).run P w= .ok (.map es clock) w:=by
 simp[getObj,Sem.run,h]
theorem zZ (hi:Inv S U w) {ev:Operand->Option V} {f:Operand->Value} {t:TypeId} {x i:Operand} {ok:Bool} {v:V} (hx:∀u,ev x=some u->H S u (f x)) (hk:∀u,ev i=some u->H S u (f i))
  (h:gW P ev U (.lookup t x i ok)=some v):∃z,(Instr.lookup t (f x) (f i) ok).run P w= .ok z w/\H S v z:=by
 simp only[gW] at h;split at h
 ·rename_i kt et k hu L;simp only[bA] at h;split at h
  ·rename_i G;rw[bA_] at G;obtain⟨hp,M⟩:=G;have hkv:=hk _ L
   have main:∀(es:List fC) (ys:Array MapEntry),jM S es ys.toList->
     (match pr P kt k es 0,fB P et with
      | some (some (_,v)),some _=>some (if ok=true then V.tuple [v,.bool true] else v)
      | some none,some z=>some (if ok=true then V.tuple [z,.bool false] else z)
      | _,_=>none)=some v->
     (Instr.checkKey ys.isEmpty 10000 kt<|f i).run P w= .ok () w/\∃r',(Instr.findKey kt (f i) ys.toList).run P w= .ok r' w/\
      ((∃j y,r'=some (j,y)/\H S v (if ok=true then .tuple #[y,.bool true] else y))∨
       (r'=none/\∃xz,(zeroValue et).run P w= .ok xz w/\H S v (if ok=true then .tuple #[xz,.bool false] else xz))):=by
    intro es ys he C;have hck:=my (w:=w) hp M hkv ys.isEmpty;cases hf:pr P kt k es 0 with
    | none=>rw[hf] at C;cases C
    | some r=>
     obtain⟨r',g1,g2⟩:=mC (w:=w) hp hkv he hf;cases E:fB P et with
     | none=>rw[hf,E] at C;cases r<;>cases C
     | some zz=>
      rw[hf,E] at C;obtain⟨iz,xz,Q,hzero,K⟩:=qC E;cases r with
      | some p=>
       obtain⟨j,u⟩:=p;cases r' with
       | none=>exact g2.elim
       | some q=>
        obtain⟨j',y⟩:=q;obtain⟨_,hy⟩:=g2;refine⟨hck,_,g1,.inl ⟨j',y,Z,?_⟩⟩;cases C;cases ok with
        | true=>
         simp only[if_true,H];exact⟨_,Z,dp.cons hy<|dp.cons (by simp only[H]) dp.nil⟩
        | false=>simpa using hy
      | none=>
       cases r' with
       | some q=>exact g2.elim
       | none=>
        have R:(zeroValue et).run P w= .ok xz w:=by simp[zeroValue,typeInfo,Q,hzero]
        refine⟨hck,_,g1,.inr ⟨Z,xz,R,?_⟩⟩;cases C;cases ok with
        | true=>
         simp only[if_true,H];exact⟨_,Z,dp.cons (K S)<|dp.cons (by simp only[H]) dp.nil⟩
        | false=>simpa using K S
   cases F:ev x with
   | none=>rw[F] at h;cases h
   | some m=>
    rw[F] at h;have hmv:=hx m F;cases m with
    | iR=>
     simp only[H] at hmv;dsimp only at h;obtain⟨hck,r',g1,A⟩:=main [] #[] (by simp[jM]) h;rcases A with ⟨j,y,rfl,A⟩ | ⟨rfl,xz,E,A⟩
     ·exact⟨_,by rw[hmv];simp only[Instr.lookup,sB_,run_underlying hu,rA,sP_,hck,g1],A⟩
     exact⟨_,by rw[hmv];simp only[Instr.lookup,sB_,run_underlying hu,rA,sP_,hck,g1,E],A⟩
    | map b=>
     simp only[H] at hmv;obtain⟨l,hl,hf⟩:=hmv;dsimp only at h;cases hb:U.m.get b with
     | none=>rw[hb] at h;cases h
     | some ob=>
      rw[hb] at h;cases ob with
      | map es clock=>
       dsimp only at h;obtain⟨ys,C,he⟩:=hi.wW hb hl;obtain⟨hck,r',g1,A⟩:=main es ys he h;rcases A with ⟨j,y,rfl,A⟩ | ⟨rfl,xz,E,A⟩
       ·exact⟨_,by rw[hf];simp only[Instr.lookup,sB_,run_underlying hu,rA,sP_,run_getObj_map C,hck,g1],A⟩
       exact⟨_,by rw[hf];simp only[Instr.lookup,sB_,run_underlying hu,rA,sP_,run_getObj_map C,hck,g1,E],A⟩
      | _=>cases h
    | _=>cases h
  cases h
 cases h
theorem uT (hi:Inv S U w) {u:Option TypeId} {x:Option V} {v:V} {z:Value} (h:sn P u U x=some v) (hx:∀a,x=some a->H S a z):
  ∃(a:Addr) (e cells:Nat),z= .pointer (some a)/\H S v z/\w.shape? a.block=some (e,cells)/\(match u with | some u=>liesAt P P.depth e (cells/P.cellsOf e) a.off u 1=true | none=>a.off<cells):=by
 unfold sn at h;cases x with
 | none=>cases h
 | some xv=>
  cases xv with
  | ptr b off=>
   have hv:=hx _ Z;have hv':=hv;simp only[H] at hv';obtain⟨l,hl,rfl⟩:=hv';dsimp only at h;cases hb:U.m.get b with
   | none=>rw[hb] at h;cases h
   | some ob=>
    rw[hb] at h;cases ob with
    | own cells e=>
     dsimp only at h;obtain⟨y,hy,⟨h0,aa⟩,c,fr,rfl,hc,_⟩:=hi.obj b _ l hb hl;have C:c.size=cells.length:=by omega
     have A:w.shape? l.dE=some (e,cells.length):=by simp[World.shape?,hy,C]
     cases u with
     | some u=>
      dsimp only at h;rw[bA] at h;split at h
      ·rename_i hq;cases h;rw[bK] at hq;exact⟨_,e,cells.length,Z,hv,A,by simpa [h0] using hq⟩
      cases h
     | none=>
      dsimp only at h;rw[bA] at h;split at h
      ·rename_i hq;cases h;rw[nE_,bK] at hq;exact⟨_,e,cells.length,Z,hv,A,by show l.sh+off<cells.length;omega⟩
      cases h
    | _=>cases h
  | _=>cases h
theorem xn (hi:Inv S U w) {ev:Operand->Option V} {f:Operand->Value} {o:Oper} {v:V} (F:ER S ev f o.op) (h:gW P ev U o.op=some v):
  ∃x,(execOp f o).run P w= .ok (.value x) w/\H S v x:=by
 cases C:o.op with
 | load t x=>
  rw[C] at h F;simp only[gW] at h;cases hx:ev x with
  | none=>rw[hx] at h;cases h
  | some u=>
   rw[hx] at h;have hvx:=F x (by simp[Op.operands]) u hx;cases u with
   | ptr b off=>
    simp only at h;cases hg:U.m.get b with
    | none=>rw[hg] at h;cases h
    | some ob=>
     rw[hg] at h;cases ob with
     | row cells e ro=>
      simp only[H] at hvx;obtain⟨l,hl,G⟩:=hvx;obtain⟨y,hy,hr⟩:=nE (P:=P) hi hg hl h;refine⟨y,?_,hr⟩;simp[execOp,C,Instr.loadAt,G,Instr.sureAddr,hy]
     | own cells e=>
      simp only[H] at hvx;obtain⟨l,hl,G⟩:=hvx;obtain⟨_,K,_⟩:=hi.own hg hl;obtain⟨y,hy,hr⟩:=nE (P:=P) K (D.mG _ _ _) hl h;refine⟨y,?_,hr⟩;simp[execOp,C,Instr.loadAt,G,Instr.sureAddr,hy]
     | _=>cases h
   | _=>cases h
 | lookup t x i ok=>
  rw[C] at h F;obtain⟨z,h1,h2⟩:=zZ (P:=P) hi (f:=f) (F x (by simp[Op.operands])) (F i (by simp[Op.operands])) h;exact⟨z,by simp only[execOp,C,sB_,h1,rA,sP_],h2⟩
 | convert src dst x=>
  rw[C] at h F;simp only[gW] at h;split at h
  case h_4=>cases h
  case h_2=>
   rename_i t Q R;split at h
   ·rename_i j hj;rw[bA] at h;split at h
    ·cases h
    rename_i h0;obtain⟨a,e,cells,hf,hv,L,ar⟩:=uT hi h (F x (by simp[Op.operands]));have ab:j.size≠0:=fun e=>h0 (by rw[e];rfl)
    refine⟨f x,?_,hv⟩;rw[hf];simp only[execOp,C,hf,sB_,Lib.run_to_unsafe w a Q R hj ab L ar,rA,sP_]
   cases h
  case h_3=>
   rename_i u Q R;rw[bA] at h;split at h
   ·rename_i K;obtain⟨j,hj⟩:=Option.isSome_iff_exists.1 K;obtain⟨a,e,cells,hf,hv,L,ar⟩:=uT hi h (F x (by simp[Op.operands]));refine⟨f x,?_,hv⟩;rw[hf];simp only[execOp,C,hf,sB_,Lib.run_from_unsafe w a Q R hj L ar,rA,sP_]
   cases h
  rename_i e Q R;split at h
  case h_3=>cases h
  ·rename_i he hx;cases h;have hv:=F x (by simp[Op.operands]) _ hx;simp only[H] at hv;refine⟨.string .empty,?_,by simp only[H];exact⟨_,Z,Z⟩⟩;simp[execOp,C,convert,hv,run_underlying Q,run_underlying R,run_underlying he,Conv.bytesToString]
  rename_i b off len cap he hx;have hv:=F x (by simp[Op.operands]) _ hx
  have fin:∀(a:Addr) (c:Nat) (s:List Nat),f x= .slice (some a) len c->s.length=len->(∀n∈s,n<=255)->(∀(j:Nat) (hj:j<s.length),w.cell? (a.add j)=some (.int .u8 ((s[j]:Nat):Int)))->
    ∃z,(execOp f o).run P w= .ok (.value z) w/\H S (.str s) z:=by
   intro a c s hf hl hle hc
   have hb:∀n∈s,(UInt8.ofNat n).toNat=n:=fun n hn=>by
    have:=hle n hn;rw[UInt8.toNat_ofNat'];omega
   have:=run_convert_bytes_back (P:=P) w src dst e a c (s.map UInt8.ofNat) Q he R (fun j hj=>by
    have W:j<s.length:=by simpa using hj
    rw[hc j W,List.getElem_map,hb _<|List.getElem_mem W])
   rw[lM_,hl] at this;refine⟨.string ⟨(s.map UInt8.ofNat).toArray⟩,by simp only[execOp,C,hf,sB_,this,rA,sP_],?_⟩;simp only[H];refine⟨_,Z,?_⟩;unfold hY;simp only[List.map_map]
   conv=>rhs;rw[<-List.map_id s]
   exact List.map_congr_left fun n hn=>hb n hn
  rw[bA] at h;split at h
  ·rename_i h0;have:=nB h0;subst this;cases h;obtain⟨a,c,hf⟩:=H.jI hv;exact fin a c [] hf Z (fun n hn=>by cases hn) (fun j hj=>by cases hj)
  rename_i h0;rw[Nat.beq_eq] at h0;split at h
  ·rename_i cells e' ro hb;rw[bA] at h;split at h
   ·rename_i hle;rw[nE_,bK] at hle;split at h
    ·rename_i s X;cases h
     obtain⟨l,c,hl,hf⟩:∃l c,S b=some l/\f x= .slice (some ⟨l.dE,l.sh+off,none⟩) len c:=by
      cases cap with
      | known c=>simp only[H] at hv;obtain⟨l,hl,h'⟩:=hv;exact⟨l,c,hl,h'⟩
      | upto sz=>
       simp only[H] at hv;obtain⟨l,hl,⟨c,h',_⟩ | ⟨h',_⟩⟩:=hv
       ·exact⟨l,c,hl,h'⟩
       exact absurd h' h0
      | least a sz=>simp only[H] at hv;obtain⟨l,hl,c,h',_⟩:=hv;exact⟨l,c,hl,h'⟩
     obtain⟨ys,ao,ac,M⟩:=hi.piece hb hl off len hle;rw[du,dO] at X
     have key:∀(l:List V) (s:List Nat),cW yz l=some s->s.length=l.length/\(∀n∈s,n<=255)/\∀(j:Nat) (n:Nat),s[j]?=some n->l[j]?=some (.int .u8 (.ofNat n)):=by
      intro l;induction l with
      | nil=>intro s h;rw[iK] at h;cases h;exact⟨Z,fun n hn=>(by cases hn),fun j n hn=>(by simp at hn)⟩
      | cons x l ih=>
       intro s h;obtain⟨y,r,h1,h2,rfl⟩:=gX h;obtain⟨k1,k2,k3⟩:=ih r h2
       have hx:x= .int .u8 (.ofNat y)/\y<=255:=by
        unfold yz at h1;split at h1
        ·rw[bA] at h1;split at h1
         ·rename_i hle;cases h1;exact⟨Z,by rwa[nE_] at hle⟩
         cases h1
        cases h1
       refine⟨by simp[k1],fun n hn=>?_,fun j n hn=>?_⟩
       ·rcases mQ_.1 hn with rfl | hn
        ·exact hx.2
        exact k2 n hn
       cases j with
       | zero=>simp at hn;subst hn;simp[hx.1]
       | succ j=>simp only[List.getElem?_cons_succ] at hn⊢;exact k3 j n hn
     obtain⟨k1,k2,k3⟩:=key _ s X;have am:s.length=len:=by rw[k1,lT_,lD_];omega
     refine fin _ c s hf am k2 (fun j hj=>?_);have h1:=k3 j s[j] (gC hj);obtain⟨y,hy,aa⟩:=ac.get h1;simp only[H] at aa;subst aa;exact M j _ hy
    cases h
   cases h
  cases h
 | call c=>
  rw[C] at h F;simp only[gW] at h;split at h
  ·rename_i E;split at h
   ·rename_i u1 u2 t x e1 e2;have A:c.args= #[x]:=by rw[<-Array.toList_inj];exact e2
    split at h
    ·rename_i u3 u4 kt et b hu hx;have hv:=F x (by simp[Op.operands,Call.operands,E,A]) _ hx;simp only[H] at hv;obtain⟨l,hl,hf⟩:=hv;split at h
     ·rename_i es clock hb;cases h;obtain⟨ys,hh,he⟩:=hi.wW hb hl;refine⟨.int .i64<|Int.ofNat<|cX es,?_,by simp only[H]⟩;have hlen:ys.size=es.length:=by have:=he.length;simpa using this
      simp[execOp,C,resolve,E,A,invoke,builtin,Builtin.len_,e1,run_underlying hu,hf,run_getObj_map hh,goInt,bK,hlen]
     cases h
    ·rename_i u3 u4 kt et hu hx;cases h;have hv:=F x (by simp[Op.operands,Call.operands,E,A]) _ hx;simp only[H] at hv;refine⟨.int .i64 0,?_,by simp only[H]⟩;simp[execOp,C,resolve,E,A,invoke,builtin,Builtin.len_,e1,run_underlying hu,hv,goInt]
    cases h
   cases h
  cases h
 | _=>rw[C] at h;simp[gW] at h
end
section
variable {P:Program} {S:dh} {U:D} {w:World}
theorem Du {ts:Array TypeId} {ty:TypeId} {x v:V} {y:Value} (h:E5 x=some v) (hx:H S x y):∃z,(Builtin.unsafeSliceData_ ts ty #[y]).run P w= .ok z w/\H S v z:=by
 unfold E5 at h;split at h
 ·cases h;simp only[H] at hx;subst hx;exact⟨_,Lib.run_unsafeSliceData_nil w ts ty 0 0,by simp only[H]⟩
 ·rename_i b off len c;rw[bA] at h;split at h
  ·rename_i u;cases h;cases c with
   | known c=>
    simp only[H] at hx;obtain⟨l,hl,rfl⟩:=hx;have u:Nat.ble 1 c=true:=u;rw[nE_] at u;exact⟨_,Lib.run_unsafeSliceData_row w ts ty _ _ _ B,by simp only[H];exact⟨l,hl,Z⟩⟩
   | upto s=>
    have u:Nat.ble 1 len=true:=u;rw[nE_] at u;simp only[H] at hx;obtain⟨l,hl,⟨c,rfl,hc,_⟩ | ⟨h0,_⟩⟩:=hx
    ·exact⟨_,Lib.run_unsafeSliceData_row w ts ty _ _ _ B,by simp only[H];exact⟨l,hl,Z⟩⟩
    omega
   | least a s=>
    have u:Nat.ble 1 a=true:=u;rw[nE_] at u;simp only[H] at hx;obtain⟨l,hl,c,rfl,hc,_⟩:=hx;exact⟨_,Lib.run_unsafeSliceData_row w ts ty _ _ _ B,by simp only[H];exact⟨l,hl,Z⟩⟩
  cases h
 cases h
theorem Bk:∀{l:List V} {s:List Nat},cW yz l=some s->s.length=l.length/\(∀n∈s,n<=255)/\∀(j:Nat) (n:Nat),s[j]?=some n->l[j]?=some (.int .u8 (.ofNat n))
 | [],s,h=>by rw[iK] at h;cases h;exact⟨Z,fun n hn=>(by cases hn),fun j n hn=>(by simp at hn)⟩
 | x::l,s,h=>by
  obtain⟨y,r,h1,h2,rfl⟩:=gX h;obtain⟨u,k2,z⟩:=Bk h2
  have hx:x= .int .u8 (.ofNat y)/\y<=255:=by
   unfold yz at h1;split at h1
   ·rw[bA] at h1;split at h1
    ·rename_i hle;cases h1;exact⟨Z,by rwa[nE_] at hle⟩
    cases h1
   cases h1
  refine⟨by simp[u],fun n hn=>?_,fun j n hn=>?_⟩
  ·rcases mQ_.1 hn with rfl | hn
   ·exact hx.2
   exact k2 n hn
  cases j with
  | zero=>simp at hn;subst hn;simp[hx.1]
  | succ j=>simp only[List.getElem?_cons_succ] at hn⊢;exact z j n hn
theorem tl (ts:Array TypeId) (ty:TypeId) (k:Value):Builtin.unsafeString_ ts ty #[.pointer none,k]=
   (do
    let n <-asInt k
    let some _:=ts[0]? | stuck "unsafe.String: no argument types"
    if n<0 then runtimePanic (.error "unsafe.String: len out of range")
    if n>IntKind.i64.max then unsupported (.unsafePointer "String: a length above the largest int")
    if n=0 then pure (.string .empty)
    else runtimePanic (.error "unsafe.String: ptr is nil and len is not zero")):=rfl
theorem np (ts:Array TypeId) (ty:TypeId) (a:Addr) (k:Value):Builtin.unsafeString_ ts ty #[.pointer<|some a,k]=
   (do
    let n <-asInt k
    let some pt:=ts[0]? | stuck "unsafe.String: no argument types"
    if n<0 then runtimePanic (.error "unsafe.String: len out of range")
    if n>IntKind.i64.max then unsupported (.unsafePointer "String: a length above the largest int")
    if n=0 then pure (.string .empty)
    else if <-variablesAt a (<-elemOf pt) n.toNat then do
     let s <-loadBytes a .empty n.toNat
     freeze a n.toNat
     pure (.string s)
    else unsupported (.unsafePointer "String: not so many bytes at ptr")):=rfl
theorem kB {ts:Array TypeId} {ty pt:TypeId} (z:ts[0]?=some pt) (p:Option Addr):(Builtin.unsafeString_ ts ty #[.pointer p,.int .i64 0]).run P w= .ok (.string .empty) w:=by
 have u:IntKind.i64.max=9223372036854775807:=rfl;cases p with
 | none=>rw[tl];simp[z,asInt,asIntOf,u]
 | some a=>rw[np];simp[z,asInt,asIntOf,u]
theorem rq {ts:Array TypeId} {ty pt e:TypeId} (K:ts[0]?=some pt) (hp:P.underlying pt=some (.pointer e)) (hc:P.cellsOf e=1) (g off cells:Nat) (F:w.shape? g=some (e,cells)) (l:List UInt8) (h0:l≠[]) (hn:off+l.length<=cells) (aa:l.length<=9223372036854775807)
  (u:∀j x,l[j]?=some x->w.cell? ((⟨g,off,none⟩:Addr).add j)=some (.int .u8 x.toNat)):
  (Builtin.unsafeString_ ts ty #[.pointer<|some ⟨g,off,none⟩,.int .i64 l.length]).run P w= .ok (.string ⟨l.toArray⟩) (w.freeze ⟨g,off,none⟩ l.length):=by
 have hl:l.length≠0:=by simpa using h0
 have hlb:=Lib.run_loadBytes (P:=P) w l ⟨g,off,none⟩ .empty u
 have z:liesAt P P.depth e (cells/P.cellsOf e) off e l.length=true:=by
  have G:P.depth=(2*(P.types.size+Made.depth)+1)+1:=rfl;rw[G];simp only[liesAt,Bool.or_eq_true];left;rw[G];simp[rowAt,hc,hn,sameLayout,Nat.mod_one]
 have A:¬(9223372036854775807:Int)<(l.length:Int):=by omega
 have C:IntKind.i64.max=9223372036854775807:=rfl;have E:¬(l.length:Int)<0:=by omega
 rw[np];simp[K,asInt,asIntOf,C,A,E,hl,variablesAt,F,elemOf,run_underlying hp,z,hlb]
theorem EE (hi:Inv S U w) {ts:Array TypeId} {ty:TypeId} {p n:V} {yp yn:Value} {s:List Nat} {U':D} (h:FZ P U ts[0]? p n=some (s,U')) (hp:H S p yp) (hn:H S n yn):
  ∃z w',(Builtin.unsafeString_ ts ty #[yp,yn]).run P w= .ok z w'/\H S (.str s) z/\Inv S U' w'/\eY S U w S U' w':=by
 unfold FZ at h;split at h
 ·rename_i k;simp only[H] at hn;subst hn;rw[bA] at h;split at h
  ·rename_i h0;have:=nB h0;subst this;split at h
   ·rename_i u1 u2 pt E;cases h;simp only[H] at hp;subst hp;exact⟨_,w,kB E _,by simp only[H];exact⟨_,Z,Z⟩,hi,eY.refl _ _ _⟩
   ·rename_i u1 u2 pt b off E;cases h;simp only[H] at hp;obtain⟨l,hl,rfl⟩:=hp;exact⟨_,w,kB E _,by simp only[H];exact⟨_,Z,Z⟩,hi,eY.refl _ _ _⟩
   cases h
  rename_i h0;rw[Nat.beq_eq] at h0;split at h
  ·rename_i u1 u2 pt b off E;split at h
   ·rename_i u3 u4 u cells e hu hb;rw[bA] at h;split at h
    ·rename_i hc;simp only[bA_,Nat.beq_eq,nE_,bK] at hc;obtain⟨rfl,M,hle,ab⟩:=hc;split at h
     ·rename_i s' hs;cases h;simp only[H] at hp;obtain⟨l,hl,rfl⟩:=hp;rw[du,dO] at hs;obtain⟨k1,k2,k3⟩:=Bk hs;have Q:s.length=k:=by rw[k1,lT_,lD_];omega
      obtain⟨c,fr,F,R,W,X,ac⟩:=hi.row hb hl;obtain⟨ys,am,aa,C⟩:=hi.piece hb hl off k hle
      have G:∀n∈s,(UInt8.ofNat n).toNat=n:=fun n hn=>by
       have:=k2 n hn;rw[UInt8.toNat_ofNat'];omega
      have hlen:(s.map UInt8.ofNat).length=k:=by rw[lM_,Q]
      have r:=rq (P:=P) (w:=w) (ty:=ty) E hu M l.dE (l.sh+off) c.size (by simp[World.shape?,F]) (s.map UInt8.ofNat) (by intro e;rw[e] at hlen;simp at hlen;omega) (by rw[hlen];omega) (by rw[hlen];omega)
       (fun j x hx=>by
        rw[gM_] at hx;cases hj:s[j]? with
        | none=>rw[hj] at hx;cases hx
        | some m=>
         rw[hj] at hx;cases hx;have h1:=k3 j m hj;obtain⟨y,hy,K⟩:=aa.get h1;simp only[H] at K;subst K;rw[C j _ hy,G m<|gB_ hj];rfl)
      rw[hlen] at r;have A:¬k=0:=h0
      have hw:∃fr',(w.freeze ⟨l.dE,l.sh+off,none⟩ k).heap[l.dE]?=some (.cells c e fr'):=by
       unfold World.freeze;rw[if_neg A];simp only[Array.getElem?_modify,F];exact⟨_,Z⟩
      obtain⟨fr',hw⟩:=hw
      have L:∀r,r≠l.dE->(w.freeze ⟨l.dE,l.sh+off,none⟩ k).heap[r]?=w.heap[r]?:=fun r hr=>by
       unfold World.freeze;rw[if_neg A];simp only[Array.getElem?_modify];rw[if_neg (fun e=>hr e.symm)]
      obtain⟨i2,s2⟩:=hi.EZ hb hl Z (o':=.row cells e true) hw ⟨c,fr',Z,R,W,X,fun h=>by cases h⟩ L (by unfold World.freeze;rw[if_neg A];simp) (by unfold World.freeze;rw[if_neg A]) (by unfold World.freeze;rw[if_neg A]) (by unfold World.freeze;rw[if_neg A]);refine⟨_,_,r,?_,i2,s2⟩;simp only[H];refine⟨_,Z,?_⟩;unfold hY;simp only[List.map_map]
      conv=>rhs;rw[<-List.map_id s]
      exact List.map_congr_left fun n hn=>G n hn
     cases h
    cases h
   cases h
  cases h
 cases h
theorem Bl (hi:Inv S U w) {src dst:TypeId} {x v:V} {y:Value} {U':D} (h:mr P U src dst x= .val v U') (hx:H S x y):
  ∃z w' S',(convert src dst y).run P w= .ok z w'/\H S' v z/\Inv S' U' w'/\eY S U w S' U' w':=by
 unfold mr at h;split at h
 ·rename_i e s R W;split at h
  ·rename_i he;rw[bA] at h;split at h
   ·rename_i aa;cases h;simp only[H] at hx;obtain⟨bs,rfl,C⟩:=hx;have A:bs.size<=grownCap w bs.size 0 e:=grownCap_ge _ _ _ _
    have K:(Lib.bytesCells w e bs).size=grownCap w bs.size 0 e:=by
     unfold Lib.bytesCells;simp;have:bs.data.size=bs.size:=rfl;omega
    have hlen:cX s=bs.size:=jK C;have E:(yd (fun c=>V.int .u8 (Int.ofNat c)) s).length=bs.size:=by rw[lY,lM_,<-bK,hlen]
    have X:iF S ⟨w.heap.size,0,grownCap w bs.size 0 e⟩ (.row (yd (fun c=>V.int .u8 (Int.ofNat c)) s) e true) (.cells (Lib.bytesCells w e bs) e ((Lib.bytesCells w e bs).size,(Lib.bytesCells w e bs).size+1)):=by
     refine⟨_,_,Z,by simp[K],by rw[E];exact A,fun i v hv=>?_,fun h=>by cases h⟩;rw[lY,gM_] at hv;cases F:s[i]? with
     | none=>rw[F] at hv;cases hv
     | some m=>
      rw[F] at hv;cases hv;have u:(bs.data.toList.map UInt8.toNat)[i]?=some m:=by unfold hY at C;rw[C];exact F
      rw[gM_] at u;cases hq:bs.data.toList[i]? with
      | none=>rw[hq] at u;cases u
      | some b=>
       rw[hq] at u;cases u;have G:bs.data[i]?=some b:=by rw[<-aT_];exact hq
       have L:i<bs.data.size:=(aS_.1 G).1;refine⟨.int .u8 b.toNat,?_,by simp only[H];rfl⟩;unfold Lib.bytesCells;show((bs.data.map fun b=>Value.int .u8 b.toNat)++_)[0+i]?=_;rw[nA_,Array.getElem?_append_left (by simpa using L),Array.getElem?_map,G];rfl
    have hi1:=hi.drew;obtain⟨M,Q⟩:=hi1.alloc (l:=⟨w.heap.size,0,grownCap w bs.size 0 e⟩) (x:=.cells (Lib.bytesCells w e bs) e ((Lib.bytesCells w e bs).size,(Lib.bytesCells w e bs).size+1)) Z X
    have hw:(w.drew.alloc (.cells (Lib.bytesCells w e bs) e ((Lib.bytesCells w e bs).size,(Lib.bytesCells w e bs).size+1)))=Lib.bytesWorld w e bs:=by
     unfold Lib.bytesWorld World.freeze;rw[if_neg B]
     have:∀(h:Array Obj) (a b:Obj) (f:Obj->Obj),f a=b->(h.push a).modify h.size f=h.push b:=fun h a b f e=>by
      apply Array.ext_getElem?;intro i;rw[Array.getElem?_modify,Array.getElem?_push,Array.getElem?_push]
      by_cases hi:h.size=i
      ·subst hi;simp[e]
      rw[if_neg hi,if_neg (fun e=>hi e.symm),if_neg (fun e=>hi e.symm)]
     simp only[World.alloc,World.drew];congr 1
     symm
     exact this w.heap _ _ _ Z
    rw[hw] at M Q;refine⟨_,_,_,Lib.run_convert_string_bytes w src dst e bs R W he,?_,M,(eY.drew S U w).trans Q⟩;simp only[H];refine⟨_,dh.cZ _ _ _,.inl ⟨grownCap w bs.size 0 e,by rw[hlen],by rw[hlen];exact A,by simp⟩⟩
   cases h
  cases h
 cases h
theorem Di (P:Program) (U:D) (src dst:TypeId) (x:V) (v:V) (U':D):mr P U src dst x≠ .mO v U':=by
 unfold mr
 repeat' split
 all_goals (try rw[bA])
 all_goals (try split)
 all_goals (intro h;cases h)
theorem rV (P:Program) (U:D) (src dst:TypeId) (x:V):∀f args U',mr P U src dst x≠ .enter f args U'/\mr P U src dst x≠ .round f args U'/\mr P U src dst x≠ .skip U':=by
 intro f args U';unfold mr
 repeat' split
 all_goals (try rw[bA])
 all_goals (try split)
 all_goals exact⟨(by intro h;cases h),(by intro h;cases h),(by intro h;cases h)⟩
end
section
variable {P:Program} {S:dh} {U:D} {w:World}
theorem uG {x y:V} {a c:Value} (h:sa x y=some true) (hx:H S x a) (hy:H S y c) (n:Nat):Instr.sameBits n a c=true:=by
 unfold sa at h;split at h
 ·simp only[H] at hx hy;subst hx;subst hy;simp only[oJ_,mz] at h;simp only[Instr.sameBits,h]
 ·rename_i j a' k b';simp only[bA] at h;split at h
  ·rename_i hk;have:=pR hk;subst this;simp only[oJ_,dF,decide_eq_true_eq] at h;subst h;simp only[H] at hx hy;subst hx;subst hy;simp[Instr.sameBits]
  cases h
 ·simp only[H] at hx hy;obtain⟨p,rfl,hp⟩:=hx;obtain⟨q,rfl,hq⟩:=hy;simp only[oJ_] at h;rw[ou hp hq] at h;have e:p.toList=q.toList:=by simpa using h
  simp only[Instr.sameBits,beq_toListBytes];simpa using e
 cases h
theorem rC:∀{xs ys:List V} {as cs:List Value},pL xs ys=true->dp S xs as->dp S ys cs->∀n,as.length=cs.length/\((as.zip cs).all fun(x,y)=>Instr.sameBits n x y)=true
 | [],[],as,cs,_,hx,hy,n=>by rw[hx.eQ,hy.eQ];simp
 | [],y::ys,as,cs,h,hx,hy,n=>by cases h
 | x::xs,[],as,cs,h,hx,hy,n=>by cases h
 | x::xs,y::ys,as,cs,h,hx,hy,n=>by
  obtain⟨a,as',rfl,h1,h2⟩:=hx.cons_inv;obtain⟨c,cs',rfl,u,h4⟩:=hy.cons_inv;have h':(match sa x y with | some true=>pL xs ys | _=>false)=true:=h;split at h'
  ·rename_i he;obtain⟨g1,g2⟩:=rC h' h2 h4 n;refine⟨by simp[g1],?_⟩;simp only[List.zip_cons_cons,List.all_cons,bA_];exact⟨uG he h1 u n,g2⟩
  cases h'
theorem An {x y:V} {a c:Value} (h:sameKey x y=true) (hx:H S x a) (hy:H S y c) (n:Nat):Instr.sameBits (n+1) a c=true:=by
 unfold sameKey at h;split at h
 ·simp only[H] at hx hy;obtain⟨as,rfl,hx⟩:=hx;obtain⟨cs,rfl,hy⟩:=hy;obtain⟨g1,g2⟩:=rC h hx hy n;simp only[Instr.sameBits,bA_,beq_iff_eq];exact⟨by simpa using g1,g2⟩
 split at h
 ·rename_i b hb;subst h;exact uG hb hx hy _
 cases h
theorem Hk (e:fC) (es:List fC) (i:Nat):Aq e es i=es.set i e:=ud _ _ _
theorem yK:∀(es:List fC) (i:Nat),wa es i=es.eraseIdx i
 | [],i=>rfl
 | e::es,0=>rfl
 | e::es,i+1=>congrArg (e::·) (yK es i)
theorem Inv.Ar (hi:Inv S U w) {b:Pos} {l:Loc} {es es':List fC} {clock clock':Nat} {ys:Array MapEntry} (hb:U.m.get b=some (.map es clock)) (hl:S b=some l) (he:jM S es' ys.toList):
  ∃w',(setObj l.dE (.map ys clock')).run P w= .ok () w'/\Inv S (U.setObj b (.map es' clock')) w'/\eY S U w S (U.setObj b (.map es' clock')) w':=by
 obtain⟨zs,u,_⟩:=hi.wW hb hl;refine⟨{w with heap:=w.heap.setIfInBounds l.dE (.map ys clock')},by simp[setObj,Sem.run,u],?_⟩;have hlt:=hi.dE b l hl
 exact hi.change hb hl Z Z (x:=.map ys clock') (by simp[Array.getElem?_setIfInBounds,hlt]) ⟨ys,Z,he⟩
  (fun r z=>by simp[Array.getElem?_setIfInBounds,Ne.symm z]) (by simp) Z Z Z
theorem tq (hi:Inv S U w) {t:TypeId} {m k v:V} {ym yk yv:Value} {U':D} (h:nq P U t m k v=some U') (hm:H S m ym) (hk:H S k yk) (hv:H S v yv):
  ∃w',(Instr.mapUpdate t ym yk yv).run P w= .ok () w'/\Inv S U' w'/\eY S U w S U' w':=by
 unfold nq at h;split at h
 ·rename_i u1 u2 kt et b hu;split at h
  ·rename_i es clock hb;simp only[bA] at h;split at h
   ·rename_i A;rw[bA_] at A;obtain⟨hp,G⟩:=A;simp only[H] at hm;obtain⟨l,hl,rfl⟩:=hm;obtain⟨ys,L,he⟩:=hi.wW hb hl;have hck:=my (w:=w) hp G hk false;split at h
    ·rename_i i u hf;obtain⟨r',g1,g2⟩:=mC (w:=w) hp hk he hf;cases r' with
     | none=>exact g2.elim
     | some q=>
     obtain⟨j,y⟩:=q;obtain⟨rfl,hy⟩:=g2;rw[eF] at h;split at h
     ·rename_i e hn;split at h
      ·rename_i M;cases h;obtain⟨ye,C,e1,e2,Q⟩:=he.get hn;have hsb:=An M e1 hk 9999;have z:ys[i]?=some ye:=by rw[<-aT_];exact C
       have E:(Instr.keyThatStays (((ys[i]?).map (·.key)).getD yk) yk).run P w= .ok yk w:=by
        simp[Instr.keyThatStays,z,hsb]
       have F:(ys.modify i fun e=>{e with key:=yk,val:=yv}).toList=ys.toList.set i {key:=yk,val:=yv,born:=e.born}:=by
        apply List.ext_getElem?;intro q;rw[aT_,Array.getElem?_modify,List.getElem?_set];have K:i<ys.toList.length:=(gA.1 C).1
        by_cases eq:i=q
        ·subst eq;simp[z,Q];simpa using K
        simp[eq]
       obtain⟨w',r,inv,st⟩:=hi.Ar (P:=P) (clock':=clock) (es':=Aq {key:=k,val:=v,born:=e.born} es i) (ys:=ys.modify i fun e=>{e with key:=yk,val:=yv}) hb hl (by
        rw[F,Hk];exact he.set i hk hv Z)
       refine⟨w',?_,inv,st⟩;simp only[Instr.mapUpdate,sB_,run_underlying hu,rA,run_getObj_map L,hck,g1,E,r]
      cases h
     cases h
    ·rename_i hf;cases h;obtain⟨r',g1,g2⟩:=mC (w:=w) hp hk he hf;cases r' with
     | some q=>exact g2.elim
     | none=>
     obtain⟨w',r,inv,st⟩:=hi.Ar (P:=P) (clock':=clock+1) (es':=ie es [{key:=k,val:=v,born:=clock}]) (ys:=ys.push {key:=yk,val:=yv,born:=clock}) hb hl (by
      rw[dV,Array.toList_push];exact he.append ⟨_,[],Z,hk,hv,Z,Z⟩)
     refine⟨w',?_,inv,st⟩;simp only[Instr.mapUpdate,sB_,run_underlying hu,rA,run_getObj_map L,hck,g1,r]
    cases h
   cases h
  cases h
 cases h
theorem zL (hi:Inv S U w) {ts:Array TypeId} {ty:TypeId} {m k:V} {ym yk:Value} {U':D} (h:qH P U ts m k=some U') (hm:H S m ym) (hk:H S k yk):
  ∃w',(Builtin.delete_ ts ty #[ym,yk]).run P w= .ok (.tuple #[]) w'/\Inv S U' w'/\eY S U w S U' w':=by
 unfold qH at h;split at h
 ·rename_i t C;split at h
  ·rename_i u1 u2 kt et b hu;split at h
   ·rename_i es clock hb;simp only[bA] at h;split at h
    ·rename_i z;rw[bA_] at z;obtain⟨hp,A⟩:=z;simp only[H] at hm;obtain⟨l,hl,rfl⟩:=hm;obtain⟨ys,E,he⟩:=hi.wW hb hl;have hck:=my (w:=w) hp A hk ys.isEmpty;split at h
     ·rename_i i u hf;cases h;obtain⟨r',g1,g2⟩:=mC (w:=w) hp hk he hf;cases r' with
      | none=>exact g2.elim
      | some q=>
      obtain⟨j,y⟩:=q;obtain⟨rfl,hy⟩:=g2
      obtain⟨w',r,inv,st⟩:=hi.Ar (P:=P) (clock':=clock) (es':=wa es i) (ys:=ys.eraseIdxIfInBounds i) hb hl (by
       rw[Array.toList_eraseIdxIfInBounds,yK];exact he.erase i)
      refine⟨w',?_,inv,st⟩;simp only[Builtin.delete_,C,List.getElem?_toArray,List.getElem?_cons_zero,List.getElem?_cons_succ,sB_,run_underlying hu,rA,run_getObj_map E,hck,g1,r,sP_]
     ·rename_i hf;cases h;obtain⟨r',g1,g2⟩:=mC (w:=w) hp hk he hf;cases r' with
      | some q=>exact g2.elim
      | none=>
      obtain⟨w',r,inv,st⟩:=hi.Ar (P:=P) (clock':=clock) (es':=es) (ys:=ys) hb hl he;refine⟨w',?_,inv,st⟩;simp only[Builtin.delete_,C,List.getElem?_toArray,List.getElem?_cons_zero,List.getElem?_cons_succ,sB_,run_underlying hu,rA,run_getObj_map E,hck,g1,r,sP_]
     cases h
    cases h
   cases h
  cases h
 cases h
def HR.isVal:HR->Prop
 | .val ..=>True
 | .err _=>True
 | _=>False
theorem De (P:Program) (U:D) (ts:Array TypeId) (s x:V):(fX P U ts s x).isVal:=by
 unfold fX;simp only[bA,grow]
 repeat' (first | trivial | split)
theorem Bd (P:Program) (U:D) (ts:Array TypeId) (s x:V):(oD P U ts s x).isVal:=by
 unfold oD;simp only[bA,grow]
 repeat' (first | trivial | split)
theorem HT (P:Program) (U:D) (ts:Array TypeId) (s x:V):(rE P U ts s x).isVal:=by
 unfold rE;simp only[bA]
 repeat' (first | trivial | split)
theorem BS {ov:Nat->Bool} (aa:∀g,ov g=true->rR P g) (hi:Inv S U w) {ev:Operand->Option V} {f:Operand->Value} {o:Oper} {r:HR} (G:ER S ev f o.op) (h:gz P ov ev U o.op=r) (A:∀n,r≠ .err n):
  xW P S U w r ((execOp f o).run P w):=by
 cases K:o.op with
 | store t x y=>
  rw[K] at h G;simp only[gz] at h;cases hx:ev x with
  | none=>rw[hx] at h;exact absurd h.symm<|A 11
  | some a=>
  cases hy:ev y with
  | none=>rw[hx,hy] at h;exact absurd h.symm<|A 11
  | some v=>
  rw[hx,hy] at h;dsimp only at h;cases R:xI P U t a v with
  | none=>rw[R] at h;exact absurd h.symm<|A 10
  | some U'=>
   rw[R] at h;subst h;obtain⟨w',r,inv,st⟩:=CF (P:=P) hi R (G x (by simp[Op.operands]) a hx) (G y (by simp[Op.operands]) v hy);have:(execOp f o).run P w= .ok .skip w':=by simp only[execOp,K,sB_,r,rA,sP_]
   rw[this];exact .skip inv st
 | mapUpdate t m k x=>
  rw[K] at h G;simp only[gz] at h;cases hm:ev m with
  | none=>rw[hm] at h;exact absurd h.symm<|A 20
  | some a=>
  cases hk:ev k with
  | none=>rw[hm,hk] at h;exact absurd h.symm<|A 20
  | some b=>
  cases hx:ev x with
  | none=>rw[hm,hk,hx] at h;exact absurd h.symm<|A 20
  | some v=>
  rw[hm,hk,hx] at h;dsimp only at h;cases R:nq P U t a b v with
  | none=>rw[R] at h;exact absurd h.symm<|A 19
  | some U'=>
   rw[R] at h;subst h;obtain⟨w',r,inv,st⟩:=tq (P:=P) hi R (G m (by simp[Op.operands]) a hm) (G k (by simp[Op.operands]) b hk) (G x (by simp[Op.operands]) v hx);have:(execOp f o).run P w= .ok .skip w':=by simp only[execOp,K,sB_,r,rA,sP_]
   rw[this];exact .skip inv st
 | insert t m k x=>
  rw[K] at h G;simp only[gz] at h;cases hm:ev m with
  | none=>rw[hm] at h;exact absurd h.symm<|A 20
  | some a=>
  cases hk:ev k with
  | none=>rw[hm,hk] at h;exact absurd h.symm<|A 20
  | some b=>
  cases hx:ev x with
  | none=>rw[hm,hk,hx] at h;exact absurd h.symm<|A 20
  | some v=>
  rw[hm,hk,hx] at h;dsimp only at h;cases R:nq P U t a b v with
  | none=>rw[R] at h;exact absurd h.symm<|A 19
  | some U'=>
   rw[R] at h;subst h;obtain⟨w',r,inv,st⟩:=tq (P:=P) hi R (G m (by simp[Op.operands]) a hm) (G k (by simp[Op.operands]) b hk) (G x (by simp[Op.operands]) v hx);have:(execOp f o).run P w= .ok .skip w':=by simp only[execOp,K,sB_,r,rA,sP_]
   rw[this];exact .skip inv st
 | call c=>
  rw[K] at h G;simp only[gz] at h;split at h
  ·rename_i g u;split at h
   ·rename_i X u2 y args hg L;have F:∀x∈c.args.toList,∀v,ev x=some v->H S v (f x):=fun x hx=>G x (by simp[Op.operands,Call.operands,u];right;simpa using hx)
    have:=HN (P:=P) (w:=w) aa hi h A (G g (by simp[Op.operands,Call.operands,u]) y hg) (xs:=c.args.map f) (by simpa using il L F);simpa only[execOp,K,resolve,u] using this
   exact absurd h.symm<|A 12
  ·rename_i u;split at h
   ·rename_i X s x L;subst h;have F:∀x∈c.args.toList,∀v,ev x=some v->H S v (f x):=fun x hx=>G x (by simp[Op.operands,Call.operands,u];simpa using hx)
    obtain⟨ys,rs,e,h1,h2⟩:=(il L F).cons_inv;obtain⟨yx,rs',rfl,W,h4⟩:=h2.cons_inv;have:=h4.eQ;subst this;have C:c.args.map f= #[ys,yx]:=by rw[<-Array.toList_inj];simpa using e
    rw[bA] at A;rw[bA];split at A
    ·rename_i hc;rw[if_pos hc];have hv:=De P U c.argTypes s x;cases E:fX P U c.argTypes s x with
     | val v U'=>
      obtain⟨z,w',S',g1,g2,M,Q⟩:=zC (P:=P) (ty:=o.type) hi E h1 W
      have:(execOp f o).run P w= .ok (.value z) w':=by
       simp only[execOp,K,resolve,u,C,sB_,sP_,rA,invoke,builtin,g1]
      rw[this];exact .val g2 M Q
     | err n=>exact absurd E (A n)
     | _=>rw[E] at hv;exact hv.elim
    rename_i hc;rw[if_neg hc];have hv:=Bd P U c.argTypes s x;cases E:oD P U c.argTypes s x with
    | val v U'=>
     obtain⟨z,w',S',g1,g2,M,Q⟩:=xY (P:=P) (ty:=o.type) hi E h1 W
     have:(execOp f o).run P w= .ok (.value z) w':=by
      simp only[execOp,K,resolve,u,C,sB_,sP_,rA,invoke,builtin,g1]
     rw[this];exact .val g2 M Q
    | err n=>exact absurd E (A n)
    | _=>rw[E] at hv;exact hv.elim
   exact absurd h.symm<|A 13
  ·rename_i u;split at h
   ·rename_i X s x L;have F:∀x∈c.args.toList,∀v,ev x=some v->H S v (f x):=fun x hx=>G x (by simp[Op.operands,Call.operands,u];simpa using hx)
    obtain⟨ys,rs,e,h1,h2⟩:=(il L F).cons_inv;obtain⟨yx,rs',rfl,W,h4⟩:=h2.cons_inv;have:=h4.eQ;subst this;have C:c.args.map f= #[ys,yx]:=by rw[<-Array.toList_inj];simpa using e
    cases E:qH P U c.argTypes s x with
    | none=>rw[E] at h;exact absurd h.symm<|A 17
    | some U'=>
     rw[E] at h;subst h;obtain⟨w',g1,M,Q⟩:=zL (P:=P) (ty:=o.type) hi E h1 W
     have:(execOp f o).run P w= .ok (.value (.tuple #[])) w':=by
      simp only[execOp,K,resolve,u,C,sB_,sP_,rA,invoke,builtin,g1]
     rw[this];exact .val (by simp only[H];exact⟨_,Z,dp.nil⟩) M Q
   exact absurd h.symm<|A 18
  ·rename_i u;split at h
   ·rename_i X s x L;subst h;have F:∀x∈c.args.toList,∀v,ev x=some v->H S v (f x):=fun x hx=>G x (by simp[Op.operands,Call.operands,u];simpa using hx)
    obtain⟨ys,rs,e,h1,h2⟩:=(il L F).cons_inv;obtain⟨yx,rs',rfl,W,h4⟩:=h2.cons_inv;have:=h4.eQ;subst this;have C:c.args.map f= #[ys,yx]:=by rw[<-Array.toList_inj];simpa using e
    have hv:=HT P U c.argTypes s x;cases E:rE P U c.argTypes s x with
    | val v U'=>
     obtain⟨z,w',S',g1,g2,M,Q⟩:=Dp (P:=P) (ty:=o.type) hi E h1 W
     have:(execOp f o).run P w= .ok (.value z) w':=by
      simp only[execOp,K,resolve,u,C,sB_,sP_,rA,invoke,builtin,g1]
     rw[this];exact .val g2 M Q
    | err n=>exact absurd E (A n)
    | _=>rw[E] at hv;exact hv.elim
   exact absurd h.symm<|A 14
  ·rename_i u;split at h
   ·rename_i X x L;have F:∀x∈c.args.toList,∀v,ev x=some v->H S v (f x):=fun x hx=>G x (by simp[Op.operands,Call.operands,u];simpa using hx)
    obtain⟨ys,rs,e,h1,h2⟩:=(il L F).cons_inv;have:=h2.eQ;subst this;have C:c.args.map f= #[ys]:=by rw[<-Array.toList_inj];simpa using e
    cases E:zJ P U c.argTypes x with
    | none=>rw[E] at h;exact absurd h.symm<|A 21
    | some U'=>
     rw[E] at h;subst h;obtain⟨w',g1,M,Q⟩:=Bs (P:=P) (ty:=o.type) hi E h1
     have:(execOp f o).run P w= .ok (.value (.tuple #[])) w':=by
      simp only[execOp,K,resolve,u,C,sB_,sP_,rA,invoke,builtin,g1]
     rw[this];exact .val (by simp only[H];exact⟨_,Z,dp.nil⟩) M Q
   exact absurd h.symm<|A 22
  ·rename_i u;split at h
   ·rename_i X x L;have F:∀x∈c.args.toList,∀v,ev x=some v->H S v (f x):=fun x hx=>G x (by simp[Op.operands,Call.operands,u];simpa using hx)
    obtain⟨ys,rs,e,h1,h2⟩:=(il L F).cons_inv;have:=h2.eQ;subst this;have C:c.args.map f= #[ys]:=by rw[<-Array.toList_inj];simpa using e
    cases E:E5 x with
    | none=>rw[E] at h;exact absurd h.symm<|A 27
    | some v=>
     rw[E] at h;subst h;obtain⟨z,g1,g2⟩:=Du (P:=P) (w:=w) (ts:=c.argTypes) (ty:=o.type) E h1
     have:(execOp f o).run P w= .ok (.value z) w:=by
      simp only[execOp,K,resolve,u,C,sB_,sP_,rA,invoke,builtin,g1]
     rw[this];exact .val g2 hi<|eY.refl _ _ _
   exact absurd h.symm<|A 28
  ·rename_i u;split at h
   ·rename_i X s x L;have F:∀x∈c.args.toList,∀v,ev x=some v->H S v (f x):=fun x hx=>G x (by simp[Op.operands,Call.operands,u];simpa using hx)
    obtain⟨ys,rs,e,h1,h2⟩:=(il L F).cons_inv;obtain⟨yx,rs',rfl,W,h4⟩:=h2.cons_inv;have:=h4.eQ;subst this;have C:c.args.map f= #[ys,yx]:=by rw[<-Array.toList_inj];simpa using e
    cases E:FZ P U c.argTypes[0]? s x with
    | none=>rw[E] at h;exact absurd h.symm<|A 29
    | some q=>
     obtain⟨q,U'⟩:=q;rw[E] at h;subst h;obtain⟨z,w',g1,g2,M,Q⟩:=EE (P:=P) (ty:=o.type) hi E h1 W
     have:(execOp f o).run P w= .ok (.value z) w':=by
      simp only[execOp,K,resolve,u,C,sB_,sP_,rA,invoke,builtin,g1]
     rw[this];exact .val g2 M Q
   exact absurd h.symm<|A 30
  exact absurd h.symm<|A 15
 | convert src dst x=>
  rw[K] at h G;simp only[gz] at h;cases hx:ev x with
  | none=>rw[hx] at h;exact absurd h.symm<|A 23
  | some a=>
   rw[hx] at h;dsimp only at h;cases E:mr P U src dst a with
   | val v U'=>
    rw[E] at h;subst h;obtain⟨z,w',S',g1,g2,M,Q⟩:=Bl (P:=P) hi E (G x (by simp[Op.operands]) a hx);have:(execOp f o).run P w= .ok (.value z) w':=by simp only[execOp,K,sB_,g1,rA,sP_]
    rw[this];exact .val g2 M Q
   | err n=>rw[E] at h;exact absurd h.symm<|A n
   | skip U'=>exact absurd E (rV P U src dst a 0 [] U').2.2
   | enter g args U'=>exact absurd E (rV P U src dst a g args U').1
   | round g args U'=>exact absurd E (rV P U src dst a g args U').2.1
   | mO q U'=>exact absurd E (Di P U src dst a q U')
 | panic x=>
  rw[K] at h G;simp only[gz] at h;split at h
  ·rename_i t v hx;subst h;have hv:=G x (by simp[Op.operands]) _ hx;have hv':=hv;simp only[H] at hv';obtain⟨y,hf,_⟩:=hv'
   have:(execOp f o).run P w= .halt (.panic<|f x) w:=by
    simp only[execOp,K,hf,Instr.panic,sB_];rfl
   rw[this];exact .mO hv
  exact absurd h.symm<|A 32
 | _=>rw[K] at h;exact absurd h.symm<|A 16
end
inductive Ex where
 | normal
 | exit (id:Nat)
 | goto (l:Nat)
 | ret
 | mO (v:V)
inductive DE where
 | mark (b:Pos)
 | call (f:Nat) (args ca:List V)
inductive CR where
 | ok (e:Ex) (t:N V) (d:List DE) (U:D)
 | err (n:Nat)
inductive KR where
 | ret (v:V) (U:D)
 | mO (v:V) (U:D)
 | err (n:Nat)
inductive Kind where
 | pure | read | alloc | jW
def isMap (P:Program) (t:Option TypeId):Bool:=
 match t with
 | some t=>match P.underlying t with | some (.map _ _)=>true | _=>false
 | none=>false
def toStr (P:Program) (src dst:TypeId):Bool:=
 match pk P src,pk P dst with
 | some (.slice _),some .string=>true
 | some (.pointer _),some .unsafePointer=>true
 | some .unsafePointer,some (.pointer _)=>true
 | _,_=>false
def ofStr (P:Program) (src dst:TypeId):Bool:=
 match pk P src,pk P dst with
 | some .string,some (.slice _)=>true
 | _,_=>false
def kindOf (P:Program):Op->Kind
 | .convert src dst _=>bif toStr P src dst then .read else(bif ofStr P src dst then .jW else .pure)
 | .load .. | .lookup ..=>.read
 | .alloc .. | .box .. | .buildSlice .. | .makeSlice .. | .makeMap ..=>.alloc
 | .store .. | .mapUpdate .. | .insert ..=>.jW
 | .call c=>match c.callee with
  | .builtin .len=>bif isMap P c.argTypes[0]? then .read else .pure
  | .builtin .min | .builtin .max | .builtin .cap=>.pure
  | _=>.jW
 | .defer _ | .panic _=>.jW
 | _=>.pure
structure ME where
 f:Nat
 args:List V
 next:Nat
 l:List (Nat×cG)
 v:V
 next':Nat
 l':List (Nat×cG)
structure Cx where
 gl:Nat
 ov:Nat->Bool
 fk:Nat->Bool
 HD:Nat->List V->Option V
 laid:List (Nat×List V)
 mem:List Nat:=[]
 stop:Nat->List V->D->Option Nat:=fun _ _ _=>none
 HB:Nat->List V->D->Option V:=fun _ _ _=>none
def bE (G:Cx) (t:N V):Operand->Option V
 | .tmp k=>t.get (posOf k)
 | .const v=>qb v
 | .global g=>bif Nat.ble (Nat.succ g) G.gl then some (.ptr (posOf g) 0) else none
 | .func f=>some (.func f [] [])
def sV:Op->Nat
 | .move ..=>1
 | .assign ..=>2
 | .pick ..=>3
 | .alloc ..=>4
 | .box ..=>5
 | .build ..=>6
 | .buildSlice ..=>7
 | .insert ..=>8
 | .load ..=>9
 | .store ..=>10
 | .ready ..=>11
 | .waits ..=>12
 | .nilCheck ..=>13
 | .binOp ..=>14
 | .unOp ..=>15
 | .convert ..=>16
 | .sliceToArrayPointer ..=>17
 | .makeInterface ..=>18
 | .makeFunc ..=>19
 | .makeMap ..=>20
 | .makeChan ..=>21
 | .makeSlice ..=>22
 | .slice ..=>23
 | .fieldAddr ..=>24
 | .field ..=>25
 | .indexAddr ..=>26
 | .index ..=>27
 | .lookup ..=>28
 | .mapUpdate ..=>29
 | .mapEntry ..=>30
 | .entryStore ..=>31
 | .range ..=>32
 | .next ..=>33
 | .entry ..=>34
 | .typeAssert ..=>35
 | .extract ..=>36
 | .call ..=>37
 | .go ..=>38
 | .defer ..=>39
 | .panic ..=>40
 | .send ..=>41
 | .recv ..=>42
 | .select ..=>43
def dW (P:Program) (G:Cx) (ev:Operand->Option V) (U:D) (op:Op):HR:=
 match kindOf P op with
 | .pure=>match di P ev op with | some v=>.val v U | none=>.err (Nat.add 1000<|sV op)
 | .read=>match gW P ev U op with | some v=>.val v U | none=>.err (Nat.add 2000<|sV op)
 | .alloc=>match gi P ev op with | some (ob,mk)=>.val (mk.of U.next) (U.alloc ob) | none=>.err (Nat.add 3000<|sV op)
 | .jW=>gz P G.ov ev U op
def dI (t:N V) (n:Nat) (dst:Option Nat) (v:V):Option (N V):=
 match dst with
 | none=>some t
 | some k=>bif Nat.ble (Nat.succ k) n then some (t.put (some v)<|posOf k) else none
def unit:V:=.tuple []
def bM (ops:Array Oper) (t:N V) (o:Oper):Option Bool:=
 match o.guard with
 | none=>some true
 | some (j,want)=>match(ops[j]?).bind (·.dst) with
  | some k=>match t.get (posOf k) with
   | some (.bool b)=>some (bif b then want else(bif want then false else true))
   | some (.tuple _)=>some false
   | _=>none
  | none=>some false
abbrev lf:=Code->N V->Nat->List DE->Option Pos->D->CR
def ry (n:Nat) (args:List V):Option (N V):=
 List.rec (motive:=fun _=>Nat->N V->Option (N V)) (fun _ t=>some t) (fun v _ ih k t=>match dI t n (some k) v with | some t'=>ih (Nat.succ k) t' | none=>none) args 0 .leaf
def g9 (P:Program) (t:N V) (U:D):ResultVar->Option V
 | .tmp k=>t.get (posOf k)
 | .cell k ty=>match t.get (posOf k) with
  | some (.ptr b off)=>match U.m.get b with
   | some (.row cells _ _)=>match dU P ty with
    | some (some n)=>bif Nat.ble (off+n) (cX cells) then some (.agg<|takeN (dS cells off) n) else none
    | some none=>nth cells off
    | none=>none
   | _=>none
  | _=>none
def fm (P:Program) (fn:Func) (t:N V) (U:D):Option V:=
 match cW (g9 P t U) fn.results.toList with
 | some [v]=>some v
 | some vs=>some (.tuple vs)
 | none=>none
inductive Md where
 | ret
 | mO (v:V)
 | PG (v:V)
def wP (P:Program) (G:Cx) (ih:lf) (d:List DE) (md:Md) (U:D):Option (Md×D):=
 match d with
 | []=>some (md,U)
 | _=>none
def x8 (P:Program) (G:Cx) (ih:lf) (fn:Func) (md:Md) (t:N V) (d:List DE) (U:D):KR:=
 match wP P G ih d md U with
 | some (.ret,U)=>match fm P fn t U with | some v=>.ret v U | none=>.err 70
 | some (.mO v,U)=>.mO v U
 | _=>.err 71
def lj (P:Program) (G:Cx) (ih:lf) (f:Nat) (args:List V) (U:D):KR:=
 match P.funcs[f]? with
 | some fn=>match fn.body,ry fn.ntmps args with
  | some c,some t=>match ih c t fn.ntmps [] none U with
   | .ok .normal t d U=>x8 P G ih fn .ret t d U
   | .ok .ret t d U=>x8 P G ih fn .ret t d U
   | .ok (.mO v) t d U=>x8 P G ih fn (.mO v) t d U
   | .err k=>.err k
   | _=>.err 72
  | _,_=>.err 73
 | none=>.err 74
def sj (r:KR):KR:=
 match r with
 | .mO _ _=>.err 69
 | r=>r
def mD:V->Bool
 | .bool _ | .int _ _ | .str _ | .nilPtr | .ax | .iR | .nilFunc | .nilIface=>true
 | _=>false
def eH (l:List V):Bool:=List.rec (motive:=fun _=>Bool) true (fun v _ r=>bif mD v then r else false) l
def zO (x y:V):Bool:=
 match x,y with
 | .bool a,.bool b=>bif a then b else(bif b then false else true)
 | .int j a,.int k b=>r9 j k && I a b
 | .str a,.str b=>gL a b
 | .nilPtr,.nilPtr=>true
 | .ax,.ax=>true
 | .iR,.iR=>true
 | .nilFunc,.nilFunc=>true
 | .nilIface,.nilIface=>true
 | _,_=>false
def kS (xs ys:List V):Bool:=
 List.rec (motive:=fun _=>List V->Bool) (fun ys=>List.rec (motive:=fun _=>Bool) true (fun _ _ _=>false) ys)
  (fun x _ ih ys=>List.rec (motive:=fun _=>Bool) false (fun y r _=>bif zO x y then ih r else false) ys) xs ys
def FJ (n:Nat) (v:V):List V:=Nat.rec (motive:=fun _=>List V) [] (fun _ l=>v::l) n
def fc (U:D) (b:Pos) (o:cG) (vb:Pos) (o':cG):D:={next:=U.next,m:=(N.leaf.put (some o) b).put (some o') vb}
def qN (vb:Pos) (vc:List V) (ve e sz:Nat) (r:KR) (ok:pH->Nat->Bool):Option (Nat×List V):=
 match r with
 | .ret (.slice b1 o1 n1 c1) σ1=>
  match σ1.m.get b1,σ1.m.get vb with
  | some (.row cs1 e1 false),some (.row vc1 ve1 false)=>
   bif ok c1 n1 && ((bif kg b1 vb then false else true) && (kS vc vc1 && (Nat.beq ve ve1 && (Nat.beq e e1 && (Nat.ble 1 n1 && (Nat.ble (o1+n1*sz) (cX cs1) && eH (takeN (dS cs1 o1) (n1*sz)))))))) then
    some (n1,takeN (dS cs1 o1) (n1*sz))
   else none
  | _,_=>none
 | _=>none
def DQ (sz:Nat) (c:pH) (_:Nat):Bool:=
 match c with
 | .upto s=>Nat.beq s sz
 | _=>false
def zW (sz:Nat) (c:pH) (n:Nat):Bool:=
 match c with
 | .least a s=>Nat.beq s sz && Nat.ble n a
 | _=>false
def Fb (P:Program) (G:Cx) (ih:lf) (f:Nat) (args:List V) (U:D):KR:=
 match args with
 | [.slice b off n (.upto sz),i,.slice vb voff m (.known mc)]=>
  match U.m.get b,U.m.get vb with
  | some (.row cells e false),some (.row vc ve false)=>
   bif (bif kg b vb then false else true) && (Nat.ble 1 n && (Nat.beq m 1 && (mD i && (eH vc && Nat.ble (off+n*sz) (cX cells))))) then
    match qN vb vc ve e sz (lj P G ih f [.slice b off n (.known n),i,.slice vb voff m (.known mc)]<|fc U b (.row cells e false) vb (.row vc ve false)) (DQ sz),
     qN vb vc ve e sz (lj P G ih f [.slice b off n (.least (Nat.succ n) sz),i,.slice vb voff m (.known mc)]<|fc U b (.row (ie (takeN cells (off+n*sz))<|FJ sz .any) e false) vb (.row vc ve false)) (zW sz) with
    | some (n1,r1),some (n2,r2)=>bif Nat.beq n1 n2 && kS r1 r2 then .ret (.slice U.next 0 n1 (.upto sz)) ((U.drop b).alloc (.row r1 e false)) else .err 75
    | _,_=>.err 76
   else .err 77
  | _,_=>.err 78
 | _=>lj P G ih f args U
def nD (gl:Nat) (U:D) (l:List (Nat×List V)):Bool:=
 List.rec (motive:=fun _=>Bool) true (fun x _ r=>bif Nat.ble (Nat.succ x.1) gl then(match U.m.get x.1 with
  | some (.row cells _ true)=>bif eH x.2 then(bif kS cells x.2 then r else false) else false
  | _=>false) else false) l
def dX (x y:V):Bool:=
 match x,y with
 | .agg xs,.agg ys=>beqL xs ys
 | x,y=>fD x y
where
 beqP (p q:Pos):Bool:=Nat.beq p q
 beqC (c d:pH):Bool:=
  match c,d with
  | .known a,.known b=>Nat.beq a b
  | .upto a,.upto b=>Nat.beq a b
  | _,_=>false
 fD (x y:V):Bool:=
  match x,y with
  | .bool a,.bool b=>bif a then b else(bif b then false else true)
  | .int j a,.int k b=>r9 j k && I a b
  | .str a,.str b=>gL a b
  | .nilPtr,.nilPtr=>true
  | .tok a,.tok b=>Nat.beq a b
  | .ptr b o,.ptr b' o'=>beqP b b' && Nat.beq o o'
  | .ax,.ax=>true
  | .slice b o l c,.slice b' o' l' c'=>beqP b b' && Nat.beq o o' && Nat.beq l l' && beqC c c'
  | .iR,.iR=>true
  | .map b,.map b'=>beqP b b'
  | .nilFunc,.nilFunc=>true
  | .nilIface,.nilIface=>true
  | .func f [] [],.func g [] []=>Nat.beq f g
  | .func f [] [.ptr b o],.func g [] [.ptr b' o']=>Nat.beq f g && beqP b b' && Nat.beq o o'
  | _,_=>false
 beqL (xs ys:List V):Bool:=
  List.rec (motive:=fun _=>List V->Bool) (fun ys=>List.rec (motive:=fun _=>Bool) true (fun _ _ _=>false) ys)
   (fun x _ ih ys=>List.rec (motive:=fun _=>Bool) false (fun y r _=>bif fD x y then ih r else false) ys) xs ys
def IM (l:List (Nat×List V)) (E:Nat->TypeId):N cG:=l.foldl (fun m x=>m.put (some (.row x.2 (E x.1) true)) (posOf x.1)) .leaf
def atEnd (args:List V):Bool:=
 match args with
 | [.slice _ _ n _,.int _ (.ofNat j),_]=>Nat.beq j n
 | _=>false
def pX (P:Program) (G:Cx) (ih:lf) (f:Nat) (args:List V) (U:D):KR:=bif atEnd args then lj P G ih f args U else Fb P G ih f args U
def mw (P:Program) (G:Cx) (ih:lf) (f:Nat) (args:List V) (U:D):KR:=
 match G.HB f args U with
 | some v=>bif mD v then .ret v U else .err 78
 | none=>match G.HD f args with
 | some v=>bif eH args && (mD v && nD G.gl U G.laid) then .ret v U else .err 79
 | none=>match G.stop f args U with
   | some c=>.err c
   | none=>bif G.fk f then sj (pX P G ih f args U) else lj P G ih f args U
def lT (P:Program) (G:Cx) (ih:lf) (r:HR):KR:=
 match r with
 | .val v U=>.ret v U
 | .skip U=>.ret unit U
 | .enter f args U=>mw P G ih f args U
 | .round _ _ _=>.err 66
 | .mO v U=>.mO v U
 | .err e=>.err e
def Lj (pn:Bool) (v:V) (t:N V) (U:D):CR:=bif pn then .ok (.mO v) t [] U else .err 69
def ju (P:Program) (G:Cx) (ih:lf) (pn:Bool) (ops:Array Oper) (n:Nat) (o:Oper) (t:N V) (U:D) (k:N V->D->CR):CR:=
 match bM ops t o with
 | some true=>match lT P G ih (dW P G (bE G t) U o.op) with
  | .ret v U'=>match dI t n o.dst v with | some t'=>k t' U' | none=>.err 80
  | .mO v U'=>Lj pn v t U'
  | .err e=>.err e
 | some false=>match dI t n o.dst unit with | some t'=>k t' U | none=>.err 84
 | none=>.err 85
def sW (P:Program) (G:Cx) (ih:lf) (ops:Array Oper) (n:Nat) (d:List DE) (l:List Oper):N V->D->CR:=
 List.rec (motive:=fun _=>N V->D->CR) (fun t U=>.ok .normal t d U)
  (fun o _ k t U=>ju P G ih true ops n o t U k) l
def ru (A:Array Nat) (i j:Nat):Bool:=(A.getD i 0).testBit j
def waits (ops:Array Oper) (i j:Nat):Bool:=((ops[i]?).map fun o=>o.after.any fun e=>Region.binds .any e && e.on == j).getD false
def DN:Kind->Bool
 | .jW=>true
 | _=>false
def tT:Kind->Bool
 | .read | .alloc=>true
 | _=>false
def jX (P:Program) (ops:Array Oper) (i:Nat):Bool:=match(ops[i]?).map fun o=>kindOf P o.op with | some k=>DN k | none=>false
def gu (P:Program) (ops:Array Oper) (i:Nat):Bool:=match(ops[i]?).map fun o=>kindOf P o.op with | some k=>tT k | none=>false
def slotsOf (ops:Array Oper) (o:Oper):List Nat:=
 (o.op.operands.toList.filterMap fun | .tmp k=>some k | _=>none)++(match o.guard with | some (j,_)=>((ops[j]?).bind (·.dst)).toList | none=>[])
def fe (ops:Array Oper) (i:Nat):Option Nat:=(ops[i]?).bind (·.dst)
def bit (i:Nat):Nat:=Nat.shiftLeft 1 i
def hasB (m i:Nat):Bool:=Nat.beq (Nat.land (Nat.shiftRight m i) 1) 1
def yq (m k:Nat):Bool:=Nat.beq (Nat.land m k) m
def nG (l:List Nat):Nat:=List.rec (motive:=fun _=>Nat) 0 (fun i _ r=>Nat.lor (bit i) r) l
structure Row where
 w:Nat
 h:Bool
 k:Bool
 d:Option Nat
 dm:Nat
 s:Nat
def xw (P:Program) (ops:Array Oper) (o:Oper):Row:=
 {w:=nG (o.after.toList.filterMap fun e=>if Region.binds .any e=true then some e.on else none),h:=DN<|kindOf P o.op,k:=tT<|kindOf P o.op,d:=o.dst,dm:=nG o.dst.toList,s:=nG (slotsOf ops o)}
structure RA where
 r:Row
 a:Nat
def w0 (L:List RA):Nat->Nat:=
 List.rec (motive:=fun _=>Nat->Nat) (fun _=>0) (fun x _ ih w=>Nat.lor (Bool.rec (motive:=fun _=>Nat) 0 x.a<|Nat.beq (Nat.land w 1) 1) (ih<|Nat.shiftRight w 1)) L
def Jo (rows:List Row):List RA->List RA:=
 List.rec (motive:=fun _=>List RA->List RA) (fun L=>L) (fun r _ ih L=>ih (ie L [⟨r,Nat.lor r.w<|w0 L r.w⟩])) rows
def jd (P:Program) (ops:Array Oper):List RA:=Jo (yd (xw P ops) ops.toList) []
def allI {α:Type} (f:Nat->α->Bool) (l:List α):Nat->Bool:=List.rec (motive:=fun _=>Nat->Bool) (fun _=>true) (fun x _ ih i=>Bool.rec (motive:=fun _=>Bool) false (ih<|Nat.succ i) (f i x)) l
def L6 {α:Type} (f:Nat->α->Bool) (l:List α):Nat->Option Nat:=List.rec (motive:=fun _=>Nat->Option Nat) (fun _=>none) (fun x _ ih i=>Bool.rec (motive:=fun _=>Option Nat) (ih<|Nat.succ i) (some i) (f i x)) l
def N8 {α:Type} (f:Nat->α->Bool) (l:List α):Nat->List Nat:=List.rec (motive:=fun _=>Nat->List Nat) (fun _=>[]) (fun x _ ih i=>Bool.rec (motive:=fun _=>List Nat) (ih<|Nat.succ i) (i::ih (Nat.succ i)) (f i x)) l
def Ch (i:Nat) (x:RA) (j:Nat) (y:RA):Bool:=
 Option.rec (motive:=fun _=>Bool) true (fun k=>bif (bif hasB x.r.dm k then Nat.beq j i else true) then(bif hasB x.r.s k then(bif hasB x.a j then true else(bif x.r.k then false else(bif Nat.beq j i then true else hasB y.a i))) else true) else false) y.r.d
def Ji (i:Nat) (x:RA) (j:Nat) (y:RA):Bool:=Bool.rec (motive:=fun _=>Bool) (Ch i x j y) true (Nat.beq (Nat.land (Nat.lor x.r.dm x.r.s) y.r.dm) 0)
def Jy (L:List RA) (n:Nat):Bool:=
 allI (fun i x=>bif Nat.blt x.r.w (bit n) then(bif (bif x.r.k then x.r.d.isSome else true) then(bif yq x.a (Nat.lor x.r.w<|w0 L x.r.w) then allI (Ji i x) L 0 else false) else false) else false) L 0
def Oj (L:List RA) (fuel:Nat):Nat->List (Nat×List Nat):=
 Nat.rec (motive:=fun _=>Nat->List (Nat×List Nat)) (fun _=>[])
  (fun _ ih D_=>Option.rec (motive:=fun _=>List (Nat×List Nat))
   (Option.rec (motive:=fun _=>List (Nat×List Nat)) [] (fun i=>(i,Option.rec (motive:=fun _=>List Nat) [] (fun x=>N8 (fun j y=>bif hasB D_ j then(bif y.r.k then(bif hasB x.a j then false else true) else false) else false) L 0) (nth L i))::ih (Nat.lor D_ (bit i)))
   <|L6 (fun i x=>Bool.rec (motive:=fun _=>Bool) (yq x.r.w D_) false (hasB D_ i)) L 0)
   (fun i=>(i,[])::ih (Nat.lor D_<|bit i))<|L6 (fun i x=>Bool.rec (motive:=fun _=>Bool) (Bool.rec (motive:=fun _=>Bool) (yq x.r.w D_) false x.r.h) false (hasB D_ i)) L 0) fuel
def IE (L:List RA) (i:Nat) (rc:List Nat) (D_:Nat) (x:RA):Bool:=
 bif hasB D_ i then false else(bif yq x.r.w D_ then(bif x.r.h then allI (fun j y=>bif hasB D_ j then(bif hasB x.a j then true else(bif y.r.k then hasB (nG rc) j else true)) else(bif Nat.beq j i then true else(bif yq y.r.w D_ then false else true))) L 0 else true) else false)
def Dl (L:List RA) (n:Nat) (p:List (Nat×List Nat)):Nat->Bool:=
 List.rec (motive:=fun _=>Nat->Bool) (fun D_=>Nat.beq D_ (Nat.sub (bit n) 1))
  (fun p _ ih D_=>Option.rec (motive:=fun _=>Bool) false (fun x=>bif IE L p.1 p.2 D_ x then ih (Nat.lor D_<|bit p.1) else false) (nth L p.1)) p
def jB (P:Program) (ops:Array Oper):List (Nat×List Nat):=Oj (jd P ops) ops.size 0
def sb (P:Program) (ops:Array Oper):Bool:=bif Jy (jd P ops) ops.size then Dl (jd P ops) ops.size (jB P ops) 0 else false
def jh (P:Program) (G:Cx) (ops:Array Oper) (t:N V) (U:D) (i:Nat):Bool:=
 match ops[i]? with
 | some o=>match bM ops t o with
  | some true=>match o.dst with
   | some k=>match t.get (posOf k) with
    | some v=>match kindOf P o.op with
     | .read=>match gW P (bE G t) U o.op with | some u=>dX u v | none=>false
     | .alloc=>match gi P (bE G t) o.op,v with
      | some (.row cs e false,.ptr),.ptr b 0=>match U.m.get b with | some (.row cs' e' false)=>Nat.beq e e' && dX.beqL cs cs' | _=>false
      | some (.row cs e false,.slice n c),.slice b 0 n' (.known c')=>match U.m.get b with | some (.row cs' e' false)=>Nat.beq e e' && dX.beqL cs cs' && Nat.beq n n' && Nat.beq c c' | _=>false
      | _,_=>false
     | _=>false
    | none=>false
   | none=>false
  | some false=>true
  | none=>false
 | none=>false
def dn (P:Program) (G:Cx) (ops:Array Oper) (t:N V) (U:D) (l:List Nat):Bool:=
 List.rec (motive:=fun _=>Bool) true (fun i _ r=>bif jh P G ops t U i then r else false) l
def ke (P:Program) (G:Cx) (ih:lf) (ops:Array Oper) (n:Nat) (d:List DE) (l:List (Nat×List Nat)):N V->D->CR:=
 List.rec (motive:=fun _=>N V->D->CR) (fun t U=>.ok .normal t d U)
  (fun p _ k t U=>match ops[p.1]? with
   | some o=>ju P G ih false ops n o t U (fun t' U'=>bif dn P G ops t' U' p.2 then k t' U' else .err 86)
   | none=>.err 87) l
def uF (P:Program) (G:Cx) (ih:lf) (ops:Array Oper) (n:Nat) (d:List DE) (t:N V) (U:D):CR:=
 bif sb P ops then ke P G ih ops n d (jB P ops) t U else .err 88
def yG (c:Option V) (x y:CR):CR:=
 match c with
 | some (.bool true)=>x
 | some (.bool false)=>y
 | _=>.err 90
def yj (r:CR) (k:N V->List DE->D->CR):CR:=
 match r with
 | .ok .normal t d U=>k t d U
 | r=>r
def tG (id:Nat) (r:CR):CR:=
 match r with
 | .ok (.exit j) t d U=>bif Nat.beq j id then .ok .normal t d U else .ok (.exit j) t d U
 | r=>r
def Em (r:CR):CR:=
 match r with
 | .ok (.goto _) _ _ _=>.err 98
 | r=>r
def N7 (o:Oper):Bool:=
 match o.op with
 | .defer _=>true
 | _=>false
def lE (ops:List Oper):Bool:=ops.any N7
def ya (d:List DE) (r:CR):CR:=
 match r with
 | .ok (.mO v) t _ U=>.ok (.mO v) t d U
 | r=>r
def FQ (P:Program) (G:Cx) (ih:lf) (c:Code) (t:N V) (n:Nat) (d:List DE) (ro:Option Pos) (U:D):CR:=
 match c with
 | .skip | .label _=>.ok .normal t d U
 | .region _ ops draw=>bif draw then uF P G ih ops n d t U else bif lE ops.toList then .err 96 else ya d (sW P G ih ops n d ops.toList t U)
 | .seq a b=>yj (ih a t n d ro U) (fun t d U=>ih b t n d ro U)
 | .cond c a b=>yG (bE G t c) (ih a t n d ro U) (ih b t n d ro U)
 | .block id b=>tG id (ih b t n d ro U)
 | .scope b=>Em (ih b t n d ro U)
 | .loop b=>yj (ih b t n d ro U) (fun t d U=>ih (.loop b) t n d ro U)
 | .exit id=>.ok (.exit id) t d U
 | .ret=>.ok .ret t d U
 | _=>.err 99
def ew (P:Program) (G:Cx) (fuel:Nat):lf:=Nat.rec (motive:=fun _=>lf) (fun _ _ _ _ _ _=>.err 100) (fun _ ih=>FQ P G ih) fuel
def wo (P:Program) (G:Cx) (fuel:Nat) (f:Nat) (args:List V) (U:D):KR:=mw P G (ew P G fuel) f args U
end Go.Ev
end
