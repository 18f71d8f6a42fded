/- Part of the proof: an evaluator of the model's code, rules for walks on it, walks. Without conditions. -/
import Derived.Test.YtmilmijjgnapbaaGreatDoorEb
import Derived.Test.YtmilmijjgnapbaaGreatDoorEd
import Derived.Test.YtmilmijjgnapbaaGreatDoorEc
import Derived.Test.YtmilmijjgnapbaaGreatDoorEa
import Derived.Test.YtmilmijjgnapbaaGreatDoorProg
import Derived.KernelRfl
import Derived.Shelf.SlSortCmp.NoneTotal
import Derived.Test.YtmilmijjgnapbaaGreatDoorRows
set_option linter.unusedSectionVars false
set_option linter.unusedVariables false
set_option linter.unusedSimpArgs false
noncomputable section
namespace Go.Ev
variable [Env]
open Go.Proofs
set_option maxRecDepth 4000
set_option maxHeartbeats 8000000
theorem sL {G:Cx} (hG:Plain G) {K:KP} {g:XG} {a b c d:J} (h:dj K g a b c d) (mo:Int) {V:N} {L:Own} (aq:St V K L):aW Tryz.prog G 7 [.agg [a,b,c,d],.int .i64 mo] V fun v V'=>∃q,v= .bool q/\St V' K L:=by
 have h':=h;obtain⟨hi,ht,hf,X⟩:=h';refine SC hG Tryz.func7 Z<|R5 2 Z<|kp aq Z (cG Z Z) (fun V b1 aq=>?_);refine Rk 7 Z<|SK aq 2 [0,0] Z Z<|Y Z (To hi Z Z Z (e:=2) Z) Z<|Y Z (pD Z Z Z Z) Z<|SK aq 4 [1,0] Z Z<|Y Z (To ht Z Z Z (e:=64) Z) Z<|Y Z (pD Z Z Z Z) Z<|SK aq 5 [2,0] Z Z<|Y Z (To hf Z Z Z (e:=57) Z) Z<|Y Z (pD Z Z Z Z) Z<|SK aq 5 [3,0] Z Z<|Y Z (To X Z Z Z (e:=57) Z) Z<|Y Z (pD Z Z Z Z) Z<|Qz 8 Z ?_;refine Rj 3 Z ?_;obtain⟨LL1,aq,hLL1⟩:=aq.named;refine a6 ([5,6]++rg 36 23) (fun j t V=>∃(i:Nat) (m:Int),j+i=g.threads.length/\t.get 5=some (.int .i64 m)/\t.get 6=some (.int .i64 (.ofNat i))/\St V K LL1) (g.threads.length) ⟨0,_,Z,Z,Z,aq⟩ ?_;clear aq;intro j3 t V an hI;obtain⟨i,m,br,F,bb,aq⟩:=hI;subst hLL1;obtain⟨oo,rfl⟩:=an.q2 F bb Z;refine Ro aq 6 [1,0] Z Z<|Y Z (To ht Z Z Z (e:=64) Z) Z<|vQ 1 Z<|ky Z (D Z) (fun aE=>?_) (fun aE=>?_)
 ·refine R7 6 Z<|aD Z (fun bd=>?_) (fun bd=>?_)
  ·refine Qy 4 Z<|ah Z<|SK aq 6 [1,0] Z Z ?_;obtain⟨bs,a0,bl⟩:=cL aE;refine Tg (e:=64) (m:=1) ht a0 Z Z Z Z (fun bt bm a1 bo a2=>?_);have hr54':=a2;obtain⟨bv,rfl,a3⟩:=hr54';refine Y Z (Tq aq a1 Z Z) Z<|Y Z (To a3 Z Z Z (e:=92) Z) Z<|Y Z (pD Z Z Z Z) Z<|SH 3 Z<|aH<|SF 5 Z<|aL ⟨j3-1,by omega,oF,i+1,_,by omega,Z,cI<|aX (by have:=ht.bK;omega),aq⟩
  refine Ri 3 Z<|aM<|Rg 7 Z ?_;obtain⟨LL2,aq,hLL2⟩:=aq.named;refine a6 ([5,7]++rg 59 24) (fun j t V=>∃(i:Nat) (m:Int),j+i=g.from_.length/\t.get 5=some (.int .i64 m)/\t.get 7=some (.int .i64 (.ofNat i))/\St V K LL2) (g.from_.length) ⟨0,_,Z,Z,Z,aq⟩ ?_;clear aq;intro j7 t V an hI;obtain⟨i,m,be,F,av,aq⟩:=hI;subst hLL2;obtain⟨oo,rfl⟩:=an.q2 F av Z;refine Ro aq 6 [2,0] Z Z<|Y Z (To hf Z Z Z (e:=57) Z) Z<|vQ 1 Z<|ky Z (D Z) (fun aa=>?_) (fun aa=>?_)
  ·refine R7 7 Z<|aD Z (fun ax=>?_) (fun ax=>?_)
   ·refine Qy 4 Z<|ah Z<|SK aq 6 [2,0] Z Z ?_;obtain⟨bf,ab,a4⟩:=cL aa;refine Tg (e:=57) (m:=1) hf ab Z Z Z Z (fun bi a5 ac a9 ad=>?_);have hr78':=ad;obtain⟨bk,rfl,ai⟩:=hr78';refine Y Z (Tq aq ac Z Z) Z<|Y Z (To ai Z Z Z (e:=59) Z) Z<|Y Z (pD Z Z Z Z) Z<|SH 3 Z<|aH<|SF 5 Z<|aL ⟨j7-1,by omega,oF,i+1,_,by omega,Z,cI<|aX (by have:=hf.bK;omega),aq⟩
   refine Ri 3 Z<|aM<|Rg 7 Z ?_;obtain⟨LL3,aq,hLL3⟩:=aq.named;refine a6 ([5,8]++rg 83 24) (fun j t V=>∃(i:Nat) (m:Int),j+i=g.order.length/\t.get 5=some (.int .i64 m)/\t.get 8=some (.int .i64 (.ofNat i))/\St V K LL3) (g.order.length) ⟨0,_,Z,Z,Z,aq⟩ ?_;clear aq;intro M t V an hI;obtain⟨i,m,al,F,Q,aq⟩:=hI;subst hLL3;obtain⟨oo,rfl⟩:=an.q2 F Q Z;refine Ro aq 6 [3,0] Z Z<|Y Z (To X Z Z Z (e:=57) Z) Z<|vQ 1 Z<|ky Z (D Z) (fun I=>?_) (fun I=>?_)
   ·refine R7 7 Z<|aD Z (fun R=>?_) (fun R=>?_)
    ·refine Qy 4 Z<|ah Z<|SK aq 6 [3,0] Z Z ?_;obtain⟨am,u,T⟩:=cL I;refine Tg (e:=57) (m:=1) X u Z Z Z Z (fun ao U A W C=>?_);have hr102':=C;obtain⟨ap,rfl,E⟩:=hr102';refine Y Z (Tq aq A Z Z) Z<|Y Z (To E Z Z Z (e:=59) Z) Z<|Y Z (pD Z Z Z Z) Z<|SH 3 Z<|aH<|SF 5 Z<|aL ⟨M-1,by omega,oF,i+1,_,by omega,Z,cI<|aX (by have:=X.bK;omega),aq⟩
    refine Ri 3 Z<|aM<|SG 10 Z ?_;exact aA Z Z ⟨_,Z,aq.pop⟩
   refine Rm 10 Z<|aR<|aM<|SG 10 Z ?_;exact aA Z Z ⟨_,Z,aq.pop⟩
  refine Rm 10 Z<|aR<|aM<|Rg 7 Z ?_;obtain⟨LL4,aq,hLL4⟩:=aq.named;refine a6 ([5,8]++rg 83 24) (fun j t V=>∃(i:Nat) (m:Int),j+i=g.order.length/\t.get 5=some (.int .i64 m)/\t.get 8=some (.int .i64 (.ofNat i))/\St V K LL4) (g.order.length) ⟨0,_,Z,Z,Z,aq⟩ ?_;clear aq;intro M t V an hI;obtain⟨i,m,al,F,Q,aq⟩:=hI;subst hLL4;obtain⟨oo,rfl⟩:=an.q2 F Q Z;refine Ro aq 6 [3,0] Z Z<|Y Z (To X Z Z Z (e:=57) Z) Z<|vQ 1 Z<|ky Z (D Z) (fun I=>?_) (fun I=>?_)
  ·refine R7 7 Z<|aD Z (fun R=>?_) (fun R=>?_)
   ·refine Qy 4 Z<|ah Z<|SK aq 6 [3,0] Z Z ?_;obtain⟨am,u,T⟩:=cL I;refine Tg (e:=57) (m:=1) X u Z Z Z Z (fun ao U A W C=>?_);have hr102':=C;obtain⟨ap,rfl,E⟩:=hr102';refine Y Z (Tq aq A Z Z) Z<|Y Z (To E Z Z Z (e:=59) Z) Z<|Y Z (pD Z Z Z Z) Z<|SH 3 Z<|aH<|SF 5 Z<|aL ⟨M-1,by omega,oF,i+1,_,by omega,Z,cI<|aX (by have:=X.bK;omega),aq⟩
   refine Ri 3 Z<|aM<|SG 10 Z ?_;exact aA Z Z ⟨_,Z,aq.pop⟩
  refine Rm 10 Z<|aR<|aM<|SG 10 Z ?_;exact aA Z Z ⟨_,Z,aq.pop⟩
 refine Rm 9 Z<|aR<|aM<|Rg 7 Z ?_;obtain⟨LL5,aq,hLL5⟩:=aq.named;refine a6 ([5,7]++rg 59 24) (fun j t V=>∃(i:Nat) (m:Int),j+i=g.from_.length/\t.get 5=some (.int .i64 m)/\t.get 7=some (.int .i64 (.ofNat i))/\St V K LL5) (g.from_.length) ⟨0,_,Z,Z,Z,aq⟩ ?_;clear aq;intro j7 t V an hI;obtain⟨i,m,be,F,av,aq⟩:=hI;subst hLL5;obtain⟨oo,rfl⟩:=an.q2 F av Z;refine Ro aq 6 [2,0] Z Z<|Y Z (To hf Z Z Z (e:=57) Z) Z<|vQ 1 Z<|ky Z (D Z) (fun aa=>?_) (fun aa=>?_)
 ·refine R7 7 Z<|aD Z (fun ax=>?_) (fun ax=>?_)
  ·refine Qy 4 Z<|ah Z<|SK aq 6 [2,0] Z Z ?_;obtain⟨bf,ab,a4⟩:=cL aa;refine Tg (e:=57) (m:=1) hf ab Z Z Z Z (fun bi a5 ac a9 ad=>?_);have hr78':=ad;obtain⟨bk,rfl,ai⟩:=hr78';refine Y Z (Tq aq ac Z Z) Z<|Y Z (To ai Z Z Z (e:=59) Z) Z<|Y Z (pD Z Z Z Z) Z<|SH 3 Z<|aH<|SF 5 Z<|aL ⟨j7-1,by omega,oF,i+1,_,by omega,Z,cI<|aX (by have:=hf.bK;omega),aq⟩
  refine Ri 3 Z<|aM<|Rg 7 Z ?_;obtain⟨LL6,aq,hLL6⟩:=aq.named;refine a6 ([5,8]++rg 83 24) (fun j t V=>∃(i:Nat) (m:Int),j+i=g.order.length/\t.get 5=some (.int .i64 m)/\t.get 8=some (.int .i64 (.ofNat i))/\St V K LL6) (g.order.length) ⟨0,_,Z,Z,Z,aq⟩ ?_;clear aq;intro M t V an hI;obtain⟨i,m,al,F,Q,aq⟩:=hI;subst hLL6;obtain⟨oo,rfl⟩:=an.q2 F Q Z;refine Ro aq 6 [3,0] Z Z<|Y Z (To X Z Z Z (e:=57) Z) Z<|vQ 1 Z<|ky Z (D Z) (fun I=>?_) (fun I=>?_)
  ·refine R7 7 Z<|aD Z (fun R=>?_) (fun R=>?_)
   ·refine Qy 4 Z<|ah Z<|SK aq 6 [3,0] Z Z ?_;obtain⟨am,u,T⟩:=cL I;refine Tg (e:=57) (m:=1) X u Z Z Z Z (fun ao U A W C=>?_);have hr102':=C;obtain⟨ap,rfl,E⟩:=hr102';refine Y Z (Tq aq A Z Z) Z<|Y Z (To E Z Z Z (e:=59) Z) Z<|Y Z (pD Z Z Z Z) Z<|SH 3 Z<|aH<|SF 5 Z<|aL ⟨M-1,by omega,oF,i+1,_,by omega,Z,cI<|aX (by have:=X.bK;omega),aq⟩
   refine Ri 3 Z<|aM<|SG 10 Z ?_;exact aA Z Z ⟨_,Z,aq.pop⟩
  refine Rm 10 Z<|aR<|aM<|SG 10 Z ?_;exact aA Z Z ⟨_,Z,aq.pop⟩
 refine Rm 10 Z<|aR<|aM<|Rg 7 Z ?_;obtain⟨LL7,aq,hLL7⟩:=aq.named;refine a6 ([5,8]++rg 83 24) (fun j t V=>∃(i:Nat) (m:Int),j+i=g.order.length/\t.get 5=some (.int .i64 m)/\t.get 8=some (.int .i64 (.ofNat i))/\St V K LL7) (g.order.length) ⟨0,_,Z,Z,Z,aq⟩ ?_;clear aq;intro M t V an hI;obtain⟨i,m,al,F,Q,aq⟩:=hI;subst hLL7;obtain⟨oo,rfl⟩:=an.q2 F Q Z;refine Ro aq 6 [3,0] Z Z<|Y Z (To X Z Z Z (e:=57) Z) Z<|vQ 1 Z<|ky Z (D Z) (fun I=>?_) (fun I=>?_)
 ·refine R7 7 Z<|aD Z (fun R=>?_) (fun R=>?_)
  ·refine Qy 4 Z<|ah Z<|SK aq 6 [3,0] Z Z ?_;obtain⟨am,u,T⟩:=cL I;refine Tg (e:=57) (m:=1) X u Z Z Z Z (fun ao U A W C=>?_);have hr102':=C;obtain⟨ap,rfl,E⟩:=hr102';refine Y Z (Tq aq A Z Z) Z<|Y Z (To E Z Z Z (e:=59) Z) Z<|Y Z (pD Z Z Z Z) Z<|SH 3 Z<|aH<|SF 5 Z<|aL ⟨M-1,by omega,oF,i+1,_,by omega,Z,cI<|aX (by have:=X.bK;omega),aq⟩
  refine Ri 3 Z<|aM<|SG 10 Z ?_;exact aA Z Z ⟨_,Z,aq.pop⟩
 refine Rm 10 Z<|aR<|aM<|SG 10 Z ?_;exact aA Z Z ⟨_,Z,aq.pop⟩
def dI (l:List XC) (g:XG):XG:=if eV l g=0 then An l (jy l) g else XG.nil
theorem vo {l:List XC} {g:XG} (h:eV l g=0):og l (jy l) g/\l.length<=4:=by
 unfold eV at h;split at h
 ·cases h
 split at h
 ·cases h
 rename_i h1 b;have d:bY g=0:=Classical.byContradiction fun hh=>b (.inl hh)
 have h4:l.length=g.threads.length:=Classical.byContradiction fun hh=>b (.inr hh)
 exact⟨⟨ei.1 d,h4,gz⟩,by omega⟩
theorem sg {l:List XC} {g:XG} (h:eV l g=0):lH l g=sf l (jy l) g:=if_pos h
theorem oK {l:List XC} {g:XG} (h:eV l g=0):(lH l g)[0]? =some (dI l g):=by
 obtain⟨x,r,hx⟩:=wU (vo h).1;unfold dI An;rw[sg h,if_pos h,hx];rfl
theorem GX {G R:Cx} (M:PE G R) {K:KP} {k:Nat} {l:List XC} {lv:J} (hl:bG K 2 (gf K k) l lv) {g:XG} {a b c d:J} (T:dj K g a b c d) {V:N} {L:Own} (aq:St V K L):
  aW Tryz.prog G 17 [lv,.agg [a,b,c,d]] V fun v V'=>∃K' a' b' c' d',v= .tuple [.agg [a',b',c',d'],.int .i64<|eV l g]/\KP.le K K'/\dj K' (dI l g) a' b' c' d'/\St V' K' L:=by
 have hG:=M.p;refine aY hG Tryz.func17 Z (t:=(PT.leaf.put (some (lv)) 0).put (some (.agg [a,b,c,d])) 1) (by rfl) ?_;refine H ?_;refine ah Z ?_;refine bJ aq Z (cG Z Z) (fun _=>Z) (fun V b1 aq=>?_);refine bJ aq Z (dG (cs:=[.au,.au,.au,.au]) S S) (fun _=>Z) (fun V b2 aq=>?_);refine Y Z (ak Z) Z ?_;refine af ?_;refine B ?_;refine H ?_;refine ah Z ?_;refine Y Z (D Z) Z ?_;refine Y Z (bp Z (aq.get 1 Z) (n:=4) (vs:=[_,_,_,_]) S (Nat.le_of_ble_eq_true Z) Z) Z ?_;refine cR Z (aT Z Z Z S) (fun _=>Z) (Bb M hl T aq) ?_;rintro _ V ⟨Q,ac,rfl,C,E,aq⟩;refine Y Z (D Z) Z ?_;refine Y Z (bD Z Z) Z ?_;refine Y Z (bD Z Z) Z ?_;refine Y Z (ak Z) Z ?_;refine Y Z (ak Z) Z ?_;refine af ?_;refine B ?_;refine H ?_;refine H ?_;refine ah Z ?_;refine Y Z (D Z) Z ?_;refine Y Z (aC Z Z Z) Z ?_;refine af ?_;refine B ?_;refine aD Z (fun A=>?_) (fun A=>?_)
 ·refine H ?_;refine ah Z ?_;refine Y Z (dC (places:=[(0,1),(1,1),(2,1),(3,1)]) (zero:=[.au,.au,.au,.au]) (cs:=[_,_,_,_]) S S S Z S) Z ?_;refine Y Z (D Z) Z ?_;refine cF aq Z (bg Z Z Z (aq.get 0 Z) (m:=4) S Z (Nat.le_of_ble_eq_true Z) (ar Z<|ar Z<|ar Z<|ar Z aQ) (cells':=[_,_,_,_]) Z) Z (fun V aq=>?_);refine Y Z (ak Z) Z ?_;refine af ?_;refine B ?_;refine aF ?_;refine ay (?_);exact⟨.inr Z,_,dJ Z Z (aq.get 0 Z) (m:=4) S Z Z,Q,_,_,_,_,Z,C,by unfold dI;rw[if_neg<|fX<|bL A];exact dj.zero,aq.pop.pop⟩
 refine aG ?_;refine B ?_;refine H ?_;refine ah Z ?_;refine Y Z (D Z) Z ?_;refine cm (e:=27) (m:=4) E (oK<|fl A) Z Z S S Z Z (fun _=>Z) (fun ad aa F ab I=>?_);have hr19':=I;obtain⟨ai,al,am,an,rfl,u⟩:=hr19';refine Y Z (bE aq F Z S Z) Z ?_;refine cF aq Z (bg Z Z Z (aq.get 0 Z) (m:=4) S Z (Nat.le_of_ble_eq_true Z) (ar u.init.leaf.2<|ar u.threads.leaf.2<|ar u.from_.leaf.2<|ar u.order.leaf.2 aQ) (cells':=[_,_,_,_]) Z) Z (fun V aq=>?_);refine Y Z (ak Z) Z ?_;refine af ?_;refine B ?_;refine aF ?_;have hE:=fl A;exact⟨.inr Z,_,dJ Z Z (aq.get 0 Z) (m:=4) S Z Z,Q,_,_,_,_,by rw[hE],C,u,aq.pop.pop⟩
theorem Nr {G I:Cx} (E:PE G I) {K:KP} {k:Nat} {l:List XC} {lv:J} (hl:bG K 2 (gf K k) l lv) {g:XG} {a b c d:J} (F:dj K g a b c d) {V:N} {L:Own} (aq:St V K L):
  aW Tryz.prog G 22 [lv,.agg [a,b,c,d]] V fun v V'=>v= .bool (bif bM (eV l g) 0 then bM (dQ (dI l g) g) 0 else false)/\St V' K L:=by
 have hG:=E.p;refine aY hG Tryz.func22 Z (t:=(PT.leaf.put (some (lv)) 0).put (some (.agg [a,b,c,d])) 1) (by rfl) ?_;refine H ?_;refine ah Z ?_;refine bJ aq Z (cG Z Z) (fun _=>Z) (fun V b1 aq=>?_);refine Y Z (ak Z) Z ?_;refine af ?_;refine B ?_;refine H ?_;refine ah Z ?_;refine Y Z (D Z) Z ?_;refine Y Z (bp Z (aq.get 0 Z) (n:=4) (vs:=[_,_,_,_]) S (Nat.le_of_ble_eq_true Z) Z) Z ?_;refine cR Z (aT Z Z Z S) (fun _=>Z) (GX E hl F aq) ?_;rintro _ V ⟨K1,aa,ab,qt,ac,rfl,A,u,aq⟩;have hg1:=F.mono A;refine Y Z (D Z) Z ?_;refine Y Z (bD Z Z) Z ?_;refine Y Z (bD Z Z) Z ?_;refine bJ aq Z (dG (cs:=[.au,.au,.au,.au]) S S) (fun _=>Z) (fun V b2 aq=>?_);refine cF aq Z (bg Z Z Z (aq.get 0 Z) (m:=4) S Z (Nat.le_of_ble_eq_true Z) (ar u.init.leaf.2<|ar u.threads.leaf.2<|ar u.from_.leaf.2<|ar u.order.leaf.2 aQ) (cells':=[_,_,_,_]) Z) Z (fun V aq=>?_);refine Y Z (ak Z) Z ?_;refine af ?_;refine B ?_;refine H ?_;refine ah Z ?_;refine Y Z (D Z) Z ?_;refine Y Z (aC Z Z Z) Z ?_;refine bx Z (D Z) (fun _=>Z) (fun C=>?_) (fun C=>?_)
 ·refine Y Z (bp Z (aq.get 0 Z) (n:=4) (vs:=[_,_,_,_]) S (Nat.le_of_ble_eq_true Z) Z) Z ?_;refine Y Z (bp Z (aq.get 1 Z) (n:=4) (vs:=[_,_,_,_]) S (Nat.le_of_ble_eq_true Z) Z) Z ?_;refine bB Z (aT Z Z Z S) (fun _=>Z) (ql hG u hg1 aq) (fun V aq=>?_);refine Y Z (aC Z Z Z) Z ?_;refine Y Z (aJ Z Z) Z ?_;refine Y Z (ak Z) Z ?_;refine af ?_;refine B ?_;refine aF ?_;exact aA Z Z ⟨by rw[show bM (eV l g) 0=true from C];rfl,(aq.pop.pop).weaken A⟩
 refine ae Z Z ?_;refine ae Z Z ?_;refine ae Z Z ?_;refine ae Z Z ?_;refine Y Z (aJ Z Z) Z ?_;refine Y Z (ak Z) Z ?_;refine af ?_;refine B ?_;refine aF ?_;exact aA Z Z ⟨by rw[show bM (eV l g) 0=false from C];rfl,(aq.pop.pop).weaken A⟩
theorem Dg {G:Cx} (hG:Plain G) {K:KP} {l1 l2:List XG} {W X:J} (h1:bG K 4 (RG K) l1 W) (h2:bG K 4 (RG K) l2 X) {V:N} {L:Own} (aq:St V K L):
  aW Tryz.prog G 21 [W,X] V fun v V'=>(∃q,v= .bool q/\(q=true↔l1=l2))/\St V' K L:=by
 refine aY hG Tryz.func21 Z (t:=(PT.leaf.put (some (W)) 0).put (some (X)) 1) (by rfl) ?_;refine H ?_;refine ah Z ?_;refine Y Z (ak Z) Z ?_;refine af ?_;refine B ?_;refine H ?_;refine H ?_;refine ah Z ?_;refine Y Z (D Z) Z ?_;refine Y Z (aO h1 Z Z Z (e:=27) S Z) Z ?_;refine Y Z (D Z) Z ?_;refine Y Z (aO h2 Z Z Z (e:=27) S Z) Z ?_;refine Y Z (aC Z Z Z) Z ?_;refine af ?_;refine B ?_;refine aD Z (fun C=>?_) (fun C=>?_)
 ·refine H ?_;refine ah Z ?_;refine Y Z (ak Z) Z ?_;refine af ?_;refine B ?_;refine aF ?_;refine ay (?_);exact aA Z Z ⟨⟨_,Z,fun h=>absurd h (by decide),fun e=>absurd (congrArg (fun x=>Int.ofNat x.length) e) (fX<|bL C)⟩,aq⟩
 have am:l1.length=l2.length:=iJ_ (fl C);refine aG ?_;refine B ?_;refine H ?_;refine H ?_;refine ah Z ?_;refine Y Z (ak Z) Z ?_;refine af ?_;refine B ?_;refine aI ?_;obtain⟨LL1,aq,hLL1⟩:=aq.named;refine a6 [4,5,11,12,13,14,15,16,17,18,19,20,21,22,23,24,25,26] (fun j t V=>∃(i:Nat),(j+i=l1.length/\l1.take i=l2.take i)/\t.get 5=some (.int .i64 (.ofNat i))/\St V K LL1) (l1.length) ⟨0,⟨Z,Z⟩,Z,aq⟩ ?_;clear aq;intro j4 t V an hI;obtain⟨i,⟨ao,u⟩,E,aq⟩:=hI;subst hLL1;replace an:=an.bS Z Z;obtain⟨o4,o5,ap,av,ax,aE,a0,a1,an⟩:=an;replace an:=an.bS Z Z;obtain⟨a2,a3,a4,a5,a9,bb,bd,be,an⟩:=an;replace an:=an.eh Z;obtain⟨bf,an⟩:=an;replace an:=an.eh Z;obtain⟨bi,an⟩:=an;obtain rfl:=an.nil;clear an;replace E:o5=some _:=E;subst E;refine H ?_;refine H ?_;refine ah Z ?_;refine Y Z (D Z) Z ?_;refine Y Z (D Z) Z ?_;refine Y Z (aO h1 Z Z Z (e:=27) S Z) Z ?_;refine Y Z (aC Z Z Z) Z ?_;refine af ?_;refine B ?_;refine aD Z (fun d=>?_) (fun d=>?_)
 ·refine aG ?_;refine B ?_;refine H ?_;refine aI ?_;refine H ?_;refine aU (l:=[(0,[]),(1,[]),(2,[]),(3,[]),(4,[]),(5,[]),(6,[]),(7,[]),(8,[]),(9,[])]) S S ?_;refine aj Z Z (D Z) Z ?_;refine aj Z Z (D Z) Z ?_;obtain⟨bk,A,ab⟩:=cL d;refine bV (e:=27) (m:=4) h1 A Z Z Z S S Z Z (fun _=>Z) (fun bl ac I ad M=>?_);have hr19':=M;obtain⟨bm,bo,br,bs,rfl,Q⟩:=hr19';refine aj Z Z (bE aq I Z S Z) Z ?_;refine aj Z Z (D Z) Z ?_;refine aj Z Z (D Z) Z ?_;obtain⟨bt,b⟩:=bZ (show i<l2.length by have:=aS d;omega);refine bV (e:=27) (m:=4) h2 b Z Z Z S S Z Z (fun _=>Z) (fun bv ai R al T=>?_);have hr23':=T;obtain⟨bw,b0,b1,b2,rfl,U⟩:=hr23';refine aj Z Z (bE aq R Z S Z) Z ?_;refine dZ Z Z (aT Z Z Z S) (fun _=>Z) (AY hG aq Q U) (fun V aq=>?_);refine⟨aV,?_⟩;refine aj Z Z (dV Z) Z ?_;refine a8 ?_;refine B ?_;refine aD Z (fun F=>?_) (fun F=>?_)
  ·refine H ?_;refine ah Z ?_;refine Y Z (ak Z) Z ?_;refine af ?_;refine B ?_;refine aF ?_;refine aK<|ay<|bq<|aK<|ay (?_);exact aA Z Z ⟨⟨_,Z,fun h=>absurd h (by decide),fun e=>by subst e;rw[A] at b;cases b;exact absurd F (by rw[bR.2 Z];decide)⟩,aq⟩
  refine aG ?_;refine aH ?_;refine B ?_;refine ah Z ?_;refine Y Z (D Z) Z ?_;refine Y Z (aC Z Z Z) Z ?_;refine Y Z (ak Z) Z ?_;refine af ?_;refine aL ⟨j4-1,(by have:=aS d;omega),(by(iterate 35 refine bc.put Z ?_);exact bc.refl _ _),i+1,⟨by have:=aS d;omega,by rw[fb A,fb b,u,bR.1<|a7 F]⟩,congrArg (fun z=>some (J.int .i64 z))<|aX (by have:=h1.bK;omega),aq⟩
 refine ba ?_;refine aP ?_;refine aR ?_;refine aM ?_;refine B ?_;refine H ?_;refine ah Z ?_;refine Y Z (ak Z) Z ?_;refine af ?_;refine B ?_;refine aF ?_
 exact aA Z Z ⟨⟨_,Z,fun _=>by
   have aa:l1.length<=i:=bC d;have e1:=tL_ aa;have e2:=tL_ (show l2.length<=i by omega);rw[e1,e2] at u;exact u,fun _=>Z⟩,aq⟩
theorem Df {G:Cx} (R:Plain G) {K:KP} {l:List XG} {v:J} (h:bG K 4 (RG K) l v) (nn:Nat) (mo:Int) {V:N} {L:Own} (aq:St V K L):
  aW Tryz.prog G 8 [v,.int .i64 (.ofNat nn),.int .i64 mo] V fun u V'=>(∃q,u= .bool q/\(q=true->l.length<=nn))/\St V' K L:=by
 refine aY R Tryz.func8 Z (t:=((PT.leaf.put (some (v)) 0).put (some (.int .i64 (.ofNat nn))) 1).put (some (.int .i64 mo)) 2) (by rfl) ?_;refine H ?_;refine ah Z ?_;refine Y Z (ak Z) Z ?_;refine af ?_;refine B ?_;refine H ?_;refine H ?_;refine ah Z ?_;refine Y Z (ak Z) Z ?_;refine af ?_;refine B ?_;refine aI ?_;obtain⟨LL1,aq,hLL1⟩:=aq.named;refine a6 [6,7,8,9,10,11,12,13,14,15,16,17,18,19,20,21,22,23,24,25] (fun j t V=>∃(i:Nat),j+i=l.length/\t.get 7=some (.int .i64 (.ofNat i))/\St V K LL1) (l.length) ⟨0,Z,Z,aq⟩ ?_;clear aq;intro T t V an U;obtain⟨i,ad,A,aq⟩:=U;subst hLL1;replace an:=an.bS Z Z;obtain⟨o6,W,o8,o9,ai,al,am,ao,an⟩:=an;replace an:=an.bS Z Z;obtain⟨ap,av,ax,aE,a0,a1,a2,a3,an⟩:=an;replace an:=an.mQ Z;obtain⟨a4,a5,a9,bb,an⟩:=an;obtain rfl:=an.nil;clear an;replace A:W=some _:=A;subst A;refine H ?_;refine H ?_;refine ah Z ?_;refine Y Z (D Z) Z ?_;refine Y Z (D Z) Z ?_;refine Y Z (aO h Z Z Z (e:=27) S Z) Z ?_;refine Y Z (aC Z Z Z) Z ?_;refine bx Z (D Z) (fun _=>Z) (fun d=>?_) (fun d=>?_)
 ·refine Y Z (D Z) Z ?_;refine Y Z (D Z) Z ?_;refine Y Z (aC Z Z Z) Z ?_;refine Y Z (aJ Z Z) Z ?_;refine af ?_;refine B ?_;refine aD Z (fun M=>?_) (fun M=>?_)
  ·refine aG ?_;refine B ?_;refine H ?_;refine aI ?_;refine H ?_;refine ah Z ?_;refine Y Z (D Z) Z ?_;refine Y Z (D Z) Z ?_;obtain⟨bd,C,aa⟩:=cL d;refine cm (e:=27) (m:=4) h C Z Z S S Z Z (fun _=>Z) (fun be ab E ac F=>?_);have hr21':=F;obtain⟨bf,bi,bk,bl,rfl,I⟩:=hr21';refine Y Z (bE aq E Z S Z) Z ?_;refine Y Z (D Z) Z ?_;refine cR Z (aT Z Z Z S) (fun _=>Z) (sL R I _ aq) ?_;rintro _ V ⟨bm,rfl,aq⟩;refine Y Z (dV Z) Z ?_;refine af ?_;refine B ?_;refine aD Z (fun Q=>?_) (fun Q=>?_)
   ·refine H ?_;refine ah Z ?_;refine Y Z (ak Z) Z ?_;refine af ?_;refine B ?_;refine aF ?_;refine aK<|ay<|bq<|aK<|ay (?_);exact aA Z Z ⟨⟨_,Z,fun h=>absurd h (by decide)⟩,aq⟩
   refine aG ?_;refine aH ?_;refine B ?_;refine ah Z ?_;refine Y Z (D Z) Z ?_;refine Y Z (aC Z Z Z) Z ?_;refine Y Z (ak Z) Z ?_;refine af ?_;refine aL ⟨T-1,(by have:=aS d;omega),(by(iterate 39 refine bc.put Z ?_);exact bc.refl _ _),i+1,by have:=aS d;omega,congrArg (fun z=>some (J.int .i64 z))<|aX (by have:=h.bK;omega),aq⟩
  refine ba ?_;refine aP ?_;refine aR ?_;refine aM ?_;refine B ?_;refine H ?_;refine ah Z ?_;refine Y Z (D Z) Z ?_;refine Y Z (aO h Z Z Z (e:=27) S Z) Z ?_;refine Y Z (D Z) Z ?_;refine Y Z (aC Z Z Z) Z ?_;refine Y Z (ak Z) Z ?_;refine af ?_;refine B ?_;refine aF ?_;exact aA Z Z ⟨⟨_,Z,fun hq=>bC (a:=nn) (b:=l.length) (bL hq)⟩,aq⟩
 refine ae Z Z ?_;refine ae Z Z ?_;refine ae Z Z ?_;refine Y Z (aJ Z Z) Z ?_;refine af ?_;refine B ?_;refine bz Z ?_;refine ba ?_;refine aP ?_;refine aR ?_;refine aM ?_;refine B ?_;refine H ?_;refine ah Z ?_;refine Y Z (D Z) Z ?_;refine Y Z (aO h Z Z Z (e:=27) S Z) Z ?_;refine Y Z (D Z) Z ?_;refine Y Z (aC Z Z Z) Z ?_;refine Y Z (ak Z) Z ?_;refine af ?_;refine B ?_;refine aF ?_;exact aA Z Z ⟨⟨_,Z,fun hq=>bC (a:=nn) (b:=l.length) (bL hq)⟩,aq⟩
theorem Ms {x y:cQ}:bW [x.cq,x.index] [y.cq,y.index]=bW x y:=cQ.same
theorem Ny {G:Cx} (T:Plain G) {K:KP} {g:XG} {a b c d:J} (h:dj K g a b c d) (e:cU) {V:N} {L:Own} (aq:St V K L):aW Tryz.prog G 56 [.agg [a,b,c,d],.agg<|ints e.ints] V fun v V'=>v= .bool (bQ e (.ofNat g.init.length))/\St V' K L:=by
 have h':=h;obtain⟨hi,ht,hf,ho⟩:=h';refine SC T Tryz.func56 Z<|R5 2 Z<|kp aq Z (cG Z Z) (fun V b1 aq=>?_);refine kp aq Z (cG Z Z) (fun V b2 aq=>?_);refine Qz 6 Z<|SK aq 3 [0,0] Z Z<|ky Z (D Z) (fun Q=>?_) (fun Q=>?_)
 ·refine Rl 44 Z ?_;exact aA Z Z ⟨cB (by unfold bQ cC;simp only[Q,ct,cf]),aq.pop.pop⟩
 refine SK aq 4 [0,0] Z Z<|ky Z (D Z) (fun m=>?_) (fun m=>?_)
 ·refine Rl 39 Z ?_;exact aA Z Z ⟨cB (by unfold bQ cC;simp only[Q,m,ct,cf]),aq.pop.pop⟩
 refine SK aq 4 [2,0] Z Z<|ky Z (D Z) (fun A=>?_) (fun A=>?_)
 ·refine Rl 34 Z ?_;exact aA Z Z ⟨cB (by unfold bQ cC;simp only[Q,m,A,ct,cf]),aq.pop.pop⟩
 refine SK aq 4 [2,0] Z Z<|ky Z (D Z) (fun C=>?_) (fun C=>?_)
 ·refine Rl 29 Z ?_;exact aA Z Z ⟨cB (by unfold bQ cC;simp only[Q,m,A,C,ct,cf]),aq.pop.pop⟩
 refine Y Z (Tn Z aq.g0 (n:=5) (vs:=[_,_,_,_,_]) Z) Z<|bB Z (Tk Z Z Z) (fun _=>Z) (Dm T _ aq) (fun V aq=>?_);refine Y Z (dV Z) Z<|ky Z (D Z) (fun F=>?_) (fun F=>?_)
 ·refine SK aq 5 [3,0] Z Z<|ky Z (D Z) (fun R=>?_) (fun R=>?_)
  ·refine Rl 19 Z ?_;exact aA Z Z ⟨cB (by unfold bQ cC;simp only[Q,m,A,C,F,R,ct,cf]),aq.pop.pop⟩
  refine Y Z (Tn Z aq.g0 (n:=5) (vs:=[_,_,_,_,_]) Z) Z<|bB Z (Tk Z Z Z) (fun _=>Z) (nf T _ aq) (fun V aq=>?_);refine Y Z (dV Z) Z<|ky Z (D Z) (fun E=>?_) (fun E=>?_)
  ·refine SK aq 5 [4,0] Z Z<|R7 2 Z<|aD Z (fun M=>?_) (fun M=>?_)
   ·refine R6 7 Z ?_;exact aA Z Z ⟨cB (by unfold bQ cC;simp only[Q,m,A,C,F,R,E,M,ct,cf]),aq.pop.pop⟩
   refine aG<|Ro aq 6 [0,0] Z Z<|R7 2 Z<|aD Z (fun u=>?_) (fun u=>?_)
   ·refine R5 2 Z<|Sa aq 7 [1,0] Z Z<|ay (?_);exact aA Z Z ⟨cB (by unfold bQ cC;simp only[Q,m,A,C,F,R,E,M,u,ct,cf]),aq.pop.pop⟩
   refine aG<|R5 2 Z<|SK aq 3 [1,0] Z Z<|ky Z (D Z) (fun I=>?_) (fun I=>?_)
   ·refine SK aq 4 [1,0,0,1] Z Z<|Y Z (To hi Z Z Z (e:=2) Z) Z<|R8 6 Z ?_;exact aA Z Z ⟨cB (by unfold bQ cC;simp only[Q,m,A,C,F,R,E,M,u,I,ct,cf]),aq.pop.pop⟩
   refine R8 11 Z ?_;exact aA Z Z ⟨cB (by unfold bQ cC;simp only[Q,m,A,C,F,R,E,M,u,I,ct,cf]),aq.pop.pop⟩
  refine R7 8 Z<|aG<|Ro aq 6 [0,0] Z Z<|R7 2 Z<|aD Z (fun u=>?_) (fun u=>?_)
  ·refine R5 2 Z<|Sa aq 7 [1,0] Z Z<|ay (?_);exact aA Z Z ⟨cB (by unfold bQ cC;simp only[Q,m,A,C,F,R,E,u,ct,cf]),aq.pop.pop⟩
  refine aG<|R5 2 Z<|SK aq 3 [1,0] Z Z<|ky Z (D Z) (fun I=>?_) (fun I=>?_)
  ·refine SK aq 4 [1,0,0,1] Z Z<|Y Z (To hi Z Z Z (e:=2) Z) Z<|R8 6 Z ?_;exact aA Z Z ⟨cB (by unfold bQ cC;simp only[Q,m,A,C,F,R,E,u,I,ct,cf]),aq.pop.pop⟩
  refine R8 11 Z ?_;exact aA Z Z ⟨cB (by unfold bQ cC;simp only[Q,m,A,C,F,R,E,u,I,ct,cf]),aq.pop.pop⟩
 refine SI 6 Z<|Y Z (Tn Z aq.g0 (n:=5) (vs:=[_,_,_,_,_]) Z) Z<|bB Z (Tk Z Z Z) (fun _=>Z) (nf T _ aq) (fun V aq=>?_);refine Y Z (dV Z) Z<|ky Z (D Z) (fun E=>?_) (fun E=>?_)
 ·refine SK aq 5 [4,0] Z Z<|R7 2 Z<|aD Z (fun M=>?_) (fun M=>?_)
  ·refine R6 7 Z ?_;exact aA Z Z ⟨cB (by unfold bQ cC;simp only[Q,m,A,C,F,E,M,ct,cf]),aq.pop.pop⟩
  refine aG<|Ro aq 6 [0,0] Z Z<|R7 2 Z<|aD Z (fun u=>?_) (fun u=>?_)
  ·refine R5 2 Z<|Sa aq 7 [1,0] Z Z<|ay (?_);exact aA Z Z ⟨cB (by unfold bQ cC;simp only[Q,m,A,C,F,E,M,u,ct,cf]),aq.pop.pop⟩
  refine aG<|R5 2 Z<|SK aq 3 [1,0] Z Z<|ky Z (D Z) (fun I=>?_) (fun I=>?_)
  ·refine SK aq 4 [1,0,0,1] Z Z<|Y Z (To hi Z Z Z (e:=2) Z) Z<|R8 6 Z ?_;exact aA Z Z ⟨cB (by unfold bQ cC;simp only[Q,m,A,C,F,E,M,u,I,ct,cf]),aq.pop.pop⟩
  refine R8 11 Z ?_;exact aA Z Z ⟨cB (by unfold bQ cC;simp only[Q,m,A,C,F,E,M,u,I,ct,cf]),aq.pop.pop⟩
 refine R7 8 Z<|aG<|Ro aq 6 [0,0] Z Z<|R7 2 Z<|aD Z (fun u=>?_) (fun u=>?_)
 ·refine R5 2 Z<|Sa aq 7 [1,0] Z Z<|ay (?_);exact aA Z Z ⟨cB (by unfold bQ cC;simp only[Q,m,A,C,F,E,u,ct,cf]),aq.pop.pop⟩
 refine aG<|R5 2 Z<|SK aq 3 [1,0] Z Z<|ky Z (D Z) (fun I=>?_) (fun I=>?_)
 ·refine SK aq 4 [1,0,0,1] Z Z<|Y Z (To hi Z Z Z (e:=2) Z) Z<|R8 6 Z ?_;exact aA Z Z ⟨cB (by unfold bQ cC;simp only[Q,m,A,C,F,E,u,I,ct,cf]),aq.pop.pop⟩
 refine R8 11 Z ?_;exact aA Z Z ⟨cB (by unfold bQ cC;simp only[Q,m,A,C,F,E,u,I,ct,cf]),aq.pop.pop⟩
theorem Is {G:Cx} (I:Plain G) {K:KP} {g:XG} {a b c d:J} (h:dj K g a b c d) (th ix M Q:Int) {V:N} {L:Own} (aq:St V K L):aW Tryz.prog G 57 [.agg [a,b,c,d],.agg [.int .i64 th,.int .i64 ix],.agg [.int .i64 M,.int .i64 Q]] V fun v V'=>v= .bool (cV g ⟨th,ix⟩ ⟨M,Q⟩)/\St V' K L:=by
 have h':=h;obtain⟨hi,ht,hf,ho⟩:=h';refine SC I Tryz.func57 Z<|R5 2 Z<|kp aq Z (cG Z Z) (fun V b1 aq=>?_);refine kp aq Z (cG Z Z) (fun V b2 aq=>?_);refine kp aq Z (cG Z Z) (fun V b3 aq=>?_);refine Rk 5 Z<|Y Z (Tn Z (aq.get 2 Z) (n:=4) (vs:=[_,_,_,_]) Z) Z<|Y Z (Tn Z aq.g1 (n:=2) (vs:=[_,_]) Z) Z<|bB Z (Tk Z Z Z) (fun _=>Z) (xK I h _ _ aq) (fun V aq=>?_);refine SI 3 Z<|kp aq Z (Tp (cs:=[iZ,iZ,iZ,iZ,iZ])) (fun V b4 aq=>?_);refine cF aq Z (Ts Z Z Z aq.g0 (m:=5) Z Z (cells':=[_,_,_,_,_]) Z) Z (fun V aq=>?_);refine Qz 6 Z<|Y Z (Tn Z aq.g0 (n:=5) (vs:=[_,_,_,_,_]) Z) Z<|bB Z (Tk Z Z Z) (fun _=>Z) (Dm I _ aq) (fun V aq=>?_);refine Y Z (dV Z) Z<|R7 2 Z<|aD Z (fun u=>?_) (fun u=>?_)
 ·refine R5 2 Z (Y Z (Tn Z aq.g1 (n:=2) (vs:=[_,_]) Z) Z (Y Z (Tj (places:=[(0,1),(1,1)]) (zero:=[iZ,iZ]) (cs:=[_,_]) Z) Z<|Y Z (Lx (n:=2) (ca:=[_,_]) (cb:=[_,_]) S Z Z Z Z) Z<|Rl 5 Z ?_));exact aA Z Z ⟨cB (by unfold cV;simp only[u,ct,cf]),aq.pop.pop.pop.pop⟩
 refine aG<|R5 2 Z<|Y Z (Tn Z (aq.get 3 Z) (n:=4) (vs:=[_,_,_,_]) Z) Z<|Y Z (Tn Z aq.g1 (n:=2) (vs:=[_,_]) Z) Z<|bB Z (Tk Z Z Z) (fun _=>Z) (xK I h _ _ aq) (fun V aq=>?_);refine SI 3 Z<|kp aq Z (Tp (cs:=[iZ,iZ,iZ,iZ,iZ])) (fun V b5 aq=>?_);refine cF aq Z (Ts Z Z Z aq.g0 (m:=5) Z Z (cells':=[_,_,_,_,_]) Z) Z (fun V aq=>?_);refine Rk 6 Z<|ky Z (D Z) (fun A=>?_) (fun A=>?_)
 ·refine Y Z (Tn Z (aq.get 2 Z) (n:=2) (vs:=[_,_]) Z) Z<|Y Z (Tn Z (aq.get 3 Z) (n:=2) (vs:=[_,_]) Z) Z<|Y Z (G6 (n:=2) (ca:=[_,_]) (cb:=[_,_]) S Z Z Z Z) Z<|vQ 1 Z<|ky Z (D Z) (fun C=>?_) (fun C=>?_)
  ·refine Y Z (Tn Z aq.g0 (n:=5) (vs:=[_,_,_,_,_]) Z) Z<|bB Z (Tk Z Z Z) (fun _=>Z) (nf I _ aq) (fun V aq=>?_);refine vQ 1 Z<|ky Z (D Z) (fun E=>?_) (fun E=>?_)
   ·refine SK aq 6 [1,0,1,1] Z Z<|ky Z (D Z) (fun F=>?_) (fun F=>?_)
    ·refine Sa aq 10 [4,0,3,1] Z Z ?_;exact aA Z Z ⟨cB (by unfold cV;simp only[u,A,C,E,F,ct,cf]),aq.pop.pop.pop.pop.pop⟩
    refine R8 10 Z ?_;exact aA Z Z ⟨cB (by unfold cV;simp only[u,A,C,E,F,ct,cf]),aq.pop.pop.pop.pop.pop⟩
   refine R8 17 Z ?_;exact aA Z Z ⟨cB (by unfold cV;simp only[u,A,C,E,ct,cf]),aq.pop.pop.pop.pop.pop⟩
  refine R8 21 Z ?_;exact aA Z Z ⟨cB (by unfold cV;simp only[u,A,C,ct,cf]),aq.pop.pop.pop.pop.pop⟩
 refine R8 26 Z ?_;exact aA Z Z ⟨cB (by unfold cV;simp only[u,A,ct,cf]),aq.pop.pop.pop.pop.pop⟩
theorem Fs {G:Cx} (hG:Plain G) {K:KP} {g:XG} {a b c d:J} (h:dj K g a b c d) {ln:Nat} {E:List cQ} (a3:g.order[ln]? =some E) (hT:g.threads.length<=4) (hR:∀l∈g.threads,l.length<=14) {V:N} {L:Own} (aq:St V K L):aW Tryz.prog G 58 [.agg [a,b,c,d],.int .i64 (.ofNat ln)] V fun v V'=>∃q,v= .bool q/\(q=true↔FB g ln E)/\St V' K L:=by
 have h':=h;obtain⟨hi,ht,hf,R⟩:=h';refine SC hG Tryz.func58 Z<|R5 2 Z<|kp aq Z (cG Z Z) (fun V b1 aq=>?_);refine Qz 12 Z<|Rj 3 Z ?_;obtain⟨LL1,aq,hLL1⟩:=aq.named;refine a6 ([5,6,7]++rg 13 41) (fun j t V=>∃(i1:Nat),j+i1=g.threads.length/\t.get 5=some (.int .i64 (.ofNat<|gR (.ofNat ln)<|g.threads.take i1))/\t.get 6=some (.int .i64 (.ofNat i1))/\St V K LL1) (g.threads.length) ⟨0,Z,Z,Z,aq⟩ ?_;clear aq;intro j3 t V an hI;obtain⟨i1,d0,ai,b8,aq⟩:=hI;subst hLL1;obtain⟨oo,rfl⟩:=an.q2 ai b8 Z;refine Ro aq 6 [1,0] Z Z<|Y Z (To ht Z Z Z (e:=64) Z) Z<|R7 3 Z<|aD Z (fun al=>?_) (fun al=>?_)
 ·refine PL 6 Z ?_;obtain⟨xa,U,hi_xa⟩:=cL al;refine Rj 4 Z ?_;obtain⟨LL2,aq,hLL2⟩:=aq.named;refine a6 ([5,7]++rg 20 34) (fun j t V=>∃(i2:Nat),j+i2=xa.length/\t.get 5=some (.int .i64 (.ofNat (gR (.ofNat ln) (g.threads.take i1)+fL (.ofNat ln) (xa.take i2))))/\t.get 7=some (.int .i64 (.ofNat i2))/\St V K LL2) (xa.length) ⟨0,Z,Z,Z,aq⟩ ?_;clear aq;intro j6 t V an hI;obtain⟨i2,d1,ai,b9,aq⟩:=hI;subst hLL2;obtain⟨oo,rfl⟩:=an.q2 ai b9 Z;refine Ro aq 7 [1,0] Z Z<|Tg (e:=64) (m:=1) ht U Z Z Z Z (fun d2 cr a4 cv a5=>?_);have hr24':=a5;obtain⟨d3,rfl,Q⟩:=hr24';refine Y Z (Tq aq a4 Z Z) Z<|Y Z (To Q Z Z Z (e:=92) Z) Z<|R7 3 Z<|aD Z (fun am=>?_) (fun am=>?_)
  ·refine PL 6 Z<|SK aq 3 [1,0] Z Z<|Tg (e:=64) (m:=1) ht U Z Z Z Z (fun d4 cw a9 cx bb=>?_);have hr33':=bb;obtain⟨d5,rfl,bd⟩:=hr33';refine Y Z (Tq aq a9 Z Z) Z<|vQ 1 Z ?_;obtain⟨d6,F,c0⟩:=cL am;refine Tg (e:=92) (m:=5) bd F Z Z Z Z (fun d7 c1 be c2 bf=>?_);obtain rfl:=bf;refine Y Z (Tr aq be Z Z) Z<|bB Z (Tk Z Z Z) (fun _=>Z) (nf hG _ aq) (fun V aq=>?_);refine ky Z (D Z) (fun ao=>?_) (fun ao=>?_)
   ·refine SK aq 3 [1,0] Z Z<|Tg (e:=64) (m:=1) ht U Z Z Z Z (fun d8 c3 bi c4 bk=>?_);have hr43':=bk;obtain⟨d9,rfl,bl⟩:=hr43';refine Y Z (Tq aq bi Z Z) Z<|vQ 1 Z<|Tg (e:=92) (m:=5) bl F Z Z Z Z (fun ee c5 bm c7 bo=>?_);obtain rfl:=bo;refine fg bm Z Z Z (k:=1) S (lb Z) (fun _=>Z) (fun ef br=>?_);refine Y Z (Tq aq br Z Z) Z<|R7 5 Z<|aD Z (fun ap=>?_) (fun ap=>?_)
    ·refine SF 5 Z (aH (SF 5 Z (aL ⟨j6-1,by omega,oF,i2+1,by omega,(cI ((aX (by have h1:=zW (loc:=.ofNat ln) (i:=i1) hT hR;have h2:=s6 (loc:=.ofNat ln) (l:=xa.take i2);have h3:=hR _ (gB_ U);rw[lT_] at h2;omega)).trans (by rw[Mb F ao ap];rfl))),cI<|aX (by have:=Q.bK;omega),aq⟩)))
    refine aG<|aH<|SF 5 Z<|aL ⟨j6-1,by omega,oF,i2+1,by omega,(by rw[I0 (loc:=.ofNat ln) F (.inr ap)];exact Z),cI<|aX (by have:=Q.bK;omega),aq⟩
   refine R7 15 Z<|aG<|aH<|SF 5 Z<|aL ⟨j6-1,by omega,oF,i2+1,by omega,(by rw[I0 (loc:=.ofNat ln) F (.inl ao)];exact Z),cI<|aX (by have:=Q.bK;omega),aq⟩
  rw[tL_<|bC am];refine Ri 3 Z<|aM<|aH<|SF 5 Z<|aL ⟨j3-1,by omega,oF,i1+1,by omega,(by rw[ug U];exact Z),cI<|aX (by have:=ht.bK;omega),aq⟩
 rw[tL_<|bC al];refine Ri 3 Z<|aM<|R5 2 Z<|SK aq 3 [3,0] Z Z<|Tg (e:=57) (m:=1) R a3 Z Z Z Z (fun eg c8 bs c9 bt=>?_);have hr57':=bt;obtain⟨el,rfl,C⟩:=hr57';refine Y Z (Tq aq bs Z Z) Z<|Qz 7 Z<|Rj 3 Z ?_;obtain⟨LL3,aq,hLL3⟩:=aq.named;refine a6 ([4]++rg 9 4++rg 59 50) (fun j t V=>∃(i:Nat),j+i=E.length/\(∀(k:Nat) (x:cQ),k<i->E[k]? =some x->xX g (.ofNat ln) x=true/\∀(W:Nat) (y:cQ),W<k->E[W]? =some y->y≠x)/\t.get 9=some (.int .i64 (.ofNat i))/\St V K LL3) (E.length) ⟨0,Z,fun k x hk=>absurd hk (nZ_ _),Z,aq⟩ ?_;clear aq;intro cc t V an hI;obtain⟨i,dd,X,ce,aq⟩:=hI;subst hLL3;obtain⟨oo,rfl⟩:=an.q1 ce Z;refine Rh 5 Z<|Y Z (To C Z Z Z (e:=59) Z) Z<|R7 3 Z<|aD Z (fun ac=>?_) (fun ac=>?_)
 ·refine PK 5 Z (aU (l:=[(0,[]),(1,[]),(2,[]),(3,[]),(4,[]),(9,[]),(5,[9]),(6,[]),(7,[]),(8,[]),(10,[]),(11,[])]) S S<|aj Z Z (Tn Z aq.g0 (n:=4) (vs:=[_,_,_,_]) Z) Z<|SJ 2 Z ?_);obtain⟨u,A,df⟩:=cL ac;refine Th (e:=59) (m:=2) C A Z Z Z Z Z (fun em dk bv dl bw=>?_);obtain rfl:=bw;refine aj Z Z (Tr aq bv Z Z) Z<|Gk aq Z Z (Tp (cs:=[iZ,iZ,iZ,iZ,iZ])) (fun _=>Z) (fun V b2 aq=>?_);refine dZ Z Z (Tk Z Z Z) (fun _=>Z) (xK hG h _ _ aq) (fun V aq=>?_);refine⟨(aZ (zh Z Z Z Z Z (cs:=[iZ,iZ,iZ,iZ,iZ]) (e:=92) S aq.g0 S) aV),?_⟩;refine SJ 3 Z<|tI aq Z Z (Ts Z Z Z aq.g0 (m:=5) Z Z (cells':=[_,_,_,_,_]) Z) Z (fun V aq=>?_);refine⟨aV,?_⟩;refine R9 3 Z<|Rh 4 Z<|Y Z (dV Z) Z<|ky Z (D Z) (fun T=>?_) (fun T=>?_)
  ·refine R8 27 Z<|ay<|aK<|ay<|bq<|aK<|ay (?_);exact aA Z Z ⟨_,Z,⟨(fun hh=>by cases hh),fun R=>absurd (R.PH u<|gB_ A) (by unfold xX;rw[show(ez g u).isSome=false from wP T];exact Bool.false_ne_true)⟩,aq.pop.pop⟩
  refine SI 2 Z<|Tg (e:=59) (m:=2) C A Z Z Z Z (fun en dm b0 dn b3=>?_);obtain rfl:=b3;refine fg b0 Z Z Z (k:=0) S (lb Z) (fun _=>Z) (fun eo b4=>?_);refine Y Z (Tq aq b4 Z Z) Z<|SI 2 Z<|ky Z (D Z) (fun aa=>?_) (fun aa=>?_)
  ·refine R8 19 Z<|ay<|aK<|ay<|bq<|aK<|ay (?_);exact aA Z Z ⟨_,Z,⟨(fun hh=>by cases hh),fun R=>absurd (R.PH u<|gB_ A) (by unfold xX;rw[show(ez g u).isSome=true from kG T,show bM u.cq 0=true from aa];exact Bool.false_ne_true)⟩,aq.pop.pop⟩
  refine Y Z (Tn Z aq.g0 (n:=5) (vs:=[_,_,_,_,_]) Z) Z<|bB Z (Tk Z Z Z) (fun _=>Z) (nf hG _ aq) (fun V aq=>?_);refine Y Z (dV Z) Z<|vQ 1 Z<|ky Z (D Z) (fun ad=>?_) (fun ad=>?_)
  ·refine R8 14 Z<|ay<|aK<|ay<|bq<|aK<|ay (?_);exact aA Z Z ⟨_,Z,⟨(fun hh=>by cases hh),fun R=>absurd (R.PH u<|gB_ A) (by unfold xX;rw[show(ez g u).isSome=true from kG T,show bM u.cq 0=false from aa,show bH (vW<|ez g u)=false from wP ad];exact Bool.false_ne_true)⟩,aq.pop.pop⟩
  refine SK aq 5 [1,0] Z Z<|R7 2 Z<|aD Z (fun av=>?_) (fun av=>?_)
  ·refine SG 6 Z<|ay<|aK<|ay<|bq<|aK<|ay (?_);exact aA Z Z ⟨_,Z,⟨(fun hh=>by cases hh),fun R=>absurd (R.PH u<|gB_ A) (by unfold xX;rw[show(ez g u).isSome=true from kG T,show bM u.cq 0=false from aa,show bH (vW<|ez g u)=true from kG ad,show bM (vW<|ez g u).loc (.ofNat ln)=false from bL av];exact Bool.false_ne_true)⟩,aq.pop.pop⟩
  have b5:xX g (.ofNat ln) u=true:=by unfold xX;rw[show(ez g u).isSome=true from kG T,show bM u.cq 0=false from aa,show bH (vW<|ez g u)=true from kG ad];exact a7 av
  refine aG<|R5 3 Z<|Rj 3 Z ?_;obtain⟨LL4,aq,hLL4⟩:=aq.named;refine a6 ([4,12]++rg 95 14) (fun j t V=>∃(i3:Nat),j+i3=i/\(∀(W:Nat) (y:cQ),W<i3->E[W]? =some y->y≠u)/\t.get 12=some (.int .i64 (.ofNat i3))/\St V K LL4) (i) ⟨0,Z,fun W y hk=>absurd hk (nZ_ _),Z,aq⟩ ?_;clear aq;intro cg t V an hI;obtain⟨i3,dr,hne,b6,aq⟩:=hI;subst hLL4;obtain⟨oo,rfl⟩:=an.q1 b6 Z;refine R4 8 Z<|aD Z (fun I=>?_) (fun I=>?_)
  ·refine PK 5 Z<|aU (l:=zp [0,1,2,3,4,5,6,7,8]) S S<|SJ 2 Z ?_;obtain⟨ds,M⟩:=bZ (show i3<E.length from by have:=aS I;omega);refine Th (e:=59) (m:=2) C M Z Z Z Z Z (fun dx ch ax ci aE=>?_);obtain rfl:=aE;refine aj Z Z (Tr aq ax Z Z) Z<|SJ 2 Z<|Th (e:=59) (m:=2) C A Z Z Z Z Z (fun dT cj a0 ck a1=>?_);obtain rfl:=a1;refine aj Z Z (Tr aq a0 Z Z) Z<|aj Z Z (Lx (n:=2) (ca:=[_,_]) (cb:=[_,_]) S Z Z Z Z) Z<|R9 2 Z<|aD Z (fun ab=>?_) (fun ab=>?_)
   ·refine SG 6 Z<|aK<|ay<|bq<|aK<|aK<|ay<|bq<|aK<|ay (?_);exact aA Z Z ⟨_,Z,⟨(fun hh=>by cases hh),fun R=>absurd (bR.1<|Ms.symm.trans ab) (J2 R.nodup (aS I) M A)⟩,aq.pop.pop⟩
   refine aG (aH (SF 5 Z (aL ⟨cg-1,by have:=aS I;omega,oF,i3+1,by have:=aS I;omega,fun W y hk hy=>(by by_cases a2:W=i3;(subst a2;rw[M] at hy;cases hy;exact fun he=>absurd ab (by rw[he,bR.2 Z];decide));exact hne W y oM hy),cI<|aX (by have:=C.bK;have:=aS I;omega),aq⟩)))
  refine Ri 3 Z<|aM<|aH<|SF 5 Z ?_;have aq:=aq.pop;refine aL ⟨cc-1,by omega,oF,i+1,by omega,fun k x hk hx=>(by by_cases a2:k=i;(subst a2;rw[A] at hx;cases hx;exact⟨b5,fun W y er hy=>hne W y (by have:=bC I;omega) hy⟩);exact X k x oM hx),cI<|aX (by have:=C.bK;omega),aq⟩
 refine Ri 3 Z<|aM<|R5 3 Z<|Y Z (To C Z Z Z (e:=59) Z) Z<|R8 6 Z ?_;exact aA Z Z ⟨_,Z,⟨fun hh=>⟨fun id cn=>(by obtain⟨k,hk⟩:=gO_ cn;exact(X k id (by have:=(gA.1 hk).1;have:=bC ac;omega) hk).1),J3 fun k m x y cp hx hy=>(X m y (by have:=(gA.1 hy).1;have:=bC ac;omega) hy).2 k x cp hx,(by have b7:bM (.ofNat E.length) (.ofNat<|gR (.ofNat ln) g.threads)=true:=hh;rw[fN] at b7;exact of_decide_eq_true b7)⟩,fun R=>(by show bM (.ofNat E.length) (.ofNat<|gR (.ofNat ln) g.threads)=true;rw[fN,R.SB];exact decide_eq_true Z)⟩,aq.pop⟩
theorem zu {G:Cx} (hG:Plain G) {K:KP} {g:XG} {a b c d:J} (h:dj K g a b c d) {V:N} {L:Own} (aq:St V K L):aW Tryz.prog G 27 [.agg [a,b,c,d]] V fun v V'=>v= .int .i64 (bY g)/\St V' K L:=by
 have h':=h;obtain⟨hi,I,hf,ho⟩:=h';refine SC hG Tryz.func27 Z<|R5 2 Z<|kp aq Z (cG Z Z) (fun V b1 aq=>?_);refine Qz 6 Z<|SK aq 2 [1,0] Z Z<|Y Z (To I Z Z Z (e:=64) Z) Z<|vQ 1 Z<|ky Z (D Z) (fun ao=>?_) (fun ao=>?_)
 ·refine Rl 15 Z ?_;exact aA Z Z ⟨cJ (by rw[ot<|Db ao]),aq.pop⟩
 refine SK aq 2 [0,0] Z Z<|Y Z (To hi Z Z Z (e:=2) Z) Z<|R7 4 Z<|aD Z (fun ap=>?_) (fun ap=>?_)
 ·refine R6 7 Z ?_;exact aA Z Z ⟨cJ (by rw[ot<|Dd ap]),aq.pop⟩
 refine Qy 9 Z ?_;obtain⟨LL1,aq,hLL1⟩:=aq.named;refine a6 ([2,3]++rg 19 14) (fun j t V=>∃(i:Nat),j+i=g.threads.length/\(∀(k:Nat) (l:List cU),k<i->g.threads[k]? =some l->dy 14 (.ofNat l.length)=false)/\t.get 3=some (.int .i64 (.ofNat i))/\St V K LL1) (g.threads.length) ⟨0,Z,fun k x hk=>absurd hk (nZ_ _),Z,aq⟩ ?_;clear aq;intro j4 t V an hI;obtain⟨i,e0,M,cw,aq⟩:=hI;subst hLL1;obtain⟨oo,rfl⟩:=an.q1 cw Z;refine Ro aq 6 [1,0] Z Z<|Y Z (To I Z Z Z (e:=64) Z) Z<|R7 3 Z<|aD Z (fun av=>?_) (fun av=>?_)
 ·refine PL 6 Z<|SK aq 3 [1,0] Z Z ?_;obtain⟨e3,ac,dx⟩:=cL av;refine Tg (e:=64) (m:=1) I ac Z Z Z Z (fun e4 dT b0 d0 b2=>?_);have hr29':=b2;obtain⟨e5,rfl,b3⟩:=hr29';refine Y Z (Tq aq b0 Z Z) Z<|Y Z (To b3 Z Z Z (e:=92) Z) Z<|R7 3 Z<|aD Z (fun bd=>?_) (fun bd=>?_)
  ·refine SG 6 Z<|aK<|ay<|bq<|aK<|ay (?_);exact aA Z Z ⟨cJ (by rw[ot<|Dc ac bd]),aq.pop⟩
  refine aG (aH (SF 5 Z (aL ⟨j4-1,by omega,oF,i+1,by omega,fun k l hk hl=>(by by_cases Q:k=i;(subst Q;rw[ac] at hl;cases hl;exact bd);exact M k l oM hl),cI<|aX (by have:=I.bK;omega),aq⟩)))
 have hTL:=Fl (i:=i) ao ap (bC av) M;have hT:g.threads.length<=4:=bC (a:=4) (by exact ao);have hR:∀l∈g.threads,l.length<=14:=fun l hl=>by obtain⟨k,hk⟩:=gO_ hl;exact bC (a:=14) (M k l (by have:=(gA.1 hk).1;have:=bC av;omega) hk)
 refine Ri 3 Z<|aM<|Ro aq 5 [2,0] Z Z<|Y Z (To hf Z Z Z (e:=57) Z) Z<|SK aq 2 [1,0] Z Z<|Y Z (To I Z Z Z (e:=64) Z) Z<|vQ 1 Z<|ky Z (D Z) (fun aa=>?_) (fun aa=>?_)
 ·refine Rl 18 Z ?_;exact aA Z Z ⟨cJ (by rw[kV hTL fun F=>absurd aa (by rw[F.from_,ey];decide)]),aq.pop⟩
 refine SK aq 2 [3,0] Z Z<|Y Z (To ho Z Z Z (e:=57) Z) Z<|SK aq 2 [0,0] Z Z<|Y Z (To hi Z Z Z (e:=2) Z) Z<|R7 4 Z<|aD Z (fun ab=>?_) (fun ab=>?_)
 ·refine R6 7 Z ?_;exact aA Z Z ⟨cJ (by rw[kV hTL fun F=>absurd ab (by rw[F.order,ey];decide)]),aq.pop⟩
 refine Qy 9 Z ?_;obtain⟨LL2,aq,hLL2⟩:=aq.named;refine a6 ([2,4,5]++rg 49 41) (fun j t V=>∃(i:Nat),j+i=g.threads.length/\(∀(k:Nat) (x:List cU) (y:List cQ),k<i->g.threads[k]? =some x->g.from_[k]? =some y->y.length=x.length/\∀(m:Nat) (e:cU),x[m]? =some e->bQ e (.ofNat g.init.length)=true)/\t.get 4=some (.int .i64 (.ofNat i))/\St V K LL2) (g.threads.length) ⟨0,Z,fun k x y hk=>absurd hk (nZ_ _),Z,aq⟩ ?_;clear aq;intro cx t V an hI;obtain⟨i,d1,a2,c0,aq⟩:=hI;subst hLL2;obtain⟨oo,rfl⟩:=an.q1 c0 Z;refine Ro aq 6 [1,0] Z Z<|Y Z (To I Z Z Z (e:=64) Z) Z<|R7 3 Z<|aD Z (fun ax=>?_) (fun ax=>?_)
 ·refine PK 5 Z<|H<|aU (l:=zp [0,1,2,3,4,5,6,7,8,9,10,11,12]) S S<|SN aq 3 [2,0] Z Z ?_;obtain⟨c1,U⟩:=bZ (show i<g.from_.length from by have:=cN (a7 aa);have:=aS ax;omega);refine Th (e:=57) (m:=1) hf U Z Z Z Z Z (fun e6 d2 b4 d3 b5=>?_);have hr59':=b5;obtain⟨e7,rfl,b6⟩:=hr59';refine aj Z Z (Tq aq b4 Z Z) Z<|aj Z Z (To b6 Z Z Z (e:=59) Z) Z<|SN aq 3 [1,0] Z Z ?_;obtain⟨be,A,d4⟩:=cL ax;refine Th (e:=64) (m:=1) I A Z Z Z Z Z (fun e8 d5 b7 d6 b8=>?_);have hr65':=b8;obtain⟨e9,rfl,a3⟩:=hr65';refine aj Z Z (Tq aq b7 Z Z) Z<|aj Z Z (To a3 Z Z Z (e:=92) Z) Z<|R9 3 Z<|aD Z (fun bf=>?_) (fun bf=>?_)
  ·refine SG 6 Z<|ay<|aK<|ay<|bq<|aK<|ay (?_);exact aA Z Z ⟨cJ (by rw[kV hTL fun F=>absurd bf (by rw[(F.rows i _ _ A U).1,ey];decide)]),aq.pop⟩
  refine aG<|R5 3 Z<|Rj 3 Z ?_;obtain⟨LL3,aq,hLL3⟩:=aq.named;refine a6 ([2,5]++rg 69 21) (fun j t V=>∃(i2:Nat),j+i2=be.length/\(∀(m:Nat) (e:cU),m<i2->be[m]? =some e->bQ e (.ofNat g.init.length)=true)/\t.get 5=some (.int .i64 (.ofNat i2))/\St V K LL3) (be.length) ⟨0,Z,fun k x hk=>absurd hk (nZ_ _),Z,aq⟩ ?_;clear aq;intro c2 t V an hI;obtain⟨i2,d7,b9,c3,aq⟩:=hI;subst hLL3;obtain⟨oo,rfl⟩:=an.q1 c3 Z;refine Ro aq 7 [1,0] Z Z<|Tg (e:=64) (m:=1) I A Z Z Z Z (fun fd d8 ca d9 cb=>?_);have hr73':=cb;obtain⟨fi,rfl,cc⟩:=hr73';refine Y Z (Tq aq ca Z Z) Z<|Y Z (To cc Z Z Z (e:=92) Z) Z<|R7 3 Z<|aD Z (fun bi=>?_) (fun bi=>?_)
  ·refine PK 5 Z<|aU (l:=zp [0,1,2,3,4,5,6,7,8,9,10]) S S<|aj Z Z (Tn Z aq.g0 (n:=4) (vs:=[_,_,_,_]) Z) Z<|SN aq 3 [1,0] Z Z<|Th (e:=64) (m:=1) I A Z Z Z Z Z (fun fk ee ce ef cg=>?_);have hr83':=cg;obtain⟨fs,rfl,ch⟩:=hr83';refine aj Z Z (Tq aq ce Z Z) Z<|wQ 1 Z ?_;obtain⟨fv,ad,ci⟩:=cL bi;refine Th (e:=92) (m:=5) ch ad Z Z Z Z Z (fun f0 eg cj el ck=>?_);obtain rfl:=ck;refine aj Z Z (Tr aq cj Z Z) Z<|dZ Z Z (Tk Z Z Z) (fun _=>Z) (Ny hG h _ aq) (fun V aq=>?_);refine⟨aV,?_⟩;refine aj Z Z (dV Z) Z<|R9 2 Z<|aD Z (fun aE=>?_) (fun aE=>?_)
   ·refine SG 6 Z<|aK<|ay<|bq<|aK<|aK<|ay<|bq<|aK<|ay (?_);exact aA Z Z ⟨cJ (by rw[kV hTL fun F=>by obtain⟨r1,r2⟩:=F.rows i _ _ A U;obtain⟨y,hy⟩:=bZ (show i2<c1.length from by rw[r1];exact ci);have:=(J9<|r2 i2 _ _ ad hy).1;rw[this] at aE;cases aE]),aq.pop⟩
   refine aG (aH (SF 5 Z (aL ⟨c2-1,by omega,oF,i2+1,by omega,fun m e hm he=>(by by_cases bk:m=i2;(subst bk;rw[ad] at he;cases he;exact kG aE);exact b9 m e oM he),cI<|aX (by have:=a3.bK;omega),aq⟩)))
  refine Ri 3 Z (aM (aH (SF 5 Z (aL ⟨cx-1,by omega,oF,i+1,by omega,fun k x y hk h1 W=>(by by_cases Q:k=i;(subst Q;rw[A] at h1;rw[U] at W;cases h1;cases W;exact⟨cN<|a7 bf,fun m e hm=>b9 m e (by have:=(gA.1 hm).1;have:=bC bi;omega) hm⟩);exact a2 k x y oM h1 W),cI<|aX (by have:=I.bK;omega),aq⟩))))
 have hrows:=a2;have hi11:=bC ax;have hlen:∀(k:Nat) (x:List cU) (y:List cQ),g.threads[k]? =some x->g.from_[k]? =some y->y.length=x.length/\∀(m:Nat) (e:cU),x[m]? =some e->bQ e (.ofNat g.init.length)=true:=fun k x y h1 W=>hrows k x y (by have:=(gA.1 h1).1;omega) h1 W
 have a4:∀(t:Nat) (l:List cU) (m:Nat) (e:cU),g.threads[t]? =some l->l[m]? =some e->bH e=true->∃ln:Nat,e.loc= .ofNat ln/\ln<g.order.length:=fun t l m e h1 W h3=>by
  obtain⟨y,hy⟩:=bZ (show t<g.from_.length from by have:=cN (a7 aa);have:=(gA.1 h1).1;omega);obtain⟨ln,k1,k2⟩:=CV ((hlen t l y h1 hy).2 m e W) h3;exact⟨ln,k1,by have:=cN (a7 ab);omega⟩
 refine Ri 3 Z<|aM<|Rg 7 Z ?_;obtain⟨LL4,aq,hLL4⟩:=aq.named;refine a6 ([2,6,7]++rg 90 32) (fun j t V=>∃(i4:Nat),j+i4=g.threads.length/\(∀(k:Nat) (x:List cU) (y:List cQ),k<i4->g.threads[k]? =some x->g.from_[k]? =some y->∀(m:Nat) (f:cQ),m<x.length->y[m]? =some f->cV g ⟨.ofNat (k+1),.ofNat m⟩ f=true)/\t.get 6=some (.int .i64 (.ofNat i4))/\St V K LL4) (g.threads.length) ⟨0,Z,fun k x y hk=>absurd hk (nZ_ _),Z,aq⟩ ?_;clear aq;intro c4 t V an hI;obtain⟨i4,em,a5,c5,aq⟩:=hI;subst hLL4;obtain⟨oo,rfl⟩:=an.q1 c5 Z;refine Ro aq 6 [1,0] Z Z<|Y Z (To I Z Z Z (e:=64) Z) Z<|R7 3 Z<|aD Z (fun bl=>?_) (fun bl=>?_)
 ·refine PL 6 Z ?_;obtain⟨xb,a0,hi_xb⟩:=cL bl;refine Rj 4 Z ?_;obtain⟨LL5,aq,hLL5⟩:=aq.named;refine a6 ([2,7]++rg 97 25) (fun j t V=>∃(i5:Nat),j+i5=xb.length/\(∀(y:List cQ) (m:Nat) (f:cQ),m<i5->g.from_[i4]? =some y->y[m]? =some f->cV g ⟨.ofNat (i4+1),.ofNat m⟩ f=true)/\t.get 7=some (.int .i64 (.ofNat i5))/\St V K LL5) (xb.length) ⟨0,Z,fun y m f hm=>absurd hm (nZ_ _),Z,aq⟩ ?_;clear aq;intro c7 t V an hI;obtain⟨i5,en,cn,c8,aq⟩:=hI;subst hLL5;obtain⟨oo,rfl⟩:=an.q1 c8 Z;refine Ro aq 7 [1,0] Z Z<|Tg (e:=64) (m:=1) I a0 Z Z Z Z (fun eo c9 bm dd bo=>?_);have hr101':=bo;obtain⟨er,rfl,ai⟩:=hr101';refine Y Z (Tq aq bm Z Z) Z<|Y Z (To ai Z Z Z (e:=92) Z) Z<|R7 3 Z<|aD Z (fun u=>?_) (fun u=>?_)
  ·refine PK 5 Z (aU (l:=zp [0,1,2,3,4,5,6,7,8,9,10,11,12,13,14]) S S (aj Z Z (Tn Z aq.g0 (n:=4) (vs:=[_,_,_,_]) Z) Z (SJ 3 Z (aj Z Z (Tj (places:=[(0,1),(1,1)]) (zero:=[iZ,iZ]) (cs:=[_,_]) Z) Z<|SN aq 3 [2,0] Z Z ?_))));obtain⟨cp,E⟩:=bZ (show i4<g.from_.length from by have:=cN (a7 aa);omega);obtain⟨xc,df⟩:=bZ (aS u);refine Th (e:=57) (m:=1) hf E Z Z Z Z Z (fun es dk br dl bs=>?_);have hr115':=bs;obtain⟨et,rfl,bt⟩:=hr115';refine aj Z Z (Tq aq br Z Z) Z<|wQ 1 Z ?_;obtain⟨a9,R⟩:=bZ (show i5<cp.length from by rw[(hlen i4 _ _ a0 E).1];exact aS u);refine Th (e:=59) (m:=2) bt R Z Z Z Z Z (fun ev dm bv dn bw=>?_);obtain rfl:=bw;refine aj Z Z (Tr aq bv Z Z) Z<|dZ Z Z (Tk Z Z Z) (fun _=>Z) (Is hG h _ _ _ _ aq) (fun V aq=>?_);refine⟨aV,?_⟩;refine aj Z Z (dV Z) Z<|R9 2 Z<|aD Z (fun al=>?_) (fun al=>?_)
   ·refine SG 6 Z<|aK<|ay<|bq<|aK<|aK<|ay<|bq<|aK<|ay (?_);exact aA Z Z ⟨cJ (by rw[kV hTL fun F=>by obtain⟨r1,r2⟩:=F.rows i4 _ _ a0 E;have:=(J9<|r2 i5 _ _ df R).2;have e:cV g ⟨wr .i64<|Int.add (.ofNat i4) (.ofNat 1),.ofNat i5⟩ ⟨a9.cq,a9.index⟩=true:=(by rw[aX (by have:=I.bK;omega)];exact this);exact absurd ((wP al).symm.trans e) (by decide)]),aq.pop⟩
   refine aG<|aH<|SF 5 Z ?_;refine aL ⟨c7-1,by have:=aS u;omega,oF,i5+1,by have:=aS u;omega,fun y m f hm hy hf=>(by by_cases bk:m=i5;(subst bk;rw[E] at hy;cases hy;rw[R] at hf;cases hf;have hq:=kG al;rw[<-aX (i:=i4) (by have:=I.bK;omega)];exact hq);exact cn y m f oM hy hf),cI<|aX (by have:=ai.bK;have:=aS u;omega),aq⟩
  refine Ri 3 Z (aM (aH (SF 5 Z (aL ⟨c4-1,by omega,oF,i4+1,by omega,fun k x y hk h1 W m f hm hf=>(by by_cases Q:k=i4;(subst Q;rw[a0] at h1;cases h1;exact cn y m f (by have:=bC u;omega) W hf);exact a5 k x y oM h1 W m f hm hf),cI<|aX (by have:=I.bK;omega),aq⟩))))
 have hsrcs:=a5;have hi21:=bC bl;refine Ri 3 Z<|aM<|Rg 7 Z ?_;obtain⟨LL6,aq,hLL6⟩:=aq.named;refine a6 ([2,8]++rg 122 11) (fun j t V=>∃(i8:Nat),j+i8=g.init.length/\(∀(k:Nat) (r:List cQ),k<i8->g.order[k]? =some r->FB g k r)/\t.get 8=some (.int .i64 (.ofNat i8))/\St V K LL6) (g.init.length) ⟨0,Z,fun k x hk=>absurd hk (nZ_ _),Z,aq⟩ ?_;clear aq;intro dr t V an hI;obtain⟨i8,ex,bb,ds,aq⟩:=hI;subst hLL6;obtain⟨oo,rfl⟩:=an.q1 ds Z;refine Ro aq 6 [0,0] Z Z<|Y Z (To hi Z Z Z (e:=2) Z) Z<|R7 3 Z<|aD Z (fun C=>?_) (fun C=>?_)
 ·refine PL 6 Z<|Y Z (Tn Z aq.g0 (n:=4) (vs:=[_,_,_,_]) Z) Z<|vQ 1 Z ?_;obtain⟨cr,T⟩:=bZ (show i8<g.order.length from by have:=cN (a7 ab);have:=aS C;omega);refine cR Z (Tk Z Z Z) (fun _=>Z) (Fs hG h T hT hR aq) ?_;rintro _ V ⟨cv,rfl,am,aq⟩;refine Y Z (dV Z) Z<|R7 2 Z<|aD Z (fun X=>?_) (fun X=>?_)
  ·refine SG 6 Z<|aK<|ay<|bq<|aK<|ay (?_);exact aA Z Z ⟨cJ (by rw[kV hTL fun F=>by have hq:cv=true:=am.2 ((uD a4).2 F.perm i8 cr T);rw[hq] at X;cases X]),aq.pop⟩
  refine aG (aH (SF 5 Z (aL ⟨dr-1,by have:=aS C;omega,oF,i8+1,by have:=aS C;omega,fun k r hk F=>(by by_cases Q:k=i8;(subst Q;rw[T] at F;cases F;exact am.1<|kG X);exact bb k r oM F),cI<|aX (by have:=hi.bK;have:=aS C;omega),aq⟩)))
 have a1:eb g:=⟨hT,bC (a:=6) (by exact ap),fun k l hl=>hR l (gB_ hl),cN<|a7 aa,cN<|a7 ab,fun k l f h1 W=>⟨(hlen k l f h1 W).1,fun m e q h3 h4=>Ka ((hlen k l f h1 W).2 m e h3) (hsrcs k l f (by have:=(gA.1 h1).1;omega) h1 W m q (gA.1 h3).1 h4)⟩,(uD a4).1 fun k r F=>bb k r (by have:=(gA.1 F).1;have:=cN (a7 ab);have:=bC C;omega) F⟩;refine Ri 3 Z<|aM<|SG 6 Z ?_;exact aA Z Z ⟨cJ (by rw[ei.2 a1]),aq.pop⟩
theorem iu {α:Type} {l:List α} {i:Nat} (h:l.length<=i):l.take i=l:=tL_ h
theorem zt {G:Cx} (hG:Plain G) {K:KP} {g:XG} (hR:eb g) {a b c d:J} (hg:dj K g a b c d) {V:N} {L:Own} (aq:St V K L):
  aW Tryz.prog G 103 [.agg [a,b,c,d]] V fun v V'=>∃M,cS 1 2 cH (ma g) v M/\St V' K (M++L):=by
 have hF:=NQ (ei.2 hR);refine aY hG Tryz.func103 Z (t:=PT.leaf.put (some (.agg [a,b,c,d])) 0) (by rfl) ?_;refine H ?_;refine ah Z ?_;refine bJ aq Z (cG Z Z) (fun _=>Z) (fun V b1 aq=>?_);obtain⟨K1,ax,aE,aq⟩:=aq.cK (M:=[_]);have C:K1 b1 (.row [a,b,c,d] 27 false):=aE _ (.head _);clear aE;have hg1:=hg.mono ax;refine Y Z (ak Z) Z ?_;refine af ?_;refine B ?_;refine H ?_;refine ah Z ?_;refine Y Z (az Z (k:=1) S) Z ?_;refine Y Z (aw Z (aq.eS C) S Z) Z ?_;refine Y Z (aO hg1.threads Z Z Z (e:=64) S Z) Z ?_;refine gw aq Z (bN (e:=2) (m:=1) (z:=[.int .i64 0]) (cs:=[_]) S S S S<|bA Z Z Z Z bI) (fun _=>Z) (fun V b2 aq=>?_);have hO0:cS 1 2 cH [Int.ofNat g.threads.length] (.slice b2 0 1 (.known 1)) [(b2,.row [.int .i64 (.ofNat g.threads.length)] 2 false)]:=HT (xs:=[Int.ofNat g.threads.length]) (by simp);obtain⟨M0,hM0⟩:∃M0:Own,M0= [(b2,.row [.int .i64 (.ofNat g.threads.length)] 2 false)]:=⟨_,Z⟩;rw[<-hM0] at hO0;replace aq:St V K1 (M0++L):=by rw[hM0];exact aq
 refine Y Z (ak Z) Z ?_;refine af ?_;refine B ?_;refine H ?_;refine H ?_;refine ah Z ?_;refine Y Z (ak Z) Z ?_;refine af ?_;refine B ?_;refine aI ?_;refine a6 [3,4,16,17,18,19,20,21,22,23,24,25,26,27,28,29,30,31] (fun j t V=>∃(i:Nat) (u:J) (M1:Own),(j+i=g.threads.length/\cS 1 2 cH ([Int.ofNat g.threads.length]++((g.threads.take i).map fun r=>Int.ofNat r.length)) u M1)/\t.get 3=some (u)/\t.get 4=some (.int .i64 (.ofNat i))/\St V K1 (M1++L)) (g.threads.length) ⟨0,_,_,⟨Z,hO0⟩,Z,Z,aq⟩ ?_;clear aq;intro j3 t V an U;obtain⟨i,u,M1,⟨pp,hO1⟩,A,a9,aq⟩:=U;replace an:=an.bS Z Z;obtain⟨W,o4,pq,pr,ps,pt,pu,pv,an⟩:=an;replace an:=an.bS Z Z;obtain⟨px,py,pT,p0,p7,p9,qp,qr,an⟩:=an;replace an:=an.eh Z;obtain⟨qt,an⟩:=an;replace an:=an.eh Z;obtain⟨q6,an⟩:=an;obtain rfl:=an.nil;clear an;replace A:W=some _:=A;subst A;replace a9:o4=some _:=a9;subst a9;refine H ?_;refine H ?_;refine ah Z ?_;refine Y Z (D Z) Z ?_;refine Y Z (az Z (k:=1) S) Z ?_;refine Y Z (aw Z (aq.eS C) S Z) Z ?_;refine Y Z (aO hg1.threads Z Z Z (e:=64) S Z) Z ?_;refine Y Z (aC Z Z Z) Z ?_;refine af ?_;refine B ?_;refine aD Z (fun aa=>?_) (fun aa=>?_)
 ·refine aG ?_;refine B ?_;refine H ?_;refine aI ?_;refine ah Z ?_;refine Y Z (D Z) Z ?_;refine Y Z (az Z (k:=1) S) Z ?_;refine Y Z (aw Z (aq.eS C) S Z) Z ?_;refine Y Z (D Z) Z ?_;obtain⟨hn,a0,kt⟩:=cL aa;refine cm (e:=64) (m:=1) hg1.threads a0 Z Z S S Z Z (fun _=>Z) (fun ra kw c7 kM c8=>?_);have hr27':=c8;obtain⟨rb,rfl,c9⟩:=hr27';refine Y Z (aN aq c7 Z S Z) Z ?_;refine Y Z (aO c9 Z Z Z (e:=92) S Z) Z ?_;refine gw aq Z (bN (e:=2) (m:=1) (z:=[.int .i64 0]) (cs:=[_]) S S S S<|bA Z Z Z Z bI) (fun _=>Z) (fun V b2 aq=>?_);replace aq:=aq.pull (.there .here);replace aq:=aq.pull (.gX<|fQ.here (X:=[_]));refine fY (R:=cH) (m:=1) (e:=2) hO1 aq (fF (xs:=[Int.ofNat hn.length]) (.inr ⟨Z,Z⟩) (by simp)) cH.leaf (by have:=Ql hF i;simp only[lA_,List.length_cons,List.length_nil];omega) Z Z Z Z Z Z Z (fun _=>Z) (fun V ri rj hO31 aq=>?_);refine Y Z (ak Z) Z ?_;refine af ?_;refine aH ?_;refine B ?_;refine ah Z ?_;refine Y Z (D Z) Z ?_;refine Y Z (aC Z Z Z) Z ?_;refine Y Z (ak Z) Z ?_;refine af ?_;refine aL ⟨j3-1,(by have:=aS aa;omega),(by(iterate 36 refine bc.put Z ?_);exact bc.refl _ _),i+1,_,_,⟨by have:=aS aa;omega,by rw[map_take a0,<-lQ_];exact hO31⟩,Z,congrArg (fun z=>some (J.int .i64 z))<|aX (by have:=aS aa;have:=hF.t;omega),aq⟩
 refine ba ?_;refine aP ?_;refine aR ?_;refine aM ?_;refine B ?_;refine H ?_;refine H ?_;refine ah Z ?_;have ho:g.threads.length<=i:=bC aa;rw[iu ho] at hO1;obtain⟨p1,bb⟩:∃x:List Int,x= [Int.ofNat g.threads.length]++g.threads.map fun r=>Int.ofNat r.length:=⟨_,Z⟩
 rw[<-bb] at hO1;have kR:p1.length<=5:=by rw[bb];have:=hF.t;rw[lA_,lM_];simp;omega
 refine Y Z (ak Z) Z ?_;refine af ?_;refine B ?_;refine aI ?_;refine a6 [3,5,6,7,32,33,34,35,36,37,38,39,40,41,42,43,44,45,46,47,48,49,50,51,52,53,54,55,56,57,58,59,60,61,62,63,64,65,66,67,68,69] (fun j t V=>∃(i2:Nat) (u:J) (M2:Own),(j+i2=g.threads.length/\cS 1 2 cH (p1++((g.threads.take i2).flatMap fun r=>r.flatMap cU.ints)) u M2)/\t.get 3=some (u)/\t.get 5=some (.int .i64 (.ofNat i2))/\St V K1 (M2++L)) (g.threads.length) ⟨0,_,_,⟨Z,by rw[List.take_zero,List.flatMap_nil,List.append_nil];exact hO1⟩,Z,Z,aq⟩ ?_;clear aq;intro j7 t V an U;obtain⟨i2,u,M2,⟨rk,hO2⟩,A,bd,aq⟩:=U;replace an:=an.bS Z Z;obtain⟨W,o5,o6,o7,rl,rm,rn,rr,an⟩:=an;replace an:=an.bS Z Z;obtain⟨rs,rt,rx,hr,hs,ht,hu,hw,an⟩:=an;replace an:=an.bS Z Z;obtain⟨hA,hB,hC,hD,hE,hH,hK,hL,an⟩:=an;replace an:=an.bS Z Z;obtain⟨hM,hN,hO,hP,hQ,hS,hT,hU,an⟩:=an;replace an:=an.bS Z Z;obtain⟨hV,hW,hX,hY,h2,h3,h6,h7,an⟩:=an;replace an:=an.eh Z;obtain⟨h8,an⟩:=an;replace an:=an.eh Z;obtain⟨h9,an⟩:=an;obtain rfl:=an.nil;clear an;replace A:W=some _:=A;subst A;replace bd:o5=some _:=bd;subst bd;refine H ?_;refine H ?_;refine ah Z ?_;refine Y Z (D Z) Z ?_;refine Y Z (az Z (k:=1) S) Z ?_;refine Y Z (aw Z (aq.eS C) S Z) Z ?_;refine Y Z (aO hg1.threads Z Z Z (e:=64) S Z) Z ?_;refine Y Z (aC Z Z Z) Z ?_;refine af ?_;refine B ?_;refine aD Z (fun ab=>?_) (fun ab=>?_)
 ·refine aG ?_;refine B ?_;refine H ?_;refine aI ?_;refine H ?_;refine ah Z ?_;obtain⟨row,T⟩:=bZ (aS ab);have hr14:=hF.r row (gB_ T);refine Y Z (ak Z) Z ?_;refine af ?_;refine B ?_;refine aI ?_;refine a6 [3,6,7,39,40,41,42,43,44,45,46,47,48,49,50,51,52,53,54,55,56,57,58,59,60,61,62,63,64,65,66,67,68,69] (fun j t V=>∃(q:Nat) (u:J) (M3:Own),(j+q=row.length/\cS 1 2 cH (p1++((g.threads.take i2).flatMap fun r=>r.flatMap cU.ints)++((row.take q).flatMap cU.ints)) u M3)/\t.get 3=some (u)/\t.get 6=some (.int .i64 (.ofNat q))/\St V K1 (M3++L)) (row.length) ⟨0,_,_,⟨Z,by rw[List.take_zero,List.flatMap_nil,List.append_nil];exact hO2⟩,Z,Z,aq⟩ ?_;clear aq;intro ia t V an U;obtain⟨q,u,M3,⟨k0,hO3⟩,A,be,aq⟩:=U;replace an:=an.bS Z Z;obtain⟨W,o6,o7,hr,hs,ht,hu,hw,an⟩:=an;replace an:=an.bS Z Z;obtain⟨hA,hB,hC,hD,hE,hH,hK,hL,an⟩:=an;replace an:=an.bS Z Z;obtain⟨hM,hN,hO,hP,hQ,hS,hT,hU,an⟩:=an;replace an:=an.bS Z Z;obtain⟨hV,hW,hX,hY,h2,h3,h6,h7,an⟩:=an;replace an:=an.eh Z;obtain⟨h8,an⟩:=an;replace an:=an.eh Z;obtain⟨h9,an⟩:=an;obtain rfl:=an.nil;clear an;replace A:W=some _:=A;subst A;replace be:o6=some _:=be;subst be;refine H ?_;refine H ?_;refine ah Z ?_;refine Y Z (D Z) Z ?_;refine Y Z (az Z (k:=1) S) Z ?_;refine Y Z (aw Z (aq.eS C) S Z) Z ?_;refine Y Z (D Z) Z ?_;refine cm (e:=64) (m:=1) hg1.threads T Z Z S S Z Z (fun _=>Z) (fun r0 k1 dd k2 df=>?_);have hr43':=df;obtain⟨r1,rfl,dk⟩:=hr43';refine Y Z (aN aq dd Z S Z) Z ?_;refine Y Z (aO dk Z Z Z (e:=92) S Z) Z ?_;refine Y Z (aC Z Z Z) Z ?_;refine af ?_;refine B ?_;refine aD Z (fun ac=>?_) (fun ac=>?_)
  ·refine aG ?_;refine B ?_;refine H ?_;refine aI ?_;refine H ?_;refine ah Z ?_;refine Y Z (az Z (k:=1) S) Z ?_;refine Y Z (aw Z (aq.eS C) S Z) Z ?_;refine Y Z (D Z) Z ?_;refine cm (e:=64) (m:=1) hg1.threads T Z Z S S Z Z (fun _=>Z) (fun r2 k3 dl k4 dm=>?_);have hr52':=dm;obtain⟨r3,rfl,dn⟩:=hr52';refine Y Z (aN aq dl Z S Z) Z ?_;refine Y Z (D Z) Z ?_;obtain⟨ao,a1,k5⟩:=cL ac;refine cm (e:=92) (m:=5) dn a1 Z Z S S Z Z (fun _=>Z) (fun r4 k6 dr k7 ds=>?_);obtain rfl:=ds;refine Y Z (bE aq dr Z S Z) Z ?_;refine bJ aq Z (dG (cs:=[.int .i64 0,.int .i64 0,.int .i64 0,.int .i64 0,.int .i64 0]) S S) (fun _=>Z) (fun V b2 aq=>?_);refine cF aq Z (bg Z Z Z (aq.get 0 Z) (m:=5) S Z (Nat.le_of_ble_eq_true Z) (ar Z<|ar Z<|ar Z<|ar Z<|ar Z aQ) (cells':=[_,_,_,_,_]) Z) Z (fun V aq=>?_);refine af ?_;refine B ?_;refine ah Z ?_;refine Y Z (D Z) Z ?_;refine Y Z (az Z (k:=0) S) Z ?_;refine Y Z (aw Z (aq.get 0 Z) S Z) Z ?_;refine Y Z (az Z (k:=1) S) Z ?_;refine Y Z (aw Z (aq.get 0 Z) S Z) Z ?_;refine Y Z (az Z (k:=2) S) Z ?_;refine Y Z (aw Z (aq.get 0 Z) S Z) Z ?_;refine Y Z (az Z (k:=3) S) Z ?_;refine Y Z (aw Z (aq.get 0 Z) S Z) Z ?_;refine Y Z (az Z (k:=4) S) Z ?_;refine Y Z (aw Z (aq.get 0 Z) S Z) Z ?_;refine gw aq Z (bN (e:=2) (m:=1) (z:=[.int .i64 0]) (cs:=[_,_,_,_,_]) S S S S<|bA Z Z Z Z<|bA Z Z Z Z<|bA Z Z Z Z<|bA Z Z Z Z<|bA Z Z Z Z bI) (fun _=>Z) (fun V b3 aq=>?_);replace aq:=aq.pull (.there (.there .here));replace aq:=aq.pull (.gX<|fQ.here (X:=[_]));refine fY (R:=cH) (m:=1) (e:=2) hO3 aq (fF (xs:=[ao.kind,ao.loc,ao.order,ao.read,ao.write]) (.inr ⟨Z,Z⟩) (by simp)) cH.leaf (by have:=NY hF i2;have:=NZ hr14 q;simp only[lA_,List.length_cons,List.length_nil];omega) Z Z Z Z Z Z Z (fun _=>Z) (fun V sa sh hO69 aq=>?_);replace aq:=aq.sub (gP (.cons _ (.refl _)));refine Y Z (ak Z) Z ?_;refine af ?_;refine aH ?_;refine B ?_;refine ah Z ?_;refine Y Z (D Z) Z ?_;refine Y Z (aC Z Z Z) Z ?_;refine Y Z (ak Z) Z ?_;refine af ?_;refine aL ⟨ia-1,(by have:=aS ac;omega),(by(iterate 68 refine bc.put Z ?_);exact bc.refl _ _),q+1,_,_,⟨by have:=aS ac;omega,by rw[fI a1,<-lQ_];exact hO69⟩,Z,congrArg (fun z=>some (J.int .i64 z))<|aX (by have:=aS ac;omega),aq⟩
  refine ba ?_;refine aP ?_;refine aR ?_;refine aM ?_;refine aH ?_;refine B ?_;refine ah Z ?_;refine Y Z (D Z) Z ?_;refine Y Z (aC Z Z Z) Z ?_;refine Y Z (ak Z) Z ?_;refine af ?_;refine aL ⟨j7-1,(by have:=aS ab;omega),(by(iterate 93 refine bc.put Z ?_);exact bc.refl _ _),i2+1,_,_,⟨by have:=aS ab;omega,by rw[fI T,<-lQ_];rw[iu<|bC ac] at hO3;exact hO3⟩,Z,congrArg (fun z=>some (J.int .i64 z))<|aX (by have:=aS ab;have:=hF.t;omega),aq⟩
 refine ba ?_;refine aP ?_;refine aR ?_;refine aM ?_;refine B ?_;refine H ?_;refine ah Z ?_;have dx:g.threads.length<=i2:=bC ab;rw[iu dx] at hO2;obtain⟨p2,bf⟩:∃x:List Int,x=p1++g.threads.flatMap fun r=>r.flatMap cU.ints:=⟨_,Z⟩
 rw[<-bf] at hO2;have k8:p2.length<=285:=by rw[bf];have:=NY hF i2;rw[iu dx] at this;rw[lA_];omega
 refine Y Z (D Z) Z ?_;refine Y Z (az Z (k:=2) S) Z ?_;refine Y Z (aw Z (aq.eS C) S Z) Z ?_;refine Y Z (aO hg1.from_ Z Z Z (e:=57) S Z) Z ?_;refine gw aq Z (bN (e:=2) (m:=1) (z:=[.int .i64 0]) (cs:=[_]) S S S S<|bA Z Z Z Z bI) (fun _=>Z) (fun V b2 aq=>?_);replace aq:=aq.pull (.there .here);replace aq:=aq.pull (.gX<|fQ.here (X:=[_]));refine fY (R:=cH) (m:=1) (e:=2) hO2 aq (fF (xs:=[Int.ofNat g.from_.length]) (.inr ⟨Z,Z⟩) (by simp)) cH.leaf (by simp;omega) Z Z Z Z Z Z Z (fun _=>Z) (fun V sm so hO75 aq=>?_);refine Y Z (ak Z) Z ?_;refine af ?_;refine B ?_;refine H ?_;refine H ?_;refine ah Z ?_;obtain⟨p3,bi⟩:∃x:List Int,x=p2++[Int.ofNat g.from_.length]:=⟨_,Z⟩;rw[<-bi] at hO75;have la:p3.length<=286:=by rw[bi];simp;omega
 refine Y Z (ak Z) Z ?_;refine af ?_;refine B ?_;refine aI ?_;refine a6 [3,8,9,76,77,78,79,80,81,82,83,84,85,86,87,88,89,90,91,92,93,94,95,96,97,98,99,100,101,102,103,104,105,106,107,108,109,110,111,112,113,114,115,116,117,118,119,120,121,122] (fun j t V=>∃(i3:Nat) (u:J) (M4:Own),(j+i3=g.from_.length/\cS 1 2 cH (p3++((g.from_.take i3).flatMap kB)) u M4)/\t.get 3=some (u)/\t.get 8=some (.int .i64 (.ofNat i3))/\St V K1 (M4++L)) (g.from_.length) ⟨0,_,_,⟨Z,by rw[List.take_zero,List.flatMap_nil,List.append_nil];exact hO75⟩,Z,Z,aq⟩ ?_;clear aq;intro ib t V an U;obtain⟨i3,u,M4,⟨lc,hO4⟩,A,bk,aq⟩:=U;replace an:=an.bS Z Z;obtain⟨W,o8,o9,sp,st,sz,sJ,s0,an⟩:=an;replace an:=an.bS Z Z;obtain⟨s1,s2,s3,s4,td,th,ti,tj,an⟩:=an;replace an:=an.bS Z Z;obtain⟨tk,tm,tn,ih,ii,il,im,io,an⟩:=an;replace an:=an.bS Z Z;obtain⟨ip,it,ix,dT,d0,d1,d2,d3,an⟩:=an;replace an:=an.bS Z Z;obtain⟨d4,d5,d6,d7,d8,d9,ee,ef,an⟩:=an;replace an:=an.bS Z Z;obtain⟨eg,el,em,en,eo,er,es,et,an⟩:=an;replace an:=an.eh Z;obtain⟨ev,an⟩:=an;replace an:=an.eh Z;obtain⟨ex,an⟩:=an;obtain rfl:=an.nil;clear an;replace A:W=some _:=A;subst A;replace bk:o8=some _:=bk;subst bk;refine H ?_;refine H ?_;refine ah Z ?_;refine Y Z (D Z) Z ?_;refine Y Z (az Z (k:=2) S) Z ?_;refine Y Z (aw Z (aq.eS C) S Z) Z ?_;refine Y Z (aO hg1.from_ Z Z Z (e:=57) S Z) Z ?_;refine Y Z (aC Z Z Z) Z ?_;refine af ?_;refine B ?_;refine aD Z (fun ad=>?_) (fun ad=>?_)
 ·refine aG ?_;refine B ?_;refine H ?_;refine aI ?_;refine H ?_;refine ah Z ?_;obtain⟨fr,ai⟩:=bZ (aS ad);have hf14:=hF.fr fr (gB_ ai);refine Y Z (D Z) Z ?_;refine Y Z (az Z (k:=2) S) Z ?_;refine Y Z (aw Z (aq.eS C) S Z) Z ?_;refine Y Z (D Z) Z ?_;refine cm (e:=57) (m:=1) hg1.from_ ai Z Z S S Z Z (fun _=>Z) (fun to ld e0 li e3=>?_);have hr87':=e3;obtain⟨tp,rfl,e4⟩:=hr87';refine Y Z (aN aq e0 Z S Z) Z ?_;refine Y Z (aO e4 Z Z Z (e:=59) S Z) Z ?_;refine gw aq Z (bN (e:=2) (m:=1) (z:=[.int .i64 0]) (cs:=[_]) S S S S<|bA Z Z Z Z bI) (fun _=>Z) (fun V b3 aq=>?_);replace aq:=aq.pull (.there .here);replace aq:=aq.pull (.gX<|fQ.here (X:=[_]));refine fY (R:=cH) (m:=1) (e:=2) hO4 aq (fF (xs:=[Int.ofNat fr.length]) (.inr ⟨Z,Z⟩) (by simp)) cH.leaf (by have:=pX hF.f hF.fr i3;simp only[lA_,List.length_cons,List.length_nil];omega) Z Z Z Z Z Z Z (fun _=>Z) (fun V tr ts hO91 aq=>?_);refine Y Z (ak Z) Z ?_;refine af ?_;refine B ?_;refine H ?_;refine ah Z ?_;refine Y Z (ak Z) Z ?_;refine af ?_;refine B ?_;refine aI ?_;refine a6 [3,9,92,93,94,95,96,97,98,99,100,101,102,103,104,105,106,107,108,109,110,111,112,113,114,115,116,117,118,119,120,121,122] (fun j t V=>∃(q3:Nat) (u:J) (M5:Own),(j+q3=fr.length/\cS 1 2 cH (p3++((g.from_.take i3).flatMap kB)++[Int.ofNat fr.length]++((fr.take q3).flatMap cQ.ints)) u M5)/\t.get 3=some (u)/\t.get 9=some (.int .i64 (.ofNat q3))/\St V K1 (M5++L)) (fr.length) ⟨0,_,_,⟨Z,by rw[List.take_zero,List.flatMap_nil,List.append_nil];exact hO91⟩,Z,Z,aq⟩ ?_;clear aq;intro iz t V an U;obtain⟨q3,u,M5,⟨lm,hO5⟩,A,bl,aq⟩:=U;replace an:=an.bS Z Z;obtain⟨W,o9,ih,ii,il,im,io,ip,an⟩:=an;replace an:=an.bS Z Z;obtain⟨it,ix,dT,d0,d1,d2,d3,d4,an⟩:=an;replace an:=an.bS Z Z;obtain⟨d5,d6,d7,d8,d9,ee,ef,eg,an⟩:=an;replace an:=an.bS Z Z;obtain⟨el,em,en,eo,er,es,et,ev,an⟩:=an;replace an:=an.eh Z;obtain⟨ex,an⟩:=an;obtain rfl:=an.nil;clear an;replace A:W=some _:=A;subst A;replace bl:o9=some _:=bl;subst bl;refine H ?_;refine H ?_;refine ah Z ?_;refine Y Z (D Z) Z ?_;refine Y Z (az Z (k:=2) S) Z ?_;refine Y Z (aw Z (aq.eS C) S Z) Z ?_;refine Y Z (D Z) Z ?_;refine cm (e:=57) (m:=1) hg1.from_ ai Z Z S S Z Z (fun _=>Z) (fun ty ln e5 lo e6=>?_);have hr96':=e6;obtain⟨t0,rfl,e7⟩:=hr96';refine Y Z (aN aq e5 Z S Z) Z ?_;refine Y Z (aO e7 Z Z Z (e:=59) S Z) Z ?_;refine Y Z (aC Z Z Z) Z ?_;refine af ?_;refine B ?_;refine aD Z (fun al=>?_) (fun al=>?_)
  ·refine aG ?_;refine B ?_;refine H ?_;refine aI ?_;refine aU (l:=[(0,[]),(1,[]),(2,[]),(3,[]),(4,[]),(5,[]),(6,[]),(7,[]),(8,[]),(9,[]),(10,[]),(11,[]),(12,[]),(13,[]),(14,[]),(15,[]),(16,[]),(17,[]),(18,[]),(19,[]),(20,[]),(21,[])]) S S ?_;refine aj Z Z (D Z) Z ?_;refine aj Z Z (az Z (k:=2) S) Z ?_;refine aj Z Z (aw Z (aq.eS C) S Z) Z ?_;refine aj Z Z (D Z) Z ?_;refine bV (e:=57) (m:=1) hg1.from_ ai Z Z Z S S Z Z (fun _=>Z) (fun lp iJ bm i0 bo=>?_);have hr106':=bo;obtain⟨ls,rfl,br⟩:=hr106';refine aj Z Z (aN aq bm Z S Z) Z ?_;refine aj Z Z (D Z) Z ?_;obtain⟨a2,I,i1⟩:=cL al;refine bV (e:=59) (m:=2) br I Z Z Z S S Z Z (fun _=>Z) (fun lv i5 bs i6 bt=>?_);obtain rfl:=bt;refine mX bs Z Z Z Z (k:=0) S (Nat.le_of_ble_eq_true Z) (fun _=>Z) (fun lw bv=>?_);refine aj Z Z (aN aq bv Z S Z) Z ?_;refine aj Z Z (az Z (k:=2) S) Z ?_;refine aj Z Z (aw Z (aq.eS C) S Z) Z ?_;refine aj Z Z (D Z) Z ?_;refine bV (e:=57) (m:=1) hg1.from_ ai Z Z Z S S Z Z (fun _=>Z) (fun lx i7 bw i9 b0=>?_);have hr115':=b0;obtain⟨ly,rfl,b6⟩:=hr115';refine aj Z Z (aN aq bw Z S Z) Z ?_;refine aj Z Z (D Z) Z ?_;refine bV (e:=59) (m:=2) b6 I Z Z Z S S Z Z (fun _=>Z) (fun l0 je b7 jj b8=>?_);obtain rfl:=b8;refine mX b7 Z Z Z Z (k:=1) S (Nat.le_of_ble_eq_true Z) (fun _=>Z) (fun mc b9=>?_);refine aj Z Z (aN aq b9 Z S Z) Z ?_;refine lJ aq Z Z (bN (e:=2) (m:=1) (z:=[.int .i64 0]) (cs:=[_,_]) S S S S<|bA Z Z Z Z<|bA Z Z Z Z bI) (fun _=>Z) (fun V b4 aq=>?_);replace aq:=aq.pull (.there .here);replace aq:=aq.pull (.gX<|fQ.here (X:=[_]));refine lI (R:=cH) (m:=1) (e:=2) hO5 aq (fF (xs:=[a2.cq,a2.index]) (.inr ⟨Z,Z⟩) (by simp)) cH.leaf (by have:=pX hF.f hF.fr i3;have:=Ao hf14 q3;simp only[lA_,List.length_cons,List.length_nil];omega) Z Z Z Z Z Z Z Z (fun _=>Z) (fun V md mo hO122 aq=>?_);refine⟨aV,?_⟩;refine aj Z Z (ak Z) Z ?_;refine a8 ?_;refine aH ?_;refine B ?_;refine ah Z ?_;refine Y Z (D Z) Z ?_;refine Y Z (aC Z Z Z) Z ?_;refine Y Z (ak Z) Z ?_;refine af ?_;refine aL ⟨iz-1,(by have:=aS al;omega),(by(iterate 66 refine bc.put Z ?_);exact bc.refl _ _),q3+1,_,_,⟨by have:=aS al;omega,by rw[fI I,<-lQ_];exact hO122⟩,Z,congrArg (fun z=>some (J.int .i64 z))<|aX (by have:=aS al;omega),aq⟩
  refine ba ?_;refine aP ?_;refine aR ?_;refine aM ?_;refine aH ?_;refine B ?_;refine ah Z ?_;refine Y Z (D Z) Z ?_;refine Y Z (aC Z Z Z) Z ?_;refine Y Z (ak Z) Z ?_;refine af ?_;refine aL ⟨ib-1,(by have:=aS ad;omega),(by(iterate 110 refine bc.put Z ?_);exact bc.refl _ _),i3+1,_,_,⟨by have:=aS ad;omega,by rw[fI ai,<-lQ_];rw[iu<|bC al] at hO5;rw[lQ_] at hO5;exact hO5⟩,Z,congrArg (fun z=>some (J.int .i64 z))<|aX (by have:=aS ad;have:=hF.f;have:=hF.o;omega),aq⟩
 refine ba ?_;refine aP ?_;refine aR ?_;refine aM ?_;refine B ?_;refine H ?_;refine ah Z ?_;have a3:g.from_.length<=i3:=bC ad;rw[iu a3] at hO4;obtain⟨p4,ca⟩:∃x:List Int,x=p3++g.from_.flatMap kB:=⟨_,Z⟩;rw[<-ca] at hO4;have mp:p4.length<=402:=by rw[ca];have:=pX hF.f hF.fr i3;rw[iu a3] at this;rw[lA_];omega
 refine Y Z (D Z) Z ?_;refine Y Z (az Z (k:=3) S) Z ?_;refine Y Z (aw Z (aq.eS C) S Z) Z ?_;refine Y Z (aO hg1.order Z Z Z (e:=57) S Z) Z ?_;refine gw aq Z (bN (e:=2) (m:=1) (z:=[.int .i64 0]) (cs:=[_]) S S S S<|bA Z Z Z Z bI) (fun _=>Z) (fun V b3 aq=>?_);replace aq:=aq.pull (.there .here);replace aq:=aq.pull (.gX<|fQ.here (X:=[_]));refine fY (R:=cH) (m:=1) (e:=2) hO4 aq (fF (xs:=[Int.ofNat g.order.length]) (.inr ⟨Z,Z⟩) (by simp)) cH.leaf (by simp;omega) Z Z Z Z Z Z Z (fun _=>Z) (fun V ms mt hO128 aq=>?_);refine Y Z (ak Z) Z ?_;refine af ?_;refine B ?_;refine H ?_;refine H ?_;refine ah Z ?_;obtain⟨p5,cb⟩:∃x:List Int,x=p4++[Int.ofNat g.order.length]:=⟨_,Z⟩;rw[<-cb] at hO128;have mx:p5.length<=403:=by rw[cb];simp;omega
 refine Y Z (ak Z) Z ?_;refine af ?_;refine B ?_;refine aI ?_;refine a6 [3,10,11,129,130,131,132,133,134,135,136,137,138,139,140,141,142,143,144,145,146,147,148,149,150,151,152,153,154,155,156,157,158,159,160,161,162,163,164,165,166,167,168,169,170,171,172,173,174,175] (fun j t V=>∃(i4:Nat) (u:J) (M6:Own),(j+i4=g.order.length/\cS 1 2 cH (p5++((g.order.take i4).flatMap kB)) u M6)/\t.get 3=some (u)/\t.get 10=some (.int .i64 (.ofNat i4))/\St V K1 (M6++L)) (g.order.length) ⟨0,_,_,⟨Z,by rw[List.take_zero,List.flatMap_nil,List.append_nil];exact hO128⟩,Z,Z,aq⟩ ?_;clear aq;intro jp t V an U;obtain⟨i4,u,M6,⟨m0,hO6⟩,A,ap,aq⟩:=U;replace an:=an.bS Z Z;obtain⟨W,jw,e8,m3,m4,m5,m6,m7,an⟩:=an;replace an:=an.bS Z Z;obtain⟨m8,m9,nd,ne,nl,nn,no,nx,an⟩:=an;replace an:=an.bS Z Z;obtain⟨n0,n1,n2,e9,fd,fi,fk,fs,an⟩:=an;replace an:=an.bS Z Z;obtain⟨fv,f0,f1,f2,f3,f4,f5,f6,an⟩:=an;replace an:=an.bS Z Z;obtain⟨f7,f8,f9,gc,ge,gl,gr,gs,an⟩:=an;replace an:=an.bS Z Z;obtain⟨gt,gv,g2,g3,g4,g5,g6,g7,an⟩:=an;replace an:=an.eh Z;obtain⟨g9,an⟩:=an;replace an:=an.eh Z;obtain⟨ha,an⟩:=an;obtain rfl:=an.nil;clear an;replace A:W=some _:=A;subst A;replace ap:jw=some _:=ap;subst ap;refine H ?_;refine H ?_;refine ah Z ?_;refine Y Z (D Z) Z ?_;refine Y Z (az Z (k:=3) S) Z ?_;refine Y Z (aw Z (aq.eS C) S Z) Z ?_;refine Y Z (aO hg1.order Z Z Z (e:=57) S Z) Z ?_;refine Y Z (aC Z Z Z) Z ?_;refine af ?_;refine B ?_;refine aD Z (fun E=>?_) (fun E=>?_)
 ·refine aG ?_;refine B ?_;refine H ?_;refine aI ?_;refine H ?_;refine ah Z ?_;obtain⟨od,am⟩:=bZ (aS E);have ho56:=hF.Qs od (gB_ am);refine Y Z (D Z) Z ?_;refine Y Z (az Z (k:=3) S) Z ?_;refine Y Z (aw Z (aq.eS C) S Z) Z ?_;refine Y Z (D Z) Z ?_;refine cm (e:=57) (m:=1) hg1.order am Z Z S S Z Z (fun _=>Z) (fun n3 j1 cc j2 ce=>?_);have hr140':=ce;obtain⟨n4,rfl,cg⟩:=hr140';refine Y Z (aN aq cc Z S Z) Z ?_;refine Y Z (aO cg Z Z Z (e:=59) S Z) Z ?_;refine gw aq Z (bN (e:=2) (m:=1) (z:=[.int .i64 0]) (cs:=[_]) S S S S<|bA Z Z Z Z bI) (fun _=>Z) (fun V b4 aq=>?_);replace aq:=aq.pull (.there .here);replace aq:=aq.pull (.gX<|fQ.here (X:=[_]));refine fY (R:=cH) (m:=1) (e:=2) hO6 aq (fF (xs:=[Int.ofNat od.length]) (.inr ⟨Z,Z⟩) (by simp)) cH.leaf (by have:=pX hF.o hF.Qs i4;simp only[lA_,List.length_cons,List.length_nil];omega) Z Z Z Z Z Z Z (fun _=>Z) (fun V n5 n6 hO144 aq=>?_);refine Y Z (ak Z) Z ?_;refine af ?_;refine B ?_;refine H ?_;refine ah Z ?_;refine Y Z (ak Z) Z ?_;refine af ?_;refine B ?_;refine aI ?_;refine a6 [3,11,145,146,147,148,149,150,151,152,153,154,155,156,157,158,159,160,161,162,163,164,165,166,167,168,169,170,171,172,173,174,175] (fun j t V=>∃(q4:Nat) (u:J) (M7:Own),(j+q4=od.length/\cS 1 2 cH (p5++((g.order.take i4).flatMap kB)++[Int.ofNat od.length]++((od.take q4).flatMap cQ.ints)) u M7)/\t.get 3=some (u)/\t.get 11=some (.int .i64 (.ofNat q4))/\St V K1 (M7++L)) (od.length) ⟨0,_,_,⟨Z,by rw[List.take_zero,List.flatMap_nil,List.append_nil];exact hO144⟩,Z,Z,aq⟩ ?_;clear aq;intro j4 t V an U;obtain⟨q4,u,M7,⟨n7,hO7⟩,A,av,aq⟩:=U;replace an:=an.bS Z Z;obtain⟨W,e8,e9,fd,fi,fk,fs,fv,an⟩:=an;replace an:=an.bS Z Z;obtain⟨f0,f1,f2,f3,f4,f5,f6,f7,an⟩:=an;replace an:=an.bS Z Z;obtain⟨f8,f9,gc,ge,gl,gr,gs,gt,an⟩:=an;replace an:=an.bS Z Z;obtain⟨gv,g2,g3,g4,g5,g6,g7,g9,an⟩:=an;replace an:=an.eh Z;obtain⟨ha,an⟩:=an;obtain rfl:=an.nil;clear an;replace A:W=some _:=A;subst A;replace av:e8=some _:=av;subst av;refine H ?_;refine H ?_;refine ah Z ?_;refine Y Z (D Z) Z ?_;refine Y Z (az Z (k:=3) S) Z ?_;refine Y Z (aw Z (aq.eS C) S Z) Z ?_;refine Y Z (D Z) Z ?_;refine cm (e:=57) (m:=1) hg1.order am Z Z S S Z Z (fun _=>Z) (fun n8 j5 ch j6 ci=>?_);have hr149':=ci;obtain⟨ob,rfl,cj⟩:=hr149';refine Y Z (aN aq ch Z S Z) Z ?_;refine Y Z (aO cj Z Z Z (e:=59) S Z) Z ?_;refine Y Z (aC Z Z Z) Z ?_;refine af ?_;refine B ?_;refine aD Z (fun F=>?_) (fun F=>?_)
  ·refine aG ?_;refine B ?_;refine H ?_;refine aI ?_;refine aU (l:=[(0,[]),(1,[]),(2,[]),(3,[]),(4,[]),(5,[]),(6,[]),(7,[]),(8,[]),(9,[]),(10,[]),(11,[]),(12,[]),(13,[]),(14,[]),(15,[]),(16,[]),(17,[]),(18,[]),(19,[]),(20,[]),(21,[])]) S S ?_;refine aj Z Z (D Z) Z ?_;refine aj Z Z (az Z (k:=3) S) Z ?_;refine aj Z Z (aw Z (aq.eS C) S Z) Z ?_;refine aj Z Z (D Z) Z ?_;refine bV (e:=57) (m:=1) hg1.order am Z Z Z S S Z Z (fun _=>Z) (fun oi j8 ck j9 cn=>?_);have hr159':=cn;obtain⟨ol,rfl,cp⟩:=hr159';refine aj Z Z (aN aq ck Z S Z) Z ?_;refine aj Z Z (D Z) Z ?_;obtain⟨a4,Q,kc⟩:=cL F;refine bV (e:=59) (m:=2) cp Q Z Z Z S S Z Z (fun _=>Z) (fun on kd cr kk cv=>?_);obtain rfl:=cv;refine mX cr Z Z Z Z (k:=0) S (Nat.le_of_ble_eq_true Z) (fun _=>Z) (fun os cw=>?_);refine aj Z Z (aN aq cw Z S Z) Z ?_;refine aj Z Z (az Z (k:=3) S) Z ?_;refine aj Z Z (aw Z (aq.eS C) S Z) Z ?_;refine aj Z Z (D Z) Z ?_;refine bV (e:=57) (m:=1) hg1.order am Z Z Z S S Z Z (fun _=>Z) (fun ov kl cx kn c0=>?_);have hr168':=c0;obtain⟨o0,rfl,c1⟩:=hr168';refine aj Z Z (aN aq cx Z S Z) Z ?_;refine aj Z Z (D Z) Z ?_;refine bV (e:=59) (m:=2) c1 Q Z Z Z S S Z Z (fun _=>Z) (fun o1 ko c2 ks c3=>?_);obtain rfl:=c3;refine mX c2 Z Z Z Z (k:=1) S (Nat.le_of_ble_eq_true Z) (fun _=>Z) (fun o2 c4=>?_);refine aj Z Z (aN aq c4 Z S Z) Z ?_;refine lJ aq Z Z (bN (e:=2) (m:=1) (z:=[.int .i64 0]) (cs:=[_,_]) S S S S<|bA Z Z Z Z<|bA Z Z Z Z bI) (fun _=>Z) (fun V b5 aq=>?_);replace aq:=aq.pull (.there .here);replace aq:=aq.pull (.gX<|fQ.here (X:=[_]));refine lI (R:=cH) (m:=1) (e:=2) hO7 aq (fF (xs:=[a4.cq,a4.index]) (.inr ⟨Z,Z⟩) (by simp)) cH.leaf (by have:=pX hF.o hF.Qs i4;have:=Ao ho56 q4;simp only[lA_,List.length_cons,List.length_nil];omega) Z Z Z Z Z Z Z Z (fun _=>Z) (fun V pa pc hO175 aq=>?_);refine⟨aV,?_⟩;refine aj Z Z (ak Z) Z ?_;refine a8 ?_;refine aH ?_;refine B ?_;refine ah Z ?_;refine Y Z (D Z) Z ?_;refine Y Z (aC Z Z Z) Z ?_;refine Y Z (ak Z) Z ?_;refine af ?_;refine aL ⟨j4-1,(by have:=aS F;omega),(by(iterate 66 refine bc.put Z ?_);exact bc.refl _ _),q4+1,_,_,⟨by have:=aS F;omega,by rw[fI Q,<-lQ_];exact hO175⟩,Z,congrArg (fun z=>some (J.int .i64 z))<|aX (by have:=aS F;omega),aq⟩
  refine ba ?_;refine aP ?_;refine aR ?_;refine aM ?_;refine aH ?_;refine B ?_;refine ah Z ?_;refine Y Z (D Z) Z ?_;refine Y Z (aC Z Z Z) Z ?_;refine Y Z (ak Z) Z ?_;refine af ?_;refine aL ⟨jp-1,(by have:=aS E;omega),(by(iterate 110 refine bc.put Z ?_);exact bc.refl _ _),i4+1,_,_,⟨by have:=aS E;omega,by rw[fI am,<-lQ_];rw[iu<|bC F] at hO7;rw[lQ_] at hO7;exact hO7⟩,Z,congrArg (fun z=>some (J.int .i64 z))<|aX (by have:=aS E;have:=hF.f;have:=hF.o;omega),aq⟩
 refine ba ?_;refine aP ?_;refine aR ?_;refine aM ?_;refine B ?_;refine H ?_;refine ah Z ?_;have a5:g.order.length<=i4:=bC E;rw[iu a5] at hO6;obtain⟨p6,c5⟩:∃x:List Int,x=p5++g.order.flatMap kB:=⟨_,Z⟩;rw[<-c5] at hO6;have pi:p6.length<=1081:=by rw[c5];have:=pX hF.o hF.Qs i4;rw[iu a5] at this;rw[lA_];omega
 refine Y Z (D Z) Z ?_;refine Y Z (az Z (k:=0) S) Z ?_;refine Y Z (aw Z (aq.eS C) S Z) Z ?_;refine Y Z (aO hg1.init Z Z Z (e:=2) S Z) Z ?_;refine gw aq Z (bN (e:=2) (m:=1) (z:=[.int .i64 0]) (cs:=[_]) S S S S<|bA Z Z Z Z bI) (fun _=>Z) (fun V b4 aq=>?_);replace aq:=aq.pull (.there .here);replace aq:=aq.pull (.gX<|fQ.here (X:=[_]));refine fY (R:=cH) (m:=1) (e:=2) hO6 aq (fF (xs:=[Int.ofNat g.init.length]) (.inr ⟨Z,Z⟩) (by simp)) cH.leaf (by simp;omega) Z Z Z Z Z Z Z (fun _=>Z) (fun V pl pn hO181 aq=>?_);refine Y Z (ak Z) Z ?_;refine af ?_;refine B ?_;refine H ?_;refine ah Z ?_;refine Y Z (D Z) Z ?_;refine Y Z (az Z (k:=0) S) Z ?_;refine Y Z (aw Z (aq.eS C) S Z) Z ?_;refine tD (R:=cH) (m:=1) (e:=2) hO181 aq hg1.init cH.leaf (by have:=hF.i;simp;omega) Z Z Z Z Z Z Z (fun _=>Z) (fun V po hk hO185 aq=>?_);refine Y Z (ak Z) Z ?_;refine af ?_;refine B ?_;refine aF ?_;exact aA Z Z ⟨hk,by have e:=hO185;rw[c5,cb,ca,bi,bf,bb] at e;unfold ma;simpa only[lQ_,List.append_nil] using e,aq.weaken ax⟩
theorem Ar {A B_:List Int} {i:Nat} {x y:Int} (hx:A[i]? =some x) (hy:B_[i]? =some y):Ap (A.drop i) (B_.drop i)=bif bM (eK x y) 0 then Ap (A.drop (i+1)) (B_.drop (i+1)) else eK x y:=by
 rw[cz hx,cz hy];rfl
theorem Ck {A B_:List Int} {i:Nat} (h:A.length<=i∨B_.length<=i):Ap (A.drop i) (B_.drop i)=0:=by
 rcases h with h | h
 ·rw[List.drop_of_length_le h];rfl
 rw[List.drop_of_length_le h];cases A.drop i<;>rfl
theorem Ma {x y:Int} (h:dy x y=true):eK x y= -1:=by unfold eK;rw[h];rfl
theorem L9 {x y:Int} (h:dy y x=true):eK x y=1:=by
 have b:dy x y=false:=by rw[eM] at h⊢;simp at h⊢;omega
 unfold eK;rw[h,b];rfl
theorem Hj {x y:Int} (h1:dy x y=false) (b:dy y x=false):eK x y=0:=by unfold eK;rw[h1,b];rfl
theorem za {G:Cx} (hG:Plain G) {K:KP} {g1 U:XG} {a1 b1 c1 d1 a2 b2 c2 d2:J} (h1:dj K g1 a1 b1 c1 d1) (W:dj K U a2 b2 c2 d2) (hR1:eb g1) (hR2:eb U) {V:N} {L:Own} (aq:St V K L):
  aW Tryz.prog G 59 [.agg [a1,b1,c1,d1],.agg [a2,b2,c2,d2]] V fun v V'=>v= .int .i64 (dQ g1 U)/\St V' K L:=by
 refine aY hG Tryz.func59 Z (t:=(PT.leaf.put (some (.agg [a1,b1,c1,d1])) 0).put (some (.agg [a2,b2,c2,d2])) 1) (by rfl) ?_;refine H ?_;refine ah Z ?_;refine bJ aq Z (cG Z Z) (fun _=>Z) (fun V b1 aq=>?_);refine bJ aq Z (cG Z Z) (fun _=>Z) (fun V b2 aq=>?_);refine Y Z (ak Z) Z ?_;refine af ?_;refine B ?_;refine H ?_;refine aU (l:=[(0,[]),(2,[]),(1,[2]),(3,[]),(4,[]),(5,[])]) S S ?_;refine aj Z Z (bp Z (aq.get 1 Z) (n:=4) (vs:=[_,_,_,_]) S (Nat.le_of_ble_eq_true Z) Z) Z ?_;refine aj Z Z (bp Z (aq.get 0 Z) (n:=4) (vs:=[_,_,_,_]) S (Nat.le_of_ble_eq_true Z) Z) Z ?_;refine eW Z Z (aT Z Z Z S) (fun _=>Z) (zt hG hR1 h1 aq) ?_;rintro u9 V ⟨M9,hO9,aq⟩;refine⟨(aZ (bh Z Z Z Z Z (bp Z (aq.bX.get 0 Z) (n:=4) (vs:=[_,_,_,_]) S (Nat.le_of_ble_eq_true Z) Z)<|mJ<|cZ W.init.lf<|cZ W.threads.lf<|cZ W.from_.lf<|cZ W.order.lf lg) aV),?_⟩;refine eW Z Z (aT Z Z Z S) (fun _=>Z) (zt hG hR2 W aq) ?_;rintro bd V ⟨ao,hO11,aq⟩;refine⟨aV,?_⟩;refine aj Z Z (ak Z) Z ?_;refine aj Z Z (ak Z) Z ?_;refine a8 ?_;refine B ?_;refine H ?_;refine H ?_;refine ah Z ?_;obtain⟨K1,A,b,aq⟩:=aq.cK (M:=ao);have hn11:=hO11.gS (K:=K1) b;clear b;obtain⟨K2,d,b,aq⟩:=aq.cK (M:=M9);have hn9:=hO9.gS (K:=K2) b;have hn11:=hn11.mono d fun _ _ h=>h;clear b
 refine Y Z (ak Z) Z ?_;refine af ?_;refine B ?_;refine aI ?_;obtain⟨LL1,aq,hLL1⟩:=aq.named;refine a6 [4,7,12,13,14,15,16,17,18,19,20,21,22,23,24,25,26,27,28,29,30,31,32,33,34,35,36,37,38,39,40,41] (fun j t V=>∃(i:Nat),(j+i=(ma g1).length/\Ap (ma g1) (ma U)=Ap ((ma g1).drop i) ((ma U).drop i))/\t.get 7=some (.int .i64 (.ofNat i))/\St V K2 LL1) ((ma g1).length) ⟨0,⟨Z,Z⟩,Z,aq⟩ ?_;clear aq;intro j3 t V an hI;obtain⟨i,⟨be,u⟩,F,aq⟩:=hI;subst hLL1;replace an:=an.bS Z Z;obtain⟨o4,o7,bf,bi,bk,bl,bm,bo,an⟩:=an;replace an:=an.bS Z Z;obtain⟨br,bs,bt,bv,bw,b0,b3,b4,an⟩:=an;replace an:=an.bS Z Z;obtain⟨b5,b6,b7,b8,b9,ca,cb,cc,an⟩:=an;replace an:=an.bS Z Z;obtain⟨ce,cg,ch,ci,cj,ck,cn,cp,an⟩:=an;obtain rfl:=an.nil;clear an;replace F:o7=some _:=F;subst F;refine H ?_;refine H ?_;refine ah Z ?_;refine Y Z (D Z) Z ?_;refine Y Z (D Z) Z ?_;refine Y Z (aO hn9 Z Z Z (e:=2) S Z) Z ?_;refine Y Z (aC Z Z Z) Z ?_;refine bx Z (D Z) (fun _=>Z) (fun I=>?_) (fun I=>?_)
 ·refine Y Z (D Z) Z ?_;refine Y Z (D Z) Z ?_;refine Y Z (aO hn11 Z Z Z (e:=2) S Z) Z ?_;refine Y Z (aC Z Z Z) Z ?_;refine Y Z (aJ Z Z) Z ?_;refine af ?_;refine B ?_;refine aD Z (fun Q=>?_) (fun Q=>?_)
  ·refine aG ?_;refine B ?_;refine H ?_;refine aI ?_;refine H ?_;refine H ?_;refine aU (l:=[(0,[]),(1,[]),(2,[]),(3,[]),(4,[]),(5,[]),(6,[]),(7,[]),(8,[])]) S S ?_;refine aj Z Z (D Z) Z ?_;refine aj Z Z (D Z) Z ?_;have ap:i<(ma g1).length:=aS I;have av:i<(ma U).length:=aS Q;obtain⟨cq,C⟩:=bZ ap;obtain⟨cr,E⟩:=bZ av;refine bV (e:=2) (m:=1) hn9 C Z Z Z S S Z Z (fun _=>Z) (fun cs ax X aE aa=>?_);obtain rfl:=aa;refine aj Z Z (aN aq X Z S Z) Z ?_;refine aj Z Z (D Z) Z ?_;refine aj Z Z (D Z) Z ?_;refine bV (e:=2) (m:=1) hn11 E Z Z Z S S Z Z (fun _=>Z) (fun cv a0 ab a3 ac=>?_);obtain rfl:=ac;refine aj Z Z (aN aq ab Z S Z) Z ?_;refine aj Z Z (aC Z Z Z) Z ?_;refine a8 ?_;refine B ?_;refine aD Z (fun R=>?_) (fun R=>?_)
   ·refine H ?_;refine ah Z ?_;refine Y Z (ak Z) Z ?_;refine af ?_;refine B ?_;refine aF ?_;refine ay<|aK<|ay<|bq<|aK<|ay (?_);exact aA Z Z ⟨by rw[<-Aq,u,Ar C E,Ma R];rfl,(aq.pop.pop).weaken<|KP.le_trans A d⟩
   refine aG ?_;refine B ?_;refine H ?_;refine aU (l:=[(0,[]),(1,[]),(2,[]),(3,[]),(4,[]),(5,[]),(6,[]),(7,[]),(8,[])]) S S ?_;refine aj Z Z (D Z) Z ?_;refine aj Z Z (D Z) Z ?_;have hx35:=C;have hx39:=E;refine bV (e:=2) (m:=1) hn9 hx35 Z Z Z S S Z Z (fun _=>Z) (fun cw a4 ad a5 ai=>?_);obtain rfl:=ai;refine aj Z Z (aN aq ad Z S Z) Z ?_;refine aj Z Z (D Z) Z ?_;refine aj Z Z (D Z) Z ?_;refine bV (e:=2) (m:=1) hn11 hx39 Z Z Z S S Z Z (fun _=>Z) (fun cx a9 al bb am=>?_);obtain rfl:=am;refine aj Z Z (aN aq al Z S Z) Z ?_;refine aj Z Z (aC Z Z Z) Z ?_;refine a8 ?_;refine B ?_;refine aD Z (fun T=>?_) (fun T=>?_)
   ·refine H ?_;refine ah Z ?_;refine Y Z (ak Z) Z ?_;refine af ?_;refine B ?_;refine aF ?_;refine aK<|ay<|bq<|aK<|ay (?_);exact aA Z Z ⟨by rw[<-Aq,u,Ar hx35 hx39,L9 T];rfl,(aq.pop.pop).weaken<|KP.le_trans A d⟩
   refine aG ?_;refine aH ?_;refine B ?_;refine ah Z ?_;refine Y Z (D Z) Z ?_;refine Y Z (aC Z Z Z) Z ?_;refine Y Z (ak Z) Z ?_;refine af ?_;refine aL ⟨j3-1,oM,(by(iterate 63 refine bc.put Z ?_);exact bc.refl _ _),i+1,⟨by omega,by rw[u,Ar C E,Hj R T];rfl⟩,congrArg (fun z=>some (J.int .i64 z))<|aX (by have:=hn9.bK;omega),aq⟩
  refine ba ?_;refine aP ?_;refine aR ?_;refine aM ?_;refine B ?_;refine H ?_;refine ah Z ?_;refine Y Z (ak Z) Z ?_;refine af ?_;refine B ?_;refine aF ?_;exact aA Z Z ⟨by rw[<-Aq,u,Ck (.inr<|bC Q)],(aq.pop.pop).weaken<|KP.le_trans A d⟩
 refine ae Z Z ?_;refine ae Z Z ?_;refine ae Z Z ?_;refine ae Z Z ?_;refine Y Z (aJ Z Z) Z ?_;refine af ?_;refine B ?_;refine bz Z ?_;refine ba ?_;refine aP ?_;refine aR ?_;refine aM ?_;refine B ?_;refine H ?_;refine ah Z ?_;refine Y Z (ak Z) Z ?_;refine af ?_;refine B ?_;refine aF ?_;exact aA Z Z ⟨by rw[<-Aq,u,Ck (.inl<|bC I)],(aq.pop.pop).weaken<|KP.le_trans A d⟩
theorem Gv {G:Cx} (M:Plain G) {K:KP} {g1 m:XG} {u b A C E d F I:J} (h1:dj K g1 u b A C) (Q:dj K m E d F I) (hR1:eb g1) (hR2:eb m) {V:N} {L:Own} (aq:St V K L):
  aW Tryz.prog G 28 [.agg [u,b,A,C],.agg [E,d,F,I]] V fun v V'=>v= .bool (bM (dQ g1 m) 0)/\St V' K L:=by
 refine aY M Tryz.func28 Z (t:=(PT.leaf.put (some (.agg [u,b,A,C])) 0).put (some (.agg [E,d,F,I])) 1) (by rfl) ?_;refine H ?_;refine ah Z ?_;refine bJ aq Z (cG Z Z) (fun _=>Z) (fun V b aq=>?_);refine bJ aq Z (cG Z Z) (fun _=>Z) (fun V d aq=>?_);refine Y Z (ak Z) Z ?_;refine af ?_;refine B ?_;refine H ?_;refine ah Z ?_;refine Y Z (bp Z (aq.get 1 Z) (n:=4) (vs:=[_,_,_,_]) S (Nat.le_of_ble_eq_true Z) Z) Z ?_;refine Y Z (bp Z (aq.get 0 Z) (n:=4) (vs:=[_,_,_,_]) S (Nat.le_of_ble_eq_true Z) Z) Z ?_;refine bB Z (aT Z Z Z S) (fun _=>Z) (za M h1 Q hR1 hR2 aq) (fun V aq=>?_);refine Y Z (aC Z Z Z) Z ?_;refine Y Z (ak Z) Z ?_;refine af ?_;refine B ?_;refine aF ?_;exact aA Z Z ⟨Z,aq.pop.pop⟩
end Go.Ev
namespace Go.Ev
variable [Env]
abbrev SM:=List (List Nat×Int)
inductive jc:List eB->SM->Prop
 | nil:jc [] []
 | cons {e:eB} {k:List Nat} {v:Int} {es:List eB} {m:SM}:e.key= .str k->e.val= .int .i64 v->jc es m->jc (e::es) ((k,v)::m)
def pk:SM->List Nat->Nat->Option (Nat×Int)
 | [],_,_=>none
 | (k',v)::m,k,i=>if k=k' then some (i,v) else pk m k (i+1)
theorem ze:∀{m:SM} {k:List Nat} {i:Nat},pk m k i=none↔∀x∈m,x.1≠k
 | [],k,i=>by simp[pk]
 | (k',v)::m,k,i=>by
  unfold pk
  by_cases h:k=k'
  ·simp[h]
  rw[if_neg h,ze];simp only[mQ_,forall_eq_or_imp];exact⟨fun hh=>⟨fun e=>h e.symm,hh⟩,fun hh=>hh.2⟩
theorem jc.snoc {es:List eB} {m:SM} (h:jc es m) {e:eB} {k:List Nat} {v:Int} (u:e.key= .str k) (A:e.val= .int .i64 v):jc (es++[e]) (m++[(k,v)]):=by
 induction h with
 | nil=>exact .cons u A .nil
 | cons b c d ih=>exact .cons b c ih
section
variable {P:Program} {G:Cx} {ev:Operand->Option J} {V:N}
theorem yI {t:TypeId} (hu:P.underlying t=some .string) {k:List Nat} {es:List eB} {m:SM} (h:jc es m):∀i,l6 P t (.str k) es i=some ((pk m k i).map fun x=>(x.1,.int .i64 x.2)):=by
 induction h with
 | nil=>intro i;rfl
 | @cons e k' v es m b c d ih=>
  intro i
  have hq:lF P t (.str k) e.key=some (decide (k=k')):=by
   unfold lF;rw[hu,b];dsimp only;rw[rz]
  show(match lF P t (.str k) e.key with
   | some true=>some (some (i,e.val))
   | some false=>l6 P t (.str k) es (i+1)
   | none=>none)=_
  rw[hq];unfold pk
  by_cases hk:k=k'
  ·rw[decide_eq_true hk,if_pos hk];simp[c]
  rw[decide_eq_false hk,if_neg hk];exact ih (i+1)
structure tT (P:Program) (t kt et:TypeId):Prop where
 ty:P.underlying t=some (.map kt et)
 str:P.underlying kt=some .string
 zero:eQ P et=some (.int .i64 0)
theorem tT.plain {t kt et:TypeId} (h:tT P t kt et):plainKey P kt=true:=by unfold plainKey;rw[h.str]
theorem tT.shape {t kt et:TypeId} (h:tT P t kt et) (k:List Nat):jl P kt (.str k)=true:=by unfold jl;rw[h.str]
theorem Iu {t kt et:TypeId} (d:tT P t kt et) {b:Nat} {es:List eB} {ck:Nat} {m:SM} (hm:jc es m) (hb:V.m.get b=some (.map es ck)) {mo ko:Operand} {k:List Nat} (h1:ev mo=some (.map b)) (u:ev ko=some (.str k)):
  dM P G ev V (.lookup t mo ko true)= .val (.tuple [.int .i64 (((pk m k 0).map (·.2)).getD 0),.bool (pk m k 0).isSome]) V:=by
 have hf:=yI d.str (k:=k) hm 0;refine pE Z ?_;simp only[eY,d.ty,u,h1,hb,d.plain,d.shape k,Bool.and_self,cond_true,hf,d.zero];cases pk m k 0 with
 | none=>rfl
 | some x=>rfl
theorem Iv {t kt et:TypeId} (d:tT P t kt et) {b:Nat} {es:List eB} {ck:Nat} {m:SM} (hm:jc es m) (hb:V.m.get b=some (.map es ck)) {mo ko xo:Operand} {k:List Nat} {v:Int} (u:pk m k 0=none) (h1:ev mo=some (.map b)) (A:ev ko=some (.str k)) (C:ev xo=some (.int .i64 v)):
  ∃es' ck',dM P G ev V (.mapUpdate t mo ko xo)= .skip (V.setObj b (.map es' ck'))/\jc es' (m++[(k,v)]):=by
 have hf:=yI d.str (k:=k) hm 0
 have key:∃es' ck',jY P V t (.map b) (.str k) (.int .i64 v)=some (V.setObj b (.map es' ck'))/\jc es' (m++[(k,v)]):=by
  unfold jY;rw[d.ty];dsimp only;rw[hb];dsimp only;rw[d.plain,d.shape k];simp only[Bool.and_self,cond_true];rw[hf,u];exact⟨_,_,Z,by rw[dH];exact hm.snoc Z Z⟩
 obtain⟨es',ck',h4,h5⟩:=key;refine⟨es',ck',iy Z ?_,h5⟩;simp only[fw,h1,A,C,h4]
end
section
variable {P:Program} {G:Cx} {n:Nat} {t:PT J} {V:N} {K:KP} {L:Own} {Q:Ex->PT J->N->Prop} {ops:Array Oper} {o:Oper} {l:List Oper}
theorem EL {ty kt et:TypeId} (u:tT P ty kt et) {b:Nat} {es:List eB} {ck:Nat} {m:SM} (hm:jc es m) (d:St V K ((b,.map es ck)::L)) {mo ko xo:Operand} {k:List Nat} {v:Int} {t':PT J} (A:pk m k 0=none) (hw:bF ops t o=some true) (C:o.op= .mapUpdate ty mo ko xo)
  (h1:bn G t mo=some (.map b)) (E:bn G t ko=some (.str k)) (F:bn G t xo=some (.int .i64 v)) (hp:dA t n o.dst unit=some t')
  (h:∀V' es' ck',St V' K ((b,.map es' ck')::L)->jc es' (m++[(k,v)])->bP P G ops n l t' V' Q):bP P G ops n (o::l) t V Q:=by
 obtain⟨es',ck',e1,e2⟩:=Iv (G:=G) u hm (d.get 0 Z) A h1 E F;exact lu hw (by rw[C];exact e1) hp<|h _ _ _ (d.tO _) e2
end
theorem Eu {α:Type} {c:α->α->Int} (h:sR c fun _=>True) {l fs:List α} (sz:α->Int) (hn:fs.Nodup) (hm:∀z,z∈fs↔z∈l) {s:List (α×Int)} (h1:s.Perm (fs.map fun x=>(x,sz x))) (C:s.Pairwise fun a b=>decide (c b.1 a.1<0)=false):
  s=(fT c l).map fun x=>(x,sz x):=by
 have E:∀a∈s,a=(a.1,sz a.1):=fun a m=>by
  obtain⟨x,_,rfl⟩:=List.mem_map.1 (h1.mem_iff.1 m);rfl
 have e1:s=(s.map Prod.fst).map fun x=>(x,sz x):=by
  rw[List.map_map]
  conv=>lhs;rw[<-List.map_id s]
  exact List.map_congr_left fun a m=>E a m
 have hp:(s.map Prod.fst).Perm fs:=by
  have:=h1.map Prod.fst;rwa[List.map_map,show(Prod.fst ∘ fun x:α=>(x,sz x))=id from Z,List.map_id] at this
 have u:(s.map Prod.fst).Nodup:=hp.nodup_iff.2 hn;have F:(s.map Prod.fst).Pairwise fun x y=>¬c y x<0:=List.pairwise_map.2 (C.imp fun {a b} A=>of_decide_eq_false A)
 have hi:vA c (s.map Prod.fst):=by
  refine(List.Pairwise.and u F).imp fun {x y} d=>?_
  have h0:c x y≠0:=fun e=>d.1 ((h.zero x y trivial trivial).1 e)
  have hn:=d.2;refine(h.neg x y trivial trivial).2 ?_;have aa:c y x≠0:=fun e=>d.1 ((h.zero y x trivial trivial).1 e).symm
  omega
 obtain⟨G,I⟩:=sy h (l:=l) fun _ _=>trivial
 rw[e1,l8 h (fun _ _=>trivial) (fun _ _=>trivial) hi G fun z=>by rw[hp.mem_iff,hm,I]]
def BO (l:List XC):List XG->Int
 | []=>0
 | g::gs=>if eV l g=0 then BO l gs else eV l g
def rJ (l:List XC) (gs:List XG):Int:=if 4<l.length then 3 else BO l gs
def mB (l:List XC) (gs:List XG):List XG:=if rJ l gs=0 then fT dQ (gs.map<|dI l) else []
def E1 (l:List XC) (gs:List XG):List Int:=(mB l gs).map fun x=>Int.ofNat (lH l x).length
theorem FP {l:List XC} {gs:List XG} {i:Nat} {g:XG} (h:gs[i]? =some g):BO l (gs.drop i)=if eV l g=0 then BO l (gs.drop (i+1)) else eV l g:=by
 rw[cz h];rfl
theorem Gf {l:List XC} {g:XG} (h4:l.length<=4) (b:eb g) (hl:l.length=g.threads.length):eV l g=0:=by
 unfold eV;rw[if_neg oM,if_neg (fun h=>h.elim (fun h=>h (ei.2 b)) (fun h=>h hl))]
theorem HP {l:List XC} {g x:XG} (h:eV l g=0) (b:Dx g) (hx:x∈lH l g):eb x/\x.threads.length=l.length/\Dx x/\eV l x=0/\lH l x=lH l g:=by
 obtain⟨hO,h4⟩:=vo h;rw[sg h] at hx;have hin:=(si hO).1 hx;have hR:=hin.right hO.right;have hl:l.length=x.threads.length:=by rw[hin.len];exact hO.len
 have hE:=Gf h4 hR hl;refine⟨hR,hl.symm,?_,hE,?_⟩
 ·obtain⟨p,q,_,_,rfl⟩:=hin;exact b.mv p q
 rw[sg hE,sg h];exact Ke hO hin
theorem HD {l:List XC} {g:XG} (h:eV l g=0):dI l g∈lH l g:=gB_ (oK h)
theorem oL {l:List XC} {g:XG} (h:eV l g=0) (b:Dx g):eb (dI l g)/\(dI l g).threads.length=l.length/\Dx (dI l g)/\eV l (dI l g)=0/\lH l (dI l g)=lH l g:=HP h b (HD h)
def LH (K:KP) (p:XG×Int) (vs:List J):Prop:=∃a b c d,vs= [a,b,c,d,.int .i64 p.2]/\dj K p.1 a b c d
theorem LH.mono {K K':KP} (hk:KP.le K K') {p:XG×Int} {vs:List J} (h:LH K p vs):LH K' p vs:=by
 obtain⟨a,b,c,d,h1,m⟩:=h;exact⟨a,b,c,d,h1,m.mono hk⟩
theorem LH.leaf {K:KP} (p:XG×Int) (vs:List J) (h:LH K p vs):bO vs=true:=by
 obtain⟨a,b,c,d,rfl,m⟩:=h;exact ar m.init.leaf.2<|ar m.threads.leaf.2<|ar m.from_.leaf.2<|ar m.order.leaf.2<|ar Z aQ
def Pq (l:List XC) (x:XG):Int:=Int.ofNat (lH l x).length
def tt (l:List XC) (fs:List XG):List (XG×Int):=fs.map fun x=>(x,Pq l x)
structure NI (l:List XC) (gs:List XG) (fs:List XG):Prop where
 nd:fs.Nodup
 mem:∀z,z∈fs↔z∈gs.map (dI l)
 len:fs.length<=gs.length
theorem NI.nz {l:List XC} {gs fs:List XG} {g:XG} (h:NI l gs fs) (hm:dI l g∈fs):NI l (gs++[g]) fs:=⟨h.nd,fun z=>by
 rw[List.map_append,List.mem_append,<-h.mem];exact⟨.inl,fun hz=>hz.elim id fun hz=>by rw[List.mem_singleton.1 hz];exact hm⟩,by rw[lA_];have:=h.len;omega⟩
theorem NI.new {l:List XC} {gs fs:List XG} {g:XG} (h:NI l gs fs) (hm:dI l g∉fs):NI l (gs++[g]) (fs++[dI l g]):=by
 refine⟨List.nodup_append.2 ⟨h.nd,List.nodup_cons.2 ⟨List.not_mem_nil,List.nodup_nil⟩,fun a d b hb e=>hm (by rw[List.mem_singleton.1 hb] at e;rw[<-e];exact d)⟩,fun z=>?_,by rw[lA_,lA_];have:=h.len;simp;omega⟩;rw[List.map_append,List.mem_append,List.mem_append,h.mem];rfl
theorem F8 {l:List XC} {gs fs:List XG} (h:NI l gs fs) (A:∀x∈gs,eV l x=0) (C:∀x∈gs,Dx x) {g:XG} (E:eV l g=0) (b:Dx g) {m:SM} (hm:m.map Prod.fst=fs.map nW):pk m (nW<|dI l g) 0=none↔dI l g∉fs:=by
 rw[ze]
 have hp:∀z∈fs,eb z/\z.threads.length=l.length:=fun z hz=>by
  obtain⟨x,hx,rfl⟩:=List.mem_map.1 ((h.mem z).1 hz);have:=oL (A x hx) (C x hx);exact⟨this.1,this.2.1⟩
 have hq:=oL E b;constructor
 ·intro hh hz;have:nW (dI l g)∈m.map Prod.fst:=by rw[hm];exact List.mem_map.2 ⟨_,hz,Z⟩
  obtain⟨x,hx,d⟩:=List.mem_map.1 this;exact hh x hx d
 intro hh x hx e;have:x.1∈fs.map nW:=by rw[<-hm];exact List.mem_map.2 ⟨x,hx,Z⟩
 obtain⟨z,hz,u⟩:=List.mem_map.1 this;have:=Ih (hp z hz).1 hq.1 (by rw[(hp z hz).2,hq.2.1]) (by rw[u,e]);exact hh (by rw[<-this];exact hz)
end Go.Ev
namespace Go.Ev
variable [Env]
open Go.Proofs
set_option maxRecDepth 4000
set_option maxHeartbeats 8000000
theorem JH {m:SM} {k:List Nat} (h:(!(pk m k 0).isSome)=true):pk m k 0=none:=by
 cases b:pk m k 0 with
 | none=>rfl
 | some x=>rw[b] at h;cases h
theorem JI {m:SM} {k:List Nat} (h:(!(pk m k 0).isSome)=false):¬pk m k 0=none:=fun e=>by rw[e] at h;cases h
theorem OE {l:List XC} {fs:List XG} {q:Nat} (h:dy (.ofNat q) (.ofNat (tt l fs).length)=true):∃x,fs[q]? =some x:=bZ (by have:=aS h;unfold tt at this;rwa[lM_] at this)
theorem Mm {l:List XC} {fs:List XG} {q:Nat} (h:dy (.ofNat q) (.ofNat (tt l fs).length)=false):fs.length<=q:=by have:=bC h;unfold tt at this;rwa[lM_] at this
theorem Ce {c:XG->XG->Int}:∀(l:List XG) (x:XG),(ic c l x).length<=l.length+1
 | [],x=>nR_ _
 | y::l,x=>by
  have:=Ce (c:=c) l x;unfold ic;split
  ·simp;omega
  split<;>simp
theorem zf {c:XG->XG->Int}:∀(l a:List XG),(l.foldl (ic c) a).length<=a.length+l.length
 | [],a=>nR_ _
 | x::l,a=>by
  have h1:=zf (c:=c) l (ic c a x);have h2:=Ce (c:=c) a x;show(l.foldl (ic c)<|ic c a x).length<=a.length+(l.length+1);omega
theorem CT (l:List XC) (gs:List XG):(mB l gs).length<=gs.length:=by
 unfold mB;split
 ·have:=zf (c:=dQ) (gs.map<|dI l) [];rw[lM_] at this;simpa [fT] using this
 exact Nat.zero_le _
theorem iS {P:Program} {fn:Func} {i j k:Nat} {t:PT J} {V:N} {u v w:J} (A:fn.results.toList= [.tmp i,.tmp j,.tmp k]) (h1:t.get i=some u) (C:t.get j=some v) (E:t.get k=some w):dU P fn t V=some (.tuple [u,v,w]):=by
 unfold dU;rw[A]
 have:cM (fm P t V) [.tmp i,.tmp j,.tmp k]=some [u,v,w]:=by
  have b:fm P t V (.tmp i)=some u:=h1;have d:fm P t V (.tmp j)=some v:=C;have m:fm P t V (.tmp k)=some w:=E;unfold cM;simp only[b,d,m]
 rw[this]
theorem Lp {G:Cx} (I:Plain G) {K:KP} {g1 M:XG} {Q R:Int} {m b u A C d E F:J} (h1:dj K g1 m b u A) (T:dj K M C d E F) {V:N} {L:Own} (aq:St V K L):
  aW Tryz.prog G 55 [.agg [m,b,u,A,.int .i64 Q],.agg [C,d,E,F,.int .i64 R]] V fun v V'=>v= .int .i64 (dQ g1 M)/\St V' K L:=by
 refine aY I Tryz.func55 Z (t:=(PT.leaf.put (some (.agg [m,b,u,A,.int .i64 Q])) 0).put (some (.agg [C,d,E,F,.int .i64 R])) 1) (by rfl) ?_;refine H ?_;refine ah Z ?_;refine bJ aq Z (cG Z Z) (fun _=>Z) (fun V b aq=>?_);refine bJ aq Z (cG Z Z) (fun _=>Z) (fun V d aq=>?_);refine Y Z (ak Z) Z ?_;refine af ?_;refine B ?_;refine H ?_;refine ah Z ?_;refine Y Z (az Z (k:=0) S) Z ?_;refine Y Z (bp Z (aq.get 1 Z) (n:=4) (vs:=[_,_,_,_]) S (Nat.le_of_ble_eq_true Z) Z) Z ?_;refine Y Z (az Z (k:=0) S) Z ?_;refine Y Z (bp Z (aq.get 0 Z) (n:=4) (vs:=[_,_,_,_]) S (Nat.le_of_ble_eq_true Z) Z) Z ?_;refine bB Z (aT Z Z Z S) (fun _=>Z) (ql I h1 T aq) (fun V aq=>?_);refine Y Z (ak Z) Z ?_;refine af ?_;refine B ?_;refine aF ?_;exact aA Z Z ⟨Z,aq.pop.pop⟩
theorem GI:tT Tryz.prog 83 9 3:=⟨by kernel_rfl,by kernel_rfl,by kernel_rfl⟩
theorem Lo {G G0:Cx} (hS:PE G G0) (b3:G.ov 151=true) (b4:∀a s,G.x6 94 a s=none) {K:KP} {k:Nat} {l:List XC} {lv:J} (hl:bG K 2 (gf K k) l lv) {gs:List XG} {gv:J} (bb:bG K 4 (RG K) gs gv) (hI:∀g∈gs,Dx g) (hlen:gs.length<=100000) {V:N} {L:Own} (aq:St V K L):
  aW Tryz.prog G 24 [lv,gv] V fun v V'=>∃K' u1 u2,v= .tuple [u1,u2,.int .i64<|rJ l gs]/\KP.le K K'/\bG K' 4 (RG K') (mB l gs) u1/\bG K' 1 cH (E1 l gs) u2/\St V' K' L:=by
 have hG:=hS.p;refine aY hG Tryz.func24 Z (t:=(PT.leaf.put (some (lv)) 0).put (some (gv)) 1) (by rfl) ?_;refine H ?_;refine ah Z ?_;refine Y Z (ak Z) Z ?_;refine Y Z (ak Z) Z ?_;refine Y Z (ak Z) Z ?_;refine af ?_;refine B ?_;refine H ?_;refine H ?_;refine ah Z ?_;refine Y Z (D Z) Z ?_;refine Y Z (aO hl Z Z Z (e:=63) S Z) Z ?_;refine Y Z (aC Z Z Z) Z ?_;refine af ?_;refine B ?_;refine aD Z (fun a0=>?_) (fun a0=>?_)
 ·refine H ?_;refine ah Z ?_;refine Y Z (ak Z) Z ?_;refine Y Z (ak Z) Z ?_;refine Y Z (ak Z) Z ?_;refine af ?_;refine B ?_;refine aF ?_;refine ay (?_);have hE:rJ l gs=3:=by unfold rJ;rw[if_pos<|aS (a:=4) a0]
  have hF:mB l gs= []:=by unfold mB;rw[hE,if_neg (by decide)]
  exact⟨.inr Z,_,iS Z Z Z Z,K,.au,.au,by rw[hE],KP.le_refl _,.inl ⟨hF,Z⟩,.inl ⟨by unfold E1;rw[hF];rfl,Z⟩,aq⟩
 have c0:l.length<=4:=bC (a:=4) a0;refine aG ?_;refine B ?_;refine H ?_;refine ah Z ?_;refine Y Z (ak Z) Z ?_;refine af ?_;refine B ?_;refine H ?_;refine ah Z ?_;refine N3 aq Z zF (fun _=>Z) (fun V bm aq=>?_);refine Y Z (ak Z) Z ?_;refine af ?_;refine B ?_;refine H ?_;refine H ?_;refine ah Z ?_;refine Y Z (D Z) Z ?_;refine Y Z (aO bb Z Z Z (e:=27) S Z) Z ?_;refine Y Z (D Z) Z ?_;refine af ?_;refine B ?_;refine aI ?_;refine a6 [4,5,6,7,10,11,12,13,14,15,24,25,26,27,28,29,30,31,32,33,34,35,36,37,38,39,40,41,42,43,44,45,46,47,48,49,50,51,52,53,54,55,56,57,58,59,60,61,62] (fun j t V=>∃(i:Nat) (K3:KP) (u:J) (m:SM) (fs:List XG) (M:Own) (es:List eB) (ck:Nat),(j+i=gs.length/\KP.le K K3/\NI l (gs.take i) fs/\(∀x∈gs.take i,eV l x=0)/\BO l gs=BO l (gs.drop i)/\cS 5 87 (LH K3) (tt l fs) u M/\(fs≠[]∨u= .au)/\jc es m/\m.map Prod.fst=fs.map nW)/\t.get 4=some (.au)/\t.get 5=some (.au)/\t.get 7=some (u)/\t.get 24=some (.int .i64 (.ofNat i))/\St V K3 ((bm,.map es ck)::(M++L))) (gs.length) ⟨0,K,.au,[],[],[],_,_,⟨Z,KP.le_refl _,⟨List.nodup_nil,fun z=>by rw[List.take_zero];exact Iff.rfl,Nat.zero_le _⟩,(fun x hx=>by rw[List.take_zero] at hx;cases hx),Z,.inl ⟨Z,Z,Z⟩,.inr Z,.nil,Z⟩,Z,Z,Z,Z,aq⟩ ?_;clear aq;intro j6 t V an hI;obtain⟨i,K3,u,m,fs,M,es,ck,⟨c3,d,F,am,I,hM,hne,hm,ao⟩,W,aa,a3,ac,aq⟩:=hI;replace an:=an.bS Z Z;obtain⟨o4,o5,o6,o7,c4,c5,c7,c8,an⟩:=an;replace an:=an.bS Z Z;obtain⟨c9,dd,b5,df,dk,dl,dm,dn,an⟩:=an;replace an:=an.bS Z Z;obtain⟨dr,ds,dx,dT,d0,d3,d4,d5,an⟩:=an;replace an:=an.bS Z Z;obtain⟨d6,d7,d8,d9,ee,ef,eg,el,an⟩:=an;replace an:=an.bS Z Z;obtain⟨em,en,eo,er,et,ev,ex,e0,an⟩:=an;replace an:=an.bS Z Z;obtain⟨e3,e4,e5,e6,e7,e8,e9,fd,an⟩:=an;replace an:=an.eh Z;obtain⟨fi,an⟩:=an;obtain rfl:=an.nil;clear an;replace W:o4=some _:=W;subst W;replace aa:o5=some _:=aa;subst aa;replace a3:o7=some _:=a3;subst a3;replace ac:b5=some _:=ac;subst ac;refine H ?_;refine ah Z ?_;refine Y Z (aC Z Z Z) Z ?_;refine af ?_;refine B ?_;refine H ?_;refine aD Z (fun E=>?_) (fun E=>?_)
 ·refine aG ?_;refine B ?_;refine H ?_;refine aI ?_;refine H ?_;refine ah Z ?_;have hgs3:=bb.mono d fun _ _ h=>h.mono d;have hl3:=hl.mono d fun _ _ h=>h.mono d
  obtain⟨x26,C,ch⟩:=cL E;refine cm (e:=27) (m:=4) hgs3 C Z Z S S Z Z (fun _=>Z) (fun fk ci bd cj be=>?_);have hr26':=be;obtain⟨fv,f0,f1,f2,rfl,Q⟩:=hr26';refine Y Z (bE aq bd Z S Z) Z ?_;refine bJ aq Z (dG (cs:=[.au,.au,.au,.au]) S S) (fun _=>Z) (fun V b1 aq=>?_);refine cF aq Z (bg Z Z Z (aq.get 0 Z) (m:=4) S Z (Nat.le_of_ble_eq_true Z) (ar Q.init.leaf.2<|ar Q.threads.leaf.2<|ar Q.from_.leaf.2<|ar Q.order.leaf.2 aQ) (cells':=[_,_,_,_]) Z) Z (fun V aq=>?_);refine af ?_;refine B ?_;refine H ?_;refine ah Z ?_;refine Y Z (D Z) Z ?_;refine Y Z (bp Z (aq.get 0 Z) (n:=4) (vs:=[_,_,_,_]) S (Nat.le_of_ble_eq_true Z) Z) Z ?_;have hEat:=FP (l:=l) C;have hIx:=hI x26 (gB_ C);refine cR Z (aT Z Z Z S) (fun _=>Z) (Bb hS hl3 Q aq) ?_;rintro _ V ⟨K4,f3,rfl,T,ad,aq⟩;refine Y Z (D Z) Z ?_;refine Y Z (bD Z Z) Z ?_;refine Y Z (bD Z Z) Z ?_;refine Y Z (ak Z) Z ?_;refine Y Z (ak Z) Z ?_;refine af ?_;refine B ?_;refine H ?_;refine H ?_;refine ah Z ?_;replace aq:=aq.sub (.cons _ (.cons_cons _<|gP (.refl _)));refine Y Z (D Z) Z ?_;refine Y Z (aC Z Z Z) Z ?_;refine af ?_;refine B ?_;refine aD Z (fun ap=>?_) (fun ap=>?_)
  ·refine H ?_;refine ah Z ?_;refine Y Z (D Z) Z ?_;refine Y Z (ak Z) Z ?_;refine Y Z (ak Z) Z ?_;refine Y Z (ak Z) Z ?_;refine af ?_;refine B ?_;refine aF ?_;refine ay<|aK<|ay<|bq<|aK<|ay (?_);have hE:rJ l gs=eV l x26:=by unfold rJ;rw[if_neg oM,I,hEat,if_neg<|fX<|bL ap]
   have hF:mB l gs= []:=by unfold mB;rw[hE,if_neg<|fX<|bL ap]
   exact⟨.inr Z,_,iS Z Z Z Z,K4,.au,.au,by rw[hE],KP.le_trans d T,.inl ⟨hF,Z⟩,.inl ⟨by unfold E1;rw[hF];rfl,Z⟩,aq.pop.bX⟩
  have hE0:eV l x26=0:=fl ap
  have hEp2:∀x∈gs.take (i+1),eV l x=0:=fun x hx=>by
   rw[fb C] at hx;rcases List.mem_append.1 hx with hx | hx
   ·exact am x hx
   rw[List.mem_singleton.1 hx];exact hE0
  refine aG ?_;refine B ?_;refine H ?_;refine ah Z ?_;refine Y Z (D Z) Z ?_;refine cm (e:=27) (m:=4) ad (oK hE0) Z Z S S Z Z (fun _=>Z) (fun f4 cn bf cp bi=>?_);have hr38':=bi;obtain⟨f5,f6,f7,f8,rfl,bk⟩:=hr38';refine Y Z (bE aq bf Z S Z) Z ?_;obtain⟨b6,f9,b7,gc,b8⟩:=oL hE0 hIx;refine bB Z (aT Z Z Z S) (fun _=>Z) (PA hG b3 b4 b6 b7 bk aq) (fun V aq=>?_);refine Y Z (ak Z) Z ?_;refine af ?_;refine B ?_;refine H ?_;refine ah Z ?_;refine Y Z (D Z) Z ?_;refine Y Z (D Z) Z ?_;refine Y Z (Iu GI hm (aq.get 0 Z) Z Z) Z ?_;refine Y Z (D Z) Z ?_;refine Y Z (bD Z Z) Z ?_;refine Y Z (bD Z Z) Z ?_;refine Y Z (ak Z) Z ?_;refine Y Z (ak Z) Z ?_;refine af ?_;refine B ?_;refine H ?_;refine ah Z ?_;refine Y Z (D Z) Z ?_;refine Y Z (dV Z) Z ?_;refine af ?_;refine B ?_;refine aD Z (fun a4=>?_) (fun a4=>?_)
  ·refine H ?_;refine ah Z ?_;refine Y Z (D Z) Z ?_;refine Y Z (D Z) Z ?_;refine Y Z (D Z) Z ?_;refine Y Z (Lz hM Z Z Z (e:=87) S Z) Z ?_;have hnone:=JH a4;have hnew:=(F8 F am (fun x hx=>hI x (List.mem_of_mem_take hx)) hE0 hIx ao).1 hnone;refine EL GI hm aq hnone Z Z Z Z Z Z (fun V ge gl aq hm=>?_);refine af ?_;refine B ?_;refine ah Z ?_;refine Y Z (D Z) Z ?_;refine Y Z (D Z) Z ?_;refine cm (e:=27) (m:=4) ad (oK hE0) Z Z S S Z Z (fun _=>Z) (fun gr cq bl cr bo=>?_);have hr55':=bo;obtain⟨gt,g2,g3,g4,rfl,br⟩:=hr55';refine Y Z (bE aq bl Z S Z) Z ?_;refine Y Z (D Z) Z ?_;refine Y Z (aO ad Z Z Z (e:=27) S Z) Z ?_;refine Y Z (dC (places:=[(0,4),(4,1)]) (zero:=[.au,.au,.au,.au,.int .i64 0]) (cs:=[_,_,_,_,_]) S S S (bA Z Z Z Z<|bA Z Z Z Z bI) S) Z ?_;refine gw aq Z (bN (e:=87) (m:=5) (z:=[.au,.au,.au,.au,.int .i64 0]) (cs:=[_,_,_,_,_]) S S S S<|bA Z Z Z Z bI) (fun _=>Z) (fun V g5 aq=>?_);replace aq:=aq.pull (.there (.there .here));replace aq:=aq.pull (.gX<|fQ.here (X:=[_]));refine fY (R:=LH K4) (m:=5) (e:=87) (hM.jC fun _ _ h=>h.mono T) aq (ej (m:=5) (x:=(dI l x26,Pq l<|dI l x26)) Z ⟨_,_,_,_,by unfold Pq;rw[b8],br⟩) LH.leaf (by have:=F.len;rw[lT_] at this;unfold tt;rw[lM_];simp only[List.length_cons,List.length_nil];omega) Z Z Z Z Z Z Z (fun _=>Z) (fun V g6 b9 hM61 aq=>?_);replace aq:=aq.pull (.gX<|fQ.here (X:=[_]));refine Y Z (ak Z) Z ?_;refine af ?_;refine aH ?_;refine B ?_;refine ah Z ?_;refine Y Z (aC (v:=.int .i64 (.ofNat (i+1))) Z Z<|congrArg (fun z=>some (J.int .i64 z))<|aX (by have:=aS E;omega)) Z ?_;refine Y Z (D Z) Z ?_;refine af ?_;refine aL ⟨j6-1,(by have:=aS E;omega),(by(iterate 94 refine bc.put Z ?_);exact bc.refl _ _),i+1,K4,_,_,fs++[dI l x26],b9,_,_,⟨by have:=aS E;omega,KP.le_trans d T,by rw[fb C];exact F.new hnew,hEp2,by rw[I,hEat,if_pos hE0],by unfold tt at hM61⊢;rw[List.map_append];exact hM61,.inl (by simp),hm,by rw[List.map_append,ao,List.map_append];rfl⟩,Z,Z,Z,Z,aq⟩
  have hold:dI l x26∈fs:=Classical.byContradiction fun ca=>JI a4 ((F8 F am (fun x hx=>hI x (List.mem_of_mem_take hx)) hE0 hIx ao).2 ca)
  refine aG ?_;refine aH ?_;refine B ?_;refine ah Z ?_;refine Y Z (aC (v:=.int .i64 (.ofNat (i+1))) Z Z<|congrArg (fun z=>some (J.int .i64 z))<|aX (by have:=aS E;omega)) Z ?_;refine Y Z (D Z) Z ?_;refine af ?_;refine aL ⟨j6-1,(by have:=aS E;omega),(by(iterate 80 refine bc.put Z ?_);exact bc.refl _ _),i+1,K4,_,m,fs,M,es,ck,⟨by have:=aS E;omega,KP.le_trans d T,by rw[fb C];exact F.nz hold,hEp2,by rw[I,hEat,if_pos hE0],hM.jC fun _ _ h=>h.mono T,hne,hm,ao⟩,Z,Z,Z,Z,aq⟩
 refine ba ?_;refine aP ?_;refine aR ?_;refine aM ?_;refine B ?_;refine H ?_;refine ah Z ?_;have av:gs.length<=i:=bC E;rw[tL_ av] at F am;rw[List.drop_of_length_le av] at I;have bs:rJ l gs=0:=by unfold rJ;rw[if_neg oM];exact I
 refine Y Z (D Z) Z ?_;replace aq:=aq.pull (.there .here);refine cR Z (aT Z Z Z S) (fun _=>Z) (FR (m:=5) (c:=fun a b:XG×Int=>dQ a.1 b.1) oM (Lb (La ru) Prod.fst) hS.k2 Z LH.leaf hM (hne.imp (fun h e=>h (List.map_eq_nil_iff.1 e)) id) aq fun σ2 h2 x y vx vy hx hy=>?_) ?_
 ·obtain⟨a1,b1,c1,d1,rfl,hx⟩:=hx;obtain⟨a2,b2,c2,d2,rfl,hy⟩:=hy;exact(Lp hS.p0 hx.ro hy.ro h2).mono fun _ _ h=>h.1
 rintro _ V ⟨rfl,cb,M2,a5,cc,hM2,aq⟩;have bt:cb=tt l (mB l gs):=by unfold mB tt;rw[if_pos bs];exact Eu ru (Pq l) F.nd F.mem a5 cc
 subst bt;obtain⟨K5,ax,A,aq⟩:=aq.cK (M:=M2);have hG5:=(hM2.jC (R':=LH K5) fun _ _ h=>h.mono ax).gS (K:=K5) A;clear A;refine af ?_;refine B ?_;refine H ?_;refine H ?_;refine ah Z ?_;replace aq:=aq.pop;refine Y Z (D Z) Z ?_;refine Y Z (aO hG5 Z Z Z (e:=87) S Z) Z ?_;refine Y Z (D Z) Z ?_;refine af ?_;refine B ?_;refine aI ?_;refine a6 [4,5,17,67,68,69,70,71,72,73,74,75,76,77,78,79,80,81] (fun j t V=>∃(q:Nat) (u1 u2:J) (MA MB:Own),(j+q=(tt l<|mB l gs).length/\cS 4 27 (RG K5) ((mB l gs).take q) u1 MA/\cS 1 3 cH (((mB l gs).take q).map<|Pq l) u2 MB)/\t.get 4=some (u1)/\t.get 5=some (u2)/\t.get 67=some (.int .i64 (.ofNat q))/\St V K5 (MA++(MB++L))) ((tt l<|mB l gs).length) ⟨0,_,_,[],[],⟨Z,.inl ⟨by rw[List.take_zero],Z,Z⟩,.inl ⟨by rw[List.take_zero];rfl,Z,Z⟩⟩,Z,Z,Z,aq⟩ ?_;clear aq;intro ce t V an hI;obtain⟨q,u1,u2,MA,MB,⟨cv,hA,hB⟩,W,aa,ai,aq⟩:=hI;replace an:=an.bS Z Z;obtain⟨o4,o5,g7,cg,g9,ha,hg,hk,an⟩:=an;replace an:=an.bS Z Z;obtain⟨hn,ho,hr,hs,ht,hu,hw,hC,an⟩:=an;replace an:=an.eh Z;obtain⟨hD,an⟩:=an;replace an:=an.eh Z;obtain⟨hH,an⟩:=an;obtain rfl:=an.nil;clear an;replace W:o4=some _:=W;subst W;replace aa:o5=some _:=aa;subst aa;replace ai:cg=some _:=ai;subst ai;refine H ?_;refine ah Z ?_;refine Y Z (aC Z Z Z) Z ?_;refine af ?_;refine B ?_;refine H ?_;refine aD Z (fun ab=>?_) (fun ab=>?_)
 ·refine aG ?_;refine B ?_;refine H ?_;refine aI ?_;refine H ?_;refine ah Z ?_;have hfi:=OE ab;obtain⟨xg,a9⟩:=hfi;have bv:(tt l<|mB l gs)[q]? =some (xg,Pq l xg):=by unfold tt;rw[gM_,a9];rfl
  refine cm (e:=87) (m:=5) hG5 bv Z Z S S Z Z (fun _=>Z) (fun hK cw bw cx b0=>?_);have hr69':=b0;obtain⟨hL,hN,hO,hP,rfl,U⟩:=hr69';refine Y Z (bE aq bw Z S Z) Z ?_;refine bJ aq Z (dG (cs:=[.au,.au,.au,.au,.int .i64 0]) S S) (fun _=>Z) (fun V b1 aq=>?_);refine cF aq Z (bg Z Z Z (aq.get 0 Z) (m:=5) S Z (Nat.le_of_ble_eq_true Z) (ar U.init.leaf.2<|ar U.threads.leaf.2<|ar U.from_.leaf.2<|ar U.order.leaf.2<|ar Z aQ) (cells':=[_,_,_,_,_]) Z) Z (fun V aq=>?_);refine af ?_;refine B ?_;refine aU (l:=[(0,[]),(1,[]),(2,[]),(3,[]),(5,[]),(6,[]),(7,[]),(8,[]),(4,[7,8]),(9,[]),(10,[]),(11,[])]) S S ?_;refine aj Z Z (D Z) Z ?_;refine aj Z Z (az Z (k:=0) S) Z ?_;refine aj Z Z (bp Z (aq.get 0 Z) (n:=4) (vs:=[_,_,_,_]) S (Nat.le_of_ble_eq_true Z) Z) Z ?_;refine lJ aq Z Z (bN (e:=27) (m:=4) (z:=[.au,.au,.au,.au]) (cs:=[_,_,_,_]) S S S S<|bA Z Z Z Z bI) (fun _=>Z) (fun V hQ aq=>?_);refine aj Z Z (D Z) Z ?_;refine aj Z Z (az Z (k:=4) S) Z ?_;refine aj Z Z (aw Z (aq.get 1 Z) S Z) Z ?_;refine lJ aq Z Z (bN (e:=3) (m:=1) (z:=[.int .i64 0]) (cs:=[_]) S S S S<|bA Z Z Z Z bI) (fun _=>Z) (fun V hR aq=>?_);replace aq:=aq.pull (.there (.there (.there .here)));replace aq:=aq.pull (.gX (.there<|fQ.here (X:=[_])));refine lI (R:=RG K5) (m:=4) (e:=27) hA aq (ej (m:=4) (x:=xg) Z ⟨_,_,_,_,Z,U⟩) RG.leaf (by rw[lT_];have:=CT l gs;simp only[List.length_cons,List.length_nil];omega) Z Z Z Z Z Z Z Z (fun _=>Z) (fun V hT MA2 hA2 aq=>?_);refine⟨(aZ (bh Z Z Z Z Z (aw Z (aq.bX.pop.get 0 Z) S Z)<|dD _ _)<|aZ (xx Z Z Z Z Z (zL (e:=3) (m:=1) (z:=[.int .i64 0]) (cs:=[_]) S S S S<|bA Z Z Z Z bI) (aq.bX.get 0 Z)<|cZ (fq _ _) lg) aV),?_⟩;replace aq:=aq.pull (.gX (.there (.there .here)));replace aq:=aq.pull (.gX (.gX<|fQ.here (X:=[_])));refine lI (R:=cH) (m:=1) (e:=3) hB aq (ej (m:=1) (x:=Pq l xg) Z Z) cH.leaf (by rw[lM_,lT_];have:=CT l gs;simp only[List.length_cons,List.length_nil];omega) Z Z Z Z Z Z Z Z (fun _=>Z) (fun V hU MB2 hB2 aq=>?_);refine⟨aV,?_⟩;refine aj Z Z (ak Z) Z ?_;refine aj Z Z (ak Z) Z ?_;refine a8 ?_;refine aH ?_;refine B ?_;refine ah Z ?_;replace aq:=aq.pull (.gX .here);replace aq:=aq.sub (gP<|gP (.cons _ (.refl _)));refine Y Z (aC (v:=.int .i64 (.ofNat (q+1))) Z Z<|congrArg (fun z=>some (J.int .i64 z))<|aX (by have:=aS ab;have:=hG5.bK;omega)) Z ?_;refine Y Z (D Z) Z ?_;refine af ?_
  refine aL ⟨ce-1,(by have:=aS ab;omega),(by(iterate 36 refine bc.put Z ?_);exact bc.refl _ _),q+1,_,_,_,_,⟨by have:=aS ab;omega,by rw[fb a9];exact hA2,by rw[fb a9,List.map_append];exact hB2⟩,Z,Z,Z,aq⟩
 refine ba ?_;refine aP ?_;refine aR ?_;refine aM ?_;refine B ?_;refine H ?_;refine ah Z ?_;refine Y Z (D Z) Z ?_;refine Y Z (D Z) Z ?_;refine Y Z (ak Z) Z ?_;refine Y Z (ak Z) Z ?_;refine Y Z (ak Z) Z ?_;refine af ?_;refine B ?_;refine aF ?_;rw[tL_<|Mm ab] at hA hB;obtain⟨K6,aE,A,aq⟩:=aq.cK (M:=MA);have hA6:=(hA.jC (R':=RG K6) fun _ _ h=>h.mono aE).gS (K:=K6) A;clear A;obtain⟨K7,al,A,aq⟩:=aq.cK (M:=MB);have hB7:=hB.gS (K:=K7) A;exact⟨.inr Z,_,iS Z Z Z Z,K7,_,_,by rw[bs],KP.le_trans d<|KP.le_trans ax<|KP.le_trans aE al,hA6.mono al fun _ _ h=>h.mono al,hB7,aq⟩
end Go.Ev
namespace Go.Ev
variable [Env]
structure Wh (base:XG->Prop) (whole:List XG):Prop where
 nd:whole.Nodup
 mem:∀x,x∈whole↔base x
theorem Wh.congr {b b':XG->Prop} {w:List XG} (h:Wh b w) (he:∀x,b x↔b' x):Wh b' w:=⟨h.nd,fun x=>(h.mem x).trans (he x)⟩
theorem Wh.add {b:XG->Prop} {w:List XG} {x:XG} (h:Wh b w) (hx:x∉w):Wh (fun y=>b y∨y=x) (w++[x]):=
 ⟨List.nodup_append.2 ⟨h.nd,List.nodup_cons.2 ⟨List.not_mem_nil,List.nodup_nil⟩,fun a d b hb e=>hx (by rw[List.mem_singleton.1 hb] at e;rw[<-e];exact d)⟩,fun y=>by rw[List.mem_append,h.mem,List.mem_singleton]⟩
theorem Wh.nz {b:XG->Prop} {w:List XG} {x:XG} (h:Wh b w) (hx:x∈w):Wh (fun y=>b y∨y=x) w:=
 h.congr fun y=>⟨.inl,fun hy=>hy.elim id fun e=>by rw[e];exact(h.mem x).1 hx⟩
section
variable {l:List XC} {all whole:List XG}
end
end Go.Ev
namespace Go.Ev
variable [Env]
open Go.Proofs
set_option maxRecDepth 4000
set_option maxHeartbeats 8000000
theorem Py {G:Cx} (I:Plain G) {K:KP}:∀(k:Nat) (x:XE) (vs:List J),gY K k x vs->∀(left:Int) (V:N) (L:Own),St V K L->aW Tryz.prog G 105 [.agg vs,.int .i64 left] V fun v V'=>v= .int .i64 (Ca k x left)/\St V' K L:=by
 intro k;induction k with
 | zero=>intro x vs h;cases x;exact h.elim
 | succ k ih=>
 intro x vs h left V L aq;obtain⟨op,num,name,kids⟩:=x;obtain⟨v,rfl,hk⟩:=h;refine SC I Tryz.func105 Z<|R5 2 Z<|kp aq Z (cG Z Z) (fun V b1 aq=>?_);refine Rk 7 Z<|SK aq 2 [2,0] Z Z<|Y Z (Dt Z Z Z S Z) Z<|Qz 9 Z<|Rj 3 Z ?_;obtain⟨LL1,aq,hLL1⟩:=aq.named;refine a6 ([1,5]++rg 13 18) (fun j t V=>∃(i:Nat) (m:Int),j+i=kids.length/\uk (Ca k) kids (NU name left)=uk (Ca k) (kids.drop i) m/\t.get 1=some (.int .i64 m)/\t.get 5=some (.int .i64 (.ofNat i))/\St V K LL1) (kids.length) ⟨0,_,Z,Z,Z,Z,aq⟩ ?_;clear aq;intro M t V an Q;obtain⟨i,m,hj,hh,E,F,aq⟩:=Q;subst hLL1;obtain⟨oo,rfl⟩:=an.q2 E F Z;refine Ro aq 6 [3,0] Z Z<|Y Z (To hk Z Z Z (e:=100) Z) Z<|vQ 1 Z<|ky Z (D Z) (fun u=>?_) (fun u=>?_)
 ·refine R7 5 Z<|aD Z (fun A=>?_) (fun A=>?_)
  ·refine Qy 4 Z<|ah Z<|SK aq 3 [3,0] Z Z ?_;obtain⟨ai,b,aa⟩:=cL u;refine Tg (e:=100) (m:=4) hk b Z Z Z Z (fun al ab C ac d=>?_);obtain⟨am,ao,ap,av,rfl,ad⟩:=d.shape;refine Y Z (Tr aq C Z Z) Z<|vQ 1 Z<|bB Z (Tk Z Z Z) (fun _=>Z) (ih _ _ d _ _ _ aq) (fun V aq=>?_);refine SH 2 Z<|aH<|SF 5 Z<|aL ⟨M-1,by omega,oF,i+1,_,by omega,hh.trans<|Ey b<|bL A,Z,cI<|aX (by have:=hk.bK;omega),aq⟩
  refine Ri 3 Z<|aM<|SG 7 Z ?_;exact aA Z Z ⟨cJ (by rw[Hw<|a7 A] at hh;rw[<-hh];rfl),aq.pop⟩
 refine Rm 8 Z<|aR<|aM<|SG 7 Z ?_;exact aA Z Z ⟨cJ (by rw[Hx<|bC u] at hh;rw[<-hh];rfl),aq.pop⟩
theorem Nt {G:Cx} (b:Plain G) {K:KP} {k:Nat} {x:XE} {vs:List J} {V:N} {L:Own} (aq:St V K L) (h:gY K k x vs) (most:Int):aW Tryz.prog G 61 [.agg vs,.int .i64 most] V fun v V'=>v= .bool (EF k x most)/\St V' K L:=by
 obtain⟨o0,n0,s0,v0,rfl,hk⟩:=h.shape;refine SC b Tryz.func61 Z<|R5 2 Z<|kp aq Z (cG Z Z) (fun V b1 aq=>?_);refine Rk 5 Z<|Y Z (Tn Z aq.g0 (n:=4) (vs:=[_,_,_,_]) Z) Z<|vQ 1 Z<|bB Z (Tk Z Z Z) (fun _=>Z) (Py b _ _ _ h _ _ _ aq) (fun V aq=>?_);refine R8 5 Z ?_;exact aA Z Z ⟨Z,aq.pop⟩
theorem Dh {G:Cx} (hG:Plain G) {K:KP} {k:Nat} {x:XC} {vs:List J} {V:N} {L:Own} (aq:St V K L) (h:gf K k x vs) (most:Int):aW Tryz.prog G 32 [.agg vs,.int .i64 most] V fun v V'=>v= .bool (rE k most x)/\St V' K L:=by
 have h':=h;obtain⟨v0,rfl,hk⟩:=h';refine SC hG Tryz.func32 Z<|R5 2 Z<|kp aq Z (cG Z Z) (fun V b1 aq=>?_);refine Qz 6 Z<|SK aq 2 [1,0] Z Z<|Y Z (To hk Z Z Z (e:=97) Z) Z<|R7 4 Z<|aD Z (fun d=>?_) (fun d=>?_)
 ·refine R6 7 Z ?_;exact aA Z Z ⟨cB (by unfold rE;rw[d];rfl),aq.pop⟩
 refine Qy 9 Z ?_;obtain⟨LL1,aq,hLL1⟩:=aq.named;refine a6 ([4,5,6]++rg 12 37) (fun j t V=>∃(i:Nat),j+i=x.ins.length/\(x.ins.take i).all (wF k)=true/\t.get 5=some (.int .i64 (.ofNat i))/\St V K LL1) (x.ins.length) ⟨0,Z,Z,Z,aq⟩ ?_;clear aq;intro j4 t V an hI;obtain⟨i,hj,ha,av,aq⟩:=hI;subst hLL1;obtain⟨oo,rfl⟩:=an.q1 av Z;refine Ro aq 6 [1,0] Z Z<|Y Z (To hk Z Z Z (e:=97) Z) Z<|R7 3 Z<|aD Z (fun F=>?_) (fun F=>?_)
 ·refine PK 5 Z<|R5 2 Z<|SK aq 3 [1,0] Z Z ?_;obtain⟨I,b,aE⟩:=cL F;refine Tg (e:=97) (m:=6) hk b Z Z Z Z (fun bf a0 R a1 T=>?_);have hr22':=T;obtain⟨bi,rfl,C⟩:=hr22';refine fg R Z Z Z (k:=5) S (lb Z) (fun _=>Z) (fun bk U=>?_);refine Y Z (Tq aq U Z Z) Z<|Y Z (To C Z Z Z (e:=100) Z) Z<|R7 3 Z<|aD Z (fun A=>?_) (fun A=>?_)
  ·refine SG 6 Z<|ay<|aK<|ay<|bq<|aK<|ay (?_);exact aA Z Z ⟨cB (by unfold rE;rw[d,zJ b (by unfold wF;rw[A];rfl)];rfl),aq.pop⟩
  refine aG<|R5 3 Z<|Rj 3 Z ?_;obtain⟨LL2,aq,hLL2⟩:=aq.named;refine a6 ([4,6]++rg 27 22) (fun j t V=>∃(W:Nat),j+W=I.exprs.length/\(I.exprs.take W).all (fun e=>EF k e 60)=true/\t.get 6=some (.int .i64 (.ofNat W))/\St V K LL2) (I.exprs.length) ⟨0,Z,Z,Z,aq⟩ ?_;clear aq;intro j9 t V an hI;obtain⟨W,bl,X,ax,aq⟩:=hI;subst hLL2;obtain⟨oo,rfl⟩:=an.q1 ax Z;refine Ro aq 7 [1,0] Z Z<|Tg (e:=97) (m:=6) hk b Z Z Z Z (fun bm a2 aa a3 ab=>?_);have hr31':=ab;obtain⟨bo,rfl,ac⟩:=hr31';refine fg aa Z Z Z (k:=5) S (lb Z) (fun _=>Z) (fun br ad=>?_);refine Y Z (Tq aq ad Z Z) Z<|Y Z (To ac Z Z Z (e:=100) Z) Z<|R7 3 Z<|aD Z (fun M=>?_) (fun M=>?_)
  ·refine PL 6 Z<|SK aq 3 [1,0] Z Z<|Tg (e:=97) (m:=6) hk b Z Z Z Z (fun bs a4 ai a5 al=>?_);have hr41':=al;obtain⟨bt,rfl,am⟩:=hr41';refine fg ai Z Z Z (k:=5) S (lb Z) (fun _=>Z) (fun bv ao=>?_);refine Y Z (Tq aq ao Z Z) Z<|vQ 1 Z ?_;obtain⟨bw,u,a9⟩:=cL M;refine Tg (e:=100) (m:=4) am u Z Z Z Z (fun b0 bb ap bd E=>?_);obtain⟨b2,b3,b4,b5,rfl,be⟩:=E.shape;refine Y Z (Tr aq ap Z Z) Z<|bB Z (Tk Z Z Z) (fun _=>Z) (Nt hG aq E _) (fun V aq=>?_);refine Y Z (dV Z) Z<|R7 2 Z<|aD Z (fun Q=>?_) (fun Q=>?_)
   ·refine SG 6 Z<|aK<|ay<|bq<|aK<|aK<|ay<|bq<|aK<|ay (?_);exact aA Z Z ⟨cB (by unfold rE;rw[d,zJ b (by unfold wF;rw[A,zJ u (by simpa using Q)];rfl)];rfl),aq.pop⟩
   refine aG<|aH<|SF 5 Z<|aL ⟨j9-1,by omega,oF,W+1,by omega,vE X u (by simpa using Q),cI<|aX (by have:=C.bK;omega),aq⟩
  refine Ri 3 Z<|aM<|aH<|SF 5 Z<|aL ⟨j4-1,by omega,oF,i+1,by omega,vE ha b (by unfold wF;rw[A,zK X<|bC M];rfl),cI<|aX (by have:=hk.bK;omega),aq⟩
 refine Ri 3 Z<|aM<|SG 6 Z ?_;exact aA Z Z ⟨cB (by unfold rE;rw[d,zK ha<|bC F];rfl),aq.pop⟩
theorem Ba {G:Cx} (M:Plain G) {K:KP} {k:Nat} {l:List XC} {v:J} {V:N} {L:Own} (aq:St V K L) (h:bG K 2 (gf K k) l v) (most:Int):aW Tryz.prog G 6 [v,.int .i64 most] V fun v V'=>v= .bool (vi k most l)/\St V' K L:=by
 refine SC M Tryz.func6 Z<|Rg 12 Z ?_;obtain⟨LL1,aq,hLL1⟩:=aq.named;refine a6 (rg 4 19) (fun j t V=>∃(i:Nat),j+i=l.length/\(l.take i).all (rE k most)=true/\t.get 5=some (.int .i64 (.ofNat i))/\St V K LL1) (l.length) ⟨0,Z,Z,Z,aq⟩ ?_;clear aq;intro Q t V an R;obtain⟨i,hj,F,I,aq⟩:=R;subst hLL1;obtain⟨oo,rfl⟩:=an.q1 I Z;refine Rh 5 Z<|Y Z (To h Z Z Z (e:=63) Z) Z<|vQ 1 Z<|ky Z (D Z) (fun u=>?_) (fun u=>?_)
 ·refine R7 5 Z<|aD Z (fun A=>?_) (fun A=>?_)
  ·refine PL 8 Z ?_;obtain⟨ai,b,aa⟩:=cL u;refine Tg (e:=63) (m:=2) h b Z Z Z Z (fun al ab E ac d=>?_);have hr18':=d;obtain⟨am,rfl,ad⟩:=hr18';refine Y Z (Tr aq E Z Z) Z<|vQ 1 Z<|bB Z (Tk Z Z Z) (fun _=>Z) (Dh M aq d _) (fun V aq=>?_);refine Y Z (dV Z) Z<|R7 2 Z<|aD Z (fun C=>?_) (fun C=>?_)
   ·refine SG 6 Z<|aK<|ay<|bq<|aK<|ay (?_);exact aA Z Z ⟨cB (by unfold vi;rw[LV b (aS A) (by simpa using C)];rfl),aq⟩
   refine aG<|aH<|SF 5 Z<|aL ⟨Q-1,by omega,oF,i+1,by omega,vE F b (by simpa using C),cI<|aX (by have:=h.bK;omega),aq⟩
  refine Ri 3 Z<|aM<|R5 3 Z<|Y Z (To h Z Z Z (e:=63) Z) Z<|R8 5 Z ?_;exact aA Z Z ⟨cB (by unfold vi;rw[Br F<|bC A];rfl),aq⟩
 refine Rm 8 Z<|aR<|aM<|R5 3 Z<|Y Z (To h Z Z Z (e:=63) Z) Z<|R8 5 Z ?_;exact aA Z Z ⟨cB (by unfold vi;rw[zK (i:=i) (by rw[List.take_take];exact Br F<|Nat.min_le_left _ _) (by rw[lT_];have:=bC u;omega)];rfl),aq⟩
end Go.Ev
namespace Go.Ev
variable [Env]
open Go.Proofs
set_option maxRecDepth 100000
set_option maxHeartbeats 8000000
theorem z8:Tryz.prog.follows .mixedOrders=true:=by kernel_rfl
def F7 (g:Nat):Bool:=Nat.beq g 151
def J4 (_:Nat):Bool:=false
theorem Qt:sT Tryz.prog 151:=.inr ⟨by kernel_rfl,Tryz.f151,Tryz.func151,by kernel_rfl,by kernel_rfl,by kernel_rfl,by kernel_rfl⟩
theorem OS (g:Nat) (h:F7 g=true):sT Tryz.prog g:=by rw[nB h];exact Qt
def GL:Cx:=⟨0,F7,J4,fun _ _=>none,[],[],fun _ _ _=>none,fun _ _ _=>none⟩
theorem R0:xP Tryz.prog GL:=⟨OS,(fun f args v h=>by cases h),(fun e h=>by cases h),(fun f a s v s' h=>by cases h)⟩
theorem QN (E:Nat->TypeId):pg (BR Tryz.prog GL 4000 5 [] (VG 0 [] E))=true:=by kernel_rfl
theorem OJ:FA Tryz.prog 0 [] 5 [] (.bool true):=ED (G:=GL) z8 R0 (by rfl) QN
end Go.Ev
namespace Go.Proofs
open Go.Shelf Go.Ev
def Tryz.Fc:Go.Shelf.Ren:=⟨fun | 6=>50 | 15=>91 | 14=>90 | 28=>129 | 29=>130 | 20=>121 | 21=>122 | 22=>123 | 23=>124 | 24=>125 | 25=>126 | 26=>127 | 27=>128 | 46=>146 | 47=>147 | 48=>148 | 49=>149 | 50=>150 | 57=>160 | n=>n,fun | 22=>29 | 24=>27 | 25=>78 | 3=>3 | 39=>124 | 0=>0 | 53=>165 | 55=>167 | 4=>4 | 46=>159 | 45=>158 | 50=>85 | 5=>5 | 9=>9 | 66=>177 | 70=>181 | 76=>191 | 77=>192 | n=>n,fun | n=>n⟩
theorem Tryz.Pj:Go.Proofs.SlLaysF0.n6 Tryz.prog Tryz.Fc:={
 mixed:=by kernel_rfl
 f6:=⟨Tryz.f50.name,by decide,Tryz.func50.trans<|congrArg some S⟩
 f14:=⟨Tryz.f90.name,by decide,Tryz.func90.trans<|congrArg some S⟩
 f15:=Tryz.func91.trans (congrArg some S)
 f20:=⟨Tryz.f121.name,by decide,Tryz.func121.trans<|congrArg some S⟩
 f21:=⟨Tryz.f122.name,by decide,Tryz.func122.trans<|congrArg some S⟩
 f22:=⟨Tryz.f123.name,by decide,Tryz.func123.trans<|congrArg some S⟩
 f23:=⟨Tryz.f124.name,by decide,Tryz.func124.trans<|congrArg some S⟩
 f24:=⟨Tryz.f125.name,by decide,Tryz.func125.trans<|congrArg some S⟩
 f25:=⟨Tryz.f126.name,by decide,Tryz.func126.trans<|congrArg some S⟩
 f26:=⟨Tryz.f127.name,by decide,Tryz.func127.trans<|congrArg some S⟩
 f27:=⟨Tryz.f128.name,by decide,Tryz.func128.trans<|congrArg some S⟩
 f28:=Tryz.func129.trans (congrArg some S)
 f29:=Tryz.func130.trans (congrArg some S)
 f46:=⟨Tryz.f146.name,by decide,Tryz.func146.trans<|congrArg some S⟩
 f47:=Tryz.func147.trans (congrArg some S)
 f48:=Tryz.func148.trans (congrArg some S)
 f49:=⟨Tryz.f149.name,by decide,Tryz.func149.trans<|congrArg some S⟩
 f50:=⟨Tryz.f150.name,by decide,Tryz.func150.trans<|congrArg some S⟩
 f57:=⟨Tryz.f160.name,by decide,Tryz.func160.trans<|congrArg some S⟩
 t0:=Tryz.underlying0
 a0:=Tryz.isAgg0
 z0:=Tryz.sizeOf0
 v0:=Tryz.zeroValue0
 t3:=Tryz.underlying3
 a3:=Tryz.isAgg3
 z3:=Tryz.sizeOf3
 v3:=Tryz.zeroValue3
 t4:=Tryz.underlying4
 a4:=Tryz.isAgg4
 z4:=Tryz.sizeOf4
 v4:=Tryz.zeroValue4
 t5:=Tryz.underlying5
 a5:=Tryz.isAgg5
 z5:=Tryz.sizeOf5
 v5:=Tryz.zeroValue5
 t9:=Tryz.underlying9
 a9:=Tryz.isAgg9
 z9:=Tryz.sizeOf9
 v9:=Tryz.zeroValue9
 t22:=Tryz.underlying29
 a22:=Tryz.isAgg29
 z22:=Tryz.sizeOf29
 v22:=Tryz.zeroValue29
 t25:=Tryz.underlying78
 a25:=Tryz.isAgg78
 z25:=Tryz.sizeOf78
 v25:=Tryz.zeroValue78
 t39:=Tryz.underlying124
 a39:=Tryz.isAgg124
 z39:=Tryz.sizeOf124
 v39:=Tryz.zeroValue124
 t45:=Tryz.underlying158
 a45:=Tryz.isAgg158
 z45:=Tryz.sizeOf158
 v45:=Tryz.zeroValue158
 t46:=Tryz.underlying159
 a46:=Tryz.isAgg159
 z46:=Tryz.sizeOf159
 v46:=Tryz.zeroValue159
 t50:=Tryz.underlying85
 a50:=Tryz.isAgg85
 z50:=Tryz.sizeOf85
 v50:=Tryz.zeroValue85
 t53:=Tryz.underlying165
 a53:=Tryz.isAgg165
 z53:=Tryz.sizeOf165
 v53:=Tryz.zeroValue165
 t55:=Tryz.underlying167
 a55:=Tryz.isAgg167
 z55:=Tryz.sizeOf167
 v55:=Tryz.zeroValue167
 t66:=Tryz.underlying177
 a66:=Tryz.isAgg177
 z66:=Tryz.sizeOf177
 v66:=Tryz.zeroValue177
 t70:=Tryz.underlying181
 a70:=Tryz.isAgg181
 z70:=Tryz.sizeOf181
 v70:=Tryz.zeroValue181
 t76:=Tryz.underlying191
 a76:=Tryz.isAgg191
 z76:=Tryz.sizeOf191
 v76:=Tryz.zeroValue191
 t77:=Tryz.underlying192
 a77:=Tryz.isAgg192
 z77:=Tryz.sizeOf192
 v77:=Tryz.zeroValue192}
def Tryz.Fe:Go.Shelf.Ren:=⟨fun | 6=>54 | 15=>91 | 14=>99 | 28=>129 | 29=>130 | 20=>134 | 21=>135 | 22=>136 | 23=>137 | 24=>138 | 25=>139 | 26=>140 | 27=>141 | 46=>156 | 47=>147 | 48=>148 | 49=>157 | 50=>158 | 57=>165 | n=>n,fun | 22=>82 | 24=>87 | 25=>89 | 3=>3 | 39=>124 | 0=>0 | 53=>165 | 55=>167 | 4=>4 | 46=>159 | 45=>158 | 50=>85 | 5=>5 | 9=>9 | 66=>177 | 70=>181 | 76=>191 | 77=>192 | n=>n,fun | n=>n⟩
theorem Tryz.Pk:Go.Proofs.SlLaysF0.n6 Tryz.prog Tryz.Fe:={
 mixed:=by kernel_rfl
 f6:=⟨Tryz.f54.name,by decide,Tryz.func54.trans<|congrArg some S⟩
 f14:=⟨Tryz.f99.name,by decide,Tryz.func99.trans<|congrArg some S⟩
 f15:=Tryz.func91.trans (congrArg some S)
 f20:=⟨Tryz.f134.name,by decide,Tryz.func134.trans<|congrArg some S⟩
 f21:=⟨Tryz.f135.name,by decide,Tryz.func135.trans<|congrArg some S⟩
 f22:=⟨Tryz.f136.name,by decide,Tryz.func136.trans<|congrArg some S⟩
 f23:=⟨Tryz.f137.name,by decide,Tryz.func137.trans<|congrArg some S⟩
 f24:=⟨Tryz.f138.name,by decide,Tryz.func138.trans<|congrArg some S⟩
 f25:=⟨Tryz.f139.name,by decide,Tryz.func139.trans<|congrArg some S⟩
 f26:=⟨Tryz.f140.name,by decide,Tryz.func140.trans<|congrArg some S⟩
 f27:=⟨Tryz.f141.name,by decide,Tryz.func141.trans<|congrArg some S⟩
 f28:=Tryz.func129.trans (congrArg some S)
 f29:=Tryz.func130.trans (congrArg some S)
 f46:=⟨Tryz.f156.name,by decide,Tryz.func156.trans<|congrArg some S⟩
 f47:=Tryz.func147.trans (congrArg some S)
 f48:=Tryz.func148.trans (congrArg some S)
 f49:=⟨Tryz.f157.name,by decide,Tryz.func157.trans<|congrArg some S⟩
 f50:=⟨Tryz.f158.name,by decide,Tryz.func158.trans<|congrArg some S⟩
 f57:=⟨Tryz.f165.name,by decide,Tryz.func165.trans<|congrArg some S⟩
 t0:=Tryz.underlying0
 a0:=Tryz.isAgg0
 z0:=Tryz.sizeOf0
 v0:=Tryz.zeroValue0
 t3:=Tryz.underlying3
 a3:=Tryz.isAgg3
 z3:=Tryz.sizeOf3
 v3:=Tryz.zeroValue3
 t4:=Tryz.underlying4
 a4:=Tryz.isAgg4
 z4:=Tryz.sizeOf4
 v4:=Tryz.zeroValue4
 t5:=Tryz.underlying5
 a5:=Tryz.isAgg5
 z5:=Tryz.sizeOf5
 v5:=Tryz.zeroValue5
 t9:=Tryz.underlying9
 a9:=Tryz.isAgg9
 z9:=Tryz.sizeOf9
 v9:=Tryz.zeroValue9
 t22:=Tryz.underlying82
 a22:=Tryz.isAgg82
 z22:=Tryz.sizeOf82
 v22:=Tryz.zeroValue82
 t25:=Tryz.underlying89
 a25:=Tryz.isAgg89
 z25:=Tryz.sizeOf89
 v25:=Tryz.zeroValue89
 t39:=Tryz.underlying124
 a39:=Tryz.isAgg124
 z39:=Tryz.sizeOf124
 v39:=Tryz.zeroValue124
 t45:=Tryz.underlying158
 a45:=Tryz.isAgg158
 z45:=Tryz.sizeOf158
 v45:=Tryz.zeroValue158
 t46:=Tryz.underlying159
 a46:=Tryz.isAgg159
 z46:=Tryz.sizeOf159
 v46:=Tryz.zeroValue159
 t50:=Tryz.underlying85
 a50:=Tryz.isAgg85
 z50:=Tryz.sizeOf85
 v50:=Tryz.zeroValue85
 t53:=Tryz.underlying165
 a53:=Tryz.isAgg165
 z53:=Tryz.sizeOf165
 v53:=Tryz.zeroValue165
 t55:=Tryz.underlying167
 a55:=Tryz.isAgg167
 z55:=Tryz.sizeOf167
 v55:=Tryz.zeroValue167
 t66:=Tryz.underlying177
 a66:=Tryz.isAgg177
 z66:=Tryz.sizeOf177
 v66:=Tryz.zeroValue177
 t70:=Tryz.underlying181
 a70:=Tryz.isAgg181
 z70:=Tryz.sizeOf181
 v70:=Tryz.zeroValue181
 t76:=Tryz.underlying191
 a76:=Tryz.isAgg191
 z76:=Tryz.sizeOf191
 v76:=Tryz.zeroValue191
 t77:=Tryz.underlying192
 a77:=Tryz.isAgg192
 z77:=Tryz.sizeOf192
 v77:=Tryz.zeroValue192}
end Go.Proofs
namespace Go.Ev
variable [Env]
open Go.Proofs
set_option maxRecDepth 100000
set_option maxHeartbeats 8000000
def Ie (f:Nat) (args:List J):Option J:=bif Nat.beq f 5 then(match args with | []=>some (.bool true) | _=>none) else none
def PQ:Cx:=⟨0,F7,J4,Ie,[],[],fun _ _ _=>none,fun _ _ _=>none⟩
theorem GQ (f:Nat) (args:List J) (v:J) (h:Ie f args=some v):FA Tryz.prog 0 [] f args v:=by
 unfold Ie at h;cases h5:Nat.beq f 5 with
 | true=>
  rw[h5] at h;simp only[cond_true] at h;cases args with
  | nil=>cases h;rw[nB h5];exact OJ
  | cons _ _=>cases h
 | false=>
  rw[h5] at h;cases h
theorem zn (f:Nat) (a:List J) (h:HJ f=false):Ie f a=none:=by
 unfold Ie;rw[show Nat.beq f 5=false from h];rfl
theorem N4:xP Tryz.prog PQ:=⟨OS,GQ,(fun e h=>by cases h),(fun f a s v s' h=>by cases h)⟩
theorem Kr:Plain PQ:=⟨fun _ _ _ _=>Z,zn,Z,fun _ _ _=>Z,fun f h=>Z⟩
def JJ (f:Nat) (a:List J) (s:N):Option (J×N):=
 bif Nat.beq f 50 then sA Tryz.prog PQ 50 4 (fun g=>Nat.beq g 49) f a s else bif Nat.beq f 54 then sA Tryz.prog PQ 54 5 (fun g=>Nat.beq g 55) f a s else none
def GC:Cx:=⟨0,F7,J4,Ie,[],[],fun _ _ _=>none,JJ⟩
theorem RE (g:Nat) (h:Nat.beq g 49=true) (args:Array Value) (w:World):(callFunc g args).run Tryz.prog w= .ok (.enter g args) w:=by
 obtain rfl:=nB h;exact enters_of Tryz.func49 S Z args w
theorem RF (g:Nat) (h:Nat.beq g 55=true) (args:Array Value) (w:World):(callFunc g args).run Tryz.prog w= .ok (.enter g args) w:=by
 obtain rfl:=nB h;exact enters_of Tryz.func55 S Z args w
theorem RZ:xP Tryz.prog GC:=by
 refine⟨OS,GQ,(fun e h=>by cases h),fun f a s v s' h O w xs hi b hx=>?_⟩;have h:JJ f a s=some (v,s'):=h;unfold JJ at h;cases h1:Nat.beq f 50 with
 | true=>
  rw[h1] at h;simp only[cond_true] at h;exact xu z8 N4 Tryz.Pj (by decide) Tryz.isAgg27 Tryz.sizeOf27 RE h O w xs hi b hx
 | false=>
  rw[h1] at h;simp only[cond_false] at h;cases d:Nat.beq f 54 with
  | true=>
   rw[d] at h;simp only[cond_true] at h;exact xu z8 N4 Tryz.Pk (by decide) Tryz.isAgg87 Tryz.sizeOf87 RF h O w xs hi b hx
  | false=>
   rw[d] at h;cases h
theorem MU:Plain GC:=⟨fun f a s h=>by
 show JJ f a s=none;unfold H7 at h;unfold JJ;cases h1:Nat.beq f 50 with
 | true=>rw[nB h1] at h;cases h
 | false=>
  cases b:Nat.beq f 54 with
  | true=>rw[nB b] at h;cases h
  | false=>rfl,zn,Z,fun _ _ _=>Z,fun f h=>Z⟩
theorem QR:PE GC PQ:=⟨MU,Kr,fun a s=>Z,fun a s=>Z⟩
theorem RM (O:Ren):GR O GC:=fun g h=>absurd h (nZ_ _)
section
variable {H_:Type} {enc:TypeId×Value->H_} {w:World}
end
end Go.Ev
namespace Go.Ev
variable [Env]
open Go.Proofs
set_option maxRecDepth 4000
set_option maxHeartbeats 8000000
theorem Lm {G:Cx} (X:Plain G) {K:KP} {l1 l2:List Int} {T U:J} {V:N} {L:Own} (aq:St V K L) (h1:bG K 1 cH l1 T) (W:bG K 1 cH l2 U):
  aW Tryz.prog G 26 [T,U] V fun v V'=>v= .bool (bW l1 l2)/\St V' K L:=by
 refine aY X Tryz.func26 Z (t:=(PT.leaf.put (some (T)) 0).put (some (U)) 1) (by rfl) ?_;refine H ?_;refine ah Z ?_;refine Y Z (ak Z) Z ?_;refine af ?_;refine B ?_;refine H ?_;refine H ?_;refine ah Z ?_;refine Y Z (D Z) Z ?_;refine Y Z (aO h1 Z Z Z (e:=3) S Z) Z ?_;refine Y Z (D Z) Z ?_;refine Y Z (aO W Z Z Z (e:=3) S Z) Z ?_;refine Y Z (aC Z Z Z) Z ?_;refine af ?_;refine B ?_;refine aD Z (fun C=>?_) (fun C=>?_)
 ·refine H ?_;refine ah Z ?_;refine Y Z (ak Z) Z ?_;refine af ?_;refine B ?_;refine aF ?_;refine ay (?_);exact aA Z Z ⟨by rw[dE<|bL C],aq⟩
 refine aG ?_;refine B ?_;refine H ?_;refine H ?_;refine ah Z ?_;refine Y Z (ak Z) Z ?_;refine af ?_;refine B ?_;refine aI ?_;obtain⟨LL1,aq,hLL1⟩:=aq.named;refine a6 [4,5,11,12,13,14,15,16,17,18,19,20,21,22,23,24,25] (fun j t V=>∃(i:Nat),j+i=l1.length/\(∀k,k<i->l1[k]? =l2[k]?)/\t.get 5=some (.int .i64 (.ofNat i))/\St V K LL1) (l1.length) ⟨0,Z,fun k hk=>absurd hk (nZ_ _),Z,aq⟩ ?_;clear aq;intro j4 t V an hI;obtain⟨i,hj,d,E,aq⟩:=hI;subst hLL1;replace an:=an.bS Z Z;obtain⟨o4,o5,al,am,ao,ap,av,ax,an⟩:=an;replace an:=an.bS Z Z;obtain⟨aE,a0,a1,a2,a3,a4,a5,a9,an⟩:=an;replace an:=an.eh Z;obtain⟨bb,an⟩:=an;obtain rfl:=an.nil;clear an;replace E:o5=some _:=E;subst E;refine H ?_;refine H ?_;refine ah Z ?_;refine Y Z (D Z) Z ?_;refine Y Z (D Z) Z ?_;refine Y Z (aO h1 Z Z Z (e:=3) S Z) Z ?_;refine Y Z (aC Z Z Z) Z ?_;refine af ?_;refine B ?_;refine aD Z (fun b=>?_) (fun b=>?_)
 ·refine aG ?_;refine B ?_;refine H ?_;refine aI ?_;refine H ?_;refine aU (l:=[(0,[]),(1,[]),(2,[]),(3,[]),(4,[]),(5,[]),(6,[]),(7,[]),(8,[])]) S S ?_;refine aj Z Z (D Z) Z ?_;refine aj Z Z (D Z) Z ?_;obtain⟨bd,u,aa⟩:=cL b;refine bV (e:=3) (m:=1) h1 u Z Z Z S S Z Z (fun _=>Z) (fun be ab I ac M=>?_);obtain rfl:=M;refine aj Z Z (aN aq I Z S Z) Z ?_;refine aj Z Z (D Z) Z ?_;refine aj Z Z (D Z) Z ?_;obtain⟨bf,A⟩:=bZ (show i<l2.length from by rw[<-cN (a7 C)];exact aS b);refine bV (e:=3) (m:=1) W A Z Z Z S S Z Z (fun _=>Z) (fun bi ad Q ai R=>?_);obtain rfl:=R;refine aj Z Z (aN aq Q Z S Z) Z ?_;refine aj Z Z (aC Z Z Z) Z ?_;refine a8 ?_;refine B ?_;refine aD Z (fun F=>?_) (fun F=>?_)
  ·refine H ?_;refine ah Z ?_;refine Y Z (ak Z) Z ?_;refine af ?_;refine B ?_;refine aF ?_;refine aK<|ay<|bq<|aK<|ay (?_);exact aA Z Z ⟨by rw[dw u A (by simpa only[mP] using bL F)],aq⟩
  refine aG ?_;refine aH ?_;refine B ?_;refine ah Z ?_;refine Y Z (D Z) Z ?_;refine Y Z (aC Z Z Z) Z ?_;refine Y Z (ak Z) Z ?_;refine af ?_;refine aL ⟨j4-1,(by have:=aS b;omega),(by(iterate 33 refine bc.put Z ?_);exact bc.refl _ _),i+1,by have:=aS b;omega,fo d u A (by simpa only[mP] using a7 F),congrArg (fun z=>some (J.int .i64 z))<|aX (by have:=h1.bK;omega),aq⟩
 refine ba ?_;refine aP ?_;refine aR ?_;refine aM ?_;refine B ?_;refine H ?_;refine ah Z ?_;refine Y Z (ak Z) Z ?_;refine af ?_;refine B ?_;refine aF ?_;exact aA Z Z ⟨by rw[dh (cN<|a7 C) (bC b) d],aq⟩
theorem GY {G:Cx} (hG:Plain G) {K:KP} {l1 l2:List (List Int)} {W X:J} {V:N} {L:Own} (aq:St V K L) (h1:bG K 1 (RL K 1 cH) l1 W) (h2:bG K 1 (RL K 1 cH) l2 X):
  aW Tryz.prog G 13 [W,X] V fun v V'=>v= .bool (bW l1 l2)/\St V' K L:=by
 refine aY hG Tryz.func13 Z (t:=(PT.leaf.put (some (W)) 0).put (some (X)) 1) (by rfl) ?_;refine H ?_;refine ah Z ?_;refine Y Z (ak Z) Z ?_;refine af ?_;refine B ?_;refine H ?_;refine H ?_;refine ah Z ?_;refine Y Z (D Z) Z ?_;refine Y Z (aO h1 Z Z Z (e:=28) S Z) Z ?_;refine Y Z (D Z) Z ?_;refine Y Z (aO h2 Z Z Z (e:=28) S Z) Z ?_;refine Y Z (aC Z Z Z) Z ?_;refine af ?_;refine B ?_;refine aD Z (fun C=>?_) (fun C=>?_)
 ·refine H ?_;refine ah Z ?_;refine Y Z (ak Z) Z ?_;refine af ?_;refine B ?_;refine aF ?_;refine ay (?_);exact aA Z Z ⟨by rw[dE<|bL C],aq⟩
 refine aG ?_;refine B ?_;refine H ?_;refine H ?_;refine ah Z ?_;refine Y Z (ak Z) Z ?_;refine af ?_;refine B ?_;refine aI ?_;obtain⟨LL1,aq,hLL1⟩:=aq.named;refine a6 [4,5,11,12,13,14,15,16,17,18,19,20,21,22,23,24,25,26] (fun j t V=>∃(i:Nat),j+i=l1.length/\(∀k,k<i->l1[k]? =l2[k]?)/\t.get 5=some (.int .i64 (.ofNat i))/\St V K LL1) (l1.length) ⟨0,Z,fun k hk=>absurd hk (nZ_ _),Z,aq⟩ ?_;clear aq;intro j4 t V an hI;obtain⟨i,hj,d,E,aq⟩:=hI;subst hLL1;replace an:=an.bS Z Z;obtain⟨o4,o5,al,am,ao,ap,av,ax,an⟩:=an;replace an:=an.bS Z Z;obtain⟨aE,a0,a1,a2,a3,a4,a5,a9,an⟩:=an;replace an:=an.eh Z;obtain⟨bb,an⟩:=an;replace an:=an.eh Z;obtain⟨bd,an⟩:=an;obtain rfl:=an.nil;clear an;replace E:o5=some _:=E;subst E;refine H ?_;refine H ?_;refine ah Z ?_;refine Y Z (D Z) Z ?_;refine Y Z (D Z) Z ?_;refine Y Z (aO h1 Z Z Z (e:=28) S Z) Z ?_;refine Y Z (aC Z Z Z) Z ?_;refine af ?_;refine B ?_;refine aD Z (fun b=>?_) (fun b=>?_)
 ·refine aG ?_;refine B ?_;refine H ?_;refine aI ?_;refine H ?_;refine aU (l:=[(0,[]),(1,[]),(2,[]),(3,[]),(4,[]),(5,[]),(6,[]),(7,[]),(8,[]),(9,[])]) S S ?_;refine aj Z Z (D Z) Z ?_;refine aj Z Z (D Z) Z ?_;obtain⟨be,u,aa⟩:=cL b;refine bV (e:=28) (m:=1) h1 u Z Z Z S S Z Z (fun _=>Z) (fun bf ab I ac M=>?_);have hr19':=M;obtain⟨bi,rfl,Q⟩:=hr19';refine aj Z Z (aN aq I Z S Z) Z ?_;refine aj Z Z (D Z) Z ?_;refine aj Z Z (D Z) Z ?_;obtain⟨bk,A⟩:=bZ (show i<l2.length from by rw[<-cN (a7 C)];exact aS b);refine bV (e:=28) (m:=1) h2 A Z Z Z S S Z Z (fun _=>Z) (fun bl ad R ai T=>?_);have hr23':=T;obtain⟨bm,rfl,U⟩:=hr23';refine aj Z Z (aN aq R Z S Z) Z ?_;refine dZ Z Z (aT Z Z Z S) (fun _=>Z) (Lm hG aq Q U) (fun V aq=>?_);refine⟨aV,?_⟩;refine aj Z Z (dV Z) Z ?_;refine a8 ?_;refine B ?_;refine aD Z (fun F=>?_) (fun F=>?_)
  ·refine H ?_;refine ah Z ?_;refine Y Z (ak Z) Z ?_;refine af ?_;refine B ?_;refine aF ?_;refine aK<|ay<|bq<|aK<|ay (?_);exact aA Z Z ⟨by rw[dw u A (by exact bL F)],aq⟩
  refine aG ?_;refine aH ?_;refine B ?_;refine ah Z ?_;refine Y Z (D Z) Z ?_;refine Y Z (aC Z Z Z) Z ?_;refine Y Z (ak Z) Z ?_;refine af ?_;refine aL ⟨j4-1,(by have:=aS b;omega),(by(iterate 35 refine bc.put Z ?_);exact bc.refl _ _),i+1,by have:=aS b;omega,fo d u A (by exact a7 F),congrArg (fun z=>some (J.int .i64 z))<|aX (by have:=h1.bK;omega),aq⟩
 refine ba ?_;refine aP ?_;refine aR ?_;refine aM ?_;refine B ?_;refine H ?_;refine ah Z ?_;refine Y Z (ak Z) Z ?_;refine af ?_;refine B ?_;refine aF ?_;exact aA Z Z ⟨by rw[dh (cN<|a7 C) (bC b) d],aq⟩
theorem E0 {G:Cx} (hG:Plain G) {K:KP}:∀(k1 X:Nat) (x y:XE) (vx vy:List J),gY K k1 x vx->gY K X y vy->∀(V:N) (L:Own),St V K L->aW Tryz.prog G 76 [.agg vx,.agg vy] V fun v V'=>v= .bool (bW x y)/\St V' K L:=by
 intro k1;induction k1 with
 | zero=>intro X x y vx vy h;cases x;exact h.elim
 | succ k1 ih=>
 intro X x y vx vy h h' V L aq;cases X with
 | zero=>cases y;exact h'.elim
 | succ X=>
 obtain⟨o1,n1,s1,T⟩:=x;obtain⟨o2,n2,s2,aa⟩:=y;obtain⟨v1,rfl,I⟩:=h;obtain⟨v2,rfl,ab⟩:=h';refine aY hG Tryz.func76 Z (t:=(PT.leaf.put (some (.agg _)) 0).put (some (.agg _)) 1) (by rfl) ?_;refine H ?_;refine ah Z ?_;refine bJ aq Z (cG Z Z) (fun _=>Z) (fun V b1 aq=>?_);refine bJ aq Z (cG Z Z) (fun _=>Z) (fun V b2 aq=>?_);refine Y Z (ak Z) Z ?_;refine af ?_;refine B ?_;refine H ?_;refine H ?_;refine ah Z ?_;refine Y Z (az Z (k:=0) S) Z ?_;refine Y Z (aw Z (aq.get 1 Z) S Z) Z ?_;refine Y Z (az Z (k:=0) S) Z ?_;refine Y Z (aw Z (aq.get 0 Z) S Z) Z ?_;refine Y Z (aC Z Z Z) Z ?_;refine bx Z (D Z) (fun _=>Z) (fun b=>?_) (fun b=>?_)
 ·refine ae Z Z ?_;refine ae Z Z ?_;refine ae Z Z ?_;refine ae Z Z ?_;refine ae Z Z ?_;refine Y Z (aJ Z Z) Z ?_;refine Y Z (D Z) Z ?_;refine ae Z Z ?_;refine ae Z Z ?_;refine ae Z Z ?_;refine ae Z Z ?_;refine ae Z Z ?_;refine Y Z (aJ Z Z) Z ?_;refine Y Z (D Z) Z ?_;refine ae Z Z ?_;refine ae Z Z ?_;refine ae Z Z ?_;refine ae Z Z ?_;refine ae Z Z ?_;refine ae Z Z ?_;refine ae Z Z ?_;refine Y Z (aJ Z Z) Z ?_;refine af ?_;refine B ?_;refine bj Z ?_;refine H ?_;refine ah Z ?_;refine Y Z (ak Z) Z ?_;refine af ?_;refine B ?_;refine aF ?_;refine ay (?_);exact aA Z Z ⟨congrArg J.bool (by rw[jW];simp only[bL b,Bool.true_and,Bool.false_and]),aq.pop.pop⟩
 refine Y Z (az Z (k:=1) S) Z ?_;refine Y Z (aw Z (aq.get 1 Z) S Z) Z ?_;refine Y Z (az Z (k:=1) S) Z ?_;refine Y Z (aw Z (aq.get 0 Z) S Z) Z ?_;refine Y Z (aC Z Z Z) Z ?_;refine Y Z (aJ Z Z) Z ?_;refine bx Z (D Z) (fun _=>Z) (fun d=>?_) (fun d=>?_)
 ·refine ae Z Z ?_;refine ae Z Z ?_;refine ae Z Z ?_;refine ae Z Z ?_;refine ae Z Z ?_;refine Y Z (aJ Z Z) Z ?_;refine Y Z (D Z) Z ?_;refine ae Z Z ?_;refine ae Z Z ?_;refine ae Z Z ?_;refine ae Z Z ?_;refine ae Z Z ?_;refine ae Z Z ?_;refine ae Z Z ?_;refine Y Z (aJ Z Z) Z ?_;refine af ?_;refine B ?_;refine bj Z ?_;refine H ?_;refine ah Z ?_;refine Y Z (ak Z) Z ?_;refine af ?_;refine B ?_;refine aF ?_;refine ay (?_);exact aA Z Z ⟨congrArg J.bool (by rw[jW];simp only[a7 b,bL d,Bool.true_and,Bool.false_and]),aq.pop.pop⟩
 refine Y Z (az Z (k:=2) S) Z ?_;refine Y Z (aw Z (aq.get 1 Z) S Z) Z ?_;refine Y Z (az Z (k:=2) S) Z ?_;refine Y Z (aw Z (aq.get 0 Z) S Z) Z ?_;refine Y Z (aC Z Z Z) Z ?_;refine Y Z (aJ Z Z) Z ?_;refine bx Z (D Z) (fun _=>Z) (fun A=>?_) (fun A=>?_)
 ·refine ae Z Z ?_;refine ae Z Z ?_;refine ae Z Z ?_;refine ae Z Z ?_;refine ae Z Z ?_;refine ae Z Z ?_;refine ae Z Z ?_;refine Y Z (aJ Z Z) Z ?_;refine af ?_;refine B ?_;refine bj Z ?_;refine H ?_;refine ah Z ?_;refine Y Z (ak Z) Z ?_;refine af ?_;refine B ?_;refine aF ?_;refine ay (?_);exact aA Z Z ⟨congrArg J.bool (by rw[jW];simp only[a7 b,a7 d,bL A,Bool.true_and,Bool.false_and]),aq.pop.pop⟩
 refine Y Z (az Z (k:=3) S) Z ?_;refine Y Z (aw Z (aq.get 1 Z) S Z) Z ?_;refine Y Z (aO I Z Z Z (e:=100) S Z) Z ?_;refine Y Z (az Z (k:=3) S) Z ?_;refine Y Z (aw Z (aq.get 0 Z) S Z) Z ?_;refine Y Z (aO ab Z Z Z (e:=100) S Z) Z ?_;refine Y Z (aC Z Z Z) Z ?_;refine Y Z (aJ Z Z) Z ?_;refine af ?_;refine B ?_;refine aD Z (fun M=>?_) (fun M=>?_)
 ·refine H ?_;refine ah Z ?_;refine Y Z (ak Z) Z ?_;refine af ?_;refine B ?_;refine aF ?_;refine ay (?_);exact aA Z Z ⟨congrArg J.bool (by rw[jW,a7 b,a7 d,a7 A,dE<|bL M];rfl),aq.pop.pop⟩
 refine aG ?_;refine B ?_;refine H ?_;refine H ?_;refine ah Z ?_;refine Y Z (ak Z) Z ?_;refine af ?_;refine B ?_;refine aI ?_;obtain⟨LL1,aq,hLL1⟩:=aq.named;refine a6 [4,5,34,35,36,37,38,39,40,41,42,43,44,45,46,47,48,49,50,51,52] (fun j t V=>∃(i:Nat),j+i=T.length/\(∀k,k<i->T[k]? =aa[k]?)/\t.get 5=some (.int .i64 (.ofNat i))/\St V K LL1) (T.length) ⟨0,Z,fun k hk=>absurd hk (nZ_ _),Z,aq⟩ ?_;clear aq;intro j4 t V an hI;obtain⟨i,hj,C,U,aq⟩:=hI;subst hLL1;replace an:=an.bS Z Z;obtain⟨o4,o5,a1,a2,a3,a4,a5,a9,an⟩:=an;replace an:=an.bS Z Z;obtain⟨bb,bd,be,bf,ai,bi,bk,bl,an⟩:=an;replace an:=an.mQ Z;obtain⟨bm,al,bo,br,an⟩:=an;replace an:=an.eh Z;obtain⟨bs,an⟩:=an;obtain rfl:=an.nil;clear an;replace U:o5=some _:=U;subst U;refine H ?_;refine H ?_;refine ah Z ?_;refine Y Z (D Z) Z ?_;refine Y Z (az Z (k:=3) S) Z ?_;refine Y Z (aw Z (aq.get 1 Z) S Z) Z ?_;refine Y Z (aO I Z Z Z (e:=100) S Z) Z ?_;refine Y Z (aC Z Z Z) Z ?_;refine af ?_;refine B ?_;refine aD Z (fun u=>?_) (fun u=>?_)
 ·refine aG ?_;refine B ?_;refine H ?_;refine aI ?_;refine H ?_;refine aU (l:=[(0,[]),(1,[]),(2,[]),(3,[]),(4,[]),(5,[]),(6,[]),(7,[]),(8,[]),(9,[]),(10,[]),(11,[])]) S S ?_;refine aj Z Z (az Z (k:=3) S) Z ?_;refine aj Z Z (aw Z (aq.get 1 Z) S Z) Z ?_;refine aj Z Z (D Z) Z ?_;obtain⟨bt,E,am⟩:=cL u;refine bV (e:=100) (m:=4) I E Z Z Z S S Z Z (fun _=>Z) (fun bv ao ac ap Q=>?_);obtain⟨ai,bw,b0,b3,rfl,av⟩:=Q.shape;refine aj Z Z (bE aq ac Z S Z) Z ?_;refine aj Z Z (az Z (k:=3) S) Z ?_;refine aj Z Z (aw Z (aq.get 0 Z) S Z) Z ?_;refine aj Z Z (D Z) Z ?_;obtain⟨b4,F⟩:=bZ (show i<aa.length from by rw[<-cN (a7 M)];exact aS u);refine bV (e:=100) (m:=4) ab F Z Z Z S S Z Z (fun _=>Z) (fun b5 ax ad aE R=>?_);obtain⟨al,b6,b7,b8,rfl,a0⟩:=R.shape;refine aj Z Z (bE aq ad Z S Z) Z ?_;refine dZ Z Z (aT Z Z Z S) (fun _=>Z) (ih _ _ _ _ _ Q R _ _ aq) (fun V aq=>?_);refine⟨aV,?_⟩;refine aj Z Z (dV Z) Z ?_;refine a8 ?_;refine B ?_;refine aD Z (fun W=>?_) (fun W=>?_)
  ·refine H ?_;refine ah Z ?_;refine Y Z (ak Z) Z ?_;refine af ?_;refine B ?_;refine aF ?_;refine aK<|ay<|bq<|aK<|ay (?_);exact aA Z Z ⟨congrArg J.bool (by rw[jW,a7 b,a7 d,a7 A,dw E F<|bL W];rfl),aq.pop.pop⟩
  refine aG ?_;refine aH ?_;refine B ?_;refine ah Z ?_;refine Y Z (D Z) Z ?_;refine Y Z (aC Z Z Z) Z ?_;refine Y Z (ak Z) Z ?_;refine af ?_;refine aL ⟨j4-1,(by have:=aS u;omega),(by(iterate 41 refine bc.put Z ?_);exact bc.refl _ _),i+1,by have:=aS u;omega,fo C E F<|a7 W,congrArg (fun z=>some (J.int .i64 z))<|aX (by have:=I.bK;omega),aq⟩
 refine ba ?_;refine aP ?_;refine aR ?_;refine aM ?_;refine B ?_;refine H ?_;refine ah Z ?_;refine Y Z (ak Z) Z ?_;refine af ?_;refine B ?_;refine aF ?_;exact aA Z Z ⟨congrArg J.bool (by rw[jW,a7 b,a7 d,a7 A,dh (cN<|a7 M) (bC u) C];rfl),aq.pop.pop⟩
theorem Kx {G:Cx} (hG:Plain G) {K:KP} {k1 k2:Nat} {x y:XC} {vx vy:List J} {V:N} {L:Own} (aq:St V K L) (h:gf K k1 x vx) (h':gf K k2 y vy):aW Tryz.prog G 44 [.agg vx,.agg vy] V fun v V'=>v= .bool (bW x y)/\St V' K L:=by
 have h1:=h;have h1':=h';obtain⟨v1,rfl,ac⟩:=h1;obtain⟨v2,rfl,ap⟩:=h1';refine aY hG Tryz.func44 Z (t:=(PT.leaf.put (some (.agg _)) 0).put (some (.agg _)) 1) (by rfl) ?_;refine H ?_;refine ah Z ?_;refine bJ aq Z (cG Z Z) (fun _=>Z) (fun V b1 aq=>?_);refine bJ aq Z (cG Z Z) (fun _=>Z) (fun V b2 aq=>?_);refine Y Z (ak Z) Z ?_;refine af ?_;refine B ?_;refine H ?_;refine H ?_;refine ah Z ?_;refine Y Z (az Z (k:=0) S) Z ?_;refine Y Z (aw Z (aq.get 1 Z) S Z) Z ?_;refine Y Z (az Z (k:=0) S) Z ?_;refine Y Z (aw Z (aq.get 0 Z) S Z) Z ?_;refine Y Z (aC Z Z Z) Z ?_;refine bx Z (D Z) (fun _=>Z) (fun u=>?_) (fun u=>?_)
 ·refine ae Z Z ?_;refine ae Z Z ?_;refine ae Z Z ?_;refine ae Z Z ?_;refine ae Z Z ?_;refine ae Z Z ?_;refine ae Z Z ?_;refine Y Z (aJ Z Z) Z ?_;refine af ?_;refine B ?_;refine bj Z ?_;refine H ?_;refine ah Z ?_;refine Y Z (ak Z) Z ?_;refine af ?_;refine B ?_;refine aF ?_;refine ay (?_);exact aA Z Z ⟨congrArg J.bool (by rw[iw,bL u];rfl),aq.pop.pop⟩
 refine Y Z (az Z (k:=1) S) Z ?_;refine Y Z (aw Z (aq.get 1 Z) S Z) Z ?_;refine Y Z (aO ac Z Z Z (e:=97) S Z) Z ?_;refine Y Z (az Z (k:=1) S) Z ?_;refine Y Z (aw Z (aq.get 0 Z) S Z) Z ?_;refine Y Z (aO ap Z Z Z (e:=97) S Z) Z ?_;refine Y Z (aC Z Z Z) Z ?_;refine Y Z (aJ Z Z) Z ?_;refine af ?_;refine B ?_;refine aD Z (fun ad=>?_) (fun ad=>?_)
 ·refine H ?_;refine ah Z ?_;refine Y Z (ak Z) Z ?_;refine af ?_;refine B ?_;refine aF ?_;refine ay (?_);exact aA Z Z ⟨congrArg J.bool (by rw[iw,a7 u,dE<|bL ad];rfl),aq.pop.pop⟩
 refine aG ?_;refine B ?_;refine H ?_;refine H ?_;refine ah Z ?_;refine Y Z (ak Z) Z ?_;refine af ?_;refine B ?_;refine aI ?_;obtain⟨LL1,aq,hLL1⟩:=aq.named;refine a6 [4,5,6,7,8,23,24,25,26,27,28,29,30,31,32,33,34,35,36,37,38,39,40,41,42,43,44,45,46,47,48,49,50,51,52,53,54,55,56,57,58,59,60,61,62,63,64,65,66,67,68,69,70,71,72,73,74,75,76,77,78,79,80,81,82,83,84,85,86,87,88,89,90,91,92,93,94,95,96,97,98,99,100] (fun j t V=>∃(i:Nat),j+i=x.ins.length/\(∀k,k<i->x.ins[k]? =y.ins[k]?)/\t.get 5=some (.int .i64 (.ofNat i))/\St V K LL1) (x.ins.length) ⟨0,Z,fun k hk=>absurd hk (nZ_ _),Z,aq⟩ ?_;clear aq;intro j4 t V an hI;obtain⟨i,hj,U,av,aq⟩:=hI;subst hLL1;replace an:=an.bS Z Z;obtain⟨o4,o5,o6,o7,o8,cq,cr,cv,an⟩:=an;replace an:=an.bS Z Z;obtain⟨cw,cx,c0,c1,c2,c3,c4,c5,an⟩:=an;replace an:=an.bS Z Z;obtain⟨c7,c8,c9,dd,df,dk,dl,dm,an⟩:=an;replace an:=an.bS Z Z;obtain⟨dn,dr,ds,dx,dT,d0,d1,d2,an⟩:=an;replace an:=an.bS Z Z;obtain⟨d3,d4,d5,d6,d7,d8,d9,ee,an⟩:=an;replace an:=an.bS Z Z;obtain⟨ef,eg,el,em,en,eo,er,es,an⟩:=an;replace an:=an.bS Z Z;obtain⟨et,ev,ex,e0,e3,e4,e5,e6,an⟩:=an;replace an:=an.bS Z Z;obtain⟨e7,e8,e9,fd,fi,fk,fs,fv,an⟩:=an;replace an:=an.bS Z Z;obtain⟨be,bf,bi,bk,bl,bm,bo,br,an⟩:=an;replace an:=an.bS Z Z;obtain⟨bs,bt,a0,bv,bw,b0,b5,a1,an⟩:=an;replace an:=an.eh Z;obtain⟨b6,an⟩:=an;replace an:=an.eh Z;obtain⟨b7,an⟩:=an;replace an:=an.eh Z;obtain⟨a2,an⟩:=an;obtain rfl:=an.nil;clear an;replace av:o5=some _:=av;subst av;refine H ?_;refine H ?_;refine ah Z ?_;refine Y Z (D Z) Z ?_;refine Y Z (az Z (k:=1) S) Z ?_;refine Y Z (aw Z (aq.get 1 Z) S Z) Z ?_;refine Y Z (aO ac Z Z Z (e:=97) S Z) Z ?_;refine Y Z (aC Z Z Z) Z ?_;refine af ?_;refine B ?_;refine aD Z (fun Q=>?_) (fun Q=>?_)
 ·refine aG ?_;refine B ?_;refine H ?_;refine aI ?_;refine H ?_;refine aU (l:=[(0,[]),(1,[]),(2,[]),(3,[]),(4,[]),(5,[]),(6,[]),(7,[]),(8,[]),(9,[]),(10,[]),(11,[]),(12,[6,9]),(13,[])]) S S ?_;refine aj Z Z (az Z (k:=1) S) Z ?_;refine aj Z Z (aw Z (aq.get 1 Z) S Z) Z ?_;refine aj Z Z (D Z) Z ?_;obtain⟨ax,b,b9⟩:=cL Q;refine bV (e:=97) (m:=6) ac b Z Z Z S S Z Z (fun _=>Z) (fun f0 ca a3 cb a4=>?_);have hr33':=a4;obtain⟨f1,rfl,C⟩:=hr33';refine aj Z Z (bE aq a3 Z S Z) Z ?_;refine aj Z Z (az Z (k:=1) S) Z ?_;refine aj Z Z (aw Z (aq.get 0 Z) S Z) Z ?_;refine aj Z Z (D Z) Z ?_;obtain⟨a5,d⟩:=bZ (show i<y.ins.length from by rw[<-cN (a7 ad)];exact aS Q);refine bV (e:=97) (m:=6) ap d Z Z Z S S Z Z (fun _=>Z) (fun f2 cc al ce a9=>?_);have hr38':=a9;obtain⟨f3,rfl,I⟩:=hr38';refine aj Z Z (bE aq al Z S Z) Z ?_;refine Gk aq Z Z (dG (cs:=[.int .i64 0,.int .i64 0,.int .i64 0,.int .i64 0,.int .i64 0,.au]) S S) (fun _=>Z) (fun V b3 aq=>?_);refine Gk aq Z Z (dG (cs:=[.int .i64 0,.int .i64 0,.int .i64 0,.int .i64 0,.int .i64 0,.au]) S S) (fun _=>Z) (fun V b4 aq=>?_);refine OU aq Z Z (bg Z Z Z (aq.get 1 Z) (m:=6) S Z (Nat.le_of_ble_eq_true Z) (ar Z<|ar Z<|ar Z<|ar Z<|ar Z<|ar C.leaf.2 aQ) (cells':=[_,_,_,_,_,_]) Z) Z (fun V aq=>?_);refine⟨(aZ (bh Z Z Z Z Z (aw Z (aq.get 2 Z) S Z) ap.dL)<|aZ (bh Z Z Z Z Z (bE aq al Z S Z)<|mJ<|cZ (fq _ _)<|cZ (fq _ _)<|cZ (fq _ _)<|cZ (fq _ _)<|cZ (fq _ _)<|cZ I.lf lg) aV),?_⟩;refine tI aq Z Z (bg Z Z Z (aq.get 0 Z) (m:=6) S Z (Nat.le_of_ble_eq_true Z) (ar Z<|ar Z<|ar Z<|ar Z<|ar Z<|ar I.leaf.2 aQ) (cells':=[_,_,_,_,_,_]) Z) Z (fun V aq=>?_);refine⟨aV,?_⟩;refine a8 ?_;refine B ?_;refine H ?_;refine H ?_;refine ah Z ?_;refine Y Z (az Z (k:=0) S) Z ?_;refine Y Z (aw Z (aq.get 1 Z) S Z) Z ?_;refine Y Z (az Z (k:=0) S) Z ?_;refine Y Z (aw Z (aq.get 0 Z) S Z) Z ?_;refine Y Z (aC Z Z Z) Z ?_;refine bx Z (D Z) (fun _=>Z) (fun A=>?_) (fun A=>?_)
  ·refine ae Z Z ?_;refine ae Z Z ?_;refine ae Z Z ?_;refine ae Z Z ?_;refine ae Z Z ?_;refine Y Z (aJ Z Z) Z ?_;refine Y Z (D Z) Z ?_;refine ae Z Z ?_;refine ae Z Z ?_;refine ae Z Z ?_;refine ae Z Z ?_;refine ae Z Z ?_;refine Y Z (aJ Z Z) Z ?_;refine Y Z (D Z) Z ?_;refine ae Z Z ?_;refine ae Z Z ?_;refine ae Z Z ?_;refine ae Z Z ?_;refine ae Z Z ?_;refine Y Z (aJ Z Z) Z ?_;refine Y Z (D Z) Z ?_;refine ae Z Z ?_;refine ae Z Z ?_;refine ae Z Z ?_;refine ae Z Z ?_;refine ae Z Z ?_;refine Y Z (aJ Z Z) Z ?_;refine Y Z (D Z) Z ?_;refine ae Z Z ?_;refine ae Z Z ?_;refine ae Z Z ?_;refine ae Z Z ?_;refine ae Z Z ?_;refine ae Z Z ?_;refine ae Z Z ?_;refine Y Z (aJ Z Z) Z ?_;refine af ?_;refine B ?_;refine bj Z ?_;refine H ?_;refine ah Z ?_;refine Y Z (ak Z) Z ?_;refine af ?_;refine B ?_;refine aF ?_;refine ay<|aK<|ay<|bq<|aK<|ay (?_);exact aA Z Z ⟨congrArg J.bool (by rw[iw,a7 u,dw b d (by rw[gp];simp only[bL A,Bool.true_and,Bool.false_and])];rfl),aq.pop.pop.pop.pop⟩
  refine Y Z (az Z (k:=1) S) Z ?_;refine Y Z (aw Z (aq.get 1 Z) S Z) Z ?_;refine Y Z (az Z (k:=1) S) Z ?_;refine Y Z (aw Z (aq.get 0 Z) S Z) Z ?_;refine Y Z (aC Z Z Z) Z ?_;refine Y Z (aJ Z Z) Z ?_;refine bx Z (D Z) (fun _=>Z) (fun E=>?_) (fun E=>?_)
  ·refine ae Z Z ?_;refine ae Z Z ?_;refine ae Z Z ?_;refine ae Z Z ?_;refine ae Z Z ?_;refine Y Z (aJ Z Z) Z ?_;refine Y Z (D Z) Z ?_;refine ae Z Z ?_;refine ae Z Z ?_;refine ae Z Z ?_;refine ae Z Z ?_;refine ae Z Z ?_;refine Y Z (aJ Z Z) Z ?_;refine Y Z (D Z) Z ?_;refine ae Z Z ?_;refine ae Z Z ?_;refine ae Z Z ?_;refine ae Z Z ?_;refine ae Z Z ?_;refine Y Z (aJ Z Z) Z ?_;refine Y Z (D Z) Z ?_;refine ae Z Z ?_;refine ae Z Z ?_;refine ae Z Z ?_;refine ae Z Z ?_;refine ae Z Z ?_;refine ae Z Z ?_;refine ae Z Z ?_;refine Y Z (aJ Z Z) Z ?_;refine af ?_;refine B ?_;refine bj Z ?_;refine H ?_;refine ah Z ?_;refine Y Z (ak Z) Z ?_;refine af ?_;refine B ?_;refine aF ?_;refine ay<|aK<|ay<|bq<|aK<|ay (?_);exact aA Z Z ⟨congrArg J.bool (by rw[iw,a7 u,dw b d (by rw[gp];simp only[a7 A,bL E,Bool.true_and,Bool.false_and])];rfl),aq.pop.pop.pop.pop⟩
  refine Y Z (az Z (k:=2) S) Z ?_;refine Y Z (aw Z (aq.get 1 Z) S Z) Z ?_;refine Y Z (az Z (k:=2) S) Z ?_;refine Y Z (aw Z (aq.get 0 Z) S Z) Z ?_;refine Y Z (aC Z Z Z) Z ?_;refine Y Z (aJ Z Z) Z ?_;refine bx Z (D Z) (fun _=>Z) (fun F=>?_) (fun F=>?_)
  ·refine ae Z Z ?_;refine ae Z Z ?_;refine ae Z Z ?_;refine ae Z Z ?_;refine ae Z Z ?_;refine Y Z (aJ Z Z) Z ?_;refine Y Z (D Z) Z ?_;refine ae Z Z ?_;refine ae Z Z ?_;refine ae Z Z ?_;refine ae Z Z ?_;refine ae Z Z ?_;refine Y Z (aJ Z Z) Z ?_;refine Y Z (D Z) Z ?_;refine ae Z Z ?_;refine ae Z Z ?_;refine ae Z Z ?_;refine ae Z Z ?_;refine ae Z Z ?_;refine ae Z Z ?_;refine ae Z Z ?_;refine Y Z (aJ Z Z) Z ?_;refine af ?_;refine B ?_;refine bj Z ?_;refine H ?_;refine ah Z ?_;refine Y Z (ak Z) Z ?_;refine af ?_;refine B ?_;refine aF ?_;refine ay<|aK<|ay<|bq<|aK<|ay (?_);exact aA Z Z ⟨congrArg J.bool (by rw[iw,a7 u,dw b d (by rw[gp];simp only[a7 A,a7 E,bL F,Bool.true_and,Bool.false_and])];rfl),aq.pop.pop.pop.pop⟩
  refine Y Z (az Z (k:=3) S) Z ?_;refine Y Z (aw Z (aq.get 1 Z) S Z) Z ?_;refine Y Z (az Z (k:=3) S) Z ?_;refine Y Z (aw Z (aq.get 0 Z) S Z) Z ?_;refine Y Z (aC Z Z Z) Z ?_;refine Y Z (aJ Z Z) Z ?_;refine bx Z (D Z) (fun _=>Z) (fun R=>?_) (fun R=>?_)
  ·refine ae Z Z ?_;refine ae Z Z ?_;refine ae Z Z ?_;refine ae Z Z ?_;refine ae Z Z ?_;refine Y Z (aJ Z Z) Z ?_;refine Y Z (D Z) Z ?_;refine ae Z Z ?_;refine ae Z Z ?_;refine ae Z Z ?_;refine ae Z Z ?_;refine ae Z Z ?_;refine ae Z Z ?_;refine ae Z Z ?_;refine Y Z (aJ Z Z) Z ?_;refine af ?_;refine B ?_;refine bj Z ?_;refine H ?_;refine ah Z ?_;refine Y Z (ak Z) Z ?_;refine af ?_;refine B ?_;refine aF ?_;refine ay<|aK<|ay<|bq<|aK<|ay (?_);exact aA Z Z ⟨congrArg J.bool (by rw[iw,a7 u,dw b d (by rw[gp];simp only[a7 A,a7 E,a7 F,bL R,Bool.true_and,Bool.false_and])];rfl),aq.pop.pop.pop.pop⟩
  refine Y Z (az Z (k:=4) S) Z ?_;refine Y Z (aw Z (aq.get 1 Z) S Z) Z ?_;refine Y Z (az Z (k:=4) S) Z ?_;refine Y Z (aw Z (aq.get 0 Z) S Z) Z ?_;refine Y Z (aC Z Z Z) Z ?_;refine Y Z (aJ Z Z) Z ?_;refine bx Z (D Z) (fun _=>Z) (fun W=>?_) (fun W=>?_)
  ·refine ae Z Z ?_;refine ae Z Z ?_;refine ae Z Z ?_;refine ae Z Z ?_;refine ae Z Z ?_;refine ae Z Z ?_;refine ae Z Z ?_;refine Y Z (aJ Z Z) Z ?_;refine af ?_;refine B ?_;refine bj Z ?_;refine H ?_;refine ah Z ?_;refine Y Z (ak Z) Z ?_;refine af ?_;refine B ?_;refine aF ?_;refine ay<|aK<|ay<|bq<|aK<|ay (?_);exact aA Z Z ⟨congrArg J.bool (by rw[iw,a7 u,dw b d (by rw[gp];simp only[a7 A,a7 E,a7 F,a7 R,bL W,Bool.true_and,Bool.false_and])];rfl),aq.pop.pop.pop.pop⟩
  refine Y Z (az Z (k:=5) S) Z ?_;refine Y Z (aw Z (aq.get 1 Z) S Z) Z ?_;refine Y Z (aO C Z Z Z (e:=100) S Z) Z ?_;refine Y Z (az Z (k:=5) S) Z ?_;refine Y Z (aw Z (aq.get 0 Z) S Z) Z ?_;refine Y Z (aO I Z Z Z (e:=100) S Z) Z ?_;refine Y Z (aC Z Z Z) Z ?_;refine Y Z (aJ Z Z) Z ?_;refine af ?_;refine B ?_;refine aD Z (fun ai=>?_) (fun ai=>?_)
  ·refine H ?_;refine ah Z ?_;refine Y Z (ak Z) Z ?_;refine af ?_;refine B ?_;refine aF ?_;refine ay<|aK<|ay<|bq<|aK<|ay (?_);exact aA Z Z ⟨congrArg J.bool (by rw[iw,a7 u,dw b d (by rw[gp,a7 A,a7 E,a7 F,a7 R,a7 W,dE<|bL ai];rfl)];rfl),aq.pop.pop.pop.pop⟩
  refine aG ?_;refine B ?_;refine H ?_;refine ah Z ?_;refine Y Z (ak Z) Z ?_;refine af ?_;refine B ?_;refine aI ?_;obtain⟨LL2,aq,hLL2⟩:=aq.named;refine a6 [4,8,82,83,84,85,86,87,88,89,90,91,92,93,94,95,96,97,98,99,100] (fun j t V=>∃(i2:Nat),j+i2=ax.exprs.length/\(∀k,k<i2->ax.exprs[k]? =a5.exprs[k]?)/\t.get 8=some (.int .i64 (.ofNat i2))/\St V K LL2) (ax.exprs.length) ⟨0,Z,fun k hk=>absurd hk (nZ_ _),Z,aq⟩ ?_;clear aq;intro b8 t V an hI;obtain⟨i2,f4,M,aE,aq⟩:=hI;subst hLL2;replace an:=an.bS Z Z;obtain⟨o4,o8,be,bf,bi,bk,bl,bm,an⟩:=an;replace an:=an.bS Z Z;obtain⟨bo,br,bs,bt,a0,bv,bw,b0,an⟩:=an;replace an:=an.mQ Z;obtain⟨b5,a1,b6,b7,an⟩:=an;replace an:=an.eh Z;obtain⟨a2,an⟩:=an;obtain rfl:=an.nil;clear an;replace aE:o8=some _:=aE;subst aE;refine H ?_;refine H ?_;refine ah Z ?_;refine Y Z (D Z) Z ?_;refine Y Z (az Z (k:=5) S) Z ?_;refine Y Z (aw Z (aq.get 1 Z) S Z) Z ?_;refine Y Z (aO C Z Z Z (e:=100) S Z) Z ?_;refine Y Z (aC Z Z Z) Z ?_;refine af ?_;refine B ?_;refine aD Z (fun T=>?_) (fun T=>?_)
  ·refine aG ?_;refine B ?_;refine H ?_;refine aI ?_;refine H ?_;refine aU (l:=[(0,[]),(1,[]),(2,[]),(3,[]),(4,[]),(5,[]),(6,[]),(7,[]),(8,[]),(9,[]),(10,[]),(11,[])]) S S ?_;refine aj Z Z (az Z (k:=5) S) Z ?_;refine aj Z Z (aw Z (aq.get 1 Z) S Z) Z ?_;refine aj Z Z (D Z) Z ?_;obtain⟨f5,X,cg⟩:=cL T;refine bV (e:=100) (m:=4) C X Z Z Z S S Z Z (fun _=>Z) (fun f6 ch bb ci am=>?_);obtain⟨a0,f7,f8,f9,rfl,cj⟩:=am.shape;refine aj Z Z (bE aq bb Z S Z) Z ?_;refine aj Z Z (az Z (k:=5) S) Z ?_;refine aj Z Z (aw Z (aq.get 0 Z) S Z) Z ?_;refine aj Z Z (D Z) Z ?_;obtain⟨gc,aa⟩:=bZ (show i2<a5.exprs.length from by rw[<-cN (a7 ai)];exact aS T);refine bV (e:=100) (m:=4) I aa Z Z Z S S Z Z (fun _=>Z) (fun ge ck bd cn ao=>?_);obtain⟨a1,gl,gr,gs,rfl,cp⟩:=ao.shape;refine aj Z Z (bE aq bd Z S Z) Z ?_;refine dZ Z Z (aT Z Z Z S) (fun _=>Z) (E0 hG _ _ _ _ _ _ am ao _ _ aq) (fun V aq=>?_);refine⟨aV,?_⟩;refine aj Z Z (dV Z) Z ?_;refine a8 ?_;refine B ?_;refine aD Z (fun ab=>?_) (fun ab=>?_)
   ·refine H ?_;refine ah Z ?_;refine Y Z (ak Z) Z ?_;refine af ?_;refine B ?_;refine aF ?_;refine aK<|ay<|bq<|aK<|aK<|ay<|bq<|aK<|ay (?_);exact aA Z Z ⟨congrArg J.bool (by rw[iw,a7 u,dw b d (by rw[gp,a7 A,a7 E,a7 F,a7 R,a7 W,dw X aa<|bL ab];rfl)];rfl),aq.pop.pop.pop.pop⟩
   refine aG ?_;refine aH ?_;refine B ?_;refine ah Z ?_;refine Y Z (D Z) Z ?_;refine Y Z (aC Z Z Z) Z ?_;refine Y Z (ak Z) Z ?_;refine af ?_;refine aL ⟨b8-1,(by have:=aS T;omega),(by(iterate 41 refine bc.put Z ?_);exact bc.refl _ _),i2+1,by have:=aS T;omega,fo M X aa<|a7 ab,congrArg (fun z=>some (J.int .i64 z))<|aX (by have:=C.bK;omega),aq⟩
  refine ba ?_;refine aP ?_;refine aR ?_;refine aM ?_;refine aH ?_;refine B ?_;refine ah Z ?_;refine Y Z (D Z) Z ?_;refine Y Z (aC Z Z Z) Z ?_;refine Y Z (ak Z) Z ?_;refine af ?_;have aq:=aq.pop;have aq:=aq.pop;refine aL ⟨j4-1,(by have:=aS Q;omega),(by(iterate 172 refine bc.put Z ?_);exact bc.refl _ _),i+1,by have:=aS Q;omega,fo U b d (by rw[gp,a7 A,a7 E,a7 F,a7 R,a7 W,dh (cN<|a7 ai) (bC T) M];rfl),congrArg (fun z=>some (J.int .i64 z))<|aX (by have:=ac.bK;omega),aq⟩
 refine ba ?_;refine aP ?_;refine aR ?_;refine aM ?_;refine B ?_;refine H ?_;refine ah Z ?_;refine Y Z (ak Z) Z ?_;refine af ?_;refine B ?_;refine aF ?_;exact aA Z Z ⟨congrArg J.bool (by rw[iw,a7 u,dh (cN<|a7 ad) (bC Q) U];rfl),aq.pop.pop⟩
end Go.Ev
namespace Go.Ev
variable [Env]
section
variable {cls:List Int} {n:Nat} {sm:Nat->Nat->Bool}
def np (sm:Nat->Nat->Bool) (n:Nat):Nat->List Int->List (List Int)
 | 0,p=>[p]
 | f+1,p=>(List.range n).flatMap fun v=>bif (bif p.any (fun y=>bM y (.ofNat (v+1))) then false else sm p.length v) then np sm n f (p++[.ofNat (v+1)]) else []
def jT (sm:Nat->Nat->Bool) (n f:Nat) (p:List Int) (i:Nat):List (List Int):=(List.range i).flatMap fun v=>bif (bif p.any (fun y=>bM y (.ofNat (v+1))) then false else sm p.length v) then np sm n f (p++[.ofNat (v+1)]) else []
theorem nq {f:Nat} {p:List Int}:jT sm n f p 0= []:=rfl
theorem oB {f:Nat} {p:List Int}:jT sm n f p n=np sm n (f+1) p:=rfl
theorem gK {f i:Nat} {p:List Int}:jT sm n f p (i+1)=jT sm n f p i++(bif (bif p.any (fun y=>bM y (.ofNat (i+1))) then false else sm p.length i) then np sm n f (p++[.ofNat (i+1)]) else []):=by
 unfold jT;rw[List.range_succ,List.flatMap_append,List.flatMap_cons,List.flatMap_nil,List.append_nil]
theorem GP (hc:cls.length=n+1) (d:∀a v,a<n->v<n->sm a v=bM ((cls[v+1]?).getD 0) ((cls[a+1]?).getD 0)):∀(f t:Nat) (tk:List Bool) (p:List Int),1<=t->t+f=n+1->p.length=n->n<tk.length->
  (∀v:Nat,v<n->(tk[v+1]?).getD false=(p.take (t-1)).any (fun y=>bM y (.ofNat (v+1))))->(gF cls n f t tk p).1=np sm n f (p.take (t-1))
 | 0,t,tk,p,F,u,hp,_,_=>by
  show [p]= [p.take (t-1)];rw[tL_ oM]
 | f+1,t,tk,p,F,u,hp,A,hk=>by
  have key:∀i,i<=n->(eu cls n f t tk p i).1=jT sm n f (p.take (t-1)) i:=by
   intro i;induction i with
   | zero=>intro _;rfl
   | succ i ih=>
    intro hi;have ih:=ih oM;have C:(p.take (t-1)).length=t-1:=by rw[lT_];omega
    rw[gK,C,d (t-1) i oM hi,show t-1+1=t by omega,<-hk i hi];cases b:(tk[i+1]?).getD false with
    | true=>
     rw[fM (by rw[b];rfl),ih];show _=_++[];rw[List.append_nil]
    | false=>
     cases hq:bM ((cls[i+1]?).getD 0) ((cls[t]?).getD 0) with
     | false=>
      rw[fM (by rw[b,hq];rfl),ih];show _=_++[];rw[List.append_nil]
     | true=>
      have hlen:(eu cls n f t tk p i).2.length=n:=by rw[tR,hp]
      have E:t-1<(eu cls n f t tk p i).2.length:=by rw[hlen];omega
      have m:((eu cls n f t tk p i).2.set (t-1) (.ofNat (i+1))).take (t+1-1)=p.take (t-1)++[.ofNat (i+1)]:=by
       rw[show t+1-1=t-1+1 by omega,List.take_add_one,List.take_set_of_le<|nR_ _,List.getElem?_set_self E,zk];rfl
      have:=GP hc d f (t+1) (tk.set (i+1) true) ((eu cls n f t tk p i).2.set (t-1) (.ofNat (i+1))) oM oM (by rw[List.length_set];exact hlen) (by rw[List.length_set];exact A) fun v hv=>by
       rw[m,List.any_append,List.any_cons,List.any_nil,Bool.or_false,<-hk v hv,fN]
       by_cases e:i=v
       ·subst e;rw[List.getElem?_set_self oM,decide_eq_true Z,Bool.or_true];rfl
       rw[List.getElem?_set_ne oM,decide_eq_false oM,Bool.or_false]
      rw[ir (by rw[b,hq];rfl)];show(eu cls n f t tk p i).1++_=_;rw[this,ih,m];rfl
  have:=key n (nR_ _);rw[vt,this,oB]
theorem CI {l:List XC} (hc:cls.length=l.length+1) (h4:l.length<=4) (b:∀a v,a<l.length->v<l.length->sm a v=bM ((cls[v+1]?).getD 0) ((cls[a+1]?).getD 0)):gV l cls=np sm l.length l.length []:=by
 unfold gV;rw[GP hc b l.length 1 _ _ (nR_ _) oM (by simp) (by simp;omega) fun v hv=>?_]
 ·rfl
 rw[List.getElem?_replicate];split<;>rfl
end
end Go.Ev
namespace Go.Ev
variable [Env]
open Go.Proofs
set_option maxRecDepth 4000
set_option maxHeartbeats 8000000
theorem Kz {G:Cx} (M:Plain G) {K:KP} {l:List Int} {v:J} (h:bG K 1 cH l v) (x:Int) {V:N} {L:Own} (aq:St V K L):
  aW Tryz.prog G 39 [v,.int .i64 x] V fun u V'=>u= .bool (l.any fun y=>bM y x)/\St V' K L:=by
 refine aY M Tryz.func39 Z (t:=(PT.leaf.put (some (v)) 0).put (some (.int .i64 x)) 1) (by rfl) ?_;refine H ?_;refine ah Z ?_;refine Y Z (ak Z) Z ?_;refine af ?_;refine B ?_;refine H ?_;refine H ?_;refine ah Z ?_;refine Y Z (ak Z) Z ?_;refine af ?_;refine B ?_;refine aI ?_;obtain⟨LL1,aq,hLL1⟩:=aq.named;refine a6 [4,5,6,7,8,9,10,11,12,13,14,15,16,17] (fun j t V=>∃(i:Nat),j+i=l.length/\(l.take i).any (fun y=>bM y x)=false/\t.get 5=some (.int .i64 (.ofNat i))/\St V K LL1) (l.length) ⟨0,Z,Z,Z,aq⟩ ?_;clear aq;intro Q t V an R;obtain⟨i,hj,I,d,aq⟩:=R;subst hLL1;replace an:=an.bS Z Z;obtain⟨o4,T,o6,o7,o8,o9,ad,ai,an⟩:=an;replace an:=an.mQ Z;obtain⟨al,am,ao,ap,an⟩:=an;replace an:=an.eh Z;obtain⟨av,an⟩:=an;replace an:=an.eh Z;obtain⟨ax,an⟩:=an;obtain rfl:=an.nil;clear an;replace d:T=some _:=d;subst d;refine H ?_;refine H ?_;refine ah Z ?_;refine Y Z (D Z) Z ?_;refine Y Z (D Z) Z ?_;refine Y Z (aO h Z Z Z (e:=3) S Z) Z ?_;refine Y Z (aC Z Z Z) Z ?_;refine af ?_;refine B ?_;refine aD Z (fun C=>?_) (fun C=>?_)
 ·refine aG ?_;refine B ?_;refine H ?_;refine aI ?_;refine H ?_;refine ah Z ?_;refine Y Z (D Z) Z ?_;refine Y Z (D Z) Z ?_;obtain⟨aE,b,aa⟩:=cL C;refine cm (e:=3) (m:=1) h b Z Z S S Z Z (fun _=>Z) (fun a0 ab E ac F=>?_);obtain rfl:=F;refine Y Z (aN aq E Z S Z) Z ?_;refine Y Z (D Z) Z ?_;refine Y Z (aC Z Z Z) Z ?_;refine af ?_;refine B ?_;refine aD Z (fun A=>?_) (fun A=>?_)
  ·refine H ?_;refine ah Z ?_;refine Y Z (ak Z) Z ?_;refine af ?_;refine B ?_;refine aF ?_;refine aK<|ay<|bq<|aK<|ay (?_);exact aA Z Z ⟨congrArg J.bool (by symm;exact On b A),aq⟩
  refine aG ?_;refine aH ?_;refine B ?_;refine ah Z ?_;refine Y Z (D Z) Z ?_;refine Y Z (aC Z Z Z) Z ?_;refine Y Z (ak Z) Z ?_;refine af ?_;refine aL ⟨Q-1,(by have:=aS C;omega),(by(iterate 27 refine bc.put Z ?_);exact bc.refl _ _),i+1,by have:=aS C;omega,IM I b A,congrArg (fun z=>some (J.int .i64 z))<|aX (by have:=h.bK;omega),aq⟩
 refine ba ?_;refine aP ?_;refine aR ?_;refine aM ?_;refine B ?_;refine H ?_;refine ah Z ?_;refine Y Z (ak Z) Z ?_;refine af ?_;refine B ?_;refine aF ?_;exact aA Z Z ⟨congrArg J.bool (by symm;exact LW I<|bC C),aq⟩
theorem Ky {G:Cx} (T:Plain G) {K:KP} {ps:List Int} {pv:J} (hp:bG K 1 cH ps pv) {x:cQ} (M:Ol ps.length x) {V:N} {L:Own} (aq:St V K L):
  aW Tryz.prog G 73 [.agg [.int .i64 x.cq,.int .i64 x.index],pv] V fun u V'=>u= .agg [.int .i64 (lR ps x).cq,.int .i64 (lR ps x).index]/\St V' K L:=by
 refine aY T Tryz.func73 Z (t:=(PT.leaf.put (some (.agg [.int .i64 x.cq,.int .i64 x.index])) 0).put (some (pv)) 1) (by rfl) ?_;refine H ?_;refine ah Z ?_;refine bJ aq Z (cG Z Z) (fun _=>Z) (fun V b1 aq=>?_);refine bJ aq Z (dG (cs:=[.int .i64 0,.int .i64 0]) S S) (fun _=>Z) (fun V b2 aq=>?_);refine af ?_;refine B ?_;refine H ?_;refine H ?_;refine ah Z ?_;refine Y Z (az Z (k:=0) S) Z ?_;refine Y Z (aw Z (aq.get 1 Z) S Z) Z ?_;refine Y Z (aC Z Z Z) Z ?_;refine af ?_;refine B ?_;refine aD Z (fun I=>?_) (fun I=>?_)
 ·refine ah Z ?_;refine Y Z (D Z) Z ?_;refine Y Z (az Z (k:=0) S) Z ?_;refine Y Z (aw Z (aq.get 1 Z) S Z) Z ?_;obtain⟨Q,A,C⟩:=M I;obtain⟨R,b⟩:=bZ C;refine Y Z (aC (v:=.int .i64 (.ofNat Q)) Z Z (by rw[A];exact congrArg (fun z=>some (J.int .i64 z))<|fP (by have:=hp.bK;omega))) Z ?_;refine cm (e:=3) (m:=1) hp b Z Z S S Z Z (fun _=>Z) (fun ac aa E ab F=>?_);obtain rfl:=F;refine Y Z (aN aq E Z S Z) Z ?_;refine Y Z (az Z (k:=0) S) Z ?_;refine J8 aq Z (bg Z Z Z (aq.get 1 Z) (m:=1) S Z (Nat.le_of_ble_eq_true Z) (ar Z aQ) (cells':=[_,_]) Z) Z (fun V aq=>?_);refine af ?_;refine B ?_;refine H ?_;refine ah Z ?_;refine Y Z (bp Z (aq.get 1 Z) (n:=2) (vs:=[_,_]) S (Nat.le_of_ble_eq_true Z) Z) Z ?_;refine cF aq Z (bg Z Z Z (aq.get 0 Z) (m:=2) S Z (Nat.le_of_ble_eq_true Z) (ar Z<|ar Z aQ) (cells':=[_,_]) Z) Z (fun V aq=>?_);refine af ?_;refine B ?_;refine aF ?_;have d:lR ps x=⟨R,x.index⟩:=by unfold lR;rw[show dy 0 x.cq=true from I];simp only[cond_true];rw[A,show(Int.ofNat (Q+1)).toNat-1=Q from Z,b];rfl
  exact⟨.inr Z,_,iq Z Z (aq.get 0 Z) (m:=2) S Z,by rw[d],aq.pop.pop⟩
 refine aG ?_;refine B ?_;refine H ?_;refine ah Z ?_;refine Y Z (bp Z (aq.get 1 Z) (n:=2) (vs:=[_,_]) S (Nat.le_of_ble_eq_true Z) Z) Z ?_;refine cF aq Z (bg Z Z Z (aq.get 0 Z) (m:=2) S Z (Nat.le_of_ble_eq_true Z) (ar Z<|ar Z aQ) (cells':=[_,_]) Z) Z (fun V aq=>?_);refine af ?_;refine B ?_;refine aF ?_;have d:lR ps x=⟨x.cq,x.index⟩:=by unfold lR;rw[show dy 0 x.cq=false from I];rfl
 exact⟨.inr Z,_,iq Z Z (aq.get 0 Z) (m:=2) S Z,by rw[d],aq.pop.pop⟩
theorem ki {a b:Nat} (h:cC (dy (.ofNat b) (.ofNat (a+1)))=true):a<b:=by have:=bC (bL h);omega
theorem Js {a b:Nat} (h:cC (dy (.ofNat b) (.ofNat (a+1)))=false):b<=a:=by have:=aS (a7 h);omega
theorem EU {A I:List (List Int)} {i f n:Nat} (h:A.length+n<=1000) (hn:n=4 ^ f*4) (hI:I.length<=i*4 ^ f) (hi:i<4):(A++I).length+4 ^ f<=1000:=by
 have h1:i*4 ^ f<=3*4 ^ f:=nM_ _ oM;rw[lA_];omega
def KO (l:List XC) (a v:Nat):Bool:=match l[a]?,l[v]? with | some x,some y=>bW x y | _,_=>false
theorem rv {sm:Nat->Nat->Bool} {n:Nat} (h4:n<=4):∀(f:Nat) (p:List Int),(np sm n f p).length<=4 ^ f
 | 0,p=>nR_ _
 | f+1,p=>by
  have key:∀i,i<=n->(jT sm n f p i).length<=i*4 ^ f:=fun i=>by
   induction i with
   | zero=>intro _;rw[nq];exact Nat.zero_le _
   | succ i ih=>
    intro hi;have h1:=ih oM;have h2:=rv (sm:=sm) h4 f (p++[.ofNat (i+1)]);rw[gK,lA_,Nat.succ_mul];refine Nat.add_le_add h1 ?_;cases (bif p.any (fun y=>bM y (.ofNat (i+1))) then false else sm p.length i) with
    | true=>exact h2
    | false=>exact Nat.zero_le _
  rw[<-oB];exact Nat.le_trans (key n<|nR_ _) (by rw[Nat.pow_succ,Nat.mul_comm];exact Nat.mul_le_mul_left _ h4)
theorem BL {sm:Nat->Nat->Bool} {n f i:Nat} {p:List Int} (h4:n<=4):(jT sm n f p i).length<=i*4 ^ f:=by
 induction i with
 | zero=>rw[nq];exact Nat.zero_le _
 | succ i ih=>
  have h2:=rv (sm:=sm) h4 f (p++[.ofNat (i+1)]);rw[gK,lA_,Nat.succ_mul];refine Nat.add_le_add ih ?_;cases (bif p.any (fun y=>bM y (.ofNat (i+1))) then false else sm p.length i) with
  | true=>exact h2
  | false=>exact Nat.zero_le _
theorem Na {G:Cx} (hG:Plain G) {k:Nat} {l:List XC} {lv:J} (h4:l.length<=4):∀(f:Nat) (K:KP) (p:List Int) (pv:J) (acc:List (List Int)) (us:List J) (u:J) (O_:Own) (V:N) (L:Own),bG K 2 (gf K k) l lv->bG K 1 cH p pv->p.length+f=l.length->cS 1 28 RV us u O_->Rows K 1 cH acc us->acc.length+4 ^ f<=1000->St V K (O_++L)->
  aW Tryz.prog G 35 [lv,pv,u] V fun v V'=>∃K' us' O',KP.le K K'/\cS 1 28 RV us' v O'/\Rows K' 1 cH (acc++np (KO l) l.length f p) us'/\St V' K' (O'++L):=by
 intro f;induction f using Nat.strongRecOn with
 | _ f ih=>
 intro K p pv acc us u O_ V L hl hp bf hO X ad aq;refine aY hG Tryz.func35 Z (t:=((PT.leaf.put (some (lv)) 0).put (some (pv)) 1).put (some (u)) 2) (by rfl) ?_;refine H ?_;refine ah Z ?_;refine Y Z (ak Z) Z ?_;refine af ?_;refine B ?_;refine H ?_;refine H ?_;refine ah Z ?_;refine Y Z (D Z) Z ?_;refine Y Z (aO hp Z Z Z (e:=3) S Z) Z ?_;refine Y Z (D Z) Z ?_;refine Y Z (aO hl Z Z Z (e:=63) S Z) Z ?_;refine Y Z (aC Z Z Z) Z ?_;refine af ?_;refine B ?_;refine aD Z (fun Q=>?_) (fun Q=>?_)
 ·refine H ?_;refine ah Z ?_;refine Y Z (D Z) Z ?_;refine gw aq Z (bN (e:=3) (m:=1) (z:=[.int .i64 0]) (cs:=[]) S S S S bI) (fun _=>Z) (fun V ao aq=>?_);replace aq:St V _ ([(ao,.row [] 3 false)]++_):=aq;refine Y Z (D Z) Z ?_;refine tD (R:=cH) (m:=1) (e:=3) cS.empty aq hp cH.leaf (by show 0+_<=_;omega) Z Z Z Z Z Z Z (fun _=>Z) (fun V u16 ap hO16 aq=>?_);obtain⟨K2,b,C,aq⟩:=aq.cK (M:=ap);have hs16:=hO16.gS (K:=K2) C;clear C;refine gw aq Z (bN (e:=28) (m:=1) (z:=[.au]) (cs:=[_]) S S S S<|bA Z Z hO16.leaf.1 Z bI) (fun _=>Z) (fun V bi aq=>?_);refine fY (R:=RV) (m:=1) (e:=28) hO aq (ej (m:=1) Z ⟨Z,hO16.leaf⟩) RV.leaf (by rw[X.1];have h9:acc.length<=1000:=Nat.le_trans (Nat.le_add_right _ _) ad;simp only[List.length_cons,List.length_nil];omega) Z Z Z Z Z Z Z (fun _=>Z) (fun V bk av hO18 aq=>?_);refine Y Z (ak Z) Z ?_;refine af ?_;refine B ?_;refine aF ?_;refine ay (?_);have hf:f=0:=by have e:p.length=l.length:=iJ_ (lZ Q);omega
  subst hf;exact aA Z Z ⟨K2,_,av,b,hO18,(X.mono b).snoc (by simpa using hs16),aq⟩
 refine aG ?_;refine B ?_;refine H ?_;refine H ?_;refine ah Z ?_;have hne:p.length≠l.length:=fun e=>by rw[e,ey] at Q;cases Q
 obtain⟨f,rfl⟩:∃f',f=f'+1:=⟨f-1,by omega⟩;have ax:4 ^ (f+1)=4 ^ f*4:=Nat.pow_succ 4 f;refine Y Z (ak Z) Z ?_;refine af ?_;refine B ?_;refine aI ?_;refine a6 [2,7,19,20,21,22,23,24,25,26,27,28,29,30,31,32,33,34,35,36,37,38,39,40,41,42,43,44,45,46,47,48,49,50] (fun j t V=>∃(i:Nat) (K1:KP) (E:List J) (u1:J) (O1:Own),(j+i=l.length/\KP.le K K1/\cS 1 28 RV E u1 O1/\Rows K1 1 cH (acc++jT (KO l) l.length f p i) E)/\t.get 2=some (u1)/\t.get 7=some (.int .i64 (.ofNat (i+1)))/\St V K1 (O1++L)) (l.length) ⟨0,K,us,u,O_,⟨Z,KP.le_refl _,hO,by rw[nq,List.append_nil];exact X⟩,Z,Z,aq⟩ ?_;clear aq;intro j4 t V an hI;obtain⟨i,K1,E,u1,O1,⟨bl,d,hO1,hR1⟩,aa,ab,aq⟩:=hI;replace an:=an.bS Z Z;obtain⟨o2,o7,bm,bo,br,bs,bt,bv,an⟩:=an;replace an:=an.bS Z Z;obtain⟨bw,b0,b1,b2,b3,b4,b5,b6,an⟩:=an;replace an:=an.bS Z Z;obtain⟨b7,b8,b9,ca,cb,cc,ce,cg,an⟩:=an;replace an:=an.bS Z Z;obtain⟨ch,ci,cj,ck,cn,cp,cq,cr,an⟩:=an;replace an:=an.eh Z;obtain⟨cv,an⟩:=an;replace an:=an.eh Z;obtain⟨cw,an⟩:=an;obtain rfl:=an.nil;clear an;replace aa:o2=some _:=aa;subst aa;replace ab:o7=some _:=ab;subst ab;refine H ?_;refine H ?_;refine ah Z ?_;have hl1:=hl.mono d fun _ _ h=>h.mono d;have hp1:=hp.mono d fun _ _ h=>h
 refine Y Z (D Z) Z ?_;refine Y Z (D Z) Z ?_;refine Y Z (aO hl1 Z Z Z (e:=63) S Z) Z ?_;refine Y Z (aC Z Z Z) Z ?_;refine af ?_;refine B ?_;refine aD Z (fun A=>?_) (fun A=>?_)
 ·refine aG ?_;refine B ?_;refine H ?_;refine aI ?_;refine H ?_;refine aU (l:=[(0,[]),(1,[]),(2,[]),(3,[]),(4,[]),(5,[]),(6,[]),(7,[]),(8,[]),(9,[]),(10,[]),(11,[]),(12,[]),(13,[]),(14,[]),(15,[]),(16,[])]) S S ?_;refine aj Z Z (D Z) Z ?_;refine aj Z Z (D Z) Z ?_;refine dZ Z Z (aT Z Z Z S) (fun _=>Z) (Kz hG hp1 _ aq) (fun V aq=>?_);refine⟨aV,?_⟩;refine aj Z Z (dV Z) Z ?_;refine jo Z Z (D Z) (fun _=>Z) (fun T=>?_) (fun T=>?_)
  ·refine aj Z Z (D Z) Z ?_;refine aj Z Z (D Z) Z ?_;refine aj Z Z (aO hp1 Z Z Z (e:=3) S Z) Z ?_;have hil:=ki A;obtain⟨cx,F⟩:=bZ (show p.length<l.length by omega);refine bV (e:=63) (m:=2) hl1 F Z Z Z S S Z Z (fun _=>Z) (fun c0 a4 ai a5 U=>?_);have hr33':=U;obtain⟨c1,rfl,a9⟩:=hr33';refine aj Z Z (bE aq ai Z S Z) Z ?_;refine aj Z Z (D Z) Z ?_;refine aj Z Z (D Z) Z ?_;refine aj Z Z (aC (v:=.int .i64 (.ofNat i)) Z Z<|congrArg (fun z=>some (J.int .i64 z))<|fP oM) Z ?_;obtain⟨c2,I⟩:=bZ (show i<l.length by omega);refine bV (e:=63) (m:=2) hl1 I Z Z Z S S Z Z (fun _=>Z) (fun c3 bb al bd W=>?_);have hr38':=W;obtain⟨c4,rfl,be⟩:=hr38';refine aj Z Z (bE aq al Z S Z) Z ?_;refine dZ Z Z (aT Z Z Z S) (fun _=>Z) (Kx hG aq U W) (fun V aq=>?_);refine⟨aV,?_⟩;refine aj Z Z (aJ Z Z) Z ?_;refine a8 ?_;refine B ?_;refine aD Z (fun ac=>?_) (fun ac=>?_)
   ·refine ah Z ?_;refine Y Z (D Z) Z ?_;refine gw aq Z (bN (e:=3) (m:=1) (z:=[.int .i64 0]) (cs:=[]) S S S S bI) (fun _=>Z) (fun V aE aq=>?_);replace aq:St V _ ([(aE,.row [] 3 false)]++_):=aq;refine Y Z (D Z) Z ?_;refine tD (R:=cH) (m:=1) (e:=3) cS.empty aq hp1 cH.leaf (by show 0+_<=_;omega) Z Z Z Z Z Z Z (fun _=>Z) (fun V c5 c7 hO45 aq=>?_);refine Y Z (D Z) Z ?_;refine gw aq Z (bN (e:=3) (m:=1) (z:=[.int .i64 0]) (cs:=[_]) S S S S<|bA Z Z Z Z bI) (fun _=>Z) (fun V c8 aq=>?_);refine fY (R:=cH) (m:=1) (e:=3) hO45 aq (ej (m:=1) (x:=(.ofNat (i+1):Int)) Z Z) cH.leaf (by simp only[lA_,List.length_cons,List.length_nil];omega) Z Z Z Z Z Z Z (fun _=>Z) (fun V c9 a0 hO48 aq=>?_);obtain⟨K2,b,C,aq⟩:=aq.cK (M:=a0);have hs48:=hO48.gS (K:=K2) C;clear C;refine Y Z (D Z) Z ?_;have hIl:=BL (sm:=KO l) (n:=l.length) (f:=f) (i:=i) (p:=p) h4;have hil:=ki A;refine cR Z (aT Z Z Z S) (fun _=>Z) (ih f (Nat.lt_succ_self f) K2 (p++[.ofNat (i+1)]) _ (acc++jT (KO l) l.length f p i) E u1 O1 _ _ (hl1.mono b fun _ _ h=>h.mono b) (by simpa using hs48) (by simp only[lA_,List.length_cons,List.length_nil];omega) hO1 (hR1.mono b) (EU ad ax hIl oM) aq) ?_;rintro a1 V ⟨K3,a2,O3,am,hO3,hR3,aq⟩;refine Y Z (ak Z) Z ?_;refine af ?_;refine aH ?_;refine B ?_;refine ah Z ?_;refine Y Z (D Z) Z ?_;refine Y Z (aC (v:=.int .i64 (.ofNat (i+1+1))) Z Z<|congrArg (fun z=>some (J.int .i64 z))<|aX (by have:=hl.bK;omega)) Z ?_;refine Y Z (ak Z) Z ?_;refine af ?_;refine aL ⟨j4-1,(by have:=ki A;omega),(by(iterate 68 refine bc.put Z ?_);exact bc.refl _ _),i+1,K3,a2,a1,O3,⟨by have:=ki A;omega,KP.le_trans d<|KP.le_trans b am,hO3,by rw[gK,show(p.any fun y=>bM y (.ofNat (i+1)))=false from bL T,show KO l p.length i=true from by unfold KO;rw[F,I];exact ac];simpa using hR3⟩,Z,Z,aq⟩
   refine aG ?_;refine aH ?_;refine B ?_;refine ah Z ?_;refine Y Z (D Z) Z ?_;refine Y Z (aC (v:=.int .i64 (.ofNat (i+1+1))) Z Z<|congrArg (fun z=>some (J.int .i64 z))<|aX (by have:=hl.bK;omega)) Z ?_;refine Y Z (ak Z) Z ?_;refine af ?_;refine aL ⟨j4-1,(by have:=ki A;omega),(by(iterate 58 refine bc.put Z ?_);exact bc.refl _ _),i+1,K1,E,u1,O1,⟨by have:=ki A;omega,d,hO1,by rw[gK,show(p.any fun y=>bM y (.ofNat (i+1)))=false from bL T,show KO l p.length i=false from by unfold KO;rw[F,I];exact ac];simpa using hR1⟩,Z,Z,aq⟩
  refine aB Z Z Z ?_;refine aB Z Z Z ?_;refine aB Z Z Z ?_;refine aB Z Z Z ?_;refine aB Z Z Z ?_;refine aB Z Z Z ?_;refine aB Z Z Z ?_;refine aB Z Z Z ?_;refine aB Z Z Z ?_;refine aB Z Z Z ?_;refine aB Z Z Z ?_;refine aj Z Z (aJ Z Z) Z ?_;refine a8 ?_;refine B ?_;refine bz Z ?_;refine aG ?_;refine aH ?_;refine B ?_;refine ah Z ?_;refine Y Z (D Z) Z ?_;refine Y Z (aC (v:=.int .i64 (.ofNat (i+1+1))) Z Z<|congrArg (fun z=>some (J.int .i64 z))<|aX (by have:=hl.bK;omega)) Z ?_;refine Y Z (ak Z) Z ?_;refine af ?_;refine aL ⟨j4-1,(by have:=ki A;omega),(by(iterate 58 refine bc.put Z ?_);exact bc.refl _ _),i+1,K1,E,u1,O1,⟨by have:=ki A;omega,d,hO1,by rw[gK,show(p.any fun y=>bM y (.ofNat (i+1)))=true from a7 T];simpa using hR1⟩,Z,Z,aq⟩
 refine ba ?_;refine aP ?_;refine aR ?_;refine aM ?_;refine B ?_;refine H ?_;refine ah Z ?_;refine Y Z (D Z) Z ?_;refine Y Z (ak Z) Z ?_;refine af ?_;refine B ?_;refine aF ?_;have hil:=Js A;have a3:i=l.length:=by omega
 subst a3;exact aA Z Z ⟨K1,E,O1,d,hO1,by rw[<-oB];exact hR1,aq⟩
def dP (l:List XC):List (List Int):=if 4<l.length then [] else np (KO l) l.length l.length []
def rH (l:List XC):Int:=if 4<l.length then 3 else 0
theorem AG {G:Cx} (C:Plain G) {K:KP} {k:Nat} {l:List XC} {lv:J} (hl:bG K 2 (gf K k) l lv) {V:N} {L:Own} (aq:St V K L):
  aW Tryz.prog G 10 [lv] V fun v V'=>∃K' u,v= .tuple [u,.int .i64<|rH l]/\KP.le K K'/\bG K' 1 (RL K' 1 cH) (dP l) u/\St V' K' L:=by
 refine aY C Tryz.func10 Z (t:=PT.leaf.put (some (lv)) 0) (by rfl) ?_;refine H ?_;refine ah Z ?_;refine Y Z (ak Z) Z ?_;refine Y Z (ak Z) Z ?_;refine af ?_;refine B ?_;refine H ?_;refine H ?_;refine ah Z ?_;refine Y Z (D Z) Z ?_;refine Y Z (aO hl Z Z Z (e:=63) S Z) Z ?_;refine Y Z (aC Z Z Z) Z ?_;refine af ?_;refine B ?_;refine aD Z (fun A=>?_) (fun A=>?_)
 ·refine H ?_;refine ah Z ?_;refine Y Z (ak Z) Z ?_;refine Y Z (ak Z) Z ?_;refine af ?_;refine B ?_;refine aF ?_;refine ay (?_);have h4:=aS (a:=4) A;exact⟨.inr Z,_,eA Z Z Z,K,.au,by unfold rH;rw[if_pos h4],KP.le_refl _,by unfold dP;rw[if_pos h4];exact .inl ⟨Z,Z⟩,aq⟩
 refine aG ?_;refine B ?_;refine H ?_;refine ah Z ?_;refine Y Z (D Z) Z ?_;have h4:l.length<=4:=bC (a:=4) A;refine cR Z (aT Z Z Z S) (fun _=>Z) (Na C h4 l.length K [] .au [] [] .au [] _ _ hl (.inl ⟨Z,Z⟩) (by simp) (.inl ⟨Z,Z,Z⟩) ⟨Z,fun i r E=>by simp at E⟩ (Nat.le_trans (Nat.add_le_add_left (Nat.pow_le_pow_right oM h4) _) (by decide)) aq) ?_;rintro u8 V ⟨K1,aa,F,m,hO1,hR1,aq⟩;obtain⟨I,b,d,aq⟩:=aq.cK (M:=F);have hs8:=pe (hR1.mono b) hO1 d;clear d;refine Y Z (ak Z) Z ?_;refine Y Z (ak Z) Z ?_;refine af ?_;refine B ?_;refine aF ?_;exact⟨.inr Z,_,eA Z Z Z,I,_,by unfold rH;rw[if_neg oM],KP.le_trans m b,by unfold dP;rw[if_neg oM];simpa using hs8,aq⟩
def Hk (l:List XC):List (List Int):=if 4<l.length then [] else fe l
theorem H2 {G:Cx} (hG:Plain G) {K:KP} {k:Nat} {l:List XC} {lv:J} (hl:bG K 2 (gf K k) l lv) {V:N} {L:Own} (aq:St V K L):
  aW Tryz.prog G 15 [lv] V fun v V'=>∃K',KP.le K K'/\bG K' 1 (RL K' 1 cH) (Hk l) v/\St V' K' L:=by
 refine aY hG Tryz.func15 Z (t:=PT.leaf.put (some (lv)) 0) (by rfl) ?_;refine H ?_;refine ah Z ?_;refine Y Z (ak Z) Z ?_;refine af ?_;refine B ?_;refine H ?_;refine H ?_;refine ah Z ?_;refine Y Z (D Z) Z ?_;refine Y Z (aO hl Z Z Z (e:=63) S Z) Z ?_;refine Y Z (aC Z Z Z) Z ?_;refine af ?_;refine B ?_;refine aD Z (fun h9=>?_) (fun h9=>?_)
 ·refine H ?_;refine ah Z ?_;refine Y Z (ak Z) Z ?_;refine af ?_;refine B ?_;refine aF ?_;refine ay (?_);have h4:=aS (a:=4) h9;exact aA Z Z ⟨K,KP.le_refl _,by unfold Hk;rw[if_pos h4];exact .inl ⟨Z,Z⟩,aq⟩
 refine aG ?_;refine B ?_;refine H ?_;refine ah Z ?_;refine Y Z (ak Z) Z ?_;refine af ?_;refine B ?_;refine H ?_;refine H ?_;refine ah Z ?_;have h4:l.length<=4:=bC (a:=4) h9;refine Y Z (ak Z) Z ?_;refine af ?_;refine B ?_;refine aI ?_;refine a6 [3,4,5,6,10,11,12,13,14,15,16,17,18,19,20,21,22,23,24,25,26,27,28,29,30,31,32,33,34,35,36,37,38,39,40,41,42,43,44,45,46,47,48,49,50,51,52,53,54,55,56,57,58,59] (fun j t V=>∃(i:Nat) (u:J) (us:List J) (O1 I1:Own),(j+i=l.length/\cS 1 28 RV us u O1/\eI 1 3 cH (eC l i) us I1)/\t.get 3=some (u)/\t.get 4=some (.int .i64 (.ofNat i))/\St V K ((O1++I1)++L)) (l.length) ⟨0,.au,[],[],[],⟨Z,.inl ⟨Z,Z,Z⟩,.nil⟩,Z,Z,aq⟩ ?_;clear aq;intro j5 t V an hI;obtain⟨i,u,us,O1,I1,⟨dr,hO,hI⟩,ab,ac,aq⟩:=hI;replace an:=an.bS Z Z;obtain⟨o3,o4,o5,o6,ds,dx,dT,d0,an⟩:=an;replace an:=an.bS Z Z;obtain⟨d1,d2,bb,bd,be,bf,bi,bk,an⟩:=an;replace an:=an.bS Z Z;obtain⟨bl,bm,br,bs,bt,bv,bw,b0,an⟩:=an;replace an:=an.bS Z Z;obtain⟨b1,b2,b3,b4,b5,b6,b7,b9,an⟩:=an;replace an:=an.bS Z Z;obtain⟨ca,cb,cc,ce,cg,ch,ci,cj,an⟩:=an;replace an:=an.bS Z Z;obtain⟨ck,cn,cp,cq,cr,cv,d3,d4,an⟩:=an;replace an:=an.mQ Z;obtain⟨d5,d6,d7,d8,an⟩:=an;replace an:=an.eh Z;obtain⟨d9,an⟩:=an;replace an:=an.eh Z;obtain⟨ee,an⟩:=an;obtain rfl:=an.nil;clear an;replace ab:o3=some _:=ab;subst ab;replace ac:o4=some _:=ac;subst ac;refine H ?_;refine H ?_;refine ah Z ?_;refine Y Z (D Z) Z ?_;refine Y Z (D Z) Z ?_;refine Y Z (aO hl Z Z Z (e:=63) S Z) Z ?_;refine Y Z (aC Z Z Z) Z ?_;refine af ?_;refine B ?_;refine aD Z (fun b=>?_) (fun b=>?_)
 ·refine aG ?_;refine B ?_;refine H ?_;refine aI ?_;refine H ?_;refine ah Z ?_;refine Y Z (ak Z) Z ?_;refine af ?_;refine B ?_;refine H ?_;refine H ?_;refine ah Z ?_;refine Y Z (ak Z) Z ?_;refine af ?_;refine B ?_;refine aI ?_;refine a6 [5,6,16,17,18,19,20,21,22,23,24,25,26,27,28,29,30,31,32,33,34,35,36,37,38,39,40,41,42,43,44,45,46,47,48,49,50,51] (fun j t V=>∃(q:Nat) (dn:Bool) (d:List J) (U I2:Own),(j+q=(eC l i).length+1/\cS 1 28 RV d u U/\eI 1 3 cH (bif dn then eC l (i+1) else eC l i) d I2/\d.length=(eC l i).length/\(dn=false->fx (gn l i) (eC l i) 0=fx (gn l i) ((eC l i).drop q) q))/\t.get 5=some (.bool dn)/\t.get 6=some (.int .i64 (.ofNat q))/\St V K ((U++I2)++L)) ((eC l i).length+1) ⟨0,false,us,O1,I1,⟨Z,hO,hI,hI.length,fun _=>Z⟩,Z,Z,aq⟩ ?_;clear aq;intro j9 t V an hI;obtain⟨q,dn,d,U,I2,⟨ef,hO2,hI2,I,he⟩,ad,ai,aq⟩:=hI;replace an:=an.bS Z Z;obtain⟨o5,o6,bb,bd,be,bf,bi,bk,an⟩:=an;replace an:=an.bS Z Z;obtain⟨bl,bm,br,bs,bt,bv,bw,b0,an⟩:=an;replace an:=an.bS Z Z;obtain⟨b1,b2,b3,b4,b5,b6,b7,b9,an⟩:=an;replace an:=an.bS Z Z;obtain⟨ca,cb,cc,ce,cg,ch,ci,cj,an⟩:=an;replace an:=an.mQ Z;obtain⟨ck,cn,cp,cq,an⟩:=an;replace an:=an.eh Z;obtain⟨cr,an⟩:=an;replace an:=an.eh Z;obtain⟨cv,an⟩:=an;obtain rfl:=an.nil;clear an;replace ad:o5=some _:=ad;subst ad;replace ai:o6=some _:=ai;subst ai;refine H ?_;refine H ?_;refine ah Z ?_;refine Y Z (D Z) Z ?_;refine Y Z (D Z) Z ?_;refine Y Z (Lz hO2 Z Z Z (e:=28) S Z) Z ?_;refine Y Z (aC Z Z Z) Z ?_;refine bx Z (D Z) (fun _=>Z) (fun Q=>?_) (fun Q=>?_)
  ·refine Y Z (D Z) Z ?_;refine Y Z (dV Z) Z ?_;refine Y Z (aJ Z Z) Z ?_;refine af ?_;refine B ?_;refine aD Z (fun al=>?_) (fun al=>?_)
   ·refine aG ?_;refine B ?_;refine H ?_;refine aI ?_;refine H ?_;refine aU (l:=[(0,[]),(1,[]),(2,[]),(3,[]),(4,[]),(5,[]),(6,[]),(7,[]),(8,[]),(9,[]),(10,[]),(11,[]),(12,[]),(13,[]),(14,[])]) S S ?_;have C:dn=false:=bL al;subst C;have hI3:eI 1 3 cH (eC l i) d I2:=hI2;have hlt:=aS Q;rw[I] at hlt;obtain⟨cl,E⟩:=bZ hlt;have hil:=aS b;have hst0:=aq;have hrl:=tN (K:=K.ml (U++I2)) hI3 hO2 (fun e he=>.inr (List.mem_append_right _ he)) (fun e he=>.inr (List.mem_append_left _ he));have hle3:=KP.dX K (U++I2);replace aq:=aq.keeps;have hl3:=hl.mono hle3 fun _ _ h=>h.mono hle3
    obtain⟨hne,h,c,hh,h0,am,_⟩:=(ll (l:=l) (t:=i) oM).all cl (gB_ E);refine aj Z Z (D Z) Z ?_;refine aj Z Z (D Z) Z ?_;refine aj Z Z (D Z) Z ?_;refine bV (e:=28) (m:=1) hrl E Z Z Z S S Z Z (fun _=>Z) (fun eg c3 av c4 ax=>?_);have hr29':=ax;obtain⟨el,rfl,aE⟩:=hr29';refine aj Z Z (aN aq av Z S Z) Z ?_;refine bV (e:=3) (m:=1) aE h0 Z Z Z S S Z Z (fun _=>Z) (fun em c5 a0 c7 a1=>?_);obtain rfl:=a1;refine aj Z Z (aN aq a0 Z S Z) Z ?_;refine aj Z Z (aC (v:=.int .i64 (.ofNat h)) Z Z<|congrArg (fun z=>some (J.int .i64 z))<|fP oM) Z ?_;refine bV (e:=63) (m:=2) hl3 am Z Z Z S S Z Z (fun _=>Z) (fun en c8 a2 c9 W=>?_);have hr34':=W;obtain⟨er,rfl,dd⟩:=hr34';refine aj Z Z (bE aq a2 Z S Z) Z ?_;refine aj Z Z (D Z) Z ?_;refine aj Z Z (D Z) Z ?_;obtain⟨x38,T,df⟩:=cL b;refine bV (e:=63) (m:=2) hl3 T Z Z Z S S Z Z (fun _=>Z) (fun es dk a3 dl aa=>?_);have hr38':=aa;obtain⟨et,rfl,dm⟩:=hr38';refine aj Z Z (bE aq a3 Z S Z) Z ?_;refine dZ Z Z (aT Z Z Z S) (fun _=>Z) (Kx hG aq W aa) (fun V aq=>?_);refine⟨aV,?_⟩;refine a8 ?_;refine B ?_;refine aD Z (fun ao=>?_) (fun ao=>?_)
    ·refine H ?_;refine ah Z ?_;have ap:gn l i cl=bW c x38:=wG h0 am T;replace aq:=St.vu hst0 aq;have hq:fx (gn l i) (eC l i) 0= .ofNat q:=by rw[he Z,cz E];show(bif gn l i cl then _ else _)=_;rw[ap,ao];rfl
     obtain⟨bo,co,eo,rfl,rfl,cw,cx⟩:=nF hO2 (fun e=>by rw[e] at I;simp at I;omega);obtain⟨ut,Mt,A,B_,a4,c0,c1,a5⟩:=hI3.at E;subst c1;have hlt2:=(gA.1 a4).1;replace aq:St V K ((bo,.row d eo false)::((A++(Mt++B_))++L)):=aq;refine Y Z (D Z) Z ?_;refine Y Z (D Z) Z ?_;refine Y Z (D Z) Z ?_;refine Y Z (D Z) Z ?_;refine Y Z (iY (e:=28) (m:=1) Z S Z Z hlt2) Z ?_;refine Y Z (aw Z (aq.get 0 Z) S (by rw[eU,show 0+q*1=q from by omega];exact a4)) Z ?_;refine Y Z (D Z) Z ?_;refine Y Z (aC (v:=.int .i64 (.ofNat (i+1))) Z Z<|congrArg (fun z=>some (J.int .i64 z))<|aX (by have:=hl.bK;omega)) Z ?_;replace aq:=aq.pull (X:=Mt) (.there .yO);refine gw aq Z (bN (e:=3) (m:=1) (z:=[.int .i64 0]) (cs:=[_]) S S S S<|bA Z Z Z Z bI) (fun _=>Z) (fun V b8 aq=>?_);refine fY (R:=cH) (m:=1) (e:=3) c0 aq (ej (m:=1) Z Z) cH.leaf (by have:=sZ (l:=l) (t:=i) _ (gB_ E);have:=hl.bK;simp;omega) Z Z Z Z Z Z Z (fun _=>Z) (fun V u9 M9 hO9 aq=>?_);replace aq:=aq.push (X:=M9) (L:=(bo,.row d eo false)::((A++(M9++B_))++L)) (.there .yO);refine Y Z (iY (e:=28) (m:=1) Z S Z Z hlt2) Z ?_;refine gj aq .here Z (kx Z Z hO9.leaf.1 (aq.get 0 Z) (m:=1) S Z oM<|ar hO9.leaf.2 Z) Z (fun V aq=>?_);rw[iK hlt2] at aq;have hI5:=a5 _ _ _ hO9;rw[<-FJ hq E] at hI5;have hO5:cS 1 28 RV (d.set q u9) (.slice bo 0 d.length co) [(bo,.row (d.set q u9) eo false)]:=vr List.length_set cw cx hI5.NW;refine af ?_;refine B ?_;refine ah Z ?_;refine Y Z (ak Z) Z ?_;refine af ?_;refine aH ?_;refine B ?_;refine ah Z ?_;refine Y Z (D Z) Z ?_;refine Y Z (aC (v:=.int .i64 (.ofNat (q+1))) Z Z (congrArg (fun z=>some (J.int .i64 z)) (aX (by have:=hl.bK;have:=(ll (l:=l) (t:=i) (by have:=aS b;omega)).len;have:=aS b;omega)))) Z ?_;refine Y Z (ak Z) Z ?_;refine af ?_;refine aL ⟨j9-1,(by have:=aS Q;omega),(by(iterate 76 refine bc.put Z ?_);exact bc.refl _ _),q+1,true,d.set q u9,_,_,⟨by omega,hO5,hI5,by rw[List.length_set];exact I,fun h=>by cases h⟩,Z,Z,aq⟩
    refine aG ?_;refine aH ?_;refine B ?_;refine ah Z ?_;have ap:gn l i cl=bW c x38:=wG h0 am T;replace aq:=St.vu hst0 aq;refine Y Z (D Z) Z ?_;refine Y Z (aC (v:=.int .i64 (.ofNat (q+1))) Z Z (congrArg (fun z=>some (J.int .i64 z)) (aX (by have:=hl.bK;have:=(ll (l:=l) (t:=i) (by have:=aS b;omega)).len;have:=aS b;omega)))) Z ?_;refine Y Z (ak Z) Z ?_;refine af ?_;refine aL ⟨j9-1,(by have:=aS Q;omega),(by(iterate 64 refine bc.put Z ?_);exact bc.refl _ _),q+1,false,d,U,I2,⟨by omega,hO2,hI3,I,fun _=>by rw[he Z,cz E];show(bif gn l i cl then _ else _)=_;rw[ap,ao];rfl⟩,Z,Z,aq⟩
   refine ba ?_;refine aP ?_;refine aR ?_;refine aM ?_;refine B ?_;refine H ?_;refine ah Z ?_;refine Y Z (D Z) Z ?_;refine Y Z (dV Z) Z ?_;refine af ?_;refine B ?_;refine aD Z (fun F=>?_) (fun F=>?_)
   ·exact absurd ((a7 al).symm.trans<|bL F) (by decide)
   refine aG ?_;refine aH ?_;refine B ?_;refine ah Z ?_;refine Y Z (D Z) Z ?_;refine Y Z (aC (v:=.int .i64 (.ofNat (i+1))) Z Z<|congrArg (fun z=>some (J.int .i64 z))<|aX (by have:=hl.bK;have:=aS b;omega)) Z ?_;refine Y Z (ak Z) Z ?_;refine af ?_;refine aL ⟨j5-1,(by have:=aS b;omega),(by(iterate 111 refine bc.put Z ?_);exact bc.refl _ _),i+1,_,_,_,_,⟨by have:=aS b;omega,hO2,by have C:dn=true:=a7 F;subst C;exact hI2⟩,Z,Z,aq⟩
  refine ae Z Z ?_;refine ae Z Z ?_;refine Y Z (aJ Z Z) Z ?_;refine af ?_;refine B ?_;refine bz Z ?_;refine ba ?_;refine aP ?_;refine aR ?_;refine aM ?_;refine B ?_;refine H ?_;refine ah Z ?_;refine Y Z (D Z) Z ?_;refine Y Z (dV Z) Z ?_;refine af ?_;refine B ?_;refine aD Z (fun F=>?_) (fun F=>?_)
  ·refine ah Z ?_;have C:dn=false:=bL F;subst C;have hI3:eI 1 3 cH (eC l i) d I2:=hI2;have hkl:=bC Q;rw[I] at hkl;have hil:=aS b;have a9:eC l (i+1)=eC l i++[[.ofNat (i+1)]]:=BH (by rw[he Z,ff hkl];rfl);refine Y Z (D Z) Z ?_;refine Y Z (D Z) Z ?_;refine Y Z (aC (v:=.int .i64 (.ofNat (i+1))) Z Z<|congrArg (fun z=>some (J.int .i64 z))<|aX (by have:=hl.bK;omega)) Z ?_;replace aq:St V K (U++(I2++L)):=by rw[<-lQ_];exact aq
   refine gw aq Z (bN (e:=3) (m:=1) (z:=[.int .i64 0]) (cs:=[_]) S S S S<|bA Z Z Z Z bI) (fun _=>Z) (fun V M aq=>?_);have hO38:cS 1 3 cH [Int.ofNat (i+1)] (.slice M 0 1 (.known 1)) [(M,.row [.int .i64 (.ofNat (i+1))] 3 false)]:=Gi;replace aq:St V K (U++(((M,.row [.int .i64 (.ofNat (i+1))] 3 false)::I2)++L)):=aq.perm (by exact List.perm_middle.symm);refine gw aq Z (bN (e:=28) (m:=1) (z:=[.au]) (cs:=[_]) S S S S<|bA Z Z Z Z bI) (fun _=>Z) (fun V ev aq=>?_);refine fY (R:=RV) (m:=1) (e:=28) hO2 aq (ej (m:=1) Z ⟨Z,Z,Z⟩) RV.leaf (by have:=(ll (l:=l) (t:=i) oM).len;have:=hl.bK;simp;omega) Z Z Z Z Z Z Z (fun _=>Z) (fun V ex c2 hO40 aq=>?_);have hI6:eI 1 3 cH (eC l (i+1)) (d++[.slice M 0 1 (.known 1)]) ((M,.row [.int .i64 (.ofNat (i+1))] 3 false)::I2):=by rw[a9];exact .snoc hI3 hO38
   replace aq:St V K ((c2++((M,.row [.int .i64 (.ofNat (i+1))] 3 false)::I2))++L):=by rw[lQ_];exact aq
   refine Y Z (ak Z) Z ?_;refine af ?_;refine aH ?_;refine B ?_;refine ah Z ?_;refine Y Z (D Z) Z ?_;refine Y Z (aC (v:=.int .i64 (.ofNat (i+1))) Z Z<|congrArg (fun z=>some (J.int .i64 z))<|aX (by have:=hl.bK;have:=aS b;omega)) Z ?_;refine Y Z (ak Z) Z ?_;refine af ?_;refine aL ⟨j5-1,(by have:=aS b;omega),(by(iterate 118 refine bc.put Z ?_);exact bc.refl _ _),i+1,_,_,_,_,⟨by have:=aS b;omega,hO40,hI6⟩,Z,Z,aq⟩
  refine aG ?_;refine aH ?_;refine B ?_;refine ah Z ?_;refine Y Z (D Z) Z ?_;refine Y Z (aC (v:=.int .i64 (.ofNat (i+1))) Z Z<|congrArg (fun z=>some (J.int .i64 z))<|aX (by have:=hl.bK;have:=aS b;omega)) Z ?_;refine Y Z (ak Z) Z ?_;refine af ?_;refine aL ⟨j5-1,(by have:=aS b;omega),(by(iterate 111 refine bc.put Z ?_);exact bc.refl _ _),i+1,_,_,_,_,⟨by have:=aS b;omega,hO2,by have C:dn=true:=a7 F;subst C;exact hI2⟩,Z,Z,aq⟩
 refine ba ?_;refine aP ?_;refine aR ?_;refine aM ?_;refine B ?_;refine H ?_;refine ah Z ?_;refine Y Z (D Z) Z ?_;refine Y Z (ak Z) Z ?_;refine af ?_;refine B ?_;refine aF ?_;have hil:=bC b;exact aA Z Z ⟨K.ml (O1++I1),KP.dX _ _,by unfold Hk fe;rw[if_neg oM,<-show i=l.length by omega];exact tN hI hO (fun e he=>.inr (List.mem_append_right _ he)) (fun e he=>.inr (List.mem_append_left _ he)),aq.keeps⟩
theorem Fp {G:Cx} (A:Plain G) {K:KP} {k:Nat} {l:List XC} {lv:J} (hl:bG K 2 (gf K k) l lv) {V:N} {L:Own} (aq:St V K L):
  aW Tryz.prog G 14 [lv] V fun v V'=>∃K',KP.le K K'/\bG K' 1 (RL K' 1 cH) (Hk l) v/\St V' K' L:=by
 by_cases h4:l.length<=4
 ·refine(zq A hl h4 aq).mono fun v V' h=>?_
  obtain⟨us,E,F,hO,I,aq⟩:=h;exact⟨K.ml (E++F),KP.dX _ _,by unfold Hk;rw[if_neg oM];exact tN I hO (fun e he=>.inr (List.mem_append_right _ he)) (fun e he=>.inr (List.mem_append_left _ he)),aq.keeps⟩
 refine aY A Tryz.func14 Z (t:=PT.leaf.put (some (lv)) 0) (by rfl) ?_;refine H ?_;refine ah Z ?_;refine bJ aq Z (cG Z hl.leaf.1) (fun _=>Z) (fun V Q aq=>?_);obtain⟨C,b,d,aq⟩:=aq.cK (M:=[_]);have u:dz C (.ptr Q 0) [lv]:=.one (d _ (.head _));clear d;replace hl:=hl.mono b fun _ _ h=>h.mono b
 refine Y Z (ak Z) Z ?_;refine af ?_;refine B ?_;refine H ?_;refine H ?_;refine ah Z ?_;refine Y Z (aN aq u Z S Z) Z ?_;refine Y Z (aO hl Z Z Z (e:=63) S Z) Z ?_;refine Y Z (aC Z Z Z) Z ?_;refine af ?_;refine B ?_;refine aD Z (fun m=>?_) (fun m=>?_)
 ·refine H ?_;refine ah Z ?_;refine Y Z (ak Z) Z ?_;refine af ?_;refine B ?_;refine aF ?_;refine ay (?_);exact aA Z Z ⟨C,b,by unfold Hk;rw[if_pos<|aS (a:=4) m];exact .inl ⟨Z,Z⟩,aq⟩
 exact absurd (bC (a:=4) m) h4
end Go.Ev
namespace Go.Ev
variable [Env]
def kK (n:Nat) (ps:List Int):Prop:=gQ (List.replicate (n+1) 0) n ps
theorem Gm {n:Nat} {ps:List Int} (hl:ps.length=n) (b:ps.Nodup) (h:∀x∈ps,∃v:Nat,v<n/\x= .ofNat (v+1)):kK n ps:=⟨hl,b,fun i x hx=>by
 obtain⟨v,hv,rfl⟩:=h x (gB_ hx);have:=(gA.1 hx).1;exact⟨v,Z,hv,by rw[List.getElem?_replicate,List.getElem?_replicate,if_pos oM,if_pos oM]⟩⟩
theorem s8 {a b:Int} (h:bM a b=true):a=b:=by rw[dv] at h;exact of_decide_eq_true h
theorem ML {n:Nat} {ps:List Int} (hl:ps.length=n) (h:∀i,i<n->(ps.any fun y=>bM (.ofNat (i+1)) y)=true):kK n ps:=by
 have hq:∀v,∃i:Nat,v<n->i<n/\ps[i]? =some (.ofNat (v+1)):=fun v=>by
  by_cases hv:v<n
  ·obtain⟨y,hy,he⟩:=List.any_eq_true.1 (h v hv);have he:=s8 he;subst he;obtain⟨i,hi⟩:=gO_ hy;exact⟨i,fun _=>⟨by have:=(gA.1 hi).1;omega,hi⟩⟩
  exact⟨0,fun h=>absurd h hv⟩
 let q:Nat->Nat:=fun v=>Classical.choose (hq v)
 have d:∀v,v<n->q v<n/\ps[q v]? =some (.ofNat (v+1)):=fun v=>Classical.choose_spec (hq v)
 have u:∀a b,a<n->b<n->q a=q b->a=b:=fun a b A hb e=>by
  have h1:=(d a A).2;have h2:=(d b hb).2;rw[e,h2] at h1;have:=iJ_ (Option.some.inj h1);omega
 have C:∀i,i<n->∃v,v<n/\q v=i:=fun i hi=>by
  have:=IL (l:=(List.range n).map q) (n:=n) (List.pairwise_map.2<|List.nodup_range.imp_of_mem fun {a b} A hb hne e=>hne (u a b (List.mem_range.1 A) (List.mem_range.1 hb) e))
   (fun x hx=>by
    obtain⟨i,hi,rfl⟩:=List.mem_map.1 hx;exact(d i<|List.mem_range.1 hi).1) (by simp) hi
  obtain⟨v,hv,e⟩:=List.mem_map.1 this;exact⟨v,List.mem_range.1 hv,e⟩
 have m:∀(i:Nat) (x:Int),ps[i]? =some x->∃v,v<n/\q v=i/\x= .ofNat (v+1):=fun i x hx=>by
  obtain⟨v,hv,e⟩:=C i (by have:=(gA.1 hx).1;omega);have h1:=(d v hv).2;rw[e,hx] at h1;exact⟨v,hv,e,Option.some.inj h1⟩
 refine Gm hl ?_ (fun x hx=>?_)
 ·refine List.pairwise_iff_getElem.2 fun i j hi hj aa e=>?_
  obtain⟨v,hv,e1,e2⟩:=m i _ (gC hi);obtain⟨w,hw,e3,E⟩:=m j _ (gC hj);rw[e2,E] at e;have:=iJ_ e;have:v=w:=by omega
  subst this;omega
 obtain⟨i,hi⟩:=gO_ hx;obtain⟨v,hv,_,e⟩:=m i x hi;exact⟨v,hv,e⟩
theorem Km {n:Nat} {ps:List Int} (hl:ps.length=n) (h:∀(i:Nat) (x:Int),ps[i]? =some x->(∃v:Nat,v<n/\x= .ofNat (v+1))/\(ps.take i).any (fun y=>bM y x)=false):kK n ps:=by
 refine Gm hl ?_ (fun x hx=>?_)
 ·refine List.pairwise_iff_getElem.2 fun i j hi hj b e=>?_
  have h1:=(h j _<|gC hj).2;rw[<-e] at h1;have d:ps[i]∈ps.take j:=gB_ (i:=i) (by rw[List.getElem?_take,if_pos b];exact gC hi);have h3:=List.any_eq_false.1 h1 _ d;exact h3<|ey _
 obtain⟨i,hi⟩:=gO_ hx;exact(h i x hi).1
theorem kK.fresh {n:Nat} {ps:List Int} (h:kK n ps) {i:Nat} {x:Int} (hx:ps[i]? =some x):(∃v:Nat,v<n/\x= .ofNat (v+1))/\(ps.take i).any (fun y=>bM y x)=false:=by
 obtain⟨v,h1,b,_⟩:=h.at_ i x hx;refine⟨⟨v,b,h1⟩,?_⟩;cases hc:(ps.take i).any (fun y=>bM y x) with
 | false=>rfl
 | true=>
  obtain⟨y,hy,he⟩:=List.any_eq_true.1 hc;obtain rfl:=s8 he;obtain⟨k,hk⟩:=gO_ hy;rw[List.getElem?_take] at hk;split at hk
  ·rename_i aa;have:=(List.getElem?_inj (gA.1 hk).1 h.nd).1 (hk.trans hx.symm);omega
  cases hk
theorem F5 {α:Type} {p:α->Bool}:∀{l:List α} {i:Nat},dy (fx p l i) 0=true->∀x∈l,p x=false
 | [],_,_=>fun x h=>by cases h
 | x::l,i,h=>by
  unfold fx at h;cases hx:p x with
  | true=>
   rw[hx] at h;rw[eM] at h;have h1:(Int.ofNat i)<0:=of_decide_eq_true h;have h0:(Int.ofNat i)≥0:=Int.natCast_nonneg i;omega
  | false=>
   rw[hx] at h;intro y hy;rcases mQ_.1 hy with rfl | hy
   ·exact hx
   exact F5 h y hy
def F3 (l:List XC) (cl:List Int):Option XC:=l[((cl[0]?).getD 0).toNat-1]?
theorem Jw {l:List XC} {t v:Nat} {cl:List Int} (h:IC l t cl) (hv:Int.ofNat (v+1)∈cl):F3 l cl=l[v]?:=by
 obtain⟨_,hh,c,_,d,m,u⟩:=h;obtain⟨w,_,e,A⟩:=u _ hv;have b:v=w:=by have:=iJ_ e;omega
 subst b;unfold F3;rw[d];show l[hh+1-1]? =_;rw[Nat.add_sub_cancel,m,A]
theorem yr {l:List XC}:∀{t:Nat},t<=l.length->((eC l t).map<|F3 l).Nodup
 | 0,_=>List.nodup_nil
 | t+1,ht=>by
  have ih:=yr (l:=l) (t:=t) oM;have hok:=ll (l:=l) (t:=t) oM;obtain⟨c,hc⟩:=bZ (show t<l.length by omega);show((vN l (eC l t) t).map<|F3 l).Nodup;unfold vN;cases hi:dy (fx (gn l t) (eC l t) 0) 0 with
  | true=>
   simp only[cond_true];rw[List.map_append];refine List.nodup_append.2 ⟨ih,by simp,fun a A b hb e=>?_⟩;subst e;obtain⟨cl,d,e⟩:=List.mem_map.1 A;have hn:=F5 hi cl d
   have hb:a=l[t]?:=by
    have:a∈[l[t]?]:=hb;exact List.mem_singleton.1 this
   obtain⟨_,hh,c',_,m,h7,_⟩:=hok.all cl d;unfold gn at hn;unfold F3 at e;rw[m] at hn e;have e:l[hh+1-1]? =a:=e;have hn:(match l[hh+1-1]?,l[t]? with | some a,some b=>bW a b | _,_=>false)=false:=hn;rw[e,hb,hc] at hn;have hn:bW c c=false:=hn;rw[bR.2 Z] at hn;cases hn
  | false=>
   obtain⟨j,cl,h1,u,h3⟩:=pV hi;rw[nA_] at h1;simp only[cond_false];rw[h1];show(((eC l t).set j (((eC l t)[j]?).getD []++[.ofNat (t+1)])).map<|F3 l).Nodup;rw[u];have hne:=(hok.all cl<|gB_ u).ne
   have he:F3 l (cl++[Int.ofNat (t+1)])=F3 l cl:=by
    cases cl with
    | nil=>exact absurd Z hne
    | cons x r=>rfl
   rw[List.map_set];show(((eC l t).map<|F3 l).set j<|F3 l (cl++[Int.ofNat (t+1)])).Nodup;rw[he];have h4:((eC l t).map<|F3 l)[j]? =some (F3 l cl):=by rw[gM_,u];rfl
   obtain⟨h5,m⟩:=gA.1 h4;rw[<-m,List.set_getElem_self];exact ih
theorem Hg {l:List XC} {a b:Nat} (E:a<l.length) (hb:b<l.length) (h:l[a]? =l[b]?):(jy l)[a+1]? =(jy l)[b+1]?:=by
 have hok:=ll (l:=l) (nR_ _)
 have d:∀cl∈eC l l.length,∀x∈cl,∃w:Nat,x= .ofNat w:=fun cl m x hx=>by
  obtain⟨_,hh,c,_,_,_,F⟩:=hok.all cl m;obtain⟨v,_,e,_⟩:=F x hx;exact⟨v+1,e⟩
 have key:∀v,v<l.length->∃j cl,(eC l l.length)[j]? =some cl/\Int.ofNat (v+1)∈cl/\(jy l)[v+1]? =some (.ofNat j):=fun v hv=>by
  rcases xd (v:=v+1) (s:=fe l) (i:=0) (a:=List.replicate (l.length+1) 0) (by rw[List.length_replicate];omega) d with ⟨j,cl,u,G,I⟩ | ⟨u,_⟩
  ·exact⟨j,cl,u,G,by rw[<-nA_ j];exact I⟩
  obtain⟨cl,h1,K⟩:=hok.Ra v hv;exact absurd K<|u cl h1
 obtain⟨i,ci,A,L,M⟩:=key a E;obtain⟨j,cj,C,Q,R⟩:=key b hb;have e1:=Jw (hok.all ci<|gB_ A) L;have e2:=Jw (hok.all cj<|gB_ C) Q;have hnd:=yr (l:=l) (nR_ _);have m1:((eC l l.length).map<|F3 l)[i]? =some l[a]?:=by rw[gM_,A,<-e1];rfl
 have m2:((eC l l.length).map<|F3 l)[j]? =some l[a]?:=by rw[gM_,C,h,<-e2];rfl
 have:=(List.getElem?_inj (gA.1 m1).1 hnd).1 (m1.trans m2.symm);rw[M,R,this]
theorem Ea {l:List XC} {a v:Nat} (b:a<l.length) (hv:v<l.length) {x y:XC} (hx:l[a]? =some x) (hy:l[v]? =some y):bW x y=bM (((jy l)[v+1]?).getD 0) (((jy l)[a+1]?).getD 0):=by
 obtain⟨p,hp⟩:=bZ (show v+1<(jy l).length by rw[gz];omega);obtain⟨q,hq⟩:=bZ (show a+1<(jy l).length by rw[gz];omega);rw[hp,hq];show bW x y=bM p q;cases he:bM p q with
 | true=>
  obtain rfl:=s8 he;have:=IX b hv (hq.trans hp.symm);rw[hx,hy] at this;exact bR.2<|Option.some.inj this
 | false=>
  cases d:bW x y with
  | false=>rfl
  | true=>
   obtain rfl:=bR.1 d;have:=Hg b hv (hx.trans hy.symm);rw[hq,hp] at this;rw[Option.some.inj this,ey] at he;cases he
def JS (g:XG) (ps:List Int):Int:=open Classical in if bY g≠0∨ps.length≠g.threads.length∨¬kK g.threads.length ps then 2 else 0
def JT (g:XG) (ps:List Int):XG:=if JS g ps=0 then JU ps g else XG.nil
theorem jn {g:XG} {ps:List Int} (h:bY g≠0∨ps.length≠g.threads.length∨¬kK g.threads.length ps):JS g ps=2:=if_pos h
theorem kj {g:XG} {ps:List Int} (h:bY g≠0∨ps.length≠g.threads.length∨¬kK g.threads.length ps):JT g ps=XG.nil:=by unfold JT;rw[jn h];rfl
theorem tB {g:XG} {ps:List Int} (h1:bY g=0) (h2:ps.length=g.threads.length) (h3:kK g.threads.length ps):JS g ps=0:=if_neg (by rintro (h | h | h)<;>contradiction)
theorem yU {g:XG} {ps:List Int} (h1:bY g=0) (b:ps.length=g.threads.length) (d:kK g.threads.length ps):JT g ps=JU ps g:=if_pos (tB h1 b d)
end Go.Ev
namespace Go.Ev
variable [Env]
open Go.Proofs
set_option maxRecDepth 4000
set_option maxHeartbeats 8000000
theorem kK.has {n:Nat} {ps:List Int} (h:kK n ps) {t:Nat} (b:t<n):(ps.any fun y=>bM (.ofNat (t+1)) y)=true:=Ko (nQ h).1 (nQ h).2 b
theorem Nv {G:Cx} (U:Plain G) {K:KP} {g:XG} {a b c d:J} (W:dj K g a b c d) {ps:List Int} {pv:J} (hp:bG K 1 cH ps pv) {V:N} {L:Own} (aq:St V K L):
  aW Tryz.prog G 11 [.agg [a,b,c,d],pv] V fun v V'=>∃K' a' b' c' d',v= .tuple [.agg [a',b',c',d'],.int .i64<|JS g ps]/\KP.le K K'/\dj K' (JT g ps) a' b' c' d'/\St V' K' L:=by
 refine aY U Tryz.func11 Z (t:=(PT.leaf.put (some (.agg [a,b,c,d])) 0).put (some (pv)) 1) (by rfl) ?_;refine H ?_;refine ah Z ?_;refine bJ aq Z (cG Z Z) (fun _=>Z) (fun V b1 aq=>?_);refine bJ aq Z (dG (cs:=[.au,.au,.au,.au]) S S) (fun _=>Z) (fun V b2 aq=>?_);refine Y Z (ak Z) Z ?_;refine af ?_;refine B ?_;refine H ?_;refine H ?_;refine ah Z ?_;refine Y Z (bp Z (aq.get 1 Z) (n:=4) (vs:=[_,_,_,_]) S (Nat.le_of_ble_eq_true Z) Z) Z ?_;refine bB Z (aT Z Z Z S) (fun _=>Z) (GW U W aq) (fun V aq=>?_);refine Y Z (aC Z Z Z) Z ?_;refine bx Z (D Z) (fun _=>Z) (fun M=>?_) (fun M=>?_)
 ·refine ae Z Z ?_;refine ae Z Z ?_;refine ae Z Z ?_;refine ae Z Z ?_;refine ae Z Z ?_;refine ae Z Z ?_;refine Y Z (aJ Z Z) Z ?_;refine af ?_;refine B ?_;refine bj Z ?_;refine H ?_;refine ah Z ?_;refine Y Z (dC (places:=[(0,1),(1,1),(2,1),(3,1)]) (zero:=[.au,.au,.au,.au]) (cs:=[_,_,_,_]) S S S Z S) Z ?_;refine cF aq Z (bg Z Z Z (aq.get 0 Z) (m:=4) S Z (Nat.le_of_ble_eq_true Z) (ar Z<|ar Z<|ar Z<|ar Z aQ) (cells':=[_,_,_,_]) Z) Z (fun V aq=>?_);refine Y Z (ak Z) Z ?_;refine af ?_;refine B ?_;refine aF ?_;refine ay (?_);have u:bY g≠0∨ps.length≠g.threads.length∨¬kK g.threads.length ps:=(.inl<|fX<|bL M);exact⟨.inr Z,_,dJ Z Z (aq.get 0 Z) (m:=4) S Z Z,K,_,_,_,_,by rw[jn u],KP.le_refl _,by rw[kj u];exact dj.zero,aq.pop.pop⟩
 refine Y Z (D Z) Z ?_;refine Y Z (aO hp Z Z Z (e:=3) S Z) Z ?_;refine Y Z (az Z (k:=1) S) Z ?_;refine Y Z (aw Z (aq.get 1 Z) S Z) Z ?_;refine Y Z (aO W.threads Z Z Z (e:=64) S Z) Z ?_;refine Y Z (aC Z Z Z) Z ?_;refine Y Z (aJ Z Z) Z ?_;refine af ?_;refine B ?_;refine aD Z (fun F=>?_) (fun F=>?_)
 ·refine H ?_;refine ah Z ?_;refine Y Z (dC (places:=[(0,1),(1,1),(2,1),(3,1)]) (zero:=[.au,.au,.au,.au]) (cs:=[_,_,_,_]) S S S Z S) Z ?_;refine cF aq Z (bg Z Z Z (aq.get 0 Z) (m:=4) S Z (Nat.le_of_ble_eq_true Z) (ar Z<|ar Z<|ar Z<|ar Z aQ) (cells':=[_,_,_,_]) Z) Z (fun V aq=>?_);refine Y Z (ak Z) Z ?_;refine af ?_;refine B ?_;refine aF ?_;refine ay (?_);have u:bY g≠0∨ps.length≠g.threads.length∨¬kK g.threads.length ps:=(.inr (.inl fun e=>fX (bL F) (by rw[e])));exact⟨.inr Z,_,dJ Z Z (aq.get 0 Z) (m:=4) S Z Z,K,_,_,_,_,by rw[jn u],KP.le_refl _,by rw[kj u];exact dj.zero,aq.pop.pop⟩
 refine aG ?_;refine B ?_;refine H ?_;refine H ?_;refine ah Z ?_;refine Y Z (D Z) Z ?_;refine Y Z (aO hp Z Z Z (e:=3) S Z) Z ?_;refine Y Z (D Z) Z ?_;refine af ?_;refine B ?_;refine aI ?_;obtain⟨LL1,aq,hLL1⟩:=aq.named;refine a6 [5,6,21,22,23,24,25,26,27,28,29,30] (fun j t V=>∃(i:Nat),(j+i=ps.length/\∀v,v<i->(ps.any fun y=>bM (.ofNat (v+1)) y)=true)/\t.get 21=some (.int .i64 (.ofNat i))/\St V K LL1) (ps.length) ⟨0,⟨Z,fun v hv=>absurd hv (nZ_ _)⟩,Z,aq⟩ ?_;clear aq;intro j4 t V an hI;obtain⟨i,⟨aa,I⟩,E,aq⟩:=hI;subst hLL1;replace an:=an.bS Z Z;obtain⟨o5,o6,X,ab,ac,ad,ai,al,an⟩:=an;replace an:=an.mQ Z;obtain⟨am,ao,ap,av,an⟩:=an;obtain rfl:=an.nil;clear an;replace E:X=some _:=E;subst E;refine H ?_;refine ah Z ?_;refine Y Z (aC Z Z Z) Z ?_;refine af ?_;refine B ?_;refine H ?_;refine aD Z (fun C=>?_) (fun C=>?_)
 ·refine aG ?_;refine B ?_;refine H ?_;refine aI ?_;refine H ?_;refine ah Z ?_;refine Y Z (D Z) Z ?_;refine Y Z (ak Z) Z ?_;refine af ?_;refine B ?_;refine H ?_;refine ah Z ?_;refine Y Z (D Z) Z ?_;refine Y Z (D Z) Z ?_;refine Y Z (aC (v:=.int .i64 (.ofNat (i+1))) Z Z<|congrArg (fun z=>some (J.int .i64 z))<|aX (by have:=hp.bK;have:=aS C;omega)) Z ?_;refine bB Z (aT Z Z Z S) (fun _=>Z) (De U hp (.ofNat (i+1)) aq) (fun V aq=>?_);refine Y Z (dV Z) Z ?_;refine af ?_;refine B ?_;refine aD Z (fun Q=>?_) (fun Q=>?_)
  ·refine H ?_;refine ah Z ?_;refine Y Z (dC (places:=[(0,1),(1,1),(2,1),(3,1)]) (zero:=[.au,.au,.au,.au]) (cs:=[_,_,_,_]) S S S Z S) Z ?_;refine cF aq Z (bg Z Z Z (aq.get 0 Z) (m:=4) S Z (Nat.le_of_ble_eq_true Z) (ar Z<|ar Z<|ar Z<|ar Z aQ) (cells':=[_,_,_,_]) Z) Z (fun V aq=>?_);refine Y Z (ak Z) Z ?_;refine af ?_;refine B ?_;refine aF ?_;refine aK<|ay<|bq<|aK<|ay (?_);have u:bY g≠0∨ps.length≠g.threads.length∨¬kK g.threads.length ps:=(.inr (.inr fun A=>by have h9:=A.has (t:=i) (by have:=aS C;have e:ps.length=g.threads.length:=iJ_ (fl F);omega);rw[show(ps.any fun y=>bM (.ofNat (i+1)) y)=false from bL Q] at h9;cases h9));exact⟨.inr Z,_,dJ Z Z (aq.get 0 Z) (m:=4) S Z Z,K,_,_,_,_,by rw[jn u],KP.le_refl _,by rw[kj u];exact dj.zero,aq.pop.pop⟩
  refine aG ?_;refine aH ?_;refine B ?_;refine ah Z ?_;refine Y Z (aC Z Z Z) Z ?_;refine Y Z (D Z) Z ?_;refine af ?_
  refine aL ⟨j4-1,(by have:=aS C;omega),(by(iterate 22 refine bc.put Z ?_);exact bc.refl _ _),i+1,⟨by have:=aS C;omega,fun v hv=>by
    by_cases e:v=i
    ·subst e;exact a7 Q
    exact I v oM⟩,congrArg (fun z=>some (J.int .i64 z))<|aX (by have:=hp.bK;have:=aS C;omega),aq⟩
 refine ba ?_;refine aP ?_;refine aR ?_;refine aM ?_;refine B ?_;refine H ?_;refine ah Z ?_;refine Y Z (bp Z (aq.get 1 Z) (n:=4) (vs:=[_,_,_,_]) S (Nat.le_of_ble_eq_true Z) Z) Z ?_;refine Y Z (D Z) Z ?_;have R:bY g=0:=fl M;have hlen:ps.length=g.threads.length:=iJ_ (fl F);have hiN:=bC C;have A:kK g.threads.length ps:=ML hlen fun v hv=>I v oM
 refine cR Z (aT Z Z Z S) (fun _=>Z) (Lr U W (ei.1 R) hp (nQ A).1 hlen (nQ A).2 aq) ?_;rintro _ V ⟨K1,a1,b1_,c1,d1,rfl,T,hg1b,aq⟩;have hg1:=hg1b.mono KP.Ov;refine cF aq Z (bg Z Z Z (aq.get 0 Z) (m:=4) S Z (Nat.le_of_ble_eq_true Z) (ar hg1.init.leaf.2<|ar hg1.threads.leaf.2<|ar hg1.from_.leaf.2<|ar hg1.order.leaf.2 aQ) (cells':=[_,_,_,_]) Z) Z (fun V aq=>?_);refine Y Z (ak Z) Z ?_;refine af ?_;refine B ?_;refine aF ?_;exact⟨.inr Z,_,dJ Z Z (aq.get 0 Z) (m:=4) S Z Z,K1,_,_,_,_,by rw[tB R hlen A],T,by rw[yU R hlen A];exact hg1,aq.pop.pop⟩
theorem FI {l:List XC} {a v:Nat} (b:a<l.length) (hv:v<l.length):KO l a v=bM (((jy l)[v+1]?).getD 0) (((jy l)[a+1]?).getD 0):=by
 obtain⟨x,hx⟩:=bZ b;obtain⟨y,hy⟩:=bZ hv;rw[<-Ea b hv hx hy];unfold KO;rw[hx,hy]
theorem Ln {G:Cx} (b:Plain G) {K:KP} {k:Nat} {l:List XC} {lv:J} (hl:bG K 2 (gf K k) l lv) {V:N} {L:Own} (aq:St V K L):
  aW Tryz.prog G 9 [lv] V fun v V'=>∃K' u,v= .tuple [u,.int .i64<|rH l]/\KP.le K K'/\bG K' 1 (RL K' 1 cH) (dP l) u/\St V' K' L:=by
 by_cases h4:l.length<=4
 ·refine(Nw b hl h4 aq).mono fun v V' h=>?_
  obtain⟨K',u,rfl,hle,hu,aq⟩:=h;exact⟨K',u,by unfold rH;rw[if_neg oM],hle,by unfold dP;rw[if_neg oM,<-CI gz h4 fun a v m hv=>FI m hv];exact hu,aq⟩
 refine vY b Tryz.func9 Z (t:=PT.leaf.put (some lv) 0) (by rfl) ?_;refine gL<|jL ?_;refine ah Z ?_;refine Y Z (ak Z) Z ?_;refine Y Z (ak Z) Z ?_;refine af ?_;refine ep ?_;refine gL<|jL ?_;refine H ?_;refine ah Z ?_;refine Y Z (D Z) Z ?_;refine Y Z (aO hl Z Z Z (e:=63) S Z) Z ?_;refine Y Z (aC Z Z Z) Z ?_;refine af ?_;refine B ?_;refine aD Z (fun d=>?_) (fun d=>?_)
 ·refine H ?_;refine ah Z ?_;refine Y Z (ak Z) Z ?_;refine Y Z (ak Z) Z ?_;refine af ?_;refine B ?_;refine aF ?_;exact qk ⟨.inr Z,_,eA Z Z Z,K,.au,by unfold rH;rw[if_pos oM],KP.le_refl _,by unfold dP;rw[if_pos oM];exact .inl ⟨Z,Z⟩,aq⟩
 exact absurd (bC (a:=4) d) h4
end Go.Ev
namespace Go.Ev
variable [Env]
section
variable {P:Program} {G:Cx} {n:Nat} {t:PT J} {V:N} {K:KP} {L:Own} {Q:Ex->PT J->N->Prop} {ops:Array Oper} {o:Oper} {i:Nat} {rc:List Nat} {l:List (Nat×List Nat)}
end
end Go.Ev
namespace Go.Ev
variable [Env]
open Go.Proofs
set_option maxRecDepth 4000
set_option maxHeartbeats 8000000
end Go.Ev
namespace Go.Ev
variable [Env]
section
variable {nx:Nat->List Nat} {w:Nat->Nat} {r:Nat->Bool} {n i v j:Nat} {b b':List Nat} {sm:Bool}
end
end Go.Ev
namespace Go.Ev
variable [Env]
open Go.Proofs
set_option maxRecDepth 4000
set_option maxHeartbeats 8000000
end Go.Ev
namespace Go.Ev
variable [Env]
end Go.Ev
namespace Go.Ev
variable [Env]
open Go.Proofs
set_option maxRecDepth 4000
set_option maxHeartbeats 8000000
end Go.Ev
namespace Go.Ev
variable [Env]
section
variable {k:Nat} {x:XI} {s:TS}
end
section
variable {k:Nat} {c:XC} {s S_:TS} {x:XI} {out:List Nat} {A:List Int} {q j:Nat}
end
end Go.Ev
namespace Go.Ev
variable [Env]
open Go.Proofs
set_option maxRecDepth 4000
set_option maxHeartbeats 8000000
structure PS (v:J):Prop where
 leaf:cd v=some [v]/\fJ v=true
theorem PS.dL {v:J} (h:PS v) (hb:∀a:J,fJ a=true->True):True:=trivial
structure SA (k:Nat) (c:XC) (R:TS) (K1:KP) (ev:J) (fn:Int) (a:xR):Prop where
 ev:bG K1 5 nX R.events ev
 ask:R.asks=true->fn=0/\a=rS k c R
 fin:R.asks=false->fn=R.fin/\a=uz
theorem Og.mono {P:Program} {G:Cx} {f:Nat} {args:List J} {V:N} {R R':J->N->Prop} (h:Og P G f args V R) (hq:∀v V',R v V'->R' v V'):Og P G f args V R':=
 let ⟨K,v,V',h1,b⟩:=h;⟨K,v,V',h1,hq _ _ b⟩
end Go.Ev
namespace Go.Ev
variable [Env]
end Go.Ev
namespace Go.Ev
variable [Env]
open Go.Proofs
set_option maxRecDepth 4000
set_option maxHeartbeats 8000000
structure SQ (k:Nat) (init:List Int) (l:List XC):Prop where
 len:l.length<=4
 init:init.length<=6
 pos:0<l.length
 flat:∀c∈l,qK k c=true
def Bo (u:J) (vs:List J):Prop:=vs= [u]/\cd u=some [u]/\fJ u=true
theorem Bo.leaf:∀x vs,Bo x vs->bO vs=true:=fun u _ h=>by
 obtain⟨rfl,_,b⟩:=h;exact ar b aQ
def PN (g:XG):Prop:=g.init.length<=1000/\g.threads.length<=1000/\(∀l∈g.threads,l.length<=1000)/\g.from_.length<=1000/\(∀l∈g.from_,l.length<=1000)/\g.order.length<=1000/\(∀l∈g.order,l.length<=1000)
structure Om (g:XG) (u0:J) (M0:Own) (u1:J) (us1:List J) (O1 I1:Own) (u2:J) (us2:List J) (O2 I2:Own) (u3:J) (us3:List J) (O3 I3:Own):Prop where
 init:cS 1 2 cH g.init u0 M0
 threads:eI 5 92 nX g.threads us1 I1
 from_:eI 2 59 kz g.from_ us2 I2
 order:eI 2 59 kz g.order us3 I3
 o1:cS 1 64 Bo us1 u1 O1
 o2:cS 1 57 Bo us2 u2 O2
 o3:cS 1 57 Bo us3 u3 O3
abbrev R3 (M0 O1 I1 O2 I2 O3 I3 L:Own):Own:=O3++(I3++(O2++(I2++(O1++(I1++(M0++L))))))
theorem Eg {G:Cx} (hG:Plain G) {K:KP} {g:XG} {a b c d:J} (W:dj K g a b c d) (a5:PN g) {V:N} {L:Own} (aq:St V K L):
  aW Tryz.prog G 72 [.agg [a,b,c,d]] V fun v V'=>∃u0 M0 u1 u O1 E u2 A O2 I2 u3 C O3 I3,v= .agg [u0,u1,u2,u3]/\Om g u0 M0 u1 u O1 E u2 A O2 I2 u3 C O3 I3/\St V' K (R3 M0 O1 E O2 I2 O3 I3 L):=by
 obtain⟨cg,ch,a9,ci,bb,cj,bd⟩:=a5;refine SC hG Tryz.func72 Z<|R5 2 Z<|kp aq Z (cG Z Z) (fun V b1 aq=>?_);refine kp aq Z (Tp (cs:=[.au,.au,.au,.au])) (fun V b2 aq=>?_);refine Rk 4 Z<|gw aq Z (bN (e:=2) (m:=1) (z:=[iZ]) (cs:=[]) S S S S bI) (fun _=>Z) (fun V b3 aq=>?_);replace aq:St V _ ([(b3,.row [] 2 false)]++_):=aq;refine Y Z (Tl 0 Z) Z<|Y Z (Tm Z aq.bX.pop.g0 Z) Z<|tD (R:=cH) (m:=1) (e:=2) cS.empty aq W.init cH.leaf (by show 0+_<=_;omega) Z Z Z Z Z Z Z (fun _=>Z) (fun V aa ab hO10 aq=>?_);refine Y Z (dC (places:=[(0,1),(1,1),(2,1),(3,1)]) (zero:=[.au,.au,.au,.au]) (cs:=[_,_,_,_]) S S S (bA Z Z hO10.leaf.1 Z bI) S) Z<|kp aq Z (Tp (cs:=[.au,.au,.au,.au])) (fun V b4 aq=>?_);refine cF aq Z (Ts Z Z Z aq.g0 (m:=4) Z (ar hO10.leaf.2 Z) (cells':=[_,_,_,_]) Z) Z (fun V aq=>?_);refine Qz 6 Z (Rj 3 Z (a6 ([4]++rg 12 19) (fun j t V=>∃(i:Nat) (u1:J) (u:List J) (O1 E:Own),j+i=g.threads.length/\eI 5 92 nX (g.threads.take i) u E/\cS 1 64 Bo u u1 O1/\t.get 4=some (.int .i64 (.ofNat i))/\St V K (O1++(E++((b4,.row [aa,u1,.au,.au] 27 false)::(ab++((b2,.row [.au,.au,.au,.au] 27 false)::(b1,.row [a,b,c,d] 27 false)::L)))))) (g.threads.length) ⟨0,.au,[],[],[],Z,.nil,cS.nil,Z,aq⟩ ?_));clear aq;intro j3 t V an hI;obtain⟨i,u1,u,O1,E,ck,hI1,hO1,be,aq⟩:=hI;obtain⟨oo,rfl⟩:=an.q1 be Z;refine Ro aq 5 [1] Z Z<|Y Z (Tm Z aq.bX.bX.pop.bX.pop.g0 Z) Z<|Y Z (To W.threads Z Z Z (e:=64) Z) Z<|R7 3 Z<|aD Z (fun F=>?_) (fun F=>?_)
 ·refine Qy 4 Z (aU (l:=[(0,[]),(1,[]),(2,[]),(3,[]),(4,[]),(5,[]),(6,[]),(7,[]),(8,[1]),(9,[]),(10,[]),(11,[]),(12,[])]) S S<|aj Z Z (Tl 1 Z) Z<|aj Z Z (Tm Z aq.bX.bX.g0 Z) Z<|lJ aq Z Z (bN (e:=92) (m:=5) (z:=[iZ,iZ,iZ,iZ,iZ]) (cs:=[]) S S S S bI) (fun _=>Z) (fun V b5 aq=>?_));replace aq:St V _ ([(b5,.row [] 92 false)]++_):=aq;refine aj Z Z (Tl 1 Z) Z<|aj Z Z (Tm Z aq.bX.bX.bX.pop.bX.pop.g0 Z) Z<|wQ 1 Z ?_;obtain⟨cn,I,bv⟩:=cL F;refine Th (e:=64) (m:=1) W.threads I Z Z Z Z Z (fun cp bw al b0 am=>?_);have hr25':=am;obtain⟨cq,rfl,ao⟩:=hr25';refine aj Z Z (Tq aq al Z Z) Z (Ax (R:=nX) (m:=5) (e:=92) cS.empty aq ao nX.leaf (by have:=a9 _ (gB_ I);show 0+_<=_;omega) Z Z Z Z Z Z Z Z (fun _=>Z) (fun V ac ap hO27 aq=>?_));refine⟨(aZ (bh Z Z Z Z Z (Tm Z aq.bX.bX.bX.g0 Z) (hO1.rD (K:=fun _ _=>False)).dL) aV),?_⟩;refine lJ aq Z Z (bN (e:=64) (m:=1) (z:=[.au]) (cs:=[ac]) S S S S<|bA Z Z hO27.leaf.1 Z bI) (fun _=>Z) (fun V b6 aq=>?_);replace aq:=aq.pull (.there (.gX .here));replace aq:=aq.pull (.gX<|fQ.here (X:=[_]));refine lI (R:=Bo) (m:=1) (e:=64) hO1 aq (ej (m:=1) Z (show Bo ac [ac] from⟨Z,hO27.leaf⟩)) Bo.leaf (by have h1:=hI1.length;rw[lT_] at h1;show _+1<=_;omega) Z Z Z Z Z Z Z Z (fun _=>Z) (fun V bf bi hO29 aq=>?_);refine⟨aV,?_⟩;refine aj Z Z (Tl 1 Z) Z<|jP aq (.gX (.gX (.gX .here))) Z Z (bg Z Z hO29.leaf.1 aq.bX.bX.bX.g0 (m:=1) S Z (lb Z) (ar hO29.leaf.2 aQ) (cells':=[_,_,_,_]) Z) Z (fun V aq=>?_);refine⟨aV,?_⟩;refine a8<|aH<|B<|ah Z ?_;rw[<-lQ_ ap E] at aq;refine SH 4 Z<|aL ⟨j3-1,(by have:=aS F;omega),oF,i+1,bf,u++[ac],bi,ap++E,(by have:=aS F;omega),(by rw[List.take_add_one,I];exact .snoc hI1 hO27),hO29,cI<|aX (by have:=W.threads.bK;omega),aq⟩
 refine Ri 3 Z (aM (Rg 7 Z (a6 ([5]++rg 31 19) (fun j t V=>∃(i:Nat) (u2:J) (A:List J) (O2 I2:Own),j+i=g.from_.length/\eI 2 59 kz (g.from_.take i) A I2/\cS 1 57 Bo A u2 O2/\t.get 5=some (.int .i64 (.ofNat i))/\St V K (O2++(I2++(O1++(E++((b4,.row [aa,u1,u2,.au] 27 false)::(ab++((b2,.row [.au,.au,.au,.au] 27 false)::(b1,.row [a,b,c,d] 27 false)::L)))))))) (g.from_.length) ⟨0,.au,[],[],[],Z,.nil,cS.nil,Z,aq⟩ ?_)));clear aq;intro j7 t V an hI;obtain⟨i,u2,A,O2,I2,cr,hI2,hO2,bk,aq⟩:=hI;obtain⟨oo,rfl⟩:=an.q1 bk Z;refine Ro aq 5 [2] Z Z<|Y Z (Tm Z aq.bX.bX.bX.bX.pop.bX.pop.g0 Z) Z<|Y Z (To W.from_ Z Z Z (e:=57) Z) Z<|R7 3 Z<|aD Z (fun M=>?_) (fun M=>?_)
 ·refine Qy 4 Z (aU (l:=[(0,[]),(1,[]),(2,[]),(3,[]),(4,[]),(5,[]),(6,[]),(7,[]),(8,[1]),(9,[]),(10,[]),(11,[]),(12,[])]) S S<|aj Z Z (Tl 2 Z) Z<|aj Z Z (Tm Z aq.bX.bX.bX.bX.g0 Z) Z<|lJ aq Z Z (bN (e:=59) (m:=2) (z:=[iZ,iZ]) (cs:=[]) S S S S bI) (fun _=>Z) (fun V b5 aq=>?_));replace aq:St V _ ([(b5,.row [] 59 false)]++_):=aq;refine aj Z Z (Tl 2 Z) Z<|aj Z Z (Tm Z aq.bX.bX.bX.bX.bX.pop.bX.pop.g0 Z) Z<|wQ 1 Z ?_;obtain⟨cv,Q,b7⟩:=cL M;refine Th (e:=57) (m:=1) W.from_ Q Z Z Z Z Z (fun cw b8 av b9 ax=>?_);have hr44':=ax;obtain⟨cx,rfl,aE⟩:=hr44';refine aj Z Z (Tq aq av Z Z) Z (Ax (R:=kz) (m:=2) (e:=59) cS.empty aq aE kz.leaf (by have:=bb _ (gB_ Q);show 0+_<=_;omega) Z Z Z Z Z Z Z Z (fun _=>Z) (fun V ad a0 hO46 aq=>?_));refine⟨(aZ (bh Z Z Z Z Z (Tm Z aq.bX.bX.bX.bX.bX.g0 Z) (hO2.rD (K:=fun _ _=>False)).dL) aV),?_⟩;refine lJ aq Z Z (bN (e:=57) (m:=1) (z:=[.au]) (cs:=[ad]) S S S S<|bA Z Z hO46.leaf.1 Z bI) (fun _=>Z) (fun V b6 aq=>?_);replace aq:=aq.pull (.there (.gX .here));replace aq:=aq.pull (.gX<|fQ.here (X:=[_]));refine lI (R:=Bo) (m:=1) (e:=57) hO2 aq (ej (m:=1) Z (show Bo ad [ad] from⟨Z,hO46.leaf⟩)) Bo.leaf (by have h1:=hI2.length;rw[lT_] at h1;show _+1<=_;omega) Z Z Z Z Z Z Z Z (fun _=>Z) (fun V bl bm hO48 aq=>?_);refine⟨aV,?_⟩;refine aj Z Z (Tl 2 Z) Z<|jP aq (.gX (.gX (.gX (.gX (.gX .here))))) Z Z (bg Z Z hO48.leaf.1 aq.bX.bX.bX.bX.bX.g0 (m:=1) S Z (lb Z) (ar hO48.leaf.2 aQ) (cells':=[_,_,_,_]) Z) Z (fun V aq=>?_);refine⟨aV,?_⟩;refine a8<|aH<|B<|ah Z ?_;rw[<-lQ_ a0 I2] at aq;refine SH 4 Z<|aL ⟨j7-1,(by have:=aS M;omega),oF,i+1,bl,A++[ad],bm,a0++I2,(by have:=aS M;omega),(by rw[List.take_add_one,Q];exact .snoc hI2 hO46),hO48,cI<|aX (by have:=W.from_.bK;omega),aq⟩
 refine Ri 3 Z (aM (Rg 7 Z (a6 ([6]++rg 50 19) (fun j t V=>∃(i:Nat) (u3:J) (C:List J) (O3 I3:Own),j+i=g.order.length/\eI 2 59 kz (g.order.take i) C I3/\cS 1 57 Bo C u3 O3/\t.get 6=some (.int .i64 (.ofNat i))/\St V K (O3++(I3++(O2++(I2++(O1++(E++((b4,.row [aa,u1,u2,u3] 27 false)::(ab++((b2,.row [.au,.au,.au,.au] 27 false)::(b1,.row [a,b,c,d] 27 false)::L)))))))))) (g.order.length) ⟨0,.au,[],[],[],Z,.nil,cS.nil,Z,aq⟩ ?_)));clear aq;intro bo t V an hI;obtain⟨i,u3,C,O3,I3,ca,hI3,hO3,br,aq⟩:=hI;obtain⟨oo,rfl⟩:=an.q1 br Z;refine Ro aq 5 [3] Z Z<|Y Z (Tm Z aq.bX.bX.bX.bX.bX.bX.pop.bX.pop.g0 Z) Z<|Y Z (To W.order Z Z Z (e:=57) Z) Z<|R7 3 Z<|aD Z (fun T=>?_) (fun T=>?_)
 ·refine Qy 4 Z (aU (l:=[(0,[]),(1,[]),(2,[]),(3,[]),(4,[]),(5,[]),(6,[]),(7,[]),(8,[1]),(9,[]),(10,[]),(11,[]),(12,[])]) S S<|aj Z Z (Tl 3 Z) Z<|aj Z Z (Tm Z aq.bX.bX.bX.bX.bX.bX.g0 Z) Z<|lJ aq Z Z (bN (e:=59) (m:=2) (z:=[iZ,iZ]) (cs:=[]) S S S S bI) (fun _=>Z) (fun V b5 aq=>?_));replace aq:St V _ ([(b5,.row [] 59 false)]++_):=aq;refine aj Z Z (Tl 3 Z) Z<|aj Z Z (Tm Z aq.bX.bX.bX.bX.bX.bX.bX.pop.bX.pop.g0 Z) Z<|wQ 1 Z ?_;obtain⟨c0,U,cb⟩:=cL T;refine Th (e:=57) (m:=1) W.order U Z Z Z Z Z (fun c1 cc a1 ce a2=>?_);have hr63':=a2;obtain⟨c2,rfl,a3⟩:=hr63';refine aj Z Z (Tq aq a1 Z Z) Z (Ax (R:=kz) (m:=2) (e:=59) cS.empty aq a3 kz.leaf (by have:=bd _ (gB_ U);show 0+_<=_;omega) Z Z Z Z Z Z Z Z (fun _=>Z) (fun V ai a4 hO65 aq=>?_));refine⟨(aZ (bh Z Z Z Z Z (Tm Z aq.bX.bX.bX.bX.bX.bX.bX.g0 Z) (hO3.rD (K:=fun _ _=>False)).dL) aV),?_⟩;refine lJ aq Z Z (bN (e:=57) (m:=1) (z:=[.au]) (cs:=[ai]) S S S S<|bA Z Z hO65.leaf.1 Z bI) (fun _=>Z) (fun V b6 aq=>?_);replace aq:=aq.pull (.there (.gX .here));replace aq:=aq.pull (.gX<|fQ.here (X:=[_]));refine lI (R:=Bo) (m:=1) (e:=57) hO3 aq (ej (m:=1) Z (show Bo ai [ai] from⟨Z,hO65.leaf⟩)) Bo.leaf (by have h1:=hI3.length;rw[lT_] at h1;show _+1<=_;omega) Z Z Z Z Z Z Z Z (fun _=>Z) (fun V bs bt hO67 aq=>?_);refine⟨aV,?_⟩;refine aj Z Z (Tl 3 Z) Z<|jP aq (.gX (.gX (.gX (.gX (.gX (.gX (.gX .here))))))) Z Z (bg Z Z hO67.leaf.1 aq.bX.bX.bX.bX.bX.bX.bX.g0 (m:=1) S Z (lb Z) (ar hO67.leaf.2 aQ) (cells':=[_,_,_,_]) Z) Z (fun V aq=>?_);refine⟨aV,?_⟩;refine a8<|aH<|B<|ah Z ?_;rw[<-lQ_ a4 I3] at aq;refine SH 4 Z<|aL ⟨bo-1,(by have:=aS T;omega),oF,i+1,bs,C++[ai],bt,a4++I3,(by have:=aS T;omega),(by rw[List.take_add_one,U];exact .snoc hI3 hO65),hO67,cI<|aX (by have:=W.order.bK;omega),aq⟩
 refine Ri 3 Z<|aM<|R5 2 Z<|Y Z (Tn Z aq.bX.bX.bX.bX.bX.bX.g0 (n:=4) (vs:=[_,_,_,_]) Z) Z<|gj aq (.gX (.gX (.gX (.gX (.gX (.gX (.there (.gX .here)))))))) Z (Ts Z Z Z aq.bX.bX.bX.bX.bX.bX.pop.bX.g0 (m:=4) Z (ar hO10.leaf.2<|ar hO1.leaf.2<|ar hO2.leaf.2<|ar hO3.leaf.2 aQ) (cells':=[_,_,_,_]) Z) Z (fun V aq=>?_);refine R8 3 Z ?_;rw[tL_<|bC F] at hI1;rw[tL_<|bC M] at hI2;rw[tL_<|bC T] at hI3;exact Hn Z Z aq.bX.bX.bX.bX.bX.bX.pop.bX.g0 (m:=4) S Z ⟨aa,ab,u1,u,O1,E,u2,A,O2,I2,u3,C,O3,I3,Z,⟨hO10,hI1,hI2,hI3,hO1,hO2,hO3⟩,aq.sub<|gP<|gP<|gP<|gP<|gP<|gP (.cons _<|gP (.cons _ (.cons _ (.refl _))))⟩
theorem oo {a b c d:J} (m:cd a=some [a]/\fJ a=true) (hb:cd b=some [b]/\fJ b=true) (hc:cd c=some [c]/\fJ c=true) (hd:cd d=some [d]/\fJ d=true):cd (.agg [a,b,c,d])=some [a,b,c,d]/\bO [a,b,c,d]=true:=by
 refine⟨Z,ar m.2<|ar hb.2<|ar hc.2<|ar hd.2 aQ⟩
theorem Rows.NX {α:Type} {m:Nat} {R:α->List J->Prop} {rs:List (List α)} {us:List J} {K:KP} (h:Rows K m R rs us):∀u∈us,cd u=some [u]/\fJ u=true:=fun u hu=>by
 obtain⟨i,hi⟩:=gO_ hu;obtain⟨r,b⟩:=bZ (show i<rs.length by rw[<-h.1];exact(gA.1 hi).1);obtain⟨u',h1,d⟩:=h.2 i r b;rw[hi] at h1;cases h1;exact d.leaf
theorem OR {α:Type} {f:α->α} {l:List (List α)} {x:Nat} {r:List α} (h:l[x]? =some r):((l.take x).map (·.map f)++l.drop x)[x]? =some r:=by
 have hx:=(gA.1 h).1;have hl:((l.take x).map (·.map f)).length=x:=by rw[lM_,lT_];omega
 rw[gR_ oM,hl,Nat.sub_self,List.getElem?_drop];exact h
theorem Kg {α:Type} {f:α->α} {l:List (List α)} {x:Nat} {r:List α} (h:l[x]? =some r):((l.take x).map (·.map f)++l.drop x).set x (r.map f)=(l.take (x+1)).map (·.map f)++l.drop (x+1):=by
 have hx:=(gA.1 h).1;have hl:((l.take x).map (·.map f)).length=x:=by rw[lM_,lT_];omega
 rw[List.set_append_right _ _ oM,hl,Nat.sub_self,cz h,fG h,List.map_append,lQ_];rfl
theorem Kh {α:Type} {f:α->α} {r:List α} {y:Nat} {z:α} (h:r[y]? =some z):((r.take y).map f++r.drop y).set y (f z)=(r.take (y+1)).map f++r.drop (y+1):=by
 have hx:=(gA.1 h).1;have hl:((r.take y).map f).length=y:=by rw[lM_,lT_];omega
 rw[List.set_append_right _ _ oM,hl,Nat.sub_self,cz h,fG h,List.map_append,lQ_];rfl
theorem C2 {α:Type} {l:List α} {x:Nat} {u:α} (h:l[x]? =some u):l.set x u=l:=by
 obtain⟨h1,rfl⟩:=gA.1 h;exact List.set_getElem_self h1
def JV {α:Type} (q:Nat->Nat) (rows orig:List (List α)) (n i:Nat):List (List α):=(List.range n).map fun j=>if q j<i then(rows[q j]?).getD [] else(orig[j]?).getD []
theorem Cu {α:Type} {q:Nat->Nat} {rows orig:List (List α)} {n:Nat} (h:orig.length=n):JV q rows orig n 0=orig:=by
 unfold JV;subst h;refine List.ext_getElem? fun j=>?_
 by_cases hj:j<orig.length
 ·rw[gM_,List.getElem?_range hj,gC hj];show some (if q j<0 then _ else(orig[j]?).getD [])=_;rw[if_neg<|nZ_ _,gC hj];rfl
 rw[gN_ (by simp;omega),gN_ oM]
theorem Gd {α:Type} {q:Nat->Nat} {rows orig:List (List α)} {n i:Nat}:(JV q rows orig n i).length=n:=by unfold JV;simp
theorem Ct {α:Type} {p q:Nat->Nat} {rows orig:List (List α)} {n i:Nat} {r:List α} (h:Pm n p q) (hi:i<n) (b:rows[i]? =some r):JV q rows orig n (i+1)=(JV q rows orig n i).set (p i) r:=by
 unfold JV;refine List.ext_getElem? fun j=>?_
 by_cases hj:j<n
 ·rw[gM_,List.getElem?_range hj]
  by_cases e:p i=j
  ·subst e;rw[List.getElem?_set_self (by simpa using h.lt i hi)];show some (if q (p i)<i+1 then(rows[q<|p i]?).getD [] else _)=_;rw[h.qp i hi,if_pos<|Nat.lt_succ_self i,b];rfl
  rw[List.getElem?_set_ne e,gM_,List.getElem?_range hj];show some (if q j<i+1 then _ else _)=some (if q j<i then _ else _);have hne:q j≠i:=fun e2=>e (by rw[<-e2,h.pq j hj])
  by_cases hq:q j<i
  ·rw[if_pos hq,if_pos oM]
  rw[if_neg hq,if_neg oM]
 rw[gN_ (by simp;omega),gN_ (by simp;omega)]
theorem Mw {α:Type} {p q:Nat->Nat} {rows orig:List (List α)} {n:Nat} (h:Pm n p q):JV q rows orig n n=Cv q rows n n:=by
 unfold JV Cv;exact List.map_congr_left fun j hj=>by rw[if_pos<|h.Bk j<|List.mem_range.1 hj,if_pos<|h.Bk j<|List.mem_range.1 hj]
theorem MJ {α:Type} {m E b e:Nat} {c:nL} {R:α->List J->Prop} {l:List α} {cells:List J} (A:cells.length=l.length*m) (h4:∀(i:Nat) (x:α),l[i]? =some x->R x ((cells.drop (i*m)).take m)) (h5:c= .known l.length∨(c= .upto m/\e=E)) (C:l.length<=1048576) {i:Nat} (hi:i<l.length) {y:α} {vs:List J} (hy:R y vs) (hv:vs.length=m):
  cS m E R (l.set i y) (.slice b 0 l.length c) [(b,.row (dB vs cells (i*m)) e false)]:=by
 have hl:i*m+vs.length<=cells.length:=by rw[A,hv,<-Nat.succ_mul];exact nM_ _ hi
 have d:(cells.take (i*m)).length=i*m:=by rw[lT_];omega
 rw[kW vs cells (i*m) hl];refine .inr ⟨b,c,_,e,by rw[List.length_set],Z,by rw[List.length_set,lA_,lA_,d,lD_];omega,fun j z hz=>?_,by rw[List.length_set];exact h5,by rw[List.length_set];exact C⟩
 by_cases e:i=j
 ·subst e;rw[List.getElem?_set_self hi] at hz;cases hz;rw[lQ_,List.drop_append,d,Nat.sub_self,List.drop_of_length_le oM,List.nil_append,List.drop_zero,<-hv,List.take_left];exact hy
 rw[List.getElem?_set_ne e] at hz;have h7:=h4 j z hz
 have he:((cells.take (i*m)++vs++cells.drop (i*m+vs.length)).drop (j*m)).take m=(cells.drop (j*m)).take m:=by
  refine List.ext_getElem? fun t=>?_
  rw[List.getElem?_take,List.getElem?_take]
  by_cases u:t<m
  ·rw[if_pos u,if_pos u,List.getElem?_drop,List.getElem?_drop]
   by_cases hj:j<i
   ·have F:j*m+m<=i*m:=by rw[<-Nat.succ_mul];exact nM_ _ hj
    rw[lQ_,gL_ (by rw[d];omega),List.getElem?_take,if_pos oM]
   have F:i*m+m<=j*m:=by rw[<-Nat.succ_mul];exact nM_ _ oM
   rw[lQ_,gR_ (by rw[d];omega),gR_ (by rw[d];omega),d,List.getElem?_drop];congr 1;omega
  rw[if_neg u,if_neg u]
 rw[he];exact h7
theorem Ag {g:XG} (h:bY g=0):PN g:=by
 obtain⟨h1,h2,b,h4,h5,d,_⟩:=fW h;exact⟨by omega,by omega,fun l hl=>by have:=b l hl;omega,by omega,fun l hl=>by have:=xq d h4 b l hl;omega,by omega,fun l hl=>by have:=sk h l hl;omega⟩
theorem MM {α:Type} (b d m u A C E L:List α) (x:α):(x::(b++(d++(m++(u++(A++(C++(E++L)))))))).Perm ((C++(u++E))++(x::(A++(m++(b++(d++L)))))):=by
 classical
 rw[List.perm_iff_count];intro y;simp only[List.count_append,List.count_cons];omega
theorem MN {α:Type} (b d L:List α) (x:α):(x::(b++(d++L))).Perm ((b++d)++(x::L)):=by
 classical
 rw[List.perm_iff_count];intro y;simp only[List.count_append,List.count_cons];omega
theorem MO {α:Type} (b I L:List α) (x y:α):(x::(b++(I++(y::L)))).Perm ((b++I)++(y::x::L)):=by
 classical
 rw[List.perm_iff_count];intro z;simp only[List.count_append,List.count_cons];omega
theorem qf {α:Type} {m E:Nat} {R:α->List J->Prop} {rs:List (List α)} {us:List J} {I:Own} {K:KP} (h:eI m E R rs us I) (hk:∀e∈I,K e.1 e.2):Rows K m R rs us:=⟨h.length,h.each hk⟩
theorem Gw {G:Cx} (hG:Plain G) {K:KP} {g:XG} {a b c d:J} (hg:dj K g a b c d) (hR:eb g) {ps:List Int} {pv:J} (hp:bG K 1 cH ps pv) {p q:Nat->Nat} (h:Pm g.threads.length p q) (hlen:ps.length=g.threads.length) (a5:∀i,i<g.threads.length->ps[i]? =some (.ofNat (p i+1))) {V:N} {L:Own} (aq:St V K L):
  aW Tryz.prog G 40 [.agg [a,b,c,d],pv] V fun v V'=>∃K' a' b' c' d',v= .agg [a',b',c',d']/\KP.le K K'/\dj K' (gu p q g) a' b' c' d'/\St V' K' L:=by
 have hck:=ei.2 hR;obtain⟨c9,hV,dd,df,hW,hX,hY⟩:=fW hck;obtain⟨N_,hN⟩:∃N_,N_=g.threads.length:=⟨_,Z⟩;have bi:ps.length=N_:=by rw[hlen,hN]
 have dk:g.from_.length=N_:=by rw[df,hN]
 rw[<-hN] at h a5 c9;refine aY hG Tryz.func40 Z (t:=(PT.leaf.put (some (.agg [a,b,c,d])) 0).put (some (pv)) 1) (by rfl) ?_;refine H ?_;refine ah Z ?_;refine bJ aq Z (cG Z Z) (fun _=>Z) (fun V b1 aq=>?_);obtain⟨K1,ai,u,aq⟩:=aq.cK (M:=[_]);have bk:K1 b1 (.row [a,b,c,d] 27 false):=u _ (.head _);clear u;have hg1:=hg.mono ai;have hp1:=hp.mono ai fun _ _ h=>h
 refine bJ aq Z (dG (cs:=[.au,.au,.au,.au]) S S) (fun _=>Z) (fun V b2 aq=>?_);refine af ?_;refine B ?_;refine H ?_;refine ah Z ?_;refine Y Z (bp Z (aq.eS bk) (n:=4) (vs:=[_,_,_,_]) S (Nat.le_of_ble_eq_true Z) Z) Z ?_;refine cR Z (aT Z Z Z S) (fun _=>Z) (Eg hG hg1 (Ag hck) aq) ?_;rintro _ V ⟨u0,M0,u1,bl,O1,I1,u2,bm,O2,I2,u3,T,O3,I3,rfl,hD,aq⟩;obtain⟨a9,dl,dm,dn,hO1_,hO2_,hO3_⟩:=hD;have hO1:cS 1 64 RV bl u1 O1:=hO1_;have hO2:cS 1 57 RV bm u2 O2:=hO2_;have hO3:cS 1 57 RV T u3 O3:=hO3_;replace aq:St V K1 (O3++(I3++(O2++(I2++(O1++(I1++(M0++((b2,.row [.au,.au,.au,.au] 27 false)::L)))))))):=aq;refine bJ aq Z (dG (cs:=[.au,.au,.au,.au]) S S) (fun _=>Z) (fun V b3 aq=>?_);refine gj aq .here Z (bg Z Z (oo a9.leaf hO1.leaf hO2.leaf hO3.leaf).1 (aq.get 0 Z) (m:=4) S Z (Nat.le_of_ble_eq_true Z) (oo a9.leaf hO1.leaf hO2.leaf hO3.leaf).2 (cells':=[u0,u1,u2,u3]) Z) Z (fun V aq=>?_);replace aq:=aq.perm (MM ..);obtain⟨K2,W,u,aq⟩:=aq.cK (M:=I1++(I2++M0));have hi0:=a9.gS (K:=K2) fun e he=>u e (List.mem_append_right _<|List.mem_append_right _ he)
 have hRt:=qf dl (K:=K2) fun e he=>u e (List.mem_append_left _ he)
 have hRf:=qf dm (K:=K2) fun e he=>u e (List.mem_append_right _<|List.mem_append_left _ he);clear u
 have hb2:=W _ _ bk;have hg2:=hg1.mono W;have hp2:=hp1.mono W fun _ _ h=>h
 refine af ?_;refine B ?_;refine H ?_;refine H ?_;refine ah Z ?_;refine Y Z (ak Z) Z ?_;refine af ?_;refine B ?_;refine aI ?_;refine a6 [6,7,8,9,14,15,16,17,18,19,20,21,22,23,24,25,26,27,28,29,30,31,32,33,34,35,36,37,38,39,40,41,42,43,44,45,46,47,48,49,50,51,52,53,54,55,56,57,58,59,60,61,62,63] (fun j t V=>∃(i:Nat) (K3:KP) (usT usF:List J) (OT OF:Own),(j+i=N_/\KP.le K2 K3/\cS 1 64 RV usT u1 OT/\cS 1 57 RV usF u2 OF/\Rows K3 5 nX (JV q g.threads g.threads N_ i) usT/\Rows K3 2 kz (JV q (g.from_.map (·.map<|lR ps)) g.from_ N_ i) usF)/\t.get 6=some (.int .i64 (.ofNat i))/\St V K3 ((b3,.row [u0,u1,u2,u3] 27 false)::(OT++(OF++(O3++(I3++((b2,.row [.au,.au,.au,.au] 27 false)::L))))))) (N_) ⟨0,K2,bl,bm,O1,O2,⟨Z,KP.le_refl _,hO1,hO2,by rw[Cu hN.symm];exact hRt,by rw[Cu dk];exact hRf⟩,Z,aq⟩ ?_
 clear aq;intro j3 t V an hI;obtain⟨i,K3,usT,usF,OT,OF,⟨h2,aa,bs,bt,hT,hF⟩,bb,aq⟩:=hI;replace an:=an.bS Z Z;obtain⟨o6,o7,o8,o9,h3,h6,h7,h8,an⟩:=an;replace an:=an.bS Z Z;obtain⟨h9,ia,ib,ih,ii,il,im,io,an⟩:=an;replace an:=an.bS Z Z;obtain⟨ip,it,ix,iz,iJ,i0,i1,i3,an⟩:=an;replace an:=an.bS Z Z;obtain⟨i4,i5,dr,ds,dx,dT,d0,d1,an⟩:=an;replace an:=an.bS Z Z;obtain⟨d2,d3,d4,d5,d6,d7,d8,d9,an⟩:=an;replace an:=an.bS Z Z;obtain⟨ee,eg,el,em,en,es,et,ev,an⟩:=an;replace an:=an.mQ Z;obtain⟨ex,i6,i7,i9,an⟩:=an;replace an:=an.eh Z;obtain⟨je,an⟩:=an;replace an:=an.eh Z;obtain⟨jj,an⟩:=an;obtain rfl:=an.nil;clear an;replace bb:o6=some _:=bb;subst bb;refine H ?_;refine H ?_;refine ah Z ?_;have hle23:=aa;have hb3:=aa _ _ hb2;have hg3:=hg2.mono aa;have hp3:=hp2.mono aa fun _ _ h=>h
 refine Y Z (D Z) Z ?_;refine Y Z (D Z) Z ?_;refine Y Z (aO hp3 Z Z Z (e:=3) S Z) Z ?_;refine Y Z (aC Z Z Z) Z ?_;refine af ?_;refine B ?_;refine aD Z (fun a1=>?_) (fun a1=>?_)
 ·refine aG ?_;refine B ?_;refine H ?_;refine aI ?_;refine H ?_;refine ah Z ?_;have U:i<N_:=by have:=aS a1;omega
  obtain⟨row,E⟩:=bZ (show i<g.threads.length by omega);obtain⟨fr,ab⟩:=bZ (show i<g.from_.length by omega);have hpsi:=a5 i U;have hpi:=h.lt i U;have bv:usT.length=N_:=by rw[hT.1,Gd]
  have bw:usF.length=N_:=by rw[hF.1,Gd]
  obtain⟨bo,co,eo,rfl,rfl,b0,b4⟩:=nF bs (fun e=>by rw[e] at bv;simp at bv;omega);obtain⟨bf,cf_,ef,rfl,rfl,e0,e3⟩:=nF bt (fun e=>by rw[e] at bw;simp at bw;omega);replace aq:St V K3 ((b3,.row [u0,.slice bo 0 usT.length co,.slice bf 0 usF.length cf_,u3] 27 false)::(bo,.row usT eo false)::(bf,.row usF ef false)::(O3++(I3++((b2,.row [.au,.au,.au,.au] 27 false)::L)))):=aq;refine Y Z (D Z) Z ?_;refine Y Z (D Z) Z ?_;refine cm (e:=3) (m:=1) hp3 hpsi Z Z S S Z Z (fun _=>Z) (fun jp ho b5 hr b6=>?_);obtain rfl:=b6;refine Y Z (aN aq b5 Z S Z) Z ?_;refine Y Z (aC (v:=.int .i64 (.ofNat<|p i)) Z Z<|congrArg (fun z=>some (J.int .i64 z))<|fP oM) Z ?_;refine Y Z (ak Z) Z ?_;refine af ?_;refine B ?_;refine H ?_;refine aU (l:=[(0,[]),(1,[]),(2,[]),(3,[]),(4,[]),(5,[]),(6,[]),(7,[]),(8,[]),(9,[1]),(10,[]),(11,[])]) S S ?_;refine aj Z Z (az Z (k:=1) S) Z ?_;refine aj Z Z (aw Z (aq.get 0 Z) S Z) Z ?_;refine aj Z Z (D Z) Z ?_;refine lJ aq Z Z (bN (e:=92) (m:=5) (z:=[.int .i64 0,.int .i64 0,.int .i64 0,.int .i64 0,.int .i64 0]) (cs:=[]) S S S S bI) (fun _=>Z) (fun V e4 aq=>?_);replace aq:St V _ ([(e4,.row [] 92 false)]++_):=aq;refine aj Z Z (az Z (k:=1) S) Z ?_;refine aj Z Z (aw Z (aq.eS hb3) S Z) Z ?_;refine aj Z Z (D Z) Z ?_;refine bV (e:=64) (m:=1) hg3.threads E Z Z Z S S Z Z (fun _=>Z) (fun jw hs b7 ht b8=>?_);have hr32':=b8;obtain⟨j1,rfl,b9⟩:=hr32';refine aj Z Z (aN aq b7 Z S Z) Z ?_;refine Ax (R:=nX) (m:=5) (e:=92) cS.empty aq b9 nX.leaf (by have:=dd _ (gB_ E);show 0+_<=_;omega) Z Z Z Z Z Z Z Z (fun _=>Z) (fun V a2 e5 hM34 aq=>?_);refine⟨(aZ (bh Z Z Z Z Z (aw Z (aq.bX.get 0 Z) S Z) (hO1.rD (K:=fun _ _=>False)).dL) aV),?_⟩;refine aj Z Z (iY (e:=64) (m:=1) Z S Z Z (show p i<usT.length by omega)) Z ?_;refine jP aq (.gX (.there .here)) Z Z (kx Z Z hM34.leaf.1 (aq.bX.pop.get 0 Z) (m:=1) S Z oM<|ar hM34.leaf.2 Z) Z (fun V aq=>?_);refine⟨aV,?_⟩;rw[iK oM] at aq;refine a8 ?_;refine B ?_;refine H ?_;refine ah Z ?_;obtain⟨K4,F,u,aq⟩:=aq.cK (M:=e5);have hs34:=hM34.gS (K:=K4) u;clear u;have hb4:=F _ _ hb3;have hg4:=hg3.mono F;have hp4:=hp3.mono F fun _ _ h=>h
  have aq:St V K4 ([]++((b3,.row [u0,.slice bo 0 usT.length co,.slice bf 0 usF.length cf_,u3] 27 false)::(bo,.row (usT.set (p i) a2) eo false)::(bf,.row usF ef false)::(O3++(I3++((b2,.row [.au,.au,.au,.au] 27 false)::L))))):=aq;refine Y Z (ak Z) Z ?_;refine af ?_;refine B ?_;refine H ?_;refine H ?_;refine ah Z ?_;refine Y Z (ak Z) Z ?_;refine af ?_;refine B ?_;refine aI ?_;refine a6 [8,9,36,37,38,39,40,41,42,43,44,45,46,47,48,49,50,51,52,53,54,55,56,57,58] (fun j t V=>∃(i2:Nat) (uf:J) (Mf:Own),(j+i2=fr.length/\cS 2 59 kz ((fr.take i2).map<|lR ps) uf Mf)/\t.get 8=some (uf)/\t.get 9=some (.int .i64 (.ofNat i2))/\St V K4 (Mf++((b3,.row [u0,.slice bo 0 usT.length co,.slice bf 0 usF.length cf_,u3] 27 false)::(bo,.row (usT.set (p i) a2) eo false)::(bf,.row usF ef false)::(O3++(I3++((b2,.row [.au,.au,.au,.au] 27 false)::L)))))) (fr.length) ⟨0,.au,[],⟨Z,.inl ⟨Z,Z,Z⟩⟩,Z,Z,aq⟩ ?_;clear aq;intro j9 t V an hI;obtain⟨i2,uf,Mf,⟨j2,al⟩,bd,be,aq⟩:=hI;replace an:=an.bS Z Z;obtain⟨o8,o9,dr,ds,dx,dT,d0,d1,an⟩:=an;replace an:=an.bS Z Z;obtain⟨d2,d3,d4,d5,d6,d7,d8,d9,an⟩:=an;replace an:=an.bS Z Z;obtain⟨ee,eg,el,em,en,es,et,ev,an⟩:=an;replace an:=an.eh Z;obtain⟨ex,an⟩:=an;obtain rfl:=an.nil;clear an;replace bd:o8=some _:=bd;subst bd;replace be:o9=some _:=be;subst be;refine H ?_;refine H ?_;refine ah Z ?_;refine Y Z (D Z) Z ?_;refine Y Z (az Z (k:=2) S) Z ?_;refine Y Z (aw Z (aq.eS hb4) S Z) Z ?_;refine Y Z (D Z) Z ?_;refine cm (e:=57) (m:=1) hg4.from_ ab Z Z S S Z Z (fun _=>Z) (fun j4 hu ca hw cb=>?_);have hr40':=cb;obtain⟨j5,rfl,cc⟩:=hr40';refine Y Z (aN aq ca Z S Z) Z ?_;refine Y Z (aO cc Z Z Z (e:=59) S Z) Z ?_;refine Y Z (aC Z Z Z) Z ?_;refine af ?_;refine B ?_;refine aD Z (fun ac=>?_) (fun ac=>?_)
  ·refine aG ?_;refine B ?_;refine H ?_;refine aI ?_;refine ah Z ?_;refine Y Z (D Z) Z ?_;refine Y Z (az Z (k:=2) S) Z ?_;refine Y Z (aw Z (aq.eS hb4) S Z) Z ?_;refine Y Z (D Z) Z ?_;refine cm (e:=57) (m:=1) hg4.from_ ab Z Z S S Z Z (fun _=>Z) (fun j6 hA ce hB cg=>?_);have hr50':=cg;obtain⟨j7,rfl,ch⟩:=hr50';refine Y Z (aN aq ce Z S Z) Z ?_;refine Y Z (D Z) Z ?_;obtain⟨ci,am,hC⟩:=cL ac;refine cm (e:=59) (m:=2) ch am Z Z S S Z Z (fun _=>Z) (fun j8 hE cj hH ck=>?_);obtain rfl:=ck;refine Y Z (bE aq cj Z S Z) Z ?_;refine Y Z (D Z) Z ?_;refine bB Z (aT Z Z Z S) (fun _=>Z) (Ky hG hp4 (x:=ci) (by rw[bi];exact vg (by rw[hN];exact rZ hR ab<|gB_ am)) aq) (fun V aq=>?_);refine gw aq Z (bN (e:=59) (m:=2) (z:=[.int .i64 0,.int .i64 0]) (cs:=[_,_]) S S S S<|bA Z Z Z Z bI) (fun _=>Z) (fun V kc aq=>?_);refine fY (R:=kz) (m:=2) (e:=59) al aq (ej (m:=2) (x:=lR ps ci) Z Z) kz.leaf (by rw[lM_,lT_];have:=hR.rows i row fr E ab;have:=hR.short i row E;simp only[List.length_cons,List.length_nil];omega) Z Z Z Z Z Z Z (fun _=>Z) (fun V kd e6 hM58 aq=>?_);refine Y Z (ak Z) Z ?_;refine af ?_;refine aH ?_;refine B ?_;refine ah Z ?_;refine Y Z (D Z) Z ?_;refine Y Z (aC (v:=.int .i64 (.ofNat (i2+1))) Z Z<|congrArg (fun z=>some (J.int .i64 z))<|aX (by have:=aS ac;have:=hR.rows i row fr E ab;have:=hR.short i row E;omega)) Z ?_;refine Y Z (ak Z) Z ?_;refine af ?_;refine aL ⟨j9-1,(by have:=aS ac;omega),(by(iterate 50 refine bc.put Z ?_);exact bc.refl _ _),i2+1,_,e6,⟨by have:=aS ac;omega,by rw[fG am,List.map_append];exact hM58⟩,Z,Z,aq⟩
  refine ba ?_;refine aP ?_;refine aR ?_;refine aM ?_;refine B ?_;refine ah Z ?_;have e7:fr.length<=i2:=bC ac;rw[tL_ e7] at al;refine Y Z (az Z (k:=2) S) Z ?_;refine Y Z (aw Z (aq.bX.get 0 Z) S Z) Z ?_;refine Y Z (D Z) Z ?_;refine Y Z (D Z) Z ?_;refine Y Z (iY (e:=57) (m:=1) Z S Z Z (show p i<usF.length by omega)) Z ?_;refine gj aq (.gX (.there (.there .here))) Z (kx Z Z al.leaf.1 (aq.bX.pop.pop.get 0 Z) (m:=1) S Z oM<|ar al.leaf.2 Z) Z (fun V aq=>?_);rw[iK oM] at aq;obtain⟨K5,C,u,aq⟩:=aq.cK (M:=Mf);have hsf:=al.gS (K:=K5) u;clear u;have hT5:=(hT.mono<|KP.le_trans F C).set (i:=p i) (hs34.mono C fun _ _ h=>h);have hF5:=(hF.mono<|KP.le_trans F C).set (i:=p i) hsf;have hOT5:cS 1 64 RV (usT.set (p i) a2) (.slice bo 0 usT.length co) [(bo,.row (usT.set (p i) a2) eo false)]:=vr List.length_set b0 b4 (Rows.NX hT5);have hOF5:cS 1 57 RV (usF.set (p i) uf) (.slice bf 0 usF.length cf_) [(bf,.row (usF.set (p i) uf) ef false)]:=vr List.length_set e0 e3 (Rows.NX hF5);refine af ?_;refine aH ?_;refine B ?_;refine ah Z ?_;refine Y Z (D Z) Z ?_;refine Y Z (aC (v:=.int .i64 (.ofNat (i+1))) Z Z<|congrArg (fun z=>some (J.int .i64 z))<|aX oM) Z ?_;refine Y Z (ak Z) Z ?_;refine af ?_;refine aL ⟨j3-1,(by have:=aS a1;omega),(by(iterate 118 refine bc.put Z ?_);exact bc.refl _ _),i+1,K5,_,_,_,_,⟨by omega,KP.le_trans hle23<|KP.le_trans F C,hOT5,hOF5,by rw[Ct h U E];exact hT5,by rw[Ct h U (show(g.from_.map (·.map<|lR ps))[i]? =some (fr.map<|lR ps) from by rw[gM_,ab];rfl)];exact hF5⟩,Z,aq⟩
 refine ba ?_;refine aP ?_;refine aR ?_;refine aM ?_;refine B ?_;refine H ?_;refine H ?_;refine ah Z ?_;have U:i=N_:=by have:=bC a1;omega
 rw[U,Mw h] at hT hF;replace aq:=aq.perm (MN ..);obtain⟨K5,C,u,aq⟩:=aq.cK (M:=OT++OF);have hTs:=pe (hT.mono C) bs fun e he=>u e (List.mem_append_left _ he)
 have hFs:=pe (hF.mono C) bt fun e he=>u e (List.mem_append_right _ he);clear u
 have hb6:=C _ _ hb3;have hg6:=hg3.mono C;have hp6:=hp3.mono C fun _ _ h=>h
 refine Y Z (ak Z) Z ?_;refine af ?_;refine B ?_;refine aI ?_;refine a6 [10,11,64,65,66,67,68,69,70,71,72,73,74,75,76,77,78,79,80,81,82,83,84,85,86,87,88,89,90,91,92,93,94,95,96,97] (fun j t V=>∃(x:Nat) (I:Own),(j+x=g.order.length/\eI 2 59 kz ((g.order.take x).map (·.map<|lR ps)++g.order.drop x) T I)/\t.get 10=some (.int .i64 (.ofNat x))/\St V K5 ((b3,.row [u0,u1,u2,u3] 27 false)::(O3++(I++((b2,.row [.au,.au,.au,.au] 27 false)::L))))) (g.order.length) ⟨0,I3,⟨Z,by simpa using dn⟩,Z,aq⟩ ?_
 clear aq;intro e8 t V an hI;obtain⟨x,I,⟨hK,hI⟩,ao,aq⟩:=hI;replace an:=an.bS Z Z;obtain⟨e9,cn,kk,kl,kn,ko,ks,kt,an⟩:=an;replace an:=an.bS Z Z;obtain⟨kw,fd,fi,fk,fs,fv,f0,f1,an⟩:=an;replace an:=an.bS Z Z;obtain⟨f2,f3,f4,f5,f6,f7,f8,f9,an⟩:=an;replace an:=an.bS Z Z;obtain⟨gc,ge,gl,gr,gs,gt,gv,g2,an⟩:=an;replace an:=an.mQ Z;obtain⟨g3,g4,g5,g6,an⟩:=an;obtain rfl:=an.nil;clear an;replace ao:e9=some _:=ao;subst ao;refine H ?_;refine H ?_;refine ah Z ?_;refine Y Z (D Z) Z ?_;refine Y Z (az Z (k:=3) S) Z ?_;refine Y Z (aw Z (aq.eS hb6) S Z) Z ?_;refine Y Z (aO hg6.order Z Z Z (e:=57) S Z) Z ?_;refine Y Z (aC Z Z Z) Z ?_;refine af ?_;refine B ?_;refine aD Z (fun ap=>?_) (fun ap=>?_)
 ·refine aG ?_;refine B ?_;refine H ?_;refine aI ?_;refine H ?_;refine ah Z ?_;have hxl:=aS ap;obtain⟨rw_,ad⟩:=bZ hxl;have hrl:=sk hck _ (gB_ ad);have cp:((g.order.take x).map (·.map<|lR ps)++g.order.drop x)[x]? =some rw_:=OR ad
  refine Y Z (ak Z) Z ?_;refine af ?_;refine B ?_;refine aI ?_;refine a6 [11,71,72,73,74,75,76,77,78,79,80,81,82,83,84,85,86,87,88,89,90,91,92,93,94,95,96,97] (fun j t V=>∃(y:Nat) (I2_:Own),(j+y=rw_.length/\eI 2 59 kz (((g.order.take x).map (·.map<|lR ps)++g.order.drop x).set x ((rw_.take y).map (lR ps)++rw_.drop y)) T I2_)/\t.get 11=some (.int .i64 (.ofNat y))/\St V K5 ((b3,.row [u0,u1,u2,u3] 27 false)::(O3++(I2_++((b2,.row [.au,.au,.au,.au] 27 false)::L))))) (rw_.length) ⟨0,I,⟨Z,by rw[List.take_zero,List.map_nil,List.nil_append,List.drop_zero,C2 cp];exact hI⟩,Z,aq⟩ ?_
  clear aq;intro g7 t V an hI;obtain⟨y,I2_,⟨hL,hI2⟩,av,aq⟩:=hI;replace an:=an.bS Z Z;obtain⟨cn,fd,fi,fk,fs,fv,f0,f1,an⟩:=an;replace an:=an.bS Z Z;obtain⟨f2,f3,f4,f5,f6,f7,f8,f9,an⟩:=an;replace an:=an.bS Z Z;obtain⟨gc,ge,gl,gr,gs,gt,gv,g2,an⟩:=an;replace an:=an.mQ Z;obtain⟨g3,g4,g5,g6,an⟩:=an;obtain rfl:=an.nil;clear an;replace av:cn=some _:=av;subst av;refine H ?_;refine H ?_;refine ah Z ?_;refine Y Z (D Z) Z ?_;refine Y Z (az Z (k:=3) S) Z ?_;refine Y Z (aw Z (aq.eS hb6) S Z) Z ?_;refine Y Z (D Z) Z ?_;refine cm (e:=57) (m:=1) hg6.order ad Z Z S S Z Z (fun _=>Z) (fun kM hM cv hO cw=>?_);have hr75':=cw;obtain⟨kR,rfl,cx⟩:=hr75';refine Y Z (aN aq cv Z S Z) Z ?_;refine Y Z (aO cx Z Z Z (e:=59) S Z) Z ?_;refine Y Z (aC Z Z Z) Z ?_;refine af ?_;refine B ?_;refine aD Z (fun ax=>?_) (fun ax=>?_)
  ·refine aG ?_;refine B ?_;refine H ?_;refine aI ?_;refine aU (l:=[(0,[]),(1,[]),(2,[]),(3,[]),(4,[]),(5,[]),(6,[]),(7,[]),(8,[]),(9,[]),(10,[]),(11,[]),(12,[]),(13,[]),(14,[]),(15,[1,4]),(16,[]),(17,[])]) S S ?_;have hyl:=aS ax;obtain⟨a3,aE⟩:=bZ hyl;have c0:(((g.order.take x).map (·.map<|lR ps)++g.order.drop x).set x ((rw_.take y).map (lR ps)++rw_.drop y))[x]? =some ((rw_.take y).map (lR ps)++rw_.drop y):=List.getElem?_set_self (gA.1 cp).1
   obtain⟨ur,Mr,A,B_,a4,hOr,g9,c1⟩:=hI2.at c0;subst g9;have hul:=(gA.1 a4).1;obtain⟨bo,co,eo,rfl,rfl,b0,b4⟩:=nF hO3 (fun e=>by rw[e] at hul;simp at hul);have a0:((rw_.take y).map (lR ps)++rw_.drop y).length=rw_.length:=by rw[lA_,lM_,lT_,lD_];omega
   obtain⟨br,cr,cells,er,rfl,rfl,c2,ha,hk,hn⟩:∃br cr cells er,ur= .slice br 0 ((rw_.take y).map (lR ps)++rw_.drop y).length cr/\Mr= [(br,.row cells er false)]/\cells.length=((rw_.take y).map (lR ps)++rw_.drop y).length*2/\(∀(i:Nat) (x:cQ),((rw_.take y).map (lR ps)++rw_.drop y)[i]? =some x->kz x ((cells.drop (i*2)).take 2))/\(cr= .known ((rw_.take y).map (lR ps)++rw_.drop y).length∨(cr= .upto 2/\er=59))/\((rw_.take y).map (lR ps)++rw_.drop y).length<=1048576:=by
     rcases hOr with ⟨e,_⟩ | h
     ·rw[e] at a0;simp at a0;omega
     exact h
   replace aq:St V K5 ((b3,.row [u0,u1,u2,.slice bo 0 T.length co] 27 false)::(bo,.row T eo false)::((A++([(br,.row cells er false)]++B_))++((b2,.row [.au,.au,.au,.au] 27 false)::L))):=aq;replace aq:=aq.pull (X:=[(br,.row cells er false)]) (.there (.there .yO));replace aq:St V K5 ((br,.row cells er false)::(b3,.row [u0,u1,u2,.slice bo 0 T.length co] 27 false)::(bo,.row T eo false)::((A++B_)++((b2,.row [.au,.au,.au,.au] 27 false)::L))):=aq;refine aj Z Z (az Z (k:=3) S) Z ?_;refine aj Z Z (aw Z (aq.get 1 Z) S Z) Z ?_;refine aj Z Z (D Z) Z ?_;refine aj Z Z (iY (e:=57) (m:=1) Z S Z Z hul) Z ?_;refine aj Z Z (aw Z (aq.get 2 Z) S (by rw[eU,show 0+x*1=x from by omega];exact a4)) Z ?_;refine aj Z Z (D Z) Z ?_;refine aj Z Z (az Z (k:=3) S) Z ?_;refine aj Z Z (aw Z (aq.eS hb6) S Z) Z ?_;refine aj Z Z (D Z) Z ?_;refine bV (e:=57) (m:=1) hg6.order ad Z Z Z S S Z Z (fun _=>Z) (fun k0 hP c3 hQ c4=>?_);have hr90':=c4;obtain⟨k1,rfl,c5⟩:=hr90';refine aj Z Z (aN aq c3 Z S Z) Z ?_;refine aj Z Z (D Z) Z ?_;refine bV (e:=59) (m:=2) c5 aE Z Z Z S S Z Z (fun _=>Z) (fun k2 hS c7 hU c8=>?_);obtain rfl:=c8;refine aj Z Z (bE aq c7 Z S Z) Z ?_;refine aj Z Z (D Z) Z ?_;refine dZ Z Z (aT Z Z Z S) (fun _=>Z) (Ky hG hp6 (x:=a3) (by rw[bi];exact vg (by rw[hN];exact iH hR ad<|gB_ aE)) aq) (fun V aq=>?_);refine⟨(aZ (bh Z Z Z Z Z (aw Z (aq.get 1 Z) S Z) (hO3.rD (K:=fun _ _=>False)).dL)<|aZ (bh Z Z Z Z Z (aw Z (aq.get 2 Z) S (by rw[eU,show 0+x*1=x from by omega];exact a4)) (hOr.rD (K:=fun _ _=>False)).dL) aV),?_⟩;refine aj Z Z (iY (e:=59) (m:=2) Z S Z Z (show y<((rw_.take y).map (lR ps)++rw_.drop y).length by rw[a0];exact hyl)) Z ?_;refine jP aq .here Z Z (bg Z Z Z (aq.get 0 Z) (m:=2) S Z (by rw[c2,a0];omega) (ar Z<|ar Z aQ) Z) Z (fun V aq=>?_);refine⟨aV,?_⟩;refine a8 ?_;refine aH ?_;refine B ?_;refine ah Z ?_;rw[nA_] at aq;have hOr2:=MJ (b:=br) c2 ha hk hn (i:=y) (by rw[a0];exact hyl) (y:=lR ps a3) (vs:=[.int .i64 (lR ps a3).cq,.int .i64 (lR ps a3).index]) Z Z;have hI3_:=c1 _ _ _ hOr2;rw[Kh aE] at hI3_;rw[List.set_set,C2 a4] at hI3_;replace aq:=aq.push (X:=[_]) (L:=_::_::((A++([_]++B_))++((b2,.row [.au,.au,.au,.au] 27 false)::L))) (.there (.there .yO));refine Y Z (D Z) Z ?_;refine Y Z (aC (v:=.int .i64 (.ofNat (y+1))) Z Z<|congrArg (fun z=>some (J.int .i64 z))<|aX oM) Z ?_;refine Y Z (ak Z) Z ?_;refine af ?_
   refine aL ⟨g7-1,(by have:=aS ax;omega),(by(iterate 56 refine bc.put Z ?_);exact bc.refl _ _),y+1,_,⟨by have:=aS ax;omega,hI3_⟩,Z,aq⟩
  refine ba ?_;refine aP ?_;refine aR ?_;refine aM ?_;refine aH ?_;refine B ?_;refine ah Z ?_;have hyn:=bC ax;rw[tL_ hyn,List.drop_of_length_le hyn,List.append_nil,Kg ad] at hI2;refine Y Z (D Z) Z ?_;refine Y Z (aC (v:=.int .i64 (.ofNat (x+1))) Z Z<|congrArg (fun z=>some (J.int .i64 z))<|aX oM) Z ?_;refine Y Z (ak Z) Z ?_;refine af ?_;refine aL ⟨e8-1,(by have:=aS ap;omega),(by(iterate 81 refine bc.put Z ?_);exact bc.refl _ _),x+1,_,⟨by have:=aS ap;omega,hI2⟩,Z,aq⟩
 refine ba ?_;refine aP ?_;refine aR ?_;refine aM ?_;refine B ?_;refine H ?_;refine ah Z ?_;have hxn:=bC ap;rw[tL_ hxn,List.drop_of_length_le hxn,List.append_nil] at hI;refine Y Z (bp Z (aq.get 0 Z) (n:=4) (vs:=[_,_,_,_]) S (Nat.le_of_ble_eq_true Z) Z) Z ?_;refine gj aq (.there (.gX (.gX .here))) Z (bg Z Z (oo hi0.leaf hTs.leaf hFs.leaf hO3.leaf).1 (aq.pop.bX.bX.get 0 Z) (m:=4) S Z (Nat.le_of_ble_eq_true Z) (oo hi0.leaf hTs.leaf hFs.leaf hO3.leaf).2 (cells':=[u0,u1,u2,u3]) Z) Z (fun V aq=>?_);refine af ?_;refine B ?_;refine aF ?_;replace aq:=aq.perm (MO ..);obtain⟨K7,Q,u,aq⟩:=aq.cK (M:=O3++I);have hOs:=pe (qf hI (K:=K7) fun e he=>u e (List.mem_append_right _ he)) hO3 fun e he=>u e (List.mem_append_left _ he);clear u
 have hl37:=KP.le_trans C Q;have hl27:=KP.le_trans hle23 hl37;subst U;exact⟨.inr Z,_,iq Z Z (aq.get 0 Z) (m:=4) S Z,K7,_,_,_,_,Z,KP.le_trans ai<|KP.le_trans W hl27,by subst hN;rw[yV hR h a5];exact⟨hi0.mono hl27 fun _ _ h=>h,hTs.mono Q fun _ _ h=>h.mono Q,hFs.mono Q fun _ _ h=>h.mono Q,hOs⟩,aq.pop.pop⟩
theorem JC {x:Int} {n:Nat} (h1:dy x 1=false) (b:dy (.ofNat n) x=false):∃v:Nat,v<n/\x= .ofNat (v+1):=by
 rw[eM] at h1 b;have h1:¬x<1:=of_decide_eq_false h1;have b:¬(Int.ofNat n)<x:=of_decide_eq_false b;refine⟨x.toNat-1,?_,?_⟩
 ·have:Int.ofNat n=(n:Int):=rfl;omega
 have:Int.ofNat n=(n:Int):=rfl;have e:((x.toNat-1+1:Nat):Int)=x:=by omega
 exact e.symm
theorem kK.low {n:Nat} {ps:List Int} (h:kK n ps) {i:Nat} {x:Int} (hx:ps[i]? =some x):dy x 1=false/\dy (.ofNat n) x=false:=by
 obtain⟨⟨v,h1,rfl⟩,_⟩:=h.fresh hx;constructor
 ·rw[show(1:Int)= .ofNat 1 from Z,gM];simp
 rw[gM];simp;omega
theorem Pa {G:Cx} (hG:Plain G) {K:KP} {g:XG} {a b c d:J} (hg:dj K g a b c d) {ps:List Int} {pv:J} (hp:bG K 1 cH ps pv) {V:N} {L:Own} (aq:St V K L):
  aW Tryz.prog G 12 [.agg [a,b,c,d],pv] V fun v V'=>∃K' a' b' c' d',v= .tuple [.agg [a',b',c',d'],.int .i64<|JS g ps]/\KP.le K K'/\dj K' (JT g ps) a' b' c' d'/\St V' K' L:=by
 refine aY hG Tryz.func12 Z (t:=(PT.leaf.put (some (.agg [a,b,c,d])) 0).put (some (pv)) 1) (by rfl) ?_;refine H ?_;refine ah Z ?_;refine bJ aq Z (cG Z Z) (fun _=>Z) (fun V b1 aq=>?_);refine bJ aq Z (dG (cs:=[.au,.au,.au,.au]) S S) (fun _=>Z) (fun V b2 aq=>?_);refine Y Z (ak Z) Z ?_;refine af ?_;refine B ?_;refine H ?_;refine H ?_;refine ah Z ?_;refine Y Z (bp Z (aq.get 1 Z) (n:=4) (vs:=[_,_,_,_]) S (Nat.le_of_ble_eq_true Z) Z) Z ?_;refine bB Z (aT Z Z Z S) (fun _=>Z) (zu hG hg aq) (fun V aq=>?_);refine Y Z (aC Z Z Z) Z ?_;refine bx Z (D Z) (fun _=>Z) (fun Q=>?_) (fun Q=>?_)
 ·refine ae Z Z ?_;refine ae Z Z ?_;refine ae Z Z ?_;refine ae Z Z ?_;refine ae Z Z ?_;refine ae Z Z ?_;refine Y Z (aJ Z Z) Z ?_;refine af ?_;refine B ?_;refine bj Z ?_;refine H ?_;refine ah Z ?_;refine Y Z (dC (places:=[(0,1),(1,1),(2,1),(3,1)]) (zero:=[.au,.au,.au,.au]) (cs:=[_,_,_,_]) S S S Z S) Z ?_;refine cF aq Z (bg Z Z Z (aq.get 0 Z) (m:=4) S Z (Nat.le_of_ble_eq_true Z) (ar Z<|ar Z<|ar Z<|ar Z aQ) (cells':=[_,_,_,_]) Z) Z (fun V aq=>?_);refine Y Z (ak Z) Z ?_;refine af ?_;refine B ?_;refine aF ?_;refine ay (?_);have u:bY g≠0∨ps.length≠g.threads.length∨¬kK g.threads.length ps:=(.inl<|fX<|bL Q);exact⟨.inr Z,_,dJ Z Z (aq.get 0 Z) (m:=4) S Z Z,K,_,_,_,_,by rw[jn u],KP.le_refl _,by rw[kj u];exact dj.zero,aq.pop.pop⟩
 refine Y Z (D Z) Z ?_;refine Y Z (aO hp Z Z Z (e:=3) S Z) Z ?_;refine Y Z (az Z (k:=1) S) Z ?_;refine Y Z (aw Z (aq.get 1 Z) S Z) Z ?_;refine Y Z (aO hg.threads Z Z Z (e:=64) S Z) Z ?_;refine Y Z (aC Z Z Z) Z ?_;refine Y Z (aJ Z Z) Z ?_;refine af ?_;refine B ?_;refine aD Z (fun E=>?_) (fun E=>?_)
 ·refine H ?_;refine ah Z ?_;refine Y Z (dC (places:=[(0,1),(1,1),(2,1),(3,1)]) (zero:=[.au,.au,.au,.au]) (cs:=[_,_,_,_]) S S S Z S) Z ?_;refine cF aq Z (bg Z Z Z (aq.get 0 Z) (m:=4) S Z (Nat.le_of_ble_eq_true Z) (ar Z<|ar Z<|ar Z<|ar Z aQ) (cells':=[_,_,_,_]) Z) Z (fun V aq=>?_);refine Y Z (ak Z) Z ?_;refine af ?_;refine B ?_;refine aF ?_;refine ay (?_);have u:bY g≠0∨ps.length≠g.threads.length∨¬kK g.threads.length ps:=(.inr (.inl fun e=>fX (bL E) (by rw[e])));exact⟨.inr Z,_,dJ Z Z (aq.get 0 Z) (m:=4) S Z Z,K,_,_,_,_,by rw[jn u],KP.le_refl _,by rw[kj u];exact dj.zero,aq.pop.pop⟩
 refine aG ?_;refine B ?_;refine H ?_;refine H ?_;refine ah Z ?_;refine Y Z (ak Z) Z ?_;refine af ?_;refine B ?_;refine aI ?_;obtain⟨LL1,aq,hLL1⟩:=aq.named;refine a6 [5,6,19,20,21,22,23,24,25,26,27,28,29,30,31,32,33,34,35,36,37,38,39,40,41,42,43,44,45,46,47,48,49] (fun j t V=>∃(i:Nat),(j+i=ps.length/\∀(v:Nat) (x:Int),v<i->ps[v]? =some x->(∃w:Nat,w<g.threads.length/\x= .ofNat (w+1))/\(ps.take v).any (fun y=>bM y x)=false)/\t.get 6=some (.int .i64 (.ofNat i))/\St V K LL1) (ps.length) ⟨0,⟨Z,fun v x hv=>absurd hv (nZ_ _)⟩,Z,aq⟩ ?_;clear aq;intro j4 t V an hI;obtain⟨i,⟨a5,M⟩,R,aq⟩:=hI;subst hLL1;replace an:=an.bS Z Z;obtain⟨o5,o6,a9,bb,bd,be,bf,bi,an⟩:=an;replace an:=an.bS Z Z;obtain⟨bk,bl,bm,bo,br,bs,bt,bv,an⟩:=an;replace an:=an.bS Z Z;obtain⟨bw,b0,b3,b4,b5,b6,b7,b8,an⟩:=an;replace an:=an.bS Z Z;obtain⟨b9,ca,cb,cc,ce,cg,ch,ci,an⟩:=an;replace an:=an.eh Z;obtain⟨cj,an⟩:=an;obtain rfl:=an.nil;clear an;replace R:o6=some _:=R;subst R;refine H ?_;refine H ?_;refine ah Z ?_;refine Y Z (D Z) Z ?_;refine Y Z (D Z) Z ?_;refine Y Z (aO hp Z Z Z (e:=3) S Z) Z ?_;refine Y Z (aC Z Z Z) Z ?_;refine af ?_;refine B ?_;refine aD Z (fun F=>?_) (fun F=>?_)
 ·refine aG ?_;refine B ?_;refine H ?_;refine aI ?_;refine H ?_;refine aU (l:=[(0,[]),(1,[]),(2,[]),(3,[]),(4,[]),(5,[]),(6,[]),(7,[]),(8,[]),(9,[]),(10,[]),(11,[]),(12,[]),(13,[]),(14,[]),(15,[]),(16,[]),(17,[]),(18,[]),(19,[]),(20,[]),(21,[]),(22,[]),(23,[])]) S S ?_;refine aj Z Z (D Z) Z ?_;refine aj Z Z (D Z) Z ?_;obtain⟨T,C,av⟩:=cL F;refine bV (e:=3) (m:=1) hp C Z Z Z S S Z Z (fun _=>Z) (fun ck ax ab aE ac=>?_);obtain rfl:=ac;refine aj Z Z (aN aq ab Z S Z) Z ?_;refine aj Z Z (aC Z Z Z) Z ?_;refine jo Z Z (D Z) (fun _=>Z) (fun U=>?_) (fun U=>?_)
  ·refine aB Z Z Z ?_;refine aB Z Z Z ?_;refine aB Z Z Z ?_;refine aB Z Z Z ?_;refine aB Z Z Z ?_;refine aB Z Z Z ?_;refine aB Z Z Z ?_;refine aj Z Z (aJ Z Z) Z ?_;refine aj Z Z (D Z) Z ?_;refine aB Z Z Z ?_;refine aB Z Z Z ?_;refine aB Z Z Z ?_;refine aB Z Z Z ?_;refine aB Z Z Z ?_;refine aB Z Z Z ?_;refine aB Z Z Z ?_;refine aB Z Z Z ?_;refine aj Z Z (aJ Z Z) Z ?_;refine a8 ?_;refine B ?_;refine bj Z ?_;refine H ?_;refine ah Z ?_;refine Y Z (dC (places:=[(0,1),(1,1),(2,1),(3,1)]) (zero:=[.au,.au,.au,.au]) (cs:=[_,_,_,_]) S S S Z S) Z ?_;refine cF aq Z (bg Z Z Z (aq.get 0 Z) (m:=4) S Z (Nat.le_of_ble_eq_true Z) (ar Z<|ar Z<|ar Z<|ar Z aQ) (cells':=[_,_,_,_]) Z) Z (fun V aq=>?_);refine Y Z (ak Z) Z ?_;refine af ?_;refine B ?_;refine aF ?_;refine aK<|ay<|bq<|aK<|ay (?_);have hlen:ps.length=g.threads.length:=iJ_ (fl E);have u:bY g≠0∨ps.length≠g.threads.length∨¬kK g.threads.length ps:=(.inr (.inr fun A=>by have h9:=(A.low C).1;rw[show dy T 1=true from U] at h9;cases h9));exact⟨.inr Z,_,dJ Z Z (aq.get 0 Z) (m:=4) S Z Z,K,_,_,_,_,by rw[jn u],KP.le_refl _,by rw[kj u];exact dj.zero,aq.pop.pop⟩
  refine aj Z Z (D Z) Z ?_;refine aj Z Z (D Z) Z ?_;refine bV (e:=3) (m:=1) hp C Z Z Z S S Z Z (fun _=>Z) (fun cn a0 ad a2 ai=>?_);obtain rfl:=ai;refine aj Z Z (aN aq ad Z S Z) Z ?_;refine aj Z Z (D Z) Z ?_;refine aj Z Z (aO hp Z Z Z (e:=3) S Z) Z ?_;refine aj Z Z (aC Z Z Z) Z ?_;refine aj Z Z (aJ Z Z) Z ?_;refine jo Z Z (D Z) (fun _=>Z) (fun W=>?_) (fun W=>?_)
  ·refine aB Z Z Z ?_;refine aB Z Z Z ?_;refine aB Z Z Z ?_;refine aB Z Z Z ?_;refine aB Z Z Z ?_;refine aB Z Z Z ?_;refine aB Z Z Z ?_;refine aB Z Z Z ?_;refine aj Z Z (aJ Z Z) Z ?_;refine a8 ?_;refine B ?_;refine bj Z ?_;refine H ?_;refine ah Z ?_;refine Y Z (dC (places:=[(0,1),(1,1),(2,1),(3,1)]) (zero:=[.au,.au,.au,.au]) (cs:=[_,_,_,_]) S S S Z S) Z ?_;refine cF aq Z (bg Z Z Z (aq.get 0 Z) (m:=4) S Z (Nat.le_of_ble_eq_true Z) (ar Z<|ar Z<|ar Z<|ar Z aQ) (cells':=[_,_,_,_]) Z) Z (fun V aq=>?_);refine Y Z (ak Z) Z ?_;refine af ?_;refine B ?_;refine aF ?_;refine aK<|ay<|bq<|aK<|ay (?_);have hlen:ps.length=g.threads.length:=iJ_ (fl E);have u:bY g≠0∨ps.length≠g.threads.length∨¬kK g.threads.length ps:=(.inr (.inr fun A=>by have h9:=(A.low C).2;rw[<-hlen,show dy (.ofNat ps.length) T=true from W] at h9;cases h9));exact⟨.inr Z,_,dJ Z Z (aq.get 0 Z) (m:=4) S Z Z,K,_,_,_,_,by rw[jn u],KP.le_refl _,by rw[kj u];exact dj.zero,aq.pop.pop⟩
  refine aj Z Z (D Z) Z ?_;refine aj Z Z (D Z) Z ?_;refine HV (e:=3) (m:=1) (k:=i) hp (Nat.le_of_lt<|aS F) Z Z Z S S Z Z (fun _=>Z) (fun cp al=>?_);refine aj Z Z (D Z) Z ?_;refine aj Z Z (D Z) Z ?_;refine bV (e:=3) (m:=1) hp C Z Z Z S S Z Z (fun _=>Z) (fun cq a3 am a4 ao=>?_);obtain rfl:=ao;refine aj Z Z (aN aq am Z S Z) Z ?_;refine dZ Z Z (aT Z Z Z S) (fun _=>Z) (Kz hG al _ aq) (fun V aq=>?_);refine⟨aV,?_⟩;refine aj Z Z (aJ Z Z) Z ?_;refine a8 ?_;refine B ?_;refine aD Z (fun X=>?_) (fun X=>?_)
  ·refine H ?_;refine ah Z ?_;refine Y Z (dC (places:=[(0,1),(1,1),(2,1),(3,1)]) (zero:=[.au,.au,.au,.au]) (cs:=[_,_,_,_]) S S S Z S) Z ?_;refine cF aq Z (bg Z Z Z (aq.get 0 Z) (m:=4) S Z (Nat.le_of_ble_eq_true Z) (ar Z<|ar Z<|ar Z<|ar Z aQ) (cells':=[_,_,_,_]) Z) Z (fun V aq=>?_);refine Y Z (ak Z) Z ?_;refine af ?_;refine B ?_;refine aF ?_;refine aK<|ay<|bq<|aK<|ay (?_);have hlen:ps.length=g.threads.length:=iJ_ (fl E);have u:bY g≠0∨ps.length≠g.threads.length∨¬kK g.threads.length ps:=(.inr (.inr fun A=>by have h9:=(A.fresh C).2;rw[show(ps.take i).any (fun y=>bM y T)=true from X] at h9;cases h9));exact⟨.inr Z,_,dJ Z Z (aq.get 0 Z) (m:=4) S Z Z,K,_,_,_,_,by rw[jn u],KP.le_refl _,by rw[kj u];exact dj.zero,aq.pop.pop⟩
  refine aG ?_;refine aH ?_;refine B ?_;refine ah Z ?_;refine Y Z (D Z) Z ?_;refine Y Z (aC (v:=.int .i64 (.ofNat (i+1))) Z Z<|congrArg (fun z=>some (J.int .i64 z))<|aX (by have:=hp.bK;have:=aS F;omega)) Z ?_;refine Y Z (ak Z) Z ?_;refine af ?_
  refine aL ⟨j4-1,(by have:=aS F;omega),(by(iterate 64 refine bc.put Z ?_);exact bc.refl _ _),i+1,⟨by have:=aS F;omega,fun v x hv hx=>by
    by_cases e:v=i
    ·subst e;rw[C] at hx;cases hx;exact⟨JC U (by rw[<-show ps.length=g.threads.length from iJ_ (fl E)];exact W),X⟩
    exact M v x oM hx⟩,Z,aq⟩
 refine ba ?_;refine aP ?_;refine aR ?_;refine aM ?_;refine B ?_;refine H ?_;refine ah Z ?_;refine Y Z (bp Z (aq.get 1 Z) (n:=4) (vs:=[_,_,_,_]) S (Nat.le_of_ble_eq_true Z) Z) Z ?_;refine Y Z (D Z) Z ?_;have aa:bY g=0:=fl Q;have hlen:ps.length=g.threads.length:=iJ_ (fl E);have hiN:=bC F;have A:kK g.threads.length ps:=Km hlen fun v x hx=>M v x (by have:=(gA.1 hx).1;omega) hx
 refine cR Z (aT Z Z Z S) (fun _=>Z) (Gw hG hg (ei.1 aa) hp (nQ A).1 hlen (nQ A).2 aq) ?_;rintro _ V ⟨K1,a1,b1_,c1,d1,rfl,ap,I,aq⟩;refine cF aq Z (bg Z Z Z (aq.get 0 Z) (m:=4) S Z (Nat.le_of_ble_eq_true Z) (ar I.init.leaf.2<|ar I.threads.leaf.2<|ar I.from_.leaf.2<|ar I.order.leaf.2 aQ) (cells':=[_,_,_,_]) Z) Z (fun V aq=>?_);refine Y Z (ak Z) Z ?_;refine af ?_;refine B ?_;refine aF ?_;exact⟨.inr Z,_,dJ Z Z (aq.get 0 Z) (m:=4) S Z Z,K1,_,_,_,_,by rw[tB aa hlen A],ap,by rw[yU aa hlen A];exact I,aq.pop.pop⟩
end Go.Ev
namespace Go.Ev
variable [Env]
section
variable {α:Type} {m E:Nat} {R:α->List J->Prop}
section
variable {P:Program} {K:KP} {L:Own}
theorem HU {l l2:List α} {u v2:J} {M:Own} {e:Nat} {ts:Array TypeId} {t:TypeId} {V:N} (ho:mI m e R l u M) (aq:St V K (M++L))
  (hx:bG K m R l2 v2) (d:∀x vs,R x vs->bO vs=true) (hn:l2.length<=1000) (hl:l.length<=1000000)
  (ht:ts[0]? =some t) (hu:P.underlying t=some (.slice e)) (T:nh P e m=true) (h2:dt P ts[1]? =true):
  ∃V' u' M',eR P V ts u v2= .val u' V'/\mI m e R (l++l2) u' M'/\St V' K (M'++L):=by
 have hk:=aq;have A:St V K (M++L):=aq;rcases ho with ⟨rfl,rfl,rfl⟩ | ⟨b,c,cells,e',rfl,rfl,h3,h4,h5,h6⟩
 ·cases l2 with
  | nil=>exact⟨V,_,[],zC hk hx d ht hu T h2,.inl ⟨Z,Z,Z⟩,hk⟩
  | cons x0 l2=>
   obtain⟨news,k1,k2,k3⟩:=zD (P:=P) hk hx d oM (by simp) ht hu T h2;exact⟨_,_,[(V.next,.row news e false)],k1,.inr ⟨_,_,news,e,Z,Z,by simp_all,k3,.inr ⟨Z,Z⟩,by grind⟩,hk.alloc (.row news e false)⟩
 obtain⟨news,s1,s2,s3,s4⟩:=qi hk hx d;unfold nh at T;split at T
 ·rename_i j hj;simp only[bA_] at T;obtain⟨a1,a2,a3,a4⟩:=T;have hm:j.size=m:=nB a1;subst hm;have hz:((P.info? e).any fun j=>(j.zero.bind nP).any fun z=>(cd z).any fun cs=>Nat.beq (di cs) j.size)=true:=by rw[hj];exact a4
  have hb:=A.get 0 Z;have hlen:(l++l2).length=l.length+l2.length:=lA_;have hmul:(l.length+l2.length)*j.size=l.length*j.size+l2.length*j.size:=Nat.add_mul ..;unfold eR;rw[ht];dsimp only;rw[hu];dsimp only;rw[hj];dsimp only;rw[h2,a2,a3];simp only[Bool.and_self,cond_true];rw[s1];dsimp only;rw[hj] at hz;rw[s3,show Nat.ble l2.length 1048576=true by rw[nE_];omega,hz];simp only[Bool.and_self,cond_true];have hle:Nat.ble (0+l.length*j.size) (di cells)=true:=by rw[nE_,bT];omega
  have C:takeN (dK cells 0) (l.length*j.size)=cells.take (l.length*j.size):=by rw[dp,dF,List.drop_zero]
  have U:Nat.ble l.length 1048576=true:=by simp_all
  have hA:(cells.take (l.length*j.size)).length=l.length*j.size:=by simp_all
  have aa:l.length*j.size+news.length<=cells.length->dB news cells (0+l.length*j.size)=cells.take (l.length*j.size)++(news++cells.drop (l.length*j.size+news.length)):=fun hh=>by
   rw[nA_,kW _ _ _ oM,lQ_]
  have W:l.length*j.size+news.length<=cells.length->∀c',((∃n,c'=nL.known n/\(l++l2).length<=n/\n*j.size<=cells.length)∨(c'=nL.upto j.size/\e'=e))->mI j.size e R (l++l2) (.slice b 0 (l.length+l2.length) c') [(b,.row (dB news cells (0+l.length*j.size)) e' false)]:=fun hh c' I=>by
   have ab:(dB news cells (0+l.length*j.size)).length=cells.length:=by
    grind
   refine .inr ⟨b,c',_,e',by rw[hlen],Z,by simp_all,?_,by rw[ab];exact I,by rw[hlen];omega⟩;rw[aa hh];exact yi h3 h4 s2 s4
  have X:mI j.size e R (l++l2) (.slice V.next 0 (l.length+l2.length) (.upto j.size)) [(V.next,.row (cells.take (l.length*j.size)++news) e false)]:=by
   refine .inr ⟨_,_,_,e,by rw[hlen],Z,by simp_all,?_,.inr ⟨Z,Z⟩,by rw[hlen];omega⟩;have:=yi (Zv:=[]) h3 h4 s2 s4
   simp_all
  rcases h5 with ⟨n,rfl,h7,h8⟩ | ⟨rfl,rfl⟩
  ·dsimp only;cases hc:Nat.ble (l.length+l2.length) n with
   | true=>
    have I:l.length+l2.length<=n:=by simp_all
    have F:l.length*j.size+news.length<=cells.length:=by
     have:(l.length+l2.length)*j.size<=n*j.size:=nM_ _ I;rw[s2];omega
    simp only[cond_true];rw[hb];dsimp only;rw[show Nat.ble (0+l.length*j.size+di news) (di cells)=true by rw[nE_,bT,bT];omega];simp only[cond_true];exact⟨_,_,[(b,_)],Z,W F _ (.inl ⟨n,Z,by rw[hlen];exact I,h8⟩),A.tO _⟩
   | false=>
    simp only[cond_false];rw[hb];dsimp only;rw[hle,U,C,dH];simp only[Bool.and_self,cond_true];exact⟨_,_,[(V.next,_)],Z,X,((A.alloc _).perm<|List.Perm.swap ..).pop⟩
  dsimp only;cases h0:Nat.beq l2.length 0 with
  | true=>
   have e0:l2= []:=eN_ (nB h0);subst e0;rw[Nat.beq_refl,U];simp only[Bool.and_self,cond_true,cond_false];exact⟨V,_,[(b,.row cells e' false)],Z,by rw[List.append_nil];exact .inr ⟨b,.upto j.size,cells,e',Z,Z,h3,h4,.inr ⟨Z,Z⟩,h6⟩,A⟩
  | false=>
   rw[Nat.beq_refl,U];simp only[Bool.and_self,cond_true,cond_false];rw[hb];dsimp only;cases hf:(Nat.ble 1 l.length && Nat.ble (0+l.length*j.size+di news) (di cells)) with
   | true=>
    have F:l.length*j.size+news.length<=cells.length:=by
     rw[bA_,nE_,nE_,bT,bT] at hf;omega
    simp only[cond_true];exact⟨_,_,[(b,_)],Z,W F _ (.inr ⟨Z,Z⟩),A.tO _⟩
   | false=>
    simp only[cond_false];rw[hle,Nat.beq_refl,C,dH];simp only[Bool.and_self,cond_true];exact⟨_,_,[(V.next,_)],Z,X,A.xl _⟩
 cases T
end
end
section
variable {P:Program} {G:Cx} {n:Nat} {t:PT J} {V:N} {K:KP} {L:Own} {Q:Ex->PT J->N->Prop} {ops:Array Oper} {o:Oper} {l:List Oper} {lp:List (Nat×List Nat)} {ix:Nat} {rc:List Nat}
theorem Ay {α:Type} {m e:Nat} {R:α->List J->Prop} {la l2:List α} {u T:J} {M:Own} {ty:TypeId} {cl:Call} {so xo:Operand} {t':J->PT J} (W:mI m e R la u M) (X:St V K (M++L)) (hx:bG K m R l2 T) (b:∀x vs,R x vs->bO vs=true) (hn:l2.length<=1000) (hl:la.length<=1000000)
  (A:ops[ix]? =some o) (hw:bF ops t o=some true) (ho:o.op= .call cl) (C:cl.callee= .builtin .append) (d:cl.args.toList= [so,xo]) (ht:cl.argTypes[0]? =some ty) (F:bn G t so=some u) (I:bn G t xo=some T) (hp:∀v,dA t n o.dst v=some (t' v))
  (h:∀(V':N) (u':J) (M':Own),mI m e R (la++l2) u' M'->St V' K (M'++L)->dc P G ops (t' u') V' rc=true/\cE P G ops n lp (t' u') V' Q) (hu:P.underlying ty=some (.slice e):=by kernel_rfl) (ha:nh P e m=true:=by kernel_rfl) (U:dt P cl.argTypes[1]? =true:=by kernel_rfl):cE P G ops n ((ix,rc)::lp) t V Q:=by
 obtain⟨V',u',M',k1,k2,k3⟩:=HU (P:=P) W X hx b hn hl ht hu ha U;refine kg A hw ?_ (hp _)<|h V' u' M' k2 k3;rw[ho];exact iL C d F I U k1
end
end Go.Ev
namespace Go.Ev
variable [Env]
open Go.Proofs
set_option maxRecDepth 4000
set_option maxHeartbeats 8000000
theorem OL {z:Int} (h:dy z 0=true):z<0:=by rw[eM] at h;exact of_decide_eq_true h
theorem Mv {z:Int} (h:dy z 0=false):¬z<0:=by rw[eM] at h;exact of_decide_eq_false h
theorem mI.jC {α:Type} {m E:Nat} {R R':α->List J->Prop} {l:List α} {u:J} {M:Own} (h:mI m E R l u M) (d:∀x vs,R x vs->R' x vs):mI m E R' l u M:=by
 rcases h with h | ⟨b,c,cells,e,h1,A,C,h4,h5,F⟩
 ·exact .inl h
 exact .inr ⟨b,c,cells,e,h1,A,C,fun i x hx=>d _ _ (h4 i x hx),h5,F⟩
theorem Om.Qa {K:KP} {g:XG} {I u A u3:J} {b d m:List J} {L O1 M O2 Q O3 R:Own} (h:Om g I L u b O1 M A d O2 Q u3 m O3 R) (hk:∀e∈O3++(R++(O2++(Q++(O1++(M++L))))),K e.1 e.2):dj K g I u A u3:=by
 obtain⟨C,E,F,G,hO1_,hO2_,hO3_⟩:=h;have hO1:cS 1 64 RV b u O1:=hO1_;have hO2:cS 1 57 RV d A O2:=hO2_;have hO3:cS 1 57 RV m u3 O3:=hO3_;simp only[List.mem_append] at hk;exact⟨C.gS fun e he=>hk e (by simp only[he,or_true]),pe (qf E fun e he=>hk e (by simp only[he,true_or,or_true])) hO1 (fun e he=>hk e (by simp only[he,true_or,or_true])),pe (qf F fun e he=>hk e (by simp only[he,true_or,or_true])) hO2 (fun e he=>hk e (by simp only[he,true_or,or_true])),pe (qf G fun e he=>hk e (by simp only[he,true_or,or_true])) hO3 (fun e he=>hk e (by simp only[he,true_or]))⟩
theorem Gn {α:Type} (b d m u A C E L:List α):(b++(d++(m++(u++(A++(C++(E++L))))))).Perm ((b++(d++(m++(u++(A++(C++E))))))++L):=by simp only[lQ_];exact List.Perm.refl _
theorem Gp {α:Type} (A B_ L:List α):(A++(B_++L)).Perm (B_++(A++L)):=by
 rw[<-lQ_,<-lQ_];exact List.Perm.append_right _ List.perm_append_comm
section
variable {α:Type} {c:α->α->Int} {x:α}
theorem vh:∀{l:List α} {k:Nat},(∀y∈l.take k,c y x<0)->ic c l x=l.take k++ic c (l.drop k) x
 | [],k,_=>by simp
 | y::l,0,_=>by simp
 | y::l,k+1,h=>by
  have h1:c y x<0:=h y (by simp);show(if c y x<0 then y::ic c l x else _)=_;rw[if_pos h1,vh (l:=l) (k:=k) fun z hz=>h z (by simp[hz])];simp
theorem JD {l:List α} {k:Nat} (h:∀y∈l.take k,c y x<0) (hk:l.length<=k):ic c l x=l.take k++[x]++l.drop k:=by
 rw[vh h,List.drop_of_length_le hk];simp[ic]
theorem Hy {l:List α} {k:Nat} {y:α} (h:∀y∈l.take k,c y x<0) (hy:l[k]? =some y) (h0:c y x=0):ic c l x=l:=by
 rw[vh h,cz hy];show l.take k++(if c y x<0 then _ else if c y x=0 then y::_ else _)=l;rw[if_neg oM,if_pos h0,<-cz hy,List.take_append_drop]
theorem JE {l:List α} {k:Nat} {y:α} (h:∀y∈l.take k,c y x<0) (hy:l[k]? =some y) (h1:¬c y x<0) (b:c y x≠0):ic c l x=l.take k++[x]++l.drop k:=by
 rw[vh h,cz hy];show l.take k++(if c y x<0 then _ else if c y x=0 then _ else x::y::_)=_;rw[if_neg h1,if_neg b,lQ_];rfl
theorem Cc:∀{l:List α},(ic c l x).length<=l.length+1
 | []=>nR_ _
 | y::l=>by
  show(if c y x<0 then y::ic c l x else if c y x=0 then y::l else x::y::l).length<=_;have:=Cc (l:=l);split
  ·simp only[List.length_cons];omega
  split<;>simp only[List.length_cons]<;>omega
theorem Cg:∀{l:List α} {z:α},z∈ic c l x->z∈l∨z=x
 | [],z,h=>.inr (List.mem_singleton.1 h)
 | y::l,z,h=>by
  have h:z∈(if c y x<0 then y::ic c l x else if c y x=0 then y::l else x::y::l):=h;split at h
  ·rcases mQ_.1 h with rfl | h
   ·exact .inl<|mS_ ..
   rcases Cg h with h | h
   ·exact .inl<|mC_ _ h
   exact .inr h
  split at h
  ·exact .inl h
  rcases mQ_.1 h with rfl | h
  ·exact .inr Z
  exact .inl h
theorem nI {l:List α} {i:Nat} (h:l[i]? =some x):fT c (l.take (i+1))=ic c (fT c<|l.take i) x:=by
 unfold fT;rw[fG h,List.foldl_append];rfl
theorem pw {l:List α}:∀i,(fT c<|l.take i).length<=i/\∀z∈fT c (l.take i),z∈l
 | 0=>⟨nR_ _,fun z hz=>by cases hz⟩
 | i+1=>by
  obtain⟨h1,b⟩:=pw (l:=l) i
  by_cases hi:i<l.length
  ·obtain⟨y,hy⟩:=bZ hi;rw[nI hy];have:=Cc (c:=c) (x:=y) (l:=fT c<|l.take i);refine⟨by omega,fun z hz=>?_⟩;rcases Cg hz with hz | rfl
   ·exact b z hz
   exact gB_ hy
  rw[tL_ oM] at h1 b⊢;exact⟨by omega,b⟩
end
theorem CM {G:Cx} (hG:Plain G) {K:KP} {ls:List XG} {v:J} (hl:bG K 4 (RG K) ls v) (ap:∀x∈ls,eb x) (hn:ls.length<=1000) {V:N} {L:Own} (aq:St V K L):
  aW Tryz.prog G 52 [v] V fun u V'=>∃K',KP.le K K'/\bG K' 4 (RG K') (fT dQ ls) u/\St V' K' L:=by
 refine aY hG Tryz.func52 Z (t:=PT.leaf.put (some (v)) 0) (by rfl) ?_;refine H ?_;refine ah Z ?_;refine Y Z (ak Z) Z ?_;refine af ?_;refine B ?_;refine H ?_;refine ah Z ?_;refine Y Z (ak Z) Z ?_;refine af ?_;refine B ?_;refine H ?_;refine H ?_;refine ah Z ?_;refine Y Z (ak Z) Z ?_;refine af ?_;refine B ?_;refine aI ?_;refine a6 [3,4,5,6,7,8,9,10,11,12,13,14,15,16,17,18,19,20,21,22,23,24,25,26,27,28,29,30,31,32,33,34,35,36,37,38,39,40,41,42,43,44,45,46,47,48,49,50,51,52,53,54,55,56,57,58,59,60,61,62] (fun j t V=>∃(i:Nat) (K3:KP) (u:J) (M:Own),(j+i=ls.length/\KP.le K K3/\mI 4 27 (RG K3) (fT dQ<|ls.take i) u M)/\t.get 3=some (u)/\t.get 4=some (.int .i64 (.ofNat i))/\St V K3 (M++L)) (ls.length) ⟨0,K,.au,[],⟨Z,KP.le_refl _,.inl ⟨Z,Z,Z⟩⟩,Z,Z,aq⟩ ?_;clear aq;intro j3 t V an hI;obtain⟨i,K3,u,M,⟨ds,C,hO⟩,av,ax,aq⟩:=hI;replace an:=an.bS Z Z;obtain⟨o3,o4,o5,o6,o7,o8,o9,dx,an⟩:=an;replace an:=an.bS Z Z;obtain⟨dT,d0,b1,b2,b3,b4,b5,b6,an⟩:=an;replace an:=an.bS Z Z;obtain⟨b7,b8,b9,ca,cb,cc,ce,cg,an⟩:=an;replace an:=an.bS Z Z;obtain⟨ch,ci,cj,ck,d1,d2,d3,d4,an⟩:=an;replace an:=an.bS Z Z;obtain⟨d5,d6,d7,d8,d9,ee,ef,eg,an⟩:=an;replace an:=an.bS Z Z;obtain⟨el,em,en,eo,er,es,et,ev,an⟩:=an;replace an:=an.bS Z Z;obtain⟨ex,e0,e3,e4,e5,e6,e7,e8,an⟩:=an;replace an:=an.mQ Z;obtain⟨e9,fd,fi,fk,an⟩:=an;obtain rfl:=an.nil;clear an;replace av:o3=some _:=av;subst av;replace ax:o4=some _:=ax;subst ax;refine H ?_;refine H ?_;refine ah Z ?_;have hl3:=hl.mono C fun _ _ h=>h.mono C
 refine Y Z (D Z) Z ?_;refine Y Z (D Z) Z ?_;refine Y Z (aO hl3 Z Z Z (e:=27) S Z) Z ?_;refine Y Z (aC Z Z Z) Z ?_;refine af ?_;refine B ?_;refine aD Z (fun X=>?_) (fun X=>?_)
 ·refine aG ?_;refine B ?_;refine H ?_;refine aI ?_;refine H ?_;refine ah Z ?_;have hil:=aS X;obtain⟨fs,bb⟩:=pw (c:=dQ) (l:=ls) i;obtain⟨xi,E⟩:=bZ hil;have hRi:=ap _ (gB_ E);have hst0:=aq;have hle4:=KP.dX K3 M;have aa:bG (K3.ml M) 4 (RG K3) (fT dQ<|ls.take i) u:=hO.gS fun e he=>.inr he;have hrl:=aa.jC fun _ _ h=>h.mono hle4;have hl4:=hl3.mono hle4 fun _ _ h=>h.mono hle4
  replace aq:=aq.keeps;refine Y Z (ak Z) Z ?_;refine af ?_;refine B ?_;refine H ?_;refine aI ?_;refine a6 [5,13,14,15,16,17,18,19,20,21,22,23,24,25,26,27,28,29,30] (fun j t V=>∃(q:Nat),(j+q=(fT dQ<|ls.take i).length/\∀y∈(fT dQ<|ls.take i).take q,dQ y xi<0)/\t.get 5=some (.int .i64 (.ofNat q))/\St V (K3.ml M) (L)) ((fT dQ<|ls.take i).length) ⟨0,⟨Z,fun y hy=>by simp at hy⟩,Z,aq⟩ ?_;clear aq;intro j6 t V an hI;obtain⟨q,⟨fv,U⟩,aE,aq⟩:=hI;replace an:=an.bS Z Z;obtain⟨o5,b1,b2,b3,b4,b5,b6,b7,an⟩:=an;replace an:=an.bS Z Z;obtain⟨b8,b9,ca,cb,cc,ce,cg,ch,an⟩:=an;replace an:=an.eh Z;obtain⟨ci,an⟩:=an;replace an:=an.eh Z;obtain⟨cj,an⟩:=an;replace an:=an.eh Z;obtain⟨ck,an⟩:=an;obtain rfl:=an.nil;clear an;replace aE:o5=some _:=aE;subst aE;refine H ?_;refine H ?_;refine aU (l:=[(0,[]),(1,[]),(2,[]),(3,[]),(4,[]),(5,[]),(6,[]),(7,[]),(8,[]),(9,[]),(10,[]),(11,[]),(12,[]),(13,[]),(14,[]),(15,[])]) S S ?_;refine aj Z Z (D Z) Z ?_;refine aj Z Z (D Z) Z ?_;refine aj Z Z (aO hrl Z Z Z (e:=27) S Z) Z ?_;refine aj Z Z (aC Z Z Z) Z ?_;refine jo Z Z (D Z) (fun _=>Z) (fun F=>?_) (fun F=>?_)
  ·refine aj Z Z (D Z) Z ?_;refine aj Z Z (D Z) Z ?_;obtain⟨f0,W,c7⟩:=cL F;refine bV (e:=27) (m:=4) hrl W Z Z Z S S Z Z (fun _=>Z) (fun f1 c8 bd c9 be=>?_);have hr20':=be;obtain⟨f2,f3,f4,f5,rfl,bf⟩:=hr20';refine aj Z Z (bE aq bd Z S Z) Z ?_;refine aj Z Z (D Z) Z ?_;refine aj Z Z (D Z) Z ?_;refine bV (e:=27) (m:=4) hl4 E Z Z Z S S Z Z (fun _=>Z) (fun f6 dd bi df bk=>?_);have hr24':=bk;obtain⟨f7,f8,f9,gc,rfl,bl⟩:=hr24';refine aj Z Z (bE aq bi Z S Z) Z ?_;refine dZ Z Z (aT Z Z Z S) (fun _=>Z) (za hG bf bl (ap _<|bb _<|gB_ W) hRi aq) (fun V aq=>?_);refine⟨aV,?_⟩;refine aj Z Z (aC Z Z Z) Z ?_;refine aj Z Z (aJ Z Z) Z ?_;refine a8 ?_;refine B ?_;refine aD Z (fun a0=>?_) (fun a0=>?_)
   ·refine aG ?_;refine B ?_;refine aI ?_;refine ah Z ?_;refine Y Z (D Z) Z ?_;refine Y Z (aC (v:=.int .i64 (.ofNat (q+1))) Z Z<|congrArg (fun z=>some (J.int .i64 z))<|aX (by have:=aS F;omega)) Z ?_;refine Y Z (ak Z) Z ?_;refine af ?_;refine aH ?_
    refine aL ⟨j6-1,(by have:=aS F;omega),(by(iterate 38 refine bc.put Z ?_);exact bc.refl _ _),q+1,⟨by have:=aS F;omega,fun y hy=>by
      rw[fG W] at hy;rcases List.mem_append.1 hy with hy | hy
      ·exact U y hy
      rw[List.mem_singleton.1 hy];exact OL a0⟩,Z,aq⟩
   refine ba ?_;refine aP ?_;refine aR ?_;refine aM ?_;refine B ?_;refine H ?_;refine H ?_;refine aU (l:=[(0,[]),(1,[]),(2,[]),(3,[]),(4,[]),(5,[]),(6,[]),(7,[]),(8,[]),(9,[]),(10,[]),(11,[]),(12,[]),(13,[]),(14,[])]) S S ?_;refine aj Z Z (D Z) Z ?_;refine aj Z Z (D Z) Z ?_;refine aj Z Z (aO hrl Z Z Z (e:=27) S Z) Z ?_;refine aj Z Z (aC Z Z Z) Z ?_;refine jo Z Z (D Z) (fun _=>Z) (fun T=>?_) (fun T=>?_)
   ·refine aj Z Z (D Z) Z ?_;refine aj Z Z (D Z) Z ?_;obtain⟨ge,I,dk⟩:=cL T;refine bV (e:=27) (m:=4) hrl I Z Z Z S S Z Z (fun _=>Z) (fun gl dl bm dm bo=>?_);have hr38':=bo;obtain⟨gr,gs,gt,gv,rfl,br⟩:=hr38';refine aj Z Z (bE aq bm Z S Z) Z ?_;refine aj Z Z (D Z) Z ?_;refine aj Z Z (D Z) Z ?_;refine bV (e:=27) (m:=4) hl4 E Z Z Z S S Z Z (fun _=>Z) (fun g2 dn bs dr bt=>?_);have hr42':=bt;obtain⟨g3,g4,g5,g6,rfl,bv⟩:=hr42';refine aj Z Z (bE aq bs Z S Z) Z ?_;refine dZ Z Z (aT Z Z Z S) (fun _=>Z) (Gv hG br bv (ap _<|bb _<|gB_ I) hRi aq) (fun V aq=>?_);refine⟨aV,?_⟩;refine aj Z Z (aJ Z Z) Z ?_;refine a8 ?_;refine B ?_;refine aD Z (fun a1=>?_) (fun a1=>?_)
    ·refine ba ?_;refine aP ?_;refine aM ?_;refine B ?_;refine ah Z ?_;replace aq:=St.vu hst0 aq;refine Y Z (D Z) Z ?_;refine Y Z (aC (v:=.int .i64 (.ofNat (i+1))) Z Z<|congrArg (fun z=>some (J.int .i64 z))<|aX oM) Z ?_;refine Y Z (ak Z) Z ?_;refine af ?_;refine aL ⟨j3-1,(by have:=aS X;omega),(by(iterate 118 refine bc.put Z ?_);exact bc.refl _ _),i+1,K3,u,M,⟨by omega,C,by rw[nI E,Hy U I<|lZ a1];exact hO⟩,Z,Z,aq⟩
    refine aG ?_;refine B ?_;refine H ?_;refine ah Z ?_;refine gw aq Z (bN (e:=27) (m:=4) (z:=[.au,.au,.au,.au]) (cs:=[]) S S S S bI) (fun _=>Z) (fun V a2 aq=>?_);replace aq:St V _ ([(a2,.row [] 27 false)]++_):=aq;refine Y Z (D Z) Z ?_;refine Y Z (D Z) Z ?_;have ab:q<=(fT dQ<|ls.take i).length:=(Nat.le_of_lt<|aS T);refine uA (e:=27) (m:=4) (k:=q) aa ab Z Z S S Z Z (fun _=>Z) (fun cn ac=>?_);refine tD (R:=RG K3) (m:=4) (e:=27) cS.empty aq ac RG.leaf (by rw[lD_];show 0+_<=_;omega) Z Z Z Z Z Z Z (fun _=>Z) (fun V cp a3 hM50 aq=>?_);refine Y Z (ak Z) Z ?_;refine af ?_;refine B ?_;refine aU (l:=[(0,[]),(1,[]),(2,[]),(3,[]),(4,[]),(5,[]),(6,[]),(10,[]),(7,[]),(8,[]),(9,[]),(11,[]),(12,[])]) S S ?_;replace aq:=St.sG hst0 aq;replace aq:=aq.perm (Gp ..);obtain⟨K5,d,b,aq⟩:=aq.cK (M:=a3);have hs50:=(hM50.gS (K:=K5) b);clear b;have hl5:=hl3.mono d fun _ _ h=>h.mono d
    obtain⟨cq,hO53,ad⟩:=hO.N9 ab;refine aj Z Z (D Z) Z ?_;refine aj Z Z (D Z) Z ?_;refine aj Z Z (bD Z<|ad S S Z Z) Z ?_;refine aj Z Z (D Z) Z ?_;refine aj Z Z (D Z) Z ?_;refine bV (e:=27) (m:=4) hl5 E Z Z Z S S Z Z (fun _=>Z) (fun cr bw ai b0 al=>?_);have hr56':=al;obtain⟨cv,cw,cx,c0,rfl,am⟩:=hr56';refine aj Z Z (bE aq ai Z S Z) Z ?_;refine aj Z Z (D Z) Z ?_;refine eW Z Z (aT Z Z Z S) (fun _=>Z) (Eg hG am (Ag<|ei.2 hRi) aq) ?_;rintro _ V ⟨u0,M0,u1,c1,O1,I1,u2,c2,O2,I2,u3,c3,O3,I3,rfl,hD,aq⟩;refine⟨aV,?_⟩;replace aq:=aq.perm (Gn ..);obtain⟨K6,Q,b,aq⟩:=aq.cK (M:=O3++(I3++(O2++(I2++(O1++(I1++M0))))));have hgc:=hD.Qa (K:=K6) b;clear b;refine lJ aq Z Z (bN (e:=27) (m:=4) (z:=[.au,.au,.au,.au]) (cs:=[_,_,_,_]) S S S S<|bA Z Z (oo hgc.init.leaf hgc.threads.leaf hgc.from_.leaf hgc.order.leaf).1 Z bI) (fun _=>Z) (fun V a4 aq=>?_);obtain⟨K7,A,b,aq⟩:=aq.cK (M:=[_]);have ao:bG K7 4 (RG K7) [xi] (.slice a4 0 1 (.known 1)):=Ak (m:=4) Z ⟨_,_,_,_,Z,hgc.mono A⟩ (b _ (.head _));clear b;have hle37:=KP.le_trans d (KP.le_trans Q A);refine Ay (R:=RG K7) (m:=4) (e:=27) (hO53.jC fun _ _ h=>h.mono hle37) aq ao RG.leaf (by simp) (by rw[lT_];omega) Z Z Z Z Z Z Z Z (fun _=>Z) (fun V c4 c5 hO60 aq=>?_);refine⟨aV,?_⟩;refine Ay (R:=RG K7) (m:=4) (e:=27) hO60 aq (hs50.mono (KP.le_trans Q A) fun _ _ h=>h.mono hle37) RG.leaf (by simp only[List.nil_append,lD_];omega) (by rw[lA_,lT_];simp only[List.length_cons,List.length_nil];omega) Z Z Z Z Z Z Z Z (fun _=>Z) (fun V a5 a9 hO62 aq=>?_);refine⟨aV,?_⟩;refine aj Z Z (ak Z) Z ?_;refine a8 ?_;refine aH ?_;refine B ?_;refine ah Z ?_;refine Y Z (D Z) Z ?_;refine Y Z (aC (v:=.int .i64 (.ofNat (i+1))) Z Z<|congrArg (fun z=>some (J.int .i64 z))<|aX oM) Z ?_;refine Y Z (ak Z) Z ?_;refine af ?_;refine aL ⟨j3-1,(by have:=aS X;omega),(by(iterate 137 refine bc.put Z ?_);exact bc.refl _ _),i+1,K7,a5,a9,⟨by omega,KP.le_trans C hle37,by rw[nI E,JE U I (by rw[<-Option.some.inj (W.symm.trans I)];exact Mv a0)<|fX a1];exact hO62⟩,Z,Z,aq⟩
   exact absurd (T.symm.trans F) (by decide)
  refine aB Z Z Z ?_;refine aB Z Z Z ?_;refine aB Z Z Z ?_;refine aB Z Z Z ?_;refine aB Z Z Z ?_;refine aB Z Z Z ?_;refine aB Z Z Z ?_;refine aB Z Z Z ?_;refine aB Z Z Z ?_;refine aB Z Z Z ?_;refine aj Z Z (aJ Z Z) Z ?_;refine a8 ?_;refine B ?_;refine bz Z ?_;refine ba ?_;refine aP ?_;refine aR ?_;refine aM ?_;refine B ?_;refine H ?_;refine H ?_;refine aU (l:=[(0,[]),(1,[]),(2,[]),(3,[]),(4,[]),(5,[]),(6,[]),(7,[]),(8,[]),(9,[]),(10,[]),(11,[]),(12,[]),(13,[]),(14,[])]) S S ?_;refine aj Z Z (D Z) Z ?_;refine aj Z Z (D Z) Z ?_;refine aj Z Z (aO hrl Z Z Z (e:=27) S Z) Z ?_;refine aj Z Z (aC Z Z Z) Z ?_;refine jo Z Z (D Z) (fun _=>Z) (fun T=>?_) (fun T=>?_)
  ·exact absurd (F.symm.trans T) (by decide)
  refine aB Z Z Z ?_;refine aB Z Z Z ?_;refine aB Z Z Z ?_;refine aB Z Z Z ?_;refine aB Z Z Z ?_;refine aB Z Z Z ?_;refine aB Z Z Z ?_;refine aB Z Z Z ?_;refine aB Z Z Z ?_;refine aj Z Z (aJ Z Z) Z ?_;refine a8 ?_;refine B ?_;refine bz Z ?_;refine aG ?_;refine B ?_;refine H ?_;refine ah Z ?_;refine gw aq Z (bN (e:=27) (m:=4) (z:=[.au,.au,.au,.au]) (cs:=[]) S S S S bI) (fun _=>Z) (fun V a2 aq=>?_);replace aq:St V _ ([(a2,.row [] 27 false)]++_):=aq;refine Y Z (D Z) Z ?_;refine Y Z (D Z) Z ?_;have hkl:=bC F;have ab:q<=(fT dQ<|ls.take i).length:=oM;refine uA (e:=27) (m:=4) (k:=q) aa ab Z Z S S Z Z (fun _=>Z) (fun cn ac=>?_);refine tD (R:=RG K3) (m:=4) (e:=27) cS.empty aq ac RG.leaf (by rw[lD_];show 0+_<=_;omega) Z Z Z Z Z Z Z (fun _=>Z) (fun V cp a3 hM50 aq=>?_);refine Y Z (ak Z) Z ?_;refine af ?_;refine B ?_;refine aU (l:=[(0,[]),(1,[]),(2,[]),(3,[]),(4,[]),(5,[]),(6,[]),(10,[]),(7,[]),(8,[]),(9,[]),(11,[]),(12,[])]) S S ?_;replace aq:=St.sG hst0 aq;replace aq:=aq.perm (Gp ..);obtain⟨K5,d,b,aq⟩:=aq.cK (M:=a3);have hs50:=(hM50.gS (K:=K5) b);clear b;have hl5:=hl3.mono d fun _ _ h=>h.mono d
  obtain⟨cq,hO53,ad⟩:=hO.N9 ab;refine aj Z Z (D Z) Z ?_;refine aj Z Z (D Z) Z ?_;refine aj Z Z (bD Z<|ad S S Z Z) Z ?_;refine aj Z Z (D Z) Z ?_;refine aj Z Z (D Z) Z ?_;refine bV (e:=27) (m:=4) hl5 E Z Z Z S S Z Z (fun _=>Z) (fun cr bw ai b0 al=>?_);have hr56':=al;obtain⟨cv,cw,cx,c0,rfl,am⟩:=hr56';refine aj Z Z (bE aq ai Z S Z) Z ?_;refine aj Z Z (D Z) Z ?_;refine eW Z Z (aT Z Z Z S) (fun _=>Z) (Eg hG am (Ag<|ei.2 hRi) aq) ?_;rintro _ V ⟨u0,M0,u1,c1,O1,I1,u2,c2,O2,I2,u3,c3,O3,I3,rfl,hD,aq⟩;refine⟨aV,?_⟩;replace aq:=aq.perm (Gn ..);obtain⟨K6,Q,b,aq⟩:=aq.cK (M:=O3++(I3++(O2++(I2++(O1++(I1++M0))))));have hgc:=hD.Qa (K:=K6) b;clear b;refine lJ aq Z Z (bN (e:=27) (m:=4) (z:=[.au,.au,.au,.au]) (cs:=[_,_,_,_]) S S S S<|bA Z Z (oo hgc.init.leaf hgc.threads.leaf hgc.from_.leaf hgc.order.leaf).1 Z bI) (fun _=>Z) (fun V a4 aq=>?_);obtain⟨K7,A,b,aq⟩:=aq.cK (M:=[_]);have ao:bG K7 4 (RG K7) [xi] (.slice a4 0 1 (.known 1)):=Ak (m:=4) Z ⟨_,_,_,_,Z,hgc.mono A⟩ (b _ (.head _));clear b;have hle37:=KP.le_trans d (KP.le_trans Q A);refine Ay (R:=RG K7) (m:=4) (e:=27) (hO53.jC fun _ _ h=>h.mono hle37) aq ao RG.leaf (by simp) (by rw[lT_];omega) Z Z Z Z Z Z Z Z (fun _=>Z) (fun V c4 c5 hO60 aq=>?_);refine⟨aV,?_⟩;refine Ay (R:=RG K7) (m:=4) (e:=27) hO60 aq (hs50.mono (KP.le_trans Q A) fun _ _ h=>h.mono hle37) RG.leaf (by simp only[List.nil_append,lD_];omega) (by rw[lA_,lT_];simp only[List.length_cons,List.length_nil];omega) Z Z Z Z Z Z Z Z (fun _=>Z) (fun V a5 a9 hO62 aq=>?_);refine⟨aV,?_⟩;refine aj Z Z (ak Z) Z ?_;refine a8 ?_;refine aH ?_;refine B ?_;refine ah Z ?_;refine Y Z (D Z) Z ?_;refine Y Z (aC (v:=.int .i64 (.ofNat (i+1))) Z Z<|congrArg (fun z=>some (J.int .i64 z))<|aX oM) Z ?_;refine Y Z (ak Z) Z ?_;refine af ?_;refine aL ⟨j3-1,(by have:=aS X;omega),(by(iterate 137 refine bc.put Z ?_);exact bc.refl _ _),i+1,K7,a5,a9,⟨by omega,KP.le_trans C hle37,by rw[nI E,JD U hkl];exact hO62⟩,Z,Z,aq⟩
 refine ba ?_;refine aP ?_;refine aR ?_;refine aM ?_;refine B ?_;refine H ?_;refine ah Z ?_;refine Y Z (D Z) Z ?_;refine Y Z (ak Z) Z ?_;refine af ?_;refine B ?_;refine aF ?_;have hin:=bC X;exact aA Z Z ⟨K3.ml M,KP.le_trans C<|KP.dX _ _,by rw[<-tL_ (l:=ls) hin];exact(hO.gS fun e he=>.inr he).jC fun _ _ h=>h.mono (KP.dX _ _),aq.keeps⟩
end Go.Ev
end
