/- Part of the proof: an evaluator of the model's code, rules for walks on it, walks. Without conditions. -/
import Derived.Test.YtpomgjnfncgkgaaGreatDoorEc
import Derived.Test.YtpomgjnfncgkgaaGreatDoorEd
import Derived.Test.YtpomgjnfncgkgaaGreatDoorProg
import Derived.KernelRfl
set_option linter.unusedSectionVars false
set_option linter.unusedVariables false
set_option linter.unusedSimpArgs false
namespace Go.Ev
variable [Env]
open Go.Proofs
set_option maxRecDepth 4000
set_option maxHeartbeats 8000000
theorem rM.mono {P:Program} {G:Cx} {f:Nat} {args:List AV} {σ:av} {R R':AV→av→Prop} (h:rM P G f args σ R) (hq:∀v σ',R v σ'→R' v σ'):rM P G f args σ R':=
 let ⟨K,v,σ',h1,h2⟩:=h;⟨K,v,σ',h1,hq _ _ h2⟩
theorem r6 {l:List cS} {x:cS} {i:Nat} (hi:i≤l.length):(l.take i++x::l.drop i).length=l.length+1:=by
 rw[List.length_append,List.length_take,List.length_cons,List.length_drop];omega
theorem tX {l:List cS} {b n e:Nat} {c:n8} (hn:n=l.length) (hc:c= .known n∨(c= .upto 2∧e=67)) (hle:n≤1048576):eN 2 67 lg l (.slice b 0 n c) [(b,.row (bV l) e false)]:=by
 subst hn;exact .inr ⟨b,c,_,e,rfl,rfl,dh l,fun i y h=>CN h,hc,hle⟩
theorem uV {P:Program} {G:Cx} {ih:fW} {f:Nat} {σ:av} {b n:Nat} {c:n8} {w:AV}:na P G ih f [.slice b 0 n c,.int .i64 (.ofNat n),w] σ=iR P G ih f [.slice b 0 n c,.int .i64 (.ofNat n),w] σ:=by
 unfold na;rw[show atEnd [.slice b 0 n c,.int .i64 (.ofNat n),w]=true from Nat.beq_refl n];rfl
theorem y8 {P:Program} {G:Cx} {ih:fW} {f:Nat} {σ:av} {b n i m:Nat} {w:AV} (hi:i<n):na P G ih f [.slice b 0 n (.known m),.int .i64 (.ofNat i),w] σ=iR P G ih f [.slice b 0 n (.known m),.int .i64 (.ofNat i),w] σ:=by
 unfold na
 rw[show atEnd [.slice b 0 n (.known m),.int .i64 (.ofNat i),w]=false from by
  show Nat.beq i n=false;cases hh:Nat.beq i n with
  | false=>rfl
  | true=>exact absurd (Nat.eq_of_beq_eq_true hh) (by omega)]
 rfl
theorem D2 {G:Cx} (hG:Plain G) (hfk:G.fk 70=true) (hov:G.ov 106=true) {K:KP} {l:List cS} {x:cS} {i vb:Nat} {u:AV} {M:Own} (hvb:K vb (.row (ints x.ints) 67 false)) (ho:eN 2 67 lg l u M) (hi:i≤l.length) (hle:l.length≤1000000) {σ:av} {L:Own} (hst:St σ K (M++L)):
  bc Tryz.prog G 70 [u,.int .i64 (.ofNat i),.slice vb 0 1 (.known 1)] σ fun v σ'=>∃M',eN 2 67 lg (l.take i++x::l.drop i) v M'∧St σ' K (M'++L):=by
 rcases ho with ⟨rfl,rfl,rfl⟩ | ⟨b,c,cells,e,rfl,rfl,h3,h4,h5,h6⟩
 ·obtain rfl:i=0:=by simpa using hi
  exact pM hG hfk (fun ih=>rfl) (GJ hvb hst)
 ·by_cases hin:i=l.length
  ·subst hin;rw[List.take_length,List.drop_length];rcases h5 with rfl | ⟨rfl,rfl⟩
   ·exact pM hG hfk (fun ih=>uV) (FM hvb rfl hle h3 h4 hst)
   ·exact pM hG hfk (fun ih=>uV) (Fs hvb rfl hle h3 h4 hst)
  ·have hlt:i<l.length:=by omega
   obtain rfl:=vG l cells h3 h4;have hne:b≠vb:=(hst.kept _ _ hvb).2.2 _ (List.mem_cons_self ..);have hgv:=(hst.kept _ _ hvb);rcases h5 with rfl | ⟨rfl,rfl⟩
   ·refine pM hG hfk (fun ih=>y8 hlt) ((Eg (K:=K.sub vb) rfl hlt hle ((hst.GP hvb).perm (List.Perm.swap ..))).mono fun v σ' h=>?_);obtain⟨b1,rfl,hs⟩:=h;exact⟨_,tX (r6 hi).symm (.inr ⟨rfl,rfl⟩) (by omega),St.Hh hst hvb ((hs.sub (.cons_cons _ (.cons _ (.refl _)))).perm (List.Perm.swap ..))⟩
   ·have htwo:= @St.two _ σ b vb (.row (bV l) 67 false) (.row (ints x.ints) 67 false) (.row (bV l) 67 false) (.row (ints x.ints) 67 false) (hst.own _ (List.mem_cons_self ..)).1 hgv.1 hne;have hfin:((l.take i++x::l.drop i).flatMap cS.ints).length=(l.length+1)*2:=by rw[←rq,←kC,dh,r6 hi]
    have hcut:∀(cs:List AV),cs=bV (l.take i++x::l.drop i)→(l.length+1)*2≤cs.length∧cs.take ((l.length+1)*2)=ints ((l.take i++x::l.drop i).flatMap cS.ints):=fun cs h=>by
     subst h;have:=dh (l.take i++x::l.drop i);rw[r6 hi] at this;exact⟨by omega,by rw[List.take_of_length_le (by omega),kC]⟩
    refine Dc (e:=67) (ve:=67) (cells:=bV l) (vc:=x.ints) (rs:=(l.take i++x::l.drop i).flatMap cS.ints) (n1:=l.length+1) hG hfk (by omega) hlt hne (hst.get 0 rfl) hgv.2.1 (by rw[dh];exact Nat.le_refl _) (by omega) hfin ?_ ?_ ?_
    ·refine(Eg (K:=fun _ _=>False) rfl hlt hle htwo).mono fun v σ' h=>?_
     obtain⟨b1,rfl,hs⟩:=h;exact⟨b1,_,rfl,(List.pairwise_cons.1 hs.ne).1 (vb,.row (ints x.ints) 67 false) (by simp),hs.get 0 rfl,hs.get 2 rfl,(hcut _ rfl).1,(hcut _ rfl).2⟩
    ·have hrow:(bV l).take (l.length*2)++List.replicate 2 AV.any=bV l++[AV.any,AV.any]:=by rw[List.take_of_length_le (by rw[dh];exact Nat.le_refl _)];rfl
     rw[hrow];have htwo2:= @St.two _ σ b vb (.row (bV l++[AV.any,AV.any]) 67 false) (.row (ints x.ints) 67 false) (.row (bV l++[AV.any,AV.any]) 67 false) (.row (ints x.ints) 67 false) (hst.own _ (List.mem_cons_self ..)).1 hgv.1 hne;refine(G9 hov (K:=fun _ _=>False) rfl hlt hle hne htwo2).mono fun v σ' h=>?_
     obtain⟨rfl,hs⟩:=h;exact⟨b,_,_,rfl,Nat.le_refl _,hne,hs.get 0 rfl,hs.get 1 rfl,(hcut _ rfl).1,(hcut _ rfl).2⟩
    ·refine⟨[(σ.next,.row (ints ((l.take i++x::l.drop i).flatMap cS.ints)) 67 false)],?_,hst.ta _⟩;rw[←kC];exact tX (r6 hi).symm (.inr ⟨rfl,rfl⟩) (by omega)
end Go.Ev
namespace Go.Ev
variable [Env]
theorem nc {K:KP} {E1 E2 T1 T2 T3:Nat} {g:XG} {u1:AV} {M1 M2 M3 M4:Own} {b2 b3 b4 n2 n3 n4:Nat} {us2 us3 us4:List AV} (h1:eN 1 2 dI g.init u1 M1) (h2:fG 5 E1 lh g.threads us2 M2) (h3:fG 2 E2 lg g.from_ us3 M3) (h4:fG 2 E2 lg g.order us4 M4)
  (k1:∀e∈M1,K e.1 e.2) (k2:∀e∈M2,K e.1 e.2) (k3:∀e∈M3,K e.1 e.2) (k4:∀e∈M4,K e.1 e.2) (q2:K b2 (.row us2 T1 false)) (q3:K b3 (.row us3 T2 false)) (q4:K b4 (.row us4 T3 false))
  (e2:n2=g.threads.length) (e3:n3=g.from_.length) (e4:n4=g.order.length) (l2:g.threads.length≤1048576) (l3:g.from_.length≤1048576) (l4:g.order.length≤1048576):fe K g u1 (.slice b2 0 n2 (.known n2)) (.slice b3 0 n3 (.known n3)) (.slice b4 0 n4 (.known n4)):=
 ⟨h1.kJ k1,h2.kJ k2 q2 e2 l2,h3.kJ k3 q3 e3 l3,h4.kJ k4 q4 e4 l4⟩
end Go.Ev
namespace Go.Ev
variable [Env]
open Go.Proofs
set_option maxRecDepth 4000
set_option maxHeartbeats 8000000
theorem wk {g:XG} (h:bL g=0):GB g:=by
 obtain⟨b1,b2,b3,b4,b5,b6,b7⟩:=cz h;exact⟨by omega,by omega,fun l hl=>by have:=b3 l hl;omega,by omega,fun l hl=>by have:=nt b6 b4 b3 l hl;omega,by omega,fun l hl=>by have:=lR h l hl;omega⟩
def Bn (K:KP) (L:Own) (g:XG) (th:Int) (e:cK) (fr:cS) (pl:Int) (v:AV) (σ':av):Prop:=
 (∃er,eX g th e fr pl=(none,er)∧v= .tuple [.agg [.aq,.aq,.aq,.aq],.int .i64 er]∧St σ' K L)∨
 (∃g' a' b' c' d' M,eX g th e fr pl=(some g',0)∧v= .tuple [.agg [a',b',c',d'],.int .i64 0]∧fe (K.oi M) g' a' b' c' d'∧St σ' K (M++L))
theorem sZ {G:Cx} (hG:Plain G) {K:KP} {L MM:Own} {σ:av} {g:XG} {a b c d:AV} (hst:St σ K (MM++L)) (h:fe (K.oi MM) g a b c d):bc Tryz.prog G 45 [.agg [a,b,c,d]] σ fun v σ'=>v= .int .i64 (bL g)∧St σ' K (MM++L):=
 (rX hG h hst.keeps).mono fun _ _ hh=>⟨hh.1,St.AX hst hh.2⟩
theorem EF {K:KP} {L MM:Own} {σ:av} {g g':XG} {th pl:Int} {e:cK} {fr:cS} {a b c d:AV} (ha:eX g th e fr pl=(some g',0)) (hst:St σ K (MM++L)) (h:fe (K.oi MM) g' a b c d):Bn K L g th e fr pl (.tuple [.agg [a,b,c,d],.int .i64 0]) σ:=.inr ⟨g',a,b,c,d,MM,ha,rfl,h,hst⟩
theorem n9 {α:Type} {K:KP} {R:α→List AV→Prop} {x:α} {m vb e:Nat} {cs:List AV} (hR:R x cs) (hm:cs.length=m) (hvb:K vb (.row cs e false)):bD K m R [x] (.slice vb 0 1 (.known 1)):=by
 subst hm;refine .inr ⟨vb,0,_,_,e,false,rfl,.inr ⟨_,rfl,Nat.le_refl _⟩,hvb,?_,(by simp),fun i y h=>?_⟩
 ·rw[List.length_singleton];omega
 ·cases i with
  | zero=>simp only[List.getElem?_cons_zero,Option.some.injEq] at h;subst h;rw[Nat.zero_mul,Nat.zero_add,List.drop_zero,List.take_length];exact hR
  | succ i=>simp at h
theorem uQ {G:Cx} (hG:Plain G) (hfk:G.fk 70=true) (hov:G.ov 106=true) {K:KP} {g:XG} {a b c d:AV} (h:fe K g a b c d) (th pl:Int) (e:cK) (fr:cS) {σ:av} {L:Own} (hst:St σ K L):bc Tryz.prog G 38 [.agg [a,b,c,d],.int .i64 th,.agg [.int .i64 e.kind,.int .i64 e.loc,.int .i64 e.order,.int .i64 e.read,.int .i64 e.write],.agg [.int .i64 fr.mj,.int .i64 fr.index],.int .i64 pl] σ (Bn K L g th e fr pl):=by
 have h':=h;obtain⟨hi,ht,hf,ho⟩:=h';refine bg hG Tryz.func38 rfl (t:=((((PT.leaf.put (some (.agg [a,b,c,d])) 0).put (some (.int .i64 th)) 1).put (some (.agg [.int .i64 e.kind,.int .i64 e.loc,.int .i64 e.order,.int .i64 e.read,.int .i64 e.write])) 2).put (some (.agg [.int .i64 fr.mj,.int .i64 fr.index])) 3).put (some (.int .i64 pl)) 4) (by rfl) (aj (ai rfl (bu hst rfl (cY rfl rfl) (fun _=>rfl) (fun σ b1 hst=>?_))));refine bu hst rfl (cY rfl rfl) (fun _=>rfl) (fun σ b2 hst=>?_);refine bu hst rfl (cY rfl rfl) (fun _=>rfl) (fun σ b3 hst=>?_);refine bu hst rfl (IV (cs:=[.aq,.aq,.aq,.aq])) (fun _=>rfl) (fun σ b4 hst=>?_);refine vQ 1 rfl (nT (aj (aj (ai rfl (aa rfl (IT rfl (hst.get 3 rfl) (n:=4) (vs:=[_,_,_,_]) rfl) rfl (bf rfl (I5 rfl rfl rfl) (fun _=>rfl) (rX hG h hst) (fun σ hst=>?_)))))));refine vQ 1 rfl (nT (aE rfl (fun h16=>?_) (fun h16=>?_)))
 ·refine aj (ai rfl (aa rfl (IY (places:=[(0,1),(1,1),(2,1),(3,1)]) (zero:=[.aq,.aq,.aq,.aq]) (cs:=[_,_,_,_]) rfl) rfl (bA hst rfl (I8 rfl rfl rfl (hst.get 0 rfl) (m:=4) rfl rfl (cells':=[_,_,_,_]) rfl) rfl (fun σ hst=>?_))));refine vQ 1 rfl (nT (aB (au (?_))));exact br rfl rfl (hst.get 0 rfl) (m:=4) (by kernel_rfl) rfl rfl (.inl ⟨_,xC (bQ h16),rfl,hst.pop.pop.pop.pop⟩)
 ·refine aF (ad (aj (aj (ai rfl (vQ 2 rfl (aL rfl (al rfl) (fun _=>rfl) (fun h20=>?_) (fun h20=>?_)))))))
  ·refine vQ 6 rfl (nT (aC rfl (aj (ai rfl (aa rfl (IY (places:=[(0,1),(1,1),(2,1),(3,1)]) (zero:=[.aq,.aq,.aq,.aq]) (cs:=[_,_,_,_]) rfl) rfl (bA hst rfl (I8 rfl rfl rfl (hst.get 0 rfl) (m:=4) rfl rfl (cells':=[_,_,_,_]) rfl) rfl (fun σ hst=>?_)))))));refine vQ 1 rfl (nT (aB (au (?_))));exact br rfl rfl (hst.get 0 rfl) (m:=4) (by kernel_rfl) rfl rfl (.inl ⟨_,xJ (aY h16) h20,rfl,hst.pop.pop.pop.pop⟩)
  ·refine vQ 1 rfl (aa rfl (Jc 1 rfl) rfl (aa rfl (Ja rfl (hst.get 3 rfl) rfl) rfl (aa rfl (I1 ht rfl rfl rfl (e:=57) rfl) rfl (vQ 2 rfl (nT (aE rfl (fun h26=>?_) (fun h26=>?_)))))))
   ·refine aj (ai rfl (aa rfl (IY (places:=[(0,1),(1,1),(2,1),(3,1)]) (zero:=[.aq,.aq,.aq,.aq]) (cs:=[_,_,_,_]) rfl) rfl (bA hst rfl (I8 rfl rfl rfl (hst.get 0 rfl) (m:=4) rfl rfl (cells':=[_,_,_,_]) rfl) rfl (fun σ hst=>?_))));refine vQ 1 rfl (nT (aB (au (?_))));exact br rfl rfl (hst.get 0 rfl) (m:=4) (by kernel_rfl) rfl rfl (.inl ⟨_,yr (aY h16) h20 h26,rfl,hst.pop.pop.pop.pop⟩)
   ·obtain⟨tm,rfl⟩:=ng h20;have htm:tm<g.threads.length:=by have:=qf h26;omega
    obtain⟨x33,hx33⟩:=cQ htm;obtain⟨xf,hxf⟩:=cQ (show tm<g.from_.length from by rw[(cz (qs (aY h16))).2.2.2.1];exact htm);refine aF (ad (aj (ai rfl (vQ 1 rfl (aa rfl (Jc 1 rfl) rfl (aa rfl (Ja rfl (hst.get 3 rfl) rfl) rfl (vQ 2 rfl (Jb (e:=57) (m:=1) ht hx33 rfl rfl rfl (congrArg (fun z=>some (AV.int .i64 z)) (eE (by have:=ht.bH;omega))) (fun _=>rfl) (fun p33 vs33 hp33 hl33 hr33=>?_)))))))));have hr33':=hr33;obtain⟨v33,rfl,hk33⟩:=hr33';refine aa rfl (IP hst hp33 rfl rfl) rfl (aa rfl (I1 hk33 rfl rfl rfl (e:=56) rfl) rfl (aa rfl (IY (places:=[(0,1),(1,1)]) (zero:=[.int .i64 0,.int .i64 0]) (cs:=[_,_]) rfl) rfl (bu hst rfl (IV (cs:=[.int .i64 0,.int .i64 0])) (fun _=>rfl) (fun σ b5 hst=>?_))));refine bA hst rfl (I8 rfl rfl rfl (hst.get 0 rfl) (m:=2) rfl rfl (cells':=[_,_]) rfl) rfl (fun σ hst=>?_);refine nT (aj (aj (ai rfl (aa rfl (Jc 1 rfl) rfl (aa rfl (Ja rfl (hst.get 0 rfl) rfl) rfl (vQ 1 rfl (nT (aE rfl (fun h39=>?_) (fun h39=>?_)))))))))
    ·refine aj (ai rfl (aa rfl (IY (places:=[(0,1),(1,1),(2,1),(3,1)]) (zero:=[.aq,.aq,.aq,.aq]) (cs:=[_,_,_,_]) rfl) rfl (ep hst rfl (I8 rfl rfl rfl (hst.get 1 rfl) (m:=4) rfl rfl (cells':=[_,_,_,_]) rfl) rfl (fun σ hst=>?_))));refine vQ 1 rfl (nT (aB (au (?_))));exact br rfl rfl (hst.get 1 rfl) (m:=4) (by kernel_rfl) rfl rfl (.inl ⟨_,by rw[iM (aY h16) hx33 hxf,show cg (.ofNat x33.length) 14=false from bQ h39];rfl,rfl,hst.pop.pop.pop.pop.pop⟩)
    ·refine aF (ad (aj (aj (ai rfl (aa rfl (IT rfl (hst.get 3 rfl) (n:=5) (vs:=[_,_,_,_,_]) rfl) rfl (bf rfl (I5 rfl rfl rfl) (fun _=>rfl) (gL hG _ hst) (fun σ hst=>?_)))))));refine aL rfl (al rfl) (fun _=>rfl) (fun h43=>?_) (fun h43=>?_)
     ·refine vQ 2 rfl (aL rfl (al rfl) (fun _=>rfl) (fun h46=>?_) (fun h46=>?_))
      ·refine vQ 18 rfl (nT (aC rfl (aj (ai rfl (aa rfl (IY (places:=[(0,1),(1,1),(2,1),(3,1)]) (zero:=[.aq,.aq,.aq,.aq]) (cs:=[_,_,_,_]) rfl) rfl (ep hst rfl (I8 rfl rfl rfl (hst.get 1 rfl) (m:=4) rfl rfl (cells':=[_,_,_,_]) rfl) rfl (fun σ hst=>?_)))))));refine vQ 1 rfl (nT (aB (au (?_))));exact br rfl rfl (hst.get 1 rfl) (m:=4) (by kernel_rfl) rfl rfl (.inl ⟨_,by rw[iM (aY h16) hx33 hxf,show cg (.ofNat x33.length) 14=true from aY h39];show(bif bY g e pl then _ else _)=_;rw[show bY g e pl=true from by unfold bY;rw[h43];show(bif cg pl 1 then true else _)=true;rw[h46];rfl];rfl,rfl,hst.pop.pop.pop.pop.pop⟩)
      ·refine vQ 1 rfl (aa rfl (IT rfl (hst.get 4 rfl) (n:=4) (vs:=[_,_,_,_]) rfl) rfl (aa rfl (Jc 1 rfl) rfl (aa rfl (Ja rfl (hst.get 3 rfl) rfl) rfl (cI rfl (I5 rfl rfl rfl) (fun _=>rfl) (pJ hG h (fun l hl=>by have:=lR (qs (aY h16)) l hl;omega) _ hst) ?_))));rintro u51 σ ⟨M51,hM51,hst⟩;replace hst:=hst.bq;refine aa rfl (GG hM51 rfl rfl rfl (e:=67) (by kernel_rfl) rfl) rfl (vQ 3 rfl (aL rfl (al rfl) (fun _=>rfl) (fun h56=>?_) (fun h56=>?_)))
       ·refine vQ 8 rfl (nT (aC rfl (aj (ai rfl (aa rfl (IY (places:=[(0,1),(1,1),(2,1),(3,1)]) (zero:=[.aq,.aq,.aq,.aq]) (cs:=[_,_,_,_]) rfl) rfl (ep hst rfl (I8 rfl rfl rfl (hst.get 1 rfl) (m:=4) rfl rfl (cells':=[_,_,_,_]) rfl) rfl (fun σ hst=>?_)))))));refine vQ 1 rfl (nT (aB (au (?_))));exact br rfl rfl (hst.get 1 rfl) (m:=4) (by kernel_rfl) rfl rfl (.inl ⟨_,by rw[iM (aY h16) hx33 hxf,show cg (.ofNat x33.length) 14=true from aY h39];show(bif bY g e pl then _ else _)=_;rw[show bY g e pl=true from by unfold bY;rw[h43];show(bif cg pl 1 then true else _)=true;rw[h46];exact h56];rfl,rfl,hst.pop.pop.pop.pop.pop⟩)
       ·refine aa rfl (IT rfl (hst.get 3 rfl) (n:=5) (vs:=[_,_,_,_,_]) rfl) rfl (bf rfl (I5 rfl rfl rfl) (fun _=>rfl) (gL hG _ hst) (fun σ hst=>?_));refine aa rfl (dO rfl) rfl (aL rfl (al rfl) (fun _=>rfl) (fun h60=>?_) (fun h60=>?_))
        ·exact absurd h43 (by rw[mJ h60];decide)
        ·refine vQ 4 rfl (nT (aJ rfl (aF (ad (aj (ai rfl (aa rfl (IT rfl (hst.get 4 rfl) (n:=4) (vs:=[_,_,_,_]) rfl) rfl (cI rfl (I5 rfl rfl rfl) (fun _=>rfl) (sf hG h (wk (qs (aY h16))) hst) ?_))))))));rintro _ σ ⟨u1,M1,b6,us2,M2,b7,us3,M3,b8,us4,M4,rfl,hO,hst⟩;have hOt:=hO.threads;have hOf:=hO.from_;have hOo:=hO.order;refine bu hst rfl (IV (cs:=[.aq,.aq,.aq,.aq])) (fun _=>rfl) (fun σ b9 hst=>?_);refine bA hst rfl (I8 rfl rfl rfl (hst.get 0 rfl) (m:=4) rfl (ae hO.init.leaf.2 rfl) (cells':=[_,_,_,_]) rfl) rfl (fun σ hst=>?_);refine nT (aj (aQ (l:=[(0,[]),(1,[]),(2,[]),(3,[]),(4,[]),(5,[]),(6,[]),(7,[]),(8,[]),(9,[]),(10,[]),(11,[]),(12,[1]),(13,[]),(14,[])]) (by kernel_rfl) (by kernel_rfl) (an rfl rfl (Jc 1 rfl) rfl (an rfl rfl (Ja rfl (hst.get 0 rfl) rfl) rfl (wQ 2 rfl (an rfl rfl (Jc 1 rfl) rfl (an rfl rfl (Ja rfl (hst.get 0 rfl) rfl) rfl (wQ 2 rfl ?_))))))));obtain⟨utt,Mtt,At,Bt,hutt,hOtt,hMMt,hsett⟩:=hOt.at hx33;subst hMMt;refine an rfl rfl (eA (e:=57) (m:=1) rfl (by kernel_rfl) rfl (congrArg (fun z=>some (AV.int .i64 z)) (eE (by have:=ht.bH;omega))) (show tm<g.threads.length from(List.getElem?_eq_some_iff.1 hx33).1)) rfl ?_;refine an rfl rfl (ax rfl (hst.pop.bq.pop.bq.pop.bq.get 0 rfl) (by kernel_rfl) (by rw[dU,show 0+tm*1=tm from by omega];exact hutt)) rfl (an rfl rfl (IT rfl (hst.pop.bq.pop.bq.pop.bq.pop.bq.pop.pop.pop.get 0 rfl) (n:=5) (vs:=[_,_,_,_,_]) rfl) rfl (tV hst rfl rfl (dB (e:=56) (m:=5) (z:=[.int .i64 0,.int .i64 0,.int .i64 0,.int .i64 0,.int .i64 0]) (cs:=[_,_,_,_,_]) (by kernel_rfl) (by kernel_rfl) (by kernel_rfl) (by kernel_rfl) (bP rfl rfl rfl rfl da)) (fun _=>rfl) (fun σ b10 hst=>?_)));have hpl:=(hst.pull (X:=Mtt) (.there (.there (.fc (.there (.fc (.there fS.oG))))))).perm List.perm_middle;obtain⟨σ,ut2t,Mt2t,happ,hOt2t,hst⟩:=eR (P:=Tryz.prog) (ts:= #[57,57]) (t:=57) (e:=56) hOtt hpl (n9 (R:=lh) (x:=e) (m:=5) rfl rfl (.inr ⟨rfl,rfl⟩)) lh.leaf (by simp) (by simp) (by have:=(cz (qs (aY h16))).2.2.1 _ (List.mem_of_getElem? hx33);omega) rfl (by kernel_rfl) (by kernel_rfl) (by kernel_rfl);refine fh rfl rfl (dQ rfl rfl rfl rfl (by kernel_rfl) happ) rfl ?_;replace hst:=hst.push (.there (.fc (.there (.fc (.there fS.oG)))));refine⟨(cd (cR rfl rfl rfl rfl rfl (Ja rfl (hst.get 0 rfl) rfl) (nY _ _ _ _)) ba),?_⟩;refine an rfl rfl (eA (e:=57) (m:=1) rfl (by kernel_rfl) rfl (congrArg (fun z=>some (AV.int .i64 z)) (eE (by have:=ht.bH;omega))) (show tm<g.threads.length from(List.getElem?_eq_some_iff.1 hx33).1)) rfl ?_;have hltt:=(List.getElem?_eq_some_iff.1 hutt).1;refine l5 hst (.there (.fc (.there (.fc (.there (.fc .here)))))) rfl rfl (iP rfl rfl hOt2t.leaf.1 (hst.pop.bq.pop.bq.pop.bq.get 0 rfl) (m:=1) (by kernel_rfl) rfl (by omega) (ae hOt2t.leaf.2 rfl)) rfl (fun σ hst=>?_);refine⟨ba,?_⟩;rw[ie hltt] at hst;have hO2t:=hsett _ _ _ hOt2t
         refine bh (ad (aj (aQ (l:=[(0,[]),(1,[]),(2,[]),(3,[]),(4,[]),(5,[]),(6,[]),(7,[]),(8,[]),(9,[]),(10,[]),(11,[]),(12,[1]),(13,[]),(14,[])]) (by kernel_rfl) (by kernel_rfl) (an rfl rfl (Jc 2 rfl) rfl (an rfl rfl (Ja rfl (hst.get 0 rfl) rfl) rfl (wQ 2 rfl (an rfl rfl (Jc 2 rfl) rfl (an rfl rfl (Ja rfl (hst.get 0 rfl) rfl) rfl (wQ 2 rfl ?_)))))))));obtain⟨utf,Mtf,Af,Bf,hutf,hOtf,hMMf,hsetf⟩:=hOf.at hxf;subst hMMf;refine an rfl rfl (eA (e:=74) (m:=1) rfl (by kernel_rfl) rfl (congrArg (fun z=>some (AV.int .i64 z)) (eE (by have:=ht.bH;omega))) (show tm<g.from_.length from(List.getElem?_eq_some_iff.1 hxf).1)) rfl ?_;refine an rfl rfl (ax rfl (hst.pop.bq.pop.bq.get 0 rfl) (by kernel_rfl) (by rw[dU,show 0+tm*1=tm from by omega];exact hutf)) rfl (an rfl rfl (IT rfl (hst.pop.bq.pop.bq.pop.bq.pop.bq.pop.pop.get 0 rfl) (n:=2) (vs:=[_,_]) rfl) rfl (tV hst rfl rfl (dB (e:=67) (m:=2) (z:=[.int .i64 0,.int .i64 0]) (cs:=[_,_]) (by kernel_rfl) (by kernel_rfl) (by kernel_rfl) (by kernel_rfl) (bP rfl rfl rfl rfl da)) (fun _=>rfl) (fun σ b11 hst=>?_)));have hpl:=(hst.pull (X:=Mtf) (.there (.there (.fc (.there fS.oG))))).perm List.perm_middle;obtain⟨σ,ut2f,Mt2f,happ,hOt2f,hst⟩:=eR (P:=Tryz.prog) (ts:= #[74,74]) (t:=74) (e:=67) hOtf hpl (n9 (R:=lg) (x:=fr) (m:=2) rfl rfl (.inr ⟨rfl,rfl⟩)) lg.leaf (by simp) (by simp) (by have:=nt (cz (qs (aY h16))).2.2.2.2.2.1 (cz (qs (aY h16))).2.2.2.1 (cz (qs (aY h16))).2.2.1 _ (List.mem_of_getElem? hxf);omega) rfl (by kernel_rfl) (by kernel_rfl) (by kernel_rfl);refine fh rfl rfl (dQ rfl rfl rfl rfl (by kernel_rfl) happ) rfl ?_;replace hst:=hst.push (.there (.fc (.there fS.oG)));refine⟨(cd (cR rfl rfl rfl rfl rfl (Ja rfl (hst.get 0 rfl) rfl) (nY _ _ _ _)) ba),?_⟩;refine an rfl rfl (eA (e:=74) (m:=1) rfl (by kernel_rfl) rfl (congrArg (fun z=>some (AV.int .i64 z)) (eE (by have:=ht.bH;omega))) (show tm<g.from_.length from(List.getElem?_eq_some_iff.1 hxf).1)) rfl ?_;have hltf:=(List.getElem?_eq_some_iff.1 hutf).1;refine l5 hst (.there (.fc (.there (.fc .here)))) rfl rfl (iP rfl rfl hOt2f.leaf.1 (hst.pop.bq.pop.bq.get 0 rfl) (m:=1) (by kernel_rfl) rfl (by omega) (ae hOt2f.leaf.2 rfl)) rfl (fun σ hst=>?_);refine⟨ba,?_⟩;rw[ie hltf] at hst;have hO2f:=hsetf _ _ _ hOt2f;refine bh (ad (aj (aj (ai rfl (aa rfl (IT rfl (hst.pop.bq.pop.bq.pop.bq.pop.bq.pop.pop.pop.get 0 rfl) (n:=5) (vs:=[_,_,_,_,_]) rfl) rfl (bf rfl (I5 rfl rfl rfl) (fun _=>rfl) (gL hG _ hst) (fun σ hst=>?_)))))));refine nT (aE rfl (fun h97=>?_) (fun h97=>?_))
         ·refine aQ (l:=[(0,[]),(1,[]),(2,[]),(3,[]),(4,[]),(5,[]),(6,[]),(7,[]),(8,[]),(9,[]),(10,[]),(11,[]),(12,[]),(13,[]),(14,[1,3]),(15,[]),(16,[])]) (by kernel_rfl) (by kernel_rfl) (an rfl rfl (Jc 3 rfl) rfl (an rfl rfl (Ja rfl (hst.get 0 rfl) rfl) rfl (an rfl rfl (Jc 1 rfl) rfl (an rfl rfl (Ja rfl (hst.pop.bq.pop.bq.pop.bq.pop.bq.pop.pop.pop.get 0 rfl) rfl) rfl (an rfl rfl (Jc 3 rfl) rfl (an rfl rfl (Ja rfl (hst.get 0 rfl) rfl) rfl (an rfl rfl (Jc 1 rfl) rfl (an rfl rfl (Ja rfl (hst.pop.bq.pop.bq.pop.bq.pop.bq.pop.pop.pop.get 0 rfl) rfl) rfl ?_))))))));obtain⟨pm,rfl⟩:=ng h46;have hpl56:pm+1≤(bN g e.loc).length:=bz h56;obtain⟨ln,xo,hloc,hxo,hwl⟩:=tM (show 1≤(bN g e.loc).length from by omega);have hpm:pm≤xo.length:=by omega
          have hxo56:=lR (qs (aY h16)) _ (List.mem_of_getElem? hxo);obtain⟨uto,Mto,Ao,Bo,huto,hOto,hMMo,hseto⟩:=hOo.at hxo;subst hMMo;refine an rfl rfl (eA (e:=74) (m:=1) rfl (by kernel_rfl) rfl (congrArg (fun z=>some (AV.int .i64 z)) hloc) (show ln<g.order.length from(List.getElem?_eq_some_iff.1 hxo).1)) rfl ?_;refine an rfl rfl (ax rfl (hst.pop.bq.get 0 rfl) (by kernel_rfl) (by rw[dU,show 0+ln*1=ln from by omega];exact huto)) rfl (wQ 2 rfl (an rfl rfl (IT rfl (hst.pop.bq.pop.bq.pop.bq.pop.bq.get 0 rfl) (n:=2) (vs:=[_,_]) rfl) rfl (tV hst rfl rfl (dB (e:=67) (m:=2) (z:=[.int .i64 0,.int .i64 0]) (cs:=[_,_]) (by kernel_rfl) (by kernel_rfl) (by kernel_rfl) (by kernel_rfl) (bP rfl rfl rfl rfl da)) (fun _=>rfl) (fun σ b12 hst=>?_))));have hpl:=((hst.pull (X:=Mto) (.there (.there fS.oG))).perm List.perm_middle).EY;refine ja rfl rfl (I5 rfl rfl rfl) (fun _=>rfl) (by rw[eE (by omega)];exact D2 hG hfk hov (x:=⟨.ofNat (tm+1),.ofNat x33.length⟩) (i:=pm) (.inr ⟨rfl,rfl⟩) hOto hpm (by omega) hpl) ?_;rintro ut2o σ ⟨Mt2o,hOt2o,hst⟩;replace hst:=(hst.weaken (KP.ua _ _ _)).push (.there fS.oG);refine⟨(cd (cR rfl rfl rfl rfl rfl (Ja rfl (hst.get 0 rfl) rfl) (nY _ _ _ _)) (cd (cR rfl rfl rfl rfl rfl (Ja rfl (hst.pop.bq.pop.bq.pop.bq.pop.bq.pop.pop.pop.get 0 rfl) rfl) (qb _ _)) ba)),?_⟩;refine an rfl rfl (eA (e:=74) (m:=1) rfl (by kernel_rfl) rfl (congrArg (fun z=>some (AV.int .i64 z)) hloc) (show ln<g.order.length from(List.getElem?_eq_some_iff.1 hxo).1)) rfl ?_;have hlto:=(List.getElem?_eq_some_iff.1 huto).1;refine l5 hst (.there (.fc .here)) rfl rfl (iP rfl rfl hOt2o.leaf.1 (hst.pop.bq.get 0 rfl) (m:=1) (by kernel_rfl) rfl (by omega) (ae hOt2o.leaf.2 rfl)) rfl (fun σ hst=>?_);refine⟨ba,?_⟩;rw[ie hlto] at hst;have hO2o:=hseto _ _ _ hOt2o;refine bh (ad (aj (aj (ai rfl (aa rfl (IT rfl (hst.get 0 rfl) (n:=4) (vs:=[_,_,_,_]) rfl) rfl ?_)))));have hfew:=wk (qs (aY h16));replace hst:=hst.app (.there (.fc (.there (.fc (.there (.fc (.there (.fc (.there (.there (.there (.there (.there .base)))))))))))))
          refine bf rfl (I5 rfl rfl rfl) (fun _=>rfl) (sZ hG hst (nc (T1:=57) (T2:=74) (T3:=74) (g:=(⟨g.init,g.threads.set tm (x33++[e]),g.from_.set tm (xf++[fr]),g.order.set ln (xo.take pm++⟨.ofNat (tm+1),.ofNat x33.length⟩::xo.drop pm)⟩:XG)) hO.init hO2t hO2f hO2o (fun y hy=>.inr (by simp[hy])) (fun y hy=>.inr (by rcases List.mem_append.1 hy with hy | hy;(simp[hy]);rcases List.mem_append.1 hy with hy | hy<;>simp[hy])) (fun y hy=>.inr (by rcases List.mem_append.1 hy with hy | hy;(simp[hy]);rcases List.mem_append.1 hy with hy | hy<;>simp[hy])) (fun y hy=>.inr (by rcases List.mem_append.1 hy with hy | hy;(simp[hy]);rcases List.mem_append.1 hy with hy | hy<;>simp[hy])) (.inr (by simp)) (.inr (by simp)) (.inr (by simp)) (by simp) (by simp) (by simp) (by have h1:=hfew.2.1;have h2:=hfew.2.2.2.1;have h3:=hfew.2.2.2.2.2.1;simp;omega) (by have h1:=hfew.2.1;have h2:=hfew.2.2.2.1;have h3:=hfew.2.2.2.2.2.1;simp;omega) (by have h1:=hfew.2.1;have h2:=hfew.2.2.2.1;have h3:=hfew.2.2.2.2.2.1;simp;omega))) (fun σ hst=>?_);replace hst:=hst.Gb (.there (.fc (.there (.fc (.there (.fc (.there (.fc (.there (.there (.there (.there (.there .base)))))))))))));refine vQ 1 rfl (nT (aE rfl (fun h116=>?_) (fun h116=>?_)))
          ·refine aj (ai rfl (aa rfl (IY (places:=[(0,1),(1,1),(2,1),(3,1)]) (zero:=[.aq,.aq,.aq,.aq]) (cs:=[_,_,_,_]) rfl) rfl (dP hst (.there (.fc (.there (.fc (.there (.fc (.there (.fc (.there .here))))))))) rfl (I8 rfl rfl rfl (hst.pop.bq.pop.bq.pop.bq.pop.bq.pop.get 0 rfl) (m:=4) rfl rfl (cells':=[_,_,_,_]) rfl) rfl (fun σ hst=>?_))));refine vQ 1 rfl (nT (aB (au (?_))));exact br rfl rfl (hst.pop.bq.pop.bq.pop.bq.pop.bq.pop.get 0 rfl) (m:=4) (by kernel_rfl) rfl rfl (.inl ⟨_,by rw[iM (aY h16) hx33 hxf,show cg (.ofNat x33.length) 14=true from aY h39];show(bif bY g e (.ofNat (pm+1)) then _ else _)=_;rw[show bY g e (.ofNat (pm+1))=false from by unfold bY;rw[h43];show(bif cg (.ofNat (pm+1)) 1 then true else _)=false;rw[h46];exact h56];show(bif bm (bL (ez g tm e fr (.ofNat (pm+1)) x33 xf)) 0 then _ else _)=_;rw[w7 (pm:=pm) (fr:=fr) (row:=x33) (frow:=xf) (tm:=tm) h97 hloc hxo,bQ h116];rfl,rfl,hst.pop.bq.pop.bq.pop.bq.pop.bq.pop.pop.pop.pop.pop⟩)
          ·refine aF (ad (aj (ai rfl (aa rfl (IT rfl (hst.get 0 rfl) (n:=4) (vs:=[_,_,_,_]) rfl) rfl (dP hst (.there (.fc (.there (.fc (.there (.fc (.there (.fc (.there .here))))))))) rfl (I8 rfl rfl rfl (hst.pop.bq.pop.bq.pop.bq.pop.bq.pop.get 0 rfl) (m:=4) rfl (ae hO.init.leaf.2 rfl) (cells':=[_,_,_,_]) rfl) rfl (fun σ hst=>?_))))));refine vQ 1 rfl (nT (aB ?_));exact br rfl rfl (hst.pop.bq.pop.bq.pop.bq.pop.bq.pop.get 0 rfl) (m:=4) (by kernel_rfl) rfl rfl (EF (by rw[iM (aY h16) hx33 hxf,show cg (.ofNat x33.length) 14=true from aY h39];show(bif bY g e (.ofNat (pm+1)) then _ else _)=_;rw[show bY g e (.ofNat (pm+1))=false from by unfold bY;rw[h43];show(bif cg (.ofNat (pm+1)) 1 then true else _)=false;rw[h46];exact h56];show(bif bm (bL (ez g tm e fr (.ofNat (pm+1)) x33 xf)) 0 then _ else _)=_;rw[w7 (pm:=pm) (fr:=fr) (row:=x33) (frow:=xf) (tm:=tm) h97 hloc hxo,aY h116];rfl) (hst.app (.there (.fc (.there (.fc (.there (.fc (.there (.fc (.there (.there (.there (.there (.there .base)))))))))))))) (nc (T1:=57) (T2:=74) (T3:=74) (g:=(⟨g.init,g.threads.set tm (x33++[e]),g.from_.set tm (xf++[fr]),g.order.set ln (xo.take pm++⟨.ofNat (tm+1),.ofNat x33.length⟩::xo.drop pm)⟩:XG)) hO.init hO2t hO2f hO2o (fun y hy=>.inr (by simp[hy])) (fun y hy=>.inr (by rcases List.mem_append.1 hy with hy | hy;(simp[hy]);rcases List.mem_append.1 hy with hy | hy<;>simp[hy])) (fun y hy=>.inr (by rcases List.mem_append.1 hy with hy | hy;(simp[hy]);rcases List.mem_append.1 hy with hy | hy<;>simp[hy])) (fun y hy=>.inr (by rcases List.mem_append.1 hy with hy | hy;(simp[hy]);rcases List.mem_append.1 hy with hy | hy<;>simp[hy])) (.inr (by simp)) (.inr (by simp)) (.inr (by simp)) (by simp) (by simp) (by simp) (by have h1:=hfew.2.1;have h2:=hfew.2.2.2.1;have h3:=hfew.2.2.2.2.2.1;simp;omega) (by have h1:=hfew.2.1;have h2:=hfew.2.2.2.1;have h3:=hfew.2.2.2.2.2.1;simp;omega) (by have h1:=hfew.2.1;have h2:=hfew.2.2.2.1;have h3:=hfew.2.2.2.2.2.1;simp;omega)))
         ·exact absurd h43 (by rw[h97];decide)
     ·refine vQ 13 rfl (aa rfl (IT rfl (hst.get 3 rfl) (n:=5) (vs:=[_,_,_,_,_]) rfl) rfl (bf rfl (I5 rfl rfl rfl) (fun _=>rfl) (gL hG _ hst) (fun σ hst=>?_)));refine aa rfl (dO rfl) rfl (aL rfl (al rfl) (fun _=>rfl) (fun h60=>?_) (fun h60=>?_))
      ·refine vQ 4 rfl (nT (aE rfl (fun h64=>?_) (fun h64=>?_)))
       ·refine aj (ai rfl (aa rfl (IY (places:=[(0,1),(1,1),(2,1),(3,1)]) (zero:=[.aq,.aq,.aq,.aq]) (cs:=[_,_,_,_]) rfl) rfl (ep hst rfl (I8 rfl rfl rfl (hst.get 1 rfl) (m:=4) rfl rfl (cells':=[_,_,_,_]) rfl) rfl (fun σ hst=>?_))));refine vQ 1 rfl (nT (aB (au (?_))));exact br rfl rfl (hst.get 1 rfl) (m:=4) (by kernel_rfl) rfl rfl (.inl ⟨_,by rw[iM (aY h16) hx33 hxf,show cg (.ofNat x33.length) 14=true from aY h39];show(bif bY g e pl then _ else _)=_;rw[show bY g e pl=true from by unfold bY;rw[h43];show(!bm pl 0)=true;rw[bQ h64];rfl];rfl,rfl,hst.pop.pop.pop.pop.pop⟩)
       ·refine aF (ad (aj (ai rfl (aa rfl (IT rfl (hst.get 4 rfl) (n:=4) (vs:=[_,_,_,_]) rfl) rfl (cI rfl (I5 rfl rfl rfl) (fun _=>rfl) (sf hG h (wk (qs (aY h16))) hst) ?_)))));rintro _ σ ⟨u1,M1,b6,us2,M2,b7,us3,M3,b8,us4,M4,rfl,hO,hst⟩;have hOt:=hO.threads;have hOf:=hO.from_;have hOo:=hO.order;refine bu hst rfl (IV (cs:=[.aq,.aq,.aq,.aq])) (fun _=>rfl) (fun σ b9 hst=>?_);refine bA hst rfl (I8 rfl rfl rfl (hst.get 0 rfl) (m:=4) rfl (ae hO.init.leaf.2 rfl) (cells':=[_,_,_,_]) rfl) rfl (fun σ hst=>?_);refine nT (aj (aQ (l:=[(0,[]),(1,[]),(2,[]),(3,[]),(4,[]),(5,[]),(6,[]),(7,[]),(8,[]),(9,[]),(10,[]),(11,[]),(12,[1]),(13,[]),(14,[])]) (by kernel_rfl) (by kernel_rfl) (an rfl rfl (Jc 1 rfl) rfl (an rfl rfl (Ja rfl (hst.get 0 rfl) rfl) rfl (wQ 2 rfl (an rfl rfl (Jc 1 rfl) rfl (an rfl rfl (Ja rfl (hst.get 0 rfl) rfl) rfl (wQ 2 rfl ?_))))))));obtain⟨utt,Mtt,At,Bt,hutt,hOtt,hMMt,hsett⟩:=hOt.at hx33;subst hMMt;refine an rfl rfl (eA (e:=57) (m:=1) rfl (by kernel_rfl) rfl (congrArg (fun z=>some (AV.int .i64 z)) (eE (by have:=ht.bH;omega))) (show tm<g.threads.length from(List.getElem?_eq_some_iff.1 hx33).1)) rfl ?_;refine an rfl rfl (ax rfl (hst.pop.bq.pop.bq.pop.bq.get 0 rfl) (by kernel_rfl) (by rw[dU,show 0+tm*1=tm from by omega];exact hutt)) rfl (an rfl rfl (IT rfl (hst.pop.bq.pop.bq.pop.bq.pop.bq.pop.pop.pop.get 0 rfl) (n:=5) (vs:=[_,_,_,_,_]) rfl) rfl (tV hst rfl rfl (dB (e:=56) (m:=5) (z:=[.int .i64 0,.int .i64 0,.int .i64 0,.int .i64 0,.int .i64 0]) (cs:=[_,_,_,_,_]) (by kernel_rfl) (by kernel_rfl) (by kernel_rfl) (by kernel_rfl) (bP rfl rfl rfl rfl da)) (fun _=>rfl) (fun σ b10 hst=>?_)));have hpl:=(hst.pull (X:=Mtt) (.there (.there (.fc (.there (.fc (.there fS.oG))))))).perm List.perm_middle;obtain⟨σ,ut2t,Mt2t,happ,hOt2t,hst⟩:=eR (P:=Tryz.prog) (ts:= #[57,57]) (t:=57) (e:=56) hOtt hpl (n9 (R:=lh) (x:=e) (m:=5) rfl rfl (.inr ⟨rfl,rfl⟩)) lh.leaf (by simp) (by simp) (by have:=(cz (qs (aY h16))).2.2.1 _ (List.mem_of_getElem? hx33);omega) rfl (by kernel_rfl) (by kernel_rfl) (by kernel_rfl);refine fh rfl rfl (dQ rfl rfl rfl rfl (by kernel_rfl) happ) rfl ?_;replace hst:=hst.push (.there (.fc (.there (.fc (.there fS.oG)))));refine⟨(cd (cR rfl rfl rfl rfl rfl (Ja rfl (hst.get 0 rfl) rfl) (nY _ _ _ _)) ba),?_⟩;refine an rfl rfl (eA (e:=57) (m:=1) rfl (by kernel_rfl) rfl (congrArg (fun z=>some (AV.int .i64 z)) (eE (by have:=ht.bH;omega))) (show tm<g.threads.length from(List.getElem?_eq_some_iff.1 hx33).1)) rfl ?_;have hltt:=(List.getElem?_eq_some_iff.1 hutt).1;refine l5 hst (.there (.fc (.there (.fc (.there (.fc .here)))))) rfl rfl (iP rfl rfl hOt2t.leaf.1 (hst.pop.bq.pop.bq.pop.bq.get 0 rfl) (m:=1) (by kernel_rfl) rfl (by omega) (ae hOt2t.leaf.2 rfl)) rfl (fun σ hst=>?_);refine⟨ba,?_⟩;rw[ie hltt] at hst;have hO2t:=hsett _ _ _ hOt2t
        refine bh (ad (aj (aQ (l:=[(0,[]),(1,[]),(2,[]),(3,[]),(4,[]),(5,[]),(6,[]),(7,[]),(8,[]),(9,[]),(10,[]),(11,[]),(12,[1]),(13,[]),(14,[])]) (by kernel_rfl) (by kernel_rfl) (an rfl rfl (Jc 2 rfl) rfl (an rfl rfl (Ja rfl (hst.get 0 rfl) rfl) rfl (wQ 2 rfl (an rfl rfl (Jc 2 rfl) rfl (an rfl rfl (Ja rfl (hst.get 0 rfl) rfl) rfl (wQ 2 rfl ?_)))))))));obtain⟨utf,Mtf,Af,Bf,hutf,hOtf,hMMf,hsetf⟩:=hOf.at hxf;subst hMMf;refine an rfl rfl (eA (e:=74) (m:=1) rfl (by kernel_rfl) rfl (congrArg (fun z=>some (AV.int .i64 z)) (eE (by have:=ht.bH;omega))) (show tm<g.from_.length from(List.getElem?_eq_some_iff.1 hxf).1)) rfl ?_;refine an rfl rfl (ax rfl (hst.pop.bq.pop.bq.get 0 rfl) (by kernel_rfl) (by rw[dU,show 0+tm*1=tm from by omega];exact hutf)) rfl (an rfl rfl (IT rfl (hst.pop.bq.pop.bq.pop.bq.pop.bq.pop.pop.get 0 rfl) (n:=2) (vs:=[_,_]) rfl) rfl (tV hst rfl rfl (dB (e:=67) (m:=2) (z:=[.int .i64 0,.int .i64 0]) (cs:=[_,_]) (by kernel_rfl) (by kernel_rfl) (by kernel_rfl) (by kernel_rfl) (bP rfl rfl rfl rfl da)) (fun _=>rfl) (fun σ b11 hst=>?_)));have hpl:=(hst.pull (X:=Mtf) (.there (.there (.fc (.there fS.oG))))).perm List.perm_middle;obtain⟨σ,ut2f,Mt2f,happ,hOt2f,hst⟩:=eR (P:=Tryz.prog) (ts:= #[74,74]) (t:=74) (e:=67) hOtf hpl (n9 (R:=lg) (x:=fr) (m:=2) rfl rfl (.inr ⟨rfl,rfl⟩)) lg.leaf (by simp) (by simp) (by have:=nt (cz (qs (aY h16))).2.2.2.2.2.1 (cz (qs (aY h16))).2.2.2.1 (cz (qs (aY h16))).2.2.1 _ (List.mem_of_getElem? hxf);omega) rfl (by kernel_rfl) (by kernel_rfl) (by kernel_rfl);refine fh rfl rfl (dQ rfl rfl rfl rfl (by kernel_rfl) happ) rfl ?_;replace hst:=hst.push (.there (.fc (.there fS.oG)));refine⟨(cd (cR rfl rfl rfl rfl rfl (Ja rfl (hst.get 0 rfl) rfl) (nY _ _ _ _)) ba),?_⟩;refine an rfl rfl (eA (e:=74) (m:=1) rfl (by kernel_rfl) rfl (congrArg (fun z=>some (AV.int .i64 z)) (eE (by have:=ht.bH;omega))) (show tm<g.from_.length from(List.getElem?_eq_some_iff.1 hxf).1)) rfl ?_;have hltf:=(List.getElem?_eq_some_iff.1 hutf).1;refine l5 hst (.there (.fc (.there (.fc .here)))) rfl rfl (iP rfl rfl hOt2f.leaf.1 (hst.pop.bq.pop.bq.get 0 rfl) (m:=1) (by kernel_rfl) rfl (by omega) (ae hOt2f.leaf.2 rfl)) rfl (fun σ hst=>?_);refine⟨ba,?_⟩;rw[ie hltf] at hst;have hO2f:=hsetf _ _ _ hOt2f;refine bh (ad (aj (aj (ai rfl (aa rfl (IT rfl (hst.pop.bq.pop.bq.pop.bq.pop.bq.pop.pop.pop.get 0 rfl) (n:=5) (vs:=[_,_,_,_,_]) rfl) rfl (bf rfl (I5 rfl rfl rfl) (fun _=>rfl) (gL hG _ hst) (fun σ hst=>?_)))))));refine nT (aE rfl (fun h97=>?_) (fun h97=>?_))
        ·exact absurd h43 (by rw[h97];decide)
        ·refine aF (ad (aj (aj (ai rfl (aa rfl (IT rfl (hst.get 0 rfl) (n:=4) (vs:=[_,_,_,_]) rfl) rfl ?_)))));have hfew:=wk (qs (aY h16));replace hst:=hst.app (.there (.fc (.there (.fc (.there (.fc (.there (.fc (.there (.there (.there (.there (.there .base)))))))))))));refine bf rfl (I5 rfl rfl rfl) (fun _=>rfl) (sZ hG hst (nc (T1:=57) (T2:=74) (T3:=74) (g:=(⟨g.init,g.threads.set tm (x33++[e]),g.from_.set tm (xf++[fr]),g.order⟩:XG)) hO.init hO2t hO2f hOo (fun y hy=>.inr (by simp[hy])) (fun y hy=>.inr (by rcases List.mem_append.1 hy with hy | hy;(simp[hy]);rcases List.mem_append.1 hy with hy | hy<;>simp[hy])) (fun y hy=>.inr (by rcases List.mem_append.1 hy with hy | hy;(simp[hy]);rcases List.mem_append.1 hy with hy | hy<;>simp[hy])) (fun y hy=>.inr (by simp[hy])) (.inr (by simp)) (.inr (by simp)) (.inr (by simp)) (by simp) (by simp) (by simp) (by have h1:=hfew.2.1;have h2:=hfew.2.2.2.1;have h3:=hfew.2.2.2.2.2.1;simp;omega) (by have h1:=hfew.2.1;have h2:=hfew.2.2.2.1;have h3:=hfew.2.2.2.2.2.1;simp;omega) (by have h1:=hfew.2.1;have h2:=hfew.2.2.2.1;have h3:=hfew.2.2.2.2.2.1;simp;omega))) (fun σ hst=>?_);replace hst:=hst.Gb (.there (.fc (.there (.fc (.there (.fc (.there (.fc (.there (.there (.there (.there (.there .base)))))))))))));refine vQ 1 rfl (nT (aE rfl (fun h116=>?_) (fun h116=>?_)))
         ·refine aj (ai rfl (aa rfl (IY (places:=[(0,1),(1,1),(2,1),(3,1)]) (zero:=[.aq,.aq,.aq,.aq]) (cs:=[_,_,_,_]) rfl) rfl (dP hst (.there (.fc (.there (.fc (.there (.fc (.there (.fc (.there .here))))))))) rfl (I8 rfl rfl rfl (hst.pop.bq.pop.bq.pop.bq.pop.bq.pop.get 0 rfl) (m:=4) rfl rfl (cells':=[_,_,_,_]) rfl) rfl (fun σ hst=>?_))));refine vQ 1 rfl (nT (aB (au (?_))));exact br rfl rfl (hst.pop.bq.pop.bq.pop.bq.pop.bq.pop.get 0 rfl) (m:=4) (by kernel_rfl) rfl rfl (.inl ⟨_,by rw[iM (aY h16) hx33 hxf,show cg (.ofNat x33.length) 14=true from aY h39];show(bif bY g e pl then _ else _)=_;rw[show bY g e pl=false from by unfold bY;rw[h43];show(!bm pl 0)=false;rw[aY h64];rfl];show(bif bm (bL (ez g tm e fr pl x33 xf)) 0 then _ else _)=_;rw[BT (pl:=pl) (fr:=fr) (row:=x33) (frow:=xf) (tm:=tm) h97,bQ h116];rfl,rfl,hst.pop.bq.pop.bq.pop.bq.pop.bq.pop.pop.pop.pop.pop⟩)
         ·refine aF (ad (aj (ai rfl (aa rfl (IT rfl (hst.get 0 rfl) (n:=4) (vs:=[_,_,_,_]) rfl) rfl (dP hst (.there (.fc (.there (.fc (.there (.fc (.there (.fc (.there .here))))))))) rfl (I8 rfl rfl rfl (hst.pop.bq.pop.bq.pop.bq.pop.bq.pop.get 0 rfl) (m:=4) rfl (ae hO.init.leaf.2 rfl) (cells':=[_,_,_,_]) rfl) rfl (fun σ hst=>?_))))));refine vQ 1 rfl (nT (aB ?_));exact br rfl rfl (hst.pop.bq.pop.bq.pop.bq.pop.bq.pop.get 0 rfl) (m:=4) (by kernel_rfl) rfl rfl (EF (by rw[iM (aY h16) hx33 hxf,show cg (.ofNat x33.length) 14=true from aY h39];show(bif bY g e pl then _ else _)=_;rw[show bY g e pl=false from by unfold bY;rw[h43];show(!bm pl 0)=false;rw[aY h64];rfl];show(bif bm (bL (ez g tm e fr pl x33 xf)) 0 then _ else _)=_;rw[BT (pl:=pl) (fr:=fr) (row:=x33) (frow:=xf) (tm:=tm) h97,aY h116];rfl) (hst.app (.there (.fc (.there (.fc (.there (.fc (.there (.fc (.there (.there (.there (.there (.there .base)))))))))))))) (nc (T1:=57) (T2:=74) (T3:=74) (g:=(⟨g.init,g.threads.set tm (x33++[e]),g.from_.set tm (xf++[fr]),g.order⟩:XG)) hO.init hO2t hO2f hOo (fun y hy=>.inr (by simp[hy])) (fun y hy=>.inr (by rcases List.mem_append.1 hy with hy | hy;(simp[hy]);rcases List.mem_append.1 hy with hy | hy<;>simp[hy])) (fun y hy=>.inr (by rcases List.mem_append.1 hy with hy | hy;(simp[hy]);rcases List.mem_append.1 hy with hy | hy<;>simp[hy])) (fun y hy=>.inr (by simp[hy])) (.inr (by simp)) (.inr (by simp)) (.inr (by simp)) (by simp) (by simp) (by simp) (by have h1:=hfew.2.1;have h2:=hfew.2.2.2.1;have h3:=hfew.2.2.2.2.2.1;simp;omega) (by have h1:=hfew.2.1;have h2:=hfew.2.2.2.1;have h3:=hfew.2.2.2.2.2.1;simp;omega) (by have h1:=hfew.2.1;have h2:=hfew.2.2.2.1;have h3:=hfew.2.2.2.2.2.1;simp;omega)))
      ·exact absurd h43 (by rw[gq h60];decide)
end Go.Ev
namespace Go.Ev
variable [Env]
noncomputable def DZ (loc:Int):List cK→Nat
 | []=>0
 | e::l=>(bif (bif aZ e then bm e.loc loc else false) then 1 else 0)+DZ loc l
noncomputable def EB (loc:Int):List (List cK)→Nat
 | []=>0
 | l::r=>DZ loc l+EB loc r
theorem vr {t:Nat} {k:List Int} {v:Int}:∀{l:List cK} {n:Nat},(k,v)∈dz t l n↔∃i e,l[i]?=some e∧aZ e=true∧k= [.ofNat (t+1),.ofNat (n+i)]∧v=e.loc
 | [],n=>⟨fun h=>(by cases h),fun⟨i,e,h,_⟩=>by simp at h⟩
 | e::l,n=>by
  show(k,v)∈(bif aZ e then([.ofNat (t+1),.ofNat n],e.loc)::dz t l (n+1) else dz t l (n+1))↔_;have ih:=vr (t:=t) (k:=k) (v:=v) (l:=l) (n:=n+1)
  have up:(k,v)∈dz t l (n+1)↔∃i e',l[i]?=some e'∧aZ e'=true∧k= [.ofNat (t+1),.ofNat (n+(i+1))]∧v=e'.loc:=by
   rw[ih];constructor
   ·rintro ⟨i,e',h1,h2,h3,h4⟩;exact⟨i,e',h1,h2,by rw[h3,show n+1+i=n+(i+1) by omega],h4⟩
   ·rintro ⟨i,e',h1,h2,h3,h4⟩;exact⟨i,e',h1,h2,by rw[h3,show n+1+i=n+(i+1) by omega],h4⟩
  have cons:(∃i e',(e::l)[i]?=some e'∧aZ e'=true∧k= [.ofNat (t+1),.ofNat (n+i)]∧v=e'.loc)↔(aZ e=true∧k= [.ofNat (t+1),.ofNat n]∧v=e.loc)∨∃i e',l[i]?=some e'∧aZ e'=true∧k= [.ofNat (t+1),.ofNat (n+(i+1))]∧v=e'.loc:=by
   constructor
   ·rintro ⟨i,e',h1,h2,h3,h4⟩;cases i with
    | zero=>
     have:e=e':=by simpa using h1
     subst this;exact .inl ⟨h2,h3,h4⟩
    | succ i=>exact .inr ⟨i,e',by simpa using h1,h2,h3,h4⟩
   ·rintro (⟨h2,h3,h4⟩ | ⟨i,e',h1,h2,h3,h4⟩)
    ·exact⟨0,e,rfl,h2,h3,h4⟩
    ·exact⟨i+1,e',by simpa using h1,h2,h3,h4⟩
  rw[cons];cases hw:aZ e with
  | false=>
   simp only[cond_false];rw[up];exact⟨.inr,fun h=>by rcases h with ⟨h,_⟩ | h;cases h;exact h⟩
  | true=>
   simp only[cond_true,List.mem_cons,Prod.mk.injEq,true_and];rw[up]
theorem vx {k:List Int} {v:Int}:∀{ls:List (List cK)} {t:Nat},(k,v)∈ff ls t↔∃s i l e,ls[s]?=some l∧l[i]?=some e∧aZ e=true∧k= [.ofNat (t+s+1),.ofNat i]∧v=e.loc
 | [],t=>⟨fun h=>(by cases h),fun⟨s,i,l,e,h,_⟩=>by simp at h⟩
 | l::ls,t=>by
  show(k,v)∈dz t l 0++ff ls (t+1)↔_;rw[List.mem_append,vr,vx (ls:=ls)];constructor
  ·rintro (⟨i,e,h1,h2,h3,h4⟩ | ⟨s,i,l',e,h0,h1,h2,h3,h4⟩)
   ·exact⟨0,i,l,e,rfl,h1,h2,by rw[h3,Nat.zero_add],h4⟩
   ·exact⟨s+1,i,l',e,by simpa using h0,h1,h2,by rw[h3,show t+1+s+1=t+(s+1)+1 by omega],h4⟩
  ·rintro ⟨s,i,l',e,h0,h1,h2,h3,h4⟩;cases s with
   | zero=>
    have:l=l':=by simpa using h0
    subst this;exact .inl ⟨i,e,h1,h2,by rw[h3,Nat.zero_add],h4⟩
   | succ s=>exact .inr ⟨s,i,l',e,by simpa using h0,h1,h2,by rw[h3,show t+1+s+1=t+(s+1)+1 by omega],h4⟩
noncomputable def Ib (g:XG) (loc:Int) (id:cS):Bool:=
 bif (eU g id).isSome then(bif bm id.mj 0 then false else bif aZ (Bg (eU g id)) then bm (Bg (eU g id)).loc loc else false) else false
structure IN (g:XG) (ln:Nat) (r:List cS):Prop where
 Ji:∀id∈r,Ib g (.ofNat ln) id=true
 nodup:r.Nodup
 AZ:r.length=EB (.ofNat ln) g.threads
theorem EC {x y:cS} (h:x.ints=y.ints):x=y:=by
 have:cG x.ints y.ints=true:=cD.2 h;rw[cS.same] at this;exact cD.1 this
theorem zi {a b:Int} (h:bm a b=true):a=b:=by rw[ei] at h;exact of_decide_eq_true h
noncomputable def kF (g:XG) (loc:Int):Int:=match(bN g loc).getLast? with | none=>0 | some id=>(Bg (eU g id)).write
noncomputable def qU (k:Nat):List XC→List (List cK)→Option (List Int)
 | [],_=>some []
 | _::_,[]=>none
 | c::l,r::g=>bif bm (cw k c r).2 0 then(qU k l g).map fun e=>(cw k c r).1.fin::e else none
noncomputable def jX (k:Nat) (l:List XC) (g:XG):Option (List Int):=
 bif bk (bm (bL g) 0) then none else bif bk (bm (.ofNat l.length) (.ofNat g.threads.length)) then none else qU k l g.threads
noncomputable def tT (g:XG):List Int→Nat→Bool
 | [],_=>true
 | v::r,i=>bif bk (bm v (kF g (.ofNat i))) then false else tT g r (i+1)
noncomputable def mI (k:Nat) (l:List XC) (m:List Int) (g:XG):Option (List Int):=
 match jX k l g with
 | none=>none
 | some e=>bif bk (bm (.ofNat m.length) (.ofNat g.init.length)) then none else bif tT g m 0 then some e else none
noncomputable def Is (k:Nat) (l:List XC) (m:List Int) (g:XG):Bool:=(mI k l m g).isSome
structure XM where
 mem:List Int
 g:XG
structure rP where
 fQ:cK
 fr:cS
 place:Int
 mem:List Int
noncomputable def gz (n:mM):Int:=bif bk (bm n.ask.kind 0) then n.ask.loc else n.event.loc
noncomputable def dD (n:mM) (m:List Int) (g:XG):rP:=
 bif bm n.event.kind 4 then⟨n.event,⟨0,0⟩,0,m⟩ else
 let all:=bN g (gz n)
 let fQ:=bif bk (bm n.ask.kind 0) then bX n.ask ((m[(gz n).toNat]?).getD 0) else n.event
 let fr:=bif bk (bm n.ask.kind 0) then(all.getLast?).getD ⟨0,0⟩ else⟨0,0⟩
 bif bk (bm fQ.kind 1) then⟨fQ,fr,.ofNat all.length,m.set (gz n).toNat fQ.write⟩ else⟨fQ,fr,0,m⟩
noncomputable def eJ (n:mM) (g:XG):Bool:=bif bk (bm n.event.kind 4) then(bif cg (gz n) 0 then true else bk (cg (gz n) (.ofNat g.init.length))) else false
noncomputable def iX (k:Nat) (c:XC) (row:List cK) (g:XG):Int:=
 bif bk (bm (cw k c row).2 0) then(cw k c row).2 else
 bif bk (bm (cw k c row).1.fin 0) then 10 else
 bif bk (cg (.ofNat row.length) 14) then 3 else
 bif eJ (cw k c row).1 g then 2 else 0
noncomputable def xh (p:rP) (th:Int) (g:XG):Option XM×Int:=
 match eX g th p.fQ p.fr p.place with
 | (some g',e)=>(some ⟨p.mem,g'⟩,e)
 | (none,e)=>(none,e)
noncomputable def eC (k:Nat) (l:List XC) (r:XM) (t:Nat):Option XM×Int:=
 match l[t]?,r.g.threads[t]? with
 | some c,some row=>bif bk (bm (iX k c row r.g) 0) then(none,iX k c row r.g) else xh (dD (cw k c row).1 r.mem r.g) (.ofNat (t+1)) r.g
 | _,_=>(none,2)
structure jK (k:Nat) (l:List XC) (r:XM):Prop where
 HL:bL r.g=0
 len:r.g.threads.length=l.length
 mem:r.mem.length=r.g.init.length
 last:∀i:Nat,i<r.g.init.length→r.mem[i]?=some (kF r.g (.ofNat i))
 fits:∀(t:Nat) (c:XC) (row:List cK),l[t]?=some c→r.g.threads[t]?=some row→mK k c row
theorem sA {k:Nat}:∀{l:List XC} {g:List (List cK)},l.length=g.length→(∀(t:Nat) (c:XC) (row:List cK),l[t]?=some c→g[t]?=some row→mK k c row)→∃e,qU k l g=some e∧e.length=l.length
 | [],_,_,_=>⟨[],rfl,rfl⟩
 | _::_,[],h,_=>by simp at h
 | c::l,r::g,h,hf=>by
  obtain⟨e,he,hl⟩:=sA (k:=k) (l:=l) (g:=g) (by simpa using h) (fun t c row h1 h2=>hf (t+1) c row (by simpa using h1) (by simpa using h2));have:=oQ.2 (hf 0 c r rfl rfl);refine⟨(cw k c r).1.fin::e,?_,?_⟩
  ·unfold qU;rw[this,he];rfl
  ·simp[hl]
theorem yz {g:XG}:∀{m:List Int} {i:Nat},(∀j v,m[j]?=some v→v=kF g (.ofNat (i+j)))→tT g m i=true
 | [],_,_=>rfl
 | v::r,i,h=>by
  have h0:=h 0 v rfl;rw[Nat.add_zero] at h0;unfold tT;rw[h0,jJ];exact yz fun j v hv=>by have:=h (j+1) v (by simpa using hv);rwa[show i+1+j=i+(j+1) by omega]
theorem jK.is {k:Nat} {l:List XC} {r:XM} (h:jK k l r):Is k l r.mem r.g=true:=by
 obtain⟨e,he,_⟩:=sA (k:=k) (l:=l) (g:=r.g.threads) h.len.symm h.fits;unfold Is mI jX;rw[h.HL,h.len,jJ,he];simp only[show bk (bm 0 0)=false from rfl,show bk true=false from rfl,cond_false];rw[h.mem,yz fun j v hv=>?_]
 ·simp only[jJ,bk,cond_true,cond_false];rfl
 ·have hj:=(List.getElem?_eq_some_iff.1 hv).1;have:=h.last j (by rw[←h.mem];exact hj);rw[hv] at this;rw[Nat.zero_add];exact Option.some.inj this
theorem D4 {g:XG} (h:ub g) {ln:Nat} {r:List cS} {id:cS} (hr:g.order[ln]?=some r) (hm:id∈r):∃w,eU g id=some w:=by
 have h1:=h.perm.mem_iff.2 (su (loc:=0) hr hm);obtain⟨s,i,l,e,k1,k2,_,k4,_⟩:=vx.1 h1;have e1:id=⟨.ofNat (s+1),.ofNat i⟩:=EC (by rw[k4,Nat.zero_add];rfl);subst e1;exact⟨e,by rw[mS,k1];exact k2⟩
theorem Fl {g:XG} {ln:Nat} (h:ln<g.init.length):∃w,eU g ⟨0,.ofNat ln⟩=some w:=by
 refine⟨⟨2,ln,1,0,g.init[ln]⟩,?_⟩;show(g.init[ln]?).map _=_;rw[List.getElem?_eq_getElem h];rfl
theorem p8 {g:XG} (hc:bL g=0) {ln:Nat} {r:List cS} (hr:g.order[ln]?=some r):kF g (.ofNat ln)=(Bg (eU g ((r.getLast?).getD ⟨0,.ofNat ln⟩))).write:=by
 unfold kF;rw[dT (by rw[hc];rfl) hr];cases h:r.getLast? with
 | none=>rw[List.getLast?_eq_none_iff.1 h];rfl
 | some x=>
  obtain⟨P,rfl⟩:=List.getLast?_eq_some_iff.1 h;rw[←List.cons_append,List.getLast?_append];rfl
theorem hX {g:XG} (hc:bL g=0) {ln:Nat} (h:ln<g.init.length):∃r,g.order[ln]?=some r:=cQ (by rw[(gh.1 hc).order];exact h)
theorem CW {g g':XG} (hc:bL g=0) (hc':bL g'=0) (hold:∀id w,eU g id=some w→eU g' id=some w) {ln:Nat} (h:ln<g.init.length) (ho:g'.order[ln]?=g.order[ln]?):kF g' (.ofNat ln)=kF g (.ofNat ln):=by
 obtain⟨r,hr⟩:=hX hc h;rw[p8 hc hr,p8 hc' (by rw[ho];exact hr)]
 have:∃w,eU g ((r.getLast?).getD ⟨0,.ofNat ln⟩)=some w:=by
  cases hl:r.getLast? with
  | none=>exact Fl h
  | some x=>exact D4 (gh.1 hc) hr (List.mem_of_getLast? hl)
 obtain⟨w,hw⟩:=this;rw[hw,hold _ _ hw]
theorem yl {g g':XG} {th pl:Int} {e:cK} {fr:cS} (h:eX g th e fr pl=(some g',0)):g'.init=g.init:=by
 obtain⟨_,tm,row,frow,_,_,_,_,_,rfl,_⟩:=gV h;rfl
theorem r7 {g g':XG} {tm:Nat} {pl:Int} {e:cK} {fr:cS} (h:eX g (.ofNat (tm+1)) e fr pl=(some g',0)):∃row,g.threads[tm]?=some row∧g'.threads=g.threads.set tm (row++[e]):=by
 obtain⟨_,t2,row,frow,ht,h1,_,_,_,rfl,_⟩:=gV h;have:tm=t2:=by have:=Int.ofNat.inj ht;omega
 subst this;exact⟨row,h1,by rw[fH]⟩
theorem vJ {g g':XG} {th pl:Int} {e:cK} {fr:cS} (h:eX g th e fr pl=(some g',0)) {ln:Nat} (hl:aZ e=true→e.loc≠ .ofNat ln):g'.order[ln]?=g.order[ln]?:=by
 obtain⟨_,tm,row,frow,_,_,_,_,hp,rfl,_⟩:=gV h;rw[fH];refine wK fun hw=>?_
 obtain⟨l2,r,h1,_⟩:=fL hp hw;have:=hl hw;rw[h1] at this⊢;exact fun e=>this (by rw[←e];rfl)
theorem Al {g g':XG} {tm ln:Nat} {e:cK} {fr:cS} {r:List cS} (hr:g.order[ln]?=some r) (h:eX g (.ofNat (tm+1)) e fr (.ofNat (r.length+1))=(some g',0)) (hw:aZ e=true) (hl:e.loc= .ofNat ln):∃row,g.threads[tm]?=some row∧g'.order[ln]?=some (r++[⟨.ofNat (tm+1),.ofNat row.length⟩]):=by
 obtain⟨_,t2,row,frow,ht,h1,_,_,_,rfl,_⟩:=gV h;have:tm=t2:=by have:=Int.ofNat.inj ht;omega
 subst this;refine⟨row,h1,?_⟩;rw[fH];show(og g.order e _ _)[ln]?=_;unfold og;rw[hw,hl];have hlt:=(List.getElem?_eq_some_iff.1 hr).1;simp only[cond_true];rw[show(Int.ofNat ln).toNat=ln from rfl,hr];rw[List.getElem?_set_self hlt];show some (List.take ((Int.ofNat (r.length+1)).toNat-1) r++_::List.drop ((Int.ofNat (r.length+1)).toNat-1) r)=_;rw[show(Int.ofNat (r.length+1)).toNat-1=r.length from rfl,List.take_length,List.drop_length]
theorem gm {n:mM} {m:List Int} {g:XG} (h:bm n.event.kind 4=true):dD n m g=⟨n.event,⟨0,0⟩,0,m⟩:=by unfold dD;rw[h];rfl
theorem yK {a:tI} {v:Int} (h:a.kind=2∨a.kind=4∨a.kind=5∨a.kind=6):(bX a v).loc=a.loc∧(dM (bX a v)=true):=by
 refine⟨?_,(iD h).1⟩;unfold bX;rcases h with h | h | h | h<;>rw[h]
 ·rfl
 ·exact bI (P:=fun e:cK=>e.loc=a.loc) (bm v a.a) rfl rfl
 ·rfl
 ·rfl
structure lZ (k:Nat) (l:List XC) (r:XM) (t:Nat) (c:XC) (row:List cK) (p:rP) (r':XM):Prop where
 code:l[t]?=some c
 rowAt:r.g.threads[t]?=some row
 err:iX k c row r.g=0
 iA:p=dD (cw k c row).1 r.mem r.g
 add:eX r.g (.ofNat (t+1)) p.fQ p.fr p.place=(some r'.g,0)
 mem:r'.mem=p.mem
theorem sb {k:Nat} {l:List XC} {r r':XM} {t:Nat} (h:eC k l r t=(some r',0)):∃c row p,lZ k l r t c row p r':=by
 unfold eC at h;cases h1:l[t]? with
 | none=>rw[h1] at h;cases h
 | some c=>
 cases h2:r.g.threads[t]? with
 | none=>rw[h1,h2] at h;cases h
 | some row=>
 rw[h1,h2] at h;dsimp only at h;cases h3:bm (iX k c row r.g) 0 with
 | false=>rw[h3] at h;cases h
 | true=>
  rw[h3] at h;have h:xh (dD (cw k c row).1 r.mem r.g) (.ofNat (t+1)) r.g=(some r',0):=h;unfold xh at h;cases h4:eX r.g (.ofNat (t+1)) (dD (cw k c row).1 r.mem r.g).fQ (dD (cw k c row).1 r.mem r.g).fr (dD (cw k c row).1 r.mem r.g).place with
  | mk o e=>
   rw[h4] at h;cases o with
   | none=>cases h
   | some g'=>
    simp only[Prod.mk.injEq,Option.some.injEq] at h;obtain⟨rfl,rfl⟩:=h;exact⟨c,row,_,h1,h2,qs h3,rfl,h4,rfl⟩
theorem lZ.step {k:Nat} {l:List XC} {r r':XM} {t:Nat} {c:XC} {row:List cK} {p:rP} (h:lZ k l r t c row p r'):eC k l r t=(some r',0):=by
 unfold eC;rw[h.code,h.rowAt];dsimp only;rw[h.err,←h.iA];show xh p _ _=_;unfold xh;rw[h.add];dsimp only;obtain⟨m,g⟩:=r';have:=h.mem;dsimp only at this;subst this;rfl
theorem Cv {k:Nat} {c:XC} {row:List cK} {g:XG} (h:iX k c row g=0):(cw k c row).2=0∧(cw k c row).1.fin=0∧row.length<14∧eJ (cw k c row).1 g=false:=by
 unfold iX at h;cases h1:bm (cw k c row).2 0 with
 | false=>
  rw[h1] at h;have h:(cw k c row).2=0:=h;rw[h] at h1;cases h1
 | true=>
 rw[h1] at h;cases h2:bm (cw k c row).1.fin 0 with
 | false=>rw[h2] at h;cases h
 | true=>
 rw[h2] at h;cases h3:cg (.ofNat row.length) 14 with
 | false=>rw[h3] at h;cases h
 | true=>
 rw[h3] at h;cases h4:eJ (cw k c row).1 g with
 | true=>rw[h4] at h;cases h
 | false=>exact⟨qs h1,qs h2,cA (b:=14) h3,rfl⟩
theorem lL {n:mM} {g:XG} (h:eJ n g=false) (hk:bm n.event.kind 4=false):∃ln:Nat,gz n= .ofNat ln∧ln<g.init.length:=by
 unfold eJ at h;rw[hk] at h;have h:(bif cg (gz n) 0 then true else bk (cg (gz n) (.ofNat g.init.length)))=false:=h;cases h1:cg (gz n) 0 with
 | true=>rw[h1] at h;cases h
 | false=>
  rw[h1] at h;obtain⟨ln,hl⟩:=qB h1;rw[hl] at h⊢;exact⟨ln,rfl,cA (aY h)⟩
theorem kX {g g':XG} {th:Int} {e:cK} {fr:cS} {ln:Nat} (h:eX g th e fr (.ofNat (bN g (.ofNat ln)).length)=(some g',0)) (hl:ln<g.init.length):aZ e=true:=by
 obtain⟨hc,_,_,_,_,_,_,_,hb,_,_⟩:=gV h;unfold bY at hb;obtain⟨o,ho⟩:=hX hc hl;cases hw:aZ e with
 | true=>rfl
 | false=>rw[hw,dT (by rw[hc];rfl) ho] at hb;cases hb
structure Ar (k:Nat) (c:XC) (row:List cK) (r:XM) (p:rP):Prop where
 fits:mK k c (row++[p.fQ])
 look:bm (cw k c row).1.event.kind 4=false→∃ln:Nat,ln<r.g.init.length∧gz (cw k c row).1= .ofNat ln∧p.fQ.loc= .ofNat ln∧p.fQ.kind≠4
 cases:(p.fQ.kind=4∧p.mem=r.mem∧p.place=0)∨∃ln:Nat,ln<r.g.init.length∧p.fQ.loc= .ofNat ln∧p.fQ.kind≠4∧((aZ p.fQ=false∧p.mem=r.mem∧p.place=0)∨(aZ p.fQ=true∧p.mem=r.mem.set ln p.fQ.write∧p.place= .ofNat (bN r.g (.ofNat ln)).length))
theorem BC {e:cK} {n:Int} (h:bm e.kind n=false):e.kind≠n:=fun hh=>by rw[hh,jJ] at h;cases h
theorem n7 {k:Nat} {c:XC} {row:List cK} {r:XM} {th:Int} {g':XG} (h:iX k c row r.g=0) (hadd:eX r.g th (dD (cw k c row).1 r.mem r.g).fQ (dD (cw k c row).1 r.mem r.g).fr (dD (cw k c row).1 r.mem r.g).place=(some g',0)):Ar k c row r (dD (cw k c row).1 r.mem r.g):=by
 obtain⟨h1,h2,h3,h4⟩:=Cv h;rcases x6 h1 with ⟨e,he,hf,hr⟩ | ⟨a,ha,hk,hf⟩ | ⟨n,hn⟩
 ·have key:∀p:rP,dD (cw k c row).1 r.mem r.g=p→Ar k c row r p:=by
   rw[he] at h4 hadd⊢;intro p hp;rw[hp] at hadd;dsimp only at h4;cases h5:bm e.kind 4 with
   | true=>
    rw[gm h5] at hp;subst hp;exact⟨hf,fun hh=>(by rw[he] at hh;dsimp only at hh;rw[h5] at hh;cases hh),.inl ⟨zi h5,rfl,rfl⟩⟩
   | false=>
    obtain⟨ln,hl,hlt⟩:=lL h4 h5;have hl':e.loc= .ofNat ln:=hl;unfold dD at hp;rw[hl] at hp;dsimp only at hp;rw[h5,show bm pH.kind 0=true from rfl] at hp;simp only[show bk true=false from rfl,cond_false] at hp;cases h6:bm e.kind 1 with
    | true=>
     have:dM e=true:=by unfold dM;rw[h6];rfl
     rw[this] at hr;cases hr
    | false=>
     rw[h6] at hp;simp only[show bk false=true from rfl,cond_true] at hp;subst hp;exact⟨hf,fun _=>⟨ln,hlt,by rw[he];exact hl,hl',BC h5⟩,.inr ⟨ln,hlt,hl',BC h5,.inr ⟨kX hadd hlt,rfl,rfl⟩⟩⟩
  exact key _ rfl
 ·have key:∀p:rP,dD (cw k c row).1 r.mem r.g=p→Ar k c row r p:=by
   rw[ha] at h4 hadd⊢;intro p hp;rw[hp] at hadd;have hk0:bm a.kind 0=false:=by rcases hk with e | e | e | e<;>rw[e]<;>rfl
   have hL:gz ⟨tl,a,0⟩=a.loc:=by unfold gz;dsimp only;rw[hk0];rfl
   obtain⟨ln,hl,hlt⟩:=lL h4 rfl;unfold dD at hp;rw[hl] at hp;dsimp only at hp;rw[hk0,show bm tl.kind 4=false from rfl] at hp;simp only[show bk false=true from rfl,cond_true,cond_false] at hp;have hl2:∀v,(bX a v).loc= .ofNat ln:=fun v=>by rw[(yK hk).1,←hL,hl]
   have hk4:∀v,(bX a v).kind≠4:=fun v e4=>by
    have h5:=(iD (v:=v) hk).1;unfold dM at h5;rw[e4] at h5;cases h5
   generalize hv:(r.mem[(Int.ofNat ln).toNat]?).getD 0=v at hp;have hlook:gz (cw k c row).1= .ofNat ln:=by rw[ha];exact hl
   cases h6:bm (bX a v).kind 1 with
   | true=>
    rw[h6] at hp;simp only[show bk true=false from rfl,cond_false] at hp;subst hp;refine⟨hf v,fun _=>⟨ln,hlt,hlook,hl2 v,hk4 v⟩,.inr ⟨ln,hlt,hl2 v,hk4 v,.inl ⟨?_,rfl,rfl⟩⟩⟩;show aZ (bX a v)=false;unfold aZ;rw[zi h6];rfl
   | false=>
    rw[h6] at hp;simp only[show bk false=true from rfl,cond_true] at hp;subst hp;exact⟨hf v,fun _=>⟨ln,hlt,hlook,hl2 v,hk4 v⟩,.inr ⟨ln,hlt,hl2 v,hk4 v,.inr ⟨kX hadd hlt,rfl,rfl⟩⟩⟩
  exact key _ rfl
 ·rw[hn] at h4 hadd;exfalso;obtain⟨ln,hl,hlt⟩:=lL h4 rfl;obtain⟨hc,_,_,_,_,_,_,_,hp,_,_⟩:=gV hadd;have hp:(!bm (.ofNat (bN r.g (gz ⟨tl,pH,n⟩)).length) 0)=false:=hp;obtain⟨q,hq⟩:=hX hc hlt;rw[hl,dT (by rw[hc];rfl) hq] at hp;cases hp
theorem jK.step {k:Nat} {l:List XC} {r r':XM} {t:Nat} (h:jK k l r) (hs:eC k l r t=(some r',0)):jK k l r'∧r'.g.init=r.g.init:=by
 obtain⟨c,row,p,hp⟩:=sb hs;have hadd:=hp.add;rw[hp.iA] at hadd;have hok:=n7 hp.err hadd;rw[←hp.iA] at hok hadd;obtain⟨tm,row',ht,k1,hck,hck',hnew,_,_,hold,_⟩:=uO hadd;have hi:=yl hadd;obtain⟨row2,hr2,hth⟩:=r7 hadd;rw[hp.rowAt] at hr2;cases hr2;have hlen:r'.g.threads.length=l.length:=by rw[hth,List.length_set];exact h.len
 have htm:tm=t:=by have:=Int.ofNat.inj ht;omega
 subst htm;rw[hp.rowAt] at k1;cases k1;refine⟨⟨hck',hlen,?_,fun i hlt=>?_,fun t2 c2 row2 h1 h2=>?_⟩,hi⟩
 ·rw[hp.mem,hi,←h.mem];rcases hok.cases with ⟨_,e,_⟩ | ⟨ln,_,_,_,⟨_,e,_⟩ | ⟨_,e,_⟩⟩<;>rw[e]
  rw[List.length_set]
 ·rw[hi] at hlt;rw[hp.mem];have same:(aZ p.fQ=true→p.fQ.loc≠ .ofNat i)→kF r'.g (.ofNat i)=kF r.g (.ofNat i):=fun hw=>CW hck hck' hold hlt (vJ hadd hw)
  rcases hok.cases with ⟨e1,e,_⟩ | ⟨ln,hln,hloc,_,⟨e1,e,_⟩ | ⟨hw,e,epl⟩⟩
  ·rw[e,same (fun hw=>by unfold aZ at hw;rw[e1] at hw;cases hw)];exact h.last i hlt
  ·rw[e,same (fun hw=>by rw[e1] at hw;cases hw)];exact h.last i hlt
  ·rw[e]
   by_cases hil:ln=i
   ·subst hil;rw[List.getElem?_set_self (by rw[h.mem];exact hln)];obtain⟨q,hq⟩:=hX hck hln;have hpl:p.place= .ofNat (q.length+1):=by rw[epl,dT (by rw[hck];rfl) hq];rfl
    rw[hpl] at hadd;obtain⟨row3,h3,ho⟩:=Al hq hadd hw hloc;rw[hp.rowAt] at h3;cases h3;rw[p8 hck' ho,List.getLast?_append];show some p.fQ.write=some (Bg (eU r'.g ⟨.ofNat (tm+1),.ofNat row.length⟩)).write;rw[hnew];rfl
   ·rw[List.getElem?_set_ne hil,same (fun _=>by rw[hloc];exact fun e=>hil (Int.ofNat.inj e))];exact h.last i hlt
 ·rw[hth] at h2
  by_cases e:tm=t2
  ·subst e;rw[List.getElem?_set_self (List.getElem?_eq_some_iff.1 hp.rowAt).1] at h2;rw[hp.code] at h1;cases h1;cases h2;exact hok.fits
  ·rw[List.getElem?_set_ne e] at h2;exact h.fits t2 c2 row2 h1 h2
theorem jK.start {k:Nat} {l:List XC} {init:List Int} (hl:l.length≤4) (hi:init.length≤6) (hf:∀c∈l,jg k c=true):jK k l ⟨init,⟨init,List.replicate l.length [],List.replicate l.length [],List.replicate init.length []⟩⟩:=by
 have hw:∀n t,ff (List.replicate n []) t= []:=by
  intro n;induction n with
  | zero=>intro t;rfl
  | succ n ih=>intro t;show dz t [] 0++ff (List.replicate n []) (t+1)= [];rw[ih];rfl
 have ho:∀n t,ka (List.replicate n []) t= []:=by
  intro n;induction n with
  | zero=>intro t;rfl
  | succ n ih=>intro t;show ig t []++ka (List.replicate n []) (t+1)= [];rw[ih];rfl
 have hr:ub ⟨init,List.replicate l.length [],List.replicate l.length [],List.replicate init.length []⟩:=by
  refine⟨by simpa using hl,hi,fun i x hx=>?_,by simp,by simp,fun i x f hx hf=>?_,?_⟩
  ·have:=List.eq_of_mem_replicate (List.mem_of_getElem? hx);subst this;exact Nat.zero_le _
  ·have h1:=List.eq_of_mem_replicate (List.mem_of_getElem? hx);have h2:=List.eq_of_mem_replicate (List.mem_of_getElem? hf);subst h1;subst h2;exact⟨rfl,fun j e q he=>by simp at he⟩
  ·show(ff (List.replicate l.length []) 0).Perm (ka (List.replicate init.length []) 0);rw[hw,ho]
 have hc:=gh.2 hr;refine⟨hc,by simp,rfl,fun i hlt=>?_,fun t c row h1 h2=>?_⟩
 ·have hq:(List.replicate init.length ([]:List cS))[i]?=some []:=by
   rw[List.getElem?_eq_getElem (by simpa using hlt)];simp
  rw[p8 hc hq];show init[i]?=some (Bg ((init[i]?).map fun v=>(⟨2,i,1,0,v⟩:cK))).write;rw[List.getElem?_eq_getElem hlt];rfl
 ·have h3:=List.eq_of_mem_replicate (List.mem_of_getElem? h2);subst h3;exact DI (hf c (List.mem_of_getElem? h1))
noncomputable def iN (k:Nat) (l:List XC) (r:XM) (p:Int):Option XM:=
 bif cg p 1 then none else bif cg (.ofNat l.length) p then none else bif bm (eC k l r (p.toNat-1)).2 0 then(eC k l r (p.toNat-1)).1 else none
noncomputable def pX (k:Nat) (l:List XC) (s:XM×List Int) (p:Int):XM×List Int:=match iN k l s.1 p with | some r=>(r,s.2++[p]) | none=>s
noncomputable def ed (k:Nat) (l:List XC) (s:XM×List Int) (ps:List Int):XM×List Int:=ps.foldl (pX k l) s
theorem qt {k:Nat} {l:List XC} {r r':XM} {p:Int} (h:iN k l r p=some r'):∃t:Nat,p= .ofNat (t+1)∧t<l.length∧eC k l r t=(some r',0):=by
 unfold iN at h;cases h1:cg p 1 with
 | true=>rw[h1] at h;cases h
 | false=>
 rw[h1] at h;cases h2:cg (.ofNat l.length) p with
 | true=>rw[h2] at h;cases h
 | false=>
 rw[h2] at h;obtain⟨t,rfl⟩:=ng h1;simp only[cond_false,show(Int.ofNat (t+1)).toNat-1=t from rfl] at h;cases h3:bm (eC k l r t).2 0 with
 | false=>rw[h3] at h;cases h
 | true=>
  rw[h3] at h;exact⟨t,rfl,by have:=bz h2;omega,Prod.ext h (qs h3)⟩
theorem jK.iN {k:Nat} {l:List XC} {r r':XM} {p:Int} (h:jK k l r) (hs:iN k l r p=some r'):jK k l r'∧r'.g.init=r.g.init:=by
 obtain⟨t,_,_,h1⟩:=qt hs;exact h.step h1
theorem jK.E4 {k:Nat} {l:List XC}:∀{ps:List Int} {s:XM×List Int},jK k l s.1→jK k l (ed k l s ps).1∧(ed k l s ps).1.g.init=s.1.g.init
 | [],s,h=>⟨h,rfl⟩
 | p::ps,s,h=>by
  show jK k l (ed k l (pX k l s p) ps).1∧(ed k l (pX k l s p) ps).1.g.init=s.1.g.init;unfold pX;cases ht:Go.Ev.iN k l s.1 p with
  | none=>exact jK.E4 h
  | some r=>
   obtain⟨h1,h2⟩:=h.iN ht;obtain⟨h3,h4⟩:=jK.E4 (ps:=ps) (s:=(r,s.2++[p])) h1;exact⟨h3,by rw[h4,h2]⟩
theorem l6 {k:Nat} {l:List XC} {s:XM×List Int} {ps:List Int} {i:Nat} {p:Int} (h:ps[i]?=some p):ed k l s (ps.take (i+1))=pX k l (ed k l s (ps.take i)) p:=by
 unfold ed;rw[List.take_add_one,h,List.foldl_append];rfl
theorem B8 {k:Nat} {l:List XC} {s:XM×List Int} {ps:List Int} {i:Nat} (h:ps.length≤i):ed k l s (ps.take i)=ed k l s ps:=by rw[List.take_of_length_le h]
end Go.Ev
namespace Go.Ev
variable [Env]
open Go.Proofs
set_option maxRecDepth 4000
set_option maxHeartbeats 8000000
noncomputable def G3 (k:Nat) (p:XC×List cK):Int:=(cw k p.1 p.2).1.fin
theorem vF {k:Nat}:∀{l:List XC} {g:List (List cK)},l.length=g.length→(∀(i:Nat) (c:XC) (r:List cK),l[i]?=some c→g[i]?=some r→bm (cw k c r).2 0=true)→qU k l g=some ((l.zip g).map (G3 k))
 | [],[],_,_=>rfl
 | [],_::_,h,_=>by simp at h
 | _::_,[],h,_=>by simp at h
 | c::l,r::g,h,hh=>by
  have h0:=hh 0 c r rfl rfl;have:=vF (k:=k) (l:=l) (g:=g) (by simpa using h) fun i c r h1 h2=>hh (i+1) c r (by simpa using h1) (by simpa using h2)
  show(bif bm (cw k c r).2 0 then(qU k l g).map fun e=>(cw k c r).1.fin::e else none)=_;rw[h0,this];rfl
theorem uM {k:Nat}:∀{l:List XC} {g:List (List cK)} {i:Nat} {c:XC} {r:List cK},l[i]?=some c→g[i]?=some r→bm (cw k c r).2 0=false→qU k l g=none
 | c'::l,r'::g,0,c,r,h1,h2,h=>by
  simp only[List.getElem?_cons_zero,Option.some.injEq] at h1 h2;subst h1;subst h2;show(bif bm (cw k c' r').2 0 then _ else none)=none;rw[h];rfl
 | c'::l,r'::g,i+1,c,r,h1,h2,h=>by
  have:=uM (k:=k) (l:=l) (g:=g) (i:=i) (by simpa using h1) (by simpa using h2) h;show(bif bm (cw k c' r').2 0 then(qU k l g).map _ else none)=none;rw[this];cases bm (cw k c' r').2 0<;>rfl
 | [],_,_,_,_,h1,_,_=>by simp at h1
 | _::_,[],_,_,_,_,h2,_=>by simp at h2
theorem GZ {α β:Type} {l:List α} {g:List β} {i:Nat} {x:α} {y:β} (h1:l[i]?=some x) (h2:g[i]?=some y):(l.zip g)[i]?=some (x,y):=by rw[List.getElem?_zip_eq_some];exact⟨h1,h2⟩
theorem Gt {G:Cx} (hG:Plain G) {K:KP} (hgl:kb G K) {k:Nat} {l:List XC} {lv:AV} (hl:bD K 2 (jl K k) l lv) {g:XG} {a b c d:AV} (hg:fe K g a b c d) {σ:av} {L:Own} (hst:St σ K L):
  bc Tryz.prog G 12 [lv,.agg [a,b,c,d]] σ fun v σ'=>∃u M,v= .tuple [u,.bool (jX k l g).isSome]∧eN 1 3 dI ((jX k l g).getD []) u M∧St σ' K (M++L):=by
 refine bg hG Tryz.func12 rfl (t:=(PT.leaf.put (some (lv)) 0).put (some (.agg [a,b,c,d])) 1) (by rfl) (aj (ai rfl (bu hst rfl (cY rfl rfl) (fun _=>rfl) (fun σ b1 hst=>?_))));refine vQ 2 rfl (nT (aj (aj (ai rfl (aa rfl (IT rfl (hst.get 0 rfl) (n:=4) (vs:=[_,_,_,_]) rfl) rfl (bf rfl (I5 rfl rfl rfl) (fun _=>rfl) (rX hG hg hst) (fun σ hst=>?_)))))));refine vQ 1 rfl (aL rfl (al rfl) (fun _=>rfl) (fun h14=>?_) (fun h14=>?_))
 ·refine vQ 7 rfl (nT (aC rfl (aj (ai rfl (vQ 2 rfl (nT (aB (au (?_)))))))));have hR:jX k l g=none:=by unfold jX;rw[show bk (bm (bL g) 0)=true from h14];rfl
  exact bU rfl rfl rfl ⟨.aq,[],by rw[hR];rfl,by rw[hR];exact .inl ⟨rfl,rfl,rfl⟩,hst.pop⟩
 ·refine vQ 1 rfl (aa rfl (I1 hl rfl rfl rfl (e:=33) rfl) rfl (aa rfl (Jc 1 rfl) rfl (aa rfl (Ja rfl (hst.get 0 rfl) rfl) rfl (aa rfl (I1 hg.threads rfl rfl rfl (e:=57) rfl) rfl (vQ 2 rfl (nT (aE rfl (fun h21=>?_) (fun h21=>?_))))))))
  ·refine aj (ai rfl (vQ 2 rfl (nT (aB (au (?_))))));have hR:jX k l g=none:=by unfold jX;rw[show bk (bm (bL g) 0)=false from h14,show bk (bm (.ofNat l.length) (.ofNat g.threads.length))=true from h21];rfl
   exact bU rfl rfl rfl ⟨.aq,[],by rw[hR];rfl,by rw[hR];exact .inl ⟨rfl,rfl,rfl⟩,hst.pop⟩
  ·refine aF (ad (aj (ai rfl (vQ 1 rfl (aa rfl (I1 hl rfl rfl rfl (e:=33) rfl) rfl ?_)))));have hck:bL g=0:=eqv (aY h14);obtain⟨b1_,_,b3_,_⟩:=cz hck;have hlg:l.length=g.threads.length:=di (aY h21);obtain⟨F,hF⟩:∃F,F=G3 k:=⟨_,rfl⟩;have hzl:(l.zip g.threads).length=l.length:=by rw[List.length_zip,hlg];omega
   refine lP hst rfl (gM (e:=3) (w:=8) (z:=[gZ 0]) (by kernel_rfl) (by kernel_rfl) (by kernel_rfl) (by kernel_rfl) rfl rfl (by omega) (by omega)) (fun _=>rfl) (fun σ b2 hst=>?_);rw[iy (f:=gZ)] at hst;rw[show List.replicate l.length 0=ky F (l.zip g.threads) 0 from by rw[sD,hzl]] at hst;refine vQ 1 rfl (nT (aj (aj (ai rfl (vQ 1 rfl (aa rfl (I1 hl rfl rfl rfl (e:=33) rfl) rfl (vQ 1 rfl (nT (aP (bE [4,5,7,8,9,10,27,28,29,30,31,32,33,34,35,36,37,38,39,40,41,42,43,44,45,46,47,48,49] (fun j t σ=>∃(i:Nat),j+i=l.length∧(∀(i2:Nat) (c2:XC) (r2:List cK),i2<i→l[i2]?=some c2→g.threads[i2]?=some r2→bm (cw k c2 r2).2 0=true)∧t.get 27=some (.int .i64 (.ofNat i))∧St σ K ((b2,.row ((ky F (l.zip g.threads) i).map gZ) 3 false)::(b1,.row [a,b,c,d] 26 false)::L)) (l.length) ⟨0,rfl,fun i2 c2 r2 h=>absurd h (Nat.not_lt_zero _),rfl,hst⟩ ?_))))))))));clear hst;intro j5 t σ ar hI;obtain⟨i,hj5,hok,hv27,hst⟩:=hI;obtain⟨o4,o5,o7,o8,o9,o10,o27,o28,o29,o30,o31,o32,o33,o34,o35,o36,ar⟩:=ar.Iq rfl rfl rfl rfl;replace ar:=ar.dJ rfl rfl;obtain⟨o37,o38,o39,o40,o41,o42,o43,o44,ar⟩:=ar;replace ar:=ar.rO rfl;obtain⟨o45,o46,o47,o48,ar⟩:=ar;replace ar:=ar.fI rfl;obtain⟨o49,ar⟩:=ar;obtain rfl:=ar.nil;clear ar;replace hv27:o27=some _:=hv27;subst hv27;refine aj (ai rfl (aL rfl (aA rfl rfl rfl) (fun _=>rfl) (fun h28=>?_) (fun h28=>?_)))
   ·refine nT (aj (aC rfl (aF (ad (aj (aP (aj (ai rfl (vQ 1 rfl ?_)))))))));obtain⟨x30,hx30,hi30⟩:=dG h28;refine Jb (e:=33) (m:=2) hl hx30 rfl rfl rfl rfl (fun _=>rfl) (fun p30 vs30 hp30 hl30 hr30=>?_);have hr30':=hr30;obtain⟨v30,rfl,hk30⟩:=hr30';refine aa rfl (bZ hst hp30 rfl (by kernel_rfl) rfl) rfl (bu hst rfl (IV (cs:=[.int .i64 0,.aq])) (fun _=>rfl) (fun σ b3 hst=>?_));refine vQ 1 rfl (bA hst rfl (I8 rfl rfl rfl (hst.get 0 rfl) (m:=2) rfl (ae rfl (ae hk30.leaf.2 az)) (cells':=[_,_]) rfl) rfl (fun σ hst=>?_));refine nT (aj (aQ (l:=[(0,[]),(1,[]),(2,[]),(3,[]),(4,[]),(5,[]),(10,[]),(6,[10]),(7,[]),(8,[]),(9,[]),(11,[]),(12,[])]) (by kernel_rfl) (by kernel_rfl) (an rfl rfl (IT rfl (hst.get 0 rfl) (n:=2) (vs:=[_,_]) rfl) rfl (an rfl rfl (Jc 1 rfl) rfl (an rfl rfl (Ja rfl (hst.get 2 rfl) rfl) rfl (wQ 1 rfl ?_))))));obtain⟨x37,hx37⟩:=cQ (show i<g.threads.length from by rw[←hlg];exact hi30);refine Jf (e:=57) (m:=1) hg.threads hx37 rfl rfl rfl rfl rfl (fun _=>rfl) (fun p37 vs37 hp37 hl37 hr37=>?_);have hr37':=hr37;obtain⟨v37,rfl,hk37⟩:=hr37';refine an rfl rfl (IP hst hp37 rfl rfl) rfl (sL hst rfl rfl (IV (cs:=[.int .i64 0,.int .i64 0,.int .i64 0,.int .i64 0,.int .i64 0,.int .i64 0,.int .i64 0,.int .i64 0,.int .i64 0,.int .i64 0,.int .i64 0])) (fun _=>rfl) (fun σ b4 hst=>?_));refine dw rfl rfl (I5 rfl rfl rfl) (fun _=>rfl) (Ef hG hgl hk30 hk37 (by have:=b3_ x37 (List.mem_of_getElem? hx37);omega) hst) (fun σ hst=>?_);refine⟨(cd (vt rfl rfl rfl rfl rfl (cs:=[.int .i64 0,.int .i64 0,.int .i64 0,.int .i64 0,.int .i64 0,.int .i64 0,.int .i64 0,.int .i64 0,.int .i64 0,.int .i64 0,.int .i64 0]) (e:=87) (by kernel_rfl) (hst.get 0 rfl) (by kernel_rfl)) ba),?_⟩;refine wQ 3 rfl (mm hst rfl rfl (I8 rfl rfl rfl (hst.get 0 rfl) (m:=11) rfl rfl (cells':=[_,_,_,_,_,_,_,_,_,_,_]) rfl) rfl (fun σ hst=>?_));refine⟨ba,?_⟩;refine wQ 1 rfl (bh (ad (aj (aj (ai rfl (vQ 2 rfl (nT (aE rfl (fun h43=>?_) (fun h43=>?_)))))))))
    ·refine aj (ai rfl (vQ 2 rfl (nT (aB (au (aD (au (bC (aD (au (?_)))))))))));have hR:jX k l g=none:=by unfold jX;rw[show bk (bm (bL g) 0)=false from h14,show bk (bm (.ofNat l.length) (.ofNat g.threads.length))=false from h21];exact uM hx30 hx37 (bQ h43)
     exact bU rfl rfl rfl ⟨.aq,[],by rw[hR];rfl,by rw[hR];exact .inl ⟨rfl,rfl,rfl⟩,hst.pop.pop.pop.pop⟩
    ·refine aF (ad (ai rfl (vQ 2 rfl (aa rfl (Jc 10 rfl) rfl (aa rfl (Ja rfl (hst.get 0 rfl) rfl) rfl (aa rfl (eA (e:=3) (m:=1) (by kernel_rfl) (by kernel_rfl) rfl rfl hi30) rfl ?_))))));refine dP hst (.there (.there .here)) rfl (aH rfl rfl (show _=some [gZ (F (x30,x37))] from by rw[hF];rfl) (hst.get 2 rfl) (m:=1) (by kernel_rfl) rfl (by rw[List.length_map];rw[nI (by omega),hzl];omega) rfl (cells':=((ky F (l.zip g.threads) i).set i (F (x30,x37))).map (gZ)) (fm (f:=gZ) (v:=(F (x30,x37))) (by rw[nI (by omega),hzl];exact hi30) (by first | omega | rfl))) rfl (fun σ hst=>?_);rw[uU (GZ hx30 hx37)] at hst;refine af (aK (ad (ai rfl (vQ 2 rfl (af ?_)))));have hst:=hst.pop;have hst:=hst.pop;refine aR ⟨j5-1,by omega,(by(iterate 56 refine bx.put rfl ?_);exact bx.refl _ _),i+1,by omega,fun i2 c2 r2 hlt h1 h2=>(by by_cases e:i2=i;(subst e;rw[hx30] at h1;rw[hx37] at h2;cases h1;cases h2;exact aY h43);exact hok i2 c2 r2 (by omega) h1 h2),congrArg (fun z=>some (AV.int .i64 z)) (bl (by have:=hl.bH;omega)),hst⟩
   ·refine nT (aj (aJ rfl (bG (a9 (bj (aV (ad (aj (ai rfl (vQ 3 rfl (af (ad ?_))))))))))));refine aB ?_;have hR:jX k l g=some ((l.zip g.threads).map (G3 k)):=by unfold jX;rw[show bk (bm (bL g) 0)=false from h14,show bk (bm (.ofNat l.length) (.ofNat g.threads.length))=false from h21];exact vF hlg fun i2 c2 r2 h1 h2=>hok i2 c2 r2 (by have:=(List.getElem?_eq_some_iff.1 h1).1;have:=bz h28;omega) h1 h2
    rw[vB (by have:=bz h28;omega)] at hst;exact bU rfl rfl rfl ⟨_,[(b2,_)],by rw[hR];rfl,by rw[hR,←hF];have:=lU (b:=b2) (e:=3) (E:=3) (xs:=(l.zip g.threads).map F) (by rw[List.length_map];omega);rw[List.length_map,hzl] at this;exact this,hst.sub (.cons_cons _ (.cons _ (.refl _)))⟩
theorem GS {G:Cx} (hG:Plain G) {K:KP} {g:XG} {a b c d:AV} (hg:fe K g a b c d) (hbo:∀l∈g.order,l.length≤1000000) (loc:Int) {σ:av} {L:Own} (hst:St σ K L):
  bc Tryz.prog G 43 [.agg [a,b,c,d],.int .i64 loc] σ fun v σ'=>v= .int .i64 (kF g loc)∧St σ' K L:=by
 refine bg hG Tryz.func43 rfl (t:=(PT.leaf.put (some (.agg [a,b,c,d])) 0).put (some (.int .i64 loc)) 1) (by rfl) (aj (ai rfl (bu hst rfl (cY rfl rfl) (fun _=>rfl) (fun σ b1 hst=>?_))));refine vQ 1 rfl (nS rfl (aa rfl (IT rfl (hst.get 0 rfl) (n:=4) (vs:=[_,_,_,_]) rfl) rfl (vQ 1 rfl (cI rfl (I5 rfl rfl rfl) (fun _=>rfl) (pJ hG hg hbo _ hst) ?_))));rintro u10 σ ⟨M10,hM10,hst⟩;obtain⟨K1,hle,hmem,hst⟩:=hst.fF;have hw:=hM10.kJ (K:=K1) fun y hy=>hmem _ hy;have hg1:=hg.mono hle;have hb9:=hst.get 0 rfl
 refine vQ 1 rfl (nT (aj (aj (ai rfl (vQ 1 rfl (aa rfl (I1 hw rfl rfl rfl (e:=67) rfl) rfl (vQ 1 rfl (nT (aE rfl (fun h13=>?_) (fun h13=>?_))))))))))
 ·refine aj (ai rfl (vQ 1 rfl (nT (aB (au (?_))))));exact ay rfl rfl ⟨congrArg (AV.int .i64) (by unfold kF;rw[List.getLast?_eq_none_iff.2 (List.eq_nil_of_length_eq_zero (Int.ofNat.inj (eqv (b:=.ofNat 0) h13)))]),(hst.pop).weaken hle⟩
 ·refine aF (ad (aj (aQ (l:=[(0,[]),(1,[]),(2,[]),(3,[]),(4,[]),(5,[]),(6,[]),(11,[]),(7,[11]),(8,[]),(9,[]),(10,[]),(12,[]),(13,[])]) (by kernel_rfl) (by kernel_rfl) (an rfl rfl (IT rfl (hst.get 0 rfl) (n:=4) (vs:=[_,_,_,_]) rfl) rfl (wQ 2 rfl (an rfl rfl (I1 hw rfl rfl rfl (e:=67) rfl) rfl (wQ 1 rfl ?_)))))));have hwp:0<(bN g loc).length:=by rcases Nat.eq_zero_or_pos (bN g loc).length with e | e;(rw[e] at h13;cases h13);exact e
  obtain⟨x20,hx20⟩:=cQ (show(bN g loc).length-1<(bN g loc).length from by omega);refine Jf (e:=67) (m:=2) hw hx20 rfl rfl rfl rfl (congrArg (fun z=>some (AV.int .i64 z)) (kH (b:=1) (by omega) hw.bH)) (fun _=>rfl) (fun p20 vs20 hp20 hl20 hr20=>?_);obtain rfl:=hr20;refine an rfl rfl (bZ hst hp20 rfl (by kernel_rfl) rfl) rfl (sL hst rfl rfl (IV (cs:=[.int .i64 0,.int .i64 0,.int .i64 0,.int .i64 0,.int .i64 0])) (fun _=>rfl) (fun σ b2 hst=>?_));refine dw rfl rfl (I5 rfl rfl rfl) (fun _=>rfl) (wa hG hg1 _ _ hst) (fun σ hst=>?_);refine⟨(cd (vt rfl rfl rfl rfl rfl (cs:=[.int .i64 0,.int .i64 0,.int .i64 0,.int .i64 0,.int .i64 0]) (e:=56) (by kernel_rfl) (hst.get 0 rfl) (by kernel_rfl)) ba),?_⟩;refine wQ 3 rfl (mm hst rfl rfl (I8 rfl rfl rfl (hst.get 0 rfl) (m:=5) rfl rfl (cells':=[_,_,_,_,_]) rfl) rfl (fun σ hst=>?_));refine⟨ba,?_⟩;refine wQ 1 rfl (bh (ad (aj (ai rfl (aa rfl (Jc 4 rfl) rfl (aa rfl (Ja rfl (hst.get 0 rfl) rfl) rfl (vQ 1 rfl (nT (aB ?_)))))))));exact ay rfl rfl ⟨congrArg (AV.int .i64) (by unfold kF;rw[List.getLast?_eq_getElem?,hx20]),(hst.pop.pop).weaken hle⟩
end Go.Ev
namespace Go.Ev
variable [Env]
theorem zx {n:mM} {m m':List Int} {g g':XG} (h:bm n.event.kind 4=false→m'[(gz n).toNat]?=m[(gz n).toNat]?∧bN g' (gz n)=bN g (gz n)):
  (dD n m' g').fQ=(dD n m g).fQ∧(dD n m' g').fr=(dD n m g).fr∧(dD n m' g').place=(dD n m g).place∧
  (dD n m' g').mem=(bif bm n.event.kind 4 then m' else bif bk (bm (dD n m g).fQ.kind 1) then m'.set (gz n).toNat (dD n m g).fQ.write else m'):=by
 cases h4:bm n.event.kind 4 with
 | true=>rw[gm h4,gm h4];exact⟨rfl,rfl,rfl,rfl⟩
 | false=>
  obtain⟨h1,h2⟩:=h h4;unfold dD;rw[h4];dsimp only;rw[h1,h2];simp only[cond_false];generalize (bif bk (bm n.ask.kind 0) then bX n.ask ((m[(gz n).toNat]?).getD 0) else n.event)=fQ;cases h5:bk (bm fQ.kind 1) with
  | true=>exact⟨rfl,rfl,rfl,by show m'.set _ _=bif bk (bm fQ.kind 1) then _ else _;rw[h5];rfl⟩
  | false=>exact⟨rfl,rfl,rfl,by show m'=bif bk (bm fQ.kind 1) then _ else m';rw[h5];rfl⟩
theorem xY {n:mM} {m:List Int} {g:XG} (h4:bm n.event.kind 4=false) (h1:bm (dD n m g).fQ.kind 1=false):(dD n m g).place= .ofNat (bN g (gz n)).length:=by
 revert h1;unfold dD;rw[h4];dsimp only;simp only[cond_false];generalize (bif bk (bm n.ask.kind 0) then bX n.ask ((m[(gz n).toNat]?).getD 0) else n.event)=fQ;cases h5:bk (bm fQ.kind 1) with
 | true=>intro _;rfl
 | false=>
  intro h;have h:bm fQ.kind 1=false:=h;rw[h] at h5;cases h5
theorem Ca {k:Nat} {c:XC} {row:List cK} {g g':XG} (h:g'.init=g.init):iX k c row g'=iX k c row g:=by
 unfold iX eJ;rw[h]
noncomputable def wW (q:rP) (m:List Int):List Int:=bif aZ q.fQ then m.set q.fQ.loc.toNat q.fQ.write else m
theorem Bp {k:Nat} {l:List XC} {r x:XM} {s:Nat} {c:XC} {row:List cK} {p:rP} (hx:lZ k l r s c row p x):p.mem=wW p r.mem:=by
 have pa:=n7 hx.err (by rw[←hx.iA];exact hx.add);rw[←hx.iA] at pa;unfold wW;rcases pa.cases with ⟨e4,e,_⟩ | ⟨ln,_,hl,_,⟨hw,e,_⟩ | ⟨hw,e,_⟩⟩
 ·rw[e,show aZ p.fQ=false by unfold aZ;rw[e4];rfl];rfl
 ·rw[e,hw];rfl
 ·rw[e,hw,hl];rfl
theorem vH {k:Nat} {l:List XC} {r x y:XM} {s t:Nat} {c1 c2:XC} {row1 row2:List cK} {p q:rP} (hx:lZ k l r s c1 row1 p x) (hy:lZ k l r t c2 row2 q y) (hst:s≠t) {gg:XG} (hadd:eX x.g (.ofNat (t+1)) q.fQ q.fr q.place=(some gg,0))
  (hcond:aZ p.fQ=true→q.fQ.kind≠4→p.fQ.loc≠q.fQ.loc):eC k l x t=(some ⟨wW q x.mem,gg⟩,0):=by
 have pa:=n7 hx.err (by rw[←hx.iA];exact hx.add);rw[←hx.iA] at pa;have qa:=n7 hy.err (by rw[←hy.iA];exact hy.add);rw[←hy.iA] at qa;obtain⟨_,_,_,_,hck,hck',_,_,_,_,_⟩:=uO hx.add;have hi:=yl hx.add;obtain⟨row0,h0,hth⟩:=r7 hx.add;rw[hx.rowAt] at h0;cases h0;have hrow:x.g.threads[t]?=some row2:=by rw[hth,List.getElem?_set_ne hst];exact hy.rowAt
 have hlook:bm (cw k c2 row2).1.event.kind 4=false→x.mem[(gz (cw k c2 row2).1).toNat]?=r.mem[(gz (cw k c2 row2).1).toNat]?∧bN x.g (gz (cw k c2 row2).1)=bN r.g (gz (cw k c2 row2).1):=by
  intro h4;obtain⟨ln,hlt,hl,hql,hq4⟩:=qa.look h4;have hne:aZ p.fQ=true→p.fQ.loc≠ .ofNat ln:=fun hw=>by rw[←hql];exact hcond hw hq4
  rw[hl,show(Int.ofNat ln).toNat=ln from rfl];refine⟨?_,?_⟩
  ·rw[hx.mem];rcases pa.cases with ⟨_,e,_⟩ | ⟨l1,_,hl1,_,⟨_,e,_⟩ | ⟨hw,e,_⟩⟩
   ·rw[e]
   ·rw[e]
   ·rw[e];have:=hne hw;rw[hl1] at this;rw[List.getElem?_set_ne (fun e=>this (by rw[e]))]
  ·obtain⟨o,ho⟩:=hX hck hlt;rw[dT (by rw[hck];rfl) ho,dT (by rw[hck'];rfl) (by rw[vJ hx.add hne];exact ho)]
 obtain⟨e1,e2,e3,e4⟩:=zx (m:=r.mem) (g:=r.g) (m':=x.mem) (g':=x.g) hlook;rw[←hy.iA] at e1 e2 e3 e4;refine lZ.step (c:=c2) (row:=row2) (p:=dD (cw k c2 row2).1 x.mem x.g) ⟨hy.code,hrow,by rw[Ca hi];exact hy.err,rfl,by rw[e1,e2,e3];exact hadd,?_⟩;show wW q x.mem=_;rw[e4];unfold wW;cases h4:bm (cw k c2 row2).1.event.kind 4 with
 | true=>
  have:q.fQ.kind=4:=by have:=hy.iA;rw[gm h4] at this;rw[this];exact zi h4
  rw[show aZ q.fQ=false by unfold aZ;rw[this];rfl];rfl
 | false=>
  obtain⟨ln,hlt,hl,hql,hq4⟩:=qa.look h4;rw[hl,hql];rcases qa.cases with ⟨k4,_,_⟩ | ⟨_,_,_,_,⟨hw,_,_⟩ | ⟨hw,_,_⟩⟩
  ·exact absurd k4 hq4
  ·rw[hw]
   have:bm q.fQ.kind 1=true:=by
    cases h1:bm q.fQ.kind 1 with
    | true=>rfl
    | false=>
     have hpl:=xY (m:=r.mem) (g:=r.g) h4 (by rw[←hy.iA];exact h1);rw[←hy.iA,hl] at hpl;have hadd2:=hy.add;rw[hpl] at hadd2;rw[kX hadd2 hlt] at hw;cases hw
   rw[this];rfl
  ·rw[hw]
   have:bm q.fQ.kind 1=false:=by
    cases h1:bm q.fQ.kind 1 with
    | false=>rfl
    | true=>unfold aZ at hw;rw[zi h1] at hw;cases hw
   rw[this];rfl
theorem Ax {k:Nat} {l:List XC} {r x y:XM} {s t:Nat} {c1 c2:XC} {row1 row2:List cK} {p q:rP} (hx:lZ k l r s c1 row1 p x) (hy:lZ k l r t c2 row2 q y) (hst:s≠t)
  (h1:aZ p.fQ=true→q.fQ.kind≠4→p.fQ.loc≠q.fQ.loc) (h2:aZ q.fQ=true→p.fQ.kind≠4→q.fQ.loc≠p.fQ.loc):∃z,eC k l x t=(some z,0)∧eC k l y s=(some z,0):=by
 have hw4:∀e:cK,aZ e=true→e.kind≠4:=fun e hw h4=>by unfold aZ at hw;rw[h4] at hw;cases hw
 obtain⟨gg,g1,g2⟩:=CL hx.add hy.add (fun e=>hst (by have:=Int.ofNat.inj e;omega)) (fun a b=>h1 a (hw4 _ b));refine⟨⟨wW q x.mem,gg⟩,vH hx hy hst g1 h1,?_⟩;rw[vH hy hx (fun e=>hst e.symm) g2 h2]
 have:wW p y.mem=wW q x.mem:=by
  rw[hx.mem,hy.mem,Bp hx,Bp hy];unfold wW;cases hp:aZ p.fQ with
  | false=>cases aZ q.fQ<;>rfl
  | true=>
   cases hq:aZ q.fQ with
   | false=>rfl
   | true=>
    simp only[cond_true];have qa:=n7 hy.err (by rw[←hy.iA];exact hy.add);rw[←hy.iA] at qa;have pa:=n7 hx.err (by rw[←hx.iA];exact hx.add);rw[←hx.iA] at pa;have hne:=h1 hp (hw4 _ hq);rcases pa.cases with ⟨e4,_⟩ | ⟨l1,_,e1,_⟩
    ·exact absurd e4 (hw4 _ hp)
    rcases qa.cases with ⟨e4,_⟩ | ⟨l2,_,e2,_⟩
    ·exact absurd e4 (hw4 _ hq)
    rw[e1,e2] at hne⊢;exact List.set_comm _ _ (fun e=>hne (by show Int.ofNat l1=Int.ofNat l2;rw[show l2=l1 from e]))
 rw[this]
def oh (m:List Int) (x0 x1 x2 x3 x4 x5:Int):Prop:=[x0,x1,x2,x3,x4,x5]=m++List.replicate (6-m.length) 0
abbrev c6 (x0 x1 x2 x3 x4 x5:Int) (a b c d:AV):List AV:=[.int .i64 x0,.int .i64 x1,.int .i64 x2,.int .i64 x3,.int .i64 x4,.int .i64 x5,a,b,c,d]
abbrev vP:List AV:=[.int .i64 0,.int .i64 0,.int .i64 0,.int .i64 0,.int .i64 0,.int .i64 0,.aq,.aq,.aq,.aq]
theorem oh.le {m:List Int} {x0 x1 x2 x3 x4 x5:Int} (h:oh m x0 x1 x2 x3 x4 x5):m.length≤6:=by
 have:=congrArg List.length h;rw[List.length_append,List.length_replicate] at this;have e: [x0,x1,x2,x3,x4,x5].length=6:=rfl;omega
theorem oh.at_ {m:List Int} {x0 x1 x2 x3 x4 x5:Int} (h:oh m x0 x1 x2 x3 x4 x5) {a b c d:AV} {ln:Nat} (hl:ln<m.length):∃y,m[ln]?=some y∧nth (c6 x0 x1 x2 x3 x4 x5 a b c d) (0+ln*1)=some (.int .i64 y):=by
 have h6:=h.le;obtain⟨y,hy⟩:=cQ hl;have: [x0,x1,x2,x3,x4,x5][ln]?=some y:=by rw[show [x0,x1,x2,x3,x4,x5]=_ from h,List.getElem?_append_left hl];exact hy
 refine⟨y,hy,?_⟩;rw[dU,Nat.mul_one,Nat.zero_add];have hl6:ln<6:=by omega
 match ln,hl6 with
 | 0,_ | 1,_ | 2,_ | 3,_ | 4,_ | 5,_=>cases this;rfl
theorem oh.set {m:List Int} {x0 x1 x2 x3 x4 x5:Int} (h:oh m x0 x1 x2 x3 x4 x5) {a b c d:AV} {ln:Nat} (hl:ln<m.length) (v:Int):∃y0 y1 y2 y3 y4 y5,cO [.int .i64 v] (c6 x0 x1 x2 x3 x4 x5 a b c d) (0+ln*1)=c6 y0 y1 y2 y3 y4 y5 a b c d∧oh (m.set ln v) y0 y1 y2 y3 y4 y5:=by
 have h6:=h.le;have hs: [x0,x1,x2,x3,x4,x5].set ln v=m.set ln v++List.replicate (6-(m.set ln v).length) 0:=by rw[show [x0,x1,x2,x3,x4,x5]=_ from h,List.set_append_left _ _ hl,List.length_set]
 have hl6:ln<6:=by omega
 match ln,hl6 with
 | 0,_=>exact⟨v,x1,x2,x3,x4,x5,rfl,hs⟩
 | 1,_=>exact⟨x0,v,x2,x3,x4,x5,rfl,hs⟩
 | 2,_=>exact⟨x0,x1,v,x3,x4,x5,rfl,hs⟩
 | 3,_=>exact⟨x0,x1,x2,v,x4,x5,rfl,hs⟩
 | 4,_=>exact⟨x0,x1,x2,x3,v,x5,rfl,hs⟩
 | 5,_=>exact⟨x0,x1,x2,x3,x4,v,rfl,hs⟩
theorem qF {α:Type} {K:KP} {m b e n:Nat} {R:α→List AV→Prop} (h:K b (.row (List.replicate n .aq) e false)) (hn:n≤1000000):bD K 1 (RL K m R) (List.replicate n []) (.slice b 0 n (.known n)):=by
 refine .inr ⟨b,0,_,_,e,false,by rw[List.length_replicate],.inr ⟨_,rfl,by rw[List.length_replicate];exact Nat.le_refl _⟩,h,by simp,by rw[List.length_replicate];omega,fun i x hx=>?_⟩;have hi:i<n:=by have:=(List.getElem?_eq_some_iff.1 hx).1;simpa using this
 have hx':=List.eq_of_mem_replicate (List.mem_of_getElem? hx);subst hx';refine⟨.aq,?_,.inl ⟨rfl,rfl⟩⟩;rw[Nat.zero_add,Nat.mul_one,List.drop_replicate,List.take_replicate,show min 1 (n-i)=1 by omega];rfl
theorem iw {k:Nat} {l:List XC} {r:XM} {t:Nat} {c:XC} {row:List cK} (h1:l[t]?=some c) (h2:r.g.threads[t]?=some row) {e:Int} (h:iX k c row r.g=e) (he:bm e 0=false):eC k l r t=(none,e):=by
 unfold eC;rw[h1,h2];dsimp only;rw[h,he];rfl
theorem lj {k:Nat} {l:List XC} {r:XM} {t:Nat} {c:XC} {row:List cK} (h1:l[t]?=some c) (h2:r.g.threads[t]?=some row) (h:iX k c row r.g=0) {p:rP} (hp:dD (cw k c row).1 r.mem r.g=p):eC k l r t=xh p (.ofNat (t+1)) r.g:=by
 unfold eC;rw[h1,h2];dsimp only;rw[h,hp];rfl
end Go.Ev
namespace Go.Ev
variable [Env]
theorem m3 {P:Program} {ev:Operand→Option AV} {t e w n:Nat} {k k':IntKind} {z:List AV} {lo co:Operand} (ht:P.underlying t=some (.slice e)) (hw:(P.info? e).map (·.bytes)=some w) (hz:(ej P e).bind cm=some z)
  (hs:((P.info? e).any fun j=>Nat.beq (cr z) j.size && Nat.ble 1 j.size)=true) (hl:ev lo=some (.int k (.ofNat n))) (hc:ev co=some (.int k' (.ofNat n))) (hn:w*n≤1048576) (hn':n≤1048576):
  eI P ev (.makeSlice t lo co)=some (.row (ec z n) e false,.slice n n):=by
 obtain⟨j,hj,rfl⟩:=Option.map_eq_some_iff.1 hw;rw[hj] at hs;simp only[Option.any_some,Bool.and_eq_true] at hs;simp only[eI,ht,hl,hc,hj,hz];rw[hs.1,hs.2,show Nat.ble n n=true by rw[Nat.ble_eq];exact Nat.le_refl _,show Nat.ble (j.bytes*n) 1048576=true by rw[Nat.ble_eq];exact hn,show Nat.ble n 1048576=true by rw[Nat.ble_eq];exact hn'];rfl
theorem s8 {P:Program} {G:Cx} {t:PT AV} {σ:av} {ops:Array Oper} {o:Oper} {i k b e n:Nat} {cs:List AV} (hi:ops[i]?=some o) (hw:bp ops t o=some true) (hd:o.dst=some k) (hg:t.get k=some (.slice b 0 n (.known n))) (hk:kindOf P o.op= .alloc) (ha:eI P (aX G t) o.op=some (.row cs e false,.slice n n)) (hm:σ.m.get b=some (.row cs e false)) (hb:du.beqL cs cs=true):gH P G ops t σ i=true:=by
 unfold gH;rw[hi];dsimp only;rw[hw];dsimp only;rw[hd];dsimp only;rw[show t.get (posOf k)=some (.slice b 0 n (.known n)) from hg];dsimp only;rw[hk];dsimp only;simp only[ha,hm,hb,Nat.beq_refl,Bool.and_self]
theorem ug (n:Nat):du.beqL (List.replicate n AV.aq) (List.replicate n AV.aq)=true:=by
 induction n with
 | zero=>rfl
 | succ n ih=>rw[List.replicate_succ];exact dj rfl ih
section
variable {P:Program} {G:Cx} {n:Nat} {t:PT AV} {σ:av} {Q:Ex→PT AV→av→Prop}
def H7 (W:List Nat) (t:PT AV) (I:PT AV→av→Prop) (e:Ex) (t':PT AV) (σ':av):Prop:=e= .normal∧bx W t t'∧I t' σ'
theorem Fp {a b:Code} (W:List Nat) (I:PT AV→av→Prop) (h1:Ev P G a n t σ (H7 W t I)) (h2:∀t' σ',bx W t t'→I t' σ'→Ev P G b n t' σ' Q):Ev P G (.seq a b) n t σ Q:=
 aj (h1.mono fun e t' σ' h=>by obtain⟨rfl,h3,h4⟩:=h;exact h2 t' σ' h3 h4)
end
end Go.Ev
namespace Go.Ev
variable [Env]
open Go.Proofs
set_option maxRecDepth 4000
set_option maxHeartbeats 8000000
theorem lE {g:XG} {th pl:Int} {e:cK} {fr:cS} {er:Int} (h:eX g th e fr pl=(none,er)):bm er 0=false:=by
 have key:er=2∨er=9∨er=3:=by
  unfold eX at h;cases h1:bm (bL g) 0 with
  | false=>rw[h1] at h;cases h;exact .inl rfl
  | true=>
   rw[h1] at h;cases h2:cg th 1 with
   | true=>rw[h2] at h;cases h;exact .inr (.inl rfl)
   | false=>
    rw[h2] at h;cases h3:cg (.ofNat g.threads.length) th with
    | true=>rw[h3] at h;cases h;exact .inr (.inl rfl)
    | false=>
     rw[h3] at h;simp only[Bool.not_true,cond_false] at h;split at h
     ·rename_i row frow _ _;cases h4:cg (.ofNat row.length) 14 with
      | false=>rw[h4] at h;cases h;exact .inr (.inr rfl)
      | true=>
       rw[h4] at h;simp only[Bool.not_true,cond_false] at h;generalize (bif aZ e then(bif cg pl 1 then true else cg (.ofNat (bN g e.loc).length) pl) else !bm pl 0)=q at h;cases q with
       | true=>cases h;exact .inl rfl
       | false=>
        simp only[cond_false] at h;generalize bm (bL _) 0=q2 at h;cases q2 with
        | true=>cases h
        | false=>cases h;exact .inl rfl
     ·cases h;exact .inr (.inl rfl)
 rcases key with rfl | rfl | rfl<;>rfl
def GW (init:List Int) (t:Nat):XG:=⟨init,List.replicate t [],List.replicate t [],List.replicate init.length []⟩
theorem Hs {G:Cx} (hG:Plain G) {K:KP} {init:List Int} {vi:AV} (hi:bD K 1 dI init vi) (hi6:init.length≤6) {t:Nat} (ht:t≤4) {σ:av} {L:Own} (hst:St σ K L):
  bc Tryz.prog G 14 [vi,.int .i64 (.ofNat t)] σ fun v σ'=>∃K1 a b c d,v= .tuple [.agg [a,b,c,d],.int .i64 0]∧KP.le K K1∧fe K1 (GW init t) a b c d∧St σ' K1 L:=by
 refine bg hG Tryz.func14 rfl (t:=(PT.leaf.put (some (vi)) 0).put (some (.int .i64 (.ofNat t))) 1) (by rfl) (aj (ai rfl (bu hst rfl (IV (cs:=[.aq,.aq,.aq,.aq])) (fun _=>rfl) (fun σ b1 hst=>?_))));refine vQ 1 rfl (nT (aj (aj (ai rfl (vQ 2 rfl (aL rfl (al rfl) (fun _=>rfl) (fun h8=>?_) (fun h8=>?_)))))))
 ·exact absurd (show 4<t from cA (a:=4) h8) (by omega)
 ·refine vQ 1 rfl (aa rfl (I1 hi rfl rfl rfl (e:=2) rfl) rfl (vQ 2 rfl (nT (aE rfl (fun h12=>?_) (fun h12=>?_)))))
  ·exact absurd (show 6<init.length from cA (a:=6) h12) (by omega)
  ·refine aF (ad (aj (aj (ai rfl (vQ 2 rfl (nT (aE rfl (fun h15=>?_) (fun h15=>?_))))))))
   ·exact absurd (show t<0 from cA (b:=0) h15) (by omega)
   ·refine aF (ad (aj (aQ (l:=[(0,[]),(2,[]),(3,[]),(4,[]),(5,[]),(6,[]),(7,[]),(8,[]),(1,[3,5,8]),(9,[]),(10,[]),(11,[])]) (by kernel_rfl) (by kernel_rfl) (wQ 2 rfl (tV hst rfl rfl (gM (e:=57) (w:=24) (z:=[.aq]) (by kernel_rfl) (by kernel_rfl) (by kernel_rfl) (by kernel_rfl) rfl rfl (by omega) (by omega)) (fun _=>rfl) (fun σ b2 hst=>?_))))));rw[eV] at hst;refine wQ 1 rfl (tV hst rfl rfl (gM (e:=74) (w:=24) (z:=[.aq]) (by kernel_rfl) (by kernel_rfl) (by kernel_rfl) (by kernel_rfl) rfl rfl (by omega) (by omega)) (fun _=>rfl) (fun σ b3 hst=>?_));rw[eV] at hst;refine wQ 1 rfl (an rfl rfl (I1 hi rfl rfl rfl (e:=2) rfl) rfl (tV hst rfl rfl (gM (e:=74) (w:=24) (z:=[.aq]) (by kernel_rfl) (by kernel_rfl) (by kernel_rfl) (by kernel_rfl) rfl rfl (by omega) (by omega)) (fun _=>rfl) (fun σ b4 hst=>?_)));rw[eV] at hst;refine ja rfl rfl (I5 rfl rfl rfl) (fun _=>rfl) (qQ hG hi (by omega) hst) ?_;rintro u18 σ ⟨M18,hM18,hst⟩;refine⟨(cd (s8 rfl rfl rfl rfl rfl ((m3 (e:=57) (w:=24) (z:=[.aq]) (by kernel_rfl) (by kernel_rfl) (by kernel_rfl) (by kernel_rfl) rfl rfl (by omega) (by omega)).trans (by rw[eV])) (hst.bq.pop.pop.get 0 rfl) (ug _)) (cd (s8 rfl rfl rfl rfl rfl ((m3 (e:=74) (w:=24) (z:=[.aq]) (by kernel_rfl) (by kernel_rfl) (by kernel_rfl) (by kernel_rfl) rfl rfl (by omega) (by omega)).trans (by rw[eV])) (hst.bq.pop.get 0 rfl) (ug _)) (cd (s8 rfl rfl rfl rfl rfl ((m3 (e:=74) (w:=24) (z:=[.aq]) (by kernel_rfl) (by kernel_rfl) (by kernel_rfl) (by kernel_rfl) rfl rfl (by omega) (by omega)).trans (by rw[eV])) (hst.bq.get 0 rfl) (ug _)) ba))),?_⟩;refine an rfl rfl (bB (places:=[(0,1),(1,1),(2,1),(3,1)]) (zero:=[.aq,.aq,.aq,.aq]) (cs:=[_,_,_,_]) (by kernel_rfl) (by kernel_rfl) (by kernel_rfl) (bP rfl rfl hM18.leaf.1 rfl (bP rfl rfl rfl rfl (bP rfl rfl rfl rfl (bP rfl rfl rfl rfl da)))) (by kernel_rfl)) rfl (l5 hst (.fc (.there (.there (.there .here)))) rfl rfl (I8 rfl rfl rfl (hst.bq.pop.pop.pop.get 0 rfl) (m:=4) rfl (ae hM18.leaf.2 rfl) (cells':=[_,_,_,_]) rfl) rfl (fun σ hst=>?_));refine⟨ba,?_⟩;refine wQ 1 rfl (bh (ad (aB ?_)));obtain⟨K1,hle,hmem,hst⟩:=St.fF (σ:=σ) (K:=K) (L:=_::L) (M:=M18++[_,_,_]) (by rw[List.append_assoc];exact hst);have q4:=hmem _ (List.mem_append_right _ (.head _));have q3:=hmem _ (List.mem_append_right _ (.tail _ (.head _)));have q2:=hmem _ (List.mem_append_right _ (.tail _ (.tail _ (.head _))));have q1:=hM18.kJ (K:=K1) fun y hy=>hmem _ (List.mem_append_left _ hy);dsimp only at q2 q3 q4
    exact br rfl rfl (hst.get 0 rfl) (m:=4) (by kernel_rfl) rfl rfl ⟨K1,_,_,_,_,rfl,hle,⟨q1,qF q2 (by omega),qF q3 (by omega),qF q4 (by omega)⟩,hst.pop⟩
theorem BN {G:Cx} (hG:Plain G) (hfk:G.fk 70=true) (hov:G.ov 106=true) {K:KP} (hgl:kb G K) {k:Nat} {l:List XC} {lv:AV} (hl:bD K 2 (jl K k) l lv) {r:XM} (hinv:jK k l r) {a b c d:AV} (hg:fe K r.g a b c d) {x0 x1 x2 x3 x4 x5:Int} (hm:oh r.mem x0 x1 x2 x3 x4 x5) {t:Nat} (ht:t<l.length) {σ:av} {L:Own} (hst:St σ K L):
  bc Tryz.prog G 54 [.agg [.int .i64 x0,.int .i64 x1,.int .i64 x2,.int .i64 x3,.int .i64 x4,.int .i64 x5,a,b,c,d],lv,.int .i64 (.ofNat (t+1))] σ fun v σ'=>(∃e,v= .tuple [.agg vP,.int .i64 e]∧e=(eC k l r t).2∧bm e 0=false∧St σ' K L)∨
   ∃K1 r' y0 y1 y2 y3 y4 y5 a' b' c' d',KP.le K K1∧eC k l r t=(some r',0)∧v= .tuple [.agg [.int .i64 y0,.int .i64 y1,.int .i64 y2,.int .i64 y3,.int .i64 y4,.int .i64 y5,a',b',c',d'],.int .i64 0]∧fe K1 r'.g a' b' c' d'∧oh r'.mem y0 y1 y2 y3 y4 y5∧St σ' K1 L:=by
 obtain⟨xc,hxc⟩:=cQ ht;obtain⟨row,hrow⟩:=cQ (show t<r.g.threads.length from by rw[hinv.len];exact ht);have hck:=hinv.HL;obtain⟨b1_,b2_,b3_,_⟩:=cz hck;have hrl:=b3_ row (List.mem_of_getElem? hrow);have hord:=lR hck;have hnx:=oQ.2 (hinv.fits t xc row hxc hrow);have hll:=hl.bH;obtain⟨N,hN⟩:∃N,N=(cw k xc row).1:=⟨_,rfl⟩;have hml:=hinv.mem;have hle1:KP.le K K:=KP.le_refl K;have hgl0:=hgl;refine bg hG Tryz.func54 rfl (t:=((PT.leaf.put (some (.agg [.int .i64 x0,.int .i64 x1,.int .i64 x2,.int .i64 x3,.int .i64 x4,.int .i64 x5,a,b,c,d])) 0).put (some (lv)) 1).put (some (.int .i64 (.ofNat (t+1)))) 2) (by rfl) (aj (ai rfl (bu hst rfl (cY rfl rfl) (fun _=>rfl) (fun σ b1 hst=>?_))));refine bu hst rfl (IV (cs:=[.int .i64 0,.int .i64 0,.int .i64 0,.int .i64 0,.int .i64 0,.int .i64 0,.aq,.aq,.aq,.aq])) (fun _=>rfl) (fun σ b2 hst=>?_);refine vQ 1 rfl (nS rfl (aa rfl (Jc 6 rfl) rfl (aa rfl (Jc 1 rfl) rfl (aa rfl (Ja rfl (hst.get 1 rfl) rfl) rfl (vQ 2 rfl (Jb (e:=57) (m:=1) hg.threads hrow rfl rfl rfl (congrArg (fun z=>some (AV.int .i64 z)) (eE (t:=t) (by have:=hl.bH;omega))) (fun _=>rfl) (fun p21 vs21 hp21 hl21 hr21=>?_)))))));have hr21':=hr21;obtain⟨v21,rfl,hk21⟩:=hr21';refine aa rfl (IP hst hp21 rfl rfl) rfl (vQ 1 rfl (nS rfl (vQ 3 rfl (Jb (e:=33) (m:=2) hl hxc rfl rfl rfl (congrArg (fun z=>some (AV.int .i64 z)) (eE (t:=t) (by have:=hl.bH;omega))) (fun _=>rfl) (fun p27 vs27 hp27 hl27 hr27=>?_)))));have hr27':=hr27;obtain⟨v27,rfl,hk27⟩:=hr27';refine aa rfl (bZ hst hp27 rfl (by kernel_rfl) rfl) rfl (vQ 1 rfl (bf rfl (I5 rfl rfl rfl) (fun _=>rfl) (Ef hG hgl hk27 hk21 (by omega) hst) (fun σ hst=>?_)));rw[hnx,←hN];refine vQ 3 rfl (bu hst rfl (IV (cs:=[.int .i64 0,.int .i64 0,.int .i64 0,.int .i64 0,.int .i64 0,.int .i64 0,.int .i64 0,.int .i64 0,.int .i64 0,.int .i64 0,.int .i64 0])) (fun _=>rfl) (fun σ b3 hst=>?_));refine bA hst rfl (I8 rfl rfl rfl (hst.get 0 rfl) (m:=11) rfl rfl (cells':=[_,_,_,_,_,_,_,_,_,_,_]) rfl) rfl (fun σ hst=>?_);refine vQ 1 rfl (nT (aj (aP (aj (ai rfl (vQ 1 rfl (aL rfl (aA rfl rfl rfl) (fun _=>rfl) (fun h35=>?_) (fun h35=>?_))))))))
 ·exact absurd h35 (by decide)
 ·refine vQ 1 rfl (nT (aJ rfl (aj (ai rfl (aa rfl (Jc 10 rfl) rfl (aa rfl (Ja rfl (hst.get 0 rfl) rfl) rfl (aL rfl (aA rfl rfl rfl) (fun _=>rfl) (fun h41=>?_) (fun h41=>?_))))))))
  ·refine vQ 1 rfl (nT (aC rfl (aj (ai rfl (aa rfl (IY (places:=[(0,6),(6,4)]) (zero:=[.int .i64 0,.int .i64 0,.int .i64 0,.int .i64 0,.int .i64 0,.int .i64 0,.aq,.aq,.aq,.aq]) (cs:=[_,_,_,_,_,_,_,_,_,_]) rfl) rfl (ep hst rfl (I8 rfl rfl rfl (hst.get 1 rfl) (m:=10) rfl rfl (cells':=[_,_,_,_,_,_,_,_,_,_]) rfl) rfl (fun σ hst=>?_)))))));refine vQ 1 rfl (nT (aB (aD (au (?_)))));exact br rfl rfl (hst.get 1 rfl) (m:=10) (by kernel_rfl) rfl rfl (.inl ⟨10,rfl,by rw[iw hxc hrow (e:=10) (by unfold iX;rw[hnx,←hN];rw[show bk (bm N.fin 0)=true from h41];rfl) rfl],rfl,hst.pop.pop.pop⟩)
  ·refine vQ 1 rfl (nT (aJ rfl (aj (ai rfl (vQ 1 rfl (aa rfl (I1 hk21 rfl rfl rfl (e:=56) rfl) rfl (aL rfl (aA rfl rfl rfl) (fun _=>rfl) (fun h46=>?_) (fun h46=>?_))))))))
   ·refine vQ 1 rfl (nT (aC rfl (aj (ai rfl (aa rfl (IY (places:=[(0,6),(6,4)]) (zero:=[.int .i64 0,.int .i64 0,.int .i64 0,.int .i64 0,.int .i64 0,.int .i64 0,.aq,.aq,.aq,.aq]) (cs:=[_,_,_,_,_,_,_,_,_,_]) rfl) rfl (ep hst rfl (I8 rfl rfl rfl (hst.get 1 rfl) (m:=10) rfl rfl (cells':=[_,_,_,_,_,_,_,_,_,_]) rfl) rfl (fun σ hst=>?_)))))));refine vQ 1 rfl (nT (aB (aD (au (?_)))));exact br rfl rfl (hst.get 1 rfl) (m:=10) (by kernel_rfl) rfl rfl (.inl ⟨3,rfl,by rw[iw hxc hrow (e:=3) (by unfold iX;rw[hnx,←hN];rw[show bk (bm N.fin 0)=false from h41,show bk (cg (.ofNat row.length) 14)=true from h46];rfl) rfl],rfl,hst.pop.pop.pop⟩)
   ·refine vQ 1 rfl (nT (aJ rfl (aF (aK (ad (aj (ai rfl (aa rfl (Jc 0 rfl) rfl (aa rfl (Jc 1 rfl) rfl (aa rfl (Ja rfl (hst.get 0 rfl) rfl) rfl (vQ 1 rfl (af ?_))))))))))));refine ad (aj (aj (ai rfl (aa rfl (Jc 5 rfl) rfl (aa rfl (Jc 0 rfl) rfl (aa rfl (Ja rfl (hst.get 0 rfl) rfl) rfl (vQ 1 rfl (nT (aE rfl (fun h54=>?_) (fun h54=>?_))))))))))
    ·have hloc:gz N=N.ask.loc:=by unfold gz;rw[show bk (bm N.ask.kind 0)=true from h54];rfl
     refine ai rfl (aa rfl (Jc 5 rfl) rfl (aa rfl (Jc 1 rfl) rfl (aa rfl (Ja rfl (hst.get 0 rfl) rfl) rfl (vQ 1 rfl (nT (aj (aj (ai rfl (aa rfl (Jc 0 rfl) rfl (aa rfl (Jc 0 rfl) rfl (aa rfl (Ja rfl (hst.get 0 rfl) rfl) rfl (vQ 1 rfl ?_))))))))))));refine aL rfl (al rfl) (fun _=>rfl) (fun h62=>?_) (fun h62=>?_)
     ·refine vQ 2 rfl (aL rfl (al rfl) (fun _=>rfl) (fun h65=>?_) (fun h65=>?_))
      ·refine vQ 8 rfl (nT (aC rfl (aj (ai rfl (aa rfl (IY (places:=[(0,6),(6,4)]) (zero:=[.int .i64 0,.int .i64 0,.int .i64 0,.int .i64 0,.int .i64 0,.int .i64 0,.aq,.aq,.aq,.aq]) (cs:=[_,_,_,_,_,_,_,_,_,_]) rfl) rfl (ep hst rfl (I8 rfl rfl rfl (hst.get 1 rfl) (m:=10) rfl rfl (cells':=[_,_,_,_,_,_,_,_,_,_]) rfl) rfl (fun σ hst=>?_)))))));refine vQ 1 rfl (nT (aB (au (?_))));exact br rfl rfl (hst.get 1 rfl) (m:=10) (by kernel_rfl) rfl rfl (.inl ⟨2,rfl,by rw[iw hxc hrow (e:=2) (by unfold iX;rw[hnx,←hN];rw[show bk (bm N.fin 0)=false from h41,show bk (cg (.ofNat row.length) 14)=false from h46,show eJ N r.g=true from by unfold eJ;rw[show bk (bm N.event.kind 4)=true from h62,hloc,h65];rfl];rfl) rfl],rfl,hst.pop.pop.pop⟩)
      ·refine vQ 1 rfl (aa rfl (Jc 6 rfl) rfl (aa rfl (Jc 0 rfl) rfl (aa rfl (Ja rfl (hst.get 2 rfl) rfl) rfl (aa rfl (I1 hg.init rfl rfl rfl (e:=2) rfl) rfl (vQ 3 rfl (nT (aE rfl (fun h73=>?_) (fun h73=>?_))))))))
       ·refine aj (ai rfl (aa rfl (IY (places:=[(0,6),(6,4)]) (zero:=[.int .i64 0,.int .i64 0,.int .i64 0,.int .i64 0,.int .i64 0,.int .i64 0,.aq,.aq,.aq,.aq]) (cs:=[_,_,_,_,_,_,_,_,_,_]) rfl) rfl (ep hst rfl (I8 rfl rfl rfl (hst.get 1 rfl) (m:=10) rfl rfl (cells':=[_,_,_,_,_,_,_,_,_,_]) rfl) rfl (fun σ hst=>?_))));refine vQ 1 rfl (nT (aB (au (?_))));exact br rfl rfl (hst.get 1 rfl) (m:=10) (by kernel_rfl) rfl rfl (.inl ⟨2,rfl,by rw[iw hxc hrow (e:=2) (by unfold iX;rw[hnx,←hN];rw[show bk (bm N.fin 0)=false from h41,show bk (cg (.ofNat row.length) 14)=false from h46,show eJ N r.g=true from by unfold eJ;rw[show bk (bm N.event.kind 4)=true from h62,hloc,h65];exact h73];rfl) rfl],rfl,hst.pop.pop.pop⟩)
       ·refine aF (ad (aj (ai rfl ?_)));have hbad:eJ N r.g=false:=by unfold eJ;rw[show bk (bm N.event.kind 4)=true from h62,hloc,h65];exact h73
        have h62x:bm N.event.kind 4=false:=bQ h62;have herr:iX k xc row r.g=0:=by unfold iX;rw[hnx,←hN,show bk (bm N.fin 0)=false from h41,show bk (cg (.ofNat row.length) 14)=false from h46,hbad];rfl
        refine aa rfl (Jc 0 rfl) rfl (aa rfl (IT rfl (hst.get 0 rfl) (n:=5) (vs:=[_,_,_,_,_]) rfl) rfl (aa rfl (IY (places:=[(0,1),(1,1)]) (zero:=[.int .i64 0,.int .i64 0]) (cs:=[_,_]) rfl) rfl (bu hst rfl (IV (cs:=[.int .i64 0,.int .i64 0,.int .i64 0,.int .i64 0,.int .i64 0])) (fun _=>rfl) (fun σ b4 hst=>?_))));refine bu hst rfl (IV (cs:=[.int .i64 0,.int .i64 0])) (fun _=>rfl) (fun σ b5 hst=>?_);refine ep hst rfl (I8 rfl rfl rfl (hst.get 1 rfl) (m:=5) rfl rfl (cells':=[_,_,_,_,_]) rfl) rfl (fun σ hst=>?_);refine bA hst rfl (I8 rfl rfl rfl (hst.get 0 rfl) (m:=2) rfl rfl (cells':=[_,_]) rfl) rfl (fun σ hst=>?_);refine vQ 1 rfl (nT (aj (aj (ai rfl (aa rfl (Jc 0 rfl) rfl (aa rfl (Jc 0 rfl) rfl (aa rfl (Ja rfl (hst.get 2 rfl) rfl) rfl (vQ 1 rfl (nT (aE rfl (fun h81=>?_) (fun h81=>?_)))))))))))
        ·refine aj (ai rfl (aa rfl (Jc 6 rfl) rfl (aa rfl (IT rfl (hst.get 4 rfl) (n:=4) (vs:=[_,_,_,_]) rfl) rfl (vQ 1 rfl ?_))));obtain⟨ln,hln,hlt⟩:=lL (n:=N) (g:=r.g) hbad h62x;refine cI rfl (aM rfl rfl (show _=some [AV.agg [a,b,c,d],AV.int .i64 (.ofNat ln)] from by rw[←hln,←hloc];rfl) (by kernel_rfl)) (fun _=>rfl) (pJ hG hg (fun l hl=>by have:=hord l hl;omega) (.ofNat ln) hst) ?_;rintro u85 σ ⟨M85,hM85,hst⟩;obtain⟨K1,hle1,hmem,hst⟩:=hst.fF;have hw:=hM85.kJ (K:=K1) fun y hy=>hmem _ hy;clear hmem;replace hg:=hg.mono hle1
         refine vQ 1 rfl (nT (aj (aj (ai rfl (aa rfl (Jc 5 rfl) rfl (aa rfl (Jc 0 rfl) rfl (aa rfl (Ja rfl (hst.get 2 rfl) rfl) rfl (vQ 1 rfl (nT (aE rfl (fun h89=>?_) (fun h89=>?_)))))))))))
         ·refine aj (aQ (l:=[(0,[]),(1,[]),(2,[]),(3,[]),(4,[]),(5,[]),(6,[]),(7,[]),(8,[]),(9,[]),(10,[])]) (by kernel_rfl) (by kernel_rfl) (an rfl rfl (Jc 5 rfl) rfl (an rfl rfl (IT rfl (hst.get 2 rfl) (n:=5) (vs:=[_,_,_,_,_]) rfl) rfl (wQ 1 rfl (an rfl rfl (Jc 0 rfl) rfl ?_)))));obtain⟨y96,hy96,hy96n⟩:=hm.at_ (a:=a) (b:=b) (c:=c) (d:=d) (show ln<r.mem.length from by rw[hml];exact hlt);refine an rfl rfl (qd (n:=6) (e:=2) (m:=1) (by kernel_rfl) (by kernel_rfl) rfl (show _=some (AV.int .i64 (.ofNat ln)) from by rw[←hln,←hloc];rfl) (by omega)) rfl (an rfl rfl (ax rfl (hst.get 4 rfl) (by kernel_rfl) hy96n) rfl (dw rfl rfl (I5 rfl rfl rfl) (fun _=>rfl) (xm hG N.ask y96 hst) (fun σ hst=>?_)));refine⟨ba,?_⟩;refine wQ 3 rfl (Aj hst rfl rfl (I8 rfl rfl rfl (hst.get 1 rfl) (m:=5) rfl rfl (cells':=[_,_,_,_,_]) rfl) rfl (fun σ hst=>?_));refine⟨ba,?_⟩;refine bh (ad (ai rfl (vQ 2 rfl (aa rfl (I1 hw rfl rfl rfl (e:=67) rfl) rfl (vQ 1 rfl ?_)))));have hwp:0<(bN r.g (.ofNat ln)).length:=by obtain⟨q,hq⟩:=hX hck hlt;rw[dT (by rw[hck];rfl) hq];exact Nat.succ_pos _
          obtain⟨x104,hx104⟩:=cQ (show(bN r.g (.ofNat ln)).length-1<(bN r.g (.ofNat ln)).length from by omega);refine Jb (e:=67) (m:=2) hw hx104 rfl rfl rfl (congrArg (fun z=>some (AV.int .i64 z)) (kH (b:=1) (by omega) hw.bH)) (fun _=>rfl) (fun p104 vs104 hp104 hl104 hr104=>?_);obtain rfl:=hr104;refine aa rfl (bZ hst hp104 rfl (by kernel_rfl) rfl) rfl (bA hst rfl (I8 rfl rfl rfl (hst.get 0 rfl) (m:=2) rfl rfl (cells':=[_,_]) rfl) rfl (fun σ hst=>?_));refine nS rfl (aa rfl (Jc 0 rfl) rfl (aa rfl (Ja rfl (hst.get 1 rfl) rfl) rfl (vQ 1 rfl (nT (aE rfl (fun h108=>?_) (fun h108=>?_))))))
          ·refine aj (ai rfl (vQ 1 rfl (aa rfl (I1 hw rfl rfl rfl (e:=67) rfl) rfl (vQ 1 rfl (nT (ai rfl (vQ 1 rfl (aa rfl (Jc 4 rfl) rfl (aa rfl (Ja rfl (hst.get 1 rfl) rfl) rfl (aa rfl (Jc 0 rfl) rfl (aa rfl (qd (n:=6) (e:=2) (m:=1) (by kernel_rfl) (by kernel_rfl) rfl (show _=some (AV.int .i64 (.ofNat ln)) from by rw[←hln,←hloc];rfl) (by omega)) rfl ?_)))))))))));obtain⟨z0,z1,z2,z3,z4,z5,hsp,hm2⟩:=hm.set (a:=a) (b:=b) (c:=c) (d:=d) (show ln<r.mem.length from by rw[hml];exact hlt) (bX N.ask y96).write;refine dP hst (.there (.there (.there (.there .here)))) rfl (aH rfl rfl rfl (hst.get 4 rfl) (m:=1) (by kernel_rfl) rfl (by show 0+ln*1+1≤10;omega) rfl (cells':=c6 z0 z1 z2 z3 z4 z5 a b c d) hsp) rfl (fun σ hst=>?_);refine nS rfl (aa rfl (Jc 6 rfl) rfl (aa rfl (IT rfl (hst.get 4 rfl) (n:=4) (vs:=[_,_,_,_]) rfl) rfl (vQ 1 rfl (aa rfl (IT rfl (hst.get 1 rfl) (n:=5) (vs:=[_,_,_,_,_]) rfl) rfl (aa rfl (IT rfl (hst.get 0 rfl) (n:=2) (vs:=[_,_]) rfl) rfl (vQ 1 rfl ?_))))));have hgl1:=hgl0;have hplan:dD (cw k xc row).1 r.mem r.g=⟨bX N.ask y96,x104,.ofNat (bN r.g (.ofNat ln)).length,r.mem.set ln (bX N.ask y96).write⟩:=by rw[←hN];unfold dD;rw[hln];dsimp only;rw[bQ h81,show bk (bm N.ask.kind 0)=true from h89];simp only[cond_true,cond_false];rw[show(Int.ofNat ln).toNat=ln from rfl,hy96,List.getLast?_eq_getElem?,hx104];simp only[Option.getD_some];rw[show bk (bm (bX N.ask y96).kind 1)=true from h108];rfl
           have hdo:=lj hxc hrow herr hplan;refine cI rfl (I5 rfl rfl rfl) (fun _=>rfl) (uQ hG hfk hov hg _ _ (bX N.ask y96) x104 hst) ?_;rintro _ σ (⟨er,hadd,rfl,hst⟩ | ⟨g2,a2,b2,c2,d2,M2,hadd,rfl,hA,hst⟩)
           ·have hS:eC k l r t=(none,er):=by rw[hdo];unfold xh;rw[show eX r.g (.ofNat (t+1)) (bX N.ask y96) x104 (.ofNat (bN r.g (.ofNat ln)).length)=(none,er) from hadd]
            have her:=lE hadd;refine vQ 3 rfl (aa rfl (Jc 6 rfl) rfl (dP hst (.there (.there (.there (.there .here)))) rfl (I8 rfl rfl rfl (hst.get 4 rfl) (m:=4) rfl rfl (cells':=[_,_,_,_,_,_,_,_,_,_]) rfl) rfl (fun σ hst=>?_)));refine vQ 1 rfl (nT (aj (aj (ai rfl (vQ 2 rfl (nT (aE rfl (fun h128=>?_) (fun h128=>?_))))))))
            ·refine aj (ai rfl (aa rfl (IY (places:=[(0,6),(6,4)]) (zero:=[.int .i64 0,.int .i64 0,.int .i64 0,.int .i64 0,.int .i64 0,.int .i64 0,.aq,.aq,.aq,.aq]) (cs:=[_,_,_,_,_,_,_,_,_,_]) rfl) rfl (vQ 1 rfl (ik hst rfl (I8 rfl rfl rfl (hst.get 3 rfl) (m:=10) rfl rfl (cells':=[_,_,_,_,_,_,_,_,_,_]) rfl) rfl (fun σ hst=>?_)))));refine vQ 1 rfl (nT (aB (au (?_))));exact br rfl rfl (hst.get 3 rfl) (m:=10) (by kernel_rfl) rfl rfl (.inl ⟨er,rfl,by rw[hS],her,(hst.pop.pop.pop.pop.pop).weaken hle1⟩)
            ·exact absurd h128 (by rw[her];decide)
           ·have hS:eC k l r t=(some ⟨r.mem.set ln (bX N.ask y96).write,g2⟩,0):=by rw[hdo];unfold xh;rw[show eX r.g (.ofNat (t+1)) (bX N.ask y96) x104 (.ofNat (bN r.g (.ofNat ln)).length)=(some g2,0) from hadd]
            replace hst:=hst.keeps;refine vQ 3 rfl (aa rfl (Jc 6 rfl) rfl (dP hst (.there (.there (.there (.there .here)))) rfl (I8 rfl rfl rfl (hst.get 4 rfl) (m:=4) rfl (ae hA.init.leaf.2 (ae hA.threads.leaf.2 (ae hA.from_.leaf.2 (ae hA.order.leaf.2 az)))) (cells':=[_,_,_,_,_,_,_,_,_,_]) rfl) rfl (fun σ hst=>?_)));refine vQ 1 rfl (nT (aj (aj (ai rfl (vQ 2 rfl (nT (aE rfl (fun h128=>?_) (fun h128=>?_))))))))
            ·exact absurd h128 (by decide)
            ·refine aF (ad (aj (ai rfl (aa rfl (IT rfl (hst.get 4 rfl) (n:=10) (vs:=[_,_,_,_,_,_,_,_,_,_]) rfl) rfl (ik hst rfl (I8 rfl rfl rfl (hst.get 3 rfl) (m:=10) rfl (ae rfl (ae rfl (ae rfl (ae rfl (ae rfl (ae rfl (ae hA.init.leaf.2 (ae hA.threads.leaf.2 (ae hA.from_.leaf.2 (ae hA.order.leaf.2 az)))))))))) (cells':=[_,_,_,_,_,_,_,_,_,_]) rfl) rfl (fun σ hst=>?_))))));refine vQ 1 rfl (nT (aB ?_));exact br rfl rfl (hst.get 3 rfl) (m:=10) (by kernel_rfl) rfl rfl (.inr ⟨_,_,_,_,_,_,_,_,_,_,_,_,KP.le_trans hle1 (KP.cV _ _),hS,rfl,hA,hm2,hst.pop.pop.pop.pop.pop⟩)
          ·refine aF (ad (aj (ai rfl (aa rfl (Jc 6 rfl) rfl (aa rfl (IT rfl (hst.get 4 rfl) (n:=4) (vs:=[_,_,_,_]) rfl) rfl (vQ 1 rfl (aa rfl (IT rfl (hst.get 1 rfl) (n:=5) (vs:=[_,_,_,_,_]) rfl) rfl (aa rfl (IT rfl (hst.get 0 rfl) (n:=2) (vs:=[_,_]) rfl) rfl (vQ 1 rfl ?_)))))))));have hgl1:=hgl0;have hplan:dD (cw k xc row).1 r.mem r.g=⟨bX N.ask y96,x104,0,r.mem⟩:=by rw[←hN];unfold dD;rw[hln];dsimp only;rw[bQ h81,show bk (bm N.ask.kind 0)=true from h89];simp only[cond_true,cond_false];rw[show(Int.ofNat ln).toNat=ln from rfl,hy96,List.getLast?_eq_getElem?,hx104];simp only[Option.getD_some];rw[show bk (bm (bX N.ask y96).kind 1)=false from h108];rfl
           have hdo:=lj hxc hrow herr hplan;refine cI rfl (I5 rfl rfl rfl) (fun _=>rfl) (uQ hG hfk hov hg _ _ (bX N.ask y96) x104 hst) ?_;rintro _ σ (⟨er,hadd,rfl,hst⟩ | ⟨g2,a2,b2,c2,d2,M2,hadd,rfl,hA,hst⟩)
           ·have hS:eC k l r t=(none,er):=by rw[hdo];unfold xh;rw[show eX r.g (.ofNat (t+1)) (bX N.ask y96) x104 (0)=(none,er) from hadd]
            have her:=lE hadd;refine vQ 3 rfl (aa rfl (Jc 6 rfl) rfl (dP hst (.there (.there (.there (.there .here)))) rfl (I8 rfl rfl rfl (hst.get 4 rfl) (m:=4) rfl rfl (cells':=[_,_,_,_,_,_,_,_,_,_]) rfl) rfl (fun σ hst=>?_)));refine vQ 1 rfl (nT (aj (aj (ai rfl (vQ 2 rfl (nT (aE rfl (fun h128=>?_) (fun h128=>?_))))))))
            ·refine aj (ai rfl (aa rfl (IY (places:=[(0,6),(6,4)]) (zero:=[.int .i64 0,.int .i64 0,.int .i64 0,.int .i64 0,.int .i64 0,.int .i64 0,.aq,.aq,.aq,.aq]) (cs:=[_,_,_,_,_,_,_,_,_,_]) rfl) rfl (vQ 1 rfl (ik hst rfl (I8 rfl rfl rfl (hst.get 3 rfl) (m:=10) rfl rfl (cells':=[_,_,_,_,_,_,_,_,_,_]) rfl) rfl (fun σ hst=>?_)))));refine vQ 1 rfl (nT (aB (au (?_))));exact br rfl rfl (hst.get 3 rfl) (m:=10) (by kernel_rfl) rfl rfl (.inl ⟨er,rfl,by rw[hS],her,(hst.pop.pop.pop.pop.pop).weaken hle1⟩)
            ·exact absurd h128 (by rw[her];decide)
           ·have hS:eC k l r t=(some ⟨r.mem,g2⟩,0):=by rw[hdo];unfold xh;rw[show eX r.g (.ofNat (t+1)) (bX N.ask y96) x104 (0)=(some g2,0) from hadd]
            replace hst:=hst.keeps;refine vQ 3 rfl (aa rfl (Jc 6 rfl) rfl (dP hst (.there (.there (.there (.there .here)))) rfl (I8 rfl rfl rfl (hst.get 4 rfl) (m:=4) rfl (ae hA.init.leaf.2 (ae hA.threads.leaf.2 (ae hA.from_.leaf.2 (ae hA.order.leaf.2 az)))) (cells':=[_,_,_,_,_,_,_,_,_,_]) rfl) rfl (fun σ hst=>?_)));refine vQ 1 rfl (nT (aj (aj (ai rfl (vQ 2 rfl (nT (aE rfl (fun h128=>?_) (fun h128=>?_))))))))
            ·exact absurd h128 (by decide)
            ·refine aF (ad (aj (ai rfl (aa rfl (IT rfl (hst.get 4 rfl) (n:=10) (vs:=[_,_,_,_,_,_,_,_,_,_]) rfl) rfl (ik hst rfl (I8 rfl rfl rfl (hst.get 3 rfl) (m:=10) rfl (ae rfl (ae rfl (ae rfl (ae rfl (ae rfl (ae rfl (ae hA.init.leaf.2 (ae hA.threads.leaf.2 (ae hA.from_.leaf.2 (ae hA.order.leaf.2 az)))))))))) (cells':=[_,_,_,_,_,_,_,_,_,_]) rfl) rfl (fun σ hst=>?_))))));refine vQ 1 rfl (nT (aB ?_));exact br rfl rfl (hst.get 3 rfl) (m:=10) (by kernel_rfl) rfl rfl (.inr ⟨_,_,_,_,_,_,_,_,_,_,_,_,KP.le_trans hle1 (KP.cV _ _),hS,rfl,hA,hm,hst.pop.pop.pop.pop.pop⟩)
         ·exact absurd (h89.symm.trans h54) (by decide)
        ·exact absurd (h81.symm.trans h62) (by decide)
     ·refine vQ 11 rfl (nT (aJ rfl (aF (ad (aj (ai rfl ?_))))));have hbad:eJ N r.g=false:=by unfold eJ;rw[show bk (bm N.event.kind 4)=false from h62];rfl
      have herr:iX k xc row r.g=0:=by unfold iX;rw[hnx,←hN,show bk (bm N.fin 0)=false from h41,show bk (cg (.ofNat row.length) 14)=false from h46,hbad];rfl
      refine aa rfl (Jc 0 rfl) rfl (aa rfl (IT rfl (hst.get 0 rfl) (n:=5) (vs:=[_,_,_,_,_]) rfl) rfl (aa rfl (IY (places:=[(0,1),(1,1)]) (zero:=[.int .i64 0,.int .i64 0]) (cs:=[_,_]) rfl) rfl (bu hst rfl (IV (cs:=[.int .i64 0,.int .i64 0,.int .i64 0,.int .i64 0,.int .i64 0])) (fun _=>rfl) (fun σ b4 hst=>?_))));refine bu hst rfl (IV (cs:=[.int .i64 0,.int .i64 0])) (fun _=>rfl) (fun σ b5 hst=>?_);refine ep hst rfl (I8 rfl rfl rfl (hst.get 1 rfl) (m:=5) rfl rfl (cells':=[_,_,_,_,_]) rfl) rfl (fun σ hst=>?_);refine bA hst rfl (I8 rfl rfl rfl (hst.get 0 rfl) (m:=2) rfl rfl (cells':=[_,_]) rfl) rfl (fun σ hst=>?_);refine vQ 1 rfl (nT (aj (aj (ai rfl (aa rfl (Jc 0 rfl) rfl (aa rfl (Jc 0 rfl) rfl (aa rfl (Ja rfl (hst.get 2 rfl) rfl) rfl (vQ 1 rfl (nT (aE rfl (fun h81=>?_) (fun h81=>?_)))))))))))
      ·exact absurd (h81.symm.trans h62) (by decide)
      ·refine aF (ad (aj (ai rfl (aa rfl (Jc 6 rfl) rfl (aa rfl (IT rfl (hst.get 4 rfl) (n:=4) (vs:=[_,_,_,_]) rfl) rfl (vQ 1 rfl (aa rfl (IT rfl (hst.get 1 rfl) (n:=5) (vs:=[_,_,_,_,_]) rfl) rfl (aa rfl (IT rfl (hst.get 0 rfl) (n:=2) (vs:=[_,_]) rfl) rfl (vQ 1 rfl ?_)))))))));have hgl1:=hgl0;have hplan:dD (cw k xc row).1 r.mem r.g=⟨N.event,⟨0,0⟩,0,r.mem⟩:=by rw[←hN];exact gm (aY h81)
       have hdo:=lj hxc hrow herr hplan;refine cI rfl (I5 rfl rfl rfl) (fun _=>rfl) (uQ hG hfk hov hg _ _ (N.event) ⟨0,0⟩ hst) ?_;rintro _ σ (⟨er,hadd,rfl,hst⟩ | ⟨g2,a2,b2,c2,d2,M2,hadd,rfl,hA,hst⟩)
       ·have hS:eC k l r t=(none,er):=by rw[hdo];unfold xh;rw[show eX r.g (.ofNat (t+1)) (N.event) ⟨0,0⟩ (0)=(none,er) from hadd]
        have her:=lE hadd;refine vQ 3 rfl (aa rfl (Jc 6 rfl) rfl (dP hst (.there (.there (.there (.there .here)))) rfl (I8 rfl rfl rfl (hst.get 4 rfl) (m:=4) rfl rfl (cells':=[_,_,_,_,_,_,_,_,_,_]) rfl) rfl (fun σ hst=>?_)));refine vQ 1 rfl (nT (aj (aj (ai rfl (vQ 2 rfl (nT (aE rfl (fun h128=>?_) (fun h128=>?_))))))))
        ·refine aj (ai rfl (aa rfl (IY (places:=[(0,6),(6,4)]) (zero:=[.int .i64 0,.int .i64 0,.int .i64 0,.int .i64 0,.int .i64 0,.int .i64 0,.aq,.aq,.aq,.aq]) (cs:=[_,_,_,_,_,_,_,_,_,_]) rfl) rfl (vQ 1 rfl (ik hst rfl (I8 rfl rfl rfl (hst.get 3 rfl) (m:=10) rfl rfl (cells':=[_,_,_,_,_,_,_,_,_,_]) rfl) rfl (fun σ hst=>?_)))));refine vQ 1 rfl (nT (aB (au (?_))));exact br rfl rfl (hst.get 3 rfl) (m:=10) (by kernel_rfl) rfl rfl (.inl ⟨er,rfl,by rw[hS],her,(hst.pop.pop.pop.pop.pop).weaken hle1⟩)
        ·exact absurd h128 (by rw[her];decide)
       ·have hS:eC k l r t=(some ⟨r.mem,g2⟩,0):=by rw[hdo];unfold xh;rw[show eX r.g (.ofNat (t+1)) (N.event) ⟨0,0⟩ (0)=(some g2,0) from hadd]
        replace hst:=hst.keeps;refine vQ 3 rfl (aa rfl (Jc 6 rfl) rfl (dP hst (.there (.there (.there (.there .here)))) rfl (I8 rfl rfl rfl (hst.get 4 rfl) (m:=4) rfl (ae hA.init.leaf.2 (ae hA.threads.leaf.2 (ae hA.from_.leaf.2 (ae hA.order.leaf.2 az)))) (cells':=[_,_,_,_,_,_,_,_,_,_]) rfl) rfl (fun σ hst=>?_)));refine vQ 1 rfl (nT (aj (aj (ai rfl (vQ 2 rfl (nT (aE rfl (fun h128=>?_) (fun h128=>?_))))))))
        ·exact absurd h128 (by decide)
        ·refine aF (ad (aj (ai rfl (aa rfl (IT rfl (hst.get 4 rfl) (n:=10) (vs:=[_,_,_,_,_,_,_,_,_,_]) rfl) rfl (ik hst rfl (I8 rfl rfl rfl (hst.get 3 rfl) (m:=10) rfl (ae rfl (ae rfl (ae rfl (ae rfl (ae rfl (ae rfl (ae hA.init.leaf.2 (ae hA.threads.leaf.2 (ae hA.from_.leaf.2 (ae hA.order.leaf.2 az)))))))))) (cells':=[_,_,_,_,_,_,_,_,_,_]) rfl) rfl (fun σ hst=>?_))))));refine vQ 1 rfl (nT (aB ?_));exact br rfl rfl (hst.get 3 rfl) (m:=10) (by kernel_rfl) rfl rfl (.inr ⟨_,_,_,_,_,_,_,_,_,_,_,_,KP.le_trans hle1 (KP.cV _ _),hS,rfl,hA,hm,hst.pop.pop.pop.pop.pop⟩)
    ·have hloc:gz N=N.event.loc:=by unfold gz;rw[show bk (bm N.ask.kind 0)=false from h54];rfl
     refine aF (ad (aj (aj (ai rfl (aa rfl (Jc 0 rfl) rfl (aa rfl (Jc 0 rfl) rfl (aa rfl (Ja rfl (hst.get 0 rfl) rfl) rfl (vQ 1 rfl (aL rfl (al rfl) (fun _=>rfl) (fun h62=>?_) (fun h62=>?_))))))))))
     ·refine vQ 2 rfl (aL rfl (al rfl) (fun _=>rfl) (fun h65=>?_) (fun h65=>?_))
      ·refine vQ 8 rfl (nT (aC rfl (aj (ai rfl (aa rfl (IY (places:=[(0,6),(6,4)]) (zero:=[.int .i64 0,.int .i64 0,.int .i64 0,.int .i64 0,.int .i64 0,.int .i64 0,.aq,.aq,.aq,.aq]) (cs:=[_,_,_,_,_,_,_,_,_,_]) rfl) rfl (ep hst rfl (I8 rfl rfl rfl (hst.get 1 rfl) (m:=10) rfl rfl (cells':=[_,_,_,_,_,_,_,_,_,_]) rfl) rfl (fun σ hst=>?_)))))));refine vQ 1 rfl (nT (aB (au (?_))));exact br rfl rfl (hst.get 1 rfl) (m:=10) (by kernel_rfl) rfl rfl (.inl ⟨2,rfl,by rw[iw hxc hrow (e:=2) (by unfold iX;rw[hnx,←hN];rw[show bk (bm N.fin 0)=false from h41,show bk (cg (.ofNat row.length) 14)=false from h46,show eJ N r.g=true from by unfold eJ;rw[show bk (bm N.event.kind 4)=true from h62,hloc,h65];rfl];rfl) rfl],rfl,hst.pop.pop.pop⟩)
      ·refine vQ 1 rfl (aa rfl (Jc 6 rfl) rfl (aa rfl (Jc 0 rfl) rfl (aa rfl (Ja rfl (hst.get 2 rfl) rfl) rfl (aa rfl (I1 hg.init rfl rfl rfl (e:=2) rfl) rfl (vQ 3 rfl (nT (aE rfl (fun h73=>?_) (fun h73=>?_))))))))
       ·refine aj (ai rfl (aa rfl (IY (places:=[(0,6),(6,4)]) (zero:=[.int .i64 0,.int .i64 0,.int .i64 0,.int .i64 0,.int .i64 0,.int .i64 0,.aq,.aq,.aq,.aq]) (cs:=[_,_,_,_,_,_,_,_,_,_]) rfl) rfl (ep hst rfl (I8 rfl rfl rfl (hst.get 1 rfl) (m:=10) rfl rfl (cells':=[_,_,_,_,_,_,_,_,_,_]) rfl) rfl (fun σ hst=>?_))));refine vQ 1 rfl (nT (aB (au (?_))));exact br rfl rfl (hst.get 1 rfl) (m:=10) (by kernel_rfl) rfl rfl (.inl ⟨2,rfl,by rw[iw hxc hrow (e:=2) (by unfold iX;rw[hnx,←hN];rw[show bk (bm N.fin 0)=false from h41,show bk (cg (.ofNat row.length) 14)=false from h46,show eJ N r.g=true from by unfold eJ;rw[show bk (bm N.event.kind 4)=true from h62,hloc,h65];exact h73];rfl) rfl],rfl,hst.pop.pop.pop⟩)
       ·refine aF (ad (aj (ai rfl ?_)));have hbad:eJ N r.g=false:=by unfold eJ;rw[show bk (bm N.event.kind 4)=true from h62,hloc,h65];exact h73
        have h62x:bm N.event.kind 4=false:=bQ h62;have herr:iX k xc row r.g=0:=by unfold iX;rw[hnx,←hN,show bk (bm N.fin 0)=false from h41,show bk (cg (.ofNat row.length) 14)=false from h46,hbad];rfl
        refine aa rfl (Jc 0 rfl) rfl (aa rfl (IT rfl (hst.get 0 rfl) (n:=5) (vs:=[_,_,_,_,_]) rfl) rfl (aa rfl (IY (places:=[(0,1),(1,1)]) (zero:=[.int .i64 0,.int .i64 0]) (cs:=[_,_]) rfl) rfl (bu hst rfl (IV (cs:=[.int .i64 0,.int .i64 0,.int .i64 0,.int .i64 0,.int .i64 0])) (fun _=>rfl) (fun σ b4 hst=>?_))));refine bu hst rfl (IV (cs:=[.int .i64 0,.int .i64 0])) (fun _=>rfl) (fun σ b5 hst=>?_);refine ep hst rfl (I8 rfl rfl rfl (hst.get 1 rfl) (m:=5) rfl rfl (cells':=[_,_,_,_,_]) rfl) rfl (fun σ hst=>?_);refine bA hst rfl (I8 rfl rfl rfl (hst.get 0 rfl) (m:=2) rfl rfl (cells':=[_,_]) rfl) rfl (fun σ hst=>?_);refine vQ 1 rfl (nT (aj (aj (ai rfl (aa rfl (Jc 0 rfl) rfl (aa rfl (Jc 0 rfl) rfl (aa rfl (Ja rfl (hst.get 2 rfl) rfl) rfl (vQ 1 rfl (nT (aE rfl (fun h81=>?_) (fun h81=>?_)))))))))))
        ·refine aj (ai rfl (aa rfl (Jc 6 rfl) rfl (aa rfl (IT rfl (hst.get 4 rfl) (n:=4) (vs:=[_,_,_,_]) rfl) rfl (vQ 1 rfl ?_))));obtain⟨ln,hln,hlt⟩:=lL (n:=N) (g:=r.g) hbad h62x;refine cI rfl (aM rfl rfl (show _=some [AV.agg [a,b,c,d],AV.int .i64 (.ofNat ln)] from by rw[←hln,←hloc];rfl) (by kernel_rfl)) (fun _=>rfl) (pJ hG hg (fun l hl=>by have:=hord l hl;omega) (.ofNat ln) hst) ?_;rintro u85 σ ⟨M85,hM85,hst⟩;obtain⟨K1,hle1,hmem,hst⟩:=hst.fF;have hw:=hM85.kJ (K:=K1) fun y hy=>hmem _ hy;clear hmem;replace hg:=hg.mono hle1
         refine vQ 1 rfl (nT (aj (aj (ai rfl (aa rfl (Jc 5 rfl) rfl (aa rfl (Jc 0 rfl) rfl (aa rfl (Ja rfl (hst.get 2 rfl) rfl) rfl (vQ 1 rfl (nT (aE rfl (fun h89=>?_) (fun h89=>?_)))))))))))
         ·exact absurd (h89.symm.trans h54) (by decide)
         ·refine aF (ad (aj (ai rfl (aa rfl (Jc 0 rfl) rfl (aa rfl (Ja rfl (hst.get 1 rfl) rfl) rfl (vQ 1 rfl (nT (aE rfl (fun h108=>?_) (fun h108=>?_)))))))))
          ·refine aj (ai rfl (vQ 1 rfl (aa rfl (I1 hw rfl rfl rfl (e:=67) rfl) rfl (vQ 1 rfl (nT (ai rfl (vQ 1 rfl (aa rfl (Jc 4 rfl) rfl (aa rfl (Ja rfl (hst.get 1 rfl) rfl) rfl (aa rfl (Jc 0 rfl) rfl (aa rfl (qd (n:=6) (e:=2) (m:=1) (by kernel_rfl) (by kernel_rfl) rfl (show _=some (AV.int .i64 (.ofNat ln)) from by rw[←hln,←hloc];rfl) (by omega)) rfl ?_)))))))))));obtain⟨z0,z1,z2,z3,z4,z5,hsp,hm2⟩:=hm.set (a:=a) (b:=b) (c:=c) (d:=d) (show ln<r.mem.length from by rw[hml];exact hlt) (N.event).write;refine dP hst (.there (.there (.there (.there .here)))) rfl (aH rfl rfl rfl (hst.get 4 rfl) (m:=1) (by kernel_rfl) rfl (by show 0+ln*1+1≤10;omega) rfl (cells':=c6 z0 z1 z2 z3 z4 z5 a b c d) hsp) rfl (fun σ hst=>?_);refine nS rfl (aa rfl (Jc 6 rfl) rfl (aa rfl (IT rfl (hst.get 4 rfl) (n:=4) (vs:=[_,_,_,_]) rfl) rfl (vQ 1 rfl (aa rfl (IT rfl (hst.get 1 rfl) (n:=5) (vs:=[_,_,_,_,_]) rfl) rfl (aa rfl (IT rfl (hst.get 0 rfl) (n:=2) (vs:=[_,_]) rfl) rfl (vQ 1 rfl ?_))))));have hgl1:=hgl0;have hplan:dD (cw k xc row).1 r.mem r.g=⟨N.event,⟨0,0⟩,.ofNat (bN r.g (.ofNat ln)).length,r.mem.set ln (N.event).write⟩:=by rw[←hN];unfold dD;rw[hln];dsimp only;rw[bQ h81,show bk (bm N.ask.kind 0)=false from h89];simp only[cond_true,cond_false];rw[show bk (bm (N.event).kind 1)=true from h108];rfl
           have hdo:=lj hxc hrow herr hplan;refine cI rfl (I5 rfl rfl rfl) (fun _=>rfl) (uQ hG hfk hov hg _ _ (N.event) ⟨0,0⟩ hst) ?_;rintro _ σ (⟨er,hadd,rfl,hst⟩ | ⟨g2,a2,b2,c2,d2,M2,hadd,rfl,hA,hst⟩)
           ·have hS:eC k l r t=(none,er):=by rw[hdo];unfold xh;rw[show eX r.g (.ofNat (t+1)) (N.event) ⟨0,0⟩ (.ofNat (bN r.g (.ofNat ln)).length)=(none,er) from hadd]
            have her:=lE hadd;refine vQ 3 rfl (aa rfl (Jc 6 rfl) rfl (dP hst (.there (.there (.there (.there .here)))) rfl (I8 rfl rfl rfl (hst.get 4 rfl) (m:=4) rfl rfl (cells':=[_,_,_,_,_,_,_,_,_,_]) rfl) rfl (fun σ hst=>?_)));refine vQ 1 rfl (nT (aj (aj (ai rfl (vQ 2 rfl (nT (aE rfl (fun h128=>?_) (fun h128=>?_))))))))
            ·refine aj (ai rfl (aa rfl (IY (places:=[(0,6),(6,4)]) (zero:=[.int .i64 0,.int .i64 0,.int .i64 0,.int .i64 0,.int .i64 0,.int .i64 0,.aq,.aq,.aq,.aq]) (cs:=[_,_,_,_,_,_,_,_,_,_]) rfl) rfl (vQ 1 rfl (ik hst rfl (I8 rfl rfl rfl (hst.get 3 rfl) (m:=10) rfl rfl (cells':=[_,_,_,_,_,_,_,_,_,_]) rfl) rfl (fun σ hst=>?_)))));refine vQ 1 rfl (nT (aB (au (?_))));exact br rfl rfl (hst.get 3 rfl) (m:=10) (by kernel_rfl) rfl rfl (.inl ⟨er,rfl,by rw[hS],her,(hst.pop.pop.pop.pop.pop).weaken hle1⟩)
            ·exact absurd h128 (by rw[her];decide)
           ·have hS:eC k l r t=(some ⟨r.mem.set ln (N.event).write,g2⟩,0):=by rw[hdo];unfold xh;rw[show eX r.g (.ofNat (t+1)) (N.event) ⟨0,0⟩ (.ofNat (bN r.g (.ofNat ln)).length)=(some g2,0) from hadd]
            replace hst:=hst.keeps;refine vQ 3 rfl (aa rfl (Jc 6 rfl) rfl (dP hst (.there (.there (.there (.there .here)))) rfl (I8 rfl rfl rfl (hst.get 4 rfl) (m:=4) rfl (ae hA.init.leaf.2 (ae hA.threads.leaf.2 (ae hA.from_.leaf.2 (ae hA.order.leaf.2 az)))) (cells':=[_,_,_,_,_,_,_,_,_,_]) rfl) rfl (fun σ hst=>?_)));refine vQ 1 rfl (nT (aj (aj (ai rfl (vQ 2 rfl (nT (aE rfl (fun h128=>?_) (fun h128=>?_))))))))
            ·exact absurd h128 (by decide)
            ·refine aF (ad (aj (ai rfl (aa rfl (IT rfl (hst.get 4 rfl) (n:=10) (vs:=[_,_,_,_,_,_,_,_,_,_]) rfl) rfl (ik hst rfl (I8 rfl rfl rfl (hst.get 3 rfl) (m:=10) rfl (ae rfl (ae rfl (ae rfl (ae rfl (ae rfl (ae rfl (ae hA.init.leaf.2 (ae hA.threads.leaf.2 (ae hA.from_.leaf.2 (ae hA.order.leaf.2 az)))))))))) (cells':=[_,_,_,_,_,_,_,_,_,_]) rfl) rfl (fun σ hst=>?_))))));refine vQ 1 rfl (nT (aB ?_));exact br rfl rfl (hst.get 3 rfl) (m:=10) (by kernel_rfl) rfl rfl (.inr ⟨_,_,_,_,_,_,_,_,_,_,_,_,KP.le_trans hle1 (KP.cV _ _),hS,rfl,hA,hm2,hst.pop.pop.pop.pop.pop⟩)
          ·refine aF (ad (aj (ai rfl (aa rfl (Jc 6 rfl) rfl (aa rfl (IT rfl (hst.get 4 rfl) (n:=4) (vs:=[_,_,_,_]) rfl) rfl (vQ 1 rfl (aa rfl (IT rfl (hst.get 1 rfl) (n:=5) (vs:=[_,_,_,_,_]) rfl) rfl (aa rfl (IT rfl (hst.get 0 rfl) (n:=2) (vs:=[_,_]) rfl) rfl (vQ 1 rfl ?_)))))))));have hgl1:=hgl0;have hplan:dD (cw k xc row).1 r.mem r.g=⟨N.event,⟨0,0⟩,0,r.mem⟩:=by rw[←hN];unfold dD;rw[hln];dsimp only;rw[bQ h81,show bk (bm N.ask.kind 0)=false from h89];simp only[cond_true,cond_false];rw[show bk (bm (N.event).kind 1)=false from h108];rfl
           have hdo:=lj hxc hrow herr hplan;refine cI rfl (I5 rfl rfl rfl) (fun _=>rfl) (uQ hG hfk hov hg _ _ (N.event) ⟨0,0⟩ hst) ?_;rintro _ σ (⟨er,hadd,rfl,hst⟩ | ⟨g2,a2,b2,c2,d2,M2,hadd,rfl,hA,hst⟩)
           ·have hS:eC k l r t=(none,er):=by rw[hdo];unfold xh;rw[show eX r.g (.ofNat (t+1)) (N.event) ⟨0,0⟩ (0)=(none,er) from hadd]
            have her:=lE hadd;refine vQ 3 rfl (aa rfl (Jc 6 rfl) rfl (dP hst (.there (.there (.there (.there .here)))) rfl (I8 rfl rfl rfl (hst.get 4 rfl) (m:=4) rfl rfl (cells':=[_,_,_,_,_,_,_,_,_,_]) rfl) rfl (fun σ hst=>?_)));refine vQ 1 rfl (nT (aj (aj (ai rfl (vQ 2 rfl (nT (aE rfl (fun h128=>?_) (fun h128=>?_))))))))
            ·refine aj (ai rfl (aa rfl (IY (places:=[(0,6),(6,4)]) (zero:=[.int .i64 0,.int .i64 0,.int .i64 0,.int .i64 0,.int .i64 0,.int .i64 0,.aq,.aq,.aq,.aq]) (cs:=[_,_,_,_,_,_,_,_,_,_]) rfl) rfl (vQ 1 rfl (ik hst rfl (I8 rfl rfl rfl (hst.get 3 rfl) (m:=10) rfl rfl (cells':=[_,_,_,_,_,_,_,_,_,_]) rfl) rfl (fun σ hst=>?_)))));refine vQ 1 rfl (nT (aB (au (?_))));exact br rfl rfl (hst.get 3 rfl) (m:=10) (by kernel_rfl) rfl rfl (.inl ⟨er,rfl,by rw[hS],her,(hst.pop.pop.pop.pop.pop).weaken hle1⟩)
            ·exact absurd h128 (by rw[her];decide)
           ·have hS:eC k l r t=(some ⟨r.mem,g2⟩,0):=by rw[hdo];unfold xh;rw[show eX r.g (.ofNat (t+1)) (N.event) ⟨0,0⟩ (0)=(some g2,0) from hadd]
            replace hst:=hst.keeps;refine vQ 3 rfl (aa rfl (Jc 6 rfl) rfl (dP hst (.there (.there (.there (.there .here)))) rfl (I8 rfl rfl rfl (hst.get 4 rfl) (m:=4) rfl (ae hA.init.leaf.2 (ae hA.threads.leaf.2 (ae hA.from_.leaf.2 (ae hA.order.leaf.2 az)))) (cells':=[_,_,_,_,_,_,_,_,_,_]) rfl) rfl (fun σ hst=>?_)));refine vQ 1 rfl (nT (aj (aj (ai rfl (vQ 2 rfl (nT (aE rfl (fun h128=>?_) (fun h128=>?_))))))))
            ·exact absurd h128 (by decide)
            ·refine aF (ad (aj (ai rfl (aa rfl (IT rfl (hst.get 4 rfl) (n:=10) (vs:=[_,_,_,_,_,_,_,_,_,_]) rfl) rfl (ik hst rfl (I8 rfl rfl rfl (hst.get 3 rfl) (m:=10) rfl (ae rfl (ae rfl (ae rfl (ae rfl (ae rfl (ae rfl (ae hA.init.leaf.2 (ae hA.threads.leaf.2 (ae hA.from_.leaf.2 (ae hA.order.leaf.2 az)))))))))) (cells':=[_,_,_,_,_,_,_,_,_,_]) rfl) rfl (fun σ hst=>?_))))));refine vQ 1 rfl (nT (aB ?_));exact br rfl rfl (hst.get 3 rfl) (m:=10) (by kernel_rfl) rfl rfl (.inr ⟨_,_,_,_,_,_,_,_,_,_,_,_,KP.le_trans hle1 (KP.cV _ _),hS,rfl,hA,hm,hst.pop.pop.pop.pop.pop⟩)
        ·exact absurd (h81.symm.trans h62) (by decide)
     ·refine vQ 11 rfl (nT (aJ rfl (aF (ad (aj (ai rfl ?_))))));have hbad:eJ N r.g=false:=by unfold eJ;rw[show bk (bm N.event.kind 4)=false from h62];rfl
      have herr:iX k xc row r.g=0:=by unfold iX;rw[hnx,←hN,show bk (bm N.fin 0)=false from h41,show bk (cg (.ofNat row.length) 14)=false from h46,hbad];rfl
      refine aa rfl (Jc 0 rfl) rfl (aa rfl (IT rfl (hst.get 0 rfl) (n:=5) (vs:=[_,_,_,_,_]) rfl) rfl (aa rfl (IY (places:=[(0,1),(1,1)]) (zero:=[.int .i64 0,.int .i64 0]) (cs:=[_,_]) rfl) rfl (bu hst rfl (IV (cs:=[.int .i64 0,.int .i64 0,.int .i64 0,.int .i64 0,.int .i64 0])) (fun _=>rfl) (fun σ b4 hst=>?_))));refine bu hst rfl (IV (cs:=[.int .i64 0,.int .i64 0])) (fun _=>rfl) (fun σ b5 hst=>?_);refine ep hst rfl (I8 rfl rfl rfl (hst.get 1 rfl) (m:=5) rfl rfl (cells':=[_,_,_,_,_]) rfl) rfl (fun σ hst=>?_);refine bA hst rfl (I8 rfl rfl rfl (hst.get 0 rfl) (m:=2) rfl rfl (cells':=[_,_]) rfl) rfl (fun σ hst=>?_);refine vQ 1 rfl (nT (aj (aj (ai rfl (aa rfl (Jc 0 rfl) rfl (aa rfl (Jc 0 rfl) rfl (aa rfl (Ja rfl (hst.get 2 rfl) rfl) rfl (vQ 1 rfl (nT (aE rfl (fun h81=>?_) (fun h81=>?_)))))))))))
      ·exact absurd (h81.symm.trans h62) (by decide)
      ·refine aF (ad (aj (ai rfl (aa rfl (Jc 6 rfl) rfl (aa rfl (IT rfl (hst.get 4 rfl) (n:=4) (vs:=[_,_,_,_]) rfl) rfl (vQ 1 rfl (aa rfl (IT rfl (hst.get 1 rfl) (n:=5) (vs:=[_,_,_,_,_]) rfl) rfl (aa rfl (IT rfl (hst.get 0 rfl) (n:=2) (vs:=[_,_]) rfl) rfl (vQ 1 rfl ?_)))))))));have hgl1:=hgl0;have hplan:dD (cw k xc row).1 r.mem r.g=⟨N.event,⟨0,0⟩,0,r.mem⟩:=by rw[←hN];exact gm (aY h81)
       have hdo:=lj hxc hrow herr hplan;refine cI rfl (I5 rfl rfl rfl) (fun _=>rfl) (uQ hG hfk hov hg _ _ (N.event) ⟨0,0⟩ hst) ?_;rintro _ σ (⟨er,hadd,rfl,hst⟩ | ⟨g2,a2,b2,c2,d2,M2,hadd,rfl,hA,hst⟩)
       ·have hS:eC k l r t=(none,er):=by rw[hdo];unfold xh;rw[show eX r.g (.ofNat (t+1)) (N.event) ⟨0,0⟩ (0)=(none,er) from hadd]
        have her:=lE hadd;refine vQ 3 rfl (aa rfl (Jc 6 rfl) rfl (dP hst (.there (.there (.there (.there .here)))) rfl (I8 rfl rfl rfl (hst.get 4 rfl) (m:=4) rfl rfl (cells':=[_,_,_,_,_,_,_,_,_,_]) rfl) rfl (fun σ hst=>?_)));refine vQ 1 rfl (nT (aj (aj (ai rfl (vQ 2 rfl (nT (aE rfl (fun h128=>?_) (fun h128=>?_))))))))
        ·refine aj (ai rfl (aa rfl (IY (places:=[(0,6),(6,4)]) (zero:=[.int .i64 0,.int .i64 0,.int .i64 0,.int .i64 0,.int .i64 0,.int .i64 0,.aq,.aq,.aq,.aq]) (cs:=[_,_,_,_,_,_,_,_,_,_]) rfl) rfl (vQ 1 rfl (ik hst rfl (I8 rfl rfl rfl (hst.get 3 rfl) (m:=10) rfl rfl (cells':=[_,_,_,_,_,_,_,_,_,_]) rfl) rfl (fun σ hst=>?_)))));refine vQ 1 rfl (nT (aB (au (?_))));exact br rfl rfl (hst.get 3 rfl) (m:=10) (by kernel_rfl) rfl rfl (.inl ⟨er,rfl,by rw[hS],her,(hst.pop.pop.pop.pop.pop).weaken hle1⟩)
        ·exact absurd h128 (by rw[her];decide)
       ·have hS:eC k l r t=(some ⟨r.mem,g2⟩,0):=by rw[hdo];unfold xh;rw[show eX r.g (.ofNat (t+1)) (N.event) ⟨0,0⟩ (0)=(some g2,0) from hadd]
        replace hst:=hst.keeps;refine vQ 3 rfl (aa rfl (Jc 6 rfl) rfl (dP hst (.there (.there (.there (.there .here)))) rfl (I8 rfl rfl rfl (hst.get 4 rfl) (m:=4) rfl (ae hA.init.leaf.2 (ae hA.threads.leaf.2 (ae hA.from_.leaf.2 (ae hA.order.leaf.2 az)))) (cells':=[_,_,_,_,_,_,_,_,_,_]) rfl) rfl (fun σ hst=>?_)));refine vQ 1 rfl (nT (aj (aj (ai rfl (vQ 2 rfl (nT (aE rfl (fun h128=>?_) (fun h128=>?_))))))))
        ·exact absurd h128 (by decide)
        ·refine aF (ad (aj (ai rfl (aa rfl (IT rfl (hst.get 4 rfl) (n:=10) (vs:=[_,_,_,_,_,_,_,_,_,_]) rfl) rfl (ik hst rfl (I8 rfl rfl rfl (hst.get 3 rfl) (m:=10) rfl (ae rfl (ae rfl (ae rfl (ae rfl (ae rfl (ae rfl (ae hA.init.leaf.2 (ae hA.threads.leaf.2 (ae hA.from_.leaf.2 (ae hA.order.leaf.2 az)))))))))) (cells':=[_,_,_,_,_,_,_,_,_,_]) rfl) rfl (fun σ hst=>?_))))));refine vQ 1 rfl (nT (aB ?_));exact br rfl rfl (hst.get 3 rfl) (m:=10) (by kernel_rfl) rfl rfl (.inr ⟨_,_,_,_,_,_,_,_,_,_,_,_,KP.le_trans hle1 (KP.cV _ _),hS,rfl,hA,hm,hst.pop.pop.pop.pop.pop⟩)
theorem Ej {K:KP} {m:List Int} {x0 x1 x2 x3 x4 x5:Int} (hm:oh m x0 x1 x2 x3 x4 x5) {a b c d:AV} {bb e:Nat} {ro:Bool} (hb:K bb (.row (c6 x0 x1 x2 x3 x4 x5 a b c d) e ro)):bD K 1 dI m (.slice bb 0 m.length (.known 6)):=by
 have h6:=hm.le;refine .inr ⟨bb,0,_,_,e,ro,rfl,.inr ⟨_,rfl,h6⟩,hb,by show 0+m.length*1≤10;omega,by omega,fun i x hx=>?_⟩;have hi:=(List.getElem?_eq_some_iff.1 hx).1;obtain⟨y,hy,hn⟩:=hm.at_ (a:=a) (b:=b) (c:=c) (d:=d) hi;rw[hx] at hy;cases hy;rw[dU] at hn;rw[b0 hn];rfl
theorem yy {P:Program} {σ:av} {K:KP} {L:Own} {bb e:Nat} {a b c d:AV} (hst:St σ K ((bb,.row (c6 0 0 0 0 0 0 a b c d) e false)::L)) {init:List Int} {vi:AV} (hi:bD K 1 dI init vi) (h6:init.length≤6) {ts:Array TypeId} {t ty:TypeId} (ht:ts[0]?=some t) (hu:P.underlying t=some (.slice ty)) (hj:(P.info? ty).map (·.size)=some 1):
  ∃(σ':av) (v:AV) (y0 y1 y2 y3 y4 y5:Int),oA P σ ts (.slice bb 0 6 (.known 6)) vi= .val v σ'∧St σ' K ((bb,.row (c6 y0 y1 y2 y3 y4 y5 a b c d) e false)::L)∧oh init y0 y1 y2 y3 y4 y5:=by
 obtain⟨j,hj',hsz⟩:=Option.map_eq_some_iff.1 hj;obtain⟨news,s1,s2,s3,s4⟩:=nQ hst hi dI.leaf
 have hnews:news=init.map gZ:=by
  refine List.ext_getElem? fun i=>?_
  rw[List.getElem?_map];cases hx:init[i]? with
  | none=>
   show news[i]?=none;rw[List.getElem?_eq_none_iff] at hx⊢;rw[s2];omega
  | some x=>
   have:=s4 i x hx;rw[Nat.mul_one] at this;have hlt:i<news.length:=by have:=(List.getElem?_eq_some_iff.1 hx).1;omega
   rw[List.drop_eq_getElem_cons hlt] at this;have h1: [news[i]]= [AV.int .i64 x]:=this;rw[List.getElem?_eq_getElem hlt];exact congrArg some (List.cons.inj h1).1
 subst hnews;have hb:=hst.get 0 rfl;unfold oA;rw[ht];dsimp only;rw[hu];dsimp only;rw[hj'];dsimp only;rw[hsz,s1];dsimp only
 match init,h6 with
 | [],_=>exact⟨σ,_,0,0,0,0,0,0,rfl,hst,rfl⟩
 | [q0],_=>simp only[hb];exact⟨_,_,q0,0,0,0,0,0,rfl,hst.mn _,rfl⟩
 | [q0,q1],_=>simp only[hb];exact⟨_,_,q0,q1,0,0,0,0,rfl,hst.mn _,rfl⟩
 | [q0,q1,q2],_=>simp only[hb];exact⟨_,_,q0,q1,q2,0,0,0,rfl,hst.mn _,rfl⟩
 | [q0,q1,q2,q3],_=>simp only[hb];exact⟨_,_,q0,q1,q2,q3,0,0,rfl,hst.mn _,rfl⟩
 | [q0,q1,q2,q3,q4],_=>simp only[hb];exact⟨_,_,q0,q1,q2,q3,q4,0,rfl,hst.mn _,rfl⟩
 | [q0,q1,q2,q3,q4,q5],_=>simp only[hb];exact⟨_,_,q0,q1,q2,q3,q4,q5,rfl,hst.mn _,rfl⟩
theorem xE {P:Program} {G:Cx} {ev:Operand→Option AV} {σ:av} {cl:Call} {so xo:Operand} {s x:AV} {r:HR} (hc:cl.callee= .builtin .copy) (ha:cl.args.toList= [so,xo]) (h1:ev so=some s) (h2:ev xo=some x) (h:oA P σ cl.argTypes s x=r):dg P G ev σ (.call cl)=r:=by
 refine iI (by simp[kindOf,hc]) ?_
 have he:qp ev [so,xo]=some [s,x]:=by
  unfold qp bO;simp only[h1,h2]
 simp only[eW,hc,ha,he,h]
theorem Gc {g:XG} (h:bL g=0):GB g:=by
 obtain⟨b1,b2,b3,b4,b5,b6,b7⟩:=cz h;exact⟨by omega,by omega,fun l hl=>by have:=b3 l hl;omega,by omega,fun l hl=>by have:=nt b6 b4 b3 l hl;omega,by omega,fun l hl=>by have:=lR h l hl;omega⟩
theorem GU {G:Cx} (hG:Plain G) {K:KP} {g:XG} {a b c d:AV} (hck:bL g=0) (hg:fe K g a b c d) {σ:av} {L:Own} (hst:St σ K L):bc Tryz.prog G 93 [.agg [a,b,c,d]] σ fun v σ'=>∃K1 a' b' c' d',v= .agg [a',b',c',d']∧KP.le K K1∧fe K1 g a' b' c' d'∧St σ' K1 L:=by
 refine bg hG Tryz.func93 rfl (t:=PT.leaf.put (some (.agg [a,b,c,d])) 0) (by rfl) (aj (ai rfl (bu hst rfl (cY rfl rfl) (fun _=>rfl) (fun σ b1 hst=>?_))));refine bu hst rfl (IV (cs:=[.aq,.aq,.aq,.aq])) (fun _=>rfl) (fun σ b2 hst=>?_);refine nS rfl (aa rfl (IT rfl (hst.get 1 rfl) (n:=4) (vs:=[_,_,_,_]) rfl) rfl (cI rfl (I5 rfl rfl rfl) (fun _=>rfl) (sf hG hg (Gc hck) hst) ?_));rintro _ σ ⟨u1,M1,q2,us2,M2,q3,us3,M3,q4,us4,M4,rfl,hO,hst⟩;have hfew:=Gc hck;obtain⟨K1,hle,hmem,hst⟩:=St.fF (σ:=σ) (K:=K) (L:=_::_::L) (M:=M4++(q4,.row us4 74 false)::(M3++(q3,.row us3 74 false)::(M2++(q2,.row us2 57 false)::M1))) (by simpa only[List.append_assoc,List.cons_append] using hst);have hg1:fe K1 g u1 (.slice q2 0 g.threads.length (.known g.threads.length)) (.slice q3 0 g.from_.length (.known g.from_.length)) (.slice q4 0 g.order.length (.known g.order.length)):=nc (T1:=57) (T2:=74) (T3:=74) hO.init hO.threads hO.from_ hO.order (fun e he=>hmem e (by simp[he])) (fun e he=>hmem e (by simp[he])) (fun e he=>hmem e (by simp[he])) (fun e he=>hmem e (by simp[he])) (hmem (q2,.row us2 57 false) (by simp)) (hmem (q3,.row us3 74 false) (by simp)) (hmem (q4,.row us4 74 false) (by simp)) rfl rfl rfl (by have:=hfew.2.1;omega) (by have:=hfew.2.2.2.1;omega) (by have:=hfew.2.2.2.2.2.1;omega);clear hmem;refine bA hst rfl (I8 rfl rfl rfl (hst.get 0 rfl) (m:=4) rfl (ae hg1.init.leaf.2 (ae hg1.threads.leaf.2 (ae hg1.from_.leaf.2 (ae hg1.order.leaf.2 az)))) (cells':=[_,_,_,_]) rfl) rfl (fun σ hst=>?_);refine nT (aB ?_);exact hJ rfl rfl (hst.get 0 rfl) (m:=4) (by kernel_rfl) rfl ⟨K1,_,_,_,_,rfl,hle,hg1,hst.pop.pop⟩
theorem CG {P:Program} {ev:Operand→Option AV} {t e n h bb:Nat} {x hi:Operand} {k:IntKind} (ht:P.underlying t=some (.array n e)) (hj:(P.info? e).map (·.size)=some 1) (hx:ev x=some (.ptr bb 0)) (hh:ev hi=some (.int k (.ofNat h))) (hl:h≤n):cu P ev (.slice t x none (some hi) none)=some (.slice bb 0 h (.known n)):=by
 obtain⟨j,hj',hsz⟩:=Option.map_eq_some_iff.1 hj;have hb:cj ev n n none (some hi)=some (0,h):=l9 hh hl;simp only[cu,eH,ht,hx,cutAt,hb,cut,hj'];cases Nat.beq n 0<;>simp
theorem sE {P:Program} {ev:Operand→Option AV} {t e n bb:Nat} {x:Operand} (ht:P.underlying t=some (.array n e)) (hj:(P.info? e).map (·.size)=some 1) (hx:ev x=some (.ptr bb 0)):cu P ev (.slice t x none none none)=some (.slice bb 0 n (.known n)):=by
 obtain⟨j,hj',hsz⟩:=Option.map_eq_some_iff.1 hj;have hb:cj ev n n none none=some (0,n):=rfl;simp only[cu,eH,ht,hx,cutAt,hb,cut,hj'];cases Nat.beq n 0<;>simp
theorem C3 {G:Cx} (hG:Plain G) {K:KP} {r:XM} (hck:bL r.g=0) (hml:r.mem.length=r.g.init.length) {a b c d:AV} (hg:fe K r.g a b c d) {x0 x1 x2 x3 x4 x5:Int} (hm:oh r.mem x0 x1 x2 x3 x4 x5) {σ:av} {L:Own} (hst:St σ K L):
  bc Tryz.prog G 55 [.agg [.int .i64 x0,.int .i64 x1,.int .i64 x2,.int .i64 x3,.int .i64 x4,.int .i64 x5,a,b,c,d]] σ fun v σ'=>∃K1 mv a' b' c' d',v= .agg [mv,a',b',c',d']∧KP.le K K1∧bD K1 1 dI r.mem mv∧fe K1 r.g a' b' c' d'∧St σ' K1 L:=by
 have h6:=hm.le;refine bg hG Tryz.func55 rfl (t:=PT.leaf.put (some (.agg [.int .i64 x0,.int .i64 x1,.int .i64 x2,.int .i64 x3,.int .i64 x4,.int .i64 x5,a,b,c,d])) 0) (by rfl) (aj (ai rfl (bu hst rfl (cY rfl rfl) (fun _=>rfl) (fun σ b1 hst=>?_))));obtain⟨K0,hle0,hmem,hst⟩:=hst.fF (M:=[_]);have hb:=hmem _ (.head _);clear hmem;dsimp only at hb;replace hg:=hg.mono hle0;refine bu hst rfl (IV (cs:=[.aq,.aq,.aq,.aq,.aq])) (fun _=>rfl) (fun σ b2 hst=>?_);refine nT (aj (aQ (l:=[(0,[]),(1,[]),(2,[]),(3,[]),(4,[]),(5,[]),(7,[]),(8,[]),(6,[8]),(9,[]),(10,[]),(11,[])]) (by kernel_rfl) (by kernel_rfl) (an rfl rfl (Jc 0 rfl) rfl (an rfl rfl (Jc 6 rfl) rfl (an rfl rfl (Jc 0 rfl) rfl (an rfl rfl (Ja rfl (hst.dX hb) rfl) rfl (an rfl rfl (I1 hg.init rfl rfl rfl (e:=2) rfl) rfl ?_)))))));refine an rfl rfl (aU (v:=.slice b1 0 r.mem.length (.known 6)) rfl (CG (e:=2) (n:=6) (by kernel_rfl) (by kernel_rfl) rfl (show _=some (AV.int .i64 (.ofNat r.mem.length)) from by rw[hml];rfl) h6)) rfl ?_;refine an rfl rfl (Jc 6 rfl) rfl (an rfl rfl (IT rfl (hst.dX hb) (n:=4) (vs:=[_,_,_,_]) rfl) rfl (ja rfl rfl (I5 rfl rfl rfl) (fun _=>rfl) (qQ hG (Ej hm hb) (by omega) hst) ?_));rintro mv σ ⟨MM,hMM,hst⟩;obtain⟨K2,hle2,hmem,hst⟩:=hst.fF;have hmv:=hMM.kJ (K:=K2) fun y hy=>hmem _ hy;clear hmem;replace hb:=hle2 _ _ hb;replace hg:=hg.mono hle2
 refine⟨(cd (cR rfl rfl rfl rfl rfl (IT rfl (hst.dX hb) (n:=4) (vs:=[_,_,_,_]) rfl) (nf (dj hg.init.lM (dj hg.threads.lM (dj hg.from_.lM (dj hg.order.lM mW)))))) ba),?_⟩;refine ja rfl rfl (I5 rfl rfl rfl) (fun _=>rfl) (GU hG hck hg hst) ?_;rintro _ σ ⟨K1,a2,b2_,c2,d2,rfl,hle1,hg1,hst⟩;replace hb:=hle1 _ _ hb;replace hg:=hg.mono hle1;replace hmv:=hmv.mono hle1 fun _ _ h=>h
 refine⟨ba,?_⟩;refine an rfl rfl (bB (places:=[(0,1),(1,4)]) (zero:=[.aq,.aq,.aq,.aq,.aq]) (cs:=[_,_,_,_,_]) (by kernel_rfl) (by kernel_rfl) (by kernel_rfl) (bP rfl rfl hmv.leaf.1 rfl (bP rfl rfl rfl rfl da)) (by kernel_rfl)) rfl (mm hst rfl rfl (I8 rfl rfl rfl (hst.get 0 rfl) (m:=5) rfl (ae hmv.leaf.2 (ae hg1.init.leaf.2 (ae hg1.threads.leaf.2 (ae hg1.from_.leaf.2 (ae hg1.order.leaf.2 az))))) (cells':=[_,_,_,_,_]) rfl) rfl (fun σ hst=>?_));refine⟨ba,?_⟩;refine bh (ad (aB ?_));exact hJ rfl rfl (hst.get 0 rfl) (m:=5) (by kernel_rfl) rfl ⟨K1,_,_,_,_,_,rfl,KP.le_trans hle0 (KP.le_trans hle2 hle1),hmv,hg1,hst.pop⟩
theorem FY {G:Cx} (hG:Plain G) {K:KP} (hgl:kb G K) {k:Nat} {init:List Int} {vi:AV} (hi:bD K 1 dI init vi) {l:List XC} {lv:AV} (hl:bD K 2 (jl K k) l lv) {σ:av} {L:Own} (hst:St σ K L):
  bc Tryz.prog G 63 [vi,lv] σ fun v σ'=>(bm (xe k init l) 0=false∧v= .tuple [.agg vP,.int .i64 (xe k init l)]∧St σ' K L)∨
   (FO k init l∧bm (xe k init l) 0=true∧∃K1 x0 x1 x2 x3 x4 x5 a b c d,v= .tuple [.agg [.int .i64 x0,.int .i64 x1,.int .i64 x2,.int .i64 x3,.int .i64 x4,.int .i64 x5,a,b,c,d],.int .i64 0]∧KP.le K K1∧fe K1 (GW init l.length) a b c d∧oh init x0 x1 x2 x3 x4 x5∧St σ' K1 L):=by
 refine bg hG Tryz.func63 rfl (t:=(PT.leaf.put (some (vi)) 0).put (some (lv)) 1) (by rfl) (aj (ai rfl (bu hst rfl (IV (cs:=[.int .i64 0,.int .i64 0,.int .i64 0,.int .i64 0,.int .i64 0,.int .i64 0,.aq,.aq,.aq,.aq])) (fun _=>rfl) (fun σ b1 hst=>?_))));refine vQ 1 rfl (nT (aj (aj (ai rfl (vQ 2 rfl (bf rfl (I5 rfl rfl rfl) (fun _=>rfl) (CM hG hgl hi hl hst) (fun σ hst=>?_)))))));refine vQ 1 rfl (nS rfl (vQ 2 rfl (nT (aE rfl (fun h14=>?_) (fun h14=>?_)))))
 ·refine aj (ai rfl (aa rfl (IY (places:=[(0,6),(6,4)]) (zero:=[.int .i64 0,.int .i64 0,.int .i64 0,.int .i64 0,.int .i64 0,.int .i64 0,.aq,.aq,.aq,.aq]) (cs:=[_,_,_,_,_,_,_,_,_,_]) rfl) rfl (vQ 1 rfl (bA hst rfl (I8 rfl rfl rfl (hst.get 0 rfl) (m:=10) rfl rfl (cells':=[_,_,_,_,_,_,_,_,_,_]) rfl) rfl (fun σ hst=>?_)))));refine vQ 1 rfl (nT (aB (au (?_))));exact br rfl rfl (hst.get 0 rfl) (m:=10) (by kernel_rfl) rfl rfl (.inl ⟨bQ h14,rfl,hst.pop⟩)
 ·refine aF (ad (aj (ai rfl (vQ 2 rfl (aa rfl (I1 hl rfl rfl rfl (e:=33) rfl) rfl ?_)))));have hex:=G7 (k:=k) (init:=init) (l:=l) (eqv (aY h14));have hel:=hex.len;have hei:=hex.init;refine cI rfl (I5 rfl rfl rfl) (fun _=>rfl) (Hs hG hi hei (t:=l.length) hel hst) ?_;rintro _ σ ⟨K1,a,b,c,d,rfl,hle,hg,hst⟩;replace hi:=hi.mono hle fun _ _ h=>h
  refine vQ 3 rfl (bu hst rfl (IV (cs:=[.aq,.aq,.aq,.aq])) (fun _=>rfl) (fun σ b2 hst=>?_));refine bA hst rfl (I8 rfl rfl rfl (hst.get 0 rfl) (m:=4) rfl (ae hg.init.leaf.2 (ae hg.threads.leaf.2 (ae hg.from_.leaf.2 (ae hg.order.leaf.2 az)))) (cells':=[_,_,_,_]) rfl) rfl (fun σ hst=>?_);refine vQ 1 rfl (nT (aj (aj (ai rfl (vQ 2 rfl (nT (aE rfl (fun h25=>?_) (fun h25=>?_))))))))
  ·exact absurd h25 (by decide)
  ·refine aF (ad (aj (ai rfl (aa rfl (IT rfl (hst.get 0 rfl) (n:=4) (vs:=[_,_,_,_]) rfl) rfl (aa rfl (IY (places:=[(0,6),(6,4)]) (zero:=[.int .i64 0,.int .i64 0,.int .i64 0,.int .i64 0,.int .i64 0,.int .i64 0,.aq,.aq,.aq,.aq]) (cs:=[_,_,_,_,_,_,_,_,_,_]) rfl) rfl (bu hst rfl (IV (cs:=[.int .i64 0,.int .i64 0,.int .i64 0,.int .i64 0,.int .i64 0,.int .i64 0,.aq,.aq,.aq,.aq])) (fun _=>rfl) (fun σ b3 hst=>?_)))))));refine bA hst rfl (I8 rfl rfl rfl (hst.get 0 rfl) (m:=10) rfl (ae rfl (ae rfl (ae rfl (ae rfl (ae rfl (ae rfl (ae hg.init.leaf.2 (ae hg.threads.leaf.2 (ae hg.from_.leaf.2 (ae hg.order.leaf.2 az)))))))))) (cells':=[_,_,_,_,_,_,_,_,_,_]) rfl) rfl (fun σ hst=>?_);refine nS rfl (aa rfl (Jc 0 rfl) rfl ?_);refine aa rfl (aU (v:=.slice b3 0 6 (.known 6)) rfl (sE (e:=2) (n:=6) (by kernel_rfl) (by kernel_rfl) rfl)) rfl ?_;refine vQ 1 rfl ?_;obtain⟨σ,v33,x0,x1,x2,x3,x4,x5,hcp,hst,hm⟩:=yy (P:=Tryz.prog) (ts:= #[22,22]) (t:=22) (ty:=2) hst hi hei rfl (by kernel_rfl) (by kernel_rfl);refine aa rfl (xE rfl rfl rfl rfl hcp) rfl (nS rfl (aa rfl (IT rfl (hst.get 0 rfl) (n:=10) (vs:=[_,_,_,_,_,_,_,_,_,_]) rfl) rfl (qD hst rfl (I8 rfl rfl rfl (hst.get 2 rfl) (m:=10) rfl (ae rfl (ae rfl (ae rfl (ae rfl (ae rfl (ae rfl (ae hg.init.leaf.2 (ae hg.threads.leaf.2 (ae hg.from_.leaf.2 (ae hg.order.leaf.2 az)))))))))) (cells':=[_,_,_,_,_,_,_,_,_,_]) rfl) rfl (fun σ hst=>?_))));refine vQ 1 rfl (nT (aB ?_));exact br rfl rfl (hst.get 2 rfl) (m:=10) (by kernel_rfl) rfl rfl (.inr ⟨hex,aY h14,K1,_,_,_,_,_,_,_,_,_,_,rfl,hle,hg,hm,hst.pop.pop.pop⟩)
theorem vf {P:Program} {fn:Func} {R:AV→av→Prop} {t:PT AV} {σ:av} {j k q ty bb m e:Nat} {ro:Bool} {cells:List AV} {v w:AV} (hr:fn.results.toList= [.cell j ty,.tmp k,.tmp q]) (h1:t.get j=some (.ptr bb 0)) (hm:σ.m.get bb=some (.row cells e ro)) (ha:dc P ty=some (some m)) (hn:cells.length=m) (h2:t.get k=some v) (h3:t.get q=some w) (hR:R (.tuple [.agg cells,v,w]) σ):xk P fn R .ret t σ:=by
 refine⟨.inr rfl,_,?_,hR⟩;unfold dv;rw[hr]
 have e1:eo P t σ (.cell j ty)=some (AV.agg cells):=by
  show(match t.get (posOf j) with
   | some (.ptr b off)=>match σ.m.get b with
    | some (.row cells _ _)=>match dc P ty with
     | some (some n)=>bif Nat.ble (off+n) (cr cells) then some (AV.agg (takeN (cX cells off) n)) else none
     | some none=>nth cells off
     | none=>none
    | _=>none
   | _=>none)=_
  rw[show t.get (posOf j)=some (.ptr bb 0) from h1];dsimp only;rw[hm];dsimp only;rw[ha];dsimp only;rw[bn,hn,Nat.zero_add,show Nat.ble m m=true by rw[Nat.ble_eq];exact Nat.le_refl _,cB,cU,List.drop_zero,←hn,List.take_length];rfl
 have e2:eo P t σ (.tmp k)=some v:=h2;have e3:eo P t σ (.tmp q)=some w:=h3
 have:bO (eo P t σ) [.cell j ty,.tmp k,.tmp q]=some [AV.agg cells,v,w]:=by
  unfold bO;simp only[e1,e2,e3]
 rw[this]
theorem He {G:Cx} (hG:Plain G) (hfk:G.fk 70=true) (hov:G.ov 106=true) {K:KP} (hgl:kb G K) {k:Nat} {l:List XC} {lv:AV} (hl:bD K 2 (jl K k) l lv) {r:XM} (hinv:jK k l r) {a b c d:AV} (hg:fe K r.g a b c d) {x0 x1 x2 x3 x4 x5:Int} (hm:oh r.mem x0 x1 x2 x3 x4 x5) {ps:List Int} {pv:AV} (hp:bD K 1 dI ps pv) (hpl:ps.length≤100) {σ:av} {L:Own} (hst:St σ K L):
  bc Tryz.prog G 64 [.agg [.int .i64 x0,.int .i64 x1,.int .i64 x2,.int .i64 x3,.int .i64 x4,.int .i64 x5,a,b,c,d],lv,pv] σ fun v σ'=>∃K1 y0 y1 y2 y3 y4 y5 a' b' c' d' u M,v= .tuple [.agg [.int .i64 y0,.int .i64 y1,.int .i64 y2,.int .i64 y3,.int .i64 y4,.int .i64 y5,a',b',c',d'],u]∧KP.le K K1∧fe K1 (ed k l (r,[]) ps).1.g a' b' c' d'∧oh (ed k l (r,[]) ps).1.mem y0 y1 y2 y3 y4 y5∧eN 1 3 dI (ed k l (r,[]) ps).2 u M∧St σ' K1 (M++L):=by
 have hl0:=hl;have hgl0:=hgl;have hp0:=hp;refine bg hG Tryz.func64 rfl (t:=((PT.leaf.put (some (.agg [.int .i64 x0,.int .i64 x1,.int .i64 x2,.int .i64 x3,.int .i64 x4,.int .i64 x5,a,b,c,d])) 0).put (some (lv)) 1).put (some (pv)) 2) (by rfl) (aj (ai rfl (bu hst rfl (cY rfl rfl) (fun _=>rfl) (fun σ b1 hst=>?_))));refine bu hst rfl (IV (cs:=[.int .i64 0,.int .i64 0,.int .i64 0,.int .i64 0,.int .i64 0,.int .i64 0,.aq,.aq,.aq,.aq])) (fun _=>rfl) (fun σ b2 hst=>?_);refine vQ 1 rfl (nS rfl (vQ 1 rfl ?_));replace hst:St σ K ([]++(b2,.row vP 99 false)::(b1,.row (c6 x0 x1 x2 x3 x4 x5 a b c d) 99 false)::L):=hst;refine nT (aj (aj (ai rfl (vQ 1 rfl (aa rfl (I1 hp rfl rfl rfl (e:=3) rfl) rfl (vQ 1 rfl (nT (aP (bE [8,10,11,12,15,16,17,18,19,20,21,22,23,24,25,26,27,28,29,30,31,32,33,34,35,36,37,38,39,40,41] (fun j t σ=>∃(i:Nat) (K2:KP) (x0 x1 x2 x3 x4 x5:Int) (a b c d u:AV) (M:Own),j+i=ps.length∧KP.le K K2∧jK k l (ed k l (r,[]) (ps.take i)).1∧fe K2 (ed k l (r,[]) (ps.take i)).1.g a b c d∧oh (ed k l (r,[]) (ps.take i)).1.mem x0 x1 x2 x3 x4 x5∧(ed k l (r,[]) (ps.take i)).2.length≤i∧eN 1 3 dI (ed k l (r,[]) (ps.take i)).2 u M∧t.get 8=some (u)∧t.get 15=some (.int .i64 (.ofNat i))∧St σ K2 (M++(b2,.row vP 99 false)::(b1,.row (c6 x0 x1 x2 x3 x4 x5 a b c d) 99 false)::L)) (ps.length) ⟨0,K,x0,x1,x2,x3,x4,x5,a,b,c,d,.aq,[],rfl,KP.le_refl K,hinv,hg,hm,Nat.le_refl _,.inl ⟨rfl,rfl,rfl⟩,rfl,rfl,hst⟩ ?_)))))))));clear hst;intro j3 t σ ar hI;obtain⟨i,K2,x0,x1,x2,x3,x4,x5,a,b,c,d,u,M,hj3,hleK,hin,hg,hm,hil,hO,hv8,hv15,hst⟩:=hI;obtain⟨o8,o10,o11,o12,o15,o16,o17,o18,o19,o20,o21,o22,o23,o24,o25,o26,ar⟩:=ar.Iq rfl rfl rfl rfl;replace ar:=ar.dJ rfl rfl;obtain⟨o27,o28,o29,o30,o31,o32,o33,o34,ar⟩:=ar;replace ar:=ar.rO rfl;obtain⟨o35,o36,o37,o38,ar⟩:=ar;replace ar:=ar.fI rfl;obtain⟨o39,ar⟩:=ar;replace ar:=ar.fI rfl;obtain⟨o40,ar⟩:=ar;replace ar:=ar.fI rfl;obtain⟨o41,ar⟩:=ar;obtain rfl:=ar.nil;clear ar;replace hv8:o8=some _:=hv8;subst hv8;replace hv15:o15=some _:=hv15;subst hv15;refine aj (ai rfl ?_);have hl:=hl0.mono hleK fun _ _ h=>h.mono hleK;have hgl:=hgl0.mono hleK;have hp:=hp0.mono hleK fun _ _ h=>h
 refine aL rfl (aA rfl rfl rfl) (fun _=>rfl) (fun h16=>?_) (fun h16=>?_)
 ·refine nT (aj (aC rfl (aF (ad (aj (aP (aj (ai rfl ?_))))))));obtain⟨x17,hx17,hi17⟩:=dG h16;refine Jb (e:=3) (m:=1) hp hx17 rfl rfl rfl rfl (fun _=>rfl) (fun p17 vs17 hp17 hl17 hr17=>?_);obtain rfl:=hr17;refine aa rfl (IP hst hp17 rfl rfl) rfl (vQ 1 rfl (nT (aj (aj (ai rfl (vQ 2 rfl (aL rfl (al rfl) (fun _=>rfl) (fun h21=>?_) (fun h21=>?_))))))))
  ·refine vQ 5 rfl (nT (aC rfl (bG (a9 (aV (ad (ai rfl (vQ 2 rfl (af ?_)))))))));have hlp:=cA h16;have htry:iN k l (ed k l (r,[]) (ps.take i)).1 x17=none:=by unfold iN;rw[h21];rfl
   have hP:ed k l (r,[]) (ps.take (i+1))=ed k l (r,[]) (ps.take i):=by rw[l6 hx17];unfold pX;rw[htry]
   refine aR ⟨j3-1,by omega,(by(iterate 45 refine bx.put rfl ?_);exact bx.refl _ _),i+1,K2,x0,x1,x2,x3,x4,x5,a,b,c,d,u,M,by omega,hleK,by rw[hP];exact hin,by rw[hP];exact hg,by rw[hP];exact hm,by rw[hP];omega,by rw[hP];exact hO,rfl,congrArg (fun z=>some (AV.int .i64 z)) (bl (by omega)),hst⟩
  ·refine vQ 2 rfl (aa rfl (I1 hl rfl rfl rfl (e:=33) rfl) rfl (vQ 2 rfl (nT (aE rfl (fun h26=>?_) (fun h26=>?_)))))
   ·refine bG (a9 (aV (ad (ai rfl (vQ 2 rfl (af ?_))))));have hlp:=cA h16;have htry:iN k l (ed k l (r,[]) (ps.take i)).1 x17=none:=by unfold iN;rw[h21,h26];rfl
    have hP:ed k l (r,[]) (ps.take (i+1))=ed k l (r,[]) (ps.take i):=by rw[l6 hx17];unfold pX;rw[htry]
    refine aR ⟨j3-1,by omega,(by(iterate 45 refine bx.put rfl ?_);exact bx.refl _ _),i+1,K2,x0,x1,x2,x3,x4,x5,a,b,c,d,u,M,by omega,hleK,by rw[hP];exact hin,by rw[hP];exact hg,by rw[hP];exact hm,by rw[hP];omega,by rw[hP];exact hO,rfl,congrArg (fun z=>some (AV.int .i64 z)) (bl (by omega)),hst⟩
   ·refine aF (ad (aj (ai rfl (aa rfl (IT rfl (hst.bq.pop.get 0 rfl) (n:=10) (vs:=[_,_,_,_,_,_,_,_,_,_]) rfl) rfl (vQ 2 rfl ?_)))));obtain⟨tp,rfl⟩:=ng h21;have htl:tp<l.length:=by have:=bz h26;omega
    refine cI rfl (I5 rfl rfl rfl) (fun _=>rfl) (BN hG hfk hov hgl hl hin hg hm htl hst) ?_;rintro _ σ (⟨e,rfl,he,hne,hst⟩ | ⟨K3,r2,z0,z1,z2,z3,z4,z5,a2,b2_,c2,d2,hle3,hsm,rfl,hg2,hm2,hst⟩)
    ·refine vQ 3 rfl (bu hst rfl (IV (cs:=[.int .i64 0,.int .i64 0,.int .i64 0,.int .i64 0,.int .i64 0,.int .i64 0,.aq,.aq,.aq,.aq])) (fun _=>rfl) (fun σ b3 hst=>?_));refine bA hst rfl (I8 rfl rfl rfl (hst.get 0 rfl) (m:=10) rfl rfl (cells':=[_,_,_,_,_,_,_,_,_,_]) rfl) rfl (fun σ hst=>?_);refine vQ 1 rfl (nS rfl (vQ 1 rfl (aL rfl (aA rfl rfl rfl) (fun _=>rfl) (fun h35=>?_) (fun h35=>?_))))
     ·exact absurd h35 (by rw[hne];decide)
     ·refine nT (aJ rfl (aF (aK (ad (ai rfl (vQ 2 rfl (af ?_)))))));have hst:=hst.pop;have hlp:=cA h16;have htry:iN k l (ed k l (r,[]) (ps.take i)).1 (Int.ofNat (tp+1))=none:=by unfold iN;rw[h21,h26];simp only[cond_false,show(Int.ofNat (tp+1)).toNat-1=tp from rfl];rw[←he,hne];rfl
      have hP:ed k l (r,[]) (ps.take (i+1))=ed k l (r,[]) (ps.take i):=by rw[l6 hx17];unfold pX;rw[htry]
      refine aR ⟨j3-1,by omega,(by(iterate 56 refine bx.put rfl ?_);exact bx.refl _ _),i+1,K2,x0,x1,x2,x3,x4,x5,a,b,c,d,u,M,by omega,hleK,by rw[hP];exact hin,by rw[hP];exact hg,by rw[hP];exact hm,by rw[hP];omega,by rw[hP];exact hO,rfl,congrArg (fun z=>some (AV.int .i64 z)) (bl (by omega)),hst⟩
    ·refine vQ 3 rfl (bu hst rfl (IV (cs:=[.int .i64 0,.int .i64 0,.int .i64 0,.int .i64 0,.int .i64 0,.int .i64 0,.aq,.aq,.aq,.aq])) (fun _=>rfl) (fun σ b3 hst=>?_));refine bA hst rfl (I8 rfl rfl rfl (hst.get 0 rfl) (m:=10) rfl (ae rfl (ae rfl (ae rfl (ae rfl (ae rfl (ae rfl (ae hg2.init.leaf.2 (ae hg2.threads.leaf.2 (ae hg2.from_.leaf.2 (ae hg2.order.leaf.2 az)))))))))) (cells':=[_,_,_,_,_,_,_,_,_,_]) rfl) rfl (fun σ hst=>?_);refine vQ 1 rfl (nS rfl (vQ 1 rfl (aL rfl (aA rfl rfl rfl) (fun _=>rfl) (fun h35=>?_) (fun h35=>?_))))
     ·refine nT (aC rfl (aj (ai rfl (aa rfl (IT rfl (hst.get 0 rfl) (n:=10) (vs:=[_,_,_,_,_,_,_,_,_,_]) rfl) rfl ?_))));refine dP hst (.there (.fc (.there .here))) rfl (I8 rfl rfl rfl (hst.pop.bq.pop.get 0 rfl) (m:=10) rfl (ae rfl (ae rfl (ae rfl (ae rfl (ae rfl (ae rfl (ae hg2.init.leaf.2 (ae hg2.threads.leaf.2 (ae hg2.from_.leaf.2 (ae hg2.order.leaf.2 az)))))))))) (cells':=[_,_,_,_,_,_,_,_,_,_]) rfl) rfl (fun σ hst=>?_);refine nT (ai rfl (vQ 2 rfl (lP hst rfl (dB (e:=3) (m:=1) (z:=[.int .i64 0]) (cs:=[_]) (by kernel_rfl) (by kernel_rfl) (by kernel_rfl) (by kernel_rfl) (bP rfl rfl rfl rfl da)) (fun _=>rfl) (fun σ b4 hst=>?_))));replace hst:=(hst.perm (List.Perm.swap ..)).pop;obtain⟨σ,u2,M2,happ,hO2,hst⟩:=eR (P:=Tryz.prog) (ts:= #[34,34]) (t:=34) (e:=3) (l2:=[Int.ofNat (tp+1)]) hO hst (eu (xs:=[Int.ofNat (tp+1)]) (.inr ⟨rfl,rfl⟩) (by simp)) dI.leaf (by simp) (by simp) (by omega) rfl (by kernel_rfl) (by kernel_rfl) (by kernel_rfl);refine aa rfl (dQ rfl rfl rfl rfl (by kernel_rfl) happ) rfl (vQ 1 rfl (af (aK (ad (ai rfl (vQ 2 rfl (af ?_)))))));have hlp:=cA h16;have htry:iN k l (ed k l (r,[]) (ps.take i)).1 (Int.ofNat (tp+1))=some r2:=by unfold iN;rw[h21,h26];simp only[cond_false,show(Int.ofNat (tp+1)).toNat-1=tp from rfl];rw[hsm];rfl
      have hP:ed k l (r,[]) (ps.take (i+1))=(r2,(ed k l (r,[]) (ps.take i)).2++[Int.ofNat (tp+1)]):=by rw[l6 hx17];unfold pX;rw[htry]
      refine aR ⟨j3-1,by omega,(by(iterate 62 refine bx.put rfl ?_);exact bx.refl _ _),i+1,K3,z0,z1,z2,z3,z4,z5,a2,b2_,c2,d2,u2,M2,by omega,KP.le_trans hleK hle3,by rw[hP];exact(hin.step hsm).1,by rw[hP];exact hg2,by rw[hP];exact hm2,by rw[hP,List.length_append];show _+1≤_;omega,by rw[hP];exact hO2,rfl,congrArg (fun z=>some (AV.int .i64 z)) (bl (by omega)),hst⟩
     ·exact absurd h35 (by decide)
 ·refine nT (aj (aJ rfl (bG (a9 (bj (aV (ad (aj (ai rfl (aa rfl (IT rfl (hst.bq.pop.get 0 rfl) (n:=10) (vs:=[_,_,_,_,_,_,_,_,_,_]) rfl) rfl (vQ 1 rfl ?_)))))))))));refine dP hst (.fc .here) rfl (I8 rfl rfl rfl (hst.bq.get 0 rfl) (m:=10) rfl (ae rfl (ae rfl (ae rfl (ae rfl (ae rfl (ae rfl (ae hg.init.leaf.2 (ae hg.threads.leaf.2 (ae hg.from_.leaf.2 (ae hg.order.leaf.2 az)))))))))) (cells':=[_,_,_,_,_,_,_,_,_,_]) rfl) rfl (fun σ hst=>?_);refine vQ 1 rfl (nT (aB ?_));have hP:ed k l (r,[]) (ps.take i)=ed k l (r,[]) ps:=B8 (bz h16);rw[hP] at hO hg hm;exact br rfl rfl (hst.bq.get 0 rfl) (m:=10) (by kernel_rfl) rfl rfl ⟨K2,_,_,_,_,_,_,_,_,_,_,_,_,rfl,hleK,hg,hm,hO,hst.sub (iK (.cons _ (.cons _ (.refl _))))⟩
noncomputable def zE (init:List Int) (l:List XC):XM:=⟨init,GW init l.length⟩
theorem ss {k:Nat} {init:List Int} {l:List XC} (h:FO k init l):jK k l (zE init l):=jK.start h.len h.init h.flat
theorem Hn {G:Cx} (hG:Plain G) (hfk:G.fk 70=true) (hov:G.ov 106=true) {K:KP} (hgl:kb G K) {k:Nat} {init:List Int} {vi:AV} (hi:bD K 1 dI init vi) {l:List XC} {lv:AV} (hl:bD K 2 (jl K k) l lv) {ps:List Int} {pv:AV} (hp:bD K 1 dI ps pv) (hpl:ps.length≤100) {σ:av} {L:Own} (hst:St σ K L):
  bc Tryz.prog G 29 [vi,lv,pv] σ fun v σ'=>∃K1 m a b c d n,v= .tuple [.agg [m,a,b,c,d],.int .i64 n,.int .i64 (xe k init l)]∧KP.le K K1∧(bm (xe k init l) 0=true→FO k init l∧n= .ofNat (ed k l (zE init l,[]) ps).2.length∧bD K1 1 dI (ed k l (zE init l,[]) ps).1.mem m∧fe K1 (ed k l (zE init l,[]) ps).1.g a b c d)∧(bm (xe k init l) 0=false→m= .aq∧a= .aq∧b= .aq∧c= .aq∧d= .aq)∧St σ' K1 L:=by
 refine bg hG Tryz.func29 rfl (t:=((PT.leaf.put (some (vi)) 0).put (some (lv)) 1).put (some (pv)) 2) (by rfl) (aj (ai rfl (bu hst rfl (IV (cs:=[.aq,.aq,.aq,.aq,.aq])) (fun _=>rfl) (fun σ b1 hst=>?_))));refine vQ 2 rfl (nS rfl (vQ 2 rfl (cI rfl (I5 rfl rfl rfl) (fun _=>rfl) (FY hG hgl hi hl hst) ?_)));rintro _ σ (⟨hne,rfl,hst⟩ | ⟨hex,heq,K1,x0,x1,x2,x3,x4,x5,a,b,c,d,rfl,hle,hg,hm,hst⟩)
 ·refine vQ 3 rfl (bu hst rfl (IV (cs:=[.int .i64 0,.int .i64 0,.int .i64 0,.int .i64 0,.int .i64 0,.int .i64 0,.aq,.aq,.aq,.aq])) (fun _=>rfl) (fun σ b2 hst=>?_));refine bA hst rfl (I8 rfl rfl rfl (hst.get 0 rfl) (m:=10) rfl rfl (cells':=[_,_,_,_,_,_,_,_,_,_]) rfl) rfl (fun σ hst=>?_);refine vQ 1 rfl (nT (aj (aj (ai rfl (vQ 2 rfl (nT (aE rfl (fun h18=>?_) (fun h18=>?_))))))))
  ·refine aj (ai rfl (aa rfl (IY (places:=[(0,1),(1,4)]) (zero:=[.aq,.aq,.aq,.aq,.aq]) (cs:=[_,_,_,_,_]) rfl) rfl (vQ 1 rfl (ep hst rfl (I8 rfl rfl rfl (hst.get 1 rfl) (m:=5) rfl rfl (cells':=[_,_,_,_,_]) rfl) rfl (fun σ hst=>?_)))));refine vQ 2 rfl (nT (aB (au (?_))));exact vf rfl rfl (hst.get 1 rfl) (m:=5) (by kernel_rfl) rfl rfl rfl ⟨K,_,_,_,_,_,_,rfl,KP.le_refl K,(fun h=>by rw[hne] at h;cases h),(fun _=>⟨rfl,rfl,rfl,rfl,rfl⟩),hst.pop.pop⟩
  ·exact absurd (aY h18) (by rw[hne];decide)
 ·refine vQ 3 rfl (bu hst rfl (IV (cs:=[.int .i64 0,.int .i64 0,.int .i64 0,.int .i64 0,.int .i64 0,.int .i64 0,.aq,.aq,.aq,.aq])) (fun _=>rfl) (fun σ b2 hst=>?_));refine bA hst rfl (I8 rfl rfl rfl (hst.get 0 rfl) (m:=10) rfl (ae rfl (ae rfl (ae rfl (ae rfl (ae rfl (ae rfl (ae hg.init.leaf.2 (ae hg.threads.leaf.2 (ae hg.from_.leaf.2 (ae hg.order.leaf.2 az)))))))))) (cells':=[_,_,_,_,_,_,_,_,_,_]) rfl) rfl (fun σ hst=>?_);refine vQ 1 rfl (nT (aj (aj (ai rfl (vQ 2 rfl (nT (aE rfl (fun h18=>?_) (fun h18=>?_))))))))
  ·exact absurd h18 (by decide)
  ·refine aF (ad (aj (ai rfl (aa rfl (IT rfl (hst.get 0 rfl) (n:=10) (vs:=[_,_,_,_,_,_,_,_,_,_]) rfl) rfl (vQ 2 rfl (cI rfl (I5 rfl rfl rfl) (fun _=>rfl) (He hG hfk hov (hgl.mono hle) (hl.mono hle fun _ _ h=>h.mono hle) (ss hex) hg hm (hp.mono hle fun _ _ h=>h) hpl hst) ?_))))));rintro _ σ ⟨K2,y0,y1,y2,y3,y4,y5,a2,b2_,c2,d2,u25,M25,rfl,hle2,hg2,hm2,hO,hst⟩;obtain⟨K3,hle3,hmem,hst⟩:=hst.fF;have hS:=hO.kJ (K:=K3) fun y hy=>hmem _ hy;clear hmem;replace hg2:=hg2.mono hle3
   refine vQ 3 rfl (bA hst rfl (I8 rfl rfl rfl (hst.get 0 rfl) (m:=10) rfl (ae rfl (ae rfl (ae rfl (ae rfl (ae rfl (ae rfl (ae hg2.init.leaf.2 (ae hg2.threads.leaf.2 (ae hg2.from_.leaf.2 (ae hg2.order.leaf.2 az)))))))))) (cells':=[_,_,_,_,_,_,_,_,_,_]) rfl) rfl (fun σ hst=>?_));refine vQ 1 rfl (nS rfl (aa rfl (IT rfl (hst.get 0 rfl) (n:=10) (vs:=[_,_,_,_,_,_,_,_,_,_]) rfl) rfl ?_));have hpi:=(ss hex).E4 (ps:=ps) (s:=(zE init l,[]));refine cI rfl (I5 rfl rfl rfl) (fun _=>rfl) (C3 hG hpi.1.HL hpi.1.mem hg2 hm2 hst) ?_;rintro _ σ ⟨K4,mv,a3,b3_,c3,d3,rfl,hle4,hmv,hg3,hst⟩;replace hS:=hS.mono hle4 fun _ _ h=>h
   refine vQ 1 rfl (aa rfl (I1 hS rfl rfl rfl (e:=3) rfl) rfl (ep hst rfl (I8 rfl rfl rfl (hst.get 1 rfl) (m:=5) rfl (ae hmv.leaf.2 (ae hg3.init.leaf.2 (ae hg3.threads.leaf.2 (ae hg3.from_.leaf.2 (ae hg3.order.leaf.2 az))))) (cells':=[_,_,_,_,_]) rfl) rfl (fun σ hst=>?_)));refine vQ 2 rfl (nT (aB ?_));exact vf rfl rfl (hst.get 1 rfl) (m:=5) (by kernel_rfl) rfl rfl rfl ⟨K4,_,_,_,_,_,_,by rw[eqv heq],KP.le_trans hle (KP.le_trans hle2 (KP.le_trans hle3 hle4)),(fun _=>⟨hex,rfl,hmv,hg3⟩),(fun h=>by rw[heq] at h;cases h),hst.pop.pop⟩
theorem w6 {α:Type} {o:Option α} {d:α} (h:(!o.isSome)=false):o=some (o.getD d):=by
 cases o with
 | none=>cases h
 | some x=>rfl
theorem yt {α:Type} {o:Option α} (h:(!o.isSome)=false):o.isSome=true:=by
 cases o with
 | none=>cases h
 | some x=>rfl
theorem FV {α:Type} {o:Option α} (h:(!o.isSome)=true):o=none:=by
 cases o with
 | none=>rfl
 | some x=>cases h
theorem Eh {k:Nat} {l:List XC} {g:XG} (h:(jX k l g).isSome=true):bL g=0:=by
 unfold jX at h;cases h1:bk (bm (bL g) 0) with
 | true=>rw[h1] at h;cases h
 | false=>exact eqv (aY h1)
theorem F1 {G:Cx} (hG:Plain G) {K:KP} (hgl:kb G K) {k:Nat} {l:List XC} {lv:AV} (hl:bD K 2 (jl K k) l lv) {m:List Int} {mv:AV} (hmv:bD K 1 dI m mv) {g:XG} {a b c d:AV} (hg:fe K g a b c d) {σ:av} {L:Own} (hst:St σ K L):
  bc Tryz.prog G 59 [lv,.agg [mv,a,b,c,d]] σ fun v σ'=>∃u M,v= .tuple [u,.bool (mI k l m g).isSome]∧eN 1 3 dI ((mI k l m g).getD []) u M∧St σ' K (M++L):=by
 refine bg hG Tryz.func59 rfl (t:=(PT.leaf.put (some (lv)) 0).put (some (.agg [mv,a,b,c,d])) 1) (by rfl) (aj (ai rfl (bu hst rfl (cY rfl rfl) (fun _=>rfl) (fun σ b1 hst=>?_))));refine vQ 2 rfl (nS rfl (vQ 1 rfl (aa rfl (Jc 1 rfl) rfl (aa rfl (IT rfl (hst.get 0 rfl) (n:=4) (vs:=[_,_,_,_]) rfl) rfl (cI rfl (I5 rfl rfl rfl) (fun _=>rfl) (Gt hG hgl hl hg hst) ?_)))));rintro _ σ ⟨u14,M14,rfl,hO,hst⟩;refine vQ 5 rfl (nT (aj (aj (ai rfl (vQ 1 rfl (aa rfl (dO rfl) rfl (aL rfl (al rfl) (fun _=>rfl) (fun h19=>?_) (fun h19=>?_))))))))
 ·refine vQ 9 rfl (nT (aC rfl (aj (ai rfl (vQ 2 rfl (nT (aB (au (?_)))))))));have hR:mI k l m g=none:=by unfold mI;rw[FV h19]
  exact bU rfl rfl rfl ⟨.aq,[],by rw[hR];rfl,by rw[hR];exact .inl ⟨rfl,rfl,rfl⟩,hst.bq.pop⟩
 ·refine aa rfl (Jc 0 rfl) rfl (aa rfl (Ja rfl (hst.bq.get 0 rfl) rfl) rfl (aa rfl (I1 hmv rfl rfl rfl (e:=2) rfl) rfl (aa rfl (Jc 1 rfl) rfl (aa rfl (Jc 0 rfl) rfl (aa rfl (Ja rfl (hst.bq.get 0 rfl) rfl) rfl (aa rfl (I1 hg.init rfl rfl rfl (e:=2) rfl) rfl (vQ 2 rfl (nT (aE rfl (fun h28=>?_) (fun h28=>?_))))))))))
  ·refine aj (ai rfl (vQ 2 rfl (nT (aB (au (?_))))));have hsg:=w6 (d:=[]) h19;have hR:mI k l m g=none:=by unfold mI;rw[hsg];dsimp only;rw[show bk (bm (.ofNat m.length) (.ofNat g.init.length))=true from h28];rfl
   exact bU rfl rfl rfl ⟨.aq,[],by rw[hR];rfl,by rw[hR];exact .inl ⟨rfl,rfl,rfl⟩,hst.bq.pop⟩
  ·refine aF (ad (aj (aj (ai rfl ?_))));have hck:=Eh (yt h19);have hbo:∀r∈g.order,r.length≤1000000:=fun r hr=>by have:=lR hck r hr;omega
   refine aa rfl (Jc 0 rfl) rfl (aa rfl (Ja rfl (hst.bq.get 0 rfl) rfl) rfl (aa rfl (I1 hmv rfl rfl rfl (e:=2) rfl) rfl (vQ 1 rfl (nT (aP (bE [4,5,8,9,32,33,34,35,36,37,38,39,40,41,42,43] (fun j t σ=>∃(i:Nat),j+i=m.length∧tT g m 0=tT g (m.drop i) i∧t.get 32=some (.int .i64 (.ofNat i))∧St σ K (M14++(b1,.row [mv,a,b,c,d] 44 false)::L)) (m.length) ⟨0,rfl,rfl,rfl,hst⟩ ?_))))));clear hst;intro j5 t σ ar hI;obtain⟨i,hj5,hok,hv32,hst⟩:=hI;obtain⟨o4,o5,o8,o9,o32,o33,o34,o35,o36,o37,o38,o39,o40,o41,o42,o43,ar⟩:=ar.Iq rfl rfl rfl rfl;obtain rfl:=ar.nil;clear ar;replace hv32:o32=some _:=hv32;subst hv32;refine aj (ai rfl (aL rfl (aA rfl rfl rfl) (fun _=>rfl) (fun h33=>?_) (fun h33=>?_)))
   ·refine nT (aj (aC rfl (aF (ad (aj (aP (aj (ai rfl (vQ 1 rfl ?_)))))))));obtain⟨x35,hx35,hi35⟩:=dG h33;refine Jb (e:=2) (m:=1) hmv hx35 rfl rfl rfl rfl (fun _=>rfl) (fun p35 vs35 hp35 hl35 hr35=>?_);obtain rfl:=hr35;refine aa rfl (IP hst hp35 rfl rfl) rfl (vQ 2 rfl (nS rfl (vQ 1 rfl (aa rfl (Jc 1 rfl) rfl (aa rfl (IT rfl (hst.bq.get 0 rfl) (n:=4) (vs:=[_,_,_,_]) rfl) rfl (vQ 1 rfl (bf rfl (I5 rfl rfl rfl) (fun _=>rfl) (GS hG hg hbo _ hst) (fun σ hst=>?_))))))));refine vQ 1 rfl (nT (aE rfl (fun h42=>?_) (fun h42=>?_)))
    ·refine aj (ai rfl (vQ 2 rfl (nT (aB (aD (au (bC (aD (au (?_))))))))));have hsg:=w6 (d:=[]) h19;have hR:mI k l m g=none:=by unfold mI;rw[hsg];dsimp only;rw[show bk (bm (.ofNat m.length) (.ofNat g.init.length))=false from h28,cond_false,hok,b0 hx35];unfold tT;rw[show bk (bm x35 (kF g (.ofNat i)))=true from h42];rfl
     exact bU rfl rfl rfl ⟨.aq,[],by rw[hR];rfl,by rw[hR];exact .inl ⟨rfl,rfl,rfl⟩,hst.bq.pop⟩
    ·refine aF (aK (ad (ai rfl (vQ 2 rfl (af (aR ⟨j5-1,by omega,(by(iterate 30 refine bx.put rfl ?_);exact bx.refl _ _),i+1,by omega,(by rw[hok,b0 hx35];show(bif _ then _ else _)=_;rw[show bk (bm x35 (kF g (.ofNat i)))=false from h42];rfl),congrArg (fun z=>some (AV.int .i64 z)) (bl (by have:=hmv.bH;omega)),hst⟩))))))
   ·refine nT (aj (aJ rfl (bG (a9 (bj (aV (ad (aj (ai rfl (vQ 3 rfl (af (ad ?_))))))))))));refine aB ?_;have hsg:=w6 (d:=[]) h19;have hR:mI k l m g=jX k l g:=by rw[hsg];unfold mI;rw[hsg];dsimp only;rw[show bk (bm (.ofNat m.length) (.ofNat g.init.length))=false from h28,cond_false,hok,List.drop_eq_nil_iff.2 (bz h33)];rfl
    exact bU rfl rfl rfl ⟨_,M14,by rw[hR,yt h19],by rw[hR];exact hO,hst.sub (iK (.cons _ (.refl _)))⟩
theorem IC {G:Cx} (hG:Plain G) {K:KP} (hgl:kb G K) {k:Nat} {l:List XC} {lv:AV} (hl:bD K 2 (jl K k) l lv) {m:List Int} {mv:AV} (hmv:bD K 1 dI m mv) {g:XG} {a b c d:AV} (hg:fe K g a b c d) {σ:av} {L:Own} (hst:St σ K L):
  bc Tryz.prog G 23 [lv,.agg [mv,a,b,c,d]] σ fun v σ'=>v= .bool (Is k l m g)∧St σ' K L:=by
 refine bg hG Tryz.func23 rfl (t:=(PT.leaf.put (some (lv)) 0).put (some (.agg [mv,a,b,c,d])) 1) (by rfl) (aj (ai rfl (bu hst rfl (cY rfl rfl) (fun _=>rfl) (fun σ b1 hst=>?_))));refine vQ 1 rfl (nS rfl (vQ 1 rfl (aa rfl (IT rfl (hst.get 0 rfl) (n:=5) (vs:=[_,_,_,_,_]) rfl) rfl (cI rfl (I5 rfl rfl rfl) (fun _=>rfl) (F1 hG hgl hl hmv hg hst) ?_))));rintro _ σ ⟨u10,M10,rfl,hO,hst⟩;refine vQ 5 rfl (nS rfl (vQ 2 rfl (nT (aB ?_))));exact ay rfl rfl ⟨rfl,hst.bq.pop⟩
theorem wZ {G:Cx} (hG:Plain G) (hfk:G.fk 70=true) (hov:G.ov 106=true) {K:KP} (hgl:kb G K) {k:Nat} {l:List XC} {lv:AV} (hl:bD K 2 (jl K k) l lv) {r:XM} (hinv:jK k l r) {mv:AV} (hmv:bD K 1 dI r.mem mv) {a b c d:AV} (hg:fe K r.g a b c d) (p:Int) {σ:av} {L:Own} (hst:St σ K L):
  bc Tryz.prog G 20 [lv,.agg [mv,a,b,c,d],.int .i64 p] σ fun v σ'=>(∃e,v= .tuple [.agg [.aq,.aq,.aq,.aq,.aq],.int .i64 e]∧bm e 0=false∧iN k l r p=none∧St σ' K L)∨
   ∃K1 r' m' a' b' c' d',v= .tuple [.agg [m',a',b',c',d'],.int .i64 0]∧iN k l r p=some r'∧KP.le K K1∧bD K1 1 dI r'.mem m'∧fe K1 r'.g a' b' c' d'∧St σ' K1 L:=by
 have hck:=hinv.HL;obtain⟨b1_,b2_,b3_,_⟩:=cz hck;have hm6:r.mem.length≤6:=by rw[hinv.mem];exact b2_
 refine bg hG Tryz.func20 rfl (t:=((PT.leaf.put (some (lv)) 0).put (some (.agg [mv,a,b,c,d])) 1).put (some (.int .i64 p)) 2) (by rfl) (aj (ai rfl (bu hst rfl (cY rfl rfl) (fun _=>rfl) (fun σ b1 hst=>?_))));refine bu hst rfl (IV (cs:=[.aq,.aq,.aq,.aq,.aq])) (fun _=>rfl) (fun σ b2 hst=>?_);refine vQ 1 rfl (nT (aj (aj (ai rfl (vQ 1 rfl (aa rfl (IT rfl (hst.get 1 rfl) (n:=5) (vs:=[_,_,_,_,_]) rfl) rfl (bf rfl (I5 rfl rfl rfl) (fun _=>rfl) (show bc Tryz.prog G 23 _ _ (fun v σ'=>v= .bool true∧St σ' K _) from by have:=IC hG hgl hl hmv hg hst;rwa[hinv.is] at this) (fun σ hst=>?_))))))));refine aa rfl (dO rfl) rfl (aL rfl (al rfl) (fun _=>rfl) (fun h14=>?_) (fun h14=>?_))
 ·exact absurd h14 (by decide)
 ·refine vQ 3 rfl (aL rfl (al rfl) (fun _=>rfl) (fun h18=>?_) (fun h18=>?_))
  ·refine vQ 5 rfl (nT (aC rfl (aj (ai rfl (aa rfl (IY (places:=[(0,1),(1,4)]) (zero:=[.aq,.aq,.aq,.aq,.aq]) (cs:=[_,_,_,_,_]) rfl) rfl (bA hst rfl (I8 rfl rfl rfl (hst.get 0 rfl) (m:=5) rfl rfl (cells':=[_,_,_,_,_]) rfl) rfl (fun σ hst=>?_)))))));refine vQ 1 rfl (nT (aB (au (?_))));exact br rfl rfl (hst.get 0 rfl) (m:=5) (by kernel_rfl) rfl rfl (.inl ⟨2,rfl,rfl,by unfold iN;rw[h18];rfl,hst.pop.pop⟩)
  ·refine vQ 2 rfl (aa rfl (I1 hl rfl rfl rfl (e:=33) rfl) rfl (vQ 2 rfl (nT (aE rfl (fun h23=>?_) (fun h23=>?_)))))
   ·refine aj (ai rfl (aa rfl (IY (places:=[(0,1),(1,4)]) (zero:=[.aq,.aq,.aq,.aq,.aq]) (cs:=[_,_,_,_,_]) rfl) rfl (bA hst rfl (I8 rfl rfl rfl (hst.get 0 rfl) (m:=5) rfl rfl (cells':=[_,_,_,_,_]) rfl) rfl (fun σ hst=>?_))));refine vQ 1 rfl (nT (aB (au (?_))));exact br rfl rfl (hst.get 0 rfl) (m:=5) (by kernel_rfl) rfl rfl (.inl ⟨2,rfl,rfl,by unfold iN;rw[h18,h23];rfl,hst.pop.pop⟩)
   ·refine aF (ad (aj (ai rfl (aa rfl (Jc 1 rfl) rfl (aa rfl (IT rfl (hst.get 1 rfl) (n:=4) (vs:=[_,_,_,_]) rfl) rfl (aa rfl (IY (places:=[(0,6),(6,4)]) (zero:=[.int .i64 0,.int .i64 0,.int .i64 0,.int .i64 0,.int .i64 0,.int .i64 0,.aq,.aq,.aq,.aq]) (cs:=[_,_,_,_,_,_,_,_,_,_]) rfl) rfl (bu hst rfl (IV (cs:=[.int .i64 0,.int .i64 0,.int .i64 0,.int .i64 0,.int .i64 0,.int .i64 0,.aq,.aq,.aq,.aq])) (fun _=>rfl) (fun σ b3 hst=>?_))))))));refine bA hst rfl (I8 rfl rfl rfl (hst.get 0 rfl) (m:=10) rfl (ae rfl (ae rfl (ae rfl (ae rfl (ae rfl (ae rfl (ae hg.init.leaf.2 (ae hg.threads.leaf.2 (ae hg.from_.leaf.2 (ae hg.order.leaf.2 az)))))))))) (cells':=[_,_,_,_,_,_,_,_,_,_]) rfl) rfl (fun σ hst=>?_);refine nT (aj (aQ (l:=[(0,[]),(1,[]),(2,[]),(3,[]),(4,[])]) (by kernel_rfl) (by kernel_rfl) (an rfl rfl (Jc 0 rfl) rfl ?_)));refine an rfl rfl (aU (v:=.slice b3 0 6 (.known 6)) rfl (sE (e:=2) (n:=6) (by kernel_rfl) (by kernel_rfl) rfl)) rfl ?_;refine an rfl rfl (Jc 0 rfl) rfl (an rfl rfl (Ja rfl (hst.get 2 rfl) rfl) rfl ?_);obtain⟨σ,v32,x0,x1,x2,x3,x4,x5,hcp,hst,hm⟩:=yy (P:=Tryz.prog) (ts:= #[22,22]) (t:=22) (ty:=2) hst hmv hm6 rfl (by kernel_rfl) (by kernel_rfl);refine an rfl rfl (xE rfl rfl rfl rfl hcp) rfl (bh (ad (aj (ai rfl (aa rfl (IT rfl (hst.get 0 rfl) (n:=10) (vs:=[_,_,_,_,_,_,_,_,_,_]) rfl) rfl (vQ 2 rfl ?_))))));obtain⟨tp,rfl⟩:=ng h18;have htl:tp<l.length:=by have:=bz h23;omega
    refine cI rfl (I5 rfl rfl rfl) (fun _=>rfl) (BN hG hfk hov hgl hl hinv hg hm htl hst) ?_;rintro _ σ (⟨e,rfl,he,hne,hst⟩ | ⟨K3,r2,z0,z1,z2,z3,z4,z5,a2,b2_,c2,d2,hle3,hsm,rfl,hg2,hm2,hst⟩)
    ·refine vQ 3 rfl (bA hst rfl (I8 rfl rfl rfl (hst.get 0 rfl) (m:=10) rfl rfl (cells':=[_,_,_,_,_,_,_,_,_,_]) rfl) rfl (fun σ hst=>?_));refine vQ 1 rfl (nT (aj (aj (ai rfl (vQ 2 rfl (nT (aE rfl (fun h41=>?_) (fun h41=>?_))))))))
     ·refine aj (ai rfl (aa rfl (IY (places:=[(0,1),(1,4)]) (zero:=[.aq,.aq,.aq,.aq,.aq]) (cs:=[_,_,_,_,_]) rfl) rfl (vQ 1 rfl (ep hst rfl (I8 rfl rfl rfl (hst.get 1 rfl) (m:=5) rfl rfl (cells':=[_,_,_,_,_]) rfl) rfl (fun σ hst=>?_)))));refine vQ 1 rfl (nT (aB (au (?_))));have htry:iN k l r (Int.ofNat (tp+1))=none:=by unfold iN;rw[h18,h23];simp only[cond_false,show(Int.ofNat (tp+1)).toNat-1=tp from rfl];rw[←he,hne];rfl
      exact br rfl rfl (hst.get 1 rfl) (m:=5) (by kernel_rfl) rfl rfl (.inl ⟨e,rfl,hne,htry,hst.pop.pop.pop⟩)
     ·exact absurd (aY h41) (by rw[hne];decide)
    ·refine vQ 3 rfl (bA hst rfl (I8 rfl rfl rfl (hst.get 0 rfl) (m:=10) rfl (ae rfl (ae rfl (ae rfl (ae rfl (ae rfl (ae rfl (ae hg2.init.leaf.2 (ae hg2.threads.leaf.2 (ae hg2.from_.leaf.2 (ae hg2.order.leaf.2 az)))))))))) (cells':=[_,_,_,_,_,_,_,_,_,_]) rfl) rfl (fun σ hst=>?_));refine vQ 1 rfl (nT (aj (aj (ai rfl (vQ 2 rfl (nT (aE rfl (fun h41=>?_) (fun h41=>?_))))))))
     ·exact absurd h41 (by decide)
     ·refine aF (ad (aj (ai rfl (aa rfl (IT rfl (hst.get 0 rfl) (n:=10) (vs:=[_,_,_,_,_,_,_,_,_,_]) rfl) rfl ?_))));have hpi:=(hinv.step hsm).1;refine cI rfl (I5 rfl rfl rfl) (fun _=>rfl) (C3 hG hpi.HL hpi.mem hg2 hm2 hst) ?_;rintro _ σ ⟨K4,mv2,a3,b3_,c3,d3,rfl,hle4,hmv2,hg3,hst⟩;refine ep hst rfl (I8 rfl rfl rfl (hst.get 1 rfl) (m:=5) rfl (ae hmv2.leaf.2 (ae hg3.init.leaf.2 (ae hg3.threads.leaf.2 (ae hg3.from_.leaf.2 (ae hg3.order.leaf.2 az))))) (cells':=[_,_,_,_,_]) rfl) rfl (fun σ hst=>?_);refine vQ 1 rfl (nT (aB ?_));have htry:iN k l r (Int.ofNat (tp+1))=some r2:=by unfold iN;rw[h18,h23];simp only[cond_false,show(Int.ofNat (tp+1)).toNat-1=tp from rfl];rw[hsm];rfl
      exact br rfl rfl (hst.get 1 rfl) (m:=5) (by kernel_rfl) rfl rfl (.inr ⟨K4,r2,_,_,_,_,_,rfl,htry,KP.le_trans hle3 hle4,hmv2,hg3,hst.pop.pop.pop⟩)
theorem Hc {G:Cx} (hG:Plain G) {K:KP}:∀(k:Nat) (x:XE) (vs:List AV),gX K k x vs→∀(left:Int) (σ:av) (L:Own),St σ K L→bc Tryz.prog G 72 [.agg vs,.int .i64 left] σ fun v σ'=>v= .int .i64 (yE k x left)∧St σ' K L:=by
 intro k;induction k with
 | zero=>intro x vs h;cases x;exact h.elim
 | succ k ih=>
 intro x vs h left σ L hst;obtain⟨op,num,name,kids⟩:=x;obtain⟨v,rfl,hk⟩:=h;refine bg hG Tryz.func72 rfl (t:=(PT.leaf.put (some (.agg _)) 0).put (some (.int .i64 left)) 1) (by rfl) (aj (ai rfl (bu hst rfl (cY rfl rfl) (fun _=>rfl) (fun σ b1 hst=>?_))));refine vQ 1 rfl (nS rfl (vQ 2 rfl (aa rfl (Jc 2 rfl) rfl (aa rfl (Ja rfl (hst.get 0 rfl) rfl) rfl (aa rfl (jR rfl rfl rfl (by kernel_rfl) rfl) rfl (vQ 3 rfl (nT (aj (aj ?_)))))))));refine ai rfl (vQ 1 rfl (nT (aP ?_)));obtain⟨LL1,hst,hLL1⟩:=hst.named;refine bE [1,5,13,14,15,16,17,18,19,20,21,22,23,24,25,26,27,28,29,30] (fun j t σ=>∃(i:Nat) (m:Int),j+i=kids.length∧rz (yE k) kids (Gf name left)=rz (yE k) (kids.drop i) m∧t.get 1=some (.int .i64 m)∧t.get 5=some (.int .i64 (.ofNat i))∧St σ K LL1) (kids.length) ⟨0,_,rfl,rfl,rfl,rfl,hst⟩ ?_;clear hst;intro j3 t σ ar hI;obtain⟨i,m,hj,hh,hv1,hv5,hst⟩:=hI;subst hLL1;obtain⟨o1,o5,o13,o14,o15,o16,o17,o18,o19,o20,o21,o22,o23,o24,o25,o26,ar⟩:=ar.Iq rfl rfl rfl rfl;replace ar:=ar.rO rfl;obtain⟨o27,o28,o29,o30,ar⟩:=ar;obtain rfl:=ar.nil;clear ar;replace hv1:o1=some _:=hv1;subst hv1;replace hv5:o5=some _:=hv5;subst hv5;refine aj (aj (ai rfl (vQ 1 rfl (aa rfl (Jc 3 rfl) rfl (aa rfl (Ja rfl (hst.get 0 rfl) rfl) rfl (aa rfl (I1 hk rfl rfl rfl (e:=82) rfl) rfl (vQ 1 rfl (aL rfl (al rfl) (fun _=>rfl) (fun h18=>?_) (fun h18=>?_)))))))))
 ·refine vQ 3 rfl (nT (aE rfl (fun h21=>?_) (fun h21=>?_)))
  ·refine aF (ad (aj (aP (ai rfl (aa rfl (Jc 3 rfl) rfl (aa rfl (Ja rfl (hst.get 0 rfl) rfl) rfl (vQ 1 rfl ?_)))))));obtain⟨x27,hx27,hi27⟩:=dG h18;refine Jb (e:=82) (m:=4) hk hx27 rfl rfl rfl rfl (fun _=>rfl) (fun p27 vs27 hp27 hl27 hr27=>?_);obtain⟨o27,n27,s27,v27,rfl,hk27⟩:=hr27.shape;refine aa rfl (bZ hst hp27 rfl (by kernel_rfl) rfl) rfl (vQ 1 rfl (bf rfl (I5 rfl rfl rfl) (fun _=>rfl) (ih _ _ hr27 _ _ _ hst) (fun σ hst=>?_)));refine vQ 1 rfl (af (aK (ad (ai rfl (vQ 3 rfl (af (aR ⟨j3-1,by omega,(by(iterate 40 refine bx.put rfl ?_);exact bx.refl _ _),i+1,_,by omega,hh.trans (zP hx27 (bQ h21)),rfl,congrArg (fun z=>some (AV.int .i64 z)) (bl (by have:=hk.bH;omega)),hst⟩)))))))
  ·refine bG (a9 (bj (aV (ad (aj (ai rfl (vQ 2 rfl (nT (aB ?_)))))))));exact ay rfl rfl ⟨congrArg (AV.int .i64) (by rw[CI (aY h21)] at hh;rw[←hh];rfl),hst.pop⟩
 ·refine vQ 3 rfl (nT (aJ rfl (bG (a9 (bj (aV (ad (aj (ai rfl (vQ 2 rfl (af (ad ?_))))))))))));refine aB ?_;exact ay rfl rfl ⟨congrArg (AV.int .i64) (by rw[B7 (bz h18)] at hh;rw[←hh];rfl),hst.pop⟩
theorem E0 {G:Cx} (hG:Plain G) {K:KP} {k:Nat} {x:XE} {vs:List AV} {σ:av} {L:Own} (hst:St σ K L) (h:gX K k x vs) (most:Int):bc Tryz.prog G 44 [.agg vs,.int .i64 most] σ fun v σ'=>v= .bool (AJ k x most)∧St σ' K L:=by
 obtain⟨o0,n0,s0,v0,rfl,hk⟩:=h.shape;refine bg hG Tryz.func44 rfl (t:=(PT.leaf.put (some (.agg _)) 0).put (some (.int .i64 most)) 1) (by rfl) (aj (ai rfl (bu hst rfl (cY rfl rfl) (fun _=>rfl) (fun σ b1 hst=>?_))));refine vQ 1 rfl (nS rfl (aa rfl (IT rfl (hst.get 0 rfl) (n:=4) (vs:=[_,_,_,_]) rfl) rfl (vQ 1 rfl (bf rfl (I5 rfl rfl rfl) (fun _=>rfl) (Hc hG _ _ _ h _ _ _ hst) (fun σ hst=>?_)))));refine vQ 2 rfl (nT (aB ?_));exact ay rfl rfl ⟨rfl,hst.pop⟩
theorem xq {G:Cx} (hG:Plain G) {K:KP} {k:Nat} {x:XC} {vs:List AV} {σ:av} {L:Own} (hst:St σ K L) (h:jl K k x vs) (most:Int):bc Tryz.prog G 11 [.agg vs,.int .i64 most] σ fun v σ'=>v= .bool (oY k most x)∧St σ' K L:=by
 have h':=h;obtain⟨v0,rfl,hk⟩:=h';refine bg hG Tryz.func11 rfl (t:=(PT.leaf.put (some (.agg _)) 0).put (some (.int .i64 most)) 1) (by rfl) (aj (ai rfl (bu hst rfl (cY rfl rfl) (fun _=>rfl) (fun σ b1 hst=>?_))));refine vQ 1 rfl (nT (aj (aj (ai rfl (aa rfl (Jc 1 rfl) rfl (aa rfl (Ja rfl (hst.get 0 rfl) rfl) rfl (aa rfl (I1 hk rfl rfl rfl (e:=79) rfl) rfl (vQ 2 rfl (nT (aE rfl (fun h11=>?_) (fun h11=>?_)))))))))))
 ·refine aj (ai rfl (vQ 1 rfl (nT (aB (au (?_))))));exact ay rfl rfl ⟨congrArg AV.bool (by unfold oY;rw[h11];rfl),hst.pop⟩
 ·refine aF (ad (aj (aj (ai rfl (vQ 1 rfl (nT (aP ?_)))))));obtain⟨LL1,hst,hLL1⟩:=hst.named;refine bE [4,5,6,12,13,14,15,16,17,18,19,20,21,22,23,24,25,26,27,28,29,30,31,32,33,34,35,36,37,38,39,40,41,42,43,44,45,46,47,48] (fun j t σ=>∃(i:Nat),j+i=x.ins.length∧(x.ins.take i).all (tt k)=true∧t.get 5=some (.int .i64 (.ofNat i))∧St σ K LL1) (x.ins.length) ⟨0,rfl,rfl,rfl,hst⟩ ?_;clear hst;intro j4 t σ ar hI;obtain⟨i,hj,ha,hv5,hst⟩:=hI;subst hLL1;obtain⟨o4,o5,o6,o12,o13,o14,o15,o16,o17,o18,o19,o20,o21,o22,o23,o24,ar⟩:=ar.Iq rfl rfl rfl rfl;obtain⟨o25,o26,o27,o28,o29,o30,o31,o32,o33,o34,o35,o36,o37,o38,o39,o40,ar⟩:=ar.Iq rfl rfl rfl rfl;replace ar:=ar.dJ rfl rfl;obtain⟨o41,o42,o43,o44,o45,o46,o47,o48,ar⟩:=ar;obtain rfl:=ar.nil;clear ar;replace hv5:o5=some _:=hv5;subst hv5;refine aj (aj (ai rfl (vQ 1 rfl (aa rfl (Jc 1 rfl) rfl (aa rfl (Ja rfl (hst.get 0 rfl) rfl) rfl (aa rfl (I1 hk rfl rfl rfl (e:=79) rfl) rfl (vQ 1 rfl (nT (aE rfl (fun h16=>?_) (fun h16=>?_))))))))))
  ·refine aF (ad (aj (aP (aj (aj (ai rfl (aa rfl (Jc 1 rfl) rfl (aa rfl (Ja rfl (hst.get 0 rfl) rfl) rfl (vQ 1 rfl ?_)))))))));obtain⟨x22,hx22,hi22⟩:=dG h16;refine Jb (e:=79) (m:=6) hk hx22 rfl rfl rfl rfl (fun _=>rfl) (fun p22 vs22 hp22 hl22 hr22=>?_);have hr22':=hr22;obtain⟨v22,rfl,hk22⟩:=hr22';refine bK hp22 rfl rfl rfl (k:=5) (by kernel_rfl) (lb rfl) (fun _=>rfl) (fun p23 hp23=>?_);refine aa rfl (IP hst hp23 rfl rfl) rfl (aa rfl (I1 hk22 rfl rfl rfl (e:=82) rfl) rfl (vQ 1 rfl (nT (aE rfl (fun h26=>?_) (fun h26=>?_)))))
   ·refine aj (ai rfl (vQ 1 rfl (nT (aB (au (aD (au (bC (aD (au (?_)))))))))));exact ay rfl rfl ⟨congrArg AV.bool (by unfold oY;rw[h11,jF hx22 (by unfold tt;rw[h26];rfl)];rfl),hst.pop⟩
   ·refine aF (ad (aj (ai rfl (vQ 1 rfl (nT (aP ?_))))));obtain⟨LL2,hst,hLL2⟩:=hst.named;refine bE [4,6,27,28,29,30,31,32,33,34,35,36,37,38,39,40,41,42,43,44,45,46,47,48] (fun j t σ=>∃(i2:Nat),j+i2=x22.exprs.length∧(x22.exprs.take i2).all (fun e=>AJ k e 60)=true∧t.get 6=some (.int .i64 (.ofNat i2))∧St σ K LL2) (x22.exprs.length) ⟨0,rfl,rfl,rfl,hst⟩ ?_;clear hst;intro j9 t σ ar hI;obtain⟨i2,hj2,ha2,hv6,hst⟩:=hI;subst hLL2;obtain⟨o4,o6,o27,o28,o29,o30,o31,o32,o33,o34,o35,o36,o37,o38,o39,o40,ar⟩:=ar.Iq rfl rfl rfl rfl;replace ar:=ar.dJ rfl rfl;obtain⟨o41,o42,o43,o44,o45,o46,o47,o48,ar⟩:=ar;obtain rfl:=ar.nil;clear ar;replace hv6:o6=some _:=hv6;subst hv6;refine aj (aj (ai rfl (vQ 1 rfl (aa rfl (Jc 1 rfl) rfl (aa rfl (Ja rfl (hst.get 0 rfl) rfl) rfl (vQ 1 rfl (Jb (e:=79) (m:=6) hk hx22 rfl rfl rfl rfl (fun _=>rfl) (fun p31 vs31 hp31 hl31 hr31=>?_))))))));have hr31':=hr31;obtain⟨v31,rfl,hk31⟩:=hr31';refine bK hp31 rfl rfl rfl (k:=5) (by kernel_rfl) (lb rfl) (fun _=>rfl) (fun p32 hp32=>?_);refine aa rfl (IP hst hp32 rfl rfl) rfl (aa rfl (I1 hk31 rfl rfl rfl (e:=82) rfl) rfl (vQ 1 rfl (nT (aE rfl (fun h35=>?_) (fun h35=>?_)))))
    ·refine aF (ad (aj (aP (aj (ai rfl (aa rfl (Jc 1 rfl) rfl (aa rfl (Ja rfl (hst.get 0 rfl) rfl) rfl (vQ 1 rfl (Jb (e:=79) (m:=6) hk hx22 rfl rfl rfl rfl (fun _=>rfl) (fun p41 vs41 hp41 hl41 hr41=>?_))))))))));have hr41':=hr41;obtain⟨v41,rfl,hk41⟩:=hr41';refine bK hp41 rfl rfl rfl (k:=5) (by kernel_rfl) (lb rfl) (fun _=>rfl) (fun p42 hp42=>?_);refine aa rfl (IP hst hp42 rfl rfl) rfl (vQ 1 rfl ?_);obtain⟨x45,hx45,hi45⟩:=dG h35;refine Jb (e:=82) (m:=4) hk41 hx45 rfl rfl rfl rfl (fun _=>rfl) (fun p45 vs45 hp45 hl45 hr45=>?_);obtain⟨o45,n45,s45,v45,rfl,hk45⟩:=hr45.shape;refine aa rfl (bZ hst hp45 rfl (by kernel_rfl) rfl) rfl (bf rfl (I5 rfl rfl rfl) (fun _=>rfl) (E0 hG hst hr45 _) (fun σ hst=>?_));refine aa rfl (dO rfl) rfl (nT (aE rfl (fun h48=>?_) (fun h48=>?_)))
     ·refine aj (ai rfl (vQ 1 rfl (nT (aB (aD (au (bC (aD (aD (au (bC (aD (au (?_))))))))))))));exact ay rfl rfl ⟨congrArg AV.bool (by unfold oY;rw[h11,jF hx22 (by unfold tt;rw[h26,jF hx45 (by simpa using h48)];rfl)];rfl),hst.pop⟩
     ·refine aF (aK (ad (ai rfl (vQ 3 rfl (af (aR ⟨j9-1,by omega,(by(iterate 47 refine bx.put rfl ?_);exact bx.refl _ _),i2+1,by omega,fT ha2 hx45 (by simpa using h48),congrArg (fun z=>some (AV.int .i64 z)) (bl (by have:=hk22.bH;omega)),hst⟩))))))
    ·refine bG (a9 (bj (aV (aK (ad (ai rfl (vQ 3 rfl (af (aR ⟨j4-1,by omega,(by(iterate 90 refine bx.put rfl ?_);exact bx.refl _ _),i+1,by omega,fT ha hx22 (by unfold tt;rw[h26,ek ha2 (bz h35)];rfl),congrArg (fun z=>some (AV.int .i64 z)) (bl (by have:=hk.bH;omega)),hst⟩)))))))))
  ·refine bG (a9 (bj (aV (ad (aj (ai rfl (vQ 1 rfl (nT (aB ?_)))))))));exact ay rfl rfl ⟨congrArg AV.bool (by unfold oY;rw[h11,ek ha (bz h16)];rfl),hst.pop⟩
theorem wo {G:Cx} (hG:Plain G) {K:KP} {k:Nat} {l:List XC} {v:AV} {σ:av} {L:Own} (hst:St σ K L) (h:bD K 2 (jl K k) l v) (most:Int):bc Tryz.prog G 19 [v,.int .i64 most] σ fun v σ'=>v= .bool (rV k most l)∧St σ' K L:=by
 refine bg hG Tryz.func19 rfl (t:=(PT.leaf.put (some (v)) 0).put (some (.int .i64 most)) 1) (by rfl) (aj (ai rfl (vQ 1 rfl (nT (aj (aj (ai rfl (vQ 1 rfl (nT (aP ?_))))))))));obtain⟨LL1,hst,hLL1⟩:=hst.named;refine bE [4,5,6,7,8,9,10,11,12,13,14,15,16,17,18,19,20,21,22] (fun j t σ=>∃(i:Nat),j+i=l.length∧(l.take i).all (oY k most)=true∧t.get 5=some (.int .i64 (.ofNat i))∧St σ K LL1) (l.length) ⟨0,rfl,rfl,rfl,hst⟩ ?_;clear hst;intro j2 t σ ar hI;obtain⟨i,hj,ha,hv5,hst⟩:=hI;subst hLL1;obtain⟨o4,o5,o6,o7,o8,o9,o10,o11,o12,o13,o14,o15,o16,o17,o18,o19,ar⟩:=ar.Iq rfl rfl rfl rfl;replace ar:=ar.fI rfl;obtain⟨o20,ar⟩:=ar;replace ar:=ar.fI rfl;obtain⟨o21,ar⟩:=ar;replace ar:=ar.fI rfl;obtain⟨o22,ar⟩:=ar;obtain rfl:=ar.nil;clear ar;replace hv5:o5=some _:=hv5;subst hv5;refine aj (aj (ai rfl (vQ 2 rfl (aa rfl (I1 h rfl rfl rfl (e:=33) rfl) rfl (vQ 1 rfl (aL rfl (al rfl) (fun _=>rfl) (fun h10=>?_) (fun h10=>?_)))))))
 ·refine vQ 3 rfl (nT (aE rfl (fun h13=>?_) (fun h13=>?_)))
  ·refine aF (ad (aj (aP (aj (ai rfl (vQ 2 rfl ?_))))));obtain⟨x18,hx18,hi18⟩:=dG h10;refine Jb (e:=33) (m:=2) h hx18 rfl rfl rfl rfl (fun _=>rfl) (fun p18 vs18 hp18 hl18 hr18=>?_);have hr18':=hr18;obtain⟨v18,rfl,hk18⟩:=hr18';refine aa rfl (bZ hst hp18 rfl (by kernel_rfl) rfl) rfl (vQ 1 rfl (bf rfl (I5 rfl rfl rfl) (fun _=>rfl) (xq hG hst hr18 _) (fun σ hst=>?_)));refine aa rfl (dO rfl) rfl (nT (aE rfl (fun h22=>?_) (fun h22=>?_)))
   ·refine aj (ai rfl (vQ 1 rfl (nT (aB (aD (au (bC (aD (au (?_))))))))));exact ay rfl rfl ⟨congrArg AV.bool (by unfold rV;rw[E7 hx18 (cA h13) (by simpa using h22)];rfl),hst⟩
   ·refine aF (aK (ad (ai rfl (vQ 3 rfl (af (aR ⟨j2-1,by omega,(by(iterate 37 refine bx.put rfl ?_);exact bx.refl _ _),i+1,by omega,fT ha hx18 (by simpa using h22),congrArg (fun z=>some (AV.int .i64 z)) (bl (by have:=h.bH;omega)),hst⟩))))))
  ·refine bG (a9 (bj (aV (ad (aj (ai rfl (vQ 1 rfl (aa rfl (I1 h rfl rfl rfl (e:=33) rfl) rfl (vQ 2 rfl (nT (aB ?_)))))))))));exact ay rfl rfl ⟨congrArg AV.bool (by unfold rV;rw[ze ha (bz h13)];rfl),hst⟩
 ·refine vQ 3 rfl (nT (aJ rfl (bG (a9 (bj (aV (ad (aj (ai rfl (vQ 1 rfl (aa rfl (I1 h rfl rfl rfl (e:=33) rfl) rfl (vQ 2 rfl ?_))))))))))));refine nT (aB ?_);exact ay rfl rfl ⟨congrArg AV.bool (by unfold rV;rw[ek (i:=i) (by rw[List.take_take];exact ze ha (Nat.min_le_left _ _)) (by rw[List.length_take];have:=bz h10;omega)];rfl),hst⟩
theorem HJ {G:Cx} (hG:Plain G) {K:KP} {k:Nat} {l:List XC} {lv:AV} (hl:bD K 2 (jl K k) l lv) (q:Int) {σ:av} {L:Own} (hst:St σ K L):
  bc Tryz.prog G 62 [lv,.int .i64 q] σ fun v σ'=>∃b,v= .bool b∧St σ' K L:=by
 refine bg hG Tryz.func62 rfl (t:=(PT.leaf.put (some (lv)) 0).put (some (.int .i64 q)) 1) (by rfl) (aj (ai rfl (vQ 1 rfl (nS rfl (vQ 1 rfl (nT (aj (aj (ai rfl ?_)))))))));refine vQ 1 rfl (nT (aP ?_));obtain⟨LL1,hst,hLL1⟩:=hst.named;refine bE [5,6,7,8,9,10,11,12,13,14,15,16,17,18,19,20,21,22,23,24,25,26,27,28,29,30,31,32,33,34,35,36,37,38,39,40,41,42,43,44,45,46,47,48,49,50,51,52,53,54,55,56] (fun j t σ=>∃(i:Nat) (m:Int),j+i=l.length∧t.get 5=some (.int .i64 m)∧t.get 6=some (.int .i64 (.ofNat i))∧St σ K LL1) (l.length) ⟨0,0,rfl,rfl,rfl,hst⟩ ?_;clear hst;intro j3 t σ ar hI;obtain⟨i,m,hj3,hv5,hv6,hst⟩:=hI;subst hLL1;obtain⟨o5,o6,o7,o8,o9,o10,o11,o12,o13,o14,o15,o16,o17,o18,o19,o20,ar⟩:=ar.Iq rfl rfl rfl rfl;obtain⟨o21,o22,o23,o24,o25,o26,o27,o28,o29,o30,o31,o32,o33,o34,o35,o36,ar⟩:=ar.Iq rfl rfl rfl rfl;obtain⟨o37,o38,o39,o40,o41,o42,o43,o44,o45,o46,o47,o48,o49,o50,o51,o52,ar⟩:=ar.Iq rfl rfl rfl rfl;replace ar:=ar.rO rfl;obtain⟨o53,o54,o55,o56,ar⟩:=ar;obtain rfl:=ar.nil;clear ar;replace hv5:o5=some _:=hv5;subst hv5;replace hv6:o6=some _:=hv6;subst hv6;refine aj (aj (ai rfl (vQ 2 rfl (aa rfl (I1 hl rfl rfl rfl (e:=33) rfl) rfl (vQ 1 rfl (aL rfl (al rfl) (fun _=>rfl) (fun h12=>?_) (fun h12=>?_)))))))
 ·refine vQ 3 rfl (nT (aE rfl (fun h15=>?_) (fun h15=>?_)))
  ·refine aF (ad (aj (aP (aj (ai rfl ?_)))));obtain⟨x99,hx99,hi99⟩:=dG h12;refine vQ 1 rfl (nT (aP ?_));obtain⟨LL2,hst,hLL2⟩:=hst.named;refine bE [5,7,18,19,20,21,22,23,24,25,26,27,28,29,30,31,32,33,34,35,36,37,38,39,40,41,42,43,44,45,46,47,48,49,50,51,52,53,54,55,56] (fun j t σ=>∃(i2:Nat) (m2:Int),j+i2=x99.ins.length∧t.get 5=some (.int .i64 m2)∧t.get 7=some (.int .i64 (.ofNat i2))∧St σ K LL2) (x99.ins.length) ⟨0,m,rfl,rfl,rfl,hst⟩ ?_;clear hst;intro j6 t σ ar hI;obtain⟨i2,m2,hj6,hv5,hv7,hst⟩:=hI;subst hLL2;obtain⟨o5,o7,o18,o19,o20,o21,o22,o23,o24,o25,o26,o27,o28,o29,o30,o31,ar⟩:=ar.Iq rfl rfl rfl rfl;obtain⟨o32,o33,o34,o35,o36,o37,o38,o39,o40,o41,o42,o43,o44,o45,o46,o47,ar⟩:=ar.Iq rfl rfl rfl rfl;replace ar:=ar.dJ rfl rfl;obtain⟨o48,o49,o50,o51,o52,o53,o54,o55,ar⟩:=ar;replace ar:=ar.fI rfl;obtain⟨o56,ar⟩:=ar;obtain rfl:=ar.nil;clear ar;replace hv5:o5=some _:=hv5;subst hv5;replace hv7:o7=some _:=hv7;subst hv7;refine aj (aj (ai rfl (vQ 3 rfl (Jb (e:=33) (m:=2) hl hx99 rfl rfl rfl rfl (fun _=>rfl) (fun p21 vs21 hp21 hl21 hr21=>?_)))));have hr21':=hr21;obtain⟨v21,rfl,hk21⟩:=hr21';refine bK hp21 rfl rfl rfl (k:=1) (by kernel_rfl) (lb rfl) (fun _=>rfl) (fun p22 hp22=>?_);refine aa rfl (IP hst hp22 rfl rfl) rfl (aa rfl (I1 hk21 rfl rfl rfl (e:=79) rfl) rfl (vQ 1 rfl (aL rfl (al rfl) (fun _=>rfl) (fun h26=>?_) (fun h26=>?_))))
   ·refine vQ 4 rfl (nT (aE rfl (fun h30=>?_) (fun h30=>?_)))
    ·refine aF (ad (aj (aP (aj (ai rfl (vQ 2 rfl (Jb (e:=33) (m:=2) hl hx99 rfl rfl rfl rfl (fun _=>rfl) (fun p35 vs35 hp35 hl35 hr35=>?_))))))));have hr35':=hr35;obtain⟨v35,rfl,hk35⟩:=hr35';refine bK hp35 rfl rfl rfl (k:=1) (by kernel_rfl) (lb rfl) (fun _=>rfl) (fun p36 hp36=>?_);refine aa rfl (IP hst hp36 rfl rfl) rfl (vQ 1 rfl ?_);obtain⟨x39,hx39,hi39⟩:=dG h26;refine Jb (e:=79) (m:=6) hk35 hx39 rfl rfl rfl rfl (fun _=>rfl) (fun p39 vs39 hp39 hl39 hr39=>?_);have hr39':=hr39;obtain⟨v39,rfl,hk39⟩:=hr39';refine bK hp39 rfl rfl rfl (k:=0) (by kernel_rfl) (lb rfl) (fun _=>rfl) (fun p40 hp40=>?_);refine aa rfl (IP hst hp40 rfl rfl) rfl (vQ 1 rfl (aL rfl (al rfl) (fun _=>rfl) (fun h43=>?_) (fun h43=>?_)))
     ·refine vQ 2 rfl (Jb (e:=33) (m:=2) hl hx99 rfl rfl rfl rfl (fun _=>rfl) (fun p46 vs46 hp46 hl46 hr46=>?_));have hr46':=hr46;obtain⟨v46,rfl,hk46⟩:=hr46';refine bK hp46 rfl rfl rfl (k:=1) (by kernel_rfl) (lb rfl) (fun _=>rfl) (fun p47 hp47=>?_);refine aa rfl (IP hst hp47 rfl rfl) rfl (vQ 1 rfl (Jb (e:=79) (m:=6) hk46 hx39 rfl rfl rfl rfl (fun _=>rfl) (fun p50 vs50 hp50 hl50 hr50=>?_)));have hr50':=hr50;obtain⟨v50,rfl,hk50⟩:=hr50';refine bK hp50 rfl rfl rfl (k:=0) (by kernel_rfl) (lb rfl) (fun _=>rfl) (fun p51 hp51=>?_);refine aa rfl (IP hst hp51 rfl rfl) rfl (vQ 2 rfl (nT (aE rfl (fun h54=>?_) (fun h54=>?_))))
      ·refine ai rfl (vQ 3 rfl (af (aK (ad (ai rfl (vQ 3 rfl (af (aR ⟨j6-1,by omega,(by(iterate 82 refine bx.put rfl ?_);exact bx.refl _ _),i2+1,_,by have:=cA h26;omega,rfl,congrArg (fun z=>some (AV.int .i64 z)) (bl (by have:=hk21.bH;omega)),hst⟩))))))))
      ·refine aF (aK (ad (ai rfl (vQ 3 rfl (af (aR ⟨j6-1,by omega,(by(iterate 79 refine bx.put rfl ?_);exact bx.refl _ _),i2+1,_,by have:=cA h26;omega,rfl,congrArg (fun z=>some (AV.int .i64 z)) (bl (by have:=hk21.bH;omega)),hst⟩))))))
     ·refine vQ 11 rfl (nT (aJ rfl (aF (aK (ad (ai rfl (vQ 3 rfl (af (aR ⟨j6-1,by omega,(by(iterate 79 refine bx.put rfl ?_);exact bx.refl _ _),i2+1,_,by have:=cA h26;omega,rfl,congrArg (fun z=>some (AV.int .i64 z)) (bl (by have:=hk21.bH;omega)),hst⟩)))))))))
    ·refine bG (a9 (bj (aV (aK (ad (ai rfl (vQ 3 rfl (af (aR ⟨j3-1,by omega,(by(iterate 118 refine bx.put rfl ?_);exact bx.refl _ _),i+1,_,by have:=cA h12;omega,rfl,congrArg (fun z=>some (AV.int .i64 z)) (bl (by have:=hl.bH;omega)),hst⟩)))))))))
   ·refine vQ 4 rfl (nT (aJ rfl (bG (a9 (bj (aV (aK (ad (ai rfl (vQ 3 rfl (af (aR ⟨j3-1,by omega,(by(iterate 118 refine bx.put rfl ?_);exact bx.refl _ _),i+1,_,by have:=cA h12;omega,rfl,congrArg (fun z=>some (AV.int .i64 z)) (bl (by have:=hl.bH;omega)),hst⟩))))))))))))
  ·refine bG (a9 (bj (aV (ad (aj (ai rfl (vQ 4 rfl (nT (aB ?_)))))))));exact ay rfl rfl ⟨_,rfl,hst⟩
 ·refine vQ 3 rfl (nT (aJ rfl (bG (a9 (bj (aV (ad (aj (ai rfl (vQ 4 rfl (af (ad ?_))))))))))));refine aB ?_;exact ay rfl rfl ⟨_,rfl,hst⟩
theorem Ce {G:Cx} (hG:Plain G) {K:KP} {k:Nat} {l:List XC} {lv:AV} (hl:bD K 2 (jl K k) l lv) (q:Int) {σ:av} {L:Own} (hst:St σ K L):
  bc Tryz.prog G 27 [lv,.int .i64 q] σ fun v σ'=>∃b,v= .bool b∧St σ' K L:=by
 refine bg hG Tryz.func27 rfl (t:=(PT.leaf.put (some (lv)) 0).put (some (.int .i64 q)) 1) (by rfl) (aj (ai rfl (vQ 1 rfl (nS rfl (vQ 1 rfl (bf rfl (I5 rfl rfl rfl) (fun _=>rfl) (wo hG hst hl _) (fun σ hst=>?_)))))));refine aL rfl (al rfl) (fun _=>rfl) (fun h7=>?_) (fun h7=>?_)
 ·refine vQ 2 rfl (cI rfl (I5 rfl rfl rfl) (fun _=>rfl) (HJ hG hl _ hst) ?_);rintro _ σ ⟨b10,rfl,hst⟩;refine vQ 2 rfl (nT (aB ?_));exact ay rfl rfl ⟨_,rfl,hst⟩
 ·refine vQ 5 rfl (nT (aB ?_));exact ay rfl rfl ⟨_,rfl,hst⟩
theorem Ds {G:Cx} (hG:Plain G) {K:KP} {m1 m2:List Int} {u1 u2:AV} (hm1:bD K 1 dI m1 u1) (hm2:bD K 1 dI m2 u2) {g1 g2:XG} {a1 b1 c1 d1 a2 b2 c2 d2:AV} (hg1:fe K g1 a1 b1 c1 d1) (hg2:fe K g2 a2 b2 c2 d2) {σ:av} {L:Own} (hst:St σ K L):
  bc Tryz.prog G 22 [.agg [u1,a1,b1,c1,d1],.agg [u2,a2,b2,c2,d2]] σ fun v σ'=>v= .bool (bif cG m1 m2 then cG g1 g2 else false)∧St σ' K L:=by
 refine bg hG Tryz.func22 rfl (t:=(PT.leaf.put (some (.agg [u1,a1,b1,c1,d1])) 0).put (some (.agg [u2,a2,b2,c2,d2])) 1) (by rfl) (aj (ai rfl (bu hst rfl (cY rfl rfl) (fun _=>rfl) (fun σ b1 hst=>?_))));refine bu hst rfl (cY rfl rfl) (fun _=>rfl) (fun σ b2 hst=>?_);refine vQ 1 rfl (nS rfl (aa rfl (Jc 0 rfl) rfl (aa rfl (Ja rfl (hst.get 1 rfl) rfl) rfl (aa rfl (Jc 0 rfl) rfl (aa rfl (Ja rfl (hst.get 0 rfl) rfl) rfl (bf rfl (I5 rfl rfl rfl) (fun _=>rfl) (AR hG hst hm1 hm2) (fun σ hst=>?_)))))));refine aL rfl (al rfl) (fun _=>rfl) (fun h10=>?_) (fun h10=>?_)
 ·refine aa rfl (Jc 1 rfl) rfl (aa rfl (IT rfl (hst.get 1 rfl) (n:=4) (vs:=[_,_,_,_]) rfl) rfl (aa rfl (Jc 1 rfl) rfl (aa rfl (IT rfl (hst.get 0 rfl) (n:=4) (vs:=[_,_,_,_]) rfl) rfl (bf rfl (I5 rfl rfl rfl) (fun _=>rfl) (FC hG hst hg1 hg2) (fun σ hst=>?_)))));refine vQ 2 rfl (nT (aB ?_));exact ay rfl rfl ⟨congrArg AV.bool (by rw[h10];rfl),hst.pop.pop⟩
 ·refine vQ 7 rfl (nT (aB ?_));exact ay rfl rfl ⟨congrArg AV.bool (by rw[h10];rfl),hst.pop.pop⟩
theorem Dl {k:Nat} {l:List XC} {r z:XM} {t:Nat} (ht:t<l.length) (h:eC k l r t=(some z,0)):iN k l r (.ofNat (t+1))=some z:=by
 unfold iN;rw[show cg (.ofNat (t+1)) 1=false from by rw[show(1:Int)= .ofNat 1 from rfl,iL];exact decide_eq_false (by omega),show cg (.ofNat l.length) (.ofNat (t+1))=false from by rw[iL];exact decide_eq_false (by omega)];simp only[cond_false,show(Int.ofNat (t+1)).toNat-1=t from rfl];rw[h];rfl
theorem xj {G:Cx} (hG:Plain G) (hfk:G.fk 70=true) (hov:G.ov 106=true) {K:KP} (hgl:kb G K) {k:Nat} {l:List XC} {lv:AV} (hl:bD K 2 (jl K k) l lv) {r z:XM} (hinv:jK k l r) {mv:AV} (hmv:bD K 1 dI r.mem mv) {a b c d:AV} (hg:fe K r.g a b c d) {p:Int} (hz:iN k l r p=some z) {σ:av} {L:Own} (hst:St σ K L):
  bc Tryz.prog G 20 [lv,.agg [mv,a,b,c,d],.int .i64 p] σ fun v σ'=>∃K1 m' a' b' c' d',v= .tuple [.agg [m',a',b',c',d'],.int .i64 0]∧KP.le K K1∧bD K1 1 dI z.mem m'∧fe K1 z.g a' b' c' d'∧St σ' K1 L:=by
 refine(wZ hG hfk hov hgl hl hinv hmv hg p hst).mono fun v σ' h=>?_
 rcases h with ⟨e,_,_,hn,_⟩ | ⟨K1,r',m',a',b',c',d',rfl,ht,hle,hm,hg',hst'⟩
 ·rw[hz] at hn;cases hn
 ·rw[hz] at ht;cases ht;exact⟨K1,m',a',b',c',d',rfl,hle,hm,hg',hst'⟩
def xR (e f:cK):Prop:=e.kind≠4→f.kind≠4→e.loc=f.loc→e.kind=1∧f.kind=1
theorem xR.one {e f:cK} (h:xR e f) (hw:aZ e=true) (hf:f.kind≠4):e.loc≠f.loc:=fun hl=>by
 have:=(h (fun h4=>by unfold aZ at hw;rw[h4] at hw;cases hw) hf hl).1;unfold aZ at hw;rw[this] at hw;cases hw
theorem xR.two {e f:cK} (h:xR e f) (hw:aZ f=true) (he:e.kind≠4):f.loc≠e.loc:=fun hl=>by
 have:=(h he (fun h4=>by unfold aZ at hw;rw[h4] at hw;cases hw) hl.symm).2;unfold aZ at hw;rw[this] at hw;cases hw
theorem xX {α:Type} {l:List α} {x:α}:(l++[x])[(l++[x]).length-1]?=some x:=by simp
theorem sd {G:Cx} (hG:Plain G) (hfk:G.fk 70=true) (hov:G.ov 106=true) (hliv:G.CZ 18 []=some (.bool true)) {K:KP} (hlaid:∀σ L,St σ K L→iu G.gl σ G.laid=true) (hgl:kb G K) {k:Nat} {init:List Int} {vi:AV} (hi:bD K 1 dI init vi) {l:List XC} {lv:AV} (hl:bD K 2 (jl K k) l lv) {ps:List Int} {pv:AV} (hp:bD K 1 dI ps pv) (s u:Int) {σ:av} {L:Own} (hst:St σ K L):
  bc Tryz.prog G 6 [vi,lv,pv,.int .i64 s,.int .i64 u] σ fun v σ'=>v= .bool true:=by
 refine bg hG Tryz.func6 rfl (t:=((((PT.leaf.put (some (vi)) 0).put (some (lv)) 1).put (some (pv)) 2).put (some (.int .i64 s)) 3).put (some (.int .i64 u)) 4) (by rfl) (aj (ai rfl (vQ 1 rfl (nT (aj (aj (ai rfl (bf rfl (I5 rfl rfl rfl) (fun _=>rfl) (ED (v:=.bool true) (hG.h1 _ _ _) hliv rfl rfl (hlaid _ _ hst) ⟨rfl,hst⟩) (fun σ hst=>?_)))))))));refine aa rfl (dO rfl) rfl (nT (aJ rfl (aF (ad (aj (aj (ai rfl (vQ 1 rfl (cI rfl (I5 rfl rfl rfl) (fun _=>rfl) (Ce hG hl _ hst) ?_)))))))));rintro _ σ ⟨b22_,rfl,hst⟩;refine aa rfl (dO rfl) rfl (aL rfl (al rfl) (fun _=>rfl) (fun h24=>?_) (fun h24=>?_))
 ·refine vQ 9 rfl (nT (aC rfl (aj (ai rfl (vQ 1 rfl (nT (aB (au (?_)))))))));exact ay rfl rfl rfl
 ·refine vQ 1 rfl (aa rfl (I1 hi rfl rfl rfl (e:=2) rfl) rfl (vQ 2 rfl (aL rfl (al rfl) (fun _=>rfl) (fun h29=>?_) (fun h29=>?_))))
  ·refine vQ 4 rfl (nT (aC rfl (aj (ai rfl (vQ 1 rfl (nT (aB (au (?_)))))))));exact ay rfl rfl rfl
  ·refine vQ 1 rfl (aa rfl (I1 hp rfl rfl rfl (e:=3) rfl) rfl (vQ 2 rfl (nT (aE rfl (fun h33=>?_) (fun h33=>?_)))))
   ·refine aj (ai rfl (vQ 1 rfl (nT (aB (au (?_))))));exact ay rfl rfl rfl
   ·refine aF (ad (aj (ai rfl (vQ 3 rfl ?_))));have hp60:ps.length≤100:=by have:=bz (b:=ps.length) (a:=60) h33;omega
    refine cI rfl (I5 rfl rfl rfl) (fun _=>rfl) (Hn hG hfk hov hgl hi hl hp hp60 hst) ?_;rintro _ σ ⟨K1,m1,a1,b1_,c1,d1,n1,rfl,hle1,hok1,hbad1,hst⟩;replace hl:=hl.mono hle1 fun _ _ h=>h.mono hle1
    replace hgl:=hgl.mono hle1;cases hE:bm (xe k init l) 0
    ·obtain⟨rfl,rfl,rfl,rfl,rfl⟩:=hbad1 hE;refine vQ 4 rfl (bu hst rfl (IV (cs:=[.aq,.aq,.aq,.aq,.aq])) (fun _=>rfl) (fun σ b1 hst=>?_));refine bA hst rfl (I8 rfl rfl rfl (hst.get 0 rfl) (m:=5) rfl rfl (cells':=[_,_,_,_,_]) rfl) rfl (fun σ hst=>?_);refine vQ 2 rfl (nT (aj (aj (ai rfl (vQ 2 rfl (aL rfl (al rfl) (fun _=>rfl) (fun h44=>?_) (fun h44=>?_)))))))
     ·refine vQ 4 rfl (nT (aC rfl (aj (ai rfl (vQ 1 rfl (nT (aB (au (?_)))))))));exact ay rfl rfl rfl
     ·exact absurd (aY h44) (by rw[hE];decide)
    ·obtain⟨hex,rfl,hm1,hg1⟩:=hok1 hE;have hin:=((ss hex).E4 (ps:=ps) (s:=(zE init l,[]))).1;revert hin hm1 hg1;generalize (ed k l (zE init l,[]) ps).1=r;intro hm1 hg1 hin;refine vQ 4 rfl (bu hst rfl (IV (cs:=[.aq,.aq,.aq,.aq,.aq])) (fun _=>rfl) (fun σ b1 hst=>?_));refine bA hst rfl (I8 rfl rfl rfl (hst.get 0 rfl) (m:=5) rfl (ae hm1.leaf.2 (ae hg1.init.leaf.2 (ae hg1.threads.leaf.2 (ae hg1.from_.leaf.2 (ae hg1.order.leaf.2 az))))) (cells':=[_,_,_,_,_]) rfl) rfl (fun σ hst=>?_);refine vQ 2 rfl (nT (aj (aj (ai rfl (vQ 2 rfl (aL rfl (al rfl) (fun _=>rfl) (fun h44=>?_) (fun h44=>?_)))))))
     ·exact absurd (bQ h44) (by rw[hE];decide)
     ·refine vQ 4 rfl (nT (aE rfl (fun h48=>?_) (fun h48=>?_)))
      ·refine aj (ai rfl (vQ 1 rfl (nT (aB (au (?_))))));exact ay rfl rfl rfl
      ·refine aF (ad (aj (ai rfl (vQ 1 rfl (aa rfl (IT rfl (hst.get 0 rfl) (n:=5) (vs:=[_,_,_,_,_]) rfl) rfl (vQ 1 rfl (cI rfl (I5 rfl rfl rfl) (fun _=>rfl) (wZ hG hfk hov hgl hl hin hm1 hg1 s hst) ?_)))))));rintro _ σ (⟨e1,rfl,hne1,htry1,hst⟩ | ⟨K3,x,m5,a5,b5_,c5,d5,rfl,htry1,hle5,hm5,hg5,hst⟩)
       ·refine vQ 3 rfl (bu hst rfl (IV (cs:=[.aq,.aq,.aq,.aq,.aq])) (fun _=>rfl) (fun σ b2 hst=>?_));refine bA hst rfl (I8 rfl rfl rfl (hst.get 0 rfl) (m:=5) rfl rfl (cells':=[_,_,_,_,_]) rfl) rfl (fun σ hst=>?_);refine vQ 1 rfl (nS rfl (vQ 1 rfl (aa rfl (IT rfl (hst.get 1 rfl) (n:=5) (vs:=[_,_,_,_,_]) rfl) rfl (vQ 1 rfl (cI rfl (I5 rfl rfl rfl) (fun _=>rfl) (wZ hG hfk hov hgl hl hin hm1 hg1 u hst) ?_)))));rintro _ σ (⟨e2,rfl,hne2,htry2,hst⟩ | ⟨K4,y,m6,a6,b6_,c6,d6,rfl,htry2,hle6,hm6,hg6,hst⟩)
        ·refine vQ 3 rfl (bu hst rfl (IV (cs:=[.aq,.aq,.aq,.aq,.aq])) (fun _=>rfl) (fun σ b3 hst=>?_));refine bA hst rfl (I8 rfl rfl rfl (hst.get 0 rfl) (m:=5) rfl rfl (cells':=[_,_,_,_,_]) rfl) rfl (fun σ hst=>?_);refine vQ 1 rfl (nT (aj (aj (ai rfl (vQ 2 rfl (aL rfl (al rfl) (fun _=>rfl) (fun h65=>?_) (fun h65=>?_)))))))
         ·refine vQ 3 rfl (nT (aC rfl (aj (ai rfl (vQ 1 rfl (nT (aB (au (?_)))))))));exact ay rfl rfl rfl
         ·exact absurd (aY h65) (by rw[hne1];decide)
        ·replace hl:=hl.mono hle6 fun _ _ h=>h.mono hle6
         replace hgl:=hgl.mono hle6;replace hm1:=hm1.mono hle6 fun _ _ h=>h
         replace hg1:=hg1.mono hle6;refine vQ 3 rfl (bu hst rfl (IV (cs:=[.aq,.aq,.aq,.aq,.aq])) (fun _=>rfl) (fun σ b3 hst=>?_));refine bA hst rfl (I8 rfl rfl rfl (hst.get 0 rfl) (m:=5) rfl (ae hm6.leaf.2 (ae hg6.init.leaf.2 (ae hg6.threads.leaf.2 (ae hg6.from_.leaf.2 (ae hg6.order.leaf.2 az))))) (cells':=[_,_,_,_,_]) rfl) rfl (fun σ hst=>?_);refine vQ 1 rfl (nT (aj (aj (ai rfl (vQ 2 rfl (aL rfl (al rfl) (fun _=>rfl) (fun h65=>?_) (fun h65=>?_)))))))
         ·refine vQ 3 rfl (nT (aC rfl (aj (ai rfl (vQ 1 rfl (nT (aB (au (?_)))))))));exact ay rfl rfl rfl
         ·exact absurd (aY h65) (by rw[hne1];decide)
       ·replace hl:=hl.mono hle5 fun _ _ h=>h.mono hle5
        replace hgl:=hgl.mono hle5;replace hm1:=hm1.mono hle5 fun _ _ h=>h
        replace hg1:=hg1.mono hle5;refine vQ 3 rfl (bu hst rfl (IV (cs:=[.aq,.aq,.aq,.aq,.aq])) (fun _=>rfl) (fun σ b2 hst=>?_));refine bA hst rfl (I8 rfl rfl rfl (hst.get 0 rfl) (m:=5) rfl (ae hm5.leaf.2 (ae hg5.init.leaf.2 (ae hg5.threads.leaf.2 (ae hg5.from_.leaf.2 (ae hg5.order.leaf.2 az))))) (cells':=[_,_,_,_,_]) rfl) rfl (fun σ hst=>?_);refine vQ 1 rfl (nS rfl (vQ 1 rfl (aa rfl (IT rfl (hst.get 1 rfl) (n:=5) (vs:=[_,_,_,_,_]) rfl) rfl (vQ 1 rfl (cI rfl (I5 rfl rfl rfl) (fun _=>rfl) (wZ hG hfk hov hgl hl hin hm1 hg1 u hst) ?_)))));rintro _ σ (⟨e2,rfl,hne2,htry2,hst⟩ | ⟨K4,y,m6,a6,b6_,c6,d6,rfl,htry2,hle6,hm6,hg6,hst⟩)
        ·refine vQ 3 rfl (bu hst rfl (IV (cs:=[.aq,.aq,.aq,.aq,.aq])) (fun _=>rfl) (fun σ b3 hst=>?_));refine bA hst rfl (I8 rfl rfl rfl (hst.get 0 rfl) (m:=5) rfl rfl (cells':=[_,_,_,_,_]) rfl) rfl (fun σ hst=>?_);refine vQ 1 rfl (nT (aj (aj (ai rfl (vQ 2 rfl (aL rfl (al rfl) (fun _=>rfl) (fun h65=>?_) (fun h65=>?_)))))))
         ·exact absurd h65 (by decide)
         ·refine vQ 3 rfl (nT (aE rfl (fun h68=>?_) (fun h68=>?_)))
          ·refine aj (ai rfl (vQ 1 rfl (nT (aB (au (?_))))));exact ay rfl rfl rfl
          ·exact absurd (aY h68) (by rw[hne2];decide)
        ·replace hl:=hl.mono hle6 fun _ _ h=>h.mono hle6
         replace hgl:=hgl.mono hle6;replace hm1:=hm1.mono hle6 fun _ _ h=>h
         replace hg1:=hg1.mono hle6;replace hm5:=hm5.mono hle6 fun _ _ h=>h;replace hg5:=hg5.mono hle6
         refine vQ 3 rfl (bu hst rfl (IV (cs:=[.aq,.aq,.aq,.aq,.aq])) (fun _=>rfl) (fun σ b3 hst=>?_));refine bA hst rfl (I8 rfl rfl rfl (hst.get 0 rfl) (m:=5) rfl (ae hm6.leaf.2 (ae hg6.init.leaf.2 (ae hg6.threads.leaf.2 (ae hg6.from_.leaf.2 (ae hg6.order.leaf.2 az))))) (cells':=[_,_,_,_,_]) rfl) rfl (fun σ hst=>?_);refine vQ 1 rfl (nT (aj (aj (ai rfl (vQ 2 rfl (aL rfl (al rfl) (fun _=>rfl) (fun h65=>?_) (fun h65=>?_)))))))
         ·exact absurd h65 (by decide)
         ·refine vQ 3 rfl (nT (aE rfl (fun h68=>?_) (fun h68=>?_)))
          ·exact absurd h68 (by decide)
          ·refine aF (ad (aj (aQ (l:=[(0,[]),(1,[]),(2,[]),(3,[]),(4,[]),(5,[]),(6,[]),(7,[]),(8,[]),(9,[]),(10,[]),(11,[]),(12,[]),(13,[]),(14,[]),(15,[]),(16,[]),(17,[]),(18,[]),(19,[])]) (by kernel_rfl) (by kernel_rfl) ?_)));obtain⟨sm,rfl,hsl,hsx⟩:=qt htry1;obtain⟨um,rfl,hul,huy⟩:=qt htry2;have hinx:=(hin.step hsx).1;have hiny:=(hin.step huy).1;obtain⟨cx,row1,pl,hx⟩:=sb hsx;obtain⟨cy,row2,ql,hy⟩:=sb huy;obtain⟨_,hr1,ht1⟩:=r7 hx.add;obtain⟨_,hr2,ht2⟩:=r7 hy.add;have hxr:x.g.threads[sm]?=some (row1++[pl.fQ]):=by have e:=hx.rowAt;rw[hr1] at e;cases e;rw[ht1,List.getElem?_set_self (List.getElem?_eq_some_iff.1 hr1).1]
           have hyr:y.g.threads[um]?=some (row2++[ql.fQ]):=by have e:=hy.rowAt;rw[hr2] at e;cases e;rw[ht2,List.getElem?_set_self (List.getElem?_eq_some_iff.1 hr2).1]
           have hne:sm≠um:=fun e=>by rw[e,jJ] at h48;cases h48
           have hll:=hl.bH;clear hr1 ht1 hr2 ht2;refine an rfl rfl (Jc 1 rfl) rfl (an rfl rfl (Jc 1 rfl) rfl (an rfl rfl (Ja rfl (hst.get 1 rfl) rfl) rfl (wQ 2 rfl (Jf (e:=57) (m:=1) hg5.threads hxr rfl rfl rfl rfl (congrArg (fun z=>some (AV.int .i64 z)) (eE (by omega))) (fun _=>rfl) (fun p74 vs74 hp74 hl74 hr74=>?_)))));have hr74':=hr74;obtain⟨v74,rfl,hk74⟩:=hr74';refine an rfl rfl (IP hst hp74 rfl rfl) rfl (an rfl rfl (Jc 1 rfl) rfl (an rfl rfl (Jc 1 rfl) rfl (an rfl rfl (Ja rfl (hst.get 1 rfl) rfl) rfl (wQ 2 rfl (Jf (e:=57) (m:=1) hg5.threads hxr rfl rfl rfl rfl (congrArg (fun z=>some (AV.int .i64 z)) (eE (by omega))) (fun _=>rfl) (fun p81 vs81 hp81 hl81 hr81=>?_))))));have hr81':=hr81;obtain⟨v81,rfl,hk81⟩:=hr81';refine an rfl rfl (IP hst hp81 rfl rfl) rfl (an rfl rfl (I1 hk81 rfl rfl rfl (e:=56) rfl) rfl (wQ 1 rfl (Jf (e:=56) (m:=5) hk74 (xX (l:=row1) (x:=pl.fQ)) rfl rfl rfl rfl (congrArg (fun z=>some (AV.int .i64 z)) (kH (b:=1) (by simp) hk74.bH)) (fun _=>rfl) (fun p85 vs85 hp85 hl85 hr85=>?_))));obtain rfl:=hr85;refine an rfl rfl (bZ hst hp85 rfl (by kernel_rfl) rfl) rfl (sL hst rfl rfl (IV (cs:=[.int .i64 0,.int .i64 0,.int .i64 0,.int .i64 0,.int .i64 0])) (fun _=>rfl) (fun σ b4 hst=>?_));refine mm hst rfl rfl (I8 rfl rfl rfl (hst.get 0 rfl) (m:=5) rfl rfl (cells':=[_,_,_,_,_]) rfl) rfl (fun σ hst=>?_);refine⟨ba,?_⟩;refine bh (ad (aj (aQ (l:=[(0,[]),(1,[]),(2,[]),(3,[]),(4,[]),(5,[]),(6,[]),(7,[]),(8,[]),(9,[]),(10,[]),(11,[]),(12,[]),(13,[]),(14,[]),(15,[]),(16,[]),(17,[]),(18,[]),(19,[])]) (by kernel_rfl) (by kernel_rfl) (an rfl rfl (Jc 1 rfl) rfl (an rfl rfl (Jc 1 rfl) rfl (an rfl rfl (Ja rfl (hst.get 1 rfl) rfl) rfl (wQ 2 rfl (Jf (e:=57) (m:=1) hg6.threads hyr rfl rfl rfl rfl (congrArg (fun z=>some (AV.int .i64 z)) (eE (by omega))) (fun _=>rfl) (fun p92 vs92 hp92 hl92 hr92=>?_)))))))));have hr92':=hr92;obtain⟨v92,rfl,hk92⟩:=hr92';refine an rfl rfl (IP hst hp92 rfl rfl) rfl (an rfl rfl (Jc 1 rfl) rfl (an rfl rfl (Jc 1 rfl) rfl (an rfl rfl (Ja rfl (hst.get 1 rfl) rfl) rfl (wQ 2 rfl (Jf (e:=57) (m:=1) hg6.threads hyr rfl rfl rfl rfl (congrArg (fun z=>some (AV.int .i64 z)) (eE (by omega))) (fun _=>rfl) (fun p99 vs99 hp99 hl99 hr99=>?_))))));have hr99':=hr99;obtain⟨v99,rfl,hk99⟩:=hr99';refine an rfl rfl (IP hst hp99 rfl rfl) rfl (an rfl rfl (I1 hk99 rfl rfl rfl (e:=56) rfl) rfl (wQ 1 rfl (Jf (e:=56) (m:=5) hk92 (xX (l:=row2) (x:=ql.fQ)) rfl rfl rfl rfl (congrArg (fun z=>some (AV.int .i64 z)) (kH (b:=1) (by simp) hk92.bH)) (fun _=>rfl) (fun p103 vs103 hp103 hl103 hr103=>?_))));obtain rfl:=hr103;refine an rfl rfl (bZ hst hp103 rfl (by kernel_rfl) rfl) rfl (sL hst rfl rfl (IV (cs:=[.int .i64 0,.int .i64 0,.int .i64 0,.int .i64 0,.int .i64 0])) (fun _=>rfl) (fun σ b5 hst=>?_));refine mm hst rfl rfl (I8 rfl rfl rfl (hst.get 0 rfl) (m:=5) rfl rfl (cells':=[_,_,_,_,_]) rfl) rfl (fun σ hst=>?_);refine⟨ba,?_⟩;refine bh (ad (aj ?_));obtain⟨LC14,hst,hLC14⟩:=hst.named
           refine Fp [105,106,107,108,109,110,111,112,113,114,115,116,117,118,119,120,121,122,123,124,125,126,127,128,129] (fun t σ=>∃(q:Bool),(q=false→xR pl.fQ ql.fQ)∧t.get 129=some (.bool q)∧St σ K4 LC14) ?_ ?_
           ·subst hLC14;refine ai rfl (aa rfl (Jc 0 rfl) rfl (aa rfl (Ja rfl (hst.get 1 rfl) rfl) rfl (vQ 1 rfl (aL rfl (al rfl) (fun _=>rfl) (fun h108=>?_) (fun h108=>?_)))))
            ·refine aa rfl (Jc 0 rfl) rfl (aa rfl (Ja rfl (hst.get 0 rfl) rfl) rfl (vQ 2 rfl (aL rfl (al rfl) (fun _=>rfl) (fun h113=>?_) (fun h113=>?_))))
             ·refine aa rfl (Jc 1 rfl) rfl (aa rfl (Ja rfl (hst.get 1 rfl) rfl) rfl (aa rfl (Jc 1 rfl) rfl (aa rfl (Ja rfl (hst.get 0 rfl) rfl) rfl (vQ 2 rfl (aL rfl (al rfl) (fun _=>rfl) (fun h120=>?_) (fun h120=>?_))))))
              ·refine aa rfl (Jc 0 rfl) rfl (aa rfl (Ja rfl (hst.get 1 rfl) rfl) rfl (vQ 1 rfl (aL rfl (al rfl) (fun _=>rfl) (fun h124=>?_) (fun h124=>?_))))
               ·refine vQ 5 rfl (af ?_);exact⟨rfl,(by(iterate 25 refine bx.put rfl ?_);exact bx.refl _ _),_,(fun h=>by cases h),rfl,hst⟩
               ·refine aa rfl (Jc 0 rfl) rfl (aa rfl (Ja rfl (hst.get 0 rfl) rfl) rfl (vQ 3 rfl (af ?_)));exact⟨rfl,(by(iterate 25 refine bx.put rfl ?_);exact bx.refl _ _),_,(fun hq _ _ _=>⟨zi (aY h124),zi (aY hq)⟩),rfl,hst⟩
              ·refine vQ 9 rfl (af ?_);exact⟨rfl,(by(iterate 25 refine bx.put rfl ?_);exact bx.refl _ _),_,(fun _ _ _ hh=>by rw[hh,jJ] at h120;cases h120),rfl,hst⟩
             ·refine vQ 16 rfl (af ?_);exact⟨rfl,(by(iterate 25 refine bx.put rfl ?_);exact bx.refl _ _),_,(fun _ _ a _=>absurd (zi (aY h113)) a),rfl,hst⟩
            ·refine vQ 21 rfl (af ?_);exact⟨rfl,(by(iterate 25 refine bx.put rfl ?_);exact bx.refl _ _),_,(fun _ a _ _=>absurd (zi (aY h108)) a),rfl,hst⟩
           clear hst;intro t σ ar hI;obtain⟨q14,hq14,hv129,hst⟩:=hI;subst hLC14;obtain⟨o105,o106,o107,o108,o109,o110,o111,o112,o113,o114,o115,o116,o117,o118,o119,o120,ar⟩:=ar.Iq rfl rfl rfl rfl;replace ar:=ar.dJ rfl rfl;obtain⟨o121,o122,o123,o124,o125,o126,o127,o128,ar⟩:=ar;replace ar:=ar.fI rfl;obtain⟨o129,ar⟩:=ar;obtain rfl:=ar.nil;clear ar;replace hv129:o129=some _:=hv129;subst hv129;refine aE rfl (fun h129=>?_) (fun h129=>?_)
           ·refine aj (ai rfl (vQ 1 rfl (nT (aB (au (?_))))));exact ay rfl rfl rfl
           ·have hap:=hq14 h129;obtain⟨z,hz1,hz2⟩:=Ax hx hy hne hap.one hap.two;replace hz1:=Dl hul hz1;replace hz2:=Dl hsl hz2;refine aF (ad (aj (ai rfl (vQ 1 rfl (aa rfl (IT rfl (hst.get 3 rfl) (n:=5) (vs:=[_,_,_,_,_]) rfl) rfl (vQ 1 rfl (cI rfl (I5 rfl rfl rfl) (fun _=>rfl) (xj hG hfk hov hgl hl hinx hm5 hg5 hz1 hst) ?_)))))));rintro _ σ ⟨K7,m7,a7,b7_,c7,d7,rfl,hle7,hm7,hg7,hst⟩;replace hl:=hl.mono hle7 fun _ _ h=>h.mono hle7
            replace hgl:=hgl.mono hle7;replace hm6:=hm6.mono hle7 fun _ _ h=>h;replace hg6:=hg6.mono hle7
            refine vQ 3 rfl (ik hst rfl (I8 rfl rfl rfl (hst.get 3 rfl) (m:=5) rfl (ae hm7.leaf.2 (ae hg7.init.leaf.2 (ae hg7.threads.leaf.2 (ae hg7.from_.leaf.2 (ae hg7.order.leaf.2 az))))) (cells':=[_,_,_,_,_]) rfl) rfl (fun σ hst=>?_));refine vQ 1 rfl (nS rfl (vQ 1 rfl (aa rfl (IT rfl (hst.get 2 rfl) (n:=5) (vs:=[_,_,_,_,_]) rfl) rfl (vQ 1 rfl (cI rfl (I5 rfl rfl rfl) (fun _=>rfl) (xj hG hfk hov hgl hl hiny hm6 hg6 hz2 hst) ?_)))));rintro _ σ ⟨K8,m8,a8,b8_,c8,d8,rfl,hle8,hm8,hg8,hst⟩;replace hl:=hl.mono hle8 fun _ _ h=>h.mono hle8
            replace hgl:=hgl.mono hle8;replace hm7:=hm7.mono hle8 fun _ _ h=>h;replace hg7:=hg7.mono hle8
            refine vQ 3 rfl (qD hst rfl (I8 rfl rfl rfl (hst.get 2 rfl) (m:=5) rfl (ae hm8.leaf.2 (ae hg8.init.leaf.2 (ae hg8.threads.leaf.2 (ae hg8.from_.leaf.2 (ae hg8.order.leaf.2 az))))) (cells':=[_,_,_,_,_]) rfl) rfl (fun σ hst=>?_));refine vQ 1 rfl (nS rfl (vQ 2 rfl (aL rfl (al rfl) (fun _=>rfl) (fun h146=>?_) (fun h146=>?_))))
            ·refine vQ 3 rfl (aL rfl (al rfl) (fun _=>rfl) (fun h150=>?_) (fun h150=>?_))
             ·refine aa rfl (IT rfl (hst.get 3 rfl) (n:=5) (vs:=[_,_,_,_,_]) rfl) rfl (aa rfl (IT rfl (hst.get 2 rfl) (n:=5) (vs:=[_,_,_,_,_]) rfl) rfl (bf rfl (I5 rfl rfl rfl) (fun _=>rfl) (Ds hG hm7 hm8 hg7 hg8 hst) (fun σ hst=>?_)));refine vQ 2 rfl (nT (aB ?_));exact ay rfl rfl (congrArg AV.bool (by rw[cD.2 rfl,cD.2 rfl];rfl))
             ·exact absurd h150 (by decide)
            ·exact absurd h146 (by decide)
section
variable {H:Type} {σ:av}
theorem BH (hn:∀(b:Nat) (o:bJ),σ.m.get b=some o→b<σ.next):∀(fuel:Nat) (d:DataW H) (vs:List AV),Fit Tryz.prog fuel 82 d→dx Tryz.prog σ fuel 82 d vs→gX (tw σ) fuel (BV fuel d) vs
  | 0,_,_,hf,_=>hf.elim
  | 1,d,vs,hf,hd=>by
    obtain⟨_,h⟩:=nG (m:=4) Tryz.underlying82 (by kernel_rfl) (by kernel_rfl) hf hd;exact(h 0 _ rfl).1.elim
  | fuel+2,d,vs,hf,hd=>by
    obtain⟨hl,h⟩:=nG (m:=4) Tryz.underlying82 (by kernel_rfl) (by kernel_rfl) hf hd
    obtain⟨a,b,c,e,rfl⟩:∃a b c e,vs= [a,b,c,e]:=by
      match vs,hl with
      | [a,b,c,e],_=>exact⟨a,b,c,e,rfl⟩
    obtain⟨f0,d0⟩:Fit Tryz.prog _ 3 (dH d 0)∧dx Tryz.prog σ _ 3 (dH d 0) (([a,b,c,e].drop 0).take (Tryz.prog.cellsOf 3)):=h 0 _ rfl;obtain⟨f1,d1⟩:Fit Tryz.prog _ 2 (dH d 1)∧dx Tryz.prog σ _ 2 (dH d 1) (([a,b,c,e].drop 1).take (Tryz.prog.cellsOf 2)):=h 1 _ rfl;obtain⟨f2,d2⟩:Fit Tryz.prog _ 9 (dH d 2)∧dx Tryz.prog σ _ 9 (dH d 2) (([a,b,c,e].drop 2).take (Tryz.prog.cellsOf 9)):=h 2 _ rfl;obtain⟨f3,d3⟩:Fit Tryz.prog _ 77 (dH d 3)∧dx Tryz.prog σ _ 77 (dH d 3) (([a,b,c,e].drop 3).take (Tryz.prog.cellsOf 77)):=h 3 _ rfl;have c3:Tryz.prog.cellsOf 3=1:=by kernel_rfl
    have c2:Tryz.prog.cellsOf 2=1:=by kernel_rfl
    have c9:Tryz.prog.cellsOf 9=1:=by kernel_rfl
    have c100:Tryz.prog.cellsOf 77=1:=by kernel_rfl
    have e0:=(kW Tryz.underlying3 f0 d0).1;have e1:=(kW Tryz.underlying2 f1 d1).1;have e2:=Ha Tryz.underlying9 f2 d2;obtain⟨v,e3,hs⟩:=ll (m:=4) (BV fuel) (gX (tw σ) fuel) Tryz.underlying77 (by kernel_rfl) (by decide) hn f3 d3 fun x vs hf hd=>BH hn fuel x vs hf hd
    rw[c3] at e0;rw[c2] at e1;rw[c9] at e2;rw[c100] at e3;simp only[List.drop_zero,List.take_succ_cons,List.take_zero,List.drop_succ_cons,List.cons.injEq,and_true] at e0 e1 e2 e3;subst e0;subst e1;subst e2;subst e3;show∃w,_= [_,_,_,w]∧bD (tw σ) 4 (gX (tw σ) (fuel+1)) ((gU (dH d 3)).map (BV fuel)) w;exact⟨_,rfl,hs.Gk fun x vs h=>gX.up h⟩
theorem EZ (hn:∀(b:Nat) (o:bJ),σ.m.get b=some o→b<σ.next) (fuel:Nat) (d:DataW H) (vs:List AV) (hf:Fit Tryz.prog (fuel+2) 79 d) (hd:dx Tryz.prog σ (fuel+2) 79 d vs):ga (tw σ) fuel (Hf fuel d) vs:=by
  obtain⟨hl,h⟩:=nG (m:=6) Tryz.underlying79 (by kernel_rfl) (by kernel_rfl) hf hd
  obtain⟨a,b,c,e,g,i,rfl⟩:∃a b c e g i,vs= [a,b,c,e,g,i]:=by
    match vs,hl with
    | [a,b,c,e,g,i],_=>exact⟨a,b,c,e,g,i,rfl⟩
  obtain⟨f0,d0⟩:Fit Tryz.prog _ 3 (dH d 0)∧dx Tryz.prog σ _ 3 (dH d 0) (([a,b,c,e,g,i].drop 0).take (Tryz.prog.cellsOf 3)):=h 0 _ rfl;obtain⟨f1,d1⟩:Fit Tryz.prog _ 3 (dH d 1)∧dx Tryz.prog σ _ 3 (dH d 1) (([a,b,c,e,g,i].drop 1).take (Tryz.prog.cellsOf 3)):=h 1 _ rfl;obtain⟨f2,d2⟩:Fit Tryz.prog _ 3 (dH d 2)∧dx Tryz.prog σ _ 3 (dH d 2) (([a,b,c,e,g,i].drop 2).take (Tryz.prog.cellsOf 3)):=h 2 _ rfl;obtain⟨f3,d3⟩:Fit Tryz.prog _ 3 (dH d 3)∧dx Tryz.prog σ _ 3 (dH d 3) (([a,b,c,e,g,i].drop 3).take (Tryz.prog.cellsOf 3)):=h 3 _ rfl;obtain⟨f4,d4⟩:Fit Tryz.prog _ 3 (dH d 4)∧dx Tryz.prog σ _ 3 (dH d 4) (([a,b,c,e,g,i].drop 4).take (Tryz.prog.cellsOf 3)):=h 4 _ rfl;obtain⟨f5,d5⟩:Fit Tryz.prog _ 77 (dH d 5)∧dx Tryz.prog σ _ 77 (dH d 5) (([a,b,c,e,g,i].drop 5).take (Tryz.prog.cellsOf 77)):=h 5 _ rfl;have c3:Tryz.prog.cellsOf 3=1:=by kernel_rfl
  have c100:Tryz.prog.cellsOf 77=1:=by kernel_rfl
  have e0:=(kW Tryz.underlying3 f0 d0).1;have e1:=(kW Tryz.underlying3 f1 d1).1;have e2:=(kW Tryz.underlying3 f2 d2).1;have e3:=(kW Tryz.underlying3 f3 d3).1;have e4:=(kW Tryz.underlying3 f4 d4).1;obtain⟨v,e5,hs⟩:=ll (m:=4) (BV fuel) (gX (tw σ) fuel) Tryz.underlying77 (by kernel_rfl) (by decide) hn f5 d5 fun x vs hf hd=>BH hn fuel x vs hf hd
  rw[c3] at e0 e1 e2 e3 e4;rw[c100] at e5;simp only[List.drop_zero,List.take_succ_cons,List.take_zero,List.drop_succ_cons,List.cons.injEq,and_true] at e0 e1 e2 e3 e4 e5;subst e0;subst e1;subst e2;subst e3;subst e4;subst e5;exact⟨_,rfl,hs⟩
theorem Fy (hn:∀(b:Nat) (o:bJ),σ.m.get b=some o→b<σ.next) (fuel:Nat) (d:DataW H) (vs:List AV) (hf:Fit Tryz.prog (fuel+4) 33 d) (hd:dx Tryz.prog σ (fuel+4) 33 d vs):jl (tw σ) fuel (Fm fuel d) vs:=by
  obtain⟨hl,h⟩:=nG (m:=2) Tryz.underlying33 (by kernel_rfl) (by kernel_rfl) hf hd
  obtain⟨a,b,rfl⟩:∃a b,vs= [a,b]:=by
    match vs,hl with
    | [a,b],_=>exact⟨a,b,rfl⟩
  obtain⟨f0,d0⟩:Fit Tryz.prog _ 3 (dH d 0)∧dx Tryz.prog σ _ 3 (dH d 0) (([a,b].drop 0).take (Tryz.prog.cellsOf 3)):=h 0 _ rfl;obtain⟨f1,d1⟩:Fit Tryz.prog _ 31 (dH d 1)∧dx Tryz.prog σ _ 31 (dH d 1) (([a,b].drop 1).take (Tryz.prog.cellsOf 31)):=h 1 _ rfl;have c3:Tryz.prog.cellsOf 3=1:=by kernel_rfl
  have c36:Tryz.prog.cellsOf 31=1:=by kernel_rfl
  have e0:=(kW Tryz.underlying3 f0 d0).1;obtain⟨v,e1,hs⟩:=ll (m:=6) (Hf fuel) (ga (tw σ) fuel) Tryz.underlying31 (by kernel_rfl) (by decide) hn f1 d1 fun x vs hf hd=>EZ hn fuel x vs hf hd
  rw[c3] at e0;rw[c36] at e1;simp only[List.drop_zero,List.take_succ_cons,List.take_zero,List.drop_succ_cons,List.cons.injEq,and_true] at e0 e1;subst e0;subst e1;exact⟨_,rfl,hs⟩
theorem Dv (hn:∀(b:Nat) (o:bJ),σ.m.get b=some o→b<σ.next) (fuel:Nat) (d:DataW H) (vs:List AV) (hf:Fit Tryz.prog (fuel+5) 27 d) (hd:dx Tryz.prog σ (fuel+5) 27 d vs):∃v,vs= [v]∧bD (tw σ) 2 (jl (tw σ) fuel) ((gU d).map (Fm fuel)) v:=
  ll (m:=2) (Fm fuel) (jl (tw σ) fuel) Tryz.underlying27 (by kernel_rfl) (by decide) hn hf hd fun x vs hf hd=>Fy hn fuel x vs hf hd
end
section
variable {H:Type} {enc:TypeId×Value→H} {w:World}
theorem trod_int {fuel:Nat} {t:TypeId} {cs:List Value} {x:DataW H×List MemPlace} (hu:Tryz.prog.underlying t=some (.int .i64)) (h:DataW.trod enc Tryz.prog w 0 (fun _=>true) true fuel t cs=some x):∃n,cs= [.int .i64 n]:=by
  cases fuel with
  | zero=>simp[DataW.trod] at h
  | succ fuel=>
    unfold DataW.trod at h;rw[hu] at h;dsimp only at h;split at h<;>first | (rename_i he;cases he;done) | skip
    all_goals first
      | (rename_i k1 k2 n he
         cases he;split at h
         · rename_i hk
           obtain⟨hk1,_⟩:=hk;subst hk1;exact⟨n,rfl⟩
         · cases h)
      | cases h
def HT (w:World) (v:Value):Prop:=v= .slice none 0 0∨∃(a:Addr) (len cap:Nat) (c:Array Value) (e:TypeId) (fr:Nat×Nat),v= .slice (some a) len cap∧w.heap[a.block]?=some (.cells c e fr)
theorem Dg {base:Nat} {t e:TypeId} {v:Value} (hu:Tryz.prog.underlying t=some (.slice e)) (hok:Cell.okWide Tryz.prog w .any base t v):HT w v:=by
  unfold Cell.okWide at hok;rw[hu] at hok;dsimp only at hok;unfold Cell.ok at hok;rw[hu] at hok;cases v with
  | slice a len cap=>
    cases a with
    | none=>
      try dsimp only at hok
      split at hok<;>first | (rename_i he;cases he;done) | skip
      all_goals first
        | (rename_i he;cases he;exact .inl rfl)
        | (rename_i h1 h2;cases h2;done)
        | exact hok.elim
    | some a=>
      obtain⟨_,_,_,hsp,row,cells,hsh,_⟩:=hok;unfold World.shape? at hsh;split at hsh
      · rename_i c e fr hh
        exact .inr ⟨a,len,cap,c,e,fr,rfl,hh⟩
      · cases hsh
  | _=>exact hok.elim
theorem trodAll_cons {P:Program} {ts:List TypeId} {t:TypeId} {vs:List Value} {ds:List (DataW H)} {ps:List MemPlace} {sp:Nat→Bool} (h:DataW.TrodAll enc P w 0 sp true (t::ts) vs ds ps):
    ∃v vs' d ds',vs=v::vs'∧ds=d::ds'∧(∃n p,DataW.trod enc P w 0 sp true n t v.cells.toList=some (d,p))∧∃q,DataW.TrodAll enc P w 0 sp true ts vs' ds' q:=by
  match vs,ds,h with
  | v::vs',d::ds',⟨p,q,⟨n,h1⟩,h2,_⟩=>exact⟨v,vs',d,ds',rfl,rfl,⟨n,p,h1⟩,q,h2⟩
theorem trodAll_nil {P:Program} {vs:List Value} {ds:List (DataW H)} {ps:List MemPlace} {sp:Nat→Bool} (h:DataW.TrodAll enc P w 0 sp true [] vs ds ps):vs= []∧ds= []:=by
  match vs,ds,h with
  | [],[],_=>exact⟨rfl,rfl⟩
end
end Go.Ev
