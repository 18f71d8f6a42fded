/- Part of the proof: an evaluator of the model's code, rules for walks on it, walks. Without conditions. -/
import Derived.Test.YtpomgjnfncgkgaaGreatDoorEb
import Derived.KernelRfl
import Derived.Test.YtpomgjnfncgkgaaGreatDoorProg
set_option linter.unusedSectionVars false
set_option linter.unusedVariables false
set_option linter.unusedSimpArgs false
namespace Go.Ev
variable [Env]
abbrev KP:=Nat→bJ→Prop
def KP.le (K K':KP):Prop:=∀b o,K b o→K' b o
theorem KP.le_refl (K:KP):KP.le K K:=fun _ _ h=>h
theorem KP.le_trans {K K' K'':KP} (h:KP.le K K') (h':KP.le K' K''):KP.le K K'':=fun b o hb=>h' b o (h b o hb)
def KP.add (K:KP) (b:Nat) (o:bJ):KP:=fun b' o'=>K b' o'∨(b'=b∧o'=o)
theorem KP.ua (K:KP) (b:Nat) (o:bJ):KP.le K (K.add b o):=fun _ _ h=>.inl h
abbrev Own:=List (Nat×bJ)
structure St (σ:av) (K:KP) (L:Own):Prop where
 kept:∀b o,K b o→b<σ.next∧σ.m.get b=some o∧∀e∈L,e.1≠b
 own:∀e∈L,e.1<σ.next∧σ.m.get e.1=some e.2
 ne:L.Pairwise fun a b=>a.1≠b.1
section
variable {σ:av} {K:KP} {L:Own}
theorem St.dX (h:St σ K L) {b:Nat} {o:bJ} (hk:K b o):σ.m.get b=some o:=(h.kept b o hk).2.1
theorem St.get (h:St σ K L) (k:Nat) {b:Nat} {o:bJ} (hk:L[k]?=some (b,o)):σ.m.get b=some o:=(h.own _ (List.mem_of_getElem? hk)).2
theorem St.alloc (h:St σ K L) (o:bJ):St (σ.alloc o) K ((σ.next,o)::L) where
 kept b o' hb:=by
  obtain⟨h1,h2,h3⟩:=h.kept b o' hb;refine⟨Nat.lt_succ_of_lt h1,by rw[k9 σ o h1];exact h2,fun e he=>?_⟩;rcases List.mem_cons.1 he with rfl | he
  ·exact fun e=>by rw[←e] at h1;exact Nat.lt_irrefl _ h1
  ·exact h3 e he
 own e he:=by
  rcases List.mem_cons.1 he with rfl | he
  ·exact⟨Nat.lt_succ_self _,uy _ _⟩
  ·obtain⟨h1,h2⟩:=h.own e he;exact⟨Nat.lt_succ_of_lt h1,by rw[k9 σ o h1];exact h2⟩
 ne:=List.pairwise_cons.2 ⟨fun e he=>fun hh=>by have:=(h.own e he).1;rw[←hh] at this;exact Nat.lt_irrefl _ this,h.ne⟩
theorem St.pop {e:Nat×bJ} (h:St σ K (e::L)):St σ K L where
 kept b o hb:=let ⟨h1,h2,h3⟩:=h.kept b o hb;⟨h1,h2,fun e he=>h3 e (List.mem_cons_of_mem _ he)⟩
 own e he:=h.own e (List.mem_cons_of_mem _ he)
 ne:=(List.pairwise_cons.1 h.ne).2
theorem St.bq:∀{M:Own},St σ K (M++L)→St σ K L
 | [],h=>h
 | _::_,h=>St.bq h.pop
theorem St.perm {L':Own} (h:St σ K L) (hp:L.Perm L'):St σ K L' where
 kept b o hb:=let ⟨h1,h2,h3⟩:=h.kept b o hb;⟨h1,h2,fun e he=>h3 e (hp.mem_iff.2 he)⟩
 own e he:=h.own e (hp.mem_iff.2 he)
 ne:=(hp.pairwise_iff (fun {a b} hab=>fun e=>hab e.symm)).1 h.ne
theorem St.EY {b:Nat} {o:bJ} (h:St σ K ((b,o)::L)):St σ (K.add b o) L where
 kept b' o' hb:=by
  rcases hb with hb | ⟨rfl,rfl⟩
  ·exact h.pop.kept b' o' hb
  ·exact⟨(h.own _ (List.mem_cons_self ..)).1,(h.own _ (List.mem_cons_self ..)).2,fun e he hh=>(List.pairwise_cons.1 h.ne).1 e he hh.symm⟩
 own:=h.pop.own
 ne:=h.pop.ne
theorem St.mn {b:Nat} {o:bJ} (h:St σ K ((b,o)::L)) (o':bJ):St (σ.setObj b o') K ((b,o')::L) where
 kept b' o'' hb:=by
  obtain⟨h1,h2,h3⟩:=h.kept b' o'' hb;refine⟨h1,by rw[kK σ o' (fun e=>h3 _ (List.mem_cons_self ..) e.symm)];exact h2,fun e he=>?_⟩;rcases List.mem_cons.1 he with rfl | he
  ·exact h3 (b,o) (List.mem_cons_self ..)
  ·exact h3 e (List.mem_cons_of_mem _ he)
 own e he:=by
  rcases List.mem_cons.1 he with rfl | he
  ·exact⟨(h.own _ (List.mem_cons_self ..)).1,xa _ _ _⟩
  ·obtain⟨h1,h2⟩:=h.own e (List.mem_cons_of_mem _ he);exact⟨h1,by rw[kK σ o' (fun hh=>(List.pairwise_cons.1 h.ne).1 e he hh.symm)];exact h2⟩
 ne:=List.pairwise_cons.2 ⟨(List.pairwise_cons.1 h.ne).1,(List.pairwise_cons.1 h.ne).2⟩
theorem St.Fe {b:Nat} {o:bJ} {x:Nat×bJ} (h:St σ K (x::(b,o)::L)) (o':bJ):St (σ.setObj b o') K (x::(b,o')::L):=
 ((h.perm (List.Perm.swap ..)).mn o').perm (List.Perm.swap ..)
theorem Ee {α:Type} (x y z:α) (L:List α):(x::y::z::L).Perm (z::x::y::L):=
 (List.Perm.cons x (List.Perm.swap z y L)).trans (List.Perm.swap z x (y::L))
theorem St.Im {b:Nat} {o:bJ} {x y:Nat×bJ} (h:St σ K (x::y::(b,o)::L)) (o':bJ):St (σ.setObj b o') K (x::y::(b,o')::L):=
 ((h.perm (Ee ..)).mn o').perm (Ee ..).symm
theorem Gg {α:Type} (x y z u:α) (L:List α):(x::y::z::u::L).Perm (u::x::y::z::L):=
 (List.Perm.cons x (Ee y z u L)).trans (List.Perm.swap u x (y::z::L))
theorem St.Ix {b:Nat} {o:bJ} {x y z:Nat×bJ} (h:St σ K (x::y::z::(b,o)::L)) (o':bJ):St (σ.setObj b o') K (x::y::z::(b,o')::L):=
 ((h.perm (Gg ..)).mn o').perm (Gg ..).symm
theorem St.ta {b:Nat} {o:bJ} (h:St σ K ((b,o)::L)) (o':bJ):St ((σ.drop b).alloc o') K ((σ.next,o')::L):=by
 refine St.alloc (σ:=σ.drop b) ⟨fun b' o'' hb=>?_,fun e he=>?_,h.pop.ne⟩ o'
 ·obtain⟨h1,h2,h3⟩:=h.kept b' o'' hb;exact⟨h1,by rw[show(σ.drop b).m.get b'=σ.m.get b' from PT.cF _ _ _ _ (fun e=>h3 _ (List.mem_cons_self ..) e.symm)];exact h2,fun e he=>h3 e (List.mem_cons_of_mem _ he)⟩
 ·obtain⟨h1,h2⟩:=h.own e (List.mem_cons_of_mem _ he);exact⟨h1,by rw[show(σ.drop b).m.get e.1=σ.m.get e.1 from PT.cF _ _ _ _ (fun hh=>(List.pairwise_cons.1 h.ne).1 e he hh.symm)];exact h2⟩
theorem St.named (h:St σ K L):∃L',St σ K L'∧L=L':=⟨L,h,rfl⟩
theorem St.ext {σ':av} (h:St σ K L) (he:Ext σ σ'):St σ' K L where
 kept b o hb:=let ⟨h1,h2,h3⟩:=h.kept b o hb;⟨Nat.lt_of_lt_of_le h1 he.1,he.2 b o h1 h2,h3⟩
 own e hm:=let ⟨h1,h2⟩:=h.own e hm;⟨Nat.lt_of_lt_of_le h1 he.1,he.2 _ _ h1 h2⟩
 ne:=h.ne
end
def fC (K:KP) (p:AV) (vs:List AV):Prop:=
 ∃(b off:Nat) (cells:List AV) (e:Nat) (ro:Bool),p= .ptr b off∧K b (.row cells e ro)∧off+vs.length≤cells.length∧(cells.drop off).take vs.length=vs
theorem fC.mono {K K':KP} (hk:KP.le K K') {p:AV} {vs:List AV} (h:fC K p vs):fC K' p vs:=
 let ⟨b,off,cells,e,ro,h1,h2,h3,h4⟩:=h;⟨b,off,cells,e,ro,h1,hk _ _ h2,h3,h4⟩
def Gl (m len:Nat) (c:n8):Prop:=c= .upto m∨∃n,c= .known n∧len≤n
def bD {α:Type} (K:KP) (m:Nat) (R:α→List AV→Prop) (l:List α) (v:AV):Prop:=
 (l= []∧v= .aq)∨∃(b off:Nat) (c:n8) (cells:List AV) (e:Nat) (ro:Bool),v= .slice b off l.length c∧Gl m l.length c∧K b (.row cells e ro)∧off+l.length*m≤cells.length∧l.length≤9223372036854775807∧
  ∀(i:Nat) (x:α),l[i]?=some x→R x ((cells.drop (off+i*m)).take m)
theorem bD.mono {α:Type} {K K':KP} {m:Nat} {R R':α→List AV→Prop} {l:List α} {v:AV} (h:bD K m R l v) (hk:KP.le K K') (hR:∀x vs,R x vs→R' x vs):bD K' m R' l v:=by
 rcases h with h | ⟨b,off,c,cells,e,ro,h1,h2,h3,h4,h5⟩
 ·exact .inl h
 ·exact .inr ⟨b,off,c,cells,e,ro,h1,h2,hk _ _ h3,h4,h5.1,fun i x hx=>hR x _ (h5.2 i x hx)⟩
theorem bD.bH {α:Type} {K:KP} {m:Nat} {R:α→List AV→Prop} {l:List α} {v:AV} (h:bD K m R l v):l.length≤9223372036854775807:=by
 rcases h with ⟨rfl,_⟩ | ⟨b,off,c,cells,e,ro,h1,h2,h3,h4,h5,_⟩
 ·exact Nat.zero_le _
 ·exact h5
theorem bD.leaf {α:Type} {K:KP} {m:Nat} {R:α→List AV→Prop} {l:List α} {v:AV} (h:bD K m R l v):cm v=some [v]∧jd v=true:=by
 rcases h with ⟨_,rfl⟩ | ⟨b,off,c,cells,e,ro,rfl,_⟩<;>exact⟨rfl,rfl⟩
theorem bD.sK {α:Type} {K:KP} {m:Nat} {R:α→List AV→Prop} {l:List α} {v:AV} (h:bD K m R l v) {P:Program} {t e:TypeId} (hu:P.underlying t=some (.slice e)):Go.Ev.sK P t v=some l.length:=by
 rcases h with ⟨rfl,rfl⟩ | ⟨b,off,c,cells,e,ro,rfl,_⟩
 ·simp only[Go.Ev.sK,hu];rfl
 ·simp only[Go.Ev.sK,hu]
theorem bD.at {α:Type} {K:KP} {m:Nat} {R:α→List AV→Prop} {l:List α} {v:AV} (h:bD K m R l v) {i:Nat} {x:α} (hi:l[i]?=some x):
  ∃(b off:Nat) (c:n8) (vs:List AV),v= .slice b off l.length c∧i<l.length∧fC K (.ptr b (off+i*m)) vs∧vs.length=m∧R x vs:=by
 have hlt:i<l.length:=(List.getElem?_eq_some_iff.1 hi).1;rcases h with ⟨rfl,_⟩ | ⟨b,off,c,cells,e,ro,rfl,h2,h3,h4,h5⟩
 ·exact absurd hlt (Nat.not_lt_zero _)
 ·have hle:(i+1)*m≤l.length*m:=Nat.mul_le_mul_right _ hlt;rw[Nat.succ_mul] at hle;have hn:((cells.drop (off+i*m)).take m).length=m:=by rw[List.length_take,List.length_drop];omega
  refine⟨b,off,c,_,rfl,hlt,⟨b,off+i*m,cells,e,ro,rfl,h3,by rw[hn];omega,by rw[hn]⟩,hn,h5.2 i x hi⟩
section
variable {P:Program} {G:Cx} {ev:Operand→Option AV} {σ:av} {K:KP} {L:Own}
theorem aT {α:Type} {m:Nat} {R:α→List AV→Prop} {l:List α} {c:Call} {t e:TypeId} {x:Operand} {v:AV} (hs:bD K m R l v) (hc:c.callee= .builtin .len) (ht:c.argTypes[0]?=some t) (ha:c.args.toList= [x]) (hu:P.underlying t=some (.slice e)) (hx:ev x=some v):dg P G ev σ (.call c)= .val (.int .i64 (.ofNat l.length)) σ:=by
 refine aU (by simp[kindOf,hc,isMap,ht,hu]) ?_;simp only[cu,hc,ht,ha,hx,hs.sK hu,Option.map_some]
theorem jR {c:Call} {t:TypeId} {x:Operand} {s:List Nat} (hc:c.callee= .builtin .len) (ht:c.argTypes[0]?=some t) (ha:c.args.toList= [x]) (hu:P.underlying t=some .string) (hx:ev x=some (.str s)):dg P G ev σ (.call c)= .val (.int .i64 (.ofNat (cr s))) σ:=by
 refine aU (by simp[kindOf,hc,isMap,ht,hu]) ?_;simp only[cu,hc,ht,ha,hx,sK,hu,Option.map_some]
theorem aS {t:TypeId} {x:Operand} {p v:AV} {vs:List AV} (hs:St σ K L) (hp:fC K p vs) (hx:ev x=some p) (ha:dc P t=some none) (hv:vs[0]?=some v):dg P G ev σ (.load t x)= .val v σ:=by
 obtain⟨b,off,cells,e,ro,rfl,h2,h3,h4⟩:=hp;refine ax hx (hs.dX h2) ha ?_;rw[dU];rw[←h4,List.getElem?_take] at hv;split at hv
 ·simpa using hv
 ·cases hv
theorem D3 {t:TypeId} {x:Operand} {p:AV} {vs:List AV} {n:Nat} (hs:St σ K L) (hp:fC K p vs) (hx:ev x=some p) (ha:dc P t=some (some n)) (hv:n≤vs.length):dg P G ev σ (.load t x)= .val (.agg (vs.take n)) σ:=by
 obtain⟨b,off,cells,e,ro,rfl,h2,h3,h4⟩:=hp;refine aO hx (hs.dX h2) ha (by omega) ?_;rw[←h4,List.take_take,Nat.min_eq_left hv]
end
section
variable {P:Program} {G:Cx} {n:Nat} {t:PT AV} {σ:av} {K:KP} {L:Own} {Q:Ex→PT AV→av→Prop} {ops:Array Oper} {o:Oper} {l:List Oper}
theorem aL {c:Bool} {t':Bool→PT AV} (hw:bp ops t o=some true) (hv:dg P G (aX G t) σ o.op= .val (.bool c) σ) (hp:∀b,cP t n o.dst (.bool b)=some (t' b))
  (h1:c=true→cq P G ops n l (t' true) σ Q) (h0:c=false→cq P G ops n l (t' false) σ Q):cq P G ops n (o::l) t σ Q:=by
 refine aa hw hv (hp c) ?_;cases c with
 | true=>exact h1 rfl
 | false=>exact h0 rfl
theorem bu (hs:St σ K L) {ob:bJ} {t':Nat→PT AV} (hw:bp ops t o=some true) (hv:dg P G (aX G t) σ o.op= .val (.ptr σ.next 0) (σ.alloc ob)) (hp:∀b,cP t n o.dst (.ptr b 0)=some (t' b))
  (h:∀(σ':av) (b:Nat),St σ' K ((b,ob)::L)→cq P G ops n l (t' b) σ' Q):cq P G ops n (o::l) t σ Q:=
 aa hw hv (hp _) (h _ _ (hs.alloc ob))
theorem lP (hs:St σ K L) {ob:bJ} {k c:Nat} {t':Nat→PT AV} (hw:bp ops t o=some true) (hv:dg P G (aX G t) σ o.op= .val (.slice σ.next 0 k (.known c)) (σ.alloc ob)) (hp:∀b,cP t n o.dst (.slice b 0 k (.known c))=some (t' b))
  (h:∀(σ':av) (b:Nat),St σ' K ((b,ob)::L)→cq P G ops n l (t' b) σ' Q):cq P G ops n (o::l) t σ Q:=
 aa hw hv (hp _) (h _ _ (hs.alloc ob))
theorem bA {b:Nat} {ob ob':bJ} {t':PT AV} (hs:St σ K ((b,ob)::L)) (hw:bp ops t o=some true) (hv:dg P G (aX G t) σ o.op= .skip (σ.setObj b ob')) (hp:cP t n o.dst unit=some t')
  (h:∀σ',St σ' K ((b,ob')::L)→cq P G ops n l t' σ' Q):cq P G ops n (o::l) t σ Q:=fD hw hv hp (h _ (hs.mn ob'))
theorem ep {b:Nat} {ob ob':bJ} {x:Nat×bJ} {t':PT AV} (hs:St σ K (x::(b,ob)::L)) (hw:bp ops t o=some true) (hv:dg P G (aX G t) σ o.op= .skip (σ.setObj b ob')) (hp:cP t n o.dst unit=some t')
  (h:∀σ',St σ' K (x::(b,ob')::L)→cq P G ops n l t' σ' Q):cq P G ops n (o::l) t σ Q:=fD hw hv hp (h _ (hs.Fe ob'))
theorem qD {b:Nat} {ob ob':bJ} {x y:Nat×bJ} {t':PT AV} (hs:St σ K (x::y::(b,ob)::L)) (hw:bp ops t o=some true) (hv:dg P G (aX G t) σ o.op= .skip (σ.setObj b ob')) (hp:cP t n o.dst unit=some t')
  (h:∀σ',St σ' K (x::y::(b,ob')::L)→cq P G ops n l t' σ' Q):cq P G ops n (o::l) t σ Q:=fD hw hv hp (h _ (hs.Im ob'))
theorem ik {b:Nat} {ob ob':bJ} {x y z:Nat×bJ} {t':PT AV} (hs:St σ K (x::y::z::(b,ob)::L)) (hw:bp ops t o=some true) (hv:dg P G (aX G t) σ o.op= .skip (σ.setObj b ob')) (hp:cP t n o.dst unit=some t')
  (h:∀σ',St σ' K (x::y::z::(b,ob')::L)→cq P G ops n l t' σ' Q):cq P G ops n (o::l) t σ Q:=fD hw hv hp (h _ (hs.Ix ob'))
theorem cJ {α:Type} {m:Nat} {R:α→List AV→Prop} {la:List α} {v:AV} {i:Nat} {x:α} {ty e:TypeId} {xo io:Operand} {k:IntKind} {t':AV→PT AV} (hs:bD K m R la v) (hi:la[i]?=some x) (hw:bp ops t o=some true) (ho:o.op= .indexAddr ty xo io)
  (ht:P.underlying ty=some (.slice e)) (hj:(P.info? e).map (·.size)=some m) (hx:aX G t xo=some v) (hio:aX G t io=some (.int k (.ofNat i))) (hp:∀p,cP t n o.dst p=some (t' p))
  (h:∀p vs,fC K p vs→vs.length=m→R x vs→cq P G ops n l (t' p) σ Q):cq P G ops n (o::l) t σ Q:=by
 obtain⟨b,off,c,vs,rfl,hlt,h1,h2,h3⟩:=hs.at hi;refine aa hw ?_ (hp _) (h _ vs h1 h2 h3);rw[ho];exact eA ht hj hx hio hlt
theorem bK {p:AV} {vs:List AV} {s:TypeId} {xo:Operand} {i k:Nat} {t':AV→PT AV} (hpt:fC K p vs) (hw:bp ops t o=some true) (ho:o.op= .fieldAddr s xo i) (hx:aX G t xo=some p) (hk:m4 P s i=some k) (hl:k≤vs.length) (hp:∀p,cP t n o.dst p=some (t' p))
  (h:∀p',fC K p' (vs.drop k)→cq P G ops n l (t' p') σ Q):cq P G ops n (o::l) t σ Q:=by
 obtain⟨b,off,cells,e,ro,rfl,h2,h3,h4⟩:=hpt;refine aa hw ?_ (hp _) (h _ ⟨b,off+k,cells,e,ro,rfl,h2,by rw[List.length_drop];omega,?_⟩)
 ·rw[ho];exact aw hx hk
 ·rw[List.length_drop]
  conv=>rhs;rw[←h4]
  rw[List.drop_take,List.drop_drop]
theorem cI {f:Nat} {args:List AV} {t':AV→PT AV} {R:AV→av→Prop} (hw:bp ops t o=some true) (hv:dg P G (aX G t) σ o.op= .enter f args σ) (hp:∀v,cP t n o.dst v=some (t' v))
  (hc:bc P G f args σ R) (h:∀v σ',R v σ'→cq P G ops n l (t' v) σ' Q):cq P G ops n (o::l) t σ Q:=
 Aw hw hv (hc.mono fun v σ' hr=>⟨_,hp v,h v σ' hr⟩)
theorem aE {x:Operand} {a b:Code} {c:Bool} (hc:aX G t x=some (.bool c)) (h1:c=true→Ev P G a n t σ Q) (h0:c=false→Ev P G b n t σ Q):Ev P G (.cond x a b) n t σ Q:=by
 refine wM hc ?_;cases c with
 | true=>exact h1 rfl
 | false=>exact h0 rfl
end
theorem az:bT []=true:=rfl
theorem ae {v:AV} {vs:List AV} (h:jd v=true) (hs:bT vs=true):bT (v::vs)=true:=by
 show(bif jd v then bT vs else false)=true;rw[h,hs];rfl
section
variable {P:Program} {G:Cx} {ev:Operand→Option AV} {σ:av} {K:KP} {L:Own}
theorem aH {t:TypeId} {m:Nat} {x y:Operand} {b:Pos} {off:Nat} {v:AV} {cs cells cells':List AV} {e:Nat} (hx:ev x=some (.ptr b off)) (hy:ev y=some v) (hc:cm v=some cs) (hb:σ.m.get b=some (.row cells e false)) (hj:(P.info? t).map (·.size)=some m) (hl:cs.length=m) (hle:off+m≤cells.length) (hleaf:bT cs=true) (hs:cO cs cells off=cells'):
  dg P G ev σ (.store t x y)= .skip (σ.setObj b (.row cells' e false)):=by
 subst hs;exact iP hx hy hc hb hj hl hle hleaf
theorem bZ {t:TypeId} {x:Operand} {p:AV} {vs:List AV} {n:Nat} (hs:St σ K L) (hp:fC K p vs) (hx:ev x=some p) (ha:dc P t=some (some n)) (hv:vs.length=n):dg P G ev σ (.load t x)= .val (.agg vs) σ:=by
 have:=D3 (G:=G) hs hp hx ha (Nat.le_of_eq hv.symm);rwa[←hv,List.take_length] at this
noncomputable def placesOf (P:Program) (t:TypeId):Option (List (Nat×Nat)):=(structOf P t).bind fun fs=>bO (fun f:Field=>(P.info? f.type).map fun j=>(f.offset,j.size)) fs.toList
theorem da {place:Nat→Option (Nat×Nat)} {cells:List AV}:iV place ev [] cells=some cells:=rfl
theorem bP {place:Nat→Option (Nat×Nat)} {i:Nat} {x:Operand} {l:List (Nat×Operand)} {cells:List AV} {off size:Nat} {v:AV} {vs:List AV} {r:Option (List AV)} (hp:place i=some (off,size)) (hx:ev x=some v) (hc:cm v=some vs) (hl:(Nat.beq (cr vs) size && Nat.ble (off+size) (cr cells))=true) (h:iV place ev l (cO vs cells off)=r):iV place ev ((i,x)::l) cells=r:=by
 have hb:(ev x).bind cm=some vs:=by rw[hx];exact hc
 show(match place i,(ev x).bind cm with
   | some (off,size),some vs=>bif Nat.beq (cr vs) size && Nat.ble (off+size) (cr cells) then iV place ev l (cO vs cells off) else none
   | _,_=>none)=_
 rw[hp,hb];dsimp only;rw[hl];exact h
theorem bB {t:TypeId} {parts:Array (Nat×Operand)} {places:List (Nat×Nat)} {zero cs:List AV} (hp:placesOf P t=some places) (hz:(ej P t).bind cm=some zero) (hu:dc P t=some (some zero.length)) (hf:iV (nth places) ev parts.toList zero=some cs) (hs:(structOf P t).isSome=true):dg P G ev σ (.build t parts)= .val (.agg cs) σ:=by
 refine aU rfl ?_;unfold placesOf structOf at hp;unfold structOf at hs;rw[lJ] at hp hs;simp only[cu,hz];split at hs
 ·rename_i fs hu;rw[hu] at hp⊢;simp only[Option.bind_some] at hp;simp only[hp,hf,Option.map_some]
 ·cases hs
theorem fO {s d:TypeId} {x:Operand} {j k:IntKind} {n:Int} (hk:kindOf P (.convert s d x)= .pure) (hs:P.underlying s=some (.int j)) (hd:P.underlying d=some (.int k)) (hx:ev x=some (.int j n)):dg P G ev σ (.convert s d x)= .val (.int k (wr k n)) σ:=by
 refine aU hk ?_;simp only[cu,hs,hd,hx]
end
section
variable {P:Program} {G:Cx} {n:Nat} {t:PT AV} {σ:av} {K:KP} {L:Own} {Q:Ex→PT AV→av→Prop} {ops:Array Oper} {o:Oper} {l:List Oper}
theorem bf {f:Nat} {args:List AV} {u:AV} {t':AV→PT AV} (hw:bp ops t o=some true) (hv:dg P G (aX G t) σ o.op= .enter f args σ) (hp:∀v,cP t n o.dst v=some (t' v))
  (hc:bc P G f args σ fun v σ'=>v=u∧St σ' K L) (h:∀σ',St σ' K L→cq P G ops n l (t' u) σ' Q):cq P G ops n (o::l) t σ Q:=
 cI hw hv hp hc fun v σ' ⟨hv,hst⟩=>by subst hv;exact h σ' hst
theorem aC {x:Operand} {a b:Code} (hc:aX G t x=some (.bool true)) (h:Ev P G a n t σ Q):Ev P G (.cond x a b) n t σ Q:=wM hc h
theorem aJ {x:Operand} {a b:Code} (hc:aX G t x=some (.bool false)) (h:Ev P G b n t σ Q):Ev P G (.cond x a b) n t σ Q:=wM hc h
theorem ad {b:Code} (h:Ev P G b n t σ Q):ou P G n b Q .normal t σ:=h
theorem aK {id:Nat} (h:Q .normal t σ):pr id Q .normal t σ:=h
theorem aD {id:Nat} (h:Q .ret t σ):pr id Q .ret t σ:=h
def xp (I:Nat→PT AV→av→Prop) (j:Nat) (Q:Ex→PT AV→av→Prop) (e:Ex) (t:PT AV) (σ:av):Prop:=
 match e with
 | .normal=>∃i,i<j∧I i t σ
 | e=>Q e t σ
theorem aR {I:Nat→PT AV→av→Prop} {j:Nat} (h:∃i,i<j∧I i t σ):xp I j Q .normal t σ:=h
theorem bj {I:Nat→PT AV→av→Prop} {j i:Nat} (h:Q (.exit i) t σ):xp I j Q (.exit i) t σ:=h
theorem bC {I:Nat→PT AV→av→Prop} {j:Nat} (h:Q .ret t σ):xp I j Q .ret t σ:=h
theorem Dz {b:Code} (I:Nat→PT AV→av→Prop) (j:Nat) (hI:I j t σ) (step:∀j t σ,I j t σ→Ev P G b n t σ (xp I j Q)):Ev P G (.loop b) n t σ Q:=
 FK I (fun j t σ h=>(step j t σ h).mono fun e t' σ' hq=>by cases e<;>exact hq) j t σ hI
end
def Gm:Nat:=70
def Cf (f:Nat):Bool:=Nat.beq f 9 || Nat.beq f 18
structure Plain (G:Cx):Prop where
 h1:∀f a s,G.CX f a s=none
 h2:∀f a,Cf f=false→G.CZ f a=none
 h3:G.mem= []
 h4:∀f a s,G.stop f a s=none
 h5:∀f,Nat.beq f Gm=false→G.fk f=false
theorem Ea {P:Program} {G:Cx} (hG:Plain G) {f:Nat} {fn:Func} {c:Code} {args:List AV} {σ:av} {R:AV→av→Prop} {t:PT AV} (hf:P.funcs[f]?=some fn) (hb:fn.body=some c) (ha:nA fn.ntmps args=some t)
  (h:Ev P G c fn.ntmps t σ fun e t' σ'=>(e= .normal∨e= .ret)∧∃v,dv P fn t' σ'=some v∧R v σ') (hk:Nat.beq f Gm=false:=by rfl) (hl:Cf f=false:=by rfl):bc P G f args σ R:=
 Fb (hG.h1 _ _ _) (hG.h2 _ _ hl) (by rw[hG.h3];rfl) (hG.h4 _ _ _) (hG.h5 _ hk) hf hb ha h
def xk (P:Program) (fn:Func) (R:AV→av→Prop) (e:Ex) (t:PT AV) (σ:av):Prop:=(e= .normal∨e= .ret)∧∃v,dv P fn t σ=some v∧R v σ
theorem bg {P:Program} {G:Cx} (hG:Plain G) {f:Nat} {fn:Func} {c:Code} {args:List AV} {σ:av} {R:AV→av→Prop} {t:PT AV} (hf:P.funcs[f]?=some fn) (hb:fn.body=some c) (ha:nA fn.ntmps args=some t)
  (h:Ev P G c fn.ntmps t σ (xk P fn R)) (hk:Nat.beq f Gm=false:=by rfl) (hl:Cf f=false:=by rfl):bc P G f args σ R:=Ea hG hf hb ha h hk hl
theorem yS {P:Program} {fn:Func} {k:Nat} {t:PT AV} {σ:av} {v:AV} (hr:fn.results.toList= [.tmp k]) (h:t.get k=some v):dv P fn t σ=some v:=by
 unfold dv;rw[hr]
 have:bO (eo P t σ) [.tmp k]=some [v]:=by
  have h':eo P t σ (.tmp k)=some v:=h;unfold bO;simp only[h']
 rw[this]
theorem zj {P:Program} {fn:Func} {j k:Nat} {t:PT AV} {σ:av} {u v:AV} (hr:fn.results.toList= [.tmp j,.tmp k]) (h1:t.get j=some u) (h2:t.get k=some v):dv P fn t σ=some (.tuple [u,v]):=by
 unfold dv;rw[hr]
 have:bO (eo P t σ) [.tmp j,.tmp k]=some [u,v]:=by
  have h1':eo P t σ (.tmp j)=some u:=h1;have h2':eo P t σ (.tmp k)=some v:=h2;unfold bO;simp only[h1',h2']
 rw[this]
theorem ay {P:Program} {fn:Func} {R:AV→av→Prop} {t:PT AV} {σ:av} {k:Nat} {v:AV} (hr:fn.results.toList= [.tmp k]) (h:t.get k=some v) (hR:R v σ):xk P fn R .ret t σ:=⟨.inr rfl,v,yS hr h,hR⟩
theorem bU {P:Program} {fn:Func} {R:AV→av→Prop} {t:PT AV} {σ:av} {j k:Nat} {u v:AV} (hr:fn.results.toList= [.tmp j,.tmp k]) (h1:t.get j=some u) (h2:t.get k=some v) (hR:R (.tuple [u,v]) σ):xk P fn R .ret t σ:=⟨.inr rfl,_,zj hr h1 h2,hR⟩
end Go.Ev
namespace Go.Ev
theorem hU.eta {α:Type} (t:hU α):t=⟨(gB 0).run t,(gB 1).run t,(gB 2).run t,(gB 3).run t,(gB 4).run t,(gB 5).run t,(gB 6).run t,(gB 7).run t,(gB 8).run t,(gB 9).run t,(gB 10).run t,(gB 11).run t,(gB 12).run t,(gB 13).run t,(gB 14).run t,(gB 15).run t⟩:=by cases t;rfl
theorem hU.same {α:Type} {t t':hU α} (h:∀n,n<16→(gB n).run t=(gB n).run t'):t=t':=by
 rw[hU.eta t,h 0 (by decide),h 1 (by decide),h 2 (by decide),h 3 (by decide),h 4 (by decide),h 5 (by decide),h 6 (by decide),h 7 (by decide),h 8 (by decide),h 9 (by decide),h 10 (by decide),h 11 (by decide),h 12 (by decide),h 13 (by decide),h 14 (by decide),h 15 (by decide),←hU.eta t']
theorem gw.same {α:Type} {t t':gw α} (h:∀k,k<256→gW t k=gW t' k):t=t':=by
 refine hU.same fun n hn=>hU.same fun m hm=>?_
 have:=h (n*16+m) (by omega);unfold gW at this;have e1:Nat.div (n*16+m) 16=n:=by show(n*16+m)/16=n;omega
 have e2:Nat.mod (n*16+m) 16=m:=by show(n*16+m)%16=m;omega
 rw[e1,e2] at this;exact this
variable [Env]
def bx (W:List Nat) (t t':PT AV):Prop:=t'.m=t.m∧t'.l=t.l∧∀k,k<256→W.elem k=false→gW t'.s k=gW t.s k
theorem bx.refl (W:List Nat) (t:PT AV):bx W t t:=⟨rfl,rfl,fun _ _ _=>rfl⟩
theorem bx.put {W:List Nat} {t t':PT AV} {w:Nat} {o:Option AV} (hw:(W.elem w && Nat.blt w 256)=true) (h:bx W t t'):bx W t (t'.put o w):=by
 obtain⟨h1,h2,h3⟩:=h;rw[Bool.and_eq_true,pR] at hw;obtain⟨s,m,l⟩:=t';rw[PT.rE _ _ _ _ hw.2];refine⟨h1,h2,fun k hk hn=>?_⟩;show gW (mZ s w o) k=_;rw[lr _ _ _ _ hw.2 hk,if_neg (fun e=>by subst e;rw[hw.1] at hn;cases hn)];exact h3 k hk hn
theorem bx.fI {W:List Nat} {t t':PT AV} {w:Nat} (hw:Nat.blt w 256=true) (h:bx (w::W) t t'):∃o,bx W (t.put o w) t':=by
 rw[pR] at hw;obtain⟨h1,h2,h3⟩:=h;refine⟨t'.get w,?_⟩;obtain⟨s,m,l⟩:=t;rw[PT.rE _ _ _ _ hw,PT.oB _ hw];refine⟨h1,h2,fun k hk hn=>?_⟩;show _=gW (mZ s w _) k;rw[lr _ _ _ _ hw hk];split
 ·rename_i e;rw[e]
 ·rename_i e;refine h3 k hk ?_;rw[List.elem_cons,hn];have:(k == w)=false:=by simpa using e
  rw[this]
theorem bx.rO {W:List Nat} {t t':PT AV} {a b c d:Nat} (hw:(Nat.blt a 256 && (Nat.blt b 256 && (Nat.blt c 256 && Nat.blt d 256)))=true) (h:bx (a::b::c::d::W) t t'):∃o1 o2 o3 o4,bx W ((((t.put o1 a).put o2 b).put o3 c).put o4 d) t':=by
 simp only[Bool.and_eq_true] at hw;obtain⟨h1,h2,h3,h4⟩:=hw;obtain⟨o1,h⟩:=h.fI h1;obtain⟨o2,h⟩:=h.fI h2;obtain⟨o3,h⟩:=h.fI h3;obtain⟨o4,h⟩:=h.fI h4;exact⟨o1,o2,o3,o4,h⟩
theorem bx.dJ {W:List Nat} {t t':PT AV} {a b c d e f g i:Nat} (hw:(Nat.blt a 256 && (Nat.blt b 256 && (Nat.blt c 256 && Nat.blt d 256)))=true) (hw2:(Nat.blt e 256 && (Nat.blt f 256 && (Nat.blt g 256 && Nat.blt i 256)))=true) (h:bx (a::b::c::d::e::f::g::i::W) t t'):
  ∃o1 o2 o3 o4 o5 o6 o7 o8,bx W ((((((((t.put o1 a).put o2 b).put o3 c).put o4 d).put o5 e).put o6 f).put o7 g).put o8 i) t':=by
 obtain⟨o1,o2,o3,o4,h⟩:=h.rO hw;obtain⟨o5,o6,o7,o8,h⟩:=h.rO hw2;exact⟨o1,o2,o3,o4,o5,o6,o7,o8,h⟩
theorem bx.nil {t t':PT AV} (h:bx [] t t'):t'=t:=by
 obtain⟨s,m,l⟩:=t;obtain⟨s',m',l'⟩:=t';obtain⟨h1,h2,h3⟩:=h;have:s'=s:=gw.same fun k hk=>h3 k hk rfl
 cases h1;cases h2;cases this;rfl
section
variable {P:Program} {G:Cx} {n:Nat} {t:PT AV} {σ:av} {Q:Ex→PT AV→av→Prop}
theorem bE {b:Code} (W:List Nat) (I:Nat→PT AV→av→Prop) (j:Nat) (hI:I j t σ) (step:∀j t' σ,bx W t t'→I j t' σ→Ev P G b n t' σ (xp (fun j t'' σ=>bx W t t''∧I j t'' σ) j Q)):Ev P G (.loop b) n t σ Q:=
 Dz (fun j t'' σ=>bx W t t''∧I j t'' σ) j ⟨bx.refl _ _,hI⟩ fun j t' σ h=>step j t' σ h.1 h.2
end
theorem iL {a b:Nat}:cg (.ofNat a) (.ofNat b)=decide (a<b):=by
 show Nat.ble (Nat.succ a) b=_;rw[Bool.eq_iff_iff,Nat.ble_eq,decide_eq_true_iff];rfl
theorem gP {a b:Nat}:bm (.ofNat a) (.ofNat b)=decide (a=b):=by
 show Nat.beq a b=_;rw[Bool.eq_iff_iff,Nat.beq_eq,decide_eq_true_iff]
theorem bl {i:Nat} (h:i<9223372036854775807):wr .i64 (Int.add (.ofNat i) (.ofNat 1))= .ofNat (i+1):=by
 show(bif Nat.ble (i+1) 9223372036854775807 then _ else _)=_;rw[show Nat.ble (i+1) 9223372036854775807=true from by rw[Nat.ble_eq];exact h];rfl
end Go.Ev
namespace Go.Ev
variable [Env]
section
variable {P:Program} {G:Cx} {n:Nat} {t:PT AV} {σ:av} {K:KP} {L:Own} {Q:Ex→PT AV→av→Prop} {ops:Array Oper} {o:Oper} {i:Nat} {rc:List Nat} {l:List (Nat×List Nat)}
theorem fh {v:AV} {t':PT AV} {σ':av} (hi:ops[i]?=some o) (hw:bp ops t o=some true) (hv:dg P G (aX G t) σ o.op= .val v σ') (hp:cP t n o.dst v=some t') (h:cN P G ops t' σ' rc=true∧cE P G ops n l t' σ' Q):cE P G ops n ((i,rc)::l) t σ Q:=by
 obtain⟨hs,K,e,t2,σ2,h1,h2⟩:=h;refine⟨K,e,t2,σ2,fun k hk=>?_,h2⟩
 show(match ops[i]? with
  | some o=>gx P G (dA P G k) false ops n o t σ (fun t' σ'=>bif cN P G ops t' σ' rc then g0 P G (dA P G k) ops n [] l t' σ' else .err 86)
  | none=>.err 87)=_
 rw[hi];unfold gx;dsimp only;rw[hw];dsimp only;rw[hv];dsimp only[jq];rw[hp];dsimp only;rw[hs];exact h1 k hk
theorem lX {t':PT AV} {σ':av} (hi:ops[i]?=some o) (hw:bp ops t o=some true) (hv:dg P G (aX G t) σ o.op= .skip σ') (hp:cP t n o.dst unit=some t') (h:cN P G ops t' σ' rc=true∧cE P G ops n l t' σ' Q):cE P G ops n ((i,rc)::l) t σ Q:=by
 obtain⟨hs,K,e,t2,σ2,h1,h2⟩:=h;refine⟨K,e,t2,σ2,fun k hk=>?_,h2⟩
 show(match ops[i]? with
  | some o=>gx P G (dA P G k) false ops n o t σ (fun t' σ'=>bif cN P G ops t' σ' rc then g0 P G (dA P G k) ops n [] l t' σ' else .err 86)
  | none=>.err 87)=_
 rw[hi];unfold gx;dsimp only;rw[hw];dsimp only;rw[hv];dsimp only[jq];rw[hp];dsimp only;rw[hs];exact h1 k hk
theorem ba:cN P G ops t σ []=true:=rfl
theorem cd {j:Nat} {l:List Nat} (h:gH P G ops t σ j=true) (hl:cN P G ops t σ l=true):cN P G ops t σ (j::l)=true:=by
 show(bif gH P G ops t σ j then cN P G ops t σ l else false)=true;rw[h];exact hl
theorem cR {k:Nat} {v:AV} (hi:ops[i]?=some o) (hw:bp ops t o=some true) (hd:o.dst=some k) (hg:t.get k=some v) (hk:kindOf P o.op= .read) (h:dg P G (aX G t) σ o.op= .val v σ) (hb:du v v=true):gH P G ops t σ i=true:=by
 have hr:fg P (aX G t) σ o.op=some v:=by
  unfold dg at h;rw[hk] at h;dsimp only at h;split at h
  ·rename_i u hu;cases h;exact hu
  ·cases h
 unfold gH;rw[hi];dsimp only;rw[hw];dsimp only;rw[hd];dsimp only;rw[show t.get (posOf k)=some v from hg];dsimp only;rw[hk];dsimp only;rw[hr];exact hb
theorem vt {k b e:Nat} {cs:List AV} (hi:ops[i]?=some o) (hw:bp ops t o=some true) (hd:o.dst=some k) (hg:t.get k=some (.ptr b 0)) (hk:kindOf P o.op= .alloc) (ha:eI P (aX G t) o.op=some (.row cs e false,.ptr)) (hm:σ.m.get b=some (.row cs e false)) (hb:du.beqL cs cs=true):gH P G ops t σ i=true:=by
 unfold gH;rw[hi];dsimp only;rw[hw];dsimp only;rw[hd];dsimp only;rw[show t.get (posOf k)=some (.ptr b 0) from hg];dsimp only;rw[hk];dsimp only;rw[ha];show(match σ.m.get b with | some (.row cs' e' false)=>Nat.beq e e' && du.beqL cs cs' | _=>false)=true;rw[hm];show(Nat.beq e e && du.beqL cs cs)=true;rw[hb,Nat.beq_refl];rfl
theorem fR (k:IntKind) (n:Int):du.lM (.int k n) (.int k n)=true:=by
 show(pE k k && bm n n)=true;rw[ei];cases k<;>simp[pE]
theorem Df (s:List Nat):du.lM (.str s) (.str s)=true:=by
 show qq s s=true;rw[qH];simp
theorem bD.lM {α:Type} {K:KP} {m:Nat} {R:α→List AV→Prop} {l:List α} {v:AV} (h:bD K m R l v):du.lM v v=true:=by
 rcases h with ⟨_,rfl⟩ | ⟨b,off,c,cells,e,ro,rfl,hc,_⟩
 ·rfl
 ·show(du.beqP b b && Nat.beq off off && Nat.beq l.length l.length && du.beqC c c)=true;have hp:du.beqP b b=true:=Nat.beq_refl b
  have hcc:du.beqC c c=true:=by
   rcases hc with rfl | ⟨n,rfl,_⟩
   ·exact Nat.beq_refl m
   ·exact Nat.beq_refl n
  simp[hp,hcc]
theorem mW:du.beqL [] []=true:=rfl
theorem dj {v:AV} {vs:List AV} (h:du.lM v v=true) (hs:du.beqL vs vs=true):du.beqL (v::vs) (v::vs)=true:=by
 show(bif du.lM v v then du.beqL vs vs else false)=true;rw[h];exact hs
theorem nf {vs:List AV} (h:du.beqL vs vs=true):du (.agg vs) (.agg vs)=true:=h
theorem rR {c:Bool} {t':Bool→PT AV} (hi0:ops[i]?=some o) (hw:bp ops t o=some true) (hv:dg P G (aX G t) σ o.op= .val (.bool c) σ) (hp:∀b,cP t n o.dst (.bool b)=some (t' b))
  (h1:c=true→cE P G ops n l (t' true) σ Q) (h0:c=false→cE P G ops n l (t' false) σ Q):cE P G ops n ((i,[])::l) t σ Q:=by
 refine an hi0 hw hv (hp c) ?_;cases c with
 | true=>exact h1 rfl
 | false=>exact h0 rfl
theorem sL (hs:St σ K L) {ob:bJ} {t':Nat→PT AV} (hi0:ops[i]?=some o) (hw:bp ops t o=some true) (hv:dg P G (aX G t) σ o.op= .val (.ptr σ.next 0) (σ.alloc ob)) (hp:∀b,cP t n o.dst (.ptr b 0)=some (t' b))
  (h:∀(σ':av) (b:Nat),St σ' K ((b,ob)::L)→cE P G ops n l (t' b) σ' Q):cE P G ops n ((i,[])::l) t σ Q:=
 an hi0 hw hv (hp _) (h _ _ (hs.alloc ob))
theorem tV (hs:St σ K L) {ob:bJ} {k c:Nat} {t':Nat→PT AV} (hi0:ops[i]?=some o) (hw:bp ops t o=some true) (hv:dg P G (aX G t) σ o.op= .val (.slice σ.next 0 k (.known c)) (σ.alloc ob)) (hp:∀b,cP t n o.dst (.slice b 0 k (.known c))=some (t' b))
  (h:∀(σ':av) (b:Nat),St σ' K ((b,ob)::L)→cE P G ops n l (t' b) σ' Q):cE P G ops n ((i,[])::l) t σ Q:=
 an hi0 hw hv (hp _) (h _ _ (hs.alloc ob))
theorem mm {b:Nat} {ob ob':bJ} {t':PT AV} (hs:St σ K ((b,ob)::L)) (hi0:ops[i]?=some o) (hw:bp ops t o=some true) (hv:dg P G (aX G t) σ o.op= .skip (σ.setObj b ob')) (hp:cP t n o.dst unit=some t')
  (h:∀σ',St σ' K ((b,ob')::L)→(cN P G ops t' σ' rc=true∧cE P G ops n l t' σ' Q)):cE P G ops n ((i,rc)::l) t σ Q:=lX hi0 hw hv hp (h _ (hs.mn ob'))
theorem Aj {b:Nat} {ob ob':bJ} {x:Nat×bJ} {t':PT AV} (hs:St σ K (x::(b,ob)::L)) (hi0:ops[i]?=some o) (hw:bp ops t o=some true) (hv:dg P G (aX G t) σ o.op= .skip (σ.setObj b ob')) (hp:cP t n o.dst unit=some t')
  (h:∀σ',St σ' K (x::(b,ob')::L)→(cN P G ops t' σ' rc=true∧cE P G ops n l t' σ' Q)):cE P G ops n ((i,rc)::l) t σ Q:=lX hi0 hw hv hp (h _ (hs.Fe ob'))
theorem dy {α:Type} {m:Nat} {R:α→List AV→Prop} {la:List α} {v:AV} {ix:Nat} {x:α} {ty e:TypeId} {xo io:Operand} {k:IntKind} {t':AV→PT AV} (hs:bD K m R la v) (hi:la[ix]?=some x) (hi0:ops[i]?=some o) (hw:bp ops t o=some true) (ho:o.op= .indexAddr ty xo io)
  (ht:P.underlying ty=some (.slice e)) (hj:(P.info? e).map (·.size)=some m) (hx:aX G t xo=some v) (hio:aX G t io=some (.int k (.ofNat ix))) (hp:∀p,cP t n o.dst p=some (t' p))
  (h:∀p vs,fC K p vs→vs.length=m→R x vs→cE P G ops n l (t' p) σ Q):cE P G ops n ((i,[])::l) t σ Q:=by
 obtain⟨b,off,c,vs,rfl,hlt,h1,h2,h3⟩:=hs.at hi;refine an hi0 hw ?_ (hp _) (h _ vs h1 h2 h3);rw[ho];exact eA ht hj hx hio hlt
theorem jV {p:AV} {vs:List AV} {s:TypeId} {xo:Operand} {fi k:Nat} {t':AV→PT AV} (hpt:fC K p vs) (hi0:ops[i]?=some o) (hw:bp ops t o=some true) (ho:o.op= .fieldAddr s xo fi) (hx:aX G t xo=some p) (hk:m4 P s fi=some k) (hl:k≤vs.length) (hp:∀p,cP t n o.dst p=some (t' p))
  (h:∀p',fC K p' (vs.drop k)→cE P G ops n l (t' p') σ Q):cE P G ops n ((i,[])::l) t σ Q:=by
 obtain⟨b,off,cells,e,ro,rfl,h2,h3,h4⟩:=hpt;refine an hi0 hw ?_ (hp _) (h _ ⟨b,off+k,cells,e,ro,rfl,h2,by rw[List.length_drop];omega,?_⟩)
 ·rw[ho];exact aw hx hk
 ·rw[List.length_drop]
  conv=>rhs;rw[←h4]
  rw[List.drop_take,List.drop_drop]
theorem ja {f:Nat} {args:List AV} {t':AV→PT AV} {R:AV→av→Prop} (hi0:ops[i]?=some o) (hw:bp ops t o=some true) (hv:dg P G (aX G t) σ o.op= .enter f args σ) (hp:∀v,cP t n o.dst v=some (t' v))
  (hc:bc P G f args σ R) (h:∀v σ',R v σ'→(cN P G ops (t' v) σ' rc=true∧cE P G ops n l (t' v) σ' Q)):cE P G ops n ((i,rc)::l) t σ Q:=by
 refine yG hi0 hw hv (hc.mono fun v σ' hr=>?_);obtain⟨h1,h2⟩:=h v σ' hr;exact⟨_,hp v,h1,h2⟩
theorem dw {f:Nat} {args:List AV} {u:AV} {t':AV→PT AV} (hi0:ops[i]?=some o) (hw:bp ops t o=some true) (hv:dg P G (aX G t) σ o.op= .enter f args σ) (hp:∀v,cP t n o.dst v=some (t' v))
  (hc:bc P G f args σ fun v σ'=>v=u∧St σ' K L) (h:∀σ',St σ' K L→(cN P G ops (t' u) σ' rc=true∧cE P G ops n l (t' u) σ' Q)):cE P G ops n ((i,rc)::l) t σ Q:=
 ja hi0 hw hv hp hc fun v σ' ⟨hv,hst⟩=>by subst hv;exact h σ' hst
theorem aQ {id:Nat} {l:List (Nat×List Nat)} (hf:pe P ops=true) (hl:iA P ops=l) (h:cE P G ops n l t σ Q):Ev P G (.region id ops true) n t σ Q:=by
 subst hl;exact tY hf h
end
end Go.Ev
namespace Go.Ev
variable [Env]
section
variable {P:Program} {G:Cx} {n:Nat} {t:PT AV} {σ:av} {Q:Ex→PT AV→av→Prop} {ops:Array Oper} {o:Oper} {l:List Oper}
end
section
variable {P:Program} {G:Cx} {n:Nat} {σ:av} {Q:Ex→PT AV→av→Prop} {ops:Array Oper}
noncomputable def AM (n:Nat) (t:PT AV) (d:Option Nat) (v:Option AV):Option (PT AV):=match v with | some v=>cP t n d v | none=>none
noncomputable def Dd (P:Program) (k:Bool) (o:BinOp) (ty:TypeId) (a b:Option AV):Option AV:=match a with | some a=>(match b with | some b=>tA P k o ty a b | none=>none) | none=>none
noncomputable def yf (c a b:Option AV):Option AV:=match c with | some (.bool q)=>if q then a else b | _=>none
noncomputable def GV (P:Program) (G:Cx) (t:PT AV) (op:Op):Option AV:=
 match op with
 | .move x=>aX G t x
 | .assign x=>aX G t x
 | .pick c a b=>yf (aX G t c) (aX G t a) (aX G t b)
 | .binOp o ty x y _=>Dd P (vp x || vp y) o ty (aX G t x) (aX G t y)
 | .extract x i=>cu P (aX G t) (.extract x i)
 | .makeFunc x y z=>cu P (aX G t) (.makeFunc x y z)
 | .unOp x y z=>cu P (aX G t) (.unOp x y z)
 | .field x y z=>cu P (aX G t) (.field x y z)
 | _=>none
theorem s9 {t:PT AV} {op:Op} {v:AV} (h:GV P G t op=some v):dg P G (aX G t) σ op= .val v σ:=by
 unfold GV at h;split at h
 ·exact al h
 ·exact ak h
 ·unfold yf at h;split at h
  ·rename_i q hc;exact aG hc h
  ·cases h
 ·unfold Dd at h;split at h
  ·rename_i a ha;split at h
   ·rename_i b hb;exact aA ha hb h
   ·cases h
  ·cases h
 ·exact aU rfl h
 ·exact aU rfl h
 ·exact aU rfl h
 ·exact aU rfl h
 ·cases h
noncomputable def lN (P:Program) (G:Cx) (ops:Array Oper) (n:Nat) (t:PT AV) (o:Oper):Option (PT AV):=
 match bp ops t o with
 | some w=>bif w then AM n t o.dst (GV P G t o.op) else cP t n o.dst unit
 | none=>none
theorem sc {t t':PT AV} {o:Oper} {l:List Oper} (h:lN P G ops n t o=some t') (hh:cq P G ops n l t' σ Q):cq P G ops n (o::l) t σ Q:=by
 unfold lN at h;split at h
 ·rename_i w hw;cases w with
  | true=>
   simp only[cond_true] at h;unfold AM at h;split at h
   ·rename_i v hv;exact aa hw (s9 hv) h hh
   ·cases h
  | false=>exact ah hw h hh
 ·cases h
noncomputable def quick (P:Program) (G:Cx) (ops:Array Oper) (n:Nat):Nat→List Oper→PT AV→Option (List Oper×PT AV)
 | 0,l,t=>some (l,t)
 | k+1,l,t=>match l with
  | o::l=>match lN P G ops n t o with
   | some t'=>quick P G ops n k l t'
   | none=>none
  | []=>none
theorem vQ (k:Nat) {l l':List Oper} {t t':PT AV} (h:quick P G ops n k l t=some (l',t')) (hh:cq P G ops n l' t' σ Q):cq P G ops n l t σ Q:=by
 induction k generalizing l t with
 | zero=>simp only[quick,Option.some.injEq,Prod.mk.injEq] at h;obtain⟨rfl,rfl⟩:=h;exact hh
 | succ k ih=>
  unfold quick at h;split at h
  ·split at h
   ·rename_i t1 h1;exact sc h1 (ih h)
   ·cases h
  ·cases h
noncomputable def mw (P:Program) (G:Cx) (ops:Array Oper) (n:Nat):Nat→List (Nat×List Nat)→PT AV→Option (List (Nat×List Nat)×PT AV)
 | 0,l,t=>some (l,t)
 | k+1,l,t=>match l with
  | (i,[])::l=>match ops[i]? with
   | some o=>match lN P G ops n t o with
    | some t'=>mw P G ops n k l t'
    | none=>none
   | none=>none
  | _=>none
theorem tQ {t t':PT AV} {i:Nat} {o:Oper} {l:List (Nat×List Nat)} (hi:ops[i]?=some o) (h:lN P G ops n t o=some t') (hh:cE P G ops n l t' σ Q):cE P G ops n ((i,[])::l) t σ Q:=by
 unfold lN at h;split at h
 ·rename_i w hw;cases w with
  | true=>
   simp only[cond_true] at h;unfold AM at h;split at h
   ·rename_i v hv;exact an hi hw (s9 hv) h hh
   ·cases h
  | false=>exact aI hi hw h hh
 ·cases h
theorem wQ (k:Nat) {l l':List (Nat×List Nat)} {t t':PT AV} (h:mw P G ops n k l t=some (l',t')) (hh:cE P G ops n l' t' σ Q):cE P G ops n l t σ Q:=by
 induction k generalizing l t with
 | zero=>simp only[mw,Option.some.injEq,Prod.mk.injEq] at h;obtain⟨rfl,rfl⟩:=h;exact hh
 | succ k ih=>
  unfold mw at h;split at h
  ·split at h
   ·rename_i o ho;split at h
    ·rename_i t1 h1;exact tQ ho h1 (ih h)
    ·cases h
   ·cases h
  ·cases h
section
variable {ev:Operand→Option AV} {K:KP} {L:Own}
theorem Jc (k:Nat) {s:TypeId} {x:Operand} {i:Nat} {b:Pos} {off:Nat} (hx:ev x=some (.ptr b off)) (hk:m4 P s i=some k:=by kernel_rfl):dg P G ev σ (.fieldAddr s x i)= .val (.ptr b (off+k)) σ:=aw hx hk
theorem I5 {c:Call} {f:Operand} {g:Nat} {fi ca args:List AV} (hc:c.callee= .value f) (hf:ev f=some (.func g fi ca)) (ha:qp ev c.args.toList=some args) (hg:rN P g=true:=by kernel_rfl):dg P G ev σ (.call c)= .enter g (fi++(args++ca)) σ:=aM hc hf ha hg
theorem Ja {t:TypeId} {x:Operand} {b:Pos} {off:Nat} {cells:List AV} {e:Nat} {ro:Bool} {v:AV} (hx:ev x=some (.ptr b off)) (hb:σ.m.get b=some (.row cells e ro)) (hv:nth cells off=some v) (ha:dc P t=some none:=by kernel_rfl):dg P G ev σ (.load t x)= .val v σ:=ax hx hb ha hv
theorem IT {t:TypeId} {x:Operand} {b:Pos} {off n:Nat} {cells:List AV} {e:Nat} {ro:Bool} {vs:List AV} (hx:ev x=some (.ptr b off)) (hb:σ.m.get b=some (.row cells e ro)) (hv:(cells.drop off).take n=vs) (ha:dc P t=some (some n):=by kernel_rfl) (hl:off+n≤cells.length:=by exact Nat.le_of_ble_eq_true rfl):dg P G ev σ (.load t x)= .val (.agg vs) σ:=aO hx hb ha hl hv
theorem I8 {t:TypeId} {m:Nat} {x y:Operand} {b:Pos} {off:Nat} {v:AV} {cs cells cells':List AV} {e:Nat} (hx:ev x=some (.ptr b off)) (hy:ev y=some v) (hc:cm v=some cs) (hb:σ.m.get b=some (.row cells e false)) (hl:cs.length=m) (hleaf:bT cs=true) (hs:cO cs cells off=cells')
  (hj:(P.info? t).map (·.size)=some m:=by kernel_rfl) (hle:off+m≤cells.length:=by exact Nat.le_of_ble_eq_true rfl):dg P G ev σ (.store t x y)= .skip (σ.setObj b (.row cells' e false)):=aH hx hy hc hb hj hl hle hleaf hs
theorem IY {t:TypeId} {parts:Array (Nat×Operand)} {places:List (Nat×Nat)} {zero cs:List AV} (hf:iV (nth places) ev parts.toList zero=some cs) (hp:placesOf P t=some places:=by kernel_rfl) (hz:(ej P t).bind cm=some zero:=by kernel_rfl) (hu:dc P t=some (some zero.length):=by kernel_rfl) (hs:(structOf P t).isSome=true:=by kernel_rfl):dg P G ev σ (.build t parts)= .val (.agg cs) σ:=bB hp hz hu hf hs
theorem IV {e:TypeId} {cs:List AV} (hz:(ej P e).bind cm=some cs:=by kernel_rfl) (hs:pQ P e=false:=by kernel_rfl):dg P G ev σ (.alloc e)= .val (.ptr σ.next 0) (σ.alloc (.row cs e false)):=cC hz hs
theorem I1 {α:Type} {m:Nat} {R:α→List AV→Prop} {l:List α} {c:Call} {t e:TypeId} {x:Operand} {v:AV} (hs:bD K m R l v) (hc:c.callee= .builtin .len) (ht:c.argTypes[0]?=some t) (ha:c.args.toList= [x]) (hx:ev x=some v) (hu:P.underlying t=some (.slice e):=by kernel_rfl):dg P G ev σ (.call c)= .val (.int .i64 (.ofNat l.length)) σ:=aT hs hc ht ha hu hx
theorem IP {t:TypeId} {x:Operand} {p v:AV} {vs:List AV} (hs:St σ K L) (hp:fC K p vs) (hx:ev x=some p) (hv:vs[0]?=some v) (ha:dc P t=some none:=by kernel_rfl):dg P G ev σ (.load t x)= .val v σ:=aS hs hp hx ha hv
theorem Jb {n:Nat} {t:PT AV} {o:Oper} {l:List Oper} {α:Type} {m:Nat} {R:α→List AV→Prop} {la:List α} {v:AV} {i:Nat} {x:α} {ty e:TypeId} {xo io:Operand} {k:IntKind} {t':AV→PT AV} (hs:bD K m R la v) (hi:la[i]?=some x) (hw:bp ops t o=some true) (ho:o.op= .indexAddr ty xo io)
  (hx:aX G t xo=some v) (hio:aX G t io=some (.int k (.ofNat i))) (hp:∀p,cP t n o.dst p=some (t' p))
  (h:∀p vs,fC K p vs→vs.length=m→R x vs→cq P G ops n l (t' p) σ Q) (ht:P.underlying ty=some (.slice e):=by kernel_rfl) (hj:(P.info? e).map (·.size)=some m:=by kernel_rfl):cq P G ops n (o::l) t σ Q:=cJ hs hi hw ho ht hj hx hio hp h
theorem Jf {n i:Nat} {t:PT AV} {o:Oper} {l:List (Nat×List Nat)} {α:Type} {m:Nat} {R:α→List AV→Prop} {la:List α} {v:AV} {ix:Nat} {x:α} {ty e:TypeId} {xo io:Operand} {k:IntKind} {t':AV→PT AV} (hs:bD K m R la v) (hi:la[ix]?=some x) (hi0:ops[i]?=some o) (hw:bp ops t o=some true) (ho:o.op= .indexAddr ty xo io)
  (hx:aX G t xo=some v) (hio:aX G t io=some (.int k (.ofNat ix))) (hp:∀p,cP t n o.dst p=some (t' p))
  (h:∀p vs,fC K p vs→vs.length=m→R x vs→cE P G ops n l (t' p) σ Q) (ht:P.underlying ty=some (.slice e):=by kernel_rfl) (hj:(P.info? e).map (·.size)=some m:=by kernel_rfl):cE P G ops n ((i,[])::l) t σ Q:=dy hs hi hi0 hw ho ht hj hx hio hp h
end
theorem bx.Iq {W:List Nat} {t t':PT AV} {a b c d e f g i a' b' c' d' e' f' g' i':Nat} (hw:(Nat.blt a 256 && (Nat.blt b 256 && (Nat.blt c 256 && Nat.blt d 256)))=true) (hw2:(Nat.blt e 256 && (Nat.blt f 256 && (Nat.blt g 256 && Nat.blt i 256)))=true) (hw3:(Nat.blt a' 256 && (Nat.blt b' 256 && (Nat.blt c' 256 && Nat.blt d' 256)))=true) (hw4:(Nat.blt e' 256 && (Nat.blt f' 256 && (Nat.blt g' 256 && Nat.blt i' 256)))=true) (h:bx (a::b::c::d::e::f::g::i::a'::b'::c'::d'::e'::f'::g'::i'::W) t t'):
  ∃o1 o2 o3 o4 o5 o6 o7 o8 u1 u2 u3 u4 u5 u6 u7 u8,bx W ((((((((((((((((t.put o1 a).put o2 b).put o3 c).put o4 d).put o5 e).put o6 f).put o7 g).put o8 i).put u1 a').put u2 b').put u3 c').put u4 d').put u5 e').put u6 f').put u7 g').put u8 i') t':=by
 obtain⟨o1,o2,o3,o4,o5,o6,o7,o8,h⟩:=h.dJ hw hw2;obtain⟨u1,u2,u3,u4,u5,u6,u7,u8,h⟩:=h.dJ hw3 hw4;exact⟨o1,o2,o3,o4,o5,o6,o7,o8,u1,u2,u3,u4,u5,u6,u7,u8,h⟩
theorem lb {a b:Nat} (h:Nat.ble a b=true):a≤b:=Nat.le_of_ble_eq_true h
theorem nT {b:Code} {t:PT AV} {Q:Ex→PT AV→av→Prop} (h:Ev P G b n t σ Q):cq P G ops n [] t σ (ou P G n b Q):=af (ad h)
theorem nS {id:Nat} {os:Array Oper} {b:Code} {t:PT AV} {Q:Ex→PT AV→av→Prop} (hd:kY os.toList=false) (h:cq P G os n os.toList t σ (ou P G n b Q)):cq P G ops n [] t σ (ou P G n (.seq (.region id os false) b) Q):=af (ad (aj (ai hd h)))
end
inductive XE where
 | mk (op num:Int) (name:List Nat) (kids:List XE)
structure XI where
 kind:Int
 sS:Int
 loc:Int
 order:Int
 to:Int
 exprs:List XE
structure XC where
 aW:Int
 ins:List XI
def gX (K:KP):Nat→XE→List AV→Prop
 | 0,_,_=>False
 | k+1,.mk op num name kids,vs=>∃v,vs= [.int .i64 op,.int .i64 num,.str name,v]∧bD K 4 (gX K k) kids v
def ga (K:KP) (k:Nat) (x:XI) (vs:List AV):Prop:=∃v,vs= [.int .i64 x.kind,.int .i64 x.sS,.int .i64 x.loc,.int .i64 x.order,.int .i64 x.to,v]∧bD K 4 (gX K k) x.exprs v
def jl (K:KP) (k:Nat) (x:XC) (vs:List AV):Prop:=∃v,vs= [.int .i64 x.aW,v]∧bD K 6 (ga K k) x.ins v
def XE.kids:XE→List XE
 | .mk _ _ _ k=>k
theorem gX.shape {K:KP} {k:Nat} {x:XE} {vs:List AV} (h:gX K k x vs):∃op num name v,vs= [.int .i64 op,.int .i64 num,.str name,v]∧bD K 4 (gX K (k-1)) x.kids v:=by
 cases k with
 | zero=>cases x;exact h.elim
 | succ k=>
  obtain⟨op,num,name,kids⟩:=x;obtain⟨v,rfl,hk⟩:=h;exact⟨_,_,_,v,rfl,hk⟩
open Classical in
noncomputable def cG {α:Type} (a b:α):Bool:=decide (a=b)
theorem cD {α:Type} {a b:α}:cG a b=true↔a=b:=by unfold cG;simp
theorem lz {α:Type} {a b:α}:cG a b=false↔a≠b:=by unfold cG;simp
theorem bQ {c:Bool} (h:(bif c then false else true)=true):c=false:=by cases c<;>simp_all
theorem aY {c:Bool} (h:(bif c then false else true)=false):c=true:=by cases c<;>simp_all
theorem dR {α:Type} {l1 l2:List α} (h:bm (.ofNat l1.length) (.ofNat l2.length)=false):cG l1 l2=false:=by
 rw[lz];rintro rfl;rw[ei] at h;simp at h
theorem di {α β:Type} {l1:List α} {l2:List β} (h:bm (.ofNat l1.length) (.ofNat l2.length)=true):l1.length=l2.length:=by
 rw[ei] at h;exact Int.ofNat.inj (of_decide_eq_true h)
theorem eB {α:Type} {l1 l2:List α} {i:Nat} {x y:α} (hx:l1[i]?=some x) (hy:l2[i]?=some y) (h:cG x y=false):cG l1 l2=false:=by
 rw[lz] at h⊢;rintro rfl;rw[hx] at hy;exact h (Option.some.inj hy)
theorem dq {α:Type} {l1 l2:List α} {i:Nat} (hl:l1.length=l2.length) (hi:l1.length≤i) (h:∀k,k<i→l1[k]?=l2[k]?):cG l1 l2=true:=by
 rw[cD];refine List.ext_getElem? fun k=>?_
 by_cases hk:k<i
 ·exact h k hk
 ·rw[List.getElem?_eq_none (by omega),List.getElem?_eq_none (by omega)]
theorem im {α:Type} {l1 l2:List α} {i:Nat} {x y:α} (h:∀k,k<i→l1[k]?=l2[k]?) (hx:l1[i]?=some x) (hy:l2[i]?=some y) (hs:cG x y=true):∀k,k<i+1→l1[k]?=l2[k]?:=fun k hk=>by
 rw[cD] at hs
 by_cases e:k=i
 ·subst e;rw[hx,hy,hs]
 ·exact h k (by omega)
theorem bz {a b:Nat} (h:cg (.ofNat a) (.ofNat b)=false):b≤a:=by
 rw[eS,decide_eq_false_iff_not] at h;have h:¬a<b:=fun e=>h (Int.ofNat_lt.2 e)
 omega
theorem cA {a b:Nat} (h:cg (.ofNat a) (.ofNat b)=true):a<b:=by
 rw[eS,decide_eq_true_iff] at h;exact Int.ofNat_lt.1 h
theorem cQ {α:Type} {l:List α} {i:Nat} (h:i<l.length):∃x,l[i]?=some x:=⟨l[i],List.getElem?_eq_getElem h⟩
noncomputable def rz (f:XE→Int→Int):List XE→Int→Int
 | [],m=>m
 | x::r,m=>bif cg m 0 then m else rz f r (f x m)
noncomputable def Gf (name:List Nat) (left:Int):Int:=wr .i64 (Int.sub (wr .i64 (Int.sub left 1)) (wr .i64 (Int.tdiv (.ofNat (cr name)) 20)))
noncomputable def yE:Nat→XE→Int→Int
 | 0,_,m=>m
 | k+1,.mk _ _ name kids,m=>rz (yE k) kids (Gf name m)
noncomputable def AJ (k:Nat) (x:XE) (most:Int):Bool:=bif cg (yE k x most) 0 then false else true
noncomputable def tt (k:Nat) (x:XI):Bool:=bif cg 4 (.ofNat x.exprs.length) then false else x.exprs.all fun e=>AJ k e 60
noncomputable def oY (k:Nat) (most:Int) (x:XC):Bool:=bif cg most (.ofNat x.ins.length) then false else x.ins.all (tt k)
noncomputable def rV (k:Nat) (most:Int) (l:List XC):Bool:=(l.take 6).all (oY k most) && (bif cg 6 (.ofNat l.length) then false else true)
theorem B7 {f:XE→Int→Int} {l:List XE} {i:Nat} {m:Int} (h:l.length≤i):rz f (l.drop i) m=m:=by rw[List.drop_eq_nil_of_le h];rfl
theorem CI {f:XE→Int→Int} {l:List XE} {m:Int} (h:cg m 0=true):rz f l m=m:=by
 cases l with
 | nil=>rfl
 | cons x r=>show(bif cg m 0 then m else _)=m;rw[h];rfl
theorem zP {f:XE→Int→Int} {l:List XE} {i:Nat} {m:Int} {x:XE} (hx:l[i]?=some x) (h:cg m 0=false):rz f (l.drop i) m=rz f (l.drop (i+1)) (f x m):=by
 have hlt:i<l.length:=(List.getElem?_eq_some_iff.1 hx).1;rw[List.drop_eq_getElem_cons hlt];have:l[i]=x:=(List.getElem?_eq_some_iff.1 hx).2;rw[this];show(bif cg m 0 then m else _)=_;rw[h];rfl
theorem jF {α:Type} {f:α→Bool} {l:List α} {i:Nat} {x:α} (hx:l[i]?=some x) (h:f x=false):l.all f=false:=by
 rw[List.all_eq_false];exact⟨x,List.mem_of_getElem? hx,by rw[h];simp⟩
theorem E7 {α:Type} {f:α→Bool} {l:List α} {i n:Nat} {x:α} (hx:l[i]?=some x) (hi:i<n) (h:f x=false):(l.take n).all f=false:=jF (i:=i) (by rw[List.getElem?_take,if_pos hi,hx]) h
theorem fT {α:Type} {f:α→Bool} {l:List α} {i:Nat} {x:α} (ha:(l.take i).all f=true) (hx:l[i]?=some x) (h:f x=true):(l.take (i+1)).all f=true:=by
 rw[List.take_add_one,hx,List.all_append,ha];simp[h]
theorem ek {α:Type} {f:α→Bool} {l:List α} {i:Nat} (ha:(l.take i).all f=true) (h:l.length≤i):l.all f=true:=by
 rw[List.take_of_length_le h] at ha;exact ha
theorem ze {α:Type} {f:α→Bool} {l:List α} {i n:Nat} (ha:(l.take i).all f=true) (h:n≤i):(l.take n).all f=true:=by
 rw[List.all_eq_true] at ha⊢
 exact fun x hx=>ha x (by
  obtain⟨j,hj⟩:=List.getElem?_of_mem hx;rw[List.getElem?_take] at hj;split at hj
  ·exact List.mem_of_getElem? (i:=j) (by rw[List.getElem?_take,if_pos (by omega),hj])
  ·cases hj)
theorem gX.beq {K:KP} {k:Nat} {x:XE} {vs:List AV} (h:gX K k x vs):du (.agg vs) (.agg vs)=true:=by
 cases k with
 | zero=>cases x;exact h.elim
 | succ k=>
  obtain⟨op,num,name,kids⟩:=x;obtain⟨v,rfl,hk⟩:=h;exact nf (dj (fR _ _) (dj (fR _ _) (dj (Df _) (dj hk.lM mW))))
theorem ga.beq {K:KP} {k:Nat} {x:XI} {vs:List AV} (h:ga K k x vs):du (.agg vs) (.agg vs)=true:=by
 obtain⟨v,rfl,hk⟩:=h;exact nf (dj (fR _ _) (dj (fR _ _) (dj (fR _ _) (dj (fR _ _) (dj (fR _ _) (dj hk.lM mW))))))
theorem jl.beq {K:KP} {k:Nat} {x:XC} {vs:List AV} (h:jl K k x vs):du (.agg vs) (.agg vs)=true:=by
 obtain⟨v,rfl,hk⟩:=h;exact nf (dj (fR _ _) (dj hk.lM mW))
theorem dG {α:Type} {l:List α} {i:Nat} (h:cg (.ofNat i) (.ofNat l.length)=true):∃x,l[i]?=some x∧i<l.length:=by
 rw[eS,decide_eq_true_iff] at h;have h:i<l.length:=Int.ofNat_lt.1 h;exact⟨l[i],List.getElem?_eq_getElem h,h⟩
end Go.Ev
namespace Go.Ev
variable [Env]
def dI (n:Int) (vs:List AV):Prop:=vs= [.int .i64 n]
def RL {α:Type} (K:KP) (m:Nat) (R:α→List AV→Prop) (l:List α) (vs:List AV):Prop:=∃v,vs= [v]∧bD K m R l v
theorem pO {a b:Int}:bm a b=cG a b:=by rw[ei,Bool.eq_iff_iff,decide_eq_true_iff,cD]
theorem yg {α:Type} {f:α→Bool} {l:List α} {i:Nat} {x:α} (ha:(l.take i).any f=false) (hx:l[i]?=some x) (h:f x=false):(l.take (i+1)).any f=false:=by
 rw[List.take_add_one,hx,List.any_append,ha];simp[h]
theorem wq {α:Type} {f:α→Bool} {l:List α} {i:Nat} {x:α} (hx:l[i]?=some x) (h:f x=true):l.any f=true:=by
 rw[List.any_eq_true];exact⟨x,List.mem_of_getElem? hx,h⟩
theorem nR {α:Type} {f:α→Bool} {l:List α} {i:Nat} (ha:(l.take i).any f=false) (h:l.length≤i):l.any f=false:=by
 rw[List.take_of_length_le h] at ha;exact ha
noncomputable def Ai (xs ys:List Int):Bool:=
 List.rec (motive:=fun _=>List Int→Bool) (fun ys=>List.rec (motive:=fun _=>Bool) true (fun _ _ _=>false) ys)
  (fun x _ ih ys=>List.rec (motive:=fun _=>Bool) false (fun y r _=>bif bm x y then ih r else false) ys) xs ys
theorem Bb:∀(xs ys:List Int),Ai xs ys=cG xs ys
 | [],[]=>by rw[show Ai [] []=true from rfl,eq_comm,cD]
 | [],_::_=>by rw[show Ai [] (_::_)=false from rfl,eq_comm,lz];simp
 | _::_,[]=>by rw[show Ai (_::_) []=false from rfl,eq_comm,lz];simp
 | x::xs,y::ys=>by
  show(bif bm x y then Ai xs ys else false)=_;rw[Bb xs ys,ei,Bool.eq_iff_iff,cD]
  by_cases h:x=y
  ·subst h;simp[cD]
  ·simp[h]
def ints (xs:List Int):List AV:=xs.map (.int .i64)
def EO:Option TypeDesc→Bool
 | some (.int .i64)=>true
 | _=>false
noncomputable def qy (P:Program) (fs:List Field):Nat→Bool:=List.rec (motive:=fun _=>Nat→Bool) (fun _=>true) (fun f _ ih k=>EO (P.underlying f.type) && (Nat.beq f.offset k && ih (k+1))) fs
noncomputable def gf (P:Program) (t:TypeId) (n:Nat):Bool:=
 match structOf P t with
 | some fs=>qy P fs.toList 0 && (Nat.beq fs.toList.length n && (!P.eqGuardType P.depth t && (!P.stoodInHeld t && iF fs.toList)))
 | none=>false
theorem oz {P:Program}:∀(fs:List Field) (k:Nat) (xs ys:List Int),qy P fs k=true→xs.length=k+fs.length→ys.length=k+fs.length→eqFields P fs (ints xs) (ints ys)=some (Ai (xs.drop k) (ys.drop k))
 | [],k,xs,ys,_,h1,h2=>by
  rw[List.drop_eq_nil_of_le (by simp at h1;omega),List.drop_eq_nil_of_le (by simp at h2;omega)];rfl
 | f::fs,k,xs,ys,h,h1,h2=>by
  have h':(EO (P.underlying f.type) && (Nat.beq f.offset k && qy P fs (k+1)))=true:=h;simp only[Bool.and_eq_true] at h';obtain⟨e1,e2,e3⟩:=h';have hk:f.offset=k:=Nat.eq_of_beq_eq_true e2
  have hu:P.underlying f.type=some (.int .i64):=by
   unfold EO at e1;split at e1
   ·assumption
   ·cases e1
  have l1:k<xs.length:=by simp at h1;omega
  have l2:k<ys.length:=by simp at h2;omega
  have n1:nth (ints xs) f.offset=some (.int .i64 xs[k]):=by rw[dU,hk,ints,List.getElem?_map,List.getElem?_eq_getElem l1];rfl
  have n2:nth (ints ys) f.offset=some (.int .i64 ys[k]):=by rw[dU,hk,ints,List.getElem?_map,List.getElem?_eq_getElem l2];rfl
  have ih:=oz fs (k+1) xs ys e3 (by simp at h1⊢;omega) (by simp at h2⊢;omega)
  show(match P.underlying f.type,nth (ints xs) f.offset,nth (ints ys) f.offset with
   | some .bool,some (.bool a),some (.bool b)=>bif (bif a then b else(bif b then false else true)) then eqFields P fs (ints xs) (ints ys) else some false
   | some (.int _),some (.int j a),some (.int k b)=>bif pE j k then(bif bm a b then eqFields P fs (ints xs) (ints ys) else some false) else none
   | some .string,some (.str a),some (.str b)=>bif qq a b then eqFields P fs (ints xs) (ints ys) else some false
   | some (.struct gs),_,_=>_
   | some (.array m e),_,_=>_
   | _,_,_=>none)=_
  rw[hu,n1,n2,List.drop_eq_getElem_cons l1,List.drop_eq_getElem_cons l2,ih];show(bif bm xs[k] ys[k] then _ else some false)=some (bif bm xs[k] ys[k] then Ai (xs.drop (k+1)) (ys.drop (k+1)) else false);cases bm xs[k] ys[k]<;>rfl
theorem sR {P:Program} {t:TypeId} {n:Nat} {xs ys:List Int} (h:gf P t n=true) (hx:xs.length=n) (hy:ys.length=n):AD P t (.agg (ints xs)) (.agg (ints ys))=some (cG xs ys):=by
 unfold gf at h;split at h
 ·rename_i fs hs;simp only[Bool.and_eq_true,Bool.not_eq_true'] at h;obtain⟨h1,h2,h3,h4,h5⟩:=h;have hn:fs.toList.length=n:=Nat.eq_of_beq_eq_true h2;unfold AD;dsimp only;rw[hs];dsimp only;rw[h3,h4,h5];simp only[Bool.not_true,Bool.or_false,cond_false];rw[oz fs.toList 0 xs ys h1 (by omega) (by omega),List.drop_zero,List.drop_zero,Bb]
 ·cases h
section
variable {P:Program} {G:Cx} {ev:Operand→Option AV} {σ:av}
theorem HS {t r:TypeId} {x y:Operand} {n:Nat} {ca cb:List Int} (h:gf P t n=true) (ha:ca.length=n) (hb:cb.length=n) (hx:ev x=some (.agg (ints ca))) (hy:ev y=some (.agg (ints cb))):dg P G ev σ (.binOp .eql t x y r)= .val (.bool (cG ca cb)) σ:=by
 refine aA hx hy ?_;show kG P .eql t _ _=_;unfold kG;dsimp only;rw[sR h ha hb]
theorem By {t r:TypeId} {x y:Operand} {n:Nat} {ca cb:List Int} (h:gf P t n=true) (ha:ca.length=n) (hb:cb.length=n) (hx:ev x=some (.agg (ints ca))) (hy:ev y=some (.agg (ints cb))):dg P G ev σ (.binOp .neq t x y r)= .val (.bool (bif cG ca cb then false else true)) σ:=by
 refine aA hx hy ?_;show kG P .neq t _ _=_;unfold kG;dsimp only;rw[sR h ha hb]
end
structure cS where
 mj:Int
 index:Int
structure cK where
 kind:Int
 loc:Int
 order:Int
 read:Int
 write:Int
structure XG where
 init:List Int
 threads:List (List cK)
 from_:List (List cS)
 order:List (List cS)
def cS.ints (x:cS):List Int:=[x.mj,x.index]
def cK.ints (x:cK):List Int:=[x.kind,x.loc,x.order,x.read,x.write]
theorem cS.same {x y:cS}:cG x.ints y.ints=cG x y:=by
 rw[Bool.eq_iff_iff,cD,cD];cases x;cases y;simp[cS.ints]
theorem cK.same {x y:cK}:cG x.ints y.ints=cG x y:=by
 rw[Bool.eq_iff_iff,cD,cD];cases x;cases y;simp[cK.ints]
def lg (x:cS) (vs:List AV):Prop:=vs=ints x.ints
def lh (x:cK) (vs:List AV):Prop:=vs=ints x.ints
structure fe (K:KP) (g:XG) (a b c d:AV):Prop where
 init:bD K 1 dI g.init a
 threads:bD K 1 (RL K 5 lh) g.threads b
 from_:bD K 1 (RL K 2 lg) g.from_ c
 order:bD K 1 (RL K 2 lg) g.order d
theorem kB {a b:XG}:cG a b=(cG a.init b.init && (cG a.threads b.threads && (cG a.from_ b.from_ && cG a.order b.order))):=by
 rw[Bool.eq_iff_iff,cD];cases a;cases b;simp[cD]
noncomputable def dM (e:cK):Bool:=bif bm e.kind 1 then true else bm e.kind 3
noncomputable def aZ (e:cK):Bool:=bif bm e.kind 2 then true else bm e.kind 3
noncomputable def bk (b:Bool):Bool:=bif b then false else true
noncomputable def dk (e:cK) (n:Int):Bool:=
 bif cg e.kind 1 then false else bif cg 4 e.kind then false else bif cg e.order 1 then false else bif cg 6 e.order then false else
 bif (bif (!dM e) then bk (bm e.read 0) else false) then false else bif (bif (!aZ e) then bk (bm e.write 0) else false) then false else
 bif bm e.kind 4 then bm e.loc 0 else bif bk (cg e.loc 0) then cg e.loc n else false
def eU (g:XG) (id:cS):Option cK:=
 match id.mj,id.index with
 | .ofNat 0,.ofNat i=>(g.init[i]?).map fun v=>⟨2,i,1,0,v⟩
 | .ofNat (t+1),.ofNat i=>(g.threads[t]?).bind (·[i]?)
 | _,_=>none
def Bg (x:Option cK):cK:=x.getD ⟨0,0,0,0,0⟩
theorem uY {g:XG} {th ix:Int} (h:cg th 0=true):eU g ⟨th,ix⟩=none:=by
 rw[eS,decide_eq_true_iff] at h;cases th with
 | ofNat t=>exact absurd h (by simp)
 | negSucc t=>rfl
theorem vy {g:XG} {th ix:Int} (h:cg ix 0=true):eU g ⟨th,ix⟩=none:=by
 rw[eS,decide_eq_true_iff] at h;cases ix with
 | ofNat t=>exact absurd h (by simp)
 | negSucc t=>cases th with
  | ofNat n=>cases n<;>rfl
  | negSucc n=>rfl
theorem DO {g:XG} {th ix:Int} (h:cg (.ofNat g.threads.length) th=true):eU g ⟨th,ix⟩=none:=by
 rw[eS,decide_eq_true_iff] at h;cases th with
 | negSucc t=>rfl
 | ofNat t=>
  have h:g.threads.length<t:=Int.ofNat_lt.1 h;cases t with
  | zero=>omega
  | succ t=>
   cases ix with
   | negSucc n=>rfl
   | ofNat n=>
    show(g.threads[t]?).bind _=none;rw[List.getElem?_eq_none (by omega)];rfl
theorem qB {n:Int} (h:cg n 0=false):∃m:Nat,n= .ofNat m:=by
 rw[eS,decide_eq_false_iff_not] at h;cases n with
 | ofNat m=>exact⟨m,rfl⟩
 | negSucc m=>exact absurd (Int.negSucc_lt_zero m) h
theorem FG {n:Nat} (h:bm (.ofNat n) 0=false):∃m:Nat,n=m+1:=by
 cases n with
 | zero=>cases h
 | succ m=>exact⟨m,rfl⟩
theorem eE {t:Nat} (h:t≤9223372036854775807):wr .i64 (Int.sub (.ofNat (t+1)) 1)= .ofNat t:=by
 have e:Int.sub (.ofNat (t+1)) 1= .ofNat t:=by
  show((t+1:Nat):Int)-1=(t:Int);omega
 rw[e];show(bif Nat.ble t 9223372036854775807 then _ else _)=_;rw[show Nat.ble t 9223372036854775807=true by rw[Nat.ble_eq];exact h];rfl
theorem qf {a b:Nat} (h:cg (.ofNat a) (.ofNat b)=false):b≤a:=bz h
theorem tv {a b:Nat} (h:(bif cg (.ofNat a) (.ofNat b) then false else true)=false):a<b:=cA (aY h)
theorem sg {a b:Nat} (h:(bif cg (.ofNat a) (.ofNat b) then false else true)=true):b≤a:=bz (bQ h)
section
variable {P:Program} {G:Cx} {n:Nat} {t:PT AV} {σ:av} {Q:Ex→PT AV→av→Prop}
theorem v8 {fn:Func} {j k ty b m e:Nat} {ro:Bool} {cells:List AV} {v:AV} (hr:fn.results.toList= [.cell j ty,.tmp k]) (h1:t.get j=some (.ptr b 0)) (hm:σ.m.get b=some (.row cells e ro)) (ha:dc P ty=some (some m)) (hn:cells.length=m) (h2:t.get k=some v):dv P fn t σ=some (.tuple [.agg cells,v]):=by
 unfold dv;rw[hr]
 have e1:eo P t σ (.cell j ty)=some (AV.agg cells):=by
  show(match t.get (posOf j) with
   | some (.ptr b off)=>match σ.m.get b with
    | some (.row cells _ _)=>match dc P ty with
     | some (some n)=>bif Nat.ble (off+n) (cr cells) then some (AV.agg (takeN (cX cells off) n)) else none
     | some none=>nth cells off
     | none=>none
    | _=>none
   | _=>none)=_
  rw[show t.get (posOf j)=some (.ptr b 0) from h1];dsimp only;rw[hm];dsimp only;rw[ha];dsimp only;rw[bn,hn,Nat.zero_add,show Nat.ble m m=true by rw[Nat.ble_eq];exact Nat.le_refl _,cB,cU,List.drop_zero,←hn,List.take_length];rfl
 have e2:eo P t σ (.tmp k)=some v:=h2
 have:bO (eo P t σ) [.cell j ty,.tmp k]=some [AV.agg cells,v]:=by
  unfold bO;simp only[e1,e2]
 rw[this]
theorem br {fn:Func} {R:AV→av→Prop} {j k ty b m e:Nat} {ro:Bool} {cells:List AV} {v:AV} (hr:fn.results.toList= [.cell j ty,.tmp k]) (h1:t.get j=some (.ptr b 0)) (hm:σ.m.get b=some (.row cells e ro)) (ha:dc P ty=some (some m)) (hn:cells.length=m) (h2:t.get k=some v) (hR:R (.tuple [.agg cells,v]) σ):xk P fn R .ret t σ:=
 ⟨.inr rfl,_,v8 hr h1 hm ha hn h2,hR⟩
end
end Go.Ev
namespace Go.Ev
variable [Env]
noncomputable def ey (g:XG) (id from_:cS):Bool:=
 bif !dM (Bg (eU g id)) then cG [from_.mj,from_.index] [0,0] else
 bif (eU g from_).isSome then
  bif (bif cG [from_.mj,from_.index] [id.mj,id.index] then false else true) then
   bif aZ (Bg (eU g from_)) then
    bif bm (Bg (eU g from_)).loc (Bg (eU g id)).loc then bm (Bg (eU g from_)).write (Bg (eU g id)).read else false
   else false
  else false
 else false
def gE (g:XG):Bool:=bif cg 4 (.ofNat g.threads.length) then true else bif cg 6 (.ofNat g.init.length) then true else g.threads.any fun l=>cg 14 (.ofNat l.length)
abbrev LM:=List (List Int×Int)
inductive eh (n:Nat):List ee→LM→Prop
 | nil:eh n [] []
 | cons {e:ee} {k:List Int} {v:Int} {es:List ee} {m:LM}:k.length=n→e.key= .agg (ints k)→e.val= .int .i64 v→eh n es m→eh n (e::es) ((k,v)::m)
noncomputable def ns:LM→List Int→Nat→Option (Nat×Int)
 | [],_,_=>none
 | (k',v)::m,k,i=>bif cG k k' then some (i,v) else ns m k (i+1)
noncomputable def eF (m:LM) (k:List Int):Option Int:=(ns m k 0).map (·.2)
noncomputable def mT (m:LM) (k:List Int) (v:Int):LM:=
 match ns m k 0 with
 | some (i,_)=>m.set i (k,v)
 | none=>m++[(k,v)]
noncomputable def jh (m:LM) (k:List Int):LM:=
 match ns m k 0 with
 | some (i,_)=>m.eraseIdx i
 | none=>m
theorem eh.length {n:Nat} {es:List ee} {m:LM} (h:eh n es m):es.length=m.length:=by
 induction h with
 | nil=>rfl
 | cons _ _ _ _ ih=>simp[ih]
theorem eh.set {n:Nat} {es:List ee} {m:LM} (h:eh n es m) {e:ee} {k:List Int} {v:Int} (h1:k.length=n) (h2:e.key= .agg (ints k)) (h3:e.val= .int .i64 v):∀i,eh n (es.set i e) (m.set i (k,v)):=by
 induction h with
 | nil=>intro i;exact .nil
 | cons a b c d ih=>
  intro i;cases i with
  | zero=>exact .cons h1 h2 h3 d
  | succ i=>exact .cons a b c (ih i)
theorem eh.snoc {n:Nat} {es:List ee} {m:LM} (h:eh n es m) {e:ee} {k:List Int} {v:Int} (h1:k.length=n) (h2:e.key= .agg (ints k)) (h3:e.val= .int .i64 v):eh n (es++[e]) (m++[(k,v)]):=by
 induction h with
 | nil=>exact .cons h1 h2 h3 .nil
 | cons a b c d ih=>exact .cons a b c ih
theorem eh.erase {n:Nat} {es:List ee} {m:LM} (h:eh n es m):∀i,eh n (es.eraseIdx i) (m.eraseIdx i):=by
 induction h with
 | nil=>intro i;exact .nil
 | cons a b c d ih=>
  intro i;cases i with
  | zero=>exact d
  | succ i=>exact .cons a b c (ih i)
theorem eh.at {n:Nat} {es:List ee} {m:LM} (h:eh n es m):∀{i:Nat} {k:List Int} {v:Int},m[i]?=some (k,v)→∃e,es[i]?=some e∧k.length=n∧e.key= .agg (ints k):=by
 induction h with
 | nil=>intro i k v hh;simp at hh
 | cons a b c d ih=>
  intro i k v hh;cases i with
  | zero=>simp at hh;obtain⟨rfl,rfl⟩:=hh;exact⟨_,rfl,a,b⟩
  | succ i=>simpa using ih (by simpa using hh)
theorem sP:∀(es:List ee) (i:Nat),tO es i=es.eraseIdx i
 | [],_=>rfl
 | _::_,0=>rfl
 | e::es,i+1=>by
  show e::tO es i=e::es.eraseIdx i;rw[sP es i]
theorem nF:∀{m:LM} {k:List Int} {i j:Nat} {v:Int},ns m k i=some (j,v)→i≤j∧m[j-i]?=some (k,v)
 | [],k,i,j,v,h=>by cases h
 | (k',v')::m,k,i,j,v,h=>by
  have h':(bif cG k k' then some (i,v') else ns m k (i+1))=some (j,v):=h;cases hs:cG k k' with
  | true=>
   rw[hs] at h';cases h';rw[cD] at hs;subst hs;simp
  | false=>
   rw[hs] at h';obtain⟨h1,h2⟩:=nF h';refine⟨by omega,?_⟩;rw[show j-i=j-(i+1)+1 by omega];simpa using h2
theorem ot:∀(xs:List Int),mY (ints xs) (ints xs)=true
 | []=>rfl
 | x::xs=>by
  have e:oO (.int .i64 x) (.int .i64 x)=some true:=by
   show(bif pE .i64 .i64 then some (bm x x) else none)=some true;rw[ei];simp[pE]
  show(match oO (.int .i64 x) (.int .i64 x) with | some true=>mY (ints xs) (ints xs) | _=>false)=true;rw[e];exact ot xs
section
variable {P:Program}
theorem sF {t:TypeId} {fs:Array Field} {n:Nat} (hu:P.underlying t=some (.struct fs)) (hs:gf P t n=true) {k:List Int} (hk:k.length=n) {es:List ee} {m:LM} (h:eh n es m):∀i,mG P t (.agg (ints k)) es i=some ((ns m k i).map fun x=>(x.1,.int .i64 x.2)):=by
 induction h with
 | nil=>intro i;rfl
 | @cons e k' v es m a b c d ih=>
  intro i
  have hq:mL P t (.agg (ints k)) e.key=some (cG k k'):=by
   unfold mL;rw[hu,b];exact sR hs hk a
  show(match mL P t (.agg (ints k)) e.key with
   | some true=>some (some (i,e.val))
   | some false=>mG P t (.agg (ints k)) es (i+1)
   | none=>none)=some (Option.map _ (bif cG k k' then some (i,v) else ns m k (i+1)))
  rw[hq];cases cG k k' with
  | true=>rw[c];rfl
  | false=>exact ih (i+1)
structure Ag (P:Program) (t kt et:TypeId) (n:Nat):Prop where
 ty:P.underlying t=some (.map kt et)
 plain:plainKey P kt=true
 ints:gf P kt n=true
 zero:ej P et=some (.int .i64 0)
 shape:∀k:List Int,k.length=n→jO P kt (.agg (Go.Ev.ints k))=true
theorem jb {t:TypeId} {n:Nat} (h:gf P t n=true):∃fs,P.underlying t=some (.struct fs):=by
 unfold gf at h;split at h
 ·rename_i fs hs;unfold structOf at hs;rw[lJ] at hs;split at hs
  ·rename_i fs' hu;exact⟨_,hu⟩
  ·cases hs
 ·cases h
variable {G:Cx} {ev:Operand→Option AV} {σ:av}
theorem Ep {t kt et:TypeId} {n:Nat} (hT:Ag P t kt et n) {b:Nat} {es:List ee} {ck:Nat} {m:LM} (hm:eh n es m) (hb:σ.m.get b=some (.map es ck)) {mo ko xo:Operand} {k:List Int} {v:Int} (hk:k.length=n) (h1:ev mo=some (.map b)) (h2:ev ko=some (.agg (ints k))) (h3:ev xo=some (.int .i64 v)):
  ∃es' ck',dg P G ev σ (.mapUpdate t mo ko xo)= .skip (σ.setObj b (.map es' ck'))∧eh n es' (mT m k v):=by
 obtain⟨fs,hu⟩:=jb hT.ints;have hf:=sF hu hT.ints hk hm 0
 have key:∃es' ck',kq P σ t (.map b) (.agg (ints k)) (.int .i64 v)=some (σ.setObj b (.map es' ck'))∧eh n es' (mT m k v):=by
  unfold kq mT;rw[hT.ty];dsimp only;rw[hb];dsimp only;rw[hT.plain,hT.shape k hk];simp only[Bool.and_self,cond_true];rw[hf];cases hl:ns m k 0 with
  | none=>exact⟨_,_,rfl,by rw[cT];exact hm.snoc hk rfl rfl⟩
  | some x=>
   obtain⟨i,v0⟩:=x;have hi:=(nF hl).2;rw[Nat.sub_zero] at hi;obtain⟨e,he,_,hk'⟩:=hm.at hi;simp only[Option.map_some];rw[dU,he];dsimp only;have hs:sameKey e.key (.agg (ints k))=true:=by rw[hk'];exact ot k
   rw[hs];exact⟨_,_,rfl,by unfold vW;rw[qE];exact hm.set (e:={key:=.agg (ints k),val:=.int .i64 v,born:=e.born}) hk rfl rfl i⟩
 obtain⟨es',ck',h4,h5⟩:=key;refine⟨es',ck',iI rfl ?_,h5⟩;simp only[eW,h1,h2,h3,h4]
theorem El {t kt et:TypeId} {n:Nat} (hT:Ag P t kt et n) {b:Nat} {es:List ee} {ck:Nat} {m:LM} (hm:eh n es m) (hb:σ.m.get b=some (.map es ck)) {mo ko:Operand} {k:List Int} (hk:k.length=n) (h1:ev mo=some (.map b)) (h2:ev ko=some (.agg (ints k))):
  dg P G ev σ (.lookup t mo ko true)= .val (.tuple [.int .i64 ((eF m k).getD 0),.bool (eF m k).isSome]) σ:=by
 obtain⟨fs,hu⟩:=jb hT.ints;have hf:=sF hu hT.ints hk hm 0;refine vR rfl ?_;simp only[fg,hT.ty,h2,h1,hb,hT.plain,hT.shape k hk,Bool.and_self,cond_true,hf,hT.zero];unfold eF;cases ns m k 0 with
 | none=>rfl
 | some x=>rfl
theorem EH {c:Call} {t kt et:TypeId} {n:Nat} (hT:Ag P t kt et n) {b:Nat} {es:List ee} {ck:Nat} {m:LM} (hm:eh n es m) (hb:σ.m.get b=some (.map es ck)) {mo ko:Operand} {k:List Int} (hk:k.length=n) (hc:c.callee= .builtin .delete) (ht:c.argTypes[0]?=some t) (ha:c.args.toList= [mo,ko]) (h1:ev mo=some (.map b)) (h2:ev ko=some (.agg (ints k))):
  ∃es',dg P G ev σ (.call c)= .val (.tuple []) (σ.setObj b (.map es' ck))∧eh n es' (jh m k):=by
 obtain⟨fs,hu⟩:=jb hT.ints;have hf:=sF hu hT.ints hk hm 0
 have key:∃es',nH P σ c.argTypes (.map b) (.agg (ints k))=some (σ.setObj b (.map es' ck))∧eh n es' (jh m k):=by
  unfold nH jh;rw[ht];dsimp only;rw[hT.ty];dsimp only;rw[hb];dsimp only;rw[hT.plain,hT.shape k hk];simp only[Bool.and_self,cond_true];rw[hf];cases hl:ns m k 0 with
  | none=>exact⟨_,rfl,hm⟩
  | some x=>
   obtain⟨i,v0⟩:=x;exact⟨_,rfl,by rw[sP];exact hm.erase i⟩
 obtain⟨es',h4,h5⟩:=key;refine⟨es',iI (by simp[kindOf,hc]) ?_,h5⟩
 have he:qp ev [mo,ko]=some [.map b,.agg (ints k)]:=by
  unfold qp bO;simp only[h1,h2]
 simp only[eW,hc,ha,he,h4]
theorem Ey {c:Call} {t kt et:TypeId} {n:Nat} (hT:Ag P t kt et n) {b:Nat} {es:List ee} {ck:Nat} {m:LM} (hm:eh n es m) (hb:σ.m.get b=some (.map es ck)) {mo:Operand} (hc:c.callee= .builtin .len) (ht:c.argTypes[0]?=some t) (ha:c.args.toList= [mo]) (h1:ev mo=some (.map b)):
  dg P G ev σ (.call c)= .val (.int .i64 (.ofNat m.length)) σ:=by
 refine vR (by simp[kindOf,hc,isMap,ht,hT.ty]) ?_;simp only[fg,hc,ht,ha,hT.ty,h1,hb,bn,hm.length]
end
section
variable {P:Program} {G:Cx} {n:Nat} {t:PT AV} {σ:av} {K:KP} {L:Own} {Q:Ex→PT AV→av→Prop} {ops:Array Oper} {o:Oper} {l:List Oper}
theorem HV (hs:St σ K L) {t':Nat→PT AV} (hw:bp ops t o=some true) (hv:dg P G (aX G t) σ o.op= .val (.map σ.next) (σ.alloc (.map [] 0))) (hp:∀b,cP t n o.dst (.map b)=some (t' b))
  (h:∀(σ':av) (b:Nat),St σ' K ((b,.map [] 0)::L)→cq P G ops n l (t' b) σ' Q):cq P G ops n (o::l) t σ Q:=
 aa hw hv (hp _) (h _ _ (hs.alloc _))
theorem Cz {ev:Operand→Option AV} {ty:TypeId}:dg P G ev σ (.makeMap ty none)= .val (.map σ.next) (σ.alloc (.map [] 0)):=by
 exact pY (op:=.makeMap ty none) (mk:=.map) (ob:=.map [] 0) rfl rfl
theorem BY {ty kt et:TypeId} {kn:Nat} (hT:Ag P ty kt et kn) {b:Nat} {es:List ee} {ck:Nat} {m:LM} {x:Nat×bJ} (hm:eh kn es m) (hs:St σ K (x::(b,.map es ck)::L)) {mo ko xo:Operand} {k:List Int} {v:Int} {t':PT AV} (hk:k.length=kn) (hw:bp ops t o=some true) (ho:o.op= .mapUpdate ty mo ko xo)
  (h1:aX G t mo=some (.map b)) (h2:aX G t ko=some (.agg (ints k))) (h3:aX G t xo=some (.int .i64 v)) (hp:cP t n o.dst unit=some t')
  (h:∀σ' es' ck',St σ' K (x::(b,.map es' ck')::L)→eh kn es' (mT m k v)→cq P G ops n l t' σ' Q):cq P G ops n (o::l) t σ Q:=by
 obtain⟨es',ck',e1,e2⟩:=Ep (G:=G) hT hm (hs.get 1 rfl) hk h1 h2 h3;exact fD hw (by rw[ho];exact e1) hp (h _ _ _ (hs.Fe _) e2)
theorem CQ {c:Call} {ty kt et:TypeId} {kn:Nat} (hT:Ag P ty kt et kn) {b:Nat} {es:List ee} {ck:Nat} {m:LM} {x:Nat×bJ} (hm:eh kn es m) (hs:St σ K (x::(b,.map es ck)::L)) {mo ko:Operand} {k:List Int} {t':PT AV} (hk:k.length=kn) (hw:bp ops t o=some true) (ho:o.op= .call c)
  (hc:c.callee= .builtin .delete) (ht:c.argTypes[0]?=some ty) (ha:c.args.toList= [mo,ko]) (h1:aX G t mo=some (.map b)) (h2:aX G t ko=some (.agg (ints k))) (hp:cP t n o.dst (.tuple [])=some t')
  (h:∀σ' es',St σ' K (x::(b,.map es' ck)::L)→eh kn es' (jh m k)→cq P G ops n l t' σ' Q):cq P G ops n (o::l) t σ Q:=by
 obtain⟨es',e1,e2⟩:=EH (G:=G) hT hm (hs.get 1 rfl) hk hc ht ha h1 h2;exact aa hw (by rw[ho];exact e1) hp (h _ _ (hs.Fe _) e2)
end
end Go.Ev
namespace Go.Ev
variable [Env]
noncomputable def tN (t:Nat) (m:LM) (n:Nat) (e:cK):LM:=bif aZ e then mT m [.ofNat (t+1),.ofNat n] e.loc else m
noncomputable def om (t:Nat):List cK→Nat→LM→LM
 | [],_,m=>m
 | e::l,n,m=>om t l (n+1) (tN t m n e)
noncomputable def mO:List (List cK)→Nat→LM→LM
 | [],_,m=>m
 | l::r,t,m=>mO r (t+1) (om t l 0 m)
noncomputable def jv (loc:Nat):List cS→LM→Option LM
 | [],m=>some m
 | id::l,m=>bif (eF m id.ints).isSome then(bif bm ((eF m id.ints).getD 0) (.ofNat loc) then jv loc l (jh m id.ints) else none) else none
noncomputable def kL:List (List cS)→Nat→LM→Option LM
 | [],_,m=>some m
 | l::r,loc,m=>(jv loc l m).bind (kL r (loc+1))
noncomputable def dL (g:XG):Bool:=
 match kL g.order 0 (mO g.threads 0 []) with
 | some m=>bm (.ofNat m.length) 0
 | none=>false
theorem b0 {α:Type} {l:List α} {i:Nat} {x:α} (h:l[i]?=some x):l.drop i=x::l.drop (i+1):=by
 obtain⟨hlt,hx⟩:=List.getElem?_eq_some_iff.1 h;rw[List.drop_eq_getElem_cons hlt,hx]
theorem eQ {α:Type} {l:List α} {i:Nat} (h:l.length≤i):l.drop i= []:=List.drop_eq_nil_of_le h
end Go.Ev
namespace Go.Ev
theorem mJ {b:Bool} (h:(!b)=true):b=false:=by cases b<;>simp_all
theorem gq {b:Bool} (h:(!b)=false):b=true:=by cases b<;>simp_all
end Go.Ev
namespace Go.Ev
variable [Env]
def qK {α:Type} (p:α→Bool):List α→Nat→Int
 | [],_=>-1
 | x::r,i=>bif p x then .ofNat i else qK p r (i+1)
theorem tH {α:Type} {p:α→Bool}:∀(l:List α) (i:Nat),(bif cg (qK p l i) 0 then false else true)=l.any p
 | [],_=>rfl
 | x::r,i=>by
  show(bif cg (bif p x then .ofNat i else qK p r (i+1)) 0 then false else true)=_;rw[List.any_cons];cases p x with
  | true=>rfl
  | false=>exact tH r (i+1)
noncomputable def wj (g:XG) (t n:Nat) (e:cK) (f:cS):Bool:=bif dk e (.ofNat g.init.length) then ey g ⟨.ofNat (t+1),.ofNat n⟩ f else false
noncomputable def nr (g:XG) (t:Nat):List cK→List cS→Nat→Bool
 | e::l,f::q,n=>bif wj g t n e f then nr g t l q (n+1) else false
 | [],_,_=>true
 | _::_,[],_=>false
noncomputable def jf (g:XG):List (List cK)→List (List cS)→Nat→Bool
 | l::r,f::q,t=>bif bm (.ofNat f.length) (.ofNat l.length) then(bif nr g t l f 0 then jf g r q (t+1) else false) else false
 | [],_,_=>true
 | _::_,[],_=>false
noncomputable def bL (g:XG):Int:=
 bif gE g then 3 else bif bm (.ofNat g.from_.length) (.ofNat g.threads.length) then(bif bm (.ofNat g.order.length) (.ofNat g.init.length) then(bif jf g g.threads g.from_ 0 then(bif dL g then 0 else 2) else 2) else 2) else 2
theorem tL:∀(l:List AV) (off:Nat),cO [] l off=l
 | [],_=>rfl
 | x::l,0=>rfl
 | x::l,off+1=>by
  show x::cO [] l off=x::l;rw[tL l off]
noncomputable def vT (P:Program) (e:TypeId) (m:Nat):Bool:=
 match P.info? e with
 | some j=>Nat.beq j.size m && (Nat.ble 1 j.size && (Nat.ble j.bytes 65536 && ((j.zero.bind oD).any fun z=>(cm z).any fun cs=>Nat.beq (cr cs) j.size)))
 | none=>false
theorem rB:∀(l r:List AV),bT l=true→bT r=true→bT (l++r)=true
 | [],r,_,h=>h
 | v::l,r,h,h'=>by
  have h1:(bif jd v then bT l else false)=true:=h;cases hv:jd v with
  | false=>rw[hv] at h1;cases h1
  | true=>rw[hv] at h1;exact ae hv (rB l r h1 h')
theorem ru {m:Nat}:∀(n:Nat) (cells:List AV),cells.length=n*m→(∀i,i<n→bT ((cells.drop (i*m)).take m)=true)→bT cells=true
 | 0,cells,h,_=>by
  rw[Nat.zero_mul] at h;rw[List.eq_nil_of_length_eq_zero h];rfl
 | n+1,cells,h,hh=>by
  have e:cells=cells.take m++cells.drop m:=(List.take_append_drop m cells).symm;rw[Nat.succ_mul] at h;rw[e];refine rB _ _ (by have:=hh 0 (by omega);rwa[Nat.zero_mul,List.drop_zero] at this) (ru (m:=m) n (cells.drop m) (by rw[List.length_drop];omega) fun i hi=>?_);have:=hh (i+1) (by omega);rwa[show(i+1)*m=m+i*m by rw[Nat.succ_mul,Nat.add_comm],←List.drop_drop] at this
section
variable {P:Program} {G:Cx} {σ:av} {K:KP} {L:Own}
theorem nQ {α:Type} {m:Nat} {R:α→List AV→Prop} {l:List α} {v:AV} (hst:St σ K L) (h:bD K m R l v) (hleaf:∀x vs,R x vs→bT vs=true):
  ∃news,iC σ m v=some (l.length,news)∧news.length=l.length*m∧bT news=true∧∀(i:Nat) (x:α),l[i]?=some x→R x ((news.drop (i*m)).take m):=by
 rcases h with ⟨rfl,rfl⟩ | ⟨b,off,c,cells,e,ro,rfl,h2,h3,h4,h5,h6⟩
 ·exact⟨[],rfl,(Nat.zero_mul m).symm,rfl,fun i x hx=>by simp at hx⟩
 ·have hR:∀(i:Nat) (x:α),l[i]?=some x→R x ((((cells.drop off).take (l.length*m)).drop (i*m)).take m):=fun i x hx=>by
   have hlt:i<l.length:=(List.getElem?_eq_some_iff.1 hx).1;have hle:(i+1)*m≤l.length*m:=Nat.mul_le_mul_right _ hlt;rw[Nat.succ_mul] at hle;rw[List.drop_take,List.take_take,Nat.min_eq_left (by omega),List.drop_drop];exact h6 i x hx
  have hn:((cells.drop off).take (l.length*m)).length=l.length*m:=by rw[List.length_take,List.length_drop];omega
  refine⟨(cells.drop off).take (l.length*m),?_,hn,ru l.length _ hn fun i hi=>hleaf _ _ (hR i l[i] (List.getElem?_eq_getElem hi)),hR⟩;unfold iC;dsimp only;rw[hst.dX h3];dsimp only;rw[bn,show Nat.ble (off+l.length*m) cells.length=true by rw[Nat.ble_eq];exact h4,cB,cU];rfl
theorem xV {α:Type} {m e:Nat} {R:α→List AV→Prop} {l2:List α} {v2:AV} {b len1 e1:Nat} {ew:List AV} {c:n8} {ts:Array TypeId} {t:TypeId} (hs:St σ K ((b,.row ew e1 false)::L)) (hx:bD K m R l2 v2) (hleaf:∀x vs,R x vs→bT vs=true) (hn:l2.length≤1048576)
  (hc1:ew.length=len1*m) (hl1:len1≤1048576) (hcap:c= .known len1∨(c= .upto m∧e1=e)) (ht:ts[0]?=some t) (hu:P.underlying t=some (.slice e)) (ha:vT P e m=true) (h2:dn P ts[1]?=true):
  ∃σ' b' c' news e',fy P σ ts (.slice b 0 len1 c) v2= .val (.slice b' 0 (len1+l2.length) c') σ'∧St σ' K ((b',.row (ew++news) e' false)::L)∧news.length=l2.length*m∧(∀(i:Nat) (x:α),l2[i]?=some x→R x ((news.drop (i*m)).take m))∧(c'= .known (len1+l2.length)∨(c'= .upto m∧e'=e)):=by
 obtain⟨news,s1,s2,s3,s4⟩:=nQ hs hx hleaf;unfold vT at ha;split at ha
 ·rename_i j hj;simp only[Bool.and_eq_true] at ha;obtain⟨a1,a2,a3,a4⟩:=ha;have hm:j.size=m:=Nat.eq_of_beq_eq_true a1;subst hm;have hz:((P.info? e).any fun j=>(j.zero.bind oD).any fun z=>(cm z).any fun cs=>Nat.beq (cr cs) j.size)=true:=by rw[hj];exact a4
  have hb:=hs.get 0 rfl;unfold fy;rw[ht];dsimp only;rw[hu];dsimp only;rw[hj];dsimp only;rw[h2,a2,a3];simp only[Bool.and_self,cond_true];rw[s1];dsimp only;rw[hj] at hz;rw[s3,show Nat.ble l2.length 1048576=true by rw[Nat.ble_eq];exact hn,hz];simp only[Bool.and_self,cond_true];have hle:Nat.ble (0+len1*j.size) (cr ew)=true:=by rw[Nat.ble_eq,bn,hc1];omega
  have htake:takeN (cX ew 0) (len1*j.size)=ew:=by rw[cB,cU,List.drop_zero,←hc1,List.take_length]
  have hl1':Nat.ble len1 1048576=true:=by rw[Nat.ble_eq];exact hl1
  rcases hcap with rfl | ⟨rfl,rfl⟩
  ·dsimp only
   by_cases h0:l2.length=0
   ·have hnews:news= []:=List.eq_nil_of_length_eq_zero (by rw[s2,h0,Nat.zero_mul]);subst hnews;rw[h0,show Nat.ble (len1+0) len1=true by rw[Nat.ble_eq];exact Nat.le_refl _];simp only[cond_true];rw[hb];dsimp only;rw[show Nat.ble (0+len1*j.size+cr []) (cr ew)=true by rw[Nat.ble_eq,bn,bn,hc1];simp];simp only[cond_true];refine⟨_,b,.known len1,[],e1,rfl,?_,by simp,s4,.inl rfl⟩;rw[tL,List.append_nil];exact hs.mn _
   ·have:Nat.ble (len1+l2.length) len1=false:=by
     cases hh:Nat.ble (len1+l2.length) len1 with
     | false=>rfl
     | true=>rw[Nat.ble_eq] at hh;omega
    rw[this];simp only[cond_false];rw[hb];dsimp only;rw[hle,hl1',htake,cT];simp only[Bool.and_self,cond_true];refine⟨_,_,_,news,e,rfl,?_,s2,s4,.inr ⟨rfl,rfl⟩⟩;exact((hs.alloc _).perm (List.Perm.swap ..)).pop
  ·dsimp only
   by_cases h0:l2.length=0
   ·have hnews:news= []:=List.eq_nil_of_length_eq_zero (by rw[s2,h0,Nat.zero_mul]);subst hnews;rw[h0];exact⟨_,b,.upto j.size,[],e1,rfl,by rw[List.append_nil];exact hs,by simp,s4,.inr ⟨rfl,rfl⟩⟩
   ·have:Nat.beq l2.length 0=false:=by
     cases hh:Nat.beq l2.length 0 with
     | false=>rfl
     | true=>exact absurd (Nat.eq_of_beq_eq_true hh) h0
    rw[this,Nat.beq_refl,hl1'];simp only[Bool.and_self,cond_true,cond_false];rw[hb];dsimp only
    have hnot:Nat.ble (0+len1*j.size+cr news) (cr ew)=false:=by
     cases hh:Nat.ble (0+len1*j.size+cr news) (cr ew) with
     | false=>rfl
     | true=>
      rw[Nat.ble_eq,bn,bn,hc1,s2] at hh;have h1:1≤j.size:=by simpa [Nat.ble_eq] using a2
      have:1≤l2.length*j.size:=Nat.mul_pos (by omega) h1;omega
    rw[hnot,Bool.and_false];simp only[cond_false];rw[hle,Nat.beq_refl,htake,cT];simp only[Bool.and_self,cond_true];exact⟨_,_,_,news,e1,rfl,hs.ta _,s2,s4,.inr ⟨rfl,rfl⟩⟩
 ·cases ha
end
section
variable {P:Program} {G:Cx} {n:Nat} {t:PT AV} {σ:av} {K:KP} {L:Own} {Q:Ex→PT AV→av→Prop} {ops:Array Oper} {o:Oper} {l:List Oper}
theorem dQ {ev:Operand→Option AV} {cl:Call} {so xo:Operand} {s x:AV} {r:HR} (hc:cl.callee= .builtin .append) (ha:cl.args.toList= [so,xo]) (h1:ev so=some s) (h2:ev xo=some x) (hsl:dn P cl.argTypes[1]?=true) (h:fy P σ cl.argTypes s x=r):dg P G ev σ (.call cl)=r:=by
 refine iI (by simp[kindOf,hc]) ?_
 have he:qp ev [so,xo]=some [s,x]:=by
  unfold qp bO;simp only[h1,h2]
 simp only[eW,hc,ha,he,hsl,cond_true];exact h
theorem lS {α:Type} {m e:Nat} {R:α→List AV→Prop} {l2:List α} {v2:AV} {b len1 e1:Nat} {ew:List AV} {c:n8} {ty:TypeId} {cl:Call} {so xo:Operand} {t':AV→PT AV} (hs:St σ K ((b,.row ew e1 false)::L)) (hx:bD K m R l2 v2) (hleaf:∀x vs,R x vs→bT vs=true) (hn:l2.length≤1048576)
  (hc1:ew.length=len1*m) (hl1:len1≤1048576) (hcap:c= .known len1∨(c= .upto m∧e1=e)) (hw:bp ops t o=some true) (ho:o.op= .call cl) (hcl:cl.callee= .builtin .append) (hargs:cl.args.toList= [so,xo]) (ht:cl.argTypes[0]?=some ty) (hu:P.underlying ty=some (.slice e)) (ha:vT P e m=true) (h2:dn P cl.argTypes[1]?=true)
  (e1':aX G t so=some (.slice b 0 len1 c)) (e2':aX G t xo=some v2) (hp:∀v,cP t n o.dst v=some (t' v))
  (h:∀(σ':av) (b':Nat) (c':n8) (news:List AV) (e':Nat),St σ' K ((b',.row (ew++news) e' false)::L)→news.length=l2.length*m→(∀(i:Nat) (x:α),l2[i]?=some x→R x ((news.drop (i*m)).take m))→(c'= .known (len1+l2.length)∨(c'= .upto m∧e'=e))→cq P G ops n l (t' (.slice b' 0 (len1+l2.length) c')) σ' Q):cq P G ops n (o::l) t σ Q:=by
 obtain⟨σ',b',c',news,e',k1,k2,k3,k4,k5⟩:=xV (P:=P) hs hx hleaf hn hc1 hl1 hcap ht hu ha h2;refine aa hw ?_ (hp _) (h σ' b' c' news e' k2 k3 k4 k5);rw[ho];exact dQ hcl hargs e1' e2' h2 k1
end
end Go.Ev
namespace Go.Ev
variable [Env]
section
variable {P:Program} {G:Cx} {n:Nat} {t:PT AV} {σ:av} {K:KP} {L:Own} {Q:Ex→PT AV→av→Prop} {ops:Array Oper} {o:Oper} {l:List Oper}
theorem AH {α:Type} {m e k:Nat} {kk:IntKind} {R:α→List AV→Prop} {la:List α} {v:AV} {ty:TypeId} {ev:Operand→Option AV} {xo hi:Operand} (h:bD K m R la v) (hk:k≤la.length) (hu:P.underlying ty=some (.slice e)) (hj:(P.info? e).map (·.size)=some m) (hx:ev xo=some v) (hh:ev hi=some (.int kk (.ofNat k))):
  ∃w,eH P ev ty xo none (some hi) none=some w∧bD K m R (la.take k) w:=by
 cases hq:P.info? e with
 | none=>rw[hq] at hj;cases hj
 | some j=>
 rw[hq] at hj;have hj:j.size=m:=by simpa using hj
 subst hj;have hlen:(la.take k).length=k:=by rw[List.length_take];omega
 have hb:∀y,k≤y→dS ev hi y=some k:=fun y hy=>by
  unfold dS;rw[hh];dsimp only;rw[show Nat.ble k y=true by rw[Nat.ble_eq];exact hy];rfl
 rcases h with ⟨rfl,rfl⟩ | ⟨b,off,c,cells,e',ro,rfl,h2,h3,h4,h5,h6⟩
 ·have hk0:k=0:=by simpa using hk
  subst hk0;refine⟨.aq,?_,.inl ⟨by simp,rfl⟩⟩;unfold eH;rw[hu,hx];dsimp only;unfold cj;dsimp only;rw[hb 0 (Nat.le_refl _),hq]
 ·have fin:∀c',Gl j.size k c'→bD K j.size R (la.take k) (.slice b off k c'):=fun c' hc'=>by
   refine .inr ⟨b,off,c',cells,e',ro,by rw[hlen],by rw[hlen];exact hc',h3,?_,by rw[hlen];omega,fun i x hx'=>?_⟩
   ·rw[hlen];have:k*j.size≤la.length*j.size:=Nat.mul_le_mul_right _ hk;omega
   ·rw[List.getElem?_take] at hx';split at hx'
    ·exact h6 i x hx'
    ·cases hx'
  rcases h2 with rfl | ⟨cp,rfl,hcp⟩
  ·refine⟨.slice b off k (.upto j.size),?_,fin _ (.inl rfl)⟩;unfold eH;rw[hu,hx];dsimp only;unfold cj;dsimp only;rw[hb _ hk,hq];dsimp only;rw[Nat.beq_refl,Nat.zero_mul,Nat.add_zero,Nat.sub_zero];rfl
  ·refine⟨.slice b off k (.known cp),?_,fin _ (.inr ⟨cp,rfl,by omega⟩)⟩;unfold eH;rw[hu,hx];dsimp only;unfold cutAt cj;dsimp only;rw[hb _ (by omega)];dsimp only;unfold cut;rw[hq];dsimp only;rw[Nat.sub_zero,Nat.sub_zero,Nat.zero_mul,Nat.add_zero];cases Nat.beq cp 0<;>rfl
theorem CE {α:Type} {m e k:Nat} {kk:IntKind} {R:α→List AV→Prop} {la:List α} {v:AV} {ty:TypeId} {xo hi:Operand} {t':AV→PT AV} (h:bD K m R la v) (hk:k≤la.length) (hw:bp ops t o=some true) (ho:o.op= .slice ty xo none (some hi) none)
  (hu:P.underlying ty=some (.slice e)) (hj:(P.info? e).map (·.size)=some m) (hx:aX G t xo=some v) (hh:aX G t hi=some (.int kk (.ofNat k))) (hp:∀v,cP t n o.dst v=some (t' v))
  (hc:∀w,bD K m R (la.take k) w→cq P G ops n l (t' w) σ Q):cq P G ops n (o::l) t σ Q:=by
 obtain⟨w,h1,h2⟩:=AH (P:=P) h hk hu hj hx hh;refine aa hw ?_ (hp w) (hc w h2);rw[ho];exact aU rfl h1
end
theorem cz {g:XG} (h:bL g=0):g.threads.length≤4∧g.init.length≤6∧(∀l∈g.threads,l.length≤14)∧g.from_.length=g.threads.length∧g.order.length=g.init.length∧jf g g.threads g.from_ 0=true∧dL g=true:=by
 unfold bL at h;cases h1:gE g with
 | true=>rw[h1] at h;cases h
 | false=>
  rw[h1] at h;simp only[cond_false] at h;cases h2:bm (.ofNat g.from_.length) (.ofNat g.threads.length) with
  | false=>rw[h2] at h;cases h
  | true=>
   rw[h2] at h;simp only[cond_true] at h;cases h3:bm (.ofNat g.order.length) (.ofNat g.init.length) with
   | false=>rw[h3] at h;cases h
   | true=>
    rw[h3] at h;simp only[cond_true] at h;cases h4:jf g g.threads g.from_ 0 with
    | false=>rw[h4] at h;cases h
    | true=>
     rw[h4] at h;simp only[cond_true] at h;cases h5:dL g with
     | false=>rw[h5] at h;cases h
     | true=>
      unfold gE at h1;cases k1:cg 4 (.ofNat g.threads.length) with
      | true=>rw[k1] at h1;cases h1
      | false=>
       rw[k1] at h1;simp only[cond_false] at h1;cases k2:cg 6 (.ofNat g.init.length) with
       | true=>rw[k2] at h1;cases h1
       | false=>
        rw[k2] at h1;simp only[cond_false] at h1;refine⟨bz (a:=4) k1,bz (a:=6) k2,fun l hl=>?_,di h2,di h3,rfl,rfl⟩;have:=List.any_eq_false.1 h1 l hl;exact bz (a:=14) (by simpa using this)
def kR {α:Type} (ls:List (List α)):Nat:=(ls.map List.length).sum
noncomputable def zN (g:XG):Nat:=bif bm (bL g) 0 then g.init.length+kR g.threads else 0
end Go.Ev
namespace Go.Ev
variable [Env]
theorem qs {a:Int} (h:bm a 0=true):a=0:=by rw[ei] at h;exact of_decide_eq_true h
theorem kH {a b:Nat} (h:b≤a) (h':a≤9223372036854775807):wr .i64 (Int.sub (.ofNat a) (.ofNat b))= .ofNat (a-b):=by
 have e:Int.sub (.ofNat a) (.ofNat b)= .ofNat (a-b):=by
  show((a:Nat):Int)-(b:Int)=((a-b:Nat):Int);omega
 rw[e];show(bif Nat.ble (a-b) 9223372036854775807 then _ else _)=_;rw[show Nat.ble (a-b) 9223372036854775807=true by rw[Nat.ble_eq];omega];rfl
section
variable {σ:av} {K K':KP} {L:Own}
theorem St.weaken (h:St σ K' L) (hk:KP.le K K'):St σ K L where
 kept b o hb:=h.kept b o (hk b o hb)
 own:=h.own
 ne:=h.ne
def KP.oi (K:KP) (M:Own):KP:=fun b o=>K b o∨(b,o)∈M
theorem KP.cV (K:KP) (M:Own):KP.le K (K.oi M):=fun _ _ h=>.inl h
theorem KP.eZ {M:Own} (k:Nat) {b:Nat} {o:bJ} (h:M[k]?=some (b,o)):K.oi M b o:=.inr (List.mem_of_getElem? h)
theorem St.keeps {M:Own} (h:St σ K (M++L)):St σ (K.oi M) L where
 kept b o hb:=by
  rcases hb with hb | hb
  ·exact h.bq.kept b o hb
  ·obtain⟨h1,h2⟩:=h.own _ (List.mem_append_left _ hb);exact⟨h1,h2,fun e he hh=>(List.pairwise_append.1 h.ne).2.2 _ hb e he hh.symm⟩
 own e he:=h.own e (List.mem_append_right _ he)
 ne:=(List.pairwise_append.1 h.ne).2.1
end
section
variable {P:Program} {G:Cx} {K K':KP}
def GD (P:Program) (G:Cx) (K:KP) (n:Int) (vs:List AV):Prop:=
 ∃(f:Nat) (ca:List AV),vs= [.func f [] ca]∧rN P f=true∧∀(σ:av) (L:Own),St σ K L→bc P G f ca σ fun v σ'=>v= .int .i64 n∧St σ' K L
def ur (P:Program) (G:Cx) (K:KP) (l:List Int) (cells:List AV):Prop:=l.length=cells.length∧∀(i:Nat) (x:Int),l[i]?=some x→∃c,cells[i]?=some c∧GD P G K x [c]
theorem ur.nil:ur P G K [] []:=⟨rfl,fun i x h=>by simp at h⟩
theorem ur.cons {x:Int} {l:List Int} {c:AV} {cells:List AV} (h:GD P G K x [c]) (hs:ur P G K l cells):ur P G K (x::l) (c::cells):=by
 refine⟨by simp[hs.1],fun i y hy=>?_⟩;cases i with
 | zero=>simp only[List.getElem?_cons_zero,Option.some.injEq] at hy;subst hy;exact⟨c,rfl,h⟩
 | succ i=>exact hs.2 i y (by simpa using hy)
theorem ur.slice {l:List Int} {cells:List AV} (h:ur P G K l cells) {b e n c:Nat} (hk:K b (.row cells e false)) (hn:l.length=n) (hc:n≤c) (hl:n≤9223372036854775807):bD K 1 (GD P G K) l (.slice b 0 n (.known c)):=by
 subst hn;refine .inr ⟨b,0,_,cells,e,false,rfl,.inr ⟨_,rfl,hc⟩,hk,by rw[h.1];omega,hl,fun i x hx=>?_⟩;obtain⟨c,hc,hr⟩:=h.2 i x hx
 have:(cells.drop (0+i*1)).take 1= [c]:=by
  obtain⟨hlt,rfl⟩:=List.getElem?_eq_some_iff.1 hc;rw[show 0+i*1=i from by omega,List.drop_eq_getElem_cons hlt];rfl
 rw[this];exact hr
theorem Ap {f:Nat} {args:List AV} {σ:av} {M L:Own} {u:AV} (h:bc P G f args σ fun v σ'=>v=u∧St σ' (K.oi M) L):bc P G f args σ fun v σ'=>v=u∧St σ' K L:=
 h.mono fun _ _ ⟨a,b⟩=>⟨a,b.weaken (K.cV M)⟩
theorem dB {ev:Operand→Option AV} {σ:av} {t e:TypeId} {len m:Nat} {parts:Array (Nat×Operand)} {z cs:List AV} (ht:P.underlying t=some (.slice e)) (hj:(P.info? e).map (·.size)=some m) (hz:(ej P e).bind cm=some z)
  (hb:(Nat.beq (cr z) m && Nat.ble (len*m) 16777216 && Nat.ble 1 m)=true) (hf:iV (fun i=>some (i*m,m)) ev parts.toList (ec z len)=some cs):dg P G ev σ (.buildSlice t len parts)= .val (.slice σ.next 0 len (.known len)) (σ.alloc (.row cs e false)):=by
 refine pY (mk:=.slice len len) rfl ?_;obtain⟨j,hj',rfl⟩:=Option.map_eq_some_iff.1 hj;simp only[eI,ht,hj',hz,hb,cond_true,hf]
end
section
variable {P:Program} {G:Cx} {n:Nat} {t:PT AV} {σ:av} {K:KP} {L:Own} {Q:Ex→PT AV→av→Prop} {ops:Array Oper} {o:Oper} {l:List Oper} {ix:Nat} {lp:List (Nat×List Nat)}
end
theorem qb (k:IntKind) (n:Int):du (.int k n) (.int k n)=true:=by
 unfold Go.Ev.du;exact fR k n
theorem bD.du {α:Type} {K:KP} {m:Nat} {R:α→List AV→Prop} {l:List α} {v:AV} (h:bD K m R l v):Go.Ev.du v v=true:=by
 have hb:=h.lM;rcases h with ⟨_,rfl⟩ | ⟨b,off,c,cells,e,ro,rfl,hc,_⟩<;>exact hb
def G6 (x y:Int):Int:=bif cg x y then-1 else bif cg y x then 1 else 0
def Hu {α:Type} (c:α→α→Int):List α→List α→Int
 | [],[]=>0
 | [],_::_=>-1
 | _::_,[]=>1
 | x::l,y::m=>bif bm (c x y) 0 then Hu c l m else c x y
def eN {α:Type} (m E:Nat) (R:α→List AV→Prop) (l:List α) (u:AV) (M:Own):Prop:=
 (l= []∧u= .aq∧M= [])∨∃(b:Nat) (c:n8) (cells:List AV) (e:Nat),u= .slice b 0 l.length c∧M= [(b,.row cells e false)]∧cells.length=l.length*m∧(∀(i:Nat) (x:α),l[i]?=some x→R x ((cells.drop (i*m)).take m))∧(c= .known l.length∨(c= .upto m∧e=E))∧l.length≤1048576
inductive fG {α:Type} (m E:Nat) (R:α→List AV→Prop):List (List α)→List AV→Own→Prop
 | nil:fG m E R [] [] []
 | snoc {ls:List (List α)} {us:List AV} {M M1:Own} {l:List α} {u:AV}:fG m E R ls us M→eN m E R l u M1→fG m E R (ls++[l]) (us++[u]) (M1++M)
section
variable {α:Type} {m E:Nat} {R:α→List AV→Prop} {l:List α} {u:AV} {M:Own} {K:KP} {ls:List (List α)} {us:List AV}
theorem eN.leaf (h:eN m E R l u M):cm u=some [u]∧jd u=true:=by
 rcases h with ⟨_,rfl,_⟩ | ⟨b,c,cells,e,rfl,_⟩<;>exact⟨rfl,rfl⟩
theorem eN.kJ (h:eN m E R l u M) (hk:∀e∈M,K e.1 e.2):bD K m R l u:=by
 rcases h with ⟨h1,h2,_⟩ | ⟨b,c,cells,e,rfl,rfl,h3,h4,h5,h6⟩
 ·exact .inl ⟨h1,h2⟩
 ·refine .inr ⟨b,0,c,cells,e,false,rfl,?_,hk _ (List.mem_cons_self ..),by omega,by omega,fun i x hx=>by rw[Nat.zero_add];exact h4 i x hx⟩;rcases h5 with h5 | h5
  ·exact .inr ⟨_,h5,Nat.le_refl _⟩
  ·exact .inl h5.1
theorem fG.length (h:fG m E R ls us M):us.length=ls.length:=by
 induction h with
 | nil=>rfl
 | snoc _ _ ih=>simp[ih]
theorem fG.at (h:fG m E R ls us M):∀{i:Nat} {l:List α},ls[i]?=some l→∃u M1 A B,us[i]?=some u∧eN m E R l u M1∧M=A++(M1++B)∧∀l' u' M1',eN m E R l' u' M1'→fG m E R (ls.set i l') (us.set i u') (A++(M1'++B)):=by
 induction h with
 | nil=>intro i l h;simp at h
 | @snoc ls us M M1 l u h h1 ih=>
  intro i x hx;have hl:=h.length
  by_cases hi:i<ls.length
  ·rw[List.getElem?_append_left hi] at hx;obtain⟨u0,M0,A,B,k1,k2,rfl,k4⟩:=ih hx;refine⟨u0,M0,M1++A,B,by rw[List.getElem?_append_left (by omega)];exact k1,k2,by simp,fun l' u' M' h'=>?_⟩;rw[List.set_append_left _ _ hi,List.set_append_left _ _ (by omega),List.append_assoc];exact .snoc (k4 l' u' M' h') h1
  ·have hlt:=(List.getElem?_eq_some_iff.1 hx).1;rw[List.length_append,List.length_singleton] at hlt;obtain rfl:i=ls.length:=by omega
   rw[List.getElem?_append_right (Nat.le_refl _),Nat.sub_self] at hx;simp only[List.getElem?_cons_zero,Option.some.injEq] at hx;subst hx;refine⟨u,M1,[],M,by rw[List.getElem?_append_right (by omega),hl,Nat.sub_self];rfl,h1,rfl,fun l' u' M' h'=>?_⟩;rw[List.set_append_right _ _ (Nat.le_refl _),List.set_append_right _ _ (by omega),hl,Nat.sub_self];exact fG.snoc (M1:=M') (M:=M) h h'
theorem fG.each (h:fG m E R ls us M) (hk:∀e∈M,K e.1 e.2):∀(i:Nat) (l:List α),ls[i]?=some l→∃u,us[i]?=some u∧bD K m R l u:=by
 intro i l hl;obtain⟨u,M1,A,B,h1,h2,rfl,_⟩:=h.at hl;exact⟨u,h1,h2.kJ fun e he=>hk e (by simp[he])⟩
theorem fG.kJ (h:fG m E R ls us M) (hk:∀e∈M,K e.1 e.2) {b e n:Nat} (hb:K b (.row us e false)) (hn:n=ls.length) (hl:ls.length≤1048576):bD K 1 (RL K m R) ls (.slice b 0 n (.known n)):=by
 subst hn;refine .inr ⟨b,0,_,us,e,false,rfl,.inr ⟨_,rfl,Nat.le_refl _⟩,hb,by rw[h.length];omega,by omega,fun i x hx=>?_⟩;obtain⟨u,h1,h2⟩:=h.each hk i x hx;refine⟨u,?_,h2⟩;obtain⟨hlt,rfl⟩:=List.getElem?_eq_some_iff.1 h1;rw[show 0+i*1=i from by omega,List.drop_eq_getElem_cons hlt];rfl
end
section
variable {σ:av} {K:KP} {L M:Own} {b:Nat} {o:bJ}
theorem St.Eb (h:St σ K (M++(b,o)::L)):σ.m.get b=some o:=(h.own (b,o) (by simp)).2
theorem St.AI (h:St σ K (M++(b,o)::L)) (o':bJ):St (σ.setObj b o') K (M++(b,o')::L):=((h.perm List.perm_middle).mn o').perm List.perm_middle.symm
theorem eV (v:AV):∀n,ec [v] n=List.replicate n v
 | 0=>rfl
 | n+1=>by
  show eT [v] (ec [v] n)=_;rw[cT,eV v n];rfl
theorem BA {us:List AV} {u v:AV} {n i:Nat} (hu:us.length=i) (hi:i<n):cO [u] (us++List.replicate (n-i) v) (0+i*1)=(us++[u])++List.replicate (n-(i+1)) v:=by
 obtain⟨k,hk⟩:∃k,n-i=k+1:=⟨n-i-1,by omega⟩;rw[hk,show n-(i+1)=k by omega,show 0+i*1=us.length by omega,lq _ _ _ (by simp),List.take_left,List.length_singleton,←List.drop_drop,List.drop_left,List.replicate_succ];rfl
end
section
variable {P:Program} {G:Cx} {ev:Operand→Option AV} {σ:av}
theorem gM {t e w n:Nat} {k k':IntKind} {z:List AV} {lo co:Operand} (ht:P.underlying t=some (.slice e)) (hw:(P.info? e).map (·.bytes)=some w) (hz:(ej P e).bind cm=some z)
  (hs:((P.info? e).any fun j=>Nat.beq (cr z) j.size && Nat.ble 1 j.size)=true) (hl:ev lo=some (.int k (.ofNat n))) (hc:ev co=some (.int k' (.ofNat n))) (hn:w*n≤1048576) (hn':n≤1048576):
  dg P G ev σ (.makeSlice t lo co)= .val (.slice σ.next 0 n (.known n)) (σ.alloc (.row (ec z n) e false)):=by
 refine pY (mk:=.slice n n) rfl ?_;obtain⟨j,hj,rfl⟩:=Option.map_eq_some_iff.1 hw;rw[hj] at hs;simp only[Option.any_some,Bool.and_eq_true] at hs;simp only[eI,ht,hl,hc,hj,hz];rw[hs.1,hs.2,show Nat.ble n n=true by rw[Nat.ble_eq];exact Nat.le_refl _,show Nat.ble (j.bytes*n) 1048576=true by rw[Nat.ble_eq];exact hn,show Nat.ble n 1048576=true by rw[Nat.ble_eq];exact hn'];rfl
end
theorem dI.leaf:∀x vs,dI x vs→bT vs=true:=fun _ _ h=>by cases h;rfl
theorem lh.leaf:∀x vs,lh x vs→bT vs=true:=fun _ _ h=>by cases h;rfl
theorem lg.leaf:∀x vs,lg x vs→bT vs=true:=fun _ _ h=>by cases h;rfl
end Go.Ev
namespace Go.Ev
variable [Env]
inductive kU (b:Nat) (o':bJ):Own→Own→Prop
 | here {o:bJ} {L:Own}:kU b o' ((b,o)::L) ((b,o')::L)
 | there {x:Nat×bJ} {L L':Own}:kU b o' L L'→kU b o' (x::L) (x::L')
 | fc {M L L':Own}:kU b o' L L'→kU b o' (M++L) (M++L')
section
variable {σ:av} {K:KP} {L L':Own} {b:Nat} {o':bJ}
theorem kU.I9 (h:kU b o' L L'):∃A B o,L=A++(b,o)::B∧L'=A++(b,o')::B:=by
 induction h with
 | here=>exact⟨[],_,_,rfl,rfl⟩
 | @there x L L' h ih=>obtain⟨A,B,o,rfl,rfl⟩:=ih;exact⟨x::A,B,o,rfl,rfl⟩
 | @fc M L L' h ih=>obtain⟨A,B,o,rfl,rfl⟩:=ih;exact⟨M++A,B,o,by simp,by simp⟩
theorem St.IG (h:St σ K L) (hu:kU b o' L L'):St (σ.setObj b o') K L':=by
 obtain⟨A,B,o,rfl,rfl⟩:=hu.I9;exact h.AI o'
theorem St.sub (h:St σ K L) (hs:L'.Sublist L):St σ K L' where
 kept b o hb:=let ⟨h1,h2,h3⟩:=h.kept b o hb;⟨h1,h2,fun e he=>h3 e (hs.subset he)⟩
 own e he:=h.own e (hs.subset he)
 ne:=h.ne.sublist hs
theorem iK {M L L':Own} (h:L'.Sublist L):(M++L').Sublist (M++L):=(List.append_sublist_append_left M).2 h
end
section
variable {P:Program} {G:Cx} {n:Nat} {t:PT AV} {σ:av} {K:KP} {L:Own} {Q:Ex→PT AV→av→Prop} {ops:Array Oper} {o:Oper} {l:List Oper} {i:Nat} {rc:List Nat} {lp:List (Nat×List Nat)}
theorem dP {b:Nat} {ob':bJ} {L':Own} {t':PT AV} (hs:St σ K L) (hu:kU b ob' L L') (hw:bp ops t o=some true) (hv:dg P G (aX G t) σ o.op= .skip (σ.setObj b ob')) (hp:cP t n o.dst unit=some t')
  (h:∀σ',St σ' K L'→cq P G ops n l t' σ' Q):cq P G ops n (o::l) t σ Q:=fD hw hv hp (h _ (hs.IG hu))
theorem l5 {b:Nat} {ob':bJ} {L':Own} {t':PT AV} (hs:St σ K L) (hu:kU b ob' L L') (hi0:ops[i]?=some o) (hw:bp ops t o=some true) (hv:dg P G (aX G t) σ o.op= .skip (σ.setObj b ob')) (hp:cP t n o.dst unit=some t')
  (h:∀σ',St σ' K L'→(cN P G ops t' σ' rc=true∧cE P G ops n lp t' σ' Q)):cE P G ops n ((i,rc)::lp) t σ Q:=lX hi0 hw hv hp (h _ (hs.IG hu))
end
section
variable {P:Program} {t:PT AV} {σ:av}
theorem uA {fn:Func} {j ty b m e:Nat} {ro:Bool} {cells:List AV} (hr:fn.results.toList= [.cell j ty]) (h1:t.get j=some (.ptr b 0)) (hm:σ.m.get b=some (.row cells e ro)) (ha:dc P ty=some (some m)) (hn:cells.length=m):dv P fn t σ=some (.agg cells):=by
 unfold dv;rw[hr]
 have e1:eo P t σ (.cell j ty)=some (AV.agg cells):=by
  show(match t.get (posOf j) with
   | some (.ptr b off)=>match σ.m.get b with
    | some (.row cells _ _)=>match dc P ty with
     | some (some n)=>bif Nat.ble (off+n) (cr cells) then some (AV.agg (takeN (cX cells off) n)) else none
     | some none=>nth cells off
     | none=>none
    | _=>none
   | _=>none)=_
  rw[show t.get (posOf j)=some (.ptr b 0) from h1];dsimp only;rw[hm];dsimp only;rw[ha];dsimp only;rw[bn,hn,Nat.zero_add,show Nat.ble m m=true by rw[Nat.ble_eq];exact Nat.le_refl _,cB,cU,List.drop_zero,←hn,List.take_length];rfl
 have:bO (eo P t σ) [.cell j ty]=some [AV.agg cells]:=by
  unfold bO;simp only[e1]
 rw[this]
theorem hJ {fn:Func} {R:AV→av→Prop} {j ty b m e:Nat} {ro:Bool} {cells:List AV} (hr:fn.results.toList= [.cell j ty]) (h1:t.get j=some (.ptr b 0)) (hm:σ.m.get b=some (.row cells e ro)) (ha:dc P ty=some (some m)) (hn:cells.length=m) (hR:R (.agg cells) σ):xk P fn R .ret t σ:=
 ⟨.inr rfl,_,uA hr h1 hm ha hn,hR⟩
end
end Go.Ev
namespace Go.Ev
variable [Env]
theorem pK {α:Type} {m E:Nat} {R:α→List AV→Prop} {l1 l2:List α} {ew news:List AV} {b e:Nat} {c:n8} {n:Nat} (hc1:ew.length=l1.length*m) (h1:∀(i:Nat) (x:α),l1[i]?=some x→R x ((ew.drop (i*m)).take m)) (hl2:news.length=l2.length*m) (h2:∀(i:Nat) (x:α),l2[i]?=some x→R x ((news.drop (i*m)).take m))
  (hn:n=l1.length+l2.length) (hc:c= .known n∨(c= .upto m∧e=E)) (hle:n≤1048576):eN m E R (l1++l2) (.slice b 0 n c) [(b,.row (ew++news) e false)]:=by
 subst hn;refine .inr ⟨b,c,_,e,by rw[List.length_append],rfl,by rw[List.length_append,List.length_append,hc1,hl2,Nat.add_mul],fun i x hx=>?_,by rw[List.length_append];exact hc,by rw[List.length_append];exact hle⟩
 by_cases hi:i<l1.length
 ·rw[List.getElem?_append_left hi] at hx;have hle:(i+1)*m≤l1.length*m:=Nat.mul_le_mul_right _ hi;rw[Nat.succ_mul] at hle;rw[List.drop_append_of_le_length (by omega),List.take_append_of_le_length (by rw[List.length_drop];omega)];exact h1 i x hx
 ·rw[List.getElem?_append_right (by omega)] at hx;have hle:l1.length*m≤i*m:=Nat.mul_le_mul_right _ (by omega);rw[List.drop_append,List.drop_eq_nil_of_le (by omega),List.nil_append,hc1,←Nat.sub_mul];exact h2 _ x hx
noncomputable def bN (g:XG) (loc:Int):List cS:=
 bif bm (bL g) 0 then(bif cg loc 0 then [] else match g.order[loc.toNat]? with | some l=>⟨0,loc⟩::l | none=>[]) else []
theorem pT {g:XG} {loc:Int} (h:bm (bL g) 0=false):bN g loc= []:=by unfold bN;rw[h];rfl
theorem rG {g:XG} {loc:Int} (h:cg loc 0=true):bN g loc= []:=by unfold bN;rw[h];cases bm (bL g) 0<;>rfl
theorem qW {g:XG} {loc:Nat} (h:g.order.length≤loc):bN g (.ofNat loc)= []:=by
 unfold bN;cases bm (bL g) 0 with
 | false=>rfl
 | true=>
  cases cg (.ofNat loc) 0 with
  | true=>rfl
  | false=>
   show(match g.order[(Int.ofNat loc).toNat]? with | some l=>_ | none=>_)=_;rw[show(Int.ofNat loc).toNat=loc from rfl,List.getElem?_eq_none h]
theorem dT {g:XG} {loc:Nat} {l:List cS} (hc:bm (bL g) 0=true) (h:g.order[loc]?=some l):bN g (.ofNat loc)=⟨0,.ofNat loc⟩::l:=by
 have e:(Int.ofNat loc).toNat=loc:=rfl;have e2:cg (.ofNat loc) 0=false:=by rw[show(0:Int)= .ofNat 0 from rfl,iL];simp
 unfold bN;rw[hc,e2,e,h];rfl
end Go.Ev
namespace Go.Ev
variable [Env]
section
variable {P:Program} {G:Cx}
def rM (P:Program) (G:Cx) (f:Nat) (args:List AV) (σ:av) (R:AV→av→Prop):Prop:=
 ∃(K:Nat) (v:AV) (σ':av),(∀k,K≤k→iR P G (dA P G k) f args σ= .ret v σ')∧R v σ'
theorem xy {f:Nat} {fn:Func} {c:Code} {args:List AV} {σ:av} {R:AV→av→Prop} {t:PT AV} (hf:P.funcs[f]?=some fn) (hb:fn.body=some c) (ha:nA fn.ntmps args=some t)
  (h:Ev P G c fn.ntmps t σ (xk P fn R)):rM P G f args σ R:=by
 obtain⟨K,e,t',σ',h1,he,v,h2,h3⟩:=h;refine⟨K,v,σ',fun k hk=>?_,h3⟩;unfold iR;rw[hf];dsimp only;rw[hb,ha];dsimp only;rw[h1 k hk];rcases he with rfl | rfl<;>
 ·dsimp only;unfold uz;rw[show pj P G (dA P G k) [] .ret σ'=some (.ret,σ') from rfl];dsimp only;rw[h2]
theorem Bc {f:Nat} {args:List AV} {σ:av} {k:Nat} (hktb:G.CX f args σ=none) (htbl:G.CZ f args=none) (hmem:tk G.gl G.laid G.mem f args σ=none) (hstop:G.stop f args σ=none) (hfk:G.fk f=true):
  iU P G (dA P G k) f args σ=py (na P G (dA P G k) f args σ):=by
 unfold iU;rw[hktb];dsimp only;rw[htbl];dsimp only;rw[hmem];dsimp only;rw[hstop];dsimp only;rw[hfk];rfl
theorem pM {f:Nat} {args:List AV} {σ:av} {R:AV→av→Prop} (hG:Plain G) (hfk:G.fk f=true) (he:∀ih,na P G ih f args σ=iR P G ih f args σ) (h:rM P G f args σ R) (hl:Cf f=false:=by rfl):bc P G f args σ R:=by
 obtain⟨K,v,σ',h1,h2⟩:=h;refine⟨K,v,σ',fun k hk=>?_,h2⟩;rw[Bc (hG.h1 _ _ _) (hG.h2 _ _ hl) (by rw[hG.h3];rfl) (hG.h4 _ _ _) hfk,he,h1 k hk];rfl
theorem lV:∀(l:List Int),gF (ints l) (ints l)=true
 | []=>rfl
 | x::l=>by
  show(bif (pE .i64 .i64 && bm x x) then gF (ints l) (ints l) else false)=true;rw[lV l,ei];simp[pE]
theorem lY:∀(l:List Int),dE (ints l)=true
 | []=>rfl
 | x::l=>by
  show(bif jC (.int .i64 x) then dE (ints l) else false)=true;rw[lY l];rfl
theorem rq:∀(l:List Int),(ints l).length=l.length
 | []=>rfl
 | x::l=>by show(ints l).length+1=l.length+1;rw[rq l]
theorem sn {vb ve e sz b1 n1:Nat} {vc rs:List Int} {c:n8} {σ1:av} {cs1:List AV} {ok:n8→Nat→Bool} (hok:ok c n1=true) (hne:b1≠vb) (h1:σ1.m.get b1=some (.row cs1 e false)) (h2:σ1.m.get vb=some (.row (ints vc) ve false)) (hn1:1≤n1) (hl:n1*sz≤cs1.length) (ht:cs1.take (n1*sz)=ints rs):
  nO vb (ints vc) ve e sz (.ret (.slice b1 0 n1 c) σ1) ok=some (n1,ints rs):=by
 have hs:gK b1 vb=false:=by
  unfold gK;cases hh:Nat.beq b1 vb with
  | false=>rfl
  | true=>exact absurd (Nat.eq_of_beq_eq_true hh) hne
 unfold nO;dsimp only;rw[h1,h2];dsimp only;rw[hok,hs,lV,Nat.beq_refl,Nat.beq_refl,show Nat.ble 1 n1=true by rw[Nat.ble_eq];exact hn1,bn,Nat.zero_add,show Nat.ble (n1*sz) cs1.length=true by rw[Nat.ble_eq];exact hl,cB,cU,List.drop_zero,ht,lY];rfl
theorem Dc {f:Nat} {σ:av} {R:AV→av→Prop} (hG:Plain G) (hfk:G.fk f=true) {b n sz i vb mc e ve:Nat} {cells:List AV} {vc rs:List Int} {n1:Nat} (hn:1≤n) (hi:i<n) (hne:b≠vb) (hb:σ.m.get b=some (.row cells e false)) (hvb:σ.m.get vb=some (.row (ints vc) ve false)) (hc:n*sz≤cells.length)
  (hn1:1≤n1) (hrs:rs.length=n1*sz)
  (h1:rM P G f [.slice b 0 n (.known n),.int .i64 (.ofNat i),.slice vb 0 1 (.known mc)] (dV σ b (.row cells e false) vb (.row (ints vc) ve false)) fun v σ'=>∃b1 cs1,v= .slice b1 0 n1 (.upto sz)∧b1≠vb∧σ'.m.get b1=some (.row cs1 e false)∧σ'.m.get vb=some (.row (ints vc) ve false)∧n1*sz≤cs1.length∧cs1.take (n1*sz)=ints rs)
  (h2:rM P G f [.slice b 0 n (.least (Nat.succ n) sz),.int .i64 (.ofNat i),.slice vb 0 1 (.known mc)] (dV σ b (.row (cells.take (n*sz)++List.replicate sz .any) e false) vb (.row (ints vc) ve false)) fun v σ'=>∃b1 a cs1,v= .slice b1 0 n1 (.least a sz)∧n1≤a∧b1≠vb∧σ'.m.get b1=some (.row cs1 e false)∧σ'.m.get vb=some (.row (ints vc) ve false)∧n1*sz≤cs1.length∧cs1.take (n1*sz)=ints rs)
  (hR:R (.slice σ.next 0 n1 (.upto sz)) ((σ.drop b).alloc (.row (ints rs) e false))) (hl:Cf f=false:=by rfl):bc P G f [.slice b 0 n (.upto sz),.int .i64 (.ofNat i),.slice vb 0 1 (.known mc)] σ R:=by
 obtain⟨K1,v1,σ1,k1,b1,cs1,rfl,g1,g2,g3,g4,g5⟩:=h1;obtain⟨K2,v2,σ2,k2,b2,a,cs2,rfl,f0,f1,f2,f3,f4,f5⟩:=h2;refine⟨max K1 K2,_,_,fun k hk=>?_,hR⟩;rw[Bc (hG.h1 _ _ _) (hG.h2 _ _ hl) (by rw[hG.h3];rfl) (hG.h4 _ _ _) hfk]
 have e:na P G (dA P G k) f [.slice b 0 n (.upto sz),.int .i64 (.ofNat i),.slice vb 0 1 (.known mc)] σ= .ret (.slice σ.next 0 n1 (.upto sz)) ((σ.drop b).alloc (.row (ints rs) e false)):=by
  have hat:atEnd [.slice b 0 n (.upto sz),.int .i64 (.ofNat i),.slice vb 0 1 (.known mc)]=false:=by
   show Nat.beq i n=false;cases hh:Nat.beq i n with
   | false=>rfl
   | true=>exact absurd (Nat.eq_of_beq_eq_true hh) (by omega)
  have hs:gK b vb=false:=by
   unfold gK;cases hh:Nat.beq b vb with
   | false=>rfl
   | true=>exact absurd (Nat.eq_of_beq_eq_true hh) hne
  unfold na;rw[hat];simp only[cond_false];unfold BP;dsimp only;rw[hb,hvb];dsimp only;rw[hs,show Nat.ble 1 n=true by rw[Nat.ble_eq];exact hn,show jC (.int .i64 (.ofNat i))=true from rfl,lY,bn,Nat.zero_add,show Nat.ble (n*sz) cells.length=true by rw[Nat.ble_eq];exact hc];rw[cT,cB,qe,k1 k (by omega),k2 k (by omega)];rw[sn (by show Nat.beq sz sz=true;exact Nat.beq_refl _) g1 g2 g3 hn1 g4 g5,sn (by show(Nat.beq sz sz && Nat.ble n1 a)=true;rw[Nat.beq_refl,show Nat.ble n1 a=true by rw[Nat.ble_eq];exact f0];rfl) f1 f2 f3 hn1 f4 f5];dsimp only;rw[show Nat.beq n1 n1=true from Nat.beq_refl n1,lV];rfl
 rw[e];rfl
end
def bV (l:List cS):List AV:=l.flatMap fun x=>ints x.ints
theorem eL (x:cS) (l:List cS):bV (x::l)=ints x.ints++bV l:=rfl
theorem oR (l r:List cS):bV (l++r)=bV l++bV r:=List.flatMap_append
theorem dh:∀(l:List cS),(bV l).length=l.length*2
 | []=>rfl
 | x::l=>by
  rw[eL,List.length_append,dh l,List.length_cons];show 2+_=_;omega
theorem ni:∀(l:List cS) (i:Nat),(bV l).drop (i*2)=bV (l.drop i)
 | l,0=>by simp
 | [],i+1=>by simp[bV]
 | x::l,i+1=>by
  rw[List.drop_succ_cons,←ni l i,eL,show(i+1)*2=(ints x.ints).length+i*2 by show _=2+_;omega,←List.drop_drop,List.drop_left]
theorem rj:∀(l:List cS) (i:Nat),(bV l).take (i*2)=bV (l.take i)
 | l,0=>by simp[bV]
 | [],i+1=>by simp[bV]
 | x::l,i+1=>by
  rw[List.take_succ_cons,eL,eL,←rj l i,show(i+1)*2=(ints x.ints).length+i*2 by show _=2+_;omega,List.take_length_add_append]
theorem js:∀(l:List Int),bT (ints l)=true
 | []=>rfl
 | x::l=>ae rfl (js l)
theorem kC (l:List cS):bV l=ints (l.flatMap cS.ints):=by
 induction l with
 | nil=>rfl
 | cons x l ih=>rw[eL,ih,List.flatMap_cons];simp[ints]
theorem ra (l:List cS):bT (bV l)=true:=by rw[kC];exact js _
theorem vG:∀(l:List cS) (cells:List AV),cells.length=l.length*2→(∀(i:Nat) (x:cS),l[i]?=some x→lg x ((cells.drop (i*2)).take 2))→cells=bV l
 | [],cells,h,_=>List.eq_nil_of_length_eq_zero h
 | x::l,cells,h,hr=>by
  rw[List.length_cons] at h;have h0:cells.take 2=ints x.ints:=by have:=hr 0 x rfl;simpa [lg] using this
  rw[eL,←h0,←vG l (cells.drop 2) (by rw[List.length_drop];omega) (fun i y hy=>by have:=hr (i+1) y (by simpa using hy);rwa[show(i+1)*2=2+i*2 by omega,←List.drop_drop] at this),List.take_append_drop]
theorem CN {l:List cS} {i:Nat} {x:cS} (h:l[i]?=some x):lg x (((bV l).drop (i*2)).take 2):=by
 rw[ni,b0 h,eL,show(2:Nat)=(ints x.ints).length from rfl,List.take_left];rfl
theorem qJ {A X Z:List AV} {off:Nat} (ho:off=A.length) (hz:X.length≤Z.length):cO X (A++Z) off=A++(X++Z.drop X.length):=by
 subst ho;rw[lq _ _ _ (by rw[List.length_append];omega),List.take_left,←List.drop_drop,List.drop_left,List.append_assoc]
theorem Bq {A X B Z:List AV} {off:Nat} (ho:off=A.length+X.length) (hz:Z.length=B.length):cO B (A++(X++Z)) off=A++(X++B):=by
 rw[←List.append_assoc,qJ (by rw[List.length_append];exact ho) (by omega),List.drop_eq_nil_of_le (by omega),List.append_nil,List.append_assoc]
theorem FW {A X B C:List AV} {off:Nat} (ho:off=A.length) (hc:X.length=C.length):cO X (A++(C++B)) off=A++(X++B):=by
 rw[qJ ho (by rw[List.length_append];omega),hc,List.drop_left]
section
variable {P:Program} {G:Cx} {ev:Operand→Option AV} {σ:av}
theorem iZ {lo:Operand} {k:IntKind} {l len cap:Nat} (h:ev lo=some (.int k (.ofNat l))) (hl:l≤len):cj ev len cap (some lo) none=some (l,len):=by
 simp only[cj,dS,h,show Nat.ble l len=true by rw[Nat.ble_eq];exact hl,cond_true]
theorem l9 {hi:Operand} {k:IntKind} {h' len cap:Nat} (h:ev hi=some (.int k (.ofNat h'))) (hl:h'≤cap):cj ev len cap none (some hi)=some (0,h'):=by
 simp only[cj,dS,h,show Nat.ble h' cap=true by rw[Nat.ble_eq];exact hl,cond_true]
theorem tR {t e sz b off len cap l h:Nat} {x:Operand} {lo hi:Option Operand} (ht:P.underlying t=some (.slice e)) (hj:(P.info? e).map (·.size)=some sz) (hx:ev x=some (.slice b off len (.known cap))) (hb:cj ev len cap lo hi=some (l,h)) (hl:l<cap):
  dg P G ev σ (.slice t x lo hi none)= .val (.slice b (off+l*sz) (h-l) (.known (cap-l))) σ:=by
 refine aU rfl ?_;obtain⟨j,hj',rfl⟩:=Option.map_eq_some_iff.1 hj
 have:Nat.beq cap l=false:=by
  cases hh:Nat.beq cap l with
  | false=>rfl
  | true=>exact absurd (Nat.eq_of_beq_eq_true hh) (by omega)
 simp only[cu,eH,ht,hx,cutAt,hb,cut,hj',this,cond_false]
theorem DT {t e sz b off cap:Nat} {k:IntKind} {x lo:Operand} (ht:P.underlying t=some (.slice e)) (hj:(P.info? e).map (·.size)=some sz) (hx:ev x=some (.slice b off cap (.known cap))) (hb:ev lo=some (.int k (.ofNat cap))):
  dg P G ev σ (.slice t x (some lo) none none)= .val (.slice b off 0 (.known 0)) σ:=by
 refine aU rfl ?_;obtain⟨j,hj',rfl⟩:=Option.map_eq_some_iff.1 hj;have:Nat.beq cap cap=true:=Nat.beq_refl cap;simp only[cu,eH,ht,hx,cutAt,iZ hb (Nat.le_refl cap),cut,hj',this,cond_true,Nat.sub_self]
theorem D7 {t e sz:Nat} {k:IntKind} {x lo:Operand} (ht:P.underlying t=some (.slice e)) (hj:(P.info? e).map (·.size)=some sz) (hx:ev x=some .aq) (hb:ev lo=some (.int k (.ofNat 0))):
  dg P G ev σ (.slice t x (some lo) none none)= .val .aq σ:=by
 refine aU rfl ?_;obtain⟨j,hj',rfl⟩:=Option.map_eq_some_iff.1 hj;simp only[cu,eH,ht,hx,iZ hb (Nat.le_refl 0),hj']
theorem s5 {t e sz b off len l h:Nat} {x:Operand} {lo hi:Option Operand} (ht:P.underlying t=some (.slice e)) (hj:(P.info? e).map (·.size)=some sz) (hx:ev x=some (.slice b off len (.upto sz))) (hb:cj ev len len lo hi=some (l,h)):
  dg P G ev σ (.slice t x lo hi none)= .val (.slice b (off+l*sz) (h-l) (.upto sz)) σ:=by
 refine aU rfl ?_;obtain⟨j,hj',rfl⟩:=Option.map_eq_some_iff.1 hj;simp only[cu,eH,ht,hx,hb,hj',Nat.beq_refl,cond_true]
theorem lu {t e sz b off len a l h:Nat} {x:Operand} {lo hi:Option Operand} (ht:P.underlying t=some (.slice e)) (hj:(P.info? e).map (·.size)=some sz) (hx:ev x=some (.slice b off len (.least a sz))) (hb:cj ev len a lo hi=some (l,h)) (h1:len≤a) (h2:l+1≤a):
  dg P G ev σ (.slice t x lo hi none)= .val (.slice b (off+l*sz) (h-l) (.least (a-l) sz)) σ:=by
 refine aU rfl ?_;obtain⟨j,hj',rfl⟩:=Option.map_eq_some_iff.1 hj;simp only[cu,eH,ht,hx,hb,hj',Nat.beq_refl,show Nat.ble len a=true by rw[Nat.ble_eq];exact h1,show Nat.ble (Nat.succ l) a=true by rw[Nat.ble_eq];exact h2,Bool.and_self,cond_true]
theorem rU {b off len sz e:Nat} {c:n8} {ro:Bool} {cells:List AV} (hb:σ.m.get b=some (.row cells e ro)) (hl:off+len*sz≤cells.length):iC σ sz (.slice b off len c)=some (len,(cells.drop off).take (len*sz)):=by
 simp only[iC,hb,bn,show Nat.ble (off+len*sz) cells.length=true by rw[Nat.ble_eq];exact hl,cond_true,cB,cU]
theorem wh {cl:Call} {ds so:Operand} {ty e sz b off len n AZ e':Nat} {c:n8} {v:AV} {news cells cells':List AV} (hc:cl.callee= .builtin .copy) (ha:cl.args.toList= [ds,so]) (ht:cl.argTypes[0]?=some ty) (hu:P.underlying ty=some (.slice e)) (hj:(P.info? e).map (·.size)=some sz)
  (hd:ev ds=some (.slice b off len c)) (hs:ev so=some v) (hsrc:iC σ sz v=some (n,news)) (hcnt:Nat.min n len=AZ) (hpos:1≤AZ) (hb:σ.m.get b=some (.row cells e' false)) (hl:bT (news.take (AZ*sz))=true) (hsz:1≤sz)
  (hle:off+(news.take (AZ*sz)).length≤cells.length) (hr:cO (news.take (AZ*sz)) cells off=cells'):dg P G ev σ (.call cl)= .val (.int .i64 (.ofNat AZ)) (σ.setObj b (.row cells' e' false)):=by
 refine iI (by simp[kindOf,hc]) ?_;obtain⟨j,hj',rfl⟩:=Option.map_eq_some_iff.1 hj
 have he:qp ev [ds,so]=some [.slice b off len c,v]:=by
  unfold qp bO;simp only[hd,hs]
 have h0:Nat.beq AZ 0=false:=by
  cases hh:Nat.beq AZ 0 with
  | false=>rfl
  | true=>exact absurd (Nat.eq_of_beq_eq_true hh) (by omega)
 subst hr;simp only[eW,hc,ha,he,oA,ht,hu,hj',hsrc,hcnt,h0,cond_false,hb,cB,hl,bn,show Nat.ble 1 j.size=true by rw[Nat.ble_eq];exact hsz,show Nat.ble (off+(news.take (AZ*j.size)).length) cells.length=true by rw[Nat.ble_eq];exact hle,Bool.and_self,cond_true]
theorem CD {cl:Call} {so no:Operand} {ty t2 e sz b len cp n e' w:Nat} {k2:IntKind} {cells zs:List AV} (hc:cl.callee= .builtin .append) (ha:cl.args.toList= [so,no]) (ht:cl.argTypes[0]?=some ty) (ht2:cl.argTypes[1]?=some t2) (hu:P.underlying ty=some (.slice e)) (hu2:P.underlying t2=some (.int k2)) (hj:(P.info? e).map (·.size)=some sz) (hw:(P.info? e).map (·.bytes)=some w) (hz:(ej P e).bind cm=some zs)
  (hs:ev so=some (.slice b 0 len (.known cp))) (hn:ev no=some (.int .i64 (.ofNat n))) (hb:σ.m.get b=some (.row cells e' false)) (h1:cp<len+n) (h2:1≤n) (h3:n≤1048576) (h4:len≤1048576) (h5:1≤sz) (h6:w≤65536) (h7:zs.length=sz) (h8:len*sz≤cells.length) {m:Nat} (hm:len+n=m):
  dg P G ev σ (.call cl)= .val (.slice σ.next 0 m (.upto sz)) (σ.alloc (.row (cells.take (len*sz)++ec zs n) e false)):=by
 refine iI (by simp[kindOf,hc]) ?_;obtain⟨j,hj',rfl⟩:=Option.map_eq_some_iff.1 hj;rw[hj'] at hw;have hw:j.bytes=w:=by simpa using hw
 subst hm
 have he:qp ev [so,no]=some [.slice b 0 len (.known cp),.int .i64 (.ofNat n)]:=by
  unfold qp bO;simp only[hs,hn]
 have hsl:dn P (some t2)=false:=by simp only[dn,hu2]
 have hcp:Nat.ble (len+n) cp=false:=by
  cases hh:Nat.ble (len+n) cp with
  | false=>rfl
  | true=>rw[Nat.ble_eq] at hh;omega
 have e1:Nat.ble n 1048576=true:=by rw[Nat.ble_eq];exact h3
 have e2:Nat.ble 1 n=true:=by rw[Nat.ble_eq];exact h2
 have e3:Nat.ble 1 j.size=true:=by rw[Nat.ble_eq];exact h5
 have e4:Nat.ble j.bytes 65536=true:=by rw[Nat.ble_eq,hw];exact h6
 have e5:Nat.beq (cr zs) j.size=true:=by rw[bn,h7];exact Nat.beq_refl _
 have e6:Nat.ble (0+len*j.size) (cr cells)=true:=by rw[Nat.ble_eq,bn];omega
 have e7:Nat.ble len 1048576=true:=by rw[Nat.ble_eq];exact h4
 simp only[eW,hc,ha,he,hsl,cond_false,mr,ht,ht2,hu,hu2,hj',hz,e1,e2,e3,e4,e5,Bool.and_self,cond_true,hcp,hb,e6,e7,grow,cT,cB,cU,List.drop_zero]
end
section
variable {P:Program} {G:Cx} {ev:Operand→Option AV} {σ:av}
theorem zC {cl:Call} {g b b' off off' n n' e e':Nat} {c c':n8} {cells cells':List AV} {x y:Operand} (hc:cl.callee= .value (.func g)) (ha:cl.args.toList= [x,y]) (hgo:rN P g=false) (hov:G.ov g=true) (hne:isNe P g=false) (hx:ev x=some (.slice b off n c)) (hy:ev y=some (.slice b' off' n' c')) (hf:ev (.func g)=some (.func g [] []))
  (h1:σ.m.get b=some (.row cells e false)) (h2:σ.m.get b'=some (.row cells' e' false)) (hb:b≠b') (hcf:iT c=true) (hcf':iT c'=true) (hl:1≤cells'.length):dg P G ev σ (.call cl)= .val (.bool false) σ:=by
 refine iI (by simp[kindOf,hc]) ?_
 have he:qp ev [x,y]=some [.slice b off n c,.slice b' off' n' c']:=by
  unfold qp bO;simp only[hx,hy]
 have hs:gK b b'=false:=by
  unfold gK;cases hh:Nat.beq b b' with
  | false=>rfl
  | true=>exact absurd (Nat.eq_of_beq_eq_true hh) hb
 have hap:eT ([]:List AV) (eT [.slice b off n c,.slice b' off' n' c'] [])= [.slice b off n c,.slice b' off' n' c']:=rfl;simp only[eW,hc,hf,ha,he,vk,hgo,hov,hne,cond_true,cond_false,hap,lT,h1,h2,hs,hcf,hcf',bn,show Nat.ble 1 cells'.length=true by rw[Nat.ble_eq];exact hl,Bool.and_self]
theorem Gi {cl:Call} {ty e:TypeId} {x:Operand} {v r:AV} (hc:cl.callee= .builtin .cap) (ht:cl.argTypes[0]?=some ty) (ha:cl.args.toList= [x]) (hu:P.underlying ty=some (.slice e)) (hx:ev x=some v) (h:GI v=some r):dg P G ev σ (.call cl)= .val r σ:=by
 refine aU (by simp[kindOf,hc]) ?_;simp only[cu,hc,ht,ha,hu,hx,h]
end
section
variable {P:Program} {G:Cx} {n:Nat} {t:PT AV} {σ:av} {K:KP} {L:Own} {Q:Ex→PT AV→av→Prop} {ops:Array Oper} {o:Oper} {l:List Oper}
theorem C4 (hs:St σ K L) {ob:bJ} {k sz:Nat} {t':Nat→PT AV} (hw:bp ops t o=some true) (hv:dg P G (aX G t) σ o.op= .val (.slice σ.next 0 k (.upto sz)) (σ.alloc ob)) (hp:∀b,cP t n o.dst (.slice b 0 k (.upto sz))=some (t' b))
  (h:∀(σ':av) (b:Nat),St σ' K ((b,ob)::L)→cq P G ops n l (t' b) σ' Q):cq P G ops n (o::l) t σ Q:=
 aa hw hv (hp _) (h _ _ (hs.alloc ob))
end
section
variable {P:Program} {G:Cx} {σ:av} {K:KP} {L:Own}
theorem qz {α:Type} {m e:Nat} {R:α→List AV→Prop} {l2:List α} {v2:AV} {ts:Array TypeId} {t:TypeId} (hs:St σ K L) (hx:bD K m R l2 v2) (hleaf:∀x vs,R x vs→bT vs=true) (hn:l2.length≤1048576) (hpos:1≤l2.length)
  (ht:ts[0]?=some t) (hu:P.underlying t=some (.slice e)) (ha:vT P e m=true) (h2:dn P ts[1]?=true):
  ∃news,fy P σ ts .aq v2= .val (.slice σ.next 0 l2.length (.upto m)) (σ.alloc (.row news e false))∧news.length=l2.length*m∧∀(i:Nat) (x:α),l2[i]?=some x→R x ((news.drop (i*m)).take m):=by
 obtain⟨news,s1,s2,s3,s4⟩:=nQ hs hx hleaf;refine⟨news,?_,s2,s4⟩;unfold vT at ha;split at ha
 ·rename_i j hj;simp only[Bool.and_eq_true] at ha;obtain⟨a1,a2,a3,a4⟩:=ha;have hm:j.size=m:=Nat.eq_of_beq_eq_true a1;subst hm;have hz:((P.info? e).any fun j=>(j.zero.bind oD).any fun z=>(cm z).any fun cs=>Nat.beq (cr cs) j.size)=true:=by rw[hj];exact a4
  have h0:Nat.beq l2.length 0=false:=by
   cases hh:Nat.beq l2.length 0 with
   | false=>rfl
   | true=>exact absurd (Nat.eq_of_beq_eq_true hh) (by omega)
  unfold fy;rw[ht];dsimp only;rw[hu];dsimp only;rw[hj] at hz⊢;dsimp only;rw[h2,a2,a3];simp only[Bool.and_self,cond_true];rw[s1];dsimp only;rw[s3,show Nat.ble l2.length 1048576=true by rw[Nat.ble_eq];exact hn,hz];simp only[Bool.and_self,cond_true,h0,cond_false];rfl
 ·cases ha
end
section
variable {P:Program} {G:Cx} {n:Nat} {t:PT AV} {σ:av} {K:KP} {L:Own} {Q:Ex→PT AV→av→Prop} {ops:Array Oper} {o:Oper} {l:List Oper}
theorem CO {α:Type} {m e:Nat} {R:α→List AV→Prop} {l2:List α} {v2:AV} {ty:TypeId} {cl:Call} {so xo:Operand} {t':AV→PT AV} (hs:St σ K L) (hx:bD K m R l2 v2) (hleaf:∀x vs,R x vs→bT vs=true) (hn:l2.length≤1048576) (hpos:1≤l2.length)
  (hw:bp ops t o=some true) (ho:o.op= .call cl) (hcl:cl.callee= .builtin .append) (hargs:cl.args.toList= [so,xo]) (ht:cl.argTypes[0]?=some ty) (hu:P.underlying ty=some (.slice e)) (ha:vT P e m=true) (h2:dn P cl.argTypes[1]?=true)
  (e1':aX G t so=some .aq) (e2':aX G t xo=some v2) (hp:∀v,cP t n o.dst v=some (t' v))
  (h:∀(σ':av) (b':Nat) (news:List AV),St σ' K ((b',.row news e false)::L)→news.length=l2.length*m→(∀(i:Nat) (x:α),l2[i]?=some x→R x ((news.drop (i*m)).take m))→cq P G ops n l (t' (.slice b' 0 l2.length (.upto m))) σ' Q):cq P G ops n (o::l) t σ Q:=by
 obtain⟨news,k1,k2,k3⟩:=qz (P:=P) hs hx hleaf hn hpos ht hu ha h2;refine aa hw ?_ (hp _) (h _ σ.next news (hs.alloc _) k2 k3);rw[ho];exact dQ hcl hargs e1' e2' h2 k1
end
section
variable {σ:av} {K:KP} {L:Own} {b:Nat} {o:bJ}
def KP.sub (K:KP) (b:Nat):KP:=fun b' o'=>K b' o'∧b'≠b
theorem St.GP (h:St σ K L) (hk:K b o):St σ (K.sub b) ((b,o)::L) where
 kept b' o' hb:=by
  obtain⟨h1,h2,h3⟩:=h.kept b' o' hb.1;refine⟨h1,h2,fun e he=>?_⟩;rcases List.mem_cons.1 he with rfl | he
  ·exact fun hh=>hb.2 hh.symm
  ·exact h3 e he
 own e he:=by
  rcases List.mem_cons.1 he with rfl | he
  ·exact⟨(h.kept b o hk).1,(h.kept b o hk).2.1⟩
  ·exact h.own e he
 ne:=List.pairwise_cons.2 ⟨fun e he hh=>(h.kept b o hk).2.2 e he hh.symm,h.ne⟩
theorem St.Hh {σ0:av} {L0:Own} (h0:St σ0 K L0) (hk:K b o) (h:St σ (K.sub b) ((b,o)::L)):St σ K L:=
 h.EY.weaken fun b' o' hb=>by
  by_cases hbb:b'=b
  ·subst hbb;have e1:=(h0.kept _ _ hb).2.1;rw[(h0.kept _ _ hk).2.1] at e1;cases e1;exact .inr ⟨rfl,rfl⟩
  ·exact .inl ⟨hb,hbb⟩
theorem St.two {b b':Nat} {o o' o1 o1':bJ} (hb:b<σ.next) (hb':b'<σ.next) (hne:b≠b'):St (dV σ b o b' o') (fun _ _=>False) [(b,o),(b',o')] where
 kept _ _ h:=h.elim
 own e he:=by
  rcases List.mem_cons.1 he with rfl | he
  ·exact⟨hb,by show((PT.leaf.put (some o) b).put (some o') b').get b=_;rw[PT.cF _ _ _ _ hne];exact PT.cH _ _ _⟩
  ·rcases List.mem_cons.1 he with rfl | he
   ·exact⟨hb',PT.cH _ _ _⟩
   ·cases he
 ne:=List.pairwise_cons.2 ⟨fun e he=>(by rw[List.mem_singleton] at he;subst he;exact hne),List.pairwise_singleton ..⟩
end
inductive fS (X:Own):Own→Own→Prop
 | here {L:Own}:fS X (X++L) L
 | there {y:Nat×bJ} {L L0:Own}:fS X L L0→fS X (y::L) (y::L0)
 | fc {M L L0:Own}:fS X L L0→fS X (M++L) (M++L0)
theorem fS.perm {X L L0:Own} (h:fS X L L0):L.Perm (X++L0):=by
 induction h with
 | here=>exact List.Perm.refl _
 | @there y L L0 _ ih=>exact(List.Perm.cons y ih).trans List.perm_middle.symm
 | @fc M L L0 _ ih=>
  refine(List.Perm.append_left M ih).trans ?_;rw[←List.append_assoc,←List.append_assoc];exact List.Perm.append_right _ List.perm_append_comm
theorem fS.oG {X A B L:Own}:fS X ((A++(X++B))++L) ((A++B)++L):=by
 rw[List.append_assoc,List.append_assoc,List.append_assoc];exact .fc .here
section
variable {σ:av} {K:KP} {L L0 X:Own}
theorem St.pull (h:St σ K L) (hi:fS X L L0):St σ K (X++L0):=h.perm hi.perm
theorem St.push (h:St σ K (X++L0)) (hi:fS X L L0):St σ K L:=h.perm hi.perm.symm
theorem eR {P:Program} {α:Type} {m e:Nat} {R:α→List AV→Prop} {l l2:List α} {u v2:AV} {M:Own} {bv ev:Nat} {cv:List AV} {ts:Array TypeId} {t:TypeId} (ho:eN m e R l u M) (hst:St σ K ((bv,.row cv ev false)::(M++L)))
  (hx:bD (K.add bv (.row cv ev false)) m R l2 v2) (hleaf:∀x vs,R x vs→bT vs=true) (hn:l2.length≤1000) (hpos:1≤l2.length) (hl:l.length≤1000000)
  (ht:ts[0]?=some t) (hu:P.underlying t=some (.slice e)) (ha:vT P e m=true) (h2:dn P ts[1]?=true):
  ∃σ' u' M',fy P σ ts u v2= .val u' σ'∧eN m e R (l++l2) u' M'∧St σ' K (M'++L):=by
 have hk:=hst.EY;rcases ho with ⟨rfl,rfl,rfl⟩ | ⟨b,c,cells,e',rfl,rfl,h3,h4,h5,h6⟩
 ·obtain⟨news,k1,k2,k3⟩:=qz (P:=P) hk hx hleaf (by omega) hpos ht hu ha h2;exact⟨_,_,[(σ.next,.row news e false)],k1,.inr ⟨_,_,news,e,rfl,rfl,k2,k3,.inr ⟨rfl,rfl⟩,by show l2.length≤_;omega⟩,((hk.alloc (.row news e false)).weaken (KP.ua _ _ _))⟩
 ·obtain⟨σ',b',c',news,e2,k1,k2,k3,k4,k5⟩:=xV (P:=P) hk hx hleaf (by omega) h3 (by omega) h5 ht hu ha h2;exact⟨σ',_,[(b',.row (cells++news) e2 false)],k1,pK h3 h4 k3 k4 rfl k5 (by omega),k2.weaken (KP.ua _ _ _)⟩
end
noncomputable def Bd (g:XG) (tm:Nat) (e:cK) (fr:cS) (pl:Nat) (row:List cK) (frow:List cS) (orow:List cS) (loc:Nat):XG:=
 {init:=g.init,threads:=g.threads.set tm (row++[e]),from_:=g.from_.set tm (frow++[fr]),order:=bif aZ e then g.order.set loc (orow.take pl++⟨.ofNat (tm+1),.ofNat row.length⟩::orow.drop pl) else g.order}
noncomputable def eX (g:XG) (th:Int) (e:cK) (fr:cS) (pl:Int):Option XG×Int:=
 bif !bm (bL g) 0 then(none,2) else
 bif cg th 1 then(none,9) else
 bif cg (.ofNat g.threads.length) th then(none,9) else
 match g.threads[th.toNat-1]?,g.from_[th.toNat-1]? with
 | some row,some frow=>
  bif !cg (.ofNat row.length) 14 then(none,3) else
  bif (bif aZ e then(bif cg pl 1 then true else cg (.ofNat (bN g e.loc).length) pl) else !bm pl 0) then(none,2) else
  let g':=Bd g (th.toNat-1) e fr (pl.toNat-1) row frow ((g.order[e.loc.toNat]?).getD []) e.loc.toNat
  bif bm (bL g') 0 then(some g',0) else(none,2)
 | _,_=>(none,9)
theorem GG {P:Program} {G:Cx} {ev:Operand→Option AV} {σ:av} {α:Type} {m E:Nat} {R:α→List AV→Prop} {l:List α} {u:AV} {M:Own} {c:Call} {t e:TypeId} {x:Operand} (h:eN m E R l u M) (hc:c.callee= .builtin .len) (ht:c.argTypes[0]?=some t) (ha:c.args.toList= [x]) (hu:P.underlying t=some (.slice e)) (hx:ev x=some u):
  dg P G ev σ (.call c)= .val (.int .i64 (.ofNat l.length)) σ:=
 aT (K:=fun b o=>(b,o)∈M) (h.kJ fun e he=>he) hc ht ha hu hx
theorem nY (b o l c:Nat):du (.slice b o l (.known c)) (.slice b o l (.known c))=true:=by
 unfold du;show(du.beqP b b && Nat.beq o o && Nat.beq l l && du.beqC (.known c) (.known c))=true;rw[show du.beqP b b=true from Nat.beq_refl b,show du.beqC (.known c) (.known c)=true from Nat.beq_refl c,Nat.beq_refl,Nat.beq_refl];rfl
theorem ie {us:List AV} {u:AV} {i:Nat} (h:i<us.length):cO [u] us (0+i*1)=us.set i u:=by
 rw[show 0+i*1=i by omega,lq _ _ _ (by rw[List.length_singleton];omega),List.length_singleton,List.set_eq_take_append_cons_drop,if_pos h,List.append_assoc];rfl
theorem ng {n:Int} (h:cg n 1=false):∃m:Nat,n= .ofNat (m+1):=by
 cases n with
 | negSucc k=>cases h
 | ofNat k=>
  have:1≤k:=bz (a:=k) (b:=1) h;exact⟨k-1,by rw[Nat.sub_add_cancel this]⟩
theorem wV {m:LM} {k:List Int} (h:(eF m k).isSome=true):(jh m k).length+1=m.length:=by
 unfold eF at h;unfold jh;cases ha:ns m k 0 with
 | none=>rw[ha] at h;cases h
 | some p=>
  obtain⟨j,v⟩:=p;have h1:=(nF ha).2;have hj:j<m.length:=(List.getElem?_eq_some_iff.1 h1).1;dsimp only;rw[List.length_eraseIdx_of_lt hj];omega
theorem rI {loc:Nat}:∀{l:List cS} {m m':LM},jv loc l m=some m'→m'.length+l.length=m.length
 | [],m,m',h=>by cases h;rfl
 | id::l,m,m',h=>by
  have h':(bif (eF m id.ints).isSome then(bif bm ((eF m id.ints).getD 0) (.ofNat loc) then jv loc l (jh m id.ints) else none) else none)=some m':=h;cases hs:(eF m id.ints).isSome with
  | false=>rw[hs] at h';cases h'
  | true=>
   rw[hs] at h';cases he:bm ((eF m id.ints).getD 0) (.ofNat loc) with
   | false=>rw[he] at h';cases h'
   | true=>
    rw[he] at h';have h1:=rI (l:=l) h';have h2:=wV hs;rw[List.length_cons];omega
theorem rp:∀{ls:List (List cS)} {loc:Nat} {m m':LM},kL ls loc m=some m'→∀l∈ls,l.length≤m.length
 | [],_,_,_,_,l,hl=>by cases hl
 | r::ls,loc,m,m',h,l,hl=>by
  have h':(jv loc r m).bind (kL ls (loc+1))=some m':=h;cases hr:jv loc r m with
  | none=>rw[hr] at h';cases h'
  | some m1=>
   rw[hr] at h';have h1:=rI hr;rcases List.mem_cons.1 hl with rfl | hl
   ·omega
   ·have:=rp (ls:=ls) h' l hl;omega
theorem yq {t:Nat} {m:LM} {n:Nat} {e:cK}:(tN t m n e).length≤m.length+1:=by
 unfold tN;cases aZ e with
 | false=>show m.length≤_;omega
 | true=>
  show(mT m _ _).length≤_;unfold mT;split
  ·rw[List.length_set];omega
  ·rw[List.length_append];exact Nat.le_refl _
theorem rH {t:Nat}:∀{l:List cK} {n:Nat} {m:LM},(om t l n m).length≤m.length+l.length
 | [],_,_=>Nat.le_refl _
 | e::l,n,m=>by
  have h1:=rH (t:=t) (l:=l) (n:=n+1) (m:=tN t m n e);have h2:=yq (t:=t) (m:=m) (n:=n) (e:=e);show(om t l (n+1) (tN t m n e)).length≤_;rw[List.length_cons];omega
theorem rD:∀{ls:List (List cK)} {t:Nat} {m:LM},(∀l∈ls,l.length≤14)→(mO ls t m).length≤m.length+14*ls.length
 | [],_,_,_=>by simp[mO]
 | l::ls,t,m,h=>by
  have h1:=rD (ls:=ls) (t:=t+1) (m:=om t l 0 m) fun x hx=>h x (List.mem_cons_of_mem _ hx)
  have h2:=rH (t:=t) (l:=l) (n:=0) (m:=m);have h3:=h l (List.mem_cons_self ..);show(mO ls (t+1) (om t l 0 m)).length≤_;rw[List.length_cons];omega
theorem lR {g:XG} (h:bL g=0):∀l∈g.order,l.length≤56:=by
 intro l hl;obtain⟨b1,b2,b3,b4,b5,b6,b7⟩:=cz h;unfold dL at b7;cases hc:kL g.order 0 (mO g.threads 0 []) with
 | none=>rw[hc] at b7;cases b7
 | some m=>
  have h1:=rp hc l hl;have h2:=rD (ls:=g.threads) (t:=0) (m:=[]) b3;have h3:([]:LM).length=0:=rfl;omega
end Go.Ev
namespace Go.Ev
variable [Env]
theorem nt {g:XG}:∀{ts:List (List cK)} {fs:List (List cS)} {i:Nat},jf g ts fs i=true→fs.length=ts.length→(∀l∈ts,l.length≤14)→∀f∈fs,f.length≤14
 | [],fs,_,_,hl,_,f,hf=>by
  rw[List.eq_nil_of_length_eq_zero hl] at hf;cases hf
 | x::ts,[],_,_,hl,_,f,hf=>by cases hf
 | x::ts,y::fs,i,h,hl,hb,f,hf=>by
  have h':(bif bm (.ofNat y.length) (.ofNat x.length) then(bif nr g i x y 0 then jf g ts fs (i+1) else false) else false)=true:=h;cases he:bm (.ofNat y.length) (.ofNat x.length) with
  | false=>rw[he] at h';cases h'
  | true=>
   rw[he] at h';cases hr:nr g i x y 0 with
   | false=>rw[hr] at h';cases h'
   | true=>
    rw[hr] at h';have e1:=di he;have e2:=hb x (List.mem_cons_self ..);rcases List.mem_cons.1 hf with rfl | hf
    ·omega
    ·exact nt (ts:=ts) (fs:=fs) h' (by simpa using hl) (fun l hl=>hb l (List.mem_cons_of_mem _ hl)) f hf
end Go.Ev
namespace Go.Ev
variable [Env]
theorem xC {g:XG} {th pl:Int} {e:cK} {fr:cS} (h:bm (bL g) 0=false):eX g th e fr pl=(none,2):=by unfold eX;rw[h];rfl
theorem xJ {g:XG} {th pl:Int} {e:cK} {fr:cS} (h:bm (bL g) 0=true) (h1:cg th 1=true):eX g th e fr pl=(none,9):=by unfold eX;rw[h,h1];rfl
theorem yr {g:XG} {th pl:Int} {e:cK} {fr:cS} (h:bm (bL g) 0=true) (h1:cg th 1=false) (h2:cg (.ofNat g.threads.length) th=true):eX g th e fr pl=(none,9):=by unfold eX;rw[h,h1,h2];rfl
noncomputable def bY (g:XG) (e:cK) (pl:Int):Bool:=bif aZ e then(bif cg pl 1 then true else cg (.ofNat (bN g e.loc).length) pl) else !bm pl 0
noncomputable def ez (g:XG) (tm:Nat) (e:cK) (fr:cS) (pl:Int) (row:List cK) (frow:List cS):XG:=Bd g tm e fr (pl.toNat-1) row frow ((g.order[e.loc.toNat]?).getD []) e.loc.toNat
theorem iM {g:XG} {tm:Nat} {pl:Int} {e:cK} {fr:cS} {row:List cK} {frow:List cS} (h:bm (bL g) 0=true) (hx:g.threads[tm]?=some row) (hf:g.from_[tm]?=some frow):
  eX g (.ofNat (tm+1)) e fr pl=bif !cg (.ofNat row.length) 14 then(none,3) else bif bY g e pl then(none,2) else bif bm (bL (ez g tm e fr pl row frow)) 0 then(some (ez g tm e fr pl row frow),0) else(none,2):=by
 have hlt:tm<g.threads.length:=(List.getElem?_eq_some_iff.1 hx).1;have h1:cg (.ofNat (tm+1)) 1=false:=by rw[show(1:Int)= .ofNat 1 from rfl,iL];simp
 have h2:cg (.ofNat g.threads.length) (.ofNat (tm+1))=false:=by rw[iL];simp;omega
 have e1:(Int.ofNat (tm+1)).toNat-1=tm:=rfl;unfold eX;rw[h,h1,h2];simp only[Bool.not_true,cond_false,e1,hx,hf];rfl
end Go.Ev
namespace Go.Ev
variable [Env]
theorem tM {g:XG} {loc:Int} (h:1≤(bN g loc).length):∃(ln:Nat) (r:List cS),loc= .ofNat ln∧g.order[ln]?=some r∧(bN g loc).length=r.length+1:=by
 cases hc:bm (bL g) 0 with
 | false=>rw[pT hc] at h;cases h
 | true=>
  cases hl:cg loc 0 with
  | true=>rw[rG hl] at h;cases h
  | false=>
   obtain⟨ln,rfl⟩:=qB hl;cases hr:g.order[ln]? with
   | none=>
    rw[qW (List.getElem?_eq_none_iff.1 hr)] at h;cases h
   | some r=>exact⟨ln,r,rfl,hr,by rw[dT hc hr];rfl⟩
section
variable {σ σ0:av} {K:KP} {L M:Own}
theorem St.AX (h0:St σ0 K (M++L)) (h:St σ (K.oi M) L):St σ K (M++L) where
 kept b o hb:=by
  obtain⟨h1,h2,h3⟩:=h.kept b o (.inl hb);refine⟨h1,h2,fun e he=>?_⟩;rcases List.mem_append.1 he with he | he
  ·exact(h0.kept b o hb).2.2 e (List.mem_append_left _ he)
  ·exact h3 e he
 own e he:=by
  rcases List.mem_append.1 he with he | he
  ·exact⟨(h.kept e.1 e.2 (.inr he)).1,(h.kept e.1 e.2 (.inr he)).2.1⟩
  ·exact h.own e he
 ne:=h0.ne
end
end Go.Ev
namespace Go.Ev
variable [Env]
inductive mD:Own→Own→Own→Prop
 | base {L:Own}:mD L [] L
 | there {x:Nat×bJ} {LL M L:Own}:mD LL M L→mD (x::LL) (x::M) L
 | fc {A LL M L:Own}:mD LL M L→mD (A++LL) (A++M) L
theorem mD.eq {LL M L:Own} (h:mD LL M L):LL=M++L:=by
 induction h with
 | base=>rfl
 | there _ ih=>rw[ih];rfl
 | fc _ ih=>rw[ih,List.append_assoc]
theorem St.app {σ:av} {K:KP} {LL M L:Own} (h:St σ K LL) (ha:mD LL M L):St σ K (M++L):=by rw[←ha.eq];exact h
theorem St.Gb {σ:av} {K:KP} {LL M L:Own} (h:St σ K (M++L)) (ha:mD LL M L):St σ K LL:=by rw[ha.eq];exact h
theorem w7 {g:XG} {tm ln pm:Nat} {e:cK} {fr:cS} {row:List cK} {frow orow:List cS} (hw:aZ e=true) (hl:e.loc= .ofNat ln) (ho:g.order[ln]?=some orow):
  ez g tm e fr (.ofNat (pm+1)) row frow= {init:=g.init,threads:=g.threads.set tm (row++[e]),from_:=g.from_.set tm (frow++[fr]),order:=g.order.set ln (orow.take pm++⟨.ofNat (tm+1),.ofNat row.length⟩::orow.drop pm)}:=by
 have e1:(Int.ofNat (pm+1)).toNat-1=pm:=rfl;have e2:(Int.ofNat ln).toNat=ln:=rfl;unfold ez Bd;rw[hw,hl,e1,e2,ho];rfl
theorem BT {g:XG} {tm:Nat} {pl:Int} {e:cK} {fr:cS} {row:List cK} {frow:List cS} (hw:aZ e=false):
  ez g tm e fr pl row frow= {init:=g.init,threads:=g.threads.set tm (row++[e]),from_:=g.from_.set tm (frow++[fr]),order:=g.order}:=by
 unfold ez Bd;rw[hw];rfl
theorem Ch {g:XG} {i:Nat}:eU g ⟨.ofNat 0,.ofNat i⟩=(g.init[i]?).map fun v=>⟨2,i,1,0,v⟩:=rfl
theorem mS {g:XG} {t i:Nat}:eU g ⟨.ofNat (t+1),.ofNat i⟩=(g.threads[t]?).bind (·[i]?):=rfl
theorem tB {g g':XG} {tm:Nat} {row:List cK} {e w:cK} {id:cS} (hr:g.threads[tm]?=some row) (hi:g'.init=g.init) (ht:g'.threads=g.threads.set tm (row++[e])) (h:eU g id=some w):eU g' id=some w:=by
 obtain⟨th,ix⟩:=id;cases ix with
 | negSucc k=>rw[vy (by rw[eS];simp)] at h;cases h
 | ofNat i=>
  cases th with
  | negSucc k=>rw[uY (by rw[eS];simp)] at h;cases h
  | ofNat t=>
   cases t with
   | zero=>rw[Ch] at h⊢;rw[hi];exact h
   | succ t=>
    rw[mS] at h⊢;rw[ht,List.getElem?_set]
    by_cases htm:tm=t
    ·subst htm;have hlt:tm<g.threads.length:=(List.getElem?_eq_some_iff.1 hr).1;rw[if_pos rfl,if_pos hlt];rw[hr] at h;have h':row[i]?=some w:=h;show(row++[e])[i]?=some w;rw[List.getElem?_append_left (List.getElem?_eq_some_iff.1 h').1];exact h'
    ·rw[if_neg htm];exact h
theorem C8 {g g':XG} {tm:Nat} {row:List cK} {e:cK} (hr:g.threads[tm]?=some row) (ht:g'.threads=g.threads.set tm (row++[e])):eU g' ⟨.ofNat (tm+1),.ofNat row.length⟩=some e:=by
 have hlt:tm<g.threads.length:=(List.getElem?_eq_some_iff.1 hr).1;rw[mS,ht,List.getElem?_set,if_pos rfl,if_pos hlt];show(row++[e])[row.length]?=some e;rw[List.getElem?_append_right (Nat.le_refl _),Nat.sub_self];rfl
noncomputable def dz (t:Nat):List cK→Nat→LM
 | [],_=>[]
 | e::l,n=>bif aZ e then([.ofNat (t+1),.ofNat n],e.loc)::dz t l (n+1) else dz t l (n+1)
noncomputable def ff:List (List cK)→Nat→LM
 | [],_=>[]
 | l::r,t=>dz t l 0++ff r (t+1)
theorem vN {k:List Int}:∀{m:LM} {i:Nat},(∀p∈m,p.1≠k)→ns m k i=none
 | [],_,_=>rfl
 | (k',v)::m,i,h=>by
  show(bif cG k k' then some (i,v) else ns m k (i+1))=none
  have:cG k k'=false:=by
   cases hh:cG k k' with
   | false=>rfl
   | true=>exact absurd (cD.1 hh).symm (h (k',v) (List.mem_cons_self ..))
  rw[this];exact vN fun p hp=>h p (List.mem_cons_of_mem _ hp)
theorem uo {t:Nat}:∀{l:List cK} {n:Nat} {m:LM},(∀p∈m,∀k,n≤k→p.1≠[.ofNat (t+1),.ofNat k])→om t l n m=m++dz t l n
 | [],_,m,_=>by simp[om,dz]
 | e::l,n,m,h=>by
  show om t l (n+1) (tN t m n e)=m++(bif aZ e then _ else _);unfold tN;cases hw:aZ e with
  | false=>exact uo fun p hp k hk=>h p hp k (by omega)
  | true=>
   show om t l (n+1) (mT m [.ofNat (t+1),.ofNat n] e.loc)=m++_
   have hp:mT m [.ofNat (t+1),.ofNat n] e.loc=m++[([.ofNat (t+1),.ofNat n],e.loc)]:=by
    unfold mT;rw[vN fun p hp=>h p hp n (Nat.le_refl _)]
   rw[hp,uo (l:=l) (n:=n+1) fun p hp k hk=>?_,List.append_assoc]
   ·rfl
   ·rcases List.mem_append.1 hp with hp | hp
    ·exact h p hp k (by omega)
    ·rw[List.mem_singleton] at hp;subst hp;intro he;simp only[List.cons.injEq,and_true,true_and] at he;have:n=k:=Int.ofNat.inj he;omega
theorem jx {t:Nat}:∀{l:List cK} {n:Nat},∀p∈dz t l n,∃k,p.1= [.ofNat (t+1),.ofNat k]∧n≤k
 | [],_,p,h=>by cases h
 | e::l,n,p,h=>by
  have h':p∈(bif aZ e then([.ofNat (t+1),.ofNat n],e.loc)::dz t l (n+1) else dz t l (n+1)):=h;cases hw:aZ e with
  | false=>
   rw[hw] at h';obtain⟨k,h1,h2⟩:=jx (l:=l) p h';exact⟨k,h1,by omega⟩
  | true=>
   rw[hw] at h';rcases List.mem_cons.1 h' with rfl | h'
   ·exact⟨n,rfl,Nat.le_refl _⟩
   ·obtain⟨k,h1,h2⟩:=jx (l:=l) p h';exact⟨k,h1,by omega⟩
theorem xH:∀{ls:List (List cK)} {t:Nat} {m:LM},(∀p∈m,∀s k,t≤s→p.1≠[.ofNat (s+1),.ofNat k])→mO ls t m=m++ff ls t
 | [],_,m,_=>by simp[mO,ff]
 | l::ls,t,m,h=>by
  show mO ls (t+1) (om t l 0 m)=m++(dz t l 0++ff ls (t+1));rw[uo fun p hp k _=>h p hp t k (Nat.le_refl _),xH (ls:=ls) (t:=t+1) fun p hp s k hs=>?_,List.append_assoc];rcases List.mem_append.1 hp with hp | hp
  ·exact h p hp s k (by omega)
  ·obtain⟨k',h1,_⟩:=jx p hp;rw[h1];intro he;simp only[List.cons.injEq,and_true] at he;have:t+1=s+1:=Int.ofNat.inj he.1;omega
theorem q9 {ls:List (List cK)}:mO ls 0 []=ff ls 0:=by
 rw[xH fun p hp=>by cases hp];rfl
def ig (loc:Nat) (l:List cS):LM:=l.map fun id=>(id.ints,.ofNat loc)
def ka:List (List cS)→Nat→LM
 | [],_=>[]
 | r::ls,loc=>ig loc r++ka ls (loc+1)
theorem oF {α:Type}:∀{m:List α} {j:Nat} {x:α},m[j]?=some x→m.Perm (x::m.eraseIdx j)
 | [],_,_,h=>by simp at h
 | y::m,0,x,h=>by
  have:y=x:=by simpa using h
  subst this;exact List.Perm.refl _
 | y::m,j+1,x,h=>by
  have h':m[j]?=some x:=by simpa using h
  exact(List.Perm.cons y (oF h')).trans (List.Perm.swap x y _)
theorem sG {m:LM} {k:List Int} {v:Int} (h:eF m k=some v):m.Perm ((k,v)::jh m k):=by
 unfold eF at h;unfold jh;cases ha:ns m k 0 with
 | none=>rw[ha] at h;cases h
 | some p=>
  obtain⟨j,w⟩:=p;rw[ha] at h;have hw:w=v:=by simpa using h
  subst hw;exact oF (nF ha).2
theorem vA {loc:Nat}:∀{l:List cS} {m m':LM},jv loc l m=some m'→m.Perm (ig loc l++m')
 | [],m,m',h=>by cases h;exact List.Perm.refl _
 | id::l,m,m',h=>by
  have h':(bif (eF m id.ints).isSome then(bif bm ((eF m id.ints).getD 0) (.ofNat loc) then jv loc l (jh m id.ints) else none) else none)=some m':=h;cases hs:eF m id.ints with
  | none=>rw[hs] at h';cases h'
  | some v=>
   rw[hs] at h';have h'':(bif bm v (.ofNat loc) then jv loc l (jh m id.ints) else none)=some m':=h';cases he:bm v (.ofNat loc) with
   | false=>rw[he] at h'';cases h''
   | true=>
    rw[he] at h'';rw[ei] at he;have hv:v= .ofNat loc:=of_decide_eq_true he;subst hv;exact(sG hs).trans (List.Perm.cons _ (vA (l:=l) h''))
theorem vC:∀{ls:List (List cS)} {loc:Nat} {m m':LM},kL ls loc m=some m'→m.Perm (ka ls loc++m')
 | [],_,m,m',h=>by cases h;exact List.Perm.refl _
 | r::ls,loc,m,m',h=>by
  have h':(jv loc r m).bind (kL ls (loc+1))=some m':=h;cases hr:jv loc r m with
  | none=>rw[hr] at h';cases h'
  | some m1=>
   rw[hr] at h';refine(vA hr).trans ?_;show(ig loc r++m1).Perm ((ig loc r++ka ls (loc+1))++m');rw[List.append_assoc];exact List.Perm.append_left _ (vC (ls:=ls) h')
theorem z6 {g:XG} (h:dL g=true):(ff g.threads 0).Perm (ka g.order 0):=by
 unfold dL at h;cases hc:kL g.order 0 (mO g.threads 0 []) with
 | none=>rw[hc] at h;cases h
 | some m=>
  rw[hc] at h
  have h0:m= []:=by
   have h1:bm (.ofNat m.length) (.ofNat 0)=true:=h;rw[gP] at h1;exact List.eq_nil_of_length_eq_zero (of_decide_eq_true h1)
  have:=vC hc;rw[h0,List.append_nil,q9] at this;exact this
theorem xT {k:List Int} {v:Int}:∀{m:LM} {i:Nat},(m.map (·.1)).Nodup→(k,v)∈m→∃j,ns m k i=some (j,v)
 | (k',w)::m,i,hn,h=>by
  rw[List.map_cons,List.nodup_cons] at hn;show∃j,(bif cG k k' then some (i,w) else ns m k (i+1))=some (j,v);rcases List.mem_cons.1 h with h1 | h1
  ·cases h1;rw[cD.2 rfl];exact⟨i,rfl⟩
  ·have:cG k k'=false:=by
    cases hh:cG k k' with
    | false=>rfl
    | true=>
     have e:=cD.1 hh;subst e;exact(hn.1 (List.mem_map.2 ⟨(k,v),h1,rfl⟩)).elim
   rw[this];exact xT (m:=m) hn.2 h1
theorem Be {loc:Nat}:∀{l:List cS} {m rest:LM},m.Perm (ig loc l++rest)→(m.map (·.1)).Nodup→∃m',jv loc l m=some m'∧m'.Perm rest∧(m'.map (·.1)).Nodup
 | [],m,rest,h,hn=>⟨m,rfl,h,hn⟩
 | id::l,m,rest,h,hn=>by
  have hmem:(id.ints,Int.ofNat loc)∈m:=h.mem_iff.2 (List.mem_cons_self ..);obtain⟨j,hj⟩:=xT (i:=0) hn hmem;have hg:eF m id.ints=some (.ofNat loc):=by unfold eF;rw[hj];rfl
  have hp:=sG hg;have hp2:(jh m id.ints).Perm (ig loc l++rest):=List.Perm.cons_inv (hp.symm.trans h)
  have hn2:((jh m id.ints).map (·.1)).Nodup:=by
   have:=(hp.map (·.1)).nodup_iff.1 hn;rw[List.map_cons,List.nodup_cons] at this;exact this.2
  obtain⟨m',h1,h2,h3⟩:=Be (l:=l) hp2 hn2;refine⟨m',?_,h2,h3⟩;show(bif (eF m id.ints).isSome then(bif bm ((eF m id.ints).getD 0) (.ofNat loc) then jv loc l (jh m id.ints) else none) else none)=some m';have he:bm (.ofNat loc) (.ofNat loc)=true:=by rw[gP];simp
  rw[hg];show(bif bm (.ofNat loc) (.ofNat loc) then jv loc l (jh m id.ints) else none)=some m';rw[he];exact h1
theorem BI:∀{ls:List (List cS)} {loc:Nat} {m:LM},m.Perm (ka ls loc)→(m.map (·.1)).Nodup→kL ls loc m=some []
 | [],_,m,h,_=>by rw[show m= [] from h.eq_nil];rfl
 | r::ls,loc,m,h,hn=>by
  obtain⟨m',h1,h2,h3⟩:=Be (l:=r) (rest:=ka ls (loc+1)) h hn;show(jv loc r m).bind (kL ls (loc+1))=some [];rw[h1];exact BI (ls:=ls) h2 h3
theorem nh {t:Nat}:∀{l:List cK} {n:Nat},((dz t l n).map (·.1)).Nodup
 | [],_=>List.nodup_nil
 | e::l,n=>by
  show((bif aZ e then([.ofNat (t+1),.ofNat n],e.loc)::dz t l (n+1) else dz t l (n+1):LM).map (·.1)).Nodup;cases aZ e with
  | false=>exact nh (l:=l)
  | true=>
   show(([Int.ofNat (t+1),Int.ofNat n],e.loc).1::(dz t l (n+1)).map (·.1)).Nodup;rw[List.nodup_cons];refine⟨fun h=>?_,nh (l:=l)⟩;obtain⟨p,hp,he⟩:=List.mem_map.1 h;obtain⟨k,h1,h2⟩:=jx p hp;rw[h1] at he;simp only[List.cons.injEq,and_true,true_and] at he;have:k=n:=Int.ofNat.inj he;omega
theorem vL:∀{ls:List (List cK)} {t:Nat},∀p∈ff ls t,∃s k,p.1= [.ofNat (s+1),.ofNat k]∧t≤s
 | [],_,p,h=>by cases h
 | l::ls,t,p,h=>by
  have h':p∈dz t l 0++ff ls (t+1):=h;rcases List.mem_append.1 h' with h' | h'
  ·obtain⟨k,h1,_⟩:=jx p h';exact⟨t,k,h1,Nat.le_refl _⟩
  ·obtain⟨s,k,h1,h2⟩:=vL (ls:=ls) p h';exact⟨s,k,h1,by omega⟩
theorem ri:∀{ls:List (List cK)} {t:Nat},((ff ls t).map (·.1)).Nodup
 | [],_=>List.nodup_nil
 | l::ls,t=>by
  show((dz t l 0++ff ls (t+1)).map (·.1)).Nodup;rw[List.map_append,List.nodup_append];refine⟨nh,ri (ls:=ls),fun a ha b hb hab=>?_⟩;obtain⟨p,hp,rfl⟩:=List.mem_map.1 ha;obtain⟨q,hq,rfl⟩:=List.mem_map.1 hb;obtain⟨k,h1,_⟩:=jx p hp;obtain⟨s,k',h3,h4⟩:=vL q hq;rw[h1,h3] at hab;simp only[List.cons.injEq,and_true] at hab;have:t+1=s+1:=Int.ofNat.inj hab.1;omega
theorem nw {g:XG}:dL g=true↔(ff g.threads 0).Perm (ka g.order 0):=by
 refine⟨z6,fun h=>?_⟩;unfold dL;rw[q9,BI h ri];rfl
theorem sI {t:Nat} {e:cK}:∀(l:List cK) (n:Nat),dz t (l++[e]) n=dz t l n++dz t [e] (n+l.length)
 | [],n=>rfl
 | x::l,n=>by
  show(bif aZ x then([.ofNat (t+1),.ofNat n],x.loc)::dz t (l++[e]) (n+1) else dz t (l++[e]) (n+1))=(bif aZ x then([.ofNat (t+1),.ofNat n],x.loc)::dz t l (n+1) else dz t l (n+1))++dz t [e] (n+(l.length+1));rw[sI l (n+1),show n+1+l.length=n+(l.length+1) by omega];cases aZ x<;>rfl
theorem vE {row:List cK} {e:cK}:∀{ls:List (List cK)} {t tm:Nat},ls[tm]?=some row→(ff (ls.set tm (row++[e])) t).Perm (dz (t+tm) [e] row.length++ff ls t)
 | [],_,_,h=>by simp at h
 | l::ls,t,0,h=>by
  have:l=row:=by simpa using h
  subst this;show(dz t (l++[e]) 0++ff ls (t+1)).Perm (dz (t+0) [e] l.length++(dz t l 0++ff ls (t+1)));rw[sI,Nat.zero_add,Nat.add_zero,←List.append_assoc];exact List.Perm.append_right _ List.perm_append_comm
 | l::ls,t,tm+1,h=>by
  have h':ls[tm]?=some row:=by simpa using h
  show(dz t l 0++ff (ls.set tm (row++[e])) (t+1)).Perm (dz (t+(tm+1)) [e] row.length++(dz t l 0++ff ls (t+1)));refine(List.Perm.append_left _ (vE h')).trans ?_;rw[show t+1+tm=t+(tm+1) by omega,←List.append_assoc,←List.append_assoc];exact List.Perm.append_right _ List.perm_append_comm
theorem zt {loc p:Nat} {id:cS} {r:List cS}:(ig loc (r.take p++id::r.drop p)).Perm ((id.ints,.ofNat loc)::ig loc r):=by
 have h:(r.take p++id::r.drop p).Perm (id::r):=by
  have:=List.perm_middle (a:=id) (l₁:=r.take p) (l₂:=r.drop p);rwa[List.take_append_drop] at this
 exact h.map fun x:cS=>(x.ints,Int.ofNat loc)
theorem yX {p:Nat} {id:cS} {r:List cS}:∀{ls:List (List cS)} {loc ln:Nat},ls[ln]?=some r→(ka (ls.set ln (r.take p++id::r.drop p)) loc).Perm ((id.ints,.ofNat (loc+ln))::ka ls loc)
 | [],_,_,h=>by simp at h
 | l::ls,loc,0,h=>by
  have:l=r:=by simpa using h
  subst this;show(ig loc (l.take p++id::l.drop p)++ka ls (loc+1)).Perm ((id.ints,.ofNat (loc+0))::(ig loc l++ka ls (loc+1)));exact List.Perm.append_right _ zt
 | l::ls,loc,ln+1,h=>by
  have h':ls[ln]?=some r:=by simpa using h
  show(ig loc l++ka (ls.set ln (r.take p++id::r.drop p)) (loc+1)).Perm ((id.ints,.ofNat (loc+(ln+1)))::(ig loc l++ka ls (loc+1)));refine(List.Perm.append_left _ (yX h')).trans ?_;rw[show loc+1+ln=loc+(ln+1) by omega];exact List.perm_middle
theorem qj {g:XG} {t:Nat}:∀{l:List cK} {f:List cS} {n:Nat},f.length=l.length→(nr g t l f n=true↔∀i e q,l[i]?=some e→f[i]?=some q→wj g t (n+i) e q=true)
 | [],f,n,h=>⟨fun _ i e q h1=>by simp at h1,fun _=>rfl⟩
 | x::l,[],n,h=>by cases h
 | x::l,y::f,n,h=>by
  have hl:f.length=l.length:=by simpa using h
  show(bif wj g t n x y then nr g t l f (n+1) else false)=true↔_;constructor
  ·intro hh i e q h1 h2;cases ho:wj g t n x y with
   | false=>rw[ho] at hh;cases hh
   | true=>
    rw[ho] at hh;cases i with
    | zero=>
     have e1:x=e:=by simpa using h1
     have e2:y=q:=by simpa using h2
     subst e1 e2;exact ho
    | succ i=>
     have:=(qj hl).1 hh i e q (by simpa using h1) (by simpa using h2);rwa[show n+1+i=n+(i+1) by omega] at this
  ·intro hh;rw[show wj g t n x y=true from hh 0 x y rfl rfl];refine(qj hl).2 fun i e q h1 h2=>?_
   have:=hh (i+1) e q (by simpa using h1) (by simpa using h2);rwa[show n+(i+1)=n+1+i by omega] at this
theorem nM {g:XG}:∀{ls:List (List cK)} {fs:List (List cS)} {t:Nat},fs.length=ls.length→(jf g ls fs t=true↔∀i l f,ls[i]?=some l→fs[i]?=some f→f.length=l.length∧∀j e q,l[j]?=some e→f[j]?=some q→wj g (t+i) j e q=true)
 | [],f,n,h=>⟨fun _ i e q h1=>by simp at h1,fun _=>rfl⟩
 | x::l,[],n,h=>by cases h
 | x::l,y::f,t,h=>by
  have hl:f.length=l.length:=by simpa using h
  show(bif bm (.ofNat y.length) (.ofNat x.length) then(bif nr g t x y 0 then jf g l f (t+1) else false) else false)=true↔_;constructor
  ·intro hh i e q h1 h2;cases he:bm (.ofNat y.length) (.ofNat x.length) with
   | false=>rw[he] at hh;cases hh
   | true=>
    rw[he] at hh;cases ho:nr g t x y 0 with
    | false=>rw[ho] at hh;cases hh
    | true=>
     rw[ho] at hh;cases i with
     | zero=>
      have e1:x=e:=by simpa using h1
      have e2:y=q:=by simpa using h2
      subst e1 e2;refine⟨di he,fun j w z k1 k2=>?_⟩;have:=(qj (di he)).1 ho j w z k1 k2;rwa[Nat.zero_add] at this
     | succ i=>
      have:=(nM hl).1 hh i e q (by simpa using h1) (by simpa using h2);rwa[show t+1+i=t+(i+1) by omega] at this
  ·intro hh;obtain⟨h1,h2⟩:=hh 0 x y rfl rfl;rw[show bm (.ofNat y.length) (.ofNat x.length)=true by rw[gP];simp[h1]];rw[show nr g t x y 0=true from(qj h1).2 fun i e q k1 k2=>by have:=h2 i e q k1 k2;rwa[Nat.zero_add]];refine(nM hl).2 fun i e q k1 k2=>?_
   have:=hh (i+1) e q (by simpa using k1) (by simpa using k2);rwa[show t+(i+1)=t+1+i by omega] at this
structure ub (g:XG):Prop where
 threads:g.threads.length≤4
 init:g.init.length≤6
 short:∀(i:Nat) (l:List cK),g.threads[i]?=some l→l.length≤14
 from_:g.from_.length=g.threads.length
 order:g.order.length=g.init.length
 rows:∀(i:Nat) (l:List cK) (f:List cS),g.threads[i]?=some l→g.from_[i]?=some f→f.length=l.length∧∀(j:Nat) (e:cK) (q:cS),l[j]?=some e→f[j]?=some q→wj g i j e q=true
 perm:(ff g.threads 0).Perm (ka g.order 0)
theorem gh {g:XG}:bL g=0↔ub g:=by
 constructor
 ·intro h;obtain⟨b1,b2,b3,b4,b5,b6,b7⟩:=cz h;refine⟨b1,b2,fun i l hl=>b3 l (List.mem_of_getElem? hl),b4,b5,fun i l f k1 k2=>?_,nw.1 b7⟩;have:=(nM b4).1 b6 i l f k1 k2;rwa[Nat.zero_add] at this
 ·intro h;unfold bL
  have h1:gE g=false:=by
   unfold gE;rw[show cg 4 (.ofNat g.threads.length)=false by rw[show(4:Int)= .ofNat 4 from rfl,iL];have:=h.threads;simp;omega];rw[show cg 6 (.ofNat g.init.length)=false by rw[show(6:Int)= .ofNat 6 from rfl,iL];have:=h.init;simp;omega];show(g.threads.any fun l=>cg 14 (.ofNat l.length))=false;rw[List.any_eq_false];intro l hl;obtain⟨i,hi⟩:=List.getElem?_of_mem hl;have:=h.short i l hi;rw[show(14:Int)= .ofNat 14 from rfl,iL];simp;omega
  rw[h1];rw[show bm (.ofNat g.from_.length) (.ofNat g.threads.length)=true by rw[gP];simp[h.from_]];rw[show bm (.ofNat g.order.length) (.ofNat g.init.length)=true by rw[gP];simp[h.order]];rw[show jf g g.threads g.from_ 0=true from(nM h.from_).2 fun i l f k1 k2=>by have:=h.rows i l f k1 k2;rwa[Nat.zero_add]];rw[nw.2 h.perm];rfl
theorem yC {g g':XG} {t n:Nat} {e:cK} {q:cS} (hm:∀id w,eU g id=some w→eU g' id=some w) (hi:g'.init=g.init) (he:eU g ⟨.ofNat (t+1),.ofNat n⟩=some e) (h:wj g t n e q=true):wj g' t n e q=true:=by
 unfold wj at h⊢;rw[hi];cases hr:dk e (.ofNat g.init.length) with
 | false=>rw[hr] at h;cases h
 | true=>
  rw[hr] at h;have h:ey g ⟨.ofNat (t+1),.ofNat n⟩ q=true:=h;show ey g' ⟨.ofNat (t+1),.ofNat n⟩ q=true;unfold ey at h⊢;rw[he] at h;rw[hm _ _ he];cases hq:eU g q with
  | none=>
   rw[hq] at h;cases hrd:dM (Bg (some e)) with
   | false=>rw[hrd] at h;exact h
   | true=>rw[hrd] at h;cases h
  | some w=>
   rw[hq] at h;rw[hm _ _ hq];exact h
noncomputable def og (o:List (List cS)) (e:cK) (id:cS) (pl:Int):List (List cS):=
 bif aZ e then o.set e.loc.toNat (((o[e.loc.toNat]?).getD []).take (pl.toNat-1)++id::((o[e.loc.toNat]?).getD []).drop (pl.toNat-1)) else o
theorem fH {g:XG} {tm:Nat} {e:cK} {fr:cS} {pl:Int} {row:List cK} {frow:List cS}:ez g tm e fr pl row frow=⟨g.init,g.threads.set tm (row++[e]),g.from_.set tm (frow++[fr]),og g.order e ⟨.ofNat (tm+1),.ofNat row.length⟩ pl⟩:=rfl
theorem Co {o:List (List cS)} {e f:cK} {i j:cS} {pl sp:Int} (h:aZ e=true→aZ f=true→e.loc.toNat≠f.loc.toNat):og (og o e i pl) f j sp=og (og o f j sp) e i pl:=by
 unfold og;cases he:aZ e with
 | false=>rfl
 | true=>
  cases hf:aZ f with
  | false=>rfl
  | true=>
   have hn:=h he hf;simp only[cond_true];rw[List.getElem?_set_ne hn,List.getElem?_set_ne (Ne.symm hn),List.set_comm _ _ hn]
theorem B6 {o:List (List cS)} {e:cK} {tm n:Nat} {pl:Int} (h:aZ e=true→∃(ln:Nat) (r:List cS),e.loc= .ofNat ln∧o[ln]?=some r):(ka (og o e ⟨.ofNat (tm+1),.ofNat n⟩ pl) 0).Perm (dz tm [e] n++ka o 0):=by
 unfold og;show List.Perm _ ((bif aZ e then([.ofNat (tm+1),.ofNat n],e.loc)::[] else [])++ka o 0);cases he:aZ e with
 | false=>exact List.Perm.refl _
 | true=>
  obtain⟨ln,r,h1,h2⟩:=h he;rw[h1];simp only[cond_true];rw[show(Int.ofNat ln).toNat=ln from rfl,h2];have:=yX (p:=pl.toNat-1) (id:=⟨.ofNat (tm+1),.ofNat n⟩) (loc:=0) h2;rw[Nat.zero_add] at this;exact this
theorem fL {g:XG} {e:cK} {pl:Int} (h:bY g e pl=false) (hw:aZ e=true):∃(ln:Nat) (r:List cS),e.loc= .ofNat ln∧g.order[ln]?=some r∧(bN g e.loc).length=r.length+1:=by
 unfold bY at h;rw[hw] at h;have h:(bif cg pl 1 then true else cg (.ofNat (bN g e.loc).length) pl)=false:=h;cases h1:cg pl 1 with
 | true=>rw[h1] at h;cases h
 | false=>
  rw[h1] at h;obtain⟨m,rfl⟩:=ng h1;have h2:cg (.ofNat (bN g e.loc).length) (.ofNat (m+1))=false:=h;have:=bz h2;exact tM (by omega)
theorem uB {g a:XG} {e:cK} {pl:Int} (hc:bL a=0) (h:bY g e pl=false) (ho:aZ e=true→a.order[e.loc.toNat]?=g.order[e.loc.toNat]?):bY a e pl=false:=by
 cases hw:aZ e with
 | false=>
  unfold bY at h⊢;rw[hw] at h⊢;exact h
 | true=>
  obtain⟨ln,r,h1,h2,h3⟩:=fL h hw;have ho:=ho hw;rw[h1] at ho;have h4:a.order[ln]?=some r:=by rw[←h2];exact ho
  have h5:(bN a e.loc).length=r.length+1:=by
   rw[h1,dT (by rw[hc];rfl) h4];rfl
  unfold bY at h⊢;rw[h5];rw[h3] at h;exact h
theorem gV {g a:XG} {th pl:Int} {e:cK} {fr:cS} (h:eX g th e fr pl=(some a,0)):bL g=0∧∃tm row frow,th= .ofNat (tm+1)∧g.threads[tm]?=some row∧g.from_[tm]?=some frow∧cg (.ofNat row.length) 14=true∧bY g e pl=false∧a=ez g tm e fr pl row frow∧bL a=0:=by
 cases hc:bm (bL g) 0 with
 | false=>rw[xC hc] at h;cases h
 | true=>
  refine⟨qs hc,?_⟩;cases h1:cg th 1 with
  | true=>rw[xJ hc h1] at h;cases h
  | false=>
   cases h2:cg (.ofNat g.threads.length) th with
   | true=>rw[yr hc h1 h2] at h;cases h
   | false=>
    obtain⟨tm,rfl⟩:=ng h1;have htm:tm<g.threads.length:=by have:=bz h2;omega
    obtain⟨row,hrow⟩:=cQ htm;obtain⟨frow,hfrow⟩:=cQ (show tm<g.from_.length by rw[(cz (qs hc)).2.2.2.1];exact htm);rw[iM hc hrow hfrow] at h;cases h3:cg (.ofNat row.length) 14 with
    | false=>rw[h3] at h;cases h
    | true=>
     rw[h3] at h;rcases Bool.eq_false_or_eq_true (bY g e pl) with h4 | h4
     ·rw[h4] at h;cases h
     ·rw[h4] at h;cases h5:bm (bL (ez g tm e fr pl row frow)) 0 with
      | false=>rw[h5] at h;cases h
      | true=>
       rw[h5] at h;have h6:(some (ez g tm e fr pl row frow),(0:Int))=(some a,0):=h;have h7:ez g tm e fr pl row frow=a:=by cases h6;rfl
       subst h7;exact⟨tm,row,frow,rfl,hrow,hfrow,h3,h4,rfl,qs h5⟩
theorem xl {g a b c:XG} {sm tm:Nat} {e f:cK} {fr so:cS} {row row2:List cK} {frow frow2:List cS} (ha:ub a) (hb:ub b) (hn:sm≠tm) (k1:g.threads[sm]?=some row) (k2:g.threads[tm]?=some row2) (q1:g.from_[sm]?=some frow) (q2:g.from_[tm]?=some frow2)
  (a1:a.init=g.init) (a2:a.threads=g.threads.set sm (row++[e])) (a3:a.from_=g.from_.set sm (frow++[fr]))
  (b1:b.init=g.init) (b2:b.threads=g.threads.set tm (row2++[f])) (b3:b.from_=g.from_.set tm (frow2++[so]))
  (c1:c.init=g.init) (c2:c.threads=a.threads.set tm (row2++[f])) (c3:c.from_=a.from_.set tm (frow2++[so])) (c4:c.order.length=g.order.length) (a4:a.order.length=g.order.length) (hp:(ff c.threads 0).Perm (ka c.order 0)):ub c:=by
 have hs:sm<g.threads.length:=(List.getElem?_eq_some_iff.1 k1).1;have ht:tm<g.threads.length:=(List.getElem?_eq_some_iff.1 k2).1;have hs':sm<g.from_.length:=(List.getElem?_eq_some_iff.1 q1).1;have ht':tm<g.from_.length:=(List.getElem?_eq_some_iff.1 q2).1;have d2:c.threads=b.threads.set sm (row++[e]):=by rw[c2,a2,b2,List.set_comm _ _ hn]
 have at2:a.threads[tm]?=some row2:=by rw[a2,List.getElem?_set_ne hn,k2]
 have bt1:b.threads[sm]?=some row:=by rw[b2,List.getElem?_set_ne (Ne.symm hn),k1]
 have bt2:b.threads[tm]?=some (row2++[f]):=by rw[b2,List.getElem?_set_self ht]
 have bf2:b.from_[tm]?=some (frow2++[so]):=by rw[b3,List.getElem?_set_self ht']
 have ct2:c.threads[tm]?=some (row2++[f]):=by rw[c2,List.getElem?_set_self (by rw[a2,List.length_set];exact ht)]
 have cf2:c.from_[tm]?=some (frow2++[so]):=by rw[c3,List.getElem?_set_self (by rw[a3,List.length_set];exact ht')]
 have cto:∀i,i≠tm→c.threads[i]?=a.threads[i]?:=fun i hi=>by rw[c2,List.getElem?_set_ne (Ne.symm hi)]
 have cfo:∀i,i≠tm→c.from_[i]?=a.from_[i]?:=fun i hi=>by rw[c3,List.getElem?_set_ne (Ne.symm hi)]
 have ma:∀id w,eU a id=some w→eU c id=some w:=fun id w h=>tB at2 (by rw[c1,a1]) c2 h
 have mb:∀id w,eU b id=some w→eU c id=some w:=fun id w h=>tB bt1 (by rw[c1,b1]) d2 h
 refine⟨by rw[c2,List.length_set];exact ha.threads,by rw[c1,←a1];exact ha.init,fun i l hl=>?_,by rw[c2,c3,List.length_set,List.length_set];exact ha.from_,by rw[c4,←a4,c1,←a1];exact ha.order,fun i l fl hl hfl=>?_,hp⟩
 ·by_cases hi:i=tm
  ·subst hi;rw[ct2] at hl;exact hb.short i l (by rw[bt2];exact hl)
  ·rw[cto i hi] at hl;exact ha.short i l hl
 ·by_cases hi:i=tm
  ·subst hi;rw[ct2] at hl;rw[cf2] at hfl;have hbt:b.threads[i]?=some l:=by rw[bt2];exact hl
   obtain⟨r1,r2⟩:=hb.rows i l fl hbt (by rw[bf2];exact hfl);exact⟨r1,fun j w q h1 h2=>yC mb (by rw[c1,b1]) (by rw[mS,hbt];exact h1) (r2 j w q h1 h2)⟩
  ·rw[cto i hi] at hl;rw[cfo i hi] at hfl;obtain⟨r1,r2⟩:=ha.rows i l fl hl hfl;exact⟨r1,fun j w q h1 h2=>yC ma (by rw[c1,a1]) (by rw[mS,hl];exact h1) (r2 j w q h1 h2)⟩
theorem nu {o:List (List cS)} {e:cK} {id:cS} {pl:Int}:(og o e id pl).length=o.length:=by
 unfold og;cases aZ e with
 | false=>rfl
 | true=>exact List.length_set
theorem wK {o:List (List cS)} {e:cK} {id:cS} {pl:Int} {k:Nat} (h:aZ e=true→e.loc.toNat≠k):(og o e id pl)[k]?=o[k]?:=by
 unfold og;cases hw:aZ e with
 | false=>rfl
 | true=>exact List.getElem?_set_ne (h hw)
theorem yQ {g a b:XG} {sm tm:Nat} {e f:cK} {fr so:cS} {pl sp:Int} {row row2:List cK} {frow frow2:List cS} (hn:sm≠tm) (hloc:aZ e=true→aZ f=true→e.loc.toNat≠f.loc.toNat)
  (k1:g.threads[sm]?=some row) (k2:g.threads[tm]?=some row2) (q1:g.from_[sm]?=some frow) (q2:g.from_[tm]?=some frow2) (l2:cg (.ofNat row2.length) 14=true) (p2:bY g f sp=false)
  (ea:a=ez g sm e fr pl row frow) (eb:b=ez g tm f so sp row2 frow2) (ha:bL a=0) (hb:bL b=0):
  eX a (.ofNat (tm+1)) f so sp=(some (ez a tm f so sp row2 frow2),0):=by
 rw[fH] at ea eb
 have ao:aZ f=true→a.order[f.loc.toNat]?=g.order[f.loc.toNat]?:=fun hf=>by
  rw[ea];exact wK fun he=>hloc he hf
 have at2:a.threads[tm]?=some row2:=by rw[ea];show(g.threads.set sm _)[tm]?=_;rw[List.getElem?_set_ne hn,k2]
 have af2:a.from_[tm]?=some frow2:=by rw[ea];show(g.from_.set sm _)[tm]?=_;rw[List.getElem?_set_ne hn,q2]
 have hc:bL (ez a tm f so sp row2 frow2)=0:=by
  refine gh.2 (xl (g:=g) (gh.1 ha) (gh.1 hb) hn k1 k2 q1 q2 (by rw[ea]) (by rw[ea]) (by rw[ea]) (by rw[eb]) (by rw[eb]) (by rw[eb]) (by rw[fH,ea]) rfl rfl ?_ (by rw[ea];exact nu) ?_)
  ·show(og a.order f _ sp).length=_;rw[nu,ea];exact nu
  ·refine(vE at2).trans ?_;rw[Nat.zero_add];refine((List.Perm.append_left _ (gh.1 ha).perm)).trans (List.Perm.symm (B6 fun hf=>?_));obtain⟨ln,r,h1,h2,_⟩:=fL p2 hf;refine⟨ln,r,h1,?_⟩;have:=ao hf;rw[h1] at this;rw[←h2];exact this
 rw[iM (by rw[ha];rfl) at2 af2,l2,uB ha p2 ao,hc];rfl
theorem CL {g a b:XG} {s t pl sp:Int} {e f:cK} {fr so:cS} (ha:eX g s e fr pl=(some a,0)) (hb:eX g t f so sp=(some b,0)) (hst:s≠t) (hloc:aZ e=true→aZ f=true→e.loc≠f.loc):
  ∃c,eX a t f so sp=(some c,0)∧eX b s e fr pl=(some c,0):=by
 obtain⟨hg,sm,row,frow,rfl,k1,q1,l1,p1,ea,ca⟩:=gV ha;obtain⟨_,tm,row2,frow2,rfl,k2,q2,l2,p2,eb,cb⟩:=gV hb;have hn:sm≠tm:=fun h=>hst (by rw[h])
 have hl:aZ e=true→aZ f=true→e.loc.toNat≠f.loc.toNat:=fun he hf hh=>by
  obtain⟨x,_,h1,_⟩:=fL p1 he;obtain⟨y,_,h2,_⟩:=fL p2 hf;refine hloc he hf ?_;rw[h1,h2] at hh⊢;have:x=y:=hh;rw[this]
 have r1:=yQ (pl:=pl) hn hl k1 k2 q1 q2 l2 p2 ea eb ca cb;have r2:=yQ (pl:=sp) (Ne.symm hn) (fun hf he=>Ne.symm (hl he hf)) k2 k1 q2 q1 l1 p1 eb ea cb ca;refine⟨_,r1,?_⟩;rw[r2];congr 2;rw[fH,fH,ea,eb,fH,fH];show XG.mk _ _ _ _=XG.mk _ _ _ _;congr 1
 ·exact(List.set_comm _ _ hn).symm
 ·exact(List.set_comm _ _ hn).symm
 ·exact(Co hl).symm
theorem jJ (x:Int):bm x x=true:=by rw[ei];simp
structure Ia {α:Type} (c:α→α→Int):Prop where
 Iy:∀x y,c y x= -c x y
 small:∀x y,-1≤c x y∧c x y≤1
 trans:∀x y z,c x y≤0→c y z≤0→c x z≤0
theorem Ia.pull {α β:Type} {c:α→α→Int} (h:Ia c) (f:β→α):Ia fun x y=>c (f x) (f y):=⟨fun x y=>h.Iy _ _,fun x y=>h.small _ _,fun x y z=>h.trans _ _ _⟩
theorem HD (a b:Int):(bif bm a 0 then b else a)=if a=0 then b else a:=by
 rw[ei]
 by_cases h:a=0<;>simp[h]
theorem ku {α:Type} {l:List α} {ls:List (List α)}:kR (l::ls)=l.length+kR ls:=by unfold kR;simp
theorem vO {t:Nat}:∀{l:List cK} {n:Nat},∀p∈dz t l n,∃k,p.1= [.ofNat (t+1),.ofNat (n+k)]∧k<l.length
 | [],_,p,h=>by cases h
 | e::l,n,p,h=>by
  have h':p∈(bif aZ e then([.ofNat (t+1),.ofNat n],e.loc)::dz t l (n+1) else dz t l (n+1)):=h
  have key:p∈dz t l (n+1)→∃k,p.1= [.ofNat (t+1),.ofNat (n+k)]∧k<(e::l).length:=fun h=>by
   obtain⟨k,h1,h2⟩:=vO (l:=l) p h;exact⟨k+1,by rw[h1,show n+1+k=n+(k+1) by omega],by rw[List.length_cons];omega⟩
  cases hw:aZ e with
  | false=>rw[hw] at h';exact key h'
  | true=>
   rw[hw] at h';rcases List.mem_cons.1 h' with rfl | h'
   ·exact⟨0,rfl,by rw[List.length_cons];omega⟩
   ·exact key h'
theorem vz:∀{ls:List (List cK)} {t:Nat},∀p∈ff ls t,∃(s k:Nat) (l:List cK),p.1= [.ofNat (t+s+1),.ofNat k]∧ls[s]?=some l∧k<l.length
 | [],_,p,h=>by cases h
 | l::ls,t,p,h=>by
  have h':p∈dz t l 0++ff ls (t+1):=h;rcases List.mem_append.1 h' with h' | h'
  ·obtain⟨k,h1,h2⟩:=vO p h';exact⟨0,k,l,by rw[h1,Nat.zero_add],rfl,h2⟩
  ·obtain⟨s,k,l',h1,h2,h3⟩:=vz (ls:=ls) p h';exact⟨s+1,k,l',by rw[h1,show t+1+s+1=t+(s+1)+1 by omega],by simpa using h2,h3⟩
theorem su:∀{ls:List (List cS)} {loc ln:Nat} {r:List cS} {x:cS},ls[ln]?=some r→x∈r→(x.ints,Int.ofNat (loc+ln))∈ka ls loc
 | [],_,_,_,_,h,_=>by simp at h
 | l::ls,loc,0,r,x,h,hx=>by
  have:l=r:=by simpa using h
  subst this;exact List.mem_append_left _ (List.mem_map.2 ⟨x,hx,rfl⟩)
 | l::ls,loc,ln+1,r,x,h,hx=>by
  have h':ls[ln]?=some r:=by simpa using h
  have:=su (loc:=loc+1) h' hx;rw[show loc+1+ln=loc+(ln+1) by omega] at this;exact List.mem_append_right _ this
theorem Fk {g:XG} (h:ub g) {tm ln:Nat} {row:List cK} {r:List cS} (hr:g.threads[tm]?=some row) (ho:g.order[ln]?=some r):(⟨.ofNat (tm+1),.ofNat row.length⟩:cS)∉r:=fun hx=>by
 have h1:=h.perm.mem_iff.2 (su (loc:=0) ho hx);obtain⟨s,k,l,h2,h3,h4⟩:=vz _ h1;rw[show 0+s+1=s+1 by omega] at h2;have h2: [Int.ofNat (tm+1),Int.ofNat row.length]= [.ofNat (s+1),.ofNat k]:=h2;simp only[List.cons.injEq,and_true] at h2;have e1:tm+1=s+1:=Int.ofNat.inj h2.1;have e2:row.length=k:=Int.ofNat.inj h2.2;obtain rfl:tm=s:=by omega
 rw[hr] at h3;cases h3;omega
theorem sX {α:Type}:∀{ls:List (List α)} {tm:Nat} {row:List α} {e:α},ls[tm]?=some row→kR (ls.set tm (row++[e]))=kR ls+1
 | [],_,_,_,h=>by simp at h
 | l::ls,0,row,e,h=>by
  have:l=row:=by simpa using h
  subst this;show kR ((l++[e])::ls)=_;rw[ku,ku,List.length_append,List.length_singleton];omega
 | l::ls,tm+1,row,e,h=>by
  have h':ls[tm]?=some row:=by simpa using h
  show kR (l::ls.set tm (row++[e]))=_;rw[ku,ku,sX h'];omega
noncomputable def zM (id:cS) (y:cS):Bool:= !(cG y.ints id.ints)
theorem Ew {id y:cS} (h:y≠id):zM id y=true:=by
 unfold zM;rw[cS.same,lz.2 h];rfl
theorem BL {α:Type} {p:α→Bool} {x:α} (hx:p x=true):∀{a b:List α} {i:Nat},(∀y∈a,p y=false)→qK p (a++x::b) i= .ofNat (i+a.length)
 | [],b,i,_=>by
  show(bif p x then Int.ofNat i else _)=_;rw[hx];rfl
 | y::a,b,i,h=>by
  show(bif p y then Int.ofNat i else qK p (a++x::b) (i+1))=_;rw[h y (List.mem_cons_self ..)];show qK p (a++x::b) (i+1)=_;rw[BL hx fun z hz=>h z (List.mem_cons_of_mem _ hz),List.length_cons,show i+1+a.length=i+(a.length+1) by omega]
theorem filter_all {id:cS} {l:List cS} (h:id∉l):l.filter (zM id)=l:=List.filter_eq_self.2 fun y hy=>Ew fun e=>h (e ▸ hy)
theorem zF {id:cS} {a b:List cS} (ha:id∉a) (hb:id∉b):(a++id::b).filter (zM id)=a++b:=by
 have h:zM id id=false:=by unfold zM;rw[cS.same,cD.2 rfl];rfl
 rw[List.filter_append,List.filter_cons,h,filter_all ha,filter_all hb];rfl
theorem uO {g h:XG} {th pl:Int} {e:cK} {fr:cS} (ha:eX g th e fr pl=(some h,0)):∃(tm:Nat) (row:List cK),th= .ofNat (tm+1)∧g.threads[tm]?=some row∧bL g=0∧bL h=0∧eU h ⟨.ofNat (tm+1),.ofNat row.length⟩=some e∧zN h=zN g+1∧
  (cg 0 pl=true→aZ e=true∧qK (fun y=>cG (⟨.ofNat (tm+1),.ofNat row.length⟩:cS).ints y.ints) (bN h e.loc) 0=pl)∧(∀id w,eU g id=some w→eU h id=some w)∧
  ∀loc:Nat,loc<g.init.length→(bN h (.ofNat loc)).filter (zM ⟨.ofNat (tm+1),.ofNat row.length⟩)=bN g (.ofNat loc):=by
 obtain⟨hg,tm,row,frow,rfl,k1,q1,l1,p1,rfl,ch⟩:=gV ha;have rg:=gh.1 hg;have e1:bm (bL g) 0=true:=by rw[hg];rfl
 have e2:bm (bL (ez g tm e fr pl row frow)) 0=true:=by rw[ch];rfl
 have hno:∀(ln:Nat) (r:List cS),g.order[ln]?=some r→(⟨.ofNat (tm+1),.ofNat row.length⟩:cS)∉(⟨0,.ofNat ln⟩:cS)::r:=fun ln r hr hm=>by
  rcases List.mem_cons.1 hm with hm | hm
  ·have:=congrArg cS.mj hm;exact absurd (show Int.ofNat (tm+1)= .ofNat 0 from this) (fun h=>by cases h)
  ·exact Fk rg k1 hr hm
 have hat:aZ e=true→∃(ln pm:Nat) (r:List cS),e.loc= .ofNat ln∧pl= .ofNat (pm+1)∧g.order[ln]?=some r∧pm≤r.length∧bN (ez g tm e fr pl row frow) (.ofNat ln)=(⟨0,.ofNat ln⟩::r.take pm)++⟨.ofNat (tm+1),.ofNat row.length⟩::r.drop pm:=fun hw=>by
  obtain⟨ln,r,h1,h2,h3⟩:=fL p1 hw;unfold bY at p1;rw[hw] at p1;have p1:(bif cg pl 1 then true else cg (.ofNat (bN g e.loc).length) pl)=false:=p1;cases h4:cg pl 1 with
  | true=>rw[h4] at p1;cases p1
  | false=>
   rw[h4] at p1;obtain⟨pm,rfl⟩:=ng h4;have h5:cg (.ofNat (bN g e.loc).length) (.ofNat (pm+1))=false:=p1;have h6:=bz h5;refine⟨ln,pm,r,h1,rfl,h2,by omega,?_⟩
   have h7:(ez g tm e fr (.ofNat (pm+1)) row frow).order[ln]?=some (r.take pm++⟨.ofNat (tm+1),.ofNat row.length⟩::r.drop pm):=by
    rw[w7 hw h1 h2];show(g.order.set ln _)[ln]?=_;rw[List.getElem?_set_self (List.getElem?_eq_some_iff.1 h2).1]
   rw[dT e2 h7];rfl
 refine⟨tm,row,rfl,k1,hg,ch,C8 k1 rfl,?_,fun hp=>?_,fun id w hw=>tB k1 rfl rfl hw,fun loc hloc=>?_⟩
 ·unfold zN;rw[e1,e2];show g.init.length+kR (g.threads.set tm (row++[e]))=g.init.length+kR g.threads+1;rw[sX k1];omega
 ·have hw:aZ e=true:=by
   cases hw:aZ e with
   | true=>rfl
   | false=>
    unfold bY at p1;rw[hw] at p1;have p1:(!bm pl 0)=false:=p1;have:=qs (gq p1);subst this;cases hp
  refine⟨hw,?_⟩;obtain⟨ln,pm,r,h1,rfl,h3,h4,h5⟩:=hat hw;rw[h1,h5,BL (p:=fun y:cS=>cG (⟨.ofNat (tm+1),.ofNat row.length⟩:cS).ints y.ints) (cD.2 rfl) fun y hy=>lz.2 fun he=>?_]
  ·rw[List.length_cons,List.length_take,Nat.min_eq_left h4,Nat.zero_add]
  ·have hy':y=(⟨.ofNat (tm+1),.ofNat row.length⟩:cS):=by
    have:cG y.ints (⟨.ofNat (tm+1),.ofNat row.length⟩:cS).ints=true:=cD.2 he.symm;rw[cS.same] at this;exact cD.1 this
   subst hy';refine hno ln r h3 ?_;rcases List.mem_cons.1 hy with hy | hy
   ·exact List.mem_cons.2 (.inl hy)
   ·exact List.mem_cons_of_mem _ (List.mem_of_mem_take hy)
 ·obtain⟨r,hr⟩:=cQ (show loc<g.order.length by rw[rg.order];exact hloc);rw[dT e1 hr]
  by_cases hw:aZ e=true∧e.loc.toNat=loc
  ·obtain⟨ln,pm,r',h1,rfl,h3,h4,h5⟩:=hat hw.1;have hl:ln=loc:=by have:=hw.2;rw[h1] at this;exact this
   subst hl;rw[hr] at h3;cases h3;have hn:=hno ln r hr;rw[h5,zF (fun hm=>hn ?_) (fun hm=>hn (List.mem_cons_of_mem _ (List.mem_of_mem_drop hm)))]
   ·show⟨0,.ofNat ln⟩::(r.take pm++r.drop pm)=_;rw[List.take_append_drop]
   ·rcases List.mem_cons.1 hm with hm | hm
    ·exact List.mem_cons.2 (.inl hm)
    ·exact List.mem_cons_of_mem _ (List.mem_of_mem_take hm)
  ·have h7:(ez g tm e fr pl row frow).order[loc]?=some r:=by
    show(og g.order e ⟨.ofNat (tm+1),.ofNat row.length⟩ pl)[loc]?=_;rw[wK fun h1 h2=>hw ⟨h1,h2⟩,hr]
   rw[dT e2 h7,filter_all (hno loc r hr)]
def pf:List Nat→Nat→Option Nat
 | [],n=>some n
 | c::r,n=>if 48≤c∧c≤57 then pf r (10*n+(c-48)) else none
def mq (s:List Nat):Option Nat:=if s.length=0∨4<s.length∨(1<s.length∧s[0]?=some 48) then none else pf s 0
theorem pI {s:List Nat} {i c n:Nat} (h:s[i]?=some c) (hc:¬(48≤c∧c≤57)):pf (s.drop i) n=none:=by
 rw[b0 h];show(if _ then _ else _)=_;rw[if_neg hc]
theorem sH {s:List Nat} {i c n:Nat} (h:s[i]?=some c) (hc:48≤c∧c≤57):pf (s.drop i) n=pf (s.drop (i+1)) (10*n+(c-48)):=by
 rw[b0 h];show(if _ then _ else _)=_;rw[if_pos hc]
theorem uf {s:List Nat} {i n:Nat} (h:s.length≤i):pf (s.drop i) n=some n:=by rw[eQ h];rfl
theorem eqv {a b:Int} (h:bm a b=true):a=b:=by rw[ei] at h;exact of_decide_eq_true h
noncomputable def mX (b:Bool):Int:=bif b then 1 else 0
noncomputable def GQ (f:BitVec 64→BitVec 64→BitVec 64) (a b:Int):Int:=wr .i64 (IntKind.u64.wrap (f (BitVec.ofInt 64 (wr .u64 a)) (BitVec.ofInt 64 (wr .u64 b))).toNat)
noncomputable def B1 (op a:Int):Int:=bif bm op 3 then wr .i64 (wr .u64 (Int.sub 0 (wr .u64 a))) else mX (bm a 0)
noncomputable def l7 (op a b:Int):Int:=
 bif bm op 5 then mX (bif bk (bm a 0) then true else bk (bm b 0)) else
 bif bm op 6 then mX (bif bk (bm a 0) then bk (bm b 0) else false) else
 bif bm op 7 then mX (bm a b) else
 bif bm op 8 then mX (bk (bm a b)) else
 bif bm op 9 then mX (cg a b) else
 bif bm op 10 then mX (bk (cg b a)) else
 bif bm op 11 then GQ (· ||| ·) a b else
 bif bm op 12 then GQ (· ^^^ ·) a b else
 bif bm op 13 then GQ (· &&& ·) a b else
 bif bm op 14 then wr .i64 (wr .u64 (Int.add (wr .u64 a) (wr .u64 b))) else
 bif bm op 15 then wr .i64 (wr .u64 (Int.sub (wr .u64 a) (wr .u64 b))) else
 wr .i64 (wr .u64 (Int.mul (wr .u64 a) (wr .u64 b)))
noncomputable def oU (op:Int) (l:List Int):Int×Int:=
 bif (bif (bif bm op 3 then true else bm op 4) then bm (.ofNat l.length) 1 else false) then(B1 op ((l[0]?).getD 0),0) else
 bif (bif (bif bk (cg op 5) then bk (cg 16 op) else false) then bm (.ofNat l.length) 2 else false) then(l7 op ((l[0]?).getD 0) ((l[1]?).getD 0),0) else(0,2)
noncomputable def IL (op:Int) (l:List Int):Int:=(oU op l).1
noncomputable def lC (aW:List Int):Nat→XE→Int
 | 0,_=>0
 | k+1,.mk op num name kids=>bif bm op 1 then num else bif bm op 2 then(aW[(mq name).getD 0]?).getD 0 else IL op (kids.map (lC aW k))
noncomputable def eG (op:Int):Int:=bif (bif bm op 3 then true else bm op 4) then 1 else 2
noncomputable def fb (aW:Int):Nat→XE→Bool
 | 0,_=>false
 | k+1,.mk op num name kids=>
  bif bm op 1 then(bif bk (cg num 0) then(bif qq name [] then bm (.ofNat kids.length) 0 else false) else false) else
  bif bm op 2 then(match mq name with | some n=>(bif cg (.ofNat n) aW then(bif bm num 0 then bm (.ofNat kids.length) 0 else false) else false) | none=>false) else
  bif (bif (bif bm op 3 then true else bm op 4) then false else(bif cg op 5 then true else cg 16 op)) then false else
  bif (bif bk (bm num 0) then true else bif bk (qq name []) then true else bk (bm (.ofNat kids.length) (eG op))) then false else
  kids.all (fb aW k)
noncomputable def hM (f:XE→Int→Option Int):List XE→Int→Option Int
 | [],m=>some m
 | x::r,m=>(f x m).bind (hM f r)
noncomputable def oS:Nat→XE→Int→Int→Option Int
 | 0,_,_,_=>none
 | k+1,.mk _ _ _ kids,deep,size=>bif (bif cg 2000 (wr .i64 (Int.add size 1)) then true else cg 32 deep) then none else hM (fun x m=>oS k x (wr .i64 (Int.add deep 1)) m) kids (wr .i64 (Int.add size 1))
theorem rK {f:XE→Int→Option Int} {l:List XE} {i:Nat} {m:Int} {x:XE} (hx:l[i]?=some x) (h:(f x m).isSome=false):hM f (l.drop i) m=none:=by
 rw[b0 hx];show(f x m).bind _=none;rw[Option.isSome_eq_false_iff.1 h |> Option.isNone_iff_eq_none.1];rfl
theorem yW {f:XE→Int→Option Int} {l:List XE} {i:Nat} {m s:Int} {x:XE} (hx:l[i]?=some x) (h:f x m=some s):hM f (l.drop i) m=hM f (l.drop (i+1)) s:=by
 rw[b0 hx];show(f x m).bind _=_;rw[h];rfl
theorem sl {f:XE→Int→Option Int} {l:List XE} {i:Nat} {m:Int} (h:l.length≤i):hM f (l.drop i) m=some m:=by rw[eQ h];rfl
structure jo where
 sS:Bool
 loc:Bool
 order:Bool
 to:Bool
 exprs:Nat
def jm:List jo:=[⟨false,false,false,false,0⟩,⟨true,false,false,false,1⟩,⟨true,true,true,false,0⟩,⟨false,true,true,false,1⟩,⟨true,true,true,false,2⟩,⟨true,true,true,false,1⟩,⟨true,true,true,false,1⟩,⟨false,false,true,false,0⟩,⟨false,false,false,false,1⟩,⟨false,false,false,false,1⟩,⟨false,false,false,true,0⟩,⟨false,false,false,true,1⟩,⟨false,false,false,false,0⟩,⟨false,false,false,false,0⟩]
noncomputable def eD (n least most:Int) (must:Bool):Bool:=bif must then(bif bk (cg n least) then cg n most else false) else bm n 0
noncomputable def fV (aW nins:Int) (k:Nat) (x:XI) (h:jo):Bool:=
 bif bk (eD x.sS 0 aW h.sS) then false else bif bk (eD x.loc 0 6 h.loc) then false else bif bk (eD x.order 1 7 h.order) then false else bif bk (eD x.to 0 nins h.to) then false else
 bif bk (bm (.ofNat x.exprs.length) (.ofNat h.exprs)) then false else x.exprs.all (fb aW k)
noncomputable def fP (aW nins:Int) (k:Nat) (x:XI):Bool:=
 bif cg x.kind 1 then false else bif cg 13 x.kind then false else
 match jm[x.kind.toNat]? with
 | some h=>fV aW nins k x h
 | none=>false
noncomputable def ui (k:Nat) (x:XI):Bool:=x.exprs.all fun e=>(oS k e 1 0).isSome
noncomputable def ib (x:XI):Bool:=bif bm x.kind 10 then true else bif bm x.kind 12 then true else bm x.kind 13
noncomputable def db (k:Nat) (c:XC):Int:=
 bif cg 16 c.aW then 3 else bif cg 4000 (.ofNat c.ins.length) then 3 else
 bif bk (c.ins.all (ui k)) then 3 else
 bif cg c.aW 0 then 2 else bif bm (.ofNat c.ins.length) 0 then 2 else
 bif bk (c.ins.all (fP c.aW (.ofNat c.ins.length) k)) then 2 else
 match c.ins[c.ins.length-1]? with
 | some x=>bif ib x then 0 else 2
 | none=>2
noncomputable def eP (x:XI) (at_:Nat):List Int:=
 bif bm x.kind 10 then [x.to] else bif bm x.kind 11 then [.ofNat (at_+1),x.to] else bif bm x.kind 12 then [] else bif bm x.kind 13 then [] else [.ofNat (at_+1)]
noncomputable def dC (c:XC) (i:Nat):List Nat:=match c.ins[i]? with | some x=>(eP x i).map Int.toNat | none=>[]
structure DS where
 st:List Nat
 gone:List Nat
 out:List Nat
 path:List Nat
noncomputable def jG (nx:Nat→List Nat) (s:DS) (at_:Nat):Option DS:=
 let g:=(s.gone[at_]?).getD 0
 match(nx at_)[g]? with
 | none=>some {s with st:=s.st.set at_ 2,out:=s.out++[at_],path:=s.path.dropLast}
 | some to=>
  let s':={s with gone:=s.gone.set at_ (g+1)}
  if(s.st[to]?).getD 0=2 then some s' else if(s.st[to]?).getD 0=1 then none else some {s' with st:=s.st.set to 1,path:=s.path++[to]}
noncomputable def xg (nx:Nat→List Nat):Nat→DS→Option (List Nat)
 | 0,_=>none
 | f+1,s=>match s.path.getLast? with
  | none=>some s.out
  | some at_=>(jG nx s at_).bind (xg nx f)
noncomputable def xP (n:Nat):DS:=⟨(List.replicate n 0).set 0 1,List.replicate n 0,[],[0]⟩
noncomputable def total (nx:Nat→List Nat) (n:Nat):Nat:=((List.range n).map fun i=>(nx i).length).sum
noncomputable def eY (c:XC):Option (List Nat):=xg (dC c) (2*total (dC c) c.ins.length+2) (xP c.ins.length)
noncomputable def jg (k:Nat) (c:XC):Bool:=bif bk (bm (db k c) 0) then false else(eY c).isSome
structure Hq (nx:Nat→List Nat) (n:Nat) (s:DS):Prop where
 Ba:s.st.length=n
 ow:s.gone.length=n
 gone:∀(i g:Nat),s.gone[i]?=some g→g≤(nx i).length
 path:∀i∈s.path,i<n∧s.st[i]?=some 1
 out:∀i∈s.out,i<n
 nodup:s.path.Nodup
 fresh:∀(i g:Nat),s.st[i]?=some 0→s.gone[i]?=some g→g=0
 done:∀(i:Nat),s.st[i]?=some 2→i∈s.out
 tJ:∀(k i:Nat),s.out[k]?=some i→∀to∈nx i,∃k',k'<k∧s.out[k']?=some to
 ways:∀(j p g:Nat),s.path[j]?=some p→s.gone[p]?=some g→∀(m to:Nat),m<g→(nx p)[m]?=some to→to∈s.out∨s.path[j+1]?=some to
 zero:0∈s.out∨0∈s.path
 size:∀(i g:Nat),s.st[i]?=some g→g≤2
noncomputable def gi (nx:Nat→List Nat) (n:Nat) (s:DS):Nat:=2*(total nx n-s.gone.sum)+s.path.length
section
variable {nx:Nat→List Nat} {n:Nat} {s s':DS}
theorem BJ:∀{l:List Nat} {i g g':Nat},l[i]?=some g→(l.set i g').sum+g=l.sum+g'
 | [],_,_,_,h=>by simp at h
 | x::l,0,g,g',h=>by
  simp only[List.getElem?_cons_zero,Option.some.injEq] at h;subst h;simp only[List.set_cons_zero,List.sum_cons];omega
 | x::l,i+1,g,g',h=>by
  have:=BJ (l:=l) (i:=i) (g:=g) (g':=g') (by simpa using h);simp only[List.set_cons_succ,List.sum_cons];omega
theorem Bs {f:Nat→Nat}:∀(l:List Nat) (k:Nat),(∀i g,l[i]?=some g→g≤f (k+i))→l.sum≤((List.range' k l.length).map f).sum
 | [],_,_=>by simp
 | x::l,k,h=>by
  have h0:=h 0 x rfl;have:=Bs l (k+1) (fun i g hg=>by have:=h (i+1) g (by simpa using hg);rwa[show k+1+i=k+(i+1) by omega]);simp only[List.length_cons,List.range'_succ,List.map_cons,List.sum_cons];rw[Nat.add_zero] at h0;omega
theorem xb (hn:0<n):Hq nx n (xP n) where
 Ba:=by simp[xP]
 ow:=by simp[xP]
 gone i g hg:=by
  have:g=0:=by
   have:=List.mem_of_getElem? hg;exact List.eq_of_mem_replicate this
  omega
 path i hi:=by
  obtain rfl:i=0:=by simpa [xP] using hi
  exact⟨hn,by simp[xP,hn]⟩
 out i hi:=by simp[xP] at hi
 nodup:=by simp[xP]
 fresh i g _ hg:=List.eq_of_mem_replicate (List.mem_of_getElem? hg)
 done i hi:=by
  exfalso;have hi:((List.replicate n 0).set 0 1)[i]?=some 2:=hi;rw[List.getElem?_set] at hi;split at hi
  ·split at hi
   ·simp at hi
   ·simp at hi
  ·have:=List.eq_of_mem_replicate (List.mem_of_getElem? hi);omega
 tJ k i hk:=by simp[xP] at hk
 ways j p g hj hg m to hm:=by
  have:g=0:=List.eq_of_mem_replicate (List.mem_of_getElem? hg);omega
 zero:=.inr (by simp[xP])
 size i g hg:=by
  have hi:((List.replicate n 0).set 0 1)[i]?=some g:=hg;rw[List.getElem?_set] at hi;split at hi
  ·split at hi
   ·simp at hi;omega
   ·simp at hi
  ·have:=List.eq_of_mem_replicate (List.mem_of_getElem? hi);omega
theorem DU:gi nx n (xP n)=2*total nx n+1:=by
 have:(xP n).gone.sum=0:=by
  have:∀m,(List.replicate m 0).sum=0:=by intro m;induction m<;>simp_all [List.replicate_succ]
  exact this n
 unfold gi;rw[this];rfl
theorem EE {l:List Nat} {a:Nat} {P:List Nat} (h:l.Nodup) (hl:l=P++[a]) {j:Nat} (hj:l[j]?=some a):j=P.length:=by
 subst hl;rcases Nat.lt_trichotomy j P.length with hlt | heq | hgt
 ·rw[List.getElem?_append_left hlt] at hj;have:=(List.nodup_append.1 h).2.2 _ (List.mem_of_getElem? hj) a (by simp);exact absurd rfl this
 ·exact heq
 ·have:=(List.getElem?_eq_some_iff.1 hj).1;simp at this;omega
theorem mP (h:Hq nx n s) (hnx:∀i,i<n→∀to∈nx i,to<n) {a:Nat} (ha:s.path.getLast?=some a) (hs:jG nx s a=some s'):Hq nx n s'∧gi nx n s'+1≤gi nx n s∧s'.out.length+gi nx n s'≤s.out.length+gi nx n s:=by
 obtain⟨P,hP⟩:=List.getLast?_eq_some_iff.1 ha;have hap:a∈s.path:=by rw[hP];simp
 obtain⟨han,hst⟩:=h.path a hap;obtain⟨g,hg⟩:∃g,s.gone[a]?=some g:=⟨_,List.getElem?_eq_getElem (by rw[h.ow];exact han)⟩
 have hPa:∀i∈P,i≠a:=fun i hi hh=>by
  have:=h.nodup;rw[hP] at this;exact(List.nodup_append.1 this).2.2 i hi a (by simp) hh
 have hla:s.path[P.length]?=some a:=by rw[hP];simp
 have hlb:s.path[P.length+1]?=none:=by rw[hP];simp
 unfold jG at hs;rw[hg] at hs;simp only[Option.getD_some] at hs;cases hto:(nx a)[g]? with
 | none=>
  rw[hto] at hs;simp only[Option.some.injEq] at hs;subst hs;have hle:(nx a).length≤g:=List.getElem?_eq_none_iff.1 hto;have hdl:s.path.dropLast=P:=by rw[hP];simp
  refine⟨⟨by simp[h.Ba],h.ow,h.gone,?_,?_,?_,?_,?_,?_,?_,?_,?_⟩,?_,?_⟩
  ·intro i hi;have hi:i∈P:=by rw[←hdl];exact hi
   have:=h.path i (by rw[hP];simp[hi]);refine⟨this.1,?_⟩;rw[List.getElem?_set_ne (fun e=>hPa i hi e.symm)];exact this.2
  ·intro i hi;rcases List.mem_append.1 hi with hi | hi
   ·exact h.out i hi
   ·obtain rfl:=List.mem_singleton.1 hi;exact han
  ·show s.path.dropLast.Nodup;rw[hdl];have:=h.nodup;rw[hP] at this;exact(List.nodup_append.1 this).1
  ·intro i g' h1 h2
   by_cases e:i=a
   ·subst e;have h1:(s.st.set i 2)[i]?=some 0:=h1;rw[List.getElem?_set_self (by rw[h.Ba];exact han)] at h1;simp at h1
   ·have h1:(s.st.set a 2)[i]?=some 0:=h1;rw[List.getElem?_set_ne (fun x=>e x.symm)] at h1;exact h.fresh i g' h1 h2
  ·intro i hi;show i∈s.out++[a]
   by_cases e:i=a
   ·subst e;simp
   ·have hi:(s.st.set a 2)[i]?=some 2:=hi;rw[List.getElem?_set_ne (fun x=>e x.symm)] at hi;exact List.mem_append_left _ (h.done i hi)
  ·intro k i hk to hto';have hk:(s.out++[a])[k]?=some i:=hk;show∃k',k'<k∧(s.out++[a])[k']?=some to
   by_cases hlt:k<s.out.length
   ·rw[List.getElem?_append_left hlt] at hk;obtain⟨k',h1,h2⟩:=h.tJ k i hk to hto';exact⟨k',h1,by rw[List.getElem?_append_left (by omega)];exact h2⟩
   ·have hlt':=(List.getElem?_eq_some_iff.1 hk).1;simp only[List.length_append,List.length_singleton] at hlt';obtain rfl:k=s.out.length:=by omega
    have hia:i=a:=by simpa using hk.symm
    subst hia;obtain⟨m,hm⟩:=List.getElem?_of_mem hto';have hm':=(List.getElem?_eq_some_iff.1 hm).1;rcases h.ways _ _ _ hla hg m to (by omega) hm with h1 | h1
    ·obtain⟨k',h2⟩:=List.getElem?_of_mem h1;have h3:=(List.getElem?_eq_some_iff.1 h2).1;exact⟨k',h3,by rw[List.getElem?_append_left h3];exact h2⟩
    ·rw[hlb] at h1;cases h1
  ·intro j p g' hj hg' m to hm hmt;have hj:s.path.dropLast[j]?=some p:=hj;rw[hdl] at hj;have hjl:=(List.getElem?_eq_some_iff.1 hj).1;show to∈s.out++[a]∨s.path.dropLast[j+1]?=some to;rcases h.ways j p g' (by rw[hP,List.getElem?_append_left hjl];exact hj) hg' m to hm hmt with h1 | h1
   ·exact .inl (List.mem_append_left _ h1)
   ·by_cases e:j+1<P.length
    ·refine .inr ?_;rw[hdl];rwa[hP,List.getElem?_append_left e] at h1
    ·obtain e:j+1=P.length:=by omega
     rw[e,hla] at h1;cases h1;exact .inl (by simp)
  ·show 0∈s.out++[a]∨0∈s.path.dropLast;rw[hdl];rcases h.zero with h1 | h1
   ·exact .inl (List.mem_append_left _ h1)
   ·rw[hP] at h1;rcases List.mem_append.1 h1 with h1 | h1
    ·exact .inr h1
    ·exact .inl (List.mem_append_right _ h1)
  ·intro i g' hi;have hi:(s.st.set a 2)[i]?=some g':=hi;rw[List.getElem?_set] at hi;split at hi
   ·split at hi
    ·simp at hi;omega
    ·simp at hi
   ·exact h.size i g' hi
  ·unfold gi;show 2*(total nx n-s.gone.sum)+s.path.dropLast.length+1≤_;rw[hdl,hP];simp;omega
  ·unfold gi;show(s.out++[a]).length+(2*(total nx n-s.gone.sum)+s.path.dropLast.length)≤_;rw[hdl,hP];simp;omega
 | some to=>
  rw[hto] at hs;dsimp only at hs;have hgl:g<(nx a).length:=(List.getElem?_eq_some_iff.1 hto).1;have hton:to<n:=hnx a han to (List.mem_of_getElem? hto);obtain⟨v,hv⟩:∃v,s.st[to]?=some v:=⟨_,List.getElem?_eq_getElem (by rw[h.Ba];exact hton)⟩;rw[hv] at hs;simp only[Option.getD_some] at hs
  have hgone:∀(i g':Nat),(s.gone.set a (g+1))[i]?=some g'→g'≤(nx i).length:=fun i g' hi=>by
   rw[List.getElem?_set] at hi;split at hi
   ·rename_i e;subst e;split at hi
    ·simp at hi;omega
    ·simp at hi
   ·exact h.gone i g' hi
  have hsum:=BJ (l:=s.gone) (i:=a) (g:=g) (g':=g+1) hg
  have hlt:(s.gone.set a (g+1)).sum≤total nx n:=by
   have:=Bs (f:=fun i=>(nx i).length) (s.gone.set a (g+1)) 0 (fun i g' hg'=>by rw[Nat.zero_add];exact hgone i g' hg');rw[List.length_set,h.ow] at this;unfold total;rwa[List.range_eq_range']
  have hother:∀(p g':Nat),p≠a→(s.gone.set a (g+1))[p]?=some g'→s.gone[p]?=some g':=fun p g' hp hg'=>by
   rwa[List.getElem?_set_ne (fun e=>hp e.symm)] at hg'
  have hself:∀(g':Nat),(s.gone.set a (g+1))[a]?=some g'→g'=g+1:=fun g' hg'=>by
   rw[List.getElem?_set_self (by rw[h.ow];exact han)] at hg';simpa using hg'.symm
  split at hs
  ·rename_i hv2;subst hv2;simp only[Option.some.injEq] at hs;subst hs;refine⟨⟨h.Ba,by simp[h.ow],hgone,h.path,h.out,h.nodup,?_,h.done,h.tJ,?_,h.zero,h.size⟩,?_,?_⟩
   ·intro i g' h1 h2;refine h.fresh i g' h1 (hother i g' (fun e=>?_) h2);subst e;rw[hst] at h1;simp at h1
   ·intro j p g' hj hg' m to' hm hmt
    by_cases hp:p=a
    ·subst hp;obtain rfl:=hself g' hg'
     by_cases hmg:m<g
     ·exact h.ways j p g hj hg m to' hmg hmt
     ·obtain rfl:m=g:=by omega
      rw[hto] at hmt;cases hmt;exact .inl (h.done _ hv)
    ·exact h.ways j p g' hj (hother p g' hp hg') m to' hm hmt
   ·unfold gi;dsimp only;omega
   ·unfold gi;dsimp only;omega
  ·split at hs
   ·cases hs
   ·rename_i hv2 hv1;simp only[Option.some.injEq] at hs;subst hs;have hv0:v=0:=by have:=h.size to v hv;omega
    subst hv0;have htop:to∉s.path:=fun hh=>by have:=(h.path to hh).2;rw[hv] at this;simp at this
    have hta:to≠a:=fun e=>htop (by rw[e];exact hap)
    have hstn:∀i,i≠to→(s.st.set to 1)[i]?=s.st[i]?:=fun i hi=>List.getElem?_set_ne (fun e=>hi e.symm)
    refine⟨⟨by simp[h.Ba],by simp[h.ow],hgone,?_,h.out,?_,?_,?_,h.tJ,?_,?_,?_⟩,?_,?_⟩
    ·intro i hi;rcases List.mem_append.1 hi with hi | hi
     ·obtain⟨h1,h2⟩:=h.path i hi;exact⟨h1,by show(s.st.set to 1)[i]?=_;rw[hstn i (fun e=>htop (by rw[←e];exact hi))];exact h2⟩
     ·obtain rfl:=List.mem_singleton.1 hi;exact⟨hton,List.getElem?_set_self (by rw[h.Ba];exact hton)⟩
    ·show(s.path++[to]).Nodup;refine List.nodup_append.2 ⟨h.nodup,by simp,fun x hx y hy=>?_⟩;obtain rfl:=List.mem_singleton.1 hy;exact fun e=>htop (by rw[←e];exact hx)
    ·intro i g' h1 h2
     by_cases e:i=to
     ·subst e;have h1:(s.st.set i 1)[i]?=some 0:=h1;rw[List.getElem?_set_self (by rw[h.Ba];exact hton)] at h1;simp at h1
     ·have h1b:(s.st.set to 1)[i]?=some 0:=h1;rw[hstn i e] at h1b;refine h.fresh i g' h1b (hother i g' (fun e=>?_) h2);rw[e,hst] at h1b;simp at h1b
    ·intro i hi
     by_cases e:i=to
     ·subst e;have hi:(s.st.set i 1)[i]?=some 2:=hi;rw[List.getElem?_set_self (by rw[h.Ba];exact hton)] at hi;simp at hi
     ·have hi:(s.st.set to 1)[i]?=some 2:=hi;rw[hstn i e] at hi;exact h.done i hi
    ·intro j p g' hj hg' m to' hm hmt;have hjb:(s.path++[to])[j]?=some p:=hj;clear hj;have hj:=hjb;clear hjb;show to'∈s.out∨(s.path++[to])[j+1]?=some to'
     by_cases hjl:j<s.path.length
     ·rw[List.getElem?_append_left hjl] at hj
      by_cases hp:p=a
      ·subst hp;obtain rfl:=hself g' hg';have hjP:=EE h.nodup hP hj
       by_cases hmg:m<g
       ·rcases h.ways j p g hj hg m to' hmg hmt with h1 | h1
        ·exact .inl h1
        ·rw[hjP,hlb] at h1;cases h1
       ·obtain rfl:m=g:=by omega
        rw[hto] at hmt;cases hmt;refine .inr ?_;rw[hjP,show P.length+1=s.path.length by rw[hP];simp];simp
      ·rcases h.ways j p g' hj (hother p g' hp hg') m to' hm hmt with h1 | h1
       ·exact .inl h1
       ·have:=(List.getElem?_eq_some_iff.1 h1).1;exact .inr (by rw[List.getElem?_append_left this];exact h1)
     ·have hlt':=(List.getElem?_eq_some_iff.1 hj).1;simp only[List.length_append,List.length_singleton] at hlt';obtain rfl:j=s.path.length:=by omega
      have hpt:to=p:=by simpa using hj
      subst hpt;have:=h.fresh to g' hv (hother to g' hta hg');omega
    ·rcases h.zero with h1 | h1
     ·exact .inl h1
     ·exact .inr (List.mem_append_left _ h1)
    ·intro i g' hi;have hi:(s.st.set to 1)[i]?=some g':=hi;rw[List.getElem?_set] at hi;split at hi
     ·split at hi
      ·simp at hi;omega
      ·simp at hi
     ·exact h.size i g' hi
    ·unfold gi;simp only[List.length_append,List.length_singleton];omega
    ·unfold gi;simp only[List.length_append,List.length_singleton];omega
structure iv (nx:Nat→List Nat) (n:Nat) (out:List Nat):Prop where
 G5:∀(k i:Nat),out[k]?=some i→∀to∈nx i,∃k',k'<k∧out[k']?=some to
 zero:0∈out
 lt:∀i∈out,i<n
theorem oW (hnx:∀i,i<n→∀to∈nx i,to<n):∀{f:Nat} {s:DS} {out:List Nat},Hq nx n s→xg nx f s=some out→iv nx n out
 | 0,_,_,_,h=>by cases h
 | f+1,s,out,hw,h=>by
  unfold xg at h;cases hl:s.path.getLast? with
  | none=>
   rw[hl] at h;simp only[Option.some.injEq] at h;subst h;have:s.path= []:=List.getLast?_eq_none_iff.1 hl;exact⟨hw.tJ,by rcases hw.zero with h1 | h1;exact h1;rw[this] at h1;simp at h1,hw.out⟩
  | some a=>
   rw[hl] at h;dsimp only at h;cases hd:jG nx s a with
   | none=>rw[hd] at h;cases h
   | some s'=>rw[hd] at h;exact oW hnx (mP hw hnx hl hd).1 h
end
structure TS where
 at_:Nat
 aW:List Int
 events:List cK
 asked:Nat
 fin:Int
 asks:Bool
noncomputable def gD (k:Nat) (aW:List Int) (x:XI) (i:Nat):Int:=((x.exprs[i]?).map (lC aW k)).getD 0
noncomputable def eO (k:Nat) (x:XI) (s:TS):TS×Bool:=
 bif bm x.kind 1 then({s with aW:=s.aW.set x.sS.toNat (gD k s.aW x 0),at_:=s.at_+1},true) else
 bif bm x.kind 3 then({s with events:=s.events++[⟨2,x.loc,x.order,0,gD k s.aW x 0⟩],at_:=s.at_+1},true) else
 bif bm x.kind 7 then({s with events:=s.events++[⟨4,0,x.order,0,0⟩],at_:=s.at_+1},true) else
 bif bm x.kind 8 then(bif bm (gD k s.aW x 0) 0 then({s with fin:=2},false) else({s with at_:=s.at_+1},true)) else
 bif bm x.kind 9 then(bif bm (gD k s.aW x 0) 0 then({s with fin:=3},false) else({s with at_:=s.at_+1},true)) else
 bif bm x.kind 10 then({s with at_:=x.to.toNat},true) else
 bif bm x.kind 11 then(bif bm (gD k s.aW x 0) 0 then({s with at_:=x.to.toNat},true) else({s with at_:=s.at_+1},true)) else
 bif bm x.kind 12 then({s with fin:=4},false) else
 bif bm x.kind 13 then({s with fin:=1},false) else
 ({s with asks:=true},false)
noncomputable def ct (k:Nat) (c:XC) (s:TS):TS×Bool:=match c.ins[s.at_]? with | some x=>eO k x s | none=>(s,false)
noncomputable def uE (k:Nat) (c:XC):Nat→TS→TS
 | 0,s=>s
 | f+1,s=>bif (ct k c s).2 then uE k c f (ct k c s).1 else(ct k c s).1
noncomputable def iS (c:XC):Nat:=((eY c).getD []).length
noncomputable def gR (k:Nat) (c:XC):TS:=uE k c (iS c) ⟨0,List.replicate c.aW.toNat 0,[],0,0,false⟩
structure tI where
 kind:Int
 loc:Int
 order:Int
 a:Int
 b:Int
def tI.ints (x:tI):List Int:=[x.kind,x.loc,x.order,x.a,x.b]
noncomputable def Fw (k:Nat) (x:XI) (aW:List Int):tI:=⟨x.kind,x.loc,x.order,gD k aW x 0,gD k aW x 1⟩
noncomputable def m9 (k:Nat) (c:XC) (s:TS):tI:=match c.ins[s.at_]? with | some x=>Fw k x s.aW | none=>⟨0,0,0,0,0⟩
noncomputable def bX (a:tI) (v:Int):cK:=
 bif bm a.kind 2 then⟨1,a.loc,a.order,v,0⟩ else
 bif bm a.kind 4 then(bif bm v a.a then⟨3,a.loc,a.order,v,a.b⟩ else⟨1,a.loc,a.order,v,0⟩) else
 bif bm a.kind 5 then⟨3,a.loc,a.order,v,wr .i64 (wr .u64 (Int.add (wr .u64 v) (wr .u64 a.a)))⟩ else
 bif bm a.kind 6 then⟨3,a.loc,a.order,v,a.a⟩ else⟨0,0,0,0,0⟩
noncomputable def mi (a:tI):Int:=bif bm a.kind 2 then 0 else bif bm a.kind 4 then 0 else bif bm a.kind 5 then 0 else bif bm a.kind 6 then 0 else 2
noncomputable def Ge (c:XC) (s:TS):Nat:=match c.ins[s.at_]? with | some x=>x.sS.toNat | none=>0
noncomputable def ft (k:Nat) (c:XC) (s:TS) (v:Int):TS:=
 {s with events:=s.events++[bX (m9 k c s) v],aW:=s.aW.set (Ge c s) v,asked:=s.asked+1,at_:=s.at_+1,asks:=false}
noncomputable def dp (k:Nat) (c:XC) (s:TS) (v:Int):TS:=uE k c (iS c) (ft k c s v)
noncomputable def jY (k:Nat) (c:XC):List Int→TS→TS
 | [],s=>s
 | v::r,s=>bif s.asks then jY k c r (dp k c s v) else s
noncomputable def cM (l:List cK):List Int:=(l.filter dM).map cK.read
noncomputable def gy (k:Nat) (c:XC) (a:List Int):TS:=jY k c a (gR k c)
noncomputable def ry (s:TS) (l:List cK):Bool:=bif cg (.ofNat s.events.length) (.ofNat l.length) then false else cG (s.events.take l.length) l
noncomputable def jP (k:Nat) (c:XC):Int:=bif jg k c then 0 else bif bk (bm (db k c) 0) then db k c else 2
structure mM where
 event:cK
 ask:tI
 fin:Int
def tl:cK:=⟨0,0,0,0,0⟩
def pH:tI:=⟨0,0,0,0,0⟩
def w0:mM:=⟨tl,pH,0⟩
noncomputable def kE (k:Nat) (c:XC) (s:TS) (l:List cK):mM×Int:=
 bif bk (ry s l) then(w0,2) else
 match s.events[l.length]? with
 | some e=>(⟨e,pH,0⟩,0)
 | none=>bif s.asks then(⟨tl,m9 k c s,0⟩,0) else(⟨tl,pH,s.fin⟩,0)
noncomputable def cw (k:Nat) (c:XC) (l:List cK):mM×Int:=
 bif bk (bm (jP k c) 0) then(w0,jP k c) else kE k c (gy k c (cM l)) l
structure fj (k:Nat) (c:XC):Prop where
 AY:0≤c.aW
 wy:c.aW≤16
 len:c.ins.length≤4000
 pos:0<c.ins.length
 right:∀x∈c.ins,fP c.aW (.ofNat c.ins.length) k x=true
 last:∀x,c.ins[c.ins.length-1]?=some x→ib x=true
theorem nq {k:Nat} {c:XC} (h:db k c=0):fj k c:=by
 unfold db at h;cases h1:cg 16 c.aW with
 | true=>rw[h1] at h;cases h
 | false=>
 rw[h1] at h;cases h2:cg 4000 (.ofNat c.ins.length) with
 | true=>rw[h2] at h;cases h
 | false=>
 rw[h2] at h;cases h3:bk (c.ins.all (ui k)) with
 | true=>rw[h3] at h;cases h
 | false=>
 rw[h3] at h;cases h4:cg c.aW 0 with
 | true=>rw[h4] at h;cases h
 | false=>
 rw[h4] at h;cases h5:bm (.ofNat c.ins.length) 0 with
 | true=>rw[h5] at h;cases h
 | false=>
 rw[h5] at h;cases h6:bk (c.ins.all (fP c.aW (.ofNat c.ins.length) k)) with
 | true=>rw[h6] at h;cases h
 | false=>
 rw[h6] at h;simp only[cond_false] at h;rw[eS,decide_eq_false_iff_not] at h1 h2 h4;have h2:¬(4000:Int)<(c.ins.length:Int):=h2
 have hp:0<c.ins.length:=by
  rw[ei,decide_eq_false_iff_not] at h5;rcases Nat.eq_zero_or_pos c.ins.length with e | e
  ·exact absurd (by rw[e];rfl) h5
  ·exact e
 refine⟨by omega,by omega,by omega,hp,fun x hx=>?_,fun x hx=>?_⟩
 ·have h6:=aY h6;exact List.all_eq_true.1 h6 x hx
 ·rw[hx] at h;dsimp only at h;cases h7:ib x with
  | true=>rfl
  | false=>rw[h7] at h;cases h
theorem iq {aW nins:Int} {k:Nat} {x:XI} (h:fP aW nins k x=true):∃(n:Nat) (sh:jo),x.kind= .ofNat n∧1≤n∧n≤13∧jm[n]?=some sh∧fV aW nins k x sh=true:=by
 unfold fP at h;cases h1:cg x.kind 1 with
 | true=>rw[h1] at h;cases h
 | false=>
 rw[h1] at h;cases h2:cg 13 x.kind with
 | true=>rw[h2] at h;cases h
 | false=>
 rw[h2] at h;simp only[cond_false] at h;rw[eS,decide_eq_false_iff_not] at h1 h2;obtain⟨n,hn⟩:∃n:Nat,x.kind= .ofNat n:=⟨x.kind.toNat,by show x.kind=(x.kind.toNat:Int);omega⟩;rw[hn] at h h1 h2;have h1:¬(n:Int)<1:=h1;have h2:¬(13:Int)<(n:Int):=h2;have e:(Int.ofNat n).toNat=n:=rfl;rw[e] at h;cases h3:jm[n]? with
 | none=>rw[h3] at h;cases h
 | some sh=>rw[h3] at h;exact⟨n,sh,hn,by omega,by omega,h3,h⟩
theorem kI {n least most:Int} (h:eD n least most true=true):least≤n∧n<most:=by
 unfold eD at h;simp only[cond_true] at h;cases h1:cg n least with
 | true=>rw[h1] at h;cases h
 | false=>
 rw[h1] at h;have h:cg n most=true:=h;rw[eS,decide_eq_false_iff_not] at h1;rw[eS,decide_eq_true_iff] at h;omega
structure FH (aW nins:Int) (k:Nat) (x:XI) (sh:jo):Prop where
 sS:eD x.sS 0 aW sh.sS=true
 loc:eD x.loc 0 6 sh.loc=true
 order:eD x.order 1 7 sh.order=true
 to:eD x.to 0 nins sh.to=true
 exprs:x.exprs.length=sh.exprs
 all:∀e∈x.exprs,fb aW k e=true
theorem il {aW nins:Int} {k:Nat} {x:XI} {sh:jo} (h:fV aW nins k x sh=true):FH aW nins k x sh:=by
 unfold fV at h;cases h1:eD x.sS 0 aW sh.sS with
 | false=>rw[h1] at h;cases h
 | true=>
 cases h2:eD x.loc 0 6 sh.loc with
 | false=>rw[h1,h2] at h;cases h
 | true=>
 cases h3:eD x.order 1 7 sh.order with
 | false=>rw[h1,h2,h3] at h;cases h
 | true=>
 cases h4:eD x.to 0 nins sh.to with
 | false=>rw[h1,h2,h3,h4] at h;cases h
 | true=>
 rw[h1,h2,h3,h4] at h;have h:(bif bk (bm (.ofNat x.exprs.length) (.ofNat sh.exprs)) then false else x.exprs.all (fb aW k))=true:=h;cases h5:bm (.ofNat x.exprs.length) (.ofNat sh.exprs) with
 | false=>rw[h5] at h;cases h
 | true=>
 rw[h5] at h;have h:x.exprs.all (fb aW k)=true:=h;rw[gP,decide_eq_true_iff] at h5;exact⟨h1,h2,h3,h4,h5,List.all_eq_true.1 h⟩
theorem qk {k:Nat} {c:XC} (h:fj k c):∀i,i<c.ins.length→∀to∈dC c i,to<c.ins.length:=by
 intro i hi to hto;unfold dC at hto;rw[List.getElem?_eq_getElem hi] at hto;dsimp only at hto;have hx:=h.right c.ins[i] (List.getElem_mem hi);have hl:=h.last;generalize hxe:c.ins[i]=x at hto hx;obtain⟨n,sh,hn,n1,n13,hsh,hr⟩:=iq hx;have hr:=il hr;have hto':=hr.to
 have hlast:i+1<c.ins.length∨ib x=true:=by
  by_cases e:i+1<c.ins.length
  ·exact .inl e
  ·refine .inr (hl x ?_);rw[show c.ins.length-1=i by omega,List.getElem?_eq_getElem hi,hxe]
 unfold eP at hto;unfold ib at hlast;rw[hn] at hto hlast;have key:∀m:Nat,m=n→(∀y,(sh.to=true→0≤y∧y<(c.ins.length:Int))→y=x.to→True):=fun _ _ _ _ _=>trivial
 have tole:sh.to=true→0≤x.to∧x.to<(c.ins.length:Int):=fun e=>by rw[e] at hto';exact kI hto'
 match n,n1,n13 with
 | 1,_,_ | 2,_,_ | 3,_,_ | 4,_,_ | 5,_,_ | 6,_,_ | 7,_,_ | 8,_,_ | 9,_,_=>
  have e:to=i+1:=List.mem_singleton.1 (show to∈[i+1] from hto);rcases hlast with e1 | e1
  ·omega
  ·cases e1
 | 10,_,_=>
  have e:to=x.to.toNat:=List.mem_singleton.1 (show to∈[x.to.toNat] from hto);have:=tole (by cases hsh;rfl);omega
 | 11,_,_=>
  have e:to=i+1∨to=x.to.toNat:=by have h2:to∈[i+1,x.to.toNat]:=hto;simpa using h2
  have:=tole (by cases hsh;rfl);rcases e with e | e
  ·rcases hlast with e1 | e1
   ·omega
   ·cases e1
  ·omega
 | 12,_,_ | 13,_,_=>exact absurd (show to∈([]:List Nat) from hto) (by simp)
theorem rT {k:Nat} {c:XC} (h:jg k c=true):fj k c∧∃out,eY c=some out∧iv (dC c) c.ins.length out:=by
 unfold jg at h;cases h1:bm (db k c) 0 with
 | false=>rw[h1] at h;cases h
 | true=>
  rw[h1] at h;have h:(eY c).isSome=true:=h;have hc:=nq (qs h1);obtain⟨out,ho⟩:=Option.isSome_iff_exists.1 h;exact⟨hc,out,ho,oW (qk hc) (xb hc.pos) ho⟩
section
variable {P:Program} {G:Cx} {ev:Operand→Option AV} {σ:av} {K:KP} {L:Own}
theorem iH {t:TypeId} {x i:Operand} {s:List Nat} {n c:Nat} {k:IntKind} (ht:P.underlying t=some .string) (hx:ev x=some (.str s)) (hi:ev i=some (.int k (.ofNat n))) (hc:s[n]?=some c):dg P G ev σ (.index t x i)= .val (.int .u8 (.ofNat c)) σ:=by
 refine aU rfl ?_;simp only[cu,ht,hx,hi,dU,hc]
theorem qd {t e n m j off:Nat} {b:Pos} {x i:Operand} {k:IntKind} (ht:P.underlying t=some (.array n e)) (hj:(P.info? e).map (·.size)=some m) (hx:ev x=some (.ptr b off)) (hi:ev i=some (.int k (.ofNat j))) (hn:j<n):dg P G ev σ (.indexAddr t x i)= .val (.ptr b (off+j*m)) σ:=by
 refine aU rfl ?_;obtain⟨q,hq,rfl⟩:=Option.map_eq_some_iff.1 hj;simp only[cu,ht,hx,hi,hq,show Nat.ble (Nat.succ j) n=true by rw[Nat.ble_eq];exact hn,cond_true]
theorem dN {x:Operand} {b:Pos} {off:Nat} (hx:ev x=some (.ptr b off)):dg P G ev σ (.nilCheck x)= .val (.ptr b off) σ:=aU rfl (by simp only[cu,hx])
theorem cW {x:Operand} {p:AV} {vs:List AV} (hp:fC K p vs) (hx:ev x=some p):dg P G ev σ (.nilCheck x)= .val p σ:=by
 obtain⟨b,off,_,_,_,rfl,_⟩:=hp;exact dN hx
theorem Hz {c:Call} {x y:Operand} {a b:Int} {k:IntKind} (hc:c.callee= .builtin .max) (ha:c.args.toList= [x,y]) (hx:ev x=some (.int k a)) (hy:ev y=some (.int k b)):dg P G ev σ (.call c)= .val (.int k (bif cg a b then b else a)) σ:=by
 refine aU (by simp[kindOf,hc]) ?_;have e:pE k k=true:=by cases k<;>rfl
 simp only[cu,hc,ha,hx,hy,Gp,e,cond_true]
theorem kr {α:Type} {f:α→AV} {l:List α} {i off:Nat} {x:α} (h:l[i]?=some x) (ho:off=i):nth (l.map f) off=some (f x):=by
 subst ho;rw[dU,List.getElem?_map,h];rfl
theorem fm {α:Type} {f:α→AV} {l:List α} {i off:Nat} {v:α} (h:i<l.length) (ho:off=i):cO [f v] (l.map f) off=(l.set i v).map f:=by
 subst ho;have:=ie (us:=l.map f) (u:=f v) (i:=off) (by rw[List.length_map];exact h);rw[show 0+off*1=off by omega] at this;rw[this,List.map_set]
theorem iy {α:Type} {f:α→AV} (v:α) (n:Nat):ec [f v] n=(List.replicate n v).map f:=by rw[eV,List.map_replicate]
end
def lH {α:Type} (m E:Nat) (R:α→List AV→Prop) (l:List α) (u:AV) (M:Own):Prop:=
 (l= []∧u= .aq∧M= [])∨∃(b:Nat) (c:n8) (cells:List AV) (e:Nat),u= .slice b 0 l.length c∧M= [(b,.row cells e false)]∧l.length*m≤cells.length∧(∀(i:Nat) (x:α),l[i]?=some x→R x ((cells.drop (i*m)).take m))∧((∃n,c= .known n∧l.length≤n∧n*m≤cells.length)∨(c= .upto m∧e=E))∧l.length≤1048576
section
variable {α:Type} {m E:Nat} {R:α→List AV→Prop} {l:List α} {u:AV} {M:Own} {K:KP}
theorem eN.Ik (h:eN m E R l u M):lH m E R l u M:=by
 rcases h with h | ⟨b,c,cells,e,h1,h2,h3,h4,h5,h6⟩
 ·exact .inl h
 ·refine .inr ⟨b,c,cells,e,h1,h2,by omega,h4,?_,h6⟩;rcases h5 with h5 | h5
  ·exact .inl ⟨_,h5,Nat.le_refl _,by omega⟩
  ·exact .inr h5
theorem lH.kJ (h:lH m E R l u M) (hk:∀e∈M,K e.1 e.2):bD K m R l u:=by
 rcases h with ⟨h1,h2,_⟩ | ⟨b,c,cells,e,rfl,rfl,h3,h4,h5,h6⟩
 ·exact .inl ⟨h1,h2⟩
 ·refine .inr ⟨b,0,c,cells,e,false,rfl,?_,hk _ (List.mem_cons_self ..),by omega,by omega,fun i x hx=>by rw[Nat.zero_add];exact h4 i x hx⟩;rcases h5 with ⟨n,h5,h7,_⟩ | h5
  ·exact .inr ⟨_,h5,h7⟩
  ·exact .inl h5.1
theorem wE {P:Program} {G:Cx} {ev:Operand→Option AV} {σ:av} {c:Call} {t e:TypeId} {x:Operand} (h:lH m E R l u M) (hc:c.callee= .builtin .len) (ht:c.argTypes[0]?=some t) (ha:c.args.toList= [x]) (hu:P.underlying t=some (.slice e)) (hx:ev x=some u):
  dg P G ev σ (.call c)= .val (.int .i64 (.ofNat l.length)) σ:=
 aT (K:=fun b o=>(b,o)∈M) (h.kJ fun e he=>he) hc ht ha hu hx
theorem lH.take (h:lH m E R l u M) {P:Program} {ev:Operand→Option AV} {t:TypeId} {x hi:Operand} {kk:IntKind} {k:Nat} (hk:k≤l.length) (hu:P.underlying t=some (.slice E)) (hj:(P.info? E).map (·.size)=some m) (hx:ev x=some u) (hh:ev hi=some (.int kk (.ofNat k))):
  ∃u',eH P ev t x none (some hi) none=some u'∧lH m E R (l.take k) u' M:=by
 obtain⟨j,hj',rfl⟩:=Option.map_eq_some_iff.1 hj;rcases h with ⟨rfl,rfl,rfl⟩ | ⟨b,c,cells,e,rfl,rfl,h3,h4,h5,h6⟩
 ·obtain rfl:k=0:=by simpa using hk
  refine⟨.aq,?_,.inl ⟨rfl,rfl,rfl⟩⟩;have:cj ev 0 0 none (some hi)=some (0,0):=l9 hh (Nat.le_refl _);simp only[eH,hu,hx,hj',this]
 ·have hl:(l.take k).length=k:=by rw[List.length_take];omega
  have hR:∀(i:Nat) (x:α),(l.take k)[i]?=some x→R x ((cells.drop (i*j.size)).take j.size):=fun i x hi=>by
   rw[List.getElem?_take] at hi;split at hi
   ·exact h4 i x hi
   ·cases hi
  have hle:k*j.size≤cells.length:=Nat.le_trans (Nat.mul_le_mul_right _ hk) h3;rcases h5 with ⟨n,rfl,h7,h8⟩ | ⟨rfl,rfl⟩
  ·refine⟨.slice b 0 k (.known n),?_,.inr ⟨b,.known n,cells,e,by rw[hl],rfl,by rw[hl];exact hle,hR,.inl ⟨n,rfl,by rw[hl];omega,h8⟩,by rw[hl];omega⟩⟩;have:cj ev l.length n none (some hi)=some (0,k):=l9 hh (by omega);simp only[eH,hu,hx,cutAt,this,cut,hj'];cases hn:Nat.beq n 0 with
   | true=>simp
   | false=>simp
  ·refine⟨.slice b 0 k (.upto j.size),?_,.inr ⟨b,.upto j.size,cells,e,by rw[hl],rfl,by rw[hl];exact hle,hR,.inr ⟨rfl,rfl⟩,by rw[hl];omega⟩⟩;have:cj ev l.length l.length none (some hi)=some (0,k):=l9 hh hk;simp only[eH,hu,hx,this,hj',show Nat.beq j.size j.size=true from Nat.beq_refl _,cond_true,Nat.zero_mul,Nat.sub_zero,Nat.add_zero]
end
section
variable {α:Type} {m E:Nat} {R:α→List AV→Prop}
theorem uN {l l2:List α} {cells news Z:List AV} (hl:l.length*m≤cells.length) (h1:∀(i:Nat) (x:α),l[i]?=some x→R x ((cells.drop (i*m)).take m)) (hn:news.length=l2.length*m) (h2:∀(i:Nat) (x:α),l2[i]?=some x→R x ((news.drop (i*m)).take m)):
  ∀(i:Nat) (x:α),(l++l2)[i]?=some x→R x (((cells.take (l.length*m)++(news++Z)).drop (i*m)).take m):=by
 intro i x hx;have hA:(cells.take (l.length*m)).length=l.length*m:=by rw[List.length_take];omega
 by_cases hi:i<l.length
 ·rw[List.getElem?_append_left hi] at hx;have hle:(i+1)*m≤l.length*m:=Nat.mul_le_mul_right _ hi;rw[Nat.succ_mul] at hle;rw[List.drop_append_of_le_length (by omega),List.take_append_of_le_length (by rw[List.length_drop];omega),List.drop_take,List.take_take,Nat.min_eq_left (by omega)];exact h1 i x hx
 ·rw[List.getElem?_append_right (by omega)] at hx;have hlt:=(List.getElem?_eq_some_iff.1 hx).1;have hle:l.length*m≤i*m:=Nat.mul_le_mul_right _ (by omega);have hle2:(i-l.length+1)*m≤l2.length*m:=Nat.mul_le_mul_right _ hlt;rw[Nat.succ_mul] at hle2;rw[List.drop_append,List.drop_eq_nil_of_le (by omega),List.nil_append,hA,←Nat.sub_mul,List.drop_append_of_le_length (by omega),List.take_append_of_le_length (by rw[List.length_drop];omega)];exact h2 _ x hx
section
variable {P:Program} {K:KP} {L:Own}
theorem qZ {l l2:List α} {u v2:AV} {M:Own} {bv ev e:Nat} {cv:List AV} {ts:Array TypeId} {t:TypeId} {σ:av} (ho:lH m e R l u M) (hst:St σ K ((bv,.row cv ev false)::(M++L)))
  (hx:bD (K.add bv (.row cv ev false)) m R l2 v2) (hleaf:∀x vs,R x vs→bT vs=true) (hn:l2.length≤1000) (hpos:1≤l2.length) (hl:l.length≤1000000)
  (ht:ts[0]?=some t) (hu:P.underlying t=some (.slice e)) (ha:vT P e m=true) (h2:dn P ts[1]?=true):
  ∃σ' u' M',fy P σ ts u v2= .val u' σ'∧lH m e R (l++l2) u' M'∧St σ' K (M'++L):=by
 have hk:=hst.EY;have hkw:St σ K (M++L):=hk.weaken (KP.ua _ _ _);rcases ho with ⟨rfl,rfl,rfl⟩ | ⟨b,c,cells,e',rfl,rfl,h3,h4,h5,h6⟩
 ·obtain⟨news,k1,k2,k3⟩:=qz (P:=P) hk hx hleaf (by omega) hpos ht hu ha h2;exact⟨_,_,[(σ.next,.row news e false)],k1,.inr ⟨_,_,news,e,rfl,rfl,by rw[k2];exact Nat.le_refl _,k3,.inr ⟨rfl,rfl⟩,by show l2.length≤_;omega⟩,((hk.alloc (.row news e false)).weaken (KP.ua _ _ _))⟩
 ·obtain⟨news,s1,s2,s3,s4⟩:=nQ hk hx hleaf;unfold vT at ha;split at ha
  ·rename_i j hj;simp only[Bool.and_eq_true] at ha;obtain⟨a1,a2,a3,a4⟩:=ha;have hm:j.size=m:=Nat.eq_of_beq_eq_true a1;subst hm;have hz:((P.info? e).any fun j=>(j.zero.bind oD).any fun z=>(cm z).any fun cs=>Nat.beq (cr cs) j.size)=true:=by rw[hj];exact a4
   have hb:=hkw.get 0 rfl;have hlen:(l++l2).length=l.length+l2.length:=List.length_append;have hmul:(l.length+l2.length)*j.size=l.length*j.size+l2.length*j.size:=Nat.add_mul ..;unfold fy;rw[ht];dsimp only;rw[hu];dsimp only;rw[hj];dsimp only;rw[h2,a2,a3];simp only[Bool.and_self,cond_true];rw[s1];dsimp only;rw[hj] at hz;rw[s3,show Nat.ble l2.length 1048576=true by rw[Nat.ble_eq];omega,hz];simp only[Bool.and_self,cond_true];have hle:Nat.ble (0+l.length*j.size) (cr cells)=true:=by rw[Nat.ble_eq,bn];omega
   have htake:takeN (cX cells 0) (l.length*j.size)=cells.take (l.length*j.size):=by rw[cB,cU,List.drop_zero]
   have hl1:Nat.ble l.length 1048576=true:=by rw[Nat.ble_eq];omega
   have hA:(cells.take (l.length*j.size)).length=l.length*j.size:=by rw[List.length_take];omega
   have hsp:l.length*j.size+news.length≤cells.length→cO news cells (0+l.length*j.size)=cells.take (l.length*j.size)++(news++cells.drop (l.length*j.size+news.length)):=fun hh=>by
    rw[Nat.zero_add,lq _ _ _ (by omega),List.append_assoc]
   have hin:l.length*j.size+news.length≤cells.length→∀c',((∃n,c'=n8.known n∧(l++l2).length≤n∧n*j.size≤cells.length)∨(c'=n8.upto j.size∧e'=e))→lH j.size e R (l++l2) (.slice b 0 (l.length+l2.length) c') [(b,.row (cO news cells (0+l.length*j.size)) e' false)]:=fun hh c' hc'=>by
    have hsl:(cO news cells (0+l.length*j.size)).length=cells.length:=by
     rw[hsp hh];simp only[List.length_append,List.length_take,List.length_drop];omega
    refine .inr ⟨b,c',_,e',by rw[hlen],rfl,by rw[hsl,hlen,hmul];omega,?_,by rw[hsl];exact hc',by rw[hlen];omega⟩;rw[hsp hh];exact uN h3 h4 s2 s4
   have hgr:lH j.size e R (l++l2) (.slice σ.next 0 (l.length+l2.length) (.upto j.size)) [(σ.next,.row (cells.take (l.length*j.size)++news) e false)]:=by
    refine .inr ⟨_,_,_,e,by rw[hlen],rfl,by rw[hlen,hmul,List.length_append,hA];omega,?_,.inr ⟨rfl,rfl⟩,by rw[hlen];omega⟩;have:=uN (Z:=[]) h3 h4 s2 s4;rwa[List.append_nil] at this
   rcases h5 with ⟨n,rfl,h7,h8⟩ | ⟨rfl,rfl⟩
   ·dsimp only;cases hc:Nat.ble (l.length+l2.length) n with
    | true=>
     have hc':l.length+l2.length≤n:=by simpa [Nat.ble_eq] using hc
     have hfit:l.length*j.size+news.length≤cells.length:=by
      have:(l.length+l2.length)*j.size≤n*j.size:=Nat.mul_le_mul_right _ hc';rw[s2];omega
     simp only[cond_true];rw[hb];dsimp only;rw[show Nat.ble (0+l.length*j.size+cr news) (cr cells)=true by rw[Nat.ble_eq,bn,bn];omega];simp only[cond_true];exact⟨_,_,[(b,_)],rfl,hin hfit _ (.inl ⟨n,rfl,by rw[hlen];exact hc',h8⟩),hkw.mn _⟩
    | false=>
     simp only[cond_false];rw[hb];dsimp only;rw[hle,hl1,htake,cT];simp only[Bool.and_self,cond_true];exact⟨_,_,[(σ.next,_)],rfl,hgr,((hkw.alloc _).perm (List.Perm.swap ..)).pop⟩
   ·dsimp only
    have:Nat.beq l2.length 0=false:=by
     cases hh:Nat.beq l2.length 0 with
     | false=>rfl
     | true=>exact absurd (Nat.eq_of_beq_eq_true hh) (by omega)
    rw[this,Nat.beq_refl,hl1];simp only[Bool.and_self,cond_true,cond_false];rw[hb];dsimp only;cases hf:(Nat.ble 1 l.length && Nat.ble (0+l.length*j.size+cr news) (cr cells)) with
    | true=>
     have hfit:l.length*j.size+news.length≤cells.length:=by
      rw[Bool.and_eq_true,Nat.ble_eq,Nat.ble_eq,bn,bn] at hf;omega
     simp only[cond_true];exact⟨_,_,[(b,_)],rfl,hin hfit _ (.inr ⟨rfl,rfl⟩),hkw.mn _⟩
    | false=>
     simp only[cond_false];rw[hle,Nat.beq_refl,htake,cT];simp only[Bool.and_self,cond_true];exact⟨_,_,[(σ.next,_)],rfl,hgr,hkw.ta _⟩
  ·cases ha
end
end
end Go.Ev
namespace Go.Ev
variable [Env]
open Go.Proofs
set_option maxRecDepth 4000
set_option maxHeartbeats 8000000
theorem qh {G:Cx} (hG:Plain G) {K:KP} (n le mo:Int) (mu:Bool) {σ:av} {L:Own} (hst:St σ K L):bc Tryz.prog G 217 [.int .i64 n,.int .i64 le,.int .i64 mo,.bool mu] σ fun v σ'=>v= .bool (eD n le mo mu)∧St σ' K L:=by
 refine bg hG Tryz.func217 rfl (t:=(((PT.leaf.put (some (.int .i64 n)) 0).put (some (.int .i64 le)) 1).put (some (.int .i64 mo)) 2).put (some (.bool mu)) 3) (by rfl) (aj (ai rfl (vQ 1 rfl (nT (aj (aj (ai rfl (vQ 1 rfl (aa rfl (dO rfl) rfl (nT (aE rfl (fun h10=>?_) (fun h10=>?_))))))))))))
 ·have h10b:=bQ h10;refine aj (ai rfl (vQ 3 rfl (nT (aB (au (?_))))));exact ay rfl rfl ⟨congrArg AV.bool (by unfold eD bk;simp only[h10b,cond_true,cond_false]),hst⟩
 ·have h10b:=aY h10;refine aF (ad (aj (ai rfl (vQ 3 rfl (aL rfl (al rfl) (fun _=>rfl) (fun h16=>?_) (fun h16=>?_))))))
  ·refine vQ 5 rfl (nT (aB ?_));exact ay rfl rfl ⟨congrArg AV.bool (by unfold eD bk;simp only[h10b,h16,cond_true,cond_false]),hst⟩
  ·refine vQ 5 rfl (nT (aB ?_));exact ay rfl rfl ⟨congrArg AV.bool (by unfold eD bk;simp only[h10b,h16,cond_true,cond_false]),hst⟩
theorem Dw {c:Nat} (h:cg (.ofNat c) 48=true):¬(48≤c∧c≤57):=by have:c<48:=cA (b:=48) h;omega
theorem Et {c:Nat} (h:cg 57 (.ofNat c)=true):¬(48≤c∧c≤57):=by have:57<c:=cA (a:=57) h;omega
theorem nJ {c:Nat} (h:cg (.ofNat c) 48=false) (h':cg 57 (.ofNat c)=false):48≤c∧c≤57:=by have:48≤c:=bz (b:=48) h;have:c≤57:=bz (a:=57) h';omega
theorem D6 {c m:Nat} (h:48≤c∧c≤57) (hm:m≤100000):wr .i64 (Int.add (wr .i64 (Int.mul 10 (.ofNat m))) (wr .i64 (wr .u8 (Int.sub (.ofNat c) 48))))= .ofNat (10*m+(c-48)):=by
 have e1:Int.sub (.ofNat c) 48= .ofNat (c-48):=by show(c:Int)-48=((c-48:Nat):Int);omega
 have e2:Int.mul 10 (.ofNat m)= .ofNat (10*m):=rfl
 have w1:wr .u8 (.ofNat (c-48))= .ofNat (c-48):=by
  show(bif Nat.ble (c-48) 255 then _ else _)=_;rw[show Nat.ble (c-48) 255=true by rw[Nat.ble_eq];omega];rfl
 have w2:∀q:Nat,q≤9223372036854775807→wr .i64 (.ofNat q)= .ofNat q:=fun q hq=>by
  show(bif Nat.ble q 9223372036854775807 then _ else _)=_;rw[show Nat.ble q 9223372036854775807=true by rw[Nat.ble_eq];exact hq];rfl
 rw[e1,e2,w1,w2 _ (by omega),w2 _ (by omega)];show wr .i64 (.ofNat (10*m+(c-48)))=_;exact w2 _ (by omega)
theorem wv {s:List Nat} (h:s.length=0∨4<s.length∨(1<s.length∧s[0]?=some 48)):mq s=none:=by unfold mq;rw[if_pos h]
theorem lB {s:List Nat} (h:¬(s.length=0∨4<s.length∨(1<s.length∧s[0]?=some 48))):mq s=pf s 0:=by unfold mq;rw[if_neg h]
def HU (o:Option Nat):Int:=.ofNat (o.getD 0)
theorem zr:∀i,i≤4→10 ^ i≤10000:=by decide
theorem AG {G:Cx} (hG:Plain G) {K:KP} (s:List Nat) {σ:av} {L:Own} (hst:St σ K L):bc Tryz.prog G 253 [.str s] σ fun v σ'=>v= .tuple [.int .i64 (HU (mq s)),.bool (mq s).isSome]∧St σ' K L:=by
 refine bg hG Tryz.func253 rfl (t:=PT.leaf.put (some (.str s)) 0) (by rfl) (aj (ai rfl (vQ 2 rfl (nT (aj (aj (ai rfl (vQ 1 rfl (aa rfl (jR rfl rfl rfl (by kernel_rfl) rfl) rfl (vQ 1 rfl (aL rfl (al rfl) (fun _=>rfl) (fun h9=>?_) (fun h9=>?_))))))))))))
 ·refine vQ 14 rfl (nT (aC rfl (aj (ai rfl (vQ 2 rfl (nT (aB (au (?_)))))))));exact bU rfl rfl rfl ⟨by rw[wv (.inl (by have:=qs h9;rw[←bn];exact Int.ofNat.inj this))];rfl,hst⟩
 ·refine vQ 1 rfl (aa rfl (jR rfl rfl rfl (by kernel_rfl) rfl) rfl (vQ 2 rfl (aL rfl (al rfl) (fun _=>rfl) (fun h14=>?_) (fun h14=>?_))))
  ·refine vQ 9 rfl (nT (aC rfl (aj (ai rfl (vQ 2 rfl (nT (aB (au (?_)))))))));exact bU rfl rfl rfl ⟨by rw[wv (.inr (.inl (by rw[←bn];exact cA (a:=4) h14)))];rfl,hst⟩
  ·refine vQ 1 rfl (aa rfl (jR rfl rfl rfl (by kernel_rfl) rfl) rfl (vQ 1 rfl (aL rfl (al rfl) (fun _=>rfl) (fun h18=>?_) (fun h18=>?_))))
   ·refine vQ 1 rfl ?_;obtain⟨x20,hx20⟩:=cQ (show 0<s.length from by have:=cA (a:=1) h18;rw[bn] at this;omega);refine aa rfl (iH (by kernel_rfl) rfl rfl hx20) rfl (vQ 3 rfl (nT (aE rfl (fun h23=>?_) (fun h23=>?_))))
    ·refine aj (ai rfl (vQ 2 rfl (nT (aB (au (?_))))));exact bU rfl rfl rfl ⟨by rw[wv (.inr (.inr ⟨by rw[←bn];exact cA (a:=1) h18,by rw[hx20];exact congrArg some (Int.ofNat.inj (eqv h23))⟩))];rfl,hst⟩
    ·refine aF (ad (aj (ai rfl ?_)));have hl4:cr s≤4:=bz (a:=4) h14
     have hne:¬(s.length=0∨4<s.length∨(1<s.length∧s[0]?=some 48)):=by
      have hl4:=hl4;rw[bn] at hl4;have h9z:s.length≠0:=fun e=>by rw[bn,e] at h9;cases h9
      rintro (e | e | ⟨_,e⟩)
      ·exact h9z e
      ·omega
      ·rw[hx20] at e;cases e;cases h23
     refine vQ 1 rfl (nT (aj (aj (ai rfl (vQ 1 rfl (aa rfl (jR rfl rfl rfl (by kernel_rfl) rfl) rfl (vQ 1 rfl (nT (aP ?_)))))))));obtain⟨LL1,hst,hLL1⟩:=hst.named;refine bE [2,3,4,5,26,27,28,29,30,31,32,33,34,35,36,37,38,39,40,41,42,43,44,45,46,47] (fun j t σ=>∃(i m:Nat),j+i=cr s∧pf s 0=pf (s.drop i) m∧m<10 ^ i∧i≤4∧t.get 4=some (.int .i64 (.ofNat m))∧t.get 26=some (.int .i64 (.ofNat i))∧St σ K LL1) (cr s) ⟨0,0,rfl,rfl,Nat.one_pos,Nat.zero_le _,rfl,rfl,hst⟩ ?_;clear hst;intro j5 t σ ar hI;obtain⟨i,m,hj,he,hm,hi4,hv4,hv26,hst⟩:=hI;subst hLL1;obtain⟨o2,o3,o4,o5,o26,o27,o28,o29,o30,o31,o32,o33,o34,o35,o36,o37,ar⟩:=ar.Iq rfl rfl rfl rfl;replace ar:=ar.dJ rfl rfl;obtain⟨o38,o39,o40,o41,o42,o43,o44,o45,ar⟩:=ar;replace ar:=ar.fI rfl;obtain⟨o46,ar⟩:=ar;replace ar:=ar.fI rfl;obtain⟨o47,ar⟩:=ar;obtain rfl:=ar.nil;clear ar;replace hv4:o4=some _:=hv4;subst hv4;replace hv26:o26=some _:=hv26;subst hv26;refine aj (ai rfl (vQ 1 rfl (nT (aj (aE rfl (fun h27=>?_) (fun h27=>?_))))))
     ·refine aF (ad (aj (aP (aj (ai rfl (vQ 2 rfl (nT (aj (aj (ai rfl (vQ 2 rfl ?_)))))))))));obtain⟨x31,hx31⟩:=cQ (show i<s.length from by have:=cA h27;rwa[bn] at this);refine aa rfl (iH (by kernel_rfl) rfl rfl hx31) rfl (vQ 1 rfl (aL rfl (al rfl) (fun _=>rfl) (fun h33=>?_) (fun h33=>?_)))
      ·refine vQ 5 rfl (nT (aC rfl (aj (ai rfl (vQ 2 rfl (nT (aB (au (aD (au (bC (aD (au (?_))))))))))))));exact bU rfl rfl rfl ⟨by rw[lB hne,he,pI hx31 (Dw h33)];rfl,hst⟩
      ·refine vQ 2 rfl (aa rfl (iH (by kernel_rfl) rfl rfl hx31) rfl (vQ 2 rfl (nT (aE rfl (fun h38=>?_) (fun h38=>?_)))))
       ·refine aj (ai rfl (vQ 2 rfl (nT (aB (au (aD (au (bC (aD (au (?_)))))))))));exact bU rfl rfl rfl ⟨by rw[lB hne,he,pI hx31 (Et h38)];rfl,hst⟩
       ·refine aF (ad (ai rfl (vQ 4 rfl (aa rfl (iH (by kernel_rfl) rfl rfl hx31) rfl (vQ 1 rfl ?_)))));refine aa rfl (fO (j:=.u8) (k:=.i64) (by kernel_rfl) (by kernel_rfl) (by kernel_rfl) rfl) rfl ?_;refine vQ 2 rfl (af (aK (ad (ai rfl (vQ 2 rfl (af ?_))))));refine aR ⟨j5-1,by have:=cA h27;omega,(by(iterate 50 refine bx.put rfl ?_);exact bx.refl _ _),i+1,10*m+(x31-48),by have:=cA h27;omega,he.trans (sH hx31 (nJ h33 h38)),by have:=nJ h33 h38;rw[Nat.pow_succ];omega,by have:=cA h27;have:=hl4;omega,congrArg (fun z=>some (AV.int .i64 z)) (D6 (nJ h33 h38) (by have:=zr i hi4;omega)),congrArg (fun z=>some (AV.int .i64 z)) (bl (by omega)),hst⟩
     ·refine bG (a9 (bj (aV (ad (aj (ai rfl (vQ 3 rfl (nT (aB ?_)))))))));exact bU rfl rfl rfl ⟨by rw[lB hne,he,uf (by have:=bz h27;rwa[bn] at this)];rfl,hst⟩
   ·refine vQ 5 rfl (nT (aJ rfl (aF (ad (aj (ai rfl ?_))))));have hl4:cr s≤4:=bz (a:=4) h14
    have hne:¬(s.length=0∨4<s.length∨(1<s.length∧s[0]?=some 48)):=by
     have hl4:=hl4;rw[bn] at hl4;have h9z:s.length≠0:=fun e=>by rw[bn,e] at h9;cases h9
     have h18z:¬(1<s.length):=by have:=bz (a:=1) h18;rw[bn] at this;omega
     omega
    refine vQ 1 rfl (nT (aj (aj (ai rfl (vQ 1 rfl (aa rfl (jR rfl rfl rfl (by kernel_rfl) rfl) rfl (vQ 1 rfl (nT (aP ?_)))))))));obtain⟨LL2,hst,hLL2⟩:=hst.named;refine bE [2,3,4,5,26,27,28,29,30,31,32,33,34,35,36,37,38,39,40,41,42,43,44,45,46,47] (fun j t σ=>∃(i m:Nat),j+i=cr s∧pf s 0=pf (s.drop i) m∧m<10 ^ i∧i≤4∧t.get 4=some (.int .i64 (.ofNat m))∧t.get 26=some (.int .i64 (.ofNat i))∧St σ K LL2) (cr s) ⟨0,0,rfl,rfl,Nat.one_pos,Nat.zero_le _,rfl,rfl,hst⟩ ?_;clear hst;intro j5 t σ ar hI;obtain⟨i,m,hj,he,hm,hi4,hv4,hv26,hst⟩:=hI;subst hLL2;obtain⟨o2,o3,o4,o5,o26,o27,o28,o29,o30,o31,o32,o33,o34,o35,o36,o37,ar⟩:=ar.Iq rfl rfl rfl rfl;replace ar:=ar.dJ rfl rfl;obtain⟨o38,o39,o40,o41,o42,o43,o44,o45,ar⟩:=ar;replace ar:=ar.fI rfl;obtain⟨o46,ar⟩:=ar;replace ar:=ar.fI rfl;obtain⟨o47,ar⟩:=ar;obtain rfl:=ar.nil;clear ar;replace hv4:o4=some _:=hv4;subst hv4;replace hv26:o26=some _:=hv26;subst hv26;refine aj (ai rfl (vQ 1 rfl (nT (aj (aE rfl (fun h27=>?_) (fun h27=>?_))))))
    ·refine aF (ad (aj (aP (aj (ai rfl (vQ 2 rfl (nT (aj (aj (ai rfl (vQ 2 rfl ?_)))))))))));obtain⟨x31,hx31⟩:=cQ (show i<s.length from by have:=cA h27;rwa[bn] at this);refine aa rfl (iH (by kernel_rfl) rfl rfl hx31) rfl (vQ 1 rfl (aL rfl (al rfl) (fun _=>rfl) (fun h33=>?_) (fun h33=>?_)))
     ·refine vQ 5 rfl (nT (aC rfl (aj (ai rfl (vQ 2 rfl (nT (aB (au (aD (au (bC (aD (au (?_))))))))))))));exact bU rfl rfl rfl ⟨by rw[lB hne,he,pI hx31 (Dw h33)];rfl,hst⟩
     ·refine vQ 2 rfl (aa rfl (iH (by kernel_rfl) rfl rfl hx31) rfl (vQ 2 rfl (nT (aE rfl (fun h38=>?_) (fun h38=>?_)))))
      ·refine aj (ai rfl (vQ 2 rfl (nT (aB (au (aD (au (bC (aD (au (?_)))))))))));exact bU rfl rfl rfl ⟨by rw[lB hne,he,pI hx31 (Et h38)];rfl,hst⟩
      ·refine aF (ad (ai rfl (vQ 4 rfl (aa rfl (iH (by kernel_rfl) rfl rfl hx31) rfl (vQ 1 rfl ?_)))));refine aa rfl (fO (j:=.u8) (k:=.i64) (by kernel_rfl) (by kernel_rfl) (by kernel_rfl) rfl) rfl ?_;refine vQ 2 rfl (af (aK (ad (ai rfl (vQ 2 rfl (af ?_))))));refine aR ⟨j5-1,by have:=cA h27;omega,(by(iterate 50 refine bx.put rfl ?_);exact bx.refl _ _),i+1,10*m+(x31-48),by have:=cA h27;omega,he.trans (sH hx31 (nJ h33 h38)),by have:=nJ h33 h38;rw[Nat.pow_succ];omega,by have:=cA h27;have:=hl4;omega,congrArg (fun z=>some (AV.int .i64 z)) (D6 (nJ h33 h38) (by have:=zr i hi4;omega)),congrArg (fun z=>some (AV.int .i64 z)) (bl (by omega)),hst⟩
    ·refine bG (a9 (bj (aV (ad (aj (ai rfl (vQ 3 rfl (nT (aB ?_)))))))));exact bU rfl rfl rfl ⟨by rw[lB hne,he,uf (by have:=bz h27;rwa[bn] at this)];rfl,hst⟩
theorem F0 {G:Cx} (hG:Plain G) {K:KP}:∀(k:Nat) (x:XE) (vs:List AV) (p:AV),fC K p vs→vs.length=4→gX K k x vs→∀(deep size:Int) (b1 e1:Nat) (σ:av) (L:Own),St σ K ((b1,.row [.int .i64 size] e1 false)::L)→
  bc Tryz.prog G 164 [p,.int .i64 deep,.ptr b1 0] σ fun v σ'=>∃s',v= .bool (oS k x deep size).isSome∧St σ' K ((b1,.row [.int .i64 s'] e1 false)::L)∧∀s,oS k x deep size=some s→s'=s:=by
 intro k;induction k with
 | zero=>intro x vs p _ _ h;cases x;exact h.elim
 | succ k ih=>
 intro x vs p hp hl h deep size b1 e1 σ L hst;obtain⟨op,num,name,kids⟩:=x;obtain⟨v,rfl,hk⟩:=h;obtain⟨F,hF⟩:∃F:XE→Int→Option Int,F=fun x m=>oS k x (wr .i64 (Int.add deep 1)) m:=⟨_,rfl⟩
 have hS:oS (k+1) (.mk op num name kids) deep size=bif (bif cg 2000 (wr .i64 (Int.add size 1)) then true else cg 32 deep) then none else hM F kids (wr .i64 (Int.add size 1)):=by rw[hF];rfl
 rw[hS];clear hS;refine bg hG Tryz.func164 rfl (t:=((PT.leaf.put (some (p)) 0).put (some (.int .i64 deep)) 1).put (some (.ptr b1 0)) 2) (by rfl) (aj (ai rfl (vQ 1 rfl (nS rfl (vQ 1 rfl (aa rfl (dN rfl) rfl (aa rfl (Ja rfl (hst.get 0 rfl) rfl) rfl (vQ 1 rfl (aa rfl (dN rfl) rfl (bA hst rfl (I8 rfl rfl rfl (hst.get 0 rfl) (m:=1) rfl rfl (cells':=[_]) rfl) rfl (fun σ hst=>?_)))))))))));refine nT (aj (aj (ai rfl (vQ 1 rfl (aa rfl (dN rfl) rfl (aa rfl (Ja rfl (hst.get 0 rfl) rfl) rfl (vQ 1 rfl (aL rfl (al rfl) (fun _=>rfl) (fun h17=>?_) (fun h17=>?_)))))))))
 ·refine vQ 3 rfl (nT (aC rfl (aj (ai rfl (vQ 1 rfl (nT (aB (au (?_)))))))));exact ay rfl rfl ⟨_,by rw[h17];rfl,hst,fun s hs=>by rw[h17] at hs;cases hs⟩
 ·refine vQ 3 rfl (nT (aE rfl (fun h20=>?_) (fun h20=>?_)))
  ·refine aj (ai rfl (vQ 1 rfl (nT (aB (au (?_))))));exact ay rfl rfl ⟨_,by rw[h17,h20];rfl,hst,fun s hs=>by rw[h17,h20] at hs;cases hs⟩
  ·refine aF (ad (aj (aj (ai rfl (vQ 1 rfl (aa rfl (cW hp rfl) rfl (bK hp rfl rfl rfl (k:=3) (by kernel_rfl) (lb rfl) (fun _=>rfl) (fun p23 hp23=>?_))))))));refine aa rfl (IP hst hp23 rfl rfl) rfl (aa rfl (I1 hk rfl rfl rfl (e:=82) rfl) rfl (vQ 1 rfl (nT (aP (bE [6,7,26,27,28,29,30,31,32,33,34,35,36,37,38,39,40] (fun j t σ=>∃(i:Nat) (m:Int),j+i=kids.length∧hM F kids (wr .i64 (Int.add size 1))=hM F (kids.drop i) m∧t.get 26=some (.int .i64 (.ofNat i))∧St σ K ((b1,.row [.int .i64 m] e1 false)::L)) (kids.length) ⟨0,_,rfl,rfl,rfl,hst⟩ ?_)))));clear hst;intro j5 t σ ar hI;obtain⟨i,m,hj,he,hv26,hst⟩:=hI;obtain⟨o6,o7,o26,o27,o28,o29,o30,o31,o32,o33,o34,o35,o36,o37,o38,o39,ar⟩:=ar.Iq rfl rfl rfl rfl;replace ar:=ar.fI rfl;obtain⟨o40,ar⟩:=ar;obtain rfl:=ar.nil;clear ar;replace hv26:o26=some _:=hv26;subst hv26;refine aj (ai rfl (vQ 1 rfl (nT (aj (aE rfl (fun h27=>?_) (fun h27=>?_))))))
   ·refine aF (ad (aj (aP (aj (ai rfl (vQ 2 rfl (nS rfl (vQ 1 rfl (aa rfl (cW hp rfl) rfl (bK hp rfl rfl rfl (k:=3) (by kernel_rfl) (lb rfl) (fun _=>rfl) (fun p31 hp31=>?_)))))))))));refine aa rfl (IP hst hp31 rfl rfl) rfl (vQ 1 rfl ?_);obtain⟨x34,hx34,hi34⟩:=dG h27;refine Jb (e:=82) (m:=4) hk hx34 rfl rfl rfl rfl (fun _=>rfl) (fun p34 vs34 hp34 hl34 hr34=>?_);have hr34raw:=hr34;refine vQ 3 rfl (cI rfl (I5 rfl rfl rfl) (fun _=>rfl) (ih x34 _ _ hp34 hl34 hr34raw _ _ _ _ _ _ hst) ?_);rintro _ σ ⟨m2,rfl,hst,hm2⟩;refine aa rfl (dO rfl) rfl (nT (aE rfl (fun h39=>?_) (fun h39=>?_)))
    ·refine aj (ai rfl (vQ 1 rfl (nT (aB (aD (au (bC (aD (au (?_))))))))));exact ay rfl rfl ⟨_,by rw[h17,h20];show _=AV.bool (hM F kids _).isSome;rw[he,rK hx34 (by rw[hF];exact bQ h39)];rfl,hst,fun s hs=>by rw[h17,h20] at hs;rw[show hM F kids _=none from by rw[he];exact rK hx34 (by rw[hF];exact bQ h39)] at hs;cases hs⟩
    ·refine aF (aK (ad (ai rfl (vQ 2 rfl (af (aR ⟨j5-1,by omega,(by(iterate 33 refine bx.put rfl ?_);exact bx.refl _ _),i+1,m2,by omega,(by obtain⟨s,hs⟩:=Option.isSome_iff_exists.1 (aY h39);rw[he,yW hx34 (show F x34 m=some s from by rw[hF];exact hs),hm2 s hs]),congrArg (fun z=>some (AV.int .i64 z)) (bl (by have:=hk.bH;omega)),hst⟩))))))
   ·refine bG (a9 (bj (aV (ad (aj (ai rfl (vQ 1 rfl (nT (aB ?_)))))))));exact ay rfl rfl ⟨_,by rw[h17,h20];show _=AV.bool (hM F kids _).isSome;rw[he,sl (bz h27)];rfl,hst,fun s hs=>by rw[h17,h20] at hs;rw[show hM F kids _=some m from by rw[he];exact sl (bz h27)] at hs;cases hs;rfl⟩
theorem yF {G:Cx} (hG:Plain G) {K:KP} (aW:Int):∀(k:Nat) (x:XE) (vs:List AV) (p:AV),fC K p vs→vs.length=4→gX K k x vs→∀(σ:av) (L:Own),St σ K L→bc Tryz.prog G 218 [p,.int .i64 aW] σ fun v σ'=>v= .bool (fb aW k x)∧St σ' K L:=by
 intro k;induction k with
 | zero=>intro x vs p _ _ h;cases x;exact h.elim
 | succ k ih=>
 intro x vs p hp hl h σ L hst;obtain⟨op,num,name,kids⟩:=x;obtain⟨v,rfl,hk⟩:=h
 have hS:fb aW (k+1) (.mk op num name kids)=bif bm op 1 then(bif bk (cg num 0) then(bif qq name [] then bm (.ofNat kids.length) 0 else false) else false) else
  bif bm op 2 then(bif (mq name).isSome then(bif cg (HU (mq name)) aW then(bif bm num 0 then bm (.ofNat kids.length) 0 else false) else false) else false) else
  bif (bif (bif bm op 3 then true else bm op 4) then false else(bif cg op 5 then true else cg 16 op)) then false else
  bif (bif bk (bm num 0) then true else bif bk (qq name []) then true else bk (bm (.ofNat kids.length) (eG op))) then false else
  kids.all (fb aW k):=by show(bif bm op 1 then _ else bif bm op 2 then(match mq name with | some n=>_ | none=>false) else _)=_;cases mq name<;>rfl
 rw[hS];clear hS;have hE:qq name (List.map UInt8.toNat (ByteArray.mk #[]).data.toList)=qq name []:=rfl;refine bg hG Tryz.func218 rfl (t:=(PT.leaf.put (some (p)) 0).put (some (.int .i64 aW)) 1) (by rfl) (aj (ai rfl (vQ 1 rfl (nS rfl (vQ 1 rfl (nT (aj (aP (aj ?_)))))))));refine ai rfl (vQ 1 rfl (aa rfl (cW hp rfl) rfl (bK hp rfl rfl rfl (k:=0) (by kernel_rfl) (lb rfl) (fun _=>rfl) (fun p12 hp12=>?_))));refine aa rfl (IP hst hp12 rfl rfl) rfl (vQ 2 rfl (nT (aE rfl (fun h9=>?_) (fun h9=>?_))))
 ·refine aj (ai rfl (vQ 1 rfl (aa rfl (cW hp rfl) rfl (bK hp rfl rfl rfl (k:=1) (by kernel_rfl) (lb rfl) (fun _=>rfl) (fun p17 hp17=>?_)))));refine aa rfl (IP hst hp17 rfl rfl) rfl (vQ 1 rfl (aL rfl (al rfl) (fun _=>rfl) (fun h20=>?_) (fun h20=>?_)))
  ·refine vQ 1 rfl (aa rfl (cW hp rfl) rfl (bK hp rfl rfl rfl (k:=2) (by kernel_rfl) (lb rfl) (fun _=>rfl) (fun p23 hp23=>?_)));refine aa rfl (IP hst hp23 rfl rfl) rfl (vQ 2 rfl (aL rfl (al rfl) (fun _=>rfl) (fun h27=>?_) (fun h27=>?_)))
   ·refine vQ 1 rfl (aa rfl (cW hp rfl) rfl (bK hp rfl rfl rfl (k:=3) (by kernel_rfl) (lb rfl) (fun _=>rfl) (fun p30 hp30=>?_)));refine aa rfl (IP hst hp30 rfl rfl) rfl (aa rfl (I1 hk rfl rfl rfl (e:=82) rfl) rfl (vQ 3 rfl (nT (aB (aD (au (?_)))))));exact ay rfl rfl ⟨congrArg AV.bool (by simp only[bk,eG];(try rw[←hE]);simp only[h9,h20,h27,cond_true,cond_false];(first | done | rfl)),hst⟩
   ·refine vQ 8 rfl (nT (aB (aD (au (?_)))));exact ay rfl rfl ⟨congrArg AV.bool (by simp only[bk,eG];(try rw[←hE]);simp only[h9,h20,h27,cond_true,cond_false];(first | done | rfl)),hst⟩
  ·refine vQ 15 rfl (nT (aB (aD (au (?_)))));exact ay rfl rfl ⟨congrArg AV.bool (by simp only[bk,eG];(try rw[←hE]);simp only[h9,h20,cond_true,cond_false];(first | done | rfl)),hst⟩
 ·refine aj (ai rfl (vQ 1 rfl (aa rfl (cW hp rfl) rfl (bK hp rfl rfl rfl (k:=0) (by kernel_rfl) (lb rfl) (fun _=>rfl) (fun p38 hp38=>?_)))));refine aa rfl (IP hst hp38 rfl rfl) rfl (vQ 2 rfl (nT (aE rfl (fun h35=>?_) (fun h35=>?_))))
  ·refine aj (ai rfl (vQ 1 rfl (aa rfl (cW hp rfl) rfl (bK hp rfl rfl rfl (k:=2) (by kernel_rfl) (lb rfl) (fun _=>rfl) (fun p44 hp44=>?_)))));refine aa rfl (IP hst hp44 rfl rfl) rfl (bf rfl (I5 rfl rfl rfl) (fun _=>rfl) (AG hG _ hst) (fun σ hst=>?_));refine vQ 5 rfl (nS rfl (vQ 1 rfl (aL rfl (al rfl) (fun _=>rfl) (fun h50=>?_) (fun h50=>?_))))
   ·refine vQ 4 rfl (aL rfl (al rfl) (fun _=>rfl) (fun h55=>?_) (fun h55=>?_))
    ·refine vQ 1 rfl (aa rfl (cW hp rfl) rfl (bK hp rfl rfl rfl (k:=1) (by kernel_rfl) (lb rfl) (fun _=>rfl) (fun p58 hp58=>?_)));refine aa rfl (IP hst hp58 rfl rfl) rfl (vQ 2 rfl (aL rfl (al rfl) (fun _=>rfl) (fun h62=>?_) (fun h62=>?_)))
     ·refine vQ 1 rfl (aa rfl (cW hp rfl) rfl (bK hp rfl rfl rfl (k:=3) (by kernel_rfl) (lb rfl) (fun _=>rfl) (fun p65 hp65=>?_)));refine aa rfl (IP hst hp65 rfl rfl) rfl (aa rfl (I1 hk rfl rfl rfl (e:=82) rfl) rfl (vQ 3 rfl (nT (aB (aD (au (?_)))))));exact ay rfl rfl ⟨congrArg AV.bool (by simp only[bk,eG];(try rw[←hE]);simp only[h9,h35,h50,h55,h62,cond_true,cond_false];(first | done | rfl)),hst⟩
     ·refine vQ 8 rfl (nT (aB (aD (au (?_)))));exact ay rfl rfl ⟨congrArg AV.bool (by simp only[bk,eG];(try rw[←hE]);simp only[h9,h35,h50,h55,h62,cond_true,cond_false];(first | done | rfl)),hst⟩
    ·refine vQ 15 rfl (nT (aB (aD (au (?_)))));exact ay rfl rfl ⟨congrArg AV.bool (by simp only[bk,eG];(try rw[←hE]);simp only[h9,h35,h50,h55,cond_true,cond_false];(first | done | rfl)),hst⟩
   ·refine vQ 20 rfl (nT (aB (aD (au (?_)))));exact ay rfl rfl ⟨congrArg AV.bool (by simp only[bk,eG];(try rw[←hE]);simp only[h9,h35,h50,cond_true,cond_false];(first | done | rfl)),hst⟩
  ·refine aj (ai rfl (vQ 1 rfl (aa rfl (cW hp rfl) rfl (bK hp rfl rfl rfl (k:=0) (by kernel_rfl) (lb rfl) (fun _=>rfl) (fun p73 hp73=>?_)))));refine aa rfl (IP hst hp73 rfl rfl) rfl (vQ 1 rfl (aL rfl (al rfl) (fun _=>rfl) (fun h76=>?_) (fun h76=>?_)))
   ·refine vQ 7 rfl (nT (aC rfl (ai rfl (vQ 1 rfl (af (aK (ad (aj (aj (ai rfl (vQ 1 rfl (aa rfl (cW hp rfl) rfl ?_))))))))))));refine bK hp rfl rfl rfl (k:=1) (by kernel_rfl) (lb rfl) (fun _=>rfl) (fun p98 hp98=>?_);refine aa rfl (IP hst hp98 rfl rfl) rfl (vQ 1 rfl (aL rfl (al rfl) (fun _=>rfl) (fun h101=>?_) (fun h101=>?_)))
    ·refine vQ 15 rfl (nT (aC rfl (aj (ai rfl (vQ 1 rfl (nT (aB (au (?_)))))))));exact ay rfl rfl ⟨congrArg AV.bool (by simp only[bk,eG];(try rw[←hE]);simp only[h9,h35,h76,h101,cond_true,cond_false];(first | done | rfl)),hst⟩
    ·refine vQ 1 rfl (aa rfl (cW hp rfl) rfl (bK hp rfl rfl rfl (k:=2) (by kernel_rfl) (lb rfl) (fun _=>rfl) (fun p104 hp104=>?_)));refine aa rfl (IP hst hp104 rfl rfl) rfl (vQ 2 rfl (aL rfl (al rfl) (fun _=>rfl) (fun h108=>?_) (fun h108=>?_)))
     ·refine vQ 8 rfl (nT (aC rfl (aj (ai rfl (vQ 1 rfl (nT (aB (au (?_)))))))));exact ay rfl rfl ⟨congrArg AV.bool (by simp only[bk,eG];(try rw[←hE]);simp only[h9,h35,h76,h101,h108,cond_true,cond_false];(first | done | rfl)),hst⟩
     ·refine vQ 1 rfl (aa rfl (cW hp rfl) rfl (bK hp rfl rfl rfl (k:=3) (by kernel_rfl) (lb rfl) (fun _=>rfl) (fun p111 hp111=>?_)));refine aa rfl (IP hst hp111 rfl rfl) rfl (aa rfl (I1 hk rfl rfl rfl (e:=82) rfl) rfl (vQ 3 rfl (nT (aE rfl (fun h116=>?_) (fun h116=>?_)))))
      ·refine aj (ai rfl (vQ 1 rfl (nT (aB (au (?_))))));exact ay rfl rfl ⟨congrArg AV.bool (by simp only[bk,eG];(try rw[←hE]);simp only[h9,h35,h76,h101,h108,h116,cond_true,cond_false];(first | done | rfl)),hst⟩
      ·refine aF (ad (aj (aj (ai rfl (vQ 1 rfl (aa rfl (cW hp rfl) rfl (bK hp rfl rfl rfl (k:=3) (by kernel_rfl) (lb rfl) (fun _=>rfl) (fun p119 hp119=>?_))))))));refine aa rfl (IP hst hp119 rfl rfl) rfl (aa rfl (I1 hk rfl rfl rfl (e:=82) rfl) rfl (vQ 1 rfl (nT (aP ?_))));obtain⟨LL1,hst,hLL1⟩:=hst.named;refine bE [4,8,122,123,124,125,126,127,128,129,130,131,132,133,134] (fun j t σ=>∃(i:Nat),j+i=kids.length∧(kids.take i).all (fb aW k)=true∧t.get 122=some (.int .i64 (.ofNat i))∧St σ K LL1) (kids.length) ⟨0,rfl,rfl,rfl,hst⟩ ?_;clear hst;intro j14 t σ ar hI;obtain⟨i,hj,ha,hv122,hst⟩:=hI;subst hLL1;replace ar:=ar.dJ rfl rfl;obtain⟨o4,o8,o122,o123,o124,o125,o126,o127,ar⟩:=ar;replace ar:=ar.rO rfl;obtain⟨o128,o129,o130,o131,ar⟩:=ar;replace ar:=ar.fI rfl;obtain⟨o132,ar⟩:=ar;replace ar:=ar.fI rfl;obtain⟨o133,ar⟩:=ar;replace ar:=ar.fI rfl;obtain⟨o134,ar⟩:=ar;obtain rfl:=ar.nil;clear ar;replace hv122:o122=some _:=hv122;subst hv122;refine aj (ai rfl (vQ 1 rfl (nT (aj (aE rfl (fun h123=>?_) (fun h123=>?_))))))
       ·refine aF (ad (aj (aP (aj (ai rfl (vQ 2 rfl (nS rfl (vQ 1 rfl (aa rfl (cW hp rfl) rfl (bK hp rfl rfl rfl (k:=3) (by kernel_rfl) (lb rfl) (fun _=>rfl) (fun p127 hp127=>?_)))))))))));refine aa rfl (IP hst hp127 rfl rfl) rfl (vQ 1 rfl ?_);obtain⟨x130,hx130,hi130⟩:=dG h123;refine Jb (e:=82) (m:=4) hk hx130 rfl rfl rfl rfl (fun _=>rfl) (fun p130 vs130 hp130 hl130 hr130=>?_);have hr130raw:=hr130;refine vQ 1 rfl (bf rfl (I5 rfl rfl rfl) (fun _=>rfl) (ih x130 _ _ hp130 hl130 hr130raw _ _ hst) (fun σ hst=>?_));refine aa rfl (dO rfl) rfl (nT (aE rfl (fun h133=>?_) (fun h133=>?_)))
        ·refine aj (ai rfl (vQ 1 rfl (nT (aB (aD (au (bC (aD (au (?_))))))))));exact ay rfl rfl ⟨congrArg AV.bool (by rw[jF hx130 (bQ h133)];simp only[bk,eG];(try rw[←hE]);simp only[h9,h35,h76,h101,h108,h116,cond_true,cond_false];(first | done | rfl)),hst⟩
        ·refine aF (aK (ad (ai rfl (vQ 2 rfl (af (aR ⟨j14-1,by omega,(by(iterate 29 refine bx.put rfl ?_);exact bx.refl _ _),i+1,by omega,fT ha hx130 (aY h133),congrArg (fun z=>some (AV.int .i64 z)) (bl (by have:=hk.bH;omega)),hst⟩))))))
       ·refine bG (a9 (bj (aV (ad (aj (ai rfl (vQ 1 rfl (nT (aB ?_)))))))));exact ay rfl rfl ⟨congrArg AV.bool (by rw[ek ha (bz h123)];simp only[bk,eG];(try rw[←hE]);simp only[h9,h35,h76,h101,h108,h116,cond_true,cond_false];(first | done | rfl)),hst⟩
   ·refine vQ 1 rfl (aa rfl (cW hp rfl) rfl (bK hp rfl rfl rfl (k:=0) (by kernel_rfl) (lb rfl) (fun _=>rfl) (fun p79 hp79=>?_)));refine aa rfl (IP hst hp79 rfl rfl) rfl (vQ 3 rfl (nT (aE rfl (fun h70=>?_) (fun h70=>?_))))
    ·refine ai rfl (vQ 1 rfl (af (aK (ad (aj (aj (ai rfl (vQ 1 rfl (aa rfl (cW hp rfl) rfl (bK hp rfl rfl rfl (k:=1) (by kernel_rfl) (lb rfl) (fun _=>rfl) (fun p98 hp98=>?_)))))))))));refine aa rfl (IP hst hp98 rfl rfl) rfl (vQ 1 rfl (aL rfl (al rfl) (fun _=>rfl) (fun h101=>?_) (fun h101=>?_)))
     ·refine vQ 15 rfl (nT (aC rfl (aj (ai rfl (vQ 1 rfl (nT (aB (au (?_)))))))));exact ay rfl rfl ⟨congrArg AV.bool (by simp only[bk,eG];(try rw[←hE]);simp only[h9,h35,h76,h70,h101,cond_true,cond_false];(first | done | rfl)),hst⟩
     ·refine vQ 1 rfl (aa rfl (cW hp rfl) rfl (bK hp rfl rfl rfl (k:=2) (by kernel_rfl) (lb rfl) (fun _=>rfl) (fun p104 hp104=>?_)));refine aa rfl (IP hst hp104 rfl rfl) rfl (vQ 2 rfl (aL rfl (al rfl) (fun _=>rfl) (fun h108=>?_) (fun h108=>?_)))
      ·refine vQ 8 rfl (nT (aC rfl (aj (ai rfl (vQ 1 rfl (nT (aB (au (?_)))))))));exact ay rfl rfl ⟨congrArg AV.bool (by simp only[bk,eG];(try rw[←hE]);simp only[h9,h35,h76,h70,h101,h108,cond_true,cond_false];(first | done | rfl)),hst⟩
      ·refine vQ 1 rfl (aa rfl (cW hp rfl) rfl (bK hp rfl rfl rfl (k:=3) (by kernel_rfl) (lb rfl) (fun _=>rfl) (fun p111 hp111=>?_)));refine aa rfl (IP hst hp111 rfl rfl) rfl (aa rfl (I1 hk rfl rfl rfl (e:=82) rfl) rfl (vQ 3 rfl (nT (aE rfl (fun h116=>?_) (fun h116=>?_)))))
       ·refine aj (ai rfl (vQ 1 rfl (nT (aB (au (?_))))));exact ay rfl rfl ⟨congrArg AV.bool (by simp only[bk,eG];(try rw[←hE]);simp only[h9,h35,h76,h70,h101,h108,h116,cond_true,cond_false];(first | done | rfl)),hst⟩
       ·refine aF (ad (aj (aj (ai rfl (vQ 1 rfl (aa rfl (cW hp rfl) rfl (bK hp rfl rfl rfl (k:=3) (by kernel_rfl) (lb rfl) (fun _=>rfl) (fun p119 hp119=>?_))))))));refine aa rfl (IP hst hp119 rfl rfl) rfl (aa rfl (I1 hk rfl rfl rfl (e:=82) rfl) rfl (vQ 1 rfl (nT (aP ?_))));obtain⟨LL2,hst,hLL2⟩:=hst.named;refine bE [4,8,122,123,124,125,126,127,128,129,130,131,132,133,134] (fun j t σ=>∃(i:Nat),j+i=kids.length∧(kids.take i).all (fb aW k)=true∧t.get 122=some (.int .i64 (.ofNat i))∧St σ K LL2) (kids.length) ⟨0,rfl,rfl,rfl,hst⟩ ?_;clear hst;intro j14 t σ ar hI;obtain⟨i,hj,ha,hv122,hst⟩:=hI;subst hLL2;replace ar:=ar.dJ rfl rfl;obtain⟨o4,o8,o122,o123,o124,o125,o126,o127,ar⟩:=ar;replace ar:=ar.rO rfl;obtain⟨o128,o129,o130,o131,ar⟩:=ar;replace ar:=ar.fI rfl;obtain⟨o132,ar⟩:=ar;replace ar:=ar.fI rfl;obtain⟨o133,ar⟩:=ar;replace ar:=ar.fI rfl;obtain⟨o134,ar⟩:=ar;obtain rfl:=ar.nil;clear ar;replace hv122:o122=some _:=hv122;subst hv122;refine aj (ai rfl (vQ 1 rfl (nT (aj (aE rfl (fun h123=>?_) (fun h123=>?_))))))
        ·refine aF (ad (aj (aP (aj (ai rfl (vQ 2 rfl (nS rfl (vQ 1 rfl (aa rfl (cW hp rfl) rfl (bK hp rfl rfl rfl (k:=3) (by kernel_rfl) (lb rfl) (fun _=>rfl) (fun p127 hp127=>?_)))))))))));refine aa rfl (IP hst hp127 rfl rfl) rfl (vQ 1 rfl ?_);obtain⟨x130,hx130,hi130⟩:=dG h123;refine Jb (e:=82) (m:=4) hk hx130 rfl rfl rfl rfl (fun _=>rfl) (fun p130 vs130 hp130 hl130 hr130=>?_);have hr130raw:=hr130;refine vQ 1 rfl (bf rfl (I5 rfl rfl rfl) (fun _=>rfl) (ih x130 _ _ hp130 hl130 hr130raw _ _ hst) (fun σ hst=>?_));refine aa rfl (dO rfl) rfl (nT (aE rfl (fun h133=>?_) (fun h133=>?_)))
         ·refine aj (ai rfl (vQ 1 rfl (nT (aB (aD (au (bC (aD (au (?_))))))))));exact ay rfl rfl ⟨congrArg AV.bool (by rw[jF hx130 (bQ h133)];simp only[bk,eG];(try rw[←hE]);simp only[h9,h35,h76,h70,h101,h108,h116,cond_true,cond_false];(first | done | rfl)),hst⟩
         ·refine aF (aK (ad (ai rfl (vQ 2 rfl (af (aR ⟨j14-1,by omega,(by(iterate 29 refine bx.put rfl ?_);exact bx.refl _ _),i+1,by omega,fT ha hx130 (aY h133),congrArg (fun z=>some (AV.int .i64 z)) (bl (by have:=hk.bH;omega)),hst⟩))))))
        ·refine bG (a9 (bj (aV (ad (aj (ai rfl (vQ 1 rfl (nT (aB ?_)))))))));exact ay rfl rfl ⟨congrArg AV.bool (by rw[ek ha (bz h123)];simp only[bk,eG];(try rw[←hE]);simp only[h9,h35,h76,h70,h101,h108,h116,cond_true,cond_false];(first | done | rfl)),hst⟩
    ·refine aj (ai rfl (vQ 1 rfl (aa rfl (cW hp rfl) rfl (bK hp rfl rfl rfl (k:=0) (by kernel_rfl) (lb rfl) (fun _=>rfl) (fun p86 hp86=>?_)))));refine aa rfl (IP hst hp86 rfl rfl) rfl (vQ 1 rfl (aL rfl (al rfl) (fun _=>rfl) (fun h89=>?_) (fun h89=>?_)))
     ·refine vQ 7 rfl (nT (aC rfl (aj (ai rfl (vQ 1 rfl (nT (aB (aD (au (?_))))))))));exact ay rfl rfl ⟨congrArg AV.bool (by simp only[bk,eG];(try rw[←hE]);simp only[h9,h35,h76,h70,h89,cond_true,cond_false];(first | done | rfl)),hst⟩
     ·refine vQ 1 rfl (aa rfl (cW hp rfl) rfl (bK hp rfl rfl rfl (k:=0) (by kernel_rfl) (lb rfl) (fun _=>rfl) (fun p92 hp92=>?_)));refine aa rfl (IP hst hp92 rfl rfl) rfl (vQ 3 rfl (nT (aE rfl (fun h83=>?_) (fun h83=>?_))))
      ·refine aj (ai rfl (vQ 1 rfl (nT (aB (aD (au (?_)))))));exact ay rfl rfl ⟨congrArg AV.bool (by simp only[bk,eG];(try rw[←hE]);simp only[h9,h35,h76,h70,h89,h83,cond_true,cond_false];(first | done | rfl)),hst⟩
      ·refine aF (aK (ad (aj (aj (ai rfl (vQ 1 rfl (aa rfl (cW hp rfl) rfl (bK hp rfl rfl rfl (k:=1) (by kernel_rfl) (lb rfl) (fun _=>rfl) (fun p98 hp98=>?_)))))))));refine aa rfl (IP hst hp98 rfl rfl) rfl (vQ 1 rfl (aL rfl (al rfl) (fun _=>rfl) (fun h101=>?_) (fun h101=>?_)))
       ·refine vQ 15 rfl (nT (aC rfl (aj (ai rfl (vQ 1 rfl (nT (aB (au (?_)))))))));exact ay rfl rfl ⟨congrArg AV.bool (by simp only[bk,eG];(try rw[←hE]);simp only[h9,h35,h76,h70,h89,h83,h101,cond_true,cond_false];(first | done | rfl)),hst⟩
       ·refine vQ 1 rfl (aa rfl (cW hp rfl) rfl (bK hp rfl rfl rfl (k:=2) (by kernel_rfl) (lb rfl) (fun _=>rfl) (fun p104 hp104=>?_)));refine aa rfl (IP hst hp104 rfl rfl) rfl (vQ 2 rfl (aL rfl (al rfl) (fun _=>rfl) (fun h108=>?_) (fun h108=>?_)))
        ·refine vQ 8 rfl (nT (aC rfl (aj (ai rfl (vQ 1 rfl (nT (aB (au (?_)))))))));exact ay rfl rfl ⟨congrArg AV.bool (by simp only[bk,eG];(try rw[←hE]);simp only[h9,h35,h76,h70,h89,h83,h101,h108,cond_true,cond_false];(first | done | rfl)),hst⟩
        ·refine vQ 1 rfl (aa rfl (cW hp rfl) rfl (bK hp rfl rfl rfl (k:=3) (by kernel_rfl) (lb rfl) (fun _=>rfl) (fun p111 hp111=>?_)));refine aa rfl (IP hst hp111 rfl rfl) rfl (aa rfl (I1 hk rfl rfl rfl (e:=82) rfl) rfl (vQ 3 rfl (nT (aE rfl (fun h116=>?_) (fun h116=>?_)))))
         ·refine aj (ai rfl (vQ 1 rfl (nT (aB (au (?_))))));exact ay rfl rfl ⟨congrArg AV.bool (by simp only[bk,eG];(try rw[←hE]);simp only[h9,h35,h76,h70,h89,h83,h101,h108,h116,cond_true,cond_false];(first | done | rfl)),hst⟩
         ·refine aF (ad (aj (aj (ai rfl (vQ 1 rfl (aa rfl (cW hp rfl) rfl (bK hp rfl rfl rfl (k:=3) (by kernel_rfl) (lb rfl) (fun _=>rfl) (fun p119 hp119=>?_))))))));refine aa rfl (IP hst hp119 rfl rfl) rfl (aa rfl (I1 hk rfl rfl rfl (e:=82) rfl) rfl (vQ 1 rfl (nT (aP ?_))));obtain⟨LL3,hst,hLL3⟩:=hst.named;refine bE [4,8,122,123,124,125,126,127,128,129,130,131,132,133,134] (fun j t σ=>∃(i:Nat),j+i=kids.length∧(kids.take i).all (fb aW k)=true∧t.get 122=some (.int .i64 (.ofNat i))∧St σ K LL3) (kids.length) ⟨0,rfl,rfl,rfl,hst⟩ ?_;clear hst;intro j14 t σ ar hI;obtain⟨i,hj,ha,hv122,hst⟩:=hI;subst hLL3;replace ar:=ar.dJ rfl rfl;obtain⟨o4,o8,o122,o123,o124,o125,o126,o127,ar⟩:=ar;replace ar:=ar.rO rfl;obtain⟨o128,o129,o130,o131,ar⟩:=ar;replace ar:=ar.fI rfl;obtain⟨o132,ar⟩:=ar;replace ar:=ar.fI rfl;obtain⟨o133,ar⟩:=ar;replace ar:=ar.fI rfl;obtain⟨o134,ar⟩:=ar;obtain rfl:=ar.nil;clear ar;replace hv122:o122=some _:=hv122;subst hv122;refine aj (ai rfl (vQ 1 rfl (nT (aj (aE rfl (fun h123=>?_) (fun h123=>?_))))))
          ·refine aF (ad (aj (aP (aj (ai rfl (vQ 2 rfl (nS rfl (vQ 1 rfl (aa rfl (cW hp rfl) rfl (bK hp rfl rfl rfl (k:=3) (by kernel_rfl) (lb rfl) (fun _=>rfl) (fun p127 hp127=>?_)))))))))));refine aa rfl (IP hst hp127 rfl rfl) rfl (vQ 1 rfl ?_);obtain⟨x130,hx130,hi130⟩:=dG h123;refine Jb (e:=82) (m:=4) hk hx130 rfl rfl rfl rfl (fun _=>rfl) (fun p130 vs130 hp130 hl130 hr130=>?_);have hr130raw:=hr130;refine vQ 1 rfl (bf rfl (I5 rfl rfl rfl) (fun _=>rfl) (ih x130 _ _ hp130 hl130 hr130raw _ _ hst) (fun σ hst=>?_));refine aa rfl (dO rfl) rfl (nT (aE rfl (fun h133=>?_) (fun h133=>?_)))
           ·refine aj (ai rfl (vQ 1 rfl (nT (aB (aD (au (bC (aD (au (?_))))))))));exact ay rfl rfl ⟨congrArg AV.bool (by rw[jF hx130 (bQ h133)];simp only[bk,eG];(try rw[←hE]);simp only[h9,h35,h76,h70,h89,h83,h101,h108,h116,cond_true,cond_false];(first | done | rfl)),hst⟩
           ·refine aF (aK (ad (ai rfl (vQ 2 rfl (af (aR ⟨j14-1,by omega,(by(iterate 29 refine bx.put rfl ?_);exact bx.refl _ _),i+1,by omega,fT ha hx130 (aY h133),congrArg (fun z=>some (AV.int .i64 z)) (bl (by have:=hk.bH;omega)),hst⟩))))))
          ·refine bG (a9 (bj (aV (ad (aj (ai rfl (vQ 1 rfl (nT (aB ?_)))))))));exact ay rfl rfl ⟨congrArg AV.bool (by rw[ek ha (bz h123)];simp only[bk,eG];(try rw[←hE]);simp only[h9,h35,h76,h70,h89,h83,h101,h108,h116,cond_true,cond_false];(first | done | rfl)),hst⟩
def zL (h:jo):List AV:=[.bool h.sS,.bool h.loc,.bool h.order,.bool h.to,.int .i64 (.ofNat h.exprs)]
def wJ:List AV:=jm.flatMap zL
structure kb (G:Cx) (K:KP):Prop where
 gl:Nat.ble 1 G.gl=true
 sh:∃e ro,K (posOf 0) (.row wJ e ro)
theorem kb.mono {G:Cx} {K K':KP} (h:kb G K) (hk:KP.le K K'):kb G K':=⟨h.gl,let ⟨e,ro,hh⟩:=h.sh;⟨e,ro,hk _ _ hh⟩⟩
theorem ke {b c:Bool} (h:(!b)=c):(bif b then false else true)=c:=by cases b<;>exact h
theorem HE {n:Nat} {h:jo} (hh:jm[n]?=some h):List.take 5 (List.drop (0+n*5) wJ)=zL h:=by
 have hn:n<14:=(List.getElem?_eq_some_iff.1 hh).1
 match n,hn with
 | 0,_ | 1,_ | 2,_ | 3,_ | 4,_ | 5,_ | 6,_ | 7,_ | 8,_ | 9,_ | 10,_ | 11,_ | 12,_ | 13,_=>cases hh;rfl
theorem Hx {x:Int} (h1:cg x 1=false) (h2:cg 13 x=false):∃(n:Nat) (h:jo),x= .ofNat n∧n<14∧jm[n]?=some h:=by
 rw[eS,decide_eq_false_iff_not] at h1 h2;refine⟨x.toNat,jm[x.toNat]'(by show x.toNat<14;omega),by show x=((x.toNat:Nat):Int);omega,by omega,List.getElem?_eq_getElem _⟩
theorem Cg {aW nins:Int} {k n:Nat} {x:XI} {h:jo} (h1:cg x.kind 1=false) (h2:cg 13 x.kind=false) (hn:x.kind= .ofNat n) (hh:jm[n]?=some h):fP aW nins k x=fV aW nins k x h:=by
 unfold fP;rw[h1,h2,hn];show(match jm[n]? with | some h=>_ | none=>false)=_;rw[hh]
theorem FR {G:Cx} {t:PT AV} {g:Nat} (h:Nat.ble (Nat.succ g) G.gl=true):aX G t (.global g)=some (.ptr (posOf g) 0):=by
 show(bif Nat.ble (Nat.succ g) G.gl then _ else _)=_;rw[h];rfl
theorem E9 {G:Cx} (hG:Plain G) {K:KP} (hgl:kb G K) {k:Nat} {c:XC} {x:XI} {v:AV} {vs:List AV} {p:AV} (hi:bD K 6 (ga K k) c.ins v) (hp:fC K p vs) (h:ga K k x vs) {σ:av} {L:Own} (hst:St σ K L):
  bc Tryz.prog G 165 [.agg [.int .i64 c.aW,v],p] σ fun v σ'=>v= .bool (fP c.aW (.ofNat c.ins.length) k x)∧St σ' K L:=by
 obtain⟨w,rfl,hk⟩:=h;refine bg hG Tryz.func165 rfl (t:=(PT.leaf.put (some (.agg [.int .i64 c.aW,v])) 0).put (some (p)) 1) (by rfl) (aj (ai rfl (bu hst rfl (cY rfl rfl) (fun _=>rfl) (fun σ b1 hst=>?_))));refine vQ 1 rfl (nT (aj (aj (ai rfl (vQ 1 rfl (aa rfl (cW hp rfl) rfl (bK hp rfl rfl rfl (k:=0) (by kernel_rfl) (lb rfl) (fun _=>rfl) (fun p9 hp9=>?_))))))));refine aa rfl (IP hst hp9 rfl rfl) rfl (vQ 1 rfl (aL rfl (al rfl) (fun _=>rfl) (fun h12=>?_) (fun h12=>?_)))
 ·refine vQ 6 rfl (nT (aC rfl (aj (ai rfl (vQ 1 rfl (nT (aB (au (?_)))))))));exact ay rfl rfl ⟨congrArg AV.bool (by unfold fP;rw[h12];rfl),hst.pop⟩
 ·refine vQ 1 rfl (aa rfl (cW hp rfl) rfl (bK hp rfl rfl rfl (k:=0) (by kernel_rfl) (lb rfl) (fun _=>rfl) (fun p15 hp15=>?_)));refine aa rfl (IP hst hp15 rfl rfl) rfl (vQ 2 rfl (nT (aE rfl (fun h18=>?_) (fun h18=>?_))))
  ·refine aj (ai rfl (vQ 1 rfl (nT (aB (au (?_))))));exact ay rfl rfl ⟨congrArg AV.bool (by unfold fP;rw[h12,show cg 13 x.kind=true from h18];rfl),hst.pop⟩
  ·have h17x:cg 13 x.kind=false:=h18;refine aF (ad (aj (ai rfl (vQ 1 rfl (aa rfl (cW hp rfl) rfl (bK hp rfl rfl rfl (k:=0) (by kernel_rfl) (lb rfl) (fun _=>rfl) (fun p21 hp21=>?_)))))));refine aa rfl (IP hst hp21 rfl rfl) rfl ?_;obtain⟨kn,sh,hkn,hkl,hsh⟩:=Hx h12 h17x;obtain⟨eg,rog,hrow⟩:=hgl.sh;have hRX:=Cg (aW:=c.aW) (nins:=.ofNat c.ins.length) (k:=k) h12 h17x hkn hsh;refine aa rfl (qd (n:=14) (e:=264) (m:=5) (by kernel_rfl) (by kernel_rfl) (FR hgl.gl) (show _=some (AV.int .i64 (.ofNat kn)) from congrArg (fun z=>some (AV.int .i64 z)) hkn) hkl) rfl (aa rfl (aO rfl (hst.dX hrow) (n:=5) (vs:=zL sh) (by kernel_rfl) (by show 0+kn*5+5≤70;omega) (HE hsh)) rfl (bu hst rfl (IV (cs:=[.bool false,.bool false,.bool false,.bool false,.int .i64 0])) (fun _=>rfl) (fun σ b2 hst=>?_)));refine bA hst rfl (I8 rfl rfl rfl (hst.get 0 rfl) (m:=5) rfl rfl (cells':=[_,_,_,_,_]) rfl) rfl (fun σ hst=>?_);refine nT (aj (aj (aQ (l:=[(0,[]),(1,[]),(2,[]),(3,[]),(4,[]),(5,[]),(6,[]),(7,[]),(8,[]),(9,[]),(10,[]),(11,[]),(12,[]),(13,[]),(14,[]),(15,[]),(16,[]),(17,[]),(18,[]),(19,[]),(20,[]),(21,[]),(22,[]),(23,[]),(24,[]),(25,[]),(26,[]),(27,[]),(28,[]),(29,[]),(30,[]),(31,[]),(32,[]),(33,[]),(34,[]),(35,[]),(36,[]),(37,[]),(38,[]),(39,[]),(40,[]),(41,[]),(42,[])]) (by kernel_rfl) (by kernel_rfl) (wQ 1 rfl (an rfl rfl (cW hp rfl) rfl (jV hp rfl rfl rfl rfl (k:=1) (by kernel_rfl) (lb rfl) (fun _=>rfl) (fun p27 hp27=>?_)))))));refine an rfl rfl (IP hst hp27 rfl rfl) rfl (an rfl rfl (Jc 0 rfl) rfl (an rfl rfl (Ja rfl (hst.get 1 rfl) rfl) rfl (an rfl rfl (Jc 0 rfl) rfl (an rfl rfl (Ja rfl (hst.get 0 rfl) rfl) rfl (dw rfl rfl (I5 rfl rfl rfl) (fun _=>rfl) (qh hG _ _ _ _ hst) (fun σ hst=>?_))))));refine⟨ba,?_⟩;refine an rfl rfl (dO rfl) rfl (rR rfl rfl (al rfl) (fun _=>rfl) (fun h35=>?_) (fun h35=>?_))
   ·refine wQ 32 rfl (bh (ad (aC rfl (aj (ai rfl (vQ 1 rfl (nT (aB (au (?_))))))))));exact ay rfl rfl ⟨congrArg AV.bool (by rw[hRX];unfold fV;simp only[bk];simp only[ke h35,cond_true,cond_false];(first | done | rfl)),hst.pop.pop⟩
   ·refine wQ 1 rfl (an rfl rfl (cW hp rfl) rfl (jV hp rfl rfl rfl rfl (k:=2) (by kernel_rfl) (lb rfl) (fun _=>rfl) (fun p38 hp38=>?_)));refine an rfl rfl (IP hst hp38 rfl rfl) rfl (an rfl rfl (Jc 1 rfl) rfl (an rfl rfl (Ja rfl (hst.get 0 rfl) rfl) rfl (dw rfl rfl (I5 rfl rfl rfl) (fun _=>rfl) (qh hG _ _ _ _ hst) (fun σ hst=>?_))));refine⟨ba,?_⟩;refine an rfl rfl (dO rfl) rfl (wQ 1 rfl (rR rfl rfl (al rfl) (fun _=>rfl) (fun h45=>?_) (fun h45=>?_)))
    ·refine wQ 22 rfl (bh (ad (aC rfl (aj (ai rfl (vQ 1 rfl (nT (aB (au (?_))))))))));exact ay rfl rfl ⟨congrArg AV.bool (by rw[hRX];unfold fV;simp only[bk];simp only[ke h35,ke h45,cond_true,cond_false];(first | done | rfl)),hst.pop.pop⟩
    ·refine wQ 1 rfl (an rfl rfl (cW hp rfl) rfl (jV hp rfl rfl rfl rfl (k:=3) (by kernel_rfl) (lb rfl) (fun _=>rfl) (fun p48 hp48=>?_)));refine an rfl rfl (IP hst hp48 rfl rfl) rfl (an rfl rfl (Jc 2 rfl) rfl (an rfl rfl (Ja rfl (hst.get 0 rfl) rfl) rfl (dw rfl rfl (I5 rfl rfl rfl) (fun _=>rfl) (qh hG _ _ _ _ hst) (fun σ hst=>?_))));refine⟨ba,?_⟩;refine an rfl rfl (dO rfl) rfl (wQ 1 rfl (rR rfl rfl (al rfl) (fun _=>rfl) (fun h55=>?_) (fun h55=>?_)))
     ·refine wQ 12 rfl (bh (ad (aC rfl (aj (ai rfl (vQ 1 rfl (nT (aB (au (?_))))))))));exact ay rfl rfl ⟨congrArg AV.bool (by rw[hRX];unfold fV;simp only[bk];simp only[ke h35,ke h45,ke h55,cond_true,cond_false];(first | done | rfl)),hst.pop.pop⟩
     ·refine wQ 1 rfl (an rfl rfl (cW hp rfl) rfl (jV hp rfl rfl rfl rfl (k:=4) (by kernel_rfl) (lb rfl) (fun _=>rfl) (fun p58 hp58=>?_)));refine an rfl rfl (IP hst hp58 rfl rfl) rfl (an rfl rfl (Jc 1 rfl) rfl (an rfl rfl (Ja rfl (hst.get 1 rfl) rfl) rfl (an rfl rfl (I1 hi rfl rfl rfl (e:=79) rfl) rfl (an rfl rfl (Jc 3 rfl) rfl (an rfl rfl (Ja rfl (hst.get 0 rfl) rfl) rfl (dw rfl rfl (I5 rfl rfl rfl) (fun _=>rfl) (qh hG _ _ _ _ hst) (fun σ hst=>?_)))))));refine⟨ba,?_⟩;refine an rfl rfl (dO rfl) rfl (wQ 1 rfl (bh (ad (aE rfl (fun h67=>?_) (fun h67=>?_)))))
      ·refine aj (ai rfl (vQ 1 rfl (nT (aB (au (?_))))));exact ay rfl rfl ⟨congrArg AV.bool (by rw[hRX];unfold fV;simp only[bk];simp only[ke h35,ke h45,ke h55,ke h67,cond_true,cond_false];(first | done | rfl)),hst.pop.pop⟩
      ·refine aF (ad (aj (aj (aQ (l:=[(0,[]),(1,[]),(2,[]),(3,[]),(4,[]),(5,[]),(6,[]),(7,[])]) (by kernel_rfl) (by kernel_rfl) (wQ 1 rfl (an rfl rfl (cW hp rfl) rfl (jV hp rfl rfl rfl rfl (k:=5) (by kernel_rfl) (lb rfl) (fun _=>rfl) (fun p70 hp70=>?_))))))));refine an rfl rfl (IP hst hp70 rfl rfl) rfl (an rfl rfl (I1 hk rfl rfl rfl (e:=82) rfl) rfl (an rfl rfl (Jc 4 rfl) rfl (an rfl rfl (Ja rfl (hst.get 0 rfl) rfl) rfl (wQ 1 rfl (bh (ad (aE rfl (fun h75=>?_) (fun h75=>?_))))))))
       ·refine aj (ai rfl (vQ 1 rfl (nT (aB (au (?_))))));exact ay rfl rfl ⟨congrArg AV.bool (by rw[hRX];unfold fV;simp only[bk];simp only[ke h35,ke h45,ke h55,ke h67,h75,cond_true,cond_false];(first | done | rfl)),hst.pop.pop⟩
       ·refine aF (ad (aj (aj (ai rfl (vQ 1 rfl (aa rfl (cW hp rfl) rfl (bK hp rfl rfl rfl (k:=5) (by kernel_rfl) (lb rfl) (fun _=>rfl) (fun p78 hp78=>?_))))))));refine aa rfl (IP hst hp78 rfl rfl) rfl (aa rfl (I1 hk rfl rfl rfl (e:=82) rfl) rfl (vQ 1 rfl (nT (aP ?_))));obtain⟨LL1,hst,hLL1⟩:=hst.named;refine bE [4,6,81,82,83,84,85,86,87,88,89,90,91,92,93,94] (fun j t σ=>∃(i:Nat),j+i=x.exprs.length∧(x.exprs.take i).all (fb c.aW k)=true∧t.get 81=some (.int .i64 (.ofNat i))∧St σ K LL1) (x.exprs.length) ⟨0,rfl,rfl,rfl,hst⟩ ?_;clear hst;intro j9 t σ ar hI;obtain⟨i,hj,ha,hv81,hst⟩:=hI;subst hLL1;obtain⟨o4,o6,o81,o82,o83,o84,o85,o86,o87,o88,o89,o90,o91,o92,o93,o94,ar⟩:=ar.Iq rfl rfl rfl rfl;obtain rfl:=ar.nil;clear ar;replace hv81:o81=some _:=hv81;subst hv81;refine aj (ai rfl (vQ 1 rfl (nT (aj (aE rfl (fun h82=>?_) (fun h82=>?_))))))
        ·refine aF (ad (aj (aP (aj (ai rfl (vQ 2 rfl (nT (aj (aQ (l:=[(0,[]),(1,[]),(2,[]),(3,[]),(4,[]),(5,[]),(6,[]),(7,[]),(8,[]),(9,[])]) (by kernel_rfl) (by kernel_rfl) (wQ 1 rfl (an rfl rfl (cW hp rfl) rfl (jV hp rfl rfl rfl rfl (k:=5) (by kernel_rfl) (lb rfl) (fun _=>rfl) (fun p86 hp86=>?_)))))))))))));refine an rfl rfl (IP hst hp86 rfl rfl) rfl (wQ 1 rfl ?_);obtain⟨x89,hx89,hi89⟩:=dG h82;refine Jf (e:=82) (m:=4) hk hx89 rfl rfl rfl rfl rfl (fun _=>rfl) (fun p89 vs89 hp89 hl89 hr89=>?_);have hr89rawx:=hr89;refine an rfl rfl (Jc 0 rfl) rfl (an rfl rfl (Ja rfl (hst.get 1 rfl) rfl) rfl (dw rfl rfl (I5 rfl rfl rfl) (fun _=>rfl) (yF hG _ _ _ _ _ hp89 hl89 hr89rawx _ _ hst) (fun σ hst=>?_)));refine⟨ba,?_⟩;refine an rfl rfl (dO rfl) rfl (bh (ad (aE rfl (fun h93=>?_) (fun h93=>?_))))
         ·refine aj (ai rfl (vQ 1 rfl (nT (aB (aD (au (bC (aD (au (?_))))))))));exact ay rfl rfl ⟨congrArg AV.bool (by rw[hRX];unfold fV;rw[jF hx89 (mJ h93)];simp only[bk];simp only[ke h35,ke h45,ke h55,ke h67,h75,cond_true,cond_false];(first | done | rfl)),hst.pop.pop⟩
         ·refine aF (aK (ad (ai rfl (vQ 2 rfl (af (aR ⟨j9-1,by omega,(by(iterate 31 refine bx.put rfl ?_);exact bx.refl _ _),i+1,by omega,fT ha hx89 (gq h93),congrArg (fun z=>some (AV.int .i64 z)) (bl (by have:=hk.bH;omega)),hst⟩))))))
        ·refine bG (a9 (bj (aV (ad (aj (ai rfl (vQ 1 rfl (nT (aB ?_)))))))));exact ay rfl rfl ⟨congrArg AV.bool (by rw[hRX];unfold fV;rw[ek ha (bz h82)];simp only[bk];simp only[ke h35,ke h45,ke h55,ke h67,h75,cond_true,cond_false];(first | done | rfl)),hst.pop.pop⟩
theorem qC {G:Cx} (hG:Plain G) {K:KP} (hgl:kb G K) {k:Nat} {c:XC} {v:AV} (hi:bD K 6 (ga K k) c.ins v) {σ:av} {L:Own} (hst:St σ K L):
  bc Tryz.prog G 112 [.agg [.int .i64 c.aW,v]] σ fun v σ'=>v= .int .i64 (db k c)∧St σ' K L:=by
 refine bg hG Tryz.func112 rfl (t:=PT.leaf.put (some (.agg [.int .i64 c.aW,v])) 0) (by rfl) (aj (ai rfl (bu hst rfl (cY rfl rfl) (fun _=>rfl) (fun σ b1 hst=>?_))));refine vQ 1 rfl (nT (aj (aj (ai rfl (aa rfl (Jc 0 rfl) rfl (aa rfl (Ja rfl (hst.get 0 rfl) rfl) rfl (vQ 1 rfl (aL rfl (al rfl) (fun _=>rfl) (fun h10=>?_) (fun h10=>?_)))))))))
 ·refine vQ 5 rfl (nT (aC rfl (aj (ai rfl (vQ 1 rfl (nT (aB (au (?_)))))))));exact ay rfl rfl ⟨congrArg (AV.int .i64) (by symm;unfold db;rw[h10];rfl),hst.pop⟩
 ·refine aa rfl (Jc 1 rfl) rfl (aa rfl (Ja rfl (hst.get 0 rfl) rfl) rfl (aa rfl (I1 hi rfl rfl rfl (e:=79) rfl) rfl (vQ 2 rfl (nT (aE rfl (fun h15=>?_) (fun h15=>?_))))))
  ·refine aj (ai rfl (vQ 1 rfl (nT (aB (au (?_))))));exact ay rfl rfl ⟨congrArg (AV.int .i64) (by symm;unfold db;rw[h10,show cg 4000 (.ofNat c.ins.length)=true from h15];rfl),hst.pop⟩
  ·have h15x:cg 4000 (.ofNat c.ins.length)=false:=h15;refine aF (ad (aj (aj (ai rfl (aa rfl (Jc 1 rfl) rfl (aa rfl (Ja rfl (hst.get 0 rfl) rfl) rfl (aa rfl (I1 hi rfl rfl rfl (e:=79) rfl) rfl (vQ 1 rfl (nT (aP ?_))))))))));obtain⟨LL1,hst,hLL1⟩:=hst.named;refine bE [2,3,4,5,19,20,21,22,23,24,25,26,27,28,29,30,31,32,33,34,35,36,37,38,39,40,41,42,43] (fun j t σ=>∃(i:Nat),j+i=c.ins.length∧(c.ins.take i).all (ui k)=true∧t.get 19=some (.int .i64 (.ofNat i))∧St σ K LL1) (c.ins.length) ⟨0,rfl,rfl,rfl,hst⟩ ?_;clear hst;intro j4 t σ ar hI;obtain⟨i,hj4,ha4,hv19,hst⟩:=hI;subst hLL1;obtain⟨o2,o3,o4,o5,o19,o20,o21,o22,o23,o24,o25,o26,o27,o28,o29,o30,ar⟩:=ar.Iq rfl rfl rfl rfl;replace ar:=ar.dJ rfl rfl;obtain⟨o31,o32,o33,o34,o35,o36,o37,o38,ar⟩:=ar;replace ar:=ar.rO rfl;obtain⟨o39,o40,o41,o42,ar⟩:=ar;replace ar:=ar.fI rfl;obtain⟨o43,ar⟩:=ar;obtain rfl:=ar.nil;clear ar;replace hv19:o19=some _:=hv19;subst hv19;refine aj (ai rfl (vQ 1 rfl (nT (aj (aE rfl (fun h20=>?_) (fun h20=>?_))))))
   ·refine aF (ad (aj (aP (aj (ai rfl (vQ 2 rfl (nS rfl (aa rfl (Jc 1 rfl) rfl (aa rfl (Ja rfl (hst.get 0 rfl) rfl) rfl (vQ 1 rfl ?_))))))))));obtain⟨x25,hx25,hi25⟩:=dG h20;refine Jb (e:=79) (m:=6) hi hx25 rfl rfl rfl rfl (fun _=>rfl) (fun p25 vs25 hp25 hl25 hr25=>?_);have hr25rawx:=hr25;have hr25':=hr25;obtain⟨v25,rfl,hk25⟩:=hr25';refine bK hp25 rfl rfl rfl (k:=5) (by kernel_rfl) (lb rfl) (fun _=>rfl) (fun p26 hp26=>?_);refine aa rfl (IP hst hp26 rfl rfl) rfl (aa rfl (I1 hk25 rfl rfl rfl (e:=82) rfl) rfl (vQ 1 rfl (nT (aP ?_))));obtain⟨LL2,hst,hLL2⟩:=hst.named;refine bE [2,4,5,29,30,31,32,33,34,35,36,37,38,39,40,41,42] (fun j t σ=>∃(i2:Nat),j+i2=x25.exprs.length∧(x25.exprs.take i2).all (fun e=>(oS k e 1 0).isSome)=true∧t.get 29=some (.int .i64 (.ofNat i2))∧St σ K LL2) (x25.exprs.length) ⟨0,rfl,rfl,rfl,hst⟩ ?_;clear hst;intro j7 t σ ar hI;obtain⟨i2,hj7,ha7,hv29,hst⟩:=hI;subst hLL2;obtain⟨o2,o4,o5,o29,o30,o31,o32,o33,o34,o35,o36,o37,o38,o39,o40,o41,ar⟩:=ar.Iq rfl rfl rfl rfl;replace ar:=ar.fI rfl;obtain⟨o42,ar⟩:=ar;obtain rfl:=ar.nil;clear ar;replace hv29:o29=some _:=hv29;subst hv29;refine aj (ai rfl (vQ 1 rfl (nT (aj (aE rfl (fun h30=>?_) (fun h30=>?_))))))
    ·refine aF (ad (aj (aP (aj (ai rfl (vQ 2 rfl (nS rfl (bu hst rfl (IV (cs:=[.int .i64 0])) (fun _=>rfl) (fun σ b2 hst=>?_)))))))));refine bA hst rfl (I8 rfl rfl rfl (hst.get 0 rfl) (m:=1) rfl rfl (cells':=[_]) rfl) rfl (fun σ hst=>?_);refine nS rfl (aa rfl (Jc 1 rfl) rfl (aa rfl (Ja rfl (hst.get 1 rfl) rfl) rfl (vQ 1 rfl (Jb (e:=79) (m:=6) hi hx25 rfl rfl rfl rfl (fun _=>rfl) (fun p35 vs35 hp35 hl35 hr35=>?_)))));have hr35rawx:=hr35;have hr35':=hr35;obtain⟨v35,rfl,hk35⟩:=hr35';refine bK hp35 rfl rfl rfl (k:=5) (by kernel_rfl) (lb rfl) (fun _=>rfl) (fun p36 hp36=>?_);refine aa rfl (IP hst hp36 rfl rfl) rfl (vQ 1 rfl ?_);obtain⟨x39,hx39,hi39⟩:=dG h30;refine Jb (e:=82) (m:=4) hk35 hx39 rfl rfl rfl rfl (fun _=>rfl) (fun p39 vs39 hp39 hl39 hr39=>?_);have hr39rawx:=hr39;refine cI rfl (I5 rfl rfl rfl) (fun _=>rfl) (F0 hG _ _ _ _ hp39 hl39 hr39rawx _ _ _ _ _ _ hst) ?_;rintro _ σ ⟨m2,rfl,hst,hm2⟩;refine aa rfl (dO rfl) rfl (nT (aE rfl (fun h41=>?_) (fun h41=>?_)))
     ·refine aj (ai rfl (vQ 1 rfl (nT (aB (aD (au (bC (aD (aD (au (bC (aD (au (?_))))))))))))));exact ay rfl rfl ⟨congrArg (AV.int .i64) (by symm;unfold db;rw[h10,show cg 4000 (.ofNat c.ins.length)=false from h15x,jF hx25 (show ui k x25=false from jF hx39 (mJ h41))];rfl),hst.pop.pop⟩
     ·refine aF (aK (ad (ai rfl (vQ 2 rfl (af ?_)))));have hst:=hst.pop;refine aR ⟨j7-1,by omega,(by(iterate 33 refine bx.put rfl ?_);exact bx.refl _ _),i2+1,by omega,fT ha7 hx39 (gq h41),congrArg (fun z=>some (AV.int .i64 z)) (bl (by have:=hk25.bH;omega)),hst⟩
    ·refine bG (a9 (bj (aV (aK (ad (ai rfl (vQ 2 rfl (af (aR ⟨j4-1,by omega,(by(iterate 60 refine bx.put rfl ?_);exact bx.refl _ _),i+1,by omega,fT ha4 hx25 (show ui k x25=true from ek ha7 (bz h30)),congrArg (fun z=>some (AV.int .i64 z)) (bl (by have:=hi.bH;omega)),hst⟩)))))))))
   ·refine bG (a9 (bj (aV (ad (aj (aj (ai rfl (aa rfl (Jc 0 rfl) rfl (aa rfl (Ja rfl (hst.get 0 rfl) rfl) rfl (vQ 1 rfl (aL rfl (al rfl) (fun _=>rfl) (fun h47=>?_) (fun h47=>?_))))))))))))
    ·refine vQ 5 rfl (nT (aC rfl (aj (ai rfl (vQ 1 rfl (nT (aB (au (?_)))))))));exact ay rfl rfl ⟨congrArg (AV.int .i64) (by symm;unfold db;rw[h10,show cg 4000 (.ofNat c.ins.length)=false from h15x,ek ha4 (bz h20),h47];rfl),hst.pop⟩
    ·refine aa rfl (Jc 1 rfl) rfl (aa rfl (Ja rfl (hst.get 0 rfl) rfl) rfl (aa rfl (I1 hi rfl rfl rfl (e:=79) rfl) rfl (vQ 2 rfl (nT (aE rfl (fun h52=>?_) (fun h52=>?_))))))
     ·refine aj (ai rfl (vQ 1 rfl (nT (aB (au (?_))))));exact ay rfl rfl ⟨congrArg (AV.int .i64) (by symm;unfold db;rw[h10,show cg 4000 (.ofNat c.ins.length)=false from h15x,ek ha4 (bz h20),h47,show bm (.ofNat c.ins.length) 0=true from h52];rfl),hst.pop⟩
     ·have h52x:bm (.ofNat c.ins.length) 0=false:=h52;refine aF (ad (aj (aj (ai rfl (aa rfl (Jc 1 rfl) rfl (aa rfl (Ja rfl (hst.get 0 rfl) rfl) rfl (aa rfl (I1 hi rfl rfl rfl (e:=79) rfl) rfl (vQ 1 rfl (nT (aP ?_))))))))));obtain⟨LL3,hst,hLL3⟩:=hst.named;refine bE [2,6,56,57,58,59,60,61,62,63,64,65,66] (fun j t σ=>∃(i:Nat),j+i=c.ins.length∧(c.ins.take i).all (fP c.aW (.ofNat c.ins.length) k)=true∧t.get 56=some (.int .i64 (.ofNat i))∧St σ K LL3) (c.ins.length) ⟨0,rfl,rfl,rfl,hst⟩ ?_;clear hst;intro j17 t σ ar hI;obtain⟨i,hj17,ha17,hv56,hst⟩:=hI;subst hLL3;replace ar:=ar.dJ rfl rfl;obtain⟨o2,o6,o56,o57,o58,o59,o60,o61,ar⟩:=ar;replace ar:=ar.rO rfl;obtain⟨o62,o63,o64,o65,ar⟩:=ar;replace ar:=ar.fI rfl;obtain⟨o66,ar⟩:=ar;obtain rfl:=ar.nil;clear ar;replace hv56:o56=some _:=hv56;subst hv56;refine aj (ai rfl (vQ 1 rfl (nT (aj (aE rfl (fun h57=>?_) (fun h57=>?_))))))
      ·refine aF (ad (aj (aP (aj (ai rfl (vQ 2 rfl (nT (aj (aQ (l:=[(0,[]),(1,[]),(2,[]),(3,[]),(4,[]),(5,[]),(6,[])]) (by kernel_rfl) (by kernel_rfl) (an rfl rfl (IT rfl (hst.get 0 rfl) (n:=2) (vs:=[_,_]) rfl) rfl (an rfl rfl (Jc 1 rfl) rfl (an rfl rfl (Ja rfl (hst.get 0 rfl) rfl) rfl ?_))))))))))));refine wQ 1 rfl ?_;obtain⟨x63,hx63,hi63⟩:=dG h57;refine Jf (e:=79) (m:=6) hi hx63 rfl rfl rfl rfl rfl (fun _=>rfl) (fun p63 vs63 hp63 hl63 hr63=>?_);have hr63rawx:=hr63;have hr63':=hr63;obtain⟨v63,rfl,hk63⟩:=hr63';refine dw rfl rfl (I5 rfl rfl rfl) (fun _=>rfl) (E9 hG hgl hi hp63 hr63rawx hst) (fun σ hst=>?_);refine⟨ba,?_⟩;refine an rfl rfl (dO rfl) rfl (bh (ad (aE rfl (fun h65=>?_) (fun h65=>?_))))
       ·refine aj (ai rfl (vQ 1 rfl (nT (aB (aD (au (bC (aD (au (?_))))))))));exact ay rfl rfl ⟨congrArg (AV.int .i64) (by symm;unfold db;rw[h10,show cg 4000 (.ofNat c.ins.length)=false from h15x,ek ha4 (bz h20),h47,show bm (.ofNat c.ins.length) 0=false from h52x,jF hx63 (mJ h65)];rfl),hst.pop⟩
       ·refine aF (aK (ad (ai rfl (vQ 2 rfl (af (aR ⟨j17-1,by omega,(by(iterate 25 refine bx.put rfl ?_);exact bx.refl _ _),i+1,by omega,fT ha17 hx63 (gq h65),congrArg (fun z=>some (AV.int .i64 z)) (bl (by have:=hi.bH;omega)),hst⟩))))))
      ·refine bG (a9 (bj (aV (ad (aj (aj (ai rfl (aa rfl (Jc 1 rfl) rfl (aa rfl (Ja rfl (hst.get 0 rfl) rfl) rfl (aa rfl (Jc 1 rfl) rfl (aa rfl (Ja rfl (hst.get 0 rfl) rfl) rfl (aa rfl (I1 hi rfl rfl rfl (e:=79) rfl) rfl (vQ 1 rfl ?_)))))))))))));have hpos:0<c.ins.length:=by rcases Nat.eq_zero_or_pos c.ins.length with e | e;rw[e] at h52x;cases h52x;exact e
       obtain⟨x73,hx73⟩:=cQ (show c.ins.length-1<c.ins.length from by omega);refine Jb (e:=79) (m:=6) hi hx73 rfl rfl rfl (congrArg (fun z=>some (AV.int .i64 z)) (kH (b:=1) (by omega) hi.bH)) (fun _=>rfl) (fun p73 vs73 hp73 hl73 hr73=>?_);have hr73rawx:=hr73;have hr73':=hr73;obtain⟨v73,rfl,hk73⟩:=hr73';refine bK hp73 rfl rfl rfl (k:=0) (by kernel_rfl) (lb rfl) (fun _=>rfl) (fun p74 hp74=>?_);refine aa rfl (IP hst hp74 rfl rfl) rfl (nT (aP (aj (aj (ai rfl (aL rfl (aA rfl rfl rfl) (fun _=>rfl) (fun h77=>?_) (fun h77=>?_)))))))
       ·refine vQ 1 rfl (nT (aC rfl (aF (ad (aC rfl (aj (ai rfl (vQ 1 rfl (nT (aB (aD (au (?_)))))))))))));exact ay rfl rfl ⟨congrArg (AV.int .i64) (by symm;unfold db;rw[h10,show cg 4000 (.ofNat c.ins.length)=false from h15x,ek ha4 (bz h20),h47,show bm (.ofNat c.ins.length) 0=false from h52x,ek ha17 (bz h57),hx73];show(bif ib x73 then(0:Int) else 2)=_;unfold ib;rw[h77];rfl),hst.pop⟩
       ·refine vQ 1 rfl (nT (aJ rfl (aj (ai rfl (aL rfl (aA rfl rfl rfl) (fun _=>rfl) (fun h78=>?_) (fun h78=>?_))))))
        ·refine vQ 1 rfl (nT (aC rfl (aF (ad (aC rfl (aj (ai rfl (vQ 1 rfl (nT (aB (aD (au (?_)))))))))))));exact ay rfl rfl ⟨congrArg (AV.int .i64) (by symm;unfold db;rw[h10,show cg 4000 (.ofNat c.ins.length)=false from h15x,ek ha4 (bz h20),h47,show bm (.ofNat c.ins.length) 0=false from h52x,ek ha17 (bz h57),hx73];show(bif ib x73 then(0:Int) else 2)=_;unfold ib;rw[h77,h78];rfl),hst.pop⟩
        ·refine vQ 1 rfl (nT (aJ rfl (ai rfl (aL rfl (aA rfl rfl rfl) (fun _=>rfl) (fun h79=>?_) (fun h79=>?_)))))
         ·refine vQ 1 rfl (nT (aC rfl (aj (ai rfl (vQ 1 rfl (nT (aB (aD (au (?_))))))))));exact ay rfl rfl ⟨congrArg (AV.int .i64) (by symm;unfold db;rw[h10,show cg 4000 (.ofNat c.ins.length)=false from h15x,ek ha4 (bz h20),h47,show bm (.ofNat c.ins.length) 0=false from h52x,ek ha17 (bz h57),hx73];show(bif ib x73 then(0:Int) else 2)=_;unfold ib;rw[h77,h78,h79];rfl),hst.pop⟩
         ·refine vQ 1 rfl (nT (aJ rfl (aF (aK (ad (aj (ai rfl (vQ 1 rfl (nT (aB ?_))))))))));exact ay rfl rfl ⟨congrArg (AV.int .i64) (by symm;unfold db;rw[h10,show cg 4000 (.ofNat c.ins.length)=false from h15x,ek ha4 (bz h20),h47,show bm (.ofNat c.ins.length) 0=false from h52x,ek ha17 (bz h57),hx73];show(bif ib x73 then(0:Int) else 2)=_;unfold ib;rw[h77,h78,h79];rfl),hst.pop⟩
end Go.Ev
namespace Go.Ev
variable [Env]
noncomputable def Hk:List Int→List Int→Int
 | x::l,y::m=>bif bm (G6 x y) 0 then Hk l m else G6 x y
 | _,_=>0
def ic (A B:List Int) (c:Int):Prop:=∀l m,Hk (A++l) (B++m)=bif bm c 0 then Hk l m else c
theorem ic.nil:ic [] [] 0:=fun _ _=>rfl
theorem ic.one (x y:Int):ic [x] [y] (G6 x y):=fun _ _=>rfl
theorem ic.app {A B A' B':List Int} {c c':Int} (h:ic A B c) (h':c=0→ic A' B' c'):ic (A++A') (B++B') (bif bm c 0 then c' else c):=fun l m=>by
 rw[List.append_assoc,List.append_assoc,h];simp only[HD]
 by_cases hc:c=0
 ·simp only[hc,if_true];rw[h' hc];simp only[HD]
 ·simp only[hc,if_false]
theorem ic.rows {α:Type} {enc:α→List Int} {c:α→α→Int}:∀{ls ms:List α},ls.length=ms.length→(∀(i:Nat) (x y:α),ls[i]?=some x→ms[i]?=some y→ic (enc x) (enc y) (c x y))→ic (ls.flatMap enc) (ms.flatMap enc) (Hu c ls ms)
 | [],[],_,_=>ic.nil
 | [],_::_,h,_=>by cases h
 | _::_,[],h,_=>by cases h
 | x::ls,y::ms,h,hc=>by
  rw[List.flatMap_cons,List.flatMap_cons];exact(hc 0 x y rfl rfl).app fun _=>ic.rows (by simpa using h) fun i x y h1 h2=>hc (i+1) x y (by simpa using h1) (by simpa using h2)
theorem ints_at {xs:List Int} {i:Nat} {x:Int} (h:xs[i]?=some x):(ints xs)[i]?=some (.int .i64 x):=by
 unfold ints;rw[List.getElem?_map,h];rfl
theorem eu {K:KP} {xs:List Int} {vb e:Nat} (h:K vb (.row (ints xs) e false)) (hn:xs.length≤1000):bD K 1 dI xs (.slice vb 0 xs.length (.known xs.length)):=by
 refine .inr ⟨vb,0,_,_,e,false,rfl,.inr ⟨_,rfl,Nat.le_refl _⟩,h,?_,by omega,fun i x hx=>?_⟩
 ·unfold ints;rw[List.length_map];omega
 ·rw[Nat.mul_one,Nat.zero_add,b0 (ints_at hx)];rfl
theorem map_take {α β:Type} {f:α→β} {l:List α} {i:Nat} {x:α} (h:l[i]?=some x):(l.take (i+1)).map f=(l.take i).map f++[f x]:=by
 rw[List.take_add_one,h,List.map_append];rfl
theorem lU {xs:List Int} {b e E:Nat} (hn:xs.length≤1000):eN 1 E dI xs (.slice b 0 xs.length (.known xs.length)) [(b,.row (ints xs) e false)]:=by
 refine .inr ⟨b,_,_,e,rfl,rfl,?_,fun i x hx=>?_,.inl rfl,by omega⟩
 ·unfold ints;rw[List.length_map];omega
 ·rw[Nat.mul_one,b0 (ints_at hx)];rfl
structure I6 (g:XG):Prop where
 t:g.threads.length≤4
 r:∀l∈g.threads,l.length≤14
 f:g.from_.length≤4
 fr:∀l∈g.from_,l.length≤14
 o:g.order.length≤6
 Jj:∀l∈g.order,l.length≤56
 i:g.init.length≤6
abbrev gI (n:Nat):AV:=.int .i64 (.ofNat n)
abbrev gS (n:Nat):AV:=.int .u8 (.ofNat n)
section
variable {σ:av} {K:KP} {A M L:Own} {x:Nat×bJ}
theorem St.front (h:St σ K (A++(M++L))):St σ K (M++(A++L)):=h.perm (List.perm_append_comm_assoc A M L)
theorem St.AK (h:St σ K (x::(A++(M++L)))):St σ K (x::(M++(A++L))):=h.perm ((List.perm_append_comm_assoc A M L).cons x)
theorem St.behind (h:St σ K (x::(M++L))):St σ K (M++x::L):=h.perm List.perm_middle.symm
theorem St.ahead (h:St σ K (M++x::L)):St σ K (x::(M++L)):=h.perm List.perm_middle
end
theorem lH.HZ {α:Type} {m E:Nat} {R:α→List AV→Prop} {l:List α} {u:AV} {M:Own} (h:lH m E R l u M) {k:Nat} (hk:k≤l.length):
  ∃u',lH m E R (l.take k) u' M∧∀{P:Program} {ev:Operand→Option AV} {t:TypeId} {x hi:Operand} {kk:IntKind},P.underlying t=some (.slice E)→(P.info? E).map (·.size)=some m→ev x=some u→ev hi=some (.int kk (.ofNat k))→eH P ev t x none (some hi) none=some u':=by
 rcases h with ⟨rfl,rfl,rfl⟩ | ⟨b,c,cells,e,rfl,rfl,h3,h4,h5,h6⟩
 ·refine⟨.aq,.inl ⟨List.take_nil,rfl,rfl⟩,fun {P ev t x hi kk} hu hj hx hh=>?_⟩;obtain⟨j,hj',rfl⟩:=Option.map_eq_some_iff.1 hj;obtain rfl:k=0:=by simpa using hk
  have:cj ev 0 0 none (some hi)=some (0,0):=l9 hh (Nat.le_refl _);simp only[eH,hu,hx,hj',this]
 ·have hl:(l.take k).length=k:=by rw[List.length_take];omega
  have hR:∀(i:Nat) (x:α),(l.take k)[i]?=some x→R x ((cells.drop (i*m)).take m):=fun i x hi=>by
   rw[List.getElem?_take] at hi;split at hi
   ·exact h4 i x hi
   ·cases hi
  have hle:k*m≤cells.length:=Nat.le_trans (Nat.mul_le_mul_right _ hk) h3;rcases h5 with ⟨n,rfl,h7,h8⟩ | ⟨rfl,rfl⟩
  ·refine⟨.slice b 0 k (.known n),.inr ⟨b,.known n,cells,e,by rw[hl],rfl,by rw[hl];exact hle,hR,.inl ⟨n,rfl,by rw[hl];omega,h8⟩,by rw[hl];omega⟩,fun {P ev t x hi kk} hu hj hx hh=>?_⟩;obtain⟨j,hj',rfl⟩:=Option.map_eq_some_iff.1 hj;have:cj ev l.length n none (some hi)=some (0,k):=l9 hh (by omega);simp only[eH,hu,hx,cutAt,this,cut,hj'];cases hn:Nat.beq n 0 with
   | true=>simp
   | false=>simp
  ·refine⟨.slice b 0 k (.upto m),.inr ⟨b,.upto m,cells,e,by rw[hl],rfl,by rw[hl];exact hle,hR,.inr ⟨rfl,rfl⟩,by rw[hl];omega⟩,fun {P ev t x hi kk} hu hj hx hh=>?_⟩;obtain⟨j,hj',rfl⟩:=Option.map_eq_some_iff.1 hj;have:cj ev l.length l.length none (some hi)=some (0,k):=l9 hh hk;simp only[eH,hu,hx,this,hj',show Nat.beq j.size j.size=true from Nat.beq_refl _,cond_true,Nat.zero_mul,Nat.sub_zero,Nat.add_zero]
theorem lH.bH {α:Type} {m E:Nat} {R:α→List AV→Prop} {l:List α} {u:AV} {M:Own} (h:lH m E R l u M):l.length≤1048576:=by
 rcases h with ⟨rfl,_⟩ | ⟨_,_,_,_,_,_,_,_,_,h⟩
 ·exact Nat.zero_le _
 ·exact h
theorem EM {l:List Nat} {i n:Nat} (h:l[i]?=some n):(l.map Int.ofNat)[i]?=some (.ofNat n):=by rw[List.getElem?_map,h];rfl
theorem gN (l:List Nat):(l.map Int.ofNat).length=l.length:=List.length_map ..
theorem Ft {l:List Nat} {a:Nat} (h:l.getLast?=some a):l[l.length-1]?=some a:=by rw[←List.getLast?_eq_getElem?];exact h
theorem BW (l:List Nat):(l.map Int.ofNat).take (l.length-1)=l.dropLast.map Int.ofNat:=by rw[List.dropLast_eq_take,List.map_take]
theorem yj (x:XI) (a:Nat):(eP x a).length≤2:=by
 unfold eP;exact cond_ind2 _ (by simp) (cond_ind2 _ (by simp) (cond_ind2 _ (by simp) (cond_ind2 _ (by simp) (by simp))))
where
 cond_ind2 {a b:List Int} (c:Bool) (h1:a.length≤2) (h0:b.length≤2):(bif c then a else b).length≤2:=by cases c;exact h0;exact h1
theorem nU {c:XC} {a:Nat} {x:XI} (h:c.ins[a]?=some x):(dC c a).length=(eP x a).length:=by unfold dC;rw[h];simp
theorem Db {c:XC} {a g:Nat} {x:XI} {to:Int} (h:c.ins[a]?=some x) (ht:(eP x a)[g]?=some to):(dC c a)[g]?=some to.toNat:=by
 unfold dC;rw[h];show((eP x a).map Int.toNat)[g]?=_;rw[List.getElem?_map,ht];rfl
theorem DF {c:XC} {a g:Nat} {x:XI} (h:c.ins[a]?=some x) (hg:(eP x a).length≤g):(dC c a)[g]?=none:=by
 rw[List.getElem?_eq_none_iff,nU h];exact hg
theorem vo {k:Nat} {c:XC} (hc:fj k c) {a g:Nat} {x:XI} {to:Int} (h:c.ins[a]?=some x) (ht:(eP x a)[g]?=some to):∃t:Nat,to= .ofNat t∧t<c.ins.length∧(dC c a)[g]?=some t:=by
 have hlt:=(List.getElem?_eq_some_iff.1 h).1;have hN:=Db h ht;have hm:=qk hc a hlt _ (List.mem_of_getElem? hN);refine⟨to.toNat,?_,hm,hN⟩;have hx:=hc.right x (List.mem_of_getElem? h);obtain⟨n,sh,hn,n1,n13,hsh,hr⟩:=iq hx;have hto:=(il hr).to;have hmem:=List.mem_of_getElem? ht;unfold eP at hmem;rw[hn] at hmem;have tole:sh.to=true→0≤x.to∧x.to<(c.ins.length:Int):=fun e=>by rw[e] at hto;exact kI hto
 have nn:∀y:Int,0≤y→y= .ofNat y.toNat:=fun y hy=>by show y=((y.toNat:Nat):Int);omega
 match n,n1,n13 with
 | 1,_,_ | 2,_,_ | 3,_,_ | 4,_,_ | 5,_,_ | 6,_,_ | 7,_,_ | 8,_,_ | 9,_,_=>
  have e:to= .ofNat (a+1):=List.mem_singleton.1 (show to∈[Int.ofNat (a+1)] from hmem);rw[e];rfl
 | 10,_,_=>
  have e:to=x.to:=List.mem_singleton.1 (show to∈[x.to] from hmem);have:=tole (by cases hsh;rfl);rw[e];exact nn _ this.1
 | 11,_,_=>
  have e:to= .ofNat (a+1)∨to=x.to:=by have h2:to∈[Int.ofNat (a+1),x.to]:=hmem;simpa using h2
  have:=tole (by cases hsh;rfl);rcases e with e | e
  ·rw[e];rfl
  ·rw[e];exact nn _ this.1
 | 12,_,_ | 13,_,_=>exact absurd (show to∈([]:List Int) from hmem) (by simp)
theorem yb {c:XC}:total (dC c) c.ins.length≤2*c.ins.length:=by
 have h:∀(l:List Nat),(l.map fun i=>(dC c i).length).sum≤2*l.length:=by
  intro l;induction l with
  | nil=>simp
  | cons i l ih=>
   simp only[List.map_cons,List.sum_cons,List.length_cons]
   have:(dC c i).length≤2:=by
    cases hx:c.ins[i]? with
    | none=>unfold dC;rw[hx];simp
    | some x=>rw[nU hx];exact yj x i
   omega
 have:=h (List.range c.ins.length);rwa[List.length_range] at this
theorem Fa {nx:Nat→List Nat} {f:Nat} {s:DS} (h:s.path.length=0):xg nx (f+1) s=some s.out:=by
 unfold xg;rw[List.eq_nil_of_length_eq_zero h];rfl
theorem sC {nx:Nat→List Nat} {f a:Nat} {s s':DS} (h:s.path.getLast?=some a) (hd:jG nx s a=some s'):xg nx (f+1) s=xg nx f s':=by
 conv=>lhs;unfold xg
 rw[h];dsimp only;rw[hd];rfl
theorem Ed {nx:Nat→List Nat} {f a:Nat} {s:DS} (h:s.path.getLast?=some a) (hd:jG nx s a=none):xg nx (f+1) s=none:=by
 conv=>lhs;unfold xg
 rw[h];dsimp only;rw[hd];rfl
theorem B2 {nx:Nat→List Nat} {s:DS} {a g:Nat} (hg:s.gone[a]?=some g) (hn:(nx a)[g]?=none):jG nx s a=some {s with st:=s.st.set a 2,out:=s.out++[a],path:=s.path.dropLast}:=by
 unfold jG;rw[hg];simp only[Option.getD_some];rw[hn]
theorem Ab {nx:Nat→List Nat} {s:DS} {a g to:Nat} (hg:s.gone[a]?=some g) (hn:(nx a)[g]?=some to) (hv:s.st[to]?=some 2):jG nx s a=some {s with gone:=s.gone.set a (g+1)}:=by
 unfold jG;rw[hg];simp only[Option.getD_some];rw[hn];dsimp only;rw[hv];rfl
theorem zU {nx:Nat→List Nat} {s:DS} {a g to:Nat} (hg:s.gone[a]?=some g) (hn:(nx a)[g]?=some to) (hv:s.st[to]?=some 1):jG nx s a=none:=by
 unfold jG;rw[hg];simp only[Option.getD_some];rw[hn];dsimp only;rw[hv];rfl
theorem zT {nx:Nat→List Nat} {s:DS} {a g to v:Nat} (hg:s.gone[a]?=some g) (hn:(nx a)[g]?=some to) (hv:s.st[to]?=some v) (h2:v≠2) (h1:v≠1):jG nx s a=some {s with gone:=s.gone.set a (g+1),st:=s.st.set to 1,path:=s.path++[to]}:=by
 unfold jG;rw[hg];simp only[Option.getD_some];rw[hn];dsimp only;rw[hv];simp only[Option.getD_some];rw[if_neg h2,if_neg h1]
theorem zQ {a b:Nat} (h:bm (.ofNat a) (.ofNat b)=false):a≠b:=fun e=>by rw[e,gP] at h;simp at h
end Go.Ev
