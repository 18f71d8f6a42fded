/- Part of the proof: an evaluator of the model's code, rules for walks on it, walks. Without conditions. -/
import Derived.Test.YtpomgjnfncgkgaaGreatDoorEb
import Derived.KernelRfl
import Derived.Test.YtpomgjnfncgkgaaGreatDoorProg
set_option linter.unusedSectionVars false
set_option linter.unusedVariables false
set_option linter.unusedSimpArgs false
noncomputable section
namespace Go.Ev
variable [Env]
abbrev KP:=Nat->bQ->Prop
def KP.le (K K':KP):Prop:=∀b o,K b o->K' b o
theorem KP.le_refl (K:KP):KP.le K K:=fun _ _ h=>h
theorem KP.le_trans {K K' K'':KP} (h:KP.le K K') (h':KP.le K' K''):KP.le K K'':=fun b o hb=>h' b o (h b o hb)
def KP.add (K:KP) (b:Nat) (o:bQ):KP:=fun b' o'=>K b' o'∨(b'=b/\o'=o)
theorem KP.sq (K:KP) (b:Nat) (o:bQ):KP.le K (K.add b o):=fun _ _ h=>.inl h
abbrev Own:=List (Nat×bQ)
structure St (σ:aD) (K:KP) (L:Own):Prop where
 kept:∀b o,K b o->b<σ.next/\σ.m.get b=some o/\∀e∈L,e.1≠b
 own:∀e∈L,e.1<σ.next/\σ.m.get e.1=some e.2
 ne:L.Pairwise fun a b=>a.1≠b.1
section
variable {σ:aD} {K:KP} {L:Own}
theorem St.eW (h:St σ K L) {b:Nat} {o:bQ} (hk:K b o):σ.m.get b=some o:=(h.kept b o hk).2.1
theorem St.get (h:St σ K L) (k:Nat) {b:Nat} {o:bQ} (hk:L[k]?=some (b,o)):σ.m.get b=some o:=(h.own _ (gB_ hk)).2
theorem St.alloc (h:St σ K L) (o:bQ):St (σ.alloc o) K ((σ.next,o)::L) where
 kept b o' hb:=by
  obtain⟨h1,h2,h3⟩:=h.kept b o' hb;refine⟨Nat.lt_succ_of_lt h1,by rw[mi σ o h1];exact h2,fun e he=>?_⟩;rcases mQ_.1 he with rfl | he
  ·exact fun e=>by rw[<-e] at h1;exact Nat.lt_irrefl _ h1
  exact h3 e he
 own e he:=by
  rcases mQ_.1 he with rfl | he
  ·exact⟨Nat.lt_succ_self _,wv _ _⟩
  obtain⟨h1,h2⟩:=h.own e he;exact⟨Nat.lt_succ_of_lt h1,by rw[mi σ o h1];exact h2⟩
 ne:=List.pairwise_cons.2 ⟨fun e he=>fun hh=>by have:=(h.own e he).1;rw[<-hh] at this;exact Nat.lt_irrefl _ this,h.ne⟩
theorem St.pop {e:Nat×bQ} (h:St σ K (e::L)):St σ K L where
 kept b o hb:=let ⟨h1,h2,h3⟩:=h.kept b o hb;⟨h1,h2,fun e he=>h3 e (mC_ _ he)⟩
 own e he:=h.own e (mC_ _ he)
 ne:=(List.pairwise_cons.1 h.ne).2
theorem St.b9:∀{M:Own},St σ K (M++L)->St σ K L
 | [],h=>h
 | _::_,h=>St.b9 h.pop
theorem St.perm {L':Own} (h:St σ K L) (hp:L.Perm L'):St σ K L' where
 kept b o hb:=let ⟨h1,h2,h3⟩:=h.kept b o hb;⟨h1,h2,fun e he=>h3 e (hp.mem_iff.2 he)⟩
 own e he:=h.own e (hp.mem_iff.2 he)
 ne:=(hp.pairwise_iff (fun {a b} hab=>fun e=>hab e.symm)).1 h.ne
theorem St.jD {b:Nat} {o:bQ} (h:St σ K ((b,o)::L)):St σ (K.add b o) L where
 kept b' o' hb:=by
  rcases hb with hb | ⟨rfl,rfl⟩
  ·exact h.pop.kept b' o' hb
  exact⟨(h.own _ (mS_ ..)).1,(h.own _ (mS_ ..)).2,fun e he hh=>(List.pairwise_cons.1 h.ne).1 e he hh.symm⟩
 own:=h.pop.own
 ne:=h.pop.ne
theorem St.AI {b:Nat} {o:bQ} (h:St σ K ((b,o)::L)) (o':bQ):St (σ.setObj b o') K ((b,o')::L) where
 kept b' o'' hb:=by
  obtain⟨h1,h2,h3⟩:=h.kept b' o'' hb;refine⟨h1,by rw[mj σ o' (fun e=>h3 _ (mS_ ..) e.symm)];exact h2,fun e he=>?_⟩;rcases mQ_.1 he with rfl | he
  ·exact h3 (b,o) (mS_ ..)
  exact h3 e (mC_ _ he)
 own e he:=by
  rcases mQ_.1 he with rfl | he
  ·exact⟨(h.own _ (mS_ ..)).1,yg _ _ _⟩
  obtain⟨h1,h2⟩:=h.own e (mC_ _ he);exact⟨h1,by rw[mj σ o' (fun hh=>(List.pairwise_cons.1 h.ne).1 e he hh.symm)];exact h2⟩
 ne:=List.pairwise_cons.2 ⟨(List.pairwise_cons.1 h.ne).1,(List.pairwise_cons.1 h.ne).2⟩
theorem St.I1 {b:Nat} {o:bQ} {x:Nat×bQ} (h:St σ K (x::(b,o)::L)) (o':bQ):St (σ.setObj b o') K (x::(b,o')::L):=
 ((h.perm (List.Perm.swap ..)).AI o').perm (List.Perm.swap ..)
theorem Jx {α:Type} (x y z:α) (L:List α):(x::y::z::L).Perm (z::x::y::L):=
 (List.Perm.cons x (List.Perm.swap z y L)).trans (List.Perm.swap z x (y::L))
theorem St.Mg {b:Nat} {o:bQ} {x y:Nat×bQ} (h:St σ K (x::y::(b,o)::L)) (o':bQ):St (σ.setObj b o') K (x::y::(b,o')::L):=
 ((h.perm (Jx ..)).AI o').perm (Jx ..).symm
theorem St.yI {b:Nat} {o:bQ} (h:St σ K ((b,o)::L)) (o':bQ):St ((σ.drop b).alloc o') K ((σ.next,o')::L):=by
 refine St.alloc (σ:=σ.drop b) ⟨fun b' o'' hb=>?_,fun e he=>?_,h.pop.ne⟩ o'
 ·obtain⟨h1,h2,h3⟩:=h.kept b' o'' hb;exact⟨h1,by rw[show(σ.drop b).m.get b'=σ.m.get b' from PT.cV _ _ _ _ (fun e=>h3 _ (mS_ ..) e.symm)];exact h2,fun e he=>h3 e (mC_ _ he)⟩
 obtain⟨h1,h2⟩:=h.own e (mC_ _ he);exact⟨h1,by rw[show(σ.drop b).m.get e.1=σ.m.get e.1 from PT.cV _ _ _ _ (fun hh=>(List.pairwise_cons.1 h.ne).1 e he hh.symm)];exact h2⟩
theorem St.named (h:St σ K L):∃L',St σ K L'/\L=L':=⟨L,h,rfl⟩
theorem St.ext {σ':aD} (h:St σ K L) (he:Ext σ σ'):St σ' K L where
 kept b o hb:=let ⟨h1,h2,h3⟩:=h.kept b o hb;⟨Nat.lt_of_lt_of_le h1 he.1,he.2 b o h1 h2,h3⟩
 own e hm:=let ⟨h1,h2⟩:=h.own e hm;⟨Nat.lt_of_lt_of_le h1 he.1,he.2 _ _ h1 h2⟩
 ne:=h.ne
end
def gi (K:KP) (p:AV) (vs:List AV):Prop:=
 ∃(b off:Nat) (cells:List AV) (e:Nat) (ro:Bool),p= .ptr b off/\K b (.row cells e ro)/\off+vs.length<=cells.length/\(cells.drop off).take vs.length=vs
theorem gi.mono {K K':KP} (hk:KP.le K K') {p:AV} {vs:List AV} (h:gi K p vs):gi K' p vs:=
 let ⟨b,off,cells,e,ro,h1,h2,h3,h4⟩:=h;⟨b,off,cells,e,ro,h1,hk _ _ h2,h3,h4⟩
def Jn (m len:Nat) (c:rZ):Prop:=c= .upto m∨∃n,c= .known n/\len<=n
def bJ {α:Type} (K:KP) (m:Nat) (R:α->List AV->Prop) (l:List α) (v:AV):Prop:=
 (l= []/\v= .aK)∨∃(b off:Nat) (c:rZ) (cells:List AV) (e:Nat) (ro:Bool),v= .slice b off l.length c/\Jn m l.length c/\K b (.row cells e ro)/\off+l.length*m<=cells.length/\l.length<=9223372036854775807/\
  ∀(i:Nat) (x:α),l[i]?=some x->R x ((cells.drop (off+i*m)).take m)
theorem bJ.mono {α:Type} {K K':KP} {m:Nat} {R R':α->List AV->Prop} {l:List α} {v:AV} (h:bJ K m R l v) (hk:KP.le K K') (hR:∀x vs,R x vs->R' x vs):bJ K' m R' l v:=by
 rcases h with h | ⟨b,off,c,cells,e,ro,h1,h2,h3,h4,h5⟩
 ·exact .inl h
 exact .inr ⟨b,off,c,cells,e,ro,h1,h2,hk _ _ h3,h4,h5.1,fun i x hx=>hR x _ (h5.2 i x hx)⟩
theorem bJ.bA {α:Type} {K:KP} {m:Nat} {R:α->List AV->Prop} {l:List α} {v:AV} (h:bJ K m R l v):l.length<=9223372036854775807:=by
 rcases h with ⟨rfl,_⟩ | ⟨b,off,c,cells,e,ro,h1,h2,h3,h4,h5,_⟩
 ·exact Nat.zero_le _
 exact h5
theorem bJ.leaf {α:Type} {K:KP} {m:Nat} {R:α->List AV->Prop} {l:List α} {v:AV} (h:bJ K m R l v):cC v=some [v]/\il v=true:=by
 rcases h with ⟨_,rfl⟩ | ⟨b,off,c,cells,e,ro,rfl,_⟩<;>exact⟨rfl,rfl⟩
theorem bJ.uY {α:Type} {K:KP} {m:Nat} {R:α->List AV->Prop} {l:List α} {v:AV} (h:bJ K m R l v) {P:Program} {t e:TypeId} (hu:P.underlying t=some (.slice e)):Go.Ev.uY P t v=some l.length:=by
 rcases h with ⟨rfl,rfl⟩ | ⟨b,off,c,cells,e,ro,rfl,_⟩
 ·simp only[Go.Ev.uY,hu];rfl
 simp only[Go.Ev.uY,hu]
theorem bJ.at {α:Type} {K:KP} {m:Nat} {R:α->List AV->Prop} {l:List α} {v:AV} (h:bJ K m R l v) {i:Nat} {x:α} (hi:l[i]?=some x):
  ∃(b off:Nat) (c:rZ) (vs:List AV),v= .slice b off l.length c/\i<l.length/\gi K (.ptr b (off+i*m)) vs/\vs.length=m/\R x vs:=by
 have hlt:i<l.length:=(gA.1 hi).1;rcases h with ⟨rfl,_⟩ | ⟨b,off,c,cells,e,ro,rfl,h2,h3,h4,h5⟩
 ·exact absurd hlt (nZ_ _)
 have hle:(i+1)*m<=l.length*m:=nM_ _ hlt;rw[Nat.succ_mul] at hle;have hn:((cells.drop (off+i*m)).take m).length=m:=by rw[lT_,lD_];omega
 refine⟨b,off,c,_,rfl,hlt,⟨b,off+i*m,cells,e,ro,rfl,h3,by rw[hn];omega,by rw[hn]⟩,hn,h5.2 i x hi⟩
section
variable {P:Program} {G:Cx} {ev:Operand->Option AV} {σ:aD} {K:KP} {L:Own}
theorem aT {α:Type} {m:Nat} {R:α->List AV->Prop} {l:List α} {c:Call} {t e:TypeId} {x:Operand} {v:AV} (hs:bJ K m R l v) (hc:c.callee= .builtin .len) (ht:c.argTypes[0]?=some t) (ha:c.args.toList= [x]) (hu:P.underlying t=some (.slice e)) (hx:ev x=some v):dJ P G ev σ (.call c)= .val (.int .i64 (.ofNat l.length)) σ:=by
 refine bH (by simp[kindOf,hc,isMap,ht,hu]) ?_;simp only[dg,hc,ht,ha,hx,hs.uY hu,Option.map_some]
theorem gk {c:Call} {t:TypeId} {x:Operand} {s:List Nat} (hc:c.callee= .builtin .len) (ht:c.argTypes[0]?=some t) (ha:c.args.toList= [x]) (hu:P.underlying t=some .string) (hx:ev x=some (.str s)):dJ P G ev σ (.call c)= .val (.int .i64 (.ofNat (cD s))) σ:=by
 refine bH (by simp[kindOf,hc,isMap,ht,hu]) ?_;simp only[dg,hc,ht,ha,hx,uY,hu,Option.map_some]
theorem aQ {t:TypeId} {x:Operand} {p v:AV} {vs:List AV} (hs:St σ K L) (hp:gi K p vs) (hx:ev x=some p) (ha:dE P t=some none) (hv:vs[0]?=some v):dJ P G ev σ (.load t x)= .val v σ:=by
 obtain⟨b,off,cells,e,ro,rfl,h2,h3,h4⟩:=hp;refine ax hx (hs.eW h2) ha ?_;rw[fC];rw[<-h4,List.getElem?_take] at hv;split at hv
 ·simpa using hv
 cases hv
theorem HI {t:TypeId} {x:Operand} {p:AV} {vs:List AV} {n:Nat} (hs:St σ K L) (hp:gi K p vs) (hx:ev x=some p) (ha:dE P t=some (some n)) (hv:n<=vs.length):dJ P G ev σ (.load t x)= .val (.agg (vs.take n)) σ:=by
 obtain⟨b,off,cells,e,ro,rfl,h2,h3,h4⟩:=hp;refine bj hx (hs.eW h2) ha (by omega) ?_;rw[<-h4,List.take_take,Nat.min_eq_left hv]
end
section
variable {P:Program} {G:Cx} {n:Nat} {t:PT AV} {σ:aD} {K:KP} {L:Own} {Q:Ex->PT AV->aD->Prop} {ops:Array Oper} {o:Oper} {l:List Oper}
theorem aL {c:Bool} {t':Bool->PT AV} (hw:bu ops t o=some true) (hv:dJ P G (bo G t) σ o.op= .val (.bool c) σ) (hp:∀b,cO t n o.dst (.bool b)=some (t' b))
  (h1:c=true->bZ P G ops n l (t' true) σ Q) (h0:c=false->bZ P G ops n l (t' false) σ Q):bZ P G ops n (o::l) t σ Q:=by
 refine aa hw hv (hp c) ?_;cases c with
 | true=>exact h1 rfl
 | false=>exact h0 rfl
theorem bL (hs:St σ K L) {ob:bQ} {t':Nat->PT AV} (hw:bu ops t o=some true) (hv:dJ P G (bo G t) σ o.op= .val (.ptr σ.next 0) (σ.alloc ob)) (hp:∀b,cO t n o.dst (.ptr b 0)=some (t' b))
  (h:∀(σ':aD) (b:Nat),St σ' K ((b,ob)::L)->bZ P G ops n l (t' b) σ' Q):bZ P G ops n (o::l) t σ Q:=
 aa hw hv (hp _) (h _ _ (hs.alloc ob))
theorem ib (hs:St σ K L) {ob:bQ} {k c:Nat} {t':Nat->PT AV} (hw:bu ops t o=some true) (hv:dJ P G (bo G t) σ o.op= .val (.slice σ.next 0 k (.known c)) (σ.alloc ob)) (hp:∀b,cO t n o.dst (.slice b 0 k (.known c))=some (t' b))
  (h:∀(σ':aD) (b:Nat),St σ' K ((b,ob)::L)->bZ P G ops n l (t' b) σ' Q):bZ P G ops n (o::l) t σ Q:=
 aa hw hv (hp _) (h _ _ (hs.alloc ob))
theorem bO {b:Nat} {ob ob':bQ} {t':PT AV} (hs:St σ K ((b,ob)::L)) (hw:bu ops t o=some true) (hv:dJ P G (bo G t) σ o.op= .skip (σ.setObj b ob')) (hp:cO t n o.dst unit=some t')
  (h:∀σ',St σ' K ((b,ob')::L)->bZ P G ops n l t' σ' Q):bZ P G ops n (o::l) t σ Q:=kZ hw hv hp (h _ (hs.AI ob'))
theorem ic {b:Nat} {ob ob':bQ} {x:Nat×bQ} {t':PT AV} (hs:St σ K (x::(b,ob)::L)) (hw:bu ops t o=some true) (hv:dJ P G (bo G t) σ o.op= .skip (σ.setObj b ob')) (hp:cO t n o.dst unit=some t')
  (h:∀σ',St σ' K (x::(b,ob')::L)->bZ P G ops n l t' σ' Q):bZ P G ops n (o::l) t σ Q:=kZ hw hv hp (h _ (hs.I1 ob'))
theorem yy {b:Nat} {ob ob':bQ} {x y:Nat×bQ} {t':PT AV} (hs:St σ K (x::y::(b,ob)::L)) (hw:bu ops t o=some true) (hv:dJ P G (bo G t) σ o.op= .skip (σ.setObj b ob')) (hp:cO t n o.dst unit=some t')
  (h:∀σ',St σ' K (x::y::(b,ob')::L)->bZ P G ops n l t' σ' Q):bZ P G ops n (o::l) t σ Q:=kZ hw hv hp (h _ (hs.Mg ob'))
theorem bN {α:Type} {m:Nat} {R:α->List AV->Prop} {la:List α} {v:AV} {i:Nat} {x:α} {ty e:TypeId} {xo io:Operand} {k:IntKind} {t':AV->PT AV} (hs:bJ K m R la v) (hi:la[i]?=some x) (hw:bu ops t o=some true) (ho:o.op= .indexAddr ty xo io)
  (ht:P.underlying ty=some (.slice e)) (hj:(P.info? e).map (·.size)=some m) (hx:bo G t xo=some v) (hio:bo G t io=some (.int k (.ofNat i))) (hp:∀p,cO t n o.dst p=some (t' p))
  (h:∀p vs,gi K p vs->vs.length=m->R x vs->bZ P G ops n l (t' p) σ Q):bZ P G ops n (o::l) t σ Q:=by
 obtain⟨b,off,c,vs,rfl,hlt,h1,h2,h3⟩:=hs.at hi;refine aa hw ?_ (hp _) (h _ vs h1 h2 h3);rw[ho];exact fW ht hj hx hio hlt
theorem bK {p:AV} {vs:List AV} {s:TypeId} {xo:Operand} {i k:Nat} {t':AV->PT AV} (hpt:gi K p vs) (hw:bu ops t o=some true) (ho:o.op= .fieldAddr s xo i) (hx:bo G t xo=some p) (hk:oj P s i=some k) (hl:k<=vs.length) (hp:∀p,cO t n o.dst p=some (t' p))
  (h:∀p',gi K p' (vs.drop k)->bZ P G ops n l (t' p') σ Q):bZ P G ops n (o::l) t σ Q:=by
 obtain⟨b,off,cells,e,ro,rfl,h2,h3,h4⟩:=hpt;refine aa hw ?_ (hp _) (h _ ⟨b,off+k,cells,e,ro,rfl,h2,by rw[lD_];omega,?_⟩)
 ·rw[ho];exact aw hx hk
 rw[lD_]
 conv=>rhs;rw[<-h4]
 rw[List.drop_take,List.drop_drop]
theorem dF {f:Nat} {args:List AV} {t':AV->PT AV} {R:AV->aD->Prop} (hw:bu ops t o=some true) (hv:dJ P G (bo G t) σ o.op= .enter f args σ) (hp:∀v,cO t n o.dst v=some (t' v))
  (hc:bp P G f args σ R) (h:∀v σ',R v σ'->bZ P G ops n l (t' v) σ' Q):bZ P G ops n (o::l) t σ Q:=
 BZ hw hv (hc.mono fun v σ' hr=>⟨_,hp v,h v σ' hr⟩)
theorem aG {x:Operand} {a b:Code} {c:Bool} (hc:bo G t x=some (.bool c)) (h1:c=true->Ev P G a n t σ Q) (h0:c=false->Ev P G b n t σ Q):Ev P G (.cond x a b) n t σ Q:=by
 refine yd hc ?_;cases c with
 | true=>exact h1 rfl
 | false=>exact h0 rfl
end
theorem aJ:cj []=true:=rfl
theorem ak {v:AV} {vs:List AV} (h:il v=true) (hs:cj vs=true):cj (v::vs)=true:=by
 show(bif il v then cj vs else false)=true;rw[h,hs];rfl
section
variable {P:Program} {G:Cx} {ev:Operand->Option AV} {σ:aD} {K:KP} {L:Own}
theorem aR {t:TypeId} {m:Nat} {x y:Operand} {b:Pos} {off:Nat} {v:AV} {cs cells cells':List AV} {e:Nat} (hx:ev x=some (.ptr b off)) (hy:ev y=some v) (hc:cC v=some cs) (hb:σ.m.get b=some (.row cells e false)) (hj:(P.info? t).map (·.size)=some m) (hl:cs.length=m) (hle:off+m<=cells.length) (hleaf:cj cs=true) (hs:dA cs cells off=cells'):
  dJ P G ev σ (.store t x y)= .skip (σ.setObj b (.row cells' e false)):=by
 subst hs;exact HJ hx hy hc hb hj hl hle hleaf
theorem bD {t:TypeId} {x:Operand} {p:AV} {vs:List AV} {n:Nat} (hs:St σ K L) (hp:gi K p vs) (hx:ev x=some p) (ha:dE P t=some (some n)) (hv:vs.length=n):dJ P G ev σ (.load t x)= .val (.agg vs) σ:=by
 have:=HI (G:=G) hs hp hx ha (Nat.le_of_eq hv.symm);rwa[<-hv,List.take_length] at this
def placesOf (P:Program) (t:TypeId):Option (List (Nat×Nat)):=(structOf P t).bind fun fs=>cF (fun f:Field=>(P.info? f.type).map fun j=>(f.offset,j.size)) fs.toList
theorem bT {place:Nat->Option (Nat×Nat)} {cells:List AV}:ju place ev [] cells=some cells:=rfl
theorem bB {place:Nat->Option (Nat×Nat)} {i:Nat} {x:Operand} {l:List (Nat×Operand)} {cells:List AV} {off size:Nat} {v:AV} {vs:List AV} {r:Option (List AV)} (hp:place i=some (off,size)) (hx:ev x=some v) (hc:cC v=some vs) (hl:(Nat.beq (cD vs) size && Nat.ble (off+size) (cD cells))=true) (h:ju place ev l (dA vs cells off)=r):ju place ev ((i,x)::l) cells=r:=by
 have hb:(ev x).bind cC=some vs:=by rw[hx];exact hc
 show(match place i,(ev x).bind cC with
   | some (off,size),some vs=>bif Nat.beq (cD vs) size && Nat.ble (off+size) (cD cells) then ju place ev l (dA vs cells off) else none
   | _,_=>none)=_
 rw[hp,hb];dsimp only;rw[hl];exact h
theorem bY {t:TypeId} {parts:Array (Nat×Operand)} {places:List (Nat×Nat)} {zero cs:List AV} (hp:placesOf P t=some places) (hz:(eR P t).bind cC=some zero) (hu:dE P t=some (some zero.length)) (hf:ju (nth places) ev parts.toList zero=some cs) (hs:(structOf P t).isSome=true):dJ P G ev σ (.build t parts)= .val (.agg cs) σ:=by
 refine bH rfl ?_;unfold placesOf structOf at hp;unfold structOf at hs;rw[m6] at hp hs;simp only[dg,hz];split at hs
 ·rename_i fs hu;rw[hu] at hp⊢;simp only[Option.bind_some] at hp;simp only[hp,hf,Option.map_some]
 cases hs
theorem dN {s d:TypeId} {x:Operand} {j k:IntKind} {n:Int} (hk:kindOf P (.convert s d x)= .pure) (hs:P.underlying s=some (.int j)) (hd:P.underlying d=some (.int k)) (hx:ev x=some (.int j n)):dJ P G ev σ (.convert s d x)= .val (.int k (wr k n)) σ:=by
 refine bH hk ?_;simp only[dg,hs,hd,hx]
end
section
variable {P:Program} {G:Cx} {n:Nat} {t:PT AV} {σ:aD} {K:KP} {L:Own} {Q:Ex->PT AV->aD->Prop} {ops:Array Oper} {o:Oper} {l:List Oper}
theorem Ds {f:Nat} {args:List AV} {c:Bool} {t':AV->PT AV} (hw:bu ops t o=some true) (hv:dJ P G (bo G t) σ o.op= .enter f args σ) (hp:∀v,cO t n o.dst v=some (t' v))
  (hc:bp P G f args σ fun v σ'=>v= .bool c/\St σ' K L) (h1:c=true->∀σ',St σ' K L->bZ P G ops n l (t' (.bool true)) σ' Q) (h0:c=false->∀σ',St σ' K L->bZ P G ops n l (t' (.bool false)) σ' Q):bZ P G ops n (o::l) t σ Q:=
 dF hw hv hp hc fun v σ' ⟨hv,ar⟩=>by
  subst hv;cases c with
  | true=>exact h1 rfl σ' ar
  | false=>exact h0 rfl σ' ar
theorem bf {f:Nat} {args:List AV} {u:AV} {t':AV->PT AV} (hw:bu ops t o=some true) (hv:dJ P G (bo G t) σ o.op= .enter f args σ) (hp:∀v,cO t n o.dst v=some (t' v))
  (hc:bp P G f args σ fun v σ'=>v=u/\St σ' K L) (h:∀σ',St σ' K L->bZ P G ops n l (t' u) σ' Q):bZ P G ops n (o::l) t σ Q:=
 dF hw hv hp hc fun v σ' ⟨hv,ar⟩=>by subst hv;exact h σ' ar
theorem aF {x:Operand} {a b:Code} (hc:bo G t x=some (.bool true)) (h:Ev P G a n t σ Q):Ev P G (.cond x a b) n t σ Q:=yd hc h
theorem aI {x:Operand} {a b:Code} (hc:bo G t x=some (.bool false)) (h:Ev P G b n t σ Q):Ev P G (.cond x a b) n t σ Q:=yd hc h
theorem ad {b:Code} (h:Ev P G b n t σ Q):qa P G n b Q .normal t σ:=h
theorem aE {id:Nat} (h:Q .normal t σ):qh id Q .normal t σ:=h
theorem aB {id:Nat} (h:Q .ret t σ):qh id Q .ret t σ:=h
def Ai (I:Nat->PT AV->aD->Prop) (j:Nat) (Q:Ex->PT AV->aD->Prop) (e:Ex) (t:PT AV) (σ:aD):Prop:=
 match e with
 | .normal=>∃i,i<j/\I i t σ
 | e=>Q e t σ
theorem aN {I:Nat->PT AV->aD->Prop} {j:Nat} (h:∃i,i<j/\I i t σ):Ai I j Q .normal t σ:=h
theorem aV {I:Nat->PT AV->aD->Prop} {j i:Nat} (h:Q (.exit i) t σ):Ai I j Q (.exit i) t σ:=h
theorem bk {I:Nat->PT AV->aD->Prop} {j:Nat} (h:Q .ret t σ):Ai I j Q .ret t σ:=h
theorem Gb {b:Code} (I:Nat->PT AV->aD->Prop) (j:Nat) (hI:I j t σ) (step:∀j t σ,I j t σ->Ev P G b n t σ (Ai I j Q)):Ev P G (.loop b) n t σ Q:=
 Io I (fun j t σ h=>(step j t σ h).mono fun e t' σ' hq=>by cases e<;>exact hq) j t σ hI
end
def Kh:Nat:=70
def IH (f:Nat):Bool:=Nat.beq f 9 || Nat.beq f 18
structure Plain (G:Cx):Prop where
 h1:∀f a s,G.Gz f a s=none
 h2:∀f a,IH f=false->G.Hq f a=none
 h3:G.mem= []
 h4:∀f a s,G.stop f a s=none
 h5:∀f,Nat.beq f Kh=false->G.fk f=false
theorem Gc {P:Program} {G:Cx} (hG:Plain G) {f:Nat} {fn:Func} {c:Code} {args:List AV} {σ:aD} {R:AV->aD->Prop} {t:PT AV} (hf:P.funcs[f]?=some fn) (hb:fn.body=some c) (ha:pN fn.ntmps args=some t)
  (h:Ev P G c fn.ntmps t σ fun e t' σ'=>(e= .normal∨e= .ret)/\∃v,dX P fn t' σ'=some v/\R v σ') (hk:Nat.beq f Kh=false:=by rfl) (hl:IH f=false:=by rfl):bp P G f args σ R:=
 Im (hG.h1 _ _ _) (hG.h2 _ _ hl) (by rw[hG.h3];rfl) (hG.h4 _ _ _) (hG.h5 _ hk) hf hb ha h
def Er (P:Program) (fn:Func) (R:AV->aD->Prop) (e:Ex) (t:PT AV) (σ:aD):Prop:=(e= .normal∨e= .ret)/\∃v,dX P fn t σ=some v/\R v σ
theorem bh {P:Program} {G:Cx} (hG:Plain G) {f:Nat} {fn:Func} {c:Code} {args:List AV} {σ:aD} {R:AV->aD->Prop} {t:PT AV} (hf:P.funcs[f]?=some fn) (hb:fn.body=some c) (ha:pN fn.ntmps args=some t)
  (h:Ev P G c fn.ntmps t σ (Er P fn R)) (hk:Nat.beq f Kh=false:=by rfl) (hl:IH f=false:=by rfl):bp P G f args σ R:=Gc hG hf hb ha h hk hl
theorem AB {P:Program} {fn:Func} {k:Nat} {t:PT AV} {σ:aD} {v:AV} (hr:fn.results.toList= [.tmp k]) (h:t.get k=some v):dX P fn t σ=some v:=by
 unfold dX;rw[hr]
 have:cF (fZ P t σ) [.tmp k]=some [v]:=by
  have h':fZ P t σ (.tmp k)=some v:=h;unfold cF;simp only[h']
 rw[this]
theorem AD {P:Program} {fn:Func} {j k:Nat} {t:PT AV} {σ:aD} {u v:AV} (hr:fn.results.toList= [.tmp j,.tmp k]) (h1:t.get j=some u) (h2:t.get k=some v):dX P fn t σ=some (.tuple [u,v]):=by
 unfold dX;rw[hr]
 have:cF (fZ P t σ) [.tmp j,.tmp k]=some [u,v]:=by
  have h1':fZ P t σ (.tmp j)=some u:=h1;have h2':fZ P t σ (.tmp k)=some v:=h2;unfold cF;simp only[h1',h2']
 rw[this]
theorem ay {P:Program} {fn:Func} {R:AV->aD->Prop} {t:PT AV} {σ:aD} {k:Nat} {v:AV} (hr:fn.results.toList= [.tmp k]) (h:t.get k=some v) (hR:R v σ):Er P fn R .ret t σ:=⟨.inr rfl,v,AB hr h,hR⟩
theorem bE {P:Program} {fn:Func} {R:AV->aD->Prop} {t:PT AV} {σ:aD} {j k:Nat} {u v:AV} (hr:fn.results.toList= [.tmp j,.tmp k]) (h1:t.get j=some u) (h2:t.get k=some v) (hR:R (.tuple [u,v]) σ):Er P fn R .ret t σ:=⟨.inr rfl,_,AD hr h1 h2,hR⟩
end Go.Ev
namespace Go.Ev
theorem jz.eta {α:Type} (t:jz α):t=⟨(jl 0).run t,(jl 1).run t,(jl 2).run t,(jl 3).run t,(jl 4).run t,(jl 5).run t,(jl 6).run t,(jl 7).run t,(jl 8).run t,(jl 9).run t,(jl 10).run t,(jl 11).run t,(jl 12).run t,(jl 13).run t,(jl 14).run t,(jl 15).run t⟩:=by cases t;rfl
theorem jz.same {α:Type} {t t':jz α} (h:∀n,n<16->(jl n).run t=(jl n).run t'):t=t':=by
 rw[jz.eta t,h 0 (by decide),h 1 (by decide),h 2 (by decide),h 3 (by decide),h 4 (by decide),h 5 (by decide),h 6 (by decide),h 7 (by decide),h 8 (by decide),h 9 (by decide),h 10 (by decide),h 11 (by decide),h 12 (by decide),h 13 (by decide),h 14 (by decide),h 15 (by decide),<-jz.eta t']
theorem iS.same {α:Type} {t t':iS α} (h:∀k,k<256->jr t k=jr t' k):t=t':=by
 refine jz.same fun n hn=>jz.same fun m hm=>?_
 have:=h (n*16+m) (by omega);unfold jr at this;have e1:Nat.div (n*16+m) 16=n:=by show(n*16+m)/16=n;omega
 have e2:Nat.mod (n*16+m) 16=m:=by show(n*16+m)%16=m;omega
 rw[e1,e2] at this;exact this
variable [Env]
def aY (W:List Nat) (t t':PT AV):Prop:=t'.m=t.m/\t'.l=t.l/\∀k,k<256->W.elem k=false->jr t'.s k=jr t.s k
theorem aY.refl (W:List Nat) (t:PT AV):aY W t t:=⟨rfl,rfl,fun _ _ _=>rfl⟩
theorem aY.put {W:List Nat} {t t':PT AV} {w:Nat} {o:Option AV} (hw:(W.elem w && Nat.blt w 256)=true) (h:aY W t t'):aY W t (t'.put o w):=by
 obtain⟨h1,h2,h3⟩:=h;rw[bA_,qW] at hw;obtain⟨s,m,l⟩:=t';rw[PT.tq _ _ _ _ hw.2];refine⟨h1,h2,fun k hk hn=>?_⟩;show jr (oC s w o) k=_;rw[mP _ _ _ _ hw.2 hk,if_neg (fun e=>by subst e;rw[hw.1] at hn;cases hn)];exact h3 k hk hn
theorem aY.dI {W:List Nat} {t t':PT AV} {w:Nat} (hw:Nat.blt w 256=true) (h:aY (w::W) t t'):∃o,aY W (t.put o w) t':=by
 rw[qW] at hw;obtain⟨h1,h2,h3⟩:=h;refine⟨t'.get w,?_⟩;obtain⟨s,m,l⟩:=t;rw[PT.tq _ _ _ _ hw,PT.pX _ hw];refine⟨h1,h2,fun k hk hn=>?_⟩;show _=jr (oC s w _) k;rw[mP _ _ _ _ hw hk];split
 ·rename_i e;rw[e]
 rename_i e;refine h3 k hk ?_;rw[List.elem_cons,hn];have:(k == w)=false:=by simpa using e
 rw[this]
theorem aY.mg {W:List Nat} {t t':PT AV} {a b c d:Nat} (hw:(Nat.blt a 256 && (Nat.blt b 256 && (Nat.blt c 256 && Nat.blt d 256)))=true) (h:aY (a::b::c::d::W) t t'):∃o1 o2 o3 o4,aY W ((((t.put o1 a).put o2 b).put o3 c).put o4 d) t':=by
 simp only[bA_] at hw;obtain⟨h1,h2,h3,h4⟩:=hw;obtain⟨o1,h⟩:=h.dI h1;obtain⟨o2,h⟩:=h.dI h2;obtain⟨o3,h⟩:=h.dI h3;obtain⟨o4,h⟩:=h.dI h4;exact⟨o1,o2,o3,o4,h⟩
theorem aY.bR {W:List Nat} {t t':PT AV} {a b c d e f g i:Nat} (hw:(Nat.blt a 256 && (Nat.blt b 256 && (Nat.blt c 256 && Nat.blt d 256)))=true) (hw2:(Nat.blt e 256 && (Nat.blt f 256 && (Nat.blt g 256 && Nat.blt i 256)))=true) (h:aY (a::b::c::d::e::f::g::i::W) t t'):
  ∃o1 o2 o3 o4 o5 o6 o7 o8,aY W ((((((((t.put o1 a).put o2 b).put o3 c).put o4 d).put o5 e).put o6 f).put o7 g).put o8 i) t':=by
 obtain⟨o1,o2,o3,o4,h⟩:=h.mg hw;obtain⟨o5,o6,o7,o8,h⟩:=h.mg hw2;exact⟨o1,o2,o3,o4,o5,o6,o7,o8,h⟩
theorem aY.nil {t t':PT AV} (h:aY [] t t'):t'=t:=by
 obtain⟨s,m,l⟩:=t;obtain⟨s',m',l'⟩:=t';obtain⟨h1,h2,h3⟩:=h;have:s'=s:=iS.same fun k hk=>h3 k hk rfl
 cases h1;cases h2;cases this;rfl
section
variable {P:Program} {G:Cx} {n:Nat} {t:PT AV} {σ:aD} {Q:Ex->PT AV->aD->Prop}
theorem bg {b:Code} (W:List Nat) (I:Nat->PT AV->aD->Prop) (j:Nat) (hI:I j t σ) (step:∀j t' σ,aY W t t'->I j t' σ->Ev P G b n t' σ (Ai (fun j t'' σ=>aY W t t''/\I j t'' σ) j Q)):Ev P G (.loop b) n t σ Q:=
 Gb (fun j t'' σ=>aY W t t''/\I j t'' σ) j ⟨aY.refl _ _,hI⟩ fun j t' σ h=>step j t' σ h.1 h.2
end
theorem nm {a b:Nat}:bG (.ofNat a) (.ofNat b)=decide (a<b):=by
 show Nat.ble (Nat.succ a) b=_;rw[Bool.eq_iff_iff,nE_,decide_eq_true_iff];rfl
theorem fE {a b:Nat}:bq (.ofNat a) (.ofNat b)=decide (a=b):=by
 show Nat.beq a b=_;rw[Bool.eq_iff_iff,Nat.beq_eq,decide_eq_true_iff]
theorem ba {i:Nat} (h:i<9223372036854775807):wr .i64 (Int.add (.ofNat i) (.ofNat 1))= .ofNat (i+1):=by
 show(bif Nat.ble (i+1) 9223372036854775807 then _ else _)=_;rw[show Nat.ble (i+1) 9223372036854775807=true from by rw[nE_];exact h];rfl
end Go.Ev
namespace Go.Ev
variable [Env]
section
variable {P:Program} {G:Cx} {n:Nat} {t:PT AV} {σ:aD} {K:KP} {L:Own} {Q:Ex->PT AV->aD->Prop} {ops:Array Oper} {o:Oper} {i:Nat} {rc:List Nat} {l:List (Nat×List Nat)}
theorem lO {v:AV} {t':PT AV} {σ':aD} (hi:ops[i]?=some o) (hw:bu ops t o=some true) (hv:dJ P G (bo G t) σ o.op= .val v σ') (hp:cO t n o.dst v=some t') (h:cM P G ops t' σ' rc=true/\cy P G ops n l t' σ' Q):cy P G ops n ((i,rc)::l) t σ Q:=by
 obtain⟨hs,K,e,t2,σ2,h1,h2⟩:=h;refine⟨K,e,t2,σ2,fun k hk=>?_,h2⟩
 show(match ops[i]? with
  | some o=>iw P G (ec P G k) false ops n o t σ (fun t' σ'=>bif cM P G ops t' σ' rc then jh P G (ec P G k) ops n [] l t' σ' else .err 86)
  | none=>.err 87)=_
 rw[hi];unfold iw;dsimp only;rw[hw];dsimp only;rw[hv];dsimp only[kA];rw[hp];dsimp only;rw[hs];exact h1 k hk
theorem nf {t':PT AV} {σ':aD} (hi:ops[i]?=some o) (hw:bu ops t o=some true) (hv:dJ P G (bo G t) σ o.op= .skip σ') (hp:cO t n o.dst unit=some t') (h:cM P G ops t' σ' rc=true/\cy P G ops n l t' σ' Q):cy P G ops n ((i,rc)::l) t σ Q:=by
 obtain⟨hs,K,e,t2,σ2,h1,h2⟩:=h;refine⟨K,e,t2,σ2,fun k hk=>?_,h2⟩
 show(match ops[i]? with
  | some o=>iw P G (ec P G k) false ops n o t σ (fun t' σ'=>bif cM P G ops t' σ' rc then jh P G (ec P G k) ops n [] l t' σ' else .err 86)
  | none=>.err 87)=_
 rw[hi];unfold iw;dsimp only;rw[hw];dsimp only;rw[hv];dsimp only[kA];rw[hp];dsimp only;rw[hs];exact h1 k hk
theorem bc:cM P G ops t σ []=true:=rfl
theorem bW {j:Nat} {l:List Nat} (h:ie P G ops t σ j=true) (hl:cM P G ops t σ l=true):cM P G ops t σ (j::l)=true:=by
 show(bif ie P G ops t σ j then cM P G ops t σ l else false)=true;rw[h];exact hl
theorem dt {k:Nat} {v:AV} (hi:ops[i]?=some o) (hw:bu ops t o=some true) (hd:o.dst=some k) (hg:t.get k=some v) (hk:kindOf P o.op= .read) (h:dJ P G (bo G t) σ o.op= .val v σ) (hb:dQ v v=true):ie P G ops t σ i=true:=by
 have hr:fV P (bo G t) σ o.op=some v:=by
  unfold dJ at h;rw[hk] at h;dsimp only at h;split at h
  ·rename_i u hu;cases h;exact hu
  cases h
 unfold ie;rw[hi];dsimp only;rw[hw];dsimp only;rw[hd];dsimp only;rw[show t.get (posOf k)=some v from hg];dsimp only;rw[hk];dsimp only;rw[hr];exact hb
theorem Hp (hi:ops[i]?=some o) (hw:bu ops t o=some false):ie P G ops t σ i=true:=by
 unfold ie;rw[hi];dsimp only;rw[hw]
theorem m3 {k b e:Nat} {cs:List AV} (hi:ops[i]?=some o) (hw:bu ops t o=some true) (hd:o.dst=some k) (hg:t.get k=some (.ptr b 0)) (hk:kindOf P o.op= .alloc) (ha:eU P (bo G t) o.op=some (.row cs e false,.ptr)) (hm:σ.m.get b=some (.row cs e false)) (hb:dQ.beqL cs cs=true):ie P G ops t σ i=true:=by
 unfold ie;rw[hi];dsimp only;rw[hw];dsimp only;rw[hd];dsimp only;rw[show t.get (posOf k)=some (.ptr b 0) from hg];dsimp only;rw[hk];dsimp only;rw[ha];show(match σ.m.get b with | some (.row cs' e' false)=>Nat.beq e e' && dQ.beqL cs cs' | _=>false)=true;rw[hm];show(Nat.beq e e && dQ.beqL cs cs)=true;rw[hb,Nat.beq_refl];rfl
theorem gM (k:IntKind) (n:Int):dQ.nW (.int k n) (.int k n)=true:=by
 show(q7 k k && bq n n)=true;rw[dq];cases k<;>simp[q7]
theorem qU (s:List Nat):dQ.nW (.str s) (.str s)=true:=by
 show fF s s=true;rw[j1];simp
theorem bJ.nW {α:Type} {K:KP} {m:Nat} {R:α->List AV->Prop} {l:List α} {v:AV} (h:bJ K m R l v):dQ.nW v v=true:=by
 rcases h with ⟨_,rfl⟩ | ⟨b,off,c,cells,e,ro,rfl,hc,_⟩
 ·rfl
 show(dQ.beqP b b && Nat.beq off off && Nat.beq l.length l.length && dQ.beqC c c)=true;have hp:dQ.beqP b b=true:=Nat.beq_refl b
 have hcc:dQ.beqC c c=true:=by
  rcases hc with rfl | ⟨n,rfl,_⟩
  ·exact Nat.beq_refl m
  exact Nat.beq_refl n
 simp[hp,hcc]
theorem kR:dQ.beqL [] []=true:=rfl
theorem dK {v:AV} {vs:List AV} (h:dQ.nW v v=true) (hs:dQ.beqL vs vs=true):dQ.beqL (v::vs) (v::vs)=true:=by
 show(bif dQ.nW v v then dQ.beqL vs vs else false)=true;rw[h];exact hs
theorem nX {vs:List AV} (h:dQ.beqL vs vs=true):dQ (.agg vs) (.agg vs)=true:=h
theorem dY {c:Bool} {t':Bool->PT AV} (hi0:ops[i]?=some o) (hw:bu ops t o=some true) (hv:dJ P G (bo G t) σ o.op= .val (.bool c) σ) (hp:∀b,cO t n o.dst (.bool b)=some (t' b))
  (h1:c=true->cy P G ops n l (t' true) σ Q) (h0:c=false->cy P G ops n l (t' false) σ Q):cy P G ops n ((i,[])::l) t σ Q:=by
 refine al hi0 hw hv (hp c) ?_;cases c with
 | true=>exact h1 rfl
 | false=>exact h0 rfl
theorem vr (hs:St σ K L) {ob:bQ} {t':Nat->PT AV} (hi0:ops[i]?=some o) (hw:bu ops t o=some true) (hv:dJ P G (bo G t) σ o.op= .val (.ptr σ.next 0) (σ.alloc ob)) (hp:∀b,cO t n o.dst (.ptr b 0)=some (t' b))
  (h:∀(σ':aD) (b:Nat),St σ' K ((b,ob)::L)->cy P G ops n l (t' b) σ' Q):cy P G ops n ((i,[])::l) t σ Q:=
 al hi0 hw hv (hp _) (h _ _ (hs.alloc ob))
theorem nt (hs:St σ K L) {ob:bQ} {k c:Nat} {t':Nat->PT AV} (hi0:ops[i]?=some o) (hw:bu ops t o=some true) (hv:dJ P G (bo G t) σ o.op= .val (.slice σ.next 0 k (.known c)) (σ.alloc ob)) (hp:∀b,cO t n o.dst (.slice b 0 k (.known c))=some (t' b))
  (h:∀(σ':aD) (b:Nat),St σ' K ((b,ob)::L)->cy P G ops n l (t' b) σ' Q):cy P G ops n ((i,[])::l) t σ Q:=
 al hi0 hw hv (hp _) (h _ _ (hs.alloc ob))
theorem mz {b:Nat} {ob ob':bQ} {t':PT AV} (hs:St σ K ((b,ob)::L)) (hi0:ops[i]?=some o) (hw:bu ops t o=some true) (hv:dJ P G (bo G t) σ o.op= .skip (σ.setObj b ob')) (hp:cO t n o.dst unit=some t')
  (h:∀σ',St σ' K ((b,ob')::L)->(cM P G ops t' σ' rc=true/\cy P G ops n l t' σ' Q)):cy P G ops n ((i,rc)::l) t σ Q:=nf hi0 hw hv hp (h _ (hs.AI ob'))
theorem G4 {b:Nat} {ob ob':bQ} {x:Nat×bQ} {t':PT AV} (hs:St σ K (x::(b,ob)::L)) (hi0:ops[i]?=some o) (hw:bu ops t o=some true) (hv:dJ P G (bo G t) σ o.op= .skip (σ.setObj b ob')) (hp:cO t n o.dst unit=some t')
  (h:∀σ',St σ' K (x::(b,ob')::L)->(cM P G ops t' σ' rc=true/\cy P G ops n l t' σ' Q)):cy P G ops n ((i,rc)::l) t σ Q:=nf hi0 hw hv hp (h _ (hs.I1 ob'))
theorem cu {α:Type} {m:Nat} {R:α->List AV->Prop} {la:List α} {v:AV} {ix:Nat} {x:α} {ty e:TypeId} {xo io:Operand} {k:IntKind} {t':AV->PT AV} (hs:bJ K m R la v) (hi:la[ix]?=some x) (hi0:ops[i]?=some o) (hw:bu ops t o=some true) (ho:o.op= .indexAddr ty xo io)
  (ht:P.underlying ty=some (.slice e)) (hj:(P.info? e).map (·.size)=some m) (hx:bo G t xo=some v) (hio:bo G t io=some (.int k (.ofNat ix))) (hp:∀p,cO t n o.dst p=some (t' p))
  (h:∀p vs,gi K p vs->vs.length=m->R x vs->cy P G ops n l (t' p) σ Q):cy P G ops n ((i,[])::l) t σ Q:=by
 obtain⟨b,off,c,vs,rfl,hlt,h1,h2,h3⟩:=hs.at hi;refine al hi0 hw ?_ (hp _) (h _ vs h1 h2 h3);rw[ho];exact fW ht hj hx hio hlt
theorem jg {p:AV} {vs:List AV} {s:TypeId} {xo:Operand} {fi k:Nat} {t':AV->PT AV} (hpt:gi K p vs) (hi0:ops[i]?=some o) (hw:bu ops t o=some true) (ho:o.op= .fieldAddr s xo fi) (hx:bo G t xo=some p) (hk:oj P s fi=some k) (hl:k<=vs.length) (hp:∀p,cO t n o.dst p=some (t' p))
  (h:∀p',gi K p' (vs.drop k)->cy P G ops n l (t' p') σ Q):cy P G ops n ((i,[])::l) t σ Q:=by
 obtain⟨b,off,cells,e,ro,rfl,h2,h3,h4⟩:=hpt;refine al hi0 hw ?_ (hp _) (h _ ⟨b,off+k,cells,e,ro,rfl,h2,by rw[lD_];omega,?_⟩)
 ·rw[ho];exact aw hx hk
 rw[lD_]
 conv=>rhs;rw[<-h4]
 rw[List.drop_take,List.drop_drop]
theorem my {f:Nat} {args:List AV} {t':AV->PT AV} {R:AV->aD->Prop} (hi0:ops[i]?=some o) (hw:bu ops t o=some true) (hv:dJ P G (bo G t) σ o.op= .enter f args σ) (hp:∀v,cO t n o.dst v=some (t' v))
  (hc:bp P G f args σ R) (h:∀v σ',R v σ'->(cM P G ops (t' v) σ' rc=true/\cy P G ops n l (t' v) σ' Q)):cy P G ops n ((i,rc)::l) t σ Q:=by
 refine zP hi0 hw hv (hc.mono fun v σ' hr=>?_);obtain⟨h1,h2⟩:=h v σ' hr;exact⟨_,hp v,h1,h2⟩
theorem cR {f:Nat} {args:List AV} {u:AV} {t':AV->PT AV} (hi0:ops[i]?=some o) (hw:bu ops t o=some true) (hv:dJ P G (bo G t) σ o.op= .enter f args σ) (hp:∀v,cO t n o.dst v=some (t' v))
  (hc:bp P G f args σ fun v σ'=>v=u/\St σ' K L) (h:∀σ',St σ' K L->(cM P G ops (t' u) σ' rc=true/\cy P G ops n l (t' u) σ' Q)):cy P G ops n ((i,rc)::l) t σ Q:=
 my hi0 hw hv hp hc fun v σ' ⟨hv,ar⟩=>by subst hv;exact h σ' ar
theorem aU {id:Nat} {l:List (Nat×List Nat)} (hf:qv P ops=true) (hl:sE P ops=l) (h:cy P G ops n l t σ Q):Ev P G (.region id ops true) n t σ Q:=by
 subst hl;exact uB hf h
end
end Go.Ev
namespace Go.Ev
variable [Env]
section
variable {P:Program} {G:Cx} {n:Nat} {t:PT AV} {σ:aD} {Q:Ex->PT AV->aD->Prop} {ops:Array Oper} {o:Oper} {l:List Oper}
end
section
variable {P:Program} {G:Cx} {n:Nat} {σ:aD} {Q:Ex->PT AV->aD->Prop} {ops:Array Oper}
def Ct (n:Nat) (t:PT AV) (d:Option Nat) (v:Option AV):Option (PT AV):=match v with | some v=>cO t n d v | none=>none
def FH (P:Program) (k:Bool) (o:BinOp) (ty:TypeId) (a b:Option AV):Option AV:=match a with | some a=>(match b with | some b=>tB P k o ty a b | none=>none) | none=>none
def At (c a b:Option AV):Option AV:=match c with | some (.bool q)=>if q then a else b | _=>none
def Kt (P:Program) (G:Cx) (t:PT AV) (op:Op):Option AV:=
 match op with
 | .move x=>bo G t x
 | .assign x=>bo G t x
 | .pick c a b=>At (bo G t c) (bo G t a) (bo G t b)
 | .binOp o ty x y _=>FH P (xe x || xe y) o ty (bo G t x) (bo G t y)
 | .extract x i=>dg P (bo G t) (.extract x i)
 | .makeFunc x y z=>dg P (bo G t) (.makeFunc x y z)
 | .unOp x y z=>dg P (bo G t) (.unOp x y z)
 | .field x y z=>dg P (bo G t) (.field x y z)
 | _=>none
theorem vm {t:PT AV} {op:Op} {v:AV} (h:Kt P G t op=some v):dJ P G (bo G t) σ op= .val v σ:=by
 unfold Kt at h;split at h
 ·exact an h
 ·exact ai h
 ·unfold At at h;split at h
  ·rename_i q hc;exact aA hc h
  cases h
 ·unfold FH at h;split at h
  ·rename_i a ha;split at h
   ·rename_i b hb;exact az ha hb h
   cases h
  cases h
 ·exact bH rfl h
 ·exact bH rfl h
 ·exact bH rfl h
 ·exact bH rfl h
 cases h
def mZ (P:Program) (G:Cx) (ops:Array Oper) (n:Nat) (t:PT AV) (o:Oper):Option (PT AV):=
 match bu ops t o with
 | some w=>bif w then Ct n t o.dst (Kt P G t o.op) else cO t n o.dst unit
 | none=>none
theorem vX {t t':PT AV} {o:Oper} {l:List Oper} (h:mZ P G ops n t o=some t') (hh:bZ P G ops n l t' σ Q):bZ P G ops n (o::l) t σ Q:=by
 unfold mZ at h;split at h
 ·rename_i w hw;cases w with
  | true=>
   simp only[cond_true] at h;unfold Ct at h;split at h
   ·rename_i v hv;exact aa hw (vm hv) h hh
   cases h
  | false=>exact ae hw h hh
 cases h
def quick (P:Program) (G:Cx) (ops:Array Oper) (n:Nat):Nat->List Oper->PT AV->Option (List Oper×PT AV)
 | 0,l,t=>some (l,t)
 | k+1,l,t=>match l with
  | o::l=>match mZ P G ops n t o with
   | some t'=>quick P G ops n k l t'
   | none=>none
  | []=>none
theorem vQ (k:Nat) {l l':List Oper} {t t':PT AV} (h:quick P G ops n k l t=some (l',t')) (hh:bZ P G ops n l' t' σ Q):bZ P G ops n l t σ Q:=by
 induction k generalizing l t with
 | zero=>simp only[quick,oJ_,Prod.mk.injEq] at h;obtain⟨rfl,rfl⟩:=h;exact hh
 | succ k ih=>
  unfold quick at h;split at h
  ·split at h
   ·rename_i t1 h1;exact vX h1 (ih h)
   cases h
  cases h
def nw (P:Program) (G:Cx) (ops:Array Oper) (n:Nat):Nat->List (Nat×List Nat)->PT AV->Option (List (Nat×List Nat)×PT AV)
 | 0,l,t=>some (l,t)
 | k+1,l,t=>match l with
  | (i,[])::l=>match ops[i]? with
   | some o=>match mZ P G ops n t o with
    | some t'=>nw P G ops n k l t'
    | none=>none
   | none=>none
  | _=>none
theorem vW {t t':PT AV} {i:Nat} {o:Oper} {l:List (Nat×List Nat)} (hi:ops[i]?=some o) (h:mZ P G ops n t o=some t') (hh:cy P G ops n l t' σ Q):cy P G ops n ((i,[])::l) t σ Q:=by
 unfold mZ at h;split at h
 ·rename_i w hw;cases w with
  | true=>
   simp only[cond_true] at h;unfold Ct at h;split at h
   ·rename_i v hv;exact al hi hw (vm hv) h hh
   cases h
  | false=>exact au hi hw h hh
 cases h
theorem wQ (k:Nat) {l l':List (Nat×List Nat)} {t t':PT AV} (h:nw P G ops n k l t=some (l',t')) (hh:cy P G ops n l' t' σ Q):cy P G ops n l t σ Q:=by
 induction k generalizing l t with
 | zero=>simp only[nw,oJ_,Prod.mk.injEq] at h;obtain⟨rfl,rfl⟩:=h;exact hh
 | succ k ih=>
  unfold nw at h;split at h
  ·split at h
   ·rename_i o ho;split at h
    ·rename_i t1 h1;exact vW ho h1 (ih h)
    cases h
   cases h
  cases h
section
variable {ev:Operand->Option AV} {K:KP} {L:Own}
theorem MY (k:Nat) {s:TypeId} {x:Operand} {i:Nat} {b:Pos} {off:Nat} (hx:ev x=some (.ptr b off)) (hk:oj P s i=some k:=by kernel_rfl):dJ P G ev σ (.fieldAddr s x i)= .val (.ptr b (off+k)) σ:=aw hx hk
theorem MX {c:Call} {f:Operand} {g:Nat} {fi ca args:List AV} (hc:c.callee= .value f) (hf:ev f=some (.func g fi ca)) (ha:wW ev c.args.toList=some args) (hg:uV P g=true:=by kernel_rfl):dJ P G ev σ (.call c)= .enter g (fi++(args++ca)) σ:=aW hc hf ha hg
theorem MZ {t:TypeId} {x:Operand} {b:Pos} {off:Nat} {cells:List AV} {e:Nat} {ro:Bool} {v:AV} (hx:ev x=some (.ptr b off)) (hb:σ.m.get b=some (.row cells e ro)) (hv:nth cells off=some v) (ha:dE P t=some none:=by kernel_rfl):dJ P G ev σ (.load t x)= .val v σ:=ax hx hb ha hv
theorem M5 {t:TypeId} {x:Operand} {b:Pos} {off n:Nat} {cells:List AV} {e:Nat} {ro:Bool} {vs:List AV} (hx:ev x=some (.ptr b off)) (hb:σ.m.get b=some (.row cells e ro)) (hv:(cells.drop off).take n=vs) (ha:dE P t=some (some n):=by kernel_rfl) (hl:off+n<=cells.length:=by exact Nat.le_of_ble_eq_true rfl):dJ P G ev σ (.load t x)= .val (.agg vs) σ:=bj hx hb ha hl hv
theorem Nb {t:TypeId} {m:Nat} {x y:Operand} {b:Pos} {off:Nat} {v:AV} {cs cells cells':List AV} {e:Nat} (hx:ev x=some (.ptr b off)) (hy:ev y=some v) (hc:cC v=some cs) (hb:σ.m.get b=some (.row cells e false)) (hl:cs.length=m) (hleaf:cj cs=true) (hs:dA cs cells off=cells')
  (hj:(P.info? t).map (·.size)=some m:=by kernel_rfl) (hle:off+m<=cells.length:=by exact Nat.le_of_ble_eq_true rfl):dJ P G ev σ (.store t x y)= .skip (σ.setObj b (.row cells' e false)):=aR hx hy hc hb hj hl hle hleaf hs
theorem MW {t:TypeId} {parts:Array (Nat×Operand)} {places:List (Nat×Nat)} {zero cs:List AV} (hf:ju (nth places) ev parts.toList zero=some cs) (hp:placesOf P t=some places:=by kernel_rfl) (hz:(eR P t).bind cC=some zero:=by kernel_rfl) (hu:dE P t=some (some zero.length):=by kernel_rfl) (hs:(structOf P t).isSome=true:=by kernel_rfl):dJ P G ev σ (.build t parts)= .val (.agg cs) σ:=bY hp hz hu hf hs
theorem M8 {e:TypeId} {cs:List AV} (hz:(eR P e).bind cC=some cs:=by kernel_rfl) (hs:rM P e=false:=by kernel_rfl):dJ P G ev σ (.alloc e)= .val (.ptr σ.next 0) (σ.alloc (.row cs e false)):=dP hz hs
theorem M6 {α:Type} {m:Nat} {R:α->List AV->Prop} {l:List α} {c:Call} {t e:TypeId} {x:Operand} {v:AV} (hs:bJ K m R l v) (hc:c.callee= .builtin .len) (ht:c.argTypes[0]?=some t) (ha:c.args.toList= [x]) (hx:ev x=some v) (hu:P.underlying t=some (.slice e):=by kernel_rfl):dJ P G ev σ (.call c)= .val (.int .i64 (.ofNat l.length)) σ:=aT hs hc ht ha hu hx
theorem M9 {t:TypeId} {x:Operand} {p v:AV} {vs:List AV} (hs:St σ K L) (hp:gi K p vs) (hx:ev x=some p) (hv:vs[0]?=some v) (ha:dE P t=some none:=by kernel_rfl):dJ P G ev σ (.load t x)= .val v σ:=aQ hs hp hx ha hv
theorem MT {n:Nat} {t:PT AV} {o:Oper} {l:List Oper} {α:Type} {m:Nat} {R:α->List AV->Prop} {la:List α} {v:AV} {i:Nat} {x:α} {ty e:TypeId} {xo io:Operand} {k:IntKind} {t':AV->PT AV} (hs:bJ K m R la v) (hi:la[i]?=some x) (hw:bu ops t o=some true) (ho:o.op= .indexAddr ty xo io)
  (hx:bo G t xo=some v) (hio:bo G t io=some (.int k (.ofNat i)))
  (h:∀p vs,gi K p vs->vs.length=m->R x vs->bZ P G ops n l (t' p) σ Q) (ht:P.underlying ty=some (.slice e):=by kernel_rfl) (hj:(P.info? e).map (·.size)=some m:=by kernel_rfl) (hp:∀p,cO t n o.dst p=some (t' p):=by exact fun _=>rfl):bZ P G ops n (o::l) t σ Q:=bN hs hi hw ho ht hj hx hio hp h
theorem MU {n i:Nat} {t:PT AV} {o:Oper} {l:List (Nat×List Nat)} {α:Type} {m:Nat} {R:α->List AV->Prop} {la:List α} {v:AV} {ix:Nat} {x:α} {ty e:TypeId} {xo io:Operand} {k:IntKind} {t':AV->PT AV} (hs:bJ K m R la v) (hi:la[ix]?=some x) (hi0:ops[i]?=some o) (hw:bu ops t o=some true) (ho:o.op= .indexAddr ty xo io)
  (hx:bo G t xo=some v) (hio:bo G t io=some (.int k (.ofNat ix)))
  (h:∀p vs,gi K p vs->vs.length=m->R x vs->cy P G ops n l (t' p) σ Q) (ht:P.underlying ty=some (.slice e):=by kernel_rfl) (hj:(P.info? e).map (·.size)=some m:=by kernel_rfl) (hp:∀p,cO t n o.dst p=some (t' p):=by exact fun _=>rfl):cy P G ops n ((i,[])::l) t σ Q:=cu hs hi hi0 hw ho ht hj hx hio hp h
end
theorem aY.L4 {W:List Nat} {t t':PT AV} {a b c d e f g i a' b' c' d' e' f' g' i':Nat} (hw:(Nat.blt a 256 && (Nat.blt b 256 && (Nat.blt c 256 && Nat.blt d 256)))=true) (hw2:(Nat.blt e 256 && (Nat.blt f 256 && (Nat.blt g 256 && Nat.blt i 256)))=true) (hw3:(Nat.blt a' 256 && (Nat.blt b' 256 && (Nat.blt c' 256 && Nat.blt d' 256)))=true) (hw4:(Nat.blt e' 256 && (Nat.blt f' 256 && (Nat.blt g' 256 && Nat.blt i' 256)))=true) (h:aY (a::b::c::d::e::f::g::i::a'::b'::c'::d'::e'::f'::g'::i'::W) t t'):
  ∃o1 o2 o3 o4 o5 o6 o7 o8 u1 u2 u3 u4 u5 u6 u7 u8,aY W ((((((((((((((((t.put o1 a).put o2 b).put o3 c).put o4 d).put o5 e).put o6 f).put o7 g).put o8 i).put u1 a').put u2 b').put u3 c').put u4 d').put u5 e').put u6 f').put u7 g').put u8 i') t':=by
 obtain⟨o1,o2,o3,o4,o5,o6,o7,o8,h⟩:=h.bR hw hw2;obtain⟨u1,u2,u3,u4,u5,u6,u7,u8,h⟩:=h.bR hw3 hw4;exact⟨o1,o2,o3,o4,o5,o6,o7,o8,u1,u2,u3,u4,u5,u6,u7,u8,h⟩
theorem lb {a b:Nat} (h:Nat.ble a b=true):a<=b:=Nat.le_of_ble_eq_true h
theorem nT {b:Code} {t:PT AV} {Q:Ex->PT AV->aD->Prop} (h:Ev P G b n t σ Q):bZ P G ops n [] t σ (qa P G n b Q):=af (ad h)
theorem nS {id:Nat} {os:Array Oper} {b:Code} {t:PT AV} {Q:Ex->PT AV->aD->Prop} (hd:ml os.toList=false) (h:bZ P G os n os.toList t σ (qa P G n b Q)):bZ P G ops n [] t σ (qa P G n (.seq (.region id os false) b) Q):=af (ad (aj (ah hd h)))
theorem Na {K:KP} {L:Own} {ev:Operand->Option AV} {t:TypeId} {x:Operand} {p:AV} {vs:List AV} {n:Nat} (hs:St σ K L) (hp:gi K p vs) (hx:ev x=some p) (hv:vs.length=n) (ha:dE P t=some (some n):=by kernel_rfl):dJ P G ev σ (.load t x)= .val (.agg vs) σ:=bD hs hp hx ha hv
theorem kv {K:KP} {L:Own} {n:Nat} {t:PT AV} {o:Oper} {l:List Oper} {f:Nat} {args:List AV} {u:AV} {t':AV->PT AV} (hw:bu ops t o=some true) (hv:dJ P G (bo G t) σ o.op= .enter f args σ)
  (hc:bp P G f args σ fun v σ'=>v=u/\St σ' K L) (h:∀σ',St σ' K L->bZ P G ops n l (t' u) σ' Q) (hp:∀v,cO t n o.dst v=some (t' v):=by exact fun _=>rfl):bZ P G ops n (o::l) t σ Q:=bf hw hv hp hc h
theorem kp {K:KP} {L:Own} {n:Nat} {t:PT AV} {o:Oper} {l:List Oper} (hs:St σ K L) {ob:bQ} {t':Nat->PT AV} (hw:bu ops t o=some true) (hv:dJ P G (bo G t) σ o.op= .val (.ptr σ.next 0) (σ.alloc ob))
  (h:∀(σ':aD) (b:Nat),St σ' K ((b,ob)::L)->bZ P G ops n l (t' b) σ' Q) (hp:∀b,cO t n o.dst (.ptr b 0)=some (t' b):=by exact fun _=>rfl):bZ P G ops n (o::l) t σ Q:=bL hs hw hv hp h
abbrev iZ:AV:=.int .i64 0
theorem oP {W:List Nat} {t t':PT AV} {w:Nat} {o:Option AV} (hw:(W.elem w && Nat.blt w 256)=true) (h:aY W t t'):aY W t (t'.put o w):=h.put hw
theorem oR (W:List Nat) (t:PT AV):aY W t t:=.refl W t
theorem ct {α:Type} (a b:α):(bif true then a else b)=a:=rfl
theorem cf {α:Type} (a b:α):(bif false then a else b)=b:=rfl
theorem cI {a b:Int} (h:a=b):some (AV.int .i64 a)=some (AV.int .i64 b):=congrArg (fun z=>some (AV.int .i64 z)) h
theorem cB {a b:Bool} (h:a=b):AV.bool a=AV.bool b:=congrArg AV.bool h
theorem cJ {a b:Int} (h:a=b):AV.int .i64 a=AV.int .i64 b:=congrArg (AV.int .i64) h
theorem St.g0 {K:KP} {L:Own} {b:Nat} {o:bQ} (h:St σ K ((b,o)::L)):σ.m.get b=some o:=h.get 0 rfl
theorem St.g1 {K:KP} {L:Own} {e:Nat×bQ} {b:Nat} {o:bQ} (h:St σ K (e::(b,o)::L)):σ.m.get b=some o:=h.get 1 rfl
theorem ky {n:Nat} {t:PT AV} {o:Oper} {l:List Oper} {c:Bool} {t':Bool->PT AV} (hw:bu ops t o=some true) (hv:dJ P G (bo G t) σ o.op= .val (.bool c) σ)
  (h1:c=true->bZ P G ops n l (t' true) σ Q) (h0:c=false->bZ P G ops n l (t' false) σ Q) (hp:∀b,cO t n o.dst (.bool b)=some (t' b):=by exact fun _=>rfl):bZ P G ops n (o::l) t σ Q:=aL hw hv hp h1 h0
end
inductive XE where
 | mk (op num:Int) (name:List Nat) (kids:List XE)
structure XI where
 kind:Int
 ny:Int
 loc:Int
 order:Int
 to:Int
 exprs:List XE
structure XC where
 aP:Int
 ins:List XI
def dV (K:KP):Nat->XE->List AV->Prop
 | 0,_,_=>False
 | k+1,.mk op num name kids,vs=>∃v,vs= [.int .i64 op,.int .i64 num,.str name,v]/\bJ K 4 (dV K k) kids v
def gK (K:KP) (k:Nat) (x:XI) (vs:List AV):Prop:=∃v,vs= [.int .i64 x.kind,.int .i64 x.ny,.int .i64 x.loc,.int .i64 x.order,.int .i64 x.to,v]/\bJ K 4 (dV K k) x.exprs v
def qN (K:KP) (k:Nat) (x:XC) (vs:List AV):Prop:=∃v,vs= [.int .i64 x.aP,v]/\bJ K 6 (gK K k) x.ins v
def XE.kids:XE->List XE
 | .mk _ _ _ k=>k
theorem dV.shape {K:KP} {k:Nat} {x:XE} {vs:List AV} (h:dV K k x vs):∃op num name v,vs= [.int .i64 op,.int .i64 num,.str name,v]/\bJ K 4 (dV K (k-1)) x.kids v:=by
 cases k with
 | zero=>cases x;exact h.elim
 | succ k=>
  obtain⟨op,num,name,kids⟩:=x;obtain⟨v,rfl,hk⟩:=h;exact⟨_,_,_,v,rfl,hk⟩
open Classical in
def cS {α:Type} (a b:α):Bool:=decide (a=b)
theorem cP {α:Type} {a b:α}:cS a b=true↔a=b:=by unfold cS;simp
theorem lD {α:Type} {a b:α}:cS a b=false↔a≠b:=by unfold cS;simp
theorem bM {c:Bool} (h:(bif c then false else true)=true):c=false:=by cases c<;>simp_all
theorem bx {c:Bool} (h:(bif c then false else true)=false):c=true:=by cases c<;>simp_all
theorem ez {α:Type} {l1 l2:List α} (h:bq (.ofNat l1.length) (.ofNat l2.length)=false):cS l1 l2=false:=by
 rw[lD];rintro rfl;rw[dq] at h;simp at h
theorem dc {α β:Type} {l1:List α} {l2:List β} (h:bq (.ofNat l1.length) (.ofNat l2.length)=true):l1.length=l2.length:=by
 rw[dq] at h;exact iJ_ (of_decide_eq_true h)
theorem eQ {α:Type} {l1 l2:List α} {i:Nat} {x y:α} (hx:l1[i]?=some x) (hy:l2[i]?=some y) (h:cS x y=false):cS l1 l2=false:=by
 rw[lD] at h⊢;rintro rfl;rw[hx] at hy;exact h (Option.some.inj hy)
theorem dM {α:Type} {l1 l2:List α} {i:Nat} (hl:l1.length=l2.length) (hi:l1.length<=i) (h:∀k,k<i->l1[k]?=l2[k]?):cS l1 l2=true:=by
 rw[cP];refine List.ext_getElem? fun k=>?_
 by_cases hk:k<i
 ·exact h k hk
 rw[gN_ (by omega),gN_ (by omega)]
theorem iM {α:Type} {l1 l2:List α} {i:Nat} {x y:α} (h:∀k,k<i->l1[k]?=l2[k]?) (hx:l1[i]?=some x) (hy:l2[i]?=some y) (hs:cS x y=true):∀k,k<i+1->l1[k]?=l2[k]?:=fun k hk=>by
 rw[cP] at hs
 by_cases e:k=i
 ·subst e;rw[hx,hy,hs]
 exact h k (by omega)
theorem br {a b:Nat} (h:bG (.ofNat a) (.ofNat b)=false):b<=a:=by
 rw[eo,decide_eq_false_iff_not] at h;have h:¬a<b:=fun e=>h (Int.ofNat_lt.2 e)
 omega
theorem bm {a b:Nat} (h:bG (.ofNat a) (.ofNat b)=true):a<b:=by
 rw[eo,decide_eq_true_iff] at h;exact Int.ofNat_lt.1 h
theorem bX {α:Type} {l:List α} {i:Nat} (h:i<l.length):∃x,l[i]?=some x:=⟨l[i],gC h⟩
def jW (f:XE->Int->Int):List XE->Int->Int
 | [],m=>m
 | x::r,m=>bif bG m 0 then m else jW f r (f x m)
def ta (name:List Nat) (left:Int):Int:=wr .i64 (Int.sub (wr .i64 (Int.sub left 1)) (wr .i64 (Int.tdiv (.ofNat (cD name)) 20)))
def nL:Nat->XE->Int->Int
 | 0,_,m=>m
 | k+1,.mk _ _ name kids,m=>jW (nL k) kids (ta name m)
def uZ (k:Nat) (x:XE) (most:Int):Bool:=bif bG (nL k x most) 0 then false else true
def qz (k:Nat) (x:XI):Bool:=bif bG 4 (.ofNat x.exprs.length) then false else x.exprs.all fun e=>uZ k e 60
def ot (k:Nat) (most:Int) (x:XC):Bool:=bif bG most (.ofNat x.ins.length) then false else x.ins.all (qz k)
theorem EH {f:XE->Int->Int} {l:List XE} {i:Nat} {m:Int} (h:l.length<=i):jW f (l.drop i) m=m:=by rw[List.drop_eq_nil_of_le h];rfl
theorem EG {f:XE->Int->Int} {l:List XE} {m:Int} (h:bG m 0=true):jW f l m=m:=by
 cases l with
 | nil=>rfl
 | cons x r=>show(bif bG m 0 then m else _)=m;rw[h];rfl
theorem B8 {f:XE->Int->Int} {l:List XE} {i:Nat} {m:Int} {x:XE} (hx:l[i]?=some x) (h:bG m 0=false):jW f (l.drop i) m=jW f (l.drop (i+1)) (f x m):=by
 have hlt:i<l.length:=(gA.1 hx).1;rw[List.drop_eq_getElem_cons hlt];have:l[i]=x:=(gA.1 hx).2;rw[this];show(bif bG m 0 then m else _)=_;rw[h];rfl
theorem gp {α:Type} {f:α->Bool} {l:List α} {i:Nat} {x:α} (hx:l[i]?=some x) (h:f x=false):l.all f=false:=by
 rw[List.all_eq_false];exact⟨x,gB_ hx,by rw[h];simp⟩
theorem eG {α:Type} {f:α->Bool} {l:List α} {i:Nat} {x:α} (ha:(l.take i).all f=true) (hx:l[i]?=some x) (h:f x=true):(l.take (i+1)).all f=true:=by
 rw[List.take_add_one,hx,List.all_append,ha];simp[h]
theorem dC {α:Type} {f:α->Bool} {l:List α} {i:Nat} (ha:(l.take i).all f=true) (h:l.length<=i):l.all f=true:=by
 rw[tL_ h] at ha;exact ha
theorem dV.beq {K:KP} {k:Nat} {x:XE} {vs:List AV} (h:dV K k x vs):dQ (.agg vs) (.agg vs)=true:=by
 cases k with
 | zero=>cases x;exact h.elim
 | succ k=>
  obtain⟨op,num,name,kids⟩:=x;obtain⟨v,rfl,hk⟩:=h;exact nX (dK (gM _ _) (dK (gM _ _) (dK (qU _) (dK hk.nW kR))))
theorem gK.beq {K:KP} {k:Nat} {x:XI} {vs:List AV} (h:gK K k x vs):dQ (.agg vs) (.agg vs)=true:=by
 obtain⟨v,rfl,hk⟩:=h;exact nX (dK (gM _ _) (dK (gM _ _) (dK (gM _ _) (dK (gM _ _) (dK (gM _ _) (dK hk.nW kR))))))
theorem qN.beq {K:KP} {k:Nat} {x:XC} {vs:List AV} (h:qN K k x vs):dQ (.agg vs) (.agg vs)=true:=by
 obtain⟨v,rfl,hk⟩:=h;exact nX (dK (gM _ _) (dK hk.nW kR))
theorem cm {α:Type} {l:List α} {i:Nat} (h:bG (.ofNat i) (.ofNat l.length)=true):∃x,l[i]?=some x/\i<l.length:=by
 rw[eo,decide_eq_true_iff] at h;have h:i<l.length:=Int.ofNat_lt.1 h;exact⟨l[i],gC h,h⟩
end Go.Ev
namespace Go.Ev
variable [Env]
def dS (n:Int) (vs:List AV):Prop:=vs= [.int .i64 n]
def RL {α:Type} (K:KP) (m:Nat) (R:α->List AV->Prop) (l:List α) (vs:List AV):Prop:=∃v,vs= [v]/\bJ K m R l v
theorem qZ {a b:Int}:bq a b=cS a b:=by rw[dq,Bool.eq_iff_iff,decide_eq_true_iff,cP]
theorem ub {α:Type} {f:α->Bool} {l:List α} {i:Nat} {x:α} (ha:(l.take i).any f=false) (hx:l[i]?=some x) (h:f x=false):(l.take (i+1)).any f=false:=by
 rw[List.take_add_one,hx,List.any_append,ha];simp[h]
theorem By {α:Type} {f:α->Bool} {l:List α} {i:Nat} {x:α} (hx:l[i]?=some x) (h:f x=true):l.any f=true:=by
 rw[List.any_eq_true];exact⟨x,gB_ hx,h⟩
theorem kq {α:Type} {f:α->Bool} {l:List α} {i:Nat} (ha:(l.take i).any f=false) (h:l.length<=i):l.any f=false:=by
 rw[tL_ h] at ha;exact ha
def BW (xs ys:List Int):Bool:=
 List.rec (motive:=fun _=>List Int->Bool) (fun ys=>List.rec (motive:=fun _=>Bool) true (fun _ _ _=>false) ys)
  (fun x _ ih ys=>List.rec (motive:=fun _=>Bool) false (fun y r _=>bif bq x y then ih r else false) ys) xs ys
theorem C9:∀(xs ys:List Int),BW xs ys=cS xs ys
 | [],[]=>by rw[show BW [] []=true from rfl,eq_comm,cP]
 | [],_::_=>by rw[show BW [] (_::_)=false from rfl,eq_comm,lD];simp
 | _::_,[]=>by rw[show BW (_::_) []=false from rfl,eq_comm,lD];simp
 | x::xs,y::ys=>by
  show(bif bq x y then BW xs ys else false)=_;rw[C9 xs ys,dq,Bool.eq_iff_iff,cP]
  by_cases h:x=y
  ·subst h;simp[cP]
  simp[h]
def ints (xs:List Int):List AV:=xs.map (.int .i64)
def Gw:Option TypeDesc->Bool
 | some (.int .i64)=>true
 | _=>false
def si (P:Program) (fs:List Field):Nat->Bool:=List.rec (motive:=fun _=>Nat->Bool) (fun _=>true) (fun f _ ih k=>Gw (P.underlying f.type) && (Nat.beq f.offset k && ih (k+1))) fs
def iQ (P:Program) (t:TypeId) (n:Nat):Bool:=
 match structOf P t with
 | some fs=>si P fs.toList 0 && (Nat.beq fs.toList.length n && (!P.eqGuardType P.depth t && (!P.stoodInHeld t && jN fs.toList)))
 | none=>false
theorem pT {P:Program}:∀(fs:List Field) (k:Nat) (xs ys:List Int),si P fs k=true->xs.length=k+fs.length->ys.length=k+fs.length->eqFields P fs (ints xs) (ints ys)=some (BW (xs.drop k) (ys.drop k))
 | [],k,xs,ys,_,h1,h2=>by
  rw[List.drop_eq_nil_of_le (by simp at h1;omega),List.drop_eq_nil_of_le (by simp at h2;omega)];rfl
 | f::fs,k,xs,ys,h,h1,h2=>by
  have h':(Gw (P.underlying f.type) && (Nat.beq f.offset k && si P fs (k+1)))=true:=h;simp only[bA_] at h';obtain⟨e1,e2,e3⟩:=h';have hk:f.offset=k:=nB e2
  have hu:P.underlying f.type=some (.int .i64):=by
   unfold Gw at e1;split at e1
   ·assumption
   cases e1
  have l1:k<xs.length:=by simp at h1;omega
  have l2:k<ys.length:=by simp at h2;omega
  have n1:nth (ints xs) f.offset=some (.int .i64 xs[k]):=by rw[fC,hk,ints,gM_,gC l1];rfl
  have n2:nth (ints ys) f.offset=some (.int .i64 ys[k]):=by rw[fC,hk,ints,gM_,gC l2];rfl
  have ih:=pT fs (k+1) xs ys e3 (by simp at h1⊢;omega) (by simp at h2⊢;omega)
  show(match P.underlying f.type,nth (ints xs) f.offset,nth (ints ys) f.offset with
   | some .bool,some (.bool a),some (.bool b)=>bif (bif a then b else(bif b then false else true)) then eqFields P fs (ints xs) (ints ys) else some false
   | some (.int _),some (.int j a),some (.int k b)=>bif q7 j k then(bif bq a b then eqFields P fs (ints xs) (ints ys) else some false) else none
   | some .string,some (.str a),some (.str b)=>bif fF a b then eqFields P fs (ints xs) (ints ys) else some false
   | some (.struct gs),_,_=>_
   | some (.array m e),_,_=>_
   | _,_,_=>none)=_
  rw[hu,n1,n2,List.drop_eq_getElem_cons l1,List.drop_eq_getElem_cons l2,ih];show(bif bq xs[k] ys[k] then _ else some false)=some (bif bq xs[k] ys[k] then BW (xs.drop (k+1)) (ys.drop (k+1)) else false);cases bq xs[k] ys[k]<;>rfl
theorem uy {P:Program} {t:TypeId} {n:Nat} {xs ys:List Int} (h:iQ P t n=true) (hx:xs.length=n) (hy:ys.length=n):BU P t (.agg (ints xs)) (.agg (ints ys))=some (cS xs ys):=by
 unfold iQ at h;split at h
 ·rename_i fs hs;simp only[bA_,Bool.not_eq_true'] at h;obtain⟨h1,h2,h3,h4,h5⟩:=h;have hn:fs.toList.length=n:=nB h2;unfold BU;dsimp only;rw[hs];dsimp only;rw[h3,h4,h5];simp only[Bool.not_true,Bool.or_false,cond_false];rw[pT fs.toList 0 xs ys h1 (by omega) (by omega),List.drop_zero,List.drop_zero,C9]
 cases h
section
variable {P:Program} {G:Cx} {ev:Operand->Option AV} {σ:aD}
theorem HD {t r:TypeId} {x y:Operand} {n:Nat} {ca cb:List Int} (h:iQ P t n=true) (ha:ca.length=n) (hb:cb.length=n) (hx:ev x=some (.agg (ints ca))) (hy:ev y=some (.agg (ints cb))):dJ P G ev σ (.binOp .eql t x y r)= .val (.bool (cS ca cb)) σ:=by
 refine az hx hy ?_;show lN P .eql t _ _=_;unfold lN;dsimp only;rw[uy h ha hb]
theorem xN {t r:TypeId} {x y:Operand} {n:Nat} {ca cb:List Int} (h:iQ P t n=true) (ha:ca.length=n) (hb:cb.length=n) (hx:ev x=some (.agg (ints ca))) (hy:ev y=some (.agg (ints cb))):dJ P G ev σ (.binOp .neq t x y r)= .val (.bool (bif cS ca cb then false else true)) σ:=by
 refine az hx hy ?_;show lN P .neq t _ _=_;unfold lN;dsimp only;rw[uy h ha hb]
end
structure dU where
 jm:Int
 index:Int
structure cW where
 kind:Int
 loc:Int
 order:Int
 read:Int
 write:Int
structure XG where
 init:List Int
 threads:List (List cW)
 from_:List (List dU)
 order:List (List dU)
def dU.ints (x:dU):List Int:=[x.jm,x.index]
def cW.ints (x:cW):List Int:=[x.kind,x.loc,x.order,x.read,x.write]
theorem dU.same {x y:dU}:cS x.ints y.ints=cS x y:=by
 rw[Bool.eq_iff_iff,cP,cP];cases x;cases y;simp[dU.ints]
theorem cW.same {x y:cW}:cS x.ints y.ints=cS x y:=by
 rw[Bool.eq_iff_iff,cP,cP];cases x;cases y;simp[cW.ints]
def DZ (x:dU) (vs:List AV):Prop:=vs=ints x.ints
def j0 (x:cW) (vs:List AV):Prop:=vs=ints x.ints
structure kj (K:KP) (g:XG) (a b c d:AV):Prop where
 init:bJ K 1 dS g.init a
 threads:bJ K 1 (RL K 5 j0) g.threads b
 from_:bJ K 1 (RL K 2 DZ) g.from_ c
 order:bJ K 1 (RL K 2 DZ) g.order d
theorem lV {a b:XG}:cS a b=(cS a.init b.init && (cS a.threads b.threads && (cS a.from_ b.from_ && cS a.order b.order))):=by
 rw[Bool.eq_iff_iff,cP];cases a;cases b;simp[cP]
def dz (e:cW):Bool:=bif bq e.kind 1 then true else bq e.kind 3
def bC (e:cW):Bool:=bif bq e.kind 2 then true else bq e.kind 3
def aX (b:Bool):Bool:=bif b then false else true
def bP (e:cW) (n:Int):Bool:=
 bif bG e.kind 1 then false else bif bG 4 e.kind then false else bif bG e.order 1 then false else bif bG 6 e.order then false else
 bif (bif (!dz e) then aX (bq e.read 0) else false) then false else bif (bif (!bC e) then aX (bq e.write 0) else false) then false else
 bif bq e.kind 4 then bq e.loc 0 else bif aX (bG e.loc 0) then bG e.loc n else false
def eH (g:XG) (id:dU):Option cW:=
 match id.jm,id.index with
 | .ofNat 0,.ofNat i=>(g.init[i]?).map fun v=>⟨2,i,1,0,v⟩
 | .ofNat (t+1),.ofNat i=>(g.threads[t]?).bind (·[i]?)
 | _,_=>none
def zd (x:Option cW):cW:=x.getD ⟨0,0,0,0,0⟩
theorem se {g:XG} {th ix:Int} (h:bG th 0=true):eH g ⟨th,ix⟩=none:=by
 rw[eo,decide_eq_true_iff] at h;cases th with
 | ofNat t=>exact absurd h (by simp)
 | negSucc t=>rfl
theorem oZ {g:XG} {th ix:Int} (h:bG ix 0=true):eH g ⟨th,ix⟩=none:=by
 rw[eo,decide_eq_true_iff] at h;cases ix with
 | ofNat t=>exact absurd h (by simp)
 | negSucc t=>cases th with
  | ofNat n=>cases n<;>rfl
  | negSucc n=>rfl
theorem zO {g:XG} {th ix:Int} (h:bG (.ofNat g.threads.length) th=true):eH g ⟨th,ix⟩=none:=by
 rw[eo,decide_eq_true_iff] at h;cases th with
 | negSucc t=>rfl
 | ofNat t=>
  have h:g.threads.length<t:=Int.ofNat_lt.1 h;cases t with
  | zero=>omega
  | succ t=>
   cases ix with
   | negSucc n=>rfl
   | ofNat n=>
    show(g.threads[t]?).bind _=none;rw[gN_ (by omega)];rfl
theorem mw {n:Int} (h:bG n 0=false):∃m:Nat,n= .ofNat m:=by
 rw[eo,decide_eq_false_iff_not] at h;cases n with
 | ofNat m=>exact⟨m,rfl⟩
 | negSucc m=>exact absurd (Int.negSucc_lt_zero m) h
theorem DK {n:Nat} (h:bq (.ofNat n) 0=false):∃m:Nat,n=m+1:=by
 cases n with
 | zero=>cases h
 | succ m=>exact⟨m,rfl⟩
theorem tQ {t:Nat} (h:t<=9223372036854775807):wr .i64 (Int.sub (.ofNat (t+1)) 1)= .ofNat t:=by
 have e:Int.sub (.ofNat (t+1)) 1= .ofNat t:=by
  show((t+1:Nat):Int)-1=(t:Int);omega
 rw[e];show(bif Nat.ble t 9223372036854775807 then _ else _)=_;rw[show Nat.ble t 9223372036854775807=true by rw[nE_];exact h];rfl
theorem mR {a b:Nat} (h:bG (.ofNat a) (.ofNat b)=false):b<=a:=br h
theorem ry {a b:Nat} (h:(bif bG (.ofNat a) (.ofNat b) then false else true)=false):a<b:=bm (bx h)
theorem re {a b:Nat} (h:(bif bG (.ofNat a) (.ofNat b) then false else true)=true):b<=a:=br (bM h)
section
variable {P:Program} {G:Cx} {n:Nat} {t:PT AV} {σ:aD} {Q:Ex->PT AV->aD->Prop}
theorem yK {fn:Func} {j k ty b m e:Nat} {ro:Bool} {cells:List AV} {v:AV} (hr:fn.results.toList= [.cell j ty,.tmp k]) (h1:t.get j=some (.ptr b 0)) (hm:σ.m.get b=some (.row cells e ro)) (ha:dE P ty=some (some m)) (hn:cells.length=m) (h2:t.get k=some v):dX P fn t σ=some (.tuple [.agg cells,v]):=by
 unfold dX;rw[hr]
 have e1:fZ P t σ (.cell j ty)=some (AV.agg cells):=by
  show(match t.get (posOf j) with
   | some (.ptr b off)=>match σ.m.get b with
    | some (.row cells _ _)=>match dE P ty with
     | some (some n)=>bif Nat.ble (off+n) (cD cells) then some (AV.agg (takeN (dy cells off) n)) else none
     | some none=>nth cells off
     | none=>none
    | _=>none
   | _=>none)=_
  rw[show t.get (posOf j)=some (.ptr b 0) from h1];dsimp only;rw[hm];dsimp only;rw[ha];dsimp only;rw[bz,hn,nA_,show Nat.ble m m=true by rw[nE_];exact nR_ _,dp,dO,List.drop_zero,<-hn,List.take_length];rfl
 have e2:fZ P t σ (.tmp k)=some v:=h2
 have:cF (fZ P t σ) [.cell j ty,.tmp k]=some [AV.agg cells,v]:=by
  unfold cF;simp only[e1,e2]
 rw[this]
theorem bS {fn:Func} {R:AV->aD->Prop} {j k ty b m e:Nat} {ro:Bool} {cells:List AV} {v:AV} (hr:fn.results.toList= [.cell j ty,.tmp k]) (h1:t.get j=some (.ptr b 0)) (hm:σ.m.get b=some (.row cells e ro)) (ha:dE P ty=some (some m)) (hn:cells.length=m) (h2:t.get k=some v) (hR:R (.tuple [.agg cells,v]) σ):Er P fn R .ret t σ:=
 ⟨.inr rfl,_,yK hr h1 hm ha hn h2,hR⟩
end
end Go.Ev
namespace Go.Ev
variable [Env]
def di (g:XG) (id from_:dU):Bool:=
 bif !dz (zd (eH g id)) then cS [from_.jm,from_.index] [0,0] else
 bif (eH g from_).isSome then
  bif (bif cS [from_.jm,from_.index] [id.jm,id.index] then false else true) then
   bif bC (zd (eH g from_)) then
    bif bq (zd (eH g from_)).loc (zd (eH g id)).loc then bq (zd (eH g from_)).write (zd (eH g id)).read else false
   else false
  else false
 else false
def ei (g:XG):Bool:=bif bG 4 (.ofNat g.threads.length) then true else bif bG 6 (.ofNat g.init.length) then true else g.threads.any fun l=>bG 14 (.ofNat l.length)
abbrev LM:=List (List Int×Int)
inductive eK (n:Nat):List eJ->LM->Prop
 | nil:eK n [] []
 | cons {e:eJ} {k:List Int} {v:Int} {es:List eJ} {m:LM}:k.length=n->e.key= .agg (ints k)->e.val= .int .i64 v->eK n es m->eK n (e::es) ((k,v)::m)
def pH:LM->List Int->Nat->Option (Nat×Int)
 | [],_,_=>none
 | (k',v)::m,k,i=>bif cS k k' then some (i,v) else pH m k (i+1)
def gD (m:LM) (k:List Int):Option Int:=(pH m k 0).map (·.2)
def ru (m:LM) (k:List Int) (v:Int):LM:=
 match pH m k 0 with
 | some (i,_)=>m.set i (k,v)
 | none=>m++[(k,v)]
def mS (m:LM) (k:List Int):LM:=
 match pH m k 0 with
 | some (i,_)=>m.eraseIdx i
 | none=>m
theorem eK.length {n:Nat} {es:List eJ} {m:LM} (h:eK n es m):es.length=m.length:=by
 induction h with
 | nil=>rfl
 | cons _ _ _ _ ih=>simp[ih]
theorem eK.set {n:Nat} {es:List eJ} {m:LM} (h:eK n es m) {e:eJ} {k:List Int} {v:Int} (h1:k.length=n) (h2:e.key= .agg (ints k)) (h3:e.val= .int .i64 v):∀i,eK n (es.set i e) (m.set i (k,v)):=by
 induction h with
 | nil=>intro i;exact .nil
 | cons a b c d ih=>
  intro i;cases i with
  | zero=>exact .cons h1 h2 h3 d
  | succ i=>exact .cons a b c (ih i)
theorem eK.snoc {n:Nat} {es:List eJ} {m:LM} (h:eK n es m) {e:eJ} {k:List Int} {v:Int} (h1:k.length=n) (h2:e.key= .agg (ints k)) (h3:e.val= .int .i64 v):eK n (es++[e]) (m++[(k,v)]):=by
 induction h with
 | nil=>exact .cons h1 h2 h3 .nil
 | cons a b c d ih=>exact .cons a b c ih
theorem eK.erase {n:Nat} {es:List eJ} {m:LM} (h:eK n es m):∀i,eK n (es.eraseIdx i) (m.eraseIdx i):=by
 induction h with
 | nil=>intro i;exact .nil
 | cons a b c d ih=>
  intro i;cases i with
  | zero=>exact d
  | succ i=>exact .cons a b c (ih i)
theorem eK.at {n:Nat} {es:List eJ} {m:LM} (h:eK n es m):∀{i:Nat} {k:List Int} {v:Int},m[i]?=some (k,v)->∃e,es[i]?=some e/\k.length=n/\e.key= .agg (ints k):=by
 induction h with
 | nil=>intro i k v hh;simp at hh
 | cons a b c d ih=>
  intro i k v hh;cases i with
  | zero=>simp at hh;obtain⟨rfl,rfl⟩:=hh;exact⟨_,rfl,a,b⟩
  | succ i=>simpa using ih (by simpa using hh)
theorem uu:∀(es:List eJ) (i:Nat),ur es i=es.eraseIdx i
 | [],_=>rfl
 | _::_,0=>rfl
 | e::es,i+1=>by
  show e::ur es i=e::es.eraseIdx i;rw[uu es i]
theorem su:∀{m:LM} {k:List Int} {i j:Nat} {v:Int},pH m k i=some (j,v)->i<=j/\m[j-i]?=some (k,v)
 | [],k,i,j,v,h=>by cases h
 | (k',v')::m,k,i,j,v,h=>by
  have h':(bif cS k k' then some (i,v') else pH m k (i+1))=some (j,v):=h;cases hs:cS k k' with
  | true=>
   rw[hs] at h';cases h';rw[cP] at hs;subst hs;simp
  | false=>
   rw[hs] at h';obtain⟨h1,h2⟩:=su h';refine⟨by omega,?_⟩;rw[show j-i=j-(i+1)+1 by omega];simpa using h2
theorem pQ:∀(xs:List Int),nZ (ints xs) (ints xs)=true
 | []=>rfl
 | x::xs=>by
  have e:qu (.int .i64 x) (.int .i64 x)=some true:=by
   show(bif q7 .i64 .i64 then some (bq x x) else none)=some true;rw[dq];simp[q7]
  show(match qu (.int .i64 x) (.int .i64 x) with | some true=>nZ (ints xs) (ints xs) | _=>false)=true;rw[e];exact pQ xs
section
variable {P:Program}
theorem uF {t:TypeId} {fs:Array Field} {n:Nat} (hu:P.underlying t=some (.struct fs)) (hs:iQ P t n=true) {k:List Int} (hk:k.length=n) {es:List eJ} {m:LM} (h:eK n es m):∀i,nJ P t (.agg (ints k)) es i=some ((pH m k i).map fun x=>(x.1,.int .i64 x.2)):=by
 induction h with
 | nil=>intro i;rfl
 | @cons e k' v es m a b c d ih=>
  intro i
  have hq:nM P t (.agg (ints k)) e.key=some (cS k k'):=by
   unfold nM;rw[hu,b];exact uy hs hk a
  show(match nM P t (.agg (ints k)) e.key with
   | some true=>some (some (i,e.val))
   | some false=>nJ P t (.agg (ints k)) es (i+1)
   | none=>none)=some (Option.map _ (bif cS k k' then some (i,v) else pH m k (i+1)))
  rw[hq];cases cS k k' with
  | true=>rw[c];rfl
  | false=>exact ih (i+1)
structure Bo (P:Program) (t kt et:TypeId) (n:Nat):Prop where
 ty:P.underlying t=some (.map kt et)
 plain:plainKey P kt=true
 ints:iQ P kt n=true
 zero:eR P et=some (.int .i64 0)
 shape:∀k:List Int,k.length=n->lh P kt (.agg (Go.Ev.ints k))=true
theorem ke {t:TypeId} {n:Nat} (h:iQ P t n=true):∃fs,P.underlying t=some (.struct fs):=by
 unfold iQ at h;split at h
 ·rename_i fs hs;unfold structOf at hs;rw[m6] at hs;split at hs
  ·rename_i fs' hu;exact⟨_,hu⟩
  cases hs
 cases h
variable {G:Cx} {ev:Operand->Option AV} {σ:aD}
theorem HH {t kt et:TypeId} {n:Nat} (hT:Bo P t kt et n) {b:Nat} {es:List eJ} {ck:Nat} {m:LM} (hm:eK n es m) (hb:σ.m.get b=some (.map es ck)) {mo ko xo:Operand} {k:List Int} {v:Int} (hk:k.length=n) (h1:ev mo=some (.map b)) (h2:ev ko=some (.agg (ints k))) (h3:ev xo=some (.int .i64 v)):
  ∃es' ck',dJ P G ev σ (.mapUpdate t mo ko xo)= .skip (σ.setObj b (.map es' ck'))/\eK n es' (ru m k v):=by
 obtain⟨fs,hu⟩:=ke hT.ints;have hf:=uF hu hT.ints hk hm 0
 have key:∃es' ck',lY P σ t (.map b) (.agg (ints k)) (.int .i64 v)=some (σ.setObj b (.map es' ck'))/\eK n es' (ru m k v):=by
  unfold lY ru;rw[hT.ty];dsimp only;rw[hb];dsimp only;rw[hT.plain,hT.shape k hk];simp only[Bool.and_self,cond_true];rw[hf];cases hl:pH m k 0 with
  | none=>exact⟨_,_,rfl,by rw[dw];exact hm.snoc hk rfl rfl⟩
  | some x=>
   obtain⟨i,v0⟩:=x;have hi:=(su hl).2;rw[Nat.sub_zero] at hi;obtain⟨e,he,_,hk'⟩:=hm.at hi;simp only[Option.map_some];rw[fC,he];dsimp only;have hs:sameKey e.key (.agg (ints k))=true:=by rw[hk'];exact pQ k
   rw[hs];exact⟨_,_,rfl,by unfold yO;rw[sH];exact hm.set (e:={key:=.agg (ints k),val:=.int .i64 v,born:=e.born}) hk rfl rfl i⟩
 obtain⟨es',ck',h4,h5⟩:=key;refine⟨es',ck',pD rfl ?_,h5⟩;simp only[gQ,h1,h2,h3,h4]
theorem HG {t kt et:TypeId} {n:Nat} (hT:Bo P t kt et n) {b:Nat} {es:List eJ} {ck:Nat} {m:LM} (hm:eK n es m) (hb:σ.m.get b=some (.map es ck)) {mo ko:Operand} {k:List Int} (hk:k.length=n) (h1:ev mo=some (.map b)) (h2:ev ko=some (.agg (ints k))):
  dJ P G ev σ (.lookup t mo ko true)= .val (.tuple [.int .i64 ((gD m k).getD 0),.bool (gD m k).isSome]) σ:=by
 obtain⟨fs,hu⟩:=ke hT.ints;have hf:=uF hu hT.ints hk hm 0;refine zb rfl ?_;simp only[fV,hT.ty,h2,h1,hb,hT.plain,hT.shape k hk,Bool.and_self,cond_true,hf,hT.zero];unfold gD;cases pH m k 0 with
 | none=>rfl
 | some x=>rfl
theorem HC {c:Call} {t kt et:TypeId} {n:Nat} (hT:Bo P t kt et n) {b:Nat} {es:List eJ} {ck:Nat} {m:LM} (hm:eK n es m) (hb:σ.m.get b=some (.map es ck)) {mo ko:Operand} {k:List Int} (hk:k.length=n) (hc:c.callee= .builtin .delete) (ht:c.argTypes[0]?=some t) (ha:c.args.toList= [mo,ko]) (h1:ev mo=some (.map b)) (h2:ev ko=some (.agg (ints k))):
  ∃es',dJ P G ev σ (.call c)= .val (.tuple []) (σ.setObj b (.map es' ck))/\eK n es' (mS m k):=by
 obtain⟨fs,hu⟩:=ke hT.ints;have hf:=uF hu hT.ints hk hm 0
 have key:∃es',oY P σ c.argTypes (.map b) (.agg (ints k))=some (σ.setObj b (.map es' ck))/\eK n es' (mS m k):=by
  unfold oY mS;rw[ht];dsimp only;rw[hT.ty];dsimp only;rw[hb];dsimp only;rw[hT.plain,hT.shape k hk];simp only[Bool.and_self,cond_true];rw[hf];cases hl:pH m k 0 with
  | none=>exact⟨_,rfl,hm⟩
  | some x=>
   obtain⟨i,v0⟩:=x;exact⟨_,rfl,by rw[uu];exact hm.erase i⟩
 obtain⟨es',h4,h5⟩:=key;refine⟨es',pD (by simp[kindOf,hc]) ?_,h5⟩
 have he:wW ev [mo,ko]=some [.map b,.agg (ints k)]:=by
  unfold wW cF;simp only[h1,h2]
 simp only[gQ,hc,ha,he,h4]
theorem HF {c:Call} {t kt et:TypeId} {n:Nat} (hT:Bo P t kt et n) {b:Nat} {es:List eJ} {ck:Nat} {m:LM} (hm:eK n es m) (hb:σ.m.get b=some (.map es ck)) {mo:Operand} (hc:c.callee= .builtin .len) (ht:c.argTypes[0]?=some t) (ha:c.args.toList= [mo]) (h1:ev mo=some (.map b)):
  dJ P G ev σ (.call c)= .val (.int .i64 (.ofNat m.length)) σ:=by
 refine zb (by simp[kindOf,hc,isMap,ht,hT.ty]) ?_;simp only[fV,hc,ht,ha,hT.ty,h1,hb,bz,hm.length]
end
section
variable {P:Program} {G:Cx} {n:Nat} {t:PT AV} {σ:aD} {K:KP} {L:Own} {Q:Ex->PT AV->aD->Prop} {ops:Array Oper} {o:Oper} {l:List Oper}
theorem Lm (hs:St σ K L) {t':Nat->PT AV} (hw:bu ops t o=some true) (hv:dJ P G (bo G t) σ o.op= .val (.map σ.next) (σ.alloc (.map [] 0))) (hp:∀b,cO t n o.dst (.map b)=some (t' b))
  (h:∀(σ':aD) (b:Nat),St σ' K ((b,.map [] 0)::L)->bZ P G ops n l (t' b) σ' Q):bZ P G ops n (o::l) t σ Q:=
 aa hw hv (hp _) (h _ _ (hs.alloc _))
theorem Ft {ev:Operand->Option AV} {ty:TypeId}:dJ P G ev σ (.makeMap ty none)= .val (.map σ.next) (σ.alloc (.map [] 0)):=by
 exact rY (op:=.makeMap ty none) (mk:=.map) (ob:=.map [] 0) rfl rfl
theorem E3 {ty kt et:TypeId} {kn:Nat} (hT:Bo P ty kt et kn) {b:Nat} {es:List eJ} {ck:Nat} {m:LM} {x:Nat×bQ} (hm:eK kn es m) (hs:St σ K (x::(b,.map es ck)::L)) {mo ko xo:Operand} {k:List Int} {v:Int} {t':PT AV} (hk:k.length=kn) (hw:bu ops t o=some true) (ho:o.op= .mapUpdate ty mo ko xo)
  (h1:bo G t mo=some (.map b)) (h2:bo G t ko=some (.agg (ints k))) (h3:bo G t xo=some (.int .i64 v)) (hp:cO t n o.dst unit=some t')
  (h:∀σ' es' ck',St σ' K (x::(b,.map es' ck')::L)->eK kn es' (ru m k v)->bZ P G ops n l t' σ' Q):bZ P G ops n (o::l) t σ Q:=by
 obtain⟨es',ck',e1,e2⟩:=HH (G:=G) hT hm (hs.get 1 rfl) hk h1 h2 h3;exact kZ hw (by rw[ho];exact e1) hp (h _ _ _ (hs.I1 _) e2)
theorem E2 {c:Call} {ty kt et:TypeId} {kn:Nat} (hT:Bo P ty kt et kn) {b:Nat} {es:List eJ} {ck:Nat} {m:LM} {x:Nat×bQ} (hm:eK kn es m) (hs:St σ K (x::(b,.map es ck)::L)) {mo ko:Operand} {k:List Int} {t':PT AV} (hk:k.length=kn) (hw:bu ops t o=some true) (ho:o.op= .call c)
  (hc:c.callee= .builtin .delete) (ht:c.argTypes[0]?=some ty) (ha:c.args.toList= [mo,ko]) (h1:bo G t mo=some (.map b)) (h2:bo G t ko=some (.agg (ints k))) (hp:cO t n o.dst (.tuple [])=some t')
  (h:∀σ' es',St σ' K (x::(b,.map es' ck)::L)->eK kn es' (mS m k)->bZ P G ops n l t' σ' Q):bZ P G ops n (o::l) t σ Q:=by
 obtain⟨es',e1,e2⟩:=HC (G:=G) hT hm (hs.get 1 rfl) hk hc ht ha h1 h2;exact aa hw (by rw[ho];exact e1) hp (h _ _ (hs.I1 _) e2)
end
end Go.Ev
namespace Go.Ev
variable [Env]
def B9 (t:Nat) (m:LM) (n:Nat) (e:cW):LM:=bif bC e then ru m [.ofNat (t+1),.ofNat n] e.loc else m
def tD (t:Nat):List cW->Nat->LM->LM
 | [],_,m=>m
 | e::l,n,m=>tD t l (n+1) (B9 t m n e)
def rj:List (List cW)->Nat->LM->LM
 | [],_,m=>m
 | l::r,t,m=>rj r (t+1) (tD t l 0 m)
def mJ (loc:Nat):List dU->LM->Option LM
 | [],m=>some m
 | id::l,m=>bif (gD m id.ints).isSome then(bif bq ((gD m id.ints).getD 0) (.ofNat loc) then mJ loc l (mS m id.ints) else none) else none
def nP:List (List dU)->Nat->LM->Option LM
 | [],_,m=>some m
 | l::r,loc,m=>(mJ loc l m).bind (nP r (loc+1))
def ej (g:XG):Bool:=
 match nP g.order 0 (rj g.threads 0 []) with
 | some m=>bq (.ofNat m.length) 0
 | none=>false
theorem cL {α:Type} {l:List α} {i:Nat} {x:α} (h:l[i]?=some x):l.drop i=x::l.drop (i+1):=by
 obtain⟨hlt,hx⟩:=gA.1 h;rw[List.drop_eq_getElem_cons hlt,hx]
theorem fy {α:Type} {l:List α} {i:Nat} (h:l.length<=i):l.drop i= []:=List.drop_eq_nil_of_le h
end Go.Ev
namespace Go.Ev
theorem mT {b:Bool} (h:(!b)=true):b=false:=by cases b<;>simp_all
theorem fU {b:Bool} (h:(!b)=false):b=true:=by cases b<;>simp_all
end Go.Ev
namespace Go.Ev
variable [Env]
def wx {α:Type} (p:α->Bool):List α->Nat->Int
 | [],_=>-1
 | x::r,i=>bif p x then .ofNat i else wx p r (i+1)
theorem z5 {α:Type} {p:α->Bool}:∀(l:List α) (i:Nat),(bif bG (wx p l i) 0 then false else true)=l.any p
 | [],_=>rfl
 | x::r,i=>by
  show(bif bG (bif p x then .ofNat i else wx p r (i+1)) 0 then false else true)=_;rw[List.any_cons];cases p x with
  | true=>rfl
  | false=>exact z5 r (i+1)
def xq (g:XG) (t n:Nat) (e:cW) (f:dU):Bool:=bif bP e (.ofNat g.init.length) then di g ⟨.ofNat (t+1),.ofNat n⟩ f else false
def qK (g:XG) (t:Nat):List cW->List dU->Nat->Bool
 | e::l,f::q,n=>bif xq g t n e f then qK g t l q (n+1) else false
 | [],_,_=>true
 | _::_,[],_=>false
def lA (g:XG):List (List cW)->List (List dU)->Nat->Bool
 | l::r,f::q,t=>bif bq (.ofNat f.length) (.ofNat l.length) then(bif qK g t l f 0 then lA g r q (t+1) else false) else false
 | [],_,_=>true
 | _::_,[],_=>false
def cr (g:XG):Int:=
 bif ei g then 3 else bif bq (.ofNat g.from_.length) (.ofNat g.threads.length) then(bif bq (.ofNat g.order.length) (.ofNat g.init.length) then(bif lA g g.threads g.from_ 0 then(bif ej g then 0 else 2) else 2) else 2) else 2
theorem vR:∀(l:List AV) (off:Nat),dA [] l off=l
 | [],_=>rfl
 | x::l,0=>rfl
 | x::l,off+1=>by
  show x::dA [] l off=x::l;rw[vR l off]
def pG (P:Program) (e:TypeId) (m:Nat):Bool:=
 match P.info? e with
 | some j=>Nat.beq j.size m && (Nat.ble 1 j.size && (Nat.ble j.bytes 65536 && ((j.zero.bind ow).any fun z=>(cC z).any fun cs=>Nat.beq (cD cs) j.size)))
 | none=>false
theorem sS:∀(l r:List AV),cj l=true->cj r=true->cj (l++r)=true
 | [],r,_,h=>h
 | v::l,r,h,h'=>by
  have h1:(bif il v then cj l else false)=true:=h;cases hv:il v with
  | false=>rw[hv] at h1;cases h1
  | true=>rw[hv] at h1;exact ak hv (sS l r h1 h')
theorem te {m:Nat}:∀(n:Nat) (cells:List AV),cells.length=n*m->(∀i,i<n->cj ((cells.drop (i*m)).take m)=true)->cj cells=true
 | 0,cells,h,_=>by
  rw[Nat.zero_mul] at h;rw[eN_ h];rfl
 | n+1,cells,h,hh=>by
  have e:cells=cells.take m++cells.drop m:=(List.take_append_drop m cells).symm;rw[Nat.succ_mul] at h;rw[e];refine sS _ _ (by have:=hh 0 (by omega);rwa[Nat.zero_mul,List.drop_zero] at this) (te (m:=m) n (cells.drop m) (by rw[lD_];omega) fun i hi=>?_);have:=hh (i+1) (by omega);rwa[show(i+1)*m=m+i*m by rw[Nat.succ_mul,Nat.add_comm],<-List.drop_drop] at this
section
variable {P:Program} {G:Cx} {σ:aD} {K:KP} {L:Own}
theorem pz {α:Type} {m:Nat} {R:α->List AV->Prop} {l:List α} {v:AV} (ar:St σ K L) (h:bJ K m R l v) (hleaf:∀x vs,R x vs->cj vs=true):
  ∃news,nC σ m v=some (l.length,news)/\news.length=l.length*m/\cj news=true/\∀(i:Nat) (x:α),l[i]?=some x->R x ((news.drop (i*m)).take m):=by
 rcases h with ⟨rfl,rfl⟩ | ⟨b,off,c,cells,e,ro,rfl,h2,h3,h4,h5,h6⟩
 ·exact⟨[],rfl,(Nat.zero_mul m).symm,rfl,fun i x hx=>by simp at hx⟩
 have hR:∀(i:Nat) (x:α),l[i]?=some x->R x ((((cells.drop off).take (l.length*m)).drop (i*m)).take m):=fun i x hx=>by
  have hlt:i<l.length:=(gA.1 hx).1;have hle:(i+1)*m<=l.length*m:=nM_ _ hlt;rw[Nat.succ_mul] at hle;rw[List.drop_take,List.take_take,Nat.min_eq_left (by omega),List.drop_drop];exact h6 i x hx
 have hn:((cells.drop off).take (l.length*m)).length=l.length*m:=by rw[lT_,lD_];omega
 refine⟨(cells.drop off).take (l.length*m),?_,hn,te l.length _ hn fun i hi=>hleaf _ _ (hR i l[i] (gC hi)),hR⟩;unfold nC;dsimp only;rw[ar.eW h3];dsimp only;rw[bz,show Nat.ble (off+l.length*m) cells.length=true by rw[nE_];exact h4,dp,dO];rfl
theorem we {α:Type} {m e:Nat} {R:α->List AV->Prop} {l2:List α} {v2:AV} {b len1 e1:Nat} {fp:List AV} {c:rZ} {ts:Array TypeId} {t:TypeId} (hs:St σ K ((b,.row fp e1 false)::L)) (hx:bJ K m R l2 v2) (hleaf:∀x vs,R x vs->cj vs=true) (hn:l2.length<=1048576)
  (hc1:fp.length=len1*m) (hl1:len1<=1048576) (hcap:c= .known len1∨(c= .upto m/\e1=e)) (ht:ts[0]?=some t) (hu:P.underlying t=some (.slice e)) (ha:pG P e m=true) (h2:dj P ts[1]?=true):
  ∃σ' b' c' news e',fl P σ ts (.slice b 0 len1 c) v2= .val (.slice b' 0 (len1+l2.length) c') σ'/\St σ' K ((b',.row (fp++news) e' false)::L)/\news.length=l2.length*m/\(∀(i:Nat) (x:α),l2[i]?=some x->R x ((news.drop (i*m)).take m))/\(c'= .known (len1+l2.length)∨(c'= .upto m/\e'=e)):=by
 obtain⟨news,s1,s2,s3,s4⟩:=pz hs hx hleaf;unfold pG at ha;split at ha
 ·rename_i j hj;simp only[bA_] at ha;obtain⟨a1,a2,a3,a4⟩:=ha;have hm:j.size=m:=nB a1;subst hm;have hz:((P.info? e).any fun j=>(j.zero.bind ow).any fun z=>(cC z).any fun cs=>Nat.beq (cD cs) j.size)=true:=by rw[hj];exact a4
  have hb:=hs.get 0 rfl;unfold fl;rw[ht];dsimp only;rw[hu];dsimp only;rw[hj];dsimp only;rw[h2,a2,a3];simp only[Bool.and_self,cond_true];rw[s1];dsimp only;rw[hj] at hz;rw[s3,show Nat.ble l2.length 1048576=true by rw[nE_];exact hn,hz];simp only[Bool.and_self,cond_true];have hle:Nat.ble (0+len1*j.size) (cD fp)=true:=by rw[nE_,bz,hc1];omega
  have htake:takeN (dy fp 0) (len1*j.size)=fp:=by rw[dp,dO,List.drop_zero,<-hc1,List.take_length]
  have hl1':Nat.ble len1 1048576=true:=by rw[nE_];exact hl1
  rcases hcap with rfl | ⟨rfl,rfl⟩
  ·dsimp only
   by_cases h0:l2.length=0
   ·have hnews:news= []:=eN_ (by rw[s2,h0,Nat.zero_mul]);subst hnews;rw[h0,show Nat.ble (len1+0) len1=true by rw[nE_];exact nR_ _];simp only[cond_true];rw[hb];dsimp only;rw[show Nat.ble (0+len1*j.size+cD []) (cD fp)=true by rw[nE_,bz,bz,hc1];simp];simp only[cond_true];refine⟨_,b,.known len1,[],e1,rfl,?_,by simp,s4,.inl rfl⟩;rw[vR,List.append_nil];exact hs.AI _
   have:Nat.ble (len1+l2.length) len1=false:=by
    cases hh:Nat.ble (len1+l2.length) len1 with
    | false=>rfl
    | true=>rw[nE_] at hh;omega
   rw[this];simp only[cond_false];rw[hb];dsimp only;rw[hle,hl1',htake,dw];simp only[Bool.and_self,cond_true];refine⟨_,_,_,news,e,rfl,?_,s2,s4,.inr ⟨rfl,rfl⟩⟩;exact((hs.alloc _).perm (List.Perm.swap ..)).pop
  dsimp only
  by_cases h0:l2.length=0
  ·have hnews:news= []:=eN_ (by rw[s2,h0,Nat.zero_mul]);subst hnews;rw[h0];exact⟨_,b,.upto j.size,[],e1,rfl,by rw[List.append_nil];exact hs,by simp,s4,.inr ⟨rfl,rfl⟩⟩
  have:Nat.beq l2.length 0=false:=by
   cases hh:Nat.beq l2.length 0 with
   | false=>rfl
   | true=>exact absurd (nB hh) h0
  rw[this,Nat.beq_refl,hl1'];simp only[Bool.and_self,cond_true,cond_false];rw[hb];dsimp only
  have hnot:Nat.ble (0+len1*j.size+cD news) (cD fp)=false:=by
   cases hh:Nat.ble (0+len1*j.size+cD news) (cD fp) with
   | false=>rfl
   | true=>
    rw[nE_,bz,bz,hc1,s2] at hh;have h1:1<=j.size:=by simpa [nE_] using a2
    have:1<=l2.length*j.size:=Nat.mul_pos (by omega) h1;omega
  rw[hnot,Bool.and_false];simp only[cond_false];rw[hle,Nat.beq_refl,htake,dw];simp only[Bool.and_self,cond_true];exact⟨_,_,_,news,e1,rfl,hs.yI _,s2,s4,.inr ⟨rfl,rfl⟩⟩
 cases ha
end
section
variable {P:Program} {G:Cx} {n:Nat} {t:PT AV} {σ:aD} {K:KP} {L:Own} {Q:Ex->PT AV->aD->Prop} {ops:Array Oper} {o:Oper} {l:List Oper}
theorem eO {ev:Operand->Option AV} {cl:Call} {so xo:Operand} {s x:AV} {r:HR} (hc:cl.callee= .builtin .append) (ha:cl.args.toList= [so,xo]) (h1:ev so=some s) (h2:ev xo=some x) (hsl:dj P cl.argTypes[1]?=true) (h:fl P σ cl.argTypes s x=r):dJ P G ev σ (.call cl)=r:=by
 refine pD (by simp[kindOf,hc]) ?_
 have he:wW ev [so,xo]=some [s,x]:=by
  unfold wW cF;simp only[h1,h2]
 simp only[gQ,hc,ha,he,hsl,cond_true];exact h
theorem GV {α:Type} {m e:Nat} {R:α->List AV->Prop} {l2:List α} {v2:AV} {b len1 e1:Nat} {fp:List AV} {c:rZ} {ty:TypeId} {cl:Call} {so xo:Operand} {t':AV->PT AV} (hs:St σ K ((b,.row fp e1 false)::L)) (hx:bJ K m R l2 v2) (hleaf:∀x vs,R x vs->cj vs=true) (hn:l2.length<=1048576)
  (hc1:fp.length=len1*m) (hl1:len1<=1048576) (hcap:c= .known len1∨(c= .upto m/\e1=e)) (hw:bu ops t o=some true) (ho:o.op= .call cl) (hcl:cl.callee= .builtin .append) (hargs:cl.args.toList= [so,xo]) (ht:cl.argTypes[0]?=some ty) (hu:P.underlying ty=some (.slice e)) (ha:pG P e m=true) (h2:dj P cl.argTypes[1]?=true)
  (e1':bo G t so=some (.slice b 0 len1 c)) (e2':bo G t xo=some v2) (hp:∀v,cO t n o.dst v=some (t' v))
  (h:∀(σ':aD) (b':Nat) (c':rZ) (news:List AV) (e':Nat),St σ' K ((b',.row (fp++news) e' false)::L)->news.length=l2.length*m->(∀(i:Nat) (x:α),l2[i]?=some x->R x ((news.drop (i*m)).take m))->(c'= .known (len1+l2.length)∨(c'= .upto m/\e'=e))->bZ P G ops n l (t' (.slice b' 0 (len1+l2.length) c')) σ' Q):bZ P G ops n (o::l) t σ Q:=by
 obtain⟨σ',b',c',news,e',k1,k2,k3,k4,k5⟩:=we (P:=P) hs hx hleaf hn hc1 hl1 hcap ht hu ha h2;refine aa hw ?_ (hp _) (h σ' b' c' news e' k2 k3 k4 k5);rw[ho];exact eO hcl hargs e1' e2' h2 k1
end
end Go.Ev
namespace Go.Ev
variable [Env]
section
variable {P:Program} {G:Cx} {n:Nat} {t:PT AV} {σ:aD} {K:KP} {L:Own} {Q:Ex->PT AV->aD->Prop} {ops:Array Oper} {o:Oper} {l:List Oper}
theorem vN {α:Type} {m e k:Nat} {kk:IntKind} {R:α->List AV->Prop} {la:List α} {v:AV} {ty:TypeId} {ev:Operand->Option AV} {xo hi:Operand} (h:bJ K m R la v) (hk:k<=la.length) (hu:P.underlying ty=some (.slice e)) (hj:(P.info? e).map (·.size)=some m) (hx:ev xo=some v) (hh:ev hi=some (.int kk (.ofNat k))):
  ∃w,gf P ev ty xo none (some hi) none=some w/\bJ K m R (la.take k) w:=by
 cases hq:P.info? e with
 | none=>rw[hq] at hj;cases hj
 | some j=>
 rw[hq] at hj;have hj:j.size=m:=by simpa using hj
 subst hj;have hlen:(la.take k).length=k:=by rw[lT_];omega
 have hb:∀y,k<=y->ek ev hi y=some k:=fun y hy=>by
  unfold ek;rw[hh];dsimp only;rw[show Nat.ble k y=true by rw[nE_];exact hy];rfl
 rcases h with ⟨rfl,rfl⟩ | ⟨b,off,c,cells,e',ro,rfl,h2,h3,h4,h5,h6⟩
 ·have hk0:k=0:=by simpa using hk
  subst hk0;refine⟨.aK,?_,.inl ⟨by simp,rfl⟩⟩;unfold gf;rw[hu,hx];dsimp only;unfold cX;dsimp only;rw[hb 0 (nR_ _),hq]
 have fin:∀c',Jn j.size k c'->bJ K j.size R (la.take k) (.slice b off k c'):=fun c' hc'=>by
  refine .inr ⟨b,off,c',cells,e',ro,by rw[hlen],by rw[hlen];exact hc',h3,?_,by rw[hlen];omega,fun i x hx'=>?_⟩
  ·rw[hlen];have:k*j.size<=la.length*j.size:=nM_ _ hk;omega
  rw[List.getElem?_take] at hx';split at hx'
  ·exact h6 i x hx'
  cases hx'
 rcases h2 with rfl | ⟨cp,rfl,hcp⟩
 ·refine⟨.slice b off k (.upto j.size),?_,fin _ (.inl rfl)⟩;unfold gf;rw[hu,hx];dsimp only;unfold cX;dsimp only;rw[hb _ hk,hq];dsimp only;rw[Nat.beq_refl,Nat.zero_mul,Nat.add_zero,Nat.sub_zero];rfl
 refine⟨.slice b off k (.known cp),?_,fin _ (.inr ⟨cp,rfl,by omega⟩)⟩;unfold gf;rw[hu,hx];dsimp only;unfold cutAt cX;dsimp only;rw[hb _ (by omega)];dsimp only;unfold cut;rw[hq];dsimp only;rw[Nat.sub_zero,Nat.sub_zero,Nat.zero_mul,Nat.add_zero];cases Nat.beq cp 0<;>rfl
theorem E4 {α:Type} {m e k:Nat} {kk:IntKind} {R:α->List AV->Prop} {la:List α} {v:AV} {ty:TypeId} {xo hi:Operand} {t':AV->PT AV} (h:bJ K m R la v) (hk:k<=la.length) (hw:bu ops t o=some true) (ho:o.op= .slice ty xo none (some hi) none)
  (hu:P.underlying ty=some (.slice e)) (hj:(P.info? e).map (·.size)=some m) (hx:bo G t xo=some v) (hh:bo G t hi=some (.int kk (.ofNat k))) (hp:∀v,cO t n o.dst v=some (t' v))
  (hc:∀w,bJ K m R (la.take k) w->bZ P G ops n l (t' w) σ Q):bZ P G ops n (o::l) t σ Q:=by
 obtain⟨w,h1,h2⟩:=vN (P:=P) h hk hu hj hx hh;refine aa hw ?_ (hp w) (hc w h2);rw[ho];exact bH rfl h1
end
theorem ku {g:XG} (h:cr g=0):g.threads.length<=4/\g.init.length<=6/\(∀l∈g.threads,l.length<=14)/\g.from_.length=g.threads.length/\g.order.length=g.init.length/\lA g g.threads g.from_ 0=true/\ej g=true:=by
 unfold cr at h;cases h1:ei g with
 | true=>rw[h1] at h;cases h
 | false=>
  rw[h1] at h;simp only[cond_false] at h;cases h2:bq (.ofNat g.from_.length) (.ofNat g.threads.length) with
  | false=>rw[h2] at h;cases h
  | true=>
   rw[h2] at h;simp only[cond_true] at h;cases h3:bq (.ofNat g.order.length) (.ofNat g.init.length) with
   | false=>rw[h3] at h;cases h
   | true=>
    rw[h3] at h;simp only[cond_true] at h;cases h4:lA g g.threads g.from_ 0 with
    | false=>rw[h4] at h;cases h
    | true=>
     rw[h4] at h;simp only[cond_true] at h;cases h5:ej g with
     | false=>rw[h5] at h;cases h
     | true=>
      unfold ei at h1;cases k1:bG 4 (.ofNat g.threads.length) with
      | true=>rw[k1] at h1;cases h1
      | false=>
       rw[k1] at h1;simp only[cond_false] at h1;cases k2:bG 6 (.ofNat g.init.length) with
       | true=>rw[k2] at h1;cases h1
       | false=>
        rw[k2] at h1;simp only[cond_false] at h1;refine⟨br (a:=4) k1,br (a:=6) k2,fun l hl=>?_,dc h2,dc h3,rfl,rfl⟩;have:=List.any_eq_false.1 h1 l hl;exact br (a:=14) (by simpa using this)
theorem DX {a b:Nat} (h:a+b<=9223372036854775807):wr .i64 (Int.add (.ofNat a) (.ofNat b))= .ofNat (a+b):=by
 show(bif Nat.ble (a+b) 9223372036854775807 then _ else _)=_;rw[show Nat.ble (a+b) 9223372036854775807=true by rw[nE_];exact h];rfl
def mE {α:Type} (ls:List (List α)):Nat:=(ls.map List.length).sum
def BJ (g:XG):Nat:=bif bq (cr g) 0 then g.init.length+mE g.threads else 0
end Go.Ev
namespace Go.Ev
variable [Env]
theorem Ik {a:Int} (h:bq a 0=true):a=0:=by rw[dq] at h;exact of_decide_eq_true h
theorem rX {a b:Nat} (h:b<=a) (h':a<=9223372036854775807):wr .i64 (Int.sub (.ofNat a) (.ofNat b))= .ofNat (a-b):=by
 have e:Int.sub (.ofNat a) (.ofNat b)= .ofNat (a-b):=by
  show((a:Nat):Int)-(b:Int)=((a-b:Nat):Int);omega
 rw[e];show(bif Nat.ble (a-b) 9223372036854775807 then _ else _)=_;rw[show Nat.ble (a-b) 9223372036854775807=true by rw[nE_];omega];rfl
theorem F7 {g:XG} {th ix:Int} (h:(eH g ⟨th,ix⟩).isSome=true):∃t i:Nat,th= .ofNat t/\ix= .ofNat i/\t<=g.threads.length/\(t=0->i<g.init.length)/\∀m,t=m+1->∃l,g.threads[m]?=some l/\i<l.length:=by
 cases th with
 | negSucc t=>cases h
 | ofNat t=>cases ix with
  | negSucc i=>cases t<;>cases h
  | ofNat i=>
   refine⟨t,i,rfl,rfl,?_,?_,?_⟩
   ·cases t with
    | zero=>exact Nat.zero_le _
    | succ t=>
     have h:((g.threads[t]?).bind (·[i]?)).isSome=true:=h
     cases hl:g.threads[t]? with
     | none=>rw[hl] at h;cases h
     | some l=>exact(gA.1 hl).1
   ·rintro rfl;have h:((g.init[i]?).map fun v=>(⟨2,i,1,0,v⟩:cW)).isSome=true:=h;cases hl:g.init[i]? with
    | none=>rw[hl] at h;cases h
    | some l=>exact(gA.1 hl).1
   rintro m rfl;have h:((g.threads[m]?).bind (·[i]?)).isSome=true:=h
   cases hl:g.threads[m]? with
   | none=>rw[hl] at h;cases h
   | some l=>
    rw[hl] at h;have h:(l[i]?).isSome=true:=h;refine⟨l,rfl,?_⟩;cases hh:l[i]? with
    | none=>rw[hh] at h;cases h
    | some x=>exact(gA.1 hh).1
section
variable {σ:aD} {K K':KP} {L:Own}
theorem St.weaken (h:St σ K' L) (hk:KP.le K K'):St σ K L where
 kept b o hb:=h.kept b o (hk b o hb)
 own:=h.own
 ne:=h.ne
def KP.gG (K:KP) (M:Own):KP:=fun b o=>K b o∨(b,o)∈M
theorem KP.bF (K:KP) (M:Own):KP.le K (K.gG M):=fun _ _ h=>.inl h
theorem KP.fH {M:Own} (k:Nat) {b:Nat} {o:bQ} (h:M[k]?=some (b,o)):K.gG M b o:=.inr (gB_ h)
theorem St.keeps {M:Own} (h:St σ K (M++L)):St σ (K.gG M) L where
 kept b o hb:=by
  rcases hb with hb | hb
  ·exact h.b9.kept b o hb
  obtain⟨h1,h2⟩:=h.own _ (List.mem_append_left _ hb);exact⟨h1,h2,fun e he hh=>(List.pairwise_append.1 h.ne).2.2 _ hb e he hh.symm⟩
 own e he:=h.own e (List.mem_append_right _ he)
 ne:=(List.pairwise_append.1 h.ne).2.1
end
section
variable {P:Program} {G:Cx} {K K':KP}
def JL (P:Program) (G:Cx) (K:KP) (n:Int) (vs:List AV):Prop:=
 ∃(f:Nat) (ca:List AV),vs= [.func f [] ca]/\uV P f=true/\∀(σ:aD) (L:Own),St σ K L->bp P G f ca σ fun v σ'=>v= .int .i64 n/\St σ' K L
def tU (P:Program) (G:Cx) (K:KP) (l:List Int) (cells:List AV):Prop:=l.length=cells.length/\∀(i:Nat) (x:Int),l[i]?=some x->∃c,cells[i]?=some c/\JL P G K x [c]
theorem tU.nil:tU P G K [] []:=⟨rfl,fun i x h=>by simp at h⟩
theorem tU.cons {x:Int} {l:List Int} {c:AV} {cells:List AV} (h:JL P G K x [c]) (hs:tU P G K l cells):tU P G K (x::l) (c::cells):=by
 refine⟨by simp[hs.1],fun i y hy=>?_⟩;cases i with
 | zero=>simp only[List.getElem?_cons_zero,oJ_] at hy;subst hy;exact⟨c,rfl,h⟩
 | succ i=>exact hs.2 i y (by simpa using hy)
theorem tU.slice {l:List Int} {cells:List AV} (h:tU P G K l cells) {b e n c:Nat} (hk:K b (.row cells e false)) (hn:l.length=n) (hc:n<=c) (hl:n<=9223372036854775807):bJ K 1 (JL P G K) l (.slice b 0 n (.known c)):=by
 subst hn;refine .inr ⟨b,0,_,cells,e,false,rfl,.inr ⟨_,rfl,hc⟩,hk,by rw[h.1];omega,hl,fun i x hx=>?_⟩;obtain⟨c,hc,hr⟩:=h.2 i x hx
 have:(cells.drop (0+i*1)).take 1= [c]:=by
  obtain⟨hlt,rfl⟩:=gA.1 hc;rw[show 0+i*1=i from by omega,List.drop_eq_getElem_cons hlt];rfl
 rw[this];exact hr
theorem BD {f:Nat} {args:List AV} {σ:aD} {M L:Own} {u:AV} (h:bp P G f args σ fun v σ'=>v=u/\St σ' (K.gG M) L):bp P G f args σ fun v σ'=>v=u/\St σ' K L:=
 h.mono fun _ _ ⟨a,b⟩=>⟨a,b.weaken (K.bF M)⟩
theorem cq {ev:Operand->Option AV} {σ:aD} {t e:TypeId} {len m:Nat} {parts:Array (Nat×Operand)} {z cs:List AV} (ht:P.underlying t=some (.slice e)) (hj:(P.info? e).map (·.size)=some m) (hz:(eR P e).bind cC=some z)
  (hb:(Nat.beq (cD z) m && Nat.ble (len*m) 16777216 && Nat.ble 1 m)=true) (hf:ju (fun i=>some (i*m,m)) ev parts.toList (eN z len)=some cs):dJ P G ev σ (.buildSlice t len parts)= .val (.slice σ.next 0 len (.known len)) (σ.alloc (.row cs e false)):=by
 refine rY (mk:=.slice len len) rfl ?_;obtain⟨j,hj',rfl⟩:=oM_.1 hj;simp only[eU,ht,hj',hz,hb,cond_true,hf]
end
section
variable {P:Program} {G:Cx} {n:Nat} {t:PT AV} {σ:aD} {K:KP} {L:Own} {Q:Ex->PT AV->aD->Prop} {ops:Array Oper} {o:Oper} {l:List Oper} {ix:Nat} {lp:List (Nat×List Nat)}
end
theorem nY (k:IntKind) (n:Int):dQ (.int k n) (.int k n)=true:=by
 unfold Go.Ev.dQ;exact gM k n
theorem zq (s:List Nat):dQ (.str s) (.str s)=true:=by
 unfold Go.Ev.dQ;exact qU s
theorem bJ.dQ {α:Type} {K:KP} {m:Nat} {R:α->List AV->Prop} {l:List α} {v:AV} (h:bJ K m R l v):Go.Ev.dQ v v=true:=by
 have hb:=h.nW;rcases h with ⟨_,rfl⟩ | ⟨b,off,c,cells,e,ro,rfl,hc,_⟩<;>exact hb
def JP (x y:Int):Int:=bif bG x y then-1 else bif bG y x then 1 else 0
def La {α:Type} (c:α->α->Int):List α->List α->Int
 | [],[]=>0
 | [],_::_=>-1
 | _::_,[]=>1
 | x::l,y::m=>bif bq (c x y) 0 then La c l m else c x y
def dh {α:Type} (m E:Nat) (R:α->List AV->Prop) (l:List α) (u:AV) (M:Own):Prop:=
 (l= []/\u= .aK/\M= [])∨∃(b:Nat) (c:rZ) (cells:List AV) (e:Nat),u= .slice b 0 l.length c/\M= [(b,.row cells e false)]/\cells.length=l.length*m/\(∀(i:Nat) (x:α),l[i]?=some x->R x ((cells.drop (i*m)).take m))/\(c= .known l.length∨(c= .upto m/\e=E))/\l.length<=1048576
inductive kg {α:Type} (m E:Nat) (R:α->List AV->Prop):List (List α)->List AV->Own->Prop
 | nil:kg m E R [] [] []
 | snoc {ls:List (List α)} {us:List AV} {M M1:Own} {l:List α} {u:AV}:kg m E R ls us M->dh m E R l u M1->kg m E R (ls++[l]) (us++[u]) (M1++M)
section
variable {α:Type} {m E:Nat} {R:α->List AV->Prop} {l:List α} {u:AV} {M:Own} {K:KP} {ls:List (List α)} {us:List AV}
theorem dh.leaf (h:dh m E R l u M):cC u=some [u]/\il u=true:=by
 rcases h with ⟨_,rfl,_⟩ | ⟨b,c,cells,e,rfl,_⟩<;>exact⟨rfl,rfl⟩
theorem dh.rh (h:dh m E R l u M) (hk:∀e∈M,K e.1 e.2):bJ K m R l u:=by
 rcases h with ⟨h1,h2,_⟩ | ⟨b,c,cells,e,rfl,rfl,h3,h4,h5,h6⟩
 ·exact .inl ⟨h1,h2⟩
 refine .inr ⟨b,0,c,cells,e,false,rfl,?_,hk _ (mS_ ..),by omega,by omega,fun i x hx=>by rw[nA_];exact h4 i x hx⟩;rcases h5 with h5 | h5
 ·exact .inr ⟨_,h5,nR_ _⟩
 exact .inl h5.1
theorem kg.length (h:kg m E R ls us M):us.length=ls.length:=by
 induction h with
 | nil=>rfl
 | snoc _ _ ih=>simp[ih]
theorem kg.at (h:kg m E R ls us M):∀{i:Nat} {l:List α},ls[i]?=some l->∃u M1 A B,us[i]?=some u/\dh m E R l u M1/\M=A++(M1++B)/\∀l' u' M1',dh m E R l' u' M1'->kg m E R (ls.set i l') (us.set i u') (A++(M1'++B)):=by
 induction h with
 | nil=>intro i l h;simp at h
 | @snoc ls us M M1 l u h h1 ih=>
  intro i x hx;have hl:=h.length
  by_cases hi:i<ls.length
  ·rw[gL_ hi] at hx;obtain⟨u0,M0,A,B,k1,k2,rfl,k4⟩:=ih hx;refine⟨u0,M0,M1++A,B,by rw[gL_ (by omega)];exact k1,k2,by simp,fun l' u' M' h'=>?_⟩;rw[List.set_append_left _ _ hi,List.set_append_left _ _ (by omega),lQ_];exact .snoc (k4 l' u' M' h') h1
  have hlt:=(gA.1 hx).1;rw[lA_,List.length_singleton] at hlt;obtain rfl:i=ls.length:=by omega
  rw[gR_ (nR_ _),Nat.sub_self] at hx;simp only[List.getElem?_cons_zero,oJ_] at hx;subst hx;refine⟨u,M1,[],M,by rw[gR_ (by omega),hl,Nat.sub_self];rfl,h1,rfl,fun l' u' M' h'=>?_⟩;rw[List.set_append_right _ _ (nR_ _),List.set_append_right _ _ (by omega),hl,Nat.sub_self];exact kg.snoc (M1:=M') (M:=M) h h'
theorem kg.each (h:kg m E R ls us M) (hk:∀e∈M,K e.1 e.2):∀(i:Nat) (l:List α),ls[i]?=some l->∃u,us[i]?=some u/\bJ K m R l u:=by
 intro i l hl;obtain⟨u,M1,A,B,h1,h2,rfl,_⟩:=h.at hl;exact⟨u,h1,h2.rh fun e he=>hk e (by simp[he])⟩
theorem kg.rh (h:kg m E R ls us M) (hk:∀e∈M,K e.1 e.2) {b e n:Nat} (hb:K b (.row us e false)) (hn:n=ls.length) (hl:ls.length<=1048576):bJ K 1 (RL K m R) ls (.slice b 0 n (.known n)):=by
 subst hn;refine .inr ⟨b,0,_,us,e,false,rfl,.inr ⟨_,rfl,nR_ _⟩,hb,by rw[h.length];omega,by omega,fun i x hx=>?_⟩;obtain⟨u,h1,h2⟩:=h.each hk i x hx;refine⟨u,?_,h2⟩;obtain⟨hlt,rfl⟩:=gA.1 h1;rw[show 0+i*1=i from by omega,List.drop_eq_getElem_cons hlt];rfl
end
section
variable {σ:aD} {K:KP} {L M:Own} {b:Nat} {o:bQ}
theorem St.KA (h:St σ K (M++(b,o)::L)) (o':bQ):St (σ.setObj b o') K (M++(b,o')::L):=((h.perm List.perm_middle).AI o').perm List.perm_middle.symm
theorem eh (v:AV):∀n,eN [v] n=List.replicate n v
 | 0=>rfl
 | n+1=>by
  show fD [v] (eN [v] n)=_;rw[dw,eh v n];rfl
end
section
variable {P:Program} {G:Cx} {ev:Operand->Option AV} {σ:aD}
theorem gF {t e w n:Nat} {k k':IntKind} {z:List AV} {lo co:Operand} (ht:P.underlying t=some (.slice e)) (hw:(P.info? e).map (·.bytes)=some w) (hz:(eR P e).bind cC=some z)
  (hs:((P.info? e).any fun j=>Nat.beq (cD z) j.size && Nat.ble 1 j.size)=true) (hl:ev lo=some (.int k (.ofNat n))) (hc:ev co=some (.int k' (.ofNat n))) (hn:w*n<=1048576) (hn':n<=1048576):
  dJ P G ev σ (.makeSlice t lo co)= .val (.slice σ.next 0 n (.known n)) (σ.alloc (.row (eN z n) e false)):=by
 refine rY (mk:=.slice n n) rfl ?_;obtain⟨j,hj,rfl⟩:=oM_.1 hw;rw[hj] at hs;simp only[Option.any_some,bA_] at hs;simp only[eU,ht,hl,hc,hj,hz];rw[hs.1,hs.2,show Nat.ble n n=true by rw[nE_];exact nR_ _,show Nat.ble (j.bytes*n) 1048576=true by rw[nE_];exact hn,show Nat.ble n 1048576=true by rw[nE_];exact hn'];rfl
end
theorem dS.leaf:∀x vs,dS x vs->cj vs=true:=fun _ _ h=>by cases h;rfl
theorem j0.leaf:∀x vs,j0 x vs->cj vs=true:=fun _ _ h=>by cases h;rfl
theorem DZ.leaf:∀x vs,DZ x vs->cj vs=true:=fun _ _ h=>by cases h;rfl
end Go.Ev
namespace Go.Ev
variable [Env]
inductive l6 (b:Nat) (o':bQ):Own->Own->Prop
 | here {o:bQ} {L:Own}:l6 b o' ((b,o)::L) ((b,o')::L)
 | there {x:Nat×bQ} {L L':Own}:l6 b o' L L'->l6 b o' (x::L) (x::L')
 | jk {M L L':Own}:l6 b o' L L'->l6 b o' (M++L) (M++L')
section
variable {σ:aD} {K:KP} {L L':Own} {b:Nat} {o':bQ}
theorem l6.MQ (h:l6 b o' L L'):∃A B o,L=A++(b,o)::B/\L'=A++(b,o')::B:=by
 induction h with
 | here=>exact⟨[],_,_,rfl,rfl⟩
 | @there x L L' h ih=>obtain⟨A,B,o,rfl,rfl⟩:=ih;exact⟨x::A,B,o,rfl,rfl⟩
 | @jk M L L' h ih=>obtain⟨A,B,o,rfl,rfl⟩:=ih;exact⟨M++A,B,o,by simp,by simp⟩
theorem St.Mt (h:St σ K L) (hu:l6 b o' L L'):St (σ.setObj b o') K L':=by
 obtain⟨A,B,o,rfl,rfl⟩:=hu.MQ;exact h.KA o'
theorem St.sub (h:St σ K L) (hs:L'.Sublist L):St σ K L' where
 kept b o hb:=let ⟨h1,h2,h3⟩:=h.kept b o hb;⟨h1,h2,fun e he=>h3 e (hs.subset he)⟩
 own e he:=h.own e (hs.subset he)
 ne:=h.ne.sublist hs
theorem eL {M L L':Own} (h:L'.Sublist L):(M++L').Sublist (M++L):=(List.append_sublist_append_left M).2 h
end
section
variable {P:Program} {G:Cx} {n:Nat} {t:PT AV} {σ:aD} {K:KP} {L:Own} {Q:Ex->PT AV->aD->Prop} {ops:Array Oper} {o:Oper} {l:List Oper} {i:Nat} {rc:List Nat} {lp:List (Nat×List Nat)}
theorem dL {b:Nat} {ob':bQ} {L':Own} {t':PT AV} (hs:St σ K L) (hu:l6 b ob' L L') (hw:bu ops t o=some true) (hv:dJ P G (bo G t) σ o.op= .skip (σ.setObj b ob')) (hp:cO t n o.dst unit=some t')
  (h:∀σ',St σ' K L'->bZ P G ops n l t' σ' Q):bZ P G ops n (o::l) t σ Q:=kZ hw hv hp (h _ (hs.Mt hu))
theorem nu {b:Nat} {ob':bQ} {L':Own} {t':PT AV} (hs:St σ K L) (hu:l6 b ob' L L') (hi0:ops[i]?=some o) (hw:bu ops t o=some true) (hv:dJ P G (bo G t) σ o.op= .skip (σ.setObj b ob')) (hp:cO t n o.dst unit=some t')
  (h:∀σ',St σ' K L'->(cM P G ops t' σ' rc=true/\cy P G ops n lp t' σ' Q)):cy P G ops n ((i,rc)::lp) t σ Q:=nf hi0 hw hv hp (h _ (hs.Mt hu))
end
section
variable {P:Program} {t:PT AV} {σ:aD}
theorem wA {fn:Func} {j ty b m e:Nat} {ro:Bool} {cells:List AV} (hr:fn.results.toList= [.cell j ty]) (h1:t.get j=some (.ptr b 0)) (hm:σ.m.get b=some (.row cells e ro)) (ha:dE P ty=some (some m)) (hn:cells.length=m):dX P fn t σ=some (.agg cells):=by
 unfold dX;rw[hr]
 have e1:fZ P t σ (.cell j ty)=some (AV.agg cells):=by
  show(match t.get (posOf j) with
   | some (.ptr b off)=>match σ.m.get b with
    | some (.row cells _ _)=>match dE P ty with
     | some (some n)=>bif Nat.ble (off+n) (cD cells) then some (AV.agg (takeN (dy cells off) n)) else none
     | some none=>nth cells off
     | none=>none
    | _=>none
   | _=>none)=_
  rw[show t.get (posOf j)=some (.ptr b 0) from h1];dsimp only;rw[hm];dsimp only;rw[ha];dsimp only;rw[bz,hn,nA_,show Nat.ble m m=true by rw[nE_];exact nR_ _,dp,dO,List.drop_zero,<-hn,List.take_length];rfl
 have:cF (fZ P t σ) [.cell j ty]=some [AV.agg cells]:=by
  unfold cF;simp only[e1]
 rw[this]
theorem fw {fn:Func} {R:AV->aD->Prop} {j ty b m e:Nat} {ro:Bool} {cells:List AV} (hr:fn.results.toList= [.cell j ty]) (h1:t.get j=some (.ptr b 0)) (hm:σ.m.get b=some (.row cells e ro)) (ha:dE P ty=some (some m)) (hn:cells.length=m) (hR:R (.agg cells) σ):Er P fn R .ret t σ:=
 ⟨.inr rfl,_,wA hr h1 hm ha hn,hR⟩
end
end Go.Ev
namespace Go.Ev
variable [Env]
theorem Aq {α:Type} {m E:Nat} {R:α->List AV->Prop} {l1 l2:List α} {fp news:List AV} {b e:Nat} {c:rZ} {n:Nat} (hc1:fp.length=l1.length*m) (h1:∀(i:Nat) (x:α),l1[i]?=some x->R x ((fp.drop (i*m)).take m)) (hl2:news.length=l2.length*m) (h2:∀(i:Nat) (x:α),l2[i]?=some x->R x ((news.drop (i*m)).take m))
  (hn:n=l1.length+l2.length) (hc:c= .known n∨(c= .upto m/\e=E)) (hle:n<=1048576):dh m E R (l1++l2) (.slice b 0 n c) [(b,.row (fp++news) e false)]:=by
 subst hn;refine .inr ⟨b,c,_,e,by rw[lA_],rfl,by rw[lA_,lA_,hc1,hl2,Nat.add_mul],fun i x hx=>?_,by rw[lA_];exact hc,by rw[lA_];exact hle⟩
 by_cases hi:i<l1.length
 ·rw[gL_ hi] at hx;have hle:(i+1)*m<=l1.length*m:=nM_ _ hi;rw[Nat.succ_mul] at hle;rw[List.drop_append_of_le_length (by omega),List.take_append_of_le_length (by rw[lD_];omega)];exact h1 i x hx
 rw[gR_ (by omega)] at hx;have hle:l1.length*m<=i*m:=nM_ _ (by omega);rw[List.drop_append,List.drop_eq_nil_of_le (by omega),List.nil_append,hc1,<-Nat.sub_mul];exact h2 _ x hx
def dR (g:XG) (loc:Int):List dU:=
 bif bq (cr g) 0 then(bif bG loc 0 then [] else match g.order[loc.toNat]? with | some l=>⟨0,loc⟩::l | none=>[]) else []
theorem za {g:XG} {loc:Int} (h:bq (cr g) 0=false):dR g loc= []:=by unfold dR;rw[h];rfl
theorem Bh {g:XG} {loc:Int} (h:bG loc 0=true):dR g loc= []:=by unfold dR;rw[h];cases bq (cr g) 0<;>rfl
theorem Bg {g:XG} {loc:Nat} (h:g.order.length<=loc):dR g (.ofNat loc)= []:=by
 unfold dR;cases bq (cr g) 0 with
 | false=>rfl
 | true=>
  cases bG (.ofNat loc) 0 with
  | true=>rfl
  | false=>
   show(match g.order[(Int.ofNat loc).toNat]? with | some l=>_ | none=>_)=_;rw[show(Int.ofNat loc).toNat=loc from rfl,gN_ h]
theorem gY {g:XG} {loc:Nat} {l:List dU} (hc:bq (cr g) 0=true) (h:g.order[loc]?=some l):dR g (.ofNat loc)=⟨0,.ofNat loc⟩::l:=by
 have e:(Int.ofNat loc).toNat=loc:=rfl;have e2:bG (.ofNat loc) 0=false:=by rw[show(0:Int)= .ofNat 0 from rfl,nm];simp
 unfold dR;rw[hc,e2,e,h];rfl
end Go.Ev
namespace Go.Ev
variable [Env]
theorem oS {P:Program} {G:Cx} {ev:Operand->Option AV} {σ:aD} {c:Call} {x y:Operand} {a b:Int} {k:IntKind} (hc:c.callee= .builtin .min) (ha:c.args.toList= [x,y]) (hx:ev x=some (.int k a)) (hy:ev y=some (.int k b)):dJ P G ev σ (.call c)= .val (.int k (bif bG b a then b else a)) σ:=by
 refine bH (by simp[kindOf,hc]) ?_;have e:q7 k k=true:=by cases k<;>rfl
 simp only[dg,hc,ha,hx,hy,Kn,e,cond_true]
section
variable {P:Program} {G:Cx}
def JI (P:Program) (G:Cx) (f:Nat) (args:List AV) (σ:aD) (R:AV->aD->Prop):Prop:=
 ∃(K:Nat) (v:AV) (σ':aD),(∀k,K<=k->mH P G (ec P G k) f args σ= .ret v σ')/\R v σ'
end
section
variable {P:Program} {G:Cx} {ev:Operand->Option AV} {σ:aD}
theorem r9 {hi:Operand} {k:IntKind} {h' len cap:Nat} (h:ev hi=some (.int k (.ofNat h'))) (hl:h'<=cap):cX ev len cap none (some hi)=some (0,h'):=by
 simp only[cX,ek,h,show Nat.ble h' cap=true by rw[nE_];exact hl,cond_true]
end
section
variable {P:Program} {G:Cx} {ev:Operand->Option AV} {σ:aD}
end
section
variable {P:Program} {G:Cx} {n:Nat} {t:PT AV} {σ:aD} {K:KP} {L:Own} {Q:Ex->PT AV->aD->Prop} {ops:Array Oper} {o:Oper} {l:List Oper}
theorem Ko (hs:St σ K L) {ob:bQ} {k sz:Nat} {t':Nat->PT AV} (hw:bu ops t o=some true) (hv:dJ P G (bo G t) σ o.op= .val (.slice σ.next 0 k (.upto sz)) (σ.alloc ob)) (hp:∀b,cO t n o.dst (.slice b 0 k (.upto sz))=some (t' b))
  (h:∀(σ':aD) (b:Nat),St σ' K ((b,ob)::L)->bZ P G ops n l (t' b) σ' Q):bZ P G ops n (o::l) t σ Q:=
 aa hw hv (hp _) (h _ _ (hs.alloc ob))
end
section
variable {P:Program} {G:Cx} {σ:aD} {K:KP} {L:Own}
theorem sN {α:Type} {m e:Nat} {R:α->List AV->Prop} {l2:List α} {v2:AV} {ts:Array TypeId} {t:TypeId} (hs:St σ K L) (hx:bJ K m R l2 v2) (hleaf:∀x vs,R x vs->cj vs=true) (hn:l2.length<=1048576) (hpos:1<=l2.length)
  (ht:ts[0]?=some t) (hu:P.underlying t=some (.slice e)) (ha:pG P e m=true) (h2:dj P ts[1]?=true):
  ∃news,fl P σ ts .aK v2= .val (.slice σ.next 0 l2.length (.upto m)) (σ.alloc (.row news e false))/\news.length=l2.length*m/\∀(i:Nat) (x:α),l2[i]?=some x->R x ((news.drop (i*m)).take m):=by
 obtain⟨news,s1,s2,s3,s4⟩:=pz hs hx hleaf;refine⟨news,?_,s2,s4⟩;unfold pG at ha;split at ha
 ·rename_i j hj;simp only[bA_] at ha;obtain⟨a1,a2,a3,a4⟩:=ha;have hm:j.size=m:=nB a1;subst hm;have hz:((P.info? e).any fun j=>(j.zero.bind ow).any fun z=>(cC z).any fun cs=>Nat.beq (cD cs) j.size)=true:=by rw[hj];exact a4
  have h0:Nat.beq l2.length 0=false:=by
   cases hh:Nat.beq l2.length 0 with
   | false=>rfl
   | true=>exact absurd (nB hh) (by omega)
  unfold fl;rw[ht];dsimp only;rw[hu];dsimp only;rw[hj] at hz⊢;dsimp only;rw[h2,a2,a3];simp only[Bool.and_self,cond_true];rw[s1];dsimp only;rw[s3,show Nat.ble l2.length 1048576=true by rw[nE_];exact hn,hz];simp only[Bool.and_self,cond_true,h0,cond_false];rfl
 cases ha
end
section
variable {P:Program} {G:Cx} {n:Nat} {t:PT AV} {σ:aD} {K:KP} {L:Own} {Q:Ex->PT AV->aD->Prop} {ops:Array Oper} {o:Oper} {l:List Oper}
end
section
variable {σ:aD} {K:KP} {L:Own} {b:Nat} {o:bQ}
def KP.sub (K:KP) (b:Nat):KP:=fun b' o'=>K b' o'/\b'≠b
theorem St.two {b b':Nat} {o o' o1 o1':bQ} (hb:b<σ.next) (hb':b'<σ.next) (hne:b≠b'):St (fa σ b o b' o') (fun _ _=>False) [(b,o),(b',o')] where
 kept _ _ h:=h.elim
 own e he:=by
  rcases mQ_.1 he with rfl | he
  ·exact⟨hb,by show((PT.leaf.put (some o) b).put (some o') b').get b=_;rw[PT.cV _ _ _ _ hne];exact PT.cY _ _ _⟩
  rcases mQ_.1 he with rfl | he
  ·exact⟨hb',PT.cY _ _ _⟩
  cases he
 ne:=List.pairwise_cons.2 ⟨fun e he=>(by rw[List.mem_singleton] at he;subst he;exact hne),List.pairwise_singleton ..⟩
end
inductive gx (X:Own):Own->Own->Prop
 | here {L:Own}:gx X (X++L) L
 | there {y:Nat×bQ} {L L0:Own}:gx X L L0->gx X (y::L) (y::L0)
 | jk {M L L0:Own}:gx X L L0->gx X (M++L) (M++L0)
theorem gx.perm {X L L0:Own} (h:gx X L L0):L.Perm (X++L0):=by
 induction h with
 | here=>exact List.Perm.refl _
 | @there y L L0 _ ih=>exact(List.Perm.cons y ih).trans List.perm_middle.symm
 | @jk M L L0 _ ih=>
  refine(List.Perm.append_left M ih).trans ?_;rw[<-lQ_,<-lQ_];exact List.Perm.append_right _ List.perm_append_comm
section
variable {σ:aD} {K:KP} {L L0 X:Own}
theorem St.pull (h:St σ K L) (hi:gx X L L0):St σ K (X++L0):=h.perm hi.perm
theorem St.push (h:St σ K (X++L0)) (hi:gx X L L0):St σ K L:=h.perm hi.perm.symm
theorem lU {P:Program} {α:Type} {m e:Nat} {R:α->List AV->Prop} {l l2:List α} {u v2:AV} {M:Own} {bv ev:Nat} {cv:List AV} {ts:Array TypeId} {t:TypeId} (ho:dh m e R l u M) (ar:St σ K ((bv,.row cv ev false)::(M++L)))
  (hx:bJ (K.add bv (.row cv ev false)) m R l2 v2) (hleaf:∀x vs,R x vs->cj vs=true) (hn:l2.length<=1000) (hpos:1<=l2.length) (hl:l.length<=1000000)
  (ht:ts[0]?=some t) (hu:P.underlying t=some (.slice e)) (ha:pG P e m=true) (h2:dj P ts[1]?=true):
  ∃σ' u' M',fl P σ ts u v2= .val u' σ'/\dh m e R (l++l2) u' M'/\St σ' K (M'++L):=by
 have hk:=ar.jD;rcases ho with ⟨rfl,rfl,rfl⟩ | ⟨b,c,cells,e',rfl,rfl,h3,h4,h5,h6⟩
 ·obtain⟨news,k1,k2,k3⟩:=sN (P:=P) hk hx hleaf (by omega) hpos ht hu ha h2;exact⟨_,_,[(σ.next,.row news e false)],k1,.inr ⟨_,_,news,e,rfl,rfl,k2,k3,.inr ⟨rfl,rfl⟩,by show l2.length<=_;omega⟩,((hk.alloc (.row news e false)).weaken (KP.sq _ _ _))⟩
 obtain⟨σ',b',c',news,e2,k1,k2,k3,k4,k5⟩:=we (P:=P) hk hx hleaf (by omega) h3 (by omega) h5 ht hu ha h2;exact⟨σ',_,[(b',.row (cells++news) e2 false)],k1,Aq h3 h4 k3 k4 rfl k5 (by omega),k2.weaken (KP.sq _ _ _)⟩
end
def Gn (g:XG) (tm:Nat) (e:cW) (fr:dU) (pl:Nat) (row:List cW) (frow:List dU) (orow:List dU) (loc:Nat):XG:=
 {init:=g.init,threads:=g.threads.set tm (row++[e]),from_:=g.from_.set tm (frow++[fr]),order:=bif bC e then g.order.set loc (orow.take pl++⟨.ofNat (tm+1),.ofNat row.length⟩::orow.drop pl) else g.order}
def m9 (g:XG) (th:Int) (e:cW) (fr:dU) (pl:Int):Option XG×Int:=
 bif !bq (cr g) 0 then(none,2) else
 bif bG th 1 then(none,9) else
 bif bG (.ofNat g.threads.length) th then(none,9) else
 match g.threads[th.toNat-1]?,g.from_[th.toNat-1]? with
 | some row,some frow=>
  bif !bG (.ofNat row.length) 14 then(none,3) else
  bif (bif bC e then(bif bG pl 1 then true else bG (.ofNat (dR g e.loc).length) pl) else !bq pl 0) then(none,2) else
  let g':=Gn g (th.toNat-1) e fr (pl.toNat-1) row frow ((g.order[e.loc.toNat]?).getD []) e.loc.toNat
  bif bq (cr g') 0 then(some g',0) else(none,2)
 | _,_=>(none,9)
theorem H0 (b o l c:Nat):dQ (.slice b o l (.known c)) (.slice b o l (.known c))=true:=by
 unfold dQ;show(dQ.beqP b b && Nat.beq o o && Nat.beq l l && dQ.beqC (.known c) (.known c))=true;rw[show dQ.beqP b b=true from Nat.beq_refl b,show dQ.beqC (.known c) (.known c)=true from Nat.beq_refl c,Nat.beq_refl,Nat.beq_refl];rfl
theorem CC {us:List AV} {u:AV} {i:Nat} (h:i<us.length):dA [u] us (0+i*1)=us.set i u:=by
 rw[show 0+i*1=i by omega,sL _ _ _ (by rw[List.length_singleton];omega),List.length_singleton,List.set_eq_take_append_cons_drop,if_pos h,lQ_];rfl
theorem Cr {n:Int} (h:bG n 1=false):∃m:Nat,n= .ofNat (m+1):=by
 cases n with
 | negSucc k=>cases h
 | ofNat k=>
  have:1<=k:=br (a:=k) (b:=1) h;exact⟨k-1,by rw[Nat.sub_add_cancel this]⟩
end Go.Ev
namespace Go.Ev
variable [Env]
end Go.Ev
namespace Go.Ev
variable [Env]
theorem FB {g:XG} {th pl:Int} {e:cW} {fr:dU} (h:bq (cr g) 0=false):m9 g th e fr pl=(none,2):=by unfold m9;rw[h];rfl
theorem FC {g:XG} {th pl:Int} {e:cW} {fr:dU} (h:bq (cr g) 0=true) (h1:bG th 1=true):m9 g th e fr pl=(none,9):=by unfold m9;rw[h,h1];rfl
theorem FA {g:XG} {th pl:Int} {e:cW} {fr:dU} (h:bq (cr g) 0=true) (h1:bG th 1=false) (h2:bG (.ofNat g.threads.length) th=true):m9 g th e fr pl=(none,9):=by unfold m9;rw[h,h1,h2];rfl
def jS (g:XG) (e:cW) (pl:Int):Bool:=bif bC e then(bif bG pl 1 then true else bG (.ofNat (dR g e.loc).length) pl) else !bq pl 0
def jC (g:XG) (tm:Nat) (e:cW) (fr:dU) (pl:Int) (row:List cW) (frow:List dU):XG:=Gn g tm e fr (pl.toNat-1) row frow ((g.order[e.loc.toNat]?).getD []) e.loc.toNat
theorem HX {g:XG} {tm:Nat} {pl:Int} {e:cW} {fr:dU} {row:List cW} {frow:List dU} (h:bq (cr g) 0=true) (hx:g.threads[tm]?=some row) (hf:g.from_[tm]?=some frow):
  m9 g (.ofNat (tm+1)) e fr pl=bif !bG (.ofNat row.length) 14 then(none,3) else bif jS g e pl then(none,2) else bif bq (cr (jC g tm e fr pl row frow)) 0 then(some (jC g tm e fr pl row frow),0) else(none,2):=by
 have hlt:tm<g.threads.length:=(gA.1 hx).1;have h1:bG (.ofNat (tm+1)) 1=false:=by rw[show(1:Int)= .ofNat 1 from rfl,nm];simp
 have h2:bG (.ofNat g.threads.length) (.ofNat (tm+1))=false:=by rw[nm];simp;omega
 have e1:(Int.ofNat (tm+1)).toNat-1=tm:=rfl;unfold m9;rw[h,h1,h2];simp only[Bool.not_true,cond_false,e1,hx,hf];rfl
end Go.Ev
namespace Go.Ev
variable [Env]
theorem CT {g:XG} {loc:Int} (h:1<=(dR g loc).length):∃(ln:Nat) (r:List dU),loc= .ofNat ln/\g.order[ln]?=some r/\(dR g loc).length=r.length+1:=by
 cases hc:bq (cr g) 0 with
 | false=>rw[za hc] at h;cases h
 | true=>
  cases hl:bG loc 0 with
  | true=>rw[Bh hl] at h;cases h
  | false=>
   obtain⟨ln,rfl⟩:=mw hl;cases hr:g.order[ln]? with
   | none=>
    rw[Bg (List.getElem?_eq_none_iff.1 hr)] at h;cases h
   | some r=>exact⟨ln,r,rfl,hr,by rw[gY hc hr];rfl⟩
section
variable {σ σ0:aD} {K:KP} {L M:Own}
theorem St.I7 (h0:St σ0 K (M++L)) (h:St σ (K.gG M) L):St σ K (M++L) where
 kept b o hb:=by
  obtain⟨h1,h2,h3⟩:=h.kept b o (.inl hb);refine⟨h1,h2,fun e he=>?_⟩;rcases List.mem_append.1 he with he | he
  ·exact(h0.kept b o hb).2.2 e (List.mem_append_left _ he)
  exact h3 e he
 own e he:=by
  rcases List.mem_append.1 he with he | he
  ·exact⟨(h.kept e.1 e.2 (.inr he)).1,(h.kept e.1 e.2 (.inr he)).2.1⟩
  exact h.own e he
 ne:=h0.ne
end
end Go.Ev
namespace Go.Ev
variable [Env]
inductive nU:Own->Own->Own->Prop
 | base {L:Own}:nU L [] L
 | there {x:Nat×bQ} {LL M L:Own}:nU LL M L->nU (x::LL) (x::M) L
 | jk {A LL M L:Own}:nU LL M L->nU (A++LL) (A++M) L
theorem nU.eq {LL M L:Own} (h:nU LL M L):LL=M++L:=by
 induction h with
 | base=>rfl
 | there _ ih=>rw[ih];rfl
 | jk _ ih=>rw[ih,lQ_]
theorem St.app {σ:aD} {K:KP} {LL M L:Own} (h:St σ K LL) (ha:nU LL M L):St σ K (M++L):=by rw[<-ha.eq];exact h
theorem Iy {g:XG} {tm ln pm:Nat} {e:cW} {fr:dU} {row:List cW} {frow orow:List dU} (hw:bC e=true) (hl:e.loc= .ofNat ln) (ho:g.order[ln]?=some orow):
  jC g tm e fr (.ofNat (pm+1)) row frow= {init:=g.init,threads:=g.threads.set tm (row++[e]),from_:=g.from_.set tm (frow++[fr]),order:=g.order.set ln (orow.take pm++⟨.ofNat (tm+1),.ofNat row.length⟩::orow.drop pm)}:=by
 have e1:(Int.ofNat (pm+1)).toNat-1=pm:=rfl;have e2:(Int.ofNat ln).toNat=ln:=rfl;unfold jC Gn;rw[hw,hl,e1,e2,ho];rfl
theorem Ew {g:XG} {i:Nat}:eH g ⟨.ofNat 0,.ofNat i⟩=(g.init[i]?).map fun v=>⟨2,i,1,0,v⟩:=rfl
theorem og {g:XG} {t i:Nat}:eH g ⟨.ofNat (t+1),.ofNat i⟩=(g.threads[t]?).bind (·[i]?):=rfl
theorem F9 {g g':XG} {tm:Nat} {row:List cW} {e w:cW} {id:dU} (hr:g.threads[tm]?=some row) (hi:g'.init=g.init) (ht:g'.threads=g.threads.set tm (row++[e])) (h:eH g id=some w):eH g' id=some w:=by
 obtain⟨th,ix⟩:=id;cases ix with
 | negSucc k=>rw[oZ (by rw[eo];simp)] at h;cases h
 | ofNat i=>
  cases th with
  | negSucc k=>rw[se (by rw[eo];simp)] at h;cases h
  | ofNat t=>
   cases t with
   | zero=>rw[Ew] at h⊢;rw[hi];exact h
   | succ t=>
    rw[og] at h⊢;rw[ht,List.getElem?_set]
    by_cases htm:tm=t
    ·subst htm;have hlt:tm<g.threads.length:=(gA.1 hr).1;rw[if_pos rfl,if_pos hlt];rw[hr] at h;have h':row[i]?=some w:=h;show(row++[e])[i]?=some w;rw[gL_ (gA.1 h').1];exact h'
    rw[if_neg htm];exact h
theorem F8 {g g':XG} {tm:Nat} {row:List cW} {e:cW} (hr:g.threads[tm]?=some row) (ht:g'.threads=g.threads.set tm (row++[e])):eH g' ⟨.ofNat (tm+1),.ofNat row.length⟩=some e:=by
 have hlt:tm<g.threads.length:=(gA.1 hr).1;rw[og,ht,List.getElem?_set,if_pos rfl,if_pos hlt];show(row++[e])[row.length]?=some e;rw[gR_ (nR_ _),Nat.sub_self];rfl
def fo (t:Nat):List cW->Nat->LM
 | [],_=>[]
 | e::l,n=>bif bC e then([.ofNat (t+1),.ofNat n],e.loc)::fo t l (n+1) else fo t l (n+1)
def fQ:List (List cW)->Nat->LM
 | [],_=>[]
 | l::r,t=>fo t l 0++fQ r (t+1)
theorem xh {k:List Int}:∀{m:LM} {i:Nat},(∀p∈m,p.1≠k)->pH m k i=none
 | [],_,_=>rfl
 | (k',v)::m,i,h=>by
  show(bif cS k k' then some (i,v) else pH m k (i+1))=none
  have:cS k k'=false:=by
   cases hh:cS k k' with
   | false=>rfl
   | true=>exact absurd (cP.1 hh).symm (h (k',v) (mS_ ..))
  rw[this];exact xh fun p hp=>h p (mC_ _ hp)
theorem uT {t:Nat}:∀{l:List cW} {n:Nat} {m:LM},(∀p∈m,∀k,n<=k->p.1≠[.ofNat (t+1),.ofNat k])->tD t l n m=m++fo t l n
 | [],_,m,_=>by simp[tD,fo]
 | e::l,n,m,h=>by
  show tD t l (n+1) (B9 t m n e)=m++(bif bC e then _ else _);unfold B9;cases hw:bC e with
  | false=>exact uT fun p hp k hk=>h p hp k (by omega)
  | true=>
   show tD t l (n+1) (ru m [.ofNat (t+1),.ofNat n] e.loc)=m++_
   have hp:ru m [.ofNat (t+1),.ofNat n] e.loc=m++[([.ofNat (t+1),.ofNat n],e.loc)]:=by
    unfold ru;rw[xh fun p hp=>h p hp n (nR_ _)]
   rw[hp,uT (l:=l) (n:=n+1) fun p hp k hk=>?_,lQ_]
   ·rfl
   rcases List.mem_append.1 hp with hp | hp
   ·exact h p hp k (by omega)
   rw[List.mem_singleton] at hp;subst hp;intro he;simp only[List.cons.injEq,and_true,true_and] at he;have:n=k:=iJ_ he;omega
theorem kO {t:Nat}:∀{l:List cW} {n:Nat},∀p∈fo t l n,∃k,p.1= [.ofNat (t+1),.ofNat k]/\n<=k
 | [],_,p,h=>by cases h
 | e::l,n,p,h=>by
  have h':p∈(bif bC e then([.ofNat (t+1),.ofNat n],e.loc)::fo t l (n+1) else fo t l (n+1)):=h;cases hw:bC e with
  | false=>
   rw[hw] at h';obtain⟨k,h1,h2⟩:=kO (l:=l) p h';exact⟨k,h1,by omega⟩
  | true=>
   rw[hw] at h';rcases mQ_.1 h' with rfl | h'
   ·exact⟨n,rfl,nR_ _⟩
   obtain⟨k,h1,h2⟩:=kO (l:=l) p h';exact⟨k,h1,by omega⟩
theorem z6:∀{ls:List (List cW)} {t:Nat} {m:LM},(∀p∈m,∀s k,t<=s->p.1≠[.ofNat (s+1),.ofNat k])->rj ls t m=m++fQ ls t
 | [],_,m,_=>by simp[rj,fQ]
 | l::ls,t,m,h=>by
  show rj ls (t+1) (tD t l 0 m)=m++(fo t l 0++fQ ls (t+1));rw[uT fun p hp k _=>h p hp t k (nR_ _),z6 (ls:=ls) (t:=t+1) fun p hp s k hs=>?_,lQ_];rcases List.mem_append.1 hp with hp | hp
  ·exact h p hp s k (by omega)
  obtain⟨k',h1,_⟩:=kO p hp;rw[h1];intro he;simp only[List.cons.injEq,and_true] at he;have:t+1=s+1:=iJ_ he.1;omega
theorem td {ls:List (List cW)}:rj ls 0 []=fQ ls 0:=by
 rw[z6 fun p hp=>by cases hp];rfl
def ff (loc:Nat) (l:List dU):LM:=l.map fun id=>(id.ints,.ofNat loc)
def kF:List (List dU)->Nat->LM
 | [],_=>[]
 | r::ls,loc=>ff loc r++kF ls (loc+1)
theorem jL {α:Type}:∀{m:List α} {j:Nat} {x:α},m[j]?=some x->m.Perm (x::m.eraseIdx j)
 | [],_,_,h=>by simp at h
 | y::m,0,x,h=>by
  have:y=x:=by simpa using h
  subst this;exact List.Perm.refl _
 | y::m,j+1,x,h=>by
  have h':m[j]?=some x:=by simpa using h
  exact(List.Perm.cons y (jL h')).trans (List.Perm.swap x y _)
theorem vd {m:LM} {k:List Int} {v:Int} (h:gD m k=some v):m.Perm ((k,v)::mS m k):=by
 unfold gD at h;unfold mS;cases ha:pH m k 0 with
 | none=>rw[ha] at h;cases h
 | some p=>
  obtain⟨j,w⟩:=p;rw[ha] at h;have hw:w=v:=by simpa using h
  subst hw;exact jL (su ha).2
theorem wL {loc:Nat}:∀{l:List dU} {m m':LM},mJ loc l m=some m'->m.Perm (ff loc l++m')
 | [],m,m',h=>by cases h;exact List.Perm.refl _
 | id::l,m,m',h=>by
  have h':(bif (gD m id.ints).isSome then(bif bq ((gD m id.ints).getD 0) (.ofNat loc) then mJ loc l (mS m id.ints) else none) else none)=some m':=h;cases hs:gD m id.ints with
  | none=>rw[hs] at h';cases h'
  | some v=>
   rw[hs] at h';have h'':(bif bq v (.ofNat loc) then mJ loc l (mS m id.ints) else none)=some m':=h';cases he:bq v (.ofNat loc) with
   | false=>rw[he] at h'';cases h''
   | true=>
    rw[he] at h'';rw[dq] at he;have hv:v= .ofNat loc:=of_decide_eq_true he;subst hv;exact(vd hs).trans (List.Perm.cons _ (wL (l:=l) h''))
theorem wM:∀{ls:List (List dU)} {loc:Nat} {m m':LM},nP ls loc m=some m'->m.Perm (kF ls loc++m')
 | [],_,m,m',h=>by cases h;exact List.Perm.refl _
 | r::ls,loc,m,m',h=>by
  have h':(mJ loc r m).bind (nP ls (loc+1))=some m':=h;cases hr:mJ loc r m with
  | none=>rw[hr] at h';cases h'
  | some m1=>
   rw[hr] at h';refine(wL hr).trans ?_;show(ff loc r++m1).Perm ((ff loc r++kF ls (loc+1))++m');rw[lQ_];exact List.Perm.append_left _ (wM (ls:=ls) h')
theorem Cp {g:XG} (h:ej g=true):(fQ g.threads 0).Perm (kF g.order 0):=by
 unfold ej at h;cases hc:nP g.order 0 (rj g.threads 0 []) with
 | none=>rw[hc] at h;cases h
 | some m=>
  rw[hc] at h
  have h0:m= []:=by
   have h1:bq (.ofNat m.length) (.ofNat 0)=true:=h;rw[fE] at h1;exact eN_ (of_decide_eq_true h1)
  have:=wM hc;rw[h0,List.append_nil,td] at this;exact this
theorem Ae {k:List Int} {v:Int}:∀{m:LM} {i:Nat},(m.map (·.1)).Nodup->(k,v)∈m->∃j,pH m k i=some (j,v)
 | (k',w)::m,i,hn,h=>by
  rw[List.map_cons,List.nodup_cons] at hn;show∃j,(bif cS k k' then some (i,w) else pH m k (i+1))=some (j,v);rcases mQ_.1 h with h1 | h1
  ·cases h1;rw[cP.2 rfl];exact⟨i,rfl⟩
  have:cS k k'=false:=by
   cases hh:cS k k' with
   | false=>rfl
   | true=>
    have e:=cP.1 hh;subst e;exact(hn.1 (List.mem_map.2 ⟨(k,v),h1,rfl⟩)).elim
  rw[this];exact Ae (m:=m) hn.2 h1
theorem C3 {loc:Nat}:∀{l:List dU} {m rest:LM},m.Perm (ff loc l++rest)->(m.map (·.1)).Nodup->∃m',mJ loc l m=some m'/\m'.Perm rest/\(m'.map (·.1)).Nodup
 | [],m,rest,h,hn=>⟨m,rfl,h,hn⟩
 | id::l,m,rest,h,hn=>by
  have hmem:(id.ints,Int.ofNat loc)∈m:=h.mem_iff.2 (mS_ ..);obtain⟨j,hj⟩:=Ae (i:=0) hn hmem;have hg:gD m id.ints=some (.ofNat loc):=by unfold gD;rw[hj];rfl
  have hp:=vd hg;have hp2:(mS m id.ints).Perm (ff loc l++rest):=List.Perm.cons_inv (hp.symm.trans h)
  have hn2:((mS m id.ints).map (·.1)).Nodup:=by
   have:=(hp.map (·.1)).nodup_iff.1 hn
   rw[List.map_cons,List.nodup_cons] at this;exact this.2
  obtain⟨m',h1,h2,h3⟩:=C3 (l:=l) hp2 hn2;refine⟨m',?_,h2,h3⟩;show(bif (gD m id.ints).isSome then(bif bq ((gD m id.ints).getD 0) (.ofNat loc) then mJ loc l (mS m id.ints) else none) else none)=some m';have he:bq (.ofNat loc) (.ofNat loc)=true:=by rw[fE];simp
  rw[hg];show(bif bq (.ofNat loc) (.ofNat loc) then mJ loc l (mS m id.ints) else none)=some m';rw[he];exact h1
theorem C4:∀{ls:List (List dU)} {loc:Nat} {m:LM},m.Perm (kF ls loc)->(m.map (·.1)).Nodup->nP ls loc m=some []
 | [],_,m,h,_=>by rw[show m= [] from h.eq_nil];rfl
 | r::ls,loc,m,h,hn=>by
  obtain⟨m',h1,h2,h3⟩:=C3 (l:=r) (rest:=kF ls (loc+1)) h hn;show(mJ loc r m).bind (nP ls (loc+1))=some [];rw[h1];exact C4 (ls:=ls) h2 h3
theorem oQ {t:Nat}:∀{l:List cW} {n:Nat},((fo t l n).map (·.1)).Nodup
 | [],_=>List.nodup_nil
 | e::l,n=>by
  show((bif bC e then([.ofNat (t+1),.ofNat n],e.loc)::fo t l (n+1) else fo t l (n+1):LM).map (·.1)).Nodup
  cases bC e with
  | false=>exact oQ (l:=l)
  | true=>
   show(([Int.ofNat (t+1),Int.ofNat n],e.loc).1::(fo t l (n+1)).map (·.1)).Nodup
   rw[List.nodup_cons];refine⟨fun h=>?_,oQ (l:=l)⟩;obtain⟨p,hp,he⟩:=List.mem_map.1 h;obtain⟨k,h1,h2⟩:=kO p hp;rw[h1] at he;simp only[List.cons.injEq,and_true,true_and] at he;have:k=n:=iJ_ he;omega
theorem xI:∀{ls:List (List cW)} {t:Nat},∀p∈fQ ls t,∃s k,p.1= [.ofNat (s+1),.ofNat k]/\t<=s
 | [],_,p,h=>by cases h
 | l::ls,t,p,h=>by
  have h':p∈fo t l 0++fQ ls (t+1):=h;rcases List.mem_append.1 h' with h' | h'
  ·obtain⟨k,h1,_⟩:=kO p h';exact⟨t,k,h1,nR_ _⟩
  obtain⟨s,k,h1,h2⟩:=xI (ls:=ls) p h';exact⟨s,k,h1,by omega⟩
theorem oO:∀{ls:List (List cW)} {t:Nat},((fQ ls t).map (·.1)).Nodup
 | [],_=>List.nodup_nil
 | l::ls,t=>by
  show((fo t l 0++fQ ls (t+1)).map (·.1)).Nodup
  rw[List.map_append,List.nodup_append];refine⟨oQ,oO (ls:=ls),fun a ha b hb hab=>?_⟩;obtain⟨p,hp,rfl⟩:=List.mem_map.1 ha;obtain⟨q,hq,rfl⟩:=List.mem_map.1 hb;obtain⟨k,h1,_⟩:=kO p hp;obtain⟨s,k',h3,h4⟩:=xI q hq;rw[h1,h3] at hab;simp only[List.cons.injEq,and_true] at hab;have:t+1=s+1:=iJ_ hab.1;omega
theorem oG {g:XG}:ej g=true↔(fQ g.threads 0).Perm (kF g.order 0):=by
 refine⟨Cp,fun h=>?_⟩;unfold ej;rw[td,C4 h oO];rfl
theorem rK {g:XG} {t:Nat}:∀{l:List cW} {f:List dU} {n:Nat},f.length=l.length->(qK g t l f n=true↔∀i e q,l[i]?=some e->f[i]?=some q->xq g t (n+i) e q=true)
 | [],f,n,h=>⟨fun _ i e q h1=>by simp at h1,fun _=>rfl⟩
 | x::l,[],n,h=>by cases h
 | x::l,y::f,n,h=>by
  have hl:f.length=l.length:=by simpa using h
  show(bif xq g t n x y then qK g t l f (n+1) else false)=true↔_;constructor
  ·intro hh i e q h1 h2;cases ho:xq g t n x y with
   | false=>rw[ho] at hh;cases hh
   | true=>
    rw[ho] at hh;cases i with
    | zero=>
     have e1:x=e:=by simpa using h1
     have e2:y=q:=by simpa using h2
     subst e1 e2;exact ho
    | succ i=>
     have:=(rK hl).1 hh i e q (by simpa using h1) (by simpa using h2);rwa[show n+1+i=n+(i+1) by omega] at this
  intro hh;rw[show xq g t n x y=true from hh 0 x y rfl rfl];refine(rK hl).2 fun i e q h1 h2=>?_
  have:=hh (i+1) e q (by simpa using h1) (by simpa using h2);rwa[show n+(i+1)=n+1+i by omega] at this
theorem py {g:XG}:∀{ls:List (List cW)} {fs:List (List dU)} {t:Nat},fs.length=ls.length->(lA g ls fs t=true↔∀i l f,ls[i]?=some l->fs[i]?=some f->f.length=l.length/\∀j e q,l[j]?=some e->f[j]?=some q->xq g (t+i) j e q=true)
 | [],f,n,h=>⟨fun _ i e q h1=>by simp at h1,fun _=>rfl⟩
 | x::l,[],n,h=>by cases h
 | x::l,y::f,t,h=>by
  have hl:f.length=l.length:=by simpa using h
  show(bif bq (.ofNat y.length) (.ofNat x.length) then(bif qK g t x y 0 then lA g l f (t+1) else false) else false)=true↔_;constructor
  ·intro hh i e q h1 h2;cases he:bq (.ofNat y.length) (.ofNat x.length) with
   | false=>rw[he] at hh;cases hh
   | true=>
    rw[he] at hh;cases ho:qK g t x y 0 with
    | false=>rw[ho] at hh;cases hh
    | true=>
     rw[ho] at hh;cases i with
     | zero=>
      have e1:x=e:=by simpa using h1
      have e2:y=q:=by simpa using h2
      subst e1 e2;refine⟨dc he,fun j w z k1 k2=>?_⟩;have:=(rK (dc he)).1 ho j w z k1 k2;rwa[nA_] at this
     | succ i=>
      have:=(py hl).1 hh i e q (by simpa using h1) (by simpa using h2);rwa[show t+1+i=t+(i+1) by omega] at this
  intro hh;obtain⟨h1,h2⟩:=hh 0 x y rfl rfl;rw[show bq (.ofNat y.length) (.ofNat x.length)=true by rw[fE];simp[h1]];rw[show qK g t x y 0=true from(rK h1).2 fun i e q k1 k2=>by have:=h2 i e q k1 k2;rwa[nA_]];refine(py hl).2 fun i e q k1 k2=>?_
  have:=hh (i+1) e q (by simpa using k1) (by simpa using k2);rwa[show t+(i+1)=t+1+i by omega] at this
structure wF (g:XG):Prop where
 threads:g.threads.length<=4
 init:g.init.length<=6
 short:∀(i:Nat) (l:List cW),g.threads[i]?=some l->l.length<=14
 from_:g.from_.length=g.threads.length
 order:g.order.length=g.init.length
 rows:∀(i:Nat) (l:List cW) (f:List dU),g.threads[i]?=some l->g.from_[i]?=some f->f.length=l.length/\∀(j:Nat) (e:cW) (q:dU),l[j]?=some e->f[j]?=some q->xq g i j e q=true
 perm:(fQ g.threads 0).Perm (kF g.order 0)
theorem kN {g:XG}:cr g=0↔wF g:=by
 constructor
 ·intro h;obtain⟨b1,b2,b3,b4,b5,b6,b7⟩:=ku h;refine⟨b1,b2,fun i l hl=>b3 l (gB_ hl),b4,b5,fun i l f k1 k2=>?_,oG.1 b7⟩;have:=(py b4).1 b6 i l f k1 k2;rwa[nA_] at this
 intro h;unfold cr
 have h1:ei g=false:=by
  unfold ei;rw[show bG 4 (.ofNat g.threads.length)=false by rw[show(4:Int)= .ofNat 4 from rfl,nm];have:=h.threads;simp;omega];rw[show bG 6 (.ofNat g.init.length)=false by rw[show(6:Int)= .ofNat 6 from rfl,nm];have:=h.init;simp;omega];show(g.threads.any fun l=>bG 14 (.ofNat l.length))=false;rw[List.any_eq_false];intro l hl;obtain⟨i,hi⟩:=gO_ hl;have:=h.short i l hi;rw[show(14:Int)= .ofNat 14 from rfl,nm];simp;omega
 rw[h1];rw[show bq (.ofNat g.from_.length) (.ofNat g.threads.length)=true by rw[fE];simp[h.from_]];rw[show bq (.ofNat g.order.length) (.ofNat g.init.length)=true by rw[fE];simp[h.order]];rw[show lA g g.threads g.from_ 0=true from(py h.from_).2 fun i l f k1 k2=>by have:=h.rows i l f k1 k2;rwa[nA_]];rw[oG.2 h.perm];rfl
def E5 (o:List (List dU)) (e:cW) (id:dU) (pl:Int):List (List dU):=
 bif bC e then o.set e.loc.toNat (((o[e.loc.toNat]?).getD []).take (pl.toNat-1)++id::((o[e.loc.toNat]?).getD []).drop (pl.toNat-1)) else o
theorem sl {g:XG} {tm:Nat} {e:cW} {fr:dU} {pl:Int} {row:List cW} {frow:List dU}:jC g tm e fr pl row frow=⟨g.init,g.threads.set tm (row++[e]),g.from_.set tm (frow++[fr]),E5 g.order e ⟨.ofNat (tm+1),.ofNat row.length⟩ pl⟩:=rfl
theorem qT {g:XG} {e:cW} {pl:Int} (h:jS g e pl=false) (hw:bC e=true):∃(ln:Nat) (r:List dU),e.loc= .ofNat ln/\g.order[ln]?=some r/\(dR g e.loc).length=r.length+1:=by
 unfold jS at h;rw[hw] at h;have h:(bif bG pl 1 then true else bG (.ofNat (dR g e.loc).length) pl)=false:=h;cases h1:bG pl 1 with
 | true=>rw[h1] at h;cases h
 | false=>
  rw[h1] at h;obtain⟨m,rfl⟩:=Cr h1;have h2:bG (.ofNat (dR g e.loc).length) (.ofNat (m+1))=false:=h;have:=br h2;exact CT (by omega)
theorem kQ {g a:XG} {th pl:Int} {e:cW} {fr:dU} (h:m9 g th e fr pl=(some a,0)):cr g=0/\∃tm row frow,th= .ofNat (tm+1)/\g.threads[tm]?=some row/\g.from_[tm]?=some frow/\bG (.ofNat row.length) 14=true/\jS g e pl=false/\a=jC g tm e fr pl row frow/\cr a=0:=by
 cases hc:bq (cr g) 0 with
 | false=>rw[FB hc] at h;cases h
 | true=>
  refine⟨Ik hc,?_⟩;cases h1:bG th 1 with
  | true=>rw[FC hc h1] at h;cases h
  | false=>
   cases h2:bG (.ofNat g.threads.length) th with
   | true=>rw[FA hc h1 h2] at h;cases h
   | false=>
    obtain⟨tm,rfl⟩:=Cr h1;have htm:tm<g.threads.length:=by have:=br h2;omega
    obtain⟨row,hrow⟩:=bX htm;obtain⟨frow,hfrow⟩:=bX (show tm<g.from_.length by rw[(ku (Ik hc)).2.2.2.1];exact htm);rw[HX hc hrow hfrow] at h;cases h3:bG (.ofNat row.length) 14 with
    | false=>rw[h3] at h;cases h
    | true=>
     rw[h3] at h;rcases Bool.eq_false_or_eq_true (jS g e pl) with h4 | h4
     ·rw[h4] at h;cases h
     rw[h4] at h;cases h5:bq (cr (jC g tm e fr pl row frow)) 0 with
     | false=>rw[h5] at h;cases h
     | true=>
      rw[h5] at h;have h6:(some (jC g tm e fr pl row frow),(0:Int))=(some a,0):=h;have h7:jC g tm e fr pl row frow=a:=by cases h6;rfl
      subst h7;exact⟨tm,row,frow,rfl,hrow,hfrow,h3,h4,rfl,Ik h5⟩
theorem Du {o:List (List dU)} {e:cW} {id:dU} {pl:Int} {k:Nat} (h:bC e=true->e.loc.toNat≠k):(E5 o e id pl)[k]?=o[k]?:=by
 unfold E5;cases hw:bC e with
 | false=>rfl
 | true=>exact List.getElem?_set_ne (h hw)
theorem eP (x:Int):bq x x=true:=by rw[dq];simp
structure LS {α:Type} (c:α->α->Int):Prop where
 LV:∀x y,c y x= -c x y
 small:∀x y,-1<=c x y/\c x y<=1
 trans:∀x y z,c x y<=0->c y z<=0->c x z<=0
theorem LS.pull {α β:Type} {c:α->α->Int} (h:LS c) (f:β->α):LS fun x y=>c (f x) (f y):=⟨fun x y=>h.LV _ _,fun x y=>h.small _ _,fun x y z=>h.trans _ _ _⟩
theorem Lj (a b:Int):(bif bq a 0 then b else a)=if a=0 then b else a:=by
 rw[dq]
 by_cases h:a=0<;>simp[h]
theorem lW {α:Type} {l:List α} {ls:List (List α)}:mE (l::ls)=l.length+mE ls:=by unfold mE;simp
theorem xL {t:Nat}:∀{l:List cW} {n:Nat},∀p∈fo t l n,∃k,p.1= [.ofNat (t+1),.ofNat (n+k)]/\k<l.length
 | [],_,p,h=>by cases h
 | e::l,n,p,h=>by
  have h':p∈(bif bC e then([.ofNat (t+1),.ofNat n],e.loc)::fo t l (n+1) else fo t l (n+1)):=h
  have key:p∈fo t l (n+1)->∃k,p.1= [.ofNat (t+1),.ofNat (n+k)]/\k<(e::l).length:=fun h=>by
   obtain⟨k,h1,h2⟩:=xL (l:=l) p h;exact⟨k+1,by rw[h1,show n+1+k=n+(k+1) by omega],by rw[List.length_cons];omega⟩
  cases hw:bC e with
  | false=>rw[hw] at h';exact key h'
  | true=>
   rw[hw] at h';rcases mQ_.1 h' with rfl | h'
   ·exact⟨0,rfl,by rw[List.length_cons];omega⟩
   exact key h'
theorem xJ:∀{ls:List (List cW)} {t:Nat},∀p∈fQ ls t,∃(s k:Nat) (l:List cW),p.1= [.ofNat (t+s+1),.ofNat k]/\ls[s]?=some l/\k<l.length
 | [],_,p,h=>by cases h
 | l::ls,t,p,h=>by
  have h':p∈fo t l 0++fQ ls (t+1):=h;rcases List.mem_append.1 h' with h' | h'
  ·obtain⟨k,h1,h2⟩:=xL p h';exact⟨0,k,l,by rw[h1,nA_],rfl,h2⟩
  obtain⟨s,k,l',h1,h2,h3⟩:=xJ (ls:=ls) p h';exact⟨s+1,k,l',by rw[h1,show t+1+s+1=t+(s+1)+1 by omega],by simpa using h2,h3⟩
theorem vo:∀{ls:List (List dU)} {loc ln:Nat} {r:List dU} {x:dU},ls[ln]?=some r->x∈r->(x.ints,Int.ofNat (loc+ln))∈kF ls loc
 | [],_,_,_,_,h,_=>by simp at h
 | l::ls,loc,0,r,x,h,hx=>by
  have:l=r:=by simpa using h
  subst this;exact List.mem_append_left _ (List.mem_map.2 ⟨x,hx,rfl⟩)
 | l::ls,loc,ln+1,r,x,h,hx=>by
  have h':ls[ln]?=some r:=by simpa using h
  have:=vo (loc:=loc+1) h' hx;rw[show loc+1+ln=loc+(ln+1) by omega] at this;exact List.mem_append_right _ this
theorem IJ {g:XG} (h:wF g) {tm ln:Nat} {row:List cW} {r:List dU} (hr:g.threads[tm]?=some row) (ho:g.order[ln]?=some r):(⟨.ofNat (tm+1),.ofNat row.length⟩:dU)∉r:=fun hx=>by
 have h1:=h.perm.mem_iff.2 (vo (loc:=0) ho hx);obtain⟨s,k,l,h2,h3,h4⟩:=xJ _ h1;rw[show 0+s+1=s+1 by omega] at h2;have h2: [Int.ofNat (tm+1),Int.ofNat row.length]= [.ofNat (s+1),.ofNat k]:=h2;simp only[List.cons.injEq,and_true] at h2;have e1:tm+1=s+1:=iJ_ h2.1;have e2:row.length=k:=iJ_ h2.2;obtain rfl:tm=s:=by omega
 rw[hr] at h3;cases h3;omega
theorem vZ {α:Type}:∀{ls:List (List α)} {tm:Nat} {row:List α} {e:α},ls[tm]?=some row->mE (ls.set tm (row++[e]))=mE ls+1
 | [],_,_,_,h=>by simp at h
 | l::ls,0,row,e,h=>by
  have:l=row:=by simpa using h
  subst this;show mE ((l++[e])::ls)=_;rw[lW,lW,lA_,List.length_singleton];omega
 | l::ls,tm+1,row,e,h=>by
  have h':ls[tm]?=some row:=by simpa using h
  show mE (l::ls.set tm (row++[e]))=_;rw[lW,lW,vZ h'];omega
def Cl (id:dU) (y:dU):Bool:= !(cS y.ints id.ints)
theorem GJ {id y:dU} (h:y≠id):Cl id y=true:=by
 unfold Cl;rw[dU.same,lD.2 h];rfl
theorem De {α:Type} {p:α->Bool} {x:α} (hx:p x=true):∀{a b:List α} {i:Nat},(∀y∈a,p y=false)->wx p (a++x::b) i= .ofNat (i+a.length)
 | [],b,i,_=>by
  show(bif p x then Int.ofNat i else _)=_;rw[hx];rfl
 | y::a,b,i,h=>by
  show(bif p y then Int.ofNat i else wx p (a++x::b) (i+1))=_;rw[h y (mS_ ..)];show wx p (a++x::b) (i+1)=_;rw[De hx fun z hz=>h z (mC_ _ hz),List.length_cons,show i+1+a.length=i+(a.length+1) by omega]
theorem filter_all {id:dU} {l:List dU} (h:id∉l):l.filter (Cl id)=l:=List.filter_eq_self.2 fun y hy=>GJ fun e=>h (e ▸ hy)
theorem B1 {id:dU} {a b:List dU} (ha:id∉a) (hb:id∉b):(a++id::b).filter (Cl id)=a++b:=by
 have h:Cl id id=false:=by unfold Cl;rw[dU.same,cP.2 rfl];rfl
 rw[List.filter_append,List.filter_cons,h,filter_all ha,filter_all hb];rfl
theorem D0 {g h:XG} {th pl:Int} {e:cW} {fr:dU} (ha:m9 g th e fr pl=(some h,0)):∃(tm:Nat) (row:List cW),th= .ofNat (tm+1)/\g.threads[tm]?=some row/\cr g=0/\cr h=0/\eH h ⟨.ofNat (tm+1),.ofNat row.length⟩=some e/\BJ h=BJ g+1/\
  (bG 0 pl=true->bC e=true/\wx (fun y=>cS (⟨.ofNat (tm+1),.ofNat row.length⟩:dU).ints y.ints) (dR h e.loc) 0=pl)/\(∀id w,eH g id=some w->eH h id=some w)/\
  ∀loc:Nat,loc<g.init.length->(dR h (.ofNat loc)).filter (Cl ⟨.ofNat (tm+1),.ofNat row.length⟩)=dR g (.ofNat loc):=by
 obtain⟨hg,tm,row,frow,rfl,k1,q1,l1,p1,rfl,ch⟩:=kQ ha;have rg:=kN.1 hg;have e1:bq (cr g) 0=true:=by rw[hg];rfl
 have e2:bq (cr (jC g tm e fr pl row frow)) 0=true:=by rw[ch];rfl
 have hno:∀(ln:Nat) (r:List dU),g.order[ln]?=some r->(⟨.ofNat (tm+1),.ofNat row.length⟩:dU)∉(⟨0,.ofNat ln⟩:dU)::r:=fun ln r hr hm=>by
  rcases mQ_.1 hm with hm | hm
  ·have:=congrArg dU.jm hm;exact absurd (show Int.ofNat (tm+1)= .ofNat 0 from this) (fun h=>by cases h)
  exact IJ rg k1 hr hm
 have hat:bC e=true->∃(ln pm:Nat) (r:List dU),e.loc= .ofNat ln/\pl= .ofNat (pm+1)/\g.order[ln]?=some r/\pm<=r.length/\dR (jC g tm e fr pl row frow) (.ofNat ln)=(⟨0,.ofNat ln⟩::r.take pm)++⟨.ofNat (tm+1),.ofNat row.length⟩::r.drop pm:=fun hw=>by
  obtain⟨ln,r,h1,h2,h3⟩:=qT p1 hw;unfold jS at p1;rw[hw] at p1;have p1:(bif bG pl 1 then true else bG (.ofNat (dR g e.loc).length) pl)=false:=p1;cases h4:bG pl 1 with
  | true=>rw[h4] at p1;cases p1
  | false=>
   rw[h4] at p1;obtain⟨pm,rfl⟩:=Cr h4;have h5:bG (.ofNat (dR g e.loc).length) (.ofNat (pm+1))=false:=p1;have h6:=br h5;refine⟨ln,pm,r,h1,rfl,h2,by omega,?_⟩
   have h7:(jC g tm e fr (.ofNat (pm+1)) row frow).order[ln]?=some (r.take pm++⟨.ofNat (tm+1),.ofNat row.length⟩::r.drop pm):=by
    rw[Iy hw h1 h2];show(g.order.set ln _)[ln]?=_;rw[List.getElem?_set_self (gA.1 h2).1]
   rw[gY e2 h7];rfl
 refine⟨tm,row,rfl,k1,hg,ch,F8 k1 rfl,?_,fun hp=>?_,fun id w hw=>F9 k1 rfl rfl hw,fun loc hloc=>?_⟩
 ·unfold BJ;rw[e1,e2];show g.init.length+mE (g.threads.set tm (row++[e]))=g.init.length+mE g.threads+1;rw[vZ k1];omega
 ·have hw:bC e=true:=by
   cases hw:bC e with
   | true=>rfl
   | false=>
    unfold jS at p1;rw[hw] at p1;have p1:(!bq pl 0)=false:=p1;have:=Ik (fU p1);subst this;cases hp
  refine⟨hw,?_⟩;obtain⟨ln,pm,r,h1,rfl,h3,h4,h5⟩:=hat hw;rw[h1,h5,De (p:=fun y:dU=>cS (⟨.ofNat (tm+1),.ofNat row.length⟩:dU).ints y.ints) (cP.2 rfl) fun y hy=>lD.2 fun he=>?_]
  ·rw[List.length_cons,lT_,Nat.min_eq_left h4,nA_]
  have hy':y=(⟨.ofNat (tm+1),.ofNat row.length⟩:dU):=by
   have:cS y.ints (⟨.ofNat (tm+1),.ofNat row.length⟩:dU).ints=true:=cP.2 he.symm;rw[dU.same] at this;exact cP.1 this
  subst hy';refine hno ln r h3 ?_;rcases mQ_.1 hy with hy | hy
  ·exact mQ_.2 (.inl hy)
  exact mC_ _ (List.mem_of_mem_take hy)
 obtain⟨r,hr⟩:=bX (show loc<g.order.length by rw[rg.order];exact hloc);rw[gY e1 hr]
 by_cases hw:bC e=true/\e.loc.toNat=loc
 ·obtain⟨ln,pm,r',h1,rfl,h3,h4,h5⟩:=hat hw.1;have hl:ln=loc:=by have:=hw.2;rw[h1] at this;exact this
  subst hl;rw[hr] at h3;cases h3;have hn:=hno ln r hr;rw[h5,B1 (fun hm=>hn ?_) (fun hm=>hn (mC_ _ (List.mem_of_mem_drop hm)))]
  ·show⟨0,.ofNat ln⟩::(r.take pm++r.drop pm)=_;rw[List.take_append_drop]
  rcases mQ_.1 hm with hm | hm
  ·exact mQ_.2 (.inl hm)
  exact mC_ _ (List.mem_of_mem_take hm)
 have h7:(jC g tm e fr pl row frow).order[loc]?=some r:=by
  show(E5 g.order e ⟨.ofNat (tm+1),.ofNat row.length⟩ pl)[loc]?=_;rw[Du fun h1 h2=>hw ⟨h1,h2⟩,hr]
 rw[gY e2 h7,filter_all (hno loc r hr)]
def mf:List Nat->Nat->Option Nat
 | [],n=>some n
 | c::r,n=>if 48<=c/\c<=57 then mf r (10*n+(c-48)) else none
def gH (s:List Nat):Option Nat:=if s.length=0∨4<s.length∨(1<s.length/\s[0]?=some 48) then none else mf s 0
theorem kz {s:List Nat} {i c n:Nat} (h:s[i]?=some c) (hc:¬(48<=c/\c<=57)):mf (s.drop i) n=none:=by
 rw[cL h];show(if _ then _ else _)=_;rw[if_neg hc]
theorem oa {s:List Nat} {i c n:Nat} (h:s[i]?=some c) (hc:48<=c/\c<=57):mf (s.drop i) n=mf (s.drop (i+1)) (10*n+(c-48)):=by
 rw[cL h];show(if _ then _ else _)=_;rw[if_pos hc]
theorem n9 {s:List Nat} {i n:Nat} (h:s.length<=i):mf (s.drop i) n=some n:=by rw[fy h];rfl
theorem eqv {a b:Int} (h:bq a b=true):a=b:=by rw[dq] at h;exact of_decide_eq_true h
def nE (b:Bool):Int:=bif b then 1 else 0
def FI (f:BitVec 64->BitVec 64->BitVec 64) (a b:Int):Int:=wr .i64 (IntKind.u64.wrap (f (BitVec.ofInt 64 (wr .u64 a)) (BitVec.ofInt 64 (wr .u64 b))).toNat)
def nQ (op a:Int):Int:=bif bq op 3 then wr .i64 (wr .u64 (Int.sub 0 (wr .u64 a))) else nE (bq a 0)
def gw (op a b:Int):Int:=
 bif bq op 5 then nE (bif aX (bq a 0) then true else aX (bq b 0)) else
 bif bq op 6 then nE (bif aX (bq a 0) then aX (bq b 0) else false) else
 bif bq op 7 then nE (bq a b) else
 bif bq op 8 then nE (aX (bq a b)) else
 bif bq op 9 then nE (bG a b) else
 bif bq op 10 then nE (aX (bG b a)) else
 bif bq op 11 then FI (· ||| ·) a b else
 bif bq op 12 then FI (· ^^^ ·) a b else
 bif bq op 13 then FI (· &&& ·) a b else
 bif bq op 14 then wr .i64 (wr .u64 (Int.add (wr .u64 a) (wr .u64 b))) else
 bif bq op 15 then wr .i64 (wr .u64 (Int.sub (wr .u64 a) (wr .u64 b))) else
 wr .i64 (wr .u64 (Int.mul (wr .u64 a) (wr .u64 b)))
def ig (op:Int) (l:List Int):Int×Int:=
 bif (bif (bif bq op 3 then true else bq op 4) then bq (.ofNat l.length) 1 else false) then(nQ op ((l[0]?).getD 0),0) else
 bif (bif (bif aX (bG op 5) then aX (bG 16 op) else false) then bq (.ofNat l.length) 2 else false) then(gw op ((l[0]?).getD 0) ((l[1]?).getD 0),0) else(0,2)
def L2 (op:Int) (l:List Int):Int:=(ig op l).1
def ed (aP:List Int):Nat->XE->Int
 | 0,_=>0
 | k+1,.mk op num name kids=>bif bq op 1 then num else bif bq op 2 then(aP[(gH name).getD 0]?).getD 0 else L2 op (kids.map (ed aP k))
def fc (op:Int):Int:=bif (bif bq op 3 then true else bq op 4) then 1 else 2
def dG (aP:Int):Nat->XE->Bool
 | 0,_=>false
 | k+1,.mk op num name kids=>
  bif bq op 1 then(bif aX (bG num 0) then(bif fF name [] then bq (.ofNat kids.length) 0 else false) else false) else
  bif bq op 2 then(match gH name with | some n=>(bif bG (.ofNat n) aP then(bif bq num 0 then bq (.ofNat kids.length) 0 else false) else false) | none=>false) else
  bif (bif (bif bq op 3 then true else bq op 4) then false else(bif bG op 5 then true else bG 16 op)) then false else
  bif (bif aX (bq num 0) then true else bif aX (fF name []) then true else aX (bq (.ofNat kids.length) (fc op))) then false else
  kids.all (dG aP k)
def gu (f:XE->Int->Option Int):List XE->Int->Option Int
 | [],m=>some m
 | x::r,m=>(f x m).bind (gu f r)
def kb:Nat->XE->Int->Int->Option Int
 | 0,_,_,_=>none
 | k+1,.mk _ _ _ kids,deep,size=>bif (bif bG 2000 (wr .i64 (Int.add size 1)) then true else bG 32 deep) then none else gu (fun x m=>kb k x (wr .i64 (Int.add deep 1)) m) kids (wr .i64 (Int.add size 1))
theorem tw {f:XE->Int->Option Int} {l:List XE} {i:Nat} {m:Int} {x:XE} (hx:l[i]?=some x) (h:(f x m).isSome=false):gu f (l.drop i) m=none:=by
 rw[cL hx];show(f x m).bind _=none;rw[Option.isSome_eq_false_iff.1 h |> Option.isNone_iff_eq_none.1];rfl
theorem AM {f:XE->Int->Option Int} {l:List XE} {i:Nat} {m s:Int} {x:XE} (hx:l[i]?=some x) (h:f x m=some s):gu f (l.drop i) m=gu f (l.drop (i+1)) s:=by
 rw[cL hx];show(f x m).bind _=_;rw[h];rfl
theorem vO {f:XE->Int->Option Int} {l:List XE} {i:Nat} {m:Int} (h:l.length<=i):gu f (l.drop i) m=some m:=by rw[fy h];rfl
structure jI where
 ny:Bool
 loc:Bool
 order:Bool
 to:Bool
 exprs:Nat
def hJ:List jI:=[⟨false,false,false,false,0⟩,⟨true,false,false,false,1⟩,⟨true,true,true,false,0⟩,⟨false,true,true,false,1⟩,⟨true,true,true,false,2⟩,⟨true,true,true,false,1⟩,⟨true,true,true,false,1⟩,⟨false,false,true,false,0⟩,⟨false,false,false,false,1⟩,⟨false,false,false,false,1⟩,⟨false,false,false,true,0⟩,⟨false,false,false,true,1⟩,⟨false,false,false,false,0⟩,⟨false,false,false,false,0⟩]
def eY (n least most:Int) (must:Bool):Bool:=bif must then(bif aX (bG n least) then bG n most else false) else bq n 0
def fG (aP nins:Int) (k:Nat) (x:XI) (h:jI):Bool:=
 bif aX (eY x.ny 0 aP h.ny) then false else bif aX (eY x.loc 0 6 h.loc) then false else bif aX (eY x.order 1 7 h.order) then false else bif aX (eY x.to 0 nins h.to) then false else
 bif aX (bq (.ofNat x.exprs.length) (.ofNat h.exprs)) then false else x.exprs.all (dG aP k)
def eX (aP nins:Int) (k:Nat) (x:XI):Bool:=
 bif bG x.kind 1 then false else bif bG 13 x.kind then false else
 match hJ[x.kind.toNat]? with
 | some h=>fG aP nins k x h
 | none=>false
def sK (k:Nat) (x:XI):Bool:=x.exprs.all fun e=>(kb k e 1 0).isSome
def ft (x:XI):Bool:=bif bq x.kind 10 then true else bif bq x.kind 12 then true else bq x.kind 13
def cQ (k:Nat) (c:XC):Int:=
 bif bG 16 c.aP then 3 else bif bG 4000 (.ofNat c.ins.length) then 3 else
 bif aX (c.ins.all (sK k)) then 3 else
 bif bG c.aP 0 then 2 else bif bq (.ofNat c.ins.length) 0 then 2 else
 bif aX (c.ins.all (eX c.aP (.ofNat c.ins.length) k)) then 2 else
 match c.ins[c.ins.length-1]? with
 | some x=>bif ft x then 0 else 2
 | none=>2
def fM (x:XI) (at_:Nat):List Int:=
 bif bq x.kind 10 then [x.to] else bif bq x.kind 11 then [.ofNat (at_+1),x.to] else bif bq x.kind 12 then [] else bif bq x.kind 13 then [] else [.ofNat (at_+1)]
def cH (c:XC) (i:Nat):List Nat:=match c.ins[i]? with | some x=>(fM x i).map Int.toNat | none=>[]
structure DS where
 st:List Nat
 gone:List Nat
 out:List Nat
 path:List Nat
def jt (nx:Nat->List Nat) (s:DS) (at_:Nat):Option DS:=
 let g:=(s.gone[at_]?).getD 0
 match(nx at_)[g]? with
 | none=>some {s with st:=s.st.set at_ 2,out:=s.out++[at_],path:=s.path.dropLast}
 | some to=>
  let s':={s with gone:=s.gone.set at_ (g+1)}
  if(s.st[to]?).getD 0=2 then some s' else if(s.st[to]?).getD 0=1 then none else some {s' with st:=s.st.set to 1,path:=s.path++[to]}
def wg (nx:Nat->List Nat):Nat->DS->Option (List Nat)
 | 0,_=>none
 | f+1,s=>match s.path.getLast? with
  | none=>some s.out
  | some at_=>(jt nx s at_).bind (wg nx f)
def wo (n:Nat):DS:=⟨(List.replicate n 0).set 0 1,List.replicate n 0,[],[0]⟩
def total (nx:Nat->List Nat) (n:Nat):Nat:=((List.range n).map fun i=>(nx i).length).sum
def fg (c:XC):Option (List Nat):=wg (cH c) (2*total (cH c) c.ins.length+2) (wo c.ins.length)
def ij (k:Nat) (c:XC):Bool:=bif aX (bq (cQ k c) 0) then false else(fg c).isSome
structure Jo (nx:Nat->List Nat) (n:Nat) (s:DS):Prop where
 DI:s.st.length=n
 pY:s.gone.length=n
 gone:∀(i g:Nat),s.gone[i]?=some g->g<=(nx i).length
 path:∀i∈s.path,i<n/\s.st[i]?=some 1
 out:∀i∈s.out,i<n
 nodup:s.path.Nodup
 fresh:∀(i g:Nat),s.st[i]?=some 0->s.gone[i]?=some g->g=0
 done:∀(i:Nat),s.st[i]?=some 2->i∈s.out
 lz:∀(k i:Nat),s.out[k]?=some i->∀to∈nx i,∃k',k'<k/\s.out[k']?=some to
 ways:∀(j p g:Nat),s.path[j]?=some p->s.gone[p]?=some g->∀(m to:Nat),m<g->(nx p)[m]?=some to->to∈s.out∨s.path[j+1]?=some to
 zero:0∈s.out∨0∈s.path
 size:∀(i g:Nat),s.st[i]?=some g->g<=2
def im (nx:Nat->List Nat) (n:Nat) (s:DS):Nat:=2*(total nx n-s.gone.sum)+s.path.length
section
variable {nx:Nat->List Nat} {n:Nat} {s s':DS}
theorem DM:∀{l:List Nat} {i g g':Nat},l[i]?=some g->(l.set i g').sum+g=l.sum+g'
 | [],_,_,_,h=>by simp at h
 | x::l,0,g,g',h=>by
  simp only[List.getElem?_cons_zero,oJ_] at h;subst h;simp only[List.set_cons_zero,List.sum_cons];omega
 | x::l,i+1,g,g',h=>by
  have:=DM (l:=l) (i:=i) (g:=g) (g':=g') (by simpa using h);simp only[List.set_cons_succ,List.sum_cons];omega
theorem DL {f:Nat->Nat}:∀(l:List Nat) (k:Nat),(∀i g,l[i]?=some g->g<=f (k+i))->l.sum<=((List.range' k l.length).map f).sum
 | [],_,_=>by simp
 | x::l,k,h=>by
  have h0:=h 0 x rfl;have:=DL l (k+1) (fun i g hg=>by have:=h (i+1) g (by simpa using hg);rwa[show k+1+i=k+(i+1) by omega]);simp only[List.length_cons,List.range'_succ,List.map_cons,List.sum_cons];rw[Nat.add_zero] at h0;omega
theorem uw (hn:0<n):Jo nx n (wo n) where
 DI:=by simp[wo]
 pY:=by simp[wo]
 gone i g hg:=by
  have:g=0:=by
   have:=gB_ hg;exact eR_ this
  omega
 path i hi:=by
  obtain rfl:i=0:=by simpa [wo] using hi
  exact⟨hn,by simp[wo,hn]⟩
 out i hi:=by simp[wo] at hi
 nodup:=by simp[wo]
 fresh i g _ hg:=eR_ (gB_ hg)
 done i hi:=by
  exfalso;have hi:((List.replicate n 0).set 0 1)[i]?=some 2:=hi;rw[List.getElem?_set] at hi;split at hi
  ·split at hi
   ·simp at hi
   simp at hi
  have:=eR_ (gB_ hi);omega
 lz k i hk:=by simp[wo] at hk
 ways j p g hj hg m to hm:=by
  have:g=0:=eR_ (gB_ hg);omega
 zero:=.inr (by simp[wo])
 size i g hg:=by
  have hi:((List.replicate n 0).set 0 1)[i]?=some g:=hg;rw[List.getElem?_set] at hi;split at hi
  ·split at hi
   ·simp at hi;omega
   simp at hi
  have:=eR_ (gB_ hi);omega
theorem Dj:im nx n (wo n)=2*total nx n+1:=by
 have:(wo n).gone.sum=0:=by
  have:∀m,(List.replicate m 0).sum=0:=by intro m;induction m<;>simp_all [List.replicate_succ]
  exact this n
 unfold im;rw[this];rfl
theorem GP {l:List Nat} {a:Nat} {P:List Nat} (h:l.Nodup) (hl:l=P++[a]) {j:Nat} (hj:l[j]?=some a):j=P.length:=by
 subst hl;rcases Nat.lt_trichotomy j P.length with hlt | heq | hgt
 ·rw[gL_ hlt] at hj;have:=(List.nodup_append.1 h).2.2 _ (gB_ hj) a (by simp);exact absurd rfl this
 ·exact heq
 have:=(gA.1 hj).1;simp at this;omega
theorem mK (h:Jo nx n s) (hnx:∀i,i<n->∀to∈nx i,to<n) {a:Nat} (ha:s.path.getLast?=some a) (hs:jt nx s a=some s'):Jo nx n s'/\im nx n s'+1<=im nx n s/\s'.out.length+im nx n s'<=s.out.length+im nx n s:=by
 obtain⟨P,hP⟩:=List.getLast?_eq_some_iff.1 ha;have hap:a∈s.path:=by rw[hP];simp
 obtain⟨han,ar⟩:=h.path a hap;obtain⟨g,hg⟩:∃g,s.gone[a]?=some g:=⟨_,gC (by rw[h.pY];exact han)⟩
 have hPa:∀i∈P,i≠a:=fun i hi hh=>by
  have:=h.nodup;rw[hP] at this;exact(List.nodup_append.1 this).2.2 i hi a (by simp) hh
 have hla:s.path[P.length]?=some a:=by rw[hP];simp
 have hlb:s.path[P.length+1]?=none:=by rw[hP];simp
 unfold jt at hs;rw[hg] at hs;simp only[Option.getD_some] at hs;cases hto:(nx a)[g]? with
 | none=>
  rw[hto] at hs;simp only[oJ_] at hs;subst hs;have hle:(nx a).length<=g:=List.getElem?_eq_none_iff.1 hto;have hdl:s.path.dropLast=P:=by rw[hP];simp
  refine⟨⟨by simp[h.DI],h.pY,h.gone,?_,?_,?_,?_,?_,?_,?_,?_,?_⟩,?_,?_⟩
  ·intro i hi;have hi:i∈P:=by rw[<-hdl];exact hi
   have:=h.path i (by rw[hP];simp[hi]);refine⟨this.1,?_⟩;rw[List.getElem?_set_ne (fun e=>hPa i hi e.symm)];exact this.2
  ·intro i hi;rcases List.mem_append.1 hi with hi | hi
   ·exact h.out i hi
   obtain rfl:=List.mem_singleton.1 hi;exact han
  ·show s.path.dropLast.Nodup;rw[hdl];have:=h.nodup;rw[hP] at this;exact(List.nodup_append.1 this).1
  ·intro i g' h1 h2
   by_cases e:i=a
   ·subst e;have h1:(s.st.set i 2)[i]?=some 0:=h1;rw[List.getElem?_set_self (by rw[h.DI];exact han)] at h1;simp at h1
   have h1:(s.st.set a 2)[i]?=some 0:=h1;rw[List.getElem?_set_ne (fun x=>e x.symm)] at h1;exact h.fresh i g' h1 h2
  ·intro i hi;show i∈s.out++[a]
   by_cases e:i=a
   ·subst e;simp
   have hi:(s.st.set a 2)[i]?=some 2:=hi;rw[List.getElem?_set_ne (fun x=>e x.symm)] at hi;exact List.mem_append_left _ (h.done i hi)
  ·intro k i hk to hto';have hk:(s.out++[a])[k]?=some i:=hk;show∃k',k'<k/\(s.out++[a])[k']?=some to
   by_cases hlt:k<s.out.length
   ·rw[gL_ hlt] at hk;obtain⟨k',h1,h2⟩:=h.lz k i hk to hto';exact⟨k',h1,by rw[gL_ (by omega)];exact h2⟩
   have hlt':=(gA.1 hk).1;simp only[lA_,List.length_singleton] at hlt';obtain rfl:k=s.out.length:=by omega
   have hia:i=a:=by simpa using hk.symm
   subst hia;obtain⟨m,hm⟩:=gO_ hto';have hm':=(gA.1 hm).1;rcases h.ways _ _ _ hla hg m to (by omega) hm with h1 | h1
   ·obtain⟨k',h2⟩:=gO_ h1;have h3:=(gA.1 h2).1;exact⟨k',h3,by rw[gL_ h3];exact h2⟩
   rw[hlb] at h1;cases h1
  ·intro j p g' hj hg' m to hm hmt;have hj:s.path.dropLast[j]?=some p:=hj;rw[hdl] at hj;have hjl:=(gA.1 hj).1;show to∈s.out++[a]∨s.path.dropLast[j+1]?=some to;rcases h.ways j p g' (by rw[hP,gL_ hjl];exact hj) hg' m to hm hmt with h1 | h1
   ·exact .inl (List.mem_append_left _ h1)
   by_cases e:j+1<P.length
   ·refine .inr ?_;rw[hdl];rwa[hP,gL_ e] at h1
   obtain e:j+1=P.length:=by omega
   rw[e,hla] at h1;cases h1;exact .inl (by simp)
  ·show 0∈s.out++[a]∨0∈s.path.dropLast;rw[hdl];rcases h.zero with h1 | h1
   ·exact .inl (List.mem_append_left _ h1)
   rw[hP] at h1;rcases List.mem_append.1 h1 with h1 | h1
   ·exact .inr h1
   exact .inl (List.mem_append_right _ h1)
  ·intro i g' hi;have hi:(s.st.set a 2)[i]?=some g':=hi;rw[List.getElem?_set] at hi;split at hi
   ·split at hi
    ·simp at hi;omega
    simp at hi
   exact h.size i g' hi
  ·unfold im;show 2*(total nx n-s.gone.sum)+s.path.dropLast.length+1<=_;rw[hdl,hP];simp;omega
  unfold im;show(s.out++[a]).length+(2*(total nx n-s.gone.sum)+s.path.dropLast.length)<=_;rw[hdl,hP];simp;omega
 | some to=>
  rw[hto] at hs;dsimp only at hs;have hgl:g<(nx a).length:=(gA.1 hto).1;have hton:to<n:=hnx a han to (gB_ hto);obtain⟨v,hv⟩:∃v,s.st[to]?=some v:=⟨_,gC (by rw[h.DI];exact hton)⟩;rw[hv] at hs;simp only[Option.getD_some] at hs
  have hgone:∀(i g':Nat),(s.gone.set a (g+1))[i]?=some g'->g'<=(nx i).length:=fun i g' hi=>by
   rw[List.getElem?_set] at hi;split at hi
   ·rename_i e;subst e;split at hi
    ·simp at hi;omega
    simp at hi
   exact h.gone i g' hi
  have hsum:=DM (l:=s.gone) (i:=a) (g:=g) (g':=g+1) hg
  have hlt:(s.gone.set a (g+1)).sum<=total nx n:=by
   have:=DL (f:=fun i=>(nx i).length) (s.gone.set a (g+1)) 0 (fun i g' hg'=>by rw[nA_];exact hgone i g' hg');rw[List.length_set,h.pY] at this;unfold total;rwa[List.range_eq_range']
  have hother:∀(p g':Nat),p≠a->(s.gone.set a (g+1))[p]?=some g'->s.gone[p]?=some g':=fun p g' hp hg'=>by
   rwa[List.getElem?_set_ne (fun e=>hp e.symm)] at hg'
  have hself:∀(g':Nat),(s.gone.set a (g+1))[a]?=some g'->g'=g+1:=fun g' hg'=>by
   rw[List.getElem?_set_self (by rw[h.pY];exact han)] at hg';simpa using hg'.symm
  split at hs
  ·rename_i hv2;subst hv2;simp only[oJ_] at hs;subst hs;refine⟨⟨h.DI,by simp[h.pY],hgone,h.path,h.out,h.nodup,?_,h.done,h.lz,?_,h.zero,h.size⟩,?_,?_⟩
   ·intro i g' h1 h2;refine h.fresh i g' h1 (hother i g' (fun e=>?_) h2);subst e;rw[ar] at h1;simp at h1
   ·intro j p g' hj hg' m to' hm hmt
    by_cases hp:p=a
    ·subst hp;obtain rfl:=hself g' hg'
     by_cases hmg:m<g
     ·exact h.ways j p g hj hg m to' hmg hmt
     obtain rfl:m=g:=by omega
     rw[hto] at hmt;cases hmt;exact .inl (h.done _ hv)
    exact h.ways j p g' hj (hother p g' hp hg') m to' hm hmt
   ·unfold im;dsimp only;omega
   unfold im;dsimp only;omega
  split at hs
  ·cases hs
  rename_i hv2 hv1;simp only[oJ_] at hs;subst hs;have hv0:v=0:=by have:=h.size to v hv;omega
  subst hv0;have htop:to∉s.path:=fun hh=>by have:=(h.path to hh).2;rw[hv] at this;simp at this
  have hta:to≠a:=fun e=>htop (by rw[e];exact hap)
  have hstn:∀i,i≠to->(s.st.set to 1)[i]?=s.st[i]?:=fun i hi=>List.getElem?_set_ne (fun e=>hi e.symm)
  refine⟨⟨by simp[h.DI],by simp[h.pY],hgone,?_,h.out,?_,?_,?_,h.lz,?_,?_,?_⟩,?_,?_⟩
  ·intro i hi;rcases List.mem_append.1 hi with hi | hi
   ·obtain⟨h1,h2⟩:=h.path i hi;exact⟨h1,by show(s.st.set to 1)[i]?=_;rw[hstn i (fun e=>htop (by rw[<-e];exact hi))];exact h2⟩
   obtain rfl:=List.mem_singleton.1 hi;exact⟨hton,List.getElem?_set_self (by rw[h.DI];exact hton)⟩
  ·show(s.path++[to]).Nodup;refine List.nodup_append.2 ⟨h.nodup,by simp,fun x hx y hy=>?_⟩;obtain rfl:=List.mem_singleton.1 hy;exact fun e=>htop (by rw[<-e];exact hx)
  ·intro i g' h1 h2
   by_cases e:i=to
   ·subst e;have h1:(s.st.set i 1)[i]?=some 0:=h1;rw[List.getElem?_set_self (by rw[h.DI];exact hton)] at h1;simp at h1
   have h1b:(s.st.set to 1)[i]?=some 0:=h1;rw[hstn i e] at h1b;refine h.fresh i g' h1b (hother i g' (fun e=>?_) h2);rw[e,ar] at h1b;simp at h1b
  ·intro i hi
   by_cases e:i=to
   ·subst e;have hi:(s.st.set i 1)[i]?=some 2:=hi;rw[List.getElem?_set_self (by rw[h.DI];exact hton)] at hi;simp at hi
   have hi:(s.st.set to 1)[i]?=some 2:=hi;rw[hstn i e] at hi;exact h.done i hi
  ·intro j p g' hj hg' m to' hm hmt;have hjb:(s.path++[to])[j]?=some p:=hj;clear hj;have hj:=hjb;clear hjb;show to'∈s.out∨(s.path++[to])[j+1]?=some to'
   by_cases hjl:j<s.path.length
   ·rw[gL_ hjl] at hj
    by_cases hp:p=a
    ·subst hp;obtain rfl:=hself g' hg';have hjP:=GP h.nodup hP hj
     by_cases hmg:m<g
     ·rcases h.ways j p g hj hg m to' hmg hmt with h1 | h1
      ·exact .inl h1
      rw[hjP,hlb] at h1;cases h1
     obtain rfl:m=g:=by omega
     rw[hto] at hmt;cases hmt;refine .inr ?_;rw[hjP,show P.length+1=s.path.length by rw[hP];simp];simp
    rcases h.ways j p g' hj (hother p g' hp hg') m to' hm hmt with h1 | h1
    ·exact .inl h1
    have:=(gA.1 h1).1;exact .inr (by rw[gL_ this];exact h1)
   have hlt':=(gA.1 hj).1;simp only[lA_,List.length_singleton] at hlt';obtain rfl:j=s.path.length:=by omega
   have hpt:to=p:=by simpa using hj
   subst hpt;have:=h.fresh to g' hv (hother to g' hta hg');omega
  ·rcases h.zero with h1 | h1
   ·exact .inl h1
   exact .inr (List.mem_append_left _ h1)
  ·intro i g' hi;have hi:(s.st.set to 1)[i]?=some g':=hi;rw[List.getElem?_set] at hi;split at hi
   ·split at hi
    ·simp at hi;omega
    simp at hi
   exact h.size i g' hi
  ·unfold im;simp only[lA_,List.length_singleton];omega
  unfold im;simp only[lA_,List.length_singleton];omega
structure eF (nx:Nat->List Nat) (n:Nat) (out:List Nat):Prop where
 yD:∀(k i:Nat),out[k]?=some i->∀to∈nx i,∃k',k'<k/\out[k']?=some to
 zero:0∈out
 lt:∀i∈out,i<n
theorem qt (hnx:∀i,i<n->∀to∈nx i,to<n):∀{f:Nat} {s:DS} {out:List Nat},Jo nx n s->wg nx f s=some out->eF nx n out
 | 0,_,_,_,h=>by cases h
 | f+1,s,out,hw,h=>by
  unfold wg at h;cases hl:s.path.getLast? with
  | none=>
   rw[hl] at h;simp only[oJ_] at h;subst h;have:s.path= []:=List.getLast?_eq_none_iff.1 hl;exact⟨hw.lz,by rcases hw.zero with h1 | h1;exact h1;rw[this] at h1;simp at h1,hw.out⟩
  | some a=>
   rw[hl] at h;dsimp only at h;cases hd:jt nx s a with
   | none=>rw[hd] at h;cases h
   | some s'=>rw[hd] at h;exact qt hnx (mK hw hnx hl hd).1 h
end
structure TS where
 at_:Nat
 aP:List Int
 events:List cW
 asked:Nat
 fin:Int
 asks:Bool
def eZ (k:Nat) (aP:List Int) (x:XI) (i:Nat):Int:=((x.exprs[i]?).map (ed aP k)).getD 0
def dn (k:Nat) (x:XI) (s:TS):TS×Bool:=
 bif bq x.kind 1 then({s with aP:=s.aP.set x.ny.toNat (eZ k s.aP x 0),at_:=s.at_+1},true) else
 bif bq x.kind 3 then({s with events:=s.events++[⟨2,x.loc,x.order,0,eZ k s.aP x 0⟩],at_:=s.at_+1},true) else
 bif bq x.kind 7 then({s with events:=s.events++[⟨4,0,x.order,0,0⟩],at_:=s.at_+1},true) else
 bif bq x.kind 8 then(bif bq (eZ k s.aP x 0) 0 then({s with fin:=2},false) else({s with at_:=s.at_+1},true)) else
 bif bq x.kind 9 then(bif bq (eZ k s.aP x 0) 0 then({s with fin:=3},false) else({s with at_:=s.at_+1},true)) else
 bif bq x.kind 10 then({s with at_:=x.to.toNat},true) else
 bif bq x.kind 11 then(bif bq (eZ k s.aP x 0) 0 then({s with at_:=x.to.toNat},true) else({s with at_:=s.at_+1},true)) else
 bif bq x.kind 12 then({s with fin:=4},false) else
 bif bq x.kind 13 then({s with fin:=1},false) else
 ({s with asks:=true},false)
def bI (k:Nat) (c:XC) (s:TS):TS×Bool:=match c.ins[s.at_]? with | some x=>dn k x s | none=>(s,false)
def tC (k:Nat) (c:XC):Nat->TS->TS
 | 0,s=>s
 | f+1,s=>bif (bI k c s).2 then tC k c f (bI k c s).1 else(bI k c s).1
def ik (c:XC):Nat:=((fg c).getD []).length
def iW (k:Nat) (c:XC):TS:=tC k c (ik c) ⟨0,List.replicate c.aP.toNat 0,[],0,0,false⟩
structure qd where
 kind:Int
 loc:Int
 order:Int
 a:Int
 b:Int
def qd.ints (x:qd):List Int:=[x.kind,x.loc,x.order,x.a,x.b]
def wj (k:Nat) (x:XI) (aP:List Int):qd:=⟨x.kind,x.loc,x.order,eZ k aP x 0,eZ k aP x 1⟩
def kr (k:Nat) (c:XC) (s:TS):qd:=match c.ins[s.at_]? with | some x=>wj k x s.aP | none=>⟨0,0,0,0,0⟩
def cU (a:qd) (v:Int):cW:=
 bif bq a.kind 2 then⟨1,a.loc,a.order,v,0⟩ else
 bif bq a.kind 4 then(bif bq v a.a then⟨3,a.loc,a.order,v,a.b⟩ else⟨1,a.loc,a.order,v,0⟩) else
 bif bq a.kind 5 then⟨3,a.loc,a.order,v,wr .i64 (wr .u64 (Int.add (wr .u64 v) (wr .u64 a.a)))⟩ else
 bif bq a.kind 6 then⟨3,a.loc,a.order,v,a.a⟩ else⟨0,0,0,0,0⟩
def gy (a:qd):Int:=bif bq a.kind 2 then 0 else bif bq a.kind 4 then 0 else bif bq a.kind 5 then 0 else bif bq a.kind 6 then 0 else 2
def DA (c:XC) (s:TS):Nat:=match c.ins[s.at_]? with | some x=>x.ny.toNat | none=>0
def dW (k:Nat) (c:XC) (s:TS) (v:Int):TS:=
 {s with events:=s.events++[cU (kr k c s) v],aP:=s.aP.set (DA c s) v,asked:=s.asked+1,at_:=s.at_+1,asks:=false}
def dD (k:Nat) (c:XC) (s:TS) (v:Int):TS:=tC k c (ik c) (dW k c s v)
def iV (k:Nat) (c:XC):List Int->TS->TS
 | [],s=>s
 | v::r,s=>bif s.asks then iV k c r (dD k c s v) else s
def cT (l:List cW):List Int:=(l.filter dz).map cW.read
def fR (k:Nat) (c:XC) (a:List Int):TS:=iV k c a (iW k c)
def nK (s:TS) (l:List cW):Bool:=bif bG (.ofNat s.events.length) (.ofNat l.length) then false else cS (s.events.take l.length) l
def eV (k:Nat) (c:XC):Int:=bif ij k c then 0 else bif aX (bq (cQ k c) 0) then cQ k c else 2
structure pK where
 event:cW
 ask:qd
 fin:Int
def sy:cW:=⟨0,0,0,0,0⟩
def jd:qd:=⟨0,0,0,0,0⟩
def sA:pK:=⟨sy,jd,0⟩
def gT (k:Nat) (c:XC) (s:TS) (l:List cW):pK×Int:=
 bif aX (nK s l) then(sA,2) else
 match s.events[l.length]? with
 | some e=>(⟨e,jd,0⟩,0)
 | none=>bif s.asks then(⟨sy,kr k c s,0⟩,0) else(⟨sy,jd,s.fin⟩,0)
def da (k:Nat) (c:XC) (l:List cW):pK×Int:=
 bif aX (bq (eV k c) 0) then(sA,eV k c) else gT k c (fR k c (cT l)) l
structure ew (k:Nat) (c:XC):Prop where
 xy:0<=c.aP
 vH:c.aP<=16
 len:c.ins.length<=4000
 pos:0<c.ins.length
 right:∀x∈c.ins,eX c.aP (.ofNat c.ins.length) k x=true
 last:∀x,c.ins[c.ins.length-1]?=some x->ft x=true
theorem BH {k:Nat} {c:XC} (h:cQ k c=0):ew k c:=by
 unfold cQ at h;cases h1:bG 16 c.aP with
 | true=>rw[h1] at h;cases h
 | false=>
 rw[h1] at h;cases h2:bG 4000 (.ofNat c.ins.length) with
 | true=>rw[h2] at h;cases h
 | false=>
 rw[h2] at h;cases h3:aX (c.ins.all (sK k)) with
 | true=>rw[h3] at h;cases h
 | false=>
 rw[h3] at h;cases h4:bG c.aP 0 with
 | true=>rw[h4] at h;cases h
 | false=>
 rw[h4] at h;cases h5:bq (.ofNat c.ins.length) 0 with
 | true=>rw[h5] at h;cases h
 | false=>
 rw[h5] at h;cases h6:aX (c.ins.all (eX c.aP (.ofNat c.ins.length) k)) with
 | true=>rw[h6] at h;cases h
 | false=>
 rw[h6] at h;simp only[cond_false] at h;rw[eo,decide_eq_false_iff_not] at h1 h2 h4;have h2:¬(4000:Int)<(c.ins.length:Int):=h2
 have hp:0<c.ins.length:=by
  rw[dq,decide_eq_false_iff_not] at h5;rcases Nat.eq_zero_or_pos c.ins.length with e | e
  ·exact absurd (by rw[e];rfl) h5
  exact e
 refine⟨by omega,by omega,by omega,hp,fun x hx=>?_,fun x hx=>?_⟩
 ·have h6:=bx h6;exact aE_.1 h6 x hx
 rw[hx] at h;dsimp only at h;cases h7:ft x with
 | true=>rfl
 | false=>rw[h7] at h;cases h
theorem iL {aP nins:Int} {k:Nat} {x:XI} (h:eX aP nins k x=true):∃(n:Nat) (sh:jI),x.kind= .ofNat n/\1<=n/\n<=13/\hJ[n]?=some sh/\fG aP nins k x sh=true:=by
 unfold eX at h;cases h1:bG x.kind 1 with
 | true=>rw[h1] at h;cases h
 | false=>
 rw[h1] at h;cases h2:bG 13 x.kind with
 | true=>rw[h2] at h;cases h
 | false=>
 rw[h2] at h;simp only[cond_false] at h;rw[eo,decide_eq_false_iff_not] at h1 h2;obtain⟨n,hn⟩:∃n:Nat,x.kind= .ofNat n:=⟨x.kind.toNat,by show x.kind=(x.kind.toNat:Int);omega⟩;rw[hn] at h h1 h2;have h1:¬(n:Int)<1:=h1;have h2:¬(13:Int)<(n:Int):=h2;have e:(Int.ofNat n).toNat=n:=rfl;rw[e] at h;cases h3:hJ[n]? with
 | none=>rw[h3] at h;cases h
 | some sh=>rw[h3] at h;exact⟨n,sh,hn,by omega,by omega,h3,h⟩
theorem l4 {n least most:Int} (h:eY n least most true=true):least<=n/\n<most:=by
 unfold eY at h;simp only[cond_true] at h;cases h1:bG n least with
 | true=>rw[h1] at h;cases h
 | false=>
 rw[h1] at h;have h:bG n most=true:=h;rw[eo,decide_eq_false_iff_not] at h1;rw[eo,decide_eq_true_iff] at h;omega
structure HS (aP nins:Int) (k:Nat) (x:XI) (sh:jI):Prop where
 ny:eY x.ny 0 aP sh.ny=true
 loc:eY x.loc 0 6 sh.loc=true
 order:eY x.order 1 7 sh.order=true
 to:eY x.to 0 nins sh.to=true
 exprs:x.exprs.length=sh.exprs
 all:∀e∈x.exprs,dG aP k e=true
theorem gW {aP nins:Int} {k:Nat} {x:XI} {sh:jI} (h:fG aP nins k x sh=true):HS aP nins k x sh:=by
 unfold fG at h;cases h1:eY x.ny 0 aP sh.ny with
 | false=>rw[h1] at h;cases h
 | true=>
 cases h2:eY x.loc 0 6 sh.loc with
 | false=>rw[h1,h2] at h;cases h
 | true=>
 cases h3:eY x.order 1 7 sh.order with
 | false=>rw[h1,h2,h3] at h;cases h
 | true=>
 cases h4:eY x.to 0 nins sh.to with
 | false=>rw[h1,h2,h3,h4] at h;cases h
 | true=>
 rw[h1,h2,h3,h4] at h;have h:(bif aX (bq (.ofNat x.exprs.length) (.ofNat sh.exprs)) then false else x.exprs.all (dG aP k))=true:=h;cases h5:bq (.ofNat x.exprs.length) (.ofNat sh.exprs) with
 | false=>rw[h5] at h;cases h
 | true=>
 rw[h5] at h;have h:x.exprs.all (dG aP k)=true:=h;rw[fE,decide_eq_true_iff] at h5;exact⟨h1,h2,h3,h4,h5,aE_.1 h⟩
theorem rB {k:Nat} {c:XC} (h:ew k c):∀i,i<c.ins.length->∀to∈cH c i,to<c.ins.length:=by
 intro i hi to hto;unfold cH at hto;rw[gC hi] at hto;dsimp only at hto;have hx:=h.right c.ins[i] (List.getElem_mem hi);have hl:=h.last;generalize hxe:c.ins[i]=x at hto hx;obtain⟨n,sh,hn,n1,n13,hsh,hr⟩:=iL hx;have hr:=gW hr;have hto':=hr.to
 have hlast:i+1<c.ins.length∨ft x=true:=by
  by_cases e:i+1<c.ins.length
  ·exact .inl e
  refine .inr (hl x ?_);rw[show c.ins.length-1=i by omega,gC hi,hxe]
 unfold fM at hto;unfold ft at hlast;rw[hn] at hto hlast;have key:∀m:Nat,m=n->(∀y,(sh.to=true->0<=y/\y<(c.ins.length:Int))->y=x.to->True):=fun _ _ _ _ _=>trivial
 have tole:sh.to=true->0<=x.to/\x.to<(c.ins.length:Int):=fun e=>by rw[e] at hto';exact l4 hto'
 match n,n1,n13 with
 | 1,_,_ | 2,_,_ | 3,_,_ | 4,_,_ | 5,_,_ | 6,_,_ | 7,_,_ | 8,_,_ | 9,_,_=>
  have e:to=i+1:=List.mem_singleton.1 (show to∈[i+1] from hto);rcases hlast with e1 | e1
  ·omega
  cases e1
 | 10,_,_=>
  have e:to=x.to.toNat:=List.mem_singleton.1 (show to∈[x.to.toNat] from hto);have:=tole (by cases hsh;rfl);omega
 | 11,_,_=>
  have e:to=i+1∨to=x.to.toNat:=by have h2:to∈[i+1,x.to.toNat]:=hto;simpa using h2
  have:=tole (by cases hsh;rfl);rcases e with e | e
  ·rcases hlast with e1 | e1
   ·omega
   cases e1
  omega
 | 12,_,_ | 13,_,_=>exact absurd (show to∈([]:List Nat) from hto) (by simp)
theorem ra {k:Nat} {c:XC} (h:ij k c=true):ew k c/\∃out,fg c=some out/\eF (cH c) c.ins.length out:=by
 unfold ij at h;cases h1:bq (cQ k c) 0 with
 | false=>rw[h1] at h;cases h
 | true=>
  rw[h1] at h;have h:(fg c).isSome=true:=h;have hc:=BH (Ik h1);obtain⟨out,ho⟩:=Option.isSome_iff_exists.1 h;exact⟨hc,out,ho,qt (rB hc) (uw hc.pos) ho⟩
def cw:Nat->XE->Nat
 | 0,_=>0
 | k+1,.mk _ _ _ kids=>(kids.map (cw k)).sum+1
def lF (l:List Nat):Nat:=l.foldl max 0
def fb:Nat->XE->Nat
 | 0,_=>0
 | k+1,.mk _ _ _ kids=>lF (kids.map (fb k))+1
theorem foldl_max:∀(l:List Nat) (m:Nat),l.foldl max m=max m (lF l)
 | [],m=>by show m=max m 0;omega
 | a::l,m=>by
  show l.foldl max (max m a)=max m (l.foldl max (max 0 a));rw[foldl_max l (max m a),foldl_max l (max 0 a)];omega
theorem EZ (a:Nat) (l:List Nat):lF (a::l)=max a (lF l):=by
 show l.foldl max (max 0 a)=_;rw[foldl_max];omega
theorem E0 (a:Nat) (l:List Nat):lF (l++[a])=max (lF l) a:=by unfold lF;rw[List.foldl_append];rfl
theorem y9 {n:Nat} (h:n<=9223372036854775807):wr .i64 (Int.ofNat n)= .ofNat n:=by
 show(bif Nat.ble n 9223372036854775807 then _ else _)=_;rw[show Nat.ble n 9223372036854775807=true by rw[nE_];exact h];rfl
theorem MI {a b c:Bool}:(bif a then b else c)=true↔(a=true->b=true)/\(a=false->c=true):=by cases a<;>simp
theorem Ll {a:Bool}:aX a=true↔a=false:=by cases a<;>simp[aX]
theorem MR {a:Bool}:aX a=false↔a=true:=by cases a<;>simp[aX]
theorem MK {a b:Int}:bq a b=true↔a=b:=by rw[dq];simp
theorem C8 {a b:Int}:bq a b=false↔¬a=b:=by rw[dq];simp
theorem Ju {a b:Int}:bG a b=true↔a<b:=by rw[eo];simp
theorem EN {a b:Int}:bG a b=false↔b<=a:=by rw[eo];simp
theorem Fg {k:Nat} {x:XE}:1<=cw (k+1) x:=by cases x;show 1<=_+1;omega
theorem xC {f:XE->Int->Option Int} {g:XE->Nat} {q:XE->Bool}:∀(l:List XE) (m:Nat),m<=2000->(∀x∈l,∀m:Nat,m<=2000->f x (.ofNat m)=if m+g x<=2000/\q x=true then some (.ofNat (m+g x)) else none)->
  gu f l (.ofNat m)=if m+(l.map g).sum<=2000/\l.all q=true then some (.ofNat (m+(l.map g).sum)) else none
 | [],m,hm,_=>by rw[if_pos ⟨by simpa using hm,rfl⟩];rfl
 | x::l,m,hm,h=>by
  show(f x (.ofNat m)).bind (gu f l)=_;rw[h x (mS_ ..) m hm];simp only[List.map_cons,List.sum_cons,List.all_cons]
  by_cases h1:m+g x<=2000/\q x=true
  ·rw[if_pos h1];show gu f l (.ofNat (m+g x))=_;rw[xC l (m+g x) h1.1 (fun y hy=>h y (mC_ _ hy)),h1.2,Nat.add_assoc];simp
  rw[if_neg h1,if_neg]
  ·rfl
  rintro ⟨a,b⟩;simp only[bA_] at b;exact h1 ⟨by omega,b.1⟩
theorem yu {l:List Nat} {B:Nat}:lF l<=B↔∀x∈l,x<=B:=by
 induction l with
 | nil=>simp[lF]
 | cons a l ih=>rw[EZ,Nat.max_le,ih];simp
def hY:Nat->XE->Prop
 | 0,_=>False
 | k+1,.mk _ _ name kids=>name.length<=9223372036854775807/\∀y∈kids,hY k y
theorem xB:∀(k:Nat) (x:XE) (d m:Nat),hY k x->m<=2000->d<=33->kb k x (.ofNat d) (.ofNat m)=if m+cw k x<=2000/\Nat.ble (d+fb k x) 33=true then some (.ofNat (m+cw k x)) else none
 | 0,x,_,_,h,_,_=>h.elim
 | k+1,.mk op num name kids,d,m,hf,hm,hd=>by
  show(bif (bif bG 2000 (wr .i64 (Int.add (.ofNat m) 1)) then true else bG 32 (.ofNat d)) then none else gu (fun x m=>kb k x (wr .i64 (Int.add (.ofNat d) 1)) m) kids (wr .i64 (Int.add (.ofNat m) 1)))=_;rw[show Int.add (.ofNat m) 1= .ofNat (m+1) from rfl,show Int.add (.ofNat d) 1= .ofNat (d+1) from rfl,y9 (by omega),y9 (by omega)];rw[show cw (k+1) (.mk op num name kids)=(kids.map (cw k)).sum+1 from rfl,show fb (k+1) (.mk op num name kids)=lF (kids.map (fb k))+1 from rfl]
  by_cases h1:2000<m+1
  ·rw[show bG 2000 (.ofNat (m+1))=true from Ju.2 (by show(2000:Int)<((m+1:Nat):Int);omega)];rw[if_neg (by rintro ⟨a,_⟩;omega)];rfl
  rw[show bG 2000 (.ofNat (m+1))=false from EN.2 (by show((m+1:Nat):Int)<=2000;omega)]
  by_cases h2:32<d
  ·rw[show bG 32 (.ofNat d)=true from Ju.2 (by show(32:Int)<(d:Int);omega)];rw[if_neg (by rintro ⟨_,a⟩;have:=Nat.le_of_ble_eq_true a;omega)];rfl
  rw[show bG 32 (.ofNat d)=false from EN.2 (by show(d:Int)<=32;omega)];show gu _ kids (.ofNat (m+1))=_;rw[xC (g:=cw k) (q:=fun x=>Nat.ble (d+1+fb k x) 33) kids (m+1) (by omega) (fun x hx m' hm'=>xB k x (d+1) m' (hf.2 x hx) hm' (by omega))]
  have e:(kids.all fun x=>Nat.ble (d+1+fb k x) 33)=Nat.ble (d+(lF (kids.map (fb k))+1)) 33:=by
   rw[Bool.eq_iff_iff];simp only[aE_,nE_];constructor
   ·intro h
    have:lF (kids.map (fb k))<=32-d:=yu.2 fun y hy=>by
     obtain⟨x,hx,rfl⟩:=List.mem_map.1 hy;have:=h x hx;omega
    omega
   intro h x hx;have:=yu.1 (nR_ (lF (kids.map (fb k)))) _ (List.mem_map_of_mem hx);omega
  rw[e,show m+1+(kids.map (cw k)).sum=m+((kids.map (cw k)).sum+1) by omega]
def fT (k:Nat) (x:XE):Bool:=bif Nat.blt 2000 (cw k x) then true else Nat.blt 32 (fb k x)
theorem vP {k:Nat} {x:XE} (h:hY k x):(kb k x 1 0).isSome=aX (fT k x):=by
 rw[show kb k x 1 0=kb k x (.ofNat 1) (.ofNat 0) from rfl,xB k x 1 0 h (by omega) (by omega)];unfold fT
 by_cases h1:2000<cw k x
 ·rw[if_neg (by omega),show Nat.blt 2000 (cw k x)=true from by rw[Nat.blt_eq];exact h1];rfl
 rw[show Nat.blt 2000 (cw k x)=false from by rw[Bool.eq_false_iff];intro h;rw[Nat.blt_eq] at h;omega]
 by_cases h2:32<fb k x
 ·rw[if_neg (by rintro ⟨_,a⟩;have:=Nat.le_of_ble_eq_true a;omega),show Nat.blt 32 (fb k x)=true from by rw[Nat.blt_eq];exact h2];rfl
 rw[if_pos ⟨by omega,by rw[nE_];omega⟩,show Nat.blt 32 (fb k x)=false from by rw[Bool.eq_false_iff];intro h;rw[Nat.blt_eq] at h;omega];rfl
theorem y8 {n:Int} (h:-9223372036854775808<=n) (h2:n<=9223372036854775807):wr .i64 n=n:=by
 cases n with
 | ofNat n=>exact y9 (by have:(n:Int)<=9223372036854775807:=h2;omega)
 | negSucc n=>
  show(bif Nat.ble (n+1) 9223372036854775808 then _ else _)=_;rw[show Nat.ble (n+1) 9223372036854775808=true by rw[nE_];omega];rfl
theorem Gs {name:List Nat} {m:Int} (hn:name.length<=9223372036854775807) (h0:0<=m) (h1:m<=100):ta name m=m-1-((name.length/20:Nat):Int):=by
 unfold ta;have e:Int.tdiv (.ofNat (cD name)) 20=((name.length/20:Nat):Int):=by rw[bz];rfl
 have hd:name.length/20<=461168601842738790:=by omega
 rw[e,show Int.sub m 1=m-1 from rfl,y8 (n:=m-1) (by omega) (by omega),y8 (n:=((name.length/20:Nat):Int)) (by omega) (by omega)];exact y8 (n:=m-1-((name.length/20:Nat):Int)) (by omega) (by omega)
theorem z4 {f:XE->Int->Int} {g:XE->Nat}:∀(l:List XE) (m:Int),m<=100->(∀x∈l,∀m,0<=m->m<=100->f x m<=m/\(0<=f x m->(g x:Int)+f x m<=m))->jW f l m<=m/\(0<=jW f l m->(((l.map g).sum:Nat):Int)+jW f l m<=m)
 | [],m,_,_=>⟨Int.le_refl _,fun _=>by show((0:Nat):Int)+m<=m;omega⟩
 | x::l,m,hm,h=>by
  show(bif bG m 0 then m else jW f l (f x m))<=m/\(0<=(bif bG m 0 then m else jW f l (f x m))->_+(bif bG m 0 then m else jW f l (f x m))<=m);cases hl:bG m 0 with
  | true=>
   rw[eo,decide_eq_true_iff] at hl;exact⟨Int.le_refl _,fun h=>by have h:0<=m:=h;omega⟩
  | false=>
   rw[eo,decide_eq_false_iff_not] at hl;obtain⟨h1,h2⟩:=h x (mS_ ..) m (by omega) hm;obtain⟨h3,h4⟩:=z4 l (f x m) (by omega) (fun y hy=>h y (mC_ _ hy));simp only[cond_false,List.map_cons,List.sum_cons];exact⟨by omega,fun h5=>by have:=h4 h5;have:=h2 (by omega);push_cast;omega⟩
theorem z3:∀(k:Nat) (x:XE) (m:Int),hY k x->0<=m->m<=100->nL k x m<=m/\(0<=nL k x m->(cw k x:Int)+nL k x m<=m)
 | 0,_,_,h,_,_=>h.elim
 | k+1,.mk op num name kids,m,hf,h0,h1=>by
  have e:=Gs hf.1 h0 h1;have hd:0<=((name.length/20:Nat):Int):=Int.natCast_nonneg _;obtain⟨h3,h4⟩:=z4 (f:=nL k) (g:=cw k) kids (ta name m) (by omega) (fun x hx m h0 h1=>z3 k x m (hf.2 x hx) h0 h1);show jW (nL k) kids (ta name m)<=m/\(0<=jW (nL k) kids (ta name m)->(((kids.map (cw k)).sum+1:Nat):Int)+jW (nL k) kids (ta name m)<=m);exact⟨by omega,fun h5=>by have:=h4 h5;push_cast;omega⟩
theorem Cf {k:Nat} {x:XE} (hf:hY k x) (h:uZ k x 60=true):cw k x<=60:=by
 unfold uZ at h;have h:=bM h;rw[eo,decide_eq_false_iff_not] at h;have:=(z3 k x 60 hf (by omega) (by omega)).2 (by omega);omega
def yq (c:Nat):Bool:=bif (bif aX (bG (.ofNat c) 97) then aX (bG 122 (.ofNat c)) else false) then true else bif aX (bG (.ofNat c) 65) then aX (bG 90 (.ofNat c)) else false
def En (c:Nat):Bool:=bif aX (bG (.ofNat c) 48) then aX (bG 57 (.ofNat c)) else false
def qY (first:Bool) (c:Nat):Bool:=bif yq c then true else bif first then false else bif En c then true else aX (aX (bq (.ofNat c) 95))
def dk:Bool->List Nat->Bool
 | _,[]=>true
 | f,c::r=>bif qY f c then dk false r else false
def nN:List (List Nat):=[[115,104,97,114,101,100],[112,108,97,105,110],[116,104,114,101,97,100],[105,102],[101,108,115,101],[119,104,105,108,101],[108,111,97,100],[115,116,111,114,101],[99,97,115],[97,100,100],[115,119,97,112],[102,101,110,99,101],[97,115,115,117,109,101],[97,115,115,101,114,116],[110,97],[114,108,120],[97,99,113],[114,101,108],[97,114],[115,99]]
def isKey (s:List Nat):Bool:=nN.any fun k=>fF k s
def jo (s:List Nat):Bool:=bif dk true s then(bif fF s [] then false else aX (isKey s)) else false
theorem qs {s:List Nat} {i c:Nat} (h:s[i]?=some c) (hc:qY (bq (.ofNat i) 0) c=true):dk (bq (.ofNat i) 0) (s.drop i)=dk (bq (.ofNat (i+1)) 0) (s.drop (i+1)):=by
 rw[cL h];show(bif qY _ c then dk false _ else false)=_;rw[hc,show bq (.ofNat (i+1)) 0=false from by rw[dq];exact decide_eq_false (by intro e;have:((i+1:Nat):Int)=0:=e;omega)];rfl
theorem uj {s:List Nat} {i c:Nat} (h:s[i]?=some c) (hc:qY (bq (.ofNat i) 0) c=false):dk (bq (.ofNat i) 0) (s.drop i)=false:=by
 rw[cL h];show(bif qY _ c then dk false _ else false)=_;rw[hc];rfl
theorem Ei {s:List Nat} {i:Nat} (h:s.length<=i):dk (bq (.ofNat i) 0) (s.drop i)=true:=by rw[fy h];rfl
def fm (s:List Nat) (vs:List AV):Prop:=vs= [.str s]
theorem rP {α:Type} {f:α->Nat} {l:List α} {i:Nat} {x:α} (h:l[i]?=some x):((l.take (i+1)).map f).sum=((l.take i).map f).sum+f x:=by
 rw[List.take_add_one,h];simp
theorem GH {α:Type} {f:α->Nat} {l:List α} {i:Nat} {x:α} (h:l[i]?=some x):lF ((l.take (i+1)).map f)=max (lF ((l.take i).map f)) (f x):=by
 rw[List.take_add_one,h,List.map_append];exact E0 _ _
theorem CK {α:Type} {f:α->Nat} {l:List α} {i:Nat}:((l.take i).map f).sum<=(l.map f).sum:=by
 have:(l.map f).sum=((l.take i).map f).sum+((l.drop i).map f).sum:=by rw[<-List.sum_append,<-List.map_append,List.take_append_drop]
 omega
theorem kH {α:Type} {f:α->Nat} {l:List α} {i:Nat} {x:α} (h:l[i]?=some x):f x<=(l.map f).sum:=by
 have h1:=rP (f:=f) h;have h2:=CK (f:=f) (l:=l) (i:=i+1);omega
theorem Dm (a b:Nat):(bif bG (.ofNat a) (.ofNat b) then(.ofNat b:Int) else .ofNat a)= .ofNat (max a b):=by
 cases h:bG (.ofNat a) (.ofNat b) with
 | true=>have:=bm h;show Int.ofNat b=_;rw[Nat.max_eq_right (by omega)]
 | false=>have:=br h;show Int.ofNat a=_;rw[Nat.max_eq_left (by omega)]
theorem wT:∀(k:Nat) (x:XE),fb k x<=cw k x
 | 0,_=>nR_ _
 | k+1,.mk op num name kids=>by
  show lF (kids.map (fb k))+1<=(kids.map (cw k)).sum+1;refine Nat.succ_le_succ (yu.2 fun y hy=>?_);obtain⟨x,hx,rfl⟩:=List.mem_map.1 hy;obtain⟨i,hi⟩:=gO_ hx;exact Nat.le_trans (wT k x) (kH hi)
theorem zJ:∀{s:List Nat} {m n:Nat},mf s m=some n->∀c∈s,48<=c/\c<=57
 | [],_,_,_,c,hc=>by simp at hc
 | a::s,m,n,h,c,hc=>by
  unfold mf at h;split at h
  ·rename_i ha;rcases mQ_.1 hc with rfl | hc
   ·exact ha
   exact zJ h c hc
  cases h
theorem sW:∀{s:List Nat},(∀c∈s,48<=c/\c<=57)->dk false s=true
 | [],_=>rfl
 | a::s,h=>by
  have ha:=h a (mS_ ..);unfold dk
  have h1:yq a=false:=by
   unfold yq;rw[Ju.2 (show(Int.ofNat a)<97 by show(a:Int)<97;omega),Ju.2 (show(Int.ofNat a)<65 by show(a:Int)<65;omega)];rfl
  have h2:En a=true:=by
   unfold En;rw[EN.2 (show 48<=(Int.ofNat a) by show 48<=(a:Int);omega),EN.2 (show(Int.ofNat a)<=57 by show(a:Int)<=57;omega)];rfl
  have:qY false a=true:=by unfold qY;rw[h1,h2];rfl
  rw[this];exact sW fun c hc=>h c (mC_ _ hc)
theorem Fa {s:List Nat} {n:Nat} (h:gH s=some n):jo (114::s)=true/\s≠[]:=by
 unfold gH at h;split at h
 ·cases h
 rename_i hn;have hd:=zJ h;have hne:s≠[]:=fun e=>hn (.inl (by rw[e];rfl))
 refine⟨?_,hne⟩;obtain⟨a,r,rfl⟩:=List.exists_cons_of_ne_nil hne;have ha:=hd a (mS_ ..);unfold jo;rw[show dk true (114::a::r)=true from(by show(bif qY true 114 then dk false (a::r) else false)=true;rw[show qY true 114=true from rfl,sW hd];rfl),j1,show decide (114::a::r= [])=false from by simp]
 have:isKey (114::a::r)=false:=by
  unfold isKey;rw[Bool.eq_false_iff];intro hk;obtain⟨x,hx,he⟩:=List.any_eq_true.1 hk;rw[j1] at he;have he:=of_decide_eq_true he;subst he;simp only[nN,mQ_,List.cons.injEq,List.not_mem_nil,or_false] at hx;omega
 rw[this];rfl
theorem Bf:jo []=false:=by unfold jo;rw[show fF [] []=true from by rw[j1];simp];rfl
theorem KQ:jo [48]=false:=by
 unfold jo;rw[show dk true [48]=false from rfl];rfl
def iT (s:List Nat):Int:=match gH s with | some n=>.ofNat n | none=>-1
def iq (op:Int) (name:List Nat):List Nat:=bif bq op 2 then(match gH name with | some _=>114::name | none=>[48]) else name
def fe:Nat->XE->XE
 | 0,x=>x
 | k+1,.mk op num name kids=>.mk op num (iq op name) (kids.map (fe k))
def pZ (op:Int):Int:=bif (bif bq op 1 then true else bq op 2) then 0 else bif (bif bq op 3 then true else bq op 4) then 1 else bif (bif aX (bG op 5) then aX (bG 16 op) else false) then 2 else-1
def dv (op num:Int) (name:List Nat) (n:Nat):Bool:=
 bif aX (bq (pZ op) (.ofNat n)) then false else bif (bif bq op 2 then aX (jo name) else jo name) then false else
 bif (bif aX (bq op 2) then aX (fF name []) else false) then false else bif bG num 0 then false else bif (bif aX (bq op 1) then aX (bq num 0) else false) then false else true
def dH:Nat->XE->Bool
 | 0,_=>false
 | k+1,.mk op num name kids=>bif dv op num name kids.length then kids.all (dH k) else false
def nc (k:Nat) (x:XE):Int:=bif fT k x then 3 else bif dH k x then 0 else 2
def fh:Nat->XE->List (List Nat)
 | 0,_=>[]
 | k+1,.mk op _ name kids=>(bif (bif bq op 2 then aX (fF name []) else false) then [name] else [])++(kids.map (fh k)).flatten
theorem oL:∀(k:Nat) (x:XE),cw k (fe k x)=cw k x
 | 0,_=>rfl
 | k+1,.mk op num name kids=>by
  show((kids.map (fe k)).map (cw k)).sum+1=(kids.map (cw k)).sum+1;rw[List.map_map];exact congrArg (fun l=>l.sum+1) (List.map_congr_left fun x _=>oL k x)
theorem sZ:∀(k:Nat) (x:XE),fb k (fe k x)=fb k x
 | 0,_=>rfl
 | k+1,.mk op num name kids=>by
  show lF ((kids.map (fe k)).map (fb k))+1=lF (kids.map (fb k))+1;rw[List.map_map];exact congrArg (fun l=>lF l+1) (List.map_congr_left fun x _=>sZ k x)
theorem Ah (k:Nat) (x:XE):fT k (fe k x)=fT k x:=by unfold fT;rw[oL,sZ]
theorem gO {a b:Int} (h:a≠b):bq a b=false:=by rw[dq];exact decide_eq_false h
theorem uA {s:List Nat} (h:fF s []=true):s= []:=by rw[j1] at h;exact of_decide_eq_true h
theorem Cv (aP:Int) (k:Nat) (op num:Int) (name:List Nat) (kids:List XE):dG aP (k+1) (.mk op num name kids)=(bif (bif dv op num (iq op name) kids.length then(bif (bif bq op 2 then aX (fF name []) else false) then [name] else []).all (fun s=>bG (iT s) aP) else false) then kids.all (dG aP k) else false):=by
 have hlen:bq 0 (.ofNat kids.length)=bq (.ofNat kids.length) 0:=by rw[dq,dq];exact decide_eq_decide.2 eq_comm
 have hall:bq (.ofNat kids.length) 0=true->kids.all (dG aP k)=true:=fun h=>by
  have:kids.length=0:=iJ_ (eqv h);rw[eN_ this];rfl
 by_cases h1:op=1
 ·subst h1;show(bif aX (bG num 0) then(bif fF name [] then bq (.ofNat kids.length) 0 else false) else false)=(bif (bif (bif aX (bq 0 (.ofNat kids.length)) then false else bif jo name then false else bif aX (fF name []) then false else bif bG num 0 then false else true) then true else false) then kids.all (dG aP k) else false);rw[hlen];cases hl:bq (.ofNat kids.length) 0 with
  | false=>cases bG num 0<;>cases fF name []<;>rfl
  | true=>
   rw[hall hl];cases hs:fF name [] with
   | false=>cases bG num 0<;>cases jo name<;>rfl
   | true=>rw[uA hs,Bf];cases bG num 0<;>rfl
 by_cases h2:op=2
 ·subst h2;show(match gH name with | some n=>(bif bG (.ofNat n) aP then(bif bq num 0 then bq (.ofNat kids.length) 0 else false) else false) | none=>false)=(bif (bif (bif aX (bq 0 (.ofNat kids.length)) then false else bif aX (jo (match gH name with | some _=>114::name | none=>[48])) then false else bif bG num 0 then false else bif aX (bq num 0) then false else true) then(bif aX (fF name []) then [name] else []).all (fun s=>bG (iT s) aP) else false) then kids.all (dG aP k) else false);rw[hlen];cases hr:gH name with
  | none=>
   dsimp only;rw[KQ];cases bq (.ofNat kids.length) 0<;>rfl
  | some n=>
   dsimp only;obtain⟨hw,hne⟩:=Fa hr;have hnum:iT name= .ofNat n:=by unfold iT;rw[hr]
   rw[hw,show fF name []=false from by rw[j1];exact decide_eq_false hne];show _=(bif (bif _ then([name].all fun s=>bG (iT s) aP) else false) then _ else false);simp only[List.all_cons,List.all_nil,Bool.and_true,hnum];cases hl:bq (.ofNat kids.length) 0 with
   | false=>cases bG (.ofNat n) aP<;>cases bq num 0<;>rfl
   | true=>
    rw[hall hl];cases hz:bq num 0 with
    | false=>cases bG (.ofNat n) aP<;>cases bG num 0<;>rfl
    | true=>rw[eqv hz];cases bG (.ofNat n) aP<;>rfl
 have e1:=gO h1;have e2:=gO h2;have hname:iq op name=name:=by unfold iq;rw[e2];rfl
 have hA:(bif (bif bq op 2 then aX (fF name []) else false) then [name] else []).all (fun s=>bG (iT s) aP)=true:=by rw[e2];rfl
 rw[hname,hA];show(bif bq op 1 then _ else bif bq op 2 then _ else _)=_;unfold dv pZ fc;rw[e1,e2];simp only[cond_false];have hword:fF name []=true->jo name=false:=fun h=>by rw[uA h];exact Bf
 have hz:bq num 0=true->bG num 0=false:=fun h=>by rw[eqv h];rfl
 have hn1:∀n:Nat,bq (-1) (.ofNat n)=false:=fun n=>gO (by intro h;have:(-1:Int)=(n:Int):=h;omega)
 have hc1:bq 1 (.ofNat kids.length)=bq (.ofNat kids.length) 1:=by rw[dq,dq];exact decide_eq_decide.2 eq_comm
 have hc2:bq 2 (.ofNat kids.length)=bq (.ofNat kids.length) 2:=by rw[dq,dq];exact decide_eq_decide.2 eq_comm
 cases h34:(bif bq op 3 then true else bq op 4) with
 | true=>
  simp only[cond_true,cond_false,hc1];cases hs:fF name [] with
  | false=>cases bq (.ofNat kids.length) 1<;>cases bq num 0<;>cases jo name<;>cases bG num 0<;>rfl
  | true=>
   rw[hword hs];cases hnz:bq num 0 with
   | false=>cases bq (.ofNat kids.length) 1<;>cases bG num 0<;>rfl
   | true=>rw[hz hnz];cases bq (.ofNat kids.length) 1<;>cases kids.all (dG aP k)<;>rfl
 | false=>
  cases h5:bG op 5 with
  | true=>simp only[cond_true,cond_false,hn1,show aX true=false from rfl,show aX false=true from rfl]
  | false=>
  cases h16:bG 16 op with
  | true=>simp only[cond_true,cond_false,aX,hn1]
  | false=>
   simp only[cond_true,cond_false,hc2,show aX false=true from rfl];cases hs:fF name [] with
   | false=>cases bq (.ofNat kids.length) 2<;>cases bq num 0<;>cases jo name<;>cases bG num 0<;>rfl
   | true=>
    rw[hword hs];cases hnz:bq num 0 with
    | false=>cases bq (.ofNat kids.length) 2<;>cases bG num 0<;>rfl
    | true=>rw[hz hnz];cases bq (.ofNat kids.length) 2<;>cases kids.all (dG aP k)<;>rfl
theorem oH (aP:Int):∀(k:Nat) (x:XE),(bif dH k (fe k x) then(fh k x).all (fun s=>bG (iT s) aP) else false)=dG aP k x
 | 0,_=>rfl
 | k+1,.mk op num name kids=>by
  have hkids:(bif (kids.map (fe k)).all (dH k) then((kids.map (fh k)).flatten).all (fun s=>bG (iT s) aP) else false)=kids.all (dG aP k):=by
   rw[Bool.eq_iff_iff];rw[MI];constructor
   ·intro h
    have h1:(kids.map (fe k)).all (dH k)=true:=by
     cases hh:(kids.map (fe k)).all (dH k) with
     | true=>rfl
     | false=>exact absurd (h.2 hh) Bool.false_ne_true
    have h2:=aE_.1 (h.1 h1);refine aE_.2 fun x hx=>?_
    rw[<-oH aP k x,show dH k (fe k x)=true from aE_.1 h1 _ (List.mem_map_of_mem hx)];exact aE_.2 fun s hs=>h2 s (List.mem_flatten.2 ⟨_,List.mem_map_of_mem hx,hs⟩)
   intro h;have h:=aE_.1 h
   have h3:∀x∈kids,dH k (fe k x)=true/\(fh k x).all (fun s=>bG (iT s) aP)=true:=fun x hx=>by
    have:=h x hx;rw[<-oH aP k x] at this;cases hh:dH k (fe k x) with
    | true=>rw[hh] at this;exact⟨rfl,this⟩
    | false=>rw[hh] at this;cases this
   refine⟨fun _=>aE_.2 fun s hs=>?_,fun h1=>?_⟩
   ·obtain⟨l,hl,hs⟩:=List.mem_flatten.1 hs;obtain⟨x,hx,rfl⟩:=List.mem_map.1 hl;exact aE_.1 (h3 x hx).2 s hs
   rw[aE_.2 fun y hy=>by obtain⟨x,hx,rfl⟩:=List.mem_map.1 hy;exact(h3 x hx).1] at h1;cases h1
  have key:dG aP (k+1) (.mk op num name kids)=(bif (bif dv op num (iq op name) kids.length then(bif (bif bq op 2 then aX (fF name []) else false) then [name] else []).all (fun s=>bG (iT s) aP) else false) then kids.all (dG aP k) else false):=Cv aP k op num name kids;show(bif (bif dv op num (iq op name) (kids.map (fe k)).length then(kids.map (fe k)).all (dH k) else false) then((bif (bif bq op 2 then aX (fF name []) else false) then [name] else [])++(kids.map (fh k)).flatten).all (fun s=>bG (iT s) aP) else false)=_;rw[lM_,List.all_append,key,<-hkids];cases dv op num (iq op name) kids.length<;>cases (kids.map (fe k)).all (dH k)<;>cases (bif (bif bq op 2 then aX (fF name []) else false) then [name] else []).all (fun s=>bG (iT s) aP)<;>rfl
def fB (kind:Int):Int:=
 bif bq kind 1 then 1 else bif bq kind 3 then 1 else bif bq kind 5 then 1 else bif bq kind 6 then 1 else bif bq kind 8 then 1 else bif bq kind 9 then 1 else bif bq kind 11 then 1 else bif bq kind 4 then 2 else
 bif bq kind 2 then 0 else bif bq kind 7 then 0 else bif bq kind 10 then 0 else bif bq kind 12 then 0 else bif bq kind 13 then 0 else-1
def pF (kind:Int):Bool:=bif bq kind 2 then true else bif bq kind 3 then true else bif bq kind 4 then true else bif bq kind 5 then true else bq kind 6
def jX (kind:Int):Bool:=bif bq kind 1 then true else bif pF kind then aX (bq kind 3) else false
def zc (a b:Bool):Bool:=bif a then aX b else b
def ll (aP:Int) (k:Nat) (e:XE):Bool:=bif bq (nc k (fe k e)) 0 then(fh k e).all (fun s=>bG (iT s) aP) else false
def rF (kind:Int):Bool:=bif pF kind then true else bq kind 7
def I5 (kind:Int):Bool:=bif bq kind 10 then true else bq kind 11
def nI (x:XI):Bool:=
 bif aX (bq (fB x.kind) (.ofNat x.exprs.length)) then true else bif zc (rF x.kind) (bif aX (bG x.order 1) then aX (bG 6 x.order) else false) then true else bif aX (rF x.kind) then aX (bq x.order 0) else false
def lI (aP:Int) (x:XI):Bool:=
 bif (bif jX x.kind then(bif bG x.ny 0 then true else aX (bG x.ny aP)) else false) then true else
 bif (bif aX (jX x.kind) then aX (bq x.ny 0) else false) then true else
 bif (bif pF x.kind then(bif bG x.loc 0 then true else aX (bG x.loc 6)) else false) then true else
 bif aX (pF x.kind) then aX (bq x.loc 0) else false
def ue (nins:Int) (x:XI):Bool:=
 bif (bif I5 x.kind then(bif bG x.to 0 then true else aX (bG x.to nins)) else false) then true else bif aX (I5 x.kind) then aX (bq x.to 0) else false
def fJ (aP nins:Int) (k:Nat) (x:XI):Bool:=bif nI x then false else bif lI aP x then false else bif ue nins x then false else x.exprs.all (ll aP k)
theorem xr {aP:Int} {k:Nat} {e:XE} (h:fT k e=false):ll aP k e=dG aP k e:=by
 unfold ll nc;rw[Ah,h,<-oH aP k e];cases dH k (fe k e)<;>rfl
theorem zK {aP nins:Int} {k:Nat} {x:XI} (h:∀e∈x.exprs,fT k e=false):fJ aP nins k x=eX aP nins k x:=by
 have hall:x.exprs.all (ll aP k)=x.exprs.all (dG aP k):=by
  rw[Bool.eq_iff_iff,aE_,aE_];exact⟨fun h2 e he=>by rw[<-xr (h e he)];exact h2 e he,fun h2 e he=>by rw[xr (h e he)];exact h2 e he⟩
 unfold fJ;rw[hall]
 by_cases hk:1<=x.kind/\x.kind<=13
 ·have hsh:∃sh,hJ[x.kind.toNat]?=some sh/\eX aP nins k x=fG aP nins k x sh/\(sh.ny=jX x.kind/\sh.loc=pF x.kind/\sh.order=rF x.kind/\sh.to=I5 x.kind/\Int.ofNat sh.exprs=fB x.kind):=by
   have hn:∃n:Nat,x.kind= .ofNat n/\1<=n/\n<=13:=⟨x.kind.toNat,by show x.kind=((x.kind.toNat:Nat):Int);omega,by omega,by omega⟩;obtain⟨n,hn,h1,h2⟩:=hn
   have e0:eX aP nins k x=match hJ[x.kind.toNat]? with | some h=>fG aP nins k x h | none=>false:=by
    unfold eX;rw[EN.2 hk.1,EN.2 hk.2];rfl
   rw[e0,hn];have:n=1∨n=2∨n=3∨n=4∨n=5∨n=6∨n=7∨n=8∨n=9∨n=10∨n=11∨n=12∨n=13:=by omega
   rcases this with rfl | rfl | rfl | rfl | rfl | rfl | rfl | rfl | rfl | rfl | rfl | rfl | rfl<;>exact⟨_,rfl,rfl,rfl,rfl,rfl,rfl,rfl⟩
  obtain⟨sh,_,hr,h1,h2,h3,h4,h5⟩:=hsh;rw[hr];unfold fG nI lI ue eY zc;rw[h1,h2,h3,h4,show bq (.ofNat x.exprs.length) (.ofNat sh.exprs)=bq (fB x.kind) (.ofNat x.exprs.length) from by rw[dq,dq,h5];exact decide_eq_decide.2 eq_comm]
  have o7:bG x.order 7=aX (bG 6 x.order):=by
   rw[Bool.eq_iff_iff,Ju,Ll,EN];omega
  have o0:bq x.order 0=true->bG x.order 1=true:=by rw[MK,Ju];omega
  rw[o7];generalize x.exprs.all (dG aP k)=A;generalize bq (fB x.kind) (.ofNat x.exprs.length)=B;generalize jX x.kind=S;generalize pF x.kind=C;generalize rF x.kind=D;generalize I5 x.kind=T;generalize bG x.ny 0=r0;generalize bG x.ny aP=r1;generalize bq x.ny 0=r2;generalize bG x.loc 0=l0;generalize bG x.loc 6=l1;generalize bq x.loc 0=l2;generalize bG x.to 0=t0;generalize bG x.to nins=t1;generalize bq x.to 0=t2;generalize bG 6 x.order=q6;revert o0;generalize bG x.order 1=q1;generalize bq x.order 0=q0;intro o0;have eS:(bif (bif S then(bif r0 then true else aX r1) else false) then true else bif aX S then aX r2 else false)=aX (bif S then(bif aX r0 then r1 else false) else r2):=by cases S<;>cases r0<;>cases r1<;>cases r2<;>rfl
  have eC:(bif (bif C then(bif l0 then true else aX l1) else false) then true else bif aX C then aX l2 else false)=aX (bif C then(bif aX l0 then l1 else false) else l2):=by cases C<;>cases l0<;>cases l1<;>cases l2<;>rfl
  have eT:(bif (bif T then(bif t0 then true else aX t1) else false) then true else bif aX T then aX t2 else false)=aX (bif T then(bif aX t0 then t1 else false) else t2):=by cases T<;>cases t0<;>cases t1<;>cases t2<;>rfl
  have eD:(bif (bif D then aX (bif aX q1 then aX q6 else false) else(bif aX q1 then aX q6 else false)) then true else bif aX D then aX q0 else false)=aX (bif D then(bif aX q1 then aX q6 else false) else q0):=by
   cases D<;>cases q0<;>cases q1<;>cases q6<;>first | rfl | (exact absurd (o0 rfl) (by decide))
  have eSC:(bif (bif S then(bif r0 then true else aX r1) else false) then true else bif (bif aX S then aX r2 else false) then true else bif (bif C then(bif l0 then true else aX l1) else false) then true else bif aX C then aX l2 else false)=
    (bif (bif (bif S then(bif r0 then true else aX r1) else false) then true else bif aX S then aX r2 else false) then true else(bif (bif C then(bif l0 then true else aX l1) else false) then true else bif aX C then aX l2 else false)):=by
   generalize (bif (bif C then(bif l0 then true else aX l1) else false) then true else bif aX C then aX l2 else false)=Z;cases S<;>cases r0<;>cases r1<;>cases r2<;>rfl
  rw[eSC,eS,eC,eT,eD];generalize (bif S then(bif aX r0 then r1 else false) else r2)=vS;generalize (bif C then(bif aX l0 then l1 else false) else l2)=vC;generalize (bif T then(bif aX t0 then t1 else false) else t2)=vT;generalize (bif D then(bif aX q1 then aX q6 else false) else q0)=vD;cases vS<;>cases vC<;>cases vT<;>cases vD<;>cases B<;>rfl
 have hx:eX aP nins k x=false:=by
  unfold eX;cases h1:bG x.kind 1 with
  | true=>rfl
  | false=>
   cases h2:bG 13 x.kind with
   | true=>rfl
   | false=>exact absurd ⟨EN.1 h1,EN.1 h2⟩ hk
 have hb:nI x=true:=by
  have he:fB x.kind= -1:=by
   unfold fB;rw[gO (b:=1) (by omega),gO (b:=3) (by omega),gO (b:=5) (by omega),gO (b:=6) (by omega),gO (b:=8) (by omega),gO (b:=9) (by omega),gO (b:=11) (by omega),gO (b:=4) (by omega),gO (b:=2) (by omega),gO (b:=7) (by omega),gO (b:=10) (by omega),gO (b:=12) (by omega),gO (b:=13) (by omega)];rfl
  unfold nI;rw[he,gO (a:=-1) (b:=.ofNat x.exprs.length) (by intro h;have:(-1:Int)=(x.exprs.length:Int):=h;omega)];rfl
 rw[hx,hb];rfl
def fI (k:Nat) (c:XC):Int:=
 bif (bif bG 16 c.aP then true else bG 4000 (.ofNat c.ins.length)) then 3 else
 bif c.ins.any (fun x=>x.exprs.any (fT k)) then 3 else
 bif (bif bG c.aP 0 then true else bq (.ofNat c.ins.length) 0) then 2 else
 bif aX (c.ins.all (fJ c.aP (.ofNat c.ins.length) k)) then 2 else
 match c.ins[c.ins.length-1]? with
 | some x=>bif ft x then 0 else 2
 | none=>2
def kP (k:Nat) (c:XC):Prop:=∀x∈c.ins,∀e∈x.exprs,hY k e
theorem fS {k:Nat} {c:XC} (hf:kP k c):fI k c=cQ k c:=by
 have h1:c.ins.all (sK k)=aX (c.ins.any fun x=>x.exprs.any (fT k)):=by
  rw[Bool.eq_iff_iff,Ll,aE_,List.any_eq_false];refine⟨fun h x hx=>?_,fun h x hx=>?_⟩
  ·rw[Bool.not_eq_true,List.any_eq_false];intro e he;have:=aE_.1 (h x hx) e he;rw[vP (hf x hx e he),Ll] at this;rw[this];decide
  have h2:=h x hx;rw[Bool.not_eq_true,List.any_eq_false] at h2;refine aE_.2 fun e he=>?_
  rw[vP (hf x hx e he),Ll];exact Bool.eq_false_iff.2 (h2 e he)
 unfold fI cQ;rw[h1];cases ha:(c.ins.any fun x=>x.exprs.any (fT k)) with
 | true=>cases bG 16 c.aP<;>cases bG 4000 (.ofNat c.ins.length)<;>rfl
 | false=>
  have h2:c.ins.all (fJ c.aP (.ofNat c.ins.length) k)=c.ins.all (eX c.aP (.ofNat c.ins.length) k):=by
   have:∀x∈c.ins,fJ c.aP (.ofNat c.ins.length) k x=eX c.aP (.ofNat c.ins.length) k x:=fun x hx=>zK fun e he=>by
    have:=List.any_eq_false.1 ha x hx;rw[Bool.not_eq_true,List.any_eq_false] at this;exact Bool.eq_false_iff.2 (this e he)
   rw[Bool.eq_iff_iff,aE_,aE_];exact⟨fun h x hx=>by rw[<-this x hx];exact h x hx,fun h x hx=>by rw[this x hx];exact h x hx⟩
  rw[h2];cases bG 16 c.aP<;>cases bG 4000 (.ofNat c.ins.length)<;>cases bG c.aP 0<;>cases bq (.ofNat c.ins.length) 0<;>rfl
section
variable {P:Program} {G:Cx} {n:Nat} {t:PT AV} {σ:aD} {K:KP} {L:Own} {Q:Ex->PT AV->aD->Prop} {ops:Array Oper} {o:Oper} {i:Nat} {rc:List Nat} {l:List (Nat×List Nat)}
theorem sf {t':PT AV} (hi:ops[i]?=some o) (hw:bu ops t o=some false) (hp:cO t n o.dst unit=some t') (h:cM P G ops t' σ rc=true/\cy P G ops n l t' σ Q):cy P G ops n ((i,rc)::l) t σ Q:=by
 obtain⟨hs,K,e,t2,σ2,h1,h2⟩:=h;refine⟨K,e,t2,σ2,fun k hk=>?_,h2⟩
 show(match ops[i]? with
  | some o=>iw P G (ec P G k) false ops n o t σ (fun t' σ'=>bif cM P G ops t' σ' rc then jh P G (ec P G k) ops n [] l t' σ' else .err 86)
  | none=>.err 87)=_
 rw[hi];unfold iw;dsimp only;rw[hw];dsimp only;rw[hp];dsimp only;rw[hs];exact h1 k hk
end
section
variable {P:Program} {G:Cx} {ev:Operand->Option AV} {σ:aD} {K:KP} {L:Own}
theorem eM {t:TypeId} {x i:Operand} {s:List Nat} {n c:Nat} {k:IntKind} (ht:P.underlying t=some .string) (hx:ev x=some (.str s)) (hi:ev i=some (.int k (.ofNat n))) (hc:s[n]?=some c):dJ P G ev σ (.index t x i)= .val (.int .u8 (.ofNat c)) σ:=by
 refine bH rfl ?_;simp only[dg,ht,hx,hi,fC,hc]
theorem HE {t e n m j off:Nat} {b:Pos} {x i:Operand} {k:IntKind} (ht:P.underlying t=some (.array n e)) (hj:(P.info? e).map (·.size)=some m) (hx:ev x=some (.ptr b off)) (hi:ev i=some (.int k (.ofNat j))) (hn:j<n):dJ P G ev σ (.indexAddr t x i)= .val (.ptr b (off+j*m)) σ:=by
 refine bH rfl ?_;obtain⟨q,hq,rfl⟩:=oM_.1 hj;simp only[dg,ht,hx,hi,hq,show Nat.ble (Nat.succ j) n=true by rw[nE_];exact hn,cond_true]
theorem eu {x:Operand} {b:Pos} {off:Nat} (hx:ev x=some (.ptr b off)):dJ P G ev σ (.nilCheck x)= .val (.ptr b off) σ:=bH rfl (by simp only[dg,hx])
theorem du {x:Operand} {p:AV} {vs:List AV} (hp:gi K p vs) (hx:ev x=some p):dJ P G ev σ (.nilCheck x)= .val p σ:=by
 obtain⟨b,off,_,_,_,rfl,_⟩:=hp;exact eu hx
theorem JH {c:Call} {x y:Operand} {a b:Int} {k:IntKind} (hc:c.callee= .builtin .max) (ha:c.args.toList= [x,y]) (hx:ev x=some (.int k a)) (hy:ev y=some (.int k b)):dJ P G ev σ (.call c)= .val (.int k (bif bG a b then b else a)) σ:=by
 refine bH (by simp[kindOf,hc]) ?_;have e:q7 k k=true:=by cases k<;>rfl
 simp only[dg,hc,ha,hx,hy,Km,e,cond_true]
theorem jf {α:Type} {f:α->AV} {l:List α} {i off:Nat} {x:α} (h:l[i]?=some x) (ho:off=i):nth (l.map f) off=some (f x):=by
 subst ho;rw[fC,gM_,h];rfl
theorem eA {α:Type} {f:α->AV} {l:List α} {i off:Nat} {v:α} (h:i<l.length) (ho:off=i):dA [f v] (l.map f) off=(l.set i v).map f:=by
 subst ho;have:=CC (us:=l.map f) (u:=f v) (i:=off) (by rw[lM_];exact h);rw[show 0+off*1=off by omega] at this;rw[this,List.map_set]
theorem gX {α:Type} {f:α->AV} (v:α) (n:Nat):eN [f v] n=(List.replicate n v).map f:=by rw[eh,List.map_replicate]
end
def ma {α:Type} (m E:Nat) (R:α->List AV->Prop) (l:List α) (u:AV) (M:Own):Prop:=
 (l= []/\u= .aK/\M= [])∨∃(b:Nat) (c:rZ) (cells:List AV) (e:Nat),u= .slice b 0 l.length c/\M= [(b,.row cells e false)]/\l.length*m<=cells.length/\(∀(i:Nat) (x:α),l[i]?=some x->R x ((cells.drop (i*m)).take m))/\((∃n,c= .known n/\l.length<=n/\n*m<=cells.length)∨(c= .upto m/\e=E))/\l.length<=1048576
section
variable {α:Type} {m E:Nat} {R:α->List AV->Prop} {l:List α} {u:AV} {M:Own} {K:KP}
theorem dh.Lr (h:dh m E R l u M):ma m E R l u M:=by
 rcases h with h | ⟨b,c,cells,e,h1,h2,h3,h4,h5,h6⟩
 ·exact .inl h
 refine .inr ⟨b,c,cells,e,h1,h2,by omega,h4,?_,h6⟩;rcases h5 with h5 | h5
 ·exact .inl ⟨_,h5,nR_ _,by omega⟩
 exact .inr h5
theorem ma.rh (h:ma m E R l u M) (hk:∀e∈M,K e.1 e.2):bJ K m R l u:=by
 rcases h with ⟨h1,h2,_⟩ | ⟨b,c,cells,e,rfl,rfl,h3,h4,h5,h6⟩
 ·exact .inl ⟨h1,h2⟩
 refine .inr ⟨b,0,c,cells,e,false,rfl,?_,hk _ (mS_ ..),by omega,by omega,fun i x hx=>by rw[nA_];exact h4 i x hx⟩;rcases h5 with ⟨n,h5,h7,_⟩ | h5
 ·exact .inr ⟨_,h5,h7⟩
 exact .inl h5.1
theorem sO {P:Program} {G:Cx} {ev:Operand->Option AV} {σ:aD} {c:Call} {t e:TypeId} {x:Operand} (h:ma m E R l u M) (hc:c.callee= .builtin .len) (ht:c.argTypes[0]?=some t) (ha:c.args.toList= [x]) (hu:P.underlying t=some (.slice e)) (hx:ev x=some u):
  dJ P G ev σ (.call c)= .val (.int .i64 (.ofNat l.length)) σ:=
 aT (K:=fun b o=>(b,o)∈M) (h.rh fun e he=>he) hc ht ha hu hx
theorem ma.take (h:ma m E R l u M) {P:Program} {ev:Operand->Option AV} {t:TypeId} {x hi:Operand} {kk:IntKind} {k:Nat} (hk:k<=l.length) (hu:P.underlying t=some (.slice E)) (hj:(P.info? E).map (·.size)=some m) (hx:ev x=some u) (hh:ev hi=some (.int kk (.ofNat k))):
  ∃u',gf P ev t x none (some hi) none=some u'/\ma m E R (l.take k) u' M:=by
 obtain⟨j,hj',rfl⟩:=oM_.1 hj;rcases h with ⟨rfl,rfl,rfl⟩ | ⟨b,c,cells,e,rfl,rfl,h3,h4,h5,h6⟩
 ·obtain rfl:k=0:=by simpa using hk
  refine⟨.aK,?_,.inl ⟨rfl,rfl,rfl⟩⟩;have:cX ev 0 0 none (some hi)=some (0,0):=r9 hh (nR_ _);simp only[gf,hu,hx,hj',this]
 have hl:(l.take k).length=k:=by rw[lT_];omega
 have hR:∀(i:Nat) (x:α),(l.take k)[i]?=some x->R x ((cells.drop (i*j.size)).take j.size):=fun i x hi=>by
  rw[List.getElem?_take] at hi;split at hi
  ·exact h4 i x hi
  cases hi
 have hle:k*j.size<=cells.length:=Nat.le_trans (nM_ _ hk) h3;rcases h5 with ⟨n,rfl,h7,h8⟩ | ⟨rfl,rfl⟩
 ·refine⟨.slice b 0 k (.known n),?_,.inr ⟨b,.known n,cells,e,by rw[hl],rfl,by rw[hl];exact hle,hR,.inl ⟨n,rfl,by rw[hl];omega,h8⟩,by rw[hl];omega⟩⟩;have:cX ev l.length n none (some hi)=some (0,k):=r9 hh (by omega);simp only[gf,hu,hx,cutAt,this,cut,hj'];cases hn:Nat.beq n 0 with
  | true=>simp
  | false=>simp
 refine⟨.slice b 0 k (.upto j.size),?_,.inr ⟨b,.upto j.size,cells,e,by rw[hl],rfl,by rw[hl];exact hle,hR,.inr ⟨rfl,rfl⟩,by rw[hl];omega⟩⟩;have:cX ev l.length l.length none (some hi)=some (0,k):=r9 hh hk;simp only[gf,hu,hx,this,hj',show Nat.beq j.size j.size=true from Nat.beq_refl _,cond_true,Nat.zero_mul,Nat.sub_zero,Nat.add_zero]
end
section
variable {α:Type} {m E:Nat} {R:α->List AV->Prop}
theorem wH {l l2:List α} {cells news Z:List AV} (hl:l.length*m<=cells.length) (h1:∀(i:Nat) (x:α),l[i]?=some x->R x ((cells.drop (i*m)).take m)) (hn:news.length=l2.length*m) (h2:∀(i:Nat) (x:α),l2[i]?=some x->R x ((news.drop (i*m)).take m)):
  ∀(i:Nat) (x:α),(l++l2)[i]?=some x->R x (((cells.take (l.length*m)++(news++Z)).drop (i*m)).take m):=by
 intro i x hx;have hA:(cells.take (l.length*m)).length=l.length*m:=by rw[lT_];omega
 by_cases hi:i<l.length
 ·rw[gL_ hi] at hx;have hle:(i+1)*m<=l.length*m:=nM_ _ hi;rw[Nat.succ_mul] at hle;rw[List.drop_append_of_le_length (by omega),List.take_append_of_le_length (by rw[lD_];omega),List.drop_take,List.take_take,Nat.min_eq_left (by omega)];exact h1 i x hx
 rw[gR_ (by omega)] at hx;have hlt:=(gA.1 hx).1;have hle:l.length*m<=i*m:=nM_ _ (by omega);have hle2:(i-l.length+1)*m<=l2.length*m:=nM_ _ hlt;rw[Nat.succ_mul] at hle2;rw[List.drop_append,List.drop_eq_nil_of_le (by omega),List.nil_append,hA,<-Nat.sub_mul,List.drop_append_of_le_length (by omega),List.take_append_of_le_length (by rw[lD_];omega)];exact h2 _ x hx
section
variable {P:Program} {K:KP} {L:Own}
theorem oA {l l2:List α} {u v2:AV} {M:Own} {bv ev e:Nat} {cv:List AV} {ts:Array TypeId} {t:TypeId} {σ:aD} (ho:ma m e R l u M) (ar:St σ K ((bv,.row cv ev false)::(M++L)))
  (hx:bJ (K.add bv (.row cv ev false)) m R l2 v2) (hleaf:∀x vs,R x vs->cj vs=true) (hn:l2.length<=1000) (hpos:1<=l2.length) (hl:l.length<=1000000)
  (ht:ts[0]?=some t) (hu:P.underlying t=some (.slice e)) (ha:pG P e m=true) (h2:dj P ts[1]?=true):
  ∃σ' u' M',fl P σ ts u v2= .val u' σ'/\ma m e R (l++l2) u' M'/\St σ' K (M'++L):=by
 have hk:=ar.jD;have hkw:St σ K (M++L):=hk.weaken (KP.sq _ _ _);rcases ho with ⟨rfl,rfl,rfl⟩ | ⟨b,c,cells,e',rfl,rfl,h3,h4,h5,h6⟩
 ·obtain⟨news,k1,k2,k3⟩:=sN (P:=P) hk hx hleaf (by omega) hpos ht hu ha h2;exact⟨_,_,[(σ.next,.row news e false)],k1,.inr ⟨_,_,news,e,rfl,rfl,by rw[k2];exact nR_ _,k3,.inr ⟨rfl,rfl⟩,by show l2.length<=_;omega⟩,((hk.alloc (.row news e false)).weaken (KP.sq _ _ _))⟩
 obtain⟨news,s1,s2,s3,s4⟩:=pz hk hx hleaf;unfold pG at ha;split at ha
 ·rename_i j hj;simp only[bA_] at ha;obtain⟨a1,a2,a3,a4⟩:=ha;have hm:j.size=m:=nB a1;subst hm;have hz:((P.info? e).any fun j=>(j.zero.bind ow).any fun z=>(cC z).any fun cs=>Nat.beq (cD cs) j.size)=true:=by rw[hj];exact a4
  have hb:=hkw.get 0 rfl;have hlen:(l++l2).length=l.length+l2.length:=lA_;have hmul:(l.length+l2.length)*j.size=l.length*j.size+l2.length*j.size:=Nat.add_mul ..;unfold fl;rw[ht];dsimp only;rw[hu];dsimp only;rw[hj];dsimp only;rw[h2,a2,a3];simp only[Bool.and_self,cond_true];rw[s1];dsimp only;rw[hj] at hz;rw[s3,show Nat.ble l2.length 1048576=true by rw[nE_];omega,hz];simp only[Bool.and_self,cond_true];have hle:Nat.ble (0+l.length*j.size) (cD cells)=true:=by rw[nE_,bz];omega
  have htake:takeN (dy cells 0) (l.length*j.size)=cells.take (l.length*j.size):=by rw[dp,dO,List.drop_zero]
  have hl1:Nat.ble l.length 1048576=true:=by rw[nE_];omega
  have hA:(cells.take (l.length*j.size)).length=l.length*j.size:=by rw[lT_];omega
  have hsp:l.length*j.size+news.length<=cells.length->dA news cells (0+l.length*j.size)=cells.take (l.length*j.size)++(news++cells.drop (l.length*j.size+news.length)):=fun hh=>by
   rw[nA_,sL _ _ _ (by omega),lQ_]
  have hin:l.length*j.size+news.length<=cells.length->∀c',((∃n,c'=rZ.known n/\(l++l2).length<=n/\n*j.size<=cells.length)∨(c'=rZ.upto j.size/\e'=e))->ma j.size e R (l++l2) (.slice b 0 (l.length+l2.length) c') [(b,.row (dA news cells (0+l.length*j.size)) e' false)]:=fun hh c' hc'=>by
   have hsl:(dA news cells (0+l.length*j.size)).length=cells.length:=by
    rw[hsp hh];simp only[lA_,lT_,lD_];omega
   refine .inr ⟨b,c',_,e',by rw[hlen],rfl,by rw[hsl,hlen,hmul];omega,?_,by rw[hsl];exact hc',by rw[hlen];omega⟩;rw[hsp hh];exact wH h3 h4 s2 s4
  have hgr:ma j.size e R (l++l2) (.slice σ.next 0 (l.length+l2.length) (.upto j.size)) [(σ.next,.row (cells.take (l.length*j.size)++news) e false)]:=by
   refine .inr ⟨_,_,_,e,by rw[hlen],rfl,by rw[hlen,hmul,lA_,hA];omega,?_,.inr ⟨rfl,rfl⟩,by rw[hlen];omega⟩;have:=wH (Z:=[]) h3 h4 s2 s4;rwa[List.append_nil] at this
  rcases h5 with ⟨n,rfl,h7,h8⟩ | ⟨rfl,rfl⟩
  ·dsimp only;cases hc:Nat.ble (l.length+l2.length) n with
   | true=>
    have hc':l.length+l2.length<=n:=by simpa [nE_] using hc
    have hfit:l.length*j.size+news.length<=cells.length:=by
     have:(l.length+l2.length)*j.size<=n*j.size:=nM_ _ hc';rw[s2];omega
    simp only[cond_true];rw[hb];dsimp only;rw[show Nat.ble (0+l.length*j.size+cD news) (cD cells)=true by rw[nE_,bz,bz];omega];simp only[cond_true];exact⟨_,_,[(b,_)],rfl,hin hfit _ (.inl ⟨n,rfl,by rw[hlen];exact hc',h8⟩),hkw.AI _⟩
   | false=>
    simp only[cond_false];rw[hb];dsimp only;rw[hle,hl1,htake,dw];simp only[Bool.and_self,cond_true];exact⟨_,_,[(σ.next,_)],rfl,hgr,((hkw.alloc _).perm (List.Perm.swap ..)).pop⟩
  dsimp only
  have:Nat.beq l2.length 0=false:=by
   cases hh:Nat.beq l2.length 0 with
   | false=>rfl
   | true=>exact absurd (nB hh) (by omega)
  rw[this,Nat.beq_refl,hl1];simp only[Bool.and_self,cond_true,cond_false];rw[hb];dsimp only;cases hf:(Nat.ble 1 l.length && Nat.ble (0+l.length*j.size+cD news) (cD cells)) with
  | true=>
   have hfit:l.length*j.size+news.length<=cells.length:=by
    rw[bA_,nE_,nE_,bz,bz] at hf;omega
   simp only[cond_true];exact⟨_,_,[(b,_)],rfl,hin hfit _ (.inr ⟨rfl,rfl⟩),hkw.AI _⟩
  | false=>
   simp only[cond_false];rw[hle,Nat.beq_refl,htake,dw];simp only[Bool.and_self,cond_true];exact⟨_,_,[(σ.next,_)],rfl,hgr,hkw.yI _⟩
 cases ha
end
end
end Go.Ev
namespace Go.Ev
variable [Env]
open Go.Proofs
set_option maxRecDepth 4000
set_option maxHeartbeats 8000000
theorem rU {G:Cx} (hG:Plain G) {K:KP} (n le mo:Int) (mu:Bool) {σ:aD} {L:Own} (ar:St σ K L):bp Tryz.prog G 217 [.int .i64 n,.int .i64 le,.int .i64 mo,.bool mu] σ fun v σ'=>v= .bool (eY n le mo mu)/\St σ' K L:=by
 refine bh hG Tryz.func217 rfl (t:=(((PT.leaf.put (some (.int .i64 n)) 0).put (some (.int .i64 le)) 1).put (some (.int .i64 mo)) 2).put (some (.bool mu)) 3) (by rfl) (aj (ah rfl (vQ 1 rfl (nT (aj (aj (ah rfl (vQ 1 rfl (aa rfl (cN rfl) rfl (nT (aG rfl (fun h10=>?_) (fun h10=>?_))))))))))))
 ·have h10b:=bM h10;refine aj (ah rfl (vQ 3 rfl (nT (aC (av (?_))))));exact ay rfl rfl ⟨cB (by unfold eY aX;simp only[h10b,ct,cf]),ar⟩
 have h10b:=bx h10;refine aH (ad (aj (ah rfl (vQ 3 rfl (ky rfl (an rfl) (fun h16=>?_) (fun h16=>?_))))))
 ·refine vQ 5 rfl (nT (aC ?_));exact ay rfl rfl ⟨cB (by unfold eY aX;simp only[h10b,h16,ct,cf]),ar⟩
 refine vQ 5 rfl (nT (aC ?_));exact ay rfl rfl ⟨cB (by unfold eY aX;simp only[h10b,h16,ct,cf]),ar⟩
theorem yH {c:Nat} (h:bG (.ofNat c) 48=true):¬(48<=c/\c<=57):=by have:c<48:=bm (b:=48) h;omega
theorem yG {c:Nat} (h:bG 57 (.ofNat c)=true):¬(48<=c/\c<=57):=by have:57<c:=bm (a:=57) h;omega
theorem iB {c:Nat} (h:bG (.ofNat c) 48=false) (h':bG 57 (.ofNat c)=false):48<=c/\c<=57:=by have:48<=c:=br (b:=48) h;have:c<=57:=br (a:=57) h';omega
theorem He {c m:Nat} (h:48<=c/\c<=57) (hm:m<=100000):wr .i64 (Int.add (wr .i64 (Int.mul 10 (.ofNat m))) (wr .i64 (wr .u8 (Int.sub (.ofNat c) 48))))= .ofNat (10*m+(c-48)):=by
 have e1:Int.sub (.ofNat c) 48= .ofNat (c-48):=by show(c:Int)-48=((c-48:Nat):Int);omega
 have e2:Int.mul 10 (.ofNat m)= .ofNat (10*m):=rfl
 have w1:wr .u8 (.ofNat (c-48))= .ofNat (c-48):=by
  show(bif Nat.ble (c-48) 255 then _ else _)=_;rw[show Nat.ble (c-48) 255=true by rw[nE_];omega];rfl
 have w2:∀q:Nat,q<=9223372036854775807->wr .i64 (.ofNat q)= .ofNat q:=fun q hq=>by
  show(bif Nat.ble q 9223372036854775807 then _ else _)=_;rw[show Nat.ble q 9223372036854775807=true by rw[nE_];exact hq];rfl
 rw[e1,e2,w1,w2 _ (by omega),w2 _ (by omega)];show wr .i64 (.ofNat (10*m+(c-48)))=_;exact w2 _ (by omega)
theorem pw {s:List Nat} (h:s.length=0∨4<s.length∨(1<s.length/\s[0]?=some 48)):gH s=none:=by unfold gH;rw[if_pos h]
theorem gj {s:List Nat} (h:¬(s.length=0∨4<s.length∨(1<s.length/\s[0]?=some 48))):gH s=mf s 0:=by unfold gH;rw[if_neg h]
def Lt (o:Option Nat):Int:=.ofNat (o.getD 0)
theorem vy:∀i,i<=4->10 ^ i<=10000:=by decide
theorem CP {G:Cx} (hG:Plain G) {K:KP} (s:List Nat) {σ:aD} {L:Own} (ar:St σ K L):bp Tryz.prog G 253 [.str s] σ fun v σ'=>v= .tuple [.int .i64 (Lt (gH s)),.bool (gH s).isSome]/\St σ' K L:=by
 refine bh hG Tryz.func253 rfl (t:=PT.leaf.put (some (.str s)) 0) (by rfl) (aj (ah rfl (vQ 2 rfl (nT (aj (aj (ah rfl (vQ 1 rfl (aa rfl (gk rfl rfl rfl (by kernel_rfl) rfl) rfl (vQ 1 rfl (ky rfl (an rfl) (fun h9=>?_) (fun h9=>?_))))))))))))
 ·refine vQ 14 rfl (nT (aF rfl (aj (ah rfl (vQ 2 rfl (nT (aC (av (?_)))))))));exact bE rfl rfl rfl ⟨by rw[pw (.inl (by have:=Ik h9;rw[<-bz];exact iJ_ this))];rfl,ar⟩
 refine vQ 1 rfl (aa rfl (gk rfl rfl rfl (by kernel_rfl) rfl) rfl (vQ 2 rfl (ky rfl (an rfl) (fun h14=>?_) (fun h14=>?_))))
 ·refine vQ 9 rfl (nT (aF rfl (aj (ah rfl (vQ 2 rfl (nT (aC (av (?_)))))))));exact bE rfl rfl rfl ⟨by rw[pw (.inr (.inl (by rw[<-bz];exact bm (a:=4) h14)))];rfl,ar⟩
 refine vQ 1 rfl (aa rfl (gk rfl rfl rfl (by kernel_rfl) rfl) rfl (vQ 1 rfl (ky rfl (an rfl) (fun h18=>?_) (fun h18=>?_))))
 ·refine vQ 1 rfl ?_;obtain⟨x20,hx20⟩:=bX (show 0<s.length from by have:=bm (a:=1) h18;rw[bz] at this;omega);refine aa rfl (eM (by kernel_rfl) rfl rfl hx20) rfl (vQ 3 rfl (nT (aG rfl (fun h23=>?_) (fun h23=>?_))))
  ·refine aj (ah rfl (vQ 2 rfl (nT (aC (av (?_))))));exact bE rfl rfl rfl ⟨by rw[pw (.inr (.inr ⟨by rw[<-bz];exact bm (a:=1) h18,by rw[hx20];exact congrArg some (iJ_ (eqv h23))⟩))];rfl,ar⟩
  refine aH (ad (aj (ah rfl ?_)));have hl4:cD s<=4:=br (a:=4) h14
  have hne:¬(s.length=0∨4<s.length∨(1<s.length/\s[0]?=some 48)):=by
   have hl4:=hl4;rw[bz] at hl4;have h9z:s.length≠0:=fun e=>by rw[bz,e] at h9;cases h9
   rintro (e | e | ⟨_,e⟩)
   ·exact h9z e
   ·omega
   rw[hx20] at e;cases e;cases h23
  refine vQ 1 rfl (nT (aj (aj (ah rfl (vQ 1 rfl (aa rfl (gk rfl rfl rfl (by kernel_rfl) rfl) rfl (vQ 1 rfl (nT (aM ?_)))))))));obtain⟨LL1,ar,hLL1⟩:=ar.named;refine bg [2,3,4,5,26,27,28,29,30,31,32,33,34,35,36,37,38,39,40,41,42,43,44,45,46,47] (fun j t σ=>∃(i m:Nat),j+i=cD s/\mf s 0=mf (s.drop i) m/\m<10 ^ i/\i<=4/\t.get 4=some (.int .i64 (.ofNat m))/\t.get 26=some (.int .i64 (.ofNat i))/\St σ K LL1) (cD s) ⟨0,0,rfl,rfl,Nat.one_pos,Nat.zero_le _,rfl,rfl,ar⟩ ?_;clear ar;intro j5 t σ aq hI;obtain⟨i,m,hj,he,hm,hi4,hv4,hv26,ar⟩:=hI;subst hLL1;obtain⟨o2,o3,o4,o5,o26,o27,o28,o29,o30,o31,o32,o33,o34,o35,o36,o37,aq⟩:=aq.L4 rfl rfl rfl rfl;replace aq:=aq.bR rfl rfl;obtain⟨o38,o39,o40,o41,o42,o43,o44,o45,aq⟩:=aq;replace aq:=aq.dI rfl;obtain⟨o46,aq⟩:=aq;replace aq:=aq.dI rfl;obtain⟨o47,aq⟩:=aq;obtain rfl:=aq.nil;clear aq;replace hv4:o4=some _:=hv4;subst hv4;replace hv26:o26=some _:=hv26;subst hv26;refine aj (ah rfl (vQ 1 rfl (nT (aj (aG rfl (fun h27=>?_) (fun h27=>?_))))))
  ·refine aH (ad (aj (aM (aj (ah rfl (vQ 2 rfl (nT (aj (aj (ah rfl (vQ 2 rfl ?_)))))))))));obtain⟨x31,hx31⟩:=bX (show i<s.length from by have:=bm h27;rwa[bz] at this);refine aa rfl (eM (by kernel_rfl) rfl rfl hx31) rfl (vQ 1 rfl (ky rfl (an rfl) (fun h33=>?_) (fun h33=>?_)))
   ·refine vQ 5 rfl (nT (aF rfl (aj (ah rfl (vQ 2 rfl (nT (aC (av (aB (av (bk (aB (av (?_))))))))))))));exact bE rfl rfl rfl ⟨by rw[gj hne,he,kz hx31 (yH h33)];rfl,ar⟩
   refine vQ 2 rfl (aa rfl (eM (by kernel_rfl) rfl rfl hx31) rfl (vQ 2 rfl (nT (aG rfl (fun h38=>?_) (fun h38=>?_)))))
   ·refine aj (ah rfl (vQ 2 rfl (nT (aC (av (aB (av (bk (aB (av (?_)))))))))));exact bE rfl rfl rfl ⟨by rw[gj hne,he,kz hx31 (yG h38)];rfl,ar⟩
   refine aH (ad (ah rfl (vQ 4 rfl (aa rfl (eM (by kernel_rfl) rfl rfl hx31) rfl (vQ 1 rfl ?_)))));refine aa rfl (dN (j:=.u8) (k:=.i64) (by kernel_rfl) (by kernel_rfl) (by kernel_rfl) rfl) rfl ?_;refine vQ 2 rfl (af (aE (ad (ah rfl (vQ 2 rfl (af (aN ⟨j5-1,by have:=bm h27;omega,(by(iterate 50 refine oP rfl ?_);exact oR _ _),i+1,10*m+(x31-48),by have:=bm h27;omega,he.trans (oa hx31 (iB h33 h38)),by have:=iB h33 h38;rw[Nat.pow_succ];omega,by have:=bm h27;have:=hl4;omega,cI (He (iB h33 h38) (by have:=vy i hi4;omega)),cI (ba (by omega)),ar⟩)))))))
  refine bn (aS (aV (aO (ad (aj (ah rfl (vQ 3 rfl (nT (aC ?_)))))))));exact bE rfl rfl rfl ⟨by rw[gj hne,he,n9 (by have:=br h27;rwa[bz] at this)];rfl,ar⟩
 refine vQ 5 rfl (nT (aI rfl (aH (ad (aj (ah rfl ?_))))));have hl4:cD s<=4:=br (a:=4) h14
 have hne:¬(s.length=0∨4<s.length∨(1<s.length/\s[0]?=some 48)):=by
  have hl4:=hl4;rw[bz] at hl4;have h9z:s.length≠0:=fun e=>by rw[bz,e] at h9;cases h9
  have h18z:¬(1<s.length):=by have:=br (a:=1) h18;rw[bz] at this;omega
  omega
 refine vQ 1 rfl (nT (aj (aj (ah rfl (vQ 1 rfl (aa rfl (gk rfl rfl rfl (by kernel_rfl) rfl) rfl (vQ 1 rfl (nT (aM ?_)))))))));obtain⟨LL2,ar,hLL2⟩:=ar.named;refine bg [2,3,4,5,26,27,28,29,30,31,32,33,34,35,36,37,38,39,40,41,42,43,44,45,46,47] (fun j t σ=>∃(i m:Nat),j+i=cD s/\mf s 0=mf (s.drop i) m/\m<10 ^ i/\i<=4/\t.get 4=some (.int .i64 (.ofNat m))/\t.get 26=some (.int .i64 (.ofNat i))/\St σ K LL2) (cD s) ⟨0,0,rfl,rfl,Nat.one_pos,Nat.zero_le _,rfl,rfl,ar⟩ ?_;clear ar;intro j5 t σ aq hI;obtain⟨i,m,hj,he,hm,hi4,hv4,hv26,ar⟩:=hI;subst hLL2;obtain⟨o2,o3,o4,o5,o26,o27,o28,o29,o30,o31,o32,o33,o34,o35,o36,o37,aq⟩:=aq.L4 rfl rfl rfl rfl;replace aq:=aq.bR rfl rfl;obtain⟨o38,o39,o40,o41,o42,o43,o44,o45,aq⟩:=aq;replace aq:=aq.dI rfl;obtain⟨o46,aq⟩:=aq;replace aq:=aq.dI rfl;obtain⟨o47,aq⟩:=aq;obtain rfl:=aq.nil;clear aq;replace hv4:o4=some _:=hv4;subst hv4;replace hv26:o26=some _:=hv26;subst hv26;refine aj (ah rfl (vQ 1 rfl (nT (aj (aG rfl (fun h27=>?_) (fun h27=>?_))))))
 ·refine aH (ad (aj (aM (aj (ah rfl (vQ 2 rfl (nT (aj (aj (ah rfl (vQ 2 rfl ?_)))))))))));obtain⟨x31,hx31⟩:=bX (show i<s.length from by have:=bm h27;rwa[bz] at this);refine aa rfl (eM (by kernel_rfl) rfl rfl hx31) rfl (vQ 1 rfl (ky rfl (an rfl) (fun h33=>?_) (fun h33=>?_)))
  ·refine vQ 5 rfl (nT (aF rfl (aj (ah rfl (vQ 2 rfl (nT (aC (av (aB (av (bk (aB (av (?_))))))))))))));exact bE rfl rfl rfl ⟨by rw[gj hne,he,kz hx31 (yH h33)];rfl,ar⟩
  refine vQ 2 rfl (aa rfl (eM (by kernel_rfl) rfl rfl hx31) rfl (vQ 2 rfl (nT (aG rfl (fun h38=>?_) (fun h38=>?_)))))
  ·refine aj (ah rfl (vQ 2 rfl (nT (aC (av (aB (av (bk (aB (av (?_)))))))))));exact bE rfl rfl rfl ⟨by rw[gj hne,he,kz hx31 (yG h38)];rfl,ar⟩
  refine aH (ad (ah rfl (vQ 4 rfl (aa rfl (eM (by kernel_rfl) rfl rfl hx31) rfl (vQ 1 rfl ?_)))));refine aa rfl (dN (j:=.u8) (k:=.i64) (by kernel_rfl) (by kernel_rfl) (by kernel_rfl) rfl) rfl ?_;refine vQ 2 rfl (af (aE (ad (ah rfl (vQ 2 rfl (af (aN ⟨j5-1,by have:=bm h27;omega,(by(iterate 50 refine oP rfl ?_);exact oR _ _),i+1,10*m+(x31-48),by have:=bm h27;omega,he.trans (oa hx31 (iB h33 h38)),by have:=iB h33 h38;rw[Nat.pow_succ];omega,by have:=bm h27;have:=hl4;omega,cI (He (iB h33 h38) (by have:=vy i hi4;omega)),cI (ba (by omega)),ar⟩)))))))
 refine bn (aS (aV (aO (ad (aj (ah rfl (vQ 3 rfl (nT (aC ?_)))))))));exact bE rfl rfl rfl ⟨by rw[gj hne,he,n9 (by have:=br h27;rwa[bz] at this)];rfl,ar⟩
end Go.Ev
namespace Go.Ev
variable [Env]
def Kj:List Int->List Int->Int
 | x::l,y::m=>bif bq (JP x y) 0 then Kj l m else JP x y
 | _,_=>0
def jy (A B:List Int) (c:Int):Prop:=∀l m,Kj (A++l) (B++m)=bif bq c 0 then Kj l m else c
theorem jy.nil:jy [] [] 0:=fun _ _=>rfl
theorem jy.one (x y:Int):jy [x] [y] (JP x y):=fun _ _=>rfl
theorem jy.app {A B A' B':List Int} {c c':Int} (h:jy A B c) (h':c=0->jy A' B' c'):jy (A++A') (B++B') (bif bq c 0 then c' else c):=fun l m=>by
 rw[lQ_,lQ_,h];simp only[Lj]
 by_cases hc:c=0
 ·simp only[hc,if_true];rw[h' hc];simp only[Lj]
 simp only[hc,if_false]
theorem jy.rows {α:Type} {enc:α->List Int} {c:α->α->Int}:∀{ls ms:List α},ls.length=ms.length->(∀(i:Nat) (x y:α),ls[i]?=some x->ms[i]?=some y->jy (enc x) (enc y) (c x y))->jy (ls.flatMap enc) (ms.flatMap enc) (La c ls ms)
 | [],[],_,_=>jy.nil
 | [],_::_,h,_=>by cases h
 | _::_,[],h,_=>by cases h
 | x::ls,y::ms,h,hc=>by
  rw[List.flatMap_cons,List.flatMap_cons];exact(hc 0 x y rfl rfl).app fun _=>jy.rows (by simpa using h) fun i x y h1 h2=>hc (i+1) x y (by simpa using h1) (by simpa using h2)
theorem ints_at {xs:List Int} {i:Nat} {x:Int} (h:xs[i]?=some x):(ints xs)[i]?=some (.int .i64 x):=by
 unfold ints;rw[gM_,h];rfl
theorem e6 {K:KP} {xs:List Int} {vb e:Nat} (h:K vb (.row (ints xs) e false)) (hn:xs.length<=1000):bJ K 1 dS xs (.slice vb 0 xs.length (.known xs.length)):=by
 refine .inr ⟨vb,0,_,_,e,false,rfl,.inr ⟨_,rfl,nR_ _⟩,h,?_,by omega,fun i x hx=>?_⟩
 ·unfold ints;rw[lM_];omega
 rw[Nat.mul_one,nA_,cL (ints_at hx)];rfl
theorem map_take {α β:Type} {f:α->β} {l:List α} {i:Nat} {x:α} (h:l[i]?=some x):(l.take (i+1)).map f=(l.take i).map f++[f x]:=by
 rw[List.take_add_one,h,List.map_append];rfl
theorem fN {xs:List Int} {b e E:Nat} (hn:xs.length<=1000):dh 1 E dS xs (.slice b 0 xs.length (.known xs.length)) [(b,.row (ints xs) e false)]:=by
 refine .inr ⟨b,_,_,e,rfl,rfl,?_,fun i x hx=>?_,.inl rfl,by omega⟩
 ·unfold ints;rw[lM_];omega
 rw[Nat.mul_one,cL (ints_at hx)];rfl
structure Mx (g:XG):Prop where
 t:g.threads.length<=4
 r:∀l∈g.threads,l.length<=14
 f:g.from_.length<=4
 fr:∀l∈g.from_,l.length<=14
 o:g.order.length<=6
 Nc:∀l∈g.order,l.length<=56
 i:g.init.length<=6
abbrev gI (n:Nat):AV:=.int .i64 (.ofNat n)
abbrev gS (n:Nat):AV:=.int .u8 (.ofNat n)
section
variable {σ:aD} {K:KP} {A M L:Own} {x:Nat×bQ}
theorem St.front (h:St σ K (A++(M++L))):St σ K (M++(A++L)):=h.perm (List.perm_append_comm_assoc A M L)
theorem St.B5 (h:St σ K (x::(A++(M++L)))):St σ K (x::(M++(A++L))):=h.perm ((List.perm_append_comm_assoc A M L).cons x)
theorem St.behind (h:St σ K (x::(M++L))):St σ K (M++x::L):=h.perm List.perm_middle.symm
theorem St.ahead (h:St σ K (M++x::L)):St σ K (x::(M++L)):=h.perm List.perm_middle
end
theorem ma.JA {α:Type} {m E:Nat} {R:α->List AV->Prop} {l:List α} {u:AV} {M:Own} (h:ma m E R l u M) {k:Nat} (hk:k<=l.length):
  ∃u',ma m E R (l.take k) u' M/\∀{P:Program} {ev:Operand->Option AV} {t:TypeId} {x hi:Operand} {kk:IntKind},P.underlying t=some (.slice E)->(P.info? E).map (·.size)=some m->ev x=some u->ev hi=some (.int kk (.ofNat k))->gf P ev t x none (some hi) none=some u':=by
 rcases h with ⟨rfl,rfl,rfl⟩ | ⟨b,c,cells,e,rfl,rfl,h3,h4,h5,h6⟩
 ·refine⟨.aK,.inl ⟨List.take_nil,rfl,rfl⟩,fun {P ev t x hi kk} hu hj hx hh=>?_⟩;obtain⟨j,hj',rfl⟩:=oM_.1 hj;obtain rfl:k=0:=by simpa using hk
  have:cX ev 0 0 none (some hi)=some (0,0):=r9 hh (nR_ _);simp only[gf,hu,hx,hj',this]
 have hl:(l.take k).length=k:=by rw[lT_];omega
 have hR:∀(i:Nat) (x:α),(l.take k)[i]?=some x->R x ((cells.drop (i*m)).take m):=fun i x hi=>by
  rw[List.getElem?_take] at hi;split at hi
  ·exact h4 i x hi
  cases hi
 have hle:k*m<=cells.length:=Nat.le_trans (nM_ _ hk) h3;rcases h5 with ⟨n,rfl,h7,h8⟩ | ⟨rfl,rfl⟩
 ·refine⟨.slice b 0 k (.known n),.inr ⟨b,.known n,cells,e,by rw[hl],rfl,by rw[hl];exact hle,hR,.inl ⟨n,rfl,by rw[hl];omega,h8⟩,by rw[hl];omega⟩,fun {P ev t x hi kk} hu hj hx hh=>?_⟩;obtain⟨j,hj',rfl⟩:=oM_.1 hj;have:cX ev l.length n none (some hi)=some (0,k):=r9 hh (by omega);simp only[gf,hu,hx,cutAt,this,cut,hj'];cases hn:Nat.beq n 0 with
  | true=>simp
  | false=>simp
 refine⟨.slice b 0 k (.upto m),.inr ⟨b,.upto m,cells,e,by rw[hl],rfl,by rw[hl];exact hle,hR,.inr ⟨rfl,rfl⟩,by rw[hl];omega⟩,fun {P ev t x hi kk} hu hj hx hh=>?_⟩;obtain⟨j,hj',rfl⟩:=oM_.1 hj;have:cX ev l.length l.length none (some hi)=some (0,k):=r9 hh hk;simp only[gf,hu,hx,this,hj',show Nat.beq j.size j.size=true from Nat.beq_refl _,cond_true,Nat.zero_mul,Nat.sub_zero,Nat.add_zero]
theorem ma.bA {α:Type} {m E:Nat} {R:α->List AV->Prop} {l:List α} {u:AV} {M:Own} (h:ma m E R l u M):l.length<=1048576:=by
 rcases h with ⟨rfl,_⟩ | ⟨_,_,_,_,_,_,_,_,_,h⟩
 ·exact Nat.zero_le _
 exact h
theorem GW {l:List Nat} {i n:Nat} (h:l[i]?=some n):(l.map Int.ofNat)[i]?=some (.ofNat n):=by rw[gM_,h];rfl
theorem gz (l:List Nat):(l.map Int.ofNat).length=l.length:=lM_ ..
theorem Di {l:List Nat} {a:Nat} (h:l.getLast?=some a):l[l.length-1]?=some a:=by rw[<-List.getLast?_eq_getElem?];exact h
theorem xF (l:List Nat):(l.map Int.ofNat).take (l.length-1)=l.dropLast.map Int.ofNat:=by rw[List.dropLast_eq_take,List.map_take]
theorem Al (x:XI) (a:Nat):(fM x a).length<=2:=by
 unfold fM;exact cond_ind2 _ (by simp) (cond_ind2 _ (by simp) (cond_ind2 _ (by simp) (cond_ind2 _ (by simp) (by simp))))
where
 cond_ind2 {a b:List Int} (c:Bool) (h1:a.length<=2) (h0:b.length<=2):(bif c then a else b).length<=2:=by cases c;exact h0;exact h1
theorem ph {c:XC} {a:Nat} {x:XI} (h:c.ins[a]?=some x):(cH c a).length=(fM x a).length:=by unfold cH;rw[h];simp
theorem GK {c:XC} {a g:Nat} {x:XI} {to:Int} (h:c.ins[a]?=some x) (ht:(fM x a)[g]?=some to):(cH c a)[g]?=some to.toNat:=by
 unfold cH;rw[h];show((fM x a).map Int.toNat)[g]?=_;rw[gM_,ht];rfl
theorem GM {c:XC} {a g:Nat} {x:XI} (h:c.ins[a]?=some x) (hg:(fM x a).length<=g):(cH c a)[g]?=none:=by
 rw[List.getElem?_eq_none_iff,ph h];exact hg
theorem xp {k:Nat} {c:XC} (hc:ew k c) {a g:Nat} {x:XI} {to:Int} (h:c.ins[a]?=some x) (ht:(fM x a)[g]?=some to):∃t:Nat,to= .ofNat t/\t<c.ins.length/\(cH c a)[g]?=some t:=by
 have hlt:=(gA.1 h).1;have hN:=GK h ht;have hm:=rB hc a hlt _ (gB_ hN);refine⟨to.toNat,?_,hm,hN⟩;have hx:=hc.right x (gB_ h);obtain⟨n,sh,hn,n1,n13,hsh,hr⟩:=iL hx;have hto:=(gW hr).to;have hmem:=gB_ ht;unfold fM at hmem;rw[hn] at hmem;have tole:sh.to=true->0<=x.to/\x.to<(c.ins.length:Int):=fun e=>by rw[e] at hto;exact l4 hto
 have nn:∀y:Int,0<=y->y= .ofNat y.toNat:=fun y hy=>by show y=((y.toNat:Nat):Int);omega
 match n,n1,n13 with
 | 1,_,_ | 2,_,_ | 3,_,_ | 4,_,_ | 5,_,_ | 6,_,_ | 7,_,_ | 8,_,_ | 9,_,_=>
  have e:to= .ofNat (a+1):=List.mem_singleton.1 (show to∈[Int.ofNat (a+1)] from hmem);rw[e];rfl
 | 10,_,_=>
  have e:to=x.to:=List.mem_singleton.1 (show to∈[x.to] from hmem);have:=tole (by cases hsh;rfl);rw[e];exact nn _ this.1
 | 11,_,_=>
  have e:to= .ofNat (a+1)∨to=x.to:=by have h2:to∈[Int.ofNat (a+1),x.to]:=hmem;simpa using h2
  have:=tole (by cases hsh;rfl);rcases e with e | e
  ·rw[e];rfl
  rw[e];exact nn _ this.1
 | 12,_,_ | 13,_,_=>exact absurd (show to∈([]:List Int) from hmem) (by simp)
theorem AZ {c:XC}:total (cH c) c.ins.length<=2*c.ins.length:=by
 have h:∀(l:List Nat),(l.map fun i=>(cH c i).length).sum<=2*l.length:=by
  intro l;induction l with
  | nil=>simp
  | cons i l ih=>
   simp only[List.map_cons,List.sum_cons,List.length_cons]
   have:(cH c i).length<=2:=by
    cases hx:c.ins[i]? with
    | none=>unfold cH;rw[hx];simp
    | some x=>rw[ph hx];exact Al x i
   omega
 have:=h (List.range c.ins.length);rwa[List.length_range] at this
theorem Ii {nx:Nat->List Nat} {f:Nat} {s:DS} (h:s.path.length=0):wg nx (f+1) s=some s.out:=by
 unfold wg;rw[eN_ h];rfl
theorem uv {nx:Nat->List Nat} {f a:Nat} {s s':DS} (h:s.path.getLast?=some a) (hd:jt nx s a=some s'):wg nx (f+1) s=wg nx f s':=by
 conv=>lhs;unfold wg
 rw[h];dsimp only;rw[hd];rfl
theorem FX {nx:Nat->List Nat} {f a:Nat} {s:DS} (h:s.path.getLast?=some a) (hd:jt nx s a=none):wg nx (f+1) s=none:=by
 conv=>lhs;unfold wg
 rw[h];dsimp only;rw[hd];rfl
theorem Eo {nx:Nat->List Nat} {s:DS} {a g:Nat} (hg:s.gone[a]?=some g) (hn:(nx a)[g]?=none):jt nx s a=some {s with st:=s.st.set a 2,out:=s.out++[a],path:=s.path.dropLast}:=by
 unfold jt;rw[hg];simp only[Option.getD_some];rw[hn]
theorem BS {nx:Nat->List Nat} {s:DS} {a g to:Nat} (hg:s.gone[a]?=some g) (hn:(nx a)[g]?=some to) (hv:s.st[to]?=some 2):jt nx s a=some {s with gone:=s.gone.set a (g+1)}:=by
 unfold jt;rw[hg];simp only[Option.getD_some];rw[hn];dsimp only;rw[hv];rfl
theorem BQ {nx:Nat->List Nat} {s:DS} {a g to:Nat} (hg:s.gone[a]?=some g) (hn:(nx a)[g]?=some to) (hv:s.st[to]?=some 1):jt nx s a=none:=by
 unfold jt;rw[hg];simp only[Option.getD_some];rw[hn];dsimp only;rw[hv];rfl
theorem BR {nx:Nat->List Nat} {s:DS} {a g to v:Nat} (hg:s.gone[a]?=some g) (hn:(nx a)[g]?=some to) (hv:s.st[to]?=some v) (h2:v≠2) (h1:v≠1):jt nx s a=some {s with gone:=s.gone.set a (g+1),st:=s.st.set to 1,path:=s.path++[to]}:=by
 unfold jt;rw[hg];simp only[Option.getD_some];rw[hn];dsimp only;rw[hv];simp only[Option.getD_some];rw[if_neg h2,if_neg h1]
theorem BX {a b:Nat} (h:bq (.ofNat a) (.ofNat b)=false):a≠b:=fun e=>by rw[e,fE] at h;simp at h
theorem Jk {P:Program} {G:Cx} {ev:Operand->Option AV} {σ:aD} {s d:TypeId} {e:Nat} {x:Operand} {l:List Nat} (hk:kindOf P (.convert s d x)= .ja) (hs:P.underlying s=some .string) (hd:P.underlying d=some (.slice e)) (he:P.underlying e=some (.int .u8)) (hc:Nat.beq (P.cellsOf e) 1=true) (hx:ev x=some (.str l)):
  dJ P G ev σ (.convert s d x)= .val (.slice σ.next 0 (cD l) (.upto 1)) (σ.alloc (.row (l.map gS) e true)):=by
 refine pD hk ?_;have hm:wy (fun c=>AV.int .u8 (Int.ofNat c)) l=l.map gS:=kE _ _;simp only[gQ,hx,kT,hs,hd,he,hc,cond_true,hm]
theorem FY {s:List Nat} {i m c n:Nat} (h:mf (s.drop i) m=some n) (hc:s[i]?=some c):(48<=c/\c<=57)/\mf (s.drop (i+1)) (10*m+(c-48))=some n:=by
 by_cases hd:48<=c/\c<=57
 ·exact⟨hd,by rw[<-oa hc hd];exact h⟩
 rw[kz hc hd] at h;cases h
theorem vG {s:List Nat} {n:Nat} (h:gH s=some n):0<s.length/\s.length<=4/\mf s 0=some n:=by
 unfold gH at h;split at h
 ·cases h
 rename_i hh;exact⟨by omega,by omega,h⟩
theorem FZ {c m:Nat} (h:48<=c/\c<=57) (hm:m<=100000):wr .i64 (Int.add (wr .i64 (Int.mul (.ofNat m) 10)) (wr .i64 (wr .u8 (Int.sub (.ofNat c) 48))))= .ofNat (10*m+(c-48)):=by
 have e1:Int.sub (.ofNat c) 48= .ofNat (c-48):=by show(c:Int)-48=((c-48:Nat):Int);omega
 have e2:Int.mul (.ofNat m) 10= .ofNat (10*m):=by show(m:Int)*10=((10*m:Nat):Int);omega
 have w1:wr .u8 (.ofNat (c-48))= .ofNat (c-48):=by
  show(bif Nat.ble (c-48) 255 then _ else _)=_;rw[show Nat.ble (c-48) 255=true by rw[nE_];omega];rfl
 have w2:∀q:Nat,q<=9223372036854775807->wr .i64 (.ofNat q)= .ofNat q:=fun q hq=>by
  show(bif Nat.ble q 9223372036854775807 then _ else _)=_;rw[show Nat.ble q 9223372036854775807=true by rw[nE_];exact hq];rfl
 rw[e1,e2,w1,w2 _ (by omega),w2 _ (by omega)];show wr .i64 (.ofNat (10*m+(c-48)))=_;exact w2 _ (by omega)
theorem J3 {c:Nat} (h:48<=c/\c<=57):bG 9 (wr .u8 (Int.sub (.ofNat c) 48))=false:=by
 have e1:Int.sub (.ofNat c) 48= .ofNat (c-48):=by show(c:Int)-48=((c-48:Nat):Int);omega
 have w1:wr .u8 (.ofNat (c-48))= .ofNat (c-48):=by
  show(bif Nat.ble (c-48) 255 then _ else _)=_;rw[show Nat.ble (c-48) 255=true by rw[nE_];omega];rfl
 rw[e1,w1,eo,decide_eq_false_iff_not];show¬(9:Int)<((c-48:Nat):Int);omega
def lQ {α:Type} (f:α->Int) (l:List α) (i:Nat):List Int:=(l.take i).map f++List.replicate (l.length-i) 0
theorem uE {α:Type} (f:α->Int) (l:List α):lQ f l 0=List.replicate l.length 0:=by unfold lQ;simp
theorem wY {α:Type} {f:α->Int} {l:List α} {i:Nat} (h:l.length<=i):lQ f l i=l.map f:=by unfold lQ;rw[tL_ h,show l.length-i=0 by omega];simp
theorem pc {α:Type} {f:α->Int} {l:List α} {i:Nat} (h:i<=l.length):(lQ f l i).length=l.length:=by unfold lQ;rw[lA_,lM_,lT_,List.length_replicate];omega
theorem wZ {α:Type} {f:α->Int} {l:List α} {i:Nat} {x:α} (h:l[i]?=some x):(lQ f l i).set i (f x)=lQ f l (i+1):=by
 have hlt:=(gA.1 h).1;unfold lQ;have hA:((l.take i).map f).length=i:=by rw[lM_,lT_];omega
 rw[List.set_append_right _ _ (by omega),hA,Nat.sub_self,show l.length-i=(l.length-(i+1))+1 by omega,List.replicate_succ,List.set_cons_zero,List.take_add_one,h,List.map_append];simp
theorem St.F3 {σ:aD} {K:KP} {x y:Nat×bQ} {L:Own} (h:St σ K (x::y::L)):St σ K (x::L):=(h.perm (List.Perm.swap ..)).pop
theorem dV.mono {K K':KP} (hk:KP.le K K'):∀{k:Nat} {x:XE} {vs:List AV},dV K k x vs->dV K' k x vs
 | 0,x,_,h=>by cases x;exact h.elim
 | k+1,.mk _ _ _ _,_,⟨v,h1,h2⟩=>⟨v,h1,h2.mono hk fun _ _ h=>dV.mono hk h⟩
theorem gK.mono {K K':KP} (hk:KP.le K K') {k:Nat} {x:XI} {vs:List AV} (h:gK K k x vs):gK K' k x vs:=let ⟨v,h1,h2⟩:=h;⟨v,h1,h2.mono hk fun _ _ h=>h.mono hk⟩
theorem qN.mono {K K':KP} (hk:KP.le K K') {k:Nat} {x:XC} {vs:List AV} (h:qN K k x vs):qN K' k x vs:=let ⟨v,h1,h2⟩:=h;⟨v,h1,h2.mono hk fun _ _ h=>h.mono hk⟩
theorem nd {K K':KP} (hk:KP.le K K') {k:Nat} {l:List XI} {v:AV} (h:bJ K 6 (gK K k) l v):bJ K' 6 (gK K' k) l v:=h.mono hk fun _ _ h=>h.mono hk
theorem jB {K K':KP} (hk:KP.le K K') {k:Nat} {l:List XE} {v:AV} (h:bJ K 4 (dV K k) l v):bJ K' 4 (dV K' k) l v:=h.mono hk fun _ _ h=>h.mono hk
theorem jA {P:Program} {G:Cx} {f:Nat} {args:List AV} {σ:aD} {K:KP} {M L:Own} {u:AV} (h0:St σ K (M++L)) (h:bp P G f args σ fun v σ'=>v=u/\St σ' (K.gG M) L):bp P G f args σ fun v σ'=>v=u/\St σ' K (M++L):=
 h.mono fun _ _ ⟨a,b⟩=>⟨a,h0.I7 b⟩
theorem zp (b o:Nat):dQ (.ptr b o) (.ptr b o)=true:=by
 unfold dQ;show(dQ.beqP b b && Nat.beq o o)=true;rw[show dQ.beqP b b=true from Nat.beq_refl b,Nat.beq_refl];rfl
abbrev Fw (c:XC) (cv:AV) (s:TS) (rb:Nat) (ev:AV):List AV:=[.int .i64 c.aP,cv,.int .i64 (.ofNat s.at_),.slice rb 0 s.aP.length (.known s.aP.length),ev,.int .i64 (.ofNat s.asked),.int .i64 s.fin,.bool s.asks]
theorem kD {aP nins:Int} {k n:Nat} {x:XI} (h:eX aP nins k x=true) (hn:x.kind= .ofNat n) (h1:n=1∨n=3∨n=4∨n=5∨n=6∨n=8∨n=9∨n=11):∃e,x.exprs[0]?=some e/\dG aP k e=true:=by
 obtain⟨m,sh,hm,_,_,hsh,hr⟩:=iL h;have hr:=gW hr;have:m=n:=iJ_ (hm.symm.trans hn);subst this
 have hl:0<x.exprs.length:=by
  rw[hr.exprs];rcases h1 with h1 | h1 | h1 | h1 | h1 | h1 | h1 | h1<;>subst h1<;>cases hsh<;>decide
 exact⟨x.exprs[0],gC hl,hr.all _ (List.getElem_mem hl)⟩
theorem yF {aP nins:Int} {k n:Nat} {x:XI} (h:eX aP nins k x=true) (hn:x.kind= .ofNat n) (h1:n=1∨n=2∨n=4∨n=5∨n=6):∃r:Nat,x.ny= .ofNat r/\(r:Int)<aP:=by
 obtain⟨m,sh,hm,_,_,hsh,hr⟩:=iL h;have hr:=gW hr;have:m=n:=iJ_ (hm.symm.trans hn);subst this
 have hs:sh.ny=true:=by
  rcases h1 with h1 | h1 | h1 | h1 | h1<;>subst h1<;>cases hsh<;>rfl
 have:=hr.ny;rw[hs] at this;obtain⟨w1,w2⟩:=l4 this;exact⟨x.ny.toNat,by show x.ny=((x.ny.toNat:Nat):Int);omega,by omega⟩
theorem DN {aP:Int} {m k n:Nat} {x:XI} (h:eX aP (.ofNat m) k x=true) (hn:x.kind= .ofNat n) (h1:n=10∨n=11):∃r:Nat,x.to= .ofNat r/\r<m:=by
 obtain⟨q,sh,hm,_,_,hsh,hr⟩:=iL h;have hr:=gW hr;have:q=n:=iJ_ (hm.symm.trans hn);subst this;have hs:sh.to=true:=by rcases h1 with h1 | h1<;>subst h1<;>cases hsh<;>rfl
 have:=hr.to;rw[hs] at this;obtain⟨w1,w2⟩:=l4 this;have w2:x.to<(m:Int):=w2;exact⟨x.to.toNat,by show x.to=((x.to.toNat:Nat):Int);omega,by omega⟩
theorem eI {k i:Nat} {aP:List Int} {x:XI} {e:XE} (h:x.exprs[i]?=some e):eZ k aP x i=ed aP k e:=by unfold eZ;rw[h];rfl
theorem q8 {k i:Nat} {aP:List Int} {x:XI} (h:x.exprs.length<=i):eZ k aP x i=0:=by unfold eZ;rw[gN_ h];rfl
end Go.Ev
namespace Go.Ev
variable [Env]
open Go.Proofs
set_option maxRecDepth 4000
set_option maxHeartbeats 8000000
theorem J0 {G:Cx} (hG:Plain G) {K:KP} (op:Int) {σ:aD} {L:Own} (ar:St σ K L):bp Tryz.prog G 260 [.int .i64 op] σ fun v σ'=>v= .int .i64 (pZ op)/\St σ' K L:=by
 refine bh hG Tryz.func260 rfl (t:=PT.leaf.put (some (.int .i64 op)) 0) (by rfl) (aj (ah rfl (vQ 1 rfl (nT (aj (aM (aj (ah rfl (vQ 2 rfl (ky rfl (an rfl) (fun h6=>?_) (fun h6=>?_)))))))))))
 ·refine vQ 4 rfl (nT (aF rfl (aj (ah rfl (vQ 1 rfl (nT (aC (aB (av (?_))))))))));exact ay rfl rfl ⟨cJ (by unfold pZ aX;simp only[h6,ct,cf]<;>rfl),ar⟩
 refine vQ 4 rfl (nT (aG rfl (fun h3=>?_) (fun h3=>?_)))
 ·refine aj (ah rfl (vQ 1 rfl (nT (aC (aB (av (?_)))))));exact ay rfl rfl ⟨cJ (by unfold pZ aX;simp only[h6,h3,ct,cf]<;>rfl),ar⟩
 refine aj (ah rfl (vQ 2 rfl (ky rfl (an rfl) (fun h13=>?_) (fun h13=>?_))))
 ·refine vQ 4 rfl (nT (aF rfl (aj (ah rfl (vQ 1 rfl (nT (aC (aB (av (?_))))))))));exact ay rfl rfl ⟨cJ (by unfold pZ aX;simp only[h6,h3,h13,ct,cf]<;>rfl),ar⟩
 refine vQ 4 rfl (nT (aG rfl (fun h10=>?_) (fun h10=>?_)))
 ·refine aj (ah rfl (vQ 1 rfl (nT (aC (aB (av (?_)))))));exact ay rfl rfl ⟨cJ (by unfold pZ aX;simp only[h6,h3,h13,h10,ct,cf]<;>rfl),ar⟩
 refine aj (ah rfl (vQ 2 rfl (ky rfl (an rfl) (fun h20=>?_) (fun h20=>?_))))
 ·refine vQ 4 rfl (nT (aG rfl (fun h17=>?_) (fun h17=>?_)))
  ·refine aj (ah rfl (vQ 1 rfl (nT (aC (aB (av (?_)))))));exact ay rfl rfl ⟨cJ (by unfold pZ aX;simp only[h6,h3,h13,h10,h20,h17,ct,cf]<;>rfl),ar⟩
  refine aH (aE (ad (aj (ah rfl (vQ 1 rfl (nT (aC ?_)))))));exact ay rfl rfl ⟨cJ (by unfold pZ aX;simp only[h6,h3,h13,h10,h20,h17,ct,cf]<;>rfl),ar⟩
 refine vQ 4 rfl (nT (aI rfl (aH (aE (ad (aj (ah rfl (vQ 1 rfl (nT (aC ?_))))))))));exact ay rfl rfl ⟨cJ (by unfold pZ aX;simp only[h6,h3,h13,h10,h20,ct,cf]<;>rfl),ar⟩
theorem FR {G:Cx} (hG:Plain G) {K:KP} (c:Nat) {σ:aD} {L:Own} (ar:St σ K L):bp Tryz.prog G 283 [.int .u8 (.ofNat c)] σ fun v σ'=>v= .bool (yq c)/\St σ' K L:=by
 refine bh hG Tryz.func283 rfl (t:=PT.leaf.put (some (.int .u8 (.ofNat c))) 0) (by rfl) (aj (ah rfl (vQ 1 rfl (nS rfl (vQ 2 rfl (ky rfl (an rfl) (fun h5=>?_) (fun h5=>?_)))))))
 ·refine vQ 3 rfl (ky rfl (an rfl) (fun h9=>?_) (fun h9=>?_))
  ·refine vQ 8 rfl (nT (aC ?_));exact ay rfl rfl ⟨congrArg (AV.bool) (by unfold yq aX;simp only[h5,h9,ct,cf]<;>rfl),ar⟩
  refine vQ 2 rfl (ky rfl (an rfl) (fun h12=>?_) (fun h12=>?_))
  ·refine vQ 5 rfl (nT (aC ?_));exact ay rfl rfl ⟨congrArg (AV.bool) (by unfold yq aX;simp only[h5,h9,h12,ct,cf]<;>rfl),ar⟩
  refine vQ 5 rfl (nT (aC ?_));exact ay rfl rfl ⟨congrArg (AV.bool) (by unfold yq aX;simp only[h5,h9,h12,ct,cf]<;>rfl),ar⟩
 refine vQ 6 rfl (ky rfl (an rfl) (fun h12=>?_) (fun h12=>?_))
 ·refine vQ 5 rfl (nT (aC ?_));exact ay rfl rfl ⟨congrArg (AV.bool) (by unfold yq aX;simp only[h5,h12,ct,cf]<;>rfl),ar⟩
 refine vQ 5 rfl (nT (aC ?_));exact ay rfl rfl ⟨congrArg (AV.bool) (by unfold yq aX;simp only[h5,h12,ct,cf]<;>rfl),ar⟩
theorem Ia {G:Cx} (hG:Plain G) {K:KP} (c:Nat) {σ:aD} {L:Own} (ar:St σ K L):bp Tryz.prog G 284 [.int .u8 (.ofNat c)] σ fun v σ'=>v= .bool (En c)/\St σ' K L:=by
 refine bh hG Tryz.func284 rfl (t:=PT.leaf.put (some (.int .u8 (.ofNat c))) 0) (by rfl) (aj (ah rfl (vQ 1 rfl (nS rfl (vQ 2 rfl (ky rfl (an rfl) (fun h5=>?_) (fun h5=>?_)))))))
 ·refine vQ 4 rfl (nT (aC ?_));exact ay rfl rfl ⟨congrArg (AV.bool) (by unfold En aX;simp only[h5,ct,cf]<;>rfl),ar⟩
 refine vQ 4 rfl (nT (aC ?_));exact ay rfl rfl ⟨congrArg (AV.bool) (by unfold En aX;simp only[h5,ct,cf]<;>rfl),ar⟩
theorem jU {G:Cx} (hG:Plain G) {K:KP} (x:Int) {σ:aD} {L:Own} (ar:St σ K L):bp Tryz.prog G 230 [.int .i64 x] σ fun v σ'=>v= .bool (pF x)/\St σ' K L:=by
 refine bh hG Tryz.func230 rfl (t:=PT.leaf.put (some (.int .i64 x)) 0) (by rfl) (aj (ah rfl (vQ 1 rfl (nS rfl (vQ 2 rfl (ky rfl (an rfl) (fun h5=>?_) (fun h5=>?_)))))))
 ·refine vQ 16 rfl (nT (aC ?_));exact ay rfl rfl ⟨congrArg (AV.bool) (by unfold pF;simp only[h5,ct,cf]<;>rfl),ar⟩
 refine vQ 3 rfl (ky rfl (an rfl) (fun h9=>?_) (fun h9=>?_))
 ·refine vQ 12 rfl (nT (aC ?_));exact ay rfl rfl ⟨congrArg (AV.bool) (by unfold pF;simp only[h5,h9,ct,cf]<;>rfl),ar⟩
 refine vQ 3 rfl (ky rfl (an rfl) (fun h13=>?_) (fun h13=>?_))
 ·refine vQ 8 rfl (nT (aC ?_));exact ay rfl rfl ⟨congrArg (AV.bool) (by unfold pF;simp only[h5,h9,h13,ct,cf]<;>rfl),ar⟩
 refine vQ 3 rfl (ky rfl (an rfl) (fun h17=>?_) (fun h17=>?_))
 ·refine vQ 4 rfl (nT (aC ?_));exact ay rfl rfl ⟨congrArg (AV.bool) (by unfold pF;simp only[h5,h9,h13,h17,ct,cf]<;>rfl),ar⟩
 refine vQ 4 rfl (nT (aC ?_));exact ay rfl rfl ⟨congrArg (AV.bool) (by unfold pF;simp only[h5,h9,h13,h17,ct,cf]<;>rfl),ar⟩
theorem Ib {G:Cx} (hG:Plain G) {K:KP} (x:Int) {σ:aD} {L:Own} (ar:St σ K L):bp Tryz.prog G 231 [.int .i64 x] σ fun v σ'=>v= .int .i64 (fB x)/\St σ' K L:=by
 refine bh hG Tryz.func231 rfl (t:=PT.leaf.put (some (.int .i64 x)) 0) (by rfl) (aj (ah rfl (vQ 1 rfl (nT (aj (aj (ah rfl (vQ 1 rfl (nT (aM (aj ?_)))))))))));refine aj (ah rfl (ky rfl (az rfl rfl rfl) (fun h5=>?_) (fun h5=>?_)))
 ·refine vQ 1 rfl (nT (aF rfl (aH (ad (aF rfl (aj (ah rfl (vQ 1 rfl (nT (aC (aB (av (?_)))))))))))));exact ay rfl rfl ⟨cJ (by unfold fB;simp only[h5,ct,cf]<;>rfl),ar⟩
 refine vQ 1 rfl (nT (aI rfl (aj (ah rfl (ky rfl (az rfl rfl rfl) (fun h6=>?_) (fun h6=>?_))))))
 ·refine vQ 1 rfl (nT (aF rfl (aH (ad (aF rfl (aj (ah rfl (vQ 1 rfl (nT (aC (aB (av (?_)))))))))))));exact ay rfl rfl ⟨cJ (by unfold fB;simp only[h5,h6,ct,cf]<;>rfl),ar⟩
 refine vQ 1 rfl (nT (aI rfl (aj (ah rfl (ky rfl (az rfl rfl rfl) (fun h7=>?_) (fun h7=>?_))))))
 ·refine vQ 1 rfl (nT (aF rfl (aH (ad (aF rfl (aj (ah rfl (vQ 1 rfl (nT (aC (aB (av (?_)))))))))))));exact ay rfl rfl ⟨cJ (by unfold fB;simp only[h5,h6,h7,ct,cf]<;>rfl),ar⟩
 refine vQ 1 rfl (nT (aI rfl (aj (ah rfl (ky rfl (az rfl rfl rfl) (fun h8=>?_) (fun h8=>?_))))))
 ·refine vQ 1 rfl (nT (aF rfl (aH (ad (aF rfl (aj (ah rfl (vQ 1 rfl (nT (aC (aB (av (?_)))))))))))));exact ay rfl rfl ⟨cJ (by unfold fB;simp only[h5,h6,h7,h8,ct,cf]<;>rfl),ar⟩
 refine vQ 1 rfl (nT (aI rfl (aj (ah rfl (ky rfl (az rfl rfl rfl) (fun h9=>?_) (fun h9=>?_))))))
 ·refine vQ 1 rfl (nT (aF rfl (aH (ad (aF rfl (aj (ah rfl (vQ 1 rfl (nT (aC (aB (av (?_)))))))))))));exact ay rfl rfl ⟨cJ (by unfold fB;simp only[h5,h6,h7,h8,h9,ct,cf]<;>rfl),ar⟩
 refine vQ 1 rfl (nT (aI rfl (aj (ah rfl (ky rfl (az rfl rfl rfl) (fun h10=>?_) (fun h10=>?_))))))
 ·refine vQ 1 rfl (nT (aF rfl (aH (ad (aF rfl (aj (ah rfl (vQ 1 rfl (nT (aC (aB (av (?_)))))))))))));exact ay rfl rfl ⟨cJ (by unfold fB;simp only[h5,h6,h7,h8,h9,h10,ct,cf]<;>rfl),ar⟩
 refine vQ 1 rfl (nT (aI rfl (ah rfl (ky rfl (az rfl rfl rfl) (fun h11=>?_) (fun h11=>?_)))))
 ·refine vQ 1 rfl (nT (aF rfl (aj (ah rfl (vQ 1 rfl (nT (aC (aB (av (?_))))))))));exact ay rfl rfl ⟨cJ (by unfold fB;simp only[h5,h6,h7,h8,h9,h10,h11,ct,cf]<;>rfl),ar⟩
 refine vQ 1 rfl (nT (aI rfl (aj (ah rfl (ky rfl (az rfl rfl rfl) (fun h13=>?_) (fun h13=>?_))))))
 ·refine vQ 1 rfl (nT (aF rfl (aj (ah rfl (vQ 1 rfl (nT (aC (aB (av (?_))))))))));exact ay rfl rfl ⟨cJ (by unfold fB;simp only[h5,h6,h7,h8,h9,h10,h11,h13,ct,cf]<;>rfl),ar⟩
 refine vQ 1 rfl (nT (aI rfl (aj (aj (ah rfl (ky rfl (az rfl rfl rfl) (fun h15=>?_) (fun h15=>?_)))))))
 ·refine vQ 1 rfl (nT (aF rfl (aH (ad (aF rfl (aj (ah rfl (vQ 1 rfl (nT (aC (aB (av (?_)))))))))))));exact ay rfl rfl ⟨cJ (by unfold fB;simp only[h5,h6,h7,h8,h9,h10,h11,h13,h15,ct,cf]<;>rfl),ar⟩
 refine vQ 1 rfl (nT (aI rfl (aj (ah rfl (ky rfl (az rfl rfl rfl) (fun h16=>?_) (fun h16=>?_))))))
 ·refine vQ 1 rfl (nT (aF rfl (aH (ad (aF rfl (aj (ah rfl (vQ 1 rfl (nT (aC (aB (av (?_)))))))))))));exact ay rfl rfl ⟨cJ (by unfold fB;simp only[h5,h6,h7,h8,h9,h10,h11,h13,h15,h16,ct,cf]<;>rfl),ar⟩
 refine vQ 1 rfl (nT (aI rfl (aj (ah rfl (ky rfl (az rfl rfl rfl) (fun h17=>?_) (fun h17=>?_))))))
 ·refine vQ 1 rfl (nT (aF rfl (aH (ad (aF rfl (aj (ah rfl (vQ 1 rfl (nT (aC (aB (av (?_)))))))))))));exact ay rfl rfl ⟨cJ (by unfold fB;simp only[h5,h6,h7,h8,h9,h10,h11,h13,h15,h16,h17,ct,cf]<;>rfl),ar⟩
 refine vQ 1 rfl (nT (aI rfl (aj (ah rfl (ky rfl (az rfl rfl rfl) (fun h18=>?_) (fun h18=>?_))))))
 ·refine vQ 1 rfl (nT (aF rfl (aH (ad (aF rfl (aj (ah rfl (vQ 1 rfl (nT (aC (aB (av (?_)))))))))))));exact ay rfl rfl ⟨cJ (by unfold fB;simp only[h5,h6,h7,h8,h9,h10,h11,h13,h15,h16,h17,h18,ct,cf]<;>rfl),ar⟩
 refine vQ 1 rfl (nT (aI rfl (ah rfl (ky rfl (az rfl rfl rfl) (fun h19=>?_) (fun h19=>?_)))))
 ·refine vQ 1 rfl (nT (aF rfl (aj (ah rfl (vQ 1 rfl (nT (aC (aB (av (?_))))))))));exact ay rfl rfl ⟨cJ (by unfold fB;simp only[h5,h6,h7,h8,h9,h10,h11,h13,h15,h16,h17,h18,h19,ct,cf]<;>rfl),ar⟩
 refine vQ 1 rfl (nT (aI rfl (aH (aE (ad (aj (ah rfl (vQ 1 rfl (nT (aC ?_))))))))));exact ay rfl rfl ⟨cJ (by unfold fB;simp only[h5,h6,h7,h8,h9,h10,h11,h13,h15,h16,h17,h18,h19,ct,cf]<;>rfl),ar⟩
theorem BL {G:Cx} (hG:Plain G) {K:KP} (x:Int) {σ:aD} {L:Own} (ar:St σ K L):bp Tryz.prog G 232 [.int .i64 x] σ fun v σ'=>v= .bool (jX x)/\St σ' K L:=by
 refine bh hG Tryz.func232 rfl (t:=PT.leaf.put (some (.int .i64 x)) 0) (by rfl) (aj (ah rfl (vQ 1 rfl (nS rfl (vQ 2 rfl (ky rfl (an rfl) (fun h5=>?_) (fun h5=>?_)))))))
 ·refine vQ 8 rfl (nT (aC ?_));exact ay rfl rfl ⟨congrArg (AV.bool) (by unfold jX aX;simp only[h5,ct,cf]<;>rfl),ar⟩
 refine vQ 1 rfl (bf rfl (MX rfl rfl rfl) (fun _=>rfl) (jU hG _ ar) (fun σ ar=>?_));refine ky rfl (an rfl) (fun h8=>?_) (fun h8=>?_)
 ·refine vQ 5 rfl (nT (aC ?_));exact ay rfl rfl ⟨congrArg (AV.bool) (by unfold jX aX;simp only[h5,h8,ct,cf]<;>rfl),ar⟩
 refine vQ 5 rfl (nT (aC ?_));exact ay rfl rfl ⟨congrArg (AV.bool) (by unfold jX aX;simp only[h5,h8,ct,cf]<;>rfl),ar⟩
theorem Gy {K:KP} {b e:Nat} (h:K b (.row (nN.map AV.str) e false)):bJ K 1 fm nN (.slice b 0 20 (.known 20)):=by
 refine .inr ⟨b,0,.known 20,_,e,false,rfl,.inr ⟨20,rfl,by decide⟩,h,by decide,by decide,fun i x hx=>?_⟩;rw[nA_,Nat.mul_one];have:(nN.map AV.str)[i]?=some (.str x):=by rw[gM_,hx];rfl
 rw[cL this];rfl
theorem JZ {G:Cx} (hG:Plain G) {K:KP} {σ:aD} {L:Own} (ar:St σ K L):bp Tryz.prog G 287 [] σ fun v σ'=>∃M,bJ (K.gG M) 1 fm nN v/\St σ' K (M++L):=by
 refine bh hG Tryz.func287 rfl (t:=PT.leaf) (by rfl) (aj (ah rfl (vQ 1 rfl (nS rfl (ib ar rfl (cq (e:=9) (m:=1) (z:=[.str []]) (cs:=nN.map AV.str) (by kernel_rfl) (by kernel_rfl) (by kernel_rfl) (by kernel_rfl) (by rfl)) (fun _=>rfl) (fun σ b1 ar=>?_))))));refine vQ 1 rfl (nT (aC ?_));exact ay rfl rfl ⟨[(b1,.row (nN.map AV.str) 9 false)],Gy (.inr (.head _)),ar⟩
theorem J1 {G:Cx} (hG:Plain G) {K:KP} (s:List Nat) {σ:aD} {L:Own} (ar:St σ K L):bp Tryz.prog G 285 [.str s] σ fun v σ'=>v= .int .i64 (bif isKey s then 2 else 1)/\St σ' K L:=by
 refine bh hG Tryz.func285 rfl (t:=PT.leaf.put (some (.str s)) 0) (by rfl) (aj (ah rfl (vQ 1 rfl (nS rfl (dF rfl (MX rfl rfl rfl) (fun _=>rfl) (JZ hG ar) ?_)))));rintro u σ ⟨M,hk,ar⟩;replace ar:=ar.keeps;have hlk:nN.length=20:=rfl;refine vQ 1 rfl (nT (aj (aj (ah rfl (vQ 1 rfl (nT (aM ?_)))))));obtain⟨LL1,ar,hLL1⟩:=ar.named;refine bg [2,4,6,7,8,9,10,11,12,13,14,15,16,17] (fun j t σ=>∃(i:Nat),j+i=nN.length/\(nN.take i).any (fun k=>fF k s)=false/\t.get 4=some (.int .i64 (.ofNat i))/\St σ (K.gG M) LL1) (nN.length) ⟨0,rfl,rfl,rfl,ar⟩ ?_;clear ar;intro j3 t σ aq hI;obtain⟨i,hj,ha,hv4,ar⟩:=hI;subst hLL1;replace aq:=aq.bR rfl rfl;obtain⟨o2,o4,o6,o7,o8,o9,o10,o11,aq⟩:=aq;replace aq:=aq.mg rfl;obtain⟨o12,o13,o14,o15,aq⟩:=aq;replace aq:=aq.dI rfl;obtain⟨o16,aq⟩:=aq;replace aq:=aq.dI rfl;obtain⟨o17,aq⟩:=aq;obtain rfl:=aq.nil;clear aq;replace hv4:o4=some _:=hv4;subst hv4;refine aj (aj (ah rfl (vQ 2 rfl (aa rfl (M6 hk rfl rfl rfl (e:=9) rfl) rfl (vQ 1 rfl (nT (aG rfl (fun h9=>?_) (fun h9=>?_))))))))
 ·refine aH (ad (aj (aM (aj (ah rfl (vQ 2 rfl ?_))))));obtain⟨x14,hx14,hi14⟩:=cm h9;refine MT (e:=9) (m:=1) hk hx14 rfl rfl rfl rfl (fun p14 vs14 hp14 hl14 hr14=>?_);obtain rfl:=hr14;refine aa rfl (M9 ar hp14 rfl rfl) rfl (vQ 2 rfl (nT (aG rfl (fun h17=>?_) (fun h17=>?_))))
  ·refine aj (ah rfl (vQ 1 rfl (nT (aC (aB (av (bk (aB (av (?_))))))))));exact ay rfl rfl ⟨cJ (by rw[show isKey s=true from By hx14 h17];rfl),ar.weaken (KP.bF _ _)⟩
  refine aH (aE (ad (ah rfl (vQ 3 rfl (af (aN ⟨j3-1,by omega,(by(iterate 27 refine oP rfl ?_);exact oR _ _),i+1,by omega,ub ha hx14 h17,cI (ba (by omega)),ar⟩))))))
 refine bn (aS (aV (aO (ad (aj (ah rfl (vQ 1 rfl (nT (aC ?_)))))))));exact ay rfl rfl ⟨cJ (by rw[show isKey s=false from kq ha (br h9)];rfl),ar.weaken (KP.bF _ _)⟩
theorem Js {s:List Nat} {σ:aD} {K:KP} {L:Own} (h:dk true s=false) (ar:St σ K L):∃m,AV.tuple [iZ,.bool false]= .tuple [.int .i64 m,.bool (bif dk true s then aX (fF s []) else false)]/\(fF s []=false->dk true s=true->m=bif isKey s then 2 else 1)/\St σ K L:=by
 rw[h];exact⟨_,rfl,(fun _ h=>by cases h),ar⟩
theorem JR {s:List Nat} {σ:aD} {K:KP} {L:Own} (h:fF s []=true) (ar:St σ K L):∃m,AV.tuple [iZ,.bool false]= .tuple [.int .i64 m,.bool (bif dk true s then aX (fF s []) else false)]/\(fF s []=false->dk true s=true->m=bif isKey s then 2 else 1)/\St σ K L:=by
 rw[h];exact⟨_,(by cases dk true s<;>rfl),(fun h=>by cases h),ar⟩
theorem JS {s:List Nat} {σ:aD} {K:KP} {L:Own} (hc:dk true s=true) (h:fF s []=false) (ar:St σ K L):∃m,AV.tuple [.int .i64 (bif isKey s then 2 else 1),.bool true]= .tuple [.int .i64 m,.bool (bif dk true s then aX (fF s []) else false)]/\(fF s []=false->dk true s=true->m=bif isKey s then 2 else 1)/\St σ K L:=by
 rw[h,hc];exact⟨_,rfl,fun _ _=>rfl,ar⟩
theorem H9 {G:Cx} (hG:Plain G) {K:KP} (s:List Nat) (hlen:s.length<=9223372036854775807) {σ:aD} {L:Own} (ar:St σ K L):bp Tryz.prog G 275 [.str s] σ fun v σ'=>∃m,v= .tuple [.int .i64 m,.bool (bif dk true s then aX (fF s []) else false)]/\(fF s []=false->dk true s=true->m=bif isKey s then 2 else 1)/\St σ' K L:=by
 refine bh hG Tryz.func275 rfl (t:=PT.leaf.put (some (.str s)) 0) (by rfl) (aj (ah rfl (vQ 2 rfl (nT (aj (aj (ah rfl (vQ 1 rfl (nT (aM ?_))))))))));obtain⟨LL1,ar,hLL1⟩:=ar.named;refine bg [2,3,4,5,6,7,8,9,10,11,12,13,14,15,16,17,18,19,20,21,22,23,24,25,26,27,28,29,30,31,32] (fun j t σ=>∃(i:Nat),j+i=cD s/\dk true s=dk (bq (.ofNat i) 0) (s.drop i)/\t.get 4=some (.int .i64 (.ofNat i))/\St σ K LL1) (cD s) ⟨0,rfl,rfl,rfl,ar⟩ ?_;clear ar;intro j2 t σ aq hI;obtain⟨i,hj,he,hv4,ar⟩:=hI;subst hLL1;obtain⟨o2,o3,o4,o5,o6,o7,o8,o9,o10,o11,o12,o13,o14,o15,o16,o17,aq⟩:=aq.L4 rfl rfl rfl rfl;replace aq:=aq.bR rfl rfl;obtain⟨o18,o19,o20,o21,o22,o23,o24,o25,aq⟩:=aq;replace aq:=aq.mg rfl;obtain⟨o26,o27,o28,o29,aq⟩:=aq;replace aq:=aq.dI rfl;obtain⟨o30,aq⟩:=aq;replace aq:=aq.dI rfl;obtain⟨o31,aq⟩:=aq;replace aq:=aq.dI rfl;obtain⟨o32,aq⟩:=aq;obtain rfl:=aq.nil;clear aq;replace hv4:o4=some _:=hv4;subst hv4;refine aj (aj (ah rfl (vQ 2 rfl (aa rfl (gk rfl rfl rfl (by kernel_rfl) rfl) rfl (vQ 1 rfl (nT (aG rfl (fun h8=>?_) (fun h8=>?_))))))))
 ·refine aH (ad (aj (aM (aj (ah rfl (vQ 2 rfl ?_))))));obtain⟨x13,hx13⟩:=bX (show i<s.length from by have:=bm h8;rwa[bz] at this);refine aa rfl (eM (by kernel_rfl) rfl rfl hx13) rfl (Ds rfl (MX rfl rfl rfl) (fun _=>rfl) (FR hG _ ar) (fun h14 σ ar=>?_) (fun h14 σ ar=>?_))
  ·refine aa rfl (cN rfl) rfl (vQ 17 rfl (nT (aI rfl (aH (aE (ad (ah rfl (vQ 3 rfl (af (aN ⟨j2-1,by have:=bm h8;omega,(by(iterate 60 refine oP rfl ?_);exact oR _ _),i+1,by have:=bm h8;omega,he.trans (qs hx13 (by unfold qY aX;simp only[h14,ct,cf]<;>rfl)),cI (ba (by have:=bm h8;rw[bz] at this;omega)),ar⟩))))))))))
  refine aa rfl (cN rfl) rfl (vQ 3 rfl (ky rfl (an rfl) (fun h19=>?_) (fun h19=>?_)))
  ·refine vQ 13 rfl (nT (aF rfl (aj (ah rfl (vQ 2 rfl (nT (aC (aB (av (bk (aB (av (?_)))))))))))));exact bE rfl rfl rfl (Js (he.trans (uj hx13 (by unfold qY aX;simp only[h14,h19,ct,cf]<;>rfl))) ar)
  refine vQ 2 rfl (aa rfl (eM (by kernel_rfl) rfl rfl hx13) rfl (Ds rfl (MX rfl rfl rfl) (fun _=>rfl) (Ia hG _ ar) (fun h23 σ ar=>?_) (fun h23 σ ar=>?_)))
  ·refine aa rfl (cN rfl) rfl (vQ 8 rfl (nT (aI rfl (aH (aE (ad (ah rfl (vQ 3 rfl (af (aN ⟨j2-1,by have:=bm h8;omega,(by(iterate 60 refine oP rfl ?_);exact oR _ _),i+1,by have:=bm h8;omega,he.trans (qs hx13 (by unfold qY aX;simp only[h14,h19,h23,ct,cf]<;>rfl)),cI (ba (by have:=bm h8;rw[bz] at this;omega)),ar⟩))))))))))
  refine aa rfl (cN rfl) rfl (vQ 3 rfl (aa rfl (eM (by kernel_rfl) rfl rfl hx13) rfl (vQ 4 rfl (nT (aG rfl (fun h32=>?_) (fun h32=>?_))))))
  ·refine aj (ah rfl (vQ 2 rfl (nT (aC (aB (av (bk (aB (av (?_))))))))));exact bE rfl rfl rfl (Js (he.trans (uj hx13 (by unfold qY aX;simp only[h14,h19,h23,h32,ct,cf]<;>rfl))) ar)
  refine aH (aE (ad (ah rfl (vQ 3 rfl (af (aN ⟨j2-1,by have:=bm h8;omega,(by(iterate 60 refine oP rfl ?_);exact oR _ _),i+1,by have:=bm h8;omega,he.trans (qs hx13 (by unfold qY aX;simp only[h14,h19,h23,h32,ct,cf]<;>rfl)),cI (ba (by have:=bm h8;rw[bz] at this;omega)),ar⟩))))))
 refine bn (aS (aV (aO (ad (aj (aj (ah rfl (vQ 2 rfl (nT (aG rfl (fun h34=>?_) (fun h34=>?_)))))))))))
 ·refine aj (ah rfl (vQ 2 rfl (nT (aC (av (?_))))));exact bE rfl rfl rfl (JR h34 ar)
 refine aH (ad (aj (ah rfl (vQ 1 rfl (bf rfl (MX rfl rfl rfl) (fun _=>rfl) (J1 hG _ ar) (fun σ ar=>?_))))));refine vQ 2 rfl (nT (aC ?_));exact bE rfl rfl rfl (JS (he.trans (Ei (by have:=br h8;rwa[bz] at this))) h34 ar)
theorem HA {s:List Nat} {m:Int} (h:(bif dk true s then aX (fF s []) else false)=true) (hm:fF s []=false->dk true s=true->m=bif isKey s then 2 else 1):bq m 1=jo s:=by
 have h1:dk true s=true:=by cases hc:dk true s with | true=>rfl | false=>rw[hc] at h;cases h
 have h2:fF s []=false:=by rw[h1] at h;exact Ll.1 h
 rw[hm h2 h1];unfold jo;rw[h1,h2];cases isKey s<;>rfl
theorem Jj {s:List Nat} (h:(bif dk true s then aX (fF s []) else false)=false):false=jo s:=by
 unfold jo;cases hc:dk true s with
 | false=>rfl
 | true=>
  rw[hc] at h;rw[show fF s []=true from MR.1 h];rfl
theorem JX {G:Cx} (hG:Plain G) {K:KP} (s:List Nat) (hlen:s.length<=9223372036854775807) {σ:aD} {L:Own} (ar:St σ K L):bp Tryz.prog G 261 [.str s] σ fun v σ'=>v= .bool (jo s)/\St σ' K L:=by
 refine bh hG Tryz.func261 rfl (t:=PT.leaf.put (some (.str s)) 0) (by rfl) (aj (ah rfl (vQ 1 rfl (nS rfl (vQ 1 rfl (dF rfl (MX rfl rfl rfl) (fun _=>rfl) (H9 hG _ hlen ar) ?_))))));rintro _ σ ⟨m,rfl,hm,ar⟩;refine vQ 5 rfl (nS rfl (vQ 1 rfl (ky rfl (an rfl) (fun h11=>?_) (fun h11=>?_))))
 ·refine vQ 4 rfl (nT (aC ?_));exact ay rfl rfl ⟨cB (HA h11 hm),ar⟩
 refine vQ 4 rfl (nT (aC ?_));exact ay rfl rfl ⟨cB (Jj h11),ar⟩
theorem J2 {G:Cx} (hG:Plain G) {K:KP}:∀(k:Nat) (x:XE) (vs:List AV),dV K k x vs->cw k x<=1000000->∀(σ:aD) (L:Own),St σ K L->bp Tryz.prog G 227 [.agg vs] σ fun v σ'=>v= .int .i64 (.ofNat (cw k x))/\St σ' K L:=by
 intro k;induction k with
 | zero=>intro x vs h;cases x;exact h.elim
 | succ k ih=>
 intro x vs hE hS σ L ar;obtain⟨op,num,name,kids⟩:=x;obtain⟨v,rfl,hk⟩:=hE;have hS:(kids.map (cw k)).sum+1<=1000000:=hS;refine bh hG Tryz.func227 rfl (t:=PT.leaf.put (some (.agg _)) 0) (by rfl) (aj (ah rfl (kp ar rfl (cK rfl rfl) (fun σ b1 ar=>?_))));refine vQ 1 rfl (nS rfl (vQ 1 rfl (nT (aj (aj (ah rfl (vQ 1 rfl (af (ad ?_)))))))));refine aM ?_;obtain⟨LL1,ar,hLL1⟩:=ar.named;refine bg [3,4,5,6,7,8,9,10,11,12,13,14,15,16,17,18,19] (fun j t σ=>∃(i m:Nat),j+i=kids.length/\m=((kids.take i).map (cw k)).sum+1/\t.get 3=some (.int .i64 (.ofNat m))/\t.get 4=some (.int .i64 (.ofNat i))/\St σ K LL1) (kids.length) ⟨0,1,rfl,rfl,rfl,rfl,ar⟩ ?_;clear ar;intro j3 t σ aq hI;obtain⟨i,m,hj,hm,hv3,hv4,ar⟩:=hI;subst hLL1;obtain⟨o3,o4,o5,o6,o7,o8,o9,o10,o11,o12,o13,o14,o15,o16,o17,o18,aq⟩:=aq.L4 rfl rfl rfl rfl;replace aq:=aq.dI rfl;obtain⟨o19,aq⟩:=aq;obtain rfl:=aq.nil;clear aq;replace hv3:o3=some _:=hv3;subst hv3;replace hv4:o4=some _:=hv4;subst hv4;refine aj (aj (ah rfl (vQ 1 rfl (aa rfl (MY 3 rfl) rfl (aa rfl (MZ rfl ar.g0 rfl) rfl (aa rfl (M6 hk rfl rfl rfl (e:=82) rfl) rfl (vQ 1 rfl (nT (aG rfl (fun h9=>?_) (fun h9=>?_))))))))))
 ·refine aH (ad (aj (aM (ah rfl (vQ 1 rfl (aa rfl (MY 3 rfl) rfl (aa rfl (MZ rfl ar.g0 rfl) rfl (vQ 1 rfl ?_))))))));obtain⟨x16,hx16,hi16⟩:=cm h9;have hz16:=kH (f:=cw k) hx16;have hy16:=CK (f:=cw k) (l:=kids) (i:=i+1);rw[rP hx16] at hy16;refine MT (e:=82) (m:=4) hk hx16 rfl rfl rfl rfl (fun p16 vs16 hp16 hl16 hr16=>?_);obtain⟨o16,n16,s16,v16,rfl,hk16⟩:=hr16.shape;refine aa rfl (Na ar hp16 rfl rfl) rfl (bf rfl (MX rfl rfl rfl) (fun _=>rfl) (ih _ _ hr16 (by omega) _ _ ar) (fun σ ar=>?_));refine vQ 2 rfl (af (aE (ad (ah rfl (vQ 3 rfl (af (aN ⟨j3-1,by omega,(by(iterate 34 refine oP rfl ?_);exact oR _ _),i+1,m+cw k x16,by omega,by rw[rP hx16];omega,cI (DX (by omega)),cI (ba (by have:=hk.bA;omega)),ar⟩)))))))
 refine bn (aS (aV (aO (ad (aj (ah rfl (vQ 2 rfl (nT (aC ?_)))))))));exact ay rfl rfl ⟨cJ (congrArg Int.ofNat (by show m=(kids.map (cw k)).sum+1;rw[hm,tL_ (br h9)])),ar.pop⟩
theorem JY {G:Cx} (hG:Plain G) {K:KP}:∀(k:Nat) (x:XE) (vs:List AV),dV K k x vs->cw k x<=1000000->∀(σ:aD) (L:Own),St σ K L->bp Tryz.prog G 228 [.agg vs] σ fun v σ'=>v= .int .i64 (.ofNat (fb k x))/\St σ' K L:=by
 intro k;induction k with
 | zero=>intro x vs h;cases x;exact h.elim
 | succ k ih=>
 intro x vs hE hS σ L ar;obtain⟨op,num,name,kids⟩:=x;obtain⟨v,rfl,hk⟩:=hE;have hS:(kids.map (cw k)).sum+1<=1000000:=hS;refine bh hG Tryz.func228 rfl (t:=PT.leaf.put (some (.agg _)) 0) (by rfl) (aj (ah rfl (kp ar rfl (cK rfl rfl) (fun σ b1 ar=>?_))));refine vQ 1 rfl (nS rfl (vQ 1 rfl (nT (aj (aj (ah rfl (vQ 1 rfl (af (ad ?_)))))))));refine aM ?_;obtain⟨LL1,ar,hLL1⟩:=ar.named;refine bg [3,4,5,6,7,8,9,10,11,12,13,14,15,16,17,18,19] (fun j t σ=>∃(i m:Nat),j+i=kids.length/\m=lF ((kids.take i).map (fb k))/\t.get 3=some (.int .i64 (.ofNat m))/\t.get 4=some (.int .i64 (.ofNat i))/\St σ K LL1) (kids.length) ⟨0,0,rfl,rfl,rfl,rfl,ar⟩ ?_;clear ar;intro j3 t σ aq hI;obtain⟨i,m,hj,hm,hv3,hv4,ar⟩:=hI;subst hLL1;obtain⟨o3,o4,o5,o6,o7,o8,o9,o10,o11,o12,o13,o14,o15,o16,o17,o18,aq⟩:=aq.L4 rfl rfl rfl rfl;replace aq:=aq.dI rfl;obtain⟨o19,aq⟩:=aq;obtain rfl:=aq.nil;clear aq;replace hv3:o3=some _:=hv3;subst hv3;replace hv4:o4=some _:=hv4;subst hv4;refine aj (aj (ah rfl (vQ 1 rfl (aa rfl (MY 3 rfl) rfl (aa rfl (MZ rfl ar.g0 rfl) rfl (aa rfl (M6 hk rfl rfl rfl (e:=82) rfl) rfl (vQ 1 rfl (nT (aG rfl (fun h9=>?_) (fun h9=>?_))))))))))
 ·refine aH (ad (aj (aM (ah rfl (vQ 1 rfl (aa rfl (MY 3 rfl) rfl (aa rfl (MZ rfl ar.g0 rfl) rfl (vQ 1 rfl ?_))))))));obtain⟨x16,hx16,hi16⟩:=cm h9;have hz16:=kH (f:=cw k) hx16;refine MT (e:=82) (m:=4) hk hx16 rfl rfl rfl rfl (fun p16 vs16 hp16 hl16 hr16=>?_);obtain⟨o16,n16,s16,v16,rfl,hk16⟩:=hr16.shape;refine aa rfl (Na ar hp16 rfl rfl) rfl (bf rfl (MX rfl rfl rfl) (fun _=>rfl) (ih _ _ hr16 (by omega) _ _ ar) (fun σ ar=>?_));refine aa rfl (JH rfl rfl rfl rfl) rfl (vQ 1 rfl (af (aE (ad (ah rfl (vQ 3 rfl (af (aN ⟨j3-1,by omega,(by(iterate 34 refine oP rfl ?_);exact oR _ _),i+1,max m (fb k x16),by omega,by rw[GH hx16,<-hm],cI (Dm _ _),cI (ba (by have:=hk.bA;omega)),ar⟩))))))))
 refine bn (aS (aV (aO (ad (aj (ah rfl (vQ 3 rfl (nT (aC ?_)))))))));exact ay rfl rfl ⟨cJ (by show wr .i64 (Int.add (.ofNat m) (.ofNat 1))= .ofNat (lF (kids.map (fb k))+1);rw[hm,tL_ (br h9)];exact DX (by have:=wT (k+1) (.mk op num name kids);have e:fb (k+1) (.mk op num name kids)=lF (kids.map (fb k))+1:=rfl;have e2:cw (k+1) (.mk op num name kids)=(kids.map (cw k)).sum+1:=rfl;omega)),ar.pop⟩
theorem FU {G:Cx} (hG:Plain G) {K:KP}:∀(k:Nat) (x:XE) (vs:List AV),dV K k x vs->hY k x->∀(σ:aD) (L:Own),St σ K L->bp Tryz.prog G 229 [.agg vs] σ fun v σ'=>v= .bool (dH k x)/\St σ' K L:=by
 intro k;induction k with
 | zero=>intro x vs h;cases x;exact h.elim
 | succ k ih=>
 intro x vs hE hF σ L ar;obtain⟨op,num,name,kids⟩:=x;obtain⟨v,rfl,hk⟩:=hE;refine bh hG Tryz.func229 rfl (t:=PT.leaf.put (some (.agg _)) 0) (by rfl) (aj (ah rfl (kp ar rfl (cK rfl rfl) (fun σ b1 ar=>?_))));refine vQ 1 rfl (nT (aj (aj (aU (l:=[(0,[]),(1,[]),(3,[]),(4,[]),(5,[]),(2,[4]),(6,[]),(7,[]),(8,[]),(9,[]),(10,[]),(11,[]),(12,[]),(13,[9]),(14,[]),(15,[]),(16,[]),(17,[]),(18,[]),(19,[]),(20,[]),(21,[]),(22,[]),(23,[]),(24,[]),(25,[]),(26,[]),(27,[]),(28,[]),(29,[]),(30,[]),(31,[]),(32,[]),(33,[]),(34,[]),(35,[]),(36,[]),(37,[]),(38,[]),(39,[]),(40,[])]) (by kernel_rfl) (by kernel_rfl) (al rfl rfl (MY 0 rfl) rfl (al rfl rfl (MZ rfl ar.g0 rfl) rfl (al rfl rfl (MY 3 rfl) rfl (al rfl rfl (MZ rfl ar.g0 rfl) rfl (al rfl rfl (M6 hk rfl rfl rfl (e:=82) rfl) rfl (cR rfl rfl (MX rfl rfl rfl) (fun _=>rfl) (J0 hG _ ar) (fun σ ar=>?_)))))))))));refine⟨(bW (dt rfl rfl rfl rfl rfl (MZ rfl ar.g0 rfl) hk.dQ) bc),?_⟩;refine wQ 1 rfl (dY rfl rfl (an rfl) (fun _=>rfl) (fun h11=>?_) (fun h11=>?_))
 ·refine wQ 5 rfl (sf rfl rfl rfl ⟨(bW (Hp rfl rfl) bc),?_⟩);refine wQ 27 rfl (aZ (ad (aF rfl (aj (ah rfl (vQ 1 rfl (nT (aC (av (?_))))))))));exact ay rfl rfl ⟨cB (by show _=(bif dv op num name kids.length then kids.all (dH k) else false);rw[show dv op num name kids.length=false from by unfold dv aX;simp only[h11,ct,cf]<;>rfl];rfl),ar.pop⟩
 refine al rfl rfl (MY 0 rfl) rfl (al rfl rfl (MZ rfl ar.g0 rfl) rfl (wQ 1 rfl (al rfl rfl (MY 2 rfl) rfl (al rfl rfl (MZ rfl ar.g0 rfl) rfl (cR rfl rfl (MX rfl rfl rfl) (fun _=>rfl) (JX hG _ hF.1 ar) (fun σ ar=>?_))))));refine⟨(bW (dt rfl rfl rfl rfl rfl (MZ rfl ar.g0 rfl) (nY _ _)) bc),?_⟩;refine wQ 2 rfl (dY rfl rfl (an rfl) (fun _=>rfl) (fun h20=>?_) (fun h20=>?_))
 ·refine wQ 24 rfl (aZ (ad (aF rfl (aj (ah rfl (vQ 1 rfl (nT (aC (av (?_))))))))));exact ay rfl rfl ⟨cB (by show _=(bif dv op num name kids.length then kids.all (dH k) else false);rw[show dv op num name kids.length=false from by unfold dv aX;simp only[h11,h20,ct,cf]<;>rfl];rfl),ar.pop⟩
 refine al rfl rfl (MY 0 rfl) rfl (al rfl rfl (MZ rfl ar.g0 rfl) rfl (wQ 1 rfl (dY rfl rfl (an rfl) (fun _=>rfl) (fun h24=>?_) (fun h24=>?_))))
 ·refine al rfl rfl (MY 2 rfl) rfl (al rfl rfl (MZ rfl ar.g0 rfl) rfl (wQ 3 rfl (dY rfl rfl (an rfl) (fun _=>rfl) (fun h30=>?_) (fun h30=>?_))))
  ·refine wQ 14 rfl (aZ (ad (aF rfl (aj (ah rfl (vQ 1 rfl (nT (aC (av (?_))))))))));exact ay rfl rfl ⟨cB (by show _=(bif dv op num name kids.length then kids.all (dH k) else false);rw[show dv op num name kids.length=false from by unfold dv aX;simp only[h11,h20,h24,show(bif fF name [] then false else true)=true from h30,ct,cf]<;>rfl];rfl),ar.pop⟩
  refine al rfl rfl (MY 1 rfl) rfl (al rfl rfl (MZ rfl ar.g0 rfl) rfl (wQ 2 rfl (dY rfl rfl (an rfl) (fun _=>rfl) (fun h35=>?_) (fun h35=>?_))))
  ·refine wQ 9 rfl (aZ (ad (aF rfl (aj (ah rfl (vQ 1 rfl (nT (aC (av (?_))))))))));exact ay rfl rfl ⟨cB (by show _=(bif dv op num name kids.length then kids.all (dH k) else false);rw[show dv op num name kids.length=false from by unfold dv aX;simp only[h11,h20,h24,show(bif fF name [] then false else true)=false from h30,h35,ct,cf]<;>rfl];rfl),ar.pop⟩
  refine al rfl rfl (MY 0 rfl) rfl (al rfl rfl (MZ rfl ar.g0 rfl) rfl (wQ 1 rfl (dY rfl rfl (an rfl) (fun _=>rfl) (fun h39=>?_) (fun h39=>?_))))
  ·refine al rfl rfl (MY 1 rfl) rfl (al rfl rfl (MZ rfl ar.g0 rfl) rfl (wQ 3 rfl (aZ (ad (aG rfl (fun h44=>?_) (fun h44=>?_))))))
   ·refine aj (ah rfl (vQ 1 rfl (nT (aC (av (?_))))));exact ay rfl rfl ⟨cB (by show _=(bif dv op num name kids.length then kids.all (dH k) else false);rw[show dv op num name kids.length=false from by unfold dv aX;simp only[h11,h20,h24,show(bif fF name [] then false else true)=false from h30,h35,h39,h44,ct,cf]<;>rfl];rfl),ar.pop⟩
   refine aH (ad (aj (aj (ah rfl (vQ 1 rfl (nT (aM ?_)))))));obtain⟨LL1,ar,hLL1⟩:=ar.named;refine bg [2,3,45,46,47,48,49,50,51,52,53,54,55,56,57,58] (fun j t σ=>∃(i:Nat),j+i=kids.length/\(kids.take i).all (dH k)=true/\t.get 3=some (.int .i64 (.ofNat i))/\St σ K LL1) (kids.length) ⟨0,rfl,rfl,rfl,ar⟩ ?_;clear ar;intro j4 t σ aq hI;obtain⟨i,hj,ha,hv3,ar⟩:=hI;subst hLL1;obtain⟨o2,o3,o45,o46,o47,o48,o49,o50,o51,o52,o53,o54,o55,o56,o57,o58,aq⟩:=aq.L4 rfl rfl rfl rfl;obtain rfl:=aq.nil;clear aq;replace hv3:o3=some _:=hv3;subst hv3;refine aj (aj (ah rfl (vQ 1 rfl (aa rfl (MY 3 rfl) rfl (aa rfl (MZ rfl ar.g0 rfl) rfl (aa rfl (M6 hk rfl rfl rfl (e:=82) rfl) rfl (vQ 1 rfl (nT (aG rfl (fun h49=>?_) (fun h49=>?_))))))))))
   ·refine aH (ad (aj (aM (aj (ah rfl (aa rfl (MY 3 rfl) rfl (aa rfl (MZ rfl ar.g0 rfl) rfl (vQ 1 rfl ?_))))))));obtain⟨x55,hx55,hi55⟩:=cm h49;refine MT (e:=82) (m:=4) hk hx55 rfl rfl rfl rfl (fun p55 vs55 hp55 hl55 hr55=>?_);obtain⟨o55,n55,s55,v55,rfl,hk55⟩:=hr55.shape;refine aa rfl (Na ar hp55 rfl rfl) rfl (bf rfl (MX rfl rfl rfl) (fun _=>rfl) (ih _ _ hr55 (hF.2 _ (gB_ hx55)) _ _ ar) (fun σ ar=>?_));refine aa rfl (cN rfl) rfl (nT (aG rfl (fun h58=>?_) (fun h58=>?_)))
    ·refine aj (ah rfl (vQ 1 rfl (nT (aC (aB (av (bk (aB (av (?_))))))))));exact ay rfl rfl ⟨cB (by show _=(bif dv op num name kids.length then kids.all (dH k) else false);rw[show dv op num name kids.length=true from by unfold dv aX;simp only[h11,h20,h24,show(bif fF name [] then false else true)=false from h30,h35,h39,h44,ct,cf]<;>rfl];rw[gp hx55 (bM h58)];rfl),ar.pop⟩
    refine aH (aE (ad (ah rfl (vQ 3 rfl (af (aN ⟨j4-1,by omega,(by(iterate 31 refine oP rfl ?_);exact oR _ _),i+1,by omega,eG ha hx55 (bx h58),cI (ba (by have:=hk.bA;omega)),ar⟩))))))
   refine bn (aS (aV (aO (ad (aj (ah rfl (vQ 1 rfl (nT (aC ?_)))))))));exact ay rfl rfl ⟨cB (by show _=(bif dv op num name kids.length then kids.all (dH k) else false);rw[show dv op num name kids.length=true from by unfold dv aX;simp only[h11,h20,h24,show(bif fF name [] then false else true)=false from h30,h35,h39,h44,ct,cf]<;>rfl];rw[dC ha (br h49)];rfl),ar.pop⟩
  refine wQ 5 rfl (aZ (ad (aI rfl (aH (ad (aj (aj (ah rfl (vQ 1 rfl (nT (aM ?_)))))))))));obtain⟨LL2,ar,hLL2⟩:=ar.named;refine bg [2,3,45,46,47,48,49,50,51,52,53,54,55,56,57,58] (fun j t σ=>∃(i:Nat),j+i=kids.length/\(kids.take i).all (dH k)=true/\t.get 3=some (.int .i64 (.ofNat i))/\St σ K LL2) (kids.length) ⟨0,rfl,rfl,rfl,ar⟩ ?_;clear ar;intro j4 t σ aq hI;obtain⟨i,hj,ha,hv3,ar⟩:=hI;subst hLL2;obtain⟨o2,o3,o45,o46,o47,o48,o49,o50,o51,o52,o53,o54,o55,o56,o57,o58,aq⟩:=aq.L4 rfl rfl rfl rfl;obtain rfl:=aq.nil;clear aq;replace hv3:o3=some _:=hv3;subst hv3;refine aj (aj (ah rfl (vQ 1 rfl (aa rfl (MY 3 rfl) rfl (aa rfl (MZ rfl ar.g0 rfl) rfl (aa rfl (M6 hk rfl rfl rfl (e:=82) rfl) rfl (vQ 1 rfl (nT (aG rfl (fun h49=>?_) (fun h49=>?_))))))))))
  ·refine aH (ad (aj (aM (aj (ah rfl (aa rfl (MY 3 rfl) rfl (aa rfl (MZ rfl ar.g0 rfl) rfl (vQ 1 rfl ?_))))))));obtain⟨x55,hx55,hi55⟩:=cm h49;refine MT (e:=82) (m:=4) hk hx55 rfl rfl rfl rfl (fun p55 vs55 hp55 hl55 hr55=>?_);obtain⟨o55,n55,s55,v55,rfl,hk55⟩:=hr55.shape;refine aa rfl (Na ar hp55 rfl rfl) rfl (bf rfl (MX rfl rfl rfl) (fun _=>rfl) (ih _ _ hr55 (hF.2 _ (gB_ hx55)) _ _ ar) (fun σ ar=>?_));refine aa rfl (cN rfl) rfl (nT (aG rfl (fun h58=>?_) (fun h58=>?_)))
   ·refine aj (ah rfl (vQ 1 rfl (nT (aC (aB (av (bk (aB (av (?_))))))))));exact ay rfl rfl ⟨cB (by show _=(bif dv op num name kids.length then kids.all (dH k) else false);rw[show dv op num name kids.length=true from by unfold dv aX;simp only[h11,h20,h24,show(bif fF name [] then false else true)=false from h30,h35,h39,ct,cf]<;>rfl];rw[gp hx55 (bM h58)];rfl),ar.pop⟩
   refine aH (aE (ad (ah rfl (vQ 3 rfl (af (aN ⟨j4-1,by omega,(by(iterate 31 refine oP rfl ?_);exact oR _ _),i+1,by omega,eG ha hx55 (bx h58),cI (ba (by have:=hk.bA;omega)),ar⟩))))))
  refine bn (aS (aV (aO (ad (aj (ah rfl (vQ 1 rfl (nT (aC ?_)))))))));exact ay rfl rfl ⟨cB (by show _=(bif dv op num name kids.length then kids.all (dH k) else false);rw[show dv op num name kids.length=true from by unfold dv aX;simp only[h11,h20,h24,show(bif fF name [] then false else true)=false from h30,h35,h39,ct,cf]<;>rfl];rw[dC ha (br h49)];rfl),ar.pop⟩
 refine wQ 6 rfl (al rfl rfl (MY 1 rfl) rfl (al rfl rfl (MZ rfl ar.g0 rfl) rfl (wQ 2 rfl (dY rfl rfl (an rfl) (fun _=>rfl) (fun h35=>?_) (fun h35=>?_)))))
 ·refine wQ 9 rfl (aZ (ad (aF rfl (aj (ah rfl (vQ 1 rfl (nT (aC (av (?_))))))))));exact ay rfl rfl ⟨cB (by show _=(bif dv op num name kids.length then kids.all (dH k) else false);rw[show dv op num name kids.length=false from by unfold dv aX;simp only[h11,h20,h24,h35,ct,cf]<;>rfl];rfl),ar.pop⟩
 refine al rfl rfl (MY 0 rfl) rfl (al rfl rfl (MZ rfl ar.g0 rfl) rfl (wQ 1 rfl (dY rfl rfl (an rfl) (fun _=>rfl) (fun h39=>?_) (fun h39=>?_))))
 ·refine al rfl rfl (MY 1 rfl) rfl (al rfl rfl (MZ rfl ar.g0 rfl) rfl (wQ 3 rfl (aZ (ad (aG rfl (fun h44=>?_) (fun h44=>?_))))))
  ·refine aj (ah rfl (vQ 1 rfl (nT (aC (av (?_))))));exact ay rfl rfl ⟨cB (by show _=(bif dv op num name kids.length then kids.all (dH k) else false);rw[show dv op num name kids.length=false from by unfold dv aX;simp only[h11,h20,h24,h35,h39,h44,ct,cf]<;>rfl];rfl),ar.pop⟩
  refine aH (ad (aj (aj (ah rfl (vQ 1 rfl (nT (aM ?_)))))));obtain⟨LL3,ar,hLL3⟩:=ar.named;refine bg [2,3,45,46,47,48,49,50,51,52,53,54,55,56,57,58] (fun j t σ=>∃(i:Nat),j+i=kids.length/\(kids.take i).all (dH k)=true/\t.get 3=some (.int .i64 (.ofNat i))/\St σ K LL3) (kids.length) ⟨0,rfl,rfl,rfl,ar⟩ ?_;clear ar;intro j4 t σ aq hI;obtain⟨i,hj,ha,hv3,ar⟩:=hI;subst hLL3;obtain⟨o2,o3,o45,o46,o47,o48,o49,o50,o51,o52,o53,o54,o55,o56,o57,o58,aq⟩:=aq.L4 rfl rfl rfl rfl;obtain rfl:=aq.nil;clear aq;replace hv3:o3=some _:=hv3;subst hv3;refine aj (aj (ah rfl (vQ 1 rfl (aa rfl (MY 3 rfl) rfl (aa rfl (MZ rfl ar.g0 rfl) rfl (aa rfl (M6 hk rfl rfl rfl (e:=82) rfl) rfl (vQ 1 rfl (nT (aG rfl (fun h49=>?_) (fun h49=>?_))))))))))
  ·refine aH (ad (aj (aM (aj (ah rfl (aa rfl (MY 3 rfl) rfl (aa rfl (MZ rfl ar.g0 rfl) rfl (vQ 1 rfl ?_))))))));obtain⟨x55,hx55,hi55⟩:=cm h49;refine MT (e:=82) (m:=4) hk hx55 rfl rfl rfl rfl (fun p55 vs55 hp55 hl55 hr55=>?_);obtain⟨o55,n55,s55,v55,rfl,hk55⟩:=hr55.shape;refine aa rfl (Na ar hp55 rfl rfl) rfl (bf rfl (MX rfl rfl rfl) (fun _=>rfl) (ih _ _ hr55 (hF.2 _ (gB_ hx55)) _ _ ar) (fun σ ar=>?_));refine aa rfl (cN rfl) rfl (nT (aG rfl (fun h58=>?_) (fun h58=>?_)))
   ·refine aj (ah rfl (vQ 1 rfl (nT (aC (aB (av (bk (aB (av (?_))))))))));exact ay rfl rfl ⟨cB (by show _=(bif dv op num name kids.length then kids.all (dH k) else false);rw[show dv op num name kids.length=true from by unfold dv aX;simp only[h11,h20,h24,h35,h39,h44,ct,cf]<;>rfl];rw[gp hx55 (bM h58)];rfl),ar.pop⟩
   refine aH (aE (ad (ah rfl (vQ 3 rfl (af (aN ⟨j4-1,by omega,(by(iterate 31 refine oP rfl ?_);exact oR _ _),i+1,by omega,eG ha hx55 (bx h58),cI (ba (by have:=hk.bA;omega)),ar⟩))))))
  refine bn (aS (aV (aO (ad (aj (ah rfl (vQ 1 rfl (nT (aC ?_)))))))));exact ay rfl rfl ⟨cB (by show _=(bif dv op num name kids.length then kids.all (dH k) else false);rw[show dv op num name kids.length=true from by unfold dv aX;simp only[h11,h20,h24,h35,h39,h44,ct,cf]<;>rfl];rw[dC ha (br h49)];rfl),ar.pop⟩
 refine wQ 5 rfl (aZ (ad (aI rfl (aH (ad (aj (aj (ah rfl (vQ 1 rfl (nT (aM ?_)))))))))));obtain⟨LL4,ar,hLL4⟩:=ar.named;refine bg [2,3,45,46,47,48,49,50,51,52,53,54,55,56,57,58] (fun j t σ=>∃(i:Nat),j+i=kids.length/\(kids.take i).all (dH k)=true/\t.get 3=some (.int .i64 (.ofNat i))/\St σ K LL4) (kids.length) ⟨0,rfl,rfl,rfl,ar⟩ ?_;clear ar;intro j4 t σ aq hI;obtain⟨i,hj,ha,hv3,ar⟩:=hI;subst hLL4;obtain⟨o2,o3,o45,o46,o47,o48,o49,o50,o51,o52,o53,o54,o55,o56,o57,o58,aq⟩:=aq.L4 rfl rfl rfl rfl;obtain rfl:=aq.nil;clear aq;replace hv3:o3=some _:=hv3;subst hv3;refine aj (aj (ah rfl (vQ 1 rfl (aa rfl (MY 3 rfl) rfl (aa rfl (MZ rfl ar.g0 rfl) rfl (aa rfl (M6 hk rfl rfl rfl (e:=82) rfl) rfl (vQ 1 rfl (nT (aG rfl (fun h49=>?_) (fun h49=>?_))))))))))
 ·refine aH (ad (aj (aM (aj (ah rfl (aa rfl (MY 3 rfl) rfl (aa rfl (MZ rfl ar.g0 rfl) rfl (vQ 1 rfl ?_))))))));obtain⟨x55,hx55,hi55⟩:=cm h49;refine MT (e:=82) (m:=4) hk hx55 rfl rfl rfl rfl (fun p55 vs55 hp55 hl55 hr55=>?_);obtain⟨o55,n55,s55,v55,rfl,hk55⟩:=hr55.shape;refine aa rfl (Na ar hp55 rfl rfl) rfl (bf rfl (MX rfl rfl rfl) (fun _=>rfl) (ih _ _ hr55 (hF.2 _ (gB_ hx55)) _ _ ar) (fun σ ar=>?_));refine aa rfl (cN rfl) rfl (nT (aG rfl (fun h58=>?_) (fun h58=>?_)))
  ·refine aj (ah rfl (vQ 1 rfl (nT (aC (aB (av (bk (aB (av (?_))))))))));exact ay rfl rfl ⟨cB (by show _=(bif dv op num name kids.length then kids.all (dH k) else false);rw[show dv op num name kids.length=true from by unfold dv aX;simp only[h11,h20,h24,h35,h39,ct,cf]<;>rfl];rw[gp hx55 (bM h58)];rfl),ar.pop⟩
  refine aH (aE (ad (ah rfl (vQ 3 rfl (af (aN ⟨j4-1,by omega,(by(iterate 31 refine oP rfl ?_);exact oR _ _),i+1,by omega,eG ha hx55 (bx h58),cI (ba (by have:=hk.bA;omega)),ar⟩))))))
 refine bn (aS (aV (aO (ad (aj (ah rfl (vQ 1 rfl (nT (aC ?_)))))))));exact ay rfl rfl ⟨cB (by show _=(bif dv op num name kids.length then kids.all (dH k) else false);rw[show dv op num name kids.length=true from by unfold dv aX;simp only[h11,h20,h24,h35,h39,ct,cf]<;>rfl];rw[dC ha (br h49)];rfl),ar.pop⟩
theorem sY {G:Cx} (hG:Plain G) {K:KP} {k:Nat} {x:XE} {vs:List AV} (hE:dV K k x vs) (hF:hY k x) (hS:cw k x<=1000000) {σ:aD} {L:Own} (ar:St σ K L):bp Tryz.prog G 169 [.agg vs] σ fun v σ'=>v= .int .i64 (nc k x)/\St σ' K L:=by
 obtain⟨o0,n0,s0,v0,rfl,hk⟩:=hE.shape;have l1:∀{a b:Nat},bG (.ofNat b) (.ofNat a)=Nat.blt b a:=fun {a b}=>by rw[Bool.eq_iff_iff,Ju,Nat.blt_eq];exact Int.ofNat_lt
 refine bh hG Tryz.func169 rfl (t:=PT.leaf.put (some (.agg _)) 0) (by rfl) (aj (ah rfl (kp ar rfl (cK rfl rfl) (fun σ b1 ar=>?_))));refine vQ 1 rfl (nT (aj (aj (ah rfl (aa rfl (M5 rfl ar.g0 (n:=4) (vs:=[_,_,_,_]) rfl) rfl (bf rfl (MX rfl rfl rfl) (fun _=>rfl) (J2 hG _ _ _ hE hS _ _ ar) (fun σ ar=>?_)))))));refine vQ 1 rfl (ky rfl (an rfl) (fun h6=>?_) (fun h6=>?_))
 ·refine vQ 4 rfl (nT (aF rfl (aj (ah rfl (vQ 1 rfl (nT (aC (av (?_)))))))));exact ay rfl rfl ⟨cJ (by unfold nc fT;rw[<-l1 (a:=cw k x),show bG (.ofNat 2000) (.ofNat (cw k x))=true from h6]<;>rfl),ar.pop⟩
 refine aa rfl (M5 rfl ar.g0 (n:=4) (vs:=[_,_,_,_]) rfl) rfl (bf rfl (MX rfl rfl rfl) (fun _=>rfl) (JY hG _ _ _ hE hS _ _ ar) (fun σ ar=>?_));refine vQ 2 rfl (nT (aG rfl (fun h10=>?_) (fun h10=>?_)))
 ·refine aj (ah rfl (vQ 1 rfl (nT (aC (av (?_))))));exact ay rfl rfl ⟨cJ (by unfold nc fT;rw[<-l1 (a:=cw k x),<-l1 (a:=fb k x),show bG (.ofNat 2000) (.ofNat (cw k x))=false from h6,show bG (.ofNat 32) (.ofNat (fb k x))=true from h10]<;>rfl),ar.pop⟩
 refine aH (ad (aj (aj (ah rfl (aa rfl (M5 rfl ar.g0 (n:=4) (vs:=[_,_,_,_]) rfl) rfl (bf rfl (MX rfl rfl rfl) (fun _=>rfl) (FU hG _ _ _ hE hF _ _ ar) (fun σ ar=>?_)))))));refine aa rfl (cN rfl) rfl (nT (aG rfl (fun h13=>?_) (fun h13=>?_)))
 ·refine aj (ah rfl (vQ 1 rfl (nT (aC (av (?_))))));exact ay rfl rfl ⟨cJ (by unfold nc fT;rw[<-l1 (a:=cw k x),<-l1 (a:=fb k x),show bG (.ofNat 2000) (.ofNat (cw k x))=false from h6,show bG (.ofNat 32) (.ofNat (fb k x))=false from h10,show dH k x=false from bM h13]<;>rfl),ar.pop⟩
 refine aH (ad (aj (ah rfl (vQ 1 rfl (nT (aC ?_))))));exact ay rfl rfl ⟨cJ (by unfold nc fT;rw[<-l1 (a:=cw k x),<-l1 (a:=fb k x),show bG (.ofNat 2000) (.ofNat (cw k x))=false from h6,show bG (.ofNat 32) (.ofNat (fb k x))=false from h10,show dH k x=true from bx h13]<;>rfl),ar.pop⟩
theorem C7 {c m:Nat} (h:48<=c/\c<=57) (hm:m<=100000):wr .i64 (Int.add (wr .i64 (Int.mul (.ofNat m) (.ofNat 10))) (wr .i64 (wr .u8 (Int.sub (.ofNat c) (.ofNat 48)))))= .ofNat (10*m+(c-48)):=FZ h hm
theorem FP {G:Cx} (hG:Plain G) {K:KP} (s:List Nat) {σ:aD} {L:Own} (ar:St σ K L):bp Tryz.prog G 235 [.str s] σ fun v σ'=>v= .int .i64 (iT s)/\St σ' K L:=by
 refine bh hG Tryz.func235 rfl (t:=PT.leaf.put (some (.str s)) 0) (by rfl) (aj (ah rfl (vQ 1 rfl (nT (aj (aj (ah rfl (vQ 2 rfl (ky rfl (an rfl) (fun h7=>?_) (fun h7=>?_))))))))))
 ·refine vQ 14 rfl (nT (aF rfl (aj (ah rfl (vQ 1 rfl (nT (aC (av (?_)))))))));exact ay rfl rfl ⟨cJ (by unfold iT;rw[pw (.inl (by rw[show s= [] from uA h7];rfl))]),ar⟩
 refine vQ 1 rfl (aa rfl (gk rfl rfl rfl (by kernel_rfl) rfl) rfl (vQ 2 rfl (ky rfl (an rfl) (fun h12=>?_) (fun h12=>?_))))
 ·refine vQ 9 rfl (nT (aF rfl (aj (ah rfl (vQ 1 rfl (nT (aC (av (?_)))))))));exact ay rfl rfl ⟨cJ (by unfold iT;rw[pw (.inr (.inl (by rw[<-bz];exact bm (a:=4) h12)))]),ar⟩
 refine vQ 1 rfl (aa rfl (gk rfl rfl rfl (by kernel_rfl) rfl) rfl (vQ 1 rfl (ky rfl (an rfl) (fun h16=>?_) (fun h16=>?_))))
 ·refine vQ 1 rfl ?_;obtain⟨x18,hx18⟩:=bX (show 0<s.length from by have:=bm (a:=1) h16;rw[bz] at this;omega);refine aa rfl (eM (by kernel_rfl) rfl rfl hx18) rfl (vQ 3 rfl (nT (aG rfl (fun h21=>?_) (fun h21=>?_))))
  ·refine aj (ah rfl (vQ 1 rfl (nT (aC (av (?_))))));exact ay rfl rfl ⟨cJ (by unfold iT;rw[pw (.inr (.inr ⟨by rw[<-bz];exact bm (a:=1) h16,by rw[hx18];exact congrArg some (iJ_ (eqv h21))⟩))]),ar⟩
  refine aH (ad (aj (ah rfl ?_)));have hl4:cD s<=4:=br (a:=4) h12
  have hne:¬(s.length=0∨4<s.length∨(1<s.length/\s[0]?=some 48)):=by
   have hl4:=hl4;rw[bz] at hl4;have h9z:s.length≠0:=fun e=>by rw[eN_ e] at h7;cases h7
   rintro (e | e | ⟨_,e⟩)
   ·exact h9z e
   ·omega
   rw[hx18] at e;cases e;cases h21
  refine vQ 1 rfl (nT (aj (aj (ah rfl (vQ 1 rfl (nT (aM ?_)))))));obtain⟨LL1,ar,hLL1⟩:=ar.named;refine bg [2,3,4,22,23,24,25,26,27,28,29,30,31,32,33,34,35,36,37,38,39,40,41,42,43,44,45] (fun j t σ=>∃(i m:Nat),j+i=cD s/\mf s 0=mf (s.drop i) m/\m<10 ^ i/\i<=4/\t.get 3=some (.int .i64 (.ofNat m))/\t.get 4=some (.int .i64 (.ofNat i))/\St σ K LL1) (cD s) ⟨0,0,rfl,rfl,Nat.one_pos,Nat.zero_le _,rfl,rfl,ar⟩ ?_;clear ar;intro j5 t σ aq hI;obtain⟨i,m,hj,he,hm,hi4,hv3,hv4,ar⟩:=hI;subst hLL1;obtain⟨o2,o3,o4,o22,o23,o24,o25,o26,o27,o28,o29,o30,o31,o32,o33,o34,aq⟩:=aq.L4 rfl rfl rfl rfl;replace aq:=aq.bR rfl rfl;obtain⟨o35,o36,o37,o38,o39,o40,o41,o42,aq⟩:=aq;replace aq:=aq.dI rfl;obtain⟨o43,aq⟩:=aq;replace aq:=aq.dI rfl;obtain⟨o44,aq⟩:=aq;replace aq:=aq.dI rfl;obtain⟨o45,aq⟩:=aq;obtain rfl:=aq.nil;clear aq;replace hv3:o3=some _:=hv3;subst hv3;replace hv4:o4=some _:=hv4;subst hv4;refine aj (aj (ah rfl (vQ 2 rfl (aa rfl (gk rfl rfl rfl (by kernel_rfl) rfl) rfl (vQ 1 rfl (nT (aG rfl (fun h25=>?_) (fun h25=>?_))))))))
  ·refine aH (ad (aj (aM (aj (aj (ah rfl (vQ 2 rfl ?_)))))));obtain⟨x30,hx30⟩:=bX (show i<s.length from by have:=bm h25;rwa[bz] at this);refine aa rfl (eM (by kernel_rfl) rfl rfl hx30) rfl (vQ 1 rfl (ky rfl (an rfl) (fun h32=>?_) (fun h32=>?_)))
   ·refine vQ 5 rfl (nT (aF rfl (aj (ah rfl (vQ 1 rfl (nT (aC (av (aB (av (bk (aB (av (?_))))))))))))));exact ay rfl rfl ⟨cJ (by unfold iT;rw[gj hne,he,kz hx30 (yH h32)]),ar⟩
   refine vQ 2 rfl (aa rfl (eM (by kernel_rfl) rfl rfl hx30) rfl (vQ 2 rfl (nT (aG rfl (fun h37=>?_) (fun h37=>?_)))))
   ·refine aj (ah rfl (vQ 1 rfl (nT (aC (av (aB (av (bk (aB (av (?_)))))))))));exact ay rfl rfl ⟨cJ (by unfold iT;rw[gj hne,he,kz hx30 (yG h37)]),ar⟩
   refine aH (ad (ah rfl (vQ 4 rfl (aa rfl (eM (by kernel_rfl) rfl rfl hx30) rfl (vQ 1 rfl ?_)))));refine aa rfl (dN (j:=.u8) (k:=.i64) (by kernel_rfl) (by kernel_rfl) (by kernel_rfl) rfl) rfl ?_;refine vQ 2 rfl (af (aE (ad (ah rfl (vQ 3 rfl (af (aN ⟨j5-1,by have:=bm h25;omega,(by(iterate 53 refine oP rfl ?_);exact oR _ _),i+1,10*m+(x30-48),by have:=bm h25;omega,he.trans (oa hx30 (iB h32 h37)),by have:=iB h32 h37;rw[Nat.pow_succ];omega,by have:=bm h25;have:=hl4;omega,cI (C7 (iB h32 h37) (by have:=vy i hi4;omega)),cI (ba (by omega)),ar⟩)))))))
  refine bn (aS (aV (aO (ad (aj (ah rfl (vQ 2 rfl (nT (aC ?_)))))))));exact ay rfl rfl ⟨cJ (by unfold iT;rw[gj hne,he,n9 (by have:=br h25;rwa[bz] at this)]),ar⟩
 refine vQ 5 rfl (nT (aI rfl (aH (ad (aj (ah rfl ?_))))));have hl4:cD s<=4:=br (a:=4) h12
 have hne:¬(s.length=0∨4<s.length∨(1<s.length/\s[0]?=some 48)):=by
  have hl4:=hl4;rw[bz] at hl4;have h9z:s.length≠0:=fun e=>by rw[eN_ e] at h7;cases h7
  have h18z:¬(1<s.length):=by have:=br (a:=1) h16;rw[bz] at this;omega
  omega
 refine vQ 1 rfl (nT (aj (aj (ah rfl (vQ 1 rfl (nT (aM ?_)))))));obtain⟨LL2,ar,hLL2⟩:=ar.named;refine bg [2,3,4,22,23,24,25,26,27,28,29,30,31,32,33,34,35,36,37,38,39,40,41,42,43,44,45] (fun j t σ=>∃(i m:Nat),j+i=cD s/\mf s 0=mf (s.drop i) m/\m<10 ^ i/\i<=4/\t.get 3=some (.int .i64 (.ofNat m))/\t.get 4=some (.int .i64 (.ofNat i))/\St σ K LL2) (cD s) ⟨0,0,rfl,rfl,Nat.one_pos,Nat.zero_le _,rfl,rfl,ar⟩ ?_;clear ar;intro j5 t σ aq hI;obtain⟨i,m,hj,he,hm,hi4,hv3,hv4,ar⟩:=hI;subst hLL2;obtain⟨o2,o3,o4,o22,o23,o24,o25,o26,o27,o28,o29,o30,o31,o32,o33,o34,aq⟩:=aq.L4 rfl rfl rfl rfl;replace aq:=aq.bR rfl rfl;obtain⟨o35,o36,o37,o38,o39,o40,o41,o42,aq⟩:=aq;replace aq:=aq.dI rfl;obtain⟨o43,aq⟩:=aq;replace aq:=aq.dI rfl;obtain⟨o44,aq⟩:=aq;replace aq:=aq.dI rfl;obtain⟨o45,aq⟩:=aq;obtain rfl:=aq.nil;clear aq;replace hv3:o3=some _:=hv3;subst hv3;replace hv4:o4=some _:=hv4;subst hv4;refine aj (aj (ah rfl (vQ 2 rfl (aa rfl (gk rfl rfl rfl (by kernel_rfl) rfl) rfl (vQ 1 rfl (nT (aG rfl (fun h25=>?_) (fun h25=>?_))))))))
 ·refine aH (ad (aj (aM (aj (aj (ah rfl (vQ 2 rfl ?_)))))));obtain⟨x30,hx30⟩:=bX (show i<s.length from by have:=bm h25;rwa[bz] at this);refine aa rfl (eM (by kernel_rfl) rfl rfl hx30) rfl (vQ 1 rfl (ky rfl (an rfl) (fun h32=>?_) (fun h32=>?_)))
  ·refine vQ 5 rfl (nT (aF rfl (aj (ah rfl (vQ 1 rfl (nT (aC (av (aB (av (bk (aB (av (?_))))))))))))));exact ay rfl rfl ⟨cJ (by unfold iT;rw[gj hne,he,kz hx30 (yH h32)]),ar⟩
  refine vQ 2 rfl (aa rfl (eM (by kernel_rfl) rfl rfl hx30) rfl (vQ 2 rfl (nT (aG rfl (fun h37=>?_) (fun h37=>?_)))))
  ·refine aj (ah rfl (vQ 1 rfl (nT (aC (av (aB (av (bk (aB (av (?_)))))))))));exact ay rfl rfl ⟨cJ (by unfold iT;rw[gj hne,he,kz hx30 (yG h37)]),ar⟩
  refine aH (ad (ah rfl (vQ 4 rfl (aa rfl (eM (by kernel_rfl) rfl rfl hx30) rfl (vQ 1 rfl ?_)))));refine aa rfl (dN (j:=.u8) (k:=.i64) (by kernel_rfl) (by kernel_rfl) (by kernel_rfl) rfl) rfl ?_;refine vQ 2 rfl (af (aE (ad (ah rfl (vQ 3 rfl (af (aN ⟨j5-1,by have:=bm h25;omega,(by(iterate 53 refine oP rfl ?_);exact oR _ _),i+1,10*m+(x30-48),by have:=bm h25;omega,he.trans (oa hx30 (iB h32 h37)),by have:=iB h32 h37;rw[Nat.pow_succ];omega,by have:=bm h25;have:=hl4;omega,cI (C7 (iB h32 h37) (by have:=vy i hi4;omega)),cI (ba (by omega)),ar⟩)))))))
 refine bn (aS (aV (aO (ad (aj (ah rfl (vQ 2 rfl (nT (aC ?_)))))))));exact ay rfl rfl ⟨cJ (by unfold iT;rw[gj hne,he,n9 (by have:=br h25;rwa[bz] at this)]),ar⟩
end Go.Ev
end
