/- Part of the proof: rules and walks. No conditions. -/
import Derived.Test.YtjnonkhfgnihfaaGreatDoorEa
import Derived.OrdersIn
import Derived.Sort.LoopGhostIn
import Derived.Scope
import Derived.ProofKit
import Derived.LaidSub
import Derived.KernelRfl
import Derived.Test.YtjnonkhfgnihfaaGreatDoorProg
set_option linter.unusedSectionVars false
set_option linter.unusedVariables false
set_option linter.unusedSimpArgs false
noncomputable section
open Nat (beq_refl ble blt land lor succ_mul zero_mul)
open List (drop_eq_nil_of_le drop_take drop_zero flatten_cons mapM_cons map_cons range replicate take_length)
open Option (bind_eq_bind bind_eq_some_iff map_some pure_def)
set_option maxRecDepth 4000
namespace Go.Ev
variable [Env]
variable {α:Type} {ops:Array z_} {j:Nat} {P:q6} {V:aF}
theorem Ke {ev:q_->Option U} {V':aF} {op:Op} {v:U} (he:∀b o,V.m.get b=some o->V'.m.get b=some o) (h:ie P ev V op=some v):ie P ev V' op=some v:=by
 cases op with
 | load t x=>
  grind [ie]
 | lookup t x i ok=>
  simp only[ie] at h⊢
  grind
 | call c=>
  grind [ie]
 | _=>exact h
theorem sI {i:Nat}:waits ops i j=true↔∃o,ops[i]? =some o/\∃e∈o.after,Region.binds .any e=true/\e.on=j:=by
 unfold waits;cases h:ops[i]? with
 | none=>simp
 | some o=>
  simp only[map_some,Option.getD_some,oJ_,exists_eq_left',bA_,beq_iff_eq,Array.any_iff_exists];constructor
  ·grind
  rintro ⟨e,he,h1⟩;obtain⟨q,hq,rfl⟩:=Array.getElem_of_mem he
  grind
structure Shape (P:q6) (ops:Array z_) (A:Array Nat):Prop where
 dep:∀i j,waits ops i j=true->j<ops.size
 tz:∀i j,i<ops.size->j<ops.size->tz A i j=true->waits ops i j=true∨∃d,waits ops i d=true/\Ev.tz A d j=true
 uniq:∀i j k,fG ops i=some k->fG ops j=some k->i=j
 look:∀(i:Nat) (o:z_) (j k:Nat),ops[i]? =some o->fG ops j=some k->k∈slotsOf ops o->Ev.tz A i j=true∨(gO P ops i=false/\(j=i∨Ev.tz A j i=true))
 dst:∀(i:Nat) (o:z_),ops[i]? =some o->gO P ops i=true->∃k,o.dst=some k
theorem mZ {i k:Nat} (h:fG ops i=some k):i<ops.size:=by
 grind [fG]
theorem jt {i:Nat} {o:z_} (h:ops[i]? =some o):fG ops i=o.dst:=by simp[fG,h]
theorem kF (m i:Nat):hasB m i=m.testBit i:=by
 rw[Nat.testBit_eq_decide_div_mod_eq];show Nat.beq ((m >>> i) &&& 1) 1=_
 grind [Nat.shiftRight_eq_div_pow,Nat.beq]
theorem Sc (w:Nat):Nat.beq (land w 1) 1=w.testBit 0:=by
 have:=kF w 0;exact this
theorem wG (i j:Nat):(bit i).testBit j=decide (i=j):=by
 show(1 <<< i).testBit j=_;rw[Nat.one_shiftLeft,Nat.testBit_two_pow]
theorem n8 (m k j:Nat):(lor m k).testBit j=(m.testBit j || k.testBit j):=Nat.testBit_or m k j
theorem lr {j:Nat}:∀{l:List Nat},(oG l).testBit j=true↔j∈l
 | []=>by simp[oG]
 | i::l=>by
  show(lor (bit i)<|oG l).testBit j=true↔_;rw[n8,wG,Bool.or_eq_true,lr,mQ_,decide_eq_true_eq]
  grind
theorem BR {m k:Nat} (h:Dg m k=true) (j:Nat) (hj:m.testBit j=true):k.testBit j=true:=by
 have e:m &&& k=m:=nB h
 grind
theorem Hx {m k:Nat} (h:Dg m k=false):∃j,m.testBit j=true/\k.testBit j=false:=by
 apply zo_;intro hn
 have e:m &&& k=m:=Nat.eq_of_testBit_eq fun j=>by
  simp_all
 have:Dg m k=true:=by
  show Nat.beq (m &&& k) m=true
  simp_all
 simp_all
theorem tk {j:Nat}:∀{L:List RA} {w:Nat},(zw L w).testBit j=true->∃d x,L[d]? =some x/\w.testBit d=true/\x.a.testBit j=true
 | [],w,h=>by simp[zw] at h
 | x::L,w,h=>by
  have h':(lor (@Bool.rec (fun _=>Nat) 0 x.a<|Nat.beq (land w 1) 1)<|zw L<|w >>> 1).testBit j=true:=h;rw[n8,Bool.or_eq_true,Sc] at h';rcases h' with h' | h'
  ·cases hw:w.testBit 0 with
   | true=>rw[hw] at h';exact⟨0,x,Z,hw,h'⟩
   | false=>
    rw[hw] at h';have h'':(0:Nat).testBit j=true:=h';simp at h''
  obtain⟨d,y,h1,u,h3⟩:=tk h';rw[Nat.testBit_shiftRight] at u;exact⟨d+1,y,by simpa using h1,by rw[Nat.add_comm];exact u,h3⟩
theorem ud:∀(rows:List Row) (L:List RA),(Nt rows L).map (·.r)=L.map (·.r)++rows
 | [],L=>by show L.map (·.r)=_;simp
 | r::rows,L=>by
  show(Nt rows<|iw L [⟨r,lor r.w<|zw L r.w⟩]).map (·.r)=_
  rw[ud rows,eD];simp
theorem C6 {i:Nat} {o:z_} (h:ops[i]? =some o):∃x,(ka P ops)[i]? =some x/\x.r=zU P ops o:=by
 have e:=ud (Ap (zU P ops) ops.toList) [];rw[mG] at e
 have e':((ka P ops).map (·.r))[i]? =some (zU P ops o):=by
  unfold ka;rw[mG,e];simp[h]
 simp_all
theorem Nu {i:Nat} {x:RA} (h:(ka P ops)[i]? =some x):∃o,ops[i]? =some o/\x.r=zU P ops o:=by
 have e:=ud (Ap (zU P ops) ops.toList) [];rw[mG] at e
 have e':((ka P ops).map (·.r))[i]? =ops[i]?.map (zU P ops):=by
  unfold ka;rw[mG,e];simp
 grind
theorem Fo {i:Nat} {o:z_} (h:ops[i]? =some o):(zU P ops o).w.testBit j=true↔waits ops i j=true:=by
 rw[sI];show(oG _).testBit j=true↔_;rw[lr,List.mem_filterMap]
 simp_all
theorem AA {α:Type} {f:Nat->α->Bool}:∀{l:List α} {i:Nat},allI f l i=true->∀(j:Nat) (x:α),l[j]? =some x->f (i+j) x=true
 | [],i,_,j,x,hx=>by simp at hx
 | y::l,i,h,j,x,hx=>by
  have h': @Bool.rec (fun _=>Bool) false (allI f l (i+1)) (f i y)=true:=h;cases hf:f i y with
  | false=>rw[hf] at h';cases h'
  | true=>
   rw[hf] at h';cases j with
   | zero=>simp at hx;subst hx;exact hf
   | succ j=>
    have:=AA h' j x (by simpa using hx);rw[show i+(j+1)=i+1+j by omega];exact this
theorem rU {f:Nat->α->Bool} {l:List α} (h:allI f l 0=true) (j:Nat) (x:α) (hx:l[j]? =some x):f j x=true:=by
 have:=AA h j x hx
 simp_all
theorem mV {a b:Bool} (h:(bif a then b else false)=true):a=true/\b=true:=by cases a<;>simp_all
def Ce (P:q6) (ops:Array z_):Array Nat:=((ka P ops).map (·.a)).toArray
theorem uA {i:Nat} {x:RA} (h:(ka P ops)[i]? =some x):tz (Ce P ops) i j=x.a.testBit j:=by
 unfold tz Ce
 simp_all
theorem Eu {i:Nat} {o:z_} (h:ops[i]? =some o):kH P ops i=(zU P ops o).h:=by unfold kH;rw[h];rfl
theorem zj {i:Nat} {o:z_} (h:ops[i]? =some o):gO P ops i=(zU P ops o).k:=by unfold gO;rw[h];rfl
theorem Hc {i:Nat} {x y:RA} (h:Nj i x j y=true) (u:y.r.dm=oG y.r.d.toList):E5 i x j y=true:=by
 unfold Nj at h;cases hb:Nat.beq (land (lor x.r.dm x.r.s) y.r.dm) 0 with
 | false=>rw[hb] at h;exact h
 | true=>
  have e:(x.r.dm ||| x.r.s) &&& y.r.dm=0:=nB hb;unfold E5;cases w:y.r.d with
  | none=>rfl
  | some k=>
   have hk:y.r.dm.testBit k=true:=by rw[u,w];exact lr.2 (by simp)
   have h0:((x.r.dm ||| x.r.s) &&& y.r.dm).testBit k=false:=by simp_all
   rw[Nat.testBit_and,hk,Bool.and_true,Nat.testBit_or,Bool.or_eq_false_iff] at h0
   grind [kF]
theorem NP (h:NO (ka P ops) ops.size=true):Shape P ops (Ce P ops):=by
 have key:∀i o,ops[i]? =some o->∃x,(ka P ops)[i]? =some x/\x.r=zU P ops o/\x.r.w<2 ^ ops.size/\(x.r.k=true->x.r.d.isSome=true)/\Dg x.a (lor x.r.w<|zw (ka P ops) x.r.w)=true/\
   ∀j y,(ka P ops)[j]? =some y->E5 i x j y=true:=by
  intro i o u;obtain⟨x,hx,hr⟩:=C6 (P:=P) u;have h1:=rU h i x hx;obtain⟨S,h1⟩:=mV h1;obtain⟨k2,h1⟩:=mV h1;obtain⟨T,h1⟩:=mV h1;refine⟨x,hx,hr,?_,fun hk=>?_,T,fun j y A=>Hc (rU h1 j y A) (by obtain⟨o',_,B⟩:=Nu A;rw[B];rfl)⟩
  ·rw[xF] at S;have:bit ops.size=2 ^ ops.size:=Nat.one_shiftLeft _;omega
  simp_all
 have pair:∀i o j o' k,ops[i]? =some o->ops[j]? =some o'->o'.dst=some k->(o.dst=some k->j=i)/\(k∈slotsOf ops o->tz (Ce P ops) i j=true∨(gO P ops i=false/\(j=i∨tz (Ce P ops) j i=true))):=by
  intro i o j o' k u E hk;obtain⟨x,hx,hr,_,_,_,hp⟩:=key i o u;obtain⟨y,A,B⟩:=C6 (P:=P) E;have h1:=hp j y A;unfold E5 at h1;have G:y.r.d=some k:=by rw[B];exact hk
  rw[G] at h1;have K:(bif (bif hasB x.r.dm k then Nat.beq j i else true) then(bif hasB x.r.s k then(bif hasB x.a j then true else(bif x.r.k then false else(bif Nat.beq j i then true else hasB y.a i))) else true) else false)=true:=h1;obtain⟨g1,z⟩:=mV K;refine⟨fun L=>?_,fun M=>?_⟩
  ·have:hasB x.r.dm k=true:=by
    rw[kF,hr];show(oG o.dst.toList).testBit k=true;rw[lr,L];simp
   simp_all
  have:hasB x.r.s k=true:=by
   rw[kF,hr];exact lr.2 M
  rw[this] at z;simp only[cond_true] at z;rw[uA hx,uA A,zj (P:=P) u,<-hr];cases C:hasB x.a j with
  | true=>rw[kF] at C;exact .inl C
  | false=>
   rw[C] at z;simp only[cond_false] at z;cases Q:x.r.k with
   | true=>simp_all
   | false=>
    rw[Q] at z;simp only[cond_false] at z;cases hb:Nat.beq j i with
    | true=>simp_all
    | false=>rw[hb] at z;rw[kF] at z;simp_all
 refine⟨fun i j hw=>?_,fun i j hi hj C=>?_,fun i j k hi hj=>?_,fun i o j k u hj hk=>?_,fun i o u hl=>?_⟩
 ·obtain⟨o,u,_⟩:=sI.1 hw;obtain⟨x,hx,hr,aa,_⟩:=key i o u;have:x.r.w.testBit j=true:=by rw[hr];exact(Fo u).2 hw
  apply zo_
  grind [Nat.testBit_lt_two_pow,zh_,Nat.pow_le_pow_right]
 ·have u:ops[i]? =some ops[i]:=aG_ hi;obtain⟨x,hx,hr,_,_,M,_⟩:=key i _ u;rw[uA hx] at C;have h1:=BR M j C;rw[n8,Bool.or_eq_true] at h1;rcases h1 with h1 | h1
  ·rw[hr] at h1;exact .inl ((Fo u).1 h1)
  obtain⟨d,y,A,R,h3⟩:=tk h1;rw[hr] at R;exact .inr ⟨d,(Fo u).1 R,by rw[uA A];exact h3⟩
 ·have hi':=mZ hi;have hj':=mZ hj;have u:ops[i]? =some ops[i]:=aG_ hi'
  grind [jt]
 ·grind [mZ,jt]
 obtain⟨x,hx,hr,_,G,_⟩:=key i o u;rw[zj (P:=P) u,<-hr] at hl;have:=G hl;rw[hr] at this;exact ze_.1 this
def Ord (ops:Array z_):List Nat->Prop
 | []=>True
 | i::r=>(∀j,waits ops i j=true->j∈r)/\Ord ops r
structure KX (P:q6) (ops:Array z_) (A:Array Nat) (i:Nat) (rc:List Nat) (done:List Nat):Prop where
 lt:i<ops.size
 new:i∉done
 dep:∀j,waits ops i j=true->j∈done
 again:kH P ops i=true->∀j∈done,gO P ops j=true->tz A i j=true∨j∈rc
 alone:kH P ops i=true->∀j,j<ops.size->j∉done->j≠i->∃e,waits ops j e=true/\e∉done
def HQ (P:q6) (ops:Array z_) (A:Array Nat):List (Nat×List Nat)->List Nat->Prop
 | [],done=>∀i,i<ops.size->i∈done
 | (i,rc)::l,done=>KX P ops A i rc done/\HQ P ops A l (i::done)
theorem yj {P:q6} {ops:Array z_}:∀(p:List (Nat×List Nat)) (D_:Nat) (done:List Nat),(∀j,D_.testBit j=true↔j∈done)->Gg (ka P ops) ops.size p D_=true->HQ P ops (Ce P ops) p done
 | [],D_,done,A,h=>fun i hi=>by
  have e:D_=bit ops.size-1:=nB h;rw[<-A,e,show bit ops.size=2 ^ ops.size from Nat.one_shiftLeft _,Nat.testBit_two_pow_sub_one]
  simp_all
 | (i,rc)::l,D_,done,A,h=>by
  have h':Option.rec (motive:=fun _=>Bool) false (fun x=>bif L8 (ka P ops) i rc D_ x then Gg (ka P ops) ops.size l (lor D_<|bit i) else false) (nth (ka P ops) i)=true:=h;rw[fN] at h';cases hx:(ka P ops)[i]? with
  | none=>simp_all
  | some x=>
  rw[hx] at h';obtain⟨h1,G⟩:=mV h';obtain⟨o,B,hr⟩:=Nu hx;have hlt:=(aS_.1 B).1;unfold L8 at h1;cases hi:hasB D_ i with
  | true=>simp_all
  | false=>
  rw[hi] at h1;obtain⟨hw,h3⟩:=mV h1;refine⟨⟨hlt,fun hm=>?_,fun j hj=>?_,fun hh j hj hl=>?_,fun hh j hj hn aa=>?_⟩,yj l _ (i::done) (fun j=>?_) G⟩
  ·rw[kF] at hi
   grind
  ·grind [BR,Fo]
  ·rw[Eu (P:=P) B,<-hr] at hh;rw[hh] at h3
   have w:∃o',ops[j]? =some o':=by
    cases d:ops[j]? with
    | some o'=>exact⟨o',Z⟩
    | none=>unfold gO at hl;simp_all
   obtain⟨o',d⟩:=w;obtain⟨y,C,z⟩:=C6 (P:=P) d;have h4:=rU h3 j y C;have u:hasB D_ j=true:=by rw[kF];exact(A j).2 hj
   rw[u] at h4;simp only[cond_true] at h4;rw[uA hx];cases E:hasB x.a j with
   | true=>rw[kF] at E;exact .inl E
   | false=>
    rw[E] at h4;rw[zj (P:=P) d,<-z] at hl;rw[hl] at h4;simp only[cond_true,cond_false] at h4;rw[kF] at h4;exact .inr<|lr.1 h4
  ·rw[Eu (P:=P) B,<-hr] at hh;rw[hh] at h3;have d:ops[j]? =some ops[j]:=aG_ hj;obtain⟨y,C,z⟩:=C6 (P:=P) d;have h4:=rU h3 j y C
   have u:hasB D_ j=false:=by
    grind [kF]
   rw[u] at h4;simp only[cond_false] at h4;cases hb:Nat.beq j i with
   | true=>simp_all
   | false=>
    rw[hb] at h4;simp only[cond_false] at h4
    grind [Hx,Fo]
  rw[n8,wG,Bool.or_eq_true,A,mQ_,decide_eq_true_eq]
  grind
theorem Ph (h:vX P ops=true):Shape P ops (Ce P ops)/\HQ P ops (Ce P ops) (mi P ops) []:=by
 obtain⟨h1,h2⟩:=mV h
 grind [NP,yj]
variable {listed:Array Bool} {ti:PT U}
def Li (listed:Array Bool) (i:Nat):Prop:=listed.getD i false=true
theorem MJ {i:Nat} (hi:i<listed.size):listed.getD i true=false↔¬Li listed i:=by
 simp[Li,Array.getD_eq_getD_getElem?,hi]
theorem F2 {i:Nat} (hi:i<listed.size):Li (listed.setIfInBounds i true) j↔j=i∨Li listed j:=by
 unfold Li;simp only[Array.getD_eq_getD_getElem?,Array.getElem?_setIfInBounds]
 grind
def eK:U->Option Pos
 | .ptr b _=>some b
 | .slice b _ _ _=>some b
 | .map b=>some b
 | _=>none
theorem Cl (mk:Mk) (b:Pos):eK (mk.of b)=some b:=by cases mk<;>rfl
def nK (P:q6) (G:Cx) (t:PT U) (V:aF) (D:dD) (lo:Nat) (ti:PT U) (o:z_):Prop:=
 match kindOf P o.op with
 | .pure=>∃v,dO P (bz G ti) o.op=some v/\∀k,o.dst=some k->t.get (posOf k)=some v
 | .read=>∃v,ie P (bz G ti) V o.op=some v/\∀k,o.dst=some k->t.get (posOf k)=some v
 | .alloc=>∃ob mk b,gb P (bz G ti) o.op=some (ob,mk)/\V.m.get b=some ob/\D b=none/\lo<=b.num/\b.num<V.next.num/\∀k,o.dst=some k->t.get (posOf k)=some (mk.of b)
 | .ld=>False
def sM (P:q6) (G:Cx) (ops:Array z_) (A:Array Nat) (t₀ t:PT U) (V:aF) (D:dD) (lo:Nat) (i:Nat):Prop:=
 ∃o ti,ops[i]? =some o/\
  (∀k∈slotsOf ops o,∀j,tz A i j=true->fG ops j=some k->ti.get (posOf k)=t.get (posOf k))/\
  (∀k∈slotsOf ops o,(∀j,fG ops j=some k->tz A i j=false)->ti.get (posOf k)=t₀.get (posOf k))/\
  ∃bw,bK ops ti o=some bw/\(bw=false->∀k,o.dst=some k->t.get (posOf k)=some unit)/\(bw=true->nK P G t V D lo ti o)
section
variable {P:q6} {G:Cx} {ops:Array z_} {A:Array Nat} {t₀ t t₁:PT U} {V σ₁:aF} {D ρ₁:dD} {lo i:Nat}
theorem yX {o:z_} {want:Bool} {k:Nat} (d:o.guard=some (j,want)) (hk:(ops[j]?).bind (·.dst)=some k):k∈slotsOf ops o:=by
 unfold slotsOf;rw[d];simp[hk]
theorem CS {o:z_} {k:Nat} (h:Operand.tmp k∈o.op.operands):k∈slotsOf ops o:=by
 unfold slotsOf;refine List.mem_append_left _<|List.mem_filterMap.2 ⟨.tmp k,by simpa using h,Z⟩
theorem lO {o:z_} {tj:PT U} (h:∀k∈slotsOf ops o,ti.get (posOf k)=tj.get (posOf k)):bK ops ti o=bK ops tj o:=by
 grind [bK,yX]
theorem sM.Q2 (hp:sM P G ops A t₀ t V D lo i) (h:∀k,(fG ops i=some k∨∃j,tz A i j=true/\fG ops j=some k)->t₁.get (posOf k)=t.get (posOf k)):sM P G ops A t₀ t₁ V D lo i:=by
 obtain⟨o,ti,d,h1,w,bw,h3,h4,h5⟩:=hp;have z:∀k,o.dst=some k->t₁.get (posOf k)=t.get (posOf k):=fun k hk=>h k (.inl (by rw[jt d];exact hk))
 refine⟨o,ti,d,fun k hk j u hj=>(h1 k hk j u hj).trans (h k (.inr ⟨j,u,hj⟩)).symm,w,bw,h3,fun hb k hk=>(z k hk).trans (h4 hb k hk),fun hb=>?_⟩
 grind [nK]
theorem sM.grow (hp:sM P G ops A t₀ t V D lo i) (h:∀b o,V.m.get b=some o->σ₁.m.get b=some o) (hn:V.next.num<=σ₁.next.num):sM P G ops A t₀ t σ₁ D lo i:=by
 obtain⟨o,ti,d,h1,u,bw,h3,h4,h5⟩:=hp;refine⟨o,ti,d,h1,u,bw,h3,h4,fun hb=>?_⟩
 grind [nK,Ke]
theorem sM.WL (hp:sM P G ops A t₀ t V D lo i) (u:Shape P ops A) (h:∀b,(∃o k v,ops[i]? =some o/\kindOf P o.op= .alloc/\fG ops i=some k/\t.get (posOf k)=some v/\eK v=some b)->D b=none->ρ₁ b=none):sM P G ops A t₀ t V ρ₁ lo i:=by
 obtain⟨o,ti,d,h1,w,bw,h3,h4,h5⟩:=hp;refine⟨o,ti,d,h1,w,bw,h3,h4,fun hb=>?_⟩;have:=h5 hb;unfold nK at this⊢;split at this
 ·exact this
 ·exact this
 ·rename_i hk;obtain⟨ob,mk,b,g1,g2,g3,g4,g5,g6⟩:=this;obtain⟨k,aa⟩:=u.dst i o d (by simp[gO,wb,d,hk])
  grind [jt,Cl]
 exact this
theorem sM.again (hp:sM P G ops A t₀ t V D lo i) (R:Shape P ops A) (h:∀k,(fG ops i=some k∨∃j,tz A i j=true/\fG ops j=some k)->t₁.get (posOf k)=t.get (posOf k))
  (h0:∀k,(∀j,fG ops j≠some k)->t₁.get (posOf k)=t₀.get (posOf k)) (w:gO P ops i=true->jP P G ops t₁ σ₁ i=true)
  (hr:∀b:Pos,b.num<V.next.num->ρ₁ b=D b) (hn:V.next.num<=σ₁.next.num):sM P G ops A t₀ t₁ σ₁ ρ₁ lo i:=by
 have hp1:=hp.Q2 h;obtain⟨o,ti,z,h1,C,bw,h3,h4,h5⟩:=hp1;cases hb:bw with
 | false=>exact⟨o,ti,z,h1,C,bw,h3,h4,fun E=>absurd E (by rw[hb];simp)⟩
 | true=>
  have hv:=h5 hb;subst hb;cases hk:kindOf P o.op with
  | pure=>
   refine⟨o,ti,z,h1,C,true,h3,h4,fun _=>?_⟩
   grind [nK]
  | ld=>unfold nK at hv;simp_all
  | read=>
   have hl:gO P ops i=true:=by simp[gO,wb,z,hk]
   have u:∀k∈slotsOf ops o,t₁.get (posOf k)=ti.get (posOf k):=fun k d=>by
    by_cases hw:∃j,fG ops j=some k
    ·obtain⟨j,hj⟩:=hw;rcases R.look i o j k z hj d with K | ⟨L,_⟩
     ·grind
     simp_all
    simp_all
   have O:=w hl;unfold jP at O;rw[z] at O;dsimp only at O;rw[lO u,h3] at O;dsimp only at O;refine⟨o,t₁,z,fun _ _ _ _ _=>Z,fun k d hj=>(u k d).trans (C k d hj),true,by rw[lO u];exact h3,fun h'=>(by cases h'),fun _=>?_⟩
   grind [nK,OO]
  | alloc=>
   have hl:gO P ops i=true:=by simp[gO,wb,z,hk]
   have u:∀k∈slotsOf ops o,t₁.get (posOf k)=ti.get (posOf k):=fun k d=>by
    by_cases hw:∃j,fG ops j=some k
    ·obtain⟨j,hj⟩:=hw;rcases R.look i o j k z hj d with K | ⟨L,_⟩
     ·grind
     simp_all
    simp_all
   have O:=w hl;unfold jP at O;rw[z] at O;dsimp only at O;rw[lO u,h3] at O;dsimp only at O;refine⟨o,t₁,z,fun _ _ _ _ _=>Z,fun k d hj=>(u k d).trans (C k d hj),true,by rw[lO u];exact h3,fun h'=>(by cases h'),fun _=>?_⟩;unfold nK at hv⊢;rw[hk] at hv⊢;dsimp only at hv⊢;obtain⟨ob,mk,b,g1,g2,g3,g4,g5,S⟩:=hv;split at O
   ·rename_i k M;have g6':=S k M;rw[g6'] at O;dsimp only at O;rw[hk] at O;dsimp only at O;have ab:ρ₁ b=none:=by simp_all
    split at O
    ·rename_i cs e b' K B;split at O
     ·rename_i cs' e' Q;rw[bA_] at O;have e1:=nB O.1;have e2:=xD O.2;subst e1;subst e2;have aa:b'=b:=by cases mk<;>simp[Mk.of] at B<;>exact B.symm
      grind [Mk.of]
     cases O
    ·rename_i cs e n c b' n' c' K B;split at O
     ·rename_i cs' e' Q;simp only[bA_] at O;have e1:=nB O.1.1.1;have e2:=xD O.1.1.2;have e3:=nB O.1.2;have e4:=nB O.2;subst e1;subst e2;subst e3;subst e4;have ac:b'=b/\mk= .slice n c:=by cases mk<;>simp[Mk.of] at B<;>(simp_all)
      grind
     cases O
    cases O
   cases O
end
theorem nw {t t₁:PT U} {n:Nat} {dst:Option Nat} {v:U} (h:dG t n dst v=some t₁):
  (∀k,dst≠some k->t₁.get (posOf k)=t.get (posOf k))/\(∀k,dst=some k->k<n/\t₁.get (posOf k)=some v):=by
 cases dst with
 | none=>cases h;simp_all
 | some j=>
  obtain⟨hj,rfl⟩:=wk h;refine⟨fun k hk=>PT.dS _ _ _ _ (fun e=>hk (by rw[su e])),fun k hk=>?_⟩;cases hk;exact⟨hj,PT.dZ _ _ _⟩
theorem Np {a:Act} {dst:Option Tmp} {x:j_}:(∀k,dst≠some k->(a.put dst x).tmps.getD k undef=a.tmps.getD k undef)/\(∀k,dst=some k->k<a.tmps.size->(a.put dst x).tmps.getD k undef=x)/\(a.put dst x).tmps.size=a.tmps.size:=by
 cases dst with
 | none=>exact⟨fun _ _=>Z,(fun k hk=>by cases hk),Z⟩
 | some j=>
  refine⟨fun k hk=>?_,fun k hk d=>?_,by simp[Act.put]⟩
  ·have:j≠k:=fun e=>hk (by rw[e])
   simp[Act.put,Array.getD_eq_getD_getElem?,Array.getElem?_setIfInBounds,this]
  cases hk;simp[Act.put,Array.getD_eq_getD_getElem?,Array.getElem?_setIfInBounds,d]
variable {rc:List Nat} {t₁:PT U} {σ₁:aF}
theorem dE {x y:α} {l:List α} (h:x∈y::l):x=y∨x∈l:=mQ_.1 h
structure J_ (P:q6) (G:Cx) (ih:lR) (ops:Array z_) (A:Array Nat) (n:Nat) (d:List DE) (fin:CR) (ρ₀:dD) (σ₀:aF) (w₀:x_) (t₀:PT U)
  (l:List (Nat×List Nat)) (done:List Nat) (t:PT U) (V:aF) (listed:Array Bool) (D:dD) (w:x_) (a:Act):Prop where
 run:kL P G ih ops n d l t V=fin
 ok:HQ P ops A l done
 inv:Inv D V w
 Rl:fL ρ₀ σ₀ w₀ D V w
 dr:DR D d a.defers
 gr:GR D G
 Rp:a.tmps.size=n
 OA:listed.size=ops.size
 RG:∀i∈done,i<ops.size
 ord:Ord ops done
 sub:∀i,Li listed i->i∈done
 ld:∀i∈done,kH P ops i=true->Li listed i
 closed:∀i j,j<ops.size->Li listed i->tz A i j=true->Li listed j
 mC:∀i j,j<ops.size->i∈done->tz A i j=true->j∈done
 S7:∀i∈done,∀k,fG ops i=some k->k<n
 FA:∀i k v,Li listed i->fG ops i=some k->t.get (posOf k)=some v->VR D v (a.tmps.getD k undef)
 Fz:∀k v,(∀i,Li listed i->fG ops i≠some k)->t₀.get (posOf k)=some v->k<n/\VR D v (a.tmps.getD k undef)
 same:∀k,(∀i∈done,fG ops i≠some k)->t.get (posOf k)=t₀.get (posOf k)
 E6:∀i∈done,¬Li listed i->sM P G ops A t₀ t V D σ₀.next.num i
 apart:∀i j o o' k k' v v' b,i∈done->j∈done->¬Li listed i->¬Li listed j->ops[i]? =some o->ops[j]? =some o'->kindOf P o.op= .alloc->kindOf P o'.op= .alloc->
  fG ops i=some k->fG ops j=some k'->t.get (posOf k)=some v->t.get (posOf k')=some v'->eK v=some b->eK v'=some b->i=j
section
variable {P:q6} {G:Cx} {ih:lR} {ops:Array z_} {A:Array Nat} {n:Nat} {d:List DE} {fin:CR} {ρ₀:dD} {σ₀:aF} {w₀:x_} {t₀:PT U}
variable {l:List (Nat×List Nat)} {done:List Nat} {t:PT U} {V:aF} {listed:Array Bool} {D:dD} {w:x_} {a:Act}
theorem yb (u:Shape P ops A) {i:Nat} (hi:i<ops.size) (hw:∀j,waits ops i j=true->j∈done) (hd:∀i j,j<ops.size->i∈done->tz A i j=true->j∈done):∀j,j<ops.size->tz A i j=true->j∈done:=fun j hj z=>by
 rcases u.tz i j hi hj z with h | ⟨q,h1,h2⟩
 ·exact hw j h
 grind
theorem yc (u:Shape P ops A) {i:Nat} (hi:i<ops.size) (hw:∀j,waits ops i j=true->Li listed j) (hd:∀i j,j<ops.size->Li listed i->tz A i j=true->Li listed j):∀j,j<ops.size->tz A i j=true->Li listed j:=fun j hj z=>by
 rcases u.tz i j hi hj z with h | ⟨q,h1,h2⟩
 ·exact hw j h
 grind
theorem J_.y3 (C:Shape P ops A) (hj:J_ P G ih ops A n d fin ρ₀ σ₀ w₀ t₀ l done t V listed D w a) {i:Nat} {o:z_} (B:ops[i]? =some o) (hn:i∉done):
  ∀k∈slotsOf ops o,(∀j,fG ops j=some k->tz A i j=false)->t.get (posOf k)=t₀.get (posOf k):=fun k hk aa=>by
 refine hj.same k fun j u z=>?_
 rcases C.look i o j k B z hk with h | ⟨_,h | h⟩
 ·simp_all
 ·subst h;exact hn u
 exact hn<|hj.mC j i (aS_.1 B).1 u h
theorem J_.look (E:Shape P ops A) (hj:J_ P G ih ops A n d fin ρ₀ σ₀ w₀ t₀ l done t V listed D w a) {i:Nat} {o:z_} {ti:PT U} (B:ops[i]? =some o) (hn:¬Li listed i) (hr:∀j,j<ops.size->tz A i j=true->Li listed j)
  (h1:∀k∈slotsOf ops o,∀j,tz A i j=true->fG ops j=some k->ti.get (posOf k)=t.get (posOf k)) (K:∀k∈slotsOf ops o,(∀j,fG ops j=some k->tz A i j=false)->ti.get (posOf k)=t₀.get (posOf k)):
  ∀k∈slotsOf ops o,∀v,ti.get (posOf k)=some v->k<n/\VR D v (a.tmps.getD k undef):=fun k hk v hv=>by
 by_cases hw:∃j,fG ops j=some k/\tz A i j=true
 ·obtain⟨j,u,C⟩:=hw;have hL:=hr j (mZ u) C;rw[h1 k hk j C u] at hv;exact⟨hj.S7 j (hj.sub j hL) k u,hj.FA j k v hL u hv⟩
 have z:∀j,fG ops j=some k->tz A i j=false:=fun j u=>by
  simp_all
 rw[K k hk z] at hv;refine hj.Fz k v (fun j hL u=>?_) hv;rcases E.look i o j k B u hk with h | ⟨_,h | h⟩
 ·simp_all
 ·subst h;exact hn hL
 exact hn<|hj.closed j i (aS_.1 B).1 hL h
theorem Ih {o:z_} (u:GR D G) (h:∀k∈slotsOf ops o,∀v,ti.get (posOf k)=some v->k<n/\VR D v (a.tmps.getD k undef)):ER D (bz G ti) a.eval o.op:=fun x hx v hv=>by
 cases x with
 | tmp k=>exact(h k (CS hx) v hv).2
 | const c=>exact lk (t:=.leaf) (n:=a.tmps.size) u ⟨Z,fun k v hk=>by rw[PT.nd] at hk;cases hk⟩ hv
 | global g=>exact lk (t:=.leaf) (n:=a.tmps.size) u ⟨Z,fun k v hk=>by rw[PT.nd] at hk;cases hk⟩ hv
 | func f=>exact lk (t:=.leaf) (n:=a.tmps.size) u ⟨Z,fun k v hk=>by rw[PT.nd] at hk;cases hk⟩ hv
theorem w9 {o:z_} {b:Bool} (u:a.tmps.size=n) (h:∀k∈slotsOf ops o,∀v,ti.get (posOf k)=some v->k<n/\VR D v (a.tmps.getD k undef)) (hw:bK ops ti o=some b):Region.wanted o (yielded ops a.tmps)=b:=
 BW hw fun j want k z hk v hv=>by
  have:=h k (yX z hk) v hv;rw[u];exact this
theorem J_.ahead (hs:Shape P ops A) {i:Nat} (hj:J_ P G ih ops A n d fin ρ₀ σ₀ w₀ t₀ ((i,rc)::l) done t V listed D w a) (hl:kH P ops i=false) {o:z_} (ho:ops[i]? =some o) {v:U} 
  (hp:dG t n o.dst v=some t₁) (E:kL P G ih ops n d l t₁ σ₁=fin) (hinv:Inv D σ₁ w) (O:fL D V w D σ₁ w) (K:∀b o,V.m.get b=some o->σ₁.m.get b=some o)
  (am:∀b,eK v=some b->kindOf P o.op= .alloc->V.next.num<=b.num) (ab:sM P G ops A t₀ t₁ σ₁ D σ₀.next.num i):J_ P G ih ops A n d fin ρ₀ σ₀ w₀ t₀ l (i::done) t₁ σ₁ listed D w a:=by
 obtain⟨hh,T⟩:=hj.ok;obtain⟨f1,f2⟩:=nw hp;have L:fG ops i=o.dst:=jt ho;have ap:¬Li listed i:=fun h=>hh.new (hj.sub i h)
 have z:∀j∈done,∀k,fG ops j=some k->t₁.get (posOf k)=t.get (posOf k):=fun j B k hk=>f1 k fun e=>by
  have:=hs.uniq i j k (by rw[L];exact e) hk;subst this;exact hh.new B
 have aa:∀j∈done,¬Li listed j->sM P G ops A t₀ t₁ σ₁ D σ₀.next.num j:=fun j B C=>by
  refine((hj.E6 j B C).Q2 fun k hk=>?_).grow K O.next;rcases hk with hk | ⟨q,hq,hk⟩
  ·grind
  exact z q (hj.mC j q (mZ hk) B hq) k hk
 have ao:∀j o' k' v' b,j∈done->¬Li listed j->ops[j]? =some o'->kindOf P o'.op= .alloc->fG ops j=some k'->t₁.get (posOf k')=some v'->eK v'=some b->b.num<V.next.num:=fun j o' k' v' b B C M hk W hv hb=>by
  obtain⟨o'',ti,e,_,_,bw,_,h4,h5⟩:=hj.E6 j B C;rw[M] at e;cases e;rw[z j B k' W] at hv;rw[jt M] at W;cases bw with
  | false=>rw[h4 Z k' W] at hv;cases hv;cases hb
  | true=>
   have:=h5 Z
   grind [nK,Cl]
 refine⟨E,T,hinv,hj.Rl.trans O,hj.dr,hj.gr,hj.Rp,hj.OA,fun j h=>?_,⟨hh.dep,hj.ord⟩,fun j h=>mC_ _ (hj.sub j h),fun j h hv=>?_,hj.closed,fun j q hq h ha=>?_,fun j h k hk=>?_,fun j k u hL hk hu=>?_,hj.Fz,fun k hk=>?_,fun j h C=>?_,?_⟩
 ·rcases dE h with rfl | h
  ·exact hh.lt
  exact hj.RG j h
 ·rcases dE h with rfl | h
  ·simp_all
  exact hj.ld j h hv
 ·rcases dE h with rfl | h
  ·exact mC_ _<|yb hs hh.lt hh.dep hj.mC q hq ha
  exact mC_ _<|hj.mC j q hq h ha
 ·rcases dE h with rfl | h
  ·simp_all
  exact hj.S7 j h k hk
 ·rw[z j (hj.sub j hL) k hk] at hu;exact hj.FA j k u hL hk hu
 ·rw[f1 k (fun e=>hk i (mS_ ..) (by rw[L];exact e))];exact hj.same k fun j h=>hk j (mC_ _ h)
 ·grind
 intro j q o' o'' k k' u u' b h1 h2 h3 h4 h5 h6 h7 h8 h9 Q R S X ac;rcases dE h1 with rfl | m1<;>rcases dE h2 with rfl | m2
 ·rfl
 ·grind
 ·grind
 rw[z j m1 k h9] at R;rw[z q m2 k' Q] at S;exact hj.apart j q o' o'' k k' u u' b m1 m2 h3 h4 h5 h6 h7 h8 h9 Q R S X ac
theorem Inv.F5 (hi:Inv D V w) (ob:cU):B7 D (V.alloc ob) w/\fL D V w D (V.alloc ob) w/\∀b o,V.m.get b=some o->(V.alloc ob).m.get b=some o:=by
 have aa:D V.next=none:=(hi.fresh _<|nR_ _).1;have u:∀b,b≠V.next->(V.alloc ob).m.get b=V.m.get b:=fun b hb=>PT.dS _ _ _ _ hb
 have back:∀b o l,(V.alloc ob).m.get b=some o->D b=some l->V.m.get b=some o:=fun b o l h hl=>by
  grind
 refine⟨⟨fun b hb=>?_,hi.eK,fun b o l h hl=>hi.obj b o l (back b o l h hl) hl,fun b b' o o' l l' h1 z h3 h4=>hi.inj b b' o o' l l' (back b o l h1 h3) (back b' o' l' z h4) h3 h4⟩,⟨fun _ _=>Z,?_,nR_ _,fun _ _ _=>Z,?_,Z,Z,Z⟩,fun b o h=>?_⟩
 ·have ab:V.next.num+1<=b.num:=by simpa [aF.alloc,Pos.jy] using hb
  have B:b≠V.next:=fun e=>by subst e;omega
  rw[u b B];exact hi.fresh b oM
 ·simp[aF.alloc,Pos.jy]
 ·rintro r ⟨b,o,l,h1,z,h3,rfl⟩ _;exact⟨b,o,l,back b o l h1 h3,z,h3,Z⟩
 by_cases e:b=V.next
 ·subst e;rw[(hi.fresh _<|nR_ _).2] at h;cases h
 simp_all
theorem Inv.ahead (hi:Inv D V w) (ob:cU):Inv D (V.alloc ob) w/\fL D V w D (V.alloc ob) w/\∀b o,V.m.get b=some o->(V.alloc ob).m.get b=some o:=
 let ⟨h1,u,h3⟩:=hi.F5 ob;⟨⟨h1,hi.oH.of u⟩,u,h3⟩
theorem aF.JA (V:aF) (ob:cU):(V.alloc ob).m.get V.next=some ob:=PT.dZ _ _ _
theorem J_.TB (K:Shape P ops A) {i:Nat} (hj:J_ P G ih ops A n d fin ρ₀ σ₀ w₀ t₀ ((i,rc)::l) done t V listed D w a) (hl:kH P ops i=false) (aa:∀k,fin≠ .err k):
  ∃t₁ σ₁,J_ P G ih ops A n d fin ρ₀ σ₀ w₀ t₀ l (i::done) t₁ σ₁ listed D w a:=by
 obtain⟨hh,ab⟩:=hj.ok;obtain⟨o,B⟩:∃o,ops[i]? =some o:=⟨ops[i]' hh.lt,aG_ hh.lt⟩
 have u:(match ops[i]? with
   | some o=>jz P G ih false ops n o t V (fun t' V'=>bif dA P G ops t' V' rc then kL P G ih ops n d l t' V' else .err 86)
   | none=>.err 87)=fin:=hj.run
 rw[B] at u;dsimp only at u;have hhead:=hj.y3 K B hh.new
 have z:∀t₁ σ₁,(bif dA P G ops t₁ σ₁ rc then kL P G ih ops n d l t₁ σ₁ else .err 86)=fin->kL P G ih ops n d l t₁ σ₁=fin:=fun t₁ σ₁ h=>by
  grind
 have C:∀{v:U} {t₁:PT U},dG t n o.dst v=some t₁->∀k∈slotsOf ops o,∀j,tz A i j=true->fG ops j=some k->t.get (posOf k)=t₁.get (posOf k):=fun hp k hk j S Q=>by
  refine((nw hp).1 k fun e=>?_).symm;have:=K.uniq i j k (by rw[jt B];exact e) Q;subst this;exact hh.new<|yb K hh.lt hh.dep hj.mC i hh.lt S
 unfold jz at u;cases hw:bK ops t o with
 | none=>grind
 | some bw=>
  rw[hw] at u;cases bw with
  | false=>
   dsimp only at u;cases hp:dG t n o.dst unit with
   | none=>grind
   | some t₁=>
    rw[hp] at u;refine⟨t₁,V,hj.ahead K hl B hp (z _ _ u) hj.inv (fL.refl _ _ _) (fun _ _ h=>h) (fun b hb=>by cases hb) ?_⟩;exact⟨o,t,B,C hp,hhead,false,hw,fun _ k hk=>((nw hp).2 k hk).2,fun h=>by cases h⟩
  | true=>
   dsimp only at u
   have main:∀(v:U) (σ₁:aF),mD P G ih (dX P G (bz G t) V o.op)= .ret v σ₁->Inv D σ₁ w->fL D V w D σ₁ w->(∀b o,V.m.get b=some o->σ₁.m.get b=some o)->
     (∀b,eK v=some b->kindOf P o.op= .alloc->V.next.num<=b.num)->(∀t₁,(∀k,o.dst=some k->t₁.get (posOf k)=some v)->nK P G t₁ σ₁ D σ₀.next.num t o)->
     ∃t₁ σ₁,J_ P G ih ops A n d fin ρ₀ σ₀ w₀ t₀ l (i::done) t₁ σ₁ listed D w a:=by
    intro v σ₁ he hinv O L M R;rw[he] at u;dsimp only at u;cases hp:dG t n o.dst v with
    | none=>grind
    | some t₁=>
     rw[hp] at u;refine⟨t₁,σ₁,hj.ahead K hl B hp (z _ _ u) hinv O L M ?_⟩;exact⟨o,t,B,C hp,hhead,true,hw,fun h=>(by cases h),fun _=>R t₁ fun k hk=>((nw hp).2 k hk).2⟩
   cases hk:kindOf P o.op with
   | ld=>simp[kH,GH,B,hk] at hl
   | pure=>
    cases hv:dO P (bz G t) o.op with
    | none=>
     have:mD P G ih (dX P G (bz G t) V o.op)= .err (Nat.add 1000<|Bo o.op):=by unfold dX;rw[hk];dsimp only;rw[hv];rfl
     grind
    | some v=>
     have:mD P G ih (dX P G (bz G t) V o.op)= .ret v V:=by unfold dX;rw[hk];dsimp only;rw[hv];rfl
     refine main v V this hj.inv (fL.refl _ _ _) (fun _ _ h=>h) (fun b _ h=>by rw[hk] at h;cases h) fun t₁ E=>?_
     unfold nK;simp_all
   | read=>
    cases hv:ie P (bz G t) V o.op with
    | none=>
     have:mD P G ih (dX P G (bz G t) V o.op)= .err (Nat.add 2000<|Bo o.op):=by unfold dX;rw[hk];dsimp only;rw[hv];rfl
     grind
    | some v=>
     have:mD P G ih (dX P G (bz G t) V o.op)= .ret v V:=by unfold dX;rw[hk];dsimp only;rw[hv];rfl
     refine main v V this hj.inv (fL.refl _ _ _) (fun _ _ h=>h) (fun b _ h=>by rw[hk] at h;cases h) fun t₁ E=>?_
     unfold nK;simp_all
   | alloc=>
    cases hv:gb P (bz G t) o.op with
    | none=>
     have:mD P G ih (dX P G (bz G t) V o.op)= .err (Nat.add 3000<|Bo o.op):=by unfold dX;rw[hk];dsimp only;rw[hv];rfl
     grind
    | some p=>
     obtain⟨ob,mk⟩:=p;have:mD P G ih (dX P G (bz G t) V o.op)= .ret (mk.of V.next) (V.alloc ob):=by unfold dX;rw[hk];dsimp only;rw[hv];rfl
     obtain⟨g1,T,W⟩:=hj.inv.ahead ob;refine main _ _ this g1 T W (fun b hb _=>by rw[Cl] at hb;simp_all) fun t₁ E=>?_
     unfold nK;rw[hk];exact⟨ob,mk,V.next,hv,aF.JA V ob,(hj.inv.fresh _<|nR_ _).1,hj.Rl.next,by simp[aF.alloc,Pos.jy],E⟩
theorem J_.advance (z:Shape P ops A) (u:∀k,fin≠ .err k):∀(l:List (Nat×List Nat)) (done:List Nat) (t:PT U) (V:aF),J_ P G ih ops A n d fin ρ₀ σ₀ w₀ t₀ l done t V listed D w a->
  ∃l' done' t' V',J_ P G ih ops A n d fin ρ₀ σ₀ w₀ t₀ l' done' t' V' listed D w a/\(l'= []∨∃i rc r,l'=(i,rc)::r/\kH P ops i=true)
 | [],done,t,V,hj=>⟨[],done,t,V,hj,.inl Z⟩
 | (i,rc)::l,done,t,V,hj=>by
  cases hl:kH P ops i with
  | true=>exact⟨_,done,t,V,hj,.inr ⟨i,rc,l,Z,hl⟩⟩
  | false=>
   obtain⟨t₁,σ₁,hj₁⟩:=hj.TB z hl u;exact J_.advance z u l _ t₁ σ₁ hj₁
end
variable {Q:Exit->Act->x_->Prop} {N_:Nat} {w₁:x_} {ob:cU} {ρ₁:dD}
section
variable {P:q6} {G:Cx} {ih:lR} {ops:Array z_} {A:Array Nat} {n:Nat} {d:List DE} {fin:CR} {ρ₀:dD} {σ₀:aF} {w₀:x_} {t₀:PT U}
variable {l:List (Nat×List Nat)} {done:List Nat} {t:PT U} {V:aF} {listed:Array Bool} {D:dD} {w:x_} {a:Act}
theorem J_.behind (L:Shape P ops A) (hj:J_ P G ih ops A n d fin ρ₀ σ₀ w₀ t₀ l done t V listed D w a) {i:Nat} {o:z_} {x:j_} (M:ops[i]? =some o) (C:i∈done) (hn:¬Li listed i)
  (hr:∀j,j<ops.size->tz A i j=true->Li listed j) (hv:∀k v,o.dst=some k->t.get (posOf k)=some v->VR ρ₁ v x) (hinv:Inv ρ₁ V w₁) (O:fL ρ₀ σ₀ w₀ ρ₁ V w₁) (hle:D.le ρ₁)
  (aa:∀j∈done,¬Li listed j->j≠i->sM P G ops A t₀ t V ρ₁ σ₀.next.num j):J_ P G ih ops A n d fin ρ₀ σ₀ w₀ t₀ l done t V (listed.setIfInBounds i true) ρ₁ w₁ (a.put o.dst x):=by
 have E:i<listed.size:=by rw[hj.OA];exact hj.RG i C
 have B:fG ops i=o.dst:=jt M;obtain⟨K,Q,R⟩:=Np (a:=a) (dst:=o.dst) (x:=x);have z:∀{j},Li (listed.setIfInBounds i true) j↔j=i∨Li listed j:=F2 E
 refine⟨hj.run,hj.ok,hinv,O,by rw[put_defers];exact hj.dr.mono hle,hj.gr.mono hle,by rw[R];exact hj.Rp,by simpa using hj.OA,hj.RG,hj.ord,fun j h=>?_,fun j h hh=>z.2 (.inr<|hj.ld j h hh),fun j q hq h S=>?_,hj.mC,hj.S7,
  fun j k v h hk hu=>?_,fun k v h hu=>?_,hj.same,fun j h hl=>?_,?_⟩
 ·rcases z.1 h with rfl | h
  ·exact C
  exact hj.sub j h
 ·rcases z.1 h with rfl | h
  ·simp_all
  exact z.2 (.inr<|hj.closed j q hq h S)
 ·by_cases e:j=i
  ·subst e;rw[B] at hk;rw[Q k hk (by rw[hj.Rp];exact hj.S7 j C k (by rw[B];exact hk))];exact hv k v hk hu
  have hL:=(z.1 h).resolve_left e;rw[K k (fun e'=>e (L.uniq j i k hk (by rw[B];exact e')))];exact VR.mono hle _ _<|hj.FA j k v hL hk hu
 ·rw[K k (fun e'=>h i (z.2 (.inl Z)) (by rw[B];exact e'))];obtain⟨q1,q2⟩:=hj.Fz k v (fun j hL=>h j (z.2 (.inr hL))) hu;exact⟨q1,VR.mono hle _ _ q2⟩
 ·simp_all
 intro j q o' o'' k k' u u' b h1 T h3 h4;exact hj.apart j q o' o'' k k' u u' b h1 T (fun hL=>h3 (z.2 (.inr hL))) (fun hL=>h4 (z.2 (.inr hL)))
theorem vu {t₁:PT U} {σ₁:aF}:∀{rc:List Nat} {j:Nat},dA P G ops t₁ σ₁ rc=true->j∈rc->jP P G ops t₁ σ₁ j=true
 | [],j,_,hj=>by cases hj
 | i::rc,j,h,hj=>by
  have h':(bif jP P G ops t₁ σ₁ i then dA P G ops t₁ σ₁ rc else false)=true:=h;rw[bZ] at h';split at h'
  ·rename_i hi;rcases dE hj with rfl | hj
   ·exact hi
   exact vu h' hj
  cases h'
theorem J_.Uq (X:Shape P ops A) {i:Nat} (hj:J_ P G ih ops A n d fin ρ₀ σ₀ w₀ t₀ ((i,rc)::l) done t V listed D w a) (hl:kH P ops i=true) {o:z_} (ho:ops[i]? =some o)
  (hr:∀j,j<ops.size->tz A i j=true->Li listed j) {v:U} {x:j_} (hp:dG t n o.dst v=some t₁) (K:dA P G ops t₁ σ₁ rc=true) (M:kL P G ih ops n d l t₁ σ₁=fin)
  (hv:VR ρ₁ v x) (hinv:Inv ρ₁ σ₁ w₁) (O:fL D V w ρ₁ σ₁ w₁):J_ P G ih ops A n d fin ρ₀ σ₀ w₀ t₀ l (i::done) t₁ σ₁ (listed.setIfInBounds i true) ρ₁ w₁ (a.put o.dst x):=by
 obtain⟨hh,aa⟩:=hj.ok;obtain⟨f1,f2⟩:=nw hp;have hle:=O.le hj.inv;have ab:i<listed.size:=by rw[hj.OA];exact hh.lt
 have C:fG ops i=o.dst:=jt ho;obtain⟨p1,p2,p3⟩:=Np (a:=a) (dst:=o.dst) (x:=x);have z:∀{j},Li (listed.setIfInBounds i true) j↔j=i∨Li listed j:=F2 ab;have aq:¬Li listed i:=fun h=>hh.new (hj.sub i h)
 have B:∀j∈done,∀k,fG ops j=some k->t₁.get (posOf k)=t.get (posOf k):=fun j E k hk=>f1 k fun e=>by
  have:=X.uniq i j k (by rw[C];exact e) hk;subst this;exact hh.new E
 refine⟨M,aa,hinv,hj.Rl.trans O,by rw[put_defers];exact hj.dr.mono hle,hj.gr.mono hle,by rw[p3];exact hj.Rp,by simpa using hj.OA,fun j h=>?_,⟨hh.dep,hj.ord⟩,fun j h=>?_,fun j h hv=>?_,fun j q hq h L=>?_,fun j q hq h L=>?_,fun j h k hk=>?_,
  fun j k u h hk hu=>?_,fun k u h hu=>?_,fun k hk=>?_,fun j h Q=>?_,?_⟩
 ·rcases dE h with rfl | h
  ·exact hh.lt
  exact hj.RG j h
 ·rcases z.1 h with rfl | h
  ·simp_all
  exact mC_ _<|hj.sub j h
 ·rcases dE h with rfl | h
  ·simp_all
  exact z.2 (.inr<|hj.ld j h hv)
 ·rcases z.1 h with rfl | h
  ·simp_all
  exact z.2 (.inr<|hj.closed j q hq h L)
 ·rcases dE h with rfl | h
  ·exact mC_ _<|yb X hh.lt hh.dep hj.mC q hq L
  exact mC_ _<|hj.mC j q hq h L
 ·rcases dE h with rfl | h
  ·simp_all
  exact hj.S7 j h k hk
 ·by_cases e:j=i
  ·subst e;rw[C] at hk;obtain⟨q1,q2⟩:=f2 k hk;rw[p2 k hk (by rw[hj.Rp];exact q1)]
   simp_all
  have hL:=(z.1 h).resolve_left e;rw[p1 k (fun e'=>e (X.uniq j i k hk (by rw[C];exact e')))];rw[B j (hj.sub j hL) k hk] at hu;exact VR.mono hle _ _<|hj.FA j k u hL hk hu
 ·rw[p1 k (fun e'=>h i (z.2 (.inl Z)) (by rw[C];exact e'))];obtain⟨q1,q2⟩:=hj.Fz k u (fun j hL=>h j (z.2 (.inr hL))) hu;exact⟨q1,VR.mono hle _ _ q2⟩
 ·rw[f1 k (fun e=>hk i (mS_ ..) (by rw[C];exact e))];exact hj.same k fun j h=>hk j (mC_ _ h)
 ·have ac:j≠i:=fun e=>Q (z.2 (.inl e))
  have R:¬Li listed j:=fun hL=>Q (z.2 (.inr hL))
  have E:j∈done:=(dE h).resolve_left ac;refine(hj.E6 j E R).again X (fun k hk=>?_) (fun k hk=>?_) (fun am=>?_) (fun b hb=>O.ext b hb) O.next
  ·rcases hk with hk | ⟨q,hq,hk⟩
   ·grind
   exact B q (hj.mC j q (mZ hk) E hq) k hk
  ·rw[f1 k (fun e=>hk i (by rw[C];exact e))];exact hj.same k fun j _=>hk j
  rcases hh.again hl j E am with L | hm
  ·exact absurd (hr j (hj.RG j E) L) R
  exact vu K hm
 intro j q o' o'' k k' u u' b h1 h2 h3 h4 h5 h6 h7 h8 h9 S T W ao ap;have m1:j∈done:=(dE h1).resolve_left fun e=>h3 (z.2 (.inl e))
 have m2:q∈done:=(dE h2).resolve_left fun e=>h4 (z.2 (.inl e))
 rw[B j m1 k h9] at T;rw[B q m2 k' S] at W;exact hj.apart j q o' o'' k k' u u' b m1 m2 (fun hL=>h3 (z.2 (.inr hL))) (fun hL=>h4 (z.2 (.inr hL))) h5 h6 h7 h8 h9 S T W ao ap
theorem Fg {i:Nat} (z:listed.size=ops.size) (h:i∈Region.ready .any ops listed):i<ops.size/\¬Li listed i/\∀j,waits ops i j=true->Li listed j:=by
 obtain⟨h1,o,B,C⟩:=mem_ready.1 h;have hlt:=(aS_.1 B).1;refine⟨hlt,(MJ (by rw[z];exact hlt)).1 h1,fun j hw=>?_⟩;obtain⟨o',u,e,he,hb,rfl⟩:=sI.1 hw;rw[B] at u;cases u;exact C e he hb
theorem Ff {i:Nat} (z:listed.size=ops.size) (u:i<ops.size) (hn:¬Li listed i) (hw:∀j,waits ops i j=true->Li listed j):i∈Region.ready .any ops listed:=
 mem_ready.2 ⟨(MJ (by rw[z];exact u)).2 hn,ops[i]' u,aG_ u,fun e he hb=>hw _ (sI.2 ⟨_,aG_ u,e,he,hb,Z⟩)⟩
theorem Bp:∀{done:List Nat},Ord ops done->(∃i∈done,¬Li listed i)->∃i∈done,¬Li listed i/\∀j,waits ops i j=true->Li listed j
 | [],_,⟨i,hi,_⟩=>by cases hi
 | i::r,z,⟨q,hq,hn⟩=>by
  by_cases hr:∃j∈r,¬Li listed j
  ·obtain⟨j,h1,h2,h3⟩:=Bp z.2 hr
   grind
  have u:∀j∈r,Li listed j:=fun j hj=>zo_ fun h=>hr ⟨j,hj,h⟩
  rcases dE hq with rfl | hq
  ·exact⟨q,mS_ ..,hn,fun j hw=>u j (z.1 j hw)⟩
  simp_all
theorem J_.all (hs:Shape P ops A) (hj:J_ P G ih ops A n d fin ρ₀ σ₀ w₀ t₀ l done t V listed D w a) (hr:Region.ready .any ops listed= []):∀i,i<ops.size->Li listed i:=by
 have u:∀i∈done,Li listed i:=fun i hi=>zo_ fun h=>by
  obtain⟨q,h1,z,h3⟩:=Bp hj.ord ⟨i,hi,h⟩;have:=Ff hj.OA (hj.RG q h1) z h3
  simp_all
 intro i hi;cases l with
 | nil=>
  have:=hj.ok;exact u i<|this i hi
 | cons p l=>
  obtain⟨q,rc⟩:=p;obtain⟨hh,_⟩:=hj.ok;have:=Ff (listed:=listed) hj.OA hh.lt (fun h=>hh.new (hj.sub q h)) (fun j hw=>u j (hh.dep j hw))
  simp_all
theorem J_.finish (hs:Shape P ops A) (hj:J_ P G ih ops A n d fin ρ₀ σ₀ w₀ t₀ l done t V listed D w a) (u:∀i,i<ops.size->Li listed i):fin= .ok .normal t d V/\TR D t n a.tmps:=by
 cases l with
 | nil=>
  refine⟨hj.run.symm,hj.Rp,fun k v hv=>?_⟩
  by_cases hw:∃i,fG ops i=some k
  ·obtain⟨i,hi⟩:=hw;have hL:=u i (mZ hi);exact⟨hj.S7 i (hj.sub i hL) k hi,hj.FA i k v hL hi hv⟩
  rw[hj.same k fun i _ hi=>hw ⟨i,hi⟩] at hv;exact hj.Fz k v (fun i _ hi=>hw ⟨i,hi⟩) hv
 | cons p l=>
  obtain⟨q,rc⟩:=p;obtain⟨hh,_⟩:=hj.ok;exact absurd (hj.sub q<|u q hh.lt) hh.new
def left (N_:Nat) (listed:Array Bool):Nat:=(range N_).countP fun i=> !listed.getD i false
theorem AQ {α:Type} {p q:α->Bool}:∀{l:List α} {x:α},(∀y∈l,q y=true->p y=true)->x∈l->p x=true->q x=false->l.countP q<l.countP p
 | [],x,_,hx,_,_=>by cases hx
 | y::l,x,h,hx,hp,hq=>by
  have hle:l.countP q<=l.countP p:=List.countP_mono_left fun z u=>h z (mC_ _ u)
  rcases dE hx with rfl | hx
  ·grind
  have:=AQ (fun z u=>h z (mC_ _ u)) hx hp hq
  grind
theorem Mx {i:Nat} (hi:i<N_) (u:listed.size=N_) (hn:¬Li listed i):left N_ (listed.setIfInBounds i true)<left N_ listed:=by
 refine AQ (x:=i) (fun y _ hy=>?_) (List.mem_range.2 hi) ?_ ?_
 ·by_cases h:Li listed y
  ·have:Li (listed.setIfInBounds i true) y:=(F2 (by rw[u];exact hi)).2 (.inr h);unfold Li at this
   simp_all
  unfold Li at h;simpa using h
 ·unfold Li at hn;simpa using hn
 simp_all
theorem JP (h:left N_ listed=0):∀i,i<N_->Li listed i:=fun i hi=>by
 have:=List.countP_eq_zero.1 h i (List.mem_range.2 hi);unfold Li;simpa using this
theorem Inv.lay (hi:Inv D V w) {b:Pos} {l:Loc} {x:Obj} (hb:V.m.get b=some ob) (hn:D b=none) (aa:b.num<V.next.num) (hl:l.eK=w.heap.size) (L:iD D l ob x):Inv (D.with b l) V (w.alloc x)/\D.le (D.with b l):=by
 have hle:D.le (D.with b l):=fun b' l' u=>by
  grind [dD.eN]
 have hold:∀b' l',b'≠b->(D.with b l) b'=some l'->D b'=some l':=fun b' l' z h=>by rwa[dD.eN D l z] at h
 have B:Old (D.with b l) V (w.alloc x):=by
  refine⟨by have:=hi.oH.size;simp;omega,fun r hr=>by rw[heap_alloc_old w x<|zh_ hr hi.oH.size];exact hi.oH.same r hr,fun r hr ⟨b',o',l',h1,E,h3,h4⟩=>?_⟩
  by_cases e:b'=b
  ·subst e;rw[dD.dk] at h3;cases h3;have:=hi.oH.size;omega
  exact hi.oH.no r hr ⟨b',o',l',h1,E,hold b' l' e h3,h4⟩
 refine⟨⟨⟨fun b' u=>?_,fun b' l' u=>?_,fun b' o' l' u C=>?_,fun b₁ b₂ o₁ o₂ l₁ l₂ h1 E h3 h4 h5 M=>?_⟩,B⟩,hle⟩
 ·have z:b'≠b:=fun e=>by subst e;omega
  rw[dD.eN D l z];exact hi.fresh b' u
 ·simp only[World.size_alloc]
  by_cases e:b'=b
  ·subst e;rw[dD.dk] at u;cases u;omega
  have:=hi.eK b' l' (hold b' l' e u);omega
 ·by_cases e:b'=b
  ·subst e;rw[dD.dk] at C;cases C;rw[hb] at u;cases u;exact⟨x,by rw[hl];exact heap_alloc_new w x,L.mono hle⟩
  have h':=hold b' l' e C;obtain⟨y,Q,hr⟩:=hi.obj b' o' l' u h';exact⟨y,by rw[heap_alloc_old w x<|hi.eK b' l' h'];exact Q,hr.mono hle⟩
 by_cases e1:b₁=b<;>by_cases K:b₂=b
 ·simp_all
 ·subst e1;rw[dD.dk] at h3;cases h3;have:=hi.eK b₂ l₂ (hold b₂ l₂ K h4);omega
 ·subst K;rw[dD.dk] at h4;cases h4;have:=hi.eK b₁ l₁ (hold b₁ l₁ e1 h3);omega
 exact hi.inj b₁ b₂ o₁ o₂ l₁ l₂ h1 E (hold b₁ l₁ e1 h3) (hold b₂ l₂ K h4) h5 M
theorem fL.lay (O:fL ρ₀ σ₀ w₀ D V w) {b:Pos} {l:Loc} {x:Obj} (aa:σ₀.next.num<=b.num) (hl:l.eK=w.heap.size):fL ρ₀ σ₀ w₀ (D.with b l) V (w.alloc x):=by
 refine⟨fun b' u=>?_,O.next,by have:=O.size;simp;omega,fun r hr hn=>?_,?_,O.tape,O.os,O.out⟩
 ·rw[dD.eN D l (fun e=>by subst e;omega)];exact O.ext b' u
 ·rw[heap_alloc_old w x (by have:=O.size;omega)];exact O.frame r hr hn
 rintro r ⟨b',o',l',h1,z,h3,rfl⟩ hr
 by_cases e:b'=b
 ·subst e;rw[dD.dk] at h3;cases h3;have:=O.size;omega
 rw[dD.eN D l e] at h3;exact O.wr _ ⟨b',o',l',h1,z,h3,Z⟩ hr
theorem J_.take (L:Shape P ops A) (hj:J_ P G ih ops A n d fin ρ₀ σ₀ w₀ t₀ l done t V listed D w a) {i:Nat} (C:i∈done) (hn:¬Li listed i) (hw:∀j,waits ops i j=true->Li listed j) (rl:Option Nat) (m:Nat) {K:Act->x_->Prop}
  (T:∀ρ₁ w₁ a₁,J_ P G ih ops A n d fin ρ₀ σ₀ w₀ t₀ l done t V (listed.setIfInBounds i true) ρ₁ w₁ a₁->K a₁ w₁):wpOpIn (pU rl) m P ops Q i K a w:=by
 have hr:=yc L (hj.RG i C) hw hj.closed;obtain⟨o,ti,E,h1,h2,bw,h3,h4,h5⟩:=hj.E6 i C hn;have hlook:=hj.look L E hn hr h1 h2;unfold wpOpIn;rw[E];dsimp only;rw[w9 hj.Rp hlook h3];cases bw with
 | false=>
  simp only[zi_,if_false];exact⟨fun f _=>r5 rl f,T D w _<|hj.behind L E C hn hr (fun k v hk hv=>by rw[h4 Z k hk] at hv;cases hv;exact xC) hj.inv hj.Rl (fun _ _ h=>h) fun j z B _=>hj.E6 j z B⟩
 | true=>
  simp only[if_true];have W:ER D (bz G ti) a.eval o.op:=Ih hj.gr hlook;have hv:=h5 Z;unfold nK at hv;have M:kindOf P o.op≠ .ld->∀c,o.op≠ .defer c:=fun hk c e=>hk (by rw[e];rfl)
  unfold Oper.wpIn;refine⟨fun f _=>r5 rl f,?_⟩;cases hk:kindOf P o.op with
  | ld=>simp_all
  | pure=>
   rw[hk] at hv;obtain⟨v,g1,X⟩:=hv;obtain⟨x,hx,R⟩:=zJ (P:=P) (w:=w) W g1;rw[Oper.semAt_eq _ _ _<|M (by rw[hk];simp),hx,Oper.uponIn_value];exact T D w _<|hj.behind L E C hn hr (fun k u hk hu=>by simp_all) hj.inv hj.Rl (fun _ _ h=>h) fun j z B _=>hj.E6 j z B
  | read=>
   rw[hk] at hv;obtain⟨v,g1,X⟩:=hv;obtain⟨x,hx,R⟩:=zQ (P:=P) hj.inv W g1;rw[Oper.semAt_eq _ _ _<|M (by rw[hk];simp),hx,Oper.uponIn_value];exact T D w _<|hj.behind L E C hn hr (fun k u hk hu=>by simp_all) hj.inv hj.Rl (fun _ _ h=>h) fun j z B _=>hj.E6 j z B
  | alloc=>
   rw[hk] at hv;obtain⟨ob,mk,b,g1,X,g3,g4,g5,g6⟩:=hv;obtain⟨x,ob',c,hx,am,aa,R⟩:=wE (P:=P) (w:=w) W g1;rw[Oper.semAt_eq _ _ _<|M (by rw[hk];simp),hx,Oper.uponIn_value];obtain⟨inv,hle⟩:=hj.inv.lay (l:=⟨w.heap.size,0,c⟩) X g3 g5 Z aa;obtain⟨kd,S⟩:=L.dst i o E (by simp[gO,wb,E,hk]);refine T _ _ _<|hj.behind L E C hn hr (fun k u hk hu=>by grind [dD.dk]) inv (hj.Rl.lay g4 Z) hle fun j z B ab=>?_;refine(hj.E6 j z B).WL L fun b' ac hb'n=>?_
   obtain⟨o',k',v',q1,q2,q3,q4,q5⟩:=ac;rw[dD.eN]
   ·exact hb'n
   intro e;subst e;exact ab<|hj.apart j i o' o k' kd v' (mk.of b') b' z C B hn q1 E q2 hk q3 (by rw[jt E];exact S) q4 (g6 kd S) q5<|Cl mk b'
theorem LA (E:Shape P ops A) (hS:Sound P G ih) (rl:Option Nat) (m:Nat) {e:Ex} {t':PT U} {d':List DE} {V':aF} (B:fin= .ok e t' d' V')
  (hQ:∀(D':dD) (w':x_) (a':Act),Inv D' V' w'->fL ρ₀ σ₀ w₀ D' V' w'->TR D' t' n a'.tmps->DR D' d' a'.defers->Qx Q D' e a' w'):
  ∀(fuel:Nat) (l:List (Nat×List Nat)) (done:List Nat) (t:PT U) (V:aF) (listed:Array Bool) (D:dD) (w:x_) (a:Act),J_ P G ih ops A n d fin ρ₀ σ₀ w₀ t₀ l done t V listed D w a->left ops.size listed<=fuel->
   wpAnyIn (pU rl) m P .any ops Q fuel listed a w:=by
 have K:∀{l done t V listed D w a},J_ P G ih ops A n d fin ρ₀ σ₀ w₀ t₀ l done t V listed D w a->Region.ready .any ops listed= []->Q .normal a w:=fun {l done t V listed D w a} hj hr=>by
  obtain⟨h1,T⟩:=hj.finish E (hj.all E hr);rw[B] at h1;cases h1;exact hQ D w a hj.inv hj.Rl T hj.dr _ Z
 intro fuel;induction fuel with
 | zero=>
  intro l done t V listed D w a hj hf;have hall:=JP (Nat.le_zero.1 hf)
  have hr:Region.ready .any ops listed= []:=by
   apply List.eq_nil_iff_forall_not_mem.2;intro i hi;obtain⟨h1,T,_⟩:=Fg hj.OA hi;exact T<|hall i h1
  exact⟨hr,K hj hr⟩
 | succ fuel ihf=>
  intro l done t V listed D w a hj hf;refine⟨fun hr=>K hj hr,fun i hi=>?_⟩;obtain⟨l,done,t,V,hj,L⟩:=J_.advance E (fun k=>by rw[B];simp) l done t V hj;obtain⟨z,hn,hw⟩:=Fg hj.OA hi;have M:left ops.size (listed.setIfInBounds i true)<=fuel:=by have:=Mx z hj.OA hn;omega
  by_cases R:i∈done
  ·exact hj.take E R hn hw rl m fun ρ₁ w₁ a₁ hj₁=>ihf _ _ _ _ _ _ _ _ hj₁ M
  
  rcases L with rfl | ⟨q,rc,r,rfl,hl⟩
  ·have:=hj.ok;exact absurd (this i z) R
  obtain⟨hh,_⟩:=hj.ok
  have X:i=q:=zo_ fun aa=>by
   obtain⟨x,h1,T⟩:=hh.alone hl i z R aa;exact T<|hj.sub x<|hw x h1
  subst X;have hr:=yc E z hw hj.closed;obtain⟨o,S⟩:∃o,ops[i]? =some o:=⟨ops[i]' z,aG_ z⟩;have hlook:=hj.look E S hn hr (ti:=t) (fun _ _ _ _ _=>Z) (hj.y3 E S hh.new)
  have u:(match ops[i]? with
   | some o=>jz P G ih false ops n o t V (fun t' V'=>bif dA P G ops t' V' rc then kL P G ih ops n d r t' V' else .err 86)
   | none=>.err 87)=fin:=hj.run
  rw[S,B] at u;dsimp only at u
  have C:∀t₁ σ₁,(bif dA P G ops t₁ σ₁ rc then kL P G ih ops n d r t₁ σ₁ else .err 86)= .ok e t' d' V'->dA P G ops t₁ σ₁ rc=true/\kL P G ih ops n d r t₁ σ₁=fin:=fun t₁ σ₁ h=>by
   grind
  unfold jz at u;unfold wpOpIn;rw[S];dsimp only;cases W:bK ops t o with
  | none=>simp_all
  | some bw=>
   rw[W] at u;rw[w9 hj.Rp hlook W];cases bw with
   | false=>
    dsimp only at u;simp only[zi_,if_false];cases hp:dG t n o.dst unit with
    | none=>simp_all
    | some t₁=>
     rw[hp] at u;obtain⟨c1,c2⟩:=C _ _ u;exact⟨fun f _=>r5 rl f,ihf _ _ _ _ _ _ _ _ (hj.Uq E hl S hr hp c1 c2 xC hj.inv<|fL.refl _ _ _) M⟩
   | true=>
    dsimp only at u;simp only[if_true];cases he:mD P G ih (dX P G (bz G t) V o.op) with
    | err k=>simp_all
    | nt v σ₁=>rw[he] at u;cases u
    | ret v σ₁=>
     rw[he] at u;dsimp only at u;cases hp:dG t n o.dst v with
     | none=>simp_all
     | some t₁=>
      rw[hp] at u;obtain⟨c1,c2⟩:=C _ _ u;exact EW hS hj.inv hj.gr (Ih hj.gr hlook) he rl m fun ρ₁ w₁ x inv st hv=>ihf _ _ _ _ _ _ _ _ (hj.Uq E hl S hr hp c1 c2 hv inv st) M
end
variable {xs:Array j_} {fuel:Nat} {D:dD} {ih:lR}
section
variable {P:q6} {G:Cx}
theorem kg {b:Frame} {a:Act} {k:List Item} {cs:List Frame} {w:x_} {c:Code}:step P (lone (b.atR a (.code (.scope c)::k)) cs w)= .next (lone (b.atR a (.code c:: .inScope c::k)) cs w):=
 step_lone_go (by simp[stepG,stepG.exec,Frame.atR])
theorem Aw {b:Frame} {a:Act} {k:List Item} {cs:List Frame} {w:x_} {c:Code}:step P (lone (b.atR a (.inScope c::k)) cs w)= .next (lone (b.atR a k) cs w):=
 step_lone_go (by simp[stepG,stepG.exec,Frame.atR])
theorem HH {F_:Fence} {n:Nat} {c:Code} {a:Act} {w:x_} (h:c.wpIn F_ n P (Exit.noGoto Q) a w):(Code.scope c).wpIn F_ n P Q a w:=by
 intro b k cs u hb hr;have h0:(lone (b.atR a (.code (.scope c)::k)) cs w).fenced P F_:=fenced_calm hb hr Z;obtain⟨e,a₁,w₁,hq,d⟩:=h b (.inScope c::k) cs u hb hr;cases e with
 | normal=>exact⟨.normal,a₁,w₁,hq,.head h0 kg<|StepsIn.trans d (.one (fenced_calm hb hr Z) Aw)⟩
 | exit id'=>
  have hx:exitTo id' (.inScope c::k)=exitTo id' k:=by simp[exitTo]
  exact⟨.exit id',a₁,w₁,hq,fun k' hk=>.head h0 kg (d.1 k' (by rw[hx];exact hk)),
   fun z hk=>let ⟨k₁,h1,A⟩:=d.2 z (by rw[hx];exact hk);⟨k₁,h1,.head h0 kg A⟩⟩
 | goto l=>exact hq.elim
 | ret=>exact⟨_,a₁,w₁,hq,.of_steps (.one h0 kg) d⟩
 | panic ch=>exact⟨_,a₁,w₁,hq,.of_steps (.one h0 kg) d⟩
 | outgrown=>exact⟨_,a₁,w₁,hq,.of_steps (.one h0 kg) d⟩
theorem lu {i:Nat}:¬Li (Array.replicate N_ false) i:=by
 unfold Li;rw[Array.getD_eq_getD_getElem?,Array.getElem?_replicate];split<;>simp
theorem Gp (C:Sound P G ih) {n:Nat} {d:List DE} {t:PT U} {e:Ex} {t':PT U} {d':List DE} {V':aF} (h:wP P G ih ops n d t V= .ok e t' d' V')
  {w:x_} {a:Act} (hi:Inv D V w) (E:GR D G) (B:TR D t n a.tmps) (K:DR D d a.defers) (rl:Option Nat) (m:Nat) 
  (L:∀(D':dD) (w':x_) (a':Act),Inv D' V' w'->fL D V w D' V' w'->TR D' t' n a'.tmps->DR D' d' a'.defers->Qx Q D' e a' w'):
  wpAnyIn (pU rl) m P .any ops Q ops.size (Array.replicate ops.size false) a {w with drawn:=w.drawn+1}:=by
 unfold wP at h;rw[bZ] at h;split at h
 ·rename_i M;obtain⟨R,z⟩:=Ph M;refine LA (A:=Ce P ops) (n:=n) (d:=d) (t₀:=t) (ρ₀:=D) (σ₀:=V) (w₀:=w) R C rl m Z L ops.size (mi P ops) [] t V _ D _ a ?_ ?_
  ·refine⟨h,z,hi.drew,fL.drew D V w,K,E,B.1,by simp,fun i hi=>(by cases hi),trivial,fun i u=>absurd u lu,fun i hi=>(by cases hi),fun i j _ u=>absurd u lu,fun i j _ hi=>(by cases hi),fun i hi=>(by cases hi),
    fun i k v u=>absurd u lu,fun k v _ hv=>B.2 k v hv,fun _ _=>Z,fun i hi=>(by cases hi),?_⟩
   simp_all
  exact Nat.le_trans List.countP_le_length (by simp)
 cases h
theorem z7 {K:Act->x_->Prop} {e:Ex} {a:Act} {w:x_} (he:e≠ .normal) (h:Qx Q D e a w):Qx (Exit.then K Q) D e a w:=by
 intro E d;have h':=h E d;cases e with
 | normal=>exact absurd Z he
 | nt v=>obtain⟨x,rfl,_⟩:=d;exact h'
 | exit i=>have d:E= .exit i:=d;subst d;exact h'
 | goto i=>have d:E= .goto i:=d;subst d;exact h'
 | ret=>have d:E= .ret:=d;subst d;exact h'
theorem Kk (hm:P.follows .mixedOrders=true) (W:DB P G) (k:Nat):Sound P G (fb P G k):=by
 induction k using Nat.strongRecOn with
 | _ k ihk=>
  cases k with
  | zero=>exact⟨W,fun c t n d ro V e t' d' V' h=>by cases h⟩
  | succ j=>
   have hS:=ihk j (Nat.lt_succ_self j);refine⟨W,fun c t n d ro V e t' d' V' h D w a rl m Q hi L K M hr C=>?_⟩;have h:IS P G (fb P G j) c t n d ro V= .ok e t' d' V':=h;cases c with
   | skip=>cases h;exact wpIn_skip<|C D w a hi (fL.refl _ _ _) K M _ Z
   | label l=>cases h;exact wpIn_label<|C D w a hi (fL.refl _ _ _) K M _ Z
   | exit id=>cases h;exact wpIn_exit<|C D w a hi (fL.refl _ _ _) K M _ Z
   | ret=>cases h;exact wpIn_ret<|C D w a hi (fL.refl _ _ _) K M _ Z
   | region id ops draw=>
    cases draw with
    | false=>
     have h':(bif nj ops.toList then .err 96 else Em d (wg P G (fb P G j) ops n d ops.toList t V))= .ok e t' d' V':=h;refine wpIn_region ?_;rw[bZ] at h';split at h'
     ·cases h'
     have:=wh hS rl (m:=m) (Q:=Q) ops.toList 0 Z t V D w a h' hi L K M C;rw[List.range_eq_range'];simpa using this
    | true=>
     have h':wP P G (fb P G j) ops n d t V= .ok e t' d' V':=h
     grind [wpIn_region_any,Gp]
   | seq x y=>
    have h':Av (fb P G j x t n d ro V) (fun t d V=>fb P G j y t n d ro V)= .ok e t' d' V':=h;refine wpIn_seq ?_;cases hx:fb P G j x t n d ro V with
    | err q=>rw[hx] at h';cases h'
    | ok e₁ t₁ d₁ σ₁=>
     rw[hx] at h'
     by_cases he:e₁= .normal
     ·subst he;refine hS.run x t n d ro V _ t₁ d₁ σ₁ hx D w a rl m _ hi L K M hr fun ρ₁ w₁ a₁ i₁ s₁ u A E B=>?_
      have B:E= .normal:=B;subst B;have hle:=s₁.le hi;exact hS.run y t₁ n d₁ ro σ₁ e t' d' V' h' ρ₁ w₁ a₁ rl m Q i₁ (L.mono hle) u A (hr.mono hle) fun D' w' a' i' s'=>C D' w' a' i' (s₁.trans s')
     have h'':CR.ok e₁ t₁ d₁ σ₁= .ok e t' d' V':=by cases e₁<;>first | exact absurd rfl he | exact h'
     cases h'';exact hS.run x t n d ro V _ _ _ _ hx D w a rl m _ hi L K M hr fun ρ₁ w₁ a₁ i₁ s₁ u A=>z7 he (C ρ₁ w₁ a₁ i₁ s₁ u A)
   | cond x y z=>
    have h':AO (bz G t x) (fb P G j y t n d ro V) (fb P G j z t n d ro V)= .ok e t' d' V':=h;unfold AO at h';split at h'
    ·rename_i hv;have:=lk (a:=a) L K hv;simp only[VR] at this;exact wpIn_cond_true this<|hS.run y t n d ro V e t' d' V' h' D w a rl m Q hi L K M hr C
    ·rename_i hv;have:=lk (a:=a) L K hv;simp only[VR] at this;exact wpIn_cond_false this<|hS.run z t n d ro V e t' d' V' h' D w a rl m Q hi L K M hr C
    cases h'
   | block id x=>
    have h':vN id (fb P G j x t n d ro V)= .ok e t' d' V':=h;refine wpIn_block ?_;cases hx:fb P G j x t n d ro V with
    | err q=>rw[hx] at h';cases h'
    | ok e₁ t₁ d₁ σ₁=>
     rw[hx] at h';refine hS.run x t n d ro V e₁ t₁ d₁ σ₁ hx D w a rl m _ hi L K M hr fun ρ₁ w₁ a₁ i₁ s₁ u A E B=>?_
     cases e₁ with
     | exit q=>
      have B:E= .exit q:=B;subst B;unfold vN at h';dsimp only at h';rw[bZ] at h';split at h'
      ·rename_i hq;cases h';have:=nB hq;subst this;simp only[Exit.inBlock,if_true];exact C ρ₁ w₁ a₁ i₁ s₁ u A _ Z
      rename_i hq;cases h';have T:¬q=id:=fun e=>hq (by simp_all)
      simp only[Exit.inBlock,if_neg T];exact C ρ₁ w₁ a₁ i₁ s₁ u A _ Z
     | normal=>have B:E= .normal:=B;subst B;cases h';exact C ρ₁ w₁ a₁ i₁ s₁ u A _ Z
     | goto q=>have B:E= .goto q:=B;subst B;cases h';exact C ρ₁ w₁ a₁ i₁ s₁ u A _ Z
     | ret=>have B:E= .ret:=B;subst B;cases h';exact C ρ₁ w₁ a₁ i₁ s₁ u A _ Z
     | nt v=>cases h';have h2:=C ρ₁ w₁ a₁ i₁ s₁ u A E B;obtain⟨y,rfl,_⟩:=B;exact h2
   | scope x=>
    have h':wu (fb P G j x t n d ro V)= .ok e t' d' V':=h;refine HH ?_;cases hx:fb P G j x t n d ro V with
    | err q=>rw[hx] at h';cases h'
    | ok e₁ t₁ d₁ σ₁=>
     rw[hx] at h';refine hS.run x t n d ro V e₁ t₁ d₁ σ₁ hx D w a rl m _ hi L K M hr fun ρ₁ w₁ a₁ i₁ s₁ u A E B=>?_
     cases e₁ with
     | goto q=>cases h'
     | normal=>have B:E= .normal:=B;subst B;cases h';exact C ρ₁ w₁ a₁ i₁ s₁ u A _ Z
     | exit q=>have B:E= .exit q:=B;subst B;cases h';exact C ρ₁ w₁ a₁ i₁ s₁ u A _ Z
     | ret=>have B:E= .ret:=B;subst B;cases h';exact C ρ₁ w₁ a₁ i₁ s₁ u A _ Z
     | nt v=>cases h';have h2:=C ρ₁ w₁ a₁ i₁ s₁ u A E B;obtain⟨y,rfl,_⟩:=B;exact h2
   | loop x=>
    refine wpIn_loop_ghost (fun i a₁ w₁=>i<=j+1/\∃t₁ d₁ σ₁ ρ₁,fb P G i (.loop x) t₁ n d₁ ro σ₁= .ok e t' d' V'/\Inv ρ₁ σ₁ w₁/\fL D V w ρ₁ σ₁ w₁/\TR ρ₁ t₁ n a₁.tmps/\DR ρ₁ d₁ a₁.defers) (j+1)
     ⟨nR_ _,t,d,V,D,h,hi,fL.refl _ _ _,K,M⟩ fun i a₁ w₁ X=>?_
    obtain⟨aa,t₁,d₁,σ₁,ρ₁,R,i₁,s₁,u,A⟩:=X;have hle:=s₁.le hi;cases i with
    | zero=>cases R
    | succ i=>
     have hSi:=ihk i oM;have h':Av (fb P G i x t₁ n d₁ ro σ₁) (fun t d V=>fb P G i (.loop x) t n d ro V)= .ok e t' d' V':=R;cases hx:fb P G i x t₁ n d₁ ro σ₁ with
     | err q=>rw[hx] at h';cases h'
     | ok e₂ t₂ d₂ σ₂=>
      rw[hx] at h'
      by_cases he:e₂= .normal
      ·subst he;refine hSi.run x t₁ n d₁ ro σ₁ _ t₂ d₂ σ₂ hx ρ₁ w₁ a₁ rl m _ i₁ (L.mono hle) u A (hr.mono hle) fun ρ₂ w₂ a₂ i₂ s₂ ht₂ S E B=>?_
       have B:E= .normal:=B;subst B;exact⟨i,Nat.lt_succ_self i,by omega,t₂,d₂,σ₂,ρ₂,h',i₂,s₁.trans s₂,ht₂,S⟩
      have h'':CR.ok e₂ t₂ d₂ σ₂= .ok e t' d' V':=by cases e₂<;>first | exact absurd rfl he | exact h'
      cases h'';exact hSi.run x t₁ n d₁ ro σ₁ _ _ _ _ hx ρ₁ w₁ a₁ rl m _ i₁ (L.mono hle) u A (hr.mono hle) fun ρ₂ w₂ a₂ i₂ s₂ ht₂ S=>z7 he (C ρ₂ w₂ a₂ i₂ (s₁.trans s₂) ht₂ S)
   | _=>cases h
theorem qV (hm:P.follows .mixedOrders=true) (d:DB P G) {f:Nat} {args:List U} {V':aF} {v:U} (h:yG P G fuel f args V= .ret v V') {w:x_} (hi:Inv D V w) (u:GR D G) (hx:dN D args xs.toList)
  {R:Ending->x_->Prop} (z:∀(D':dD) (w':x_) (x:j_),Inv D' V' w'->fL D V w D' V' w'->VR D' v x->R (.returned x) w'):Calls P f xs w R:=
 callsIn_wide.1 (yh (Kk hm d fuel) h hi u hx none 0 z)
def σ0:aF:=⟨0,.leaf⟩
end
end Go.Ev
namespace Go.Ev
variable [Env] {H_:Type} {ds gs:List (w_ H_)} {before pa:List MemPlace} {P:q6} {enc:y_×j_->H_}
open Go.ChangeShapes Go.WideShapes Go.ChangeAt Go.RowKit
theorem kY.kept {w w':x_} (h:kY w w') (may:MemPlace->Prop):w.keptBut w' may:=by
 refine⟨h.os,h.out,fun i hi=>?_⟩;rw[h.same i hi]
 grind
theorem kY.frozen {w w':x_} (h:kY w w') (a:Addr) (d:a.block<w.heap.size):w'.frozen? a=w.frozen? a:=by
 unfold World.frozen?;rw[h.same a.block d]
theorem Hk {f:Func} {s:ChangeSpec} {apart fresh handsOn again:Bool} {W W':x_} {args:Array j_} {v:j_} {pv:List MemPlace}
  (A:DataW.Whole enc P f.params.toList s.vars apart W args.toList ds gs before)
  (w:∀(b:Nat) (sp:Nat->Bool) (C:Bool),DataW.TrodAll enc P W' b sp C f.resultTypes.toList (v.resultList f.resultTypes.size) (s.fn H_ (ds++gs)).results [])
  (d:∀sp:Nat->Bool,(∀p∈before,sp p.block=true)->DataW.TrodAll enc P W' 0 sp true f.params.toList args.toList (s.fn H_ (ds++gs)).args pa)
  (u:∀sp:Nat->Bool,(∀p∈before,sp p.block=true)->DataW.TrodVars enc P W' sp s.vars (s.fn H_ (ds++gs)).vars pv)
  (aa:before=pa++pv) (hk:kY W W')
  (B:∀(j:Nat) (t:y_) (r:j_),f.resultTypes[j]? =some t->(v.resultList f.resultTypes.size)[j]? =some r->Value.okWide P W' .any 0 t r):
  s.post enc P f apart fresh handsOn again W args v W':=by
 have hold:∀p∈before,(fun b=>decide (b<W.heap.size)) p.block=true:=fun p hp=>by simpa using A.lt p hp
 refine⟨ds,gs,before,[],pa,pv,A,w _ _ _,d _ hold,u _ hold,hk.kept _,fun _=>?_⟩;have hlt:=A.lt;obtain⟨_,_,_,_,_,E,hn⟩:=A;refine⟨B,_,_,([]++pa)++pv,⟨[]++pa,pv,trodAll_append (d _ (fun _ _=>Z))<|w _ _ _,u _ (fun _ _=>Z),Z,?_,?_⟩,?_⟩
 ·intro b off hp;have z:MemPlace.cell b off∈before:=by simp_all
  rw[hk.frozen _<|hlt _ z];exact E b off z
 ·simp_all
 simp_all
end Go.Ev
namespace Go.Ev
variable [Env]
variable {G:Cx} {j:Nat} {P:q6}
structure IK where
 k:w0
 n:Int
structure PO where
 b:Pos
 off:Nat
structure SL where
 b:Pos
 off:Nat
 len:Nat
def S6:U->Option IK
 | .int k n=>some ⟨k,n⟩
 | _=>none
def UZ:U->Option PO
 | .ptr b off=>some ⟨b,off⟩
 | _=>none
def Wu:U->Option SL
 | .slice b off len _=>some ⟨b,off,len⟩
 | _=>none
def Wt:U->Option Nat
 | .int _ (.ofNat i)=>some i
 | _=>none
def Ws:U->Option Bool
 | .bool b=>some b
 | _=>none
def Wv:U->Option (List U)
 | .tuple l=>some l
 | _=>none
def rowOf:cU->Option (List U)
 | .row cells _ _=>some cells
 | .own cells _=>some cells
 | _=>none
theorem DL {v:U} {i:IK} (h:S6 v=some i):v= .int i.k i.n:=by
 unfold S6 at h;grind
def qA (V:aF) (e:Nat) (v:Option U):HR:=Option.rec (motive:=fun _=>HR) (.err e) (fun v=>.val v V) v
theorem om (V:aF) (e:Nat) (v:Option U):qA V e v=match v with | some v=>.val v V | none=>.err e:=by cases v<;>rfl
structure VP where
 run:PT U->Option U
def pj (G:Cx) (x:q_):VP:=
 match x with
 | .tmp k=>bif ble k 255 then⟨fun t=>lZ t.s k⟩ else⟨fun t=>t.get k⟩
 | .const v=>⟨fun _=>ra v⟩
 | .global g=>⟨fun _=>bif ble (Nat.succ g) G.gl then some (.ptr (posOf g) 0) else none⟩
 | .func f=>⟨fun _=>some (.func f [] [])⟩
theorem jH (G:Cx) (x:q_) (t:PT U):(pj G x).run t=bz G t x:=by
 cases x with
 | tmp k=>
  show(bif ble k 255 then(⟨fun t=>lZ t.s k⟩:VP) else⟨fun t=>t.get k⟩).run t=t.get k
  grind [PT.td,pP]
 | _=>rfl
structure VN where
 run:U->U->Option U
def Mg (P:q6) (q:Bool) (o:BinOp) (ty:y_) (f:w0->Int->Int->U) (a b:U):Option U:=
 Option.rec (motive:=fun _=>Option U) (qx P q o ty a b) (fun i=>Option.rec (motive:=fun _=>Option U) (qx P q o ty a b) (fun j=>bif uH i.k j.k then some (f i.k i.n j.n) else none) (S6 b)) (S6 a)
theorem R6 {q:Bool} {o:BinOp} {ty:y_} {f:w0->Int->Int->U} (h:∀k x k' y,qx P q o ty (.int k x) (.int k' y)=bif uH k k' then some (f k x y) else none) (a b:U):Mg P q o ty f a b=qx P q o ty a b:=by
 unfold Mg;cases d:S6 a with
 | none=>rfl
 | some i=>
  cases hb:S6 b with
  | none=>rfl
  | some j=>
   rw[DL d,DL hb,h]
def WG (_:w0) (x y:Int):U:=.bool (cM x y)
def WD (_:w0) (x y:Int):U:=.bool (cM y x)
def Oz (_:w0) (x y:Int):U:=.bool (bif cM y x then false else true)
def WC (_:w0) (x y:Int):U:=.bool (bif cM x y then false else true)
def WA (_:w0) (x y:Int):U:=.bool (N x y)
def WI (_:w0) (x y:Int):U:=.bool (bif N x y then false else true)
def UY (k:w0) (x y:Int):U:=.int k (wr k<|Int.add x y)
def VK (k:w0) (x y:Int):U:=.int k (wr k<|Int.sub x y)
def Vg (k:w0) (x y:Int):U:=.int k (wr k<|Int.mul x y)
def Tl (P:q6) (q:Bool) (o:BinOp) (ty:y_):VN:=
 match o with
 | .lss=>⟨Mg P q .lss ty WG⟩
 | .gtr=>⟨Mg P q .gtr ty WD⟩
 | .leq=>⟨Mg P q .leq ty Oz⟩
 | .geq=>⟨Mg P q .geq ty WC⟩
 | .eql=>⟨Mg P q .eql ty WA⟩
 | .neq=>⟨Mg P q .neq ty WI⟩
 | .add=>⟨Mg P q .add ty UY⟩
 | .sub=>⟨Mg P q .sub ty VK⟩
 | .mul=>⟨Mg P q .mul ty Vg⟩
 | o=>⟨fun a b=>qx P q o ty a b⟩
theorem RD (P:q6) (q:Bool) (o:BinOp) (ty:y_) (a b:U):(Tl P q o ty).run a b=qx P q o ty a b:=by
 cases o<;>first | rfl | exact R6 (fun _ _ _ _=>Z) a b
def Tj (c:VN) (x y:Option U):Option U:=
 Option.rec (motive:=fun _=>Option U) none (fun a=>Option.rec (motive:=fun _=>Option U) none (fun b=>c.run a b) y) x
def Iw (c a b:Option U):Option U:=
 Option.rec (motive:=fun _=>Option U) none (fun c=>Option.rec (motive:=fun _=>Option U) none (fun c=>bif c then a else b) (Ws c)) c
def Tq (i:Nat) (x:Option U):Option U:=
 Option.rec (motive:=fun _=>Option U) none (fun x=>Option.rec (motive:=fun _=>Option U) none (fun l=>nth l i) (Wv x)) x
def Vf (ag:Option (Option Nat)) (cells:List U) (off:Nat):Option U:=
 Option.rec (motive:=fun _=>Option U) none (fun o=>Option.rec (motive:=fun _=>Option U) (nth cells off) (fun n=>bif ble (Nat.add off n) (dK cells) then some (.agg<|takeN (eP cells off) n) else none) o) ag
def EM (ag:Option (Option Nat)) (V:aF) (x:Option U):Option U:=
 Option.rec (motive:=fun _=>Option U) none (fun v=>Option.rec (motive:=fun _=>Option U) none (fun p=>Option.rec (motive:=fun _=>Option U) none
  (fun o=>Option.rec (motive:=fun _=>Option U) none (fun cells=>Vf ag cells p.off) (rowOf o)) (V.m.get p.b))<|UZ v) x
def oX (P:q6) (s:y_) (i:Nat):Option Nat:=
 match structOf P s with
 | some fs=>match fs[i]? with
  | some f=>match wX P f.type with
   | some j=>bif Nat.beq j.size 0 then none else some f.offset
   | none=>none
  | none=>none
 | none=>none
def Uw (k:Option Nat) (x:Option U):Option U:=
 Option.rec (motive:=fun _=>Option U) none (fun k=>Option.rec (motive:=fun _=>Option U) none (fun v=>Option.rec (motive:=fun _=>Option U) none (fun p=>some (.ptr p.b<|Nat.add p.off k)) (UZ v)) x) k
structure IA where
 n:Option Nat
 sz:Nat
def y4 (P:q6) (t:y_):Option IA:=
 match ql P t with
 | some (.slice e)=>match wX P e with | some j=>some ⟨none,j.size⟩ | none=>none
 | some (.array n e)=>match wX P e with | some j=>some ⟨some n,j.size⟩ | none=>none
 | _=>none
def Ve (q:IA) (v:U) (i:Nat):Option U:=
 Option.rec (motive:=fun _=>Option U)
  (Option.rec (motive:=fun _=>Option U) none (fun s=>bif ble (Nat.succ i) s.len then some (.ptr s.b<|Nat.add s.off<|Nat.mul i q.sz) else none)<|Wu v)
  (fun n=>Option.rec (motive:=fun _=>Option U) none (fun p=>bif ble (Nat.succ i) n then some (.ptr p.b<|Nat.add p.off<|Nat.mul i q.sz) else none) (UZ v)) q.n
def Uy (q:Option IA) (x i:Option U):Option U:=
 Option.rec (motive:=fun _=>Option U) none (fun q=>Option.rec (motive:=fun _=>Option U) none (fun v=>Option.rec (motive:=fun _=>Option U) none
  (fun w=>Option.rec (motive:=fun _=>Option U) none (fun i=>Ve q v i) (Wt w)) i) x) q
structure UU where
 run:PT U->aF->HR
def DV (P:q6) (G:Cx) (V:aF) (f:Option U) (args:Option (List U)):HR:=
 Option.rec (motive:=fun _=>HR) (.err 12) (fun g=>Option.rec (motive:=fun _=>HR) (.err 12) (fun args=>AE P G.ov V g args) args) f
def Jw (G:Cx) (l:List q_) (t:PT U):Option (List U):=dv (fun x=>(pj G x).run t) l
def PI (P:q6) (G:Cx) (op:Op):UU:=
 match op with
 | .move x=>⟨fun t V=>qA V 1001 ((pj G x).run t)⟩
 | .assign x=>⟨fun t V=>qA V 1002 ((pj G x).run t)⟩
 | .pick c a b=>⟨fun t V=>qA V 1003 (Iw ((pj G c).run t) ((pj G a).run t) ((pj G b).run t))⟩
 | .binOp o ty x y _=>⟨fun t V=>qA V 1014 (Tj (Tl P (Bj x || Bj y) o ty) ((pj G x).run t) ((pj G y).run t))⟩
 | .extract x i=>⟨fun t V=>qA V 1036 (Tq i ((pj G x).run t))⟩
 | .load ty x=>⟨fun t V=>qA V 2009 (EM (eo P ty) V ((pj G x).run t))⟩
 | .fieldAddr s x i=>⟨fun t V=>qA V 1024 (Uw (oX P s i) ((pj G x).run t))⟩
 | .indexAddr ty x i=>⟨fun t V=>qA V 1026 (Uy (y4 P ty) ((pj G x).run t) ((pj G i).run t))⟩
 | .call c=>match c.callee with
  | .value f=>⟨fun t V=>DV P G V ((pj G f).run t) (Jw G c.args.toList t)⟩
  | _=>⟨fun t V=>dX P G (bz G t) V (.call c)⟩
 | op=>⟨fun t V=>dX P G (bz G t) V op⟩
theorem MR (P:q6) (G:Cx) (op:Op) (t:PT U) (V:aF):(PI P G op).run t V=dX P G (bz G t) V op:=by
 cases op with
 | move x=>show qA V 1001 ((pj G x).run t)=_;rw[jH,om];rfl
 | assign x=>show qA V 1002 ((pj G x).run t)=_;rw[jH,om];rfl
 | pick c a b=>
  show qA V 1003 (Iw ((pj G c).run t) ((pj G a).run t) ((pj G b).run t))=_;rw[jH,jH,jH,om]
  have:Iw (bz G t c) (bz G t a) (bz G t b)=dO P (bz G t) (.pick c a b):=by
   simp only[dO,Iw];cases bz G t c with
   | none=>rfl
   | some v=>cases v<;>first | rfl | (rename_i b;cases b<;>rfl)
  rw[this];rfl
 | binOp o ty x y r=>
  show qA V 1014 (Tj (Tl P (Bj x || Bj y) o ty) ((pj G x).run t) ((pj G y).run t))=_;rw[jH,jH,om]
  have:Tj (Tl P (Bj x || Bj y) o ty) (bz G t x) (bz G t y)=dO P (bz G t) (.binOp o ty x y r):=by
   simp only[dO,Tj];cases bz G t x with
   | none=>rfl
   | some v=>
    cases bz G t y with
    | none=>rfl
    | some u=>exact RD P _ o ty v u
  rw[this];rfl
 | extract x i=>
  show qA V 1036 (Tq i ((pj G x).run t))=_;rw[jH,om]
  have:Tq i (bz G t x)=dO P (bz G t) (.extract x i):=by
   simp only[dO,Tq];cases bz G t x with
   | none=>rfl
   | some v=>cases v<;>rfl
  rw[this];rfl
 | load ty x=>
  show qA V 2009 (EM (eo P ty) V ((pj G x).run t))=_;rw[jH,om]
  have:EM (eo P ty) V (bz G t x)=ie P (bz G t) V (.load ty x):=by
   simp only[ie,EM];cases bz G t x with
   | none=>rfl
   | some v=>
    cases v<;>first | rfl | skip
    rename_i b off;show Option.rec (motive:=fun _=>Option U) none _ (V.m.get b)=_;cases hb:V.m.get b with
    | none=>dsimp only;rw[hb]
    | some o=>
     dsimp only;rw[hb];cases o<;>first | rfl | skip
     all_goals
      show Vf (eo P ty) _ off=_;unfold Vf;cases eo P ty with
      | none=>rfl
      | some q=>cases q<;>rfl
  rw[this];rfl
 | fieldAddr s x i=>
  show qA V 1024 (Uw (oX P s i) ((pj G x).run t))=_;rw[jH,om]
  have:Uw (oX P s i) (bz G t x)=dO P (bz G t) (.fieldAddr s x i):=by
   simp only[dO,oX,qZ];cases structOf P s with
   | none=>rfl
   | some fs=>
    dsimp only;cases hx:bz G t x with
    | none=>
     cases fs[i]? with
     | none=>rfl
     | some f=>dsimp only;cases P.info? f.type with
      | none=>rfl
      | some j=>dsimp only;cases Nat.beq j.size 0<;>rfl
    | some v=>
     cases hf:fs[i]? with
     | none=>cases v<;>first | rfl | (simp only[hf];rfl)
     | some f=>
      dsimp only;cases hj:P.info? f.type with
      | none=>cases v<;>first | rfl | (simp only[hf,hj];rfl)
      | some j=>
       dsimp only;cases z:Nat.beq j.size 0<;>(cases v<;>first | rfl | (simp only[hf,hj,z];rfl))
  rw[this];rfl
 | indexAddr ty x i=>
  show qA V 1026 (Uy (y4 P ty) ((pj G x).run t) ((pj G i).run t))=_;rw[jH,jH,om]
  have:Uy (y4 P ty) (bz G t x) (bz G t i)=dO P (bz G t) (.indexAddr ty x i):=by
   simp only[dO,y4,qZ,pH];cases hu:P.underlying ty with
   | none=>rfl
   | some d=>
    cases d<;>first | rfl | skip
    all_goals
     dsimp only;rename_i e;cases hj:P.info? e with
     | none=>
      cases bz G t x with
      | none=>rfl
      | some v=>cases v<;>first | rfl | (cases bz G t i with
       | none=>rfl
       | some u=>cases u<;>first | rfl | (rename_i k n;cases n<;>first | rfl | (simp only[hj];rfl)))
     | some j=>
      cases bz G t x with
      | none=>rfl
      | some v=>cases v<;>first | (cases bz G t i with
       | none=>rfl
       | some u=>cases u<;>first | rfl | (rename_i k n;cases n<;>first | rfl | (simp only[hj];rfl)))
  rw[this];rfl
 | call c=>
  cases w:c.callee with
  | value f=>
   have h1:(PI P G (.call c)).run t V=DV P G V ((pj G f).run t) (Jw G c.args.toList t):=by
    show(match c.callee with
     | .value f=>(⟨fun t V=>DV P G V ((pj G f).run t) (Jw G c.args.toList t)⟩:UU)
     | _=>⟨fun t V=>dX P G (bz G t) V (.call c)⟩).run t V=_
    rw[w]
   have A:dX P G (bz G t) V (.call c)=gh P G.ov (bz G t) V (.call c):=by
    grind [dX,kindOf]
   have h3:Jw G c.args.toList t=ju (bz G t) c.args.toList:=by
    unfold Jw ju;congr 1;funext x;exact jH G x t
   rw[h1,A,jH,h3];simp only[gh,w,DV];cases bz G t f with
   | none=>rfl
   | some g=>cases ju (bz G t) c.args.toList<;>rfl
  | _=>
   show(match c.callee with
     | .value f=>(⟨fun t V=>DV P G V ((pj G f).run t) (Jw G c.args.toList t)⟩:UU)
     | _=>⟨fun t V=>dX P G (bz G t) V (.call c)⟩).run t V=_
   rw[w]
 | _=>rfl
structure Tg where
 run:PT U->U->Nat->(PT U->CR)->CR
structure Wn where
 run:U->PT U->PT U
def KS (j:Nat):Wn:=
 bif ble j 255 then⟨fun v t=>PT.rec (motive:=fun _=>PT U) (fun s m l=>⟨(Ay<|Nat.div j 16).run s ((Ay<|Nat.mod j 16).run ((kV<|Nat.div j 16).run s)<|some v),m,l⟩) t⟩
 else⟨fun v t=>t.put (some v) j⟩
theorem Sw (j:Nat) (v:U) (t:PT U):(KS j).run v t=t.put (some v) j:=by
 unfold KS;cases h:ble j 255 with
 | true=>
  cases t with
  | mk s m l=>exact(PT.xh (some v) s m l ((pP j 255).1 h)).symm
 | false=>rfl
def Sx (j:Nat) (v:U) (t:PT U):PT U:=(KS j).run v t
theorem Qg (j:Nat) (v:U) (t:PT U):Sx j v t=t.put (some v) j:=Sw j v t
def DA (n:Nat) (dst:Option Nat):Tg:=
 match dst with
 | none=>⟨fun t _ _ k=>k t⟩
 | some j=>bif ble (Nat.succ j) n then⟨fun t v _ k=>k (Sx j v t)⟩ else⟨fun _ _ e _=>.err e⟩
theorem CY (n:Nat) (dst:Option Nat) (t:PT U) (v:U) (e:Nat) (k:PT U->CR):(DA n dst).run t v e k=match dG t n dst v with | some t'=>k t' | none=>.err e:=by
 cases dst with
 | none=>rfl
 | some j=>
  show(bif ble (Nat.succ j) n then(⟨fun t v _ k=>k (Sx j v t)⟩:Tg) else⟨fun _ _ e _=>.err e⟩).run t v e k=_;show _=match(bif ble (Nat.succ j) n then some (t.put (some v) j) else none) with | some t'=>k t' | none=>.err e
  rw[<-Qg]
  grind
structure Wj where
 run:lR->List U->aF->KR
def VD (P:q6) (G:Cx) (ih:lR) (fn:Func) (r:CR):KR:=
 match r with
 | .ok .normal t d V=>Al P G ih fn .ret t d V
 | .ok .ret t d V=>Al P G ih fn .ret t d V
 | .ok (.nt v) t d V=>Al P G ih fn (.nt v) t d V
 | .err k=>.err k
 | _=>.err 72
def R1 (P:q6) (G:Cx) (fn:Func) (c:Code) (ih:lR) (args:List U) (V:aF):KR:=
 Option.rec (motive:=fun _=>KR) (.err 73) (fun t=>VD P G ih fn (ih c t fn.ntmps [] none V)) (sX fn.ntmps args)
def Vc (P:q6) (G:Cx) (f:Nat):Wj:=
 match nth P.funcs.toList f with
 | some fn=>match fn.body with
  | some c=>⟨R1 P G fn c⟩
  | none=>⟨fun _ _ _=>.err 73⟩
 | none=>⟨fun _ _ _=>.err 74⟩
theorem R0 (P:q6) (G:Cx) (f:Nat) (ih:lR) (args:List U) (V:aF):(Vc P G f).run ih args V=lV P G ih f args V:=by
 unfold Vc lV;rw[fN,aT_];cases P.funcs[f]? with
 | none=>rfl
 | some fn=>
  dsimp only;cases hb:fn.body with
  | none=>rfl
  | some c=>
   dsimp only;show R1 P G fn c ih args V=_;unfold R1;cases sX fn.ntmps args with
   | none=>rfl
   | some t=>rfl
def DT (P:q6) (G:Cx) (ih:lR) (f:Nat) (args:List U) (V:aF):KR:=
 Option.rec (motive:=fun _=>KR) (Option.rec (motive:=fun _=>KR) (Option.rec (motive:=fun _=>KR) (bif G.fk f then tV (qY P G ih f args V) else(Vc P G f).run ih args V) (fun c=>.err c)<|G.stop f args V) (fun v=>bif fl args && (nZ v && oD G.gl V G.laid) then .ret v V else .err 79)<|G.KT f args) (fun v=>bif nZ v then .ret v V else .err 78) (G.KQ f args V)
theorem DU (P:q6) (G:Cx) (ih:lR) (f:Nat) (args:List U) (V:aF):DT P G ih f args V=mX P G ih f args V:=by
 unfold DT mX;rw[R0];cases G.KQ f args V with
 | some v=>rfl
 | none=>
 dsimp only;cases G.KT f args with
 | some v=>rfl
 | none=>
  dsimp only;cases G.stop f args V<;>rfl
structure OH where
 run:lR->PT U->aF->(PT U->aF->CR)->CR
def Pw (k:PT U->aF->CR) (V:aF) (t:PT U):CR:=k t V
def VZ (pn:Bool) (c:Tg) (t:PT U) (k:PT U->aF->CR) (r:KR):CR:=
 KR.rec (motive:=fun _=>CR) (fun v V=>c.run t v 80 (Pw k V)) (fun v V=>Qd pn v t V) (fun e=>.err e) r
def Pr (P:q6) (G:Cx) (ih:lR) (pn:Bool) (c:Tg) (t:PT U) (k:PT U->aF->CR) (r:HR):CR:=
 HR.rec (motive:=fun _=>CR) (fun v V=>c.run t v 80 (Pw k V)) (fun V=>c.run t unit 80 (Pw k V)) (fun f args V=>VZ pn c t k (DT P G ih f args V)) (fun _ _ _=>.err 66) (fun v V=>Qd pn v t V) (fun e=>.err e) r
def Oh (ops:Array z_) (o:z_) (c:Tg) (t:PT U) (V:aF) (k:PT U->aF->CR) (go:CR) (w:Option Bool):CR:=
 Option.rec (motive:=fun _=>CR) (.err 85) (fun b=>bif b then go else c.run t unit 84 (Pw k V)) w
def We (P:q6) (G:Cx) (j:Nat) (op:Op):Option OH:=
 match op with
 | .move x=>some ⟨fun _ t V k=>Option.rec (motive:=fun _=>CR) (.err 1001) (fun v=>k ((KS j).run v t) V) ((pj G x).run t)⟩
 | .assign x=>some ⟨fun _ t V k=>Option.rec (motive:=fun _=>CR) (.err 1002) (fun v=>k ((KS j).run v t) V) ((pj G x).run t)⟩
 | .binOp o ty x y _=>some ⟨fun _ t V k=>Option.rec (motive:=fun _=>CR) (.err 1014) (fun v=>k ((KS j).run v t) V) (Tj (Tl P (Bj x || Bj y) o ty) ((pj G x).run t) ((pj G y).run t))⟩
 | .extract x i=>some ⟨fun _ t V k=>Option.rec (motive:=fun _=>CR) (.err 1036) (fun v=>k ((KS j).run v t) V) (Tq i ((pj G x).run t))⟩
 | .load ty x=>some ⟨fun _ t V k=>Option.rec (motive:=fun _=>CR) (.err 2009) (fun v=>k ((KS j).run v t) V) (EM (eo P ty) V ((pj G x).run t))⟩
 | .fieldAddr s x i=>some ⟨fun _ t V k=>Option.rec (motive:=fun _=>CR) (.err 1024) (fun v=>k ((KS j).run v t) V) (Uw (oX P s i) ((pj G x).run t))⟩
 | .indexAddr ty x i=>some ⟨fun _ t V k=>Option.rec (motive:=fun _=>CR) (.err 1026) (fun v=>k ((KS j).run v t) V) (Uy (y4 P ty) ((pj G x).run t) ((pj G i).run t))⟩
 | _=>none
theorem SI {pn:Bool} {n:Nat} (hj:ble (Nat.succ j) n=true) {op:Op} {c:OH} (h:We P G j op=some c) (ih:lR) (t:PT U) (V:aF) (k:PT U->aF->CR):
  c.run ih t V k=Pr P G ih pn (DA n<|some j) t k ((PI P G op).run t V):=by
 have key:∀(e:Nat) (x:Option U),Option.rec (motive:=fun _=>CR) (.err e) (fun v=>k ((KS j).run v t) V) x=Pr P G ih pn (DA n<|some j) t k (qA V e x):=by
  intro e x;cases x with
  | none=>rfl
  | some v=>
   show k ((KS j).run v t) V=(DA n<|some j).run t v 80 (Pw k V);unfold DA;dsimp only;rw[hj];rfl
 cases op<;>first | (cases h;done) | (cases h;exact key _ _)
def VI (P:q6) (G:Cx) (pn:Bool) (n:Nat) (o:z_):OH:=
 match o.dst with
 | some j=>bif ble (Nat.succ j) n then(match We P G j o.op with | some c=>c | none=>⟨fun ih t V k=>Pr P G ih pn (DA n<|some j) t k ((PI P G o.op).run t V)⟩) else⟨fun ih t V k=>Pr P G ih pn (DA n<|some j) t k ((PI P G o.op).run t V)⟩
 | none=>⟨fun ih t V k=>Pr P G ih pn (DA n none) t k ((PI P G o.op).run t V)⟩
theorem SH (P:q6) (G:Cx) (pn:Bool) (n:Nat) (o:z_) (ih:lR) (t:PT U) (V:aF) (k:PT U->aF->CR):(VI P G pn n o).run ih t V k=Pr P G ih pn (DA n o.dst) t k ((PI P G o.op).run t V):=by
 unfold VI;cases hd:o.dst with
 | none=>rfl
 | some j=>
  dsimp only;cases hj:ble (Nat.succ j) n with
  | false=>rfl
  | true=>
   simp only[cond_true]
   grind [SI]
def OD (P:q6) (G:Cx) (pn:Bool) (ops:Array z_) (n:Nat) (o:z_):OH:=
 match o.guard with
 | none=>VI P G pn n o
 | some _=>⟨fun ih t V k=>Oh ops o (DA n o.dst) t V k (Pr P G ih pn (DA n o.dst) t k ((PI P G o.op).run t V)) (bK ops t o)⟩
theorem L9 (P:q6) (G:Cx) (ih:lR) (pn:Bool) (n:Nat) (dst:Option Nat) (t:PT U) (k:PT U->aF->CR) (r:HR):
  Pr P G ih pn (DA n dst) t k r=match mD P G ih r with | .ret v V'=>(match dG t n dst v with | some t'=>k t' V' | none=>.err 80) | .nt v V'=>Qd pn v t V' | .err e=>.err e:=by
 cases r with
 | val v V=>show(DA n dst).run t v 80 (Pw k V)=_;rw[CY];rfl
 | skip V=>show(DA n dst).run t unit 80 (Pw k V)=_;rw[CY];rfl
 | enter f args V=>
  show VZ pn (DA n dst) t k (DT P G ih f args V)=_;rw[DU];show _=match mX P G ih f args V with | .ret v V'=>_ | .nt v V'=>_ | .err e=>_
  cases mX P G ih f args V with
  | ret v V'=>show(DA n dst).run t v 80 (Pw k V')=_;rw[CY];rfl
  | nt v V'=>rfl
  | err e=>rfl
 | round l args V=>
  rfl
 | nt v V=>rfl
 | err e=>rfl
theorem Ht (P:q6) (G:Cx) (pn:Bool) (ops:Array z_) (n:Nat) (o:z_) (ih:lR) (t:PT U) (V:aF) (k:PT U->aF->CR):(OD P G pn ops n o).run ih t V k=jz P G ih pn ops n o t V k:=by
 unfold OD jz;cases hg:o.guard with
 | none=>
  grind [bK,SH,L9,MR]
 | some jw=>
  show Oh ops o (DA n o.dst) t V k (Pr P G ih pn (DA n o.dst) t k ((PI P G o.op).run t V)) (bK ops t o)=_;rw[L9,MR];unfold Oh;cases bK ops t o with
  | none=>rfl
  | some b=>
   grind [Pw,CY]
def Qm (P:q6) (G:Cx) (ops:Array z_) (n:Nat) (l:List z_):OH:=
 List.rec (motive:=fun _=>OH) ⟨fun _ t V k=>k t V⟩ (fun o _ c=>⟨fun ih t V k=>(OD P G true ops n o).run ih t V (fun t V=>c.run ih t V k)⟩) l
def Ak (d:List DE) (t:PT U) (V:aF):CR:=.ok .normal t d V
theorem IF (P:q6) (G:Cx) (ops:Array z_) (n:Nat) (ih:lR) (d:List DE):∀(l:List z_) (t:PT U) (V:aF),(Qm P G ops n l).run ih t V (Ak d)=wg P G ih ops n d l t V
 | [],t,V=>rfl
 | o::l,t,V=>by
  show(OD P G true ops n o).run ih t V (fun t V=>(Qm P G ops n l).run ih t V (Ak d))=jz P G ih true ops n o t V (wg P G ih ops n d l);rw[Ht];congr 1;funext t' V';exact IF P G ops n ih d l t' V'
def Cb (P:q6) (G:Cx) (ops:Array z_) (rc:List Nat) (k:PT U->aF->CR) (t:PT U) (V:aF):CR:=bif dA P G ops t V rc then k t V else .err 86
def zF (P:q6) (G:Cx) (ops:Array z_) (n:Nat) (l:List (Nat×List Nat)):OH:=
 List.rec (motive:=fun _=>OH) ⟨fun _ t V k=>k t V⟩ (fun p _ c=>match nth ops.toList p.1 with
  | some o=>(match p.2 with
   | []=>⟨fun ih t V k=>(OD P G false ops n o).run ih t V (fun t V=>c.run ih t V k)⟩
   | rc=>⟨fun ih t V k=>(OD P G false ops n o).run ih t V (Cb P G ops rc (fun t V=>c.run ih t V k))⟩)
  | none=>⟨fun _ _ _ _=>.err 87⟩) l
theorem zG (P:q6) (G:Cx) (ops:Array z_) (n:Nat) (ih:lR) (d:List DE):∀(l:List (Nat×List Nat)) (t:PT U) (V:aF),(zF P G ops n l).run ih t V (Ak d)=kL P G ih ops n d l t V
 | [],t,V=>rfl
 | (i,rc)::l,t,V=>by
  show(match nth ops.toList i with
   | some o=>(match rc with
    | []=>(⟨fun ih t V k=>(OD P G false ops n o).run ih t V (fun t V=>(zF P G ops n l).run ih t V k)⟩:OH)
    | rc=>⟨fun ih t V k=>(OD P G false ops n o).run ih t V (Cb P G ops rc (fun t V=>(zF P G ops n l).run ih t V k))⟩)
   | none=>⟨fun _ _ _ _=>.err 87⟩).run ih t V (Ak d)=(match ops[i]? with
   | some o=>jz P G ih false ops n o t V (fun t' V'=>bif dA P G ops t' V' rc then kL P G ih ops n d l t' V' else .err 86)
   | none=>.err 87)
  rw[fN,aT_];cases ops[i]? with
  | none=>rfl
  | some o=>
   dsimp only;cases rc with
   | nil=>
    show(OD P G false ops n o).run ih t V (fun t V=>(zF P G ops n l).run ih t V (Ak d))=_;rw[Ht];congr 1;funext t' V';exact zG P G ops n ih d l t' V'
   | cons q rc=>
    show(OD P G false ops n o).run ih t V (Cb P G ops (q::rc) (fun t V=>(zF P G ops n l).run ih t V (Ak d)))=_;rw[Ht];congr 1;funext t' V';unfold Cb;dsimp only;rw[zG P G ops n ih d l t' V']
structure US where
 run:lR->PT U->List DE->Option Pos->aF->CR
def U4 (P:q6) (G:Cx) (c:Code) (n:Nat):US:=
 match c with
 | .skip | .label _=>⟨fun _ t d _ V=>.ok .normal t d V⟩
 | .region _ ops draw=>bif draw then(bif vX P ops then⟨fun ih t d _ V=>(zF P G ops n<|mi P ops).run ih t V (Ak d)⟩ else⟨fun _ _ _ _ _=>.err 88⟩)
   else(bif nj ops.toList then⟨fun _ _ _ _ _=>.err 96⟩ else⟨fun ih t d _ V=>Em d ((Qm P G ops n ops.toList).run ih t V<|Ak d)⟩)
 | .seq a b=>⟨fun ih t d ro V=>Av (ih a t n d ro V) (fun t d V=>ih b t n d ro V)⟩
 | .cond x a b=>⟨fun ih t d ro V=>AO ((pj G x).run t) (ih a t n d ro V) (ih b t n d ro V)⟩
 | .block id b=>⟨fun ih t d ro V=>vN id (ih b t n d ro V)⟩
 | .scope b=>⟨fun ih t d ro V=>wu (ih b t n d ro V)⟩
 | .loop b=>⟨fun ih t d ro V=>Av (ih b t n d ro V) (fun t d V=>ih (.loop b) t n d ro V)⟩
 | .exit id=>⟨fun _ t d _ V=>.ok (.exit id) t d V⟩
 | .ret=>⟨fun _ t d _ V=>.ok .ret t d V⟩
 | _=>⟨fun _ _ _ _ _=>.err 99⟩
theorem RM (P:q6) (G:Cx) (c:Code) (n:Nat) (ih:lR) (t:PT U) (d:List DE) (ro:Option Pos) (V:aF):(U4 P G c n).run ih t d ro V=IS P G ih c t n d ro V:=by
 cases c with
 | region id ops draw=>
  cases draw with
  | false=>
   show(bif nj ops.toList then(⟨fun _ _ _ _ _=>.err 96⟩:US) else⟨fun ih t d _ V=>Em d ((Qm P G ops n ops.toList).run ih t V<|Ak d)⟩).run ih t d ro V=bif nj ops.toList then .err 96 else Em d (wg P G ih ops n d ops.toList t V)
   grind [IF]
  | true=>
   show(bif vX P ops then(⟨fun ih t d _ V=>(zF P G ops n<|mi P ops).run ih t V (Ak d)⟩:US) else⟨fun _ _ _ _ _=>.err 88⟩).run ih t d ro V=wP P G ih ops n d t V
   grind [wP,zG]
 | cond x a b=>show AO ((pj G x).run t) _ _=_;rw[jH];rfl
 | _=>rfl
def SE (P:q6) (G:Cx) (fuel:Nat):lR:=Nat.rec (motive:=fun _=>lR) (fun _ _ _ _ _ _=>.err 100) (fun _ ih c t n d ro V=>(U4 P G c n).run ih t d ro V) fuel
theorem IN (P:q6) (G:Cx):∀(fuel:Nat),SE P G fuel=fb P G fuel
 | 0=>rfl
 | k+1=>by
  funext c t n d ro V;show(U4 P G c n).run (SE P G k) t d ro V=IS P G (fb P G k) c t n d ro V;rw[RM,IN P G k]
def Ek (P:q6) (G:Cx) (fuel:Nat) (f:Nat) (args:List U) (V:aF):KR:=DT P G (SE P G fuel) f args V
theorem LO (P:q6) (G:Cx) (fuel:Nat) (f:Nat) (args:List U) (V:aF):Ek P G fuel f args V=yG P G fuel f args V:=by
 unfold Ek yG;rw[DU,IN]
end Go.Ev
namespace Go.Ev
variable [Env] {G:Cx} {fuel:Nat} {P:q6} {D:dD}
open Go.ChangeShapes Go.WideShapes Go.ChangeAt Go.RowKit
def A0 (one:y_->w_ Unit->Option (List j_)) (P:q6):List (Nat×y_)->Nat->List (w_ Unit)->Option (List j_)
 | [],_,[]=>some []
 | (o,t)::l,off,d::ds=>
  match one t d,A0 one P l (off+P.cellsOf t) ds with
  | some vs,some us=>if o=off/\vs.length=P.cellsOf t then some (vs++us) else none
  | _,_=>none
 | _,_,_=>none
def ta (P:q6):Nat->y_->w_ Unit->Option (List j_)
 | 0,_,_=>none
 | n+1,t,d=>
  match P.underlying t,d with
  | some .bool,.lit (.bool b)=>some [.bool b]
  | some (.int k),.lit (.int k' i)=>if k'=k then some [.int k i] else none
  | some (.struct fs),.agg ps=>match A0 (ta P n) P (fs.toList.map fun f=>(f.offset,f.type)) 0 ps with
   | some vs=>if vs.length=P.cellsOf t then some vs else none
   | none=>none
  | some (.array m e),.agg ps=>match A0 (ta P n) P ((range m).map fun i=>(i*P.cellsOf e,e)) 0 ps with
   | some vs=>if vs.length=P.cellsOf t then some vs else none
   | none=>none
  | _,_=>none
theorem yN {P:q6} {w:x_} {base:Nat} {sp:Nat->Bool} {held:Bool} {fuel:Nat} {one:y_->w_ Unit->Option (List j_)} {cs:List j_}
  (ih:∀t l d p vs,DataW.trod (fun _=>()) P w base sp held fuel t l=some (d,p)->one t d=some vs->l=vs) {α:Type} (g:α->Nat×y_):
  ∀(l:List α) (off:Nat) (xs:List (w_ Unit×List MemPlace)) (vs:List j_),
   (l.mapM fun x=>DataW.trod (fun _=>()) P w base sp held fuel (g x).2 ((cs.drop (g x).1).take<|P.cellsOf (g x).2))=some xs->A0 one P (l.map g) off (xs.map (·.1))=some vs->
   (cs.drop off).take vs.length=vs
 | [],off,xs,vs,h,hf=>by
  simp at h;subst h;simp[A0] at hf;subst hf;simp
 | x::l,off,xs,vs,h,hf=>by
  simp only[mapM_cons,bind_eq_bind,bind_eq_some_iff,pure_def,oJ_] at h;obtain⟨⟨d,p⟩,h1,r,u,rfl⟩:=h;simp only[map_cons,A0] at hf;split at hf
  ·rename_i v1 z e1 A;split at hf
   ·rename_i B;obtain⟨ho,hl⟩:=B;cases hf;have k1:=ih _ _ _ _ _ h1 e1;have k2:=yN ih g l _ r z u A
    grind [zl_]
   cases hf
  cases hf
theorem En {P:q6} {w:x_} {base:Nat} {sp:Nat->Bool} {held:Bool}:∀(m fuel:Nat) (t:y_) (cs:List j_) (d:w_ Unit) (p:List MemPlace) (vs:List j_),
  DataW.trod (fun _=>()) P w base sp held fuel t cs=some (d,p)->ta P m t d=some vs->cs=vs
 | 0,_,_,_,_,_,_,_,h=>by cases h
 | _+1,0,_,_,_,_,_,h,_=>by simp[DataW.trod] at h
 | m+1,fuel+1,t,cs,d,p,vs,h,hf=>by
  have ih:∀t l d p vs,DataW.trod (fun _=>()) P w base sp held fuel t l=some (d,p)->ta P m t d=some vs->l=vs:=fun t l d p vs=>En m fuel t l d p vs
  simp only[ta] at hf;split at hf
  ·rename_i hu;cases hf;unfold DataW.trod at h
   grind
  ·rename_i hu;split at hf
   ·rename_i hk;cases hf;unfold DataW.trod at h
    grind
   cases hf
  ·rename_i fs ps hu;split at hf
   ·rename_i vs' z;split at hf
    ·rename_i hl;cases hf;unfold DataW.trod at h;rw[hu] at h;dsimp only at h;split at h
     ·rename_i A;obtain⟨xs,hm,hx⟩:=oM_.1 h;have u:ps=xs.map (·.1):=by simp_all
      subst u;have:=yN (cs:=cs) ih (fun f:Field=>(f.offset,f.type)) fs.toList 0 xs vs hm z
      grind
     cases h
    cases hf
   cases hf
  ·rename_i n e ps hu;split at hf
   ·rename_i vs' z;split at hf
    ·rename_i hl;cases hf;unfold DataW.trod at h;rw[hu] at h;dsimp only at h;split at h
     ·rename_i A;obtain⟨xs,hm,hx⟩:=oM_.1 h;have u:ps=xs.map (·.1):=by simp_all
      subst u;have:=yN (cs:=cs) ih (fun i:Nat=>(i*P.cellsOf e,e)) (range n) 0 xs vs hm z
      grind
     cases h
    cases hf
   cases hf
  cases hf
theorem pX {w:x_} {l:List (String×w_ Unit)} (n:String) {d:w_ Unit} {g:Nat} {t:y_} {m:Nat} {vs:List j_}
  (h:laidMetH P l w) (hl:l.filter (fun x=>x.1 == n)= [(n,d)]) (hd:d.handleName? =none) (z:P.globalNamed n=some g) (B:(P.globals[g]?).map (·.type)=some t) (hf:ta P m t d=some vs):
  ∃e fr,w.heap[g]? =some (.cells vs.toArray e fr):=by
 have h1:=h.filter fun x=>x.1 == n
 rw[hl] at h1
 have C:laidMet P [(n,d)] w:=by
  grind [laidMetH]
 obtain⟨ps,⟨g',t',cs,fuel,p,q,A,k2,u,E,_,_⟩,_,_⟩:=C;rw[z] at A;cases A;rw[B] at k2;cases k2;have k5:=En m fuel t cs.toList d p vs E hf;unfold World.var? at u;rw[z] at u;simp only[Option.bind_some] at u;split at u
 ·rename_i cs' e fr hh;cases u;exact⟨e,fr,by rw[hh,<-k5]⟩
 cases u
theorem ya {α β:Type} {f:α->Option β}:∀{l:List α} {r:List β},dv f l=some r->r.length=l.length/\∀(i:Nat) (v:β),r[i]? =some v->∃y,l[i]? =some y/\f y=some v
 | [],r,h=>by
  rw[lT] at h;simp_all
 | x::l,r,h=>by
  obtain⟨y,r',h1,d,rfl⟩:=kz h;obtain⟨k1,k2⟩:=ya d
  grind
theorem ma.of {w:x_} {g:Nat} {cells:List U} {vs:List j_} {e:y_} {fr:Nat×Nat} (hb:w.heap[g]? =some (.cells vs.toArray e fr)) (hv:dv lz vs=some cells):ma w (g,cells):=by
 obtain⟨d,k2⟩:=ya hv;refine⟨vs.toArray,e,fr,hb,by simp[d],fun i v hi=>?_⟩
 grind [p7]
def σG (gl:Nat) (l:List (Nat×List U)) (E:Nat->y_):aF:=⟨gl,Mt l E⟩
theorem VG_get {gl:Nat} {l:List (Nat×List U)} {E:Nat->y_} {b:Nat} {o:cU} (h:(σG gl l E).m.get b=some o):∃x∈l,x.1=b/\o= .row x.2 (E x.1) true:=GQ E h
def zY (w:x_) (b:Nat):Nat:=
 match w.heap[b]? with
 | some (.cells cs _ _)=>cs.size
 | _=>0
def elemAt (w:x_) (b:Nat):y_:=
 match w.heap[b]? with
 | some (.cells _ e _)=>e
 | _=>0
def ρG (w:x_) (gl:Nat):dD:=fun b=>if b<gl then some ⟨b,0,zY w b⟩ else none
theorem DG_some {w:x_} {gl:Nat} {b:Nat} {l:Loc} (h:ρG w gl b=some l):b<gl/\l=⟨b,0,zY w b⟩:=by
 unfold ρG at h
 simp_all
def Dx (gl:Nat) (l:List (Nat×List U)):Bool:=l.all fun x=>blt x.1 gl && fl x.2
theorem Tv {w:x_} {gl:Nat} {l:List (Nat×List U)} (B:KV w) (ab:gl<=w.heap.size) (u:Dx gl l=true) (hl:∀x∈l,ma w x):Inv (ρG w gl) (σG gl l<|elemAt w) w:=by
 have aa:∀x∈l,x.1<gl/\fl x.2=true:=fun x hx=>by
  have:=aE_.1 u x hx
  simp_all
 refine⟨⟨fun b hb=>?_,fun b l' h=>?_,fun b o l' h1 d=>?_,fun b b' o o' l1 l2 h1 d h3 h4 he ac=>?_⟩,B.1,B.2,fun r _ ⟨b,o,l',h1,d,_,_⟩=>by
  obtain⟨x,_,_,rfl⟩:=VG_get h1;cases d⟩
 ·have z:¬b<gl:=Nat.not_lt.2 hb;refine⟨by unfold ρG;rw[if_neg z],?_⟩;cases h:(σG gl l<|elemAt w).m.get b with
  | none=>rfl
  | some o=>
   obtain⟨x,hx,rfl,_⟩:=VG_get h
   grind
 ·obtain⟨hb,rfl⟩:=DG_some h
  grind
 ·obtain⟨x,hx,rfl,rfl⟩:=VG_get h1;obtain⟨hb,rfl⟩:=DG_some d;obtain⟨c,e,fr,A,k2,k3⟩:=hl x hx;have C:zY w x.1=c.size:=by unfold zY;rw[A]
  have he:elemAt w x.1=e:=by unfold elemAt;rw[A]
  refine⟨_,A,c,fr,by rw[he],?_,?_,fun i v hv=>?_,fun h=>by cases h⟩
  ·simp[C]
  ·simp_all
  grind [oY,lS]
 obtain⟨x,hx,rfl,rfl⟩:=VG_get h1;obtain⟨y,hy,rfl,rfl⟩:=VG_get d;exact⟨Z,Z⟩
theorem kY.PG {w w':x_} {gl:Nat} {l:List (Nat×List U)} {E:Nat->y_} {D':dD} {V':aF} (h:fL D (σG gl l E) w D' V' w'):kY w w':=
 ⟨h.os,h.out,h.tape,h.size,fun r hr=>h.frame r hr fun⟨b,o,l',h1,d,_⟩=>by
  obtain⟨x,_,_,rfl⟩:=VG_get h1;cases d⟩
def rE:KR->Bool
 | .ret (.bool true) _=>true
 | _=>false
theorem Dc {r:KR} (h:rE r=true):∃V,r= .ret (.bool true) V:=by
 unfold rE at h
 grind
theorem Ge (hm:P.follows .mixedOrders=true) (z:DB P G) {f:Nat} {w:x_} (A:KV w) (d:G.gl<=w.heap.size) (u:Dx G.gl G.laid=true) (hl:∀x∈G.laid,ma w x)
  (h:∀E,rE (Ek P G fuel f [] (σG G.gl G.laid E))=true):Calls P f #[] w fun e w'=>e= .returned (.bool true)/\kY w w':=by
 have h:=h (elemAt w);rw[LO] at h;obtain⟨V,h⟩:=Dc h;refine qV hm z h (Tv A d u hl) (fun g B=>⟨_,by show ρG w G.gl g=_;unfold ρG;rw[if_pos B]⟩) dN.nil fun D' w' x _ st hv=>?_
 grind [VR,kY.PG]
theorem GP (hm:P.follows .mixedOrders=true) (z:DB P G) {f:Nat} (d:Dx G.gl G.laid=true) (h:∀E,rE (Ek P G fuel f [] (σG G.gl G.laid E))=true):HO P G.gl G.laid f [] (.bool true):=fun w xs u A hl hx=>by
 have:xs= #[]:=by
  have:=hx.fR
  simp_all
 subst this;exact(Ge hm z (w:=w) A u d hl h).mono fun e w' ⟨h1,B⟩=>⟨_,h1,by simp only[VR],B⟩
end Go.Ev
namespace Go.Ev
variable [Env]
variable {ops:Array z_} {rc:List Nat} {x:q_} {σ₁:aF}
section
variable {P:q6} {G:Cx}
def Ev (P:q6) (G:Cx) (c:Code) (n:Nat) (t:PT U) (V:aF) (Q:Ex->PT U->aF->Prop):Prop:=
 ∃(K:Nat) (e:Ex) (t':PT U) (V':aF),(∀k,K<=k->fb P G k c t n [] none V= .ok e t' [] V')/\Q e t' V'
def a8 (P:q6) (G:Cx) (f:Nat) (args:List U) (V:aF) (R:U->aF->Prop):Prop:=
 ∃(K:Nat) (v:U) (V':aF),(∀k,K<=k->mX P G (fb P G k) f args V= .ret v V')/\R v V'
def bP (P:q6) (G:Cx) (ops:Array z_) (n:Nat) (l:List z_) (t:PT U) (V:aF) (Q:Ex->PT U->aF->Prop):Prop:=
 ∃(K:Nat) (e:Ex) (t':PT U) (V':aF),(∀k,K<=k->wg P G (fb P G k) ops n [] l t V= .ok e t' [] V')/\Q e t' V'
def cT (P:q6) (G:Cx) (ops:Array z_) (n:Nat) (l:List (Nat×List Nat)) (t:PT U) (V:aF) (Q:Ex->PT U->aF->Prop):Prop:=
 ∃(K:Nat) (e:Ex) (t':PT U) (V':aF),(∀k,K<=k->kL P G (fb P G k) ops n [] l t V= .ok e t' [] V')/\Q e t' V'
theorem Ev.mono {c:Code} {n:Nat} {t:PT U} {V:aF} {Q Q':Ex->PT U->aF->Prop} (h:Ev P G c n t V Q) (hq:∀e t' V',Q e t' V'->Q' e t' V'):Ev P G c n t V Q':=
 let ⟨K,e,t',V',h1,d⟩:=h;⟨K,e,t',V',h1,hq _ _ _ d⟩
theorem a8.mono {f:Nat} {args:List U} {V:aF} {R R':U->aF->Prop} (h:a8 P G f args V R) (hq:∀v V',R v V'->R' v V'):a8 P G f args V R':=
 let ⟨K,v,V',h1,d⟩:=h;⟨K,v,V',h1,hq _ _ d⟩
section
variable {n:Nat} {t:PT U} {V:aF} {Q:Ex->PT U->aF->Prop}
theorem aH (h:Q .normal t V):Ev P G .skip n t V Q:=⟨1,.normal,t,V,fun k hk=>by obtain⟨j,rfl⟩:∃j,k=j+1:=⟨k-1,by omega⟩;rfl,h⟩
theorem Ej {l:Nat} (h:Q .normal t V):Ev P G (.label l) n t V Q:=⟨1,.normal,t,V,fun k hk=>by obtain⟨j,rfl⟩:∃j,k=j+1:=⟨k-1,by omega⟩;rfl,h⟩
theorem bn {id:Nat} (h:Q (.exit id) t V):Ev P G (.exit id) n t V Q:=⟨1,_,t,V,fun k hk=>by obtain⟨j,rfl⟩:∃j,k=j+1:=⟨k-1,by omega⟩;rfl,h⟩
theorem aC (h:Q .ret t V):Ev P G .ret n t V Q:=⟨1,_,t,V,fun k hk=>by obtain⟨j,rfl⟩:∃j,k=j+1:=⟨k-1,by omega⟩;rfl,h⟩
def dp (P:q6) (G:Cx) (n:Nat) (b:Code) (Q:Ex->PT U->aF->Prop) (e:Ex) (t:PT U) (V:aF):Prop:=
 match e with
 | .normal=>Ev P G b n t V Q
 | e=>Q e t V
theorem ak {a b:Code} (h:Ev P G a n t V (dp P G n b Q)):Ev P G (.seq a b) n t V Q:=by
 obtain⟨K,e,t',V',h1,u⟩:=h
 have step:∀k,K<=k->fb P G (k+1) (.seq a b) t n [] none V=Av (.ok e t' [] V') (fun t d V=>fb P G k b t n d none V):=fun k hk=>by
  show Av (fb P G k a t n [] none V) (fun t d V=>fb P G k b t n d none V)=_;rw[h1 k hk]
 cases e with
 | normal=>
  obtain⟨w,z,A,B,h3,h4⟩:=u;refine⟨max K w+1,z,A,B,fun k hk=>?_,h4⟩;obtain⟨j,rfl⟩:∃j,k=j+1:=⟨k-1,by omega⟩;rw[step j oM];exact h3 j oM
 | _=>
  refine⟨K+1,_,t',V',fun k hk=>?_,u⟩;obtain⟨j,rfl⟩:∃j,k=j+1:=⟨k-1,by omega⟩;rw[step j oM];rfl
theorem Cy {a b:Code} {c:Bool} (d:bz G t x=some (.bool c)) (h:Ev P G (if c then a else b) n t V Q):Ev P G (.cond x a b) n t V Q:=by
 obtain⟨K,e,t',V',h1,u⟩:=h;refine⟨K+1,e,t',V',fun k hk=>?_,u⟩;obtain⟨j,rfl⟩:∃j,k=j+1:=⟨k-1,by omega⟩;show AO (bz G t x) (fb P G j a t n [] none V) (fb P G j b t n [] none V)=_;rw[d];have:=h1 j oM;cases c<;>exact this
def kB (id:Nat) (Q:Ex->PT U->aF->Prop) (e:Ex) (t:PT U) (V:aF):Prop:=
 match e with
 | .exit j=>if j=id then Q .normal t V else Q (.exit j) t V
 | e=>Q e t V
theorem aL {id:Nat} {b:Code} (h:Ev P G b n t V (kB id Q)):Ev P G (.block id b) n t V Q:=by
 obtain⟨K,e,t',V',h1,d⟩:=h
 have step:∀k,K<=k->fb P G (k+1) (.block id b) t n [] none V=vN id (.ok e t' [] V'):=fun k hk=>by
  show vN id (fb P G k b t n [] none V)=_;rw[h1 k hk]
 cases e with
 | exit q=>
  by_cases hq:q=id
  ·subst hq;refine⟨K+1,.normal,t',V',fun k hk=>?_,by simpa [kB] using d⟩;obtain⟨j,rfl⟩:∃j,k=j+1:=⟨k-1,by omega⟩;rw[step j oM];show(bif Nat.beq q q then _ else _)=_
   simp_all
  refine⟨K+1,.exit q,t',V',fun k hk=>?_,by simpa [kB,hq] using d⟩;obtain⟨j,rfl⟩:∃j,k=j+1:=⟨k-1,by omega⟩;rw[step j oM];show(bif Nat.beq q id then _ else _)=_
  grind [nB]
 | _=>
  refine⟨K+1,_,t',V',fun k hk=>?_,d⟩;obtain⟨j,rfl⟩:∃j,k=j+1:=⟨k-1,by omega⟩;rw[step j oM];rfl
theorem Pe {b:Code} (I_:Nat->PT U->aF->Prop) (step:∀j t V,I_ j t V->Ev P G b n t V (fun e t' V'=>match e with | .normal=>∃i,i<j/\I_ i t' V' | e=>Q e t' V')):
  ∀(j:Nat) (t:PT U) (V:aF),I_ j t V->Ev P G (.loop b) n t V Q:=by
 intro j;induction j using Nat.strongRecOn with
 | _ j ih=>
  intro t V z;obtain⟨K,e,t',V',h1,w⟩:=step j t V z
  have st:∀k,K<=k->fb P G (k+1) (.loop b) t n [] none V=Av (.ok e t' [] V') (fun t d V=>fb P G k (.loop b) t n d none V):=fun k hk=>by
   show Av (fb P G k b t n [] none V) (fun t d V=>fb P G k (.loop b) t n d none V)=_;rw[h1 k hk]
  cases e with
  | normal=>
   obtain⟨i,hi,u⟩:=w;obtain⟨A,B,C,E,h3,h4⟩:=ih i hi t' V' u;refine⟨max K A+1,B,C,E,fun k hk=>?_,h4⟩;obtain⟨q,rfl⟩:∃q,k=q+1:=⟨k-1,by omega⟩;rw[st q oM];exact h3 q oM
  | _=>
   refine⟨K+1,_,t',V',fun k hk=>?_,w⟩;obtain⟨q,rfl⟩:∃q,k=q+1:=⟨k-1,by omega⟩;rw[st q oM];rfl
theorem ai {id:Nat} (d:nj ops.toList=false) (h:bP P G ops n ops.toList t V Q):Ev P G (.region id ops false) n t V Q:=by
 obtain⟨K,e,t',V',h1,u⟩:=h;refine⟨K+1,e,t',V',fun k hk=>?_,u⟩;obtain⟨j,rfl⟩:∃j,k=j+1:=⟨k-1,by omega⟩;show(bif nj ops.toList then .err 96 else Em [] (wg P G (fb P G j) ops n [] ops.toList t V))=_;rw[d,h1 j oM];cases e<;>rfl
theorem yF {id:Nat} (hf:vX P ops=true) (h:cT P G ops n (mi P ops) t V Q):Ev P G (.region id ops true) n t V Q:=by
 obtain⟨K,e,t',V',h1,d⟩:=h;refine⟨K+1,e,t',V',fun k hk=>?_,d⟩;obtain⟨j,rfl⟩:∃j,k=j+1:=⟨k-1,by omega⟩;show wP P G (fb P G j) ops n [] t V=_;unfold wP
 simp_all
theorem af (h:Q .normal t V):bP P G ops n [] t V Q:=⟨0,.normal,t,V,fun _ _=>Z,h⟩
theorem I {o:z_} {l:List z_} {v:U} {t':PT U} {V':aF} (hw:bK ops t o=some true) (hv:dX P G (bz G t) V o.op= .val v V') (hp:dG t n o.dst v=some t') (h:bP P G ops n l t' V' Q):bP P G ops n (o::l) t V Q:=by
 obtain⟨K,e,d,u,h1,w⟩:=h;refine⟨K,e,d,u,fun k hk=>?_,w⟩;show jz P G (fb P G k) true ops n o t V (wg P G (fb P G k) ops n [] l)=_
 grind [jz,mD]
theorem jF {o:z_} {l:List z_} {t':PT U} {V':aF} (hw:bK ops t o=some true) (hv:dX P G (bz G t) V o.op= .skip V') (hp:dG t n o.dst unit=some t') (h:bP P G ops n l t' V' Q):bP P G ops n (o::l) t V Q:=by
 obtain⟨K,e,d,u,h1,w⟩:=h;refine⟨K,e,d,u,fun k hk=>?_,w⟩;show jz P G (fb P G k) true ops n o t V (wg P G (fb P G k) ops n [] l)=_
 grind [jz,mD]
theorem ae {o:z_} {l:List z_} {t':PT U} (hw:bK ops t o=some false) (hp:dG t n o.dst unit=some t') (h:bP P G ops n l t' V Q):bP P G ops n (o::l) t V Q:=by
 obtain⟨K,e,d,u,h1,w⟩:=h;refine⟨K,e,d,u,fun k hk=>?_,w⟩;show jz P G (fb P G k) true ops n o t V (wg P G (fb P G k) ops n [] l)=_;unfold jz
 simp_all
theorem Gx {o:z_} {l:List z_} {f:Nat} {args:List U} (hw:bK ops t o=some true) (hv:dX P G (bz G t) V o.op= .enter f args σ₁)
  (h:a8 P G f args σ₁ fun v V'=>∃t',dG t n o.dst v=some t'/\bP P G ops n l t' V' Q):bP P G ops n (o::l) t V Q:=by
 obtain⟨K,v,V',h1,t',hp,d,e,u,w,h3,h4⟩:=h;refine⟨max K d,e,u,w,fun k hk=>?_,h4⟩;show jz P G (fb P G k) true ops n o t V (wg P G (fb P G k) ops n [] l)=_
 grind [jz,mD]
theorem aW (h:Q .normal t V):cT P G ops n [] t V Q:=⟨0,.normal,t,V,fun _ _=>Z,h⟩
theorem aj {i:Nat} {o:z_} {l:List (Nat×List Nat)} {v:U} {t':PT U} {V':aF} (hi:ops[i]? =some o) (hw:bK ops t o=some true) (hv:dX P G (bz G t) V o.op= .val v V') (hp:dG t n o.dst v=some t') (h:cT P G ops n l t' V' Q):cT P G ops n ((i,[])::l) t V Q:=by
 obtain⟨K,e,d,u,h1,w⟩:=h;refine⟨K,e,d,u,fun k hk=>?_,w⟩
 show(match ops[i]? with
  | some o=>jz P G (fb P G k) false ops n o t V (fun t' V'=>bif dA P G ops t' V' [] then kL P G (fb P G k) ops n [] l t' V' else .err 86)
  | none=>.err 87)=_
 rw[hi];unfold jz;dsimp only;rw[hw];dsimp only;rw[hv];dsimp only[mD];rw[hp];exact h1 k hk
theorem au {i:Nat} {o:z_} {l:List (Nat×List Nat)} {t':PT U} (hi:ops[i]? =some o) (hw:bK ops t o=some false) (hp:dG t n o.dst unit=some t') (h:cT P G ops n l t' V Q):cT P G ops n ((i,[])::l) t V Q:=by
 obtain⟨K,e,d,u,h1,w⟩:=h;refine⟨K,e,d,u,fun k hk=>?_,w⟩
 show(match ops[i]? with
  | some o=>jz P G (fb P G k) false ops n o t V (fun t' V'=>bif dA P G ops t' V' [] then kL P G (fb P G k) ops n [] l t' V' else .err 86)
  | none=>.err 87)=_
 rw[hi];unfold jz;dsimp only;rw[hw];dsimp only;rw[hp];exact h1 k hk
theorem Eh {i:Nat} {o:z_} {l:List (Nat×List Nat)} {f:Nat} {args:List U} (hi:ops[i]? =some o) (hw:bK ops t o=some true) (hv:dX P G (bz G t) V o.op= .enter f args σ₁)
  (h:a8 P G f args σ₁ fun v V'=>∃t',dG t n o.dst v=some t'/\dA P G ops t' V' rc=true/\cT P G ops n l t' V' Q):cT P G ops n ((i,rc)::l) t V Q:=by
 obtain⟨K,v,V',h1,t',hp,hs,d,e,u,w,h3,h4⟩:=h;refine⟨max K d,e,u,w,fun k hk=>?_,h4⟩
 show(match ops[i]? with
  | some o=>jz P G (fb P G k) false ops n o t V (fun t' V'=>bif dA P G ops t' V' rc then kL P G (fb P G k) ops n [] l t' V' else .err 86)
  | none=>.err 87)=_
 grind [jz,mD]
end
theorem Pd {f:Nat} {fn:Func} {c:Code} {args:List U} {V:aF} {R:U->aF->Prop} {t:PT U} (u:G.KQ f args V=none) (w:G.KT f args=none) (d:G.stop f args V=none) (z:G.fk f=false)
  (hf:P.funcs[f]? =some fn) (hb:fn.body=some c) (A:sX fn.ntmps args=some t)
  (h:Ev P G c fn.ntmps t V fun e t' V'=>(e= .normal∨e= .ret)/\∃v,fO P fn t' V'=some v/\R v V'):a8 P G f args V R:=by
 obtain⟨K,e,t',V',h1,he,v,h2,h3⟩:=h;refine⟨K,v,V',fun k hk=>?_,h3⟩;unfold mX;rw[u];dsimp only;rw[w];dsimp only;rw[d];dsimp only;rw[z];simp only[cond_false];unfold lV;rw[hf];dsimp only;rw[hb,A];dsimp only;rw[h1 k hk];rcases he with rfl | rfl<;>
 ·dsimp only;unfold Al;rw[show zf P G (fb P G k) [] .ret V'=some (.ret,V') from Z]
  simp_all
theorem LI {f:Nat} {args:List U} {V:aF} {R:U->aF->Prop} {v:U} (aa:G.KQ f args V=none) (ab:G.KT f args=some v) (h1:fl args=true) (h2:nZ v=true) (h3:oD G.gl V G.laid=true) (h:R v V):a8 P G f args V R:=by
 refine⟨0,v,V,fun k _=>?_,h⟩
 grind [mX]
end
variable {cap fuel:Nat} {V:aF} {D:dD}
def rJ (P:q6):List Field->Nat->Option Nat
  | [],off=>some off
  | f::r,off=>if f.offset=off then rJ P r (off+P.cellsOf f.type) else none
def fc {H_:Type} (P:q6) (V:aF):Nat->y_->w_ H_->List U->Prop
  | 0,_,_,_=>False
  | fuel+1,t,d,vs=>
    match P.underlying t,d with
    | some .bool,.lit (.bool b)=>vs= [.bool b]
    | some (.int k),.lit (.int k' n)=>k'=k/\(Lit.int k n).wf=true/\vs= [.int k n]
    | some .string,.lit (.string s)=>s.length<=maxLen/\vs= [.str<|s.map UInt8.toNat]
    | some (.slice _),.nil=>vs= [.ax]
    | some (.slice e),.slice elems spare=>1<=P.cellsOf e->∃(b:Nat) (c:ou) (cells:List U) (e':Nat),vs= [.slice b 0 elems.length c]/\elems.length<=maxLen/\V.m.get b=some (.row cells e' true)/\
        (c= .known (elems.length+spare.length)∨c= .upto (P.cellsOf e))/\cells.length=elems.length*P.cellsOf e/\
        ∀(i:Nat) (x:w_ H_),elems[i]? =some x->fc P V fuel e x ((cells.drop (i*P.cellsOf e)).take<|P.cellsOf e)
    | some (.struct fs),.agg parts=>rJ P fs.toList 0=some (P.cellsOf t)->parts.length=fs.size/\vs.length=P.cellsOf t/\
        ∀(i:Nat) (f:Field) (x:w_ H_),fs[i]? =some f->parts[i]? =some x->fc P V fuel f.type x ((vs.drop f.offset).take<|P.cellsOf f.type)
    | some (.array n e),.agg parts=>P.cellsOf t=n*P.cellsOf e->parts.length=n/\vs.length=P.cellsOf t/\
        ∀(i:Nat) (x:w_ H_),parts[i]? =some x->fc P V fuel e x ((vs.drop (i*P.cellsOf e)).take<|P.cellsOf e)
    | _,_=>True
theorem fc.mono {H_:Type} {P:q6} {V V':aF} (he:∀(b:Pos) (o:cU),V.m.get b=some o->V'.m.get b=some o):∀(fuel:Nat) (t:y_) (d:w_ H_) (vs:List U),fc P V fuel t d vs->fc P V' fuel t d vs
  | 0,_,_,_,h=>h
  | fuel+1,t,d,vs,h=>by
    unfold fc at h⊢;split at h
    · exact h
    · exact h
    · exact h
    · exact h
    · intro h1
      obtain⟨b,c,cells,e',u,k2,z,A,B,C⟩:=h h1;exact⟨b,c,cells,e',u,k2,he _ _ z,A,B,fun i x hx=>fc.mono he fuel _ _ _ (C i x hx)⟩
    · intro h1
      obtain⟨u,k2,z⟩:=h h1;exact⟨u,k2,fun i f x hf hx=>fc.mono he fuel _ _ _ (z i f x hf hx)⟩
    · intro h1
      obtain⟨u,k2,z⟩:=h h1;exact⟨u,k2,fun i x hx=>fc.mono he fuel _ _ _ (z i x hx)⟩
    · trivial
theorem dN.flatten {D:dD}:∀{vss:List (List U)} {css:List (List j_)},vss.length=css.length->(∀(i:Nat) (vs:List U) (cs:List j_),vss[i]? =some vs->css[i]? =some cs->dN D vs cs)->dN D vss.flatten css.flatten
  | [],[],_,_=>dN.nil
  | [],_::_,h,_=>by simp at h
  | _::_,[],h,_=>by simp at h
  | vs::vss,cs::css,h,hh=>by
    rw[flatten_cons,flatten_cons];exact(hh 0 vs cs Z Z).append (dN.flatten (by simpa using h) fun i a b d hb=>hh (i+1) a b (by simpa using d) (by simpa using hb))
theorem oA {α:Type} {m:Nat}:∀{l:List (List α)} {i:Nat} {x:List α},(∀y∈l,y.length=m)->l[i]? =some x->(l.flatten.drop (i*m)).take m=x
  | [],i,x,_,h=>by simp at h
  | y::l,0,x,hm,h=>by
    simp at h;subst h;have hy:=hm y (by simp);simp[<-hy]
  | y::l,i+1,x,hm,h=>by
    have hy:=hm y (by simp);simp only[List.getElem?_cons_succ] at h;rw[flatten_cons,show(i+1)*m=y.length+i*m by rw[hy,succ_mul,Nat.add_comm],List.drop_append,drop_eq_nil_of_le oM,List.nil_append,Nat.add_sub_cancel_left];exact oA (fun z d=>hm z (by simp[d])) h
theorem qX {α:Type} {m:Nat}:∀{l:List (List α)},(∀y∈l,y.length=m)->l.flatten.length=l.length*m
  | [],_=>by simp
  | y::l,hm=>by
    rw[flatten_cons,lA_,hm y (by simp),qX fun z d=>hm z (by simp[d]),zc_,succ_mul,Nat.add_comm]
theorem oS {α:Type} {P:q6}:∀{fs:List Field} {off fin:Nat} {cs:List α},rJ P fs off=some fin->fin<=cs.length->(fs.map fun f=>(cs.drop f.offset).take (P.cellsOf f.type)).flatten=(cs.drop off).take (fin-off)/\off<=fin
  | [],off,fin,cs,h,_=>by simp only[rJ,oJ_] at h;subst h;simp
  | f::fs,off,fin,cs,h,hl=>by
    simp only[rJ] at h;split at h
    · rename_i d
      obtain⟨h1,h2⟩:=oS h hl;refine⟨?_,by omega⟩;rw[map_cons,flatten_cons,h1,d];rw[show fin-off=P.cellsOf f.type+(fin-(off+P.cellsOf f.type)) by omega,List.take_add,zl_]
    · cases h
theorem xl {α:Type} {P:q6}:∀{fs:List Field} {vss:List (List α)} {off fin:Nat},rJ P fs off=some fin->(∀(i:Nat) (f:Field) (vs:List α),fs[i]? =some f->vss[i]? =some vs->vs.length=P.cellsOf f.type)->vss.length=fs.length->
    ∀{i:Nat} {f:Field} {vs:List α},fs[i]? =some f->vss[i]? =some vs->off<=f.offset/\(vss.flatten.drop (f.offset-off)).take (P.cellsOf f.type)=vs
  | [],vss,off,fin,h,hl,hn,i,f,vs,hf,hv=>by simp at hf
  | g::fs,[],off,fin,h,hl,hn,i,f,vs,hf,hv=>by simp at hv
  | g::fs,w::vss,off,fin,h,hl,hn,i,f,vs,hf,hv=>by
    simp only[rJ] at h;split at h
    · rename_i ho
      have hw:=hl 0 g w Z Z;cases i with
      | zero=>
        simp_all
      | succ i=>
        simp only[List.getElem?_cons_succ] at hf hv;obtain⟨h1,h2⟩:=xl h (fun i f vs a b=>hl (i+1) f vs (by simpa using a) (by simpa using b)) (by simpa using hn) hf hv
        grind [List.drop_append,drop_eq_nil_of_le]
    · cases h
def lQ (V:aF):Prop:=∀b o,V.m.get b=some o->o.ro=true
structure FY (D:dD) (V:aF) (D':dD) (V':aF):Prop where
  le:D.le D'
  get:∀(b:Pos) (o:cU),V.m.get b=some o->V'.m.get b=some o
theorem FY.refl (D:dD) (V:aF):FY D V D V:=⟨dD.le_refl D,fun _ _ h=>h⟩
theorem FY.trans {D ρ₁ ρ₂:dD} {V σ₁ σ₂:aF} (h:FY D V ρ₁ σ₁) (h':FY ρ₁ σ₁ ρ₂ σ₂):FY D V ρ₂ σ₂:=⟨dD.le_trans h.le h'.le,fun b o hb=>h'.get b o (h.get b o hb)⟩
theorem Inv.Rc {w:x_} (hi:Inv D V w) (hr:lQ V) {l:Loc} {o:cU} {x:Obj} (hx:w.heap[l.eK]? =some x) (L:iD D l o x) (aa:o.ro=true):
    Inv (D.with V.next l) (V.alloc o) w/\lQ (V.alloc o)/\FY D V (D.with V.next l) (V.alloc o):=by
  have hle:=hi.xU l;have G:l.eK<w.heap.size:=(aS_.1 hx).1;have A:∀b l',b≠V.next->(D.with V.next l) b=some l'->D b=some l':=fun b l' hb h=>by rwa[dD.eN D l hb] at h
  have z:∀b,b≠V.next->(V.alloc o).m.get b=V.m.get b:=fun b hb=>PT.dS _ _ _ _ hb
  have B:(V.alloc o).m.get V.next=some o:=PT.dZ _ _ _
  have u:lQ (V.alloc o):=fun b q hb=>by
    by_cases e:b=V.next
    · simp_all
    · rw[z b e] at hb;exact hr b q hb
  refine⟨⟨⟨fun b hb=>?_,fun b l' hb=>?_,fun b o' l' hb C=>?_,fun b b' o₁ o₂ l₁ l₂ h1 E _ _ _ _=>⟨u b o₁ h1,u b' o₂ E⟩⟩,hi.oH.size,hi.oH.same,fun r _ ⟨b,o,l,h1,E,_,_⟩=>by rw[u b o h1] at E;cases E⟩,u,hle,fun b q hb=>?_⟩
  · have ab:V.next.num+1<=b.num:=by simpa [aF.alloc,Pos.jy] using hb
    have d:b≠V.next:=fun e=>by subst e;omega
    rw[dD.eN D l d,z b d];exact hi.fresh b oM
  · by_cases d:b=V.next
    · subst d;rw[dD.dk] at hb;cases hb;exact G
    · exact hi.eK b l'<|A b l' d hb
  · by_cases d:b=V.next
    · subst d
      rw[dD.dk] at C;rw[B] at hb;cases hb;cases C;exact⟨x,hx,L.mono hle⟩
    · rw[z b d] at hb
      obtain⟨y,M,K⟩:=hi.obj b o' l' hb (A b l' d C);exact⟨y,M,K.mono hle⟩
  · have d:b≠V.next:=fun e=>by subst e;rw[(hi.fresh _<|nR_ _).2] at hb;cases hb
    simp_all
section
variable {H_:Type} {enc:y_×j_->H_} {P:q6} {w:x_}
def KU (enc:y_×j_->H_) (P:q6) (w:x_) (fuel:Nat) (t:y_) (cs:List j_) (d:w_ H_):Prop:=
  ∀(D:dD) (V:aF),Inv D V w->lQ V->∃(D':dD) (V':aF) (vs:List U),Inv D' V' w/\lQ V'/\FY D V D' V'/\fc P V' fuel t d vs/\dN D' vs cs
theorem Ti {D:dD}:∀(cs:List j_),dN D (cs.map fun _=>U.any) cs
  | []=>dN.nil
  | _::cs=>dN.cons (by simp only[VR]) (Ti cs)
theorem sg {fuel:Nat} (ih:∀t cs d p,DataW.trod enc P w 0 (fun _=>true) true fuel t cs=some (d,p)->KU enc P w fuel t cs d):
    ∀(l:List (y_×List j_)) (xs:List (w_ H_×List MemPlace)),(l.mapM fun q=>DataW.trod enc P w 0 (fun _=>true) true fuel q.1 q.2)=some xs->∀(D:dD) (V:aF),Inv D V w->lQ V->
      ∃(D':dD) (V':aF) (vss:List (List U)),Inv D' V' w/\lQ V'/\FY D V D' V'/\vss.length=l.length/\xs.length=l.length/\∀(i:Nat) (q:y_×List j_) (x:w_ H_×List MemPlace) (vs:List U),l[i]? =some q->xs[i]? =some x->vss[i]? =some vs->fc P V' fuel q.1 x.1 vs/\dN D' vs q.2
  | [],xs,h,D,V,hi,hr=>by
    simp at h;subst h;exact⟨D,V,[],hi,hr,FY.refl _ _,Z,Z,fun i q x vs hq=>by simp at hq⟩
  | q::l,xs,h,D,V,hi,hr=>by
    simp only[mapM_cons,bind_eq_bind,bind_eq_some_iff,pure_def,oJ_] at h;obtain⟨⟨d,p⟩,h1,r,u,rfl⟩:=h;obtain⟨ρ₁,σ₁,vs,z,A,l1,B,C⟩:=ih _ _ _ _ h1 D V hi hr;obtain⟨ρ₂,σ₂,vss,E,G,l2,n1,K,hh⟩:=sg ih l r u ρ₁ σ₁ z A;refine⟨ρ₂,σ₂,vs::vss,E,G,l1.trans l2,by simp[n1],by simp[K],fun i q' x vs' hq hx hv=>?_⟩;cases i with
    | zero=>
      simp at hq hx hv;subst hq;subst hx;subst hv;exact⟨fc.mono l2.get _ _ _ _ B,dN.mono l2.le _ _ C⟩
    | succ i=>grind
theorem np {α β:Type} {f:α->Option β}:∀{l:List α} {ys:List β},l.mapM f=some ys->ys.length=l.length/\∀(i:Nat) (y:β),ys[i]? =some y->∃x,l[i]? =some x/\f x=some y
  | [],ys,h=>by simp_all
  | x::l,ys,h=>by
    simp only[mapM_cons,bind_eq_bind,bind_eq_some_iff,pure_def,oJ_] at h;obtain⟨y,h1,r,d,rfl⟩:=h;obtain⟨k1,k2⟩:=np d
    grind
theorem wc {α β γ:Type} {f:α->Option β} {g:β->Option γ}:∀{l:List α} {xs:List γ},(l.mapM fun a=>(f a).bind g)=some xs->∃ys,l.mapM f=some ys/\ys.mapM g=some xs
  | [],xs,h=>by simp_all
  | a::l,xs,h=>by
    simp only[mapM_cons,bind_eq_bind,bind_eq_some_iff,pure_def,oJ_] at h;obtain⟨x,⟨b,h1,h2⟩,r,h3,rfl⟩:=h;obtain⟨ys,k1,k2⟩:=wc h3
    simp_all
theorem mapM_map {α β γ:Type} {f:α->β} {g:β->Option γ}:∀(l:List α),(l.map f).mapM g=l.mapM fun a=>g (f a)
  | []=>rfl
  | a::l=>by simp only[map_cons,mapM_cons,mapM_map l]
theorem chunks_flatten {α:Type} {m:Nat} (L:List α):∀(n:Nat),((range n).map fun k=>(L.drop (k*m)).take m).flatten=L.take (n*m)
  | 0=>by simp
  | n+1=>by
    rw[List.range_succ,List.map_append,List.flatten_append,chunks_flatten L n];simp only[map_cons,List.map_nil,flatten_cons,List.flatten_nil,zk_];rw[succ_mul,List.take_add]
theorem yi {a:Addr} {n:Nat} {cs:List j_} (h:w.cells? 0 a n=some cs) (hn:1<=n):∃(c:Array j_) (e:y_) (fr:Nat×Nat),w.heap[a.block]? =some (Obj.cells c e fr)/\a.spot=none/\a.off+n<=c.size/\cs=(c.toList.drop a.off).take n:=by
  unfold World.cells? at h;rw[if_pos<|Nat.zero_le _] at h;obtain⟨B,k2⟩:=np h;have B:cs.length=n:=by simpa using B
  have h0:∃(c:Array j_) (e:y_) (fr:Nat×Nat),w.heap[a.block]? =some (Obj.cells c e fr)/\a.spot=none:=by
    have d:0<cs.length:=by omega
    obtain⟨x,hx,z⟩:=k2 0 cs[0] (gC d)
    have:x=0:=by
      grind
    subst this;have C:a.add 0=a:=by simp[Addr.add]
    rw[C] at z;unfold World.cell? at z;split at z
    · simp_all
    · cases z
  obtain⟨c,e,fr,hh,E⟩:=h0
  have u:∀i y,cs[i]? =some y->c[a.off+i]? =some y:=fun i y hy=>by
    grind [Addr.add_eq,cell?_of_heap]
  have A:a.off+n<=c.size:=by
    have d:n-1<cs.length:=by omega
    have:=u (n-1) cs[n-1] (gC d)
    grind
  refine⟨c,e,fr,hh,E,A,?_⟩;apply zf_
  grind
theorem FH {P:q6}:∀{fs:List Field} {off fin:Nat},rJ P fs off=some fin->∀f∈fs,f.offset+P.cellsOf f.type<=fin
  | [],off,fin,h,f,hf=>by cases hf
  | g::fs,off,fin,h,f,hf=>by
    simp only[rJ] at h;split at h
    · rename_i ho
      rcases mQ_.1 hf with rfl | hf
      · have:=(oS (P:=P) (cs:=replicate fin ()) h (by simp)).2
        omega
      · exact FH h f hf
    · cases h
theorem Mv (hw:∃(r:Nat) (c:Array j_) (e:y_) (fr:Nat×Nat),w.heap[r]? =some (Obj.cells c e fr)) (ih:∀t cs d p,DataW.trod enc P w 0 (fun _=>true) true fuel t cs=some (d,p)->KU enc P w fuel t cs d) {t e:y_} {a:Addr} {len:Nat} {d:w_ H_} {p:List MemPlace} (hu:P.underlying t=some (.slice e))
    (h:(if 0<=a.block/\len<=cap/\cap<=maxLen then
        ((range len).mapM fun i=>(w.cells? 0 (a.add (i*P.cellsOf e))<|P.cellsOf e).bind (DataW.trod enc P w 0 (fun _=>true) true fuel e)).bind fun elems=>
          (if(fun _=>true) a.block=true then(range (cap-len)).mapM fun j=>(w.cells? 0 (a.add ((len+j)*P.cellsOf e))<|P.cellsOf e).bind (DataW.trod enc P w 0 (fun _=>true) true fuel e) else some []).map fun rest=>
            (DataW.slice (elems.map (·.1))<|rest.map (·.1),MemPlace.row a ((elems.length+rest.length)*P.cellsOf e)++(elems++rest).flatMap (·.2))
      else none)=some (d,p)) (hi:Inv D V w) (hr:lQ V):
    ∃(D':dD) (V':aF) (vs:List U),Inv D' V' w/\lQ V'/\FY D V D' V'/\fc P V' (fuel+1) t d vs/\dN D' vs [Value.slice (some a) len cap]:=by
  split at h
  · rename_i hc
    obtain⟨_,bb,be⟩:=hc;obtain⟨elems,hE,h⟩:=Option.bind_eq_some_iff.1 h;obtain⟨rest,hR,h⟩:=oM_.1 h;rw[if_pos Z] at hR;have hd:d= .slice (elems.map (·.1)) (rest.map (·.1)):=by have:=congrArg Prod.fst h;simpa using this.symm
    subst hd;have z:elems.length=len:=by have:=(np hE).1;simpa using this
    have aq:rest.length=cap-len:=by have:=(np hR).1;simpa using this
    by_cases Q:1<=P.cellsOf e
    · obtain⟨css,a0,hex⟩:=wc hE
      obtain⟨kcs,M⟩:=np a0;have kcs:css.length=len:=by simpa using kcs
      have W:∀k,(a.add k).block=a.block/\(a.add k).off=a.off+k:=fun k=>by
        unfold Addr.add;split
        · rename_i h0;subst h0;exact⟨Z,Z⟩
        · exact⟨Z,Z⟩
      have E:a.add 0=a:=by simp[Addr.add]
      by_cases h0:len=0/\cap=0
      · obtain⟨rfl,rfl⟩:=h0
        obtain⟨r,c,e',fr,hh⟩:=hw;have G:iD D ⟨r,0,c.size⟩ (.row [] e' true) (.cells c e' fr):=⟨c,fr,Z,by simp,by simp,fun i v hv=>by simp at hv,fun h=>by cases h⟩;obtain⟨i1,r1,l1⟩:=hi.Rc hr hh G Z;refine⟨_,_,[.slice V.next 0 0 (.upto<|P.cellsOf e)],i1,r1,l1,?_,dN.cons ?_ dN.nil⟩
        · unfold fc
          rw[hu];dsimp only;intro _;have a1:elems= []:=eN_ z;subst a1;exact⟨V.next,_,[],e',Z,by simp,PT.dZ _ _ _,.inr Z,by simp,fun i x hx=>by simp at hx⟩
        · simp only[VR]
          refine⟨_,dD.dk _ _ _,.inr ?_⟩;simp
      · have X:∃(c:Array j_) (e':y_) (fr:Nat×Nat),w.heap[a.block]? =some (Obj.cells c e' fr)/\a.spot=none/\a.off<=c.size:=by
          have go:∀cs:List j_,w.cells? 0 a (P.cellsOf e)=some cs->∃(c:Array j_) (e':y_) (fr:Nat×Nat),w.heap[a.block]? =some (Obj.cells c e' fr)/\a.spot=none/\a.off<=c.size:=fun cs hk=>by
            obtain⟨c,e',fr,h1,h2,h3,_⟩:=yi hk Q;exact⟨c,e',fr,h1,h2,by omega⟩
          by_cases hl:len=0
          · subst hl
            obtain⟨dss,a2,_⟩:=wc hR;obtain⟨k1,k2⟩:=np a2;have k1:dss.length=cap-0:=by simpa using k1
            have u:0<dss.length:=by omega
            obtain⟨x,K,hx⟩:=k2 0 dss[0] (gC u);have:x=0:=by rw[zr_ oM] at K;exact(zs_ K).symm
            subst this;rw[nA_,zero_mul,E] at hx;exact go _ hx
          · have u:0<css.length:=by omega
            obtain⟨x,K,hx⟩:=M 0 css[0] (gC u);have:x=0:=by rw[zr_ oM] at K;exact(zs_ K).symm
            subst this;rw[zero_mul,E] at hx;exact go _ hx
        obtain⟨c,e',fr,hh,L,ar⟩:=X
        have R:∀(i:Nat) (y:List j_),css[i]? =some y->a.off+(i+1)*P.cellsOf e<=c.size/\y=((c.toList.drop a.off).drop (i*P.cellsOf e)).take (P.cellsOf e):=fun i y A=>by
          obtain⟨x,hx,a3⟩:=M i y A;have C:i<len:=by rw[<-kcs];exact(gA.1 A).1
          have:x=i:=by rw[zr_ C] at hx;exact(zs_ hx).symm
          subst this;obtain⟨c2,e2,bi,h1,h2,h3,h4⟩:=yi a3 Q;obtain⟨q1,q3⟩:=W (x*P.cellsOf e);rw[q1,hh] at h1;cases h1;rw[q3] at h3 h4;exact⟨by rw[succ_mul];omega,by rw[h4,zl_]⟩
        have a4:a.off+len*P.cellsOf e<=c.size:=by
          by_cases hl:len=0
          · subst hl;omega
          · have u:len-1<css.length:=by omega
            have:=(R (len-1) css[len-1]<|gC u).1;rwa[show len-1+1=len by omega] at this
        have aa:∀(i:Nat) (y:List j_),css[i]? =some y->y.length=P.cellsOf e:=fun i y A=>by
          obtain⟨k1,k2⟩:=R i y A;rw[k2,lT_,lD_,lD_,Array.length_toList];rw[succ_mul] at k1;omega
        have S:css=(range len).map fun k=>((c.toList.drop a.off).drop (k*P.cellsOf e)).take (P.cellsOf e):=by
          apply zf_;intro i;rw[gM_]
          by_cases C:i<len
          · rw[zr_ C]
            have u:i<css.length:=by omega
            rw[gC u];exact congrArg some (R i css[i]<|gC u).2
          · rw[gN_ oM,gN_ (by simp;omega)];rfl
        obtain⟨ρ₁,σ₁,vss,i1,r1,l1,n1,n2,T⟩:=sg ih (css.map fun cs=>(e,cs)) elems (by rw[mapM_map];exact hex) D V hi hr;have n1:vss.length=css.length:=by simpa using n1
        have hV:dN ρ₁ vss.flatten css.flatten:=dN.flatten n1 fun i vs cs hv ac=>by
          have u:i<elems.length:=by rw[z,<-kcs];exact(gA.1 ac).1
          exact(T i (e,cs) elems[i] vs (by rw[gM_,ac];rfl) (gC u) hv).2
        have am:∀vs∈vss,vs.length=P.cellsOf e:=fun vs hv=>by
          obtain⟨i,C,rfl⟩:=List.getElem_of_mem hv;have u:i<css.length:=by omega
          have B:i<elems.length:=by omega
          have:=(T i (e,css[i]) elems[i] vss[i] (by rw[gM_,gC u];rfl) (gC B)<|gC C).2.length;rw[<-this];exact aa i _<|gC u
        have ap:vss.flatten.length=len*P.cellsOf e:=by rw[qX am,n1,kcs]
        rw[S,chunks_flatten] at hV
        have G:iD ρ₁ ⟨a.block,a.off,c.size-a.off⟩ (.row vss.flatten e' true) (.cells c e' fr):=by
          refine⟨c,fr,Z,by show c.size=a.off+(c.size-a.off);omega,by rw[ap];show _<=c.size-a.off;omega,fun i v hv=>?_,fun h=>by cases h⟩;obtain⟨y,A,a5⟩:=hV.get hv;rw[List.getElem?_take] at A;split at A
          · rw[List.getElem?_drop,aT_] at A
            exact⟨y,A,a5⟩
          · cases A
        obtain⟨i2,r2,l2⟩:=i1.Rc r1 hh G Z;refine⟨_,_,[.slice σ₁.next 0 len (.known cap)],i2,r2,l1.trans l2,?_,dN.cons ?_ dN.nil⟩
        · unfold fc
          rw[hu];dsimp only;intro _;refine⟨σ₁.next,_,vss.flatten,e',by rw[lM_,z],by rw[lM_,z];omega,PT.dZ _ _ _,.inl (by rw[lM_,lM_,z,aq];congr 1;omega),by rw[ap,lM_,z],fun i x hx=>?_⟩;rw[gM_] at hx;cases A:elems[i]? with
          | none=>rw[A] at hx;cases hx
          | some y=>
            rw[A] at hx;cases hx;have C:i<len:=by rw[<-z];exact(gA.1 A).1
            have u:i<css.length:=by omega
            have B:i<vss.length:=by omega
            rw[oA am<|gC B];exact fc.mono l2.get _ _ _ _ (T i (e,css[i]) y vss[i] (by rw[gM_,gC u];rfl) A<|gC B).1
        · simp only[VR]
          refine⟨_,dD.dk _ _ _,?_⟩;obtain⟨ab,ao,a9⟩:=a;dsimp only at L⊢;subst L;rfl
    · refine⟨D,V,[.any],hi,hr,FY.refl _ _,?_,dN.cons (by simp only[VR]) dN.nil⟩
      unfold fc;rw[hu];exact fun h'=>absurd h' Q
  · cases h
theorem lay (hw:∃(r:Nat) (c:Array j_) (e:y_) (fr:Nat×Nat),w.heap[r]? =some (Obj.cells c e fr)):∀(fuel:Nat) (t:y_) (cs:List j_) (d:w_ H_) (p:List MemPlace),DataW.trod enc P w 0 (fun _=>true) true fuel t cs=some (d,p)->KU enc P w fuel t cs d
  | 0,t,cs,d,p,h=>by simp[DataW.trod] at h
  | fuel+1,t,cs,d,p,h=>by
    intro D V hi hr;have ih:=lay hw fuel
    have other:(∀vs:List U,fc P V (fuel+1) t d vs)->∃(D':dD) (V':aF) (vs:List U),Inv D' V' w/\lQ V'/\FY D V D' V'/\fc P V' (fuel+1) t d vs/\dN D' vs cs:=fun K=>
      ⟨D,V,_,hi,hr,FY.refl _ _,K _,Ti cs⟩
    have one:∀{v:U} {x:j_},cs= [x]->(∀D:dD,VR D v x)->fc P V (fuel+1) t d [v]->∃(D':dD) (V':aF) (vs:List U),Inv D' V' w/\lQ V'/\FY D V D' V'/\fc P V' (fuel+1) t d vs/\dN D' vs cs:=fun {v x} C hv K=>by
      subst C;exact⟨D,V,[v],hi,hr,FY.refl _ _,K,dN.cons (hv D) dN.nil⟩
    cases hu:P.underlying t with
    | none=>exact other fun vs=>by unfold fc;rw[hu];trivial
    | some u=>
      unfold DataW.trod at h;rw[hu] at h;cases u with
      | bool=>
        split at h<;>first | (rename_i he;cases he;done) | skip
        all_goals first
          | (rename_i b he
             cases h;exact one (v:=.bool b) Z (fun D=>by simp only[VR]) (by unfold fc;rw[hu]))
          | cases h
      | int k=>
        split at h<;>first | (rename_i he;cases he;done) | skip
        all_goals first
          | (rename_i S k2 n he
             cases he;split at h
             · rename_i hk
               obtain⟨T,W⟩:=hk;subst T;cases h;exact one (v:=.int k2 n) Z (fun D=>by simp only[VR]) (by unfold fc;rw[hu];exact⟨Z,W,Z⟩)
             · cases h)
          | cases h
      | string=>
        split at h<;>first | (rename_i he;cases he;done) | skip
        all_goals first
          | (rename_i s he
             split at h
             · rename_i hk
               cases h;exact one (v:=.str<|s.data.toList.map UInt8.toNat) Z (fun D=>by simp only[VR];exact⟨s,Z,Z⟩) (by unfold fc;rw[hu];exact⟨by simpa using hk,Z⟩)
             · cases h)
          | cases h
      | struct fs=>
        dsimp only at h;split at h
        · rename_i hlen
          obtain⟨xs,L,hx⟩:=oM_.1 h;have K:d= .agg (xs.map (·.1)):=by have:=congrArg Prod.fst hx;simpa using this.symm
          subst K
          by_cases E:rJ P fs.toList 0=some (P.cellsOf t)
          · obtain⟨ρ₁,σ₁,vss,X,r1,l1,n1,G,hh⟩:=sg ih (fs.toList.map fun f=>(f.type,(cs.drop f.offset).take<|P.cellsOf f.type)) xs (by rw[mapM_map];exact L) D V hi hr
            have hflat:=(oS (cs:=cs) E oM).1;have hle:=FH E;have n1:vss.length=fs.toList.length:=by simpa using n1
            have G:xs.length=fs.toList.length:=by simpa using G
            have B:∀(i:Nat) (f:Field) (vs:List U),fs.toList[i]? =some f->vss[i]? =some vs->∃x,xs[i]? =some x/\fc P σ₁ fuel f.type x.1 vs/\dN ρ₁ vs ((cs.drop f.offset).take<|P.cellsOf f.type):=fun i f vs hf hv=>by
              have z:i<xs.length:=by rw[G];exact(gA.1 hf).1
              obtain⟨S,k2⟩:=hh i (f.type,(cs.drop f.offset).take<|P.cellsOf f.type) xs[i] vs (by rw[gM_,hf];rfl) (gC z) hv;exact⟨xs[i],gC z,S,k2⟩
            have M:∀(i:Nat) (f:Field) (vs:List U),fs.toList[i]? =some f->vss[i]? =some vs->vs.length=P.cellsOf f.type:=fun i f vs hf hv=>by
              obtain⟨x,_,_,k⟩:=B i f vs hf hv;have h1:=k.length;have h2:=hle f (gB_ hf);rw[lT_,lD_] at h1;omega
            have R:dN ρ₁ vss.flatten cs:=by
              have:=dN.flatten (D:=ρ₁) (vss:=vss) (css:=fs.toList.map fun f=>(cs.drop f.offset).take (P.cellsOf f.type)) (by simpa using n1) (fun i vs c hv C=>by
                rw[gM_] at C;cases hf:fs.toList[i]? with
                | none=>rw[hf] at C;cases C
                | some f=>
                  rw[hf] at C;cases C;obtain⟨x,_,_,k⟩:=B i f vs hf hv;exact k)
              rw[hflat,drop_zero,Nat.sub_zero,<-hlen,take_length] at this;exact this
            refine⟨ρ₁,σ₁,vss.flatten,X,r1,l1,?_,R⟩;unfold fc;rw[hu];dsimp only;intro _;refine⟨by simpa using G,by rw[<-hlen];exact R.length.symm,fun i f x hf hx=>?_⟩;have Q:fs.toList[i]? =some f:=by rw[aT_];exact hf
            have z:i<vss.length:=by rw[n1];exact(gA.1 Q).1
            obtain⟨_,hp⟩:=xl E M n1 Q (gC z);obtain⟨y,hy,k,_⟩:=B i f vss[i] Q (gC z);rw[gM_,hy] at hx;cases hx;rw[Nat.sub_zero] at hp;rw[hp];exact k
          · exact other fun vs=>by unfold fc;rw[hu];exact fun h'=>absurd h' E
        · cases h
      | array m e=>
        dsimp only at h;split at h
        · rename_i hlen
          obtain⟨xs,L,hx⟩:=oM_.1 h;have K:d= .agg (xs.map (·.1)):=by have:=congrArg Prod.fst hx;simpa using this.symm
          subst K
          by_cases E:P.cellsOf t=m*P.cellsOf e
          · obtain⟨ρ₁,σ₁,vss,X,r1,l1,n1,G,hh⟩:=sg ih ((range m).map fun i=>(e,(cs.drop (i*P.cellsOf e)).take<|P.cellsOf e)) xs (by rw[mapM_map];exact L) D V hi hr
            have n1:vss.length=m:=by simpa using n1
            have G:xs.length=m:=by simpa using G
            have B:∀(i:Nat) (vs:List U),vss[i]? =some vs->∃x,xs[i]? =some x/\fc P σ₁ fuel e x.1 vs/\dN ρ₁ vs ((cs.drop (i*P.cellsOf e)).take<|P.cellsOf e):=fun i vs hv=>by
              have A:i<m:=by rw[<-n1];exact(gA.1 hv).1
              have z:i<xs.length:=by omega
              obtain⟨S,k2⟩:=hh i (e,(cs.drop (i*P.cellsOf e)).take<|P.cellsOf e) xs[i] vs (by rw[gM_,zr_ A];rfl) (gC z) hv;exact⟨xs[i],gC z,S,k2⟩
            have M:∀vs∈vss,vs.length=P.cellsOf e:=fun vs hv=>by
              obtain⟨i,A,rfl⟩:=List.getElem_of_mem hv;obtain⟨x,_,_,k⟩:=B i _ (gC A);have h1:=k.length;rw[lT_,lD_,hlen,E] at h1;have:(i+1)*P.cellsOf e<=m*P.cellsOf e:=nM_ _ oM;rw[succ_mul] at this;omega
            have R:dN ρ₁ vss.flatten cs:=by
              have:=dN.flatten (D:=ρ₁) (vss:=vss) (css:=(range m).map fun i=>(cs.drop (i*P.cellsOf e)).take (P.cellsOf e)) (by simpa using n1) (fun i vs c hv C=>by
                obtain⟨x,_,_,k⟩:=B i vs hv;have A:i<m:=by rw[<-n1];exact(gA.1 hv).1
                rw[gM_,zr_ A] at C;cases C;exact k)
              rw[chunks_flatten,<-E,<-hlen,take_length] at this;exact this
            refine⟨ρ₁,σ₁,vss.flatten,X,r1,l1,?_,R⟩;unfold fc;rw[hu];dsimp only;intro _;refine⟨by simpa using G,by rw[<-hlen];exact R.length.symm,fun i x hx=>?_⟩
            have A:i<vss.length:=by
              have:=(gA.1 hx).1;rw[lM_] at this;omega
            rw[oA M<|gC A];obtain⟨y,hy,k,_⟩:=B i vss[i] (gC A);rw[gM_,hy] at hx;cases hx;exact k
          · exact other fun vs=>by unfold fc;rw[hu];exact fun h'=>absurd h' E
        · cases h
      | slice e=>
        split at h<;>first | (rename_i he;cases he;done) | skip
        all_goals first
          | (rename_i he
             cases h;exact one (v:=.ax) Z (fun D=>by simp only[VR]) (by unfold fc;rw[hu]))
          | (rename_i e' a len cap he
             cases he;exact Mv hw ih hu h hi hr)
          | cases h
      | _=>exact other fun vs=>by unfold fc;rw[hu];trivial
end
variable {ca cs fi vs:List U} {mk:Mk} {e:Nat} {y:q_} {ob:cU} {cp:ou}
section
variable {P:q6} {G:Cx} {ev:q_->Option U} {V:aF}
def Ext (V V':aF):Prop:=V.next<=V'.next/\∀(b:Nat) (o:cU),b<V.next->V.m.get b=some o->V'.m.get b=some o
theorem Ext.refl (V:aF):Ext V V:=⟨nR_ _,fun _ _ _ h=>h⟩
theorem Ext.trans {V σ₁ σ₂:aF} (h:Ext V σ₁) (h':Ext σ₁ σ₂):Ext V σ₂:=⟨Nat.le_trans h.1 h'.1,fun b o hb d=>h'.2 b o (zh_ hb h.1) (h.2 b o hb d)⟩
theorem Ao (V:aF) (o:cU):(V.alloc o).m.get V.next=some o:=PT.dZ _ _ _
theorem oB (V:aF) (o:cU) {b:Nat} (h:b<V.next):(V.alloc o).m.get b=V.m.get b:=PT.dS _ _ _ _ (Nat.ne_of_lt h)
theorem CC (V:aF) (b:Nat) (o:cU):(V.setObj b o).m.get b=some o:=PT.dZ _ _ _
theorem te (V:aF) {b b':Nat} (o:cU) (h:b'≠b):(V.setObj b o).m.get b'=V.m.get b':=PT.dS _ _ _ _ h
theorem Ext.alloc (V:aF) (o:cU):Ext V (V.alloc o):=⟨Nat.le_succ _,fun b o' hb h=>by rw[oB V o hb];exact h⟩
theorem al {v:U} (h:ev x=some v):dX P G ev V (.move x)= .val v V:=by
 show(match ev x with | some v=>HR.val v V | none=>_)=_;rw[h]
theorem an {v:U} (h:ev x=some v):dX P G ev V (.assign x)= .val v V:=by
 show(match ev x with | some v=>HR.val v V | none=>_)=_;rw[h]
theorem bx {op:Op} {v:U} (hk:kindOf P op= .pure) (h:dO P ev op=some v):dX P G ev V op= .val v V:=by
 unfold dX;simp_all
theorem wB {op:Op} {v:U} (hk:kindOf P op= .read) (h:ie P ev V op=some v):dX P G ev V op= .val v V:=by
 unfold dX;simp_all
theorem sK {op:Op} (hk:kindOf P op= .alloc) (h:gb P ev op=some (ob,mk)):dX P G ev V op= .val (mk.of V.next) (V.alloc ob):=by
 unfold dX;simp_all
theorem jD {op:Op} {r:HR} (hk:kindOf P op= .ld) (h:gh P G.ov ev V op=r):dX P G ev V op=r:=by
 unfold dX;rw[hk];exact h
theorem av {t:y_} {b:Pos} {off:Nat} {cells:List U} {ro:Bool} {v:U} (hx:ev x=some (.ptr b off)) (hb:V.m.get b=some (.row cells e ro)) (d:eo P t=some none) (hv:nth cells off=some v):dX P G ev V (.load t x)= .val v V:=by
 refine wB Z ?_;simp only[ie,hx,hb,d,hv]
theorem aN {t:y_} {b:Pos} {off n:Nat} {cells:List U} {ro:Bool} (hx:ev x=some (.ptr b off)) (hb:V.m.get b=some (.row cells e ro)) (u:eo P t=some (some n)) (hl:off+n<=cells.length) (hv:(cells.drop off).take n=vs):dX P G ev V (.load t x)= .val (.agg vs) V:=by
 refine wB Z ?_;have d:ble (off+n) (dK cells)=true:=by rw[nE_,cH];exact hl
 simp only[ie,hx,hb,u,d,cond_true,ed,eR,hv]
theorem aw {s:y_} {i:Nat} {b:Pos} {off k:Nat} (hx:ev x=some (.ptr b off)) (hk:oX P s i=some k):dX P G ev V (.fieldAddr s x i)= .val (.ptr b (off+k)) V:=by
 refine bx Z ?_;unfold oX at hk;simp only[dO,hx];cases d:structOf P s with
 | none=>simp_all
 | some fs=>
  rw[d] at hk;dsimp only at hk⊢;cases hf:fs[i]? with
  | none=>simp_all
  | some f=>
   rw[hf] at hk;dsimp only at hk⊢;rw[qZ] at hk
   grind
theorem QX {t e:y_} {j:TypeInfo} {i:q_} {b:Pos} {off len n:Nat} {c:ou} {k:w0} (d:P.underlying t=some (.slice e)) (hj:P.info? e=some j) (hx:ev x=some (.slice b off len c)) (hi:ev i=some (.int k (.ofNat n))) (hn:n<len):dX P G ev V (.indexAddr t x i)= .val (.ptr b (off+n*j.size)) V:=by
 refine bx Z ?_;have:ble (Nat.succ n) len=true:=by rw[nE_];exact hn
 simp only[dO,d,hx,hi,hj,this,cond_true]
theorem oq {c:Call} {t e:y_} {b:Pos} {off len:Nat} (d:c.callee= .builtin .len) (u:c.argTypes[0]? =some t) (w:c.args.toList= [x]) (hu:P.underlying t=some (.slice e)) (hx:ev x=some (.slice b off len cp)):dX P G ev V (.call c)= .val (.int .i64 (.ofNat len)) V:=by
 refine bx (by simp[kindOf,d,isMap,u,hu]) ?_;simp only[dO,d,u,w,hx,zg,hu,map_some]
theorem ay {o:BinOp} {t r:y_} {a b v:U} (hx:ev x=some a) (d:ev y=some b) (h:qx P (Bj x || Bj y) o t a b=some v):dX P G ev V (.binOp o t x y r)= .val v V:=by
 refine bx Z ?_;simp only[dO,hx,d,h]
theorem aE {c a b:q_} {q:Bool} {v:U} (d:ev c=some (.bool q)) (h:(if q then ev a else ev b)=some v):dX P G ev V (.pick c a b)= .val v V:=by
 refine bx Z ?_;cases q with
 | true=>simp only[dO,d];exact h
 | false=>simp only[dO,d];exact h
theorem df {t:y_} {q:Bool} (hx:ev x=some (.bool q)):dX P G ev V (.unOp .not t x)= .val (.bool (!q)) V:=by
 refine bx Z ?_;simp only[dO,hx];cases q<;>rfl
theorem cd {e:y_} {v:U} (hx:ev x=some v) (d:dg v=some cs):dX P G ev V (.box e x)= .val (.ptr V.next 0) (V.alloc (.row cs e false)):=by
 exact sK (op:=.box e x) (mk:=.ptr) (ob:=.row cs e false) Z (by simp only[gb,hx,Option.bind_some,d])
theorem bN {e:y_} (d:(fH P e).bind dg=some cs) (u:vp P e=false):dX P G ev V (.alloc e)= .val (.ptr V.next 0) (V.alloc (.row cs e false)):=by
 exact sK (op:=.alloc e) (mk:=.ptr) (ob:=.row cs e false) Z (by simp only[gb,d,u,cond_false])
theorem QY {t:y_} {b:Pos} {off:Nat} {v:U} {cells:List U} {j:TypeInfo} (hx:ev x=some (.ptr b off)) (d:ev y=some v) (u:dg v=some cs) (hb:V.m.get b=some (.row cells e false)) (hj:P.info? t=some j) (hl:cs.length=j.size) (hle:off+j.size<=cells.length) (aa:cF cs=true):
  dX P G ev V (.store t x y)= .skip (V.setObj b (.row (dy cs cells off) e false)):=by
 refine jD Z ?_
 have h1:(Nat.beq (dK cs) j.size && ble (off+j.size) (dK cells) && cF cs)=true:=by
  rw[bA_,bA_,Nat.beq_eq,nE_,cH,cH]
  simp_all
 simp only[gh,hx,d,z4,u,hb,hj,h1,cond_true]
theorem aO {c:Call} {f:q_} {g:Nat} {args:List U} (d:c.callee= .value f) (hf:ev f=some (.func g fi ca)) (u:ju ev c.args.toList=some args) (w:l6 P g=true):dX P G ev V (.call c)= .enter g (fi++(args++ca)) V:=by
 refine jD (by simp[kindOf,d]) ?_;simp only[gh,d,hf,u,AE,w,cond_true,eD]
end
end Go.Ev
namespace Go.Ev
section
variable [Env] {P:q6} {G:Cx} {ev:q_->Option U} {V:aF}
theorem aR {id:Nat} {Q:Ex->PT U->aF->Prop} {t:PT U} (h:Q .normal t V):kB id Q (.exit id) t V:=by
 show(if id=id then _ else _)
 simp_all
theorem iT {id j:Nat} {Q:Ex->PT U->aF->Prop} {t:PT U} (hj:Nat.beq j id=false) (h:Q (.exit j) t V):kB id Q (.exit j) t V:=by
 show(if j=id then _ else _);rw[if_neg (fun e=>by simp_all)];exact h
theorem aV {n i:Nat} {b:Code} {Q:Ex->PT U->aF->Prop} {t:PT U} (h:Q (.exit i) t V):dp P G n b Q (.exit i) t V:=h
theorem aA {n:Nat} {b:Code} {Q:Ex->PT U->aF->Prop} {t:PT U} (h:Q .ret t V):dp P G n b Q .ret t V:=h
theorem eF {t e:y_} {m:Nat} {x i:q_} {b:Pos} {off len n:Nat} {c:ou} {k:w0} (d:P.underlying t=some (.slice e)) (hj:(P.info? e).map (·.size)=some m) (hx:ev x=some (.slice b off len c)) (hi:ev i=some (.int k (.ofNat n))) (hn:n<len):dX P G ev V (.indexAddr t x i)= .val (.ptr b (off+n*m)) V:=by
 cases hq:P.info? e with
 | none=>simp_all
 | some j=>
  rw[hq] at hj;cases hj;exact QX d hq hx hi hn
theorem rR {t:y_} {m:Nat} {x y:q_} {b:Pos} {off:Nat} {v:U} {cs cells:List U} {e:Nat} (hx:ev x=some (.ptr b off)) (hy:ev y=some v) (hc:dg v=some cs) (hb:V.m.get b=some (.row cells e false)) (hj:(P.info? t).map (·.size)=some m) (hl:cs.length=m) (hle:off+m<=cells.length) (aa:cF cs=true):
  dX P G ev V (.store t x y)= .skip (V.setObj b (.row (dy cs cells off) e false)):=by
 cases hq:P.info? t with
 | none=>simp_all
 | some j=>
  grind [QY]
end
end Go.Ev
namespace Go.Ev
variable [Env]
variable {α:Type} {parts:Array (Nat×q_)} {places:List (Nat×Nat)} {cs vs:List U} {la:List α} {e j:Nat} {I_:Nat->PT U->aF->Prop} {io x xo y:q_} {ob:cU} {R:α->List U->Prop}
abbrev KP:=Nat->cU->Prop
def KP.le (K K':KP):Prop:=∀b o,K b o->K' b o
theorem KP.le_refl (K:KP):KP.le K K:=fun _ _ h=>h
theorem kR {K K' K'':KP} (h:KP.le K K') (h':KP.le K' K''):KP.le K K'':=fun b o hb=>h' b o (h b o hb)
def KP.add (K:KP) (b:Nat) (o:cU):KP:=fun b' o'=>K b' o'∨(b'=b/\o'=o)
theorem KP.tR (K:KP) (b:Nat) (o:cU):KP.le K (K.add b o):=fun _ _ h=>.inl h
abbrev Own:=List (Nat×cU)
structure F (V:aF) (K:KP) (L:Own):Prop where
 kept:∀b o,K b o->b<V.next/\V.m.get b=some o/\∀e∈L,e.1≠b
 own:∀e∈L,e.1<V.next/\V.m.get e.1=some e.2
 ne:L.Pairwise fun a b=>a.1≠b.1
section
variable {V:aF} {K:KP} {L:Own}
theorem F.bY (h:F V K L) {b:Nat} {o:cU} (hk:K b o):V.m.get b=some o:=(h.kept b o hk).2.1
theorem F.get (h:F V K L) (k:Nat) {b:Nat} {o:cU} (hk:L[k]? =some (b,o)):V.m.get b=some o:=(h.own _<|gB_ hk).2
theorem F.alloc (h:F V K L) (o:cU):F (V.alloc o) K ((V.next,o)::L) where
 kept b o' hb:=by
  obtain⟨h1,d,h3⟩:=h.kept b o' hb;refine⟨Nat.lt_succ_of_lt h1,by rw[oB V o h1];exact d,fun e he=>?_⟩
  grind
 own e he:=by
  rcases mQ_.1 he with rfl | he
  ·exact⟨Nat.lt_succ_self _,Ao _ _⟩
  obtain⟨h1,d⟩:=h.own e he;exact⟨Nat.lt_succ_of_lt h1,by rw[oB V o h1];exact d⟩
 ne:=List.pairwise_cons.2 ⟨fun e he=>fun hh=>by have:=(h.own e he).1;omega,h.ne⟩
theorem F.pop {e:Nat×cU} (h:F V K (e::L)):F V K L where
 kept b o hb:=let ⟨h1,d,h3⟩:=h.kept b o hb;⟨h1,d,fun e he=>h3 e (mC_ _ he)⟩
 own e he:=h.own e (mC_ _ he)
 ne:=(List.pairwise_cons.1 h.ne).2
theorem F.bB:∀{M:Own},F V K (M++L)->F V K L
 | [],h=>h
 | _::_,h=>F.bB h.pop
theorem F.perm {L':Own} (h:F V K L) (hp:L.Perm L'):F V K L' where
 kept b o hb:=let ⟨h1,u,h3⟩:=h.kept b o hb;⟨h1,u,fun e he=>h3 e (hp.mem_iff.2 he)⟩
 own e he:=h.own e (hp.mem_iff.2 he)
 ne:=(hp.pairwise_iff (fun {a b} d=>fun e=>d e.symm)).1 h.ne
theorem F.EI {b:Nat} {o:cU} (h:F V K ((b,o)::L)):F V (K.add b o) L where
 kept b' o' hb:=by
  rcases hb with hb | ⟨rfl,rfl⟩
  ·exact h.pop.kept b' o' hb
  exact⟨(h.own _<|mS_ ..).1,(h.own _<|mS_ ..).2,fun e he hh=>(List.pairwise_cons.1 h.ne).1 e he hh.symm⟩
 own:=h.pop.own
 ne:=h.pop.ne
theorem F.vq {b:Nat} {o:cU} (h:F V K ((b,o)::L)) (o':cU):F (V.setObj b o') K ((b,o')::L) where
 kept b' o'' hb:=by
  obtain⟨h1,d,h3⟩:=h.kept b' o'' hb;refine⟨h1,by grind [te,mS_],fun e he=>?_⟩;rcases mQ_.1 he with rfl | he
  ·simp_all
  grind
 own e he:=by
  rcases mQ_.1 he with rfl | he
  ·exact⟨(h.own _<|mS_ ..).1,CC _ _ _⟩
  obtain⟨h1,d⟩:=h.own e (mC_ _ he);exact⟨h1,by rw[te V o' (fun hh=>(List.pairwise_cons.1 h.ne).1 e he hh.symm)];exact d⟩
 ne:=List.pairwise_cons.2 ⟨(List.pairwise_cons.1 h.ne).1,(List.pairwise_cons.1 h.ne).2⟩
theorem F.Qv {b:Nat} {o:cU} {x:Nat×cU} (h:F V K (x::(b,o)::L)) (o':cU):F (V.setObj b o') K (x::(b,o')::L):=
 ((h.perm<|List.Perm.swap ..).vq o').perm (List.Perm.swap ..)
theorem Nk (x y z:α) (L:List α):(x::y::z::L).Perm (z::x::y::L):=
 (List.Perm.cons x<|List.Perm.swap z y L).trans (List.Perm.swap z x (y::L))
theorem F.Ul {b:Nat} {o:cU} {x y:Nat×cU} (h:F V K (x::y::(b,o)::L)) (o':cU):F (V.setObj b o') K (x::y::(b,o')::L):=
 ((h.perm<|Nk ..).vq o').perm (Nk ..).symm
theorem Re (x y z u:α) (L:List α):(x::y::z::u::L).Perm (u::x::y::z::L):=
 (List.Perm.cons x<|Nk y z u L).trans (List.Perm.swap u x (y::z::L))
theorem F.VH {b:Nat} {o:cU} {x y z:Nat×cU} (h:F V K (x::y::z::(b,o)::L)) (o':cU):F (V.setObj b o') K (x::y::z::(b,o')::L):=
 ((h.perm<|Re ..).vq o').perm (Re ..).symm
theorem F.zT {b:Nat} {o:cU} (h:F V K ((b,o)::L)) (o':cU):F ((V.drop b).alloc o') K ((V.next,o')::L):=by
 refine F.alloc (V:=V.drop b) ⟨fun b' o'' hb=>?_,fun e he=>?_,h.pop.ne⟩ o'
 ·obtain⟨h1,d,h3⟩:=h.kept b' o'' hb;exact⟨h1,by rw[show(V.drop b).m.get b'=V.m.get b' from PT.dS _ _ _ _ (fun e=>h3 _ (mS_ ..) e.symm)];exact d,fun e he=>h3 e (mC_ _ he)⟩
 obtain⟨h1,d⟩:=h.own e (mC_ _ he);exact⟨h1,by rw[show(V.drop b).m.get e.1=V.m.get e.1 from PT.dS _ _ _ _ (fun hh=>(List.pairwise_cons.1 h.ne).1 e he hh.symm)];exact d⟩
theorem F.named (h:F V K L):∃L',F V K L'/\L=L':=⟨L,h,Z⟩
end
def gH (K:KP) (p:U) (vs:List U):Prop:=
 ∃(b off:Nat) (cells:List U) (e:Nat) (ro:Bool),p= .ptr b off/\K b (.row cells e ro)/\off+vs.length<=cells.length/\(cells.drop off).take vs.length=vs
theorem gH.mono {K K':KP} (hk:KP.le K K') {p:U} (h:gH K p vs):gH K' p vs:=
 let ⟨b,off,cells,e,ro,h1,d,h3,h4⟩:=h;⟨b,off,cells,e,ro,h1,hk _ _ d,h3,h4⟩
def QZ (m len:Nat) (c:ou):Prop:=c= .upto m∨∃n,c= .known n/\len<=n
def bS {α:Type} (K:KP) (m:Nat) (R:α->List U->Prop) (l:List α) (v:U):Prop:=
 (l= []/\v= .ax)∨∃(b off:Nat) (c:ou) (cells:List U) (e:Nat) (ro:Bool),v= .slice b off l.length c/\QZ m l.length c/\K b (.row cells e ro)/\off+l.length*m<=cells.length/\l.length<=9223372036854775807/\
  ∀(i:Nat) (x:α),l[i]? =some x->R x ((cells.drop (off+i*m)).take m)
theorem bS.mono {K K':KP} {m:Nat} {R':α->List U->Prop} {l:List α} {v:U} (h:bS K m R l v) (hk:KP.le K K') (d:∀x vs,R x vs->R' x vs):bS K' m R' l v:=by
 rcases h with h | ⟨b,off,c,cells,e,ro,h1,u,h3,h4,h5⟩
 ·exact .inl h
 exact .inr ⟨b,off,c,cells,e,ro,h1,u,hk _ _ h3,h4,h5.1,fun i x hx=>d x _ (h5.2 i x hx)⟩
theorem bS.cE {K:KP} {m:Nat} {l:List α} {v:U} (h:bS K m R l v):l.length<=9223372036854775807:=by
 rcases h with ⟨rfl,_⟩ | ⟨b,off,c,cells,e,ro,h1,h2,h3,h4,h5,_⟩
 ·exact Nat.zero_le _
 exact h5
theorem bS.leaf {K:KP} {m:Nat} {l:List α} {v:U} (h:bS K m R l v):dg v=some [v]/\ml v=true:=by
 rcases h with ⟨_,rfl⟩ | ⟨b,off,c,cells,e,ro,rfl,_⟩<;>exact⟨rfl,rfl⟩
theorem bS.zg {α:Type} {K:KP} {m:Nat} {R:α->List U->Prop} {l:List α} {v:U} (h:bS K m R l v) {P:q6} {t e:y_} (hu:P.underlying t=some (.slice e)):Go.Ev.zg P t v=some l.length:=by
 rcases h with ⟨rfl,rfl⟩ | ⟨b,off,c,cells,e,ro,rfl,_⟩
 ·simp only[Go.Ev.zg,hu];rfl
 simp only[Go.Ev.zg,hu]
theorem bS.at {α:Type} {K:KP} {m:Nat} {R:α->List U->Prop} {l:List α} {v:U} (h:bS K m R l v) {i:Nat} {x:α} (hi:l[i]? =some x):
  ∃(b off:Nat) (c:ou) (vs:List U),v= .slice b off l.length c/\i<l.length/\gH K (.ptr b (off+i*m)) vs/\vs.length=m/\R x vs:=by
 have d:i<l.length:=(gA.1 hi).1;rcases h with ⟨rfl,_⟩ | ⟨b,off,c,cells,e,ro,rfl,h2,h3,h4,h5⟩
 ·simp_all
 have hle:(i+1)*m<=l.length*m:=nM_ _ d;rw[succ_mul] at hle;have hn:((cells.drop (off+i*m)).take m).length=m:=by grind
 refine⟨b,off,c,_,Z,d,⟨b,off+i*m,cells,e,ro,Z,h3,by rw[hn];omega,by rw[hn]⟩,hn,h5.2 i x hi⟩
section
variable {P:q6} {G:Cx} {ev:q_->Option U} {V:aF} {K:KP} {L:Own}
theorem bh {m:Nat} {l:List α} {c:Call} {t e:y_} {v:U} (w:bS K m R l v) (d:c.callee= .builtin .len) (u:c.argTypes[0]? =some t) (z:c.args.toList= [x]) (hu:P.underlying t=some (.slice e)) (hx:ev x=some v):dX P G ev V (.call c)= .val (.int .i64 (.ofNat l.length)) V:=by
 refine bx (by simp[kindOf,d,isMap,u,hu]) ?_;simp only[dO,d,u,z,hx,w.zg hu,map_some]
theorem nD {c:Call} {t:y_} {s:List Nat} (d:c.callee= .builtin .len) (u:c.argTypes[0]? =some t) (w:c.args.toList= [x]) (hu:P.underlying t=some .string) (hx:ev x=some (.str s)):dX P G ev V (.call c)= .val (.int .i64 (.ofNat<|dK s)) V:=by
 refine bx (by simp[kindOf,d,isMap,u,hu]) ?_;simp only[dO,d,u,w,hx,zg,hu,map_some]
theorem aS {t:y_} {p v:U} (d:F V K L) (hp:gH K p vs) (hx:ev x=some p) (u:eo P t=some none) (hv:vs[0]? =some v):dX P G ev V (.load t x)= .val v V:=by
 obtain⟨b,off,cells,e,ro,rfl,w,h3,h4⟩:=hp;refine av hx (d.bY w) u ?_
 grind [fN]
theorem Ov {t:y_} {p:U} {n:Nat} (d:F V K L) (hp:gH K p vs) (hx:ev x=some p) (u:eo P t=some (some n)) (hv:n<=vs.length):dX P G ev V (.load t x)= .val (.agg<|vs.take n) V:=by
 obtain⟨b,off,cells,e,ro,rfl,w,h3,h4⟩:=hp;refine aN hx (d.bY w) u oM ?_
 grind
end
section
variable {P:q6} {G:Cx} {n:Nat} {t:PT U} {V:aF} {K:KP} {L:Own} {Q:Ex->PT U->aF->Prop} {ops:Array z_} {o:z_} {l:List z_}
theorem aT {c:Bool} {t':Bool->PT U} (hw:bK ops t o=some true) (hv:dX P G (bz G t) V o.op= .val (.bool c) V) (hp:∀b,dG t n o.dst (.bool b)=some (t' b))
  (h1:c=true->bP P G ops n l (t' true) V Q) (h0:c=false->bP P G ops n l (t' false) V Q):bP P G ops n (o::l) t V Q:=by
 refine I hw hv (hp c) ?_;cases c with
 | true=>exact h1 Z
 | false=>exact h0 Z
theorem bc (d:F V K L) {t':Nat->PT U} (hw:bK ops t o=some true) (hv:dX P G (bz G t) V o.op= .val (.ptr V.next 0) (V.alloc ob)) (hp:∀b,dG t n o.dst (.ptr b 0)=some (t' b))
  (h:∀(V':aF) (b:Nat),F V' K ((b,ob)::L)->bP P G ops n l (t' b) V' Q):bP P G ops n (o::l) t V Q:=
 I hw hv (hp _) (h _ _<|d.alloc ob)
theorem fg (d:F V K L) {k c:Nat} {t':Nat->PT U} (hw:bK ops t o=some true) (hv:dX P G (bz G t) V o.op= .val (.slice V.next 0 k (.known c)) (V.alloc ob)) (hp:∀b,dG t n o.dst (.slice b 0 k (.known c))=some (t' b))
  (h:∀(V':aF) (b:Nat),F V' K ((b,ob)::L)->bP P G ops n l (t' b) V' Q):bP P G ops n (o::l) t V Q:=
 I hw hv (hp _) (h _ _<|d.alloc ob)
theorem bu {b:Nat} {ob':cU} {t':PT U} (d:F V K ((b,ob)::L)) (hw:bK ops t o=some true) (hv:dX P G (bz G t) V o.op= .skip (V.setObj b ob')) (hp:dG t n o.dst unit=some t')
  (h:∀V',F V' K ((b,ob')::L)->bP P G ops n l t' V' Q):bP P G ops n (o::l) t V Q:=jF hw hv hp (h _<|d.vq ob')
theorem eZ {b:Nat} {ob':cU} {x:Nat×cU} {t':PT U} (d:F V K (x::(b,ob)::L)) (hw:bK ops t o=some true) (hv:dX P G (bz G t) V o.op= .skip (V.setObj b ob')) (hp:dG t n o.dst unit=some t')
  (h:∀V',F V' K (x::(b,ob')::L)->bP P G ops n l t' V' Q):bP P G ops n (o::l) t V Q:=jF hw hv hp (h _<|d.Qv ob')
theorem hJ {b:Nat} {ob':cU} {x y:Nat×cU} {t':PT U} (d:F V K (x::y::(b,ob)::L)) (hw:bK ops t o=some true) (hv:dX P G (bz G t) V o.op= .skip (V.setObj b ob')) (hp:dG t n o.dst unit=some t')
  (h:∀V',F V' K (x::y::(b,ob')::L)->bP P G ops n l t' V' Q):bP P G ops n (o::l) t V Q:=jF hw hv hp (h _<|d.Ul ob')
theorem tX {b:Nat} {ob':cU} {x y z:Nat×cU} {t':PT U} (d:F V K (x::y::z::(b,ob)::L)) (hw:bK ops t o=some true) (hv:dX P G (bz G t) V o.op= .skip (V.setObj b ob')) (hp:dG t n o.dst unit=some t')
  (h:∀V',F V' K (x::y::z::(b,ob')::L)->bP P G ops n l t' V' Q):bP P G ops n (o::l) t V Q:=jF hw hv hp (h _<|d.VH ob')
theorem cj {m:Nat} {v:U} {i:Nat} {x:α} {ty e:y_} {k:w0} {t':U->PT U} (w:bS K m R la v) (hi:la[i]? =some x) (hw:bK ops t o=some true) (z:o.op= .indexAddr ty xo io)
  (A:P.underlying ty=some (.slice e)) (hj:(P.info? e).map (·.size)=some m) (hx:bz G t xo=some v) (d:bz G t io=some (.int k (.ofNat i))) (hp:∀p,dG t n o.dst p=some (t' p))
  (h:∀p vs,gH K p vs->vs.length=m->R x vs->bP P G ops n l (t' p) V Q):bP P G ops n (o::l) t V Q:=by
 obtain⟨b,off,c,vs,rfl,u,h1,B,h3⟩:=w.at hi;refine I hw ?_ (hp _)<|h _ vs h1 B h3;rw[z];exact eF A hj hx d u
theorem bX {p:U} {s:y_} {i k:Nat} {t':U->PT U} (d:gH K p vs) (hw:bK ops t o=some true) (u:o.op= .fieldAddr s xo i) (hx:bz G t xo=some p) (hk:oX P s i=some k) (hl:k<=vs.length) (hp:∀p,dG t n o.dst p=some (t' p))
  (h:∀p',gH K p' (vs.drop k)->bP P G ops n l (t' p') V Q):bP P G ops n (o::l) t V Q:=by
 obtain⟨b,off,cells,e,ro,rfl,w,h3,h4⟩:=d;refine I hw ?_ (hp _)<|h _ ⟨b,off+k,cells,e,ro,Z,w,by grind,?_⟩
 ·rw[u];exact aw hx hk
 grind [drop_take,zl_]
theorem cg {f:Nat} {args:List U} {t':U->PT U} {R:U->aF->Prop} (hw:bK ops t o=some true) (hv:dX P G (bz G t) V o.op= .enter f args V) (hp:∀v,dG t n o.dst v=some (t' v))
  (d:a8 P G f args V R) (h:∀v V',R v V'->bP P G ops n l (t' v) V' Q):bP P G ops n (o::l) t V Q:=
 Gx hw hv (d.mono fun v V' hr=>⟨_,hp v,h v V' hr⟩)
theorem aG {a b:Code} {c:Bool} (d:bz G t x=some (.bool c)) (h1:c=true->Ev P G a n t V Q) (h0:c=false->Ev P G b n t V Q):Ev P G (.cond x a b) n t V Q:=by
 refine Cy d ?_
 grind
end
theorem az:cF []=true:=rfl
theorem ah {v:U} (h:ml v=true) (hs:cF vs=true):cF (v::vs)=true:=by
 grind [cF]
section
variable {P:q6} {G:Cx} {ev:q_->Option U} {V:aF} {K:KP} {L:Own}
theorem aI {t:y_} {m:Nat} {b:Pos} {off:Nat} {v:U} {cells cells':List U} (hx:ev x=some (.ptr b off)) (u:ev y=some v) (w:dg v=some cs) (hb:V.m.get b=some (.row cells e false)) (hj:(P.info? t).map (·.size)=some m) (hl:cs.length=m) (hle:off+m<=cells.length) (d:cF cs=true) (z:dy cs cells off=cells'):
  dX P G ev V (.store t x y)= .skip (V.setObj b (.row cells' e false)):=by
 subst z;exact rR hx u w hb hj hl hle d
theorem bU {t:y_} {p:U} {n:Nat} (hs:F V K L) (hp:gH K p vs) (hx:ev x=some p) (ha:eo P t=some (some n)) (hv:vs.length=n):dX P G ev V (.load t x)= .val (.agg vs) V:=by
 grind [Ov,take_length]
def placesOf (P:q6) (t:y_):Option (List (Nat×Nat)):=(structOf P t).bind fun fs=>dv (fun f:Field=>(P.info? f.type).map fun j=>(f.offset,j.size)) fs.toList
theorem bH {place:Nat->Option (Nat×Nat)} {cells:List U}:kZ place ev [] cells=some cells:=rfl
theorem a6 {place:Nat->Option (Nat×Nat)} {i:Nat} {l:List (Nat×q_)} {cells:List U} {off size:Nat} {v:U} {r:Option (List U)} (hp:place i=some (off,size)) (hx:ev x=some v) (hc:dg v=some vs) (hl:(Nat.beq (dK vs) size && ble (off+size) (dK cells))=true) (h:kZ place ev l (dy vs cells off)=r):kZ place ev ((i,x)::l) cells=r:=by
 grind [kZ]
theorem bO {t:y_} {zero:List U} (hp:placesOf P t=some places) (u:(fH P t).bind dg=some zero) (hu:eo P t=some (some zero.length)) (hf:kZ (nth places) ev parts.toList zero=some cs) (d:(structOf P t).isSome=true):dX P G ev V (.build t parts)= .val (.agg cs) V:=by
 refine bx Z ?_;unfold placesOf structOf at hp;unfold structOf at d;rw[pH] at hp d;simp only[dO,u]
 grind
theorem iS {s d:y_} {j k:w0} {n:Int} (hk:kindOf P (.convert s d x)= .pure) (u:P.underlying s=some (.int j)) (w:P.underlying d=some (.int k)) (hx:ev x=some (.int j n)):dX P G ev V (.convert s d x)= .val (.int k<|wr k n) V:=by
 refine bx hk ?_;simp only[dO,u,w,hx]
end
section
variable {P:q6} {G:Cx} {n:Nat} {t:PT U} {V:aF} {K:KP} {L:Own} {Q:Ex->PT U->aF->Prop} {ops:Array z_} {o:z_} {l:List z_}
theorem g8 {f:Nat} {args:List U} {c:Bool} {t':U->PT U} (hw:bK ops t o=some true) (hv:dX P G (bz G t) V o.op= .enter f args V) (hp:∀v,dG t n o.dst v=some (t' v))
  (d:a8 P G f args V fun v V'=>v= .bool c/\F V' K L) (h1:c=true->∀V',F V' K L->bP P G ops n l (t' (.bool true)) V' Q) (h0:c=false->∀V',F V' K L->bP P G ops n l (t' (.bool false)) V' Q):bP P G ops n (o::l) t V Q:=
 cg hw hv hp d fun v V' ⟨hv,O⟩=>by
  subst hv;cases c with
  | true=>exact h1 Z V' O
  | false=>exact h0 Z V' O
theorem bg {f:Nat} {args:List U} {u:U} {t':U->PT U} (hw:bK ops t o=some true) (hv:dX P G (bz G t) V o.op= .enter f args V) (hp:∀v,dG t n o.dst v=some (t' v))
  (d:a8 P G f args V fun v V'=>v=u/\F V' K L) (h:∀V',F V' K L->bP P G ops n l (t' u) V' Q):bP P G ops n (o::l) t V Q:=
 cg hw hv hp d fun v V' ⟨hv,O⟩=>by simp_all
theorem aM {a b:Code} (d:bz G t x=some (.bool true)) (h:Ev P G a n t V Q):Ev P G (.cond x a b) n t V Q:=Cy d h
theorem aQ {a b:Code} (d:bz G t x=some (.bool false)) (h:Ev P G b n t V Q):Ev P G (.cond x a b) n t V Q:=Cy d h
theorem ad {b:Code} (h:Ev P G b n t V Q):dp P G n b Q .normal t V:=h
theorem aD {id:Nat} (h:Q .normal t V):kB id Q .normal t V:=h
theorem aK {id:Nat} (h:Q .ret t V):kB id Q .ret t V:=h
def zk (I_:Nat->PT U->aF->Prop) (j:Nat) (Q:Ex->PT U->aF->Prop) (e:Ex) (t:PT U) (V:aF):Prop:=
 match e with
 | .normal=>∃i,i<j/\I_ i t V
 | e=>Q e t V
theorem aJ (h:∃i,i<j/\I_ i t V):zk I_ j Q .normal t V:=h
theorem aY {i:Nat} (h:Q (.exit i) t V):zk I_ j Q (.exit i) t V:=h
theorem bL (h:Q .ret t V):zk I_ j Q .ret t V:=h
theorem LJ {b:Code} (I_:Nat->PT U->aF->Prop) (j:Nat) (d:I_ j t V) (step:∀j t V,I_ j t V->Ev P G b n t V (zk I_ j Q)):Ev P G (.loop b) n t V Q:=
 Pe I_ (fun j t V h=>(step j t V h).mono fun e t' V' hq=>by cases e<;>exact hq) j t V d
end
def Pu:Nat:=146
def GV (f:Nat):Bool:=Nat.beq f 7 || Nat.beq f 20
structure Plain (G:Cx):Prop where
 h1:∀f a s,G.KQ f a s=none
 h2:∀f a,GV f=false->G.KT f a=none
 h3:G.mem= []
 h4:∀f a s,G.stop f a s=none
 h5:∀f,Nat.beq f Pu=false->G.fk f=false
theorem LK {P:q6} {G:Cx} (d:Plain G) {f:Nat} {fn:Func} {c:Code} {args:List U} {V:aF} {R:U->aF->Prop} {t:PT U} (hf:P.funcs[f]? =some fn) (hb:fn.body=some c) (u:sX fn.ntmps args=some t)
  (h:Ev P G c fn.ntmps t V fun e t' V'=>(e= .normal∨e= .ret)/\∃v,fO P fn t' V'=some v/\R v V') (hk:Nat.beq f Pu=false:=by rfl) (hl:GV f=false:=by rfl):a8 P G f args V R:=
 Pd (d.h1 _ _ _) (d.h2 _ _ hl) (d.h4 _ _ _) (d.h5 _ hk) hf hb u h
def Ee (P:q6) (fn:Func) (R:U->aF->Prop) (e:Ex) (t:PT U) (V:aF):Prop:=(e= .normal∨e= .ret)/\∃v,fO P fn t V=some v/\R v V
theorem aZ {P:q6} {G:Cx} (d:Plain G) {f:Nat} {fn:Func} {c:Code} {args:List U} {V:aF} {R:U->aF->Prop} {t:PT U} (hf:P.funcs[f]? =some fn) (hb:fn.body=some c) (u:sX fn.ntmps args=some t)
  (h:Ev P G c fn.ntmps t V (Ee P fn R)) (hk:Nat.beq f Pu=false:=by rfl) (hl:GV f=false:=by rfl):a8 P G f args V R:=LK d hf hb u h hk hl
theorem Fj {P:q6} {fn:Func} {k:Nat} {t:PT U} {V:aF} {v:U} (hr:fn.results.toList= [.tmp k]) (h:t.get k=some v):fO P fn t V=some v:=by
 unfold fO;rw[hr]
 have:dv (il P t V) [.tmp k]=some [v]:=by
  have h':il P t V (.tmp k)=some v:=h;unfold dv;simp only[h']
 rw[this]
theorem rz {P:q6} {fn:Func} {k:Nat} {t:PT U} {V:aF} {u v:U} (hr:fn.results.toList= [.tmp j,.tmp k]) (h1:t.get j=some u) (z:t.get k=some v):fO P fn t V=some (.tuple [u,v]):=by
 unfold fO;rw[hr]
 have:dv (il P t V) [.tmp j,.tmp k]=some [u,v]:=by
  have d:il P t V (.tmp j)=some u:=h1;have w:il P t V (.tmp k)=some v:=z;unfold dv;simp only[d,w]
 rw[this]
theorem aB {P:q6} {fn:Func} {R:U->aF->Prop} {t:PT U} {V:aF} {k:Nat} {v:U} (hr:fn.results.toList= [.tmp k]) (h:t.get k=some v) (d:R v V):Ee P fn R .ret t V:=⟨.inr Z,v,Fj hr h,d⟩
theorem dh {P:q6} {fn:Func} {R:U->aF->Prop} {t:PT U} {V:aF} {k:Nat} {u v:U} (hr:fn.results.toList= [.tmp j,.tmp k]) (h1:t.get j=some u) (d:t.get k=some v) (w:R (.tuple [u,v]) V):Ee P fn R .ret t V:=⟨.inr Z,_,rz hr h1 d,w⟩
end Go.Ev
namespace Go.Ev
theorem lI.eta {α:Type} (t:lI α):t=⟨(kV 0).run t,(kV 1).run t,(kV 2).run t,(kV 3).run t,(kV 4).run t,(kV 5).run t,(kV 6).run t,(kV 7).run t,(kV 8).run t,(kV 9).run t,(kV 10).run t,(kV 11).run t,(kV 12).run t,(kV 13).run t,(kV 14).run t,(kV 15).run t⟩:=by cases t;rfl
theorem lI.same {α:Type} {t t':lI α} (h:∀n,n<16->(kV n).run t=(kV n).run t'):t=t':=by
 rw[lI.eta t,h 0 (by decide),h 1 (by decide),h 2 (by decide),h 3 (by decide),h 4 (by decide),h 5 (by decide),h 6 (by decide),h 7 (by decide),h 8 (by decide),h 9 (by decide),h 10 (by decide),h 11 (by decide),h 12 (by decide),h 13 (by decide),h 14 (by decide),h 15 (by decide),<-lI.eta t']
theorem ku.same {α:Type} {t t':ku α} (h:∀k,k<256->lZ t k=lZ t' k):t=t':=by
 refine lI.same fun n hn=>lI.same fun m hm=>?_
 have:=h (n*16+m) oM;unfold lZ at this;have e1:Nat.div (n*16+m) 16=n:=by show(n*16+m)/16=n;omega
 have e2:Nat.mod (n*16+m) 16=m:=by show(n*16+m)%16=m;omega
 simp_all
variable [Env] {W:List Nat} {e:Nat}
def a7 (W:List Nat) (t t':PT U):Prop:=t'.m=t.m/\t'.l=t.l/\∀k,k<256->W.elem k=false->lZ t'.s k=lZ t.s k
theorem a7.refl (W:List Nat) (t:PT U):a7 W t t:=⟨Z,Z,fun _ _ _=>Z⟩
theorem a7.put {W:List Nat} {t t':PT U} {w:Nat} {o:Option U} (hw:(W.elem w && blt w 256)=true) (h:a7 W t t'):a7 W t (t'.put o w):=by
 obtain⟨h1,d,h3⟩:=h;rw[bA_,xF] at hw;obtain⟨s,m,l⟩:=t';rw[PT.xh _ _ _ _ hw.2];refine⟨h1,d,fun k hk hn=>?_⟩;show lZ (uc s w o) k=_;rw[nf _ _ _ _ hw.2 hk,if_neg (fun e=>by simp_all)];exact h3 k hk hn
theorem a7.dC {t t':PT U} {w:Nat} (hw:blt w 256=true) (h:a7 (w::W) t t'):∃o,a7 W (t.put o w) t':=by
 rw[xF] at hw;obtain⟨h1,d,h3⟩:=h;refine⟨t'.get w,?_⟩;obtain⟨s,m,l⟩:=t;rw[PT.xh _ _ _ _ hw,PT.td _ hw];refine⟨h1,d,fun k hk hn=>?_⟩
 grind [nf]
theorem a7.ji {t t':PT U} {a b c d:Nat} (hw:(blt a 256 && (blt b 256 && (blt c 256 && blt d 256)))=true) (h:a7 (a::b::c::d::W) t t'):∃u w z A,a7 W ((((t.put u a).put w b).put z c).put A d) t':=by
 simp only[bA_] at hw;obtain⟨h1,B,h3,h4⟩:=hw;obtain⟨u,h⟩:=h.dC h1;obtain⟨w,h⟩:=h.dC B;obtain⟨z,h⟩:=h.dC h3;obtain⟨A,h⟩:=h.dC h4
 grind
theorem a7.bW {t t':PT U} {a b c d f g i:Nat} (hw:(blt a 256 && (blt b 256 && (blt c 256 && blt d 256)))=true) (u:(blt e 256 && (blt f 256 && (blt g 256 && blt i 256)))=true) (h:a7 (a::b::c::d::e::f::g::i::W) t t'):
  ∃w z A B C E K L,a7 W ((((((((t.put w a).put z b).put A c).put B d).put C e).put E f).put K g).put L i) t':=by
 obtain⟨w,z,A,B,h⟩:=h.ji hw;obtain⟨C,E,K,L,h⟩:=h.ji u
 grind
theorem a7.nil {t t':PT U} (h:a7 [] t t'):t'=t:=by
 obtain⟨s,m,l⟩:=t;obtain⟨s',m',l'⟩:=t';obtain⟨h1,h2,h3⟩:=h;have:s'=s:=ku.same fun k hk=>h3 k hk Z
 simp_all
section
variable {P:q6} {G:Cx} {n:Nat} {t:PT U} {V:aF} {Q:Ex->PT U->aF->Prop}
theorem bk {b:Code} (W:List Nat) (I_:Nat->PT U->aF->Prop) (j:Nat) (d:I_ j t V) (step:∀j t' V,a7 W t t'->I_ j t' V->Ev P G b n t' V (zk (fun j t'' V=>a7 W t t''/\I_ j t'' V) j Q)):Ev P G (.loop b) n t V Q:=
 LJ (fun j t'' V=>a7 W t t''/\I_ j t'' V) j ⟨a7.refl _ _,d⟩ fun j t' V h=>step j t' V h.1 h.2
end
theorem gP {a b:Nat}:cM (.ofNat a) (.ofNat b)=decide (a<b):=by
 show ble (Nat.succ a) b=_;rw[zd_,nE_,decide_eq_true_iff];rfl
theorem dY {a b:Nat}:N (.ofNat a) (.ofNat b)=decide (a=b):=by
 show Nat.beq a b=_;rw[zd_,Nat.beq_eq,decide_eq_true_iff]
theorem aX {i:Nat} (h:i<9223372036854775807):wr .i64 (Int.add (.ofNat i) (.ofNat 1))= .ofNat (i+1):=by
 show(bif ble (i+1) 9223372036854775807 then _ else _)=_
 grind [nE_]
end Go.Ev
namespace Go.Ev
variable [Env] {α:Type} {cs vs:List U} {la:List α} {e j:Nat} {io xo:q_} {ob:cU} {R:α->List U->Prop}
section
variable {P:q6} {G:Cx} {n:Nat} {t:PT U} {V:aF} {K:KP} {L:Own} {Q:Ex->PT U->aF->Prop} {ops:Array z_} {o:z_} {i:Nat} {rc:List Nat} {l:List (Nat×List Nat)}
theorem iI {v:U} {t':PT U} {V':aF} (hi:ops[i]? =some o) (hw:bK ops t o=some true) (hv:dX P G (bz G t) V o.op= .val v V') (hp:dG t n o.dst v=some t') (h:dA P G ops t' V' rc=true/\cT P G ops n l t' V' Q):cT P G ops n ((i,rc)::l) t V Q:=by
 obtain⟨hs,K,e,d,u,h1,w⟩:=h;refine⟨K,e,d,u,fun k hk=>?_,w⟩
 show(match ops[i]? with
  | some o=>jz P G (fb P G k) false ops n o t V (fun t' V'=>bif dA P G ops t' V' rc then kL P G (fb P G k) ops n [] l t' V' else .err 86)
  | none=>.err 87)=_
 grind [jz,mD]
theorem mE {t':PT U} {V':aF} (hi:ops[i]? =some o) (hw:bK ops t o=some true) (hv:dX P G (bz G t) V o.op= .skip V') (hp:dG t n o.dst unit=some t') (h:dA P G ops t' V' rc=true/\cT P G ops n l t' V' Q):cT P G ops n ((i,rc)::l) t V Q:=by
 obtain⟨hs,K,e,d,u,h1,w⟩:=h;refine⟨K,e,d,u,fun k hk=>?_,w⟩
 show(match ops[i]? with
  | some o=>jz P G (fb P G k) false ops n o t V (fun t' V'=>bif dA P G ops t' V' rc then kL P G (fb P G k) ops n [] l t' V' else .err 86)
  | none=>.err 87)=_
 grind [jz,mD]
theorem aU:dA P G ops t V []=true:=rfl
theorem bf {l:List Nat} (h:jP P G ops t V j=true) (hl:dA P G ops t V l=true):dA P G ops t V (j::l)=true:=by
 grind [dA]
theorem bo {k:Nat} {v:U} (hi:ops[i]? =some o) (hw:bK ops t o=some true) (hd:o.dst=some k) (hg:t.get k=some v) (hk:kindOf P o.op= .read) (h:dX P G (bz G t) V o.op= .val v V) (hb:eM v v=true):jP P G ops t V i=true:=by
 have hr:ie P (bz G t) V o.op=some v:=by
  grind [dX]
 unfold jP
 simp_all
theorem NU (hi:ops[i]? =some o) (hw:bK ops t o=some false):jP P G ops t V i=true:=by
 unfold jP
 simp_all
theorem kh {k b:Nat} (hi:ops[i]? =some o) (hw:bK ops t o=some true) (hd:o.dst=some k) (hg:t.get k=some (.ptr b 0)) (hk:kindOf P o.op= .alloc) (ha:gb P (bz G t) o.op=some (.row cs e false,.ptr)) (hm:V.m.get b=some (.row cs e false)) (hb:eM.beqL cs cs=true):jP P G ops t V i=true:=by
 unfold jP
 simp_all
theorem cV (k:w0) (n:Int):eM.dV (.int k n) (.int k n)=true:=by
 show(uH k k && N n n)=true;rw[eB];cases k<;>simp[uH]
theorem Ld (s:List Nat):eM.dV (.str s) (.str s)=true:=by
 show wS s s=true;rw[yA];simp
theorem bS.dV {α:Type} {K:KP} {m:Nat} {R:α->List U->Prop} {l:List α} {v:U} (h:bS K m R l v):eM.dV v v=true:=by
 rcases h with ⟨_,rfl⟩ | ⟨b,off,c,cells,e,ro,rfl,u,_⟩
 ·rfl
 show(eM.beqP b b && Nat.beq off off && Nat.beq l.length l.length && eM.beqC c c)=true;have hp:eM.beqP b b=true:=beq_refl b
 have d:eM.beqC c c=true:=by
  rcases u with rfl | ⟨n,rfl,_⟩
  ·exact beq_refl m
  exact beq_refl n
 simp[hp,d]
theorem dJ:eM.beqL [] []=true:=rfl
theorem ba {v:U} (h:eM.dV v v=true) (hs:eM.beqL vs vs=true):eM.beqL (v::vs) (v::vs)=true:=by
 grind [eM.beqL]
theorem dI (h:eM.beqL vs vs=true):eM (.agg vs) (.agg vs)=true:=h
theorem fA {c:Bool} {t':Bool->PT U} (d:ops[i]? =some o) (hw:bK ops t o=some true) (hv:dX P G (bz G t) V o.op= .val (.bool c) V) (hp:∀b,dG t n o.dst (.bool b)=some (t' b))
  (h1:c=true->cT P G ops n l (t' true) V Q) (h0:c=false->cT P G ops n l (t' false) V Q):cT P G ops n ((i,[])::l) t V Q:=by
 refine aj d hw hv (hp c) ?_;cases c with
 | true=>exact h1 Z
 | false=>exact h0 Z
theorem mq (u:F V K L) {t':Nat->PT U} (d:ops[i]? =some o) (hw:bK ops t o=some true) (hv:dX P G (bz G t) V o.op= .val (.ptr V.next 0) (V.alloc ob)) (hp:∀b,dG t n o.dst (.ptr b 0)=some (t' b))
  (h:∀(V':aF) (b:Nat),F V' K ((b,ob)::L)->cT P G ops n l (t' b) V' Q):cT P G ops n ((i,[])::l) t V Q:=
 aj d hw hv (hp _) (h _ _<|u.alloc ob)
theorem nH (u:F V K L) {k c:Nat} {t':Nat->PT U} (d:ops[i]? =some o) (hw:bK ops t o=some true) (hv:dX P G (bz G t) V o.op= .val (.slice V.next 0 k (.known c)) (V.alloc ob)) (hp:∀b,dG t n o.dst (.slice b 0 k (.known c))=some (t' b))
  (h:∀(V':aF) (b:Nat),F V' K ((b,ob)::L)->cT P G ops n l (t' b) V' Q):cT P G ops n ((i,[])::l) t V Q:=
 aj d hw hv (hp _) (h _ _<|u.alloc ob)
theorem gD {b:Nat} {ob':cU} {t':PT U} (u:F V K ((b,ob)::L)) (d:ops[i]? =some o) (hw:bK ops t o=some true) (hv:dX P G (bz G t) V o.op= .skip (V.setObj b ob')) (hp:dG t n o.dst unit=some t')
  (h:∀V',F V' K ((b,ob')::L)->(dA P G ops t' V' rc=true/\cT P G ops n l t' V' Q)):cT P G ops n ((i,rc)::l) t V Q:=mE d hw hv hp (h _<|u.vq ob')
theorem kK {b:Nat} {ob':cU} {x:Nat×cU} {t':PT U} (u:F V K (x::(b,ob)::L)) (d:ops[i]? =some o) (hw:bK ops t o=some true) (hv:dX P G (bz G t) V o.op= .skip (V.setObj b ob')) (hp:dG t n o.dst unit=some t')
  (h:∀V',F V' K (x::(b,ob')::L)->(dA P G ops t' V' rc=true/\cT P G ops n l t' V' Q)):cT P G ops n ((i,rc)::l) t V Q:=mE d hw hv hp (h _<|u.Qv ob')
theorem Nc {b:Nat} {ob':cU} {x y:Nat×cU} {t':PT U} (u:F V K (x::y::(b,ob)::L)) (d:ops[i]? =some o) (hw:bK ops t o=some true) (hv:dX P G (bz G t) V o.op= .skip (V.setObj b ob')) (hp:dG t n o.dst unit=some t')
  (h:∀V',F V' K (x::y::(b,ob')::L)->(dA P G ops t' V' rc=true/\cT P G ops n l t' V' Q)):cT P G ops n ((i,rc)::l) t V Q:=mE d hw hv hp (h _<|u.Ul ob')
theorem cK {m:Nat} {v:U} {ix:Nat} {x:α} {ty e:y_} {k:w0} {t':U->PT U} (z:bS K m R la v) (hi:la[ix]? =some x) (d:ops[i]? =some o) (hw:bK ops t o=some true) (A:o.op= .indexAddr ty xo io)
  (B:P.underlying ty=some (.slice e)) (hj:(P.info? e).map (·.size)=some m) (hx:bz G t xo=some v) (u:bz G t io=some (.int k (.ofNat ix))) (hp:∀p,dG t n o.dst p=some (t' p))
  (h:∀p vs,gH K p vs->vs.length=m->R x vs->cT P G ops n l (t' p) V Q):cT P G ops n ((i,[])::l) t V Q:=by
 obtain⟨b,off,c,vs,rfl,w,h1,C,h3⟩:=z.at hi;refine aj d hw ?_ (hp _)<|h _ vs h1 C h3;rw[A];exact eF B hj hx u w
theorem dU {p:U} {s:y_} {fi k:Nat} {t':U->PT U} (d:gH K p vs) (u:ops[i]? =some o) (hw:bK ops t o=some true) (w:o.op= .fieldAddr s xo fi) (hx:bz G t xo=some p) (hk:oX P s fi=some k) (hl:k<=vs.length) (hp:∀p,dG t n o.dst p=some (t' p))
  (h:∀p',gH K p' (vs.drop k)->cT P G ops n l (t' p') V Q):cT P G ops n ((i,[])::l) t V Q:=by
 obtain⟨b,off,cells,e,ro,rfl,z,h3,h4⟩:=d;refine aj u hw ?_ (hp _)<|h _ ⟨b,off+k,cells,e,ro,Z,z,by grind,?_⟩
 ·rw[w];exact aw hx hk
 grind [drop_take,zl_]
theorem ez {f:Nat} {args:List U} {t':U->PT U} {R:U->aF->Prop} (d:ops[i]? =some o) (hw:bK ops t o=some true) (hv:dX P G (bz G t) V o.op= .enter f args V) (hp:∀v,dG t n o.dst v=some (t' v))
  (u:a8 P G f args V R) (h:∀v V',R v V'->(dA P G ops (t' v) V' rc=true/\cT P G ops n l (t' v) V' Q)):cT P G ops n ((i,rc)::l) t V Q:=by
 refine Eh d hw hv<|u.mono fun v V' hr=>?_
 simp_all
theorem Ir {f:Nat} {args:List U} {c:Bool} {t':U->PT U} (d:ops[i]? =some o) (hw:bK ops t o=some true) (hv:dX P G (bz G t) V o.op= .enter f args V) (hp:∀v,dG t n o.dst v=some (t' v))
  (u:a8 P G f args V fun v V'=>v= .bool c/\F V' K L) (h1:c=true->∀V',F V' K L->(dA P G ops (t' (.bool true)) V' rc=true/\cT P G ops n l (t' (.bool true)) V' Q)) (h0:c=false->∀V',F V' K L->(dA P G ops (t' (.bool false)) V' rc=true/\cT P G ops n l (t' (.bool false)) V' Q)):cT P G ops n ((i,rc)::l) t V Q:=
 ez d hw hv hp u fun v V' ⟨hv,O⟩=>by
  subst hv;cases c with
  | true=>exact h1 Z V' O
  | false=>exact h0 Z V' O
theorem di {f:Nat} {args:List U} {u:U} {t':U->PT U} (d:ops[i]? =some o) (hw:bK ops t o=some true) (hv:dX P G (bz G t) V o.op= .enter f args V) (hp:∀v,dG t n o.dst v=some (t' v))
  (w:a8 P G f args V fun v V'=>v=u/\F V' K L) (h:∀V',F V' K L->(dA P G ops (t' u) V' rc=true/\cT P G ops n l (t' u) V' Q)):cT P G ops n ((i,rc)::l) t V Q:=
 ez d hw hv hp w fun v V' ⟨hv,O⟩=>by simp_all
theorem aP {id:Nat} {l:List (Nat×List Nat)} (hf:vX P ops=true) (hl:mi P ops=l) (h:cT P G ops n l t V Q):Ev P G (.region id ops true) n t V Q:=by
 subst hl;exact yF hf h
end
end Go.Ev
namespace Go.Ev
variable [Env]
section
variable {P:q6} {G:Cx} {n:Nat} {t:PT U} {V:aF} {Q:Ex->PT U->aF->Prop} {ops:Array z_} {o:z_} {l:List z_}
end
end Go.Ev
namespace Go.Ev
variable [Env]
variable {α:Type} {parts:Array (Nat×q_)} {places:List (Nat×Nat)} {W:List Nat} {ca fi vs:List U} {la:List α} {io xo:q_} {ob:cU} {R:α->List U->Prop}
section
variable {P:q6} {G:Cx} {n:Nat} {V:aF} {Q:Ex->PT U->aF->Prop} {ops:Array z_}
def Hm (n:Nat) (t:PT U) (d:Option Nat) (v:Option U):Option (PT U):=match v with | some v=>dG t n d v | none=>none
def Lf (P:q6) (k:Bool) (o:BinOp) (ty:y_) (a b:Option U):Option U:=match a with | some a=>(match b with | some b=>qx P k o ty a b | none=>none) | none=>none
def E7 (c a b:Option U):Option U:=match c with | some (.bool q)=>if q then a else b | _=>none
def Sh (P:q6) (G:Cx) (t:PT U) (op:Op):Option U:=
 match op with
 | .move x=>bz G t x
 | .assign x=>bz G t x
 | .pick c a b=>E7 (bz G t c) (bz G t a) (bz G t b)
 | .binOp o ty x y _=>Lf P (Bj x || Bj y) o ty (bz G t x) (bz G t y)
 | .extract x i=>dO P (bz G t) (.extract x i)
 | .makeFunc x y z=>dO P (bz G t) (.makeFunc x y z)
 | .unOp x y z=>dO P (bz G t) (.unOp x y z)
 | .field x y z=>dO P (bz G t) (.field x y z)
 | _=>none
theorem zu {t:PT U} {op:Op} {v:U} (h:Sh P G t op=some v):dX P G (bz G t) V op= .val v V:=by
 unfold Sh at h;split at h
 ·exact al h
 ·exact an h
 ·unfold E7 at h;split at h
  ·rename_i q u;exact aE u h
  cases h
 ·unfold Lf at h;split at h
  ·rename_i a w;split at h
   ·rename_i b hb;exact ay w hb h
   cases h
  cases h
 ·exact bx Z h
 ·exact bx Z h
 ·exact bx Z h
 ·exact bx Z h
 cases h
def nC (P:q6) (G:Cx) (ops:Array z_) (n:Nat) (t:PT U) (o:z_):Option (PT U):=
 match bK ops t o with
 | some w=>bif w then Hm n t o.dst (Sh P G t o.op) else dG t n o.dst unit
 | none=>none
theorem vt {t t':PT U} {o:z_} {l:List z_} (h:nC P G ops n t o=some t') (hh:bP P G ops n l t' V Q):bP P G ops n (o::l) t V Q:=by
 unfold nC at h;split at h
 ·rename_i w hw;cases w with
  | true=>
   simp only[cond_true] at h;unfold Hm at h;split at h
   ·rename_i v hv;exact I hw (zu hv) h hh
   cases h
  | false=>exact ae hw h hh
 cases h
def quick (P:q6) (G:Cx) (ops:Array z_) (n:Nat):Nat->List z_->PT U->Option (List z_×PT U)
 | 0,l,t=>some (l,t)
 | k+1,l,t=>match l with
  | o::l=>match nC P G ops n t o with
   | some t'=>quick P G ops n k l t'
   | none=>none
  | []=>none
theorem vQ (k:Nat) {l l':List z_} {t t':PT U} (h:quick P G ops n k l t=some (l',t')) (hh:bP P G ops n l' t' V Q):bP P G ops n l t V Q:=by
 induction k generalizing l t with
 | zero=>simp only[quick,oJ_,Prod.mk.injEq] at h;obtain⟨rfl,rfl⟩:=h;exact hh
 | succ k ih=>
  unfold quick at h;split at h
  ·split at h
   ·rename_i t1 h1;exact vt h1<|ih h
   cases h
  cases h
def qb (P:q6) (G:Cx) (ops:Array z_) (n:Nat):Nat->List (Nat×List Nat)->PT U->Option (List (Nat×List Nat)×PT U)
 | 0,l,t=>some (l,t)
 | k+1,l,t=>match l with
  | (i,[])::l=>match ops[i]? with
   | some o=>match nC P G ops n t o with
    | some t'=>qb P G ops n k l t'
    | none=>none
   | none=>none
  | _=>none
theorem vr {t t':PT U} {i:Nat} {o:z_} {l:List (Nat×List Nat)} (hi:ops[i]? =some o) (h:nC P G ops n t o=some t') (hh:cT P G ops n l t' V Q):cT P G ops n ((i,[])::l) t V Q:=by
 unfold nC at h;split at h
 ·rename_i w hw;cases w with
  | true=>
   simp only[cond_true] at h;unfold Hm at h;split at h
   ·rename_i v hv;exact aj hi hw (zu hv) h hh
   cases h
  | false=>exact au hi hw h hh
 cases h
theorem wQ (k:Nat) {l l':List (Nat×List Nat)} {t t':PT U} (h:qb P G ops n k l t=some (l',t')) (hh:cT P G ops n l' t' V Q):cT P G ops n l t V Q:=by
 induction k generalizing l t with
 | zero=>simp only[qb,oJ_,Prod.mk.injEq] at h;obtain⟨rfl,rfl⟩:=h;exact hh
 | succ k ih=>
  unfold qb at h;split at h
  ·split at h
   ·rename_i o u;split at h
    ·rename_i t1 h1;exact vr u h1<|ih h
    cases h
   cases h
  cases h
section
variable {ev:q_->Option U} {K:KP} {L:Own}
theorem WR (k:Nat) {s:y_} {x:q_} {i:Nat} {b:Pos} {off:Nat} (hx:ev x=some (.ptr b off)) (hk:oX P s i=some k:=by kernel_rfl):dX P G ev V (.fieldAddr s x i)= .val (.ptr b (off+k)) V:=aw hx hk
theorem WQ {c:Call} {f:q_} {g:Nat} {args:List U} (u:c.callee= .value f) (hf:ev f=some (.func g fi ca)) (w:ju ev c.args.toList=some args) (A:l6 P g=true:=by kernel_rfl):dX P G ev V (.call c)= .enter g (fi++(args++ca)) V:=aO u hf w A
theorem WS {t:y_} {x:q_} {b:Pos} {off:Nat} {cells:List U} {e:Nat} {ro:Bool} {v:U} (hx:ev x=some (.ptr b off)) (hb:V.m.get b=some (.row cells e ro)) (hv:nth cells off=some v) (u:eo P t=some none:=by kernel_rfl):dX P G ev V (.load t x)= .val v V:=av hx hb u hv
theorem QT {t:y_} {x:q_} {b:Pos} {off n:Nat} {cells:List U} {e:Nat} {ro:Bool} (hx:ev x=some (.ptr b off)) (hb:V.m.get b=some (.row cells e ro)) (hv:(cells.drop off).take n=vs) (u:eo P t=some (some n):=by kernel_rfl) (hl:off+n<=cells.length:=by exact Nat.le_of_ble_eq_true Z):dX P G ev V (.load t x)= .val (.agg vs) V:=aN hx hb u hl hv
theorem S1 {t:y_} {m:Nat} {x y:q_} {b:Pos} {off:Nat} {v:U} {cs cells cells':List U} {e:Nat} (hx:ev x=some (.ptr b off)) (w:ev y=some v) (A:dg v=some cs) (hb:V.m.get b=some (.row cells e false)) (hl:cs.length=m) (u:cF cs=true) (B:dy cs cells off=cells')
  (hj:(P.info? t).map (·.size)=some m:=by kernel_rfl) (hle:off+m<=cells.length:=by exact Nat.le_of_ble_eq_true Z):dX P G ev V (.store t x y)= .skip (V.setObj b (.row cells' e false)):=aI hx w A hb hj hl hle u B
theorem WO {t:y_} {zero cs:List U} (hf:kZ (nth places) ev parts.toList zero=some cs) (hp:placesOf P t=some places:=by kernel_rfl) (u:(fH P t).bind dg=some zero:=by kernel_rfl) (hu:eo P t=some (some zero.length):=by kernel_rfl) (w:(structOf P t).isSome=true:=by kernel_rfl):dX P G ev V (.build t parts)= .val (.agg cs) V:=bO hp u hu hf w
theorem WU {e:y_} {cs:List U} (u:(fH P e).bind dg=some cs:=by kernel_rfl) (w:vp P e=false:=by kernel_rfl):dX P G ev V (.alloc e)= .val (.ptr V.next 0) (V.alloc (.row cs e false)):=bN u w
theorem WT {m:Nat} {l:List α} {c:Call} {t e:y_} {x:q_} {v:U} (u:bS K m R l v) (w:c.callee= .builtin .len) (A:c.argTypes[0]? =some t) (B:c.args.toList= [x]) (hx:ev x=some v) (hu:P.underlying t=some (.slice e):=by kernel_rfl):dX P G ev V (.call c)= .val (.int .i64 (.ofNat l.length)) V:=bh u w A B hu hx
theorem WV {t:y_} {x:q_} {p v:U} (u:F V K L) (hp:gH K p vs) (hx:ev x=some p) (hv:vs[0]? =some v) (w:eo P t=some none:=by kernel_rfl):dX P G ev V (.load t x)= .val v V:=aS u hp hx w hv
theorem WJ {n:Nat} {t:PT U} {o:z_} {l:List z_} {m:Nat} {v:U} {i:Nat} {x:α} {ty e:y_} {k:w0} {t':U->PT U} (w:bS K m R la v) (hi:la[i]? =some x) (hw:bK ops t o=some true) (A:o.op= .indexAddr ty xo io)
  (hx:bz G t xo=some v) (u:bz G t io=some (.int k (.ofNat i)))
  (h:∀p vs,gH K p vs->vs.length=m->R x vs->bP P G ops n l (t' p) V Q) (B:P.underlying ty=some (.slice e):=by kernel_rfl) (hj:(P.info? e).map (·.size)=some m:=by kernel_rfl) (hp:∀p,dG t n o.dst p=some (t' p):=by exact fun _=>Z):bP P G ops n (o::l) t V Q:=cj w hi hw A B hj hx u hp h
theorem WK {n i:Nat} {t:PT U} {o:z_} {l:List (Nat×List Nat)} {m:Nat} {v:U} {ix:Nat} {x:α} {ty e:y_} {k:w0} {t':U->PT U} (A:bS K m R la v) (hi:la[ix]? =some x) (u:ops[i]? =some o) (hw:bK ops t o=some true) (B:o.op= .indexAddr ty xo io)
  (hx:bz G t xo=some v) (w:bz G t io=some (.int k (.ofNat ix)))
  (h:∀p vs,gH K p vs->vs.length=m->R x vs->cT P G ops n l (t' p) V Q) (C:P.underlying ty=some (.slice e):=by kernel_rfl) (hj:(P.info? e).map (·.size)=some m:=by kernel_rfl) (hp:∀p,dG t n o.dst p=some (t' p):=by exact fun _=>Z):cT P G ops n ((i,[])::l) t V Q:=cK A hi u hw B C hj hx w hp h
end
theorem a7.Vb {t t':PT U} {a b c d e f g i a' b' c' d' e' f' g' i':Nat} (hw:(blt a 256 && (blt b 256 && (blt c 256 && blt d 256)))=true) (u:(blt e 256 && (blt f 256 && (blt g 256 && blt i 256)))=true) (w:(blt a' 256 && (blt b' 256 && (blt c' 256 && blt d' 256)))=true) (A:(blt e' 256 && (blt f' 256 && (blt g' 256 && blt i' 256)))=true) (h:a7 (a::b::c::d::e::f::g::i::a'::b'::c'::d'::e'::f'::g'::i'::W) t t'):
  ∃B C E M R S T X u1 u2 u3 u4 u5 u6 u7 u8,a7 W ((((((((((((((((t.put B a).put C b).put E c).put M d).put R e).put S f).put T g).put X i).put u1 a').put u2 b').put u3 c').put u4 d').put u5 e').put u6 f').put u7 g').put u8 i') t':=by
 obtain⟨B,C,E,M,R,S,T,X,h⟩:=h.bW hw u;obtain⟨u1,u2,u3,u4,u5,u6,u7,u8,h⟩:=h.bW w A;exact⟨B,C,E,M,R,S,T,X,u1,u2,u3,u4,u5,u6,u7,u8,h⟩
theorem lb {a b:Nat} (h:ble a b=true):a<=b:=Nat.le_of_ble_eq_true h
theorem nT {b:Code} {t:PT U} {Q:Ex->PT U->aF->Prop} (h:Ev P G b n t V Q):bP P G ops n [] t V (dp P G n b Q):=af (ad h)
theorem nS {id:Nat} {os:Array z_} {b:Code} {t:PT U} {Q:Ex->PT U->aF->Prop} (u:nj os.toList=false) (h:bP P G os n os.toList t V (dp P G n b Q)):bP P G ops n [] t V (dp P G n (.seq (.region id os false) b) Q):=af (ad<|ak<|ai u h)
theorem WW {K:KP} {L:Own} {ev:q_->Option U} {t:y_} {x:q_} {p:U} {n:Nat} (u:F V K L) (hp:gH K p vs) (hx:ev x=some p) (hv:vs.length=n) (w:eo P t=some (some n):=by kernel_rfl):dX P G ev V (.load t x)= .val (.agg vs) V:=bU u hp hx w hv
theorem kv {K:KP} {L:Own} {n:Nat} {t:PT U} {o:z_} {l:List z_} {f:Nat} {args:List U} {u:U} {t':U->PT U} (hw:bK ops t o=some true) (hv:dX P G (bz G t) V o.op= .enter f args V)
  (w:a8 P G f args V fun v V'=>v=u/\F V' K L) (h:∀V',F V' K L->bP P G ops n l (t' u) V' Q) (hp:∀v,dG t n o.dst v=some (t' v):=by exact fun _=>Z):bP P G ops n (o::l) t V Q:=bg hw hv hp w h
theorem kp {K:KP} {L:Own} {n:Nat} {t:PT U} {o:z_} {l:List z_} (u:F V K L) {t':Nat->PT U} (hw:bK ops t o=some true) (hv:dX P G (bz G t) V o.op= .val (.ptr V.next 0) (V.alloc ob))
  (h:∀(V':aF) (b:Nat),F V' K ((b,ob)::L)->bP P G ops n l (t' b) V' Q) (hp:∀b,dG t n o.dst (.ptr b 0)=some (t' b):=by exact fun _=>Z):bP P G ops n (o::l) t V Q:=bc u hw hv hp h
abbrev J:U:=.int .i64 0
theorem oP {t t':PT U} {w:Nat} {o:Option U} (hw:(W.elem w && blt w 256)=true) (h:a7 W t t'):a7 W t (t'.put o w):=h.put hw
theorem oR (W:List Nat) (t:PT U):a7 W t t:=.refl W t
theorem ct (a b:α):(bif true then a else b)=a:=rfl
theorem cf (a b:α):(bif false then a else b)=b:=rfl
theorem cI {a b:Int} (h:a=b):some (U.int .i64 a)=some (U.int .i64 b):=congrArg (fun z=>some (U.int .i64 z)) h
theorem cB {a b:Bool} (h:a=b):U.bool a=U.bool b:=congrArg U.bool h
theorem cJ {a b:Int} (h:a=b):U.int .i64 a=U.int .i64 b:=congrArg (U.int .i64) h
theorem F.g0 {K:KP} {L:Own} {b:Nat} {o:cU} (h:F V K ((b,o)::L)):V.m.get b=some o:=h.get 0 Z
theorem F.g1 {K:KP} {L:Own} {e:Nat×cU} {b:Nat} {o:cU} (h:F V K (e::(b,o)::L)):V.m.get b=some o:=h.get 1 Z
theorem ky {n:Nat} {t:PT U} {o:z_} {l:List z_} {c:Bool} {t':Bool->PT U} (hw:bK ops t o=some true) (hv:dX P G (bz G t) V o.op= .val (.bool c) V)
  (h1:c=true->bP P G ops n l (t' true) V Q) (h0:c=false->bP P G ops n l (t' false) V Q) (hp:∀b,dG t n o.dst (.bool b)=some (t' b):=by exact fun _=>Z):bP P G ops n (o::l) t V Q:=aT hw hv hp h1 h0
end
section
variable {P:q6} {G:Cx} {V:aF} {Q:Ex->PT U->aF->Prop} {ops:Array z_} {ev:q_->Option U} {K:KP} {L:Own} {t:y_} {x y:q_} {p:Pos} {i:Nat} {cells cs:List U} {e:Nat} {ro:Bool} {v a b c d f g:U}
theorem W0 (hx:ev x=some (.ptr p i)) (hb:V.m.get p=some (.row cells e ro)) (hv:(cells.drop i).take 2= [a,b]) (u:eo P t=some (some 2):=by kernel_rfl) (hl:i+2<=cells.length:=by exact Nat.le_of_ble_eq_true Z):dX P G ev V (.load t x)= .val (.agg [a,b]) V:=QT hx hb hv u hl
theorem W1 (hx:ev x=some (.ptr p i)) (hb:V.m.get p=some (.row cells e ro)) (hv:(cells.drop i).take 4= [a,b,c,d]) (u:eo P t=some (some 4):=by kernel_rfl) (hl:i+4<=cells.length:=by exact Nat.le_of_ble_eq_true Z):dX P G ev V (.load t x)= .val (.agg [a,b,c,d]) V:=QT hx hb hv u hl
theorem W2 (hx:ev x=some (.ptr p i)) (hb:V.m.get p=some (.row cells e ro)) (hv:(cells.drop i).take 5= [a,b,c,d,f]) (u:eo P t=some (some 5):=by kernel_rfl) (hl:i+5<=cells.length:=by exact Nat.le_of_ble_eq_true Z):dX P G ev V (.load t x)= .val (.agg [a,b,c,d,f]) V:=QT hx hb hv u hl
theorem W3 (hx:ev x=some (.ptr p i)) (hb:V.m.get p=some (.row cells e ro)) (hv:(cells.drop i).take 6= [a,b,c,d,f,g]) (u:eo P t=some (some 6):=by kernel_rfl) (hl:i+6<=cells.length:=by exact Nat.le_of_ble_eq_true Z):dX P G ev V (.load t x)= .val (.agg [a,b,c,d,f,g]) V:=QT hx hb hv u hl
theorem WX (hx:ev x=some (.ptr p i)) (u:ev y=some v) (w:dg v=some cs) (hb:V.m.get p=some (.row cells e false)) (A:dy cs cells i= [a,b]) (hl:cs.length=2:=by rfl) (hf:cF cs=true:=by rfl) (hj:(P.info? t).map (·.size)=some 2:=by kernel_rfl) (hle:i+2<=cells.length:=by exact Nat.le_of_ble_eq_true Z):dX P G ev V (.store t x y)= .skip (V.setObj p (.row [a,b] e false)):=S1 hx u w hb hl hf A hj hle
theorem WY (hx:ev x=some (.ptr p i)) (u:ev y=some v) (w:dg v=some cs) (hb:V.m.get p=some (.row cells e false)) (A:dy cs cells i= [a,b,c]) (hl:cs.length=3:=by rfl) (hf:cF cs=true:=by rfl) (hj:(P.info? t).map (·.size)=some 3:=by kernel_rfl) (hle:i+3<=cells.length:=by exact Nat.le_of_ble_eq_true Z):dX P G ev V (.store t x y)= .skip (V.setObj p (.row [a,b,c] e false)):=S1 hx u w hb hl hf A hj hle
theorem WZ (hx:ev x=some (.ptr p i)) (u:ev y=some v) (w:dg v=some cs) (hb:V.m.get p=some (.row cells e false)) (A:dy cs cells i= [a,b,c,d,f]) (hl:cs.length=5:=by rfl) (hf:cF cs=true:=by rfl) (hj:(P.info? t).map (·.size)=some 5:=by kernel_rfl) (hle:i+5<=cells.length:=by exact Nat.le_of_ble_eq_true Z):dX P G ev V (.store t x y)= .skip (V.setObj p (.row [a,b,c,d,f] e false)):=S1 hx u w hb hl hf A hj hle
variable {n q:Nat} {z:PT U} {o:z_} {l:List z_} {args:List U}
theorem kw {h':U->PT U} {R:U->aF->Prop} (hv:dX P G (bz G z) V o.op= .enter q args V) (u:a8 P G q args V R) (h:∀v V',R v V'->bP P G ops n l (h' v) V' Q) (hw:bK ops z o=some true:=by rfl) (hp:∀v,dG z n o.dst v=some (h' v):=by exact fun _=>Z):bP P G ops n (o::l) z V Q:=cg hw hv hp u h
theorem kx {u:U} {h':U->PT U} (hv:dX P G (bz G z) V o.op= .enter q args V) (w:a8 P G q args V fun v V'=>v=u/\F V' K L) (h:∀V',F V' K L->bP P G ops n l (h' u) V' Q) (hw:bK ops z o=some true:=by rfl) (hp:∀v,dG z n o.dst v=some (h' v):=by exact fun _=>Z):bP P G ops n (o::l) z V Q:=bg hw hv hp w h
theorem ks {m:cU} {m':cU} {h':PT U} (u:F V K ((q,m)::L)) (hv:dX P G (bz G z) V o.op= .skip (V.setObj q m')) (h:∀V',F V' K ((q,m')::L)->bP P G ops n l h' V' Q) (hw:bK ops z o=some true:=by rfl) (hp:dG z n o.dst unit=some h':=by rfl):bP P G ops n (o::l) z V Q:=bu u hw hv hp h
theorem kb {m:cU} {h':Nat->PT U} (u:F V K L) (hv:dX P G (bz G z) V o.op= .val (.ptr V.next 0) (V.alloc m)) (h:∀(V':aF) (b:Nat),F V' K ((b,m)::L)->bP P G ops n l (h' b) V' Q) (hw:bK ops z o=some true:=by rfl) (hp:∀b,dG z n o.dst (.ptr b 0)=some (h' b):=by exact fun _=>Z):bP P G ops n (o::l) z V Q:=bc u hw hv hp h
end
abbrev nI (n:Nat):U:=.int .i64 (.ofNat n)
abbrev EC:=a8 Go.Proofs.Tryz.prog
abbrev Ca (G:Cx) (K:KP) (L:Own) (f:Nat) (a:List U) (V:aF) (x:U):Prop:=EC G f a V fun v V'=>v=x/\F V' K L
section
variable {P:q6} {G:Cx} {n:Nat} {t:PT U} {V:aF} {Q:Ex->PT U->aF->Prop}
def U6 (W:List Nat) (t:PT U) (I_:PT U->aF->Prop) (e:Ex) (t':PT U) (V':aF):Prop:=e= .normal/\a7 W t t'/\I_ t' V'
theorem nU {a b:Code} (W:List Nat) (I_:PT U->aF->Prop) (h1:Ev P G a n t V (U6 W t I_)) (d:∀t' V',a7 W t t'->I_ t' V'->Ev P G b n t' V' Q):Ev P G (.seq a b) n t V Q:=
 ak (h1.mono fun e t' V' h=>by obtain⟨rfl,h3,h4⟩:=h;exact d t' V' h3 h4)
end
variable {K:KP} {L:Own}
section
variable {P:q6} {G:Cx} {n:Nat} {V:aF} {Q:Ex->PT U->aF->Prop}
inductive Cf where
 | ops (os:Array z_) (l:List z_)
 | mi (os:Array z_) (l:List (Nat×List Nat))
 | code (c:Code)
 | out (e:Ex)
inductive Fm where
 | seq (b:Code)
 | eK (id:Nat)
 | Uz (I_:Nat->PT U->aF->Prop) (j:Nat)
def QS (P:q6) (G:Cx) (n:Nat) (Q:Ex->PT U->aF->Prop):List Fm->Ex->PT U->aF->Prop
 | []=>Q
 | .seq b::r=>dp P G n b (QS P G n Q r)
 | .eK id::r=>kB id (QS P G n Q r)
 | .Uz I_ j::r=>zk I_ j (QS P G n Q r)
def At (P:q6) (G:Cx) (n:Nat) (V:aF) (Q:Ex->PT U->aF->Prop) (c:Cf) (fs:List Fm) (t:PT U):Prop:=
 match c with
 | .ops os l=>bP P G os n l t V (QS P G n Q fs)
 | .mi os l=>cT P G os n l t V (QS P G n Q fs)
 | .code c=>Ev P G c n t V (QS P G n Q fs)
 | .out e=>QS P G n Q fs e t V
def Hw (P:q6) (G:Cx) (n:Nat) (c:Code) (fs:List Fm) (t:PT U):Option (Cf×List Fm×PT U):=
 match c with
 | .seq a b=>some (.code a,.seq b::fs,t)
 | .region _ os false=>bif nj os.toList then none else some (.ops os os.toList,fs,t)
 | .cond x a b=>match bz G t x with
  | some (.bool true)=>some (.code a,fs,t)
  | some (.bool false)=>some (.code b,fs,t)
  | _=>none
 | .block id b=>some (.code b,.eK id::fs,t)
 | .skip=>some (.out .normal,fs,t)
 | .label _=>some (.out .normal,fs,t)
 | .exit id=>some (.out (.exit id),fs,t)
 | .ret=>some (.out .ret,fs,t)
 | _=>none
def Df (P:q6) (G:Cx) (n:Nat) (c:Cf) (fs:List Fm) (t:PT U):Option (Cf×List Fm×PT U):=
 match c with
 | .ops _ []=>some (.out .normal,fs,t)
 | .ops os (o::l)=>match nC P G os n t o with
  | some t'=>some (.ops os l,fs,t')
  | none=>none
 | .mi _ []=>some (.out .normal,fs,t)
 | .mi os ((i,[])::l)=>match os[i]? with
  | some o=>match nC P G os n t o with
   | some t'=>some (.mi os l,fs,t')
   | none=>none
  | none=>none
 | .mi _ ((_,_::_)::_)=>none
 | .code c=>Hw P G n c fs t
 | .out .normal=>match fs with
  | .seq b::r=>some (.code b,r,t)
  | .eK _::r=>some (.out .normal,r,t)
  | _=>none
 | .out (.exit j)=>match fs with
  | .seq _::r=>some (.out (.exit j),r,t)
  | .eK id::r=>bif Nat.beq j id then some (.out .normal,r,t) else some (.out (.exit j),r,t)
  | .Uz _ _::r=>some (.out (.exit j),r,t)
  | []=>none
 | .out .ret=>match fs with
  | .seq _::r=>some (.out .ret,r,t)
  | .eK _::r=>some (.out .ret,r,t)
  | .Uz _ _::r=>some (.out .ret,r,t)
  | []=>none
 | .out _=>none
theorem Kt {c:Code} {c':Cf} {fs fs':List Fm} {t t':PT U} (h:Hw P G n c fs t=some (c',fs',t')) (hh:At P G n V Q c' fs' t'):Ev P G c n t V (QS P G n Q fs):=by
 unfold Hw at h;split at h
 ·cases h;exact ak hh
 ·rename_i os;cases d:nj os.toList with
  | true=>rw[d] at h;cases h
  | false=>rw[d] at h;cases h;exact ai d hh
 ·split at h
  ·rename_i hx;cases h;exact aM hx hh
  ·rename_i hx;cases h;exact aQ hx hh
  cases h
 ·cases h;exact aL hh
 ·cases h;exact aH hh
 ·cases h;exact Ej hh
 ·cases h;exact bn hh
 ·cases h;exact aC hh
 cases h
theorem BP {c c':Cf} {fs fs':List Fm} {t t':PT U} (h:Df P G n c fs t=some (c',fs',t')) (hh:At P G n V Q c' fs' t'):At P G n V Q c fs t:=by
 unfold Df at h;split at h
 ·cases h;exact af hh
 ·split at h
  ·rename_i d;cases h;exact vt d hh
  cases h
 ·cases h;exact aW hh
 ·split at h
  ·rename_i u;split at h
   ·rename_i d;cases h;exact vr u d hh
   cases h
  cases h
 ·cases h
 ·exact Kt h hh
 ·split at h
  ·cases h;exact hh
  ·cases h;exact hh
  cases h
 ·rename_i j;split at h
  ·cases h;exact hh
  ·rename_i id r;cases hj:Nat.beq j id with
   | true=>
    rw[hj] at h;cases h;have:=nB hj;subst this;exact aR hh
   | false=>rw[hj] at h;cases h;exact iT hj hh
  ·cases h;exact hh
  cases h
 ·split at h
  ·cases h;exact hh
  ·cases h;exact hh
  ·cases h;exact hh
  cases h
 cases h
def iP (P:q6) (G:Cx) (n:Nat):Nat->Cf->List Fm->PT U->Option (Cf×List Fm×PT U)
 | 0,c,fs,t=>some (c,fs,t)
 | k+1,c,fs,t=>match Df P G n c fs t with
  | some (c',fs',t')=>iP P G n k c' fs' t'
  | none=>none
theorem eA:∀(k:Nat) {c c':Cf} {fs fs':List Fm} {t t':PT U},iP P G n k c fs t=some (c',fs',t')->At P G n V Q c' fs' t'->At P G n V Q c fs t
 | 0,_,_,_,_,_,_,h,hh=>by cases h;exact hh
 | k+1,_,_,_,_,_,_,h,hh=>by
  unfold iP at h;split at h
  ·rename_i d;exact BP d<|eA k h hh
  cases h
inductive Cd where
 | fa (s i k:Nat)
 | ag (t:Nat)
def mg (P:q6):List Cd->Bool
 | []=>true
 | .fa s i k::r=>match oX P s i with
  | some q=>bif Nat.beq q k then mg P r else false
  | none=>false
 | .ag t::r=>match eo P t with
  | some none=>mg P r
  | _=>false
def Ts (P:q6) (G:Cx) (n:Nat) (os:Array z_) (t:PT U) (o:z_) (s i k:Nat) (x:q_):Option (PT U):=
 match bK os t o with
 | some true=>match bz G t x with
  | some (.ptr b off)=>dG t n o.dst (.ptr b (off+k))
  | _=>none
 | _=>none
def TE (P:q6) (G:Cx) (n:Nat) (os:Array z_) (t:PT U) (o:z_) (x:q_) (b':Nat) (cells:List U):Option (PT U×Nat):=
 match bK os t o with
 | some true=>match bz G t x with
  | some (.ptr b off)=>match nth cells off with
   | some v=>match dG t n o.dst v with
    | some t'=>some (t',b)
    | none=>none
   | none=>none
  | _=>none
 | _=>none
def UB (P:q6) (G:Cx) (n:Nat) (L:Own) (os:Array z_) (t:PT U) (o:z_) (hs:List Nat) (cs:List Cd) (e1 e2:List Nat):Option (PT U×List Nat×List Cd×List Nat×List Nat):=
 match o.op,hs with
 | .fieldAddr s x i,k::hs=>match Ts P G n os t o s i k x with
  | some t'=>some (t',hs,.fa s i k::cs,e1,e2)
  | none=>none
 | .load ty x,k::hs=>match nth L k with
  | some (b',.row cells _ _)=>match TE P G n os t o x b' cells with
   | some (t',b)=>some (t',hs,.ag ty::cs,b::e1,b'::e2)
   | none=>none
  | _=>none
 | _,_=>none
def WE (o:z_):Bool:=match o.op with
 | .fieldAddr ..=>true
 | .load ..=>true
 | _=>false
def VY (os:Array z_) (t:PT U) (o:z_):Bool:=match bK os t o with
 | some true=>WE o
 | _=>false
def Tu (c:Cf) (t:PT U):Bool:=match c with
 | .ops os (o::_)=>VY os t o
 | .mi os ((i,[])::_)=>match os[i]? with
  | some o=>VY os t o
  | none=>false
 | _=>false
def NS (P:q6) (G:Cx) (n:Nat) (L:Own) (c:Cf) (t:PT U) (hs:List Nat) (cs:List Cd) (e1 e2:List Nat):Option (Cf×PT U×List Nat×List Cd×List Nat×List Nat):=
 match c with
 | .ops os (o::l)=>match UB P G n L os t o hs cs e1 e2 with
  | some (t',hs,cs,e1,e2)=>some (.ops os l,t',hs,cs,e1,e2)
  | none=>none
 | .mi os ((i,[])::l)=>match os[i]? with
  | some o=>match UB P G n L os t o hs cs e1 e2 with
   | some (t',hs,cs,e1,e2)=>some (.mi os l,t',hs,cs,e1,e2)
   | none=>none
  | none=>none
 | _=>none
def uo (P:q6) (G:Cx) (n:Nat) (L:Own):Nat->Cf->List Fm->PT U->List Nat->List Cd->List Nat->List Nat->Option (Cf×List Fm×PT U×List Cd×List Nat×List Nat)
 | 0,c,fs,t,_,cs,e1,e2=>some (c,fs,t,cs,e1,e2)
 | k+1,c,fs,t,hs,cs,e1,e2=>match Tu c t with
  | true=>match NS P G n L c t hs cs e1 e2 with
   | some (c',t',hs',cs',e1',e2')=>uo P G n L k c' fs t' hs' cs' e1' e2'
   | none=>none
  | false=>match Df P G n c fs t with
   | some (c',fs',t')=>uo P G n L k c' fs' t' hs cs e1 e2
   | none=>none
theorem OW {s i k:Nat} {r:List Cd} (h:mg P (.fa s i k::r)=true):oX P s i=some k/\mg P r=true:=by
 unfold mg at h;split at h
 ·rename_i q hq;cases hk:Nat.beq q k with
  | true=>rw[hk] at h;exact⟨by rw[hq,nB hk],h⟩
  | false=>rw[hk] at h;cases h
 cases h
theorem OV {t:Nat} {r:List Cd} (h:mg P (.ag t::r)=true):eo P t=some none/\mg P r=true:=by
 unfold mg at h;split at h
 ·rename_i d;exact⟨d,h⟩
 cases h
theorem MS (O:F V K L) {os:Array z_} {t t':PT U} {o:z_} {R w:List Nat} {cs cs':List Cd} {e1 C d u:List Nat} (h:UB P G n L os t o R cs e1 C=some (t',w,cs',d,u)) (E:mg P cs'=true) (he:d=u):
  (mg P cs=true/\e1=C)/\bK os t o=some true/\∃v,dX P G (bz G t) V o.op= .val v V/\dG t n o.dst v=some t':=by
 unfold UB at h;split at h
 ·rename_i s x i k z A;split at h
  ·rename_i S hf;cases h;obtain⟨h1,B⟩:=OW E;unfold Ts at hf;split at hf
   ·rename_i hw;split at hf
    ·rename_i b off hx;exact⟨⟨B,he⟩,hw,_,by rw[A];exact aw hx h1,hf⟩
    cases hf
   cases hf
  cases h
 ·rename_i ty x k z A;split at h
  ·rename_i b' cells ee ro M;split at h
   ·rename_i S b hf;cases h;obtain⟨h1,B⟩:=OV E;have hb:b=b':=(List.cons.inj he).1;have he':=(List.cons.inj he).2;unfold TE at hf;split at hf
    ·rename_i hw;split at hf
     ·rename_i b2 off hx;split at hf
      ·rename_i v hv;split at hf
       ·rename_i t2 hp;cases hf;subst hb;rw[fN] at M;exact⟨⟨B,he'⟩,hw,v,by rw[A];exact av hx (O.get k M) h1 hv,hp⟩
       cases hf
      cases hf
     cases hf
    cases hf
   cases h
  cases h
 cases h
theorem NT (O:F V K L) {c c':Cf} {fs:List Fm} {t t':PT U} {B w:List Nat} {cs cs':List Cd} {e1 A d u:List Nat} (h:NS P G n L c t B cs e1 A=some (c',t',w,cs',d,u)) (hk:mg P cs'=true) (he:d=u) (hh:At P G n V Q c' fs t'):(mg P cs=true/\e1=A)/\At P G n V Q c fs t:=by
 unfold NS at h;split at h
 ·split at h
  ·rename_i z;cases h;obtain⟨h1,hw,v,hv,hp⟩:=MS O z hk he;exact⟨h1,I hw hv hp hh⟩
  cases h
 ·split at h
  ·rename_i o C;split at h
   ·rename_i z;cases h;obtain⟨h1,hw,v,hv,hp⟩:=MS O z hk he;exact⟨h1,aj C hw hv hp hh⟩
   cases h
  cases h
 cases h
theorem ja {K:KP} {L:Own} (O:F V K L):∀(k:Nat) {c c':Cf} {fs fs':List Fm} {t t':PT U} {d:List Nat} {cs cs':List Cd} {e1 z u w:List Nat},uo P G n L k c fs t d cs e1 z=some (c',fs',t',cs',u,w)->mg P cs'=true->u=w->At P G n V Q c' fs' t'->(mg P cs=true/\e1=z)/\At P G n V Q c fs t
 | 0,_,_,_,_,_,_,_,_,_,_,_,_,_,h,hk,he,hh=>by cases h;exact⟨⟨hk,he⟩,hh⟩
 | k+1,_,_,_,_,_,_,_,_,_,_,_,_,_,h,hk,he,hh=>by
  unfold uo at h;split at h
  ·split at h
   ·rename_i d;obtain⟨⟨h1,A⟩,h3⟩:=ja O k h hk he hh;exact NT O d h1 A h3
   cases h
  split at h
  ·rename_i d;obtain⟨h1,h3⟩:=ja O k h hk he hh;exact⟨h1,BP d h3⟩
  cases h
end
theorem a7.Va {W:List Nat} {t t':PT U} {w:Nat} (hw:blt w 256=true) (h:a7 (w::W) t t'):a7 W (t.put (t'.get w) w) t':=by
 rw[xF] at hw;obtain⟨h1,d,h3⟩:=h;obtain⟨s,m,l⟩:=t;rw[PT.xh _ _ _ _ hw,PT.td _ hw];refine⟨h1,d,fun k hk hn=>?_⟩;show _=lZ (uc s w _) k;rw[nf _ _ _ _ hw hk];split
 ·rename_i e;rw[e]
 rename_i e;refine h3 k hk ?_;rw[List.elem_cons,hn];have:(k == w)=false:=by simpa using e
 rw[this]
def tl (o:Nat->Option U):PT U->List Nat->PT U
 | t,[]=>t
 | t,a::r=>tl o (t.put (o a) a) r
def Az (o:Nat->Option U):List (Nat×U)->Nat->Option U
 | [],a=>o a
 | (k,v)::r,a=>bif Nat.beq a k then some v else Az o r a
theorem BS {o:Nat->Option U}:∀{ks:List (Nat×U)},(∀e∈ks,o e.1=some e.2)->Az o ks=o
 | [],_=>rfl
 | (k,v)::r,h=>funext fun a=>by
  show(bif Nat.beq a k then some v else Az o r a)=o a;cases hb:Nat.beq a k with
  | true=>rw[nB hb];exact(h (k,v) (.head _)).symm
  | false=>rw[BS fun e he=>h e (.tail _ he)];rfl
def okW (W:List Nat):Bool:=W.all fun k=>blt k 256
theorem a7.fn {t':PT U}:∀{W:List Nat} {t:PT U},okW W=true->a7 W t t'->t'=tl (fun k=>t'.get k) t W
 | [],_,_,h=>h.nil
 | a::r,t,hw,h=>by
  have hw:(blt a 256 && okW r)=true:=hw;rw[bA_] at hw;exact(a7.fn (W:=r) hw.2 (h.Va hw.1):)
section
variable {W:List Nat} {t t':PT U}
theorem a7.qs {ks:List (Nat×U)} (h:a7 W t t') (hk:∀e∈ks,t'.get e.1=some e.2) (hw:okW W=true):∃o,t'=tl (Az o ks) t W:=
 ⟨fun k=>t'.get k,(a7.fn hw h).trans<|congrArg (fun o=>tl o t W) (BS hk).symm⟩
variable {k1 k2 k3 k4 k5 k6:Nat} {v1 v2 v3 v4 v5 v6:U} (h:a7 W t t')
include h
theorem a7.q0 (hw:okW W=true):∃o,t'=tl (Az o []) t W:=h.qs (ks:=[]) (fun e he=>by cases he) hw
theorem a7.q1 (h1:t'.get k1=some v1) (hw:okW W=true):∃o,t'=tl (Az o [(k1,v1)]) t W:=h.qs (fun e he=>by simp at he;subst he;exact h1) hw
theorem a7.q2 (h1:t'.get k1=some v1) (d:t'.get k2=some v2) (hw:okW W=true):∃o,t'=tl (Az o [(k1,v1),(k2,v2)]) t W:=h.qs (fun e he=>by simp at he;rcases he with rfl | rfl;exact h1;exact d) hw
theorem a7.q3 (h1:t'.get k1=some v1) (d:t'.get k2=some v2) (h3:t'.get k3=some v3) (hw:okW W=true):∃o,t'=tl (Az o [(k1,v1),(k2,v2),(k3,v3)]) t W:=h.qs (fun e he=>by simp at he;rcases he with rfl | rfl | rfl;exact h1;exact d;exact h3) hw
theorem a7.q4 (h1:t'.get k1=some v1) (d:t'.get k2=some v2) (h3:t'.get k3=some v3) (h4:t'.get k4=some v4) (hw:okW W=true):∃o,t'=tl (Az o [(k1,v1),(k2,v2),(k3,v3),(k4,v4)]) t W:=h.qs (fun e he=>by simp at he;rcases he with rfl | rfl | rfl | rfl;exact h1;exact d;exact h3;exact h4) hw
theorem a7.q5 (h1:t'.get k1=some v1) (d:t'.get k2=some v2) (h3:t'.get k3=some v3) (h4:t'.get k4=some v4) (h5:t'.get k5=some v5) (hw:okW W=true):∃o,t'=tl (Az o [(k1,v1),(k2,v2),(k3,v3),(k4,v4),(k5,v5)]) t W:=h.qs (fun e he=>by simp at he;rcases he with rfl | rfl | rfl | rfl | rfl;exact h1;exact d;exact h3;exact h4;exact h5) hw
end
theorem oF {W:List Nat} {t t':PT U} (h:a7 W t t':=by repeat (first | with_reducible exact a7.refl _ _ | refine a7.put Z ?_)):a7 W t t':=h
def RB (i:Nat) (t:PT U):List U->PT U
 | []=>t
 | a::r=>RB (i+1) (t.put (some a) i) r
theorem VV {P:q6} {G:Cx} (d:Plain G) {f:Nat} {fn:Func} {c:Code} {args:List U} {V:aF} {R:U->aF->Prop} (hf:P.funcs[f]? =some fn) (hb:fn.body=some c) (h:Ev P G c fn.ntmps (RB 0 .leaf args) V (Ee P fn R))
  (u:sX fn.ntmps args=some (RB 0 .leaf args):=by rfl) (hk:Nat.beq f Pu=false:=by rfl) (hl:GV f=false:=by rfl):a8 P G f args V R:=aZ d hf hb u h hk hl
def zp:List Nat->List (Nat×List Nat)
 | []=>[]
 | a::r=>(a,[])::zp r
def rg (a:Nat):Nat->List Nat
 | 0=>[]
 | n+1=>a::rg (a+1) n
variable {u:Code} {j:Nat} {bI1:Nat->PT U->aF->Prop}
section
variable {P:q6} {G:Cx} {n:Nat} {V:aF} {Q:Ex->PT U->aF->Prop} {os os2:Array z_} {l l2:List z_} {lp lp2:List (Nat×List Nat)} {c c2:Code} {t t2:PT U} {K:KP} {L:Own} {hs:List Nat} {cs:List Cd} {e1 e2:List Nat}
theorem Vo {d:Code} (k:Nat) (h:iP P G n k (.code c) [] t=some (.code c2,[.seq d],t2)) (hh:Ev P G c2 n t2 V (dp P G n d Q)):Ev P G c n t V Q:=(eA (Q:=Q) k h hh:)
theorem V0 (k:Nat) (h:iP P G n k (.code c) [] t=some (.out .normal,[],t2)) (hh:Q .normal t2 V):Ev P G c n t V Q:=(eA (Q:=Q) k h hh:)
theorem V4 (k:Nat) (h:iP P G n k (.code c) [] t=some (.ops os2 l2,[],t2)) (hh:bP P G os2 n l2 t2 V Q):Ev P G c n t V Q:=(eA (Q:=Q) k h hh:)
theorem Vp {d:Code} (k:Nat) (h:iP P G n k (.code c) [] t=some (.ops os2 l2,[.seq d],t2)) (hh:bP P G os2 n l2 t2 V (dp P G n d Q)):Ev P G c n t V Q:=(eA (Q:=Q) k h hh:)
theorem UD {d:Code} (k:Nat) (h:iP P G n k (.code c) [] t=some (.ops os2 l2,[.seq d,.seq u],t2)) (hh:bP P G os2 n l2 t2 V (dp P G n d<|dp P G n u Q)):Ev P G c n t V Q:=(eA (Q:=Q) k h hh:)
theorem V5 (k:Nat) (h:iP P G n k (.code c) [] t=some (.out .ret,[],t2)) (hh:Q .ret t2 V):Ev P G c n t V Q:=(eA (Q:=Q) k h hh:)
theorem TV {d:Code} {w:Nat} (k:Nat) (h:iP P G n k (.code c) [.seq d] t=some (.code c2,[.eK w,.seq u],t2)) (hh:Ev P G c2 n t2 V (kB w<|dp P G n u Q)):Ev P G c n t V (dp P G n d Q):=(eA (Q:=Q) k h hh:)
theorem UE {d:Code} (k:Nat) (h:iP P G n k (.code c) [.seq d] t=some (.code c2,[.seq u],t2)) (hh:Ev P G c2 n t2 V (dp P G n u Q)):Ev P G c n t V (dp P G n d Q):=(eA (Q:=Q) k h hh:)
theorem S9 {d:Code} {w:Code} {z:Nat} (k:Nat) (h:iP P G n k (.code c) [.seq d] t=some (.code c2,[.seq u,.eK z,.seq w],t2)) (hh:Ev P G c2 n t2 V (dp P G n u<|kB z<|dp P G n w Q)):Ev P G c n t V (dp P G n d Q):=(eA (Q:=Q) k h hh:)
theorem UF {d:Code} (k:Nat) (h:iP P G n k (.code c) [.seq d] t=some (.ops os2 l2,[.seq u],t2)) (hh:bP P G os2 n l2 t2 V (dp P G n u Q)):Ev P G c n t V (dp P G n d Q):=(eA (Q:=Q) k h hh:)
theorem Ta {d:Code} {w:Code} {z:Nat} (k:Nat) (h:iP P G n k (.code c) [.seq d] t=some (.ops os2 l2,[.seq u,.eK z,.seq w],t2)) (hh:bP P G os2 n l2 t2 V (dp P G n u<|kB z<|dp P G n w Q)):Ev P G c n t V (dp P G n d Q):=(eA (Q:=Q) k h hh:)
theorem TW {d:Code} {w:Code} (k:Nat) (h:iP P G n k (.code c) [.seq d] t=some (.ops os2 l2,[.seq u,.seq w],t2)) (hh:bP P G os2 n l2 t2 V (dp P G n u<|dp P G n w Q)):Ev P G c n t V (dp P G n d Q):=(eA (Q:=Q) k h hh:)
theorem Vq {d:Code} (k:Nat) (h:iP P G n k (.code c) [.seq d] t=some (.out .ret,[],t2)) (hh:Q .ret t2 V):Ev P G c n t V (dp P G n d Q):=(eA (Q:=Q) k h hh:)
theorem UG {d:Code} {u:Nat} (k:Nat) (h:iP P G n k (.code c) [.seq d,.Uz bI1 u] t=some (.out (.exit j),[],t2)) (hh:Q (.exit j) t2 V):Ev P G c n t V (dp P G n d<|zk bI1 u Q):=(eA (Q:=Q) k h hh:)
theorem V6 (k:Nat) (h:iP P G n k (.ops os l) [] t=some (.out .normal,[],t2)) (hh:Q .normal t2 V):bP P G os n l t V Q:=(eA (Q:=Q) k h hh:)
theorem V7 (k:Nat) (h:iP P G n k (.ops os l) [] t=some (.ops os2 l2,[],t2)) (hh:bP P G os2 n l2 t2 V Q):bP P G os n l t V Q:=(eA (Q:=Q) k h hh:)
theorem Vr {d:Code} (k:Nat) (h:iP P G n k (.ops os l) [.seq d] t=some (.code c2,[],t2)) (hh:Ev P G c2 n t2 V Q):bP P G os n l t V (dp P G n d Q):=(eA (Q:=Q) k h hh:)
theorem UH {d:Code} {u:Nat} (k:Nat) (h:iP P G n k (.ops os l) [.seq d] t=some (.code c2,[.eK u],t2)) (hh:Ev P G c2 n t2 V (kB u Q)):bP P G os n l t V (dp P G n d Q):=(eA (Q:=Q) k h hh:)
theorem TX {d:Code} {w:Nat} (k:Nat) (h:iP P G n k (.ops os l) [.seq d] t=some (.code c2,[.eK w,.seq u],t2)) (hh:Ev P G c2 n t2 V (kB w<|dp P G n u Q)):bP P G os n l t V (dp P G n d Q):=(eA (Q:=Q) k h hh:)
theorem UI {d:Code} (k:Nat) (h:iP P G n k (.ops os l) [.seq d] t=some (.code c2,[.seq u],t2)) (hh:Ev P G c2 n t2 V (dp P G n u Q)):bP P G os n l t V (dp P G n d Q):=(eA (Q:=Q) k h hh:)
theorem Vs {d:Code} (k:Nat) (h:iP P G n k (.ops os l) [.seq d] t=some (.ops os2 l2,[],t2)) (hh:bP P G os2 n l2 t2 V Q):bP P G os n l t V (dp P G n d Q):=(eA (Q:=Q) k h hh:)
theorem UJ {d:Code} (k:Nat) (h:iP P G n k (.ops os l) [.seq d] t=some (.ops os2 l2,[.seq u],t2)) (hh:bP P G os2 n l2 t2 V (dp P G n u Q)):bP P G os n l t V (dp P G n d Q):=(eA (Q:=Q) k h hh:)
theorem TY {d:Code} {w:Code} (k:Nat) (h:iP P G n k (.ops os l) [.seq d] t=some (.ops os2 l2,[.seq u,.seq w],t2)) (hh:bP P G os2 n l2 t2 V (dp P G n u<|dp P G n w Q)):bP P G os n l t V (dp P G n d Q):=(eA (Q:=Q) k h hh:)
theorem Vt {d:Code} (k:Nat) (h:iP P G n k (.ops os l) [.seq d] t=some (.out .ret,[],t2)) (hh:Q .ret t2 V):bP P G os n l t V (dp P G n d Q):=(eA (Q:=Q) k h hh:)
theorem UK {d:Code} {u:Nat} (k:Nat) (h:iP P G n k (.ops os l) [.seq d,.eK u] t=some (.out .normal,[],t2)) (hh:Q .normal t2 V):bP P G os n l t V (dp P G n d<|kB u Q):=(eA (Q:=Q) k h hh:)
theorem TZ {d:Code} {w:Code} (k:Nat) (h:iP P G n k (.ops os l) [.seq d,.seq u] t=some (.ops os2 l2,[.seq w],t2)) (hh:bP P G os2 n l2 t2 V (dp P G n w Q)):bP P G os n l t V (dp P G n d<|dp P G n u Q):=(eA (Q:=Q) k h hh:)
theorem UL {d:Code} (k:Nat) (h:iP P G n k (.ops os l) [.seq d,.seq u] t=some (.out .ret,[],t2)) (hh:Q .ret t2 V):bP P G os n l t V (dp P G n d<|dp P G n u Q):=(eA (Q:=Q) k h hh:)
theorem UM {d:Code} (k:Nat) (h:iP P G n k (.ops os l) [.seq d,.seq u] t=some (.out (.exit j),[],t2)) (hh:Q (.exit j) t2 V):bP P G os n l t V (dp P G n d<|dp P G n u Q):=(eA (Q:=Q) k h hh:)
theorem V8 (k:Nat) (h:iP P G n k (.mi os lp) [] t=some (.mi os2 lp2,[],t2)) (hh:cT P G os2 n lp2 t2 V Q):cT P G os n lp t V Q:=(eA (Q:=Q) k h hh:)
theorem Vu {d:Code} (k:Nat) (h:iP P G n k (.mi os lp) [.seq d] t=some (.code c2,[],t2)) (hh:Ev P G c2 n t2 V Q):cT P G os n lp t V (dp P G n d Q):=(eA (Q:=Q) k h hh:)
theorem UN {d:Code} (k:Nat) (h:iP P G n k (.mi os lp) [.seq d] t=some (.ops os2 l2,[.seq u],t2)) (hh:bP P G os2 n l2 t2 V (dp P G n u Q)):cT P G os n lp t V (dp P G n d Q):=(eA (Q:=Q) k h hh:)
theorem Vv {d:Code} (k:Nat) (h:iP P G n k (.mi os lp) [.seq d] t=some (.out .ret,[],t2)) (hh:Q .ret t2 V):cT P G os n lp t V (dp P G n d Q):=(eA (Q:=Q) k h hh:)
theorem Vw {d:Code} (O:F V K L) (k:Nat) (hi:List Nat) (h:uo P G n L k (.code c) [] t hi [] [] []=some (.code c2,[.seq d],t2,cs,e1,e2)) (he:e1=e2) (hh:Ev P G c2 n t2 V (dp P G n d Q)) (u:mg P cs=true:=by kernel_rfl):Ev P G c n t V Q:=((ja (Q:=Q) O k h u he hh).2:)
theorem V9 (O:F V K L) (k:Nat) (hi:List Nat) (h:uo P G n L k (.code c) [] t hi [] [] []=some (.ops os2 l2,[],t2,cs,e1,e2)) (he:e1=e2) (hh:bP P G os2 n l2 t2 V Q) (d:mg P cs=true:=by kernel_rfl):Ev P G c n t V Q:=((ja (Q:=Q) O k h d he hh).2:)
theorem UO {d:Code} (O:F V K L) (k:Nat) (hi:List Nat) (h:uo P G n L k (.code c) [] t hi [] [] []=some (.ops os2 l2,[.seq d,.seq u],t2,cs,e1,e2)) (he:e1=e2) (hh:bP P G os2 n l2 t2 V (dp P G n d<|dp P G n u Q)) (w:mg P cs=true:=by kernel_rfl):Ev P G c n t V Q:=((ja (Q:=Q) O k h w he hh).2:)
theorem UP {d:Code} (O:F V K L) (k:Nat) (hi:List Nat) (h:uo P G n L k (.code c) [.seq d] t hi [] [] []=some (.ops os2 l2,[.seq u],t2,cs,e1,e2)) (he:e1=e2) (hh:bP P G os2 n l2 t2 V (dp P G n u Q)) (w:mg P cs=true:=by kernel_rfl):Ev P G c n t V (dp P G n d Q):=((ja (Q:=Q) O k h w he hh).2:)
theorem T0 {d:Code} {w:Code} (O:F V K L) (k:Nat) (hi:List Nat) (h:uo P G n L k (.code c) [.seq d] t hi [] [] []=some (.ops os2 l2,[.seq u,.seq w],t2,cs,e1,e2)) (he:e1=e2) (hh:bP P G os2 n l2 t2 V (dp P G n u<|dp P G n w Q)) (z:mg P cs=true:=by kernel_rfl):Ev P G c n t V (dp P G n d Q):=((ja (Q:=Q) O k h z he hh).2:)
theorem Wa (O:F V K L) (k:Nat) (hi:List Nat) (h:uo P G n L k (.ops os l) [] t hi [] [] []=some (.ops os2 l2,[],t2,cs,e1,e2)) (he:e1=e2) (hh:bP P G os2 n l2 t2 V Q) (d:mg P cs=true:=by kernel_rfl):bP P G os n l t V Q:=((ja (Q:=Q) O k h d he hh).2:)
theorem Vx {d:Code} (O:F V K L) (k:Nat) (hi:List Nat) (h:uo P G n L k (.ops os l) [.seq d] t hi [] [] []=some (.code c2,[],t2,cs,e1,e2)) (he:e1=e2) (hh:Ev P G c2 n t2 V Q) (u:mg P cs=true:=by kernel_rfl):bP P G os n l t V (dp P G n d Q):=((ja (Q:=Q) O k h u he hh).2:)
theorem UQ {d:Code} (O:F V K L) (k:Nat) (hi:List Nat) (h:uo P G n L k (.ops os l) [.seq d] t hi [] [] []=some (.ops os2 l2,[.seq u],t2,cs,e1,e2)) (he:e1=e2) (hh:bP P G os2 n l2 t2 V (dp P G n u Q)) (w:mg P cs=true:=by kernel_rfl):bP P G os n l t V (dp P G n d Q):=((ja (Q:=Q) O k h w he hh).2:)
theorem Ua {d:Code} {w:Code} (O:F V K L) (k:Nat) (hi:List Nat) (h:uo P G n L k (.ops os l) [.seq d] t hi [] [] []=some (.ops os2 l2,[.seq u,.seq w],t2,cs,e1,e2)) (he:e1=e2) (hh:bP P G os2 n l2 t2 V (dp P G n u<|dp P G n w Q)) (z:mg P cs=true:=by kernel_rfl):bP P G os n l t V (dp P G n d Q):=((ja (Q:=Q) O k h z he hh).2:)
theorem Vy {d:Code} (O:F V K L) (k:Nat) (hi:List Nat) (h:uo P G n L k (.ops os l) [.seq d] t hi [] [] []=some (.out .ret,[],t2,cs,e1,e2)) (he:e1=e2) (hh:Q .ret t2 V) (u:mg P cs=true:=by kernel_rfl):bP P G os n l t V (dp P G n d Q):=((ja (Q:=Q) O k h u he hh).2:)
theorem Wb (O:F V K L) (k:Nat) (hi:List Nat) (h:uo P G n L k (.mi os lp) [] t hi [] [] []=some (.mi os2 lp2,[],t2,cs,e1,e2)) (he:e1=e2) (hh:cT P G os2 n lp2 t2 V Q) (d:mg P cs=true:=by kernel_rfl):cT P G os n lp t V Q:=((ja (Q:=Q) O k h d he hh).2:)
end
end Go.Ev
namespace Go.Ev
variable [Env] {α:Type} {K:KP} {vs:List U}
inductive XE where
 | mk (op num:Int) (name:List Nat) (kids:List XE)
structure XI where
 kind:Int
 zS:Int
 loc:Int
 order:Int
 to:Int
 exprs:List XE
structure XC where
 bI:Int
 ins:List XI
def kq (K:KP):Nat->XE->List U->Prop
 | 0,_,_=>False
 | k+1,.mk op num name kids,vs=>∃v,vs= [.int .i64 op,.int .i64 num,.str name,v]/\bS K 4 (kq K k) kids v
def l9 (K:KP) (k:Nat) (x:XI) (vs:List U):Prop:=∃v,vs= [.int .i64 x.kind,.int .i64 x.zS,.int .i64 x.loc,.int .i64 x.order,.int .i64 x.to,v]/\bS K 4 (kq K k) x.exprs v
def pK (K:KP) (k:Nat) (x:XC) (vs:List U):Prop:=∃v,vs= [.int .i64 x.bI,v]/\bS K 6 (l9 K k) x.ins v
def XE.kids:XE->List XE
 | .mk _ _ _ k=>k
theorem kq.shape {k:Nat} {x:XE} (h:kq K k x vs):∃op num name v,vs= [.int .i64 op,.int .i64 num,.str name,v]/\bS K 4 (kq K (k-1)) x.kids v:=by
 cases k with
 | zero=>cases x;exact h.elim
 | succ k=>
  obtain⟨op,num,name,kids⟩:=x;obtain⟨v,rfl,hk⟩:=h;exact⟨_,_,_,v,Z,hk⟩
open Classical in
def cL {α:Type} (a b:α):Bool:=decide (a=b)
theorem dF {a b:α}:cL a b=true↔a=b:=by unfold cL;simp
theorem nA {a b:α}:cL a b=false↔a≠b:=by unfold cL;simp
theorem de {c:Bool} (h:(bif c then false else true)=true):c=false:=by cases c<;>simp_all
theorem bT {c:Bool} (h:(bif c then false else true)=false):c=true:=by cases c<;>simp_all
theorem wq {l1 l2:List α} (h:N (.ofNat l1.length) (.ofNat l2.length)=false):cL l1 l2=false:=by
 rw[nA];rintro rfl;rw[eB] at h;simp at h
theorem gB {α β:Type} {l1:List α} {l2:List β} (h:N (.ofNat l1.length) (.ofNat l2.length)=true):l1.length=l2.length:=by
 rw[eB] at h
 grind
theorem zV {l1 l2:List α} {i:Nat} {x y:α} (hx:l1[i]? =some x) (hy:l2[i]? =some y) (h:cL x y=false):cL l1 l2=false:=by
 rw[nA] at h⊢
 grind
theorem wo {l1 l2:List α} {i:Nat} (hl:l1.length=l2.length) (hi:l1.length<=i) (h:∀k,k<i->l1[k]? =l2[k]?):cL l1 l2=true:=by
 rw[dF];refine zf_ fun k=>?_
 grind
theorem Km {l1 l2:List α} {i:Nat} {x y:α} (h:∀k,k<i->l1[k]? =l2[k]?) (hx:l1[i]? =some x) (hy:l2[i]? =some y) (hs:cL x y=true):∀k,k<i+1->l1[k]? =l2[k]?:=fun k hk=>by
 grind [dF]
theorem bJ {a b:Nat} (h:cM (.ofNat a) (.ofNat b)=false):b<=a:=by
 grind [eU]
theorem bd {a b:Nat} (h:cM (.ofNat a) (.ofNat b)=true):a<b:=by
 rw[eU,decide_eq_true_iff] at h
 simp_all
theorem da {l:List α} {i:Nat} (h:i<l.length):∃x,l[i]? =some x:=⟨l[i],gC h⟩
def wW (f:XE->Int->Int):List XE->Int->Int
 | [],m=>m
 | x::r,m=>bif cM m 0 then m else wW f r (f x m)
def Ra (name:List Nat) (left:Int):Int:=wr .i64 (Int.sub (wr .i64<|Int.sub left 1)<|wr .i64<|Int.tdiv (.ofNat<|dK name) 20)
def Ey:Nat->XE->Int->Int
 | 0,_,m=>m
 | k+1,.mk _ _ name kids,m=>wW (Ey k) kids (Ra name m)
def GU (k:Nat) (x:XE) (most:Int):Bool:=bif cM (Ey k x most) 0 then false else true
def zh (k:Nat) (x:XI):Bool:=bif cM 4 (.ofNat x.exprs.length) then false else x.exprs.all fun e=>GU k e 60
def tS (k:Nat) (most:Int) (x:XC):Bool:=bif cM most (.ofNat x.ins.length) then false else x.ins.all (zh k)
def uR (k:Nat) (most:Int) (l:List XC):Bool:=(l.take 6).all (tS k most) && (bif cM 6 (.ofNat l.length) then false else true)
theorem JI {f:XE->Int->Int} {l:List XE} {i:Nat} {m:Int} (h:l.length<=i):wW f (l.drop i) m=m:=by rw[drop_eq_nil_of_le h];rfl
theorem JH {f:XE->Int->Int} {l:List XE} {m:Int} (h:cM m 0=true):wW f l m=m:=by
 cases l with
 | nil=>rfl
 | cons x r=>show(bif cM m 0 then m else _)=m;rw[h];rfl
theorem GI {f:XE->Int->Int} {l:List XE} {i:Nat} {m:Int} {x:XE} (hx:l[i]? =some x) (h:cM m 0=false):wW f (l.drop i) m=wW f (l.drop (i+1)) (f x m):=by
 have d:i<l.length:=(gA.1 hx).1;rw[zj_ d];have:l[i]=x:=(gA.1 hx).2;rw[this];show(bif cM m 0 then m else _)=_;rw[h];rfl
theorem mS {f:α->Bool} {l:List α} {i:Nat} {x:α} (hx:l[i]? =some x) (h:f x=false):l.all f=false:=by
 grind
theorem OK {f:α->Bool} {l:List α} {i n:Nat} {x:α} (hx:l[i]? =some x) (hi:i<n) (h:f x=false):(l.take n).all f=false:=mS (i:=i) (by simp_all) h
theorem jn {f:α->Bool} {l:List α} {i:Nat} {x:α} (d:(l.take i).all f=true) (hx:l[i]? =some x) (h:f x=true):(l.take (i+1)).all f=true:=by
 rw[zb_,hx,List.all_append,d];simp[h]
theorem fW {f:α->Bool} {l:List α} {i:Nat} (d:(l.take i).all f=true) (h:l.length<=i):l.all f=true:=by
 rw[tL_ h] at d;exact d
theorem DH {f:α->Bool} {l:List α} {i n:Nat} (d:(l.take i).all f=true) (h:n<=i):(l.take n).all f=true:=by
 rw[aE_] at d⊢
 exact fun x hx=>d x (by
  obtain⟨j,hj⟩:=gO_ hx;rw[List.getElem?_take] at hj;split at hj
  ·exact gB_ (i:=j) (by grind)
  cases hj)
theorem kq.beq {k:Nat} {x:XE} (h:kq K k x vs):eM (.agg vs) (.agg vs)=true:=by
 cases k with
 | zero=>cases x;exact h.elim
 | succ k=>
  obtain⟨op,num,name,kids⟩:=x;obtain⟨v,rfl,hk⟩:=h;exact dI<|ba (cV _ _)<|ba (cV _ _)<|ba (Ld _)<|ba hk.dV dJ
theorem l9.beq {k:Nat} {x:XI} (h:l9 K k x vs):eM (.agg vs) (.agg vs)=true:=by
 obtain⟨v,rfl,hk⟩:=h;exact dI<|ba (cV _ _)<|ba (cV _ _)<|ba (cV _ _)<|ba (cV _ _)<|ba (cV _ _)<|ba hk.dV dJ
theorem pK.beq {k:Nat} {x:XC} (h:pK K k x vs):eM (.agg vs) (.agg vs)=true:=by
 obtain⟨v,rfl,hk⟩:=h;exact dI<|ba (cV _ _)<|ba hk.dV dJ
theorem dH {l:List α} {i:Nat} (h:cM (.ofNat i) (.ofNat l.length)=true):∃x,l[i]? =some x/\i<l.length:=by
 rw[eU,decide_eq_true_iff] at h
 simp_all
end Go.Ev
namespace Go.Ev
variable [Env]
def g9 (n:Int) (vs:List U):Prop:=vs= [.int .i64 n]
def RL {α:Type} (K:KP) (m:Nat) (R:α->List U->Prop) (l:List α) (vs:List U):Prop:=∃v,vs= [v]/\bS K m R l v
end Go.Ev
namespace Go.Ev
variable [Env]
variable {cb:List Int} {x y:q_}
def Gv (xs ys:List Int):Bool:=
 List.rec (motive:=fun _=>List Int->Bool) (fun ys=>List.rec (motive:=fun _=>Bool) true (fun _ _ _=>false) ys)
  (fun x _ ih ys=>List.rec (motive:=fun _=>Bool) false (fun y r _=>bif N x y then ih r else false) ys) xs ys
theorem H2:∀(xs ys:List Int),Gv xs ys=cL xs ys
 | [],[]=>by rw[show Gv [] []=true from Z,eq_comm,dF]
 | [],_::_=>by rw[show Gv [] (_::_)=false from Z,eq_comm,nA];simp
 | _::_,[]=>by rw[show Gv (_::_) []=false from Z,eq_comm,nA];simp
 | x::xs,y::ys=>by
  show(bif N x y then Gv xs ys else false)=_;rw[H2 xs ys,eB,zd_,dF]
  grind [dF]
def ints (xs:List Int):List U:=xs.map (.int .i64)
def Mj:Option TypeDesc->Bool
 | some (.int .i64)=>true
 | _=>false
def vY (P:q6) (fs:List Field):Nat->Bool:=List.rec (motive:=fun _=>Nat->Bool) (fun _=>true) (fun f _ ih k=>Mj (P.underlying f.type) && (Nat.beq f.offset k && ih (k+1))) fs
def kj (P:q6) (t:y_) (n:Nat):Bool:=
 match structOf P t with
 | some fs=>vY P fs.toList 0 && (Nat.beq fs.toList.length n && (!P.eqGuardType P.depth t && (!P.stoodInHeld t && mI fs.toList)))
 | none=>false
theorem s7 {P:q6}:∀(fs:List Field) (k:Nat) (xs ys:List Int),vY P fs k=true->xs.length=k+fs.length->ys.length=k+fs.length->eqFields P fs (ints xs) (ints ys)=some (Gv (xs.drop k)<|ys.drop k)
 | [],k,xs,ys,_,h1,d=>by
  rw[drop_eq_nil_of_le (by simp at h1;omega),drop_eq_nil_of_le (by simp at d;omega)];rfl
 | f::fs,k,xs,ys,h,h1,d=>by
  have h':(Mj (P.underlying f.type) && (Nat.beq f.offset k && vY P fs (k+1)))=true:=h;simp only[bA_] at h';obtain⟨e1,u,w⟩:=h';have hk:f.offset=k:=nB u
  have hu:P.underlying f.type=some (.int .i64):=by
   grind [Mj]
  have l1:k<xs.length:=by simp at h1;omega
  have l2:k<ys.length:=by simp at d;omega
  have n1:nth (ints xs) f.offset=some (.int .i64 xs[k]):=by grind [fN,ints]
  have z:nth (ints ys) f.offset=some (.int .i64 ys[k]):=by grind [fN,ints]
  have ih:=s7 fs (k+1) xs ys w (by simp at h1⊢;omega) (by simp at d⊢;omega)
  show(match P.underlying f.type,nth (ints xs) f.offset,nth (ints ys) f.offset with
   | some .bool,some (.bool a),some (.bool b)=>bif (bif a then b else(bif b then false else true)) then eqFields P fs (ints xs) (ints ys) else some false
   | some (.int _),some (.int j a),some (.int k b)=>bif uH j k then(bif N a b then eqFields P fs (ints xs) (ints ys) else some false) else none
   | some .string,some (.str a),some (.str b)=>bif wS a b then eqFields P fs (ints xs) (ints ys) else some false
   | some (.struct gs),_,_=>_
   | some (.array m e),_,_=>_
   | _,_,_=>none)=_
  rw[hu,n1,z,zj_ l1,zj_ l2,ih];show(bif N xs[k] ys[k] then _ else some false)=some (bif N xs[k] ys[k] then Gv (xs.drop (k+1)) (ys.drop (k+1)) else false)
  grind
theorem uG {P:q6} {t:y_} {n:Nat} {xs ys:List Int} (h:kj P t n=true) (hx:xs.length=n) (hy:ys.length=n):Gu P t (.agg<|ints xs) (.agg<|ints ys)=some (cL xs ys):=by
 unfold kj at h;split at h
 ·rename_i fs d;simp only[bA_,Bool.not_eq_true'] at h;obtain⟨h1,u,h3,h4,h5⟩:=h;have hn:fs.toList.length=n:=nB u;unfold Gu;dsimp only;rw[d];dsimp only;rw[h3,h4,h5];simp only[Bool.not_true,Bool.or_false,cond_false];rw[s7 fs.toList 0 xs ys h1 oM oM,drop_zero,drop_zero,H2]
 cases h
section
variable {P:q6} {G:Cx} {ev:q_->Option U} {V:aF}
theorem Ad {t r:y_} {n:Nat} {ca:List Int} (h:kj P t n=true) (d:ca.length=n) (hb:cb.length=n) (hx:ev x=some (.agg<|ints ca)) (u:ev y=some (.agg<|ints cb)):dX P G ev V (.binOp .eql t x y r)= .val (.bool<|cL ca cb) V:=by
 refine ay hx u ?_;show nR P .eql t _ _=_;unfold nR;dsimp only;rw[uG h d hb]
theorem Ou {t r:y_} {n:Nat} {ca:List Int} (h:kj P t n=true) (d:ca.length=n) (hb:cb.length=n) (hx:ev x=some (.agg<|ints ca)) (u:ev y=some (.agg<|ints cb)):dX P G ev V (.binOp .neq t x y r)= .val (.bool (bif cL ca cb then false else true)) V:=by
 refine ay hx u ?_;show nR P .neq t _ _=_;unfold nR;dsimp only;rw[uG h d hb]
end
structure cD where
 br:Int
 index:Int
structure cz where
 kind:Int
 loc:Int
 order:Int
 read:Int
 write:Int
structure XG where
 init:List Int
 threads:List (List cz)
 from_:List (List cD)
 order:List (List cD)
def cD.ints (x:cD):List Int:=[x.br,x.index]
def cz.ints (x:cz):List Int:=[x.kind,x.loc,x.order,x.read,x.write]
theorem cD.same {x y:cD}:cL x.ints y.ints=cL x y:=by
 rw[zd_,dF,dF];cases x;cases y;simp[cD.ints]
theorem cz.same {x y:cz}:cL x.ints y.ints=cL x y:=by
 rw[zd_,dF,dF];cases x;cases y;simp[cz.ints]
def jm (x:cD) (vs:List U):Prop:=vs=ints x.ints
def jl (x:cz) (vs:List U):Prop:=vs=ints x.ints
structure gG (K:KP) (g:XG) (a b c d:U):Prop where
 init:bS K 1 g9 g.init a
 threads:bS K 1 (RL K 5 jl) g.threads b
 from_:bS K 1 (RL K 2 jm) g.from_ c
 order:bS K 1 (RL K 2 jm) g.order d
end Go.Ev
namespace Go.Ev
variable [Env] {ix th:Int} {e j:Nat}
def cC (e:cz):Bool:=bif N e.kind 1 then true else N e.kind 3
def bl (e:cz):Bool:=bif N e.kind 2 then true else N e.kind 3
def bC (b:Bool):Bool:=bif b then false else true
def bD (e:cz) (n:Int):Bool:=
 bif cM e.kind 1 then false else bif cM 4 e.kind then false else bif cM e.order 1 then false else bif cM 6 e.order then false else
 bif (bif (!cC e) then bC (N e.read 0) else false) then false else bif (bif (!bl e) then bC (N e.write 0) else false) then false else
 bif N e.kind 4 then N e.loc 0 else bif bC (cM e.loc 0) then cM e.loc n else false
def cX (g:XG) (id:cD):Option cz:=
 match id.br,id.index with
 | .ofNat 0,.ofNat i=>(g.init[i]?).map fun v=>⟨2,i,1,0,v⟩
 | .ofNat (t+1),.ofNat i=>(g.threads[t]?).bind (·[i]?)
 | _,_=>none
def iE (x:Option cz):cz:=x.getD ⟨0,0,0,0,0⟩
theorem vV {g:XG} (h:cM th 0=true):cX g ⟨th,ix⟩=none:=by
 rw[eU,decide_eq_true_iff] at h;cases th with
 | ofNat t=>grind
 | negSucc t=>rfl
theorem rZ {g:XG} (h:cM ix 0=true):cX g ⟨th,ix⟩=none:=by
 rw[eU,decide_eq_true_iff] at h;cases ix with
 | ofNat t=>grind
 | negSucc t=>cases th with
  | ofNat n=>cases n<;>rfl
  | negSucc n=>rfl
theorem Eg {g:XG} (h:cM (.ofNat g.threads.length) th=true):cX g ⟨th,ix⟩=none:=by
 rw[eU,decide_eq_true_iff] at h;cases th with
 | negSucc t=>rfl
 | ofNat t=>
  have h:g.threads.length<t:=Int.ofNat_lt.1 h;cases t with
  | zero=>omega
  | succ t=>
   cases ix with
   | negSucc n=>rfl
   | ofNat n=>
    show(g.threads[t]?).bind _=none
    grind
theorem ij {n:Int} (h:cM n 0=false):∃m:Nat,n= .ofNat m:=by
 rw[eU,decide_eq_false_iff_not] at h;cases n with
 | ofNat m=>exact⟨m,Z⟩
 | negSucc m=>omega
theorem IT {n:Nat} (h:N (.ofNat n) 0=false):∃m:Nat,n=m+1:=by
 cases n with
 | zero=>cases h
 | succ m=>exact⟨m,Z⟩
theorem fx {t:Nat} (h:t<=9223372036854775807):wr .i64 (Int.sub (.ofNat (t+1)) 1)= .ofNat t:=by
 have e:Int.sub (.ofNat (t+1)) 1= .ofNat t:=by
  grind
 rw[e];show(bif ble t 9223372036854775807 then _ else _)=_
 grind [nE_]
theorem pd {a b:Nat} (h:cM (.ofNat a) (.ofNat b)=false):b<=a:=bJ h
theorem pf {a b:Nat} (h:(bif cM (.ofNat a) (.ofNat b) then false else true)=false):a<b:=bd (bT h)
theorem oZ {a b:Nat} (h:(bif cM (.ofNat a) (.ofNat b) then false else true)=true):b<=a:=bJ (de h)
section
variable {P:q6} {G:Cx} {n:Nat} {t:PT U} {V:aF} {Q:Ex->PT U->aF->Prop}
theorem Da {fn:Func} {k ty b m:Nat} {ro:Bool} {cells:List U} {v:U} (hr:fn.results.toList= [.cell j ty,.tmp k]) (h1:t.get j=some (.ptr b 0)) (hm:V.m.get b=some (.row cells e ro)) (d:eo P ty=some (some m)) (hn:cells.length=m) (u:t.get k=some v):fO P fn t V=some (.tuple [.agg cells,v]):=by
 unfold fO;rw[hr]
 have e1:il P t V (.cell j ty)=some (U.agg cells):=by
  show(match t.get (posOf j) with
   | some (.ptr b off)=>match V.m.get b with
    | some (.row cells _ _)=>match eo P ty with
     | some (some n)=>bif ble (off+n) (dK cells) then some (U.agg<|takeN (eP cells off) n) else none
     | some none=>nth cells off
     | none=>none
    | _=>none
   | _=>none)=_
  rw[show t.get (posOf j)=some (.ptr b 0) from h1];dsimp only;rw[hm];dsimp only;rw[d];dsimp only;rw[cH,hn,nA_,show ble m m=true by simp_all,ed,eR,drop_zero,<-hn,take_length];rfl
 have w:il P t V (.tmp k)=some v:=u
 have:dv (il P t V) [.cell j ty,.tmp k]=some [U.agg cells,v]:=by
  unfold dv;simp only[e1,w]
 rw[this]
theorem cq {fn:Func} {R:U->aF->Prop} {k ty b m:Nat} {ro:Bool} {cells:List U} {v:U} (hr:fn.results.toList= [.cell j ty,.tmp k]) (h1:t.get j=some (.ptr b 0)) (hm:V.m.get b=some (.row cells e ro)) (d:eo P ty=some (some m)) (hn:cells.length=m) (u:t.get k=some v) (w:R (.tuple [.agg cells,v]) V):Ee P fn R .ret t V:=
 ⟨.inr Z,_,Da hr h1 hm d hn u,w⟩
end
end Go.Ev
namespace Go.Ev
variable [Env]
def db (g:XG) (id from_:cD):Bool:=
 bif !cC (iE<|cX g id) then cL [from_.br,from_.index] [0,0] else
 bif (cX g from_).isSome then
  bif (bif cL [from_.br,from_.index] [id.br,id.index] then false else true) then
   bif bl (iE<|cX g from_) then
    bif N (iE<|cX g from_).loc (iE<|cX g id).loc then N (iE<|cX g from_).write (iE<|cX g id).read else false
   else false
  else false
 else false
def fw (g:XG):Bool:=bif cM 4 (.ofNat g.threads.length) then true else bif cM 6 (.ofNat g.init.length) then true else g.threads.any fun l=>cM 14 (.ofNat l.length)
end Go.Ev
namespace Go.Ev
variable [Env] {fs:Array Field} {es:List eW} {ck kn:Nat} {ko mo xo:q_} {et kt:y_}
abbrev LM:=List (List Int×Int)
inductive fQ (n:Nat):List eW->LM->Prop
 | nil:fQ n [] []
 | cons {e:eW} {k:List Int} {v:Int} {es:List eW} {m:LM}:k.length=n->e.key= .agg (ints k)->e.val= .int .i64 v->fQ n es m->fQ n (e::es) ((k,v)::m)
def q7:LM->List Int->Nat->Option (Nat×Int)
 | [],_,_=>none
 | (k',v)::m,k,i=>bif cL k k' then some (i,v) else q7 m k (i+1)
def gy (m:LM) (k:List Int):Option Int:=(q7 m k 0).map (·.2)
def q8 (m:LM) (k:List Int) (v:Int):LM:=
 match q7 m k 0 with
 | some (i,_)=>m.set i (k,v)
 | none=>m++[(k,v)]
def mm (m:LM) (k:List Int):LM:=
 match q7 m k 0 with
 | some (i,_)=>m.eraseIdx i
 | none=>m
theorem fQ.length {n:Nat} {es:List eW} {m:LM} (h:fQ n es m):es.length=m.length:=by
 induction h with
 | nil=>rfl
 | cons _ _ _ _ ih=>simp[ih]
theorem fQ.set {n:Nat} {es:List eW} {m:LM} (h:fQ n es m) {e:eW} {k:List Int} {v:Int} (h1:k.length=n) (u:e.key= .agg (ints k)) (h3:e.val= .int .i64 v):∀i,fQ n (es.set i e) (m.set i (k,v)):=by
 induction h with
 | nil=>intro i;exact .nil
 | cons a b c d ih=>
  intro i;cases i with
  | zero=>exact .cons h1 u h3 d
  | succ i=>exact .cons a b c (ih i)
theorem fQ.snoc {n:Nat} {m:LM} (h:fQ n es m) {e:eW} {k:List Int} {v:Int} (h1:k.length=n) (u:e.key= .agg (ints k)) (h3:e.val= .int .i64 v):fQ n (es++[e]) (m++[(k,v)]):=by
 induction h with
 | nil=>exact .cons h1 u h3 .nil
 | cons a b c d ih=>exact .cons a b c ih
theorem fQ.erase {n:Nat} {m:LM} (h:fQ n es m):∀i,fQ n (es.eraseIdx i) (m.eraseIdx i):=by
 induction h with
 | nil=>intro i;exact .nil
 | cons a b c d ih=>
  intro i;cases i with
  | zero=>exact d
  | succ i=>exact .cons a b c (ih i)
theorem fQ.at {n:Nat} {m:LM} (h:fQ n es m):∀{i:Nat} {k:List Int} {v:Int},m[i]? =some (k,v)->∃e,es[i]? =some e/\k.length=n/\e.key= .agg (ints k):=by
 induction h with
 | nil=>simp_all
 | cons a b c d ih=>
  grind
theorem yr:∀(es:List eW) (i:Nat),yq es i=es.eraseIdx i
 | [],_=>rfl
 | _::_,0=>rfl
 | e::es,i+1=>by
  show e::yq es i=e::es.eraseIdx i;rw[yr es i]
theorem sj:∀{m:LM} {k:List Int} {i j:Nat} {v:Int},q7 m k i=some (j,v)->i<=j/\m[j-i]? =some (k,v)
 | [],k,i,j,v,h=>by cases h
 | (k',v')::m,k,i,j,v,h=>by
  have h':(bif cL k k' then some (i,v') else q7 m k (i+1))=some (j,v):=h;cases d:cL k k' with
  | true=>
   grind [dF]
  | false=>
   rw[d] at h';obtain⟨h1,h2⟩:=sj h'
   grind
theorem ox:∀(xs:List Int),mU (ints xs) (ints xs)=true
 | []=>rfl
 | x::xs=>by
  have e:m9 (.int .i64 x) (.int .i64 x)=some true:=by
   show(bif uH .i64 .i64 then some (N x x) else none)=some true;rw[eB];simp[uH]
  show(match m9 (.int .i64 x) (.int .i64 x) with | some true=>mU (ints xs) (ints xs) | _=>false)=true;rw[e];exact ox xs
section
variable {P:q6}
theorem yJ {t:y_} {n:Nat} (hu:P.underlying t=some (.struct fs)) (u:kj P t n=true) {k:List Int} (hk:k.length=n) {m:LM} (h:fQ n es m):∀i,nX P t (.agg<|ints k) es i=some ((q7 m k i).map fun x=>(x.1,.int .i64 x.2)):=by
 induction h with
 | nil=>intro i;rfl
 | @cons e k' v es m a b c d ih=>
  intro i
  have hq:lf P t (.agg<|ints k) e.key=some (cL k k'):=by
   unfold lf;rw[hu,b];exact uG u hk a
  show(match lf P t (.agg<|ints k) e.key with
   | some true=>some (some (i,e.val))
   | some false=>nX P t (.agg<|ints k) es (i+1)
   | none=>none)=some (Option.map _ (bif cL k k' then some (i,v) else q7 m k (i+1)))
  grind
structure F3 (P:q6) (t kt et:y_) (n:Nat):Prop where
 ty:P.underlying t=some (.map kt et)
 plain:plainKey P kt=true
 ints:kj P kt n=true
 zero:fH P et=some (.int .i64 0)
 shape:∀k:List Int,k.length=n->jv P kt (.agg<|Go.Ev.ints k)=true
theorem jC {t:y_} {n:Nat} (h:kj P t n=true):∃fs,P.underlying t=some (.struct fs):=by
 grind [kj,structOf,pH]
variable {G:Cx} {ev:q_->Option U} {V:aF}
theorem Ot {t:y_} {n:Nat} (hT:F3 P t kt et n) {b:Nat} {m:LM} (hm:fQ n es m) (hb:V.m.get b=some (.map es ck)) {k:List Int} {v:Int} (hk:k.length=n) (h1:ev mo=some (.map b)) (u:ev ko=some (.agg<|ints k)) (h3:ev xo=some (.int .i64 v)):
  ∃es' ck',dX P G ev V (.mapUpdate t mo ko xo)= .skip (V.setObj b (.map es' ck'))/\fQ n es' (q8 m k v):=by
 obtain⟨fs,hu⟩:=jC hT.ints;have hf:=yJ hu hT.ints hk hm 0
 have key:∃es' ck',lN P V t (.map b) (.agg<|ints k) (.int .i64 v)=some (V.setObj b (.map es' ck'))/\fQ n es' (q8 m k v):=by
  unfold lN q8;rw[hT.ty];dsimp only;rw[hb];dsimp only;rw[hT.plain,hT.shape k hk];simp only[Bool.and_self,cond_true];rw[hf];cases hl:q7 m k 0 with
  | none=>exact⟨_,_,Z,by rw[eD];exact hm.snoc hk Z Z⟩
  | some x=>
   obtain⟨i,v0⟩:=x;have hi:=(sj hl).2;rw[Nat.sub_zero] at hi;obtain⟨e,he,_,d⟩:=hm.at hi;simp only[map_some];rw[fN,he];dsimp only;have w:sameKey e.key (.agg<|ints k)=true:=by rw[d];exact ox k
   rw[w];exact⟨_,_,Z,by unfold wv;rw[sF];exact hm.set (e:={key:=.agg<|ints k,val:=.int .i64 v,born:=e.born}) hk Z Z i⟩
 obtain⟨es',ck',h4,h5⟩:=key;refine⟨es',ck',jD Z ?_,h5⟩;simp only[gh,h1,u,h3,h4]
theorem Oq {t:y_} {n:Nat} (hT:F3 P t kt et n) {b:Nat} {m:LM} (hm:fQ n es m) (hb:V.m.get b=some (.map es ck)) {k:List Int} (hk:k.length=n) (h1:ev mo=some (.map b)) (d:ev ko=some (.agg<|ints k)):
  dX P G ev V (.lookup t mo ko true)= .val (.tuple [.int .i64 ((gy m k).getD 0),.bool (gy m k).isSome]) V:=by
 obtain⟨fs,hu⟩:=jC hT.ints;have hf:=yJ hu hT.ints hk hm 0;refine wB Z ?_;simp only[ie,hT.ty,d,h1,hb,hT.plain,hT.shape k hk,Bool.and_self,cond_true,hf,hT.zero];unfold gy;cases q7 m k 0 with
 | none=>rfl
 | some x=>rfl
theorem Om {c:Call} {t:y_} {n:Nat} (hT:F3 P t kt et n) {b:Nat} {m:LM} (hm:fQ n es m) (hb:V.m.get b=some (.map es ck)) {k:List Int} (hk:k.length=n) (d:c.callee= .builtin .delete) (u:c.argTypes[0]? =some t) (w:c.args.toList= [mo,ko]) (h1:ev mo=some (.map b)) (z:ev ko=some (.agg<|ints k)):
  ∃es',dX P G ev V (.call c)= .val (.tuple []) (V.setObj b (.map es' ck))/\fQ n es' (mm m k):=by
 obtain⟨fs,hu⟩:=jC hT.ints;have hf:=yJ hu hT.ints hk hm 0
 have key:∃es',rY P V c.argTypes (.map b) (.agg<|ints k)=some (V.setObj b (.map es' ck))/\fQ n es' (mm m k):=by
  unfold rY mm;rw[u];dsimp only;rw[hT.ty];dsimp only;rw[hb];dsimp only;rw[hT.plain,hT.shape k hk];simp only[Bool.and_self,cond_true];rw[hf];cases hl:q7 m k 0 with
  | none=>grind
  | some x=>
   obtain⟨i,v0⟩:=x;exact⟨_,Z,by rw[yr];exact hm.erase i⟩
 obtain⟨es',h4,h5⟩:=key;refine⟨es',jD (by simp[kindOf,d]) ?_,h5⟩
 have he:ju ev [mo,ko]=some [.map b,.agg<|ints k]:=by
  unfold ju dv;simp only[h1,z]
 simp only[gh,d,w,he,h4]
theorem Oo {c:Call} {t:y_} {n:Nat} (hT:F3 P t kt et n) {b:Nat} {m:LM} (hm:fQ n es m) (hb:V.m.get b=some (.map es ck)) (d:c.callee= .builtin .len) (u:c.argTypes[0]? =some t) (w:c.args.toList= [mo]) (h1:ev mo=some (.map b)):
  dX P G ev V (.call c)= .val (.int .i64 (.ofNat m.length)) V:=by
 refine wB (by simp[kindOf,d,isMap,u,hT.ty]) ?_;simp only[ie,d,u,w,hT.ty,h1,hb,cH,hm.length]
end
section
variable {P:q6} {G:Cx} {n:Nat} {t:PT U} {V:aF} {K:KP} {L:Own} {Q:Ex->PT U->aF->Prop} {ops:Array z_} {o:z_} {l:List z_}
theorem MM (d:F V K L) {t':Nat->PT U} (hw:bK ops t o=some true) (hv:dX P G (bz G t) V o.op= .val (.map V.next) (V.alloc (.map [] 0))) (hp:∀b,dG t n o.dst (.map b)=some (t' b))
  (h:∀(V':aF) (b:Nat),F V' K ((b,.map [] 0)::L)->bP P G ops n l (t' b) V' Q):bP P G ops n (o::l) t V Q:=
 I hw hv (hp _) (h _ _<|d.alloc _)
theorem B6 {ev:q_->Option U} {ty:y_}:dX P G ev V (.makeMap ty none)= .val (.map V.next) (V.alloc (.map [] 0)):=by
 exact sK (op:=.makeMap ty none) (mk:=.map) (ob:=.map [] 0) Z Z
theorem JY {ty:y_} (hT:F3 P ty kt et kn) {b:Nat} {m:LM} {x:Nat×cU} (hm:fQ kn es m) (d:F V K (x::(b,.map es ck)::L)) {k:List Int} {v:Int} {t':PT U} (hk:k.length=kn) (hw:bK ops t o=some true) (u:o.op= .mapUpdate ty mo ko xo)
  (h1:bz G t mo=some (.map b)) (w:bz G t ko=some (.agg<|ints k)) (h3:bz G t xo=some (.int .i64 v)) (hp:dG t n o.dst unit=some t')
  (h:∀V' es' ck',F V' K (x::(b,.map es' ck')::L)->fQ kn es' (q8 m k v)->bP P G ops n l t' V' Q):bP P G ops n (o::l) t V Q:=by
 obtain⟨es',ck',e1,z⟩:=Ot (G:=G) hT hm (d.get 1 Z) hk h1 w h3;exact jF hw (by rw[u];exact e1) hp<|h _ _ _ (d.Qv _) z
theorem JX {c:Call} {ty:y_} (hT:F3 P ty kt et kn) {b:Nat} {m:LM} {x:Nat×cU} (hm:fQ kn es m) (d:F V K (x::(b,.map es ck)::L)) {k:List Int} {t':PT U} (hk:k.length=kn) (hw:bK ops t o=some true) (u:o.op= .call c)
  (w:c.callee= .builtin .delete) (z:c.argTypes[0]? =some ty) (A:c.args.toList= [mo,ko]) (h1:bz G t mo=some (.map b)) (B:bz G t ko=some (.agg<|ints k)) (hp:dG t n o.dst (.tuple [])=some t')
  (h:∀V' es',F V' K (x::(b,.map es' ck)::L)->fQ kn es' (mm m k)->bP P G ops n l t' V' Q):bP P G ops n (o::l) t V Q:=by
 obtain⟨es',e1,C⟩:=Om (G:=G) hT hm (d.get 1 Z) hk w z A h1 B;exact I hw (by rw[u];exact e1) hp<|h _ _ (d.Qv _) C
end
end Go.Ev
namespace Go.Ev
variable [Env] {α:Type}
def zc (t:Nat) (m:LM) (n:Nat) (e:cz):LM:=bif bl e then q8 m [.ofNat (t+1),.ofNat n] e.loc else m
def sS (t:Nat):List cz->Nat->LM->LM
 | [],_,m=>m
 | e::l,n,m=>sS t l (n+1) (zc t m n e)
def qy:List (List cz)->Nat->LM->LM
 | [],_,m=>m
 | l::r,t,m=>qy r (t+1) (sS t l 0 m)
def mB (loc:Nat):List cD->LM->Option LM
 | [],m=>some m
 | id::l,m=>bif (gy m id.ints).isSome then(bif N ((gy m id.ints).getD 0) (.ofNat loc) then mB loc l (mm m id.ints) else none) else none
def oz:List (List cD)->Nat->LM->Option LM
 | [],_,m=>some m
 | l::r,loc,m=>(mB loc l m).bind (oz r (loc+1))
def fy (g:XG):Bool:=
 match oz g.order 0 (qy g.threads 0 []) with
 | some m=>N (.ofNat m.length) 0
 | none=>false
theorem cN {l:List α} {i:Nat} {x:α} (h:l[i]? =some x):l.drop i=x::l.drop (i+1):=by
 grind [zj_]
theorem ff {l:List α} {i:Nat} (h:l.length<=i):l.drop i= []:=drop_eq_nil_of_le h
end Go.Ev
namespace Go.Ev
theorem kJ {b:Bool} (h:(!b)=true):b=false:=by cases b<;>simp_all
theorem ft {b:Bool} (h:(!b)=false):b=true:=by cases b<;>simp_all
end Go.Ev
namespace Go.Ev
variable [Env]
def ey {α:Type} (p:α->Bool):List α->Nat->Int
 | [],_=>-1
 | x::r,i=>bif p x then .ofNat i else ey p r (i+1)
theorem EB {α:Type} {p:α->Bool}:∀(l:List α) (i:Nat),(bif cM (ey p l i) 0 then false else true)=l.any p
 | [],_=>rfl
 | x::r,i=>by
  show(bif cM (bif p x then .ofNat i else ey p r (i+1)) 0 then false else true)=_;rw[List.any_cons];cases p x with
  | true=>rfl
  | false=>exact EB r (i+1)
def uW (g:XG) (t n:Nat) (e:cz) (f:cD):Bool:=bif bD e (.ofNat g.init.length) then db g ⟨.ofNat (t+1),.ofNat n⟩ f else false
def rD (g:XG) (t:Nat):List cz->List cD->Nat->Bool
 | e::l,f::q,n=>bif uW g t n e f then rD g t l q (n+1) else false
 | [],_,_=>true
 | _::_,[],_=>false
def mr (g:XG):List (List cz)->List (List cD)->Nat->Bool
 | l::r,f::q,t=>bif N (.ofNat f.length) (.ofNat l.length) then(bif rD g t l f 0 then mr g r q (t+1) else false) else false
 | [],_,_=>true
 | _::_,[],_=>false
def cY (g:XG):Int:=
 bif fw g then 3 else bif N (.ofNat g.from_.length) (.ofNat g.threads.length) then(bif N (.ofNat g.order.length) (.ofNat g.init.length) then(bif mr g g.threads g.from_ 0 then(bif fy g then 0 else 2) else 2) else 2) else 2
end Go.Ev
namespace Go.Ev
variable [Env] {α:Type} {ts:Array y_} {cl:Call} {gd:List U} {e e1 len1:Nat} {so xo:q_} {R:α->List U->Prop}
theorem z2:∀(l:List U) (off:Nat),dy [] l off=l
 | [],_=>rfl
 | x::l,0=>rfl
 | x::l,off+1=>by
  show x::dy [] l off=x::l;rw[z2 l off]
def sP (P:q6) (e:y_) (m:Nat):Bool:=
 match P.info? e with
 | some j=>Nat.beq j.size m && (ble 1 j.size && (ble j.bytes 65536 && ((j.zero.bind ra).any fun z=>(dg z).any fun cs=>Nat.beq (dK cs) j.size)))
 | none=>false
theorem qF:∀(l r:List U),cF l=true->cF r=true->cF (l++r)=true
 | [],r,_,h=>h
 | v::l,r,h,h'=>by
  have h1:(bif ml v then cF l else false)=true:=h;cases hv:ml v with
  | false=>rw[hv] at h1;cases h1
  | true=>rw[hv] at h1;exact ah hv<|qF l r h1 h'
theorem w7 {m:Nat}:∀(n:Nat) (cells:List U),cells.length=n*m->(∀i,i<n->cF ((cells.drop (i*m)).take m)=true)->cF cells=true
 | 0,cells,h,_=>by
  rw[zero_mul] at h;rw[eN_ h];rfl
 | n+1,cells,h,hh=>by
  have e:cells=cells.take m++cells.drop m:=(List.take_append_drop m cells).symm;rw[succ_mul] at h;rw[e];refine qF _ _ (by have:=hh 0 oM;grind) (w7 (m:=m) n (cells.drop m) (by grind) fun i hi=>?_)
  grind [succ_mul,zl_]
section
variable {P:q6} {G:Cx} {V:aF} {K:KP} {L:Own}
theorem pC {m:Nat} {l:List α} {v:U} (O:F V K L) (h:bS K m R l v) (d:∀x vs,R x vs->cF vs=true):
  ∃news,kO V m v=some (l.length,news)/\news.length=l.length*m/\cF news=true/\∀(i:Nat) (x:α),l[i]? =some x->R x ((news.drop (i*m)).take m):=by
 rcases h with ⟨rfl,rfl⟩ | ⟨b,off,c,cells,e,ro,rfl,h2,h3,h4,h5,h6⟩
 ·exact⟨[],Z,(zero_mul m).symm,Z,fun i x hx=>by simp at hx⟩
 have w:∀(i:Nat) (x:α),l[i]? =some x->R x ((((cells.drop off).take (l.length*m)).drop (i*m)).take m):=fun i x hx=>by
  have u:i<l.length:=(gA.1 hx).1;have hle:(i+1)*m<=l.length*m:=nM_ _ u
  grind [drop_take,zl_]
 have hn:((cells.drop off).take (l.length*m)).length=l.length*m:=by grind
 refine⟨(cells.drop off).take (l.length*m),?_,hn,w7 l.length _ hn fun i hi=>d _ _ (w i l[i]<|gC hi),w⟩;unfold kO;dsimp only;rw[O.bY h3]
 grind [cH,nE_,ed,eR]
theorem Ab {m:Nat} {l2:List α} {X:U} {b:Nat} {c:ou} {t:y_} (C:F V K ((b,.row gd e1 false)::L)) (hx:bS K m R l2 X) (A:∀x vs,R x vs->cF vs=true) (hn:l2.length<=1048576)
  (B:gd.length=len1*m) (aa:len1<=1048576) (E:c= .known len1∨(c= .upto m/\e1=e)) (ht:ts[0]? =some t) (hu:P.underlying t=some (.slice e)) (M:sP P e m=true) (h2:dW P ts[1]? =true):
  ∃V' b' c' news e',gu P V ts (.slice b 0 len1 c) X= .val (.slice b' 0 (len1+l2.length) c') V'/\F V' K ((b',.row (gd++news) e' false)::L)/\news.length=l2.length*m/\(∀(i:Nat) (x:α),l2[i]? =some x->R x ((news.drop (i*m)).take m))/\(c'= .known (len1+l2.length)∨(c'= .upto m/\e'=e)):=by
 obtain⟨news,s1,W,s3,T⟩:=pC C hx A;unfold sP at M;split at M
 ·rename_i j hj;simp only[bA_] at M;obtain⟨a1,a2,a3,a4⟩:=M;have hm:j.size=m:=nB a1;subst hm;have hz:((P.info? e).any fun j=>(j.zero.bind ra).any fun z=>(dg z).any fun cs=>Nat.beq (dK cs) j.size)=true:=by rw[hj];exact a4
  have hb:=C.get 0 Z;unfold gu;rw[ht];dsimp only;rw[hu];dsimp only;rw[hj];dsimp only;rw[h2,a2,a3];simp only[Bool.and_self,cond_true];rw[s1];dsimp only;rw[hj] at hz;rw[s3,show ble l2.length 1048576=true by simp_all,hz];simp only[Bool.and_self,cond_true];have hle:ble (0+len1*j.size) (dK gd)=true:=by rw[nE_,cH,B];omega
  have u:takeN (eP gd 0) (len1*j.size)=gd:=by grind [ed,eR]
  have w:ble len1 1048576=true:=by simp_all
  rcases E with rfl | ⟨rfl,rfl⟩
  ·dsimp only
   by_cases h0:l2.length=0
   ·have d:news= []:=eN_ (by simp_all);subst d;rw[h0,show ble (len1+0) len1=true by simp_all];simp only[cond_true];rw[hb];dsimp only;rw[show ble (0+len1*j.size+dK []) (dK gd)=true by rw[nE_,cH,cH,B];simp];simp only[cond_true];refine⟨_,b,.known len1,[],e1,Z,?_,by simp,T,.inl Z⟩;rw[z2,zk_];exact C.vq _
   have:ble (len1+l2.length) len1=false:=by
    grind [nE_]
   rw[this];simp only[cond_false];rw[hb];dsimp only;rw[hle,w,u,eD];simp only[Bool.and_self,cond_true];refine⟨_,_,_,news,e,Z,?_,W,T,.inr ⟨Z,Z⟩⟩;exact((C.alloc _).perm<|List.Perm.swap ..).pop
  dsimp only
  by_cases h0:l2.length=0
  ·have d:news= []:=eN_ (by simp_all);subst d;rw[h0];exact⟨_,b,.upto j.size,[],e1,Z,by simp_all,by simp,T,.inr ⟨Z,Z⟩⟩
  have:Nat.beq l2.length 0=false:=by
   grind [nB]
  rw[this,beq_refl,w];simp only[Bool.and_self,cond_true,cond_false];rw[hb];dsimp only
  have S:ble (0+len1*j.size+dK news) (dK gd)=false:=by
   cases hh:ble (0+len1*j.size+dK news) (dK gd) with
   | false=>rfl
   | true=>
    rw[nE_,cH,cH,B,W] at hh;have h1:1<=j.size:=by simp_all
    have:1<=l2.length*j.size:=Nat.mul_pos oM h1;omega
  rw[S,Bool.and_false];simp only[cond_false];rw[hle,beq_refl,u,eD];simp only[Bool.and_self,cond_true];exact⟨_,_,_,news,e1,Z,C.zT _,W,T,.inr ⟨Z,Z⟩⟩
 cases M
end
section
variable {P:q6} {G:Cx} {n:Nat} {t:PT U} {V:aF} {K:KP} {L:Own} {Q:Ex->PT U->aF->Prop} {ops:Array z_} {o:z_} {l:List z_}
theorem fF {ev:q_->Option U} {s x:U} {r:HR} (u:cl.callee= .builtin .append) (w:cl.args.toList= [so,xo]) (h1:ev so=some s) (z:ev xo=some x) (d:dW P cl.argTypes[1]? =true) (h:gu P V cl.argTypes s x=r):dX P G ev V (.call cl)=r:=by
 refine jD (by simp[kindOf,u]) ?_
 have he:ju ev [so,xo]=some [s,x]:=by
  unfold ju dv;simp only[h1,z]
 simp only[gh,u,w,he,d,cond_true];exact h
theorem pg {m:Nat} {l2:List α} {M:U} {b:Nat} {c:ou} {ty:y_} {t':U->PT U} (T:F V K ((b,.row gd e1 false)::L)) (hx:bS K m R l2 M) (d:∀x vs,R x vs->cF vs=true) (hn:l2.length<=1048576)
  (z:gd.length=len1*m) (A:len1<=1048576) (w:c= .known len1∨(c= .upto m/\e1=e)) (hw:bK ops t o=some true) (W:o.op= .call cl) (B:cl.callee= .builtin .append) (u:cl.args.toList= [so,xo]) (X:cl.argTypes[0]? =some ty) (hu:P.underlying ty=some (.slice e)) (ha:sP P e m=true) (S:dW P cl.argTypes[1]? =true)
  (C:bz G t so=some (.slice b 0 len1 c)) (E:bz G t xo=some M) (hp:∀v,dG t n o.dst v=some (t' v))
  (h:∀(V':aF) (b':Nat) (c':ou) (news:List U) (e':Nat),F V' K ((b',.row (gd++news) e' false)::L)->news.length=l2.length*m->(∀(i:Nat) (x:α),l2[i]? =some x->R x ((news.drop (i*m)).take m))->(c'= .known (len1+l2.length)∨(c'= .upto m/\e'=e))->bP P G ops n l (t' (.slice b' 0 (len1+l2.length) c')) V' Q):bP P G ops n (o::l) t V Q:=by
 obtain⟨V',b',c',news,e',k1,k2,k3,k4,k5⟩:=Ab (P:=P) T hx d hn z A w X hu ha S;refine I hw ?_ (hp _)<|h V' b' c' news e' k2 k3 k4 k5;rw[W];exact fF B u C E S k1
end
end Go.Ev
namespace Go.Ev
variable [Env] {α:Type} {kk:w0} {la:List α} {e:Nat} {hi xo:q_} {R:α->List U->Prop}
section
variable {P:q6} {G:Cx} {n:Nat} {t:PT U} {V:aF} {K:KP} {L:Own} {Q:Ex->PT U->aF->Prop} {ops:Array z_} {o:z_} {l:List z_}
theorem zZ {m k:Nat} {v:U} {ty:y_} {ev:q_->Option U} (h:bS K m R la v) (hk:k<=la.length) (hu:P.underlying ty=some (.slice e)) (hj:(P.info? e).map (·.size)=some m) (hx:ev xo=some v) (hh:ev hi=some (.int kk (.ofNat k))):
  ∃w,ia P ev ty xo none (some hi) none=some w/\bS K m R (la.take k) w:=by
 cases hq:P.info? e with
 | none=>simp_all
 | some j=>
 rw[hq] at hj;have hj:j.size=m:=by simpa using hj
 subst hj;have hlen:(la.take k).length=k:=by simp_all
 have hb:∀y,k<=y->fo ev hi y=some k:=fun y hy=>by
  unfold fo;rw[hh]
  grind [nE_]
 rcases h with ⟨rfl,rfl⟩ | ⟨b,off,c,cells,e',ro,rfl,z,h3,h4,h5,h6⟩
 ·have d:k=0:=by simpa using hk
  subst d;refine⟨.ax,?_,.inl ⟨by simp,Z⟩⟩;unfold ia;rw[hu,hx];dsimp only;unfold dw
  simp_all
 have fin:∀c',QZ j.size k c'->bS K j.size R (la.take k) (.slice b off k c'):=fun c' u=>by
  refine .inr ⟨b,off,c',cells,e',ro,by rw[hlen],by rw[hlen];exact u,h3,?_,by rw[hlen];omega,fun i x aa=>?_⟩
  ·rw[hlen];have:k*j.size<=la.length*j.size:=nM_ _ hk;omega
  grind
 rcases z with rfl | ⟨cp,rfl,ab⟩
 ·refine⟨.slice b off k (.upto j.size),?_,fin _ (.inl Z)⟩;unfold ia;rw[hu,hx];dsimp only;unfold dw
  simp_all
 refine⟨.slice b off k (.known cp),?_,fin _ (.inr ⟨cp,Z,by omega⟩)⟩;unfold ia;rw[hu,hx];dsimp only;unfold cutAt dw;dsimp only;rw[hb _ oM];dsimp only;unfold cut
 simp_all
theorem JZ {m k:Nat} {v:U} {ty:y_} {t':U->PT U} (h:bS K m R la v) (hk:k<=la.length) (hw:bK ops t o=some true) (d:o.op= .slice ty xo none (some hi) none)
  (hu:P.underlying ty=some (.slice e)) (hj:(P.info? e).map (·.size)=some m) (hx:bz G t xo=some v) (hh:bz G t hi=some (.int kk (.ofNat k))) (hp:∀v,dG t n o.dst v=some (t' v))
  (u:∀w,bS K m R (la.take k) w->bP P G ops n l (t' w) V Q):bP P G ops n (o::l) t V Q:=by
 obtain⟨w,h1,z⟩:=zZ (P:=P) h hk hu hj hx hh;refine I hw ?_ (hp w)<|u w z;rw[d];exact bx Z h1
end
theorem fX {g:XG} (h:cY g=0):g.threads.length<=4/\g.init.length<=6/\(∀l∈g.threads,l.length<=14)/\g.from_.length=g.threads.length/\g.order.length=g.init.length/\mr g g.threads g.from_ 0=true/\fy g=true:=by
 unfold cY at h;cases h1:fw g with
 | true=>rw[h1] at h;cases h
 | false=>
  rw[h1] at h;simp only[cond_false] at h;cases d:N (.ofNat g.from_.length) (.ofNat g.threads.length) with
  | false=>rw[d] at h;cases h
  | true=>
   rw[d] at h;simp only[cond_true] at h;cases h3:N (.ofNat g.order.length) (.ofNat g.init.length) with
   | false=>rw[h3] at h;cases h
   | true=>
    rw[h3] at h;simp only[cond_true] at h;cases h4:mr g g.threads g.from_ 0 with
    | false=>rw[h4] at h;cases h
    | true=>
     rw[h4] at h;simp only[cond_true] at h;cases h5:fy g with
     | false=>rw[h5] at h;cases h
     | true=>
      unfold fw at h1;cases u:cM 4 (.ofNat g.threads.length) with
      | true=>simp_all
      | false=>
       rw[u] at h1;simp only[cond_false] at h1;cases k2:cM 6 (.ofNat g.init.length) with
       | true=>simp_all
       | false=>
        rw[k2] at h1;simp only[cond_false] at h1;refine⟨bJ (a:=4) u,bJ (a:=6) k2,fun l hl=>?_,gB d,gB h3,Z,Z⟩;have:=List.any_eq_false.1 h1 l hl;exact bJ (a:=14) (by simpa using this)
theorem QQ {a b:Nat} (h:a+b<=9223372036854775807):wr .i64 (Int.add (.ofNat a) (.ofNat b))= .ofNat (a+b):=by
 show(bif ble (a+b) 9223372036854775807 then _ else _)=_
 grind [nE_]
def oQ {α:Type} (ls:List (List α)):Nat:=(ls.map List.length).sum
end Go.Ev
namespace Go.Ev
variable [Env] {ix th:Int}
theorem AT {a:Int} (h:N a 0=true):a=0:=by rw[eB] at h;simp_all
theorem xV {a b:Nat} (h:b<=a) (h':a<=9223372036854775807):wr .i64 (Int.sub (.ofNat a) (.ofNat b))= .ofNat (a-b):=by
 have e:Int.sub (.ofNat a) (.ofNat b)= .ofNat (a-b):=by
  grind
 rw[e];show(bif ble (a-b) 9223372036854775807 then _ else _)=_
 grind [nE_]
theorem LF {g:XG} (h:(cX g ⟨th,ix⟩).isSome=true):∃t i:Nat,th= .ofNat t/\ix= .ofNat i/\t<=g.threads.length/\(t=0->i<g.init.length)/\∀m,t=m+1->∃l,g.threads[m]? =some l/\i<l.length:=by
 cases th with
 | negSucc t=>cases h
 | ofNat t=>cases ix with
  | negSucc i=>cases t<;>cases h
  | ofNat i=>
   refine⟨t,i,Z,Z,?_,?_,?_⟩
   ·cases t with
    | zero=>exact Nat.zero_le _
    | succ t=>
     have h:((g.threads[t]?).bind (·[i]?)).isSome=true:=h
     grind
   ·rintro rfl;have h:((g.init[i]?).map fun v=>(⟨2,i,1,0,v⟩:cz)).isSome=true:=h
    simp_all
   rintro m rfl;have h:((g.threads[m]?).bind (·[i]?)).isSome=true:=h
   grind
end Go.Ev
namespace Go.Ev
variable [Env]
variable {parts:Array (Nat×q_)} {cs:List U} {M:Own}
section
variable {V:aF} {K K':KP} {L:Own}
theorem F.weaken (h:F V K' L) (hk:KP.le K K'):F V K L where
 kept b o hb:=h.kept b o (hk b o hb)
 own:=h.own
 ne:=h.ne
def KP.qE (K:KP) (M:Own):KP:=fun b o=>K b o∨(b,o)∈M
theorem KP.dM (K:KP) (M:Own):KP.le K (K.qE M):=fun _ _ h=>.inl h
theorem KP.hH (k:Nat) {b:Nat} {o:cU} (h:M[k]? =some (b,o)):K.qE M b o:=.inr (gB_ h)
theorem F.keeps {M:Own} (h:F V K (M++L)):F V (K.qE M) L where
 kept b o hb:=by
  rcases hb with hb | hb
  ·exact h.bB.kept b o hb
  obtain⟨h1,d⟩:=h.own _ (List.mem_append_left _ hb);exact⟨h1,d,fun e he hh=>(List.pairwise_append.1 h.ne).2.2 _ hb e he hh.symm⟩
 own e he:=h.own e (List.mem_append_right _ he)
 ne:=(List.pairwise_append.1 h.ne).2.1
end
section
variable {P:q6} {G:Cx} {K K':KP}
def Rx (P:q6) (G:Cx) (K:KP) (n:Int) (vs:List U):Prop:=
 ∃(f:Nat) (ca:List U),vs= [.func f [] ca]/\l6 P f=true/\∀(V:aF) (L:Own),F V K L->a8 P G f ca V fun v V'=>v= .int .i64 n/\F V' K L
def xZ (P:q6) (G:Cx) (K:KP) (l:List Int) (cells:List U):Prop:=l.length=cells.length/\∀(i:Nat) (x:Int),l[i]? =some x->∃c,cells[i]? =some c/\Rx P G K x [c]
theorem xZ.nil:xZ P G K [] []:=⟨Z,fun i x h=>by simp at h⟩
theorem xZ.cons {x:Int} {l:List Int} {c:U} {cells:List U} (h:Rx P G K x [c]) (d:xZ P G K l cells):xZ P G K (x::l) (c::cells):=by
 refine⟨by simp[d.1],fun i y u=>?_⟩;cases i with
 | zero=>simp_all
 | succ i=>exact d.2 i y (by simpa using u)
theorem xZ.slice {l:List Int} {cells:List U} (h:xZ P G K l cells) {b e n c:Nat} (hk:K b (.row cells e false)) (hn:l.length=n) (d:n<=c) (hl:n<=9223372036854775807):bS K 1 (Rx P G K) l (.slice b 0 n (.known c)):=by
 subst hn;refine .inr ⟨b,0,_,cells,e,false,Z,.inr ⟨_,Z,d⟩,hk,by rw[h.1];omega,hl,fun i x hx=>?_⟩;obtain⟨c,d,hr⟩:=h.2 i x hx
 have:(cells.drop (0+i*1)).take 1= [c]:=by
  obtain⟨aa,rfl⟩:=gA.1 d
  grind [zj_]
 rw[this];exact hr
theorem Gd {f:Nat} {args:List U} {V:aF} {L:Own} {u:U} (h:a8 P G f args V fun v V'=>v=u/\F V' (K.qE M) L):a8 P G f args V fun v V'=>v=u/\F V' K L:=
 h.mono fun _ _ ⟨a,b⟩=>⟨a,b.weaken<|K.dM M⟩
theorem bR {ev:q_->Option U} {V:aF} {t e:y_} {len m:Nat} {z:List U} (u:P.underlying t=some (.slice e)) (hj:(P.info? e).map (·.size)=some m) (w:(fH P e).bind dg=some z)
  (hb:(Nat.beq (dK z) m && ble (len*m) 16777216 && ble 1 m)=true) (hf:kZ (fun i=>some (i*m,m)) ev parts.toList (eC z len)=some cs):dX P G ev V (.buildSlice t len parts)= .val (.slice V.next 0 len (.known len)) (V.alloc (.row cs e false)):=by
 refine sK (mk:=.slice len len) Z ?_;obtain⟨j,d,rfl⟩:=oM_.1 hj;simp only[gb,u,d,w,hb,cond_true,hf]
end
section
variable {P:q6} {G:Cx} {n:Nat} {t:PT U} {V:aF} {K:KP} {L:Own} {Q:Ex->PT U->aF->Prop} {ops:Array z_} {o:z_} {l:List z_} {ix:Nat} {lp:List (Nat×List Nat)}
end
theorem eu (k:w0) (n:Int):eM (.int k n) (.int k n)=true:=by
 unfold Go.Ev.eM;exact cV k n
theorem bS.eM {α:Type} {K:KP} {m:Nat} {R:α->List U->Prop} {l:List α} {v:U} (h:bS K m R l v):Go.Ev.eM v v=true:=by
 have hb:=h.dV;rcases h with ⟨_,rfl⟩ | ⟨b,off,c,cells,e,ro,rfl,hc,_⟩<;>exact hb
def RI (x y:Int):Int:=bif cM x y then-1 else bif cM y x then 1 else 0
end Go.Ev
namespace Go.Ev
variable [Env] {e:Nat}
def cQ {α:Type} (m E:Nat) (R:α->List U->Prop) (l:List α) (u:U) (M:Own):Prop:=
 (l= []/\u= .ax/\M= [])∨∃(b:Nat) (c:ou) (cells:List U) (e:Nat),u= .slice b 0 l.length c/\M= [(b,.row cells e false)]/\cells.length=l.length*m/\(∀(i:Nat) (x:α),l[i]? =some x->R x ((cells.drop (i*m)).take m))/\(c= .known l.length∨(c= .upto m/\e=E))/\l.length<=1048576
inductive jf {α:Type} (m E:Nat) (R:α->List U->Prop):List (List α)->List U->Own->Prop
 | nil:jf m E R [] [] []
 | snoc {ls:List (List α)} {us:List U} {M M1:Own} {l:List α} {u:U}:jf m E R ls us M->cQ m E R l u M1->jf m E R (ls++[l]) (us++[u]) (M1++M)
section
variable {α:Type} {m E:Nat} {R:α->List U->Prop} {l:List α} {u:U} {M:Own} {K:KP} {ls:List (List α)} {us:List U}
theorem cQ.leaf (h:cQ m E R l u M):dg u=some [u]/\ml u=true:=by
 rcases h with ⟨_,rfl,_⟩ | ⟨b,c,cells,e,rfl,_⟩<;>exact⟨rfl,rfl⟩
theorem cQ.ib (h:cQ m E R l u M) (hk:∀e∈M,K e.1 e.2):bS K m R l u:=by
 rcases h with ⟨h1,d,_⟩ | ⟨b,c,cells,e,rfl,rfl,h3,h4,h5,h6⟩
 ·exact .inl ⟨h1,d⟩
 refine .inr ⟨b,0,c,cells,e,false,Z,?_,hk _<|mS_ ..,by omega,by omega,fun i x hx=>by simp_all⟩;rcases h5 with h5 | h5
 ·exact .inr ⟨_,h5,nR_ _⟩
 exact .inl h5.1
theorem jf.length (h:jf m E R ls us M):us.length=ls.length:=by
 induction h with
 | nil=>rfl
 | snoc _ _ ih=>simp[ih]
theorem jf.at (h:jf m E R ls us M):∀{i:Nat} {l:List α},ls[i]? =some l->∃u M1 A B,us[i]? =some u/\cQ m E R l u M1/\M=A++(M1++B)/\∀l' u' d,cQ m E R l' u' d->jf m E R (ls.set i l') (us.set i u') (A++(d++B)):=by
 induction h with
 | nil=>simp_all
 | @snoc ls us M M1 l u h h1 ih=>
  intro i x hx;have hl:=h.length
  by_cases hi:i<ls.length
  ·rw[gL_ hi] at hx;obtain⟨w,z,A,B,k1,k2,rfl,C⟩:=ih hx;refine⟨w,z,M1++A,B,by grind,k2,by simp,fun l' u' M' h'=>?_⟩;rw[List.set_append_left _ _ hi,List.set_append_left _ _ oM,lQ_];exact .snoc (C l' u' M' h') h1
  have hlt:=(gA.1 hx).1;rw[lA_,zq_] at hlt;obtain rfl:i=ls.length:=by omega
  rw[gR_<|nR_ _,Nat.sub_self] at hx;simp only[zm_,oJ_] at hx;subst hx;refine⟨u,M1,[],M,by simp_all,h1,Z,fun l' u' M' h'=>?_⟩;rw[List.set_append_right _ _<|nR_ _,List.set_append_right _ _ oM,hl,Nat.sub_self];exact jf.snoc (M1:=M') (M:=M) h h'
theorem jf.each (h:jf m E R ls us M) (hk:∀e∈M,K e.1 e.2):∀(i:Nat) (l:List α),ls[i]? =some l->∃u,us[i]? =some u/\bS K m R l u:=by
 intro i l hl;obtain⟨u,M1,A,B,h1,d,rfl,_⟩:=h.at hl;exact⟨u,h1,d.ib fun e he=>hk e (by simp[he])⟩
end
section
variable {V:aF} {K:KP} {L M:Own} {b:Nat} {o:cU}
theorem F.SF (h:F V K (M++(b,o)::L)) (o':cU):F (V.setObj b o') K (M++(b,o')::L):=((h.perm List.perm_middle).vq o').perm List.perm_middle.symm
theorem iR (v:U):∀n,eC [v] n=replicate n v
 | 0=>rfl
 | n+1=>by
  show iw [v] (eC [v] n)=_;rw[eD,iR v n];rfl
end
section
variable {P:q6} {G:Cx} {ev:q_->Option U} {V:aF}
theorem jd {t w n:Nat} {k k':w0} {z:List U} {lo co:q_} (A:P.underlying t=some (.slice e)) (hw:(P.info? e).map (·.bytes)=some w) (B:(fH P e).bind dg=some z)
  (d:((P.info? e).any fun j=>Nat.beq (dK z) j.size && ble 1 j.size)=true) (hl:ev lo=some (.int k (.ofNat n))) (C:ev co=some (.int k' (.ofNat n))) (hn:w*n<=1048576) (aa:n<=1048576):
  dX P G ev V (.makeSlice t lo co)= .val (.slice V.next 0 n (.known n)) (V.alloc (.row (eC z n) e false)):=by
 refine sK (mk:=.slice n n) Z ?_;obtain⟨j,hj,rfl⟩:=oM_.1 hw;rw[hj] at d;simp only[Option.any_some,bA_] at d;simp only[gb,A,hl,C,hj,B];rw[d.1,d.2,show ble n n=true by simp_all,show ble (j.bytes*n) 1048576=true by simp_all,show ble n 1048576=true by simp_all];rfl
end
theorem g9.leaf:∀x vs,g9 x vs->cF vs=true:=fun _ _ h=>by cases h;rfl
theorem jl.leaf:∀x vs,jl x vs->cF vs=true:=fun _ _ h=>by cases h;rfl
theorem jm.leaf:∀x vs,jm x vs->cF vs=true:=fun _ _ h=>by cases h;rfl
end Go.Ev
namespace Go.Ev
variable [Env] {e j:Nat}
inductive me (b:Nat) (o':cU):Own->Own->Prop
 | here {o:cU} {L:Own}:me b o' ((b,o)::L) ((b,o')::L)
 | there {x:Nat×cU} {L L':Own}:me b o' L L'->me b o' (x::L) (x::L')
 | bE {M L L':Own}:me b o' L L'->me b o' (M++L) (M++L')
section
variable {V:aF} {K:KP} {L L':Own} {b:Nat} {o':cU}
theorem me.WH (h:me b o' L L'):∃A B o,L=A++(b,o)::B/\L'=A++(b,o')::B:=by
 induction h with
 | here=>exact⟨[],_,_,Z,Z⟩
 | @there x L L' h ih=>grind
 | @bE M L L' h ih=>grind
theorem F.Td (h:F V K L) (hu:me b o' L L'):F (V.setObj b o') K L':=by
 obtain⟨A,B,o,rfl,rfl⟩:=hu.WH;exact h.SF o'
theorem F.sub (h:F V K L) (d:L'.Sublist L):F V K L' where
 kept b o hb:=let ⟨h1,w,h3⟩:=h.kept b o hb;⟨h1,w,fun e he=>h3 e (d.subset he)⟩
 own e he:=h.own e (d.subset he)
 ne:=h.ne.sublist d
theorem cu {M L L':Own} (h:L'.Sublist L):(M++L').Sublist (M++L):=(List.append_sublist_append_left M).2 h
end
section
variable {P:q6} {G:Cx} {n:Nat} {t:PT U} {V:aF} {K:KP} {L:Own} {Q:Ex->PT U->aF->Prop} {ops:Array z_} {o:z_} {l:List z_} {i:Nat} {rc:List Nat} {lp:List (Nat×List Nat)}
theorem gm {b:Nat} {ob':cU} {L':Own} {t':PT U} (d:F V K L) (hu:me b ob' L L') (hw:bK ops t o=some true) (hv:dX P G (bz G t) V o.op= .skip (V.setObj b ob')) (hp:dG t n o.dst unit=some t')
  (h:∀V',F V' K L'->bP P G ops n l t' V' Q):bP P G ops n (o::l) t V Q:=jF hw hv hp (h _<|d.Td hu)
theorem gn {b:Nat} {ob':cU} {L':Own} {t':PT U} (w:F V K L) (hu:me b ob' L L') (d:ops[i]? =some o) (hw:bK ops t o=some true) (hv:dX P G (bz G t) V o.op= .skip (V.setObj b ob')) (hp:dG t n o.dst unit=some t')
  (h:∀V',F V' K L'->(dA P G ops t' V' rc=true/\cT P G ops n lp t' V' Q)):cT P G ops n ((i,rc)::lp) t V Q:=mE d hw hv hp (h _<|w.Td hu)
end
section
variable {P:q6} {t:PT U} {V:aF}
theorem Ar {fn:Func} {ty b m:Nat} {ro:Bool} {cells:List U} (hr:fn.results.toList= [.cell j ty]) (h1:t.get j=some (.ptr b 0)) (hm:V.m.get b=some (.row cells e ro)) (d:eo P ty=some (some m)) (hn:cells.length=m):fO P fn t V=some (.agg cells):=by
 unfold fO;rw[hr]
 have e1:il P t V (.cell j ty)=some (U.agg cells):=by
  show(match t.get (posOf j) with
   | some (.ptr b off)=>match V.m.get b with
    | some (.row cells _ _)=>match eo P ty with
     | some (some n)=>bif ble (off+n) (dK cells) then some (U.agg<|takeN (eP cells off) n) else none
     | some none=>nth cells off
     | none=>none
    | _=>none
   | _=>none)=_
  rw[show t.get (posOf j)=some (.ptr b 0) from h1];dsimp only;rw[hm];dsimp only;rw[d];dsimp only;rw[cH,hn,nA_,show ble m m=true by simp_all,ed,eR,drop_zero,<-hn,take_length];rfl
 have:dv (il P t V) [.cell j ty]=some [U.agg cells]:=by
  unfold dv;simp only[e1]
 rw[this]
theorem cA {fn:Func} {R:U->aF->Prop} {ty b m:Nat} {ro:Bool} {cells:List U} (hr:fn.results.toList= [.cell j ty]) (h1:t.get j=some (.ptr b 0)) (hm:V.m.get b=some (.row cells e ro)) (d:eo P ty=some (some m)) (hn:cells.length=m) (w:R (.agg cells) V):Ee P fn R .ret t V:=
 ⟨.inr Z,_,Ar hr h1 hm d hn,w⟩
end
end Go.Ev
namespace Go.Ev
variable [Env] {gd:List U} {e:Nat}
theorem rj {α:Type} {m E:Nat} {R:α->List U->Prop} {l1 l2:List α} {news:List U} {b:Nat} {c:ou} {n:Nat} (aa:gd.length=l1.length*m) (h1:∀(i:Nat) (x:α),l1[i]? =some x->R x ((gd.drop (i*m)).take m)) (ab:news.length=l2.length*m) (h2:∀(i:Nat) (x:α),l2[i]? =some x->R x ((news.drop (i*m)).take m))
  (hn:n=l1.length+l2.length) (hc:c= .known n∨(c= .upto m/\e=E)) (hle:n<=1048576):cQ m E R (l1++l2) (.slice b 0 n c) [(b,.row (gd++news) e false)]:=by
 subst hn;refine .inr ⟨b,c,_,e,by simp_all,Z,by grind,fun i x hx=>?_,by simp_all,by simp_all⟩
 by_cases hi:i<l1.length
 ·rw[gL_ hi] at hx;have hle:(i+1)*m<=l1.length*m:=nM_ _ hi
  grind
 grind [nM_,List.drop_append,drop_eq_nil_of_le,Nat.sub_mul]
def cW (g:XG) (loc:Int):List cD:=
 bif N (cY g) 0 then(bif cM loc 0 then [] else match g.order[loc.toNat]? with | some l=>⟨0,loc⟩::l | none=>[]) else []
theorem qn {g:XG} {loc:Int} (h:N (cY g) 0=false):cW g loc= []:=by unfold cW;rw[h];rfl
theorem rO {g:XG} {loc:Int} (h:cM loc 0=true):cW g loc= []:=by unfold cW;simp_all
theorem rN {g:XG} {loc:Nat} (h:g.order.length<=loc):cW g (.ofNat loc)= []:=by
 unfold cW
 simp_all
theorem gq {g:XG} {loc:Nat} {l:List cD} (hc:N (cY g) 0=true) (h:g.order[loc]? =some l):cW g (.ofNat loc)=⟨0,.ofNat loc⟩::l:=by
 have e:(Int.ofNat loc).toNat=loc:=rfl;have e2:cM (.ofNat loc) 0=false:=by rw[show(0:Int)= .ofNat 0 from Z,gP];simp
 unfold cW
 simp_all
end Go.Ev
namespace Go.Ev
variable [Env]
end Go.Ev
namespace Go.Ev
variable [Env]
variable {rs:List Int} {e n1 ve:Nat} {V:aF}
section
variable {P:q6} {G:Cx}
def xu (P:q6) (G:Cx) (f:Nat) (args:List U) (V:aF) (R:U->aF->Prop):Prop:=
 ∃(K:Nat) (v:U) (V':aF),(∀k,K<=k->lV P G (fb P G k) f args V= .ret v V')/\R v V'
theorem Ei {f:Nat} {fn:Func} {c:Code} {args:List U} {R:U->aF->Prop} {t:PT U} (hf:P.funcs[f]? =some fn) (hb:fn.body=some c) (d:sX fn.ntmps args=some t)
  (h:Ev P G c fn.ntmps t V (Ee P fn R)):xu P G f args V R:=by
 obtain⟨K,e,t',V',h1,he,v,h2,h3⟩:=h;refine⟨K,v,V',fun k hk=>?_,h3⟩;unfold lV;rw[hf];dsimp only;rw[hb,d];dsimp only;rw[h1 k hk];rcases he with rfl | rfl<;>
 ·dsimp only;unfold Al;rw[show zf P G (fb P G k) [] .ret V'=some (.ret,V') from Z]
  simp_all
theorem HV {f:Nat} {args:List U} {k:Nat} (ab:G.KQ f args V=none) (ac:G.KT f args=none) (aa:G.stop f args V=none) (am:G.fk f=true):
  mX P G (fb P G k) f args V=tV (qY P G (fb P G k) f args V):=by
 grind [mX]
theorem uJ {f:Nat} {args:List U} {R:U->aF->Prop} (d:Plain G) (u:G.fk f=true) (he:∀ih,qY P G ih f args V=lV P G ih f args V) (h:xu P G f args V R) (hl:GV f=false:=by rfl):a8 P G f args V R:=by
 obtain⟨K,v,V',h1,w⟩:=h;refine⟨K,v,V',fun k hk=>?_,w⟩;rw[HV (d.h1 _ _ _) (d.h2 _ _ hl) (d.h4 _ _ _) u,he,h1 k hk];rfl
theorem pT:∀(l:List Int),lJ (ints l) (ints l)=true
 | []=>rfl
 | x::l=>by
  show(bif (uH .i64 .i64 && N x x) then lJ (ints l) (ints l) else false)=true;rw[pT l,eB];simp[uH]
theorem pL:∀(l:List Int),fl (ints l)=true
 | []=>rfl
 | x::l=>by
  show(bif nZ (.int .i64 x) then fl (ints l) else false)=true;rw[pL l];rfl
theorem w6:∀(l:List Int),(ints l).length=l.length
 | []=>rfl
 | x::l=>by show(ints l).length+1=l.length+1;rw[w6 l]
theorem yO {vb sz u:Nat} {vc:List Int} {c:ou} {w:aF} {d:List U} {ok:ou->Nat->Bool} (z:ok c n1=true) (aa:u≠vb) (h1:w.m.get u=some (.row d e false)) (A:w.m.get vb=some (.row (ints vc) ve false)) (ab:1<=n1) (hl:n1*sz<=d.length) (B:d.take (n1*sz)=ints rs):
  sb vb (ints vc) ve e sz (.ret (.slice u 0 n1 c) w) ok=some (n1,ints rs):=by
 have C:kN u vb=false:=by
  grind [kN,nB]
 unfold sb;dsimp only;rw[h1,A];dsimp only;rw[z,C,pT,beq_refl,beq_refl,show ble 1 n1=true by simp_all,cH,nA_,show ble (n1*sz) d.length=true by simp_all,ed,eR,drop_zero,B,pL];rfl
theorem LH {f:Nat} {R:U->aF->Prop} (z:Plain G) (A:G.fk f=true) {b n sz i vb mc:Nat} {cells:List U} {vc:List Int} (hn:1<=n) (hi:i<n) (aa:b≠vb) (hb:V.m.get b=some (.row cells e false)) (B:V.m.get vb=some (.row (ints vc) ve false)) (hc:n*sz<=cells.length)
  (w:1<=n1) (ab:rs.length=n1*sz)
  (h1:xu P G f [.slice b 0 n (.known n),.int .i64 (.ofNat i),.slice vb 0 1 (.known mc)] (fE V b (.row cells e false) vb (.row (ints vc) ve false)) fun v V'=>∃u d,v= .slice u 0 n1 (.upto sz)/\u≠vb/\V'.m.get u=some (.row d e false)/\V'.m.get vb=some (.row (ints vc) ve false)/\n1*sz<=d.length/\d.take (n1*sz)=ints rs)
  (E:xu P G f [.slice b 0 n (.least (Nat.succ n) sz),.int .i64 (.ofNat i),.slice vb 0 1 (.known mc)] (fE V b (.row (cells.take (n*sz)++replicate sz .any) e false) vb (.row (ints vc) ve false)) fun v V'=>∃u a d,v= .slice u 0 n1 (.least a sz)/\n1<=a/\u≠vb/\V'.m.get u=some (.row d e false)/\V'.m.get vb=some (.row (ints vc) ve false)/\n1*sz<=d.length/\d.take (n1*sz)=ints rs)
  (K:R (.slice V.next 0 n1 (.upto sz)) ((V.drop b).alloc (.row (ints rs) e false))) (hl:GV f=false:=by rfl):a8 P G f [.slice b 0 n (.upto sz),.int .i64 (.ofNat i),.slice vb 0 1 (.known mc)] V R:=by
 obtain⟨L,v1,σ1,M,u,d,rfl,g1,Q,S,T,W⟩:=h1;obtain⟨X,v2,σ2,k2,b2,a,ac,rfl,f0,f1,f2,f3,f4,f5⟩:=E;refine⟨max L X,_,_,fun k hk=>?_,K⟩;rw[HV (z.h1 _ _ _) (z.h2 _ _ hl) (z.h4 _ _ _) A]
 have e:qY P G (fb P G k) f [.slice b 0 n (.upto sz),.int .i64 (.ofNat i),.slice vb 0 1 (.known mc)] V= .ret (.slice V.next 0 n1 (.upto sz)) ((V.drop b).alloc (.row (ints rs) e false)):=by
  have C:atEnd [.slice b 0 n (.upto sz),.int .i64 (.ofNat i),.slice vb 0 1 (.known mc)]=false:=by
   show Nat.beq i n=false
   grind [nB]
  have hs:kN b vb=false:=by
   grind [kN,nB]
  unfold qY;rw[C];simp only[cond_false];unfold H5;dsimp only;rw[hb,B];dsimp only;rw[hs,show ble 1 n=true by simp_all,show nZ (.int .i64 (.ofNat i))=true from Z,pL,cH,nA_,show ble (n*sz) cells.length=true by simp_all];rw[eD,ed,vk,M k oM,k2 k oM];rw[yO (by show Nat.beq sz sz=true;exact beq_refl _) g1 Q S w T W,yO (by show(Nat.beq sz sz && ble n1 a)=true;simp_all) f1 f2 f3 w f4 f5]
  grind [beq_refl,pT]
 rw[e];rfl
end
variable {α:Type} {ts:Array y_} {cl:Call} {k2:w0} {X Zv zs:List U} {cap:Nat} {hi so x xo y:q_} {lo:Option q_} {C:U} {ob:cU} {R:α->List U->Prop}
def dq (l:List cD):List U:=l.flatMap fun x=>ints x.ints
theorem gK (x:cD) (l:List cD):dq (x::l)=ints x.ints++dq l:=rfl
theorem tI (l r:List cD):dq (l++r)=dq l++dq r:=List.flatMap_append
theorem eS:∀(l:List cD),(dq l).length=l.length*2
 | []=>rfl
 | x::l=>by
  rw[gK,lA_,eS l,zc_];show 2+_=_;omega
theorem qK:∀(l:List cD) (i:Nat),(dq l).drop (i*2)=dq (l.drop i)
 | l,0=>by simp
 | [],i+1=>by simp[dq]
 | x::l,i+1=>by
  rw[List.drop_succ_cons,<-qK l i,gK,show(i+1)*2=(ints x.ints).length+i*2 by show _=2+_;omega,<-zl_,List.drop_left]
theorem wI:∀(l:List cD) (i:Nat),(dq l).take (i*2)=dq (l.take i)
 | l,0=>by simp[dq]
 | [],i+1=>by simp[dq]
 | x::l,i+1=>by
  rw[List.take_succ_cons,gK,gK,<-wI l i,show(i+1)*2=(ints x.ints).length+i*2 by show _=2+_;omega,List.take_length_add_append]
theorem mA:∀(l:List Int),cF (ints l)=true
 | []=>rfl
 | x::l=>ah Z (mA l)
theorem nO (l:List cD):dq l=ints (l.flatMap cD.ints):=by
 induction l with
 | nil=>rfl
 | cons x l ih=>rw[gK,ih,List.flatMap_cons];simp[ints]
theorem wH (l:List cD):cF (dq l)=true:=by rw[nO];exact mA _
theorem AG:∀(l:List cD) (cells:List U),cells.length=l.length*2->(∀(i:Nat) (x:cD),l[i]? =some x->jm x ((cells.drop (i*2)).take 2))->cells=dq l
 | [],cells,h,_=>eN_ h
 | x::l,cells,h,hr=>by
  rw[zc_] at h;have h0:cells.take 2=ints x.ints:=by have:=hr 0 x Z;simpa [jm] using this
  rw[gK,<-h0,<-AG l (cells.drop 2) (by rw[lD_];omega) (fun i y d=>by have:=hr (i+1) y (by simpa using d);rwa[show(i+1)*2=2+i*2 by omega,<-zl_] at this),List.take_append_drop]
theorem Jj {l:List cD} {i:Nat} {x:cD} (h:l[i]? =some x):jm x (((dq l).drop (i*2)).take 2):=by
 rw[qK,cN h,gK,show(2:Nat)=(ints x.ints).length from Z,List.take_left];rfl
theorem wx {A:List U} {off:Nat} (d:off=A.length) (hz:X.length<=Zv.length):dy X (A++Zv) off=A++(X++Zv.drop X.length):=by
 subst d;rw[lF _ _ _ (by rw[lA_];omega),List.take_left,<-zl_,List.drop_left,lQ_]
theorem Ig {A B:List U} {off:Nat} (ho:off=A.length+X.length) (hz:Zv.length=B.length):dy B (A++(X++Zv)) off=A++(X++B):=by
 grind [wx]
theorem Pv {A B C:List U} {off:Nat} (ho:off=A.length) (hc:X.length=C.length):dy X (A++(C++B)) off=A++(X++B):=by
 grind [wx]
section
variable {P:q6} {G:Cx} {ev:q_->Option U} {V:aF}
theorem mf {lo:q_} {k:w0} {l len:Nat} (h:ev lo=some (.int k (.ofNat l))) (hl:l<=len):dw ev len cap (some lo) none=some (l,len):=by
 simp only[dw,fo,h,show ble l len=true by simp_all,cond_true]
theorem qJ {k:w0} {h' len:Nat} (h:ev hi=some (.int k (.ofNat h'))) (hl:h'<=cap):dw ev len cap none (some hi)=some (0,h'):=by
 simp only[dw,fo,h,show ble h' cap=true by simp_all,cond_true]
theorem rP {t sz b off len l h:Nat} {hi:Option q_} (u:P.underlying t=some (.slice e)) (hj:(P.info? e).map (·.size)=some sz) (hx:ev x=some (.slice b off len (.known cap))) (hb:dw ev len cap lo hi=some (l,h)) (hl:l<cap):
  dX P G ev V (.slice t x lo hi none)= .val (.slice b (off+l*sz) (h-l) (.known (cap-l))) V:=by
 refine bx Z ?_;obtain⟨j,d,rfl⟩:=oM_.1 hj
 have:Nat.beq cap l=false:=by
  grind [nB]
 simp only[dO,ia,u,hx,cutAt,hb,cut,d,this,cond_false]
theorem Ow {t sz b off:Nat} {k:w0} {lo:q_} (u:P.underlying t=some (.slice e)) (hj:(P.info? e).map (·.size)=some sz) (hx:ev x=some (.slice b off cap (.known cap))) (hb:ev lo=some (.int k (.ofNat cap))):
  dX P G ev V (.slice t x (some lo) none none)= .val (.slice b off 0 (.known 0)) V:=by
 refine bx Z ?_;obtain⟨j,d,rfl⟩:=oM_.1 hj;have:Nat.beq cap cap=true:=beq_refl cap;simp only[dO,ia,u,hx,cutAt,mf hb<|nR_ cap,cut,d,this,cond_true,Nat.sub_self]
theorem Ox {t sz:Nat} {k:w0} {lo:q_} (u:P.underlying t=some (.slice e)) (hj:(P.info? e).map (·.size)=some sz) (hx:ev x=some .ax) (hb:ev lo=some (.int k (.ofNat 0))):
  dX P G ev V (.slice t x (some lo) none none)= .val .ax V:=by
 refine bx Z ?_;obtain⟨j,d,rfl⟩:=oM_.1 hj;simp only[dO,ia,u,hx,mf hb<|nR_ 0,d]
theorem rQ {t sz b off len l h:Nat} {hi:Option q_} (u:P.underlying t=some (.slice e)) (hj:(P.info? e).map (·.size)=some sz) (hx:ev x=some (.slice b off len (.upto sz))) (hb:dw ev len len lo hi=some (l,h)):
  dX P G ev V (.slice t x lo hi none)= .val (.slice b (off+l*sz) (h-l) (.upto sz)) V:=by
 refine bx Z ?_;obtain⟨j,d,rfl⟩:=oM_.1 hj;simp only[dO,ia,u,hx,hb,d,beq_refl,cond_true]
theorem pI {t sz b off len a l h:Nat} {hi:Option q_} (u:P.underlying t=some (.slice e)) (hj:(P.info? e).map (·.size)=some sz) (hx:ev x=some (.slice b off len (.least a sz))) (hb:dw ev len a lo hi=some (l,h)) (h1:len<=a) (h2:l+1<=a):
  dX P G ev V (.slice t x lo hi none)= .val (.slice b (off+l*sz) (h-l) (.least (a-l) sz)) V:=by
 refine bx Z ?_;obtain⟨j,d,rfl⟩:=oM_.1 hj;simp only[dO,ia,u,hx,hb,d,beq_refl,show ble len a=true by simp_all,show ble (Nat.succ l) a=true by simp_all,Bool.and_self,cond_true]
theorem xS {b off len sz:Nat} {c:ou} {ro:Bool} {cells:List U} (hb:V.m.get b=some (.row cells e ro)) (hl:off+len*sz<=cells.length):kO V sz (.slice b off len c)=some (len,(cells.drop off).take (len*sz)):=by
 simp only[kO,hb,cH,show ble (off+len*sz) cells.length=true by simp_all,cond_true,ed,eR]
theorem Ac {ds:q_} {ty sz b off len n Gh e':Nat} {c:ou} {v:U} {news cells cells':List U} (z:cl.callee= .builtin .copy) (A:cl.args.toList= [ds,so]) (B:cl.argTypes[0]? =some ty) (hu:P.underlying ty=some (.slice e)) (hj:(P.info? e).map (·.size)=some sz)
  (C:ev ds=some (.slice b off len c)) (E:ev so=some v) (d:kO V sz v=some (n,news)) (u:Nat.min n len=Gh) (aa:1<=Gh) (hb:V.m.get b=some (.row cells e' false)) (hl:cF (news.take (Gh*sz))=true) (ab:1<=sz)
  (hle:off+(news.take (Gh*sz)).length<=cells.length) (hr:dy (news.take (Gh*sz)) cells off=cells'):dX P G ev V (.call cl)= .val (.int .i64 (.ofNat Gh)) (V.setObj b (.row cells' e' false)):=by
 refine jD (by simp[kindOf,z]) ?_;obtain⟨j,w,rfl⟩:=oM_.1 hj
 have he:ju ev [ds,so]=some [.slice b off len c,v]:=by
  unfold ju dv;simp only[C,E]
 have h0:Nat.beq Gh 0=false:=by
  grind [nB]
 subst hr;simp only[gh,z,A,he,wO,B,hu,w,d,u,h0,cond_false,hb,ed,hl,cH,show ble 1 j.size=true by simp_all,show ble (off+(news.take (Gh*j.size)).length) cells.length=true by simp_all,Bool.and_self,cond_true]
theorem KK {no:q_} {ty z sz b len cp n e' w:Nat} {cells:List U} (E:cl.callee= .builtin .append) (M:cl.args.toList= [so,no]) (R:cl.argTypes[0]? =some ty) (A:cl.argTypes[1]? =some z) (hu:P.underlying ty=some (.slice e)) (d:P.underlying z=some (.int k2)) (hj:(P.info? e).map (·.size)=some sz) (hw:(P.info? e).map (·.bytes)=some w) (S:(fH P e).bind dg=some zs)
  (T:ev so=some (.slice b 0 len (.known cp))) (hn:ev no=some (.int .i64 (.ofNat n))) (hb:V.m.get b=some (.row cells e' false)) (h1:cp<len+n) (h2:1<=n) (h3:n<=1048576) (h4:len<=1048576) (h5:1<=sz) (h6:w<=65536) (W:zs.length=sz) (h8:len*sz<=cells.length) {m:Nat} (hm:len+n=m):
  dX P G ev V (.call cl)= .val (.slice V.next 0 m (.upto sz)) (V.alloc (.row (cells.take (len*sz)++eC zs n) e false)):=by
 refine jD (by simp[kindOf,E]) ?_;obtain⟨j,u,rfl⟩:=oM_.1 hj;rw[u] at hw;have hw:j.bytes=w:=by simpa using hw
 subst hm
 have he:ju ev [so,no]=some [.slice b 0 len (.known cp),.int .i64 (.ofNat n)]:=by
  unfold ju dv;simp only[T,hn]
 have B:dW P (some z)=false:=by simp only[dW,d]
 have C:ble (len+n) cp=false:=by
  grind [nE_]
 have e1:ble n 1048576=true:=by simp_all
 have X:ble 1 n=true:=by simp_all
 have e3:ble 1 j.size=true:=by simp_all
 have e4:ble j.bytes 65536=true:=by simp_all
 have e5:Nat.beq (dK zs) j.size=true:=by rw[cH,W];exact beq_refl _
 have e6:ble (0+len*j.size) (dK cells)=true:=by rw[nE_,cH];omega
 have e7:ble len 1048576=true:=by simp_all
 simp only[gh,E,M,he,B,cond_false,pM,R,A,hu,d,u,S,e1,X,e3,e4,e5,Bool.and_self,cond_true,C,hb,e6,e7,grow,eD,ed,eR,drop_zero]
end
section
variable {P:q6} {G:Cx} {ev:q_->Option U} {V:aF}
theorem HM {g b b' off off' n n' e':Nat} {c c':ou} {cells cells':List U} (C:cl.callee= .value (.func g)) (E:cl.args.toList= [x,y]) (u:l6 P g=false) (w:G.ov g=true) (z:isNe P g=false) (hx:ev x=some (.slice b off n c)) (M:ev y=some (.slice b' off' n' c')) (hf:ev (.func g)=some (.func g [] []))
  (h1:V.m.get b=some (.row cells e false)) (R:V.m.get b'=some (.row cells' e' false)) (hb:b≠b') (A:lW c=true) (d:lW c'=true) (hl:1<=cells'.length):dX P G ev V (.call cl)= .val (.bool false) V:=by
 refine jD (by simp[kindOf,C]) ?_
 have he:ju ev [x,y]=some [.slice b off n c,.slice b' off' n' c']:=by
  unfold ju dv;simp only[hx,M]
 have S:kN b b'=false:=by
  grind [kN,nB]
 have B:iw ([]:List U) (iw [.slice b off n c,.slice b' off' n' c'] [])= [.slice b off n c,.slice b' off' n' c']:=rfl;simp only[gh,C,hf,E,he,AE,u,w,z,cond_true,cond_false,B,pk,h1,R,S,A,d,cH,show ble 1 cells'.length=true by simp_all,Bool.and_self]
theorem Rv {ty e:y_} {v r:U} (d:cl.callee= .builtin .cap) (u:cl.argTypes[0]? =some ty) (w:cl.args.toList= [x]) (hu:P.underlying ty=some (.slice e)) (hx:ev x=some v) (h:RH v=some r):dX P G ev V (.call cl)= .val r V:=by
 refine bx (by simp[kindOf,d]) ?_;simp only[dO,d,u,w,hu,hx,h]
end
section
variable {P:q6} {G:Cx} {n:Nat} {t:PT U} {V:aF} {K:KP} {L:Own} {Q:Ex->PT U->aF->Prop} {ops:Array z_} {o:z_} {l:List z_}
theorem ML (d:F V K L) {k sz:Nat} {t':Nat->PT U} (hw:bK ops t o=some true) (hv:dX P G (bz G t) V o.op= .val (.slice V.next 0 k (.upto sz)) (V.alloc ob)) (hp:∀b,dG t n o.dst (.slice b 0 k (.upto sz))=some (t' b))
  (h:∀(V':aF) (b:Nat),F V' K ((b,ob)::L)->bP P G ops n l (t' b) V' Q):bP P G ops n (o::l) t V Q:=
 I hw hv (hp _) (h _ _<|d.alloc ob)
end
section
variable {P:q6} {G:Cx} {V:aF} {K:KP} {L:Own}
theorem sL {m:Nat} {l2:List α} {w:U} {t:y_} (B:F V K L) (hx:bS K m R l2 w) (d:∀x vs,R x vs->cF vs=true) (hn:l2.length<=1048576) (aa:1<=l2.length)
  (C:ts[0]? =some t) (hu:P.underlying t=some (.slice e)) (u:sP P e m=true) (E:dW P ts[1]? =true):
  ∃news,gu P V ts .ax w= .val (.slice V.next 0 l2.length (.upto m)) (V.alloc (.row news e false))/\news.length=l2.length*m/\∀(i:Nat) (x:α),l2[i]? =some x->R x ((news.drop (i*m)).take m):=by
 obtain⟨news,M,S,T,W⟩:=pC B hx d;refine⟨news,?_,S,W⟩;unfold sP at u;split at u
 ·rename_i j hj;simp only[bA_] at u;obtain⟨X,a2,a3,a4⟩:=u;have hm:j.size=m:=nB X;subst hm;have A:((P.info? e).any fun j=>(j.zero.bind ra).any fun z=>(dg z).any fun cs=>Nat.beq (dK cs) j.size)=true:=by rw[hj];exact a4
  have h0:Nat.beq l2.length 0=false:=by
   grind [nB]
  unfold gu;rw[C];dsimp only;rw[hu];dsimp only;rw[hj] at A⊢;dsimp only;rw[E,a2,a3];simp only[Bool.and_self,cond_true];rw[M];dsimp only;rw[T,show ble l2.length 1048576=true by simp_all,A];simp only[Bool.and_self,cond_true,h0,cond_false];rfl
 cases u
end
section
variable {P:q6} {G:Cx} {n:Nat} {t:PT U} {V:aF} {K:KP} {L:Own} {Q:Ex->PT U->aF->Prop} {ops:Array z_} {o:z_} {l:List z_}
theorem JW {m:Nat} {l2:List α} {ty:y_} {t':U->PT U} (E:F V K L) (hx:bS K m R l2 C) (d:∀x vs,R x vs->cF vs=true) (hn:l2.length<=1048576) (w:1<=l2.length)
  (hw:bK ops t o=some true) (S:o.op= .call cl) (z:cl.callee= .builtin .append) (u:cl.args.toList= [so,xo]) (T:cl.argTypes[0]? =some ty) (hu:P.underlying ty=some (.slice e)) (W:sP P e m=true) (M:dW P cl.argTypes[1]? =true)
  (A:bz G t so=some .ax) (B:bz G t xo=some C) (hp:∀v,dG t n o.dst v=some (t' v))
  (h:∀(V':aF) (b':Nat) (news:List U),F V' K ((b',.row news e false)::L)->news.length=l2.length*m->(∀(i:Nat) (x:α),l2[i]? =some x->R x ((news.drop (i*m)).take m))->bP P G ops n l (t' (.slice b' 0 l2.length (.upto m))) V' Q):bP P G ops n (o::l) t V Q:=by
 obtain⟨news,X,k2,k3⟩:=sL (P:=P) E hx d hn w T hu W M;refine I hw ?_ (hp _)<|h _ V.next news (E.alloc _) k2 k3;rw[S];exact fF z u A B M X
end
section
variable {V:aF} {K:KP} {L:Own} {b:Nat} {o:cU}
def KP.sub (K:KP) (b:Nat):KP:=fun b' o'=>K b' o'/\b'≠b
theorem F.SO (h:F V K L) (hk:K b o):F V (K.sub b) ((b,o)::L) where
 kept b' o' hb:=by
  obtain⟨h1,d,h3⟩:=h.kept b' o' hb.1;refine⟨h1,d,fun e he=>?_⟩;rcases mQ_.1 he with rfl | he
  ·exact fun hh=>hb.2 hh.symm
  exact h3 e he
 own e he:=by
  rcases mQ_.1 he with rfl | he
  ·exact⟨(h.kept b o hk).1,(h.kept b o hk).2.1⟩
  exact h.own e he
 ne:=List.pairwise_cons.2 ⟨fun e he hh=>(h.kept b o hk).2.2 e he hh.symm,h.ne⟩
theorem F.SC {σ0:aF} {u:Own} (h0:F σ0 K u) (hk:K b o) (h:F V (K.sub b) ((b,o)::L)):F V K L:=
 h.EI.weaken fun b' o' hb=>by
  by_cases d:b'=b
  ·subst d;have e1:=(h0.kept _ _ hb).2.1;rw[(h0.kept _ _ hk).2.1] at e1;cases e1;exact .inr ⟨Z,Z⟩
  exact .inl ⟨hb,d⟩
theorem F.two {b b':Nat} {o o' o1 aa:cU} (hb:b<V.next) (d:b'<V.next) (ab:b≠b'):F (fE V b o b' o') (fun _ _=>False) [(b,o),(b',o')] where
 kept _ _ h:=h.elim
 own e he:=by
  rcases mQ_.1 he with rfl | he
  ·exact⟨hb,by show((PT.leaf.put (some o) b).put (some o') b').get b=_;grind [PT.dS,PT.dZ]⟩
  rcases mQ_.1 he with rfl | he
  ·exact⟨d,PT.dZ _ _ _⟩
  cases he
 ne:=List.pairwise_cons.2 ⟨fun e he=>(by simp_all),List.pairwise_singleton ..⟩
end
end Go.Ev
namespace Go.Ev
variable [Env] {α:Type} {ts:Array y_} {G:Cx} {cv:List U} {E bv e:Nat} {x:q_} {P:q6} {B:U} {R:α->List U->Prop}
inductive bG (X:Own):Own->Own->Prop
 | here {L:Own}:bG X (X++L) L
 | there {y:Nat×cU} {L L0:Own}:bG X L L0->bG X (y::L) (y::L0)
 | bE {M L L0:Own}:bG X L L0->bG X (M++L) (M++L0)
theorem bG.perm {X L L0:Own} (h:bG X L L0):L.Perm (X++L0):=by
 induction h with
 | here=>simp_all
 | @there y L L0 _ ih=>exact(List.Perm.cons y ih).trans List.perm_middle.symm
 | @bE M L L0 _ ih=>
  refine(List.Perm.append_left M ih).trans ?_
  grind [List.Perm.append_right,List.perm_append_comm]
section
variable {V:aF} {K:KP} {L L0 X:Own}
theorem F.pull (h:F V K L) (hi:bG X L L0):F V K (X++L0):=h.perm hi.perm
theorem jY {m:Nat} {l l2:List α} {u:U} {M:Own} {ev:Nat} {t:y_} (Q:cQ m e R l u M) (O:F V K ((bv,.row cv ev false)::(M++L)))
  (hx:bS (K.add bv (.row cv ev false)) m R l2 B) (d:∀x vs,R x vs->cF vs=true) (hn:l2.length<=1000) (w:1<=l2.length) (hl:l.length<=1000000)
  (C:ts[0]? =some t) (hu:P.underlying t=some (.slice e)) (E:sP P e m=true) (G:dW P ts[1]? =true):
  ∃V' u' M',gu P V ts u B= .val u' V'/\cQ m e R (l++l2) u' M'/\F V' K (M'++L):=by
 have hk:=O.EI;rcases Q with ⟨rfl,rfl,rfl⟩ | ⟨b,c,cells,e',rfl,rfl,h3,h4,h5,h6⟩
 ·obtain⟨news,z,k2,A⟩:=sL (P:=P) hk hx d oM w C hu E G;exact⟨_,_,[(V.next,.row news e false)],z,.inr ⟨_,_,news,e,Z,Z,k2,A,.inr ⟨Z,Z⟩,by grind⟩,((hk.alloc (.row news e false)).weaken<|KP.tR _ _ _)⟩
 obtain⟨V',b',c',news,S,z,k2,A,T,W⟩:=Ab (P:=P) hk hx d oM h3 oM h5 C hu E G;exact⟨V',_,[(b',.row (cells++news) S false)],z,rj h3 h4 A T Z W oM,k2.weaken<|KP.tR _ _ _⟩
end
def Q9 (g:XG) (tm:Nat) (e:cz) (fr:cD) (pl:Nat) (row:List cz) (frow:List cD) (orow:List cD) (loc:Nat):XG:=
 {init:=g.init,threads:=g.threads.set tm (row++[e]),from_:=g.from_.set tm (frow++[fr]),order:=bif bl e then g.order.set loc (orow.take pl++⟨.ofNat (tm+1),.ofNat row.length⟩::orow.drop pl) else g.order}
def vL (g:XG) (th:Int) (e:cz) (fr:cD) (pl:Int):Option XG×Int:=
 bif !N (cY g) 0 then(none,2) else
 bif cM th 1 then(none,9) else
 bif cM (.ofNat g.threads.length) th then(none,9) else
 match g.threads[th.toNat-1]?,g.from_[th.toNat-1]? with
 | some row,some frow=>
  bif !cM (.ofNat row.length) 14 then(none,3) else
  bif (bif bl e then(bif cM pl 1 then true else cM (.ofNat (cW g e.loc).length) pl) else !N pl 0) then(none,2) else
  let g':=Q9 g (th.toNat-1) e fr (pl.toNat-1) row frow ((g.order[e.loc.toNat]?).getD []) e.loc.toNat
  bif N (cY g') 0 then(some g',0) else(none,2)
 | _,_=>(none,9)
theorem HJ {ev:q_->Option U} {V:aF} {m:Nat} {l:List α} {u:U} {M:Own} {c:Call} {t e:y_} (h:cQ m E R l u M) (d:c.callee= .builtin .len) (w:c.argTypes[0]? =some t) (z:c.args.toList= [x]) (hu:P.underlying t=some (.slice e)) (hx:ev x=some u):
  dX P G ev V (.call c)= .val (.int .i64 (.ofNat l.length)) V:=
 bh (K:=fun b o=>(b,o)∈M) (h.ib fun e he=>he) d w z hu hx
theorem OP (b o l c:Nat):eM (.slice b o l (.known c)) (.slice b o l (.known c))=true:=by
 unfold eM;show(eM.beqP b b && Nat.beq o o && Nat.beq l l && eM.beqC (.known c) (.known c))=true
 grind [eM.beqP,beq_refl,eM.beqC]
theorem qg {us:List U} {u:U} {i:Nat} (h:i<us.length):dy [u] us (0+i*1)=us.set i u:=by
 rw[show 0+i*1=i by omega,lF _ _ _ (by grind),zq_,List.set_eq_take_append_cons_drop,if_pos h,lQ_];rfl
theorem Hj {n:Int} (h:cM n 1=false):∃m:Nat,n= .ofNat (m+1):=by
 cases n with
 | negSucc k=>cases h
 | ofNat k=>
  have:1<=k:=bJ (a:=k) (b:=1) h;exact⟨k-1,by simp_all⟩
theorem CJ {m:LM} {k:List Int} (h:(gy m k).isSome=true):(mm m k).length+1=m.length:=by
 unfold gy at h;unfold mm;cases d:q7 m k 0 with
 | none=>rw[d] at h;cases h
 | some p=>
  obtain⟨j,v⟩:=p;have h1:=(sj d).2
  grind
theorem wJ {loc:Nat}:∀{l:List cD} {m m':LM},mB loc l m=some m'->m'.length+l.length=m.length
 | [],m,m',h=>by cases h;rfl
 | id::l,m,m',h=>by
  have h':(bif (gy m id.ints).isSome then(bif N ((gy m id.ints).getD 0) (.ofNat loc) then mB loc l (mm m id.ints) else none) else none)=some m':=h;cases d:(gy m id.ints).isSome with
  | false=>rw[d] at h';cases h'
  | true=>
   rw[d] at h';cases he:N ((gy m id.ints).getD 0) (.ofNat loc) with
   | false=>rw[he] at h';cases h'
   | true=>
    rw[he] at h';have h1:=wJ (l:=l) h';have h2:=CJ d;rw[zc_];omega
theorem wL:∀{ls:List (List cD)} {loc:Nat} {m m':LM},oz ls loc m=some m'->∀l∈ls,l.length<=m.length
 | [],_,_,_,_,l,hl=>by cases hl
 | r::ls,loc,m,m',h,l,hl=>by
  have h':(mB loc r m).bind (oz ls (loc+1))=some m':=h;cases hr:mB loc r m with
  | none=>simp_all
  | some m1=>
   rw[hr] at h';have h1:=wJ hr;rcases mQ_.1 hl with rfl | hl
   ·omega
   have:=wL (ls:=ls) h' l hl;omega
theorem EF {t:Nat} {m:LM} {n:Nat} {e:cz}:(zc t m n e).length<=m.length+1:=by
 unfold zc;cases bl e with
 | false=>simp_all
 | true=>
  show(q8 m _ _).length<=_;unfold q8
  grind
theorem wY {t:Nat}:∀{l:List cz} {n:Nat} {m:LM},(sS t l n m).length<=m.length+l.length
 | [],_,_=>nR_ _
 | e::l,n,m=>by
  have h1:=wY (t:=t) (l:=l) (n:=n+1) (m:=zc t m n e);have h2:=EF (t:=t) (m:=m) (n:=n) (e:=e);show(sS t l (n+1)<|zc t m n e).length<=_;rw[zc_];omega
theorem wZ:∀{ls:List (List cz)} {t:Nat} {m:LM},(∀l∈ls,l.length<=14)->(qy ls t m).length<=m.length+14*ls.length
 | [],_,_,_=>by simp[qy]
 | l::ls,t,m,h=>by
  have h1:=wZ (ls:=ls) (t:=t+1) (m:=sS t l 0 m) fun x hx=>h x (mC_ _ hx)
  have h2:=wY (t:=t) (l:=l) (n:=0) (m:=m);have h3:=h l (mS_ ..);show(qy ls (t+1)<|sS t l 0 m).length<=_;rw[zc_];omega
theorem iq {g:XG} (h:cY g=0):∀l∈g.order,l.length<=56:=by
 intro l hl;obtain⟨b1,b2,d,b4,b5,b6,u⟩:=fX h;unfold fy at u;cases w:oz g.order 0 (qy g.threads 0 []) with
 | none=>simp_all
 | some m=>
  have h1:=wL w l hl;have h2:=wZ (ls:=g.threads) (t:=0) (m:=[]) d
  grind
end Go.Ev
namespace Go.Ev
variable [Env]
theorem Fp {g:XG}:∀{ts:List (List cz)} {fs:List (List cD)} {i:Nat},mr g ts fs i=true->fs.length=ts.length->(∀l∈ts,l.length<=14)->∀f∈fs,f.length<=14
 | [],fs,_,_,hl,_,f,hf=>by
  rw[eN_ hl] at hf;cases hf
 | x::ts,[],_,_,hl,_,f,hf=>by cases hf
 | x::ts,y::fs,i,h,hl,hb,f,hf=>by
  have h':(bif N (.ofNat y.length) (.ofNat x.length) then(bif rD g i x y 0 then mr g ts fs (i+1) else false) else false)=true:=h;cases he:N (.ofNat y.length) (.ofNat x.length) with
  | false=>rw[he] at h';cases h'
  | true=>
   rw[he] at h';cases hr:rD g i x y 0 with
   | false=>rw[hr] at h';cases h'
   | true=>
    rw[hr] at h';have e1:=gB he;have e2:=hb x (mS_ ..);rcases mQ_.1 hf with rfl | hf
    ·omega
    exact Fp (ts:=ts) (fs:=fs) h' (by simpa using hl) (fun l hl=>hb l (mC_ _ hl)) f hf
end Go.Ev
namespace Go.Ev
variable [Env] {pl th:Int} {frow:List cD} {tm:Nat}
theorem KZ {g:XG} {e:cz} {fr:cD} (h:N (cY g) 0=false):vL g th e fr pl=(none,2):=by unfold vL;rw[h];rfl
theorem K8 {g:XG} {e:cz} {fr:cD} (h:N (cY g) 0=true) (h1:cM th 1=true):vL g th e fr pl=(none,9):=by unfold vL;rw[h,h1];rfl
theorem KY {g:XG} {e:cz} {fr:cD} (h:N (cY g) 0=true) (h1:cM th 1=false) (d:cM (.ofNat g.threads.length) th=true):vL g th e fr pl=(none,9):=by unfold vL;rw[h,h1,d];rfl
def jq (g:XG) (e:cz) (pl:Int):Bool:=bif bl e then(bif cM pl 1 then true else cM (.ofNat (cW g e.loc).length) pl) else !N pl 0
def fY (g:XG) (tm:Nat) (e:cz) (fr:cD) (pl:Int) (row:List cz) (frow:List cD):XG:=Q9 g tm e fr (pl.toNat-1) row frow ((g.order[e.loc.toNat]?).getD []) e.loc.toNat
theorem OI {g:XG} {e:cz} {fr:cD} {row:List cz} (h:N (cY g) 0=true) (hx:g.threads[tm]? =some row) (hf:g.from_[tm]? =some frow):
  vL g (.ofNat (tm+1)) e fr pl=bif !cM (.ofNat row.length) 14 then(none,3) else bif jq g e pl then(none,2) else bif N (cY<|fY g tm e fr pl row frow) 0 then(some<|fY g tm e fr pl row frow,0) else(none,2):=by
 have aa:tm<g.threads.length:=(gA.1 hx).1;have h1:cM (.ofNat (tm+1)) 1=false:=by rw[show(1:Int)= .ofNat 1 from Z,gP];simp
 have d:cM (.ofNat g.threads.length) (.ofNat (tm+1))=false:=by rw[gP];simp;omega
 have e1:(Int.ofNat (tm+1)).toNat-1=tm:=rfl;unfold vL;rw[h,h1,d];simp only[Bool.not_true,cond_false,e1,hx,hf];rfl
end Go.Ev
namespace Go.Ev
variable [Env]
theorem qo {g:XG} {loc:Int} (h:1<=(cW g loc).length):∃(ln:Nat) (r:List cD),loc= .ofNat ln/\g.order[ln]? =some r/\(cW g loc).length=r.length+1:=by
 cases d:N (cY g) 0 with
 | false=>rw[qn d] at h;cases h
 | true=>
  cases hl:cM loc 0 with
  | true=>rw[rO hl] at h;cases h
  | false=>
   obtain⟨ln,rfl⟩:=ij hl;cases hr:g.order[ln]? with
   | none=>
    grind [rN]
   | some r=>exact⟨ln,r,Z,hr,by rw[gq d hr];rfl⟩
section
variable {V σ0:aF} {K:KP} {L M:Own}
theorem F.IZ (h0:F σ0 K (M++L)) (h:F V (K.qE M) L):F V K (M++L) where
 kept b o hb:=by
  obtain⟨h1,d,h3⟩:=h.kept b o (.inl hb);refine⟨h1,d,fun e he=>?_⟩;rcases List.mem_append.1 he with he | he
  ·exact(h0.kept b o hb).2.2 e (List.mem_append_left _ he)
  exact h3 e he
 own e he:=by
  rcases List.mem_append.1 he with he | he
  ·exact⟨(h.kept e.1 e.2 (.inr he)).1,(h.kept e.1 e.2 (.inr he)).2.1⟩
  exact h.own e he
 ne:=h0.ne
end
end Go.Ev
namespace Go.Ev
variable [Env]
inductive xX:Own->Own->Own->Prop
 | base {L:Own}:xX L [] L
 | there {x:Nat×cU} {LL M L:Own}:xX LL M L->xX (x::LL) (x::M) L
 | bE {A LL M L:Own}:xX LL M L->xX (A++LL) (A++M) L
end Go.Ev
end
