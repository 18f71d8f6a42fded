/- Part of the proof: an evaluator of the model's code, rules for walks on it, walks. Without conditions. -/
import Derived.Test.YtmilmijjgnapbaaGreatEb
import Derived.ReadAgain
import Derived.ProofKit
import Derived.Test.YtmilmijjgnapbaaGreatProg
import Derived.KernelRfl
set_option linter.unusedSectionVars false
set_option linter.unusedVariables false
set_option linter.unusedSimpArgs false
noncomputable section
namespace Go.Ev
variable [Env]
def cZ {α:Type} (m E:Nat) (R:α->List U->Prop) (l:List α) (u:U) (M:Own):Prop:=
 (l= []/\u= .az/\M= [])∨∃(b:Nat) (c:uc) (cells:List U) (e:Nat),u= .slice b 0 l.length c/\M= [(b,.row cells e false)]/\cells.length=l.length*m/\(∀(i:Nat) (x:α),l[i]?=some x->R x ((cells.drop (i*m)).take m))/\(c= .known l.length∨(c= .upto m/\e=E))/\l.length<=1048576
inductive g8 {α:Type} (m E:Nat) (R:α->List U->Prop):List (List α)->List U->Own->Prop
 | nil:g8 m E R [] [] []
 | snoc {ls:List (List α)} {us:List U} {M M1:Own} {l:List α} {u:U}:g8 m E R ls us M->cZ m E R l u M1->g8 m E R (ls++[l]) (us++[u]) (M1++M)
section
variable {α:Type} {m E:Nat} {R:α->List U->Prop} {l:List α} {u:U} {M:Own} {K:KP} {ls:List (List α)} {us:List U}
theorem cZ.leaf (h:cZ m E R l u M):cU u=some [u]/\iH u=true:=by
 rcases h with ⟨_,rfl,_⟩ | ⟨b,c,cells,e,rfl,_⟩<;>exact⟨rfl,rfl⟩
theorem cZ.jK (h:cZ m E R l u M) (hk:∀e∈M,K e.1 e.2):bL K m R l u:=by
 rcases h with ⟨h1,j,_⟩ | ⟨b,c,cells,e,rfl,rfl,h3,h4,h5,h6⟩
 ·exact .inl ⟨h1,j⟩
 refine .inr ⟨b,0,c,cells,e,false,Z,?_,hk _<|mS_ ..,by omega,by omega,fun i x hx=>by simp_all⟩;rcases h5 with h5 | h5
 ·exact .inr ⟨_,h5,nR_ _⟩
 exact .inl h5.1
theorem g8.length (h:g8 m E R ls us M):us.length=ls.length:=by
 induction h with
 | nil=>rfl
 | snoc _ _ ih=>simp[ih]
theorem g8.at (h:g8 m E R ls us M):∀{i:Nat} {l:List α},ls[i]?=some l->∃u M1 A B,us[i]?=some u/\cZ m E R l u M1/\M=A++(M1++B)/\∀l' u' j,cZ m E R l' u' j->g8 m E R (ls.set i l') (us.set i u') (A++(j++B)):=by
 induction h with
 | nil=>simp_all
 | @snoc ls us M M1 l u h h1 ih=>
  intro i x hx;have hl:=h.length
  by_cases hi:i<ls.length
  ·rw[gL_ hi] at hx;obtain⟨w,z,A,B,k1,C,rfl,F⟩:=ih hx;refine⟨w,z,M1++A,B,by grind,C,by simp,fun l' u' M' h'=>?_⟩;rw[List.set_append_left _ _ hi,List.set_append_left _ _ oM,lQ_];exact .snoc (F l' u' M' h') h1
  have hlt:=(gA.1 hx).1;rw[lA_,List.length_singleton] at hlt;obtain rfl:i=ls.length:=by omega
  rw[gR_<|nR_ _,Nat.sub_self] at hx;simp only[List.getElem?_cons_zero,oJ_] at hx;subst hx;refine⟨u,M1,[],M,by simp_all,h1,Z,fun l' u' M' h'=>?_⟩;rw[List.set_append_right _ _<|nR_ _,List.set_append_right _ _ oM,hl,Nat.sub_self];exact g8.snoc (M1:=M') (M:=M) h h'
theorem g8.each (h:g8 m E R ls us M) (hk:∀e∈M,K e.1 e.2):∀(i:Nat) (l:List α),ls[i]?=some l->∃u,us[i]?=some u/\bL K m R l u:=by
 intro i l hl;obtain⟨u,M1,A,B,h1,j,rfl,_⟩:=h.at hl;exact⟨u,h1,j.jK fun e he=>hk e (by simp[he])⟩
theorem g8.jK (h:g8 m E R ls us M) (hk:∀e∈M,K e.1 e.2) {b e n:Nat} (hb:K b (.row us e false)) (j:n=ls.length) (hl:ls.length<=1048576):bL K 1 (RL K m R) ls (.slice b 0 n (.known n)):=by
 subst j;refine .inr ⟨b,0,_,us,e,false,Z,.inr ⟨_,Z,nR_ _⟩,hb,by rw[h.length];omega,by omega,fun i x hx=>?_⟩;obtain⟨u,h1,w⟩:=h.each hk i x hx;refine⟨u,?_,w⟩;obtain⟨aa,rfl⟩:=gA.1 h1
 grind [List.drop_eq_getElem_cons]
end
section
variable {V:aE} {K:KP} {L M:Own} {b:Nat} {o:cD}
theorem D.P6 (h:D V K (M++(b,o)::L)) (o':cD):D (V.setObj b o') K (M++(b,o')::L):=((h.perm List.perm_middle).uU o').perm List.perm_middle.symm
theorem kH (v:U):∀n,fp [v] n=List.replicate n v
 | 0=>rfl
 | n+1=>by
  show gL [v] (fp [v] n)=_;rw[eb,kH v n];rfl
end
section
variable {P:Program} {G:Cx} {ev:Operand->Option U} {V:aE}
theorem lM {t e w n:Nat} {k k':IntKind} {z:List U} {lo co:Operand} (B:P.underlying t=some (.slice e)) (hw:(P.info? e).map (·.bytes)=some w) (C:(fl P e).bind cU=some z)
  (A:((P.info? e).any fun j=>Nat.beq (du z) j.size && Nat.ble 1 j.size)=true) (hl:ev lo=some (.int k (.ofNat n))) (hc:ev co=some (.int k' (.ofNat n))) (hn:w*n<=1048576) (aa:n<=1048576):
  ey P G ev V (.makeSlice t lo co)= .val (.slice V.next 0 n (.known n)) (V.alloc (.row (fp z n) e false)):=by
 refine ua (mk:=.slice n n) Z ?_;obtain⟨j,hj,rfl⟩:=oM_.1 hw;rw[hj] at A;simp only[Option.any_some,bA_] at A;simp only[fy,B,hl,hc,hj,C];rw[A.1,A.2,show Nat.ble n n=true by simp_all,show Nat.ble (j.bytes*n) 1048576=true by simp_all,show Nat.ble n 1048576=true by simp_all];rfl
end
theorem eu.leaf:∀x vs,eu x vs->cP vs=true:=fun _ _ h=>by cases h;rfl
theorem mJ.leaf:∀x vs,mJ x vs->cP vs=true:=fun _ _ h=>by cases h;rfl
theorem nH.leaf:∀x vs,nH x vs->cP vs=true:=fun _ _ h=>by cases h;rfl
end Go.Ev
namespace Go.Ev
variable [Env]
inductive nh (b:Nat) (o':cD):Own->Own->Prop
 | here {o:cD} {L:Own}:nh b o' ((b,o)::L) ((b,o')::L)
 | there {x:Nat×cD} {L L':Own}:nh b o' L L'->nh b o' (x::L) (x::L')
 | dN {M L L':Own}:nh b o' L L'->nh b o' (M++L) (M++L')
section
variable {V:aE} {K:KP} {L L':Own} {b:Nat} {o':cD}
theorem nh.Tt (h:nh b o' L L'):∃A B o,L=A++(b,o)::B/\L'=A++(b,o')::B:=by
 induction h with
 | here=>exact⟨[],_,_,Z,Z⟩
 | @there x L L' h ih=>grind
 | @dN M L L' h ih=>grind
theorem D.S7 (h:D V K L) (hu:nh b o' L L'):D (V.setObj b o') K L':=by
 obtain⟨A,B,o,rfl,rfl⟩:=hu.Tt;exact h.P6 o'
theorem D.sub (h:D V K L) (j:L'.Sublist L):D V K L' where
 kept b o hb:=let ⟨h1,w,z⟩:=h.kept b o hb;⟨h1,w,fun e he=>z e (j.subset he)⟩
 own e he:=h.own e (j.subset he)
 ne:=h.ne.sublist j
theorem ec {M L L':Own} (h:L'.Sublist L):(M++L').Sublist (M++L):=(List.append_sublist_append_left M).2 h
end
section
variable {P:Program} {G:Cx} {n:Nat} {t:PT U} {V:aE} {K:KP} {L:Own} {Q:Ex->PT U->aE->Prop} {ops:Array Oper} {o:Oper} {l:List Oper} {i:Nat} {rc:List Nat} {lp:List (Nat×List Nat)}
theorem dX {b:Nat} {ob':cD} {L':Own} {t':PT U} (j:D V K L) (hu:nh b ob' L L') (hw:bM ops t o=some true) (hv:ey P G (bB G t) V o.op= .skip (V.setObj b ob')) (hp:dJ t n o.dst unit=some t')
  (h:∀V',D V' K L'->bS P G ops n l t' V' Q):bS P G ops n (o::l) t V Q:=kr hw hv hp (h _<|j.S7 hu)
theorem gD {b:Nat} {ob':cD} {L':Own} {t':PT U} (w:D V K L) (hu:nh b ob' L L') (j:ops[i]?=some o) (hw:bM ops t o=some true) (hv:ey P G (bB G t) V o.op= .skip (V.setObj b ob')) (hp:dJ t n o.dst unit=some t')
  (h:∀V',D V' K L'->(dk P G ops t' V' rc=true/\cm P G ops n lp t' V' Q)):cm P G ops n ((i,rc)::lp) t V Q:=oA j hw hv hp (h _<|w.S7 hu)
end
section
variable {P:Program} {t:PT U} {V:aE}
theorem rT {fn:Func} {j ty b m e:Nat} {ro:Bool} {cells:List U} (z:fn.results.toList= [.cell j ty]) (h1:t.get j=some (.ptr b 0)) (hm:V.m.get b=some (.row cells e ro)) (A:dZ P ty=some (some m)) (w:cells.length=m):eG P fn t V=some (.agg cells):=by
 unfold eG;rw[z]
 have e1:gE P t V (.cell j ty)=some (U.agg cells):=by
  show(match t.get (posOf j) with
   | some (.ptr b off)=>match V.m.get b with
    | some (.row cells _ _)=>match dZ P ty with
     | some (some n)=>bif Nat.ble (off+n) (du cells) then some (U.agg<|takeN (dW cells off) n) else none
     | some none=>nth cells off
     | none=>none
    | _=>none
   | _=>none)=_
  rw[show t.get (posOf j)=some (.ptr b 0) from h1];dsimp only;rw[hm];dsimp only;rw[A];dsimp only;rw[bY,w,nA_,show Nat.ble m m=true by simp_all,dR,eA,List.drop_zero,<-w,List.take_length];rfl
 have:dB (gE P t V) [.cell j ty]=some [U.agg cells]:=by
  unfold dB;simp only[e1]
 rw[this]
theorem eM {fn:Func} {R:U->aE->Prop} {j ty b m e:Nat} {ro:Bool} {cells:List U} (w:fn.results.toList= [.cell j ty]) (h1:t.get j=some (.ptr b 0)) (hm:V.m.get b=some (.row cells e ro)) (z:dZ P ty=some (some m)) (A:cells.length=m) (B:R (.agg cells) V):EF P fn R .ret t V:=
 ⟨.inr Z,_,rT w h1 hm z A,B⟩
end
end Go.Ev
namespace Go.Ev
variable [Env]
theorem Ld {α:Type} {m E:Nat} {R:α->List U->Prop} {l1 l2:List α} {j news:List U} {b e:Nat} {c:uc} {n:Nat} (aa:j.length=l1.length*m) (h1:∀(i:Nat) (x:α),l1[i]?=some x->R x ((j.drop (i*m)).take m)) (ab:news.length=l2.length*m) (h2:∀(i:Nat) (x:α),l2[i]?=some x->R x ((news.drop (i*m)).take m))
  (w:n=l1.length+l2.length) (hc:c= .known n∨(c= .upto m/\e=E)) (hle:n<=1048576):cZ m E R (l1++l2) (.slice b 0 n c) [(b,.row (j++news) e false)]:=by
 subst w;refine .inr ⟨b,c,_,e,by simp_all,Z,by grind,fun i x hx=>?_,by simp_all,by simp_all⟩
 by_cases hi:i<l1.length
 ·rw[gL_ hi] at hx;have hle:(i+1)*m<=l1.length*m:=nM_ _ hi
  grind
 grind [nM_,List.drop_append,List.drop_eq_nil_of_le,Nat.sub_mul]
def dv (g:XG) (loc:Int):List cY:=
 bif H (cV g) 0 then(bif b9 loc 0 then [] else match g.order[loc.toNat]? with | some l=>⟨0,loc⟩::l | none=>[]) else []
theorem tZ {g:XG} {loc:Int} (h:H (cV g) 0=false):dv g loc= []:=by unfold dv;rw[h];rfl
theorem vZ {g:XG} {loc:Int} (h:b9 loc 0=true):dv g loc= []:=by unfold dv;simp_all
theorem vY {g:XG} {loc:Nat} (h:g.order.length<=loc):dv g (.ofNat loc)= []:=by
 unfold dv
 simp_all
theorem fX {g:XG} {loc:Nat} {l:List cY} (hc:H (cV g) 0=true) (h:g.order[loc]?=some l):dv g (.ofNat loc)=⟨0,.ofNat loc⟩::l:=by
 have e:(Int.ofNat loc).toNat=loc:=rfl;have e2:b9 (.ofNat loc) 0=false:=by rw[show(0:Int)= .ofNat 0 from Z,jO];simp
 unfold dv
 simp_all
end Go.Ev
namespace Go.Ev
variable [Env]
theorem qz {P:Program} {G:Cx} {ev:Operand->Option U} {V:aE} {c:Call} {x y:Operand} {a b:Int} {k:IntKind} (hc:c.callee= .builtin .min) (j:c.args.toList= [x,y]) (hx:ev x=some (.int k a)) (w:ev y=some (.int k b)):ey P G ev V (.call c)= .val (.int k (bif b9 b a then b else a)) V:=by
 refine bU (by simp[kindOf,hc]) ?_;have e:s6 k k=true:=by cases k<;>rfl
 simp only[dI,hc,j,hx,w,PI,e,cond_true]
section
variable {P:Program} {G:Cx}
def OY (P:Program) (G:Cx) (f:Nat) (args:List U) (V:aE) (R:U->aE->Prop):Prop:=
 ∃(K:Nat) (v:U) (V':aE),(∀k,K<=k->mR P G (ep P G k) f args V= .ret v V')/\R v V'
end
section
variable {P:Program} {G:Cx} {ev:Operand->Option U} {V:aE}
theorem um {hi:Operand} {k:IntKind} {h' len cap:Nat} (h:ev hi=some (.int k (.ofNat h'))) (hl:h'<=cap):dE ev len cap none (some hi)=some (0,h'):=by
 simp only[dE,fh,h,show Nat.ble h' cap=true by simp_all,cond_true]
end
section
variable {P:Program} {G:Cx} {ev:Operand->Option U} {V:aE}
end
section
variable {P:Program} {G:Cx} {n:Nat} {t:PT U} {V:aE} {K:KP} {L:Own} {Q:Ex->PT U->aE->Prop} {ops:Array Oper} {o:Oper} {l:List Oper}
end
section
variable {P:Program} {G:Cx} {V:aE} {K:KP} {L:Own}
theorem z9 {α:Type} {m e:Nat} {R:α->List U->Prop} {l2:List α} {A:U} {ts:Array TypeId} {t:TypeId} (C:D V K L) (hx:bL K m R l2 A) (u:∀x vs,R x vs->cP vs=true) (hn:l2.length<=1048576) (aa:1<=l2.length)
  (E:ts[0]?=some t) (hu:P.underlying t=some (.slice e)) (w:r6 P e m=true) (F:dU P ts[1]?=true):
  ∃news,fO P V ts .az A= .val (.slice V.next 0 l2.length (.upto m)) (V.alloc (.row news e false))/\news.length=l2.length*m/\∀(i:Nat) (x:α),l2[i]?=some x->R x ((news.drop (i*m)).take m):=by
 obtain⟨news,I,M,S,T⟩:=ri C hx u;refine⟨news,?_,M,T⟩;unfold r6 at w;split at w
 ·rename_i j hj;simp only[bA_] at w;obtain⟨W,X,a3,a4⟩:=w;have hm:j.size=m:=nB W;subst hm;have B:((P.info? e).any fun j=>(j.zero.bind p6).any fun z=>(cU z).any fun cs=>Nat.beq (du cs) j.size)=true:=by rw[hj];exact a4
  have h0:Nat.beq l2.length 0=false:=by
   grind [nB]
  unfold fO;rw[E];dsimp only;rw[hu];dsimp only;rw[hj] at B⊢;dsimp only;rw[F,X,a3];simp only[Bool.and_self,cond_true];rw[I];dsimp only;rw[S,show Nat.ble l2.length 1048576=true by simp_all,B];simp only[Bool.and_self,cond_true,h0,cond_false];rfl
 cases w
end
section
variable {P:Program} {G:Cx} {n:Nat} {t:PT U} {V:aE} {K:KP} {L:Own} {Q:Ex->PT U->aE->Prop} {ops:Array Oper} {o:Oper} {l:List Oper}
end
section
variable {V:aE} {K:KP} {L:Own} {b:Nat} {o:cD}
def KP.sub (K:KP) (b:Nat):KP:=fun b' o'=>K b' o'/\b'≠b
theorem D.two {b b':Nat} {o o' o1 aa:cD} (hb:b<V.next) (j:b'<V.next) (ab:b≠b'):D (fC V b o b' o') (fun _ _=>False) [(b,o),(b',o')] where
 kept _ _ h:=h.elim
 own e he:=by
  rcases mQ_.1 he with rfl | he
  ·exact⟨hb,by show((PT.leaf.put (some o) b).put (some o') b').get b=_;grind [PT.dD,PT.dG]⟩
  rcases mQ_.1 he with rfl | he
  ·exact⟨j,PT.dG _ _ _⟩
  cases he
 ne:=List.pairwise_cons.2 ⟨fun e he=>(by simp_all),List.pairwise_singleton ..⟩
end
inductive cX (X:Own):Own->Own->Prop
 | here {L:Own}:cX X (X++L) L
 | there {y:Nat×cD} {L L0:Own}:cX X L L0->cX X (y::L) (y::L0)
 | dN {M L L0:Own}:cX X L L0->cX X (M++L) (M++L0)
theorem cX.perm {X L L0:Own} (h:cX X L L0):L.Perm (X++L0):=by
 induction h with
 | here=>simp_all
 | @there y L L0 _ ih=>exact(List.Perm.cons y ih).trans List.perm_middle.symm
 | @dN M L L0 _ ih=>
  refine(List.Perm.append_left M ih).trans ?_
  grind [List.Perm.append_right,List.perm_append_comm]
theorem cX.OG {X A B L:Own}:cX X ((A++(X++B))++L) ((A++B)++L):=by
 rw[lQ_,lQ_,lQ_];exact .dN .here
section
variable {V:aE} {K:KP} {L L0 X:Own}
theorem D.pull (h:D V K L) (hi:cX X L L0):D V K (X++L0):=h.perm hi.perm
theorem D.push (h:D V K (X++L0)) (hi:cX X L L0):D V K L:=h.perm hi.perm.symm
end
def Km (g:XG) (tm:Nat) (e:db) (fr:cY) (pl:Nat) (row:List db) (frow:List cY) (orow:List cY) (loc:Nat):XG:=
 {init:=g.init,threads:=g.threads.set tm (row++[e]),from_:=g.from_.set tm (frow++[fr]),order:=bif bI e then g.order.set loc (orow.take pl++⟨.ofNat (tm+1),.ofNat row.length⟩::orow.drop pl) else g.order}
def oq (g:XG) (th:Int) (e:db) (fr:cY) (pl:Int):Option XG×Int:=
 bif !H (cV g) 0 then(none,2) else
 bif b9 th 1 then(none,9) else
 bif b9 (.ofNat g.threads.length) th then(none,9) else
 match g.threads[th.toNat-1]?,g.from_[th.toNat-1]? with
 | some row,some frow=>
  bif !b9 (.ofNat row.length) 14 then(none,3) else
  bif (bif bI e then(bif b9 pl 1 then true else b9 (.ofNat (dv g e.loc).length) pl) else !H pl 0) then(none,2) else
  let g':=Km g (th.toNat-1) e fr (pl.toNat-1) row frow ((g.order[e.loc.toNat]?).getD []) e.loc.toNat
  bif H (cV g') 0 then(some g',0) else(none,2)
 | _,_=>(none,9)
theorem qD (b o l c:Nat):eh (.slice b o l (.known c)) (.slice b o l (.known c))=true:=by
 unfold eh;show(eh.beqP b b && Nat.beq o o && Nat.beq l l && eh.beqC (.known c) (.known c))=true
 grind [eh.beqP,Nat.beq_refl,eh.beqC]
theorem oX {us:List U} {u:U} {i:Nat} (h:i<us.length):ed [u] us (0+i*1)=us.set i u:=by
 rw[show 0+i*1=i by omega,uW _ _ _ (by grind),List.length_singleton,List.set_eq_take_append_cons_drop,if_pos h,lQ_];rfl
theorem Fj {n:Int} (h:b9 n 1=false):∃m:Nat,n= .ofNat (m+1):=by
 cases n with
 | negSucc k=>cases h
 | ofNat k=>
  have:1<=k:=bA (a:=k) (b:=1) h;exact⟨k-1,by simp_all⟩
theorem AI {m:LM} {k:List Int} (h:(fK m k).isSome=true):(lu m k).length+1=m.length:=by
 unfold fK at h;unfold lu;cases u:pX m k 0 with
 | none=>rw[u] at h;cases h
 | some p=>
  obtain⟨j,v⟩:=p;have h1:=(qQ u).2
  grind
theorem vt {loc:Nat}:∀{l:List cY} {m m':LM},lD loc l m=some m'->m'.length+l.length=m.length
 | [],m,m',h=>by cases h;rfl
 | id::l,m,m',h=>by
  have h':(bif (fK m id.ints).isSome then(bif H ((fK m id.ints).getD 0) (.ofNat loc) then lD loc l (lu m id.ints) else none) else none)=some m':=h;cases j:(fK m id.ints).isSome with
  | false=>rw[j] at h';cases h'
  | true=>
   rw[j] at h';cases he:H ((fK m id.ints).getD 0) (.ofNat loc) with
   | false=>rw[he] at h';cases h'
   | true=>
    rw[he] at h';have h1:=vt (l:=l) h';have h2:=AI j;rw[List.length_cons];omega
theorem vu:∀{ls:List (List cY)} {loc:Nat} {m m':LM},nm ls loc m=some m'->∀l∈ls,l.length<=m.length
 | [],_,_,_,_,l,hl=>by cases hl
 | r::ls,loc,m,m',h,l,hl=>by
  have h':(lD loc r m).bind (nm ls (loc+1))=some m':=h;cases j:lD loc r m with
  | none=>simp_all
  | some m1=>
   rw[j] at h';have h1:=vt j;rcases mQ_.1 hl with rfl | hl
   ·omega
   have:=vu (ls:=ls) h' l hl;omega
theorem CF {t:Nat} {m:LM} {n:Nat} {e:db}:(xJ t m n e).length<=m.length+1:=by
 unfold xJ;cases bI e with
 | false=>simp_all
 | true=>
  show(pY m _ _).length<=_;unfold pY
  grind
theorem vH {t:Nat}:∀{l:List db} {n:Nat} {m:LM},(rv t l n m).length<=m.length+l.length
 | [],_,_=>nR_ _
 | e::l,n,m=>by
  have h1:=vH (t:=t) (l:=l) (n:=n+1) (m:=xJ t m n e);have h2:=CF (t:=t) (m:=m) (n:=n) (e:=e);show(rv t l (n+1)<|xJ t m n e).length<=_;rw[List.length_cons];omega
theorem vI:∀{ls:List (List db)} {t:Nat} {m:LM},(∀l∈ls,l.length<=14)->(pA ls t m).length<=m.length+14*ls.length
 | [],_,_,_=>by simp[pA]
 | l::ls,t,m,h=>by
  have h1:=vI (ls:=ls) (t:=t+1) (m:=rv t l 0 m) fun x hx=>h x (mC_ _ hx)
  have h2:=vH (t:=t) (l:=l) (n:=0) (m:=m);have h3:=h l (mS_ ..);show(pA ls (t+1)<|rv t l 0 m).length<=_;rw[List.length_cons];omega
theorem C5 {g:XG} (h:cV g=0):∀l∈g.order,l.length<=56:=by
 intro l hl;obtain⟨b1,b2,j,b4,b5,b6,u⟩:=gz h;unfold eV at u;cases hc:nm g.order 0 (pA g.threads 0 []) with
 | none=>simp_all
 | some m=>
  have h1:=vu hc l hl;have h2:=vI (ls:=g.threads) (t:=0) (m:=[]) j
  grind
end Go.Ev
namespace Go.Ev
variable [Env]
end Go.Ev
namespace Go.Ev
variable [Env]
theorem Ji {g:XG} {th pl:Int} {e:db} {fr:cY} (h:H (cV g) 0=false):oq g th e fr pl=(none,2):=by unfold oq;rw[h];rfl
theorem Jj {g:XG} {th pl:Int} {e:db} {fr:cY} (h:H (cV g) 0=true) (h1:b9 th 1=true):oq g th e fr pl=(none,9):=by unfold oq;rw[h,h1];rfl
theorem Jh {g:XG} {th pl:Int} {e:db} {fr:cY} (h:H (cV g) 0=true) (h1:b9 th 1=false) (j:b9 (.ofNat g.threads.length) th=true):oq g th e fr pl=(none,9):=by unfold oq;rw[h,h1,j];rfl
def kQ (g:XG) (e:db) (pl:Int):Bool:=bif bI e then(bif b9 pl 1 then true else b9 (.ofNat (dv g e.loc).length) pl) else !H pl 0
def ku (g:XG) (tm:Nat) (e:db) (fr:cY) (pl:Int) (row:List db) (frow:List cY):XG:=Km g tm e fr (pl.toNat-1) row frow ((g.order[e.loc.toNat]?).getD []) e.loc.toNat
theorem MG {g:XG} {tm:Nat} {pl:Int} {e:db} {fr:cY} {row:List db} {frow:List cY} (h:H (cV g) 0=true) (hx:g.threads[tm]?=some row) (hf:g.from_[tm]?=some frow):
  oq g (.ofNat (tm+1)) e fr pl=bif !b9 (.ofNat row.length) 14 then(none,3) else bif kQ g e pl then(none,2) else bif H (cV<|ku g tm e fr pl row frow) 0 then(some<|ku g tm e fr pl row frow,0) else(none,2):=by
 have aa:tm<g.threads.length:=(gA.1 hx).1;have h1:b9 (.ofNat (tm+1)) 1=false:=by rw[show(1:Int)= .ofNat 1 from Z,jO];simp
 have j:b9 (.ofNat g.threads.length) (.ofNat (tm+1))=false:=by rw[jO];simp;omega
 have e1:(Int.ofNat (tm+1)).toNat-1=tm:=rfl;unfold oq;rw[h,h1,j];simp only[Bool.not_true,cond_false,e1,hx,hf];rfl
end Go.Ev
namespace Go.Ev
variable [Env]
theorem FY {g:XG} {loc:Int} (h:1<=(dv g loc).length):∃(ln:Nat) (r:List cY),loc= .ofNat ln/\g.order[ln]?=some r/\(dv g loc).length=r.length+1:=by
 cases hc:H (cV g) 0 with
 | false=>rw[tZ hc] at h;cases h
 | true=>
  cases hl:b9 loc 0 with
  | true=>rw[vZ hl] at h;cases h
  | false=>
   obtain⟨ln,rfl⟩:=kA hl;cases j:g.order[ln]? with
   | none=>
    grind [vY]
   | some r=>exact⟨ln,r,Z,j,by rw[fX hc j];rfl⟩
section
variable {V V0:aE} {K:KP} {L M:Own}
theorem D.Ha (h0:D V0 K (M++L)) (h:D V (K.g9 M) L):D V K (M++L) where
 kept b o hb:=by
  obtain⟨h1,j,m⟩:=h.kept b o (.inl hb);refine⟨h1,j,fun e he=>?_⟩;rcases List.mem_append.1 he with he | he
  ·exact(h0.kept b o hb).2.2 e (List.mem_append_left _ he)
  exact m e he
 own e he:=by
  rcases List.mem_append.1 he with he | he
  ·exact⟨(h.kept e.1 e.2 (.inr he)).1,(h.kept e.1 e.2 (.inr he)).2.1⟩
  exact h.own e he
 ne:=h0.ne
end
end Go.Ev
namespace Go.Ev
variable [Env]
inductive pC:Own->Own->Own->Prop
 | base {L:Own}:pC L [] L
 | there {x:Nat×cD} {LL M L:Own}:pC LL M L->pC (x::LL) (x::M) L
 | dN {A LL M L:Own}:pC LL M L->pC (A++LL) (A++M) L
theorem pC.eq {LL M L:Own} (h:pC LL M L):LL=M++L:=by
 induction h with
 | base=>rfl
 | there _ ih=>rw[ih];rfl
 | dN _ ih=>simp_all
theorem D.app {V:aE} {K:KP} {LL M L:Own} (h:D V K LL) (j:pC LL M L):D V K (M++L):=by rw[<-j.eq];exact h
theorem Nr {g:XG} {tm ln pm:Nat} {e:db} {fr:cY} {row:List db} {frow orow:List cY} (hw:bI e=true) (hl:e.loc= .ofNat ln) (ho:g.order[ln]?=some orow):
  ku g tm e fr (.ofNat (pm+1)) row frow= {init:=g.init,threads:=g.threads.set tm (row++[e]),from_:=g.from_.set tm (frow++[fr]),order:=g.order.set ln (orow.take pm++⟨.ofNat (tm+1),.ofNat row.length⟩::orow.drop pm)}:=by
 have e1:(Int.ofNat (pm+1)).toNat-1=pm:=rfl;have e2:(Int.ofNat ln).toNat=ln:=rfl;unfold ku Km
 simp_all
section
variable {P:Program} {G:Cx} {n:Nat} {t:PT U} {V:aE} {K:KP} {L:Own} {Q:Ex->PT U->aE->Prop} {ops:Array Oper} {o:Oper} {l:List Oper}
def mN (P:Program) (G:Cx) (b:Pos) (args:List U) (V:aE) (R:U->aE->Prop):Prop:=
 ∃(K:Nat) (v:U) (V':aE),(∀k,K<=k->mB (ep P G k) b args V= .ret v V')/\R v V'
theorem mN.mono {b:Pos} {args:List U} {R R':U->aE->Prop} (h:mN P G b args V R) (hq:∀v V',R v V'->R' v V'):mN P G b args V R':=
 let ⟨K,v,V',h1,j⟩:=h;⟨K,v,V',h1,hq _ _ j⟩
def js (st:LoopState) (tm:PT U) (m:Nat) (ps:List Nat) (sa bd:Code) (bm:Pos):cD:=.loop st none tm m ps sa bd bm
theorem J4 {b bm:Pos} {args:List U} {R:U->aE->Prop} {tm:PT U} {m:Nat} {ps:List Nat} {sa bd:Code} {t:PT U} (hl:V.m.get b=some (js .ready tm m ps sa bd bm)) (hp:uN m ps args tm=some t)
  (h:Ev P G sa m t V fun e w j=>e= .normal/\j.m.get b=some (js .ready tm m ps sa bd bm)/\Ev P G bd m w (j.setObj b<|js .busy tm m ps sa bd bm) fun e _ u=>e= .normal/\u.m.get b=some (js .busy tm m ps sa bd bm)/\R (.bool true) (u.setObj b<|js .ready tm m ps sa bd bm)):mN P G b args V R:=by
 obtain⟨z,e1,w,j,h1,rfl,A,B,e2,t2,u,C,rfl,h4,h5⟩:=h;refine⟨max z B,.bool true,_,fun k hk=>?_,h5⟩;unfold mB;rw[hl];dsimp only[js];rw[hp];dsimp only;rw[h1 [] (some b) k oM];dsimp only;rw[A];dsimp only[js];have:=C [] (some b) k oM;unfold js at this h4;rw[this];dsimp only[zA];simp only[cond_false];rw[h4];rfl
theorem Ou {ev:Operand->Option U} {c:Call} {f:Operand} {b:Pos} {args:List U} (hc:c.callee= .value f) (hf:ev f=some (.yield b)) (j:nL ev c.args.toList=some args):ey P G ev V (.call c)= .round b args V:=by
 refine rm (by simp[kindOf,hc]) ?_;simp only[ig,hc,hf,j,y8]
theorem NI {b:Pos} {args:List U} {t':U->PT U} {R:U->aE->Prop} (hw:bM ops t o=some true) (hv:ey P G (bB G t) V o.op= .round b args V) (hp:∀v,dJ t n o.dst v=some (t' v))
  (hc:mN P G b args V R) (h:∀v V',R v V'->bS P G ops n l (t' v) V' Q):bS P G ops n (o::l) t V Q:=by
 obtain⟨j,v,V',h1,m⟩:=hc;obtain⟨u,e,w,z,A,h4⟩:=h v V' m;refine⟨max j u,e,w,z,fun d k hk=>?_,h4⟩;show iB P G (ep P G k) true ops n o t V (tw P G (ep P G k) ops n d l)=_;have e1:=h1 k oM;have e2:=A d k oM;unfold iB;rw[hw];dsimp only;rw[hv];dsimp only[lj];rw[e1];dsimp only;rw[hp];exact e2
def Ms (P:Program) (G:Cx) (c:Code) (n:Nat) (t:PT U) (V:aE) (Q:List DE->Ex->PT U->aE->Prop):Prop:=
 ∃(K:Nat) (D_:List DE) (e:Ex) (t':PT U) (V':aE),(∀d k,K<=k->ep P G k c t n d none V= .ok e t' (D_++d) V')/\Q D_ e t' V'
theorem xl {c:Code} {Q:List DE->Ex->PT U->aE->Prop} (h:Ev P G c n t V (Q [])):Ms P G c n t V Q:=by
 obtain⟨K,e,t',V',h1,j⟩:=h;exact⟨K,[],e,t',V',fun d k hk=>h1 d none k hk,j⟩
def OR (P:Program) (G:Cx) (n:Nat) (b:Code) (Q:List DE->Ex->PT U->aE->Prop) (D_:List DE) (e:Ex) (t:PT U) (V:aE):Prop:=
 match e with
 | .normal=>Ms P G b n t V fun D2=>Q (D2++D_)
 | e=>Q D_ e t V
theorem s8 {a b:Code} {Q:List DE->Ex->PT U->aE->Prop} (h:Ms P G a n t V (OR P G n b Q)):Ms P G (.seq a b) n t V Q:=by
 obtain⟨K,D_,e,t',V',h1,m⟩:=h
 have step:∀d k,K<=k->ep P G (k+1) (.seq a b) t n d none V=wa (.ok e t' (D_++d) V') (fun t d V=>ep P G k b t n d none V):=fun d k hk=>by
  show wa (ep P G k a t n d none V) (fun t d V=>ep P G k b t n d none V)=_;rw[h1 d k hk]
 cases e with
 | normal=>
  obtain⟨u,w,z,A,B,C,h4⟩:=m;refine⟨max K u+1,w++D_,z,A,B,fun d k hk=>?_,h4⟩;obtain⟨j,rfl⟩:∃j,k=j+1:=⟨k-1,by omega⟩;rw[step d j oM,lQ_];exact C (D_++d) j oM
 | _=>
  refine⟨K+1,D_,_,t',V',fun d k hk=>?_,m⟩;obtain⟨j,rfl⟩:∃j,k=j+1:=⟨k-1,by omega⟩;rw[step d j oM];rfl
theorem jW {b:Code} {Q:List DE->Ex->PT U->aE->Prop} {D_:List DE} (h:Ms P G b n t V fun j=>Q (j++D_)):OR P G n b Q D_ .normal t V:=h
theorem HJ {id:Nat} {b:Code} {Q:List DE->Ex->PT U->aE->Prop} (h:Ms P G b n t V fun D_ e t' V'=>e= .normal/\Q D_ .normal t' V'):Ms P G (.block id b) n t V Q:=by
 obtain⟨K,D_,e,t',V',h1,rfl,m⟩:=h;refine⟨K+1,D_,.normal,t',V',fun d k hk=>?_,m⟩;obtain⟨j,rfl⟩:∃j,k=j+1:=⟨k-1,by omega⟩;show r9 id (ep P G j b t n d none V)=_;rw[h1 d j oM];rfl
theorem HK {g:Operand} {ps:Array Tmp} {sa bd:Code} {f:Nat} {fi ca:List U} {Q:List DE->Ex->PT U->aE->Prop} (ar:D V K L) (B:bB G t g=some (.func f fi ca)) (u:xM P f=true)
  (h:∀(bm bl:Pos) (z:aE),D z K ((bl,js .ready t n ps.toList sa bd bm)::(bm,.mark)::L)->bu P G f (fi++(.yield bl::ca)) z fun _ w=>w.m.get bl=some (js .ready t n ps.toList sa bd bm)/\Q [.mark bm] .normal t (w.setObj bl<|js .exhausted t n ps.toList sa bd bm)):Ms P G (.rangeFunc g ps sa bd) n t V Q:=by
 obtain⟨C,v,w,h1,A,E⟩:=h V.next (V.alloc .mark).next ((V.alloc .mark).alloc<|js .ready t n ps.toList sa bd V.next) ((ar.alloc .mark).alloc _);refine⟨C+1,[.mark V.next],.normal,t,_,fun d k hk=>?_,E⟩;obtain⟨j,rfl⟩:∃j,k=j+1:=⟨k-1,by omega⟩;show uP P G (ep P G j) g ps sa bd t n d none V=_;unfold uP xT;dsimp only;rw[B];dsimp only;rw[u,eb];have e1:=h1 j oM;unfold js at e1 A;simp only[cond_true];rw[e1];dsimp only;unfold Ed;rw[A];rfl
def QN (P:Program) (fn:Func) (R:U->aE->Prop) (D_:List DE) (e:Ex) (t:PT U) (V:aE):Prop:=
 (e= .normal∨e= .ret)/\match D_ with
  | []=>∃v,eG P fn t V=some v/\R v V
  | [.mark b]=>V.m.get b=some .mark/\∃v,eG P fn t (V.setObj b .dead)=some v/\R v (V.setObj b .dead)
  | _=>False
theorem JZ (u:Plain G) {f:Nat} {fn:Func} {c:Code} {args:List U} {R:U->aE->Prop} (hf:P.funcs[f]?=some fn) (hb:fn.body=some c) (A:rD fn.ntmps args=some t)
  (h:Ms P G c fn.ntmps t V (QN P fn R)) (hk:Nat.beq f Ku=false:=by rfl) (hl:KG f=false:=by rfl):bu P G f args V R:=by
 obtain⟨K,D_,e,t',V',h1,he,z⟩:=h
 have key:∃V'' v,(∀k,uE P G (ep P G k) D_ .ret V'=some (.ret,V''))/\eG P fn t' V''=some v/\R v V'':=by
  match D_,z with
  | [],⟨v,j,h4⟩=>exact⟨V',v,fun _=>Z,j,h4⟩
  | [.mark b],⟨j,v,h4,h5⟩=>
   refine⟨_,v,fun k=>?_,h4,h5⟩;show(match V'.m.get b with | some .mark=>some (Md.ret,V'.setObj b .dead) | _=>none)=_;rw[j]
 obtain⟨V'',v,j,h4,h5⟩:=key;refine⟨K,v,V'',fun k w=>?_,h5⟩;unfold lr;rw[u.h1];dsimp only;rw[u.h2 _ _ hl];dsimp only;rw[u.h4];dsimp only;rw[u.h5 _ hk];simp only[cond_false];unfold mR;rw[hf];dsimp only;rw[hb,A];dsimp only;have:=h1 [] k w;rw[List.append_nil] at this;rw[this];rcases he with rfl | rfl<;>
 ·dsimp only;unfold yP;rw[j k];dsimp only;rw[h4]
theorem HL {b bm:Pos} {args:List U} {R:U->aE->Prop} {tm:PT U} {m:Nat} {ps:List Nat} {sa bd:Code} {t:PT U} (ar:D V K ((b,js .ready tm m ps sa bd bm)::L)) (hp:uN m ps args tm=some t)
  (h:Ev P G sa m t V fun e w z=>e= .normal/\∃j,D z K ((b,js .ready tm m ps sa bd bm)::j)/\∀A,D A K ((b,js .busy tm m ps sa bd bm)::j)->Ev P G bd m w A fun e _ B=>e= .normal/\∃u,D B K ((b,js .busy tm m ps sa bd bm)::u)/\∀C,D C K ((b,js .ready tm m ps sa bd bm)::u)->R (.bool true) C):mN P G b args V R:=by
 refine J4 (ar.get 0 Z) hp<|h.mono fun e w z ⟨he,j,h1,F⟩=>⟨he,h1.get 0 Z,(F _<|h1.uU _).mono fun e _ B ⟨he,u,E,h4⟩=>⟨he,E.get 0 Z,h4 _<|E.uU _⟩⟩
theorem EJ {g:Operand} {ps:Array Tmp} {sa bd:Code} {f:Nat} {fi ca:List U} {Q:List DE->Ex->PT U->aE->Prop} (ar:D V K L) (C:bB G t g=some (.func f fi ca)) (m:xM P f=true)
  (h:∀(bm bl:Pos) (j:aE),D j K ((bl,js .ready t n ps.toList sa bd bm)::(bm,.mark)::L)->bu P G f (fi++(.yield bl::ca)) j fun _ z=>∃u w,D z u ((bl,js .ready t n ps.toList sa bd bm)::w)/\∀A,D A u w->Q [.mark bm] .normal t A):Ms P G (.rangeFunc g ps sa bd) n t V Q:=
 HK ar C m fun bm bl j h1=>(h bm bl j h1).mono fun _ z ⟨u,w,B,E⟩=>⟨B.get 0 Z,E _ (B.uU _).pop⟩
theorem HF {fn:Func} {R:U->aE->Prop} {bm:Pos} (ar:D V K ((bm,.mark)::L)) (h:∀V',D V' K L->∃v,eG P fn t V'=some v/\R v V'):QN P fn R [.mark bm] .ret t V:=
 ⟨.inr Z,ar.get 0 Z,h _ (ar.uU _).pop⟩
theorem D.L8 {V0:aE} {M j:Own} (h0:D V0 K (M++j)) (h:D V (K.g9 M) L):D V K (M++L) where
 kept b o hb:=by
  obtain⟨h1,m,u⟩:=h.kept b o (.inl hb);refine⟨h1,m,fun e he=>?_⟩;rcases List.mem_append.1 he with he | he
  ·exact(h0.kept b o hb).2.2 e (List.mem_append_left _ he)
  exact u e he
 own e he:=by
  rcases List.mem_append.1 he with he | he
  ·exact⟨(h.kept e.1 e.2 (.inr he)).1,(h.kept e.1 e.2 (.inr he)).2.1⟩
  exact h.own e he
 ne:=List.pairwise_append.2 ⟨(List.pairwise_append.1 h0.ne).1,h.ne,fun a w b hb e=>(h.kept a.1 a.2 (.inr w)).2.2 b hb e.symm⟩
theorem Fh {α:Type} (M O_ L:List α) (x a b c:α):(M++x::a::b::c::(O_++L)).Perm (a::c::(O_++(x::b::(M++L)))):=by
 classical
 rw[List.perm_iff_count];intro y;simp only[List.count_append,List.count_cons];omega
end
section
variable {P:Program} {G:Cx} {ev:Operand->Option U} {V:aE} {K:KP} {L:Own}
theorem kO {t:TypeId} {x i:Operand} {s:List Nat} {n c:Nat} {k:IntKind} (j:P.underlying t=some .string) (hx:ev x=some (.str s)) (hi:ev i=some (.int k (.ofNat n))) (hc:s[n]?=some c):ey P G ev V (.index t x i)= .val (.int .u8 (.ofNat c)) V:=by
 refine bU Z ?_;simp only[dI,j,hx,hi,fG,hc]
theorem ft {t e n m j off:Nat} {b:Pos} {x i:Operand} {k:IntKind} (w:P.underlying t=some (.array n e)) (hj:(P.info? e).map (·.size)=some m) (hx:ev x=some (.ptr b off)) (hi:ev i=some (.int k (.ofNat j))) (z:j<n):ey P G ev V (.indexAddr t x i)= .val (.ptr b (off+j*m)) V:=by
 refine bU Z ?_;obtain⟨q,hq,rfl⟩:=oM_.1 hj;simp only[dI,w,hx,hi,hq,show Nat.ble (Nat.succ j) n=true by rw[nE_];exact z,cond_true]
theorem dK {x:Operand} {b:Pos} {off:Nat} (hx:ev x=some (.ptr b off)):ey P G ev V (.nilCheck x)= .val (.ptr b off) V:=bU Z (by simp only[dI,hx])
theorem OW {c:Call} {x y:Operand} {a b:Int} {k:IntKind} (hc:c.callee= .builtin .max) (j:c.args.toList= [x,y]) (hx:ev x=some (.int k a)) (w:ev y=some (.int k b)):ey P G ev V (.call c)= .val (.int k (bif b9 a b then b else a)) V:=by
 refine bU (by simp[kindOf,hc]) ?_;have e:s6 k k=true:=by cases k<;>rfl
 simp only[dI,hc,j,hx,w,PH,e,cond_true]
theorem jP {α:Type} {f:α->U} {l:List α} {i off:Nat} {x:α} (h:l[i]?=some x) (j:off=i):nth (l.map f) off=some (f x):=by
 subst j;rw[fG,gM_,h];rfl
theorem eK {α:Type} {f:α->U} {l:List α} {i off:Nat} {v:α} (h:i<l.length) (ho:off=i):ed [f v] (l.map f) off=(l.set i v).map f:=by
 grind [oX,List.map_set]
theorem jk {α:Type} {f:α->U} (v:α) (n:Nat):fp [f v] n=(List.replicate n v).map f:=by rw[kH,List.map_replicate]
end
def pz {α:Type} (m E:Nat) (R:α->List U->Prop) (l:List α) (u:U) (M:Own):Prop:=
 (l= []/\u= .az/\M= [])∨∃(b:Nat) (c:uc) (cells:List U) (e:Nat),u= .slice b 0 l.length c/\M= [(b,.row cells e false)]/\l.length*m<=cells.length/\(∀(i:Nat) (x:α),l[i]?=some x->R x ((cells.drop (i*m)).take m))/\((∃n,c= .known n/\l.length<=n/\n*m<=cells.length)∨(c= .upto m/\e=E))/\l.length<=1048576
section
variable {α:Type} {m E:Nat} {R:α->List U->Prop} {l:List α} {u:U} {M:Own} {K:KP}
theorem cZ.Sk (h:cZ m E R l u M):pz m E R l u M:=by
 rcases h with h | ⟨b,c,cells,e,h1,j,h3,h4,h5,w⟩
 ·exact .inl h
 refine .inr ⟨b,c,cells,e,h1,j,by omega,h4,?_,w⟩
 grind
theorem pz.jK (h:pz m E R l u M) (hk:∀e∈M,K e.1 e.2):bL K m R l u:=by
 rcases h with ⟨h1,j,_⟩ | ⟨b,c,cells,e,rfl,rfl,h3,h4,h5,h6⟩
 ·exact .inl ⟨h1,j⟩
 refine .inr ⟨b,0,c,cells,e,false,Z,?_,hk _<|mS_ ..,by omega,by omega,fun i x hx=>by simp_all⟩;rcases h5 with ⟨n,h5,w,_⟩ | h5
 ·exact .inr ⟨_,h5,w⟩
 exact .inl h5.1
theorem FZ {P:Program} {G:Cx} {ev:Operand->Option U} {V:aE} {c:Call} {t e:TypeId} {x:Operand} (h:pz m E R l u M) (hc:c.callee= .builtin .len) (j:c.argTypes[0]?=some t) (w:c.args.toList= [x]) (hu:P.underlying t=some (.slice e)) (hx:ev x=some u):
  ey P G ev V (.call c)= .val (.int .i64 (.ofNat l.length)) V:=
 aZ (K:=fun b o=>(b,o)∈M) (h.jK fun e he=>he) hc j w hu hx
theorem pz.take (h:pz m E R l u M) {P:Program} {ev:Operand->Option U} {t:TypeId} {x hi:Operand} {kk:IntKind} {k:Nat} (hk:k<=l.length) (hu:P.underlying t=some (.slice E)) (hj:(P.info? E).map (·.size)=some m) (hx:ev x=some u) (z:ev hi=some (.int kk (.ofNat k))):
  ∃u',gF P ev t x none (some hi) none=some u'/\pz m E R (l.take k) u' M:=by
 obtain⟨j,w,rfl⟩:=oM_.1 hj;rcases h with ⟨rfl,rfl,rfl⟩ | ⟨b,c,cells,e,rfl,rfl,B,h4,h5,h6⟩
 ·obtain rfl:k=0:=by simpa using hk
  refine⟨.az,?_,.inl ⟨Z,Z,Z⟩⟩;have:dE ev 0 0 none (some hi)=some (0,0):=um z (nR_ _);simp only[gF,hu,hx,w,this]
 have hl:(l.take k).length=k:=by simp_all
 have A:∀(i:Nat) (x:α),(l.take k)[i]?=some x->R x ((cells.drop (i*j.size)).take j.size):=fun i x hi=>by
  grind
 have hle:k*j.size<=cells.length:=Nat.le_trans (nM_ _ hk) B;rcases h5 with ⟨n,rfl,h7,C⟩ | ⟨rfl,rfl⟩
 ·refine⟨.slice b 0 k (.known n),?_,.inr ⟨b,.known n,cells,e,by rw[hl],Z,by rw[hl];exact hle,A,.inl ⟨n,Z,by rw[hl];omega,C⟩,by rw[hl];omega⟩⟩;have:dE ev l.length n none (some hi)=some (0,k):=um z oM;simp only[gF,hu,hx,cutAt,this,cut,w]
  simp_all
 refine⟨.slice b 0 k (.upto j.size),?_,.inr ⟨b,.upto j.size,cells,e,by rw[hl],Z,by rw[hl];exact hle,A,.inr ⟨Z,Z⟩,by rw[hl];omega⟩⟩;have:dE ev l.length l.length none (some hi)=some (0,k):=um z hk;simp only[gF,hu,hx,this,w,show Nat.beq j.size j.size=true from Nat.beq_refl _,cond_true,Nat.zero_mul,Nat.sub_zero,Nat.add_zero]
end
section
variable {α:Type} {m E:Nat} {R:α->List U->Prop}
theorem y6 {l l2:List α} {cells news Zv:List U} (hl:l.length*m<=cells.length) (h1:∀(i:Nat) (x:α),l[i]?=some x->R x ((cells.drop (i*m)).take m)) (hn:news.length=l2.length*m) (w:∀(i:Nat) (x:α),l2[i]?=some x->R x ((news.drop (i*m)).take m)):
  ∀(i:Nat) (x:α),(l++l2)[i]?=some x->R x (((cells.take (l.length*m)++(news++Zv)).drop (i*m)).take m):=by
 intro i x hx;have z:(cells.take (l.length*m)).length=l.length*m:=by simp_all
 by_cases hi:i<l.length
 ·rw[gL_ hi] at hx;have hle:(i+1)*m<=l.length*m:=nM_ _ hi
  grind [List.drop_take]
 rw[gR_ oM] at hx;have hlt:=(gA.1 hx).1;have hle:l.length*m<=i*m:=nM_ _ oM;have j:(i-l.length+1)*m<=l2.length*m:=nM_ _ hlt;rw[Nat.succ_mul] at j;rw[List.drop_append,List.drop_eq_nil_of_le oM,List.nil_append,z,<-Nat.sub_mul,List.drop_append_of_le_length oM,List.take_append_of_le_length (by grind)];exact w _ x hx
section
variable {P:Program} {K:KP} {L:Own}
theorem C6 {l l2:List α} {u v2:U} {M:Own} {bv ev e:Nat} {cv:List U} {ts:Array TypeId} {t:TypeId} {V:aE} (ho:pz m e R l u M) (ar:D V K ((bv,.row cv ev false)::(M++L)))
  (hx:bL (K.add bv (.row cv ev false)) m R l2 v2) (w:∀x vs,R x vs->cP vs=true) (hn:l2.length<=1000) (Q:1<=l2.length) (hl:l.length<=1000000)
  (ht:ts[0]?=some t) (hu:P.underlying t=some (.slice e)) (I:r6 P e m=true) (h2:dU P ts[1]?=true):
  ∃V' u' M',fO P V ts u v2= .val u' V'/\pz m e R (l++l2) u' M'/\D V' K (M'++L):=by
 have hk:=ar.jE;have A:D V K (M++L):=hk.weaken (KP.pU _ _ _);rcases ho with ⟨rfl,rfl,rfl⟩ | ⟨b,c,cells,e',rfl,rfl,h3,h4,h5,h6⟩
 ·obtain⟨news,k1,k2,k3⟩:=z9 (P:=P) hk hx w oM Q ht hu I h2;exact⟨_,_,[(V.next,.row news e false)],k1,.inr ⟨_,_,news,e,Z,Z,by simp_all,k3,.inr ⟨Z,Z⟩,by grind⟩,((hk.alloc (.row news e false)).weaken<|KP.pU _ _ _)⟩
 obtain⟨news,s1,X,s3,s4⟩:=ri hk hx w;unfold r6 at I;split at I
 ·rename_i j hj;simp only[bA_] at I;obtain⟨a1,a2,a3,a4⟩:=I;have hm:j.size=m:=nB a1;subst hm;have hz:((P.info? e).any fun j=>(j.zero.bind p6).any fun z=>(cU z).any fun cs=>Nat.beq (du cs) j.size)=true:=by rw[hj];exact a4
  have hb:=A.get 0 Z;have hlen:(l++l2).length=l.length+l2.length:=lA_;have hmul:(l.length+l2.length)*j.size=l.length*j.size+l2.length*j.size:=Nat.add_mul ..;unfold fO;rw[ht];dsimp only;rw[hu];dsimp only;rw[hj];dsimp only;rw[h2,a2,a3];simp only[Bool.and_self,cond_true];rw[s1];dsimp only;rw[hj] at hz;rw[s3,show Nat.ble l2.length 1048576=true by rw[nE_];omega,hz];simp only[Bool.and_self,cond_true];have hle:Nat.ble (0+l.length*j.size) (du cells)=true:=by rw[nE_,bY];omega
  have B:takeN (dW cells 0) (l.length*j.size)=cells.take (l.length*j.size):=by rw[dR,eA,List.drop_zero]
  have S:Nat.ble l.length 1048576=true:=by simp_all
  have hA:(cells.take (l.length*j.size)).length=l.length*j.size:=by simp_all
  have aa:l.length*j.size+news.length<=cells.length->ed news cells (0+l.length*j.size)=cells.take (l.length*j.size)++(news++cells.drop (l.length*j.size+news.length)):=fun hh=>by
   rw[nA_,uW _ _ _ oM,lQ_]
  have T:l.length*j.size+news.length<=cells.length->∀c',((∃n,c'=uc.known n/\(l++l2).length<=n/\n*j.size<=cells.length)∨(c'=uc.upto j.size/\e'=e))->pz j.size e R (l++l2) (.slice b 0 (l.length+l2.length) c') [(b,.row (ed news cells (0+l.length*j.size)) e' false)]:=fun hh c' F=>by
   have ab:(ed news cells (0+l.length*j.size)).length=cells.length:=by
    grind
   refine .inr ⟨b,c',_,e',by rw[hlen],Z,by simp_all,?_,by rw[ab];exact F,by rw[hlen];omega⟩;rw[aa hh];exact y6 h3 h4 X s4
  have W:pz j.size e R (l++l2) (.slice V.next 0 (l.length+l2.length) (.upto j.size)) [(V.next,.row (cells.take (l.length*j.size)++news) e false)]:=by
   refine .inr ⟨_,_,_,e,by rw[hlen],Z,by simp_all,?_,.inr ⟨Z,Z⟩,by rw[hlen];omega⟩;have:=y6 (Zv:=[]) h3 h4 X s4
   simp_all
  rcases h5 with ⟨n,rfl,h7,h8⟩ | ⟨rfl,rfl⟩
  ·dsimp only;cases hc:Nat.ble (l.length+l2.length) n with
   | true=>
    have F:l.length+l2.length<=n:=by simp_all
    have C:l.length*j.size+news.length<=cells.length:=by
     have:(l.length+l2.length)*j.size<=n*j.size:=nM_ _ F;rw[X];omega
    simp only[cond_true];rw[hb];dsimp only;rw[show Nat.ble (0+l.length*j.size+du news) (du cells)=true by rw[nE_,bY,bY];omega];simp only[cond_true];exact⟨_,_,[(b,_)],Z,T C _ (.inl ⟨n,Z,by rw[hlen];exact F,h8⟩),A.uU _⟩
   | false=>
    simp only[cond_false];rw[hb];dsimp only;rw[hle,S,B,eb];simp only[Bool.and_self,cond_true];exact⟨_,_,[(V.next,_)],Z,W,((A.alloc _).perm<|List.Perm.swap ..).pop⟩
  dsimp only
  have:Nat.beq l2.length 0=false:=by
   grind [nB]
  rw[this,Nat.beq_refl,S];simp only[Bool.and_self,cond_true,cond_false];rw[hb];dsimp only;cases hf:(Nat.ble 1 l.length && Nat.ble (0+l.length*j.size+du news) (du cells)) with
  | true=>
   have C:l.length*j.size+news.length<=cells.length:=by
    rw[bA_,nE_,nE_,bY,bY] at hf;omega
   simp only[cond_true];exact⟨_,_,[(b,_)],Z,T C _ (.inr ⟨Z,Z⟩),A.uU _⟩
  | false=>
   simp only[cond_false];rw[hle,Nat.beq_refl,B,eb];simp only[Bool.and_self,cond_true];exact⟨_,_,[(V.next,_)],Z,W,A.A0 _⟩
 cases I
end
end
abbrev Rn:=Nat->Nat->Bool
def cS:Nat->(Nat->Bool)->Nat
 | 0,_=>0
 | n+1,p=>cS n p ||| (bif p n then 2 ^ n else 0)
theorem dt:∀(n:Nat) (p:Nat->Bool) (j:Nat),(cS n p).testBit j=(decide (j<n) && p j)
 | 0,p,j=>by simp[cS]
 | n+1,p,j=>by
  unfold cS;rw[Nat.testBit_or,dt n p j]
  by_cases h:j=n
  ·subst h;cases hp:p j<;>simp[Nat.testBit_two_pow]
  have m:decide (j<n+1)=decide (j<n):=by simp;omega
  rw[m];cases hp:p n<;>simp[Nat.testBit_two_pow]<;>omega
theorem Jr (n:Nat) (p:Nat->Bool):cS n p<2 ^ n:=by
 refine Nat.lt_pow_two_of_testBit _ fun i hi=>?_
 rw[dt];simp;omega
theorem gy {n:Nat} (h:n<=64) (p:Nat->Bool):cS n p<2 ^ 64:=Nat.lt_of_lt_of_le (Jr n p) (Nat.pow_le_pow_right oM h)
theorem vq {n:Nat} {p q:Nat->Bool} (h:∀j,j<n->p j=q j):cS n p=cS n q:=by
 refine Nat.eq_of_testBit_eq fun i=>?_
 rw[dt,dt]
 by_cases hi:i<n
 ·rw[h i hi]
 simp[hi]
theorem BX (n:Nat) (p q:Nat->Bool):cS n p ||| cS n q=cS n fun j=>p j || q j:=by
 refine Nat.eq_of_testBit_eq fun i=>?_
 rw[Nat.testBit_or,dt,dt,dt];cases decide (i<n)<;>simp
theorem Hq (n:Nat) (p q:Nat->Bool):cS n p &&& cS n q=cS n fun j=>p j && q j:=by
 refine Nat.eq_of_testBit_eq fun i=>?_
 rw[Nat.testBit_and,dt,dt,dt];cases decide (i<n)<;>simp
theorem lN {n j:Nat} (p:Nat->Bool) (h:j<n):cS n p ||| 2 ^ j=cS n fun k=>p k || decide (k=j):=by
 refine Nat.eq_of_testBit_eq fun i=>?_
 rw[Nat.testBit_or,dt,dt,Nat.testBit_two_pow]
 by_cases hi:i<n
 ·simp only[hi,decide_true,Bool.true_and];congr 1;simp[eq_comm]
 have:¬j=i:=by omega
 simp[hi,this]
theorem wT (n:Nat):cS n (fun _=>false)=0:=by
 refine Nat.eq_of_testBit_eq fun i=>?_
 rw[dt];simp
theorem Hr {n:Nat} {p q:Nat->Bool} (h:cS n p=cS n q) {j:Nat} (hj:j<n):p j=q j:=by
 have:=congrArg (fun x=>x.testBit j) h;simp only[dt,hj,decide_true,Bool.true_and] at this;exact this
theorem Qc {j:Nat} (h:j<=9223372036854775807):wr .u64 (.ofNat j)= .ofNat j:=by
 have:OF .u64 (.ofNat j)=true:=by show Nat.ble j 18446744073709551615=true;rw[nE_];omega
 unfold wr;rw[this];rfl
theorem AR (j:Nat):(2:Int) ^ j= .ofNat (2 ^ j):=by show(2:Int) ^ j=((2 ^ j:Nat):Int);rw[Int.natCast_pow];rfl
theorem rX {x j:Nat} (h:j<64):H (Int.tmod (Int.fdiv (.ofNat x) (2 ^ min (Int.toNat (.ofNat j)) 64)) 2) 1=x.testBit j:=by
 have e1:min (Int.toNat (.ofNat j)) 64=j:=by show min j 64=j;omega
 rw[e1,AR]
 have u:Int.fdiv (.ofNat x) (.ofNat (2 ^ j))= .ofNat (x/2 ^ j):=by
  show Int.fdiv ((x:Nat):Int) ((2 ^ j:Nat):Int)=_;rw[Int.fdiv_eq_ediv_of_nonneg _<|Int.natCast_nonneg _];rfl
 rw[u];have w:Int.tmod (.ofNat (x/2 ^ j)) 2= .ofNat (x/2 ^ j%2):=rfl;rw[w,Nat.testBit_eq_decide_div_mod_eq];show Nat.beq (x/2 ^ j%2) 1=_
 by_cases m:x/2 ^ j%2=1
 ·rw[m];rfl
 rw[decide_eq_false m];cases hb:Nat.beq (x/2 ^ j%2) 1 with
 | false=>rfl
 | true=>exact absurd (nB hb) m
section
variable {P:Program} {k:Bool} {ty:TypeId}
theorem FX {x:Nat} (h:x<2 ^ 64):IntKind.u64.wrap ((x:Nat):Int)= .ofNat x:=by
 unfold IntKind.wrap;show(let m:=((x:Nat):Int)%(2 ^ 64:Int);if false && _ then _ else m)=_;simp only[Bool.false_and,Bool.false_eq_true,if_false];show((x:Nat):Int)%((2 ^ 64:Nat):Int)=((x:Nat):Int);rw[<-Int.natCast_emod,Nat.mod_eq_of_lt h]
theorem SK {x:Nat} (h:x<2 ^ 64):wr .u64 (.ofNat x)= .ofNat x:=by
 unfold wr;cases OF .u64 (.ofNat x) with
 | true=>rfl
 | false=>exact FX h
theorem MP {x:Nat} (h:x<2 ^ 64):(BitVec.ofInt 64 (.ofNat x)).toNat=x:=by
 rw[show BitVec.ofInt 64 (.ofNat x)=BitVec.ofNat 64 x from BitVec.ofInt_natCast ..,BitVec.toNat_ofNat,Nat.mod_eq_of_lt h]
theorem G9 {j:Nat} (h:j<64):r8 P k .shl ty (.int .u64 1) (.int .u64 (.ofNat j))=some (.int .u64 (.ofNat (2 ^ j))):=by
 have e:min (Int.toNat (.ofNat j)) 64=j:=by show min j 64=j;omega
 have:wr .u64 (1*2 ^ min (Int.toNat (.ofNat j)) 64)= .ofNat (2 ^ j):=by
  rw[e,AR,Int.one_mul];exact SK<|Nat.pow_lt_pow_right oM h
 cases k<;>exact congrArg (fun z=>some (U.int .u64 z)) this
theorem L7 {x y:Nat} (hx:x<2 ^ 64) (j:y<2 ^ 64):r8 P k .or ty (.int .u64 (.ofNat x)) (.int .u64 (.ofNat y))=some (.int .u64 (.ofNat<|x ||| y)):=by
 have:IntKind.u64.wrap (((BitVec.ofInt 64 (.ofNat x) ||| BitVec.ofInt 64 (.ofNat y)).toNat:Nat):Int)= .ofNat (x ||| y):=by
  rw[BitVec.toNat_or,MP hx,MP j];exact FX<|Nat.or_lt_two_pow hx j
 cases k<;>exact congrArg (fun z=>some (U.int .u64 z)) this
theorem Rp {x y:Nat} (hx:x<2 ^ 64) (j:y<2 ^ 64):r8 P k .and ty (.int .u64 (.ofNat x)) (.int .u64 (.ofNat y))=some (.int .u64 (.ofNat<|x &&& y)):=by
 have:IntKind.u64.wrap (((BitVec.ofInt 64 (.ofNat x) &&& BitVec.ofInt 64 (.ofNat y)).toNat:Nat):Int)= .ofNat (x &&& y):=by
  rw[BitVec.toNat_and,MP hx,MP j];exact FX<|Nat.and_lt_two_pow x j
 cases k<;>exact congrArg (fun z=>some (U.int .u64 z)) this
theorem iX {G:Cx} {ev:Operand->Option U} {V:aE} {s d:TypeId} {x:Operand} {j:Nat} (hj:j<=9223372036854775807) (hk:kindOf P (.convert s d x)= .pure) (m:P.underlying s=some (.int .i64)) (u:P.underlying d=some (.int .u64)) (hx:ev x=some (.int .i64 (.ofNat j))):ey P G ev V (.convert s d x)= .val (.int .u64 (.ofNat j)) V:=by
 rw[gJ hk m u hx,Qc hj]
end
def gU (x:Nat):U:=.int .u64 (.ofNat x)
def RU (x:Nat) (vs:List U):Prop:=vs= [gU x]
def bJ (n:Nat) (R:Rn):List Nat:=(List.range n).map fun i=>cS n (R i)
theorem cF (n:Nat) (R:Rn):(bJ n R).length=n:=by unfold bJ;simp
theorem ek {n i:Nat} {R:Rn} (h:i<n):(bJ n R)[i]?=some (cS n<|R i):=by unfold bJ;simp[h]
theorem cE {n:Nat} {R S:Rn} (h:∀i j,i<n->j<n->R i j=S i j):bJ n R=bJ n S:=by
 unfold bJ;refine List.map_congr_left fun i hi=>?_
 exact vq fun j hj=>h i j (List.mem_range.1 hi) hj
theorem nZ {n:Nat} {R S:Rn} (h:bJ n R=bJ n S) {i j:Nat} (hi:i<n) (hj:j<n):R i j=S i j:=by
 have:=congrArg (fun l=>l[i]?) h;simp only[ek hi,oJ_] at this;exact Hr this hj
theorem Fz (n:Nat):List.replicate n 0=bJ n fun _ _=>false:=by
 refine List.ext_getElem? fun k=>?_
 by_cases hk:k<n
 ·rw[ek hk,wT,List.getElem?_replicate,if_pos hk]
 rw[gN_ (by simpa using Nat.le_of_not_lt hk),gN_ (by rw[cF];omega)]
theorem re {n i:Nat} {R:Rn} {p:Nat->Bool}:(bJ n R).set i (cS n p)=bJ n fun a b=>bif a == i then p b else R a b:=by
 refine List.ext_getElem? fun k=>?_
 rw[List.getElem?_set]
 by_cases hk:k<n
 ·rw[ek hk,cF,ek hk]
  by_cases e:i=k
  ·subst e;simp[hk]
  have:(k == i)=false:=by simp;omega
  simp[e,this]
 have h1:(bJ n R)[k]?=none:=by rw[gN_];rw[cF];omega
 have j:(bJ n fun a b=>bif a == i then p b else R a b)[k]?=none:=by rw[gN_];rw[cF];omega
 rw[h1,j,cF];split
 ·split
  ·omega
  rfl
 rfl
theorem fE {K:KP} {l:List Nat} {b e n:Nat} {ro:Bool} (h:K b (.row (l.map gU) e ro)) (j:l.length=n) (hle:n<=1000000):bL K 1 RU l (.slice b 0 n (.known n)):=by
 subst j;refine .inr ⟨b,0,_,_,e,ro,Z,.inr ⟨_,Z,nR_ _⟩,h,by simp,by omega,fun i x hx=>?_⟩;obtain⟨h1,m⟩:=gA.1 hx;have u:i<(l.map gU).length:=by rw[lM_];exact h1
 show((l.map gU).drop (0+i*1)).take 1= [gU x];rw[nA_,Nat.mul_one,List.drop_eq_getElem_cons u,List.getElem_map,m];rfl
def Jf (K:KP) (n:Nat) (R:Rn) (vs:List U):Prop:=∃v,vs= [.int .i64 (.ofNat n),v]/\bL K 1 RU (bJ n R) v
theorem Jf.mono {K K':KP} {n:Nat} {R:Rn} {vs:List U} (h:Jf K n R vs) (hk:KP.le K K'):Jf K' n R vs:=let ⟨v,h1,j⟩:=h;⟨v,h1,j.mono hk fun _ _ h=>h⟩
theorem zT {n i j:Nat} {R:Rn} (hj:j<n):(bJ n R).set i (cS n (R i) ||| 2 ^ j)=bJ n fun a b=>R a b || (a == i && b == j):=by
 rw[lN _ hj,re];refine cE fun a b _ _=>?_
 by_cases e:a=i
 ·subst e;simp;rfl
 have:(a == i)=false:=by simp[e]
 simp[this]
inductive Tc (n:Nat) (R:Rn):Nat->Nat->Prop where
 | one {i j:Nat} (hi:i<n) (hj:j<n) (h:R i j=true):Tc n R i j
 | step {i j k:Nat} (h1:Tc n R i j) (h2:Tc n R j k):Tc n R i k
open Classical in
def sM (n:Nat) (R:Rn):Rn:=fun i j=>decide (Tc n R i j)
theorem wD {n:Nat} {R:Rn} {i j:Nat}:sM n R i j=true↔Tc n R i j:=by unfold sM;simp
theorem Tc.lt {n:Nat} {R:Rn} {i j:Nat} (h:Tc n R i j):i<n/\j<n:=by
 induction h with
 | one hi hj _=>exact⟨hi,hj⟩
 | step _ _ h1 m=>exact⟨h1.1,m.2⟩
theorem Tc.yV {n:Nat} {R:Rn} {f:Nat->Nat} (hf:∀i j,i<n->j<n->R i j=true->f i<f j) {i j:Nat} (h:Tc n R i j):f i<f j:=by
 induction h with
 | one hi hj h=>exact hf _ _ hi hj h
 | step _ _ h1 m=>exact Nat.lt_trans h1 m
def IM (n:Nat) (R:Rn):Rn:=fun i k=>R i k || (List.range n).any fun j=>R i j && R j k
theorem LJ {n:Nat} {R:Rn} {i k:Nat} (h:R i k=true):IM n R i k=true:=by unfold IM;simp[h]
structure I9 (n:Nat) (R S:Rn):Prop where
 low:∀i j,i<n->j<n->R i j=true->S i j=true
 high:∀i j,i<n->j<n->S i j=true->Tc n R i j
theorem I9.refl (n:Nat) (R:Rn):I9 n R R:=⟨fun _ _ _ _ h=>h,fun _ _ hi hj h=>.one hi hj h⟩
theorem I9.sq {n:Nat} {R S:Rn} (h:I9 n R S):I9 n R (IM n S):=by
 refine⟨fun i j hi hj u=>LJ (h.low i j hi hj u),fun i k hi hk m=>?_⟩;unfold IM at m;simp only[Bool.or_eq_true,List.any_eq_true,List.mem_range,bA_] at m;rcases m with m | ⟨j,hj,h1,w⟩
 ·exact h.high i k hi hk m
 exact .step (h.high i j hi hj h1)<|h.high j k hj hk w
theorem I9.fix {n:Nat} {R S:Rn} (h:I9 n R S) (he:bJ n (IM n S)=bJ n S):bJ n S=bJ n (sM n R):=by
 refine cE fun i j hi hj=>?_
 have u:∀{i j},Tc n R i j->S i j=true:=by
  intro i j w;induction w with
  | one hi hj z=>exact h.low _ _ hi hj z
  | step m A h1 B=>
   rename_i i j k
   have:IM n S i k=true:=by
    unfold IM;simp only[Bool.or_eq_true,List.any_eq_true,List.mem_range,bA_];exact .inr ⟨j,m.lt.2,h1,B⟩
   rwa[nZ he m.lt.1 A.lt.2] at this
 cases hb:sM n R i j with
 | true=>exact u (wD.1 hb)
 | false=>
  cases hc:S i j with
  | false=>rfl
  | true=>rw[wD.2<|h.high i j hi hj hc] at hb;cases hb
def Hw (n:Nat) (R:Rn):Nat:=((List.range n).map fun i=>((List.range n).filter<|R i).length).sum
theorem MV (n:Nat) (R:Rn):Hw n R<=n*n:=by
 unfold Hw
 have:∀l:List Nat,(l.map fun i=>((List.range n).filter<|R i).length).sum<=l.length*n:=by
  intro l;induction l with
  | nil=>simp
  | cons a l ih=>
   simp only[List.map_cons,List.sum_cons,List.length_cons,Nat.succ_mul];have:=List.length_filter_le (R a) (List.range n);rw[List.length_range] at this;omega
 simpa using this (List.range n)
section
variable {P:Program} {G:Cx} {ev:Operand->Option U} {V:aE}
theorem mI {t e n m:Nat} {parts:Array (Nat×Operand)} {zero cs:List U} (u:P.underlying t=some (.array n e)) (hm:(P.info? e).map (·.size)=some m) (w:(fl P t).bind cU=some zero) (hf:jI (fun i=>some (i*m,m)) ev parts.toList zero=some cs):ey P G ev V (.build t parts)= .val (.agg cs) V:=by
 refine bU Z ?_;obtain⟨j,hj,rfl⟩:=oM_.1 hm;simp only[dI,u,w,hj,hf,Option.map_some]
end
section
variable {P:Program} {G:Cx} {n i:Nat} {V:aE} {Q:Ex->PT U->aE->Prop} {ops:Array Oper} {t:PT U} {o:Oper} {K:KP}
theorem qS {l:List (Nat×List Nat)} {p:U} {vs:List U} {ty e nn m j:Nat} {kk:IntKind} {xo io:Operand} {t':U->PT U} (u:eL K p vs) (w:ops[i]?=some o) (hw:bM ops t o=some true) (C:o.op= .indexAddr ty xo io) (hx:bB G t xo=some p) (z:bB G t io=some (.int kk (.ofNat j))) (E:P.underlying ty=some (.array nn e)) (hj:(P.info? e).map (·.size)=some m) (F:j<nn) (hl:j*m<=vs.length) (hp:∀p,dJ t n o.dst p=some (t' p))
  (h:∀p',eL K p' (vs.drop (j*m))->cm P G ops n l (t' p') V Q):cm P G ops n ((i,[])::l) t V Q:=by
 obtain⟨b,off,cells,e,ro,rfl,I,h3,h4⟩:=u;refine ai w hw ?_ (hp _)<|h _ ⟨b,off+j*m,cells,e,ro,Z,I,by rw[lD_];omega,?_⟩
 ·rw[C];exact ft E hj hx z F
 rw[lD_]
 conv=>rhs;rw[<-h4]
 rw[List.drop_take,List.drop_drop]
end
def RP (p:Nat×Nat) (vs:List U):Prop:=vs= [.int .i64 (.ofNat p.1),.int .i64 (.ofNat p.2)]
theorem RP.leaf:∀x vs,RP x vs->cP vs=true:=fun _ _ h=>by cases h;rfl
def C2 (l:List (Nat×Nat)):Rn:=fun a b=>l.any fun p=>p.1 == a && p.2 == b
theorem NJ {n k a b:Nat} {l:List (Nat×Nat)} (h:l[k]?=some (a,b)) (hb:b<n):(bJ n<|C2<|l.take k).set a (cS n (C2 (l.take k) a) ||| 2 ^ b)=bJ n (C2<|l.take (k+1)):=by
 rw[zT hb];refine cE fun x y _ _=>?_
 unfold C2;rw[List.take_add_one,h];simp only[List.any_append,Option.toList,List.any_cons,List.any_nil,Bool.or_false];have hc:∀u v:Nat,(u == v)=(v == u):=fun u v=>by rw[Bool.eq_iff_iff];simp only[beq_iff_eq];exact eq_comm
 rw[hc x a,hc y b]
def eO (n:Nat) (R:Rn) (i q:Nat):List (Nat×Nat):=((List.range i).flatMap fun a=>((List.range n).filter<|R a).map fun b=>(a,b))++((List.range q).filter<|R i).map fun b=>(i,b)
def jf (n:Nat) (R:Rn):List (Nat×Nat):=(List.range n).flatMap fun a=>((List.range n).filter<|R a).map fun b=>(a,b)
theorem kF {n i q:Nat} {R:Rn} (h:R i q=true):eO n R i q++[(i,q)]=eO n R i (q+1):=by
 unfold eO;rw[List.range_succ,List.filter_append,List.map_append,lQ_];simp[h]
theorem lR {n i q:Nat} {R:Rn} (h:R i q=false):eO n R i q=eO n R i (q+1):=by
 unfold eO;rw[List.range_succ,List.filter_append,List.map_append];simp[h]
theorem kE {n i:Nat} {R:Rn}:eO n R i n=eO n R (i+1) 0:=by
 unfold eO;rw[List.range_succ,List.flatMap_append];simp
theorem qe {n:Nat} {R:Rn}:eO n R n 0=jf n R:=by unfold eO jf;simp
theorem kD {n:Nat} {R:Rn}:∀{i q:Nat},(eO n R i q).length<=i*n+q:=by
 intro i q;unfold eO
 have h1:((List.range i).flatMap fun a=>((List.range n).filter<|R a).map fun b=>(a,b)).length<=i*n:=by
  induction i with
  | zero=>simp
  | succ i ih=>
   rw[List.range_succ,List.flatMap_append,lA_,Nat.succ_mul];have:=List.length_filter_le (R i) (List.range n);simp at this⊢;simp at ih;omega
 have h2:=List.length_filter_le (R i) (List.range q);rw[lA_,lM_];rw[List.length_range] at h2;omega
def qa (l:List Rn):Rn:=fun a b=>l.any fun R=>R a b
def Ip (S R:Rn) (i:Nat):Rn:=fun a b=>S a b || (decide (a<i) && R a b)
def Ae (A B:Rn) (i:Nat):Rn:=fun a b=>decide (a<i) && (A a b && B a b)
def ug (A B:Rn):Rn:=fun a b=>A a b && B a b
def mU (n:Nat) (A B:Rn):Rn:=fun a c=>(List.range n).any fun b=>A a b && B b c
def jm (n:Nat) (A B:Rn) (i j:Nat):Rn:=fun a c=>(decide (a<i) && mU n A B a c) || (decide (a=i) && (List.range j).any fun b=>A a b && B b c)
def jA (R:Rn) (i j:Nat):Rn:=fun a b=>(decide (b<i) || (decide (b=i) && decide (a<j))) && R b a
def mH (R:Rn):Rn:=fun a b=>R b a
section
variable {n i j k:Nat} {S R A B:Rn} {l:List Rn}
theorem NO:(bJ n<|Ip S R i).set i (cS n (Ip S R i i) ||| cS n (R i))=bJ n (Ip S R (i+1)):=by
 rw[BX,re];refine cE fun a b _ _=>?_
 unfold Ip
 by_cases e:a=i
 ·subst e;simp
 have h1:(a == i)=false:=by simp[e]
 have m:decide (a<i+1)=decide (a<i):=by simp;omega
 simp[h1,m]
theorem Lb:bJ n (Ip S R 0)=bJ n S:=cE fun a b _ _=>by unfold Ip;simp
theorem La (h:l[k]?=some R):bJ n (Ip (qa<|l.take k) R n)=bJ n (qa<|l.take (k+1)):=by
 refine cE fun a b m _=>?_
 unfold Ip qa;rw[List.take_add_one,h];simp[List.any_append,m]
theorem NN:bJ n (qa<|l.take 0)=bJ n fun _ _=>false:=cE fun a b _ _=>by unfold qa;simp
theorem Jn:(bJ n<|Ae A B i).set i (cS n (A i) &&& cS n (B i))=bJ n (Ae A B (i+1)):=by
 rw[Hq,re];refine cE fun a b _ _=>?_
 unfold Ae
 by_cases e:a=i
 ·subst e;simp
 have h1:(a == i)=false:=by simp[e]
 have m:decide (a<i+1)=decide (a<i):=by simp;omega
 simp[h1,m]
theorem Ho:bJ n (Ae A B 0)=bJ n fun _ _=>false:=cE fun a b _ _=>by unfold Ae;simp
theorem Hn:bJ n (Ae A B n)=bJ n (ug A B):=cE fun a b m _=>by unfold Ae ug;simp[m]
theorem Hy (h:A i j=true):(bJ n<|jm n A B i j).set i (cS n (jm n A B i j i) ||| cS n (B j))=bJ n (jm n A B i (j+1)):=by
 rw[BX,re];refine cE fun a c _ _=>?_
 unfold jm
 by_cases e:a=i
 ·subst e;simp[List.range_succ,h]
 have h1:(a == i)=false:=by simp[e]
 simp[h1,e]
theorem JC (h:A i j=false):bJ n (jm n A B i j)=bJ n (jm n A B i (j+1)):=by
 refine cE fun a c _ _=>?_
 unfold jm
 by_cases e:a=i
 ·subst e;simp[List.range_succ,h]
 simp[e]
theorem Hx:bJ n (jm n A B i n)=bJ n (jm n A B (i+1) 0):=by
 refine cE fun a c _ _=>?_
 unfold jm mU
 by_cases e:a=i
 ·subst e;simp
 have m:decide (a<i+1)=decide (a<i):=by simp;omega
 simp[e,m]
theorem Eu:bJ n (jm n A B 0 0)=bJ n fun _ _=>false:=cE fun a c _ _=>by unfold jm;simp
theorem Et:bJ n (jm n A B n 0)=bJ n (mU n A B):=cE fun a c m _=>by unfold jm;simp[m]
theorem I0 (hi:i<n) (h:R i j=true):(bJ n<|jA R i j).set j (cS n (jA R i j j) ||| 2 ^ i)=bJ n (jA R i (j+1)):=by
 rw[zT hi];refine cE fun a b _ _=>?_
 unfold jA
 by_cases e:a=j
 ·subst e
  by_cases f:b=i
  ·subst f;simp[h]
  have h1:(b == i)=false:=by simp[f]
  simp[h1,f]
 have h1:(a == j)=false:=by simp[e]
 have m:decide (a<j+1)=decide (a<j):=by simp;omega
 simp[h1,m]
theorem L6 (h:R i j=false):bJ n (jA R i j)=bJ n (jA R i (j+1)):=by
 refine cE fun a b _ _=>?_
 unfold jA
 by_cases e:a=j
 ·subst e
  by_cases f:b=i
  ·subst f;simp[h]
  simp[f]
 have m:decide (a<j+1)=decide (a<j):=by simp;omega
 simp[m]
theorem IZ:bJ n (jA R i n)=bJ n (jA R (i+1) 0):=by
 refine cE fun a b m _=>?_
 unfold jA
 by_cases f:b=i
 ·subst f;simp[m]
 have u:decide (b<i+1)=decide (b<i):=by simp;omega
 simp[f,u]
theorem FP:bJ n (jA R 0 0)=bJ n fun _ _=>false:=cE fun a b _ _=>by unfold jA;simp
theorem FO:bJ n (jA R n 0)=bJ n (mH R):=cE fun a b _ hb=>by unfold jA mH;simp[hb]
theorem OP:bJ n (qa [S,mU n S S])=bJ n (IM n S):=cE fun a b _ _=>by unfold qa IM mU;simp
theorem filter_lt {p q:Nat->Bool}:∀{l:List Nat},(∀x∈l,p x=true->q x=true)->(l.filter p).length<=(l.filter q).length/\((∃x∈l,p x=false/\q x=true)->(l.filter p).length<(l.filter q).length)
 | [],_=>⟨nR_ _,fun⟨x,hx,_⟩=>by cases hx⟩
 | y::l,h=>by
  obtain⟨h1,u⟩:=filter_lt (p:=p) (q:=q) (l:=l) fun x hx=>h x (mC_ _ hx)
  have h0:=h y (mS_ ..);cases hp:p y with
  | true=>
   have hq:=h0 hp;simp only[List.filter_cons,hp,hq,if_true,List.length_cons];refine⟨by omega,fun⟨x,hx,m,hb⟩=>?_⟩;rcases mQ_.1 hx with rfl | hx
   ·rw[hp] at m;cases m
   have:=u ⟨x,hx,m,hb⟩;omega
  | false=>
   cases hq:q y with
   | true=>
    simp only[List.filter_cons,hp,hq,if_true,List.length_cons,Bool.false_eq_true,if_false];exact⟨by omega,fun _=>by omega⟩
   | false=>
    simp only[List.filter_cons,hp,hq,Bool.false_eq_true,if_false];refine⟨h1,fun⟨x,hx,m,hb⟩=>?_⟩;rcases mQ_.1 hx with rfl | hx
    ·rw[hq] at hb;cases hb
    exact u ⟨x,hx,m,hb⟩
theorem LV {f g:Nat->Nat}:∀{l:List Nat},(∀x∈l,f x<=g x)->(l.map f).sum<=(l.map g).sum/\((∃x∈l,f x<g x)->(l.map f).sum<(l.map g).sum)
 | [],_=>⟨nR_ _,fun⟨x,hx,_⟩=>by cases hx⟩
 | y::l,h=>by
  obtain⟨h1,m⟩:=LV (f:=f) (g:=g) (l:=l) fun x hx=>h x (mC_ _ hx)
  have h0:=h y (mS_ ..);simp only[List.map_cons,List.sum_cons];refine⟨by omega,fun⟨x,hx,u⟩=>?_⟩;rcases mQ_.1 hx with rfl | hx
  ·omega
  have:=m ⟨x,hx,u⟩;omega
theorem MW (hle:∀a b,a<n->b<n->S a b=true->R a b=true) (u:bJ n S≠bJ n R):Hw n S<Hw n R:=by
 unfold Hw;refine(LV fun a m=>(filter_lt fun b hb=>hle a b (List.mem_range.1 m) (List.mem_range.1 hb)).1).2 ?_
 by_cases w:∃a b,a<n/\b<n/\S a b=false/\R a b=true
 ·obtain⟨a,b,m,hb,h1,C⟩:=w;exact⟨a,List.mem_range.2 m,(filter_lt fun b hb=>hle a b m (List.mem_range.1 hb)).2 ⟨b,List.mem_range.2 hb,h1,C⟩⟩
 refine absurd (cE fun a b m hb=>?_) u;cases z:S a b with
 | true=>exact(hle a b m hb z).symm
 | false=>
  cases E:R a b with
  | false=>rfl
  | true=>exact absurd ⟨a,b,m,hb,z,E⟩ w
end
theorem q7 {K:KP} {n m b e:Nat} {ro:Bool} {Rs:List Rn} {us:List U} (h:K b (.row (us.flatMap fun u=>[.int .i64 (.ofNat n),u]) e ro)) (hm:Rs.length=m) (hl:Rs.length=us.length) (hle:m<=1000000) (z:∀(i:Nat) (R:Rn),Rs[i]?=some R->∃u,us[i]?=some u/\bL K 1 RU (bJ n R) u):bL K 2 (Jf K n) Rs (.slice b 0 m (.known m)):=by
 subst hm
 have hlen:∀us:List U,(us.flatMap fun u=>[U.int .i64 (.ofNat n),u]).length=us.length*2:=by
  intro us;induction us with
  | nil=>rfl
  | cons u us ih=>rw[List.flatMap_cons,lA_,ih,List.length_cons];simp;omega
 have w:∀(us:List U) (i:Nat) (u:U),us[i]?=some u->((us.flatMap fun u=>[U.int .i64 (.ofNat n),u]).drop (i*2)).take 2= [.int .i64 (.ofNat n),u]:=by
  intro us;induction us with
  | nil=>intro i u h;simp at h
  | cons v us ih=>
   intro i u h;cases i with
   | zero=>simp at h;subst h;rfl
   | succ i=>
    rw[List.getElem?_cons_succ] at h;rw[<-ih i u h,List.flatMap_cons,Nat.succ_mul];rfl
 refine .inr ⟨b,0,_,_,e,ro,Z,.inr ⟨_,Z,nR_ _⟩,h,by rw[hlen];omega,by omega,fun i R hx=>?_⟩;obtain⟨u,hu,C⟩:=z i R hx;rw[nA_];exact⟨u,w us i u hu,C⟩
theorem GX {K:KP} {n b e:Nat} {ro:Bool} {R:Rn} {u:U} (h:K b (.row [.int .i64 (.ofNat n),u] e ro)) (m:bL K 1 RU (bJ n R) u):bL K 2 (Jf K n) [R] (.slice b 0 1 (.known 1)):=
 q7 (us:=[u]) h Z Z (by decide) fun i R' hi=>by
  match i,hi with
  | 0,hi=>cases hi;exact⟨_,Z,m⟩
theorem tE {K:KP} {n b e:Nat} {ro:Bool} {R S:Rn} {u v:U} (h:K b (.row [.int .i64 (.ofNat n),u,.int .i64 (.ofNat n),v] e ro)) (m:bL K 1 RU (bJ n R) u) (w:bL K 1 RU (bJ n S) v):bL K 2 (Jf K n) [R,S] (.slice b 0 2 (.known 2)):=
 q7 (us:=[u,v]) h Z Z (by decide) fun i R' hi=>by
  match i,hi with
  | 0,hi=>cases hi;exact⟨_,Z,m⟩
  | 1,hi=>cases hi;exact⟨_,Z,w⟩
theorem IF {K:KP} {n b e:Nat} {ro:Bool} {R S T:Rn} {u v w:U} (h:K b (.row [.int .i64 (.ofNat n),u,.int .i64 (.ofNat n),v,.int .i64 (.ofNat n),w] e ro)) (m:bL K 1 RU (bJ n R) u) (z:bL K 1 RU (bJ n S) v) (hT:bL K 1 RU (bJ n T) w):bL K 2 (Jf K n) [R,S,T] (.slice b 0 3 (.known 3)):=
 q7 (us:=[u,v,w]) h Z Z (by decide) fun i R' hi=>by
  match i,hi with
  | 0,hi=>cases hi;exact⟨_,Z,m⟩
  | 1,hi=>cases hi;exact⟨_,Z,z⟩
  | 2,hi=>cases hi;exact⟨_,Z,hT⟩
theorem LA {K:KP} {n b e:Nat} {ro:Bool} {R S T U0:Rn} {u v w x:U} (h:K b (.row [.int .i64 (.ofNat n),u,.int .i64 (.ofNat n),v,.int .i64 (.ofNat n),w,.int .i64 (.ofNat n),x] e ro)) (m:bL K 1 RU (bJ n R) u) (z:bL K 1 RU (bJ n S) v) (hT:bL K 1 RU (bJ n T) w) (C:bL K 1 RU (bJ n U0) x):bL K 2 (Jf K n) [R,S,T,U0] (.slice b 0 4 (.known 4)):=
 q7 (us:=[u,v,w,x]) h Z Z (by decide) fun i R' hi=>by
  match i,hi with
  | 0,hi=>cases hi;exact⟨_,Z,m⟩
  | 1,hi=>cases hi;exact⟨_,Z,z⟩
  | 2,hi=>cases hi;exact⟨_,Z,hT⟩
  | 3,hi=>cases hi;exact⟨_,Z,C⟩
theorem HI {g:XG} {i:Nat}:dn g ⟨.ofNat 0,.ofNat i⟩=(g.init[i]?).map fun v=>⟨2,i,1,0,v⟩:=rfl
theorem gh {g:XG} {t i:Nat}:dn g ⟨.ofNat (t+1),.ofNat i⟩=(g.threads[t]?).bind (·[i]?):=rfl
theorem JY {g g':XG} {tm:Nat} {row:List db} {e w:db} {id:cY} (hr:g.threads[tm]?=some row) (hi:g'.init=g.init) (ht:g'.threads=g.threads.set tm (row++[e])) (h:dn g id=some w):dn g' id=some w:=by
 obtain⟨th,ix⟩:=id;cases ix with
 | negSucc k=>rw[qI (by rw[fm];simp)] at h;cases h
 | ofNat i=>
  cases th with
  | negSucc k=>rw[uu (by rw[fm];simp)] at h;cases h
  | ofNat t=>
   cases t with
   | zero=>rw[HI] at h⊢;rw[hi];exact h
   | succ t=>
    rw[gh] at h⊢
    grind
theorem JX {g g':XG} {tm:Nat} {row:List db} {e:db} (m:g.threads[tm]?=some row) (u:g'.threads=g.threads.set tm (row++[e])):dn g' ⟨.ofNat (tm+1),.ofNat row.length⟩=some e:=by
 have j:tm<g.threads.length:=(gA.1 m).1;rw[gh,u,List.getElem?_set,if_pos Z,if_pos j]
 simp_all
def fL (t:Nat):List db->Nat->LM
 | [],_=>[]
 | e::l,n=>bif bI e then([.ofNat (t+1),.ofNat n],e.loc)::fL t l (n+1) else fL t l (n+1)
def gu:List (List db)->Nat->LM
 | [],_=>[]
 | l::r,t=>fL t l 0++gu r (t+1)
theorem zD {k:List Int}:∀{m:LM} {i:Nat},(∀p∈m,p.1≠k)->pX m k i=none
 | [],_,_=>rfl
 | (k',v)::m,i,h=>by
  show(bif bQ k k' then some (i,v) else pX m k (i+1))=none
  have:bQ k k'=false:=by
   cases j:bQ k k' with
   | false=>rfl
   | true=>exact absurd (cz.1 j).symm (h (k',v)<|mS_ ..)
  rw[this];exact zD fun p hp=>h p (mC_ _ hp)
theorem xK {t:Nat}:∀{l:List db} {n:Nat} {m:LM},(∀p∈m,∀k,n<=k->p.1≠[.ofNat (t+1),.ofNat k])->rv t l n m=m++fL t l n
 | [],_,m,_=>by simp[rv,fL]
 | e::l,n,m,h=>by
  show rv t l (n+1) (xJ t m n e)=m++(bif bI e then _ else _);unfold xJ;cases hw:bI e with
  | false=>exact xK fun p hp k hk=>h p hp k oM
  | true=>
   show rv t l (n+1) (pY m [.ofNat (t+1),.ofNat n] e.loc)=m++_
   have hp:pY m [.ofNat (t+1),.ofNat n] e.loc=m++[([.ofNat (t+1),.ofNat n],e.loc)]:=by
    unfold pY;rw[zD fun p hp=>h p hp n (nR_ _)]
   rw[hp,xK (l:=l) (n:=n+1) fun p hp k hk=>?_,lQ_]
   ·rfl
   grind
theorem lU {t:Nat}:∀{l:List db} {n:Nat},∀p∈fL t l n,∃k,p.1= [.ofNat (t+1),.ofNat k]/\n<=k
 | [],_,p,h=>by cases h
 | e::l,n,p,h=>by
  have h':p∈(bif bI e then([.ofNat (t+1),.ofNat n],e.loc)::fL t l (n+1) else fL t l (n+1)):=h;cases hw:bI e with
  | false=>
   rw[hw] at h';obtain⟨k,h1,j⟩:=lU (l:=l) p h';exact⟨k,h1,by omega⟩
  | true=>
   rw[hw] at h';rcases mQ_.1 h' with rfl | h'
   ·exact⟨n,Z,nR_ _⟩
   obtain⟨k,h1,j⟩:=lU (l:=l) p h';exact⟨k,h1,by omega⟩
theorem CG:∀{ls:List (List db)} {t:Nat} {m:LM},(∀p∈m,∀s k,t<=s->p.1≠[.ofNat (s+1),.ofNat k])->pA ls t m=m++gu ls t
 | [],_,m,_=>by simp[pA,gu]
 | l::ls,t,m,h=>by
  show pA ls (t+1) (rv t l 0 m)=m++(fL t l 0++gu ls (t+1));rw[xK fun p hp k _=>h p hp t k (nR_ _),CG (ls:=ls) (t:=t+1) fun p hp s k hs=>?_,lQ_];rcases List.mem_append.1 hp with hp | hp
  ·grind
  obtain⟨k',h1,_⟩:=lU p hp
  grind
theorem vJ {ls:List (List db)}:pA ls 0 []=gu ls 0:=by
 rw[CG fun p hp=>by cases hp];rfl
def eX (loc:Nat) (l:List cY):LM:=l.map fun id=>(id.ints,.ofNat loc)
def iU:List (List cY)->Nat->LM
 | [],_=>[]
 | r::ls,loc=>eX loc r++iU ls (loc+1)
theorem kL {α:Type}:∀{m:List α} {j:Nat} {x:α},m[j]?=some x->m.Perm (x::m.eraseIdx j)
 | [],_,_,h=>by simp at h
 | y::m,0,x,h=>by
  have:y=x:=by simpa using h
  subst this;exact List.Perm.refl _
 | y::m,j+1,x,h=>by
  have h':m[j]?=some x:=by simpa using h
  exact(List.Perm.cons y<|kL h').trans (List.Perm.swap x y _)
theorem xP {m:LM} {k:List Int} {v:Int} (h:fK m k=some v):m.Perm ((k,v)::lu m k):=by
 unfold fK at h;unfold lu;cases u:pX m k 0 with
 | none=>rw[u] at h;cases h
 | some p=>
  obtain⟨j,w⟩:=p;rw[u] at h;have hw:w=v:=by simpa using h
  subst hw;exact kL (qQ u).2
theorem za {loc:Nat}:∀{l:List cY} {m m':LM},lD loc l m=some m'->m.Perm (eX loc l++m')
 | [],m,m',h=>by cases h;exact List.Perm.refl _
 | id::l,m,m',h=>by
  have h':(bif (fK m id.ints).isSome then(bif H ((fK m id.ints).getD 0) (.ofNat loc) then lD loc l (lu m id.ints) else none) else none)=some m':=h;cases j:fK m id.ints with
  | none=>rw[j] at h';cases h'
  | some v=>
   rw[j] at h';have h'':(bif H v (.ofNat loc) then lD loc l (lu m id.ints) else none)=some m':=h';cases he:H v (.ofNat loc) with
   | false=>rw[he] at h'';cases h''
   | true=>
    rw[he] at h'';rw[cW] at he;have hv:v= .ofNat loc:=of_decide_eq_true he;subst hv;exact(xP j).trans (List.Perm.cons _<|za (l:=l) h'')
theorem zb:∀{ls:List (List cY)} {loc:Nat} {m m':LM},nm ls loc m=some m'->m.Perm (iU ls loc++m')
 | [],_,m,m',h=>by cases h;exact List.Perm.refl _
 | r::ls,loc,m,m',h=>by
  have h':(lD loc r m).bind (nm ls (loc+1))=some m':=h;cases j:lD loc r m with
  | none=>rw[j] at h';cases h'
  | some m1=>
   rw[j] at h';refine(za j).trans ?_;show(eX loc r++m1).Perm ((eX loc r++iU ls (loc+1))++m');rw[lQ_];exact List.Perm.append_left _<|zb (ls:=ls) h'
theorem Fe {g:XG} (h:eV g=true):(gu g.threads 0).Perm (iU g.order 0):=by
 unfold eV at h;cases hc:nm g.order 0 (pA g.threads 0 []) with
 | none=>rw[hc] at h;cases h
 | some m=>
  rw[hc] at h
  have h0:m= []:=by
   have h1:H (.ofNat m.length) (.ofNat 0)=true:=h;rw[fc] at h1
   simp_all
  have:=zb hc;rw[h0,List.append_nil,vJ] at this;exact this
theorem CL {k:List Int} {v:Int}:∀{m:LM} {i:Nat},(m.map (·.1)).Nodup->(k,v)∈m->∃j,pX m k i=some (j,v)
 | (k',w)::m,i,u,h=>by
  rw[List.map_cons,List.nodup_cons] at u;show∃j,(bif bQ k k' then some (i,w) else pX m k (i+1))=some (j,v);rcases mQ_.1 h with h1 | h1
  ·cases h1;rw[cz.2 Z];exact⟨i,Z⟩
  have:bQ k k'=false:=by
   cases z:bQ k k' with
   | false=>rfl
   | true=>
    have e:=cz.1 z
    simp_all
  rw[this];exact CL (m:=m) u.2 h1
theorem Ga {loc:Nat}:∀{l:List cY} {m rest:LM},m.Perm (eX loc l++rest)->(m.map (·.1)).Nodup->∃m',lD loc l m=some m'/\m'.Perm rest/\(m'.map (·.1)).Nodup
 | [],m,rest,h,w=>⟨m,Z,h,w⟩
 | id::l,m,rest,h,w=>by
  have u:(id.ints,Int.ofNat loc)∈m:=h.mem_iff.2 (mS_ ..);obtain⟨j,hj⟩:=CL (i:=0) w u;have B:fK m id.ints=some (.ofNat loc):=by unfold fK;rw[hj];rfl
  have hp:=xP B;have z:(lu m id.ints).Perm (eX loc l++rest):=List.Perm.cons_inv (hp.symm.trans h)
  have A:((lu m id.ints).map (·.1)).Nodup:=by
   have:=(hp.map (·.1)).nodup_iff.1 w
   rw[List.map_cons,List.nodup_cons] at this;exact this.2
  obtain⟨m',h1,C,E⟩:=Ga (l:=l) z A;refine⟨m',?_,C,E⟩;show(bif (fK m id.ints).isSome then(bif H ((fK m id.ints).getD 0) (.ofNat loc) then lD loc l (lu m id.ints) else none) else none)=some m';have he:H (.ofNat loc) (.ofNat loc)=true:=by rw[fc];simp
  rw[B];show(bif H (.ofNat loc) (.ofNat loc) then lD loc l (lu m id.ints) else none)=some m';rw[he];exact h1
theorem Gb:∀{ls:List (List cY)} {loc:Nat} {m:LM},m.Perm (iU ls loc)->(m.map (·.1)).Nodup->nm ls loc m=some []
 | [],_,m,h,_=>by rw[show m= [] from h.eq_nil];rfl
 | r::ls,loc,m,h,j=>by
  obtain⟨m',h1,u,w⟩:=Ga (l:=r) (rest:=iU ls (loc+1)) h j;show(lD loc r m).bind (nm ls (loc+1))=some [];rw[h1];exact Gb (ls:=ls) u w
theorem qy {t:Nat}:∀{l:List db} {n:Nat},((fL t l n).map (·.1)).Nodup
 | [],_=>List.nodup_nil
 | e::l,n=>by
  show((bif bI e then([.ofNat (t+1),.ofNat n],e.loc)::fL t l (n+1) else fL t l (n+1):LM).map (·.1)).Nodup
  cases bI e with
  | false=>exact qy (l:=l)
  | true=>
   show(([Int.ofNat (t+1),Int.ofNat n],e.loc).1::(fL t l (n+1)).map (·.1)).Nodup
   rw[List.nodup_cons];refine⟨fun h=>?_,qy (l:=l)⟩;obtain⟨p,hp,he⟩:=List.mem_map.1 h;obtain⟨k,h1,h2⟩:=lU p hp
   grind
theorem z4:∀{ls:List (List db)} {t:Nat},∀p∈gu ls t,∃s k,p.1= [.ofNat (s+1),.ofNat k]/\t<=s
 | [],_,p,h=>by cases h
 | l::ls,t,p,h=>by
  have h':p∈fL t l 0++gu ls (t+1):=h;rcases List.mem_append.1 h' with h' | h'
  ·obtain⟨k,h1,_⟩:=lU p h';exact⟨t,k,h1,nR_ _⟩
  obtain⟨s,k,h1,h2⟩:=z4 (ls:=ls) p h';exact⟨s,k,h1,by omega⟩
theorem qx:∀{ls:List (List db)} {t:Nat},((gu ls t).map (·.1)).Nodup
 | [],_=>List.nodup_nil
 | l::ls,t=>by
  show((fL t l 0++gu ls (t+1)).map (·.1)).Nodup
  rw[List.map_append,List.nodup_append];refine⟨qy,qx (ls:=ls),fun a j b hb aa=>?_⟩;obtain⟨p,hp,rfl⟩:=List.mem_map.1 j;obtain⟨q,hq,rfl⟩:=List.mem_map.1 hb;obtain⟨k,h1,_⟩:=lU p hp;obtain⟨s,k',h3,h4⟩:=z4 q hq
  grind
theorem qm {g:XG}:eV g=true↔(gu g.threads 0).Perm (iU g.order 0):=by
 refine⟨Fe,fun h=>?_⟩;unfold eV;rw[vJ,Gb h qx];rfl
theorem tH {g:XG} {t:Nat}:∀{l:List db} {f:List cY} {n:Nat},f.length=l.length->(sF g t l f n=true↔∀i e q,l[i]?=some e->f[i]?=some q->wB g t (n+i) e q=true)
 | [],f,n,h=>⟨fun _ i e q h1=>by simp at h1,fun _=>Z⟩
 | x::l,[],n,h=>by cases h
 | x::l,y::f,n,h=>by
  have hl:f.length=l.length:=by simpa using h
  show(bif wB g t n x y then sF g t l f (n+1) else false)=true↔_;constructor
  ·intro j i e q h1 m;cases u:wB g t n x y with
   | false=>rw[u] at j;cases j
   | true=>
    rw[u] at j;cases i with
    | zero=>
     have e1:x=e:=by simpa using h1
     have w:y=q:=by simpa using m
     subst e1 w;exact u
    | succ i=>
     have:=(tH hl).1 j i e q (by simpa using h1) (by simpa using m);rwa[show n+1+i=n+(i+1) by omega] at this
  intro j;rw[show wB g t n x y=true from j 0 x y Z Z];refine(tH hl).2 fun i e q h1 m=>?_
  have:=j (i+1) e q (by simpa using h1) (by simpa using m);rwa[show n+(i+1)=n+1+i by omega] at this
theorem q9 {g:XG}:∀{ls:List (List db)} {fs:List (List cY)} {t:Nat},fs.length=ls.length->(m8 g ls fs t=true↔∀i l f,ls[i]?=some l->fs[i]?=some f->f.length=l.length/\∀j e q,l[j]?=some e->f[j]?=some q->wB g (t+i) j e q=true)
 | [],f,n,h=>⟨fun _ i e q h1=>by simp at h1,fun _=>Z⟩
 | x::l,[],n,h=>by cases h
 | x::l,y::f,t,h=>by
  have hl:f.length=l.length:=by simpa using h
  show(bif H (.ofNat y.length) (.ofNat x.length) then(bif sF g t x y 0 then m8 g l f (t+1) else false) else false)=true↔_;constructor
  ·intro m i e q h1 B;cases he:H (.ofNat y.length) (.ofNat x.length) with
   | false=>rw[he] at m;cases m
   | true=>
    rw[he] at m;cases C:sF g t x y 0 with
    | false=>rw[C] at m;cases m
    | true=>
     rw[C] at m;cases i with
     | zero=>
      have e1:x=e:=by simpa using h1
      have E:y=q:=by simpa using B
      subst e1 E;refine⟨dC he,fun j w z u A=>?_⟩;have:=(tH<|dC he).1 C j w z u A;rwa[nA_] at this
     | succ i=>
      have:=(q9 hl).1 m i e q (by simpa using h1) (by simpa using B);rwa[show t+1+i=t+(i+1) by omega] at this
  intro m;obtain⟨h1,B⟩:=m 0 x y Z Z;rw[show H (.ofNat y.length) (.ofNat x.length)=true by rw[fc];simp[h1]];rw[show sF g t x y 0=true from(tH h1).2 fun i e q u A=>by have:=B i e q u A;rwa[nA_]];refine(q9 hl).2 fun i e q u A=>?_
  have:=m (i+1) e q (by simpa using u) (by simpa using A);rwa[show t+(i+1)=t+1+i by omega] at this
structure dO (g:XG):Prop where
 threads:g.threads.length<=4
 init:g.init.length<=6
 short:∀(i:Nat) (l:List db),g.threads[i]?=some l->l.length<=14
 from_:g.from_.length=g.threads.length
 order:g.order.length=g.init.length
 rows:∀(i:Nat) (l:List db) (f:List cY),g.threads[i]?=some l->g.from_[i]?=some f->f.length=l.length/\∀(j:Nat) (e:db) (q:cY),l[j]?=some e->f[j]?=some q->wB g i j e q=true
 perm:(gu g.threads 0).Perm (iU g.order 0)
theorem ef {g:XG}:cV g=0↔dO g:=by
 constructor
 ·intro h;obtain⟨w,z,A,u,B,C,E⟩:=gz h;refine⟨w,z,fun i l hl=>A l (gB_ hl),u,B,fun i l f j m=>?_,qm.1 E⟩;have:=(q9 u).1 C i l f j m
  simp_all
 intro h;unfold cV
 have h1:eU g=false:=by
  unfold eU;rw[show b9 4 (.ofNat g.threads.length)=false by rw[show(4:Int)= .ofNat 4 from Z,jO];have:=h.threads;simp;omega];rw[show b9 6 (.ofNat g.init.length)=false by rw[show(6:Int)= .ofNat 6 from Z,jO];have:=h.init;simp;omega];show(g.threads.any fun l=>b9 14 (.ofNat l.length))=false;rw[List.any_eq_false];intro l hl;obtain⟨i,hi⟩:=gO_ hl;have:=h.short i l hi;rw[show(14:Int)= .ofNat 14 from Z,jO];simp;omega
 rw[h1];rw[show H (.ofNat g.from_.length) (.ofNat g.threads.length)=true by rw[fc];simp[h.from_]];rw[show H (.ofNat g.order.length) (.ofNat g.init.length)=true by rw[fc];simp[h.order]];rw[show m8 g g.threads g.from_ 0=true from(q9 h.from_).2 fun i l f j m=>by have:=h.rows i l f j m;rwa[nA_]];rw[qm.2 h.perm];rfl
def Is (o:List (List cY)) (e:db) (id:cY) (pl:Int):List (List cY):=
 bif bI e then o.set e.loc.toNat (((o[e.loc.toNat]?).getD []).take (pl.toNat-1)++id::((o[e.loc.toNat]?).getD []).drop (pl.toNat-1)) else o
theorem uA {g:XG} {tm:Nat} {e:db} {fr:cY} {pl:Int} {row:List db} {frow:List cY}:ku g tm e fr pl row frow=⟨g.init,g.threads.set tm (row++[e]),g.from_.set tm (frow++[fr]),Is g.order e ⟨.ofNat (tm+1),.ofNat row.length⟩ pl⟩:=rfl
theorem sS {g:XG} {e:db} {pl:Int} (h:kQ g e pl=false) (hw:bI e=true):∃(ln:Nat) (r:List cY),e.loc= .ofNat ln/\g.order[ln]?=some r/\(dv g e.loc).length=r.length+1:=by
 unfold kQ at h;rw[hw] at h;have h:(bif b9 pl 1 then true else b9 (.ofNat (dv g e.loc).length) pl)=false:=h;cases h1:b9 pl 1 with
 | true=>rw[h1] at h;cases h
 | false=>
  rw[h1] at h;obtain⟨m,rfl⟩:=Fj h1;have j:b9 (.ofNat (dv g e.loc).length) (.ofNat (m+1))=false:=h;have:=bA j;exact FY oM
theorem lX {g a:XG} {th pl:Int} {e:db} {fr:cY} (h:oq g th e fr pl=(some a,0)):cV g=0/\∃tm row frow,th= .ofNat (tm+1)/\g.threads[tm]?=some row/\g.from_[tm]?=some frow/\b9 (.ofNat row.length) 14=true/\kQ g e pl=false/\a=ku g tm e fr pl row frow/\cV a=0:=by
 cases hc:H (cV g) 0 with
 | false=>rw[Ji hc] at h;cases h
 | true=>
  refine⟨JU hc,?_⟩;cases h1:b9 th 1 with
  | true=>rw[Jj hc h1] at h;cases h
  | false=>
   cases z:b9 (.ofNat g.threads.length) th with
   | true=>rw[Jh hc h1 z] at h;cases h
   | false=>
    obtain⟨tm,rfl⟩:=Fj h1;have u:tm<g.threads.length:=by have:=bA z;omega
    obtain⟨row,m⟩:=cL u;obtain⟨frow,j⟩:=cL (show tm<g.from_.length by rw[(gz<|JU hc).2.2.2.1];exact u);rw[MG hc m j] at h;cases w:b9 (.ofNat row.length) 14 with
    | false=>rw[w] at h;cases h
    | true=>
     rw[w] at h;rcases Bool.eq_false_or_eq_true (kQ g e pl) with h4 | h4
     ·rw[h4] at h;cases h
     rw[h4] at h;cases h5:H (cV<|ku g tm e fr pl row frow) 0 with
     | false=>rw[h5] at h;cases h
     | true=>
      rw[h5] at h;have A:(some<|ku g tm e fr pl row frow,(0:Int))=(some a,0):=h;have B:ku g tm e fr pl row frow=a:=by cases A;rfl
      subst B;exact⟨tm,row,frow,Z,m,j,w,h4,Z,JU h5⟩
theorem GF {o:List (List cY)} {e:db} {id:cY} {pl:Int} {k:Nat} (h:bI e=true->e.loc.toNat≠k):(Is o e id pl)[k]?=o[k]?:=by
 grind [Is]
theorem dL (x:Int):H x x=true:=by rw[cW];simp
structure RX {α:Type} (c:α->α->Int):Prop where
 RZ:∀x y,c y x= -c x y
 small:∀x y,-1<=c x y/\c x y<=1
 trans:∀x y z,c x y<=0->c y z<=0->c x z<=0
theorem RX.pull {α β:Type} {c:α->α->Int} (h:RX c) (f:β->α):RX fun x y=>c (f x) (f y):=⟨fun x y=>h.RZ _ _,fun x y=>h.small _ _,fun x y z=>h.trans _ _ _⟩
theorem QY (a b:Int):(bif H a 0 then b else a)=if a=0 then b else a:=by
 rw[cW]
 simp_all
theorem na {α:Type} {l:List α} {ls:List (List α)}:nD (l::ls)=l.length+nD ls:=by unfold nD;simp
theorem z7 {t:Nat}:∀{l:List db} {n:Nat},∀p∈fL t l n,∃k,p.1= [.ofNat (t+1),.ofNat (n+k)]/\k<l.length
 | [],_,p,h=>by cases h
 | e::l,n,p,h=>by
  have h':p∈(bif bI e then([.ofNat (t+1),.ofNat n],e.loc)::fL t l (n+1) else fL t l (n+1)):=h
  have key:p∈fL t l (n+1)->∃k,p.1= [.ofNat (t+1),.ofNat (n+k)]/\k<(e::l).length:=fun h=>by
   obtain⟨k,h1,h2⟩:=z7 (l:=l) p h;exact⟨k+1,by rw[h1,show n+1+k=n+(k+1) by omega],by rw[List.length_cons];omega⟩
  cases hw:bI e with
  | false=>rw[hw] at h';exact key h'
  | true=>
   rw[hw] at h';rcases mQ_.1 h' with rfl | h'
   ·exact⟨0,Z,by rw[List.length_cons];omega⟩
   exact key h'
theorem z5:∀{ls:List (List db)} {t:Nat},∀p∈gu ls t,∃(s k:Nat) (l:List db),p.1= [.ofNat (t+s+1),.ofNat k]/\ls[s]?=some l/\k<l.length
 | [],_,p,h=>by cases h
 | l::ls,t,p,h=>by
  have h':p∈fL t l 0++gu ls (t+1):=h;rcases List.mem_append.1 h' with h' | h'
  ·obtain⟨k,h1,j⟩:=z7 p h';exact⟨0,k,l,by rw[h1,nA_],Z,j⟩
  obtain⟨s,k,l',h1,j,m⟩:=z5 (ls:=ls) p h';exact⟨s+1,k,l',by rw[h1,show t+1+s+1=t+(s+1)+1 by omega],by simpa using j,m⟩
theorem x8:∀{ls:List (List cY)} {loc ln:Nat} {r:List cY} {x:cY},ls[ln]?=some r->x∈r->(x.ints,Int.ofNat (loc+ln))∈iU ls loc
 | [],_,_,_,_,h,_=>by simp at h
 | l::ls,loc,0,r,x,h,hx=>by
  have:l=r:=by simpa using h
  subst this;exact List.mem_append_left _<|List.mem_map.2 ⟨x,hx,Z⟩
 | l::ls,loc,ln+1,r,x,h,hx=>by
  have h':ls[ln]?=some r:=by simpa using h
  have:=x8 (loc:=loc+1) h' hx;rw[show loc+1+ln=loc+(ln+1) by omega] at this;exact List.mem_append_right _ this
theorem NF {g:XG} (h:dO g) {tm ln:Nat} {row:List db} {r:List cY} (hr:g.threads[tm]?=some row) (m:g.order[ln]?=some r):(⟨.ofNat (tm+1),.ofNat row.length⟩:cY)∉r:=fun hx=>by
 have h1:=h.perm.mem_iff.2 (x8 (loc:=0) m hx);obtain⟨s,k,l,j,h3,h4⟩:=z5 _ h1;rw[show 0+s+1=s+1 by omega] at j;have j: [Int.ofNat (tm+1),Int.ofNat row.length]= [.ofNat (s+1),.ofNat k]:=j
 grind
theorem yF {α:Type}:∀{ls:List (List α)} {tm:Nat} {row:List α} {e:α},ls[tm]?=some row->nD (ls.set tm (row++[e]))=nD ls+1
 | [],_,_,_,h=>by simp at h
 | l::ls,0,row,e,h=>by
  have:l=row:=by simpa using h
  subst this;show nD ((l++[e])::ls)=_;rw[na,na,lA_,List.length_singleton];omega
 | l::ls,tm+1,row,e,h=>by
  have h':ls[tm]?=some row:=by simpa using h
  show nD (l::ls.set tm (row++[e]))=_;rw[na,na,yF h'];omega
def E9 (id:cY) (y:cY):Bool:= !(bQ y.ints id.ints)
theorem KN {id y:cY} (h:y≠id):E9 id y=true:=by
 unfold E9;rw[cY.same,iW.2 h];rfl
theorem Gr {α:Type} {p:α->Bool} {x:α} (hx:p x=true):∀{a b:List α} {i:Nat},(∀y∈a,p y=false)->ew p (a++x::b) i= .ofNat (i+a.length)
 | [],b,i,_=>by
  show(bif p x then Int.ofNat i else _)=_;rw[hx];rfl
 | y::a,b,i,h=>by
  show(bif p y then Int.ofNat i else ew p (a++x::b) (i+1))=_;rw[h y<|mS_ ..];show ew p (a++x::b) (i+1)=_;rw[Gr hx fun z j=>h z (mC_ _ j),List.length_cons,show i+1+a.length=i+(a.length+1) by omega]
theorem filter_all {id:cY} {l:List cY} (h:id∉l):l.filter (E9 id)=l:=List.filter_eq_self.2 fun y j=>KN fun e=>h (e ▸ j)
theorem EO {id:cY} {a b:List cY} (ha:id∉a) (hb:id∉b):(a++id::b).filter (E9 id)=a++b:=by
 have h:E9 id id=false:=by unfold E9;rw[cY.same,cz.2 Z];rfl
 grind [filter_all]
theorem Hl {g h:XG} {th pl:Int} {e:db} {fr:cY} (K:oq g th e fr pl=(some h,0)):∃(tm:Nat) (row:List db),th= .ofNat (tm+1)/\g.threads[tm]?=some row/\cV g=0/\cV h=0/\dn h ⟨.ofNat (tm+1),.ofNat row.length⟩=some e/\Ez h=Ez g+1/\
  (b9 0 pl=true->bI e=true/\ew (fun y=>bQ (⟨.ofNat (tm+1),.ofNat row.length⟩:cY).ints y.ints) (dv h e.loc) 0=pl)/\(∀id w,dn g id=some w->dn h id=some w)/\
  ∀loc:Nat,loc<g.init.length->(dv h (.ofNat loc)).filter (E9 ⟨.ofNat (tm+1),.ofNat row.length⟩)=dv g (.ofNat loc):=by
 obtain⟨C,tm,row,frow,rfl,m,q1,l1,j,rfl,ch⟩:=lX K;have rg:=ef.1 C;have e1:H (cV g) 0=true:=by rw[C];rfl
 have E:H (cV<|ku g tm e fr pl row frow) 0=true:=by rw[ch];rfl
 have F:∀(ln:Nat) (r:List cY),g.order[ln]?=some r->(⟨.ofNat (tm+1),.ofNat row.length⟩:cY)∉(⟨0,.ofNat ln⟩:cY)::r:=fun ln r u hm=>by
  rcases mQ_.1 hm with hm | hm
  ·grind
  exact NF rg m u hm
 have z:bI e=true->∃(ln pm:Nat) (r:List cY),e.loc= .ofNat ln/\pl= .ofNat (pm+1)/\g.order[ln]?=some r/\pm<=r.length/\dv (ku g tm e fr pl row frow) (.ofNat ln)=(⟨0,.ofNat ln⟩::r.take pm)++⟨.ofNat (tm+1),.ofNat row.length⟩::r.drop pm:=fun hw=>by
  obtain⟨ln,r,h1,B,I⟩:=sS j hw;unfold kQ at j;rw[hw] at j;have j:(bif b9 pl 1 then true else b9 (.ofNat (dv g e.loc).length) pl)=false:=j;cases h4:b9 pl 1 with
  | true=>simp_all
  | false=>
   rw[h4] at j;obtain⟨pm,rfl⟩:=Fj h4;have h5:b9 (.ofNat (dv g e.loc).length) (.ofNat (pm+1))=false:=j;have h6:=bA h5;refine⟨ln,pm,r,h1,Z,B,by omega,?_⟩
   have G:(ku g tm e fr (.ofNat (pm+1)) row frow).order[ln]?=some (r.take pm++⟨.ofNat (tm+1),.ofNat row.length⟩::r.drop pm):=by
    rw[Nr hw h1 B]
    grind
   rw[fX E G];rfl
 refine⟨tm,row,Z,m,C,ch,JX m Z,?_,fun hp=>?_,fun id w hw=>JY m Z Z hw,fun loc A=>?_⟩
 ·unfold Ez;rw[e1,E];show g.init.length+nD (g.threads.set tm (row++[e]))=g.init.length+nD g.threads+1;rw[yF m];omega
 ·have hw:bI e=true:=by
   cases hw:bI e with
   | true=>rfl
   | false=>
    unfold kQ at j;rw[hw] at j;have j:(!H pl 0)=false:=j;have:=JU (kh j);subst this;cases hp
  refine⟨hw,?_⟩;obtain⟨ln,pm,r,h1,rfl,I,h4,h5⟩:=z hw;rw[h1,h5,Gr (p:=fun y:cY=>bQ (⟨.ofNat (tm+1),.ofNat row.length⟩:cY).ints y.ints) (cz.2 Z) fun y hy=>iW.2 fun he=>?_]
  ·simp_all
  have aa:y=(⟨.ofNat (tm+1),.ofNat row.length⟩:cY):=by
   have:bQ y.ints (⟨.ofNat (tm+1),.ofNat row.length⟩:cY).ints=true:=cz.2 he.symm;rw[cY.same] at this;exact cz.1 this
  grind
 obtain⟨r,u⟩:=cL (show loc<g.order.length by rw[rg.order];exact A);rw[fX e1 u]
 by_cases hw:bI e=true/\e.loc.toNat=loc
 ·obtain⟨ln,pm,r',h1,rfl,I,h4,h5⟩:=z hw.1
  grind [EO,List.take_append_drop]
 have G:(ku g tm e fr pl row frow).order[loc]?=some r:=by
  show(Is g.order e ⟨.ofNat (tm+1),.ofNat row.length⟩ pl)[loc]?=_;rw[GF fun h1 B=>hw ⟨h1,B⟩,u]
 rw[fX E G,filter_all<|F loc r u]
theorem tv {α β:Type} (f:α->β) {l:List α} (h:(l.map f).Nodup):l.Nodup:=List.Pairwise.of_map f (fun _ _ j e=>j (congrArg f e)) h
theorem AQ {α:Type}:∀{l m:List α},l.Nodup->(∀x∈l,x∈m)->m.length<=l.length->l.Perm m
 | [],m,_,_,h=>by simp_all
 | x::l,m,j,u,h=>by
  rw[List.nodup_cons] at j;obtain⟨i,hi⟩:=gO_ (u x<|mS_ ..);have hp:=kL hi;have hlen:=hp.length_eq;rw[List.length_cons] at hlen h;refine(List.Perm.cons x<|AQ (l:=l) (m:=m.eraseIdx i) j.2 (fun y hy=>?_) oM).trans hp.symm
  grind
theorem CZ {α:Type}:∀{l m:List α},l.Nodup->(∀x∈l,x∈m)->l.length<=m.length
 | [],_,_,_=>Nat.zero_le _
 | x::l,m,j,u=>by
  rw[List.nodup_cons] at j;obtain⟨i,hi⟩:=gO_ (u x<|mS_ ..);have hp:=kL hi;have hlen:=hp.length_eq;rw[List.length_cons] at hlen⊢
  have:=CZ (l:=l) (m:=m.eraseIdx i) j.2 fun y hy=>by
   grind
  omega
def fU (loc:Int):List db->Nat
 | []=>0
 | e::l=>(bif (bif bI e then H e.loc loc else false) then 1 else 0)+fU loc l
def iI (loc:Int):List (List db)->Nat
 | []=>0
 | l::r=>fU loc l+iI loc r
def rE (loc:Int) (p:List Int×Int):Bool:=H p.2 loc
theorem qF {loc:Int} {t:Nat}:∀{l:List db} {n:Nat},((fL t l n).filter<|rE loc).length=fU loc l
 | [],_=>rfl
 | e::l,n=>by
  show(List.filter (rE loc) (bif bI e then([.ofNat (t+1),.ofNat n],e.loc)::fL t l (n+1) else fL t l (n+1))).length=(bif (bif bI e then H e.loc loc else false) then 1 else 0)+fU loc l;cases hw:bI e with
  | false=>
   simp only[cond_false,nA_];exact qF
  | true=>
   simp only[cond_true];rw[List.filter_cons];show(if H e.loc loc=true then _ else _:LM).length=_;cases he:H e.loc loc with
   | true=>simp only[if_true,cond_true,List.length_cons];rw[qF];omega
   | false=>simp only[cond_false,nA_];rw[if_neg (by decide)];exact qF
theorem uo {loc:Int}:∀{ls:List (List db)} {t:Nat},((gu ls t).filter<|rE loc).length=iI loc ls
 | [],_=>rfl
 | l::ls,t=>by
  show(List.filter (rE loc) (fL t l 0++gu ls (t+1))).length=fU loc l+iI loc ls;rw[List.filter_append,lA_,qF,uo]
theorem z6 {t:Nat} {k:List Int} {v:Int}:∀{l:List db} {n:Nat},(k,v)∈fL t l n↔∃i e,l[i]?=some e/\bI e=true/\k= [.ofNat (t+1),.ofNat (n+i)]/\v=e.loc
 | [],n=>⟨fun h=>(by cases h),fun⟨i,e,h,_⟩=>by simp at h⟩
 | e::l,n=>by
  show(k,v)∈(bif bI e then([.ofNat (t+1),.ofNat n],e.loc)::fL t l (n+1) else fL t l (n+1))↔_;have ih:=z6 (t:=t) (k:=k) (v:=v) (l:=l) (n:=n+1)
  have up:(k,v)∈fL t l (n+1)↔∃i e',l[i]?=some e'/\bI e'=true/\k= [.ofNat (t+1),.ofNat (n+(i+1))]/\v=e'.loc:=by
   grind
  have cons:(∃i e',(e::l)[i]?=some e'/\bI e'=true/\k= [.ofNat (t+1),.ofNat (n+i)]/\v=e'.loc)↔(bI e=true/\k= [.ofNat (t+1),.ofNat n]/\v=e.loc)∨∃i e',l[i]?=some e'/\bI e'=true/\k= [.ofNat (t+1),.ofNat (n+(i+1))]/\v=e'.loc:=by
   constructor
   ·grind
   rintro (⟨j,m,h4⟩ | ⟨i,e',h1,j,m,h4⟩)
   ·exact⟨0,e,Z,j,m,h4⟩
   exact⟨i+1,e',by simpa using h1,j,m,h4⟩
  grind
theorem jB {k:List Int} {v:Int}:∀{ls:List (List db)} {t:Nat},(k,v)∈gu ls t↔∃s i l e,ls[s]?=some l/\l[i]?=some e/\bI e=true/\k= [.ofNat (t+s+1),.ofNat i]/\v=e.loc
 | [],t=>⟨fun h=>(by cases h),fun⟨s,i,l,e,h,_⟩=>by simp at h⟩
 | l::ls,t=>by
  show(k,v)∈fL t l 0++gu ls (t+1)↔_;rw[List.mem_append,z6,jB (ls:=ls)];constructor
  ·rintro (⟨i,e,h1,j,m,h4⟩ | ⟨s,i,l',e,h0,h1,j,m,h4⟩)
   ·exact⟨0,i,l,e,Z,h1,j,by rw[m,nA_],h4⟩
   exact⟨s+1,i,l',e,by simpa using h0,h1,j,by grind,h4⟩
  grind
theorem ik {k:List Int} {v:Int}:∀{ls:List (List cY)} {loc:Nat},(k,v)∈iU ls loc↔∃ln r id,ls[ln]?=some r/\id∈r/\k=id.ints/\v= .ofNat (loc+ln)
 | [],loc=>⟨fun h=>(by cases h),fun⟨ln,r,id,h,_⟩=>by simp at h⟩
 | r::ls,loc=>by
  show(k,v)∈eX loc r++iU ls (loc+1)↔_;rw[List.mem_append,ik (ls:=ls)];constructor
  ·rintro (h | ⟨ln,r',id,h1,j,m,h4⟩)
   ·obtain⟨id,h1,j⟩:=List.mem_map.1 h
    grind
   exact⟨ln+1,r',id,by simpa using h1,j,m,by grind⟩
  rintro ⟨ln,r',id,h1,j,m,h4⟩;cases ln with
  | zero=>
   have:r=r':=by simpa using h1
   subst this;exact .inl<|List.mem_map.2 ⟨id,j,by simp_all⟩
  | succ ln=>grind
theorem sB {loc:Nat} (r:List cY):(eX loc r).filter (rE (.ofNat loc))=eX loc r:=List.filter_eq_self.2 fun p hp=>by
 obtain⟨id,_,rfl⟩:=List.mem_map.1 hp;show H (.ofNat loc) (.ofNat loc)=true;rw[fc];simp
theorem ry {loc x:Nat} (r:List cY) (h:loc≠x):(eX loc r).filter (rE (.ofNat x))= []:=List.filter_eq_nil_iff.2 fun p hp=>by
 obtain⟨id,_,rfl⟩:=List.mem_map.1 hp;show¬H (.ofNat loc) (.ofNat x)=true;rw[fc];simp[h]
theorem vO {x:Nat}:∀{ls:List (List cY)} {loc ln:Nat} {r:List cY},ls[ln]?=some r->loc+ln=x->(iU ls loc).filter (rE (.ofNat x))=eX x r
 | [],_,_,_,h,_=>by simp at h
 | q::ls,loc,0,r,h,hx=>by
  have:q=r:=by simpa using h
  subst this;have hx:loc=x:=by omega
  subst hx;show(eX loc q++iU ls (loc+1)).filter _=_;rw[List.filter_append,sB]
  have:(iU ls (loc+1)).filter (rE (.ofNat loc))= []:=List.filter_eq_nil_iff.2 fun p hp=>by
   obtain⟨k,v⟩:=p;obtain⟨ln,r,id,_,_,_,rfl⟩:=ik.1 hp;show¬H (.ofNat (loc+1+ln)) (.ofNat loc)=true;rw[fc];simp;omega
  rw[this,List.append_nil]
 | q::ls,loc,ln+1,r,h,hx=>by
  show(eX loc q++iU ls (loc+1)).filter _=_;rw[List.filter_append,ry q oM,vO (ls:=ls) (loc:=loc+1) (ln:=ln) (by simpa using h) oM];rfl
def yQ (g:XG) (loc:Int) (id:cY):Bool:=
 bif (dn g id).isSome then(bif H id.cy 0 then false else bif bI (mK<|dn g id) then H (mK<|dn g id).loc loc else false) else false
structure F3 (g:XG) (ln:Nat) (r:List cY):Prop where
 Qo:∀id∈r,yQ g (.ofNat ln) id=true
 nodup:r.Nodup
 SO:r.length=iI (.ofNat ln) g.threads
theorem jM {x y:cY} (h:x.ints=y.ints):x=y:=by
 have:bQ x.ints y.ints=true:=cz.2 h;rw[cY.same] at this;exact cz.1 this
theorem As {g:XG} {ln:Nat} {id:cY}:yQ g (.ofNat ln) id=true↔(id.ints,Int.ofNat ln)∈gu g.threads 0:=by
 rw[jB];unfold yQ;constructor
 ·intro h;cases j:dn g id with
  | none=>rw[j] at h;cases h
  | some e=>
   rw[j] at h;obtain⟨th,ix⟩:=id;have h:(bif H th 0 then false else bif bI e then H e.loc (.ofNat ln) else false)=true:=h;cases h0:H th 0 with
   | true=>rw[h0] at h;cases h
   | false=>
    rw[h0] at h;cases hw:bI e with
    | false=>rw[hw] at h;cases h
    | true=>
     rw[hw] at h
     have hl:e.loc= .ofNat ln:=by
      have h:H e.loc (.ofNat ln)=true:=h;rw[cW] at h;simp_all
     obtain⟨t,i,rfl,rfl,_,_,hp⟩:=JW (by rw[j];rfl);cases t with
     | zero=>cases h0
     | succ t=>
      rw[gh] at j;cases m:g.threads[t]? with
      | none=>simp_all
      | some l=>
       rw[m] at j;exact⟨t,i,l,e,m,j,hw,by rw[nA_];rfl,hl.symm⟩
 rintro ⟨s,i,l,e,h1,u,w,h4,h5⟩;obtain⟨th,ix⟩:=id;rw[nA_] at h4;have h4: [th,ix]= [.ofNat (s+1),.ofNat i]:=h4;simp only[List.cons.injEq,and_true] at h4;obtain⟨rfl,rfl⟩:=h4;have he:dn g ⟨.ofNat (s+1),.ofNat i⟩=some e:=by rw[gh,h1];exact u
 rw[he];show(bif H (.ofNat (s+1)) 0 then false else bif bI e then H e.loc (.ofNat ln) else false)=true;rw[show H (.ofNat (s+1)) 0=false by rw[show(0:Int)= .ofNat 0 from Z,fc];simp,w,<-h5]
 grind [fc]
theorem lL {ls:List (List db)} {t:Nat}:(gu ls t).Nodup:=tv _ qx
theorem tz {loc:Nat} {r:List cY} (h:r.Nodup):(eX loc r).Nodup:=by
 grind [eX,jM]
theorem vP {g:XG} (w:∀(t:Nat) (l:List db) (i:Nat) (e:db),g.threads[t]?=some l->l[i]?=some e->bI e=true->∃ln:Nat,e.loc= .ofNat ln/\ln<g.order.length):
  (∀(ln:Nat) (r:List cY),g.order[ln]?=some r->F3 g ln r)↔(gu g.threads 0).Perm (iU g.order 0):=by
 constructor
 ·intro h;refine AQ lL (fun p hp=>?_) ?_
  ·obtain⟨k,v⟩:=p;obtain⟨s,i,l,e,h1,C,E,h4,h5⟩:=jB.1 hp;obtain⟨ln,F,G⟩:=w s l i e h1 C E;obtain⟨r,u⟩:=cL G;have ho:=h ln r u
   have hq:(eX ln r).Perm ((gu g.threads 0).filter<|rE (.ofNat ln)):=by
    refine AQ (tz ho.nodup) (fun q hq=>?_) ?_
    ·obtain⟨id,j,rfl⟩:=List.mem_map.1 hq;refine List.mem_filter.2 ⟨As.1<|ho.Qo id j,?_⟩;show H (.ofNat ln) (.ofNat ln)=true;rw[fc];simp
    rw[uo,<-ho.SO];unfold eX;simp_all
   have hm:(k,v)∈eX ln r:=hq.mem_iff.2 (List.mem_filter.2 ⟨hp,by show H v (.ofNat ln)=true;rw[h5,F,fc];simp⟩);obtain⟨id,j,he⟩:=List.mem_map.1 hm;cases he;exact ik.2 ⟨ln,r,id,u,j,Z,by rw[nA_]⟩
  
  have key:∀(m:Nat) (ls:List (List cY)),(∀(ln:Nat) (r:List cY),ls[ln]?=some r->F3 g (m+ln) r)->((iU ls m).Nodup/\∀p∈iU ls m,p∈gu g.threads 0):=by
   intro m ls;induction ls generalizing m with
   | nil=>intro _;exact⟨List.nodup_nil,fun p hp=>by cases hp⟩
   | cons r ls ih=>
    intro B
    obtain⟨I,K⟩:=ih (m+1) fun ln r' A=>by
     have:=B (ln+1) r' (by simpa using A)
     grind
    have h0:=B 0 r Z;rw[Nat.add_zero] at h0;refine⟨?_,fun p hp=>?_⟩
    ·show(eX m r++iU ls (m+1)).Nodup;rw[List.nodup_append];refine⟨tz h0.nodup,I,fun a L b hb aa=>?_⟩;obtain⟨id,_,rfl⟩:=List.mem_map.1 L
     grind [ik]
    rcases List.mem_append.1 (show p∈eX m r++iU ls (m+1) from hp) with hp | hp
    ·obtain⟨id,j,rfl⟩:=List.mem_map.1 hp;exact As.1<|h0.Qo id j
    exact K p hp
  obtain⟨M,Q⟩:=key 0 g.order fun ln r u=>by simp_all
  exact CZ M Q
 intro hp ln r u;have z:∀id∈r,(id.ints,Int.ofNat ln)∈gu g.threads 0:=fun id j=>hp.mem_iff.2 (ik.2 ⟨ln,r,id,u,j,Z,by rw[nA_]⟩)
 have hf:=vO (x:=ln) (loc:=0) u (nA_ _);refine⟨fun id j=>As.2 (z id j),?_,?_⟩
 ·grind [lL,eX,tv]
 have:=(hp.filter<|rE (.ofNat ln)).length_eq
 grind [uo,eX]
theorem lO {g:XG} (h1:eU g=false) (j:¬dO g):cV g=2:=by
 have m:cV g≠0:=fun h=>j (ef.1 h)
 unfold cV at m⊢
 grind
theorem DB {g:XG} (h:b9 4 (.ofNat g.threads.length)=true):eU g=true:=by unfold eU;rw[h];rfl
theorem DD {g:XG} (h:b9 6 (.ofNat g.init.length)=true):eU g=true:=by
 grind [eU]
theorem DC {g:XG} {i:Nat} {x:List db} (hx:g.threads[i]?=some x) (h:b9 14 (.ofNat x.length)=true):eU g=true:=by
 grind [eU]
theorem FN {g:XG} {i:Nat} (h1:b9 4 (.ofNat g.threads.length)=false) (h2:b9 6 (.ofNat g.init.length)=false) (hi:g.threads.length<=i) (h3:∀(k:Nat) (l:List db),k<i->g.threads[k]?=some l->b9 14 (.ofNat l.length)=false):eU g=false:=by
 grind [eU,gO_]
theorem pG {g:XG} (h:eU g=true):cV g=3:=by unfold cV;rw[h];rfl
theorem Pp {a b:Int} (h:H a b=true):a=b:=by rw[cW] at h;simp_all
theorem Dl {e:db} {n:Nat} (h:bX e (.ofNat n)=true) (hw:bI e=true):∃ln:Nat,e.loc= .ofNat ln/\ln<n:=by
 unfold bX at h
 have hk:H e.kind 4=false:=by
  grind [bI,Pp]
 rw[hk] at h
 have key:(bif bh (b9 e.loc 0) then b9 e.loc (.ofNat n) else false)=true:=by
  simp_all
 cases h0:b9 e.loc 0 with
 | true=>rw[h0] at key;cases key
 | false=>
  rw[h0] at key;obtain⟨ln,hl⟩:=kA h0;rw[hl] at key;exact⟨ln,hl,bc key⟩
theorem KY {g:XG} {t n:Nat} {e:db} {q:cY} (h:wB g t n e q=true):bX e (.ofNat g.init.length)=true/\de g ⟨.ofNat (t+1),.ofNat n⟩ q=true:=by
 unfold wB at h
 simp_all
theorem KZ {g:XG} {t n:Nat} {e:db} {q:cY} (h1:bX e (.ofNat g.init.length)=true) (j:de g ⟨.ofNat (t+1),.ofNat n⟩ q=true):wB g t n e q=true:=by
 unfold wB;rw[h1];exact j
theorem pH {loc:Int}:∀{l:List db} {i:Nat} {x:db},l[i]?=some x->fU loc (l.take (i+1))=fU loc (l.take i)+(bif (bif bI x then H x.loc loc else false) then 1 else 0)
 | [],_,_,h=>by simp at h
 | e::l,0,x,h=>by
  have:e=x:=by simpa using h
  subst this;show(bif (bif bI e then H e.loc loc else false) then 1 else 0)+fU loc []=0+_;rw[nA_];rfl
 | e::l,i+1,x,h=>by
  have h':l[i]?=some x:=by simpa using h
  show(bif (bif bI e then H e.loc loc else false) then 1 else 0)+fU loc (l.take (i+1))=(bif (bif bI e then H e.loc loc else false) then 1 else 0)+fU loc (l.take i)+_;rw[pH h',Nat.add_assoc]
theorem MX {loc:Int} {l:List db} {i:Nat} {x:db} (h:l[i]?=some x) (h1:bI x=true) (j:H x.loc loc=true):fU loc (l.take (i+1))=fU loc (l.take i)+1:=by
 rw[pH h,h1,j];rfl
theorem Jz {loc:Int} {l:List db} {i:Nat} {x:db} (h:l[i]?=some x) (h1:bI x=false∨H x.loc loc=false):fU loc (l.take (i+1))=fU loc (l.take i):=by
 grind [pH]
theorem vw {loc:Int}:∀{ls:List (List db)} {i:Nat} {x:List db},ls[i]?=some x->iI loc (ls.take (i+1))=iI loc (ls.take i)+fU loc x
 | [],_,_,h=>by simp at h
 | l::ls,0,x,h=>by
  have:l=x:=by simpa using h
  subst this;show fU loc l+iI loc []=0+_;rw[nA_];rfl
 | l::ls,i+1,x,h=>by
  have h':ls[i]?=some x:=by simpa using h
  show fU loc l+iI loc (ls.take (i+1))=fU loc l+iI loc (ls.take i)+_;rw[vw h',Nat.add_assoc]
theorem uq {loc:Int}:∀{l:List db},fU loc l<=l.length
 | []=>nR_ _
 | e::l=>by
  have:=uq (loc:=loc) (l:=l);show(bif (bif bI e then H e.loc loc else false) then 1 else 0)+fU loc l<=l.length+1;cases (bif bI e then H e.loc loc else false) with
  | true=>show 1+_<=_;omega
  | false=>show 0+_<=_;omega
theorem zd {loc:Int} {b:Nat}:∀{ls:List (List db)},(∀l∈ls,l.length<=b)->iI loc ls<=ls.length*b
 | [],_=>Nat.zero_le _
 | l::ls,h=>by
  have h1:=h l (mS_ ..);have h2:=zd (loc:=loc) (ls:=ls) fun x hx=>h x (mC_ _ hx)
  grind [uq,iI,Nat.succ_mul]
theorem An {loc:Int} {ls:List (List db)} {i:Nat} (h1:ls.length<=4) (j:∀l∈ls,l.length<=14):iI loc (ls.take i)<=56:=by
 have h3:=zd (loc:=loc) (b:=14) (ls:=ls.take i) fun l hl=>j l (List.mem_of_mem_take hl)
 grind
theorem KU {α:Type} {l:List α} (h:l.Nodup) {i j:Nat} {a b:α} (aa:i<j) (ha:l[i]?=some a) (hb:l[j]?=some b):a≠b:=fun e=>by
 grind [List.pairwise_iff_getElem]
theorem KV {α:Type} {l:List α} (h:∀(i j:Nat) (a b:α),i<j->l[i]?=some a->l[j]?=some b->a≠b):l.Nodup:=
 List.pairwise_iff_getElem.2 fun i j h1 u m=>h i j _ _ m (gC h1) (gC u)
def mi:List (List db)->Nat->List cY
 | [],_=>[]
 | r::l,t=>(List.range r.length).map (fun i=>(⟨.ofNat (t+1),.ofNat i⟩:cY))++mi l (t+1)
def ij (g:XG):List cY:=(List.range g.init.length).map (fun i=>(⟨0,.ofNat i⟩:cY))++mi g.threads 0
def fM (g:XG) (i:Nat):cY:=((ij g)[i]?).getD ⟨0,0⟩
def fg (g:XG) (i:Nat):db:=mK (dn g<|fM g i)
def EL (g:XG):List db:=(ij g).map fun id=>mK (dn g id)
def nV (g:XG):Nat:=(ij g).length
theorem zw:∀{l:List (List db)} {t s:Nat} {row:List db},l[t]?=some row->mi (l.take (t+1)) s=mi (l.take t) s++(List.range row.length).map fun i=>(⟨.ofNat (s+t+1),.ofNat i⟩:cY)
 | [],_,_,_,h=>by simp at h
 | r::l,0,s,row,h=>by
  simp only[List.getElem?_cons_zero,oJ_] at h;subst h;simp[mi]
 | r::l,t+1,s,row,h=>by
  have:=zw (l:=l) (t:=t) (s:=s+1) (by simpa using h);rw[List.take_succ_cons,List.take_succ_cons];show _++mi (l.take (t+1)) (s+1)=(_++mi (l.take t) (s+1))++_;rw[this,lQ_,show s+1+t+1=s+(t+1)+1 by omega]
def ru (g:XG) (i t k:Nat):List cY:=(List.range i).map (fun i=>(⟨0,.ofNat i⟩:cY))++(mi (g.threads.take t) 0++(List.range k).map fun i=>(⟨.ofNat (t+1),.ofNat i⟩:cY))
theorem Pw {g:XG} {i:Nat}:ru g i 0 0++[⟨0,.ofNat i⟩]=ru g (i+1) 0 0:=by unfold ru;simp[mi,List.range_succ]
theorem Px {g:XG} {i t k:Nat}:ru g i t k++[⟨.ofNat (t+1),.ofNat k⟩]=ru g i t (k+1):=by unfold ru;simp[List.range_succ,lQ_]
theorem Py {g:XG} {i t:Nat} {row:List db} (h:g.threads[t]?=some row):ru g i t row.length=ru g i (t+1) 0:=by
 unfold ru;rw[zw h,nA_];simp
theorem Kr {g:XG} {t:Nat} (h:g.threads.length<=t):ru g g.init.length t 0=ij g:=by
 unfold ru ij;rw[tL_ h];simp
section
variable {g:XG}
theorem J6:(EL g).length=nV g:=lM_ ..
theorem eJ {i:Nat} (h:i<nV g):(ij g)[i]?=some (fM g i):=by unfold fM;rw[gC h];rfl
theorem fV {i:Nat} (h:i<nV g):(EL g)[i]?=some (fg g i):=by unfold EL fg;rw[gM_,eJ h];rfl
theorem wv:∀{l:List (List db)} {t n:Nat} {id:cY},(mi l t)[n]?=some id->∃(s k:Nat) (row:List db) (e:db),l[s]?=some row/\row[k]?=some e/\id=⟨.ofNat (t+s+1),.ofNat k⟩
 | [],_,_,_,h=>by simp[mi] at h
 | r::l,t,n,id,h=>by
  unfold mi at h
  by_cases j:n<r.length
  ·rw[gL_ (by simpa using j),gM_,List.getElem?_range j] at h;simp only[Option.map_some,oJ_] at h;exact⟨0,n,r,r[n],Z,gC j,h.symm⟩
  rw[gR_ (by simpa using Nat.le_of_not_lt j)] at h;obtain⟨s,k,row,e,h1,m,u⟩:=wv h;exact⟨s+1,k,row,e,by simpa using h1,m,by rw[u,show t+1+s+1=t+(s+1)+1 by omega]⟩
theorem CE:∀{l:List (List db)} {t s k:Nat} {row:List db} {e:db},l[s]?=some row->row[k]?=some e->(⟨.ofNat (t+s+1),.ofNat k⟩:cY)∈mi l t
 | [],_,_,_,_,_,h,_=>by simp at h
 | r::l,t,0,k,row,e,h,j=>by
  simp only[List.getElem?_cons_zero,oJ_] at h;subst h;unfold mi;exact List.mem_append_left _<|List.mem_map.2 ⟨k,List.mem_range.2 (gA.1 j).1,Z⟩
 | r::l,t,s+1,k,row,e,h,j=>by
  unfold mi;have:=CE (t:=t+1) (by simpa using h) j;rw[show t+1+s+1=t+(s+1)+1 by omega] at this;exact List.mem_append_right _ this
theorem jL {i:Nat} (h:i<nV g):(∃(x:Nat) (v:Int),fM g i=⟨0,.ofNat x⟩/\g.init[x]?=some v/\fg g i=⟨2,.ofNat x,1,0,v⟩)∨(∃(t k:Nat) (row:List db) (e:db),fM g i=⟨.ofNat (t+1),.ofNat k⟩/\g.threads[t]?=some row/\row[k]?=some e/\fg g i=e):=by
 have ha:=eJ h;unfold ij at ha
 by_cases j:i<g.init.length
 ·rw[gL_ (by simpa using j),gM_,List.getElem?_range j] at ha;simp only[Option.map_some,oJ_] at ha;refine .inl ⟨i,g.init[i],ha.symm,gC j,?_⟩;unfold fg;rw[<-ha];show mK ((g.init[i]?).map fun v=>(⟨2,i,1,0,v⟩:db))=_;rw[gC j];rfl
 rw[gR_ (by simpa using Nat.le_of_not_lt j)] at ha;obtain⟨s,k,row,e,h1,u,m⟩:=wv ha;rw[nA_] at m;refine .inr ⟨s,k,row,e,m,h1,u,?_⟩;unfold fg;rw[m,gh,h1];show mK (row[k]?)=e;rw[u];rfl
theorem AE {id:cY} {e:db} (h:dn g id=some e) (hw:0<=id.index):id∈ij g:=by
 obtain⟨th,ix⟩:=id;obtain⟨k,rfl⟩:∃k:Nat,ix= .ofNat k:=⟨ix.toNat,(Int.toNat_of_nonneg hw).symm⟩;unfold ij
 match th with
 | .ofNat 0=>
  have h:(g.init[k]?).map (fun v=>(⟨2,k,1,0,v⟩:db))=some e:=h;obtain⟨v,hv,_⟩:=oM_.1 h;exact List.mem_append_left _<|List.mem_map.2 ⟨k,List.mem_range.2 (gA.1 hv).1,Z⟩
 | .ofNat (t+1)=>
  rw[show(⟨.ofNat (t+1),.ofNat k⟩:cY)=⟨.ofNat (t+1),.ofNat k⟩ from Z,gh] at h;obtain⟨row,h1,j⟩:=Option.bind_eq_some_iff.1 h;have:=CE (t:=0) h1 j;rw[nA_] at this;exact List.mem_append_right _ this
 | .negSucc t=>simp[dn] at h
theorem xG:∀{l:List (List db)} {t:Nat},(∀r∈l,r.length<=14)->(mi l t).length<=14*l.length
 | [],_,_=>nR_ _
 | r::l,t,h=>by
  unfold mi;have h1:=xG (l:=l) (t:=t+1) fun r j=>h r (mC_ _ j)
  have h2:=h r (mS_ ..);rw[lA_,lM_,List.length_range,List.length_cons];omega
theorem CC (h:dO g) {i t k:Nat} (hi:i<=6) (hk:k<=14) (ht:t<=4):(ru g i t k).length<=100:=by
 unfold ru
 have h1:=xG (l:=g.threads.take t) (t:=0) fun r j=>by
  obtain⟨i,hi⟩:=gO_ (List.mem_of_mem_take j);exact h.short i r hi
 have h2:(g.threads.take t).length<=t:=List.length_take_le ..;simp only[lA_,lM_,List.length_range];omega
theorem p4 (h:dO g):nV g<=62:=by
 unfold nV ij;rw[lA_,lM_,List.length_range]
 have h1:=xG (l:=g.threads) (t:=0) fun r j=>by
  obtain⟨i,hi⟩:=gO_ j;exact h.short i r hi
 have:=h.threads;have:=h.init;omega
theorem Gq:∀{l:List (List db)} {t:Nat},(mi l t).Pairwise (·≠·)
 | [],_=>.nil
 | r::l,t=>by
  unfold mi;refine List.pairwise_append.2 ⟨?_,Gq,fun a j b hb=>?_⟩
  ·refine List.pairwise_map.2 ((List.pairwise_lt_range (n:=r.length)).imp fun {a b} aa he=>?_);have:=iJ_ (congrArg cY.index he);omega
  obtain⟨k,_,rfl⟩:=List.mem_map.1 j;obtain⟨q,hq⟩:=gO_ hb;obtain⟨s,k',_,_,_,_,rfl⟩:=wv hq;intro he;have:=iJ_ (congrArg cY.cy he);omega
theorem Pz:(ij g).Pairwise (·≠·):=by
 unfold ij;refine List.pairwise_append.2 ⟨?_,Gq,fun a j b hb=>?_⟩
 ·refine List.pairwise_map.2 ((List.pairwise_lt_range (n:=g.init.length)).imp fun {a b} aa he=>?_);have:=iJ_ (congrArg cY.index he);omega
 obtain⟨k,_,rfl⟩:=List.mem_map.1 j;obtain⟨q,hq⟩:=gO_ hb;obtain⟨s,k',_,_,_,_,rfl⟩:=wv hq;intro he;have h1:(0:Int)=((0+s+1:Nat):Int):=congrArg cY.cy he;omega
theorem AD {i j:Nat} {id:cY} (hi:(ij g)[i]?=some id) (hj:(ij g)[j]?=some id):i=j:=by
 have hp:=List.pairwise_iff_getElem.1 (Pz (g:=g));obtain⟨h1,e1⟩:=gA.1 hi;obtain⟨m,u⟩:=gA.1 hj;rcases Nat.lt_trichotomy i j with h | h | h
 ·exact absurd (e1.trans u.symm)<|hp i j h1 m h
 ·exact h
 exact absurd (u.trans e1.symm)<|hp j i m h1 h
end
theorem Gs {α:Type} {p:α->Bool}:∀{l:List α} {i n:Nat} {x:α},l[n]?=some x->p x=true->(∀k y,k<n->l[k]?=some y->p y=false)->ew p l i= .ofNat (i+n)
 | [],_,_,_,h,_,_=>by simp at h
 | y::l,i,0,x,h,hp,_=>by
  simp only[List.getElem?_cons_zero,oJ_] at h;subst h;unfold ew;rw[hp];rfl
 | y::l,i,n+1,x,h,hp,hb=>by
  unfold ew;rw[hb 0 y oM Z];have:=Gs (i:=i+1) (l:=l) (n:=n) (by simpa using h) hp fun k z hk j=>hb (k+1) z oM (by simpa using j)
  show ew p l (i+1)=_;rw[this,show i+1+n=i+(n+1) by omega]
def Jb (g:XG) (id:cY):cY:=((((g.from_[id.cy.toNat-1]?).getD [])[id.index.toNat]?).getD ⟨0,0⟩)
def iG (g:XG) (i:Nat):Int:=bif cN (fg g i) then ew (fun x:cY=>bQ x.ints (Jb g<|fM g i).ints) (ij g) 0 else-1
def Iq (g:XG) (loc:Int):List cY:=(g.order[loc.toNat]?).getD []
def oQ (g:XG) (i:Nat):Int:=bif H (fM g i).cy 0 then 0 else(let p:=ew (fun x:cY=>bQ x.ints (fM g i).ints) (Iq g (fg g i).loc) 0;bif b9 p 0 then-1 else wr .i64 (Int.add p 1))
def rR (g:XG):Rn:=fun i j=>bif (bif H (fM g i).cy 0 then b9 0 (fM g j).cy else false) then true else bif b9 0 (fM g i).cy then(bif H (fM g i).cy (fM g j).cy then b9 (fM g i).index (fM g j).index else false) else false
def BF (g:XG):Rn:=fun i j=>H (iG g j) (.ofNat i)
def Ao (g:XG):Rn:=fun i j=>bif bI (fg g i) then(bif bI (fg g j) then(bif H (fg g i).loc (fg g j).loc then b9 (oQ g i) (oQ g j) else false) else false) else false
def DT (g:XG):Rn:=fun i j=>bif bh (H (.ofNat i) (.ofNat j)) then(bif cN (fg g i) then Ao g (iG g i).toNat j else false) else false
def yT (g:XG):Rn:=fun i j=>bif bh (H (.ofNat i) (.ofNat j)) then(bif bh (H (fg g i).kind 4) then(bif bh (H (fg g j).kind 4) then H (fg g i).loc (fg g j).loc else false) else false) else false
def Eb (g:XG) (i:Nat):Bool:=bif H (fg g i).order 3 then true else bif H (fg g i).order 5 then true else H (fg g i).order 6
def Fs (g:XG) (i:Nat):Bool:=bif H (fg g i).order 4 then true else bif H (fg g i).order 5 then true else H (fg g i).order 6
theorem JV {g:XG} {id:cY} {e:db} (h:dn g id=some e):0<=id.index:=by
 obtain⟨th,ix⟩:=id;cases ix with
 | ofNat k=>exact Int.natCast_nonneg k
 | negSucc k=>cases th with
  | ofNat t=>cases t<;>simp[dn] at h
  | negSucc t=>simp[dn] at h
theorem Kj {g:XG} (M:dO g) {i:Nat} (hi:i<nV g) (I:cN (fg g i)=true):∃(t k:Nat) (row:List db) (e:db) (frow:List cY) (q:cY),fM g i=⟨.ofNat (t+1),.ofNat k⟩/\g.threads[t]?=some row/\row[k]?=some e/\fg g i=e/\g.from_[t]?=some frow/\frow[k]?=some q/\Jb g (fM g i)=q/\∃f,f<nV g/\fM g f=q/\bI (fg g f)=true/\(fg g f).loc=(fg g i).loc/\q≠fM g i:=by
 rcases jL hi with ⟨x,v,h1,E,C⟩ | ⟨t,k,row,e,h1,E,C,h4⟩
 ·rw[C] at I;exact Bool.noConfusion (show false=true from I)
 obtain⟨frow,z⟩:∃frow,g.from_[t]?=some frow:=⟨_,gC (by rw[M.from_];exact(gA.1 E).1)⟩;obtain⟨hl,K⟩:=M.rows t row frow E z;obtain⟨q,hq⟩:∃q,frow[k]?=some q:=⟨_,gC (by rw[hl];exact(gA.1 C).1)⟩;have hoke:=K k e q C hq;unfold wB at hoke
 have j:de g ⟨.ofNat (t+1),.ofNat k⟩ q=true:=by
  revert hoke;cases bX e (.ofNat g.init.length)<;>intro hoke
  ·exact Bool.noConfusion (show false=true from hoke)
  exact hoke
 have L:dn g ⟨.ofNat (t+1),.ofNat k⟩=some e:=by rw[gh,E];exact C
 rw[h4] at I;unfold de at j;rw[L] at j;simp only[show mK (some e)=e from Z,I,Bool.not_true,cond_false] at j;cases Q:(dn g q).isSome with
 | false=>rw[Q] at j;exact Bool.noConfusion (show false=true from j)
 | true=>
  obtain⟨w,hw⟩:=Option.isSome_iff_exists.1 Q;rw[hw] at j;simp only[Option.isSome_some,cond_true,show mK (some w)=w from Z] at j;cases m:bQ [q.cy,q.index] [Int.ofNat (t+1),Int.ofNat k] with
  | true=>rw[m] at j;exact Bool.noConfusion (show false=true from j)
  | false=>
  rw[m] at j;simp only[cond_false,cond_true] at j;cases A:bI w with
  | false=>rw[A] at j;exact Bool.noConfusion (show false=true from j)
  | true=>
  rw[A] at j;simp only[cond_true] at j;cases B:H w.loc e.loc with
  | false=>rw[B] at j;exact Bool.noConfusion (show false=true from j)
  | true=>
  obtain⟨f,hf⟩:=gO_ (AE hw<|JV hw);have F:f<nV g:=(gA.1 hf).1;have G:fM g f=q:=Option.some.inj ((eJ F).symm.trans hf);have u:fg g f=w:=by unfold fg;rw[G,hw];rfl
  refine⟨t,k,row,e,frow,q,h1,E,C,h4,z,hq,?_,f,F,G,by rw[u];exact A,by rw[u,h4];rw[cW] at B;simpa using B,?_⟩
  ·unfold Jb;rw[h1];show((((g.from_[t]?).getD [])[k]?).getD ⟨0,0⟩)=q;rw[z];show((frow[k]?).getD ⟨0,0⟩)=q;rw[hq];rfl
  rw[h1];intro e;rw[e] at m;exact absurd Z<|iW.1 m
theorem zx {x y:cY}:bQ x.ints y.ints=true↔x=y:=by
 rw[cz];constructor
 ·intro h;obtain⟨a,b⟩:=x;obtain⟨c,d⟩:=y;have h: [a,b]= [c,d]:=h;simp at h;rw[h.1,h.2]
 intro h;rw[h]
theorem td {g:XG} (A:dO g) {i:Nat} (hi:i<nV g) (u:cN (fg g i)=true):∃f,f<nV g/\iG g i= .ofNat f/\fM g f=Jb g (fM g i)/\bI (fg g f)=true/\(fg g f).loc=(fg g i).loc/\f≠i:=by
 obtain⟨t,k,row,e,frow,q,h1,h2,h3,h4,h5,h6,w,f,hf,j,hw,hl,m⟩:=Kj A hi u;refine⟨f,hf,?_,by rw[j,w],hw,hl,fun e=>m (by rw[<-j,e])⟩;unfold iG;rw[u,w]
 have:=Gs (p:=fun x:cY=>bQ x.ints q.ints) (l:=ij g) (i:=0) (n:=f) (by rw[eJ hf,j]) (zx.2 Z) fun k y hk z=>by
  cases B:bQ y.ints q.ints with
  | false=>rfl
  | true=>
   rw[zx.1 B] at z;have:=AD z (by rw[eJ hf,j]);omega
 rw[nA_] at this;exact this
theorem Bq {x j:Nat} (h:j<64):H (Int.tmod (Int.fdiv (.ofNat x) (2 ^ min (Int.toNat (.ofNat j)) 64)) 2) 0= !x.testBit j:=by
 have e1:min (Int.toNat (.ofNat j)) 64=j:=by show min j 64=j;omega
 rw[e1,AR]
 have m:Int.fdiv (.ofNat x) (.ofNat (2 ^ j))= .ofNat (x/2 ^ j):=by
  show Int.fdiv ((x:Nat):Int) ((2 ^ j:Nat):Int)=_;rw[Int.fdiv_eq_ediv_of_nonneg _<|Int.natCast_nonneg _];rfl
 rw[m];have u:Int.tmod (.ofNat (x/2 ^ j)) 2= .ofNat (x/2 ^ j%2):=rfl;rw[u,Nat.testBit_eq_decide_div_mod_eq];show Nat.beq (x/2 ^ j%2) 0=_;have:x/2 ^ j%2<2:=Nat.mod_lt _ oM;generalize x/2 ^ j%2=y at*
 match y,this with
 | 0,_=>rfl
 | 1,_=>rfl
inductive Sq (g:XG) (w:Nat):Nat->Prop where
 | base:Sq g w w
 | step {i f:Nat} (hi:i<nV g) (hk:H (fg g i).kind 3=true) (hf:iG g i= .ofNat f) (h:Sq g w f):Sq g w i
open Classical in
def uT (g:XG) (w:Nat):Nat->Bool:=fun k=>decide (Sq g w k)
theorem tK {g:XG} {w k:Nat}:uT g w k=true↔Sq g w k:=by unfold uT;simp
def iY (n:Nat) (p:Nat->Bool):Nat:=((List.range n).filter p).length
theorem Gc (n:Nat) (p:Nat->Bool):iY n p<=n:=by
 unfold iY;have:=List.length_filter_le p (List.range n);simpa using this
theorem Hv {n:Nat} {p q:Nat->Bool} (h:∀k,p k=true->q k=true):iY n p<=iY n q:=(filter_lt fun x _=>h x).1
theorem Jx {n i:Nat} {p:Nat->Bool} (hi:i<n) (h:p i=false):iY n p<iY n fun k=>p k || decide (k=i):=
 (filter_lt (fun x _ hx=>by simp[hx])).2 ⟨i,List.mem_range.2 hi,h,by simp⟩
theorem pS {e:db} (h:H e.kind 3=true):cN e=true:=by unfold cN;rw[h];cases H e.kind 1<;>rfl
theorem N7 {g:XG} {w:Nat} {p:Nat->Bool} (hw:p w=true) (m:∀k,p k=true->Sq g w k) (hc:∀i f,i<nV g->H (fg g i).kind 3=true->iG g i= .ofNat f->p f=true->p i=true):cS (nV g) p=cS (nV g) (uT g w):=by
 refine vq fun k _=>?_
 have j:∀{k},Sq g w k->p k=true:=fun h=>by
  induction h with
  | base=>exact hw
  | step hi hk hf _ ih=>exact hc _ _ hi hk hf ih
 cases hb:uT g w k with
 | true=>exact j (tK.1 hb)
 | false=>
  cases hp:p k with
  | false=>rfl
  | true=>rw[tK.2<|m k hp] at hb;cases hb
theorem nX {n:Nat} {R:Rn} {a b:Nat}:(a,b)∈jf n R↔a<n/\b<n/\R a b=true:=by
 unfold jf;simp only[List.mem_flatMap,List.mem_range,List.mem_map,List.mem_filter];constructor
 ·rintro ⟨x,hx,y,⟨m,j⟩,he⟩;cases he;exact⟨hx,m,j⟩
 rintro ⟨u,hb,j⟩;exact⟨a,u,b,⟨hb,j⟩,Z⟩
theorem AO {l:List (Nat×Nat)} {a b:Nat}:C2 l a b=true↔(a,b)∈l:=by
 unfold C2;simp only[List.any_eq_true,bA_,beq_iff_eq];constructor
 ·rintro ⟨⟨x,y⟩,hm,h1,j⟩;cases h1;cases j;exact hm
 intro h;exact⟨(a,b),h,Z,Z⟩
theorem nW {n:Nat} {R:Rn}:bJ n (C2<|jf n R)=bJ n R:=by
 refine cE fun a b j hb=>?_
 rw[Bool.eq_iff_iff,AO,nX];exact⟨fun h=>h.2.2,fun h=>⟨j,hb,h⟩⟩
theorem qf {n:Nat} {R:Rn}:∀p∈jf n R,p.1<n/\p.2<n:=fun⟨a,b⟩ h=>⟨(nX.1 h).1,(nX.1 h).2.1⟩
theorem D.QU {V:aE} {K:KP} {A B C D_ L:Own} (h:D V K (A++(B++(C++(D_++L))))):∃j,KP.le K j/\(∀e∈A,j e.1 e.2)/\(∀e∈B,j e.1 e.2)/\(∀e∈C,j e.1 e.2)/\(∀e∈D_,j e.1 e.2)/\D V j L:=
 ⟨(((K.g9 A).g9 B).g9 C).g9 D_,fun b o hb=>.inl (.inl (.inl (.inl hb))),fun e he=>.inl (.inl (.inl (.inr he))),fun e he=>.inl (.inl (.inr he)),fun e he=>.inl (.inr he),fun e he=>.inr he,h.keeps.keeps.keeps.keeps⟩
end Go.Ev
namespace Go.Ev
variable [Env]
set_option maxRecDepth 20000
def pf (g:XG) (w:Nat):Bool:=bif bI (fg g w) then bh (H (fg g w).order 1) else false
def kT (g:XG) (w b:Nat):Bool:=bif cN (fg g b) then(bif H (fg g b).order 1 then false else uT g w (iG g b).toNat) else false
def jH (g:XG) (w r:Nat):Bool:=bif Fs g r then(bif H (.ofNat r) (.ofNat w) then true else bif H (fg g r).kind 4 then rR g r w else false) else false
def fP (g:XG) (b a:Nat):Bool:=bif Eb g a then(bif H (.ofNat a) (.ofNat b) then true else bif H (fg g a).kind 4 then rR g b a else false) else false
def mb {α:Type} (c:Nat->Bool) (f:Nat->List α):Nat->List α
 | 0=>[]
 | k+1=>mb c f k++(bif c k then f k else [])
def l4 (g:XG) (b r k:Nat):List (Nat×Nat):=mb (fP g b) (fun a=>[(r,a)]) k
def l3 (g:XG) (w b k:Nat):List (Nat×Nat):=mb (jH g w) (fun r=>l4 g b r (nV g)) k
def l2 (g:XG) (w k:Nat):List (Nat×Nat):=mb (kT g w) (fun b=>l3 g w b (nV g)) k
def l1 (g:XG) (k:Nat):List (Nat×Nat):=mb (pf g) (fun w=>l2 g w (nV g)) k
theorem jq {α:Type} {c:Nat->Bool} {f:Nat->List α} {x:α}:∀{k:Nat},x∈mb c f k↔∃i,i<k/\c i=true/\x∈f i
 | 0=>⟨(fun h=>by cases h),fun⟨i,h,_⟩=>absurd h<|nZ_ _⟩
 | k+1=>by
  unfold mb;rw[List.mem_append,jq (k:=k)];constructor
  ·rintro (⟨i,h1,j,m⟩ | h)
   ·exact⟨i,by omega,j,m⟩
   cases hc:c k with
   | false=>rw[hc] at h;cases h
   | true=>rw[hc] at h;exact⟨k,by omega,hc,h⟩
  rintro ⟨i,h1,j,m⟩;rcases Nat.lt_or_ge i k with h | h
  ·exact .inl ⟨i,h,j,m⟩
  obtain rfl:i=k:=by omega
  exact .inr (by rw[j];exact m)
theorem qK {α:Type} {c:Nat->Bool} {f:Nat->List α} {m:Nat} (h:∀i,c i=true->(f i).length<=m):∀{k:Nat},(mb c f k).length<=iY k c*m
 | 0=>Nat.zero_le _
 | k+1=>by
  unfold mb;have ih:=qK (c:=c) (f:=f) h (k:=k)
  have j:iY (k+1) c=iY k c+(bif c k then 1 else 0):=by
   unfold iY;rw[List.range_succ,List.filter_append,lA_];cases hc:c k<;>simp[hc]
  rw[lA_,j];cases hc:c k with
  | false=>simpa using ih
  | true=>
   have:=h k hc;simp only[cond_true,Nat.add_mul,Nat.one_mul];omega
def LW (g:XG):Rn:=C2 (l1 g<|nV g)
theorem Bl {g:XG} {r a:Nat}:LW g r a=true↔∃w b,w<nV g/\b<nV g/\r<nV g/\a<nV g/\pf g w=true/\kT g w b=true/\jH g w r=true/\fP g b a=true:=by
 unfold LW;rw[AO];unfold l1;rw[jq];constructor
 ·rintro ⟨w,hw,cw,h⟩;obtain⟨b,hb,cb,h⟩:=jq.1 h;obtain⟨r',j,cr,h⟩:=jq.1 h;obtain⟨a',m,ca,h⟩:=jq.1 h;cases List.mem_singleton.1 h;exact⟨w,b,hw,hb,j,m,cw,cb,cr,ca⟩
 rintro ⟨w,b,hw,hb,j,m,cw,cb,cr,ca⟩;exact⟨w,hw,cw,jq.2 ⟨b,hb,cb,jq.2 ⟨r,j,cr,jq.2 ⟨a,m,ca,List.mem_singleton.2 Z⟩⟩⟩⟩
theorem QW {g:XG}:∀p∈l1 g (nV g),p.1<nV g/\p.2<nV g:=fun⟨r,a⟩ h=>by
 obtain⟨_,_,_,_,j,m,_⟩:=Bl.1 (AO.2 h:LW g r a=true);exact⟨j,m⟩
theorem Gp:∀{l:List (List db)} {t T:Nat},T<t+1->(mi l t).filter (fun id=>H id.cy (.ofNat T))= []
 | [],_,_,_=>rfl
 | r::l,t,T,h=>by
  unfold mi;rw[List.filter_append,Gp oM,List.append_nil,List.filter_eq_nil_iff];intro a j;obtain⟨k,_,rfl⟩:=List.mem_map.1 j;simp only[fc,decide_eq_true_eq];omega
theorem CD:∀{l:List (List db)} {t T:Nat},(∀r∈l,r.length<=14)->((mi l t).filter (fun id=>H id.cy (.ofNat T))).length<=14
 | [],_,_,_=>Nat.zero_le _
 | r::l,t,T,h=>by
  unfold mi;rw[List.filter_append,lA_];rcases Nat.lt_or_ge T (t+2) with hT | hT
  ·rw[Gp (l:=l) (t:=t+1) (T:=T) oM];have h1:=List.length_filter_le (fun id:cY=>H id.cy (.ofNat T)) ((List.range r.length).map fun i=>(⟨.ofNat (t+1),.ofNat i⟩:cY));rw[lM_,List.length_range] at h1;have:=h r (mS_ ..);simp only[List.length_nil,Nat.add_zero];omega
  have:((List.range r.length).map fun i=>(⟨.ofNat (t+1),.ofNat i⟩:cY)).filter (fun id=>H id.cy (.ofNat T))= []:=by
   rw[List.filter_eq_nil_iff];intro a j;obtain⟨k,_,rfl⟩:=List.mem_map.1 j;simp only[fc,decide_eq_true_eq];omega
  rw[this];have:=CD (l:=l) (t:=t+1) (T:=T) fun r m=>h r (mC_ _ m)
  simpa using this
theorem Nx {g:XG}:ij g=(List.range<|nV g).map (fM g):=by
 refine List.ext_getElem? fun i=>?_
 by_cases hi:i<nV g
 ·rw[eJ hi,gM_,List.getElem?_range hi];rfl
 rw[gN_<|Nat.le_of_not_lt hi,gN_ (by simpa using Nat.le_of_not_lt hi)]
theorem yI {g:XG} (j:dO g) (T:Nat):iY (nV g) (fun a=>H (fM g a).cy (.ofNat (T+1)))<=14:=by
 have h1:((ij g).filter (fun id=>H id.cy (.ofNat (T+1)))).length<=14:=by
  unfold ij;rw[List.filter_append,lA_]
  have:((List.range g.init.length).map fun i=>(⟨0,.ofNat i⟩:cY)).filter (fun id=>H id.cy (.ofNat (T+1)))= []:=by
   rw[List.filter_eq_nil_iff];intro a m;obtain⟨k,_,rfl⟩:=List.mem_map.1 m;show¬H (.ofNat 0) (.ofNat (T+1))=true;simp only[fc,decide_eq_true_eq];omega
  rw[this]
  have:=CD (l:=g.threads) (t:=0) (T:=T+1) fun r u=>by
   obtain⟨i,hi⟩:=gO_ u;exact j.short i r hi
  simpa using this
 rw[Nx,List.filter_map,lM_] at h1;exact h1
theorem JA {n:Nat} {p q r:Nat->Bool} (h:∀i,i<n->p i=true->q i=true∨r i=true):iY n p<=iY n q+iY n r:=by
 unfold iY
 have:∀l:List Nat,(∀i∈l,p i=true->q i=true∨r i=true)->(l.filter p).length<=(l.filter q).length+(l.filter r).length:=by
  intro l;induction l with
  | nil=>intro _;simp
  | cons x l ih=>
   intro hl;have ih:=ih fun i hi=>hl i (mC_ _ hi)
   have hx:=hl x (mS_ ..);simp only[List.filter_cons];cases hp:p x<;>cases hq:q x<;>cases hr:r x<;>simp_all<;>omega
 exact this _ fun i hi=>h i (List.mem_range.1 hi)
theorem Gd {n w:Nat}:iY n (fun i=>H (.ofNat i) (.ofNat w))<=1:=by
 induction n with
 | zero=>exact Nat.zero_le _
 | succ n ih=>
  have j:iY (n+1) (fun i=>H (.ofNat i) (.ofNat w))=iY n (fun i=>H (.ofNat i) (.ofNat w))+(bif H (.ofNat n) (.ofNat w) then 1 else 0):=by
   unfold iY;rw[List.range_succ,List.filter_append,lA_];cases hc:H (.ofNat n) (.ofNat w)<;>simp only[List.filter_cons,List.filter_nil,hc,cond_true,cond_false,Bool.false_eq_true,if_false,if_true,List.length_nil,List.length_cons]
  rw[j];cases hc:H (.ofNat n) (.ofNat w) with
  | false=>simpa using ih
  | true=>
   have hn:n=w:=by rw[fc] at hc;simpa using hc
   have:iY n (fun i=>H (.ofNat i) (.ofNat w))=0:=by
    unfold iY;rw[List.length_eq_zero_iff,List.filter_eq_nil_iff];intro i hi;have:=List.mem_range.1 hi;simp only[fc,decide_eq_true_eq];omega
   rw[this];simp
theorem Aw {g:XG} {i:Nat} (hi:i<nV g) (h:H (fg g i).kind 2=false):∃T:Nat,(fM g i).cy= .ofNat (T+1):=by
 rcases jL hi with ⟨x,v,h1,h2,j⟩ | ⟨t,k,row,e,h1,_⟩
 ·rw[j] at h;exact Bool.noConfusion (show true=false from h)
 exact⟨t,by rw[h1]⟩
theorem H2 {e:db} {n:Int} (h:H e.kind n=true) (j:n≠2):H e.kind 2=false:=by
 rw[cW] at h⊢;have:e.kind=n:=by simpa using h
 rw[this];simp[j]
theorem GM {g:XG} {i j T:Nat} (hi:(fM g i).cy= .ofNat (T+1)) (h:rR g i j=true):(fM g j).cy= .ofNat (T+1):=by
 unfold rR at h;rw[hi] at h;have e1:H (.ofNat (T+1)) 0=false:=rfl;rw[e1] at h;simp only[cond_false] at h;cases u:b9 0 (.ofNat (T+1)) with
 | false=>rw[u] at h;cases h
 | true=>
  rw[u] at h;simp only[cond_true] at h;cases m:H (.ofNat (T+1)) (fM g j).cy with
  | false=>rw[m] at h;cases h
  | true=>rw[cW] at m;exact(of_decide_eq_true m).symm
theorem R2 {g:XG} (z:dO g) {b:Nat} (hb:b<nV g) (m:cN (fg g b)=true):iY (nV g) (fP g b)<=15:=by
 obtain⟨T,hT⟩:∃T:Nat,(fM g b).cy= .ofNat (T+1):=by
  rcases jL hb with ⟨x,v,h1,u,j⟩ | ⟨t,k,row,e,h1,_⟩
  ·rw[j] at m;exact Bool.noConfusion (show false=true from m)
  exact⟨t,by rw[h1]⟩
 refine Nat.le_trans (JA (q:=fun a=>H (.ofNat a) (.ofNat b)) (r:=fun a=>H (fM g a).cy (.ofNat (T+1))) fun a ha h=>?_)<|Nat.add_le_add Gd<|yI z T;unfold fP at h;cases h1:Eb g a with
 | false=>rw[h1] at h;cases h
 | true=>
 rw[h1] at h;simp only[cond_true] at h;cases u:H (.ofNat a) (.ofNat b) with
 | true=>exact .inl Z
 | false=>
 rw[u] at h;simp only[cond_false] at h;cases j:H (fg g a).kind 4 with
 | false=>rw[j] at h;cases h
 | true=>
  rw[j] at h;exact .inr (by rw[GM hT h];exact dL _)
theorem QH {g:XG} (z:dO g) {w:Nat} (hw:w<nV g):iY (nV g) (jH g w)<=15:=by
 refine Nat.le_trans (JA (q:=fun a=>H (.ofNat a) (.ofNat w)) (r:=fun a=>bif H (fg g a).kind 4 then rR g a w else false) fun a j h=>?_) ?_
 ·unfold jH at h;cases h1:Fs g a with
  | false=>rw[h1] at h;cases h
  | true=>
  rw[h1] at h;simp only[cond_true] at h;cases m:H (.ofNat a) (.ofNat w) with
  | true=>exact .inl Z
  | false=>rw[m] at h;exact .inr h
 refine Nat.le_trans (Nat.add_le_add Gd (?_:_<=14)) (by decide)
 by_cases hex:∃a,a<nV g/\(bif H (fg g a).kind 4 then rR g a w else false)=true
 ·obtain⟨a,j,h⟩:=hex
  have fen:∀{a},a<nV g->(bif H (fg g a).kind 4 then rR g a w else false)=true->∃T:Nat,(fM g a).cy= .ofNat (T+1)/\(fM g w).cy= .ofNat (T+1):=by
   intro a j h;cases u:H (fg g a).kind 4 with
   | false=>rw[u] at h;cases h
   | true=>
    rw[u] at h;obtain⟨T,hT⟩:=Aw j (H2 u (by decide));exact⟨T,hT,GM hT h⟩
  obtain⟨T,_,hT⟩:=fen j h;refine Nat.le_trans (filter_lt fun x hx hp=>?_).1<|yI z T;obtain⟨T',h1,m⟩:=fen (List.mem_range.1 hx) hp;have:T'=T:=by rw[hT] at m;have:=iJ_ m;omega
  rw[h1,this];exact dL _
 have:iY (nV g) (fun a=>bif H (fg g a).kind 4 then rR g a w else false)=0:=by
  unfold iY;rw[List.length_eq_zero_iff,List.filter_eq_nil_iff];exact fun a j h=>hex ⟨a,List.mem_range.1 j,h⟩
 omega
theorem qL {α:Type} {c:Nat->Bool} {f:Nat->List α} {k:Nat} (h:c k=true):mb c f (k+1)=mb c f k++f k:=by rw[mb,h];rfl
theorem tb {α:Type} {c:Nat->Bool} {f:Nat->List α} {k:Nat} (h:c k=false):mb c f (k+1)=mb c f k:=by rw[mb,h];exact List.append_nil _
section
variable {g:XG} {w b r a:Nat} {X Y0 Zv:List (Nat×Nat)}
theorem RQ (h:fP g b a=true):(X++(Y0++(Zv++l4 g b r a)))++[(r,a)]=X++(Y0++(Zv++l4 g b r (a+1))):=by
 rw[show l4 g b r (a+1)=l4 g b r a++[(r,a)] from qL h];simp only[lQ_]
theorem Qu (h:fP g b a=false):X++(Y0++(Zv++l4 g b r a))=X++(Y0++(Zv++l4 g b r (a+1))):=by rw[show l4 g b r (a+1)=l4 g b r a from tb h]
theorem S5 (h:jH g w r=true):X++(Y0++(l3 g w b r++l4 g b r (nV g)))=X++(Y0++l3 g w b (r+1)):=by rw[show l3 g w b (r+1)=l3 g w b r++l4 g b r (nV g) from qL h]
theorem SE (h:jH g w r=false):X++(Y0++l3 g w b r)=X++(Y0++l3 g w b (r+1)):=by rw[show l3 g w b (r+1)=l3 g w b r from tb h]
theorem Tz (h:kT g w b=true):X++(l2 g w b++l3 g w b (nV g))=X++l2 g w (b+1):=by rw[show l2 g w (b+1)=l2 g w b++l3 g w b (nV g) from qL h]
theorem SD (h:kT g w b=false):X++l2 g w b=X++l2 g w (b+1):=by rw[show l2 g w (b+1)=l2 g w b from tb h]
theorem S4 (h:pf g w=true):l1 g w++l2 g w (nV g)=l1 g (w+1):=by rw[show l1 g (w+1)=l1 g w++l2 g w (nV g) from qL h]
theorem SC (h:pf g w=false):l1 g w=l1 g (w+1):=by rw[show l1 g (w+1)=l1 g w from tb h]
theorem Lu {i:Nat} (h:cN (fg g i)=true):i<nV g:=by
 rcases Nat.lt_or_ge i (nV g) with hi | hi
 ·exact hi
 have e1:fM g i=⟨0,0⟩:=by unfold fM;rw[gN_ hi];rfl
 unfold fg at h;rw[e1] at h;have m:dn g ⟨0,0⟩=(g.init[0]?).map fun v=>(⟨2,(0:Nat),1,0,v⟩:db):=rfl
 rw[m] at h;cases j:g.init[0]? with
 | none=>rw[j] at h;exact Bool.noConfusion (show false=true from h)
 | some v=>rw[j] at h;exact Bool.noConfusion (show false=true from h)
theorem Jy {p:Nat->Bool} {k n:Nat} (h:k<=n):iY k p<=iY n p:=by
 unfold iY;exact((List.range_sublist.2 h).filter p).length_le
theorem KA (u:dO g) (j:cN (fg g b)=true) {k:Nat} (hk:k<=nV g):(l4 g b r k).length<=15:=by
 have h1:=qK (c:=fP g b) (f:=fun a=>[(r,a)]) (m:=1) (fun _ _=>nR_ _) (k:=k);have h2:=R2 u (Lu j) j;have h3:=Jy (p:=fP g b) hk;unfold l4;omega
theorem Kz (j:dO g) (hw:w<nV g) (u:cN (fg g b)=true) {k:Nat} (hk:k<=nV g):(l3 g w b k).length<=225:=by
 have h1:=qK (c:=jH g w) (f:=fun r=>l4 g b r<|nV g) (m:=15) (fun _ _=>KA j u (nR_ _)) (k:=k);have h2:=QH j hw;have h3:=Jy (p:=jH g w) hk;unfold l3;omega
theorem B7 (h:kT g w b=true):cN (fg g b)=true:=by
 unfold kT at h;cases j:cN (fg g b) with
 | true=>rfl
 | false=>rw[j] at h;cases h
theorem Ky (j:dO g) (hw:w<nV g) {k:Nat} (hk:k<=nV g):(l2 g w k).length<=13950:=by
 have h1:=qK (c:=kT g w) (f:=fun b=>l3 g w b<|nV g) (m:=225) (fun _ h=>Kz j hw (B7 h) (nR_ _)) (k:=k);have h2:=Gc k (kT g w);have h3:=p4 j;unfold l2;omega
theorem PC (j:dO g) {k:Nat} (hk:k<=nV g):(l1 g k).length<=864900:=by
 have key:∀k,k<=nV g->(l1 g k).length<=k*13950:=by
  intro k;induction k with
  | zero=>intro _;exact Nat.zero_le _
  | succ k ih=>
   intro hk;have ih:=ih oM;cases hc:pf g k with
   | true=>
    rw[<-S4 hc,lA_];have:=Ky j (w:=k) oM (nR_<|nV g);omega
   | false=>rw[<-SC hc];exact Nat.le_trans ih<|nM_ _<|Nat.le_succ k
 have h1:=key k hk;have h3:=p4 j;omega
theorem Bm (m:dO g) (hw:w<nV g) (hb:b<nV g) (hr:r<nV g) (ha:a<nV g) (j:cN (fg g b)=true):(l1 g w++(l2 g w b++(l3 g w b r++l4 g b r a))).length+1<=1000000:=by
 simp only[lA_];have h1:=PC m (k:=w) oM;have h2:=Ky m hw (k:=b) oM;have h3:=Kz m hw j (k:=r) oM;have h4:=KA m j (r:=r) (k:=a) oM;omega
end
end Go.Ev
namespace Go.Ev
variable [Env]
def nv (g:XG) (id:cY):Int:=bif (dn g id).isSome then(bif bI (mK<|dn g id) then ew (fun x:cY=>bQ x.ints id.ints) (dv g (mK<|dn g id).loc) 0 else-1) else-1
def nJ (g:XG) (id:cY):Bool:=bif H id.cy 0 then false else bif bh (H (mK<|dn g id).kind 3) then false else bh (H (nv g id)<|wr .i64<|Int.add (nv g<|Jb g id) 1)
def DF (g:XG):Int:=ew (nJ g) (ij g) 0
def nw (n:Nat) (R:Rn):Int:=ew (fun i=>sM n R i i) (List.range n) 0
def sZ (g:XG):Rn:=sM (nV g) (qa [BF g,Ao g,DT g])
def GN (g:XG):Rn:=sM (nV g) (qa [rR g,BF g])
def EU (g:XG):Rn:=sM (nV g) (qa [rR g,LW g])
def Jl (g:XG):Rn:=qa [rR g,BF g,Ao g,DT g]
def MY (g:XG):Bool:=(jf (nV g)<|ug (EU g)<|mH<|sZ g).any fun p=>bh (H (.ofNat p.1) (.ofNat p.2))
def eI (g:XG) (x:Int):Bool:=
 bif H x 2 then bh (b9 (DF g) 0) else bif H x 3 then bh (b9 (nw (nV g)<|GN g) 0) else bif H x 4 then bh (b9 (nw (nV g)<|EU g) 0) else
 bif H x 6 then bh (b9 (nw (nV g)<|Jl g) 0) else bif H x 5 then MY g else false
def gj (m:Int):List Int:=bif H m 1 then [1,2,6] else bif H m 2 then [1,2,3,4,5] else []
def uZ (m:Int) (g:XG):Bool:=bif H (.ofNat (gj m).length) 0 then false else bif H (cV g) 0 then(gj m).any (eI g) else true
theorem xI {α:Type} {p:α->Bool}:∀{l:List α} {i:Nat},b9 (ew p l i) 0= !(l.any p)
 | [],_=>rfl
 | x::l,i=>by
  unfold ew;rw[List.any_cons];cases hx:p x with
  | true=>rfl
  | false=>rw[Bool.false_or];exact xI
structure Pm (n:Nat) (p q:Nat->Nat):Prop where
 lt:∀t,t<n->p t<n
 Qq:∀t,t<n->q t<n
 qp:∀t,t<n->q (p t)=t
 pq:∀t,t<n->p (q t)=t
theorem Pm.L5 {n:Nat} {p q:Nat->Nat} (h:Pm n p q):Pm n q p:=⟨h.Qq,h.lt,h.pq,h.qp⟩
def jb (p:Nat->Nat) (id:cY):cY:=match id.cy with | .ofNat (t+1)=>⟨.ofNat (p t+1),id.index⟩ | _=>id
def fA (p q:Nat->Nat) (g:XG):XG:=
 ⟨g.init,(List.range g.threads.length).map (fun j=>(g.threads[q j]?).getD []),(List.range g.threads.length).map (fun j=>((g.from_[q j]?).getD []).map (jb p)),g.order.map (·.map<|jb p)⟩
def nG (n:Nat) (id:cY):Prop:=∃t:Nat,id.cy= .ofNat t/\t<=n
theorem oJ {p:Nat->Nat} {t:Nat} {k:Int}:jb p ⟨.ofNat (t+1),k⟩=⟨.ofNat (p t+1),k⟩:=rfl
theorem nG.case {n:Nat} {id:cY} (h:nG n id):(∃k,id=⟨0,k⟩)∨∃t k,t<n/\id=⟨.ofNat (t+1),k⟩:=by
 obtain⟨t,h1,j⟩:=h;obtain⟨a,k⟩:=id;dsimp only at h1;subst h1;cases t with
 | zero=>exact .inl ⟨k,Z⟩
 | succ t=>exact .inr ⟨t,k,j,Z⟩
section
variable {n:Nat} {p q:Nat->Nat} {g:XG}
theorem tu (h:Pm n p q) {id:cY} (hi:nG n id):jb q (jb p id)=id:=by
 rcases hi.case with ⟨k,rfl⟩ | ⟨t,k,j,rfl⟩
 ·rfl
 rw[oJ,oJ,h.qp t j]
theorem wz (h:Pm n p q) {a b:cY} (j:nG n a) (hb:nG n b) (e:jb p a=jb p b):a=b:=by rw[<-tu h j,e,tu h hb]
theorem s7 {id:cY} {e:db} (h:dn g id=some e):nG g.threads.length id:=by
 obtain⟨a,k⟩:=id
 match a,k with
 | .ofNat 0,_=>exact⟨0,Z,Nat.zero_le _⟩
 | .ofNat (t+1),.ofNat k=>
  obtain⟨row,h1,_⟩:=Option.bind_eq_some_iff.1 (show(g.threads[t]?).bind (·[k]?)=some e from h)
  exact⟨t+1,Z,(gA.1 h1).1⟩
 | .ofNat (t+1),.negSucc k=>cases h
 | .negSucc t,_=>cases h
theorem tq (h:Pm g.threads.length p q) {t:Nat} (j:t<g.threads.length):(fA p q g).threads[p t]?=g.threads[t]?:=by
 show((List.range g.threads.length).map _)[p t]?=_;rw[gM_,List.getElem?_range<|h.lt t j];show some ((g.threads[q<|p t]?).getD [])=_;rw[h.qp t j,gC j];rfl
theorem iR:(fA p q g).threads.length=g.threads.length:=by show((List.range g.threads.length).map _).length=_;simp
theorem Ih:(fA p q g).from_.length=g.threads.length:=by show((List.range g.threads.length).map _).length=_;simp
theorem xU (h:Pm g.threads.length p q) (hl:g.from_.length=g.threads.length) {t:Nat} (j:t<g.threads.length):(fA p q g).from_[p t]?=(g.from_[t]?).map (·.map<|jb p):=by
 show((List.range g.threads.length).map _)[p t]?=_;rw[gM_,List.getElem?_range<|h.lt t j];show some (((g.from_[q<|p t]?).getD []).map<|jb p)=_;rw[h.qp t j,gC (by rw[hl];exact j)];rfl
theorem uH (h:Pm g.threads.length p q) {id:cY} (hi:nG g.threads.length id):dn (fA p q g) (jb p id)=dn g id:=by
 rcases hi.case with ⟨k,rfl⟩ | ⟨t,k,j,rfl⟩
 ·cases k<;>rfl
 rw[oJ];cases k with
 | negSucc k=>rfl
 | ofNat k=>rw[gh,gh,tq h j]
theorem AM (h:Pm g.threads.length p q) {j:Nat} {l:List db} (hj:(fA p q g).threads[j]?=some l):∃t,t<g.threads.length/\j=p t/\g.threads[t]?=some l:=by
 have hlt:=(gA.1 hj).1;rw[iR] at hlt;refine⟨q j,h.Qq j hlt,(h.pq j hlt).symm,?_⟩;rw[<-tq h (h.Qq j hlt),h.pq j hlt];exact hj
theorem zJ {t k:Nat} {e:db} {f:cY} (h:wB g t k e f=true):bX e (.ofNat g.init.length)=true/\de g ⟨.ofNat (t+1),.ofNat k⟩ f=true:=by
 unfold wB at h;cases h1:bX e (.ofNat g.init.length) with
 | false=>rw[h1] at h;cases h
 | true=>rw[h1] at h;exact⟨Z,h⟩
theorem tG {t k:Nat} {row:List db} {e:db} {f:cY} (h1:g.threads[t]?=some row) (u:row[k]?=some e) (h:de g ⟨.ofNat (t+1),.ofNat k⟩ f=true):(cN e=false/\f=⟨0,0⟩)∨(cN e=true/\∃w,dn g f=some w/\f≠⟨.ofNat (t+1),.ofNat k⟩/\bI w=true/\w.loc=e.loc/\w.write=e.read):=by
 have he:dn g ⟨.ofNat (t+1),.ofNat k⟩=some e:=by rw[gh,h1];exact u
 unfold de at h;rw[he] at h;simp only[show mK (some e)=e from Z] at h;cases m:cN e with
 | false=>
  rw[m] at h;refine .inl ⟨Z,jM<|cz.1 (show bQ f.ints (cY.mk 0 0).ints=true from h)⟩
 | true=>
  rw[m] at h;cases hf:dn g f with
  | none=>rw[hf] at h;cases h
  | some w=>
   rw[hf] at h;simp only[show mK (some w)=w from Z,Bool.not_true,cond_false,Option.isSome_some,cond_true] at h;refine .inr ⟨Z,w,Z,?_⟩;cases j:bQ [f.cy,f.index] [Int.ofNat (t+1),Int.ofNat k] with
   | true=>rw[j] at h;cases h
   | false=>
    rw[j] at h;cases h4:bI w with
    | false=>rw[h4] at h;cases h
    | true=>
     rw[h4] at h;cases h5:H w.loc e.loc with
     | false=>rw[h5] at h;cases h
     | true=>
      rw[h5] at h;refine⟨fun e1=>iW.1 j (by rw[e1]),Z,?_,?_⟩
      ·rw[cW] at h5;exact of_decide_eq_true h5
      have h:H w.write e.read=true:=h;rw[cW] at h;exact of_decide_eq_true h
theorem Bb {t k:Nat} {row:List db} {e:db} {f:cY} (h1:g.threads[t]?=some row) (u:row[k]?=some e) (h:(cN e=false/\f=⟨0,0⟩)∨(cN e=true/\∃w,dn g f=some w/\f≠⟨.ofNat (t+1),.ofNat k⟩/\bI w=true/\w.loc=e.loc/\w.write=e.read)):de g ⟨.ofNat (t+1),.ofNat k⟩ f=true:=by
 have he:dn g ⟨.ofNat (t+1),.ofNat k⟩=some e:=by rw[gh,h1];exact u
 unfold de;rw[he];simp only[show mK (some e)=e from Z];rcases h with ⟨j,rfl⟩ | ⟨j,w,hf,m,hw,hl,hv⟩
 ·rw[j];exact cz.2 Z
 have z:bQ [f.cy,f.index] [Int.ofNat (t+1),Int.ofNat k]=false:=iW.2 fun e1=>m (jM e1)
 rw[j,hf];simp only[show mK (some w)=w from Z,Bool.not_true,cond_false,Option.isSome_some,cond_true,z,hw,hl,hv,dL]
theorem wu (j:dO g) {t:Nat} {f:List cY} (hf:g.from_[t]?=some f) {x:cY} (hx:x∈f):nG g.threads.length x:=by
 obtain⟨l,hl⟩:=cL (show t<g.threads.length by rw[<-j.from_];exact(gA.1 hf).1);obtain⟨h1,m⟩:=j.rows t l f hl hf;obtain⟨k,hk⟩:=gO_ hx;obtain⟨e,he⟩:=cL (show k<l.length by rw[<-h1];exact(gA.1 hk).1);rcases tG hl he (zJ<|m k e x he hk).2 with ⟨_,rfl⟩ | ⟨_,w,hw,_⟩
 ·exact⟨0,Z,Nat.zero_le _⟩
 exact s7 hw
theorem zM (j:dO g) {ln:Nat} {r:List cY} (m:g.order[ln]?=some r) {x:cY} (hx:x∈r):∃(t k:Nat) (row:List db) (e:db),x=⟨.ofNat (t+1),.ofNat k⟩/\g.threads[t]?=some row/\row[k]?=some e/\bI e=true/\e.loc= .ofNat ln:=by
 have h:(x.ints,Int.ofNat ln)∈iU g.order 0:=ik.2 ⟨ln,r,x,m,hx,Z,by rw[nA_]⟩;obtain⟨t,k,row,e,h1,u,w,h4,h5⟩:=jB.1 (j.perm.mem_iff.2 h);rw[nA_] at h4;exact⟨t,k,row,e,jM h4,h1,u,w,h5.symm⟩
theorem jd (j:dO g) {ln:Nat} {r:List cY} (m:g.order[ln]?=some r) {x:cY} (hx:x∈r):nG g.threads.length x:=by
 obtain⟨t,k,row,e,rfl,h1,_⟩:=zM j m hx;exact⟨t+1,Z,(gA.1 h1).1⟩
theorem CS (m:dO g) (h:Pm g.threads.length p q):fA q p (fA p q g)=g:=by
 have e1:(List.range (fA p q g).threads.length).map (fun j=>((fA p q g).threads[p j]?).getD [])=g.threads:=by
  rw[iR];refine List.ext_getElem? fun j=>?_
  rw[gM_]
  by_cases hj:j<g.threads.length
  ·rw[List.getElem?_range hj];show some (((fA p q g).threads[p j]?).getD [])=_;rw[tq h hj,gC hj];rfl
  rw[gN_ (by simp;omega),gN_ oM];rfl
 have w:(List.range (fA p q g).threads.length).map (fun j=>(((fA p q g).from_[p j]?).getD []).map (jb q))=g.from_:=by
  rw[iR];refine List.ext_getElem? fun j=>?_
  rw[gM_]
  by_cases hj:j<g.threads.length
  ·rw[List.getElem?_range hj];show some ((((fA p q g).from_[p j]?).getD []).map<|jb q)=_;obtain⟨f,hf⟩:=cL (show j<g.from_.length by rw[m.from_];exact hj);rw[xU h m.from_ hj,hf];show some ((f.map<|jb p).map<|jb q)=_;rw[List.map_map];refine congrArg some ?_
   conv=>rhs;rw[<-List.map_id f]
   exact List.map_congr_left fun x hx=>tu h (wu m hf hx)
  rw[gN_ (by simp;omega),gN_ (by rw[m.from_];omega)];rfl
 have z:(g.order.map (·.map<|jb p)).map (·.map<|jb q)=g.order:=by
  rw[List.map_map]
  conv=>rhs;rw[<-List.map_id g.order]
  refine List.map_congr_left fun r A=>?_
  obtain⟨ln,u⟩:=gO_ A;show(r.map<|jb p).map (jb q)=r;rw[List.map_map]
  conv=>rhs;rw[<-List.map_id r]
  exact List.map_congr_left fun x hx=>tu h (jd m u hx)
 show(⟨g.init,_,_,(g.order.map (·.map<|jb p)).map (·.map<|jb q)⟩:XG)=g
 rw[e1,w,z]
theorem Ir {ln:Nat}:∀{r:List cY},eX ln (r.map<|jb p)=(eX ln r).map fun x=>((jb p ⟨x.1.headD 0,(x.1.drop 1).headD 0⟩).ints,x.2):=by
 intro r;unfold eX;rw[List.map_map,List.map_map];rfl
theorem GD:∀{o:List (List cY)} {ln:Nat},iU (o.map (·.map<|jb p)) ln=(iU o ln).map fun x=>((jb p ⟨x.1.headD 0,(x.1.drop 1).headD 0⟩).ints,x.2)
 | [],_=>rfl
 | r::o,ln=>by
  show eX ln (r.map<|jb p)++iU (o.map (·.map<|jb p)) (ln+1)=(eX ln r++iU o (ln+1)).map _
  rw[List.map_append,Ir,GD]
theorem lQ (m:dO g) (h:Pm g.threads.length p q):dO (fA p q g):=by
 refine⟨by rw[iR];exact m.threads,m.init,fun j l hj=>?_,by rw[Ih,iR],?_,fun j l f hj hf=>?_,?_⟩
 ·obtain⟨t,_,_,B⟩:=AM h hj;exact m.short t l B
 ·show(g.order.map _).length=_;rw[lM_];exact m.order
 ·obtain⟨t,htn,rfl,B⟩:=AM h hj;rw[xU h m.from_ htn] at hf;obtain⟨S,I,rfl⟩:=oM_.1 hf;obtain⟨h1,A⟩:=m.rows t l S B I;refine⟨by rw[lM_];exact h1,fun k e x he hx=>?_⟩;rw[gM_] at hx;obtain⟨T,K,rfl⟩:=oM_.1 hx;obtain⟨u,h4⟩:=zJ (A k e T he K);refine KZ u<|Bb hj he ?_;rcases tG B he h4 with ⟨h5,rfl⟩ | ⟨h5,w,E,W,X⟩
  ·exact .inl ⟨h5,Z⟩
  refine .inr ⟨h5,w,by rw[uH h<|s7 E];exact E,fun e1=>W ?_,X⟩;exact wz h (s7 E) ⟨t+1,Z,htn⟩ e1
 have L:(iU (fA p q g).order 0).Nodup:=by
  show(iU (g.order.map (·.map<|jb p)) 0).Nodup
  rw[GD];refine List.pairwise_map.2 ((m.perm.nodup_iff.1 lL).imp_of_mem fun {a b} ha hb M e=>M ?_);obtain⟨la,ra,ia,h1,A,u,h4⟩:=ik.1 (show(a.1,a.2)∈iU g.order 0 from ha);obtain⟨lb,rb,ib,z,F,C,G⟩:=ik.1 (show(b.1,b.2)∈iU g.order 0 from hb);obtain⟨a1,a2⟩:=a;obtain⟨b1,b2⟩:=b;dsimp only at u h4 C G;subst u;subst C;have e1:(jb p ia).ints=(jb p ib).ints:=congrArg Prod.fst e;have e2:a2=b2:=congrArg Prod.snd e;rw[wz h (jd m h1 A) (jd m z F)<|jM e1,e2]
 refine(List.perm_ext_iff_of_nodup lL L).2 fun⟨a,v⟩=>?_
 have Q:∀{ln:Nat} {r:List cY},g.order[ln]?=some r->(fA p q g).order[ln]?=some (r.map<|jb p):=fun {ln r} hr=>by
  show(g.order.map _)[ln]?=_;rw[gM_,hr];rfl
 constructor
 ·intro hm;obtain⟨s,i,l,e,h1,A,u,h4,h5⟩:=jB.1 hm;obtain⟨t,htn,rfl,B⟩:=AM h h1;have E:(([.ofNat (0+t+1),.ofNat i]:List Int),v)∈iU g.order 0:=m.perm.mem_iff.1 (jB.2 ⟨t,i,l,e,B,A,u,Z,h5⟩);obtain⟨ln,r,id,z,F,C,G⟩:=ik.1 E;obtain rfl:(⟨.ofNat (t+1),.ofNat i⟩:cY)=id:=jM (by rw[<-C,nA_];rfl);refine ik.2 ⟨ln,_,_,Q z,List.mem_map_of_mem F,?_,G⟩;rw[h4,nA_];rfl
 intro hm;obtain⟨ln,r,id,z,F,C,G⟩:=ik.1 hm;have z:(g.order.map (·.map<|jb p))[ln]?=some r:=z
 rw[gM_] at z;obtain⟨r0,R,rfl⟩:=oM_.1 z;obtain⟨x,hx,rfl⟩:=List.mem_map.1 F;obtain⟨t,k,row,e,rfl,h1,A,u,h4⟩:=zM m R hx;have htn:=(gA.1 h1).1;refine jB.2 ⟨p t,k,row,e,by rw[tq h htn];exact h1,A,u,by rw[C,nA_];rfl,by rw[G,h4,nA_]⟩
end
theorem LI {n:Nat}:∀{l:List Nat},l.Nodup->(∀x∈l,x<n)->l.length<=n:=by
  induction n with
  | zero=>
    intro l _ h;cases l with
    | nil=>exact nR_ _
    | cons x l=>exact absurd (h x<|mS_ ..) (nZ_ _)
  | succ n ih=>
    intro l j h
    by_cases hm:n∈l
    · have h1:=ih (l:=l.erase n) (j.erase n) fun x hx=>by
        have h2:=h x (List.mem_of_mem_erase hx);have m:x≠n:=(j.mem_erase_iff.1 hx).1;omega
      rw[List.length_erase_of_mem hm] at h1;omega
    · have:=ih (l:=l) j fun x hx=>by
        have h2:=h x hx;have m:x≠n:=fun e=>hm (e ▸ hx)
        omega
      omega
theorem O5 {n:Nat} {l:List Nat} (j:l.Nodup) (h:∀x∈l,x<n) (hl:l.length=n) {v:Nat} (hv:v<n):v∈l:=by
  refine Classical.byContradiction fun hm=>?_
  have:=LI (l:=v::l) (List.nodup_cons.2 ⟨hm,j⟩) fun x hx=>by
    rcases mQ_.1 hx with rfl | hx
    · exact hv
    · exact h x hx
  rw[List.length_cons] at this;omega
structure rZ (cls:List Int) (n:Nat) (ps:List Int):Prop where
  len:ps.length=n
  nd:ps.Nodup
  at_:∀(i:Nat) (x:Int),ps[i]?=some x->∃v:Nat,x= .ofNat (v+1)/\v<n/\cls[v+1]?=cls[i+1]?
theorem rZ.pm {cls:List Int} {n:Nat} {ps:List Int} (h:rZ cls n ps):∃p q:Nat->Nat,Pm n p q/\(∀i,i<n->ps[i]?=some (.ofNat (p i+1)))/\∀i,i<n->cls[p i+1]?=cls[i+1]?:=by
  have hp:∀i,∃v:Nat,i<n->ps[i]?=some (.ofNat (v+1))/\v<n/\cls[v+1]?=cls[i+1]?:=fun i=>by
    by_cases hi:i<n
    · obtain⟨x,hx⟩:=cL (show i<ps.length by rw[h.len];exact hi)
      obtain⟨v,rfl,h1,h2⟩:=h.at_ i x hx;exact⟨v,fun _=>⟨hx,h1,h2⟩⟩
    · exact⟨0,fun h=>absurd h hi⟩
  let p:Nat->Nat:=fun i=>Classical.choose (hp i)
  have m:∀i,i<n->ps[i]?=some (.ofNat (p i+1))/\p i<n/\cls[p i+1]?=cls[i+1]?:=fun i=>Classical.choose_spec (hp i)
  have w:∀i j,i<n->j<n->p i=p j->i=j:=fun i j hi hj e=>by
    have h1:=(m i hi).1;have h2:=(m j hj).1;rw[<-e] at h2;exact(List.getElem?_inj (by rw[h.len];exact hi) h.nd).1<|h1.trans h2.symm
  have hq:∀v,∃i:Nat,v<n->i<n/\p i=v:=fun v=>by
    by_cases hv:v<n
    · have:=O5 (l:=(List.range n).map p) (n:=n) (List.pairwise_map.2<|List.nodup_range.imp_of_mem fun {a b} A hb z e=>z (w a b (List.mem_range.1 A) (List.mem_range.1 hb) e))
        (fun x hx=>by
          obtain⟨i,hi,rfl⟩:=List.mem_map.1 hx;exact(m i<|List.mem_range.1 hi).2.1) (by simp) hv
      obtain⟨i,hi,e⟩:=List.mem_map.1 this;exact⟨i,fun _=>⟨List.mem_range.1 hi,e⟩⟩
    · exact⟨0,fun h=>absurd h hv⟩
  let q:Nat->Nat:=fun v=>Classical.choose (hq v)
  have u:∀v,v<n->q v<n/\p (q v)=v:=fun v=>Classical.choose_spec (hq v)
  refine⟨p,q,⟨fun i hi=>(m i hi).2.1,fun v hv=>(u v hv).1,fun i hi=>?_,fun v hv=>(u v hv).2⟩,fun i hi=>(m i hi).1,fun i hi=>(m i hi).2.2⟩;have h1:=(m i hi).2.1;exact w _ _ (u _ h1).1 hi (u _ h1).2
def rV (rc:List Bool->List Int->List (List Int)×List Int) (cls:List Int) (t:Nat) (tk:List Bool) (s:List (List Int)×List Int) (to:Nat):List (List Int)×List Int:=
  bif (bif (tk[to]?).getD false then true else bh (H ((cls[to]?).getD 0) ((cls[t]?).getD 0))) then s else(s.1++(rc (tk.set to true)<|s.2.set (t-1) (.ofNat to)).1,(rc (tk.set to true)<|s.2.set (t-1) (.ofNat to)).2)
def jV (cls:List Int) (n:Nat):Nat->Nat->List Bool->List Int->List (List Int)×List Int
  | 0,_,_,p=>([p],p)
  | f+1,t,tk,p=>((List.range n).map (· +1)).foldl (rV (jV cls n f (t+1)) cls t tk) ([],p)
structure Jg (cls:List Int) (n t:Nat) (tk:List Bool) (p:List Int):Prop where
  len:p.length=n
  Qb:n<tk.length
  nd:(p.take (t-1)).Nodup
  at_:∀(i:Nat) (x:Int),i<t-1->p[i]?=some x->∃v:Nat,x= .ofNat (v+1)/\v<n/\cls[v+1]?=cls[i+1]?
  tk:∀(i:Nat) (v:Nat),i<t-1->p[i]?=some (.ofNat (v+1))->(tk[v+1]?).getD false=true
section
variable {cls:List Int} {n:Nat}
theorem Dy (hc:cls.length=n+1):∀(f t:Nat) (tk:List Bool) (p:List Int),1<=t->t+f=n+1->Jg cls n t tk p->(∀x∈(jV cls n f t tk p).1,rZ cls n x)/\(jV cls n f t tk p).2.length=n/\(jV cls n f t tk p).2.take (t-1)=p.take (t-1)
  | 0,t,tk,p,G,C,h=>by
    have e:t-1=n:=by omega
    refine⟨fun x hx=>?_,h.len,Z⟩;obtain rfl:x=p:=List.mem_singleton.1 hx;have hnd:=h.nd;rw[e,tL_ (by rw[h.len];exact nR_ _)] at hnd;refine⟨h.len,hnd,fun i y F=>h.at_ i y ?_ F⟩;have:=(gA.1 F).1;rw[h.len] at this;omega
  | f+1,t,tk,p,G,C,h=>by
    have key:∀(l:List Nat),(∀x∈l,1<=x/\x<=n)->∀(s:List (List Int)×List Int),(∀x∈s.1,rZ cls n x)->s.2.length=n->s.2.take (t-1)=p.take (t-1)->
        (∀x∈(l.foldl (rV (jV cls n f (t+1)) cls t tk) s).1,rZ cls n x)/\(l.foldl (rV (jV cls n f (t+1)) cls t tk) s).2.length=n/\(l.foldl (rV (jV cls n f (t+1)) cls t tk) s).2.take (t-1)=p.take (t-1):=by
      intro l;induction l with
      | nil=>intro _ s h1 w m;exact⟨h1,w,m⟩
      | cons to l ih=>
        intro hl s h1 w m;obtain⟨aa,ab⟩:=hl to (mS_ ..)
        refine ih (fun x hx=>hl x (mC_ _ hx)) (rV (jV cls n f (t+1)) cls t tk s to) ?_ ?_ ?_<;>unfold rV<;>
          cases hk:(tk[to]?).getD false with
          | true=>first | exact h1 | exact w | exact m
          | false=>
            simp only[cond_false];cases hq:H ((cls[to]?).getD 0) ((cls[t]?).getD 0) with
            | false=>first | exact h1 | exact w | exact m
            | true=>
              simp only[show bh true=false from Z,cond_false]
              have z:∀i,i<t-1->s.2[i]?=p[i]?:=fun i hi=>by
                have:(s.2.take (t-1))[i]?=(p.take (t-1))[i]?:=by rw[m]
                rwa[List.getElem?_take_of_lt hi,List.getElem?_take_of_lt hi] at this
              have u:t-1<s.2.length:=by rw[w];omega
              have E:Jg cls n (t+1) (tk.set to true) (s.2.set (t-1) (.ofNat to)):=by
                have j:∀i,i<t+1-1->i=t-1∨i<t-1:=fun i hi=>by omega
                refine⟨by rw[List.length_set];exact w,by rw[List.length_set];exact h.Qb,?_,fun i x hi hx=>?_,fun i v hi hx=>?_⟩
                · rw[show t+1-1=t-1+1 by omega,List.take_add_one,List.take_set_of_le<|nR_ _,List.getElem?_set_self u,m]
                  refine List.nodup_append.2 ⟨h.nd,List.nodup_cons.2 ⟨(fun h=>by cases h),List.nodup_nil⟩,fun a A b hb e=>?_⟩;have hb:b= .ofNat to:=List.mem_singleton.1 hb;subst e;subst hb;obtain⟨i,hi⟩:=gO_ A
                  have B:i<t-1:=by
                    have:=(gA.1 hi).1;rw[lT_] at this;omega
                  rw[List.getElem?_take_of_lt B] at hi;have:=h.tk i (to-1) B (by rw[show to-1+1=to by omega];exact hi);rw[show to-1+1=to by omega,hk] at this;cases this
                · rcases j i hi with rfl | hi
                  · rw[List.getElem?_set_self u] at hx
                    cases hx;refine⟨to-1,by rw[show to-1+1=to by omega],by omega,?_⟩;rw[show to-1+1=to by omega,show t-1+1=t by omega];obtain⟨a,A⟩:=cL (show to<cls.length by omega);obtain⟨b,hb⟩:=cL (show t<cls.length by omega);rw[A,hb] at hq⊢;rw[cW] at hq;exact congrArg some<|of_decide_eq_true hq
                  · rw[List.getElem?_set_ne oM,z i hi] at hx
                    exact h.at_ i x hi hx
                · rcases j i hi with rfl | hi
                  · rw[List.getElem?_set_self u] at hx
                    have e:to=v+1:=iJ_ (Option.some.inj hx);rw[<-e,List.getElem?_set_self (by have:=h.Qb;omega)];rfl
                  · rw[List.getElem?_set_ne oM,z i hi] at hx
                    have h5:=h.tk i v hi hx
                    by_cases e:to=v+1
                    · rw[<-e,List.getElem?_set_self (by have:=h.Qb;omega)];rfl
                    · rw[List.getElem?_set_ne e];exact h5
              obtain⟨I,K,L⟩:=Dy hc f (t+1) (tk.set to true) (s.2.set (t-1) (.ofNat to)) oM oM E
              first
              | exact fun x hx=>by
                  rcases List.mem_append.1 hx with hx | hx
                  · exact h1 x hx
                  · exact I x hx
              | exact K
              | (have e:List.take (t-1) (List.take (t+1-1) (jV cls n f (t+1) (tk.set to true) (s.2.set (t-1) (.ofNat to))).2)=List.take (t-1) (List.take (t+1-1) (s.2.set (t-1) (.ofNat to))):=by rw[L]
                 rw[List.take_take,List.take_take,Nat.min_eq_left oM,List.take_set_of_le<|nR_ _,m] at e;exact e)
    exact key _ (fun x hx=>by
      obtain⟨a,A,rfl⟩:=List.mem_map.1 hx;have:=List.mem_range.1 A;omega) ([],p) (fun x hx=>by cases hx) h.len Z
def fZ (cls:List Int) (n f t:Nat) (tk:List Bool) (p:List Int) (i:Nat):List (List Int)×List Int:=((List.range i).map (· +1)).foldl (rV (jV cls n f (t+1)) cls t tk) ([],p)
theorem Bn {f t:Nat} {tk:List Bool} {p:List Int}:jV cls n (f+1) t tk p=fZ cls n f t tk p n:=rfl
theorem sL {f t:Nat} {tk:List Bool} {p:List Int}:fZ cls n f t tk p 0=([],p):=rfl
theorem yG {f t i:Nat} {tk:List Bool} {p:List Int}:fZ cls n f t tk p (i+1)=rV (jV cls n f (t+1)) cls t tk (fZ cls n f t tk p i) (i+1):=by
  unfold fZ;rw[List.range_succ,List.map_append,List.foldl_append];rfl
theorem mG {f t i:Nat} {tk:List Bool} {p:List Int} (h:(bif (tk[i+1]?).getD false then true else bh (H ((cls[i+1]?).getD 0) ((cls[t]?).getD 0)))=true):fZ cls n f t tk p (i+1)=fZ cls n f t tk p i:=by rw[yG];unfold rV;rw[h];rfl
theorem tS {f t i:Nat} {tk:List Bool} {p:List Int} (h:(bif (tk[i+1]?).getD false then true else bh (H ((cls[i+1]?).getD 0) ((cls[t]?).getD 0)))=false):fZ cls n f t tk p (i+1)=((fZ cls n f t tk p i).1++(jV cls n f (t+1) (tk.set (i+1) true) ((fZ cls n f t tk p i).2.set (t-1) (.ofNat (i+1)))).1,(jV cls n f (t+1) (tk.set (i+1) true) ((fZ cls n f t tk p i).2.set (t-1) (.ofNat (i+1)))).2):=by rw[yG];unfold rV;rw[h];rfl
theorem rj:∀(f t:Nat) (tk:List Bool) (p:List Int),(jV cls n f t tk p).2.length=p.length/\(jV cls n f t tk p).1.length<=n ^ f
  | 0,_,_,p=>⟨Z,nR_ _⟩
  | f+1,t,tk,p=>by
    have key:∀i,(fZ cls n f t tk p i).2.length=p.length/\(fZ cls n f t tk p i).1.length<=i*n ^ f:=by
      intro i;induction i with
      | zero=>exact⟨Z,by simp[sL]⟩
      | succ i ih=>
        cases h:(bif (tk[i+1]?).getD false then true else bh (H ((cls[i+1]?).getD 0) ((cls[t]?).getD 0))) with
        | true=>
          rw[mG h];exact⟨ih.1,Nat.le_trans ih.2<|nM_ _ oM⟩
        | false=>
          rw[tS h];obtain⟨h1,j⟩:=rj f (t+1) (tk.set (i+1) true) ((fZ cls n f t tk p i).2.set (t-1) (.ofNat (i+1)));refine⟨by rw[h1,List.length_set];exact ih.1,?_⟩;rw[lA_,Nat.add_mul,Nat.one_mul];exact Nat.add_le_add ih.2 j
    obtain⟨h1,j⟩:=key n;rw[Bn];exact⟨h1,by rw[Nat.pow_succ,Nat.mul_comm];exact j⟩
theorem IV {f t i:Nat} {tk:List Bool} {p:List Int}:(fZ cls n f t tk p i).2.length=p.length:=by
  induction i with
  | zero=>rfl
  | succ i ih=>
    cases h:(bif (tk[i+1]?).getD false then true else bh (H ((cls[i+1]?).getD 0) ((cls[t]?).getD 0))) with
    | true=>rw[mG h];exact ih
    | false=>rw[tS h,(rj f (t+1) _ _).1,List.length_set];exact ih
theorem IU {f t i:Nat} {tk:List Bool} {p:List Int}:(fZ cls n f t tk p i).1.length<=i*n ^ f:=by
  induction i with
  | zero=>simp[sL]
  | succ i ih=>
    cases h:(bif (tk[i+1]?).getD false then true else bh (H ((cls[i+1]?).getD 0) ((cls[t]?).getD 0))) with
    | true=>rw[mG h];exact Nat.le_trans ih<|nM_ _ oM
    | false=>
      rw[tS h,lA_,Nat.add_mul,Nat.one_mul];exact Nat.add_le_add ih (rj f (t+1) _ _).2
theorem IX {f t i a:Nat} {tk:List Bool} {p:List Int} (hi:i+1<=n) (h:a+n ^ (f+1)<=256):a+(fZ cls n f t tk p i).1.length+n ^ f<=256:=by
  have h1:=IU (cls:=cls) (n:=n) (f:=f) (t:=t) (i:=i) (tk:=tk) (p:=p);have j:(i+1)*n ^ f<=n*n ^ f:=nM_ _ hi;rw[Nat.add_mul,Nat.one_mul] at j;rw[Nat.pow_succ,Nat.mul_comm] at h;omega
def yc (l:List XC) (cls:List Int):List (List Int):=(jV cls l.length l.length 1 (List.replicate 5 false)<|List.replicate l.length 0).1
theorem Iy {l:List XC} {cls:List Int} (hc:cls.length=l.length+1) (h4:l.length<=4):(∀x∈yc l cls,rZ cls l.length x)/\(yc l cls).length<=256:=by
  refine⟨(Dy hc l.length 1 _ _ (nR_ _) oM ⟨by simp,by simp;omega,by simp,fun i x hi=>by omega,fun i v hi=>by omega⟩).1,?_⟩;have:=(rj (cls:=cls) (n:=l.length) l.length 1 (List.replicate 5 false)<|List.replicate l.length 0).2;refine Nat.le_trans this<|Nat.le_trans (Nat.pow_le_pow_left h4 _)<|Nat.pow_le_pow_right oM h4
end
def sX:List Nat->Nat->Option Nat
 | [],n=>some n
 | c::r,n=>if 48<=c/\c<=57 then sX r (10*n+(c-48)) else none
def ld (s:List Nat):Option Nat:=if s.length=0∨4<s.length∨(1<s.length/\s[0]?=some 48) then none else sX s 0
theorem wk {s:List Nat} {i c n:Nat} (h:s[i]?=some c) (hc:¬(48<=c/\c<=57)):sX (s.drop i) n=none:=by
 rw[cu h];show(if _ then _ else _)=_;rw[if_neg hc]
theorem Ce {s:List Nat} {i c n:Nat} (h:s[i]?=some c) (hc:48<=c/\c<=57):sX (s.drop i) n=sX (s.drop (i+1)) (10*n+(c-48)):=by
 rw[cu h];show(if _ then _ else _)=_;rw[if_pos hc]
theorem Cc {s:List Nat} {i n:Nat} (h:s.length<=i):sX (s.drop i) n=some n:=by rw[eF h];rfl
theorem eqv {a b:Int} (h:H a b=true):a=b:=by rw[cW] at h;simp_all
def qw (b:Bool):Int:=bif b then 1 else 0
def Jq (f:BitVec 64->BitVec 64->BitVec 64) (a b:Int):Int:=wr .i64 (IntKind.u64.wrap (f (BitVec.ofInt 64<|wr .u64 a)<|BitVec.ofInt 64<|wr .u64 b).toNat)
def uJ (op a:Int):Int:=bif H op 3 then wr .i64 (wr .u64<|Int.sub 0<|wr .u64 a) else qw (H a 0)
def oY (op a b:Int):Int:=
 bif H op 5 then qw (bif bh (H a 0) then true else bh (H b 0)) else
 bif H op 6 then qw (bif bh (H a 0) then bh (H b 0) else false) else
 bif H op 7 then qw (H a b) else
 bif H op 8 then qw (bh<|H a b) else
 bif H op 9 then qw (b9 a b) else
 bif H op 10 then qw (bh<|b9 b a) else
 bif H op 11 then Jq (· ||| ·) a b else
 bif H op 12 then Jq (· ^^^ ·) a b else
 bif H op 13 then Jq (· &&& ·) a b else
 bif H op 14 then wr .i64 (wr .u64<|Int.add (wr .u64 a)<|wr .u64 b) else
 bif H op 15 then wr .i64 (wr .u64<|Int.sub (wr .u64 a)<|wr .u64 b) else
 wr .i64 (wr .u64<|Int.mul (wr .u64 a)<|wr .u64 b)
def pJ (op:Int) (l:List Int):Int×Int:=
 bif (bif (bif H op 3 then true else H op 4) then H (.ofNat l.length) 1 else false) then(uJ op ((l[0]?).getD 0),0) else
 bif (bif (bif bh (b9 op 5) then bh (b9 16 op) else false) then H (.ofNat l.length) 2 else false) then(oY op ((l[0]?).getD 0) ((l[1]?).getD 0),0) else(0,2)
def SP (op:Int) (l:List Int):Int:=(pJ op l).1
def fY (br:List Int):Nat->XE->Int
 | 0,_=>0
 | k+1,.mk op num name kids=>bif H op 1 then num else bif H op 2 then(br[(ld name).getD 0]?).getD 0 else SP op (kids.map<|fY br k)
def zC (op:Int):Int:=bif (bif H op 3 then true else H op 4) then 1 else 2
def fo (br:Int):Nat->XE->Bool
 | 0,_=>false
 | k+1,.mk op num name kids=>
  bif H op 1 then(bif bh (b9 num 0) then(bif gK name [] then H (.ofNat kids.length) 0 else false) else false) else
  bif H op 2 then(match ld name with | some n=>(bif b9 (.ofNat n) br then(bif H num 0 then H (.ofNat kids.length) 0 else false) else false) | none=>false) else
  bif (bif (bif H op 3 then true else H op 4) then false else(bif b9 op 5 then true else b9 16 op)) then false else
  bif (bif bh (H num 0) then true else bif bh (gK name []) then true else bh (H (.ofNat kids.length)<|zC op)) then false else
  kids.all (fo br k)
def sI (f:XE->Int->Option Int):List XE->Int->Option Int
 | [],m=>some m
 | x::r,m=>(f x m).bind (sI f r)
def sH:Nat->XE->Int->Int->Option Int
 | 0,_,_,_=>none
 | k+1,.mk _ _ _ kids,deep,size=>bif (bif b9 2000 (wr .i64<|Int.add size 1) then true else b9 32 deep) then none else sI (fun x m=>sH k x (wr .i64<|Int.add deep 1) m) kids (wr .i64<|Int.add size 1)
structure oo where
 qY:Bool
 loc:Bool
 order:Bool
 to:Bool
 exprs:Nat
def oU:List oo:=[⟨false,false,false,false,0⟩,⟨true,false,false,false,1⟩,⟨true,true,true,false,0⟩,⟨false,true,true,false,1⟩,⟨true,true,true,false,2⟩,⟨true,true,true,false,1⟩,⟨true,true,true,false,1⟩,⟨false,false,true,false,0⟩,⟨false,false,false,false,1⟩,⟨false,false,false,false,1⟩,⟨false,false,false,true,0⟩,⟨false,false,false,true,1⟩,⟨false,false,false,false,0⟩,⟨false,false,false,false,0⟩]
def gH (n least most:Int) (must:Bool):Bool:=bif must then(bif bh (b9 n least) then b9 n most else false) else H n 0
def m7 (br nins:Int) (k:Nat) (x:XI) (h:oo):Bool:=
 bif bh (gH x.qY 0 br h.qY) then false else bif bh (gH x.loc 0 6 h.loc) then false else bif bh (gH x.order 1 7 h.order) then false else bif bh (gH x.to 0 nins h.to) then false else
 bif bh (H (.ofNat x.exprs.length) (.ofNat h.exprs)) then false else x.exprs.all (fo br k)
def im (br nins:Int) (k:Nat) (x:XI):Bool:=
 bif b9 x.kind 1 then false else bif b9 13 x.kind then false else
 match oU[x.kind.toNat]? with
 | some h=>m7 br nins k x h
 | none=>false
def FD (k:Nat) (x:XI):Bool:=x.exprs.all fun e=>(sH k e 1 0).isSome
def kx (x:XI):Bool:=bif H x.kind 10 then true else bif H x.kind 12 then true else H x.kind 13
def eY (k:Nat) (c:XC):Int:=
 bif b9 16 c.br then 3 else bif b9 4000 (.ofNat c.ins.length) then 3 else
 bif bh (c.ins.all<|FD k) then 3 else
 bif b9 c.br 0 then 2 else bif H (.ofNat c.ins.length) 0 then 2 else
 bif bh (c.ins.all<|im c.br (.ofNat c.ins.length) k) then 2 else
 match c.ins[c.ins.length-1]? with
 | some x=>bif kx x then 0 else 2
 | none=>2
def kZ (x:XI) (at_:Nat):List Int:=
 bif H x.kind 10 then [x.to] else bif H x.kind 11 then [.ofNat (at_+1),x.to] else bif H x.kind 12 then [] else bif H x.kind 13 then [] else [.ofNat (at_+1)]
def ei (c:XC) (i:Nat):List Nat:=match c.ins[i]? with | some x=>(kZ x i).map Int.toNat | none=>[]
structure DS where
 st:List Nat
 gone:List Nat
 out:List Nat
 path:List Nat
def vC (nx:Nat->List Nat) (s:DS) (at_:Nat):Option DS:=
 let g:=(s.gone[at_]?).getD 0
 match(nx at_)[g]? with
 | none=>some {s with st:=s.st.set at_ 2,out:=s.out++[at_],path:=s.path.dropLast}
 | some to=>
  let s':={s with gone:=s.gone.set at_ (g+1)}
  if(s.st[to]?).getD 0=2 then some s' else if(s.st[to]?).getD 0=1 then none else some {s' with st:=s.st.set to 1,path:=s.path++[to]}
def Ja (nx:Nat->List Nat):Nat->DS->Option (List Nat)
 | 0,_=>none
 | f+1,s=>match s.path.getLast? with
  | none=>some s.out
  | some at_=>(vC nx s at_).bind (Ja nx f)
def Ch (n:Nat):DS:=⟨(List.replicate n 0).set 0 1,List.replicate n 0,[],[0]⟩
def total (nx:Nat->List Nat) (n:Nat):Nat:=((List.range n).map fun i=>(nx i).length).sum
def kC (c:XC):Option (List Nat):=Ja (ei c) (2*total (ei c) c.ins.length+2) (Ch c.ins.length)
def kW (k:Nat) (c:XC):Bool:=bif bh (H (eY k c) 0) then false else(kC c).isSome
structure OX (nx:Nat->List Nat) (n:Nat) (s:DS):Prop where
 Rm:s.st.length=n
 zu:s.gone.length=n
 gone:∀(i g:Nat),s.gone[i]?=some g->g<=(nx i).length
 path:∀i∈s.path,i<n/\s.st[i]?=some 1
 out:∀i∈s.out,i<n
 nodup:s.path.Nodup
 fresh:∀(i g:Nat),s.st[i]?=some 0->s.gone[i]?=some g->g=0
 done:∀(i:Nat),s.st[i]?=some 2->i∈s.out
 mA:∀(k i:Nat),s.out[k]?=some i->∀to∈nx i,∃k',k'<k/\s.out[k']?=some to
 ways:∀(j p g:Nat),s.path[j]?=some p->s.gone[p]?=some g->∀(m to:Nat),m<g->(nx p)[m]?=some to->to∈s.out∨s.path[j+1]?=some to
 zero:0∈s.out∨0∈s.path
 size:∀(i g:Nat),s.st[i]?=some g->g<=2
def m3 (nx:Nat->List Nat) (n:Nat) (s:DS):Nat:=2*(total nx n-s.gone.sum)+s.path.length
section
variable {nx:Nat->List Nat} {n:Nat} {s s':DS}
theorem G7:∀{l:List Nat} {i g g':Nat},l[i]?=some g->(l.set i g').sum+g=l.sum+g'
 | [],_,_,_,h=>by simp at h
 | x::l,0,g,g',h=>by
  simp only[List.getElem?_cons_zero,oJ_] at h;subst h;simp only[List.set_cons_zero,List.sum_cons];omega
 | x::l,i+1,g,g',h=>by
  have:=G7 (l:=l) (i:=i) (g:=g) (g':=g') (by simpa using h);simp only[List.set_cons_succ,List.sum_cons];omega
theorem G6 {f:Nat->Nat}:∀(l:List Nat) (k:Nat),(∀i g,l[i]?=some g->g<=f (k+i))->l.sum<=((List.range' k l.length).map f).sum
 | [],_,_=>by simp
 | x::l,k,h=>by
  have h0:=h 0 x Z;have:=G6 l (k+1) (fun i g j=>by have:=h (i+1) g (by simpa using j);rwa[show k+1+i=k+(i+1) by omega]);simp only[List.length_cons,List.range'_succ,List.map_cons,List.sum_cons]
  grind
theorem Aq (u:0<n):OX nx n (Ch n) where
 Rm:=by simp[Ch]
 zu:=by simp[Ch]
 gone i g hg:=by
  have:g=0:=by
   have:=gB_ hg;exact eR_ this
  omega
 path i hi:=by
  obtain rfl:i=0:=by simpa [Ch] using hi
  exact⟨u,by simp[Ch,u]⟩
 out i hi:=by simp[Ch] at hi
 nodup:=by simp[Ch]
 fresh i g _ hg:=eR_ (gB_ hg)
 done i hi:=by
  exfalso;have hi:((List.replicate n 0).set 0 1)[i]?=some 2:=hi
  grind
 mA k i hk:=by simp[Ch] at hk
 ways j p g hj hg m to hm:=by
  have:g=0:=eR_ (gB_ hg);omega
 zero:=.inr (by simp[Ch])
 size i g hg:=by
  have hi:((List.replicate n 0).set 0 1)[i]?=some g:=hg
  grind
theorem OJ:m3 nx n (Ch n)=2*total nx n+1:=by
 have:(Ch n).gone.sum=0:=by
  have:∀m,(List.replicate m 0).sum=0:=by simp_all
  exact this n
 unfold m3;rw[this];rfl
theorem KT {l:List Nat} {a:Nat} {P:List Nat} (h:l.Nodup) (hl:l=P++[a]) {j:Nat} (hj:l[j]?=some a):j=P.length:=by
 grind
theorem xf (h:OX nx n s) (ac:∀i,i<n->∀to∈nx i,to<n) {a:Nat} (ha:s.path.getLast?=some a) (A:vC nx s a=some s'):OX nx n s'/\m3 nx n s'+1<=m3 nx n s/\s'.out.length+m3 nx n s'<=s.out.length+m3 nx n s:=by
 obtain⟨P,M⟩:=List.getLast?_eq_some_iff.1 ha;have Q:a∈s.path:=by rw[M];simp
 obtain⟨R,ar⟩:=h.path a Q;obtain⟨g,S⟩:∃g,s.gone[a]?=some g:=⟨_,gC (by rw[h.zu];exact R)⟩
 have a1:∀i∈P,i≠a:=fun i hi hh=>by
  have:=h.nodup;grind
 have am:s.path[P.length]?=some a:=by rw[M];simp
 have a2:s.path[P.length+1]?=none:=by rw[M];simp
 unfold vC at A;rw[S] at A;simp only[Option.getD_some] at A;cases B:(nx a)[g]? with
 | none=>
  rw[B] at A;simp only[oJ_] at A;subst A;have hle:(nx a).length<=g:=List.getElem?_eq_none_iff.1 B;have I:s.path.dropLast=P:=by rw[M];simp
  refine⟨⟨by simp[h.Rm],h.zu,h.gone,?_,?_,?_,?_,?_,?_,?_,?_,?_⟩,?_,?_⟩
  ·intro i hi;have hi:i∈P:=by simp_all
   have:=h.path i (by rw[M];simp[hi])
   grind
  ·intro i hi;rcases List.mem_append.1 hi with hi | hi
   ·exact h.out i hi
   simp_all
  ·show s.path.dropLast.Nodup;rw[I];have:=h.nodup;grind
  ·intro i g' h1 K
   by_cases e:i=a
   ·grind
   have h1:(s.st.set a 2)[i]?=some 0:=h1;rw[List.getElem?_set_ne (fun x=>e x.symm)] at h1;exact h.fresh i g' h1 K
  ·intro i hi;show i∈s.out++[a]
   by_cases e:i=a
   ·subst e;simp
   have hi:(s.st.set a 2)[i]?=some 2:=hi;rw[List.getElem?_set_ne (fun x=>e x.symm)] at hi;exact List.mem_append_left _<|h.done i hi
  ·intro k i hk to F;have hk:(s.out++[a])[k]?=some i:=hk;show∃k',k'<k/\(s.out++[a])[k']?=some to
   by_cases T:k<s.out.length
   ·rw[gL_ T] at hk;obtain⟨k',h1,K⟩:=h.mA k i hk to F;exact⟨k',h1,by grind⟩
   have hlt':=(gA.1 hk).1;simp only[lA_,List.length_singleton] at hlt';obtain rfl:k=s.out.length:=by omega
   have an:i=a:=by simpa using hk.symm
   subst an;obtain⟨m,hm⟩:=gO_ F;have hm':=(gA.1 hm).1;rcases h.ways _ _ _ am S m to oM hm with h1 | h1
   ·grind [gO_]
   simp_all
  ·intro j p g' hj w m to hm z;have hj:s.path.dropLast[j]?=some p:=hj;rw[I] at hj;have hjl:=(gA.1 hj).1;show to∈s.out++[a]∨s.path.dropLast[j+1]?=some to;rcases h.ways j p g' (by grind) w m to hm z with h1 | h1
   ·simp_all
   grind
  ·show 0∈s.out++[a]∨0∈s.path.dropLast;rw[I];rcases h.zero with h1 | h1
   ·simp_all
   grind
  ·intro i g' hi;have hi:(s.st.set a 2)[i]?=some g':=hi;rw[List.getElem?_set] at hi;split at hi
   ·simp_all
   exact h.size i g' hi
  ·grind [m3]
  grind [m3]
 | some to=>
  rw[B] at A;dsimp only at A;have a3:g<(nx a).length:=(gA.1 B).1;have W:to<n:=ac a R to (gB_ B);obtain⟨v,hv⟩:∃v,s.st[to]?=some v:=⟨_,gC (by rw[h.Rm];exact W)⟩;rw[hv] at A;simp only[Option.getD_some] at A
  have C:∀(i g':Nat),(s.gone.set a (g+1))[i]?=some g'->g'<=(nx i).length:=fun i g' hi=>by
   rw[List.getElem?_set] at hi;split at hi
   ·grind
   exact h.gone i g' hi
  have hsum:=G7 (l:=s.gone) (i:=a) (g:=g) (g':=g+1) S
  have T:(s.gone.set a (g+1)).sum<=total nx n:=by
   have:=G6 (f:=fun i=>(nx i).length) (s.gone.set a (g+1)) 0 (fun i g' w=>by simp_all);rw[List.length_set,h.zu] at this;unfold total;rwa[List.range_eq_range']
  have u:∀(p g':Nat),p≠a->(s.gone.set a (g+1))[p]?=some g'->s.gone[p]?=some g':=fun p g' hp w=>by
   grind
  have E:∀(g':Nat),(s.gone.set a (g+1))[a]?=some g'->g'=g+1:=fun g' w=>by
   grind
  split at A
  ·rename_i X;subst X;simp only[oJ_] at A;subst A;refine⟨⟨h.Rm,by simp[h.zu],C,h.path,h.out,h.nodup,?_,h.done,h.mA,?_,h.zero,h.size⟩,?_,?_⟩
   ·intro i g' h1 K;refine h.fresh i g' h1<|u i g' (fun e=>?_) K
    simp_all
   ·intro j p g' hj w m to' hm z
    by_cases hp:p=a
    ·subst hp;obtain rfl:=E g' w
     by_cases L:m<g
     ·exact h.ways j p g hj S m to' L z
     obtain rfl:m=g:=by omega
     rw[B] at z;cases z;exact .inl<|h.done _ hv
    exact h.ways j p g' hj (u p g' hp w) m to' hm z
   ·unfold m3;dsimp only;omega
   unfold m3;dsimp only;omega
  split at A
  ·cases A
  rename_i X a4;simp only[oJ_] at A;subst A;have ao:v=0:=by have:=h.size to v hv;omega
  subst ao;have aa:to∉s.path:=fun hh=>by have:=(h.path to hh).2;simp_all
  have ap:to≠a:=fun e=>aa (by rw[e];exact Q)
  have G:∀i,i≠to->(s.st.set to 1)[i]?=s.st[i]?:=fun i hi=>List.getElem?_set_ne (fun e=>hi e.symm)
  refine⟨⟨by simp[h.Rm],by simp[h.zu],C,?_,h.out,?_,?_,?_,h.mA,?_,?_,?_⟩,?_,?_⟩
  ·intro i hi;rcases List.mem_append.1 hi with hi | hi
   ·obtain⟨h1,K⟩:=h.path i hi
    grind
   grind
  ·show(s.path++[to]).Nodup;refine List.nodup_append.2 ⟨h.nodup,by simp,fun x hx y hy=>?_⟩
   grind
  ·intro i g' h1 K
   by_cases e:i=to
   ·grind
   have h1b:(s.st.set to 1)[i]?=some 0:=h1;rw[G i e] at h1b;refine h.fresh i g' h1b<|u i g' (fun e=>?_) K
   simp_all
  ·intro i hi
   by_cases e:i=to
   ·grind
   have hi:(s.st.set to 1)[i]?=some 2:=hi;rw[G i e] at hi;exact h.done i hi
  ·intro j p g' hj w m to' hm z;have ab:(s.path++[to])[j]?=some p:=hj;clear hj;have hj:=ab;clear ab;show to'∈s.out∨(s.path++[to])[j+1]?=some to'
   by_cases hjl:j<s.path.length
   ·rw[gL_ hjl] at hj
    by_cases hp:p=a
    ·subst hp;obtain rfl:=E g' w;have hjP:=KT h.nodup M hj
     by_cases L:m<g
     ·rcases h.ways j p g hj S m to' L z with h1 | h1
      ·exact .inl h1
      simp_all
     grind
    rcases h.ways j p g' hj (u p g' hp w) m to' hm z with h1 | h1
    ·exact .inl h1
    grind
   have hlt':=(gA.1 hj).1;simp only[lA_,List.length_singleton] at hlt';obtain rfl:j=s.path.length:=by omega
   have a0:to=p:=by simpa using hj
   subst a0;have:=h.fresh to g' hv (u to g' ap w);omega
  ·rcases h.zero with h1 | h1
   ·exact .inl h1
   grind
  ·intro i g' hi;have hi:(s.st.set to 1)[i]?=some g':=hi;rw[List.getElem?_set] at hi;split at hi
   ·grind
   exact h.size i g' hi
  ·grind [m3]
  grind [m3]
structure gb (nx:Nat->List Nat) (n:Nat) (out:List Nat):Prop where
 yV:∀(k i:Nat),out[k]?=some i->∀to∈nx i,∃k',k'<k/\out[k']?=some to
 zero:0∈out
 lt:∀i∈out,i<n
theorem sn (j:∀i,i<n->∀to∈nx i,to<n):∀{f:Nat} {s:DS} {out:List Nat},OX nx n s->Ja nx f s=some out->gb nx n out
 | 0,_,_,_,h=>by cases h
 | f+1,s,out,hw,h=>by
  unfold Ja at h;cases hl:s.path.getLast? with
  | none=>
   rw[hl] at h;simp only[oJ_] at h;subst h;have:s.path= []:=List.getLast?_eq_none_iff.1 hl;exact⟨hw.mA,by rcases hw.zero with h1 | h1;exact h1;rw[this] at h1;simp at h1,hw.out⟩
  | some a=>
   rw[hl] at h;dsimp only at h;cases m:vC nx s a with
   | none=>rw[m] at h;cases h
   | some s'=>rw[m] at h;exact sn j (xf hw j hl m).1 h
end
structure TS where
 at_:Nat
 br:List Int
 events:List db
 asked:Nat
 fin:Int
 asks:Bool
def jo (k:Nat) (br:List Int) (x:XI) (i:Nat):Int:=((x.exprs[i]?).map<|fY br k).getD 0
def e6 (k:Nat) (x:XI) (s:TS):TS×Bool:=
 bif H x.kind 1 then({s with br:=s.br.set x.qY.toNat (jo k s.br x 0),at_:=s.at_+1},true) else
 bif H x.kind 3 then({s with events:=s.events++[⟨2,x.loc,x.order,0,jo k s.br x 0⟩],at_:=s.at_+1},true) else
 bif H x.kind 7 then({s with events:=s.events++[⟨4,0,x.order,0,0⟩],at_:=s.at_+1},true) else
 bif H x.kind 8 then(bif H (jo k s.br x 0) 0 then({s with fin:=2},false) else({s with at_:=s.at_+1},true)) else
 bif H x.kind 9 then(bif H (jo k s.br x 0) 0 then({s with fin:=3},false) else({s with at_:=s.at_+1},true)) else
 bif H x.kind 10 then({s with at_:=x.to.toNat},true) else
 bif H x.kind 11 then(bif H (jo k s.br x 0) 0 then({s with at_:=x.to.toNat},true) else({s with at_:=s.at_+1},true)) else
 bif H x.kind 12 then({s with fin:=4},false) else
 bif H x.kind 13 then({s with fin:=1},false) else
 ({s with asks:=true},false)
def cT (k:Nat) (c:XC) (s:TS):TS×Bool:=match c.ins[s.at_]? with | some x=>e6 k x s | none=>(s,false)
def Gl (k:Nat) (c:XC):Nat->TS->TS
 | 0,s=>s
 | f+1,s=>bif (cT k c s).2 then Gl k c f (cT k c s).1 else(cT k c s).1
def xu (c:XC):Nat:=((kC c).getD []).length
def Ag (k:Nat) (c:XC):TS:=Gl k c (xu c) ⟨0,List.replicate c.br.toNat 0,[],0,0,false⟩
structure sN where
 kind:Int
 loc:Int
 order:Int
 a:Int
 b:Int
def sN.ints (x:sN):List Int:=[x.kind,x.loc,x.order,x.a,x.b]
def Ej (k:Nat) (x:XI) (br:List Int):sN:=⟨x.kind,x.loc,x.order,jo k br x 0,jo k br x 1⟩
def nI (k:Nat) (c:XC) (s:TS):sN:=match c.ins[s.at_]? with | some x=>Ej k x s.br | none=>⟨0,0,0,0,0⟩
def ea (a:sN) (v:Int):db:=
 bif H a.kind 2 then⟨1,a.loc,a.order,v,0⟩ else
 bif H a.kind 4 then(bif H v a.a then⟨3,a.loc,a.order,v,a.b⟩ else⟨1,a.loc,a.order,v,0⟩) else
 bif H a.kind 5 then⟨3,a.loc,a.order,v,wr .i64<|wr .u64<|Int.add (wr .u64 v)<|wr .u64 a.a⟩ else
 bif H a.kind 6 then⟨3,a.loc,a.order,v,a.a⟩ else⟨0,0,0,0,0⟩
def ou (a:sN):Int:=bif H a.kind 2 then 0 else bif H a.kind 4 then 0 else bif H a.kind 5 then 0 else bif H a.kind 6 then 0 else 2
def Lw (c:XC) (s:TS):Nat:=match c.ins[s.at_]? with | some x=>x.qY.toNat | none=>0
def hZ (k:Nat) (c:XC) (s:TS) (v:Int):TS:=
 {s with events:=s.events++[ea (nI k c s) v],br:=s.br.set (Lw c s) v,asked:=s.asked+1,at_:=s.at_+1,asks:=false}
def gx (k:Nat) (c:XC) (s:TS) (v:Int):TS:=Gl k c (xu c) (hZ k c s v)
def mM (k:Nat) (c:XC):List Int->TS->TS
 | [],s=>s
 | v::r,s=>bif s.asks then mM k c r (gx k c s v) else s
def dM (l:List db):List Int:=(l.filter cN).map db.read
def jS (k:Nat) (c:XC) (a:List Int):TS:=mM k c a (Ag k c)
def ta (s:TS) (l:List db):Bool:=bif b9 (.ofNat s.events.length) (.ofNat l.length) then false else bQ (s.events.take l.length) l
def gQ (k:Nat) (c:XC):Int:=bif kW k c then 0 else bif bh (H (eY k c) 0) then eY k c else 2
structure pD where
 event:db
 ask:sN
 fin:Int
def yU:db:=⟨0,0,0,0,0⟩
def k9:sN:=⟨0,0,0,0,0⟩
def AN:pD:=⟨yU,k9,0⟩
def m6 (k:Nat) (c:XC) (s:TS) (l:List db):pD×Int:=
 bif bh (ta s l) then(AN,2) else
 match s.events[l.length]? with
 | some e=>(⟨e,k9,0⟩,0)
 | none=>bif s.asks then(⟨yU,nI k c s,0⟩,0) else(⟨yU,k9,s.fin⟩,0)
def dQ (k:Nat) (c:XC) (l:List db):pD×Int:=
 bif bh (H (gQ k c) 0) then(AN,gQ k c) else m6 k c (jS k c<|dM l) l
structure fT (k:Nat) (c:XC):Prop where
 OO:0<=c.br
 P3:c.br<=16
 len:c.ins.length<=4000
 pos:0<c.ins.length
 right:∀x∈c.ins,im c.br (.ofNat c.ins.length) k x=true
 last:∀x,c.ins[c.ins.length-1]?=some x->kx x=true
theorem JB {k:Nat} {c:XC} (h:eY k c=0):fT k c:=by
 unfold eY at h;cases h1:b9 16 c.br with
 | true=>rw[h1] at h;cases h
 | false=>
 rw[h1] at h;cases j:b9 4000 (.ofNat c.ins.length) with
 | true=>rw[j] at h;cases h
 | false=>
 rw[j] at h;cases m:bh (c.ins.all<|FD k) with
 | true=>rw[m] at h;cases h
 | false=>
 rw[m] at h;cases h4:b9 c.br 0 with
 | true=>rw[h4] at h;cases h
 | false=>
 rw[h4] at h;cases h5:H (.ofNat c.ins.length) 0 with
 | true=>rw[h5] at h;cases h
 | false=>
 rw[h5] at h;cases h6:bh (c.ins.all<|im c.br (.ofNat c.ins.length) k) with
 | true=>rw[h6] at h;cases h
 | false=>
 rw[h6] at h;simp only[cond_false] at h;rw[fm,decide_eq_false_iff_not] at h1 j h4;have j:¬(4000:Int)<(c.ins.length:Int):=j
 have hp:0<c.ins.length:=by
  grind
 refine⟨by omega,by omega,by omega,hp,fun x hx=>?_,fun x hx=>?_⟩
 ·have h6:=bK h6
  simp_all
 grind
theorem kG {br nins:Int} {k:Nat} {x:XI} (h:im br nins k x=true):∃(n:Nat) (sh:oo),x.kind= .ofNat n/\1<=n/\n<=13/\oU[n]?=some sh/\m7 br nins k x sh=true:=by
 unfold im at h;cases h1:b9 x.kind 1 with
 | true=>rw[h1] at h;cases h
 | false=>
 rw[h1] at h;cases j:b9 13 x.kind with
 | true=>rw[j] at h;cases h
 | false=>
 rw[j] at h;simp only[cond_false] at h;rw[fm,decide_eq_false_iff_not] at h1 j
 grind
theorem ng {n least most:Int} (h:gH n least most true=true):least<=n/\n<most:=by
 unfold gH at h;simp only[cond_true] at h;cases h1:b9 n least with
 | true=>rw[h1] at h;cases h
 | false=>
 rw[h1] at h;have h:b9 n most=true:=h;rw[fm,decide_eq_false_iff_not] at h1;rw[fm,decide_eq_true_iff] at h;omega
structure MA (br nins:Int) (k:Nat) (x:XI) (sh:oo):Prop where
 qY:gH x.qY 0 br sh.qY=true
 loc:gH x.loc 0 6 sh.loc=true
 order:gH x.order 1 7 sh.order=true
 to:gH x.to 0 nins sh.to=true
 exprs:x.exprs.length=sh.exprs
 all:∀e∈x.exprs,fo br k e=true
theorem jh {br nins:Int} {k:Nat} {x:XI} {sh:oo} (h:m7 br nins k x sh=true):MA br nins k x sh:=by
 unfold m7 at h;cases h1:gH x.qY 0 br sh.qY with
 | false=>rw[h1] at h;cases h
 | true=>
 cases j:gH x.loc 0 6 sh.loc with
 | false=>rw[h1,j] at h;cases h
 | true=>
 cases m:gH x.order 1 7 sh.order with
 | false=>rw[h1,j,m] at h;cases h
 | true=>
 cases h4:gH x.to 0 nins sh.to with
 | false=>rw[h1,j,m,h4] at h;cases h
 | true=>
 rw[h1,j,m,h4] at h;have h:(bif bh (H (.ofNat x.exprs.length) (.ofNat sh.exprs)) then false else x.exprs.all (fo br k))=true:=h;cases h5:H (.ofNat x.exprs.length) (.ofNat sh.exprs) with
 | false=>rw[h5] at h;cases h
 | true=>
 rw[h5] at h;have h:x.exprs.all (fo br k)=true:=h;rw[fc,decide_eq_true_iff] at h5;exact⟨h1,j,m,h4,h5,aE_.1 h⟩
theorem wA {k:Nat} {c:XC} (h:fT k c):∀i,i<c.ins.length->∀to∈ei c i,to<c.ins.length:=by
 intro i hi to j;unfold ei at j;rw[gC hi] at j;dsimp only at j;have hx:=h.right c.ins[i] (List.getElem_mem hi);have hl:=h.last;generalize aa:c.ins[i]=x at j hx;obtain⟨n,sh,A,B,z,w,hr⟩:=kG hx;have hr:=jh hr;have hto':=hr.to
 have u:i+1<c.ins.length∨kx x=true:=by
  grind
 unfold kZ at j;unfold kx at u;rw[A] at j u;have key:∀m:Nat,m=n->(∀y,(sh.to=true->0<=y/\y<(c.ins.length:Int))->y=x.to->True):=fun _ _ _ _ _=>trivial
 have tole:sh.to=true->0<=x.to/\x.to<(c.ins.length:Int):=fun e=>by rw[e] at hto';exact ng hto'
 match n,B,z with
 | 1,_,_ | 2,_,_ | 3,_,_ | 4,_,_ | 5,_,_ | 6,_,_ | 7,_,_ | 8,_,_ | 9,_,_=>
  have e:to=i+1:=List.mem_singleton.1 (show to∈[i+1] from j);rcases u with e1 | e1
  ·omega
  cases e1
 | 10,_,_=>
  have e:to=x.to.toNat:=List.mem_singleton.1 (show to∈[x.to.toNat] from j);have:=tole (by cases w;rfl);omega
 | 11,_,_=>
  have e:to=i+1∨to=x.to.toNat:=by grind
  have:=tole (by cases w;rfl);rcases e with e | e
  ·rcases u with e1 | e1
   ·omega
   cases e1
  omega
 | 12,_,_ | 13,_,_=>exact absurd (show to∈([]:List Nat) from j) (by simp)
theorem wo {k:Nat} {c:XC} (h:kW k c=true):fT k c/\∃out,kC c=some out/\gb (ei c) c.ins.length out:=by
 unfold kW at h;cases h1:H (eY k c) 0 with
 | false=>rw[h1] at h;cases h
 | true=>
  rw[h1] at h;have h:(kC c).isSome=true:=h;have hc:=JB (JU h1);obtain⟨out,j⟩:=Option.isSome_iff_exists.1 h;exact⟨hc,out,j,sn (wA hc) (Aq hc.pos) j⟩
def ml (l:List XC) (t:Nat) (cl:List Int):Bool:=match l[((cl[0]?).getD 0).toNat-1]?,l[t]? with | some a,some b=>bQ a b | _,_=>false
def Am (l:List XC) (s:List (List Int)) (t:Nat):List (List Int):=
 bif b9 (ew (ml l t) s 0) 0 then s++[[.ofNat (t+1)]] else s.set (ew (ml l t) s 0).toNat ((s[(ew (ml l t) s 0).toNat]?).getD []++[.ofNat (t+1)])
def iw (l:List XC):Nat->List (List Int)
 | 0=>[]
 | t+1=>Am l (iw l t) t
def gd (l:List XC):List (List Int):=iw l l.length
structure Mz (l:List XC) (t:Nat) (cl:List Int):Prop where
 ne:cl≠[]
 at_:∃h c,h<t/\cl[0]?=some (Int.ofNat (h+1))/\l[h]?=some c/\∀x∈cl,∃v,v<t/\x=Int.ofNat (v+1)/\l[v]?=some c
theorem Mz.mono {l:List XC} {t t':Nat} {cl:List Int} (h:Mz l t cl) (ht:t<=t'):Mz l t' cl:=by
 obtain⟨h0,h1,c,h2,j,h4,h5⟩:=h;exact⟨h0,h1,c,by omega,j,h4,fun x hx=>by obtain⟨v,a,b⟩:=h5 x hx;exact⟨v,by omega,b⟩⟩
theorem uB {α:Type} {p:α->Bool}:∀{l:List α} {i:Nat},b9 (ew p l i) 0=false->∃(j:Nat) (x:α),ew p l i= .ofNat (i+j)/\l[j]?=some x/\p x=true
 | [],_,h=>by cases h
 | x::l,i,h=>by
  unfold ew at h⊢;cases hx:p x with
  | true=>exact⟨0,x,Z,Z,hx⟩
  | false=>
   rw[hx] at h;obtain⟨j,y,h1,m,u⟩:=uB (l:=l) (i:=i+1) h;exact⟨j+1,y,by show ew p l (i+1)=_;rw[h1,show i+1+j=i+(j+1) by omega],by simpa using m,u⟩
structure F0 (l:List XC) (t:Nat) (s:List (List Int)):Prop where
 all:∀cl∈s,Mz l t cl
 Sd:∀v,v<t->∃cl∈s,Int.ofNat (v+1)∈cl
 len:s.length<=t
theorem w4 {l:List XC}:∀{t:Nat},t<=l.length->F0 l t (iw l t)
 | 0,_=>⟨(fun cl h=>by cases h),fun v hv=>absurd hv (nZ_ _),nR_ _⟩
 | t+1,ht=>by
  have ih:=w4 (l:=l) (t:=t) oM;obtain⟨c,hc⟩:=cL (show t<l.length by omega);show F0 l (t+1) (Am l (iw l t) t);unfold Am;cases hi:b9 (ew (ml l t) (iw l t) 0) 0 with
  | true=>
   simp only[cond_true];refine⟨fun cl hm=>?_,fun v hv=>?_,by rw[lA_];have:=ih.len;simp only[List.length_singleton];omega⟩
   ·rcases List.mem_append.1 hm with hm | hm
    ·exact(ih.all cl hm).mono oM
    rw[List.mem_singleton.1 hm];exact⟨by simp,t,c,by omega,Z,hc,fun x hx=>⟨t,by omega,List.mem_singleton.1 hx,hc⟩⟩
   by_cases e:v=t
   ·exact⟨[.ofNat (t+1)],List.mem_append_right _<|List.mem_singleton.2 Z,by rw[e];exact List.mem_singleton.2 Z⟩
   obtain⟨cl,h1,u⟩:=ih.Sd v oM;exact⟨cl,List.mem_append_left _ h1,u⟩
  | false=>
   obtain⟨j,cl,h1,u,w⟩:=uB hi;rw[nA_] at h1;simp only[cond_false];rw[h1];show F0 l (t+1) ((iw l t).set j (((iw l t)[j]?).getD []++[.ofNat (t+1)]));rw[u];show F0 l (t+1) ((iw l t).set j (cl++[.ofNat (t+1)]));have hjl:=(gA.1 u).1;refine⟨fun cl' hm=>?_,fun v hv=>?_,by rw[List.length_set];have:=ih.len;omega⟩
   ·obtain⟨i,m⟩:=gO_ hm
    by_cases e:j=i
    ·subst e;rw[List.getElem?_set_self hjl] at m;cases m;obtain⟨h4,A,c',h5,B,C,G⟩:=ih.all cl (gB_ u)
     have z:c'=c:=by
      unfold ml at w;rw[B,hc] at w;have w:(match l[A+1-1]?,some c with | some a,some b=>bQ a b | _,_=>false)=true:=w;rw[Nat.add_sub_cancel,C] at w;exact cz.1 w
     subst z;refine⟨by simp,A,c',by omega,?_,C,fun x hx=>?_⟩
     ·cases cl with
      | nil=>exact absurd Z h4
      | cons y r=>exact B
     rcases List.mem_append.1 hx with hx | hx
     ·obtain⟨v,a,b⟩:=G x hx;exact⟨v,by omega,b⟩
     exact⟨t,by omega,List.mem_singleton.1 hx,hc⟩
    rw[List.getElem?_set_ne e] at m;exact(ih.all cl'<|gB_ m).mono oM
   by_cases e:v=t
   ·refine⟨_,gB_ (List.getElem?_set_self hjl),by rw[e];exact List.mem_append_right _<|List.mem_singleton.2 Z⟩
   obtain⟨cl',I,E⟩:=ih.Sd v oM;obtain⟨i,m⟩:=gO_ I
   by_cases F:j=i
   ·subst F;rw[u] at m;cases m;exact⟨_,gB_ (List.getElem?_set_self hjl),List.mem_append_left _ E⟩
   exact⟨cl',gB_ (i:=i) (by rw[List.getElem?_set_ne F];exact m),E⟩
def my (i:Nat) (a:List Int) (cl:List Int):List Int:=cl.foldl (fun a x=>a.set x.toNat (.ofNat i)) a
def iV:List (List Int)->Nat->List Int->List Int
 | [],_,a=>a
 | cl::s,i,a=>iV s (i+1) (my i a cl)
def w0 (l:List XC):List Int:=iV (gd l) 0 (List.replicate (l.length+1) 0)
theorem qi {i:Nat}:∀{cl a:List Int},(my i a cl).length=a.length
 | [],_=>rfl
 | x::cl,a=>by
  show(my i (a.set x.toNat (.ofNat i)) cl).length=_;rw[qi,List.length_set]
theorem qV:∀{s:List (List Int)} {i:Nat} {a:List Int},(iV s i a).length=a.length
 | [],_,_=>rfl
 | cl::s,i,a=>by
  show(iV s (i+1)<|my i a cl).length=_;rw[qV,qi]
theorem w3 {l:List XC}:(w0 l).length=l.length+1:=by unfold w0;rw[qV,List.length_replicate]
theorem GO {i v:Nat}:∀{cl a:List Int},v<a.length->(∀x∈cl,∃w:Nat,x= .ofNat w)->(Int.ofNat v∈cl->(my i a cl)[v]?=some (.ofNat i))/\(Int.ofNat v∉cl->(my i a cl)[v]?=a[v]?)
 | [],a,_,_=>⟨(fun h=>by cases h),fun _=>Z⟩
 | x::cl,a,hv,hx=>by
  obtain⟨w,rfl⟩:=hx x (mS_ ..);obtain⟨h1,j⟩:=GO (i:=i) (v:=v) (cl:=cl) (a:=a.set w (.ofNat i)) (by rw[List.length_set];exact hv) fun y m=>hx y (mC_ _ m)
  have e:my i a (.ofNat w::cl)=my i (a.set w (.ofNat i)) cl:=rfl;rw[e];refine⟨fun hm=>?_,fun hm=>?_⟩
  ·by_cases hc:Int.ofNat v∈cl
   ·exact h1 hc
   rw[j hc];rcases mQ_.1 hm with hm | hm
   ·rw[iJ_ hm,List.getElem?_set_self (by rw[<-iJ_ hm];exact hv)]
   exact absurd hm hc
  rw[j fun hc=>hm (mC_ _ hc),List.getElem?_set_ne fun e=>hm (by rw[e];exact mS_ ..)]
theorem Db {v:Nat}:∀{s:List (List Int)} {i:Nat} {a:List Int},v<a.length->(∀cl∈s,∀x∈cl,∃w:Nat,x= .ofNat w)->(∃j cl,s[j]?=some cl/\Int.ofNat v∈cl/\(iV s i a)[v]?=some (.ofNat (i+j)))∨((∀cl∈s,Int.ofNat v∉cl)/\(iV s i a)[v]?=a[v]?)
 | [],_,_,_,_=>.inr ⟨(fun cl h=>by cases h),Z⟩
 | cl::s,i,a,hv,hx=>by
  obtain⟨h1,z⟩:=GO (i:=i) hv (hx cl<|mS_ ..);show(∃j cl',(cl::s)[j]?=some cl'/\Int.ofNat v∈cl'/\(iV s (i+1)<|my i a cl)[v]?=some (.ofNat (i+j)))∨((∀cl'∈cl::s,Int.ofNat v∉cl')/\(iV s (i+1)<|my i a cl)[v]?=a[v]?);rcases Db (s:=s) (i:=i+1) (a:=my i a cl) (by rw[qi];exact hv) fun c hc=>hx c (mC_ _ hc) with ⟨j,c',u,m,A⟩ | ⟨u,m⟩
  ·exact .inl ⟨j+1,c',by simpa using u,m,by rw[A,show i+1+j=i+(j+1) by omega]⟩
  by_cases hm:Int.ofNat v∈cl
  ·exact .inl ⟨0,cl,Z,hm,by rw[m,h1 hm];rfl⟩
  refine .inr ⟨fun c hc=>?_,by rw[m,z hm]⟩;rcases mQ_.1 hc with rfl | hc
  ·exact hm
  exact u c hc
theorem Jw {l:List XC} {a b:Nat} (E:a<l.length) (hb:b<l.length) (h:(w0 l)[a+1]?=(w0 l)[b+1]?):l[a]?=l[b]?:=by
 have hok:=w4 (l:=l) (nR_ _)
 have m:∀cl∈iw l l.length,∀x∈cl,∃w:Nat,x= .ofNat w:=fun cl z x hx=>by
  obtain⟨_,F,c,_,_,_,u⟩:=hok.all cl z;obtain⟨v,_,e,_⟩:=u x hx;exact⟨v+1,e⟩
 have key:∀v,v<l.length->∃j cl,(iw l l.length)[j]?=some cl/\Int.ofNat (v+1)∈cl/\(w0 l)[v+1]?=some (.ofNat j):=fun v hv=>by
  rcases Db (v:=v+1) (s:=gd l) (i:=0) (a:=List.replicate (l.length+1) 0) (by rw[List.length_replicate];omega) m with ⟨j,cl,A,G,I⟩ | ⟨A,_⟩
  ·exact⟨j,cl,A,G,by rw[<-nA_ j];exact I⟩
  obtain⟨cl,h1,K⟩:=hok.Sd v hv;exact absurd K<|A cl h1
 obtain⟨i,ci,B,L,M⟩:=key a E;obtain⟨j,cj,C,Q,R⟩:=key b hb;rw[M,R] at h;obtain rfl:i=j:=iJ_ (Option.some.inj h);rw[B] at C;obtain rfl:ci=cj:=Option.some.inj C;obtain⟨_,F,c,_,_,_,u⟩:=hok.all ci (gB_ B);obtain⟨v,_,e1,S⟩:=u _ L;obtain⟨w,_,T,W⟩:=u _ Q;rw[show a=v by have:=iJ_ e1;omega,show b=w by have:=iJ_ T;omega,S,W]
def PE:List Int->List Int->Int
 | x::l,y::m=>bif H (O9 x y) 0 then PE l m else O9 x y
 | _,_=>0
def km (A B:List Int) (c:Int):Prop:=∀l m,PE (A++l) (B++m)=bif H c 0 then PE l m else c
theorem km.nil:km [] [] 0:=fun _ _=>Z
theorem km.one (x y:Int):km [x] [y] (O9 x y):=fun _ _=>Z
theorem km.app {A B A' B':List Int} {c c':Int} (h:km A B c) (h':c=0->km A' B' c'):km (A++A') (B++B') (bif H c 0 then c' else c):=fun l m=>by
 rw[lQ_,lQ_,h];simp only[QY]
 by_cases hc:c=0
 ·simp only[hc,if_true];rw[h' hc];simp only[QY]
 omega
theorem km.rows {α:Type} {enc:α->List Int} {c:α->α->Int}:∀{ls ms:List α},ls.length=ms.length->(∀(i:Nat) (x y:α),ls[i]?=some x->ms[i]?=some y->km (enc x) (enc y) (c x y))->km (ls.flatMap enc) (ms.flatMap enc) (QG c ls ms)
 | [],[],_,_=>km.nil
 | [],_::_,h,_=>by cases h
 | _::_,[],h,_=>by cases h
 | x::ls,y::ms,h,hc=>by
  rw[List.flatMap_cons,List.flatMap_cons];exact(hc 0 x y Z Z).app fun _=>km.rows (by simpa using h) fun i x y h1 j=>hc (i+1) x y (by simpa using h1) (by simpa using j)
theorem ints_at {xs:List Int} {i:Nat} {x:Int} (h:xs[i]?=some x):(ints xs)[i]?=some (.int .i64 x):=by
 unfold ints;simp_all
theorem HW {K:KP} {xs:List Int} {vb e:Nat} (h:K vb (.row (ints xs) e false)) (hn:xs.length<=1000):bL K 1 eu xs (.slice vb 0 xs.length (.known xs.length)):=by
 refine .inr ⟨vb,0,_,_,e,false,Z,.inr ⟨_,Z,nR_ _⟩,h,?_,by omega,fun i x hx=>?_⟩
 ·unfold ints;simp_all
 rw[Nat.mul_one,nA_,cu<|ints_at hx];rfl
theorem map_take {α β:Type} {f:α->β} {l:List α} {i:Nat} {x:α} (h:l[i]?=some x):(l.take (i+1)).map f=(l.take i).map f++[f x]:=by
 rw[List.take_add_one,h,List.map_append];rfl
theorem jt {xs:List Int} {b e E:Nat} (hn:xs.length<=1000):cZ 1 E eu xs (.slice b 0 xs.length (.known xs.length)) [(b,.row (ints xs) e false)]:=by
 refine .inr ⟨b,_,_,e,Z,Z,?_,fun i x hx=>?_,.inl Z,by omega⟩
 ·unfold ints;simp_all
 rw[Nat.mul_one,cu<|ints_at hx];rfl
structure S9 (g:XG):Prop where
 t:g.threads.length<=4
 r:∀l∈g.threads,l.length<=14
 f:g.from_.length<=4
 fr:∀l∈g.from_,l.length<=14
 o:g.order.length<=6
 TL:∀l∈g.order,l.length<=56
 i:g.init.length<=6
abbrev gI (n:Nat):U:=.int .i64 (.ofNat n)
section
variable {V:aE} {K:KP} {A M L:Own} {x:Nat×cD}
theorem D.front (h:D V K (A++(M++L))):D V K (M++(A++L)):=h.perm (List.perm_append_comm_assoc A M L)
theorem D.behind (h:D V K (x::(M++L))):D V K (M++x::L):=h.perm List.perm_middle.symm
theorem D.ahead (h:D V K (M++x::L)):D V K (x::(M++L)):=h.perm List.perm_middle
end
theorem pz.Ro {α:Type} {m E:Nat} {R:α->List U->Prop} {l:List α} {u:U} {M:Own} (h:pz m E R l u M) {k:Nat} (hk:k<=l.length):
  ∃u',pz m E R (l.take k) u' M/\∀{P:Program} {ev:Operand->Option U} {t:TypeId} {x hi:Operand} {kk:IntKind},P.underlying t=some (.slice E)->(P.info? E).map (·.size)=some m->ev x=some u->ev hi=some (.int kk (.ofNat k))->gF P ev t x none (some hi) none=some u':=by
 rcases h with ⟨rfl,rfl,rfl⟩ | ⟨b,c,cells,e,rfl,rfl,C,h4,h5,h6⟩
 ·refine⟨.az,.inl ⟨List.take_nil,Z,Z⟩,fun {P ev t x hi kk} hu hj hx z=>?_⟩;obtain⟨j,w,rfl⟩:=oM_.1 hj;obtain rfl:k=0:=by simpa using hk
  have:dE ev 0 0 none (some hi)=some (0,0):=um z (nR_ _);simp only[gF,hu,hx,w,this]
 have hl:(l.take k).length=k:=by simp_all
 have B:∀(i:Nat) (x:α),(l.take k)[i]?=some x->R x ((cells.drop (i*m)).take m):=fun i x hi=>by
  grind
 have hle:k*m<=cells.length:=Nat.le_trans (nM_ _ hk) C;rcases h5 with ⟨n,rfl,h7,F⟩ | ⟨rfl,rfl⟩
 ·refine⟨.slice b 0 k (.known n),.inr ⟨b,.known n,cells,e,by rw[hl],Z,by rw[hl];exact hle,B,.inl ⟨n,Z,by rw[hl];omega,F⟩,by rw[hl];omega⟩,fun {P ev t x hi kk} hu hj hx z=>?_⟩;obtain⟨j,w,rfl⟩:=oM_.1 hj;have:dE ev l.length n none (some hi)=some (0,k):=um z oM;simp only[gF,hu,hx,cutAt,this,cut,w]
  simp_all
 refine⟨.slice b 0 k (.upto m),.inr ⟨b,.upto m,cells,e,by rw[hl],Z,by rw[hl];exact hle,B,.inr ⟨Z,Z⟩,by rw[hl];omega⟩,fun {P ev t x hi kk} hu hj hx z=>?_⟩;obtain⟨j,w,rfl⟩:=oM_.1 hj;have:dE ev l.length l.length none (some hi)=some (0,k):=um z hk;simp only[gF,hu,hx,this,w,show Nat.beq j.size j.size=true from Nat.beq_refl _,cond_true,Nat.zero_mul,Nat.sub_zero,Nat.add_zero]
theorem pz.bO {α:Type} {m E:Nat} {R:α->List U->Prop} {l:List α} {u:U} {M:Own} (h:pz m E R l u M):l.length<=1048576:=by
 rcases h with ⟨rfl,_⟩ | ⟨_,_,_,_,_,_,_,_,_,h⟩
 ·exact Nat.zero_le _
 exact h
theorem PM {l:List Nat} {i n:Nat} (h:l[i]?=some n):(l.map Int.ofNat)[i]?=some (.ofNat n):=by simp_all
theorem oG (l:List Nat):(l.map Int.ofNat).length=l.length:=lM_ ..
theorem Nz {l:List Nat} {a:Nat} (h:l.getLast?=some a):l[l.length-1]?=some a:=by grind
theorem IW (l:List Nat):(l.map Int.ofNat).take (l.length-1)=l.dropLast.map Int.ofNat:=by rw[List.dropLast_eq_take,List.map_take]
theorem KO (x:XI) (a:Nat):(kZ x a).length<=2:=by
 grind [kZ]
where
 cond_ind2 {a b:List Int} (c:Bool) (h1:a.length<=2) (h0:b.length<=2):(bif c then a else b).length<=2:=by grind
theorem KQ {c:XC} {a g:Nat} {x:XI} {to:Int} (h:c.ins[a]?=some x) (ht:(kZ x a)[g]?=some to):(ei c a)[g]?=some to.toNat:=by
 grind [ei]
theorem Ik {k:Nat} {c:XC} (hc:fT k c) {a g:Nat} {x:XI} {to:Int} (h:c.ins[a]?=some x) (u:(kZ x a)[g]?=some to):∃t:Nat,to= .ofNat t/\t<c.ins.length/\(ei c a)[g]?=some t:=by
 have hlt:=(gA.1 h).1;have hN:=KQ h u;have hm:=wA hc a hlt _ (gB_ hN);refine⟨to.toNat,?_,hm,hN⟩;have hx:=hc.right x (gB_ h);obtain⟨n,sh,w,z,m,j,B⟩:=kG hx;have hto:=(jh B).to;have hmem:=gB_ u;unfold kZ at hmem;rw[w] at hmem;have tole:sh.to=true->0<=x.to/\x.to<(c.ins.length:Int):=fun e=>by rw[e] at hto;exact ng hto
 have nn:∀y:Int,0<=y->y= .ofNat y.toNat:=fun y hy=>by grind
 match n,z,m with
 | 1,_,_ | 2,_,_ | 3,_,_ | 4,_,_ | 5,_,_ | 6,_,_ | 7,_,_ | 8,_,_ | 9,_,_=>
  have e:to= .ofNat (a+1):=List.mem_singleton.1 (show to∈[Int.ofNat (a+1)] from hmem);rw[e];rfl
 | 10,_,_=>
  have e:to=x.to:=List.mem_singleton.1 (show to∈[x.to] from hmem);have:=tole (by cases j;rfl)
  grind
 | 11,_,_=>
  have e:to= .ofNat (a+1)∨to=x.to:=by grind
  have:=tole (by cases j;rfl)
  grind
 | 12,_,_ | 13,_,_=>exact absurd (show to∈([]:List Int) from hmem) (by simp)
theorem L4 {c:XC}:total (ei c) c.ins.length<=2*c.ins.length:=by
 have h:∀(l:List Nat),(l.map fun i=>(ei c i).length).sum<=2*l.length:=by
  intro l;induction l with
  | nil=>simp
  | cons i l ih=>
   grind [ei,KO]
 have:=h (List.range c.ins.length);rwa[List.length_range] at this
theorem Dh {s:List Nat} {n:Nat} (h:ld s=some n):0<s.length/\s.length<=4/\sX s 0=some n:=by
 grind [ld]
theorem Po {c m:Nat} (h:48<=c/\c<=57) (hm:m<=100000):wr .i64 (Int.add (wr .i64<|Int.mul (.ofNat m) 10)<|wr .i64<|wr .u8<|Int.sub (.ofNat c) 48)= .ofNat (10*m+(c-48)):=by
 have e1:Int.sub (.ofNat c) 48= .ofNat (c-48):=by grind
 have u:Int.mul (.ofNat m) 10= .ofNat (10*m):=by grind
 have w:wr .u8 (.ofNat (c-48))= .ofNat (c-48):=by
  show(bif Nat.ble (c-48) 255 then _ else _)=_
  grind [nE_]
 have j:∀q:Nat,q<=9223372036854775807->wr .i64 (.ofNat q)= .ofNat q:=fun q hq=>by
  show(bif Nat.ble q 9223372036854775807 then _ else _)=_
  grind [nE_]
 rw[e1,u,w,j _ oM,j _ oM];show wr .i64 (.ofNat (10*m+(c-48)))=_;exact j _ oM
theorem D.QL {V:aE} {K:KP} {x y:Nat×cD} {L:Own} (h:D V K (x::y::L)):D V K (x::L):=(h.perm<|List.Perm.swap ..).pop
theorem eH.mono {K K':KP} (hk:KP.le K K'):∀{k:Nat} {x:XE} {vs:List U},eH K k x vs->eH K' k x vs
 | 0,x,_,h=>by cases x;exact h.elim
 | k+1,.mk _ _ _ _,_,⟨v,h1,j⟩=>⟨v,h1,j.mono hk fun _ _ h=>eH.mono hk h⟩
theorem j0.mono {K K':KP} (hk:KP.le K K') {k:Nat} {x:XI} {vs:List U} (h:j0 K k x vs):j0 K' k x vs:=let ⟨v,h1,j⟩:=h;⟨v,h1,j.mono hk fun _ _ h=>h.mono hk⟩
theorem lW.mono {K K':KP} (hk:KP.le K K') {k:Nat} {x:XC} {vs:List U} (h:lW K k x vs):lW K' k x vs:=let ⟨v,h1,j⟩:=h;⟨v,h1,j.mono hk fun _ _ h=>h.mono hk⟩
theorem Es {K K':KP} (hk:KP.le K K') {k:Nat} {l:List XI} {v:U} (h:bL K 6 (j0 K k) l v):bL K' 6 (j0 K' k) l v:=h.mono hk fun _ _ h=>h.mono hk
theorem Hs {P:Program} {G:Cx} {f:Nat} {args:List U} {V:aE} {K:KP} {M L:Own} {u:U} (h0:D V K (M++L)) (h:bu P G f args V fun v V'=>v=u/\D V' (K.g9 M) L):bu P G f args V fun v V'=>v=u/\D V' K (M++L):=
 h.mono fun _ _ ⟨a,b⟩=>⟨a,h0.Ha b⟩
theorem wm {br nins:Int} {k n:Nat} {x:XI} (h:im br nins k x=true) (u:x.kind= .ofNat n) (h1:n=1∨n=3∨n=4∨n=5∨n=6∨n=8∨n=9∨n=11):∃e,x.exprs[0]?=some e/\fo br k e=true:=by
 obtain⟨m,sh,hm,_,_,j,hr⟩:=kG h;have hr:=jh hr;have:m=n:=iJ_ (hm.symm.trans u);subst this
 have hl:0<x.exprs.length:=by
  rw[hr.exprs];rcases h1 with h1 | h1 | h1 | h1 | h1 | h1 | h1 | h1<;>subst h1<;>cases j<;>decide
 exact⟨x.exprs[0],gC hl,hr.all _<|List.getElem_mem hl⟩
theorem Lx {br nins:Int} {k n:Nat} {x:XI} (h:im br nins k x=true) (u:x.kind= .ofNat n) (h1:n=1∨n=2∨n=4∨n=5∨n=6):∃r:Nat,x.qY= .ofNat r/\(r:Int)<br:=by
 obtain⟨m,sh,hm,_,_,j,hr⟩:=kG h;have hr:=jh hr;have:m=n:=iJ_ (hm.symm.trans u);subst this
 have w:sh.qY=true:=by
  rcases h1 with h1 | h1 | h1 | h1 | h1<;>subst h1<;>cases j<;>rfl
 have:=hr.qY;rw[w] at this;obtain⟨w1,w2⟩:=ng this;exact⟨x.qY.toNat,by grind,by omega⟩
theorem OS {br:Int} {m k n:Nat} {x:XI} (h:im br (.ofNat m) k x=true) (w:x.kind= .ofNat n) (h1:n=10∨n=11):∃r:Nat,x.to= .ofNat r/\r<m:=by
 obtain⟨q,sh,hm,_,_,j,hr⟩:=kG h;have hr:=jh hr;have:q=n:=iJ_ (hm.symm.trans w);subst this;have z:sh.to=true:=by rcases h1 with h1 | h1<;>subst h1<;>cases j<;>rfl
 have:=hr.to;rw[z] at this;obtain⟨w1,u⟩:=ng this;have u:x.to<(m:Int):=u;exact⟨x.to.toNat,by grind,by omega⟩
theorem eZ {α:Type} {P:α->Prop} {a b:α} (c:Bool) (h1:P a) (h0:P b):P (bif c then a else b):=by grind
theorem iy {α:Type} {P:α->Prop} {a b:α} (c:Bool) (h1:c=true->P a) (h0:c=false->P b):P (bif c then a else b):=by grind
theorem jg (a b:List db):dM (a++b)=dM a++dM b:=by unfold dM;simp_all
theorem zS {e:db} (h:cN e=false):dM [e]= []:=by unfold dM;simp_all
theorem yw {e:db} (h:cN e=true):dM [e]= [e.read]:=by unfold dM;simp_all
theorem Dd {l:List db} (h:dM l= []):∀e∈l,cN e=false:=by
 intro e he;cases j:cN e with
 | false=>rfl
 | true=>
  have:e.read∈dM l:=List.mem_map_of_mem (List.mem_filter.2 ⟨he,j⟩)
  simp_all
def Grown (s s':TS):Prop:=(∃ext,s'.events=s.events++ext/\dM ext= [])/\s'.asked=s.asked
theorem Grown.refl (s:TS):Grown s s:=⟨⟨[],by simp,Z⟩,Z⟩
theorem Grown.trans {s s' s'':TS} (h:Grown s s') (h':Grown s' s''):Grown s s'':=by
 obtain⟨⟨x,h1,j⟩,m⟩:=h;obtain⟨⟨y,k1,u⟩,w⟩:=h';exact⟨⟨x++y,by simp_all,by rw[jg,j,u];rfl⟩,by rw[w,m]⟩
theorem Du (k:Nat) (x:XI) (s:TS):Grown s (e6 k x s).1:=by
 obtain⟨P,m⟩:∃P:TS×Bool->Prop,P=fun r=>Grown s r.1:=⟨_,Z⟩
 have h0:∀(r:TS×Bool),r.1.events=s.events->r.1.asked=s.asked->P r:=fun r h1 j=>by rw[m];exact⟨⟨[],by rw[h1];simp,Z⟩,j⟩
 have hw:∀(r:TS×Bool) (e:db),cN e=false->r.1.events=s.events++[e]->r.1.asked=s.asked->P r:=fun r e h1 j u=>by rw[m];exact⟨⟨[e],j,zS h1⟩,u⟩
 have:P (e6 k x s):=by
  unfold e6;refine eZ _ (h0 _ Z Z)<|eZ _ (hw _ _ Z Z Z)<|eZ _ (hw _ _ Z Z Z)<|eZ _ (eZ _ (h0 _ Z Z)<|h0 _ Z Z)<|eZ _ (eZ _ (h0 _ Z Z)<|h0 _ Z Z)<|eZ _ (h0 _ Z Z)<|eZ _ (eZ _ (h0 _ Z Z)<|h0 _ Z Z)<|eZ _ (h0 _ Z Z)<|eZ _ (h0 _ Z Z)<|h0 _ Z Z
 simp_all
theorem qu (k:Nat) (c:XC) (s:TS):Grown s (cT k c s).1:=by
 grind [cT,Grown.refl,Du]
theorem uz (k:Nat) (c:XC):∀(f:Nat) (s:TS),Grown s (Gl k c f s)
 | 0,s=>Grown.refl s
 | f+1,s=>by
  show Grown s (bif (cT k c s).2 then Gl k c f (cT k c s).1 else(cT k c s).1);exact eZ (P:=Grown s) _ ((qu k c s).trans<|uz k c f _)<|qu k c s
def nF (c:XC) (s:TS):Prop:=s.asks=true->∃x,c.ins[s.at_]?=some x/\(x.kind=2∨x.kind=4∨x.kind=5∨x.kind=6)
theorem FF {k:Nat} {x:XI} {s:TS} {br nins:Int} (hx:im br nins k x=true) (hs:s.asks=false):(e6 k x s).1.asks=true->(e6 k x s).1.at_=s.at_/\(x.kind=2∨x.kind=4∨x.kind=5∨x.kind=6)/\(e6 k x s).2=false:=by
 obtain⟨n,sh,hn,n1,aa,_,_⟩:=kG hx;obtain⟨P,hP⟩:∃P:TS×Bool->Prop,P=fun r=>r.1.asks=true->r.1.at_=s.at_/\(x.kind=2∨x.kind=4∨x.kind=5∨x.kind=6)/\r.2=false:=⟨_,Z⟩
 have ab:∀r:TS×Bool,r.1.asks=s.asks->P r:=fun r h1=>by simp_all
 have ne:∀m:Int,H x.kind m=false->x.kind≠m:=fun m h e=>by rw[e,dL] at h;cases h
 have:P (e6 k x s):=by
  unfold e6
  grind
 simp_all
theorem uX {k:Nat} {c:XC} (hc:fT k c) {s:TS} (j:s.asks=false):nF c (cT k c s).1/\((cT k c s).2=true->(cT k c s).1.asks=false):=by
 unfold cT;cases hx:c.ins[s.at_]? with
 | none=>exact⟨fun h=>(by simp_all),fun h=>(by cases h)⟩
 | some x=>
  have h:=FF (k:=k) (hc.right x (gB_ hx)) j;refine⟨fun ha=>?_,fun h2=>?_⟩
  ·simp_all
  simp_all
theorem Az {k:Nat} {c:XC} (hc:fT k c):∀(f:Nat) (s:TS),s.asks=false->nF c (Gl k c f s)
 | 0,s,j=>fun h=>by rw[show s.asks=true from h] at j;cases j
 | f+1,s,j=>by
  have h:=uX hc j;show nF c (bif (cT k c s).2 then Gl k c f (cT k c s).1 else(cT k c s).1);cases m:(cT k c s).2 with
  | true=>exact Az hc f _ (h.2 m)
  | false=>exact h.1
theorem Ek {k:Nat} {c:XC} (hc:fT k c):nF c (Ag k c):=Az hc _ _ Z
theorem BQ {k:Nat} {c:XC} (hc:fT k c) (s:TS) (v:Int):nF c (gx k c s v):=Az hc _ _ Z
theorem kJ {a:sN} {v:Int} (h:a.kind=2∨a.kind=4∨a.kind=5∨a.kind=6):cN (ea a v)=true/\(ea a v).read=v:=by
 unfold ea;rcases h with h | h | h | h<;>rw[h]
 ·exact⟨Z,Z⟩
 ·exact eZ (P:=fun e:db=>cN e=true/\e.read=v) (H v a.a) ⟨Z,Z⟩ ⟨Z,Z⟩
 ·exact⟨Z,Z⟩
 exact⟨Z,Z⟩
theorem ui {k:Nat} {c:XC} {s:TS} (h:nF c s) (j:s.asks=true):((nI k c s).kind=2∨(nI k c s).kind=4∨(nI k c s).kind=5∨(nI k c s).kind=6):=by
 obtain⟨x,hx,hk⟩:=h j;unfold nI;rw[hx];exact hk
theorem rC {k:Nat} {c:XC} {s:TS} (h:nF c s) (j:s.asks=true) (v:Int):∃ext,(gx k c s v).events=s.events++ea (nI k c s) v::ext/\dM (ea (nI k c s) v::ext)= [v]:=by
 obtain⟨⟨ext,h1,m⟩,_⟩:=uz k c (xu c) (hZ k c s v);obtain⟨u,w⟩:=kJ (v:=v) (ui (k:=k) h j);refine⟨ext,?_,?_⟩
 ·unfold gx;rw[h1];show(s.events++[_])++ext=_
  simp_all
 rw[show ea (nI k c s) v::ext= [ea (nI k c s) v]++ext from Z,jg,yw u,m,w];rfl
theorem yA {k:Nat} {c:XC} (hc:fT k c):∀(A:List Int) (s:TS),nF c s->nF c (mM k c A s)/\∃ext m,(mM k c A s).events=s.events++ext/\dM ext=A.take m/\((mM k c A s).asks=true->A.length<=m)
 | [],s,h=>⟨h,[],0,by show s.events=_;simp,Z,fun _=>nR_ _⟩
 | v::r,s,h=>by
  show nF c (bif s.asks then mM k c r (gx k c s v) else s)/\∃ext m,(bif s.asks then mM k c r (gx k c s v) else s).events=s.events++ext/\dM ext=(v::r).take m/\((bif s.asks then mM k c r (gx k c s v) else s).asks=true->(v::r).length<=m);cases j:s.asks with
  | false=>exact⟨h,[],0,by simp_all,Z,fun h'=>by simp_all⟩
  | true=>
   obtain⟨e1,h1,u⟩:=rC (k:=k) h j v;obtain⟨q,ext,m,h3,h4,h5⟩:=yA hc r _ (BQ hc s v);refine⟨q,ea (nI k c s) v::e1++ext,m+1,?_,?_,fun h'=>?_⟩
   ·simp_all
   ·rw[jg,u,h4];rfl
   simp_all
theorem zU {k:Nat} {c:XC} (v:Int):∀(A:List Int) (s:TS),mM k c (A++[v]) s=bif (mM k c A s).asks then gx k c (mM k c A s) v else mM k c A s
 | [],s=>rfl
 | a::r,s=>by
  show(bif s.asks then mM k c (r++[v]) (gx k c s a) else s)=bif (bif s.asks then mM k c r (gx k c s a) else s).asks then gx k c (bif s.asks then mM k c r (gx k c s a) else s) v else(bif s.asks then mM k c r (gx k c s a) else s);cases ha:s.asks with
  | false=>simp_all
  | true=>simp only[cond_true];exact zU v r _
theorem sG {k:Nat} {c:XC} (hc:fT k c) (A:List Int):nF c (jS k c A)/\∃m,dM (jS k c A).events=A.take m/\((jS k c A).asks=true->A.length<=m):=by
 obtain⟨h,ext,m,h1,h2,h3⟩:=yA hc A (Ag k c) (Ek hc);obtain⟨⟨e0,h4,h5⟩,_⟩:=uz k c (xu c) ⟨0,List.replicate c.br.toNat 0,[],0,0,false⟩
 grind [jS,jg,Ag]
theorem nN {s:TS} {l:List db}:ta s l=true↔∃rest,s.events=l++rest:=by
 grind [ta,cz,List.take_append_drop,jO]
def pd (k:Nat) (c:XC) (l:List db):Prop:=kW k c=true/\ta (jS k c<|dM l) l=true
theorem Ft {k:Nat} {c:XC} (hc:fT k c) {l rest:List db} (h:(jS k c<|dM l).events=l++rest):dM rest= []:=by
 obtain⟨_,m,h1,_⟩:=sG hc (dM l);rw[h,jg] at h1;have:=congrArg List.length h1
 grind [List.length_eq_zero_iff]
theorem Ke {k:Nat} {c:XC} (h:kW k c=true):pd k c []:=⟨h,nN.2 ⟨_,Z⟩⟩
theorem EP {k:Nat} {c:XC} {l:List db} {e:db} (h:pd k c l) (he:(jS k c<|dM l).events[l.length]?=some e):pd k c (l++[e])/\cN e=false:=by
 obtain⟨hf,h⟩:=h;have hc:=(wo hf).1;obtain⟨rest,j⟩:=nN.1 h;have hq:=Ft hc j;rw[j,gR_<|nR_ _,Nat.sub_self] at he;cases rest with
 | nil=>cases he
 | cons e' r=>
  simp only[List.getElem?_cons_zero,oJ_] at he;subst he;have hne:=Dd hq e' (mS_ ..);refine⟨⟨hf,?_⟩,hne⟩;rw[jg,zS hne,List.append_nil];exact nN.2 ⟨r,by rw[j];simp⟩
theorem Cq {k:Nat} {c:XC} {l:List db} (h:pd k c l) (he:(jS k c<|dM l).events[l.length]?=none) (j:(jS k c<|dM l).asks=true) (v:Int):pd k c (l++[ea (nI k c<|jS k c<|dM l) v]):=by
 obtain⟨hf,h⟩:=h;have hc:=(wo hf).1;obtain⟨rest,m⟩:=nN.1 h
 have hl:rest= []:=by
  simp_all
 subst hl;rw[List.append_nil] at m;have hk:=(sG hc<|dM l).1;obtain⟨u,w⟩:=kJ (v:=v) (ui (k:=k) hk j);refine⟨hf,?_⟩;rw[jg,yw u,w]
 have e1:jS k c (dM l++[v])=gx k c (jS k c<|dM l) v:=by
  unfold jS at j⊢;rw[zU,j];rfl
 rw[e1];obtain⟨ext,h1,_⟩:=rC (k:=k) hk j v;exact nN.2 ⟨ext,by rw[h1,m];simp⟩
theorem pF {k:Nat} {c:XC}:H (gQ k c) 0=kW k c:=by
 unfold gQ;cases h:kW k c with
 | true=>rfl
 | false=>
  simp only[cond_false];cases h1:H (eY k c) 0 with
  | true=>rfl
  | false=>exact h1
theorem xW {k:Nat} {c:XC} {l:List db}:(dQ k c l).2=0↔pd k c l:=by
 unfold dQ pd;rw[pF];cases hf:kW k c with
 | false=>
  refine⟨fun h=>?_,fun h=>(by cases h.1)⟩;have h:gQ k c=0:=h;have:=pF (k:=k) (c:=c);rw[h,hf] at this;cases this
 | true=>
  show(m6 k c (jS k c<|dM l) l).2=0↔_;unfold m6;cases ht:ta (jS k c<|dM l) l with
  | false=>exact⟨fun h=>(by cases h),fun h=>(by cases h.2)⟩
  | true=>
   refine⟨fun _=>⟨Z,Z⟩,fun _=>?_⟩;simp only[bh,cond_true,cond_false]
   grind
theorem CY {k:Nat} {c:XC} {l:List db} (h:(dQ k c l).2=0):
  (∃e,dQ k c l=(⟨e,k9,0⟩,0)/\pd k c (l++[e])/\cN e=false)∨
  (∃a,dQ k c l=(⟨yU,a,0⟩,0)/\(a.kind=2∨a.kind=4∨a.kind=5∨a.kind=6)/\∀v,pd k c (l++[ea a v]))∨
  (∃n,dQ k c l=(⟨yU,k9,n⟩,0)):=by
 have hF:=xW.1 h;obtain⟨hf,j⟩:=hF;have hc:=(wo hf).1;unfold dQ;rw[pF,hf];show(∃e,m6 k c (jS k c<|dM l) l=_/\_)∨_;simp only[bh,cond_true,cond_false];unfold m6;rw[j];simp only[bh,cond_true,cond_false];cases he:(jS k c<|dM l).events[l.length]? with
 | some e=>
  obtain⟨h1,h2⟩:=EP ⟨hf,j⟩ he
  simp_all
 | none=>
  cases m:(jS k c<|dM l).asks with
  | true=>exact .inr (.inl ⟨_,Z,ui (sG hc _).1 m,fun v=>Cq ⟨hf,j⟩ he m v⟩)
  | false=>simp_all
theorem D.cq {V:aE} {K:KP} {M L:Own} (h:D V K (M++L)):∃j,KP.le K j/\(∀e∈M,j e.1 e.2)/\D V j L:=⟨K.g9 M,KP.dj _ _,fun e he=>.inr he,h.keeps⟩
theorem Gf {nx:Nat->List Nat} {n:Nat} (j:∀i,i<n->∀to∈nx i,to<n):∀{f:Nat} {s:DS} {out:List Nat},OX nx n s->Ja nx f s=some out->out.length<=s.out.length+m3 nx n s
 | 0,_,_,_,h=>by cases h
 | f+1,s,out,hw,h=>by
  unfold Ja at h;cases hl:s.path.getLast? with
  | none=>
   simp_all
  | some a=>
   rw[hl] at h;dsimp only at h;cases m:vC nx s a with
   | none=>rw[m] at h;cases h
   | some s'=>
    rw[m] at h;obtain⟨h1,_,h3⟩:=xf hw j hl m;have:=Gf j h1 h;omega
theorem It {k:Nat} {c:XC} (hc:fT k c) {out:List Nat} (h:kC c=some out):out.length<=16001:=by
 have:=Gf (wA hc) (Aq hc.pos) (show Ja _ _ _=some out from h);rw[OJ] at this;have h1:(Ch c.ins.length).out.length=0:=rfl;have h2:=L4 (c:=c);have h3:=hc.len;omega
theorem yD {k:Nat} {c:XC} {s:TS} {x:XI} (hx:c.ins[s.at_]?=some x) (h:(cT k c s).2=true):(cT k c s).1.at_∈ei c s.at_:=by
 obtain⟨P,u⟩:∃P:TS×Bool->Prop,P=fun r=>r.2=true->r.1.at_∈ei c s.at_:=⟨_,Z⟩
 have w:ei c s.at_=(kZ x s.at_).map Int.toNat:=by unfold ei;rw[hx]
 have m:∀r:TS×Bool,r.2=false->P r:=fun r h1=>by simp_all
 have j:(H x.kind 10=false)->(H x.kind 12=false)->(H x.kind 13=false)->∀r:TS×Bool,r.1.at_=s.at_+1->P r:=fun h0 h2 h3 r h1=>by
  grind [kZ]
 have ne:∀(a b:Int),H x.kind a=true->a≠b->H x.kind b=false:=fun a b h h'=>by
  rw[cW,decide_eq_true_iff] at h;rw[cW,decide_eq_false_iff_not,h];exact h'
 have:P (cT k c s):=by
  unfold cT;rw[hx];dsimp only;unfold e6
  refine iy _ (fun e=>j (ne _ _ e (by decide)) (ne _ _ e (by decide)) (ne _ _ e (by decide)) _ Z) fun e1=>iy _ (fun e=>j (ne _ _ e (by decide)) (ne _ _ e (by decide)) (ne _ _ e (by decide)) _ Z) fun e3=>iy _ (fun e=>j (ne _ _ e (by decide)) (ne _ _ e (by decide)) (ne _ _ e (by decide)) _ Z) fun e7=>
   iy _ (fun e=>eZ _ (m _ Z) (j (ne _ _ e (by decide)) (ne _ _ e (by decide)) (ne _ _ e (by decide)) _ Z)) fun e8=>iy _ (fun e=>eZ _ (m _ Z) (j (ne _ _ e (by decide)) (ne _ _ e (by decide)) (ne _ _ e (by decide)) _ Z)) fun e9=>
   iy _ (fun e=>?_) fun aa=>iy _ (fun e=>eZ _ ?_ (j (ne _ _ e (by decide)) (ne _ _ e (by decide)) (ne _ _ e (by decide)) _ Z)) fun ab=>iy _ (fun _=>m _ Z) fun ac=>iy _ (fun _=>m _ Z) fun am=>m _ Z
  ·rw[u];intro _;rw[w];unfold kZ;rw[e];simp
  grind [kZ]
 simp_all
theorem IN {k:Nat} {c:XC} {s:TS}:(cT k c s).1.br.length=s.br.length/\(cT k c s).1.events.length<=s.events.length+1:=by
 obtain⟨P,hP⟩:∃P:TS×Bool->Prop,P=fun r=>r.1.br.length=s.br.length/\r.1.events.length<=s.events.length+1:=⟨_,Z⟩
 have h0:∀r:TS×Bool,r.1.br=s.br->r.1.events=s.events->P r:=fun r h1 j=>by simp_all
 have h1:∀(r:TS×Bool) (e:db),r.1.br=s.br->r.1.events=s.events++[e]->P r:=fun r e h1 j=>by simp_all
 have:P (cT k c s):=by
  unfold cT;cases hx:c.ins[s.at_]? with
  | none=>exact h0 _ Z Z
  | some x=>
   dsimp only;unfold e6
   grind
 simp_all
structure TK (c:XC) (s:TS):Prop where
 at_:s.at_<c.ins.length
 br:s.br.length=c.br.toNat
 events:s.events.length<=1000000
theorem results_none {P:Program} {fn:Func} {t:PT U} {V:aE} (j:fn.results.toList= []):eG P fn t V=some (.tuple []):=by
 unfold eG;rw[j];rfl
theorem Cj {P:Program} {fn:Func} {R:U->aE->Prop} {t:PT U} {V:aE} (j:fn.results.toList= []) (m:R (.tuple []) V):EF P fn R .normal t V:=⟨.inl Z,_,results_none j,m⟩
structure Hk (c:XC) (out:List Nat) (s:TS):Prop where
 at_:s.at_∈out
 br:s.br.length=c.br.toNat
theorem sK {k:Nat} {c:XC} {s:TS} (h:(cT k c s).2=false):(cT k c s).1.at_=s.at_:=by
 obtain⟨P,hP⟩:∃P:TS×Bool->Prop,P=fun r=>r.2=false->r.1.at_=s.at_:=⟨_,Z⟩
 have hy:∀r:TS×Bool,r.2=true->P r:=fun r h1=>by simp_all
 have j:∀r:TS×Bool,r.1.at_=s.at_->P r:=fun r h1=>by simp_all
 have:P (cT k c s):=by
  unfold cT;cases hx:c.ins[s.at_]? with
  | none=>exact j _ Z
  | some x=>
   dsimp only;unfold e6
   grind
 simp_all
theorem Hk.lt {c:XC} {out:List Nat} {s:TS} (h:Hk c out s) (j:gb (ei c) c.ins.length out):s.at_<c.ins.length:=j.lt _ h.at_
theorem Hk.step {k:Nat} {c:XC} {out:List Nat} {s:TS} (h:Hk c out s) (j:gb (ei c) c.ins.length out):Hk c out (cT k c s).1:=by
 refine⟨?_,by rw[IN.1];exact h.br⟩;cases hb:(cT k c s).2 with
 | false=>rw[sK hb];exact h.at_
 | true=>
  obtain⟨x,hx⟩:=cL (h.lt j);obtain⟨q,hq⟩:=gO_ h.at_;obtain⟨q',_,aa⟩:=j.yV q _ hq _ (yD hx hb)
  grind
theorem AA {k:Nat} {c:XC} {j:Nat} {s:TS} (hj:1<=j) (h:(cT k c s).2=true):Gl k c j s=Gl k c (j-1) (cT k c s).1:=by
 obtain⟨i,rfl⟩:∃i,j=i+1:=⟨j-1,by omega⟩;show(bif (cT k c s).2 then _ else _)=_;rw[h];rfl
theorem ET {k:Nat} {c:XC} {j:Nat} {s:TS} (hj:1<=j) (h:(cT k c s).2=false):Gl k c j s=(cT k c s).1:=by
 obtain⟨i,rfl⟩:∃i,j=i+1:=⟨j-1,by omega⟩;show(bif (cT k c s).2 then _ else _)=_;rw[h];rfl
theorem uQ {k:Nat} {c:XC} {out:List Nat} {s:TS} {x:XI} {q:Nat} (j:gb (ei c) c.ins.length out) (hx:c.ins[s.at_]?=some x) (hq:out[q]?=some s.at_) (h:(cT k c s).2=true):∃q',q'<q/\out[q']?=some (cT k c s).1.at_:=j.yV q _ hq _ (yD hx h)
def mE (c:XC):TS:=⟨0,List.replicate c.br.toNat 0,[],0,0,false⟩
theorem LK {c:XC} {out:List Nat} (j:gb (ei c) c.ins.length out):Hk c out (mE c):=⟨j.zero,List.length_replicate ..⟩
theorem BR {k:Nat} {c:XC} (hc:fT k c) {out:List Nat} (m:gb (ei c) c.ins.length out) {s:TS} (h:Hk c out s) (u:nF c s) (w:s.asks=true) (v:Int):Hk c out (hZ k c s v):=by
 refine⟨?_,by show(s.br.set _ _).length=_;rw[List.length_set];exact h.br⟩;obtain⟨x,hx,hk⟩:=u w;obtain⟨q,hq⟩:=gO_ h.at_
 have:s.at_+1∈ei c s.at_:=by
  unfold ei;rw[hx];dsimp only;unfold kZ;rcases hk with hk | hk | hk | hk<;>rw[hk]<;>show s.at_+1∈[s.at_+1]<;>simp
 obtain⟨q',_,j⟩:=m.yV q _ hq _ this;exact gB_ j
theorem qj {es:List db} {i:Nat} {e:db} (h:es[i]?=some e):dM (es.take (i+1))=dM (es.take i)++(bif cN e then [e.read] else []):=by
 grind [List.take_add_one,dM]
theorem uR (es:List db):(dM es).length<=es.length:=by grind [dM]
def Ij (n:pD):List U:=ints n.event.ints++ints n.ask.ints++[.int .i64 n.fin]
def kg (x:XI) (a:Nat):List Int:=
 bif H x.kind 12 then [] else bif H x.kind 13 then [] else bif H x.kind 10 then [x.to] else
 bif H x.kind 11 then(bif b9 x.to (.ofNat (a+1)) then [x.to,.ofNat (a+1)] else bif b9 (.ofNat (a+1)) x.to then [.ofNat (a+1),x.to] else [.ofNat (a+1)]) else [.ofNat (a+1)]
def gi (c:XC) (i:Nat):List Nat:=match c.ins[i]? with | some x=>(kg x i).map Int.toNat | none=>[]
theorem zF {x:XI} {a:Nat} {t:Int}:t∈kg x a↔t∈kZ x a:=by
 unfold kg kZ;cases j:H x.kind 12 with
 | true=>rw[eqv j];simp[show H 12 10=false from Z,show H 12 11=false from Z,show H 12 12=true from Z]
 | false=>
 cases m:H x.kind 13 with
 | true=>rw[eqv m];simp[show H 13 10=false from Z,show H 13 11=false from Z,show H 13 12=false from Z,show H 13 13=true from Z]
 | false=>
 cases aa:H x.kind 10 with
 | true=>simp
 | false=>
 cases ab:H x.kind 11 with
 | false=>simp
 | true=>
  simp only[cond_true,cond_false];cases hl:b9 x.to (.ofNat (a+1)) with
  | true=>grind
  | false=>
   grind [fm]
theorem sy {c:XC} {i t:Nat}:t∈gi c i↔t∈ei c i:=by
 unfold gi ei;cases c.ins[i]? with
 | none=>exact Iff.rfl
 | some x=>simp only[List.mem_map,zF]
theorem C0:∀(n:Nat) (l:List Nat),l.Nodup->(∀x∈l,x<n)->l.length<=n
 | 0,l,_,h=>by cases l with | nil=>exact nR_ _ | cons a l=>exact absurd (h a<|mS_ ..) (nZ_ _)
 | n+1,l,j,h=>by
  have:=C0 n (l.erase n) (j.erase n) (fun x hx=>by
   grind)
  grind
def nu (f:Nat->Nat) (l:List Nat) (m:Nat):Nat:=l.foldl (fun m t=>max m (f t)) m
theorem tp {f:Nat->Nat} {B:Nat}:∀{l:List Nat} {m:Nat},m<=B->(∀t∈l,f t<=B)->nu f l m<=B
 | [],_,hm,_=>hm
 | a::l,m,hm,h=>tp (l:=l) (Nat.max_le.2 ⟨hm,h a<|mS_ ..⟩) (fun t j=>h t (mC_ _ j))
theorem CK {f:Nat->Nat}:∀{l:List Nat} {m:Nat},m<=nu f l m
 | [],_=>nR_ _
 | a::l,m=>Nat.le_trans (Nat.le_max_left _ _) (CK (l:=l))
theorem oD {f:Nat->Nat}:∀{l:List Nat} {m t:Nat},t∈l->f t<=nu f l m
 | a::l,m,t,h=>by
  rcases mQ_.1 h with rfl | h
  ·exact Nat.le_trans (Nat.le_max_right _ _)<|CK (l:=l)
  exact oD (l:=l) h
theorem oI {f g:Nat->Nat} {l l':List Nat} (h:∀t,t∈l↔t∈l') (hf:∀t∈l,f t=g t):nu f l 0=nu g l' 0:=by
 refine Nat.le_antisymm (tp (Nat.zero_le _) fun t j=>?_)<|tp (Nat.zero_le _) fun t j=>?_
 ·rw[hf t j];exact oD ((h t).1 j)
 rw[<-hf t ((h t).2 j)];exact oD ((h t).2 j)
theorem Ib {f g:Nat->Nat} {l:List Nat} (hf:∀t∈l,f t<=g t):nu f l 0<=nu g l 0:=tp (Nat.zero_le _) fun t j=>Nat.le_trans (hf t j) (oD j)
theorem zE {f:Nat->Nat}:∀{l:List Nat} {m:Nat},nu f l m=m∨∃t∈l,nu f l m=f t
 | [],_=>.inl Z
 | a::l,m=>by
  rcases zE (f:=f) (l:=l) (m:=max m<|f a) with h | ⟨t,j,h⟩
  ·show nu f l (max m<|f a)=m∨_;rcases Nat.le_total m (f a) with h1 | h1
   ·exact .inr ⟨a,mS_ ..,by show nu f l (max m<|f a)=_;rw[Nat.max_eq_right h1] at h⊢;exact h⟩
   exact .inl (by rw[Nat.max_eq_left h1] at h⊢;exact h)
  exact .inr ⟨t,mC_ _ j,h⟩
inductive Reach (nx:Nat->List Nat):Nat->Prop
 | zero:Reach nx 0
 | step {i t:Nat}:Reach nx i->t∈nx i->Reach nx t
theorem Reach.mA {nx:Nat->List Nat} {n:Nat} {out:List Nat} (j:gb nx n out) {i:Nat} (h:Reach nx i):i∈out:=by
 induction h with
 | zero=>exact j.zero
 | step _ m ih=>
  obtain⟨q,hq⟩:=gO_ ih;obtain⟨q',_,h'⟩:=j.yV q _ hq _ m
  grind
def Qp (w:Nat->Nat) (nx:Nat->List Nat):Nat->Nat->Nat
 | 0,_=>0
 | k+1,i=>nu (Qp w nx k) (nx i) 0+w i
theorem CH {w:Nat->Nat} {nx:Nat->List Nat} {n:Nat} {out:List Nat} (j:gb nx n out):∀(q i:Nat),out[q]?=some i->∀k,q<k->Qp w nx k i=Qp w nx (q+1) i:=by
 intro q;induction q using Nat.strongRecOn with
 | _ q ih=>
  intro i hi k hk;obtain⟨k,rfl⟩:∃m,k=m+1:=⟨k-1,by omega⟩;show nu _ _ _+_=nu _ _ _+_;rw[oI (fun t=>Iff.rfl) (fun t u=>?_)];obtain⟨q',h1,h2⟩:=j.yV q i hi t u
  grind
def ud (w:Nat->Nat) (nx:Nat->List Nat) (f:Nat->Nat):Prop:=∀i,Reach nx i->f i=nu f (nx i) 0+w i
theorem Kf {w:Nat->Nat} {nx:Nat->List Nat} {n:Nat} {out:List Nat} (j:gb nx n out):ud w nx (Qp w nx out.length):=by
 intro i hi;obtain⟨q,hq⟩:=gO_ (hi.mA j);have hl:=(gA.1 hq).1;rw[CH j q i hq _ hl,<-CH j q i hq (out.length+1) oM];rfl
theorem Nn {w:Nat->Nat} {nx:Nat->List Nat} {n:Nat} {out:List Nat} {f g:Nat->Nat} (m:gb nx n out) (hf:ud w nx f) (z:ud w nx g):∀i,Reach nx i->f i=g i:=by
 have:∀(q i:Nat),out[q]?=some i->Reach nx i->f i=g i:=by
  intro q;induction q using Nat.strongRecOn with
  | _ q ih=>
   intro i hi j;rw[hf i j,z i j,oI (fun t=>Iff.rfl) (fun t u=>?_)];obtain⟨q',h1,A⟩:=m.yV q i hi t u;exact ih q' h1 t A (.step j u)
 intro i hi;obtain⟨q,hq⟩:=gO_ (hi.mA m);exact this q i hq hi
theorem Kg {v w:Nat->Nat} {nx:Nat->List Nat} {n:Nat} {out:List Nat} {f g:Nat->Nat} (m:gb nx n out) (hw:∀i,v i<=w i) (hf:ud v nx f) (z:ud w nx g):∀i,Reach nx i->f i<=g i:=by
 have:∀(q i:Nat),out[q]?=some i->Reach nx i->f i<=g i:=by
  intro q;induction q using Nat.strongRecOn with
  | _ q ih=>
   intro i hi j;rw[hf i j,z i j];refine Nat.add_le_add (Ib fun t u=>?_)<|hw i;obtain⟨q',h1,A⟩:=m.yV q i hi t u;exact ih q' h1 t A (.step j u)
 intro i hi;obtain⟨q,hq⟩:=gO_ (hi.mA m);exact this q i hq hi
theorem HP {nx:Nat->List Nat} {h:Nat->Nat} (j:ud (fun _=>1) nx h):∀(v i:Nat),Reach nx i->h i=v->∃l:List Nat,l.length=v/\l.Nodup/\∀x∈l,Reach nx x/\1<=h x/\h x<=v:=by
 intro v;induction v with
 | zero=>simp_all
 | succ v ih=>
  intro i hi hv;rcases zE (f:=h) (l:=nx i) (m:=0) with hm | ⟨t,u,hm⟩
  ·have:=j i hi;rw[hm] at this;dsimp only at this;obtain rfl:v=0:=by omega
   exact⟨[i],Z,by simp,fun x hx=>by simp_all⟩
  have:=j i hi;rw[hm] at this;dsimp only at this;obtain⟨l,h1,z,h3⟩:=ih t (.step hi u) oM;refine⟨i::l,by simp[h1],List.nodup_cons.2 ⟨fun hx=>?_,z⟩,fun x hx=>?_⟩
  ·grind
  grind
theorem Pr {nx:Nat->List Nat} {n:Nat} {out:List Nat} {h:Nat->Nat} (j:gb nx n out) (m:ud (fun _=>1) nx h):∀i,Reach nx i->h i<=n:=by
 intro i hi;obtain⟨l,h1,u,z⟩:=HP m _ i hi Z;rw[<-h1];exact C0 n l u fun x hx=>j.lt x ((z x hx).1.mA j)
def mP (b:List Nat) (t:Nat):Nat:=(b[t]?).getD 0
def gX (nx:Nat->List Nat) (w:Nat->Nat) (b:List Nat) (i:Nat):Nat:=nu (mP b) (nx i) 0+w i
def il (nx:Nat->List Nat) (w:Nat->Nat) (r:Nat->Bool) (n:Nat):Nat->List Nat×Bool->Option (List Nat×Bool)
 | 0,s=>some s
 | i+1,s=>bif bh (r i) then il nx w r n i s else bif Nat.blt n (gX nx w s.1 i) then none else bif Nat.beq (gX nx w s.1 i) (mP s.1 i) then il nx w r n i s else il nx w r n i (s.1.set i<|gX nx w s.1 i,false)
def jr (nx:Nat->List Nat) (w:Nat->Nat) (r:Nat->Bool) (n:Nat):Nat->List Nat->Nat×Bool
 | 0,_=>(0,false)
 | f+1,b=>match il nx w r n n (b,true) with
  | none=>(0,false)
  | some (b',true)=>(mP b' 0,true)
  | some (b',false)=>jr nx w r n f b'
section
variable {nx:Nat->List Nat} {w:Nat->Nat} {r:Nat->Bool} {n:Nat}
theorem F6 {b:List Nat} {i v t:Nat} (hi:i<b.length):mP (b.set i v) t=if t=i then v else mP b t:=by
 unfold mP
 grind
theorem qT:∀{i:Nat} {s s':List Nat×Bool},il nx w r n i s=some s'->s'.1.length=s.1.length
 | 0,s,s',h=>by cases h;rfl
 | i+1,s,s',h=>by
  unfold il at h;cases h1:bh (r i) with
  | true=>rw[h1] at h;exact qT h
  | false=>
  cases j:Nat.blt n (gX nx w s.1 i) with
  | true=>rw[h1,j] at h;cases h
  | false=>
  cases m:Nat.beq (gX nx w s.1 i) (mP s.1 i) with
  | true=>rw[h1,j,m] at h;exact qT h
  | false=>rw[h1,j,m] at h;have:=qT (i:=i) h;rw[this];exact List.length_set
theorem oO:∀{i:Nat} {s:List Nat×Bool} {b':List Nat},il nx w r n i s=some (b',true)->s.2=true/\b'=s.1/\∀j,j<i->r j=true->mP s.1 j=gX nx w s.1 j
 | 0,s,b',h=>by cases h;exact⟨Z,Z,fun j hj=>absurd hj (nZ_ _)⟩
 | i+1,s,b',h=>by
  unfold il at h;cases h1:bh (r i) with
  | true=>
   rw[h1] at h;obtain⟨a,b,c⟩:=oO (i:=i) h;refine⟨a,b,fun j hj m=>?_⟩
   by_cases e:j=i
   ·subst e;rw[bW h1] at m;cases m
   exact c j oM m
  | false=>
  cases u:Nat.blt n (gX nx w s.1 i) with
  | true=>rw[h1,u] at h;cases h
  | false=>
  cases z:Nat.beq (gX nx w s.1 i) (mP s.1 i) with
  | true=>
   rw[h1,u,z] at h;obtain⟨a,b,c⟩:=oO (i:=i) h;refine⟨a,b,fun j hj m=>?_⟩
   by_cases e:j=i
   ·subst e;exact(nB z).symm
   exact c j oM m
  | false=>rw[h1,u,z] at h;exact absurd (oO (i:=i) h).1 Bool.false_ne_true
theorem sx:∀{f:Nat} {b:List Nat},(jr nx w r n f b).2=true->∃b',b'.length=b.length/\(jr nx w r n f b).1=mP b' 0/\∀j,j<n->r j=true->mP b' j=gX nx w b' j
 | 0,b,h=>by cases h
 | f+1,b,h=>by
  unfold jr at h⊢;cases hp:il nx w r n n (b,true) with
  | none=>rw[hp] at h;cases h
  | some s=>
   obtain⟨b',q⟩:=s;rw[hp] at h;cases q with
   | true=>
    obtain⟨_,e,h'⟩:=oO hp
    grind
   | false=>
    obtain⟨m,h1,u,z⟩:=sx (f:=f) (b:=b') h;exact⟨m,by rw[h1,qT hp],u,z⟩
end
section
variable {nx dx:Nat->List Nat} {w:Nat->Nat} {r:Nat->Bool} {n:Nat} {out:List Nat} {F H_:Nat->Nat}
theorem Oh (j:∀i t,t∈dx i↔t∈nx i) (m:ud w nx F) {b:List Nat} (hb:∀i,Reach nx i->mP b i<=F i) {i:Nat} (hi:Reach nx i):gX dx w b i<=F i:=by
 rw[m i hi];unfold gX;refine Nat.add_le_add_right (tp (Nat.zero_le _) fun t ht=>?_) _;have ht:=(j i t).1 ht;exact Nat.le_trans (hb t (.step hi ht))<|oD ht
theorem Og (hd:∀i t,t∈dx i↔t∈nx i) (j:ud w nx F) {b:List Nat} {i:Nat} (hi:Reach nx i) (hb:∀t∈nx i,mP b t=F t):gX dx w b i=F i:=by
 rw[j i hi]
 grind [gX,oI]
theorem tA (B:∀i t,t∈dx i↔t∈nx i) (C:∀i,i<n->(r i=true↔Reach nx i)) (E:ud w nx F) (u:∀i,Reach nx i->F i<=n) (L:∀i t,Reach nx i->t∈nx i->H_ t<H_ i) {m:Nat}:
  ∀{i:Nat} {s:List Nat×Bool},i<=n->s.1.length=n->(∀j,Reach nx j->mP s.1 j<=F j)->(∀j,Reach nx j->H_ j<=m->mP s.1 j=F j)->(∀j,j<n->i<=j->Reach nx j->H_ j<=m+1->mP s.1 j=F j)->
   ∃s',il dx w r n i s=some s'/\s'.1.length=n/\(∀j,Reach nx j->mP s'.1 j<=F j)/\(∀j,j<n->Reach nx j->H_ j<=m+1->mP s'.1 j=F j)/\((∀j,Reach nx j->H_ j<=m)->s'.2=s.2)
 | 0,s,_,hl,h1,I,Q=>⟨s,Z,hl,h1,fun j hj=>Q j hj (Nat.zero_le _),fun _=>Z⟩
 | i+1,s,hi,hl,h1,I,Q=>by
  unfold il;cases K:bh (r i) with
  | true=>
   refine tA B C E u L (i:=i) oM hl h1 I fun j hj G A M=>?_
   by_cases e:j=i
   ·subst e;rw[(C j hj).2 A] at K;cases K
   grind
  | false=>
  have z:Reach nx i:=(C i oM).1 (by cases h:r i;rw[h] at K;cases K;rfl);have hv:gX dx w s.1 i<=F i:=Oh B E h1 z;have hfi:=u i z;rw[show Nat.blt n (gX dx w s.1 i)=false from by rw[Bool.eq_false_iff];intro h;have:=Nat.le_of_ble_eq_true h;omega];have hex:H_ i<=m+1->gX dx w s.1 i=F i:=fun h=>Og B E z fun t R=>I t (.step z R) (by grind)
  cases hb:Nat.beq (gX dx w s.1 i) (mP s.1 i) with
  | true=>
   refine tA B C E u L (i:=i) oM hl h1 I fun j hj G A M=>?_
   grind [nB]
  | false=>
   have aa:∀j,mP (s.1.set i<|gX dx w s.1 i) j=if j=i then gX dx w s.1 i else mP s.1 j:=fun j=>F6 oM
   obtain⟨s',k1,k2,k3,k4,k5⟩:=tA B C E u L (m:=m) (i:=i) (s:=(s.1.set i<|gX dx w s.1 i,false)) oM (by simp_all)
    (fun j hj=>by grind)
    (fun j hj hm=>by grind)
    (fun j hj G A hm=>by grind)
   grind [Nat.beq_refl]
theorem CN (B:∀i t,t∈dx i↔t∈nx i) (C:∀i,i<n->(r i=true↔Reach nx i)) (u:∀i,Reach nx i->i<n) (E:ud w nx F) (z:∀i,Reach nx i->F i<=n) (G:∀i t,Reach nx i->t∈nx i->H_ t<H_ i) (A:∀i,Reach nx i->H_ i<=n):
  ∀{f m:Nat} {b:List Nat},n+1<f+m->1<=f->b.length=n->(∀j,Reach nx j->mP b j<=F j)->(∀j,Reach nx j->H_ j<=m->mP b j=F j)->(jr dx w r n f b).2=true
 | 0,_,_,_,h,_,_,_=>absurd h oM
 | f+1,m,b,aa,_,hl,h1,I=>by
  obtain⟨⟨b',q⟩,K,L,M,Q,k5⟩:=tA (w:=w) (F:=F) B C E z G (m:=m) (i:=n) (s:=(b,true)) (nR_ _) hl h1 I (fun j hj ab=>absurd hj oM);unfold jr;rw[K];cases q with
  | true=>rfl
  | false=>
   by_cases hm:n<=m
   ·grind
   exact CN B C u E z G A (f:=f) (m:=m+1) oM oM L M fun j hj=>Q j (u j hj) hj
end
theorem E4 {nx dx:Nat->List Nat} {w:Nat->Nat} {r:Nat->Bool} {n:Nat} {out:List Nat} (z:gb nx n out) (E:∀i t,t∈dx i↔t∈nx i) (G:∀i,i<n->(r i=true↔Reach nx i)) (hw:∀i,w i<=1) {F:Nat->Nat} (B:ud w nx F):
  jr dx w r n (n+2) (List.replicate n 0)=(F 0,true):=by
 have hH:=Kf (w:=fun _=>1) z;have u:∀i,Reach nx i->i<n:=fun i hi=>z.lt i (hi.mA z)
 have hHn:=Pr z hH;have hFH:=Kg z hw B hH
 have C:∀i t,Reach nx i->t∈nx i->Qp (fun _=>1) nx out.length t<Qp (fun _=>1) nx out.length i:=fun i t hi I=>by
  rw[hH i hi];exact Nat.lt_succ_of_le<|oD I
 have h0:∀j,mP (List.replicate n 0) j=0:=fun j=>by
  grind [mP]
 have hs:=CN (w:=w) E G u B (fun i hi=>Nat.le_trans (hFH i hi) (hHn i hi)) C hHn (f:=n+2) (m:=0) (b:=List.replicate n 0) oM oM (by simp) (fun j _=>by simp_all)
  (fun j hj hm=>by grind)
 obtain⟨b',h1,K,L⟩:=sx hs
 have A:ud w nx (mP b'):=fun i hi=>by
  rw[L i (u i hi) ((G i<|u i hi).2 hi)];unfold gX;rw[oI (E i) fun t _=>Z]
 exact Prod.ext (by rw[K];exact Nn z A B 0 .zero) hs
structure F1 (nx:Nat->List Nat) (s:DS):Prop where
 open_:∀i:Nat,s.st[i]?=some 1->i∈s.path
 JT:∀(j a b:Nat),s.path[j]?=some a->s.path[j+1]?=some b->b∈nx a
 reach:∀i∈s.path,Reach nx i
theorem wV {nx:Nat->List Nat} {p:List Nat} {f:Nat->Nat} (he:∀(j a b:Nat),p[j]?=some a->p[j+1]?=some b->b∈nx a) (u:∀i∈p,Reach nx i) (hf:∀i t,Reach nx i->t∈nx i->f t<f i):
  ∀(d j a b:Nat),p[j]?=some a->p[j+d]?=some b->f b<=f a
 | 0,j,a,b,m,hb=>by simp_all
 | d+1,j,a,b,m,hb=>by
  have hl:=(gA.1 hb).1;obtain⟨x,hx⟩:∃x,p[j+1]?=some x:=⟨_,gC oM⟩;have h1:=hf a x (u a<|gB_ m) (he j a x m hx);have h2:=wV he u hf d (j+1) x b hx (by grind);omega
theorem EE {nx:Nat->List Nat} {n:Nat} {s:DS} {f:Nat->Nat} (hw:OX nx n s) (hp:F1 nx s) (z:∀i,i<n->∀to∈nx i,to<n) (hf:∀i t,Reach nx i->t∈nx i->f t<f i) {a:Nat} (G:s.path.getLast?=some a):∃s',vC nx s a=some s'/\F1 nx s':=by
 obtain⟨P,A⟩:=List.getLast?_eq_some_iff.1 G;have u:a∈s.path:=by rw[A];simp
 have hra:=hp.reach a u;obtain⟨B,aa⟩:=hw.path a u;have ac:s.path[P.length]?=some a:=by rw[A];simp
 unfold vC;dsimp only;cases C:(nx a)[(s.gone[a]?).getD 0]? with
 | none=>
  dsimp only;refine⟨_,Z,⟨fun i hi=>?_,fun j x y hx m=>?_,fun i hi=>?_⟩⟩
  ·have hi:(s.st.set a 2)[i]?=some 1:=hi;rw[List.getElem?_set] at hi;split at hi
   ·simp_all
   rename_i e;have:=hp.open_ i hi
   grind
  ·have hx:s.path.dropLast[j]?=some x:=hx;have m:s.path.dropLast[j+1]?=some y:=m;rw[List.getElem?_dropLast] at hx m;split at hx
   ·split at m
    ·exact hp.JT j x y hx m
    cases m
   cases hx
  have hi:i∈s.path.dropLast:=hi;exact hp.reach i ((List.dropLast_sublist _).subset hi)
 | some to=>
  dsimp only;have htm:=gB_ C;have ab:to<n:=z a B to htm
  by_cases E:(s.st[to]?).getD 0=2
  ·rw[if_pos E];exact⟨_,Z,⟨hp.open_,hp.JT,hp.reach⟩⟩
  rw[if_neg E]
  have h1:¬(s.st[to]?).getD 0=1:=fun h1=>by
   have:s.st[to]?=some 1:=by
    grind
   obtain⟨j,hj⟩:=gO_ (hp.open_ to this);have hjl:=(gA.1 hj).1;rw[A] at hjl;simp only[lA_,List.length_singleton] at hjl;have:=wV hp.JT hp.reach hf (P.length-j) j to a hj (by grind)
   grind
  rw[if_neg h1];refine⟨_,Z,⟨fun i hi=>?_,fun j x y hx m=>?_,fun i hi=>?_⟩⟩
  ·have hi:(s.st.set to 1)[i]?=some 1:=hi;show i∈s.path++[to];rw[List.getElem?_set] at hi;split at hi
   ·simp_all
   exact List.mem_append_left _<|hp.open_ i hi
  ·have hx:(s.path++[to])[j]?=some x:=hx;have m:(s.path++[to])[j+1]?=some y:=m;have hyl:=(gA.1 m).1;simp only[lA_,List.length_singleton] at hyl;rw[gL_ oM] at hx
   by_cases e:j+1<s.path.length
   ·rw[gL_ e] at m;exact hp.JT j x y hx m
   grind
  have hi:i∈s.path++[to]:=hi;rcases List.mem_append.1 hi with h | h
  ·exact hp.reach i h
  obtain rfl:=List.mem_singleton.1 h;exact .step hra htm
theorem Ca {nx:Nat->List Nat} {n:Nat} {f:Nat->Nat} (j:∀i,i<n->∀to∈nx i,to<n) (hf:∀i t,Reach nx i->t∈nx i->f t<f i):∀{fu:Nat} {s:DS},OX nx n s->F1 nx s->m3 nx n s<fu->(Ja nx fu s).isSome=true
 | 0,_,_,_,h=>absurd h (nZ_ _)
 | fu+1,s,hw,hp,hl=>by
  unfold Ja;cases m:s.path.getLast? with
  | none=>rfl
  | some a=>
   obtain⟨s',h1,u⟩:=EE hw hp j hf m;have hs:=xf hw j m h1;show((vC nx s a).bind<|Ja nx fu).isSome=true;rw[h1];exact Ca j hf hs.1 u oM
theorem JS {nx:Nat->List Nat} {n:Nat}:F1 nx (Ch n) where
 open_ i hi:=by
  grind [Ch]
 JT j a b ha hb:=by
  have hb: [0][j+1]?=some b:=hb;simp at hb
 reach i hi:=by
  obtain rfl:i=0:=by simpa [Ch] using hi
  exact .zero
theorem Cs {k:Nat} {c:XC} (hc:fT k c) {r:Nat->Bool} (u:∀i,i<c.ins.length->(r i=true↔Reach (ei c) i)):
  (jr (gi c) (fun _=>1) r c.ins.length (c.ins.length+2)<|List.replicate c.ins.length 0).2=(kC c).isSome:=by
 have hnx:=wA hc;cases z:kC c with
 | some out=>
  have hR:=sn hnx (Aq hc.pos) (show Ja _ _ _=some out from z);rw[E4 hR (fun i t=>sy) u (fun _=>nR_ _)<|Kf hR];rfl
 | none=>
  show _=false;rw[Bool.eq_false_iff];intro A;obtain⟨b',h1,h2,B⟩:=sx A
  have j:∀i,Reach (ei c) i->i<c.ins.length:=fun i hi=>by
   induction hi with
   | zero=>exact hc.pos
   | step _ m ih=>exact hnx _ ih _ m
  have hf:∀i t,Reach (ei c) i->t∈ei c i->mP b' t<mP b' i:=fun i t hi m=>by
   rw[B i (j i hi) ((u i<|j i hi).2 hi)];exact Nat.lt_succ_of_le<|oD<|sy.2 m
  have:=Ca (fu:=2*total (ei c) c.ins.length+2) hnx hf (Aq hc.pos) JS (by rw[OJ];omega);rw[show Ja (ei c) (2*total (ei c) c.ins.length+2) (Ch c.ins.length)=none from z] at this;cases this
abbrev gB (b:Bool):U:=.bool b
def uw:List Bool->Nat
 | []=>0
 | b::l=>(if b then 0 else 1)+uw l
theorem Co:∀{l:List Bool} {i:Nat},l[i]?=some false->uw (l.set i true)+1=uw l
 | [],_,h=>by simp at h
 | b::l,0,h=>by
  simp only[List.getElem?_cons_zero,oJ_] at h;subst h;show(0+uw l)+1=1+uw l;omega
 | b::l,i+1,h=>by
  have:=Co (l:=l) (i:=i) (by simpa using h);show(if b then 0 else 1)+uw (l.set i true)+1=(if b then 0 else 1)+uw l;omega
theorem s9:∀(l:List Bool),uw l<=l.length
 | []=>nR_ _
 | b::l=>by
  have:=s9 l;show(if b then 0 else 1)+uw l<=l.length+1;split<;>omega
structure D0 (nx:Nat->List Nat) (n:Nat) (o:List Bool) (st:List Nat):Prop where
 len:o.length=n
 reach:∀i:Nat,o[i]?=some true->Reach nx i
 zero:o[0]?=some true
 IT:∀i∈st,i<n/\o[i]?=some true
 closed:∀i:Nat,o[i]?=some true->i∈st∨∀t∈nx i,o[t]?=some true
structure wI (nx:Nat->List Nat) (n:Nat) (o:List Bool) (st:List Nat) (a m:Nat) (dl:List Nat):Prop where
 len:o.length=n
 reach:∀i:Nat,o[i]?=some true->Reach nx i
 zero:o[0]?=some true
 IT:∀i∈st,i<n/\o[i]?=some true
 at_:o[a]?=some true
 closed:∀i:Nat,o[i]?=some true->i∈st∨i=a∨∀t∈nx i,o[t]?=some true
 done:∀(q t:Nat),q<m->dl[q]?=some t->o[t]?=some true
section
variable {nx:Nat->List Nat} {n:Nat} {o:List Bool} {st:List Nat} {a m t:Nat} {dl:List Nat}
theorem Rj (j:0<n):D0 nx n ((List.replicate n false).set 0 true) [0] where
 len:=by simp
 reach i hi:=by
  rw[List.getElem?_set] at hi;split at hi
  ·rename_i e;subst e;exact .zero
  grind
 zero:=by simp[j]
 IT i hi:=by
  simp_all
 closed i hi:=by
  grind
theorem D0.pop (h:D0 nx n o st) (ha:st.getLast?=some a):wI nx n o st.dropLast a 0 dl where
 len:=h.len
 reach:=h.reach
 zero:=h.zero
 IT i hi:=h.IT i ((List.dropLast_sublist _).subset hi)
 at_:=(h.IT a (by grind)).2
 closed i hi:=by
  rcases h.closed i hi with h1 | h1
  ·grind [List.getLast?_eq_some_iff]
  simp_all
 done q t hq:=absurd hq (nZ_ _)
theorem wI.skip (h:wI nx n o st a m dl) (ht:dl[m]?=some t) (ho:o[t]?=some true):wI nx n o st a (m+1) dl where
 len:=h.len
 reach:=h.reach
 zero:=h.zero
 IT:=h.IT
 at_:=h.at_
 closed:=h.closed
 done q t' hq h':=by
  by_cases e:q=m
  ·simp_all
  exact h.done q t' oM h'
theorem tL {i:Nat} (hi:o[i]?=some true):(o.set t true)[i]?=some true:=by
 grind
theorem wI.mark (h:wI nx n o st a m dl) (u:dl[m]?=some t) (w:t∈nx a) (j:t<n):wI nx n (o.set t true) (st++[t]) a (m+1) dl where
 len:=by rw[List.length_set];exact h.len
 reach i hi:=by
  rw[List.getElem?_set] at hi;split at hi
  ·rename_i e;subst e;exact .step (h.reach a h.at_) w
  exact h.reach i hi
 zero:=tL h.zero
 IT i hi:=by
  rcases List.mem_append.1 hi with hi | hi
  ·exact⟨(h.IT i hi).1,tL (h.IT i hi).2⟩
  obtain rfl:=List.mem_singleton.1 hi;exact⟨j,by rw[List.getElem?_set,if_pos Z,if_pos (by rw[h.len];exact j)]⟩
 at_:=tL h.at_
 closed i hi:=by
  rw[List.getElem?_set] at hi;split at hi
  ·simp_all
  rcases h.closed i hi with h1 | h1 | h1
  ·simp_all
  ·exact .inr (.inl h1)
  grind
 done q t' hq h':=by
  by_cases e:q=m
  ·subst e;rw[u] at h';cases h';rw[List.getElem?_set,if_pos Z,if_pos (by rw[h.len];exact j)]
  exact tL<|h.done q t' oM h'
theorem wI.close (h:wI nx n o st a m dl) (hm:dl.length<=m) (j:∀t∈nx a,t∈dl):D0 nx n o st where
 len:=h.len
 reach:=h.reach
 zero:=h.zero
 IT:=h.IT
 closed i hi:=by
  rcases h.closed i hi with h1 | h1 | h1
  ·exact .inl h1
  ·subst h1;refine .inr fun t u=>?_
   obtain⟨q,hq⟩:=gO_ (j t u);exact h.done q t (by grind) hq
  exact .inr h1
theorem D0.final (h:D0 nx n o []) {i:Nat}:o[i]?=some true↔Reach nx i:=by
 refine⟨h.reach i,fun hi=>?_⟩;induction hi with
 | zero=>exact h.zero
 | @step i t _ j ih=>
  rcases h.closed i ih with h1 | h1
  ·simp at h1
  exact h1 t j
end
theorem zI {k:Nat} {c:XC} (hc:fT k c) {a g:Nat} {x:XI} {to:Int} (h:c.ins[a]?=some x) (j:(kg x a)[g]?=some to):∃t:Nat,to= .ofNat t/\t<c.ins.length/\(gi c a)[g]?=some t/\t∈ei c a:=by
 obtain⟨q,hq⟩:=gO_ (zF.1<|gB_ j);obtain⟨t,rfl,h1,u⟩:=Ik hc h hq;refine⟨t,Z,h1,?_,gB_ u⟩
 grind [gi]
theorem xV {c:XC} {a:Nat} {x:XI} (h:c.ins[a]?=some x):(gi c a).length=(kg x a).length:=by unfold gi;rw[h];simp
end Go.Ev
namespace Go.Ev
section
variable [Env] {H_:Type}
def Fit (P:Program):Nat->TypeId->DataW H_->Prop
  | 0,_,_=>False
  | fuel+1,t,d=>
    match P.underlying t with
    | some .bool=>∃b,d= .lit (.bool b)
    | some (.int k)=>∃n,d= .lit (.int k n)
    | some .string=>∃s,d= .lit (.string s)/\s.length<=maxLen
    | some (.slice e)=>d= .nil∨∃elems spare,d= .slice elems spare/\∀x∈elems,Fit P fuel e x
    | some (.struct fs)=>∃parts,d= .agg parts/\parts.length=fs.size/\∀(i:Nat) (f:Field) (x:DataW H_),fs[i]?=some f->parts[i]?=some x->Fit P fuel f.type x
    | _=>True
theorem CP {α β:Type} {f:α->Option β}:∀{l:List α} {ys:List β},l.mapM f=some ys->ys.length=l.length/\∀(i:Nat) (x:α),l[i]?=some x->∃y,ys[i]?=some y/\f x=some y
  | [],ys,h=>by simp_all
  | a::l,ys,h=>by
    simp only[List.mapM_cons,Option.bind_eq_bind,Option.bind_eq_some_iff,Option.pure_def,oJ_] at h;obtain⟨y,h1,r,j,rfl⟩:=h;obtain⟨k1,k2⟩:=CP j
    grind
variable {enc:TypeId×Value->H_} {P:Program} {w:World}
theorem mY:∀(fuel:Nat) (t:TypeId) (cs:List Value) (d:DataW H_) (p:List MemPlace),DataW.trod enc P w 0 (fun _=>true) true fuel t cs=some (d,p)->Fit P fuel t d
  | 0,_,_,_,_,h=>by simp[DataW.trod] at h
  | fuel+1,t,cs,d,p,h=>by
    have ih:=mY fuel;unfold Fit;cases hu:P.underlying t with
    | none=>trivial
    | some u=>
      unfold DataW.trod at h;rw[hu] at h;cases u with
      | bool=>
        split at h<;>first | (rename_i he;cases he;done) | skip
        all_goals first
          | (cases h;exact⟨_,Z⟩)
          | cases h
      | int k=>
        split at h<;>first | (rename_i he;cases he;done) | skip
        all_goals first
          | (rename_i B A n he
             cases he;split at h
             · cases h;exact⟨_,Z⟩
             · cases h)
          | cases h
      | string=>
        split at h<;>first | (rename_i he;cases he;done) | skip
        all_goals first
          | (split at h
             · rename_i C;cases h;exact⟨_,Z,by rw[Array.length_toList];exact C⟩
             · cases h)
          | cases h
      | struct fs=>
        dsimp only at h⊢;split at h
        · obtain⟨xs,E,hx⟩:=oM_.1 h
          have m:d= .agg (xs.map (·.1)):=by have:=congrArg Prod.fst hx;simpa using this.symm
          obtain⟨B,A⟩:=CP E;refine⟨_,m,by simpa using B,fun i f x hf z=>?_⟩;obtain⟨y,F,I⟩:=A i f (by rw[aT_];exact hf);rw[gM_,F] at z;cases z;exact ih _ _ _ y.2 I
        · cases h
      | slice e=>
        split at h<;>first | (rename_i he;cases he;done) | skip
        · cases h;exact .inl Z
        · rename_i e' a len cap he
          cases he;dsimp only at h;rw[if_pos Z] at h;split at h
          · obtain⟨elems,K,L⟩:=Option.bind_eq_some_iff.1 h
            obtain⟨rest,_,m⟩:=oM_.1 L;have m:d= .slice (elems.map (·.1)) (rest.map (·.1)):=by have:=congrArg Prod.fst m;simpa using this.symm
            refine .inr ⟨_,_,m,fun x hx=>?_⟩;obtain⟨y,F,rfl⟩:=List.mem_map.1 hx;obtain⟨i,hi⟩:=gO_ F;obtain⟨B,A⟩:=mn K;obtain⟨j,_,hj⟩:=A i y hi;obtain⟨c,_,hc⟩:=Option.bind_eq_some_iff.1 hj;exact ih _ _ _ y.2 hc
          · cases h
        all_goals cases h
      | _=>trivial
end
section
variable [Env] {P:Program} {G:Cx}
def we (V:aE):KP:=fun b o=>b<V.next/\V.m.get b=some o
theorem D.of (V:aE):D V (we V) []:=⟨fun b o h=>⟨h.1,h.2,fun e he=>by cases he⟩,fun e he=>(by cases he),List.Pairwise.nil⟩
theorem ke.Q4 {w w':World} {J J':dh} {V V':aE} (h:eW J V w J' V' w') (u:kb V):ke w w':=
  ⟨h.os,h.out,h.tape,h.size,fun r j=>h.frame r j fun⟨b,o,l,h1,m,_⟩=>by rw[u b o h1] at m;cases m⟩
theorem B4 (hm:P.follows .mixedOrders=true) (j:BG P G) {J:dh} {V:aE} {w:World} {f:Nat} {args:List U} {xs:Array Value} {R:U->aE->Prop} (hi:Inv J V w) (m:GR J G) (u:kb V) (hx:dw J args xs.toList) (h:bu P G f args V R):
    Calls P f xs w fun e w'=>∃v x V' J',e= .returned x/\ke w w'/\VR J' v x/\R v V':=by
  obtain⟨K,v,V',h1,z⟩:=h;exact pM (fuel:=K) hm j (h1 K<|nR_ _) hi m hx fun J' w' x _ st hv=>⟨v,x,V',J',Z,ke.Q4 st u,hv,z⟩
theorem kb.leaf:kb V0:=fun b o h=>by
  have:(PT.leaf:PT cD).get b=some o:=h;rw[PT.kX] at this;cases this
theorem dH.fresh {J:dh} {V:aE} {w:World} (hi:Inv J V w) {b:Nat} {o:cD} (h:V.m.get b=some o):b<V.next:=by
  rcases Nat.lt_or_ge b V.next with h' | h'
  · exact h'
  · rw[(hi.fresh b h').2] at h;cases h
end
section
variable {H_:Type}
def oH:DataW H_->Int
 | .lit (.int _ n)=>n
 | _=>0
def PF:DataW H_->List Nat
 | .lit (.string s)=>s.map UInt8.toNat
 | _=>[]
def fz:DataW H_->List (DataW H_)
 | .slice l _=>l
 | _=>[]
def cO (d:DataW H_) (i:Nat):DataW H_:=
 match d with
 | .agg ps=>ps.getD i .nil
 | _=>.nil
def Bo:Nat->DataW H_->XE
 | 0,_=>.mk 0 0 [] []
 | 1,_=>.mk 0 0 [] []
 | k+2,d=>.mk (oH<|cO d 0) (oH<|cO d 1) (PF<|cO d 2) ((fz<|cO d 3).map<|Bo k)
def LZ (k:Nat) (d:DataW H_):XI:=⟨oH<|cO d 0,oH<|cO d 1,oH<|cO d 2,oH<|cO d 3,oH<|cO d 4,(fz<|cO d 5).map<|Bo k⟩
def IY (k:Nat) (d:DataW H_):XC:=⟨oH<|cO d 0,(fz<|cO d 1).map<|LZ k⟩
end
section
variable [Env] {H_:Type} {P:Program} {V:aE}
theorem iK {fuel:Nat} {t:TypeId} {d:DataW H_} {vs:List U} {k:IntKind} (hu:P.underlying t=some (.int k)) (hf:Fit P fuel t d) (j:dH P V fuel t d vs):vs= [.int k<|oH d]/\(Lit.int k<|oH d).wf=true:=by
 cases fuel with
 | zero=>exact hf.elim
 | succ fuel=>
  unfold Fit at hf;rw[hu] at hf;obtain⟨n,rfl⟩:=hf;unfold dH at j;rw[hu] at j;obtain⟨_,m,rfl⟩:=j;exact⟨Z,m⟩
theorem Qa {fuel:Nat} {t:TypeId} {d:DataW H_} {vs:List U} (hu:P.underlying t=some .string) (hf:Fit P fuel t d) (j:dH P V fuel t d vs):vs= [.str<|PF d]:=by
 cases fuel with
 | zero=>exact hf.elim
 | succ fuel=>
  unfold Fit at hf;rw[hu] at hf;obtain⟨n,rfl,_⟩:=hf;unfold dH at j;rw[hu] at j;exact j.2
theorem Oc {fuel:Nat} {t:TypeId} {d:DataW H_} (hu:P.underlying t=some .string) (hf:Fit P fuel t d):(PF d).length<=9223372036854775807:=by
 cases fuel with
 | zero=>exact hf.elim
 | succ fuel=>
  unfold Fit at hf;rw[hu] at hf;obtain⟨n,rfl,h⟩:=hf;show(n.map UInt8.toNat).length<=_;rw[lM_];exact h
theorem fR {α:Type} {fuel:Nat} {t e:TypeId} {m:Nat} {d:DataW H_} {vs:List U} (F:DataW H_->α) (R:α->List U->Prop) (hu:P.underlying t=some (.slice e)) (hm:P.cellsOf e=m) (h1:1<=m) (w:∀(b:Nat) (o:cD),V.m.get b=some o->b<V.next) (hf:Fit P (fuel+1) t d) (j:dH P V (fuel+1) t d vs)
  (hR:∀x vs,Fit P fuel e x->dH P V fuel e x vs->R (F x) vs):∃v,vs= [v]/\bL (we V) m R ((fz d).map F) v:=by
 unfold Fit at hf;rw[hu] at hf;dsimp only at hf;unfold dH at j;rw[hu] at j;rcases hf with rfl | ⟨elems,spare,rfl,aa⟩
 ·dsimp only at j;exact⟨_,j,.inl ⟨Z,Z⟩⟩
 dsimp only at j;rw[hm] at j;obtain⟨b,c,cells,e',rfl,z,u,A,B,k6⟩:=j h1;refine⟨_,Z,.inr ⟨b,0,c,cells,e',true,by rw[show(fz<|DataW.slice elems spare).map F=elems.map F from Z,lM_],?_,⟨w b _ u,u⟩,?_,?_,fun i x hx=>?_⟩⟩
 ·rw[show(fz<|DataW.slice elems spare).map F=elems.map F from Z,lM_];rcases A with rfl | rfl
  ·exact .inr ⟨_,Z,Nat.le_add_right _ _⟩
  exact .inl Z
 ·rw[show(fz<|DataW.slice elems spare).map F=elems.map F from Z,lM_,B,nA_];exact nR_ _
 ·rw[show(fz<|DataW.slice elems spare).map F=elems.map F from Z,lM_];exact z
 rw[show(fz<|DataW.slice elems spare).map F=elems.map F from Z,gM_,oM_] at hx
 grind
theorem gm {fuel:Nat} {t:TypeId} {fs:Array Field} {d:DataW H_} {vs:List U} {m:Nat} (hu:P.underlying t=some (.struct fs)) (hc:P.cellsOf t=m) (ht:qv P fs.toList 0=some m) (hf:Fit P (fuel+1) t d) (j:dH P V (fuel+1) t d vs):
  vs.length=m/\∀(i:Nat) (f:Field),fs[i]?=some f->Fit P fuel f.type (cO d i)/\dH P V fuel f.type (cO d i) ((vs.drop f.offset).take<|P.cellsOf f.type):=by
 unfold Fit at hf;rw[hu] at hf;dsimp only at hf;obtain⟨parts,rfl,hn,aa⟩:=hf;unfold dH at j
 grind [cO]
theorem bL.zG {α:Type} {K:KP} {m:Nat} {R R':α->List U->Prop} {l:List α} {v:U} (h:bL K m R l v) (j:∀x vs,R x vs->R' x vs):bL K m R' l v:=h.mono (KP.le_refl K) j
theorem eH.up {K:KP}:∀{k:Nat} {x:XE} {vs:List U},eH K k x vs->eH K (k+1) x vs
 | 0,x,_,h=>by cases x;exact h.elim
 | k+1,.mk op num name kids,vs,h=>by
  obtain⟨v,rfl,hk⟩:=h;exact⟨v,Z,hk.zG fun x vs h=>eH.up h⟩
end
theorem Ht {H_:Type} {enc:TypeId×Value->H_} {P:Program} {w w':World} {sp:Nat->Bool} (j:∀r:Nat,r<w.heap.size->w'.heap[r]?=w.heap[r]?) {fuel:Nat} {t:TypeId} {cs:List Value} {x:DataW H_×List MemPlace}
  (h:DataW.trod enc P w 0 sp true fuel t cs=some x):DataW.trod enc P w' 0 sp true fuel t cs=some x:=by
 refine DataW.trod_carry fuel t cs x h fun p hp=>?_
 have hlt:=DataW.trod_lt fuel t cs x h p hp;cases p with
 | cell b off=>
  show w'.cell? ⟨b,off,none⟩=w.cell? ⟨b,off,none⟩;unfold World.cell?;rw[j b hlt]
 | map b=>exact j b hlt
theorem sW {H_:Type} {enc:TypeId×Value->H_} {P:Program} {w w':World} {sp:Nat->Bool} (j:∀r:Nat,r<w.heap.size->w'.heap[r]?=w.heap[r]?):∀{ts:List TypeId} {vs:List Value} {ds:List (DataW H_)} {ps:List MemPlace},
  DataW.TrodAll enc P w 0 sp true ts vs ds ps->DataW.TrodAll enc P w' 0 sp true ts vs ds ps
 | [],[],[],_,h=>h
 | _::_,_::_,_::_,_,⟨p,q,⟨n,h1⟩,m,e⟩=>⟨p,q,⟨n,Ht j h1⟩,sW j m,e⟩
theorem De {H_:Type} {enc:TypeId×Value->H_} {P:Program} (hl:laidOutB P=true) (hm:mapsRowed P=true) (m:((List.range P.types.size).all fun t=>match P.underlying t with | some (.slice e)=>decide (0<P.cellsOf e) | _=>true)=true) {w w':World} (hk:ke w w') {ts:List TypeId} {vs:List Value} {ds:List (DataW H_)} {ps:List MemPlace}
  (hT:(ts.all fun t=>decide (t<P.types.size))=true) (h:DataW.TrodAll enc P w 0 (fun _=>true) true ts vs ds ps) {sp:Nat->Bool} (j:∀p∈ps,sp p.block=true):DataW.TrodAll enc P w' 0 sp true ts vs ds ps:=
 sW hk.same (h.respare (kids_rows hl hm) (slices_full_of P m) (fun t u=>of_decide_eq_true (aE_.1 hT t u)) j)
end Go.Ev
namespace Go.Ev
variable [Env]
open Go.Proofs
set_option maxRecDepth 4000
set_option maxHeartbeats 8000000
theorem Lz {c:Nat} (h:b9 (.ofNat c) 48=true):¬(48<=c/\c<=57):=by have:c<48:=bc (b:=48) h;omega
theorem Ly {c:Nat} (h:b9 57 (.ofNat c)=true):¬(48<=c/\c<=57):=by have:57<c:=bc (a:=57) h;omega
theorem qZ {c:Nat} (h:b9 (.ofNat c) 48=false) (h':b9 57 (.ofNat c)=false):48<=c/\c<=57:=by have:48<=c:=bA (b:=48) h;have:c<=57:=bA (a:=57) h';omega
theorem AZ {s:List Nat} (h:s.length=0∨4<s.length∨(1<s.length/\s[0]?=some 48)):ld s=none:=by unfold ld;rw[if_pos h]
theorem nY {s:List Nat} (h:¬(s.length=0∨4<s.length∨(1<s.length/\s[0]?=some 48))):ld s=sX s 0:=by unfold ld;rw[if_neg h]
theorem Lm:∀i,i<=4->10 ^ i<=10000:=by decide
def P7 (h:oo):List U:=[.bool h.qY,.bool h.loc,.bool h.order,.bool h.to,.int .i64 (.ofNat h.exprs)]
def N9:List U:=oU.flatMap P7
structure O0 (G:Cx) (K:KP):Prop where
 gl:Nat.ble 1 G.gl=true
 sh:∃e ro,K (posOf 0) (.row N9 e ro)
theorem O0.mono {G:Cx} {K K':KP} (h:O0 G K) (hk:KP.le K K'):O0 G K':=⟨h.gl,let ⟨e,ro,j⟩:=h.sh;⟨e,ro,hk _ _ j⟩⟩
abbrev gZ (n:Int):U:=.int .i64 n
abbrev vi (bk pr:Nat) (tk:List Bool) (p:List Int) (L:Own):Own:=(bk,.row (tk.map gB) 95 false)::(pr,.row (p.map gZ) 3 false)::L
theorem Mi {t:Nat} (h1:1<=t) (h:t<=1000):wr .i64 (Int.sub (.ofNat t) 1)= .ofNat (t-1):=by
 obtain⟨s,rfl⟩:∃s,t=s+1:=⟨t-1,by omega⟩;exact gW oM
theorem LF {tk:List Bool} {i:Nat} (h:tk[i]?=some false):(tk.set i true).set i false=tk:=by
 refine List.ext_getElem? fun j=>?_
 by_cases e:i=j
 ·subst e;have hl:=(gA.1 h).1;rw[List.getElem?_set_self (by rw[List.length_set];exact hl),h]
 rw[List.getElem?_set_ne e,List.getElem?_set_ne e]
theorem Qh {G:Cx} (hG:Plain G) {K:KP} {n m:Nat} {l:List XC} {lv cv:U} {cls:List Int} (hl:bL K 2 (lW K m) l lv) (a9:l.length=n) (bb:n<=4) (hc:bL K 1 eu cls cv) (bd:cls.length=n+1)
  {pl py pp pc pT:U} {b M w:Nat} (R:eL K pl [lv]) (a0:eL K py [.yield b]) (S:eL K pp [.slice M 0 n (.known n)]) (aa:eL K pc [cv]) (a1:eL K pT [.func 42 [] [pl,py,pp,.ptr w 0,pc,pT]])
  {I:List (List Int)->Own->Prop} (hY:∀(acc:List (List Int)) (p:List Int) (tk:List Bool) (L:Own) (V:aE),I acc L->acc.length+1<=256->p.length=n->D V K (vi w M tk p L)->mN Tryz.prog G b [.slice M 0 n (.known n)] V fun v V'=>v= .bool true/\∃L',I (acc++[p]) L'/\D V' K (vi w M tk p L')):
  ∀(f th:Nat) (tk:List Bool) (p:List Int) (acc:List (List Int)) (L:Own) (V:aE),th+f=n+1->1<=th->p.length=n->tk.length=5->I acc L->acc.length+n ^ f<=256->D V K (vi w M tk p L)->
   bu Tryz.prog G 42 [.int .i64 (.ofNat th),pl,py,pp,.ptr w 0,pc,pT] V fun v V'=>v= .bool true/\∃L',I (acc++(jV cls n f th tk p).1) L'/\D V' K (vi w M tk (jV cls n f th tk p).2 L'):=by
 intro f;induction f with
 | zero=>
  intro th tk p acc L V a2 ht hp ab T hb ar;refine bn hG Tryz.func42 Z (t:=((((((PT.leaf.put (some (.int .i64 (.ofNat th))) 0).put (some (pl)) 1).put (some (py)) 2).put (some (pp)) 3).put (some (.ptr w 0)) 4).put (some (pc)) 5).put (some (pT)) 6) (by rfl) ?_;refine al ?_;refine ah Z ?_;refine Y Z (ak Z) Z ?_;refine af ?_;refine ad ?_;refine al ?_;refine al ?_;refine ah Z ?_;refine Y Z (aq Z) Z ?_;refine Y Z (aN ar R Z O Z) Z ?_;refine Y Z (aZ hl Z Z Z (e:=55) O Z) Z ?_;refine Y Z (ax Z Z Z) Z ?_;refine af ?_;refine ad ?_;refine aD Z (fun A=>?_) (fun A=>?_)
  ·refine al ?_;refine ah Z ?_;refine Y Z (aN ar a0 Z O Z) Z ?_;refine Y Z (aN ar S Z O Z) Z ?_;refine NI Z (Ou Z Z Z) (fun _=>Z) (hY acc p tk L _ T hb hp ar) ?_;rintro _ V ⟨rfl,L2,T,ar⟩;refine Y Z (ak Z) Z ?_;refine af ?_;refine ad ?_;refine aF ?_;refine aA (?_);exact aB Z Z ⟨Z,L2,T,ar⟩
  exact absurd (bA A) oM
 | succ f ih=>
  intro th tk p acc L V a2 ht hp ab T hb ar;refine bn hG Tryz.func42 Z (t:=((((((PT.leaf.put (some (.int .i64 (.ofNat th))) 0).put (some (pl)) 1).put (some (py)) 2).put (some (pp)) 3).put (some (.ptr w 0)) 4).put (some (pc)) 5).put (some (pT)) 6) (by rfl) ?_;refine al ?_;refine ah Z ?_;refine Y Z (ak Z) Z ?_;refine af ?_;refine ad ?_;refine al ?_;refine al ?_;refine ah Z ?_;refine Y Z (aq Z) Z ?_;refine Y Z (aN ar R Z O Z) Z ?_;refine Y Z (aZ hl Z Z Z (e:=55) O Z) Z ?_;refine Y Z (ax Z Z Z) Z ?_;refine af ?_;refine ad ?_;refine aD Z (fun A=>?_) (fun A=>?_)
  ·exact absurd (bc A) oM
  refine aG ?_;refine ad ?_;refine al ?_;refine al ?_;refine ah Z ?_;refine Y Z (ak Z) Z ?_;refine af ?_;refine ad ?_;refine aJ ?_;refine bf [8,9,10,18,19,20,21,22,23,24,25,26,27,28,29,30,31,32,33,34,35,36,37,38,39,40,41,42,43,44,45,46,47,48,49,50,51,52] (fun j t V=>∃(i:Nat) (Q:Own),(I (acc++(fZ cls n f th tk p i).1) Q/\j+i=n)/\t.get 9=some (.int .i64 (.ofNat (i+1)))/\D V K (vi w M tk (fZ cls n f th tk p i).2 Q)) (n) ⟨0,L,⟨by rw[sL,List.append_nil];exact T,Z⟩,Z,ar⟩ ?_;clear ar;intro j4 t V an T;obtain⟨i,Q,⟨hI1,be⟩,W,ar⟩:=T;replace an:=an.bH Z Z;obtain⟨o8,o9,bi,bk,bl,bm,bo,bp,an⟩:=an;replace an:=an.bH Z Z;obtain⟨bq,br,bs,bt,bv,bw,b0,b3,an⟩:=an;replace an:=an.bH Z Z;obtain⟨b4,b5,b6,b7,b8,ca,cb,cc,an⟩:=an;replace an:=an.bH Z Z;obtain⟨ce,cg,ch,ci,cj,ck,cn,cp,an⟩:=an;replace an:=an.jD Z;obtain⟨cr,cs,cw,cx,an⟩:=an;replace an:=an.dz Z;obtain⟨cy,an⟩:=an;replace an:=an.dz Z;obtain⟨c0,an⟩:=an;obtain rfl:=an.nil;clear an;replace W:o9=some _:=W;subst W;refine al ?_;refine al ?_;refine ah Z ?_;refine Y Z (aq Z) Z ?_;refine Y Z (aN ar R Z O Z) Z ?_;refine Y Z (aZ hl Z Z Z (e:=55) O Z) Z ?_;refine Y Z (ax Z Z Z) Z ?_;refine af ?_;refine ad ?_;refine aD Z (fun u=>?_) (fun u=>?_)
  ·refine aG ?_;refine ad ?_;refine al ?_;refine aJ ?_;refine al ?_;refine al ?_;refine aU (l:=[(0,[]),(1,[]),(2,[]),(3,[]),(4,[]),(5,[]),(6,[]),(7,[]),(8,[]),(9,[]),(10,[]),(11,[]),(12,[]),(13,[])]) O O ?_;refine ai Z Z (aq Z) Z ?_;have a3:i+1<=n:=by have:=bA (bW u);omega
   obtain⟨xk,B⟩:=cL (show i+1<tk.length by omega);have a4:(fZ cls n f th tk p i).2.length=n:=by rw[IV];exact hp
   refine ai Z Z (ft (n:=5) (e:=4) (m:=1) O O Z Z oM) Z ?_;refine ai Z Z (aw Z (ar.get 0 Z) O<|jP B (by first | omega | rfl)) Z ?_;refine eg Z Z (aq Z) (fun _=>Z) (fun C=>?_) (fun C=>?_)
   ·refine au Z Z Z ?_;refine au Z Z Z ?_;refine au Z Z Z ?_;refine au Z Z Z ?_;refine au Z Z Z ?_;refine au Z Z Z ?_;refine au Z Z Z ?_;refine au Z Z Z ?_;refine au Z Z Z ?_;refine ai Z Z (ay Z Z) Z ?_;refine aX ?_;refine ad ?_;refine aM Z ?_;refine bg ?_;refine aO ?_;refine aL ?_;refine ad ?_;refine ah Z ?_;refine Y Z (aq Z) Z ?_;refine Y Z (ax Z Z Z) Z ?_;refine Y Z (ak Z) Z ?_;refine af ?_;have hE:=mG (cls:=cls) (f:=f) (t:=th) (p:=p) (n:=n) (i:=i) (tk:=tk) (by rw[B,show xk=true from C];rfl);replace ar:D V K (vi w M tk (fZ cls n f th tk p (i+1)).2 Q):=by rw[hE];exact ar
    refine aH ⟨j4-1,(by have:=bA (bW u);omega),(by(iterate 59 refine aT.put Z ?_);exact aT.refl _ _),i+1,Q,⟨by rw[hE];exact hI1,by omega⟩,congrArg (fun z=>some (U.int .i64 z))<|aW oM,ar⟩
   refine ai Z Z (aN ar aa Z O Z) Z ?_;refine ai Z Z (aq Z) Z ?_;obtain⟨c1,E⟩:=cL (show i+1<cls.length by omega);refine bV (e:=3) (m:=1) hc E Z Z Z O O Z Z (fun _=>Z) (fun c2 a5 ac a6 am=>?_);obtain rfl:=am;refine ai Z Z (aN ar ac Z O Z) Z ?_;refine ai Z Z (aN ar aa Z O Z) Z ?_;refine ai Z Z (aq Z) Z ?_;obtain⟨c3,F⟩:=cL (show th<cls.length by omega);refine bV (e:=3) (m:=1) hc F Z Z Z O O Z Z (fun _=>Z) (fun c4 a7 ao a8 ap=>?_);obtain rfl:=ap;refine ai Z Z (aN ar ao Z O Z) Z ?_;refine ai Z Z (ax Z Z Z) Z ?_;refine ai Z Z (ay Z Z) Z ?_;refine aX ?_;refine ad ?_;refine aD Z (fun X=>?_) (fun X=>?_)
   ·refine bg ?_;refine aO ?_;refine aL ?_;refine ad ?_;refine ah Z ?_;refine Y Z (aq Z) Z ?_;refine Y Z (ax Z Z Z) Z ?_;refine Y Z (ak Z) Z ?_;refine af ?_;have hE:=mG (cls:=cls) (f:=f) (t:=th) (p:=p) (n:=n) (i:=i) (tk:=tk) (by rw[B,show xk=false from C,E,F];exact X);replace ar:D V K (vi w M tk (fZ cls n f th tk p (i+1)).2 Q):=by rw[hE];exact ar
    refine aH ⟨j4-1,(by have:=bA (bW u);omega),(by(iterate 59 refine aT.put Z ?_);exact aT.refl _ _),i+1,Q,⟨by rw[hE];exact hI1,by omega⟩,congrArg (fun z=>some (U.int .i64 z))<|aW oM,ar⟩
   refine aG ?_;refine ad ?_;refine al ?_;refine aU (l:=[(0,[]),(1,[]),(2,[]),(3,[]),(4,[]),(5,[]),(6,[1]),(7,[]),(8,[])]) O O ?_;refine ai Z Z (aq Z) Z ?_;refine ai Z Z (aN ar S Z O Z) Z ?_;refine ai Z Z (aq Z) Z ?_;refine ai Z Z (ax (v:=.int .i64 (.ofNat (th-1))) Z Z<|congrArg (fun z=>some (U.int .i64 z))<|Mi ht oM) Z ?_;refine ai Z Z (aq Z) Z ?_;refine ai Z Z (ft (n:=5) (e:=4) (m:=1) O O Z Z oM) Z ?_;refine gD ar .here Z Z (aR Z Z Z (ar.get 0 Z) (m:=1) O Z (by rw[lM_];omega) (aj Z aI) (cells':=((tk).set (i+1) true).map (gB))<|eK (f:=gB) (v:=true) oM (by first | omega | rfl)) Z (fun V ar=>?_);refine⟨(bx (bC Z Z Z Z Z (aN ar S Z O Z)<|qD _ _ _ _) ba),?_⟩;refine ai Z Z (fS (e:=3) (m:=1) O O Z Z oM) Z ?_;refine gD ar (.there .here) Z Z (aR Z Z Z (ar.get 1 Z) (m:=1) O Z (by rw[lM_];omega) (aj Z aI) (cells':=(((fZ cls n f th tk p i).2).set (th-1) (.ofNat (i+1))).map (gZ)) (eK (f:=gZ) (v:=(.ofNat (i+1))) oM (by first | omega | rfl))) Z (fun V ar=>?_);refine⟨ba,?_⟩;refine aX ?_;refine ad ?_;refine al ?_;refine ah Z ?_;refine Y Z (aN ar a1 Z O Z) Z ?_;refine Y Z (aq Z) Z ?_;refine Y Z (ax (v:=.int .i64 (.ofNat (th+1))) Z Z<|congrArg (fun z=>some (U.int .i64 z))<|aW oM) Z ?_;refine cM Z (aV Z Z Z O) (fun _=>Z) (ih (th+1) (tk.set (i+1) true) ((fZ cls n f th tk p i).2.set (th-1) (.ofNat (i+1))) (acc++(fZ cls n f th tk p i).1) Q _ oM oM (by rw[List.length_set];exact a4) (by rw[List.length_set];exact ab) hI1 (by rw[lA_];exact IX a3 hb) ar) ?_;rintro _ V ⟨rfl,L2,hI2,ar⟩;refine Y Z (ak Z) Z ?_;refine af ?_;refine ad ?_;refine al ?_;refine ah Z ?_;refine Y Z (aq Z) Z ?_;refine Y Z (ft (n:=5) (e:=4) (m:=1) O O Z Z oM) Z ?_;refine dX ar .here Z (aR Z Z Z (ar.get 0 Z) (m:=1) O Z (by rw[lM_];rw[List.length_set];omega) (aj Z aI) (cells':=((tk.set (i+1) true).set (i+1) false).map (gB))<|eK (f:=gB) (v:=false) (by rw[List.length_set];omega) (by first | omega | rfl)) Z (fun V ar=>?_);rw[LF (by rw[B,show xk=false from C])] at ar;refine af ?_;refine ad ?_;refine al ?_;refine ah Z ?_;refine Y Z (aq Z) Z ?_;refine Y Z (da Z) Z ?_;refine af ?_;refine ad ?_;refine aQ Z ?_;refine aG ?_;refine aC ?_;refine ad ?_;refine ah Z ?_;refine Y Z (aq Z) Z ?_;refine Y Z (ax Z Z Z) Z ?_;refine Y Z (ak Z) Z ?_;refine af ?_;have hE:=tS (f:=f) (p:=p) (n:=n) (show(bif (tk[i+1]?).getD false then true else bh (H ((cls[i+1]?).getD 0) ((cls[th]?).getD 0)))=false by rw[B,show xk=false from C,E,F];exact X)
   replace ar:D V K (vi w M tk (fZ cls n f th tk p (i+1)).2 L2):=by rw[hE];exact ar
   refine aH ⟨j4-1,(by have:=bA (bW u);omega),(by(iterate 75 refine aT.put Z ?_);exact aT.refl _ _),i+1,L2,⟨by rw[hE,<-lQ_];exact hI2,by omega⟩,congrArg (fun z=>some (U.int .i64 z))<|aW oM,ar⟩
  refine bg ?_;refine aO ?_;refine aS ?_;refine aL ?_;refine ad ?_;refine al ?_;refine ah Z ?_;refine Y Z (ak Z) Z ?_;refine af ?_;refine ad ?_;refine aF ?_;have hi:fZ cls n f th tk p n=fZ cls n f th tk p i:=by rw[show i=n by have:=bc (bK u);omega]
  exact aB Z Z ⟨Z,Q,by rw[Bn,hi];exact hI1,by rw[Bn,hi];exact ar⟩
theorem Ix {α:Type} (a b c d e:α) (L:List α):(a::b::c::d::e::L).Perm (a::c::e::b::d::L):=.cons a ((List.Perm.swap c b _).trans (.cons c<|GJ b d e L))
theorem eL.one {K:KP} {b e:Nat} {v:U} {ro:Bool} (hk:K b (.row [v] e ro)):eL K (.ptr b 0) [v]:=⟨b,0,[v],e,ro,Z,hk,nR_ _,Z⟩
theorem Qf {G:Cx} (F:Plain G) {K:KP} {m:Nat} {l:List XC} {lv cv:U} {cls:List Int} (hl:bL K 2 (lW K m) l lv) (j:l.length<=4) (hc:bL K 1 eu cls cv) (B:cls.length=l.length+1)
  {pl pc:U} {b:Nat} (A:eL K pl [lv]) (C:eL K pc [cv])
  {I:List (List Int)->Own->Prop} (W:∀(K':KP) (M:Own) (acc:List (List Int)) (p:List Int) (u:Nat) (L:Own) (V:aE),KP.le K K'->I acc L->acc.length+1<=256->p.length=l.length->D V K' (M++(u,.row (p.map gZ) 3 false)::L)->mN Tryz.prog G b [.slice u 0 l.length (.known l.length)] V fun v V'=>v= .bool true/\∃L',I (acc++[p]) L'/\D V' K' (M++(u,.row (p.map gZ) 3 false)::L'))
  {L:Own} (E:I [] L) {V:aE} (ar:D V K L):
  bu Tryz.prog G 41 [.yield b,pl,pc] V fun _ V'=>∃L',I (yc l cls) L'/\D V' K L':=by
 refine bn F Tryz.func41 Z (t:=((PT.leaf.put (some (.yield b)) 0).put (some (pl)) 1).put (some (pc)) 2) (by rfl) ?_;refine al ?_;refine ah Z ?_;refine bG ar Z (cC Z Z) (fun _=>Z) (fun V u ar=>?_);refine af ?_;refine ad ?_;refine al ?_;refine ah Z ?_;refine Y Z (aN ar A Z O Z) Z ?_;refine Y Z (aZ hl Z Z Z (e:=55) O Z) Z ?_;refine fe ar Z (lM (e:=3) (w:=8) (z:=[gZ 0]) O O O O Z Z oM oM) (fun _=>Z) (fun V Q ar=>?_);rw[jk (f:=gZ)] at ar;refine bG ar Z (cQ (cs:=[.az]) O O) (fun _=>Z) (fun V R ar=>?_);refine bZ ar Z (aR Z Z Z (ar.get 0 Z) (m:=1) O Z (Nat.le_of_ble_eq_true Z) (aj Z aI) (cells':=[_]) Z) Z (fun V ar=>?_);refine af ?_;refine ad ?_;refine al ?_;refine ah Z ?_;refine bG ar Z (cQ (cs:=[.bool false,.bool false,.bool false,.bool false,.bool false]) O O) (fun _=>Z) (fun V S ar=>?_);refine af ?_;refine ad ?_;refine al ?_;refine ah Z ?_;refine bG ar Z (cQ (cs:=[.nilFunc]) O O) (fun _=>Z) (fun V T ar=>?_);refine af ?_;refine ad ?_;refine al ?_;refine ah Z ?_;refine Y Z (bU Z Z) Z ?_;refine bZ ar Z (aR Z Z Z (ar.get 0 Z) (m:=1) O Z (Nat.le_of_ble_eq_true Z) (aj Z aI) (cells':=[_]) Z) Z (fun V ar=>?_);refine af ?_;refine ad ?_;refine ah Z ?_;refine Y Z (aw Z (ar.get 0 Z) O Z) Z ?_;replace ar:=(ar.perm<|Ix ..).jE.jE.jE;have hK:=KP.le_trans (KP.pU K T (.row [.func 42 [] [pl,.ptr u 0,.ptr R 0,.ptr S 0,pc,.ptr T 0]] 96 false)) (KP.le_trans (KP.pU _ R (.row [.slice Q 0 l.length (.known l.length)] 36 false))<|KP.pU _ u (.row [.yield b] 84 false));refine cM Z (aV Z Z Z O) (fun _=>Z) (Qh F (hl.mono hK fun _ _ h=>h.mono hK) Z j (hc.mono hK fun _ _ h=>h) B (A.mono hK) (.one (.inr ⟨Z,Z⟩)) (.one (.inl (.inr ⟨Z,Z⟩))) (C.mono hK) (.one (.inl (.inl (.inr ⟨Z,Z⟩)))) (I:=I) (fun acc p tk L V E hb hp ar=>W _ [(S,.row (tk.map gB) 95 false)] acc p Q L V hK E hb hp ar) l.length 1 (List.replicate 5 false) (List.replicate l.length 0) [] L _ oM (nR_ _) (by simp) Z E (by rw[show([]:List (List Int)).length=0 from Z,nA_];exact Nat.le_trans (Nat.pow_le_pow_left j _)<|Nat.pow_le_pow_right oM j) ar) ?_;rintro _ V ⟨rfl,X,hI2,ar⟩;refine af ?_;exact Cj Z ⟨X,hI2,(ar.pop.pop).weaken hK⟩
theorem tW {G:Cx} (hG:Plain G) {K:KP} {k1 k2:Nat} {l1 l2:List XE} {v1 v2:U} {V:aE} {L:Own} (ar:D V K L) (h1:bL K 4 (eH K k1) l1 v1) (h2:bL K 4 (eH K k2) l2 v2)
  (Q:∀x y vx vy V L,D V K L->eH K k1 x vx->eH K k2 y vy->bu Tryz.prog G 81 [.agg vx,.agg vy] V fun v V'=>v= .bool (bQ x y)/\D V' K L):
  bu Tryz.prog G 80 [v1,v2,.func 81 [] []] V fun v V'=>v= .bool (bQ l1 l2)/\D V' K L:=by
 refine bn hG Tryz.func80 Z (t:=((PT.leaf.put (some (v1)) 0).put (some (v2)) 1).put (some (.func 81 [] [])) 2) (by rfl) ?_;refine al ?_;refine ah Z ?_;refine Y Z (ak Z) Z ?_;refine af ?_;refine ad ?_;refine al ?_;refine al ?_;refine ah Z ?_;refine Y Z (aq Z) Z ?_;refine Y Z (aZ h1 Z Z Z (e:=91) O Z) Z ?_;refine Y Z (aq Z) Z ?_;refine Y Z (aZ h2 Z Z Z (e:=91) O Z) Z ?_;refine Y Z (ax Z Z Z) Z ?_;refine af ?_;refine ad ?_;refine aD Z (fun w=>?_) (fun w=>?_)
 ·refine al ?_;refine ah Z ?_;refine Y Z (ak Z) Z ?_;refine af ?_;refine ad ?_;refine aF ?_;refine aA (?_);exact aB Z Z ⟨by first | rw[eE<|bW w] | rw[eR A B (by simpa using C)] | rw[dS (dC<|bK w) (bA E) u],ar⟩
 refine aG ?_;refine ad ?_;refine al ?_;refine al ?_;refine ah Z ?_;refine Y Z (aq Z) Z ?_;refine Y Z (aZ h1 Z Z Z (e:=91) O Z) Z ?_;refine Y Z (aq Z) Z ?_;refine af ?_;refine ad ?_;refine aJ ?_;obtain⟨LL1,ar,hLL1⟩:=ar.named;refine bf [6,7,8,9,17,18,19,20,21,22,23,24,25,26,27,28,29,30,31] (fun j t V=>∃(i:Nat),j+i=l1.length/\(∀k,k<i->l1[k]?=l2[k]?)/\t.get 17=some (.int .i64 (.ofNat i))/\D V K LL1) (l1.length) ⟨0,Z,fun k hk=>absurd hk (nZ_ _),Z,ar⟩ ?_;clear ar;intro j4 t V an hI;obtain⟨i,hj,u,F,ar⟩:=hI;subst hLL1;replace an:=an.bH Z Z;obtain⟨o6,o7,o8,o9,aa,a1,a2,ab,an⟩:=an;replace an:=an.bH Z Z;obtain⟨a3,a4,a5,ac,a6,a7,a8,a9,an⟩:=an;replace an:=an.dz Z;obtain⟨bb,an⟩:=an;replace an:=an.dz Z;obtain⟨bd,an⟩:=an;replace an:=an.dz Z;obtain⟨be,an⟩:=an;obtain rfl:=an.nil;clear an;replace F:aa=some _:=F;subst F;refine al ?_;refine ah Z ?_;refine Y Z (ax Z Z Z) Z ?_;refine af ?_;refine ad ?_;refine al ?_;refine aD Z (fun E=>?_) (fun E=>?_)
 ·refine aG ?_;refine ad ?_;refine al ?_;refine aJ ?_;refine al ?_;refine ah Z ?_;refine Y Z (aq Z) Z ?_;obtain⟨bi,A,R⟩:=cK E;refine bT (e:=91) (m:=4) h1 A Z Z O O Z Z (fun _=>Z) (fun bk am S ao I=>?_);obtain⟨ab,bl,bm,bo,rfl,T⟩:=I.shape;refine Y Z (bN ar S Z O Z) Z ?_;refine bG ar Z (cQ (cs:=[.int .i64 0,.int .i64 0,.str [],.az]) O O) (fun _=>Z) (fun V b1 ar=>?_);refine Y Z (ak Z) Z ?_;refine bZ ar Z (aR Z Z Z (ar.get 0 Z) (m:=4) O Z (Nat.le_of_ble_eq_true Z) (aj Z<|aj Z<|aj Z<|aj T.leaf.2 aI) (cells':=[_,_,_,_]) Z) Z (fun V ar=>?_);refine af ?_;refine ad ?_;refine al ?_;refine ah Z ?_;refine Y Z (aq Z) Z ?_;refine Y Z (aq Z) Z ?_;obtain⟨bp,B⟩:=cL (show _<l2.length from by rw[<-dC (bK w)];exact R);refine bT (e:=91) (m:=4) h2 B Z Z O O Z Z (fun _=>Z) (fun bq ap W a0 M=>?_);obtain⟨ac,br,bs,bt,rfl,X⟩:=M.shape;refine Y Z (bN ar W Z O Z) Z ?_;refine bG ar Z (cQ (cs:=[.int .i64 0,.int .i64 0,.str [],.az]) O O) (fun _=>Z) (fun V b2 ar=>?_);refine bZ ar Z (aR Z Z Z (ar.get 0 Z) (m:=4) O Z (Nat.le_of_ble_eq_true Z) (aj Z<|aj Z<|aj Z<|aj X.leaf.2 aI) (cells':=[_,_,_,_]) Z) Z (fun V ar=>?_);refine af ?_;refine ad ?_;refine al ?_;refine ah Z ?_;refine Y Z (aq Z) Z ?_;refine Y Z (aY Z (ar.get 1 Z) (n:=4) (vs:=[_,_,_,_]) O (Nat.le_of_ble_eq_true Z) Z) Z ?_;refine Y Z (aY Z (ar.get 0 Z) (n:=4) (vs:=[_,_,_,_]) O (Nat.le_of_ble_eq_true Z) Z) Z ?_;refine bz Z (aV Z Z Z O) (fun _=>Z) (Q _ _ _ _ _ _ ar I M) (fun V ar=>?_);refine Y Z (da Z) Z ?_;refine af ?_;refine ad ?_;refine aD Z (fun C=>?_) (fun C=>?_)
  ·refine al ?_;refine ah Z ?_;refine Y Z (ak Z) Z ?_;refine af ?_;refine ad ?_;refine aF ?_;refine aK<|aA<|bD<|aK<|aA (?_);exact aB Z Z ⟨by first | rw[eE<|bW w] | rw[eR A B (by simpa using C)] | rw[dS (dC<|bK w) (bA E) u],ar.pop.pop⟩
  refine aG ?_;refine aC ?_;refine ad ?_;refine ah Z ?_;refine Y Z (ax Z Z Z) Z ?_;refine Y Z (aq Z) Z ?_;refine af ?_;have ar:=ar.pop;have ar:=ar.pop;refine aH ⟨j4-1,by omega,(by(iterate 37 refine aT.put Z ?_);exact aT.refl _ _),i+1,by omega,iC u A B (by simpa using C),congrArg (fun z=>some (U.int .i64 z))<|aW (by have:=h1.bO;omega),ar⟩
 refine bg ?_;refine aO ?_;refine aS ?_;refine aL ?_;refine ad ?_;refine al ?_;refine ah Z ?_;refine Y Z (ak Z) Z ?_;refine af ?_;refine ad ?_;refine aF ?_;exact aB Z Z ⟨by first | rw[eE<|bW w] | rw[eR A B (by simpa using C)] | rw[dS (dC<|bK w) (bA E) u],ar⟩
theorem Br {G:Cx} (hG:Plain G) {K:KP} {k1 k2:Nat} {l1 l2:List XI} {v1 v2:U} {V:aE} {L:Own} (ar:D V K L) (h1:bL K 6 (j0 K k1) l1 v1) (h2:bL K 6 (j0 K k2) l2 v2)
  (Q:∀x y vx vy V L,D V K L->j0 K k1 x vx->j0 K k2 y vy->bu Tryz.prog G 58 [.agg vx,.agg vy] V fun v V'=>v= .bool (bQ x y)/\D V' K L):
  bu Tryz.prog G 57 [v1,v2,.func 58 [] []] V fun v V'=>v= .bool (bQ l1 l2)/\D V' K L:=by
 refine bn hG Tryz.func57 Z (t:=((PT.leaf.put (some (v1)) 0).put (some (v2)) 1).put (some (.func 58 [] [])) 2) (by rfl) ?_;refine al ?_;refine ah Z ?_;refine Y Z (ak Z) Z ?_;refine af ?_;refine ad ?_;refine al ?_;refine al ?_;refine ah Z ?_;refine Y Z (aq Z) Z ?_;refine Y Z (aZ h1 Z Z Z (e:=88) O Z) Z ?_;refine Y Z (aq Z) Z ?_;refine Y Z (aZ h2 Z Z Z (e:=88) O Z) Z ?_;refine Y Z (ax Z Z Z) Z ?_;refine af ?_;refine ad ?_;refine aD Z (fun w=>?_) (fun w=>?_)
 ·refine al ?_;refine ah Z ?_;refine Y Z (ak Z) Z ?_;refine af ?_;refine ad ?_;refine aF ?_;refine aA (?_);exact aB Z Z ⟨by first | rw[eE<|bW w] | rw[eR A B (by simpa using C)] | rw[dS (dC<|bK w) (bA E) u],ar⟩
 refine aG ?_;refine ad ?_;refine al ?_;refine al ?_;refine ah Z ?_;refine Y Z (aq Z) Z ?_;refine Y Z (aZ h1 Z Z Z (e:=88) O Z) Z ?_;refine Y Z (aq Z) Z ?_;refine af ?_;refine ad ?_;refine aJ ?_;obtain⟨LL1,ar,hLL1⟩:=ar.named;refine bf [6,7,8,9,17,18,19,20,21,22,23,24,25,26,27,28,29,30,31] (fun j t V=>∃(i:Nat),j+i=l1.length/\(∀k,k<i->l1[k]?=l2[k]?)/\t.get 17=some (.int .i64 (.ofNat i))/\D V K LL1) (l1.length) ⟨0,Z,fun k hk=>absurd hk (nZ_ _),Z,ar⟩ ?_;clear ar;intro j4 t V an hI;obtain⟨i,hj,u,F,ar⟩:=hI;subst hLL1;replace an:=an.bH Z Z;obtain⟨o6,o7,o8,o9,aa,ap,a0,a1,an⟩:=an;replace an:=an.bH Z Z;obtain⟨a2,a3,a4,a5,a6,a7,a8,a9,an⟩:=an;replace an:=an.dz Z;obtain⟨bb,an⟩:=an;replace an:=an.dz Z;obtain⟨bd,an⟩:=an;replace an:=an.dz Z;obtain⟨be,an⟩:=an;obtain rfl:=an.nil;clear an;replace F:aa=some _:=F;subst F;refine al ?_;refine ah Z ?_;refine Y Z (ax Z Z Z) Z ?_;refine af ?_;refine ad ?_;refine al ?_;refine aD Z (fun E=>?_) (fun E=>?_)
 ·refine aG ?_;refine ad ?_;refine al ?_;refine aJ ?_;refine al ?_;refine ah Z ?_;refine Y Z (aq Z) Z ?_;obtain⟨bi,A,R⟩:=cK E;refine bT (e:=88) (m:=6) h1 A Z Z O O Z Z (fun _=>Z) (fun bk ab S ac I=>?_);have hr20':=I;obtain⟨bl,rfl,T⟩:=hr20';refine Y Z (bN ar S Z O Z) Z ?_;refine bG ar Z (cQ (cs:=[.int .i64 0,.int .i64 0,.int .i64 0,.int .i64 0,.int .i64 0,.az]) O O) (fun _=>Z) (fun V b1 ar=>?_);refine Y Z (ak Z) Z ?_;refine bZ ar Z (aR Z Z Z (ar.get 0 Z) (m:=6) O Z (Nat.le_of_ble_eq_true Z) (aj Z<|aj Z<|aj Z<|aj Z<|aj Z<|aj T.leaf.2 aI) (cells':=[_,_,_,_,_,_]) Z) Z (fun V ar=>?_);refine af ?_;refine ad ?_;refine al ?_;refine ah Z ?_;refine Y Z (aq Z) Z ?_;refine Y Z (aq Z) Z ?_;obtain⟨bm,B⟩:=cL (show _<l2.length from by rw[<-dC (bK w)];exact R);refine bT (e:=88) (m:=6) h2 B Z Z O O Z Z (fun _=>Z) (fun bo am W ao M=>?_);have hr24':=M;obtain⟨bp,rfl,X⟩:=hr24';refine Y Z (bN ar W Z O Z) Z ?_;refine bG ar Z (cQ (cs:=[.int .i64 0,.int .i64 0,.int .i64 0,.int .i64 0,.int .i64 0,.az]) O O) (fun _=>Z) (fun V b2 ar=>?_);refine bZ ar Z (aR Z Z Z (ar.get 0 Z) (m:=6) O Z (Nat.le_of_ble_eq_true Z) (aj Z<|aj Z<|aj Z<|aj Z<|aj Z<|aj X.leaf.2 aI) (cells':=[_,_,_,_,_,_]) Z) Z (fun V ar=>?_);refine af ?_;refine ad ?_;refine al ?_;refine ah Z ?_;refine Y Z (aq Z) Z ?_;refine Y Z (aY Z (ar.get 1 Z) (n:=6) (vs:=[_,_,_,_,_,_]) O (Nat.le_of_ble_eq_true Z) Z) Z ?_;refine Y Z (aY Z (ar.get 0 Z) (n:=6) (vs:=[_,_,_,_,_,_]) O (Nat.le_of_ble_eq_true Z) Z) Z ?_;refine bz Z (aV Z Z Z O) (fun _=>Z) (Q _ _ _ _ _ _ ar I M) (fun V ar=>?_);refine Y Z (da Z) Z ?_;refine af ?_;refine ad ?_;refine aD Z (fun C=>?_) (fun C=>?_)
  ·refine al ?_;refine ah Z ?_;refine Y Z (ak Z) Z ?_;refine af ?_;refine ad ?_;refine aF ?_;refine aK<|aA<|bD<|aK<|aA (?_);exact aB Z Z ⟨by first | rw[eE<|bW w] | rw[eR A B (by simpa using C)] | rw[dS (dC<|bK w) (bA E) u],ar.pop.pop⟩
  refine aG ?_;refine aC ?_;refine ad ?_;refine ah Z ?_;refine Y Z (ax Z Z Z) Z ?_;refine Y Z (aq Z) Z ?_;refine af ?_;have ar:=ar.pop;have ar:=ar.pop;refine aH ⟨j4-1,by omega,(by(iterate 37 refine aT.put Z ?_);exact aT.refl _ _),i+1,by omega,iC u A B (by simpa using C),congrArg (fun z=>some (U.int .i64 z))<|aW (by have:=h1.bO;omega),ar⟩
 refine bg ?_;refine aO ?_;refine aS ?_;refine aL ?_;refine ad ?_;refine al ?_;refine ah Z ?_;refine Y Z (ak Z) Z ?_;refine af ?_;refine ad ?_;refine aF ?_;exact aB Z Z ⟨by first | rw[eE<|bW w] | rw[eR A B (by simpa using C)] | rw[dS (dC<|bK w) (bA E) u],ar⟩
theorem FR {G:Cx} (C:Plain G) {K:KP}:∀(z w:Nat) (x y:XE) (vx vy:List U),eH K z x vx->eH K w y vy->∀(V:aE) (L:Own),D V K L->bu Tryz.prog G 81 [.agg vx,.agg vy] V fun v V'=>v= .bool (bQ x y)/\D V' K L:=by
 intro z;induction z with
 | zero=>intro w x y vx vy h;cases x;exact h.elim
 | succ z ih=>
 intro w x y vx vy h h' V L ar;cases w with
 | zero=>cases y;exact h'.elim
 | succ w=>
 obtain⟨o1,n1,s1,aa⟩:=x;obtain⟨o2,n2,s2,ab⟩:=y;obtain⟨v1,rfl,A⟩:=h;obtain⟨v2,rfl,B⟩:=h';refine bn C Tryz.func81 Z (t:=(PT.leaf.put (some (.agg _)) 0).put (some (.agg _)) 1) (by rfl) ?_;refine al ?_;refine ah Z ?_;refine bG ar Z (cC Z Z) (fun _=>Z) (fun V b1 ar=>?_);refine bG ar Z (cC Z Z) (fun _=>Z) (fun V b2 ar=>?_);refine Y Z (ak Z) Z ?_;refine af ?_;refine ad ?_;refine al ?_;refine ah Z ?_;refine Y Z (av Z (k:=0) O) Z ?_;refine Y Z (aw Z (ar.get 1 Z) O Z) Z ?_;refine Y Z (av Z (k:=0) O) Z ?_;refine Y Z (aw Z (ar.get 0 Z) O Z) Z ?_;refine Y Z (ax Z Z Z) Z ?_;refine aP Z (aq Z) (fun _=>Z) (fun j=>?_) (fun j=>?_)
 ·refine Y Z (av Z (k:=1) O) Z ?_;refine Y Z (aw Z (ar.get 1 Z) O Z) Z ?_;refine Y Z (av Z (k:=1) O) Z ?_;refine Y Z (aw Z (ar.get 0 Z) O Z) Z ?_;refine Y Z (ax Z Z Z) Z ?_;refine Y Z (ay Z Z) Z ?_;refine aP Z (aq Z) (fun _=>Z) (fun m=>?_) (fun m=>?_)
  ·refine Y Z (av Z (k:=2) O) Z ?_;refine Y Z (aw Z (ar.get 1 Z) O Z) Z ?_;refine Y Z (av Z (k:=2) O) Z ?_;refine Y Z (aw Z (ar.get 0 Z) O Z) Z ?_;refine Y Z (ax Z Z Z) Z ?_;refine Y Z (ay Z Z) Z ?_;refine aP Z (aq Z) (fun _=>Z) (fun u=>?_) (fun u=>?_)
   ·refine Y Z (av Z (k:=3) O) Z ?_;refine Y Z (aw Z (ar.get 1 Z) O Z) Z ?_;refine Y Z (av Z (k:=3) O) Z ?_;refine Y Z (aw Z (ar.get 0 Z) O Z) Z ?_;refine bz Z (aV Z Z Z O) (fun _=>Z) (tW C ar A B (fun x y vx vy V L ar hx E=>ih _ x y vx vy hx E V L ar)) (fun V ar=>?_);refine Y Z (ay Z Z) Z ?_;refine Y Z (ak Z) Z ?_;refine af ?_;refine ad ?_;refine aF ?_;exact aB Z Z ⟨by rw[wC];simp only[j,m,u,Bool.true_and,Bool.false_and],ar.pop.pop⟩
   refine ae Z Z ?_;refine ae Z Z ?_;refine ae Z Z ?_;refine ae Z Z ?_;refine ae Z Z ?_;refine Y Z (ay Z Z) Z ?_;refine Y Z (ak Z) Z ?_;refine af ?_;refine ad ?_;refine aF ?_;exact aB Z Z ⟨by rw[wC];simp only[j,m,u,Bool.true_and,Bool.false_and],ar.pop.pop⟩
  refine ae Z Z ?_;refine ae Z Z ?_;refine ae Z Z ?_;refine ae Z Z ?_;refine ae Z Z ?_;refine Y Z (ay Z Z) Z ?_;refine Y Z (aq Z) Z ?_;refine ae Z Z ?_;refine ae Z Z ?_;refine ae Z Z ?_;refine ae Z Z ?_;refine ae Z Z ?_;refine Y Z (ay Z Z) Z ?_;refine Y Z (ak Z) Z ?_;refine af ?_;refine ad ?_;refine aF ?_;exact aB Z Z ⟨by rw[wC];simp only[j,m,Bool.true_and,Bool.false_and],ar.pop.pop⟩
 refine ae Z Z ?_;refine ae Z Z ?_;refine ae Z Z ?_;refine ae Z Z ?_;refine ae Z Z ?_;refine Y Z (ay Z Z) Z ?_;refine Y Z (aq Z) Z ?_;refine ae Z Z ?_;refine ae Z Z ?_;refine ae Z Z ?_;refine ae Z Z ?_;refine ae Z Z ?_;refine Y Z (ay Z Z) Z ?_;refine Y Z (aq Z) Z ?_;refine ae Z Z ?_;refine ae Z Z ?_;refine ae Z Z ?_;refine ae Z Z ?_;refine ae Z Z ?_;refine Y Z (ay Z Z) Z ?_;refine Y Z (ak Z) Z ?_;refine af ?_;refine ad ?_;refine aF ?_;exact aB Z Z ⟨by rw[wC];simp only[j,Bool.true_and,Bool.false_and],ar.pop.pop⟩
theorem I4 {G:Cx} (A:Plain G) {K:KP} {E F:Nat} {x y:XI} {vx vy:List U} {V:aE} {L:Own} (ar:D V K L) (h:j0 K E x vx) (h':j0 K F y vy):bu Tryz.prog G 58 [.agg vx,.agg vy] V fun v V'=>v= .bool (bQ x y)/\D V' K L:=by
 have h1:=h;have h1':=h';obtain⟨v1,rfl,B⟩:=h1;obtain⟨v2,rfl,C⟩:=h1';refine bn A Tryz.func58 Z (t:=(PT.leaf.put (some (.agg _)) 0).put (some (.agg _)) 1) (by rfl) ?_;refine al ?_;refine ah Z ?_;refine bG ar Z (cC Z Z) (fun _=>Z) (fun V b1 ar=>?_);refine bG ar Z (cC Z Z) (fun _=>Z) (fun V b2 ar=>?_);refine Y Z (ak Z) Z ?_;refine af ?_;refine ad ?_;refine al ?_;refine ah Z ?_;refine Y Z (av Z (k:=0) O) Z ?_;refine Y Z (aw Z (ar.get 1 Z) O Z) Z ?_;refine Y Z (av Z (k:=0) O) Z ?_;refine Y Z (aw Z (ar.get 0 Z) O Z) Z ?_;refine Y Z (ax Z Z Z) Z ?_;refine aP Z (aq Z) (fun _=>Z) (fun j=>?_) (fun j=>?_)
 ·refine Y Z (av Z (k:=1) O) Z ?_;refine Y Z (aw Z (ar.get 1 Z) O Z) Z ?_;refine Y Z (av Z (k:=1) O) Z ?_;refine Y Z (aw Z (ar.get 0 Z) O Z) Z ?_;refine Y Z (ax Z Z Z) Z ?_;refine Y Z (ay Z Z) Z ?_;refine aP Z (aq Z) (fun _=>Z) (fun m=>?_) (fun m=>?_)
  ·refine Y Z (av Z (k:=2) O) Z ?_;refine Y Z (aw Z (ar.get 1 Z) O Z) Z ?_;refine Y Z (av Z (k:=2) O) Z ?_;refine Y Z (aw Z (ar.get 0 Z) O Z) Z ?_;refine Y Z (ax Z Z Z) Z ?_;refine Y Z (ay Z Z) Z ?_;refine aP Z (aq Z) (fun _=>Z) (fun u=>?_) (fun u=>?_)
   ·refine Y Z (av Z (k:=3) O) Z ?_;refine Y Z (aw Z (ar.get 1 Z) O Z) Z ?_;refine Y Z (av Z (k:=3) O) Z ?_;refine Y Z (aw Z (ar.get 0 Z) O Z) Z ?_;refine Y Z (ax Z Z Z) Z ?_;refine Y Z (ay Z Z) Z ?_;refine aP Z (aq Z) (fun _=>Z) (fun w=>?_) (fun w=>?_)
    ·refine Y Z (av Z (k:=4) O) Z ?_;refine Y Z (aw Z (ar.get 1 Z) O Z) Z ?_;refine Y Z (av Z (k:=4) O) Z ?_;refine Y Z (aw Z (ar.get 0 Z) O Z) Z ?_;refine Y Z (ax Z Z Z) Z ?_;refine Y Z (ay Z Z) Z ?_;refine aP Z (aq Z) (fun _=>Z) (fun z=>?_) (fun z=>?_)
     ·refine Y Z (av Z (k:=5) O) Z ?_;refine Y Z (aw Z (ar.get 1 Z) O Z) Z ?_;refine Y Z (av Z (k:=5) O) Z ?_;refine Y Z (aw Z (ar.get 0 Z) O Z) Z ?_;refine bz Z (aV Z Z Z O) (fun _=>Z) (tW A ar B C (fun x y vx vy V L ar hx I=>FR A _ _ x y vx vy hx I V L ar)) (fun V ar=>?_);refine Y Z (ay Z Z) Z ?_;refine Y Z (ak Z) Z ?_;refine af ?_;refine ad ?_;refine aF ?_;exact aB Z Z ⟨by rw[rh];simp only[j,m,u,w,z,Bool.true_and,Bool.false_and],ar.pop.pop⟩
     refine ae Z Z ?_;refine ae Z Z ?_;refine ae Z Z ?_;refine ae Z Z ?_;refine ae Z Z ?_;refine Y Z (ay Z Z) Z ?_;refine Y Z (ak Z) Z ?_;refine af ?_;refine ad ?_;refine aF ?_;exact aB Z Z ⟨by rw[rh];simp only[j,m,u,w,z,Bool.true_and,Bool.false_and],ar.pop.pop⟩
    refine ae Z Z ?_;refine ae Z Z ?_;refine ae Z Z ?_;refine ae Z Z ?_;refine ae Z Z ?_;refine Y Z (ay Z Z) Z ?_;refine Y Z (aq Z) Z ?_;refine ae Z Z ?_;refine ae Z Z ?_;refine ae Z Z ?_;refine ae Z Z ?_;refine ae Z Z ?_;refine Y Z (ay Z Z) Z ?_;refine Y Z (ak Z) Z ?_;refine af ?_;refine ad ?_;refine aF ?_;exact aB Z Z ⟨by rw[rh];simp only[j,m,u,w,Bool.true_and,Bool.false_and],ar.pop.pop⟩
   refine ae Z Z ?_;refine ae Z Z ?_;refine ae Z Z ?_;refine ae Z Z ?_;refine ae Z Z ?_;refine Y Z (ay Z Z) Z ?_;refine Y Z (aq Z) Z ?_;refine ae Z Z ?_;refine ae Z Z ?_;refine ae Z Z ?_;refine ae Z Z ?_;refine ae Z Z ?_;refine Y Z (ay Z Z) Z ?_;refine Y Z (aq Z) Z ?_;refine ae Z Z ?_;refine ae Z Z ?_;refine ae Z Z ?_;refine ae Z Z ?_;refine ae Z Z ?_;refine Y Z (ay Z Z) Z ?_;refine Y Z (ak Z) Z ?_;refine af ?_;refine ad ?_;refine aF ?_;exact aB Z Z ⟨by rw[rh];simp only[j,m,u,Bool.true_and,Bool.false_and],ar.pop.pop⟩
  refine ae Z Z ?_;refine ae Z Z ?_;refine ae Z Z ?_;refine ae Z Z ?_;refine ae Z Z ?_;refine Y Z (ay Z Z) Z ?_;refine Y Z (aq Z) Z ?_;refine ae Z Z ?_;refine ae Z Z ?_;refine ae Z Z ?_;refine ae Z Z ?_;refine ae Z Z ?_;refine Y Z (ay Z Z) Z ?_;refine Y Z (aq Z) Z ?_;refine ae Z Z ?_;refine ae Z Z ?_;refine ae Z Z ?_;refine ae Z Z ?_;refine ae Z Z ?_;refine Y Z (ay Z Z) Z ?_;refine Y Z (aq Z) Z ?_;refine ae Z Z ?_;refine ae Z Z ?_;refine ae Z Z ?_;refine ae Z Z ?_;refine ae Z Z ?_;refine Y Z (ay Z Z) Z ?_;refine Y Z (ak Z) Z ?_;refine af ?_;refine ad ?_;refine aF ?_;exact aB Z Z ⟨by rw[rh];simp only[j,m,Bool.true_and,Bool.false_and],ar.pop.pop⟩
 refine ae Z Z ?_;refine ae Z Z ?_;refine ae Z Z ?_;refine ae Z Z ?_;refine ae Z Z ?_;refine Y Z (ay Z Z) Z ?_;refine Y Z (aq Z) Z ?_;refine ae Z Z ?_;refine ae Z Z ?_;refine ae Z Z ?_;refine ae Z Z ?_;refine ae Z Z ?_;refine Y Z (ay Z Z) Z ?_;refine Y Z (aq Z) Z ?_;refine ae Z Z ?_;refine ae Z Z ?_;refine ae Z Z ?_;refine ae Z Z ?_;refine ae Z Z ?_;refine Y Z (ay Z Z) Z ?_;refine Y Z (aq Z) Z ?_;refine ae Z Z ?_;refine ae Z Z ?_;refine ae Z Z ?_;refine ae Z Z ?_;refine ae Z Z ?_;refine Y Z (ay Z Z) Z ?_;refine Y Z (aq Z) Z ?_;refine ae Z Z ?_;refine ae Z Z ?_;refine ae Z Z ?_;refine ae Z Z ?_;refine ae Z Z ?_;refine Y Z (ay Z Z) Z ?_;refine Y Z (ak Z) Z ?_;refine af ?_;refine ad ?_;refine aF ?_;exact aB Z Z ⟨by rw[rh];simp only[j,Bool.true_and,Bool.false_and],ar.pop.pop⟩
theorem Qd {G:Cx} (m:Plain G) {K:KP} {z A:Nat} {x y:XC} {vx vy:List U} {V:aE} {L:Own} (ar:D V K L) (h:lW K z x vx) (h':lW K A y vy):bu Tryz.prog G 35 [.agg vx,.agg vy] V fun v V'=>v= .bool (bQ x y)/\D V' K L:=by
 have h1:=h;have h1':=h';obtain⟨v1,rfl,u⟩:=h1;obtain⟨v2,rfl,w⟩:=h1';refine bn m Tryz.func35 Z (t:=(PT.leaf.put (some (.agg _)) 0).put (some (.agg _)) 1) (by rfl) ?_;refine al ?_;refine ah Z ?_;refine bG ar Z (cC Z Z) (fun _=>Z) (fun V b1 ar=>?_);refine bG ar Z (cC Z Z) (fun _=>Z) (fun V b2 ar=>?_);refine Y Z (ak Z) Z ?_;refine af ?_;refine ad ?_;refine al ?_;refine ah Z ?_;refine Y Z (av Z (k:=0) O) Z ?_;refine Y Z (aw Z (ar.get 1 Z) O Z) Z ?_;refine Y Z (av Z (k:=0) O) Z ?_;refine Y Z (aw Z (ar.get 0 Z) O Z) Z ?_;refine Y Z (ax Z Z Z) Z ?_;refine aP Z (aq Z) (fun _=>Z) (fun j=>?_) (fun j=>?_)
 ·refine Y Z (av Z (k:=1) O) Z ?_;refine Y Z (aw Z (ar.get 1 Z) O Z) Z ?_;refine Y Z (av Z (k:=1) O) Z ?_;refine Y Z (aw Z (ar.get 0 Z) O Z) Z ?_;refine bz Z (aV Z Z Z O) (fun _=>Z) (Br m ar u w (fun x y vx vy V L ar hx B=>I4 m ar hx B)) (fun V ar=>?_);refine Y Z (ay Z Z) Z ?_;refine Y Z (ak Z) Z ?_;refine af ?_;refine ad ?_;refine aF ?_;exact aB Z Z ⟨by rw[G1];simp only[j,Bool.true_and,Bool.false_and],ar.pop.pop⟩
 refine ae Z Z ?_;refine ae Z Z ?_;refine ae Z Z ?_;refine ae Z Z ?_;refine ae Z Z ?_;refine Y Z (ay Z Z) Z ?_;refine Y Z (ak Z) Z ?_;refine af ?_;refine ad ?_;refine aF ?_;exact aB Z Z ⟨by rw[G1];simp only[j,Bool.true_and,Bool.false_and],ar.pop.pop⟩
end Go.Ev
end
